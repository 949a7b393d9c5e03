/- Several texts in one: CaM CrM CbM ClM CcM XaM PaM PkM PbM PcM XbM XcM EkM EtM XdM XeM EsM AlM XfM VaM XgM Oe5M OpnOe5 CipA CipB CipC Ref2. -/
import Derived.Test.YtjdffpglgkefmaaGreatZc
import Derived.Test.YtjdffpglgkefmaaGreatRows
import Derived.KernelRfl
import Derived.Test.YtjdffpglgkefmaaGreatZb
set_option linter.unusedVariables false
set_option linter.unusedSimpArgs false
section
set_option linter.unusedVariables false
set_option maxRecDepth 100000
namespace Go.Sx
open Go Go.RowKit
structure Qei where
  P : BitVec 64
  Q : BitVec 64
  G : BitVec 64
deriving DecidableEq, Inhabited
def Qei.cs (x : Qei)  : List Value := [wv x.P, wv x.Q, wv x.G]
theorem Qei.cs_ones (x : Qei)   : Qla (Qei.cs x ) = true := by simp only [Qei.cs, List.cons_append, List.nil_append, kb, Qla, Qit, Qgg, Qis, cond_true]
theorem Qei.cs_inj {x y : Qei} (h : Qei.cs x = Qei.cs y) : x = y := by
  have h0 : x.P = y.P := Qvm (congrArg (fun l => l[0]?) h)
  have h1 : x.Q = y.Q := Qvm (congrArg (fun l => l[1]?) h)
  have h2 : x.G = y.G := Qvm (congrArg (fun l => l[2]?) h)
  cases x; cases y; simp only at *; subst h0; subst h1; subst h2; rfl
theorem Qei.ws (l : List Qei) : Ws 3 (l.map Qei.cs) := Qji l (fun _ => rfl) (fun _ => rfl)
structure Qa7 where
  Kind : BitVec 8
  Depth : Int
  Degree : Int
  Group : Qei
deriving DecidableEq, Inhabited
def Qa7.cs (x : Qa7)  : List Value := [bv x.Kind, .int .i64 x.Depth, .int .i64 x.Degree, wv x.Group.P, wv x.Group.Q, wv x.Group.G]
theorem Qa7.cs_ones (x : Qa7)   : Qla (Qa7.cs x ) = true := by simp only [Qa7.cs, List.cons_append, List.nil_append, kb, Qla, Qit, Qgg, Qis, cond_true]
theorem Qa7.cs_inj {x y : Qa7} (h : Qa7.cs x = Qa7.cs y) : x = y := by
  have h0 : x.Kind = y.Kind := Xmc (congrArg (fun l => l[0]?) h)
  have h1 : x.Depth = y.Depth := Qlq (congrArg (fun l => l[1]?) h)
  have h2 : x.Degree = y.Degree := Qlq (congrArg (fun l => l[2]?) h)
  have h3 : x.Group = y.Group := Qei.cs_inj (congrArg (fun l => (l.drop 3).take 3) h)
  cases x; cases y; simp only at *; subst h0; subst h1; subst h2; subst h3; rfl
theorem Qa7.ws (l : List Qa7) : Ws 6 (l.map Qa7.cs) := Qji l (fun _ => rfl) (fun _ => rfl)
structure Qaf where
  Node : Int
  Minus : Int
deriving DecidableEq, Inhabited
def Qaf.cs (x : Qaf)  : List Value := [.int .i64 x.Node, .int .i64 x.Minus]
theorem Qaf.cs_ones (x : Qaf)   : Qla (Qaf.cs x ) = true := by simp only [Qaf.cs, List.cons_append, List.nil_append, kb, Qla, Qit, Qgg, Qis, cond_true]
theorem Qaf.cs_inj {x y : Qaf} (h : Qaf.cs x = Qaf.cs y) : x = y := by
  have h0 : x.Node = y.Node := Qlq (congrArg (fun l => l[0]?) h)
  have h1 : x.Minus = y.Minus := Qlq (congrArg (fun l => l[1]?) h)
  cases x; cases y; simp only at *; subst h0; subst h1; rfl
theorem Qaf.ws (l : List Qaf) : Ws 2 (l.map Qaf.cs) := Qji l (fun _ => rfl) (fun _ => rfl)
structure Qb8 where
  Node : Int
  Minus : Int
  Key : W2
deriving DecidableEq, Inhabited
def Qb8.cs (x : Qb8)  : List Value := [.int .i64 x.Node, .int .i64 x.Minus] ++ (kb x.Key)
theorem Qb8.cs_ones (x : Qb8)   : Qla (Qb8.cs x ) = true := by simp only [Qb8.cs, List.cons_append, List.nil_append, kb, Qla, Qit, Qgg, Qis, cond_true]
theorem Qb8.cs_inj {x y : Qb8} (h : Qb8.cs x = Qb8.cs y) : x = y := by
  have h0 : x.Node = y.Node := Qlq (congrArg (fun l => l[0]?) h)
  have h1 : x.Minus = y.Minus := Qlq (congrArg (fun l => l[1]?) h)
  have h2 : x.Key = y.Key := Qng (congrArg (fun l => (l.drop 2).take 16) h)
  cases x; cases y; simp only at *; subst h0; subst h1; subst h2; rfl
theorem Qb8.ws (l : List Qb8) : Ws 18 (l.map Qb8.cs) := Qji l (fun _ => rfl) (fun _ => rfl)
structure Qah where
  X : BitVec 64
  Y : BitVec 64
deriving DecidableEq, Inhabited
def Qah.cs (x : Qah)  : List Value := [wv x.X, wv x.Y]
theorem Qah.cs_ones (x : Qah)   : Qla (Qah.cs x ) = true := by simp only [Qah.cs, List.cons_append, List.nil_append, kb, Qla, Qit, Qgg, Qis, cond_true]
theorem Qah.cs_inj {x y : Qah} (h : Qah.cs x = Qah.cs y) : x = y := by
  have h0 : x.X = y.X := Qvm (congrArg (fun l => l[0]?) h)
  have h1 : x.Y = y.Y := Qvm (congrArg (fun l => l[1]?) h)
  cases x; cases y; simp only at *; subst h0; subst h1; rfl
theorem Qah.ws (l : List Qah) : Ws 2 (l.map Qah.cs) := Qji l (fun _ => rfl) (fun _ => rfl)
structure Qae where
  Receiver : Int
  Labels : List Qb8
  Share : Qah
deriving DecidableEq, Inhabited
def Qae.cs (x : Qae) (v0 : Value) : List Value := [.int .i64 x.Receiver, v0, wv x.Share.X, wv x.Share.Y]
theorem Qae.cs_ones (x : Qae) (v0 : Value) (h0 : oneB v0 = true) : Qla (Qae.cs x v0) = true := by simp only [Qae.cs, List.cons_append, List.nil_append, kb, Qla, Qit, Qgg, Qis, cond_true, h0]
structure Qcc where
  Subset : Qaf
  Box : W2
deriving DecidableEq, Inhabited
def Qcc.cs (x : Qcc)  : List Value := [.int .i64 x.Subset.Node, .int .i64 x.Subset.Minus] ++ (kb x.Box)
theorem Qcc.cs_ones (x : Qcc)   : Qla (Qcc.cs x ) = true := by simp only [Qcc.cs, List.cons_append, List.nil_append, kb, Qla, Qit, Qgg, Qis, cond_true]
theorem Qcc.cs_inj {x y : Qcc} (h : Qcc.cs x = Qcc.cs y) : x = y := by
  have h0 : x.Subset = y.Subset := Qaf.cs_inj (congrArg (fun l => (l.drop 0).take 2) h)
  have h1 : x.Box = y.Box := Qng (congrArg (fun l => (l.drop 2).take 16) h)
  cases x; cases y; simp only at *; subst h0; subst h1; rfl
theorem Qcc.ws (l : List Qcc) : Ws 18 (l.map Qcc.cs) := Qji l (fun _ => rfl) (fun _ => rfl)
structure Qaa where
  Items : List Qcc
  Base : BitVec 64
  Points : List Qah
  Box : W2
  Check : W2
deriving DecidableEq, Inhabited
def Qaa.cs (x : Qaa) (v0 : Value) (v1 : Value) : List Value := [v0, wv x.Base, v1] ++ (kb x.Box ++ (kb x.Check))
theorem Qaa.cs_ones (x : Qaa) (v0 : Value) (v1 : Value) (h0 : oneB v0 = true) (h1 : oneB v1 = true) : Qla (Qaa.cs x v0 v1) = true := by simp only [Qaa.cs, List.cons_append, List.nil_append, kb, Qla, Qit, Qgg, Qis, cond_true, h0, h1]
structure Qa6 where
  kind : BitVec 8
  depth : Int
  stride : Int
deriving DecidableEq, Inhabited
def Qa6.cs (x : Qa6)  : List Value := [bv x.kind, .int .i64 x.depth, .int .i64 x.stride]
theorem Qa6.cs_ones (x : Qa6)   : Qla (Qa6.cs x ) = true := by simp only [Qa6.cs, List.cons_append, List.nil_append, kb, Qla, Qit, Qgg, Qis, cond_true]
theorem Qa6.cs_inj {x y : Qa6} (h : Qa6.cs x = Qa6.cs y) : x = y := by
  have h0 : x.kind = y.kind := Xmc (congrArg (fun l => l[0]?) h)
  have h1 : x.depth = y.depth := Qlq (congrArg (fun l => l[1]?) h)
  have h2 : x.stride = y.stride := Qlq (congrArg (fun l => l[2]?) h)
  cases x; cases y; simp only at *; subst h0; subst h1; subst h2; rfl
theorem Qa6.ws (l : List Qa6) : Ws 3 (l.map Qa6.cs) := Qji l (fun _ => rfl) (fun _ => rfl)
def Qf9 (p0 : Qa7) (rec2 : (Int) → Option (Qa6 × Bool)) (a3 : Int) : Option (Qa6 × Bool) := (if w64 (a3 * a3) < p0.Depth then (rec2 (w64 (a3 + 1))) else (some ((Qa6.mk p0.Kind p0.Depth a3), true)))
def Qec (p0 : Qa7) (a1 : Bool) : Option (Qa6 × Bool) := (bif a1 then (some ((Qa6.mk 0#8 0 0), false)) else (Qc3 (Qf9 p0) Qcw 1))
def Qjg (p0 : Qa7) : Option (Qa6 × Bool) := (if p0.Kind < 1#8 then (Qec p0 true) else (if 3#8 < p0.Kind then (Qec p0 true) else (if p0.Depth < 0 then (Qec p0 true) else (if (6 : Int) < p0.Depth then (Qec p0 true) else (Qec p0 (decide (p0 ≠ (Qa7.mk p0.Kind p0.Depth 0 (Qei.mk 0#64 0#64 0#64)))))))))
def Qen (p0 : Qa7) : Option (Int) := Option.bind (Qjg p0) fun x1 => ((bif (!x1.2) then (some 30) else (some 0)))
end Go.Sx

end
section
set_option linter.unusedVariables false
set_option maxRecDepth 100000
namespace Go.Sx
open Go Go.RowKit
def Qp1 (p0 : Qa7) : Option (Bool) := (if 1#8 ≤ p0.Kind then (if p0.Kind ≤ 3#8 then (if (0 : Int) ≤ p0.Depth then (if p0.Depth ≤ 6 then (if p0.Degree = 0 then (some (decide (p0.Group = (Qei.mk 0#64 0#64 0#64)))) else (some false)) else (some false)) else (some false)) else (some false)) else (some false))
def Qw9 (p0 : Qa7) : Option (Int) := Option.bind (Qp1 p0) fun x1 => ((bif (!x1) then (some 30) else (some 0)))
end Go.Sx

end
section
set_option linter.unusedVariables false
set_option maxRecDepth 100000
namespace Go.Sx
open Go Go.RowKit
def Qfh (p0 : Qa6) : Option (Int) := Option.bind (shG p0.depth) fun n1 => ((some (Qxk 1 n1)))
def Qhj (p0 : Qa6) (p1 : Int) : Option (Bool) := (if (1 : Int) ≤ p1 then Option.bind (Qfh p0) fun x1 => ((some (decide (p1 < w64 (2 * x1))))) else (some false))
def Qcq (p0 : Int) : Option (Int) := (some (w64 ((lg (un (wd p0))) - 1)))
def Qd0 (p0 : Int) (p1 : Int) (a1 : Bool) : Option (Bool) := (bif a1 then (some false) else Option.bind (Qcq p0) fun x2 => (Option.bind (Qcq p1) fun x3 => (Option.bind (shG (w64 (x2 - x3))) fun n4 => ((some (decide (Xk0 p0 n4 = p1)))))))
def Qbz (p0 : Int) (p1 : Int) : Option (Bool) := (if p0 < 1 then (Qd0 p0 p1 true) else (if p1 < 1 then (Qd0 p0 p1 true) else Option.bind (Qcq p0) fun x5 => (Option.bind (Qcq p1) fun x6 => ((Qd0 p0 p1 (decide (x5 < x6)))))))
def Qcm (p0 : Qa6) (p1 : Int) : Option (Bool) := Option.bind (Qcq p1) fun x1 => (Option.bind (Qwi x1 p0.stride) fun x2 => ((some (decide (x2 = 0)))))
def Qkt (p0 : Int) (p1 : Int) : Option (Int × Int) := (some (p0, p1))
def Qdh (p0 : Int) (p1 : Int) : Option (Int) := Option.bind (Qcq p1) fun x1 => (Option.bind (Qcq p0) fun x2 => (Option.bind (shG (w64 ((w64 (x1 - x2)) - 1))) fun n3 => ((some (Xk0 p1 n3)))))
def Qfd (p2 : Int) (rec1 : (Int) → Option (List Int)) (a2 : Int) : Option (List Int) := (if a2 ≠ p2 then Option.bind (Qdh a2 p2) fun x3 => ((yl x3 ((rec1 x3)))) else (some []))
def Qjn (p1 : Int) (p2 : Int) : Option (List Int) := (Qc3 (Qfd p2) Qcw p1)
def Qbe  (s : Int) : Option (Int) := match s with | a3 => (some 0)
def Qc6  (s : Int) : Option (Int) := match s with | a3 => (some a3)
def Qb3 (p1_0 : Qa6) (e4 : Int) (nx1 : (Int) → Option (Int)) (s : Int) : Option (Int) := match s with | a3 => Option.bind (Qcm p1_0 e4) fun x5 => ((bif x5 then (Qc6 e4) else (nx1 a3)))
def Qbx (p0_0 : Int) (p0_1 : Int) (p1_0 : Qa6) : Option (Int) := Option.bind (Qjn p0_0 p0_1) fun l1 => ((itL (Qb3 p1_0) Qbe l1 0))
def Qe3 (p0 : Qa6) (p1 : Int) (p2 : Int) : Option (Int) := Option.bind (shG (un 1#64)) fun n1 => (Option.bind (Qkt p1 (Xk0 p2 n1)) fun x2 => (Option.bind (Qbx x2.1 x2.2 p0) fun x3 => ((some x3))))
def Qd5 (p0 : Qa6) (p1 : Qaf) (a3 : Bool) : Option (Bool) := (bif a3 then (some false) else (if p0.kind = 2#8 then (some true) else Option.bind (Qcm p0 p1.Node) fun x4 => ((bif x4 then (some true) else Option.bind (Qe3 p0 p1.Node p1.Minus) fun x5 => ((some (decide (x5 = 0))))))))
def Qdr (p0 : Qa6) (p1 : Qaf) (a2 : Bool) : Option (Bool) := (bif a2 then (if p1.Minus = 0 then (if p0.kind = 1#8 then (some true) else (some (decide (p1.Node = 1)))) else (some false)) else Option.bind (Qhj p0 p1.Minus) fun x6 => ((bif (!x6) then (Qd5 p0 p1 true) else (if p1.Minus = p1.Node then (Qd5 p0 p1 true) else Option.bind (Qbz p1.Minus p1.Node) fun x7 => ((Qd5 p0 p1 (!x7)))))))
def Qcj (p0 : Qa6) (p1 : Qaf) : Option (Bool) := Option.bind (Qhj p0 p1.Node) fun x1 => ((bif (!x1) then (some false) else (if p0.kind = 1#8 then (Qdr p0 p1 true) else (Qdr p0 p1 (decide (p1.Minus = 0))))))
def Qf2 (p1 : List Qaf) (x1 : Qa6 × Bool) (rec1 : (Int) → Option (Qa6 × Int)) (a3 : Int) : Option (Qa6 × Int) := (if a3 < (p1.length : Int) then Option.bind (Qg0 p1 a3) fun y4 => (Option.bind (Qcj x1.1 y4) fun x5 => ((bif (!x5) then (some ((Qa6.mk 0#8 0 0), 31)) else (rec1 (w64 (a3 + 1)))))) else (some (x1.1, 0)))
def Qdb (p0 : Qa7) (p1 : List Qaf) : Option (Qa6 × Int) := Option.bind (Qjg p0) fun x1 => ((bif (!x1.2) then (some ((Qa6.mk 0#8 0 0), 30)) else (Qc3 (Qf2 p1 x1) Qcw 0)))
def Qfz (p0 : W2) (p1 : Int) : Option (W2) := (some (drv p0 (un8 30#8) (wd p1)))
def Qhg (a4 : W2) (nx1 : (W2) → Option (W2)) (a6 : BitVec 8) : Option (W2) := (nx1 (drv a4 (un8 a6) 0#64))
def Qhc  (s : W2) : Option (W2) := match s with | a4 => (some a4)
def Qft  (e5 : Int) (nx1 : (W2) → Option (W2)) (s : W2) : Option (W2) := match s with | a4 => Option.bind (Qwi e5 2) fun x7 => ((if x7 = 1 then (Qhg a4 nx1 32#8) else (Qhg a4 nx1 31#8)))
def Qeu (p0 : W2) (p1 : Int) (p2 : Int) : Option (W2) := Option.bind (Qkt p1 p2) fun x1 => (Option.bind (Qjn x1.1 x1.2) fun l2 => ((itL Qft Qhc l2 p0)))
def Qjq (p0 : W2) : Option (W2) := (some (drv p0 (un8 33#8) 0#64))
def Qev (p0 : Qa6) (p1 : W2) (p2 : Qaf) : Option (W2) := (if p0.kind = 1#8 then Option.bind (Qfz p1 p2.Node) fun x1 => ((some x1)) else (if p2.Minus = 0 then (some (drv p1 (un8 34#8) 0#64)) else Option.bind (Qfz p1 p2.Node) fun x2 => (Option.bind (Qeu x2 p2.Node p2.Minus) fun x3 => (Option.bind (Qjq x3) fun x4 => ((some x4))))))
def Qig (p0 : W2) (p2 : List Qaf) (p3 : W2) (x2 : Qa6 × Int) (rec1 : (Int × List Qcc) → Option (Qaa × Int)) (s1 : Int × List Qcc) : Option (Qaa × Int) := match s1 with | (a6, a7) => (if a6 < (p2.length : Int) then Option.bind (Qg0 p2 a6) fun y9 => (Option.bind (Qev x2.1 p0 y9) fun x10 => (Option.bind (Quc 32 a7 [(Qcc.mk y9 (Qw4 x10 p3))]) fun l11 => ((rec1 (w64 (a6 + 1), l11))))) else (some ((Qaa.mk a7 0#64 [] k0 (drv p3 (un8 53#8) 0#64)), 0)))
def Qkq (p0 : W2) (p1 : Qa7) (p2 : List Qaf) (p3 : W2) : Option (Qaa × Int) := Option.bind (Qen p1) fun x1 => ((if x1 ≠ 0 then (some ((Qaa.mk [] 0#64 [] k0 k0), x1)) else (if (64 : Int) < (p2.length : Int) then (some ((Qaa.mk [] 0#64 [] k0 k0), 4)) else Option.bind (Qdb p1 p2) fun x2 => ((if x2.2 ≠ 0 then (some ((Qaa.mk [] 0#64 [] k0 k0), x2.2)) else (Qc3 (Qig p0 p2 p3 x2) Qcw (0, [])))))))
def Qsv (p0 : Int) (rec1 : (Int × Int) → Option (Int)) (s1 : Int × Int) : Option (Int) := match s1 with | (a3, a4) => (if a4 < p0 then (rec1 (w64 (2 * a3), w64 (a4 + 1))) else (some a3))
def Qdq (p0 : Int) : Option (Int) := (Qc3 (Qsv p0) Qcw (1, 0))
def Qqr (p0 : Int) (p1 : Int) : Option (Bool) := (if (1 : Int) ≤ p1 then Option.bind (Qdq p0) fun x1 => ((some (decide (p1 < w64 (2 * x1))))) else (some false))
def Qo3 (p1 : Int) (rec1 : (Int) → Option (Bool)) (a2 : Int) : Option (Bool) := (if p1 < a2 then Option.bind (Qzh a2 2) fun x3 => ((rec1 x3)) else (some (decide (a2 = p1))))
def Qj7 (p0 : Int) (p1 : Int) : Option (Bool) := (Qc3 (Qo3 p1) Qcw p0)
def Qnz  (rec1 : (Int × Int) → Option (Int)) (s1 : Int × Int) : Option (Int) := match s1 with | (a3, a4) => (if (1 : Int) < a3 then Option.bind (Qzh a3 2) fun x5 => ((rec1 (x5, w64 (a4 + 1)))) else (some a4))
def Qs3 (p0 : Int) : Option (Int) := (Qc3 (Qnz) Qcw (p0, 0))
def Qwa (p0 : Int) (rec1 : (Int) → Option (Int)) (a2 : Int) : Option (Int) := (if w64 (a2 * a2) < p0 then (rec1 (w64 (a2 + 1))) else (some a2))
def Qqc (p0 : Int) : Option (Int) := (Qc3 (Qwa p0) Qcw 1)
def Qjt (p0 : Int) (p1 : Int) : Option (Bool) := Option.bind (Qs3 p1) fun x1 => (Option.bind (Qqc p0) fun x2 => (Option.bind (Qwi x1 x2) fun x3 => ((some (decide (x3 = 0))))))
def Qm1 (p0 : Int) (rec1 : (Int × List Int) → Option (List Int)) (s1 : Int × List Int) : Option (List Int) := match s1 with | (a4, a5) => (if a4 ≠ p0 then Option.bind (Quc 8 [a4] a5) fun l7 => (Option.bind (Qzh a4 2) fun x8 => ((rec1 (x8, l7)))) else Option.bind (Quc 8 [p0] a5) fun l9 => ((some l9)))
def Qqu (p0 : Int) (p1 : Int) : Option (List Int) := (Qc3 (Qm1 p0) Qcw (p1, []))
def Qj4 (p0 : Int) (x1 : List Int) (rec1 : (Int) → Option (Int)) (a3 : Int) : Option (Int) := (if a3 < w64 ((x1.length : Int) - 1) then Option.bind (Qg0 x1 a3) fun y4 => (Option.bind (Qjt p0 y4) fun x5 => ((bif x5 then Option.bind (Qg0 x1 a3) fun y6 => ((some y6)) else (rec1 (w64 (a3 + 1)))))) else (some 0))
def Qlv (p0 : Int) (p1 : Int) (p2 : Int) : Option (Int) := Option.bind (Qqu p1 p2) fun x1 => ((Qc3 (Qj4 p0 x1) Qcw 1))
def Qe0 (p0 : Qa7) (p1 : Qaf) (a2 : Bool) : Option (Bool) := (bif a2 then (some false) else (if p0.Kind = 2#8 then (some true) else Option.bind (Qjt p0.Depth p1.Node) fun x3 => ((bif x3 then (some true) else Option.bind (Qlv p0.Depth p1.Node p1.Minus) fun x4 => ((some (decide (x4 = 0))))))))
def Qd9 (p0 : Qa7) (p1 : Qaf) : Option (Bool) := Option.bind (Qqr p0.Depth p1.Node) fun x1 => ((bif (!x1) then (some false) else (if p0.Kind = 1#8 then (some (decide (p1.Minus = 0))) else (if p1.Minus = 0 then (some (decide (p1.Node = 1))) else Option.bind (Qqr p0.Depth p1.Minus) fun x5 => ((bif (!x5) then (Qe0 p0 p1 true) else (if p1.Minus = p1.Node then (Qe0 p0 p1 true) else Option.bind (Qj7 p1.Minus p1.Node) fun x6 => ((Qe0 p0 p1 (!x6))))))))))
def Qtj (p0 : W2) (p1 : Int) : Option (W2) := Option.bind (Qwi p1 2) fun x1 => ((if x1 = 0 then (some (drv p0 (un8 31#8) 0#64)) else (some (drv p0 (un8 32#8) 0#64))))
def Qm5 (x1 : List Int) (rec1 : (Int × W2) → Option (W2)) (s1 : Int × W2) : Option (W2) := match s1 with | (a4, a5) => (if a4 < (x1.length : Int) then Option.bind (Qg0 x1 a4) fun y6 => (Option.bind (Qtj a5 y6) fun x7 => ((rec1 (w64 (a4 + 1), x7)))) else (some a5))
def Qoi (p0 : W2) (p1 : Int) (p2 : Int) : Option (W2) := Option.bind (Qqu p1 p2) fun x1 => ((Qc3 (Qm5 x1) Qcw (1, p0)))
def Qmh (p0 : W2) (p1 : Int) (p2 : Int) : Option (W2) := Option.bind (Qoi (drv p0 (un8 30#8) (wd p1)) p1 p2) fun x1 => ((some x1))
def Qro (p0 : W2) (p1 : Qa7) (p2 : Qaf) : Option (W2) := (if p1.Kind = 1#8 then (some (drv p0 (un8 30#8) (wd p2.Node))) else (if p2.Minus = 0 then (some (drv p0 (un8 34#8) 0#64)) else Option.bind (Qmh p0 p2.Node p2.Minus) fun x1 => ((some (drv x1 (un8 33#8) 0#64)))))
def Qn7 (p0 : Qcc) (p1 : Qa6) : Option (Bool) := Option.bind (Qcj p1 p0.Subset) fun x1 => ((some (!x1)))
def Qb9 (p0 : List Qcc) (p1_0 : Qa6) (rec1 : (Int) → Option (Int)) (a2 : Int) : Option (Int) := (if a2 < (p0.length : Int) then Option.bind (Qg0 p0 a2) fun y3 => (Option.bind (Qn7 y3 p1_0) fun x4 => ((bif x4 then (some a2) else (rec1 (w64 (a2 + 1)))))) else (some (-1)))
def Qct (p0 : List Qcc) (p1_0 : Qa6) : Option (Int) := (Qc3 (Qb9 p0 p1_0) Qcw 0)
def Qbw (p0 : List Qcc) (p1_0 : Qa6) : Option (Bool) := Option.bind (Qct p0 p1_0) fun x1 => ((some (decide ((0 : Int) ≤ x1))))
def Qcp (p1 : Qb8) (p2 : Qaf) (a1 : Bool) : Option (Bool) := (bif a1 then (some (decide (p1.Minus = p2.Minus))) else Option.bind (Qbz p1.Minus p1.Node) fun x2 => ((bif x2 then Option.bind (Qbz p2.Minus p1.Minus) fun x3 => ((some x3)) else (some false))))
def Qel (p0 : Qa6) (p1 : Qb8) (p2 : Qaf) : Option (Bool) := (if p1.Node ≠ p2.Node then (some false) else (if p0.kind = 1#8 then (Qcp p1 p2 true) else (Qcp p1 p2 (decide (p2.Minus = 0)))))
def Qej (p2 : Qaf) (y3 : Qb8) (a5 : Bool) : Option (W2 × Bool) := (bif a5 then (some (y3.Key, true)) else Option.bind (Qeu y3.Key y3.Minus p2.Minus) fun x6 => (Option.bind (Qjq x6) fun x7 => ((some (x7, true)))))
def Qcl (p0 : Qa6) (p1 : Qae) (p2 : Qaf) (rec1 : (Int) → Option (W2 × Bool)) (a2 : Int) : Option (W2 × Bool) := (if a2 < (p1.Labels.length : Int) then Option.bind (Qg0 p1.Labels a2) fun y3 => (Option.bind (Qel p0 y3 p2) fun x4 => ((bif (!x4) then (rec1 (w64 (a2 + 1))) else (if p0.kind = 1#8 then (Qej p2 y3 true) else (Qej p2 y3 (decide (p2.Minus = 0))))))) else (some (k0, false)))
def Qi4 (p0 : Qa6) (p1 : Qae) (p2 : Qaf) : Option (W2 × Bool) := (Qc3 (Qcl p0 p1 p2) Qcw 0)
def Qh4 (p1 : Qae) (p2 : Qaa) (x1 : Qa6 × Int) (rec2 : (Int) → Option (W2 × Int)) (a4 : Int) : Option (W2 × Int) := (if a4 < (p2.Items.length : Int) then Option.bind (Qg0 p2.Items a4) fun y5 => (Option.bind (Qi4 x1.1 p1 y5.Subset) fun x6 => ((bif x6.2 then (if drv (Xet x6.1 y5.Box) (un8 53#8) 0#64 = p2.Check then (some (Xet x6.1 y5.Box, 0)) else (rec2 (w64 (a4 + 1)))) else (rec2 (w64 (a4 + 1)))))) else (some (k0, 6)))
def Qg1 (p1 : Qae) (p2 : Qaa) (x1 : Qa6 × Int) (a2 : Bool) : Option (W2 × Int) := (bif a2 then (some (k0, 8)) else (Qc3 (Qh4 p1 p2 x1) Qcw 0))
def Qmc (p0 : Qa7) (p1 : Qae) (p2 : Qaa) : Option (W2 × Int) := Option.bind (Qdb p0 ([] : List Qaf)) fun x1 => ((if x1.2 ≠ 0 then (some (k0, x1.2)) else (if (64 : Int) < (p2.Items.length : Int) then (Qg1 p1 p2 x1 true) else (if p2.Base ≠ 0#64 then (Qg1 p1 p2 x1 true) else (if (0 : Int) < (p2.Points.length : Int) then (Qg1 p1 p2 x1 true) else (if p2.Box ≠ k0 then (Qg1 p1 p2 x1 true) else Option.bind (Qbw p2.Items x1.1) fun x7 => ((Qg1 p1 p2 x1 x7))))))))
def Qew (p1 : Int) (p2 : Int) (p3 : Qaf) (a1 : Bool) : Option (Bool) := (bif a1 then (if p1 = p3.Node then (some (decide (p2 = p3.Minus))) else (some false)) else (if p1 = p3.Node then (if (1 : Int) ≤ p2 then Option.bind (Qj7 p2 p1) fun x2 => ((bif x2 then Option.bind (Qj7 p3.Minus p2) fun x3 => ((some x3)) else (some false))) else (some false)) else (some false)))
def Qmx (p0 : Qa7) (p1 : Int) (p2 : Int) (p3 : Qaf) : Option (Bool) := (if p0.Kind = 1#8 then (Qew p1 p2 p3 true) else (Qew p1 p2 p3 (decide (p3.Minus = 0))))
def Qo1 (p2 : Qaf) (y3 : Qb8) (a5 : Bool) : Option (W2 × Bool) := (bif a5 then (some (y3.Key, true)) else Option.bind (Qoi y3.Key y3.Minus p2.Minus) fun x6 => ((some (drv x6 (un8 33#8) 0#64, true))))
def Qnn (p0 : Qa7) (p1 : Qae) (p2 : Qaf) (rec1 : (Int) → Option (W2 × Bool)) (a2 : Int) : Option (W2 × Bool) := (if a2 < (p1.Labels.length : Int) then Option.bind (Qg0 p1.Labels a2) fun y3 => (Option.bind (Qmx p0 y3.Node y3.Minus p2) fun x4 => ((bif (!x4) then (rec1 (w64 (a2 + 1))) else (if p0.Kind = 1#8 then (Qo1 p2 y3 true) else (Qo1 p2 y3 (decide (p2.Minus = 0))))))) else (some (k0, false)))
def Qg5 (p0 : List (BitVec 8)) (rec1 : (BitVec 64 × Int) → Option (BitVec 64)) (s1 : BitVec 64 × Int) : Option (BitVec 64) := match s1 with | (a3, a4) => (if a4 < (p0.length : Int) then Option.bind (Qg0 p0 a4) fun y5 => ((rec1 ((256#64 * a3) + (y5.setWidth 64), w64 (a4 + 1)))) else (some a3))
def Qmi (p0 : List (BitVec 8)) : Option (BitVec 64) := (Qc3 (Qg5 p0) Qcw (0#64, 0))
def Qvt (p0 : W2) : Option (BitVec 64 × BitVec 64) := Option.bind (Qmi (((kby p0).take 8).drop 0)) fun x1 => (Option.bind (Qmi (((kby p0).take 16).drop 8)) fun x2 => ((some (x1, x2))))
end Go.Sx

end
section
set_option linter.unusedVariables false
set_option maxRecDepth 100000
namespace Go.Sx
open Go Go.RowKit
def Qdd (p0 : Qa6) (p1 : Int) : Option (Bool) := (if (0 : Int) ≤ p1 then Option.bind (Qfh p0) fun x1 => ((some (decide (p1 < x1)))) else (some false))
def Qii (p0 : Qa6) (p1 : Int) : Option (Qa6 × Int) := (some (p0, p1))
def Qff (p0 : Qa6) (p1 : Int) : Option (Int) := Option.bind (Qfh p0) fun x1 => ((some (w64 (x1 + p1))))
def Qd6 (p0 : Int) : Option (Int) := (some (Xpb .xor p0 1))
def Qfm (x1 : Int) (a2 : Int) (rec1 : (Int) → Option (List (Int × Int))) (s : Unit) : Option (List (Int × Int)) := Option.bind (Qdh a2 x1) fun x10 => ((rec1 x10))
def Qfn (p1 : Qa6) (a2 : Int) (e7 : Int) (nx2 : Unit → Option (List (Int × Int))) (s : Unit) : Option (List (Int × Int)) := Option.bind (Qd6 e7) fun x8 => (Option.bind (Qcj p1 (Qaf.mk a2 x8)) fun x9 => ((bif x9 then (yl (a2, x8) ((nx2 ()))) else (nx2 ()))))
def Qfk (p1 : Qa6) (x1 : Int) (rec1 : (Int) → Option (List (Int × Int))) (a2 : Int) : Option (List (Int × Int)) := (if a2 ≠ x1 then (if p1.kind = 1#8 then Option.bind (Qdh a2 x1) fun x3 => ((yl (x3, 0) (Option.bind (Qdh a2 x1) fun x4 => ((rec1 x4))))) else Option.bind (Qkt a2 x1) fun x5 => (Option.bind (Qjn x5.1 x5.2) fun l6 => ((itL (Qfn p1 a2) (Qfm x1 a2 rec1) l6 ())))) else (some []))
def Qf8 (p1 : Qa6) (p2 : Int) : Option (List (Int × Int)) := Option.bind (Qff p1 p2) fun x1 => ((yl (1, 0) ((Qc3 (Qfk p1 x1) Qcw 1))))
def Qhy (a7 : List Qb8) (nx1 : (List Qb8) → Option (Qae × Int)) (e9 : Int) (e10 : Int) (a11 : W2) : Option (Qae × Int) := Option.bind (Quc 32 a7 [(Qb8.mk e9 e10 a11)]) fun l12 => ((nx1 l12))
def Qgn (p2 : Int) (s : List Qb8) : Option (Qae × Int) := match s with | a7 => (some ((Qae.mk p2 a7 (Qah.mk 0#64 0#64)), 0))
def Qgp (p0 : W2) (x1 : Qa6 × Int) (ee : Int × Int) (nx1 : (List Qb8) → Option (Qae × Int)) (s : List Qb8) : Option (Qae × Int) := match ee with | (e9, e10) => match s with | a7 => (if e10 = 0 then Option.bind (Qev x1.1 p0 (Qaf.mk e9 0)) fun x13 => ((Qhy a7 nx1 e9 e10 x13)) else Option.bind (Qfz p0 e9) fun x14 => (Option.bind (Qeu x14 e9 e10) fun x15 => ((Qhy a7 nx1 e9 e10 x15))))
def Ql5 (p0 : W2) (p1 : Qa7) (p2 : Int) : Option (Qae × Int) := Option.bind (Qdb p1 ([] : List Qaf)) fun x1 => ((if x1.2 ≠ 0 then (some ((Qae.mk 0 [] (Qah.mk 0#64 0#64)), x1.2)) else Option.bind (Qdd x1.1 p2) fun x2 => ((bif (!x2) then (some ((Qae.mk 0 [] (Qah.mk 0#64 0#64)), 2)) else Option.bind (Qii x1.1 p2) fun x3 => (Option.bind (Qf8 x3.1 x3.2) fun l4 => ((itL (Qgp p0 x1) (Qgn p2) l4 [])))))))
def Qns (p0 : Int) (p1 : Int) : Option (Bool) := (if (0 : Int) ≤ p1 then Option.bind (Qdq p0) fun x1 => ((some (decide (p1 < x1)))) else (some false))
def Qtb (x2 : List Int) (rec1 : (List Qaf × Int) → Option (List Qaf)) (s1 : List Qaf × Int) : Option (List Qaf) := match s1 with | (a6, a8) => (if a8 < (x2.length : Int) then Option.bind (Qg0 x2 a8) fun y9 => (Option.bind (Quc 16 a6 [(Qaf.mk y9 0)]) fun l10 => ((rec1 (l10, w64 (a8 + 1))))) else (some a6))
def Qte (p0 : Qa7) (x2 : List Int) (a17 : Int) (rec2 : (List Qaf × Int) → Option (List Qaf)) (rec3 : (List Qaf × Int) → Option (List Qaf)) (s3 : List Qaf × Int) : Option (List Qaf) := match s3 with | (a21, a23) => (if a23 < (x2.length : Int) then Option.bind (Qg0 x2 a17) fun y24 => (Option.bind (Qg0 x2 a23) fun y25 => (Option.bind (Qd9 p0 (Qaf.mk y24 (Xpb .xor y25 1))) fun x26 => ((bif x26 then Option.bind (Quc 16 a21 [(Qaf.mk y24 (Xpb .xor y25 1))]) fun l27 => ((rec3 (l27, w64 (a23 + 1)))) else (rec3 (a21, w64 (a23 + 1))))))) else (rec2 (a21, w64 (a17 + 1))))
def Qtl (p0 : Qa7) (x2 : List Int) (rec2 : (List Qaf × Int) → Option (List Qaf)) (s2 : List Qaf × Int) : Option (List Qaf) := match s2 with | (a15, a17) => (if a17 < (x2.length : Int) then (Qc3 (Qte p0 x2 a17 rec2) Qcw (a15, w64 (a17 + 1))) else (some a15))
def Qo0 (p0 : Qa7) (p1 : Int) : Option (List Qaf) := Option.bind (Qdq p0.Depth) fun x1 => (Option.bind (Qqu 1 (w64 (x1 + p1))) fun x2 => ((if p0.Kind = 1#8 then (Qc3 (Qtb x2) Qcw ([], 0)) else Option.bind (Quc 16 [] [(Qaf.mk 1 0)]) fun l11 => ((Qc3 (Qtl p0 x2) Qcw (l11, 0))))))
def Qkg (x1 : List Qaf) (a5 : Int) (a6 : List Qb8) (rec1 : (Int × List Qb8) → Option (Qae)) (a10 : W2) : Option (Qae) := Option.bind (Qg0 x1 a5) fun y11 => (Option.bind (Qg0 x1 a5) fun y12 => (Option.bind (Quc 32 a6 [(Qb8.mk y11.Node y12.Minus a10)]) fun l13 => ((rec1 (w64 (a5 + 1), l13)))))
def Qoh (p0 : W2) (x1 : List Qaf) (a5 : Int) (a6 : List Qb8) (rec1 : (Int × List Qb8) → Option (Qae)) (a9 : W2) : Option (Qae) := Option.bind (Qg0 x1 a5) fun y14 => ((if y14.Minus ≠ 0 then Option.bind (Qg0 x1 a5) fun y15 => (Option.bind (Qg0 x1 a5) fun y16 => (Option.bind (Qmh p0 y15.Node y16.Minus) fun x17 => ((Qkg x1 a5 a6 rec1 x17)))) else (Qkg x1 a5 a6 rec1 a9)))
def Qgm (p0 : W2) (p1 : Qa7) (p2 : Int) (x1 : List Qaf) (rec1 : (Int × List Qb8) → Option (Qae)) (s1 : Int × List Qb8) : Option (Qae) := match s1 with | (a5, a6) => (if a5 < (x1.length : Int) then Option.bind (Qg0 x1 a5) fun y18 => (Option.bind (Qro p0 p1 y18) fun x19 => ((Qoh p0 x1 a5 a6 rec1 x19))) else (some (Qae.mk p2 a6 (Qah.mk 0#64 0#64))))
def Qrb (p0 : W2) (p1 : Qa7) (p2 : Int) : Option (Qae) := Option.bind (Qo0 p1 p2) fun x1 => ((Qc3 (Qgm p0 p1 p2 x1) Qcw (0, [])))
def Qu9 (p0 : W2) (p1 : Qa7) (p2 : Int) : Option (Qae × Int) := Option.bind (Qp1 p1) fun x1 => ((bif (!x1) then (some ((Qae.mk 0 [] (Qah.mk 0#64 0#64)), 30)) else Option.bind (Qns p1.Depth p2) fun x2 => ((bif (!x2) then (some ((Qae.mk 0 [] (Qah.mk 0#64 0#64)), 2)) else Option.bind (Qrb p0 p1 p2) fun x3 => ((some (x3, 0)))))))
end Go.Sx

end
section
set_option linter.unusedVariables false
set_option maxRecDepth 100000
namespace Go.Sx
open Go Go.RowKit
noncomputable section
def Qef (a2 : Int) (rec1 : (Int) → Option (Bool)) (a4 : Bool) : Option (Bool) := (bif a4 then (some false) else (rec1 (w64 (a2 + 1))))
def Qdm (p0 : Qa6) (p1 : List Int) (rec1 : (Int) → Option (Bool)) (a2 : Int) : Option (Bool) := (if a2 < (p1.length : Int) then Option.bind (Qg0 p1 a2) fun y3 => (Option.bind (Qdd p0 y3) fun x5 => ((bif (!x5) then (Qef a2 rec1 true) else (if (0 : Int) < a2 then Option.bind (Qg0 p1 (w64 (a2 - 1))) fun y6 => ((Qef a2 rec1 (decide (y3 ≤ y6)))) else (Qef a2 rec1 false))))) else (some true))
def Qgq (p0 : Qa6) (p1 : List Int) : Option (Bool) := (Qc3 (Qdm p0 p1) Qcw 0)
def Qgy (p0 : Int) (p1 : Int) (p2 : List Qaf) : Option (List Qaf) := Option.bind (Quc 16 p2 [(Qaf.mk p0 p1)]) fun l1 => ((some l1))
def Qg9 (a5 : Int) (rec1 : (Int × List Int) → Option (List Qaf × Int)) (rec2 : (Int × List Int) → Option (List Qaf × Int)) (s2 : Int × List Int) : Option (List Qaf × Int) := match s2 with | (a11, a12) => (if (0 : Int) < a11 then Option.bind (shG (un 1#64)) fun n13 => ((rec2 (Xk0 a11 n13, Xcb a12 a11))) else (rec1 (w64 (a5 + 1), a12)))
def Qhl (a16 : List Qaf) (nx3 : (List Qaf) → Option (List Qaf × Int)) (k18 : Int) (a20 : Bool) : Option (List Qaf × Int) := (bif a20 then Option.bind (Qd6 k18) fun x21 => (Option.bind (Qgy x21 0 a16) fun x22 => ((nx3 x22))) else (nx3 a16))
def Qho (nx3 : (List Qaf) → Option (List Qaf × Int)) (a26 : Int) (a27 : Int) (a28 : List Qaf) : Option (List Qaf × Int) := Option.bind (Qgy a27 a26 a28) fun x30 => ((nx3 x30))
def Qd1 (a16 : List Qaf) (nx3 : (List Qaf) → Option (List Qaf × Int)) (k18 : Int) (a26 : Int) (x31 : Int) (a32 : Bool) : Option (List Qaf × Int) := (bif a32 then Option.bind (Qgy k18 x31 a16) fun x33 => ((Qho nx3 a26 x31 x33)) else (Qho nx3 a26 k18 a16))
def Qe6 (x1 : Qa6 × Int) (a6 : List Int) (a16 : List Qaf) (nx3 : (List Qaf) → Option (List Qaf × Int)) (k18 : Int) (rec6 : (Int) → Option (List Qaf × Int)) (a26 : Int) : Option (List Qaf × Int) := (bif ((decide ((w64 (2 * a26)) ∈ a6)) != (decide ((w64 ((w64 (2 * a26)) + 1)) ∈ a6))) then (if ¬ ((w64 (a26 * 2)) ∈ a6) then (rec6 (w64 ((w64 (a26 * 2)) + 1))) else (rec6 (w64 (a26 * 2)))) else (if a26 = k18 then (nx3 a16) else Option.bind (Qe3 x1.1 k18 a26) fun x31 => ((if x31 ≠ 0 then (if x1.1.kind = 3#8 then Option.bind (Qcm x1.1 k18) fun x34 => ((Qd1 a16 nx3 k18 a26 x31 (!x34))) else (Qd1 a16 nx3 k18 a26 x31 false)) else (Qd1 a16 nx3 k18 a26 x31 false)))))
def Qf1 (x1 : Qa6 × Int) (a6 : List Int) (a16 : List Qaf) (nx3 : (List Qaf) → Option (List Qaf × Int)) (k18 : Int) (a24 : Bool) : Option (List Qaf × Int) := (bif a24 then (nx3 a16) else (Qc3 (Qe6 x1 a6 a16 nx3 k18) Qcw k18))
def Qga  (a16 : List Qaf) : Option (List Qaf × Int) := Option.bind (Xc6 Qaf.Node a16) fun l19 => ((some (l19, 0)))
def Qex (x1 : Qa6 × Int) (a6 : List Int) (k18 : Int) (nx3 : (List Qaf) → Option (List Qaf × Int)) (a16 : List Qaf) : Option (List Qaf × Int) := (if x1.1.kind = 1#8 then (if (1 : Int) < k18 then Option.bind (Qd6 k18) fun x23 => ((Qhl a16 nx3 k18 (decide (¬ (x23 ∈ a6))))) else (Qhl a16 nx3 k18 false)) else (if (1 : Int) < k18 then Option.bind (Qd6 k18) fun x35 => ((Qf1 x1 a6 a16 nx3 k18 (decide (¬ (x35 ∈ a6))))) else (Qf1 x1 a6 a16 nx3 k18 false)))
def Qg3 (p1 : List Int) (x1 : Qa6 × Int) (rec1 : (Int × List Int) → Option (List Qaf × Int)) (s1 : Int × List Int) : Option (List Qaf × Int) := match s1 with | (a5, a6) => (if a5 < (p1.length : Int) then Option.bind (Qg0 p1 a5) fun y7 => (Option.bind (Qff x1.1 y7) fun x8 => ((Qc3 (Qg9 a5 rec1) Qcw (x8, a6)))) else (Xbq (Qex x1 a6) Qga Qcw a6 []))
def Qko (p0 : Qa7) (p1 : List Int) : Option (List Qaf × Int) := Option.bind (Qdb p0 ([] : List Qaf)) fun x1 => ((if x1.2 ≠ 0 then (some ([], x1.2)) else Option.bind (Qgq x1.1 p1) fun x2 => ((bif (!x2) then (some ([], 2)) else (if (p1.length : Int) = 0 then (some ([(Qaf.mk 1 0)], 0)) else (Qc3 (Qg3 p1 x1) Qcw (0, [])))))))
end
end Go.Sx

end
section

end
section
set_option linter.unusedVariables false
set_option maxRecDepth 100000
namespace Go.Sx
open Go Go.RowKit
noncomputable section
structure Qb0 where
  x : BitVec 64
  y : BitVec 64
deriving DecidableEq, Inhabited
def Qb0.cs (x : Qb0)  : List Value := [wv x.x, wv x.y]
theorem Qb0.cs_ones (x : Qb0)   : Qla (Qb0.cs x ) = true := by simp only [Qb0.cs, List.cons_append, List.nil_append, kb, Qla, Qit, Qgg, Qis, cond_true]
theorem Qb0.cs_inj {x y : Qb0} (h : Qb0.cs x = Qb0.cs y) : x = y := by
  have h0 : x.x = y.x := Qvm (congrArg (fun l => l[0]?) h)
  have h1 : x.y = y.y := Qvm (congrArg (fun l => l[1]?) h)
  cases x; cases y; simp only at *; subst h0; subst h1; rfl
theorem Qb0.ws (l : List Qb0) : Ws 2 (l.map Qb0.cs) := Qji l (fun _ => rfl) (fun _ => rfl)
def Qhx (p0 : BitVec 64) (rec2 : (BitVec 64) → Option (Bool)) (a3 : BitVec 64) : Option (Bool) := (if a3 * a3 ≤ p0 then Option.bind (Qqy p0 a3) fun x4 => ((if x4 = 0#64 then (some false) else (rec2 (a3 + 1#64)))) else (some true))
def Qie (p0 : BitVec 64) (a1 : Bool) : Option (Bool) := (bif a1 then (some false) else (Qc3 (Qhx p0) Qcw 2#64))
def Qjk (p0 : BitVec 64) : Option (Bool) := (if p0 < 2#64 then (Qie p0 true) else (Qie p0 (decide (1048575#64 < p0))))
def Qfa (p2 : BitVec 64) (rec1 : (BitVec 64 × BitVec 64 × BitVec 64) → Option (BitVec 64)) (s1 : BitVec 64 × BitVec 64 × BitVec 64) : Option (BitVec 64) := match s1 with | (a6, a7, a8) => (if 0#64 < a7 then (if a7 &&& 1#64 = 1#64 then Option.bind (Qqy (a8 * a6) p2) fun x9 => (Option.bind (Qqy (a6 * a6) p2) fun x10 => (Option.bind (shG (un 1#64)) fun n11 => ((rec1 (x10, a7 >>> n11, x9))))) else Option.bind (Qqy (a6 * a6) p2) fun x12 => (Option.bind (shG (un 1#64)) fun n13 => ((rec1 (x12, a7 >>> n13, a8))))) else (some a8))
def Qjp (p0 : BitVec 64) (p1 : BitVec 64) (p2 : BitVec 64) : Option (BitVec 64) := Option.bind (Qqy 1#64 p2) fun x1 => (Option.bind (Qqy p0 p2) fun x2 => ((Qc3 (Qfa p2) Qcw (x2, p1, x1))))
def Qcg (a1 : Bool) : Option (Int) := (bif a1 then (some 13) else (some 0))
def Qgl (p0 : Qei) : Option (Int) := Option.bind (Qjk p0.P) fun x2 => ((bif (!x2) then (Qcg true) else Option.bind (Qjk p0.Q) fun x3 => ((bif (!x3) then (Qcg true) else Option.bind (Qqy (p0.P - 1#64) p0.Q) fun x4 => ((if x4 ≠ 0#64 then (Qcg true) else (if p0.G < 2#64 then (Qcg true) else (if p0.P ≤ p0.G then (Qcg true) else Option.bind (Qjp p0.G p0.Q p0.P) fun x5 => ((Qcg (decide (x5 ≠ 1#64))))))))))))
def Qd8 (p0 : Qa7) : Option (Bool) := (if p0.Kind = 4#8 then (if (0 : Int) ≤ p0.Depth then (if p0.Depth ≤ 6 then (if (1 : Int) ≤ p0.Degree then (if p0.Degree ≤ 8 then Option.bind (Qgl p0.Group) fun x1 => ((if x1 = 0 then Option.bind (shG p0.Depth) fun n2 => ((some (decide (wd (w64 ((Qxk 1 n2) + p0.Degree)) < p0.Group.Q)))) else (some false))) else (some false)) else (some false)) else (some false)) else (some false)) else (some false))
def Qf6 (p0 : W2) (rec1 : (Int × BitVec 64 × BitVec 64) → Option (Qb0)) (s1 : Int × BitVec 64 × BitVec 64) : Option (Qb0) := match s1 with | (a4, a5, a6) => (if a4 < 8 then Option.bind (shG (un 8#64)) fun n7 => (Option.bind (Qg0 (kby p0) a4) fun y8 => (Option.bind (shG (un 8#64)) fun n9 => (Option.bind (Qg0 (kby p0) (w64 (8 + a4))) fun y10 => ((rec1 (w64 (a4 + 1), (a5 <<< n7) ||| (y8.setWidth 64), (a6 <<< n9) ||| (y10.setWidth 64))))))) else (some (Qb0.mk a5 a6)))
def Qhn (p0 : W2) : Option (Qb0) := (Qc3 (Qf6 p0) Qcw (0, 0#64, 0#64))
def Qh3 (p0 : W2) (p1 : BitVec 64) (p2 : BitVec 64) : Option (BitVec 64) := (if p2 = 0#64 then (some 0#64) else Option.bind (Qhn (drv p0 (un8 3#8) p1)) fun x1 => (Option.bind (Qqy x1.x p2) fun x2 => ((some x2))))
def Qhk (p0 : W2) (p1 : Qa7) (l1 : List (BitVec 64)) (rec1 : (List (BitVec 64) × Int) → Option (List (BitVec 64))) (s1 : List (BitVec 64) × Int) : Option (List (BitVec 64)) := match s1 with | (a5, a7) => (if a7 < (l1.length : Int) then Option.bind (Qh3 (drv p0 (un8 40#8) 0#64) (wd a7) p1.Group.Q) fun x8 => (Option.bind (Qg0 a5 a7) fun y9 => ((rec1 (a5.set a7.toNat x8, w64 (a7 + 1))))) else (some a5))
def Qi2 (p0 : W2) (p1 : Qa7) : Option (List (BitVec 64)) := Option.bind (mkL 8 (w64 (p1.Degree + 1)) 0#64) fun l1 => ((Qc3 (Qhk p0 p1 l1) Qcw (l1, 0)))
def Qgh (p0 : List (BitVec 64)) : Option (List (BitVec 64)) := (some p0)
def Qc9 (p1 : List (BitVec 64)) (rec1 : (Int) → Option (List (Int × BitVec 64))) (a2 : Int) : Option (List (Int × BitVec 64)) := (if (0 : Int) ≤ a2 then Option.bind (Qg0 p1 a2) fun y3 => ((yl (a2, y3) ((rec1 (w64 (a2 - 1)))))) else (some []))
def Qfl (p1 : List (BitVec 64)) : Option (List (Int × BitVec 64)) := (Qc3 (Qc9 p1) Qcw (w64 ((p1.length : Int) - 1)))
def Qe2 (p0 : BitVec 64) (p1 : List (BitVec 64)) (rec1 : (BitVec 64 × Int) → Option (BitVec 64)) (s1 : BitVec 64 × Int) : Option (BitVec 64) := match s1 with | (a3, a4) => (if a4 < (p1.length : Int) then Option.bind (Qg0 p1 a4) fun y5 => (Option.bind (Qqy (a3 * y5) p0) fun x6 => ((rec1 (x6, w64 (a4 + 1))))) else (some a3))
def Qdl (p0 : BitVec 64) (p1 : List (BitVec 64)) : Option (BitVec 64) := (Qc3 (Qe2 p0 p1) Qcw (1#64, 0))
def Qe7  (s : BitVec 64) : Option (BitVec 64) := match s with | a4 => (some a4)
def Qde (p1 : BitVec 64) (p2 : BitVec 64) (ee : Int × BitVec 64) (nx1 : (BitVec 64) → Option (BitVec 64)) (s : BitVec 64) : Option (BitVec 64) := match ee with | (e5, e6) => match s with | a4 => Option.bind (Qdl p1 [a4, p2]) fun x7 => (Option.bind (Qqy (x7 + e6) p1) fun x8 => ((nx1 x8)))
def Qek (p0 : List (BitVec 64)) (p1 : BitVec 64) (p2 : BitVec 64) : Option (BitVec 64) := Option.bind (Qgh p0) fun x1 => (Option.bind (Qfl x1) fun l2 => ((itL (Qde p1 p2) Qe7 l2 0#64)))
def Qg4 (p0 : W2) (p1 : Qa7) (p2 : Int) (a2 : Bool) : Option (Qae × Int) := (bif a2 then (some ((Qae.mk 0 [] (Qah.mk 0#64 0#64)), 2)) else Option.bind (Qi2 p0 p1) fun x3 => (Option.bind (Qek x3 p1.Group.Q ((wd p2) + 1#64)) fun x4 => ((some ((Qae.mk p2 [] (Qah.mk ((wd p2) + 1#64) x4)), 0)))))
def Qh0 (p0 : W2) (p1 : Qa7) (p2 : Int) : Option (Qae × Int) := Option.bind (Qd8 p1) fun x1 => ((bif (!x1) then (some ((Qae.mk 0 [] (Qah.mk 0#64 0#64)), 30)) else (if p2 < 0 then (Qg4 p0 p1 p2 true) else Option.bind (shG p1.Depth) fun n5 => ((Qg4 p0 p1 p2 (decide (Qxk 1 n5 ≤ p2)))))))
def Qpn (p0 : BitVec 64) (rec1 : (BitVec 64) → Option (Bool)) (a2 : BitVec 64) : Option (Bool) := (if a2 * a2 ≤ p0 then Option.bind (Qqy p0 a2) fun x3 => ((if x3 = 0#64 then (some false) else (rec1 (a2 + 1#64)))) else (some (decide (2#64 ≤ p0))))
def Qp0 (p0 : BitVec 64) : Option (Bool) := (Qc3 (Qpn p0) Qcw 2#64)
def Qnw (p2 : BitVec 64) (a6 : BitVec 64) (a8 : BitVec 64) (rec1 : (BitVec 64 × BitVec 64 × BitVec 64) → Option (BitVec 64)) (a9 : BitVec 64) : Option (BitVec 64) := Option.bind (Qqy (a8 * a8) p2) fun x10 => (Option.bind (Xt9 a6 2#64) fun x11 => ((rec1 (x11, a9, x10))))
def Ql2 (p2 : BitVec 64) (rec1 : (BitVec 64 × BitVec 64 × BitVec 64) → Option (BitVec 64)) (s1 : BitVec 64 × BitVec 64 × BitVec 64) : Option (BitVec 64) := match s1 with | (a6, a7, a8) => (if 0#64 < a6 then Option.bind (Qqy a6 2#64) fun x12 => ((if x12 = 1#64 then Option.bind (Qqy (a7 * a8) p2) fun x13 => ((Qnw p2 a6 a8 rec1 x13)) else (Qnw p2 a6 a8 rec1 a7))) else (some a7))
def Qrn (p0 : BitVec 64) (p1 : BitVec 64) (p2 : BitVec 64) : Option (BitVec 64) := Option.bind (Qqy 1#64 p2) fun x1 => (Option.bind (Qqy p0 p2) fun x2 => ((Qc3 (Ql2 p2) Qcw (p1, x1, x2))))
def Qdz (p0 : Qei) (a1 : Bool) : Option (Bool) := (bif a1 then (some false) else (if 2#64 ≤ p0.G then (if p0.G < p0.P then Option.bind (Qrn p0.G p0.Q p0.P) fun x2 => ((some (decide (x2 = 1#64)))) else (some false)) else (some false)))
def Qli (p0 : Qei) : Option (Bool) := (if 1048575#64 < p0.P then (Qdz p0 true) else Option.bind (Qp0 p0.P) fun x3 => ((bif (!x3) then (Qdz p0 true) else (if 1048575#64 < p0.Q then (Qdz p0 true) else Option.bind (Qp0 p0.Q) fun x4 => ((bif (!x4) then (Qdz p0 true) else Option.bind (Qqy (p0.P - 1#64) p0.Q) fun x5 => ((Qdz p0 (decide (x5 ≠ 0#64))))))))))
def Qg6 (p0 : Qa7) (a1 : Bool) : Option (Bool) := (bif a1 then (some false) else Option.bind (Qdq p0.Depth) fun x2 => ((some (decide (wd (w64 (x2 + p0.Degree)) < p0.Group.Q)))))
def Qkl (p0 : Qa7) : Option (Bool) := (if p0.Kind ≠ 4#8 then (Qg6 p0 true) else (if p0.Depth < 0 then (Qg6 p0 true) else (if (6 : Int) < p0.Depth then (Qg6 p0 true) else (if p0.Degree < 1 then (Qg6 p0 true) else (if (8 : Int) < p0.Degree then (Qg6 p0 true) else Option.bind (Qli p0.Group) fun x3 => ((Qg6 p0 (!x3))))))))
def Qnh (p0 : W2) (p1 : BitVec 64) (p2 : BitVec 64) : Option (BitVec 64) := (if p2 = 0#64 then (some 0#64) else Option.bind (Qmi (((kby (drv p0 (un8 3#8) p1)).take 8).drop 0)) fun x1 => (Option.bind (Qqy x1 p2) fun x2 => ((some x2))))
def Qh1 (p0 : W2) (p1 : Qa7) (rec1 : (List (BitVec 64) × Int) → Option (List (BitVec 64))) (s1 : List (BitVec 64) × Int) : Option (List (BitVec 64)) := match s1 with | (a4, a6) => (if a6 ≤ p1.Degree then Option.bind (Qnh (drv p0 (un8 40#8) 0#64) (wd a6) p1.Group.Q) fun x7 => (Option.bind (Quc 8 a4 [x7]) fun l8 => ((rec1 (l8, w64 (a6 + 1))))) else (some a4))
def Qir (p0 : W2) (p1 : Qa7) : Option (List (BitVec 64)) := (Qc3 (Qh1 p0 p1) Qcw ([], 0))
def Qlc (p0 : BitVec 64) (p1 : List (BitVec 64)) (p2 : BitVec 64) (rec1 : (BitVec 64 × BitVec 64 × Int) → Option (BitVec 64)) (s1 : BitVec 64 × BitVec 64 × Int) : Option (BitVec 64) := match s1 with | (a4, a5, a6) => (if a6 < (p1.length : Int) then Option.bind (Qg0 p1 a6) fun y7 => (Option.bind (Qqy (a4 + (y7 * a5)) p0) fun x8 => (Option.bind (Qqy (a5 * p2) p0) fun x9 => ((rec1 (x8, x9, w64 (a6 + 1)))))) else (some a4))
def Qot (p0 : BitVec 64) (p1 : List (BitVec 64)) (p2 : BitVec 64) : Option (BitVec 64) := (Qc3 (Qlc p0 p1 p2) Qcw (0#64, 1#64, 0))
def Qri (p0 : W2) (p1 : Qa7) (p2 : Int) : Option (Qae) := Option.bind (Qir p0 p1) fun x1 => (Option.bind (Qot p1.Group.Q x1 ((wd p2) + 1#64)) fun x2 => ((some (Qae.mk p2 [] (Qah.mk ((wd p2) + 1#64) x2)))))
def Qmt (p0 : W2) (p1 : Qa7) (p2 : Int) (a2 : Bool) : Option (Qae × Int) := (bif a2 then (some ((Qae.mk 0 [] (Qah.mk 0#64 0#64)), 2)) else Option.bind (Qri p0 p1 p2) fun x3 => ((some (x3, 0))))
def Qua (p0 : W2) (p1 : Qa7) (p2 : Int) : Option (Qae × Int) := Option.bind (Qkl p1) fun x1 => ((bif (!x1) then (some ((Qae.mk 0 [] (Qah.mk 0#64 0#64)), 30)) else (if p2 < 0 then (Qmt p0 p1 p2 true) else Option.bind (Qdq p1.Depth) fun x4 => ((Qmt p0 p1 p2 (decide (x4 ≤ p2)))))))
def Qhi (p0 : Qa7) : Option (Int) := Option.bind (Qd8 p0) fun x1 => ((bif (!x1) then (some 30) else (some 0)))
end
end Go.Sx

end
section
set_option linter.unusedVariables false
set_option maxRecDepth 100000
namespace Go.Sx
open Go Go.RowKit
noncomputable section
def Qhp (p0 : BitVec 64) : Option (Bool) := (if 1#64 ≤ p0 then (some (decide (p0 < 4294967296#64))) else (some false))
def Qka (p0 : BitVec 64) (p1 : BitVec 64) (p2 : BitVec 64) : Option (BitVec 64 × Int) := Option.bind (Qhp p2) fun x1 => ((bif (!x1) then (some (0#64, 2)) else Option.bind (Qjp p0 p1 p2) fun x2 => ((some (x2, 0)))))
def Qjm (p0 : Qa7) (p1 : BitVec 64) (p2 : BitVec 64) : Option (BitVec 64) := Option.bind (Qka p1 p2 p0.Group.P) fun x1 => ((some x1.1))
def Ql8 (p0 : BitVec 64) : Option (W2) := (some (drv k0 (un8 42#8) p0))
def Qkc (p0 : Qah) (p1 : Qah) : Option (Bool) := (some (decide (p0.X = p1.X)))
def Qbd (p0 : List Qah) (p1_0 : Qah) (rec1 : (Int) → Option (Int)) (a2 : Int) : Option (Int) := (if a2 < (p0.length : Int) then Option.bind (Qg0 p0 a2) fun y3 => (Option.bind (Qkc y3 p1_0) fun x4 => ((bif x4 then (some a2) else (rec1 (w64 (a2 + 1)))))) else (some (-1)))
def Qch (p0 : List Qah) (p1_0 : Qah) : Option (Int) := (Qc3 (Qbd p0 p1_0) Qcw 0)
def Qbm (p0 : List Qah) (p1_0 : Qah) : Option (Bool) := Option.bind (Qch p0 p1_0) fun x1 => ((some (decide ((0 : Int) ≤ x1))))
def Qem (p0 : List Qah) (rec1 : (Int) → Option (Bool)) (a2 : Int) : Option (Bool) := (if a2 < (p0.length : Int) then Option.bind (Qg0 p0 a2) fun y3 => (Option.bind (Xod p0 0 a2) fun l4 => (Option.bind (Qbm l4 y3) fun x5 => ((bif x5 then (some false) else (rec1 (w64 (a2 + 1))))))) else (some true))
def Qij (p0 : List Qah) : Option (Bool) := (Qc3 (Qem p0) Qcw 0)
def Qlk (p1 : BitVec 64) (rec1 : (BitVec 64 × BitVec 64 × BitVec 64 × BitVec 64) → Option (BitVec 64 × Bool)) (s1 : BitVec 64 × BitVec 64 × BitVec 64 × BitVec 64) : Option (BitVec 64 × Bool) := match s1 with | (a7, a8, a9, a10) => (if a9 ≠ 0#64 then Option.bind (Xt9 a7 a9) fun x11 => (Option.bind (Qqy x11 p1) fun x12 => (Option.bind (Qqy (x12 * a10) p1) fun x13 => (Option.bind (Qqy (a8 + (p1 - x13)) p1) fun x14 => ((rec1 (a9, a10, a7 - (x11 * a9), x14)))))) else (some (a8, decide (a7 = 1#64))))
def Qp4 (p0 : BitVec 64) (p1 : BitVec 64) : Option (BitVec 64 × Bool) := Option.bind (Qqy p0 p1) fun x1 => (Option.bind (Qqy 1#64 p1) fun x2 => ((Qc3 (Qlk p1) Qcw (x1, x2, p1, 0#64))))
def Qj0 (p0 : BitVec 64) (p1 : BitVec 64) (p2 : BitVec 64) : Option (BitVec 64) := Option.bind (Qqy ((p1 + p0) - p2) p0) fun x1 => ((some x1))
def Qfs (p1 : BitVec 64) (rec1 : (Int × Int × Int × Int) → Option (BitVec 64 × Int)) (s1 : Int × Int × Int × Int) : Option (BitVec 64 × Int) := match s1 with | (a7, a8, a9, a10) => (if a8 ≠ 0 then Option.bind (Qzh a7 a8) fun x11 => ((rec1 (a8, w64 (a7 - (w64 (x11 * a8))), a10, w64 (a9 - (w64 (x11 * a10)))))) else (if a7 ≠ 1 then (some (0#64, 10)) else Option.bind (Qwi a9 (w64 (un p1))) fun x12 => (Option.bind (Qwi (w64 (x12 + (w64 (un p1)))) (w64 (un p1))) fun x13 => ((some (wd x13, 0))))))
def Qim (p0 : BitVec 64) (p1 : BitVec 64) : Option (BitVec 64 × Int) := Option.bind (Qhp p1) fun x1 => ((bif (!x1) then (some (0#64, 2)) else Option.bind (Qqy p0 p1) fun x2 => ((Qc3 (Qfs p1) Qcw (w64 (un p1), w64 (un x2), 0, 1)))))
def Qiv (p0 : BitVec 64) (p1 : BitVec 64) (p2 : BitVec 64) : Option (BitVec 64) := Option.bind (Qim p2 p0) fun x1 => (Option.bind (Qdl p0 [p1, x1.1]) fun x2 => ((some x2)))
end
end Go.Sx

end
section
set_option linter.unusedVariables false
set_option maxRecDepth 100000
namespace Go.Sx
open Go Go.RowKit
noncomputable section
def Qjc (p0 : BitVec 64) (p1 : Qa7) (p2 : Qaa) (p3 : List (BitVec 64)) (p4 : BitVec 64) : Option (BitVec 64) := Option.bind (Qek p3 p4 p0) fun x1 => (Option.bind (Qjm p1 p2.Base x1) fun x2 => ((some x2)))
def Qi8 (a3 : Int) (rec1 : (Int) → Option (Qaa × Int)) (a5 : Bool) : Option (Qaa × Int) := (bif a5 then (some ((Qaa.mk [] 0#64 [] k0 k0), 2)) else (rec1 (w64 (a3 + 1))))
def Qhw (p1 : Qa7) (p3 : W2) (a9 : List (BitVec 64)) (a14 : BitVec 64) (rec6 : (Int × List Qah) → Option (Qaa × Int)) (s6 : Int × List Qah) : Option (Qaa × Int) := match s6 with | (a30, a31) => (if (a31.length : Int) < p1.Degree then Option.bind (Qjc (wd a30) p1 (Qaa.mk [] a14 a31 k0 (drv p3 (un8 53#8) 0#64)) a9 p1.Group.Q) fun x33 => (Option.bind (Quc 16 a31 [(Qah.mk (wd a30) x33)]) fun l34 => ((rec6 (w64 (a30 + 1), l34)))) else Option.bind (Qjc 0#64 p1 (Qaa.mk [] a14 a31 k0 (drv p3 (un8 53#8) 0#64)) a9 p1.Group.Q) fun x35 => (Option.bind (Ql8 x35) fun x36 => ((some ((Qaa.mk [] a14 a31 (Qw4 x36 p3) (drv p3 (un8 53#8) 0#64)), 0)))))
def Qi9 (p1 : Qa7) (p2 : List Int) (p3 : W2) (a9 : List (BitVec 64)) (a14 : BitVec 64) (rec5 : (Int × List Qah) → Option (Qaa × Int)) (s5 : Int × List Qah) : Option (Qaa × Int) := match s5 with | (a20, a21) => (if a20 < (p2.length : Int) then Option.bind (Qg0 p2 a20) fun y23 => (Option.bind (Qjc (wd (w64 (y23 + 1))) p1 (Qaa.mk [] a14 a21 k0 (drv p3 (un8 53#8) 0#64)) a9 p1.Group.Q) fun x24 => (Option.bind (Quc 16 a21 [(Qah.mk (wd (w64 (y23 + 1))) x24)]) fun l25 => ((rec5 (w64 (a20 + 1), l25))))) else Option.bind (shG p1.Depth) fun n26 => ((Qc3 (Qhw p1 p3 a9 a14) Qcw (w64 ((Qxk 1 n26) + 1), a21))))
def Qn8 (p1 : Qa7) (p2 : List Int) (p3 : W2) (a9 : List (BitVec 64)) (a14 : BitVec 64) : Option (Qaa × Int) := (Qc3 (Qi9 p1 p2 p3 a9 a14) Qcw (0, []))
def Qjf (p0 : W2) (p1 : Qa7) (p2 : List Int) (p3 : W2) (p4 : BitVec 64) (a9 : List (BitVec 64)) : Option (Qaa × Int) := Option.bind (Qh3 (drv p0 (un8 41#8) p4) 0#64 (p1.Group.Q - 1#64)) fun x12 => (Option.bind (Qjm p1 p1.Group.G (1#64 + x12)) fun x37 => ((Qn8 p1 p2 p3 a9 x37)))
def Qgv (p0 : W2) (p1 : Qa7) (p2 : List Int) (p3 : W2) (p4 : BitVec 64) (rec1 : (Int) → Option (Qaa × Int)) (a3 : Int) : Option (Qaa × Int) := (if a3 < (p2.length : Int) then Option.bind (Qg0 p2 a3) fun y4 => ((if y4 < 0 then (Qi8 a3 rec1 true) else Option.bind (shG p1.Depth) fun n6 => ((if Qxk 1 n6 ≤ y4 then (Qi8 a3 rec1 true) else (if (0 : Int) < a3 then Option.bind (Qg0 p2 (w64 (a3 - 1))) fun y7 => ((Qi8 a3 rec1 (decide (y4 ≤ y7)))) else (Qi8 a3 rec1 false)))))) else (if p1.Degree < (p2.length : Int) then (some ((Qaa.mk [] 0#64 [] k0 k0), 4)) else Option.bind (Qi2 p0 p1) fun x39 => ((Qjf p0 p1 p2 p3 p4 x39))))
def Qfy (p0 : W2) (p1 : Qa7) (p2 : List Int) (p3 : W2) (p4 : BitVec 64) : Option (Qaa × Int) := Option.bind (Qd8 p1) fun x1 => ((bif (!x1) then (some ((Qaa.mk [] 0#64 [] k0 k0), 30)) else (Qc3 (Qgv p0 p1 p2 p3 p4) Qcw 0)))
end
end Go.Sx

end
section
set_option linter.unusedVariables false
set_option maxRecDepth 100000
namespace Go.Sx
open Go Go.RowKit
noncomputable section
def Qik (p0 : List Qah) : Option (List Qah) := Option.bind (Quc 16 [] p0) fun l1 => ((some l1))
def Qjo (p0 : Qa7) (p1 : Qae) (a2 : Bool) : Option (Bool) := (bif a2 then (some (decide (p1.Share.Y < p0.Group.Q))) else (some false))
def Qi6 (p0 : Qa7) (p1 : Qae) (a3 : List Qah) (a5 : Int) (rec4 : (Bool × Int) → Option (Bool)) (s4 : Bool × Int) : Option (Bool) := match s4 with | (a8, a9) => (if a9 < a5 then Option.bind (Qg0 a3 a9) fun y10 => ((bif (!a8) then (Qjo p0 p1 a8) else (if 1#64 ≤ y10.X then (if y10.X < p0.Group.Q then (if 1#64 ≤ y10.Y then (rec4 (decide (y10.Y < p0.Group.P), w64 (a9 + 1))) else (rec4 (false, w64 (a9 + 1)))) else (rec4 (false, w64 (a9 + 1)))) else (rec4 (false, w64 (a9 + 1)))))) else (Qjo p0 p1 a8))
def Qni (p0 : Qa7) (p1 : Qae) (a1 : Bool) (a3 : List Qah) (a5 : Int) : Option (Bool) := (Qc3 (Qi6 p0 p1 a3 a5) Qcw (a1, 0))
def Qg2 (p0 : Qa7) (p1 : Qae) (p2 : Qaa) (a1 : Bool) : Option (Bool) := Option.bind (Qik p2.Points) fun x11 => (Option.bind (Quc 16 x11 [(Qah.mk p1.Share.X 1#64)]) fun l12 => ((Qni p0 p1 a1 l12 (l12.length : Int))))
def Qq3 (p0 : Qa7) (p1 : Qae) (p2 : Qaa) : Option (Bool) := (if (p2.Items.length : Int) = 0 then (if 1#64 ≤ p2.Base then (if p2.Base < p0.Group.P then (if (p2.Points.length : Int) = p0.Degree then Option.bind (Qij p2.Points) fun x15 => ((Qg2 p0 p1 p2 x15)) else (Qg2 p0 p1 p2 false)) else (Qg2 p0 p1 p2 false)) else (Qg2 p0 p1 p2 false)) else (Qg2 p0 p1 p2 false))
def Qi0 (p0 : Qa7) (l4 : List Qah) (a8 : BitVec 64) (a9 : Int) (rec1 : (BitVec 64 × Int) → Option (W2 × Int)) (y10 : Qah) (rec2 : (BitVec 64 × BitVec 64 × Int) → Option (W2 × Int)) (s2 : BitVec 64 × BitVec 64 × Int) : Option (W2 × Int) := match s2 with | (a14, a15, a16) => (if a16 < (l4.length : Int) then Option.bind (Qg0 l4 a16) fun y17 => ((if a16 ≠ a9 then Option.bind (Qdl p0.Group.Q [a14, y17.X]) fun x18 => (Option.bind (Qj0 p0.Group.Q y17.X y10.X) fun x19 => (Option.bind (Qdl p0.Group.Q [a15, x19]) fun x20 => ((rec2 (x18, x20, w64 (a16 + 1)))))) else (rec2 (a14, a15, w64 (a16 + 1))))) else Option.bind (Qiv p0.Group.Q a14 a15) fun x21 => (Option.bind (Qjm p0 y10.Y x21) fun x22 => (Option.bind (Qdl p0.Group.P [a8, x22]) fun x23 => ((rec1 (x23, w64 (a9 + 1)))))))
def Ql6 (p2 : Qaa) (a25 : W2) : Option (W2 × Int) := (if drv a25 (un8 53#8) 0#64 ≠ p2.Check then (some (k0, 6)) else (some (a25, 0)))
def Qgu (p0 : Qa7) (p2 : Qaa) (l4 : List Qah) (rec1 : (BitVec 64 × Int) → Option (W2 × Int)) (s1 : BitVec 64 × Int) : Option (W2 × Int) := match s1 with | (a8, a9) => (if a9 < (l4.length : Int) then Option.bind (Qg0 l4 a9) fun y10 => ((Qc3 (Qi0 p0 l4 a8 a9 rec1 y10) Qcw (1#64, 1#64, 0))) else Option.bind (Ql8 a8) fun x26 => ((Ql6 p2 (Xet x26 p2.Box))))
def Qmq (p0 : Qa7) (p1 : Qae) (p2 : Qaa) : Option (W2 × Int) := Option.bind (Qd8 p0) fun x1 => ((bif (!x1) then (some (k0, 30)) else Option.bind (Qq3 p0 p1 p2) fun x2 => ((bif (!x2) then (some (k0, 8)) else Option.bind (Qjm p0 p2.Base p1.Share.Y) fun x3 => (Option.bind (Quc 16 [(Qah.mk p1.Share.X x3)] p2.Points) fun l4 => (Option.bind (Qij l4) fun x5 => ((bif (!x5) then (some (k0, 6)) else (Qc3 (Qgu p0 p2 l4) Qcw (1#64, 0))))))))))
end
end Go.Sx

end
section

end
section

end
section
set_option linter.unusedVariables false
set_option maxRecDepth 100000
namespace Go.Sx
open Go Go.RowKit
noncomputable section
def Qeb (p0 : W2) (p1 : Qa7) (p2 : Int) (a1 : Bool) : Option (Qae × Int) := (bif a1 then (some ((Qae.mk 0 [] (Qah.mk 0#64 0#64)), 2)) else (if un8 p1.Kind = 1 ∨ un8 p1.Kind = 2 ∨ un8 p1.Kind = 3 then Option.bind (Qen p1) fun x2 => ((if x2 ≠ 0 then (some ((Qae.mk 0 [] (Qah.mk 0#64 0#64)), x2)) else Option.bind (Ql5 p0 p1 p2) fun x3 => ((some (x3.1, x3.2))))) else (if un8 p1.Kind = 4 then Option.bind (Qhi p1) fun x4 => ((if x4 ≠ 0 then (some ((Qae.mk 0 [] (Qah.mk 0#64 0#64)), x4)) else Option.bind (Qh0 p0 p1 p2) fun x5 => ((some (x5.1, x5.2))))) else none)))
def Qf0 (p0 : W2) (p1 : Qa7) (p2 : Int) : Option (Qae × Int) := (if p1.Kind < 1#8 then (Qeb p0 p1 p2 true) else (Qeb p0 p1 p2 (decide ((5 : Int) ≤ un8 p1.Kind))))
def Qge (p0 : Qa7) (a1 : Bool) : Option (Int) := (bif a1 then (some 2) else (if un8 p0.Kind = 1 ∨ un8 p0.Kind = 2 ∨ un8 p0.Kind = 3 then Option.bind (Qen p0) fun x2 => ((some x2)) else (if un8 p0.Kind = 4 then Option.bind (Qhi p0) fun x3 => ((some x3)) else none)))
def Qkh (p0 : Qa7) : Option (Int) := (if p0.Kind < 1#8 then (Qge p0 true) else (Qge p0 (decide ((5 : Int) ≤ un8 p0.Kind))))
def Qe5 (p0 : W2) (p1 : Int) : Option (W2) := (some (drv p0 (un8 50#8) (wd p1)))
def Qr0 (p0 : W2) (p1 : Int) : Option (W2) := (some (drv p0 (un8 51#8) (wd p1)))
end
end Go.Sx

end
section
set_option linter.unusedVariables false
set_option maxRecDepth 100000
namespace Go.Sx
open Go Go.RowKit
noncomputable section
structure Qfr where
  Epoch : Int
  Word : Int
  Early : Int
  Drift : Int
  Delay : Int
deriving DecidableEq, Inhabited
def Qfr.cs (x : Qfr)  : List Value := [.int .i64 x.Epoch, .int .i64 x.Word, .int .i64 x.Early, .int .i64 x.Drift, .int .i64 x.Delay]
theorem Qfr.cs_ones (x : Qfr)   : Qla (Qfr.cs x ) = true := by simp only [Qfr.cs, List.cons_append, List.nil_append, kb, Qla, Qit, Qgg, Qis, cond_true]
theorem Qfr.cs_inj {x y : Qfr} (h : Qfr.cs x = Qfr.cs y) : x = y := by
  have h0 : x.Epoch = y.Epoch := Qlq (congrArg (fun l => l[0]?) h)
  have h1 : x.Word = y.Word := Qlq (congrArg (fun l => l[1]?) h)
  have h2 : x.Early = y.Early := Qlq (congrArg (fun l => l[2]?) h)
  have h3 : x.Drift = y.Drift := Qlq (congrArg (fun l => l[3]?) h)
  have h4 : x.Delay = y.Delay := Qlq (congrArg (fun l => l[4]?) h)
  cases x; cases y; simp only at *; subst h0; subst h1; subst h2; subst h3; subst h4; rfl
theorem Qfr.ws (l : List Qfr) : Ws 5 (l.map Qfr.cs) := Qji l (fun _ => rfl) (fun _ => rfl)
structure Qai where
  Kind : BitVec 8
  Epoch : Int
  Head : Qaa
  Low : BitVec 8
  Number : BitVec 64
  Data : List (BitVec 8)
  Mac : W2
deriving DecidableEq, Inhabited
def Qai.cs (x : Qai) (v0 : Value) (v1 : Value) (v2 : Value) : List Value := [bv x.Kind, .int .i64 x.Epoch, v0, wv x.Head.Base, v1] ++ (kb x.Head.Box ++ (kb x.Head.Check ++ ([bv x.Low, wv x.Number, v2] ++ (kb x.Mac))))
theorem Qai.cs_ones (x : Qai) (v0 : Value) (v1 : Value) (v2 : Value) (h0 : oneB v0 = true) (h1 : oneB v1 = true) (h2 : oneB v2 = true) : Qla (Qai.cs x v0 v1 v2) = true := by simp only [Qai.cs, List.cons_append, List.nil_append, kb, Qla, Qit, Qgg, Qis, cond_true, h0, h1, h2]
structure Qat where
  out : List (BitVec 8)
deriving DecidableEq, Inhabited
def Qat.cs (x : Qat) (v0 : Value) : List Value := [v0]
theorem Qat.cs_ones (x : Qat) (v0 : Value) (h0 : oneB v0 = true) : Qla (Qat.cs x v0) = true := by simp only [Qat.cs, List.cons_append, List.nil_append, kb, Qla, Qit, Qgg, Qis, cond_true, h0]
structure Qbl where
  Full : Bool
  Epoch : Int
  Key : W2
deriving DecidableEq, Inhabited
def Qbl.cs (x : Qbl)  : List Value := [.bool x.Full, .int .i64 x.Epoch] ++ (kb x.Key)
theorem Qbl.cs_ones (x : Qbl)   : Qla (Qbl.cs x ) = true := by simp only [Qbl.cs, List.cons_append, List.nil_append, kb, Qla, Qit, Qgg, Qis, cond_true]
theorem Qbl.cs_inj {x y : Qbl} (h : Qbl.cs x = Qbl.cs y) : x = y := by
  have h0 : x.Full = y.Full := Xr3 (congrArg (fun l => l[0]?) h)
  have h1 : x.Epoch = y.Epoch := Qlq (congrArg (fun l => l[1]?) h)
  have h2 : x.Key = y.Key := Qng (congrArg (fun l => (l.drop 2).take 16) h)
  cases x; cases y; simp only at *; subst h0; subst h1; subst h2; rfl
theorem Qbl.ws (l : List Qbl) : Ws 18 (l.map Qbl.cs) := Qji l (fun _ => rfl) (fun _ => rfl)
structure Qbh where
  a0 : Qbl
  a1 : Qbl
deriving DecidableEq, Inhabited
def Qbh.cs (x : Qbh)  : List Value := [.bool x.a0.Full, .int .i64 x.a0.Epoch] ++ (kb x.a0.Key ++ ([.bool x.a1.Full, .int .i64 x.a1.Epoch] ++ (kb x.a1.Key)))
theorem Qbh.cs_ones (x : Qbh)   : Qla (Qbh.cs x ) = true := by simp only [Qbh.cs, List.cons_append, List.nil_append, kb, Qla, Qit, Qgg, Qis, cond_true]
theorem Qbh.cs_inj {x y : Qbh} (h : Qbh.cs x = Qbh.cs y) : x = y := by
  have h0 : x.a0 = y.a0 := Qbl.cs_inj (congrArg (fun l => (l.drop 0).take 18) h)
  have h1 : x.a1 = y.a1 := Qbl.cs_inj (congrArg (fun l => (l.drop 18).take 18) h)
  cases x; cases y; simp only at *; subst h0; subst h1; rfl
theorem Qbh.ws (l : List Qbh) : Ws 36 (l.map Qbh.cs) := Qji l (fun _ => rfl) (fun _ => rfl)
structure Qad where
  Secret : Qae
  Ahead : Int
  Slots : Qbh
deriving DecidableEq, Inhabited
def Qad.cs (x : Qad) (v0 : Value) : List Value := [.int .i64 x.Secret.Receiver, v0, wv x.Secret.Share.X, wv x.Secret.Share.Y, .int .i64 x.Ahead, .bool x.Slots.a0.Full, .int .i64 x.Slots.a0.Epoch] ++ (kb x.Slots.a0.Key ++ ([.bool x.Slots.a1.Full, .int .i64 x.Slots.a1.Epoch] ++ (kb x.Slots.a1.Key)))
theorem Qad.cs_ones (x : Qad) (v0 : Value) (h0 : oneB v0 = true) : Qla (Qad.cs x v0) = true := by simp only [Qad.cs, List.cons_append, List.nil_append, kb, Qla, Qit, Qgg, Qis, cond_true, h0]
def Qdy (a2 : Bool) : Option (Int) := (bif a2 then (some 50) else (some 0))
def Qdw (p0 : Qfr) (a1 : Bool) : Option (Int) := (bif a1 then (some 50) else (if mnI (mnI p0.Early p0.Drift) p0.Delay < 0 then (Qdy true) else (if w64 (3 * p0.Word) ≤ p0.Drift then (Qdy true) else (if w64 (3 * p0.Word) ≤ p0.Delay then (Qdy true) else (if w64 (3 * p0.Word) ≤ w64 ((w64 (2 * p0.Drift)) + p0.Delay) then (Qdy true) else (Qdy (decide (w64 (p0.Epoch - p0.Delay) < p0.Early))))))))
def Qg8 (p0 : Qfr) : Option (Int) := (if p0.Word < 1 then (Qdw p0 true) else (if (1000 : Int) < p0.Word then (Qdw p0 true) else (if p0.Epoch < p0.Word then (Qdw p0 true) else (if w64 (1000 * p0.Word) < p0.Epoch then (Qdw p0 true) else Option.bind (Qwi p0.Epoch p0.Word) fun x3 => ((Qdw p0 (decide (x3 ≠ 0))))))))
def Qdg (p0 : Int) : Option (Bool) := (if (0 : Int) ≤ p0 then (some (decide (p0 ≤ 1099511627776))) else (some false))
def Qmy (p0 : Qfr) : Option (Int) := (some p0.Epoch)
def Qep (p0 : Qfr) (p1 : Int) : Option (Int × Int) := Option.bind (Qg8 p0) fun x1 => ((if x1 ≠ 0 then (some (0, x1)) else Option.bind (Qdg p1) fun x2 => ((bif (!x2) then (some (0, 2)) else Option.bind (Qmy p0) fun x3 => (Option.bind (Qzh p1 x3) fun x4 => ((some (x4, 0))))))))
def Qm6 (p0 : Qfr) (p1 : Int) : Option (Int × Int) := Option.bind (Qep p0 p1) fun x1 => ((some (x1.1, x1.2)))
def Qlm (p0 : Qfr) : Option (Int) := (some p0.Word)
def Qea (p0 : Qfr) (p1 : Int) : Option (Int × Int) := Option.bind (Qg8 p0) fun x1 => ((if x1 ≠ 0 then (some (0, x1)) else Option.bind (Qdg p1) fun x2 => ((bif (!x2) then (some (0, 2)) else Option.bind (Qlm p0) fun x3 => (Option.bind (Qzh p1 x3) fun x4 => ((some (x4, 0))))))))
def Ql1 (p0 : Qfr) (p1 : Int) : Option (Int × Int) := Option.bind (Qea p0 p1) fun x1 => ((some (x1.1, x1.2)))
def Qvi (p0 : Qfr) (p1 : Int) : Option (List Int × Int) := Option.bind (Qm6 p0 p1) fun x1 => ((if x1.2 ≠ 0 then (some ([], x1.2)) else (if w64 ((w64 ((w64 (x1.1 + 1)) * p0.Epoch)) - p0.Early) ≤ p1 then Option.bind (Quc 8 [x1.1] [w64 (x1.1 + 1)]) fun l2 => ((some (l2, 0))) else (some ([x1.1], 0)))))
def Qlz (p0 : Int) : Option (Bool) := (if ((-1099511627776) : Int) ≤ p0 then (some (decide (p0 ≤ 2199023255552))) else (some false))
def Qqz (p0 : Qfr) (p1 : Int) : Option (Int × Int) := (some (mxI (w64 ((w64 (p1 - p0.Drift)) - p0.Delay)) 0, w64 (p1 + p0.Drift)))
def Qnc (p0 : Qfr) (p1 : Int) (p2 : BitVec 8) : Option (Int × Bool) := Option.bind (Qqz p0 p1) fun x1 => ((if x1.2 < 0 then (some (0, false)) else Option.bind (Qzh x1.1 p0.Word) fun x2 => (Option.bind (Qwi x2 4) fun x3 => (Option.bind (Qwi (w64 ((w64 ((un8 p2) - x3)) + 4)) 4) fun x4 => (Option.bind (Qzh x1.2 p0.Word) fun x5 => ((some (w64 (x2 + x4), decide (w64 (x2 + x4) ≤ x5)))))))))
def Qj3 (p0 : Qfr) (p1 : Int) (p2 : BitVec 8) (a2 : Bool) : Option (Int × Int) := (bif a2 then (some (0, 2)) else Option.bind (Qnc p0 p1 p2) fun x3 => ((bif (!x3.2) then (some (0, 51)) else (some (x3.1, 0)))))
def Qoz (p0 : Qfr) (p1 : Int) (p2 : BitVec 8) : Option (Int × Int) := Option.bind (Qg8 p0) fun x1 => ((if x1 ≠ 0 then (some (0, x1)) else Option.bind (Qlz p1) fun x4 => ((bif (!x4) then (Qj3 p0 p1 p2 true) else (Qj3 p0 p1 p2 (decide (3#8 < p2)))))))
def Qnj (p0 : Qfr) (p1 : Int) (p2 : Int) : Option (Bool) := Option.bind (Qqz p0 p1) fun x1 => ((if (0 : Int) ≤ x1.2 then Option.bind (Qzh x1.1 p0.Epoch) fun x2 => ((if x2 ≤ p2 then (some (decide (w64 ((w64 (p2 * p0.Epoch)) - p0.Early) ≤ x1.2))) else (some false))) else (some false)))
def Qjz (p0 : Qfr) (p1 : Int) (p2 : Int) (a2 : Bool) : Option (Bool × Int) := (bif a2 then (some (false, 2)) else Option.bind (Qnj p0 p1 p2) fun x3 => ((some (x3, 0))))
def Qpz (p0 : Qfr) (p1 : Int) (p2 : Int) : Option (Bool × Int) := Option.bind (Qg8 p0) fun x1 => ((if x1 ≠ 0 then (some (false, x1)) else Option.bind (Qlz p1) fun x4 => ((bif (!x4) then (Qjz p0 p1 p2 true) else Option.bind (Qdg p2) fun x5 => ((Qjz p0 p1 p2 (!x5)))))))
def Qgz (p0 : W2) (p1 : Qa7) (p2 : List Int) (p3 : W2) (p4 : BitVec 64) : Option (Qaa × Int) := Option.bind (Qko p1 p2) fun x1 => ((if x1.2 ≠ 0 then (some ((Qaa.mk [] 0#64 [] k0 k0), x1.2)) else Option.bind (Qkq p0 p1 x1.1 p3) fun x2 => ((some (x2.1, x2.2)))))
def Qgx (p0 : W2) (p1 : Qa7) (p2 : Int) (p3 : List Int) (a1 : Bool) : Option (Qaa × Int) := (bif a1 then (some ((Qaa.mk [] 0#64 [] k0 k0), 2)) else (if un8 p1.Kind = 1 ∨ un8 p1.Kind = 2 ∨ un8 p1.Kind = 3 then Option.bind (Qen p1) fun x2 => ((if x2 ≠ 0 then (some ((Qaa.mk [] 0#64 [] k0 k0), x2)) else Option.bind (Qdg p2) fun x3 => ((bif (!x3) then (some ((Qaa.mk [] 0#64 [] k0 k0), 2)) else Option.bind (Qe5 p0 p2) fun x4 => (Option.bind (Qgz p0 p1 p3 x4 (wd p2)) fun x5 => ((some (x5.1, x5.2)))))))) else (if un8 p1.Kind = 4 then Option.bind (Qhi p1) fun x6 => ((if x6 ≠ 0 then (some ((Qaa.mk [] 0#64 [] k0 k0), x6)) else Option.bind (Qdg p2) fun x7 => ((bif (!x7) then (some ((Qaa.mk [] 0#64 [] k0 k0), 2)) else Option.bind (Qe5 p0 p2) fun x8 => (Option.bind (Qfy p0 p1 p3 x8 (wd p2)) fun x9 => ((some (x9.1, x9.2)))))))) else none)))
def Qjh (p0 : W2) (p1 : Qa7) (p2 : Int) (p3 : List Int) : Option (Qaa × Int) := (if p1.Kind < 1#8 then (Qgx p0 p1 p2 p3 true) else (Qgx p0 p1 p2 p3 (decide ((5 : Int) ≤ un8 p1.Kind))))
def Qh5 (p1 : BitVec 64) (rec1 : (Int × List (BitVec 8)) → Option (Qat)) (s1 : Int × List (BitVec 8)) : Option (Qat) := match s1 with | (a4, a5) => (if (0 : Int) ≤ a4 then Option.bind (shG (w64 (8 * a4))) fun n7 => (Option.bind (Quc 1 a5 [(p1 >>> n7).setWidth 8]) fun l8 => ((rec1 (w64 (a4 - 1), l8)))) else (some (Qat.mk a5)))
def Qby (p0 : Qat) (p1 : BitVec 64) (p2 : Int) : Option (Qat) := (Qc3 (Qh5 p1) Qcw (w64 (p2 - 1), p0.out))
def Qhe (p0 : Qat) (p1 : W2) : Option (Qat) := Option.bind (Quc 1 p0.out (kby p1)) fun l1 => ((some (Qat.mk l1)))
def Qm0 (p0 : Qai) (rec2 : (Int × Qat) → Option (List (BitVec 8))) (s2 : Int × Qat) : Option (List (BitVec 8)) := match s2 with | (a23, a24) => (if a23 < (p0.Head.Points.length : Int) then Option.bind (Qg0 p0.Head.Points a23) fun y26 => (Option.bind (Qby a24 y26.X 8) fun x27 => (Option.bind (Qby x27 y26.Y 8) fun x28 => ((rec2 (w64 (a23 + 1), x28))))) else Option.bind (Qhe a24 p0.Head.Box) fun x29 => (Option.bind (Qhe x29 p0.Head.Check) fun x30 => ((some x30.out))))
def Qlu (p0 : Qai) (rec1 : (Int × Qat) → Option (List (BitVec 8))) (s1 : Int × Qat) : Option (List (BitVec 8)) := match s1 with | (a11, a12) => (if a11 < (p0.Head.Items.length : Int) then Option.bind (Qg0 p0.Head.Items a11) fun y14 => (Option.bind (Qby a12 (wd y14.Subset.Node) 1) fun x15 => (Option.bind (Qby x15 (wd y14.Subset.Minus) 1) fun x16 => (Option.bind (Qhe x16 y14.Box) fun x17 => ((rec1 (w64 (a11 + 1), x17)))))) else Option.bind (Qby a12 p0.Head.Base 8) fun x18 => (Option.bind (Qby x18 (wd (p0.Head.Points.length : Int)) 1) fun x19 => ((Qc3 (Qm0 p0) Qcw (0, x19)))))
def Qoc (p0 : Qai) : Option (List (BitVec 8)) := Option.bind (Qby (Qat.mk []) (p0.Kind.setWidth 64) 1) fun x1 => ((if p0.Kind = 2#8 then Option.bind (Qby x1 (p0.Low.setWidth 64) 1) fun x2 => (Option.bind (Qby x2 p0.Number 8) fun x3 => (Option.bind (Qby x3 (wd (p0.Data.length : Int)) 2) fun x4 => (Option.bind (Quc 1 x4.out p0.Data) fun l5 => ((some l5))))) else Option.bind (Qby x1 (wd p0.Epoch) 8) fun x6 => (Option.bind (Qby x6 (wd (p0.Head.Items.length : Int)) 1) fun x7 => ((Qc3 (Qlu p0) Qcw (0, x7))))))
def Qlr (p1 : W2) (rec1 : (Int × W2) → Option (W2)) (s1 : Int × W2) : Option (W2) := match s1 with | (a3, a4) => (if a3 < 16 then Option.bind (Qg0 (kby a4) a3) fun y5 => (Option.bind (Qg0 (kby p1) a3) fun y6 => (Option.bind (Qg0 (kby a4) a3) fun y7 => (Option.bind (Xpe a4 a3 (y5 ^^^ y6)) fun x8 => ((rec1 (w64 (a3 + 1), x8)))))) else (some a4))
def Qty (p0 : W2) (p1 : W2) : Option (W2) := (if p0 = p1 then (some k0) else (Qc3 (Qlr p1) Qcw (0, p0)))
def Qqj (p0 : W2) (p1 : W2) (p2 : W2) : Option (W2) := Option.bind (Qty p0 p1) fun x1 => ((some (Qw4 p2 x1)))
def Qdo (p2_0 : W2) (rec1 : (List (BitVec 8) × W2) → Option (W2)) (s1 : List (BitVec 8) × W2) : Option (W2) := match s1 with | (a4, a6) => (if (0 : Int) < (a4.length : Int) then Option.bind (Xod a4 (Xfw (kby k0) a4) (a4.length : Int)) fun l7 => (Option.bind (Qqj a6 (ofB (Qwy (kby k0) a4)) p2_0) fun x8 => ((rec1 (l7, x8)))) else (some a6))
def Qgj (p0 : W2) (p1 : List (BitVec 8)) (p2_0 : W2) : Option (W2) := (Qc3 (Qdo p2_0) Qcw (p1, p0))
def Qok (p0 : W2) (p1 : List (BitVec 8)) : Option (W2 × Int) := (if (16384 : Int) < (p1.length : Int) then (some (k0, 4)) else Option.bind (Qgj (drv p0 (un8 2#8) (wd (p1.length : Int))) p1 p0) fun x1 => ((some (x1, 0))))
def Qlh (a2 : W2) : Option (W2) := (some a2)
def Qk8 (p0 : W2) (p1 : Qai) : Option (W2) := Option.bind (Qoc p1) fun x3 => (Option.bind (Qok (drv p0 (un8 52#8) (wd p1.Epoch)) x3) fun x4 => ((Qlh x4.1)))
def Qo9 (p0 : W2) (p1 : Qa7) (p2 : Int) (p3 : List Int) : Option (Qai × Int) := Option.bind (Qjh p0 p1 p2 p3) fun x1 => ((if x1.2 ≠ 0 then (some ((Qai.mk 0#8 0 (Qaa.mk [] 0#64 [] k0 k0) 0#8 0#64 [] k0), x1.2)) else Option.bind (Qe5 p0 p2) fun x2 => (Option.bind (Qk8 x2 (Qai.mk 1#8 p2 x1.1 0#8 0#64 [] k0)) fun x3 => ((some ((Qai.mk 1#8 p2 x1.1 0#8 0#64 [] x3), 0))))))
def Qgf (p0 : Qb0) (rec1 : (Int × W2) → Option (W2)) (s1 : Int × W2) : Option (W2) := match s1 with | (a3, a4) => (if a3 < 8 then Option.bind (shG (w64 (56 - (w64 (8 * a3))))) fun n5 => (Option.bind (shG (w64 (56 - (w64 (8 * a3))))) fun n6 => (Option.bind (Qg0 (kby a4) a3) fun y7 => (Option.bind (Xpe a4 a3 ((p0.x >>> n5).setWidth 8)) fun x8 => (Option.bind (Qg0 (kby x8) (w64 (8 + a3))) fun y9 => (Option.bind (Xpe x8 (w64 (8 + a3)) ((p0.y >>> n6).setWidth 8)) fun x10 => ((rec1 (w64 (a3 + 1), x10)))))))) else (some a4))
def Qkr (p0 : Qb0) : Option (W2) := (Qc3 (Qgf p0) Qcw (0, k0))
def Qnm (p0 : BitVec 8) (p1 : BitVec 64) (p2 : BitVec 64) : Option (W2) := Option.bind (shG (un 56#64)) fun n1 => (Option.bind (Qkr (Qb0.mk (((p0.setWidth 64) <<< n1) ||| p1) p2)) fun x2 => ((some x2)))
def Qj2 (a6 : List (BitVec 8)) (a8 : Int) (rec1 : (List (BitVec 8) × Int × W2) → Option (List (BitVec 8) × Int)) (y10 : BitVec 8) (a11 : W2) : Option (List (BitVec 8) × Int) := Option.bind (Qwi a8 16) fun x12 => (Option.bind (Qg0 (kby a11) x12) fun y13 => (Option.bind (Qg0 a6 a8) fun y14 => ((rec1 (a6.set a8.toNat (y10 ^^^ y13), w64 (a8 + 1), a11)))))
def Qj1 (p0 : W2) (p1 : BitVec 64) (p2 : List (BitVec 8)) (rec1 : (List (BitVec 8) × Int × W2) → Option (List (BitVec 8) × Int)) (s1 : List (BitVec 8) × Int × W2) : Option (List (BitVec 8) × Int) := match s1 with | (a6, a8, a9) => (if a8 < (p2.length : Int) then Option.bind (Qg0 p2 a8) fun y10 => (Option.bind (Qwi a8 16) fun x15 => ((if x15 = 0 then Option.bind (Qzh a8 16) fun x16 => (Option.bind (Qnm 1#8 (wd x16) p1) fun x17 => ((Qj2 a6 a8 rec1 y10 (Qw4 p0 x17)))) else (Qj2 a6 a8 rec1 y10 a9)))) else (some (a6, 0)))
def Qly (p0 : W2) (p1 : BitVec 64) (p2 : List (BitVec 8)) : Option (List (BitVec 8) × Int) := (if (16384 : Int) < (p2.length : Int) then (some ([], 4)) else Option.bind (mkL 1 (p2.length : Int) 0#8) fun l1 => ((Qc3 (Qj1 p0 p1 p2) Qcw (l1, 0, k0))))
def Qlj (p3 : BitVec 64) (p4 : List (BitVec 8)) (x1 : Int × Int) (a3 : W2) : Option (Qai × Int) := Option.bind (Qwi x1.1 4) fun x4 => (Option.bind (Qly a3 p3 p4) fun x5 => ((if x5.2 ≠ 0 then (some ((Qai.mk 0#8 0 (Qaa.mk [] 0#64 [] k0 k0) 0#8 0#64 [] k0), x5.2)) else Option.bind (Qoc (Qai.mk 2#8 0 (Qaa.mk [] 0#64 [] k0 k0) (wd8 x4) p3 x5.1 k0)) fun x6 => (Option.bind (Qok a3 x6) fun x7 => ((some ((Qai.mk 2#8 0 (Qaa.mk [] 0#64 [] k0 k0) (wd8 x4) p3 x5.1 x7.1), x7.2)))))))
def Qp6 (p0 : W2) (p1 : Qfr) (p2 : Int) (p3 : BitVec 64) (p4 : List (BitVec 8)) : Option (Qai × Int) := Option.bind (Ql1 p1 p2) fun x1 => ((if x1.2 ≠ 0 then (some ((Qai.mk 0#8 0 (Qaa.mk [] 0#64 [] k0 k0) 0#8 0#64 [] k0), x1.2)) else (if (256 : Int) < (p4.length : Int) then (some ((Qai.mk 0#8 0 (Qaa.mk [] 0#64 [] k0 k0) 0#8 0#64 [] k0), 2)) else Option.bind (Qzh p2 p1.Epoch) fun x8 => (Option.bind (Qe5 p0 x8) fun x9 => (Option.bind (Qr0 x9 x1.1) fun x10 => ((Qlj p3 p4 x1 x10)))))))
def Qqw (p0 : Qa7) (p1 : Qfr) : Option (Int) := Option.bind (Qkh p0) fun x1 => ((if x1 ≠ 0 then (some x1) else Option.bind (Qg8 p1) fun x2 => ((some x2))))
def Qn9 (p0 : W2) (p1 : Qa7) (p3 : Int) (p4 : Int) (a2 : Bool) : Option (Qad × Int) := (bif a2 then (some ((Qad.mk (Qae.mk 0 [] (Qah.mk 0#64 0#64)) 0 (Qbh.mk (Qbl.mk false 0 k0) (Qbl.mk false 0 k0))), 2)) else Option.bind (Qf0 p0 p1 p3) fun x3 => ((if x3.2 ≠ 0 then (some ((Qad.mk (Qae.mk 0 [] (Qah.mk 0#64 0#64)) 0 (Qbh.mk (Qbl.mk false 0 k0) (Qbl.mk false 0 k0))), x3.2)) else (some ((Qad.mk x3.1 p4 (Qbh.mk (Qbl.mk false 0 k0) (Qbl.mk false 0 k0))), 0)))))
def Qsq (p0 : W2) (p1 : Qa7) (p2 : Qfr) (p3 : Int) (p4 : Int) : Option (Qad × Int) := Option.bind (Qqw p1 p2) fun x1 => ((if x1 ≠ 0 then (some ((Qad.mk (Qae.mk 0 [] (Qah.mk 0#64 0#64)) 0 (Qbh.mk (Qbl.mk false 0 k0) (Qbl.mk false 0 k0))), x1)) else (if p4 < w64 (-p2.Drift) then (Qn9 p0 p1 p3 p4 true) else (Qn9 p0 p1 p3 p4 (decide (p2.Drift < p4))))))
def Qf4 (a4 : Int) (rec2 : (Int) → Option (Int)) (a6 : Bool) : Option (Int) := (bif a6 then (some 8) else (rec2 (w64 (a4 + 1))))
def Qky (p2 : Qad) (rec2 : (Int) → Option (Int)) (a4 : Int) : Option (Int) := (if a4 < 2 then Option.bind (Qg0 [p2.Slots.a0, p2.Slots.a1] a4) fun y5 => ((bif y5.Full then Option.bind (Qdg y5.Epoch) fun x7 => ((bif (!x7) then (Qf4 a4 rec2 true) else Option.bind (Qwi y5.Epoch 2) fun x8 => ((if x8 ≠ a4 then (Qf4 a4 rec2 true) else (bif (!y5.Full) then (Qf4 a4 rec2 (decide (y5 ≠ (Qbl.mk false 0 k0)))) else (Qf4 a4 rec2 false)))))) else (bif (!y5.Full) then (Qf4 a4 rec2 (decide (y5 ≠ (Qbl.mk false 0 k0)))) else (Qf4 a4 rec2 false)))) else (some 0))
def Qhr (p2 : Qad) (a2 : Bool) : Option (Int) := (bif a2 then (some 8) else (Qc3 (Qky p2) Qcw 0))
def Qrs (p0 : Qa7) (p1 : Qfr) (p2 : Qad) : Option (Int) := Option.bind (Qqw p0 p1) fun x1 => ((if x1 ≠ 0 then (some x1) else (if p2.Ahead < w64 (-p1.Drift) then (Qhr p2 true) else (if p1.Drift < p2.Ahead then (Qhr p2 true) else (if p2.Secret.Receiver < 0 then (Qhr p2 true) else Option.bind (shG p0.Depth) fun n9 => ((Qhr p2 (decide (Qxk 1 n9 ≤ p2.Secret.Receiver)))))))))
def Qjb (p0 : Qcc) : Option (Bool) := (if mnI p0.Subset.Node p0.Subset.Minus < 0 then (some true) else (some (decide ((127 : Int) < mxI p0.Subset.Node p0.Subset.Minus))))
def Qbu (p0 : List Qcc) (rec1 : (Int) → Option (Int)) (a2 : Int) : Option (Int) := (if a2 < (p0.length : Int) then Option.bind (Qg0 p0 a2) fun y3 => (Option.bind (Qjb y3) fun x4 => ((bif x4 then (some a2) else (rec1 (w64 (a2 + 1)))))) else (some (-1)))
def Qcv (p0 : List Qcc) : Option (Int) := (Qc3 (Qbu p0) Qcw 0)
def Qco (p0 : List Qcc) : Option (Bool) := Option.bind (Qcv p0) fun x1 => ((some (decide ((0 : Int) ≤ x1))))
def Qbf (a2 : Bool) : Option (Int) := (bif (!a2) then (some 8) else (some 0))
def Qd4 (p0 : Qai) (a1 : Bool) : Option (Int) := (if p0.Kind = 1#8 then Option.bind (Qdg p0.Epoch) fun x3 => ((bif x3 then (if p0.Low = 0#8 then (if p0.Number = 0#64 then (if (p0.Data.length : Int) = 0 then (if (p0.Head.Items.length : Int) ≤ 64 then (if (p0.Head.Points.length : Int) ≤ 8 then Option.bind (Qco p0.Head.Items) fun x4 => ((Qbf (!x4))) else (Qbf false)) else (Qbf false)) else (Qbf false)) else (Qbf false)) else (Qbf false)) else (Qbf false))) else (if p0.Kind = 2#8 then (if p0.Epoch = 0 then (if p0.Low < 4#8 then (if (p0.Data.length : Int) ≤ 256 then (Qbf a1) else (Qbf false)) else (Qbf false)) else (Qbf false)) else (Qbf false)))
def Qks (p0 : Qai) : Option (Int) := (if (p0.Head.Items.length : Int) = 0 then (if (p0.Head.Points.length : Int) = 0 then (if p0.Head.Base = 0#64 then (if p0.Head.Box = k0 then (Qd4 p0 (decide (p0.Head.Check = k0))) else (Qd4 p0 false)) else (Qd4 p0 false)) else (Qd4 p0 false)) else (Qd4 p0 false))
def Qkn (p0 : List Qb8) : Option (List Qb8) := Option.bind (Quc 32 [] p0) fun l1 => ((some l1))
def Qin (p0 : Qa7) (p1 : Qae) (p2 : Qaa) (a1 : Bool) : Option (W2 × Int) := (bif a1 then (some (k0, 2)) else (if un8 p0.Kind = 1 ∨ un8 p0.Kind = 2 ∨ un8 p0.Kind = 3 then Option.bind (Qen p0) fun x2 => ((if x2 ≠ 0 then (some (k0, x2)) else Option.bind (Qmc p0 p1 p2) fun x3 => ((some (x3.1, x3.2))))) else (if un8 p0.Kind = 4 then Option.bind (Qhi p0) fun x4 => ((if x4 ≠ 0 then (some (k0, x4)) else Option.bind (Qmq p0 p1 p2) fun x5 => ((some (x5.1, x5.2))))) else none)))
def Qil (p0 : Qa7) (p1 : Qae) (p2 : Qaa) : Option (W2 × Int) := (if p0.Kind < 1#8 then (Qin p0 p1 p2 true) else (Qin p0 p1 p2 (decide ((5 : Int) ≤ un8 p0.Kind))))
def Qny (p2 : Qad) (p3 : Qai) (x1 : Int) (a6 : W2) (a7 : Int) : Option (Int × Qad) := (if a7 ≠ 0 then (some (a7, p2)) else Option.bind (Qk8 a6 p3) fun x8 => ((if x8 ≠ p3.Mac then (some (53, p2)) else (some (0, (Qad.mk p2.Secret p2.Ahead (Qbh.mk (if x1 = 0 then (Qbl.mk true p3.Epoch a6) else p2.Slots.a0) (if x1 = 0 then p2.Slots.a1 else (Qbl.mk true p3.Epoch a6)))))))))
def Qku (p0 : Qa7) (p2 : Qad) (p3 : Qai) (x1 : Int) (a4 : Bool) : Option (Int × Qad) := (bif a4 then (some (52, p2)) else Option.bind (Qil p0 p2.Secret p3.Head) fun x9 => ((Qny p2 p3 x1 x9.1 x9.2)))
def Qrx (p0 : Qa7) (p1 : Qfr) (p2 : Qad) (p3 : Qai) (p4 : Int) : Option (Int × Qad) := Option.bind (Qwi p3.Epoch 2) fun x1 => (Option.bind (Qg0 [p2.Slots.a0, p2.Slots.a1] x1) fun y2 => (Option.bind (Qnj p1 p4 p3.Epoch) fun x3 => ((bif (!x3) then (some (51, p2)) else (bif y2.Full then (Qku p0 p2 p3 x1 (decide (p3.Epoch ≤ y2.Epoch))) else (Qku p0 p2 p3 x1 false))))))
def Qov (p2 : Qai) (x7 : W2) (a9 : W2) (a10 : Int) : Option (List (BitVec 8) × Int) := (if a10 ≠ 0 then (some ([], a10)) else (if a9 ≠ p2.Mac then (some ([], 53)) else Option.bind (Qly x7 p2.Number p2.Data) fun x11 => ((some (x11.1, x11.2)))))
def Qm9 (p2 : Qai) (x1 : Int × Bool) (y5 : Qbl) (a6 : Bool) : Option (List (BitVec 8) × Int) := (bif a6 then (some ([], 6)) else Option.bind (Qr0 y5.Key x1.1) fun x7 => (Option.bind (Qoc p2) fun x12 => (Option.bind (Qok x7 x12) fun x13 => ((Qov p2 x7 x13.1 x13.2)))))
def Qtr (p0 : Qfr) (p1 : Qad) (p2 : Qai) (p3 : Int) : Option (List (BitVec 8) × Int) := Option.bind (Qnc p0 p3 p2.Low) fun x1 => ((bif (!x1.2) then (some ([], 51)) else Option.bind (Qzh p0.Epoch p0.Word) fun x2 => (Option.bind (Qzh x1.1 x2) fun x3 => (Option.bind (Qwi x3 2) fun x4 => (Option.bind (Qg0 [p1.Slots.a0, p1.Slots.a1] x4) fun y5 => ((bif (!y5.Full) then (Qm9 p2 x1 y5 true) else (Qm9 p2 x1 y5 (decide (y5.Epoch ≠ x3))))))))))
def Qls (x4 : List Qb8) (a5 : Int) (a6 : List (BitVec 8)) (a8 : Int) (a9 : Qah) (a10 : Int) (a11 : Qbh) : Option (Qad × List (BitVec 8) × Int) := (if a5 ≠ 0 then (some ((Qad.mk (Qae.mk 0 [] (Qah.mk 0#64 0#64)) 0 (Qbh.mk (Qbl.mk false 0 k0) (Qbl.mk false 0 k0))), [], a5)) else (some ((Qad.mk (Qae.mk a8 x4 a9) a10 a11), a6, 0)))
def Qm3 (p0 : Qa7) (p1 : Qfr) (p2 : Qad) (p3 : Qai) (p4 : Int) (a3 : Int) : Option (Qad × List (BitVec 8) × Int) := (if a3 ≠ 0 then (some ((Qad.mk (Qae.mk 0 [] (Qah.mk 0#64 0#64)) 0 (Qbh.mk (Qbl.mk false 0 k0) (Qbl.mk false 0 k0))), [], a3)) else Option.bind (Qkn p2.Secret.Labels) fun x4 => ((if p3.Kind = 1#8 then Option.bind (Qrx p0 p1 (Qad.mk (Qae.mk p2.Secret.Receiver x4 p2.Secret.Share) p2.Ahead p2.Slots) p3 (w64 (p4 + p2.Ahead))) fun x12 => ((Qls x4 x12.1 [] x12.2.Secret.Receiver x12.2.Secret.Share x12.2.Ahead x12.2.Slots)) else Option.bind (Qtr p1 (Qad.mk (Qae.mk p2.Secret.Receiver x4 p2.Secret.Share) p2.Ahead p2.Slots) p3 (w64 (p4 + p2.Ahead))) fun x13 => ((Qls x4 x13.2 x13.1 p2.Secret.Receiver p2.Secret.Share p2.Ahead p2.Slots)))))
def Qm7 (p0 : Qa7) (p1 : Qfr) (p2 : Qad) (p3 : Qai) (p4 : Int) (a2 : Int) (a14 : Bool) : Option (Qad × List (BitVec 8) × Int) := (bif a14 then (Qm3 p0 p1 p2 p3 p4 2) else (Qm3 p0 p1 p2 p3 p4 a2))
def Qm8 (p0 : Qa7) (p1 : Qfr) (p2 : Qad) (p3 : Qai) (p4 : Int) (a2 : Int) : Option (Qad × List (BitVec 8) × Int) := (if a2 = 0 then Option.bind (Qdg p4) fun x15 => ((Qm7 p0 p1 p2 p3 p4 a2 (!x15))) else (Qm7 p0 p1 p2 p3 p4 a2 false))
def Qmd (p0 : Qa7) (p1 : Qfr) (p2 : Qad) (p3 : Qai) (p4 : Int) : Option (Qad × List (BitVec 8) × Int) := Option.bind (Qrs p0 p1 p2) fun x1 => ((if x1 = 0 then Option.bind (Qks p3) fun x16 => ((Qm8 p0 p1 p2 p3 p4 x16)) else (Qm8 p0 p1 p2 p3 p4 x1)))
end
end Go.Sx

end
section

end
section

end
section
set_option linter.unusedVariables false
set_option maxRecDepth 100000
namespace Go.Sx
open Go Go.RowKit
noncomputable section
def Qvu (p0 : Qae) (p1 : Qai) : Option (Bool) := (if (100 : Int) < (p0.Labels.length : Int) then (some true) else (if (100 : Int) < (p1.Head.Items.length : Int) then (some true) else (if (50 : Int) < (p1.Head.Points.length : Int) then (some true) else (some (decide ((1000 : Int) < (p1.Data.length : Int)))))))
def Qha (p0 : Qaa) (p1 : Qaa) (rec3 : (Int) → Option (Bool)) (a7 : Int) : Option (Bool) := (if a7 < (p0.Points.length : Int) then Option.bind (Qg0 p0.Points a7) fun y8 => (Option.bind (Qg0 p1.Points a7) fun y9 => ((if y8 ≠ y9 then (some false) else (rec3 (w64 (a7 + 1)))))) else (some true))
def Qh2 (p0 : Qaa) (p1 : Qaa) (rec2 : (Int) → Option (Bool)) (a3 : Int) : Option (Bool) := (if a3 < (p0.Items.length : Int) then Option.bind (Qg0 p0.Items a3) fun y4 => (Option.bind (Qg0 p1.Items a3) fun y5 => ((if y4 ≠ y5 then (some false) else (rec2 (w64 (a3 + 1)))))) else (Qc3 (Qha p0 p1) Qcw 0))
def Qdc (p0 : Qaa) (p1 : Qaa) (a1 : Bool) : Option (Bool) := (bif a1 then (some false) else (Qc3 (Qh2 p0 p1) Qcw 0))
def Qpq (p0 : Qaa) (p1 : Qaa) : Option (Bool) := (if (p0.Items.length : Int) ≠ (p1.Items.length : Int) then (Qdc p0 p1 true) else (if (p0.Points.length : Int) ≠ (p1.Points.length : Int) then (Qdc p0 p1 true) else (if p0.Base ≠ p1.Base then (Qdc p0 p1 true) else (if p0.Box ≠ p1.Box then (Qdc p0 p1 true) else (Qdc p0 p1 (decide (p0.Check ≠ p1.Check)))))))
end
end Go.Sx

end
section
set_option linter.unusedVariables false
set_option maxRecDepth 100000
namespace Go.Sx
open Go Go.RowKit
noncomputable section
def Qed  : Option (Qfr) := (some (Qfr.mk 100 10 20 6 2))
def Qip (p0 : List Int) (p1 : List Int) (rec1 : (Int) → Option (Bool)) (a2 : Int) : Option (Bool) := (if a2 < (p0.length : Int) then Option.bind (Qg0 p0 a2) fun y3 => (Option.bind (Qg0 p1 a2) fun y4 => ((if y3 ≠ y4 then (some false) else (rec1 (w64 (a2 + 1)))))) else (some true))
def Qnx (p0 : List Int) (p1 : List Int) : Option (Bool) := (if (p0.length : Int) ≠ (p1.length : Int) then (some false) else (Qc3 (Qip p0 p1) Qcw 0))
def Qhm  : Option (Qa7) := (some (Qa7.mk 2#8 2 0 (Qei.mk 0#64 0#64 0#64)))
def Qnq (a14 : Qai) (a20 : Qai) (a30 : Qad) (a33 : Int) (a37 : Int) (a38 : List (BitVec 8)) : Option (Bool) := Option.bind (Qhm) fun x40 => (Option.bind (Qed) fun x41 => (Option.bind (Qmd x40 x41 a30 a14 90) fun x42 => (Option.bind (Qhm) fun x43 => (Option.bind (Qed) fun x44 => (Option.bind (Qmd x43 x44 a30 a20 97) fun x45 => ((if a33 = 0 then (if a37 = 0 then (if a38 = [97#8, 98#8, 99#8] then (if x42.2.2 = 6 then (some (decide (x45.2.2 = 6))) else (some false)) else (some false)) else (some false)) else (some false))))))))
def Qnv (a14 : Qai) (a20 : Qai) (a30 : Qad) (a33 : Int) (a35 : Qad) : Option (Bool) := Option.bind (Qhm) fun x46 => (Option.bind (Qed) fun x47 => (Option.bind (Qmd x46 x47 a35 a20 97) fun x48 => ((Qnq a14 a20 a30 a33 x48.2.2 x48.2.1))))
def Qhq (a14 : Qai) (a20 : Qai) (a26 : Qad) (a30 : Qad) (a32 : Bool) : Option (Bool) := (bif a32 then (some false) else Option.bind (Qhm) fun x55 => (Option.bind (Qed) fun x56 => (Option.bind (Qmd x55 x56 a26 a14 90) fun x57 => ((Qnv a14 a20 a30 x57.2.2 x57.1)))))
def Qnp (a12 : Int) (a14 : Qai) (a18 : Int) (a20 : Qai) (a24 : Int) (a26 : Qad) (a28 : Int) (a30 : Qad) : Option (Bool) := (if a12 ≠ 0 then (Qhq a14 a20 a26 a30 true) else (if a18 ≠ 0 then (Qhq a14 a20 a26 a30 true) else (if a24 ≠ 0 then (Qhq a14 a20 a26 a30 true) else (Qhq a14 a20 a26 a30 (decide (a28 ≠ 0))))))
def Qo2 (a12 : Int) (a14 : Qai) (a18 : Int) (a20 : Qai) (a24 : Int) (a26 : Qad) : Option (Bool) := Option.bind (Qhm) fun x64 => (Option.bind (Qed) fun x65 => (Option.bind (Qsq (72623842526232576#64, 0#64) x64 x65 2 0) fun x66 => ((Qnp a12 a14 a18 a20 a24 a26 x66.2 x66.1))))
def Qnr (a12 : Int) (a14 : Qai) (a18 : Int) (a20 : Qai) : Option (Bool) := Option.bind (Qhm) fun x73 => (Option.bind (Qed) fun x74 => (Option.bind (Qsq (72623842526232576#64, 0#64) x73 x74 1 6) fun x75 => ((Qo2 a12 a14 a18 a20 x75.2 x75.1))))
def Ql0 (a12 : Int) (a14 : Qai) : Option (Bool) := Option.bind (Qed) fun x82 => (Option.bind (Qp6 (72623842526232576#64, 0#64) x82 95 5#64 [97#8, 98#8, 99#8]) fun x83 => ((Qnr a12 a14 x83.2 x83.1)))
def Qca (a11 : Bool) : Option (Bool) := (bif a11 then (some false) else Option.bind (Qhm) fun x106 => (Option.bind (Qo9 (72623842526232576#64, 0#64) x106 0 [2]) fun x107 => ((Ql0 x107.2 x107.1))))
def Qmn  : Option (Bool) := Option.bind (Qed) fun x1 => (Option.bind (Qm6 x1 95) fun x2 => (Option.bind (Qed) fun x3 => (Option.bind (Ql1 x3 95) fun x4 => (Option.bind (Qed) fun x5 => (Option.bind (Qvi x5 95) fun x6 => (Option.bind (Qed) fun x7 => (Option.bind (Qoz x7 101 1#8) fun x8 => (Option.bind (Qed) fun x9 => (Option.bind (Qpz x9 107 0) fun x10 => ((if x2.2 ≠ 0 then (Qca true) else (if x2.1 ≠ 0 then (Qca true) else (if x4.2 ≠ 0 then (Qca true) else (if x4.1 ≠ 9 then (Qca true) else (if x6.2 ≠ 0 then (Qca true) else Option.bind (Qnx x6.1 [0, 1]) fun x119 => ((bif (!x119) then (Qca true) else (if x8.2 ≠ 0 then (Qca true) else (if x8.1 ≠ 9 then (Qca true) else (if x10.2 ≠ 0 then (Qca true) else (Qca (!x10.1))))))))))))))))))))))
end
end Go.Sx

end
section

end
section
set_option linter.unusedVariables false
set_option maxRecDepth 100000
namespace Go.Sx
open Go Go.RowKit
noncomputable section
def Qdf (p0 : Qfr) (a2 : Bool) : Option (Bool) := (bif a2 then (some false) else (if w64 ((w64 (2 * p0.Drift)) + p0.Delay) < w64 (3 * p0.Word) then (some (decide (w64 (p0.Early + p0.Delay) ≤ p0.Epoch))) else (some false)))
def Qdx (p0 : Qfr) (a1 : Bool) : Option (Bool) := (bif a1 then (some false) else (if p0.Early < 0 then (Qdf p0 true) else (if p0.Drift < 0 then (Qdf p0 true) else (if p0.Delay < 0 then (Qdf p0 true) else (if p0.Epoch < p0.Early then (Qdf p0 true) else (if (3000 : Int) < p0.Drift then (Qdf p0 true) else (Qdf p0 (decide ((3000 : Int) < p0.Delay)))))))))
def Qrf (p0 : Qfr) : Option (Bool) := (if p0.Word < 1 then (Qdx p0 true) else (if (1000 : Int) < p0.Word then (Qdx p0 true) else (if p0.Epoch < p0.Word then (Qdx p0 true) else (if w64 (1000 * p0.Word) < p0.Epoch then (Qdx p0 true) else Option.bind (Qwi p0.Epoch p0.Word) fun x3 => ((Qdx p0 (decide (x3 ≠ 0))))))))
end
end Go.Sx

end
section

end
section
set_option linter.unusedVariables false
set_option maxRecDepth 100000
namespace Go.Sx
open Go Go.RowKit
noncomputable section
def Qja (p0 : List Int) (p1 : Int) (rec1 : (Int) → Option (Bool)) (a2 : Int) : Option (Bool) := (if a2 < (p0.length : Int) then Option.bind (Qg0 p0 a2) fun y3 => ((if y3 = p1 then (some true) else (rec1 (w64 (a2 + 1))))) else (some false))
def Qsm (p0 : List Int) (p1 : Int) : Option (Bool) := (Qc3 (Qja p0 p1) Qcw 0)
def Qda (p0 : W2) (p1 : Qa7) (p2 : Int) (p3 : List Int) (p4 : Int) (x1 : Bool) (x3 : Qaa × Int) (x4 : Qae × Int) (a5 : Bool) : Option (Bool) := (bif a5 then (some x1) else Option.bind (Qil p1 x4.1 x3.1) fun x6 => (Option.bind (Qsm p3 p4) fun x7 => ((bif x7 then (bif x1 then (some (decide (x6.2 = 6))) else (some false)) else (bif x1 then (if x6.2 = 0 then Option.bind (Qe5 p0 p2) fun x8 => ((some (decide (x6.1 = x8)))) else (some false)) else (some false))))))
def Qfj (p0 : W2) (p1 : Qa7) (p2 : Int) (p3 : List Int) (p4 : Int) (x1 : Bool) (a2 : Bool) : Option (Bool) := (bif a2 then (some x1) else Option.bind (Qjh p0 p1 p2 p3) fun x3 => (Option.bind (Qf0 p0 p1 p4) fun x4 => ((if x3.2 ≠ 0 then (Qda p0 p1 p2 p3 p4 x1 x3 x4 true) else (Qda p0 p1 p2 p3 p4 x1 x3 x4 (decide (x4.2 ≠ 0)))))))
def Qj5 (p0 : W2) (p1 : Qa7) (p2 : Int) (p3 : List Int) (p4 : Int) : Option (Bool) := Option.bind (Qmn) fun x1 => ((if (100 : Int) < (p3.length : Int) then (Qfj p0 p1 p2 p3 p4 x1 true) else (Qfj p0 p1 p2 p3 p4 x1 (!x1))))
end
end Go.Sx

end
section
set_option linter.unusedVariables false
set_option linter.unusedSimpArgs false
set_option maxRecDepth 100000
namespace Go.Sx
open Go Go.RowKit Go.Proofs
theorem Xge {H : Type} {enc : TypeId × Value → H} {W : World} {fuel : Nat} {cs : List Value} {x : DataW H × List MemPlace} (h : Tr enc Tryz.prog W fuel 26 cs x) : ∃ (m : Qei), cs = Qei.cs m := by
  obtain ⟨xs, n, rfl, rfl, hl, hx, hf⟩ := DataW.trod_struct Tryz.underlying26 h
  replace hl : cs.length = 3 := hl.trans (by kernel_rfl)
  replace hx : xs.length = 3 := hx
  obtain ⟨y0, e0⟩ := Qrk (i := 0) hx rfl
  have h0 : Tr enc Tryz.prog W n 24 ((cs.drop 0).take 1) y0 := fld hf (i := 0) rfl rfl rfl (by kernel_rfl) e0
  obtain ⟨m0, c0⟩ := Xip Tryz.underlying24 h0
  obtain ⟨y1, e1⟩ := Qrk (i := 1) hx rfl
  have h1 : Tr enc Tryz.prog W n 24 ((cs.drop 1).take 1) y1 := fld hf (i := 1) rfl rfl rfl (by kernel_rfl) e1
  obtain ⟨m1, c1⟩ := Xip Tryz.underlying24 h1
  obtain ⟨y2, e2⟩ := Qrk (i := 2) hx rfl
  have h2 : Tr enc Tryz.prog W n 24 ((cs.drop 2).take 1) y2 := fld hf (i := 2) rfl rfl rfl (by kernel_rfl) e2
  obtain ⟨m2, c2⟩ := Xip Tryz.underlying24 h2
  have q := Xhd hl
  replace q := Qpc (o := 2) (k := 1) c2 q
  replace q := Qpc (o := 1) (k := 1) c1 q
  replace q := Qpc (o := 0) (k := 1) c0 q
  exact ⟨⟨m0, m1, m2⟩, q⟩
def Qa7.ok (x : Qa7) : Prop := I64 x.Depth ∧ I64 x.Degree
theorem Xeq {H : Type} {enc : TypeId × Value → H} {W : World} {fuel : Nat} {cs : List Value} {x : DataW H × List MemPlace} (h : Tr enc Tryz.prog W fuel 28 cs x) : ∃ (m : Qa7), cs = Qa7.cs m ∧ Qa7.ok m := by
  obtain ⟨xs, n, rfl, rfl, hl, hx, hf⟩ := DataW.trod_struct Tryz.underlying28 h
  replace hl : cs.length = 6 := hl.trans (by kernel_rfl)
  replace hx : xs.length = 4 := hx
  obtain ⟨y0, e0⟩ := Qrk (i := 0) hx rfl
  have h0 : Tr enc Tryz.prog W n 5 ((cs.drop 0).take 1) y0 := fld hf (i := 0) rfl rfl rfl (by kernel_rfl) e0
  obtain ⟨m0, c0⟩ := Xs6 Tryz.underlying5 h0
  obtain ⟨y1, e1⟩ := Qrk (i := 1) hx rfl
  have h1 : Tr enc Tryz.prog W n 3 ((cs.drop 1).take 1) y1 := fld hf (i := 1) rfl rfl rfl (by kernel_rfl) e1
  obtain ⟨m1, c1, k1⟩ := Xil Tryz.underlying3 h1
  obtain ⟨y2, e2⟩ := Qrk (i := 2) hx rfl
  have h2 : Tr enc Tryz.prog W n 3 ((cs.drop 2).take 1) y2 := fld hf (i := 2) rfl rfl rfl (by kernel_rfl) e2
  obtain ⟨m2, c2, k2⟩ := Xil Tryz.underlying3 h2
  obtain ⟨y3, e3⟩ := Qrk (i := 3) hx rfl
  have h3 : Tr enc Tryz.prog W n 26 ((cs.drop 3).take 3) y3 := fld hf (i := 3) rfl rfl rfl (by kernel_rfl) e3
  obtain ⟨m3, c3⟩ := Xge h3
  have q := Xhd hl
  replace q := Qpc (o := 3) (k := 3) c3 q
  replace q := Qpc (o := 2) (k := 1) c2 q
  replace q := Qpc (o := 1) (k := 1) c1 q
  replace q := Qpc (o := 0) (k := 1) c0 q
  exact ⟨⟨m0, m1, m2, m3⟩, q, ⟨k1, k2⟩⟩
end Go.Sx

end
section
set_option linter.unusedVariables false
set_option linter.unusedSimpArgs false
namespace Go.Proofs.YtjdffpglgkefmaaGreat
open Go Go.RowKit Go.Sx
theorem Xj4 : CV Tryz.prog 3 150 .u64 := fun _ _ _ => by kernel_rfl
theorem Qph : ZV Tryz.prog 233 (.agg [.int .u64 0, .int .u64 0].toArray) := fun _ => by kernel_rfl
theorem Qkx : FA Tryz.prog 233 0 0 := fun _ _ _ => by kernel_rfl
theorem Qb5 : One Tryz.prog 24 := fun _ => ⟨by kernel_rfl, by kernel_rfl⟩
theorem Qk6 : FA Tryz.prog 233 1 1 := fun _ _ _ => by kernel_rfl
theorem Xdu : En Tryz.prog 233 := fun _ _ => by kernel_rfl
theorem Xao : BS Tryz.prog 233 (fun i => [(0, 1), (1, 1)][i]?) [.int .u64 0, .int .u64 0] := Qr5 Tryz.underlying233 Qph ⟨rfl, (Qb5).siz, rfl, (Qb5).siz, trivial⟩
theorem Qfq : Agg Tryz.prog 233 2 := fun _ => ⟨by kernel_rfl, by kernel_rfl⟩
theorem Qos : CV Tryz.prog 5 24 .u64 := fun _ _ _ => by kernel_rfl
theorem Qcu : One Tryz.prog 5 := fun _ => ⟨by kernel_rfl, by kernel_rfl⟩
theorem Qjx : CV Tryz.prog 24 5 .u8 := fun _ _ _ => by kernel_rfl
theorem Qeo : ZV Tryz.prog 23 (.agg [.int .u8 0, .int .u8 0, .int .u8 0, .int .u8 0, .int .u8 0, .int .u8 0, .int .u8 0, .int .u8 0, .int .u8 0, .int .u8 0, .int .u8 0, .int .u8 0, .int .u8 0, .int .u8 0, .int .u8 0, .int .u8 0].toArray) := fun _ => by kernel_rfl
theorem Qak : Agg Tryz.prog 23 16 := fun _ => ⟨by kernel_rfl, by kernel_rfl⟩
abbrev pv (p : W2) : Value := .agg [wv p.1, wv p.2].toArray
set_option maxHeartbeats 1000000 in
theorem Xjf (x : BitVec 64) (k : Int) (s : Nat) (hs : s < 64) (hk : bits .and .u64 (IntKind.u64.wrap k) 63 = (s : Int)) (w : World) :
    Calls Tryz.prog 233 [wv x, .int .i64 k].toArray w fun e w' => ∃ v, e = .returned v ∧ (v = wv (Xce x s) ∧ Gr w w') := by
  refine Qa5 (R := fun v w' => v = wv (Xce x s) ∧ Gr w w') 17 Tryz.func233 rfl rfl rfl ?_
  refine Qa3 ?_
  refine Qao [(0, 0)] rfl rfl rfl ?_
  refine Qar rfl rfl rfl (Qbg rfl) ?_
  refine Qa1 ?_
  refine Qa3 ?_
  refine Qao [(0, 0), (1, 0), (2, 0), (3, 0)] rfl rfl rfl ?_
  refine Qar rfl rfl rfl (Qac rfl) ?_
  refine Qar rfl rfl rfl (Qpb Xj4 rfl) ?_
  refine Qar rfl rfl rfl (Qgs (Qtd (by simp) rfl rfl) (show _ = Value.int .u64 (s : Int) from by rw [hk])) ?_
  refine Qar rfl rfl rfl (Qbg rfl) ?_
  refine Qa1 ?_
  refine Qa3 ?_
  refine Qao [(0, 0), (1, 0), (2, 0), (3, 0), (4, 0), (5, 0), (6, 0), (7, 0), (8, 0)] rfl rfl rfl ?_
  refine Qar rfl rfl rfl (Qac rfl) ?_
  refine Qar rfl rfl rfl (Qac rfl) ?_
  refine Qar rfl rfl rfl (Qw0 rfl rfl (by omega)) ?_
  refine Qar rfl rfl rfl (Qac rfl) ?_
  refine Qar rfl rfl rfl (Qac rfl) ?_
  refine Qar rfl rfl rfl (Qgs (Qi7 rfl rfl) (show _ = Value.int .u64 ((64 - s : Nat) : Int) from by rw [IntKind.wrap_u64]; congr 1; omega)) ?_
  refine Qar rfl rfl rfl (Qym rfl rfl (by omega)) ?_
  refine Qar rfl rfl rfl (Qve rfl rfl) ?_
  refine Qar rfl rfl rfl (Qbg rfl) ?_
  refine Qa1 ?_
  refine Qag ?_
  refine ⟨_, _, rfl, Qml rfl rfl, ?_⟩
  exact ⟨by simp [Xce], (Gr.refl w)⟩
set_option maxHeartbeats 1000000 in
theorem Xgq (p : W2) (k : BitVec 64) (w : World) :
    Calls Tryz.prog 177 [pv p, wv k].toArray w fun e w' => ∃ v, e = .returned v ∧ (v = pv (rnd p k) ∧ Gr w w') := by
  refine Qa5 (R := fun v w' => v = pv (rnd p k) ∧ Gr w w') 21 Tryz.func177 rfl rfl rfl ?_
  refine Qa3 ?_
  refine Qao [(0, 0), (1, 0)] rfl rfl rfl ?_
  refine Qe4 rfl rfl rfl (Qaq rfl (by rfl)) ?_
  rintro _ w1 ⟨b1, rfl, hbw1, Bw1, Gw1⟩
  have z1 := Gw1.size
  have lt2 := Bw1.lt
  refine Qe4 rfl rfl rfl (Qa8 Qph (by rfl)) ?_
  rintro _ w2 ⟨b2, rfl, hbw2, Bw2, Gw2⟩
  have z3 := Gw2.size
  have lt4 := Bw2.lt
  refine Qa1 ?_
  refine Qa3 ?_
  refine Qwj [] [(0, 3), (1, 3), (3, 3), (4, 3), (6, 3), (2, 0), (5, 3), (7, 3), (8, 3)] (by kernel_rfl) (by kernel_rfl) rfl (by kernel_rfl) ?_
  intro w3 Gw3 zw3
  refine Qeq rfl rfl rfl (Kp.refl [] w3) (fun w hS => Qa0 Qkx rfl) ?_
  have B5 := (Bx.gr (Bx.gr Bw1 Gw2) Gw3)
  refine Qeq rfl rfl rfl (Kp.refl [] w3) (fun w hS => Qa2 Qb5 rfl (Bx.kp B5 hS (by simp <;> first | omega | (split <;> omega))) (by rfl)) ?_
  refine Qeq rfl rfl rfl (Kp.refl [] w3) (fun w hS => Qa0 Qk6 rfl) ?_
  refine Qeq rfl rfl rfl (Kp.refl [] w3) (fun w hS => Qa2 Qb5 rfl (Bx.kp B5 hS (by simp <;> first | omega | (split <;> omega))) (by rfl)) ?_
  refine Qeq rfl rfl rfl (Kp.refl [] w3) (fun w hS => Qac rfl) ?_
  refine Xkc rfl rfl rfl (Qh9 Xdu rfl (Xjf _ (-8) 56 (by decide) (by decide) _)) ?_
  rintro _ w4 ⟨rfl, Gw4⟩
  have z6 := Gw4.size
  refine ⟨Gw4, ?_⟩
  have S7 := (Kp.gr (Kp.refl [] w3) Gw4)
  refine Qeq rfl rfl rfl S7 (fun w hS => Qtn rfl rfl) ?_
  refine Qeq rfl rfl rfl S7 (fun w hS => Qy5 rfl rfl) ?_
  refine Qeq rfl rfl rfl S7 (fun w hS => Qbg rfl) ?_
  refine Qa1 ?_
  refine Qa3 ?_
  refine Qao [(0, 0), (1, 0), (2, 0), (3, 0), (4, 0), (5, 0), (6, 0), (7, 0)] rfl rfl rfl ?_
  refine Qar rfl rfl rfl (Qac rfl) ?_
  refine Qar rfl rfl rfl (Qa0 Qk6 rfl) ?_
  have B8 := (Bx.gr B5 Gw4)
  refine Qar rfl rfl rfl (Qa2 Qb5 rfl B8 (by rfl)) ?_
  refine Qe4 rfl rfl rfl (Qh9 Xdu rfl (Xjf _ (3) 3 (by decide) (by decide) _)) ?_
  rintro _ w5 ⟨rfl, Gw5⟩
  have z9 := Gw5.size
  refine Qar rfl rfl rfl (Qac rfl) ?_
  refine Qar rfl rfl rfl (Qy5 rfl rfl) ?_
  refine Qar rfl rfl rfl (Qas Xao rfl rfl) ?_
  have B10 := (Bx.gr (Bx.gr (Bx.gr Bw2 Gw3) Gw4) Gw5)
  refine Qe4 rfl rfl rfl (Qfv (Qfq).siz rfl rfl (by rfl) (by rfl) (by rfl) B10 (by rfl)) ?_
  rintro _ w6 ⟨Bw6, Mw6⟩
  have z11 := Mw6.size
  refine Qa1 ?_
  refine Qag ?_
  have X12 : Gr w w6 := (Gr.md (Gr.trans (Gr.trans (Gr.trans (Gr.trans (Gr.trans (Gr.refl w) Gw1) Gw2) Gw3) Gw4) Gw5) Mw6 (by omega))
  refine ⟨_, _, rfl, Ql7 rfl Qfq rfl Bw6 (by rfl), ?_⟩
  exact ⟨rfl, X12⟩
set_option maxHeartbeats 1000000 in
theorem Xqx (p : W2) (k : BitVec 64) (w : World) :
    Calls Tryz.prog 186 [pv p, wv k].toArray w fun e w' => ∃ v, e = .returned v ∧ (v = pv (Xdl p k) ∧ Gr w w') := by
  refine Qa5 (R := fun v w' => v = pv (Xdl p k) ∧ Gr w w') 21 Tryz.func186 rfl rfl rfl ?_
  refine Qa3 ?_
  refine Qao [(0, 0), (1, 0)] rfl rfl rfl ?_
  refine Qe4 rfl rfl rfl (Qaq rfl (by rfl)) ?_
  rintro _ w1 ⟨b1, rfl, hbw1, Bw1, Gw1⟩
  have z1 := Gw1.size
  have lt2 := Bw1.lt
  refine Qe4 rfl rfl rfl (Qa8 Qph (by rfl)) ?_
  rintro _ w2 ⟨b2, rfl, hbw2, Bw2, Gw2⟩
  have z3 := Gw2.size
  have lt4 := Bw2.lt
  refine Qa1 ?_
  refine Qa3 ?_
  refine Qao [(0, 0), (1, 0), (2, 0), (3, 0), (4, 0), (5, 0), (6, 0)] rfl rfl rfl ?_
  refine Qar rfl rfl rfl (Qa0 Qkx rfl) ?_
  have B5 := (Bx.gr Bw1 Gw2)
  refine Qar rfl rfl rfl (Qa2 Qb5 rfl B5 (by rfl)) ?_
  refine Qar rfl rfl rfl (Qa0 Qk6 rfl) ?_
  refine Qar rfl rfl rfl (Qa2 Qb5 rfl B5 (by rfl)) ?_
  refine Qar rfl rfl rfl (Qy5 rfl rfl) ?_
  refine Qe4 rfl rfl rfl (Qh9 Xdu rfl (Xjf _ (-3) 61 (by decide) (by decide) _)) ?_
  rintro _ w3 ⟨rfl, Gw3⟩
  have z6 := Gw3.size
  refine Qar rfl rfl rfl (Qbg rfl) ?_
  refine Qa1 ?_
  refine Qa3 ?_
  refine Qao [(0, 0), (1, 0), (2, 0), (3, 0), (4, 0), (5, 0), (6, 0), (7, 0), (8, 0), (9, 0)] rfl rfl rfl ?_
  refine Qar rfl rfl rfl (Qa0 Qkx rfl) ?_
  have B7 := (Bx.gr B5 Gw3)
  refine Qar rfl rfl rfl (Qa2 Qb5 rfl B7 (by rfl)) ?_
  refine Qar rfl rfl rfl (Qac rfl) ?_
  refine Qar rfl rfl rfl (Qy5 rfl rfl) ?_
  refine Qar rfl rfl rfl (Qac rfl) ?_
  refine Qar rfl rfl rfl (Qyx rfl rfl) ?_
  refine Qe4 rfl rfl rfl (Qh9 Xdu rfl (Xjf _ (8) 8 (by decide) (by decide) _)) ?_
  rintro _ w4 ⟨rfl, Gw4⟩
  have z8 := Gw4.size
  refine Qar rfl rfl rfl (Qac rfl) ?_
  refine Qar rfl rfl rfl (Qas Xao rfl rfl) ?_
  have B9 := (Bx.gr (Bx.gr Bw2 Gw3) Gw4)
  refine Qe4 rfl rfl rfl (Qfv (Qfq).siz rfl rfl (by rfl) (by rfl) (by rfl) B9 (by rfl)) ?_
  rintro _ w5 ⟨Bw5, Mw5⟩
  have z10 := Mw5.size
  refine Qa1 ?_
  refine Qag ?_
  have X11 : Gr w w5 := (Gr.md (Gr.trans (Gr.trans (Gr.trans (Gr.trans (Gr.refl w) Gw1) Gw2) Gw3) Gw4) Mw5 (by omega))
  refine ⟨_, _, rfl, Ql7 rfl Qfq rfl Bw5 (by rfl), ?_⟩
  exact ⟨rfl, X11⟩
set_option maxHeartbeats 1000000 in
theorem Xbt (p : W2) (w : World) :
    Calls Tryz.prog 175 [kv p].toArray w fun e w' => ∃ v, e = .returned v ∧ (v = pv p ∧ Gr w w') := by
  refine Qa5 (R := fun v w' => v = pv p ∧ Gr w w') 29 Tryz.func175 rfl rfl rfl ?_
  refine Qa3 ?_
  refine Qao [(0, 0), (1, 0)] rfl rfl rfl ?_
  refine Qe4 rfl rfl rfl (Qaq rfl (by rfl)) ?_
  rintro _ w1 ⟨b1, rfl, hbw1, Bw1, Gw1⟩
  have z1 := Gw1.size
  have lt2 := Bw1.lt
  refine Qe4 rfl rfl rfl (Qa8 Qph (by rfl)) ?_
  rintro _ w2 ⟨b2, rfl, hbw2, Bw2, Gw2⟩
  have z3 := Gw2.size
  have lt4 := Bw2.lt
  refine Qa1 ?_
  refine Qa3 ?_
  refine Qao [(0, 0)] rfl rfl rfl ?_
  refine Qe4 rfl rfl rfl (Qa8 Qph (by rfl)) ?_
  rintro _ w3 ⟨b3, rfl, hbw3, Bw3, Gw3⟩
  have z5 := Gw3.size
  have lt6 := Bw3.lt
  refine Qa1 ?_
  refine Qa3 ?_
  refine Qa3 ?_
  refine Qao [(0, 0)] rfl rfl rfl ?_
  refine Qar rfl rfl rfl (Qac rfl) ?_
  refine Qa1 ?_
  refine Qan ?_
  have X7 : Gr w w3 := (Gr.trans (Gr.trans (Gr.trans (Gr.refl w) Gw1) Gw2) Gw3)
  refine Qbj (α := Nat) [4, 5, 6, 7, 8, 9, 10, 11, 12, 13, 14, 15, 16, 17, 18, 19, 20, 21, 22, 23, 24, 25, 26, 27] (fun k => [(5, .int .i64 (k : Int))]) (fun k wr => (k ≤ 8) ∧ Bx wr b3 233 ([wv (p.1 >>> (64 - 8 * k)), wv (p.2 >>> (64 - 8 * k))]) ∧ Kp [b3] w3 wr) (fun k => 8 - k) (0) ?_ ?_ ?_
  · repeat' first | exact trivial | refine ⟨rfl, ?_⟩
  · exact ⟨by omega, (by rw [Nat.mul_zero, Nat.sub_zero, Xia, Xia]; exact Bw3), Kp.refl _ _⟩
  rintro k w4 ⟨hk, Bw4_b3, Kw4⟩
  have z8 := Kw4.size
  refine Qa3 ?_
  refine Qao [(0, 0)] rfl rfl rfl ?_
  refine Qar rfl rfl rfl (Qcd rfl rfl) ?_
  refine Qa1 ?_
  refine Qa3 ?_
  refine Qam rfl (fun h1 => ?_) (fun h1 => ?_)
  · -- h1 True
    replace h1 := of_decide_eq_true h1
    refine Qc4 ?_
    refine Qaz ?_
    refine Qa3 ?_
    refine Qan ?_
    refine Qa3 ?_
    refine Qao [(0, 0), (1, 0)] rfl rfl rfl ?_
    refine Qar rfl rfl rfl (Qac rfl) ?_
    refine Qar rfl rfl rfl (Qbg rfl) ?_
    refine Qa1 ?_
    refine Qwj [b3] [(0, 3), (1, 1), (2, 3), (3, 3), (4, 3), (5, 3), (6, 3), (7, 3), (8, 3), (9, 1), (10, 3), (11, 3), (12, 3), (13, 3), (14, 3), (15, 3), (16, 3), (17, 3), (18, 2), (19, 3), (20, 2)] (by kernel_rfl) (by kernel_rfl) rfl (by kernel_rfl) ?_
    intro w5 Gw5 zw5
    refine Qeq rfl rfl rfl (Kp.refl [b3] w5) (fun w hS => Qa0 Qkx rfl) ?_
    have B9 := (Bx.gr Bw4_b3 Gw5)
    refine Xnb rfl rfl rfl (Gr.refl w5) (fun w hS => Qa2 Qb5 rfl (Bx.gr B9 hS) (by rfl)) ?_
    refine Qeq rfl rfl rfl (Kp.refl [b3] w5) (fun w hS => Qw0 rfl rfl (by omega)) ?_
    refine Qeq rfl rfl rfl (Kp.refl [b3] w5) (fun w hS => Qac rfl) ?_
    refine Qeq rfl rfl rfl (Kp.refl [b3] w5) (fun w hS => Qfu Tryz.underlying23 (Qcu).siz rfl rfl (by omega) (by omega)) ?_
    have B10 := (Bx.gr (Bx.kp (Bx.gr (Bx.gr Bw1 Gw2) Gw3) Kw4 (by simp <;> first | omega | (split <;> omega))) Gw5)
    refine Qeq rfl rfl rfl (Kp.refl [b3] w5) (fun w hS => Qa2 Qcu rfl (Bx.kp B10 hS (by simp <;> first | omega | (split <;> omega))) (by exact Xol p k (by omega))) ?_
    refine Qeq rfl rfl rfl (Kp.refl [b3] w5) (fun w hS => Qt4 Qos rfl (Xah _ _) (by have := Xqo p.1 k; omega)) ?_
    refine Qeq rfl rfl rfl (Kp.refl [b3] w5) (fun w hS => Qve rfl rfl) ?_
    refine Qeq rfl rfl rfl (Kp.refl [b3] w5) (fun w hS => Qa0 Qk6 rfl) ?_
    refine Xnb rfl rfl rfl (Gr.refl w5) (fun w hS => Qa2 Qb5 rfl (Bx.gr B9 hS) (by rfl)) ?_
    refine Qeq rfl rfl rfl (Kp.refl [b3] w5) (fun w hS => Qw0 rfl rfl (by omega)) ?_
    refine Qeq rfl rfl rfl (Kp.refl [b3] w5) (fun w hS => Qac rfl) ?_
    refine Qeq rfl rfl rfl (Kp.refl [b3] w5) (fun w hS => Qer rfl rfl (by omega) (by omega)) ?_
    refine Qeq rfl rfl rfl (Kp.refl [b3] w5) (fun w hS => Qfu Tryz.underlying23 (Qcu).siz rfl rfl (by omega) (by omega)) ?_
    refine Qeq rfl rfl rfl (Kp.refl [b3] w5) (fun w hS => Qa2 Qcu rfl (Bx.kp B10 hS (by simp <;> first | omega | (split <;> omega))) (by exact Xno p k (by omega))) ?_
    refine Qeq rfl rfl rfl (Kp.refl [b3] w5) (fun w hS => Qt4 Qos rfl (Xah _ _) (by have := Xqo p.2 k; omega)) ?_
    refine Qeq rfl rfl rfl (Kp.refl [b3] w5) (fun w hS => Qve rfl rfl) ?_
    refine Qeq rfl rfl rfl (Kp.refl [b3] w5) (fun w hS => Qa0 Qkx rfl) ?_
    refine Xec (b := b3) rfl rfl rfl rfl (Qob (Qb5).siz rfl rfl rfl B9 (by simp)) (by first | exact Or.inl (by simp) | exact Or.inr (by omega)) ?_
    rintro _ w6 ⟨Bw6, Mw6⟩
    have z11 := Mw6.size
    refine ⟨Mw6, ?_⟩
    have S12 := (Kp.md (Kp.refl [b3] w5) Mw6 (by first | exact Or.inl (by simp) | exact Or.inr (by omega)))
    refine Qeq rfl rfl rfl S12 (fun w hS => Qa0 Qk6 rfl) ?_
    refine Xec (b := b3) rfl rfl rfl rfl (Qob (Qb5).siz rfl rfl rfl Bw6 (by simp)) (by first | exact Or.inl (by simp) | exact Or.inr (by omega)) ?_
    rintro _ w7 ⟨Bw7, Mw7⟩
    have z13 := Mw7.size
    refine ⟨Mw7, ?_⟩
    refine Qa9 ?_
    refine Qay ?_
    refine Qaz ?_
    refine Qao [(0, 0), (1, 0)] rfl rfl rfl ?_
    refine Qar rfl rfl rfl (Qer rfl rfl (by omega) (by omega)) ?_
    refine Qar rfl rfl rfl (Qac rfl) ?_
    refine Qa9 ?_
    have K_14 := (Kp.md (Kp.md (Kp.gr Kw4 Gw5) Mw6 (by simp <;> first | omega | (split <;> omega))) Mw7 (by simp <;> first | omega | (split <;> omega)))
    refine ⟨rfl, k + 1, ?_, ⟨?_, ?_, K_14⟩, ?_⟩
    · repeat' first | exact trivial | refine ⟨rfl, ?_⟩
    · omega
    · rw [← Qso _ k (by omega), ← Qso _ k (by omega)]; exact Bw7
    · first | omega | (dsimp only; omega)
  · -- h1 False
    replace h1 := of_decide_eq_false h1
    refine Qbp ?_
    refine Qb4 ?_
    refine Qb4 ?_
    refine Qbq ?_
    refine Qaz ?_
    refine Qa3 ?_
    refine Qao [(0, 0), (1, 0)] rfl rfl rfl ?_
    refine Qar rfl rfl rfl (Qa4 Qfq rfl Bw4_b3 (by rfl)) ?_
    have B15 := (Bx.kp (Bx.gr Bw2 Gw3) Kw4 (by simp <;> first | omega | (split <;> omega)))
    refine Qe4 rfl rfl rfl (Qfv (Qfq).siz rfl rfl (by rfl) (by rfl) (by rfl) B15 (by rfl)) ?_
    rintro _ w8 ⟨Bw8, Mw8⟩
    have z16 := Mw8.size
    refine Qa1 ?_
    refine Qag ?_
    obtain rfl : k = 8 := by omega
    have X17 : Gr w w8 := (Gr.md (Gr.kp X7 Kw4 (by simp <;> first | omega | (split <;> omega))) Mw8 (by omega))
    refine ⟨_, _, rfl, Ql7 rfl Qfq rfl Bw8 (by rfl), ?_⟩
    exact ⟨rfl, X17⟩
set_option maxHeartbeats 1000000 in
theorem Xcn (p : W2) (w : World) :
    Calls Tryz.prog 178 [pv p].toArray w fun e w' => ∃ v, e = .returned v ∧ (v = kv p ∧ Gr w w') := by
  refine Qa5 (R := fun v w' => v = kv p ∧ Gr w w') 29 Tryz.func178 rfl rfl rfl ?_
  refine Qa3 ?_
  refine Qao [(0, 0), (1, 0)] rfl rfl rfl ?_
  refine Qe4 rfl rfl rfl (Qaq rfl (by rfl)) ?_
  rintro _ w1 ⟨b1, rfl, hbw1, Bw1, Gw1⟩
  have z1 := Gw1.size
  have lt2 := Bw1.lt
  refine Qe4 rfl rfl rfl (Qa8 Qeo (by rfl)) ?_
  rintro _ w2 ⟨b2, rfl, hbw2, Bw2, Gw2⟩
  have z3 := Gw2.size
  have lt4 := Bw2.lt
  refine Qa1 ?_
  refine Qa3 ?_
  refine Qao [(0, 0)] rfl rfl rfl ?_
  refine Qe4 rfl rfl rfl (Qa8 Qeo (by rfl)) ?_
  rintro _ w3 ⟨b3, rfl, hbw3, Bw3, Gw3⟩
  have z5 := Gw3.size
  have lt6 := Bw3.lt
  refine Qa1 ?_
  refine Qa3 ?_
  refine Qa3 ?_
  refine Qao [(0, 0)] rfl rfl rfl ?_
  refine Qar rfl rfl rfl (Qac rfl) ?_
  refine Qa1 ?_
  refine Qan ?_
  have X7 : Gr w w3 := (Gr.trans (Gr.trans (Gr.trans (Gr.refl w) Gw1) Gw2) Gw3)
  refine Qbj (α := Nat) [4, 5, 6, 7, 8, 9, 10, 11, 12, 13, 14, 15, 16, 17, 18, 19, 20, 21, 22, 23, 24, 25, 26, 27] (fun k => [(5, .int .i64 (k : Int))]) (fun k wr => (k ≤ 8) ∧ Bx wr b3 23 (Qzc p k) ∧ Kp [b3] w3 wr) (fun k => 8 - k) (0) ?_ ?_ ?_
  · repeat' first | exact trivial | refine ⟨rfl, ?_⟩
  · exact ⟨by omega, (by rw [Xp2]; exact Bw3), Kp.refl _ _⟩
  rintro k w4 ⟨hk, Bw4_b3, Kw4⟩
  have z8 := Kw4.size
  refine Qa3 ?_
  refine Qao [(0, 0)] rfl rfl rfl ?_
  refine Qar rfl rfl rfl (Qcd rfl rfl) ?_
  refine Qa1 ?_
  refine Qa3 ?_
  refine Qam rfl (fun h1 => ?_) (fun h1 => ?_)
  · -- h1 True
    replace h1 := of_decide_eq_true h1
    refine Qc4 ?_
    refine Qaz ?_
    refine Qa3 ?_
    refine Qan ?_
    refine Qa3 ?_
    refine Qao [(0, 0), (1, 0)] rfl rfl rfl ?_
    refine Qar rfl rfl rfl (Qac rfl) ?_
    refine Qar rfl rfl rfl (Qbg rfl) ?_
    refine Qa1 ?_
    refine Qwj [b3] [(0, 3), (1, 3), (2, 3), (3, 3), (4, 3), (5, 3), (6, 3), (7, 3), (8, 3), (9, 3), (10, 3), (11, 3), (12, 3), (13, 3), (14, 3), (15, 3), (16, 3), (17, 3), (18, 2), (19, 3), (20, 2)] (by kernel_rfl) (by kernel_rfl) rfl (by kernel_rfl) ?_
    intro w5 Gw5 zw5
    refine Qeq rfl rfl rfl (Kp.refl [b3] w5) (fun w hS => Qac rfl) ?_
    refine Qeq rfl rfl rfl (Kp.refl [b3] w5) (fun w hS => Qac rfl) ?_
    refine Qeq rfl rfl rfl (Kp.refl [b3] w5) (fun w hS => Qer rfl rfl (by omega) (by omega)) ?_
    refine Qeq rfl rfl rfl (Kp.refl [b3] w5) (fun w hS => Qa0 Qkx rfl) ?_
    have B9 := (Bx.gr (Bx.kp (Bx.gr (Bx.gr Bw1 Gw2) Gw3) Kw4 (by simp <;> first | omega | (split <;> omega))) Gw5)
    refine Qeq rfl rfl rfl (Kp.refl [b3] w5) (fun w hS => Qa2 Qb5 rfl (Bx.kp B9 hS (by simp <;> first | omega | (split <;> omega))) (by rfl)) ?_
    refine Qeq rfl rfl rfl (Kp.refl [b3] w5) (fun w hS => Qac rfl) ?_
    refine Qeq rfl rfl rfl (Kp.refl [b3] w5) (fun w hS => Xdy rfl rfl (by omega) (by omega)) ?_
    refine Qeq rfl rfl rfl (Kp.refl [b3] w5) (fun w hS => Qz8 rfl rfl (by omega) (by omega)) ?_
    refine Qeq rfl rfl rfl (Kp.refl [b3] w5) (fun w hS => Qym rfl rfl (by omega)) ?_
    refine Qeq rfl rfl rfl (Kp.refl [b3] w5) (fun w hS => Qw2 Qjx rfl) ?_
    refine Qeq rfl rfl rfl (Kp.refl [b3] w5) (fun w hS => Qa0 Qk6 rfl) ?_
    refine Qeq rfl rfl rfl (Kp.refl [b3] w5) (fun w hS => Qa2 Qb5 rfl (Bx.kp B9 hS (by simp <;> first | omega | (split <;> omega))) (by rfl)) ?_
    refine Qeq rfl rfl rfl (Kp.refl [b3] w5) (fun w hS => Qac rfl) ?_
    refine Qeq rfl rfl rfl (Kp.refl [b3] w5) (fun w hS => Xdy rfl rfl (by omega) (by omega)) ?_
    refine Qeq rfl rfl rfl (Kp.refl [b3] w5) (fun w hS => Qz8 rfl rfl (by omega) (by omega)) ?_
    refine Qeq rfl rfl rfl (Kp.refl [b3] w5) (fun w hS => Qym rfl rfl (by omega)) ?_
    refine Qeq rfl rfl rfl (Kp.refl [b3] w5) (fun w hS => Qw2 Qjx rfl) ?_
    refine Qeq rfl rfl rfl (Kp.refl [b3] w5) (fun w hS => Qfu Tryz.underlying23 (Qcu).siz rfl rfl (by omega) (by omega)) ?_
    have B10 := (Bx.gr Bw4_b3 Gw5)
    refine Xec (b := b3) rfl rfl rfl rfl (Qob (Qcu).siz rfl rfl rfl B10 (by rw [Qui]; omega)) (by first | exact Or.inl (by simp) | exact Or.inr (by omega)) ?_
    rintro _ w6 ⟨Bw6, Mw6⟩
    have z11 := Mw6.size
    refine ⟨Mw6, ?_⟩
    have S12 := (Kp.md (Kp.refl [b3] w5) Mw6 (by first | exact Or.inl (by simp) | exact Or.inr (by omega)))
    refine Qeq rfl rfl rfl S12 (fun w hS => Qfu Tryz.underlying23 (Qcu).siz rfl rfl (by omega) (by omega)) ?_
    refine Xec (b := b3) rfl rfl rfl rfl (Qob (Qcu).siz rfl rfl rfl Bw6 (by rw [List.length_set, Qui]; omega)) (by first | exact Or.inl (by simp) | exact Or.inr (by omega)) ?_
    rintro _ w7 ⟨Bw7, Mw7⟩
    have z13 := Mw7.size
    refine ⟨Mw7, ?_⟩
    refine Qa9 ?_
    refine Qay ?_
    refine Qaz ?_
    refine Qao [(0, 0), (1, 0)] rfl rfl rfl ?_
    refine Qar rfl rfl rfl (Qer rfl rfl (by omega) (by omega)) ?_
    refine Qar rfl rfl rfl (Qac rfl) ?_
    refine Qa9 ?_
    have K_14 := (Kp.md (Kp.md (Kp.gr Kw4 Gw5) Mw6 (by simp <;> first | omega | (split <;> omega))) Mw7 (by simp <;> first | omega | (split <;> omega)))
    refine ⟨rfl, k + 1, ?_, ⟨?_, ?_, K_14⟩, ?_⟩
    · repeat' first | exact trivial | refine ⟨rfl, ?_⟩
    · omega
    · rw [← Xfx p k (by omega)]; exact Bw7
    · first | omega | (dsimp only; omega)
  · -- h1 False
    replace h1 := of_decide_eq_false h1
    refine Qbp ?_
    refine Qb4 ?_
    refine Qb4 ?_
    refine Qbq ?_
    refine Qaz ?_
    refine Qa3 ?_
    obtain rfl : k = 8 := by omega
    refine Qao [(0, 0), (1, 0)] rfl rfl rfl ?_
    refine Qar rfl rfl rfl (Qa4 Qak rfl Bw4_b3 (by rfl)) ?_
    have B15 := (Bx.kp (Bx.gr Bw2 Gw3) Kw4 (by simp <;> first | omega | (split <;> omega)))
    refine Qe4 rfl rfl rfl (Qfv (Qak).siz rfl rfl (by rfl) (by rfl) (by rfl) B15 (by rfl)) ?_
    rintro _ w8 ⟨Bw8, Mw8⟩
    have z16 := Mw8.size
    refine Qa1 ?_
    refine Qag ?_
    have X17 : Gr w w8 := (Gr.md (Gr.kp X7 Kw4 (by simp <;> first | omega | (split <;> omega))) Mw8 (by omega))
    refine ⟨_, _, rfl, Ql7 rfl Qak rfl Bw8 (by rfl), ?_⟩
    exact ⟨rfl, X17⟩
end Go.Proofs.YtjdffpglgkefmaaGreat

end
section
set_option linter.unusedVariables false
set_option linter.unusedSimpArgs false
namespace Go.Proofs.YtjdffpglgkefmaaGreat
open Go Go.RowKit Go.Sx
theorem Qzs : En Tryz.prog 175 := fun _ _ => by kernel_rfl
theorem Qfp : CV Tryz.prog 3 24 .u64 := fun _ _ _ => by kernel_rfl
theorem Xlm : En Tryz.prog 177 := fun _ _ => by kernel_rfl
theorem Xlg : En Tryz.prog 176 := fun _ _ => by kernel_rfl
theorem Xmf : En Tryz.prog 232 := fun _ _ => by kernel_rfl
theorem Xb2 : En Tryz.prog 178 := fun _ _ => by kernel_rfl
def Quw (k : W2) : List (List Value) := (List.range 32).map fun (i : Nat) => [.int .i64 (i : Int), wv (ks k i).2]
theorem Qq4 (k : W2) : (Quw k).length = 32 := by simp [Quw]
theorem Xa0 (k : W2) (i : Nat) (h : i < 32) : (Quw k)[i]? = some [.int .i64 (i : Int), wv (ks k i).2] := by simp [Quw, h]
set_option maxHeartbeats 1000000 in
theorem Xgi (k : W2) (b : Nat) (w0 : World) (hb : Bx w0 b 23 (kb k)) :
    IT Tryz.prog 232 [.pointer (some ⟨b, 0, none⟩)] (Quw k) [b] w0 := by
  intro l J Jx w fp hG hJ hJx hcap h0 hY
  have Bc0 := Bx.gr hb hG
  have lt1 := Bc0.lt
  refine Qa5 (R := fun v w' => Kp fp w w' ∧ ((∃ fp', (∀ c ∈ fp', c ∈ fp ∨ w.heap.size ≤ c) ∧ J (Quw k).length fp' w') ∨ (∃ j fp', (∀ c ∈ fp', c ∈ fp ∨ w.heap.size ≤ c) ∧ j ≤ (Quw k).length ∧ Jx j fp' w'))) 21 Tryz.func232 rfl rfl rfl ?_
  refine Qa3 ?_
  refine Qao [(0, 0), (1, 0), (2, 0), (3, 0)] rfl rfl rfl ?_
  refine Qar rfl rfl rfl (Qa4 Qak rfl Bc0 (by rfl)) ?_
  refine Qe4 rfl rfl rfl (Qh9 Qzs rfl (Xbt _ _)) ?_
  rintro _ w1 ⟨rfl, Gw1⟩
  have z2 := Gw1.size
  refine Qe4 rfl rfl rfl (Qa8 Qph (by rfl)) ?_
  rintro _ w2 ⟨b2, rfl, hbw2, Bw2, Gw2⟩
  have z3 := Gw2.size
  have lt4 := Bw2.lt
  refine Qe4 rfl rfl rfl (Qfv (Qfq).siz rfl rfl (by rfl) (by rfl) (by rfl) Bw2 (by rfl)) ?_
  rintro _ w3 ⟨Bw3, Mw3⟩
  have z5 := Mw3.size
  refine Qa1 ?_
  refine Qa3 ?_
  refine Qao [(0, 0)] rfl rfl rfl ?_
  refine Qar rfl rfl rfl (Qac rfl) ?_
  refine Qa1 ?_
  refine Qan ?_
  have hz0 : b2 ∉ fp := fun h => by have := hJ.lt h0 b2 h; omega
  have hk0 : Kp fp w w3 := ((Gr.toKp Gw1).gr Gw2).md Mw3 (.inr (by omega))
  have hj0 : J 0 fp w3 := hJ.md (hJ.gr (hJ.gr h0 Gw1) Gw2) Mw3 hz0
  have B6 := (Bx.md (Bx.gr (Bx.gr Bc0 Gw1) Gw2) Mw3 (by omega))
  refine Qbj (α := Nat) [4, 7, 8, 9, 10, 11, 12, 13, 14, 15, 16, 17, 18, 19, 20] (fun i => [(7, .int .i64 (i : Int))]) (fun i wr => (i ≤ 32 ∧ ∃ f, J i f wr ∧ Kp fp w wr ∧ (∀ c ∈ f, c ∈ fp ∨ w.heap.size ≤ c) ∧ b ∉ f ∧ b2 ∉ f) ∧ Bx wr b 23 (kb k) ∧ Bx wr b2 233 ([wv (ks k i).1, wv (ks k i).2]) ∧ True) (fun i => 32 - i) (0) ?_ ?_ ?_
  · repeat' first | exact trivial | refine ⟨rfl, ?_⟩
  · exact ⟨⟨by omega, fp, hj0, hk0, fun c hc => .inl hc, hcap b (by simp), hz0⟩, B6, Bw3, trivial⟩
  rintro i w4 ⟨⟨hi, f, hj, hk, hf, hbf, hpf⟩, Bw4_b, Bw4_b2, Kw4⟩
  have lt7 := Bw4_b.lt
  have lt8 := Bw4_b2.lt
  refine Qa3 ?_
  refine Qao [(0, 0)] rfl rfl rfl ?_
  refine Qar rfl rfl rfl (Qcd rfl rfl) ?_
  refine Qa1 ?_
  refine Qa3 ?_
  refine Qam rfl (fun h1 => ?_) (fun h1 => ?_)
  · -- h1 True
    replace h1 := of_decide_eq_true h1
    refine Qc4 ?_
    refine Qaz ?_
    refine Qa3 ?_
    refine Qan ?_
    refine Qa3 ?_
    refine Qao [(0, 0), (1, 0)] rfl rfl rfl ?_
    refine Qar rfl rfl rfl (Qac rfl) ?_
    refine Qar rfl rfl rfl (Qbg rfl) ?_
    refine Qa1 ?_
    refine Qa3 ?_
    refine Qa3 ?_
    refine Qao [(0, 0), (1, 0), (2, 0), (3, 0), (4, 0), (5, 0)] rfl rfl rfl ?_
    refine Qar rfl rfl rfl (Qac rfl) ?_
    refine Qar rfl rfl rfl (Qac rfl) ?_
    refine Qar rfl rfl rfl (Qa0 Qk6 rfl) ?_
    refine Qar rfl rfl rfl (Qa2 Qb5 rfl Bw4_b2 (by rfl)) ?_
    refine Qe4 rfl rfl rfl (Qqq rfl rfl (hY i _ f _ (Xa0 k i (by omega)) hj hk hf)) ?_
    rintro _ w5 ⟨y1, rfl, Kw5, fw5, Fw5, Jw5⟩
    have z9 := Kw5.size
    have hk5 : Kp fp w w5 := hk.trans Kw5 hf
    have hf5 := Qkz hf Fw5 hk.size
    have hn2 : b2 ∉ fw5 := Qb7 Fw5 hpf lt8
    refine Qar rfl rfl rfl (Qci rfl) ?_
    refine Qa1 ?_
    refine Qam rfl (fun h2 => ?_) (fun h2 => ?_)
    · -- h2 True
      replace h2 := Xrf h2
      subst h2
      refine Qag ?_
      refine Qb2 ?_
      refine Qbo ?_
      refine Qb2 ?_
      refine Qb2 ?_
      refine Qbo ?_
      refine ⟨_, _, rfl, Qh6 rfl, ?_⟩
      exact ⟨hk5, .inr ⟨i + 1, fw5, hf5, by rw [Qq4]; omega, Jw5⟩⟩
    · -- h2 False
      replace h2 := Xsw h2
      subst h2
      refine Qc4 ?_
      refine Qaz ?_
      refine Qao [(0, 0), (1, 0), (2, 0), (3, 0), (4, 0)] rfl rfl rfl ?_
      have B10 := (Bx.kp Bw4_b2 Kw5 hpf)
      refine Qar rfl rfl rfl (Qa4 Qfq rfl B10 (by rfl)) ?_
      refine Qar rfl rfl rfl (Qac rfl) ?_
      refine Qar rfl rfl rfl (Qt4 Qfp rfl (by omega) (by omega)) ?_
      refine Qe4 rfl rfl rfl (Qh9 Xlm rfl (Xgq _ _ _)) ?_
      rintro _ w6 ⟨rfl, Gw6⟩
      have z11 := Gw6.size
      have B12 := (Bx.gr B10 Gw6)
      refine Qe4 rfl rfl rfl (Qfv (Qfq).siz rfl rfl (by rfl) (by rfl) (by rfl) B12 (by rfl)) ?_
      rintro _ w7 ⟨Bw7, Mw7⟩
      have z13 := Mw7.size
      refine Qa9 ?_
      refine Qay ?_
      refine Qaz ?_
      refine Qao [(0, 0), (1, 0)] rfl rfl rfl ?_
      refine Qar rfl rfl rfl (Qer rfl rfl (by omega) (by omega)) ?_
      refine Qar rfl rfl rfl (Qac rfl) ?_
      refine Qa9 ?_
      have B15 := (Bx.md (Bx.gr (Bx.kp Bw4_b Kw5 hbf) Gw6) Mw7 (by omega))
      refine ⟨rfl, i + 1, ?_, ⟨?_, ?_, ?_, trivial⟩, ?_⟩
      · repeat' first | exact trivial | refine ⟨rfl, ?_⟩
      · exact ⟨by omega, fw5, hJ.md (hJ.gr Jw5 Gw6) Mw7 hn2, (hk5.gr Gw6).md Mw7 (.inr (by omega)), hf5, Qb7 Fw5 hbf lt7, hn2⟩
      · exact B15
      · exact Bw7
      · first | omega | (dsimp only; omega)
  · -- h1 False
    replace h1 := of_decide_eq_false h1
    refine Qbp ?_
    refine Qb4 ?_
    refine Qb4 ?_
    refine Qbq ?_
    refine ⟨_, _, rfl, Qh6 rfl, ?_⟩
    obtain rfl : i = 32 := by omega
    exact ⟨hk, .inl ⟨f, hf, by rw [Qq4]; exact hj⟩⟩
set_option maxHeartbeats 1000000 in
theorem Xm3 (k : W2) (w : World) :
    Calls Tryz.prog 176 [kv k].toArray w fun e w' => ∃ v, e = .returned v ∧ (∃ b, v = .func (.func 232) #[] [.pointer (some ⟨b, 0, none⟩)].toArray ∧ w.heap.size ≤ b ∧ Bx w' b 23 (kb k) ∧ Gr w w') := by
  refine Qa5 (R := fun v w' => ∃ b, v = .func (.func 232) #[] [.pointer (some ⟨b, 0, none⟩)].toArray ∧ w.heap.size ≤ b ∧ Bx w' b 23 (kb k) ∧ Gr w w') 4 Tryz.func176 rfl rfl rfl ?_
  refine Qa3 ?_
  refine Qao [(0, 0), (1, 0)] rfl rfl rfl ?_
  refine Qe4 rfl rfl rfl (Qaq rfl (by rfl)) ?_
  rintro _ w1 ⟨b1, rfl, hbw1, Bw1, Gw1⟩
  have z1 := Gw1.size
  have lt2 := Bw1.lt
  refine Qar rfl rfl rfl (Qbg rfl) ?_
  refine Qa1 ?_
  refine Qa3 ?_
  refine Qao [(0, 0), (1, 0)] rfl rfl rfl ?_
  refine Qar rfl rfl rfl (Qfb rfl rfl) ?_
  refine Qar rfl rfl rfl (Qbg rfl) ?_
  refine Qa1 ?_
  refine Qag ?_
  have X3 : Gr w w1 := (Gr.trans (Gr.refl w) Gw1)
  refine ⟨_, _, rfl, Qml rfl rfl, ?_⟩
  exact ⟨b1, rfl, hbw1, Bw1, X3⟩
def Xhy (k b : W2) (n : Nat) : W2 := (List.range n).foldl (fun p i => rnd p (ks k i).2) b
theorem Xex (k b : W2) (n : Nat) : Xhy k b (n + 1) = rnd (Xhy k b n) (ks k n).2 := by simp [Xhy, List.range_succ]
theorem Qxp {k : W2} {i : Nat} {x : List Value} (h : (Quw k)[i]? = some x) : i < 32 ∧ x = [.int .i64 (i : Int), wv (ks k i).2] := by
  have hi : i < 32 := by have := (List.getElem?_eq_some_iff.1 h).1; rwa [Qq4] at this
  rw [Xa0 k i hi] at h; exact ⟨hi, by simpa using h.symm⟩
theorem Qzj (k : W2) : ∀ x ∈ Quw k, x.length = 2 := by intro x hx; simp [Quw] at hx; obtain ⟨i, _, rfl⟩ := hx; rfl
set_option maxHeartbeats 1000000 in
theorem Xar (k b : W2) (w : World) :
    Calls Tryz.prog 96 [kv k, kv b].toArray w fun e w' => ∃ v, e = .returned v ∧ (v = kv (Qw4 k b) ∧ Gr w w') := by
  refine Qa5 (R := fun v w' => v = kv (Qw4 k b) ∧ Gr w w') 19 Tryz.func96 rfl rfl rfl ?_
  refine Qa3 ?_
  refine Qao [(0, 0), (1, 0), (2, 0)] rfl rfl rfl ?_
  refine Qe4 rfl rfl rfl (Qaq rfl (by rfl)) ?_
  rintro _ w1 ⟨b1, rfl, hbw1, Bw1, Gw1⟩
  have z1 := Gw1.size
  have lt2 := Bw1.lt
  refine Qe4 rfl rfl rfl (Qaq rfl (by rfl)) ?_
  rintro _ w2 ⟨b2, rfl, hbw2, Bw2, Gw2⟩
  have z3 := Gw2.size
  have lt4 := Bw2.lt
  refine Qe4 rfl rfl rfl (Qa8 Qeo (by rfl)) ?_
  rintro _ w3 ⟨b3, rfl, hbw3, Bw3, Gw3⟩
  have z5 := Gw3.size
  have lt6 := Bw3.lt
  refine Qa1 ?_
  refine Qa3 ?_
  refine Qao [(0, 0), (1, 0), (2, 0), (3, 0)] rfl rfl rfl ?_
  have B7 := (Bx.gr Bw2 Gw3)
  refine Qar rfl rfl rfl (Qa4 Qak rfl B7 (by rfl)) ?_
  refine Qe4 rfl rfl rfl (Qh9 Qzs rfl (Xbt _ _)) ?_
  rintro _ w4 ⟨rfl, Gw4⟩
  have z8 := Gw4.size
  refine Qe4 rfl rfl rfl (Qa8 Qph (by rfl)) ?_
  rintro _ w5 ⟨b5, rfl, hbw5, Bw5, Gw5⟩
  have z9 := Gw5.size
  have lt10 := Bw5.lt
  refine Qe4 rfl rfl rfl (Qfv (Qfq).siz rfl rfl (by rfl) (by rfl) (by rfl) Bw5 (by rfl)) ?_
  rintro _ w6 ⟨Bw6, Mw6⟩
  have z11 := Mw6.size
  refine Qa1 ?_
  refine Qa3 ?_
  refine Qa3 ?_
  refine Qao [(0, 0), (1, 0)] rfl rfl rfl ?_
  have B12 := (Bx.md (Bx.gr (Bx.gr (Bx.gr (Bx.gr Bw1 Gw2) Gw3) Gw4) Gw5) Mw6 (by omega))
  refine Qar rfl rfl rfl (Qa4 Qak rfl B12 (by rfl)) ?_
  refine Qe4 rfl rfl rfl (Qh9 Xlg rfl (Xm3 _ _)) ?_
  rintro _ w7 ⟨b7, rfl, hb7, Bk7, Gw7⟩
  have z13 := Gw7.size
  have lt14 := Bk7.lt
  refine Qa1 ?_
  refine Qan ?_
  have X15 : Gr w w7 := (Gr.trans (Gr.md (Gr.trans (Gr.trans (Gr.trans (Gr.trans (Gr.trans (Gr.refl w) Gw1) Gw2) Gw3) Gw4) Gw5) Mw6 (by omega)) Gw7)
  have B16 := (Bx.gr Bw6 Gw7)
  refine Qi1 (gf := 232) (xs := Quw k) (cap := [b7]) rfl Xmf (Xgi k b7 _ Bk7) (Qzj k) rfl (fun rk fp W => fp = [b5] ∧ Bx W b5 233 ([wv (Xhy k b rk).1, wv (Xhy k b rk).2])) (fun _ _ _ _ => False) [b5] (Xi8 _ _ _) (fun _ => Qqa) (by simp <;> omega) (⟨rfl, B16⟩) ?_ ?_ ?_
  · rintro l rk x fp w8 hl hx ⟨rfl, Bw8⟩ Kw8 hF hln hlt
    have z17 := Kw8.size
    obtain ⟨hi, rfl⟩ := Qxp hx
    refine Qao [(0, 0)] rfl rfl rfl ?_
    refine Qar rfl rfl rfl (Qbg rfl) ?_
    refine Qa9 ?_
    refine ⟨rfl, (Gr.refl _), ?_⟩
    rintro w9 Mw9 ⟨_, Bw9⟩
    have z18 := Mw9.size
    refine Qan ?_
    refine Qao [(0, 0), (1, 0), (2, 0), (3, 0)] rfl rfl rfl ?_
    refine Qar rfl rfl rfl (Qa4 Qfq rfl Bw9 (by rfl)) ?_
    refine Qar rfl rfl rfl (Qac rfl) ?_
    refine Qe4 rfl rfl rfl (Qh9 Xlm rfl (Xgq _ _ _)) ?_
    rintro _ w10 ⟨rfl, Gw10⟩
    have z19 := Gw10.size
    have B20 := (Bx.gr Bw9 Gw10)
    refine Qe4 rfl rfl rfl (Qfv (Qfq).siz rfl rfl (by rfl) (by rfl) (by rfl) B20 (by rfl)) ?_
    rintro _ w11 ⟨Bw11, Mw11⟩
    have z21 := Mw11.size
    refine Qa9 ?_
    refine Qay ?_
    refine ⟨(Kp.md (Kp.gr (Kp.refl _ _) Gw10) Mw11 (by first | exact Or.inl (by simp) | exact Or.inr (by omega))), _, fun c hc => .inl hc, ?_⟩
    exact ⟨rfl, by rw [Xex]; exact Bw11⟩
  · rintro Dw12 fp w12 hDw12 Dfw12 nw12 ⟨rfl, Bw12⟩ Kw12
    have z22 := Kw12.size
    have lt22 := Df.lt (w := w12) Dfw12
    rw [Qq4] at Bw12
    refine Qay ?_
    refine Qaz ?_
    refine Qa3 ?_
    refine Qao [(0, 0), (1, 0), (2, 0)] rfl rfl rfl ?_
    refine Qar rfl rfl rfl (Qa4 Qfq rfl Bw12 (by rfl)) ?_
    refine Qe4 rfl rfl rfl (Qh9 Xb2 rfl (Xcn _ _)) ?_
    rintro _ w13 ⟨rfl, Gw13⟩
    have z23 := Gw13.size
    have B24 := (Bx.gr (Bx.kp (Bx.gr (Bx.md (Bx.gr (Bx.gr Bw3 Gw4) Gw5) Mw6 (by omega)) Gw7) Kw12 (by simp <;> first | omega | (split <;> omega))) Gw13)
    refine Qe4 rfl rfl rfl (Qfv (Qak).siz rfl rfl (by rfl) (by rfl) (by rfl) B24 (by rfl)) ?_
    rintro _ w14 ⟨Bw14, Mw14⟩
    have z25 := Mw14.size
    refine Qa1 ?_
    refine Qag ?_
    have DL26 := (Df.md (Df.gr Dfw12 Gw13) Mw14 (by omega))
    have L26 := Md.put (w := w14) Dw12 (.deferred none)
    have zL26 := L26.size
    have B27 := (Bx.md Bw14 L26 (by omega))
    have X28 : Gr w (w14.putObj Dw12 (.deferred none)) := (Gr.md (Gr.md (Gr.trans (Gr.kp X15 Kw12 (by simp <;> first | omega | (split <;> omega))) Gw13) Mw14 (by omega)) L26 (by omega))
    refine ⟨_, _, ⟨Dw12, rfl, DL26, rfl⟩, Ql7 rfl Qak rfl B27 (by rfl), ?_⟩
    exact ⟨rfl, X28⟩
  · rintro _ _ _ _ _ _ _ _ _ h _
    exact h.elim
end Go.Proofs.YtjdffpglgkefmaaGreat

end
section
set_option linter.unusedVariables false
set_option linter.unusedSimpArgs false
namespace Go.Proofs.YtjdffpglgkefmaaGreat
open Go Go.RowKit Go.Sx
theorem Xmz : En Tryz.prog 97 := fun _ _ => by kernel_rfl
theorem Xep : En Tryz.prog 96 := fun _ _ => by kernel_rfl
theorem Xq8 : ZV Tryz.prog 247 (.agg [.int .u64 0, .int .u64 0, .int .u64 0, .int .u64 0, .int .u64 0, .int .u64 0, .int .u64 0, .int .u64 0, .int .u64 0, .int .u64 0, .int .u64 0, .int .u64 0, .int .u64 0, .int .u64 0, .int .u64 0, .int .u64 0, .int .u64 0, .int .u64 0, .int .u64 0, .int .u64 0, .int .u64 0, .int .u64 0, .int .u64 0, .int .u64 0, .int .u64 0, .int .u64 0, .int .u64 0, .int .u64 0, .int .u64 0, .int .u64 0, .int .u64 0, .int .u64 0].toArray) := fun _ => by kernel_rfl
theorem Xr0 : En Tryz.prog 186 := fun _ _ => by kernel_rfl
set_option maxHeartbeats 1000000 in
theorem Xh5 (tag : Int) (h0 : 0 ≤ tag) (h1 : tag ≤ 255) (c n : BitVec 64) (w : World) :
    Calls Tryz.prog 97 [.int .u8 tag, wv c, wv n].toArray w fun e w' => ∃ v, e = .returned v ∧ (v = kv (blk tag c n) ∧ Gr w w') := by
  refine Qa5 (R := fun v w' => v = kv (blk tag c n) ∧ Gr w w') 15 Tryz.func97 rfl rfl rfl ?_
  refine Qa3 ?_
  refine Qao [(0, 0)] rfl rfl rfl ?_
  refine Qe4 rfl rfl rfl (Qa8 Qeo (by rfl)) ?_
  rintro _ w1 ⟨b1, rfl, hbw1, Bw1, Gw1⟩
  have z1 := Gw1.size
  have lt2 := Bw1.lt
  refine Qa1 ?_
  refine Qa3 ?_
  refine Qao [(0, 0), (1, 0), (2, 0), (3, 0), (4, 0), (5, 0), (6, 0), (7, 0), (8, 0)] rfl rfl rfl ?_
  refine Qar rfl rfl rfl (Qac rfl) ?_
  refine Qar rfl rfl rfl (Qt4 Qos rfl (by omega) (by omega)) ?_
  refine Qar rfl rfl rfl (Qw0 rfl rfl (by omega)) ?_
  refine Qar rfl rfl rfl (Qac rfl) ?_
  refine Qar rfl rfl rfl (Qve rfl rfl) ?_
  refine Qar rfl rfl rfl (Qac rfl) ?_
  refine Qar rfl rfl rfl (Qas Xao rfl rfl) ?_
  refine Qe4 rfl rfl rfl (Qh9 Xb2 rfl (Xcn (blk tag c n) _)) ?_
  rintro _ w2 ⟨rfl, Gw2⟩
  have z3 := Gw2.size
  have B4 := (Bx.gr Bw1 Gw2)
  refine Qe4 rfl rfl rfl (Qfv (Qak).siz rfl rfl (by rfl) (by rfl) (by rfl) B4 (by rfl)) ?_
  rintro _ w3 ⟨Bw3, Mw3⟩
  have z5 := Mw3.size
  refine Qa1 ?_
  refine Qag ?_
  have X6 : Gr w w3 := (Gr.md (Gr.trans (Gr.trans (Gr.refl w) Gw1) Gw2) Mw3 (by omega))
  refine ⟨_, _, rfl, Ql7 rfl Qak rfl Bw3 (by rfl), ?_⟩
  exact ⟨rfl, X6⟩
set_option maxHeartbeats 1000000 in
theorem Qes (k : W2) (tag : Int) (h0 : 0 ≤ tag) (h1 : tag ≤ 255) (n : BitVec 64) (w : World) :
    Calls Tryz.prog 48 [kv k, .int .u8 tag, wv n].toArray w fun e w' => ∃ v, e = .returned v ∧ (v = kv (drv k tag n) ∧ Gr w w') := by
  refine Qa5 (R := fun v w' => v = kv (drv k tag n) ∧ Gr w w') 12 Tryz.func48 rfl rfl rfl ?_
  refine Qa3 ?_
  refine Qao [(0, 0), (1, 0)] rfl rfl rfl ?_
  refine Qe4 rfl rfl rfl (Qaq rfl (by rfl)) ?_
  rintro _ w1 ⟨b1, rfl, hbw1, Bw1, Gw1⟩
  have z1 := Gw1.size
  have lt2 := Bw1.lt
  refine Qe4 rfl rfl rfl (Qa8 Qeo (by rfl)) ?_
  rintro _ w2 ⟨b2, rfl, hbw2, Bw2, Gw2⟩
  have z3 := Gw2.size
  have lt4 := Bw2.lt
  refine Qa1 ?_
  refine Qa3 ?_
  refine Qwj [b2] [(0, 3), (1, 3), (2, 3), (3, 0), (4, 0), (5, 2)] (by kernel_rfl) (by kernel_rfl) rfl (by kernel_rfl) ?_
  intro w3 Gw3 zw3
  have B5 := (Bx.gr (Bx.gr Bw1 Gw2) Gw3)
  refine Qeq rfl rfl rfl (Kp.refl [b2] w3) (fun w hS => Qa4 Qak rfl (Bx.kp B5 hS (by simp <;> first | omega | (split <;> omega))) (by rfl)) ?_
  refine Qeq rfl rfl rfl (Kp.refl [b2] w3) (fun w hS => Qac rfl) ?_
  refine Qeq rfl rfl rfl (Kp.refl [b2] w3) (fun w hS => Qac rfl) ?_
  refine Xkc rfl rfl rfl (Qh9 Xmz rfl (Xh5 _ (by omega) (by omega) 0#64 _ _)) ?_
  rintro _ w4 ⟨rfl, Gw4⟩
  have z6 := Gw4.size
  refine ⟨Gw4, ?_⟩
  refine Xkc rfl rfl rfl (Qh9 Xep rfl (Xar _ _ _)) ?_
  rintro _ w5 ⟨rfl, Gw5⟩
  have z7 := Gw5.size
  refine ⟨Gw5, ?_⟩
  have B8 := (Bx.gr (Bx.gr (Bx.gr Bw2 Gw3) Gw4) Gw5)
  refine Xec (b := b2) rfl rfl rfl rfl (Qfv (Qak).siz rfl rfl (by rfl) (by rfl) (by rfl) B8 (by rfl)) (by first | exact Or.inl (by simp) | exact Or.inr (by omega)) ?_
  rintro _ w6 ⟨Bw6, Mw6⟩
  have z9 := Mw6.size
  refine ⟨Mw6, ?_⟩
  refine Qa1 ?_
  refine Qag ?_
  have X10 : Gr w w6 := (Gr.md (Gr.trans (Gr.trans (Gr.trans (Gr.trans (Gr.trans (Gr.refl w) Gw1) Gw2) Gw3) Gw4) Gw5) Mw6 (by omega))
  refine ⟨_, _, rfl, Ql7 rfl Qak rfl Bw6 (by rfl), ?_⟩
  exact ⟨rfl, X10⟩
def Xk6 (k : W2) (n : Nat) : List Value := (List.range 32).map fun i => if i < n then wv (ks k i).2 else .int .u64 0
theorem Xju (k : W2) (n : Nat) : (Xk6 k n).length = 32 := by simp [Xk6]
theorem Xsg (k : W2) : Xk6 k 0 = List.replicate 32 (.int .u64 0) := by rfl
theorem Xkl (k : W2) (n : Nat) (h : n < 32) : (Xk6 k n).set (0 + (n : Int).toNat * 1) (wv (ks k n).2) = Xk6 k (n + 1) := by
  have e : 0 + (n : Int).toNat * 1 = n := by omega
  rw [e]
  apply List.ext_getElem?
  intro i
  rw [List.getElem?_set]
  unfold Xk6
  by_cases hi : i < 32
  · by_cases h2 : n = i
    · subst h2; simp [h]
    · have : (i < n + 1) = (i < n) := by apply propext; omega
      simp [h2, hi, this]
  · simp [hi]; omega
theorem Xj8 (k : W2) (n : Nat) (h : n < 32) : (Xk6 k 32)[0 + ((n : Int) + 1 - 1).toNat * 1]? = some (wv (ks k n).2) := by
  have e : 0 + ((n : Int) + 1 - 1).toNat * 1 = n := by omega
  rw [e]; simp [Xk6, h]
theorem Xei (k b : W2) (j : Nat) (h : j < 32) : Xes k b j = Xdl (Xes k b (j + 1)) (ks k j).2 := by
  unfold Xes
  rw [show 32 - j = 32 - (j + 1) + 1 from by omega, List.range_succ, List.foldl_append, List.foldl_cons, List.foldl_nil, show 31 - (32 - (j + 1)) = j from by omega]
set_option maxHeartbeats 1000000 in
theorem Xe7 (k b : W2) (w : World) :
    Calls Tryz.prog 111 [kv k, kv b].toArray w fun e w' => ∃ v, e = .returned v ∧ (v = kv (Xet k b) ∧ Gr w w') := by
  refine Qa5 (R := fun v w' => v = kv (Xet k b) ∧ Gr w w') 30 Tryz.func111 rfl rfl rfl ?_
  refine Qa3 ?_
  refine Qao [(0, 0), (1, 0), (2, 0)] rfl rfl rfl ?_
  refine Qe4 rfl rfl rfl (Qaq rfl (by rfl)) ?_
  rintro _ w1 ⟨b1, rfl, hbw1, Bw1, Gw1⟩
  have z1 := Gw1.size
  have lt2 := Bw1.lt
  refine Qe4 rfl rfl rfl (Qaq rfl (by rfl)) ?_
  rintro _ w2 ⟨b2, rfl, hbw2, Bw2, Gw2⟩
  have z3 := Gw2.size
  have lt4 := Bw2.lt
  refine Qe4 rfl rfl rfl (Qa8 Qeo (by rfl)) ?_
  rintro _ w3 ⟨b3, rfl, hbw3, Bw3, Gw3⟩
  have z5 := Gw3.size
  have lt6 := Bw3.lt
  refine Qa1 ?_
  refine Qa3 ?_
  refine Qao [(0, 0)] rfl rfl rfl ?_
  refine Qe4 rfl rfl rfl (Qa8 Xq8 (by rfl)) ?_
  rintro _ w4 ⟨b4, rfl, hbw4, Bw4, Gw4⟩
  have z7 := Gw4.size
  have lt8 := Bw4.lt
  refine Qa1 ?_
  refine Qa3 ?_
  refine Qa3 ?_
  refine Qao [(0, 0), (1, 0)] rfl rfl rfl ?_
  have B9 := (Bx.gr (Bx.gr (Bx.gr Bw1 Gw2) Gw3) Gw4)
  refine Qar rfl rfl rfl (Qa4 Qak rfl B9 (by rfl)) ?_
  refine Qe4 rfl rfl rfl (Qh9 Xlg rfl (Xm3 _ _)) ?_
  rintro _ w5 ⟨b5, rfl, hb5, Bk5, Gw5⟩
  have z10 := Gw5.size
  have lt11 := Bk5.lt
  refine Qa1 ?_
  refine Qan ?_
  have X12 : Gr w w5 := (Gr.trans (Gr.trans (Gr.trans (Gr.trans (Gr.trans (Gr.refl w) Gw1) Gw2) Gw3) Gw4) Gw5)
  have B13 := (Bx.gr Bw4 Gw5)
  refine Qi1 (gf := 232) (xs := Quw k) (cap := [b5]) rfl Xmf (Xgi k b5 _ Bk5) (Qzj k) rfl (fun rk fp W => fp = [b4] ∧ Bx W b4 247 (Xk6 k rk)) (fun _ _ _ _ => False) [b4] (Xi8 _ _ _) (fun _ => Qqa) (by simp <;> omega) (⟨rfl, by rw [Xsg]; exact B13⟩) ?_ ?_ ?_
  · rintro l rk x fp w6 hl hx ⟨rfl, Bw6⟩ Kw6 hF hln hlt
    have z14 := Kw6.size
    obtain ⟨hi, rfl⟩ := Qxp hx
    refine Qa3 ?_
    refine Qao [(0, 0)] rfl rfl rfl ?_
    refine Qar rfl rfl rfl (Qbg rfl) ?_
    refine Qa1 ?_
    refine Qao [(0, 0)] rfl rfl rfl ?_
    refine Qar rfl rfl rfl (Qbg rfl) ?_
    refine Qa9 ?_
    refine ⟨rfl, (Gr.refl _), ?_⟩
    rintro w7 Mw7 ⟨_, Bw7⟩
    have z15 := Mw7.size
    refine Qan ?_
    refine Qao [(0, 0), (1, 0), (2, 0), (3, 0)] rfl rfl rfl ?_
    refine Qar rfl rfl rfl (Qac rfl) ?_
    refine Qar rfl rfl rfl (Qac rfl) ?_
    refine Qar rfl rfl rfl (Qfu Tryz.underlying247 (Qb5).siz rfl rfl (by omega) (by omega)) ?_
    refine Qe4 rfl rfl rfl (Qob (Qb5).siz rfl rfl rfl Bw7 (by rw [Xju]; omega)) ?_
    rintro _ w8 ⟨Bw8, Mw8⟩
    have z16 := Mw8.size
    refine Qa9 ?_
    refine Qay ?_
    refine ⟨(Kp.md (Kp.refl _ _) Mw8 (by first | exact Or.inl (by simp) | exact Or.inr (by omega))), _, fun c hc => .inl hc, ?_⟩
    exact ⟨rfl, by rw [← Xkl k rk hi]; exact Bw8⟩
  · rintro Dw9 fp w9 hDw9 Dfw9 nw9 ⟨rfl, Bw9⟩ Kw9
    have z17 := Kw9.size
    have lt17 := Df.lt (w := w9) Dfw9
    rw [Qq4] at Bw9
    refine Qay ?_
    refine Qaz ?_
    refine Qa3 ?_
    refine Qao [(0, 0), (1, 0), (2, 0), (3, 0)] rfl rfl rfl ?_
    have B18 := (Bx.kp (Bx.gr (Bx.gr (Bx.gr Bw2 Gw3) Gw4) Gw5) Kw9 (by simp <;> first | omega | (split <;> omega)))
    refine Qar rfl rfl rfl (Qa4 Qak rfl B18 (by rfl)) ?_
    refine Qe4 rfl rfl rfl (Qh9 Qzs rfl (Xbt _ _)) ?_
    rintro _ w10 ⟨rfl, Gw10⟩
    have z19 := Gw10.size
    refine Qe4 rfl rfl rfl (Qa8 Qph (by rfl)) ?_
    rintro _ w11 ⟨b11, rfl, hbw11, Bw11, Gw11⟩
    have z20 := Gw11.size
    have lt21 := Bw11.lt
    refine Qe4 rfl rfl rfl (Qfv (Qfq).siz rfl rfl (by rfl) (by rfl) (by rfl) Bw11 (by rfl)) ?_
    rintro _ w12 ⟨Bw12, Mw12⟩
    have z22 := Mw12.size
    refine Qa1 ?_
    refine Qa3 ?_
    refine Qa3 ?_
    refine Qao [(0, 0)] rfl rfl rfl ?_
    refine Qar rfl rfl rfl (Qbg rfl) ?_
    refine Qa1 ?_
    refine Qan ?_
    have X23 : Gr w w12 := (Gr.md (Gr.trans (Gr.trans (Gr.kp X12 Kw9 (by simp <;> first | omega | (split <;> omega))) Gw10) Gw11) Mw12 (by omega))
    refine Qbj (α := Nat) [9, 19, 20, 21, 22, 23, 24, 25, 26, 27] (fun j => [(9, .int .i64 ((j : Int) - 1))]) (fun j wr => (j ≤ 32) ∧ Bx wr b11 233 ([wv (Xes k b j).1, wv (Xes k b j).2]) ∧ Kp [b11] w12 wr) (fun j => j) (32) ?_ ?_ ?_
    · repeat' first | exact trivial | refine ⟨rfl, ?_⟩
    · exact ⟨Nat.le_refl _, Bw12, Kp.refl _ _⟩
    rintro j w13 ⟨hj, Bw13_b11, Kw13⟩
    have z24 := Kw13.size
    refine Qa3 ?_
    refine Qa3 ?_
    refine Qao [(0, 0), (1, 0)] rfl rfl rfl ?_
    refine Qar rfl rfl rfl (Qac rfl) ?_
    refine Qar rfl rfl rfl (Qee rfl rfl) ?_
    refine Qa1 ?_
    refine Qam rfl (fun h1 => ?_) (fun h1 => ?_)
    · -- h1 True
      replace h1 := of_decide_eq_true h1
      obtain ⟨j, rfl⟩ : ∃ i, j = i + 1 := ⟨j - 1, by omega⟩
      refine Qc4 ?_
      refine Qaz ?_
      refine Qa3 ?_
      refine Qan ?_
      refine Qwj [b11] [(0, 1), (1, 3), (2, 3), (3, 3), (4, 0), (5, 2)] (by kernel_rfl) (by kernel_rfl) rfl (by kernel_rfl) ?_
      intro w14 Gw14 zw14
      have B25 := (Bx.gr Bw13_b11 Gw14)
      refine Xnb rfl rfl rfl (Gr.refl w14) (fun w hS => Qa4 Qfq rfl (Bx.gr B25 hS) (by rfl)) ?_
      refine Qeq rfl rfl rfl (Kp.refl [b11] w14) (fun w hS => Qac rfl) ?_
      refine Qeq rfl rfl rfl (Kp.refl [b11] w14) (fun w hS => Qfu Tryz.underlying247 (Qb5).siz rfl rfl (by omega) (by omega)) ?_
      have B26 := (Bx.gr (Bx.kp (Bx.md (Bx.gr (Bx.gr Bw9 Gw10) Gw11) Mw12 (by omega)) Kw13 (by simp <;> first | omega | (split <;> omega))) Gw14)
      refine Qeq rfl rfl rfl (Kp.refl [b11] w14) (fun w hS => Qa2 Qb5 rfl (Bx.kp B26 hS (by simp <;> first | omega | (split <;> omega))) (by exact Xj8 k j (by omega))) ?_
      refine Xkc rfl rfl rfl (Qh9 Xr0 rfl (Xqx _ _ _)) ?_
      rintro _ w15 ⟨rfl, Gw15⟩
      have z27 := Gw15.size
      refine ⟨Gw15, ?_⟩
      have B28 := (Bx.gr B25 Gw15)
      refine Xec (b := b11) rfl rfl rfl rfl (Qfv (Qfq).siz rfl rfl (by rfl) (by rfl) (by rfl) B28 (by rfl)) (by first | exact Or.inl (by simp) | exact Or.inr (by omega)) ?_
      rintro _ w16 ⟨Bw16, Mw16⟩
      have z29 := Mw16.size
      refine ⟨Mw16, ?_⟩
      refine Qa9 ?_
      refine Qay ?_
      refine Qaz ?_
      refine Qao [(0, 0), (1, 0), (2, 0)] rfl rfl rfl ?_
      refine Qar rfl rfl rfl (Qac rfl) ?_
      refine Qar rfl rfl rfl (Qz8 rfl rfl (by omega) (by omega)) ?_
      refine Qar rfl rfl rfl (Qbg rfl) ?_
      refine Qa9 ?_
      have K_30 := (Kp.md (Kp.gr (Kp.gr Kw13 Gw14) Gw15) Mw16 (by simp <;> first | omega | (split <;> omega)))
      refine ⟨rfl, j, ?_, ⟨?_, ?_, K_30⟩, ?_⟩
      · repeat' first | exact trivial | refine ⟨by first | rfl | exact congrArg (fun x => some (Value.int .i64 x)) (by omega), ?_⟩
      · omega
      · rw [Xei k b j (by omega)]; exact Bw16
      · first | omega | (dsimp only; omega)
    · -- h1 False
      replace h1 := of_decide_eq_false h1
      obtain rfl : j = 0 := by omega
      refine Qbp ?_
      refine Qb4 ?_
      refine Qb4 ?_
      refine Qbq ?_
      refine Qaz ?_
      refine Qa3 ?_
      refine Qao [(0, 0), (1, 0), (2, 0)] rfl rfl rfl ?_
      refine Qar rfl rfl rfl (Qa4 Qfq rfl Bw13_b11 (by rfl)) ?_
      refine Qe4 rfl rfl rfl (Qh9 Xb2 rfl (Xcn _ _)) ?_
      rintro _ w17 ⟨rfl, Gw17⟩
      have z31 := Gw17.size
      have B32 := (Bx.gr (Bx.kp (Bx.md (Bx.gr (Bx.gr (Bx.kp (Bx.gr (Bx.gr Bw3 Gw4) Gw5) Kw9 (by simp <;> first | omega | (split <;> omega))) Gw10) Gw11) Mw12 (by omega)) Kw13 (by simp <;> first | omega | (split <;> omega))) Gw17)
      refine Qe4 rfl rfl rfl (Qfv (Qak).siz rfl rfl (by rfl) (by rfl) (by rfl) B32 (by rfl)) ?_
      rintro _ w18 ⟨Bw18, Mw18⟩
      have z33 := Mw18.size
      refine Qa1 ?_
      refine Qag ?_
      have DL34 := (Df.md (Df.gr (Df.kp (Df.md (Df.gr (Df.gr Dfw9 Gw10) Gw11) Mw12 (by omega)) Kw13 (by simp <;> first | omega | (split <;> omega))) Gw17) Mw18 (by omega))
      have L34 := Md.put (w := w18) Dw9 (.deferred none)
      have zL34 := L34.size
      have B35 := (Bx.md Bw18 L34 (by omega))
      have X36 : Gr w (w18.putObj Dw9 (.deferred none)) := (Gr.md (Gr.md (Gr.trans (Gr.kp X23 Kw13 (by simp <;> first | omega | (split <;> omega))) Gw17) Mw18 (by omega)) L34 (by omega))
      refine ⟨_, _, ⟨Dw9, rfl, DL34, rfl⟩, Ql7 rfl Qak rfl B35 (by rfl), ?_⟩
      exact ⟨rfl, X36⟩
  · rintro _ _ _ _ _ _ _ _ _ h _
    exact h.elim
end Go.Proofs.YtjdffpglgkefmaaGreat

end
section
set_option linter.unusedVariables false
set_option linter.unusedSimpArgs false
namespace Go.Proofs.YtjdffpglgkefmaaGreat
open Go Go.RowKit Go.Sx
theorem Xqj : ZV Tryz.prog 5 (.int .u8 0) := fun _ => by kernel_rfl
theorem Xdn : BSl Tryz.prog 50 1 5 1 [.int .u8 0] := Qr9 Tryz.underlying50 (Qcu).siz Xqj rfl rfl (by kernel_rfl)
theorem Qxb : ApT Tryz.prog 50 5 1 1 := Qug Tryz.underlying50 rfl (by kernel_rfl)
theorem Xj3 : ZV Tryz.prog 24 (.int .u64 0) := fun _ => by kernel_rfl
end Go.Proofs.YtjdffpglgkefmaaGreat

end
