/- Several texts in one: CbM ClM CcM UaM UbM PaM PkM PbM PcM UcM UdM EkM EtM EsM AlM VaM DeM SeM TaM UeM UfM Tk5M OpnTk5 CipA CipB CipC. -/
import Derived.Test.YtgdojjniakpadaaGreatZc
import Derived.Test.YtgdojjniakpadaaGreatRows
import Derived.KernelRfl
import Derived.Test.YtgdojjniakpadaaGreatZb
set_option linter.unusedVariables false
set_option linter.unusedSimpArgs false
section
set_option linter.unusedVariables false
set_option maxRecDepth 100000
namespace Go.Sx
open Go Go.RowKit
def Eb (p0 : Xv) : Option (Int) := Option.bind (Jq p0.depth) fun nn1 => ((some (Pc 1 nn1)))
def Qaf (p0 : Xv) (p1 : Int) : Option (Bool) := (if (1 : Int) ≤ p1 then Option.bind (Eb p0) fun x1 => ((some (decide (p1 < Qi (2 * x1))))) else (some false))
def Nv (p0 : Int) : Option (Int) := (some (Qi ((lg (un (wd p0))) - 1)))
def Uv (p0 : Int) (p1 : Int) (a1 : Bool) : Option (Bool) := (bif a1 then (some false) else Option.bind (Nv p0) fun x2 => (Option.bind (Nv p1) fun x3 => (Option.bind (Jq (Qi (x2 - x3))) fun nn4 => ((some (decide (Oa p0 nn4 = p1)))))))
def Gu (p0 : Int) (p1 : Int) : Option (Bool) := (if p0 < 1 then (Uv p0 p1 true) else (if p1 < 1 then (Uv p0 p1 true) else Option.bind (Nv p0) fun x5 => (Option.bind (Nv p1) fun x6 => ((Uv p0 p1 (decide (x5 < x6)))))))
def Ec (p0 : Xv) (p1 : Int) : Option (Bool) := Option.bind (Nv p1) fun x1 => (Option.bind (Kv x1 p0.stride) fun x2 => ((some (decide (x2 = 0)))))
def Ux (p0 : Int) (p1 : Int) : Option (Int × Int) := (some (p0, p1))
def Bp (p0 : Int) (p1 : Int) : Option (Int) := Option.bind (Nv p1) fun x1 => (Option.bind (Nv p0) fun x2 => (Option.bind (Jq (Qi ((Qi (x1 - x2)) - 1))) fun nn3 => ((some (Oa p1 nn3)))))
def Uy (p2 : Int) (rec1 : (Int) → Option (List Int)) (a2 : Int) : Option (List Int) := (if a2 ≠ p2 then Option.bind (Bp a2 p2) fun x3 => ((yl x3 ((rec1 x3)))) else (some []))
def Qac (p1 : Int) (p2 : Int) : Option (List Int) := (Qr (Uy p2) Xb p1)
def Qdu  (s : Int) : Option (Int) := match s with | a3 => (some 0)
def Ql0  (s : Int) : Option (Int) := match s with | a3 => (some a3)
def Qab (p1_0 : Xv) (e4 : Int) (nx1 : (Int) → Option (Int)) (s : Int) : Option (Int) := match s with | a3 => Option.bind (Ec p1_0 e4) fun x5 => ((bif x5 then (Ql0 e4) else (nx1 a3)))
def Qhq (p0_0 : Int) (p0_1 : Int) (p1_0 : Xv) : Option (Int) := Option.bind (Qac p0_0 p0_1) fun l1 => ((Vf (Qab p1_0) Qdu l1 0))
def Qae (p0 : Xv) (p1 : Int) (p2 : Int) : Option (Int) := Option.bind (Jq (un 1#64)) fun nn1 => (Option.bind (Ux p1 (Oa p2 nn1)) fun x2 => (Option.bind (Qhq x2.1 x2.2 p0) fun x3 => ((some x3))))
def Ee (p0 : Xv) (p1 : Xo) (a3 : Bool) : Option (Bool) := (bif a3 then (some false) else (if p0.kind = 2#8 then (some true) else Option.bind (Ec p0 p1.Node) fun x4 => ((bif x4 then (some true) else Option.bind (Qae p0 p1.Node p1.Minus) fun x5 => ((some (decide (x5 = 0))))))))
def Qai (p0 : Xv) (p1 : Xo) (a2 : Bool) : Option (Bool) := (bif a2 then (if p1.Minus = 0 then (if p0.kind = 1#8 then (some true) else (some (decide (p1.Node = 1)))) else (some false)) else Option.bind (Qaf p0 p1.Minus) fun x6 => ((bif (!x6) then (Ee p0 p1 true) else (if p1.Minus = p1.Node then (Ee p0 p1 true) else Option.bind (Gu p1.Minus p1.Node) fun x7 => ((Ee p0 p1 (!x7)))))))
def Ed (p0 : Xv) (p1 : Xo) : Option (Bool) := Option.bind (Qaf p0 p1.Node) fun x1 => ((bif (!x1) then (some false) else (if p0.kind = 1#8 then (Qai p0 p1 true) else (Qai p0 p1 (decide (p1.Minus = 0))))))
def Qdt (p1 : List Xo) (x1 : Xv × Bool) (rec1 : (Int) → Option (Xv × Int)) (a3 : Int) : Option (Xv × Int) := (if a3 < (p1.length : Int) then Option.bind (Xt p1 a3) fun y4 => (Option.bind (Ed x1.1 y4) fun x5 => ((bif (!x5) then (some ((Xv.mk 0#8 0 0), 31)) else (rec1 (Qi (a3 + 1)))))) else (some (x1.1, 0)))
def Ut (p0 : Qs) (p1 : List Xo) : Option (Xv × Int) := Option.bind (Qad p0) fun x1 => ((bif (!x1.2) then (some ((Xv.mk 0#8 0 0), 30)) else (Qr (Qdt p1 x1) Xb 0)))
def Uu (p0 : W2) (p1 : Int) : Option (W2) := (some (Jk p0 (Xf 30#8) (wd p1)))
def Qds (a4 : W2) (nx1 : (W2) → Option (W2)) (a6 : BitVec 8) : Option (W2) := (nx1 (Jk a4 (Xf a6) 0#64))
def Qdr  (s : W2) : Option (W2) := match s with | a4 => (some a4)
def Qaa  (e5 : Int) (nx1 : (W2) → Option (W2)) (s : W2) : Option (W2) := match s with | a4 => Option.bind (Kv e5 2) fun x7 => ((if x7 = 1 then (Qds a4 nx1 32#8) else (Qds a4 nx1 31#8)))
def Ff (p0 : W2) (p1 : Int) (p2 : Int) : Option (W2) := Option.bind (Ux p1 p2) fun x1 => (Option.bind (Qac x1.1 x1.2) fun l2 => ((Vf Qaa Qdr l2 p0)))
def Qhr (p0 : W2) : Option (W2) := (some (Jk p0 (Xf 33#8) 0#64))
def Qdw (p0 : Xv) (p1 : W2) (p2 : Xo) : Option (W2) := (if p0.kind = 1#8 then Option.bind (Uu p1 p2.Node) fun x1 => ((some x1)) else (if p2.Minus = 0 then (some (Jk p1 (Xf 34#8) 0#64)) else Option.bind (Uu p1 p2.Node) fun x2 => (Option.bind (Ff x2 p2.Node p2.Minus) fun x3 => (Option.bind (Qhr x3) fun x4 => ((some x4))))))
def Qjc (p0 : Int) (rec1 : (Int × Int) → Option (Int)) (s1 : Int × Int) : Option (Int) := match s1 with | (a3, a4) => (if a4 < p0 then (rec1 (Qi (2 * a3), Qi (a4 + 1))) else (some a3))
def Lh (p0 : Int) : Option (Int) := (Qr (Qjc p0) Xb (1, 0))
def Qc8 (p0 : Int) (p1 : Int) : Option (Bool) := (if (1 : Int) ≤ p1 then Option.bind (Lh p0) fun x1 => ((some (decide (p1 < Qi (2 * x1))))) else (some false))
def Qc5 (p1 : Int) (rec1 : (Int) → Option (Bool)) (a2 : Int) : Option (Bool) := (if p1 < a2 then Option.bind (Yy a2 2) fun x3 => ((rec1 x3)) else (some (decide (a2 = p1))))
def Ro (p0 : Int) (p1 : Int) : Option (Bool) := (Qr (Qc5 p1) Xb p0)
def Qc7  (rec1 : (Int × Int) → Option (Int)) (s1 : Int × Int) : Option (Int) := match s1 with | (a3, a4) => (if (1 : Int) < a3 then Option.bind (Yy a3 2) fun x5 => ((rec1 (x5, Qi (a4 + 1)))) else (some a4))
def Qfx (p0 : Int) : Option (Int) := (Qr (Qc7) Xb (p0, 0))
def Qjf (p0 : Int) (rec1 : (Int) → Option (Int)) (a2 : Int) : Option (Int) := (if Qi (a2 * a2) < p0 then (rec1 (Qi (a2 + 1))) else (some a2))
def Qg0 (p0 : Int) : Option (Int) := (Qr (Qjf p0) Xb 1)
def Ia (p0 : Int) (p1 : Int) : Option (Bool) := Option.bind (Qfx p1) fun x1 => (Option.bind (Qg0 p0) fun x2 => (Option.bind (Kv x1 x2) fun x3 => ((some (decide (x3 = 0))))))
def Az (p0 : Int) (rec1 : (Int × List Int) → Option (List Int)) (s1 : Int × List Int) : Option (List Int) := match s1 with | (a4, a5) => (if a4 ≠ p0 then Option.bind (Ks 8 [a4] a5) fun l7 => (Option.bind (Yy a4 2) fun x8 => ((rec1 (x8, l7)))) else Option.bind (Ks 8 [p0] a5) fun l9 => ((some l9)))
def Qca (p0 : Int) (p1 : Int) : Option (List Int) := (Qr (Az p0) Xb (p1, []))
def Ie (p0 : Int) (x1 : List Int) (rec1 : (Int) → Option (Int)) (a3 : Int) : Option (Int) := (if a3 < Qi ((x1.length : Int) - 1) then Option.bind (Xt x1 a3) fun y4 => (Option.bind (Ia p0 y4) fun x5 => ((bif x5 then Option.bind (Xt x1 a3) fun y6 => ((some y6)) else (rec1 (Qi (a3 + 1)))))) else (some 0))
def Qcc (p0 : Int) (p1 : Int) (p2 : Int) : Option (Int) := Option.bind (Qca p1 p2) fun x1 => ((Qr (Ie p0 x1) Xb 1))
def Ax (p0 : Qs) (p1 : Xo) (a2 : Bool) : Option (Bool) := (bif a2 then (some false) else (if p0.Kind = 2#8 then (some true) else Option.bind (Ia p0.Depth p1.Node) fun x3 => ((bif x3 then (some true) else Option.bind (Qcc p0.Depth p1.Node p1.Minus) fun x4 => ((some (decide (x4 = 0))))))))
def Qc6 (p0 : Qs) (p1 : Xo) : Option (Bool) := Option.bind (Qc8 p0.Depth p1.Node) fun x1 => ((bif (!x1) then (some false) else (if p0.Kind = 1#8 then (some (decide (p1.Minus = 0))) else (if p1.Minus = 0 then (some (decide (p1.Node = 1))) else Option.bind (Qc8 p0.Depth p1.Minus) fun x5 => ((bif (!x5) then (Ax p0 p1 true) else (if p1.Minus = p1.Node then (Ax p0 p1 true) else Option.bind (Ro p1.Minus p1.Node) fun x6 => ((Ax p0 p1 (!x6))))))))))
def Qg3 (p0 : W2) (p1 : Int) : Option (W2) := Option.bind (Kv p1 2) fun x1 => ((if x1 = 0 then (some (Jk p0 (Xf 31#8) 0#64)) else (some (Jk p0 (Xf 32#8) 0#64))))
def Ih (x1 : List Int) (rec1 : (Int × W2) → Option (W2)) (s1 : Int × W2) : Option (W2) := match s1 with | (a4, a5) => (if a4 < (x1.length : Int) then Option.bind (Xt x1 a4) fun y6 => (Option.bind (Qg3 a5 y6) fun x7 => ((rec1 (Qi (a4 + 1), x7)))) else (some a5))
def Ig (p0 : W2) (p1 : Int) (p2 : Int) : Option (W2) := Option.bind (Qca p1 p2) fun x1 => ((Qr (Ih x1) Xb (1, p0)))
def Ii (p0 : W2) (p1 : Int) (p2 : Int) : Option (W2) := Option.bind (Ig (Jk p0 (Xf 30#8) (wd p1)) p1 p2) fun x1 => ((some x1))
def Qfu (p0 : W2) (p1 : Qs) (p2 : Xo) : Option (W2) := (if p1.Kind = 1#8 then (some (Jk p0 (Xf 30#8) (wd p2.Node))) else (if p2.Minus = 0 then (some (Jk p0 (Xf 34#8) 0#64)) else Option.bind (Ii p0 p2.Node p2.Minus) fun x1 => ((some (Jk x1 (Xf 33#8) 0#64)))))
def Qhp (p0 : Zd) (p1 : Xv) : Option (Bool) := Option.bind (Ed p1 p0.Subset) fun x1 => ((some (!x1)))
def Mp (p0 : List Zd) (p1_0 : Xv) (rec1 : (Int) → Option (Int)) (a2 : Int) : Option (Int) := (if a2 < (p0.length : Int) then Option.bind (Xt p0 a2) fun y3 => (Option.bind (Qhp y3 p1_0) fun x4 => ((bif x4 then (some a2) else (rec1 (Qi (a2 + 1)))))) else (some (-1)))
def Qjz (p0 : List Zd) (p1_0 : Xv) : Option (Int) := (Qr (Mp p0 p1_0) Xb 0)
def Qjx (p0 : List Zd) (p1_0 : Xv) : Option (Bool) := Option.bind (Qjz p0 p1_0) fun x1 => ((some (decide ((0 : Int) ≤ x1))))
def Qag (p1 : Xn) (p2 : Xo) (a1 : Bool) : Option (Bool) := (bif a1 then (some (decide (p1.Minus = p2.Minus))) else Option.bind (Gu p1.Minus p1.Node) fun x2 => ((bif x2 then Option.bind (Gu p2.Minus p1.Minus) fun x3 => ((some x3)) else (some false))))
def Qdy (p0 : Xv) (p1 : Xn) (p2 : Xo) : Option (Bool) := (if p1.Node ≠ p2.Node then (some false) else (if p0.kind = 1#8 then (Qag p1 p2 true) else (Qag p1 p2 (decide (p2.Minus = 0)))))
def Qdv (p2 : Xo) (y3 : Xn) (a5 : Bool) : Option (W2 × Bool) := (bif a5 then (some (y3.Key, true)) else Option.bind (Ff y3.Key y3.Minus p2.Minus) fun x6 => (Option.bind (Qhr x6) fun x7 => ((some (x7, true)))))
def Ea (p0 : Xv) (p1 : Qq) (p2 : Xo) (rec1 : (Int) → Option (W2 × Bool)) (a2 : Int) : Option (W2 × Bool) := (if a2 < (p1.Labels.length : Int) then Option.bind (Xt p1.Labels a2) fun y3 => (Option.bind (Qdy p0 y3 p2) fun x4 => ((bif (!x4) then (rec1 (Qi (a2 + 1))) else (if p0.kind = 1#8 then (Qdv p2 y3 true) else (Qdv p2 y3 (decide (p2.Minus = 0))))))) else (some (k0, false)))
def Qht (p0 : Xv) (p1 : Qq) (p2 : Xo) : Option (W2 × Bool) := (Qr (Ea p0 p1 p2) Xb 0)
def Ur (p1 : Qq) (p2 : Zi) (x1 : Xv × Int) (rec2 : (Int) → Option (W2 × Int)) (a4 : Int) : Option (W2 × Int) := (if a4 < (p2.Items.length : Int) then Option.bind (Xt p2.Items a4) fun y5 => (Option.bind (Qht x1.1 p1 y5.Subset) fun x6 => ((bif x6.2 then (if Jk (Dc x6.1 y5.Box) (Xf 53#8) 0#64 = p2.Check then (some (Dc x6.1 y5.Box, 0)) else (rec2 (Qi (a4 + 1)))) else (rec2 (Qi (a4 + 1)))))) else (some (k0, 6)))
def Bo (p1 : Qq) (p2 : Zi) (x1 : Xv × Int) (a2 : Bool) : Option (W2 × Int) := (bif a2 then (some (k0, 8)) else (Qr (Ur p1 p2 x1) Xb 0))
def Qdo (p0 : Qs) (p1 : Qq) (p2 : Zi) : Option (W2 × Int) := Option.bind (Ut p0 ([] : List Xo)) fun x1 => ((if x1.2 ≠ 0 then (some (k0, x1.2)) else (if (64 : Int) < (p2.Items.length : Int) then (Bo p1 p2 x1 true) else (if p2.Base ≠ 0#64 then (Bo p1 p2 x1 true) else (if (0 : Int) < (p2.Points.length : Int) then (Bo p1 p2 x1 true) else (if p2.Box ≠ k0 then (Bo p1 p2 x1 true) else Option.bind (Qjx p2.Items x1.1) fun x7 => ((Bo p1 p2 x1 x7))))))))
def Mf (p0 : Qs) (p1 : Zi) (rec2 : (Int) → Option (Bool)) (a3 : Int) : Option (Bool) := (if a3 < (p1.Items.length : Int) then Option.bind (Xt p1.Items a3) fun y4 => (Option.bind (Qc6 p0 y4.Subset) fun x5 => ((bif (!x5) then (some false) else (rec2 (Qi (a3 + 1)))))) else (some true))
def Ic (p0 : Qs) (p1 : Zi) (a1 : Bool) : Option (Bool) := (bif a1 then (some false) else (Qr (Mf p0 p1) Xb 0))
def Qjg (p0 : Qs) (p1 : Zi) : Option (Bool) := (if (64 : Int) < (p1.Items.length : Int) then (Ic p0 p1 true) else (if p1.Base ≠ 0#64 then (Ic p0 p1 true) else (if (p1.Points.length : Int) ≠ 0 then (Ic p0 p1 true) else (Ic p0 p1 (decide (p1.Box ≠ k0))))))
def Ij (p1 : Int) (p2 : Int) (p3 : Xo) (a1 : Bool) : Option (Bool) := (bif a1 then (if p1 = p3.Node then (some (decide (p2 = p3.Minus))) else (some false)) else (if p1 = p3.Node then (if (1 : Int) ≤ p2 then Option.bind (Ro p2 p1) fun x2 => ((bif x2 then Option.bind (Ro p3.Minus p2) fun x3 => ((some x3)) else (some false))) else (some false)) else (some false)))
def Qg1 (p0 : Qs) (p1 : Int) (p2 : Int) (p3 : Xo) : Option (Bool) := (if p0.Kind = 1#8 then (Ij p1 p2 p3 true) else (Ij p1 p2 p3 (decide (p3.Minus = 0))))
def Qfw (p2 : Xo) (y3 : Xn) (a5 : Bool) : Option (W2 × Bool) := (bif a5 then (some (y3.Key, true)) else Option.bind (Ig y3.Key y3.Minus p2.Minus) fun x6 => ((some (Jk x6 (Xf 33#8) 0#64, true))))
def Ay (p0 : Qs) (p1 : Qq) (p2 : Xo) (rec1 : (Int) → Option (W2 × Bool)) (a2 : Int) : Option (W2 × Bool) := (if a2 < (p1.Labels.length : Int) then Option.bind (Xt p1.Labels a2) fun y3 => (Option.bind (Qg1 p0 y3.Node y3.Minus p2) fun x4 => ((bif (!x4) then (rec1 (Qi (a2 + 1))) else (if p0.Kind = 1#8 then (Qfw p2 y3 true) else (Qfw p2 y3 (decide (p2.Minus = 0))))))) else (some (k0, false)))
def Qj9 (p0 : Qs) (p1 : Qq) (p2 : Xo) : Option (W2 × Bool) := (Qr (Ay p0 p1 p2) Xb 0)
def Gg (p0 : List (BitVec 8)) (rec1 : (BitVec 64 × Int) → Option (BitVec 64)) (s1 : BitVec 64 × Int) : Option (BitVec 64) := match s1 with | (a3, a4) => (if a4 < (p0.length : Int) then Option.bind (Xt p0 a4) fun y5 => ((rec1 ((256#64 * a3) + (y5.setWidth 64), Qi (a4 + 1)))) else (some a3))
def Cw (p0 : List (BitVec 8)) : Option (BitVec 64) := (Qr (Gg p0) Xb (0#64, 0))
def Cz (p0 : W2) : Option (BitVec 64 × BitVec 64) := Option.bind (Cw (((Xz p0).take 8).drop 0)) fun x1 => (Option.bind (Cw (((Xz p0).take 16).drop 8)) fun x2 => ((some (x1, x2))))
def Rn (p0 : BitVec 64) (p1 : Int) : Option (BitVec 64) := Option.bind (Jq p1) fun nn1 => (Option.bind (Jq (Qi (64 - p1))) fun nn2 => ((some ((p0 >>> nn1) ||| (p0 <<< nn2)))))
def Cx (p0 : BitVec 64) (p1 : Int) : Option (BitVec 64) := Option.bind (Rn p0 (Qi (64 - p1))) fun x1 => ((some x1))
def Sj  (rec1 : (BitVec 64 × BitVec 64 × List (BitVec 64) × Int) → Option (List (BitVec 64))) (s1 : BitVec 64 × BitVec 64 × List (BitVec 64) × Int) : Option (List (BitVec 64)) := match s1 with | (a7, a8, a9, a11) => (if a11 < 31 then Option.bind (Rn a7 8) fun x12 => (Option.bind (Cx a8 3) fun x13 => (Option.bind (Ks 8 a9 [x13 ^^^ ((a8 + x12) ^^^ (wd a11))]) fun l14 => ((rec1 ((a8 + x12) ^^^ (wd a11), x13 ^^^ ((a8 + x12) ^^^ (wd a11)), l14, Qi (a11 + 1)))))) else (some a9))
def Aw (p0 : W2) : Option (List (BitVec 64)) := Option.bind (Cz p0) fun x1 => ((Qr (Sj) Xb (x1.1, x1.2, [x1.2], 0)))
def Tj (p1 : Int) (rec1 : (BitVec 64 × List (BitVec 8) × Int) → Option (List (BitVec 8))) (s1 : BitVec 64 × List (BitVec 8) × Int) : Option (List (BitVec 8)) := match s1 with | (a5, a6, a8) => (if a8 < p1 then Option.bind (Kk a5 256#64) fun x9 => (Option.bind (Ks 1 [x9.setWidth 8] a6) fun l10 => (Option.bind (Rk a5 256#64) fun x11 => ((rec1 (x11, l10, Qi (a8 + 1)))))) else (some a6))
def Ni (p0 : BitVec 64) (p1 : Int) : Option (List (BitVec 8)) := (Qr (Tj p1) Xb (p0, [], 0))
def Lg (p0 : List (BitVec 8)) (a3 : Int) (a4 : W2) (rec1 : (Int × W2) → Option (W2)) (a5 : Bool) : Option (W2) := (bif a5 then Option.bind (Xt p0 a3) fun y6 => (Option.bind (Xt (Xz a4) a3) fun y7 => (Option.bind (Ti a4 a3 y6) fun x8 => ((rec1 (Qi (a3 + 1), x8))))) else (some a4))
def Nj (p0 : List (BitVec 8)) (rec1 : (Int × W2) → Option (W2)) (s1 : Int × W2) : Option (W2) := match s1 with | (a3, a4) => (if a3 < 16 then (Lg p0 a3 a4 rec1 (decide (a3 < (p0.length : Int)))) else (Lg p0 a3 a4 rec1 false))
def Rm (p0 : List (BitVec 8)) : Option (W2) := (Qr (Nj p0) Xb (0, k0))
def Av (p0 : BitVec 64) (p1 : BitVec 64) : Option (W2) := Option.bind (Ni p0 8) fun x1 => (Option.bind (Ni p1 8) fun x2 => (Option.bind (Ks 1 x1 x2) fun l3 => (Option.bind (Rm l3) fun x4 => ((some x4)))))
def Si (x2 : List (BitVec 64)) (rec1 : (BitVec 64 × BitVec 64 × Int) → Option (W2)) (s1 : BitVec 64 × BitVec 64 × Int) : Option (W2) := match s1 with | (a6, a7, a8) => (if (0 : Int) ≤ a8 then Option.bind (Rn (a7 ^^^ a6) 3) fun x9 => (Option.bind (Xt x2 a8) fun y10 => (Option.bind (Cx ((a6 ^^^ y10) - x9) 8) fun x11 => ((rec1 (x11, x9, Qi (a8 - 1)))))) else Option.bind (Av a6 a7) fun x12 => ((some x12)))
def Cu (p0 : W2) (p1 : W2) : Option (W2) := Option.bind (Cz p1) fun x1 => (Option.bind (Aw p0) fun x2 => ((Qr (Si x2) Xb (x1.1, x1.2, 31))))
def Qjb (p2 : Zi) (a4 : Int) (rec1 : (Int) → Option (W2 × Int)) (a9 : W2) : Option (W2 × Int) := (if Jk a9 (Xf 53#8) 0#64 = p2.Check then (some (a9, 0)) else (rec1 (Qi (a4 + 1))))
def Qja (p2 : Zi) (a4 : Int) (rec1 : (Int) → Option (W2 × Int)) (a6 : W2) (a7 : Bool) : Option (W2 × Int) := (bif (!a7) then (rec1 (Qi (a4 + 1))) else Option.bind (Xt p2.Items a4) fun y10 => (Option.bind (Cu a6 y10.Box) fun x11 => ((Qjb p2 a4 rec1 x11))))
def Ma (p0 : Qs) (p1 : Qq) (p2 : Zi) (rec1 : (Int) → Option (W2 × Int)) (a4 : Int) : Option (W2 × Int) := (if a4 < (p2.Items.length : Int) then Option.bind (Xt p2.Items a4) fun y13 => (Option.bind (Qj9 p0 p1 y13.Subset) fun x14 => ((Qja p2 a4 rec1 x14.1 x14.2))) else (some (k0, 6)))
def Qc9 (p0 : Qs) (p1 : Qq) (p2 : Zi) : Option (W2 × Int) := Option.bind (Ib p0) fun x1 => ((bif (!x1) then (some (k0, 30)) else Option.bind (Qjg p0 p2) fun x2 => ((bif (!x2) then (some (k0, 8)) else (Qr (Ma p0 p1 p2) Xb 0)))))
end Go.Sx

end
section
set_option linter.unusedVariables false
set_option maxRecDepth 100000
namespace Go.Sx
open Go Go.RowKit
def Qhu (p0 : Xv) (p1 : Int) : Option (Xv × Int) := (some (p0, p1))
def Ql6 (p0 : Xv) (p1 : Int) : Option (Int) := Option.bind (Eb p0) fun x1 => ((some (Qi (x1 + p1))))
def Ql3 (p0 : Int) : Option (Int) := (some (Um .xor p0 1))
def Qhv (x1 : Int) (a2 : Int) (rec1 : (Int) → Option (List (Int × Int))) (s : Unit) : Option (List (Int × Int)) := Option.bind (Bp a2 x1) fun x10 => ((rec1 x10))
def Qhx (p1 : Xv) (a2 : Int) (e7 : Int) (nx2 : Unit → Option (List (Int × Int))) (s : Unit) : Option (List (Int × Int)) := Option.bind (Ql3 e7) fun x8 => (Option.bind (Ed p1 (Xo.mk a2 x8)) fun x9 => ((bif x9 then (yl (a2, x8) ((nx2 ()))) else (nx2 ()))))
def Qhw (p1 : Xv) (x1 : Int) (rec1 : (Int) → Option (List (Int × Int))) (a2 : Int) : Option (List (Int × Int)) := (if a2 ≠ x1 then (if p1.kind = 1#8 then Option.bind (Bp a2 x1) fun x3 => ((yl (x3, 0) (Option.bind (Bp a2 x1) fun x4 => ((rec1 x4))))) else Option.bind (Ux a2 x1) fun x5 => (Option.bind (Qac x5.1 x5.2) fun l6 => ((Vf (Qhx p1 a2) (Qhv x1 a2 rec1) l6 ())))) else (some []))
def Qdx (p1 : Xv) (p2 : Int) : Option (List (Int × Int)) := Option.bind (Ql6 p1 p2) fun x1 => ((yl (1, 0) ((Qr (Qhw p1 x1) Xb 1))))
def Qah (p0 : Xv) (p1 : Int) : Option (Bool) := (if (0 : Int) ≤ p1 then Option.bind (Eb p0) fun x1 => ((some (decide (p1 < x1)))) else (some false))
def Qdq (a7 : List Xn) (nx1 : (List Xn) → Option (Qq × Int)) (e9 : Int) (e10 : Int) (a11 : W2) : Option (Qq × Int) := Option.bind (Ks 32 a7 [(Xn.mk e9 e10 a11)]) fun l12 => ((nx1 l12))
def Qa8 (p2 : Int) (s : List Xn) : Option (Qq × Int) := match s with | a7 => (some ((Qq.mk p2 a7 (Qu.mk 0#64 0#64)), 0))
def Qa9 (p0 : W2) (x1 : Xv × Int) (ee : Int × Int) (nx1 : (List Xn) → Option (Qq × Int)) (s : List Xn) : Option (Qq × Int) := match ee with | (e9, e10) => match s with | a7 => (if e10 = 0 then Option.bind (Qdw x1.1 p0 (Xo.mk e9 0)) fun x13 => ((Qdq a7 nx1 e9 e10 x13)) else Option.bind (Uu p0 e9) fun x14 => (Option.bind (Ff x14 e9 e10) fun x15 => ((Qdq a7 nx1 e9 e10 x15))))
def Qdp (p0 : W2) (p1 : Qs) (p2 : Int) : Option (Qq × Int) := Option.bind (Ut p1 ([] : List Xo)) fun x1 => ((if x1.2 ≠ 0 then (some ((Qq.mk 0 [] (Qu.mk 0#64 0#64)), x1.2)) else Option.bind (Qah x1.1 p2) fun x2 => ((bif (!x2) then (some ((Qq.mk 0 [] (Qu.mk 0#64 0#64)), 2)) else Option.bind (Qhu x1.1 p2) fun x3 => (Option.bind (Qdx x3.1 x3.2) fun l4 => ((Vf (Qa9 p0 x1) (Qa8 p2) l4 [])))))))
def Qg2 (p0 : Int) (p1 : Int) : Option (Bool) := (if (0 : Int) ≤ p1 then Option.bind (Lh p0) fun x1 => ((some (decide (p1 < x1)))) else (some false))
def Qj6 (x2 : List Int) (rec1 : (List Xo × Int) → Option (List Xo)) (s1 : List Xo × Int) : Option (List Xo) := match s1 with | (a6, a8) => (if a8 < (x2.length : Int) then Option.bind (Xt x2 a8) fun y9 => (Option.bind (Ks 16 a6 [(Xo.mk y9 0)]) fun l10 => ((rec1 (l10, Qi (a8 + 1))))) else (some a6))
def Qj8 (p0 : Qs) (x2 : List Int) (a17 : Int) (rec2 : (List Xo × Int) → Option (List Xo)) (rec3 : (List Xo × Int) → Option (List Xo)) (s3 : List Xo × Int) : Option (List Xo) := match s3 with | (a21, a23) => (if a23 < (x2.length : Int) then Option.bind (Xt x2 a17) fun y24 => (Option.bind (Xt x2 a23) fun y25 => (Option.bind (Qc6 p0 (Xo.mk y24 (Um .xor y25 1))) fun x26 => ((bif x26 then Option.bind (Ks 16 a21 [(Xo.mk y24 (Um .xor y25 1))]) fun l27 => ((rec3 (l27, Qi (a23 + 1)))) else (rec3 (a21, Qi (a23 + 1))))))) else (rec2 (a21, Qi (a17 + 1))))
def Qj7 (p0 : Qs) (x2 : List Int) (rec2 : (List Xo × Int) → Option (List Xo)) (s2 : List Xo × Int) : Option (List Xo) := match s2 with | (a15, a17) => (if a17 < (x2.length : Int) then (Qr (Qj8 p0 x2 a17 rec2) Xb (a15, Qi (a17 + 1))) else (some a15))
def Qfv (p0 : Qs) (p1 : Int) : Option (List Xo) := Option.bind (Lh p0.Depth) fun x1 => (Option.bind (Qca 1 (Qi (x1 + p1))) fun x2 => ((if p0.Kind = 1#8 then (Qr (Qj6 x2) Xb ([], 0)) else Option.bind (Ks 16 [] [(Xo.mk 1 0)]) fun l11 => ((Qr (Qj7 p0 x2) Xb (l11, 0))))))
def Qfz (x1 : List Xo) (a5 : Int) (a6 : List Xn) (rec1 : (Int × List Xn) → Option (Qq)) (a10 : W2) : Option (Qq) := Option.bind (Xt x1 a5) fun y11 => (Option.bind (Xt x1 a5) fun y12 => (Option.bind (Ks 32 a6 [(Xn.mk y11.Node y12.Minus a10)]) fun l13 => ((rec1 (Qi (a5 + 1), l13)))))
def Qje (p0 : W2) (x1 : List Xo) (a5 : Int) (a6 : List Xn) (rec1 : (Int × List Xn) → Option (Qq)) (a9 : W2) : Option (Qq) := Option.bind (Xt x1 a5) fun y14 => ((if y14.Minus ≠ 0 then Option.bind (Xt x1 a5) fun y15 => (Option.bind (Xt x1 a5) fun y16 => (Option.bind (Ii p0 y15.Node y16.Minus) fun x17 => ((Qfz x1 a5 a6 rec1 x17)))) else (Qfz x1 a5 a6 rec1 a9)))
def Me (p0 : W2) (p1 : Qs) (p2 : Int) (x1 : List Xo) (rec1 : (Int × List Xn) → Option (Qq)) (s1 : Int × List Xn) : Option (Qq) := match s1 with | (a5, a6) => (if a5 < (x1.length : Int) then Option.bind (Xt x1 a5) fun y18 => (Option.bind (Qfu p0 p1 y18) fun x19 => ((Qje p0 x1 a5 a6 rec1 x19))) else (some (Qq.mk p2 a6 (Qu.mk 0#64 0#64))))
def Qjd (p0 : W2) (p1 : Qs) (p2 : Int) : Option (Qq) := Option.bind (Qfv p1 p2) fun x1 => ((Qr (Me p0 p1 p2 x1) Xb (0, [])))
def Qcb (p0 : W2) (p1 : Qs) (p2 : Int) : Option (Qq × Int) := Option.bind (Ib p1) fun x1 => ((bif (!x1) then (some ((Qq.mk 0 [] (Qu.mk 0#64 0#64)), 30)) else Option.bind (Qg2 p1.Depth p2) fun x2 => ((bif (!x2) then (some ((Qq.mk 0 [] (Qu.mk 0#64 0#64)), 2)) else Option.bind (Qjd p0 p1 p2) fun x3 => ((some (x3, 0)))))))
end Go.Sx

end
section
set_option linter.unusedVariables false
set_option maxRecDepth 100000
namespace Go.Sx
open Go Go.RowKit
noncomputable section
end
end Go.Sx

end
section

end
section

end
section
set_option linter.unusedVariables false
set_option maxRecDepth 100000
namespace Go.Sx
open Go Go.RowKit
noncomputable section
structure Vc where
  x : BitVec 64
  y : BitVec 64
deriving DecidableEq, Inhabited
def Vc.cs (x : Vc)  : List Value := [wv x.x, wv x.y]
theorem Vc.cs_ones (x : Vc)   : Jn (Vc.cs x ) = true := by simp only [Vc.cs, List.cons_append, List.nil_append, kb, Jn, Ps, Pr, Pt, cond_true]
theorem Vc.cs_inj {x y : Vc} (h : Vc.cs x = Vc.cs y) : x = y := by
  have h0 : x.x = y.x := Ef (congrArg (fun l => l[0]?) h)
  have h1 : x.y = y.y := Ef (congrArg (fun l => l[1]?) h)
  cases x; cases y; simp only at *; subst h0; subst h1; rfl
theorem Vc.ws (l : List Vc) : Ws 2 (l.map Vc.cs) := Wb l (fun _ => rfl) (fun _ => rfl)
def Qf4 (p0 : BitVec 64) (rec2 : (BitVec 64) → Option (Bool)) (a3 : BitVec 64) : Option (Bool) := (if a3 * a3 ≤ p0 then Option.bind (Kk p0 a3) fun x4 => ((if x4 = 0#64 then (some false) else (rec2 (a3 + 1#64)))) else (some true))
def Qf3 (p0 : BitVec 64) (a1 : Bool) : Option (Bool) := (bif a1 then (some false) else (Qr (Qf4 p0) Xb 2#64))
def Qbo (p0 : BitVec 64) : Option (Bool) := (if p0 < 2#64 then (Qf3 p0 true) else (Qf3 p0 (decide (1048575#64 < p0))))
def Ad (p2 : BitVec 64) (rec1 : (BitVec 64 × BitVec 64 × BitVec 64) → Option (BitVec 64)) (s1 : BitVec 64 × BitVec 64 × BitVec 64) : Option (BitVec 64) := match s1 with | (a6, a7, a8) => (if 0#64 < a7 then (if a7 &&& 1#64 = 1#64 then Option.bind (Kk (a8 * a6) p2) fun x9 => (Option.bind (Kk (a6 * a6) p2) fun x10 => (Option.bind (Jq (un 1#64)) fun nn11 => ((rec1 (x10, a7 >>> nn11, x9))))) else Option.bind (Kk (a6 * a6) p2) fun x12 => (Option.bind (Jq (un 1#64)) fun nn13 => ((rec1 (x12, a7 >>> nn13, a8))))) else (some a8))
def Qbn (p0 : BitVec 64) (p1 : BitVec 64) (p2 : BitVec 64) : Option (BitVec 64) := Option.bind (Kk 1#64 p2) fun x1 => (Option.bind (Kk p0 p2) fun x2 => ((Qr (Ad p2) Xb (x2, p1, x1))))
def Re (a1 : Bool) : Option (Int) := (bif a1 then (some 13) else (some 0))
def Qf1 (p0 : Ko) : Option (Int) := Option.bind (Qbo p0.P) fun x2 => ((bif (!x2) then (Re true) else Option.bind (Qbo p0.Q) fun x3 => ((bif (!x3) then (Re true) else Option.bind (Kk (p0.P - 1#64) p0.Q) fun x4 => ((if x4 ≠ 0#64 then (Re true) else (if p0.G < 2#64 then (Re true) else (if p0.P ≤ p0.G then (Re true) else Option.bind (Qbn p0.G p0.Q p0.P) fun x5 => ((Re (decide (x5 ≠ 1#64))))))))))))
def Ri (p0 : Qs) : Option (Bool) := (if p0.Kind = 4#8 then (if (0 : Int) ≤ p0.Depth then (if p0.Depth ≤ 6 then (if (1 : Int) ≤ p0.Degree then (if p0.Degree ≤ 8 then Option.bind (Qf1 p0.Group) fun x1 => ((if x1 = 0 then Option.bind (Jq p0.Depth) fun nn2 => ((some (decide (wd (Qi ((Pc 1 nn2) + p0.Degree)) < p0.Group.Q)))) else (some false))) else (some false)) else (some false)) else (some false)) else (some false)) else (some false))
def Qa6 (p0 : W2) (rec1 : (Int × BitVec 64 × BitVec 64) → Option (Vc)) (s1 : Int × BitVec 64 × BitVec 64) : Option (Vc) := match s1 with | (a4, a5, a6) => (if a4 < 8 then Option.bind (Jq (un 8#64)) fun nn7 => (Option.bind (Xt (Xz p0) a4) fun y8 => (Option.bind (Jq (un 8#64)) fun nn9 => (Option.bind (Xt (Xz p0) (Qi (8 + a4))) fun y10 => ((rec1 (Qi (a4 + 1), (a5 <<< nn7) ||| (y8.setWidth 64), (a6 <<< nn9) ||| (y10.setWidth 64))))))) else (some (Vc.mk a5 a6)))
def Qa5 (p0 : W2) : Option (Vc) := (Qr (Qa6 p0) Xb (0, 0#64, 0#64))
def Qdi (p0 : W2) (p1 : BitVec 64) (p2 : BitVec 64) : Option (BitVec 64) := (if p2 = 0#64 then (some 0#64) else Option.bind (Qa5 (Jk p0 (Xf 3#8) p1)) fun x1 => (Option.bind (Kk x1.x p2) fun x2 => ((some x2))))
def Qbu (p0 : W2) (p1 : Qs) (l1 : List (BitVec 64)) (rec1 : (List (BitVec 64) × Int) → Option (List (BitVec 64))) (s1 : List (BitVec 64) × Int) : Option (List (BitVec 64)) := match s1 with | (a5, a7) => (if a7 < (l1.length : Int) then Option.bind (Qdi (Jk p0 (Xf 40#8) 0#64) (wd a7) p1.Group.Q) fun x8 => (Option.bind (Xt a5 a7) fun y9 => ((rec1 (a5.set a7.toNat x8, Qi (a7 + 1))))) else (some a5))
def Qfh (p0 : W2) (p1 : Qs) : Option (List (BitVec 64)) := Option.bind (Co 8 (Qi (p1.Degree + 1)) 0#64) fun l1 => ((Qr (Qbu p0 p1 l1) Xb (l1, 0)))
def Qjv (p0 : List (BitVec 64)) : Option (List (BitVec 64)) := (some p0)
def Ob (p1 : List (BitVec 64)) (rec1 : (Int) → Option (List (Int × BitVec 64))) (a2 : Int) : Option (List (Int × BitVec 64)) := (if (0 : Int) ≤ a2 then Option.bind (Xt p1 a2) fun y3 => ((yl (a2, y3) ((rec1 (Qi (a2 - 1)))))) else (some []))
def Qju (p1 : List (BitVec 64)) : Option (List (Int × BitVec 64)) := (Qr (Ob p1) Xb (Qi ((p1.length : Int) - 1)))
def Am (p0 : BitVec 64) (p1 : List (BitVec 64)) (rec1 : (BitVec 64 × Int) → Option (BitVec 64)) (s1 : BitVec 64 × Int) : Option (BitVec 64) := match s1 with | (a3, a4) => (if a4 < (p1.length : Int) then Option.bind (Xt p1 a4) fun y5 => (Option.bind (Kk (a3 * y5) p0) fun x6 => ((rec1 (x6, Qi (a4 + 1))))) else (some a3))
def Sh (p0 : BitVec 64) (p1 : List (BitVec 64)) : Option (BitVec 64) := (Qr (Am p0 p1) Xb (1#64, 0))
def Qfg  (s : BitVec 64) : Option (BitVec 64) := match s with | a4 => (some a4)
def Qbs (p1 : BitVec 64) (p2 : BitVec 64) (ee : Int × BitVec 64) (nx1 : (BitVec 64) → Option (BitVec 64)) (s : BitVec 64) : Option (BitVec 64) := match ee with | (e5, e6) => match s with | a4 => Option.bind (Sh p1 [a4, p2]) fun x7 => (Option.bind (Kk (x7 + e6) p1) fun x8 => ((nx1 x8)))
def Qff (p0 : List (BitVec 64)) (p1 : BitVec 64) (p2 : BitVec 64) : Option (BitVec 64) := Option.bind (Qjv p0) fun x1 => (Option.bind (Qju x1) fun l2 => ((Vf (Qbs p1 p2) Qfg l2 0#64)))
def Qfa (p0 : W2) (p1 : Qs) (p2 : Int) (a2 : Bool) : Option (Qq × Int) := (bif a2 then (some ((Qq.mk 0 [] (Qu.mk 0#64 0#64)), 2)) else Option.bind (Qfh p0 p1) fun x3 => (Option.bind (Qff x3 p1.Group.Q ((wd p2) + 1#64)) fun x4 => ((some ((Qq.mk p2 [] (Qu.mk ((wd p2) + 1#64) x4)), 0)))))
def Qf9 (p0 : W2) (p1 : Qs) (p2 : Int) : Option (Qq × Int) := Option.bind (Ri p1) fun x1 => ((bif (!x1) then (some ((Qq.mk 0 [] (Qu.mk 0#64 0#64)), 30)) else (if p2 < 0 then (Qfa p0 p1 p2 true) else Option.bind (Jq p1.Depth) fun nn5 => ((Qfa p0 p1 p2 (decide (Pc 1 nn5 ≤ p2)))))))
def Qfm (p0 : BitVec 64) (rec1 : (BitVec 64) → Option (Bool)) (a2 : BitVec 64) : Option (Bool) := (if a2 * a2 ≤ p0 then Option.bind (Kk p0 a2) fun x3 => ((if x3 = 0#64 then (some false) else (rec1 (a2 + 1#64)))) else (some (decide (2#64 ≤ p0))))
def Qfl (p0 : BitVec 64) : Option (Bool) := (Qr (Qfm p0) Xb 2#64)
def Qfn (p2 : BitVec 64) (a6 : BitVec 64) (a8 : BitVec 64) (rec1 : (BitVec 64 × BitVec 64 × BitVec 64) → Option (BitVec 64)) (a9 : BitVec 64) : Option (BitVec 64) := Option.bind (Kk (a8 * a8) p2) fun x10 => (Option.bind (Rk a6 2#64) fun x11 => ((rec1 (x11, a9, x10))))
def Aq (p2 : BitVec 64) (rec1 : (BitVec 64 × BitVec 64 × BitVec 64) → Option (BitVec 64)) (s1 : BitVec 64 × BitVec 64 × BitVec 64) : Option (BitVec 64) := match s1 with | (a6, a7, a8) => (if 0#64 < a6 then Option.bind (Kk a6 2#64) fun x12 => ((if x12 = 1#64 then Option.bind (Kk (a7 * a8) p2) fun x13 => ((Qfn p2 a6 a8 rec1 x13)) else (Qfn p2 a6 a8 rec1 a7))) else (some a7))
def Ap (p0 : BitVec 64) (p1 : BitVec 64) (p2 : BitVec 64) : Option (BitVec 64) := Option.bind (Kk 1#64 p2) fun x1 => (Option.bind (Kk p0 p2) fun x2 => ((Qr (Aq p2) Xb (p1, x1, x2))))
def Ct (p0 : Ko) (a1 : Bool) : Option (Bool) := (bif a1 then (some false) else (if 2#64 ≤ p0.G then (if p0.G < p0.P then Option.bind (Ap p0.G p0.Q p0.P) fun x2 => ((some (decide (x2 = 1#64)))) else (some false)) else (some false)))
def Qfo (p0 : Ko) : Option (Bool) := (if 1048575#64 < p0.P then (Ct p0 true) else Option.bind (Qfl p0.P) fun x3 => ((bif (!x3) then (Ct p0 true) else (if 1048575#64 < p0.Q then (Ct p0 true) else Option.bind (Qfl p0.Q) fun x4 => ((bif (!x4) then (Ct p0 true) else Option.bind (Kk (p0.P - 1#64) p0.Q) fun x5 => ((Ct p0 (decide (x5 ≠ 0#64))))))))))
def Rs (p0 : Qs) (a1 : Bool) : Option (Bool) := (bif a1 then (some false) else Option.bind (Lh p0.Depth) fun x2 => ((some (decide (wd (Qi (x2 + p0.Degree)) < p0.Group.Q)))))
def Rr (p0 : Qs) : Option (Bool) := (if p0.Kind ≠ 4#8 then (Rs p0 true) else (if p0.Depth < 0 then (Rs p0 true) else (if (6 : Int) < p0.Depth then (Rs p0 true) else (if p0.Degree < 1 then (Rs p0 true) else (if (8 : Int) < p0.Degree then (Rs p0 true) else Option.bind (Qfo p0.Group) fun x3 => ((Rs p0 (!x3))))))))
def Qfr (p0 : W2) (p1 : BitVec 64) (p2 : BitVec 64) : Option (BitVec 64) := (if p2 = 0#64 then (some 0#64) else Option.bind (Cw (((Xz (Jk p0 (Xf 3#8) p1)).take 8).drop 0)) fun x1 => (Option.bind (Kk x1 p2) fun x2 => ((some x2))))
def Qcd (p0 : W2) (p1 : Qs) (rec1 : (List (BitVec 64) × Int) → Option (List (BitVec 64))) (s1 : List (BitVec 64) × Int) : Option (List (BitVec 64)) := match s1 with | (a4, a6) => (if a6 ≤ p1.Degree then Option.bind (Qfr (Jk p0 (Xf 40#8) 0#64) (wd a6) p1.Group.Q) fun x7 => (Option.bind (Ks 8 a4 [x7]) fun l8 => ((rec1 (l8, Qi (a6 + 1))))) else (some a4))
def Qg5 (p0 : W2) (p1 : Qs) : Option (List (BitVec 64)) := (Qr (Qcd p0 p1) Xb ([], 0))
def Qcf (p0 : BitVec 64) (p1 : List (BitVec 64)) (p2 : BitVec 64) (rec1 : (BitVec 64 × BitVec 64 × Int) → Option (BitVec 64)) (s1 : BitVec 64 × BitVec 64 × Int) : Option (BitVec 64) := match s1 with | (a4, a5, a6) => (if a6 < (p1.length : Int) then Option.bind (Xt p1 a6) fun y7 => (Option.bind (Kk (a4 + (y7 * a5)) p0) fun x8 => (Option.bind (Kk (a5 * p2) p0) fun x9 => ((rec1 (x8, x9, Qi (a6 + 1)))))) else (some a4))
def Qg9 (p0 : BitVec 64) (p1 : List (BitVec 64)) (p2 : BitVec 64) : Option (BitVec 64) := (Qr (Qcf p0 p1 p2) Xb (0#64, 1#64, 0))
def Qji (p0 : W2) (p1 : Qs) (p2 : Int) : Option (Qq) := Option.bind (Qg5 p0 p1) fun x1 => (Option.bind (Qg9 p1.Group.Q x1 ((wd p2) + 1#64)) fun x2 => ((some (Qq.mk p2 [] (Qu.mk ((wd p2) + 1#64) x2)))))
def Qg7 (p0 : W2) (p1 : Qs) (p2 : Int) (a2 : Bool) : Option (Qq × Int) := (bif a2 then (some ((Qq.mk 0 [] (Qu.mk 0#64 0#64)), 2)) else Option.bind (Qji p0 p1 p2) fun x3 => ((some (x3, 0))))
def Qce (p0 : W2) (p1 : Qs) (p2 : Int) : Option (Qq × Int) := Option.bind (Rr p1) fun x1 => ((bif (!x1) then (some ((Qq.mk 0 [] (Qu.mk 0#64 0#64)), 30)) else (if p2 < 0 then (Qg7 p0 p1 p2 true) else Option.bind (Lh p1.Depth) fun x4 => ((Qg7 p0 p1 p2 (decide (x4 ≤ p2)))))))
def Rf (p0 : Qs) : Option (Int) := Option.bind (Ri p0) fun x1 => ((bif (!x1) then (some 30) else (some 0)))
def Qg4 (p0 : Qs) : Option (Int) := Option.bind (Rr p0) fun x1 => ((bif (!x1) then (some 30) else (some 0)))
end
end Go.Sx

end
section
set_option linter.unusedVariables false
set_option maxRecDepth 100000
namespace Go.Sx
open Go Go.RowKit
noncomputable section
def Qbm (p0 : BitVec 64) : Option (Bool) := (if 1#64 ≤ p0 then (some (decide (p0 < 4294967296#64))) else (some false))
def Qf2 (p0 : BitVec 64) (p1 : BitVec 64) (p2 : BitVec 64) : Option (BitVec 64 × Int) := Option.bind (Qbm p2) fun x1 => ((bif (!x1) then (some (0#64, 2)) else Option.bind (Qbn p0 p1 p2) fun x2 => ((some (x2, 0)))))
def Qbt (p0 : Qs) (p1 : BitVec 64) (p2 : BitVec 64) : Option (BitVec 64) := Option.bind (Qf2 p1 p2 p0.Group.P) fun x1 => ((some x1.1))
def Qj1 (p0 : BitVec 64) : Option (W2) := (some (Jk k0 (Xf 42#8) p0))
def Qjh (p0 : BitVec 64) : Option (W2) := (some (Jk k0 (Xf 42#8) p0))
def Qiz (p0 : Qu) (p1 : Qu) : Option (Bool) := (some (decide (p0.X = p1.X)))
def Qcw (p0 : List Qu) (p1_0 : Qu) (rec1 : (Int) → Option (Int)) (a2 : Int) : Option (Int) := (if a2 < (p0.length : Int) then Option.bind (Xt p0 a2) fun y3 => (Option.bind (Qiz y3 p1_0) fun x4 => ((bif x4 then (some a2) else (rec1 (Qi (a2 + 1)))))) else (some (-1)))
def Qjy (p0 : List Qu) (p1_0 : Qu) : Option (Int) := (Qr (Qcw p0 p1_0) Xb 0)
def Qgy (p0 : List Qu) (p1_0 : Qu) : Option (Bool) := Option.bind (Qjy p0 p1_0) fun x1 => ((some (decide ((0 : Int) ≤ x1))))
def Al (p0 : List Qu) (rec1 : (Int) → Option (Bool)) (a2 : Int) : Option (Bool) := (if a2 < (p0.length : Int) then Option.bind (Xt p0 a2) fun y3 => (Option.bind (Nn p0 0 a2) fun l4 => (Option.bind (Qgy l4 y3) fun x5 => ((bif x5 then (some false) else (rec1 (Qi (a2 + 1))))))) else (some true))
def Qbq (p0 : List Qu) : Option (Bool) := (Qr (Al p0) Xb 0)
def Qgb (p0 : BitVec 64) (p1 : BitVec 64) (p2 : BitVec 64) : Option (BitVec 64) := Option.bind (Kk p2 p0) fun x1 => (Option.bind (Kk ((p1 + p0) - x1) p0) fun x2 => ((some x2)))
def Qbw (p1 : BitVec 64) (rec1 : (BitVec 64 × BitVec 64 × BitVec 64 × BitVec 64) → Option (BitVec 64 × Bool)) (s1 : BitVec 64 × BitVec 64 × BitVec 64 × BitVec 64) : Option (BitVec 64 × Bool) := match s1 with | (a7, a8, a9, a10) => (if a9 ≠ 0#64 then Option.bind (Rk a7 a9) fun x11 => (Option.bind (Kk x11 p1) fun x12 => (Option.bind (Kk (x12 * a10) p1) fun x13 => (Option.bind (Kk (a8 + (p1 - x13)) p1) fun x14 => ((rec1 (a9, a10, a7 - (x11 * a9), x14)))))) else (some (a8, decide (a7 = 1#64))))
def Qbv (p0 : BitVec 64) (p1 : BitVec 64) : Option (BitVec 64 × Bool) := Option.bind (Kk p0 p1) fun x1 => (Option.bind (Kk 1#64 p1) fun x2 => ((Qr (Qbw p1) Xb (x1, x2, p1, 0#64))))
def Qfd (p0 : BitVec 64) (p1 : BitVec 64) (p2 : BitVec 64) : Option (BitVec 64) := Option.bind (Kk ((p1 + p0) - p2) p0) fun x1 => ((some x1))
def Qbl (p1 : BitVec 64) (rec1 : (Int × Int × Int × Int) → Option (BitVec 64 × Int)) (s1 : Int × Int × Int × Int) : Option (BitVec 64 × Int) := match s1 with | (a7, a8, a9, a10) => (if a8 ≠ 0 then Option.bind (Yy a7 a8) fun x11 => ((rec1 (a8, Qi (a7 - (Qi (x11 * a8))), a10, Qi (a9 - (Qi (x11 * a10)))))) else (if a7 ≠ 1 then (some (0#64, 10)) else Option.bind (Kv a9 (Qi (un p1))) fun x12 => (Option.bind (Kv (Qi (x12 + (Qi (un p1)))) (Qi (un p1))) fun x13 => ((some (wd x13, 0))))))
def Qbk (p0 : BitVec 64) (p1 : BitVec 64) : Option (BitVec 64 × Int) := Option.bind (Qbm p1) fun x1 => ((bif (!x1) then (some (0#64, 2)) else Option.bind (Kk p0 p1) fun x2 => ((Qr (Qbl p1) Xb (Qi (un p1), Qi (un x2), 0, 1)))))
def Qfb (p0 : BitVec 64) (p1 : BitVec 64) (p2 : BitVec 64) : Option (BitVec 64) := Option.bind (Qbk p2 p0) fun x1 => (Option.bind (Sh p0 [p1, x1.1]) fun x2 => ((some x2)))
end
end Go.Sx

end
section
set_option linter.unusedVariables false
set_option maxRecDepth 100000
namespace Go.Sx
open Go Go.RowKit
noncomputable section
end
end Go.Sx

end
section
set_option linter.unusedVariables false
set_option maxRecDepth 100000
namespace Go.Sx
open Go Go.RowKit
noncomputable section
def Qjw (p0 : List Qu) : Option (List Qu) := Option.bind (Ks 16 [] p0) fun l1 => ((some l1))
def Qbr (p0 : Qs) (p1 : Qq) (a2 : Bool) : Option (Bool) := (bif a2 then (some (decide (p1.Share.Y < p0.Group.Q))) else (some false))
def An (p0 : Qs) (p1 : Qq) (a3 : List Qu) (a5 : Int) (rec4 : (Bool × Int) → Option (Bool)) (s4 : Bool × Int) : Option (Bool) := match s4 with | (a8, a9) => (if a9 < a5 then Option.bind (Xt a3 a9) fun y10 => ((bif (!a8) then (Qbr p0 p1 a8) else (if 1#64 ≤ y10.X then (if y10.X < p0.Group.Q then (if 1#64 ≤ y10.Y then (rec4 (decide (y10.Y < p0.Group.P), Qi (a9 + 1))) else (rec4 (false, Qi (a9 + 1)))) else (rec4 (false, Qi (a9 + 1)))) else (rec4 (false, Qi (a9 + 1)))))) else (Qbr p0 p1 a8))
def Qj0 (p0 : Qs) (p1 : Qq) (a1 : Bool) (a3 : List Qu) (a5 : Int) : Option (Bool) := (Qr (An p0 p1 a3 a5) Xb (a1, 0))
def Rh (p0 : Qs) (p1 : Qq) (p2 : Zi) (a1 : Bool) : Option (Bool) := Option.bind (Qjw p2.Points) fun x11 => (Option.bind (Ks 16 x11 [(Qu.mk p1.Share.X 1#64)]) fun l12 => ((Qj0 p0 p1 a1 l12 (l12.length : Int))))
def Qfe (p0 : Qs) (p1 : Qq) (p2 : Zi) : Option (Bool) := (if (p2.Items.length : Int) = 0 then (if 1#64 ≤ p2.Base then (if p2.Base < p0.Group.P then (if (p2.Points.length : Int) = p0.Degree then Option.bind (Qbq p2.Points) fun x15 => ((Rh p0 p1 p2 x15)) else (Rh p0 p1 p2 false)) else (Rh p0 p1 p2 false)) else (Rh p0 p1 p2 false)) else (Rh p0 p1 p2 false))
def Ak (p0 : Qs) (l4 : List Qu) (a8 : BitVec 64) (a9 : Int) (rec1 : (BitVec 64 × Int) → Option (W2 × Int)) (y10 : Qu) (rec2 : (BitVec 64 × BitVec 64 × Int) → Option (W2 × Int)) (s2 : BitVec 64 × BitVec 64 × Int) : Option (W2 × Int) := match s2 with | (a14, a15, a16) => (if a16 < (l4.length : Int) then Option.bind (Xt l4 a16) fun y17 => ((if a16 ≠ a9 then Option.bind (Sh p0.Group.Q [a14, y17.X]) fun x18 => (Option.bind (Qfd p0.Group.Q y17.X y10.X) fun x19 => (Option.bind (Sh p0.Group.Q [a15, x19]) fun x20 => ((rec2 (x18, x20, Qi (a16 + 1)))))) else (rec2 (a14, a15, Qi (a16 + 1))))) else Option.bind (Qfb p0.Group.Q a14 a15) fun x21 => (Option.bind (Qbt p0 y10.Y x21) fun x22 => (Option.bind (Sh p0.Group.P [a8, x22]) fun x23 => ((rec1 (x23, Qi (a9 + 1)))))))
def Qf8 (p2 : Zi) (a25 : W2) : Option (W2 × Int) := (if Jk a25 (Xf 53#8) 0#64 ≠ p2.Check then (some (k0, 6)) else (some (a25, 0)))
def Cr (p0 : Qs) (p2 : Zi) (l4 : List Qu) (rec1 : (BitVec 64 × Int) → Option (W2 × Int)) (s1 : BitVec 64 × Int) : Option (W2 × Int) := match s1 with | (a8, a9) => (if a9 < (l4.length : Int) then Option.bind (Xt l4 a9) fun y10 => ((Qr (Ak p0 l4 a8 a9 rec1 y10) Xb (1#64, 1#64, 0))) else Option.bind (Qj1 a8) fun x26 => ((Qf8 p2 (Dc x26 p2.Box))))
def Aj (p0 : Qs) (p1 : Qq) (p2 : Zi) : Option (W2 × Int) := Option.bind (Ri p0) fun x1 => ((bif (!x1) then (some (k0, 30)) else Option.bind (Qfe p0 p1 p2) fun x2 => ((bif (!x2) then (some (k0, 8)) else Option.bind (Qbt p0 p2.Base p1.Share.Y) fun x3 => (Option.bind (Ks 16 [(Qu.mk p1.Share.X x3)] p2.Points) fun l4 => (Option.bind (Qbq l4) fun x5 => ((bif (!x5) then (some (k0, 6)) else (Qr (Cr p0 p2 l4) Xb (1#64, 0))))))))))
def Mj (p1 : Zi) (a3 : Int) (rec2 : (Int) → Option (Bool)) (y4 : Qu) (rec4 : (Int) → Option (Bool)) (a7 : Int) : Option (Bool) := (if a7 < a3 then Option.bind (Xt p1.Points a7) fun y8 => ((if y8.X = y4.X then (some false) else (rec4 (Qi (a7 + 1))))) else (rec2 (Qi (a3 + 1))))
def Io (p1 : Zi) (a3 : Int) (rec2 : (Int) → Option (Bool)) (y4 : Qu) (a5 : Bool) : Option (Bool) := (bif a5 then (some false) else (Qr (Mj p1 a3 rec2 y4) Xb 0))
def Mh (p0 : Qs) (p1 : Zi) (rec2 : (Int) → Option (Bool)) (a3 : Int) : Option (Bool) := (if a3 < (p1.Points.length : Int) then Option.bind (Xt p1.Points a3) fun y4 => ((if y4.X < 1#64 then (Io p1 a3 rec2 y4 true) else (if p0.Group.Q ≤ y4.X then (Io p1 a3 rec2 y4 true) else (if y4.Y < 1#64 then (Io p1 a3 rec2 y4 true) else (Io p1 a3 rec2 y4 (decide (p0.Group.P ≤ y4.Y))))))) else (some true))
def Im (p0 : Qs) (p1 : Zi) (a1 : Bool) : Option (Bool) := (bif a1 then (some false) else (Qr (Mh p0 p1) Xb 0))
def Qg8 (p0 : Qs) (p1 : Zi) : Option (Bool) := (if (p1.Items.length : Int) ≠ 0 then (Im p0 p1 true) else (if p1.Base < 1#64 then (Im p0 p1 true) else (if p0.Group.P ≤ p1.Base then (Im p0 p1 true) else (Im p0 p1 (decide ((p1.Points.length : Int) ≠ p0.Degree))))))
def Qcg (p0 : BitVec 64) (p1 : List (BitVec 64)) (p2 : Int) (rec1 : (BitVec 64 × Int) → Option (BitVec 64)) (s1 : BitVec 64 × Int) : Option (BitVec 64) := match s1 with | (a3, a4) => (if a4 < (p1.length : Int) then (if a4 = p2 then (rec1 (a3, Qi (a4 + 1))) else Option.bind (Xt p1 a4) fun y5 => (Option.bind (Xt p1 p2) fun y6 => (Option.bind (Qgb p0 y5 y6) fun x7 => (Option.bind (Qbv x7 p0) fun x8 => (Option.bind (Xt p1 a4) fun y9 => (Option.bind (Kk (a3 * y9) p0) fun x10 => (Option.bind (Kk (x10 * x8.1) p0) fun x11 => ((rec1 (x11, Qi (a4 + 1))))))))))) else (some a3))
def Qga (p0 : BitVec 64) (p1 : List (BitVec 64)) (p2 : Int) : Option (BitVec 64) := (Qr (Qcg p0 p1 p2) Xb (1#64, 0))
def Qg6 (p2 : Zi) (a28 : W2) : Option (W2 × Int) := (if Jk a28 (Xf 53#8) 0#64 ≠ p2.Check then (some (k0, 6)) else (some (a28, 0)))
def Rq (p0 : Qs) (p2 : Zi) (a9 : List (BitVec 64)) (a11 : List (BitVec 64)) (rec3 : (BitVec 64 × Int) → Option (W2 × Int)) (s3 : BitVec 64 × Int) : Option (W2 × Int) := match s3 with | (a21, a22) => (if a22 < (a9.length : Int) then Option.bind (Xt a11 a22) fun y23 => (Option.bind (Qga p0.Group.Q a9 a22) fun x24 => (Option.bind (Ap y23 x24 p0.Group.P) fun x25 => (Option.bind (Kk (a21 * x25) p0.Group.P) fun x26 => ((rec3 (x26, Qi (a22 + 1))))))) else Option.bind (Qjh a21) fun x29 => (Option.bind (Cu x29 p2.Box) fun x30 => ((Qg6 p2 x30))))
def Il (p0 : Qs) (p1 : Qq) (p2 : Zi) (rec2 : (List (BitVec 64) × List (BitVec 64) × Int) → Option (W2 × Int)) (s2 : List (BitVec 64) × List (BitVec 64) × Int) : Option (W2 × Int) := match s2 with | (a9, a11, a13) => (if a13 < (p2.Points.length : Int) then Option.bind (Xt p2.Points a13) fun y14 => ((if y14.X = p1.Share.X then (some (k0, 6)) else Option.bind (Xt p2.Points a13) fun y15 => (Option.bind (Ks 8 a9 [y15.X]) fun l16 => (Option.bind (Xt p2.Points a13) fun y17 => (Option.bind (Ks 8 a11 [y17.Y]) fun l18 => ((rec2 (l16, l18, Qi (a13 + 1))))))))) else (Qr (Rq p0 p2 a9 a11) Xb (1#64, 0)))
def Ik (p0 : Qs) (p1 : Qq) (p2 : Zi) (a2 : Bool) : Option (W2 × Int) := (bif a2 then (some (k0, 8)) else Option.bind (Ap p2.Base p1.Share.Y p0.Group.P) fun x3 => ((Qr (Il p0 p1 p2) Xb ([p1.Share.X], [x3], 0))))
def Mg (p0 : Qs) (p1 : Qq) (p2 : Zi) : Option (W2 × Int) := Option.bind (Rr p0) fun x1 => ((bif (!x1) then (some (k0, 30)) else Option.bind (Qg8 p0 p2) fun x34 => ((bif (!x34) then (Ik p0 p1 p2 true) else (if p1.Share.X < 1#64 then (Ik p0 p1 p2 true) else (if p0.Group.Q ≤ p1.Share.X then (Ik p0 p1 p2 true) else (Ik p0 p1 p2 (decide (p0.Group.Q ≤ p1.Share.Y)))))))))
end
end Go.Sx

end
section

end
section

end
section
set_option linter.unusedVariables false
set_option maxRecDepth 100000
namespace Go.Sx
open Go Go.RowKit
noncomputable section
def Qas (p0 : W2) (p1 : Qs) (p2 : Int) (a1 : Bool) : Option (Qq × Int) := (bif a1 then (some ((Qq.mk 0 [] (Qu.mk 0#64 0#64)), 2)) else (if Xf p1.Kind = 1 ∨ Xf p1.Kind = 2 ∨ Xf p1.Kind = 3 then Option.bind (Bn p1) fun x2 => ((if x2 ≠ 0 then (some ((Qq.mk 0 [] (Qu.mk 0#64 0#64)), x2)) else Option.bind (Qdp p0 p1 p2) fun x3 => ((some (x3.1, x3.2))))) else (if Xf p1.Kind = 4 then Option.bind (Rf p1) fun x4 => ((if x4 ≠ 0 then (some ((Qq.mk 0 [] (Qu.mk 0#64 0#64)), x4)) else Option.bind (Qf9 p0 p1 p2) fun x5 => ((some (x5.1, x5.2))))) else none)))
def Qed (p0 : W2) (p1 : Qs) (p2 : Int) : Option (Qq × Int) := (if p1.Kind < 1#8 then (Qas p0 p1 p2 true) else (Qas p0 p1 p2 (decide ((5 : Int) ≤ Xf p1.Kind))))
def Ly (p0 : Qs) (a1 : Bool) : Option (Int) := (bif a1 then (some 2) else (if Xf p0.Kind = 1 ∨ Xf p0.Kind = 2 ∨ Xf p0.Kind = 3 then Option.bind (Bn p0) fun x2 => ((some x2)) else (if Xf p0.Kind = 4 then Option.bind (Rf p0) fun x3 => ((some x3)) else none)))
def Bs (p0 : Qs) : Option (Int) := (if p0.Kind < 1#8 then (Ly p0 true) else (Ly p0 (decide ((5 : Int) ≤ Xf p0.Kind))))
def Qi6 (p0 : W2) (p1 : Int) : Option (W2) := (some (Jk p0 (Xf 51#8) (wd p1)))
def Mk (p0 : Qs) (a1 : Bool) : Option (Int) := (bif a1 then Option.bind (Qft p0) fun x2 => ((some x2)) else (if p0.Kind = 4#8 then Option.bind (Qg4 p0) fun x3 => ((some x3)) else (some 2)))
def Ip (p0 : Qs) : Option (Int) := (if 1#8 ≤ p0.Kind then (Mk p0 (decide (p0.Kind ≤ 3#8))) else (Mk p0 false))
def Qgi (p0 : W2) (p1 : Qs) (p2 : Int) : Option (Qq × Int) := Option.bind (Ip p1) fun x1 => ((if x1 ≠ 0 then (some ((Qq.mk 0 [] (Qu.mk 0#64 0#64)), x1)) else (if p1.Kind = 4#8 then Option.bind (Qce p0 p1 p2) fun x2 => ((some (x2.1, x2.2))) else Option.bind (Qcb p0 p1 p2) fun x3 => ((some (x3.1, x3.2))))))
def Qgm (p0 : W2) (p1 : Int) : Option (W2) := (some (Jk p0 (Xf 51#8) (wd p1)))
def Qco (p0 : Qq) (p1 : Qq) (rec2 : (Int) → Option (Bool)) (a3 : Int) : Option (Bool) := (if a3 < (p0.Labels.length : Int) then Option.bind (Xt p0.Labels a3) fun y4 => (Option.bind (Xt p1.Labels a3) fun y5 => ((if y4 ≠ y5 then (some false) else (rec2 (Qi (a3 + 1)))))) else (some true))
def Qcn (p0 : Qq) (p1 : Qq) (a1 : Bool) : Option (Bool) := (bif a1 then (some false) else (Qr (Qco p0 p1) Xb 0))
def Qgg (p0 : Qq) (p1 : Qq) : Option (Bool) := (if p0.Receiver ≠ p1.Receiver then (Qcn p0 p1 true) else (if p0.Share ≠ p1.Share then (Qcn p0 p1 true) else (Qcn p0 p1 (decide ((p0.Labels.length : Int) ≠ (p1.Labels.length : Int))))))
end
end Go.Sx

end
section
set_option linter.unusedVariables false
set_option maxRecDepth 100000
namespace Go.Sx
open Go Go.RowKit
noncomputable section
structure Za where
  Epoch : Int
  Word : Int
  Early : Int
  Drift : Int
  Delay : Int
deriving DecidableEq, Inhabited
def Za.cs (x : Za)  : List Value := [.int .i64 x.Epoch, .int .i64 x.Word, .int .i64 x.Early, .int .i64 x.Drift, .int .i64 x.Delay]
theorem Za.cs_ones (x : Za)   : Jn (Za.cs x ) = true := by simp only [Za.cs, List.cons_append, List.nil_append, kb, Jn, Ps, Pr, Pt, cond_true]
theorem Za.cs_inj {x y : Za} (h : Za.cs x = Za.cs y) : x = y := by
  have h0 : x.Epoch = y.Epoch := Db (congrArg (fun l => l[0]?) h)
  have h1 : x.Word = y.Word := Db (congrArg (fun l => l[1]?) h)
  have h2 : x.Early = y.Early := Db (congrArg (fun l => l[2]?) h)
  have h3 : x.Drift = y.Drift := Db (congrArg (fun l => l[3]?) h)
  have h4 : x.Delay = y.Delay := Db (congrArg (fun l => l[4]?) h)
  cases x; cases y; simp only at *; subst h0; subst h1; subst h2; subst h3; subst h4; rfl
theorem Za.ws (l : List Za) : Ws 5 (l.map Za.cs) := Wb l (fun _ => rfl) (fun _ => rfl)
structure Ze where
  Kind : BitVec 8
  Epoch : Int
  Head : Zi
  Low : BitVec 8
  Number : BitVec 64
  Data : List (BitVec 8)
  Mac : W2
deriving DecidableEq, Inhabited
def Ze.cs (x : Ze) (v0 : Value) (v1 : Value) (v2 : Value) : List Value := [bv x.Kind, .int .i64 x.Epoch, v0, wv x.Head.Base, v1] ++ (kb x.Head.Box ++ (kb x.Head.Check ++ ([bv x.Low, wv x.Number, v2] ++ (kb x.Mac))))
theorem Ze.cs_ones (x : Ze) (v0 : Value) (v1 : Value) (v2 : Value) (h0 : oneB v0 = true) (h1 : oneB v1 = true) (h2 : oneB v2 = true) : Jn (Ze.cs x v0 v1 v2) = true := by simp only [Ze.cs, List.cons_append, List.nil_append, kb, Jn, Ps, Pr, Pt, cond_true, h0, h1, h2]
structure Kq where
  out : List (BitVec 8)
deriving DecidableEq, Inhabited
def Kq.cs (x : Kq) (v0 : Value) : List Value := [v0]
theorem Kq.cs_ones (x : Kq) (v0 : Value) (h0 : oneB v0 = true) : Jn (Kq.cs x v0) = true := by simp only [Kq.cs, List.cons_append, List.nil_append, kb, Jn, Ps, Pr, Pt, cond_true, h0]
structure Xg where
  Full : Bool
  Epoch : Int
  Key : W2
deriving DecidableEq, Inhabited
def Xg.cs (x : Xg)  : List Value := [.bool x.Full, .int .i64 x.Epoch] ++ (kb x.Key)
theorem Xg.cs_ones (x : Xg)   : Jn (Xg.cs x ) = true := by simp only [Xg.cs, List.cons_append, List.nil_append, kb, Jn, Ps, Pr, Pt, cond_true]
theorem Xg.cs_inj {x y : Xg} (h : Xg.cs x = Xg.cs y) : x = y := by
  have h0 : x.Full = y.Full := Qww (congrArg (fun l => l[0]?) h)
  have h1 : x.Epoch = y.Epoch := Db (congrArg (fun l => l[1]?) h)
  have h2 : x.Key = y.Key := Hq (congrArg (fun l => (l.drop 2).take 16) h)
  cases x; cases y; simp only at *; subst h0; subst h1; subst h2; rfl
theorem Xg.ws (l : List Xg) : Ws 18 (l.map Xg.cs) := Wb l (fun _ => rfl) (fun _ => rfl)
structure Zp where
  a0 : Xg
  a1 : Xg
deriving DecidableEq, Inhabited
def Zp.cs (x : Zp)  : List Value := [.bool x.a0.Full, .int .i64 x.a0.Epoch] ++ (kb x.a0.Key ++ ([.bool x.a1.Full, .int .i64 x.a1.Epoch] ++ (kb x.a1.Key)))
theorem Zp.cs_ones (x : Zp)   : Jn (Zp.cs x ) = true := by simp only [Zp.cs, List.cons_append, List.nil_append, kb, Jn, Ps, Pr, Pt, cond_true]
theorem Zp.cs_inj {x y : Zp} (h : Zp.cs x = Zp.cs y) : x = y := by
  have h0 : x.a0 = y.a0 := Xg.cs_inj (congrArg (fun l => (l.drop 0).take 18) h)
  have h1 : x.a1 = y.a1 := Xg.cs_inj (congrArg (fun l => (l.drop 18).take 18) h)
  cases x; cases y; simp only at *; subst h0; subst h1; rfl
theorem Zp.ws (l : List Zp) : Ws 36 (l.map Zp.cs) := Wb l (fun _ => rfl) (fun _ => rfl)
structure Qw where
  Secret : Qq
  Ahead : Int
  Slots : Zp
deriving DecidableEq, Inhabited
def Qw.cs (x : Qw) (v0 : Value) : List Value := [.int .i64 x.Secret.Receiver, v0, wv x.Secret.Share.X, wv x.Secret.Share.Y, .int .i64 x.Ahead, .bool x.Slots.a0.Full, .int .i64 x.Slots.a0.Epoch] ++ (kb x.Slots.a0.Key ++ ([.bool x.Slots.a1.Full, .int .i64 x.Slots.a1.Epoch] ++ (kb x.Slots.a1.Key)))
theorem Qw.cs_ones (x : Qw) (v0 : Value) (h0 : oneB v0 = true) : Jn (Qw.cs x v0) = true := by simp only [Qw.cs, List.cons_append, List.nil_append, kb, Jn, Ps, Pr, Pt, cond_true, h0]
def Br (a2 : Bool) : Option (Int) := (bif a2 then (some 50) else (some 0))
def Lx (p0 : Za) (a1 : Bool) : Option (Int) := (bif a1 then (some 50) else (if Hh (Hh p0.Early p0.Drift) p0.Delay < 0 then (Br true) else (if Qi (3 * p0.Word) ≤ p0.Drift then (Br true) else (if Qi (3 * p0.Word) ≤ p0.Delay then (Br true) else (if Qi (3 * p0.Word) ≤ Qi ((Qi (2 * p0.Drift)) + p0.Delay) then (Br true) else (Br (decide (Qi (p0.Epoch - p0.Delay) < p0.Early))))))))
def Lw (p0 : Za) : Option (Int) := (if p0.Word < 1 then (Lx p0 true) else (if (1000 : Int) < p0.Word then (Lx p0 true) else (if p0.Epoch < p0.Word then (Lx p0 true) else (if Qi (1000 * p0.Word) < p0.Epoch then (Lx p0 true) else Option.bind (Kv p0.Epoch p0.Word) fun x3 => ((Lx p0 (decide (x3 ≠ 0))))))))
def Fj (p0 : Int) : Option (Bool) := (if (0 : Int) ≤ p0 then (some (decide (p0 ≤ 1099511627776))) else (some false))
def Qb1 (p0 : Za) (p1 : Int) : Option (Int × Int) := (some (Di (Qi ((Qi (p1 - p0.Drift)) - p0.Delay)) 0, Qi (p1 + p0.Drift)))
def Qei (p0 : Za) (p1 : Int) (p2 : BitVec 8) : Option (Int × Bool) := Option.bind (Qb1 p0 p1) fun x1 => ((if x1.2 < 0 then (some (0, false)) else Option.bind (Yy x1.1 p0.Word) fun x2 => (Option.bind (Kv x2 4) fun x3 => (Option.bind (Kv (Qi ((Qi ((Xf p2) - x3)) + 4)) 4) fun x4 => (Option.bind (Yy x1.2 p0.Word) fun x5 => ((some (Qi (x2 + x4), decide (Qi (x2 + x4) ≤ x5)))))))))
def Qek (p0 : Za) (p1 : Int) (p2 : Int) : Option (Bool) := Option.bind (Qb1 p0 p1) fun x1 => ((if (0 : Int) ≤ x1.2 then Option.bind (Yy x1.1 p0.Epoch) fun x2 => ((if x2 ≤ p2 then (some (decide (Qi ((Qi (p2 * p0.Epoch)) - p0.Early) ≤ x1.2))) else (some false))) else (some false)))
def Eo (p1 : BitVec 64) (rec1 : (Int × List (BitVec 8)) → Option (Kq)) (s1 : Int × List (BitVec 8)) : Option (Kq) := match s1 with | (a4, a5) => (if (0 : Int) ≤ a4 then Option.bind (Jq (Qi (8 * a4))) fun nn7 => (Option.bind (Ks 1 a5 [(p1 >>> nn7).setWidth 8]) fun l8 => ((rec1 (Qi (a4 - 1), l8)))) else (some (Kq.mk a5)))
def De (p0 : Kq) (p1 : BitVec 64) (p2 : Int) : Option (Kq) := (Qr (Eo p1) Xb (Qi (p2 - 1), p0.out))
def Em (p0 : Kq) (p1 : W2) : Option (Kq) := Option.bind (Ks 1 p0.out (Xz p1)) fun l1 => ((some (Kq.mk l1)))
def Qax (p0 : Ze) (rec2 : (Int × Kq) → Option (List (BitVec 8))) (s2 : Int × Kq) : Option (List (BitVec 8)) := match s2 with | (a23, a24) => (if a23 < (p0.Head.Points.length : Int) then Option.bind (Xt p0.Head.Points a23) fun y26 => (Option.bind (De a24 y26.X 8) fun x27 => (Option.bind (De x27 y26.Y 8) fun x28 => ((rec2 (Qi (a23 + 1), x28))))) else Option.bind (Em a24 p0.Head.Box) fun x29 => (Option.bind (Em x29 p0.Head.Check) fun x30 => ((some x30.out))))
def Qaw (p0 : Ze) (rec1 : (Int × Kq) → Option (List (BitVec 8))) (s1 : Int × Kq) : Option (List (BitVec 8)) := match s1 with | (a11, a12) => (if a11 < (p0.Head.Items.length : Int) then Option.bind (Xt p0.Head.Items a11) fun y14 => (Option.bind (De a12 (wd y14.Subset.Node) 1) fun x15 => (Option.bind (De x15 (wd y14.Subset.Minus) 1) fun x16 => (Option.bind (Em x16 y14.Box) fun x17 => ((rec1 (Qi (a11 + 1), x17)))))) else Option.bind (De a12 p0.Head.Base 8) fun x18 => (Option.bind (De x18 (wd (p0.Head.Points.length : Int)) 1) fun x19 => ((Qr (Qax p0) Xb (0, x19)))))
def Qav (p0 : Ze) : Option (List (BitVec 8)) := Option.bind (De (Kq.mk []) (p0.Kind.setWidth 64) 1) fun x1 => ((if p0.Kind = 2#8 then Option.bind (De x1 (p0.Low.setWidth 64) 1) fun x2 => (Option.bind (De x2 p0.Number 8) fun x3 => (Option.bind (De x3 (wd (p0.Data.length : Int)) 2) fun x4 => (Option.bind (Ks 1 x4.out p0.Data) fun l5 => ((some l5))))) else Option.bind (De x1 (wd p0.Epoch) 8) fun x6 => (Option.bind (De x6 (wd (p0.Head.Items.length : Int)) 1) fun x7 => ((Qr (Qaw p0) Xb (0, x7))))))
def Qa7 (p1 : W2) (rec1 : (Int × W2) → Option (W2)) (s1 : Int × W2) : Option (W2) := match s1 with | (a3, a4) => (if a3 < 16 then Option.bind (Xt (Xz a4) a3) fun y5 => (Option.bind (Xt (Xz p1) a3) fun y6 => (Option.bind (Xt (Xz a4) a3) fun y7 => (Option.bind (Ti a4 a3 (y5 ^^^ y6)) fun x8 => ((rec1 (Qi (a3 + 1), x8)))))) else (some a4))
def Qdn (p0 : W2) (p1 : W2) : Option (W2) := (if p0 = p1 then (some k0) else (Qr (Qa7 p1) Xb (0, p0)))
def Qho (p0 : W2) (p1 : W2) (p2 : W2) : Option (W2) := Option.bind (Qdn p0 p1) fun x1 => ((some (Wn p2 x1)))
def Qa3 (p2_0 : W2) (rec1 : (List (BitVec 8) × W2) → Option (W2)) (s1 : List (BitVec 8) × W2) : Option (W2) := match s1 with | (a4, a6) => (if (0 : Int) < (a4.length : Int) then Option.bind (Nn a4 (Bm (Xz k0) a4) (a4.length : Int)) fun l7 => (Option.bind (Qho a6 (Yh (Gs (Xz k0) a4)) p2_0) fun x8 => ((rec1 (l7, x8)))) else (some a6))
def Qdl (p0 : W2) (p1 : List (BitVec 8)) (p2_0 : W2) : Option (W2) := (Qr (Qa3 p2_0) Xb (p1, p0))
def Qa0 (p0 : W2) (p1 : List (BitVec 8)) : Option (W2 × Int) := (if (16384 : Int) < (p1.length : Int) then (some (k0, 4)) else Option.bind (Qdl (Jk p0 (Xf 2#8) (wd (p1.length : Int))) p1 p0) fun x1 => ((some (x1, 0))))
def Qm7 (a2 : W2) : Option (W2) := (some a2)
def Qeg (p0 : W2) (p1 : Ze) : Option (W2) := Option.bind (Qav p1) fun x3 => (Option.bind (Qa0 (Jk p0 (Xf 52#8) (wd p1.Epoch)) x3) fun x4 => ((Qm7 x4.1)))
def Qa4 (p0 : Vc) (rec1 : (Int × W2) → Option (W2)) (s1 : Int × W2) : Option (W2) := match s1 with | (a3, a4) => (if a3 < 8 then Option.bind (Jq (Qi (56 - (Qi (8 * a3))))) fun nn5 => (Option.bind (Jq (Qi (56 - (Qi (8 * a3))))) fun nn6 => (Option.bind (Xt (Xz a4) a3) fun y7 => (Option.bind (Ti a4 a3 ((p0.x >>> nn5).setWidth 8)) fun x8 => (Option.bind (Xt (Xz x8) (Qi (8 + a3))) fun y9 => (Option.bind (Ti x8 (Qi (8 + a3)) ((p0.y >>> nn6).setWidth 8)) fun x10 => ((rec1 (Qi (a3 + 1), x10)))))))) else (some a4))
def Qdm (p0 : Vc) : Option (W2) := (Qr (Qa4 p0) Xb (0, k0))
def Qdk (p0 : BitVec 8) (p1 : BitVec 64) (p2 : BitVec 64) : Option (W2) := Option.bind (Jq (un 56#64)) fun nn1 => (Option.bind (Qdm (Vc.mk (((p0.setWidth 64) <<< nn1) ||| p1) p2)) fun x2 => ((some x2)))
def Qa1 (a6 : List (BitVec 8)) (a8 : Int) (rec1 : (List (BitVec 8) × Int × W2) → Option (List (BitVec 8) × Int)) (y10 : BitVec 8) (a11 : W2) : Option (List (BitVec 8) × Int) := Option.bind (Kv a8 16) fun x12 => (Option.bind (Xt (Xz a11) x12) fun y13 => (Option.bind (Xt a6 a8) fun y14 => ((rec1 (a6.set a8.toNat (y10 ^^^ y13), Qi (a8 + 1), a11)))))
def Qa2 (p0 : W2) (p1 : BitVec 64) (p2 : List (BitVec 8)) (rec1 : (List (BitVec 8) × Int × W2) → Option (List (BitVec 8) × Int)) (s1 : List (BitVec 8) × Int × W2) : Option (List (BitVec 8) × Int) := match s1 with | (a6, a8, a9) => (if a8 < (p2.length : Int) then Option.bind (Xt p2 a8) fun y10 => (Option.bind (Kv a8 16) fun x15 => ((if x15 = 0 then Option.bind (Yy a8 16) fun x16 => (Option.bind (Qdk 1#8 (wd x16) p1) fun x17 => ((Qa1 a6 a8 rec1 y10 (Wn p0 x17)))) else (Qa1 a6 a8 rec1 y10 a9)))) else (some (a6, 0)))
def Qdj (p0 : W2) (p1 : BitVec 64) (p2 : List (BitVec 8)) : Option (List (BitVec 8) × Int) := (if (16384 : Int) < (p2.length : Int) then (some ([], 4)) else Option.bind (Co 1 (p2.length : Int) 0#8) fun l1 => ((Qr (Qa2 p0 p1 p2) Xb (l1, 0, k0))))
def Qay (p0 : Qs) (p1 : Za) : Option (Int) := Option.bind (Bs p0) fun x1 => ((if x1 ≠ 0 then (some x1) else Option.bind (Lw p1) fun x2 => ((some x2))))
def Qaq (p0 : W2) (p1 : Qs) (p3 : Int) (p4 : Int) (a2 : Bool) : Option (Qw × Int) := (bif a2 then (some ((Qw.mk (Qq.mk 0 [] (Qu.mk 0#64 0#64)) 0 (Zp.mk (Xg.mk false 0 k0) (Xg.mk false 0 k0))), 2)) else Option.bind (Qed p0 p1 p3) fun x3 => ((if x3.2 ≠ 0 then (some ((Qw.mk (Qq.mk 0 [] (Qu.mk 0#64 0#64)) 0 (Zp.mk (Xg.mk false 0 k0) (Xg.mk false 0 k0))), x3.2)) else (some ((Qw.mk x3.1 p4 (Zp.mk (Xg.mk false 0 k0) (Xg.mk false 0 k0))), 0)))))
def Qeb (p0 : W2) (p1 : Qs) (p2 : Za) (p3 : Int) (p4 : Int) : Option (Qw × Int) := Option.bind (Qay p1 p2) fun x1 => ((if x1 ≠ 0 then (some ((Qw.mk (Qq.mk 0 [] (Qu.mk 0#64 0#64)) 0 (Zp.mk (Xg.mk false 0 k0) (Xg.mk false 0 k0))), x1)) else (if p4 < Qi (-p2.Drift) then (Qaq p0 p1 p3 p4 true) else (Qaq p0 p1 p3 p4 (decide (p2.Drift < p4))))))
def Nx (a4 : Int) (rec2 : (Int) → Option (Int)) (a6 : Bool) : Option (Int) := (bif a6 then (some 8) else (rec2 (Qi (a4 + 1))))
def Dd (p2 : Qw) (rec2 : (Int) → Option (Int)) (a4 : Int) : Option (Int) := (if a4 < 2 then Option.bind (Xt [p2.Slots.a0, p2.Slots.a1] a4) fun y5 => ((bif y5.Full then Option.bind (Fj y5.Epoch) fun x7 => ((bif (!x7) then (Nx a4 rec2 true) else Option.bind (Kv y5.Epoch 2) fun x8 => ((if x8 ≠ a4 then (Nx a4 rec2 true) else (bif (!y5.Full) then (Nx a4 rec2 (decide (y5 ≠ (Xg.mk false 0 k0)))) else (Nx a4 rec2 false)))))) else (bif (!y5.Full) then (Nx a4 rec2 (decide (y5 ≠ (Xg.mk false 0 k0)))) else (Nx a4 rec2 false)))) else (some 0))
def El (p2 : Qw) (a2 : Bool) : Option (Int) := (bif a2 then (some 8) else (Qr (Dd p2) Xb 0))
def Qao (p0 : Qs) (p1 : Za) (p2 : Qw) : Option (Int) := Option.bind (Qay p0 p1) fun x1 => ((if x1 ≠ 0 then (some x1) else (if p2.Ahead < Qi (-p1.Drift) then (El p2 true) else (if p1.Drift < p2.Ahead then (El p2 true) else (if p2.Secret.Receiver < 0 then (El p2 true) else Option.bind (Jq p0.Depth) fun nn9 => ((El p2 (decide (Pc 1 nn9 ≤ p2.Secret.Receiver)))))))))
def Qea (p0 : Zd) : Option (Bool) := (if Hh p0.Subset.Node p0.Subset.Minus < 0 then (some true) else (some (decide ((127 : Int) < Di p0.Subset.Node p0.Subset.Minus))))
def Oc (p0 : List Zd) (rec1 : (Int) → Option (Int)) (a2 : Int) : Option (Int) := (if a2 < (p0.length : Int) then Option.bind (Xt p0 a2) fun y3 => (Option.bind (Qea y3) fun x4 => ((bif x4 then (some a2) else (rec1 (Qi (a2 + 1)))))) else (some (-1)))
def Qk0 (p0 : List Zd) : Option (Int) := (Qr (Oc p0) Xb 0)
def Qgx (p0 : List Zd) : Option (Bool) := Option.bind (Qk0 p0) fun x1 => ((some (decide ((0 : Int) ≤ x1))))
def Du (a2 : Bool) : Option (Int) := (bif (!a2) then (some 8) else (some 0))
def Fi (p0 : Ze) (a1 : Bool) : Option (Int) := (if p0.Kind = 1#8 then Option.bind (Fj p0.Epoch) fun x3 => ((bif x3 then (if p0.Low = 0#8 then (if p0.Number = 0#64 then (if (p0.Data.length : Int) = 0 then (if (p0.Head.Items.length : Int) ≤ 64 then (if (p0.Head.Points.length : Int) ≤ 8 then Option.bind (Qgx p0.Head.Items) fun x4 => ((Du (!x4))) else (Du false)) else (Du false)) else (Du false)) else (Du false)) else (Du false)) else (Du false))) else (if p0.Kind = 2#8 then (if p0.Epoch = 0 then (if p0.Low < 4#8 then (if (p0.Data.length : Int) ≤ 256 then (Du a1) else (Du false)) else (Du false)) else (Du false)) else (Du false)))
def Qap (p0 : Ze) : Option (Int) := (if (p0.Head.Items.length : Int) = 0 then (if (p0.Head.Points.length : Int) = 0 then (if p0.Head.Base = 0#64 then (if p0.Head.Box = k0 then (Fi p0 (decide (p0.Head.Check = k0))) else (Fi p0 false)) else (Fi p0 false)) else (Fi p0 false)) else (Fi p0 false))
def Qgw (p0 : List Xn) : Option (List Xn) := Option.bind (Ks 32 [] p0) fun l1 => ((some l1))
def Qar (p0 : Qs) (p1 : Qq) (p2 : Zi) (a1 : Bool) : Option (W2 × Int) := (bif a1 then (some (k0, 2)) else (if Xf p0.Kind = 1 ∨ Xf p0.Kind = 2 ∨ Xf p0.Kind = 3 then Option.bind (Bn p0) fun x2 => ((if x2 ≠ 0 then (some (k0, x2)) else Option.bind (Qdo p0 p1 p2) fun x3 => ((some (x3.1, x3.2))))) else (if Xf p0.Kind = 4 then Option.bind (Rf p0) fun x4 => ((if x4 ≠ 0 then (some (k0, x4)) else Option.bind (Aj p0 p1 p2) fun x5 => ((some (x5.1, x5.2))))) else none)))
def Qec (p0 : Qs) (p1 : Qq) (p2 : Zi) : Option (W2 × Int) := (if p0.Kind < 1#8 then (Qar p0 p1 p2 true) else (Qar p0 p1 p2 (decide ((5 : Int) ≤ Xf p0.Kind))))
def Qi7 (p2 : Qw) (p3 : Ze) (x1 : Int) (a6 : W2) (a7 : Int) : Option (Int × Qw) := (if a7 ≠ 0 then (some (a7, p2)) else Option.bind (Qeg a6 p3) fun x8 => ((if x8 ≠ p3.Mac then (some (53, p2)) else (some (0, (Qw.mk p2.Secret p2.Ahead (Zp.mk (if x1 = 0 then (Xg.mk true p3.Epoch a6) else p2.Slots.a0) (if x1 = 0 then p2.Slots.a1 else (Xg.mk true p3.Epoch a6)))))))))
def Qaz (p0 : Qs) (p2 : Qw) (p3 : Ze) (x1 : Int) (a4 : Bool) : Option (Int × Qw) := (bif a4 then (some (52, p2)) else Option.bind (Qec p0 p2.Secret p3.Head) fun x9 => ((Qi7 p2 p3 x1 x9.1 x9.2)))
def Qeh (p0 : Qs) (p1 : Za) (p2 : Qw) (p3 : Ze) (p4 : Int) : Option (Int × Qw) := Option.bind (Kv p3.Epoch 2) fun x1 => (Option.bind (Xt [p2.Slots.a0, p2.Slots.a1] x1) fun y2 => (Option.bind (Qek p1 p4 p3.Epoch) fun x3 => ((bif (!x3) then (some (51, p2)) else (bif y2.Full then (Qaz p0 p2 p3 x1 (decide (p3.Epoch ≤ y2.Epoch))) else (Qaz p0 p2 p3 x1 false))))))
def Qi8 (p2 : Ze) (x7 : W2) (a9 : W2) (a10 : Int) : Option (List (BitVec 8) × Int) := (if a10 ≠ 0 then (some ([], a10)) else (if a9 ≠ p2.Mac then (some ([], 53)) else Option.bind (Qdj x7 p2.Number p2.Data) fun x11 => ((some (x11.1, x11.2)))))
def Qb0 (p2 : Ze) (x1 : Int × Bool) (y5 : Xg) (a6 : Bool) : Option (List (BitVec 8) × Int) := (bif a6 then (some ([], 6)) else Option.bind (Qi6 y5.Key x1.1) fun x7 => (Option.bind (Qav p2) fun x12 => (Option.bind (Qa0 x7 x12) fun x13 => ((Qi8 p2 x7 x13.1 x13.2)))))
def Qej (p0 : Za) (p1 : Qw) (p2 : Ze) (p3 : Int) : Option (List (BitVec 8) × Int) := Option.bind (Qei p0 p3 p2.Low) fun x1 => ((bif (!x1.2) then (some ([], 51)) else Option.bind (Yy p0.Epoch p0.Word) fun x2 => (Option.bind (Yy x1.1 x2) fun x3 => (Option.bind (Kv x3 2) fun x4 => (Option.bind (Xt [p1.Slots.a0, p1.Slots.a1] x4) fun y5 => ((bif (!y5.Full) then (Qb0 p2 x1 y5 true) else (Qb0 p2 x1 y5 (decide (y5.Epoch ≠ x3))))))))))
def Qau (x4 : List Xn) (a5 : Int) (a6 : List (BitVec 8)) (a8 : Int) (a9 : Qu) (a10 : Int) (a11 : Zp) : Option (Qw × List (BitVec 8) × Int) := (if a5 ≠ 0 then (some ((Qw.mk (Qq.mk 0 [] (Qu.mk 0#64 0#64)) 0 (Zp.mk (Xg.mk false 0 k0) (Xg.mk false 0 k0))), [], a5)) else (some ((Qw.mk (Qq.mk a8 x4 a9) a10 a11), a6, 0)))
def Bt (p0 : Qs) (p1 : Za) (p2 : Qw) (p3 : Ze) (p4 : Int) (a3 : Int) : Option (Qw × List (BitVec 8) × Int) := (if a3 ≠ 0 then (some ((Qw.mk (Qq.mk 0 [] (Qu.mk 0#64 0#64)) 0 (Zp.mk (Xg.mk false 0 k0) (Xg.mk false 0 k0))), [], a3)) else Option.bind (Qgw p2.Secret.Labels) fun x4 => ((if p3.Kind = 1#8 then Option.bind (Qeh p0 p1 (Qw.mk (Qq.mk p2.Secret.Receiver x4 p2.Secret.Share) p2.Ahead p2.Slots) p3 (Qi (p4 + p2.Ahead))) fun x12 => ((Qau x4 x12.1 [] x12.2.Secret.Receiver x12.2.Secret.Share x12.2.Ahead x12.2.Slots)) else Option.bind (Qej p1 (Qw.mk (Qq.mk p2.Secret.Receiver x4 p2.Secret.Share) p2.Ahead p2.Slots) p3 (Qi (p4 + p2.Ahead))) fun x13 => ((Qau x4 x13.2 x13.1 p2.Secret.Receiver p2.Secret.Share p2.Ahead p2.Slots)))))
def Bu (p0 : Qs) (p1 : Za) (p2 : Qw) (p3 : Ze) (p4 : Int) (a2 : Int) (a14 : Bool) : Option (Qw × List (BitVec 8) × Int) := (bif a14 then (Bt p0 p1 p2 p3 p4 2) else (Bt p0 p1 p2 p3 p4 a2))
def Qat (p0 : Qs) (p1 : Za) (p2 : Qw) (p3 : Ze) (p4 : Int) (a2 : Int) : Option (Qw × List (BitVec 8) × Int) := (if a2 = 0 then Option.bind (Fj p4) fun x15 => ((Bu p0 p1 p2 p3 p4 a2 (!x15))) else (Bu p0 p1 p2 p3 p4 a2 false))
def Qee (p0 : Qs) (p1 : Za) (p2 : Qw) (p3 : Ze) (p4 : Int) : Option (Qw × List (BitVec 8) × Int) := Option.bind (Qao p0 p1 p2) fun x1 => ((if x1 = 0 then Option.bind (Qap p3) fun x16 => ((Qat p0 p1 p2 p3 p4 x16)) else (Qat p0 p1 p2 p3 p4 x1)))
end
end Go.Sx

end
section
set_option linter.unusedVariables false
set_option maxRecDepth 100000
namespace Go.Sx
open Go Go.RowKit
noncomputable section
def Ru (p0 : Int) : Option (Bool) := (if (0 : Int) ≤ p0 then (some (decide (p0 ≤ 1099511627776))) else (some false))
def Qgd (p0 : Qs) (p1 : Qq) (p2 : Zi) : Option (W2 × Int) := Option.bind (Ip p0) fun x1 => ((if x1 ≠ 0 then (some (k0, x1)) else (if p0.Kind = 4#8 then Option.bind (Mg p0 p1 p2) fun x2 => ((some (x2.1, x2.2))) else Option.bind (Qc9 p0 p1 p2) fun x3 => ((some (x3.1, x3.2))))))
def Qjk (p0 : Qq) (p1 : Ze) : Option (Bool) := (if (100 : Int) < (p0.Labels.length : Int) then (some true) else (if (100 : Int) < (p1.Head.Items.length : Int) then (some true) else (if (50 : Int) < (p1.Head.Points.length : Int) then (some true) else (some (decide ((1000 : Int) < (p1.Data.length : Int)))))))
end
end Go.Sx

end
section
set_option linter.unusedVariables false
set_option maxRecDepth 100000
namespace Go.Sx
open Go Go.RowKit
noncomputable section
end
end Go.Sx

end
section
set_option linter.unusedVariables false
set_option maxRecDepth 100000
namespace Go.Sx
open Go Go.RowKit
noncomputable section
def Li (p0 : Za) (a2 : Bool) : Option (Bool) := (bif a2 then (some false) else (if Qi ((Qi (2 * p0.Drift)) + p0.Delay) < Qi (3 * p0.Word) then (some (decide (Qi (p0.Early + p0.Delay) ≤ p0.Epoch))) else (some false)))
def Sk (p0 : Za) (a1 : Bool) : Option (Bool) := (bif a1 then (some false) else (if p0.Early < 0 then (Li p0 true) else (if p0.Drift < 0 then (Li p0 true) else (if p0.Delay < 0 then (Li p0 true) else (if p0.Epoch < p0.Early then (Li p0 true) else (if (3000 : Int) < p0.Drift then (Li p0 true) else (Li p0 (decide ((3000 : Int) < p0.Delay)))))))))
def Rv (p0 : Za) : Option (Bool) := (if p0.Word < 1 then (Sk p0 true) else (if (1000 : Int) < p0.Word then (Sk p0 true) else (if p0.Epoch < p0.Word then (Sk p0 true) else (if Qi (1000 * p0.Word) < p0.Epoch then (Sk p0 true) else Option.bind (Kv p0.Epoch p0.Word) fun x3 => ((Sk p0 (decide (x3 ≠ 0))))))))
end
end Go.Sx

end
section
set_option linter.unusedVariables false
set_option maxRecDepth 100000
namespace Go.Sx
open Go Go.RowKit
noncomputable section
structure Uk where
  b : List (BitVec 8)
  short : Bool
deriving DecidableEq, Inhabited
def Uk.cs (x : Uk) (v0 : Value) : List Value := [v0, .bool x.short]
theorem Uk.cs_ones (x : Uk) (v0 : Value) (h0 : oneB v0 = true) : Jn (Uk.cs x v0) = true := by simp only [Uk.cs, List.cons_append, List.nil_append, kb, Jn, Ps, Pr, Pt, cond_true, h0]
end
end Go.Sx

end
section
set_option linter.unusedVariables false
set_option maxRecDepth 100000
namespace Go.Sx
open Go Go.RowKit
noncomputable section
def Iu (p1 : BitVec 64) (rec1 : (List (BitVec 8) × Int) → Option (List (BitVec 8))) (s1 : List (BitVec 8) × Int) : Option (List (BitVec 8)) := match s1 with | (a4, a6) => (if (0 : Int) ≤ a6 then Option.bind (Jq (un (wd (Qi (8 * a6))))) fun nn7 => (Option.bind (Ks 1 a4 [(p1 >>> nn7).setWidth 8]) fun l8 => ((rec1 (l8, Qi (a6 - 1))))) else (some a4))
def Sl (p0 : List (BitVec 8)) (p1 : BitVec 64) (p2 : Int) : Option (List (BitVec 8)) := (Qr (Iu p1) Xb (p0, Qi (p2 - 1)))
def Qcj (p0 : Ze) (rec2 : (List (BitVec 8) × Int) → Option (List (BitVec 8))) (s2 : List (BitVec 8) × Int) : Option (List (BitVec 8)) := match s2 with | (a21, a23) => (if a23 < (p0.Head.Points.length : Int) then Option.bind (Xt p0.Head.Points a23) fun y24 => (Option.bind (Sl a21 y24.X 8) fun x25 => (Option.bind (Xt p0.Head.Points a23) fun y26 => (Option.bind (Sl x25 y26.Y 8) fun x27 => ((rec2 (x27, Qi (a23 + 1))))))) else Option.bind (Ks 1 a21 (Xz p0.Head.Box)) fun l28 => (Option.bind (Ks 1 l28 (Xz p0.Head.Check)) fun l29 => ((some l29))))
def Qci (p0 : Ze) (rec1 : (List (BitVec 8) × Int) → Option (List (BitVec 8))) (s1 : List (BitVec 8) × Int) : Option (List (BitVec 8)) := match s1 with | (a10, a12) => (if a12 < (p0.Head.Items.length : Int) then Option.bind (Xt p0.Head.Items a12) fun y13 => (Option.bind (Ks 1 a10 [Vr y13.Subset.Node, Vr y13.Subset.Minus]) fun l14 => (Option.bind (Ks 1 l14 (Xz y13.Box)) fun l15 => ((rec1 (l15, Qi (a12 + 1)))))) else Option.bind (Sl a10 p0.Head.Base 8) fun x16 => (Option.bind (Ks 1 x16 [Vr (p0.Head.Points.length : Int)]) fun l17 => ((Qr (Qcj p0) Xb (l17, 0)))))
def Qch (p0 : Ze) : Option (List (BitVec 8)) := (if p0.Kind = 2#8 then Option.bind (Ks 1 [p0.Kind] [p0.Low]) fun l1 => (Option.bind (Sl l1 p0.Number 8) fun x2 => (Option.bind (Sl x2 (wd (p0.Data.length : Int)) 2) fun x3 => (Option.bind (Ks 1 x3 p0.Data) fun l4 => ((some l4))))) else Option.bind (Sl [p0.Kind] (wd p0.Epoch) 8) fun x5 => (Option.bind (Ks 1 x5 [Vr (p0.Head.Items.length : Int)]) fun l6 => ((Qr (Qci p0) Xb (l6, 0)))))
def Qc4 (p0 : List (BitVec 8)) : Option (Int) := Option.bind (Yy (Qi ((p0.length : Int) + 15)) 16) fun x1 => ((some x1))
def Qc3 (p0 : List (BitVec 8)) (p1 : Int) : Option (W2) := Option.bind (Nn p0 (Qi (16 * p1)) (p0.length : Int)) fun l1 => (Option.bind (Rm l1) fun x2 => ((some x2)))
def Qc1 (p1 : W2) (rec1 : (Int × W2) → Option (W2)) (s1 : Int × W2) : Option (W2) := match s1 with | (a3, a4) => (if a3 < 16 then Option.bind (Xt (Xz a4) a3) fun y5 => (Option.bind (Xt (Xz p1) a3) fun y6 => (Option.bind (Xt (Xz a4) a3) fun y7 => (Option.bind (Ti a4 a3 (y5 ^^^ y6)) fun x8 => ((rec1 (Qi (a3 + 1), x8)))))) else (some a4))
def Qc0 (p0 : W2) (p1 : W2) : Option (W2) := (Qr (Qc1 p1) Xb (0, p0))
def Qbz (p0 : W2) (p1 : List (BitVec 8)) (rec1 : (Int × W2) → Option (W2)) (s1 : Int × W2) : Option (W2) := match s1 with | (a3, a4) => Option.bind (Qc4 p1) fun x5 => ((if a3 < x5 then Option.bind (Qc3 p1 a3) fun x6 => (Option.bind (Qc0 a4 x6) fun x7 => ((rec1 (Qi (a3 + 1), Wn p0 x7)))) else (some a4)))
def Qby (p0 : W2) (p1 : List (BitVec 8)) : Option (W2) := (Qr (Qbz p0 p1) Xb (0, Jk p0 (Xf 2#8) (wd (p1.length : Int))))
def Qgh (p0 : W2) (p1 : Ze) : Option (W2) := Option.bind (Qch p1) fun x1 => (Option.bind (Qby (Jk p0 (Xf 52#8) (wd p1.Epoch)) x1) fun x2 => ((some x2)))
def Qfp (p0 : BitVec 8) (p1 : BitVec 64) (p2 : BitVec 64) : Option (W2) := Option.bind (Ni p1 7) fun x1 => (Option.bind (Ks 1 [p0] x1) fun l2 => (Option.bind (Ni p2 8) fun x3 => (Option.bind (Ks 1 l2 x3) fun l4 => (Option.bind (Rm l4) fun x5 => ((some x5))))))
def Ar (a6 : Int) (rec1 : (List (BitVec 8) × Int) → Option (List (BitVec 8) × Int)) (a9 : W2) (a13 : List (BitVec 8)) (a15 : Int) (rec3 : (List (BitVec 8) × Int) → Option (List (BitVec 8) × Int)) (a16 : Bool) : Option (List (BitVec 8) × Int) := (bif a16 then Option.bind (Xt (Xz a9) a15) fun y17 => (Option.bind (Ks 1 a13 [y17]) fun l18 => ((rec3 (l18, Qi (a15 + 1))))) else (rec1 (a13, Qi (a6 + 1))))
def Qbx (p2 : List (BitVec 8)) (a6 : Int) (rec1 : (List (BitVec 8) × Int) → Option (List (BitVec 8) × Int)) (a9 : W2) (rec3 : (List (BitVec 8) × Int) → Option (List (BitVec 8) × Int)) (s3 : List (BitVec 8) × Int) : Option (List (BitVec 8) × Int) := match s3 with | (a13, a15) => (if a15 < 16 then (Ar a6 rec1 a9 a13 a15 rec3 (decide (Qi ((Qi (16 * a6)) + a15) < (p2.length : Int)))) else (Ar a6 rec1 a9 a13 a15 rec3 false))
def Qfs (p2 : List (BitVec 8)) (a4 : List (BitVec 8)) (a6 : Int) (rec1 : (List (BitVec 8) × Int) → Option (List (BitVec 8) × Int)) (a9 : W2) : Option (List (BitVec 8) × Int) := (Qr (Qbx p2 a6 rec1 a9) Xb (a4, 0))
def Au (p0 : W2) (p1 : BitVec 64) (p2 : List (BitVec 8)) (rec1 : (List (BitVec 8) × Int) → Option (List (BitVec 8) × Int)) (s1 : List (BitVec 8) × Int) : Option (List (BitVec 8) × Int) := match s1 with | (a4, a6) => Option.bind (Qc4 p2) fun x7 => ((if a6 < x7 then Option.bind (Qc3 p2 a6) fun x19 => (Option.bind (Qfp 1#8 (wd a6) p1) fun x20 => (Option.bind (Qc0 x19 (Wn p0 x20)) fun x21 => ((Qfs p2 a4 a6 rec1 x21)))) else (some (a4, 0))))
def Qj5 (p0 : W2) (p1 : BitVec 64) (p2 : List (BitVec 8)) : Option (List (BitVec 8) × Int) := (if (16384 : Int) < (p2.length : Int) then (some ([], 4)) else (Qr (Au p0 p1 p2) Xb ([], 0)))
def Qgp (p0 : W2) (p1 : BitVec 64) (p2 : List (BitVec 8)) : Option (List (BitVec 8)) := Option.bind (Qj5 p0 p1 p2) fun x1 => ((some x1.1))
end
end Go.Sx

end
section
set_option linter.unusedVariables false
set_option maxRecDepth 100000
namespace Go.Sx
open Go Go.RowKit
noncomputable section
def Qjj (p0 : Za) : Option (Int) := Option.bind (Rv p0) fun x1 => ((bif (!x1) then (some 50) else (some 0)))
def Qcq (p0 : Qs) (p1 : Za) : Option (Int) := Option.bind (Ip p0) fun x1 => ((if x1 ≠ 0 then (some x1) else Option.bind (Qjj p1) fun x2 => ((some x2))))
def Qcl (p0 : W2) (p1 : Qs) (p3 : Int) (p4 : Int) (a2 : Bool) : Option (Qw × Int) := (bif a2 then (some ((Qw.mk (Qq.mk 0 [] (Qu.mk 0#64 0#64)) 0 (Zp.mk (Xg.mk false 0 k0) (Xg.mk false 0 k0))), 2)) else Option.bind (Qgi p0 p1 p3) fun x3 => ((if x3.2 ≠ 0 then (some ((Qw.mk (Qq.mk 0 [] (Qu.mk 0#64 0#64)) 0 (Zp.mk (Xg.mk false 0 k0) (Xg.mk false 0 k0))), x3.2)) else (some ((Qw.mk x3.1 p4 (Zp.mk (Xg.mk false 0 k0) (Xg.mk false 0 k0))), 0)))))
def Qgc (p0 : W2) (p1 : Qs) (p2 : Za) (p3 : Int) (p4 : Int) : Option (Qw × Int) := Option.bind (Qcq p1 p2) fun x1 => ((if x1 ≠ 0 then (some ((Qw.mk (Qq.mk 0 [] (Qu.mk 0#64 0#64)) 0 (Zp.mk (Xg.mk false 0 k0) (Xg.mk false 0 k0))), x1)) else (if p4 < Qi (-p2.Drift) then (Qcl p0 p1 p3 p4 true) else (Qcl p0 p1 p3 p4 (decide (p2.Drift < p4))))))
def Qcp (p0 : Xg) (p1 : Int) : Option (Bool) := (bif (!p0.Full) then (some (decide (p0 = (Xg.mk false 0 k0)))) else Option.bind (Ru p0.Epoch) fun x1 => ((bif x1 then Option.bind (Kv p0.Epoch 2) fun x2 => ((some (decide (x2 = p1)))) else (some false))))
def Ml (a2 : Bool) : Option (Int) := (bif a2 then (some 8) else (some 0))
def Qck (p0 : Qs) (p1 : Za) (p2 : Qw) : Option (Int) := Option.bind (Qcq p0 p1) fun x1 => ((if x1 ≠ 0 then (some x1) else (if p2.Ahead < Qi (-p1.Drift) then (Ml true) else (if p1.Drift < p2.Ahead then (Ml true) else (if p2.Secret.Receiver < 0 then (Ml true) else Option.bind (Jq (un (wd p0.Depth))) fun nn3 => ((if Pc 1 nn3 ≤ p2.Secret.Receiver then (Ml true) else Option.bind (Qcp p2.Slots.a0 0) fun x4 => ((bif (!x4) then (Ml true) else Option.bind (Qcp p2.Slots.a1 1) fun x5 => ((Ml (!x5))))))))))))
def Qgn (p0 : Zi) : Option (Bool) := (if (p0.Items.length : Int) = 0 then (if (p0.Points.length : Int) = 0 then (if p0.Base = 0#64 then (if p0.Box = k0 then (some (decide (p0.Check = k0))) else (some false)) else (some false)) else (some false)) else (some false))
def Nk (a4 : Int) (rec2 : (Int) → Option (Bool)) (a6 : Bool) : Option (Bool) := (bif a6 then (some false) else (rec2 (Qi (a4 + 1))))
def It (p0 : Ze) (rec2 : (Int) → Option (Bool)) (a4 : Int) : Option (Bool) := (if a4 < (p0.Head.Items.length : Int) then Option.bind (Xt p0.Head.Items a4) fun y5 => ((if y5.Subset.Node < 0 then (Nk a4 rec2 true) else (if (127 : Int) < y5.Subset.Node then (Nk a4 rec2 true) else (if y5.Subset.Minus < 0 then (Nk a4 rec2 true) else (Nk a4 rec2 (decide ((127 : Int) < y5.Subset.Minus))))))) else (some true))
def Lj (p0 : Ze) (a2 : Bool) : Option (Bool) := (bif a2 then (some false) else (Qr (It p0) Xb 0))
def Qgl (p0 : Ze) : Option (Bool) := (if p0.Kind = 2#8 then (if p0.Low ≤ 3#8 then (if (p0.Data.length : Int) ≤ 256 then (if p0.Epoch = 0 then Option.bind (Qgn p0.Head) fun x1 => ((some x1)) else (some false)) else (some false)) else (some false)) else (if p0.Kind ≠ 1#8 then (Lj p0 true) else Option.bind (Ru p0.Epoch) fun x7 => ((bif (!x7) then (Lj p0 true) else (if p0.Low ≠ 0#8 then (Lj p0 true) else (if p0.Number ≠ 0#64 then (Lj p0 true) else (if (0 : Int) < (p0.Data.length : Int) then (Lj p0 true) else (if (64 : Int) < (p0.Head.Items.length : Int) then (Lj p0 true) else (Lj p0 (decide ((8 : Int) < (p0.Head.Points.length : Int))))))))))))
def Qgk (p0 : Za) (p1 : Int) (p2 : Int) : Option (Bool) := (if Di (Qi ((Qi (p1 - p0.Drift)) - p0.Delay)) 0 ≤ Qi (p1 + p0.Drift) then (if Di (Qi ((Qi (p1 - p0.Drift)) - p0.Delay)) 0 ≤ Qi ((Qi ((Qi (p2 + 1)) * p0.Epoch)) - 1) then (some (decide (Qi ((Qi (p2 * p0.Epoch)) - p0.Early) ≤ Qi (p1 + p0.Drift)))) else (some false)) else (some false))
def Ir (p0 : Qw) : Option (Qw) := Option.bind (Ks 32 [] p0.Secret.Labels) fun l1 => ((some (Qw.mk (Qq.mk p0.Secret.Receiver l1 p0.Secret.Share) p0.Ahead p0.Slots)))
def Qcr (p0 : Qs) (p2 : Qw) (p3 : Ze) (a4 : Bool) : Option (Qw × Int) := (bif a4 then (some ((Qw.mk (Qq.mk 0 [] (Qu.mk 0#64 0#64)) 0 (Zp.mk (Xg.mk false 0 k0) (Xg.mk false 0 k0))), 52)) else Option.bind (Qgd p0 p2.Secret p3.Head) fun x5 => ((if x5.2 ≠ 0 then (some ((Qw.mk (Qq.mk 0 [] (Qu.mk 0#64 0#64)) 0 (Zp.mk (Xg.mk false 0 k0) (Xg.mk false 0 k0))), x5.2)) else Option.bind (Qgh x5.1 p3) fun x6 => ((if x6 ≠ p3.Mac then (some ((Qw.mk (Qq.mk 0 [] (Qu.mk 0#64 0#64)) 0 (Zp.mk (Xg.mk false 0 k0) (Xg.mk false 0 k0))), 53)) else Option.bind (Ir p2) fun x7 => (Option.bind (Kv p3.Epoch 2) fun x8 => (Option.bind (Xt [x7.Slots.a0, x7.Slots.a1] x8) fun y9 => ((some ((Qw.mk x7.Secret x7.Ahead (Zp.mk (if x8 = 0 then (Xg.mk true p3.Epoch x5.1) else x7.Slots.a0) (if x8 = 0 then x7.Slots.a1 else (Xg.mk true p3.Epoch x5.1)))), 0))))))))))
def Qgo (p0 : Qs) (p1 : Za) (p2 : Qw) (p3 : Ze) (p4 : Int) : Option (Qw × Int) := Option.bind (Qgk p1 (Qi (p4 + p2.Ahead)) p3.Epoch) fun x1 => ((bif (!x1) then (some ((Qw.mk (Qq.mk 0 [] (Qu.mk 0#64 0#64)) 0 (Zp.mk (Xg.mk false 0 k0) (Xg.mk false 0 k0))), 51)) else Option.bind (Kv p3.Epoch 2) fun x2 => (Option.bind (Xt [p2.Slots.a0, p2.Slots.a1] x2) fun y3 => ((bif y3.Full then (Qcr p0 p2 p3 (decide (p3.Epoch ≤ y3.Epoch))) else (Qcr p0 p2 p3 false))))))
def Rt (p0 : Za) (p1 : Int) (p2 : BitVec 8) (rec1 : (Int) → Option (Int)) (a2 : Int) : Option (Int) := (if a2 ≤ Qi (p1 + p0.Drift) then Option.bind (Yy a2 p0.Word) fun x3 => (Option.bind (Kv x3 4) fun x4 => ((if x4 = Xf p2 then Option.bind (Yy a2 p0.Word) fun x5 => ((some x5)) else (rec1 (Qi (a2 + 1)))))) else (some (-1)))
def Qgf (p0 : Za) (p1 : Int) (p2 : BitVec 8) : Option (Int) := (Qr (Rt p0 p1 p2) Xb (Di (Qi ((Qi (p1 - p0.Drift)) - p0.Delay)) 0))
def Qcm (p2 : Ze) (x1 : Int) (y4 : Xg) (a5 : Bool) : Option (List (BitVec 8) × Int) := (bif a5 then (some ([], 6)) else Option.bind (Qgm y4.Key x1) fun x6 => (Option.bind (Qch p2) fun x7 => (Option.bind (Qby x6 x7) fun x8 => ((if x8 ≠ p2.Mac then (some ([], 53)) else Option.bind (Qgp x6 p2.Number p2.Data) fun x9 => ((some (x9, 0))))))))
def Qge (p0 : Za) (p1 : Qw) (p2 : Ze) (p3 : Int) : Option (List (BitVec 8) × Int) := Option.bind (Qgf p0 (Qi (p3 + p1.Ahead)) p2.Low) fun x1 => ((if x1 < 0 then (some ([], 51)) else Option.bind (Yy (Qi (x1 * p0.Word)) p0.Epoch) fun x2 => (Option.bind (Kv x2 2) fun x3 => (Option.bind (Xt [p1.Slots.a0, p1.Slots.a1] x3) fun y4 => ((bif (!y4.Full) then (Qcm p2 x1 y4 true) else (Qcm p2 x1 y4 (decide (y4.Epoch ≠ x2)))))))))
def Qgj (p0 : Qs) (p1 : Za) (p2 : Qw) (p3 : Ze) (p4 : Int) : Option (Qw × List (BitVec 8) × Int) := Option.bind (Qck p0 p1 p2) fun x1 => ((if x1 ≠ 0 then (some ((Qw.mk (Qq.mk 0 [] (Qu.mk 0#64 0#64)) 0 (Zp.mk (Xg.mk false 0 k0) (Xg.mk false 0 k0))), [], x1)) else Option.bind (Qgl p3) fun x2 => ((bif (!x2) then (some ((Qw.mk (Qq.mk 0 [] (Qu.mk 0#64 0#64)) 0 (Zp.mk (Xg.mk false 0 k0) (Xg.mk false 0 k0))), [], 8)) else Option.bind (Ru p4) fun x3 => ((bif (!x3) then (some ((Qw.mk (Qq.mk 0 [] (Qu.mk 0#64 0#64)) 0 (Zp.mk (Xg.mk false 0 k0) (Xg.mk false 0 k0))), [], 2)) else (if p3.Kind = 1#8 then Option.bind (Qgo p0 p1 p2 p3 p4) fun x4 => ((some (x4.1, [], x4.2))) else Option.bind (Qge p1 p2 p3 p4) fun x5 => ((if x5.2 ≠ 0 then (some ((Qw.mk (Qq.mk 0 [] (Qu.mk 0#64 0#64)) 0 (Zp.mk (Xg.mk false 0 k0) (Xg.mk false 0 k0))), [], x5.2)) else Option.bind (Ir p2) fun x6 => ((some (x6, x5.1, 0))))))))))))
def Iq (p0 : Qw) (p1 : Qw) : Option (Bool) := Option.bind (Qgg p0.Secret p1.Secret) fun x1 => ((bif x1 then (if p0.Ahead = p1.Ahead then (some (decide (p0.Slots = p1.Slots))) else (some false)) else (some false)))
end
end Go.Sx

end
section

end
section

end
section
set_option linter.unusedVariables false
set_option maxRecDepth 100000
namespace Go.Sx
open Go Go.RowKit
def Qbd (p3 : Qw) (p4 : Ze) (x2 : Qw) (x5 : Qw × List (BitVec 8) × Int) (a7 : Bool) (rec3 : (List (BitVec 8) × Int) → Option (Bool)) (s3 : List (BitVec 8) × Int) : Option (Bool) := match s3 with | (a18, a20) => (if a20 < (x5.2.1.length : Int) then Option.bind (Xt a18 a20) fun y21 => (Option.bind (Xt a18 a20) fun y22 => ((rec3 (a18.set a20.toNat (y21 + 1#8), Qi (a20 + 1))))) else (bif a7 then Option.bind (Iq x2 p3) fun x23 => ((bif x23 then (some (decide (p4.Data = p4.Data))) else (some false))) else (some false)))
def Qbc (p3 : Qw) (p4 : Ze) (x2 : Qw) (x5 : Qw × List (BitVec 8) × Int) (a7 : Bool) (rec2 : (Int × List Xn) → Option (Bool)) (s2 : Int × List Xn) : Option (Bool) := match s2 with | (a11, a12) => (if a11 < (x5.1.Secret.Labels.length : Int) then Option.bind (Xt a12 a11) fun y14 => ((rec2 (Qi (a11 + 1), a12.set a11.toNat (Xn.mk (-7) y14.Minus y14.Key)))) else (Qr (Qbd p3 p4 x2 x5 a7) Xb (x5.2.1, 0)))
def Se (p3 : Qw) (p4 : Ze) (x2 : Qw) (x5 : Qw × List (BitVec 8) × Int) (a7 : Bool) : Option (Bool) := (Qr (Qbc p3 p4 x2 x5 a7) Xb (0, x5.1.Secret.Labels))
def Qis (p0 : W2) (p1 : Qs) (p2 : Za) (p3 : Qw) (p4 : Ze) (p5 : Int) : Option (Bool) := Option.bind (Qjk p3.Secret p4) fun x1 => ((bif x1 then (some true) else Option.bind (Ir p3) fun x2 => (Option.bind (Qeb p0 p1 p2 p3.Secret.Receiver p3.Ahead) fun x3 => (Option.bind (Qgc p0 p1 p2 p3.Secret.Receiver p3.Ahead) fun x4 => (Option.bind (Qee p1 p2 x2 p4 p5) fun x5 => (Option.bind (Qgj p1 p2 p3 p4 p5) fun x6 => (Option.bind (Iq x3.1 x4.1) fun x24 => ((bif x24 then (if x3.2 = x4.2 then Option.bind (Qao p1 p2 x2) fun x25 => (Option.bind (Qck p1 p2 p3) fun x26 => ((if x25 = x26 then Option.bind (Iq x5.1 x6.1) fun x27 => ((bif x27 then (if x5.2.1 = x6.2.1 then (Se p3 p4 x2 x5 (decide (x5.2.2 = x6.2.2))) else (Se p3 p4 x2 x5 false)) else (Se p3 p4 x2 x5 false))) else (Se p3 p4 x2 x5 false)))) else (Se p3 p4 x2 x5 false)) else (Se p3 p4 x2 x5 false))))))))))
end Go.Sx

end
section
set_option linter.unusedVariables false
set_option linter.unusedSimpArgs false
set_option maxRecDepth 100000
namespace Go.Sx
open Go Go.RowKit Go.Proofs
theorem Xdb {H : Type} {enc : TypeId × Value → H} {W : World} {fuel : Nat} {cs : List Value} {x : DataW H × List MemPlace} (h : Tr enc Tryz.prog W fuel 26 cs x) : ∃ (m : Ko), cs = Ko.cs m := by
  obtain ⟨xs, n, rfl, rfl, hl, hx, hf⟩ := DataW.trod_struct Tryz.underlying26 h
  replace hl : cs.length = 3 := hl.trans (by kernel_rfl)
  replace hx : xs.length = 3 := hx
  obtain ⟨y0, e0⟩ := Kb (i := 0) hx rfl
  have h0 : Tr enc Tryz.prog W n 24 ((cs.drop 0).take 1) y0 := Kh hf (i := 0) rfl rfl rfl (by kernel_rfl) e0
  obtain ⟨m0, c0⟩ := Ai Tryz.underlying24 h0
  obtain ⟨y1, e1⟩ := Kb (i := 1) hx rfl
  have h1 : Tr enc Tryz.prog W n 24 ((cs.drop 1).take 1) y1 := Kh hf (i := 1) rfl rfl rfl (by kernel_rfl) e1
  obtain ⟨m1, c1⟩ := Ai Tryz.underlying24 h1
  obtain ⟨y2, e2⟩ := Kb (i := 2) hx rfl
  have h2 : Tr enc Tryz.prog W n 24 ((cs.drop 2).take 1) y2 := Kh hf (i := 2) rfl rfl rfl (by kernel_rfl) e2
  obtain ⟨m2, c2⟩ := Ai Tryz.underlying24 h2
  have q := Tw hl
  replace q := Jz (o := 2) (k := 1) c2 q
  replace q := Jz (o := 1) (k := 1) c1 q
  replace q := Jz (o := 0) (k := 1) c0 q
  exact ⟨⟨m0, m1, m2⟩, q⟩
def Qs.ok (x : Qs) : Prop := Jo x.Depth ∧ Jo x.Degree
theorem Xdh {H : Type} {enc : TypeId × Value → H} {W : World} {fuel : Nat} {cs : List Value} {x : DataW H × List MemPlace} (h : Tr enc Tryz.prog W fuel 28 cs x) : ∃ (m : Qs), cs = Qs.cs m ∧ Qs.ok m := by
  obtain ⟨xs, n, rfl, rfl, hl, hx, hf⟩ := DataW.trod_struct Tryz.underlying28 h
  replace hl : cs.length = 6 := hl.trans (by kernel_rfl)
  replace hx : xs.length = 4 := hx
  obtain ⟨y0, e0⟩ := Kb (i := 0) hx rfl
  have h0 : Tr enc Tryz.prog W n 5 ((cs.drop 0).take 1) y0 := Kh hf (i := 0) rfl rfl rfl (by kernel_rfl) e0
  obtain ⟨m0, c0⟩ := Qf7 Tryz.underlying5 h0
  obtain ⟨y1, e1⟩ := Kb (i := 1) hx rfl
  have h1 : Tr enc Tryz.prog W n 3 ((cs.drop 1).take 1) y1 := Kh hf (i := 1) rfl rfl rfl (by kernel_rfl) e1
  obtain ⟨m1, c1, k1⟩ := Tb Tryz.underlying3 h1
  obtain ⟨y2, e2⟩ := Kb (i := 2) hx rfl
  have h2 : Tr enc Tryz.prog W n 3 ((cs.drop 2).take 1) y2 := Kh hf (i := 2) rfl rfl rfl (by kernel_rfl) e2
  obtain ⟨m2, c2, k2⟩ := Tb Tryz.underlying3 h2
  obtain ⟨y3, e3⟩ := Kb (i := 3) hx rfl
  have h3 : Tr enc Tryz.prog W n 26 ((cs.drop 3).take 3) y3 := Kh hf (i := 3) rfl rfl rfl (by kernel_rfl) e3
  obtain ⟨m3, c3⟩ := Xdb h3
  have q := Tw hl
  replace q := Jz (o := 3) (k := 3) c3 q
  replace q := Jz (o := 2) (k := 1) c2 q
  replace q := Jz (o := 1) (k := 1) c1 q
  replace q := Jz (o := 0) (k := 1) c0 q
  exact ⟨⟨m0, m1, m2, m3⟩, q, ⟨k1, k2⟩⟩
def Za.ok (x : Za) : Prop := Jo x.Epoch ∧ Jo x.Word ∧ Jo x.Early ∧ Jo x.Drift ∧ Jo x.Delay
theorem Xda {H : Type} {enc : TypeId × Value → H} {W : World} {fuel : Nat} {cs : List Value} {x : DataW H × List MemPlace} (h : Tr enc Tryz.prog W fuel 30 cs x) : ∃ (m : Za), cs = Za.cs m ∧ Za.ok m := by
  obtain ⟨xs, n, rfl, rfl, hl, hx, hf⟩ := DataW.trod_struct Tryz.underlying30 h
  replace hl : cs.length = 5 := hl.trans (by kernel_rfl)
  replace hx : xs.length = 5 := hx
  obtain ⟨y0, e0⟩ := Kb (i := 0) hx rfl
  have h0 : Tr enc Tryz.prog W n 3 ((cs.drop 0).take 1) y0 := Kh hf (i := 0) rfl rfl rfl (by kernel_rfl) e0
  obtain ⟨m0, c0, k0⟩ := Tb Tryz.underlying3 h0
  obtain ⟨y1, e1⟩ := Kb (i := 1) hx rfl
  have h1 : Tr enc Tryz.prog W n 3 ((cs.drop 1).take 1) y1 := Kh hf (i := 1) rfl rfl rfl (by kernel_rfl) e1
  obtain ⟨m1, c1, k1⟩ := Tb Tryz.underlying3 h1
  obtain ⟨y2, e2⟩ := Kb (i := 2) hx rfl
  have h2 : Tr enc Tryz.prog W n 3 ((cs.drop 2).take 1) y2 := Kh hf (i := 2) rfl rfl rfl (by kernel_rfl) e2
  obtain ⟨m2, c2, k2⟩ := Tb Tryz.underlying3 h2
  obtain ⟨y3, e3⟩ := Kb (i := 3) hx rfl
  have h3 : Tr enc Tryz.prog W n 3 ((cs.drop 3).take 1) y3 := Kh hf (i := 3) rfl rfl rfl (by kernel_rfl) e3
  obtain ⟨m3, c3, k3⟩ := Tb Tryz.underlying3 h3
  obtain ⟨y4, e4⟩ := Kb (i := 4) hx rfl
  have h4 : Tr enc Tryz.prog W n 3 ((cs.drop 4).take 1) y4 := Kh hf (i := 4) rfl rfl rfl (by kernel_rfl) e4
  obtain ⟨m4, c4, k4⟩ := Tb Tryz.underlying3 h4
  have q := Tw hl
  replace q := Jz (o := 4) (k := 1) c4 q
  replace q := Jz (o := 3) (k := 1) c3 q
  replace q := Jz (o := 2) (k := 1) c2 q
  replace q := Jz (o := 1) (k := 1) c1 q
  replace q := Jz (o := 0) (k := 1) c0 q
  exact ⟨⟨m0, m1, m2, m3, m4⟩, q, ⟨k0, k1, k2, k3, k4⟩⟩
def Xn.ok (x : Xn) : Prop := Jo x.Node ∧ Jo x.Minus
theorem Xde {H : Type} {enc : TypeId × Value → H} {W : World} {fuel : Nat} {cs : List Value} {x : DataW H × List MemPlace} (h : Tr enc Tryz.prog W fuel 72 cs x) : ∃ (m : Xn), cs = Xn.cs m ∧ Xn.ok m := by
  obtain ⟨xs, n, rfl, rfl, hl, hx, hf⟩ := DataW.trod_struct Tryz.underlying72 h
  replace hl : cs.length = 18 := hl.trans (by kernel_rfl)
  replace hx : xs.length = 3 := hx
  obtain ⟨y0, e0⟩ := Kb (i := 0) hx rfl
  have h0 : Tr enc Tryz.prog W n 3 ((cs.drop 0).take 1) y0 := Kh hf (i := 0) rfl rfl rfl (by kernel_rfl) e0
  obtain ⟨m0, c0, k0⟩ := Tb Tryz.underlying3 h0
  obtain ⟨y1, e1⟩ := Kb (i := 1) hx rfl
  have h1 : Tr enc Tryz.prog W n 3 ((cs.drop 1).take 1) y1 := Kh hf (i := 1) rfl rfl rfl (by kernel_rfl) e1
  obtain ⟨m1, c1, k1⟩ := Tb Tryz.underlying3 h1
  obtain ⟨y2, e2⟩ := Kb (i := 2) hx rfl
  have h2 : Tr enc Tryz.prog W n 23 ((cs.drop 2).take 16) y2 := Kh hf (i := 2) rfl rfl rfl (by kernel_rfl) e2
  obtain ⟨m2, c2⟩ := Ah Tryz.underlying23 Tryz.underlying5 (by kernel_rfl) (by kernel_rfl) h2
  have q := Tw hl
  replace q := Jz (o := 2) (k := 16) c2 q
  replace q := Jz (o := 1) (k := 1) c1 q
  replace q := Jz (o := 0) (k := 1) c0 q
  exact ⟨⟨m0, m1, m2⟩, q, ⟨k0, k1⟩⟩
theorem Qt4 {H : Type} {enc : TypeId × Value → H} {W : World} {fuel : Nat} {cs : List Value} {x : DataW H × List MemPlace} (h : Tr enc Tryz.prog W fuel 50 cs x) : ∃ (m : Qu), cs = Qu.cs m := by
  obtain ⟨xs, n, rfl, rfl, hl, hx, hf⟩ := DataW.trod_struct Tryz.underlying50 h
  replace hl : cs.length = 2 := hl.trans (by kernel_rfl)
  replace hx : xs.length = 2 := hx
  obtain ⟨y0, e0⟩ := Kb (i := 0) hx rfl
  have h0 : Tr enc Tryz.prog W n 24 ((cs.drop 0).take 1) y0 := Kh hf (i := 0) rfl rfl rfl (by kernel_rfl) e0
  obtain ⟨m0, c0⟩ := Ai Tryz.underlying24 h0
  obtain ⟨y1, e1⟩ := Kb (i := 1) hx rfl
  have h1 : Tr enc Tryz.prog W n 24 ((cs.drop 1).take 1) y1 := Kh hf (i := 1) rfl rfl rfl (by kernel_rfl) e1
  obtain ⟨m1, c1⟩ := Ai Tryz.underlying24 h1
  have q := Tw hl
  replace q := Jz (o := 1) (k := 1) c1 q
  replace q := Jz (o := 0) (k := 1) c0 q
  exact ⟨⟨m0, m1⟩, q⟩
def Qq.ok (x : Qq) : Prop := Jo x.Receiver ∧ ((∀ a ∈ x.Labels, Xn.ok a) ∧ x.Labels.length * 32 ≤ 140737488351232)
theorem Xdi {H : Type} {enc : TypeId × Value → H} {W : World} {fuel : Nat} {cs : List Value} {x : DataW H × List MemPlace} (h : Tr enc Tryz.prog W fuel 52 cs x) (hw : Sz Tryz.prog 52 x.1) : ∃ (m : Qq) (v0 : Value) (z0 g0 o0 : Nat), cs = Qq.cs m v0 ∧ Rd W z0 g0 o0 18 v0 (m.Labels.map Xn.cs) ∧ Qq.ok m := by
  obtain ⟨xs, n, rfl, rfl, hl, hx, hf⟩ := DataW.trod_struct Tryz.underlying52 h
  replace hl : cs.length = 4 := hl.trans (by kernel_rfl)
  replace hx : xs.length = 3 := hx
  obtain ⟨y0, e0⟩ := Kb (i := 0) hx rfl
  have h0 : Tr enc Tryz.prog W n 3 ((cs.drop 0).take 1) y0 := Kh hf (i := 0) rfl rfl rfl (by kernel_rfl) e0
  obtain ⟨m0, c0, k0⟩ := Tb Tryz.underlying3 h0
  obtain ⟨y1, e1⟩ := Kb (i := 1) hx rfl
  have h1 : Tr enc Tryz.prog W n 48 ((cs.drop 1).take 1) y1 := Kh hf (i := 1) rfl rfl rfl (by kernel_rfl) e1
  obtain ⟨m1, v0_, z0_, g0_, o0_, c1, R0_, k1, l1⟩ := Qix (c := Xn.cs) (ok := fun a => Xn.ok a) (sz := 18) (bytes := 32) Tryz.underlying48 (by kernel_rfl) (by kernel_rfl) (by decide) (fun _ => ⟨rfl, rfl⟩) (fun _ _ _ h => Xde h) h1 (Qcz Tryz.underlying52 hw (i := 1) rfl (by rw [List.getElem?_map, e1]; rfl))
  obtain ⟨y2, e2⟩ := Kb (i := 2) hx rfl
  have h2 : Tr enc Tryz.prog W n 50 ((cs.drop 2).take 2) y2 := Kh hf (i := 2) rfl rfl rfl (by kernel_rfl) e2
  obtain ⟨m2, c2⟩ := Qt4 h2
  have q := Tw hl
  replace q := Jz (o := 2) (k := 2) c2 q
  replace q := Jz (o := 1) (k := 1) c1 q
  replace q := Jz (o := 0) (k := 1) c0 q
  exact ⟨⟨m0, m1, m2⟩, v0_, z0_, g0_, o0_, q, R0_, ⟨k0, ⟨k1, l1⟩⟩⟩
def Xg.ok (x : Xg) : Prop := Jo x.Epoch
theorem Qt5 {H : Type} {enc : TypeId × Value → H} {W : World} {fuel : Nat} {cs : List Value} {x : DataW H × List MemPlace} (h : Tr enc Tryz.prog W fuel 54 cs x) : ∃ (m : Xg), cs = Xg.cs m ∧ Xg.ok m := by
  obtain ⟨xs, n, rfl, rfl, hl, hx, hf⟩ := DataW.trod_struct Tryz.underlying54 h
  replace hl : cs.length = 18 := hl.trans (by kernel_rfl)
  replace hx : xs.length = 3 := hx
  obtain ⟨y0, e0⟩ := Kb (i := 0) hx rfl
  have h0 : Tr enc Tryz.prog W n 4 ((cs.drop 0).take 1) y0 := Kh hf (i := 0) rfl rfl rfl (by kernel_rfl) e0
  obtain ⟨m0, c0⟩ := Xdk Tryz.underlying4 h0
  obtain ⟨y1, e1⟩ := Kb (i := 1) hx rfl
  have h1 : Tr enc Tryz.prog W n 3 ((cs.drop 1).take 1) y1 := Kh hf (i := 1) rfl rfl rfl (by kernel_rfl) e1
  obtain ⟨m1, c1, k1⟩ := Tb Tryz.underlying3 h1
  obtain ⟨y2, e2⟩ := Kb (i := 2) hx rfl
  have h2 : Tr enc Tryz.prog W n 23 ((cs.drop 2).take 16) y2 := Kh hf (i := 2) rfl rfl rfl (by kernel_rfl) e2
  obtain ⟨m2, c2⟩ := Ah Tryz.underlying23 Tryz.underlying5 (by kernel_rfl) (by kernel_rfl) h2
  have q := Tw hl
  replace q := Jz (o := 2) (k := 16) c2 q
  replace q := Jz (o := 1) (k := 1) c1 q
  replace q := Jz (o := 0) (k := 1) c0 q
  exact ⟨⟨m0, m1, m2⟩, q, k1⟩
def Zp.ok (x : Zp) : Prop := Xg.ok x.a0 ∧ Xg.ok x.a1
theorem Xd9 {H : Type} {enc : TypeId × Value → H} {W : World} {fuel : Nat} {cs : List Value} {x : DataW H × List MemPlace} (h : Tr enc Tryz.prog W fuel 55 cs x) : ∃ (m : Zp), cs = Zp.cs m ∧ Zp.ok m := by
  obtain ⟨xs, n, rfl, rfl, hl, hx, hf⟩ := DataW.trod_array Tryz.underlying55 h
  replace hl : cs.length = 36 := hl.trans (by kernel_rfl)
  replace hx : xs.length = 2 := hx
  obtain ⟨y0, e0⟩ := Kb (i := 0) hx rfl
  have h0 : Tr enc Tryz.prog W n 54 ((cs.drop 0).take 18) y0 := elA hf (i := 0) (by decide) (by kernel_rfl) rfl e0
  obtain ⟨m0, c0, k0⟩ := Qt5 h0
  obtain ⟨y1, e1⟩ := Kb (i := 1) hx rfl
  have h1 : Tr enc Tryz.prog W n 54 ((cs.drop 18).take 18) y1 := elA hf (i := 1) (by decide) (by kernel_rfl) rfl e1
  obtain ⟨m1, c1, k1⟩ := Qt5 h1
  have q := Tw hl
  replace q := Jz (o := 18) (k := 18) c1 q
  replace q := Jz (o := 0) (k := 18) c0 q
  exact ⟨⟨m0, m1⟩, q, ⟨k0, k1⟩⟩
def Qw.ok (x : Qw) : Prop := Qq.ok x.Secret ∧ Jo x.Ahead ∧ Zp.ok x.Slots
theorem Xdg {H : Type} {enc : TypeId × Value → H} {W : World} {fuel : Nat} {cs : List Value} {x : DataW H × List MemPlace} (h : Tr enc Tryz.prog W fuel 57 cs x) (hw : Sz Tryz.prog 57 x.1) : ∃ (m : Qw) (v0 : Value) (z0 g0 o0 : Nat), cs = Qw.cs m v0 ∧ Rd W z0 g0 o0 18 v0 (m.Secret.Labels.map Xn.cs) ∧ Qw.ok m := by
  obtain ⟨xs, n, rfl, rfl, hl, hx, hf⟩ := DataW.trod_struct Tryz.underlying57 h
  replace hl : cs.length = 41 := hl.trans (by kernel_rfl)
  replace hx : xs.length = 3 := hx
  obtain ⟨y0, e0⟩ := Kb (i := 0) hx rfl
  have h0 : Tr enc Tryz.prog W n 52 ((cs.drop 0).take 4) y0 := Kh hf (i := 0) rfl rfl rfl (by kernel_rfl) e0
  obtain ⟨m0, v0_, z0_, g0_, o0_, c0, R0_, k0⟩ := Xdi h0 (Qcz Tryz.underlying57 hw (i := 0) rfl (by rw [List.getElem?_map, e0]; rfl))
  obtain ⟨y1, e1⟩ := Kb (i := 1) hx rfl
  have h1 : Tr enc Tryz.prog W n 3 ((cs.drop 4).take 1) y1 := Kh hf (i := 1) rfl rfl rfl (by kernel_rfl) e1
  obtain ⟨m1, c1, k1⟩ := Tb Tryz.underlying3 h1
  obtain ⟨y2, e2⟩ := Kb (i := 2) hx rfl
  have h2 : Tr enc Tryz.prog W n 55 ((cs.drop 5).take 36) y2 := Kh hf (i := 2) rfl rfl rfl (by kernel_rfl) e2
  obtain ⟨m2, c2, k2⟩ := Xd9 h2
  have q := Tw hl
  replace q := Jz (o := 5) (k := 36) c2 q
  replace q := Jz (o := 4) (k := 1) c1 q
  replace q := Jz (o := 0) (k := 4) c0 q
  exact ⟨⟨m0, m1, m2⟩, v0_, z0_, g0_, o0_, q, R0_, ⟨k0, k1, k2⟩⟩
def Xo.ok (x : Xo) : Prop := Jo x.Node ∧ Jo x.Minus
theorem Xdj {H : Type} {enc : TypeId × Value → H} {W : World} {fuel : Nat} {cs : List Value} {x : DataW H × List MemPlace} (h : Tr enc Tryz.prog W fuel 171 cs x) : ∃ (m : Xo), cs = Xo.cs m ∧ Xo.ok m := by
  obtain ⟨xs, n, rfl, rfl, hl, hx, hf⟩ := DataW.trod_struct Tryz.underlying171 h
  replace hl : cs.length = 2 := hl.trans (by kernel_rfl)
  replace hx : xs.length = 2 := hx
  obtain ⟨y0, e0⟩ := Kb (i := 0) hx rfl
  have h0 : Tr enc Tryz.prog W n 3 ((cs.drop 0).take 1) y0 := Kh hf (i := 0) rfl rfl rfl (by kernel_rfl) e0
  obtain ⟨m0, c0, k0⟩ := Tb Tryz.underlying3 h0
  obtain ⟨y1, e1⟩ := Kb (i := 1) hx rfl
  have h1 : Tr enc Tryz.prog W n 3 ((cs.drop 1).take 1) y1 := Kh hf (i := 1) rfl rfl rfl (by kernel_rfl) e1
  obtain ⟨m1, c1, k1⟩ := Tb Tryz.underlying3 h1
  have q := Tw hl
  replace q := Jz (o := 1) (k := 1) c1 q
  replace q := Jz (o := 0) (k := 1) c0 q
  exact ⟨⟨m0, m1⟩, q, ⟨k0, k1⟩⟩
def Zd.ok (x : Zd) : Prop := Xo.ok x.Subset
theorem Xdd {H : Type} {enc : TypeId × Value → H} {W : World} {fuel : Nat} {cs : List Value} {x : DataW H × List MemPlace} (h : Tr enc Tryz.prog W fuel 173 cs x) : ∃ (m : Zd), cs = Zd.cs m ∧ Zd.ok m := by
  obtain ⟨xs, n, rfl, rfl, hl, hx, hf⟩ := DataW.trod_struct Tryz.underlying173 h
  replace hl : cs.length = 18 := hl.trans (by kernel_rfl)
  replace hx : xs.length = 2 := hx
  obtain ⟨y0, e0⟩ := Kb (i := 0) hx rfl
  have h0 : Tr enc Tryz.prog W n 171 ((cs.drop 0).take 2) y0 := Kh hf (i := 0) rfl rfl rfl (by kernel_rfl) e0
  obtain ⟨m0, c0, k0⟩ := Xdj h0
  obtain ⟨y1, e1⟩ := Kb (i := 1) hx rfl
  have h1 : Tr enc Tryz.prog W n 23 ((cs.drop 2).take 16) y1 := Kh hf (i := 1) rfl rfl rfl (by kernel_rfl) e1
  obtain ⟨m1, c1⟩ := Ah Tryz.underlying23 Tryz.underlying5 (by kernel_rfl) (by kernel_rfl) h1
  have q := Tw hl
  replace q := Jz (o := 2) (k := 16) c1 q
  replace q := Jz (o := 0) (k := 2) c0 q
  exact ⟨⟨m0, m1⟩, q, k0⟩
def Zi.ok (x : Zi) : Prop := ((∀ a ∈ x.Items, Zd.ok a) ∧ x.Items.length * 32 ≤ 140737488351232) ∧ (x.Points.length * 16 ≤ 140737488351232)
theorem Xdc {H : Type} {enc : TypeId × Value → H} {W : World} {fuel : Nat} {cs : List Value} {x : DataW H × List MemPlace} (h : Tr enc Tryz.prog W fuel 36 cs x) (hw : Sz Tryz.prog 36 x.1) : ∃ (m : Zi) (v0 : Value) (z0 g0 o0 : Nat) (v1 : Value) (z1 g1 o1 : Nat), cs = Zi.cs m v0 v1 ∧ Rd W z0 g0 o0 18 v0 (m.Items.map Zd.cs) ∧ Rd W z1 g1 o1 2 v1 (m.Points.map Qu.cs) ∧ Zi.ok m := by
  obtain ⟨xs, n, rfl, rfl, hl, hx, hf⟩ := DataW.trod_struct Tryz.underlying36 h
  replace hl : cs.length = 35 := hl.trans (by kernel_rfl)
  replace hx : xs.length = 5 := hx
  obtain ⟨y0, e0⟩ := Kb (i := 0) hx rfl
  have h0 : Tr enc Tryz.prog W n 33 ((cs.drop 0).take 1) y0 := Kh hf (i := 0) rfl rfl rfl (by kernel_rfl) e0
  obtain ⟨m0, v0_, z0_, g0_, o0_, c0, R0_, k0, l0⟩ := Qix (c := Zd.cs) (ok := fun a => Zd.ok a) (sz := 18) (bytes := 32) Tryz.underlying33 (by kernel_rfl) (by kernel_rfl) (by decide) (fun _ => ⟨rfl, rfl⟩) (fun _ _ _ h => Xdd h) h0 (Qcz Tryz.underlying36 hw (i := 0) rfl (by rw [List.getElem?_map, e0]; rfl))
  obtain ⟨y1, e1⟩ := Kb (i := 1) hx rfl
  have h1 : Tr enc Tryz.prog W n 24 ((cs.drop 1).take 1) y1 := Kh hf (i := 1) rfl rfl rfl (by kernel_rfl) e1
  obtain ⟨m1, c1⟩ := Ai Tryz.underlying24 h1
  obtain ⟨y2, e2⟩ := Kb (i := 2) hx rfl
  have h2 : Tr enc Tryz.prog W n 34 ((cs.drop 2).take 1) y2 := Kh hf (i := 2) rfl rfl rfl (by kernel_rfl) e2
  obtain ⟨m2, v1_, z1_, g1_, o1_, c2, R1_, k2, l2⟩ := Qix (c := Qu.cs) (ok := fun a => True) (sz := 2) (bytes := 16) Tryz.underlying34 (by kernel_rfl) (by kernel_rfl) (by decide) (fun _ => ⟨rfl, rfl⟩) (fun _ _ _ h => (let ⟨n, c⟩ := Qt4 h; ⟨n, c, trivial⟩)) h2 (Qcz Tryz.underlying36 hw (i := 2) rfl (by rw [List.getElem?_map, e2]; rfl))
  obtain ⟨y3, e3⟩ := Kb (i := 3) hx rfl
  have h3 : Tr enc Tryz.prog W n 23 ((cs.drop 3).take 16) y3 := Kh hf (i := 3) rfl rfl rfl (by kernel_rfl) e3
  obtain ⟨m3, c3⟩ := Ah Tryz.underlying23 Tryz.underlying5 (by kernel_rfl) (by kernel_rfl) h3
  obtain ⟨y4, e4⟩ := Kb (i := 4) hx rfl
  have h4 : Tr enc Tryz.prog W n 23 ((cs.drop 19).take 16) y4 := Kh hf (i := 4) rfl rfl rfl (by kernel_rfl) e4
  obtain ⟨m4, c4⟩ := Ah Tryz.underlying23 Tryz.underlying5 (by kernel_rfl) (by kernel_rfl) h4
  have q := Tw hl
  replace q := Jz (o := 19) (k := 16) c4 q
  replace q := Jz (o := 3) (k := 16) c3 q
  replace q := Jz (o := 2) (k := 1) c2 q
  replace q := Jz (o := 1) (k := 1) c1 q
  replace q := Jz (o := 0) (k := 1) c0 q
  exact ⟨⟨m0, m1, m2, m3, m4⟩, v0_, z0_, g0_, o0_, v1_, z1_, g1_, o1_, q, R0_, R1_, ⟨⟨k0, l0⟩, l2⟩⟩
def Ze.ok (x : Ze) : Prop := Jo x.Epoch ∧ Zi.ok x.Head ∧ (x.Data.length * 1 ≤ 140737488351232)
theorem Xdf {H : Type} {enc : TypeId × Value → H} {W : World} {fuel : Nat} {cs : List Value} {x : DataW H × List MemPlace} (h : Tr enc Tryz.prog W fuel 38 cs x) (hw : Sz Tryz.prog 38 x.1) : ∃ (m : Ze) (v0 : Value) (z0 g0 o0 : Nat) (v1 : Value) (z1 g1 o1 : Nat) (v2 : Value) (z2 g2 o2 : Nat), cs = Ze.cs m v0 v1 v2 ∧ Rd W z0 g0 o0 18 v0 (m.Head.Items.map Zd.cs) ∧ Rd W z1 g1 o1 2 v1 (m.Head.Points.map Qu.cs) ∧ Rd W z2 g2 o2 1 v2 (m.Data.map Xq) ∧ Ze.ok m := by
  obtain ⟨xs, n, rfl, rfl, hl, hx, hf⟩ := DataW.trod_struct Tryz.underlying38 h
  replace hl : cs.length = 56 := hl.trans (by kernel_rfl)
  replace hx : xs.length = 7 := hx
  obtain ⟨y0, e0⟩ := Kb (i := 0) hx rfl
  have h0 : Tr enc Tryz.prog W n 5 ((cs.drop 0).take 1) y0 := Kh hf (i := 0) rfl rfl rfl (by kernel_rfl) e0
  obtain ⟨m0, c0⟩ := Qf7 Tryz.underlying5 h0
  obtain ⟨y1, e1⟩ := Kb (i := 1) hx rfl
  have h1 : Tr enc Tryz.prog W n 3 ((cs.drop 1).take 1) y1 := Kh hf (i := 1) rfl rfl rfl (by kernel_rfl) e1
  obtain ⟨m1, c1, k1⟩ := Tb Tryz.underlying3 h1
  obtain ⟨y2, e2⟩ := Kb (i := 2) hx rfl
  have h2 : Tr enc Tryz.prog W n 36 ((cs.drop 2).take 35) y2 := Kh hf (i := 2) rfl rfl rfl (by kernel_rfl) e2
  obtain ⟨m2, v0_, z0_, g0_, o0_, v1_, z1_, g1_, o1_, c2, R0_, R1_, k2⟩ := Xdc h2 (Qcz Tryz.underlying38 hw (i := 2) rfl (by rw [List.getElem?_map, e2]; rfl))
  obtain ⟨y3, e3⟩ := Kb (i := 3) hx rfl
  have h3 : Tr enc Tryz.prog W n 5 ((cs.drop 37).take 1) y3 := Kh hf (i := 3) rfl rfl rfl (by kernel_rfl) e3
  obtain ⟨m3, c3⟩ := Qf7 Tryz.underlying5 h3
  obtain ⟨y4, e4⟩ := Kb (i := 4) hx rfl
  have h4 : Tr enc Tryz.prog W n 24 ((cs.drop 38).take 1) y4 := Kh hf (i := 4) rfl rfl rfl (by kernel_rfl) e4
  obtain ⟨m4, c4⟩ := Ai Tryz.underlying24 h4
  obtain ⟨y5, e5⟩ := Kb (i := 5) hx rfl
  have h5 : Tr enc Tryz.prog W n 32 ((cs.drop 39).take 1) y5 := Kh hf (i := 5) rfl rfl rfl (by kernel_rfl) e5
  obtain ⟨m5, v2_, z2_, g2_, o2_, c5, R2_, k5, l5⟩ := Qix (c := Xq) (ok := fun a => True) (sz := 1) (bytes := 1) Tryz.underlying32 (by kernel_rfl) (by kernel_rfl) (by decide) (fun _ => ⟨rfl, rfl⟩) (fun _ _ _ h => (let ⟨n, c⟩ := Qf7 Tryz.underlying5 h; ⟨n, c, trivial⟩)) h5 (Qcz Tryz.underlying38 hw (i := 5) rfl (by rw [List.getElem?_map, e5]; rfl))
  obtain ⟨y6, e6⟩ := Kb (i := 6) hx rfl
  have h6 : Tr enc Tryz.prog W n 23 ((cs.drop 40).take 16) y6 := Kh hf (i := 6) rfl rfl rfl (by kernel_rfl) e6
  obtain ⟨m6, c6⟩ := Ah Tryz.underlying23 Tryz.underlying5 (by kernel_rfl) (by kernel_rfl) h6
  have q := Tw hl
  replace q := Jz (o := 40) (k := 16) c6 q
  replace q := Jz (o := 39) (k := 1) c5 q
  replace q := Jz (o := 38) (k := 1) c4 q
  replace q := Jz (o := 37) (k := 1) c3 q
  replace q := Jz (o := 2) (k := 35) c2 q
  replace q := Jz (o := 1) (k := 1) c1 q
  replace q := Jz (o := 0) (k := 1) c0 q
  exact ⟨⟨m0, m1, m2, m3, m4, m5, m6⟩, v0_, z0_, g0_, o0_, v1_, z1_, g1_, o1_, v2_, z2_, g2_, o2_, q, R0_, R1_, R2_, ⟨k1, k2, l5⟩⟩
end Go.Sx

end
section
set_option linter.unusedVariables false
set_option linter.unusedSimpArgs false
namespace Go.Proofs.YtgdojjniakpadaaGreat
open Go Go.RowKit Go.Sx
theorem Qhy : CV Tryz.prog 3 155 .u64 := fun _ _ _ => by kernel_rfl
theorem Nt : ZV Tryz.prog 278 (.agg [.int .u64 0, .int .u64 0].toArray) := fun _ => by kernel_rfl
theorem Lz : FA Tryz.prog 278 0 0 := fun _ _ _ => by kernel_rfl
theorem Xm : Yd Tryz.prog 24 := fun _ => ⟨by kernel_rfl, by kernel_rfl⟩
theorem Nz : FA Tryz.prog 278 1 1 := fun _ _ _ => by kernel_rfl
theorem Qi4 : En Tryz.prog 292 := fun _ _ => by kernel_rfl
theorem Qdc : BS Tryz.prog 278 (fun i => [(0, 1), (1, 1)][i]?) [.int .u64 0, .int .u64 0] := Tv Tryz.underlying278 Nt ⟨rfl, (Xm).siz, rfl, (Xm).siz, trivial⟩
theorem Wr : Ky Tryz.prog 278 2 := fun _ => ⟨by kernel_rfl, by kernel_rfl⟩
theorem Nw : CV Tryz.prog 5 24 .u64 := fun _ _ _ => by kernel_rfl
theorem Xs : Yd Tryz.prog 5 := fun _ => ⟨by kernel_rfl, by kernel_rfl⟩
theorem Pk : CV Tryz.prog 24 5 .u8 := fun _ _ _ => by kernel_rfl
theorem Zh : ZV Tryz.prog 23 (.agg [.int .u8 0, .int .u8 0, .int .u8 0, .int .u8 0, .int .u8 0, .int .u8 0, .int .u8 0, .int .u8 0, .int .u8 0, .int .u8 0, .int .u8 0, .int .u8 0, .int .u8 0, .int .u8 0, .int .u8 0, .int .u8 0].toArray) := fun _ => by kernel_rfl
theorem Ql : Ky Tryz.prog 23 16 := fun _ => ⟨by kernel_rfl, by kernel_rfl⟩
abbrev pv (p : W2) : Value := .agg [wv p.1, wv p.2].toArray
set_option maxHeartbeats 1000000 in
theorem Qjm (x : BitVec 64) (k : Int) (s : Nat) (hs : s < 64) (hk : bits .and .u64 (IntKind.u64.wrap k) 63 = (s : Int)) (w : World) :
    Calls Tryz.prog 292 [wv x, .int .i64 k].toArray w fun e w' => ∃ v, e = .returned v ∧ (v = wv (Yj x s) ∧ Gr w w') := by
 refine Xe 17 Tryz.func292 rfl rfl rfl<|qs 1 rfl<|qv rfl (Zn rfl)<|qd 4 rfl<|qv rfl (Qm rfl)<|qv rfl (Bc Qhy rfl)<|qv rfl (Js (Qd0 (by simp) rfl rfl) (show _ = Value.int .u64 (s : Int) from by rw [hk]))<|qv rfl (Zn rfl)<|qd 9 rfl<|qv rfl (Qm rfl)<|qv rfl (Qm rfl)<|qv rfl (Qd4 rfl rfl (by omega))<|qv rfl (Qm rfl)<|qv rfl (Qm rfl)<|qv rfl (Js (Vn rfl rfl) (show _ = Value.int .u64 ((64 - s : Nat) : Int) from by rw [IntKind.wrap_u64]; congr 1; omega))<|qv rfl (Qh9 rfl rfl (by omega))<|qv rfl (Bg rfl rfl)<|qv rfl (Zn rfl)<|Qa<|Qo ?_
 refine ⟨_, _, rfl, Dj rfl rfl, ?_⟩
 exact ⟨by simp [Yj], (Gr.refl w)⟩
set_option maxHeartbeats 1000000 in
theorem Qud (p : W2) (k : BitVec 64) (w : World) :
    Calls Tryz.prog 189 [pv p, wv k].toArray w fun e w' => ∃ v, e = .returned v ∧ (v = pv (Lk p k) ∧ Gr w w') := by
 refine Xe 21 Tryz.func189 rfl rfl rfl<|qs 2 rfl<|qe rfl (Qy rfl (by rfl)) ?_
 rintro _ w1 ⟨b1, rfl, hbw1, Bw1, Gw1⟩
 have z1 := Gw1.size
 have lt2 := Bw1.lt
 refine qe rfl (Xh Nt (by rfl)) ?_
 rintro _ w2 ⟨b2, rfl, hbw2, Bw2, Gw2⟩
 have z3 := Gw2.size
 have lt4 := Bw2.lt
 refine Qa<|Qe<|Rz [] [(0, 3), (1, 3), (3, 3), (4, 3), (6, 3), (2, 0), (5, 3), (7, 3), (8, 3)] (by kernel_rfl) (by kernel_rfl) rfl (by kernel_rfl) ?_
 intro w3 Gw3 zw3
 refine Zs rfl rfl rfl (Kp.refl [] w3) (fun w hS => Qb Lz rfl) ?_
 have B5 := (Bx.gr (Bx.gr Bw1 Gw2) Gw3)
 refine Zs rfl rfl rfl (Kp.refl [] w3) (fun w hS => Qd Xm rfl (Bx.kp B5 hS (by simp <;> first | omega | (split <;> omega))) (by rfl))<|Zs rfl rfl rfl (Kp.refl [] w3) (fun w hS => Qb Nz rfl)<|Zs rfl rfl rfl (Kp.refl [] w3) (fun w hS => Qd Xm rfl (Bx.kp B5 hS (by simp <;> first | omega | (split <;> omega))) (by rfl))<|Zs rfl rfl rfl (Kp.refl [] w3) (fun w hS => Qm rfl)<|Fg rfl rfl rfl (Kt Qi4 rfl (Qjm _ (-8) 56 (by decide) (by decide) _)) ?_
 rintro _ w4 ⟨rfl, Gw4⟩
 have z6 := Gw4.size
 refine ⟨Gw4, ?_⟩
 have S7 := (Kp.gr (Kp.refl [] w3) Gw4)
 refine Zs rfl rfl rfl S7 (fun w hS => Te rfl rfl)<|Zs rfl rfl rfl S7 (fun w hS => Ns rfl rfl)<|Zs rfl rfl rfl S7 (fun w hS => Zn rfl)<|qd 8 rfl<|qv rfl (Qm rfl)<|qv rfl (Qb Nz rfl) ?_
 have B8 := (Bx.gr B5 Gw4)
 refine qv rfl (Qd Xm rfl B8 (by rfl))<|qe rfl (Kt Qi4 rfl (Qjm _ (3) 3 (by decide) (by decide) _)) ?_
 rintro _ w5 ⟨rfl, Gw5⟩
 have z9 := Gw5.size
 refine qv rfl (Qm rfl)<|qv rfl (Ns rfl rfl)<|qv rfl (Zv Qdc rfl rfl) ?_
 have B10 := (Bx.gr (Bx.gr (Bx.gr Bw2 Gw3) Gw4) Gw5)
 refine qe rfl (He (Wr).siz rfl rfl (by rfl) (by rfl) (by rfl) B10 (by rfl)) ?_
 rintro _ w6 ⟨Bw6, Mw6⟩
 have z11 := Mw6.size
 refine Qa<|Qo ?_
 have X12 := (Gr.md (Gr.trans (Gr.trans (Gr.trans (Gr.trans (Gr.trans (Gr.refl w) Gw1) Gw2) Gw3) Gw4) Gw5) Mw6 (by omega))
 refine ⟨_, _, rfl, Tl rfl Wr rfl Bw6 (by rfl), ?_⟩
 exact ⟨rfl, X12⟩
set_option maxHeartbeats 1000000 in
theorem Qw1 (p : W2) (k : BitVec 64) (w : World) :
    Calls Tryz.prog 311 [pv p, wv k].toArray w fun e w' => ∃ v, e = .returned v ∧ (v = pv (Iv p k) ∧ Gr w w') := by
 refine Xe 21 Tryz.func311 rfl rfl rfl<|qs 2 rfl<|qe rfl (Qy rfl (by rfl)) ?_
 rintro _ w1 ⟨b1, rfl, hbw1, Bw1, Gw1⟩
 have z1 := Gw1.size
 have lt2 := Bw1.lt
 refine qe rfl (Xh Nt (by rfl)) ?_
 rintro _ w2 ⟨b2, rfl, hbw2, Bw2, Gw2⟩
 have z3 := Gw2.size
 have lt4 := Bw2.lt
 refine qd 7 rfl<|qv rfl (Qb Lz rfl) ?_
 have B5 := (Bx.gr Bw1 Gw2)
 refine qv rfl (Qd Xm rfl B5 (by rfl))<|qv rfl (Qb Nz rfl)<|qv rfl (Qd Xm rfl B5 (by rfl))<|qv rfl (Ns rfl rfl)<|qe rfl (Kt Qi4 rfl (Qjm _ (-3) 61 (by decide) (by decide) _)) ?_
 rintro _ w3 ⟨rfl, Gw3⟩
 have z6 := Gw3.size
 refine qv rfl (Zn rfl)<|qd 10 rfl<|qv rfl (Qb Lz rfl) ?_
 have B7 := (Bx.gr B5 Gw3)
 refine qv rfl (Qd Xm rfl B7 (by rfl))<|qv rfl (Qm rfl)<|qv rfl (Ns rfl rfl)<|qv rfl (Qm rfl)<|qv rfl (Mw rfl rfl)<|qe rfl (Kt Qi4 rfl (Qjm _ (8) 8 (by decide) (by decide) _)) ?_
 rintro _ w4 ⟨rfl, Gw4⟩
 have z8 := Gw4.size
 refine qv rfl (Qm rfl)<|qv rfl (Zv Qdc rfl rfl) ?_
 have B9 := (Bx.gr (Bx.gr Bw2 Gw3) Gw4)
 refine qe rfl (He (Wr).siz rfl rfl (by rfl) (by rfl) (by rfl) B9 (by rfl)) ?_
 rintro _ w5 ⟨Bw5, Mw5⟩
 have z10 := Mw5.size
 refine Qa<|Qo ?_
 have X11 := (Gr.md (Gr.trans (Gr.trans (Gr.trans (Gr.trans (Gr.refl w) Gw1) Gw2) Gw3) Gw4) Mw5 (by omega))
 refine ⟨_, _, rfl, Tl rfl Wr rfl Bw5 (by rfl), ?_⟩
 exact ⟨rfl, X11⟩
set_option maxHeartbeats 1000000 in
theorem Qow (p : W2) (w : World) :
    Calls Tryz.prog 187 [kv p].toArray w fun e w' => ∃ v, e = .returned v ∧ (v = pv p ∧ Gr w w') := by
 refine Xe 29 Tryz.func187 rfl rfl rfl<|qs 2 rfl<|qe rfl (Qy rfl (by rfl)) ?_
 rintro _ w1 ⟨b1, rfl, hbw1, Bw1, Gw1⟩
 have z1 := Gw1.size
 have lt2 := Bw1.lt
 refine qe rfl (Xh Nt (by rfl)) ?_
 rintro _ w2 ⟨b2, rfl, hbw2, Bw2, Gw2⟩
 have z3 := Gw2.size
 have lt4 := Bw2.lt
 refine qd 1 rfl<|qe rfl (Xh Nt (by rfl)) ?_
 rintro _ w3 ⟨b3, rfl, hbw3, Bw3, Gw3⟩
 have z5 := Gw3.size
 have lt6 := Bw3.lt
 refine Qa<|Qe<|qs 1 rfl<|qv rfl (Qm rfl)<|Qa<|Xi ?_
 have X7 := (Gr.trans (Gr.trans (Gr.trans (Gr.refl w) Gw1) Gw2) Gw3)
 refine Zq (α := Nat) [4, 5, 6, 7, 8, 9, 10, 11, 12, 13, 14, 15, 16, 17, 18, 19, 20, 21, 22, 23, 24, 25, 26, 27] (fun k => [(5, .int .i64 (k : Int))]) (fun k wr => (k ≤ 8) ∧ Bx wr b3 278 ([wv (p.1 >>> (64 - 8 * k)), wv (p.2 >>> (64 - 8 * k))]) ∧ Kp [b3] w3 wr) (fun k => 8 - k) (0) ?_ ?_ ?_
 · exact Qf
 · exact ⟨by omega, (by rw [Nat.mul_zero, Nat.sub_zero, Qjt, Qjt]; exact Bw3), Kp.refl _ _⟩
 rintro k w4 ⟨hk, Bw4_b3, Kw4⟩
 have z8 := Kw4.size
 refine qs 1 rfl<|qv rfl (Zc rfl rfl)<|Qa<|Qe<|Xj rfl (fun h1 => ?_) (fun h1 => ?_)
 · -- h1 True
   replace h1 := of_decide_eq_true h1
   refine qu<|Qe<|Xi<|qs 2 rfl<|qv rfl (Qm rfl)<|qv rfl (Zn rfl)<|Qa<|Rz [b3] [(0, 3), (1, 1), (2, 3), (3, 3), (4, 3), (5, 3), (6, 3), (7, 3), (8, 3), (9, 1), (10, 3), (11, 3), (12, 3), (13, 3), (14, 3), (15, 3), (16, 3), (17, 3), (18, 2), (19, 3), (20, 2)] (by kernel_rfl) (by kernel_rfl) rfl (by kernel_rfl) ?_
   intro w5 Gw5 zw5
   refine Zs rfl rfl rfl (Kp.refl [b3] w5) (fun w hS => Qb Lz rfl) ?_
   have B9 := (Bx.gr Bw4_b3 Gw5)
   refine Qla rfl rfl rfl (Gr.refl w5) (fun w hS => Qd Xm rfl (Bx.gr B9 hS) (by rfl))<|Zs rfl rfl rfl (Kp.refl [b3] w5) (fun w hS => Qd4 rfl rfl (by omega))<|Zs rfl rfl rfl (Kp.refl [b3] w5) (fun w hS => Qm rfl)<|Zs rfl rfl rfl (Kp.refl [b3] w5) (fun w hS => Nq Tryz.underlying23 (Xs).siz rfl rfl (by omega) (by omega)) ?_
   have B10 := (Bx.gr (Bx.kp (Bx.gr (Bx.gr Bw1 Gw2) Gw3) Kw4 (by simp <;> first | omega | (split <;> omega))) Gw5)
   refine Zs rfl rfl rfl (Kp.refl [b3] w5) (fun w hS => Qd Xs rfl (Bx.kp B10 hS (by simp <;> first | omega | (split <;> omega))) (by exact Xbr p k (by omega)))<|Zs rfl rfl rfl (Kp.refl [b3] w5) (fun w hS => Qd1 Nw rfl (Qhm _ _) (by have := Qhl p.1 k; omega))<|Zs rfl rfl rfl (Kp.refl [b3] w5) (fun w hS => Bg rfl rfl)<|Zs rfl rfl rfl (Kp.refl [b3] w5) (fun w hS => Qb Nz rfl)<|Qla rfl rfl rfl (Gr.refl w5) (fun w hS => Qd Xm rfl (Bx.gr B9 hS) (by rfl))<|Zs rfl rfl rfl (Kp.refl [b3] w5) (fun w hS => Qd4 rfl rfl (by omega))<|Zs rfl rfl rfl (Kp.refl [b3] w5) (fun w hS => Qm rfl)<|Zs rfl rfl rfl (Kp.refl [b3] w5) (fun w hS => Wj rfl rfl (by omega) (by omega))<|Zs rfl rfl rfl (Kp.refl [b3] w5) (fun w hS => Nq Tryz.underlying23 (Xs).siz rfl rfl (by omega) (by omega))<|Zs rfl rfl rfl (Kp.refl [b3] w5) (fun w hS => Qd Xs rfl (Bx.kp B10 hS (by simp <;> first | omega | (split <;> omega))) (by exact Xbq p k (by omega)))<|Zs rfl rfl rfl (Kp.refl [b3] w5) (fun w hS => Qd1 Nw rfl (Qhm _ _) (by have := Qhl p.2 k; omega))<|Zs rfl rfl rfl (Kp.refl [b3] w5) (fun w hS => Bg rfl rfl)<|Zs rfl rfl rfl (Kp.refl [b3] w5) (fun w hS => Qb Lz rfl)<|Eg (b := b3) rfl rfl rfl rfl (Es (Xm).siz rfl rfl rfl B9 (by simp)) (by first | exact Or.inl (by simp) | exact Or.inr (by omega)) ?_
   rintro _ w6 ⟨Bw6, Mw6⟩
   have z11 := Mw6.size
   refine ⟨Mw6, ?_⟩
   have S12 := (Kp.md (Kp.refl [b3] w5) Mw6 (by first | exact Or.inl (by simp) | exact Or.inr (by omega)))
   refine Zs rfl rfl rfl S12 (fun w hS => Qb Nz rfl)<|Eg (b := b3) rfl rfl rfl rfl (Es (Xm).siz rfl rfl rfl Bw6 (by simp)) (by first | exact Or.inl (by simp) | exact Or.inr (by omega)) ?_
   rintro _ w7 ⟨Bw7, Mw7⟩
   have z13 := Mw7.size
   refine ⟨Mw7, ?_⟩
   refine Qh<|Xy<|Xl<|qg 2 rfl<|qv rfl (Wj rfl rfl (by omega) (by omega))<|qv rfl (Qm rfl)<|Qh ?_
   have K_14 := (Kp.md (Kp.md (Kp.gr Kw4 Gw5) Mw6 (by simp <;> first | omega | (split <;> omega))) Mw7 (by simp <;> first | omega | (split <;> omega)))
   refine ⟨rfl, k + 1, ?_, ⟨?_, ?_, K_14⟩, ?_⟩
   · exact Qf
   · omega
   · rw [← Iz _ k (by omega), ← Iz _ k (by omega)]; exact Bw7
   first | omega | (dsimp only; omega)
 replace h1 := of_decide_eq_false h1
 refine Zl<|Xk<|Xk<|Zk<|Xl<|qs 2 rfl<|qv rfl (Qp Wr rfl Bw4_b3 (by rfl)) ?_
 have B15 := (Bx.kp (Bx.gr Bw2 Gw3) Kw4 (by simp <;> first | omega | (split <;> omega)))
 refine qe rfl (He (Wr).siz rfl rfl (by rfl) (by rfl) (by rfl) B15 (by rfl)) ?_
 rintro _ w8 ⟨Bw8, Mw8⟩
 have z16 := Mw8.size
 refine Qa<|Qo ?_
 obtain rfl : k = 8 := by omega
 have X17 := (Gr.md (Gr.kp X7 Kw4 (by simp <;> first | omega | (split <;> omega))) Mw8 (by omega))
 refine ⟨_, _, rfl, Tl rfl Wr rfl Bw8 (by rfl), ?_⟩
 exact ⟨rfl, X17⟩
set_option maxHeartbeats 1000000 in
theorem Qkq (p : W2) (w : World) :
    Calls Tryz.prog 190 [pv p].toArray w fun e w' => ∃ v, e = .returned v ∧ (v = kv p ∧ Gr w w') := by
 refine Xe 29 Tryz.func190 rfl rfl rfl<|qs 2 rfl<|qe rfl (Qy rfl (by rfl)) ?_
 rintro _ w1 ⟨b1, rfl, hbw1, Bw1, Gw1⟩
 have z1 := Gw1.size
 have lt2 := Bw1.lt
 refine qe rfl (Xh Zh (by rfl)) ?_
 rintro _ w2 ⟨b2, rfl, hbw2, Bw2, Gw2⟩
 have z3 := Gw2.size
 have lt4 := Bw2.lt
 refine qd 1 rfl<|qe rfl (Xh Zh (by rfl)) ?_
 rintro _ w3 ⟨b3, rfl, hbw3, Bw3, Gw3⟩
 have z5 := Gw3.size
 have lt6 := Bw3.lt
 refine Qa<|Qe<|qs 1 rfl<|qv rfl (Qm rfl)<|Qa<|Xi ?_
 have X7 := (Gr.trans (Gr.trans (Gr.trans (Gr.refl w) Gw1) Gw2) Gw3)
 refine Zq (α := Nat) [4, 5, 6, 7, 8, 9, 10, 11, 12, 13, 14, 15, 16, 17, 18, 19, 20, 21, 22, 23, 24, 25, 26, 27] (fun k => [(5, .int .i64 (k : Int))]) (fun k wr => (k ≤ 8) ∧ Bx wr b3 23 (Ft p k) ∧ Kp [b3] w3 wr) (fun k => 8 - k) (0) ?_ ?_ ?_
 · exact Qf
 · exact ⟨by omega, (by rw [Xbx]; exact Bw3), Kp.refl _ _⟩
 rintro k w4 ⟨hk, Bw4_b3, Kw4⟩
 have z8 := Kw4.size
 refine qs 1 rfl<|qv rfl (Zc rfl rfl)<|Qa<|Qe<|Xj rfl (fun h1 => ?_) (fun h1 => ?_)
 · -- h1 True
   replace h1 := of_decide_eq_true h1
   refine qu<|Qe<|Xi<|qs 2 rfl<|qv rfl (Qm rfl)<|qv rfl (Zn rfl)<|Qa<|Rz [b3] [(0, 3), (1, 3), (2, 3), (3, 3), (4, 3), (5, 3), (6, 3), (7, 3), (8, 3), (9, 3), (10, 3), (11, 3), (12, 3), (13, 3), (14, 3), (15, 3), (16, 3), (17, 3), (18, 2), (19, 3), (20, 2)] (by kernel_rfl) (by kernel_rfl) rfl (by kernel_rfl) ?_
   intro w5 Gw5 zw5
   refine Zs rfl rfl rfl (Kp.refl [b3] w5) (fun w hS => Qm rfl)<|Zs rfl rfl rfl (Kp.refl [b3] w5) (fun w hS => Qm rfl)<|Zs rfl rfl rfl (Kp.refl [b3] w5) (fun w hS => Wj rfl rfl (by omega) (by omega))<|Zs rfl rfl rfl (Kp.refl [b3] w5) (fun w hS => Qb Lz rfl) ?_
   have B9 := (Bx.gr (Bx.kp (Bx.gr (Bx.gr Bw1 Gw2) Gw3) Kw4 (by simp <;> first | omega | (split <;> omega))) Gw5)
   refine Zs rfl rfl rfl (Kp.refl [b3] w5) (fun w hS => Qd Xm rfl (Bx.kp B9 hS (by simp <;> first | omega | (split <;> omega))) (by rfl))<|Zs rfl rfl rfl (Kp.refl [b3] w5) (fun w hS => Qm rfl)<|Zs rfl rfl rfl (Kp.refl [b3] w5) (fun w hS => Qvj rfl rfl (by omega) (by omega))<|Zs rfl rfl rfl (Kp.refl [b3] w5) (fun w hS => Qh8 rfl rfl (by omega) (by omega))<|Zs rfl rfl rfl (Kp.refl [b3] w5) (fun w hS => Qh9 rfl rfl (by omega))<|Zs rfl rfl rfl (Kp.refl [b3] w5) (fun w hS => Qol Pk rfl)<|Zs rfl rfl rfl (Kp.refl [b3] w5) (fun w hS => Qb Nz rfl)<|Zs rfl rfl rfl (Kp.refl [b3] w5) (fun w hS => Qd Xm rfl (Bx.kp B9 hS (by simp <;> first | omega | (split <;> omega))) (by rfl))<|Zs rfl rfl rfl (Kp.refl [b3] w5) (fun w hS => Qm rfl)<|Zs rfl rfl rfl (Kp.refl [b3] w5) (fun w hS => Qvj rfl rfl (by omega) (by omega))<|Zs rfl rfl rfl (Kp.refl [b3] w5) (fun w hS => Qh8 rfl rfl (by omega) (by omega))<|Zs rfl rfl rfl (Kp.refl [b3] w5) (fun w hS => Qh9 rfl rfl (by omega))<|Zs rfl rfl rfl (Kp.refl [b3] w5) (fun w hS => Qol Pk rfl)<|Zs rfl rfl rfl (Kp.refl [b3] w5) (fun w hS => Nq Tryz.underlying23 (Xs).siz rfl rfl (by omega) (by omega)) ?_
   have B10 := (Bx.gr Bw4_b3 Gw5)
   refine Eg (b := b3) rfl rfl rfl rfl (Es (Xs).siz rfl rfl rfl B10 (by rw [Qs7]; omega)) (by first | exact Or.inl (by simp) | exact Or.inr (by omega)) ?_
   rintro _ w6 ⟨Bw6, Mw6⟩
   have z11 := Mw6.size
   refine ⟨Mw6, ?_⟩
   have S12 := (Kp.md (Kp.refl [b3] w5) Mw6 (by first | exact Or.inl (by simp) | exact Or.inr (by omega)))
   refine Zs rfl rfl rfl S12 (fun w hS => Nq Tryz.underlying23 (Xs).siz rfl rfl (by omega) (by omega))<|Eg (b := b3) rfl rfl rfl rfl (Es (Xs).siz rfl rfl rfl Bw6 (by rw [List.length_set, Qs7]; omega)) (by first | exact Or.inl (by simp) | exact Or.inr (by omega)) ?_
   rintro _ w7 ⟨Bw7, Mw7⟩
   have z13 := Mw7.size
   refine ⟨Mw7, ?_⟩
   refine Qh<|Xy<|Xl<|qg 2 rfl<|qv rfl (Wj rfl rfl (by omega) (by omega))<|qv rfl (Qm rfl)<|Qh ?_
   have K_14 := (Kp.md (Kp.md (Kp.gr Kw4 Gw5) Mw6 (by simp <;> first | omega | (split <;> omega))) Mw7 (by simp <;> first | omega | (split <;> omega)))
   refine ⟨rfl, k + 1, ?_, ⟨?_, ?_, K_14⟩, ?_⟩
   · exact Qf
   · omega
   · rw [← Xby p k (by omega)]; exact Bw7
   first | omega | (dsimp only; omega)
 replace h1 := of_decide_eq_false h1
 refine Zl<|Xk<|Xk<|Zk<|Xl<|Qe ?_
 obtain rfl : k = 8 := by omega
 refine qg 2 rfl<|qv rfl (Qp Ql rfl Bw4_b3 (by rfl)) ?_
 have B15 := (Bx.kp (Bx.gr Bw2 Gw3) Kw4 (by simp <;> first | omega | (split <;> omega)))
 refine qe rfl (He (Ql).siz rfl rfl (by rfl) (by rfl) (by rfl) B15 (by rfl)) ?_
 rintro _ w8 ⟨Bw8, Mw8⟩
 have z16 := Mw8.size
 refine Qa<|Qo ?_
 have X17 := (Gr.md (Gr.kp X7 Kw4 (by simp <;> first | omega | (split <;> omega))) Mw8 (by omega))
 refine ⟨_, _, rfl, Tl rfl Ql rfl Bw8 (by rfl), ?_⟩
 exact ⟨rfl, X17⟩
end Go.Proofs.YtgdojjniakpadaaGreat

end
section
set_option linter.unusedVariables false
set_option linter.unusedSimpArgs false
namespace Go.Proofs.YtgdojjniakpadaaGreat
open Go Go.RowKit Go.Sx
theorem Qe2 : En Tryz.prog 187 := fun _ _ => by kernel_rfl
theorem Ye : CV Tryz.prog 3 24 .u64 := fun _ _ _ => by kernel_rfl
theorem Qq9 : En Tryz.prog 189 := fun _ _ => by kernel_rfl
theorem Qq8 : En Tryz.prog 188 := fun _ _ => by kernel_rfl
theorem Qqm : En Tryz.prog 291 := fun _ _ => by kernel_rfl
theorem Qe3 : En Tryz.prog 190 := fun _ _ => by kernel_rfl
def Sd (k : W2) : List (List Value) := (List.range 32).map fun (i : Nat) => [.int .i64 (i : Int), wv (ks k i).2]
theorem Qey (k : W2) : (Sd k).length = 32 := by simp [Sd]
theorem Qs1 (k : W2) (i : Nat) (h : i < 32) : (Sd k)[i]? = some [.int .i64 (i : Int), wv (ks k i).2] := by simp [Sd, h]
set_option maxHeartbeats 1000000 in
theorem Qs5 (k : W2) (b : Nat) (w0 : World) (hb : Bx w0 b 23 (kb k)) :
    IT Tryz.prog 291 [.pointer (some ⟨b, 0, none⟩)] (Sd k) [b] w0 := by
 intro l J Jx w fp hG hJ hJx hcap h0 hY
 have Bc0 := Bx.gr hb hG
 have lt1 := Bc0.lt
 refine Xe 21 Tryz.func291 rfl rfl rfl<|qs 4 rfl<|qv rfl (Qp Ql rfl Bc0 (by rfl))<|qe rfl (Kt Qe2 rfl (Qow _ _)) ?_
 rintro _ w1 ⟨rfl, Gw1⟩
 have z2 := Gw1.size
 refine qe rfl (Xh Nt (by rfl)) ?_
 rintro _ w2 ⟨b2, rfl, hbw2, Bw2, Gw2⟩
 have z3 := Gw2.size
 have lt4 := Bw2.lt
 refine qe rfl (He (Wr).siz rfl rfl (by rfl) (by rfl) (by rfl) Bw2 (by rfl)) ?_
 rintro _ w3 ⟨Bw3, Mw3⟩
 have z5 := Mw3.size
 refine qd 1 rfl<|qv rfl (Qm rfl)<|Qa<|Xi ?_
 have hz0 : b2 ∉ fp := fun h => by have := hJ.lt h0 b2 h; omega
 have hk0 : Kp fp w w3 := ((Gr.toKp Gw1).gr Gw2).md Mw3 (.inr (by omega))
 have hj0 : J 0 fp w3 := hJ.md (hJ.gr (hJ.gr h0 Gw1) Gw2) Mw3 hz0
 have B6 := (Bx.md (Bx.gr (Bx.gr Bc0 Gw1) Gw2) Mw3 (by omega))
 refine Zq (α := Nat) [4, 7, 8, 9, 10, 11, 12, 13, 14, 15, 16, 17, 18, 19, 20] (fun i => [(7, .int .i64 (i : Int))]) (fun i wr => (i ≤ 32 ∧ ∃ f, J i f wr ∧ Kp fp w wr ∧ (∀ c ∈ f, c ∈ fp ∨ w.heap.size ≤ c) ∧ b ∉ f ∧ b2 ∉ f) ∧ Bx wr b 23 (kb k) ∧ Bx wr b2 278 ([wv (ks k i).1, wv (ks k i).2]) ∧ True) (fun i => 32 - i) (0) ?_ ?_ ?_
 · exact Qf
 · exact ⟨⟨by omega, fp, hj0, hk0, fun c hc => .inl hc, hcap b (by simp), hz0⟩, B6, Bw3, trivial⟩
 rintro i w4 ⟨⟨hi, f, hj, hk, hf, hbf, hpf⟩, Bw4_b, Bw4_b2, Kw4⟩
 have lt7 := Bw4_b.lt
 have lt8 := Bw4_b2.lt
 refine qs 1 rfl<|qv rfl (Zc rfl rfl)<|Qa<|Qe<|Xj rfl (fun h1 => ?_) (fun h1 => ?_)
 · -- h1 True
   replace h1 := of_decide_eq_true h1
   refine qu<|Qe<|Xi<|qs 2 rfl<|qv rfl (Qm rfl)<|qv rfl (Zn rfl)<|Qa<|Qe<|qs 6 rfl<|qv rfl (Qm rfl)<|qv rfl (Qm rfl)<|qv rfl (Qb Nz rfl)<|qv rfl (Qd Xm rfl Bw4_b2 (by rfl))<|qe rfl (Qb3 rfl rfl (hY i _ f _ (Qs1 k i (by omega)) hj hk hf)) ?_
   rintro _ w5 ⟨y1, rfl, Kw5, fw5, Fw5, Jw5⟩
   have z9 := Kw5.size
   have hk5 : Kp fp w w5 := hk.trans Kw5 hf
   have hf5 := Sp hf Fw5 hk.size
   have hn2 : b2 ∉ fw5 := Ku Fw5 hpf lt8
   refine qv rfl (Jb rfl)<|Qa<|Xj rfl (fun h2 => ?_) (fun h2 => ?_)
   · -- h2 True
     replace h2 := Xcv h2
     subst h2
     refine Qo<|Zf<|Zz<|Zf<|Zf<|Zz<|⟨_, _, rfl, Nl rfl, ?_⟩
     exact ⟨hk5, .inr ⟨i + 1, fw5, hf5, by rw [Qey]; omega, Jw5⟩⟩
   replace h2 := Xcu h2
   subst h2
   refine qu<|qg 5 rfl ?_
   have B10 := (Bx.kp Bw4_b2 Kw5 hpf)
   refine qv rfl (Qp Wr rfl B10 (by rfl))<|qv rfl (Qm rfl)<|qv rfl (Qd1 Ye rfl (by omega) (by omega))<|qe rfl (Kt Qq9 rfl (Qud _ _ _)) ?_
   rintro _ w6 ⟨rfl, Gw6⟩
   have z11 := Gw6.size
   have B12 := (Bx.gr B10 Gw6)
   refine qe rfl (He (Wr).siz rfl rfl (by rfl) (by rfl) (by rfl) B12 (by rfl)) ?_
   rintro _ w7 ⟨Bw7, Mw7⟩
   have z13 := Mw7.size
   refine Qh<|Xy<|Xl<|qg 2 rfl<|qv rfl (Wj rfl rfl (by omega) (by omega))<|qv rfl (Qm rfl)<|Qh ?_
   have B15 := (Bx.md (Bx.gr (Bx.kp Bw4_b Kw5 hbf) Gw6) Mw7 (by omega))
   refine ⟨rfl, i + 1, ?_, ⟨?_, ?_, ?_, trivial⟩, ?_⟩
   · exact Qf
   · exact ⟨by omega, fw5, hJ.md (hJ.gr Jw5 Gw6) Mw7 hn2, (hk5.gr Gw6).md Mw7 (.inr (by omega)), hf5, Ku Fw5 hbf lt7, hn2⟩
   · exact B15
   · exact Bw7
   first | omega | (dsimp only; omega)
 replace h1 := of_decide_eq_false h1
 refine Zl<|Xk<|Xk<|Zk<|⟨_, _, rfl, Nl rfl, ?_⟩
 obtain rfl : i = 32 := by omega
 exact ⟨hk, .inl ⟨f, hf, by rw [Qey]; exact hj⟩⟩
set_option maxHeartbeats 1000000 in
theorem Qs4 (k : W2) (w : World) :
    Calls Tryz.prog 188 [kv k].toArray w fun e w' => ∃ v, e = .returned v ∧ (∃ b, v = .func (.func 291) #[] [.pointer (some ⟨b, 0, none⟩)].toArray ∧ w.heap.size ≤ b ∧ Bx w' b 23 (kb k) ∧ Gr w w') := by
 refine Xe 4 Tryz.func188 rfl rfl rfl<|qs 2 rfl<|qe rfl (Qy rfl (by rfl)) ?_
 rintro _ w1 ⟨b1, rfl, hbw1, Bw1, Gw1⟩
 have z1 := Gw1.size
 have lt2 := Bw1.lt
 refine qv rfl (Zn rfl)<|qd 2 rfl<|qv rfl (Mv rfl rfl)<|qv rfl (Zn rfl)<|Qa<|Qo ?_
 have X3 := (Gr.trans (Gr.refl w) Gw1)
 refine ⟨_, _, rfl, Dj rfl rfl, ?_⟩
 exact ⟨b1, rfl, hbw1, Bw1, X3⟩
def Ga (k b : W2) (n : Nat) : W2 := (List.range n).foldl (fun p i => Lk p (ks k i).2) b
theorem Qm5 (k b : W2) (n : Nat) : Ga k b (n + 1) = Lk (Ga k b n) (ks k n).2 := by simp [Ga, List.range_succ]
theorem Qs2 {k : W2} {i : Nat} {x : List Value} (h : (Sd k)[i]? = some x) : i < 32 ∧ x = [.int .i64 (i : Int), wv (ks k i).2] := by
  have hi : i < 32 := by have := (List.getElem?_eq_some_iff.1 h).1; rwa [Qey] at this
  rw [Qs1 k i hi] at h; exact ⟨hi, by simpa using h.symm⟩
theorem Qs3 (k : W2) : ∀ x ∈ Sd k, x.length = 2 := by intro x hx; simp [Sd] at hx; obtain ⟨i, _, rfl⟩ := hx; rfl
set_option maxHeartbeats 1000000 in
theorem Qm6 (k b : W2) (w : World) :
    Calls Tryz.prog 107 [kv k, kv b].toArray w fun e w' => ∃ v, e = .returned v ∧ (v = kv (Wn k b) ∧ Gr w w') := by
 refine Xe 19 Tryz.func107 rfl rfl rfl<|qs 3 rfl<|qe rfl (Qy rfl (by rfl)) ?_
 rintro _ w1 ⟨b1, rfl, hbw1, Bw1, Gw1⟩
 have z1 := Gw1.size
 have lt2 := Bw1.lt
 refine qe rfl (Qy rfl (by rfl)) ?_
 rintro _ w2 ⟨b2, rfl, hbw2, Bw2, Gw2⟩
 have z3 := Gw2.size
 have lt4 := Bw2.lt
 refine qe rfl (Xh Zh (by rfl)) ?_
 rintro _ w3 ⟨b3, rfl, hbw3, Bw3, Gw3⟩
 have z5 := Gw3.size
 have lt6 := Bw3.lt
 refine qd 4 rfl ?_
 have B7 := (Bx.gr Bw2 Gw3)
 refine qv rfl (Qp Ql rfl B7 (by rfl))<|qe rfl (Kt Qe2 rfl (Qow _ _)) ?_
 rintro _ w4 ⟨rfl, Gw4⟩
 have z8 := Gw4.size
 refine qe rfl (Xh Nt (by rfl)) ?_
 rintro _ w5 ⟨b5, rfl, hbw5, Bw5, Gw5⟩
 have z9 := Gw5.size
 have lt10 := Bw5.lt
 refine qe rfl (He (Wr).siz rfl rfl (by rfl) (by rfl) (by rfl) Bw5 (by rfl)) ?_
 rintro _ w6 ⟨Bw6, Mw6⟩
 have z11 := Mw6.size
 refine Qa<|Qe<|qs 2 rfl ?_
 have B12 := (Bx.md (Bx.gr (Bx.gr (Bx.gr (Bx.gr Bw1 Gw2) Gw3) Gw4) Gw5) Mw6 (by omega))
 refine qv rfl (Qp Ql rfl B12 (by rfl))<|qe rfl (Kt Qq8 rfl (Qs4 _ _)) ?_
 rintro _ w7 ⟨b7, rfl, hb7, Bk7, Gw7⟩
 have z13 := Gw7.size
 have lt14 := Bk7.lt
 refine Qa<|Xi ?_
 have X15 := (Gr.trans (Gr.md (Gr.trans (Gr.trans (Gr.trans (Gr.trans (Gr.trans (Gr.refl w) Gw1) Gw2) Gw3) Gw4) Gw5) Mw6 (by omega)) Gw7)
 have B16 := (Bx.gr Bw6 Gw7)
 refine Oe (gf := 291) (xs := Sd k) (cap := [b7]) rfl Qqm (Qs5 k b7 _ Bk7) (Qs3 k) rfl (fun rk fp W => fp = [b5] ∧ Bx W b5 278 ([wv (Ga k b rk).1, wv (Ga k b rk).2])) (fun _ _ _ _ => False) [b5] (Quy _ _ _) (fun _ => Qgz) (by simp <;> omega) (⟨rfl, B16⟩) ?_ ?_ ?_
 · rintro l rk x fp w8 hl hx ⟨rfl, Bw8⟩ Kw8 hF hln Jt
   have z17 := Kw8.size
   obtain ⟨hi, rfl⟩ := Qs2 hx
   refine qg 1 rfl<|qv rfl (Zn rfl)<|Qh<|⟨rfl, (Gr.refl _), ?_⟩
   rintro w9 Mw9 ⟨_, Bw9⟩
   have z18 := Mw9.size
   refine Xi<|qg 4 rfl<|qv rfl (Qp Wr rfl Bw9 (by rfl))<|qv rfl (Qm rfl)<|qe rfl (Kt Qq9 rfl (Qud _ _ _)) ?_
   rintro _ w10 ⟨rfl, Gw10⟩
   have z19 := Gw10.size
   have B20 := (Bx.gr Bw9 Gw10)
   refine qe rfl (He (Wr).siz rfl rfl (by rfl) (by rfl) (by rfl) B20 (by rfl)) ?_
   rintro _ w11 ⟨Bw11, Mw11⟩
   have z21 := Mw11.size
   refine Qh<|Xy<|⟨(Kp.md (Kp.gr (Kp.refl _ _) Gw10) Mw11 (by first | exact Or.inl (by simp) | exact Or.inr (by omega))), _, fun c hc => .inl hc, ?_⟩
   exact ⟨rfl, by rw [Qm5]; exact Bw11⟩
 · rintro Dw12 fp w12 hDw12 Dfw12 nw12 ⟨rfl, Bw12⟩ Kw12
   have z22 := Kw12.size
   have lt22 := Df.lt (w := w12) Dfw12
   rw [Qey] at Bw12
   refine Xy<|Xl<|qs 3 rfl<|qv rfl (Qp Wr rfl Bw12 (by rfl))<|qe rfl (Kt Qe3 rfl (Qkq _ _)) ?_
   rintro _ w13 ⟨rfl, Gw13⟩
   have z23 := Gw13.size
   have B24 := (Bx.gr (Bx.kp (Bx.gr (Bx.md (Bx.gr (Bx.gr Bw3 Gw4) Gw5) Mw6 (by omega)) Gw7) Kw12 (by simp <;> first | omega | (split <;> omega))) Gw13)
   refine qe rfl (He (Ql).siz rfl rfl (by rfl) (by rfl) (by rfl) B24 (by rfl)) ?_
   rintro _ w14 ⟨Bw14, Mw14⟩
   have z25 := Mw14.size
   refine Qa<|Qo ?_
   have DL26 := (Df.md (Df.gr Dfw12 Gw13) Mw14 (by omega))
   have L26 := Md.put (w := w14) Dw12 (.deferred none)
   have zL26 := L26.size
   have B27 := (Bx.md Bw14 L26 (by omega))
   have X28 : Gr w (w14.putObj Dw12 (.deferred none)) := (Gr.md (Gr.md (Gr.trans (Gr.kp X15 Kw12 (by simp <;> first | omega | (split <;> omega))) Gw13) Mw14 (by omega)) L26 (by omega))
   refine ⟨_, _, ⟨Dw12, rfl, DL26, rfl⟩, Tl rfl Ql rfl B27 (by rfl), ?_⟩
   exact ⟨rfl, X28⟩
 rintro _ _ _ _ _ _ _ _ _ h _
 exact h.elim
end Go.Proofs.YtgdojjniakpadaaGreat

end
section
set_option linter.unusedVariables false
set_option linter.unusedSimpArgs false
namespace Go.Proofs.YtgdojjniakpadaaGreat
open Go Go.RowKit Go.Sx
theorem Qlf : En Tryz.prog 108 := fun _ _ => by kernel_rfl
theorem Qi2 : En Tryz.prog 107 := fun _ _ => by kernel_rfl
theorem Xio : ZV Tryz.prog 390 (.agg [.int .u64 0, .int .u64 0, .int .u64 0, .int .u64 0, .int .u64 0, .int .u64 0, .int .u64 0, .int .u64 0, .int .u64 0, .int .u64 0, .int .u64 0, .int .u64 0, .int .u64 0, .int .u64 0, .int .u64 0, .int .u64 0, .int .u64 0, .int .u64 0, .int .u64 0, .int .u64 0, .int .u64 0, .int .u64 0, .int .u64 0, .int .u64 0, .int .u64 0, .int .u64 0, .int .u64 0, .int .u64 0, .int .u64 0, .int .u64 0, .int .u64 0, .int .u64 0].toArray) := fun _ => by kernel_rfl
theorem Qzb : En Tryz.prog 311 := fun _ _ => by kernel_rfl
set_option maxHeartbeats 1000000 in
theorem Qwa (tag : Int) (h0 : 0 ≤ tag) (h1 : tag ≤ 255) (c n : BitVec 64) (w : World) :
    Calls Tryz.prog 108 [.int .u8 tag, wv c, wv n].toArray w fun e w' => ∃ v, e = .returned v ∧ (v = kv (Fc tag c n) ∧ Gr w w') := by
 refine Xe 15 Tryz.func108 rfl rfl rfl<|qs 1 rfl<|qe rfl (Xh Zh (by rfl)) ?_
 rintro _ w1 ⟨b1, rfl, hbw1, Bw1, Gw1⟩
 have z1 := Gw1.size
 have lt2 := Bw1.lt
 refine qd 9 rfl<|qv rfl (Qm rfl)<|qv rfl (Qd1 Nw rfl (by omega) (by omega))<|qv rfl (Qd4 rfl rfl (by omega))<|qv rfl (Qm rfl)<|qv rfl (Bg rfl rfl)<|qv rfl (Qm rfl)<|qv rfl (Zv Qdc rfl rfl)<|qe rfl (Kt Qe3 rfl (Qkq (Fc tag c n) _)) ?_
 rintro _ w2 ⟨rfl, Gw2⟩
 have z3 := Gw2.size
 have B4 := (Bx.gr Bw1 Gw2)
 refine qe rfl (He (Ql).siz rfl rfl (by rfl) (by rfl) (by rfl) B4 (by rfl)) ?_
 rintro _ w3 ⟨Bw3, Mw3⟩
 have z5 := Mw3.size
 refine Qa<|Qo ?_
 have X6 := (Gr.md (Gr.trans (Gr.trans (Gr.refl w) Gw1) Gw2) Mw3 (by omega))
 refine ⟨_, _, rfl, Tl rfl Ql rfl Bw3 (by rfl), ?_⟩
 exact ⟨rfl, X6⟩
set_option maxHeartbeats 1000000 in
theorem Tx (k : W2) (tag : Int) (h0 : 0 ≤ tag) (h1 : tag ≤ 255) (n : BitVec 64) (w : World) :
    Calls Tryz.prog 90 [kv k, .int .u8 tag, wv n].toArray w fun e w' => ∃ v, e = .returned v ∧ (v = kv (Jk k tag n) ∧ Gr w w') := by
 refine Xe 12 Tryz.func90 rfl rfl rfl<|qs 2 rfl<|qe rfl (Qy rfl (by rfl)) ?_
 rintro _ w1 ⟨b1, rfl, hbw1, Bw1, Gw1⟩
 have z1 := Gw1.size
 have lt2 := Bw1.lt
 refine qe rfl (Xh Zh (by rfl)) ?_
 rintro _ w2 ⟨b2, rfl, hbw2, Bw2, Gw2⟩
 have z3 := Gw2.size
 have lt4 := Bw2.lt
 refine Qa<|Qe<|Rz [b2] [(0, 3), (1, 3), (2, 3), (3, 0), (4, 0), (5, 2)] (by kernel_rfl) (by kernel_rfl) rfl (by kernel_rfl) ?_
 intro w3 Gw3 zw3
 have B5 := (Bx.gr (Bx.gr Bw1 Gw2) Gw3)
 refine Zs rfl rfl rfl (Kp.refl [b2] w3) (fun w hS => Qp Ql rfl (Bx.kp B5 hS (by simp <;> first | omega | (split <;> omega))) (by rfl))<|Zs rfl rfl rfl (Kp.refl [b2] w3) (fun w hS => Qm rfl)<|Zs rfl rfl rfl (Kp.refl [b2] w3) (fun w hS => Qm rfl)<|Fg rfl rfl rfl (Kt Qlf rfl (Qwa _ (by omega) (by omega) 0#64 _ _)) ?_
 rintro _ w4 ⟨rfl, Gw4⟩
 have z6 := Gw4.size
 refine ⟨Gw4, ?_⟩
 refine Fg rfl rfl rfl (Kt Qi2 rfl (Qm6 _ _ _)) ?_
 rintro _ w5 ⟨rfl, Gw5⟩
 have z7 := Gw5.size
 refine ⟨Gw5, ?_⟩
 have B8 := (Bx.gr (Bx.gr (Bx.gr Bw2 Gw3) Gw4) Gw5)
 refine Eg (b := b2) rfl rfl rfl rfl (He (Ql).siz rfl rfl (by rfl) (by rfl) (by rfl) B8 (by rfl)) (by first | exact Or.inl (by simp) | exact Or.inr (by omega)) ?_
 rintro _ w6 ⟨Bw6, Mw6⟩
 have z9 := Mw6.size
 refine ⟨Mw6, ?_⟩
 refine Qa<|Qo ?_
 have X10 := (Gr.md (Gr.trans (Gr.trans (Gr.trans (Gr.trans (Gr.trans (Gr.refl w) Gw1) Gw2) Gw3) Gw4) Gw5) Mw6 (by omega))
 refine ⟨_, _, rfl, Tl rfl Ql rfl Bw6 (by rfl), ?_⟩
 exact ⟨rfl, X10⟩
def Fu (k : W2) (n : Nat) : List Value := (List.range 32).map fun i => if i < n then wv (ks k i).2 else .int .u64 0
theorem Xc2 (k : W2) (n : Nat) : (Fu k n).length = 32 := by simp [Fu]
theorem Xc0 (k : W2) : Fu k 0 = List.replicate 32 (.int .u64 0) := by rfl
theorem Xc3 (k : W2) (n : Nat) (h : n < 32) : (Fu k n).set (0 + (n : Int).toNat * 1) (wv (ks k n).2) = Fu k (n + 1) := by
  have e : 0 + (n : Int).toNat * 1 = n := by omega
  rw [e]
  apply List.ext_getElem?
  intro i
  rw [List.getElem?_set]
  unfold Fu
  by_cases hi : i < 32
  · by_cases h2 : n = i
    · subst h2; simp [h]
    · have : (i < n + 1) = (i < n) := by apply propext; omega
      simp [h2, hi, this]
  · simp [hi]; omega
theorem Xc1 (k : W2) (n : Nat) (h : n < 32) : (Fu k 32)[0 + ((n : Int) + 1 - 1).toNat * 1]? = some (wv (ks k n).2) := by
  have e : 0 + ((n : Int) + 1 - 1).toNat * 1 = n := by omega
  rw [e]; simp [Fu, h]
theorem Qxl (k b : W2) (j : Nat) (h : j < 32) : Yf k b j = Iv (Yf k b (j + 1)) (ks k j).2 := by
  unfold Yf
  rw [show 32 - j = 32 - (j + 1) + 1 from by omega, List.range_succ, List.foldl_append, List.foldl_cons, List.foldl_nil, show 31 - (32 - (j + 1)) = j from by omega]
set_option maxHeartbeats 1000000 in
theorem Qi1 (k b : W2) (w : World) :
    Calls Tryz.prog 209 [kv k, kv b].toArray w fun e w' => ∃ v, e = .returned v ∧ (v = kv (Dc k b) ∧ Gr w w') := by
 refine Xe 30 Tryz.func209 rfl rfl rfl<|qs 3 rfl<|qe rfl (Qy rfl (by rfl)) ?_
 rintro _ w1 ⟨b1, rfl, hbw1, Bw1, Gw1⟩
 have z1 := Gw1.size
 have lt2 := Bw1.lt
 refine qe rfl (Qy rfl (by rfl)) ?_
 rintro _ w2 ⟨b2, rfl, hbw2, Bw2, Gw2⟩
 have z3 := Gw2.size
 have lt4 := Bw2.lt
 refine qe rfl (Xh Zh (by rfl)) ?_
 rintro _ w3 ⟨b3, rfl, hbw3, Bw3, Gw3⟩
 have z5 := Gw3.size
 have lt6 := Bw3.lt
 refine qd 1 rfl<|qe rfl (Xh Xio (by rfl)) ?_
 rintro _ w4 ⟨b4, rfl, hbw4, Bw4, Gw4⟩
 have z7 := Gw4.size
 have lt8 := Bw4.lt
 refine Qa<|Qe<|qs 2 rfl ?_
 have B9 := (Bx.gr (Bx.gr (Bx.gr Bw1 Gw2) Gw3) Gw4)
 refine qv rfl (Qp Ql rfl B9 (by rfl))<|qe rfl (Kt Qq8 rfl (Qs4 _ _)) ?_
 rintro _ w5 ⟨b5, rfl, hb5, Bk5, Gw5⟩
 have z10 := Gw5.size
 have lt11 := Bk5.lt
 refine Qa<|Xi ?_
 have X12 := (Gr.trans (Gr.trans (Gr.trans (Gr.trans (Gr.trans (Gr.refl w) Gw1) Gw2) Gw3) Gw4) Gw5)
 have B13 := (Bx.gr Bw4 Gw5)
 refine Oe (gf := 291) (xs := Sd k) (cap := [b5]) rfl Qqm (Qs5 k b5 _ Bk5) (Qs3 k) rfl (fun rk fp W => fp = [b4] ∧ Bx W b4 390 (Fu k rk)) (fun _ _ _ _ => False) [b4] (Quy _ _ _) (fun _ => Qgz) (by simp <;> omega) (⟨rfl, by rw [Xc0]; exact B13⟩) ?_ ?_ ?_
 · rintro l rk x fp w6 hl hx ⟨rfl, Bw6⟩ Kw6 hF hln Jt
   have z14 := Kw6.size
   obtain ⟨hi, rfl⟩ := Qs2 hx
   refine qs 1 rfl<|qv rfl (Zn rfl)<|Qa<|qg 1 rfl<|qv rfl (Zn rfl)<|Qh<|⟨rfl, (Gr.refl _), ?_⟩
   rintro w7 Mw7 ⟨_, Bw7⟩
   have z15 := Mw7.size
   refine Xi<|qg 4 rfl<|qv rfl (Qm rfl)<|qv rfl (Qm rfl)<|qv rfl (Nq Tryz.underlying390 (Xm).siz rfl rfl (by omega) (by omega))<|qe rfl (Es (Xm).siz rfl rfl rfl Bw7 (by rw [Xc2]; omega)) ?_
   rintro _ w8 ⟨Bw8, Mw8⟩
   have z16 := Mw8.size
   refine Qh<|Xy<|⟨(Kp.md (Kp.refl _ _) Mw8 (by first | exact Or.inl (by simp) | exact Or.inr (by omega))), _, fun c hc => .inl hc, ?_⟩
   exact ⟨rfl, by rw [← Xc3 k rk hi]; exact Bw8⟩
 · rintro Dw9 fp w9 hDw9 Dfw9 nw9 ⟨rfl, Bw9⟩ Kw9
   have z17 := Kw9.size
   have lt17 := Df.lt (w := w9) Dfw9
   rw [Qey] at Bw9
   refine Xy<|Xl<|qs 4 rfl ?_
   have B18 := (Bx.kp (Bx.gr (Bx.gr (Bx.gr Bw2 Gw3) Gw4) Gw5) Kw9 (by simp <;> first | omega | (split <;> omega)))
   refine qv rfl (Qp Ql rfl B18 (by rfl))<|qe rfl (Kt Qe2 rfl (Qow _ _)) ?_
   rintro _ w10 ⟨rfl, Gw10⟩
   have z19 := Gw10.size
   refine qe rfl (Xh Nt (by rfl)) ?_
   rintro _ w11 ⟨b11, rfl, hbw11, Bw11, Gw11⟩
   have z20 := Gw11.size
   have lt21 := Bw11.lt
   refine qe rfl (He (Wr).siz rfl rfl (by rfl) (by rfl) (by rfl) Bw11 (by rfl)) ?_
   rintro _ w12 ⟨Bw12, Mw12⟩
   have z22 := Mw12.size
   refine Qa<|Qe<|qs 1 rfl<|qv rfl (Zn rfl)<|Qa<|Xi ?_
   have X23 := (Gr.md (Gr.trans (Gr.trans (Gr.kp X12 Kw9 (by simp <;> first | omega | (split <;> omega))) Gw10) Gw11) Mw12 (by omega))
   refine Zq (α := Nat) [9, 19, 20, 21, 22, 23, 24, 25, 26, 27] (fun j => [(9, .int .i64 ((j : Int) - 1))]) (fun j wr => (j ≤ 32) ∧ Bx wr b11 278 ([wv (Yf k b j).1, wv (Yf k b j).2]) ∧ Kp [b11] w12 wr) (fun j => j) (32) ?_ ?_ ?_
   · exact Qf
   · exact ⟨Nat.le_refl _, Bw12, Kp.refl _ _⟩
   rintro j w13 ⟨hj, Bw13_b11, Kw13⟩
   have z24 := Kw13.size
   refine Qe<|qs 2 rfl<|qv rfl (Qm rfl)<|qv rfl (Kl rfl rfl)<|Qa<|Xj rfl (fun h1 => ?_) (fun h1 => ?_)
   · -- h1 True
     replace h1 := of_decide_eq_true h1
     obtain ⟨j, rfl⟩ : ∃ i, j = i + 1 := ⟨j - 1, by omega⟩
     refine qu<|Qe<|Xi<|Rz [b11] [(0, 1), (1, 3), (2, 3), (3, 3), (4, 0), (5, 2)] (by kernel_rfl) (by kernel_rfl) rfl (by kernel_rfl) ?_
     intro w14 Gw14 zw14
     have B25 := (Bx.gr Bw13_b11 Gw14)
     refine Qla rfl rfl rfl (Gr.refl w14) (fun w hS => Qp Wr rfl (Bx.gr B25 hS) (by rfl))<|Zs rfl rfl rfl (Kp.refl [b11] w14) (fun w hS => Qm rfl)<|Zs rfl rfl rfl (Kp.refl [b11] w14) (fun w hS => Nq Tryz.underlying390 (Xm).siz rfl rfl (by omega) (by omega)) ?_
     have B26 := (Bx.gr (Bx.kp (Bx.md (Bx.gr (Bx.gr Bw9 Gw10) Gw11) Mw12 (by omega)) Kw13 (by simp <;> first | omega | (split <;> omega))) Gw14)
     refine Zs rfl rfl rfl (Kp.refl [b11] w14) (fun w hS => Qd Xm rfl (Bx.kp B26 hS (by simp <;> first | omega | (split <;> omega))) (by exact Xc1 k j (by omega)))<|Fg rfl rfl rfl (Kt Qzb rfl (Qw1 _ _ _)) ?_
     rintro _ w15 ⟨rfl, Gw15⟩
     have z27 := Gw15.size
     refine ⟨Gw15, ?_⟩
     have B28 := (Bx.gr B25 Gw15)
     refine Eg (b := b11) rfl rfl rfl rfl (He (Wr).siz rfl rfl (by rfl) (by rfl) (by rfl) B28 (by rfl)) (by first | exact Or.inl (by simp) | exact Or.inr (by omega)) ?_
     rintro _ w16 ⟨Bw16, Mw16⟩
     have z29 := Mw16.size
     refine ⟨Mw16, ?_⟩
     refine Qh<|Xy<|Xl<|qg 3 rfl<|qv rfl (Qm rfl)<|qv rfl (Qh8 rfl rfl (by omega) (by omega))<|qv rfl (Zn rfl)<|Qh ?_
     have K_30 := (Kp.md (Kp.gr (Kp.gr Kw13 Gw14) Gw15) Mw16 (by simp <;> first | omega | (split <;> omega)))
     refine ⟨rfl, j, ?_, ⟨?_, ?_, K_30⟩, ?_⟩
     · repeat' first | exact trivial | refine ⟨by first | rfl | exact congrArg (fun x => some (Value.int .i64 x)) (by omega), ?_⟩
     · omega
     · rw [Qxl k b j (by omega)]; exact Bw16
     first | omega | (dsimp only; omega)
   replace h1 := of_decide_eq_false h1
   obtain rfl : j = 0 := by omega
   refine Zl<|Xk<|Xk<|Zk<|Xl<|qs 3 rfl<|qv rfl (Qp Wr rfl Bw13_b11 (by rfl))<|qe rfl (Kt Qe3 rfl (Qkq _ _)) ?_
   rintro _ w17 ⟨rfl, Gw17⟩
   have z31 := Gw17.size
   have B32 := (Bx.gr (Bx.kp (Bx.md (Bx.gr (Bx.gr (Bx.kp (Bx.gr (Bx.gr Bw3 Gw4) Gw5) Kw9 (by simp <;> first | omega | (split <;> omega))) Gw10) Gw11) Mw12 (by omega)) Kw13 (by simp <;> first | omega | (split <;> omega))) Gw17)
   refine qe rfl (He (Ql).siz rfl rfl (by rfl) (by rfl) (by rfl) B32 (by rfl)) ?_
   rintro _ w18 ⟨Bw18, Mw18⟩
   have z33 := Mw18.size
   refine Qa<|Qo ?_
   have DL34 := (Df.md (Df.gr (Df.kp (Df.md (Df.gr (Df.gr Dfw9 Gw10) Gw11) Mw12 (by omega)) Kw13 (by simp <;> first | omega | (split <;> omega))) Gw17) Mw18 (by omega))
   have L34 := Md.put (w := w18) Dw9 (.deferred none)
   have zL34 := L34.size
   have B35 := (Bx.md Bw18 L34 (by omega))
   have X36 : Gr w (w18.putObj Dw9 (.deferred none)) := (Gr.md (Gr.md (Gr.trans (Gr.kp X23 Kw13 (by simp <;> first | omega | (split <;> omega))) Gw17) Mw18 (by omega)) L34 (by omega))
   refine ⟨_, _, ⟨Dw9, rfl, DL34, rfl⟩, Tl rfl Ql rfl B35 (by rfl), ?_⟩
   exact ⟨rfl, X36⟩
 rintro _ _ _ _ _ _ _ _ _ h _
 exact h.elim
end Go.Proofs.YtgdojjniakpadaaGreat

end
