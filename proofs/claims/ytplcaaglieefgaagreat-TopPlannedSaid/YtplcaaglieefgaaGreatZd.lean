/- Several texts in one: CaM CrM CbM ClM CcM HaM PaM PkM PbM PcM HbM HcM EkM EtM EsM AlM VaM DeM HdM RaM HrM RbM HsM Wf GaM HpM GhM GcM HwM TpM OpnTp. -/
import Derived.Test.YtplcaaglieefgaaGreatZc
import Derived.Test.YtplcaaglieefgaaGreatRows
import Derived.KernelRfl
set_option linter.unusedVariables false
set_option linter.unusedSimpArgs false
set_option maxRecDepth 100000
section
namespace Go.Sx
open Go Go.RowKit
structure dR where
 P:BitVec 64
 Q:BitVec 64
 G:BitVec 64
deriving DecidableEq,Inhabited
def dR.cs (x:dR)  : List Value:=[wv x.P,wv x.Q,wv x.G]
theorem dR.cs_ones (x:dR)   : bI (dR.cs x )=true:=by simp only[dR.cs,List.cons_append,List.nil_append,kb,bI,fC,fB,fM,cond_true]
theorem dR.cs_inj {x y:dR}(h:dR.cs x=dR.cs y):x=y:=by
 have h0:x.P=y.P:=xD (congrArg (fun l=>l[0]?) h);have h1:x.Q=y.Q:=xD (congrArg (fun l=>l[1]?) h);have h2:x.G=y.G:=xD (congrArg (fun l=>l[2]?) h);cases x;cases y;simp only at *;subst h0;subst h1;subst h2;rfl
structure aF where
 Kind:BitVec 8
 Depth:Int
 Degree:Int
 Group:dR
deriving DecidableEq,Inhabited
def aF.cs (x:aF)  : List Value:=[bv x.Kind,.int .i64 x.Depth,.int .i64 x.Degree,wv x.Group.P,wv x.Group.Q,wv x.Group.G]
theorem aF.cs_ones (x:aF)   : bI (aF.cs x )=true:=by simp only[aF.cs,List.cons_append,List.nil_append,kb,bI,fC,fB,fM,cond_true]
theorem aF.cs_inj {x y:aF}(h:aF.cs x=aF.cs y):x=y:=by
 have h0:x.Kind=y.Kind:=sW (congrArg (fun l=>l[0]?) h);have h1:x.Depth=y.Depth:=dJ (congrArg (fun l=>l[1]?) h);have h2:x.Degree=y.Degree:=dJ (congrArg (fun l=>l[2]?) h);have h3:x.Group=y.Group:=dR.cs_inj (congrArg (fun l=>(l.drop 3).take 3) h);cases x;cases y;simp only at *;subst h0;subst h1;subst h2;subst h3;rfl
structure bZ where
 Node:Int
 Minus:Int
deriving DecidableEq,Inhabited
def bZ.cs (x:bZ)  : List Value:=[.int .i64 x.Node,.int .i64 x.Minus]
theorem bZ.cs_ones (x:bZ)   : bI (bZ.cs x )=true:=by simp only[bZ.cs,List.cons_append,List.nil_append,kb,bI,fC,fB,fM,cond_true]
theorem bZ.cs_inj {x y:bZ}(h:bZ.cs x=bZ.cs y):x=y:=by
 have h0:x.Node=y.Node:=dJ (congrArg (fun l=>l[0]?) h);have h1:x.Minus=y.Minus:=dJ (congrArg (fun l=>l[1]?) h);cases x;cases y;simp only at *;subst h0;subst h1;rfl
structure dP where
 Node:Int
 Minus:Int
 Key:W2
deriving DecidableEq,Inhabited
def dP.cs (x:dP)  : List Value:=[.int .i64 x.Node,.int .i64 x.Minus]++(kb x.Key)
theorem dP.cs_ones (x:dP)   : bI (dP.cs x )=true:=by simp only[dP.cs,List.cons_append,List.nil_append,kb,bI,fC,fB,fM,cond_true]
theorem dP.cs_inj {x y:dP}(h:dP.cs x=dP.cs y):x=y:=by
 have h0:x.Node=y.Node:=dJ (congrArg (fun l=>l[0]?) h);have h1:x.Minus=y.Minus:=dJ (congrArg (fun l=>l[1]?) h);have h2:x.Key=y.Key:=qQ (congrArg (fun l=>(l.drop 2).take 16) h);cases x;cases y;simp only at *;subst h0;subst h1;subst h2;rfl
structure bX where
 X:BitVec 64
 Y:BitVec 64
deriving DecidableEq,Inhabited
def bX.cs (x:bX)  : List Value:=[wv x.X,wv x.Y]
theorem bX.cs_ones (x:bX)   : bI (bX.cs x )=true:=by simp only[bX.cs,List.cons_append,List.nil_append,kb,bI,fC,fB,fM,cond_true]
theorem bX.cs_inj {x y:bX}(h:bX.cs x=bX.cs y):x=y:=by
 have h0:x.X=y.X:=xD (congrArg (fun l=>l[0]?) h);have h1:x.Y=y.Y:=xD (congrArg (fun l=>l[1]?) h);cases x;cases y;simp only at *;subst h0;subst h1;rfl
structure bR where
 Receiver:Int
 Labels:List dP
 Share:bX
deriving DecidableEq,Inhabited
def bR.cs (x:bR)(v0:Value):List Value:=[.int .i64 x.Receiver,v0,wv x.Share.X,wv x.Share.Y]
theorem bR.cs_ones (x:bR)(v0:Value)(h0:oneB v0=true):bI (bR.cs x v0)=true:=by simp only[bR.cs,List.cons_append,List.nil_append,kb,bI,fC,fB,fM,cond_true,h0]
structure cG where
 Subset:bZ
 Box:W2
deriving DecidableEq,Inhabited
def cG.cs (x:cG)  : List Value:=[.int .i64 x.Subset.Node,.int .i64 x.Subset.Minus]++(kb x.Box)
theorem cG.cs_ones (x:cG)   : bI (cG.cs x )=true:=by simp only[cG.cs,List.cons_append,List.nil_append,kb,bI,fC,fB,fM,cond_true]
theorem cG.cs_inj {x y:cG}(h:cG.cs x=cG.cs y):x=y:=by
 have h0:x.Subset=y.Subset:=bZ.cs_inj (congrArg (fun l=>(l.drop 0).take 2) h);have h1:x.Box=y.Box:=qQ (congrArg (fun l=>(l.drop 2).take 16) h);cases x;cases y;simp only at *;subst h0;subst h1;rfl
structure bQ where
 Items:List cG
 Base:BitVec 64
 Points:List bX
 Box:W2
 Check:W2
deriving DecidableEq,Inhabited
def bQ.cs (x:bQ)(v0:Value)(v1:Value):List Value:=[v0,wv x.Base,v1]++(kb x.Box++(kb x.Check))
theorem bQ.cs_ones (x:bQ)(v0:Value)(v1:Value)(h0:oneB v0=true)(h1:oneB v1=true):bI (bQ.cs x v0 v1)=true:=by simp only[bQ.cs,List.cons_append,List.nil_append,kb,bI,fC,fB,fM,cond_true,h0,h1]
structure bB where
 kind:BitVec 8
 depth:Int
 stride:Int
deriving DecidableEq,Inhabited
def bB.cs (x:bB)  : List Value:=[bv x.kind,.int .i64 x.depth,.int .i64 x.stride]
theorem bB.cs_ones (x:bB)   : bI (bB.cs x )=true:=by simp only[bB.cs,List.cons_append,List.nil_append,kb,bI,fC,fB,fM,cond_true]
theorem bB.cs_inj {x y:bB}(h:bB.cs x=bB.cs y):x=y:=by
 have h0:x.kind=y.kind:=sW (congrArg (fun l=>l[0]?) h);have h1:x.depth=y.depth:=dJ (congrArg (fun l=>l[1]?) h);have h2:x.stride=y.stride:=dJ (congrArg (fun l=>l[2]?) h);cases x;cases y;simp only at *;subst h0;subst h1;subst h2;rfl
def xZ (p0:aF)(rec2:(Int)→Option (bB × Bool))(a3:Int):Option (bB × Bool):=(if aX (a3*a3)<p0.Depth then(rec2 (aX (a3+1))) else(some ((bB.mk p0.Kind p0.Depth a3),true)))
def uP (p0:aF)(a1:Bool):Option (bB × Bool):=(bif a1 then(some ((bB.mk 0#8 0 0),false)) else(aS (xZ p0) aI 1))
def V5 (p0:aF):Option (bB × Bool):=(if p0.Kind<1#8 then(uP p0 true) else(if 3#8<p0.Kind then(uP p0 true) else(if p0.Depth<0 then(uP p0 true) else(if(6:Int)<p0.Depth then(uP p0 true) else(uP p0 (decide (p0≠(aF.mk p0.Kind p0.Depth 0 (dR.mk 0#64 0#64 0#64)))))))))
def qR (p0:aF):Option (Int):=Option.bind (V5 p0) fun x1=>((bif (!x1.2) then(some 30) else(some 0)))
end Go.Sx

end
section
namespace Go.Sx
open Go Go.RowKit
def Di (p0:aF):Option (Bool):=(if 1#8≤p0.Kind then(if p0.Kind≤3#8 then(if(0:Int)≤p0.Depth then(if p0.Depth≤6 then(if p0.Degree=0 then(some (decide (p0.Group=(dR.mk 0#64 0#64 0#64)))) else(some false)) else(some false)) else(some false)) else(some false)) else(some false))
def Qfk (p0:aF):Option (Int):=Option.bind (Di p0) fun x1=>((bif (!x1) then(some 30) else(some 0)))
end Go.Sx

end
section
namespace Go.Sx
open Go Go.RowKit
def xH (p0:bB):Option (Int):=Option.bind (eK p0.depth) fun nn1=>((some (cW 1 nn1)))
def V6 (p0:bB)(p1:Int):Option (Bool):=(if(1:Int)≤p1 then Option.bind (xH p0) fun x1=>((some (decide (p1<aX (2*x1))))) else(some false))
def pG (p0:Int):Option (Int):=(some (aX ((lg (un (wd p0)))-1)))
def wI (p0:Int)(p1:Int)(a1:Bool):Option (Bool):=(bif a1 then(some false) else Option.bind (pG p0) fun x2=>(Option.bind (pG p1) fun x3=>(Option.bind (eK (aX (x2-x3))) fun nn4=>((some (decide (tN p0 nn4=p1)))))))
def qB (p0:Int)(p1:Int):Option (Bool):=(if p0<1 then(wI p0 p1 true) else(if p1<1 then(wI p0 p1 true) else Option.bind (pG p0) fun x5=>(Option.bind (pG p1) fun x6=>((wI p0 p1 (decide (x5<x6)))))))
def qC (p0:bB)(p1:Int):Option (Bool):=Option.bind (pG p1) fun x1=>(Option.bind (nY x1 p0.stride) fun x2=>((some (decide (x2=0)))))
def xQ (p0:Int)(p1:Int):Option (Int × Int):=(some (p0,p1))
def uH (p0:Int)(p1:Int):Option (Int):=Option.bind (pG p1) fun x1=>(Option.bind (pG p0) fun x2=>(Option.bind (eK (aX ((aX (x1-x2))-1))) fun nn3=>((some (tN p1 nn3)))))
def xX (p2:Int)(rec1:(Int)→Option (List Int))(a2:Int):Option (List Int):=(if a2≠p2 then Option.bind (uH a2 p2) fun x3=>((yl x3 ((rec1 x3)))) else(some []))
def V4 (p1:Int)(p2:Int):Option (List Int):=(aS (xX p2) aI p1)
def A3  (s:Int):Option (Int):=match s with|a3=>(some 0)
def Lz  (s:Int):Option (Int):=match s with|a3=>(some a3)
def V2 (p1_0:bB)(e4:Int)(nx1:(Int)→Option (Int))(s:Int):Option (Int):=match s with|a3=>Option.bind (qC p1_0 e4) fun x5=>((bif x5 then(Lz e4) else(nx1 a3)))
def Kq (p0_0:Int)(p0_1:Int)(p1_0:bB):Option (Int):=Option.bind (V4 p0_0 p0_1) fun l1=>((eS (V2 p1_0) A3 l1 0))
def sT (p0:bB)(p1:Int)(p2:Int):Option (Int):=Option.bind (eK (un 1#64)) fun nn1=>(Option.bind (xQ p1 (tN p2 nn1)) fun x2=>(Option.bind (Kq x2.1 x2.2 p0) fun x3=>((some x3))))
def xP (p0:bB)(p1:bZ)(a3:Bool):Option (Bool):=(bif a3 then(some false) else(if p0.kind=2#8 then(some true) else Option.bind (qC p0 p1.Node) fun x4=>((bif x4 then(some true) else Option.bind (sT p0 p1.Node p1.Minus) fun x5=>((some (decide (x5=0))))))))
def Y0 (p0:bB)(p1:bZ)(a2:Bool):Option (Bool):=(bif a2 then(if p1.Minus=0 then(if p0.kind=1#8 then(some true) else(some (decide (p1.Node=1)))) else(some false)) else Option.bind (V6 p0 p1.Minus) fun x6=>((bif (!x6) then(xP p0 p1 true) else(if p1.Minus=p1.Node then(xP p0 p1 true) else Option.bind (qB p1.Minus p1.Node) fun x7=>((xP p0 p1 (!x7)))))))
def pL (p0:bB)(p1:bZ):Option (Bool):=Option.bind (V6 p0 p1.Node) fun x1=>((bif (!x1) then(some false) else(if p0.kind=1#8 then(Y0 p0 p1 true) else(Y0 p0 p1 (decide (p1.Minus=0))))))
def uV (p1:List bZ)(x1:bB × Bool)(rec1:(Int)→Option (bB × Int))(a3:Int):Option (bB × Int):=(if a3<(p1.length:Int) then Option.bind (bG p1 a3) fun y4=>(Option.bind (pL x1.1 y4) fun x5=>((bif (!x5) then(some ((bB.mk 0#8 0 0),31)) else(rec1 (aX (a3+1)))))) else(some (x1.1,0)))
def lM (p0:aF)(p1:List bZ):Option (bB × Int):=Option.bind (V5 p0) fun x1=>((bif (!x1.2) then(some ((bB.mk 0#8 0 0),30)) else(aS (uV p1 x1) aI 0)))
def uY (p0:W2)(p1:Int):Option (W2):=(some (cX p0 (aC 30#8) (wd p1)))
def A1 (a4:W2)(nx1:(W2)→Option (W2))(a6:BitVec 8):Option (W2):=(nx1 (cX a4 (aC a6) 0#64))
def A0  (s:W2):Option (W2):=match s with|a4=>(some a4)
def V1  (e5:Int)(nx1:(W2)→Option (W2))(s:W2):Option (W2):=match s with|a4=>Option.bind (nY e5 2) fun x7=>((if x7=1 then(A1 a4 nx1 32#8) else(A1 a4 nx1 31#8)))
def uK (p0:W2)(p1:Int)(p2:Int):Option (W2):=Option.bind (xQ p1 p2) fun x1=>(Option.bind (V4 x1.1 x1.2) fun l2=>((eS V1 A0 l2 p0)))
def V3 (p0:W2):Option (W2):=(some (cX p0 (aC 33#8) 0#64))
def uD (p0:bB)(p1:W2)(p2:bZ):Option (W2):=(if p0.kind=1#8 then Option.bind (uY p1 p2.Node) fun x1=>((some x1)) else(if p2.Minus=0 then(some (cX p1 (aC 34#8) 0#64)) else Option.bind (uY p1 p2.Node) fun x2=>(Option.bind (uK x2 p2.Node p2.Minus) fun x3=>(Option.bind (V3 x3) fun x4=>((some x4))))))
def J9 (p0:W2)(p2:List bZ)(p3:W2)(x2:bB × Int)(rec1:(Int × List cG)→Option (bQ × Int))(s1:Int × List cG):Option (bQ × Int):=match s1 with|(a6,a7)=>(if a6<(p2.length:Int) then Option.bind (bG p2 a6) fun y9=>(Option.bind (uD x2.1 p0 y9) fun x10=>(Option.bind (gG 32 a7 [(cG.mk y9 (jP x10 p3))]) fun l11=>((rec1 (aX (a6+1),l11))))) else(some ((bQ.mk a7 0#64 [] k0 (cX p3 (aC 53#8) 0#64)),0)))
def E6 (p0:W2)(p1:aF)(p2:List bZ)(p3:W2):Option (bQ × Int):=Option.bind (qR p1) fun x1=>((if x1≠0 then(some ((bQ.mk [] 0#64 [] k0 k0),x1)) else(if(64:Int)<(p2.length:Int) then(some ((bQ.mk [] 0#64 [] k0 k0),4)) else Option.bind (lM p1 p2) fun x2=>((if x2.2≠0 then(some ((bQ.mk [] 0#64 [] k0 k0),x2.2)) else(aS (J9 p0 p2 p3 x2) aI (0,[])))))))
def Qu3 (p0:Int)(rec1:(Int × Int)→Option (Int))(s1:Int × Int):Option (Int):=match s1 with|(a3,a4)=>(if a4<p0 then(rec1 (aX (2*a3),aX (a4+1))) else(some a3))
def vL (p0:Int):Option (Int):=(aS (Qu3 p0) aI (1,0))
def Dd (p0:Int)(p1:Int):Option (Bool):=(if(1:Int)≤p1 then Option.bind (vL p0) fun x1=>((some (decide (p1<aX (2*x1))))) else(some false))
def Ut (p1:Int)(rec1:(Int)→Option (Bool))(a2:Int):Option (Bool):=(if p1<a2 then Option.bind (tP a2 2) fun x3=>((rec1 x3)) else(some (decide (a2=p1))))
def Xl (p0:Int)(p1:Int):Option (Bool):=(aS (Ut p1) aI p0)
def Ux  (rec1:(Int × Int)→Option (Int))(s1:Int × Int):Option (Int):=match s1 with|(a3,a4)=>(if(1:Int)<a3 then Option.bind (tP a3 2) fun x5=>((rec1 (x5,aX (a4+1)))) else(some a4))
def Uw (p0:Int):Option (Int):=(aS (Ux) aI (p0,0))
def Qu4 (p0:Int)(rec1:(Int)→Option (Int))(a2:Int):Option (Int):=(if aX (a2*a2)<p0 then(rec1 (aX (a2+1))) else(some a2))
def Uz (p0:Int):Option (Int):=(aS (Qu4 p0) aI 1)
def Xn (p0:Int)(p1:Int):Option (Bool):=Option.bind (Uw p1) fun x1=>(Option.bind (Uz p0) fun x2=>(Option.bind (nY x1 x2) fun x3=>((some (decide (x3=0))))))
def Dh (p0:Int)(rec1:(Int × List Int)→Option (List Int))(s1:Int × List Int):Option (List Int):=match s1 with|(a4,a5)=>(if a4≠p0 then Option.bind (gG 8 [a4] a5) fun l7=>(Option.bind (tP a4 2) fun x8=>((rec1 (x8,l7)))) else Option.bind (gG 8 [p0] a5) fun l9=>((some l9)))
def Dg (p0:Int)(p1:Int):Option (List Int):=(aS (Dh p0) aI (p1,[]))
def Dk (p0:Int)(x1:List Int)(rec1:(Int)→Option (Int))(a3:Int):Option (Int):=(if a3<aX ((x1.length:Int)-1) then Option.bind (bG x1 a3) fun y4=>(Option.bind (Xn p0 y4) fun x5=>((bif x5 then Option.bind (bG x1 a3) fun y6=>((some y6)) else(rec1 (aX (a3+1)))))) else(some 0))
def Dj (p0:Int)(p1:Int)(p2:Int):Option (Int):=Option.bind (Dg p1 p2) fun x1=>((aS (Dk p0 x1) aI 1))
def zY (p0:aF)(p1:bZ)(a2:Bool):Option (Bool):=(bif a2 then(some false) else(if p0.Kind=2#8 then(some true) else Option.bind (Xn p0.Depth p1.Node) fun x3=>((bif x3 then(some true) else Option.bind (Dj p0.Depth p1.Node p1.Minus) fun x4=>((some (decide (x4=0))))))))
def qY (p0:aF)(p1:bZ):Option (Bool):=Option.bind (Dd p0.Depth p1.Node) fun x1=>((bif (!x1) then(some false) else(if p0.Kind=1#8 then(some (decide (p1.Minus=0))) else(if p1.Minus=0 then(some (decide (p1.Node=1))) else Option.bind (Dd p0.Depth p1.Minus) fun x5=>((bif (!x5) then(zY p0 p1 true) else(if p1.Minus=p1.Node then(zY p0 p1 true) else Option.bind (Xl p1.Minus p1.Node) fun x6=>((zY p0 p1 (!x6))))))))))
def Ec (p0:W2)(p1:Int):Option (W2):=Option.bind (nY p1 2) fun x1=>((if x1=0 then(some (cX p0 (aC 31#8) 0#64)) else(some (cX p0 (aC 32#8) 0#64))))
def Dl (x1:List Int)(rec1:(Int × W2)→Option (W2))(s1:Int × W2):Option (W2):=match s1 with|(a4,a5)=>(if a4<(x1.length:Int) then Option.bind (bG x1 a4) fun y6=>(Option.bind (Ec a5 y6) fun x7=>((rec1 (aX (a4+1),x7)))) else(some a5))
def Ea (p0:W2)(p1:Int)(p2:Int):Option (W2):=Option.bind (Dg p1 p2) fun x1=>((aS (Dl x1) aI (1,p0)))
def Xo (p0:W2)(p1:Int)(p2:Int):Option (W2):=Option.bind (Ea (cX p0 (aC 30#8) (wd p1)) p1 p2) fun x1=>((some x1))
def Uu (p0:W2)(p1:aF)(p2:bZ):Option (W2):=(if p1.Kind=1#8 then(some (cX p0 (aC 30#8) (wd p2.Node))) else(if p2.Minus=0 then(some (cX p0 (aC 34#8) 0#64)) else Option.bind (Xo p0 p2.Node p2.Minus) fun x1=>((some (cX x1 (aC 33#8) 0#64)))))
def Kl (p0:cG)(p1:bB):Option (Bool):=Option.bind (pL p1 p0.Subset) fun x1=>((some (!x1)))
def zN (p0:List cG)(p1_0:bB)(rec1:(Int)→Option (Int))(a2:Int):Option (Int):=(if a2<(p0.length:Int) then Option.bind (bG p0 a2) fun y3=>(Option.bind (Kl y3 p1_0) fun x4=>((bif x4 then(some a2) else(rec1 (aX (a2+1)))))) else(some (-1)))
def Ga (p0:List cG)(p1_0:bB):Option (Int):=(aS (zN p0 p1_0) aI 0)
def Zn (p0:List cG)(p1_0:bB):Option (Bool):=Option.bind (Ga p0 p1_0) fun x1=>((some (decide ((0:Int)≤x1))))
def xK (p1:dP)(p2:bZ)(a1:Bool):Option (Bool):=(bif a1 then(some (decide (p1.Minus=p2.Minus))) else Option.bind (qB p1.Minus p1.Node) fun x2=>((bif x2 then Option.bind (qB p2.Minus p1.Minus) fun x3=>((some x3)) else(some false))))
def A7 (p0:bB)(p1:dP)(p2:bZ):Option (Bool):=(if p1.Node≠p2.Node then(some false) else(if p0.kind=1#8 then(xK p1 p2 true) else(xK p1 p2 (decide (p2.Minus=0)))))
def A5 (p2:bZ)(y3:dP)(a5:Bool):Option (W2 × Bool):=(bif a5 then(some (y3.Key,true)) else Option.bind (uK y3.Key y3.Minus p2.Minus) fun x6=>(Option.bind (V3 x6) fun x7=>((some (x7,true)))))
def xJ (p0:bB)(p1:bR)(p2:bZ)(rec1:(Int)→Option (W2 × Bool))(a2:Int):Option (W2 × Bool):=(if a2<(p1.Labels.length:Int) then Option.bind (bG p1.Labels a2) fun y3=>(Option.bind (A7 p0 y3 p2) fun x4=>((bif (!x4) then(rec1 (aX (a2+1))) else(if p0.kind=1#8 then(A5 p2 y3 true) else(A5 p2 y3 (decide (p2.Minus=0))))))) else(some (k0,false)))
def A4 (p0:bB)(p1:bR)(p2:bZ):Option (W2 × Bool):=(aS (xJ p0 p1 p2) aI 0)
def wA (p1:bR)(p2:bQ)(x1:bB × Int)(rec2:(Int)→Option (W2 × Int))(a4:Int):Option (W2 × Int):=(if a4<(p2.Items.length:Int) then Option.bind (bG p2.Items a4) fun y5=>(Option.bind (A4 x1.1 p1 y5.Subset) fun x6=>((bif x6.2 then(if cX (oH x6.1 y5.Box) (aC 53#8) 0#64=p2.Check then(some (oH x6.1 y5.Box,0)) else(rec2 (aX (a4+1)))) else(rec2 (aX (a4+1)))))) else(some (k0,6)))
def uJ (p1:bR)(p2:bQ)(x1:bB × Int)(a2:Bool):Option (W2 × Int):=(bif a2 then(some (k0,8)) else(aS (wA p1 p2 x1) aI 0))
def J8 (p0:aF)(p1:bR)(p2:bQ):Option (W2 × Int):=Option.bind (lM p0 ([]:List bZ)) fun x1=>((if x1.2≠0 then(some (k0,x1.2)) else(if(64:Int)<(p2.Items.length:Int) then(uJ p1 p2 x1 true) else(if p2.Base≠0#64 then(uJ p1 p2 x1 true) else(if(0:Int)<(p2.Points.length:Int) then(uJ p1 p2 x1 true) else(if p2.Box≠k0 then(uJ p1 p2 x1 true) else Option.bind (Zn p2.Items x1.1) fun x7=>((uJ p1 p2 x1 x7))))))))
def Xp (p1:Int)(p2:Int)(p3:bZ)(a1:Bool):Option (Bool):=(bif a1 then(if p1=p3.Node then(some (decide (p2=p3.Minus))) else(some false)) else(if p1=p3.Node then(if(1:Int)≤p2 then Option.bind (Xl p2 p1) fun x2=>((bif x2 then Option.bind (Xl p3.Minus p2) fun x3=>((some x3)) else(some false))) else(some false)) else(some false)))
def Qfo (p0:aF)(p1:Int)(p2:Int)(p3:bZ):Option (Bool):=(if p0.Kind=1#8 then(Xp p1 p2 p3 true) else(Xp p1 p2 p3 (decide (p3.Minus=0))))
def Dc (p0:List (BitVec 8))(rec1:(BitVec 64 × Int)→Option (BitVec 64))(s1:BitVec 64 × Int):Option (BitVec 64):=match s1 with|(a3,a4)=>(if a4<(p0.length:Int) then Option.bind (bG p0 a4) fun y5=>((rec1 ((256#64*a3)+(y5.setWidth 64),aX (a4+1)))) else(some a3))
def Qfj (p0:List (BitVec 8)):Option (BitVec 64):=(aS (Dc p0) aI (0#64,0))
end Go.Sx

end
section
namespace Go.Sx
open Go Go.RowKit
def A6 (p0:bB)(p1:Int):Option (bB × Int):=(some (p0,p1))
def xV (p0:bB)(p1:Int):Option (Int):=Option.bind (xH p0) fun x1=>((some (aX (x1+p1))))
def uW (p0:Int):Option (Int):=(some (Z5 .xor p0 1))
def Kt (x1:Int)(a2:Int)(rec1:(Int)→Option (List (Int × Int)))(s:Unit):Option (List (Int × Int)):=Option.bind (uH a2 x1) fun x10=>((rec1 x10))
def Kw (p1:bB)(a2:Int)(e7:Int)(nx2:Unit→Option (List (Int × Int)))(s:Unit):Option (List (Int × Int)):=Option.bind (uW e7) fun x8=>(Option.bind (pL p1 (bZ.mk a2 x8)) fun x9=>((bif x9 then(yl (a2,x8) ((nx2 ()))) else(nx2 ()))))
def Ku (p1:bB)(x1:Int)(rec1:(Int)→Option (List (Int × Int)))(a2:Int):Option (List (Int × Int)):=(if a2≠x1 then(if p1.kind=1#8 then Option.bind (uH a2 x1) fun x3=>((yl (x3,0) (Option.bind (uH a2 x1) fun x4=>((rec1 x4))))) else Option.bind (xQ a2 x1) fun x5=>(Option.bind (V4 x5.1 x5.2) fun l6=>((eS (Kw p1 a2) (Kt x1 a2 rec1) l6 ())))) else(some []))
def V7 (p1:bB)(p2:Int):Option (List (Int × Int)):=Option.bind (xV p1 p2) fun x1=>((yl (1,0) ((aS (Ku p1 x1) aI 1))))
def Km  (s:Int):Option (Int × Int):=match s with|a5=>(some (a5,0))
def Ko  (ee:Int × Int)(nx1:(Int)→Option (Int × Int))(s:Int):Option (Int × Int):=match ee with|(e6,e7)=>match s with|a5=>(nx1 (aX (a5+1)))
def E9 (p0:aF):Option (Int × Int):=Option.bind (lM p0 ([]:List bZ)) fun x1=>((if x1.2≠0 then(some (0,x1.2)) else Option.bind (A6 x1.1 0) fun x2=>(Option.bind (V7 x2.1 x2.2) fun l3=>((eS Ko Km l3 0)))))
def xW (p0:bB)(p1:Int):Option (Bool):=(if(0:Int)≤p1 then Option.bind (xH p0) fun x1=>((some (decide (p1<x1)))) else(some false))
def E8 (a7:List dP)(nx1:(List dP)→Option (bR × Int))(e9:Int)(e10:Int)(a11:W2):Option (bR × Int):=Option.bind (gG 32 a7 [(dP.mk e9 e10 a11)]) fun l12=>((nx1 l12))
def K0 (p2:Int)(s:List dP):Option (bR × Int):=match s with|a7=>(some ((bR.mk p2 a7 (bX.mk 0#64 0#64)),0))
def V0 (p0:W2)(x1:bB × Int)(ee:Int × Int)(nx1:(List dP)→Option (bR × Int))(s:List dP):Option (bR × Int):=match ee with|(e9,e10)=>match s with|a7=>(if e10=0 then Option.bind (uD x1.1 p0 (bZ.mk e9 0)) fun x13=>((E8 a7 nx1 e9 e10 x13)) else Option.bind (uY p0 e9) fun x14=>(Option.bind (uK x14 e9 e10) fun x15=>((E8 a7 nx1 e9 e10 x15))))
def E7 (p0:W2)(p1:aF)(p2:Int):Option (bR × Int):=Option.bind (lM p1 ([]:List bZ)) fun x1=>((if x1.2≠0 then(some ((bR.mk 0 [] (bX.mk 0#64 0#64)),x1.2)) else Option.bind (xW x1.1 p2) fun x2=>((bif (!x2) then(some ((bR.mk 0 [] (bX.mk 0#64 0#64)),2)) else Option.bind (A6 x1.1 p2) fun x3=>(Option.bind (V7 x3.1 x3.2) fun l4=>((eS (V0 p0 x1) (K0 p2) l4 [])))))))
def Eb (p0:Int)(p1:Int):Option (Bool):=(if(0:Int)≤p1 then Option.bind (vL p0) fun x1=>((some (decide (p1<x1)))) else(some false))
def Qu0 (x2:List Int)(rec1:(List bZ × Int)→Option (List bZ))(s1:List bZ × Int):Option (List bZ):=match s1 with|(a6,a8)=>(if a8<(x2.length:Int) then Option.bind (bG x2 a8) fun y9=>(Option.bind (gG 16 a6 [(bZ.mk y9 0)]) fun l10=>((rec1 (l10,aX (a8+1))))) else(some a6))
def Qu2 (p0:aF)(x2:List Int)(a17:Int)(rec2:(List bZ × Int)→Option (List bZ))(rec3:(List bZ × Int)→Option (List bZ))(s3:List bZ × Int):Option (List bZ):=match s3 with|(a21,a23)=>(if a23<(x2.length:Int) then Option.bind (bG x2 a17) fun y24=>(Option.bind (bG x2 a23) fun y25=>(Option.bind (qY p0 (bZ.mk y24 (Z5 .xor y25 1))) fun x26=>((bif x26 then Option.bind (gG 16 a21 [(bZ.mk y24 (Z5 .xor y25 1))]) fun l27=>((rec3 (l27,aX (a23+1)))) else(rec3 (a21,aX (a23+1))))))) else(rec2 (a21,aX (a17+1))))
def Qu1 (p0:aF)(x2:List Int)(rec2:(List bZ × Int)→Option (List bZ))(s2:List bZ × Int):Option (List bZ):=match s2 with|(a15,a17)=>(if a17<(x2.length:Int) then(aS (Qu2 p0 x2 a17 rec2) aI (a15,aX (a17+1))) else(some a15))
def Uv (p0:aF)(p1:Int):Option (List bZ):=Option.bind (vL p0.Depth) fun x1=>(Option.bind (Dg 1 (aX (x1+p1))) fun x2=>((if p0.Kind=1#8 then(aS (Qu0 x2) aI ([],0)) else Option.bind (gG 16 [] [(bZ.mk 1 0)]) fun l11=>((aS (Qu1 p0 x2) aI (l11,0))))))
def Uy (x1:List bZ)(a5:Int)(a6:List dP)(rec1:(Int × List dP)→Option (bR))(a10:W2):Option (bR):=Option.bind (bG x1 a5) fun y11=>(Option.bind (bG x1 a5) fun y12=>(Option.bind (gG 32 a6 [(dP.mk y11.Node y12.Minus a10)]) fun l13=>((rec1 (aX (a5+1),l13)))))
def Qfn (p0:W2)(x1:List bZ)(a5:Int)(a6:List dP)(rec1:(Int × List dP)→Option (bR))(a9:W2):Option (bR):=Option.bind (bG x1 a5) fun y14=>((if y14.Minus≠0 then Option.bind (bG x1 a5) fun y15=>(Option.bind (bG x1 a5) fun y16=>(Option.bind (Xo p0 y15.Node y16.Minus) fun x17=>((Uy x1 a5 a6 rec1 x17)))) else(Uy x1 a5 a6 rec1 a9)))
def Xm (p0:W2)(p1:aF)(p2:Int)(x1:List bZ)(rec1:(Int × List dP)→Option (bR))(s1:Int × List dP):Option (bR):=match s1 with|(a5,a6)=>(if a5<(x1.length:Int) then Option.bind (bG x1 a5) fun y18=>(Option.bind (Uu p0 p1 y18) fun x19=>((Qfn p0 x1 a5 a6 rec1 x19))) else(some (bR.mk p2 a6 (bX.mk 0#64 0#64))))
def Qfm (p0:W2)(p1:aF)(p2:Int):Option (bR):=Option.bind (Uv p1 p2) fun x1=>((aS (Xm p0 p1 p2 x1) aI (0,[])))
def Qfl (p0:W2)(p1:aF)(p2:Int):Option (bR × Int):=Option.bind (Di p1) fun x1=>((bif (!x1) then(some ((bR.mk 0 [] (bX.mk 0#64 0#64)),30)) else Option.bind (Eb p1.Depth p2) fun x2=>((bif (!x2) then(some ((bR.mk 0 [] (bX.mk 0#64 0#64)),2)) else Option.bind (Qfm p0 p1 p2) fun x3=>((some (x3,0)))))))
end Go.Sx

end
section
namespace Go.Sx
open Go Go.RowKit
noncomputable section
def V9 (a2:Int)(rec1:(Int)→Option (Bool))(a4:Bool):Option (Bool):=(bif a4 then(some false) else(rec1 (aX (a2+1))))
def xY (p0:bB)(p1:List Int)(rec1:(Int)→Option (Bool))(a2:Int):Option (Bool):=(if a2<(p1.length:Int) then Option.bind (bG p1 a2) fun y3=>(Option.bind (xW p0 y3) fun x5=>((bif (!x5) then(V9 a2 rec1 true) else(if(0:Int)<a2 then Option.bind (bG p1 (aX (a2-1))) fun y6=>((V9 a2 rec1 (decide (y3≤y6)))) else(V9 a2 rec1 false))))) else(some true))
def V8 (p0:bB)(p1:List Int):Option (Bool):=(aS (xY p0 p1) aI 0)
def wC (p0:Int)(p1:Int)(p2:List bZ):Option (List bZ):=Option.bind (gG 16 p2 [(bZ.mk p0 p1)]) fun l1=>((some l1))
def wE (a5:Int)(rec1:(Int × List Int)→Option (List bZ × Int))(rec2:(Int × List Int)→Option (List bZ × Int))(s2:Int × List Int):Option (List bZ × Int):=match s2 with|(a11,a12)=>(if(0:Int)<a11 then Option.bind (eK (un 1#64)) fun nn13=>((rec2 (tN a11 nn13,mD a12 a11))) else(rec1 (aX (a5+1),a12)))
def J6 (a16:List bZ)(nx3:(List bZ)→Option (List bZ × Int))(k18:Int)(a20:Bool):Option (List bZ × Int):=(bif a20 then Option.bind (uW k18) fun x21=>(Option.bind (wC x21 0 a16) fun x22=>((nx3 x22))) else(nx3 a16))
def J7 (nx3:(List bZ)→Option (List bZ × Int))(a26:Int)(a27:Int)(a28:List bZ):Option (List bZ × Int):=Option.bind (wC a27 a26 a28) fun x30=>((nx3 x30))
def oV (a16:List bZ)(nx3:(List bZ)→Option (List bZ × Int))(k18:Int)(a26:Int)(x31:Int)(a32:Bool):Option (List bZ × Int):=(bif a32 then Option.bind (wC k18 x31 a16) fun x33=>((J7 nx3 a26 x31 x33)) else(J7 nx3 a26 k18 a16))
def sD (x1:bB × Int)(a6:List Int)(a16:List bZ)(nx3:(List bZ)→Option (List bZ × Int))(k18:Int)(rec6:(Int)→Option (List bZ × Int))(a26:Int):Option (List bZ × Int):=(bif ((decide ((aX (2*a26))∈a6)) != (decide ((aX ((aX (2*a26))+1))∈a6))) then(if ¬ ((aX (a26*2))∈a6) then(rec6 (aX ((aX (a26*2))+1))) else(rec6 (aX (a26*2)))) else(if a26=k18 then(nx3 a16) else Option.bind (sT x1.1 k18 a26) fun x31=>((if x31≠0 then(if x1.1.kind=3#8 then Option.bind (qC x1.1 k18) fun x34=>((oV a16 nx3 k18 a26 x31 (!x34))) else(oV a16 nx3 k18 a26 x31 false)) else(oV a16 nx3 k18 a26 x31 false)))))
def uX (x1:bB × Int)(a6:List Int)(a16:List bZ)(nx3:(List bZ)→Option (List bZ × Int))(k18:Int)(a24:Bool):Option (List bZ × Int):=(bif a24 then(nx3 a16) else(aS (sD x1 a6 a16 nx3 k18) aI k18))
def wM  (a16:List bZ):Option (List bZ × Int):=Option.bind (zS bZ.Node a16) fun l19=>((some (l19,0)))
def uZ (x1:bB × Int)(a6:List Int)(k18:Int)(nx3:(List bZ)→Option (List bZ × Int))(a16:List bZ):Option (List bZ × Int):=(if x1.1.kind=1#8 then(if(1:Int)<k18 then Option.bind (uW k18) fun x23=>((J6 a16 nx3 k18 (decide (¬ (x23∈a6))))) else(J6 a16 nx3 k18 false)) else(if(1:Int)<k18 then Option.bind (uW k18) fun x35=>((uX x1 a6 a16 nx3 k18 (decide (¬ (x35∈a6))))) else(uX x1 a6 a16 nx3 k18 false)))
def wU (p1:List Int)(x1:bB × Int)(rec1:(Int × List Int)→Option (List bZ × Int))(s1:Int × List Int):Option (List bZ × Int):=match s1 with|(a5,a6)=>(if a5<(p1.length:Int) then Option.bind (bG p1 a5) fun y7=>(Option.bind (xV x1.1 y7) fun x8=>((aS (wE a5 rec1) aI (x8,a6)))) else(mL (uZ x1 a6) wM aI a6 []))
def E5 (p0:aF)(p1:List Int):Option (List bZ × Int):=Option.bind (lM p0 ([]:List bZ)) fun x1=>((if x1.2≠0 then(some ([],x1.2)) else Option.bind (V8 x1.1 p1) fun x2=>((bif (!x2) then(some ([],2)) else(if(p1.length:Int)=0 then(some ([(bZ.mk 1 0)],0)) else(aS (wU p1 x1) aI (0,[])))))))
end
end Go.Sx

end
section

end
section
namespace Go.Sx
open Go Go.RowKit
noncomputable section
structure iD where
 x:BitVec 64
 y:BitVec 64
deriving DecidableEq,Inhabited
def iD.cs (x:iD)  : List Value:=[wv x.x,wv x.y]
theorem iD.cs_ones (x:iD)   : bI (iD.cs x )=true:=by simp only[iD.cs,List.cons_append,List.nil_append,kb,bI,fC,fB,fM,cond_true]
theorem iD.cs_inj {x y:iD}(h:iD.cs x=iD.cs y):x=y:=by
 have h0:x.x=y.x:=xD (congrArg (fun l=>l[0]?) h);have h1:x.y=y.y:=xD (congrArg (fun l=>l[1]?) h);cases x;cases y;simp only at *;subst h0;subst h1;rfl
def Qm (p0:BitVec 64)(rec2:(BitVec 64)→Option (Bool))(a3:BitVec 64):Option (Bool):=(if a3*a3≤p0 then Option.bind (gY p0 a3) fun x4=>((if x4=0#64 then(some false) else(rec2 (a3+1#64)))) else(some true))
def Ql (p0:BitVec 64)(a1:Bool):Option (Bool):=(bif a1 then(some false) else(aS (Qm p0) aI 2#64))
def T9 (p0:BitVec 64):Option (Bool):=(if p0<2#64 then(Ql p0 true) else(Ql p0 (decide (1048575#64<p0))))
def yP (p2:BitVec 64)(rec1:(BitVec 64 × BitVec 64 × BitVec 64)→Option (BitVec 64))(s1:BitVec 64 × BitVec 64 × BitVec 64):Option (BitVec 64):=match s1 with|(a6,a7,a8)=>(if 0#64<a7 then(if a7 &&& 1#64=1#64 then Option.bind (gY (a8*a6) p2) fun x9=>(Option.bind (gY (a6*a6) p2) fun x10=>(Option.bind (eK (un 1#64)) fun nn11=>((rec1 (x10,a7 >>> nn11,x9))))) else Option.bind (gY (a6*a6) p2) fun x12=>(Option.bind (eK (un 1#64)) fun nn13=>((rec1 (x12,a7 >>> nn13,a8))))) else(some a8))
def T8 (p0:BitVec 64)(p1:BitVec 64)(p2:BitVec 64):Option (BitVec 64):=Option.bind (gY 1#64 p2) fun x1=>(Option.bind (gY p0 p2) fun x2=>((aS (yP p2) aI (x2,p1,x1))))
def rS (a1:Bool):Option (Int):=(bif a1 then(some 13) else(some 0))
def yH (p0:dR):Option (Int):=Option.bind (T9 p0.P) fun x2=>((bif (!x2) then(rS true) else Option.bind (T9 p0.Q) fun x3=>((bif (!x3) then(rS true) else Option.bind (gY (p0.P-1#64) p0.Q) fun x4=>((if x4≠0#64 then(rS true) else(if p0.G<2#64 then(rS true) else(if p0.P≤p0.G then(rS true) else Option.bind (T8 p0.G p0.Q p0.P) fun x5=>((rS (decide (x5≠1#64))))))))))))
def jE (p0:aF):Option (Bool):=(if p0.Kind=4#8 then(if(0:Int)≤p0.Depth then(if p0.Depth≤6 then(if(1:Int)≤p0.Degree then(if p0.Degree≤8 then Option.bind (yH p0.Group) fun x1=>((if x1=0 then Option.bind (eK p0.Depth) fun nn2=>((some (decide (wd (aX ((cW 1 nn2)+p0.Degree))<p0.Group.Q)))) else(some false))) else(some false)) else(some false)) else(some false)) else(some false)) else(some false))
def J1 (p0:W2)(rec1:(Int × BitVec 64 × BitVec 64)→Option (iD))(s1:Int × BitVec 64 × BitVec 64):Option (iD):=match s1 with|(a4,a5,a6)=>(if a4<8 then Option.bind (eK (un 8#64)) fun nn7=>(Option.bind (bG (cI p0) a4) fun y8=>(Option.bind (eK (un 8#64)) fun nn9=>(Option.bind (bG (cI p0) (aX (8+a4))) fun y10=>((rec1 (aX (a4+1),(a5 <<< nn7) ||| (y8.setWidth 64),(a6 <<< nn9) ||| (y10.setWidth 64))))))) else(some (iD.mk a5 a6)))
def J0 (p0:W2):Option (iD):=(aS (J1 p0) aI (0,0#64,0#64))
def wF (p0:W2)(p1:BitVec 64)(p2:BitVec 64):Option (BitVec 64):=(if p2=0#64 then(some 0#64) else Option.bind (J0 (cX p0 (aC 3#8) p1)) fun x1=>(Option.bind (gY x1.x p2) fun x2=>((some x2))))
def N9 (p0:W2)(p1:aF)(l1:List (BitVec 64))(rec1:(List (BitVec 64) × Int)→Option (List (BitVec 64)))(s1:List (BitVec 64) × Int):Option (List (BitVec 64)):=match s1 with|(a5,a7)=>(if a7<(l1.length:Int) then Option.bind (wF (cX p0 (aC 40#8) 0#64) (wd a7) p1.Group.Q) fun x8=>(Option.bind (bG a5 a7) fun y9=>((rec1 (a5.set a7.toNat x8,aX (a7+1))))) else(some a5))
def vG (p0:W2)(p1:aF):Option (List (BitVec 64)):=Option.bind (T1 8 (aX (p1.Degree+1)) 0#64) fun l1=>((aS (N9 p0 p1 l1) aI (l1,0)))
def Tu (p0:List (BitVec 64)):Option (List (BitVec 64)):=(some p0)
def zT (p1:List (BitVec 64))(rec1:(Int)→Option (List (Int × BitVec 64)))(a2:Int):Option (List (Int × BitVec 64)):=(if(0:Int)≤a2 then Option.bind (bG p1 a2) fun y3=>((yl (a2,y3) ((rec1 (aX (a2-1)))))) else(some []))
def Tt (p1:List (BitVec 64)):Option (List (Int × BitVec 64)):=(aS (zT p1) aI (aX ((p1.length:Int)-1)))
def zX (p0:BitVec 64)(p1:List (BitVec 64))(rec1:(BitVec 64 × Int)→Option (BitVec 64))(s1:BitVec 64 × Int):Option (BitVec 64):=match s1 with|(a3,a4)=>(if a4<(p1.length:Int) then Option.bind (bG p1 a4) fun y5=>(Option.bind (gY (a3*y5) p0) fun x6=>((rec1 (x6,aX (a4+1))))) else(some a3))
def rC (p0:BitVec 64)(p1:List (BitVec 64)):Option (BitVec 64):=(aS (zX p0 p1) aI (1#64,0))
def Xj  (s:BitVec 64):Option (BitVec 64):=match s with|a4=>(some a4)
def N8 (p1:BitVec 64)(p2:BitVec 64)(ee:Int × BitVec 64)(nx1:(BitVec 64)→Option (BitVec 64))(s:BitVec 64):Option (BitVec 64):=match ee with|(e5,e6)=>match s with|a4=>Option.bind (rC p1 [a4,p2]) fun x7=>(Option.bind (gY (x7+e6) p1) fun x8=>((nx1 x8)))
def N7 (p0:List (BitVec 64))(p1:BitVec 64)(p2:BitVec 64):Option (BitVec 64):=Option.bind (Tu p0) fun x1=>(Option.bind (Tt x1) fun l2=>((eS (N8 p1 p2) Xj l2 0#64)))
def N4 (p0:W2)(p1:aF)(p2:Int)(a2:Bool):Option (bR × Int):=(bif a2 then(some ((bR.mk 0 [] (bX.mk 0#64 0#64)),2)) else Option.bind (vG p0 p1) fun x3=>(Option.bind (N7 x3 p1.Group.Q ((wd p2)+1#64)) fun x4=>((some ((bR.mk p2 [] (bX.mk ((wd p2)+1#64) x4)),0)))))
def yO (p0:W2)(p1:aF)(p2:Int):Option (bR × Int):=Option.bind (jE p1) fun x1=>((bif (!x1) then(some ((bR.mk 0 [] (bX.mk 0#64 0#64)),30)) else(if p2<0 then(N4 p0 p1 p2 true) else Option.bind (eK p1.Depth) fun nn5=>((N4 p0 p1 p2 (decide (cW 1 nn5≤p2)))))))
def Qfi (p0:BitVec 64)(rec1:(BitVec 64)→Option (Bool))(a2:BitVec 64):Option (Bool):=(if a2*a2≤p0 then Option.bind (gY p0 a2) fun x3=>((if x3=0#64 then(some false) else(rec1 (a2+1#64)))) else(some (decide (2#64≤p0))))
def Um (p0:BitVec 64):Option (Bool):=(aS (Qfi p0) aI 2#64)
def Up (p2:BitVec 64)(a6:BitVec 64)(a8:BitVec 64)(rec1:(BitVec 64 × BitVec 64 × BitVec 64)→Option (BitVec 64))(a9:BitVec 64):Option (BitVec 64):=Option.bind (gY (a8*a8) p2) fun x10=>(Option.bind (Py a6 2#64) fun x11=>((rec1 (x11,a9,x10))))
def Db (p2:BitVec 64)(rec1:(BitVec 64 × BitVec 64 × BitVec 64)→Option (BitVec 64))(s1:BitVec 64 × BitVec 64 × BitVec 64):Option (BitVec 64):=match s1 with|(a6,a7,a8)=>(if 0#64<a6 then Option.bind (gY a6 2#64) fun x12=>((if x12=1#64 then Option.bind (gY (a7*a8) p2) fun x13=>((Up p2 a6 a8 rec1 x13)) else(Up p2 a6 a8 rec1 a7))) else(some a7))
def Uo (p0:BitVec 64)(p1:BitVec 64)(p2:BitVec 64):Option (BitVec 64):=Option.bind (gY 1#64 p2) fun x1=>(Option.bind (gY p0 p2) fun x2=>((aS (Db p2) aI (p1,x1,x2))))
def L2 (p0:dR)(a1:Bool):Option (Bool):=(bif a1 then(some false) else(if 2#64≤p0.G then(if p0.G<p0.P then Option.bind (Uo p0.G p0.Q p0.P) fun x2=>((some (decide (x2=1#64)))) else(some false)) else(some false)))
def Uq (p0:dR):Option (Bool):=(if 1048575#64<p0.P then(L2 p0 true) else Option.bind (Um p0.P) fun x3=>((bif (!x3) then(L2 p0 true) else(if 1048575#64<p0.Q then(L2 p0 true) else Option.bind (Um p0.Q) fun x4=>((bif (!x4) then(L2 p0 true) else Option.bind (gY (p0.P-1#64) p0.Q) fun x5=>((L2 p0 (decide (x5≠0#64))))))))))
def zW (p0:aF)(a1:Bool):Option (Bool):=(bif a1 then(some false) else Option.bind (vL p0.Depth) fun x2=>((some (decide (wd (aX (x2+p0.Degree))<p0.Group.Q)))))
def Ed (p0:aF):Option (Bool):=(if p0.Kind≠4#8 then(zW p0 true) else(if p0.Depth<0 then(zW p0 true) else(if(6:Int)<p0.Depth then(zW p0 true) else(if p0.Degree<1 then(zW p0 true) else(if(8:Int)<p0.Degree then(zW p0 true) else Option.bind (Uq p0.Group) fun x3=>((zW p0 (!x3))))))))
def Ur (p0:W2)(p1:BitVec 64)(p2:BitVec 64):Option (BitVec 64):=(if p2=0#64 then(some 0#64) else Option.bind (Qfj (((cI (cX p0 (aC 3#8) p1)).take 8).drop 0)) fun x1=>(Option.bind (gY x1 p2) fun x2=>((some x2))))
def oI (p0:aF):Option (Int):=Option.bind (jE p0) fun x1=>((bif (!x1) then(some 30) else(some 0)))
end
end Go.Sx

end
section
namespace Go.Sx
open Go Go.RowKit
noncomputable section
def T7 (p0:BitVec 64):Option (Bool):=(if 1#64≤p0 then(some (decide (p0<4294967296#64))) else(some false))
def Qk (p0:BitVec 64)(p1:BitVec 64)(p2:BitVec 64):Option (BitVec 64 × Int):=Option.bind (T7 p2) fun x1=>((bif (!x1) then(some (0#64,2)) else Option.bind (T8 p0 p1 p2) fun x2=>((some (x2,0)))))
def vT (p0:aF)(p1:BitVec 64)(p2:BitVec 64):Option (BitVec 64):=Option.bind (Qk p1 p2 p0.Group.P) fun x1=>((some x1.1))
def Xi (p0:BitVec 64):Option (W2):=(some (cX k0 (aC 42#8) p0))
def Pk (p0:bX)(p1:bX):Option (Bool):=(some (decide (p0.X=p1.X)))
def R4 (p0:List bX)(p1_0:bX)(rec1:(Int)→Option (Int))(a2:Int):Option (Int):=(if a2<(p0.length:Int) then Option.bind (bG p0 a2) fun y3=>(Option.bind (Pk y3 p1_0) fun x4=>((bif x4 then(some a2) else(rec1 (aX (a2+1)))))) else(some (-1)))
def Tx (p0:List bX)(p1_0:bX):Option (Int):=(aS (R4 p0 p1_0) aI 0)
def Zp (p0:List bX)(p1_0:bX):Option (Bool):=Option.bind (Tx p0 p1_0) fun x1=>((some (decide ((0:Int)≤x1))))
def zQ (p0:List bX)(rec1:(Int)→Option (Bool))(a2:Int):Option (Bool):=(if a2<(p0.length:Int) then Option.bind (bG p0 a2) fun y3=>(Option.bind (nH p0 0 a2) fun l4=>(Option.bind (Zp l4 y3) fun x5=>((bif x5 then(some false) else(rec1 (aX (a2+1))))))) else(some true))
def N5 (p0:List bX):Option (Bool):=(aS (zQ p0) aI 0)
def Ul (p1:BitVec 64)(rec1:(BitVec 64 × BitVec 64 × BitVec 64 × BitVec 64)→Option (BitVec 64 × Bool))(s1:BitVec 64 × BitVec 64 × BitVec 64 × BitVec 64):Option (BitVec 64 × Bool):=match s1 with|(a7,a8,a9,a10)=>(if a9≠0#64 then Option.bind (Py a7 a9) fun x11=>(Option.bind (gY x11 p1) fun x12=>(Option.bind (gY (x12*a10) p1) fun x13=>(Option.bind (gY (a8+(p1-x13)) p1) fun x14=>((rec1 (a9,a10,a7-(x11*a9),x14)))))) else(some (a8,decide (a7=1#64))))
def Uk (p0:BitVec 64)(p1:BitVec 64):Option (BitVec 64 × Bool):=Option.bind (gY p0 p1) fun x1=>(Option.bind (gY 1#64 p1) fun x2=>((aS (Ul p1) aI (x1,x2,p1,0#64))))
def Xg (p0:BitVec 64)(p1:BitVec 64)(p2:BitVec 64):Option (BitVec 64):=Option.bind (gY ((p1+p0)-p2) p0) fun x1=>((some x1))
def T6 (p1:BitVec 64)(rec1:(Int × Int × Int × Int)→Option (BitVec 64 × Int))(s1:Int × Int × Int × Int):Option (BitVec 64 × Int):=match s1 with|(a7,a8,a9,a10)=>(if a8≠0 then Option.bind (tP a7 a8) fun x11=>((rec1 (a8,aX (a7-(aX (x11*a8))),a10,aX (a9-(aX (x11*a10)))))) else(if a7≠1 then(some (0#64,10)) else Option.bind (nY a9 (aX (un p1))) fun x12=>(Option.bind (nY (aX (x12+(aX (un p1)))) (aX (un p1))) fun x13=>((some (wd x13,0))))))
def T5 (p0:BitVec 64)(p1:BitVec 64):Option (BitVec 64 × Int):=Option.bind (T7 p1) fun x1=>((bif (!x1) then(some (0#64,2)) else Option.bind (gY p0 p1) fun x2=>((aS (T6 p1) aI (aX (un p1),aX (un x2),0,1)))))
def Xe (p0:BitVec 64)(p1:BitVec 64)(p2:BitVec 64):Option (BitVec 64):=Option.bind (T5 p2 p0) fun x1=>(Option.bind (rC p0 [p1,x1.1]) fun x2=>((some x2)))
end
end Go.Sx

end
section
namespace Go.Sx
open Go Go.RowKit
noncomputable section
def yU (p0:BitVec 64)(p1:aF)(p2:bQ)(p3:List (BitVec 64))(p4:BitVec 64):Option (BitVec 64):=Option.bind (N7 p3 p4 p0) fun x1=>(Option.bind (vT p1 p2.Base x1) fun x2=>((some x2)))
def yE (a3:Int)(rec1:(Int)→Option (bQ × Int))(a5:Bool):Option (bQ × Int):=(bif a5 then(some ((bQ.mk [] 0#64 [] k0 k0),2)) else(rec1 (aX (a3+1))))
def yI (p1:aF)(p3:W2)(a9:List (BitVec 64))(a14:BitVec 64)(rec6:(Int × List bX)→Option (bQ × Int))(s6:Int × List bX):Option (bQ × Int):=match s6 with|(a30,a31)=>(if(a31.length:Int)<p1.Degree then Option.bind (yU (wd a30) p1 (bQ.mk [] a14 a31 k0 (cX p3 (aC 53#8) 0#64)) a9 p1.Group.Q) fun x33=>(Option.bind (gG 16 a31 [(bX.mk (wd a30) x33)]) fun l34=>((rec6 (aX (a30+1),l34)))) else Option.bind (yU 0#64 p1 (bQ.mk [] a14 a31 k0 (cX p3 (aC 53#8) 0#64)) a9 p1.Group.Q) fun x35=>(Option.bind (Xi x35) fun x36=>((some ((bQ.mk [] a14 a31 (jP x36 p3) (cX p3 (aC 53#8) 0#64)),0)))))
def yA (p1:aF)(p2:List Int)(p3:W2)(a9:List (BitVec 64))(a14:BitVec 64)(rec5:(Int × List bX)→Option (bQ × Int))(s5:Int × List bX):Option (bQ × Int):=match s5 with|(a20,a21)=>(if a20<(p2.length:Int) then Option.bind (bG p2 a20) fun y23=>(Option.bind (yU (wd (aX (y23+1))) p1 (bQ.mk [] a14 a21 k0 (cX p3 (aC 53#8) 0#64)) a9 p1.Group.Q) fun x24=>(Option.bind (gG 16 a21 [(bX.mk (wd (aX (y23+1))) x24)]) fun l25=>((rec5 (aX (a20+1),l25))))) else Option.bind (eK p1.Depth) fun nn26=>((aS (yI p1 p3 a9 a14) aI (aX ((cW 1 nn26)+1),a21))))
def Pj (p1:aF)(p2:List Int)(p3:W2)(a9:List (BitVec 64))(a14:BitVec 64):Option (bQ × Int):=(aS (yA p1 p2 p3 a9 a14) aI (0,[]))
def N3 (p0:W2)(p1:aF)(p2:List Int)(p3:W2)(p4:BitVec 64)(a9:List (BitVec 64)):Option (bQ × Int):=Option.bind (wF (cX p0 (aC 41#8) p4) 0#64 (p1.Group.Q-1#64)) fun x12=>(Option.bind (vT p1 p1.Group.G (1#64+x12)) fun x37=>((Pj p1 p2 p3 a9 x37)))
def vD (p0:W2)(p1:aF)(p2:List Int)(p3:W2)(p4:BitVec 64)(rec1:(Int)→Option (bQ × Int))(a3:Int):Option (bQ × Int):=(if a3<(p2.length:Int) then Option.bind (bG p2 a3) fun y4=>((if y4<0 then(yE a3 rec1 true) else Option.bind (eK p1.Depth) fun nn6=>((if cW 1 nn6≤y4 then(yE a3 rec1 true) else(if(0:Int)<a3 then Option.bind (bG p2 (aX (a3-1))) fun y7=>((yE a3 rec1 (decide (y4≤y7)))) else(yE a3 rec1 false)))))) else(if p1.Degree<(p2.length:Int) then(some ((bQ.mk [] 0#64 [] k0 k0),4)) else Option.bind (vG p0 p1) fun x39=>((N3 p0 p1 p2 p3 p4 x39))))
def N2 (p0:W2)(p1:aF)(p2:List Int)(p3:W2)(p4:BitVec 64):Option (bQ × Int):=Option.bind (jE p1) fun x1=>((bif (!x1) then(some ((bQ.mk [] 0#64 [] k0 k0),30)) else(aS (vD p0 p1 p2 p3 p4) aI 0)))
end
end Go.Sx

end
section
namespace Go.Sx
open Go Go.RowKit
noncomputable section
def Tv (p0:List bX):Option (List bX):=Option.bind (gG 16 [] p0) fun l1=>((some l1))
def N6 (p0:aF)(p1:bR)(a2:Bool):Option (Bool):=(bif a2 then(some (decide (p1.Share.Y<p0.Group.Q))) else(some false))
def zZ (p0:aF)(p1:bR)(a3:List bX)(a5:Int)(rec4:(Bool × Int)→Option (Bool))(s4:Bool × Int):Option (Bool):=match s4 with|(a8,a9)=>(if a9<a5 then Option.bind (bG a3 a9) fun y10=>((bif (!a8) then(N6 p0 p1 a8) else(if 1#64≤y10.X then(if y10.X<p0.Group.Q then(if 1#64≤y10.Y then(rec4 (decide (y10.Y<p0.Group.P),aX (a9+1))) else(rec4 (false,aX (a9+1)))) else(rec4 (false,aX (a9+1)))) else(rec4 (false,aX (a9+1)))))) else(N6 p0 p1 a8))
def Pm (p0:aF)(p1:bR)(a1:Bool)(a3:List bX)(a5:Int):Option (Bool):=(aS (zZ p0 p1 a3 a5) aI (a1,0))
def tH (p0:aF)(p1:bR)(p2:bQ)(a1:Bool):Option (Bool):=Option.bind (Tv p2.Points) fun x11=>(Option.bind (gG 16 x11 [(bX.mk p1.Share.X 1#64)]) fun l12=>((Pm p0 p1 a1 l12 (l12.length:Int))))
def Xh (p0:aF)(p1:bR)(p2:bQ):Option (Bool):=(if(p2.Items.length:Int)=0 then(if 1#64≤p2.Base then(if p2.Base<p0.Group.P then(if(p2.Points.length:Int)=p0.Degree then Option.bind (N5 p2.Points) fun x15=>((tH p0 p1 p2 x15)) else(tH p0 p1 p2 false)) else(tH p0 p1 p2 false)) else(tH p0 p1 p2 false)) else(tH p0 p1 p2 false))
def yM (p0:aF)(l4:List bX)(a8:BitVec 64)(a9:Int)(rec1:(BitVec 64 × Int)→Option (W2 × Int))(y10:bX)(rec2:(BitVec 64 × BitVec 64 × Int)→Option (W2 × Int))(s2:BitVec 64 × BitVec 64 × Int):Option (W2 × Int):=match s2 with|(a14,a15,a16)=>(if a16<(l4.length:Int) then Option.bind (bG l4 a16) fun y17=>((if a16≠a9 then Option.bind (rC p0.Group.Q [a14,y17.X]) fun x18=>(Option.bind (Xg p0.Group.Q y17.X y10.X) fun x19=>(Option.bind (rC p0.Group.Q [a15,x19]) fun x20=>((rec2 (x18,x20,aX (a16+1)))))) else(rec2 (a14,a15,aX (a16+1))))) else Option.bind (Xe p0.Group.Q a14 a15) fun x21=>(Option.bind (vT p0 y10.Y x21) fun x22=>(Option.bind (rC p0.Group.P [a8,x22]) fun x23=>((rec1 (x23,aX (a9+1)))))))
def Xd (p2:bQ)(a25:W2):Option (W2 × Int):=(if cX a25 (aC 53#8) 0#64≠p2.Check then(some (k0,6)) else(some (a25,0)))
def vP (p0:aF)(p2:bQ)(l4:List bX)(rec1:(BitVec 64 × Int)→Option (W2 × Int))(s1:BitVec 64 × Int):Option (W2 × Int):=match s1 with|(a8,a9)=>(if a9<(l4.length:Int) then Option.bind (bG l4 a9) fun y10=>((aS (yM p0 l4 a8 a9 rec1 y10) aI (1#64,1#64,0))) else Option.bind (Xi a8) fun x26=>((Xd p2 (oH x26 p2.Box))))
def yC (p0:aF)(p1:bR)(p2:bQ):Option (W2 × Int):=Option.bind (jE p0) fun x1=>((bif (!x1) then(some (k0,30)) else Option.bind (Xh p0 p1 p2) fun x2=>((bif (!x2) then(some (k0,8)) else Option.bind (vT p0 p2.Base p1.Share.Y) fun x3=>(Option.bind (gG 16 [(bX.mk p1.Share.X x3)] p2.Points) fun l4=>(Option.bind (N5 l4) fun x5=>((bif (!x5) then(some (k0,6)) else(aS (vP p0 p2 l4) aI (1#64,0))))))))))
end
end Go.Sx

end
section

end
section

end
section
namespace Go.Sx
open Go Go.RowKit
noncomputable section
def uG (p0:W2)(p1:aF)(p2:Int)(a1:Bool):Option (bR × Int):=(bif a1 then(some ((bR.mk 0 [] (bX.mk 0#64 0#64)),2)) else(if aC p1.Kind=1∨aC p1.Kind=2∨aC p1.Kind=3 then Option.bind (qR p1) fun x2=>((if x2≠0 then(some ((bR.mk 0 [] (bX.mk 0#64 0#64)),x2)) else Option.bind (E7 p0 p1 p2) fun x3=>((some (x3.1,x3.2))))) else(if aC p1.Kind=4 then Option.bind (oI p1) fun x4=>((if x4≠0 then(some ((bR.mk 0 [] (bX.mk 0#64 0#64)),x4)) else Option.bind (yO p0 p1 p2) fun x5=>((some (x5.1,x5.2))))) else none)))
def qO (p0:W2)(p1:aF)(p2:Int):Option (bR × Int):=(if p1.Kind<1#8 then(uG p0 p1 p2 true) else(uG p0 p1 p2 (decide ((5:Int)≤aC p1.Kind))))
def rQ (p0:W2)(p1:Int):Option (W2):=(some (cX p0 (aC 50#8) (wd p1)))
end
end Go.Sx

end
section
namespace Go.Sx
open Go Go.RowKit
noncomputable section
structure qL where
 Epoch:Int
 Word:Int
 Early:Int
 Drift:Int
 Delay:Int
deriving DecidableEq,Inhabited
def qL.cs (x:qL)  : List Value:=[.int .i64 x.Epoch,.int .i64 x.Word,.int .i64 x.Early,.int .i64 x.Drift,.int .i64 x.Delay]
theorem qL.cs_ones (x:qL)   : bI (qL.cs x )=true:=by simp only[qL.cs,List.cons_append,List.nil_append,kb,bI,fC,fB,fM,cond_true]
theorem qL.cs_inj {x y:qL}(h:qL.cs x=qL.cs y):x=y:=by
 have h0:x.Epoch=y.Epoch:=dJ (congrArg (fun l=>l[0]?) h);have h1:x.Word=y.Word:=dJ (congrArg (fun l=>l[1]?) h);have h2:x.Early=y.Early:=dJ (congrArg (fun l=>l[2]?) h);have h3:x.Drift=y.Drift:=dJ (congrArg (fun l=>l[3]?) h);have h4:x.Delay=y.Delay:=dJ (congrArg (fun l=>l[4]?) h);cases x;cases y;simp only at *;subst h0;subst h1;subst h2;subst h3;subst h4;rfl
structure dZ where
 Kind:BitVec 8
 Epoch:Int
 Head:bQ
 Low:BitVec 8
 Number:BitVec 64
 Data:List (BitVec 8)
 Mac:W2
deriving DecidableEq,Inhabited
def dZ.cs (x:dZ)(v0:Value)(v1:Value)(v2:Value):List Value:=[bv x.Kind,.int .i64 x.Epoch,v0,wv x.Head.Base,v1]++(kb x.Head.Box++(kb x.Head.Check++([bv x.Low,wv x.Number,v2]++(kb x.Mac))))
theorem dZ.cs_ones (x:dZ)(v0:Value)(v1:Value)(v2:Value)(h0:oneB v0=true)(h1:oneB v1=true)(h2:oneB v2=true):bI (dZ.cs x v0 v1 v2)=true:=by simp only[dZ.cs,List.cons_append,List.nil_append,kb,bI,fC,fB,fM,cond_true,h0,h1,h2]
structure fP where
 out:List (BitVec 8)
deriving DecidableEq,Inhabited
def fP.cs (x:fP)(v0:Value):List Value:=[v0]
theorem fP.cs_ones (x:fP)(v0:Value)(h0:oneB v0=true):bI (fP.cs x v0)=true:=by simp only[fP.cs,List.cons_append,List.nil_append,kb,bI,fC,fB,fM,cond_true,h0]
structure mM where
 Full:Bool
 Epoch:Int
 Key:W2
deriving DecidableEq,Inhabited
def mM.cs (x:mM)  : List Value:=[.bool x.Full,.int .i64 x.Epoch]++(kb x.Key)
theorem mM.cs_ones (x:mM)   : bI (mM.cs x )=true:=by simp only[mM.cs,List.cons_append,List.nil_append,kb,bI,fC,fB,fM,cond_true]
theorem mM.cs_inj {x y:mM}(h:mM.cs x=mM.cs y):x=y:=by
 have h0:x.Full=y.Full:=Kf (congrArg (fun l=>l[0]?) h);have h1:x.Epoch=y.Epoch:=dJ (congrArg (fun l=>l[1]?) h);have h2:x.Key=y.Key:=qQ (congrArg (fun l=>(l.drop 2).take 16) h);cases x;cases y;simp only at *;subst h0;subst h1;subst h2;rfl
structure pH where
 a0:mM
 a1:mM
deriving DecidableEq,Inhabited
def pH.cs (x:pH)  : List Value:=[.bool x.a0.Full,.int .i64 x.a0.Epoch]++(kb x.a0.Key++([.bool x.a1.Full,.int .i64 x.a1.Epoch]++(kb x.a1.Key)))
theorem pH.cs_ones (x:pH)   : bI (pH.cs x )=true:=by simp only[pH.cs,List.cons_append,List.nil_append,kb,bI,fC,fB,fM,cond_true]
theorem pH.cs_inj {x y:pH}(h:pH.cs x=pH.cs y):x=y:=by
 have h0:x.a0=y.a0:=mM.cs_inj (congrArg (fun l=>(l.drop 0).take 18) h);have h1:x.a1=y.a1:=mM.cs_inj (congrArg (fun l=>(l.drop 18).take 18) h);cases x;cases y;simp only at *;subst h0;subst h1;rfl
structure Q6 where
 Secret:bR
 Ahead:Int
 Slots:pH
deriving DecidableEq,Inhabited
def Q6.cs (x:Q6)(v0:Value):List Value:=[.int .i64 x.Secret.Receiver,v0,wv x.Secret.Share.X,wv x.Secret.Share.Y,.int .i64 x.Ahead,.bool x.Slots.a0.Full,.int .i64 x.Slots.a0.Epoch]++(kb x.Slots.a0.Key++([.bool x.Slots.a1.Full,.int .i64 x.Slots.a1.Epoch]++(kb x.Slots.a1.Key)))
theorem Q6.cs_ones (x:Q6)(v0:Value)(h0:oneB v0=true):bI (Q6.cs x v0)=true:=by simp only[Q6.cs,List.cons_append,List.nil_append,kb,bI,fC,fB,fM,cond_true,h0]
def nQ (p0:Int):Option (Bool):=(if(0:Int)≤p0 then(some (decide (p0≤1099511627776))) else(some false))
def H7 (p0:W2)(p1:aF)(p2:List Int)(p3:W2)(p4:BitVec 64):Option (bQ × Int):=Option.bind (E5 p1 p2) fun x1=>((if x1.2≠0 then(some ((bQ.mk [] 0#64 [] k0 k0),x1.2)) else Option.bind (E6 p0 p1 x1.1 p3) fun x2=>((some (x2.1,x2.2)))))
def H3 (p0:W2)(p1:aF)(p2:Int)(p3:List Int)(a1:Bool):Option (bQ × Int):=(bif a1 then(some ((bQ.mk [] 0#64 [] k0 k0),2)) else(if aC p1.Kind=1∨aC p1.Kind=2∨aC p1.Kind=3 then Option.bind (qR p1) fun x2=>((if x2≠0 then(some ((bQ.mk [] 0#64 [] k0 k0),x2)) else Option.bind (nQ p2) fun x3=>((bif (!x3) then(some ((bQ.mk [] 0#64 [] k0 k0),2)) else Option.bind (rQ p0 p2) fun x4=>(Option.bind (H7 p0 p1 p3 x4 (wd p2)) fun x5=>((some (x5.1,x5.2)))))))) else(if aC p1.Kind=4 then Option.bind (oI p1) fun x6=>((if x6≠0 then(some ((bQ.mk [] 0#64 [] k0 k0),x6)) else Option.bind (nQ p2) fun x7=>((bif (!x7) then(some ((bQ.mk [] 0#64 [] k0 k0),2)) else Option.bind (rQ p0 p2) fun x8=>(Option.bind (N2 p0 p1 p3 x8 (wd p2)) fun x9=>((some (x9.1,x9.2)))))))) else none)))
def qI (p0:W2)(p1:aF)(p2:Int)(p3:List Int):Option (bQ × Int):=(if p1.Kind<1#8 then(H3 p0 p1 p2 p3 true) else(H3 p0 p1 p2 p3 (decide ((5:Int)≤aC p1.Kind))))
def xS (p1:BitVec 64)(rec1:(Int × List (BitVec 8))→Option (fP))(s1:Int × List (BitVec 8)):Option (fP):=match s1 with|(a4,a5)=>(if(0:Int)≤a4 then Option.bind (eK (aX (8*a4))) fun nn7=>(Option.bind (gG 1 a5 [(p1 >>> nn7).setWidth 8]) fun l8=>((rec1 (aX (a4-1),l8)))) else(some (fP.mk a5)))
def lE (p0:fP)(p1:BitVec 64)(p2:Int):Option (fP):=(aS (xS p1) aI (aX (p2-1),p0.out))
def xL (p0:fP)(p1:W2):Option (fP):=Option.bind (gG 1 p0.out (cI p1)) fun l1=>((some (fP.mk l1)))
def H6 (p0:dZ)(rec2:(Int × fP)→Option (List (BitVec 8)))(s2:Int × fP):Option (List (BitVec 8)):=match s2 with|(a23,a24)=>(if a23<(p0.Head.Points.length:Int) then Option.bind (bG p0.Head.Points a23) fun y26=>(Option.bind (lE a24 y26.X 8) fun x27=>(Option.bind (lE x27 y26.Y 8) fun x28=>((rec2 (aX (a23+1),x28))))) else Option.bind (xL a24 p0.Head.Box) fun x29=>(Option.bind (xL x29 p0.Head.Check) fun x30=>((some x30.out))))
def H5 (p0:dZ)(rec1:(Int × fP)→Option (List (BitVec 8)))(s1:Int × fP):Option (List (BitVec 8)):=match s1 with|(a11,a12)=>(if a11<(p0.Head.Items.length:Int) then Option.bind (bG p0.Head.Items a11) fun y14=>(Option.bind (lE a12 (wd y14.Subset.Node) 1) fun x15=>(Option.bind (lE x15 (wd y14.Subset.Minus) 1) fun x16=>(Option.bind (xL x16 y14.Box) fun x17=>((rec1 (aX (a11+1),x17)))))) else Option.bind (lE a12 p0.Head.Base 8) fun x18=>(Option.bind (lE x18 (wd (p0.Head.Points.length:Int)) 1) fun x19=>((aS (H6 p0) aI (0,x19)))))
def H4 (p0:dZ):Option (List (BitVec 8)):=Option.bind (lE (fP.mk []) (p0.Kind.setWidth 64) 1) fun x1=>((if p0.Kind=2#8 then Option.bind (lE x1 (p0.Low.setWidth 64) 1) fun x2=>(Option.bind (lE x2 p0.Number 8) fun x3=>(Option.bind (lE x3 (wd (p0.Data.length:Int)) 2) fun x4=>(Option.bind (gG 1 x4.out p0.Data) fun l5=>((some l5))))) else Option.bind (lE x1 (wd p0.Epoch) 8) fun x6=>(Option.bind (lE x6 (wd (p0.Head.Items.length:Int)) 1) fun x7=>((aS (H5 p0) aI (0,x7))))))
def J2 (p1:W2)(rec1:(Int × W2)→Option (W2))(s1:Int × W2):Option (W2):=match s1 with|(a3,a4)=>(if a3<16 then Option.bind (bG (cI a4) a3) fun y5=>(Option.bind (bG (cI p1) a3) fun y6=>(Option.bind (bG (cI a4) a3) fun y7=>(Option.bind (D6 a4 a3 (y5 ^^^ y6)) fun x8=>((rec1 (aX (a3+1),x8)))))) else(some a4))
def E3 (p0:W2)(p1:W2):Option (W2):=(if p0=p1 then(some k0) else(aS (J2 p1) aI (0,p0)))
def Kd (p0:W2)(p1:W2)(p2:W2):Option (W2):=Option.bind (E3 p0 p1) fun x1=>((some (jP p2 x1)))
def Z9 (p2_0:W2)(rec1:(List (BitVec 8) × W2)→Option (W2))(s1:List (BitVec 8) × W2):Option (W2):=match s1 with|(a4,a6)=>(if(0:Int)<(a4.length:Int) then Option.bind (nH a4 (uQ (cI k0) a4) (a4.length:Int)) fun l7=>(Option.bind (Kd a6 (kE (oK (cI k0) a4)) p2_0) fun x8=>((rec1 (l7,x8)))) else(some a6))
def E2 (p0:W2)(p1:List (BitVec 8))(p2_0:W2):Option (W2):=(aS (Z9 p2_0) aI (p1,p0))
def E1 (p0:W2)(p1:List (BitVec 8)):Option (W2 × Int):=(if(16384:Int)<(p1.length:Int) then(some (k0,4)) else Option.bind (E2 (cX p0 (aC 2#8) (wd (p1.length:Int))) p1 p0) fun x1=>((some (x1,0))))
def Fu (a2:W2):Option (W2):=(some a2)
def I9 (p0:W2)(p1:dZ):Option (W2):=Option.bind (H4 p1) fun x3=>(Option.bind (E1 (cX p0 (aC 52#8) (wd p1.Epoch)) x3) fun x4=>((Fu x4.1)))
def xN (p0:W2)(p1:aF)(p2:Int)(p3:List Int):Option (dZ × Int):=Option.bind (qI p0 p1 p2 p3) fun x1=>((if x1.2≠0 then(some ((dZ.mk 0#8 0 (bQ.mk [] 0#64 [] k0 k0) 0#8 0#64 [] k0),x1.2)) else Option.bind (rQ p0 p2) fun x2=>(Option.bind (I9 x2 (dZ.mk 1#8 p2 x1.1 0#8 0#64 [] k0)) fun x3=>((some ((dZ.mk 1#8 p2 x1.1 0#8 0#64 [] x3),0))))))
def I8 (p0:cG):Option (Bool):=(if tJ p0.Subset.Node p0.Subset.Minus<0 then(some true) else(some (decide ((127:Int)<gO p0.Subset.Node p0.Subset.Minus))))
def zL (p0:List cG)(rec1:(Int)→Option (Int))(a2:Int):Option (Int):=(if a2<(p0.length:Int) then Option.bind (bG p0 a2) fun y3=>(Option.bind (I8 y3) fun x4=>((bif x4 then(some a2) else(rec1 (aX (a2+1)))))) else(some (-1)))
def Gb (p0:List cG):Option (Int):=(aS (zL p0) aI 0)
def Zo (p0:List cG):Option (Bool):=Option.bind (Gb p0) fun x1=>((some (decide ((0:Int)≤x1))))
def mW (a2:Bool):Option (Int):=(bif (!a2) then(some 8) else(some 0))
def sG (p0:dZ)(a1:Bool):Option (Int):=(if p0.Kind=1#8 then Option.bind (nQ p0.Epoch) fun x3=>((bif x3 then(if p0.Low=0#8 then(if p0.Number=0#64 then(if(p0.Data.length:Int)=0 then(if(p0.Head.Items.length:Int)≤64 then(if(p0.Head.Points.length:Int)≤8 then Option.bind (Zo p0.Head.Items) fun x4=>((mW (!x4))) else(mW false)) else(mW false)) else(mW false)) else(mW false)) else(mW false)) else(mW false))) else(if p0.Kind=2#8 then(if p0.Epoch=0 then(if p0.Low<4#8 then(if(p0.Data.length:Int)≤256 then(mW a1) else(mW false)) else(mW false)) else(mW false)) else(mW false)))
def H1 (p0:dZ):Option (Int):=(if(p0.Head.Items.length:Int)=0 then(if(p0.Head.Points.length:Int)=0 then(if p0.Head.Base=0#64 then(if p0.Head.Box=k0 then(sG p0 (decide (p0.Head.Check=k0))) else(sG p0 false)) else(sG p0 false)) else(sG p0 false)) else(sG p0 false))
def H2 (p0:aF)(p1:bR)(p2:bQ)(a1:Bool):Option (W2 × Int):=(bif a1 then(some (k0,2)) else(if aC p0.Kind=1∨aC p0.Kind=2∨aC p0.Kind=3 then Option.bind (qR p0) fun x2=>((if x2≠0 then(some (k0,x2)) else Option.bind (J8 p0 p1 p2) fun x3=>((some (x3.1,x3.2))))) else(if aC p0.Kind=4 then Option.bind (oI p0) fun x4=>((if x4≠0 then(some (k0,x4)) else Option.bind (yC p0 p1 p2) fun x5=>((some (x5.1,x5.2))))) else none)))
def qA (p0:aF)(p1:bR)(p2:bQ):Option (W2 × Int):=(if p0.Kind<1#8 then(H2 p0 p1 p2 true) else(H2 p0 p1 p2 (decide ((5:Int)≤aC p0.Kind))))
end
end Go.Sx

end
section
namespace Go.Sx
open Go Go.RowKit
noncomputable section
end
end Go.Sx

end
section
namespace Go.Sx
open Go Go.RowKit
noncomputable section
end
end Go.Sx

end
section
namespace Go.Sx
open Go Go.RowKit
noncomputable section
end
end Go.Sx

end
section
namespace Go.Sx
open Go Go.RowKit
noncomputable section
structure wP where
 b:List (BitVec 8)
 short:Bool
deriving DecidableEq,Inhabited
def wP.cs (x:wP)(v0:Value):List Value:=[v0,.bool x.short]
theorem wP.cs_ones (x:wP)(v0:Value)(h0:oneB v0=true):bI (wP.cs x v0)=true:=by simp only[wP.cs,List.cons_append,List.nil_append,kb,bI,fC,fB,fM,cond_true,h0]
def xG (p0:dZ):Option (List (BitVec 8) × Int):=Option.bind (H1 p0) fun x1=>((if x1≠0 then(some ([],x1)) else Option.bind (H4 p0) fun x2=>(Option.bind (gG 1 x2 (cI p0.Mac)) fun l3=>((some (l3,0))))))
end
end Go.Sx

end
section

end
section
namespace Go.Sx
open Go Go.RowKit
noncomputable section
structure cB where
 Regions:BitVec 8
 Level:BitVec 8
 Price:Int
 View:Bool
deriving DecidableEq,Inhabited
def cB.cs (x:cB)  : List Value:=[bv x.Regions,bv x.Level,.int .i64 x.Price,.bool x.View]
theorem cB.cs_ones (x:cB)   : bI (cB.cs x )=true:=by simp only[cB.cs,List.cons_append,List.nil_append,kb,bI,fC,fB,fM,cond_true]
theorem cB.cs_inj {x y:cB}(h:cB.cs x=cB.cs y):x=y:=by
 have h0:x.Regions=y.Regions:=sW (congrArg (fun l=>l[0]?) h);have h1:x.Level=y.Level:=sW (congrArg (fun l=>l[1]?) h);have h2:x.Price=y.Price:=dJ (congrArg (fun l=>l[2]?) h);have h3:x.View=y.View:=Kf (congrArg (fun l=>l[3]?) h);cases x;cases y;simp only at *;subst h0;subst h1;subst h2;subst h3;rfl
structure bL where
 Receiver:Int
 Account:Int
 Region:BitVec 8
 Level:BitVec 8
 Home:Int
 Met:Int
 Dead:Bool
deriving DecidableEq,Inhabited
def bL.cs (x:bL)  : List Value:=[.int .i64 x.Receiver,.int .i64 x.Account,bv x.Region,bv x.Level,.int .i64 x.Home,.int .i64 x.Met,.bool x.Dead]
theorem bL.cs_ones (x:bL)   : bI (bL.cs x )=true:=by simp only[bL.cs,List.cons_append,List.nil_append,kb,bI,fC,fB,fM,cond_true]
theorem bL.cs_inj {x y:bL}(h:bL.cs x=bL.cs y):x=y:=by
 have h0:x.Receiver=y.Receiver:=dJ (congrArg (fun l=>l[0]?) h);have h1:x.Account=y.Account:=dJ (congrArg (fun l=>l[1]?) h);have h2:x.Region=y.Region:=sW (congrArg (fun l=>l[2]?) h);have h3:x.Level=y.Level:=sW (congrArg (fun l=>l[3]?) h);have h4:x.Home=y.Home:=dJ (congrArg (fun l=>l[4]?) h);have h5:x.Met=y.Met:=dJ (congrArg (fun l=>l[5]?) h);have h6:x.Dead=y.Dead:=Kf (congrArg (fun l=>l[6]?) h);cases x;cases y;simp only at *;subst h0;subst h1;subst h2;subst h3;subst h4;subst h5;subst h6;rfl
structure dL where
 Account:Int
 Product:Int
 From:Int
 To:Int
deriving DecidableEq,Inhabited
def dL.cs (x:dL)  : List Value:=[.int .i64 x.Account,.int .i64 x.Product,.int .i64 x.From,.int .i64 x.To]
theorem dL.cs_ones (x:dL)   : bI (dL.cs x )=true:=by simp only[dL.cs,List.cons_append,List.nil_append,kb,bI,fC,fB,fM,cond_true]
theorem dL.cs_inj {x y:dL}(h:dL.cs x=dL.cs y):x=y:=by
 have h0:x.Account=y.Account:=dJ (congrArg (fun l=>l[0]?) h);have h1:x.Product=y.Product:=dJ (congrArg (fun l=>l[1]?) h);have h2:x.From=y.From:=dJ (congrArg (fun l=>l[2]?) h);have h3:x.To=y.To:=dJ (congrArg (fun l=>l[3]?) h);cases x;cases y;simp only at *;subst h0;subst h1;subst h2;subst h3;rfl
structure cK where
 Account:Int
 Product:Int
 Epoch:Int
 Price:Int
deriving DecidableEq,Inhabited
def cK.cs (x:cK)  : List Value:=[.int .i64 x.Account,.int .i64 x.Product,.int .i64 x.Epoch,.int .i64 x.Price]
theorem cK.cs_ones (x:cK)   : bI (cK.cs x )=true:=by simp only[cK.cs,List.cons_append,List.nil_append,kb,bI,fC,fB,fM,cond_true]
theorem cK.cs_inj {x y:cK}(h:cK.cs x=cK.cs y):x=y:=by
 have h0:x.Account=y.Account:=dJ (congrArg (fun l=>l[0]?) h);have h1:x.Product=y.Product:=dJ (congrArg (fun l=>l[1]?) h);have h2:x.Epoch=y.Epoch:=dJ (congrArg (fun l=>l[2]?) h);have h3:x.Price=y.Price:=dJ (congrArg (fun l=>l[3]?) h);cases x;cases y;simp only at *;subst h0;subst h1;subst h2;subst h3;rfl
structure dC where
 Account:Int
 Title:Int
 Until:Int
 Plays:Int
deriving DecidableEq,Inhabited
def dC.cs (x:dC)  : List Value:=[.int .i64 x.Account,.int .i64 x.Title,.int .i64 x.Until,.int .i64 x.Plays]
theorem dC.cs_ones (x:dC)   : bI (dC.cs x )=true:=by simp only[dC.cs,List.cons_append,List.nil_append,kb,bI,fC,fB,fM,cond_true]
theorem dC.cs_inj {x y:dC}(h:dC.cs x=dC.cs y):x=y:=by
 have h0:x.Account=y.Account:=dJ (congrArg (fun l=>l[0]?) h);have h1:x.Title=y.Title:=dJ (congrArg (fun l=>l[1]?) h);have h2:x.Until=y.Until:=dJ (congrArg (fun l=>l[2]?) h);have h3:x.Plays=y.Plays:=dJ (congrArg (fun l=>l[3]?) h);cases x;cases y;simp only at *;subst h0;subst h1;subst h2;subst h3;rfl
structure kP where
 a0:Int
 a1:Int
 a2:Int
 a3:Int
 a4:Int
 a5:Int
 a6:Int
 a7:Int
 a8:Int
 a9:Int
 a10:Int
 a11:Int
 a12:Int
 a13:Int
 a14:Int
 a15:Int
deriving DecidableEq,Inhabited
def kP.cs (x:kP)  : List Value:=[.int .i64 x.a0,.int .i64 x.a1,.int .i64 x.a2,.int .i64 x.a3,.int .i64 x.a4,.int .i64 x.a5,.int .i64 x.a6,.int .i64 x.a7,.int .i64 x.a8,.int .i64 x.a9,.int .i64 x.a10,.int .i64 x.a11,.int .i64 x.a12,.int .i64 x.a13,.int .i64 x.a14,.int .i64 x.a15]
theorem kP.cs_ones (x:kP)   : bI (kP.cs x )=true:=by simp only[kP.cs,List.cons_append,List.nil_append,kb,bI,fC,fB,fM,cond_true]
theorem kP.cs_inj {x y:kP}(h:kP.cs x=kP.cs y):x=y:=by
 have h0:x.a0=y.a0:=dJ (congrArg (fun l=>l[0]?) h);have h1:x.a1=y.a1:=dJ (congrArg (fun l=>l[1]?) h);have h2:x.a2=y.a2:=dJ (congrArg (fun l=>l[2]?) h);have h3:x.a3=y.a3:=dJ (congrArg (fun l=>l[3]?) h);have h4:x.a4=y.a4:=dJ (congrArg (fun l=>l[4]?) h);have h5:x.a5=y.a5:=dJ (congrArg (fun l=>l[5]?) h);have h6:x.a6=y.a6:=dJ (congrArg (fun l=>l[6]?) h);have h7:x.a7=y.a7:=dJ (congrArg (fun l=>l[7]?) h);have h8:x.a8=y.a8:=dJ (congrArg (fun l=>l[8]?) h);have h9:x.a9=y.a9:=dJ (congrArg (fun l=>l[9]?) h);have h10:x.a10=y.a10:=dJ (congrArg (fun l=>l[10]?) h);have h11:x.a11=y.a11:=dJ (congrArg (fun l=>l[11]?) h);have h12:x.a12=y.a12:=dJ (congrArg (fun l=>l[12]?) h);have h13:x.a13=y.a13:=dJ (congrArg (fun l=>l[13]?) h);have h14:x.a14=y.a14:=dJ (congrArg (fun l=>l[14]?) h);have h15:x.a15=y.a15:=dJ (congrArg (fun l=>l[15]?) h);cases x;cases y;simp only at *;subst h0;subst h1;subst h2;subst h3;subst h4;subst h5;subst h6;subst h7;subst h8;subst h9;subst h10;subst h11;subst h12;subst h13;subst h14;subst h15;rfl
structure dD where
 Products:List cB
 Cards:List bL
 Grants:List dL
 Sales:List cK
 Licences:List dC
 Credits:kP
deriving DecidableEq,Inhabited
def dD.cs (x:dD)(v0:Value)(v1:Value)(v2:Value)(v3:Value)(v4:Value):List Value:=[v0,v1,v2,v3,v4,.int .i64 x.Credits.a0,.int .i64 x.Credits.a1,.int .i64 x.Credits.a2,.int .i64 x.Credits.a3,.int .i64 x.Credits.a4,.int .i64 x.Credits.a5,.int .i64 x.Credits.a6,.int .i64 x.Credits.a7,.int .i64 x.Credits.a8,.int .i64 x.Credits.a9,.int .i64 x.Credits.a10,.int .i64 x.Credits.a11,.int .i64 x.Credits.a12,.int .i64 x.Credits.a13,.int .i64 x.Credits.a14,.int .i64 x.Credits.a15]
theorem dD.cs_ones (x:dD)(v0:Value)(v1:Value)(v2:Value)(v3:Value)(v4:Value)(h0:oneB v0=true)(h1:oneB v1=true)(h2:oneB v2=true)(h3:oneB v3=true)(h4:oneB v4=true):bI (dD.cs x v0 v1 v2 v3 v4)=true:=by simp only[dD.cs,List.cons_append,List.nil_append,kb,bI,fC,fB,fM,cond_true,h0,h1,h2,h3,h4]
structure dQ where
 Books:dD
deriving DecidableEq,Inhabited
def dQ.cs (x:dQ)(v0:Value)(v1:Value)(v2:Value)(v3:Value)(v4:Value):List Value:=[v0,v1,v2,v3,v4,.int .i64 x.Books.Credits.a0,.int .i64 x.Books.Credits.a1,.int .i64 x.Books.Credits.a2,.int .i64 x.Books.Credits.a3,.int .i64 x.Books.Credits.a4,.int .i64 x.Books.Credits.a5,.int .i64 x.Books.Credits.a6,.int .i64 x.Books.Credits.a7,.int .i64 x.Books.Credits.a8,.int .i64 x.Books.Credits.a9,.int .i64 x.Books.Credits.a10,.int .i64 x.Books.Credits.a11,.int .i64 x.Books.Credits.a12,.int .i64 x.Books.Credits.a13,.int .i64 x.Books.Credits.a14,.int .i64 x.Books.Credits.a15]
theorem dQ.cs_ones (x:dQ)(v0:Value)(v1:Value)(v2:Value)(v3:Value)(v4:Value)(h0:oneB v0=true)(h1:oneB v1=true)(h2:oneB v2=true)(h3:oneB v3=true)(h4:oneB v4=true):bI (dQ.cs x v0 v1 v2 v3 v4)=true:=by simp only[dQ.cs,List.cons_append,List.nil_append,kb,bI,fC,fB,fM,cond_true,h0,h1,h2,h3,h4]
def Zh (a2:Int)(rec1:(Int)→Option (Bool))(a4:Bool):Option (Bool):=(bif a4 then(some false) else(rec1 (aX (a2+1))))
def R0 (p0:Int)(p1:List Int)(rec1:(Int)→Option (Bool))(a2:Int):Option (Bool):=(if a2<(p1.length:Int) then Option.bind (bG p1 a2) fun y3=>((if y3<0 then(Zh a2 rec1 true) else(Zh a2 rec1 (decide (p0<y3))))) else(some true))
def iB (p0:Int)(p1:List Int):Option (Bool):=(aS (R0 p0 p1) aI 0)
def Zd (p0:cB):Option (Bool):=(if p0.Level≤3#8 then Option.bind (iB 1000 [p0.Price]) fun x1=>((some x1)) else(some false))
def S1 (p0:List cB)(rec1:(Int × Int)→Option (Int))(s1:Int × Int):Option (Int):=match s1 with|(a3,a4)=>(if a4<(p0.length:Int) then Option.bind (bG p0 a4) fun y5=>(Option.bind (Zd y5) fun x6=>((bif x6 then(rec1 (aX (a3+1),aX (a4+1))) else(rec1 (a3,aX (a4+1)))))) else(some a3))
def Du (p0:List cB):Option (Int):=(aS (S1 p0) aI (0,0))
def Xy (p0:List cB):Option (Bool):=Option.bind (Du p0) fun x1=>((some (decide (x1=(p0.length:Int)))))
def Zg (p0:dC):Option (Bool):=Option.bind (iB 15 [p0.Account]) fun x1=>((bif x1 then Option.bind (iB 15 [p0.Title]) fun x2=>((bif x2 then Option.bind (iB 1099511627776 [p0.Until]) fun x3=>((bif x3 then Option.bind (iB 100 [p0.Plays]) fun x4=>((some x4)) else(some false))) else(some false))) else(some false)))
def L7 (p0:List dC)(rec1:(Int × Int)→Option (Int))(s1:Int × Int):Option (Int):=match s1 with|(a3,a4)=>(if a4<(p0.length:Int) then Option.bind (bG p0 a4) fun y5=>(Option.bind (Zg y5) fun x6=>((bif x6 then(rec1 (aX (a3+1),aX (a4+1))) else(rec1 (a3,aX (a4+1)))))) else(some a3))
def Dn (p0:List dC):Option (Int):=(aS (L7 p0) aI (0,0))
def Xv (p0:List dC):Option (Bool):=Option.bind (Dn p0) fun x1=>((some (decide (x1=(p0.length:Int)))))
def Dz (p0:bL)(p1:bL):Option (Bool):=(some (decide (p0.Receiver=p1.Receiver)))
def S2 (p0:List bL)(p1_0:bL)(rec1:(Int × Int)→Option (Int))(s1:Int × Int):Option (Int):=match s1 with|(a3,a4)=>(if a4<(p0.length:Int) then Option.bind (bG p0 a4) fun y5=>(Option.bind (Dz y5 p1_0) fun x6=>((bif x6 then(rec1 (aX (a3+1),aX (a4+1))) else(rec1 (a3,aX (a4+1)))))) else(some a3))
def Dw (p0:List bL)(p1_0:bL):Option (Int):=(aS (S2 p0 p1_0) aI (0,0))
def Ta (p0:bL)(p1:bL):Option (Bool):=(some (decide (p0.Home=p1.Home)))
def S3 (p0:List bL)(p1_0:bL)(rec1:(Int × Int)→Option (Int))(s1:Int × Int):Option (Int):=match s1 with|(a3,a4)=>(if a4<(p0.length:Int) then Option.bind (bG p0 a4) fun y5=>(Option.bind (Ta y5 p1_0) fun x6=>((bif x6 then(rec1 (aX (a3+1),aX (a4+1))) else(rec1 (a3,aX (a4+1)))))) else(some a3))
def Dx (p0:List bL)(p1_0:bL):Option (Int):=(aS (S3 p0 p1_0) aI (0,0))
def Tb (p0:bL)(p1:bL):Option (Bool):=(if p0.Home=p1.Home then(some (decide (p0.Account≠p1.Account))) else(some false))
def S4 (p0:List bL)(p1_0:bL)(rec1:(Int × Int)→Option (Int))(s1:Int × Int):Option (Int):=match s1 with|(a3,a4)=>(if a4<(p0.length:Int) then Option.bind (bG p0 a4) fun y5=>(Option.bind (Tb y5 p1_0) fun x6=>((bif x6 then(rec1 (aX (a3+1),aX (a4+1))) else(rec1 (a3,aX (a4+1)))))) else(some a3))
def Dy (p0:List bL)(p1_0:bL):Option (Int):=(aS (S4 p0 p1_0) aI (0,0))
def pZ (p0:dQ)(p1:bL)(a2:Bool):Option (Bool):=(bif a2 then(some false) else Option.bind (Dw p0.Books.Cards p1) fun x3=>(Option.bind (Dx p0.Books.Cards p1) fun x4=>(Option.bind (Dy p0.Books.Cards p1) fun x5=>((if x3=1 then(if p1.Home=0 then(some true) else(if x4≤4 then(some (decide (x5=0))) else(some false))) else(some false))))))
def qH (p0:dQ)(p1:bL)(a1:Bool):Option (Bool):=(bif (!a1) then(pZ p0 p1 true) else(if p1.Home=0 then(if(0:Int)<p1.Met then(pZ p0 p1 true) else(bif p1.Dead then(pZ p0 p1 (decide ((0:Int)<p1.Home))) else(pZ p0 p1 false))) else(bif p1.Dead then(pZ p0 p1 (decide ((0:Int)<p1.Home))) else(pZ p0 p1 false))))
def Za (p0:dQ)(p1:bL):Option (Bool):=Option.bind (iB 63 [p1.Receiver]) fun x6=>((bif x6 then Option.bind (iB 15 [p1.Account]) fun x7=>((bif x7 then(if p1.Region<8#8 then(if p1.Level≤3#8 then Option.bind (iB 8 [p1.Home]) fun x8=>((bif x8 then Option.bind (iB 1099511627777 [p1.Met]) fun x9=>((qH p0 p1 x9)) else(qH p0 p1 false))) else(qH p0 p1 false)) else(qH p0 p1 false)) else(qH p0 p1 false))) else(qH p0 p1 false)))
def S6 (p0:List bL)(p1_0:dQ)(rec1:(Int × Int)→Option (Int))(s1:Int × Int):Option (Int):=match s1 with|(a3,a4)=>(if a4<(p0.length:Int) then Option.bind (bG p0 a4) fun y5=>(Option.bind (Za p1_0 y5) fun x6=>((bif x6 then(rec1 (aX (a3+1),aX (a4+1))) else(rec1 (a3,aX (a4+1)))))) else(some a3))
def Dv (p0:List bL)(p1_0:dQ):Option (Int):=(aS (S6 p0 p1_0) aI (0,0))
def Xw (p0:List bL)(p1_0:dQ):Option (Bool):=Option.bind (Dv p0 p1_0) fun x1=>((some (decide (x1=(p0.length:Int)))))
def S9 (p0:dQ)(p1:Int)(p2:Bool):Option (Bool):=(if(0:Int)≤p1 then(if p1<(p0.Books.Products.length:Int) then Option.bind (bG p0.Books.Products p1) fun y1=>((some (y1.View == p2))) else(some false)) else(some false))
def Ze (p0:dL)(p1_p:dQ):Option (Bool):=Option.bind (iB 15 [p0.Account]) fun x1=>((bif x1 then Option.bind (S9 p1_p p0.Product false) fun x2=>((bif x2 then Option.bind (iB 1099511627776 [p0.From,p0.To]) fun x3=>((bif x3 then(some (decide (p0.From<p0.To))) else(some false))) else(some false))) else(some false)))
def S0 (p0:List dL)(p1_0_p:dQ)(rec1:(Int × Int)→Option (Int))(s1:Int × Int):Option (Int):=match s1 with|(a3,a4)=>(if a4<(p0.length:Int) then Option.bind (bG p0 a4) fun y5=>(Option.bind (Ze y5 p1_0_p) fun x6=>((bif x6 then(rec1 (aX (a3+1),aX (a4+1))) else(rec1 (a3,aX (a4+1)))))) else(some a3))
def Dt (p0:List dL)(p1_0_p:dQ):Option (Int):=(aS (S0 p0 p1_0_p) aI (0,0))
def Xx (p0:List dL)(p1_0_p:dQ):Option (Bool):=Option.bind (Dt p0 p1_0_p) fun x1=>((some (decide (x1=(p0.length:Int)))))
def F9 (p0:cK)(p1:cK):Option (Bool):=(if p0.Account=p1.Account then(if p0.Product=p1.Product then(some (decide (p0.Epoch=p1.Epoch))) else(some false)) else(some false))
def Te (p0:cK)(p1:cK):Option (Bool):=Option.bind (F9 p1 p0) fun x1=>((some x1))
def L8 (p0:List cK)(p1_0:cK)(rec1:(Int × Int)→Option (Int))(s1:Int × Int):Option (Int):=match s1 with|(a3,a4)=>(if a4<(p0.length:Int) then Option.bind (bG p0 a4) fun y5=>(Option.bind (Te y5 p1_0) fun x6=>((bif x6 then(rec1 (aX (a3+1),aX (a4+1))) else(rec1 (a3,aX (a4+1)))))) else(some a3))
def Dq (p0:List cK)(p1_0:cK):Option (Int):=(aS (L8 p0 p1_0) aI (0,0))
def Zf (p0:cK)(p1_p:dQ):Option (Bool):=Option.bind (Dq p1_p.Books.Sales p0) fun x1=>(Option.bind (iB 15 [p0.Account]) fun x2=>((bif x2 then Option.bind (S9 p1_p p0.Product true) fun x3=>((bif x3 then Option.bind (iB 1099511627776 [p0.Epoch]) fun x4=>((bif x4 then Option.bind (iB 1000 [p0.Price]) fun x5=>((bif x5 then(some (decide (x1=1))) else(some false))) else(some false))) else(some false))) else(some false))))
def L9 (p0:List cK)(p1_0_p:dQ)(rec1:(Int × Int)→Option (Int))(s1:Int × Int):Option (Int):=match s1 with|(a3,a4)=>(if a4<(p0.length:Int) then Option.bind (bG p0 a4) fun y5=>(Option.bind (Zf y5 p1_0_p) fun x6=>((bif x6 then(rec1 (aX (a3+1),aX (a4+1))) else(rec1 (a3,aX (a4+1)))))) else(some a3))
def Dp (p0:List cK)(p1_0_p:dQ):Option (Int):=(aS (L9 p0 p1_0_p) aI (0,0))
def Xz (p0:List cK)(p1_0_p:dQ):Option (Bool):=Option.bind (Dp p0 p1_0_p) fun x1=>((some (decide (x1=(p0.length:Int)))))
def rE (p0:dQ)(a1:Bool):Option (Bool):=(bif a1 then(some false) else Option.bind (iB 100000 [p0.Books.Credits.a0,p0.Books.Credits.a1,p0.Books.Credits.a2,p0.Books.Credits.a3,p0.Books.Credits.a4,p0.Books.Credits.a5,p0.Books.Credits.a6,p0.Books.Credits.a7,p0.Books.Credits.a8,p0.Books.Credits.a9,p0.Books.Credits.a10,p0.Books.Credits.a11,p0.Books.Credits.a12,p0.Books.Credits.a13,p0.Books.Credits.a14,p0.Books.Credits.a15]) fun x2=>((bif x2 then Option.bind (Xy p0.Books.Products) fun x3=>((bif x3 then Option.bind (Xw p0.Books.Cards p0) fun x4=>((bif x4 then Option.bind (Xx p0.Books.Grants p0) fun x5=>((bif x5 then Option.bind (Xz p0.Books.Sales p0) fun x6=>((bif x6 then Option.bind (Xv p0.Books.Licences) fun x7=>((some x7)) else(some false))) else(some false))) else(some false))) else(some false))) else(some false))))
def Zc (p0:dQ):Option (Bool):=(if(8:Int)<(p0.Books.Products.length:Int) then(rE p0 true) else(if(64:Int)<(p0.Books.Cards.length:Int) then(rE p0 true) else(if(64:Int)<(p0.Books.Grants.length:Int) then(rE p0 true) else(if(64:Int)<(p0.Books.Sales.length:Int) then(rE p0 true) else(rE p0 (decide ((64:Int)<(p0.Books.Licences.length:Int))))))))
def L5 (p0:dD):Option (Int):=Option.bind (Zc (dQ.mk p0)) fun x1=>((bif (!x1) then(some 8) else(some 0)))
end
end Go.Sx

end
section

end
section
namespace Go.Sx
open Go Go.RowKit
noncomputable section
structure oZ where
 a0:Int
 a1:Int
 a2:Int
 a3:Int
deriving DecidableEq,Inhabited
def oZ.cs (x:oZ)  : List Value:=[.int .i64 x.a0,.int .i64 x.a1,.int .i64 x.a2,.int .i64 x.a3]
theorem oZ.cs_ones (x:oZ)   : bI (oZ.cs x )=true:=by simp only[oZ.cs,List.cons_append,List.nil_append,kb,bI,fC,fB,fM,cond_true]
theorem oZ.cs_inj {x y:oZ}(h:oZ.cs x=oZ.cs y):x=y:=by
 have h0:x.a0=y.a0:=dJ (congrArg (fun l=>l[0]?) h);have h1:x.a1=y.a1:=dJ (congrArg (fun l=>l[1]?) h);have h2:x.a2=y.a2:=dJ (congrArg (fun l=>l[2]?) h);have h3:x.a3=y.a3:=dJ (congrArg (fun l=>l[3]?) h);cases x;cases y;simp only at *;subst h0;subst h1;subst h2;subst h3;rfl
def Tc (p0:bL)(p1:Int):Option (Bool):=(some (decide (p0.Receiver=p1)))
def R6 (p0:List bL)(p1_0:Int)(rec1:(Int)→Option (Int))(a2:Int):Option (Int):=(if a2<(p0.length:Int) then Option.bind (bG p0 a2) fun y3=>(Option.bind (Tc y3 p1_0) fun x4=>((bif x4 then(some a2) else(rec1 (aX (a2+1)))))) else(some (-1)))
def Gc (p0:List bL)(p1_0:Int):Option (Int):=(aS (R6 p0 p1_0) aI 0)
def Td (p0:bL)(p1:Int):Option (Bool):=(some (decide (p0.Home=p1)))
def R7 (p0:List bL)(p1_0:Int)(rec1:(Int)→Option (Int))(a2:Int):Option (Int):=(if a2<(p0.length:Int) then Option.bind (bG p0 a2) fun y3=>(Option.bind (Td y3 p1_0) fun x4=>((bif x4 then(some a2) else(rec1 (aX (a2+1)))))) else(some (-1)))
def Gd (p0:List bL)(p1_0:Int):Option (Int):=(aS (R7 p0 p1_0) aI 0)
def Zb (p0:dQ)(p1:Int):Option (Int):=Option.bind (Gd p0.Books.Cards p1) fun x1=>((if x1<0 then(some (-1)) else Option.bind (bG p0.Books.Cards x1) fun y2=>((some x1))))
def F7 (p0:dQ)(p2:Int)(p3:Int)(y5:bL)(rec3:(Int)→Option (Bool))(a10:Int):Option (Bool):=(if a10<(p0.Books.Sales.length:Int) then Option.bind (bG p0.Books.Sales a10) fun y11=>(Option.bind (F9 y11 (cK.mk y5.Account p2 p3 0)) fun x12=>((bif x12 then(some (decide ((0:Int)≤a10))) else(rec3 (aX (a10+1)))))) else(some (decide ((0:Int)≤(-1)))))
def F8 (p0:dQ)(p2:Int)(p3:Int)(y5:bL)(rec4:(Int)→Option (Bool))(a14:Int):Option (Bool):=(if a14<(p0.Books.Grants.length:Int) then Option.bind (bG p0.Books.Grants a14) fun y15=>((if y15.Account=y5.Account then(if y15.Product=p2 then(if y15.From≤p3 then(if p3<y15.To then(some (decide ((0:Int)≤a14))) else(rec4 (aX (a14+1)))) else(rec4 (aX (a14+1)))) else(rec4 (aX (a14+1)))) else(rec4 (aX (a14+1))))) else(some (decide ((0:Int)≤(-1)))))
def tD (p0:dQ)(p2:Int)(p3:Int)(y5:bL)(y6:cB)(a8:Bool):Option (Bool):=(bif a8 then(some false) else(bif y6.View then(aS (F7 p0 p2 p3 y5) aI 0) else(aS (F8 p0 p2 p3 y5) aI 0)))
def F6 (p0:dQ)(p2:Int)(p3:Int)(x1:Int)(y5:bL)(y6:cB)(a7:Bool):Option (Bool):=(bif a7 then(some false) else(if(0:Int)<y5.Home then Option.bind (Zb p0 y5.Home) fun x16=>((if x16≠x1 then(if y5.Met=0 then(tD p0 p2 p3 y5 y6 true) else(tD p0 p2 p3 y5 y6 (decide (aX ((aX (y5.Met-1))+3)<p3)))) else(tD p0 p2 p3 y5 y6 false))) else(tD p0 p2 p3 y5 y6 false)))
def F4 (p0:dQ)(p1:Int)(p2:Int)(p3:Int):Option (Bool):=Option.bind (Gc p0.Books.Cards p1) fun x1=>((if x1<0 then Option.bind (bG p0.Books.Products p2) fun y2=>((some false)) else Option.bind (bG p0.Books.Cards x1) fun y3=>((bif y3.Dead then Option.bind (bG p0.Books.Products p2) fun y4=>((some false)) else Option.bind (bG p0.Books.Cards x1) fun y5=>(Option.bind (bG p0.Books.Products p2) fun y6=>(Option.bind (eK (aC y5.Region)) fun nn17=>((if(y6.Regions >>> nn17) &&& 1#8=0#8 then(F6 p0 p2 p3 x1 y5 y6 true) else(F6 p0 p2 p3 x1 y5 y6 (decide (y5.Level<y6.Level)))))))))))
def L6 (p0:dD)(p1:Int)(p2:Int)(nn4:Nat)(rec2:(List Int × Int)→Option (List Int × Int))(s2:List Int × Int):Option (List Int × Int):=match s2 with|(a8,a10)=>(if a10<cW 1 nn4 then Option.bind (F4 (dQ.mk p0) a10 p1 p2) fun x11=>((bif (!x11) then Option.bind (gG 8 a8 [a10]) fun l12=>((rec2 (l12,aX (a10+1)))) else(rec2 (a8,aX (a10+1))))) else(some (a8,0)))
def Xu (p0:dD)(p1:Int)(p2:Int)(p3:Int)(a2:Bool):Option (List Int × Int):=(bif a2 then(some ([],2)) else Option.bind (iB (aX ((p0.Products.length:Int)-1)) [p1]) fun x3=>((bif (!x3) then(some ([],6)) else Option.bind (eK p3) fun nn4=>((aS (L6 p0 p1 p2 nn4) aI ([],0))))))
def Xt (p0:dD)(p1:Int)(p2:Int)(p3:Int):Option (List Int × Int):=Option.bind (L5 p0) fun x1=>((if x1≠0 then(some ([],x1)) else Option.bind (iB 1099511627776 [p2]) fun x13=>((bif (!x13) then(Xu p0 p1 p2 p3 true) else Option.bind (iB 6 [p3]) fun x14=>((Xu p0 p1 p2 p3 (!x14)))))))
def Xs (p0:dD)(p1:Int)(p2:Int)(p3:Int)(a2:Bool):Option (Bool × Int):=(bif a2 then(some (false,2)) else Option.bind (iB (aX ((p0.Products.length:Int)-1)) [p2]) fun x3=>((bif (!x3) then(some (false,6)) else Option.bind (F4 (dQ.mk p0) p1 p2 p3) fun x4=>((some (x4,0))))))
def Xr (p0:dD)(p1:Int)(p2:Int)(p3:Int):Option (Bool × Int):=Option.bind (L5 p0) fun x1=>((if x1≠0 then(some (false,x1)) else Option.bind (iB 63 [p1]) fun x5=>((bif (!x5) then(Xs p0 p1 p2 p3 true) else Option.bind (iB 1099511627776 [p3]) fun x6=>((Xs p0 p1 p2 p3 (!x6)))))))
def L3 (p0:dD):Option (Bool):=(if(20:Int)<(p0.Products.length:Int) then(some true) else(if(80:Int)<(p0.Cards.length:Int) then(some true) else(if(80:Int)<(p0.Grants.length:Int) then(some true) else(if(80:Int)<(p0.Sales.length:Int) then(some true) else(some (decide ((80:Int)<(p0.Licences.length:Int))))))))
end
end Go.Sx

end
section

end
section
namespace Go.Sx
open Go
def vA {α:Type}(l:List α)(lo hi:Int):Option Nat:=if 0≤lo∧lo<hi∧hi≤l.length then some (hi-lo).toNat else none
def kC (lo:Int)(n:Nat)(i:Int):Option Int:=if 0≤i∧i<(n:Int) then some (lo+i) else none
end Go.Sx

end
section
namespace Go.Sx
open Go Go.RowKit
noncomputable section
structure gB where
 a0:List Int
 a1:List Int
 a2:List Int
 a3:List Int
deriving DecidableEq,Inhabited
def gB.cs (x:gB)(v0:Value)(v1:Value)(v2:Value)(v3:Value):List Value:=[v0,v1,v2,v3]
theorem gB.cs_ones (x:gB)(v0:Value)(v1:Value)(v2:Value)(v3:Value)(h0:oneB v0=true)(h1:oneB v1=true)(h2:oneB v2=true)(h3:oneB v3=true):bI (gB.cs x v0 v1 v2 v3)=true:=by simp only[gB.cs,List.cons_append,List.nil_append,kb,bI,fC,fB,fM,cond_true,h0,h1,h2,h3]
structure bF where
 s:aF
 stride:Int
 rows:gB
 states:Int
deriving DecidableEq,Inhabited
def bF.cs (x:bF)(v0:Value)(v1:Value)(v2:Value)(v3:Value):List Value:=[bv x.s.Kind,.int .i64 x.s.Depth,.int .i64 x.s.Degree,wv x.s.Group.P,wv x.s.Group.Q,wv x.s.Group.G,.int .i64 x.stride,v0,v1,v2,v3,.int .i64 x.states]
theorem bF.cs_ones (x:bF)(v0:Value)(v1:Value)(v2:Value)(v3:Value)(h0:oneB v0=true)(h1:oneB v1=true)(h2:oneB v2=true)(h3:oneB v3=true):bI (bF.cs x v0 v1 v2 v3)=true:=by simp only[bF.cs,List.cons_append,List.nil_append,kb,bI,fC,fB,fM,cond_true,h0,h1,h2,h3]
def Hm (p0:Int)(rec1:(Int)→Option (Int))(a2:Int):Option (Int):=(if aX (a2*a2)<p0 then(rec1 (aX (a2+1))) else(some a2))
def Mj (p0:Int):Option (Int):=(aS (Hm p0) aI 1)
def Pd (p0:Int):Option (Int):=Option.bind (eK p0) fun nn1=>((some (aX ((cW 1 nn1)+1))))
def yB (p0:bF)(p1:Int):Option (Int):=(if p1=0 then(some 0) else(if p1=3 then(some 2) else(some 1)))
def Mg (p0:Int)(p1:Int):Option (Int × Int):=(some (p0,p1))
def Hl (p2:Int)(nn1:Nat)(rec1:(Int)→Option (List Int))(a3:Int):Option (List Int):=(if a3≤tJ p2 (cW 1 nn1) then(yl a3 ((rec1 (aX (a3+1))))) else(some []))
def Mh (p1:Int)(p2:Int):Option (List Int):=Option.bind (eK (aX (p1-1))) fun nn1=>((aS (Hl p2 nn1) aI (gO 0 (aX (p2-(cW 1 nn1))))))
def Qx (p0:bF)(p1:Int)(p2:Int):Option (List Int):=Option.bind (eK p2) fun nn1=>(Option.bind (Pd p2) fun x2=>((if p1=0 then Option.bind (nH p0.rows.a0 (aX ((aX ((cW 1 nn1)-1))+p2)) (aX ((aX ((aX ((cW 1 nn1)-1))+p2))+x2))) fun l3=>((some l3)) else(if p1=1 then Option.bind (nH p0.rows.a1 (aX ((aX ((cW 1 nn1)-1))+p2)) (aX ((aX ((aX ((cW 1 nn1)-1))+p2))+x2))) fun l4=>((some l4)) else(if p1=2 then Option.bind (nH p0.rows.a2 (aX ((aX ((cW 1 nn1)-1))+p2)) (aX ((aX ((aX ((cW 1 nn1)-1))+p2))+x2))) fun l5=>((some l5)) else(if p1=3 then Option.bind (nH p0.rows.a3 (aX ((aX ((cW 1 nn1)-1))+p2)) (aX ((aX ((aX ((cW 1 nn1)-1))+p2))+x2))) fun l6=>((some l6)) else none))))))
def Hu (p1:Int)(a3:Bool):Option (Int):=(bif a3 then(some 3) else(if p1=0 then(some 2) else(some p1)))
def Ht (p1:Int)(x1:Int)(a2:Bool):Option (Int):=(bif a2 then(some 1) else(if p1=2 then(Hu p1 (decide (x1=0))) else(Hu p1 false)))
def Hn (p0:bF)(p1:Int)(p2:Int):Option (Int):=(if p0.s.Kind=2#8 then(some 1) else Option.bind (nY (aX (p0.s.Depth-p2)) p0.stride) fun x1=>((if p1=0 then(Ht p1 x1 (decide (x1=0))) else(Ht p1 x1 false))))
def Pb (p0:bF)(p1:Int)(p2:Int)(p3:Int)(p4:Int)(x1:List Int)(a4:Bool):Option (Int):=(bif a4 then Option.bind (bG x1 p4) fun y5=>(Option.bind (bG x1 (aX (p3-p4))) fun y6=>(Option.bind (yB p0 p1) fun x7=>((some (aX ((aX (y5+y6))+x7)))))) else Option.bind (Hn p0 p1 p2) fun x8=>(Option.bind (Qx p0 x8 (aX (p2-1))) fun x9=>(Option.bind (bG x9 p3) fun y10=>((some y10)))))
def Mr (p0:bF)(p1:Int)(p2:Int)(p3:Int)(p4:Int):Option (Int):=Option.bind (Qx p0 0 (aX (p2-1))) fun x1=>((if p0.s.Kind=1#8 then Option.bind (bG x1 p4) fun y2=>(Option.bind (bG x1 (aX (p3-p4))) fun y3=>((some (aX (y2+y3))))) else(if(0:Int)<p4 then(Pb p0 p1 p2 p3 p4 x1 (decide (p4<p3))) else(Pb p0 p1 p2 p3 p4 x1 false))))
def Mn (p0:Int)(p1_p:bF)(p2:Int)(p3:Int)(p4:Int):Option (Int):=Option.bind (Mr p1_p p2 p3 p4 p0) fun x1=>((some x1))
def Wq (a5:Int)(a6:Int)(a7:Bool)(nx1:(Int × Int × Bool)→Option (Int × Int))(e8:Int)(x9:Int)(a10:Bool):Option (Int × Int):=(bif a10 then(nx1 (x9,e8,false)) else(nx1 (a5,a6,a7)))
def Wp  (s:Int × Int × Bool):Option (Int × Int):=match s with|(a5,a6,a7)=>(some (a5,a6))
def Wr (p1_0_p:bF)(p1_1:Int)(p1_2:Int)(p1_3:Int)(e8:Int)(nx1:(Int × Int × Bool)→Option (Int × Int))(s:Int × Int × Bool):Option (Int × Int):=match s with|(a5,a6,a7)=>Option.bind (Mn e8 p1_0_p p1_1 p1_2 p1_3) fun x9=>((bif a7 then(Wq a5 a6 a7 nx1 e8 x9 true) else(Wq a5 a6 a7 nx1 e8 x9 (decide (a5<x9)))))
def Me (p0_0:Int)(p0_1:Int)(p1_0_p:bF)(p1_1:Int)(p1_2:Int)(p1_3:Int):Option (Int × Int):=Option.bind (Mh p0_0 p0_1) fun l1=>((eS (Wr p1_0_p p1_1 p1_2 p1_3) Wp l1 (0,0,true)))
def yR (p0:bF)(p1:Int)(p2:Int)(p3:Int):Option (Int × Int):=Option.bind (Mg p2 p3) fun x1=>(Option.bind (Me x1.1 x1.2 p0 p1 p2 p3) fun x2=>((some (x2.1,x2.2))))
def Qv (p0:aF)(y1:Int)(x2:Int)(a35:Int)(a56:Int)(a58:List Int)(a59:List Int)(a60:List Int)(nn65:Nat)(nn67:Nat)(a71:Int)(a72:List Int)(rec4:(Int × List Int)→Option (bF))(a77:Bool):Option (bF):=(bif a77 then Option.bind (kC (aX ((aX ((cW 1 nn65)-1))+a35)) nn67 a71) fun j78=>(Option.bind (bG a72 j78) fun y79=>((rec4 (aX (a71+1),a72.set j78.toNat 0)))) else(if a35=0 then Option.bind (yB (bF.mk p0 x2 (gB.mk a72 a58 a59 a60) y1) a56) fun x80=>(Option.bind (kC (aX ((aX ((cW 1 nn65)-1))+a35)) nn67 a71) fun j81=>(Option.bind (bG a72 j81) fun y82=>((rec4 (aX (a71+1),a72.set j81.toNat x80))))) else Option.bind (yR (bF.mk p0 x2 (gB.mk a72 a58 a59 a60) y1) a56 a35 a71) fun x83=>(Option.bind (kC (aX ((aX ((cW 1 nn65)-1))+a35)) nn67 a71) fun j84=>(Option.bind (bG a72 j84) fun y85=>((rec4 (aX (a71+1),a72.set j84.toNat x83.1)))))))
def Wy (p0:aF)(y1:Int)(x2:Int)(a35:Int)(a56:Int)(a58:List Int)(a59:List Int)(a60:List Int)(nn65:Nat)(nn67:Nat)(a71:Int)(a72:List Int)(rec4:(Int × List Int)→Option (bF))(a74:Bool):Option (bF):=(bif a74 then Option.bind (kC (aX ((aX ((cW 1 nn65)-1))+a35)) nn67 a71) fun j75=>(Option.bind (bG a72 j75) fun y76=>((rec4 (aX (a71+1),a72.set j75.toNat 1)))) else(if a71=0 then(Qv p0 y1 x2 a35 a56 a58 a59 a60 nn65 nn67 a71 a72 rec4 true) else(if p0.Kind=1#8 then(Qv p0 y1 x2 a35 a56 a58 a59 a60 nn65 nn67 a71 a72 rec4 (decide (a35=0))) else(Qv p0 y1 x2 a35 a56 a58 a59 a60 nn65 nn67 a71 a72 rec4 false))))
def Hj (p0:aF)(y1:Int)(x2:Int)(a35:Int)(a56:Int)(a58:List Int)(a59:List Int)(a60:List Int)(rec3:(Int × List Int × List Int × List Int × List Int)→Option (bF))(nn65:Nat)(nn67:Nat)(rec4:(Int × List Int)→Option (bF))(s4:Int × List Int):Option (bF):=match s4 with|(a71,a72)=>(if a71<(nn67:Int) then(if p0.Kind=1#8 then(Wy p0 y1 x2 a35 a56 a58 a59 a60 nn65 nn67 a71 a72 rec4 (decide (a71=0))) else(Wy p0 y1 x2 a35 a56 a58 a59 a60 nn65 nn67 a71 a72 rec4 false)) else(rec3 (aX (a56+1),a72,a58,a59,a60)))
def Qw (p0:aF)(y1:Int)(x2:Int)(a35:Int)(a56:Int)(a57:List Int)(a59:List Int)(a60:List Int)(nn65:Nat)(nn86:Nat)(a90:Int)(a91:List Int)(rec7:(Int × List Int)→Option (bF))(a96:Bool):Option (bF):=(bif a96 then Option.bind (kC (aX ((aX ((cW 1 nn65)-1))+a35)) nn86 a90) fun j97=>(Option.bind (bG a91 j97) fun y98=>((rec7 (aX (a90+1),a91.set j97.toNat 0)))) else(if a35=0 then Option.bind (yB (bF.mk p0 x2 (gB.mk a57 a91 a59 a60) y1) a56) fun x99=>(Option.bind (kC (aX ((aX ((cW 1 nn65)-1))+a35)) nn86 a90) fun j100=>(Option.bind (bG a91 j100) fun y101=>((rec7 (aX (a90+1),a91.set j100.toNat x99))))) else Option.bind (yR (bF.mk p0 x2 (gB.mk a57 a91 a59 a60) y1) a56 a35 a90) fun x102=>(Option.bind (kC (aX ((aX ((cW 1 nn65)-1))+a35)) nn86 a90) fun j103=>(Option.bind (bG a91 j103) fun y104=>((rec7 (aX (a90+1),a91.set j103.toNat x102.1)))))))
def Wz (p0:aF)(y1:Int)(x2:Int)(a35:Int)(a56:Int)(a57:List Int)(a59:List Int)(a60:List Int)(nn65:Nat)(nn86:Nat)(a90:Int)(a91:List Int)(rec7:(Int × List Int)→Option (bF))(a93:Bool):Option (bF):=(bif a93 then Option.bind (kC (aX ((aX ((cW 1 nn65)-1))+a35)) nn86 a90) fun j94=>(Option.bind (bG a91 j94) fun y95=>((rec7 (aX (a90+1),a91.set j94.toNat 1)))) else(if a90=0 then(Qw p0 y1 x2 a35 a56 a57 a59 a60 nn65 nn86 a90 a91 rec7 true) else(if p0.Kind=1#8 then(Qw p0 y1 x2 a35 a56 a57 a59 a60 nn65 nn86 a90 a91 rec7 (decide (a35=0))) else(Qw p0 y1 x2 a35 a56 a57 a59 a60 nn65 nn86 a90 a91 rec7 false))))
def Hk (p0:aF)(y1:Int)(x2:Int)(a35:Int)(a56:Int)(a57:List Int)(a59:List Int)(a60:List Int)(rec3:(Int × List Int × List Int × List Int × List Int)→Option (bF))(nn65:Nat)(nn86:Nat)(rec7:(Int × List Int)→Option (bF))(s7:Int × List Int):Option (bF):=match s7 with|(a90,a91)=>(if a90<(nn86:Int) then(if p0.Kind=1#8 then(Wz p0 y1 x2 a35 a56 a57 a59 a60 nn65 nn86 a90 a91 rec7 (decide (a90=0))) else(Wz p0 y1 x2 a35 a56 a57 a59 a60 nn65 nn86 a90 a91 rec7 false)) else(rec3 (aX (a56+1),a57,a91,a59,a60)))
def Qt (p0:aF)(y1:Int)(x2:Int)(a35:Int)(a56:Int)(a57:List Int)(a58:List Int)(a60:List Int)(nn65:Nat)(nn105:Nat)(a109:Int)(a110:List Int)(rec10:(Int × List Int)→Option (bF))(a115:Bool):Option (bF):=(bif a115 then Option.bind (kC (aX ((aX ((cW 1 nn65)-1))+a35)) nn105 a109) fun j116=>(Option.bind (bG a110 j116) fun y117=>((rec10 (aX (a109+1),a110.set j116.toNat 0)))) else(if a35=0 then Option.bind (yB (bF.mk p0 x2 (gB.mk a57 a58 a110 a60) y1) a56) fun x118=>(Option.bind (kC (aX ((aX ((cW 1 nn65)-1))+a35)) nn105 a109) fun j119=>(Option.bind (bG a110 j119) fun y120=>((rec10 (aX (a109+1),a110.set j119.toNat x118))))) else Option.bind (yR (bF.mk p0 x2 (gB.mk a57 a58 a110 a60) y1) a56 a35 a109) fun x121=>(Option.bind (kC (aX ((aX ((cW 1 nn65)-1))+a35)) nn105 a109) fun j122=>(Option.bind (bG a110 j122) fun y123=>((rec10 (aX (a109+1),a110.set j122.toNat x121.1)))))))
def Ww (p0:aF)(y1:Int)(x2:Int)(a35:Int)(a56:Int)(a57:List Int)(a58:List Int)(a60:List Int)(nn65:Nat)(nn105:Nat)(a109:Int)(a110:List Int)(rec10:(Int × List Int)→Option (bF))(a112:Bool):Option (bF):=(bif a112 then Option.bind (kC (aX ((aX ((cW 1 nn65)-1))+a35)) nn105 a109) fun j113=>(Option.bind (bG a110 j113) fun y114=>((rec10 (aX (a109+1),a110.set j113.toNat 1)))) else(if a109=0 then(Qt p0 y1 x2 a35 a56 a57 a58 a60 nn65 nn105 a109 a110 rec10 true) else(if p0.Kind=1#8 then(Qt p0 y1 x2 a35 a56 a57 a58 a60 nn65 nn105 a109 a110 rec10 (decide (a35=0))) else(Qt p0 y1 x2 a35 a56 a57 a58 a60 nn65 nn105 a109 a110 rec10 false))))
def Hf (p0:aF)(y1:Int)(x2:Int)(a35:Int)(a56:Int)(a57:List Int)(a58:List Int)(a60:List Int)(rec3:(Int × List Int × List Int × List Int × List Int)→Option (bF))(nn65:Nat)(nn105:Nat)(rec10:(Int × List Int)→Option (bF))(s10:Int × List Int):Option (bF):=match s10 with|(a109,a110)=>(if a109<(nn105:Int) then(if p0.Kind=1#8 then(Ww p0 y1 x2 a35 a56 a57 a58 a60 nn65 nn105 a109 a110 rec10 (decide (a109=0))) else(Ww p0 y1 x2 a35 a56 a57 a58 a60 nn65 nn105 a109 a110 rec10 false)) else(rec3 (aX (a56+1),a57,a58,a110,a60)))
def Qu (p0:aF)(y1:Int)(x2:Int)(a35:Int)(a56:Int)(a57:List Int)(a58:List Int)(a59:List Int)(nn65:Nat)(nn124:Nat)(a128:Int)(a129:List Int)(rec13:(Int × List Int)→Option (bF))(a134:Bool):Option (bF):=(bif a134 then Option.bind (kC (aX ((aX ((cW 1 nn65)-1))+a35)) nn124 a128) fun j135=>(Option.bind (bG a129 j135) fun y136=>((rec13 (aX (a128+1),a129.set j135.toNat 0)))) else(if a35=0 then Option.bind (yB (bF.mk p0 x2 (gB.mk a57 a58 a59 a129) y1) a56) fun x137=>(Option.bind (kC (aX ((aX ((cW 1 nn65)-1))+a35)) nn124 a128) fun j138=>(Option.bind (bG a129 j138) fun y139=>((rec13 (aX (a128+1),a129.set j138.toNat x137))))) else Option.bind (yR (bF.mk p0 x2 (gB.mk a57 a58 a59 a129) y1) a56 a35 a128) fun x140=>(Option.bind (kC (aX ((aX ((cW 1 nn65)-1))+a35)) nn124 a128) fun j141=>(Option.bind (bG a129 j141) fun y142=>((rec13 (aX (a128+1),a129.set j141.toNat x140.1)))))))
def Wx (p0:aF)(y1:Int)(x2:Int)(a35:Int)(a56:Int)(a57:List Int)(a58:List Int)(a59:List Int)(nn65:Nat)(nn124:Nat)(a128:Int)(a129:List Int)(rec13:(Int × List Int)→Option (bF))(a131:Bool):Option (bF):=(bif a131 then Option.bind (kC (aX ((aX ((cW 1 nn65)-1))+a35)) nn124 a128) fun j132=>(Option.bind (bG a129 j132) fun y133=>((rec13 (aX (a128+1),a129.set j132.toNat 1)))) else(if a128=0 then(Qu p0 y1 x2 a35 a56 a57 a58 a59 nn65 nn124 a128 a129 rec13 true) else(if p0.Kind=1#8 then(Qu p0 y1 x2 a35 a56 a57 a58 a59 nn65 nn124 a128 a129 rec13 (decide (a35=0))) else(Qu p0 y1 x2 a35 a56 a57 a58 a59 nn65 nn124 a128 a129 rec13 false))))
def Hg (p0:aF)(y1:Int)(x2:Int)(a35:Int)(a56:Int)(a57:List Int)(a58:List Int)(a59:List Int)(rec3:(Int × List Int × List Int × List Int × List Int)→Option (bF))(nn65:Nat)(nn124:Nat)(rec13:(Int × List Int)→Option (bF))(s13:Int × List Int):Option (bF):=match s13 with|(a128,a129)=>(if a128<(nn124:Int) then(if p0.Kind=1#8 then(Wx p0 y1 x2 a35 a56 a57 a58 a59 nn65 nn124 a128 a129 rec13 (decide (a128=0))) else(Wx p0 y1 x2 a35 a56 a57 a58 a59 nn65 nn124 a128 a129 rec13 false)) else(rec3 (aX (a56+1),a57,a58,a59,a129)))
def Hi (p0:aF)(y1:Int)(x2:Int)(a35:Int)(rec2:(Int × List Int × List Int × List Int × List Int)→Option (bF))(rec3:(Int × List Int × List Int × List Int × List Int)→Option (bF))(s3:Int × List Int × List Int × List Int × List Int):Option (bF):=match s3 with|(a56,a57,a58,a59,a60)=>(if a56<y1 then Option.bind (eK a35) fun nn65=>(Option.bind (Pd a35) fun x66=>((if a56=0 then Option.bind (vA a57 (aX ((aX ((cW 1 nn65)-1))+a35)) (aX ((aX ((aX ((cW 1 nn65)-1))+a35))+x66))) fun nn67=>((aS (Hj p0 y1 x2 a35 a56 a58 a59 a60 rec3 nn65 nn67) aI (0,a57))) else(if a56=1 then Option.bind (vA a58 (aX ((aX ((cW 1 nn65)-1))+a35)) (aX ((aX ((aX ((cW 1 nn65)-1))+a35))+x66))) fun nn86=>((aS (Hk p0 y1 x2 a35 a56 a57 a59 a60 rec3 nn65 nn86) aI (0,a58))) else(if a56=2 then Option.bind (vA a59 (aX ((aX ((cW 1 nn65)-1))+a35)) (aX ((aX ((aX ((cW 1 nn65)-1))+a35))+x66))) fun nn105=>((aS (Hf p0 y1 x2 a35 a56 a57 a58 a60 rec3 nn65 nn105) aI (0,a59))) else(if a56=3 then Option.bind (vA a60 (aX ((aX ((cW 1 nn65)-1))+a35)) (aX ((aX ((aX ((cW 1 nn65)-1))+a35))+x66))) fun nn124=>((aS (Hg p0 y1 x2 a35 a56 a57 a58 a59 rec3 nn65 nn124) aI (0,a60))) else none)))))) else(rec2 (aX (a35+1),a57,a58,a59,a60)))
def Hh (p0:aF)(y1:Int)(x2:Int)(rec2:(Int × List Int × List Int × List Int × List Int)→Option (bF))(s2:Int × List Int × List Int × List Int × List Int):Option (bF):=match s2 with|(a35,a36,a37,a38,a39)=>(if a35<aX (p0.Depth+1) then(aS (Hi p0 y1 x2 a35 rec2) aI (0,a36,a37,a38,a39)) else(some (bF.mk p0 x2 (gB.mk a36 a37 a38 a39) y1)))
def He (p0:aF)(y1:Int)(x2:Int)(nn3:Nat)(rec1:(Int × List Int × List Int × List Int × List Int)→Option (bF))(s1:Int × List Int × List Int × List Int × List Int):Option (bF):=match s1 with|(a16,a17,a18,a19,a20)=>(if a16<y1 then Option.bind (T1 8 (aX ((aX ((aX ((cW 1 nn3)-1))+p0.Depth))+1)) 0) fun l25=>((if a16=0 then(rec1 (aX (a16+1),l25,a18,a19,a20)) else(if a16=1 then(rec1 (aX (a16+1),a17,l25,a19,a20)) else(if a16=2 then(rec1 (aX (a16+1),a17,a18,l25,a20)) else(if a16=3 then(rec1 (aX (a16+1),a17,a18,a19,l25)) else none))))) else(aS (Hh p0 y1 x2) aI (0,a17,a18,a19,a20)))
def iR (p0:aF):Option (bF):=Option.bind (bG ([0,1,2,4]:List Int) (aC p0.Kind)) fun y1=>(Option.bind (Mj p0.Depth) fun x2=>(Option.bind (eK (aX (p0.Depth+1))) fun nn3=>((aS (He p0 y1 x2 nn3) aI (0,[],[],[],[])))))
end
end Go.Sx

end
section

end
section
namespace Go.Sx
open Go Go.RowKit
noncomputable section
end
end Go.Sx

end
section
namespace Go.Sx
open Go Go.RowKit
noncomputable section
structure cO where
 Depth:Int
 Revoked:Int
 Storage:Int
 Headers:Int
 HeaderPrice:Int
 StoragePrice:Int
 Group:dR
deriving DecidableEq,Inhabited
def cO.cs (x:cO)  : List Value:=[.int .i64 x.Depth,.int .i64 x.Revoked,.int .i64 x.Storage,.int .i64 x.Headers,.int .i64 x.HeaderPrice,.int .i64 x.StoragePrice,wv x.Group.P,wv x.Group.Q,wv x.Group.G]
theorem cO.cs_ones (x:cO)   : bI (cO.cs x )=true:=by simp only[cO.cs,List.cons_append,List.nil_append,kb,bI,fC,fB,fM,cond_true]
theorem cO.cs_inj {x y:cO}(h:cO.cs x=cO.cs y):x=y:=by
 have h0:x.Depth=y.Depth:=dJ (congrArg (fun l=>l[0]?) h);have h1:x.Revoked=y.Revoked:=dJ (congrArg (fun l=>l[1]?) h);have h2:x.Storage=y.Storage:=dJ (congrArg (fun l=>l[2]?) h);have h3:x.Headers=y.Headers:=dJ (congrArg (fun l=>l[3]?) h);have h4:x.HeaderPrice=y.HeaderPrice:=dJ (congrArg (fun l=>l[4]?) h);have h5:x.StoragePrice=y.StoragePrice:=dJ (congrArg (fun l=>l[5]?) h);have h6:x.Group=y.Group:=dR.cs_inj (congrArg (fun l=>(l.drop 6).take 3) h);cases x;cases y;simp only at *;subst h0;subst h1;subst h2;subst h3;subst h4;subst h5;subst h6;rfl
structure cL where
 Kind:BitVec 8
 Fits:Bool
 Items:Int
 Points:Int
 Header:Int
 Storage:Int
 Cost:Int
 Witness:List Int
deriving DecidableEq,Inhabited
def cL.cs (x:cL)(v0:Value):List Value:=[bv x.Kind,.bool x.Fits,.int .i64 x.Items,.int .i64 x.Points,.int .i64 x.Header,.int .i64 x.Storage,.int .i64 x.Cost,v0]
theorem cL.cs_ones (x:cL)(v0:Value)(h0:oneB v0=true):bI (cL.cs x v0)=true:=by simp only[cL.cs,List.cons_append,List.nil_append,kb,bI,fC,fB,fM,cond_true,h0]
structure fH where
 Choices:List cL
 Best:BitVec 8
deriving DecidableEq,Inhabited
def fH.cs (x:fH)(v0:Value):List Value:=[v0,bv x.Best]
theorem fH.cs_ones (x:fH)(v0:Value)(h0:oneB v0=true):bI (fH.cs x v0)=true:=by simp only[fH.cs,List.cons_append,List.nil_append,kb,bI,fC,fB,fM,cond_true,h0]
def Pe (p0:Int)(p1:Int):Option (Bool):=(if p0<0 then(some true) else(some (decide (p1<p0))))
def R5 (p0:List Int)(p1_0:Int)(rec1:(Int)→Option (Int))(a2:Int):Option (Int):=(if a2<(p0.length:Int) then Option.bind (bG p0 a2) fun y3=>(Option.bind (Pe y3 p1_0) fun x4=>((bif x4 then(some a2) else(rec1 (aX (a2+1)))))) else(some (-1)))
def Ty (p0:List Int)(p1_0:Int):Option (Int):=(aS (R5 p0 p1_0) aI 0)
def Tw (p0:List Int)(p1_0:Int):Option (Bool):=Option.bind (Ty p0 p1_0) fun x1=>((some (decide ((0:Int)≤x1))))
def vH (p0:Int)(p1:List Int):Option (Bool):=Option.bind (Tw p1 p0) fun x1=>((some (!x1)))
def yL (a1:Bool):Option (Int):=(bif a1 then(some 2) else(some 0))
def Qr (p0:cO):Option (Int):=Option.bind (vH 6 [p0.Depth]) fun x2=>((bif (!x2) then(yL true) else Option.bind (eK p0.Depth) fun nn3=>(Option.bind (vH (cW 1 nn3) [p0.Revoked]) fun x4=>((bif (!x4) then(yL true) else Option.bind (vH 10000 [p0.Storage]) fun x5=>((bif (!x5) then(yL true) else Option.bind (vH 1000 [p0.Headers,p0.HeaderPrice,p0.StoragePrice]) fun x6=>((yL (!x6))))))))))
def Ms (p0:Int):Option (Int):=(some p0)
def Pc (p1:Int)(rec1:(Int)→Option (List Int))(a2:Int):Option (List Int):=(if a2≤p1 then(yl a2 ((rec1 (aX (a2+1))))) else(some []))
def Mt (p1:Int):Option (List Int):=(aS (Pc p1) aI 0)
def Mp (p0:bF)(p1:Int):Option (Int):=(if p1=0 then(some 1) else Option.bind (Qx p0 0 p0.s.Depth) fun x1=>(Option.bind (bG x1 p1) fun y2=>((some y2))))
def Wu (a5:Int)(a6:Int)(a7:Bool)(nx1:(Int × Int × Bool)→Option (Int × Int))(e8:Int)(x9:Int)(a10:Bool):Option (Int × Int):=(bif a10 then(nx1 (x9,e8,false)) else(nx1 (a5,a6,a7)))
def Wt  (s:Int × Int × Bool):Option (Int × Int):=match s with|(a5,a6,a7)=>(some (a5,a6))
def Wv (p1_0:bF)(e8:Int)(nx1:(Int × Int × Bool)→Option (Int × Int))(s:Int × Int × Bool):Option (Int × Int):=match s with|(a5,a6,a7)=>Option.bind (Mp p1_0 e8) fun x9=>((bif a7 then(Wu a5 a6 a7 nx1 e8 x9 true) else(Wu a5 a6 a7 nx1 e8 x9 (decide (a5<x9)))))
def Mf (p0_0:Int)(p1_0:bF):Option (Int × Int):=Option.bind (Mt p0_0) fun l1=>((eS (Wv p1_0) Wt l1 (0,0,true)))
def Xc (p0:bF)(p1:Int):Option (Int × Int):=Option.bind (Ms p1) fun x1=>(Option.bind (Mf x1 p0) fun x2=>((some (x2.1,x2.2))))
def Hz (p0:bF)(p1:List Int)(p2:Int)(p4:Int)(p5:Int)(rec0:(bF × List Int × Int × Int × Int × Int)→Option (List Int))(x3:Int × Int)(a4:Int):Option (List Int):=Option.bind (rec0 (p0,p1,aX (2*p2),a4,aX (p4-1),x3.2)) fun x5=>(Option.bind (rec0 (p0,x5,aX ((aX (2*p2))+1),a4,aX (p4-1),aX (p5-x3.2))) fun x6=>((some x6)))
def Qz (p0:bF)(p1:List Int)(p2:Int)(p3:Int)(p4:Int)(p5:Int)(rec0:(bF × List Int × Int × Int × Int × Int)→Option (List Int))(x3:Int × Int)(a7:Bool):Option (List Int):=(bif a7 then Option.bind (Hn p0 p3 p4) fun x8=>((Hz p0 p1 p2 p4 p5 rec0 x3 x8)) else(Hz p0 p1 p2 p4 p5 rec0 x3 0))
def Mq (rec0:((bF × List Int × Int × Int × Int × Int)→Option (List Int)))(p0:bF)(p1:List Int)(p2:Int)(p3:Int)(p4:Int)(p5:Int):Option (List Int):=(if p5=0 then(some p1) else(if p4=0 then Option.bind (eK p0.s.Depth) fun nn1=>(Option.bind (gG 8 p1 [aX (p2-(cW 1 nn1))]) fun l2=>((some l2))) else Option.bind (yR p0 p3 p4 p5) fun x3=>((if p0.s.Kind≠1#8 then(if x3.2=0 then(Qz p0 p1 p2 p3 p4 p5 rec0 x3 true) else(Qz p0 p1 p2 p3 p4 p5 rec0 x3 (decide (x3.2=p5)))) else(Qz p0 p1 p2 p3 p4 p5 rec0 x3 false)))))
def Hy (rec0:((bF × List Int × Int × Int × Int × Int)→Option (List Int)))(s:bF × List Int × Int × Int × Int × Int):Option (List Int):=match s with|(p0,p1,p2,p3,p4,p5)=>Mq rec0 p0 p1 p2 p3 p4 p5
def Hv (p0:bF)(p1:List Int)(p2:Int)(p3:Int)(p4:Int)(p5:Int):Option (List Int):=aS Hy aI (p0,p1,p2,p3,p4,p5)
def N0 (p0:cO)(p1:BitVec 8)(a2:Int)(a3:Int)(a4:Int)(a5:List Int):Option (cL × Int):=Option.bind (eK p0.Depth) fun nn7=>((some ((cL.mk p1 (decide (a4≤p0.Storage)) a2 a3 (aX ((aX (67+(aX (18*a2))))+(aX (16*a3)))) a4 (aX ((aX ((aX (p0.Headers*p0.HeaderPrice))*(aX ((aX (67+(aX (18*a2))))+(aX (16*a3))))))+(cW (aX (p0.StoragePrice*a4)) nn7))) a5),0)))
def Qs (p0:cO)(p1:BitVec 8)(a8:Bool):Option (cL × Int):=(bif a8 then(some ((cL.mk 0#8 false 0 0 0 0 0 []),2)) else(if p1=4#8 then Option.bind (oI (aF.mk p1 p0.Depth (gO p0.Revoked 1) p0.Group)) fun x9=>((if x9≠0 then(some ((cL.mk p1 false 0 0 0 0 0 []),0)) else(N0 p0 p1 0 (gO p0.Revoked 1) 8 []))) else Option.bind (iR (aF.mk p1 p0.Depth 0 (dR.mk 0#64 0#64 0#64))) fun x10=>(Option.bind (E9 (aF.mk p1 p0.Depth 0 (dR.mk 0#64 0#64 0#64))) fun x11=>(Option.bind (Xc x10 p0.Revoked) fun x12=>(Option.bind (Hv x10 ([]:List Int) 1 0 p0.Depth x12.2) fun x13=>((N0 p0 p1 x12.1 0 (aX (16*x11.1)) x13)))))))
def yS (p0:cO)(p1:BitVec 8):Option (cL × Int):=Option.bind (Qr p0) fun x1=>((if x1≠0 then(some ((cL.mk 0#8 false 0 0 0 0 0 []),x1)) else(if p1<1#8 then(Qs p0 p1 true) else(Qs p0 p1 (decide (4#8<p1))))))
def N1 (a5:BitVec 8)(a7:BitVec 8)(rec1:(BitVec 8 × List cL × BitVec 8)→Option (fH × Int))(l10:List cL)(a11:Bool):Option (fH × Int):=(bif a11 then(rec1 (a5+1#8,l10,a5)) else(rec1 (a5+1#8,l10,a7)))
def yF (p0:cO)(rec1:(BitVec 8 × List cL × BitVec 8)→Option (fH × Int))(s1:BitVec 8 × List cL × BitVec 8):Option (fH × Int):=match s1 with|(a5,a6,a7)=>(if a5≤4#8 then Option.bind (yS p0 a5) fun x9=>((if x9.2≠0 then(some ((fH.mk [] 0#8),x9.2)) else Option.bind (gG 72 a6 [x9.1]) fun l10=>((bif x9.1.Fits then(if a7=0#8 then(N1 a5 a7 rec1 l10 true) else Option.bind (bG l10 (aC (a7-1#8))) fun y12=>((N1 a5 a7 rec1 l10 (decide (x9.1.Cost<y12.Cost))))) else(N1 a5 a7 rec1 l10 false))))) else(some ((fH.mk a6 a7),0)))
def tW (p0:cO):Option (fH × Int):=(aS (yF p0) aI (1#8,[],0#8))
end
end Go.Sx

end
section

end
section
namespace Go.Sx
open Go Go.RowKit
noncomputable section
def Qb  : Option (Bool):=Option.bind (tW (cO.mk 1 1 100 1 1 0 (dR.mk 0#64 0#64 0#64))) fun x1=>(Option.bind (xN (72057594037927936#64,0#64) (aF.mk 1#8 1 0 (dR.mk 0#64 0#64 0#64)) 3 [1]) fun x2=>(Option.bind (xG x2.1) fun x3=>((if x1.2=0 then(if x1.1.Best=1#8 then(if x2.2=0 then(if x3.2=0 then(if(x3.1.length:Int)=85 then Option.bind (bG x1.1.Choices 0) fun y4=>((some (decide (y4.Header=85)))) else(some false)) else(some false)) else(some false)) else(some false)) else(some false)))))
def xA (p0:cO)(p1:dD)(p2:W2)(p3:Int)(p4:Int)(p5:Int)(x1:Bool)(x3:fH × Int)(a6:Int)(a7:BitVec 64)(a8:BitVec 64)(a9:BitVec 64)(x10:dZ × Int)(a12:Bool):Option (Bool):=(bif a12 then(some false) else Option.bind (qO p2 (aF.mk x3.1.Best p0.Depth a6 (dR.mk a7 a8 a9)) p5) fun x13=>((if x13.2≠0 then(some x1) else Option.bind (Xr p1 p5 p3 p4) fun x14=>(Option.bind (qA (aF.mk x3.1.Best p0.Depth a6 (dR.mk a7 a8 a9)) x13.1 x10.1.Head) fun x15=>((bif x14.1 then(bif x1 then(if x14.2=0 then(if x15.2=0 then Option.bind (rQ p2 p4) fun x16=>((some (decide (x15.1=x16)))) else(some false)) else(some false)) else(some false)) else(bif x1 then(if x14.2=0 then(some (decide (x15.2=6))) else(some false)) else(some false))))))))
def uE (p0:cO)(p1:dD)(p2:W2)(p3:Int)(p4:Int)(p5:Int)(x1:Bool)(x3:fH × Int)(x4:List Int × Int)(a6:Int)(a7:BitVec 64)(a8:BitVec 64)(a9:BitVec 64):Option (Bool):=Option.bind (xN p2 (aF.mk x3.1.Best p0.Depth a6 (dR.mk a7 a8 a9)) p4 x4.1) fun x10=>(Option.bind (xG x10.1) fun x11=>((if x10.2≠0 then(xA p0 p1 p2 p3 p4 p5 x1 x3 a6 a7 a8 a9 x10 true) else(if x11.2≠0 then(xA p0 p1 p2 p3 p4 p5 x1 x3 a6 a7 a8 a9 x10 true) else Option.bind (bG x3.1.Choices (aC (x3.1.Best-1#8))) fun y17=>((xA p0 p1 p2 p3 p4 p5 x1 x3 a6 a7 a8 a9 x10 (decide (y17.Header<(x11.1.length:Int)))))))))
def uU (p0:cO)(p1:dD)(p2:W2)(p3:Int)(p4:Int)(p5:Int)(x1:Bool)(x3:fH × Int)(x4:List Int × Int)(a5:Bool):Option (Bool):=(bif a5 then(some x1) else(if(x3.1.Choices.length:Int)<aC x3.1.Best then(some false) else(if x3.1.Best=4#8 then(uE p0 p1 p2 p3 p4 p5 x1 x3 x4 (gO p0.Revoked 1) p0.Group.P p0.Group.Q p0.Group.G) else(uE p0 p1 p2 p3 p4 p5 x1 x3 x4 0 0#64 0#64 0#64))))
def Qa (p0:cO)(p1:dD)(p2:W2)(p3:Int)(p4:Int)(p5:Int)(x1:Bool)(a2:Bool):Option (Bool):=(bif a2 then(some x1) else Option.bind (tW p0) fun x3=>(Option.bind (Xt p1 p3 p4 p0.Depth) fun x4=>((if x3.2≠0 then(uU p0 p1 p2 p3 p4 p5 x1 x3 x4 true) else(if x4.2≠0 then(uU p0 p1 p2 p3 p4 p5 x1 x3 x4 true) else(if x3.1.Best=0#8 then(uU p0 p1 p2 p3 p4 p5 x1 x3 x4 true) else(uU p0 p1 p2 p3 p4 p5 x1 x3 x4 (decide (p0.Revoked<(x4.1.length:Int))))))))))
def Yr (p0:cO)(p1:dD)(p2:W2)(p3:Int)(p4:Int)(p5:Int):Option (Bool):=Option.bind (Qb) fun x1=>(Option.bind (L3 p1) fun x18=>((bif x18 then(Qa p0 p1 p2 p3 p4 p5 x1 true) else(Qa p0 p1 p2 p3 p4 p5 x1 (!x1)))))
end
end Go.Sx

end
section
namespace Go.Sx
open Go Go.RowKit Go.Proofs
theorem Qse {H:Type}{enc:TypeId × Value→H}{W:World}{fuel:Nat}{cs:List Value}{x:DataW H × List MemPlace}(h:Tr enc Tryz.prog W fuel 24 cs x):∃ (m:dR),cs=dR.cs m:=by
 obtain⟨xs,n,rfl,rfl,hl,hx,hf⟩:=DataW.trod_struct Tryz.underlying24 h;replace hl:cs.length=3:=hl.trans (by kernel_rfl);replace hx:xs.length=3:=hx;obtain⟨y0,e0⟩:=dE (i:=0) hx rfl;have h0:Tr enc Tryz.prog W n 22 ((cs.drop 0).take 1) y0:=fT hf (i:=0) rfl rfl rfl (by kernel_rfl) e0;obtain⟨m0,c0⟩:=Cr Tryz.underlying22 h0;obtain⟨y1,e1⟩:=dE (i:=1) hx rfl;have h1:Tr enc Tryz.prog W n 22 ((cs.drop 1).take 1) y1:=fT hf (i:=1) rfl rfl rfl (by kernel_rfl) e1;obtain⟨m1,c1⟩:=Cr Tryz.underlying22 h1;obtain⟨y2,e2⟩:=dE (i:=2) hx rfl;have h2:Tr enc Tryz.prog W n 22 ((cs.drop 2).take 1) y2:=fT hf (i:=2) rfl rfl rfl (by kernel_rfl) e2;obtain⟨m2,c2⟩:=Cr Tryz.underlying22 h2;have q:=sY hl;replace q:=dM (o:=2) (k:=1) c2 q;replace q:=dM (o:=1) (k:=1) c1 q;replace q:=dM (o:=0) (k:=1) c0 q;exact⟨⟨m0,m1,m2⟩,q⟩
def cO.ok (x:cO):Prop:=eB x.Depth∧eB x.Revoked∧eB x.Storage∧eB x.Headers∧eB x.HeaderPrice∧eB x.StoragePrice
theorem Qsg {H:Type}{enc:TypeId × Value→H}{W:World}{fuel:Nat}{cs:List Value}{x:DataW H × List MemPlace}(h:Tr enc Tryz.prog W fuel 26 cs x):∃ (m:cO),cs=cO.cs m∧cO.ok m:=by
 obtain⟨xs,n,rfl,rfl,hl,hx,hf⟩:=DataW.trod_struct Tryz.underlying26 h;replace hl:cs.length=9:=hl.trans (by kernel_rfl);replace hx:xs.length=7:=hx;obtain⟨y0,e0⟩:=dE (i:=0) hx rfl;have h0:Tr enc Tryz.prog W n 3 ((cs.drop 0).take 1) y0:=fT hf (i:=0) rfl rfl rfl (by kernel_rfl) e0;obtain⟨m0,c0,k0⟩:=fG Tryz.underlying3 h0;obtain⟨y1,e1⟩:=dE (i:=1) hx rfl;have h1:Tr enc Tryz.prog W n 3 ((cs.drop 1).take 1) y1:=fT hf (i:=1) rfl rfl rfl (by kernel_rfl) e1;obtain⟨m1,c1,k1⟩:=fG Tryz.underlying3 h1;obtain⟨y2,e2⟩:=dE (i:=2) hx rfl;have h2:Tr enc Tryz.prog W n 3 ((cs.drop 2).take 1) y2:=fT hf (i:=2) rfl rfl rfl (by kernel_rfl) e2;obtain⟨m2,c2,k2⟩:=fG Tryz.underlying3 h2;obtain⟨y3,e3⟩:=dE (i:=3) hx rfl;have h3:Tr enc Tryz.prog W n 3 ((cs.drop 3).take 1) y3:=fT hf (i:=3) rfl rfl rfl (by kernel_rfl) e3;obtain⟨m3,c3,k3⟩:=fG Tryz.underlying3 h3;obtain⟨y4,e4⟩:=dE (i:=4) hx rfl;have h4:Tr enc Tryz.prog W n 3 ((cs.drop 4).take 1) y4:=fT hf (i:=4) rfl rfl rfl (by kernel_rfl) e4;obtain⟨m4,c4,k4⟩:=fG Tryz.underlying3 h4;obtain⟨y5,e5⟩:=dE (i:=5) hx rfl;have h5:Tr enc Tryz.prog W n 3 ((cs.drop 5).take 1) y5:=fT hf (i:=5) rfl rfl rfl (by kernel_rfl) e5;obtain⟨m5,c5,k5⟩:=fG Tryz.underlying3 h5;obtain⟨y6,e6⟩:=dE (i:=6) hx rfl;have h6:Tr enc Tryz.prog W n 24 ((cs.drop 6).take 3) y6:=fT hf (i:=6) rfl rfl rfl (by kernel_rfl) e6;obtain⟨m6,c6⟩:=Qse h6;have q:=sY hl;replace q:=dM (o:=6) (k:=3) c6 q;replace q:=dM (o:=5) (k:=1) c5 q;replace q:=dM (o:=4) (k:=1) c4 q;replace q:=dM (o:=3) (k:=1) c3 q;replace q:=dM (o:=2) (k:=1) c2 q;replace q:=dM (o:=1) (k:=1) c1 q;replace q:=dM (o:=0) (k:=1) c0 q;exact⟨⟨m0,m1,m2,m3,m4,m5,m6⟩,q,⟨k0,k1,k2,k3,k4,k5⟩⟩
def cB.ok (x:cB):Prop:=eB x.Price
theorem Qsh {H:Type}{enc:TypeId × Value→H}{W:World}{fuel:Nat}{cs:List Value}{x:DataW H × List MemPlace}(h:Tr enc Tryz.prog W fuel 211 cs x):∃ (m:cB),cs=cB.cs m∧cB.ok m:=by
 obtain⟨xs,n,rfl,rfl,hl,hx,hf⟩:=DataW.trod_struct Tryz.underlying211 h;replace hl:cs.length=4:=hl.trans (by kernel_rfl);replace hx:xs.length=4:=hx;obtain⟨y0,e0⟩:=dE (i:=0) hx rfl;have h0:Tr enc Tryz.prog W n 5 ((cs.drop 0).take 1) y0:=fT hf (i:=0) rfl rfl rfl (by kernel_rfl) e0;obtain⟨m0,c0⟩:=Qq Tryz.underlying5 h0;obtain⟨y1,e1⟩:=dE (i:=1) hx rfl;have h1:Tr enc Tryz.prog W n 5 ((cs.drop 1).take 1) y1:=fT hf (i:=1) rfl rfl rfl (by kernel_rfl) e1;obtain⟨m1,c1⟩:=Qq Tryz.underlying5 h1;obtain⟨y2,e2⟩:=dE (i:=2) hx rfl;have h2:Tr enc Tryz.prog W n 3 ((cs.drop 2).take 1) y2:=fT hf (i:=2) rfl rfl rfl (by kernel_rfl) e2;obtain⟨m2,c2,k2⟩:=fG Tryz.underlying3 h2;obtain⟨y3,e3⟩:=dE (i:=3) hx rfl;have h3:Tr enc Tryz.prog W n 4 ((cs.drop 3).take 1) y3:=fT hf (i:=3) rfl rfl rfl (by kernel_rfl) e3;obtain⟨m3,c3⟩:=Qes Tryz.underlying4 h3;have q:=sY hl;replace q:=dM (o:=3) (k:=1) c3 q;replace q:=dM (o:=2) (k:=1) c2 q;replace q:=dM (o:=1) (k:=1) c1 q;replace q:=dM (o:=0) (k:=1) c0 q;exact⟨⟨m0,m1,m2,m3⟩,q,k2⟩
def bL.ok (x:bL):Prop:=eB x.Receiver∧eB x.Account∧eB x.Home∧eB x.Met
theorem Qsc {H:Type}{enc:TypeId × Value→H}{W:World}{fuel:Nat}{cs:List Value}{x:DataW H × List MemPlace}(h:Tr enc Tryz.prog W fuel 91 cs x):∃ (m:bL),cs=bL.cs m∧bL.ok m:=by
 obtain⟨xs,n,rfl,rfl,hl,hx,hf⟩:=DataW.trod_struct Tryz.underlying91 h;replace hl:cs.length=7:=hl.trans (by kernel_rfl);replace hx:xs.length=7:=hx;obtain⟨y0,e0⟩:=dE (i:=0) hx rfl;have h0:Tr enc Tryz.prog W n 3 ((cs.drop 0).take 1) y0:=fT hf (i:=0) rfl rfl rfl (by kernel_rfl) e0;obtain⟨m0,c0,k0⟩:=fG Tryz.underlying3 h0;obtain⟨y1,e1⟩:=dE (i:=1) hx rfl;have h1:Tr enc Tryz.prog W n 3 ((cs.drop 1).take 1) y1:=fT hf (i:=1) rfl rfl rfl (by kernel_rfl) e1;obtain⟨m1,c1,k1⟩:=fG Tryz.underlying3 h1;obtain⟨y2,e2⟩:=dE (i:=2) hx rfl;have h2:Tr enc Tryz.prog W n 5 ((cs.drop 2).take 1) y2:=fT hf (i:=2) rfl rfl rfl (by kernel_rfl) e2;obtain⟨m2,c2⟩:=Qq Tryz.underlying5 h2;obtain⟨y3,e3⟩:=dE (i:=3) hx rfl;have h3:Tr enc Tryz.prog W n 5 ((cs.drop 3).take 1) y3:=fT hf (i:=3) rfl rfl rfl (by kernel_rfl) e3;obtain⟨m3,c3⟩:=Qq Tryz.underlying5 h3;obtain⟨y4,e4⟩:=dE (i:=4) hx rfl;have h4:Tr enc Tryz.prog W n 3 ((cs.drop 4).take 1) y4:=fT hf (i:=4) rfl rfl rfl (by kernel_rfl) e4;obtain⟨m4,c4,k4⟩:=fG Tryz.underlying3 h4;obtain⟨y5,e5⟩:=dE (i:=5) hx rfl;have h5:Tr enc Tryz.prog W n 3 ((cs.drop 5).take 1) y5:=fT hf (i:=5) rfl rfl rfl (by kernel_rfl) e5;obtain⟨m5,c5,k5⟩:=fG Tryz.underlying3 h5;obtain⟨y6,e6⟩:=dE (i:=6) hx rfl;have h6:Tr enc Tryz.prog W n 4 ((cs.drop 6).take 1) y6:=fT hf (i:=6) rfl rfl rfl (by kernel_rfl) e6;obtain⟨m6,c6⟩:=Qes Tryz.underlying4 h6;have q:=sY hl;replace q:=dM (o:=6) (k:=1) c6 q;replace q:=dM (o:=5) (k:=1) c5 q;replace q:=dM (o:=4) (k:=1) c4 q;replace q:=dM (o:=3) (k:=1) c3 q;replace q:=dM (o:=2) (k:=1) c2 q;replace q:=dM (o:=1) (k:=1) c1 q;replace q:=dM (o:=0) (k:=1) c0 q;exact⟨⟨m0,m1,m2,m3,m4,m5,m6⟩,q,⟨k0,k1,k4,k5⟩⟩
def dL.ok (x:dL):Prop:=eB x.Account∧eB x.Product∧eB x.From∧eB x.To
theorem Qsd {H:Type}{enc:TypeId × Value→H}{W:World}{fuel:Nat}{cs:List Value}{x:DataW H × List MemPlace}(h:Tr enc Tryz.prog W fuel 220 cs x):∃ (m:dL),cs=dL.cs m∧dL.ok m:=by
 obtain⟨xs,n,rfl,rfl,hl,hx,hf⟩:=DataW.trod_struct Tryz.underlying220 h;replace hl:cs.length=4:=hl.trans (by kernel_rfl);replace hx:xs.length=4:=hx;obtain⟨y0,e0⟩:=dE (i:=0) hx rfl;have h0:Tr enc Tryz.prog W n 3 ((cs.drop 0).take 1) y0:=fT hf (i:=0) rfl rfl rfl (by kernel_rfl) e0;obtain⟨m0,c0,k0⟩:=fG Tryz.underlying3 h0;obtain⟨y1,e1⟩:=dE (i:=1) hx rfl;have h1:Tr enc Tryz.prog W n 3 ((cs.drop 1).take 1) y1:=fT hf (i:=1) rfl rfl rfl (by kernel_rfl) e1;obtain⟨m1,c1,k1⟩:=fG Tryz.underlying3 h1;obtain⟨y2,e2⟩:=dE (i:=2) hx rfl;have h2:Tr enc Tryz.prog W n 3 ((cs.drop 2).take 1) y2:=fT hf (i:=2) rfl rfl rfl (by kernel_rfl) e2;obtain⟨m2,c2,k2⟩:=fG Tryz.underlying3 h2;obtain⟨y3,e3⟩:=dE (i:=3) hx rfl;have h3:Tr enc Tryz.prog W n 3 ((cs.drop 3).take 1) y3:=fT hf (i:=3) rfl rfl rfl (by kernel_rfl) e3;obtain⟨m3,c3,k3⟩:=fG Tryz.underlying3 h3;have q:=sY hl;replace q:=dM (o:=3) (k:=1) c3 q;replace q:=dM (o:=2) (k:=1) c2 q;replace q:=dM (o:=1) (k:=1) c1 q;replace q:=dM (o:=0) (k:=1) c0 q;exact⟨⟨m0,m1,m2,m3⟩,q,⟨k0,k1,k2,k3⟩⟩
def cK.ok (x:cK):Prop:=eB x.Account∧eB x.Product∧eB x.Epoch∧eB x.Price
theorem Qsi {H:Type}{enc:TypeId × Value→H}{W:World}{fuel:Nat}{cs:List Value}{x:DataW H × List MemPlace}(h:Tr enc Tryz.prog W fuel 215 cs x):∃ (m:cK),cs=cK.cs m∧cK.ok m:=by
 obtain⟨xs,n,rfl,rfl,hl,hx,hf⟩:=DataW.trod_struct Tryz.underlying215 h;replace hl:cs.length=4:=hl.trans (by kernel_rfl);replace hx:xs.length=4:=hx;obtain⟨y0,e0⟩:=dE (i:=0) hx rfl;have h0:Tr enc Tryz.prog W n 3 ((cs.drop 0).take 1) y0:=fT hf (i:=0) rfl rfl rfl (by kernel_rfl) e0;obtain⟨m0,c0,k0⟩:=fG Tryz.underlying3 h0;obtain⟨y1,e1⟩:=dE (i:=1) hx rfl;have h1:Tr enc Tryz.prog W n 3 ((cs.drop 1).take 1) y1:=fT hf (i:=1) rfl rfl rfl (by kernel_rfl) e1;obtain⟨m1,c1,k1⟩:=fG Tryz.underlying3 h1;obtain⟨y2,e2⟩:=dE (i:=2) hx rfl;have h2:Tr enc Tryz.prog W n 3 ((cs.drop 2).take 1) y2:=fT hf (i:=2) rfl rfl rfl (by kernel_rfl) e2;obtain⟨m2,c2,k2⟩:=fG Tryz.underlying3 h2;obtain⟨y3,e3⟩:=dE (i:=3) hx rfl;have h3:Tr enc Tryz.prog W n 3 ((cs.drop 3).take 1) y3:=fT hf (i:=3) rfl rfl rfl (by kernel_rfl) e3;obtain⟨m3,c3,k3⟩:=fG Tryz.underlying3 h3;have q:=sY hl;replace q:=dM (o:=3) (k:=1) c3 q;replace q:=dM (o:=2) (k:=1) c2 q;replace q:=dM (o:=1) (k:=1) c1 q;replace q:=dM (o:=0) (k:=1) c0 q;exact⟨⟨m0,m1,m2,m3⟩,q,⟨k0,k1,k2,k3⟩⟩
def dC.ok (x:dC):Prop:=eB x.Account∧eB x.Title∧eB x.Until∧eB x.Plays
theorem Qsf {H:Type}{enc:TypeId × Value→H}{W:World}{fuel:Nat}{cs:List Value}{x:DataW H × List MemPlace}(h:Tr enc Tryz.prog W fuel 247 cs x):∃ (m:dC),cs=dC.cs m∧dC.ok m:=by
 obtain⟨xs,n,rfl,rfl,hl,hx,hf⟩:=DataW.trod_struct Tryz.underlying247 h;replace hl:cs.length=4:=hl.trans (by kernel_rfl);replace hx:xs.length=4:=hx;obtain⟨y0,e0⟩:=dE (i:=0) hx rfl;have h0:Tr enc Tryz.prog W n 3 ((cs.drop 0).take 1) y0:=fT hf (i:=0) rfl rfl rfl (by kernel_rfl) e0;obtain⟨m0,c0,k0⟩:=fG Tryz.underlying3 h0;obtain⟨y1,e1⟩:=dE (i:=1) hx rfl;have h1:Tr enc Tryz.prog W n 3 ((cs.drop 1).take 1) y1:=fT hf (i:=1) rfl rfl rfl (by kernel_rfl) e1;obtain⟨m1,c1,k1⟩:=fG Tryz.underlying3 h1;obtain⟨y2,e2⟩:=dE (i:=2) hx rfl;have h2:Tr enc Tryz.prog W n 3 ((cs.drop 2).take 1) y2:=fT hf (i:=2) rfl rfl rfl (by kernel_rfl) e2;obtain⟨m2,c2,k2⟩:=fG Tryz.underlying3 h2;obtain⟨y3,e3⟩:=dE (i:=3) hx rfl;have h3:Tr enc Tryz.prog W n 3 ((cs.drop 3).take 1) y3:=fT hf (i:=3) rfl rfl rfl (by kernel_rfl) e3;obtain⟨m3,c3,k3⟩:=fG Tryz.underlying3 h3;have q:=sY hl;replace q:=dM (o:=3) (k:=1) c3 q;replace q:=dM (o:=2) (k:=1) c2 q;replace q:=dM (o:=1) (k:=1) c1 q;replace q:=dM (o:=0) (k:=1) c0 q;exact⟨⟨m0,m1,m2,m3⟩,q,⟨k0,k1,k2,k3⟩⟩
def kP.ok (x:kP):Prop:=eB x.a0∧eB x.a1∧eB x.a2∧eB x.a3∧eB x.a4∧eB x.a5∧eB x.a6∧eB x.a7∧eB x.a8∧eB x.a9∧eB x.a10∧eB x.a11∧eB x.a12∧eB x.a13∧eB x.a14∧eB x.a15
theorem Qsa {H:Type}{enc:TypeId × Value→H}{W:World}{fuel:Nat}{cs:List Value}{x:DataW H × List MemPlace}(h:Tr enc Tryz.prog W fuel 32 cs x):∃ (m:kP),cs=kP.cs m∧kP.ok m:=by
 obtain⟨xs,n,rfl,rfl,hl,hx,hf⟩:=DataW.trod_array Tryz.underlying32 h;replace hl:cs.length=16:=hl.trans (by kernel_rfl);replace hx:xs.length=16:=hx;obtain⟨y0,e0⟩:=dE (i:=0) hx rfl;have h0:Tr enc Tryz.prog W n 3 ((cs.drop 0).take 1) y0:=lU hf (i:=0) (by decide) (by kernel_rfl) rfl e0;obtain⟨m0,c0,k0⟩:=fG Tryz.underlying3 h0;obtain⟨y1,e1⟩:=dE (i:=1) hx rfl;have h1:Tr enc Tryz.prog W n 3 ((cs.drop 1).take 1) y1:=lU hf (i:=1) (by decide) (by kernel_rfl) rfl e1;obtain⟨m1,c1,k1⟩:=fG Tryz.underlying3 h1;obtain⟨y2,e2⟩:=dE (i:=2) hx rfl;have h2:Tr enc Tryz.prog W n 3 ((cs.drop 2).take 1) y2:=lU hf (i:=2) (by decide) (by kernel_rfl) rfl e2;obtain⟨m2,c2,k2⟩:=fG Tryz.underlying3 h2;obtain⟨y3,e3⟩:=dE (i:=3) hx rfl;have h3:Tr enc Tryz.prog W n 3 ((cs.drop 3).take 1) y3:=lU hf (i:=3) (by decide) (by kernel_rfl) rfl e3;obtain⟨m3,c3,k3⟩:=fG Tryz.underlying3 h3;obtain⟨y4,e4⟩:=dE (i:=4) hx rfl;have h4:Tr enc Tryz.prog W n 3 ((cs.drop 4).take 1) y4:=lU hf (i:=4) (by decide) (by kernel_rfl) rfl e4;obtain⟨m4,c4,k4⟩:=fG Tryz.underlying3 h4;obtain⟨y5,e5⟩:=dE (i:=5) hx rfl;have h5:Tr enc Tryz.prog W n 3 ((cs.drop 5).take 1) y5:=lU hf (i:=5) (by decide) (by kernel_rfl) rfl e5;obtain⟨m5,c5,k5⟩:=fG Tryz.underlying3 h5;obtain⟨y6,e6⟩:=dE (i:=6) hx rfl;have h6:Tr enc Tryz.prog W n 3 ((cs.drop 6).take 1) y6:=lU hf (i:=6) (by decide) (by kernel_rfl) rfl e6;obtain⟨m6,c6,k6⟩:=fG Tryz.underlying3 h6;obtain⟨y7,e7⟩:=dE (i:=7) hx rfl;have h7:Tr enc Tryz.prog W n 3 ((cs.drop 7).take 1) y7:=lU hf (i:=7) (by decide) (by kernel_rfl) rfl e7;obtain⟨m7,c7,k7⟩:=fG Tryz.underlying3 h7;obtain⟨y8,e8⟩:=dE (i:=8) hx rfl;have h8:Tr enc Tryz.prog W n 3 ((cs.drop 8).take 1) y8:=lU hf (i:=8) (by decide) (by kernel_rfl) rfl e8;obtain⟨m8,c8,k8⟩:=fG Tryz.underlying3 h8;obtain⟨y9,e9⟩:=dE (i:=9) hx rfl;have h9:Tr enc Tryz.prog W n 3 ((cs.drop 9).take 1) y9:=lU hf (i:=9) (by decide) (by kernel_rfl) rfl e9;obtain⟨m9,c9,k9⟩:=fG Tryz.underlying3 h9;obtain⟨y10,e10⟩:=dE (i:=10) hx rfl;have h10:Tr enc Tryz.prog W n 3 ((cs.drop 10).take 1) y10:=lU hf (i:=10) (by decide) (by kernel_rfl) rfl e10;obtain⟨m10,c10,k10⟩:=fG Tryz.underlying3 h10;obtain⟨y11,e11⟩:=dE (i:=11) hx rfl;have h11:Tr enc Tryz.prog W n 3 ((cs.drop 11).take 1) y11:=lU hf (i:=11) (by decide) (by kernel_rfl) rfl e11;obtain⟨m11,c11,k11⟩:=fG Tryz.underlying3 h11;obtain⟨y12,e12⟩:=dE (i:=12) hx rfl;have h12:Tr enc Tryz.prog W n 3 ((cs.drop 12).take 1) y12:=lU hf (i:=12) (by decide) (by kernel_rfl) rfl e12;obtain⟨m12,c12,k12⟩:=fG Tryz.underlying3 h12;obtain⟨y13,e13⟩:=dE (i:=13) hx rfl;have h13:Tr enc Tryz.prog W n 3 ((cs.drop 13).take 1) y13:=lU hf (i:=13) (by decide) (by kernel_rfl) rfl e13;obtain⟨m13,c13,k13⟩:=fG Tryz.underlying3 h13;obtain⟨y14,e14⟩:=dE (i:=14) hx rfl;have h14:Tr enc Tryz.prog W n 3 ((cs.drop 14).take 1) y14:=lU hf (i:=14) (by decide) (by kernel_rfl) rfl e14;obtain⟨m14,c14,k14⟩:=fG Tryz.underlying3 h14;obtain⟨y15,e15⟩:=dE (i:=15) hx rfl;have h15:Tr enc Tryz.prog W n 3 ((cs.drop 15).take 1) y15:=lU hf (i:=15) (by decide) (by kernel_rfl) rfl e15;obtain⟨m15,c15,k15⟩:=fG Tryz.underlying3 h15;have q:=sY hl;replace q:=dM (o:=15) (k:=1) c15 q;replace q:=dM (o:=14) (k:=1) c14 q;replace q:=dM (o:=13) (k:=1) c13 q;replace q:=dM (o:=12) (k:=1) c12 q;replace q:=dM (o:=11) (k:=1) c11 q;replace q:=dM (o:=10) (k:=1) c10 q;replace q:=dM (o:=9) (k:=1) c9 q;replace q:=dM (o:=8) (k:=1) c8 q;replace q:=dM (o:=7) (k:=1) c7 q;replace q:=dM (o:=6) (k:=1) c6 q;replace q:=dM (o:=5) (k:=1) c5 q;replace q:=dM (o:=4) (k:=1) c4 q;replace q:=dM (o:=3) (k:=1) c3 q;replace q:=dM (o:=2) (k:=1) c2 q;replace q:=dM (o:=1) (k:=1) c1 q;replace q:=dM (o:=0) (k:=1) c0 q;exact⟨⟨m0,m1,m2,m3,m4,m5,m6,m7,m8,m9,m10,m11,m12,m13,m14,m15⟩,q,⟨k0,k1,k2,k3,k4,k5,k6,k7,k8,k9,k10,k11,k12,k13,k14,k15⟩⟩
def dD.ok (x:dD):Prop:=((∀ a∈x.Products,cB.ok a)∧x.Products.length*24≤140737488351232)∧((∀ a∈x.Cards,bL.ok a)∧x.Cards.length*48≤140737488351232)∧((∀ a∈x.Grants,dL.ok a)∧x.Grants.length*32≤140737488351232)∧((∀ a∈x.Sales,cK.ok a)∧x.Sales.length*32≤140737488351232)∧((∀ a∈x.Licences,dC.ok a)∧x.Licences.length*32≤140737488351232)∧kP.ok x.Credits
theorem Qsb {H:Type}{enc:TypeId × Value→H}{W:World}{fuel:Nat}{cs:List Value}{x:DataW H × List MemPlace}(h:Tr enc Tryz.prog W fuel 34 cs x)(hw:Sz Tryz.prog 34 x.1):∃ (m:dD) (v0:Value) (z0 g0 o0:Nat) (v1:Value) (z1 g1 o1:Nat) (v2:Value) (z2 g2 o2:Nat) (v3:Value) (z3 g3 o3:Nat) (v4:Value) (z4 g4 o4:Nat),cs=dD.cs m v0 v1 v2 v3 v4∧Rd W z0 g0 o0 4 v0 (m.Products.map cB.cs)∧Rd W z1 g1 o1 7 v1 (m.Cards.map bL.cs)∧Rd W z2 g2 o2 4 v2 (m.Grants.map dL.cs)∧Rd W z3 g3 o3 4 v3 (m.Sales.map cK.cs)∧Rd W z4 g4 o4 4 v4 (m.Licences.map dC.cs)∧dD.ok m:=by
 obtain⟨xs,n,rfl,rfl,hl,hx,hf⟩:=DataW.trod_struct Tryz.underlying34 h;replace hl:cs.length=21:=hl.trans (by kernel_rfl);replace hx:xs.length=6:=hx;obtain⟨y0,e0⟩:=dE (i:=0) hx rfl;have h0:Tr enc Tryz.prog W n 27 ((cs.drop 0).take 1) y0:=fT hf (i:=0) rfl rfl rfl (by kernel_rfl) e0;obtain⟨m0,v0_,z0_,g0_,o0_,c0,R0_,k0,l0⟩:=Qp (c:=cB.cs) (ok:=fun a=>cB.ok a) (sz:=4) (bytes:=24) Tryz.underlying27 (by kernel_rfl) (by kernel_rfl) (by decide) (fun _=>⟨rfl,rfl⟩) (fun _ _ _ h=>Qsh h) h0 (Zr Tryz.underlying34 hw (i:=0) rfl (by rw[List.getElem?_map,e0];rfl));obtain⟨y1,e1⟩:=dE (i:=1) hx rfl;have h1:Tr enc Tryz.prog W n 28 ((cs.drop 1).take 1) y1:=fT hf (i:=1) rfl rfl rfl (by kernel_rfl) e1;obtain⟨m1,v1_,z1_,g1_,o1_,c1,R1_,k1,l1⟩:=Qp (c:=bL.cs) (ok:=fun a=>bL.ok a) (sz:=7) (bytes:=48) Tryz.underlying28 (by kernel_rfl) (by kernel_rfl) (by decide) (fun _=>⟨rfl,rfl⟩) (fun _ _ _ h=>Qsc h) h1 (Zr Tryz.underlying34 hw (i:=1) rfl (by rw[List.getElem?_map,e1];rfl));obtain⟨y2,e2⟩:=dE (i:=2) hx rfl;have h2:Tr enc Tryz.prog W n 29 ((cs.drop 2).take 1) y2:=fT hf (i:=2) rfl rfl rfl (by kernel_rfl) e2;obtain⟨m2,v2_,z2_,g2_,o2_,c2,R2_,k2,l2⟩:=Qp (c:=dL.cs) (ok:=fun a=>dL.ok a) (sz:=4) (bytes:=32) Tryz.underlying29 (by kernel_rfl) (by kernel_rfl) (by decide) (fun _=>⟨rfl,rfl⟩) (fun _ _ _ h=>Qsd h) h2 (Zr Tryz.underlying34 hw (i:=2) rfl (by rw[List.getElem?_map,e2];rfl));obtain⟨y3,e3⟩:=dE (i:=3) hx rfl;have h3:Tr enc Tryz.prog W n 30 ((cs.drop 3).take 1) y3:=fT hf (i:=3) rfl rfl rfl (by kernel_rfl) e3;obtain⟨m3,v3_,z3_,g3_,o3_,c3,R3_,k3,l3⟩:=Qp (c:=cK.cs) (ok:=fun a=>cK.ok a) (sz:=4) (bytes:=32) Tryz.underlying30 (by kernel_rfl) (by kernel_rfl) (by decide) (fun _=>⟨rfl,rfl⟩) (fun _ _ _ h=>Qsi h) h3 (Zr Tryz.underlying34 hw (i:=3) rfl (by rw[List.getElem?_map,e3];rfl));obtain⟨y4,e4⟩:=dE (i:=4) hx rfl;have h4:Tr enc Tryz.prog W n 31 ((cs.drop 4).take 1) y4:=fT hf (i:=4) rfl rfl rfl (by kernel_rfl) e4;obtain⟨m4,v4_,z4_,g4_,o4_,c4,R4_,k4,l4⟩:=Qp (c:=dC.cs) (ok:=fun a=>dC.ok a) (sz:=4) (bytes:=32) Tryz.underlying31 (by kernel_rfl) (by kernel_rfl) (by decide) (fun _=>⟨rfl,rfl⟩) (fun _ _ _ h=>Qsf h) h4 (Zr Tryz.underlying34 hw (i:=4) rfl (by rw[List.getElem?_map,e4];rfl));obtain⟨y5,e5⟩:=dE (i:=5) hx rfl;have h5:Tr enc Tryz.prog W n 32 ((cs.drop 5).take 16) y5:=fT hf (i:=5) rfl rfl rfl (by kernel_rfl) e5;obtain⟨m5,c5,k5⟩:=Qsa h5;have q:=sY hl;replace q:=dM (o:=5) (k:=16) c5 q;replace q:=dM (o:=4) (k:=1) c4 q;replace q:=dM (o:=3) (k:=1) c3 q;replace q:=dM (o:=2) (k:=1) c2 q;replace q:=dM (o:=1) (k:=1) c1 q;replace q:=dM (o:=0) (k:=1) c0 q;exact⟨⟨m0,m1,m2,m3,m4,m5⟩,v0_,z0_,g0_,o0_,v1_,z1_,g1_,o1_,v2_,z2_,g2_,o2_,v3_,z3_,g3_,o3_,v4_,z4_,g4_,o4_,q,R0_,R1_,R2_,R3_,R4_,⟨⟨k0,l0⟩,⟨k1,l1⟩,⟨k2,l2⟩,⟨k3,l3⟩,⟨k4,l4⟩,k5⟩⟩
end Go.Sx

end
