/- Several texts in one: CbM ClM CcM XaM PaM PkM PbM PcM XbM XcM EkM EtM XdM XeM EsM AlM XfM VaM XgM DeM XhM Ex5M OpnEx5 CipA CipB CipC Ref2 BitL Srt SrtSub SeM TaM HaM HbM HcM HdM. -/
import Derived.Test.YtplcaaglieefgaaGreatZc
import Derived.Test.YtplcaaglieefgaaGreatRows
import Derived.KernelRfl
import Derived.Test.YtplcaaglieefgaaGreatZb
import Derived.Shelf.SlSortCmp.NoneTotal
import Derived.Shelf.SlGeneric
import Derived.Test.YtplcaaglieefgaaGreatProg
set_option linter.unusedVariables false
set_option linter.unusedSimpArgs false
set_option maxRecDepth 100000
section
namespace Go.Sx
open Go Go.RowKit
def rZ (p0:bL):Option (Int):=Option.bind (fD p0.depth) fun nn1=>((some (iP 1 nn1)))
def zR (p0:bL)(p1:Int):Option (Bool):=(if(1:Int)≤p1 then Option.bind (rZ p0) fun x1=>((some (decide (p1<aS (2*x1))))) else(some false))
def lM (p0:Int):Option (Int):=(some (aS ((lg (un (wd p0)))-1)))
def vO (p0:Int)(p1:Int)(a1:Bool):Option (Bool):=(bif a1 then(some false) else Option.bind (lM p0) fun x2=>(Option.bind (lM p1) fun x3=>(Option.bind (fD (aS (x2-x3))) fun nn4=>((some (decide (oL p0 nn4=p1)))))))
def vI (p0:Int)(p1:Int):Option (Bool):=(if p0<1 then(vO p0 p1 true) else(if p1<1 then(vO p0 p1 true) else Option.bind (lM p0) fun x5=>(Option.bind (lM p1) fun x6=>((vO p0 p1 (decide (x5<x6)))))))
def nC (p0:bL)(p1:Int):Option (Bool):=Option.bind (lM p1) fun x1=>(Option.bind (iW x1 p0.stride) fun x2=>((some (decide (x2=0)))))
def tP (p0:Int)(p1:Int):Option (Int × Int):=(some (p0,p1))
def pZ (p0:Int)(p1:Int):Option (Int):=Option.bind (lM p1) fun x1=>(Option.bind (lM p0) fun x2=>(Option.bind (fD (aS ((aS (x1-x2))-1))) fun nn3=>((some (oL p1 nn3)))))
def qI (p2:Int)(rec1:(Int)→Option (List Int))(a2:Int):Option (List Int):=(if a2≠p2 then Option.bind (pZ a2 p2) fun x3=>((yl x3 ((rec1 x3)))) else(some []))
def tD (p1:Int)(p2:Int):Option (List Int):=(bP (qI p2) bA p1)
def vE  (s:Int):Option (Int):=match s with|a3=>(some 0)
def U4  (s:Int):Option (Int):=match s with|a3=>(some a3)
def tH (p1_0:bL)(e4:Int)(nx1:(Int)→Option (Int))(s:Int):Option (Int):=match s with|a3=>Option.bind (nC p1_0 e4) fun x5=>((bif x5 then(U4 e4) else(nx1 a3)))
def zD (p0_0:Int)(p0_1:Int)(p1_0:bL):Option (Int):=Option.bind (tD p0_0 p0_1) fun l1=>((fS (tH p1_0) vE l1 0))
def pK (p0:bL)(p1:Int)(p2:Int):Option (Int):=Option.bind (fD (un 1#64)) fun nn1=>(Option.bind (tP p1 (oL p2 nn1)) fun x2=>(Option.bind (zD x2.1 x2.2 p0) fun x3=>((some x3))))
def wX (p0:bL)(p1:bT)(a3:Bool):Option (Bool):=(bif a3 then(some false) else(if p0.kind=2#8 then(some true) else Option.bind (nC p0 p1.Node) fun x4=>((bif x4 then(some true) else Option.bind (pK p0 p1.Node p1.Minus) fun x5=>((some (decide (x5=0))))))))
def zI (p0:bL)(p1:bT)(a2:Bool):Option (Bool):=(bif a2 then(if p1.Minus=0 then(if p0.kind=1#8 then(some true) else(some (decide (p1.Node=1)))) else(some false)) else Option.bind (zR p0 p1.Minus) fun x6=>((bif (!x6) then(wX p0 p1 true) else(if p1.Minus=p1.Node then(wX p0 p1 true) else Option.bind (vI p1.Minus p1.Node) fun x7=>((wX p0 p1 (!x7)))))))
def wQ (p0:bL)(p1:bT):Option (Bool):=Option.bind (zR p0 p1.Node) fun x1=>((bif (!x1) then(some false) else(if p0.kind=1#8 then(zI p0 p1 true) else(zI p0 p1 (decide (p1.Minus=0))))))
def zH (p1:List bT)(x1:bL × Bool)(rec1:(Int)→Option (bL × Int))(a3:Int):Option (bL × Int):=(if a3<(p1.length:Int) then Option.bind (cL p1 a3) fun y4=>(Option.bind (wQ x1.1 y4) fun x5=>((bif (!x5) then(some ((bL.mk 0#8 0 0),31)) else(rec1 (aS (a3+1)))))) else(some (x1.1,0)))
def pQ (p0:bY)(p1:List bT):Option (bL × Int):=Option.bind (tT p0) fun x1=>((bif (!x1.2) then(some ((bL.mk 0#8 0 0),30)) else(bP (zH p1 x1) bA 0)))
def vA (p0:W2)(p1:Int):Option (W2):=(some (dO p0 (bD 30#8) (wd p1)))
def zY (a4:W2)(nx1:(W2)→Option (W2))(a6:BitVec 8):Option (W2):=(nx1 (dO a4 (bD a6) 0#64))
def zV  (s:W2):Option (W2):=match s with|a4=>(some a4)
def zW  (e5:Int)(nx1:(W2)→Option (W2))(s:W2):Option (W2):=match s with|a4=>Option.bind (iW e5 2) fun x7=>((if x7=1 then(zY a4 nx1 32#8) else(zY a4 nx1 31#8)))
def vU (p0:W2)(p1:Int)(p2:Int):Option (W2):=Option.bind (tP p1 p2) fun x1=>(Option.bind (tD x1.1 x1.2) fun l2=>((fS zW zV l2 p0)))
def zT (p0:W2):Option (W2):=(some (dO p0 (bD 33#8) 0#64))
def zB (p0:bL)(p1:W2)(p2:bT):Option (W2):=(if p0.kind=1#8 then Option.bind (vA p1 p2.Node) fun x1=>((some x1)) else(if p2.Minus=0 then(some (dO p1 (bD 34#8) 0#64)) else Option.bind (vA p1 p2.Node) fun x2=>(Option.bind (vU x2 p2.Node p2.Minus) fun x3=>(Option.bind (zT x3) fun x4=>((some x4))))))
def zX (p0:W2)(p2:List bT)(p3:W2)(x2:bL × Int)(rec1:(Int × List bU)→Option (aF × Int))(s1:Int × List bU):Option (aF × Int):=match s1 with|(a6,a7)=>(if a6<(p2.length:Int) then Option.bind (cL p2 a6) fun y9=>(Option.bind (zB x2.1 p0 y9) fun x10=>(Option.bind (gL 32 a7 [(bU.mk y9 (jA x10 p3))]) fun l11=>((rec1 (aS (a6+1),l11))))) else(some ((aF.mk a7 0#64 [] k0 (dO p3 (bD 53#8) 0#64)),0)))
def vM (p0:W2)(p1:bY)(p2:List bT)(p3:W2):Option (aF × Int):=Option.bind (oA p1) fun x1=>((if x1≠0 then(some ((aF.mk [] 0#64 [] k0 k0),x1)) else(if(64:Int)<(p2.length:Int) then(some ((aF.mk [] 0#64 [] k0 k0),4)) else Option.bind (pQ p1 p2) fun x2=>((if x2.2≠0 then(some ((aF.mk [] 0#64 [] k0 k0),x2.2)) else(bP (zX p0 p2 p3 x2) bA (0,[])))))))
def U1 (p0:bU)(p1:bL):Option (Bool):=Option.bind (wQ p1 p0.Subset) fun x1=>((some (!x1)))
def L8 (p0:List bU)(p1_0:bL)(rec1:(Int)→Option (Int))(a2:Int):Option (Int):=(if a2<(p0.length:Int) then Option.bind (cL p0 a2) fun y3=>(Option.bind (U1 y3 p1_0) fun x4=>((bif x4 then(some a2) else(rec1 (aS (a2+1)))))) else(some (-1)))
def Jp (p0:List bU)(p1_0:bL):Option (Int):=(bP (L8 p0 p1_0) bA 0)
def Jl (p0:List bU)(p1_0:bL):Option (Bool):=Option.bind (Jp p0 p1_0) fun x1=>((some (decide ((0:Int)≤x1))))
def zA (p1:cT)(p2:bT)(a1:Bool):Option (Bool):=(bif a1 then(some (decide (p1.Minus=p2.Minus))) else Option.bind (vI p1.Minus p1.Node) fun x2=>((bif x2 then Option.bind (vI p2.Minus p1.Minus) fun x3=>((some x3)) else(some false))))
def E2 (p0:bL)(p1:cT)(p2:bT):Option (Bool):=(if p1.Node≠p2.Node then(some false) else(if p0.kind=1#8 then(zA p1 p2 true) else(zA p1 p2 (decide (p2.Minus=0)))))
def zS (p2:bT)(y3:cT)(a5:Bool):Option (W2 × Bool):=(bif a5 then(some (y3.Key,true)) else Option.bind (vU y3.Key y3.Minus p2.Minus) fun x6=>(Option.bind (zT x6) fun x7=>((some (x7,true)))))
def zF (p0:bL)(p1:bG)(p2:bT)(rec1:(Int)→Option (W2 × Bool))(a2:Int):Option (W2 × Bool):=(if a2<(p1.Labels.length:Int) then Option.bind (cL p1.Labels a2) fun y3=>(Option.bind (E2 p0 y3 p2) fun x4=>((bif (!x4) then(rec1 (aS (a2+1))) else(if p0.kind=1#8 then(zS p2 y3 true) else(zS p2 y3 (decide (p2.Minus=0))))))) else(some (k0,false)))
def U9 (p0:bL)(p1:bG)(p2:bT):Option (W2 × Bool):=(bP (zF p0 p1 p2) bA 0)
def zQ (p1:bG)(p2:aF)(x1:bL × Int)(rec2:(Int)→Option (W2 × Int))(a4:Int):Option (W2 × Int):=(if a4<(p2.Items.length:Int) then Option.bind (cL p2.Items a4) fun y5=>(Option.bind (U9 x1.1 p1 y5.Subset) fun x6=>((bif x6.2 then(if dO (nU x6.1 y5.Box) (bD 53#8) 0#64=p2.Check then(some (nU x6.1 y5.Box,0)) else(rec2 (aS (a4+1)))) else(rec2 (aS (a4+1)))))) else(some (k0,6)))
def qE (p1:bG)(p2:aF)(x1:bL × Int)(a2:Bool):Option (W2 × Int):=(bif a2 then(some (k0,8)) else(bP (zQ p1 p2 x1) bA 0))
def U0 (p0:bY)(p1:bG)(p2:aF):Option (W2 × Int):=Option.bind (pQ p0 ([]:List bT)) fun x1=>((if x1.2≠0 then(some (k0,x1.2)) else(if(64:Int)<(p2.Items.length:Int) then(qE p1 p2 x1 true) else(if p2.Base≠0#64 then(qE p1 p2 x1 true) else(if(0:Int)<(p2.Points.length:Int) then(qE p1 p2 x1 true) else(if p2.Box≠k0 then(qE p1 p2 x1 true) else Option.bind (Jl p2.Items x1.1) fun x7=>((qE p1 p2 x1 x7))))))))
end Go.Sx

end
section
namespace Go.Sx
open Go Go.RowKit
def E0 (p0:bL)(p1:Int):Option (bL × Int):=(some (p0,p1))
def rQ (p0:bL)(p1:Int):Option (Int):=Option.bind (rZ p0) fun x1=>((some (aS (x1+p1))))
def pX (p0:Int):Option (Int):=(some (yS .xor p0 1))
def zC (x1:Int)(a2:Int)(rec1:(Int)→Option (List (Int × Int)))(s:Unit):Option (List (Int × Int)):=Option.bind (pZ a2 x1) fun x10=>((rec1 x10))
def zU (p1:bL)(a2:Int)(e7:Int)(nx2:Unit→Option (List (Int × Int)))(s:Unit):Option (List (Int × Int)):=Option.bind (pX e7) fun x8=>(Option.bind (wQ p1 (bT.mk a2 x8)) fun x9=>((bif x9 then(yl (a2,x8) ((nx2 ()))) else(nx2 ()))))
def zM (p1:bL)(x1:Int)(rec1:(Int)→Option (List (Int × Int)))(a2:Int):Option (List (Int × Int)):=(if a2≠x1 then(if p1.kind=1#8 then Option.bind (pZ a2 x1) fun x3=>((yl (x3,0) (Option.bind (pZ a2 x1) fun x4=>((rec1 x4))))) else Option.bind (tP a2 x1) fun x5=>(Option.bind (tD x5.1 x5.2) fun l6=>((fS (zU p1 a2) (zC x1 a2 rec1) l6 ())))) else(some []))
def E1 (p1:bL)(p2:Int):Option (List (Int × Int)):=Option.bind (rQ p1 p2) fun x1=>((yl (1,0) ((bP (zM p1 x1) bA 1))))
def tL (p0:bL)(p1:Int):Option (Bool):=(if(0:Int)≤p1 then Option.bind (rZ p0) fun x1=>((some (decide (p1<x1)))) else(some false))
def zJ (a7:List cT)(nx1:(List cT)→Option (bG × Int))(e9:Int)(e10:Int)(a11:W2):Option (bG × Int):=Option.bind (gL 32 a7 [(cT.mk e9 e10 a11)]) fun l12=>((nx1 l12))
def zZ (p2:Int)(s:List cT):Option (bG × Int):=match s with|a7=>(some ((bG.mk p2 a7 (aI.mk 0#64 0#64)),0))
def zK (p0:W2)(x1:bL × Int)(ee:Int × Int)(nx1:(List cT)→Option (bG × Int))(s:List cT):Option (bG × Int):=match ee with|(e9,e10)=>match s with|a7=>(if e10=0 then Option.bind (zB x1.1 p0 (bT.mk e9 0)) fun x13=>((zJ a7 nx1 e9 e10 x13)) else Option.bind (vA p0 e9) fun x14=>(Option.bind (vU x14 e9 e10) fun x15=>((zJ a7 nx1 e9 e10 x15))))
def U2 (p0:W2)(p1:bY)(p2:Int):Option (bG × Int):=Option.bind (pQ p1 ([]:List bT)) fun x1=>((if x1.2≠0 then(some ((bG.mk 0 [] (aI.mk 0#64 0#64)),x1.2)) else Option.bind (tL x1.1 p2) fun x2=>((bif (!x2) then(some ((bG.mk 0 [] (aI.mk 0#64 0#64)),2)) else Option.bind (E0 x1.1 p2) fun x3=>(Option.bind (E1 x3.1 x3.2) fun l4=>((fS (zK p0 x1) (zZ p2) l4 [])))))))
end Go.Sx

end
section
namespace Go.Sx
open Go Go.RowKit
noncomputable section
def tN (a2:Int)(rec1:(Int)→Option (Bool))(a4:Bool):Option (Bool):=(bif a4 then(some false) else(rec1 (aS (a2+1))))
def rX (p0:bL)(p1:List Int)(rec1:(Int)→Option (Bool))(a2:Int):Option (Bool):=(if a2<(p1.length:Int) then Option.bind (cL p1 a2) fun y3=>(Option.bind (tL p0 y3) fun x5=>((bif (!x5) then(tN a2 rec1 true) else(if(0:Int)<a2 then Option.bind (cL p1 (aS (a2-1))) fun y6=>((tN a2 rec1 (decide (y3≤y6)))) else(tN a2 rec1 false))))) else(some true))
def tG (p0:bL)(p1:List Int):Option (Bool):=(bP (rX p0 p1) bA 0)
def qB (p0:Int)(p1:Int)(p2:List bT):Option (List bT):=Option.bind (gL 16 p2 [(bT.mk p0 p1)]) fun l1=>((some l1))
def qU (a5:Int)(rec1:(Int × List Int)→Option (List bT × Int))(rec2:(Int × List Int)→Option (List bT × Int))(s2:Int × List Int):Option (List bT × Int):=match s2 with|(a11,a12)=>(if(0:Int)<a11 then Option.bind (fD (un 1#64)) fun nn13=>((rec2 (oL a11 nn13,jH a12 a11))) else(rec1 (aS (a5+1),a12)))
def tY (a16:List bT)(nx3:(List bT)→Option (List bT × Int))(k18:Int)(a20:Bool):Option (List bT × Int):=(bif a20 then Option.bind (pX k18) fun x21=>(Option.bind (qB x21 0 a16) fun x22=>((nx3 x22))) else(nx3 a16))
def tW (nx3:(List bT)→Option (List bT × Int))(a26:Int)(a27:Int)(a28:List bT):Option (List bT × Int):=Option.bind (qB a27 a26 a28) fun x30=>((nx3 x30))
def lJ (a16:List bT)(nx3:(List bT)→Option (List bT × Int))(k18:Int)(a26:Int)(x31:Int)(a32:Bool):Option (List bT × Int):=(bif a32 then Option.bind (qB k18 x31 a16) fun x33=>((tW nx3 a26 x31 x33)) else(tW nx3 a26 k18 a16))
def nB (x1:bL × Int)(a6:List Int)(a16:List bT)(nx3:(List bT)→Option (List bT × Int))(k18:Int)(rec6:(Int)→Option (List bT × Int))(a26:Int):Option (List bT × Int):=(bif ((decide ((aS (2*a26))∈a6)) != (decide ((aS ((aS (2*a26))+1))∈a6))) then(if ¬ ((aS (a26*2))∈a6) then(rec6 (aS ((aS (a26*2))+1))) else(rec6 (aS (a26*2)))) else(if a26=k18 then(nx3 a16) else Option.bind (pK x1.1 k18 a26) fun x31=>((if x31≠0 then(if x1.1.kind=3#8 then Option.bind (nC x1.1 k18) fun x34=>((lJ a16 nx3 k18 a26 x31 (!x34))) else(lJ a16 nx3 k18 a26 x31 false)) else(lJ a16 nx3 k18 a26 x31 false)))))
def oI (x1:bL × Int)(a6:List Int)(a16:List bT)(nx3:(List bT)→Option (List bT × Int))(k18:Int)(a24:Bool):Option (List bT × Int):=(bif a24 then(nx3 a16) else(bP (nB x1 a6 a16 nx3 k18) bA k18))
def qC  (a16:List bT):Option (List bT × Int):=Option.bind (sN bT.Node a16) fun l19=>((some (l19,0)))
def oO (x1:bL × Int)(a6:List Int)(k18:Int)(nx3:(List bT)→Option (List bT × Int))(a16:List bT):Option (List bT × Int):=(if x1.1.kind=1#8 then(if(1:Int)<k18 then Option.bind (pX k18) fun x23=>((tY a16 nx3 k18 (decide (¬ (x23∈a6))))) else(tY a16 nx3 k18 false)) else(if(1:Int)<k18 then Option.bind (pX k18) fun x35=>((oI x1 a6 a16 nx3 k18 (decide (¬ (x35∈a6))))) else(oI x1 a6 a16 nx3 k18 false)))
def qM (p1:List Int)(x1:bL × Int)(rec1:(Int × List Int)→Option (List bT × Int))(s1:Int × List Int):Option (List bT × Int):=match s1 with|(a5,a6)=>(if a5<(p1.length:Int) then Option.bind (cL p1 a5) fun y7=>(Option.bind (rQ x1.1 y7) fun x8=>((bP (qU a5 rec1) bA (x8,a6)))) else(jG (oO x1 a6) qC bA a6 []))
def tV (p0:bY)(p1:List Int):Option (List bT × Int):=Option.bind (pQ p0 ([]:List bT)) fun x1=>((if x1.2≠0 then(some ([],x1.2)) else Option.bind (tG x1.1 p1) fun x2=>((bif (!x2) then(some ([],2)) else(if(p1.length:Int)=0 then(some ([(bT.mk 1 0)],0)) else(bP (qM p1 x1) bA (0,[])))))))
end
end Go.Sx

end
section

end
section
namespace Go.Sx
open Go Go.RowKit
noncomputable section
structure eR where
 x:BitVec 64
 y:BitVec 64
deriving DecidableEq,Inhabited
def eR.cs (x:eR)  : List Value:=[wv x.x,wv x.y]
theorem eR.cs_ones (x:eR)   : cZ (eR.cs x )=true:=by simp only[eR.cs,List.cons_append,List.nil_append,kb,cZ,eL,eN,eS,cond_true]
theorem eR.cs_inj {x y:eR}(h:eR.cs x=eR.cs y):x=y:=by
 have h0:x.x=y.x:=rJ (congrArg (fun l=>l[0]?) h);have h1:x.y=y.y:=rJ (congrArg (fun l=>l[1]?) h);cases x;cases y;simp only at *;subst h0;subst h1;rfl
theorem eR.ws (l:List eR):Ws 2 (l.map eR.cs):=fT l (fun _=>rfl) (fun _=>rfl)
def D5 (p0:BitVec 64)(rec2:(BitVec 64)→Option (Bool))(a3:BitVec 64):Option (Bool):=(if a3*a3≤p0 then Option.bind (kV p0 a3) fun x4=>((if x4=0#64 then(some false) else(rec2 (a3+1#64)))) else(some true))
def D4 (p0:BitVec 64)(a1:Bool):Option (Bool):=(bif a1 then(some false) else(bP (D5 p0) bA 2#64))
def D3 (p0:BitVec 64):Option (Bool):=(if p0<2#64 then(D4 p0 true) else(D4 p0 (decide (1048575#64<p0))))
def D2 (p2:BitVec 64)(rec1:(BitVec 64 × BitVec 64 × BitVec 64)→Option (BitVec 64))(s1:BitVec 64 × BitVec 64 × BitVec 64):Option (BitVec 64):=match s1 with|(a6,a7,a8)=>(if 0#64<a7 then(if a7 &&& 1#64=1#64 then Option.bind (kV (a8*a6) p2) fun x9=>(Option.bind (kV (a6*a6) p2) fun x10=>(Option.bind (fD (un 1#64)) fun nn11=>((rec1 (x10,a7 >>> nn11,x9))))) else Option.bind (kV (a6*a6) p2) fun x12=>(Option.bind (fD (un 1#64)) fun nn13=>((rec1 (x12,a7 >>> nn13,a8))))) else(some a8))
def P9 (p0:BitVec 64)(p1:BitVec 64)(p2:BitVec 64):Option (BitVec 64):=Option.bind (kV 1#64 p2) fun x1=>(Option.bind (kV p0 p2) fun x2=>((bP (D2 p2) bA (x2,p1,x1))))
def pE (a1:Bool):Option (Int):=(bif a1 then(some 13) else(some 0))
def Xz (p0:eE):Option (Int):=Option.bind (D3 p0.P) fun x2=>((bif (!x2) then(pE true) else Option.bind (D3 p0.Q) fun x3=>((bif (!x3) then(pE true) else Option.bind (kV (p0.P-1#64) p0.Q) fun x4=>((if x4≠0#64 then(pE true) else(if p0.G<2#64 then(pE true) else(if p0.P≤p0.G then(pE true) else Option.bind (P9 p0.G p0.Q p0.P) fun x5=>((pE (decide (x5≠1#64))))))))))))
def uE (p0:bY):Option (Bool):=(if p0.Kind=4#8 then(if(0:Int)≤p0.Depth then(if p0.Depth≤6 then(if(1:Int)≤p0.Degree then(if p0.Degree≤8 then Option.bind (Xz p0.Group) fun x1=>((if x1=0 then Option.bind (fD p0.Depth) fun nn2=>((some (decide (wd (aS ((iP 1 nn2)+p0.Degree))<p0.Group.Q)))) else(some false))) else(some false)) else(some false)) else(some false)) else(some false)) else(some false))
def yA (p0:W2)(rec1:(Int × BitVec 64 × BitVec 64)→Option (eR))(s1:Int × BitVec 64 × BitVec 64):Option (eR):=match s1 with|(a4,a5,a6)=>(if a4<8 then Option.bind (fD (un 8#64)) fun nn7=>(Option.bind (cL (dF p0) a4) fun y8=>(Option.bind (fD (un 8#64)) fun nn9=>(Option.bind (cL (dF p0) (aS (8+a4))) fun y10=>((rec1 (aS (a4+1),(a5 <<< nn7) ||| (y8.setWidth 64),(a6 <<< nn9) ||| (y10.setWidth 64))))))) else(some (eR.mk a5 a6)))
def C6 (p0:W2):Option (eR):=(bP (yA p0) bA (0,0#64,0#64))
def yR (p0:W2)(p1:BitVec 64)(p2:BitVec 64):Option (BitVec 64):=(if p2=0#64 then(some 0#64) else Option.bind (C6 (dO p0 (bD 3#8) p1)) fun x1=>(Option.bind (kV x1.x p2) fun x2=>((some x2))))
def N4 (p0:W2)(p1:bY)(l1:List (BitVec 64))(rec1:(List (BitVec 64) × Int)→Option (List (BitVec 64)))(s1:List (BitVec 64) × Int):Option (List (BitVec 64)):=match s1 with|(a5,a7)=>(if a7<(l1.length:Int) then Option.bind (yR (dO p0 (bD 40#8) 0#64) (wd a7) p1.Group.Q) fun x8=>(Option.bind (cL a5 a7) fun y9=>((rec1 (a5.set a7.toNat x8,aS (a7+1))))) else(some a5))
def N3 (p0:W2)(p1:bY):Option (List (BitVec 64)):=Option.bind (rO 8 (aS (p1.Degree+1)) 0#64) fun l1=>((bP (N4 p0 p1 l1) bA (l1,0)))
def Jh (p0:List (BitVec 64)):Option (List (BitVec 64)):=(some p0)
def L6 (p1:List (BitVec 64))(rec1:(Int)→Option (List (Int × BitVec 64)))(a2:Int):Option (List (Int × BitVec 64)):=(if(0:Int)≤a2 then Option.bind (cL p1 a2) fun y3=>((yl (a2,y3) ((rec1 (aS (a2-1)))))) else(some []))
def Jg (p1:List (BitVec 64)):Option (List (Int × BitVec 64)):=(bP (L6 p1) bA (aS ((p1.length:Int)-1)))
def T7 (p0:BitVec 64)(p1:List (BitVec 64))(rec1:(BitVec 64 × Int)→Option (BitVec 64))(s1:BitVec 64 × Int):Option (BitVec 64):=match s1 with|(a3,a4)=>(if a4<(p1.length:Int) then Option.bind (cL p1 a4) fun y5=>(Option.bind (kV (a3*y5) p0) fun x6=>((rec1 (x6,aS (a4+1))))) else(some a3))
def sV (p0:BitVec 64)(p1:List (BitVec 64)):Option (BitVec 64):=(bP (T7 p0 p1) bA (1#64,0))
def N1  (s:BitVec 64):Option (BitVec 64):=match s with|a4=>(some a4)
def N2 (p1:BitVec 64)(p2:BitVec 64)(ee:Int × BitVec 64)(nx1:(BitVec 64)→Option (BitVec 64))(s:BitVec 64):Option (BitVec 64):=match ee with|(e5,e6)=>match s with|a4=>Option.bind (sV p1 [a4,p2]) fun x7=>(Option.bind (kV (x7+e6) p1) fun x8=>((nx1 x8)))
def N0 (p0:List (BitVec 64))(p1:BitVec 64)(p2:BitVec 64):Option (BitVec 64):=Option.bind (Jh p0) fun x1=>(Option.bind (Jg x1) fun l2=>((fS (N2 p1 p2) N1 l2 0#64)))
def T4 (p0:W2)(p1:bY)(p2:Int)(a2:Bool):Option (bG × Int):=(bif a2 then(some ((bG.mk 0 [] (aI.mk 0#64 0#64)),2)) else Option.bind (N3 p0 p1) fun x3=>(Option.bind (N0 x3 p1.Group.Q ((wd p2)+1#64)) fun x4=>((some ((bG.mk p2 [] (aI.mk ((wd p2)+1#64) x4)),0)))))
def Zo (p0:W2)(p1:bY)(p2:Int):Option (bG × Int):=Option.bind (uE p1) fun x1=>((bif (!x1) then(some ((bG.mk 0 [] (aI.mk 0#64 0#64)),30)) else(if p2<0 then(T4 p0 p1 p2 true) else Option.bind (fD p1.Depth) fun nn5=>((T4 p0 p1 p2 (decide (iP 1 nn5≤p2)))))))
def uB (p0:bY):Option (Int):=Option.bind (uE p0) fun x1=>((bif (!x1) then(some 30) else(some 0)))
end
end Go.Sx

end
section
namespace Go.Sx
open Go Go.RowKit
noncomputable section
def P8 (p0:BitVec 64):Option (Bool):=(if 1#64≤p0 then(some (decide (p0<4294967296#64))) else(some false))
def Zb (p0:BitVec 64)(p1:BitVec 64)(p2:BitVec 64):Option (BitVec 64 × Int):=Option.bind (P8 p2) fun x1=>((bif (!x1) then(some (0#64,2)) else Option.bind (P9 p0 p1 p2) fun x2=>((some (x2,0)))))
def uM (p0:bY)(p1:BitVec 64)(p2:BitVec 64):Option (BitVec 64):=Option.bind (Zb p1 p2 p0.Group.P) fun x1=>((some x1.1))
def G0 (p0:BitVec 64):Option (W2):=(some (dO k0 (bD 42#8) p0))
def Zp (p0:aI)(p1:aI):Option (Bool):=(some (decide (p0.X=p1.X)))
def L7 (p0:List aI)(p1_0:aI)(rec1:(Int)→Option (Int))(a2:Int):Option (Int):=(if a2<(p0.length:Int) then Option.bind (cL p0 a2) fun y3=>(Option.bind (Zp y3 p1_0) fun x4=>((bif x4 then(some a2) else(rec1 (aS (a2+1)))))) else(some (-1)))
def Jo (p0:List aI)(p1_0:aI):Option (Int):=(bP (L7 p0 p1_0) bA 0)
def Jn (p0:List aI)(p1_0:aI):Option (Bool):=Option.bind (Jo p0 p1_0) fun x1=>((some (decide ((0:Int)≤x1))))
def T6 (p0:List aI)(rec1:(Int)→Option (Bool))(a2:Int):Option (Bool):=(if a2<(p0.length:Int) then Option.bind (cL p0 a2) fun y3=>(Option.bind (sG p0 0 a2) fun l4=>(Option.bind (Jn l4 y3) fun x5=>((bif x5 then(some false) else(rec1 (aS (a2+1))))))) else(some true))
def T5 (p0:List aI):Option (Bool):=(bP (T6 p0) bA 0)
def Zr (p0:BitVec 64)(p1:BitVec 64)(p2:BitVec 64):Option (BitVec 64):=Option.bind (kV ((p1+p0)-p2) p0) fun x1=>((some x1))
def P7 (p1:BitVec 64)(rec1:(Int × Int × Int × Int)→Option (BitVec 64 × Int))(s1:Int × Int × Int × Int):Option (BitVec 64 × Int):=match s1 with|(a7,a8,a9,a10)=>(if a8≠0 then Option.bind (lT a7 a8) fun x11=>((rec1 (a8,aS (a7-(aS (x11*a8))),a10,aS (a9-(aS (x11*a10)))))) else(if a7≠1 then(some (0#64,10)) else Option.bind (iW a9 (aS (un p1))) fun x12=>(Option.bind (iW (aS (x12+(aS (un p1)))) (aS (un p1))) fun x13=>((some (wd x13,0))))))
def Za (p0:BitVec 64)(p1:BitVec 64):Option (BitVec 64 × Int):=Option.bind (P8 p1) fun x1=>((bif (!x1) then(some (0#64,2)) else Option.bind (kV p0 p1) fun x2=>((bP (P7 p1) bA (aS (un p1),aS (un x2),0,1)))))
def Zq (p0:BitVec 64)(p1:BitVec 64)(p2:BitVec 64):Option (BitVec 64):=Option.bind (Za p2 p0) fun x1=>(Option.bind (sV p0 [p1,x1.1]) fun x2=>((some x2)))
end
end Go.Sx

end
section
namespace Go.Sx
open Go Go.RowKit
noncomputable section
def xF (p0:BitVec 64)(p1:bY)(p2:aF)(p3:List (BitVec 64))(p4:BitVec 64):Option (BitVec 64):=Option.bind (N0 p3 p4 p0) fun x1=>(Option.bind (uM p1 p2.Base x1) fun x2=>((some x2)))
def uC (a3:Int)(rec1:(Int)→Option (aF × Int))(a5:Bool):Option (aF × Int):=(bif a5 then(some ((aF.mk [] 0#64 [] k0 k0),2)) else(rec1 (aS (a3+1))))
def T3 (p1:bY)(p3:W2)(a9:List (BitVec 64))(a14:BitVec 64)(rec6:(Int × List aI)→Option (aF × Int))(s6:Int × List aI):Option (aF × Int):=match s6 with|(a30,a31)=>(if(a31.length:Int)<p1.Degree then Option.bind (xF (wd a30) p1 (aF.mk [] a14 a31 k0 (dO p3 (bD 53#8) 0#64)) a9 p1.Group.Q) fun x33=>(Option.bind (gL 16 a31 [(aI.mk (wd a30) x33)]) fun l34=>((rec6 (aS (a30+1),l34)))) else Option.bind (xF 0#64 p1 (aF.mk [] a14 a31 k0 (dO p3 (bD 53#8) 0#64)) a9 p1.Group.Q) fun x35=>(Option.bind (G0 x35) fun x36=>((some ((aF.mk [] a14 a31 (jA x36 p3) (dO p3 (bD 53#8) 0#64)),0)))))
def T2 (p1:bY)(p2:List Int)(p3:W2)(a9:List (BitVec 64))(a14:BitVec 64)(rec5:(Int × List aI)→Option (aF × Int))(s5:Int × List aI):Option (aF × Int):=match s5 with|(a20,a21)=>(if a20<(p2.length:Int) then Option.bind (cL p2 a20) fun y23=>(Option.bind (xF (wd (aS (y23+1))) p1 (aF.mk [] a14 a21 k0 (dO p3 (bD 53#8) 0#64)) a9 p1.Group.Q) fun x24=>(Option.bind (gL 16 a21 [(aI.mk (wd (aS (y23+1))) x24)]) fun l25=>((rec5 (aS (a20+1),l25))))) else Option.bind (fD p1.Depth) fun nn26=>((bP (T3 p1 p3 a9 a14) bA (aS ((iP 1 nn26)+1),a21))))
def Zn (p1:bY)(p2:List Int)(p3:W2)(a9:List (BitVec 64))(a14:BitVec 64):Option (aF × Int):=(bP (T2 p1 p2 p3 a9 a14) bA (0,[]))
def Zm (p0:W2)(p1:bY)(p2:List Int)(p3:W2)(p4:BitVec 64)(a9:List (BitVec 64)):Option (aF × Int):=Option.bind (yR (dO p0 (bD 41#8) p4) 0#64 (p1.Group.Q-1#64)) fun x12=>(Option.bind (uM p1 p1.Group.G (1#64+x12)) fun x37=>((Zn p1 p2 p3 a9 x37)))
def T1 (p0:W2)(p1:bY)(p2:List Int)(p3:W2)(p4:BitVec 64)(rec1:(Int)→Option (aF × Int))(a3:Int):Option (aF × Int):=(if a3<(p2.length:Int) then Option.bind (cL p2 a3) fun y4=>((if y4<0 then(uC a3 rec1 true) else Option.bind (fD p1.Depth) fun nn6=>((if iP 1 nn6≤y4 then(uC a3 rec1 true) else(if(0:Int)<a3 then Option.bind (cL p2 (aS (a3-1))) fun y7=>((uC a3 rec1 (decide (y4≤y7)))) else(uC a3 rec1 false)))))) else(if p1.Degree<(p2.length:Int) then(some ((aF.mk [] 0#64 [] k0 k0),4)) else Option.bind (N3 p0 p1) fun x39=>((Zm p0 p1 p2 p3 p4 x39))))
def Zk (p0:W2)(p1:bY)(p2:List Int)(p3:W2)(p4:BitVec 64):Option (aF × Int):=Option.bind (uE p1) fun x1=>((bif (!x1) then(some ((aF.mk [] 0#64 [] k0 k0),30)) else(bP (T1 p0 p1 p2 p3 p4) bA 0)))
end
end Go.Sx

end
section
namespace Go.Sx
open Go Go.RowKit
noncomputable section
def Jj (p0:List aI):Option (List aI):=Option.bind (gL 16 [] p0) fun l1=>((some l1))
def T8 (p0:bY)(p1:bG)(a2:Bool):Option (Bool):=(bif a2 then(some (decide (p1.Share.Y<p0.Group.Q))) else(some false))
def T9 (p0:bY)(p1:bG)(a3:List aI)(a5:Int)(rec4:(Bool × Int)→Option (Bool))(s4:Bool × Int):Option (Bool):=match s4 with|(a8,a9)=>(if a9<a5 then Option.bind (cL a3 a9) fun y10=>((bif (!a8) then(T8 p0 p1 a8) else(if 1#64≤y10.X then(if y10.X<p0.Group.Q then(if 1#64≤y10.Y then(rec4 (decide (y10.Y<p0.Group.P),aS (a9+1))) else(rec4 (false,aS (a9+1)))) else(rec4 (false,aS (a9+1)))) else(rec4 (false,aS (a9+1)))))) else(T8 p0 p1 a8))
def Zt (p0:bY)(p1:bG)(a1:Bool)(a3:List aI)(a5:Int):Option (Bool):=(bP (T9 p0 p1 a3 a5) bA (a1,0))
def sY (p0:bY)(p1:bG)(p2:aF)(a1:Bool):Option (Bool):=Option.bind (Jj p2.Points) fun x11=>(Option.bind (gL 16 x11 [(aI.mk p1.Share.X 1#64)]) fun l12=>((Zt p0 p1 a1 l12 (l12.length:Int))))
def Zs (p0:bY)(p1:bG)(p2:aF):Option (Bool):=(if(p2.Items.length:Int)=0 then(if 1#64≤p2.Base then(if p2.Base<p0.Group.P then(if(p2.Points.length:Int)=p0.Degree then Option.bind (T5 p2.Points) fun x15=>((sY p0 p1 p2 x15)) else(sY p0 p1 p2 false)) else(sY p0 p1 p2 false)) else(sY p0 p1 p2 false)) else(sY p0 p1 p2 false))
def T0 (p0:bY)(l4:List aI)(a8:BitVec 64)(a9:Int)(rec1:(BitVec 64 × Int)→Option (W2 × Int))(y10:aI)(rec2:(BitVec 64 × BitVec 64 × Int)→Option (W2 × Int))(s2:BitVec 64 × BitVec 64 × Int):Option (W2 × Int):=match s2 with|(a14,a15,a16)=>(if a16<(l4.length:Int) then Option.bind (cL l4 a16) fun y17=>((if a16≠a9 then Option.bind (sV p0.Group.Q [a14,y17.X]) fun x18=>(Option.bind (Zr p0.Group.Q y17.X y10.X) fun x19=>(Option.bind (sV p0.Group.Q [a15,x19]) fun x20=>((rec2 (x18,x20,aS (a16+1)))))) else(rec2 (a14,a15,aS (a16+1))))) else Option.bind (Zq p0.Group.Q a14 a15) fun x21=>(Option.bind (uM p0 y10.Y x21) fun x22=>(Option.bind (sV p0.Group.P [a8,x22]) fun x23=>((rec1 (x23,aS (a9+1)))))))
def Zj (p2:aF)(a25:W2):Option (W2 × Int):=(if dO a25 (bD 53#8) 0#64≠p2.Check then(some (k0,6)) else(some (a25,0)))
def D9 (p0:bY)(p2:aF)(l4:List aI)(rec1:(BitVec 64 × Int)→Option (W2 × Int))(s1:BitVec 64 × Int):Option (W2 × Int):=match s1 with|(a8,a9)=>(if a9<(l4.length:Int) then Option.bind (cL l4 a9) fun y10=>((bP (T0 p0 l4 a8 a9 rec1 y10) bA (1#64,1#64,0))) else Option.bind (G0 a8) fun x26=>((Zj p2 (nU x26 p2.Box))))
def Zi (p0:bY)(p1:bG)(p2:aF):Option (W2 × Int):=Option.bind (uE p0) fun x1=>((bif (!x1) then(some (k0,30)) else Option.bind (Zs p0 p1 p2) fun x2=>((bif (!x2) then(some (k0,8)) else Option.bind (uM p0 p2.Base p1.Share.Y) fun x3=>(Option.bind (gL 16 [(aI.mk p1.Share.X x3)] p2.Points) fun l4=>(Option.bind (T5 l4) fun x5=>((bif (!x5) then(some (k0,6)) else(bP (D9 p0 p2 l4) bA (1#64,0))))))))))
end
end Go.Sx

end
section

end
section

end
section
namespace Go.Sx
open Go Go.RowKit
noncomputable section
def J5 (p0:W2)(p1:bY)(p2:Int)(a1:Bool):Option (bG × Int):=(bif a1 then(some ((bG.mk 0 [] (aI.mk 0#64 0#64)),2)) else(if bD p1.Kind=1∨bD p1.Kind=2∨bD p1.Kind=3 then Option.bind (oA p1) fun x2=>((if x2≠0 then(some ((bG.mk 0 [] (aI.mk 0#64 0#64)),x2)) else Option.bind (U2 p0 p1 p2) fun x3=>((some (x3.1,x3.2))))) else(if bD p1.Kind=4 then Option.bind (uB p1) fun x4=>((if x4≠0 then(some ((bG.mk 0 [] (aI.mk 0#64 0#64)),x4)) else Option.bind (Zo p0 p1 p2) fun x5=>((some (x5.1,x5.2))))) else none)))
def O7 (p0:W2)(p1:bY)(p2:Int):Option (bG × Int):=(if p1.Kind<1#8 then(J5 p0 p1 p2 true) else(J5 p0 p1 p2 (decide ((5:Int)≤bD p1.Kind))))
def Z2 (p0:bY)(a1:Bool):Option (Int):=(bif a1 then(some 2) else(if bD p0.Kind=1∨bD p0.Kind=2∨bD p0.Kind=3 then Option.bind (oA p0) fun x2=>((some x2)) else(if bD p0.Kind=4 then Option.bind (uB p0) fun x3=>((some x3)) else none)))
def Z1 (p0:bY):Option (Int):=(if p0.Kind<1#8 then(Z2 p0 true) else(Z2 p0 (decide ((5:Int)≤bD p0.Kind))))
def rT (p0:W2)(p1:Int):Option (W2):=(some (dO p0 (bD 50#8) (wd p1)))
def K0 (p0:W2)(p1:Int):Option (W2):=(some (dO p0 (bD 51#8) (wd p1)))
end
end Go.Sx

end
section
namespace Go.Sx
open Go Go.RowKit
noncomputable section
structure cX where
 Epoch:Int
 Word:Int
 Early:Int
 Drift:Int
 Delay:Int
deriving DecidableEq,Inhabited
def cX.cs (x:cX)  : List Value:=[.int .i64 x.Epoch,.int .i64 x.Word,.int .i64 x.Early,.int .i64 x.Drift,.int .i64 x.Delay]
theorem cX.cs_ones (x:cX)   : cZ (cX.cs x )=true:=by simp only[cX.cs,List.cons_append,List.nil_append,kb,cZ,eL,eN,eS,cond_true]
theorem cX.cs_inj {x y:cX}(h:cX.cs x=cX.cs y):x=y:=by
 have h0:x.Epoch=y.Epoch:=cF (congrArg (fun l=>l[0]?) h);have h1:x.Word=y.Word:=cF (congrArg (fun l=>l[1]?) h);have h2:x.Early=y.Early:=cF (congrArg (fun l=>l[2]?) h);have h3:x.Drift=y.Drift:=cF (congrArg (fun l=>l[3]?) h);have h4:x.Delay=y.Delay:=cF (congrArg (fun l=>l[4]?) h);cases x;cases y;simp only at *;subst h0;subst h1;subst h2;subst h3;subst h4;rfl
theorem cX.ws (l:List cX):Ws 5 (l.map cX.cs):=fT l (fun _=>rfl) (fun _=>rfl)
structure aL where
 Kind:BitVec 8
 Epoch:Int
 Head:aF
 Low:BitVec 8
 Number:BitVec 64
 Data:List (BitVec 8)
 Mac:W2
deriving DecidableEq,Inhabited
def aL.cs (x:aL)(v0:Value)(v1:Value)(v2:Value):List Value:=[bv x.Kind,.int .i64 x.Epoch,v0,wv x.Head.Base,v1]++(kb x.Head.Box++(kb x.Head.Check++([bv x.Low,wv x.Number,v2]++(kb x.Mac))))
theorem aL.cs_ones (x:aL)(v0:Value)(v1:Value)(v2:Value)(h0:oneB v0=true)(h1:oneB v1=true)(h2:oneB v2=true):cZ (aL.cs x v0 v1 v2)=true:=by simp only[aL.cs,List.cons_append,List.nil_append,kb,cZ,eL,eN,eS,cond_true,h0,h1,h2]
structure eP where
 out:List (BitVec 8)
deriving DecidableEq,Inhabited
def eP.cs (x:eP)(v0:Value):List Value:=[v0]
theorem eP.cs_ones (x:eP)(v0:Value)(h0:oneB v0=true):cZ (eP.cs x v0)=true:=by simp only[eP.cs,List.cons_append,List.nil_append,kb,cZ,eL,eN,eS,cond_true,h0]
structure bS where
 Full:Bool
 Epoch:Int
 Key:W2
deriving DecidableEq,Inhabited
def bS.cs (x:bS)  : List Value:=[.bool x.Full,.int .i64 x.Epoch]++(kb x.Key)
theorem bS.cs_ones (x:bS)   : cZ (bS.cs x )=true:=by simp only[bS.cs,List.cons_append,List.nil_append,kb,cZ,eL,eN,eS,cond_true]
theorem bS.cs_inj {x y:bS}(h:bS.cs x=bS.cs y):x=y:=by
 have h0:x.Full=y.Full:=yO (congrArg (fun l=>l[0]?) h);have h1:x.Epoch=y.Epoch:=cF (congrArg (fun l=>l[1]?) h);have h2:x.Key=y.Key:=kB (congrArg (fun l=>(l.drop 2).take 16) h);cases x;cases y;simp only at *;subst h0;subst h1;subst h2;rfl
theorem bS.ws (l:List bS):Ws 18 (l.map bS.cs):=fT l (fun _=>rfl) (fun _=>rfl)
structure cI where
 a0:bS
 a1:bS
deriving DecidableEq,Inhabited
def cI.cs (x:cI)  : List Value:=[.bool x.a0.Full,.int .i64 x.a0.Epoch]++(kb x.a0.Key++([.bool x.a1.Full,.int .i64 x.a1.Epoch]++(kb x.a1.Key)))
theorem cI.cs_ones (x:cI)   : cZ (cI.cs x )=true:=by simp only[cI.cs,List.cons_append,List.nil_append,kb,cZ,eL,eN,eS,cond_true]
theorem cI.cs_inj {x y:cI}(h:cI.cs x=cI.cs y):x=y:=by
 have h0:x.a0=y.a0:=bS.cs_inj (congrArg (fun l=>(l.drop 0).take 18) h);have h1:x.a1=y.a1:=bS.cs_inj (congrArg (fun l=>(l.drop 18).take 18) h);cases x;cases y;simp only at *;subst h0;subst h1;rfl
theorem cI.ws (l:List cI):Ws 36 (l.map cI.cs):=fT l (fun _=>rfl) (fun _=>rfl)
structure bK where
 Secret:bG
 Ahead:Int
 Slots:cI
deriving DecidableEq,Inhabited
def bK.cs (x:bK)(v0:Value):List Value:=[.int .i64 x.Secret.Receiver,v0,wv x.Secret.Share.X,wv x.Secret.Share.Y,.int .i64 x.Ahead,.bool x.Slots.a0.Full,.int .i64 x.Slots.a0.Epoch]++(kb x.Slots.a0.Key++([.bool x.Slots.a1.Full,.int .i64 x.Slots.a1.Epoch]++(kb x.Slots.a1.Key)))
theorem bK.cs_ones (x:bK)(v0:Value)(h0:oneB v0=true):cZ (bK.cs x v0)=true:=by simp only[bK.cs,List.cons_append,List.nil_append,kb,cZ,eL,eN,eS,cond_true,h0]
def rH (a2:Bool):Option (Int):=(bif a2 then(some 50) else(some 0))
def rW (p0:cX)(a1:Bool):Option (Int):=(bif a1 then(some 50) else(if mW (mW p0.Early p0.Drift) p0.Delay<0 then(rH true) else(if aS (3*p0.Word)≤p0.Drift then(rH true) else(if aS (3*p0.Word)≤p0.Delay then(rH true) else(if aS (3*p0.Word)≤aS ((aS (2*p0.Drift))+p0.Delay) then(rH true) else(rH (decide (aS (p0.Epoch-p0.Delay)<p0.Early))))))))
def pH (p0:cX):Option (Int):=(if p0.Word<1 then(rW p0 true) else(if(1000:Int)<p0.Word then(rW p0 true) else(if p0.Epoch<p0.Word then(rW p0 true) else(if aS (1000*p0.Word)<p0.Epoch then(rW p0 true) else Option.bind (iW p0.Epoch p0.Word) fun x3=>((rW p0 (decide (x3≠0))))))))
def lI (p0:Int):Option (Bool):=(if(0:Int)≤p0 then(some (decide (p0≤1099511627776))) else(some false))
def O4 (p0:cX):Option (Int):=(some p0.Epoch)
def O8 (p0:cX)(p1:Int):Option (Int × Int):=Option.bind (pH p0) fun x1=>((if x1≠0 then(some (0,x1)) else Option.bind (lI p1) fun x2=>((bif (!x2) then(some (0,2)) else Option.bind (O4 p0) fun x3=>(Option.bind (lT p1 x3) fun x4=>((some (x4,0))))))))
def Z7 (p0:cX)(p1:Int):Option (Int × Int):=Option.bind (O8 p0 p1) fun x1=>((some (x1.1,x1.2)))
def O6 (p0:cX):Option (Int):=(some p0.Word)
def O9 (p0:cX)(p1:Int):Option (Int × Int):=Option.bind (pH p0) fun x1=>((if x1≠0 then(some (0,x1)) else Option.bind (lI p1) fun x2=>((bif (!x2) then(some (0,2)) else Option.bind (O6 p0) fun x3=>(Option.bind (lT p1 x3) fun x4=>((some (x4,0))))))))
def J2 (p0:cX)(p1:Int):Option (Int × Int):=Option.bind (O9 p0 p1) fun x1=>((some (x1.1,x1.2)))
def O2 (p0:cX)(p1:Int):Option (List Int × Int):=Option.bind (Z7 p0 p1) fun x1=>((if x1.2≠0 then(some ([],x1.2)) else(if aS ((aS ((aS (x1.1+1))*p0.Epoch))-p0.Early)≤p1 then Option.bind (gL 8 [x1.1] [aS (x1.1+1)]) fun l2=>((some (l2,0))) else(some ([x1.1],0)))))
def V4 (p0:Int):Option (Bool):=(if((-1099511627776):Int)≤p0 then(some (decide (p0≤2199023255552))) else(some false))
def Y0 (p0:cX)(p1:Int):Option (Int × Int):=(some (xL (aS ((aS (p1-p0.Drift))-p0.Delay)) 0,aS (p1+p0.Drift)))
def V6 (p0:cX)(p1:Int)(p2:BitVec 8):Option (Int × Bool):=Option.bind (Y0 p0 p1) fun x1=>((if x1.2<0 then(some (0,false)) else Option.bind (lT x1.1 p0.Word) fun x2=>(Option.bind (iW x2 4) fun x3=>(Option.bind (iW (aS ((aS ((bD p2)-x3))+4)) 4) fun x4=>(Option.bind (lT x1.2 p0.Word) fun x5=>((some (aS (x2+x4),decide (aS (x2+x4)≤x5)))))))))
def J3 (p0:cX)(p1:Int)(p2:BitVec 8)(a2:Bool):Option (Int × Int):=(bif a2 then(some (0,2)) else Option.bind (V6 p0 p1 p2) fun x3=>((bif (!x3.2) then(some (0,51)) else(some (x3.1,0)))))
def uX (p0:cX)(p1:Int)(p2:BitVec 8):Option (Int × Int):=Option.bind (pH p0) fun x1=>((if x1≠0 then(some (0,x1)) else Option.bind (V4 p1) fun x4=>((bif (!x4) then(J3 p0 p1 p2 true) else(J3 p0 p1 p2 (decide (3#8<p2)))))))
def W7 (p0:cX)(p1:Int)(p2:Int):Option (Bool):=Option.bind (Y0 p0 p1) fun x1=>((if(0:Int)≤x1.2 then Option.bind (lT x1.1 p0.Epoch) fun x2=>((if x2≤p2 then(some (decide (aS ((aS (p2*p0.Epoch))-p0.Early)≤x1.2))) else(some false))) else(some false)))
def Z8 (p0:cX)(p1:Int)(p2:Int)(a2:Bool):Option (Bool × Int):=(bif a2 then(some (false,2)) else Option.bind (W7 p0 p1 p2) fun x3=>((some (x3,0))))
def tO (p0:cX)(p1:Int)(p2:Int):Option (Bool × Int):=Option.bind (pH p0) fun x1=>((if x1≠0 then(some (false,x1)) else Option.bind (V4 p1) fun x4=>((bif (!x4) then(Z8 p0 p1 p2 true) else Option.bind (lI p2) fun x5=>((Z8 p0 p1 p2 (!x5)))))))
def uJ (p0:W2)(p1:bY)(p2:List Int)(p3:W2)(p4:BitVec 64):Option (aF × Int):=Option.bind (tV p1 p2) fun x1=>((if x1.2≠0 then(some ((aF.mk [] 0#64 [] k0 k0),x1.2)) else Option.bind (vM p0 p1 x1.1 p3) fun x2=>((some (x2.1,x2.2)))))
def wS (p0:W2)(p1:bY)(p2:Int)(p3:List Int)(a1:Bool):Option (aF × Int):=(bif a1 then(some ((aF.mk [] 0#64 [] k0 k0),2)) else(if bD p1.Kind=1∨bD p1.Kind=2∨bD p1.Kind=3 then Option.bind (oA p1) fun x2=>((if x2≠0 then(some ((aF.mk [] 0#64 [] k0 k0),x2)) else Option.bind (lI p2) fun x3=>((bif (!x3) then(some ((aF.mk [] 0#64 [] k0 k0),2)) else Option.bind (rT p0 p2) fun x4=>(Option.bind (uJ p0 p1 p3 x4 (wd p2)) fun x5=>((some (x5.1,x5.2)))))))) else(if bD p1.Kind=4 then Option.bind (uB p1) fun x6=>((if x6≠0 then(some ((aF.mk [] 0#64 [] k0 k0),x6)) else Option.bind (lI p2) fun x7=>((bif (!x7) then(some ((aF.mk [] 0#64 [] k0 k0),2)) else Option.bind (rT p0 p2) fun x8=>(Option.bind (Zk p0 p1 p3 x8 (wd p2)) fun x9=>((some (x9.1,x9.2)))))))) else none)))
def wL (p0:W2)(p1:bY)(p2:Int)(p3:List Int):Option (aF × Int):=(if p1.Kind<1#8 then(wS p0 p1 p2 p3 true) else(wS p0 p1 p2 p3 (decide ((5:Int)≤bD p1.Kind))))
def W8 (p1:BitVec 64)(rec1:(Int × List (BitVec 8))→Option (eP))(s1:Int × List (BitVec 8)):Option (eP):=match s1 with|(a4,a5)=>(if(0:Int)≤a4 then Option.bind (fD (aS (8*a4))) fun nn7=>(Option.bind (gL 1 a5 [(p1 >>> nn7).setWidth 8]) fun l8=>((rec1 (aS (a4-1),l8)))) else(some (eP.mk a5)))
def jO (p0:eP)(p1:BitVec 64)(p2:Int):Option (eP):=(bP (W8 p1) bA (aS (p2-1),p0.out))
def wC (p0:eP)(p1:W2):Option (eP):=Option.bind (gL 1 p0.out (dF p1)) fun l1=>((some (eP.mk l1)))
def V2 (p0:aL)(rec2:(Int × eP)→Option (List (BitVec 8)))(s2:Int × eP):Option (List (BitVec 8)):=match s2 with|(a23,a24)=>(if a23<(p0.Head.Points.length:Int) then Option.bind (cL p0.Head.Points a23) fun y26=>(Option.bind (jO a24 y26.X 8) fun x27=>(Option.bind (jO x27 y26.Y 8) fun x28=>((rec2 (aS (a23+1),x28))))) else Option.bind (wC a24 p0.Head.Box) fun x29=>(Option.bind (wC x29 p0.Head.Check) fun x30=>((some x30.out))))
def V1 (p0:aL)(rec1:(Int × eP)→Option (List (BitVec 8)))(s1:Int × eP):Option (List (BitVec 8)):=match s1 with|(a11,a12)=>(if a11<(p0.Head.Items.length:Int) then Option.bind (cL p0.Head.Items a11) fun y14=>(Option.bind (jO a12 (wd y14.Subset.Node) 1) fun x15=>(Option.bind (jO x15 (wd y14.Subset.Minus) 1) fun x16=>(Option.bind (wC x16 y14.Box) fun x17=>((rec1 (aS (a11+1),x17)))))) else Option.bind (jO a12 p0.Head.Base 8) fun x18=>(Option.bind (jO x18 (wd (p0.Head.Points.length:Int)) 1) fun x19=>((bP (V2 p0) bA (0,x19)))))
def uZ (p0:aL):Option (List (BitVec 8)):=Option.bind (jO (eP.mk []) (p0.Kind.setWidth 64) 1) fun x1=>((if p0.Kind=2#8 then Option.bind (jO x1 (p0.Low.setWidth 64) 1) fun x2=>(Option.bind (jO x2 p0.Number 8) fun x3=>(Option.bind (jO x3 (wd (p0.Data.length:Int)) 2) fun x4=>(Option.bind (gL 1 x4.out p0.Data) fun l5=>((some l5))))) else Option.bind (jO x1 (wd p0.Epoch) 8) fun x6=>(Option.bind (jO x6 (wd (p0.Head.Items.length:Int)) 1) fun x7=>((bP (V1 p0) bA (0,x7))))))
def yI (p1:W2)(rec1:(Int × W2)→Option (W2))(s1:Int × W2):Option (W2):=match s1 with|(a3,a4)=>(if a3<16 then Option.bind (cL (dF a4) a3) fun y5=>(Option.bind (cL (dF p1) a3) fun y6=>(Option.bind (cL (dF a4) a3) fun y7=>(Option.bind (pR a4 a3 (y5 ^^^ y6)) fun x8=>((rec1 (aS (a3+1),x8)))))) else(some a4))
def C7 (p0:W2)(p1:W2):Option (W2):=(if p0=p1 then(some k0) else(bP (yI p1) bA (0,p0)))
def C2 (p0:W2)(p1:W2)(p2:W2):Option (W2):=Option.bind (C7 p0 p1) fun x1=>((some (jA p2 x1)))
def yU (p2_0:W2)(rec1:(List (BitVec 8) × W2)→Option (W2))(s1:List (BitVec 8) × W2):Option (W2):=match s1 with|(a4,a6)=>(if(0:Int)<(a4.length:Int) then Option.bind (sG a4 (vB (dF k0) a4) (a4.length:Int)) fun l7=>(Option.bind (C2 a6 (kA (mR (dF k0) a4)) p2_0) fun x8=>((rec1 (l7,x8)))) else(some a6))
def C4 (p0:W2)(p1:List (BitVec 8))(p2_0:W2):Option (W2):=(bP (yU p2_0) bA (p1,p0))
def vS (p0:W2)(p1:List (BitVec 8)):Option (W2 × Int):=(if(16384:Int)<(p1.length:Int) then(some (k0,4)) else Option.bind (C4 (dO p0 (bD 2#8) (wd (p1.length:Int))) p1 p0) fun x1=>((some (x1,0))))
def Qa (a2:W2):Option (W2):=(some a2)
def wR (p0:W2)(p1:aL):Option (W2):=Option.bind (uZ p1) fun x3=>(Option.bind (vS (dO p0 (bD 52#8) (wd p1.Epoch)) x3) fun x4=>((Qa x4.1)))
def tI (p0:W2)(p1:bY)(p2:Int)(p3:List Int):Option (aL × Int):=Option.bind (wL p0 p1 p2 p3) fun x1=>((if x1.2≠0 then(some ((aL.mk 0#8 0 (aF.mk [] 0#64 [] k0 k0) 0#8 0#64 [] k0),x1.2)) else Option.bind (rT p0 p2) fun x2=>(Option.bind (wR x2 (aL.mk 1#8 p2 x1.1 0#8 0#64 [] k0)) fun x3=>((some ((aL.mk 1#8 p2 x1.1 0#8 0#64 [] x3),0))))))
def yE (p0:eR)(rec1:(Int × W2)→Option (W2))(s1:Int × W2):Option (W2):=match s1 with|(a3,a4)=>(if a3<8 then Option.bind (fD (aS (56-(aS (8*a3))))) fun nn5=>(Option.bind (fD (aS (56-(aS (8*a3))))) fun nn6=>(Option.bind (cL (dF a4) a3) fun y7=>(Option.bind (pR a4 a3 ((p0.x >>> nn5).setWidth 8)) fun x8=>(Option.bind (cL (dF x8) (aS (8+a3))) fun y9=>(Option.bind (pR x8 (aS (8+a3)) ((p0.y >>> nn6).setWidth 8)) fun x10=>((rec1 (aS (a3+1),x10)))))))) else(some a4))
def C5 (p0:eR):Option (W2):=(bP (yE p0) bA (0,k0))
def C3 (p0:BitVec 8)(p1:BitVec 64)(p2:BitVec 64):Option (W2):=Option.bind (fD (un 56#64)) fun nn1=>(Option.bind (C5 (eR.mk (((p0.setWidth 64) <<< nn1) ||| p1) p2)) fun x2=>((some x2)))
def yC (a6:List (BitVec 8))(a8:Int)(rec1:(List (BitVec 8) × Int × W2)→Option (List (BitVec 8) × Int))(y10:BitVec 8)(a11:W2):Option (List (BitVec 8) × Int):=Option.bind (iW a8 16) fun x12=>(Option.bind (cL (dF a11) x12) fun y13=>(Option.bind (cL a6 a8) fun y14=>((rec1 (a6.set a8.toNat (y10 ^^^ y13),aS (a8+1),a11)))))
def yM (p0:W2)(p1:BitVec 64)(p2:List (BitVec 8))(rec1:(List (BitVec 8) × Int × W2)→Option (List (BitVec 8) × Int))(s1:List (BitVec 8) × Int × W2):Option (List (BitVec 8) × Int):=match s1 with|(a6,a8,a9)=>(if a8<(p2.length:Int) then Option.bind (cL p2 a8) fun y10=>(Option.bind (iW a8 16) fun x15=>((if x15=0 then Option.bind (lT a8 16) fun x16=>(Option.bind (C3 1#8 (wd x16) p1) fun x17=>((yC a6 a8 rec1 y10 (jA p0 x17)))) else(yC a6 a8 rec1 y10 a9)))) else(some (a6,0)))
def yB (p0:W2)(p1:BitVec 64)(p2:List (BitVec 8)):Option (List (BitVec 8) × Int):=(if(16384:Int)<(p2.length:Int) then(some ([],4)) else Option.bind (rO 1 (p2.length:Int) 0#8) fun l1=>((bP (yM p0 p1 p2) bA (l1,0,k0))))
def O0 (p3:BitVec 64)(p4:List (BitVec 8))(x1:Int × Int)(a3:W2):Option (aL × Int):=Option.bind (iW x1.1 4) fun x4=>(Option.bind (yB a3 p3 p4) fun x5=>((if x5.2≠0 then(some ((aL.mk 0#8 0 (aF.mk [] 0#64 [] k0 k0) 0#8 0#64 [] k0),x5.2)) else Option.bind (uZ (aL.mk 2#8 0 (aF.mk [] 0#64 [] k0 k0) (eZ x4) p3 x5.1 k0)) fun x6=>(Option.bind (vS a3 x6) fun x7=>((some ((aL.mk 2#8 0 (aF.mk [] 0#64 [] k0 k0) (eZ x4) p3 x5.1 x7.1),x7.2)))))))
def wG (p0:W2)(p1:cX)(p2:Int)(p3:BitVec 64)(p4:List (BitVec 8)):Option (aL × Int):=Option.bind (J2 p1 p2) fun x1=>((if x1.2≠0 then(some ((aL.mk 0#8 0 (aF.mk [] 0#64 [] k0 k0) 0#8 0#64 [] k0),x1.2)) else(if(256:Int)<(p4.length:Int) then(some ((aL.mk 0#8 0 (aF.mk [] 0#64 [] k0 k0) 0#8 0#64 [] k0),2)) else Option.bind (lT p2 p1.Epoch) fun x8=>(Option.bind (rT p0 x8) fun x9=>(Option.bind (K0 x9 x1.1) fun x10=>((O0 p3 p4 x1 x10)))))))
def V3 (p0:bY)(p1:cX):Option (Int):=Option.bind (Z1 p0) fun x1=>((if x1≠0 then(some x1) else Option.bind (pH p1) fun x2=>((some x2))))
def J0 (p0:W2)(p1:bY)(p3:Int)(p4:Int)(a2:Bool):Option (bK × Int):=(bif a2 then(some ((bK.mk (bG.mk 0 [] (aI.mk 0#64 0#64)) 0 (cI.mk (bS.mk false 0 k0) (bS.mk false 0 k0))),2)) else Option.bind (O7 p0 p1 p3) fun x3=>((if x3.2≠0 then(some ((bK.mk (bG.mk 0 [] (aI.mk 0#64 0#64)) 0 (cI.mk (bS.mk false 0 k0) (bS.mk false 0 k0))),x3.2)) else(some ((bK.mk x3.1 p4 (cI.mk (bS.mk false 0 k0) (bS.mk false 0 k0))),0)))))
def uQ (p0:W2)(p1:bY)(p2:cX)(p3:Int)(p4:Int):Option (bK × Int):=Option.bind (V3 p1 p2) fun x1=>((if x1≠0 then(some ((bK.mk (bG.mk 0 [] (aI.mk 0#64 0#64)) 0 (cI.mk (bS.mk false 0 k0) (bS.mk false 0 k0))),x1)) else(if p4<aS (-p2.Drift) then(J0 p0 p1 p3 p4 true) else(J0 p0 p1 p3 p4 (decide (p2.Drift<p4))))))
def pP (a4:Int)(rec2:(Int)→Option (Int))(a6:Bool):Option (Int):=(bif a6 then(some 8) else(rec2 (aS (a4+1))))
def Z3 (p2:bK)(rec2:(Int)→Option (Int))(a4:Int):Option (Int):=(if a4<2 then Option.bind (cL [p2.Slots.a0,p2.Slots.a1] a4) fun y5=>((bif y5.Full then Option.bind (lI y5.Epoch) fun x7=>((bif (!x7) then(pP a4 rec2 true) else Option.bind (iW y5.Epoch 2) fun x8=>((if x8≠a4 then(pP a4 rec2 true) else(bif (!y5.Full) then(pP a4 rec2 (decide (y5≠(bS.mk false 0 k0)))) else(pP a4 rec2 false)))))) else(bif (!y5.Full) then(pP a4 rec2 (decide (y5≠(bS.mk false 0 k0)))) else(pP a4 rec2 false)))) else(some 0))
def tA (p2:bK)(a2:Bool):Option (Int):=(bif a2 then(some 8) else(bP (Z3 p2) bA 0))
def I7 (p0:bY)(p1:cX)(p2:bK):Option (Int):=Option.bind (V3 p0 p1) fun x1=>((if x1≠0 then(some x1) else(if p2.Ahead<aS (-p1.Drift) then(tA p2 true) else(if p1.Drift<p2.Ahead then(tA p2 true) else(if p2.Secret.Receiver<0 then(tA p2 true) else Option.bind (fD p0.Depth) fun nn9=>((tA p2 (decide (iP 1 nn9≤p2.Secret.Receiver)))))))))
def I8 (p0:bU):Option (Bool):=(if mW p0.Subset.Node p0.Subset.Minus<0 then(some true) else(some (decide ((127:Int)<xL p0.Subset.Node p0.Subset.Minus))))
def L9 (p0:List bU)(rec1:(Int)→Option (Int))(a2:Int):Option (Int):=(if a2<(p0.length:Int) then Option.bind (cL p0 a2) fun y3=>(Option.bind (I8 y3) fun x4=>((bif x4 then(some a2) else(rec1 (aS (a2+1)))))) else(some (-1)))
def Jq (p0:List bU):Option (Int):=(bP (L9 p0) bA 0)
def Jm (p0:List bU):Option (Bool):=Option.bind (Jq p0) fun x1=>((some (decide ((0:Int)≤x1))))
def jI (a2:Bool):Option (Int):=(bif (!a2) then(some 8) else(some 0))
def rP (p0:aL)(a1:Bool):Option (Int):=(if p0.Kind=1#8 then Option.bind (lI p0.Epoch) fun x3=>((bif x3 then(if p0.Low=0#8 then(if p0.Number=0#64 then(if(p0.Data.length:Int)=0 then(if(p0.Head.Items.length:Int)≤64 then(if(p0.Head.Points.length:Int)≤8 then Option.bind (Jm p0.Head.Items) fun x4=>((jI (!x4))) else(jI false)) else(jI false)) else(jI false)) else(jI false)) else(jI false)) else(jI false))) else(if p0.Kind=2#8 then(if p0.Epoch=0 then(if p0.Low<4#8 then(if(p0.Data.length:Int)≤256 then(jI a1) else(jI false)) else(jI false)) else(jI false)) else(jI false)))
def wT (p0:aL):Option (Int):=(if(p0.Head.Items.length:Int)=0 then(if(p0.Head.Points.length:Int)=0 then(if p0.Head.Base=0#64 then(if p0.Head.Box=k0 then(rP p0 (decide (p0.Head.Check=k0))) else(rP p0 false)) else(rP p0 false)) else(rP p0 false)) else(rP p0 false))
def Ji (p0:List cT):Option (List cT):=Option.bind (gL 32 [] p0) fun l1=>((some l1))
def J1 (p0:bY)(p1:bG)(p2:aF)(a1:Bool):Option (W2 × Int):=(bif a1 then(some (k0,2)) else(if bD p0.Kind=1∨bD p0.Kind=2∨bD p0.Kind=3 then Option.bind (oA p0) fun x2=>((if x2≠0 then(some (k0,x2)) else Option.bind (U0 p0 p1 p2) fun x3=>((some (x3.1,x3.2))))) else(if bD p0.Kind=4 then Option.bind (uB p0) fun x4=>((if x4≠0 then(some (k0,x4)) else Option.bind (Zi p0 p1 p2) fun x5=>((some (x5.1,x5.2))))) else none)))
def O5 (p0:bY)(p1:bG)(p2:aF):Option (W2 × Int):=(if p0.Kind<1#8 then(J1 p0 p1 p2 true) else(J1 p0 p1 p2 (decide ((5:Int)≤bD p0.Kind))))
def Qc (p2:bK)(p3:aL)(x1:Int)(a6:W2)(a7:Int):Option (Int × bK):=(if a7≠0 then(some (a7,p2)) else Option.bind (wR a6 p3) fun x8=>((if x8≠p3.Mac then(some (53,p2)) else(some (0,(bK.mk p2.Secret p2.Ahead (cI.mk (if x1=0 then(bS.mk true p3.Epoch a6) else p2.Slots.a0) (if x1=0 then p2.Slots.a1 else(bS.mk true p3.Epoch a6)))))))))
def V5 (p0:bY)(p2:bK)(p3:aL)(x1:Int)(a4:Bool):Option (Int × bK):=(bif a4 then(some (52,p2)) else Option.bind (O5 p0 p2.Secret p3.Head) fun x9=>((Qc p2 p3 x1 x9.1 x9.2)))
def Qb (p0:bY)(p1:cX)(p2:bK)(p3:aL)(p4:Int):Option (Int × bK):=Option.bind (iW p3.Epoch 2) fun x1=>(Option.bind (cL [p2.Slots.a0,p2.Slots.a1] x1) fun y2=>(Option.bind (W7 p1 p4 p3.Epoch) fun x3=>((bif (!x3) then(some (51,p2)) else(bif y2.Full then(V5 p0 p2 p3 x1 (decide (p3.Epoch≤y2.Epoch))) else(V5 p0 p2 p3 x1 false))))))
def Qe (p2:aL)(x7:W2)(a9:W2)(a10:Int):Option (List (BitVec 8) × Int):=(if a10≠0 then(some ([],a10)) else(if a9≠p2.Mac then(some ([],53)) else Option.bind (yB x7 p2.Number p2.Data) fun x11=>((some (x11.1,x11.2)))))
def V7 (p2:aL)(x1:Int × Bool)(y5:bS)(a6:Bool):Option (List (BitVec 8) × Int):=(bif a6 then(some ([],6)) else Option.bind (K0 y5.Key x1.1) fun x7=>(Option.bind (uZ p2) fun x12=>(Option.bind (vS x7 x12) fun x13=>((Qe p2 x7 x13.1 x13.2)))))
def Qd (p0:cX)(p1:bK)(p2:aL)(p3:Int):Option (List (BitVec 8) × Int):=Option.bind (V6 p0 p3 p2.Low) fun x1=>((bif (!x1.2) then(some ([],51)) else Option.bind (lT p0.Epoch p0.Word) fun x2=>(Option.bind (lT x1.1 x2) fun x3=>(Option.bind (iW x3 2) fun x4=>(Option.bind (cL [p1.Slots.a0,p1.Slots.a1] x4) fun y5=>((bif (!y5.Full) then(V7 p2 x1 y5 true) else(V7 p2 x1 y5 (decide (y5.Epoch≠x3))))))))))
def J8 (x4:List cT)(a5:Int)(a6:List (BitVec 8))(a8:Int)(a9:aI)(a10:Int)(a11:cI):Option (bK × List (BitVec 8) × Int):=(if a5≠0 then(some ((bK.mk (bG.mk 0 [] (aI.mk 0#64 0#64)) 0 (cI.mk (bS.mk false 0 k0) (bS.mk false 0 k0))),[],a5)) else(some ((bK.mk (bG.mk a8 x4 a9) a10 a11),a6,0)))
def J7 (p0:bY)(p1:cX)(p2:bK)(p3:aL)(p4:Int)(a3:Int):Option (bK × List (BitVec 8) × Int):=(if a3≠0 then(some ((bK.mk (bG.mk 0 [] (aI.mk 0#64 0#64)) 0 (cI.mk (bS.mk false 0 k0) (bS.mk false 0 k0))),[],a3)) else Option.bind (Ji p2.Secret.Labels) fun x4=>((if p3.Kind=1#8 then Option.bind (Qb p0 p1 (bK.mk (bG.mk p2.Secret.Receiver x4 p2.Secret.Share) p2.Ahead p2.Slots) p3 (aS (p4+p2.Ahead))) fun x12=>((J8 x4 x12.1 [] x12.2.Secret.Receiver x12.2.Secret.Share x12.2.Ahead x12.2.Slots)) else Option.bind (Qd p1 (bK.mk (bG.mk p2.Secret.Receiver x4 p2.Secret.Share) p2.Ahead p2.Slots) p3 (aS (p4+p2.Ahead))) fun x13=>((J8 x4 x13.2 x13.1 p2.Secret.Receiver p2.Secret.Share p2.Ahead p2.Slots)))))
def J9 (p0:bY)(p1:cX)(p2:bK)(p3:aL)(p4:Int)(a2:Int)(a14:Bool):Option (bK × List (BitVec 8) × Int):=(bif a14 then(J7 p0 p1 p2 p3 p4 2) else(J7 p0 p1 p2 p3 p4 a2))
def J6 (p0:bY)(p1:cX)(p2:bK)(p3:aL)(p4:Int)(a2:Int):Option (bK × List (BitVec 8) × Int):=(if a2=0 then Option.bind (lI p4) fun x15=>((J9 p0 p1 p2 p3 p4 a2 (!x15))) else(J9 p0 p1 p2 p3 p4 a2 false))
def lA (p0:bY)(p1:cX)(p2:bK)(p3:aL)(p4:Int):Option (bK × List (BitVec 8) × Int):=Option.bind (I7 p0 p1 p2) fun x1=>((if x1=0 then Option.bind (wT p3) fun x16=>((J6 p0 p1 p2 p3 p4 x16)) else(J6 p0 p1 p2 p3 p4 x1)))
end
end Go.Sx

end
section

end
section

end
section
namespace Go.Sx
open Go Go.RowKit
noncomputable section
def Dt (p0:bG)(p1:aL):Option (Bool):=(if(100:Int)<(p0.Labels.length:Int) then(some true) else(if(100:Int)<(p1.Head.Items.length:Int) then(some true) else(if(50:Int)<(p1.Head.Points.length:Int) then(some true) else(some (decide ((1000:Int)<(p1.Data.length:Int)))))))
def N9 (p0:aF)(p1:aF)(rec3:(Int)→Option (Bool))(a7:Int):Option (Bool):=(if a7<(p0.Points.length:Int) then Option.bind (cL p0.Points a7) fun y8=>(Option.bind (cL p1.Points a7) fun y9=>((if y8≠y9 then(some false) else(rec3 (aS (a7+1)))))) else(some true))
def N8 (p0:aF)(p1:aF)(rec2:(Int)→Option (Bool))(a3:Int):Option (Bool):=(if a3<(p0.Items.length:Int) then Option.bind (cL p0.Items a3) fun y4=>(Option.bind (cL p1.Items a3) fun y5=>((if y4≠y5 then(some false) else(rec2 (aS (a3+1)))))) else(bP (N9 p0 p1) bA 0))
def sP (p0:aF)(p1:aF)(a1:Bool):Option (Bool):=(bif a1 then(some false) else(bP (N8 p0 p1) bA 0))
def Du (p0:aF)(p1:aF):Option (Bool):=(if(p0.Items.length:Int)≠(p1.Items.length:Int) then(sP p0 p1 true) else(if(p0.Points.length:Int)≠(p1.Points.length:Int) then(sP p0 p1 true) else(if p0.Base≠p1.Base then(sP p0 p1 true) else(if p0.Box≠p1.Box then(sP p0 p1 true) else(sP p0 p1 (decide (p0.Check≠p1.Check)))))))
end
end Go.Sx

end
section
namespace Go.Sx
open Go Go.RowKit
noncomputable section
def fY  : Option (cX):=(some (cX.mk 100 10 20 6 2))
def P3 (p0:List Int)(p1:List Int)(rec1:(Int)→Option (Bool))(a2:Int):Option (Bool):=(if a2<(p0.length:Int) then Option.bind (cL p0 a2) fun y3=>(Option.bind (cL p1 a2) fun y4=>((if y3≠y4 then(some false) else(rec1 (aS (a2+1)))))) else(some true))
def Xr (p0:List Int)(p1:List Int):Option (Bool):=(if(p0.length:Int)≠(p1.length:Int) then(some false) else(bP (P3 p0 p1) bA 0))
def iV  : Option (bY):=(some (bY.mk 2#8 2 0 (eE.mk 0#64 0#64 0#64)))
def Xq (a14:aL)(a20:aL)(a30:bK)(a33:Int)(a37:Int)(a38:List (BitVec 8)):Option (Bool):=Option.bind (iV) fun x40=>(Option.bind (fY) fun x41=>(Option.bind (lA x40 x41 a30 a14 90) fun x42=>(Option.bind (iV) fun x43=>(Option.bind (fY) fun x44=>(Option.bind (lA x43 x44 a30 a20 97) fun x45=>((if a33=0 then(if a37=0 then(if a38=[97#8,98#8,99#8] then(if x42.2.2=6 then(some (decide (x45.2.2=6))) else(some false)) else(some false)) else(some false)) else(some false))))))))
def Xp (a14:aL)(a20:aL)(a30:bK)(a33:Int)(a35:bK):Option (Bool):=Option.bind (iV) fun x46=>(Option.bind (fY) fun x47=>(Option.bind (lA x46 x47 a35 a20 97) fun x48=>((Xq a14 a20 a30 a33 x48.2.2 x48.2.1))))
def uN (a14:aL)(a20:aL)(a26:bK)(a30:bK)(a32:Bool):Option (Bool):=(bif a32 then(some false) else Option.bind (iV) fun x55=>(Option.bind (fY) fun x56=>(Option.bind (lA x55 x56 a26 a14 90) fun x57=>((Xp a14 a20 a30 x57.2.2 x57.1)))))
def Xo (a12:Int)(a14:aL)(a18:Int)(a20:aL)(a24:Int)(a26:bK)(a28:Int)(a30:bK):Option (Bool):=(if a12≠0 then(uN a14 a20 a26 a30 true) else(if a18≠0 then(uN a14 a20 a26 a30 true) else(if a24≠0 then(uN a14 a20 a26 a30 true) else(uN a14 a20 a26 a30 (decide (a28≠0))))))
def Xn (a12:Int)(a14:aL)(a18:Int)(a20:aL)(a24:Int)(a26:bK):Option (Bool):=Option.bind (iV) fun x64=>(Option.bind (fY) fun x65=>(Option.bind (uQ (72623842526232576#64,0#64) x64 x65 2 0) fun x66=>((Xo a12 a14 a18 a20 a24 a26 x66.2 x66.1))))
def Xm (a12:Int)(a14:aL)(a18:Int)(a20:aL):Option (Bool):=Option.bind (iV) fun x73=>(Option.bind (fY) fun x74=>(Option.bind (uQ (72623842526232576#64,0#64) x73 x74 1 6) fun x75=>((Xn a12 a14 a18 a20 x75.2 x75.1))))
def P2 (a12:Int)(a14:aL):Option (Bool):=Option.bind (fY) fun x82=>(Option.bind (wG (72623842526232576#64,0#64) x82 95 5#64 [97#8,98#8,99#8]) fun x83=>((Xm a12 a14 x83.2 x83.1)))
def jP (a11:Bool):Option (Bool):=(bif a11 then(some false) else Option.bind (iV) fun x106=>(Option.bind (tI (72623842526232576#64,0#64) x106 0 [2]) fun x107=>((P2 x107.2 x107.1))))
def xG  : Option (Bool):=Option.bind (fY) fun x1=>(Option.bind (Z7 x1 95) fun x2=>(Option.bind (fY) fun x3=>(Option.bind (J2 x3 95) fun x4=>(Option.bind (fY) fun x5=>(Option.bind (O2 x5 95) fun x6=>(Option.bind (fY) fun x7=>(Option.bind (uX x7 101 1#8) fun x8=>(Option.bind (fY) fun x9=>(Option.bind (tO x9 107 0) fun x10=>((if x2.2≠0 then(jP true) else(if x2.1≠0 then(jP true) else(if x4.2≠0 then(jP true) else(if x4.1≠9 then(jP true) else(if x6.2≠0 then(jP true) else Option.bind (Xr x6.1 [0,1]) fun x119=>((bif (!x119) then(jP true) else(if x8.2≠0 then(jP true) else(if x8.1≠9 then(jP true) else(if x10.2≠0 then(jP true) else(jP (!x10.1))))))))))))))))))))))
end
end Go.Sx

end
section

end
section
namespace Go.Sx
open Go Go.RowKit
noncomputable section
def pA (p0:cX)(a2:Bool):Option (Bool):=(bif a2 then(some false) else(if aS ((aS (2*p0.Drift))+p0.Delay)<aS (3*p0.Word) then(some (decide (aS (p0.Early+p0.Delay)≤p0.Epoch))) else(some false)))
def sD (p0:cX)(a1:Bool):Option (Bool):=(bif a1 then(some false) else(if p0.Early<0 then(pA p0 true) else(if p0.Drift<0 then(pA p0 true) else(if p0.Delay<0 then(pA p0 true) else(if p0.Epoch<p0.Early then(pA p0 true) else(if(3000:Int)<p0.Drift then(pA p0 true) else(pA p0 (decide ((3000:Int)<p0.Delay)))))))))
def Dv (p0:cX):Option (Bool):=(if p0.Word<1 then(sD p0 true) else(if(1000:Int)<p0.Word then(sD p0 true) else(if p0.Epoch<p0.Word then(sD p0 true) else(if aS (1000*p0.Word)<p0.Epoch then(sD p0 true) else Option.bind (iW p0.Epoch p0.Word) fun x3=>((sD p0 (decide (x3≠0))))))))
end
end Go.Sx

end
section

end
section
namespace Go.Sx
open Go Go.RowKit
noncomputable section
structure cD where
 b:List (BitVec 8)
 short:Bool
deriving DecidableEq,Inhabited
def cD.cs (x:cD)(v0:Value):List Value:=[v0,.bool x.short]
theorem cD.cs_ones (x:cD)(v0:Value)(h0:oneB v0=true):cZ (cD.cs x v0)=true:=by simp only[cD.cs,List.cons_append,List.nil_append,kb,cZ,eL,eN,eS,cond_true,h0]
def O3 (p0:aL):Option (List (BitVec 8) × Int):=Option.bind (wT p0) fun x1=>((if x1≠0 then(some ([],x1)) else Option.bind (uZ p0) fun x2=>(Option.bind (gL 1 x2 (dF p0.Mac)) fun l3=>((some (l3,0))))))
def wB (p0:cD)(p1:Int):Option (List (BitVec 8) × cD):=(if(p0.b.length:Int)<p1 then Option.bind (rO 1 p1 0#8) fun l1=>((some (l1,(cD.mk [] true)))) else Option.bind (sG p0.b 0 p1) fun l2=>(Option.bind (sG p0.b p1 (p0.b.length:Int)) fun l3=>((some (l2,(cD.mk l3 p0.short))))))
def V8 (x1:List (BitVec 8) × cD)(rec1:(BitVec 64 × Int)→Option (BitVec 64 × cD))(s1:BitVec 64 × Int):Option (BitVec 64 × cD):=match s1 with|(a4,a5)=>(if a5<(x1.1.length:Int) then Option.bind (cL x1.1 a5) fun y6=>(Option.bind (fD (un 8#64)) fun nn7=>((rec1 ((a4 <<< nn7) ||| (y6.setWidth 64),aS (a5+1))))) else(some (a4,x1.2)))
def mU (p0:cD)(p1:Int):Option (BitVec 64 × cD):=Option.bind (wB p0 p1) fun x1=>((bP (V8 x1) bA (0#64,0)))
def nE (p0:cD):Option (Int × cD):=Option.bind (mU p0 1) fun x1=>((some (aS (un x1.1),x1.2)))
def Jk (p0:List (BitVec 8)):Option (List (BitVec 8)):=Option.bind (gL 1 [] p0) fun l1=>((some l1))
def lV (p0:cD):Option (W2 × cD):=Option.bind (wB p0 16) fun x1=>(Option.bind (xP x1.1) fun x2=>((some (x2,x1.2))))
def Qf (p0:cD):Option (bU × cD):=Option.bind (nE p0) fun x1=>(Option.bind (nE x1.2) fun x2=>(Option.bind (lV x2.2) fun x3=>((some ((bU.mk (bT.mk x1.1 x2.1) x3.1),x3.2)))))
def V9 (p0:cD):Option (aI × cD):=Option.bind (mU p0 8) fun x1=>(Option.bind (mU x1.2 8) fun x2=>((some ((aI.mk x1.1 x2.1),x2.2))))
def wN (x1:Int × cD)(a4:Int)(a5:List bU)(a6:BitVec 64)(a7:List aI)(a8:W2)(a9:W2)(a10:BitVec 8)(a11:BitVec 64)(a12:List (BitVec 8))(x16:W2 × cD)(a17:Bool):Option (aL × Int):=(bif a17 then(some ((aL.mk 0#8 0 (aF.mk [] 0#64 [] k0 k0) 0#8 0#64 [] k0),8)) else(some ((aL.mk (eZ x1.1) a4 (aF.mk a5 a6 a7 a8 a9) a10 a11 a12 x16.1),0)))
def rD (x1:Int × cD)(a2:cD)(a4:Int)(a5:List bU)(a6:BitVec 64)(a7:List aI)(a8:W2)(a9:W2)(a10:BitVec 8)(a11:BitVec 64)(a12:List (BitVec 8)):Option (aL × Int):=Option.bind (lV a2) fun x16=>((bif x16.2.short then(wN x1 a4 a5 a6 a7 a8 a9 a10 a11 a12 x16 true) else(if(0:Int)<(x16.2.b.length:Int) then(wN x1 a4 a5 a6 a7 a8 a9 a10 a11 a12 x16 true) else Option.bind (wT (aL.mk (eZ x1.1) a4 (aF.mk a5 a6 a7 a8 a9) a10 a11 a12 x16.1)) fun x18=>((wN x1 a4 a5 a6 a7 a8 a9 a10 a11 a12 x16 (decide (x18≠0)))))))
def Z5 (x1:Int × cD)(x24:BitVec 64 × cD)(x36:BitVec 64 × cD)(x37:Int × cD)(rec4:(List aI × Int × cD)→Option (aL × Int))(s4:List aI × Int × cD):Option (aL × Int):=match s4 with|(a43,a45,a46)=>(if a45<x37.1 then(bif a46.short then Option.bind (lV a46) fun x48=>(Option.bind (lV x48.2) fun x49=>((rD x1 x49.2 (aS (un x24.1)) [] x36.1 [] x48.1 x49.1 0#8 0#64 []))) else Option.bind (V9 a46) fun x50=>(Option.bind (gL 16 a43 [x50.1]) fun l51=>((rec4 (l51,aS (a45+1),x50.2))))) else Option.bind (lV a46) fun x52=>(Option.bind (lV x52.2) fun x53=>((rD x1 x53.2 (aS (un x24.1)) [] x36.1 a43 x52.1 x53.1 0#8 0#64 []))))
def Z6 (x1:Int × cD)(x24:BitVec 64 × cD)(a31:List bU)(x56:BitVec 64 × cD)(x57:Int × cD)(rec5:(List aI × Int × cD)→Option (aL × Int))(s5:List aI × Int × cD):Option (aL × Int):=match s5 with|(a63,a65,a66)=>(if a65<x57.1 then(bif a66.short then Option.bind (lV a66) fun x68=>(Option.bind (lV x68.2) fun x69=>((rD x1 x69.2 (aS (un x24.1)) a31 x56.1 [] x68.1 x69.1 0#8 0#64 []))) else Option.bind (V9 a66) fun x70=>(Option.bind (gL 16 a63 [x70.1]) fun l71=>((rec5 (l71,aS (a65+1),x70.2))))) else Option.bind (lV a66) fun x72=>(Option.bind (lV x72.2) fun x73=>((rD x1 x73.2 (aS (un x24.1)) a31 x56.1 a63 x72.1 x73.1 0#8 0#64 []))))
def Z4 (x1:Int × cD)(x24:BitVec 64 × cD)(x25:Int × cD)(rec3:(List bU × Int × cD)→Option (aL × Int))(s3:List bU × Int × cD):Option (aL × Int):=match s3 with|(a31,a33,a34)=>(if a33<x25.1 then(bif a34.short then Option.bind (mU a34 8) fun x36=>(Option.bind (nE x36.2) fun x37=>((bP (Z5 x1 x24 x36 x37) bA ([],0,x37.2)))) else Option.bind (Qf a34) fun x54=>(Option.bind (gL 32 a31 [x54.1]) fun l55=>((rec3 (l55,aS (a33+1),x54.2))))) else Option.bind (mU a34 8) fun x56=>(Option.bind (nE x56.2) fun x57=>((bP (Z6 x1 x24 a31 x56 x57) bA ([],0,x57.2)))))
def O1 (p0:List (BitVec 8)):Option (aL × Int):=Option.bind (nE (cD.mk p0 false)) fun x1=>((if eZ x1.1=2#8 then Option.bind (nE x1.2) fun x19=>(Option.bind (mU x19.2 8) fun x20=>(Option.bind (mU x20.2 2) fun x21=>(Option.bind (wB x21.2 (aS (un x21.1))) fun x22=>(Option.bind (Jk x22.1) fun x23=>((rD x1 x22.2 0 [] 0#64 [] k0 k0 (eZ x19.1) x20.1 x23)))))) else Option.bind (mU x1.2 8) fun x24=>((if 1099511627776#64<x24.1 then(some ((aL.mk 0#8 0 (aF.mk [] 0#64 [] k0 k0) 0#8 0#64 [] k0),8)) else Option.bind (nE x24.2) fun x25=>((bP (Z4 x1 x24 x25) bA ([],0,x25.2)))))))
end
end Go.Sx

end
section

end
section
namespace Go.Sx
open Go Go.RowKit
noncomputable section
def Xl (a17:aL)(a26:bK)(a32:aL)(a38:Int)(a40:bK):Option (Bool):=Option.bind (iV) fun x42=>(Option.bind (fY) fun x43=>(Option.bind (lA x42 x43 a40 a32 1) fun x44=>(Option.bind (iV) fun x45=>(Option.bind (fY) fun x46=>(Option.bind (lA x45 x46 a26 a32 120) fun x47=>(Option.bind (cL (dF a32.Mac) 3) fun y48=>(Option.bind (cL (dF a32.Mac) 3) fun y49=>(Option.bind (pR a32.Mac 3 (y48+1#8)) fun x50=>(Option.bind (iV) fun x51=>(Option.bind (fY) fun x52=>(Option.bind (lA x51 x52 a26 (aL.mk a32.Kind a32.Epoch a32.Head a32.Low a32.Number a32.Data x50) 0) fun x53=>(Option.bind (cL (dF a17.Mac) 0) fun y54=>(Option.bind (cL (dF a17.Mac) 0) fun y55=>(Option.bind (pR a17.Mac 0 (y54+1#8)) fun x56=>(Option.bind (iV) fun x57=>(Option.bind (fY) fun x58=>(Option.bind (lA x57 x58 a40 (aL.mk a17.Kind a17.Epoch a17.Head a17.Low a17.Number a17.Data x56) 95) fun x59=>((if a38=0 then(if x44.2.2=52 then(if x47.2.2=51 then(if x53.2.2=53 then(if x59.2.2=53 then Option.bind (Z1 (bY.mk 5#8 0 0 (eE.mk 0#64 0#64 0#64))) fun x60=>((some (decide (x60=2)))) else(some false)) else(some false)) else(some false)) else(some false)) else(some false))))))))))))))))))))
def nJ (a17:aL)(a26:bK)(a32:aL)(a37:Bool):Option (Bool):=(bif a37 then(some false) else Option.bind (iV) fun x61=>(Option.bind (fY) fun x62=>(Option.bind (lA x61 x62 a26 a32 0) fun x63=>((Xl a17 a26 a32 x63.2.2 x63.1)))))
def Xk (a15:Int)(a17:aL)(x21:List (BitVec 8) × Int)(a22:Int)(x23:aL × Int)(a24:Int)(a26:bK)(x30:bK × Int)(a32:aL)(a36:Int):Option (Bool):=(if a15≠0 then(nJ a17 a26 a32 true) else(if x21.2≠0 then(nJ a17 a26 a32 true) else(if(x21.1.length:Int)≠31 then(nJ a17 a26 a32 true) else(if a22≠2 then(nJ a17 a26 a32 true) else(if x23.2≠8 then(nJ a17 a26 a32 true) else(if a24≠0 then(nJ a17 a26 a32 true) else(if x30.2≠2 then(nJ a17 a26 a32 true) else(nJ a17 a26 a32 (decide (a36≠0))))))))))
def Xj (a15:Int)(a17:aL)(x21:List (BitVec 8) × Int)(a22:Int)(x23:aL × Int)(a24:Int)(a26:bK):Option (Bool):=Option.bind (iV) fun x28=>(Option.bind (fY) fun x29=>(Option.bind (uQ (648518346341351424#64,0#64) x28 x29 3 7) fun x30=>(Option.bind (iV) fun x70=>(Option.bind (tI (648518346341351424#64,0#64) x70 0 ([]:List Int)) fun x71=>((Xk a15 a17 x21 a22 x23 a24 a26 x30 x71.1 x71.2))))))
def Xi (a15:Int)(a17:aL)(x21:List (BitVec 8) × Int)(a22:Int):Option (Bool):=Option.bind (O1 ([]:List (BitVec 8))) fun x23=>(Option.bind (iV) fun x75=>(Option.bind (fY) fun x76=>(Option.bind (uQ (648518346341351424#64,0#64) x75 x76 3 (-6)) fun x77=>((Xj a15 a17 x21 a22 x23 x77.2 x77.1)))))
def Qz (a15:Int)(a17:aL):Option (Bool):=Option.bind (O3 a17) fun x21=>(Option.bind (fY) fun x84=>(Option.bind (rO 1 257 0#8) fun l85=>(Option.bind (wG (648518346341351424#64,0#64) x84 95 5#64 l85) fun x86=>((Xi a15 a17 x21 x86.2)))))
def kJ (a14:Bool):Option (Bool):=(bif a14 then(some false) else Option.bind (fY) fun x88=>(Option.bind (wG (648518346341351424#64,0#64) x88 95 5#64 [97#8,98#8,99#8]) fun x89=>((Qz x89.2 x89.1))))
def P1  : Option (Bool):=Option.bind (fY) fun x1=>(Option.bind (fY) fun x2=>(Option.bind (uX x2 101 2#8) fun x3=>(Option.bind (fY) fun x4=>(Option.bind (uX x4 101 3#8) fun x5=>(Option.bind (fY) fun x6=>(Option.bind (uX x6 101 4#8) fun x7=>(Option.bind (fY) fun x8=>(Option.bind (tO x8 108 0) fun x9=>(Option.bind (fY) fun x10=>(Option.bind (tO x10 74 1) fun x11=>(Option.bind (fY) fun x12=>(Option.bind (tO x12 73 1) fun x13=>(Option.bind (xG) fun x112=>((bif (!x112) then(kJ true) else Option.bind (pH (cX.mk x1.Epoch x1.Word x1.Early 15 x1.Delay)) fun x113=>((if x113≠50 then(kJ true) else(if x3.2≠0 then(kJ true) else(if x3.1≠10 then(kJ true) else(if x5.2≠51 then(kJ true) else(if x7.2≠2 then(kJ true) else(if x9.2≠0 then(kJ true) else(bif x9.1 then(kJ true) else(if x11.2≠0 then(kJ true) else(bif (!x11.1) then(kJ true) else(if x13.2≠0 then(kJ true) else(kJ x13.1)))))))))))))))))))))))))))
end
end Go.Sx

end
section
namespace Go.Sx
open Go Go.RowKit Go.Proofs
end Go.Sx

end
section
namespace Go.Proofs.YtplcaaglieefgaaGreat
open Go Go.RowKit Go.Sx
theorem Se:CV Tryz.prog 3 177 .u64:=fun _ _ _=>by kernel_rfl
theorem lS:ZV Tryz.prog 326 (.agg [.int .u64 0,.int .u64 0].toArray):=fun _=>by kernel_rfl
theorem mA:FA Tryz.prog 326 0 0:=fun _ _ _=>by kernel_rfl
theorem cQ:fV Tryz.prog 22:=fun _=>⟨by kernel_rfl,by kernel_rfl⟩
theorem mZ:FA Tryz.prog 326 1 1:=fun _ _ _=>by kernel_rfl
theorem Q7:En Tryz.prog 307:=fun _ _=>by kernel_rfl
theorem vN:BS Tryz.prog 326 (fun i=>[(0,1),(1,1)][i]?) [.int .u64 0,.int .u64 0]:=iS Tryz.underlying326 lS ⟨rfl,(cQ).siz,rfl,(cQ).siz,trivial⟩
theorem gN:eG Tryz.prog 326 2:=fun _=>⟨by kernel_rfl,by kernel_rfl⟩
theorem mB:CV Tryz.prog 5 22 .u64:=fun _ _ _=>by kernel_rfl
theorem cJ:fV Tryz.prog 5:=fun _=>⟨by kernel_rfl,by kernel_rfl⟩
theorem jU:CV Tryz.prog 22 5 .u8:=fun _ _ _=>by kernel_rfl
theorem dH:ZV Tryz.prog 36 (.agg [.int .u8 0,.int .u8 0,.int .u8 0,.int .u8 0,.int .u8 0,.int .u8 0,.int .u8 0,.int .u8 0,.int .u8 0,.int .u8 0,.int .u8 0,.int .u8 0,.int .u8 0,.int .u8 0,.int .u8 0,.int .u8 0].toArray):=fun _=>by kernel_rfl
theorem aO:eG Tryz.prog 36 16:=fun _=>⟨by kernel_rfl,by kernel_rfl⟩
abbrev pv (p:W2):Value:=.agg [wv p.1,wv p.2].toArray
set_option maxHeartbeats 1000000 in
theorem L0 (x:BitVec 64)(k:Int)(s:Nat)(hs:s<64)(hk:bits .and .u64 (IntKind.u64.wrap k) 63=(s:Int))(w:World):
 Calls Tryz.prog 307 [wv x,.int .i64 k].toArray w fun e w'=>∃ v,e=.returned v∧(v=wv (qQ x s)∧Gr w w'):=by
 refine bN 17 Tryz.func307 rfl rfl rfl<|qs 1 rfl<|qv rfl (eQ rfl)<|qd 4 rfl<|qv rfl (aA rfl)<|qv rfl (oF Se rfl)<|qv rfl (eX (vX (by simp) rfl rfl) (show _=Value.int .u64 (s:Int) from by rw[hk]))<|qv rfl (eQ rfl)<|qd 9 rfl<|qv rfl (aA rfl)<|qv rfl (aA rfl)<|qv rfl (yV rfl rfl (by omega))<|qv rfl (aA rfl)<|qv rfl (aA rfl)<|qv rfl (eX (gT rfl rfl) (show _=Value.int .u64 ((64-s:Nat):Int) from by rw[IntKind.wrap_u64];congr 1;omega))<|qv rfl (F7 rfl rfl (by omega))<|qv rfl (qV rfl rfl)<|qv rfl (eQ rfl)<|aQ<|aB ?_;refine⟨_,_,rfl,mH rfl rfl,?_⟩;exact⟨by simp[qQ],(Gr.refl w)⟩
set_option maxHeartbeats 1000000 in
theorem Dy (p:W2)(k:BitVec 64)(w:World):
 Calls Tryz.prog 228 [pv p,wv k].toArray w fun e w'=>∃ v,e=.returned v∧(v=pv (xU p k)∧Gr w w'):=by
 refine bN 21 Tryz.func228 rfl rfl rfl<|qs 2 rfl<|qe rfl (bH rfl (by rfl)) ?_;rintro _ w1 ⟨b1,rfl,hbw1,Bw1,Gw1⟩;have z1:=Gw1.size;have lt2:=Bw1.lt;refine qe rfl (bQ lS (by rfl)) ?_;rintro _ w2 ⟨b2,rfl,hbw2,Bw2,Gw2⟩;have z3:=Gw2.size;have lt4:=Bw2.lt;refine aQ<|aP<|xO [] [(0,3),(1,3),(3,3),(4,3),(6,3),(2,0),(5,3),(7,3),(8,3)] (by kernel_rfl) (by kernel_rfl) rfl (by kernel_rfl) ?_;intro w3 Gw3 zw3;refine dN rfl rfl rfl (Kp.refl [] w3) (fun w hS=>aY mA rfl) ?_;have B5:=(Bx.gr (Bx.gr Bw1 Gw2) Gw3);refine dN rfl rfl rfl (Kp.refl [] w3) (fun w hS=>aT cQ rfl (Bx.kp B5 hS (by simp<;>first|omega|(split<;>omega))) (by rfl))<|dN rfl rfl rfl (Kp.refl [] w3) (fun w hS=>aY mZ rfl)<|dN rfl rfl rfl (Kp.refl [] w3) (fun w hS=>aT cQ rfl (Bx.kp B5 hS (by simp<;>first|omega|(split<;>omega))) (by rfl))<|dN rfl rfl rfl (Kp.refl [] w3) (fun w hS=>aA rfl)<|zO rfl rfl rfl (hM Q7 rfl (L0 _ (-8) 56 (by decide) (by decide) _)) ?_
 rintro _ w4 ⟨rfl,Gw4⟩;have z6:=Gw4.size;refine⟨Gw4,?_⟩;have S7:=(Kp.gr (Kp.refl [] w3) Gw4);refine dN rfl rfl rfl S7 (fun w hS=>vH rfl rfl)<|dN rfl rfl rfl S7 (fun w hS=>F9 rfl rfl)<|dN rfl rfl rfl S7 (fun w hS=>eQ rfl)<|qd 8 rfl<|qv rfl (aA rfl)<|qv rfl (aY mZ rfl) ?_;have B8:=(Bx.gr B5 Gw4);refine qv rfl (aT cQ rfl B8 (by rfl))<|qe rfl (hM Q7 rfl (L0 _ (3) 3 (by decide) (by decide) _)) ?_;rintro _ w5 ⟨rfl,Gw5⟩;have z9:=Gw5.size;refine qv rfl (aA rfl)<|qv rfl (F9 rfl rfl)<|qv rfl (cK vN rfl rfl) ?_;have B10:=(Bx.gr (Bx.gr (Bx.gr Bw2 Gw3) Gw4) Gw5);refine qe rfl (kQ (gN).siz rfl rfl (by rfl) (by rfl) (by rfl) B10 (by rfl)) ?_;rintro _ w6 ⟨Bw6,Mw6⟩;have z11:=Mw6.size;refine aQ<|aB ?_;have X12:=(Gr.md (Gr.trans (Gr.trans (Gr.trans (Gr.trans (Gr.trans (Gr.refl w) Gw1) Gw2) Gw3) Gw4) Gw5) Mw6 (by omega));refine⟨_,_,rfl,pO rfl gN rfl Bw6 (by rfl),?_⟩;exact⟨rfl,X12⟩
set_option maxHeartbeats 1000000 in
theorem Nk (p:W2)(k:BitVec 64)(w:World):
 Calls Tryz.prog 295 [pv p,wv k].toArray w fun e w'=>∃ v,e=.returned v∧(v=pv (Jb p k)∧Gr w w'):=by
 refine bN 21 Tryz.func295 rfl rfl rfl<|qs 2 rfl<|qe rfl (bH rfl (by rfl)) ?_;rintro _ w1 ⟨b1,rfl,hbw1,Bw1,Gw1⟩;have z1:=Gw1.size;have lt2:=Bw1.lt;refine qe rfl (bQ lS (by rfl)) ?_;rintro _ w2 ⟨b2,rfl,hbw2,Bw2,Gw2⟩;have z3:=Gw2.size;have lt4:=Bw2.lt;refine qd 7 rfl<|qv rfl (aY mA rfl) ?_;have B5:=(Bx.gr Bw1 Gw2);refine qv rfl (aT cQ rfl B5 (by rfl))<|qv rfl (aY mZ rfl)<|qv rfl (aT cQ rfl B5 (by rfl))<|qv rfl (F9 rfl rfl)<|qe rfl (hM Q7 rfl (L0 _ (-3) 61 (by decide) (by decide) _)) ?_;rintro _ w3 ⟨rfl,Gw3⟩;have z6:=Gw3.size;refine qv rfl (eQ rfl)<|qd 10 rfl<|qv rfl (aY mA rfl) ?_;have B7:=(Bx.gr B5 Gw3);refine qv rfl (aT cQ rfl B7 (by rfl))<|qv rfl (aA rfl)<|qv rfl (F9 rfl rfl)<|qv rfl (aA rfl)<|qv rfl (F8 rfl rfl)<|qe rfl (hM Q7 rfl (L0 _ (8) 8 (by decide) (by decide) _)) ?_;rintro _ w4 ⟨rfl,Gw4⟩;have z8:=Gw4.size;refine qv rfl (aA rfl)<|qv rfl (cK vN rfl rfl) ?_;have B9:=(Bx.gr (Bx.gr Bw2 Gw3) Gw4);refine qe rfl (kQ (gN).siz rfl rfl (by rfl) (by rfl) (by rfl) B9 (by rfl)) ?_;rintro _ w5 ⟨Bw5,Mw5⟩;have z10:=Mw5.size;refine aQ<|aB ?_;have X11:=(Gr.md (Gr.trans (Gr.trans (Gr.trans (Gr.trans (Gr.refl w) Gw1) Gw2) Gw3) Gw4) Mw5 (by omega));refine⟨_,_,rfl,pO rfl gN rfl Bw5 (by rfl),?_⟩;exact⟨rfl,X11⟩
set_option maxHeartbeats 1000000 in
theorem Kg (p:W2)(w:World):
 Calls Tryz.prog 226 [kv p].toArray w fun e w'=>∃ v,e=.returned v∧(v=pv p∧Gr w w'):=by
 refine bN 29 Tryz.func226 rfl rfl rfl<|qs 2 rfl<|qe rfl (bH rfl (by rfl)) ?_;rintro _ w1 ⟨b1,rfl,hbw1,Bw1,Gw1⟩;have z1:=Gw1.size;have lt2:=Bw1.lt;refine qe rfl (bQ lS (by rfl)) ?_;rintro _ w2 ⟨b2,rfl,hbw2,Bw2,Gw2⟩;have z3:=Gw2.size;have lt4:=Bw2.lt;refine qd 1 rfl<|qe rfl (bQ lS (by rfl)) ?_;rintro _ w3 ⟨b3,rfl,hbw3,Bw3,Gw3⟩;have z5:=Gw3.size;have lt6:=Bw3.lt;refine aQ<|aP<|qs 1 rfl<|qv rfl (aA rfl)<|aQ<|bB ?_;have X7:=(Gr.trans (Gr.trans (Gr.trans (Gr.refl w) Gw1) Gw2) Gw3);refine dR (α:=Nat) [4,5,6,7,8,9,10,11,12,13,14,15,16,17,18,19,20,21,22,23,24,25,26,27] (fun k=>[(5,.int .i64 (k:Int))]) (fun k wr=>(k≤8)∧Bx wr b3 326 ([wv (p.1 >>> (64-8*k)),wv (p.2 >>> (64-8*k))])∧Kp [b3] w3 wr) (fun k=>8-k) (0) ?_ ?_ ?_
 · exact aW
 · exact⟨by omega,(by rw[Nat.mul_zero,Nat.sub_zero,Je,Je];exact Bw3),Kp.refl _ _⟩
 rintro k w4 ⟨hk,Bw4_b3,Kw4⟩;have z8:=Kw4.size;refine qs 1 rfl<|qv rfl (cU rfl rfl)<|aQ<|aP<|iD rfl (fun h1=>?_) (fun h1=>?_)
 · -- h1 True
   replace h1:=of_decide_eq_true h1;refine qu<|aP<|bB<|qs 2 rfl<|qv rfl (aA rfl)<|qv rfl (eQ rfl)<|aQ<|xO [b3] [(0,3),(1,1),(2,3),(3,3),(4,3),(5,3),(6,3),(7,3),(8,3),(9,1),(10,3),(11,3),(12,3),(13,3),(14,3),(15,3),(16,3),(17,3),(18,2),(19,3),(20,2)] (by kernel_rfl) (by kernel_rfl) rfl (by kernel_rfl) ?_;intro w5 Gw5 zw5;refine dN rfl rfl rfl (Kp.refl [b3] w5) (fun w hS=>aY mA rfl) ?_;have B9:=(Bx.gr Bw4_b3 Gw5);refine E9 rfl rfl rfl (Gr.refl w5) (fun w hS=>aT cQ rfl (Bx.gr B9 hS) (by rfl))<|dN rfl rfl rfl (Kp.refl [b3] w5) (fun w hS=>yV rfl rfl (by omega))<|dN rfl rfl rfl (Kp.refl [b3] w5) (fun w hS=>aA rfl)<|dN rfl rfl rfl (Kp.refl [b3] w5) (fun w hS=>oB Tryz.underlying36 (cJ).siz rfl rfl (by omega) (by omega)) ?_;have B10:=(Bx.gr (Bx.kp (Bx.gr (Bx.gr Bw1 Gw2) Gw3) Kw4 (by simp<;>first|omega|(split<;>omega))) Gw5)
   refine dN rfl rfl rfl (Kp.refl [b3] w5) (fun w hS=>aT cJ rfl (Bx.kp B10 hS (by simp<;>first|omega|(split<;>omega))) (by exact Mp p k (by omega)))<|dN rfl rfl rfl (Kp.refl [b3] w5) (fun w hS=>S3 mB rfl (Vf _ _) (by have:=Ve p.1 k;omega))<|dN rfl rfl rfl (Kp.refl [b3] w5) (fun w hS=>qV rfl rfl)<|dN rfl rfl rfl (Kp.refl [b3] w5) (fun w hS=>aY mZ rfl)<|E9 rfl rfl rfl (Gr.refl w5) (fun w hS=>aT cQ rfl (Bx.gr B9 hS) (by rfl))<|dN rfl rfl rfl (Kp.refl [b3] w5) (fun w hS=>yV rfl rfl (by omega))<|dN rfl rfl rfl (Kp.refl [b3] w5) (fun w hS=>aA rfl)<|dN rfl rfl rfl (Kp.refl [b3] w5) (fun w hS=>iX rfl rfl (by omega) (by omega))<|dN rfl rfl rfl (Kp.refl [b3] w5) (fun w hS=>oB Tryz.underlying36 (cJ).siz rfl rfl (by omega) (by omega))<|dN rfl rfl rfl (Kp.refl [b3] w5) (fun w hS=>aT cJ rfl (Bx.kp B10 hS (by simp<;>first|omega|(split<;>omega))) (by exact Mn p k (by omega)))<|dN rfl rfl rfl (Kp.refl [b3] w5) (fun w hS=>S3 mB rfl (Vf _ _) (by have:=Ve p.2 k;omega))<|dN rfl rfl rfl (Kp.refl [b3] w5) (fun w hS=>qV rfl rfl)<|dN rfl rfl rfl (Kp.refl [b3] w5) (fun w hS=>aY mA rfl)<|tF (b:=b3) rfl rfl rfl rfl (uY (cQ).siz rfl rfl rfl B9 (by simp)) (by first|exact Or.inl (by simp)|exact Or.inr (by omega)) ?_
   rintro _ w6 ⟨Bw6,Mw6⟩;have z11:=Mw6.size;refine⟨Mw6,?_⟩;have S12:=(Kp.md (Kp.refl [b3] w5) Mw6 (by first|exact Or.inl (by simp)|exact Or.inr (by omega)))
   refine dN rfl rfl rfl S12 (fun w hS=>aY mZ rfl)<|tF (b:=b3) rfl rfl rfl rfl (uY (cQ).siz rfl rfl rfl Bw6 (by simp)) (by first|exact Or.inl (by simp)|exact Or.inr (by omega)) ?_
   rintro _ w7 ⟨Bw7,Mw7⟩;have z13:=Mw7.size;refine⟨Mw7,?_⟩;refine aH<|cH<|bO<|qg 2 rfl<|qv rfl (iX rfl rfl (by omega) (by omega))<|qv rfl (aA rfl)<|aH ?_;have K_14:=(Kp.md (Kp.md (Kp.gr Kw4 Gw5) Mw6 (by simp<;>first|omega|(split<;>omega))) Mw7 (by simp<;>first|omega|(split<;>omega)))
   refine⟨rfl,k+1,?_,⟨?_,?_,K_14⟩,?_⟩
   · exact aW
   · omega
   · rw[←L5 _ k (by omega),←L5 _ k (by omega)];exact Bw7
   first|omega|(dsimp only;omega)
 replace h1:=of_decide_eq_false h1;refine dK<|bE<|bE<|dJ<|bO<|qs 2 rfl<|qv rfl (aM gN rfl Bw4_b3 (by rfl)) ?_;have B15:=(Bx.kp (Bx.gr Bw2 Gw3) Kw4 (by simp<;>first|omega|(split<;>omega)))
 refine qe rfl (kQ (gN).siz rfl rfl (by rfl) (by rfl) (by rfl) B15 (by rfl)) ?_;rintro _ w8 ⟨Bw8,Mw8⟩;have z16:=Mw8.size;refine aQ<|aB ?_;obtain rfl:k=8:=by omega
 have X17:=(Gr.md (Gr.kp X7 Kw4 (by simp<;>first|omega|(split<;>omega))) Mw8 (by omega))
 refine⟨_,_,rfl,pO rfl gN rfl Bw8 (by rfl),?_⟩;exact⟨rfl,X17⟩
set_option maxHeartbeats 1000000 in
theorem B1 (p:W2)(w:World):
 Calls Tryz.prog 229 [pv p].toArray w fun e w'=>∃ v,e=.returned v∧(v=kv p∧Gr w w'):=by
 refine bN 29 Tryz.func229 rfl rfl rfl<|qs 2 rfl<|qe rfl (bH rfl (by rfl)) ?_;rintro _ w1 ⟨b1,rfl,hbw1,Bw1,Gw1⟩;have z1:=Gw1.size;have lt2:=Bw1.lt;refine qe rfl (bQ dH (by rfl)) ?_;rintro _ w2 ⟨b2,rfl,hbw2,Bw2,Gw2⟩;have z3:=Gw2.size;have lt4:=Bw2.lt;refine qd 1 rfl<|qe rfl (bQ dH (by rfl)) ?_;rintro _ w3 ⟨b3,rfl,hbw3,Bw3,Gw3⟩;have z5:=Gw3.size;have lt6:=Bw3.lt;refine aQ<|aP<|qs 1 rfl<|qv rfl (aA rfl)<|aQ<|bB ?_;have X7:=(Gr.trans (Gr.trans (Gr.trans (Gr.refl w) Gw1) Gw2) Gw3);refine dR (α:=Nat) [4,5,6,7,8,9,10,11,12,13,14,15,16,17,18,19,20,21,22,23,24,25,26,27] (fun k=>[(5,.int .i64 (k:Int))]) (fun k wr=>(k≤8)∧Bx wr b3 36 (oV p k)∧Kp [b3] w3 wr) (fun k=>8-k) (0) ?_ ?_ ?_
 · exact aW
 · exact⟨by omega,(by rw[Mr];exact Bw3),Kp.refl _ _⟩
 rintro k w4 ⟨hk,Bw4_b3,Kw4⟩;have z8:=Kw4.size;refine qs 1 rfl<|qv rfl (cU rfl rfl)<|aQ<|aP<|iD rfl (fun h1=>?_) (fun h1=>?_)
 · -- h1 True
   replace h1:=of_decide_eq_true h1;refine qu<|aP<|bB<|qs 2 rfl<|qv rfl (aA rfl)<|qv rfl (eQ rfl)<|aQ<|xO [b3] [(0,3),(1,3),(2,3),(3,3),(4,3),(5,3),(6,3),(7,3),(8,3),(9,3),(10,3),(11,3),(12,3),(13,3),(14,3),(15,3),(16,3),(17,3),(18,2),(19,3),(20,2)] (by kernel_rfl) (by kernel_rfl) rfl (by kernel_rfl) ?_;intro w5 Gw5 zw5;refine dN rfl rfl rfl (Kp.refl [b3] w5) (fun w hS=>aA rfl)<|dN rfl rfl rfl (Kp.refl [b3] w5) (fun w hS=>aA rfl)<|dN rfl rfl rfl (Kp.refl [b3] w5) (fun w hS=>iX rfl rfl (by omega) (by omega))<|dN rfl rfl rfl (Kp.refl [b3] w5) (fun w hS=>aY mA rfl) ?_;have B9:=(Bx.gr (Bx.kp (Bx.gr (Bx.gr Bw1 Gw2) Gw3) Kw4 (by simp<;>first|omega|(split<;>omega))) Gw5)
   refine dN rfl rfl rfl (Kp.refl [b3] w5) (fun w hS=>aT cQ rfl (Bx.kp B9 hS (by simp<;>first|omega|(split<;>omega))) (by rfl))<|dN rfl rfl rfl (Kp.refl [b3] w5) (fun w hS=>aA rfl)<|dN rfl rfl rfl (Kp.refl [b3] w5) (fun w hS=>Gm rfl rfl (by omega) (by omega))<|dN rfl rfl rfl (Kp.refl [b3] w5) (fun w hS=>Ke rfl rfl (by omega) (by omega))<|dN rfl rfl rfl (Kp.refl [b3] w5) (fun w hS=>F7 rfl rfl (by omega))<|dN rfl rfl rfl (Kp.refl [b3] w5) (fun w hS=>Jw jU rfl)<|dN rfl rfl rfl (Kp.refl [b3] w5) (fun w hS=>aY mZ rfl)<|dN rfl rfl rfl (Kp.refl [b3] w5) (fun w hS=>aT cQ rfl (Bx.kp B9 hS (by simp<;>first|omega|(split<;>omega))) (by rfl))<|dN rfl rfl rfl (Kp.refl [b3] w5) (fun w hS=>aA rfl)<|dN rfl rfl rfl (Kp.refl [b3] w5) (fun w hS=>Gm rfl rfl (by omega) (by omega))<|dN rfl rfl rfl (Kp.refl [b3] w5) (fun w hS=>Ke rfl rfl (by omega) (by omega))<|dN rfl rfl rfl (Kp.refl [b3] w5) (fun w hS=>F7 rfl rfl (by omega))<|dN rfl rfl rfl (Kp.refl [b3] w5) (fun w hS=>Jw jU rfl)<|dN rfl rfl rfl (Kp.refl [b3] w5) (fun w hS=>oB Tryz.underlying36 (cJ).siz rfl rfl (by omega) (by omega)) ?_
   have B10:=(Bx.gr Bw4_b3 Gw5);refine tF (b:=b3) rfl rfl rfl rfl (uY (cJ).siz rfl rfl rfl B10 (by rw[Pk];omega)) (by first|exact Or.inl (by simp)|exact Or.inr (by omega)) ?_
   rintro _ w6 ⟨Bw6,Mw6⟩;have z11:=Mw6.size;refine⟨Mw6,?_⟩;have S12:=(Kp.md (Kp.refl [b3] w5) Mw6 (by first|exact Or.inl (by simp)|exact Or.inr (by omega)))
   refine dN rfl rfl rfl S12 (fun w hS=>oB Tryz.underlying36 (cJ).siz rfl rfl (by omega) (by omega))<|tF (b:=b3) rfl rfl rfl rfl (uY (cJ).siz rfl rfl rfl Bw6 (by rw[List.length_set,Pk];omega)) (by first|exact Or.inl (by simp)|exact Or.inr (by omega)) ?_
   rintro _ w7 ⟨Bw7,Mw7⟩;have z13:=Mw7.size;refine⟨Mw7,?_⟩;refine aH<|cH<|bO<|qg 2 rfl<|qv rfl (iX rfl rfl (by omega) (by omega))<|qv rfl (aA rfl)<|aH ?_;have K_14:=(Kp.md (Kp.md (Kp.gr Kw4 Gw5) Mw6 (by simp<;>first|omega|(split<;>omega))) Mw7 (by simp<;>first|omega|(split<;>omega)))
   refine⟨rfl,k+1,?_,⟨?_,?_,K_14⟩,?_⟩
   · exact aW
   · omega
   · rw[←Ms p k (by omega)];exact Bw7
   first|omega|(dsimp only;omega)
 replace h1:=of_decide_eq_false h1;refine dK<|bE<|bE<|dJ<|bO<|aP ?_;obtain rfl:k=8:=by omega
 refine qg 2 rfl<|qv rfl (aM aO rfl Bw4_b3 (by rfl)) ?_;have B15:=(Bx.kp (Bx.gr Bw2 Gw3) Kw4 (by simp<;>first|omega|(split<;>omega)))
 refine qe rfl (kQ (aO).siz rfl rfl (by rfl) (by rfl) (by rfl) B15 (by rfl)) ?_;rintro _ w8 ⟨Bw8,Mw8⟩;have z16:=Mw8.size;refine aQ<|aB ?_;have X17:=(Gr.md (Gr.kp X7 Kw4 (by simp<;>first|omega|(split<;>omega))) Mw8 (by omega))
 refine⟨_,_,rfl,pO rfl aO rfl Bw8 (by rfl),?_⟩;exact⟨rfl,X17⟩
end Go.Proofs.YtplcaaglieefgaaGreat

end
section
namespace Go.Proofs.YtplcaaglieefgaaGreat
open Go Go.RowKit Go.Sx
theorem wW:En Tryz.prog 226:=fun _ _=>by kernel_rfl
theorem gS:CV Tryz.prog 3 22 .u64:=fun _ _ _=>by kernel_rfl
theorem Yr:En Tryz.prog 228:=fun _ _=>by kernel_rfl
theorem Yq:En Tryz.prog 227:=fun _ _=>by kernel_rfl
theorem Yx:En Tryz.prog 306:=fun _ _=>by kernel_rfl
theorem wH:En Tryz.prog 229:=fun _ _=>by kernel_rfl
def nZ (k:W2):List (List Value):=(List.range 32).map fun(i:Nat)=>[.int .i64 (i:Int),wv (ks k i).2]
theorem xD (k:W2):(nZ k).length=32:=by simp[nZ]
theorem Pd (k:W2)(i:Nat)(h:i<32):(nZ k)[i]? = some [.int .i64 (i:Int),wv (ks k i).2]:=by simp[nZ,h]
set_option maxHeartbeats 1000000 in
theorem Ph (k:W2)(b:Nat)(w0:World)(hb:Bx w0 b 36 (kb k)):
 IT Tryz.prog 306 [.pointer (some ⟨b,0,none⟩)] (nZ k) [b] w0:=by
 intro l J Jx w fp hG hJ hJx hcap h0 hY;have Bc0:=Bx.gr hb hG;have lt1:=Bc0.lt;refine bN 21 Tryz.func306 rfl rfl rfl<|qs 4 rfl<|qv rfl (aM aO rfl Bc0 (by rfl))<|qe rfl (hM wW rfl (Kg _ _)) ?_;rintro _ w1 ⟨rfl,Gw1⟩;have z2:=Gw1.size;refine qe rfl (bQ lS (by rfl)) ?_;rintro _ w2 ⟨b2,rfl,hbw2,Bw2,Gw2⟩;have z3:=Gw2.size;have lt4:=Bw2.lt;refine qe rfl (kQ (gN).siz rfl rfl (by rfl) (by rfl) (by rfl) Bw2 (by rfl)) ?_;rintro _ w3 ⟨Bw3,Mw3⟩;have z5:=Mw3.size;refine qd 1 rfl<|qv rfl (aA rfl)<|aQ<|bB ?_;have hz0:b2∉fp:=fun h=>by have:=hJ.lt h0 b2 h;omega
 have hk0:Kp fp w w3:=((Gr.toKp Gw1).gr Gw2).md Mw3 (.inr (by omega));have hj0:J 0 fp w3:=hJ.md (hJ.gr (hJ.gr h0 Gw1) Gw2) Mw3 hz0;have B6:=(Bx.md (Bx.gr (Bx.gr Bc0 Gw1) Gw2) Mw3 (by omega));refine dR (α:=Nat) [4,7,8,9,10,11,12,13,14,15,16,17,18,19,20] (fun i=>[(7,.int .i64 (i:Int))]) (fun i wr=>(i≤32∧∃ f,J i f wr∧Kp fp w wr∧(∀ c∈f,c∈fp∨w.heap.size≤c)∧b∉f∧b2∉f)∧Bx wr b 36 (kb k)∧Bx wr b2 326 ([wv (ks k i).1,wv (ks k i).2])∧True) (fun i=>32-i) (0) ?_ ?_ ?_
 · exact aW
 · exact⟨⟨by omega,fp,hj0,hk0,fun c hc=>.inl hc,hcap b (by simp),hz0⟩,B6,Bw3,trivial⟩
 rintro i w4 ⟨⟨hi,f,hj,hk,hf,hbf,hpf⟩,Bw4_b,Bw4_b2,Kw4⟩;have lt7:=Bw4_b.lt;have lt8:=Bw4_b2.lt;refine qs 1 rfl<|qv rfl (cU rfl rfl)<|aQ<|aP<|iD rfl (fun h1=>?_) (fun h1=>?_)
 · -- h1 True
   replace h1:=of_decide_eq_true h1;refine qu<|aP<|bB<|qs 2 rfl<|qv rfl (aA rfl)<|qv rfl (eQ rfl)<|aQ<|aP<|qs 6 rfl<|qv rfl (aA rfl)<|qv rfl (aA rfl)<|qv rfl (aY mZ rfl)<|qv rfl (aT cQ rfl Bw4_b2 (by rfl))<|qe rfl (uW rfl rfl (hY i _ f _ (Pd k i (by omega)) hj hk hf)) ?_;rintro _ w5 ⟨y1,rfl,Kw5,fw5,Fw5,Jw5⟩;have z9:=Kw5.size;have hk5:Kp fp w w5:=hk.trans Kw5 hf;have hf5:=nY hf Fw5 hk.size;have hn2:b2∉fw5:=eH Fw5 hpf lt8;refine qv rfl (dZ rfl)<|aQ<|iD rfl (fun h2=>?_) (fun h2=>?_)
   · -- h2 True
     replace h2:=Uy h2;subst h2;refine aB<|bM<|cE<|bM<|bM<|cE<|⟨_,_,rfl,jT rfl,?_⟩;exact⟨hk5,.inr ⟨i+1,fw5,hf5,by rw[xD];omega,Jw5⟩⟩
   replace h2:=Ux h2;subst h2;refine qu<|qg 5 rfl ?_;have B10:=(Bx.kp Bw4_b2 Kw5 hpf);refine qv rfl (aM gN rfl B10 (by rfl))<|qv rfl (aA rfl)<|qv rfl (S3 gS rfl (by omega) (by omega))<|qe rfl (hM Yr rfl (Dy _ _ _)) ?_;rintro _ w6 ⟨rfl,Gw6⟩;have z11:=Gw6.size;have B12:=(Bx.gr B10 Gw6);refine qe rfl (kQ (gN).siz rfl rfl (by rfl) (by rfl) (by rfl) B12 (by rfl)) ?_;rintro _ w7 ⟨Bw7,Mw7⟩;have z13:=Mw7.size;refine aH<|cH<|bO<|qg 2 rfl<|qv rfl (iX rfl rfl (by omega) (by omega))<|qv rfl (aA rfl)<|aH ?_;have B15:=(Bx.md (Bx.gr (Bx.kp Bw4_b Kw5 hbf) Gw6) Mw7 (by omega));refine⟨rfl,i+1,?_,⟨?_,?_,?_,trivial⟩,?_⟩
   · exact aW
   · exact⟨by omega,fw5,hJ.md (hJ.gr Jw5 Gw6) Mw7 hn2,(hk5.gr Gw6).md Mw7 (.inr (by omega)),hf5,eH Fw5 hbf lt7,hn2⟩
   · exact B15
   · exact Bw7
   first|omega|(dsimp only;omega)
 replace h1:=of_decide_eq_false h1;refine dK<|bE<|bE<|dJ<|⟨_,_,rfl,jT rfl,?_⟩;obtain rfl:i=32:=by omega
 exact⟨hk,.inl ⟨f,hf,by rw[xD];exact hj⟩⟩
set_option maxHeartbeats 1000000 in
theorem Pg (k:W2)(w:World):
 Calls Tryz.prog 227 [kv k].toArray w fun e w'=>∃ v,e=.returned v∧(∃ b,v=.func (.func 306) #[] [.pointer (some ⟨b,0,none⟩)].toArray∧w.heap.size≤b∧Bx w' b 36 (kb k)∧Gr w w'):=by
 refine bN 4 Tryz.func227 rfl rfl rfl<|qs 2 rfl<|qe rfl (bH rfl (by rfl)) ?_;rintro _ w1 ⟨b1,rfl,hbw1,Bw1,Gw1⟩;have z1:=Gw1.size;have lt2:=Bw1.lt;refine qv rfl (eQ rfl)<|qd 2 rfl<|qv rfl (kH rfl rfl)<|qv rfl (eQ rfl)<|aQ<|aB ?_;have X3:=(Gr.trans (Gr.refl w) Gw1);refine⟨_,_,rfl,mH rfl rfl,?_⟩;exact⟨b1,rfl,hbw1,Bw1,X3⟩
def wP (k b:W2)(n:Nat):W2:=(List.range n).foldl (fun p i=>xU p (ks k i).2) b
theorem Ba (k b:W2)(n:Nat):wP k b (n+1)=xU (wP k b n) (ks k n).2:=by simp[wP,List.range_succ]
theorem Pe {k:W2}{i:Nat}{x:List Value}(h:(nZ k)[i]? = some x):i<32∧x=[.int .i64 (i:Int),wv (ks k i).2]:=by
 have hi:i<32:=by have:=(List.getElem?_eq_some_iff.1 h).1;rwa[xD] at this
 rw[Pd k i hi] at h;exact⟨hi,by simpa using h.symm⟩
theorem Pf (k:W2):∀ x∈nZ k,x.length=2:=by intro x hx;simp[nZ] at hx;obtain⟨i,_,rfl⟩:=hx;rfl
set_option maxHeartbeats 1000000 in
theorem wD (k b:W2)(w:World):
 Calls Tryz.prog 123 [kv k,kv b].toArray w fun e w'=>∃ v,e=.returned v∧(v=kv (jA k b)∧Gr w w'):=by
 refine bN 19 Tryz.func123 rfl rfl rfl<|qs 3 rfl<|qe rfl (bH rfl (by rfl)) ?_;rintro _ w1 ⟨b1,rfl,hbw1,Bw1,Gw1⟩;have z1:=Gw1.size;have lt2:=Bw1.lt;refine qe rfl (bH rfl (by rfl)) ?_;rintro _ w2 ⟨b2,rfl,hbw2,Bw2,Gw2⟩;have z3:=Gw2.size;have lt4:=Bw2.lt;refine qe rfl (bQ dH (by rfl)) ?_;rintro _ w3 ⟨b3,rfl,hbw3,Bw3,Gw3⟩;have z5:=Gw3.size;have lt6:=Bw3.lt;refine qd 4 rfl ?_;have B7:=(Bx.gr Bw2 Gw3);refine qv rfl (aM aO rfl B7 (by rfl))<|qe rfl (hM wW rfl (Kg _ _)) ?_;rintro _ w4 ⟨rfl,Gw4⟩;have z8:=Gw4.size;refine qe rfl (bQ lS (by rfl)) ?_;rintro _ w5 ⟨b5,rfl,hbw5,Bw5,Gw5⟩;have z9:=Gw5.size;have lt10:=Bw5.lt;refine qe rfl (kQ (gN).siz rfl rfl (by rfl) (by rfl) (by rfl) Bw5 (by rfl)) ?_;rintro _ w6 ⟨Bw6,Mw6⟩;have z11:=Mw6.size;refine aQ<|aP<|qs 2 rfl ?_;have B12:=(Bx.md (Bx.gr (Bx.gr (Bx.gr (Bx.gr Bw1 Gw2) Gw3) Gw4) Gw5) Mw6 (by omega));refine qv rfl (aM aO rfl B12 (by rfl))<|qe rfl (hM Yq rfl (Pg _ _)) ?_;rintro _ w7 ⟨b7,rfl,hb7,Bk7,Gw7⟩;have z13:=Gw7.size;have lt14:=Bk7.lt;refine aQ<|bB ?_;have X15:=(Gr.trans (Gr.md (Gr.trans (Gr.trans (Gr.trans (Gr.trans (Gr.trans (Gr.refl w) Gw1) Gw2) Gw3) Gw4) Gw5) Mw6 (by omega)) Gw7);have B16:=(Bx.gr Bw6 Gw7);refine sF (gf:=306) (xs:=nZ k) (cap:=[b7]) rfl Yx (Ph k b7 _ Bk7) (Pf k) rfl (fun rk fp W=>fp=[b5]∧Bx W b5 326 ([wv (wP k b rk).1,wv (wP k b rk).2])) (fun _ _ _ _=>False) [b5] (Tq _ _ _) (fun _=>xI) (by simp<;>omega) (⟨rfl,B16⟩) ?_ ?_ ?_
 · rintro l rk x fp w8 hl hx ⟨rfl,Bw8⟩ Kw8 hF hln eD;have z17:=Kw8.size;obtain⟨hi,rfl⟩:=Pe hx;refine qg 1 rfl<|qv rfl (eQ rfl)<|aH<|⟨rfl,(Gr.refl _),?_⟩;rintro w9 Mw9 ⟨_,Bw9⟩;have z18:=Mw9.size;refine bB<|qg 4 rfl<|qv rfl (aM gN rfl Bw9 (by rfl))<|qv rfl (aA rfl)<|qe rfl (hM Yr rfl (Dy _ _ _)) ?_;rintro _ w10 ⟨rfl,Gw10⟩;have z19:=Gw10.size;have B20:=(Bx.gr Bw9 Gw10);refine qe rfl (kQ (gN).siz rfl rfl (by rfl) (by rfl) (by rfl) B20 (by rfl)) ?_;rintro _ w11 ⟨Bw11,Mw11⟩;have z21:=Mw11.size;refine aH<|cH<|⟨(Kp.md (Kp.gr (Kp.refl _ _) Gw10) Mw11 (by first|exact Or.inl (by simp)|exact Or.inr (by omega))),_,fun c hc=>.inl hc,?_⟩
   exact⟨rfl,by rw[Ba];exact Bw11⟩
 · rintro Dw12 fp w12 hDw12 Dfw12 nw12 ⟨rfl,Bw12⟩ Kw12;have z22:=Kw12.size;have lt22:=Df.lt (w:=w12) Dfw12;rw[xD] at Bw12;refine cH<|bO<|qs 3 rfl<|qv rfl (aM gN rfl Bw12 (by rfl))<|qe rfl (hM wH rfl (B1 _ _)) ?_;rintro _ w13 ⟨rfl,Gw13⟩;have z23:=Gw13.size;have B24:=(Bx.gr (Bx.kp (Bx.gr (Bx.md (Bx.gr (Bx.gr Bw3 Gw4) Gw5) Mw6 (by omega)) Gw7) Kw12 (by simp<;>first|omega|(split<;>omega))) Gw13)
   refine qe rfl (kQ (aO).siz rfl rfl (by rfl) (by rfl) (by rfl) B24 (by rfl)) ?_;rintro _ w14 ⟨Bw14,Mw14⟩;have z25:=Mw14.size;refine aQ<|aB ?_;have DL26:=(Df.md (Df.gr Dfw12 Gw13) Mw14 (by omega));have L26:=Md.put (w:=w14) Dw12 (.deferred none);have zL26:=L26.size;have B27:=(Bx.md Bw14 L26 (by omega));have X28:Gr w (w14.putObj Dw12 (.deferred none)):=(Gr.md (Gr.md (Gr.trans (Gr.kp X15 Kw12 (by simp<;>first|omega|(split<;>omega))) Gw13) Mw14 (by omega)) L26 (by omega))
   refine⟨_,_,⟨Dw12,rfl,DL26,rfl⟩,pO rfl aO rfl B27 (by rfl),?_⟩;exact⟨rfl,X28⟩
 rintro _ _ _ _ _ _ _ _ _ h _;exact h.elim
end Go.Proofs.YtplcaaglieefgaaGreat

end
section
namespace Go.Proofs.YtplcaaglieefgaaGreat
open Go Go.RowKit Go.Sx
theorem A3:En Tryz.prog 124:=fun _ _=>by kernel_rfl
theorem tC:En Tryz.prog 123:=fun _ _=>by kernel_rfl
theorem Qb0:ZV Tryz.prog 374 (.agg [.int .u64 0,.int .u64 0,.int .u64 0,.int .u64 0,.int .u64 0,.int .u64 0,.int .u64 0,.int .u64 0,.int .u64 0,.int .u64 0,.int .u64 0,.int .u64 0,.int .u64 0,.int .u64 0,.int .u64 0,.int .u64 0,.int .u64 0,.int .u64 0,.int .u64 0,.int .u64 0,.int .u64 0,.int .u64 0,.int .u64 0,.int .u64 0,.int .u64 0,.int .u64 0,.int .u64 0,.int .u64 0,.int .u64 0,.int .u64 0,.int .u64 0,.int .u64 0].toArray):=fun _=>by kernel_rfl
theorem Fz:En Tryz.prog 295:=fun _ _=>by kernel_rfl
set_option maxHeartbeats 1000000 in
theorem Nq (tag:Int)(h0:0≤tag)(h1:tag≤255)(c n:BitVec 64)(w:World):
 Calls Tryz.prog 124 [.int .u8 tag,wv c,wv n].toArray w fun e w'=>∃ v,e=.returned v∧(v=kv (B0 tag c n)∧Gr w w'):=by
 refine bN 15 Tryz.func124 rfl rfl rfl<|qs 1 rfl<|qe rfl (bQ dH (by rfl)) ?_;rintro _ w1 ⟨b1,rfl,hbw1,Bw1,Gw1⟩;have z1:=Gw1.size;have lt2:=Bw1.lt;refine qd 9 rfl<|qv rfl (aA rfl)<|qv rfl (S3 mB rfl (by omega) (by omega))<|qv rfl (yV rfl rfl (by omega))<|qv rfl (aA rfl)<|qv rfl (qV rfl rfl)<|qv rfl (aA rfl)<|qv rfl (cK vN rfl rfl)<|qe rfl (hM wH rfl (B1 (B0 tag c n) _)) ?_;rintro _ w2 ⟨rfl,Gw2⟩;have z3:=Gw2.size;have B4:=(Bx.gr Bw1 Gw2);refine qe rfl (kQ (aO).siz rfl rfl (by rfl) (by rfl) (by rfl) B4 (by rfl)) ?_;rintro _ w3 ⟨Bw3,Mw3⟩;have z5:=Mw3.size;refine aQ<|aB ?_;have X6:=(Gr.md (Gr.trans (Gr.trans (Gr.refl w) Gw1) Gw2) Mw3 (by omega));refine⟨_,_,rfl,pO rfl aO rfl Bw3 (by rfl),?_⟩;exact⟨rfl,X6⟩
set_option maxHeartbeats 1000000 in
theorem hP (k:W2)(tag:Int)(h0:0≤tag)(h1:tag≤255)(n:BitVec 64)(w:World):
 Calls Tryz.prog 52 [kv k,.int .u8 tag,wv n].toArray w fun e w'=>∃ v,e=.returned v∧(v=kv (dO k tag n)∧Gr w w'):=by
 refine bN 12 Tryz.func52 rfl rfl rfl<|qs 2 rfl<|qe rfl (bH rfl (by rfl)) ?_;rintro _ w1 ⟨b1,rfl,hbw1,Bw1,Gw1⟩;have z1:=Gw1.size;have lt2:=Bw1.lt;refine qe rfl (bQ dH (by rfl)) ?_;rintro _ w2 ⟨b2,rfl,hbw2,Bw2,Gw2⟩;have z3:=Gw2.size;have lt4:=Bw2.lt;refine aQ<|aP<|xO [b2] [(0,3),(1,3),(2,3),(3,0),(4,0),(5,2)] (by kernel_rfl) (by kernel_rfl) rfl (by kernel_rfl) ?_;intro w3 Gw3 zw3;have B5:=(Bx.gr (Bx.gr Bw1 Gw2) Gw3);refine dN rfl rfl rfl (Kp.refl [b2] w3) (fun w hS=>aM aO rfl (Bx.kp B5 hS (by simp<;>first|omega|(split<;>omega))) (by rfl))<|dN rfl rfl rfl (Kp.refl [b2] w3) (fun w hS=>aA rfl)<|dN rfl rfl rfl (Kp.refl [b2] w3) (fun w hS=>aA rfl)<|zO rfl rfl rfl (hM A3 rfl (Nq _ (by omega) (by omega) 0#64 _ _)) ?_
 rintro _ w4 ⟨rfl,Gw4⟩;have z6:=Gw4.size;refine⟨Gw4,?_⟩;refine zO rfl rfl rfl (hM tC rfl (wD _ _ _)) ?_;rintro _ w5 ⟨rfl,Gw5⟩;have z7:=Gw5.size;refine⟨Gw5,?_⟩;have B8:=(Bx.gr (Bx.gr (Bx.gr Bw2 Gw3) Gw4) Gw5);refine tF (b:=b2) rfl rfl rfl rfl (kQ (aO).siz rfl rfl (by rfl) (by rfl) (by rfl) B8 (by rfl)) (by first|exact Or.inl (by simp)|exact Or.inr (by omega)) ?_
 rintro _ w6 ⟨Bw6,Mw6⟩;have z9:=Mw6.size;refine⟨Mw6,?_⟩;refine aQ<|aB ?_;have X10:=(Gr.md (Gr.trans (Gr.trans (Gr.trans (Gr.trans (Gr.trans (Gr.refl w) Gw1) Gw2) Gw3) Gw4) Gw5) Mw6 (by omega));refine⟨_,_,rfl,pO rfl aO rfl Bw6 (by rfl),?_⟩;exact⟨rfl,X10⟩
def oY (k:W2)(n:Nat):List Value:=(List.range 32).map fun i=>if i<n then wv (ks k i).2 else .int .u64 0
theorem Mw (k:W2)(n:Nat):(oY k n).length=32:=by simp[oY]
theorem Mu (k:W2):oY k 0=List.replicate 32 (.int .u64 0):=by rfl
theorem My (k:W2)(n:Nat)(h:n<32):(oY k n).set (0+(n:Int).toNat*1) (wv (ks k n).2)=oY k (n+1):=by
 have e:0+(n:Int).toNat*1=n:=by omega
 rw[e];apply List.ext_getElem?;intro i;rw[List.getElem?_set];unfold oY;by_cases hi:i<32
 · by_cases h2:n=i
   · subst h2;simp[h]
   · have:(i<n+1)=(i<n):=by apply propext;omega
     simp[h2,hi,this]
 · simp[hi];omega
theorem Mv (k:W2)(n:Nat)(h:n<32):(oY k 32)[0+((n:Int)+1-1).toNat*1]? = some (wv (ks k n).2):=by
 have e:0+((n:Int)+1-1).toNat*1=n:=by omega
 rw[e];simp[oY,h]
theorem Sm (k b:W2)(j:Nat)(h:j<32):tR k b j=Jb (tR k b (j+1)) (ks k j).2:=by
 unfold tR;rw[show 32-j=32-(j+1)+1 from by omega,List.range_succ,List.foldl_append,List.foldl_cons,List.foldl_nil,show 31-(32-(j+1))=j from by omega]
set_option maxHeartbeats 1000000 in
theorem Q1 (k b:W2)(w:World):
 Calls Tryz.prog 211 [kv k,kv b].toArray w fun e w'=>∃ v,e=.returned v∧(v=kv (nU k b)∧Gr w w'):=by
 refine bN 30 Tryz.func211 rfl rfl rfl<|qs 3 rfl<|qe rfl (bH rfl (by rfl)) ?_;rintro _ w1 ⟨b1,rfl,hbw1,Bw1,Gw1⟩;have z1:=Gw1.size;have lt2:=Bw1.lt;refine qe rfl (bH rfl (by rfl)) ?_;rintro _ w2 ⟨b2,rfl,hbw2,Bw2,Gw2⟩;have z3:=Gw2.size;have lt4:=Bw2.lt;refine qe rfl (bQ dH (by rfl)) ?_;rintro _ w3 ⟨b3,rfl,hbw3,Bw3,Gw3⟩;have z5:=Gw3.size;have lt6:=Bw3.lt;refine qd 1 rfl<|qe rfl (bQ Qb0 (by rfl)) ?_;rintro _ w4 ⟨b4,rfl,hbw4,Bw4,Gw4⟩;have z7:=Gw4.size;have lt8:=Bw4.lt;refine aQ<|aP<|qs 2 rfl ?_;have B9:=(Bx.gr (Bx.gr (Bx.gr Bw1 Gw2) Gw3) Gw4);refine qv rfl (aM aO rfl B9 (by rfl))<|qe rfl (hM Yq rfl (Pg _ _)) ?_;rintro _ w5 ⟨b5,rfl,hb5,Bk5,Gw5⟩;have z10:=Gw5.size;have lt11:=Bk5.lt;refine aQ<|bB ?_;have X12:=(Gr.trans (Gr.trans (Gr.trans (Gr.trans (Gr.trans (Gr.refl w) Gw1) Gw2) Gw3) Gw4) Gw5);have B13:=(Bx.gr Bw4 Gw5);refine sF (gf:=306) (xs:=nZ k) (cap:=[b5]) rfl Yx (Ph k b5 _ Bk5) (Pf k) rfl (fun rk fp W=>fp=[b4]∧Bx W b4 374 (oY k rk)) (fun _ _ _ _=>False) [b4] (Tq _ _ _) (fun _=>xI) (by simp<;>omega) (⟨rfl,by rw[Mu];exact B13⟩) ?_ ?_ ?_
 · rintro l rk x fp w6 hl hx ⟨rfl,Bw6⟩ Kw6 hF hln eD;have z14:=Kw6.size;obtain⟨hi,rfl⟩:=Pe hx;refine qs 1 rfl<|qv rfl (eQ rfl)<|aQ<|qg 1 rfl<|qv rfl (eQ rfl)<|aH<|⟨rfl,(Gr.refl _),?_⟩;rintro w7 Mw7 ⟨_,Bw7⟩;have z15:=Mw7.size;refine bB<|qg 4 rfl<|qv rfl (aA rfl)<|qv rfl (aA rfl)<|qv rfl (oB Tryz.underlying374 (cQ).siz rfl rfl (by omega) (by omega))<|qe rfl (uY (cQ).siz rfl rfl rfl Bw7 (by rw[Mw];omega)) ?_;rintro _ w8 ⟨Bw8,Mw8⟩;have z16:=Mw8.size;refine aH<|cH<|⟨(Kp.md (Kp.refl _ _) Mw8 (by first|exact Or.inl (by simp)|exact Or.inr (by omega))),_,fun c hc=>.inl hc,?_⟩
   exact⟨rfl,by rw[←My k rk hi];exact Bw8⟩
 · rintro Dw9 fp w9 hDw9 Dfw9 nw9 ⟨rfl,Bw9⟩ Kw9;have z17:=Kw9.size;have lt17:=Df.lt (w:=w9) Dfw9;rw[xD] at Bw9;refine cH<|bO<|qs 4 rfl ?_;have B18:=(Bx.kp (Bx.gr (Bx.gr (Bx.gr Bw2 Gw3) Gw4) Gw5) Kw9 (by simp<;>first|omega|(split<;>omega)))
   refine qv rfl (aM aO rfl B18 (by rfl))<|qe rfl (hM wW rfl (Kg _ _)) ?_;rintro _ w10 ⟨rfl,Gw10⟩;have z19:=Gw10.size;refine qe rfl (bQ lS (by rfl)) ?_;rintro _ w11 ⟨b11,rfl,hbw11,Bw11,Gw11⟩;have z20:=Gw11.size;have lt21:=Bw11.lt;refine qe rfl (kQ (gN).siz rfl rfl (by rfl) (by rfl) (by rfl) Bw11 (by rfl)) ?_;rintro _ w12 ⟨Bw12,Mw12⟩;have z22:=Mw12.size;refine aQ<|aP<|qs 1 rfl<|qv rfl (eQ rfl)<|aQ<|bB ?_;have X23:=(Gr.md (Gr.trans (Gr.trans (Gr.kp X12 Kw9 (by simp<;>first|omega|(split<;>omega))) Gw10) Gw11) Mw12 (by omega))
   refine dR (α:=Nat) [9,19,20,21,22,23,24,25,26,27] (fun j=>[(9,.int .i64 ((j:Int)-1))]) (fun j wr=>(j≤32)∧Bx wr b11 326 ([wv (tR k b j).1,wv (tR k b j).2])∧Kp [b11] w12 wr) (fun j=>j) (32) ?_ ?_ ?_
   · exact aW
   · exact⟨Nat.le_refl _,Bw12,Kp.refl _ _⟩
   rintro j w13 ⟨hj,Bw13_b11,Kw13⟩;have z24:=Kw13.size;refine aP<|qs 2 rfl<|qv rfl (aA rfl)<|qv rfl (eU rfl rfl)<|aQ<|iD rfl (fun h1=>?_) (fun h1=>?_)
   · -- h1 True
     replace h1:=of_decide_eq_true h1;obtain⟨j,rfl⟩:∃ i,j=i+1:=⟨j-1,by omega⟩;refine qu<|aP<|bB<|xO [b11] [(0,1),(1,3),(2,3),(3,3),(4,0),(5,2)] (by kernel_rfl) (by kernel_rfl) rfl (by kernel_rfl) ?_;intro w14 Gw14 zw14;have B25:=(Bx.gr Bw13_b11 Gw14);refine E9 rfl rfl rfl (Gr.refl w14) (fun w hS=>aM gN rfl (Bx.gr B25 hS) (by rfl))<|dN rfl rfl rfl (Kp.refl [b11] w14) (fun w hS=>aA rfl)<|dN rfl rfl rfl (Kp.refl [b11] w14) (fun w hS=>oB Tryz.underlying374 (cQ).siz rfl rfl (by omega) (by omega)) ?_;have B26:=(Bx.gr (Bx.kp (Bx.md (Bx.gr (Bx.gr Bw9 Gw10) Gw11) Mw12 (by omega)) Kw13 (by simp<;>first|omega|(split<;>omega))) Gw14)
     refine dN rfl rfl rfl (Kp.refl [b11] w14) (fun w hS=>aT cQ rfl (Bx.kp B26 hS (by simp<;>first|omega|(split<;>omega))) (by exact Mv k j (by omega)))<|zO rfl rfl rfl (hM Fz rfl (Nk _ _ _)) ?_
     rintro _ w15 ⟨rfl,Gw15⟩;have z27:=Gw15.size;refine⟨Gw15,?_⟩;have B28:=(Bx.gr B25 Gw15);refine tF (b:=b11) rfl rfl rfl rfl (kQ (gN).siz rfl rfl (by rfl) (by rfl) (by rfl) B28 (by rfl)) (by first|exact Or.inl (by simp)|exact Or.inr (by omega)) ?_
     rintro _ w16 ⟨Bw16,Mw16⟩;have z29:=Mw16.size;refine⟨Mw16,?_⟩;refine aH<|cH<|bO<|qg 3 rfl<|qv rfl (aA rfl)<|qv rfl (Ke rfl rfl (by omega) (by omega))<|qv rfl (eQ rfl)<|aH ?_;have K_30:=(Kp.md (Kp.gr (Kp.gr Kw13 Gw14) Gw15) Mw16 (by simp<;>first|omega|(split<;>omega)))
     refine⟨rfl,j,?_,⟨?_,?_,K_30⟩,?_⟩
     · repeat' first|exact trivial|refine⟨by first|rfl|exact congrArg (fun x=>some (Value.int .i64 x)) (by omega),?_⟩
     · omega
     · rw[Sm k b j (by omega)];exact Bw16
     first|omega|(dsimp only;omega)
   replace h1:=of_decide_eq_false h1;obtain rfl:j=0:=by omega
   refine dK<|bE<|bE<|dJ<|bO<|qs 3 rfl<|qv rfl (aM gN rfl Bw13_b11 (by rfl))<|qe rfl (hM wH rfl (B1 _ _)) ?_;rintro _ w17 ⟨rfl,Gw17⟩;have z31:=Gw17.size;have B32:=(Bx.gr (Bx.kp (Bx.md (Bx.gr (Bx.gr (Bx.kp (Bx.gr (Bx.gr Bw3 Gw4) Gw5) Kw9 (by simp<;>first|omega|(split<;>omega))) Gw10) Gw11) Mw12 (by omega)) Kw13 (by simp<;>first|omega|(split<;>omega))) Gw17)
   refine qe rfl (kQ (aO).siz rfl rfl (by rfl) (by rfl) (by rfl) B32 (by rfl)) ?_;rintro _ w18 ⟨Bw18,Mw18⟩;have z33:=Mw18.size;refine aQ<|aB ?_;have DL34:=(Df.md (Df.gr (Df.kp (Df.md (Df.gr (Df.gr Dfw9 Gw10) Gw11) Mw12 (by omega)) Kw13 (by simp<;>first|omega|(split<;>omega))) Gw17) Mw18 (by omega))
   have L34:=Md.put (w:=w18) Dw9 (.deferred none);have zL34:=L34.size;have B35:=(Bx.md Bw18 L34 (by omega));have X36:Gr w (w18.putObj Dw9 (.deferred none)):=(Gr.md (Gr.md (Gr.trans (Gr.kp X23 Kw13 (by simp<;>first|omega|(split<;>omega))) Gw17) Mw18 (by omega)) L34 (by omega))
   refine⟨_,_,⟨Dw9,rfl,DL34,rfl⟩,pO rfl aO rfl B35 (by rfl),?_⟩;exact⟨rfl,X36⟩
 rintro _ _ _ _ _ _ _ _ _ h _;exact h.elim
end Go.Proofs.YtplcaaglieefgaaGreat

end
section
namespace Go.Proofs.YtplcaaglieefgaaGreat
open Go Go.RowKit Go.Sx
theorem qY:ZV Tryz.prog 5 (.int .u8 0):=fun _=>by kernel_rfl
theorem Vc:iL Tryz.prog 54 1 5 1 [.int .u8 0]:=mF Tryz.underlying54 (cJ).siz qY rfl rfl (by kernel_rfl)
theorem lB:jL Tryz.prog 54 5 1 1:=oU Tryz.underlying54 rfl (by kernel_rfl)
theorem R4:ZV Tryz.prog 22 (.int .u64 0):=fun _=>by kernel_rfl
end Go.Proofs.YtplcaaglieefgaaGreat

end
section
namespace Go.Proofs.YtplcaaglieefgaaGreat
open Go Go.RowKit Go.Sx
theorem jE:CV Tryz.prog 5 3 .i64:=fun _ _ _=>by kernel_rfl
theorem Ro:En Tryz.prog 384:=fun _ _=>by kernel_rfl
theorem Up (n k:Nat)(h:2^k≤n):Nat.log2 n=Nat.log2 (n / 2^k)+k:=by
 induction k generalizing n with
 | zero=>simp
 | succ k ih=>
  have h2:2^k≤n / 2:=by rw[Nat.le_div_iff_mul_le (by omega)];rw[Nat.pow_succ] at h;omega
  have h1:2≤n:=by have:0<2^k:=Nat.two_pow_pos k;rw[Nat.pow_succ] at h;omega
  rw[Nat.log2_def,if_pos h1,ih (n / 2) h2,Nat.div_div_eq_div_mul,Nat.pow_succ,Nat.mul_comm 2];omega
theorem lH (a:Int)(k m:Nat)(hm:2^k=m)(h:(m:Int)≤a):lg a=lg (a / (m:Int))+k:=by
 obtain⟨n,rfl⟩:=Int.eq_ofNat_of_zero_le (show 0≤a by omega);subst hm;have hp:0<2^k:=Nat.two_pow_pos k;have h':2^k≤n:=by omega
 have e:((n:Int) / ((2^k:Nat):Int)).toNat=n / 2^k:=by rw[←Int.natCast_ediv];rfl
 have h1:¬ (n / 2^k=0):=by rw[Nat.div_eq_zero_iff];omega
 unfold lg;rw[e,Int.toNat_natCast,if_neg h1,if_neg (by omega),Up n k h'];omega
def nK:ByteArray:=⟨#[0,1,2,2,3,3,3,3,4,4,4,4,4,4,4,4,5,5,5,5,5,5,5,5,5,5,5,5,5,5,5,5,6,6,6,6,6,6,6,6,6,6,6,6,6,6,6,6,6,6,6,6,6,6,6,6,6,6,6,6,6,6,6,6,7,7,7,7,7,7,7,7,7,7,7,7,7,7,7,7,7,7,7,7,7,7,7,7,7,7,7,7,7,7,7,7,7,7,7,7,7,7,7,7,7,7,7,7,7,7,7,7,7,7,7,7,7,7,7,7,7,7,7,7,7,7,7,7,8,8,8,8,8,8,8,8,8,8,8,8,8,8,8,8,8,8,8,8,8,8,8,8,8,8,8,8,8,8,8,8,8,8,8,8,8,8,8,8,8,8,8,8,8,8,8,8,8,8,8,8,8,8,8,8,8,8,8,8,8,8,8,8,8,8,8,8,8,8,8,8,8,8,8,8,8,8,8,8,8,8,8,8,8,8,8,8,8,8,8,8,8,8,8,8,8,8,8,8,8,8,8,8,8,8,8,8,8,8,8,8,8,8,8,8,8,8,8,8,8,8,8,8,8,8,8,8]⟩
theorem Uj:∀ k:Fin 256,nK[k.1]? = some (UInt8.ofNat (lg (k.1:Int)).toNat)∧lg (k.1:Int)=((UInt8.ofNat (lg (k.1:Int)).toNat).toNat:Int):=by decide +kernel
theorem iY {a:Int}(h0:0≤a)(h1:a<256):nK[a.toNat]? = some (UInt8.ofNat (lg a).toNat)∧lg a=((UInt8.ofNat (lg a).toNat).toNat:Int):=by
 obtain⟨n,rfl⟩:=Int.eq_ofNat_of_zero_le h0;exact Uj ⟨n,by omega⟩
theorem pU (a:Int) : -9223372036854775808≤lg a:=by unfold lg;split<;>omega
theorem pM {a:Int}(h0:0≤a)(h1:a<256):lg a≤9223372036854775807:=by have:=(iY h0 h1).2;have:=(UInt8.ofNat (lg a).toNat).toNat_lt;omega
theorem pB {b:Int}(a:Int)(h:0≤b) : -9223372036854775808≤b+lg a:=by unfold lg;split<;>omega
theorem pC {a b:Int}(h0:0≤a)(h1:a<256)(hb:b≤1000):b+lg a≤9223372036854775807:=by have:=(iY h0 h1).2;have:=(UInt8.ofNat (lg a).toNat).toNat_lt;omega
set_option maxRecDepth 20000 in
set_option maxHeartbeats 1000000 in
theorem Ui (a:Int)(ha1:0≤a)(ha2:a<18446744073709551616)(w:World):
 Calls Tryz.prog 384 [.int .u64 a].toArray w fun e w'=>∃ v,e=.returned v∧(v=.int .i64 (lg a)∧Gr w w'):=by
 refine bN 25 Tryz.func384 rfl rfl rfl<|qs 1 rfl<|qv rfl (eQ rfl)<|aQ<|aP<|qs 2 rfl<|qv rfl (aA rfl)<|qv rfl (eU rfl rfl)<|aQ<|iD rfl (fun h1=>?_) (fun h1=>?_)
 · -- h1 True
   replace h1:=of_decide_eq_true h1;refine qs 3 rfl<|qv rfl (aA rfl)<|qv rfl (sC (n:=32) (m:=4294967296) rfl rfl rfl (by decide))<|qv rfl (eQ rfl)<|aQ<|qg 1 rfl<|qv rfl (eQ rfl)<|aQ<|aP<|qs 2 rfl<|qv rfl (aA rfl)<|qv rfl (eU rfl rfl)<|aQ<|iD rfl (fun h2=>?_) (fun h2=>?_)
   · -- h2 True
     replace h2:=of_decide_eq_true h2;refine qs 3 rfl<|qv rfl (aA rfl)<|qv rfl (sC (n:=16) (m:=65536) rfl rfl rfl (by decide))<|qv rfl (eQ rfl)<|aQ<|qg 3 rfl<|qv rfl (aA rfl)<|qv rfl (iX rfl rfl (by omega) (by omega))<|qv rfl (eQ rfl)<|aQ<|aP<|qs 2 rfl<|qv rfl (aA rfl)<|qv rfl (eU rfl rfl)<|aQ<|iD rfl (fun h3=>?_) (fun h3=>?_)
     · -- h3 True
       replace h3:=of_decide_eq_true h3;refine qs 3 rfl<|qv rfl (aA rfl)<|qv rfl (sC (n:=8) (m:=256) rfl rfl rfl (by decide))<|qv rfl (eQ rfl)<|aQ<|qg 3 rfl<|qv rfl (aA rfl)<|qv rfl (iX rfl rfl (by omega) (by omega))<|qv rfl (eQ rfl)<|qd 7 rfl<|qv rfl (aA rfl)<|qv rfl (aA rfl)<|qv rfl (qX jU rfl (by omega) (by omega))<|qv rfl (eX (qK Tryz.underlying9 rfl rfl (by omega) (show nK[_]? = _ from(iY (by omega) (by omega)).1)) (congrArg (Value.int .u8) (iY (by omega) (by omega)).2.symm))<|qv rfl (oR jE rfl (pU _) (pM (by omega) (by omega)))<|qv rfl (iX rfl rfl (pB _ (by decide)) (pC (by omega) (by omega) (by decide)))<|qv rfl (eQ rfl)<|aQ<|aB<|⟨_,_,rfl,mH rfl rfl,?_⟩;refine⟨congrArg (Value.int .i64) ?_,(Gr.refl w)⟩;have e0:lg (a:Int)=lg ((a:Int) / 4294967296)+32:=lH (a:Int) 32 4294967296 (by decide) (by omega);have e1:lg ((a:Int) / 4294967296)=lg (((a:Int) / 4294967296) / 65536)+16:=lH ((a:Int) / 4294967296) 16 65536 (by decide) (by omega);have e2:lg (((a:Int) / 4294967296) / 65536)=lg ((((a:Int) / 4294967296) / 65536) / 256)+8:=lH (((a:Int) / 4294967296) / 65536) 8 256 (by decide) (by omega);omega
     replace h3:=of_decide_eq_false h3;refine qu<|qs 7 rfl<|qv rfl (aA rfl)<|qv rfl (aA rfl)<|qv rfl (qX jU rfl (by omega) (by omega))<|qv rfl (eX (qK Tryz.underlying9 rfl rfl (by omega) (show nK[_]? = _ from(iY (by omega) (by omega)).1)) (congrArg (Value.int .u8) (iY (by omega) (by omega)).2.symm))<|qv rfl (oR jE rfl (pU _) (pM (by omega) (by omega)))<|qv rfl (iX rfl rfl (pB _ (by decide)) (pC (by omega) (by omega) (by decide)))<|qv rfl (eQ rfl)<|aQ<|aB<|⟨_,_,rfl,mH rfl rfl,?_⟩;refine⟨congrArg (Value.int .i64) ?_,(Gr.refl w)⟩;have e0:lg (a:Int)=lg ((a:Int) / 4294967296)+32:=lH (a:Int) 32 4294967296 (by decide) (by omega);have e1:lg ((a:Int) / 4294967296)=lg (((a:Int) / 4294967296) / 65536)+16:=lH ((a:Int) / 4294967296) 16 65536 (by decide) (by omega);omega
   replace h2:=of_decide_eq_false h2;refine qu<|aP<|qs 2 rfl<|qv rfl (aA rfl)<|qv rfl (eU rfl rfl)<|aQ<|iD rfl (fun h4=>?_) (fun h4=>?_)
   · -- h4 True
     replace h4:=of_decide_eq_true h4;refine qs 3 rfl<|qv rfl (aA rfl)<|qv rfl (sC (n:=8) (m:=256) rfl rfl rfl (by decide))<|qv rfl (eQ rfl)<|aQ<|qg 3 rfl<|qv rfl (aA rfl)<|qv rfl (iX rfl rfl (by omega) (by omega))<|qv rfl (eQ rfl)<|qd 7 rfl<|qv rfl (aA rfl)<|qv rfl (aA rfl)<|qv rfl (qX jU rfl (by omega) (by omega))<|qv rfl (eX (qK Tryz.underlying9 rfl rfl (by omega) (show nK[_]? = _ from(iY (by omega) (by omega)).1)) (congrArg (Value.int .u8) (iY (by omega) (by omega)).2.symm))<|qv rfl (oR jE rfl (pU _) (pM (by omega) (by omega)))<|qv rfl (iX rfl rfl (pB _ (by decide)) (pC (by omega) (by omega) (by decide)))<|qv rfl (eQ rfl)<|aQ<|aB<|⟨_,_,rfl,mH rfl rfl,?_⟩;refine⟨congrArg (Value.int .i64) ?_,(Gr.refl w)⟩;have e0:lg (a:Int)=lg ((a:Int) / 4294967296)+32:=lH (a:Int) 32 4294967296 (by decide) (by omega);have e1:lg ((a:Int) / 4294967296)=lg (((a:Int) / 4294967296) / 256)+8:=lH ((a:Int) / 4294967296) 8 256 (by decide) (by omega);omega
   replace h4:=of_decide_eq_false h4;refine qu<|qs 7 rfl<|qv rfl (aA rfl)<|qv rfl (aA rfl)<|qv rfl (qX jU rfl (by omega) (by omega))<|qv rfl (eX (qK Tryz.underlying9 rfl rfl (by omega) (show nK[_]? = _ from(iY (by omega) (by omega)).1)) (congrArg (Value.int .u8) (iY (by omega) (by omega)).2.symm))<|qv rfl (oR jE rfl (pU _) (pM (by omega) (by omega)))<|qv rfl (iX rfl rfl (pB _ (by decide)) (pC (by omega) (by omega) (by decide)))<|qv rfl (eQ rfl)<|aQ<|aB<|⟨_,_,rfl,mH rfl rfl,?_⟩;refine⟨congrArg (Value.int .i64) ?_,(Gr.refl w)⟩;have e0:lg (a:Int)=lg ((a:Int) / 4294967296)+32:=lH (a:Int) 32 4294967296 (by decide) (by omega);omega
 replace h1:=of_decide_eq_false h1;refine qu<|aP<|qs 2 rfl<|qv rfl (aA rfl)<|qv rfl (eU rfl rfl)<|aQ<|iD rfl (fun h5=>?_) (fun h5=>?_)
 · -- h5 True
   replace h5:=of_decide_eq_true h5;refine qs 3 rfl<|qv rfl (aA rfl)<|qv rfl (sC (n:=16) (m:=65536) rfl rfl rfl (by decide))<|qv rfl (eQ rfl)<|aQ<|qg 3 rfl<|qv rfl (aA rfl)<|qv rfl (iX rfl rfl (by omega) (by omega))<|qv rfl (eQ rfl)<|aQ<|aP<|qs 2 rfl<|qv rfl (aA rfl)<|qv rfl (eU rfl rfl)<|aQ<|iD rfl (fun h6=>?_) (fun h6=>?_)
   · -- h6 True
     replace h6:=of_decide_eq_true h6;refine qs 3 rfl<|qv rfl (aA rfl)<|qv rfl (sC (n:=8) (m:=256) rfl rfl rfl (by decide))<|qv rfl (eQ rfl)<|aQ<|qg 3 rfl<|qv rfl (aA rfl)<|qv rfl (iX rfl rfl (by omega) (by omega))<|qv rfl (eQ rfl)<|qd 7 rfl<|qv rfl (aA rfl)<|qv rfl (aA rfl)<|qv rfl (qX jU rfl (by omega) (by omega))<|qv rfl (eX (qK Tryz.underlying9 rfl rfl (by omega) (show nK[_]? = _ from(iY (by omega) (by omega)).1)) (congrArg (Value.int .u8) (iY (by omega) (by omega)).2.symm))<|qv rfl (oR jE rfl (pU _) (pM (by omega) (by omega)))<|qv rfl (iX rfl rfl (pB _ (by decide)) (pC (by omega) (by omega) (by decide)))<|qv rfl (eQ rfl)<|aQ<|aB<|⟨_,_,rfl,mH rfl rfl,?_⟩;refine⟨congrArg (Value.int .i64) ?_,(Gr.refl w)⟩;have e0:lg (a:Int)=lg ((a:Int) / 65536)+16:=lH (a:Int) 16 65536 (by decide) (by omega);have e1:lg ((a:Int) / 65536)=lg (((a:Int) / 65536) / 256)+8:=lH ((a:Int) / 65536) 8 256 (by decide) (by omega);omega
   replace h6:=of_decide_eq_false h6;refine qu<|qs 7 rfl<|qv rfl (aA rfl)<|qv rfl (aA rfl)<|qv rfl (qX jU rfl (by omega) (by omega))<|qv rfl (eX (qK Tryz.underlying9 rfl rfl (by omega) (show nK[_]? = _ from(iY (by omega) (by omega)).1)) (congrArg (Value.int .u8) (iY (by omega) (by omega)).2.symm))<|qv rfl (oR jE rfl (pU _) (pM (by omega) (by omega)))<|qv rfl (iX rfl rfl (pB _ (by decide)) (pC (by omega) (by omega) (by decide)))<|qv rfl (eQ rfl)<|aQ<|aB<|⟨_,_,rfl,mH rfl rfl,?_⟩;refine⟨congrArg (Value.int .i64) ?_,(Gr.refl w)⟩;have e0:lg (a:Int)=lg ((a:Int) / 65536)+16:=lH (a:Int) 16 65536 (by decide) (by omega);omega
 replace h5:=of_decide_eq_false h5;refine qu<|aP<|qs 2 rfl<|qv rfl (aA rfl)<|qv rfl (eU rfl rfl)<|aQ<|iD rfl (fun h7=>?_) (fun h7=>?_)
 · -- h7 True
   replace h7:=of_decide_eq_true h7;refine qs 3 rfl<|qv rfl (aA rfl)<|qv rfl (sC (n:=8) (m:=256) rfl rfl rfl (by decide))<|qv rfl (eQ rfl)<|aQ<|qg 3 rfl<|qv rfl (aA rfl)<|qv rfl (iX rfl rfl (by omega) (by omega))<|qv rfl (eQ rfl)<|qd 7 rfl<|qv rfl (aA rfl)<|qv rfl (aA rfl)<|qv rfl (qX jU rfl (by omega) (by omega))<|qv rfl (eX (qK Tryz.underlying9 rfl rfl (by omega) (show nK[_]? = _ from(iY (by omega) (by omega)).1)) (congrArg (Value.int .u8) (iY (by omega) (by omega)).2.symm))<|qv rfl (oR jE rfl (pU _) (pM (by omega) (by omega)))<|qv rfl (iX rfl rfl (pB _ (by decide)) (pC (by omega) (by omega) (by decide)))<|qv rfl (eQ rfl)<|aQ<|aB<|⟨_,_,rfl,mH rfl rfl,?_⟩;refine⟨congrArg (Value.int .i64) ?_,(Gr.refl w)⟩;have e0:lg (a:Int)=lg ((a:Int) / 256)+8:=lH (a:Int) 8 256 (by decide) (by omega);omega
 replace h7:=of_decide_eq_false h7;refine qu<|qs 7 rfl<|qv rfl (aA rfl)<|qv rfl (aA rfl)<|qv rfl (qX jU rfl (by omega) (by omega))<|qv rfl (eX (qK Tryz.underlying9 rfl rfl (by omega) (show nK[_]? = _ from(iY (by omega) (by omega)).1)) (congrArg (Value.int .u8) (iY (by omega) (by omega)).2.symm))<|qv rfl (oR jE rfl (pU _) (pM (by omega) (by omega)))<|qv rfl (iX rfl rfl (pB _ (by decide)) (pC (by omega) (by omega) (by decide)))<|qv rfl (eQ rfl)<|aQ<|aB<|⟨_,_,rfl,mH rfl rfl,?_⟩;refine⟨congrArg (Value.int .i64) ?_,(Gr.refl w)⟩;omega
set_option maxHeartbeats 1000000 in
theorem Uk (a:Int)(ha1:0≤a)(ha2:a<18446744073709551616)(w:World):
 Calls Tryz.prog 351 [.int .u64 a].toArray w fun e w'=>∃ v,e=.returned v∧(v=.int .i64 (lg a)∧Gr w w'):=by
 refine bN 8 Tryz.func351 rfl rfl rfl<|qs 1 rfl<|qv rfl (eQ rfl)<|aQ<|aP<|mD rfl<|qu<|qs 3 rfl<|qv rfl (aA rfl)<|qe rfl (hM Ro rfl (Ui _ (by omega) (by omega) _)) ?_;rintro _ w1 ⟨rfl,Gw1⟩;have z1:=Gw1.size;refine qv rfl (eQ rfl)<|aQ<|aB ?_;have X2:=(Gr.trans (Gr.refl w) Gw1);refine⟨_,_,rfl,mH rfl rfl,?_⟩;exact⟨rfl,X2⟩
end Go.Proofs.YtplcaaglieefgaaGreat

end
section
namespace Go.Sx
open Go Go.RowKit Go.Proofs Go.Sort Go.Shelf
def R6 (k:Nat)(xs:List (List Value)):Prop:=∀ y∈xs,y.length=k
theorem Ij {β:Type}[Inhabited β](enc:β→List Value)(k:Nat)(hk:1≤k)(hc:∀ b,(enc b).length=k)(w:World)(g n:Nat)(d:Array β)(os:Array Obj)(e:TypeId)(cur:Array Value)(hb:w.heap[g]? = some (.cells cur e (0,0)))(hl:d.size*k≤cur.size):
 ∃ cur':Array Value,(sortWorldK enc k w g 0 n d os).heap[g]? = some (.cells cur' e (0,0))∧cur'.size=cur.size∧cur'.toList.take (d.size*k)=(d.toList.map enc).flatten∧Kz [(1,g)] w (sortWorldK enc k w g 0 n d os):=by
 have eD:g<w.heap.size:=(Array.getElem?_eq_some_iff.1 hb).1;have hh:(sortWorldK enc k w g 0 n d os).heap=(w.heap.modify g (onCells (putCells id 0 (flatK enc k d))))++os:=rfl;refine⟨putCells id 0 (flatK enc k d) cur,?_,by simp[putCells],?_,?_⟩
 · rw[hh,Array.getElem?_append_left (by simpa using eD),Array.getElem?_modify,if_pos rfl,hb];rfl
 · apply List.ext_getElem?;intro t;rw[List.getElem?_take]
   have hfl:((d.toList.map enc).flatten).length=d.size*k:=by
    have:R6 k (d.toList.map enc):=by
     intro y hy;obtain⟨b,_,rfl⟩:=List.mem_map.1 hy;exact hc b
    have h2:∀ (xs:List (List Value)),R6 k xs→xs.flatten.length=xs.length*k:=by
     intro xs
     induction xs with
     | nil=>intro _;simp
     | cons a xs ih=>intro h;rw[List.flatten_cons,List.length_append,ih (fun y hy=>h y (List.mem_cons_of_mem _ hy)),h a (by simp),List.length_cons,Nat.add_mul];omega
    rw[h2 _ this];simp
   by_cases ht:t<d.size*k
   · rw[if_pos ht];have htc:t<cur.size:=by omega
     have h3:(putCells id 0 (flatK enc k d) cur).toList[t]? = some ((flatK enc k d)[t]!):=by
      simp only[putCells,Array.getElem?_toList,Array.getElem?_mapIdx,Array.getElem?_eq_getElem htc,Option.map_some,Nat.zero_le,true_and,Nat.zero_add,size_flatK,ht,if_true,Nat.sub_zero,id]
     rw[h3,get_flatK enc k d t ht];have hq:t / k<d.size:=(Nat.div_lt_iff_lt_mul (by omega)).2 ht;have hm:t%k<k:=Nat.mod_lt _ (by omega)
     have hgen:∀ (xs:List (List Value)),R6 k xs→∀ i j c,xs[i]? = some c→j<k→xs.flatten[i*k+j]? = c[j]? := by
      intro xs
      induction xs with
      | nil=>intro _ i j c h;simp at h
      | cons a xs ih=>
       intro hw i j c h hj;have ha:=hw a (by simp);rw[List.flatten_cons]
       cases i with
       | zero=>simp at h;subst h;rw[Nat.zero_mul,Nat.zero_add,List.getElem?_append_left (by omega)]
       | succ i=>
        rw[List.getElem?_append_right (by rw[ha,Nat.add_mul];omega),show(i+1)*k+j-a.length=i*k+j from by rw[ha,Nat.add_mul];omega];exact ih (fun y hy=>hw y (List.mem_cons_of_mem _ hy)) i j c (by simpa using h) hj
     have h4:=hgen (d.toList.map enc) (fun y hy=>by obtain⟨b,_,rfl⟩:=List.mem_map.1 hy;exact hc b) (t / k) (t%k) (enc d[t / k]!) (by simp[hq]) hm;have hdm:t / k*k+t%k=t:=by rw[Nat.mul_comm];exact Nat.div_add_mod t k
     rw[hdm] at h4;rw[h4];have h5:t%k<(enc d[t / k]!).length:=by rw[hc];exact hm
     simp[h5]
   · rw[if_neg ht,List.getElem?_eq_none (by omega)]
 · refine⟨rfl,rfl,rfl,by rw[hh];simp,fun i hi hn=>?_⟩
   have hne:g≠i:=by
    simp only[dY] at hn;rcases hn.1 with h|h
    · omega
    · exact fun e=>h e.symm
   rw[hh,Array.getElem?_append_left (by simpa using hi),Array.getElem?_modify,if_neg hne]
section
variable {P:Program} {ρ:Ren}
theorem Ik {β:Type}(c:β→List Value)(k:Nat)(hc:∀ b,(c b).length=k)(h1:∀ b,cZ (c b)=true)(hk:1≤k)(key:β→Int)(cf:Nat)(L:SlLaysF0.n6 P ρ)(aE:∀ w,(isAgg (ρ.t 24)).run P w=.ok true w)(zE:∀ w,(Go.sizeOf (ρ.t 24)).run P w=.ok k w)
 (eg:∀ args w,(callFunc cf args).run P w=.ok (.enter cf args) w)
 (hcmp:∀ (x y:β) (W:World),0≤key x∧key x<4611686018427387904→0≤key y∧key y<4611686018427387904→Calls P cf #[.agg (c x).toArray,.agg (c y).toArray] W fun e w'=>e=.returned (.int .i64 (key x-key y))∧∃ q os',w'=grow (W.drewN q) os')
 {l m:List β} (hm:sN key l=some m) (w:World) (z g:Nat) (e:TypeId) (v:Value) (h:aK w z g e k v (l.map c)):
 Calls P (ρ.f 6) #[v,.func (.func cf) #[] #[]] w fun e' w'=>∃ v',e'=.returned v'∧(aK w' z g e k v (m.map c)∧Kz [(z,g)] w w'):=by
 obtain⟨rfl,hbd,hnd,hlen⟩:=Io hm;rcases h.2 with⟨hz,rfl,h0⟩|⟨hz,cap,cur,rfl,hb,hn,hcap,hsz,htk⟩
 · have hl0:l=[]:=by simpa using h0
   subst hl0;refine(AnyF.slices_SortFunc_none L none 0 (.func (.func cf) #[] #[]) w).mono ?_;rintro e' w' ⟨rfl,rfl⟩;exact⟨_,rfl,by simpa using h,Kz.refl _ _⟩
 · by_cases hl0:l=[]
   · subst hl0;have:(([]:List β).map c).length=0:=rfl;rw[this];refine(AnyF.slices_SortFunc_none L (some ⟨g,0,none⟩) cap (.func (.func cf) #[] #[]) w).mono ?_;rintro e' w' ⟨rfl,rfl⟩;exact⟨_,rfl,by simpa using h,Kz.refl _ _⟩
   · obtain⟨b0,hb0⟩:=List.exists_mem_of_ne_nil l hl0
     let A:={ x:β // x∈l }
     letI:Inhabited A:=⟨⟨b0,hb0⟩⟩
     let enc:A→List Value:=fun x=>c x.1
     let d:Array A:=l.attach.toArray
     let cfn:A→A→Int:=fun x y=>key x.1-key y.1
     have hds:d.size=l.length:=by show l.attach.toArray.size=l.length;simp
     have eD:∀ x y:A,ltOf cfn x y=decide (key x.1<key y.1):=fun x y=>by
      unfold ltOf;apply decide_eq_decide.2;show key x.1-key y.1<0↔_;omega
     have hO:SWO (ltOf cfn):=⟨fun x=>by rw[eD];simp,fun x y z h1 h2=>by rw[eD] at *;simp at *;omega,fun x y z h1 h2=>by rw[eD] at *;simp at *;omega⟩
     have hT:∀ x y:A,ltOf cfn x y=false→ltOf cfn y x=false→x=y:=fun x y h1 h2=>by
      rw[eD] at h1 h2;simp at h1 h2;have he:key x.1=key y.1:=by omega
      apply Subtype.ext;obtain⟨i,hi,ei⟩:=List.mem_iff_getElem.1 x.2;obtain⟨j,hj,ej⟩:=List.mem_iff_getElem.1 y.2;have hij:i=j:=(List.getElem_inj (h₀:=by simpa using hi) (h₁:=by simpa using hj) hnd).1 (by rw[List.getElem_map,List.getElem_map,ei,ej];exact he);subst hij;rw[←ei,←ej]
     have hmk:d.toList.map enc=l.map c:=by
      show l.attach.toArray.toList.map (fun x:A=>c x.1)=l.map c;show List.map (fun x:{ x:β // x∈l }=>c x.1) l.attach=l.map c;exact List.attach_map_val
     rw[List.length_map] at hn htk;have hle:d.size*k≤cur.size:=by rw[hds,hsz];exact Nat.mul_le_mul_right _ hn
     have hH:HoldsK enc k w g 0 d:=by
      intro j hj;rw[size_flatK] at hj;rw[get_flatK enc k d j hj];have hq:j / k<d.size:=(Nat.div_lt_iff_lt_mul (by omega)).2 hj;have hm':j%k<k:=Nat.mod_lt _ (by omega);have hcell:w.cell? ⟨g,0+j,none⟩=cur[j]? := by rw[Nat.zero_add,cell_of_row w g j _ e _ hb]
      have hws:Ws k (l.map c):=h.1;have hat:=hws.at (j / k) (j%k) (c (l[j / k]'(by omega))) (by simp[show j / k<l.length by omega]) hm';have hdm:j / k*k+j%k=j:=by rw[Nat.mul_comm];exact Nat.div_add_mod j k
      rw[hdm,←htk,List.getElem?_take,if_pos (by rw[hds] at hj;exact hj),Array.getElem?_toList] at hat
      have hdj:enc d[j / k]! = c (l[j / k]'(by omega)):=by
       have:d[j / k]! = ⟨l[j / k]'(by omega),List.getElem_mem _⟩:=by
        have hjl:j / k<d.size:=hq;rw[getElem!_pos d (j / k) hjl];show(l.attach.toArray)[j / k]'(by simpa using(show j / k<l.length by omega))=_;simp
       rw[this]
      refine⟨?_,?_⟩
      · rw[hcell,hat,hdj];have h5:j%k<(c (l[j / k]'(by omega))).length:=by rw[hc];exact hm'
        simp[h5]
      · simp[World.frozen?,hb]
     have hcl:CmpLays P cf #[] enc k cfn g 0 d.size w:=fun mm os dk hs x y=>by
      have:=hcmp x.1 y.1 (sortWorldK enc k w g 0 mm dk os) (hbd _ x.2) (hbd _ y.2);simpa[enc,cfn] using this
     have hone:∀ x:A,∀ u∈enc x,u.oneCell'=true:=fun x u hu=>by
      have hws:Ws k (l.map c):=h.1;exact hws.one u (List.mem_flatten.2 ⟨c x.1,List.mem_map.2 ⟨x.1,x.2,rfl⟩,hu⟩)
     have:=AnyQ.slices_SortFunc_total L k aE zE enc (fun x=>hc x.1) hone cfn hO cf #[] g 0 cap d w eg hcl hH (Array.getElem?_eq_some_iff.1 hb).1 (by omega) hT;rw[hds] at this;rw[List.length_map];refine this.mono ?_;rintro e' w' ⟨rfl,n,os,rfl⟩
     have hms:(d.toList.mergeSort fun x y => !(ltOf cfn) y x).map enc=(l.mergeSort fun a b=>decide (key a≤key b)).map c:=by
      have e1:(d.toList.mergeSort fun x y => !(ltOf cfn) y x).map Subtype.val=(l.mergeSort fun a b=>decide (key a≤key b)):=by
       rw[List.map_mergeSort (s:=fun a b=>decide (key a≤key b)) (fun a _ b _=>by rw[eD];by_cases hh:key b.1<key a.1<;>simp[hh]<;>omega)];congr 1;show List.map Subtype.val l.attach=l;simp
      rw[←e1,List.map_map];rfl
     have hsl:(d.toList.mergeSort fun x y => !(ltOf cfn) y x).toArray.size=l.length:=by rw[List.size_toArray,List.length_mergeSort];exact hds
     obtain⟨cur',q1,q2,q3,q4⟩:=Ij enc k hk (fun x=>hc x.1) w g n (d.toList.mergeSort fun x y => !(ltOf cfn) y x).toArray os e cur hb (by rw[hsl,←hds];exact hle);rw[hsl,List.toList_toArray,hms] at q3;refine⟨_,rfl,⟨?_,.inr ⟨hz,cap,cur',?_,q1,?_,?_,?_,?_⟩⟩,by rw[hz];exact q4⟩
     · exact Gu fun x _=>⟨hc x,h1 x⟩
     · rw[List.length_map,List.length_mergeSort]
     · rw[List.length_map,List.length_mergeSort];exact hn
     · exact hcap
     · rw[q2];exact hsz
     · rw[List.length_map,List.length_mergeSort];exact q3
end
end Go.Sx

end
section
namespace Go.Proofs.YtplcaaglieefgaaGreat.Mx
open Go Go.RowKit Go.Sx Go.Proofs Go.Shelf Go.Lib Go.Sort
def Pm:Go.Shelf.Ren:=⟨fun|6=>298|15=>351|14=>350|28=>383|29=>384|20=>375|21=>376|22=>377|23=>378|24=>379|25=>380|26=>381|27=>382|46=>390|47=>391|48=>392|49=>393|50=>394|57=>403|n=>n,fun|22=>252|24=>193|25=>379|3=>3|39=>177|0=>0|53=>148|55=>22|4=>4|46=>437|45=>436|50=>179|5=>5|9=>9|66=>450|70=>239|76=>461|77=>204|n=>n,fun|n=>n⟩
theorem Uf:Go.Proofs.SlLaysF0.n6 Tryz.prog Pm:={
 mixed:=by kernel_rfl
 f6:=⟨Tryz.f298.name,by decide,Tryz.func298.trans (congrArg some (by kernel_rfl))⟩
 f14:=⟨Tryz.f350.name,by decide,Tryz.func350.trans (congrArg some (by kernel_rfl))⟩
 f15:=Tryz.func351.trans (congrArg some (by kernel_rfl))
 f20:=⟨Tryz.f375.name,by decide,Tryz.func375.trans (congrArg some (by kernel_rfl))⟩
 f21:=⟨Tryz.f376.name,by decide,Tryz.func376.trans (congrArg some (by kernel_rfl))⟩
 f22:=⟨Tryz.f377.name,by decide,Tryz.func377.trans (congrArg some (by kernel_rfl))⟩
 f23:=⟨Tryz.f378.name,by decide,Tryz.func378.trans (congrArg some (by kernel_rfl))⟩
 f24:=⟨Tryz.f379.name,by decide,Tryz.func379.trans (congrArg some (by kernel_rfl))⟩
 f25:=⟨Tryz.f380.name,by decide,Tryz.func380.trans (congrArg some (by kernel_rfl))⟩
 f26:=⟨Tryz.f381.name,by decide,Tryz.func381.trans (congrArg some (by kernel_rfl))⟩
 f27:=⟨Tryz.f382.name,by decide,Tryz.func382.trans (congrArg some (by kernel_rfl))⟩
 f28:=Tryz.func383.trans (congrArg some (by kernel_rfl))
 f29:=Tryz.func384.trans (congrArg some (by kernel_rfl))
 f46:=⟨Tryz.f390.name,by decide,Tryz.func390.trans (congrArg some (by kernel_rfl))⟩
 f47:=Tryz.func391.trans (congrArg some (by kernel_rfl))
 f48:=Tryz.func392.trans (congrArg some (by kernel_rfl))
 f49:=⟨Tryz.f393.name,by decide,Tryz.func393.trans (congrArg some (by kernel_rfl))⟩
 f50:=⟨Tryz.f394.name,by decide,Tryz.func394.trans (congrArg some (by kernel_rfl))⟩
 f57:=⟨Tryz.f403.name,by decide,Tryz.func403.trans (congrArg some (by kernel_rfl))⟩
 t0:=Tryz.underlying0
 a0:=Tryz.isAgg0
 z0:=Tryz.sizeOf0
 v0:=Tryz.zeroValue0
 t3:=Tryz.underlying3
 a3:=Tryz.isAgg3
 z3:=Tryz.sizeOf3
 v3:=Tryz.zeroValue3
 t4:=Tryz.underlying4
 a4:=Tryz.isAgg4
 z4:=Tryz.sizeOf4
 v4:=Tryz.zeroValue4
 t5:=Tryz.underlying5
 a5:=Tryz.isAgg5
 z5:=Tryz.sizeOf5
 v5:=Tryz.zeroValue5
 t9:=Tryz.underlying9
 a9:=Tryz.isAgg9
 z9:=Tryz.sizeOf9
 v9:=Tryz.zeroValue9
 t22:=Tryz.underlying252
 a22:=Tryz.isAgg252
 z22:=Tryz.sizeOf252
 v22:=Tryz.zeroValue252
 t25:=Tryz.underlying379
 a25:=Tryz.isAgg379
 z25:=Tryz.sizeOf379
 v25:=Tryz.zeroValue379
 t39:=Tryz.underlying177
 a39:=Tryz.isAgg177
 z39:=Tryz.sizeOf177
 v39:=Tryz.zeroValue177
 t45:=Tryz.underlying436
 a45:=Tryz.isAgg436
 z45:=Tryz.sizeOf436
 v45:=Tryz.zeroValue436
 t46:=Tryz.underlying437
 a46:=Tryz.isAgg437
 z46:=Tryz.sizeOf437
 v46:=Tryz.zeroValue437
 t50:=Tryz.underlying179
 a50:=Tryz.isAgg179
 z50:=Tryz.sizeOf179
 v50:=Tryz.zeroValue179
 t53:=Tryz.underlying148
 a53:=Tryz.isAgg148
 z53:=Tryz.sizeOf148
 v53:=Tryz.zeroValue148
 t55:=Tryz.underlying22
 a55:=Tryz.isAgg22
 z55:=Tryz.sizeOf22
 v55:=Tryz.zeroValue22
 t66:=Tryz.underlying450
 a66:=Tryz.isAgg450
 z66:=Tryz.sizeOf450
 v66:=Tryz.zeroValue450
 t70:=Tryz.underlying239
 a70:=Tryz.isAgg239
 z70:=Tryz.sizeOf239
 v70:=Tryz.zeroValue239
 t76:=Tryz.underlying461
 a76:=Tryz.isAgg461
 z76:=Tryz.sizeOf461
 v76:=Tryz.zeroValue461
 t77:=Tryz.underlying204
 a77:=Tryz.isAgg204
 z77:=Tryz.sizeOf204
 v77:=Tryz.zeroValue204 }
theorem Qar {a b:Int}(ha:0≤a∧a<4611686018427387904)(hb:0≤b∧b<4611686018427387904):IntKind.i64.wrap (a-b)=a-b:=by rw[IntKind.wrap_i64];omega
set_option maxHeartbeats 1000000 in
theorem Lj (x y:bT)(W:World)(hx:0≤x.Node∧x.Node<4611686018427387904)(hy:0≤y.Node∧y.Node<4611686018427387904):Calls Tryz.prog 299 #[.agg #[.int .i64 x.Node,.int .i64 x.Minus],.agg #[.int .i64 y.Node,.int .i64 y.Minus]] W fun e w'=>e=.returned (.int .i64 (x.Node-y.Node))∧∃ q os',w'=grow (W.drewN q) os':=by
 have hw:=Qar hx hy
 go_enter Tryz.func299,Tryz.ntmps299
 go_wp2
 go_ret
 exact⟨rfl,0,_,by rw[alloc_eq_grow,alloc_eq_grow,grow_grow];rfl⟩
theorem Ii {l m:List bT}(hm:sN bT.Node l=some m)(w:World)(z g:Nat)(v:Value)(h:aK w z g 193 2 v (l.map bT.cs)):Calls Tryz.prog 298 [v,.func (.func 299) #[] #[]].toArray w fun e' w'=>∃ v',e'=.returned v'∧(aK w' z g 193 2 v (m.map bT.cs)∧Kz [(z,g)] w w'):=
 Ik (ρ:=Pm) bT.cs 2 (fun _=>rfl) (fun x=>bT.cs_ones x) (by decide) bT.Node 299 Uf (fun _=>by kernel_rfl) (fun _=>by kernel_rfl) (fun _ _=>by kernel_rfl) (fun x y W hx hy=>Lj x y W hx hy) hm w z g 193 v h
end Go.Proofs.YtplcaaglieefgaaGreat.Mx

end
section
namespace Go.Sx
open Go Go.RowKit
noncomputable section
end
end Go.Sx

end
section
namespace Go.Sx
open Go Go.RowKit
noncomputable section
end
end Go.Sx

end
section

end
section

end
section

end
section

end
