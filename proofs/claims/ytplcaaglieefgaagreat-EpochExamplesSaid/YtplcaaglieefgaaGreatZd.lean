/- Several texts in one: CaM CrM CbM ClM CcM XaM PaM PkM PbM PcM XbM XcM EkM EtM XdM XeM EsM AlM XfM VaM XgM DeM XhM Ex5M OpnEx5 CipA CipB CipC Ref2 BitL Srt. -/
import Derived.Test.YtplcaaglieefgaaGreatZc
import Derived.Test.YtplcaaglieefgaaGreatRows
import Derived.KernelRfl
import Derived.Test.YtplcaaglieefgaaGreatZb
import Derived.Shelf.SlSortCmp.NoneTotal
set_option linter.unusedVariables false
set_option linter.unusedSimpArgs false
section
set_option linter.unusedVariables false
set_option maxRecDepth 100000
namespace Go.Sx
open Go Go.RowKit
structure Vi where
 P:BitVec 64
 Q:BitVec 64
 G:BitVec 64
deriving DecidableEq,Inhabited
def Vi.cs (x:Vi)  : List Value:=[wv x.P,wv x.Q,wv x.G]
theorem Vi.cs_ones (x:Vi)   : Jn (Vi.cs x )=true:=by simp only[Vi.cs,List.cons_append,List.nil_append,kb,Jn,Hm,Hl,Hn,cond_true]
theorem Vi.cs_inj {x y:Vi}(h:Vi.cs x=Vi.cs y):x=y:=by
 have h0:x.P=y.P:=Rr (congrArg (fun l=>l[0]?) h)
 have h1:x.Q=y.Q:=Rr (congrArg (fun l=>l[1]?) h)
 have h2:x.G=y.G:=Rr (congrArg (fun l=>l[2]?) h)
 cases x;cases y;simp only at *;subst h0;subst h1;subst h2;rfl
theorem Vi.ws (l:List Vi):Ws 3 (l.map Vi.cs):=Wk l (fun _=>rfl) (fun _=>rfl)
structure Xn where
 Kind:BitVec 8
 Depth:Int
 Degree:Int
 Group:Vi
deriving DecidableEq,Inhabited
def Xn.cs (x:Xn)  : List Value:=[bv x.Kind,.int .i64 x.Depth,.int .i64 x.Degree,wv x.Group.P,wv x.Group.Q,wv x.Group.G]
theorem Xn.cs_ones (x:Xn)   : Jn (Xn.cs x )=true:=by simp only[Xn.cs,List.cons_append,List.nil_append,kb,Jn,Hm,Hl,Hn,cond_true]
theorem Xn.cs_inj {x y:Xn}(h:Xn.cs x=Xn.cs y):x=y:=by
 have h0:x.Kind=y.Kind:=Qjg (congrArg (fun l=>l[0]?) h)
 have h1:x.Depth=y.Depth:=Ht (congrArg (fun l=>l[1]?) h)
 have h2:x.Degree=y.Degree:=Ht (congrArg (fun l=>l[2]?) h)
 have h3:x.Group=y.Group:=Vi.cs_inj (congrArg (fun l=>(l.drop 3).take 3) h)
 cases x;cases y;simp only at *;subst h0;subst h1;subst h2;subst h3;rfl
theorem Xn.ws (l:List Xn):Ws 6 (l.map Xn.cs):=Wk l (fun _=>rfl) (fun _=>rfl)
structure Xs where
 Node:Int
 Minus:Int
deriving DecidableEq,Inhabited
def Xs.cs (x:Xs)  : List Value:=[.int .i64 x.Node,.int .i64 x.Minus]
theorem Xs.cs_ones (x:Xs)   : Jn (Xs.cs x )=true:=by simp only[Xs.cs,List.cons_append,List.nil_append,kb,Jn,Hm,Hl,Hn,cond_true]
theorem Xs.cs_inj {x y:Xs}(h:Xs.cs x=Xs.cs y):x=y:=by
 have h0:x.Node=y.Node:=Ht (congrArg (fun l=>l[0]?) h)
 have h1:x.Minus=y.Minus:=Ht (congrArg (fun l=>l[1]?) h)
 cases x;cases y;simp only at *;subst h0;subst h1;rfl
theorem Xs.ws (l:List Xs):Ws 2 (l.map Xs.cs):=Wk l (fun _=>rfl) (fun _=>rfl)
structure Zr where
 Node:Int
 Minus:Int
 Key:W2
deriving DecidableEq,Inhabited
def Zr.cs (x:Zr)  : List Value:=[.int .i64 x.Node,.int .i64 x.Minus]++(kb x.Key)
theorem Zr.cs_ones (x:Zr)   : Jn (Zr.cs x )=true:=by simp only[Zr.cs,List.cons_append,List.nil_append,kb,Jn,Hm,Hl,Hn,cond_true]
theorem Zr.cs_inj {x y:Zr}(h:Zr.cs x=Zr.cs y):x=y:=by
 have h0:x.Node=y.Node:=Ht (congrArg (fun l=>l[0]?) h)
 have h1:x.Minus=y.Minus:=Ht (congrArg (fun l=>l[1]?) h)
 have h2:x.Key=y.Key:=Dh (congrArg (fun l=>(l.drop 2).take 16) h)
 cases x;cases y;simp only at *;subst h0;subst h1;subst h2;rfl
theorem Zr.ws (l:List Zr):Ws 18 (l.map Zr.cs):=Wk l (fun _=>rfl) (fun _=>rfl)
structure Qx where
 X:BitVec 64
 Y:BitVec 64
deriving DecidableEq,Inhabited
def Qx.cs (x:Qx)  : List Value:=[wv x.X,wv x.Y]
theorem Qx.cs_ones (x:Qx)   : Jn (Qx.cs x )=true:=by simp only[Qx.cs,List.cons_append,List.nil_append,kb,Jn,Hm,Hl,Hn,cond_true]
theorem Qx.cs_inj {x y:Qx}(h:Qx.cs x=Qx.cs y):x=y:=by
 have h0:x.X=y.X:=Rr (congrArg (fun l=>l[0]?) h)
 have h1:x.Y=y.Y:=Rr (congrArg (fun l=>l[1]?) h)
 cases x;cases y;simp only at *;subst h0;subst h1;rfl
theorem Qx.ws (l:List Qx):Ws 2 (l.map Qx.cs):=Wk l (fun _=>rfl) (fun _=>rfl)
structure Xt where
 Receiver:Int
 Labels:List Zr
 Share:Qx
deriving DecidableEq,Inhabited
def Xt.cs (x:Xt)(v0:Value):List Value:=[.int .i64 x.Receiver,v0,wv x.Share.X,wv x.Share.Y]
theorem Xt.cs_ones (x:Xt)(v0:Value)(h0:oneB v0=true):Jn (Xt.cs x v0)=true:=by simp only[Xt.cs,List.cons_append,List.nil_append,kb,Jn,Hm,Hl,Hn,cond_true,h0]
structure Zc where
 Subset:Xs
 Box:W2
deriving DecidableEq,Inhabited
def Zc.cs (x:Zc)  : List Value:=[.int .i64 x.Subset.Node,.int .i64 x.Subset.Minus]++(kb x.Box)
theorem Zc.cs_ones (x:Zc)   : Jn (Zc.cs x )=true:=by simp only[Zc.cs,List.cons_append,List.nil_append,kb,Jn,Hm,Hl,Hn,cond_true]
theorem Zc.cs_inj {x y:Zc}(h:Zc.cs x=Zc.cs y):x=y:=by
 have h0:x.Subset=y.Subset:=Xs.cs_inj (congrArg (fun l=>(l.drop 0).take 2) h)
 have h1:x.Box=y.Box:=Dh (congrArg (fun l=>(l.drop 2).take 16) h)
 cases x;cases y;simp only at *;subst h0;subst h1;rfl
theorem Zc.ws (l:List Zc):Ws 18 (l.map Zc.cs):=Wk l (fun _=>rfl) (fun _=>rfl)
structure Qq where
 Items:List Zc
 Base:BitVec 64
 Points:List Qx
 Box:W2
 Check:W2
deriving DecidableEq,Inhabited
def Qq.cs (x:Qq)(v0:Value)(v1:Value):List Value:=[v0,wv x.Base,v1]++(kb x.Box++(kb x.Check))
theorem Qq.cs_ones (x:Qq)(v0:Value)(v1:Value)(h0:oneB v0=true)(h1:oneB v1=true):Jn (Qq.cs x v0 v1)=true:=by simp only[Qq.cs,List.cons_append,List.nil_append,kb,Jn,Hm,Hl,Hn,cond_true,h0,h1]
structure Xv where
 kind:BitVec 8
 depth:Int
 stride:Int
deriving DecidableEq,Inhabited
def Xv.cs (x:Xv)  : List Value:=[bv x.kind,.int .i64 x.depth,.int .i64 x.stride]
theorem Xv.cs_ones (x:Xv)   : Jn (Xv.cs x )=true:=by simp only[Xv.cs,List.cons_append,List.nil_append,kb,Jn,Hm,Hl,Hn,cond_true]
theorem Xv.cs_inj {x y:Xv}(h:Xv.cs x=Xv.cs y):x=y:=by
 have h0:x.kind=y.kind:=Qjg (congrArg (fun l=>l[0]?) h)
 have h1:x.depth=y.depth:=Ht (congrArg (fun l=>l[1]?) h)
 have h2:x.stride=y.stride:=Ht (congrArg (fun l=>l[2]?) h)
 cases x;cases y;simp only at *;subst h0;subst h1;subst h2;rfl
theorem Xv.ws (l:List Xv):Ws 3 (l.map Xv.cs):=Wk l (fun _=>rfl) (fun _=>rfl)
def Rm (p0:Xn)(rec2:(Int)→Option (Xv × Bool))(a3:Int):Option (Xv × Bool):=(if Qp (a3*a3)<p0.Depth then(rec2 (Qp (a3+1))) else(some ((Xv.mk p0.Kind p0.Depth a3),true)))
def Si (p0:Xn)(a1:Bool):Option (Xv × Bool):=(bif a1 then(some ((Xv.mk 0#8 0 0),false)) else(Xq (Rm p0) Ze 1))
def Ma (p0:Xn):Option (Xv × Bool):=(if p0.Kind<1#8 then(Si p0 true) else(if 3#8<p0.Kind then(Si p0 true) else(if p0.Depth<0 then(Si p0 true) else(if(6:Int)<p0.Depth then(Si p0 true) else(Si p0 (decide (p0≠(Xn.mk p0.Kind p0.Depth 0 (Vi.mk 0#64 0#64 0#64)))))))))
def Sc (p0:Xn):Option (Int):=Option.bind (Ma p0) fun x1=>((bif (!x1.2) then(some 30) else(some 0)))
end Go.Sx

end
section
set_option linter.unusedVariables false
set_option maxRecDepth 100000
namespace Go.Sx
open Go Go.RowKit
end Go.Sx

end
section
set_option linter.unusedVariables false
set_option maxRecDepth 100000
namespace Go.Sx
open Go Go.RowKit
def Rq (p0:Xv):Option (Int):=Option.bind (Vs p0.depth) fun nn1=>((some (Hb 1 nn1)))
def Qas (p0:Xv)(p1:Int):Option (Bool):=(if(1:Int)≤p1 then Option.bind (Rq p0) fun x1=>((some (decide (p1<Qp (2*x1))))) else(some false))
def Tn (p0:Int):Option (Int):=(some (Qp ((lg (un (wd p0)))-1)))
def Aa (p0:Int)(p1:Int)(a1:Bool):Option (Bool):=(bif a1 then(some false) else Option.bind (Tn p0) fun x2=>(Option.bind (Tn p1) fun x3=>(Option.bind (Vs (Qp (x2-x3))) fun nn4=>((some (decide (Ls p0 nn4=p1)))))))
def Ez (p0:Int)(p1:Int):Option (Bool):=(if p0<1 then(Aa p0 p1 true) else(if p1<1 then(Aa p0 p1 true) else Option.bind (Tn p0) fun x5=>(Option.bind (Tn p1) fun x6=>((Aa p0 p1 (decide (x5<x6)))))))
def Nv (p0:Xv)(p1:Int):Option (Bool):=Option.bind (Tn p1) fun x1=>(Option.bind (Wz x1 p0.stride) fun x2=>((some (decide (x2=0)))))
def Cy (p0:Int)(p1:Int):Option (Int × Int):=(some (p0,p1))
def Sh (p0:Int)(p1:Int):Option (Int):=Option.bind (Tn p1) fun x1=>(Option.bind (Tn p0) fun x2=>(Option.bind (Vs (Qp ((Qp (x1-x2))-1))) fun nn3=>((some (Ls p1 nn3)))))
def Rl (p2:Int)(rec1:(Int)→Option (List Int))(a2:Int):Option (List Int):=(if a2≠p2 then Option.bind (Sh a2 p2) fun x3=>((yl x3 ((rec1 x3)))) else(some []))
def Cz (p1:Int)(p2:Int):Option (List Int):=(Xq (Rl p2) Ze p1)
def Ew  (s:Int):Option (Int):=match s with|a3=>(some 0)
def Qex  (s:Int):Option (Int):=match s with|a3=>(some a3)
def Cx (p1_0:Xv)(e4:Int)(nx1:(Int)→Option (Int))(s:Int):Option (Int):=match s with|a3=>Option.bind (Nv p1_0 e4) fun x5=>((bif x5 then(Qex e4) else(nx1 a3)))
def Qam (p0_0:Int)(p0_1:Int)(p1_0:Xv):Option (Int):=Option.bind (Cz p0_0 p0_1) fun l1=>((Vw (Cx p1_0) Ew l1 0))
def Sj (p0:Xv)(p1:Int)(p2:Int):Option (Int):=Option.bind (Vs (un 1#64)) fun nn1=>(Option.bind (Cy p1 (Ls p2 nn1)) fun x2=>(Option.bind (Qam x2.1 x2.2 p0) fun x3=>((some x3))))
def Ac (p0:Xv)(p1:Xs)(a3:Bool):Option (Bool):=(bif a3 then(some false) else(if p0.kind=2#8 then(some true) else Option.bind (Nv p0 p1.Node) fun x4=>((bif x4 then(some true) else Option.bind (Sj p0 p1.Node p1.Minus) fun x5=>((some (decide (x5=0))))))))
def Qay (p0:Xv)(p1:Xs)(a2:Bool):Option (Bool):=(bif a2 then(if p1.Minus=0 then(if p0.kind=1#8 then(some true) else(some (decide (p1.Node=1)))) else(some false)) else Option.bind (Qas p0 p1.Minus) fun x6=>((bif (!x6) then(Ac p0 p1 true) else(if p1.Minus=p1.Node then(Ac p0 p1 true) else Option.bind (Ez p1.Minus p1.Node) fun x7=>((Ac p0 p1 (!x7)))))))
def Ab (p0:Xv)(p1:Xs):Option (Bool):=Option.bind (Qas p0 p1.Node) fun x1=>((bif (!x1) then(some false) else(if p0.kind=1#8 then(Qay p0 p1 true) else(Qay p0 p1 (decide (p1.Minus=0))))))
def Qak (p1:List Xs)(x1:Xv × Bool)(rec1:(Int)→Option (Xv × Int))(a3:Int):Option (Xv × Int):=(if a3<(p1.length:Int) then Option.bind (Zu p1 a3) fun y4=>(Option.bind (Ab x1.1 y4) fun x5=>((bif (!x5) then(some ((Xv.mk 0#8 0 0),31)) else(rec1 (Qp (a3+1)))))) else(some (x1.1,0)))
def Sf (p0:Xn)(p1:List Xs):Option (Xv × Int):=Option.bind (Ma p0) fun x1=>((bif (!x1.2) then(some ((Xv.mk 0#8 0 0),30)) else(Xq (Qak p1 x1) Ze 0)))
def Ey (p0:W2)(p1:Int):Option (W2):=(some (Ki p0 (Xr 30#8) (wd p1)))
def Qai (a4:W2)(nx1:(W2)→Option (W2))(a6:BitVec 8):Option (W2):=(nx1 (Ki a4 (Xr a6) 0#64))
def Qah  (s:W2):Option (W2):=match s with|a4=>(some a4)
def Qaj  (e5:Int)(nx1:(W2)→Option (W2))(s:W2):Option (W2):=match s with|a4=>Option.bind (Wz e5 2) fun x7=>((if x7=1 then(Qai a4 nx1 32#8) else(Qai a4 nx1 31#8)))
def Ev (p0:W2)(p1:Int)(p2:Int):Option (W2):=Option.bind (Cy p1 p2) fun x1=>(Option.bind (Cz x1.1 x1.2) fun l2=>((Vw Qaj Qah l2 p0)))
def Qan (p0:W2):Option (W2):=(some (Ki p0 (Xr 33#8) 0#64))
def Qat (p0:Xv)(p1:W2)(p2:Xs):Option (W2):=(if p0.kind=1#8 then Option.bind (Ey p1 p2.Node) fun x1=>((some x1)) else(if p2.Minus=0 then(some (Ki p1 (Xr 34#8) 0#64)) else Option.bind (Ey p1 p2.Node) fun x2=>(Option.bind (Ev x2 p2.Node p2.Minus) fun x3=>(Option.bind (Qan x3) fun x4=>((some x4))))))
def Qad (p0:W2)(p2:List Xs)(p3:W2)(x2:Xv × Int)(rec1:(Int × List Zc)→Option (Qq × Int))(s1:Int × List Zc):Option (Qq × Int):=match s1 with|(a6,a7)=>(if a6<(p2.length:Int) then Option.bind (Zu p2 a6) fun y9=>(Option.bind (Qat x2.1 p0 y9) fun x10=>(Option.bind (Yv 32 a7 [(Zc.mk y9 (Pp x10 p3))]) fun l11=>((rec1 (Qp (a6+1),l11))))) else(some ((Qq.mk a7 0#64 [] k0 (Ki p3 (Xr 53#8) 0#64)),0)))
def Eu (p0:W2)(p1:Xn)(p2:List Xs)(p3:W2):Option (Qq × Int):=Option.bind (Sc p1) fun x1=>((if x1≠0 then(some ((Qq.mk [] 0#64 [] k0 k0),x1)) else(if(64:Int)<(p2.length:Int) then(some ((Qq.mk [] 0#64 [] k0 k0),4)) else Option.bind (Sf p1 p2) fun x2=>((if x2.2≠0 then(some ((Qq.mk [] 0#64 [] k0 k0),x2.2)) else(Xq (Qad p0 p2 p3 x2) Ze (0,[])))))))
def Qeu (p0:Zc)(p1:Xv):Option (Bool):=Option.bind (Ab p1 p0.Subset) fun x1=>((some (!x1)))
def Qdu (p0:List Zc)(p1_0:Xv)(rec1:(Int)→Option (Int))(a2:Int):Option (Int):=(if a2<(p0.length:Int) then Option.bind (Zu p0 a2) fun y3=>(Option.bind (Qeu y3 p1_0) fun x4=>((bif x4 then(some a2) else(rec1 (Qp (a2+1)))))) else(some (-1)))
def Qig (p0:List Zc)(p1_0:Xv):Option (Int):=(Xq (Qdu p0 p1_0) Ze 0)
def Qic (p0:List Zc)(p1_0:Xv):Option (Bool):=Option.bind (Qig p0 p1_0) fun x1=>((some (decide ((0:Int)≤x1))))
def Qax (p1:Zr)(p2:Xs)(a1:Bool):Option (Bool):=(bif a1 then(some (decide (p1.Minus=p2.Minus))) else Option.bind (Ez p1.Minus p1.Node) fun x2=>((bif x2 then Option.bind (Ez p2.Minus p1.Minus) fun x3=>((some x3)) else(some false))))
def Qf5 (p0:Xv)(p1:Zr)(p2:Xs):Option (Bool):=(if p1.Node≠p2.Node then(some false) else(if p0.kind=1#8 then(Qax p1 p2 true) else(Qax p1 p2 (decide (p2.Minus=0)))))
def Qaq (p2:Xs)(y3:Zr)(a5:Bool):Option (W2 × Bool):=(bif a5 then(some (y3.Key,true)) else Option.bind (Ev y3.Key y3.Minus p2.Minus) fun x6=>(Option.bind (Qan x6) fun x7=>((some (x7,true)))))
def Qar (p0:Xv)(p1:Xt)(p2:Xs)(rec1:(Int)→Option (W2 × Bool))(a2:Int):Option (W2 × Bool):=(if a2<(p1.Labels.length:Int) then Option.bind (Zu p1.Labels a2) fun y3=>(Option.bind (Qf5 p0 y3 p2) fun x4=>((bif (!x4) then(rec1 (Qp (a2+1))) else(if p0.kind=1#8 then(Qaq p2 y3 true) else(Qaq p2 y3 (decide (p2.Minus=0))))))) else(some (k0,false)))
def Qf2 (p0:Xv)(p1:Xt)(p2:Xs):Option (W2 × Bool):=(Xq (Qar p0 p1 p2) Ze 0)
def Qac (p1:Xt)(p2:Qq)(x1:Xv × Int)(rec2:(Int)→Option (W2 × Int))(a4:Int):Option (W2 × Int):=(if a4<(p2.Items.length:Int) then Option.bind (Zu p2.Items a4) fun y5=>(Option.bind (Qf2 x1.1 p1 y5.Subset) fun x6=>((bif x6.2 then(if Ki (Nx x6.1 y5.Box) (Xr 53#8) 0#64=p2.Check then(some (Nx x6.1 y5.Box,0)) else(rec2 (Qp (a4+1)))) else(rec2 (Qp (a4+1)))))) else(some (k0,6)))
def Rj (p1:Xt)(p2:Qq)(x1:Xv × Int)(a2:Bool):Option (W2 × Int):=(bif a2 then(some (k0,8)) else(Xq (Qac p1 p2 x1) Ze 0))
def Qet (p0:Xn)(p1:Xt)(p2:Qq):Option (W2 × Int):=Option.bind (Sf p0 ([]:List Xs)) fun x1=>((if x1.2≠0 then(some (k0,x1.2)) else(if(64:Int)<(p2.Items.length:Int) then(Rj p1 p2 x1 true) else(if p2.Base≠0#64 then(Rj p1 p2 x1 true) else(if(0:Int)<(p2.Points.length:Int) then(Rj p1 p2 x1 true) else(if p2.Box≠k0 then(Rj p1 p2 x1 true) else Option.bind (Qic p2.Items x1.1) fun x7=>((Rj p1 p2 x1 x7))))))))
end Go.Sx

end
section
set_option linter.unusedVariables false
set_option maxRecDepth 100000
namespace Go.Sx
open Go Go.RowKit
def Qf3 (p0:Xv)(p1:Int):Option (Xv × Int):=(some (p0,p1))
def Rn (p0:Xv)(p1:Int):Option (Int):=Option.bind (Rq p0) fun x1=>((some (Qp (x1+p1))))
def Sg (p0:Int):Option (Int):=(some (Qa2 .xor p0 1))
def Qau (x1:Int)(a2:Int)(rec1:(Int)→Option (List (Int × Int)))(s:Unit):Option (List (Int × Int)):=Option.bind (Sh a2 x1) fun x10=>((rec1 x10))
def Qaw (p1:Xv)(a2:Int)(e7:Int)(nx2:Unit→Option (List (Int × Int)))(s:Unit):Option (List (Int × Int)):=Option.bind (Sg e7) fun x8=>(Option.bind (Ab p1 (Xs.mk a2 x8)) fun x9=>((bif x9 then(yl (a2,x8) ((nx2 ()))) else(nx2 ()))))
def Qav (p1:Xv)(x1:Int)(rec1:(Int)→Option (List (Int × Int)))(a2:Int):Option (List (Int × Int)):=(if a2≠x1 then(if p1.kind=1#8 then Option.bind (Sh a2 x1) fun x3=>((yl (x3,0) (Option.bind (Sh a2 x1) fun x4=>((rec1 x4))))) else Option.bind (Cy a2 x1) fun x5=>(Option.bind (Cz x5.1 x5.2) fun l6=>((Vw (Qaw p1 a2) (Qau x1 a2 rec1) l6 ())))) else(some []))
def Qf4 (p1:Xv)(p2:Int):Option (List (Int × Int)):=Option.bind (Rn p1 p2) fun x1=>((yl (1,0) ((Xq (Qav p1 x1) Ze 1))))
def Mf (p0:Xv)(p1:Int):Option (Bool):=(if(0:Int)≤p1 then Option.bind (Rq p0) fun x1=>((some (decide (p1<x1)))) else(some false))
def Qaf (a7:List Zr)(nx1:(List Zr)→Option (Xt × Int))(e9:Int)(e10:Int)(a11:W2):Option (Xt × Int):=Option.bind (Yv 32 a7 [(Zr.mk e9 e10 a11)]) fun l12=>((nx1 l12))
def Qae (p2:Int)(s:List Zr):Option (Xt × Int):=match s with|a7=>(some ((Xt.mk p2 a7 (Qx.mk 0#64 0#64)),0))
def Qag (p0:W2)(x1:Xv × Int)(ee:Int × Int)(nx1:(List Zr)→Option (Xt × Int))(s:List Zr):Option (Xt × Int):=match ee with|(e9,e10)=>match s with|a7=>(if e10=0 then Option.bind (Qat x1.1 p0 (Xs.mk e9 0)) fun x13=>((Qaf a7 nx1 e9 e10 x13)) else Option.bind (Ey p0 e9) fun x14=>(Option.bind (Ev x14 e9 e10) fun x15=>((Qaf a7 nx1 e9 e10 x15))))
def Qev (p0:W2)(p1:Xn)(p2:Int):Option (Xt × Int):=Option.bind (Sf p1 ([]:List Xs)) fun x1=>((if x1.2≠0 then(some ((Xt.mk 0 [] (Qx.mk 0#64 0#64)),x1.2)) else Option.bind (Mf x1.1 p2) fun x2=>((bif (!x2) then(some ((Xt.mk 0 [] (Qx.mk 0#64 0#64)),2)) else Option.bind (Qf3 x1.1 p2) fun x3=>(Option.bind (Qf4 x3.1 x3.2) fun l4=>((Vw (Qag p0 x1) (Qae p2) l4 [])))))))
end Go.Sx

end
section
set_option linter.unusedVariables false
set_option maxRecDepth 100000
namespace Go.Sx
open Go Go.RowKit
noncomputable section
def Me (a2:Int)(rec1:(Int)→Option (Bool))(a4:Bool):Option (Bool):=(bif a4 then(some false) else(rec1 (Qp (a2+1))))
def Ro (p0:Xv)(p1:List Int)(rec1:(Int)→Option (Bool))(a2:Int):Option (Bool):=(if a2<(p1.length:Int) then Option.bind (Zu p1 a2) fun y3=>(Option.bind (Mf p0 y3) fun x5=>((bif (!x5) then(Me a2 rec1 true) else(if(0:Int)<a2 then Option.bind (Zu p1 (Qp (a2-1))) fun y6=>((Me a2 rec1 (decide (y3≤y6)))) else(Me a2 rec1 false))))) else(some true))
def Mc (p0:Xv)(p1:List Int):Option (Bool):=(Xq (Ro p0 p1) Ze 0)
def Re (p0:Int)(p1:Int)(p2:List Xs):Option (List Xs):=Option.bind (Yv 16 p2 [(Xs.mk p0 p1)]) fun l1=>((some l1))
def Ri (a5:Int)(rec1:(Int × List Int)→Option (List Xs × Int))(rec2:(Int × List Int)→Option (List Xs × Int))(s2:Int × List Int):Option (List Xs × Int):=match s2 with|(a11,a12)=>(if(0:Int)<a11 then Option.bind (Vs (un 1#64)) fun nn13=>((rec2 (Ls a11 nn13,Pe a12 a11))) else(rec1 (Qp (a5+1),a12)))
def Cu (a16:List Xs)(nx3:(List Xs)→Option (List Xs × Int))(k18:Int)(a20:Bool):Option (List Xs × Int):=(bif a20 then Option.bind (Sg k18) fun x21=>(Option.bind (Re x21 0 a16) fun x22=>((nx3 x22))) else(nx3 a16))
def Cw (nx3:(List Xs)→Option (List Xs × Int))(a26:Int)(a27:Int)(a28:List Xs):Option (List Xs × Int):=Option.bind (Re a27 a26 a28) fun x30=>((nx3 x30))
def Du (a16:List Xs)(nx3:(List Xs)→Option (List Xs × Int))(k18:Int)(a26:Int)(x31:Int)(a32:Bool):Option (List Xs × Int):=(bif a32 then Option.bind (Re k18 x31 a16) fun x33=>((Cw nx3 a26 x31 x33)) else(Cw nx3 a26 k18 a16))
def Nu (x1:Xv × Int)(a6:List Int)(a16:List Xs)(nx3:(List Xs)→Option (List Xs × Int))(k18:Int)(rec6:(Int)→Option (List Xs × Int))(a26:Int):Option (List Xs × Int):=(bif ((decide ((Qp (2*a26))∈a6)) != (decide ((Qp ((Qp (2*a26))+1))∈a6))) then(if ¬ ((Qp (a26*2))∈a6) then(rec6 (Qp ((Qp (a26*2))+1))) else(rec6 (Qp (a26*2)))) else(if a26=k18 then(nx3 a16) else Option.bind (Sj x1.1 k18 a26) fun x31=>((if x31≠0 then(if x1.1.kind=3#8 then Option.bind (Nv x1.1 k18) fun x34=>((Du a16 nx3 k18 a26 x31 (!x34))) else(Du a16 nx3 k18 a26 x31 false)) else(Du a16 nx3 k18 a26 x31 false)))))
def Sd (x1:Xv × Int)(a6:List Int)(a16:List Xs)(nx3:(List Xs)→Option (List Xs × Int))(k18:Int)(a24:Bool):Option (List Xs × Int):=(bif a24 then(nx3 a16) else(Xq (Nu x1 a6 a16 nx3 k18) Ze k18))
def Rf  (a16:List Xs):Option (List Xs × Int):=Option.bind (Ce Xs.Node a16) fun l19=>((some (l19,0)))
def Se (x1:Xv × Int)(a6:List Int)(k18:Int)(nx3:(List Xs)→Option (List Xs × Int))(a16:List Xs):Option (List Xs × Int):=(if x1.1.kind=1#8 then(if(1:Int)<k18 then Option.bind (Sg k18) fun x23=>((Cu a16 nx3 k18 (decide (¬ (x23∈a6))))) else(Cu a16 nx3 k18 false)) else(if(1:Int)<k18 then Option.bind (Sg k18) fun x35=>((Sd x1 a6 a16 nx3 k18 (decide (¬ (x35∈a6))))) else(Sd x1 a6 a16 nx3 k18 false)))
def Rh (p1:List Int)(x1:Xv × Int)(rec1:(Int × List Int)→Option (List Xs × Int))(s1:Int × List Int):Option (List Xs × Int):=match s1 with|(a5,a6)=>(if a5<(p1.length:Int) then Option.bind (Zu p1 a5) fun y7=>(Option.bind (Rn x1.1 y7) fun x8=>((Xq (Ri a5 rec1) Ze (x8,a6)))) else(Pj (Se x1 a6) Rf Ze a6 []))
def Ct (p0:Xn)(p1:List Int):Option (List Xs × Int):=Option.bind (Sf p0 ([]:List Xs)) fun x1=>((if x1.2≠0 then(some ([],x1.2)) else Option.bind (Mc x1.1 p1) fun x2=>((bif (!x2) then(some ([],2)) else(if(p1.length:Int)=0 then(some ([(Xs.mk 1 0)],0)) else(Xq (Rh p1 x1) Ze (0,[])))))))
end
end Go.Sx

end
section

end
section
set_option linter.unusedVariables false
set_option maxRecDepth 100000
namespace Go.Sx
open Go Go.RowKit
noncomputable section
structure Va where
 x:BitVec 64
 y:BitVec 64
deriving DecidableEq,Inhabited
def Va.cs (x:Va)  : List Value:=[wv x.x,wv x.y]
theorem Va.cs_ones (x:Va)   : Jn (Va.cs x )=true:=by simp only[Va.cs,List.cons_append,List.nil_append,kb,Jn,Hm,Hl,Hn,cond_true]
theorem Va.cs_inj {x y:Va}(h:Va.cs x=Va.cs y):x=y:=by
 have h0:x.x=y.x:=Rr (congrArg (fun l=>l[0]?) h)
 have h1:x.y=y.y:=Rr (congrArg (fun l=>l[1]?) h)
 cases x;cases y;simp only at *;subst h0;subst h1;rfl
theorem Va.ws (l:List Va):Ws 2 (l.map Va.cs):=Wk l (fun _=>rfl) (fun _=>rfl)
def Qcx (p0:BitVec 64)(rec2:(BitVec 64)→Option (Bool))(a3:BitVec 64):Option (Bool):=(if a3*a3≤p0 then Option.bind (Px p0 a3) fun x4=>((if x4=0#64 then(some false) else(rec2 (a3+1#64)))) else(some true))
def Qcw (p0:BitVec 64)(a1:Bool):Option (Bool):=(bif a1 then(some false) else(Xq (Qcx p0) Ze 2#64))
def Qcv (p0:BitVec 64):Option (Bool):=(if p0<2#64 then(Qcw p0 true) else(Qcw p0 (decide (1048575#64<p0))))
def Qcu (p2:BitVec 64)(rec1:(BitVec 64 × BitVec 64 × BitVec 64)→Option (BitVec 64))(s1:BitVec 64 × BitVec 64 × BitVec 64):Option (BitVec 64):=match s1 with|(a6,a7,a8)=>(if 0#64<a7 then(if a7 &&& 1#64=1#64 then Option.bind (Px (a8*a6) p2) fun x9=>(Option.bind (Px (a6*a6) p2) fun x10=>(Option.bind (Vs (un 1#64)) fun nn11=>((rec1 (x10,a7 >>> nn11,x9))))) else Option.bind (Px (a6*a6) p2) fun x12=>(Option.bind (Vs (un 1#64)) fun nn13=>((rec1 (x12,a7 >>> nn13,a8))))) else(some a8))
def Qct (p0:BitVec 64)(p1:BitVec 64)(p2:BitVec 64):Option (BitVec 64):=Option.bind (Px 1#64 p2) fun x1=>(Option.bind (Px p0 p2) fun x2=>((Xq (Qcu p2) Ze (x2,p1,x1))))
def Fg (a1:Bool):Option (Int):=(bif a1 then(some 13) else(some 0))
def Qhd (p0:Vi):Option (Int):=Option.bind (Qcv p0.P) fun x2=>((bif (!x2) then(Fg true) else Option.bind (Qcv p0.Q) fun x3=>((bif (!x3) then(Fg true) else Option.bind (Px (p0.P-1#64) p0.Q) fun x4=>((if x4≠0#64 then(Fg true) else(if p0.G<2#64 then(Fg true) else(if p0.P≤p0.G then(Fg true) else Option.bind (Qct p0.G p0.Q p0.P) fun x5=>((Fg (decide (x5≠1#64))))))))))))
def Uu (p0:Xn):Option (Bool):=(if p0.Kind=4#8 then(if(0:Int)≤p0.Depth then(if p0.Depth≤6 then(if(1:Int)≤p0.Degree then(if p0.Degree≤8 then Option.bind (Qhd p0.Group) fun x1=>((if x1=0 then Option.bind (Vs p0.Depth) fun nn2=>((some (decide (wd (Qp ((Hb 1 nn2)+p0.Degree))<p0.Group.Q)))) else(some false))) else(some false)) else(some false)) else(some false)) else(some false)) else(some false))
def Qaa (p0:W2)(rec1:(Int × BitVec 64 × BitVec 64)→Option (Va))(s1:Int × BitVec 64 × BitVec 64):Option (Va):=match s1 with|(a4,a5,a6)=>(if a4<8 then Option.bind (Vs (un 8#64)) fun nn7=>(Option.bind (Zu (Jz p0) a4) fun y8=>(Option.bind (Vs (un 8#64)) fun nn9=>(Option.bind (Zu (Jz p0) (Qp (8+a4))) fun y10=>((rec1 (Qp (a4+1),(a5 <<< nn7) ||| (y8.setWidth 64),(a6 <<< nn9) ||| (y10.setWidth 64))))))) else(some (Va.mk a5 a6)))
def Qeo (p0:W2):Option (Va):=(Xq (Qaa p0) Ze (0,0#64,0#64))
def Qa4 (p0:W2)(p1:BitVec 64)(p2:BitVec 64):Option (BitVec 64):=(if p2=0#64 then(some 0#64) else Option.bind (Qeo (Ki p0 (Xr 3#8) p1)) fun x1=>(Option.bind (Px x1.x p2) fun x2=>((some x2))))
def Qdh (p0:W2)(p1:Xn)(l1:List (BitVec 64))(rec1:(List (BitVec 64) × Int)→Option (List (BitVec 64)))(s1:List (BitVec 64) × Int):Option (List (BitVec 64)):=match s1 with|(a5,a7)=>(if a7<(l1.length:Int) then Option.bind (Qa4 (Ki p0 (Xr 40#8) 0#64) (wd a7) p1.Group.Q) fun x8=>(Option.bind (Zu a5 a7) fun y9=>((rec1 (a5.set a7.toNat x8,Qp (a7+1))))) else(some a5))
def Qdg (p0:W2)(p1:Xn):Option (List (BitVec 64)):=Option.bind (Bo 8 (Qp (p1.Degree+1)) 0#64) fun l1=>((Xq (Qdh p0 p1 l1) Ze (l1,0)))
def Qi8 (p0:List (BitVec 64)):Option (List (BitVec 64)):=(some p0)
def Qds (p1:List (BitVec 64))(rec1:(Int)→Option (List (Int × BitVec 64)))(a2:Int):Option (List (Int × BitVec 64)):=(if(0:Int)≤a2 then Option.bind (Zu p1 a2) fun y3=>((yl (a2,y3) ((rec1 (Qp (a2-1)))))) else(some []))
def Qi7 (p1:List (BitVec 64)):Option (List (Int × BitVec 64)):=(Xq (Qds p1) Ze (Qp ((p1.length:Int)-1)))
def Qd9 (p0:BitVec 64)(p1:List (BitVec 64))(rec1:(BitVec 64 × Int)→Option (BitVec 64))(s1:BitVec 64 × Int):Option (BitVec 64):=match s1 with|(a3,a4)=>(if a4<(p1.length:Int) then Option.bind (Zu p1 a4) fun y5=>(Option.bind (Px (a3*y5) p0) fun x6=>((rec1 (x6,Qp (a4+1))))) else(some a3))
def Bu (p0:BitVec 64)(p1:List (BitVec 64)):Option (BitVec 64):=(Xq (Qd9 p0 p1) Ze (1#64,0))
def Qde  (s:BitVec 64):Option (BitVec 64):=match s with|a4=>(some a4)
def Qdf (p1:BitVec 64)(p2:BitVec 64)(ee:Int × BitVec 64)(nx1:(BitVec 64)→Option (BitVec 64))(s:BitVec 64):Option (BitVec 64):=match ee with|(e5,e6)=>match s with|a4=>Option.bind (Bu p1 [a4,p2]) fun x7=>(Option.bind (Px (x7+e6) p1) fun x8=>((nx1 x8)))
def Qdd (p0:List (BitVec 64))(p1:BitVec 64)(p2:BitVec 64):Option (BitVec 64):=Option.bind (Qi8 p0) fun x1=>(Option.bind (Qi7 x1) fun l2=>((Vw (Qdf p1 p2) Qde l2 0#64)))
def Qd6 (p0:W2)(p1:Xn)(p2:Int)(a2:Bool):Option (Xt × Int):=(bif a2 then(some ((Xt.mk 0 [] (Qx.mk 0#64 0#64)),2)) else Option.bind (Qdg p0 p1) fun x3=>(Option.bind (Qdd x3 p1.Group.Q ((wd p2)+1#64)) fun x4=>((some ((Xt.mk p2 [] (Qx.mk ((wd p2)+1#64) x4)),0)))))
def Qhs (p0:W2)(p1:Xn)(p2:Int):Option (Xt × Int):=Option.bind (Uu p1) fun x1=>((bif (!x1) then(some ((Xt.mk 0 [] (Qx.mk 0#64 0#64)),30)) else(if p2<0 then(Qd6 p0 p1 p2 true) else Option.bind (Vs p1.Depth) fun nn5=>((Qd6 p0 p1 p2 (decide (Hb 1 nn5≤p2)))))))
def Up (p0:Xn):Option (Int):=Option.bind (Uu p0) fun x1=>((bif (!x1) then(some 30) else(some 0)))
end
end Go.Sx

end
section
set_option linter.unusedVariables false
set_option maxRecDepth 100000
namespace Go.Sx
open Go Go.RowKit
noncomputable section
def Qcs (p0:BitVec 64):Option (Bool):=(if 1#64≤p0 then(some (decide (p0<4294967296#64))) else(some false))
def Qhf (p0:BitVec 64)(p1:BitVec 64)(p2:BitVec 64):Option (BitVec 64 × Int):=Option.bind (Qcs p2) fun x1=>((bif (!x1) then(some (0#64,2)) else Option.bind (Qct p0 p1 p2) fun x2=>((some (x2,0)))))
def Ur (p0:Xn)(p1:BitVec 64)(p2:BitVec 64):Option (BitVec 64):=Option.bind (Qhf p1 p2 p0.Group.P) fun x1=>((some x1.1))
def Qdc (p0:BitVec 64):Option (W2):=(some (Ki k0 (Xr 42#8) p0))
def Qht (p0:Qx)(p1:Qx):Option (Bool):=(some (decide (p0.X=p1.X)))
def Qdt (p0:List Qx)(p1_0:Qx)(rec1:(Int)→Option (Int))(a2:Int):Option (Int):=(if a2<(p0.length:Int) then Option.bind (Zu p0 a2) fun y3=>(Option.bind (Qht y3 p1_0) fun x4=>((bif x4 then(some a2) else(rec1 (Qp (a2+1)))))) else(some (-1)))
def Qif (p0:List Qx)(p1_0:Qx):Option (Int):=(Xq (Qdt p0 p1_0) Ze 0)
def Qie (p0:List Qx)(p1_0:Qx):Option (Bool):=Option.bind (Qif p0 p1_0) fun x1=>((some (decide ((0:Int)≤x1))))
def Qd8 (p0:List Qx)(rec1:(Int)→Option (Bool))(a2:Int):Option (Bool):=(if a2<(p0.length:Int) then Option.bind (Zu p0 a2) fun y3=>(Option.bind (Cd p0 0 a2) fun l4=>(Option.bind (Qie l4 y3) fun x5=>((bif x5 then(some false) else(rec1 (Qp (a2+1))))))) else(some true))
def Qd7 (p0:List Qx):Option (Bool):=(Xq (Qd8 p0) Ze 0)
def Qhv (p0:BitVec 64)(p1:BitVec 64)(p2:BitVec 64):Option (BitVec 64):=Option.bind (Px ((p1+p0)-p2) p0) fun x1=>((some x1))
def Qcr (p1:BitVec 64)(rec1:(Int × Int × Int × Int)→Option (BitVec 64 × Int))(s1:Int × Int × Int × Int):Option (BitVec 64 × Int):=match s1 with|(a7,a8,a9,a10)=>(if a8≠0 then Option.bind (Tc a7 a8) fun x11=>((rec1 (a8,Qp (a7-(Qp (x11*a8))),a10,Qp (a9-(Qp (x11*a10)))))) else(if a7≠1 then(some (0#64,10)) else Option.bind (Wz a9 (Qp (un p1))) fun x12=>(Option.bind (Wz (Qp (x12+(Qp (un p1)))) (Qp (un p1))) fun x13=>((some (wd x13,0))))))
def Qhe (p0:BitVec 64)(p1:BitVec 64):Option (BitVec 64 × Int):=Option.bind (Qcs p1) fun x1=>((bif (!x1) then(some (0#64,2)) else Option.bind (Px p0 p1) fun x2=>((Xq (Qcr p1) Ze (Qp (un p1),Qp (un x2),0,1)))))
def Qhu (p0:BitVec 64)(p1:BitVec 64)(p2:BitVec 64):Option (BitVec 64):=Option.bind (Qhe p2 p0) fun x1=>(Option.bind (Bu p0 [p1,x1.1]) fun x2=>((some x2)))
end
end Go.Sx

end
section
set_option linter.unusedVariables false
set_option maxRecDepth 100000
namespace Go.Sx
open Go Go.RowKit
noncomputable section
def Iy (p0:BitVec 64)(p1:Xn)(p2:Qq)(p3:List (BitVec 64))(p4:BitVec 64):Option (BitVec 64):=Option.bind (Qdd p3 p4 p0) fun x1=>(Option.bind (Ur p1 p2.Base x1) fun x2=>((some x2)))
def Uq (a3:Int)(rec1:(Int)→Option (Qq × Int))(a5:Bool):Option (Qq × Int):=(bif a5 then(some ((Qq.mk [] 0#64 [] k0 k0),2)) else(rec1 (Qp (a3+1))))
def Qd5 (p1:Xn)(p3:W2)(a9:List (BitVec 64))(a14:BitVec 64)(rec6:(Int × List Qx)→Option (Qq × Int))(s6:Int × List Qx):Option (Qq × Int):=match s6 with|(a30,a31)=>(if(a31.length:Int)<p1.Degree then Option.bind (Iy (wd a30) p1 (Qq.mk [] a14 a31 k0 (Ki p3 (Xr 53#8) 0#64)) a9 p1.Group.Q) fun x33=>(Option.bind (Yv 16 a31 [(Qx.mk (wd a30) x33)]) fun l34=>((rec6 (Qp (a30+1),l34)))) else Option.bind (Iy 0#64 p1 (Qq.mk [] a14 a31 k0 (Ki p3 (Xr 53#8) 0#64)) a9 p1.Group.Q) fun x35=>(Option.bind (Qdc x35) fun x36=>((some ((Qq.mk [] a14 a31 (Pp x36 p3) (Ki p3 (Xr 53#8) 0#64)),0)))))
def Qd4 (p1:Xn)(p2:List Int)(p3:W2)(a9:List (BitVec 64))(a14:BitVec 64)(rec5:(Int × List Qx)→Option (Qq × Int))(s5:Int × List Qx):Option (Qq × Int):=match s5 with|(a20,a21)=>(if a20<(p2.length:Int) then Option.bind (Zu p2 a20) fun y23=>(Option.bind (Iy (wd (Qp (y23+1))) p1 (Qq.mk [] a14 a21 k0 (Ki p3 (Xr 53#8) 0#64)) a9 p1.Group.Q) fun x24=>(Option.bind (Yv 16 a21 [(Qx.mk (wd (Qp (y23+1))) x24)]) fun l25=>((rec5 (Qp (a20+1),l25))))) else Option.bind (Vs p1.Depth) fun nn26=>((Xq (Qd5 p1 p3 a9 a14) Ze (Qp ((Hb 1 nn26)+1),a21))))
def Qhr (p1:Xn)(p2:List Int)(p3:W2)(a9:List (BitVec 64))(a14:BitVec 64):Option (Qq × Int):=(Xq (Qd4 p1 p2 p3 a9 a14) Ze (0,[]))
def Qhq (p0:W2)(p1:Xn)(p2:List Int)(p3:W2)(p4:BitVec 64)(a9:List (BitVec 64)):Option (Qq × Int):=Option.bind (Qa4 (Ki p0 (Xr 41#8) p4) 0#64 (p1.Group.Q-1#64)) fun x12=>(Option.bind (Ur p1 p1.Group.G (1#64+x12)) fun x37=>((Qhr p1 p2 p3 a9 x37)))
def Qd3 (p0:W2)(p1:Xn)(p2:List Int)(p3:W2)(p4:BitVec 64)(rec1:(Int)→Option (Qq × Int))(a3:Int):Option (Qq × Int):=(if a3<(p2.length:Int) then Option.bind (Zu p2 a3) fun y4=>((if y4<0 then(Uq a3 rec1 true) else Option.bind (Vs p1.Depth) fun nn6=>((if Hb 1 nn6≤y4 then(Uq a3 rec1 true) else(if(0:Int)<a3 then Option.bind (Zu p2 (Qp (a3-1))) fun y7=>((Uq a3 rec1 (decide (y4≤y7)))) else(Uq a3 rec1 false)))))) else(if p1.Degree<(p2.length:Int) then(some ((Qq.mk [] 0#64 [] k0 k0),4)) else Option.bind (Qdg p0 p1) fun x39=>((Qhq p0 p1 p2 p3 p4 x39))))
def Qho (p0:W2)(p1:Xn)(p2:List Int)(p3:W2)(p4:BitVec 64):Option (Qq × Int):=Option.bind (Uu p1) fun x1=>((bif (!x1) then(some ((Qq.mk [] 0#64 [] k0 k0),30)) else(Xq (Qd3 p0 p1 p2 p3 p4) Ze 0)))
end
end Go.Sx

end
section
set_option linter.unusedVariables false
set_option maxRecDepth 100000
namespace Go.Sx
open Go Go.RowKit
noncomputable section
def Qia (p0:List Qx):Option (List Qx):=Option.bind (Yv 16 [] p0) fun l1=>((some l1))
def Qda (p0:Xn)(p1:Xt)(a2:Bool):Option (Bool):=(bif a2 then(some (decide (p1.Share.Y<p0.Group.Q))) else(some false))
def Qdb (p0:Xn)(p1:Xt)(a3:List Qx)(a5:Int)(rec4:(Bool × Int)→Option (Bool))(s4:Bool × Int):Option (Bool):=match s4 with|(a8,a9)=>(if a9<a5 then Option.bind (Zu a3 a9) fun y10=>((bif (!a8) then(Qda p0 p1 a8) else(if 1#64≤y10.X then(if y10.X<p0.Group.Q then(if 1#64≤y10.Y then(rec4 (decide (y10.Y<p0.Group.P),Qp (a9+1))) else(rec4 (false,Qp (a9+1)))) else(rec4 (false,Qp (a9+1)))) else(rec4 (false,Qp (a9+1)))))) else(Qda p0 p1 a8))
def Qhx (p0:Xn)(p1:Xt)(a1:Bool)(a3:List Qx)(a5:Int):Option (Bool):=(Xq (Qdb p0 p1 a3 a5) Ze (a1,0))
def Bv (p0:Xn)(p1:Xt)(p2:Qq)(a1:Bool):Option (Bool):=Option.bind (Qia p2.Points) fun x11=>(Option.bind (Yv 16 x11 [(Qx.mk p1.Share.X 1#64)]) fun l12=>((Qhx p0 p1 a1 l12 (l12.length:Int))))
def Qhw (p0:Xn)(p1:Xt)(p2:Qq):Option (Bool):=(if(p2.Items.length:Int)=0 then(if 1#64≤p2.Base then(if p2.Base<p0.Group.P then(if(p2.Points.length:Int)=p0.Degree then Option.bind (Qd7 p2.Points) fun x15=>((Bv p0 p1 p2 x15)) else(Bv p0 p1 p2 false)) else(Bv p0 p1 p2 false)) else(Bv p0 p1 p2 false)) else(Bv p0 p1 p2 false))
def Qd2 (p0:Xn)(l4:List Qx)(a8:BitVec 64)(a9:Int)(rec1:(BitVec 64 × Int)→Option (W2 × Int))(y10:Qx)(rec2:(BitVec 64 × BitVec 64 × Int)→Option (W2 × Int))(s2:BitVec 64 × BitVec 64 × Int):Option (W2 × Int):=match s2 with|(a14,a15,a16)=>(if a16<(l4.length:Int) then Option.bind (Zu l4 a16) fun y17=>((if a16≠a9 then Option.bind (Bu p0.Group.Q [a14,y17.X]) fun x18=>(Option.bind (Qhv p0.Group.Q y17.X y10.X) fun x19=>(Option.bind (Bu p0.Group.Q [a15,x19]) fun x20=>((rec2 (x18,x20,Qp (a16+1)))))) else(rec2 (a14,a15,Qp (a16+1))))) else Option.bind (Qhu p0.Group.Q a14 a15) fun x21=>(Option.bind (Ur p0 y10.Y x21) fun x22=>(Option.bind (Bu p0.Group.P [a8,x22]) fun x23=>((rec1 (x23,Qp (a9+1)))))))
def Qhn (p2:Qq)(a25:W2):Option (W2 × Int):=(if Ki a25 (Xr 53#8) 0#64≠p2.Check then(some (k0,6)) else(some (a25,0)))
def Qd1 (p0:Xn)(p2:Qq)(l4:List Qx)(rec1:(BitVec 64 × Int)→Option (W2 × Int))(s1:BitVec 64 × Int):Option (W2 × Int):=match s1 with|(a8,a9)=>(if a9<(l4.length:Int) then Option.bind (Zu l4 a9) fun y10=>((Xq (Qd2 p0 l4 a8 a9 rec1 y10) Ze (1#64,1#64,0))) else Option.bind (Qdc a8) fun x26=>((Qhn p2 (Nx x26 p2.Box))))
def Qhm (p0:Xn)(p1:Xt)(p2:Qq):Option (W2 × Int):=Option.bind (Uu p0) fun x1=>((bif (!x1) then(some (k0,30)) else Option.bind (Qhw p0 p1 p2) fun x2=>((bif (!x2) then(some (k0,8)) else Option.bind (Ur p0 p2.Base p1.Share.Y) fun x3=>(Option.bind (Yv 16 [(Qx.mk p1.Share.X x3)] p2.Points) fun l4=>(Option.bind (Qd7 l4) fun x5=>((bif (!x5) then(some (k0,6)) else(Xq (Qd1 p0 p2 l4) Ze (1#64,0))))))))))
end
end Go.Sx

end
section

end
section

end
section
set_option linter.unusedVariables false
set_option maxRecDepth 100000
namespace Go.Sx
open Go Go.RowKit
noncomputable section
def Qbr (p0:W2)(p1:Xn)(p2:Int)(a1:Bool):Option (Xt × Int):=(bif a1 then(some ((Xt.mk 0 [] (Qx.mk 0#64 0#64)),2)) else(if Xr p1.Kind=1∨Xr p1.Kind=2∨Xr p1.Kind=3 then Option.bind (Sc p1) fun x2=>((if x2≠0 then(some ((Xt.mk 0 [] (Qx.mk 0#64 0#64)),x2)) else Option.bind (Qev p0 p1 p2) fun x3=>((some (x3.1,x3.2))))) else(if Xr p1.Kind=4 then Option.bind (Up p1) fun x4=>((if x4≠0 then(some ((Xt.mk 0 [] (Qx.mk 0#64 0#64)),x4)) else Option.bind (Qhs p0 p1 p2) fun x5=>((some (x5.1,x5.2))))) else none)))
def Qg4 (p0:W2)(p1:Xn)(p2:Int):Option (Xt × Int):=(if p1.Kind<1#8 then(Qbr p0 p1 p2 true) else(Qbr p0 p1 p2 (decide ((5:Int)≤Xr p1.Kind))))
def Qbe (p0:Xn)(a1:Bool):Option (Int):=(bif a1 then(some 2) else(if Xr p0.Kind=1∨Xr p0.Kind=2∨Xr p0.Kind=3 then Option.bind (Sc p0) fun x2=>((some x2)) else(if Xr p0.Kind=4 then Option.bind (Up p0) fun x3=>((some x3)) else none)))
def Qbd (p0:Xn):Option (Int):=(if p0.Kind<1#8 then(Qbe p0 true) else(Qbe p0 (decide ((5:Int)≤Xr p0.Kind))))
def Rz (p0:W2)(p1:Int):Option (W2):=(some (Ki p0 (Xr 50#8) (wd p1)))
def Qbw (p0:W2)(p1:Int):Option (W2):=(some (Ki p0 (Xr 51#8) (wd p1)))
end
end Go.Sx

end
section
set_option linter.unusedVariables false
set_option maxRecDepth 100000
namespace Go.Sx
open Go Go.RowKit
noncomputable section
structure Zi where
 Epoch:Int
 Word:Int
 Early:Int
 Drift:Int
 Delay:Int
deriving DecidableEq,Inhabited
def Zi.cs (x:Zi)  : List Value:=[.int .i64 x.Epoch,.int .i64 x.Word,.int .i64 x.Early,.int .i64 x.Drift,.int .i64 x.Delay]
theorem Zi.cs_ones (x:Zi)   : Jn (Zi.cs x )=true:=by simp only[Zi.cs,List.cons_append,List.nil_append,kb,Jn,Hm,Hl,Hn,cond_true]
theorem Zi.cs_inj {x y:Zi}(h:Zi.cs x=Zi.cs y):x=y:=by
 have h0:x.Epoch=y.Epoch:=Ht (congrArg (fun l=>l[0]?) h)
 have h1:x.Word=y.Word:=Ht (congrArg (fun l=>l[1]?) h)
 have h2:x.Early=y.Early:=Ht (congrArg (fun l=>l[2]?) h)
 have h3:x.Drift=y.Drift:=Ht (congrArg (fun l=>l[3]?) h)
 have h4:x.Delay=y.Delay:=Ht (congrArg (fun l=>l[4]?) h)
 cases x;cases y;simp only at *;subst h0;subst h1;subst h2;subst h3;subst h4;rfl
theorem Zi.ws (l:List Zi):Ws 5 (l.map Zi.cs):=Wk l (fun _=>rfl) (fun _=>rfl)
structure Qo where
 Kind:BitVec 8
 Epoch:Int
 Head:Qq
 Low:BitVec 8
 Number:BitVec 64
 Data:List (BitVec 8)
 Mac:W2
deriving DecidableEq,Inhabited
def Qo.cs (x:Qo)(v0:Value)(v1:Value)(v2:Value):List Value:=[bv x.Kind,.int .i64 x.Epoch,v0,wv x.Head.Base,v1]++(kb x.Head.Box++(kb x.Head.Check++([bv x.Low,wv x.Number,v2]++(kb x.Mac))))
theorem Qo.cs_ones (x:Qo)(v0:Value)(v1:Value)(v2:Value)(h0:oneB v0=true)(h1:oneB v1=true)(h2:oneB v2=true):Jn (Qo.cs x v0 v1 v2)=true:=by simp only[Qo.cs,List.cons_append,List.nil_append,kb,Jn,Hm,Hl,Hn,cond_true,h0,h1,h2]
structure Ku where
 out:List (BitVec 8)
deriving DecidableEq,Inhabited
def Ku.cs (x:Ku)(v0:Value):List Value:=[v0]
theorem Ku.cs_ones (x:Ku)(v0:Value)(h0:oneB v0=true):Jn (Ku.cs x v0)=true:=by simp only[Ku.cs,List.cons_append,List.nil_append,kb,Jn,Hm,Hl,Hn,cond_true,h0]
structure Xw where
 Full:Bool
 Epoch:Int
 Key:W2
deriving DecidableEq,Inhabited
def Xw.cs (x:Xw)  : List Value:=[.bool x.Full,.int .i64 x.Epoch]++(kb x.Key)
theorem Xw.cs_ones (x:Xw)   : Jn (Xw.cs x )=true:=by simp only[Xw.cs,List.cons_append,List.nil_append,kb,Jn,Hm,Hl,Hn,cond_true]
theorem Xw.cs_inj {x y:Xw}(h:Xw.cs x=Xw.cs y):x=y:=by
 have h0:x.Full=y.Full:=Qp4 (congrArg (fun l=>l[0]?) h)
 have h1:x.Epoch=y.Epoch:=Ht (congrArg (fun l=>l[1]?) h)
 have h2:x.Key=y.Key:=Dh (congrArg (fun l=>(l.drop 2).take 16) h)
 cases x;cases y;simp only at *;subst h0;subst h1;subst h2;rfl
theorem Xw.ws (l:List Xw):Ws 18 (l.map Xw.cs):=Wk l (fun _=>rfl) (fun _=>rfl)
structure Jg where
 a0:Xw
 a1:Xw
deriving DecidableEq,Inhabited
def Jg.cs (x:Jg)  : List Value:=[.bool x.a0.Full,.int .i64 x.a0.Epoch]++(kb x.a0.Key++([.bool x.a1.Full,.int .i64 x.a1.Epoch]++(kb x.a1.Key)))
theorem Jg.cs_ones (x:Jg)   : Jn (Jg.cs x )=true:=by simp only[Jg.cs,List.cons_append,List.nil_append,kb,Jn,Hm,Hl,Hn,cond_true]
theorem Jg.cs_inj {x y:Jg}(h:Jg.cs x=Jg.cs y):x=y:=by
 have h0:x.a0=y.a0:=Xw.cs_inj (congrArg (fun l=>(l.drop 0).take 18) h)
 have h1:x.a1=y.a1:=Xw.cs_inj (congrArg (fun l=>(l.drop 18).take 18) h)
 cases x;cases y;simp only at *;subst h0;subst h1;rfl
theorem Jg.ws (l:List Jg):Ws 36 (l.map Jg.cs):=Wk l (fun _=>rfl) (fun _=>rfl)
structure Xl where
 Secret:Xt
 Ahead:Int
 Slots:Jg
deriving DecidableEq,Inhabited
def Xl.cs (x:Xl)(v0:Value):List Value:=[.int .i64 x.Secret.Receiver,v0,wv x.Secret.Share.X,wv x.Secret.Share.Y,.int .i64 x.Ahead,.bool x.Slots.a0.Full,.int .i64 x.Slots.a0.Epoch]++(kb x.Slots.a0.Key++([.bool x.Slots.a1.Full,.int .i64 x.Slots.a1.Epoch]++(kb x.Slots.a1.Key)))
theorem Xl.cs_ones (x:Xl)(v0:Value)(h0:oneB v0=true):Jn (Xl.cs x v0)=true:=by simp only[Xl.cs,List.cons_append,List.nil_append,kb,Jn,Hm,Hl,Hn,cond_true,h0]
def Rw (a2:Bool):Option (Int):=(bif a2 then(some 50) else(some 0))
def Rv (p0:Zi)(a1:Bool):Option (Int):=(bif a1 then(some 50) else(if Gf (Gf p0.Early p0.Drift) p0.Delay<0 then(Rw true) else(if Qp (3*p0.Word)≤p0.Drift then(Rw true) else(if Qp (3*p0.Word)≤p0.Delay then(Rw true) else(if Qp (3*p0.Word)≤Qp ((Qp (2*p0.Drift))+p0.Delay) then(Rw true) else(Rw (decide (Qp (p0.Epoch-p0.Delay)<p0.Early))))))))
def Sn (p0:Zi):Option (Int):=(if p0.Word<1 then(Rv p0 true) else(if(1000:Int)<p0.Word then(Rv p0 true) else(if p0.Epoch<p0.Word then(Rv p0 true) else(if Qp (1000*p0.Word)<p0.Epoch then(Rv p0 true) else Option.bind (Wz p0.Epoch p0.Word) fun x3=>((Rv p0 (decide (x3≠0))))))))
def Tu (p0:Int):Option (Bool):=(if(0:Int)≤p0 then(some (decide (p0≤1099511627776))) else(some false))
def Qg1 (p0:Zi):Option (Int):=(some p0.Epoch)
def Qg5 (p0:Zi)(p1:Int):Option (Int × Int):=Option.bind (Sn p0) fun x1=>((if x1≠0 then(some (0,x1)) else Option.bind (Tu p1) fun x2=>((bif (!x2) then(some (0,2)) else Option.bind (Qg1 p0) fun x3=>(Option.bind (Tc p1 x3) fun x4=>((some (x4,0))))))))
def Qbj (p0:Zi)(p1:Int):Option (Int × Int):=Option.bind (Qg5 p0 p1) fun x1=>((some (x1.1,x1.2)))
def Qg3 (p0:Zi):Option (Int):=(some p0.Word)
def Qg6 (p0:Zi)(p1:Int):Option (Int × Int):=Option.bind (Sn p0) fun x1=>((if x1≠0 then(some (0,x1)) else Option.bind (Tu p1) fun x2=>((bif (!x2) then(some (0,2)) else Option.bind (Qg3 p0) fun x3=>(Option.bind (Tc p1 x3) fun x4=>((some (x4,0))))))))
def Qbo (p0:Zi)(p1:Int):Option (Int × Int):=Option.bind (Qg6 p0 p1) fun x1=>((some (x1.1,x1.2)))
def Qfz (p0:Zi)(p1:Int):Option (List Int × Int):=Option.bind (Qbj p0 p1) fun x1=>((if x1.2≠0 then(some ([],x1.2)) else(if Qp ((Qp ((Qp (x1.1+1))*p0.Epoch))-p0.Early)≤p1 then Option.bind (Yv 8 [x1.1] [Qp (x1.1+1)]) fun l2=>((some (l2,0))) else(some ([x1.1],0)))))
def Qc1 (p0:Int):Option (Bool):=(if((-1099511627776):Int)≤p0 then(some (decide (p0≤2199023255552))) else(some false))
def Qc7 (p0:Zi)(p1:Int):Option (Int × Int):=(some (Iv (Qp ((Qp (p1-p0.Drift))-p0.Delay)) 0,Qp (p1+p0.Drift)))
def Qc3 (p0:Zi)(p1:Int)(p2:BitVec 8):Option (Int × Bool):=Option.bind (Qc7 p0 p1) fun x1=>((if x1.2<0 then(some (0,false)) else Option.bind (Tc x1.1 p0.Word) fun x2=>(Option.bind (Wz x2 4) fun x3=>(Option.bind (Wz (Qp ((Qp ((Xr p2)-x3))+4)) 4) fun x4=>(Option.bind (Tc x1.2 p0.Word) fun x5=>((some (Qp (x2+x4),decide (Qp (x2+x4)≤x5)))))))))
def Qbp (p0:Zi)(p1:Int)(p2:BitVec 8)(a2:Bool):Option (Int × Int):=(bif a2 then(some (0,2)) else Option.bind (Qc3 p0 p1 p2) fun x3=>((bif (!x3.2) then(some (0,51)) else(some (x3.1,0)))))
def Mv (p0:Zi)(p1:Int)(p2:BitVec 8):Option (Int × Int):=Option.bind (Sn p0) fun x1=>((if x1≠0 then(some (0,x1)) else Option.bind (Qc1 p1) fun x4=>((bif (!x4) then(Qbp p0 p1 p2 true) else(Qbp p0 p1 p2 (decide (3#8<p2)))))))
def Qc8 (p0:Zi)(p1:Int)(p2:Int):Option (Bool):=Option.bind (Qc7 p0 p1) fun x1=>((if(0:Int)≤x1.2 then Option.bind (Tc x1.1 p0.Epoch) fun x2=>((if x2≤p2 then(some (decide (Qp ((Qp (p2*p0.Epoch))-p0.Early)≤x1.2))) else(some false))) else(some false)))
def Qbk (p0:Zi)(p1:Int)(p2:Int)(a2:Bool):Option (Bool × Int):=(bif a2 then(some (false,2)) else Option.bind (Qc8 p0 p1 p2) fun x3=>((some (x3,0))))
def Mt (p0:Zi)(p1:Int)(p2:Int):Option (Bool × Int):=Option.bind (Sn p0) fun x1=>((if x1≠0 then(some (false,x1)) else Option.bind (Qc1 p1) fun x4=>((bif (!x4) then(Qbk p0 p1 p2 true) else Option.bind (Tu p2) fun x5=>((Qbk p0 p1 p2 (!x5)))))))
def My (p0:W2)(p1:Xn)(p2:List Int)(p3:W2)(p4:BitVec 64):Option (Qq × Int):=Option.bind (Ct p1 p2) fun x1=>((if x1.2≠0 then(some ((Qq.mk [] 0#64 [] k0 k0),x1.2)) else Option.bind (Eu p0 p1 x1.1 p3) fun x2=>((some (x2.1,x2.2)))))
def Aq (p0:W2)(p1:Xn)(p2:Int)(p3:List Int)(a1:Bool):Option (Qq × Int):=(bif a1 then(some ((Qq.mk [] 0#64 [] k0 k0),2)) else(if Xr p1.Kind=1∨Xr p1.Kind=2∨Xr p1.Kind=3 then Option.bind (Sc p1) fun x2=>((if x2≠0 then(some ((Qq.mk [] 0#64 [] k0 k0),x2)) else Option.bind (Tu p2) fun x3=>((bif (!x3) then(some ((Qq.mk [] 0#64 [] k0 k0),2)) else Option.bind (Rz p0 p2) fun x4=>(Option.bind (My p0 p1 p3 x4 (wd p2)) fun x5=>((some (x5.1,x5.2)))))))) else(if Xr p1.Kind=4 then Option.bind (Up p1) fun x6=>((if x6≠0 then(some ((Qq.mk [] 0#64 [] k0 k0),x6)) else Option.bind (Tu p2) fun x7=>((bif (!x7) then(some ((Qq.mk [] 0#64 [] k0 k0),2)) else Option.bind (Rz p0 p2) fun x8=>(Option.bind (Qho p0 p1 p3 x8 (wd p2)) fun x9=>((some (x9.1,x9.2)))))))) else none)))
def Ap (p0:W2)(p1:Xn)(p2:Int)(p3:List Int):Option (Qq × Int):=(if p1.Kind<1#8 then(Aq p0 p1 p2 p3 true) else(Aq p0 p1 p2 p3 (decide ((5:Int)≤Xr p1.Kind))))
def Qc9 (p1:BitVec 64)(rec1:(Int × List (BitVec 8))→Option (Ku))(s1:Int × List (BitVec 8)):Option (Ku):=match s1 with|(a4,a5)=>(if(0:Int)≤a4 then Option.bind (Vs (Qp (8*a4))) fun nn7=>(Option.bind (Yv 1 a5 [(p1 >>> nn7).setWidth 8]) fun l8=>((rec1 (Qp (a4-1),l8)))) else(some (Ku.mk a5)))
def Pr (p0:Ku)(p1:BitVec 64)(p2:Int):Option (Ku):=(Xq (Qc9 p1) Ze (Qp (p2-1),p0.out))
def Aw (p0:Ku)(p1:W2):Option (Ku):=Option.bind (Yv 1 p0.out (Jz p1)) fun l1=>((some (Ku.mk l1)))
def Qbz (p0:Qo)(rec2:(Int × Ku)→Option (List (BitVec 8)))(s2:Int × Ku):Option (List (BitVec 8)):=match s2 with|(a23,a24)=>(if a23<(p0.Head.Points.length:Int) then Option.bind (Zu p0.Head.Points a23) fun y26=>(Option.bind (Pr a24 y26.X 8) fun x27=>(Option.bind (Pr x27 y26.Y 8) fun x28=>((rec2 (Qp (a23+1),x28))))) else Option.bind (Aw a24 p0.Head.Box) fun x29=>(Option.bind (Aw x29 p0.Head.Check) fun x30=>((some x30.out))))
def Qby (p0:Qo)(rec1:(Int × Ku)→Option (List (BitVec 8)))(s1:Int × Ku):Option (List (BitVec 8)):=match s1 with|(a11,a12)=>(if a11<(p0.Head.Items.length:Int) then Option.bind (Zu p0.Head.Items a11) fun y14=>(Option.bind (Pr a12 (wd y14.Subset.Node) 1) fun x15=>(Option.bind (Pr x15 (wd y14.Subset.Minus) 1) fun x16=>(Option.bind (Aw x16 y14.Box) fun x17=>((rec1 (Qp (a11+1),x17)))))) else Option.bind (Pr a12 p0.Head.Base 8) fun x18=>(Option.bind (Pr x18 (wd (p0.Head.Points.length:Int)) 1) fun x19=>((Xq (Qbz p0) Ze (0,x19)))))
def Mw (p0:Qo):Option (List (BitVec 8)):=Option.bind (Pr (Ku.mk []) (p0.Kind.setWidth 64) 1) fun x1=>((if p0.Kind=2#8 then Option.bind (Pr x1 (p0.Low.setWidth 64) 1) fun x2=>(Option.bind (Pr x2 p0.Number 8) fun x3=>(Option.bind (Pr x3 (wd (p0.Data.length:Int)) 2) fun x4=>(Option.bind (Yv 1 x4.out p0.Data) fun l5=>((some l5))))) else Option.bind (Pr x1 (wd p0.Epoch) 8) fun x6=>(Option.bind (Pr x6 (wd (p0.Head.Items.length:Int)) 1) fun x7=>((Xq (Qby p0) Ze (0,x7))))))
def Qab (p1:W2)(rec1:(Int × W2)→Option (W2))(s1:Int × W2):Option (W2):=match s1 with|(a3,a4)=>(if a3<16 then Option.bind (Zu (Jz a4) a3) fun y5=>(Option.bind (Zu (Jz p1) a3) fun y6=>(Option.bind (Zu (Jz a4) a3) fun y7=>(Option.bind (Fa a4 a3 (y5 ^^^ y6)) fun x8=>((rec1 (Qp (a3+1),x8)))))) else(some a4))
def Qep (p0:W2)(p1:W2):Option (W2):=(if p0=p1 then(some k0) else(Xq (Qab p1) Ze (0,p0)))
def Qek (p0:W2)(p1:W2)(p2:W2):Option (W2):=Option.bind (Qep p0 p1) fun x1=>((some (Pp p2 x1)))
def Qa8 (p2_0:W2)(rec1:(List (BitVec 8) × W2)→Option (W2))(s1:List (BitVec 8) × W2):Option (W2):=match s1 with|(a4,a6)=>(if(0:Int)<(a4.length:Int) then Option.bind (Cd a4 (Es (Jz k0) a4) (a4.length:Int)) fun l7=>(Option.bind (Qek a6 (Dl (Gq (Jz k0) a4)) p2_0) fun x8=>((rec1 (l7,x8)))) else(some a6))
def Qem (p0:W2)(p1:List (BitVec 8))(p2_0:W2):Option (W2):=(Xq (Qa8 p2_0) Ze (p1,p0))
def Eo (p0:W2)(p1:List (BitVec 8)):Option (W2 × Int):=(if(16384:Int)<(p1.length:Int) then(some (k0,4)) else Option.bind (Qem (Ki p0 (Xr 2#8) (wd (p1.length:Int))) p1 p0) fun x1=>((some (x1,0))))
def Qg7 (a2:W2):Option (W2):=(some a2)
def Au (p0:W2)(p1:Qo):Option (W2):=Option.bind (Mw p1) fun x3=>(Option.bind (Eo (Ki p0 (Xr 52#8) (wd p1.Epoch)) x3) fun x4=>((Qg7 x4.1)))
def Ms (p0:W2)(p1:Xn)(p2:Int)(p3:List Int):Option (Qo × Int):=Option.bind (Ap p0 p1 p2 p3) fun x1=>((if x1.2≠0 then(some ((Qo.mk 0#8 0 (Qq.mk [] 0#64 [] k0 k0) 0#8 0#64 [] k0),x1.2)) else Option.bind (Rz p0 p2) fun x2=>(Option.bind (Au x2 (Qo.mk 1#8 p2 x1.1 0#8 0#64 [] k0)) fun x3=>((some ((Qo.mk 1#8 p2 x1.1 0#8 0#64 [] x3),0))))))
def Qa9 (p0:Va)(rec1:(Int × W2)→Option (W2))(s1:Int × W2):Option (W2):=match s1 with|(a3,a4)=>(if a3<8 then Option.bind (Vs (Qp (56-(Qp (8*a3))))) fun nn5=>(Option.bind (Vs (Qp (56-(Qp (8*a3))))) fun nn6=>(Option.bind (Zu (Jz a4) a3) fun y7=>(Option.bind (Fa a4 a3 ((p0.x >>> nn5).setWidth 8)) fun x8=>(Option.bind (Zu (Jz x8) (Qp (8+a3))) fun y9=>(Option.bind (Fa x8 (Qp (8+a3)) ((p0.y >>> nn6).setWidth 8)) fun x10=>((rec1 (Qp (a3+1),x10)))))))) else(some a4))
def Qen (p0:Va):Option (W2):=(Xq (Qa9 p0) Ze (0,k0))
def Qel (p0:BitVec 8)(p1:BitVec 64)(p2:BitVec 64):Option (W2):=Option.bind (Vs (un 56#64)) fun nn1=>(Option.bind (Qen (Va.mk (((p0.setWidth 64) <<< nn1) ||| p1) p2)) fun x2=>((some x2)))
def Qa6 (a6:List (BitVec 8))(a8:Int)(rec1:(List (BitVec 8) × Int × W2)→Option (List (BitVec 8) × Int))(y10:BitVec 8)(a11:W2):Option (List (BitVec 8) × Int):=Option.bind (Wz a8 16) fun x12=>(Option.bind (Zu (Jz a11) x12) fun y13=>(Option.bind (Zu a6 a8) fun y14=>((rec1 (a6.set a8.toNat (y10 ^^^ y13),Qp (a8+1),a11)))))
def Qa7 (p0:W2)(p1:BitVec 64)(p2:List (BitVec 8))(rec1:(List (BitVec 8) × Int × W2)→Option (List (BitVec 8) × Int))(s1:List (BitVec 8) × Int × W2):Option (List (BitVec 8) × Int):=match s1 with|(a6,a8,a9)=>(if a8<(p2.length:Int) then Option.bind (Zu p2 a8) fun y10=>(Option.bind (Wz a8 16) fun x15=>((if x15=0 then Option.bind (Tc a8 16) fun x16=>(Option.bind (Qel 1#8 (wd x16) p1) fun x17=>((Qa6 a6 a8 rec1 y10 (Pp p0 x17)))) else(Qa6 a6 a8 rec1 y10 a9)))) else(some (a6,0)))
def Qa5 (p0:W2)(p1:BitVec 64)(p2:List (BitVec 8)):Option (List (BitVec 8) × Int):=(if(16384:Int)<(p2.length:Int) then(some ([],4)) else Option.bind (Bo 1 (p2.length:Int) 0#8) fun l1=>((Xq (Qa7 p0 p1 p2) Ze (l1,0,k0))))
def Qfx (p3:BitVec 64)(p4:List (BitVec 8))(x1:Int × Int)(a3:W2):Option (Qo × Int):=Option.bind (Wz x1.1 4) fun x4=>(Option.bind (Qa5 a3 p3 p4) fun x5=>((if x5.2≠0 then(some ((Qo.mk 0#8 0 (Qq.mk [] 0#64 [] k0 k0) 0#8 0#64 [] k0),x5.2)) else Option.bind (Mw (Qo.mk 2#8 0 (Qq.mk [] 0#64 [] k0 k0) (Kl x4) p3 x5.1 k0)) fun x6=>(Option.bind (Eo a3 x6) fun x7=>((some ((Qo.mk 2#8 0 (Qq.mk [] 0#64 [] k0 k0) (Kl x4) p3 x5.1 x7.1),x7.2)))))))
def An (p0:W2)(p1:Zi)(p2:Int)(p3:BitVec 64)(p4:List (BitVec 8)):Option (Qo × Int):=Option.bind (Qbo p1 p2) fun x1=>((if x1.2≠0 then(some ((Qo.mk 0#8 0 (Qq.mk [] 0#64 [] k0 k0) 0#8 0#64 [] k0),x1.2)) else(if(256:Int)<(p4.length:Int) then(some ((Qo.mk 0#8 0 (Qq.mk [] 0#64 [] k0 k0) 0#8 0#64 [] k0),2)) else Option.bind (Tc p2 p1.Epoch) fun x8=>(Option.bind (Rz p0 x8) fun x9=>(Option.bind (Qbw x9 x1.1) fun x10=>((Qfx p3 p4 x1 x10)))))))
def Qc0 (p0:Xn)(p1:Zi):Option (Int):=Option.bind (Qbd p0) fun x1=>((if x1≠0 then(some x1) else Option.bind (Sn p1) fun x2=>((some x2))))
def Qbm (p0:W2)(p1:Xn)(p3:Int)(p4:Int)(a2:Bool):Option (Xl × Int):=(bif a2 then(some ((Xl.mk (Xt.mk 0 [] (Qx.mk 0#64 0#64)) 0 (Jg.mk (Xw.mk false 0 k0) (Xw.mk false 0 k0))),2)) else Option.bind (Qg4 p0 p1 p3) fun x3=>((if x3.2≠0 then(some ((Xl.mk (Xt.mk 0 [] (Qx.mk 0#64 0#64)) 0 (Jg.mk (Xw.mk false 0 k0) (Xw.mk false 0 k0))),x3.2)) else(some ((Xl.mk x3.1 p4 (Jg.mk (Xw.mk false 0 k0) (Xw.mk false 0 k0))),0)))))
def Mu (p0:W2)(p1:Xn)(p2:Zi)(p3:Int)(p4:Int):Option (Xl × Int):=Option.bind (Qc0 p1 p2) fun x1=>((if x1≠0 then(some ((Xl.mk (Xt.mk 0 [] (Qx.mk 0#64 0#64)) 0 (Jg.mk (Xw.mk false 0 k0) (Xw.mk false 0 k0))),x1)) else(if p4<Qp (-p2.Drift) then(Qbm p0 p1 p3 p4 true) else(Qbm p0 p1 p3 p4 (decide (p2.Drift<p4))))))
def Sp (a4:Int)(rec2:(Int)→Option (Int))(a6:Bool):Option (Int):=(bif a6 then(some 8) else(rec2 (Qp (a4+1))))
def Qbf (p2:Xl)(rec2:(Int)→Option (Int))(a4:Int):Option (Int):=(if a4<2 then Option.bind (Zu [p2.Slots.a0,p2.Slots.a1] a4) fun y5=>((bif y5.Full then Option.bind (Tu y5.Epoch) fun x7=>((bif (!x7) then(Sp a4 rec2 true) else Option.bind (Wz y5.Epoch 2) fun x8=>((if x8≠a4 then(Sp a4 rec2 true) else(bif (!y5.Full) then(Sp a4 rec2 (decide (y5≠(Xw.mk false 0 k0)))) else(Sp a4 rec2 false)))))) else(bif (!y5.Full) then(Sp a4 rec2 (decide (y5≠(Xw.mk false 0 k0)))) else(Sp a4 rec2 false)))) else(some 0))
def Mr (p2:Xl)(a2:Bool):Option (Int):=(bif a2 then(some 8) else(Xq (Qbf p2) Ze 0))
def Qfu (p0:Xn)(p1:Zi)(p2:Xl):Option (Int):=Option.bind (Qc0 p0 p1) fun x1=>((if x1≠0 then(some x1) else(if p2.Ahead<Qp (-p1.Drift) then(Mr p2 true) else(if p1.Drift<p2.Ahead then(Mr p2 true) else(if p2.Secret.Receiver<0 then(Mr p2 true) else Option.bind (Vs p0.Depth) fun nn9=>((Mr p2 (decide (Hb 1 nn9≤p2.Secret.Receiver)))))))))
def Qfv (p0:Zc):Option (Bool):=(if Gf p0.Subset.Node p0.Subset.Minus<0 then(some true) else(some (decide ((127:Int)<Iv p0.Subset.Node p0.Subset.Minus))))
def Qdv (p0:List Zc)(rec1:(Int)→Option (Int))(a2:Int):Option (Int):=(if a2<(p0.length:Int) then Option.bind (Zu p0 a2) fun y3=>(Option.bind (Qfv y3) fun x4=>((bif x4 then(some a2) else(rec1 (Qp (a2+1)))))) else(some (-1)))
def Qih (p0:List Zc):Option (Int):=(Xq (Qdv p0) Ze 0)
def Qid (p0:List Zc):Option (Bool):=Option.bind (Qih p0) fun x1=>((some (decide ((0:Int)≤x1))))
def Pq (a2:Bool):Option (Int):=(bif (!a2) then(some 8) else(some 0))
def Rx (p0:Qo)(a1:Bool):Option (Int):=(if p0.Kind=1#8 then Option.bind (Tu p0.Epoch) fun x3=>((bif x3 then(if p0.Low=0#8 then(if p0.Number=0#64 then(if(p0.Data.length:Int)=0 then(if(p0.Head.Items.length:Int)≤64 then(if(p0.Head.Points.length:Int)≤8 then Option.bind (Qid p0.Head.Items) fun x4=>((Pq (!x4))) else(Pq false)) else(Pq false)) else(Pq false)) else(Pq false)) else(Pq false)) else(Pq false))) else(if p0.Kind=2#8 then(if p0.Epoch=0 then(if p0.Low<4#8 then(if(p0.Data.length:Int)≤256 then(Pq a1) else(Pq false)) else(Pq false)) else(Pq false)) else(Pq false)))
def Am (p0:Qo):Option (Int):=(if(p0.Head.Items.length:Int)=0 then(if(p0.Head.Points.length:Int)=0 then(if p0.Head.Base=0#64 then(if p0.Head.Box=k0 then(Rx p0 (decide (p0.Head.Check=k0))) else(Rx p0 false)) else(Rx p0 false)) else(Rx p0 false)) else(Rx p0 false))
def Qi9 (p0:List Zr):Option (List Zr):=Option.bind (Yv 32 [] p0) fun l1=>((some l1))
def Qbn (p0:Xn)(p1:Xt)(p2:Qq)(a1:Bool):Option (W2 × Int):=(bif a1 then(some (k0,2)) else(if Xr p0.Kind=1∨Xr p0.Kind=2∨Xr p0.Kind=3 then Option.bind (Sc p0) fun x2=>((if x2≠0 then(some (k0,x2)) else Option.bind (Qet p0 p1 p2) fun x3=>((some (x3.1,x3.2))))) else(if Xr p0.Kind=4 then Option.bind (Up p0) fun x4=>((if x4≠0 then(some (k0,x4)) else Option.bind (Qhm p0 p1 p2) fun x5=>((some (x5.1,x5.2))))) else none)))
def Qg2 (p0:Xn)(p1:Xt)(p2:Qq):Option (W2 × Int):=(if p0.Kind<1#8 then(Qbn p0 p1 p2 true) else(Qbn p0 p1 p2 (decide ((5:Int)≤Xr p0.Kind))))
def Qg9 (p2:Xl)(p3:Qo)(x1:Int)(a6:W2)(a7:Int):Option (Int × Xl):=(if a7≠0 then(some (a7,p2)) else Option.bind (Au a6 p3) fun x8=>((if x8≠p3.Mac then(some (53,p2)) else(some (0,(Xl.mk p2.Secret p2.Ahead (Jg.mk (if x1=0 then(Xw.mk true p3.Epoch a6) else p2.Slots.a0) (if x1=0 then p2.Slots.a1 else(Xw.mk true p3.Epoch a6)))))))))
def Qc2 (p0:Xn)(p2:Xl)(p3:Qo)(x1:Int)(a4:Bool):Option (Int × Xl):=(bif a4 then(some (52,p2)) else Option.bind (Qg2 p0 p2.Secret p3.Head) fun x9=>((Qg9 p2 p3 x1 x9.1 x9.2)))
def Qg8 (p0:Xn)(p1:Zi)(p2:Xl)(p3:Qo)(p4:Int):Option (Int × Xl):=Option.bind (Wz p3.Epoch 2) fun x1=>(Option.bind (Zu [p2.Slots.a0,p2.Slots.a1] x1) fun y2=>(Option.bind (Qc8 p1 p4 p3.Epoch) fun x3=>((bif (!x3) then(some (51,p2)) else(bif y2.Full then(Qc2 p0 p2 p3 x1 (decide (p3.Epoch≤y2.Epoch))) else(Qc2 p0 p2 p3 x1 false))))))
def Qgb (p2:Qo)(x7:W2)(a9:W2)(a10:Int):Option (List (BitVec 8) × Int):=(if a10≠0 then(some ([],a10)) else(if a9≠p2.Mac then(some ([],53)) else Option.bind (Qa5 x7 p2.Number p2.Data) fun x11=>((some (x11.1,x11.2)))))
def Qc4 (p2:Qo)(x1:Int × Bool)(y5:Xw)(a6:Bool):Option (List (BitVec 8) × Int):=(bif a6 then(some ([],6)) else Option.bind (Qbw y5.Key x1.1) fun x7=>(Option.bind (Mw p2) fun x12=>(Option.bind (Eo x7 x12) fun x13=>((Qgb p2 x7 x13.1 x13.2)))))
def Qga (p0:Zi)(p1:Xl)(p2:Qo)(p3:Int):Option (List (BitVec 8) × Int):=Option.bind (Qc3 p0 p3 p2.Low) fun x1=>((bif (!x1.2) then(some ([],51)) else Option.bind (Tc p0.Epoch p0.Word) fun x2=>(Option.bind (Tc x1.1 x2) fun x3=>(Option.bind (Wz x3 2) fun x4=>(Option.bind (Zu [p1.Slots.a0,p1.Slots.a1] x4) fun y5=>((bif (!y5.Full) then(Qc4 p2 x1 y5 true) else(Qc4 p2 x1 y5 (decide (y5.Epoch≠x3))))))))))
def Qbu (x4:List Zr)(a5:Int)(a6:List (BitVec 8))(a8:Int)(a9:Qx)(a10:Int)(a11:Jg):Option (Xl × List (BitVec 8) × Int):=(if a5≠0 then(some ((Xl.mk (Xt.mk 0 [] (Qx.mk 0#64 0#64)) 0 (Jg.mk (Xw.mk false 0 k0) (Xw.mk false 0 k0))),[],a5)) else(some ((Xl.mk (Xt.mk a8 x4 a9) a10 a11),a6,0)))
def Qbt (p0:Xn)(p1:Zi)(p2:Xl)(p3:Qo)(p4:Int)(a3:Int):Option (Xl × List (BitVec 8) × Int):=(if a3≠0 then(some ((Xl.mk (Xt.mk 0 [] (Qx.mk 0#64 0#64)) 0 (Jg.mk (Xw.mk false 0 k0) (Xw.mk false 0 k0))),[],a3)) else Option.bind (Qi9 p2.Secret.Labels) fun x4=>((if p3.Kind=1#8 then Option.bind (Qg8 p0 p1 (Xl.mk (Xt.mk p2.Secret.Receiver x4 p2.Secret.Share) p2.Ahead p2.Slots) p3 (Qp (p4+p2.Ahead))) fun x12=>((Qbu x4 x12.1 [] x12.2.Secret.Receiver x12.2.Secret.Share x12.2.Ahead x12.2.Slots)) else Option.bind (Qga p1 (Xl.mk (Xt.mk p2.Secret.Receiver x4 p2.Secret.Share) p2.Ahead p2.Slots) p3 (Qp (p4+p2.Ahead))) fun x13=>((Qbu x4 x13.2 x13.1 p2.Secret.Receiver p2.Secret.Share p2.Ahead p2.Slots)))))
def Qbv (p0:Xn)(p1:Zi)(p2:Xl)(p3:Qo)(p4:Int)(a2:Int)(a14:Bool):Option (Xl × List (BitVec 8) × Int):=(bif a14 then(Qbt p0 p1 p2 p3 p4 2) else(Qbt p0 p1 p2 p3 p4 a2))
def Qbs (p0:Xn)(p1:Zi)(p2:Xl)(p3:Qo)(p4:Int)(a2:Int):Option (Xl × List (BitVec 8) × Int):=(if a2=0 then Option.bind (Tu p4) fun x15=>((Qbv p0 p1 p2 p3 p4 a2 (!x15))) else(Qbv p0 p1 p2 p3 p4 a2 false))
def Tt (p0:Xn)(p1:Zi)(p2:Xl)(p3:Qo)(p4:Int):Option (Xl × List (BitVec 8) × Int):=Option.bind (Qfu p0 p1 p2) fun x1=>((if x1=0 then Option.bind (Am p3) fun x16=>((Qbs p0 p1 p2 p3 p4 x16)) else(Qbs p0 p1 p2 p3 p4 x1)))
end
end Go.Sx

end
section

end
section

end
section
set_option linter.unusedVariables false
set_option maxRecDepth 100000
namespace Go.Sx
open Go Go.RowKit
noncomputable section
def Qmy (p0:Xt)(p1:Qo):Option (Bool):=(if(100:Int)<(p0.Labels.length:Int) then(some true) else(if(100:Int)<(p1.Head.Items.length:Int) then(some true) else(if(50:Int)<(p1.Head.Points.length:Int) then(some true) else(some (decide ((1000:Int)<(p1.Data.length:Int)))))))
def Qdm (p0:Qq)(p1:Qq)(rec3:(Int)→Option (Bool))(a7:Int):Option (Bool):=(if a7<(p0.Points.length:Int) then Option.bind (Zu p0.Points a7) fun y8=>(Option.bind (Zu p1.Points a7) fun y9=>((if y8≠y9 then(some false) else(rec3 (Qp (a7+1)))))) else(some true))
def Qdl (p0:Qq)(p1:Qq)(rec2:(Int)→Option (Bool))(a3:Int):Option (Bool):=(if a3<(p0.Items.length:Int) then Option.bind (Zu p0.Items a3) fun y4=>(Option.bind (Zu p1.Items a3) fun y5=>((if y4≠y5 then(some false) else(rec2 (Qp (a3+1)))))) else(Xq (Qdm p0 p1) Ze 0))
def Ca (p0:Qq)(p1:Qq)(a1:Bool):Option (Bool):=(bif a1 then(some false) else(Xq (Qdl p0 p1) Ze 0))
def Qmz (p0:Qq)(p1:Qq):Option (Bool):=(if(p0.Items.length:Int)≠(p1.Items.length:Int) then(Ca p0 p1 true) else(if(p0.Points.length:Int)≠(p1.Points.length:Int) then(Ca p0 p1 true) else(if p0.Base≠p1.Base then(Ca p0 p1 true) else(if p0.Box≠p1.Box then(Ca p0 p1 true) else(Ca p0 p1 (decide (p0.Check≠p1.Check)))))))
end
end Go.Sx

end
section
set_option linter.unusedVariables false
set_option maxRecDepth 100000
namespace Go.Sx
open Go Go.RowKit
noncomputable section
def Vo  : Option (Zi):=(some (Zi.mk 100 10 20 6 2))
def Qcn (p0:List Int)(p1:List Int)(rec1:(Int)→Option (Bool))(a2:Int):Option (Bool):=(if a2<(p0.length:Int) then Option.bind (Zu p0 a2) fun y3=>(Option.bind (Zu p1 a2) fun y4=>((if y3≠y4 then(some false) else(rec1 (Qp (a2+1)))))) else(some true))
def Qh6 (p0:List Int)(p1:List Int):Option (Bool):=(if(p0.length:Int)≠(p1.length:Int) then(some false) else(Xq (Qcn p0 p1) Ze 0))
def Wx  : Option (Xn):=(some (Xn.mk 2#8 2 0 (Vi.mk 0#64 0#64 0#64)))
def Qh5 (a14:Qo)(a20:Qo)(a30:Xl)(a33:Int)(a37:Int)(a38:List (BitVec 8)):Option (Bool):=Option.bind (Wx) fun x40=>(Option.bind (Vo) fun x41=>(Option.bind (Tt x40 x41 a30 a14 90) fun x42=>(Option.bind (Wx) fun x43=>(Option.bind (Vo) fun x44=>(Option.bind (Tt x43 x44 a30 a20 97) fun x45=>((if a33=0 then(if a37=0 then(if a38=[97#8,98#8,99#8] then(if x42.2.2=6 then(some (decide (x45.2.2=6))) else(some false)) else(some false)) else(some false)) else(some false))))))))
def Qh4 (a14:Qo)(a20:Qo)(a30:Xl)(a33:Int)(a35:Xl):Option (Bool):=Option.bind (Wx) fun x46=>(Option.bind (Vo) fun x47=>(Option.bind (Tt x46 x47 a35 a20 97) fun x48=>((Qh5 a14 a20 a30 a33 x48.2.2 x48.2.1))))
def Uj (a14:Qo)(a20:Qo)(a26:Xl)(a30:Xl)(a32:Bool):Option (Bool):=(bif a32 then(some false) else Option.bind (Wx) fun x55=>(Option.bind (Vo) fun x56=>(Option.bind (Tt x55 x56 a26 a14 90) fun x57=>((Qh4 a14 a20 a30 x57.2.2 x57.1)))))
def Qh3 (a12:Int)(a14:Qo)(a18:Int)(a20:Qo)(a24:Int)(a26:Xl)(a28:Int)(a30:Xl):Option (Bool):=(if a12≠0 then(Uj a14 a20 a26 a30 true) else(if a18≠0 then(Uj a14 a20 a26 a30 true) else(if a24≠0 then(Uj a14 a20 a26 a30 true) else(Uj a14 a20 a26 a30 (decide (a28≠0))))))
def Qh2 (a12:Int)(a14:Qo)(a18:Int)(a20:Qo)(a24:Int)(a26:Xl):Option (Bool):=Option.bind (Wx) fun x64=>(Option.bind (Vo) fun x65=>(Option.bind (Mu (72623842526232576#64,0#64) x64 x65 2 0) fun x66=>((Qh3 a12 a14 a18 a20 a24 a26 x66.2 x66.1))))
def Qh1 (a12:Int)(a14:Qo)(a18:Int)(a20:Qo):Option (Bool):=Option.bind (Wx) fun x73=>(Option.bind (Vo) fun x74=>(Option.bind (Mu (72623842526232576#64,0#64) x73 x74 1 6) fun x75=>((Qh2 a12 a14 a18 a20 x75.2 x75.1))))
def Qcm (a12:Int)(a14:Qo):Option (Bool):=Option.bind (Vo) fun x82=>(Option.bind (An (72623842526232576#64,0#64) x82 95 5#64 [97#8,98#8,99#8]) fun x83=>((Qh1 a12 a14 x83.2 x83.1)))
def Pf (a11:Bool):Option (Bool):=(bif a11 then(some false) else Option.bind (Wx) fun x106=>(Option.bind (Ms (72623842526232576#64,0#64) x106 0 [2]) fun x107=>((Qcm x107.2 x107.1))))
def It  : Option (Bool):=Option.bind (Vo) fun x1=>(Option.bind (Qbj x1 95) fun x2=>(Option.bind (Vo) fun x3=>(Option.bind (Qbo x3 95) fun x4=>(Option.bind (Vo) fun x5=>(Option.bind (Qfz x5 95) fun x6=>(Option.bind (Vo) fun x7=>(Option.bind (Mv x7 101 1#8) fun x8=>(Option.bind (Vo) fun x9=>(Option.bind (Mt x9 107 0) fun x10=>((if x2.2≠0 then(Pf true) else(if x2.1≠0 then(Pf true) else(if x4.2≠0 then(Pf true) else(if x4.1≠9 then(Pf true) else(if x6.2≠0 then(Pf true) else Option.bind (Qh6 x6.1 [0,1]) fun x119=>((bif (!x119) then(Pf true) else(if x8.2≠0 then(Pf true) else(if x8.1≠9 then(Pf true) else(if x10.2≠0 then(Pf true) else(Pf (!x10.1))))))))))))))))))))))
end
end Go.Sx

end
section

end
section
set_option linter.unusedVariables false
set_option maxRecDepth 100000
namespace Go.Sx
open Go Go.RowKit
noncomputable section
def Fh (p0:Zi)(a2:Bool):Option (Bool):=(bif a2 then(some false) else(if Qp ((Qp (2*p0.Drift))+p0.Delay)<Qp (3*p0.Word) then(some (decide (Qp (p0.Early+p0.Delay)≤p0.Epoch))) else(some false)))
def Cb (p0:Zi)(a1:Bool):Option (Bool):=(bif a1 then(some false) else(if p0.Early<0 then(Fh p0 true) else(if p0.Drift<0 then(Fh p0 true) else(if p0.Delay<0 then(Fh p0 true) else(if p0.Epoch<p0.Early then(Fh p0 true) else(if(3000:Int)<p0.Drift then(Fh p0 true) else(Fh p0 (decide ((3000:Int)<p0.Delay)))))))))
def Qn0 (p0:Zi):Option (Bool):=(if p0.Word<1 then(Cb p0 true) else(if(1000:Int)<p0.Word then(Cb p0 true) else(if p0.Epoch<p0.Word then(Cb p0 true) else(if Qp (1000*p0.Word)<p0.Epoch then(Cb p0 true) else Option.bind (Wz p0.Epoch p0.Word) fun x3=>((Cb p0 (decide (x3≠0))))))))
end
end Go.Sx

end
section

end
section
set_option linter.unusedVariables false
set_option maxRecDepth 100000
namespace Go.Sx
open Go Go.RowKit
noncomputable section
structure Zq where
 b:List (BitVec 8)
 short:Bool
deriving DecidableEq,Inhabited
def Zq.cs (x:Zq)(v0:Value):List Value:=[v0,.bool x.short]
theorem Zq.cs_ones (x:Zq)(v0:Value)(h0:oneB v0=true):Jn (Zq.cs x v0)=true:=by simp only[Zq.cs,List.cons_append,List.nil_append,kb,Jn,Hm,Hl,Hn,cond_true,h0]
def Qg0 (p0:Qo):Option (List (BitVec 8) × Int):=Option.bind (Am p0) fun x1=>((if x1≠0 then(some ([],x1)) else Option.bind (Mw p0) fun x2=>(Option.bind (Yv 1 x2 (Jz p0.Mac)) fun l3=>((some (l3,0))))))
def Av (p0:Zq)(p1:Int):Option (List (BitVec 8) × Zq):=(if(p0.b.length:Int)<p1 then Option.bind (Bo 1 p1 0#8) fun l1=>((some (l1,(Zq.mk [] true)))) else Option.bind (Cd p0.b 0 p1) fun l2=>(Option.bind (Cd p0.b p1 (p0.b.length:Int)) fun l3=>((some (l2,(Zq.mk l3 p0.short))))))
def Qc5 (x1:List (BitVec 8) × Zq)(rec1:(BitVec 64 × Int)→Option (BitVec 64 × Zq))(s1:BitVec 64 × Int):Option (BitVec 64 × Zq):=match s1 with|(a4,a5)=>(if a5<(x1.1.length:Int) then Option.bind (Zu x1.1 a5) fun y6=>(Option.bind (Vs (un 8#64)) fun nn7=>((rec1 ((a4 <<< nn7) ||| (y6.setWidth 64),Qp (a5+1))))) else(some (a4,x1.2)))
def Gw (p0:Zq)(p1:Int):Option (BitVec 64 × Zq):=Option.bind (Av p0 p1) fun x1=>((Xq (Qc5 x1) Ze (0#64,0)))
def Ny (p0:Zq):Option (Int × Zq):=Option.bind (Gw p0 1) fun x1=>((some (Qp (un x1.1),x1.2)))
def Qib (p0:List (BitVec 8)):Option (List (BitVec 8)):=Option.bind (Yv 1 [] p0) fun l1=>((some l1))
def Dw (p0:Zq):Option (W2 × Zq):=Option.bind (Av p0 16) fun x1=>(Option.bind (Ip x1.1) fun x2=>((some (x2,x1.2))))
def Qgc (p0:Zq):Option (Zc × Zq):=Option.bind (Ny p0) fun x1=>(Option.bind (Ny x1.2) fun x2=>(Option.bind (Dw x2.2) fun x3=>((some ((Zc.mk (Xs.mk x1.1 x2.1) x3.1),x3.2)))))
def Qc6 (p0:Zq):Option (Qx × Zq):=Option.bind (Gw p0 8) fun x1=>(Option.bind (Gw x1.2 8) fun x2=>((some ((Qx.mk x1.1 x2.1),x2.2))))
def Ao (x1:Int × Zq)(a4:Int)(a5:List Zc)(a6:BitVec 64)(a7:List Qx)(a8:W2)(a9:W2)(a10:BitVec 8)(a11:BitVec 64)(a12:List (BitVec 8))(x16:W2 × Zq)(a17:Bool):Option (Qo × Int):=(bif a17 then(some ((Qo.mk 0#8 0 (Qq.mk [] 0#64 [] k0 k0) 0#8 0#64 [] k0),8)) else(some ((Qo.mk (Kl x1.1) a4 (Qq.mk a5 a6 a7 a8 a9) a10 a11 a12 x16.1),0)))
def Ry (x1:Int × Zq)(a2:Zq)(a4:Int)(a5:List Zc)(a6:BitVec 64)(a7:List Qx)(a8:W2)(a9:W2)(a10:BitVec 8)(a11:BitVec 64)(a12:List (BitVec 8)):Option (Qo × Int):=Option.bind (Dw a2) fun x16=>((bif x16.2.short then(Ao x1 a4 a5 a6 a7 a8 a9 a10 a11 a12 x16 true) else(if(0:Int)<(x16.2.b.length:Int) then(Ao x1 a4 a5 a6 a7 a8 a9 a10 a11 a12 x16 true) else Option.bind (Am (Qo.mk (Kl x1.1) a4 (Qq.mk a5 a6 a7 a8 a9) a10 a11 a12 x16.1)) fun x18=>((Ao x1 a4 a5 a6 a7 a8 a9 a10 a11 a12 x16 (decide (x18≠0)))))))
def Qbh (x1:Int × Zq)(x24:BitVec 64 × Zq)(x36:BitVec 64 × Zq)(x37:Int × Zq)(rec4:(List Qx × Int × Zq)→Option (Qo × Int))(s4:List Qx × Int × Zq):Option (Qo × Int):=match s4 with|(a43,a45,a46)=>(if a45<x37.1 then(bif a46.short then Option.bind (Dw a46) fun x48=>(Option.bind (Dw x48.2) fun x49=>((Ry x1 x49.2 (Qp (un x24.1)) [] x36.1 [] x48.1 x49.1 0#8 0#64 []))) else Option.bind (Qc6 a46) fun x50=>(Option.bind (Yv 16 a43 [x50.1]) fun l51=>((rec4 (l51,Qp (a45+1),x50.2))))) else Option.bind (Dw a46) fun x52=>(Option.bind (Dw x52.2) fun x53=>((Ry x1 x53.2 (Qp (un x24.1)) [] x36.1 a43 x52.1 x53.1 0#8 0#64 []))))
def Qbi (x1:Int × Zq)(x24:BitVec 64 × Zq)(a31:List Zc)(x56:BitVec 64 × Zq)(x57:Int × Zq)(rec5:(List Qx × Int × Zq)→Option (Qo × Int))(s5:List Qx × Int × Zq):Option (Qo × Int):=match s5 with|(a63,a65,a66)=>(if a65<x57.1 then(bif a66.short then Option.bind (Dw a66) fun x68=>(Option.bind (Dw x68.2) fun x69=>((Ry x1 x69.2 (Qp (un x24.1)) a31 x56.1 [] x68.1 x69.1 0#8 0#64 []))) else Option.bind (Qc6 a66) fun x70=>(Option.bind (Yv 16 a63 [x70.1]) fun l71=>((rec5 (l71,Qp (a65+1),x70.2))))) else Option.bind (Dw a66) fun x72=>(Option.bind (Dw x72.2) fun x73=>((Ry x1 x73.2 (Qp (un x24.1)) a31 x56.1 a63 x72.1 x73.1 0#8 0#64 []))))
def Qbg (x1:Int × Zq)(x24:BitVec 64 × Zq)(x25:Int × Zq)(rec3:(List Zc × Int × Zq)→Option (Qo × Int))(s3:List Zc × Int × Zq):Option (Qo × Int):=match s3 with|(a31,a33,a34)=>(if a33<x25.1 then(bif a34.short then Option.bind (Gw a34 8) fun x36=>(Option.bind (Ny x36.2) fun x37=>((Xq (Qbh x1 x24 x36 x37) Ze ([],0,x37.2)))) else Option.bind (Qgc a34) fun x54=>(Option.bind (Yv 32 a31 [x54.1]) fun l55=>((rec3 (l55,Qp (a33+1),x54.2))))) else Option.bind (Gw a34 8) fun x56=>(Option.bind (Ny x56.2) fun x57=>((Xq (Qbi x1 x24 a31 x56 x57) Ze ([],0,x57.2)))))
def Qfy (p0:List (BitVec 8)):Option (Qo × Int):=Option.bind (Ny (Zq.mk p0 false)) fun x1=>((if Kl x1.1=2#8 then Option.bind (Ny x1.2) fun x19=>(Option.bind (Gw x19.2 8) fun x20=>(Option.bind (Gw x20.2 2) fun x21=>(Option.bind (Av x21.2 (Qp (un x21.1))) fun x22=>(Option.bind (Qib x22.1) fun x23=>((Ry x1 x22.2 0 [] 0#64 [] k0 k0 (Kl x19.1) x20.1 x23)))))) else Option.bind (Gw x1.2 8) fun x24=>((if 1099511627776#64<x24.1 then(some ((Qo.mk 0#8 0 (Qq.mk [] 0#64 [] k0 k0) 0#8 0#64 [] k0),8)) else Option.bind (Ny x24.2) fun x25=>((Xq (Qbg x1 x24 x25) Ze ([],0,x25.2)))))))
end
end Go.Sx

end
section

end
section
set_option linter.unusedVariables false
set_option maxRecDepth 100000
namespace Go.Sx
open Go Go.RowKit
noncomputable section
def Qh0 (a17:Qo)(a26:Xl)(a32:Qo)(a38:Int)(a40:Xl):Option (Bool):=Option.bind (Wx) fun x42=>(Option.bind (Vo) fun x43=>(Option.bind (Tt x42 x43 a40 a32 1) fun x44=>(Option.bind (Wx) fun x45=>(Option.bind (Vo) fun x46=>(Option.bind (Tt x45 x46 a26 a32 120) fun x47=>(Option.bind (Zu (Jz a32.Mac) 3) fun y48=>(Option.bind (Zu (Jz a32.Mac) 3) fun y49=>(Option.bind (Fa a32.Mac 3 (y48+1#8)) fun x50=>(Option.bind (Wx) fun x51=>(Option.bind (Vo) fun x52=>(Option.bind (Tt x51 x52 a26 (Qo.mk a32.Kind a32.Epoch a32.Head a32.Low a32.Number a32.Data x50) 0) fun x53=>(Option.bind (Zu (Jz a17.Mac) 0) fun y54=>(Option.bind (Zu (Jz a17.Mac) 0) fun y55=>(Option.bind (Fa a17.Mac 0 (y54+1#8)) fun x56=>(Option.bind (Wx) fun x57=>(Option.bind (Vo) fun x58=>(Option.bind (Tt x57 x58 a40 (Qo.mk a17.Kind a17.Epoch a17.Head a17.Low a17.Number a17.Data x56) 95) fun x59=>((if a38=0 then(if x44.2.2=52 then(if x47.2.2=51 then(if x53.2.2=53 then(if x59.2.2=53 then Option.bind (Qbd (Xn.mk 5#8 0 0 (Vi.mk 0#64 0#64 0#64))) fun x60=>((some (decide (x60=2)))) else(some false)) else(some false)) else(some false)) else(some false)) else(some false))))))))))))))))))))
def Nf (a17:Qo)(a26:Xl)(a32:Qo)(a37:Bool):Option (Bool):=(bif a37 then(some false) else Option.bind (Wx) fun x61=>(Option.bind (Vo) fun x62=>(Option.bind (Tt x61 x62 a26 a32 0) fun x63=>((Qh0 a17 a26 a32 x63.2.2 x63.1)))))
def Qgz (a15:Int)(a17:Qo)(x21:List (BitVec 8) × Int)(a22:Int)(x23:Qo × Int)(a24:Int)(a26:Xl)(x30:Xl × Int)(a32:Qo)(a36:Int):Option (Bool):=(if a15≠0 then(Nf a17 a26 a32 true) else(if x21.2≠0 then(Nf a17 a26 a32 true) else(if(x21.1.length:Int)≠31 then(Nf a17 a26 a32 true) else(if a22≠2 then(Nf a17 a26 a32 true) else(if x23.2≠8 then(Nf a17 a26 a32 true) else(if a24≠0 then(Nf a17 a26 a32 true) else(if x30.2≠2 then(Nf a17 a26 a32 true) else(Nf a17 a26 a32 (decide (a36≠0))))))))))
def Qgy (a15:Int)(a17:Qo)(x21:List (BitVec 8) × Int)(a22:Int)(x23:Qo × Int)(a24:Int)(a26:Xl):Option (Bool):=Option.bind (Wx) fun x28=>(Option.bind (Vo) fun x29=>(Option.bind (Mu (648518346341351424#64,0#64) x28 x29 3 7) fun x30=>(Option.bind (Wx) fun x70=>(Option.bind (Ms (648518346341351424#64,0#64) x70 0 ([]:List Int)) fun x71=>((Qgz a15 a17 x21 a22 x23 a24 a26 x30 x71.1 x71.2))))))
def Qgx (a15:Int)(a17:Qo)(x21:List (BitVec 8) × Int)(a22:Int):Option (Bool):=Option.bind (Qfy ([]:List (BitVec 8))) fun x23=>(Option.bind (Wx) fun x75=>(Option.bind (Vo) fun x76=>(Option.bind (Mu (648518346341351424#64,0#64) x75 x76 3 (-6)) fun x77=>((Qgy a15 a17 x21 a22 x23 x77.2 x77.1)))))
def Qgw (a15:Int)(a17:Qo):Option (Bool):=Option.bind (Qg0 a17) fun x21=>(Option.bind (Vo) fun x84=>(Option.bind (Bo 1 257 0#8) fun l85=>(Option.bind (An (648518346341351424#64,0#64) x84 95 5#64 l85) fun x86=>((Qgx a15 a17 x21 x86.2)))))
def Pv (a14:Bool):Option (Bool):=(bif a14 then(some false) else Option.bind (Vo) fun x88=>(Option.bind (An (648518346341351424#64,0#64) x88 95 5#64 [97#8,98#8,99#8]) fun x89=>((Qgw x89.2 x89.1))))
def Qcl  : Option (Bool):=Option.bind (Vo) fun x1=>(Option.bind (Vo) fun x2=>(Option.bind (Mv x2 101 2#8) fun x3=>(Option.bind (Vo) fun x4=>(Option.bind (Mv x4 101 3#8) fun x5=>(Option.bind (Vo) fun x6=>(Option.bind (Mv x6 101 4#8) fun x7=>(Option.bind (Vo) fun x8=>(Option.bind (Mt x8 108 0) fun x9=>(Option.bind (Vo) fun x10=>(Option.bind (Mt x10 74 1) fun x11=>(Option.bind (Vo) fun x12=>(Option.bind (Mt x12 73 1) fun x13=>(Option.bind (It) fun x112=>((bif (!x112) then(Pv true) else Option.bind (Sn (Zi.mk x1.Epoch x1.Word x1.Early 15 x1.Delay)) fun x113=>((if x113≠50 then(Pv true) else(if x3.2≠0 then(Pv true) else(if x3.1≠10 then(Pv true) else(if x5.2≠51 then(Pv true) else(if x7.2≠2 then(Pv true) else(if x9.2≠0 then(Pv true) else(bif x9.1 then(Pv true) else(if x11.2≠0 then(Pv true) else(bif (!x11.1) then(Pv true) else(if x13.2≠0 then(Pv true) else(Pv x13.1)))))))))))))))))))))))))))
end
end Go.Sx

end
section
set_option linter.unusedVariables false
set_option linter.unusedSimpArgs false
set_option maxRecDepth 100000
namespace Go.Sx
open Go Go.RowKit Go.Proofs
end Go.Sx

end
section
set_option linter.unusedVariables false
set_option linter.unusedSimpArgs false
namespace Go.Proofs.YtplcaaglieefgaaGreat
open Go Go.RowKit Go.Sx
theorem Qpp:CV Tryz.prog 3 177 .u64:=fun _ _ _=>by kernel_rfl
theorem Tg:ZV Tryz.prog 326 (.agg [.int .u64 0,.int .u64 0].toArray):=fun _=>by kernel_rfl
theorem Gy:FA Tryz.prog 326 0 0:=fun _ _ _=>by kernel_rfl
theorem Zh:Vn Tryz.prog 22:=fun _=>⟨by kernel_rfl,by kernel_rfl⟩
theorem Ty:FA Tryz.prog 326 1 1:=fun _ _ _=>by kernel_rfl
theorem Qb7:En Tryz.prog 307:=fun _ _=>by kernel_rfl
theorem El:BS Tryz.prog 326 (fun i=>[(0,1),(1,1)][i]?) [.int .u64 0,.int .u64 0]:=Hg Tryz.underlying326 Tg ⟨rfl,(Zh).siz,rfl,(Zh).siz,trivial⟩
theorem Yu:Kx Tryz.prog 326 2:=fun _=>⟨by kernel_rfl,by kernel_rfl⟩
theorem Gs:CV Tryz.prog 5 22 .u64:=fun _ _ _=>by kernel_rfl
theorem Zj:Vn Tryz.prog 5:=fun _=>⟨by kernel_rfl,by kernel_rfl⟩
theorem Pn:CV Tryz.prog 22 5 .u8:=fun _ _ _=>by kernel_rfl
theorem Jq:ZV Tryz.prog 36 (.agg [.int .u8 0,.int .u8 0,.int .u8 0,.int .u8 0,.int .u8 0,.int .u8 0,.int .u8 0,.int .u8 0,.int .u8 0,.int .u8 0,.int .u8 0,.int .u8 0,.int .u8 0,.int .u8 0,.int .u8 0,.int .u8 0].toArray):=fun _=>by kernel_rfl
theorem Qy:Kx Tryz.prog 36 16:=fun _=>⟨by kernel_rfl,by kernel_rfl⟩
abbrev pv (p:W2):Value:=.agg [wv p.1,wv p.2].toArray
set_option maxHeartbeats 1000000 in
theorem Qdn (x:BitVec 64)(k:Int)(s:Nat)(hs:s<64)(hk:bits .and .u64 (IntKind.u64.wrap k) 63=(s:Int))(w:World):
 Calls Tryz.prog 307 [wv x,.int .i64 k].toArray w fun e w'=>∃ v,e=.returned v∧(v=wv (Fl x s)∧Gr w w'):=by
 refine Xu 17 Tryz.func307 rfl rfl rfl<|qs 1 rfl<|qv rfl (Kj rfl)<|qd 4 rfl<|qv rfl (Qw rfl)<|qv rfl (Lv Qpp rfl)<|qv rfl (Kk (Uz (by simp) rfl rfl) (show _=Value.int .u64 (s:Int) from by rw[hk]))<|qv rfl (Kj rfl)<|qd 9 rfl<|qv rfl (Qw rfl)<|qv rfl (Qw rfl)<|qv rfl (Oq rfl rfl (by omega))<|qv rfl (Qw rfl)<|qv rfl (Qw rfl)<|qv rfl (Kk (Ys rfl rfl) (show _=Value.int .u64 ((64-s:Nat):Int) from by rw[IntKind.wrap_u64];congr 1;omega))<|qv rfl (Qe6 rfl rfl (by omega))<|qv rfl (Fs rfl rfl)<|qv rfl (Kj rfl)<|Qa<|Qs ?_
 refine⟨_,_,rfl,Gg rfl rfl,?_⟩
 exact⟨by simp[Fl],(Gr.refl w)⟩
set_option maxHeartbeats 1000000 in
theorem Qn3 (p:W2)(k:BitVec 64)(w:World):
 Calls Tryz.prog 228 [pv p,wv k].toArray w fun e w'=>∃ v,e=.returned v∧(v=pv (Od p k)∧Gr w w'):=by
 refine Xu 21 Tryz.func228 rfl rfl rfl<|qs 2 rfl<|qe rfl (Xp rfl (by rfl)) ?_
 rintro _ w1 ⟨b1,rfl,hbw1,Bw1,Gw1⟩
 have z1:=Gw1.size
 have lt2:=Bw1.lt
 refine qe rfl (Qz Tg (by rfl)) ?_
 rintro _ w2 ⟨b2,rfl,hbw2,Bw2,Gw2⟩
 have z3:=Gw2.size
 have lt4:=Bw2.lt
 refine Qa<|Qj<|Oi [] [(0,3),(1,3),(3,3),(4,3),(6,3),(2,0),(5,3),(7,3),(8,3)] (by kernel_rfl) (by kernel_rfl) rfl (by kernel_rfl) ?_
 intro w3 Gw3 zw3
 refine Jv rfl rfl rfl (Kp.refl [] w3) (fun w hS=>Qg Gy rfl) ?_
 have B5:=(Bx.gr (Bx.gr Bw1 Gw2) Gw3)
 refine Jv rfl rfl rfl (Kp.refl [] w3) (fun w hS=>Ql Zh rfl (Bx.kp B5 hS (by simp<;>first|omega|(split<;>omega))) (by rfl))<|Jv rfl rfl rfl (Kp.refl [] w3) (fun w hS=>Qg Ty rfl)<|Jv rfl rfl rfl (Kp.refl [] w3) (fun w hS=>Ql Zh rfl (Bx.kp B5 hS (by simp<;>first|omega|(split<;>omega))) (by rfl))<|Jv rfl rfl rfl (Kp.refl [] w3) (fun w hS=>Qw rfl)<|Qaz rfl rfl rfl (Wp Qb7 rfl (Qdn _ (-8) 56 (by decide) (by decide) _)) ?_
 rintro _ w4 ⟨rfl,Gw4⟩
 have z6:=Gw4.size
 refine⟨Gw4,?_⟩
 have S7:=(Kp.gr (Kp.refl [] w3) Gw4)
 refine Jv rfl rfl rfl S7 (fun w hS=>Eg rfl rfl)<|Jv rfl rfl rfl S7 (fun w hS=>Qe8 rfl rfl)<|Jv rfl rfl rfl S7 (fun w hS=>Kj rfl)<|qd 8 rfl<|qv rfl (Qw rfl)<|qv rfl (Qg Ty rfl) ?_
 have B8:=(Bx.gr B5 Gw4)
 refine qv rfl (Ql Zh rfl B8 (by rfl))<|qe rfl (Wp Qb7 rfl (Qdn _ (3) 3 (by decide) (by decide) _)) ?_
 rintro _ w5 ⟨rfl,Gw5⟩
 have z9:=Gw5.size
 refine qv rfl (Qw rfl)<|qv rfl (Qe8 rfl rfl)<|qv rfl (Zk El rfl rfl) ?_
 have B10:=(Bx.gr (Bx.gr (Bx.gr Bw2 Gw3) Gw4) Gw5)
 refine qe rfl (Ps (Yu).siz rfl rfl (by rfl) (by rfl) (by rfl) B10 (by rfl)) ?_
 rintro _ w6 ⟨Bw6,Mw6⟩
 have z11:=Mw6.size
 refine Qa<|Qs ?_
 have X12:=(Gr.md (Gr.trans (Gr.trans (Gr.trans (Gr.trans (Gr.trans (Gr.refl w) Gw1) Gw2) Gw3) Gw4) Gw5) Mw6 (by omega))
 refine⟨_,_,rfl,Fj rfl Yu rfl Bw6 (by rfl),?_⟩
 exact⟨rfl,X12⟩
set_option maxHeartbeats 1000000 in
theorem Qoj (p:W2)(k:BitVec 64)(w:World):
 Calls Tryz.prog 295 [pv p,wv k].toArray w fun e w'=>∃ v,e=.returned v∧(v=pv (Qi3 p k)∧Gr w w'):=by
 refine Xu 21 Tryz.func295 rfl rfl rfl<|qs 2 rfl<|qe rfl (Xp rfl (by rfl)) ?_
 rintro _ w1 ⟨b1,rfl,hbw1,Bw1,Gw1⟩
 have z1:=Gw1.size
 have lt2:=Bw1.lt
 refine qe rfl (Qz Tg (by rfl)) ?_
 rintro _ w2 ⟨b2,rfl,hbw2,Bw2,Gw2⟩
 have z3:=Gw2.size
 have lt4:=Bw2.lt
 refine qd 7 rfl<|qv rfl (Qg Gy rfl) ?_
 have B5:=(Bx.gr Bw1 Gw2)
 refine qv rfl (Ql Zh rfl B5 (by rfl))<|qv rfl (Qg Ty rfl)<|qv rfl (Ql Zh rfl B5 (by rfl))<|qv rfl (Qe8 rfl rfl)<|qe rfl (Wp Qb7 rfl (Qdn _ (-3) 61 (by decide) (by decide) _)) ?_
 rintro _ w3 ⟨rfl,Gw3⟩
 have z6:=Gw3.size
 refine qv rfl (Kj rfl)<|qd 10 rfl<|qv rfl (Qg Gy rfl) ?_
 have B7:=(Bx.gr B5 Gw3)
 refine qv rfl (Ql Zh rfl B7 (by rfl))<|qv rfl (Qw rfl)<|qv rfl (Qe8 rfl rfl)<|qv rfl (Qw rfl)<|qv rfl (Qe7 rfl rfl)<|qe rfl (Wp Qb7 rfl (Qdn _ (8) 8 (by decide) (by decide) _)) ?_
 rintro _ w4 ⟨rfl,Gw4⟩
 have z8:=Gw4.size
 refine qv rfl (Qw rfl)<|qv rfl (Zk El rfl rfl) ?_
 have B9:=(Bx.gr (Bx.gr Bw2 Gw3) Gw4)
 refine qe rfl (Ps (Yu).siz rfl rfl (by rfl) (by rfl) (by rfl) B9 (by rfl)) ?_
 rintro _ w5 ⟨Bw5,Mw5⟩
 have z10:=Mw5.size
 refine Qa<|Qs ?_
 have X11:=(Gr.md (Gr.trans (Gr.trans (Gr.trans (Gr.trans (Gr.refl w) Gw1) Gw2) Gw3) Gw4) Mw5 (by omega))
 refine⟨_,_,rfl,Fj rfl Yu rfl Bw5 (by rfl),?_⟩
 exact⟨rfl,X11⟩
set_option maxHeartbeats 1000000 in
theorem Qiu (p:W2)(w:World):
 Calls Tryz.prog 226 [kv p].toArray w fun e w'=>∃ v,e=.returned v∧(v=pv p∧Gr w w'):=by
 refine Xu 29 Tryz.func226 rfl rfl rfl<|qs 2 rfl<|qe rfl (Xp rfl (by rfl)) ?_
 rintro _ w1 ⟨b1,rfl,hbw1,Bw1,Gw1⟩
 have z1:=Gw1.size
 have lt2:=Bw1.lt
 refine qe rfl (Qz Tg (by rfl)) ?_
 rintro _ w2 ⟨b2,rfl,hbw2,Bw2,Gw2⟩
 have z3:=Gw2.size
 have lt4:=Bw2.lt
 refine qd 1 rfl<|qe rfl (Qz Tg (by rfl)) ?_
 rintro _ w3 ⟨b3,rfl,hbw3,Bw3,Gw3⟩
 have z5:=Gw3.size
 have lt6:=Bw3.lt
 refine Qa<|Qj<|qs 1 rfl<|qv rfl (Qw rfl)<|Qa<|Xz ?_
 have X7:=(Gr.trans (Gr.trans (Gr.trans (Gr.refl w) Gw1) Gw2) Gw3)
 refine Kb (α:=Nat) [4,5,6,7,8,9,10,11,12,13,14,15,16,17,18,19,20,21,22,23,24,25,26,27] (fun k=>[(5,.int .i64 (k:Int))]) (fun k wr=>(k≤8)∧Bx wr b3 326 ([wv (p.1 >>> (64-8*k)),wv (p.2 >>> (64-8*k))])∧Kp [b3] w3 wr) (fun k=>8-k) (0) ?_ ?_ ?_
 · exact Qh
 · exact⟨by omega,(by rw[Nat.mul_zero,Nat.sub_zero,Qi5,Qi5];exact Bw3),Kp.refl _ _⟩
 rintro k w4 ⟨hk,Bw4_b3,Kw4⟩
 have z8:=Kw4.size
 refine qs 1 rfl<|qv rfl (Jb rfl rfl)<|Qa<|Qj<|Hc rfl (fun h1=>?_) (fun h1=>?_)
 · -- h1 True
   replace h1:=of_decide_eq_true h1
   refine qu<|Qj<|Xz<|qs 2 rfl<|qv rfl (Qw rfl)<|qv rfl (Kj rfl)<|Qa<|Oi [b3] [(0,3),(1,1),(2,3),(3,3),(4,3),(5,3),(6,3),(7,3),(8,3),(9,1),(10,3),(11,3),(12,3),(13,3),(14,3),(15,3),(16,3),(17,3),(18,2),(19,3),(20,2)] (by kernel_rfl) (by kernel_rfl) rfl (by kernel_rfl) ?_
   intro w5 Gw5 zw5
   refine Jv rfl rfl rfl (Kp.refl [b3] w5) (fun w hS=>Qg Gy rfl) ?_
   have B9:=(Bx.gr Bw4_b3 Gw5)
   refine Qfc rfl rfl rfl (Gr.refl w5) (fun w hS=>Ql Zh rfl (Bx.gr B9 hS) (by rfl))<|Jv rfl rfl rfl (Kp.refl [b3] w5) (fun w hS=>Oq rfl rfl (by omega))<|Jv rfl rfl rfl (Kp.refl [b3] w5) (fun w hS=>Qw rfl)<|Jv rfl rfl rfl (Kp.refl [b3] w5) (fun w hS=>Lx Tryz.underlying36 (Zj).siz rfl rfl (by omega) (by omega)) ?_
   have B10:=(Bx.gr (Bx.kp (Bx.gr (Bx.gr Bw1 Gw2) Gw3) Kw4 (by simp<;>first|omega|(split<;>omega))) Gw5)
   refine Jv rfl rfl rfl (Kp.refl [b3] w5) (fun w hS=>Ql Zj rfl (Bx.kp B10 hS (by simp<;>first|omega|(split<;>omega))) (by exact Qsx p k (by omega)))<|Jv rfl rfl rfl (Kp.refl [b3] w5) (fun w hS=>Qdz Gs rfl (Qjd _ _) (by have:=Qjc p.1 k;omega))<|Jv rfl rfl rfl (Kp.refl [b3] w5) (fun w hS=>Fs rfl rfl)<|Jv rfl rfl rfl (Kp.refl [b3] w5) (fun w hS=>Qg Ty rfl)<|Qfc rfl rfl rfl (Gr.refl w5) (fun w hS=>Ql Zh rfl (Bx.gr B9 hS) (by rfl))<|Jv rfl rfl rfl (Kp.refl [b3] w5) (fun w hS=>Oq rfl rfl (by omega))<|Jv rfl rfl rfl (Kp.refl [b3] w5) (fun w hS=>Qw rfl)<|Jv rfl rfl rfl (Kp.refl [b3] w5) (fun w hS=>Wt rfl rfl (by omega) (by omega))<|Jv rfl rfl rfl (Kp.refl [b3] w5) (fun w hS=>Lx Tryz.underlying36 (Zj).siz rfl rfl (by omega) (by omega))<|Jv rfl rfl rfl (Kp.refl [b3] w5) (fun w hS=>Ql Zj rfl (Bx.kp B10 hS (by simp<;>first|omega|(split<;>omega))) (by exact Qsw p k (by omega)))<|Jv rfl rfl rfl (Kp.refl [b3] w5) (fun w hS=>Qdz Gs rfl (Qjd _ _) (by have:=Qjc p.2 k;omega))<|Jv rfl rfl rfl (Kp.refl [b3] w5) (fun w hS=>Fs rfl rfl)<|Jv rfl rfl rfl (Kp.refl [b3] w5) (fun w hS=>Qg Gy rfl)<|Mh (b:=b3) rfl rfl rfl rfl (Uc (Zh).siz rfl rfl rfl B9 (by simp)) (by first|exact Or.inl (by simp)|exact Or.inr (by omega)) ?_
   rintro _ w6 ⟨Bw6,Mw6⟩
   have z11:=Mw6.size
   refine⟨Mw6,?_⟩
   have S12:=(Kp.md (Kp.refl [b3] w5) Mw6 (by first|exact Or.inl (by simp)|exact Or.inr (by omega)))
   refine Jv rfl rfl rfl S12 (fun w hS=>Qg Ty rfl)<|Mh (b:=b3) rfl rfl rfl rfl (Uc (Zh).siz rfl rfl rfl Bw6 (by simp)) (by first|exact Or.inl (by simp)|exact Or.inr (by omega)) ?_
   rintro _ w7 ⟨Bw7,Mw7⟩
   have z13:=Mw7.size
   refine⟨Mw7,?_⟩
   refine Qi<|Zo<|Zg<|qg 2 rfl<|qv rfl (Wt rfl rfl (by omega) (by omega))<|qv rfl (Qw rfl)<|Qi ?_
   have K_14:=(Kp.md (Kp.md (Kp.gr Kw4 Gw5) Mw6 (by simp<;>first|omega|(split<;>omega))) Mw7 (by simp<;>first|omega|(split<;>omega)))
   refine⟨rfl,k+1,?_,⟨?_,?_,K_14⟩,?_⟩
   · exact Qh
   · omega
   · rw[←Qdr _ k (by omega),←Qdr _ k (by omega)];exact Bw7
   first|omega|(dsimp only;omega)
 replace h1:=of_decide_eq_false h1
 refine Jl<|Zd<|Zd<|Jk<|Zg<|qs 2 rfl<|qv rfl (Qu Yu rfl Bw4_b3 (by rfl)) ?_
 have B15:=(Bx.kp (Bx.gr Bw2 Gw3) Kw4 (by simp<;>first|omega|(split<;>omega)))
 refine qe rfl (Ps (Yu).siz rfl rfl (by rfl) (by rfl) (by rfl) B15 (by rfl)) ?_
 rintro _ w8 ⟨Bw8,Mw8⟩
 have z16:=Mw8.size
 refine Qa<|Qs ?_
 obtain rfl:k=8:=by omega
 have X17:=(Gr.md (Gr.kp X7 Kw4 (by simp<;>first|omega|(split<;>omega))) Mw8 (by omega))
 refine⟨_,_,rfl,Fj rfl Yu rfl Bw8 (by rfl),?_⟩
 exact⟨rfl,X17⟩
set_option maxHeartbeats 1000000 in
theorem Qeg (p:W2)(w:World):
 Calls Tryz.prog 229 [pv p].toArray w fun e w'=>∃ v,e=.returned v∧(v=kv p∧Gr w w'):=by
 refine Xu 29 Tryz.func229 rfl rfl rfl<|qs 2 rfl<|qe rfl (Xp rfl (by rfl)) ?_
 rintro _ w1 ⟨b1,rfl,hbw1,Bw1,Gw1⟩
 have z1:=Gw1.size
 have lt2:=Bw1.lt
 refine qe rfl (Qz Jq (by rfl)) ?_
 rintro _ w2 ⟨b2,rfl,hbw2,Bw2,Gw2⟩
 have z3:=Gw2.size
 have lt4:=Bw2.lt
 refine qd 1 rfl<|qe rfl (Qz Jq (by rfl)) ?_
 rintro _ w3 ⟨b3,rfl,hbw3,Bw3,Gw3⟩
 have z5:=Gw3.size
 have lt6:=Bw3.lt
 refine Qa<|Qj<|qs 1 rfl<|qv rfl (Qw rfl)<|Qa<|Xz ?_
 have X7:=(Gr.trans (Gr.trans (Gr.trans (Gr.refl w) Gw1) Gw2) Gw3)
 refine Kb (α:=Nat) [4,5,6,7,8,9,10,11,12,13,14,15,16,17,18,19,20,21,22,23,24,25,26,27] (fun k=>[(5,.int .i64 (k:Int))]) (fun k wr=>(k≤8)∧Bx wr b3 36 (Lj p k)∧Kp [b3] w3 wr) (fun k=>8-k) (0) ?_ ?_ ?_
 · exact Qh
 · exact⟨by omega,(by rw[Qsz];exact Bw3),Kp.refl _ _⟩
 rintro k w4 ⟨hk,Bw4_b3,Kw4⟩
 have z8:=Kw4.size
 refine qs 1 rfl<|qv rfl (Jb rfl rfl)<|Qa<|Qj<|Hc rfl (fun h1=>?_) (fun h1=>?_)
 · -- h1 True
   replace h1:=of_decide_eq_true h1
   refine qu<|Qj<|Xz<|qs 2 rfl<|qv rfl (Qw rfl)<|qv rfl (Kj rfl)<|Qa<|Oi [b3] [(0,3),(1,3),(2,3),(3,3),(4,3),(5,3),(6,3),(7,3),(8,3),(9,3),(10,3),(11,3),(12,3),(13,3),(14,3),(15,3),(16,3),(17,3),(18,2),(19,3),(20,2)] (by kernel_rfl) (by kernel_rfl) rfl (by kernel_rfl) ?_
   intro w5 Gw5 zw5
   refine Jv rfl rfl rfl (Kp.refl [b3] w5) (fun w hS=>Qw rfl)<|Jv rfl rfl rfl (Kp.refl [b3] w5) (fun w hS=>Qw rfl)<|Jv rfl rfl rfl (Kp.refl [b3] w5) (fun w hS=>Wt rfl rfl (by omega) (by omega))<|Jv rfl rfl rfl (Kp.refl [b3] w5) (fun w hS=>Qg Gy rfl) ?_
   have B9:=(Bx.gr (Bx.kp (Bx.gr (Bx.gr Bw1 Gw2) Gw3) Kw4 (by simp<;>first|omega|(split<;>omega))) Gw5)
   refine Jv rfl rfl rfl (Kp.refl [b3] w5) (fun w hS=>Ql Zh rfl (Bx.kp B9 hS (by simp<;>first|omega|(split<;>omega))) (by rfl))<|Jv rfl rfl rfl (Kp.refl [b3] w5) (fun w hS=>Qw rfl)<|Jv rfl rfl rfl (Kp.refl [b3] w5) (fun w hS=>Qo0 rfl rfl (by omega) (by omega))<|Jv rfl rfl rfl (Kp.refl [b3] w5) (fun w hS=>Qis rfl rfl (by omega) (by omega))<|Jv rfl rfl rfl (Kp.refl [b3] w5) (fun w hS=>Qe6 rfl rfl (by omega))<|Jv rfl rfl rfl (Kp.refl [b3] w5) (fun w hS=>Qim Pn rfl)<|Jv rfl rfl rfl (Kp.refl [b3] w5) (fun w hS=>Qg Ty rfl)<|Jv rfl rfl rfl (Kp.refl [b3] w5) (fun w hS=>Ql Zh rfl (Bx.kp B9 hS (by simp<;>first|omega|(split<;>omega))) (by rfl))<|Jv rfl rfl rfl (Kp.refl [b3] w5) (fun w hS=>Qw rfl)<|Jv rfl rfl rfl (Kp.refl [b3] w5) (fun w hS=>Qo0 rfl rfl (by omega) (by omega))<|Jv rfl rfl rfl (Kp.refl [b3] w5) (fun w hS=>Qis rfl rfl (by omega) (by omega))<|Jv rfl rfl rfl (Kp.refl [b3] w5) (fun w hS=>Qe6 rfl rfl (by omega))<|Jv rfl rfl rfl (Kp.refl [b3] w5) (fun w hS=>Qim Pn rfl)<|Jv rfl rfl rfl (Kp.refl [b3] w5) (fun w hS=>Lx Tryz.underlying36 (Zj).siz rfl rfl (by omega) (by omega)) ?_
   have B10:=(Bx.gr Bw4_b3 Gw5)
   refine Mh (b:=b3) rfl rfl rfl rfl (Uc (Zj).siz rfl rfl rfl B10 (by rw[Qm7];omega)) (by first|exact Or.inl (by simp)|exact Or.inr (by omega)) ?_
   rintro _ w6 ⟨Bw6,Mw6⟩
   have z11:=Mw6.size
   refine⟨Mw6,?_⟩
   have S12:=(Kp.md (Kp.refl [b3] w5) Mw6 (by first|exact Or.inl (by simp)|exact Or.inr (by omega)))
   refine Jv rfl rfl rfl S12 (fun w hS=>Lx Tryz.underlying36 (Zj).siz rfl rfl (by omega) (by omega))<|Mh (b:=b3) rfl rfl rfl rfl (Uc (Zj).siz rfl rfl rfl Bw6 (by rw[List.length_set,Qm7];omega)) (by first|exact Or.inl (by simp)|exact Or.inr (by omega)) ?_
   rintro _ w7 ⟨Bw7,Mw7⟩
   have z13:=Mw7.size
   refine⟨Mw7,?_⟩
   refine Qi<|Zo<|Zg<|qg 2 rfl<|qv rfl (Wt rfl rfl (by omega) (by omega))<|qv rfl (Qw rfl)<|Qi ?_
   have K_14:=(Kp.md (Kp.md (Kp.gr Kw4 Gw5) Mw6 (by simp<;>first|omega|(split<;>omega))) Mw7 (by simp<;>first|omega|(split<;>omega)))
   refine⟨rfl,k+1,?_,⟨?_,?_,K_14⟩,?_⟩
   · exact Qh
   · omega
   · rw[←Qt0 p k (by omega)];exact Bw7
   first|omega|(dsimp only;omega)
 replace h1:=of_decide_eq_false h1
 refine Jl<|Zd<|Zd<|Jk<|Zg<|Qj ?_
 obtain rfl:k=8:=by omega
 refine qg 2 rfl<|qv rfl (Qu Qy rfl Bw4_b3 (by rfl)) ?_
 have B15:=(Bx.kp (Bx.gr Bw2 Gw3) Kw4 (by simp<;>first|omega|(split<;>omega)))
 refine qe rfl (Ps (Qy).siz rfl rfl (by rfl) (by rfl) (by rfl) B15 (by rfl)) ?_
 rintro _ w8 ⟨Bw8,Mw8⟩
 have z16:=Mw8.size
 refine Qa<|Qs ?_
 have X17:=(Gr.md (Gr.kp X7 Kw4 (by simp<;>first|omega|(split<;>omega))) Mw8 (by omega))
 refine⟨_,_,rfl,Fj rfl Qy rfl Bw8 (by rfl),?_⟩
 exact⟨rfl,X17⟩
end Go.Proofs.YtplcaaglieefgaaGreat

end
section
set_option linter.unusedVariables false
set_option linter.unusedSimpArgs false
namespace Go.Proofs.YtplcaaglieefgaaGreat
open Go Go.RowKit Go.Sx
theorem Ai:En Tryz.prog 226:=fun _ _=>by kernel_rfl
theorem Yw:CV Tryz.prog 3 22 .u64:=fun _ _ _=>by kernel_rfl
theorem Qkg:En Tryz.prog 228:=fun _ _=>by kernel_rfl
theorem Qkf:En Tryz.prog 227:=fun _ _=>by kernel_rfl
theorem Qkm:En Tryz.prog 306:=fun _ _=>by kernel_rfl
theorem Aj:En Tryz.prog 229:=fun _ _=>by kernel_rfl
def Nd (k:W2):List (List Value):=(List.range 32).map fun(i:Nat)=>[.int .i64 (i:Int),wv (ks k i).2]
theorem Iq (k:W2):(Nd k).length=32:=by simp[Nd]
theorem Qm1 (k:W2)(i:Nat)(h:i<32):(Nd k)[i]? = some [.int .i64 (i:Int),wv (ks k i).2]:=by simp[Nd,h]
set_option maxHeartbeats 1000000 in
theorem Qm5 (k:W2)(b:Nat)(w0:World)(hb:Bx w0 b 36 (kb k)):
 IT Tryz.prog 306 [.pointer (some ⟨b,0,none⟩)] (Nd k) [b] w0:=by
 intro l J Jx w fp hG hJ hJx hcap h0 hY
 have Bc0:=Bx.gr hb hG
 have lt1:=Bc0.lt
 refine Xu 21 Tryz.func306 rfl rfl rfl<|qs 4 rfl<|qv rfl (Qu Qy rfl Bc0 (by rfl))<|qe rfl (Wp Ai rfl (Qiu _ _)) ?_
 rintro _ w1 ⟨rfl,Gw1⟩
 have z2:=Gw1.size
 refine qe rfl (Qz Tg (by rfl)) ?_
 rintro _ w2 ⟨b2,rfl,hbw2,Bw2,Gw2⟩
 have z3:=Gw2.size
 have lt4:=Bw2.lt
 refine qe rfl (Ps (Yu).siz rfl rfl (by rfl) (by rfl) (by rfl) Bw2 (by rfl)) ?_
 rintro _ w3 ⟨Bw3,Mw3⟩
 have z5:=Mw3.size
 refine qd 1 rfl<|qv rfl (Qw rfl)<|Qa<|Xz ?_
 have hz0:b2∉fp:=fun h=>by have:=hJ.lt h0 b2 h;omega
 have hk0:Kp fp w w3:=((Gr.toKp Gw1).gr Gw2).md Mw3 (.inr (by omega))
 have hj0:J 0 fp w3:=hJ.md (hJ.gr (hJ.gr h0 Gw1) Gw2) Mw3 hz0
 have B6:=(Bx.md (Bx.gr (Bx.gr Bc0 Gw1) Gw2) Mw3 (by omega))
 refine Kb (α:=Nat) [4,7,8,9,10,11,12,13,14,15,16,17,18,19,20] (fun i=>[(7,.int .i64 (i:Int))]) (fun i wr=>(i≤32∧∃ f,J i f wr∧Kp fp w wr∧(∀ c∈f,c∈fp∨w.heap.size≤c)∧b∉f∧b2∉f)∧Bx wr b 36 (kb k)∧Bx wr b2 326 ([wv (ks k i).1,wv (ks k i).2])∧True) (fun i=>32-i) (0) ?_ ?_ ?_
 · exact Qh
 · exact⟨⟨by omega,fp,hj0,hk0,fun c hc=>.inl hc,hcap b (by simp),hz0⟩,B6,Bw3,trivial⟩
 rintro i w4 ⟨⟨hi,f,hj,hk,hf,hbf,hpf⟩,Bw4_b,Bw4_b2,Kw4⟩
 have lt7:=Bw4_b.lt
 have lt8:=Bw4_b2.lt
 refine qs 1 rfl<|qv rfl (Jb rfl rfl)<|Qa<|Qj<|Hc rfl (fun h1=>?_) (fun h1=>?_)
 · -- h1 True
   replace h1:=of_decide_eq_true h1
   refine qu<|Qj<|Xz<|qs 2 rfl<|qv rfl (Qw rfl)<|qv rfl (Kj rfl)<|Qa<|Qj<|qs 6 rfl<|qv rfl (Qw rfl)<|qv rfl (Qw rfl)<|qv rfl (Qg Ty rfl)<|qv rfl (Ql Zh rfl Bw4_b2 (by rfl))<|qe rfl (Ud rfl rfl (hY i _ f _ (Qm1 k i (by omega)) hj hk hf)) ?_
   rintro _ w5 ⟨y1,rfl,Kw5,fw5,Fw5,Jw5⟩
   have z9:=Kw5.size
   have hk5:Kp fp w w5:=hk.trans Kw5 hf
   have hf5:=Ni hf Fw5 hk.size
   have hn2:b2∉fw5:=Kt Fw5 hpf lt8
   refine qv rfl (Jj rfl)<|Qa<|Hc rfl (fun h2=>?_) (fun h2=>?_)
   · -- h2 True
     replace h2:=Qts h2
     subst h2
     refine Qs<|Zb<|Je<|Zb<|Zb<|Je<|⟨_,_,rfl,Ph rfl,?_⟩
     exact⟨hk5,.inr ⟨i+1,fw5,hf5,by rw[Iq];omega,Jw5⟩⟩
   replace h2:=Qtr h2
   subst h2
   refine qu<|qg 5 rfl ?_
   have B10:=(Bx.kp Bw4_b2 Kw5 hpf)
   refine qv rfl (Qu Yu rfl B10 (by rfl))<|qv rfl (Qw rfl)<|qv rfl (Qdz Yw rfl (by omega) (by omega))<|qe rfl (Wp Qkg rfl (Qn3 _ _ _)) ?_
   rintro _ w6 ⟨rfl,Gw6⟩
   have z11:=Gw6.size
   have B12:=(Bx.gr B10 Gw6)
   refine qe rfl (Ps (Yu).siz rfl rfl (by rfl) (by rfl) (by rfl) B12 (by rfl)) ?_
   rintro _ w7 ⟨Bw7,Mw7⟩
   have z13:=Mw7.size
   refine Qi<|Zo<|Zg<|qg 2 rfl<|qv rfl (Wt rfl rfl (by omega) (by omega))<|qv rfl (Qw rfl)<|Qi ?_
   have B15:=(Bx.md (Bx.gr (Bx.kp Bw4_b Kw5 hbf) Gw6) Mw7 (by omega))
   refine⟨rfl,i+1,?_,⟨?_,?_,?_,trivial⟩,?_⟩
   · exact Qh
   · exact⟨by omega,fw5,hJ.md (hJ.gr Jw5 Gw6) Mw7 hn2,(hk5.gr Gw6).md Mw7 (.inr (by omega)),hf5,Kt Fw5 hbf lt7,hn2⟩
   · exact B15
   · exact Bw7
   first|omega|(dsimp only;omega)
 replace h1:=of_decide_eq_false h1
 refine Jl<|Zd<|Zd<|Jk<|⟨_,_,rfl,Ph rfl,?_⟩
 obtain rfl:i=32:=by omega
 exact⟨hk,.inl ⟨f,hf,by rw[Iq];exact hj⟩⟩
set_option maxHeartbeats 1000000 in
theorem Qm4 (k:W2)(w:World):
 Calls Tryz.prog 227 [kv k].toArray w fun e w'=>∃ v,e=.returned v∧(∃ b,v=.func (.func 306) #[] [.pointer (some ⟨b,0,none⟩)].toArray∧w.heap.size≤b∧Bx w' b 36 (kb k)∧Gr w w'):=by
 refine Xu 4 Tryz.func227 rfl rfl rfl<|qs 2 rfl<|qe rfl (Xp rfl (by rfl)) ?_
 rintro _ w1 ⟨b1,rfl,hbw1,Bw1,Gw1⟩
 have z1:=Gw1.size
 have lt2:=Bw1.lt
 refine qv rfl (Kj rfl)<|qd 2 rfl<|qv rfl (Da rfl rfl)<|qv rfl (Kj rfl)<|Qa<|Qs ?_
 have X3:=(Gr.trans (Gr.refl w) Gw1)
 refine⟨_,_,rfl,Gg rfl rfl,?_⟩
 exact⟨b1,rfl,hbw1,Bw1,X3⟩
def Ak (k b:W2)(n:Nat):W2:=(List.range n).foldl (fun p i=>Od p (ks k i).2) b
theorem Qrd (k b:W2)(n:Nat):Ak k b (n+1)=Od (Ak k b n) (ks k n).2:=by simp[Ak,List.range_succ]
theorem Qm2 {k:W2}{i:Nat}{x:List Value}(h:(Nd k)[i]? = some x):i<32∧x=[.int .i64 (i:Int),wv (ks k i).2]:=by
 have hi:i<32:=by have:=(List.getElem?_eq_some_iff.1 h).1;rwa[Iq] at this
 rw[Qm1 k i hi] at h;exact⟨hi,by simpa using h.symm⟩
theorem Qm3 (k:W2):∀ x∈Nd k,x.length=2:=by intro x hx;simp[Nd] at hx;obtain⟨i,_,rfl⟩:=hx;rfl
set_option maxHeartbeats 1000000 in
theorem Al (k b:W2)(w:World):
 Calls Tryz.prog 123 [kv k,kv b].toArray w fun e w'=>∃ v,e=.returned v∧(v=kv (Pp k b)∧Gr w w'):=by
 refine Xu 19 Tryz.func123 rfl rfl rfl<|qs 3 rfl<|qe rfl (Xp rfl (by rfl)) ?_
 rintro _ w1 ⟨b1,rfl,hbw1,Bw1,Gw1⟩
 have z1:=Gw1.size
 have lt2:=Bw1.lt
 refine qe rfl (Xp rfl (by rfl)) ?_
 rintro _ w2 ⟨b2,rfl,hbw2,Bw2,Gw2⟩
 have z3:=Gw2.size
 have lt4:=Bw2.lt
 refine qe rfl (Qz Jq (by rfl)) ?_
 rintro _ w3 ⟨b3,rfl,hbw3,Bw3,Gw3⟩
 have z5:=Gw3.size
 have lt6:=Bw3.lt
 refine qd 4 rfl ?_
 have B7:=(Bx.gr Bw2 Gw3)
 refine qv rfl (Qu Qy rfl B7 (by rfl))<|qe rfl (Wp Ai rfl (Qiu _ _)) ?_
 rintro _ w4 ⟨rfl,Gw4⟩
 have z8:=Gw4.size
 refine qe rfl (Qz Tg (by rfl)) ?_
 rintro _ w5 ⟨b5,rfl,hbw5,Bw5,Gw5⟩
 have z9:=Gw5.size
 have lt10:=Bw5.lt
 refine qe rfl (Ps (Yu).siz rfl rfl (by rfl) (by rfl) (by rfl) Bw5 (by rfl)) ?_
 rintro _ w6 ⟨Bw6,Mw6⟩
 have z11:=Mw6.size
 refine Qa<|Qj<|qs 2 rfl ?_
 have B12:=(Bx.md (Bx.gr (Bx.gr (Bx.gr (Bx.gr Bw1 Gw2) Gw3) Gw4) Gw5) Mw6 (by omega))
 refine qv rfl (Qu Qy rfl B12 (by rfl))<|qe rfl (Wp Qkf rfl (Qm4 _ _)) ?_
 rintro _ w7 ⟨b7,rfl,hb7,Bk7,Gw7⟩
 have z13:=Gw7.size
 have lt14:=Bk7.lt
 refine Qa<|Xz ?_
 have X15:=(Gr.trans (Gr.md (Gr.trans (Gr.trans (Gr.trans (Gr.trans (Gr.trans (Gr.refl w) Gw1) Gw2) Gw3) Gw4) Gw5) Mw6 (by omega)) Gw7)
 have B16:=(Bx.gr Bw6 Gw7)
 refine Ch (gf:=306) (xs:=Nd k) (cap:=[b7]) rfl Qkm (Qm5 k b7 _ Bk7) (Qm3 k) rfl (fun rk fp W=>fp=[b5]∧Bx W b5 326 ([wv (Ak k b rk).1,wv (Ak k b rk).2])) (fun _ _ _ _=>False) [b5] (Qni _ _ _) (fun _=>Oh) (by simp<;>omega) (⟨rfl,B16⟩) ?_ ?_ ?_
 · rintro l rk x fp w8 hl hx ⟨rfl,Bw8⟩ Kw8 hF hln Kv
   have z17:=Kw8.size
   obtain⟨hi,rfl⟩:=Qm2 hx
   refine qg 1 rfl<|qv rfl (Kj rfl)<|Qi<|⟨rfl,(Gr.refl _),?_⟩
   rintro w9 Mw9 ⟨_,Bw9⟩
   have z18:=Mw9.size
   refine Xz<|qg 4 rfl<|qv rfl (Qu Yu rfl Bw9 (by rfl))<|qv rfl (Qw rfl)<|qe rfl (Wp Qkg rfl (Qn3 _ _ _)) ?_
   rintro _ w10 ⟨rfl,Gw10⟩
   have z19:=Gw10.size
   have B20:=(Bx.gr Bw9 Gw10)
   refine qe rfl (Ps (Yu).siz rfl rfl (by rfl) (by rfl) (by rfl) B20 (by rfl)) ?_
   rintro _ w11 ⟨Bw11,Mw11⟩
   have z21:=Mw11.size
   refine Qi<|Zo<|⟨(Kp.md (Kp.gr (Kp.refl _ _) Gw10) Mw11 (by first|exact Or.inl (by simp)|exact Or.inr (by omega))),_,fun c hc=>.inl hc,?_⟩
   exact⟨rfl,by rw[Qrd];exact Bw11⟩
 · rintro Dw12 fp w12 hDw12 Dfw12 nw12 ⟨rfl,Bw12⟩ Kw12
   have z22:=Kw12.size
   have lt22:=Df.lt (w:=w12) Dfw12
   rw[Iq] at Bw12
   refine Zo<|Zg<|qs 3 rfl<|qv rfl (Qu Yu rfl Bw12 (by rfl))<|qe rfl (Wp Aj rfl (Qeg _ _)) ?_
   rintro _ w13 ⟨rfl,Gw13⟩
   have z23:=Gw13.size
   have B24:=(Bx.gr (Bx.kp (Bx.gr (Bx.md (Bx.gr (Bx.gr Bw3 Gw4) Gw5) Mw6 (by omega)) Gw7) Kw12 (by simp<;>first|omega|(split<;>omega))) Gw13)
   refine qe rfl (Ps (Qy).siz rfl rfl (by rfl) (by rfl) (by rfl) B24 (by rfl)) ?_
   rintro _ w14 ⟨Bw14,Mw14⟩
   have z25:=Mw14.size
   refine Qa<|Qs ?_
   have DL26:=(Df.md (Df.gr Dfw12 Gw13) Mw14 (by omega))
   have L26:=Md.put (w:=w14) Dw12 (.deferred none)
   have zL26:=L26.size
   have B27:=(Bx.md Bw14 L26 (by omega))
   have X28:Gr w (w14.putObj Dw12 (.deferred none)):=(Gr.md (Gr.md (Gr.trans (Gr.kp X15 Kw12 (by simp<;>first|omega|(split<;>omega))) Gw13) Mw14 (by omega)) L26 (by omega))
   refine⟨_,_,⟨Dw12,rfl,DL26,rfl⟩,Fj rfl Qy rfl B27 (by rfl),?_⟩
   exact⟨rfl,X28⟩
 rintro _ _ _ _ _ _ _ _ _ h _
 exact h.elim
end Go.Proofs.YtplcaaglieefgaaGreat

end
section
set_option linter.unusedVariables false
set_option linter.unusedSimpArgs false
namespace Go.Proofs.YtplcaaglieefgaaGreat
open Go Go.RowKit Go.Sx
theorem Qfg:En Tryz.prog 124:=fun _ _=>by kernel_rfl
theorem Mm:En Tryz.prog 123:=fun _ _=>by kernel_rfl
theorem Qxb:ZV Tryz.prog 374 (.agg [.int .u64 0,.int .u64 0,.int .u64 0,.int .u64 0,.int .u64 0,.int .u64 0,.int .u64 0,.int .u64 0,.int .u64 0,.int .u64 0,.int .u64 0,.int .u64 0,.int .u64 0,.int .u64 0,.int .u64 0,.int .u64 0,.int .u64 0,.int .u64 0,.int .u64 0,.int .u64 0,.int .u64 0,.int .u64 0,.int .u64 0,.int .u64 0,.int .u64 0,.int .u64 0,.int .u64 0,.int .u64 0,.int .u64 0,.int .u64 0,.int .u64 0,.int .u64 0].toArray):=fun _=>by kernel_rfl
theorem Qqp:En Tryz.prog 295:=fun _ _=>by kernel_rfl
set_option maxHeartbeats 1000000 in
theorem Qoo (tag:Int)(h0:0≤tag)(h1:tag≤255)(c n:BitVec 64)(w:World):
 Calls Tryz.prog 124 [.int .u8 tag,wv c,wv n].toArray w fun e w'=>∃ v,e=.returned v∧(v=kv (blk tag c n)∧Gr w w'):=by
 refine Xu 15 Tryz.func124 rfl rfl rfl<|qs 1 rfl<|qe rfl (Qz Jq (by rfl)) ?_
 rintro _ w1 ⟨b1,rfl,hbw1,Bw1,Gw1⟩
 have z1:=Gw1.size
 have lt2:=Bw1.lt
 refine qd 9 rfl<|qv rfl (Qw rfl)<|qv rfl (Qdz Gs rfl (by omega) (by omega))<|qv rfl (Oq rfl rfl (by omega))<|qv rfl (Qw rfl)<|qv rfl (Fs rfl rfl)<|qv rfl (Qw rfl)<|qv rfl (Zk El rfl rfl)<|qe rfl (Wp Aj rfl (Qeg (blk tag c n) _)) ?_
 rintro _ w2 ⟨rfl,Gw2⟩
 have z3:=Gw2.size
 have B4:=(Bx.gr Bw1 Gw2)
 refine qe rfl (Ps (Qy).siz rfl rfl (by rfl) (by rfl) (by rfl) B4 (by rfl)) ?_
 rintro _ w3 ⟨Bw3,Mw3⟩
 have z5:=Mw3.size
 refine Qa<|Qs ?_
 have X6:=(Gr.md (Gr.trans (Gr.trans (Gr.refl w) Gw1) Gw2) Mw3 (by omega))
 refine⟨_,_,rfl,Fj rfl Qy rfl Bw3 (by rfl),?_⟩
 exact⟨rfl,X6⟩
set_option maxHeartbeats 1000000 in
theorem Wm (k:W2)(tag:Int)(h0:0≤tag)(h1:tag≤255)(n:BitVec 64)(w:World):
 Calls Tryz.prog 52 [kv k,.int .u8 tag,wv n].toArray w fun e w'=>∃ v,e=.returned v∧(v=kv (Ki k tag n)∧Gr w w'):=by
 refine Xu 12 Tryz.func52 rfl rfl rfl<|qs 2 rfl<|qe rfl (Xp rfl (by rfl)) ?_
 rintro _ w1 ⟨b1,rfl,hbw1,Bw1,Gw1⟩
 have z1:=Gw1.size
 have lt2:=Bw1.lt
 refine qe rfl (Qz Jq (by rfl)) ?_
 rintro _ w2 ⟨b2,rfl,hbw2,Bw2,Gw2⟩
 have z3:=Gw2.size
 have lt4:=Bw2.lt
 refine Qa<|Qj<|Oi [b2] [(0,3),(1,3),(2,3),(3,0),(4,0),(5,2)] (by kernel_rfl) (by kernel_rfl) rfl (by kernel_rfl) ?_
 intro w3 Gw3 zw3
 have B5:=(Bx.gr (Bx.gr Bw1 Gw2) Gw3)
 refine Jv rfl rfl rfl (Kp.refl [b2] w3) (fun w hS=>Qu Qy rfl (Bx.kp B5 hS (by simp<;>first|omega|(split<;>omega))) (by rfl))<|Jv rfl rfl rfl (Kp.refl [b2] w3) (fun w hS=>Qw rfl)<|Jv rfl rfl rfl (Kp.refl [b2] w3) (fun w hS=>Qw rfl)<|Qaz rfl rfl rfl (Wp Qfg rfl (Qoo _ (by omega) (by omega) 0#64 _ _)) ?_
 rintro _ w4 ⟨rfl,Gw4⟩
 have z6:=Gw4.size
 refine⟨Gw4,?_⟩
 refine Qaz rfl rfl rfl (Wp Mm rfl (Al _ _ _)) ?_
 rintro _ w5 ⟨rfl,Gw5⟩
 have z7:=Gw5.size
 refine⟨Gw5,?_⟩
 have B8:=(Bx.gr (Bx.gr (Bx.gr Bw2 Gw3) Gw4) Gw5)
 refine Mh (b:=b2) rfl rfl rfl rfl (Ps (Qy).siz rfl rfl (by rfl) (by rfl) (by rfl) B8 (by rfl)) (by first|exact Or.inl (by simp)|exact Or.inr (by omega)) ?_
 rintro _ w6 ⟨Bw6,Mw6⟩
 have z9:=Mw6.size
 refine⟨Mw6,?_⟩
 refine Qa<|Qs ?_
 have X10:=(Gr.md (Gr.trans (Gr.trans (Gr.trans (Gr.trans (Gr.trans (Gr.refl w) Gw1) Gw2) Gw3) Gw4) Gw5) Mw6 (by omega))
 refine⟨_,_,rfl,Fj rfl Qy rfl Bw6 (by rfl),?_⟩
 exact⟨rfl,X10⟩
def Lk (k:W2)(n:Nat):List Value:=(List.range 32).map fun i=>if i<n then wv (ks k i).2 else .int .u64 0
theorem Qt4 (k:W2)(n:Nat):(Lk k n).length=32:=by simp[Lk]
theorem Qt2 (k:W2):Lk k 0=List.replicate 32 (.int .u64 0):=by rfl
theorem Qt5 (k:W2)(n:Nat)(h:n<32):(Lk k n).set (0+(n:Int).toNat*1) (wv (ks k n).2)=Lk k (n+1):=by
 have e:0+(n:Int).toNat*1=n:=by omega
 rw[e]
 apply List.ext_getElem?
 intro i
 rw[List.getElem?_set]
 unfold Lk
 by_cases hi:i<32
 · by_cases h2:n=i
   · subst h2;simp[h]
   · have:(i<n+1)=(i<n):=by apply propext;omega
     simp[h2,hi,this]
 · simp[hi];omega
theorem Qt3 (k:W2)(n:Nat)(h:n<32):(Lk k 32)[0+((n:Int)+1-1).toNat*1]? = some (wv (ks k n).2):=by
 have e:0+((n:Int)+1-1).toNat*1=n:=by omega
 rw[e];simp[Lk,h]
theorem Qpx (k b:W2)(j:Nat)(h:j<32):Mj k b j=Qi3 (Mj k b (j+1)) (ks k j).2:=by
 unfold Mj
 rw[show 32-j=32-(j+1)+1 from by omega,List.range_succ,List.foldl_append,List.foldl_cons,List.foldl_nil,show 31-(32-(j+1))=j from by omega]
set_option maxHeartbeats 1000000 in
theorem Qb1 (k b:W2)(w:World):
 Calls Tryz.prog 211 [kv k,kv b].toArray w fun e w'=>∃ v,e=.returned v∧(v=kv (Nx k b)∧Gr w w'):=by
 refine Xu 30 Tryz.func211 rfl rfl rfl<|qs 3 rfl<|qe rfl (Xp rfl (by rfl)) ?_
 rintro _ w1 ⟨b1,rfl,hbw1,Bw1,Gw1⟩
 have z1:=Gw1.size
 have lt2:=Bw1.lt
 refine qe rfl (Xp rfl (by rfl)) ?_
 rintro _ w2 ⟨b2,rfl,hbw2,Bw2,Gw2⟩
 have z3:=Gw2.size
 have lt4:=Bw2.lt
 refine qe rfl (Qz Jq (by rfl)) ?_
 rintro _ w3 ⟨b3,rfl,hbw3,Bw3,Gw3⟩
 have z5:=Gw3.size
 have lt6:=Bw3.lt
 refine qd 1 rfl<|qe rfl (Qz Qxb (by rfl)) ?_
 rintro _ w4 ⟨b4,rfl,hbw4,Bw4,Gw4⟩
 have z7:=Gw4.size
 have lt8:=Bw4.lt
 refine Qa<|Qj<|qs 2 rfl ?_
 have B9:=(Bx.gr (Bx.gr (Bx.gr Bw1 Gw2) Gw3) Gw4)
 refine qv rfl (Qu Qy rfl B9 (by rfl))<|qe rfl (Wp Qkf rfl (Qm4 _ _)) ?_
 rintro _ w5 ⟨b5,rfl,hb5,Bk5,Gw5⟩
 have z10:=Gw5.size
 have lt11:=Bk5.lt
 refine Qa<|Xz ?_
 have X12:=(Gr.trans (Gr.trans (Gr.trans (Gr.trans (Gr.trans (Gr.refl w) Gw1) Gw2) Gw3) Gw4) Gw5)
 have B13:=(Bx.gr Bw4 Gw5)
 refine Ch (gf:=306) (xs:=Nd k) (cap:=[b5]) rfl Qkm (Qm5 k b5 _ Bk5) (Qm3 k) rfl (fun rk fp W=>fp=[b4]∧Bx W b4 374 (Lk k rk)) (fun _ _ _ _=>False) [b4] (Qni _ _ _) (fun _=>Oh) (by simp<;>omega) (⟨rfl,by rw[Qt2];exact B13⟩) ?_ ?_ ?_
 · rintro l rk x fp w6 hl hx ⟨rfl,Bw6⟩ Kw6 hF hln Kv
   have z14:=Kw6.size
   obtain⟨hi,rfl⟩:=Qm2 hx
   refine qs 1 rfl<|qv rfl (Kj rfl)<|Qa<|qg 1 rfl<|qv rfl (Kj rfl)<|Qi<|⟨rfl,(Gr.refl _),?_⟩
   rintro w7 Mw7 ⟨_,Bw7⟩
   have z15:=Mw7.size
   refine Xz<|qg 4 rfl<|qv rfl (Qw rfl)<|qv rfl (Qw rfl)<|qv rfl (Lx Tryz.underlying374 (Zh).siz rfl rfl (by omega) (by omega))<|qe rfl (Uc (Zh).siz rfl rfl rfl Bw7 (by rw[Qt4];omega)) ?_
   rintro _ w8 ⟨Bw8,Mw8⟩
   have z16:=Mw8.size
   refine Qi<|Zo<|⟨(Kp.md (Kp.refl _ _) Mw8 (by first|exact Or.inl (by simp)|exact Or.inr (by omega))),_,fun c hc=>.inl hc,?_⟩
   exact⟨rfl,by rw[←Qt5 k rk hi];exact Bw8⟩
 · rintro Dw9 fp w9 hDw9 Dfw9 nw9 ⟨rfl,Bw9⟩ Kw9
   have z17:=Kw9.size
   have lt17:=Df.lt (w:=w9) Dfw9
   rw[Iq] at Bw9
   refine Zo<|Zg<|qs 4 rfl ?_
   have B18:=(Bx.kp (Bx.gr (Bx.gr (Bx.gr Bw2 Gw3) Gw4) Gw5) Kw9 (by simp<;>first|omega|(split<;>omega)))
   refine qv rfl (Qu Qy rfl B18 (by rfl))<|qe rfl (Wp Ai rfl (Qiu _ _)) ?_
   rintro _ w10 ⟨rfl,Gw10⟩
   have z19:=Gw10.size
   refine qe rfl (Qz Tg (by rfl)) ?_
   rintro _ w11 ⟨b11,rfl,hbw11,Bw11,Gw11⟩
   have z20:=Gw11.size
   have lt21:=Bw11.lt
   refine qe rfl (Ps (Yu).siz rfl rfl (by rfl) (by rfl) (by rfl) Bw11 (by rfl)) ?_
   rintro _ w12 ⟨Bw12,Mw12⟩
   have z22:=Mw12.size
   refine Qa<|Qj<|qs 1 rfl<|qv rfl (Kj rfl)<|Qa<|Xz ?_
   have X23:=(Gr.md (Gr.trans (Gr.trans (Gr.kp X12 Kw9 (by simp<;>first|omega|(split<;>omega))) Gw10) Gw11) Mw12 (by omega))
   refine Kb (α:=Nat) [9,19,20,21,22,23,24,25,26,27] (fun j=>[(9,.int .i64 ((j:Int)-1))]) (fun j wr=>(j≤32)∧Bx wr b11 326 ([wv (Mj k b j).1,wv (Mj k b j).2])∧Kp [b11] w12 wr) (fun j=>j) (32) ?_ ?_ ?_
   · exact Qh
   · exact⟨Nat.le_refl _,Bw12,Kp.refl _ _⟩
   rintro j w13 ⟨hj,Bw13_b11,Kw13⟩
   have z24:=Kw13.size
   refine Qj<|qs 2 rfl<|qv rfl (Qw rfl)<|qv rfl (Vd rfl rfl)<|Qa<|Hc rfl (fun h1=>?_) (fun h1=>?_)
   · -- h1 True
     replace h1:=of_decide_eq_true h1
     obtain⟨j,rfl⟩:∃ i,j=i+1:=⟨j-1,by omega⟩
     refine qu<|Qj<|Xz<|Oi [b11] [(0,1),(1,3),(2,3),(3,3),(4,0),(5,2)] (by kernel_rfl) (by kernel_rfl) rfl (by kernel_rfl) ?_
     intro w14 Gw14 zw14
     have B25:=(Bx.gr Bw13_b11 Gw14)
     refine Qfc rfl rfl rfl (Gr.refl w14) (fun w hS=>Qu Yu rfl (Bx.gr B25 hS) (by rfl))<|Jv rfl rfl rfl (Kp.refl [b11] w14) (fun w hS=>Qw rfl)<|Jv rfl rfl rfl (Kp.refl [b11] w14) (fun w hS=>Lx Tryz.underlying374 (Zh).siz rfl rfl (by omega) (by omega)) ?_
     have B26:=(Bx.gr (Bx.kp (Bx.md (Bx.gr (Bx.gr Bw9 Gw10) Gw11) Mw12 (by omega)) Kw13 (by simp<;>first|omega|(split<;>omega))) Gw14)
     refine Jv rfl rfl rfl (Kp.refl [b11] w14) (fun w hS=>Ql Zh rfl (Bx.kp B26 hS (by simp<;>first|omega|(split<;>omega))) (by exact Qt3 k j (by omega)))<|Qaz rfl rfl rfl (Wp Qqp rfl (Qoj _ _ _)) ?_
     rintro _ w15 ⟨rfl,Gw15⟩
     have z27:=Gw15.size
     refine⟨Gw15,?_⟩
     have B28:=(Bx.gr B25 Gw15)
     refine Mh (b:=b11) rfl rfl rfl rfl (Ps (Yu).siz rfl rfl (by rfl) (by rfl) (by rfl) B28 (by rfl)) (by first|exact Or.inl (by simp)|exact Or.inr (by omega)) ?_
     rintro _ w16 ⟨Bw16,Mw16⟩
     have z29:=Mw16.size
     refine⟨Mw16,?_⟩
     refine Qi<|Zo<|Zg<|qg 3 rfl<|qv rfl (Qw rfl)<|qv rfl (Qis rfl rfl (by omega) (by omega))<|qv rfl (Kj rfl)<|Qi ?_
     have K_30:=(Kp.md (Kp.gr (Kp.gr Kw13 Gw14) Gw15) Mw16 (by simp<;>first|omega|(split<;>omega)))
     refine⟨rfl,j,?_,⟨?_,?_,K_30⟩,?_⟩
     · repeat' first|exact trivial|refine⟨by first|rfl|exact congrArg (fun x=>some (Value.int .i64 x)) (by omega),?_⟩
     · omega
     · rw[Qpx k b j (by omega)];exact Bw16
     first|omega|(dsimp only;omega)
   replace h1:=of_decide_eq_false h1
   obtain rfl:j=0:=by omega
   refine Jl<|Zd<|Zd<|Jk<|Zg<|qs 3 rfl<|qv rfl (Qu Yu rfl Bw13_b11 (by rfl))<|qe rfl (Wp Aj rfl (Qeg _ _)) ?_
   rintro _ w17 ⟨rfl,Gw17⟩
   have z31:=Gw17.size
   have B32:=(Bx.gr (Bx.kp (Bx.md (Bx.gr (Bx.gr (Bx.kp (Bx.gr (Bx.gr Bw3 Gw4) Gw5) Kw9 (by simp<;>first|omega|(split<;>omega))) Gw10) Gw11) Mw12 (by omega)) Kw13 (by simp<;>first|omega|(split<;>omega))) Gw17)
   refine qe rfl (Ps (Qy).siz rfl rfl (by rfl) (by rfl) (by rfl) B32 (by rfl)) ?_
   rintro _ w18 ⟨Bw18,Mw18⟩
   have z33:=Mw18.size
   refine Qa<|Qs ?_
   have DL34:=(Df.md (Df.gr (Df.kp (Df.md (Df.gr (Df.gr Dfw9 Gw10) Gw11) Mw12 (by omega)) Kw13 (by simp<;>first|omega|(split<;>omega))) Gw17) Mw18 (by omega))
   have L34:=Md.put (w:=w18) Dw9 (.deferred none)
   have zL34:=L34.size
   have B35:=(Bx.md Bw18 L34 (by omega))
   have X36:Gr w (w18.putObj Dw9 (.deferred none)):=(Gr.md (Gr.md (Gr.trans (Gr.kp X23 Kw13 (by simp<;>first|omega|(split<;>omega))) Gw17) Mw18 (by omega)) L34 (by omega))
   refine⟨_,_,⟨Dw9,rfl,DL34,rfl⟩,Fj rfl Qy rfl B35 (by rfl),?_⟩
   exact⟨rfl,X36⟩
 rintro _ _ _ _ _ _ _ _ _ h _
 exact h.elim
end Go.Proofs.YtplcaaglieefgaaGreat

end
section
set_option linter.unusedVariables false
set_option linter.unusedSimpArgs false
namespace Go.Proofs.YtplcaaglieefgaaGreat
open Go Go.RowKit Go.Sx
theorem Ft:ZV Tryz.prog 5 (.int .u8 0):=fun _=>by kernel_rfl
theorem Qja:Hf Tryz.prog 54 1 5 1 [.int .u8 0]:=Gp Tryz.underlying54 (Zj).siz Ft rfl rfl (by kernel_rfl)
theorem Tj:Pm Tryz.prog 54 5 1 1:=Sa Tryz.underlying54 rfl (by kernel_rfl)
theorem Qed:ZV Tryz.prog 22 (.int .u64 0):=fun _=>by kernel_rfl
end Go.Proofs.YtplcaaglieefgaaGreat

end
section
set_option linter.unusedVariables false
set_option linter.unusedSimpArgs false
namespace Go.Proofs.YtplcaaglieefgaaGreat
open Go Go.RowKit Go.Sx
theorem Po:CV Tryz.prog 5 3 .i64:=fun _ _ _=>by kernel_rfl
theorem Qr2:En Tryz.prog 384:=fun _ _=>by kernel_rfl
theorem Qtk (n k:Nat)(h:2^k≤n):Nat.log2 n=Nat.log2 (n / 2^k)+k:=by
 induction k generalizing n with
 | zero=>simp
 | succ k ih=>
  have h2:2^k≤n / 2:=by rw[Nat.le_div_iff_mul_le (by omega)];rw[Nat.pow_succ] at h;omega
  have h1:2≤n:=by have:0<2^k:=Nat.two_pow_pos k;rw[Nat.pow_succ] at h;omega
  rw[Nat.log2_def,if_pos h1,ih (n / 2) h2,Nat.div_div_eq_div_mul,Nat.pow_succ,Nat.mul_comm 2];omega
theorem Dz (a:Int)(k m:Nat)(hm:2^k=m)(h:(m:Int)≤a):lg a=lg (a / (m:Int))+k:=by
 obtain⟨n,rfl⟩:=Int.eq_ofNat_of_zero_le (show 0≤a by omega)
 subst hm
 have hp:0<2^k:=Nat.two_pow_pos k
 have h':2^k≤n:=by omega
 have e:((n:Int) / ((2^k:Nat):Int)).toNat=n / 2^k:=by rw[←Int.natCast_ediv];rfl
 have h1:¬ (n / 2^k=0):=by rw[Nat.div_eq_zero_iff];omega
 unfold lg
 rw[e,Int.toNat_natCast,if_neg h1,if_neg (by omega),Qtk n k h']
 omega
def Ng:ByteArray:=⟨#[0,1,2,2,3,3,3,3,4,4,4,4,4,4,4,4,5,5,5,5,5,5,5,5,5,5,5,5,5,5,5,5,6,6,6,6,6,6,6,6,6,6,6,6,6,6,6,6,6,6,6,6,6,6,6,6,6,6,6,6,6,6,6,6,7,7,7,7,7,7,7,7,7,7,7,7,7,7,7,7,7,7,7,7,7,7,7,7,7,7,7,7,7,7,7,7,7,7,7,7,7,7,7,7,7,7,7,7,7,7,7,7,7,7,7,7,7,7,7,7,7,7,7,7,7,7,7,7,8,8,8,8,8,8,8,8,8,8,8,8,8,8,8,8,8,8,8,8,8,8,8,8,8,8,8,8,8,8,8,8,8,8,8,8,8,8,8,8,8,8,8,8,8,8,8,8,8,8,8,8,8,8,8,8,8,8,8,8,8,8,8,8,8,8,8,8,8,8,8,8,8,8,8,8,8,8,8,8,8,8,8,8,8,8,8,8,8,8,8,8,8,8,8,8,8,8,8,8,8,8,8,8,8,8,8,8,8,8,8,8,8,8,8,8,8,8,8,8,8,8,8,8,8,8,8,8]⟩
theorem Qtf:∀ k:Fin 256,Ng[k.1]? = some (UInt8.ofNat (lg (k.1:Int)).toNat)∧lg (k.1:Int)=((UInt8.ofNat (lg (k.1:Int)).toNat).toNat:Int):=by decide +kernel
theorem Wy {a:Int}(h0:0≤a)(h1:a<256):Ng[a.toNat]? = some (UInt8.ofNat (lg a).toNat)∧lg a=((UInt8.ofNat (lg a).toNat).toNat:Int):=by
 obtain⟨n,rfl⟩:=Int.eq_ofNat_of_zero_le h0
 exact Qtf ⟨n,by omega⟩
theorem Ff (a:Int) : -9223372036854775808≤lg a:=by unfold lg;split<;>omega
theorem Fe {a:Int}(h0:0≤a)(h1:a<256):lg a≤9223372036854775807:=by have:=(Wy h0 h1).2;have:=(UInt8.ofNat (lg a).toNat).toNat_lt;omega
theorem Fb {b:Int}(a:Int)(h:0≤b) : -9223372036854775808≤b+lg a:=by unfold lg;split<;>omega
theorem Fc {a b:Int}(h0:0≤a)(h1:a<256)(hb:b≤1000):b+lg a≤9223372036854775807:=by have:=(Wy h0 h1).2;have:=(UInt8.ofNat (lg a).toNat).toNat_lt;omega
set_option maxRecDepth 20000 in
set_option maxHeartbeats 1000000 in
theorem Qte (a:Int)(ha1:0≤a)(ha2:a<18446744073709551616)(w:World):
 Calls Tryz.prog 384 [.int .u64 a].toArray w fun e w'=>∃ v,e=.returned v∧(v=.int .i64 (lg a)∧Gr w w'):=by
 refine Xu 25 Tryz.func384 rfl rfl rfl<|qs 1 rfl<|qv rfl (Kj rfl)<|Qa<|Qj<|qs 2 rfl<|qv rfl (Qw rfl)<|qv rfl (Vd rfl rfl)<|Qa<|Hc rfl (fun h1=>?_) (fun h1=>?_)
 · -- h1 True
   replace h1:=of_decide_eq_true h1
   refine qs 3 rfl<|qv rfl (Qw rfl)<|qv rfl (Cl (n:=32) (m:=4294967296) rfl rfl rfl (by decide))<|qv rfl (Kj rfl)<|Qa<|qg 1 rfl<|qv rfl (Kj rfl)<|Qa<|Qj<|qs 2 rfl<|qv rfl (Qw rfl)<|qv rfl (Vd rfl rfl)<|Qa<|Hc rfl (fun h2=>?_) (fun h2=>?_)
   · -- h2 True
     replace h2:=of_decide_eq_true h2
     refine qs 3 rfl<|qv rfl (Qw rfl)<|qv rfl (Cl (n:=16) (m:=65536) rfl rfl rfl (by decide))<|qv rfl (Kj rfl)<|Qa<|qg 3 rfl<|qv rfl (Qw rfl)<|qv rfl (Wt rfl rfl (by omega) (by omega))<|qv rfl (Kj rfl)<|Qa<|Qj<|qs 2 rfl<|qv rfl (Qw rfl)<|qv rfl (Vd rfl rfl)<|Qa<|Hc rfl (fun h3=>?_) (fun h3=>?_)
     · -- h3 True
       replace h3:=of_decide_eq_true h3
       refine qs 3 rfl<|qv rfl (Qw rfl)<|qv rfl (Cl (n:=8) (m:=256) rfl rfl rfl (by decide))<|qv rfl (Kj rfl)<|Qa<|qg 3 rfl<|qv rfl (Qw rfl)<|qv rfl (Wt rfl rfl (by omega) (by omega))<|qv rfl (Kj rfl)<|qd 7 rfl<|qv rfl (Qw rfl)<|qv rfl (Qw rfl)<|qv rfl (Fm Pn rfl (by omega) (by omega))<|qv rfl (Kk (Fq Tryz.underlying9 rfl rfl (by omega) (show Ng[_]? = _ from(Wy (by omega) (by omega)).1)) (congrArg (Value.int .u8) (Wy (by omega) (by omega)).2.symm))<|qv rfl (Lw Po rfl (Ff _) (Fe (by omega) (by omega)))<|qv rfl (Wt rfl rfl (Fb _ (by decide)) (Fc (by omega) (by omega) (by decide)))<|qv rfl (Kj rfl)<|Qa<|Qs<|⟨_,_,rfl,Gg rfl rfl,?_⟩
       refine⟨congrArg (Value.int .i64) ?_,(Gr.refl w)⟩
       have e0:lg (a:Int)=lg ((a:Int) / 4294967296)+32:=Dz (a:Int) 32 4294967296 (by decide) (by omega)
       have e1:lg ((a:Int) / 4294967296)=lg (((a:Int) / 4294967296) / 65536)+16:=Dz ((a:Int) / 4294967296) 16 65536 (by decide) (by omega)
       have e2:lg (((a:Int) / 4294967296) / 65536)=lg ((((a:Int) / 4294967296) / 65536) / 256)+8:=Dz (((a:Int) / 4294967296) / 65536) 8 256 (by decide) (by omega)
       omega
     replace h3:=of_decide_eq_false h3
     refine qu<|qs 7 rfl<|qv rfl (Qw rfl)<|qv rfl (Qw rfl)<|qv rfl (Fm Pn rfl (by omega) (by omega))<|qv rfl (Kk (Fq Tryz.underlying9 rfl rfl (by omega) (show Ng[_]? = _ from(Wy (by omega) (by omega)).1)) (congrArg (Value.int .u8) (Wy (by omega) (by omega)).2.symm))<|qv rfl (Lw Po rfl (Ff _) (Fe (by omega) (by omega)))<|qv rfl (Wt rfl rfl (Fb _ (by decide)) (Fc (by omega) (by omega) (by decide)))<|qv rfl (Kj rfl)<|Qa<|Qs<|⟨_,_,rfl,Gg rfl rfl,?_⟩
     refine⟨congrArg (Value.int .i64) ?_,(Gr.refl w)⟩
     have e0:lg (a:Int)=lg ((a:Int) / 4294967296)+32:=Dz (a:Int) 32 4294967296 (by decide) (by omega)
     have e1:lg ((a:Int) / 4294967296)=lg (((a:Int) / 4294967296) / 65536)+16:=Dz ((a:Int) / 4294967296) 16 65536 (by decide) (by omega)
     omega
   replace h2:=of_decide_eq_false h2
   refine qu<|Qj<|qs 2 rfl<|qv rfl (Qw rfl)<|qv rfl (Vd rfl rfl)<|Qa<|Hc rfl (fun h4=>?_) (fun h4=>?_)
   · -- h4 True
     replace h4:=of_decide_eq_true h4
     refine qs 3 rfl<|qv rfl (Qw rfl)<|qv rfl (Cl (n:=8) (m:=256) rfl rfl rfl (by decide))<|qv rfl (Kj rfl)<|Qa<|qg 3 rfl<|qv rfl (Qw rfl)<|qv rfl (Wt rfl rfl (by omega) (by omega))<|qv rfl (Kj rfl)<|qd 7 rfl<|qv rfl (Qw rfl)<|qv rfl (Qw rfl)<|qv rfl (Fm Pn rfl (by omega) (by omega))<|qv rfl (Kk (Fq Tryz.underlying9 rfl rfl (by omega) (show Ng[_]? = _ from(Wy (by omega) (by omega)).1)) (congrArg (Value.int .u8) (Wy (by omega) (by omega)).2.symm))<|qv rfl (Lw Po rfl (Ff _) (Fe (by omega) (by omega)))<|qv rfl (Wt rfl rfl (Fb _ (by decide)) (Fc (by omega) (by omega) (by decide)))<|qv rfl (Kj rfl)<|Qa<|Qs<|⟨_,_,rfl,Gg rfl rfl,?_⟩
     refine⟨congrArg (Value.int .i64) ?_,(Gr.refl w)⟩
     have e0:lg (a:Int)=lg ((a:Int) / 4294967296)+32:=Dz (a:Int) 32 4294967296 (by decide) (by omega)
     have e1:lg ((a:Int) / 4294967296)=lg (((a:Int) / 4294967296) / 256)+8:=Dz ((a:Int) / 4294967296) 8 256 (by decide) (by omega)
     omega
   replace h4:=of_decide_eq_false h4
   refine qu<|qs 7 rfl<|qv rfl (Qw rfl)<|qv rfl (Qw rfl)<|qv rfl (Fm Pn rfl (by omega) (by omega))<|qv rfl (Kk (Fq Tryz.underlying9 rfl rfl (by omega) (show Ng[_]? = _ from(Wy (by omega) (by omega)).1)) (congrArg (Value.int .u8) (Wy (by omega) (by omega)).2.symm))<|qv rfl (Lw Po rfl (Ff _) (Fe (by omega) (by omega)))<|qv rfl (Wt rfl rfl (Fb _ (by decide)) (Fc (by omega) (by omega) (by decide)))<|qv rfl (Kj rfl)<|Qa<|Qs<|⟨_,_,rfl,Gg rfl rfl,?_⟩
   refine⟨congrArg (Value.int .i64) ?_,(Gr.refl w)⟩
   have e0:lg (a:Int)=lg ((a:Int) / 4294967296)+32:=Dz (a:Int) 32 4294967296 (by decide) (by omega)
   omega
 replace h1:=of_decide_eq_false h1
 refine qu<|Qj<|qs 2 rfl<|qv rfl (Qw rfl)<|qv rfl (Vd rfl rfl)<|Qa<|Hc rfl (fun h5=>?_) (fun h5=>?_)
 · -- h5 True
   replace h5:=of_decide_eq_true h5
   refine qs 3 rfl<|qv rfl (Qw rfl)<|qv rfl (Cl (n:=16) (m:=65536) rfl rfl rfl (by decide))<|qv rfl (Kj rfl)<|Qa<|qg 3 rfl<|qv rfl (Qw rfl)<|qv rfl (Wt rfl rfl (by omega) (by omega))<|qv rfl (Kj rfl)<|Qa<|Qj<|qs 2 rfl<|qv rfl (Qw rfl)<|qv rfl (Vd rfl rfl)<|Qa<|Hc rfl (fun h6=>?_) (fun h6=>?_)
   · -- h6 True
     replace h6:=of_decide_eq_true h6
     refine qs 3 rfl<|qv rfl (Qw rfl)<|qv rfl (Cl (n:=8) (m:=256) rfl rfl rfl (by decide))<|qv rfl (Kj rfl)<|Qa<|qg 3 rfl<|qv rfl (Qw rfl)<|qv rfl (Wt rfl rfl (by omega) (by omega))<|qv rfl (Kj rfl)<|qd 7 rfl<|qv rfl (Qw rfl)<|qv rfl (Qw rfl)<|qv rfl (Fm Pn rfl (by omega) (by omega))<|qv rfl (Kk (Fq Tryz.underlying9 rfl rfl (by omega) (show Ng[_]? = _ from(Wy (by omega) (by omega)).1)) (congrArg (Value.int .u8) (Wy (by omega) (by omega)).2.symm))<|qv rfl (Lw Po rfl (Ff _) (Fe (by omega) (by omega)))<|qv rfl (Wt rfl rfl (Fb _ (by decide)) (Fc (by omega) (by omega) (by decide)))<|qv rfl (Kj rfl)<|Qa<|Qs<|⟨_,_,rfl,Gg rfl rfl,?_⟩
     refine⟨congrArg (Value.int .i64) ?_,(Gr.refl w)⟩
     have e0:lg (a:Int)=lg ((a:Int) / 65536)+16:=Dz (a:Int) 16 65536 (by decide) (by omega)
     have e1:lg ((a:Int) / 65536)=lg (((a:Int) / 65536) / 256)+8:=Dz ((a:Int) / 65536) 8 256 (by decide) (by omega)
     omega
   replace h6:=of_decide_eq_false h6
   refine qu<|qs 7 rfl<|qv rfl (Qw rfl)<|qv rfl (Qw rfl)<|qv rfl (Fm Pn rfl (by omega) (by omega))<|qv rfl (Kk (Fq Tryz.underlying9 rfl rfl (by omega) (show Ng[_]? = _ from(Wy (by omega) (by omega)).1)) (congrArg (Value.int .u8) (Wy (by omega) (by omega)).2.symm))<|qv rfl (Lw Po rfl (Ff _) (Fe (by omega) (by omega)))<|qv rfl (Wt rfl rfl (Fb _ (by decide)) (Fc (by omega) (by omega) (by decide)))<|qv rfl (Kj rfl)<|Qa<|Qs<|⟨_,_,rfl,Gg rfl rfl,?_⟩
   refine⟨congrArg (Value.int .i64) ?_,(Gr.refl w)⟩
   have e0:lg (a:Int)=lg ((a:Int) / 65536)+16:=Dz (a:Int) 16 65536 (by decide) (by omega)
   omega
 replace h5:=of_decide_eq_false h5
 refine qu<|Qj<|qs 2 rfl<|qv rfl (Qw rfl)<|qv rfl (Vd rfl rfl)<|Qa<|Hc rfl (fun h7=>?_) (fun h7=>?_)
 · -- h7 True
   replace h7:=of_decide_eq_true h7
   refine qs 3 rfl<|qv rfl (Qw rfl)<|qv rfl (Cl (n:=8) (m:=256) rfl rfl rfl (by decide))<|qv rfl (Kj rfl)<|Qa<|qg 3 rfl<|qv rfl (Qw rfl)<|qv rfl (Wt rfl rfl (by omega) (by omega))<|qv rfl (Kj rfl)<|qd 7 rfl<|qv rfl (Qw rfl)<|qv rfl (Qw rfl)<|qv rfl (Fm Pn rfl (by omega) (by omega))<|qv rfl (Kk (Fq Tryz.underlying9 rfl rfl (by omega) (show Ng[_]? = _ from(Wy (by omega) (by omega)).1)) (congrArg (Value.int .u8) (Wy (by omega) (by omega)).2.symm))<|qv rfl (Lw Po rfl (Ff _) (Fe (by omega) (by omega)))<|qv rfl (Wt rfl rfl (Fb _ (by decide)) (Fc (by omega) (by omega) (by decide)))<|qv rfl (Kj rfl)<|Qa<|Qs<|⟨_,_,rfl,Gg rfl rfl,?_⟩
   refine⟨congrArg (Value.int .i64) ?_,(Gr.refl w)⟩
   have e0:lg (a:Int)=lg ((a:Int) / 256)+8:=Dz (a:Int) 8 256 (by decide) (by omega)
   omega
 replace h7:=of_decide_eq_false h7
 refine qu<|qs 7 rfl<|qv rfl (Qw rfl)<|qv rfl (Qw rfl)<|qv rfl (Fm Pn rfl (by omega) (by omega))<|qv rfl (Kk (Fq Tryz.underlying9 rfl rfl (by omega) (show Ng[_]? = _ from(Wy (by omega) (by omega)).1)) (congrArg (Value.int .u8) (Wy (by omega) (by omega)).2.symm))<|qv rfl (Lw Po rfl (Ff _) (Fe (by omega) (by omega)))<|qv rfl (Wt rfl rfl (Fb _ (by decide)) (Fc (by omega) (by omega) (by decide)))<|qv rfl (Kj rfl)<|Qa<|Qs<|⟨_,_,rfl,Gg rfl rfl,?_⟩
 refine⟨congrArg (Value.int .i64) ?_,(Gr.refl w)⟩
 omega
set_option maxHeartbeats 1000000 in
theorem Qtg (a:Int)(ha1:0≤a)(ha2:a<18446744073709551616)(w:World):
 Calls Tryz.prog 351 [.int .u64 a].toArray w fun e w'=>∃ v,e=.returned v∧(v=.int .i64 (lg a)∧Gr w w'):=by
 refine Xu 8 Tryz.func351 rfl rfl rfl<|qs 1 rfl<|qv rfl (Kj rfl)<|Qa<|Qj<|Gi rfl<|qu<|qs 3 rfl<|qv rfl (Qw rfl)<|qe rfl (Wp Qr2 rfl (Qte _ (by omega) (by omega) _)) ?_
 rintro _ w1 ⟨rfl,Gw1⟩
 have z1:=Gw1.size
 refine qv rfl (Kj rfl)<|Qa<|Qs ?_
 have X2:=(Gr.trans (Gr.refl w) Gw1)
 refine⟨_,_,rfl,Gg rfl rfl,?_⟩
 exact⟨rfl,X2⟩
end Go.Proofs.YtplcaaglieefgaaGreat

end
section
set_option linter.unusedVariables false
set_option linter.unusedSimpArgs false
namespace Go.Sx
open Go Go.RowKit Go.Proofs Go.Sort Go.Shelf
def Ws' (k:Nat)(xs:List (List Value)):Prop:=∀ y∈xs,y.length=k
theorem Qvc {β:Type}[Inhabited β](enc:β→List Value)(k:Nat)(hk:1≤k)(hc:∀ b,(enc b).length=k)(w:World)(g n:Nat)(d:Array β)(os:Array Obj)(e:TypeId)(cur:Array Value)(hb:w.heap[g]? = some (.cells cur e (0,0)))(hl:d.size*k≤cur.size):
 ∃ cur':Array Value,(sortWorldK enc k w g 0 n d os).heap[g]? = some (.cells cur' e (0,0))∧cur'.size=cur.size∧cur'.toList.take (d.size*k)=(d.toList.map enc).flatten∧Kz [(1,g)] w (sortWorldK enc k w g 0 n d os):=by
 have Kv:g<w.heap.size:=(Array.getElem?_eq_some_iff.1 hb).1
 have hh:(sortWorldK enc k w g 0 n d os).heap=(w.heap.modify g (onCells (putCells id 0 (flatK enc k d))))++os:=rfl
 refine⟨putCells id 0 (flatK enc k d) cur,?_,by simp[putCells],?_,?_⟩
 · rw[hh,Array.getElem?_append_left (by simpa using Kv),Array.getElem?_modify,if_pos rfl,hb];rfl
 · apply List.ext_getElem?
   intro t
   rw[List.getElem?_take]
   have hfl:((d.toList.map enc).flatten).length=d.size*k:=by
    have:Ws' k (d.toList.map enc):=by
     intro y hy;obtain⟨b,_,rfl⟩:=List.mem_map.1 hy;exact hc b
    have h2:∀ (xs:List (List Value)),Ws' k xs→xs.flatten.length=xs.length*k:=by
     intro xs
     induction xs with
     | nil=>intro _;simp
     | cons a xs ih=>intro h;rw[List.flatten_cons,List.length_append,ih (fun y hy=>h y (List.mem_cons_of_mem _ hy)),h a (by simp),List.length_cons,Nat.add_mul];omega
    rw[h2 _ this];simp
   by_cases ht:t<d.size*k
   · rw[if_pos ht]
     have htc:t<cur.size:=by omega
     have h3:(putCells id 0 (flatK enc k d) cur).toList[t]? = some ((flatK enc k d)[t]!):=by
      simp only[putCells,Array.getElem?_toList,Array.getElem?_mapIdx,Array.getElem?_eq_getElem htc,Option.map_some,Nat.zero_le,true_and,Nat.zero_add,size_flatK,ht,if_true,Nat.sub_zero,id]
     rw[h3,get_flatK enc k d t ht]
     have hq:t / k<d.size:=(Nat.div_lt_iff_lt_mul (by omega)).2 ht
     have hm:t%k<k:=Nat.mod_lt _ (by omega)
     have hgen:∀ (xs:List (List Value)),Ws' k xs→∀ i j c,xs[i]? = some c→j<k→xs.flatten[i*k+j]? = c[j]? := by
      intro xs
      induction xs with
      | nil=>intro _ i j c h;simp at h
      | cons a xs ih=>
       intro hw i j c h hj
       have ha:=hw a (by simp)
       rw[List.flatten_cons]
       cases i with
       | zero=>simp at h;subst h;rw[Nat.zero_mul,Nat.zero_add,List.getElem?_append_left (by omega)]
       | succ i=>
        rw[List.getElem?_append_right (by rw[ha,Nat.add_mul];omega),show(i+1)*k+j-a.length=i*k+j from by rw[ha,Nat.add_mul];omega]
        exact ih (fun y hy=>hw y (List.mem_cons_of_mem _ hy)) i j c (by simpa using h) hj
     have h4:=hgen (d.toList.map enc) (fun y hy=>by obtain⟨b,_,rfl⟩:=List.mem_map.1 hy;exact hc b) (t / k) (t%k) (enc d[t / k]!) (by simp[hq]) hm
     have hdm:t / k*k+t%k=t:=by rw[Nat.mul_comm];exact Nat.div_add_mod t k
     rw[hdm] at h4
     rw[h4]
     have h5:t%k<(enc d[t / k]!).length:=by rw[hc];exact hm
     simp[h5]
   · rw[if_neg ht,List.getElem?_eq_none (by omega)]
 · refine⟨rfl,rfl,rfl,by rw[hh];simp,fun i hi hn=>?_⟩
   have hne:g≠i:=by
    simp only[Jo] at hn
    rcases hn.1 with h|h
    · omega
    · exact fun e=>h e.symm
   rw[hh,Array.getElem?_append_left (by simpa using hi),Array.getElem?_modify,if_neg hne]
section
variable {P:Program} {ρ:Ren}
theorem Qvd {β:Type}(c:β→List Value)(k:Nat)(hc:∀ b,(c b).length=k)(h1:∀ b,Jn (c b)=true)(hk:1≤k)(key:β→Int)(cf:Nat)(L:SlLaysF0.n6 P ρ)(aE:∀ w,(isAgg (ρ.t 24)).run P w=.ok true w)(zE:∀ w,(Go.sizeOf (ρ.t 24)).run P w=.ok k w)
 (eg:∀ args w,(callFunc cf args).run P w=.ok (.enter cf args) w)
 (hcmp:∀ (x y:β) (W:World),0≤key x∧key x<4611686018427387904→0≤key y∧key y<4611686018427387904→Calls P cf #[.agg (c x).toArray,.agg (c y).toArray] W fun e w'=>e=.returned (.int .i64 (key x-key y))∧∃ q os',w'=grow (W.drewN q) os')
 {l m:List β} (hm:Ce key l=some m) (w:World) (z g:Nat) (e:TypeId) (v:Value) (h:Qe w z g e k v (l.map c)):
 Calls P (ρ.f 6) #[v,.func (.func cf) #[] #[]] w fun e' w'=>∃ v',e'=.returned v'∧(Qe w' z g e k v (m.map c)∧Kz [(z,g)] w w'):=by
 obtain⟨rfl,hbd,hnd,hlen⟩:=Qvg hm
 rcases h.2 with⟨hz,rfl,h0⟩|⟨hz,cap,cur,rfl,hb,hn,hcap,hsz,htk⟩
 · have hl0:l=[]:=by simpa using h0
   subst hl0
   refine(AnyF.slices_SortFunc_none L none 0 (.func (.func cf) #[] #[]) w).mono ?_
   rintro e' w' ⟨rfl,rfl⟩
   exact⟨_,rfl,by simpa using h,Kz.refl _ _⟩
 · by_cases hl0:l=[]
   · subst hl0
     have:(([]:List β).map c).length=0:=rfl
     rw[this]
     refine(AnyF.slices_SortFunc_none L (some ⟨g,0,none⟩) cap (.func (.func cf) #[] #[]) w).mono ?_
     rintro e' w' ⟨rfl,rfl⟩
     exact⟨_,rfl,by simpa using h,Kz.refl _ _⟩
   · obtain⟨b0,hb0⟩:=List.exists_mem_of_ne_nil l hl0
     let A:={ x:β // x∈l }
     letI:Inhabited A:=⟨⟨b0,hb0⟩⟩
     let enc:A→List Value:=fun x=>c x.1
     let d:Array A:=l.attach.toArray
     let cfn:A→A→Int:=fun x y=>key x.1-key y.1
     have hds:d.size=l.length:=by show l.attach.toArray.size=l.length;simp
     have Kv:∀ x y:A,ltOf cfn x y=decide (key x.1<key y.1):=fun x y=>by
      unfold ltOf;apply decide_eq_decide.2;show key x.1-key y.1<0↔_;omega
     have hO:SWO (ltOf cfn):=⟨fun x=>by rw[Kv];simp,fun x y z h1 h2=>by rw[Kv] at *;simp at *;omega,fun x y z h1 h2=>by rw[Kv] at *;simp at *;omega⟩
     have hT:∀ x y:A,ltOf cfn x y=false→ltOf cfn y x=false→x=y:=fun x y h1 h2=>by
      rw[Kv] at h1 h2
      simp at h1 h2
      have he:key x.1=key y.1:=by omega
      apply Subtype.ext
      obtain⟨i,hi,ei⟩:=List.mem_iff_getElem.1 x.2
      obtain⟨j,hj,ej⟩:=List.mem_iff_getElem.1 y.2
      have hij:i=j:=(List.getElem_inj (h₀:=by simpa using hi) (h₁:=by simpa using hj) hnd).1 (by rw[List.getElem_map,List.getElem_map,ei,ej];exact he)
      subst hij;rw[←ei,←ej]
     have hmk:d.toList.map enc=l.map c:=by
      show l.attach.toArray.toList.map (fun x:A=>c x.1)=l.map c
      show List.map (fun x:{ x:β // x∈l }=>c x.1) l.attach=l.map c
      exact List.attach_map_val
     rw[List.length_map] at hn htk
     have hle:d.size*k≤cur.size:=by rw[hds,hsz];exact Nat.mul_le_mul_right _ hn
     have hH:HoldsK enc k w g 0 d:=by
      intro j hj
      rw[size_flatK] at hj
      rw[get_flatK enc k d j hj]
      have hq:j / k<d.size:=(Nat.div_lt_iff_lt_mul (by omega)).2 hj
      have hm':j%k<k:=Nat.mod_lt _ (by omega)
      have hcell:w.cell? ⟨g,0+j,none⟩=cur[j]? := by rw[Nat.zero_add,cell_of_row w g j _ e _ hb]
      have hws:Ws k (l.map c):=h.1
      have hat:=hws.at (j / k) (j%k) (c (l[j / k]'(by omega))) (by simp[show j / k<l.length by omega]) hm'
      have hdm:j / k*k+j%k=j:=by rw[Nat.mul_comm];exact Nat.div_add_mod j k
      rw[hdm,←htk,List.getElem?_take,if_pos (by rw[hds] at hj;exact hj),Array.getElem?_toList] at hat
      have hdj:enc d[j / k]! = c (l[j / k]'(by omega)):=by
       have:d[j / k]! = ⟨l[j / k]'(by omega),List.getElem_mem _⟩:=by
        have hjl:j / k<d.size:=hq
        rw[getElem!_pos d (j / k) hjl]
        show(l.attach.toArray)[j / k]'(by simpa using(show j / k<l.length by omega))=_
        simp
       rw[this]
      refine⟨?_,?_⟩
      · rw[hcell,hat,hdj]
        have h5:j%k<(c (l[j / k]'(by omega))).length:=by rw[hc];exact hm'
        simp[h5]
      · simp[World.frozen?,hb]
     have hcl:CmpLays P cf #[] enc k cfn g 0 d.size w:=fun mm os dk hs x y=>by
      have:=hcmp x.1 y.1 (sortWorldK enc k w g 0 mm dk os) (hbd _ x.2) (hbd _ y.2)
      simpa[enc,cfn] using this
     have hone:∀ x:A,∀ u∈enc x,u.oneCell'=true:=fun x u hu=>by
      have hws:Ws k (l.map c):=h.1
      exact hws.one u (List.mem_flatten.2 ⟨c x.1,List.mem_map.2 ⟨x.1,x.2,rfl⟩,hu⟩)
     have:=AnyQ.slices_SortFunc_total L k aE zE enc (fun x=>hc x.1) hone cfn hO cf #[] g 0 cap d w eg hcl hH (Array.getElem?_eq_some_iff.1 hb).1 (by omega) hT
     rw[hds] at this
     rw[List.length_map]
     refine this.mono ?_
     rintro e' w' ⟨rfl,n,os,rfl⟩
     have hms:(d.toList.mergeSort fun x y => !(ltOf cfn) y x).map enc=(l.mergeSort fun a b=>decide (key a≤key b)).map c:=by
      have e1:(d.toList.mergeSort fun x y => !(ltOf cfn) y x).map Subtype.val=(l.mergeSort fun a b=>decide (key a≤key b)):=by
       rw[List.map_mergeSort (s:=fun a b=>decide (key a≤key b)) (fun a _ b _=>by rw[Kv];by_cases hh:key b.1<key a.1<;>simp[hh]<;>omega)]
       congr 1
       show List.map Subtype.val l.attach=l
       simp
      rw[←e1,List.map_map];rfl
     have hsl:(d.toList.mergeSort fun x y => !(ltOf cfn) y x).toArray.size=l.length:=by rw[List.size_toArray,List.length_mergeSort];exact hds
     obtain⟨cur',q1,q2,q3,q4⟩:=Qvc enc k hk (fun x=>hc x.1) w g n (d.toList.mergeSort fun x y => !(ltOf cfn) y x).toArray os e cur hb (by rw[hsl,←hds];exact hle)
     rw[hsl,List.toList_toArray,hms] at q3
     refine⟨_,rfl,⟨?_,.inr ⟨hz,cap,cur',?_,q1,?_,?_,?_,?_⟩⟩,by rw[hz];exact q4⟩
     · exact Qo5 fun x _=>⟨hc x,h1 x⟩
     · rw[List.length_map,List.length_mergeSort]
     · rw[List.length_map,List.length_mergeSort];exact hn
     · exact hcap
     · rw[q2];exact hsz
     · rw[List.length_map,List.length_mergeSort];exact q3
end
end Go.Sx

end
