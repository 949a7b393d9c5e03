/- Several texts in one: GaM GhM GcM GeM GfM GdM GkM GbM GtM GwM GyM GzM CkM OpnCk MirT MirM BitL Srt. -/
import Derived.Test.YtopkalcefepilaaGreatZc
import Derived.Test.YtopkalcefepilaaGreatRows
import Derived.KernelRfl
import Derived.Test.YtopkalcefepilaaGreatZb
import Derived.Shelf.SlSortCmp.NoneTotal
set_option linter.unusedVariables false
set_option linter.unusedSimpArgs false
section
set_option linter.unusedVariables false
set_option maxRecDepth 100000
namespace Go.Sx
open Go Go.RowKit
structure Xz where
 P:BitVec 64
 Q:BitVec 64
 G:BitVec 64
deriving DecidableEq,Inhabited
def Xz.cs (x:Xz)  : List Value:=[wv x.P,wv x.Q,wv x.G]
theorem Xz.cs_ones (x:Xz)   : Zx (Xz.cs x )=true:=by simp only[Xz.cs,List.cons_append,List.nil_append,kb,Zx,Dx,Dw,Dy,cond_true]
theorem Xz.cs_inj {x y:Xz}(h:Xz.cs x=Xz.cs y):x=y:=by
 have h0:x.P=y.P:=Qdw (congrArg (fun l=>l[0]?) h)
 have h1:x.Q=y.Q:=Qdw (congrArg (fun l=>l[1]?) h)
 have h2:x.G=y.G:=Qdw (congrArg (fun l=>l[2]?) h)
 cases x;cases y;simp only at *;subst h0;subst h1;subst h2;rfl
theorem Xz.ws (l:List Xz):Ws 3 (l.map Xz.cs):=Fe l (fun _=>rfl) (fun _=>rfl)
structure Qo where
 Kind:BitVec 8
 Depth:Int
 Degree:Int
 Group:Xz
deriving DecidableEq,Inhabited
def Qo.cs (x:Qo)  : List Value:=[bv x.Kind,.int .i64 x.Depth,.int .i64 x.Degree,wv x.Group.P,wv x.Group.Q,wv x.Group.G]
theorem Qo.cs_ones (x:Qo)   : Zx (Qo.cs x )=true:=by simp only[Qo.cs,List.cons_append,List.nil_append,kb,Zx,Dx,Dw,Dy,cond_true]
theorem Qo.cs_inj {x y:Qo}(h:Qo.cs x=Qo.cs y):x=y:=by
 have h0:x.Kind=y.Kind:=Qha (congrArg (fun l=>l[0]?) h)
 have h1:x.Depth=y.Depth:=Vv (congrArg (fun l=>l[1]?) h)
 have h2:x.Degree=y.Degree:=Vv (congrArg (fun l=>l[2]?) h)
 have h3:x.Group=y.Group:=Xz.cs_inj (congrArg (fun l=>(l.drop 3).take 3) h)
 cases x;cases y;simp only at *;subst h0;subst h1;subst h2;subst h3;rfl
theorem Qo.ws (l:List Qo):Ws 6 (l.map Qo.cs):=Fe l (fun _=>rfl) (fun _=>rfl)
structure Qm where
 Node:Int
 Minus:Int
deriving DecidableEq,Inhabited
def Qm.cs (x:Qm)  : List Value:=[.int .i64 x.Node,.int .i64 x.Minus]
theorem Qm.cs_ones (x:Qm)   : Zx (Qm.cs x )=true:=by simp only[Qm.cs,List.cons_append,List.nil_append,kb,Zx,Dx,Dw,Dy,cond_true]
theorem Qm.cs_inj {x y:Qm}(h:Qm.cs x=Qm.cs y):x=y:=by
 have h0:x.Node=y.Node:=Vv (congrArg (fun l=>l[0]?) h)
 have h1:x.Minus=y.Minus:=Vv (congrArg (fun l=>l[1]?) h)
 cases x;cases y;simp only at *;subst h0;subst h1;rfl
theorem Qm.ws (l:List Qm):Ws 2 (l.map Qm.cs):=Fe l (fun _=>rfl) (fun _=>rfl)
structure Xl where
 kind:BitVec 8
 depth:Int
 stride:Int
deriving DecidableEq,Inhabited
def Xl.cs (x:Xl)  : List Value:=[bv x.kind,.int .i64 x.depth,.int .i64 x.stride]
theorem Xl.cs_ones (x:Xl)   : Zx (Xl.cs x )=true:=by simp only[Xl.cs,List.cons_append,List.nil_append,kb,Zx,Dx,Dw,Dy,cond_true]
theorem Xl.cs_inj {x y:Xl}(h:Xl.cs x=Xl.cs y):x=y:=by
 have h0:x.kind=y.kind:=Qha (congrArg (fun l=>l[0]?) h)
 have h1:x.depth=y.depth:=Vv (congrArg (fun l=>l[1]?) h)
 have h2:x.stride=y.stride:=Vv (congrArg (fun l=>l[2]?) h)
 cases x;cases y;simp only at *;subst h0;subst h1;subst h2;rfl
theorem Xl.ws (l:List Xl):Ws 3 (l.map Xl.cs):=Fe l (fun _=>rfl) (fun _=>rfl)
structure Ww where
 a0:Int
 a1:Int
 a2:Int
 a3:Int
deriving DecidableEq,Inhabited
def Ww.cs (x:Ww)  : List Value:=[.int .i64 x.a0,.int .i64 x.a1,.int .i64 x.a2,.int .i64 x.a3]
theorem Ww.cs_ones (x:Ww)   : Zx (Ww.cs x )=true:=by simp only[Ww.cs,List.cons_append,List.nil_append,kb,Zx,Dx,Dw,Dy,cond_true]
theorem Ww.cs_inj {x y:Ww}(h:Ww.cs x=Ww.cs y):x=y:=by
 have h0:x.a0=y.a0:=Vv (congrArg (fun l=>l[0]?) h)
 have h1:x.a1=y.a1:=Vv (congrArg (fun l=>l[1]?) h)
 have h2:x.a2=y.a2:=Vv (congrArg (fun l=>l[2]?) h)
 have h3:x.a3=y.a3:=Vv (congrArg (fun l=>l[3]?) h)
 cases x;cases y;simp only at *;subst h0;subst h1;subst h2;subst h3;rfl
theorem Ww.ws (l:List Ww):Ws 4 (l.map Ww.cs):=Fe l (fun _=>rfl) (fun _=>rfl)
structure Kq where
 a0:List Int
 a1:List Int
 a2:List Int
 a3:List Int
deriving DecidableEq,Inhabited
def Kq.cs (x:Kq)(v0:Value)(v1:Value)(v2:Value)(v3:Value):List Value:=[v0,v1,v2,v3]
theorem Kq.cs_ones (x:Kq)(v0:Value)(v1:Value)(v2:Value)(v3:Value)(h0:oneB v0=true)(h1:oneB v1=true)(h2:oneB v2=true)(h3:oneB v3=true):Zx (Kq.cs x v0 v1 v2 v3)=true:=by simp only[Kq.cs,List.cons_append,List.nil_append,kb,Zx,Dx,Dw,Dy,cond_true,h0,h1,h2,h3]
structure Qz where
 s:Qo
 stride:Int
 rows:Kq
 states:Int
deriving DecidableEq,Inhabited
def Qz.cs (x:Qz)(v0:Value)(v1:Value)(v2:Value)(v3:Value):List Value:=[bv x.s.Kind,.int .i64 x.s.Depth,.int .i64 x.s.Degree,wv x.s.Group.P,wv x.s.Group.Q,wv x.s.Group.G,.int .i64 x.stride,v0,v1,v2,v3,.int .i64 x.states]
theorem Qz.cs_ones (x:Qz)(v0:Value)(v1:Value)(v2:Value)(v3:Value)(h0:oneB v0=true)(h1:oneB v1=true)(h2:oneB v2=true)(h3:oneB v3=true):Zx (Qz.cs x v0 v1 v2 v3)=true:=by simp only[Qz.cs,List.cons_append,List.nil_append,kb,Zx,Dx,Dw,Dy,cond_true,h0,h1,h2,h3]
def Ra (p0:Qo)(rec2:(Int)→Option (Xl × Bool))(a3:Int):Option (Xl × Bool):=(if Qb (a3*a3)<p0.Depth then(rec2 (Qb (a3+1))) else(some ((Xl.mk p0.Kind p0.Depth a3),true)))
def Lj (p0:Qo)(a1:Bool):Option (Xl × Bool):=(bif a1 then(some ((Xl.mk 0#8 0 0),false)) else(Qs (Ra p0) Qy 1))
def Co (p0:Qo):Option (Xl × Bool):=(if p0.Kind<1#8 then(Lj p0 true) else(if 3#8<p0.Kind then(Lj p0 true) else(if p0.Depth<0 then(Lj p0 true) else(if(6:Int)<p0.Depth then(Lj p0 true) else(Lj p0 (decide (p0≠(Qo.mk p0.Kind p0.Depth 0 (Xz.mk 0#64 0#64 0#64)))))))))
def Qa8 (p0:Qo):Option (Int):=Option.bind (Co p0) fun x1=>((bif (!x1.2) then(some 30) else(some 0)))
def Qc0 (p0:Int)(rec1:(Int)→Option (Int))(a2:Int):Option (Int):=(if Qb (a2*a2)<p0 then(rec1 (Qb (a2+1))) else(some a2))
def Qff (p0:Int):Option (Int):=(Qs (Qc0 p0) Qy 1)
def Qc8 (p0:Int):Option (Int):=Option.bind (Ju p0) fun nn1=>((some (Qb ((Xr 1 nn1)+1))))
def Rv (p0:Qz)(p1:Int):Option (Int):=(if p1=0 then(some 0) else(if p1=3 then(some 2) else(some 1)))
def Qfd (p0:Int)(p1:Int):Option (Int × Int):=(some (p0,p1))
def Qbz (p2:Int)(nn1:Nat)(rec1:(Int)→Option (List Int))(a3:Int):Option (List Int):=(if a3≤Mn p2 (Xr 1 nn1) then(yl a3 ((rec1 (Qb (a3+1))))) else(some []))
def Qfe (p1:Int)(p2:Int):Option (List Int):=Option.bind (Ju (Qb (p1-1))) fun nn1=>((Qs (Qbz p2 nn1) Qy (Vp 0 (Qb (p2-(Xr 1 nn1))))))
def Ie (p0:Qz)(p1:Int)(p2:Int):Option (List Int):=Option.bind (Ju p2) fun nn1=>(Option.bind (Qc8 p2) fun x2=>((if p1=0 then Option.bind (Wg p0.rows.a0 (Qb ((Qb ((Xr 1 nn1)-1))+p2)) (Qb ((Qb ((Qb ((Xr 1 nn1)-1))+p2))+x2))) fun l3=>((some l3)) else(if p1=1 then Option.bind (Wg p0.rows.a1 (Qb ((Qb ((Xr 1 nn1)-1))+p2)) (Qb ((Qb ((Qb ((Xr 1 nn1)-1))+p2))+x2))) fun l4=>((some l4)) else(if p1=2 then Option.bind (Wg p0.rows.a2 (Qb ((Qb ((Xr 1 nn1)-1))+p2)) (Qb ((Qb ((Qb ((Xr 1 nn1)-1))+p2))+x2))) fun l5=>((some l5)) else(if p1=3 then Option.bind (Wg p0.rows.a3 (Qb ((Qb ((Xr 1 nn1)-1))+p2)) (Qb ((Qb ((Qb ((Xr 1 nn1)-1))+p2))+x2))) fun l6=>((some l6)) else none))))))
def Qc3 (p1:Int)(a3:Bool):Option (Int):=(bif a3 then(some 3) else(if p1=0 then(some 2) else(some p1)))
def Qc2 (p1:Int)(x1:Int)(a2:Bool):Option (Int):=(bif a2 then(some 1) else(if p1=2 then(Qc3 p1 (decide (x1=0))) else(Qc3 p1 false)))
def Qc1 (p0:Qz)(p1:Int)(p2:Int):Option (Int):=(if p0.s.Kind=2#8 then(some 1) else Option.bind (Ss (Qb (p0.s.Depth-p2)) p0.stride) fun x1=>((if p1=0 then(Qc2 p1 x1 (decide (x1=0))) else(Qc2 p1 x1 false))))
def Qc6 (p0:Qz)(p1:Int)(p2:Int)(p3:Int)(p4:Int)(x1:List Int)(a4:Bool):Option (Int):=(bif a4 then Option.bind (Xd x1 p4) fun y5=>(Option.bind (Xd x1 (Qb (p3-p4))) fun y6=>(Option.bind (Rv p0 p1) fun x7=>((some (Qb ((Qb (y5+y6))+x7)))))) else Option.bind (Qc1 p0 p1 p2) fun x8=>(Option.bind (Ie p0 x8 (Qb (p2-1))) fun x9=>(Option.bind (Xd x9 p3) fun y10=>((some y10)))))
def Qfk (p0:Qz)(p1:Int)(p2:Int)(p3:Int)(p4:Int):Option (Int):=Option.bind (Ie p0 0 (Qb (p2-1))) fun x1=>((if p0.s.Kind=1#8 then Option.bind (Xd x1 p4) fun y2=>(Option.bind (Xd x1 (Qb (p3-p4))) fun y3=>((some (Qb (y2+y3))))) else(if(0:Int)<p4 then(Qc6 p0 p1 p2 p3 p4 x1 (decide (p4<p3))) else(Qc6 p0 p1 p2 p3 p4 x1 false))))
def Qfh (p0:Int)(p1_p:Qz)(p2:Int)(p3:Int)(p4:Int):Option (Int):=Option.bind (Qfk p1_p p2 p3 p4 p0) fun x1=>((some x1))
def Qbj (a5:Int)(a6:Int)(a7:Bool)(nx1:(Int × Int × Bool)→Option (Int × Int))(e8:Int)(x9:Int)(a10:Bool):Option (Int × Int):=(bif a10 then(nx1 (x9,e8,false)) else(nx1 (a5,a6,a7)))
def Qbi  (s:Int × Int × Bool):Option (Int × Int):=match s with|(a5,a6,a7)=>(some (a5,a6))
def Qbk (p1_0_p:Qz)(p1_1:Int)(p1_2:Int)(p1_3:Int)(e8:Int)(nx1:(Int × Int × Bool)→Option (Int × Int))(s:Int × Int × Bool):Option (Int × Int):=match s with|(a5,a6,a7)=>Option.bind (Qfh e8 p1_0_p p1_1 p1_2 p1_3) fun x9=>((bif a7 then(Qbj a5 a6 a7 nx1 e8 x9 true) else(Qbj a5 a6 a7 nx1 e8 x9 (decide (a5<x9)))))
def Qfa (p0_0:Int)(p0_1:Int)(p1_0_p:Qz)(p1_1:Int)(p1_2:Int)(p1_3:Int):Option (Int × Int):=Option.bind (Qfe p0_0 p0_1) fun l1=>((Ku (Qbk p1_0_p p1_1 p1_2 p1_3) Qbi l1 (0,0,true)))
def Ru (p0:Qz)(p1:Int)(p2:Int)(p3:Int):Option (Int × Int):=Option.bind (Qfd p2 p3) fun x1=>(Option.bind (Qfa x1.1 x1.2 p0 p1 p2 p3) fun x2=>((some (x2.1,x2.2))))
def Ib (p0:Qo)(y1:Int)(x2:Int)(a35:Int)(a56:Int)(a58:List Int)(a59:List Int)(a60:List Int)(nn65:Nat)(nn67:Nat)(a71:Int)(a72:List Int)(rec4:(Int × List Int)→Option (Qz))(a77:Bool):Option (Qz):=(bif a77 then Option.bind (Wa (Qb ((Qb ((Xr 1 nn65)-1))+a35)) nn67 a71) fun j78=>(Option.bind (Xd a72 j78) fun y79=>((rec4 (Qb (a71+1),a72.set j78.toNat 0)))) else(if a35=0 then Option.bind (Rv (Qz.mk p0 x2 (Kq.mk a72 a58 a59 a60) y1) a56) fun x80=>(Option.bind (Wa (Qb ((Qb ((Xr 1 nn65)-1))+a35)) nn67 a71) fun j81=>(Option.bind (Xd a72 j81) fun y82=>((rec4 (Qb (a71+1),a72.set j81.toNat x80))))) else Option.bind (Ru (Qz.mk p0 x2 (Kq.mk a72 a58 a59 a60) y1) a56 a35 a71) fun x83=>(Option.bind (Wa (Qb ((Qb ((Xr 1 nn65)-1))+a35)) nn67 a71) fun j84=>(Option.bind (Xd a72 j84) fun y85=>((rec4 (Qb (a71+1),a72.set j84.toNat x83.1)))))))
def Qbq (p0:Qo)(y1:Int)(x2:Int)(a35:Int)(a56:Int)(a58:List Int)(a59:List Int)(a60:List Int)(nn65:Nat)(nn67:Nat)(a71:Int)(a72:List Int)(rec4:(Int × List Int)→Option (Qz))(a74:Bool):Option (Qz):=(bif a74 then Option.bind (Wa (Qb ((Qb ((Xr 1 nn65)-1))+a35)) nn67 a71) fun j75=>(Option.bind (Xd a72 j75) fun y76=>((rec4 (Qb (a71+1),a72.set j75.toNat 1)))) else(if a71=0 then(Ib p0 y1 x2 a35 a56 a58 a59 a60 nn65 nn67 a71 a72 rec4 true) else(if p0.Kind=1#8 then(Ib p0 y1 x2 a35 a56 a58 a59 a60 nn65 nn67 a71 a72 rec4 (decide (a35=0))) else(Ib p0 y1 x2 a35 a56 a58 a59 a60 nn65 nn67 a71 a72 rec4 false))))
def Qbx (p0:Qo)(y1:Int)(x2:Int)(a35:Int)(a56:Int)(a58:List Int)(a59:List Int)(a60:List Int)(rec3:(Int × List Int × List Int × List Int × List Int)→Option (Qz))(nn65:Nat)(nn67:Nat)(rec4:(Int × List Int)→Option (Qz))(s4:Int × List Int):Option (Qz):=match s4 with|(a71,a72)=>(if a71<(nn67:Int) then(if p0.Kind=1#8 then(Qbq p0 y1 x2 a35 a56 a58 a59 a60 nn65 nn67 a71 a72 rec4 (decide (a71=0))) else(Qbq p0 y1 x2 a35 a56 a58 a59 a60 nn65 nn67 a71 a72 rec4 false)) else(rec3 (Qb (a56+1),a72,a58,a59,a60)))
def Ic (p0:Qo)(y1:Int)(x2:Int)(a35:Int)(a56:Int)(a57:List Int)(a59:List Int)(a60:List Int)(nn65:Nat)(nn86:Nat)(a90:Int)(a91:List Int)(rec7:(Int × List Int)→Option (Qz))(a96:Bool):Option (Qz):=(bif a96 then Option.bind (Wa (Qb ((Qb ((Xr 1 nn65)-1))+a35)) nn86 a90) fun j97=>(Option.bind (Xd a91 j97) fun y98=>((rec7 (Qb (a90+1),a91.set j97.toNat 0)))) else(if a35=0 then Option.bind (Rv (Qz.mk p0 x2 (Kq.mk a57 a91 a59 a60) y1) a56) fun x99=>(Option.bind (Wa (Qb ((Qb ((Xr 1 nn65)-1))+a35)) nn86 a90) fun j100=>(Option.bind (Xd a91 j100) fun y101=>((rec7 (Qb (a90+1),a91.set j100.toNat x99))))) else Option.bind (Ru (Qz.mk p0 x2 (Kq.mk a57 a91 a59 a60) y1) a56 a35 a90) fun x102=>(Option.bind (Wa (Qb ((Qb ((Xr 1 nn65)-1))+a35)) nn86 a90) fun j103=>(Option.bind (Xd a91 j103) fun y104=>((rec7 (Qb (a90+1),a91.set j103.toNat x102.1)))))))
def Qbr (p0:Qo)(y1:Int)(x2:Int)(a35:Int)(a56:Int)(a57:List Int)(a59:List Int)(a60:List Int)(nn65:Nat)(nn86:Nat)(a90:Int)(a91:List Int)(rec7:(Int × List Int)→Option (Qz))(a93:Bool):Option (Qz):=(bif a93 then Option.bind (Wa (Qb ((Qb ((Xr 1 nn65)-1))+a35)) nn86 a90) fun j94=>(Option.bind (Xd a91 j94) fun y95=>((rec7 (Qb (a90+1),a91.set j94.toNat 1)))) else(if a90=0 then(Ic p0 y1 x2 a35 a56 a57 a59 a60 nn65 nn86 a90 a91 rec7 true) else(if p0.Kind=1#8 then(Ic p0 y1 x2 a35 a56 a57 a59 a60 nn65 nn86 a90 a91 rec7 (decide (a35=0))) else(Ic p0 y1 x2 a35 a56 a57 a59 a60 nn65 nn86 a90 a91 rec7 false))))
def Qby (p0:Qo)(y1:Int)(x2:Int)(a35:Int)(a56:Int)(a57:List Int)(a59:List Int)(a60:List Int)(rec3:(Int × List Int × List Int × List Int × List Int)→Option (Qz))(nn65:Nat)(nn86:Nat)(rec7:(Int × List Int)→Option (Qz))(s7:Int × List Int):Option (Qz):=match s7 with|(a90,a91)=>(if a90<(nn86:Int) then(if p0.Kind=1#8 then(Qbr p0 y1 x2 a35 a56 a57 a59 a60 nn65 nn86 a90 a91 rec7 (decide (a90=0))) else(Qbr p0 y1 x2 a35 a56 a57 a59 a60 nn65 nn86 a90 a91 rec7 false)) else(rec3 (Qb (a56+1),a57,a91,a59,a60)))
def Az (p0:Qo)(y1:Int)(x2:Int)(a35:Int)(a56:Int)(a57:List Int)(a58:List Int)(a60:List Int)(nn65:Nat)(nn105:Nat)(a109:Int)(a110:List Int)(rec10:(Int × List Int)→Option (Qz))(a115:Bool):Option (Qz):=(bif a115 then Option.bind (Wa (Qb ((Qb ((Xr 1 nn65)-1))+a35)) nn105 a109) fun j116=>(Option.bind (Xd a110 j116) fun y117=>((rec10 (Qb (a109+1),a110.set j116.toNat 0)))) else(if a35=0 then Option.bind (Rv (Qz.mk p0 x2 (Kq.mk a57 a58 a110 a60) y1) a56) fun x118=>(Option.bind (Wa (Qb ((Qb ((Xr 1 nn65)-1))+a35)) nn105 a109) fun j119=>(Option.bind (Xd a110 j119) fun y120=>((rec10 (Qb (a109+1),a110.set j119.toNat x118))))) else Option.bind (Ru (Qz.mk p0 x2 (Kq.mk a57 a58 a110 a60) y1) a56 a35 a109) fun x121=>(Option.bind (Wa (Qb ((Qb ((Xr 1 nn65)-1))+a35)) nn105 a109) fun j122=>(Option.bind (Xd a110 j122) fun y123=>((rec10 (Qb (a109+1),a110.set j122.toNat x121.1)))))))
def Qbo (p0:Qo)(y1:Int)(x2:Int)(a35:Int)(a56:Int)(a57:List Int)(a58:List Int)(a60:List Int)(nn65:Nat)(nn105:Nat)(a109:Int)(a110:List Int)(rec10:(Int × List Int)→Option (Qz))(a112:Bool):Option (Qz):=(bif a112 then Option.bind (Wa (Qb ((Qb ((Xr 1 nn65)-1))+a35)) nn105 a109) fun j113=>(Option.bind (Xd a110 j113) fun y114=>((rec10 (Qb (a109+1),a110.set j113.toNat 1)))) else(if a109=0 then(Az p0 y1 x2 a35 a56 a57 a58 a60 nn65 nn105 a109 a110 rec10 true) else(if p0.Kind=1#8 then(Az p0 y1 x2 a35 a56 a57 a58 a60 nn65 nn105 a109 a110 rec10 (decide (a35=0))) else(Az p0 y1 x2 a35 a56 a57 a58 a60 nn65 nn105 a109 a110 rec10 false))))
def Qbt (p0:Qo)(y1:Int)(x2:Int)(a35:Int)(a56:Int)(a57:List Int)(a58:List Int)(a60:List Int)(rec3:(Int × List Int × List Int × List Int × List Int)→Option (Qz))(nn65:Nat)(nn105:Nat)(rec10:(Int × List Int)→Option (Qz))(s10:Int × List Int):Option (Qz):=match s10 with|(a109,a110)=>(if a109<(nn105:Int) then(if p0.Kind=1#8 then(Qbo p0 y1 x2 a35 a56 a57 a58 a60 nn65 nn105 a109 a110 rec10 (decide (a109=0))) else(Qbo p0 y1 x2 a35 a56 a57 a58 a60 nn65 nn105 a109 a110 rec10 false)) else(rec3 (Qb (a56+1),a57,a58,a110,a60)))
def Ia (p0:Qo)(y1:Int)(x2:Int)(a35:Int)(a56:Int)(a57:List Int)(a58:List Int)(a59:List Int)(nn65:Nat)(nn124:Nat)(a128:Int)(a129:List Int)(rec13:(Int × List Int)→Option (Qz))(a134:Bool):Option (Qz):=(bif a134 then Option.bind (Wa (Qb ((Qb ((Xr 1 nn65)-1))+a35)) nn124 a128) fun j135=>(Option.bind (Xd a129 j135) fun y136=>((rec13 (Qb (a128+1),a129.set j135.toNat 0)))) else(if a35=0 then Option.bind (Rv (Qz.mk p0 x2 (Kq.mk a57 a58 a59 a129) y1) a56) fun x137=>(Option.bind (Wa (Qb ((Qb ((Xr 1 nn65)-1))+a35)) nn124 a128) fun j138=>(Option.bind (Xd a129 j138) fun y139=>((rec13 (Qb (a128+1),a129.set j138.toNat x137))))) else Option.bind (Ru (Qz.mk p0 x2 (Kq.mk a57 a58 a59 a129) y1) a56 a35 a128) fun x140=>(Option.bind (Wa (Qb ((Qb ((Xr 1 nn65)-1))+a35)) nn124 a128) fun j141=>(Option.bind (Xd a129 j141) fun y142=>((rec13 (Qb (a128+1),a129.set j141.toNat x140.1)))))))
def Qbp (p0:Qo)(y1:Int)(x2:Int)(a35:Int)(a56:Int)(a57:List Int)(a58:List Int)(a59:List Int)(nn65:Nat)(nn124:Nat)(a128:Int)(a129:List Int)(rec13:(Int × List Int)→Option (Qz))(a131:Bool):Option (Qz):=(bif a131 then Option.bind (Wa (Qb ((Qb ((Xr 1 nn65)-1))+a35)) nn124 a128) fun j132=>(Option.bind (Xd a129 j132) fun y133=>((rec13 (Qb (a128+1),a129.set j132.toNat 1)))) else(if a128=0 then(Ia p0 y1 x2 a35 a56 a57 a58 a59 nn65 nn124 a128 a129 rec13 true) else(if p0.Kind=1#8 then(Ia p0 y1 x2 a35 a56 a57 a58 a59 nn65 nn124 a128 a129 rec13 (decide (a35=0))) else(Ia p0 y1 x2 a35 a56 a57 a58 a59 nn65 nn124 a128 a129 rec13 false))))
def Qbu (p0:Qo)(y1:Int)(x2:Int)(a35:Int)(a56:Int)(a57:List Int)(a58:List Int)(a59:List Int)(rec3:(Int × List Int × List Int × List Int × List Int)→Option (Qz))(nn65:Nat)(nn124:Nat)(rec13:(Int × List Int)→Option (Qz))(s13:Int × List Int):Option (Qz):=match s13 with|(a128,a129)=>(if a128<(nn124:Int) then(if p0.Kind=1#8 then(Qbp p0 y1 x2 a35 a56 a57 a58 a59 nn65 nn124 a128 a129 rec13 (decide (a128=0))) else(Qbp p0 y1 x2 a35 a56 a57 a58 a59 nn65 nn124 a128 a129 rec13 false)) else(rec3 (Qb (a56+1),a57,a58,a59,a129)))
def Qbw (p0:Qo)(y1:Int)(x2:Int)(a35:Int)(rec2:(Int × List Int × List Int × List Int × List Int)→Option (Qz))(rec3:(Int × List Int × List Int × List Int × List Int)→Option (Qz))(s3:Int × List Int × List Int × List Int × List Int):Option (Qz):=match s3 with|(a56,a57,a58,a59,a60)=>(if a56<y1 then Option.bind (Ju a35) fun nn65=>(Option.bind (Qc8 a35) fun x66=>((if a56=0 then Option.bind (Sw a57 (Qb ((Qb ((Xr 1 nn65)-1))+a35)) (Qb ((Qb ((Qb ((Xr 1 nn65)-1))+a35))+x66))) fun nn67=>((Qs (Qbx p0 y1 x2 a35 a56 a58 a59 a60 rec3 nn65 nn67) Qy (0,a57))) else(if a56=1 then Option.bind (Sw a58 (Qb ((Qb ((Xr 1 nn65)-1))+a35)) (Qb ((Qb ((Qb ((Xr 1 nn65)-1))+a35))+x66))) fun nn86=>((Qs (Qby p0 y1 x2 a35 a56 a57 a59 a60 rec3 nn65 nn86) Qy (0,a58))) else(if a56=2 then Option.bind (Sw a59 (Qb ((Qb ((Xr 1 nn65)-1))+a35)) (Qb ((Qb ((Qb ((Xr 1 nn65)-1))+a35))+x66))) fun nn105=>((Qs (Qbt p0 y1 x2 a35 a56 a57 a58 a60 rec3 nn65 nn105) Qy (0,a59))) else(if a56=3 then Option.bind (Sw a60 (Qb ((Qb ((Xr 1 nn65)-1))+a35)) (Qb ((Qb ((Qb ((Xr 1 nn65)-1))+a35))+x66))) fun nn124=>((Qs (Qbu p0 y1 x2 a35 a56 a57 a58 a59 rec3 nn65 nn124) Qy (0,a60))) else none)))))) else(rec2 (Qb (a35+1),a57,a58,a59,a60)))
def Qbv (p0:Qo)(y1:Int)(x2:Int)(rec2:(Int × List Int × List Int × List Int × List Int)→Option (Qz))(s2:Int × List Int × List Int × List Int × List Int):Option (Qz):=match s2 with|(a35,a36,a37,a38,a39)=>(if a35<Qb (p0.Depth+1) then(Qs (Qbw p0 y1 x2 a35 rec2) Qy (0,a36,a37,a38,a39)) else(some (Qz.mk p0 x2 (Kq.mk a36 a37 a38 a39) y1)))
def Qbs (p0:Qo)(y1:Int)(x2:Int)(nn3:Nat)(rec1:(Int × List Int × List Int × List Int × List Int)→Option (Qz))(s1:Int × List Int × List Int × List Int × List Int):Option (Qz):=match s1 with|(a16,a17,a18,a19,a20)=>(if a16<y1 then Option.bind (Nb 8 (Qb ((Qb ((Qb ((Xr 1 nn3)-1))+p0.Depth))+1)) 0) fun l25=>((if a16=0 then(rec1 (Qb (a16+1),l25,a18,a19,a20)) else(if a16=1 then(rec1 (Qb (a16+1),a17,l25,a19,a20)) else(if a16=2 then(rec1 (Qb (a16+1),a17,a18,l25,a20)) else(if a16=3 then(rec1 (Qb (a16+1),a17,a18,a19,l25)) else none))))) else(Qs (Qbv p0 y1 x2) Qy (0,a17,a18,a19,a20)))
def Vd (p0:Qo):Option (Qz):=Option.bind (Xd ([0,1,2,4]:List Int) (Jn p0.Kind)) fun y1=>(Option.bind (Qff p0.Depth) fun x2=>(Option.bind (Ju (Qb (p0.Depth+1))) fun nn3=>((Qs (Qbs p0 y1 x2 nn3) Qy (0,[],[],[],[])))))
end Go.Sx

end
section
set_option linter.unusedVariables false
set_option maxRecDepth 100000
namespace Go.Sx
open Go Go.RowKit
def Qfm (p0:Int):Option (Int):=(some p0)
def Qc7 (p1:Int)(rec1:(Int)→Option (List Int))(a2:Int):Option (List Int):=(if a2≤p1 then(yl a2 ((rec1 (Qb (a2+1))))) else(some []))
def Qfn (p1:Int):Option (List Int):=(Qs (Qc7 p1) Qy 0)
def Qfi (p0:Qz)(p1:Int):Option (Int):=(if p1=0 then(some 1) else Option.bind (Ie p0 0 p0.s.Depth) fun x1=>(Option.bind (Xd x1 p1) fun y2=>((some y2))))
def Qbm (a5:Int)(a6:Int)(a7:Bool)(nx1:(Int × Int × Bool)→Option (Int × Int))(e8:Int)(x9:Int)(a10:Bool):Option (Int × Int):=(bif a10 then(nx1 (x9,e8,false)) else(nx1 (a5,a6,a7)))
def Qbl  (s:Int × Int × Bool):Option (Int × Int):=match s with|(a5,a6,a7)=>(some (a5,a6))
def Qbn (p1_0:Qz)(e8:Int)(nx1:(Int × Int × Bool)→Option (Int × Int))(s:Int × Int × Bool):Option (Int × Int):=match s with|(a5,a6,a7)=>Option.bind (Qfi p1_0 e8) fun x9=>((bif a7 then(Qbm a5 a6 a7 nx1 e8 x9 true) else(Qbm a5 a6 a7 nx1 e8 x9 (decide (a5<x9)))))
def Qfb (p0_0:Int)(p1_0:Qz):Option (Int × Int):=Option.bind (Qfn p0_0) fun l1=>((Ku (Qbn p1_0) Qbl l1 (0,0,true)))
def Rw (p0:Qz)(p1:Int):Option (Int × Int):=Option.bind (Qfm p1) fun x1=>(Option.bind (Qfb x1 p0) fun x2=>((some (x2.1,x2.2))))
def Qbh (p0:Qo)(p1:Int)(a2:Bool):Option (Int × Int):=(bif a2 then(some (0,2)) else Option.bind (Vd p0) fun x3=>(Option.bind (Rw x3 p1) fun x4=>((some (x4.1,0)))))
def Qf9 (p0:Qo)(p1:Int):Option (Int × Int):=Option.bind (Qa8 p0) fun x1=>((if x1≠0 then(if x1≠0 then(some (0,x1)) else none) else(if p1<0 then(Qbh p0 p1 true) else Option.bind (Ju p0.Depth) fun nn5=>((Qbh p0 p1 (decide (Xr 1 nn5<p1)))))))
def Qc5 (p0:Qz)(p1:List Int)(p2:Int)(p4:Int)(p5:Int)(rec0:(Qz × List Int × Int × Int × Int × Int)→Option (List Int))(x3:Int × Int)(a4:Int):Option (List Int):=Option.bind (rec0 (p0,p1,Qb (2*p2),a4,Qb (p4-1),x3.2)) fun x5=>(Option.bind (rec0 (p0,x5,Qb ((Qb (2*p2))+1),a4,Qb (p4-1),Qb (p5-x3.2))) fun x6=>((some x6)))
def Ii (p0:Qz)(p1:List Int)(p2:Int)(p3:Int)(p4:Int)(p5:Int)(rec0:(Qz × List Int × Int × Int × Int × Int)→Option (List Int))(x3:Int × Int)(a7:Bool):Option (List Int):=(bif a7 then Option.bind (Qc1 p0 p3 p4) fun x8=>((Qc5 p0 p1 p2 p4 p5 rec0 x3 x8)) else(Qc5 p0 p1 p2 p4 p5 rec0 x3 0))
def Qfj (rec0:((Qz × List Int × Int × Int × Int × Int)→Option (List Int)))(p0:Qz)(p1:List Int)(p2:Int)(p3:Int)(p4:Int)(p5:Int):Option (List Int):=(if p5=0 then(some p1) else(if p4=0 then Option.bind (Ju p0.s.Depth) fun nn1=>(Option.bind (Vb 8 p1 [Qb (p2-(Xr 1 nn1))]) fun l2=>((some l2))) else Option.bind (Ru p0 p3 p4 p5) fun x3=>((if p0.s.Kind≠1#8 then(if x3.2=0 then(Ii p0 p1 p2 p3 p4 p5 rec0 x3 true) else(Ii p0 p1 p2 p3 p4 p5 rec0 x3 (decide (x3.2=p5)))) else(Ii p0 p1 p2 p3 p4 p5 rec0 x3 false)))))
def Qc4 (rec0:((Qz × List Int × Int × Int × Int × Int)→Option (List Int)))(s:Qz × List Int × Int × Int × Int × Int):Option (List Int):=match s with|(p0,p1,p2,p3,p4,p5)=>Qfj rec0 p0 p1 p2 p3 p4 p5
def Ih (p0:Qz)(p1:List Int)(p2:Int)(p3:Int)(p4:Int)(p5:Int):Option (List Int):=Qs Qc4 Qy (p0,p1,p2,p3,p4,p5)
def Qbg (p0:Qo)(p1:Int)(a2:Bool):Option (List Int × Int):=(bif a2 then(some ([],2)) else Option.bind (Vd p0) fun x3=>(Option.bind (Rw x3 p1) fun x4=>(Option.bind (Ih x3 ([]:List Int) 1 0 p0.Depth x4.2) fun x5=>((some (x5,0))))))
def Qbf (p0:Qo)(p1:Int):Option (List Int × Int):=Option.bind (Qa8 p0) fun x1=>((if x1≠0 then(if x1≠0 then(some ([],x1)) else none) else(if p1<0 then(Qbg p0 p1 true) else Option.bind (Ju p0.Depth) fun nn6=>((Qbg p0 p1 (decide (Xr 1 nn6<p1)))))))
end Go.Sx

end
section
set_option linter.unusedVariables false
set_option maxRecDepth 100000
namespace Go.Sx
open Go Go.RowKit
structure Xg where
 Depth:Int
 Revoked:Int
 Storage:Int
 Headers:Int
 HeaderPrice:Int
 StoragePrice:Int
 Group:Xz
deriving DecidableEq,Inhabited
def Xg.cs (x:Xg)  : List Value:=[.int .i64 x.Depth,.int .i64 x.Revoked,.int .i64 x.Storage,.int .i64 x.Headers,.int .i64 x.HeaderPrice,.int .i64 x.StoragePrice,wv x.Group.P,wv x.Group.Q,wv x.Group.G]
theorem Xg.cs_ones (x:Xg)   : Zx (Xg.cs x )=true:=by simp only[Xg.cs,List.cons_append,List.nil_append,kb,Zx,Dx,Dw,Dy,cond_true]
theorem Xg.cs_inj {x y:Xg}(h:Xg.cs x=Xg.cs y):x=y:=by
 have h0:x.Depth=y.Depth:=Vv (congrArg (fun l=>l[0]?) h)
 have h1:x.Revoked=y.Revoked:=Vv (congrArg (fun l=>l[1]?) h)
 have h2:x.Storage=y.Storage:=Vv (congrArg (fun l=>l[2]?) h)
 have h3:x.Headers=y.Headers:=Vv (congrArg (fun l=>l[3]?) h)
 have h4:x.HeaderPrice=y.HeaderPrice:=Vv (congrArg (fun l=>l[4]?) h)
 have h5:x.StoragePrice=y.StoragePrice:=Vv (congrArg (fun l=>l[5]?) h)
 have h6:x.Group=y.Group:=Xz.cs_inj (congrArg (fun l=>(l.drop 6).take 3) h)
 cases x;cases y;simp only at *;subst h0;subst h1;subst h2;subst h3;subst h4;subst h5;subst h6;rfl
theorem Xg.ws (l:List Xg):Ws 9 (l.map Xg.cs):=Fe l (fun _=>rfl) (fun _=>rfl)
structure Qq where
 Kind:BitVec 8
 Fits:Bool
 Items:Int
 Points:Int
 Header:Int
 Storage:Int
 Cost:Int
 Witness:List Int
deriving DecidableEq,Inhabited
def Qq.cs (x:Qq)(v0:Value):List Value:=[bv x.Kind,.bool x.Fits,.int .i64 x.Items,.int .i64 x.Points,.int .i64 x.Header,.int .i64 x.Storage,.int .i64 x.Cost,v0]
theorem Qq.cs_ones (x:Qq)(v0:Value)(h0:oneB v0=true):Zx (Qq.cs x v0)=true:=by simp only[Qq.cs,List.cons_append,List.nil_append,kb,Zx,Dx,Dw,Dy,cond_true,h0]
structure Xk where
 Choices:List Qq
 Best:BitVec 8
deriving DecidableEq,Inhabited
def Xk.cs (x:Xk)(v0:Value):List Value:=[v0,bv x.Best]
theorem Xk.cs_ones (x:Xk)(v0:Value)(h0:oneB v0=true):Zx (Xk.cs x v0)=true:=by simp only[Xk.cs,List.cons_append,List.nil_append,kb,Zx,Dx,Dw,Dy,cond_true,h0]
def Qc9 (p0:Int)(p1:Int):Option (Bool):=(if p0<0 then(some true) else(some (decide (p1<p0))))
def Ec (p0:List Int)(p1_0:Int)(rec1:(Int)→Option (Int))(a2:Int):Option (Int):=(if a2<(p0.length:Int) then Option.bind (Xd p0 a2) fun y3=>(Option.bind (Qc9 y3 p1_0) fun x4=>((bif x4 then(some a2) else(rec1 (Qb (a2+1)))))) else(some (-1)))
def Qd6 (p0:List Int)(p1_0:Int):Option (Int):=(Qs (Ec p0 p1_0) Qy 0)
def Qd5 (p0:List Int)(p1_0:Int):Option (Bool):=Option.bind (Qd6 p0 p1_0) fun x1=>((some (decide ((0:Int)≤x1))))
def Si (p0:Int)(p1:List Int):Option (Bool):=Option.bind (Qd5 p1 p0) fun x1=>((some (!x1)))
def Rs (a1:Bool):Option (Int):=(bif a1 then(some 2) else(some 0))
def Au (p0:Xg):Option (Int):=Option.bind (Si 6 [p0.Depth]) fun x2=>((bif (!x2) then(Rs true) else Option.bind (Ju p0.Depth) fun nn3=>(Option.bind (Si (Xr 1 nn3) [p0.Revoked]) fun x4=>((bif (!x4) then(Rs true) else Option.bind (Si 10000 [p0.Storage]) fun x5=>((bif (!x5) then(Rs true) else Option.bind (Si 1000 [p0.Headers,p0.HeaderPrice,p0.StoragePrice]) fun x6=>((Rs (!x6))))))))))
def Aq (p0:BitVec 64)(rec2:(BitVec 64)→Option (Bool))(a3:BitVec 64):Option (Bool):=(if a3*a3≤p0 then Option.bind (Yw p0 a3) fun x4=>((if x4=0#64 then(some false) else(rec2 (a3+1#64)))) else(some true))
def Ap (p0:BitVec 64)(a1:Bool):Option (Bool):=(bif a1 then(some false) else(Qs (Aq p0) Qy 2#64))
def Mr (p0:BitVec 64):Option (Bool):=(if p0<2#64 then(Ap p0 true) else(Ap p0 (decide (1048575#64<p0))))
def Rq (p2:BitVec 64)(rec1:(BitVec 64 × BitVec 64 × BitVec 64)→Option (BitVec 64))(s1:BitVec 64 × BitVec 64 × BitVec 64):Option (BitVec 64):=match s1 with|(a6,a7,a8)=>(if 0#64<a7 then(if a7 &&& 1#64=1#64 then Option.bind (Yw (a8*a6) p2) fun x9=>(Option.bind (Yw (a6*a6) p2) fun x10=>(Option.bind (Ju (un 1#64)) fun nn11=>((rec1 (x10,a7 >>> nn11,x9))))) else Option.bind (Yw (a6*a6) p2) fun x12=>(Option.bind (Ju (un 1#64)) fun nn13=>((rec1 (x12,a7 >>> nn13,a8))))) else(some a8))
def Ao (p0:BitVec 64)(p1:BitVec 64)(p2:BitVec 64):Option (BitVec 64):=Option.bind (Yw 1#64 p2) fun x1=>(Option.bind (Yw p0 p2) fun x2=>((Qs (Rq p2) Qy (x2,p1,x1))))
def Tu (a1:Bool):Option (Int):=(bif a1 then(some 13) else(some 0))
def Ro (p0:Xz):Option (Int):=Option.bind (Mr p0.P) fun x2=>((bif (!x2) then(Tu true) else Option.bind (Mr p0.Q) fun x3=>((bif (!x3) then(Tu true) else Option.bind (Yw (p0.P-1#64) p0.Q) fun x4=>((if x4≠0#64 then(Tu true) else(if p0.G<2#64 then(Tu true) else(if p0.P≤p0.G then(Tu true) else Option.bind (Ao p0.G p0.Q p0.P) fun x5=>((Tu (decide (x5≠1#64))))))))))))
def Nf (p0:Qo):Option (Bool):=(if p0.Kind=4#8 then(if(0:Int)≤p0.Depth then(if p0.Depth≤6 then(if(1:Int)≤p0.Degree then(if p0.Degree≤8 then Option.bind (Ro p0.Group) fun x1=>((if x1=0 then Option.bind (Ju p0.Depth) fun nn2=>((some (decide (wd (Qb ((Xr 1 nn2)+p0.Degree))<p0.Group.Q)))) else(some false))) else(some false)) else(some false)) else(some false)) else(some false)) else(some false))
def Mw (p0:Qo):Option (Int):=Option.bind (Nf p0) fun x1=>((bif (!x1) then(some 30) else(some 0)))
def Re (p0:Xl):Option (Int):=Option.bind (Ju p0.depth) fun nn1=>((some (Xr 1 nn1)))
def Qaf (p0:Xl)(p1:Int):Option (Bool):=(if(1:Int)≤p1 then Option.bind (Re p0) fun x1=>((some (decide (p1<Qb (2*x1))))) else(some false))
def Dp (p0:Int):Option (Int):=(some (Qb ((lg (un (wd p0)))-1)))
def Ew (p0:Int)(p1:Int)(a1:Bool):Option (Bool):=(bif a1 then(some false) else Option.bind (Dp p0) fun x2=>(Option.bind (Dp p1) fun x3=>(Option.bind (Ju (Qb (x2-x3))) fun nn4=>((some (decide (Ns p0 nn4=p1)))))))
def Qdr (p0:Int)(p1:Int):Option (Bool):=(if p0<1 then(Ew p0 p1 true) else(if p1<1 then(Ew p0 p1 true) else Option.bind (Dp p0) fun x5=>(Option.bind (Dp p1) fun x6=>((Ew p0 p1 (decide (x5<x6)))))))
def Gn (p0:Xl)(p1:Int):Option (Bool):=Option.bind (Dp p1) fun x1=>(Option.bind (Ss x1 p0.stride) fun x2=>((some (decide (x2=0)))))
def Ey (p0:Int)(p1:Int):Option (Int × Int):=(some (p0,p1))
def Li (p0:Int)(p1:Int):Option (Int):=Option.bind (Dp p1) fun x1=>(Option.bind (Dp p0) fun x2=>(Option.bind (Ju (Qb ((Qb (x1-x2))-1))) fun nn3=>((some (Ns p1 nn3)))))
def Fz (p2:Int)(rec1:(Int)→Option (List Int))(a2:Int):Option (List Int):=(if a2≠p2 then Option.bind (Li a2 p2) fun x3=>((yl x3 ((rec1 x3)))) else(some []))
def Ez (p1:Int)(p2:Int):Option (List Int):=(Qs (Fz p2) Qy p1)
def Ev  (s:Int):Option (Int):=match s with|a3=>(some 0)
def Qdq  (s:Int):Option (Int):=match s with|a3=>(some a3)
def Cn (p1_0:Xl)(e4:Int)(nx1:(Int)→Option (Int))(s:Int):Option (Int):=match s with|a3=>Option.bind (Gn p1_0 e4) fun x5=>((bif x5 then(Qdq e4) else(nx1 a3)))
def Qac (p0_0:Int)(p0_1:Int)(p1_0:Xl):Option (Int):=Option.bind (Ez p0_0 p0_1) fun l1=>((Ku (Cn p1_0) Ev l1 0))
def Lk (p0:Xl)(p1:Int)(p2:Int):Option (Int):=Option.bind (Ju (un 1#64)) fun nn1=>(Option.bind (Ey p1 (Ns p2 nn1)) fun x2=>(Option.bind (Qac x2.1 x2.2 p0) fun x3=>((some x3))))
def Ab (p0:Xl)(p1:Qm)(a3:Bool):Option (Bool):=(bif a3 then(some false) else(if p0.kind=2#8 then(some true) else Option.bind (Gn p0 p1.Node) fun x4=>((bif x4 then(some true) else Option.bind (Lk p0 p1.Node p1.Minus) fun x5=>((some (decide (x5=0))))))))
def Qak (p0:Xl)(p1:Qm)(a2:Bool):Option (Bool):=(bif a2 then(if p1.Minus=0 then(if p0.kind=1#8 then(some true) else(some (decide (p1.Node=1)))) else(some false)) else Option.bind (Qaf p0 p1.Minus) fun x6=>((bif (!x6) then(Ab p0 p1 true) else(if p1.Minus=p1.Node then(Ab p0 p1 true) else Option.bind (Qdr p1.Minus p1.Node) fun x7=>((Ab p0 p1 (!x7)))))))
def Qaj (p0:Xl)(p1:Qm):Option (Bool):=Option.bind (Qaf p0 p1.Node) fun x1=>((bif (!x1) then(some false) else(if p0.kind=1#8 then(Qak p0 p1 true) else(Qak p0 p1 (decide (p1.Minus=0))))))
def Qab (p1:List Qm)(x1:Xl × Bool)(rec1:(Int)→Option (Xl × Int))(a3:Int):Option (Xl × Int):=(if a3<(p1.length:Int) then Option.bind (Xd p1 a3) fun y4=>(Option.bind (Qaj x1.1 y4) fun x5=>((bif (!x5) then(some ((Xl.mk 0#8 0 0),31)) else(rec1 (Qb (a3+1)))))) else(some (x1.1,0)))
def Cm (p0:Qo)(p1:List Qm):Option (Xl × Int):=Option.bind (Co p0) fun x1=>((bif (!x1.2) then(some ((Xl.mk 0#8 0 0),30)) else(Qs (Qab p1 x1) Qy 0)))
def Qds (p0:Xl)(p1:Int):Option (Xl × Int):=(some (p0,p1))
def Rb (p0:Xl)(p1:Int):Option (Int):=Option.bind (Re p0) fun x1=>((some (Qb (x1+p1))))
def Lh (p0:Int):Option (Int):=(some (Te .xor p0 1))
def Qag (x1:Int)(a2:Int)(rec1:(Int)→Option (List (Int × Int)))(s:Unit):Option (List (Int × Int)):=Option.bind (Li a2 x1) fun x10=>((rec1 x10))
def Qai (p1:Xl)(a2:Int)(e7:Int)(nx2:Unit→Option (List (Int × Int)))(s:Unit):Option (List (Int × Int)):=Option.bind (Lh e7) fun x8=>(Option.bind (Qaj p1 (Qm.mk a2 x8)) fun x9=>((bif x9 then(yl (a2,x8) ((nx2 ()))) else(nx2 ()))))
def Qah (p1:Xl)(x1:Int)(rec1:(Int)→Option (List (Int × Int)))(a2:Int):Option (List (Int × Int)):=(if a2≠x1 then(if p1.kind=1#8 then Option.bind (Li a2 x1) fun x3=>((yl (x3,0) (Option.bind (Li a2 x1) fun x4=>((rec1 x4))))) else Option.bind (Ey a2 x1) fun x5=>(Option.bind (Ez x5.1 x5.2) fun l6=>((Ku (Qai p1 a2) (Qag x1 a2 rec1) l6 ())))) else(some []))
def Qdt (p1:Xl)(p2:Int):Option (List (Int × Int)):=Option.bind (Rb p1 p2) fun x1=>((yl (1,0) ((Qs (Qah p1 x1) Qy 1))))
def Qa9  (s:Int):Option (Int × Int):=match s with|a5=>(some (a5,0))
def Qaa  (ee:Int × Int)(nx1:(Int)→Option (Int × Int))(s:Int):Option (Int × Int):=match ee with|(e6,e7)=>match s with|a5=>(nx1 (Qb (a5+1)))
def Eu (p0:Qo):Option (Int × Int):=Option.bind (Cm p0 ([]:List Qm)) fun x1=>((if x1.2≠0 then(some (0,x1.2)) else Option.bind (Qds x1.1 0) fun x2=>(Option.bind (Qdt x2.1 x2.2) fun l3=>((Ku Qaa Qa9 l3 0)))))
def Mu (p0:Xg)(p1:BitVec 8)(a2:Int)(a3:Int)(a4:Int)(a5:List Int):Option (Qq × Int):=Option.bind (Ju p0.Depth) fun nn7=>((some ((Qq.mk p1 (decide (a4≤p0.Storage)) a2 a3 (Qb ((Qb (67+(Qb (18*a2))))+(Qb (16*a3)))) a4 (Qb ((Qb ((Qb (p0.Headers*p0.HeaderPrice))*(Qb ((Qb (67+(Qb (18*a2))))+(Qb (16*a3))))))+(Xr (Qb (p0.StoragePrice*a4)) nn7))) a5),0)))
def Aw (p0:Xg)(p1:BitVec 8)(a8:Bool):Option (Qq × Int):=(bif a8 then(some ((Qq.mk 0#8 false 0 0 0 0 0 []),2)) else(if p1=4#8 then Option.bind (Mw (Qo.mk p1 p0.Depth (Vp p0.Revoked 1) p0.Group)) fun x9=>((if x9≠0 then(some ((Qq.mk p1 false 0 0 0 0 0 []),0)) else(Mu p0 p1 0 (Vp p0.Revoked 1) 8 []))) else Option.bind (Vd (Qo.mk p1 p0.Depth 0 (Xz.mk 0#64 0#64 0#64))) fun x10=>(Option.bind (Eu (Qo.mk p1 p0.Depth 0 (Xz.mk 0#64 0#64 0#64))) fun x11=>(Option.bind (Rw x10 p0.Revoked) fun x12=>(Option.bind (Ih x10 ([]:List Int) 1 0 p0.Depth x12.2) fun x13=>((Mu p0 p1 x12.1 0 (Qb (16*x11.1)) x13)))))))
def Sf (p0:Xg)(p1:BitVec 8):Option (Qq × Int):=Option.bind (Au p0) fun x1=>((if x1≠0 then(some ((Qq.mk 0#8 false 0 0 0 0 0 []),x1)) else(if p1<1#8 then(Aw p0 p1 true) else(Aw p0 p1 (decide (4#8<p1))))))
def Mv (a5:BitVec 8)(a7:BitVec 8)(rec1:(BitVec 8 × List Qq × BitVec 8)→Option (Xk × Int))(l10:List Qq)(a11:Bool):Option (Xk × Int):=(bif a11 then(rec1 (a5+1#8,l10,a5)) else(rec1 (a5+1#8,l10,a7)))
def Rt (p0:Xg)(rec1:(BitVec 8 × List Qq × BitVec 8)→Option (Xk × Int))(s1:BitVec 8 × List Qq × BitVec 8):Option (Xk × Int):=match s1 with|(a5,a6,a7)=>(if a5≤4#8 then Option.bind (Sf p0 a5) fun x9=>((if x9.2≠0 then(some ((Xk.mk [] 0#8),x9.2)) else Option.bind (Vb 72 a6 [x9.1]) fun l10=>((bif x9.1.Fits then(if a7=0#8 then(Mv a5 a7 rec1 l10 true) else Option.bind (Xd l10 (Jn (a7-1#8))) fun y12=>((Mv a5 a7 rec1 l10 (decide (x9.1.Cost<y12.Cost))))) else(Mv a5 a7 rec1 l10 false))))) else(some ((Xk.mk a6 a7),0)))
def Sg (p0:Xg):Option (Xk × Int):=(Qs (Rt p0) Qy (1#8,[],0#8))
end Go.Sx

end
section
set_option linter.unusedVariables false
set_option maxRecDepth 100000
namespace Go.Sx
open Go Go.RowKit
def Ue (p0:List Int)(p1:List Int)(rec1:(Int)→Option (Bool))(a2:Int):Option (Bool):=(if a2<(p0.length:Int) then Option.bind (Xd p0 a2) fun y3=>(Option.bind (Xd p1 a2) fun y4=>((if y3≠y4 then(some false) else(rec1 (Qb (a2+1)))))) else(some true))
def Bc (p0:List Int)(p1:List Int):Option (Bool):=(if(p0.length:Int)≠(p1.length:Int) then(some false) else(Qs (Ue p0 p1) Qy 0))
def Bi (p0:Qq)(p1:Qq):Option (Bool):=(if p0.Kind=p1.Kind then(bif (p0.Fits == p1.Fits) then(if p0.Items=p1.Items then(if p0.Points=p1.Points then(if p0.Header=p1.Header then(if p0.Storage=p1.Storage then(some (decide (p0.Cost=p1.Cost))) else(some false)) else(some false)) else(some false)) else(some false)) else(some false)) else(some false))
def Up (p0:Qq)(p1:Qq):Option (Bool):=Option.bind (Bi p0 p1) fun x1=>((bif x1 then Option.bind (Bc p0.Witness p1.Witness) fun x2=>((some x2)) else(some false)))
end Go.Sx

end
section
set_option linter.unusedVariables false
set_option maxRecDepth 100000
namespace Go.Sx
open Go Go.RowKit
def Mj (p0:BitVec 8)(p1:Int):Option (Qo):=(some (Qo.mk p0 p1 0 (Xz.mk 0#64 0#64 0#64)))
def Qb1  : Option (Xg):=(some (Xg.mk 2 1 48 10 1 2 (Xz.mk 0#64 0#64 0#64)))
def Qb4 (a2:Int)(rec1:(Int)→Option (Bool))(a4:Bool):Option (Bool):=(bif a4 then(some false) else(rec1 (Qb (a2+1))))
def Qb5 (p0:Qo)(p1:List Int)(rec1:(Int)→Option (Bool))(a2:Int):Option (Bool):=(if a2<(p1.length:Int) then Option.bind (Qf9 p0 a2) fun x3=>((if x3.2≠0 then(Qb4 a2 rec1 true) else Option.bind (Xd p1 a2) fun y5=>((Qb4 a2 rec1 (decide (x3.1≠y5)))))) else(some true))
def Qb3 (p0:Qo)(p1:List Int):Option (Bool):=(Qs (Qb5 p0 p1) Qy 0)
def Ly (x6:Qq × Int)(x8:Xk × Int)(a9:Bool):Option (Bool):=(bif a9 then(some false) else Option.bind (Mj 1#8 2) fun x10=>(Option.bind (Qb3 x10 [1,2,2,2,2]) fun x11=>((bif x11 then Option.bind (Mj 2#8 2) fun x12=>(Option.bind (Qb3 x12 [1,1,2,2,2]) fun x13=>((bif x13 then Option.bind (Up x6.1 (Qq.mk 1#8 true 2 0 103 48 1414 [3])) fun x14=>((bif x14 then(if x8.1.Best=1#8 then(some (decide ((x8.1.Choices.length:Int)=4))) else(some false)) else(some false))) else(some false)))) else(some false)))))
def Qjw  : Option (Bool):=Option.bind (Mj 1#8 2) fun x1=>(Option.bind (Qbf x1 2) fun x2=>(Option.bind (Mj 2#8 2) fun x3=>(Option.bind (Qbf x3 2) fun x4=>(Option.bind (Qb1) fun x5=>(Option.bind (Sf x5 1#8) fun x6=>(Option.bind (Qb1) fun x7=>(Option.bind (Sg x7) fun x8=>((if x2.2≠0 then(Ly x6 x8 true) else(if x4.2≠0 then(Ly x6 x8 true) else(if x6.2≠0 then(Ly x6 x8 true) else(if x8.2≠0 then(Ly x6 x8 true) else Option.bind (Bc x2.1 [3]) fun x15=>((bif (!x15) then(Ly x6 x8 true) else Option.bind (Bc x4.1 [1,3]) fun x16=>((Ly x6 x8 (!x16)))))))))))))))))
end Go.Sx

end
section
set_option linter.unusedVariables false
set_option maxRecDepth 100000
namespace Go.Sx
open Go Go.RowKit
noncomputable section
def Aa (p0:Xl)(p1:Int):Option (Bool):=(if(0:Int)≤p1 then Option.bind (Re p0) fun x1=>((some (decide (p1<x1)))) else(some false))
def Cs (a2:Int)(rec1:(Int)→Option (Bool))(a4:Bool):Option (Bool):=(bif a4 then(some false) else(rec1 (Qb (a2+1))))
def Rc (p0:Xl)(p1:List Int)(rec1:(Int)→Option (Bool))(a2:Int):Option (Bool):=(if a2<(p1.length:Int) then Option.bind (Xd p1 a2) fun y3=>(Option.bind (Aa p0 y3) fun x5=>((bif (!x5) then(Cs a2 rec1 true) else(if(0:Int)<a2 then Option.bind (Xd p1 (Qb (a2-1))) fun y6=>((Cs a2 rec1 (decide (y3≤y6)))) else(Cs a2 rec1 false))))) else(some true))
def Cr (p0:Xl)(p1:List Int):Option (Bool):=(Qs (Rc p0 p1) Qy 0)
def Fq (p0:Int)(p1:Int)(p2:List Qm):Option (List Qm):=Option.bind (Vb 16 p2 [(Qm.mk p0 p1)]) fun l1=>((some l1))
def Fu (a5:Int)(rec1:(Int × List Int)→Option (List Qm × Int))(rec2:(Int × List Int)→Option (List Qm × Int))(s2:Int × List Int):Option (List Qm × Int):=match s2 with|(a11,a12)=>(if(0:Int)<a11 then Option.bind (Ju (un 1#64)) fun nn13=>((rec2 (Ns a11 nn13,Hd a12 a11))) else(rec1 (Qb (a5+1),a12)))
def Cj (a16:List Qm)(nx3:(List Qm)→Option (List Qm × Int))(k18:Int)(a20:Bool):Option (List Qm × Int):=(bif a20 then Option.bind (Lh k18) fun x21=>(Option.bind (Fq x21 0 a16) fun x22=>((nx3 x22))) else(nx3 a16))
def Cl (nx3:(List Qm)→Option (List Qm × Int))(a26:Int)(a27:Int)(a28:List Qm):Option (List Qm × Int):=Option.bind (Fq a27 a26 a28) fun x30=>((nx3 x30))
def Ps (a16:List Qm)(nx3:(List Qm)→Option (List Qm × Int))(k18:Int)(a26:Int)(x31:Int)(a32:Bool):Option (List Qm × Int):=(bif a32 then Option.bind (Fq k18 x31 a16) fun x33=>((Cl nx3 a26 x31 x33)) else(Cl nx3 a26 k18 a16))
def Gm (x1:Xl × Int)(a6:List Int)(a16:List Qm)(nx3:(List Qm)→Option (List Qm × Int))(k18:Int)(rec6:(Int)→Option (List Qm × Int))(a26:Int):Option (List Qm × Int):=(bif ((decide ((Qb (2*a26))∈a6)) != (decide ((Qb ((Qb (2*a26))+1))∈a6))) then(if ¬ ((Qb (a26*2))∈a6) then(rec6 (Qb ((Qb (a26*2))+1))) else(rec6 (Qb (a26*2)))) else(if a26=k18 then(nx3 a16) else Option.bind (Lk x1.1 k18 a26) fun x31=>((if x31≠0 then(if x1.1.kind=3#8 then Option.bind (Gn x1.1 k18) fun x34=>((Ps a16 nx3 k18 a26 x31 (!x34))) else(Ps a16 nx3 k18 a26 x31 false)) else(Ps a16 nx3 k18 a26 x31 false)))))
def Lf (x1:Xl × Int)(a6:List Int)(a16:List Qm)(nx3:(List Qm)→Option (List Qm × Int))(k18:Int)(a24:Bool):Option (List Qm × Int):=(bif a24 then(nx3 a16) else(Qs (Gm x1 a6 a16 nx3 k18) Qy k18))
def Fs  (a16:List Qm):Option (List Qm × Int):=Option.bind (Bj Qm.Node a16) fun l19=>((some (l19,0)))
def Lg (x1:Xl × Int)(a6:List Int)(k18:Int)(nx3:(List Qm)→Option (List Qm × Int))(a16:List Qm):Option (List Qm × Int):=(if x1.1.kind=1#8 then(if(1:Int)<k18 then Option.bind (Lh k18) fun x23=>((Cj a16 nx3 k18 (decide (¬ (x23∈a6))))) else(Cj a16 nx3 k18 false)) else(if(1:Int)<k18 then Option.bind (Lh k18) fun x35=>((Lf x1 a6 a16 nx3 k18 (decide (¬ (x35∈a6))))) else(Lf x1 a6 a16 nx3 k18 false)))
def Ft (p1:List Int)(x1:Xl × Int)(rec1:(Int × List Int)→Option (List Qm × Int))(s1:Int × List Int):Option (List Qm × Int):=match s1 with|(a5,a6)=>(if a5<(p1.length:Int) then Option.bind (Xd p1 a5) fun y7=>(Option.bind (Rb x1.1 y7) fun x8=>((Qs (Fu a5 rec1) Qy (x8,a6)))) else(Hg (Lg x1 a6) Fs Qy a6 []))
def Et (p0:Qo)(p1:List Int):Option (List Qm × Int):=Option.bind (Cm p0 ([]:List Qm)) fun x1=>((if x1.2≠0 then(some ([],x1.2)) else Option.bind (Cr x1.1 p1) fun x2=>((bif (!x2) then(some ([],2)) else(if(p1.length:Int)=0 then(some ([(Qm.mk 1 0)],0)) else(Qs (Ft p1 x1) Qy (0,[])))))))
end
end Go.Sx

end
section
set_option linter.unusedVariables false
set_option maxRecDepth 100000
namespace Go.Sx
open Go Go.RowKit
noncomputable section
structure Va where
 a0:Int
 a1:Int
 a2:Int
 a3:Int
 a4:Int
deriving DecidableEq,Inhabited
def Va.cs (x:Va)  : List Value:=[.int .i64 x.a0,.int .i64 x.a1,.int .i64 x.a2,.int .i64 x.a3,.int .i64 x.a4]
theorem Va.cs_ones (x:Va)   : Zx (Va.cs x )=true:=by simp only[Va.cs,List.cons_append,List.nil_append,kb,Zx,Dx,Dw,Dy,cond_true]
theorem Va.cs_inj {x y:Va}(h:Va.cs x=Va.cs y):x=y:=by
 have h0:x.a0=y.a0:=Vv (congrArg (fun l=>l[0]?) h)
 have h1:x.a1=y.a1:=Vv (congrArg (fun l=>l[1]?) h)
 have h2:x.a2=y.a2:=Vv (congrArg (fun l=>l[2]?) h)
 have h3:x.a3=y.a3:=Vv (congrArg (fun l=>l[3]?) h)
 have h4:x.a4=y.a4:=Vv (congrArg (fun l=>l[4]?) h)
 cases x;cases y;simp only at *;subst h0;subst h1;subst h2;subst h3;subst h4;rfl
theorem Va.ws (l:List Va):Ws 5 (l.map Va.cs):=Fe l (fun _=>rfl) (fun _=>rfl)
def Ay (p0:Xg)(p1:Qq)(a1:Bool)(a2:Bool):Option (Bool):=(bif a2 then(bif a1 then(some (decide ((p1.Witness.length:Int)=0))) else(some false)) else Option.bind (Et (Qo.mk p1.Kind p0.Depth 0 (Xz.mk 0#64 0#64 0#64)) p1.Witness) fun x3=>((if x3.2=0 then(if(p1.Witness.length:Int)≤p0.Revoked then(some (decide ((x3.1.length:Int)=p1.Items))) else(some false)) else(some false))))
def Sh (p0:Xg)(p1:Qq)(a1:Bool):Option (Bool):=(bif (!a1) then(Ay p0 p1 a1 true) else(Ay p0 p1 a1 (decide (p1.Kind=4#8))))
def Ax (p0:Xg)(p1:Qq)(p2:Qq):Option (Bool):=(if p1.Kind=p2.Kind then(bif (p1.Fits == p2.Fits) then(Sh p0 p1 (decide ((Va.mk p1.Items p1.Points p1.Header p1.Storage p1.Cost)=(Va.mk p2.Items p2.Points p2.Header p2.Storage p2.Cost)))) else(Sh p0 p1 false)) else(Sh p0 p1 false))
def Qbe (p0:Qq)(p1:Qq)(p2:Xg):Option (Bool):=Option.bind (Ax p2 p0 p1) fun x1=>((some x1))
def Eb (p0:List Qq)(p1:List Qq)(p2_0:Xg)(rec1:(Int)→Option (Bool))(a2:Int):Option (Bool):=(if a2<(p0.length:Int) then Option.bind (Xd p0 a2) fun y3=>(Option.bind (Xd p1 a2) fun y4=>(Option.bind (Qbe y3 y4 p2_0) fun x5=>((bif (!x5) then(some false) else(rec1 (Qb (a2+1))))))) else(some true))
def Ea (p0:List Qq)(p1:List Qq)(p2_0:Xg):Option (Bool):=(if(p0.length:Int)≠(p1.length:Int) then(some false) else(Qs (Eb p0 p1 p2_0) Qy 0))
def Av (a2:Bool):Option (Int):=(bif a2 then(some 100) else(some 0))
def Se (p0:Xg)(p1:Xk):Option (Int):=Option.bind (Sg p0) fun x1=>((if x1.2≠0 then(some x1.2) else(if p1.Best≠x1.1.Best then(Av true) else Option.bind (Ea p1.Choices x1.1.Choices p0) fun x3=>((Av (!x3))))))
end
end Go.Sx

end
section
set_option linter.unusedVariables false
set_option maxRecDepth 100000
namespace Go.Sx
open Go Go.RowKit
noncomputable section
end
end Go.Sx

end
section
set_option linter.unusedVariables false
set_option maxRecDepth 100000
namespace Go.Sx
open Go Go.RowKit
noncomputable section
def Nl (p0:Qo):Option (Bool):=(if 1#8≤p0.Kind then(if p0.Kind≤3#8 then(if(0:Int)≤p0.Depth then(if p0.Depth≤6 then(if p0.Degree=0 then(some (decide (p0.Group=(Xz.mk 0#64 0#64 0#64)))) else(some false)) else(some false)) else(some false)) else(some false)) else(some false))
def Iv (p0:Qo):Option (Int):=Option.bind (Nl p0) fun x1=>((bif (!x1) then(some 30) else(some 0)))
def Qg1 (p0:BitVec 8):Option (Int):=Option.bind (Xd [0,1,2,4] (Jn p0)) fun y1=>((some y1))
def Qcz (p0:Int):Option (Int):=Option.bind (Xd [0,1,1,2] p0) fun y1=>((some y1))
def Qg0 (p0:BitVec 8)(p1:Int)(p2:Int):Option (Int):=(if p0=1#8 then(some (Qb (1-p2))) else Option.bind (Qcz p1) fun x1=>((some (Qb (p2*x1)))))
def Qcl (p0:Int)(rec1:(Int)→Option (Int))(a2:Int):Option (Int):=(if Qb (a2*a2)<p0 then(rec1 (Qb (a2+1))) else(some a2))
def Ug (p0:Int):Option (Int):=(Qs (Qcl p0) Qy 1)
def Oq (p0:Qo)(p1:Int)(p2:Int)(a1:Bool):Option (Int):=(bif a1 then(some (Vp p1 1)) else Option.bind (Ug p0.Depth) fun x2=>(Option.bind (Ss (Qb (p0.Depth-p2)) x2) fun x3=>((if x3=0 then Option.bind (Xd [1,1,3] p1) fun y4=>((some y4)) else(some 2)))))
def Qcs (p0:Qo)(p1:Int)(p2:Int):Option (Int):=(if p0.Kind=2#8 then(Oq p0 p1 p2 true) else(if p1=1 then(Oq p0 p1 p2 true) else(Oq p0 p1 p2 (decide (p1=3)))))
def Qd0 (p0:Qo)(p1:List (List (List Int)))(p2:Int)(p3:Int)(p4:Int)(p5:Int)(a7:Bool):Option (Int):=(bif a7 then Option.bind (Xd p1 0) fun y8=>(Option.bind (Xd y8 (Qb (p3-1))) fun y9=>(Option.bind (Xd y9 p5) fun y10=>(Option.bind (Xd p1 0) fun y11=>(Option.bind (Xd y11 (Qb (p3-1))) fun y12=>(Option.bind (Xd y12 (Qb (p4-p5))) fun y13=>(Option.bind (Qcz p2) fun x14=>((some (Qb ((Qb (y10+y13))+x14)))))))))) else Option.bind (Qcs p0 p2 p3) fun x15=>(Option.bind (Xd p1 x15) fun y16=>(Option.bind (Xd y16 (Qb (p3-1))) fun y17=>(Option.bind (Xd y17 p4) fun y18=>((some y18))))))
def Qg2 (p0:Qo)(p1:List (List (List Int)))(p2:Int)(p3:Int)(p4:Int)(p5:Int):Option (Int):=(if p0.Kind=1#8 then Option.bind (Xd p1 0) fun y1=>(Option.bind (Xd y1 (Qb (p3-1))) fun y2=>(Option.bind (Xd y2 p5) fun y3=>(Option.bind (Xd p1 0) fun y4=>(Option.bind (Xd y4 (Qb (p3-1))) fun y5=>(Option.bind (Xd y5 (Qb (p4-p5))) fun y6=>((some (Qb (y3+y6))))))))) else(if(0:Int)<p5 then(Qd0 p0 p1 p2 p3 p4 p5 (decide (p5<p4))) else(Qd0 p0 p1 p2 p3 p4 p5 false)))
def Qcu (p0:Qo)(p1:List (List (List Int)))(p2:Int)(p3:Int)(p4:Int)(nn1:Nat)(rec1:(Int × Int × Int)→Option (Int × Int))(s1:Int × Int × Int):Option (Int × Int):=match s1 with|(a5,a6,a7)=>(if a7≤Mn p4 (Xr 1 nn1) then Option.bind (Qg2 p0 p1 p2 p3 p4 a7) fun x8=>((if a5<x8 then(rec1 (x8,a7,Qb (a7+1))) else(rec1 (a5,a6,Qb (a7+1))))) else(some (a5,a6)))
def Qct (p0:Qo)(p1:List (List (List Int)))(p2:Int)(p3:Int)(p4:Int):Option (Int × Int):=Option.bind (Ju (un (wd (Qb (p3-1))))) fun nn1=>((Qs (Qcu p0 p1 p2 p3 p4 nn1) Qy ((-1),(-1),Vp 0 (Qb (p4-(Xr 1 nn1))))))
def Qcn (p0:Qo)(a6:Int)(a18:Int)(a21:List (List (List Int)))(a22:Int)(rec4:(List (List (List Int)) × Int)→Option (List (List (List Int))))(a24:Bool):Option (List (List (List Int))):=(bif a24 then Option.bind (Xd a21 a18) fun y25=>(Option.bind (Xd y25 a6) fun y26=>(Option.bind (Qg0 p0.Kind a18 a22) fun x27=>(Option.bind (Xd y26 a22) fun y28=>((rec4 (a21.set a18.toNat (y25.set a6.toNat (y26.set a22.toNat x27)),Qb (a22+1))))))) else Option.bind (Xd a21 a18) fun y29=>(Option.bind (Xd y29 a6) fun y30=>(Option.bind (Qct p0 a21 a18 a6 a22) fun x31=>(Option.bind (Xd y30 a22) fun y32=>((rec4 (a21.set a18.toNat (y29.set a6.toNat (y30.set a22.toNat x31.1)),Qb (a22+1))))))))
def Qcr (p0:Qo)(a6:Int)(a18:Int)(rec3:(List (List (List Int)) × Int)→Option (List (List (List Int))))(rec4:(List (List (List Int)) × Int)→Option (List (List (List Int))))(s4:List (List (List Int)) × Int):Option (List (List (List Int))):=match s4 with|(a21,a22)=>Option.bind (Ju (un (wd a6))) fun nn23=>((if a22≤Xr 1 nn23 then(if a22=0 then(Qcn p0 a6 a18 a21 a22 rec4 true) else(Qcn p0 a6 a18 a21 a22 rec4 (decide (a6=0)))) else(rec3 (a21,Qb (a18+1)))))
def Qcq (p0:Qo)(a6:Int)(rec1:(List (List (List Int)) × Int)→Option (List (List (List Int))))(rec3:(List (List (List Int)) × Int)→Option (List (List (List Int))))(s3:List (List (List Int)) × Int):Option (List (List (List Int))):=match s3 with|(a17,a18)=>(if a18<(a17.length:Int) then(Qs (Qcr p0 a6 a18 rec3) Qy (a17,0)) else(rec1 (a17,Qb (a6+1))))
def Qcp (p0:Qo)(a6:Int)(rec1:(List (List (List Int)) × Int)→Option (List (List (List Int))))(rec2:(List (List (List Int)) × Int)→Option (List (List (List Int))))(s2:List (List (List Int)) × Int):Option (List (List (List Int))):=match s2 with|(a9,a10)=>(if a10<(a9.length:Int) then Option.bind (Xd a9 a10) fun y11=>(Option.bind (Ju (un (wd a6))) fun nn12=>(Option.bind (Nb 8 (Qb (1+(Xr 1 nn12))) 0) fun l13=>(Option.bind (Vb 24 y11 [l13]) fun l14=>((rec2 (a9.set a10.toNat (y11++[l13]),Qb (a10+1))))))) else(Qs (Qcq p0 a6 rec1) Qy (a9,0)))
def Qco (p0:Qo)(rec1:(List (List (List Int)) × Int)→Option (List (List (List Int))))(s1:List (List (List Int)) × Int):Option (List (List (List Int))):=match s1 with|(a5,a6)=>(if a6≤p0.Depth then(Qs (Qcp p0 a6 rec1) Qy (a5,0)) else(some a5))
def Ut (p0:Qo):Option (List (List (List Int))):=Option.bind (Qg1 p0.Kind) fun x1=>(Option.bind (Nb 24 x1 ([]:List (List Int))) fun l2=>((Qs (Qco p0) Qy (l2,0))))
end
end Go.Sx

end
section
set_option linter.unusedVariables false
set_option maxRecDepth 100000
namespace Go.Sx
open Go Go.RowKit
noncomputable section
def Qcj (p0:Int)(rec1:(Int × Int)→Option (Int))(s1:Int × Int):Option (Int):=match s1 with|(a3,a4)=>(if a4<p0 then(rec1 (Qb (2*a3),Qb (a4+1))) else(some a3))
def Yo (p0:Int):Option (Int):=(Qs (Qcj p0) Qy (1,0))
def Uu (a2:Bool):Option (Int):=(bif a2 then(some 2) else(some 0))
def Oo (p0:Qo)(p1:Int):Option (Int):=Option.bind (Iv p0) fun x1=>((if x1≠0 then(some x1) else(if p1<0 then(Uu true) else Option.bind (Yo p0.Depth) fun x3=>((Uu (decide (x3<p1)))))))
def Qfy (p0:Qo)(p1:List (List (List Int)))(p2:Int):Option (Int):=(if p2=0 then(some 1) else Option.bind (Xd p1 0) fun y1=>(Option.bind (Xd y1 p0.Depth) fun y2=>(Option.bind (Xd y2 p2) fun y3=>((some y3)))))
def Qcv (p0:Qo)(p1:List (List (List Int)))(p2:Int)(rec1:(Int × Int × Int)→Option (Int × Int))(s1:Int × Int × Int):Option (Int × Int):=match s1 with|(a4,a5,a6)=>(if a6≤p2 then Option.bind (Qfy p0 p1 a6) fun x7=>((if a4<x7 then(rec1 (x7,a6,Qb (a6+1))) else(rec1 (a4,a5,Qb (a6+1))))) else(some (a4,a5)))
def Uv (p0:Qo)(p1:List (List (List Int)))(p2:Int):Option (Int × Int):=(Qs (Qcv p0 p1 p2) Qy ((-1),(-1),0))
def Om (p0:Qo)(p1:Int):Option (Int × Int):=Option.bind (Oo p0 p1) fun x1=>((if x1≠0 then(some (0,x1)) else Option.bind (Ut p0) fun x2=>(Option.bind (Uv p0 x2 p1) fun x3=>((some (x3.1,0))))))
def Qcy (p0:Qo)(p1:List (List (List Int)))(p2:Int)(p4:Int)(p5:Int)(rec0:(Qo × List (List (List Int)) × Int × Int × Int × Int)→Option (List Int))(x2:Int × Int)(a3:Int):Option (List Int):=Option.bind (rec0 (p0,p1,Qb (2*p2),a3,Qb (p4-1),x2.2)) fun x4=>(Option.bind (rec0 (p0,p1,Qb ((Qb (2*p2))+1),a3,Qb (p4-1),Qb (p5-x2.2))) fun x5=>(Option.bind (Vb 8 x4 x5) fun l6=>((some l6))))
def Ot (p0:Qo)(p1:List (List (List Int)))(p2:Int)(p3:Int)(p4:Int)(p5:Int)(rec0:(Qo × List (List (List Int)) × Int × Int × Int × Int)→Option (List Int))(x2:Int × Int)(a7:Bool):Option (List Int):=(bif a7 then Option.bind (Qcs p0 p3 p4) fun x8=>((Qcy p0 p1 p2 p4 p5 rec0 x2 x8)) else(Qcy p0 p1 p2 p4 p5 rec0 x2 0))
def Qfz (rec0:((Qo × List (List (List Int)) × Int × Int × Int × Int)→Option (List Int)))(p0:Qo)(p1:List (List (List Int)))(p2:Int)(p3:Int)(p4:Int)(p5:Int):Option (List Int):=(if p5=0 then(some []) else(if p4=0 then Option.bind (Yo p0.Depth) fun x1=>((some [Qb (p2-x1)])) else Option.bind (Qct p0 p1 p3 p4 p5) fun x2=>((if p0.Kind≠1#8 then(if x2.2=0 then(Ot p0 p1 p2 p3 p4 p5 rec0 x2 true) else(Ot p0 p1 p2 p3 p4 p5 rec0 x2 (decide (x2.2=p5)))) else(Ot p0 p1 p2 p3 p4 p5 rec0 x2 false)))))
def Qcx (rec0:((Qo × List (List (List Int)) × Int × Int × Int × Int)→Option (List Int)))(s:Qo × List (List (List Int)) × Int × Int × Int × Int):Option (List Int):=match s with|(p0,p1,p2,p3,p4,p5)=>Qfz rec0 p0 p1 p2 p3 p4 p5
def Qcw (p0:Qo)(p1:List (List (List Int)))(p2:Int)(p3:Int)(p4:Int)(p5:Int):Option (List Int):=Qs Qcx Qy (p0,p1,p2,p3,p4,p5)
def Ol (p0:Qo)(p1:Int):Option (List Int):=Option.bind (Ut p0) fun x1=>(Option.bind (Uv p0 x1 p1) fun x2=>(Option.bind (Qcw p0 x1 1 0 p0.Depth x2.2) fun x3=>((some x3))))
end
end Go.Sx

end
section
set_option linter.unusedVariables false
set_option maxRecDepth 100000
namespace Go.Sx
open Go Go.RowKit
noncomputable section
def Ur (p0:Xg)(p1:BitVec 8):Option (Qo):=(if p1=4#8 then(some (Qo.mk p1 p0.Depth (Vp p0.Revoked 1) p0.Group)) else(some (Qo.mk p1 p0.Depth 0 (Xz.mk 0#64 0#64 0#64))))
def Ip (p0:BitVec 64)(rec1:(BitVec 64)→Option (Bool))(a2:BitVec 64):Option (Bool):=(if a2*a2≤p0 then Option.bind (Yw p0 a2) fun x3=>((if x3=0#64 then(some false) else(rec1 (a2+1#64)))) else(some (decide (2#64≤p0))))
def Io (p0:BitVec 64):Option (Bool):=(Qs (Ip p0) Qy 2#64)
def Ir (p2:BitVec 64)(a6:BitVec 64)(a8:BitVec 64)(rec1:(BitVec 64 × BitVec 64 × BitVec 64)→Option (BitVec 64))(a9:BitVec 64):Option (BitVec 64):=Option.bind (Yw (a8*a8) p2) fun x10=>(Option.bind (Im a6 2#64) fun x11=>((rec1 (x11,a9,x10))))
def Ry (p2:BitVec 64)(rec1:(BitVec 64 × BitVec 64 × BitVec 64)→Option (BitVec 64))(s1:BitVec 64 × BitVec 64 × BitVec 64):Option (BitVec 64):=match s1 with|(a6,a7,a8)=>(if 0#64<a6 then Option.bind (Yw a6 2#64) fun x12=>((if x12=1#64 then Option.bind (Yw (a7*a8) p2) fun x13=>((Ir p2 a6 a8 rec1 x13)) else(Ir p2 a6 a8 rec1 a7))) else(some a7))
def Iq (p0:BitVec 64)(p1:BitVec 64)(p2:BitVec 64):Option (BitVec 64):=Option.bind (Yw 1#64 p2) fun x1=>(Option.bind (Yw p0 p2) fun x2=>((Qs (Ry p2) Qy (p1,x1,x2))))
def Sl (p0:Xz)(a1:Bool):Option (Bool):=(bif a1 then(some false) else(if 2#64≤p0.G then(if p0.G<p0.P then Option.bind (Iq p0.G p0.Q p0.P) fun x2=>((some (decide (x2=1#64)))) else(some false)) else(some false)))
def It (p0:Xz):Option (Bool):=(if 1048575#64<p0.P then(Sl p0 true) else Option.bind (Io p0.P) fun x3=>((bif (!x3) then(Sl p0 true) else(if 1048575#64<p0.Q then(Sl p0 true) else Option.bind (Io p0.Q) fun x4=>((bif (!x4) then(Sl p0 true) else Option.bind (Yw (p0.P-1#64) p0.Q) fun x5=>((Sl p0 (decide (x5≠0#64))))))))))
def Np (p0:Qo)(a1:Bool):Option (Bool):=(bif a1 then(some false) else Option.bind (Yo p0.Depth) fun x2=>((some (decide (wd (Qb (x2+p0.Degree))<p0.Group.Q)))))
def Sp (p0:Qo):Option (Bool):=(if p0.Kind≠4#8 then(Np p0 true) else(if p0.Depth<0 then(Np p0 true) else(if(6:Int)<p0.Depth then(Np p0 true) else(if p0.Degree<1 then(Np p0 true) else(if(8:Int)<p0.Degree then(Np p0 true) else Option.bind (It p0.Group) fun x3=>((Np p0 (!x3))))))))
def Bb (p0:Int)(rec1:(Int × List Int)→Option (List Int))(s1:Int × List Int):Option (List Int):=match s1 with|(a4,a5)=>(if a4≠p0 then Option.bind (Vb 8 [a4] a5) fun l7=>(Option.bind (Sj a4 2) fun x8=>((rec1 (x8,l7)))) else Option.bind (Vb 8 [p0] a5) fun l9=>((some l9)))
def Ob (p0:Int)(p1:Int):Option (List Int):=(Qs (Bb p0) Qy (p1,[]))
def Ud (p0:Int)(p1:Int):Option (Bool):=(if(1:Int)≤p1 then Option.bind (Yo p0) fun x1=>((some (decide (p1<Qb (2*x1))))) else(some false))
def My (p1:Int)(rec1:(Int)→Option (Bool))(a2:Int):Option (Bool):=(if p1<a2 then Option.bind (Sj a2 2) fun x3=>((rec1 x3)) else(some (decide (a2=p1))))
def Iu (p0:Int)(p1:Int):Option (Bool):=(Qs (My p1) Qy p0)
def Uc  (rec1:(Int × Int)→Option (Int))(s1:Int × Int):Option (Int):=match s1 with|(a3,a4)=>(if(1:Int)<a3 then Option.bind (Sj a3 2) fun x5=>((rec1 (x5,Qb (a4+1)))) else(some a4))
def Oa (p0:Int):Option (Int):=(Qs (Uc) Qy (p0,0))
def Uf (p0:Int)(p1:Int):Option (Bool):=Option.bind (Oa p1) fun x1=>(Option.bind (Ug p0) fun x2=>(Option.bind (Ss x1 x2) fun x3=>((some (decide (x3=0))))))
def Bd (p0:Int)(x1:List Int)(rec1:(Int)→Option (Int))(a3:Int):Option (Int):=(if a3<Qb ((x1.length:Int)-1) then Option.bind (Xd x1 a3) fun y4=>(Option.bind (Uf p0 y4) fun x5=>((bif x5 then Option.bind (Xd x1 a3) fun y6=>((some y6)) else(rec1 (Qb (a3+1)))))) else(some 0))
def Sn (p0:Int)(p1:Int)(p2:Int):Option (Int):=Option.bind (Ob p1 p2) fun x1=>((Qs (Bd p0 x1) Qy 1))
def Ub (p0:Qo)(p1:Qm)(a2:Bool):Option (Bool):=(bif a2 then(some false) else(if p0.Kind=2#8 then(some true) else Option.bind (Uf p0.Depth p1.Node) fun x3=>((bif x3 then(some true) else Option.bind (Sn p0.Depth p1.Node p1.Minus) fun x4=>((some (decide (x4=0))))))))
def Sm (p0:Qo)(p1:Qm):Option (Bool):=Option.bind (Ud p0.Depth p1.Node) fun x1=>((bif (!x1) then(some false) else(if p0.Kind=1#8 then(some (decide (p1.Minus=0))) else(if p1.Minus=0 then(some (decide (p1.Node=1))) else Option.bind (Ud p0.Depth p1.Minus) fun x5=>((bif (!x5) then(Ub p0 p1 true) else(if p1.Minus=p1.Node then(Ub p0 p1 true) else Option.bind (Iu p1.Minus p1.Node) fun x6=>((Ub p0 p1 (!x6))))))))))
def Qcg (x2:List Int)(rec1:(List Qm × Int)→Option (List Qm))(s1:List Qm × Int):Option (List Qm):=match s1 with|(a6,a8)=>(if a8<(x2.length:Int) then Option.bind (Xd x2 a8) fun y9=>(Option.bind (Vb 16 a6 [(Qm.mk y9 0)]) fun l10=>((rec1 (l10,Qb (a8+1))))) else(some a6))
def Qci (p0:Qo)(x2:List Int)(a17:Int)(rec2:(List Qm × Int)→Option (List Qm))(rec3:(List Qm × Int)→Option (List Qm))(s3:List Qm × Int):Option (List Qm):=match s3 with|(a21,a23)=>(if a23<(x2.length:Int) then Option.bind (Xd x2 a17) fun y24=>(Option.bind (Xd x2 a23) fun y25=>(Option.bind (Sm p0 (Qm.mk y24 (Te .xor y25 1))) fun x26=>((bif x26 then Option.bind (Vb 16 a21 [(Qm.mk y24 (Te .xor y25 1))]) fun l27=>((rec3 (l27,Qb (a23+1)))) else(rec3 (a21,Qb (a23+1))))))) else(rec2 (a21,Qb (a17+1))))
def Qch (p0:Qo)(x2:List Int)(rec2:(List Qm × Int)→Option (List Qm))(s2:List Qm × Int):Option (List Qm):=match s2 with|(a15,a17)=>(if a17<(x2.length:Int) then(Qs (Qci p0 x2 a17 rec2) Qy (a15,Qb (a17+1))) else(some a15))
def Qfs (p0:Qo)(p1:Int):Option (List Qm):=Option.bind (Yo p0.Depth) fun x1=>(Option.bind (Ob 1 (Qb (x1+p1))) fun x2=>((if p0.Kind=1#8 then(Qs (Qcg x2) Qy ([],0)) else Option.bind (Vb 16 [] [(Qm.mk 1 0)]) fun l11=>((Qs (Qch p0 x2) Qy (l11,0))))))
def Qck (p0:Qo):Option (Int × Int):=Option.bind (Nl p0) fun x1=>((bif (!x1) then(some (0,30)) else Option.bind (Qfs p0 0) fun x2=>((some ((x2.length:Int),0)))))
def Ul (p0:Xg)(p1:BitVec 8)(a2:Int)(a3:Int)(a4:Int)(a5:List Int):Option (Qq):=Option.bind (Yo p0.Depth) fun x7=>((some (Qq.mk p1 (decide (a4≤p0.Storage)) a2 a3 (Qb ((Qb (67+(Qb (18*a2))))+(Qb (16*a3)))) a4 (Qb ((Qb ((Qb (p0.Headers*p0.HeaderPrice))*(Qb ((Qb (67+(Qb (18*a2))))+(Qb (16*a3))))))+(Qb ((Qb (x7*p0.StoragePrice))*a4)))) a5)))
def Oh (p0:Xg)(p1:BitVec 8):Option (Qq):=Option.bind (Ur p0 p1) fun x1=>((if p1=4#8 then Option.bind (Sp x1) fun x8=>((bif (!x8) then(some (Qq.mk p1 false 0 0 0 0 0 [])) else(Ul p0 p1 0 x1.Degree 8 []))) else Option.bind (Qck x1) fun x9=>(Option.bind (Om x1 p0.Revoked) fun x10=>(Option.bind (Ol x1 p0.Revoked) fun x11=>((Ul p0 p1 x10.1 0 (Qb (16*x9.1)) x11))))))
def Um (a5:BitVec 8)(a7:BitVec 8)(rec1:(BitVec 8 × List Qq × BitVec 8)→Option (Xk))(l10:List Qq)(a11:Bool):Option (Xk):=(bif a11 then(rec1 (a5+1#8,l10,a5)) else(rec1 (a5+1#8,l10,a7)))
def Uo (p0:Xg)(rec1:(BitVec 8 × List Qq × BitVec 8)→Option (Xk))(s1:BitVec 8 × List Qq × BitVec 8):Option (Xk):=match s1 with|(a5,a6,a7)=>(if a5≤4#8 then Option.bind (Oh p0 a5) fun x9=>(Option.bind (Vb 72 a6 [x9]) fun l10=>((bif x9.Fits then(if a7=0#8 then(Um a5 a7 rec1 l10 true) else Option.bind (Xd l10 (Jn (a7-1#8))) fun y12=>((Um a5 a7 rec1 l10 (decide (x9.Cost<y12.Cost))))) else(Um a5 a7 rec1 l10 false)))) else(some (Xk.mk a6 a7)))
def Oi (p0:Xg):Option (Xk):=(Qs (Uo p0) Qy (1#8,[],0#8))
def Qcm (a3:Int)(rec2:(Int)→Option (Bool))(a4:Bool):Option (Bool):=(bif a4 then(some false) else(rec2 (Qb (a3+1))))
def Uq (p0:Xk)(p1:Xk)(rec2:(Int)→Option (Bool))(a3:Int):Option (Bool):=(if a3<(p0.Choices.length:Int) then Option.bind (Xd p0.Choices a3) fun y5=>(Option.bind (Xd p1.Choices a3) fun y6=>(Option.bind (Up y5 y6) fun x7=>((Qcm a3 rec2 (!x7))))) else(some true))
def Oj (p0:Xk)(p1:Xk)(a1:Bool):Option (Bool):=(bif a1 then(some false) else(Qs (Uq p0 p1) Qy 0))
def Bh (p0:Xk)(p1:Xk):Option (Bool):=(if(p0.Choices.length:Int)≠(p1.Choices.length:Int) then(Oj p0 p1 true) else(Oj p0 p1 (decide (p0.Best≠p1.Best))))
end
end Go.Sx

end
section
set_option linter.unusedVariables false
set_option maxRecDepth 100000
namespace Go.Sx
open Go Go.RowKit
noncomputable section
def Rz (a2:Int)(rec1:(Int)→Option (Bool))(a3:Bool):Option (Bool):=(bif a3 then(some false) else(rec1 (Qb (a2+1))))
def Ba (p0:Int)(p1:List Int)(rec1:(Int)→Option (Bool))(a2:Int):Option (Bool):=(if a2<(p1.length:Int) then Option.bind (Xd p1 a2) fun y4=>((if y4<0 then(Rz a2 rec1 true) else Option.bind (Xd p1 a2) fun y5=>(Option.bind (Yo p0) fun x6=>((if x6≤y5 then(Rz a2 rec1 true) else(if(0:Int)<a2 then Option.bind (Xd p1 a2) fun y7=>(Option.bind (Xd p1 (Qb (a2-1))) fun y8=>((Rz a2 rec1 (decide (y7≤y8))))) else(Rz a2 rec1 false))))))) else(some true))
def Iz (p0:Int)(p1:List Int):Option (Bool):=(Qs (Ba p0 p1) Qy 0)
def Bf (p0:Int)(p1:List Int)(p2:Int)(rec1:(Int)→Option (Bool))(a2:Int):Option (Bool):=(if a2<(p1.length:Int) then Option.bind (Xd p1 a2) fun y3=>(Option.bind (Yo p0) fun x4=>(Option.bind (Iu (Qb (x4+y3)) p2) fun x5=>((bif x5 then(some true) else(rec1 (Qb (a2+1))))))) else(some false))
def Tv (p0:Int)(p1:List Int)(p2:Int):Option (Bool):=(Qs (Bf p0 p1 p2) Qy 0)
def Od (p0:Int)(p1:List Int)(a2:Int)(rec1:(Int)→Option (Int))(a3:Bool):Option (Int):=(bif a3 then Option.bind (Tv p0 p1 (Qb (2*a2))) fun x4=>((bif x4 then(rec1 (Qb (2*a2))) else(rec1 (Qb ((Qb (2*a2))+1))))) else(some a2))
def Uh (p0:Int)(p1:List Int)(rec1:(Int)→Option (Int))(a2:Int):Option (Int):=Option.bind (Yo p0) fun x5=>((if a2<x5 then Option.bind (Tv p0 p1 (Qb (2*a2))) fun x6=>(Option.bind (Tv p0 p1 (Qb ((Qb (2*a2))+1))) fun x7=>((Od p0 p1 a2 rec1 (x6 != x7)))) else(Od p0 p1 a2 rec1 false)))
def Oc (p0:Int)(p1:List Int)(p2:Int):Option (Int):=(Qs (Uh p0 p1) Qy p2)
def Uj (p0:List Qm)(p1:Qm)(a2:Int)(rec1:(Int)→Option (List Qm))(a3:Bool):Option (List Qm):=(bif a3 then(rec1 (Qb (a2+1))) else Option.bind (Wg p0 0 a2) fun l4=>(Option.bind (Vb 16 [] l4) fun l5=>(Option.bind (Vb 16 l5 [p1]) fun l6=>(Option.bind (Wg p0 a2 (p0.length:Int)) fun l7=>(Option.bind (Vb 16 l6 l7) fun l8=>((some l8)))))))
def Bg (p0:List Qm)(p1:Qm)(rec1:(Int)→Option (List Qm))(a2:Int):Option (List Qm):=(if a2<(p0.length:Int) then Option.bind (Xd p0 a2) fun y9=>((Uj p0 p1 a2 rec1 (decide (y9.Node<p1.Node)))) else(Uj p0 p1 a2 rec1 false))
def Nn (p0:List Qm)(p1:Qm):Option (List Qm):=(Qs (Bg p0 p1) Qy 0)
def Nk (a5:List Qm)(a7:Int)(rec2:(List Qm × Int)→Option (List Qm))(a10:Bool):Option (List Qm):=(bif a10 then Option.bind (Vb 16 a5 [(Qm.mk a7 0)]) fun l11=>((rec2 (l11,Qb (a7+1)))) else(rec2 (a5,Qb (a7+1))))
def Ua (p0:Qo)(p1:List Int)(a5:List Qm)(a7:Int)(rec2:(List Qm × Int)→Option (List Qm))(a14:Bool):Option (List Qm):=(bif a14 then(rec2 (a5,Qb (a7+1))) else Option.bind (Oc p0.Depth p1 a7) fun x15=>((if x15=a7 then(rec2 (a5,Qb (a7+1))) else Option.bind (Sm p0 (Qm.mk a7 x15)) fun x16=>((bif x16 then Option.bind (Nn a5 (Qm.mk a7 x15)) fun x17=>((rec2 (x17,Qb (a7+1)))) else Option.bind (Sn p0.Depth a7 x15) fun x18=>(Option.bind (Nn a5 (Qm.mk a7 x18)) fun x19=>(Option.bind (Nn x19 (Qm.mk x18 x15)) fun x20=>((rec2 (x20,Qb (a7+1)))))))))))
def Dh (p0:Qo)(p1:List Int)(rec2:(List Qm × Int)→Option (List Qm))(s2:List Qm × Int):Option (List Qm):=match s2 with|(a5,a7)=>Option.bind (Yo p0.Depth) fun x8=>((if a7<Qb (2*x8) then Option.bind (Tv p0.Depth p1 a7) fun x9=>((if p0.Kind=1#8 then(bif (!x9) then(if a7=1 then(Nk a5 a7 rec2 true) else Option.bind (Sj a7 2) fun x12=>(Option.bind (Tv p0.Depth p1 x12) fun x13=>((Nk a5 a7 rec2 x13)))) else(Nk a5 a7 rec2 false)) else(bif (!x9) then(Ua p0 p1 a5 a7 rec2 true) else(if(1:Int)<a7 then Option.bind (Tv p0.Depth p1 (Te .xor a7 1)) fun x21=>((Ua p0 p1 a5 a7 rec2 (!x21))) else(Ua p0 p1 a5 a7 rec2 false))))) else(some a5)))
def Iy (p0:Qo)(p1:List Int)(a1:Bool):Option (List Qm):=(bif a1 then(some [(Qm.mk 1 0)]) else(Qs (Dh p0 p1) Qy ([],1)))
def Qcf (p0:Qo)(p1:List Int):Option (List Qm):=(if p0.Kind≠1#8 then(Iy p0 p1 (decide ((p1.length:Int)=0))) else(Iy p0 p1 false))
def Iw (p0:Qo)(p1:List Int):Option (List Qm × Int):=Option.bind (Nl p0) fun x1=>((bif (!x1) then(some ([],30)) else Option.bind (Iz p0.Depth p1) fun x2=>((bif (!x2) then(some ([],2)) else Option.bind (Qcf p0 p1) fun x3=>((some (x3,0)))))))
def Nq (p0:Xg)(a1:Bool):Option (Bool):=(bif a1 then(some false) else(if(0:Int)≤p0.Headers then(if p0.Headers≤1000 then(if(0:Int)≤p0.HeaderPrice then(if p0.HeaderPrice≤1000 then(if(0:Int)≤p0.StoragePrice then(some (decide (p0.StoragePrice≤1000))) else(some false)) else(some false)) else(some false)) else(some false)) else(some false)))
def Ok (p0:Xg):Option (Bool):=(if p0.Depth<0 then(Nq p0 true) else(if(6:Int)<p0.Depth then(Nq p0 true) else(if p0.Revoked<0 then(Nq p0 true) else Option.bind (Yo p0.Depth) fun x2=>((if x2<p0.Revoked then(Nq p0 true) else(if p0.Storage<0 then(Nq p0 true) else(Nq p0 (decide ((10000:Int)<p0.Storage)))))))))
def Ou (p0:Xg)(p1:Qq):Option (Bool):=(if p1.Kind=4#8 then(some (decide ((p1.Witness.length:Int)=0))) else Option.bind (Ur p0 p1.Kind) fun x1=>(Option.bind (Iw x1 p1.Witness) fun x2=>((if x2.2=0 then(if(p1.Witness.length:Int)≤p0.Revoked then(some (decide ((x2.1.length:Int)=p1.Items))) else(some false)) else(some false)))))
def Og (a5:Int)(rec2:(Int)→Option (Int))(a6:Bool):Option (Int):=(bif a6 then(some 100) else(rec2 (Qb (a5+1))))
def Uk (p0:Xg)(p1:Xk)(x2:Xk)(rec2:(Int)→Option (Int))(a5:Int):Option (Int):=(if a5<(x2.Choices.length:Int) then Option.bind (Xd p1.Choices a5) fun y7=>(Option.bind (Xd x2.Choices a5) fun y8=>(Option.bind (Bi y7 y8) fun x9=>((bif (!x9) then(Og a5 rec2 true) else Option.bind (Xd p1.Choices a5) fun y10=>(Option.bind (Ou p0 y10) fun x11=>((Og a5 rec2 (!x11)))))))) else(some 0))
def Oe (p0:Xg)(p1:Xk)(x2:Xk)(a3:Bool):Option (Int):=(bif a3 then(some 100) else(Qs (Uk p0 p1 x2) Qy 0))
def Sr (p0:Xg)(p1:Xk):Option (Int):=Option.bind (Ok p0) fun x1=>((bif (!x1) then(some 2) else Option.bind (Oi p0) fun x2=>((if(p1.Choices.length:Int)≠(x2.Choices.length:Int) then(Oe p0 p1 x2 true) else(Oe p0 p1 x2 (decide (p1.Best≠x2.Best)))))))
end
end Go.Sx

end
section
set_option linter.unusedVariables false
set_option maxRecDepth 100000
namespace Go.Sx
open Go Go.RowKit
noncomputable section
def Rk (p0:Xg)(p1:Xk)(rec1:(Int × List Qq)→Option (Bool))(s1:Int × List Qq):Option (Bool):=match s1 with|(a4,a5)=>(if a4<(p1.Choices.length:Int) then Option.bind (Xd p1.Choices a4) fun y7=>((if(100:Int)<(y7.Witness.length:Int) then(some true) else Option.bind (Xd p1.Choices a4) fun y8=>(Option.bind (Vb 8 [] y8.Witness) fun l9=>(Option.bind (Vb 72 a5 [(Qq.mk y8.Kind y8.Fits y8.Items y8.Points y8.Header y8.Storage y8.Cost l9)]) fun l10=>((rec1 (Qb (a4+1),l10))))))) else Option.bind (Se p0 (Xk.mk a5 p1.Best)) fun x11=>(Option.bind (Sr p0 p1) fun x12=>((if x11=x12 then Option.bind (Bh (Xk.mk a5 p1.Best) p1) fun x13=>((some x13)) else(some false)))))
def Qb0 (p0:Xg)(p1:Xk):Option (Bool):=(if(10:Int)<(p1.Choices.length:Int) then(some true) else(Qs (Rk p0 p1) Qy (0,[])))
end
end Go.Sx

end
section
set_option linter.unusedVariables false
set_option linter.unusedSimpArgs false
set_option maxRecDepth 100000
namespace Go.Sx
open Go Go.RowKit Go.Proofs
theorem Qt0 {H:Type}{enc:TypeId × Value→H}{W:World}{fuel:Nat}{cs:List Value}{x:DataW H × List MemPlace}(h:Tr enc Tryz.prog W fuel 24 cs x):∃ (m:Xz),cs=Xz.cs m:=by
 obtain⟨xs,n,rfl,rfl,hl,hx,hf⟩:=DataW.trod_struct Tryz.underlying24 h
 replace hl:cs.length=3:=hl.trans (by kernel_rfl)
 replace hx:xs.length=3:=hx
 obtain⟨y0,e0⟩:=Yp (i:=0) hx rfl
 have h0:Tr enc Tryz.prog W n 22 ((cs.drop 0).take 1) y0:=Yk hf (i:=0) rfl rfl rfl (by kernel_rfl) e0
 obtain⟨m0,c0⟩:=Qf6 Tryz.underlying22 h0
 obtain⟨y1,e1⟩:=Yp (i:=1) hx rfl
 have h1:Tr enc Tryz.prog W n 22 ((cs.drop 1).take 1) y1:=Yk hf (i:=1) rfl rfl rfl (by kernel_rfl) e1
 obtain⟨m1,c1⟩:=Qf6 Tryz.underlying22 h1
 obtain⟨y2,e2⟩:=Yp (i:=2) hx rfl
 have h2:Tr enc Tryz.prog W n 22 ((cs.drop 2).take 1) y2:=Yk hf (i:=2) rfl rfl rfl (by kernel_rfl) e2
 obtain⟨m2,c2⟩:=Qf6 Tryz.underlying22 h2
 have q:=Qa6 hl
 replace q:=Yi (o:=2) (k:=1) c2 q
 replace q:=Yi (o:=1) (k:=1) c1 q
 replace q:=Yi (o:=0) (k:=1) c0 q
 exact⟨⟨m0,m1,m2⟩,q⟩
def Xg.ok (x:Xg):Prop:=Wu x.Depth∧Wu x.Revoked∧Wu x.Storage∧Wu x.Headers∧Wu x.HeaderPrice∧Wu x.StoragePrice
theorem Qt1 {H:Type}{enc:TypeId × Value→H}{W:World}{fuel:Nat}{cs:List Value}{x:DataW H × List MemPlace}(h:Tr enc Tryz.prog W fuel 26 cs x):∃ (m:Xg),cs=Xg.cs m∧Xg.ok m:=by
 obtain⟨xs,n,rfl,rfl,hl,hx,hf⟩:=DataW.trod_struct Tryz.underlying26 h
 replace hl:cs.length=9:=hl.trans (by kernel_rfl)
 replace hx:xs.length=7:=hx
 obtain⟨y0,e0⟩:=Yp (i:=0) hx rfl
 have h0:Tr enc Tryz.prog W n 3 ((cs.drop 0).take 1) y0:=Yk hf (i:=0) rfl rfl rfl (by kernel_rfl) e0
 obtain⟨m0,c0,k0⟩:=Dg Tryz.underlying3 h0
 obtain⟨y1,e1⟩:=Yp (i:=1) hx rfl
 have h1:Tr enc Tryz.prog W n 3 ((cs.drop 1).take 1) y1:=Yk hf (i:=1) rfl rfl rfl (by kernel_rfl) e1
 obtain⟨m1,c1,k1⟩:=Dg Tryz.underlying3 h1
 obtain⟨y2,e2⟩:=Yp (i:=2) hx rfl
 have h2:Tr enc Tryz.prog W n 3 ((cs.drop 2).take 1) y2:=Yk hf (i:=2) rfl rfl rfl (by kernel_rfl) e2
 obtain⟨m2,c2,k2⟩:=Dg Tryz.underlying3 h2
 obtain⟨y3,e3⟩:=Yp (i:=3) hx rfl
 have h3:Tr enc Tryz.prog W n 3 ((cs.drop 3).take 1) y3:=Yk hf (i:=3) rfl rfl rfl (by kernel_rfl) e3
 obtain⟨m3,c3,k3⟩:=Dg Tryz.underlying3 h3
 obtain⟨y4,e4⟩:=Yp (i:=4) hx rfl
 have h4:Tr enc Tryz.prog W n 3 ((cs.drop 4).take 1) y4:=Yk hf (i:=4) rfl rfl rfl (by kernel_rfl) e4
 obtain⟨m4,c4,k4⟩:=Dg Tryz.underlying3 h4
 obtain⟨y5,e5⟩:=Yp (i:=5) hx rfl
 have h5:Tr enc Tryz.prog W n 3 ((cs.drop 5).take 1) y5:=Yk hf (i:=5) rfl rfl rfl (by kernel_rfl) e5
 obtain⟨m5,c5,k5⟩:=Dg Tryz.underlying3 h5
 obtain⟨y6,e6⟩:=Yp (i:=6) hx rfl
 have h6:Tr enc Tryz.prog W n 24 ((cs.drop 6).take 3) y6:=Yk hf (i:=6) rfl rfl rfl (by kernel_rfl) e6
 obtain⟨m6,c6⟩:=Qt0 h6
 have q:=Qa6 hl
 replace q:=Yi (o:=6) (k:=3) c6 q
 replace q:=Yi (o:=5) (k:=1) c5 q
 replace q:=Yi (o:=4) (k:=1) c4 q
 replace q:=Yi (o:=3) (k:=1) c3 q
 replace q:=Yi (o:=2) (k:=1) c2 q
 replace q:=Yi (o:=1) (k:=1) c1 q
 replace q:=Yi (o:=0) (k:=1) c0 q
 exact⟨⟨m0,m1,m2,m3,m4,m5,m6⟩,q,⟨k0,k1,k2,k3,k4,k5⟩⟩
def Qq.ok (x:Qq):Prop:=Wu x.Items∧Wu x.Points∧Wu x.Header∧Wu x.Storage∧Wu x.Cost∧((∀ a∈x.Witness,Wu a)∧x.Witness.length*8≤140737488351232)
theorem Qsz {H:Type}{enc:TypeId × Value→H}{W:World}{fuel:Nat}{cs:List Value}{x:DataW H × List MemPlace}(h:Tr enc Tryz.prog W fuel 32 cs x)(hw:Sz Tryz.prog 32 x.1):∃ (m:Qq) (v0:Value) (z0 g0 o0:Nat),cs=Qq.cs m v0∧Rd W z0 g0 o0 1 v0 (m.Witness.map ic)∧Qq.ok m:=by
 obtain⟨xs,n,rfl,rfl,hl,hx,hf⟩:=DataW.trod_struct Tryz.underlying32 h
 replace hl:cs.length=8:=hl.trans (by kernel_rfl)
 replace hx:xs.length=8:=hx
 obtain⟨y0,e0⟩:=Yp (i:=0) hx rfl
 have h0:Tr enc Tryz.prog W n 5 ((cs.drop 0).take 1) y0:=Yk hf (i:=0) rfl rfl rfl (by kernel_rfl) e0
 obtain⟨m0,c0⟩:=Qkj Tryz.underlying5 h0
 obtain⟨y1,e1⟩:=Yp (i:=1) hx rfl
 have h1:Tr enc Tryz.prog W n 4 ((cs.drop 1).take 1) y1:=Yk hf (i:=1) rfl rfl rfl (by kernel_rfl) e1
 obtain⟨m1,c1⟩:=Qt3 Tryz.underlying4 h1
 obtain⟨y2,e2⟩:=Yp (i:=2) hx rfl
 have h2:Tr enc Tryz.prog W n 3 ((cs.drop 2).take 1) y2:=Yk hf (i:=2) rfl rfl rfl (by kernel_rfl) e2
 obtain⟨m2,c2,k2⟩:=Dg Tryz.underlying3 h2
 obtain⟨y3,e3⟩:=Yp (i:=3) hx rfl
 have h3:Tr enc Tryz.prog W n 3 ((cs.drop 3).take 1) y3:=Yk hf (i:=3) rfl rfl rfl (by kernel_rfl) e3
 obtain⟨m3,c3,k3⟩:=Dg Tryz.underlying3 h3
 obtain⟨y4,e4⟩:=Yp (i:=4) hx rfl
 have h4:Tr enc Tryz.prog W n 3 ((cs.drop 4).take 1) y4:=Yk hf (i:=4) rfl rfl rfl (by kernel_rfl) e4
 obtain⟨m4,c4,k4⟩:=Dg Tryz.underlying3 h4
 obtain⟨y5,e5⟩:=Yp (i:=5) hx rfl
 have h5:Tr enc Tryz.prog W n 3 ((cs.drop 5).take 1) y5:=Yk hf (i:=5) rfl rfl rfl (by kernel_rfl) e5
 obtain⟨m5,c5,k5⟩:=Dg Tryz.underlying3 h5
 obtain⟨y6,e6⟩:=Yp (i:=6) hx rfl
 have h6:Tr enc Tryz.prog W n 3 ((cs.drop 6).take 1) y6:=Yk hf (i:=6) rfl rfl rfl (by kernel_rfl) e6
 obtain⟨m6,c6,k6⟩:=Dg Tryz.underlying3 h6
 obtain⟨y7,e7⟩:=Yp (i:=7) hx rfl
 have h7:Tr enc Tryz.prog W n 30 ((cs.drop 7).take 1) y7:=Yk hf (i:=7) rfl rfl rfl (by kernel_rfl) e7
 obtain⟨m7,v0_,z0_,g0_,o0_,c7,R0_,k7,l7⟩:=Qt4 (c:=ic) (ok:=fun a=>Wu a) (sz:=1) (bytes:=8) Tryz.underlying30 (by kernel_rfl) (by kernel_rfl) (by decide) (fun _=>⟨rfl,rfl⟩) (fun _ _ _ h=>Dg Tryz.underlying3 h) h7 (Qma Tryz.underlying32 hw (i:=7) rfl (by rw[List.getElem?_map,e7];rfl))
 have q:=Qa6 hl
 replace q:=Yi (o:=7) (k:=1) c7 q
 replace q:=Yi (o:=6) (k:=1) c6 q
 replace q:=Yi (o:=5) (k:=1) c5 q
 replace q:=Yi (o:=4) (k:=1) c4 q
 replace q:=Yi (o:=3) (k:=1) c3 q
 replace q:=Yi (o:=2) (k:=1) c2 q
 replace q:=Yi (o:=1) (k:=1) c1 q
 replace q:=Yi (o:=0) (k:=1) c0 q
 exact⟨⟨m0,m1,m2,m3,m4,m5,m6,m7⟩,v0_,z0_,g0_,o0_,q,R0_,⟨k2,k3,k4,k5,k6,⟨k7,l7⟩⟩⟩
def Xk.ok (x:Xk):Prop:=((∀ a∈x.Choices,Qq.ok a)∧x.Choices.length*72≤140737488351232)
theorem Qt2 {H:Type}{enc:TypeId × Value→H}{W:World}{fuel:Nat}{cs:List Value}{x:DataW H × List MemPlace}(h:Tr enc Tryz.prog W fuel 29 cs x)(hw:Sz Tryz.prog 29 x.1):∃ (m:Xk) (v0:Value) (z0 g0 o0:Nat),cs=Xk.cs m v0∧Xx (Qd2 8 Qq.cs (fun a=>a.Witness) 1 ic (fun a v h=>⟨rfl,Qq.cs_ones a v h⟩)) W z0 g0 o0 v0 (Eo W) m.Choices∧Xk.ok m:=by
 obtain⟨xs,n,rfl,rfl,hl,hx,hf⟩:=DataW.trod_struct Tryz.underlying29 h
 replace hl:cs.length=2:=hl.trans (by kernel_rfl)
 replace hx:xs.length=2:=hx
 obtain⟨y0,e0⟩:=Yp (i:=0) hx rfl
 have h0:Tr enc Tryz.prog W n 27 ((cs.drop 0).take 1) y0:=Yk hf (i:=0) rfl rfl rfl (by kernel_rfl) e0
 obtain⟨m0,v0_,z0_,g0_,o0_,c0,R0_,k0,l0⟩:=Qt5 (R:=Qd2 8 Qq.cs (fun a=>a.Witness) 1 ic (fun a v h=>⟨rfl,Qq.cs_ones a v h⟩)) (ok:=Qq.ok) (bytes:=72) Tryz.underlying27 (by kernel_rfl) (by kernel_rfl) (by decide) (fun _ _ _ h hs=>(let ⟨m,v0,z0,g0,o0,q,R0,k⟩:=Qsz h hs;⟨m,v0,q,⟨z0,g0,o0,R0,Qra R0.lth⟩,k⟩)) h0 (Qma Tryz.underlying29 hw (i:=0) rfl (by rw[List.getElem?_map,e0];rfl))
 obtain⟨y1,e1⟩:=Yp (i:=1) hx rfl
 have h1:Tr enc Tryz.prog W n 5 ((cs.drop 1).take 1) y1:=Yk hf (i:=1) rfl rfl rfl (by kernel_rfl) e1
 obtain⟨m1,c1⟩:=Qkj Tryz.underlying5 h1
 have q:=Qa6 hl
 replace q:=Yi (o:=1) (k:=1) c1 q
 replace q:=Yi (o:=0) (k:=1) c0 q
 exact⟨⟨m0,m1⟩,v0_,z0_,g0_,o0_,q,R0_,⟨k0,l0⟩⟩
end Go.Sx

end
section
set_option linter.unusedVariables false
set_option linter.unusedSimpArgs false
namespace Go.Sx
open Go Go.RowKit
abbrev Jv (v:Value):List Value:=[v]
structure Km where
 v:Value
 z:Nat
 g:Nat
 q:List (Value × Nat)
def Km.bl (h:Km):List Nat:=zf h.z h.g++h.q.map Prod.snd
structure Ek (e1 e0:TypeId)(w:World)(h:Km)(l:List (List Int)):Prop where
 own:Qk w h.z h.g e1 1 h.v ((h.q.map Prod.fst).map Jv)
 len:h.q.length=l.length
 row:∀ (j:Nat) q r,h.q[j]? = some q→l[j]? = some r→Qk w 1 q.2 e0 1 q.1 (r.map ic)
structure Nv (e2 e1 e0:TypeId)(w:World)(n0 z g:Nat)(v:Value)(L:List (List (List Int)))(H:List Km):Prop where
 own:Qk w z g e2 1 v ((H.map Km.v).map Jv)
 len:H.length=L.length
 sub:∀ (i:Nat) h l,H[i]? = some h→L[i]? = some l→Ek e1 e0 w h l
 nd:∀ (i:Nat) h,H[i]? = some h→h.bl.Nodup
 ap:∀ (i j:Nat) h k,i≠j→H[i]? = some h→H[j]? = some k→∀ x∈h.bl,x∉k.bl
 out:∀ (i:Nat) h,H[i]? = some h→∀ x∈h.bl,x≠g∧n0≤x∧x<w.heap.size
 top:z=1∧n0≤g
def Jr (e2 e1 e0:TypeId)(w:World)(n0 z g:Nat)(v:Value)(L:List (List (List Int))):Prop:=∃ H,Nv e2 e1 e0 w n0 z g v L H
section
variable {e2 e1 e0:TypeId} {w w':World} {n0 z g:Nat} {v:Value} {L:List (List (List Int))} {H:List Km}
theorem Ek.keep {h:Km}{l:List (List Int)}(a:Ek e1 e0 w h l)(hb:∀ x∈h.bl,x<w.heap.size→w'.heap[x]? = w.heap[x]?):Ek e1 e0 w' h l:=by
 refine⟨a.own.keep ?_,a.len,fun j q r hj hr=>(a.row j q r hj hr).keep (.inr ?_)⟩
 · by_cases hz:h.z=0
   · exact .inl hz
   · exact .inr (hb _ (List.mem_append_left _ (Xt.2 ⟨hz,rfl⟩)))
 · exact hb _ (List.mem_append_right _ (List.mem_map.2 ⟨q,List.mem_of_getElem? hj,rfl⟩))
theorem Nv.keep (a:Nv e2 e1 e0 w n0 z g v L H)(hs:w.heap.size≤w'.heap.size)(hb:∀ x,n0≤x→x<w.heap.size→w'.heap[x]? = w.heap[x]?):Nv e2 e1 e0 w' n0 z g v L H:=
 ⟨a.own.keep (.inr fun hl=>hb g a.top.2 hl),a.len,fun i h l hi hl=>(a.sub i h l hi hl).keep fun x hx hl2=>hb x (a.out i h hi x hx).2.1 hl2,a.nd,a.ap,fun i h hi x hx=>by
  obtain⟨b1,b2,b3⟩:=a.out i h hi x hx
  exact⟨b1,b2,Nat.lt_of_lt_of_le b3 hs⟩,a.top⟩
theorem Jr.gr (a:Jr e2 e1 e0 w n0 z g v L)(k:Gr w w'):Jr e2 e1 e0 w' n0 z g v L:=by
 obtain⟨H,a⟩:=a;exact⟨H,a.keep k.size fun x _ hl=>k.block x hl⟩
theorem Jr.kz (a:Jr e2 e1 e0 w n0 z g v L)(k:Kz [] w w'):Jr e2 e1 e0 w' n0 z g v L:=by
 obtain⟨H,a⟩:=a;exact⟨H,a.keep k.size fun x _ hl=>k.block x hl trivial⟩
theorem Jr.lth (a:Jr e2 e1 e0 w n0 z g v L):Xb (z=0∨(z=1∧g<w.heap.size)):=by obtain⟨H,a⟩:=a;exact a.own.lth
theorem Jr.oneB (a:Jr e2 e1 e0 w n0 z g v L):Sx.oneB v=true:=by obtain⟨H,a⟩:=a;exact a.own.oneB
def Ee (H:List Km):List Nat:=H.flatMap Km.bl
theorem Qvc {h:Km}{l:List (List Int)}{F:List Nat}(a:Ek e1 e0 w h l)(hF:∀ x∈h.bl,x∈F)(Xy:∀ b∈F,b<w.heap.size):Xx (Pb 1 ic) w h.z h.g 0 h.v F l:=by
 obtain⟨zq,hzq⟩:∃ zq:List Value,zq=h.q.map Prod.fst:=⟨_,rfl⟩
 have hlen:zq.length=l.length:=by rw[hzq,List.length_map,a.len]
 have h2:(l.zip zq).map Prod.snd=zq:=List.map_snd_zip (by omega)
 have h3:(l.zip zq).map (fun p=>[p.2])=zq.map Jv:=by
  calc (l.zip zq).map (fun p=>[p.2])=((l.zip zq).map Prod.snd).map Jv:=by rw[List.map_map];rfl
   _=_:=by rw[h2]
 have key:∀ p:List Int × Value,p∈l.zip zq→(Pb 1 ic).S w F p:=by
  intro p hp
  obtain⟨j,hj⟩:=List.getElem?_of_mem hp
  rw[List.getElem?_zip_eq_some] at hj
  obtain⟨j1,j2⟩:=hj
  rw[hzq,List.getElem?_map] at j2
  cases hq:h.q[j]? with
  | none=>rw[hq] at j2;cases j2
  | some q=>
   rw[hq] at j2
   have e:q.1=p.2:=Option.some.inj j2
   have o:=a.row j q p.1 hq j1
   refine⟨1,q.2,0,?_,.inr (hF _ (List.mem_append_right _ (List.mem_map.2 ⟨q,List.mem_of_getElem? hq,rfl⟩)))⟩
   rw[←e];exact o.rd
 refine⟨(l.zip zq:List (List Int × Value)),List.map_fst_zip (Nat.le_of_eq hlen.symm),?_,key,Xy⟩
 show Rd w h.z h.g 0 1 h.v ((l.zip zq).map (fun p=>[p.2]))
 rw[h3,hzq];exact a.own.rd
theorem Qmc (a:Nv e2 e1 e0 w n0 z g v L H):(L.zip (H.map Km.v)).map (fun p=>[p.2])=(H.map Km.v).map Jv∧(L.zip (H.map Km.v)).map Prod.fst=L:=by
 have h2:(L.zip (H.map Km.v)).map Prod.snd=H.map Km.v:=List.map_snd_zip (by rw[List.length_map,a.len];exact Nat.le_refl _)
 refine⟨?_,List.map_fst_zip (by rw[List.length_map,a.len];exact Nat.le_refl _)⟩
 calc (L.zip (H.map Km.v)).map (fun p=>[p.2])=((L.zip (H.map Km.v)).map Prod.snd).map Jv:=by rw[List.map_map];rfl
  _=_:=by rw[h2]
theorem Bm (a:Nv e2 e1 e0 w n0 z g v L H):∀ b∈Ee H,n0≤b∧b<w.heap.size∧b≠g:=fun b hb=>by
 obtain⟨h,hh,hx⟩:=List.mem_flatMap.1 hb
 obtain⟨i,hi⟩:=List.getElem?_of_mem hh
 obtain⟨b1,b2,b3⟩:=a.out i h hi b hx
 exact⟨b2,b3,b1⟩
theorem Qmb (a:Nv e2 e1 e0 w n0 z g v L H):∀ p∈L.zip (H.map Km.v),(Hn (Pb 1 ic)).S w (Ee H) p:=fun p hp=>by
 obtain⟨i,hi⟩:=List.getElem?_of_mem hp
 rw[List.getElem?_zip_eq_some] at hi
 obtain⟨j1,j2⟩:=hi
 rw[List.getElem?_map] at j2
 cases hh:H[i]? with
 | none=>rw[hh] at j2;cases j2
 | some h=>
  rw[hh] at j2
  have e:h.v=p.2:=Option.some.inj j2
  have hbF:∀ x∈h.bl,x∈Ee H:=fun x hx=>List.mem_flatMap.2 ⟨h,List.mem_of_getElem? hh,hx⟩
  have o:=Qvc (a.sub i h p.1 hh j1) hbF (fun b hb=>(Bm a b hb).2.1)
  have hz:h.z=0∨h.g∈Ee H:=by
   by_cases hz:h.z=0
   · exact .inl hz
   · exact .inr (hbF _ (List.mem_append_left _ (Xt.2 ⟨hz,rfl⟩)))
  have:=Qvd o hz fun b hb=>hb
  rw[e] at this;exact this
theorem Jr.rdD (a:Jr e2 e1 e0 w n0 z g v L):∃ F,Xx (Hn (Pb 1 ic)) w z g 0 v F L∧(∀ x∈F,Pv [] [] n0 x)∧∀ x∈F,x<w.heap.size:=by
 obtain⟨H,a⟩:=a
 obtain⟨z1,z2⟩:=Qmc a
 refine⟨Ee H,⟨L.zip (H.map Km.v),z2,?_,Qmb a,fun b hb=>(Bm a b hb).2.1⟩,fun x hx=>.inr (.inr (Bm a x hx).1),fun b hb=>(Bm a b hb).2.1⟩
 show Rd w z g 0 1 v ((L.zip (H.map Km.v)).map (fun p=>[p.2]))
 rw[z1];exact a.own.rd
theorem Jr.ownD (a:Jr e2 e1 e0 w n0 z g v L):∃ F,Xw (Hn (Pb 1 ic)) w z g e2 v F L∧∀ x∈F,Pv [] [] n0 x:=by
 obtain⟨H,a⟩:=a
 obtain⟨z1,z2⟩:=Qmc a
 refine⟨Ee H,⟨L.zip (H.map Km.v),z2,?_,Qmb a,fun b hb=>(Bm a b hb).2.1,.inr fun b hb=>(Bm a b hb).2.2⟩,fun x hx=>.inr (.inr (Bm a x hx).1)⟩
 show Qk w z g e2 1 v ((L.zip (H.map Km.v)).map (fun p=>[p.2]))
 rw[z1];exact a.own
theorem Qji {i:Int}{l:List (List Int)}(a:Nv e2 e1 e0 w n0 z g v L H)(hi:Xd L i=some l):∃ h,H[i.toNat]? = some h∧L[i.toNat]? = some l∧Xd (H.map Km.v) i=some h.v:=by
 have h1:=Tn hi
 have h0:=Lv hi
 have Xy:=(List.getElem?_eq_some_iff.1 h1).1
 have hlt2:i.toNat<H.length:=by rw[a.len];exact Xy
 exact⟨H[i.toNat],List.getElem?_eq_getElem hlt2,h1,by unfold Xd;rw[if_pos h0,List.getElem?_map,List.getElem?_eq_getElem hlt2];rfl⟩
theorem Qs8 {l:List Nat}(h:l.Nodup){i j:Nat}{x:Nat}(hi:l[i]? = some x)(hj:l[j]? = some x):i=j:=by
 obtain⟨a1,a2⟩:=List.getElem?_eq_some_iff.1 hi
 obtain⟨b1,b2⟩:=List.getElem?_eq_some_iff.1 hj
 exact(List.getElem_inj (h₀:=a1) (h₁:=b1) h).1 (a2.trans b2.symm)
theorem Jr.row {i j:Int}{l:List (List Int)}{r:List Int}(a:Jr e2 e1 e0 w n0 z g v L)(hi:Xd L i=some l)(hj:Xd l j=some r):
 ∃ (hs qs:List Value) (vi:Value) (gi:Nat) (u:Value) (b:Nat),Rd w z g 0 1 v (hs.map Jv)∧Xd hs i=some vi∧Rd w 1 gi 0 1 vi (qs.map Jv)∧Xd qs j=some u∧Qk w 1 b e0 1 u (r.map ic)∧
  Xb (1=0∨n0≤b)∧Xb (z=0∨1=0∨g≠b)∧Xb (1=0∨1=0∨gi≠b)∧Xb (1=0∨(1=1∧gi<w.heap.size))∧
  ∀ w' r',w.heap.size≤w'.heap.size→(∀ x,x<w.heap.size→x≠b→w'.heap[x]? = w.heap[x]?)→Qk w' 1 b e0 1 u (r'.map ic)→Jr e2 e1 e0 w' n0 z g v (L.set i.toNat (l.set j.toNat r')):=by
 obtain⟨H,a⟩:=a
 obtain⟨h,hh,hl,hv⟩:=Qji a hi
 have s:=a.sub _ h l hh hl
 have k1:=Tn hj
 have k0:=Lv hj
 have Xy:=(List.getElem?_eq_some_iff.1 k1).1
 have hlt2:j.toNat<h.q.length:=by rw[s.len];exact Xy
 obtain⟨q,hq⟩:∃ q,h.q[j.toNat]? = some q:=⟨_,List.getElem?_eq_getElem hlt2⟩
 have o:=s.row _ q r hq k1
 have hz:h.z=1:=by
  rcases s.own.2 with⟨_,_,h0⟩|⟨h0,_⟩
  · have:(h.q.map Prod.fst).length=0:=by rw[←List.length_map (f:=Jv),h0];rfl
    rw[List.length_map] at this;omega
  · exact h0
 have hqb:q.2∈h.bl:=List.mem_append_right _ (List.mem_map.2 ⟨q,List.mem_of_getElem? hq,rfl⟩)
 have hgb:h.g∈h.bl:=List.mem_append_left _ (Xt.2 ⟨by omega,rfl⟩)
 obtain⟨n1,n2,n3⟩:=List.nodup_append.1 (a.nd _ h hh)
 have hne:h.g≠q.2:=n3 _ (Xt.2 ⟨by omega,rfl⟩) _ (List.mem_map.2 ⟨q,List.mem_of_getElem? hq,rfl⟩)
 obtain⟨b1,b2,b3⟩:=a.out _ h hh _ hqb
 have hrd:=s.own.rd
 rw[hz] at hrd
 refine⟨H.map Km.v,h.q.map Prod.fst,h.v,h.g,q.1,q.2,a.own.rd,hv,hrd,?_,o,⟨.inr b2⟩,⟨.inr (.inr (Ne.symm b1))⟩,⟨.inr (.inr hne)⟩,⟨.inr ⟨rfl,(a.out _ h hh _ hgb).2.2⟩⟩,?_⟩
 · unfold Xd;rw[if_pos k0,List.getElem?_map,hq];rfl
 · intro w' r' hs hk ho
   have hgl:g<w.heap.size:=by have:=a.own.lt;have:=a.top;omega
   refine⟨H,a.own.keep (.inr fun hl=>hk g hl (Ne.symm b1)),by rw[List.length_set];exact a.len,fun i' h' l' hi' hl'=>?_,a.nd,a.ap,fun i' h' hi' x hx=>by
    obtain⟨c1,c2,c3⟩:=a.out i' h' hi' x hx
    exact⟨c1,c2,Nat.lt_of_lt_of_le c3 hs⟩,a.top⟩
   by_cases he:i'=i.toNat
   · subst he
     rw[hh] at hi';obtain rfl:=Option.some.inj hi'
     rw[List.getElem?_set_self (List.getElem?_eq_some_iff.1 hl).1] at hl';obtain rfl:=Option.some.inj hl'
     refine⟨s.own.keep (.inr fun hx=>hk _ hx hne),by rw[List.length_set];exact s.len,fun j' q' r'' hj' hr'=>?_⟩
     by_cases hje:j'=j.toNat
     · subst hje
       rw[hq] at hj';obtain rfl:=Option.some.inj hj'
       rw[List.getElem?_set_self Xy] at hr';obtain rfl:=Option.some.inj hr'
       exact ho
     · rw[List.getElem?_set_ne (Ne.symm hje)] at hr'
       refine(s.row j' q' r'' hj' hr').keep (.inr fun hx=>hk _ hx fun hc=>?_)
       have x1:(h.q.map Prod.snd)[j']? = some q.2:=by rw[List.getElem?_map,hj'];simp[hc]
       have x2:(h.q.map Prod.snd)[j.toNat]? = some q.2:=by rw[List.getElem?_map,hq];rfl
       exact hje (Qs8 n2 x1 x2)
   · rw[List.getElem?_set_ne (Ne.symm he)] at hl'
     exact(a.sub i' h' l' hi' hl').keep fun x hx hxl=>hk x hxl fun hc=>a.ap i' i.toNat h' h he hi' hh x hx (hc ▸ hqb)
theorem Jr.app {i:Int}{l:List (List Int)}(a:Jr e2 e1 e0 w n0 z g v L)(hi:Xd L i=some l):
 ∃ (hs qs:List Value) (vi:Value) (zi gi:Nat),Qk w z g e2 1 v (hs.map Jv)∧Xd hs i=some vi∧Qk w zi gi e1 1 vi (qs.map Jv)∧qs.length=l.length∧
  Xb (zi=0∨n0≤gi)∧Xb (z=0∨n0≤g)∧Xb (z=0∨zi=0∨g≠gi)∧
  ∀ w' v' z' g' u b r,w.heap.size≤w'.heap.size→(∀ x,x<w.heap.size→x≠g→(zi=0∨x≠gi)→w'.heap[x]? = w.heap[x]?)→w.heap.size≤b→b<w'.heap.size→Qk w' 1 b e0 1 u (r.map ic)→
   Qk w' z' g' e1 1 v' ((qs++[u]).map Jv)→Xb ((g'=gi∧zi=1)∨w.heap.size≤g'∨z'=0)→Xb (z'=0∨1=0∨g'≠b)→Xb (z'=0∨z=0∨g'≠g)→Qk w' z g e2 1 v ((hs.set i.toNat v').map Jv)→n0≤w.heap.size→
   Jr e2 e1 e0 w' n0 z g v (L.set i.toNat (l++[r])):=by
 obtain⟨H,a⟩:=a
 obtain⟨h,hh,hl,hv⟩:=Qji a hi
 have s:=a.sub _ h l hh hl
 have hhl:=(List.getElem?_eq_some_iff.1 hh).1
 have hll:=(List.getElem?_eq_some_iff.1 hl).1
 have hgb:h.z=0∨h.g∈h.bl:=by
  by_cases hz:h.z=0
  · exact .inl hz
  · exact .inr (List.mem_append_left _ (Xt.2 ⟨hz,rfl⟩))
 refine⟨H.map Km.v,h.q.map Prod.fst,h.v,h.z,h.g,a.own,hv,s.own,by rw[List.length_map];exact s.len,⟨hgb.imp id fun x=>(a.out _ h hh _ x).2.1⟩,⟨.inr a.top.2⟩,⟨.inr (hgb.imp id fun x=>Ne.symm (a.out _ h hh _ x).1)⟩,?_⟩
 intro w' v' z' g' u b r hsz hk hb0 hb1 hor hoa hgg hgb' hgt hot hn0
 obtain⟨n1,n2,n3⟩:=List.nodup_append.1 (a.nd _ h hh)
 have hz':z'=1:=by
  rcases hoa.2 with⟨_,_,h0⟩|⟨h0,_⟩
  · have:((h.q.map Prod.fst++[u]).map Jv).length=0:=by rw[h0];rfl
    simp at this
  · exact h0
 have hg':(g'=h.g∧h.z=1)∨w.heap.size≤g':=by rcases hgg.o with x|x|x;exact .inl x;exact .inr x;omega
 have hgb2:g'≠b:=by have:=hgb'.o;omega
 have hgt2:g'≠g:=by have:=hgt.o;have:=a.top;omega
 have hg'lt:g'<w'.heap.size:=by have:=hoa.lt;omega
 obtain⟨k,hk'⟩:∃ k:Km,k=⟨v',z',g',h.q++[(u,b)]⟩:=⟨_,rfl⟩
 have hin:∀ x∈k.bl,x∈h.bl∨w.heap.size≤x:=fun x hx=>by
  rw[hk'] at hx
  rcases List.mem_append.1 hx with hx|hx
  · obtain⟨_,rfl⟩:=Xt.1 hx
    rcases hg' with⟨rfl,hz⟩|hg'
    · exact .inl (List.mem_append_left _ (Xt.2 ⟨by omega,rfl⟩))
    · exact .inr hg'
  · rw[List.map_append,List.mem_append] at hx
    rcases hx with hx|hx
    · exact .inl (List.mem_append_right _ hx)
    · simp at hx;subst hx;exact .inr hb0
 have hgl:g<w.heap.size:=by have:=a.own.lt;have:=a.top;omega
 refine⟨H.set i.toNat k,?_,by rw[List.length_set,List.length_set];exact a.len,?_,?_,?_,?_,a.top⟩
 · rw[List.map_set,hk'];exact hot
 · intro i' h' l' hi' hl'
   by_cases he:i'=i.toNat
   · subst he
     rw[List.getElem?_set_self hhl] at hi';obtain rfl:=Option.some.inj hi'
     rw[List.getElem?_set_self hll] at hl';obtain rfl:=Option.some.inj hl'
     rw[hk']
     refine⟨?_,by simp[s.len],fun j' q' r' hj' hr'=>?_⟩
     · show Qk w' z' g' e1 1 v' (((h.q++[(u,b)]).map Prod.fst).map Jv)
       rw[List.map_append];exact hoa
     · by_cases hjl:j'<h.q.length
       · rw[List.getElem?_append_left hjl] at hj'
         rw[List.getElem?_append_left (by rw[←s.len];exact hjl)] at hr'
         have hqm:q'.2∈h.bl:=List.mem_append_right _ (List.mem_map.2 ⟨q',List.mem_of_getElem? hj',rfl⟩)
         refine(s.row j' q' r' hj' hr').keep (.inr fun hx=>hk _ hx (a.out _ h hh _ hqm).1 ?_)
         by_cases hz:h.z=0
         · exact .inl hz
         · exact .inr (Ne.symm (n3 _ (Xt.2 ⟨hz,rfl⟩) _ (List.mem_map.2 ⟨q',List.mem_of_getElem? hj',rfl⟩)))
       · have hj2:j'<(h.q++[(u,b)]).length:=(List.getElem?_eq_some_iff.1 hj').1
         rw[List.length_append,List.length_singleton] at hj2
         obtain rfl:j'=h.q.length:=by omega
         rw[List.getElem?_append_right (Nat.le_refl _),Nat.sub_self] at hj'
         rw[List.getElem?_append_right (by rw[s.len];exact Nat.le_refl _),s.len,Nat.sub_self] at hr'
         obtain rfl:=Option.some.inj hj'
         obtain rfl:=Option.some.inj hr'
         exact hor
   · rw[List.getElem?_set_ne (Ne.symm he)] at hi' hl'
     refine(a.sub i' h' l' hi' hl').keep fun x hx hxl=>hk x hxl (a.out i' h' hi' x hx).1 ?_
     exact hgb.imp id fun y hc=>a.ap i' i.toNat h' h he hi' hh x hx (hc ▸ y)
 · intro i' h' hi'
   by_cases he:i'=i.toNat
   · subst he
     rw[List.getElem?_set_self hhl] at hi';obtain rfl:=Option.some.inj hi'
     rw[hk']
     refine List.nodup_append.2 ⟨?_,?_,?_⟩
     · show(zf z' g').Nodup
       unfold zf;split<;>simp
     · show((h.q++[(u,b)]).map Prod.snd).Nodup
       rw[List.map_append]
       refine List.nodup_append.2 ⟨n2,by simp,fun x hx y hy=>?_⟩
       simp at hy;subst hy
       have:=(a.out _ h hh x (List.mem_append_right _ hx)).2.2
       omega
     · intro x hx y hy
       obtain⟨_,rfl⟩:=Xt.1 hx
       rw[List.map_append,List.mem_append] at hy
       rcases hy with hy|hy
       · rcases hg' with⟨rfl,hz⟩|hg'
         · exact n3 _ (Xt.2 ⟨by omega,rfl⟩) y hy
         · have h9:=(a.out _ h hh y (List.mem_append_right _ hy)).2.2
           exact fun hc=>by omega
       · simp at hy;subst hy;exact hgb2
   · rw[List.getElem?_set_ne (Ne.symm he)] at hi';exact a.nd i' h' hi'
 · intro i' j' h' k' hij hi' hj' x hx
   by_cases he:i'=i.toNat
   · subst he
     rw[List.getElem?_set_self hhl] at hi';obtain rfl:=Option.some.inj hi'
     rw[List.getElem?_set_ne hij] at hj'
     rcases hin x hx with y|y
     · exact a.ap _ j' h k' hij hh hj' x y
     · intro hc;have:=(a.out j' k' hj' x hc).2.2;omega
   · rw[List.getElem?_set_ne (Ne.symm he)] at hi'
     by_cases hje:j'=i.toNat
     · subst hje
       rw[List.getElem?_set_self hhl] at hj';obtain rfl:=Option.some.inj hj'
       intro hc
       rcases hin x hc with y|y
       · exact a.ap i' _ h' h hij hi' hh x hx y
       · have:=(a.out i' h' hi' x hx).2.2;omega
     · rw[List.getElem?_set_ne (Ne.symm hje)] at hj';exact a.ap i' j' h' k' hij hi' hj' x hx
 · intro i' h' hi' x hx
   by_cases he:i'=i.toNat
   · subst he
     rw[List.getElem?_set_self hhl] at hi';obtain rfl:=Option.some.inj hi'
     have hxl:x≠g∧x<w'.heap.size:=by
      rw[hk'] at hx
      rcases List.mem_append.1 hx with hx|hx
      · obtain⟨_,rfl⟩:=Xt.1 hx;exact⟨hgt2,hg'lt⟩
      · rw[List.map_append,List.mem_append] at hx
        rcases hx with hx|hx
        · obtain⟨c1,c2,c3⟩:=a.out _ h hh x (List.mem_append_right _ hx);exact⟨c1,by omega⟩
        · simp at hx;subst hx;exact⟨by omega,hb1⟩
     rcases hin x hx with y|y
     · exact⟨hxl.1,(a.out _ h hh x y).2.1,hxl.2⟩
     · exact⟨hxl.1,by omega,hxl.2⟩
   · rw[List.getElem?_set_ne (Ne.symm he)] at hi'
     obtain⟨c1,c2,c3⟩:=a.out i' h' hi' x hx
     exact⟨c1,c2,by omega⟩
theorem Jr.mk {n:Nat}(o:Qk w 1 g e2 1 v ((List.replicate n (.slice none 0 0:Value)).map Jv))(hg:n0≤g):Jr e2 e1 e0 w n0 1 g v (List.replicate n []):=by
 refine⟨List.replicate n ⟨.slice none 0 0,0,0,[]⟩,?_,by simp,fun i h l hi hl=>?_,fun i h hi=>?_,fun i j h k _ hi _ x hx=>?_,fun i h hi x hx=>?_,rfl,hg⟩
 · rw[List.map_replicate];exact o
 all_goals
  have:=List.eq_of_mem_replicate (List.mem_of_getElem? hi)
  subst this
 · have:=List.eq_of_mem_replicate (List.mem_of_getElem? hl)
   subst this
   exact⟨Kx w 0 e1 1,rfl,fun j q r hj _=>by simp at hj⟩
 · simp[Km.bl,zf]
 · simp[Km.bl,zf] at hx
 · simp[Km.bl,zf] at hx
end
section
variable {P:Program} {Ls:Qv} {w:World} {dst:Option Nat} {ty:TypeId} {pos:String} {af:Array Edge} {gu:Option (Nat × Bool)} {x y:Operand} {t:TypeId} {e2 e1 e0:TypeId}
theorem Qr0 {bytes:Nat}{n:Int}{l:List (List (List Int))}(ha:Ph P t e2 1 bytes)(hz:ZV P e2 (.slice none 0 0))(hx:ev Ls x=some (.int .i64 n))(hl:Nb bytes n ([]:List (List Int))=some l)(hpos:1≤bytes):
 EV P Ls ⟨dst,.makeSlice t x x,ty,pos,af,gu⟩ w fun v' w'=>∃ g',w.heap.size≤g'∧Jr e2 e1 e0 w' w.heap.size 1 g' v' l∧Gr w w':=by
 obtain⟨rfl,h0,hb⟩:=Qk6 hl
 have hl':Nb bytes n (.slice none 0 0:Value)=some (List.replicate n.toNat (.slice none 0 0)):=by unfold Nb;rw[if_pos ⟨h0,hb⟩]
 refine(Qeh (c:=Jv) ha hz rfl ⟨rfl,rfl⟩ hx hl' hpos).mono ?_
 rintro v' w' ⟨g',h1,h2,h3⟩
 exact⟨g',h1,Jr.mk h2 h1,h3⟩
theorem Qny {b:Nat}{α:Type}{l:List α}{r:α}{k:List α}{qs:List Value}{u:Value}(h:Vb b l [r]=some k)(hq:qs.length=l.length):Vb b qs [u]=some (qs++[u])∧k=l++[r]:=by
 obtain⟨h1,h2⟩:=Qdl h
 exact⟨by unfold Vb;rw[if_pos (by rw[hq];exact h2)],h1⟩
theorem Qjv {w w':World}{b:Nat}(k:Kz [(1,b)] w w'):∀ x,x<w.heap.size→x≠b→w'.heap[x]? = w.heap[x]? := fun x hx hn=>k.block x hx (by simp[Ze,hn])
theorem Qrj {w w':World}{z g zi gi:Nat}(k:Kz [(z,g),(zi,gi)] w w'):∀ x,x<w.heap.size→x≠g→(zi=0∨x≠gi)→w'.heap[x]? = w.heap[x]? := fun x hx h1 h2=>k.block x hx (by
 rcases h2 with h2|h2<;>simp[Ze,h1,h2])
theorem Qs0 (u:Value)(h:oneB u=true):Ws 1 ([u].map Jv):=by
 intro y hy
 obtain rfl:y=Jv u:=by simpa using hy
 exact⟨rfl,by simp[Jv,Zx,h]⟩
end
end Go.Sx

end
section
set_option linter.unusedVariables false
set_option linter.unusedSimpArgs false
namespace Go.Sx
open Go Go.RowKit
section
variable {P:Program} {L:Qv} {w:World} {dst:Option Nat} {ty:TypeId} {pos:String} {af:Array Edge} {gu:Option (Nat × Bool)} {x y p q r:Operand} {t e:TypeId} {v:Value} {z g o sz:Nat} {α:Type} {l m:List α} {c:α→List Value} {lo hi:Int} {kl kh km:IntKind}
theorem Qg6 {ρ:Operand→Value}{a:Option Addr}{len cap:Nat}(hρ:Pk L ρ)(hu:P.underlying t=some (.slice e))(hs:Vn P e sz)(hp:ev L p=some (.int kl lo))(hq:ev L q=some (.int kh hi))(hm:ev L r=some (.int km hi))(h0:0≤lo)(h1:lo≤hi)(h2:hi≤(cap:Int)):
 (Instr.sliceAt t (.slice a len cap) (some (ρ p)) (some (ρ q)) (some (ρ r))).run P w=.ok (sliced a lo.toNat hi.toNat hi.toNat sz) w:=by
 have he:P.elem t=e:=by simp[Program.elem,hu]
 have hu':P.underlying t=some (.slice (P.elem t)):=by rw[he];exact hu
 rw[run_sliceAt_slice _ _ _ _ _ _ hu',hρ _ _ hp,hρ _ _ hq,hρ _ _ hm,run_slice_lhm _ _ _ _ _ hu' _ _ _ _ _ _ h0 h1 (by omega) h2,he,hs w];simp[Result.andThen]
theorem Qdc (hu:P.underlying t=some (.slice e))(hs:Vn P e sz)(hx:ev L x=some v)(hr:Rd w z g o sz v (l.map c))(hp:ev L p=some (.int kl lo))(hq:ev L q=some (.int kh hi))(hmx:ev L r=some (.int km hi))(hl:Wg l lo hi=some m):
 ∃ v' o',(∀ w1,VV P L ⟨dst,.slice t x (some p) (some q) (some r),ty,pos,af,gu⟩ w1 v')∧Rd w z g o' sz v' (m.map c):=by
 obtain⟨rfl,h3,h4,h5⟩:=Qm3 hl
 rcases hr.2 with⟨hz,hnil,a,cap,rfl⟩|⟨hz,cap,rfl,⟨hg,hcap⟩,hcell⟩
 · have hl0:l=[]:=by simpa using hnil
   subst hl0
   simp only[List.length_nil] at h5
   have e1:lo=0:=by omega
   have e2:hi=0:=by omega
   subst e1 e2
   refine⟨_,0,fun w1 ρ hρ=>Wp (by rw[hρ _ _ hx];exact Qg6 hρ hu hs hp hq hmx (by omega) (by omega) (by omega)),by simpa using hr.1,.inl ⟨hz,by simp,?_⟩⟩
   exact⟨_,_,rfl⟩
 · rw[List.length_map] at hcap hx
   have hlen:((l.map c).take hi.toNat).length=hi.toNat:=by rw[List.length_take,List.length_map];omega
   have hm:(((l.take hi.toNat).drop lo.toNat).map c)=((l.map c).take hi.toNat).drop lo.toNat:=by rw[List.map_drop,List.map_take]
   have hml:(((l.take hi.toNat).drop lo.toNat).map c).length=hi.toNat-lo.toNat:=by rw[hm,List.length_drop,hlen]
   refine⟨_,if hi.toNat=lo.toNat then o else o+lo.toNat*sz,fun w1 ρ hρ=>Wp (by rw[hρ _ _ hx];exact Qg6 hρ hu hs hp hq hmx h3 h4 (by omega)),by rw[hm];exact hr.1.take.drop,.inr ⟨hz,hi.toNat-lo.toNat,?_,⟨hg,by rw[hml];omega⟩,fun j u hj=>?_⟩⟩
   · simp only[sliced,hml]
     by_cases e:hi.toNat=lo.toNat
     · rw[if_pos e,if_pos e]
     · rw[if_neg e,if_neg e];simp[Addr.add_lit]
   · rw[hm,Qen _ _ hr.1.take,Qeo _ _ hr.1,List.getElem?_drop] at hj
     have hj2:(l.map c).flatten[lo.toNat*sz+j]? = some u:=by
      rw[List.getElem?_take] at hj
      split at hj
      · exact hj
      · cases hj
     by_cases e:hi.toNat=lo.toNat
     · exfalso
       rw[List.getElem?_take,e] at hj
       split at hj
       · omega
       · cases hj
     · rw[if_neg e,Nat.add_assoc];exact hcell _ _ hj2
theorem Qdd {n:Nat}(hu:P.underlying t=some (.slice e))(hs:Vn P e sz)(hx:ev L x=some v)(h:Qk w z g e sz v (l.map c))(hp:ev L p=some (.int kl lo))(hq:ev L q=some (.int kh hi))(hm:ev L r=some (.int km hi))(hl:Sw l lo hi=some n):
 VV P L ⟨dst,.slice t x (some p) (some q) (some r),ty,pos,af,gu⟩ w (.slice (some ⟨g,lo.toNat*sz,none⟩) n n):=fun ρ hρ=>by
 unfold Sw at hl
 split at hl
 · rename_i hh
   obtain⟨h0,h1,h2⟩:=hh
   cases hl
   rcases h.2 with⟨_,_,h0'⟩|⟨hz,cap,cur,rfl,h1',h2',h3⟩
   · have:l=[]:=by simpa using h0'
     subst this;simp at h2;omega
   · rw[List.length_map] at h2'
     refine Wp ?_
     rw[hρ _ _ hx]
     show(Instr.sliceAt t (.slice (some ⟨g,0,none⟩) _ cap) (some (ρ p)) (some (ρ q)) (some (ρ r))).run P w=_
     rw[Qg6 hρ hu hs hp hq hm h0 (by omega) (by omega)]
     simp only[sliced]
     rw[if_neg (by omega)]
     simp[Addr.add_lit]
     omega
 · cases hl
theorem Wr {n:Nat}{i j:Int}{k:IntKind}{v:Value}(hv:v=.slice (some ⟨g,lo.toNat*sz,none⟩) n n)(h0:0≤lo)(hu:P.underlying t=some (.slice e))(hs:Vn P e sz)(hx:ev L x=some v)(hy:ev L y=some (.int k i))(hj:Wa lo n i=some j):
 VV P L ⟨dst,.indexAddr t x y,ty,pos,af,gu⟩ w (.pointer (some ⟨g,0+j.toNat*sz,none⟩)):=by
 unfold Wa at hj
 split at hj
 · rename_i hh
   cases hj
   subst hv
   have:=Qnc (dst:=dst) (ty:=ty) (pos:=pos) (af:=af) (gu:=gu) (w:=w) hu hs hx hy hh.1 hh.2
   have e:lo.toNat*sz+i.toNat*sz=0+(lo+i).toNat*sz:=by rw[←Nat.add_mul,Int.toNat_add h0 hh.1];omega
   rwa[e] at this
 · cases hj
theorem Wq {n:Nat}(hl:Sw l lo hi=some n):0≤lo:=by
 unfold Sw at hl;split at hl
 · rename_i hh;exact hh.1
 · cases hl
theorem Dk {len b' off:Nat}{i:Int}{k:IntKind}(j:Nat)(hu:P.underlying t=some (.array len e))(hs:Vn P e sz)(hx:ev L x=some (.pointer (some ⟨b',off,none⟩)))(hy:ev L y=some (.int k i))(h:i=(j:Int))(hj:j<len):
 VV P L ⟨dst,.indexAddr t x y,ty,pos,af,gu⟩ w (.pointer (some ⟨b',off+j*sz,none⟩)):=by
 have:=Qx3 (dst:=dst) (ty:=ty) (pos:=pos) (af:=af) (gu:=gu) (w:=w) hu hs hx hy (by omega) (by omega)
 rwa[show i.toNat=j from by omega] at this
theorem Qx4 {len:Nat}{i:Int}{k:IntKind}{a:α}{u:Value}{cs:List Value}(hu:P.underlying t=some (.array len e))(hs:Vn P e 1)(h1:Ya P e)(hx:ev L x=some (.agg cs.toArray))(hcs:cs=(l.map c).flatten)(hl:l.length=len)(hw:Ws 1 (l.map c))(hy:ev L y=some (.int k i))(hg:Xd l i=some a)(hc:c a=[u]):
 VV P L ⟨dst,.index t x y,ty,pos,af,gu⟩ w u:=fun ρ hρ=>by
 have h0:=Lv hg
 have h2:=Qav hg
 have h2':i<(len:Int):=by omega
 have hp:(part e cs.toArray (i.toNat*1)).run P w=.ok u w:=by
  have hq:cs[i.toNat]? = some u:=by
   have:=Ws.at (sz:=1) i.toNat 0 (c a) hw (Tp (Tn hg)) (by omega)
   rw[hcs];rw[hc] at this;simpa using this
  have hq2:cs.toArray[i.toNat]? = some u:=by simpa using hq
  simp[part,(h1 w).1,hq2]
 rw[Nat.mul_one] at hp
 refine Wp ?_
 rw[hρ _ _ hx,hρ _ _ hy]
 simp[Instr.index,run_underlying hu,asIntOf,h0,h2',hs w,hp]
end
end Go.Sx

end
section
set_option linter.unusedVariables false
set_option linter.unusedSimpArgs false
namespace Go.Proofs.YtopkalcefepilaaGreat
open Go Go.RowKit Go.Sx
theorem Ll:CV Tryz.prog 22 5 .u8:=fun _ _ _=>by kernel_rfl
theorem Lm:CV Tryz.prog 5 3 .i64:=fun _ _ _=>by kernel_rfl
theorem Qph:En Tryz.prog 172:=fun _ _=>by kernel_rfl
theorem Qs1 (n k:Nat)(h:2^k≤n):Nat.log2 n=Nat.log2 (n / 2^k)+k:=by
 induction k generalizing n with
 | zero=>simp
 | succ k ih=>
  have h2:2^k≤n / 2:=by rw[Nat.le_div_iff_mul_le (by omega)];rw[Nat.pow_succ] at h;omega
  have h1:2≤n:=by have:0<2^k:=Nat.two_pow_pos k;rw[Nat.pow_succ] at h;omega
  rw[Nat.log2_def,if_pos h1,ih (n / 2) h2,Nat.div_div_eq_div_mul,Nat.pow_succ,Nat.mul_comm 2];omega
theorem Dd (a:Int)(k m:Nat)(hm:2^k=m)(h:(m:Int)≤a):lg a=lg (a / (m:Int))+k:=by
 obtain⟨n,rfl⟩:=Int.eq_ofNat_of_zero_le (show 0≤a by omega)
 subst hm
 have hp:0<2^k:=Nat.two_pow_pos k
 have h':2^k≤n:=by omega
 have e:((n:Int) / ((2^k:Nat):Int)).toNat=n / 2^k:=by rw[←Int.natCast_ediv];rfl
 have h1:¬ (n / 2^k=0):=by rw[Nat.div_eq_zero_iff];omega
 unfold lg
 rw[e,Int.toNat_natCast,if_neg h1,if_neg (by omega),Qs1 n k h']
 omega
def Tq:ByteArray:=⟨#[0,1,2,2,3,3,3,3,4,4,4,4,4,4,4,4,5,5,5,5,5,5,5,5,5,5,5,5,5,5,5,5,6,6,6,6,6,6,6,6,6,6,6,6,6,6,6,6,6,6,6,6,6,6,6,6,6,6,6,6,6,6,6,6,7,7,7,7,7,7,7,7,7,7,7,7,7,7,7,7,7,7,7,7,7,7,7,7,7,7,7,7,7,7,7,7,7,7,7,7,7,7,7,7,7,7,7,7,7,7,7,7,7,7,7,7,7,7,7,7,7,7,7,7,7,7,7,7,8,8,8,8,8,8,8,8,8,8,8,8,8,8,8,8,8,8,8,8,8,8,8,8,8,8,8,8,8,8,8,8,8,8,8,8,8,8,8,8,8,8,8,8,8,8,8,8,8,8,8,8,8,8,8,8,8,8,8,8,8,8,8,8,8,8,8,8,8,8,8,8,8,8,8,8,8,8,8,8,8,8,8,8,8,8,8,8,8,8,8,8,8,8,8,8,8,8,8,8,8,8,8,8,8,8,8,8,8,8,8,8,8,8,8,8,8,8,8,8,8,8,8,8,8,8,8,8]⟩
theorem Qrr:∀ k:Fin 256,Tq[k.1]? = some (UInt8.ofNat (lg (k.1:Int)).toNat)∧lg (k.1:Int)=((UInt8.ofNat (lg (k.1:Int)).toNat).toNat:Int):=by decide +kernel
theorem Wb {a:Int}(h0:0≤a)(h1:a<256):Tq[a.toNat]? = some (UInt8.ofNat (lg a).toNat)∧lg a=((UInt8.ofNat (lg a).toNat).toNat:Int):=by
 obtain⟨n,rfl⟩:=Int.eq_ofNat_of_zero_le h0
 exact Qrr ⟨n,by omega⟩
theorem Sc (a:Int) : -9223372036854775808≤lg a:=by unfold lg;split<;>omega
theorem Sb {a:Int}(h0:0≤a)(h1:a<256):lg a≤9223372036854775807:=by have:=(Wb h0 h1).2;have:=(UInt8.ofNat (lg a).toNat).toNat_lt;omega
theorem Lz {b:Int}(a:Int)(h:0≤b) : -9223372036854775808≤b+lg a:=by unfold lg;split<;>omega
theorem Sa {a b:Int}(h0:0≤a)(h1:a<256)(hb:b≤1000):b+lg a≤9223372036854775807:=by have:=(Wb h0 h1).2;have:=(UInt8.ofNat (lg a).toNat).toNat_lt;omega
set_option maxRecDepth 20000 in
set_option maxHeartbeats 1000000 in
theorem Qrq (a:Int)(ha1:0≤a)(ha2:a<18446744073709551616)(w:World):
 Calls Tryz.prog 172 [.int .u64 a].toArray w fun e w'=>∃ v,e=.returned v∧(v=.int .i64 (lg a)∧Gr w w'):=by
 refine Xj (R:=fun v w'=>v=.int .i64 (lg a)∧Gr w w') 25 Tryz.func172 rfl rfl rfl ?_
 refine Qh ?_
 refine Kd [(0,0)] rfl rfl rfl ?_
 refine Xf rfl rfl rfl (Vi rfl) ?_
 refine Qa ?_
 refine Qh ?_
 refine Qh ?_
 refine Kd [(0,0),(1,0)] rfl rfl rfl ?_
 refine Xf rfl rfl rfl (Qt rfl) ?_
 refine Xf rfl rfl rfl (Yq rfl rfl) ?_
 refine Qa ?_
 refine Pe rfl (fun h1=>?_) (fun h1=>?_)
 · -- h1 True
   replace h1:=of_decide_eq_true h1
   refine Qh ?_
   refine Kd [(0,0),(1,0),(2,0)] rfl rfl rfl ?_
   refine Xf rfl rfl rfl (Qt rfl) ?_
   refine Xf rfl rfl rfl (Bq (n:=32) (m:=4294967296) rfl rfl rfl (by decide)) ?_
   refine Xf rfl rfl rfl (Vi rfl) ?_
   refine Qa ?_
   refine Kd [(0,0)] rfl rfl rfl ?_
   refine Xf rfl rfl rfl (Vi rfl) ?_
   refine Qa ?_
   refine Qh ?_
   refine Qh ?_
   refine Kd [(0,0),(1,0)] rfl rfl rfl ?_
   refine Xf rfl rfl rfl (Qt rfl) ?_
   refine Xf rfl rfl rfl (Yq rfl rfl) ?_
   refine Qa ?_
   refine Pe rfl (fun h2=>?_) (fun h2=>?_)
   · -- h2 True
     replace h2:=of_decide_eq_true h2
     refine Qh ?_
     refine Kd [(0,0),(1,0),(2,0)] rfl rfl rfl ?_
     refine Xf rfl rfl rfl (Qt rfl) ?_
     refine Xf rfl rfl rfl (Bq (n:=16) (m:=65536) rfl rfl rfl (by decide)) ?_
     refine Xf rfl rfl rfl (Vi rfl) ?_
     refine Qa ?_
     refine Kd [(0,0),(1,0),(2,0)] rfl rfl rfl ?_
     refine Xf rfl rfl rfl (Qt rfl) ?_
     refine Xf rfl rfl rfl (Ho rfl rfl (by omega) (by omega)) ?_
     refine Xf rfl rfl rfl (Vi rfl) ?_
     refine Qa ?_
     refine Qh ?_
     refine Qh ?_
     refine Kd [(0,0),(1,0)] rfl rfl rfl ?_
     refine Xf rfl rfl rfl (Qt rfl) ?_
     refine Xf rfl rfl rfl (Yq rfl rfl) ?_
     refine Qa ?_
     refine Pe rfl (fun h3=>?_) (fun h3=>?_)
     · -- h3 True
       replace h3:=of_decide_eq_true h3
       refine Qh ?_
       refine Kd [(0,0),(1,0),(2,0)] rfl rfl rfl ?_
       refine Xf rfl rfl rfl (Qt rfl) ?_
       refine Xf rfl rfl rfl (Bq (n:=8) (m:=256) rfl rfl rfl (by decide)) ?_
       refine Xf rfl rfl rfl (Vi rfl) ?_
       refine Qa ?_
       refine Kd [(0,0),(1,0),(2,0)] rfl rfl rfl ?_
       refine Xf rfl rfl rfl (Qt rfl) ?_
       refine Xf rfl rfl rfl (Ho rfl rfl (by omega) (by omega)) ?_
       refine Xf rfl rfl rfl (Vi rfl) ?_
       refine Qa ?_
       refine Qh ?_
       refine Kd [(0,0),(1,0),(2,0),(3,0),(4,0),(5,0),(6,0)] rfl rfl rfl ?_
       refine Xf rfl rfl rfl (Qt rfl) ?_
       refine Xf rfl rfl rfl (Qt rfl) ?_
       refine Xf rfl rfl rfl (Fa Ll rfl (by omega) (by omega)) ?_
       refine Xf rfl rfl rfl (Jw (Fb Tryz.underlying9 rfl rfl (by omega) (show Tq[_]? = _ from(Wb (by omega) (by omega)).1)) (congrArg (Value.int .u8) (Wb (by omega) (by omega)).2.symm)) ?_
       refine Xf rfl rfl rfl (Sy Lm rfl (Sc _) (Sb (by omega) (by omega))) ?_
       refine Xf rfl rfl rfl (Ho rfl rfl (Lz _ (by decide)) (Sa (by omega) (by omega) (by decide))) ?_
       refine Xf rfl rfl rfl (Vi rfl) ?_
       refine Qa ?_
       refine Qp ?_
       refine⟨_,_,rfl,Nr rfl rfl,?_⟩
       refine⟨congrArg (Value.int .i64) ?_,(Gr.refl w)⟩
       have e0:lg (a:Int)=lg ((a:Int) / 4294967296)+32:=Dd (a:Int) 32 4294967296 (by decide) (by omega)
       have e1:lg ((a:Int) / 4294967296)=lg (((a:Int) / 4294967296) / 65536)+16:=Dd ((a:Int) / 4294967296) 16 65536 (by decide) (by omega)
       have e2:lg (((a:Int) / 4294967296) / 65536)=lg ((((a:Int) / 4294967296) / 65536) / 256)+8:=Dd (((a:Int) / 4294967296) / 65536) 8 256 (by decide) (by omega)
       omega
     · -- h3 False
       replace h3:=of_decide_eq_false h3
       refine Jb ?_
       refine Xa ?_
       refine Qh ?_
       refine Kd [(0,0),(1,0),(2,0),(3,0),(4,0),(5,0),(6,0)] rfl rfl rfl ?_
       refine Xf rfl rfl rfl (Qt rfl) ?_
       refine Xf rfl rfl rfl (Qt rfl) ?_
       refine Xf rfl rfl rfl (Fa Ll rfl (by omega) (by omega)) ?_
       refine Xf rfl rfl rfl (Jw (Fb Tryz.underlying9 rfl rfl (by omega) (show Tq[_]? = _ from(Wb (by omega) (by omega)).1)) (congrArg (Value.int .u8) (Wb (by omega) (by omega)).2.symm)) ?_
       refine Xf rfl rfl rfl (Sy Lm rfl (Sc _) (Sb (by omega) (by omega))) ?_
       refine Xf rfl rfl rfl (Ho rfl rfl (Lz _ (by decide)) (Sa (by omega) (by omega) (by decide))) ?_
       refine Xf rfl rfl rfl (Vi rfl) ?_
       refine Qa ?_
       refine Qp ?_
       refine⟨_,_,rfl,Nr rfl rfl,?_⟩
       refine⟨congrArg (Value.int .i64) ?_,(Gr.refl w)⟩
       have e0:lg (a:Int)=lg ((a:Int) / 4294967296)+32:=Dd (a:Int) 32 4294967296 (by decide) (by omega)
       have e1:lg ((a:Int) / 4294967296)=lg (((a:Int) / 4294967296) / 65536)+16:=Dd ((a:Int) / 4294967296) 16 65536 (by decide) (by omega)
       omega
   · -- h2 False
     replace h2:=of_decide_eq_false h2
     refine Jb ?_
     refine Xa ?_
     refine Qh ?_
     refine Qh ?_
     refine Kd [(0,0),(1,0)] rfl rfl rfl ?_
     refine Xf rfl rfl rfl (Qt rfl) ?_
     refine Xf rfl rfl rfl (Yq rfl rfl) ?_
     refine Qa ?_
     refine Pe rfl (fun h4=>?_) (fun h4=>?_)
     · -- h4 True
       replace h4:=of_decide_eq_true h4
       refine Qh ?_
       refine Kd [(0,0),(1,0),(2,0)] rfl rfl rfl ?_
       refine Xf rfl rfl rfl (Qt rfl) ?_
       refine Xf rfl rfl rfl (Bq (n:=8) (m:=256) rfl rfl rfl (by decide)) ?_
       refine Xf rfl rfl rfl (Vi rfl) ?_
       refine Qa ?_
       refine Kd [(0,0),(1,0),(2,0)] rfl rfl rfl ?_
       refine Xf rfl rfl rfl (Qt rfl) ?_
       refine Xf rfl rfl rfl (Ho rfl rfl (by omega) (by omega)) ?_
       refine Xf rfl rfl rfl (Vi rfl) ?_
       refine Qa ?_
       refine Qh ?_
       refine Kd [(0,0),(1,0),(2,0),(3,0),(4,0),(5,0),(6,0)] rfl rfl rfl ?_
       refine Xf rfl rfl rfl (Qt rfl) ?_
       refine Xf rfl rfl rfl (Qt rfl) ?_
       refine Xf rfl rfl rfl (Fa Ll rfl (by omega) (by omega)) ?_
       refine Xf rfl rfl rfl (Jw (Fb Tryz.underlying9 rfl rfl (by omega) (show Tq[_]? = _ from(Wb (by omega) (by omega)).1)) (congrArg (Value.int .u8) (Wb (by omega) (by omega)).2.symm)) ?_
       refine Xf rfl rfl rfl (Sy Lm rfl (Sc _) (Sb (by omega) (by omega))) ?_
       refine Xf rfl rfl rfl (Ho rfl rfl (Lz _ (by decide)) (Sa (by omega) (by omega) (by decide))) ?_
       refine Xf rfl rfl rfl (Vi rfl) ?_
       refine Qa ?_
       refine Qp ?_
       refine⟨_,_,rfl,Nr rfl rfl,?_⟩
       refine⟨congrArg (Value.int .i64) ?_,(Gr.refl w)⟩
       have e0:lg (a:Int)=lg ((a:Int) / 4294967296)+32:=Dd (a:Int) 32 4294967296 (by decide) (by omega)
       have e1:lg ((a:Int) / 4294967296)=lg (((a:Int) / 4294967296) / 256)+8:=Dd ((a:Int) / 4294967296) 8 256 (by decide) (by omega)
       omega
     · -- h4 False
       replace h4:=of_decide_eq_false h4
       refine Jb ?_
       refine Xa ?_
       refine Qh ?_
       refine Kd [(0,0),(1,0),(2,0),(3,0),(4,0),(5,0),(6,0)] rfl rfl rfl ?_
       refine Xf rfl rfl rfl (Qt rfl) ?_
       refine Xf rfl rfl rfl (Qt rfl) ?_
       refine Xf rfl rfl rfl (Fa Ll rfl (by omega) (by omega)) ?_
       refine Xf rfl rfl rfl (Jw (Fb Tryz.underlying9 rfl rfl (by omega) (show Tq[_]? = _ from(Wb (by omega) (by omega)).1)) (congrArg (Value.int .u8) (Wb (by omega) (by omega)).2.symm)) ?_
       refine Xf rfl rfl rfl (Sy Lm rfl (Sc _) (Sb (by omega) (by omega))) ?_
       refine Xf rfl rfl rfl (Ho rfl rfl (Lz _ (by decide)) (Sa (by omega) (by omega) (by decide))) ?_
       refine Xf rfl rfl rfl (Vi rfl) ?_
       refine Qa ?_
       refine Qp ?_
       refine⟨_,_,rfl,Nr rfl rfl,?_⟩
       refine⟨congrArg (Value.int .i64) ?_,(Gr.refl w)⟩
       have e0:lg (a:Int)=lg ((a:Int) / 4294967296)+32:=Dd (a:Int) 32 4294967296 (by decide) (by omega)
       omega
 · -- h1 False
   replace h1:=of_decide_eq_false h1
   refine Jb ?_
   refine Xa ?_
   refine Qh ?_
   refine Qh ?_
   refine Kd [(0,0),(1,0)] rfl rfl rfl ?_
   refine Xf rfl rfl rfl (Qt rfl) ?_
   refine Xf rfl rfl rfl (Yq rfl rfl) ?_
   refine Qa ?_
   refine Pe rfl (fun h5=>?_) (fun h5=>?_)
   · -- h5 True
     replace h5:=of_decide_eq_true h5
     refine Qh ?_
     refine Kd [(0,0),(1,0),(2,0)] rfl rfl rfl ?_
     refine Xf rfl rfl rfl (Qt rfl) ?_
     refine Xf rfl rfl rfl (Bq (n:=16) (m:=65536) rfl rfl rfl (by decide)) ?_
     refine Xf rfl rfl rfl (Vi rfl) ?_
     refine Qa ?_
     refine Kd [(0,0),(1,0),(2,0)] rfl rfl rfl ?_
     refine Xf rfl rfl rfl (Qt rfl) ?_
     refine Xf rfl rfl rfl (Ho rfl rfl (by omega) (by omega)) ?_
     refine Xf rfl rfl rfl (Vi rfl) ?_
     refine Qa ?_
     refine Qh ?_
     refine Qh ?_
     refine Kd [(0,0),(1,0)] rfl rfl rfl ?_
     refine Xf rfl rfl rfl (Qt rfl) ?_
     refine Xf rfl rfl rfl (Yq rfl rfl) ?_
     refine Qa ?_
     refine Pe rfl (fun h6=>?_) (fun h6=>?_)
     · -- h6 True
       replace h6:=of_decide_eq_true h6
       refine Qh ?_
       refine Kd [(0,0),(1,0),(2,0)] rfl rfl rfl ?_
       refine Xf rfl rfl rfl (Qt rfl) ?_
       refine Xf rfl rfl rfl (Bq (n:=8) (m:=256) rfl rfl rfl (by decide)) ?_
       refine Xf rfl rfl rfl (Vi rfl) ?_
       refine Qa ?_
       refine Kd [(0,0),(1,0),(2,0)] rfl rfl rfl ?_
       refine Xf rfl rfl rfl (Qt rfl) ?_
       refine Xf rfl rfl rfl (Ho rfl rfl (by omega) (by omega)) ?_
       refine Xf rfl rfl rfl (Vi rfl) ?_
       refine Qa ?_
       refine Qh ?_
       refine Kd [(0,0),(1,0),(2,0),(3,0),(4,0),(5,0),(6,0)] rfl rfl rfl ?_
       refine Xf rfl rfl rfl (Qt rfl) ?_
       refine Xf rfl rfl rfl (Qt rfl) ?_
       refine Xf rfl rfl rfl (Fa Ll rfl (by omega) (by omega)) ?_
       refine Xf rfl rfl rfl (Jw (Fb Tryz.underlying9 rfl rfl (by omega) (show Tq[_]? = _ from(Wb (by omega) (by omega)).1)) (congrArg (Value.int .u8) (Wb (by omega) (by omega)).2.symm)) ?_
       refine Xf rfl rfl rfl (Sy Lm rfl (Sc _) (Sb (by omega) (by omega))) ?_
       refine Xf rfl rfl rfl (Ho rfl rfl (Lz _ (by decide)) (Sa (by omega) (by omega) (by decide))) ?_
       refine Xf rfl rfl rfl (Vi rfl) ?_
       refine Qa ?_
       refine Qp ?_
       refine⟨_,_,rfl,Nr rfl rfl,?_⟩
       refine⟨congrArg (Value.int .i64) ?_,(Gr.refl w)⟩
       have e0:lg (a:Int)=lg ((a:Int) / 65536)+16:=Dd (a:Int) 16 65536 (by decide) (by omega)
       have e1:lg ((a:Int) / 65536)=lg (((a:Int) / 65536) / 256)+8:=Dd ((a:Int) / 65536) 8 256 (by decide) (by omega)
       omega
     · -- h6 False
       replace h6:=of_decide_eq_false h6
       refine Jb ?_
       refine Xa ?_
       refine Qh ?_
       refine Kd [(0,0),(1,0),(2,0),(3,0),(4,0),(5,0),(6,0)] rfl rfl rfl ?_
       refine Xf rfl rfl rfl (Qt rfl) ?_
       refine Xf rfl rfl rfl (Qt rfl) ?_
       refine Xf rfl rfl rfl (Fa Ll rfl (by omega) (by omega)) ?_
       refine Xf rfl rfl rfl (Jw (Fb Tryz.underlying9 rfl rfl (by omega) (show Tq[_]? = _ from(Wb (by omega) (by omega)).1)) (congrArg (Value.int .u8) (Wb (by omega) (by omega)).2.symm)) ?_
       refine Xf rfl rfl rfl (Sy Lm rfl (Sc _) (Sb (by omega) (by omega))) ?_
       refine Xf rfl rfl rfl (Ho rfl rfl (Lz _ (by decide)) (Sa (by omega) (by omega) (by decide))) ?_
       refine Xf rfl rfl rfl (Vi rfl) ?_
       refine Qa ?_
       refine Qp ?_
       refine⟨_,_,rfl,Nr rfl rfl,?_⟩
       refine⟨congrArg (Value.int .i64) ?_,(Gr.refl w)⟩
       have e0:lg (a:Int)=lg ((a:Int) / 65536)+16:=Dd (a:Int) 16 65536 (by decide) (by omega)
       omega
   · -- h5 False
     replace h5:=of_decide_eq_false h5
     refine Jb ?_
     refine Xa ?_
     refine Qh ?_
     refine Qh ?_
     refine Kd [(0,0),(1,0)] rfl rfl rfl ?_
     refine Xf rfl rfl rfl (Qt rfl) ?_
     refine Xf rfl rfl rfl (Yq rfl rfl) ?_
     refine Qa ?_
     refine Pe rfl (fun h7=>?_) (fun h7=>?_)
     · -- h7 True
       replace h7:=of_decide_eq_true h7
       refine Qh ?_
       refine Kd [(0,0),(1,0),(2,0)] rfl rfl rfl ?_
       refine Xf rfl rfl rfl (Qt rfl) ?_
       refine Xf rfl rfl rfl (Bq (n:=8) (m:=256) rfl rfl rfl (by decide)) ?_
       refine Xf rfl rfl rfl (Vi rfl) ?_
       refine Qa ?_
       refine Kd [(0,0),(1,0),(2,0)] rfl rfl rfl ?_
       refine Xf rfl rfl rfl (Qt rfl) ?_
       refine Xf rfl rfl rfl (Ho rfl rfl (by omega) (by omega)) ?_
       refine Xf rfl rfl rfl (Vi rfl) ?_
       refine Qa ?_
       refine Qh ?_
       refine Kd [(0,0),(1,0),(2,0),(3,0),(4,0),(5,0),(6,0)] rfl rfl rfl ?_
       refine Xf rfl rfl rfl (Qt rfl) ?_
       refine Xf rfl rfl rfl (Qt rfl) ?_
       refine Xf rfl rfl rfl (Fa Ll rfl (by omega) (by omega)) ?_
       refine Xf rfl rfl rfl (Jw (Fb Tryz.underlying9 rfl rfl (by omega) (show Tq[_]? = _ from(Wb (by omega) (by omega)).1)) (congrArg (Value.int .u8) (Wb (by omega) (by omega)).2.symm)) ?_
       refine Xf rfl rfl rfl (Sy Lm rfl (Sc _) (Sb (by omega) (by omega))) ?_
       refine Xf rfl rfl rfl (Ho rfl rfl (Lz _ (by decide)) (Sa (by omega) (by omega) (by decide))) ?_
       refine Xf rfl rfl rfl (Vi rfl) ?_
       refine Qa ?_
       refine Qp ?_
       refine⟨_,_,rfl,Nr rfl rfl,?_⟩
       refine⟨congrArg (Value.int .i64) ?_,(Gr.refl w)⟩
       have e0:lg (a:Int)=lg ((a:Int) / 256)+8:=Dd (a:Int) 8 256 (by decide) (by omega)
       omega
     · -- h7 False
       replace h7:=of_decide_eq_false h7
       refine Jb ?_
       refine Xa ?_
       refine Qh ?_
       refine Kd [(0,0),(1,0),(2,0),(3,0),(4,0),(5,0),(6,0)] rfl rfl rfl ?_
       refine Xf rfl rfl rfl (Qt rfl) ?_
       refine Xf rfl rfl rfl (Qt rfl) ?_
       refine Xf rfl rfl rfl (Fa Ll rfl (by omega) (by omega)) ?_
       refine Xf rfl rfl rfl (Jw (Fb Tryz.underlying9 rfl rfl (by omega) (show Tq[_]? = _ from(Wb (by omega) (by omega)).1)) (congrArg (Value.int .u8) (Wb (by omega) (by omega)).2.symm)) ?_
       refine Xf rfl rfl rfl (Sy Lm rfl (Sc _) (Sb (by omega) (by omega))) ?_
       refine Xf rfl rfl rfl (Ho rfl rfl (Lz _ (by decide)) (Sa (by omega) (by omega) (by decide))) ?_
       refine Xf rfl rfl rfl (Vi rfl) ?_
       refine Qa ?_
       refine Qp ?_
       refine⟨_,_,rfl,Nr rfl rfl,?_⟩
       refine⟨congrArg (Value.int .i64) ?_,(Gr.refl w)⟩
       omega
set_option maxHeartbeats 1000000 in
theorem Qrs (a:Int)(ha1:0≤a)(ha2:a<18446744073709551616)(w:World):
 Calls Tryz.prog 131 [.int .u64 a].toArray w fun e w'=>∃ v,e=.returned v∧(v=.int .i64 (lg a)∧Gr w w'):=by
 refine Xj (R:=fun v w'=>v=.int .i64 (lg a)∧Gr w w') 8 Tryz.func131 rfl rfl rfl ?_
 refine Qh ?_
 refine Kd [(0,0)] rfl rfl rfl ?_
 refine Xf rfl rfl rfl (Vi rfl) ?_
 refine Qa ?_
 refine Qh ?_
 refine Dj rfl ?_
 refine Jb ?_
 refine Xa ?_
 refine Qh ?_
 refine Kd [(0,0),(1,0),(2,0)] rfl rfl rfl ?_
 refine Xf rfl rfl rfl (Qt rfl) ?_
 refine Qg7 rfl rfl rfl (Qj5 Qph rfl (Qrq _ (by omega) (by omega) _)) ?_
 rintro _ w1 ⟨rfl,Gw1⟩
 have z1:=Gw1.size
 refine Xf rfl rfl rfl (Vi rfl) ?_
 refine Qa ?_
 refine Qp ?_
 have X2:Gr w w1:=(Gr.trans (Gr.refl w) Gw1)
 refine⟨_,_,rfl,Nr rfl rfl,?_⟩
 exact⟨rfl,X2⟩
end Go.Proofs.YtopkalcefepilaaGreat

end
section
set_option linter.unusedVariables false
set_option linter.unusedSimpArgs false
namespace Go.Sx
open Go Go.RowKit Go.Proofs Go.Sort Go.Shelf
def Ws' (k:Nat)(xs:List (List Value)):Prop:=∀ y∈xs,y.length=k
theorem Qw9 {β:Type}[Inhabited β](enc:β→List Value)(k:Nat)(hk:1≤k)(hc:∀ b,(enc b).length=k)(w:World)(g n:Nat)(d:Array β)(os:Array Obj)(e:TypeId)(cur:Array Value)(hb:w.heap[g]? = some (.cells cur e (0,0)))(hl:d.size*k≤cur.size):
 ∃ cur':Array Value,(sortWorldK enc k w g 0 n d os).heap[g]? = some (.cells cur' e (0,0))∧cur'.size=cur.size∧cur'.toList.take (d.size*k)=(d.toList.map enc).flatten∧Kz [(1,g)] w (sortWorldK enc k w g 0 n d os):=by
 have Xy:g<w.heap.size:=(Array.getElem?_eq_some_iff.1 hb).1
 have hh:(sortWorldK enc k w g 0 n d os).heap=(w.heap.modify g (onCells (putCells id 0 (flatK enc k d))))++os:=rfl
 refine⟨putCells id 0 (flatK enc k d) cur,?_,by simp[putCells],?_,?_⟩
 · rw[hh,Array.getElem?_append_left (by simpa using Xy),Array.getElem?_modify,if_pos rfl,hb];rfl
 · apply List.ext_getElem?
   intro t
   rw[List.getElem?_take]
   have hfl:((d.toList.map enc).flatten).length=d.size*k:=by
    have:Ws' k (d.toList.map enc):=by
     intro y hy;obtain⟨b,_,rfl⟩:=List.mem_map.1 hy;exact hc b
    have h2:∀ (xs:List (List Value)),Ws' k xs→xs.flatten.length=xs.length*k:=by
     intro xs
     induction xs with
     | nil=>intro _;simp
     | cons a xs ih=>intro h;rw[List.flatten_cons,List.length_append,ih (fun y hy=>h y (List.mem_cons_of_mem _ hy)),h a (by simp),List.length_cons,Nat.add_mul];omega
    rw[h2 _ this];simp
   by_cases ht:t<d.size*k
   · rw[if_pos ht]
     have htc:t<cur.size:=by omega
     have h3:(putCells id 0 (flatK enc k d) cur).toList[t]? = some ((flatK enc k d)[t]!):=by
      simp only[putCells,Array.getElem?_toList,Array.getElem?_mapIdx,Array.getElem?_eq_getElem htc,Option.map_some,Nat.zero_le,true_and,Nat.zero_add,size_flatK,ht,if_true,Nat.sub_zero,id]
     rw[h3,get_flatK enc k d t ht]
     have hq:t / k<d.size:=(Nat.div_lt_iff_lt_mul (by omega)).2 ht
     have hm:t%k<k:=Nat.mod_lt _ (by omega)
     have hgen:∀ (xs:List (List Value)),Ws' k xs→∀ i j c,xs[i]? = some c→j<k→xs.flatten[i*k+j]? = c[j]? := by
      intro xs
      induction xs with
      | nil=>intro _ i j c h;simp at h
      | cons a xs ih=>
       intro hw i j c h hj
       have ha:=hw a (by simp)
       rw[List.flatten_cons]
       cases i with
       | zero=>simp at h;subst h;rw[Nat.zero_mul,Nat.zero_add,List.getElem?_append_left (by omega)]
       | succ i=>
        rw[List.getElem?_append_right (by rw[ha,Nat.add_mul];omega),show(i+1)*k+j-a.length=i*k+j from by rw[ha,Nat.add_mul];omega]
        exact ih (fun y hy=>hw y (List.mem_cons_of_mem _ hy)) i j c (by simpa using h) hj
     have h4:=hgen (d.toList.map enc) (fun y hy=>by obtain⟨b,_,rfl⟩:=List.mem_map.1 hy;exact hc b) (t / k) (t%k) (enc d[t / k]!) (by simp[hq]) hm
     have hdm:t / k*k+t%k=t:=by rw[Nat.mul_comm];exact Nat.div_add_mod t k
     rw[hdm] at h4
     rw[h4]
     have h5:t%k<(enc d[t / k]!).length:=by rw[hc];exact hm
     simp[h5]
   · rw[if_neg ht,List.getElem?_eq_none (by omega)]
 · refine⟨rfl,rfl,rfl,by rw[hh];simp,fun i hi hn=>?_⟩
   have hne:g≠i:=by
    simp only[Ze] at hn
    rcases hn.1 with h|h
    · omega
    · exact fun e=>h e.symm
   rw[hh,Array.getElem?_append_left (by simpa using hi),Array.getElem?_modify,if_neg hne]
section
variable {P:Program} {ρ:Ren}
theorem Qwa {β:Type}(c:β→List Value)(k:Nat)(hc:∀ b,(c b).length=k)(h1:∀ b,Zx (c b)=true)(hk:1≤k)(key:β→Int)(cf:Nat)(L:SlLaysF0.n6 P ρ)(aE:∀ w,(isAgg (ρ.t 24)).run P w=.ok true w)(zE:∀ w,(Go.sizeOf (ρ.t 24)).run P w=.ok k w)
 (eg:∀ args w,(callFunc cf args).run P w=.ok (.enter cf args) w)
 (hcmp:∀ (x y:β) (W:World),0≤key x∧key x<4611686018427387904→0≤key y∧key y<4611686018427387904→Calls P cf #[.agg (c x).toArray,.agg (c y).toArray] W fun e w'=>e=.returned (.int .i64 (key x-key y))∧∃ q os',w'=grow (W.drewN q) os')
 {l m:List β} (hm:Bj key l=some m) (w:World) (z g:Nat) (e:TypeId) (v:Value) (h:Qk w z g e k v (l.map c)):
 Calls P (ρ.f 6) #[v,.func (.func cf) #[] #[]] w fun e' w'=>∃ v',e'=.returned v'∧(Qk w' z g e k v (m.map c)∧Kz [(z,g)] w w'):=by
 obtain⟨rfl,hbd,hnd,hlen⟩:=Qwc hm
 rcases h.2 with⟨hz,rfl,h0⟩|⟨hz,cap,cur,rfl,hb,hn,hcap,hsz,htk⟩
 · have hl0:l=[]:=by simpa using h0
   subst hl0
   refine(AnyF.slices_SortFunc_none L none 0 (.func (.func cf) #[] #[]) w).mono ?_
   rintro e' w' ⟨rfl,rfl⟩
   exact⟨_,rfl,by simpa using h,Kz.refl _ _⟩
 · by_cases hl0:l=[]
   · subst hl0
     have:(([]:List β).map c).length=0:=rfl
     rw[this]
     refine(AnyF.slices_SortFunc_none L (some ⟨g,0,none⟩) cap (.func (.func cf) #[] #[]) w).mono ?_
     rintro e' w' ⟨rfl,rfl⟩
     exact⟨_,rfl,by simpa using h,Kz.refl _ _⟩
   · obtain⟨b0,hb0⟩:=List.exists_mem_of_ne_nil l hl0
     let A:={ x:β // x∈l }
     letI:Inhabited A:=⟨⟨b0,hb0⟩⟩
     let enc:A→List Value:=fun x=>c x.1
     let d:Array A:=l.attach.toArray
     let cfn:A→A→Int:=fun x y=>key x.1-key y.1
     have hds:d.size=l.length:=by show l.attach.toArray.size=l.length;simp
     have Xy:∀ x y:A,ltOf cfn x y=decide (key x.1<key y.1):=fun x y=>by
      unfold ltOf;apply decide_eq_decide.2;show key x.1-key y.1<0↔_;omega
     have hO:SWO (ltOf cfn):=⟨fun x=>by rw[Xy];simp,fun x y z h1 h2=>by rw[Xy] at *;simp at *;omega,fun x y z h1 h2=>by rw[Xy] at *;simp at *;omega⟩
     have hT:∀ x y:A,ltOf cfn x y=false→ltOf cfn y x=false→x=y:=fun x y h1 h2=>by
      rw[Xy] at h1 h2
      simp at h1 h2
      have he:key x.1=key y.1:=by omega
      apply Subtype.ext
      obtain⟨i,hi,ei⟩:=List.mem_iff_getElem.1 x.2
      obtain⟨j,hj,ej⟩:=List.mem_iff_getElem.1 y.2
      have hij:i=j:=(List.getElem_inj (h₀:=by simpa using hi) (h₁:=by simpa using hj) hnd).1 (by rw[List.getElem_map,List.getElem_map,ei,ej];exact he)
      subst hij;rw[←ei,←ej]
     have hmk:d.toList.map enc=l.map c:=by
      show l.attach.toArray.toList.map (fun x:A=>c x.1)=l.map c
      show List.map (fun x:{ x:β // x∈l }=>c x.1) l.attach=l.map c
      exact List.attach_map_val
     rw[List.length_map] at hn htk
     have hle:d.size*k≤cur.size:=by rw[hds,hsz];exact Nat.mul_le_mul_right _ hn
     have hH:HoldsK enc k w g 0 d:=by
      intro j hj
      rw[size_flatK] at hj
      rw[get_flatK enc k d j hj]
      have hq:j / k<d.size:=(Nat.div_lt_iff_lt_mul (by omega)).2 hj
      have hm':j%k<k:=Nat.mod_lt _ (by omega)
      have hcell:w.cell? ⟨g,0+j,none⟩=cur[j]? := by rw[Nat.zero_add,cell_of_row w g j _ e _ hb]
      have hws:Ws k (l.map c):=h.1
      have hat:=hws.at (j / k) (j%k) (c (l[j / k]'(by omega))) (by simp[show j / k<l.length by omega]) hm'
      have hdm:j / k*k+j%k=j:=by rw[Nat.mul_comm];exact Nat.div_add_mod j k
      rw[hdm,←htk,List.getElem?_take,if_pos (by rw[hds] at hj;exact hj),Array.getElem?_toList] at hat
      have hdj:enc d[j / k]! = c (l[j / k]'(by omega)):=by
       have:d[j / k]! = ⟨l[j / k]'(by omega),List.getElem_mem _⟩:=by
        have hjl:j / k<d.size:=hq
        rw[getElem!_pos d (j / k) hjl]
        show(l.attach.toArray)[j / k]'(by simpa using(show j / k<l.length by omega))=_
        simp
       rw[this]
      refine⟨?_,?_⟩
      · rw[hcell,hat,hdj]
        have h5:j%k<(c (l[j / k]'(by omega))).length:=by rw[hc];exact hm'
        simp[h5]
      · simp[World.frozen?,hb]
     have hcl:CmpLays P cf #[] enc k cfn g 0 d.size w:=fun mm os dk hs x y=>by
      have:=hcmp x.1 y.1 (sortWorldK enc k w g 0 mm dk os) (hbd _ x.2) (hbd _ y.2)
      simpa[enc,cfn] using this
     have hone:∀ x:A,∀ u∈enc x,u.oneCell'=true:=fun x u hu=>by
      have hws:Ws k (l.map c):=h.1
      exact hws.one u (List.mem_flatten.2 ⟨c x.1,List.mem_map.2 ⟨x.1,x.2,rfl⟩,hu⟩)
     have:=AnyQ.slices_SortFunc_total L k aE zE enc (fun x=>hc x.1) hone cfn hO cf #[] g 0 cap d w eg hcl hH (Array.getElem?_eq_some_iff.1 hb).1 (by omega) hT
     rw[hds] at this
     rw[List.length_map]
     refine this.mono ?_
     rintro e' w' ⟨rfl,n,os,rfl⟩
     have hms:(d.toList.mergeSort fun x y => !(ltOf cfn) y x).map enc=(l.mergeSort fun a b=>decide (key a≤key b)).map c:=by
      have e1:(d.toList.mergeSort fun x y => !(ltOf cfn) y x).map Subtype.val=(l.mergeSort fun a b=>decide (key a≤key b)):=by
       rw[List.map_mergeSort (s:=fun a b=>decide (key a≤key b)) (fun a _ b _=>by rw[Xy];by_cases hh:key b.1<key a.1<;>simp[hh]<;>omega)]
       congr 1
       show List.map Subtype.val l.attach=l
       simp
      rw[←e1,List.map_map];rfl
     have hsl:(d.toList.mergeSort fun x y => !(ltOf cfn) y x).toArray.size=l.length:=by rw[List.size_toArray,List.length_mergeSort];exact hds
     obtain⟨cur',q1,q2,q3,q4⟩:=Qw9 enc k hk (fun x=>hc x.1) w g n (d.toList.mergeSort fun x y => !(ltOf cfn) y x).toArray os e cur hb (by rw[hsl,←hds];exact hle)
     rw[hsl,List.toList_toArray,hms] at q3
     refine⟨_,rfl,⟨?_,.inr ⟨hz,cap,cur',?_,q1,?_,?_,?_,?_⟩⟩,by rw[hz];exact q4⟩
     · exact Qnr fun x _=>⟨hc x,h1 x⟩
     · rw[List.length_map,List.length_mergeSort]
     · rw[List.length_map,List.length_mergeSort];exact hn
     · exact hcap
     · rw[q2];exact hsz
     · rw[List.length_map,List.length_mergeSort];exact q3
end
end Go.Sx

end
