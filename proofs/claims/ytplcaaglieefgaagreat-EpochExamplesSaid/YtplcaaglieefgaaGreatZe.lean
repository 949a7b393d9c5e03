/- Several texts in one: RaM HrM RbM HsM Wf GaM HpM GhM GcM HwM TpM KdM KeM Wg NaM KfM NbM KgM NcM KhM RcM KjM TlM JoM Pl Tr Ts Fx Mb Lb Tm Cv Tk Fy SecN Fd Kn Cp Al5 LawEx5. -/
import Derived.Test.YtplcaaglieefgaaGreatZc
import Derived.Test.YtplcaaglieefgaaGreatZd
set_option linter.unusedVariables false
set_option linter.unusedSimpArgs false
set_option maxRecDepth 100000
section
namespace Go.Sx
open Go Go.RowKit
noncomputable section
structure jC where
 Regions:BitVec 8
 Level:BitVec 8
 Price:Int
 View:Bool
deriving DecidableEq,Inhabited
def jC.cs (x:jC)  : List Value:=[bv x.Regions,bv x.Level,.int .i64 x.Price,.bool x.View]
theorem jC.cs_ones (x:jC)   : cZ (jC.cs x )=true:=by simp only[jC.cs,List.cons_append,List.nil_append,kb,cZ,eL,eN,eS,cond_true]
theorem jC.cs_inj {x y:jC}(h:jC.cs x=jC.cs y):x=y:=by
 have h0:x.Regions=y.Regions:=nF (congrArg (fun l=>l[0]?) h);have h1:x.Level=y.Level:=nF (congrArg (fun l=>l[1]?) h);have h2:x.Price=y.Price:=cF (congrArg (fun l=>l[2]?) h);have h3:x.View=y.View:=yO (congrArg (fun l=>l[3]?) h);cases x;cases y;simp only at *;subst h0;subst h1;subst h2;subst h3;rfl
theorem jC.ws (l:List jC):Ws 4 (l.map jC.cs):=fT l (fun _=>rfl) (fun _=>rfl)
structure jF where
 Receiver:Int
 Account:Int
 Region:BitVec 8
 Level:BitVec 8
 Home:Int
 Met:Int
 Dead:Bool
deriving DecidableEq,Inhabited
def jF.cs (x:jF)  : List Value:=[.int .i64 x.Receiver,.int .i64 x.Account,bv x.Region,bv x.Level,.int .i64 x.Home,.int .i64 x.Met,.bool x.Dead]
theorem jF.cs_ones (x:jF)   : cZ (jF.cs x )=true:=by simp only[jF.cs,List.cons_append,List.nil_append,kb,cZ,eL,eN,eS,cond_true]
theorem jF.cs_inj {x y:jF}(h:jF.cs x=jF.cs y):x=y:=by
 have h0:x.Receiver=y.Receiver:=cF (congrArg (fun l=>l[0]?) h);have h1:x.Account=y.Account:=cF (congrArg (fun l=>l[1]?) h);have h2:x.Region=y.Region:=nF (congrArg (fun l=>l[2]?) h);have h3:x.Level=y.Level:=nF (congrArg (fun l=>l[3]?) h);have h4:x.Home=y.Home:=cF (congrArg (fun l=>l[4]?) h);have h5:x.Met=y.Met:=cF (congrArg (fun l=>l[5]?) h);have h6:x.Dead=y.Dead:=yO (congrArg (fun l=>l[6]?) h);cases x;cases y;simp only at *;subst h0;subst h1;subst h2;subst h3;subst h4;subst h5;subst h6;rfl
theorem jF.ws (l:List jF):Ws 7 (l.map jF.cs):=fT l (fun _=>rfl) (fun _=>rfl)
structure jR where
 Account:Int
 Product:Int
 From:Int
 To:Int
deriving DecidableEq,Inhabited
def jR.cs (x:jR)  : List Value:=[.int .i64 x.Account,.int .i64 x.Product,.int .i64 x.From,.int .i64 x.To]
theorem jR.cs_ones (x:jR)   : cZ (jR.cs x )=true:=by simp only[jR.cs,List.cons_append,List.nil_append,kb,cZ,eL,eN,eS,cond_true]
theorem jR.cs_inj {x y:jR}(h:jR.cs x=jR.cs y):x=y:=by
 have h0:x.Account=y.Account:=cF (congrArg (fun l=>l[0]?) h);have h1:x.Product=y.Product:=cF (congrArg (fun l=>l[1]?) h);have h2:x.From=y.From:=cF (congrArg (fun l=>l[2]?) h);have h3:x.To=y.To:=cF (congrArg (fun l=>l[3]?) h);cases x;cases y;simp only at *;subst h0;subst h1;subst h2;subst h3;rfl
theorem jR.ws (l:List jR):Ws 4 (l.map jR.cs):=fT l (fun _=>rfl) (fun _=>rfl)
structure jM where
 Account:Int
 Product:Int
 Epoch:Int
 Price:Int
deriving DecidableEq,Inhabited
def jM.cs (x:jM)  : List Value:=[.int .i64 x.Account,.int .i64 x.Product,.int .i64 x.Epoch,.int .i64 x.Price]
theorem jM.cs_ones (x:jM)   : cZ (jM.cs x )=true:=by simp only[jM.cs,List.cons_append,List.nil_append,kb,cZ,eL,eN,eS,cond_true]
theorem jM.cs_inj {x y:jM}(h:jM.cs x=jM.cs y):x=y:=by
 have h0:x.Account=y.Account:=cF (congrArg (fun l=>l[0]?) h);have h1:x.Product=y.Product:=cF (congrArg (fun l=>l[1]?) h);have h2:x.Epoch=y.Epoch:=cF (congrArg (fun l=>l[2]?) h);have h3:x.Price=y.Price:=cF (congrArg (fun l=>l[3]?) h);cases x;cases y;simp only at *;subst h0;subst h1;subst h2;subst h3;rfl
theorem jM.ws (l:List jM):Ws 4 (l.map jM.cs):=fT l (fun _=>rfl) (fun _=>rfl)
structure jB where
 Account:Int
 Title:Int
 Until:Int
 Plays:Int
deriving DecidableEq,Inhabited
def jB.cs (x:jB)  : List Value:=[.int .i64 x.Account,.int .i64 x.Title,.int .i64 x.Until,.int .i64 x.Plays]
theorem jB.cs_ones (x:jB)   : cZ (jB.cs x )=true:=by simp only[jB.cs,List.cons_append,List.nil_append,kb,cZ,eL,eN,eS,cond_true]
theorem jB.cs_inj {x y:jB}(h:jB.cs x=jB.cs y):x=y:=by
 have h0:x.Account=y.Account:=cF (congrArg (fun l=>l[0]?) h);have h1:x.Title=y.Title:=cF (congrArg (fun l=>l[1]?) h);have h2:x.Until=y.Until:=cF (congrArg (fun l=>l[2]?) h);have h3:x.Plays=y.Plays:=cF (congrArg (fun l=>l[3]?) h);cases x;cases y;simp only at *;subst h0;subst h1;subst h2;subst h3;rfl
theorem jB.ws (l:List jB):Ws 4 (l.map jB.cs):=fT l (fun _=>rfl) (fun _=>rfl)
structure jS where
 a0:Int
 a1:Int
 a2:Int
 a3:Int
 a4:Int
 a5:Int
 a6:Int
 a7:Int
 a8:Int
 a9:Int
 a10:Int
 a11:Int
 a12:Int
 a13:Int
 a14:Int
 a15:Int
deriving DecidableEq,Inhabited
def jS.cs (x:jS)  : List Value:=[.int .i64 x.a0,.int .i64 x.a1,.int .i64 x.a2,.int .i64 x.a3,.int .i64 x.a4,.int .i64 x.a5,.int .i64 x.a6,.int .i64 x.a7,.int .i64 x.a8,.int .i64 x.a9,.int .i64 x.a10,.int .i64 x.a11,.int .i64 x.a12,.int .i64 x.a13,.int .i64 x.a14,.int .i64 x.a15]
theorem jS.cs_ones (x:jS)   : cZ (jS.cs x )=true:=by simp only[jS.cs,List.cons_append,List.nil_append,kb,cZ,eL,eN,eS,cond_true]
theorem jS.cs_inj {x y:jS}(h:jS.cs x=jS.cs y):x=y:=by
 have h0:x.a0=y.a0:=cF (congrArg (fun l=>l[0]?) h);have h1:x.a1=y.a1:=cF (congrArg (fun l=>l[1]?) h);have h2:x.a2=y.a2:=cF (congrArg (fun l=>l[2]?) h);have h3:x.a3=y.a3:=cF (congrArg (fun l=>l[3]?) h);have h4:x.a4=y.a4:=cF (congrArg (fun l=>l[4]?) h);have h5:x.a5=y.a5:=cF (congrArg (fun l=>l[5]?) h);have h6:x.a6=y.a6:=cF (congrArg (fun l=>l[6]?) h);have h7:x.a7=y.a7:=cF (congrArg (fun l=>l[7]?) h);have h8:x.a8=y.a8:=cF (congrArg (fun l=>l[8]?) h);have h9:x.a9=y.a9:=cF (congrArg (fun l=>l[9]?) h);have h10:x.a10=y.a10:=cF (congrArg (fun l=>l[10]?) h);have h11:x.a11=y.a11:=cF (congrArg (fun l=>l[11]?) h);have h12:x.a12=y.a12:=cF (congrArg (fun l=>l[12]?) h);have h13:x.a13=y.a13:=cF (congrArg (fun l=>l[13]?) h);have h14:x.a14=y.a14:=cF (congrArg (fun l=>l[14]?) h);have h15:x.a15=y.a15:=cF (congrArg (fun l=>l[15]?) h);cases x;cases y;simp only at *;subst h0;subst h1;subst h2;subst h3;subst h4;subst h5;subst h6;subst h7;subst h8;subst h9;subst h10;subst h11;subst h12;subst h13;subst h14;subst h15;rfl
theorem jS.ws (l:List jS):Ws 16 (l.map jS.cs):=fT l (fun _=>rfl) (fun _=>rfl)
structure qG where
 Products:List jC
 Cards:List jF
 Grants:List jR
 Sales:List jM
 Licences:List jB
 Credits:jS
deriving DecidableEq,Inhabited
def qG.cs (x:qG)(v0:Value)(v1:Value)(v2:Value)(v3:Value)(v4:Value):List Value:=[v0,v1,v2,v3,v4,.int .i64 x.Credits.a0,.int .i64 x.Credits.a1,.int .i64 x.Credits.a2,.int .i64 x.Credits.a3,.int .i64 x.Credits.a4,.int .i64 x.Credits.a5,.int .i64 x.Credits.a6,.int .i64 x.Credits.a7,.int .i64 x.Credits.a8,.int .i64 x.Credits.a9,.int .i64 x.Credits.a10,.int .i64 x.Credits.a11,.int .i64 x.Credits.a12,.int .i64 x.Credits.a13,.int .i64 x.Credits.a14,.int .i64 x.Credits.a15]
theorem qG.cs_ones (x:qG)(v0:Value)(v1:Value)(v2:Value)(v3:Value)(v4:Value)(h0:oneB v0=true)(h1:oneB v1=true)(h2:oneB v2=true)(h3:oneB v3=true)(h4:oneB v4=true):cZ (qG.cs x v0 v1 v2 v3 v4)=true:=by simp only[qG.cs,List.cons_append,List.nil_append,kb,cZ,eL,eN,eS,cond_true,h0,h1,h2,h3,h4]
structure tQ where
 Books:qG
deriving DecidableEq,Inhabited
def tQ.cs (x:tQ)(v0:Value)(v1:Value)(v2:Value)(v3:Value)(v4:Value):List Value:=[v0,v1,v2,v3,v4,.int .i64 x.Books.Credits.a0,.int .i64 x.Books.Credits.a1,.int .i64 x.Books.Credits.a2,.int .i64 x.Books.Credits.a3,.int .i64 x.Books.Credits.a4,.int .i64 x.Books.Credits.a5,.int .i64 x.Books.Credits.a6,.int .i64 x.Books.Credits.a7,.int .i64 x.Books.Credits.a8,.int .i64 x.Books.Credits.a9,.int .i64 x.Books.Credits.a10,.int .i64 x.Books.Credits.a11,.int .i64 x.Books.Credits.a12,.int .i64 x.Books.Credits.a13,.int .i64 x.Books.Credits.a14,.int .i64 x.Books.Credits.a15]
theorem tQ.cs_ones (x:tQ)(v0:Value)(v1:Value)(v2:Value)(v3:Value)(v4:Value)(h0:oneB v0=true)(h1:oneB v1=true)(h2:oneB v2=true)(h3:oneB v3=true)(h4:oneB v4=true):cZ (tQ.cs x v0 v1 v2 v3 v4)=true:=by simp only[tQ.cs,List.cons_append,List.nil_append,kb,cZ,eL,eN,eS,cond_true,h0,h1,h2,h3,h4]
end
end Go.Sx

end
section

end
section
namespace Go.Sx
open Go Go.RowKit
noncomputable section
structure kD where
 a0:Int
 a1:Int
 a2:Int
 a3:Int
deriving DecidableEq,Inhabited
def kD.cs (x:kD)  : List Value:=[.int .i64 x.a0,.int .i64 x.a1,.int .i64 x.a2,.int .i64 x.a3]
theorem kD.cs_ones (x:kD)   : cZ (kD.cs x )=true:=by simp only[kD.cs,List.cons_append,List.nil_append,kb,cZ,eL,eN,eS,cond_true]
theorem kD.cs_inj {x y:kD}(h:kD.cs x=kD.cs y):x=y:=by
 have h0:x.a0=y.a0:=cF (congrArg (fun l=>l[0]?) h);have h1:x.a1=y.a1:=cF (congrArg (fun l=>l[1]?) h);have h2:x.a2=y.a2:=cF (congrArg (fun l=>l[2]?) h);have h3:x.a3=y.a3:=cF (congrArg (fun l=>l[3]?) h);cases x;cases y;simp only at *;subst h0;subst h1;subst h2;subst h3;rfl
theorem kD.ws (l:List kD):Ws 4 (l.map kD.cs):=fT l (fun _=>rfl) (fun _=>rfl)
end
end Go.Sx

end
section

end
section
namespace Go.Sx
open Go
end Go.Sx

end
section
namespace Go.Sx
open Go Go.RowKit
noncomputable section
structure qT where
 a0:List Int
 a1:List Int
 a2:List Int
 a3:List Int
deriving DecidableEq,Inhabited
def qT.cs (x:qT)(v0:Value)(v1:Value)(v2:Value)(v3:Value):List Value:=[v0,v1,v2,v3]
theorem qT.cs_ones (x:qT)(v0:Value)(v1:Value)(v2:Value)(v3:Value)(h0:oneB v0=true)(h1:oneB v1=true)(h2:oneB v2=true)(h3:oneB v3=true):cZ (qT.cs x v0 v1 v2 v3)=true:=by simp only[qT.cs,List.cons_append,List.nil_append,kb,cZ,eL,eN,eS,cond_true,h0,h1,h2,h3]
structure sO where
 s:bY
 stride:Int
 rows:qT
 states:Int
deriving DecidableEq,Inhabited
def sO.cs (x:sO)(v0:Value)(v1:Value)(v2:Value)(v3:Value):List Value:=[bv x.s.Kind,.int .i64 x.s.Depth,.int .i64 x.s.Degree,wv x.s.Group.P,wv x.s.Group.Q,wv x.s.Group.G,.int .i64 x.stride,v0,v1,v2,v3,.int .i64 x.states]
theorem sO.cs_ones (x:sO)(v0:Value)(v1:Value)(v2:Value)(v3:Value)(h0:oneB v0=true)(h1:oneB v1=true)(h2:oneB v2=true)(h3:oneB v3=true):cZ (sO.cs x v0 v1 v2 v3)=true:=by simp only[sO.cs,List.cons_append,List.nil_append,kb,cZ,eL,eN,eS,cond_true,h0,h1,h2,h3]
end
end Go.Sx

end
section

end
section
namespace Go.Sx
open Go Go.RowKit
noncomputable section
end
end Go.Sx

end
section
namespace Go.Sx
open Go Go.RowKit
noncomputable section
structure kN where
 Depth:Int
 Revoked:Int
 Storage:Int
 Headers:Int
 HeaderPrice:Int
 StoragePrice:Int
 Group:eE
deriving DecidableEq,Inhabited
def kN.cs (x:kN)  : List Value:=[.int .i64 x.Depth,.int .i64 x.Revoked,.int .i64 x.Storage,.int .i64 x.Headers,.int .i64 x.HeaderPrice,.int .i64 x.StoragePrice,wv x.Group.P,wv x.Group.Q,wv x.Group.G]
theorem kN.cs_ones (x:kN)   : cZ (kN.cs x )=true:=by simp only[kN.cs,List.cons_append,List.nil_append,kb,cZ,eL,eN,eS,cond_true]
theorem kN.cs_inj {x y:kN}(h:kN.cs x=kN.cs y):x=y:=by
 have h0:x.Depth=y.Depth:=cF (congrArg (fun l=>l[0]?) h);have h1:x.Revoked=y.Revoked:=cF (congrArg (fun l=>l[1]?) h);have h2:x.Storage=y.Storage:=cF (congrArg (fun l=>l[2]?) h);have h3:x.Headers=y.Headers:=cF (congrArg (fun l=>l[3]?) h);have h4:x.HeaderPrice=y.HeaderPrice:=cF (congrArg (fun l=>l[4]?) h);have h5:x.StoragePrice=y.StoragePrice:=cF (congrArg (fun l=>l[5]?) h);have h6:x.Group=y.Group:=eE.cs_inj (congrArg (fun l=>(l.drop 6).take 3) h);cases x;cases y;simp only at *;subst h0;subst h1;subst h2;subst h3;subst h4;subst h5;subst h6;rfl
theorem kN.ws (l:List kN):Ws 9 (l.map kN.cs):=fT l (fun _=>rfl) (fun _=>rfl)
structure qN where
 Kind:BitVec 8
 Fits:Bool
 Items:Int
 Points:Int
 Header:Int
 Storage:Int
 Cost:Int
 Witness:List Int
deriving DecidableEq,Inhabited
def qN.cs (x:qN)(v0:Value):List Value:=[bv x.Kind,.bool x.Fits,.int .i64 x.Items,.int .i64 x.Points,.int .i64 x.Header,.int .i64 x.Storage,.int .i64 x.Cost,v0]
theorem qN.cs_ones (x:qN)(v0:Value)(h0:oneB v0=true):cZ (qN.cs x v0)=true:=by simp only[qN.cs,List.cons_append,List.nil_append,kb,cZ,eL,eN,eS,cond_true,h0]
structure sE where
 Choices:List qN
 Best:BitVec 8
deriving DecidableEq,Inhabited
def sE.cs (x:sE)(v0:Value):List Value:=[v0,bv x.Best]
theorem sE.cs_ones (x:sE)(v0:Value)(h0:oneB v0=true):cZ (sE.cs x v0)=true:=by simp only[sE.cs,List.cons_append,List.nil_append,kb,cZ,eL,eN,eS,cond_true,h0]
end
end Go.Sx

end
section

end
section
namespace Go.Sx
open Go Go.RowKit
noncomputable section
end
end Go.Sx

end
section

end
section

end
section
namespace Go.Sx
open Go
end Go.Sx

end
section
namespace Go.Sx
open Go Go.RowKit
noncomputable section
end
end Go.Sx

end
section

end
section
namespace Go.Sx
open Go Go.RowKit
noncomputable section
structure qL where
 Num:List (BitVec 32)
 Den:List (BitVec 32)
deriving DecidableEq,Inhabited
def qL.cs (x:qL)(v0:Value)(v1:Value):List Value:=[v0,v1]
theorem qL.cs_ones (x:qL)(v0:Value)(v1:Value)(h0:oneB v0=true)(h1:oneB v1=true):cZ (qL.cs x v0 v1)=true:=by simp only[qL.cs,List.cons_append,List.nil_append,kb,cZ,eL,eN,eS,cond_true,h0,h1]
structure qS where
 Users:Int
 Block:Int
 Key:W2
 Limit:qL
deriving DecidableEq,Inhabited
def qS.cs (x:qS)(v0:Value)(v1:Value):List Value:=[.int .i64 x.Users,.int .i64 x.Block]++(kb x.Key++([v0,v1]))
theorem qS.cs_ones (x:qS)(v0:Value)(v1:Value)(h0:oneB v0=true)(h1:oneB v1=true):cZ (qS.cs x v0 v1)=true:=by simp only[qS.cs,List.cons_append,List.nil_append,kb,cZ,eL,eN,eS,cond_true,h0,h1]
end
end Go.Sx

end
section

end
section
namespace Go.Sx
open Go Go.RowKit
noncomputable section
structure sI where
 Steps:qS
 at_:List Int
deriving DecidableEq,Inhabited
def sI.cs (x:sI)(v0:Value)(v1:Value)(v2:Value):List Value:=[.int .i64 x.Steps.Users,.int .i64 x.Steps.Block]++(kb x.Steps.Key++([v0,v1,v2]))
theorem sI.cs_ones (x:sI)(v0:Value)(v1:Value)(v2:Value)(h0:oneB v0=true)(h1:oneB v1=true)(h2:oneB v2=true):cZ (sI.cs x v0 v1 v2)=true:=by simp only[sI.cs,List.cons_append,List.nil_append,kb,cZ,eL,eN,eS,cond_true,h0,h1,h2]
structure sA where
 d:Int
 marked:List (List (BitVec 32))
 others:List (List (BitVec 32))
deriving DecidableEq,Inhabited
def sA.cs (x:sA)(v0:Value)(v1:Value):List Value:=[.int .i64 x.d,v0,v1]
theorem sA.cs_ones (x:sA)(v0:Value)(v1:Value)(h0:oneB v0=true)(h1:oneB v1=true):cZ (sA.cs x v0 v1)=true:=by simp only[sA.cs,List.cons_append,List.nil_append,kb,cZ,eL,eN,eS,cond_true,h0,h1]
end
end Go.Sx

end
section

end
section
namespace Go.Sx
open Go Go.RowKit
noncomputable section
structure kT where
 Kind:BitVec 8
 Receiver:Int
 Account:Int
 Item:Int
 From:Int
 To:Int
 Amount:Int
 Region:BitVec 8
 Level:BitVec 8
 View:Bool
deriving DecidableEq,Inhabited
def kT.cs (x:kT)  : List Value:=[bv x.Kind,.int .i64 x.Receiver,.int .i64 x.Account,.int .i64 x.Item,.int .i64 x.From,.int .i64 x.To,.int .i64 x.Amount,bv x.Region,bv x.Level,.bool x.View]
theorem kT.cs_ones (x:kT)   : cZ (kT.cs x )=true:=by simp only[kT.cs,List.cons_append,List.nil_append,kb,cZ,eL,eN,eS,cond_true]
theorem kT.cs_inj {x y:kT}(h:kT.cs x=kT.cs y):x=y:=by
 have h0:x.Kind=y.Kind:=nF (congrArg (fun l=>l[0]?) h);have h1:x.Receiver=y.Receiver:=cF (congrArg (fun l=>l[1]?) h);have h2:x.Account=y.Account:=cF (congrArg (fun l=>l[2]?) h);have h3:x.Item=y.Item:=cF (congrArg (fun l=>l[3]?) h);have h4:x.From=y.From:=cF (congrArg (fun l=>l[4]?) h);have h5:x.To=y.To:=cF (congrArg (fun l=>l[5]?) h);have h6:x.Amount=y.Amount:=cF (congrArg (fun l=>l[6]?) h);have h7:x.Region=y.Region:=nF (congrArg (fun l=>l[7]?) h);have h8:x.Level=y.Level:=nF (congrArg (fun l=>l[8]?) h);have h9:x.View=y.View:=yO (congrArg (fun l=>l[9]?) h);cases x;cases y;simp only at *;subst h0;subst h1;subst h2;subst h3;subst h4;subst h5;subst h6;subst h7;subst h8;subst h9;rfl
theorem kT.ws (l:List kT):Ws 10 (l.map kT.cs):=fT l (fun _=>rfl) (fun _=>rfl)
end
end Go.Sx

end
section

end
section
namespace Go.Sx
open Go Go.RowKit
noncomputable section
end
end Go.Sx

end
section

end
section
namespace Go.Sx
open Go
theorem Qq {n:Nat}(h:n<9223372036854775808):n<bA:=by unfold bA;omega
theorem nH {n:Int}(h0 : -9223372036854775808≤n)(h1:n≤9223372036854775807):aS n=n:=by
 have:=IntKind.wrap_i64 n;unfold aS;rw[this];omega
theorem dE {α β:Type}(a:α)(f:α→Option β):Option.bind (some a) f=f a:=rfl
theorem Nd {α:Type}{b:Nat}{l m:List α}(h:(l.length+m.length)*b≤140737488355328):gL b l m=some (l++m):=if_pos h
theorem Qr {α:Type}{l:List α}{i:Nat}(h:i<l.length):cL l (i:Int)=some l[i]:=by unfold cL;rw[if_pos (by omega)];simp[h]
def w8 (x:BitVec 64):List (BitVec 8):=[eB x 0,eB x 1,eB x 2,eB x 3,eB x 4,eB x 5,eB x 6,eB x 7]
end Go.Sx

end
section
namespace Go.Sx
open Go
theorem nV (n k:Nat)(h:2^k≤n):Nat.log2 n=Nat.log2 (n / 2^k)+k:=by
 induction k generalizing n with
 | zero=>simp
 | succ k ih=>
  have h2:2^k≤n / 2:=by rw[Nat.le_div_iff_mul_le (by omega)];rw[Nat.pow_succ] at h;omega
  have h1:2≤n:=by have:0<2^k:=Nat.two_pow_pos k;rw[Nat.pow_succ] at h;omega
  rw[Nat.log2_def,if_pos h1,ih (n / 2) h2,Nat.div_div_eq_div_mul,Nat.pow_succ,Nat.mul_comm 2];omega
theorem P5 {n:Nat}(h:2≤n):Nat.log2 n=Nat.log2 (n / 2)+1:=by rw[Nat.log2_def,if_pos h]
theorem Uo {m n:Nat}(h:m≤n):Nat.log2 m≤Nat.log2 n:=by
 rcases Nat.eq_zero_or_pos m with h0|h0
 · subst h0;rw[Nat.log2_zero];omega
 · exact(Nat.le_log2 (by omega)).2 (Nat.le_trans (Nat.log2_self_le (by omega)) h)
theorem Ps {n:Nat}(h:n<9223372036854775808):Nat.log2 n≤62:=by
 rcases Nat.eq_zero_or_pos n with h0|h0
 · subst h0;rw[Nat.log2_zero];omega
 · have:Nat.log2 n<63:=(Nat.log2_lt (by omega)).2 (by omega);omega
theorem Oz {n:Nat}(h:n<9223372036854775808):un (wd (n:Int))=(n:Int):=Jv _ (by omega) (by omega)
theorem Ul {n:Nat}(h:1≤n):lg (n:Int)=(Nat.log2 n:Int)+1:=by unfold lg;rw[Int.toNat_natCast,if_neg (by omega)]
theorem Xv {n:Nat}(h1:1≤n)(h:n<9223372036854775808):lM (n:Int)=some (Nat.log2 n:Int):=by
 have:=Ps h;unfold lM;rw[Oz h,Ul h1,nH (by omega) (by omega),Int.add_sub_cancel]
def lC (w v:Nat):Bool:=decide (Nat.log2 v≤Nat.log2 w∧w / 2^(Nat.log2 w-Nat.log2 v)=v)
theorem Jf (n k:Nat)(hk:k≤64):oL (n:Int) k=((n / 2^k:Nat):Int):=by
 unfold oL;rw[Nat.min_eq_left hk,Int.natCast_ediv,Int.natCast_pow];rfl
def mP (d:Nat):Nat:=if d≤1 then 1 else if d≤4 then 2 else 3
theorem Iu (d:Nat):1≤mP d:=by unfold mP;split;omega;split<;>omega
theorem lD {d:Nat}(h:d≤6):2^d≤64:=Nat.le_trans (Nat.pow_le_pow_right (by omega) h) (by decide)
theorem Ap {d:Nat}(h:d≤6):iP 1 d=((2^d:Nat):Int):=by
 have:=lD h;unfold iP;rw[Nat.min_eq_left (by omega),Int.one_mul,show(2:Int)^d=((2^d:Nat):Int) from by rw[Int.natCast_pow];rfl];generalize 2^d=m at *;exact nH (by omega) (by omega)
theorem Tg (n:Nat):fD (n:Int)=some n:=by unfold fD;rw[if_pos (by omega)];rfl
theorem Tj {k:BitVec 8}{d:Nat}{st:Int}(h:d≤6):rZ ⟨k,(d:Int),st⟩=some ((2^d:Nat):Int):=by
 unfold rZ;rw[Tg,dE,Ap h]
def oS (d v:Nat):Bool:=decide (Nat.log2 v%mP d=0)
theorem Ab (a b:Nat)(hb:1≤b):iW (a:Int) (b:Int)=some ((a%b:Nat):Int):=by
 unfold iW;rw[if_neg (by omega),Int.tmod_eq_emod_of_nonneg (by omega),Int.natCast_emod]
theorem Tn {k:BitVec 8}{d v:Nat}(hv:1≤v)(hv2:v<9223372036854775808):nC ⟨k,(d:Int),(mP d:Int)⟩ (v:Int)=some (oS d v):=by
 unfold nC oS;rw[Xv hv hv2,dE,Ab _ _ (Iu d),dE];congr 1;apply decide_eq_decide.2;omega
def kO (w:Nat):Nat→List Nat
 | 0=>[]
 | k+1=>w / 2^k::kO w k
theorem Ei {w k n:Nat}(hk:2^k≤w)(h:n∈kO w k):1≤n∧n≤w:=by
 induction k with
 | zero=>cases h
 | succ k ih=>
  have hk':2^k≤w:=by rw[Nat.pow_succ] at hk;omega
  rcases List.mem_cons.1 h with rfl|h
  · exact⟨(Nat.le_div_iff_mul_le (Nat.two_pow_pos k)).2 (by omega),Nat.div_le_self _ _⟩
  · exact ih hk' h
theorem Xw {w k:Nat}(hk:2^k≤w):Nat.log2 (w / 2^k)=Nat.log2 w-k:=by have:=nV w k hk;omega
theorem Yd {w k:Nat}(hk:2^k≤w):1≤w / 2^k:=(Nat.le_div_iff_mul_le (Nat.two_pow_pos k)).2 (by omega)
theorem Og {w k:Nat}(hk:2^(k+1)≤w)(hw:w<9223372036854775808):pZ ((w / 2^(k+1):Nat):Int) (w:Int)=some ((w / 2^k:Nat):Int):=by
 have hp:=Nat.two_pow_pos (k+1);have l1:=Ps hw;have hl:=nV w (k+1) hk;unfold pZ;rw[Xv (by omega) hw,dE,Xv (Yd hk) (Nat.lt_of_le_of_lt (Nat.div_le_self _ _) hw),dE,nH (n:=(Nat.log2 w:Int)-(Nat.log2 (w / 2^(k+1)):Int)) (by omega) (by omega),nH (by omega) (by omega)];rw[show(Nat.log2 w:Int)-(Nat.log2 (w / 2^(k+1)):Int)-1=((k:Nat):Int) from by omega,Tg,dE,Jf _ _ (by omega)]
theorem Dj {w:Nat}(hw:w<9223372036854775808):∀ (k f:Nat),k<f→2^k≤w→bP (qI (w:Int)) f ((w / 2^k:Nat):Int)=some ((kO w k).map Int.ofNat)
 | k,0,h,_=>by omega
 | 0,f+1,_,_=>by
  rw[rM];simp only[qI];rw[if_neg (by simp)];rfl
 | k+1,f+1,h,hk=>by
  rw[rM];simp only[qI];have h1:w / 2^(k+1)<w:=Nat.div_lt_self (by have:=Nat.two_pow_pos (k+1);omega) (Nat.one_lt_two_pow (by omega));rw[if_pos (by omega),Og hk hw,dE,Dj hw k f (by omega) (by rw[Nat.pow_succ] at hk;omega)];rfl
theorem Ek {w k:Nat}(hw:w<9223372036854775808)(hk:2^k≤w)(hk2:k≤64):tD ((w / 2^k:Nat):Int) (w:Int)=some ((kO w k).map Int.ofNat):=Dj hw k bA (Qq (by omega)) hk
theorem Sn {w j k:Nat}(hk:2^k≤w)(hj:j<k):w / 2^j≠w / 2^k:=fun e=>by
 have h1:=Xw hk;have h2:=Xw (w:=w) (k:=j) (Nat.le_trans (Nat.pow_le_pow_right (by omega) (by omega)) hk);have h3:=nV w k hk;rw[e] at h2;omega
end Go.Sx

end
section
namespace Go.Sx
open Go
def zG:eE:=eE.mk 0#64 0#64 0#64
def kY (s:bY):Bool:=decide (1#8≤s.Kind∧s.Kind≤3#8∧0≤s.Depth∧s.Depth≤6∧s.Degree=0∧s.Group=zG)
theorem Gg {s:bY}(h:kY s=true):∃ d:Nat,s.Depth=(d:Int)∧d≤6:=by
 unfold kY at h;have:=of_decide_eq_true h;exact⟨s.Depth.toNat,by omega,by omega⟩
theorem Jt (s:bY)(n:Nat)(a:Int):bP (qO s) (n+1) a=if aS (a*a)<s.Depth then bP (qO s) n (aS (a+1)) else some (bL.mk s.Kind s.Depth a,true):=rfl
theorem Oi (s:bY){d:Nat}(hd:s.Depth=(d:Int))(h:d≤6):bP (qO s) bA 1=some (bL.mk s.Kind (d:Int) (mP d:Int),true):=by
 have e1:aS (1*1)=1:=by decide
 have e2:aS (1+1)=2:=by decide
 have e3:aS (2*2)=4:=by decide
 have e4:aS (2+1)=3:=by decide
 have e5:aS (3*3)=9:=by decide
 rw[show bA=18446744073709551613+3 from rfl,Jt,e1,e2,hd];unfold mP;by_cases h1:d≤1
 · rw[if_neg (by omega),if_pos h1,←hd];rfl
 · rw[if_pos (by omega),if_neg h1,show 18446744073709551613+2=18446744073709551614+1 from rfl,Jt,e3,e4,hd];by_cases h2:d≤4
   · rw[if_neg (by omega),if_pos h2,←hd];rfl
   · rw[if_pos (by omega),if_neg h2,show 18446744073709551614=18446744073709551613+1 from rfl,Jt,e5,hd,if_neg (by omega),←hd];rfl
def fE (s:bY):bL:=bL.mk s.Kind s.Depth (mP s.Depth.toNat:Int)
theorem Oh (s:bY):tT s=some (if kY s then(fE s,true) else(bL.mk 0#8 0 0,false)):=by
 unfold tT pJ;by_cases hv:kY s=true
 · rw[if_pos hv];obtain⟨d,hd,h6⟩:=Gg hv;unfold kY at hv;obtain⟨h1,h2,h3,h4,h5,h7⟩:=of_decide_eq_true hv;have hs:s=bY.mk s.Kind s.Depth 0 (eE.mk 0#64 0#64 0#64):=by cases s;simp only at *;rw[h5,h7];rfl
   rw[if_neg (by rw[BitVec.not_lt];exact h1),if_neg (by rw[BitVec.not_lt];exact h2),if_neg (by omega),if_neg (by omega),decide_eq_false (by simpa using hs)];simp only[cond_false];rw[Oi s hd h6];unfold fE;rw[hd,Int.toNat_natCast]
 · rw[if_neg hv];have hn:¬ (1#8≤s.Kind∧s.Kind≤3#8∧0≤s.Depth∧s.Depth≤6∧s.Degree=0∧s.Group=zG):=fun h=>hv (by unfold kY;exact decide_eq_true h);by_cases h1:s.Kind<1#8
   · rw[if_pos h1];rfl
   · rw[if_neg h1];by_cases h2:3#8<s.Kind
     · rw[if_pos h2];rfl
     · rw[if_neg h2];by_cases h3:s.Depth<0
       · rw[if_pos h3];rfl
       · rw[if_neg h3];by_cases h4:(6:Int)<s.Depth
         · rw[if_pos h4];rfl
         · rw[if_neg h4,decide_eq_true (p:=s≠_)]
           · rfl
           · intro hs;refine hn ⟨BitVec.not_lt.1 h1,BitVec.not_lt.1 h2,by omega,by omega,?_,?_⟩
             · rw[hs]
             · rw[hs];rfl
def oQ (d:Nat)(l:List Nat):Nat:=(l.find? (oS d)).getD 0
theorem Hn {k:BitVec 8}{d:Nat}:∀ (l:List Nat),(∀ n∈l,1≤n∧n<9223372036854775808)→
 fS (tH ⟨k,(d:Int),(mP d:Int)⟩) vE (l.map Int.ofNat) 0=some ((oQ d l:Nat):Int)
 | [],_=>rfl
 | a::l,h=>by
  rw[List.map_cons,xW];simp only[tH];have ha:=h a (by simp);rw[show(Int.ofNat a)=(a:Int) from rfl,Tn ha.1 ha.2,dE];unfold oQ;rw[List.find?_cons]
  cases hs:oS d a with
  | true=>rfl
  | false=>exact Hn l (fun n hn=>h n (by simp[hn]))
theorem Mc {m k:Nat}(h:2^(k+1)≤m):2^k≤m / 2:=by rw[Nat.le_div_iff_mul_le (by omega)];rw[Nat.pow_succ] at h;omega
theorem Sa {kd:BitVec 8}{d m k:Nat}(hm:m<128)(hk:2^(k+1)≤m)(hk2:k≤60):pK ⟨kd,(d:Int),(mP d:Int)⟩ ((m / 2^(k+1):Nat):Int) (m:Int)=some ((oQ d (kO (m / 2) k):Nat):Int):=by
 unfold pK tP zD;rw[show fD (un 1#64)=some 1 from by decide,dE,dE,Jf _ _ (by omega),Nat.pow_one];simp only;have e:m / 2^(k+1)=m / 2 / 2^k:=by rw[Nat.div_div_eq_div_mul,Nat.pow_succ,Nat.mul_comm 2]
 have hp:=Mc hk;rw[e,Ek (by omega) hp (by omega),dE,Hn _ (fun n hn=>by have:=Ei hp hn;omega),dE]
end Go.Sx

end
section
namespace Go.Sx
open Go
theorem Ho {α σ τ R:Type}(l:List α)(F:(τ→Option R)→τ→Option R)(pk:Nat→σ→τ)(B:α→(σ→Option R)→σ→Option R)(D:σ→Option R)
 (h1:∀ rec (j:Nat) (hj:j<l.length) s,F rec (pk j s)=B l[j] (fun s'=>rec (pk (j+1) s')) s) (h2:∀ rec s,F rec (pk l.length s)=D s):
 ∀ (m j f:Nat) (s:σ),j+m=l.length→m<f→bP F f (pk j s)=fS B D (l.drop j) s
 | m,j,0,s,_,h=>by omega
 | 0,j,f+1,s,hj,_=>by
  have:j=l.length:=by omega
  subst this;rw[rM,h2,List.drop_length];rfl
 | m+1,j,f+1,s,hj,hf=>by
  have hjl:j<l.length:=by omega
  rw[rM,h1 _ j hjl,List.drop_eq_getElem_cons hjl,xW];have:(fun s'=>bP F f (pk (j+1) s'))=fS B D (l.drop (j+1)):=funext fun s'=>Ho l F pk B D h1 h2 m (j+1) f s' (by omega) (by omega);rw[this]
theorem Hp {α σ τ R:Type}(l:List α)(F:(τ→Option R)→τ→Option R)(pk:Nat→σ→τ)(B:α→(σ→Option R)→σ→Option R)(D:σ→Option R)
 (h1:∀ rec (j:Nat) (hj:j<l.length) s,F rec (pk j s)=B l[j] (fun s'=>rec (pk (j+1) s')) s) (h2:∀ rec s,F rec (pk l.length s)=D s) {f:Nat} (hf:l.length<f) (s:σ):bP F f (pk 0 s)=fS B D l s:=by
 have:=Ho l F pk B D h1 h2 l.length 0 f s (by omega) hf;rwa[List.drop_zero] at this
theorem Cx {σ τ R:Type}(n:Nat)(F:(τ→Option R)→τ→Option R)(pk:Nat→σ→τ)(B:Nat→(σ→Option R)→σ→Option R)(D:σ→Option R)
 (h1:∀ rec (j:Nat) (hj:j<n) s,F rec (pk j s)=B j (fun s'=>rec (pk (j+1) s')) s) (h2:∀ rec s,F rec (pk n s)=D s) {f:Nat} (hf:n<f) (s:σ):bP F f (pk 0 s)=fS B D (List.range n) s:=
 Hp (List.range n) F pk B D (fun rec j hj s=>by rw[List.length_range] at hj;rw[h1 rec j hj,List.getElem_range]) (fun rec s=>by rw[List.length_range];exact h2 rec s) (by rw[List.length_range];exact hf) s
theorem Hz {α σ R:Type}(g:σ→α→σ)(F:α→(σ→Option R)→σ→Option R)(d:σ→Option R)(I:Nat→σ→Prop):∀ (l:List α) (k:Nat) (s:σ),(∀ j (a:α) s nx,a∈l→I j s→F a nx s=nx (g s a))→(∀ j (a:α) s,a∈l→I j s→I (j+1) (g s a))→I k s→fS F d l s=d (l.foldl g s)
 | [],k,s,_,_,_=>rfl
 | a::l,k,s,h,hi,hs=>by
  rw[xW,h k a s _ (by simp) hs,List.foldl_cons];exact Hz g F d I l (k+1) (g s a) (fun j b s nx hb=>h j b s nx (by simp[hb])) (fun j b s hb=>hi j b s (by simp[hb])) (hi k a s (by simp) hs)
theorem Gs {n:Nat}(h:n<9223372036854775807):aS ((n:Int)+1)=((n+1:Nat):Int):=by rw[nH (by omega) (by omega)];omega
end Go.Sx

end
section
namespace Go.Sx
open Go
theorem Ug {k:BitVec 8}{d u:Nat}{st:Int}(h:d≤6)(hu:u<128):rQ ⟨k,(d:Int),st⟩ (u:Int)=some ((2^d+u:Nat):Int):=by
 have:=lD h;unfold rQ;rw[Tj h,dE];generalize 2^d=m at *;rw[nH (by omega) (by omega)];congr 1
theorem Bb (s:bY):pQ s ([]:List bT)=some (if kY s then(fE s,0) else(bL.mk 0#8 0 0,30)):=by
 unfold pQ;rw[Oh,dE]
 cases hv:kY s with
 | false=>rfl
 | true=>rfl
end Go.Sx

end
section
namespace Go.Sx
open Go
def sS (k:BitVec 8)(d v w:Nat):Bool:=decide (k=2#8)||oS d v||decide (oQ d (kO (w / 2) (Nat.log2 w-Nat.log2 v-1))=0)
theorem Mq {k:BitVec 8}(h1:1#8≤k)(h3:k≤3#8):k=1#8∨k=2#8∨k=3#8:=by
 have a:1≤k.toNat:=h1;have b:k.toNat≤3:=h3;rcases(show k.toNat=1∨k.toNat=2∨k.toNat=3 by omega) with h|h|h
 · exact .inl (BitVec.eq_of_toNat_eq h)
 · exact .inr (.inl (BitVec.eq_of_toNat_eq h))
 · exact .inr (.inr (BitVec.eq_of_toNat_eq h))
theorem Qa0 {s:bY}(h:kY s=true):1#8≤s.Kind∧s.Kind≤3#8:=by
 unfold kY at h;have:=of_decide_eq_true h;exact⟨this.1,this.2.1⟩
end Go.Sx

end
section
namespace Go.Sx
open Go
theorem nT {w v:Nat}(hw:1≤w):lC w v=true↔∃ k,2^k≤w∧v=w / 2^k:=by
 constructor
 · intro h;unfold lC at h;obtain⟨h1,h2⟩:=of_decide_eq_true h;exact⟨_,Nat.le_trans (Nat.pow_le_pow_right (by omega) (by omega)) (Nat.log2_self_le (by omega)),h2.symm⟩
 · rintro⟨k,h1,rfl⟩;unfold lC;have h2:=Xw h1;have h3:=nV w k h1;apply decide_eq_true;refine⟨by omega,?_⟩;rw[h2,show Nat.log2 w-(Nat.log2 w-k)=k from by omega]
theorem Nm {w v:Nat}(hw:1≤w)(h:lC w v=true):1≤v:=by
 obtain⟨k,h1,rfl⟩:=(nT hw).1 h;exact Yd h1
theorem Dn {w i j:Nat}(h:2^(i+j)≤w):2^j≤w / 2^i:=by
 rw[Nat.le_div_iff_mul_le (Nat.two_pow_pos i),←Nat.pow_add,Nat.add_comm];exact h
theorem Zv {w i j:Nat}(h:2^j≤w / 2^i):2^(i+j)≤w:=by
 rw[Nat.le_div_iff_mul_le (Nat.two_pow_pos i),←Nat.pow_add,Nat.add_comm] at h;exact h
theorem Nl {w v:Nat}(hw:1≤w)(h:lC w v=true):Nat.log2 v≤Nat.log2 w:=by
 unfold lC at h;exact(of_decide_eq_true h).1
theorem xA:∀ n:Fin 128,(n.1 ^^^ 1) / 2=n.1 / 2∧n.1 ^^^ 1≠n.1∧n.1 ^^^ 1<128∧(2≤n.1→Nat.log2 (n.1 ^^^ 1)=Nat.log2 n.1∧2≤n.1 ^^^ 1)∧n.1 ^^^ 1 ^^^ 1=n.1:=by decide +kernel
theorem Aq {n:Nat}(h:n<128):(n ^^^ 1) / 2=n / 2:=(xA ⟨n,h⟩).1
theorem Au {n:Nat}(h:n<128):n ^^^ 1<128:=(xA ⟨n,h⟩).2.2.1
theorem Ar {n:Nat}(h:n<128)(h2:2≤n):Nat.log2 (n ^^^ 1)=Nat.log2 n:=((xA ⟨n,h⟩).2.2.2.1 h2).1
theorem Ti {n:Nat}(h:n<128)(h2:2≤n):2≤n ^^^ 1:=((xA ⟨n,h⟩).2.2.2.1 h2).2
theorem Th {n:Nat}(h:n<128):n ^^^ 1 ^^^ 1=n:=(xA ⟨n,h⟩).2.2.2.2
theorem Np {n:Nat}(h:n<128):yS .xor (n:Int) 1=((n ^^^ 1:Nat):Int):=by
 have:∀ n:Fin 128,yS .xor (n.1:Int) 1=((n.1 ^^^ 1:Nat):Int):=by decide +kernel
 exact this ⟨n,h⟩
theorem Ej {w k n:Nat}:n∈kO w k↔∃ j,j<k∧n=w / 2^j:=by
 induction k with
 | zero=>simp[kO]
 | succ k ih=>
  rw[kO,List.mem_cons,ih];constructor
  · rintro(rfl|⟨j,hj,rfl⟩)
    · exact⟨k,by omega,rfl⟩
    · exact⟨j,by omega,rfl⟩
  · rintro⟨j,hj,rfl⟩;rcases Nat.lt_or_ge j k with h|h
    · exact .inr ⟨j,h,rfl⟩
    · obtain rfl:j=k:=by omega
      exact .inl rfl
theorem Uh {d u:Nat}(hu:u<2^d):Nat.log2 (2^d+u)=d:=by
 rw[Nat.log2_eq_iff (by have:=Nat.two_pow_pos d;omega),Nat.pow_succ];omega
theorem Da {d n:Nat}(h1:1≤n)(h:n<2^(d+1)):Nat.log2 n≤d:=by
 have:=(Nat.log2_lt (n:=n) (k:=d+1) (by omega)).2 h;omega
end Go.Sx

end
section
namespace Go.Sx
open Go
def dW (d:Nat)(R:List Nat)(v:Nat):Bool:=R.any fun u=>lC (2^d+u) v
theorem pF {d:Nat}{R:List Nat}{v:Nat}:dW d R v=true↔∃ u∈R,lC (2^d+u) v=true:=by unfold dW;rw[List.any_eq_true]
theorem Vy:∀ n:Fin 64,(2*n.1) ^^^ 1=2*n.1+1∧(2*n.1+1) ^^^ 1=2*n.1:=by decide +kernel
theorem Vw {n:Nat}(h:n<64):(2*n) ^^^ 1=2*n+1:=(Vy ⟨n,h⟩).1
theorem Vx {n:Nat}(h:n<64):(2*n+1) ^^^ 1=2*n:=(Vy ⟨n,h⟩).2
theorem tB (a b:Nat):a / 2^(b+1)=a / 2^b / 2:=by rw[Nat.pow_succ,Nat.div_div_eq_div_mul]
theorem Kv {L v:Nat}(hL:1≤L)(eD:Nat.log2 v<Nat.log2 L)(hv:1≤v):lC L v=(lC L (2*v)||lC L (2*v+1)):=by
 rw[Bool.eq_iff_iff,Bool.or_eq_true,nT hL,nT hL,nT hL];constructor
 · rintro⟨k,h1,h2⟩;have hl:=nV L k h1;rw[←h2] at hl;obtain⟨j,rfl⟩:∃ j,k=j+1:=⟨k-1,by omega⟩;have h3:2^j≤L:=Nat.le_trans (Nat.pow_le_pow_right (by omega) (by omega)) h1;rw[tB] at h2;rcases(show L / 2^j=2*v∨L / 2^j=2*v+1 by omega) with e|e
   · exact .inl ⟨j,h3,e.symm⟩
   · exact .inr ⟨j,h3,e.symm⟩
 · rintro(⟨j,h1,h2⟩|⟨j,h1,h2⟩)
   · exact⟨j+1,Zv (j:=1) (by rw[←h2];omega),by rw[tB,←h2];omega⟩
   · exact⟨j+1,Zv (j:=1) (by rw[←h2];omega),by rw[tB,←h2];omega⟩
theorem uS {v b:Nat}(hv:1≤v)(hb:b<2):Nat.log2 (2*v+b)=Nat.log2 v+1:=by
 rw[P5 (by omega),show(2*v+b) / 2=v from by omega]
section
variable {d:Nat} {R:List Nat}
def lX (d:Nat)(R:List Nat):Prop:=d≤6∧∀ u∈R,u<2^d
theorem lX.leaf (h:lX d R){u:Nat}(hu:u∈R):1≤2^d+u∧2^d+u<128∧Nat.log2 (2^d+u)=d:=by
 have:=lD h.1;have:=h.2 u hu;have:=Nat.two_pow_pos d;exact⟨by omega,by omega,Uh (h.2 u hu)⟩
theorem Uw {v:Nat}(hv:1≤v):v<2^d↔Nat.log2 v<d:=by rw[Nat.log2_lt (by omega)]
theorem Qu (h:lX d R){v:Nat}(hv:1≤v)(hl:Nat.log2 v<d):dW d R v=(dW d R (2*v)||dW d R (2*v+1)):=by
 rw[Bool.eq_iff_iff,Bool.or_eq_true,pF,pF,pF];constructor
 · rintro⟨u,hu,hb⟩;obtain⟨h1,h2,h3⟩:=h.leaf hu;rw[Kv h1 (by omega) hv,Bool.or_eq_true] at hb;rcases hb with hb|hb
   · exact .inl ⟨u,hu,hb⟩
   · exact .inr ⟨u,hu,hb⟩
 · rintro(⟨u,hu,hb⟩|⟨u,hu,hb⟩) <;>
   · obtain⟨h1,h2,h3⟩:=h.leaf hu;refine⟨u,hu,?_⟩;rw[Kv h1 (by omega) hv,hb];simp
theorem rE (h:lX d R){v:Nat}(hv:dW d R v=true):1≤v∧Nat.log2 v≤d∧v<2^(d+1):=by
 obtain⟨u,hu,hb⟩:=pF.1 hv;obtain⟨h1,h2,h3⟩:=h.leaf hu;have hp:=Nm h1 hb;have hl:=Nl h1 hb;rw[h3] at hl;exact⟨hp,hl,(Nat.log2_lt (by omega)).1 (by omega)⟩
theorem Hv (h:lX d R){v:Nat}(hv:dW d R v=true)(h2:2≤v):dW d R (v / 2)=true:=by
 obtain⟨h1,hl,_⟩:=rE h hv;have hh:=P5 h2;rw[Qu h (by omega) (by omega)];rcases(show 2*(v / 2)=v∨2*(v / 2)+1=v by omega) with e|e
 · rw[e,hv];simp
 · rw[e,hv];simp
theorem Hw (h:lX d R){v:Nat}(hv:dW d R v=true):∀ k,2^k≤v→dW d R (v / 2^k)=true
 | 0,_=>by simpa using hv
 | k+1,hk=>by
  rw[tB];have h1:2^k≤v:=Nat.le_trans (Nat.pow_le_pow_right (by omega) (by omega)) hk;refine Hv h (Hw h hv k h1) ?_;have:=Dn (i:=k) (j:=1) hk;simpa using this
def nN (d:Nat)(R:List Nat)(v:Nat):Bool:=dW d R (2*v) != dW d R (2*v+1)
def jD (d:Nat)(R:List Nat)(v:Nat):Nat:=if dW d R (2*v) then 2*v else 2*v+1
def eM (d:Nat)(R:List Nat):Nat→Nat→Nat
 | 0,v=>v
 | f+1,v=>if nN d R v then eM d R f (jD d R v) else v
theorem Kx (h:lX d R){v:Nat}(hv:1≤v)(hb:nN d R v=true):Nat.log2 v<d∧dW d R v=true:=by
 unfold nN at hb
 have hx:dW d R (2*v)=true∨dW d R (2*v+1)=true:=by
  cases h1:dW d R (2*v)<;>cases h2:dW d R (2*v+1)<;>simp_all
 have hl:Nat.log2 v<d:=by
  rcases hx with hx|hx
  · have:=(rE h hx).2.1;have:=uS hv (b:=0) (by omega);simp at this;omega
  · have:=(rE h hx).2.1;have:=uS hv (b:=1) (by omega);omega
 refine⟨hl,?_⟩;rw[Qu h hv hl];rcases hx with hx|hx<;>simp[hx]
def Gy (d:Nat)(R:List Nat)(v w:Nat):Prop:=∃ k,2^k≤w∧v=w / 2^k∧∀ j,j<k→dW d R (w / 2^j)=true∧dW d R ((w / 2^j) ^^^ 1)=false
theorem H8 (h:lX d R):∀ (f v:Nat),1≤v→Nat.log2 v≤d→d-Nat.log2 v<f→1≤eM d R f v∧Nat.log2 (eM d R f v)≤d∧nN d R (eM d R f v)=false∧Gy d R v (eM d R f v)
 | 0,v,_,_,hf=>by omega
 | f+1,v,hv,hl,hf=>by
  unfold eM
  cases hb:nN d R v with
  | false=>exact⟨by simpa using hv,by simpa using hl,by simpa using hb,⟨0,by simpa using hv,by simp,fun j hj=>by omega⟩⟩
  | true=>
   rw[if_pos rfl];obtain⟨hl2,_⟩:=Kx h hv hb;have h64:=lD h.1;have hv64:v<64:=by have:=(Uw (d:=d) hv).2 hl2;omega
   have hc:(jD d R v) / 2=v∧2≤jD d R v∧Nat.log2 (jD d R v)=Nat.log2 v+1∧dW d R (jD d R v)=true∧dW d R (jD d R v ^^^ 1)=false:=by
    unfold jD;unfold nN at hb
    cases h1:dW d R (2*v) with
    | true=>
     rw[h1] at hb;rw[if_pos rfl];refine⟨by omega,by omega,uS hv (b:=0) (by omega),h1,?_⟩;rw[Vw hv64];simpa using hb
    | false=>
     rw[h1] at hb;rw[if_neg (by simp)];refine⟨by omega,by omega,uS hv (b:=1) (by omega),by simpa using hb,?_⟩;rw[Vx hv64];exact h1
   obtain⟨c1,c2,c3,c4,c5⟩:=hc;obtain⟨g1,g2,g3,k,g4,g5,g6⟩:=H8 h f (jD d R v) (by omega) (by omega) (by omega);refine⟨g1,g2,g3,k+1,?_,?_,?_⟩
   · exact Zv (j:=1) (by rw[←g5];omega)
   · rw[tB,←g5];exact c1.symm
   · intro j hj;rcases Nat.lt_or_ge j k with hjk|hjk
     · exact g6 j hjk
     · obtain rfl:j=k:=by omega
       rw[←g5];exact⟨c4,c5⟩
def gQ (d:Nat)(R:List Nat):Nat→Nat→Nat
 | 0,x=>x
 | f+1,x=>if x=1∨dW d R (x ^^^ 1)=true then x else gQ d R f (x / 2)
def kR (d:Nat)(R:List Nat)(v:Nat):Bool:=decide (v=1)||dW d R (v ^^^ 1)
theorem Ht {f x:Nat}(h:kR d R x=true):gQ d R f x=x:=by
 cases f with
 | zero=>rfl
 | succ f=>
  unfold gQ;unfold kR at h;rw[Bool.or_eq_true,decide_eq_true_eq] at h;rw[if_pos h]
theorem Hs {v w:Nat}(hv:kR d R v=true)(hv1:1≤v):∀ (j k f:Nat),2^(j+k)≤w→v=w / 2^(j+k)→(∀ i,j≤i→i<j+k→dW d R ((w / 2^i) ^^^ 1)=false)→k≤f→gQ d R f (w / 2^j)=v
 | j,0,f,h1,h2,_,_=>by rw[Nat.add_zero] at h2;rw[←h2];exact Ht hv
 | j,k+1,0,h1,h2,h3,hf=>by omega
 | j,k+1,f+1,h1,h2,h3,hf=>by
  unfold gQ;have h4:=h3 j (by omega) (by omega)
  have h5:w / 2^j≠1:=by
   have:=Dn (w:=w) (i:=j) (j:=1) (Nat.le_trans (Nat.pow_le_pow_right (by omega) (by omega)) h1);simp at this;omega
  rw[if_neg (by rw[h4];simp[h5]),←tB];exact Hs hv hv1 (j+1) k f (by rw[show j+1+k=j+(k+1) from by omega];exact h1) (by rw[show j+1+k=j+(k+1) from by omega];exact h2) (fun i h6 h7=>h3 i (by omega) (by omega)) (by omega)
theorem Qs:∀ (f x:Nat),1≤x→Nat.log2 x<f→kR d R (gQ d R f x)=true∧∃ i,2^i≤x∧gQ d R f x=x / 2^i∧∀ t,t<i→kR d R (x / 2^t)=false
 | 0,x,_,h=>by omega
 | f+1,x,hx,hf=>by
  unfold gQ;by_cases hc:x=1∨dW d R (x ^^^ 1)=true
  · rw[if_pos hc];exact⟨by unfold kR;simpa using hc,0,by simpa using hx,by simp,fun t ht=>by omega⟩
  · rw[if_neg hc];have hx2:2≤x:=by rw[not_or] at hc;omega
    have hh:=P5 hx2;obtain⟨h1,i,h2,h3,h4⟩:=Qs f (x / 2) (by omega) (by omega);refine⟨h1,i+1,?_,?_,?_⟩
    · rw[Nat.pow_succ];omega
    · rw[h3,Nat.div_div_eq_div_mul,Nat.pow_succ,Nat.mul_comm 2]
    · intro t ht
      cases t with
      | zero=>simp only[Nat.pow_zero,Nat.div_one];unfold kR;simpa[not_or] using hc
      | succ t=>
       have:=h4 t (by omega);rw[Nat.div_div_eq_div_mul,show 2*2^t=2^(t+1) from by rw[Nat.pow_succ,Nat.mul_comm]] at this;exact this
def iZ (d v w:Nat):Nat:=oQ d (kO (w / 2) (Nat.log2 w-Nat.log2 v-1))
def xN (k:BitVec 8)(d:Nat)(R:List Nat)(x:Nat):Option Nat:=
 if k=1#8 then(if !dW d R x&&(decide (x=1)||dW d R (x / 2)) then some 0 else none)
 else if dW d R x then
  (if eM d R 7 (gQ d R 7 x)=gQ d R 7 x then none
  else if x=gQ d R 7 x then some (if sS k d (gQ d R 7 x) (eM d R 7 (gQ d R 7 x)) then eM d R 7 (gQ d R 7 x) else iZ d (gQ d R 7 x) (eM d R 7 (gQ d R 7 x)))
  else if !sS k d (gQ d R 7 x) (eM d R 7 (gQ d R 7 x))&&decide (x=iZ d (gQ d R 7 x) (eM d R 7 (gQ d R 7 x))) then some (eM d R 7 (gQ d R 7 x)) else none)
 else none
def uF (d:Nat):List Nat:=(List.range (2^(d+1)-1)).map (· + 1)
def gK (k:BitVec 8)(d:Nat)(R:List Nat):List (Nat × Nat):=(uF d).filterMap fun x=>(xN k d R x).map fun m=>(x,m)
theorem Pz {x:Nat}:x∈uF d↔1≤x∧x<2^(d+1):=by
 unfold uF;rw[List.mem_map];constructor
 · rintro⟨a,ha,rfl⟩;have:=List.mem_range.1 ha;omega
 · rintro⟨h1,h2⟩;exact⟨x-1,List.mem_range.2 (by omega),by omega⟩
theorem C9 {k:BitVec 8}{y:Nat × Nat}:y∈gK k d R↔(1≤y.1∧y.1<2^(d+1))∧xN k d R y.1=some y.2:=by
 unfold gK;rw[List.mem_filterMap];constructor
 · rintro⟨x,hx,he⟩;obtain⟨m,hm,rfl⟩:=Option.map_eq_some_iff.1 he;exact⟨Pz.1 hx,hm⟩
 · rintro⟨h1,h2⟩;exact⟨y.1,Pz.2 h1,by rw[h2];rfl⟩
def vD (l:List (Nat × Nat)):Prop:=l.Pairwise fun a b=>a.1<b.1
theorem Vm {k:BitVec 8}:vD (gK k d R):=by
 unfold vD gK;rw[List.pairwise_filterMap]
 have:(uF d).Pairwise fun a b=>a<b:=by
  unfold uF;rw[List.pairwise_map];exact List.pairwise_lt_range.imp (by omega)
 refine this.imp ?_;intro a b hab y hy z hz;obtain⟨_,_,rfl⟩:=Option.map_eq_some_iff.1 hy;obtain⟨_,_,rfl⟩:=Option.map_eq_some_iff.1 hz;exact hab
theorem Kt:∀ {l m:List (Nat × Nat)},vD l→vD m→(∀ y,y∈l↔y∈m)→l=m
 | [],[],_,_,_=>rfl
 | [],b::m,_,_,h=>absurd ((h b).2 (by simp)) (by simp)
 | a::l,[],_,_,h=>absurd ((h a).1 (by simp)) (by simp)
 | a::l,b::m,hl,hm,h=>by
  have ha:=List.pairwise_cons.1 hl;have hb:=List.pairwise_cons.1 hm
  have hab:a=b:=by
   rcases List.mem_cons.1 ((h a).1 (by simp)) with e|e
   · exact e
   · rcases List.mem_cons.1 ((h b).2 (by simp)) with e2|e2
     · exact e2.symm
     · have:=ha.1 b e2;have:=hb.1 a e;omega
  subst hab;congr 1;refine Kt ha.2 hb.2 fun y=>?_;constructor
  · intro hy;rcases List.mem_cons.1 ((h y).1 (by simp[hy])) with e|e
    · subst e;have:=ha.1 y hy;omega
    · exact e
  · intro hy;rcases List.mem_cons.1 ((h y).2 (by simp[hy])) with e|e
    · subst e;have:=hb.1 y hy;omega
    · exact e
def lP (k:BitVec 8)(d:Nat)(R:List Nat)(v:Nat):List (Nat × Nat):=
 if k=1#8 then(if v≠1∧dW d R (v ^^^ 1)=false then[(v ^^^ 1,0)] else[])
 else if kR d R v then(if eM d R 7 v=v then[] else if sS k d v (eM d R 7 v) then[(v,eM d R 7 v)] else[(v,iZ d v (eM d R 7 v)),(iZ d v (eM d R 7 v),eM d R 7 v)])
 else[]
def jK (k:BitVec 8)(d:Nat)(R:List Nat)(y:Nat × Nat):Nat:=if k=1#8 then y.1 ^^^ 1 else gQ d R 7 y.1
theorem Vv {k:BitVec 8}{v w:Nat}(hK:2^k.toNat≤w∨True){K:Nat}(h1:2^K≤w)(h2:v=w / 2^K)(hv:1≤v)(hs:sS k d v w=false):∃ j,1≤j∧j<K∧iZ d v w=w / 2^j:=by
 have hl:=nV w K h1;rw[←h2] at hl;unfold sS at hs;simp only[Bool.or_eq_false_iff,decide_eq_false_iff_not] at hs;have h0:iZ d v w≠0:=hs.2;unfold iZ at h0 ⊢;unfold oQ at h0 ⊢
 cases hf:(kO (w / 2) (Nat.log2 w-Nat.log2 v-1)).find? (oS d) with
 | none=>rw[hf] at h0;simp at h0
 | some c=>
  obtain⟨j,hj,rfl⟩:=Ej.1 (List.mem_of_find?_eq_some hf);refine⟨j+1,by omega,by omega,?_⟩;rw[Option.getD_some,Nat.div_div_eq_div_mul,show 2*2^j=2^(j+1) from by rw[Nat.pow_succ,Nat.mul_comm]]
theorem Ln (h:lX d R){k:BitVec 8}(hne:R≠[]){v:Nat}(hv:dW d R v=true)(y:Nat × Nat):(y∈gK k d R∧jK k d R y=v)↔y∈lP k d R v:=by
 have h64:=lD h.1;have hpow:2^(d+1)=2*2^d:=by rw[Nat.pow_succ,Nat.mul_comm]
 obtain⟨v1,vl,v2⟩:=rE h hv;rw[C9];by_cases hk:k=1#8
 · unfold xN jK lP;rw[if_pos hk,if_pos hk,if_pos hk]
   have hroot:dW d R 1=true:=by
    obtain⟨u,hu⟩:=List.exists_mem_of_ne_nil R hne;obtain⟨l1,l2,l3⟩:=h.leaf hu;exact pF.2 ⟨u,hu,(nT l1).2 ⟨d,by omega,by rw[Nat.add_div_left _ (Nat.two_pow_pos d),Nat.div_eq_of_lt (h.2 u hu)]⟩⟩
   constructor
   · rintro⟨⟨⟨y1,y2⟩,hm⟩,rfl⟩
     split at hm
     · rename_i hc;simp only[Bool.and_eq_true,Bool.not_eq_true',Bool.or_eq_true,decide_eq_true_eq] at hc;have hy0:y.2=0:=(Option.some.inj hm).symm;have hyn:y.1≠1:=fun e=>by rw[e] at hc;rw[hroot] at hc;simp at hc
       have hss:=Th (n:=y.1) (by omega);rw[hss];have hs1:y.1 ^^^ 1≠1:=by have:=Ti (n:=y.1) (by omega) (by omega);omega
       rw[if_pos ⟨hs1,hc.1⟩];simp only[List.mem_singleton];cases y;simp only at *;rw[hy0]
     · cases hm
   · intro hy
     split at hy
     · rename_i hc;simp only[List.mem_singleton] at hy;subst hy;simp only;have hv2:2≤v:=by omega
       have e1:=Au (n:=v) (by omega);have e2:=Ti (n:=v) (by omega) hv2;have e3:=Ar (n:=v) (by omega) hv2;refine⟨⟨⟨by omega,?_⟩,?_⟩,Th (by omega)⟩
       · exact(Nat.log2_lt (by omega)).1 (by omega)
       · rw[if_pos];simp only[Bool.and_eq_true,Bool.not_eq_true',Bool.or_eq_true,decide_eq_true_eq];refine⟨hc.2,.inr ?_⟩;rw[Aq (by omega)];exact Hv h hv hv2
     · cases hy
 · unfold xN jK lP;rw[if_neg hk,if_neg hk,if_neg hk];constructor
   · rintro⟨⟨⟨y1,y2⟩,hm⟩,rfl⟩;have hl7:Nat.log2 y.1<7:=by have:=(Nat.log2_lt (n:=y.1) (k:=d+1) (by omega)).2 y2;have:=h.1;omega
     rw[if_pos (Qs 7 y.1 y1 hl7).1];generalize gQ d R 7 y.1=v at *;generalize eM d R 7 v=w at *
     split at hm
     · split at hm
       · cases hm
       · rename_i h1 h2;rw[if_neg h2]
         split at hm
         · rename_i h3;have hm':=Option.some.inj hm
           split
           · rename_i h4;rw[if_pos h4] at hm';simp only[List.mem_singleton];cases y;simp only at *;rw[h3,hm']
           · rename_i h4;rw[if_neg h4] at hm';simp only[List.mem_cons,List.not_mem_nil,or_false];left;cases y;simp only at *;rw[h3,hm']
         · split at hm
           · rename_i h3 h4;simp only[Bool.and_eq_true,Bool.not_eq_true',decide_eq_true_eq] at h4;rw[if_neg (by rw[h4.1];simp)];simp only[List.mem_cons,List.not_mem_nil,or_false];right;have hm':=Option.some.inj hm;cases y;simp only at *;rw[←h4.2,hm']
           · cases hm
     · cases hm
   · intro hy
     split at hy
     · rename_i hh;obtain⟨w1,w2,w3,K,w4,w5,w6⟩:=H8 h 7 v v1 vl (by have:=h.1;omega);generalize hw:eM d R 7 v=w at *;have hs:gQ d R 7 v=v:=Ht hh
       split at hy
       · cases hy
       · rename_i hne2
         split at hy
         · rename_i h4;simp only[List.mem_singleton] at hy;subst hy;simp only[hs,hw,hv,if_true,if_neg hne2,h4];exact⟨⟨⟨v1,v2⟩,trivial⟩,trivial⟩
         · rename_i h4;have h4':sS k d v w=false:=by simpa using h4
           simp only[List.mem_cons,List.not_mem_nil,or_false] at hy;rcases hy with rfl|rfl
           · simp only[hs,hw,hv,if_true,if_neg hne2,h4',Bool.false_eq_true,if_false];exact⟨⟨⟨v1,v2⟩,trivial⟩,trivial⟩
           · obtain⟨j,j1,j2,j3⟩:=Vv (k:=k) (d:=d) (.inr trivial) w4 w5 v1 h4';have hlw:=nV w K w4;have hKd:K≤6:=by have:=h.1;omega
             have hc:gQ d R 7 (iZ d v w)=v:=by
              rw[j3];exact Hs hh v1 j (K-j) 7 (by rw[show j+(K-j)=K from by omega];exact w4) (by rw[show j+(K-j)=K from by omega];exact w5) (fun i _ hi=>(w6 i (by omega)).2) (by omega)
             have hj2:2^j≤w:=Nat.le_trans (Nat.pow_le_pow_right (by omega) (by omega)) w4;have hch:dW d R (iZ d v w)=true:=by rw[j3];exact(w6 j j2).1
             have hcv:iZ d v w≠v:=by
              rw[j3,w5];exact Sn w4 j2
             obtain⟨c1,_,c3⟩:=rE h hch;simp only[hc,hw,hch,if_true,if_neg hne2,if_neg hcv,h4'];simp only[Bool.not_false,Bool.true_and,decide_true,if_true];exact⟨⟨⟨c1,c3⟩,trivial⟩,trivial⟩
     · cases hy
theorem Eg (h:lX d R){k:BitVec 8}(hne:R≠[]){y:Nat × Nat}(hy:y∈gK k d R):dW d R (jK k d R y)=true:=by
 have h64:=lD h.1;have hpow:2^(d+1)=2*2^d:=by rw[Nat.pow_succ,Nat.mul_comm]
 obtain⟨⟨y1,y2⟩,hm⟩:=C9.1 hy;unfold xN at hm;unfold jK;by_cases hk:k=1#8
 · rw[if_pos hk] at hm ⊢
   split at hm
   · rename_i hc;simp only[Bool.and_eq_true,Bool.not_eq_true',Bool.or_eq_true,decide_eq_true_eq] at hc
     have hroot:dW d R 1=true:=by
      obtain⟨u,hu⟩:=List.exists_mem_of_ne_nil R hne;obtain⟨l1,l2,l3⟩:=h.leaf hu;exact pF.2 ⟨u,hu,(nT l1).2 ⟨d,by omega,by rw[Nat.add_div_left _ (Nat.two_pow_pos d),Nat.div_eq_of_lt (h.2 u hu)]⟩⟩
     have hyn:y.1≠1:=fun e=>by rw[e] at hc;rw[hroot] at hc;simp at hc
     have hp:dW d R (y.1 / 2)=true:=by
      rcases hc.2 with e|e
      · exact absurd e hyn
      · exact e
     have hlg:=P5 (n:=y.1) (by omega);have hyl:Nat.log2 y.1≤d:=Da y1 y2;rw[Qu h (by omega) (by omega),Bool.or_eq_true] at hp;have hz:y.1 / 2<64:=by omega
     rcases(show y.1=2*(y.1 / 2)∨y.1=2*(y.1 / 2)+1 by omega) with e|e
     · have h2:dW d R (2*(y.1 / 2))=false:=by rw[←e];exact hc.1
       have:y.1 ^^^ 1=2*(y.1 / 2)+1:=by rw[←Vw hz,←e]
       rw[this];rw[h2] at hp;simpa using hp
     · have h2:dW d R (2*(y.1 / 2)+1)=false:=by rw[←e];exact hc.1
       have:y.1 ^^^ 1=2*(y.1 / 2):=by rw[←Vx hz,←e]
       rw[this];rw[h2] at hp;simpa using hp
   · cases hm
 · rw[if_neg hk] at hm ⊢
   split at hm
   · rename_i hx;have hl7:Nat.log2 y.1<7:=by have:=Da y1 y2;have:=h.1;omega
     obtain⟨_,i,i1,i2,_⟩:=Qs (d:=d) (R:=R) 7 y.1 y1 hl7;rw[i2];exact Hw h hx i i1
   · cases hm
end
end Go.Sx

end
section
namespace Go.Sx
open Go
end Go.Sx

end
section
namespace Go.Sx
open Go
end Go.Sx

end
section
namespace Go.Sx
open Go
theorem Ey {k:BitVec 8}{d:Nat}{st u:Int}(h:d≤6):tL ⟨k,(d:Int),st⟩ u=some (decide (0≤u∧u<((2^d:Nat):Int))):=by
 unfold tL;by_cases h0:(0:Int)≤u
 · rw[if_pos h0,Tj h,dE];congr 1;apply decide_eq_decide.2;omega
 · rw[if_neg h0];congr 1;symm;apply decide_eq_false;omega
end Go.Sx

end
section
namespace Go.Sx
open Go
end Go.Sx

end
section
namespace Go.Sx
open Go
section
variable {s:bY} {d u n m:Nat}
end
def kU (d:Nat)(l:List Int):Bool:=(List.range l.length).all fun j=>decide (0≤l.getD j 0∧l.getD j 0<((2^d:Nat):Int))&&(decide (j=0)||decide (l.getD (j-1) 0<l.getD j 0))
theorem getD_some {l:List Int}{j:Nat}(h:j<l.length):l.getD j 0=l[j]:=by simp[List.getD,h]
theorem Ko {σ:Type}(p:Nat→Bool):∀ (l:List Nat) (F:Nat→(σ→Option Bool)→σ→Option Bool) (s:σ),(∀ a∈l,∀ nx s,F a nx s=bif p a then nx s else some false)→fS F (fun _=>some true) l s=some (l.all p)
 | [],F,s,_=>rfl
 | a::l,F,s,h=>by
  rw[xW,h a (by simp),List.all_cons]
  cases p a with
  | false=>rfl
  | true=>rw[cond_true,Bool.true_and];exact Ko p l F s (fun b hb=>h b (by simp[hb]))
theorem Um {kd:BitVec 8}{d:Nat}{st:Int}(h6:d≤6)(l:List Int)(hl:l.length<4611686018427387904):tG ⟨kd,(d:Int),st⟩ l=some (kU d l):=by
 unfold tG kU
 have:=Cx l.length (rX ⟨kd,(d:Int),st⟩ l) (fun j (_:Unit)=>(j:Int)) (fun j nx s=>bif decide (0≤l.getD j 0∧l.getD j 0<((2^d:Nat):Int))&&(decide (j=0)||decide (l.getD (j-1) 0<l.getD j 0)) then nx s else some false) (fun _=>some true)
  (fun rec j hj _=>by
   simp only[rX,tN];rw[if_pos (by omega),Qr hj,dE,Ey h6,dE,getD_some hj,Gs (by omega)];by_cases h:0≤l[j]∧l[j]<((2^d:Nat):Int)
   · rw[decide_eq_true h];simp only[Bool.not_true,cond_false,Bool.true_and];by_cases h0:j=0
     · rw[if_neg (by omega),decide_eq_true h0];rfl
     · have hj1:j-1<l.length:=by omega
       rw[if_pos (by omega),nH (by omega) (by omega),show(j:Int)-1=((j-1:Nat):Int) from by omega,Qr hj1,dE,decide_eq_false h0,Bool.false_or,getD_some hj1];by_cases h1:l[j]≤l[j-1]
       · rw[decide_eq_true h1,decide_eq_false (by omega)];rfl
       · rw[decide_eq_false h1,decide_eq_true (by omega)];rfl
   · rw[decide_eq_false h];rfl)
  (fun rec _=>by simp only[rX];rw[if_neg (by omega)]) (f:=bA) (Qq (by omega)) ()
 rw[show((0:Nat):Int)=0 from rfl] at this;rw[this];exact Ko _ _ _ _ (fun a _ nx s=>rfl)
theorem Pt {d:Nat}{l:List Int}(h:kU d l=true){a:Int}(ha:a∈l):∃ u:Nat,a=(u:Int)∧u<2^d:=by
 obtain⟨j,hj,rfl⟩:=List.mem_iff_getElem.1 ha;have:=List.all_eq_true.1 h j (by simpa using hj);rw[Bool.and_eq_true,decide_eq_true_eq,getD_some hj] at this;exact⟨l[j].toNat,by omega,by omega⟩
end Go.Sx

end
section
namespace Go.Sx
open Go
def iM (y:Nat × Nat):bT:=⟨(y.1:Int),(y.2:Int)⟩
def jN:Nat→Nat→List Int→List Int
 | 0,_,ks=>ks
 | f+1,n,ks=>if n=0 then ks else jN f (n / 2) (jH ks (n:Int))
theorem Gd (a5:Int)(rec1:Int × List Int→Option (List bT × Int)):∀ (f fuel n:Nat) (ks:List Int),n<2^f→f<fuel→bP (qU a5 rec1) fuel ((n:Int),ks)=rec1 (aS (a5+1),jN f n ks)
 | f,0,n,ks,_,h=>by omega
 | 0,fuel+1,n,ks,hn,_=>by
  rw[rM];simp only[qU];rw[if_neg (by simp at hn;omega)];rfl
 | f+1,fuel+1,n,ks,hn,hf=>by
  rw[rM];simp only[qU];unfold jN;by_cases h0:n=0
  · rw[if_neg (by omega),if_pos h0]
  · rw[if_pos (by omega),if_neg h0,show fD (un 1#64)=some 1 from by decide,dE,Jf _ _ (by omega),Nat.pow_one];exact Gd a5 rec1 f fuel (n / 2) _ (by rw[Nat.pow_succ] at hn;omega) (by omega)
theorem Ml {ks:List Int}{k z:Int}:z∈jH ks k↔z∈ks∨z=k:=by
 unfold jH;split
 · rename_i h;exact⟨.inl,fun h'=>h'.elim id (fun e=>e ▸ h)⟩
 · simp
theorem Mj {ks:List Int}{k:Int}:(jH ks k).length≤ks.length+1:=by unfold jH;split<;>simp
theorem Gf:∀ (f n:Nat) (ks:List Int) (z:Int),n<2^f→(z∈jN f n ks↔z∈ks∨∃ j,2^j≤n∧z=((n / 2^j:Nat):Int))
 | 0,n,ks,z,hn=>by
  unfold jN;constructor
  · exact .inl
  · rintro(h|⟨j,hj,_⟩)
    · exact h
    · have:=Nat.two_pow_pos j;simp at hn;omega
 | f+1,n,ks,z,hn=>by
  unfold jN;by_cases h0:n=0
  · rw[if_pos h0];constructor
    · exact .inl
    · rintro(h|⟨j,hj,_⟩)
      · exact h
      · have:=Nat.two_pow_pos j;omega
  · rw[if_neg h0,Gf f (n / 2) _ z (by rw[Nat.pow_succ] at hn;omega),Ml];have hd2:∀ j,n / 2 / 2^j=n / 2^(j+1):=fun j=>by rw[Nat.div_div_eq_div_mul,Nat.pow_succ,Nat.mul_comm 2]
    constructor
    · rintro((h|h)|⟨j,h1,h2⟩)
      · exact .inl h
      · exact .inr ⟨0,by simp;omega,by simpa using h⟩
      · exact .inr ⟨j+1,by rw[Nat.pow_succ];omega,by rw[h2,hd2]⟩
    · rintro(h|⟨j,h1,h2⟩)
      · exact .inl (.inl h)
      · cases j with
        | zero=>exact .inl (.inr (by simpa using h2))
        | succ j=>exact .inr ⟨j,by rw[Nat.pow_succ] at h1;omega,by rw[h2,hd2]⟩
theorem Gc:∀ (f n:Nat) (ks:List Int),(jN f n ks).length≤ks.length+f
 | 0,n,ks=>by simp[jN]
 | f+1,n,ks=>by
  unfold jN;split
  · omega
  · have:=Gc f (n / 2) (jH ks (n:Int));have:=Mj (ks:=ks) (k:=(n:Int));omega
def gY (d:Nat)(l:List Int):List Int:=l.foldl (fun ks u=>jN 8 (2^d+u.toNat) ks) []
theorem Qt {d:Nat}(h6:d≤6):∀ (l:List Int) (ks:List Int) (z:Int),(∀ u∈l,u.toNat<2^d)→(z∈l.foldl (fun ks u=>jN 8 (2^d+u.toNat) ks) ks↔z∈ks∨∃ u∈l,∃ j,2^j≤2^d+u.toNat∧z=(((2^d+u.toNat) / 2^j:Nat):Int))
 | [],ks,z,_=>by simp
 | a::l,ks,z,h=>by
  have h64:=lD h6;have ha:=h a (by simp);rw[List.foldl_cons,Qt h6 l _ z (fun u hu=>h u (by simp[hu])),Gf 8 _ _ _ (by omega)];constructor
  · rintro((h1|h1)|⟨u,hu,h1⟩)
    · exact .inl h1
    · exact .inr ⟨a,by simp,h1⟩
    · exact .inr ⟨u,by simp[hu],h1⟩
  · rintro(h1|⟨u,hu,h1⟩)
    · exact .inl (.inl h1)
    · rcases List.mem_cons.1 hu with rfl|hu
      · exact .inl (.inr h1)
      · exact .inr ⟨u,hu,h1⟩
theorem Hu {d:Nat}:∀ (l:List Int) (ks:List Int),(l.foldl (fun ks u=>jN 8 (2^d+u.toNat) ks) ks).length≤ks.length+8*l.length
 | [],ks=>by simp
 | a::l,ks=>by
  rw[List.foldl_cons,List.length_cons];have:=Hu (d:=d) l (jN 8 (2^d+a.toNat) ks);have:=Gc 8 (2^d+a.toNat) ks;omega
def cM (l:List Int):List Nat:=l.map Int.toNat
theorem xC {d:Nat}{l:List Int}(h6:d≤6)(h:kU d l=true):lX d (cM l):=⟨h6,fun u hu=>by
 obtain⟨a,ha,rfl⟩:=List.mem_map.1 hu;obtain⟨w,hw,hw2⟩:=Pt h ha
 rw[hw];simpa using hw2⟩
theorem oZ {d:Nat}{l:List Int}(h6:d≤6)(h:kU d l=true)(n:Nat):((n:Int)∈gY d l)↔dW d (cM l) n=true:=by
 have hr:=xC h6 h;unfold gY;rw[Qt h6 l [] _ (fun u hu=>hr.2 _ (List.mem_map.2 ⟨u,hu,rfl⟩)),pF];simp only[List.not_mem_nil,false_or];constructor
 · rintro⟨u,hu,j,h1,h2⟩;refine⟨u.toNat,List.mem_map.2 ⟨u,hu,rfl⟩,(nT (hr.leaf (List.mem_map.2 ⟨u,hu,rfl⟩)).1).2 ⟨j,h1,by omega⟩⟩
 · rintro⟨u,hu,hb⟩;obtain⟨a,ha,rfl⟩:=List.mem_map.1 hu;obtain⟨j,h1,h2⟩:=(nT (hr.leaf hu).1).1 hb;exact⟨a,ha,j,h1,by rw[h2]⟩
theorem Mg {d:Nat}{l:List Int}(h6:d≤6)(h:kU d l=true){k:Int}(hk:k∈gY d l):∃ n:Nat,k=(n:Int)∧dW d (cM l) n=true:=by
 have hr:=xC h6 h;unfold gY at hk;rw[Qt h6 l [] _ (fun u hu=>hr.2 _ (List.mem_map.2 ⟨u,hu,rfl⟩))] at hk;simp only[List.not_mem_nil,false_or] at hk;obtain⟨u,hu,j,h1,h2⟩:=hk;exact⟨_,h2,pF.2 ⟨u.toNat,List.mem_map.2 ⟨u,hu,rfl⟩,(nT (hr.leaf (List.mem_map.2 ⟨u,hu,rfl⟩)).1).2 ⟨j,h1,rfl⟩⟩⟩
theorem A0 {d:Nat}{l:List Int}(h6:d≤6)(h:kU d l=true)(n:Nat):decide ((n:Int)∈gY d l)=dW d (cM l) n:=by
 cases hb:dW d (cM l) n with
 | true=>exact decide_eq_true ((oZ h6 h n).2 hb)
 | false=>exact decide_eq_false fun hm=>by rw[(oZ h6 h n).1 hm] at hb;cases hb
theorem Hr {s:bY}{d:Nat}{l:List Int}(h6:d≤6)(h:kU d l=true)(acc:List bT)(nx:List bT→Option (List bT × Int))(k:Int):∀ (f fuel v:Nat),1≤v→Nat.log2 v≤d→d-Nat.log2 v<f→f≤fuel→
 bP (nB (fE s,0) (gY d l) acc nx k) fuel (v:Int)=(if(eM d (cM l) f v:Int)=k then nx acc else Option.bind (pK (fE s) k (eM d (cM l) f v:Int)) fun x31=>(if x31≠0 then(if(fE s).kind=3#8 then Option.bind (nC (fE s) k) fun x34=>(lJ acc nx k (eM d (cM l) f v:Int) x31 (!x34)) else lJ acc nx k (eM d (cM l) f v:Int) x31 false) else lJ acc nx k (eM d (cM l) f v:Int) x31 false))
 | 0,fuel,v,_,_,hf,_=>by omega
 | f+1,0,v,_,_,_,hf=>by omega
 | f+1,fuel+1,v,hv,hl,hf,hff=>by
  have hr:=xC h6 h;have h64:=lD h6
  have hv128:v<128:=by
   have:=(Nat.log2_lt (n:=v) (k:=d+1) (by omega)).1 (by omega);rw[Nat.pow_succ] at this;omega
  rw[rM];simp only[nB];have e0:aS (2*(v:Int))=((2*v:Nat):Int):=by rw[nH (by omega) (by omega)];omega
  have e1:aS (((2*v:Nat):Int)+1)=((2*v+1:Nat):Int):=by rw[nH (by omega) (by omega)];omega
  have e2:aS ((v:Int)*2)=((2*v:Nat):Int):=by rw[nH (by omega) (by omega)];omega
  rw[e0,e1,e2,e1,A0 h6 h,A0 h6 h];rw[show(dW d (cM l) (2*v) != dW d (cM l) (2*v+1))=nN d (cM l) v from rfl]
  cases hb:nN d (cM l) v with
  | false=>
   have hfv:eM d (cM l) (f+1) v=v:=by unfold eM;rw[hb];rfl
   rw[cond_false,hfv]
  | true=>
   have hfv:eM d (cM l) (f+1) v=eM d (cM l) f (jD d (cM l) v):=by
    show(if nN d (cM l) v=true then eM d (cM l) f (jD d (cM l) v) else v)=_
    rw[hb];rfl
   rw[cond_true,hfv];obtain⟨hl2,_⟩:=Kx hr hv hb
   have key:(if ¬ (((2*v:Nat):Int)∈gY d l) then bP (nB (fE s,0) (gY d l) acc nx k) fuel ((2*v+1:Nat):Int) else bP (nB (fE s,0) (gY d l) acc nx k) fuel ((2*v:Nat):Int))=bP (nB (fE s,0) (gY d l) acc nx k) fuel (jD d (cM l) v:Int):=by
    unfold jD
    cases hh:dW d (cM l) (2*v) with
    | true=>rw[if_neg (fun hn=>hn ((oZ h6 h _).2 hh)),if_pos rfl]
    | false=>rw[if_pos (fun hm=>by rw[(oZ h6 h _).1 hm] at hh;cases hh),if_neg (by simp)]
   rw[key]
   have hn:1≤jD d (cM l) v∧Nat.log2 (jD d (cM l) v)=Nat.log2 v+1:=by
    unfold jD;split
    · exact⟨by omega,uS hv (b:=0) (by omega)⟩
    · exact⟨by omega,uS hv (b:=1) (by omega)⟩
   exact Hr h6 h acc nx k f fuel _ hn.1 (by omega) (by omega) (by omega)
theorem Ir {s:bY}{d:Nat}{l:List Int}(hv:kY s=true)(hd:s.Depth=(d:Int))(h6:d≤6)(h:kU d l=true){v:Nat}(hh:dW d (cM l) v=true)(acc:List bT)(ha:acc.length≤1000)(nx:List bT→Option (List bT × Int)):
 oO (fE s,0) (gY d l) (v:Int) nx acc=nx (acc++(lP s.Kind d (cM l) v).map iM):=by
 have hr:=xC h6 h;have h64:=lD h6;obtain⟨v1,vl,v2⟩:=rE hr hh;have hpow:2^(d+1)=2*2^d:=by rw[Nat.pow_succ,Nat.mul_comm]
 have hv128:v<128:=by omega
 have ht:fE s=⟨s.Kind,(d:Int),(mP d:Int)⟩:=by unfold fE;rw[hd,Int.toNat_natCast]
 have hkd:(fE s).kind=s.Kind:=rfl;have hsib:pX (v:Int)=some ((v ^^^ 1:Nat):Int):=by unfold pX;rw[Np hv128]
 have hadd:∀ (a b:Int) (acc:List bT),acc.length≤2000→qB a b acc=some (acc++[⟨a,b⟩]):=fun a b acc hl=>by
  unfold qB;rw[Nd (by simp;omega),dE]
 unfold oO;simp only[hkd];by_cases hk:s.Kind=1#8
 · rw[if_pos hk];unfold lP;rw[if_pos hk];by_cases hv1:v=1
   · rw[if_neg (by omega),if_neg (by simp[hv1])];unfold tY;simp
   · rw[if_pos (by omega),hsib,dE];unfold tY;have hdm:=A0 h6 h (v ^^^ 1);by_cases hs:dW d (cM l) (v ^^^ 1)=true
     · rw[decide_eq_false (p:=¬ (((v ^^^ 1:Nat):Int)∈gY d l)) (fun hn=>hn ((oZ h6 h _).2 hs)),cond_false,if_neg (by simp[hs])];simp
     · have hs':dW d (cM l) (v ^^^ 1)=false:=by simpa using hs
       rw[decide_eq_true (p:=¬ (((v ^^^ 1:Nat):Int)∈gY d l)) (fun hm=>hs ((oZ h6 h _).1 hm)),cond_true,hsib,dE,hadd _ _ _ (by omega),dE,if_pos ⟨hv1,hs'⟩];rfl
 · rw[if_neg hk]
   have go:kR d (cM l) v=true→oI (fE s,0) (gY d l) acc nx (v:Int) false=nx (acc++(lP s.Kind d (cM l) v).map iM):=by
    intro hhd;unfold oI;rw[cond_false,Hr h6 h acc nx (v:Int) 7 bA v v1 vl (by omega) (by unfold bA;omega)];unfold lP;rw[if_neg hk,if_pos hhd];obtain⟨w1,w2,w3,K,w4,w5,w6⟩:=H8 hr 7 v v1 vl (by omega);generalize eM d (cM l) 7 v=w at *;by_cases hw:w=v
    · rw[if_pos (by omega),if_pos hw];simp
    · rw[if_neg (by omega),if_neg hw];have hlw:=nV w K w4;rw[←w5] at hlw
      have hK:1≤K:=by
       rcases Nat.eq_zero_or_pos K with h0|h0
       · subst h0;simp at w5;exact absurd w5.symm hw
       · exact h0
      have hw128:w<128:=by
       have:=(Nat.log2_lt (n:=w) (k:=d+1) (by omega)).1 (by omega);omega
      have hcut:pK (fE s) (v:Int) (w:Int)=some ((iZ d v w:Nat):Int):=by
       obtain⟨K',rfl⟩:∃ K',K=K'+1:=⟨K-1,by omega⟩;have:=Sa (kd:=s.Kind) (d:=d) (m:=w) (k:=K') hw128 w4 (by omega);rw[←w5] at this;rw[ht,this];unfold iZ;rw[show Nat.log2 w-Nat.log2 v-1=K' from by omega]
      have hspc:nC (fE s) (v:Int)=some (oS d v):=by rw[ht];exact Tn v1 (by omega)
      rw[hcut,dE]
      have one:lJ acc nx (v:Int) (w:Int) ((iZ d v w:Nat):Int) false=nx (acc++[(v,w)].map iM):=by
       unfold lJ tW;rw[cond_false,hadd _ _ _ (by omega),dE];rfl
      have two:lJ acc nx (v:Int) (w:Int) ((iZ d v w:Nat):Int) true=nx (acc++[(v,iZ d v w),(iZ d v w,w)].map iM):=by
       unfold lJ tW;rw[cond_true,hadd _ _ _ (by omega),dE,hadd _ _ _ (by simp;omega),dE,List.append_assoc];rfl
      have hk3:s.Kind=2#8∨s.Kind=3#8:=by
       obtain⟨a,b⟩:=Qa0 hv;rcases Mq a b with e|e|e
       · exact absurd e hk
       · exact .inl e
       · exact .inr e
      unfold sS;by_cases hc0:iZ d v w=0
      · rw[if_neg (by omega),one]
        have:(decide (s.Kind=2#8)||oS d v||decide (oQ d (kO (w / 2) (Nat.log2 w-Nat.log2 v-1))=0))=true:=by
         rw[decide_eq_true (p:=oQ _ _=0) hc0];simp
        rw[if_pos this]
      · have hc0':decide (oQ d (kO (w / 2) (Nat.log2 w-Nat.log2 v-1))=0)=false:=decide_eq_false hc0;rw[if_pos (by omega),hc0',Bool.or_false];rcases hk3 with hk3|hk3
        · rw[if_neg (by rw[hkd,hk3];decide),one,if_pos (by simp[hk3])]
        · rw[if_pos (show(fE s).kind=3#8 from hk3),hspc,dE];have:decide (s.Kind=2#8)=false:=by rw[hk3];decide
          rw[this,Bool.false_or]
          cases oS d v with
          | true=>rw[Bool.not_true,one,if_pos rfl]
          | false=>rw[Bool.not_false,two,if_neg (by simp)]
   have no:kR d (cM l) v=false→oI (fE s,0) (gY d l) acc nx (v:Int) true=nx (acc++(lP s.Kind d (cM l) v).map iM):=by
    intro hhd;unfold oI lP;rw[cond_true,if_neg hk,if_neg (by rw[hhd];simp)];simp
   by_cases hv1:v=1
   · rw[if_neg (by omega)];exact go (by unfold kR;simp[hv1])
   · rw[if_pos (by omega),hsib,dE];by_cases hs:dW d (cM l) (v ^^^ 1)=true
     · rw[decide_eq_false (p:=¬ (((v ^^^ 1:Nat):Int)∈gY d l)) (fun hn=>hn ((oZ h6 h _).2 hs))];exact go (by unfold kR;simp[hs])
     · have hs':dW d (cM l) (v ^^^ 1)=false:=by simpa using hs
       rw[decide_eq_true (p:=¬ (((v ^^^ 1:Nat):Int)∈gY d l)) (fun hm=>hs ((oZ h6 h _).1 hm))];exact no (by unfold kR;simp[hs',hv1])
theorem Lm {d:Nat}{R:List Nat}(h:lX d R){k:BitVec 8}(hne:R≠[]){v:Nat}(hv:dW d R v=true):(gK k d R).filter (fun y=>decide (jK k d R y=v))=lP k d R v:=by
 refine Kt ?_ ?_ fun y=>?_
 · exact List.Pairwise.filter _ Vm
 · unfold lP vD
   split
   · split<;>simp
   · split
     · split
       · simp
       · split
         · simp
         · rename_i h2 h3 h4 h5;obtain⟨v1,vl,v2⟩:=rE h hv;obtain⟨w1,w2,w3,K,w4,w5,w6⟩:=H8 h 7 v v1 vl (by have:=h.1;omega);obtain⟨j,j1,j2,j3⟩:=Vv (k:=k) (d:=d) (.inr trivial) w4 w5 v1 (by simpa using h5);simp only[List.pairwise_cons,List.mem_singleton,List.not_mem_nil,false_imp_iff,implies_true,List.Pairwise.nil,and_true,forall_eq];have hj2:2^j≤eM d R 7 v:=Nat.le_trans (Nat.pow_le_pow_right (by omega) (by omega)) w4;have hl1:=nV _ _ w4;have hl2:=nV _ _ hj2;rw[←w5] at hl1;rw[←j3] at hl2;rcases Nat.lt_or_ge v (iZ d v (eM d R 7 v)) with eD|hge
           · exact eD
           · have:=Uo hge;omega
     · simp
 · rw[List.mem_filter,decide_eq_true_eq];exact Ln h hne hv y
theorem Vn {k:BitVec 8}{d:Nat}{R:List Nat}(h6:d≤6):(gK k d R).length≤127:=by
 have h64:=lD h6;have hpow:2^(d+1)=2*2^d:=by rw[Nat.pow_succ,Nat.mul_comm]
 refine Nat.le_trans (List.length_filterMap_le _ _) ?_;simp[uF];omega
theorem Cw {α:Type}(p q:α→Bool)(hpq:∀ a,p a=true→q a=false)(l:List α):(l.filter fun a=>p a||q a).Perm (l.filter p++l.filter q):=by
 induction l with
 | nil=>simp
 | cons a l ih=>
  cases hp:p a with
  | true=>
   have hq:=hpq a hp;simp only[List.filter_cons,hp,hq,Bool.true_or,if_true,Bool.false_eq_true,if_false,List.cons_append];exact ih.cons a
  | false=>
   cases hq:q a with
   | true=>
    simp only[List.filter_cons,hp,hq,Bool.or_true,if_true,Bool.false_eq_true,if_false];exact(ih.cons a).trans List.perm_middle.symm
   | false=>
    simp only[List.filter_cons,hp,hq,Bool.or_false,Bool.false_eq_true,if_false];exact ih
theorem Ip {k:BitVec 8}{d:Nat}{R:List Nat}(h6:d≤6){acc:List bT}(h:acc.Perm ((gK k d R).map iM)):sN bT.Node acc=some ((gK k d R).map iM):=by
 have h64:=lD h6;have hpow:2^(d+1)=2*2^d:=by rw[Nat.pow_succ,Nat.mul_comm]
 have hasc:((gK k d R).map iM).Pairwise fun a b=>a.Node<b.Node:=by
  rw[List.pairwise_map];exact(Vm (k:=k) (d:=d) (R:=R)).imp (fun {a b} hab=>by unfold iM;simp only;omega)
 have hnd:(((gK k d R).map iM).map bT.Node).Nodup:=by
  unfold List.Nodup;rw[List.pairwise_map];exact hasc.imp (by omega)
 unfold sN;rw[if_pos]
 · congr 1;have hs:=List.pairwise_mergeSort (le:=fun a b:bT=>decide (a.Node≤b.Node)) (fun a b c h1 h2=>by simp at *;omega) (fun a b=>by simp;omega) acc;have hp:(acc.mergeSort fun a b=>decide (a.Node≤b.Node)).Perm ((gK k d R).map iM):=(List.mergeSort_perm acc _).trans h
   have key:∀ (l m:List bT),l.Perm m→(l.Pairwise fun a b=>decide (a.Node≤b.Node)=true)→(m.Pairwise fun a b=>a.Node<b.Node)→l=m:=by
    intro l m hlm hl hm
    have hlnd:(l.map bT.Node).Nodup:=by
     have:(m.map bT.Node).Nodup:=by unfold List.Nodup;rw[List.pairwise_map];exact hm.imp (by omega)
     exact(hlm.map _).nodup_iff.2 this
    have hl':l.Pairwise fun a b=>a.Node<b.Node:=by
     unfold List.Nodup at hlnd;rw[List.pairwise_map] at hlnd;exact(hl.and hlnd).imp (fun {a b} hab=>by have:=of_decide_eq_true hab.1;have:=hab.2;omega)
    clear hl hlnd
    induction m generalizing l with
    | nil=>exact hlm.eq_nil
    | cons b m ih=>
     cases l with
     | nil=>exact absurd hlm.symm.eq_nil (by simp)
     | cons a l=>
      have ha:=List.pairwise_cons.1 hl';have hb:=List.pairwise_cons.1 hm
      have hab:a=b:=by
       rcases List.mem_cons.1 (hlm.subset (List.mem_cons_self)) with e|e
       · exact e
       · rcases List.mem_cons.1 (hlm.symm.subset (List.mem_cons_self)) with e2|e2
         · exact e2.symm
         · have:=ha.1 b e2;have:=hb.1 a e;omega
      subst hab;rw[ih l (List.Perm.cons_inv hlm) hb.2 ha.2]
   exact key _ _ hp hs hasc
 · refine⟨fun x hx=>?_,(h.map _).nodup_iff.2 hnd,?_⟩
   · obtain⟨y,hy,rfl⟩:=List.mem_map.1 (h.subset hx);have:=(C9.1 hy).1;unfold iM;simp only;omega
   · rw[h.length_eq,List.length_map];have:=Vn (k:=k) (R:=R) h6;omega
theorem Ew {s:bY}{d:Nat}{l:List Int}(hv:kY s=true)(hd:s.Depth=(d:Int))(h6:d≤6)(h:kU d l=true)(hne:l≠[])(hl:l.length*8≤140737488355328):
 jG (oO (fE s,0) (gY d l)) qC bA (gY d l) []=some ((gK s.Kind d (cM l)).map iM,0):=by
 have hr:=xC h6 h;have hne':cM l≠[]:=by unfold cM;simpa using hne
 refine Dx (fun rem acc=>(∀ k∈rem,k∈gY d l)∧acc.Perm (((gK s.Kind d (cM l)).filter fun y=>decide (((jK s.Kind d (cM l) y:Nat):Int)∉rem)).map iM)) ?_ ?_ bA (gY d l) [] ?_ ⟨fun _ hk=>hk,?_⟩
 · rintro acc ⟨_,hp⟩;have:((gK s.Kind d (cM l)).filter fun y=>decide (((jK s.Kind d (cM l) y:Nat):Int)∉([]:List Int)))=gK s.Kind d (cM l):=List.filter_eq_self.2 (by simp);rw[this] at hp;unfold qC;rw[Ip h6 hp,dE]
 · rintro rem acc k hk ⟨hsub,hp⟩;obtain⟨v,rfl,hvh⟩:=Mg h6 h (hsub k hk)
   have hal:acc.length≤1000:=by
    rw[hp.length_eq,List.length_map];have:=Vn (k:=s.Kind) (R:=cM l) h6;have:=List.length_filter_le (fun y=>decide (((jK s.Kind d (cM l) y:Nat):Int)∉rem)) (gK s.Kind d (cM l));omega
   refine⟨acc++(lP s.Kind d (cM l) v).map iM,⟨fun j hj=>hsub j (List.mem_filter.1 hj).1,?_⟩,fun nx=>Ir hv hd h6 h hvh acc hal nx⟩
   have hsp:=Cw (fun y=>decide (((jK s.Kind d (cM l) y:Nat):Int)∉rem)) (fun y=>decide (jK s.Kind d (cM l) y=v)) (fun y hy=>by
    simp only[decide_eq_true_eq,decide_eq_false_iff_not] at hy ⊢
    rintro rfl;exact hy hk) (gK s.Kind d (cM l))
   rw[Lm hr hne' hvh] at hsp
   have hcg:((gK s.Kind d (cM l)).filter fun y=>decide (((jK s.Kind d (cM l) y:Nat):Int)∉rem.filter (· ≠ (v:Int))))=((gK s.Kind d (cM l)).filter fun y=>decide (((jK s.Kind d (cM l) y:Nat):Int)∉rem)||decide (jK s.Kind d (cM l) y=v)):=by
    apply List.filter_congr;intro y _;rw[Bool.eq_iff_iff];simp only[Bool.or_eq_true,decide_eq_true_eq,List.mem_filter,not_and,ne_eq,Decidable.not_not,decide_not,Bool.not_eq_true',decide_eq_false_iff_not];constructor
    · intro hh;by_cases hm:((jK s.Kind d (cM l) y:Nat):Int)∈rem
      · have:=hh hm;right;omega
      · exact .inl hm
    · rintro(hh|hh) hm
      · exact absurd hm hh
      · rw[hh]
   rw[hcg];refine List.Perm.trans ?_ (hsp.map iM).symm;rw[List.map_append];exact hp.append_right _
 · have:=Hu (d:=d) l [];unfold gY bA;simp only[List.length_nil,Nat.zero_add] at this;omega
 · have:((gK s.Kind d (cM l)).filter fun y=>decide (((jK s.Kind d (cM l) y:Nat):Int)∉gY d l))=[]:=by
    rw[List.filter_eq_nil_iff];intro y hy;simp only[decide_eq_true_eq];exact fun hn=>hn ((oZ h6 h _).2 (Eg hr hne' hy))
   rw[this];simp
def C8 (s:bY)(l:List Int):List bT × Int:=
 if kY s then(if kU s.Depth.toNat l then((if l=[] then[⟨1,0⟩] else(gK s.Kind s.Depth.toNat (cM l)).map iM),0) else([],2)) else([],30)
theorem El (s:bY)(l:List Int)(hl:l.length*8≤140737488355328):tV s l=some (C8 s l):=by
 unfold tV C8;rw[Bb,dE]
 cases hv:kY s with
 | false=>rfl
 | true=>
  obtain⟨d,hd,h6⟩:=Gg hv;have ht:fE s=⟨s.Kind,(d:Int),(mP d:Int)⟩:=by unfold fE;rw[hd,Int.toNat_natCast]
  simp only[if_true];rw[if_neg (by simp),hd,Int.toNat_natCast];have e0:tG (fE s) l=some (kU d l):=by rw[ht];exact Um h6 l (by omega)
  rw[e0,dE]
  cases hb:kU d l with
  | false=>rfl
  | true=>
   simp only[Bool.not_true,cond_false,if_true];by_cases hne:l=[]
   · subst hne;rfl
   · rw[if_neg (by intro h0;apply hne;exact List.eq_nil_of_length_eq_zero (by omega)),if_neg hne]
     have:=Hp l (qM l (fE s,0)) (fun j (ks:List Int)=>((j:Int),ks)) (fun u nx ks=>nx (jN 8 (2^d+u.toNat) ks)) (fun ks=>jG (oO (fE s,0) ks) qC bA ks [])
      (fun rec j hj ks=>by
       obtain⟨u,hu,hu2⟩:=Pt hb (List.getElem_mem hj);have h64:=lD h6;simp only[qM];have hlf:rQ (fE s) (u:Int)=some ((2^d+u:Nat):Int):=by rw[ht];exact Ug h6 (by omega)
       rw[if_pos (by omega),Qr hj,dE,hu,hlf,dE,Gd _ _ 8 bA _ _ (by omega) (by unfold bA;omega),Gs (by omega),Int.toNat_natCast])
      (fun rec ks=>by simp only[qM];rw[if_neg (by omega)]) (f:=bA) (Qq (by omega)) ([]:List Int)
     rw[show((0:Nat):Int)=0 from rfl] at this;rw[this,Hz (fun ks u=>jN 8 (2^d+u.toNat) ks) _ _ (fun _ _=>True) l 0 [] (fun _ _ _ _ _ _=>rfl) (fun _ _ _ _ _=>trivial) trivial];exact Ew hv hd h6 hb hne hl
end Go.Sx

end
section
namespace Go.Sx
open Go
theorem Ll:C8 ⟨2#8,2,0,⟨0#64,0#64,0#64⟩⟩ [2]=([⟨1,6⟩],0):=by decide +kernel
theorem Lk:tV ⟨2#8,2,0,⟨0#64,0#64,0#64⟩⟩ [2]=some ([⟨1,6⟩],0):=(El _ _ (by decide)).trans (congrArg some Ll)
noncomputable def xE:W2:=dO (72623842526232576#64,0#64) (bD 50#8) (wd 0)
noncomputable def xK:aF:=match vM (72623842526232576#64,0#64) ⟨2#8,2,0,⟨0#64,0#64,0#64⟩⟩ [⟨1,6⟩] xE with
 | some x=>x.1
 | none=>default
noncomputable def Dk:aL:=match wR xE (aL.mk 1#8 0 xK 0#8 0#64 [] k0) with
 | some m=>aL.mk 1#8 0 xK 0#8 0#64 [] m
 | none=>default
theorem Am:Option.bind (vM (72623842526232576#64,0#64) ⟨2#8,2,0,⟨0#64,0#64,0#64⟩⟩ [⟨1,6⟩] xE) (fun x2=>some (x2.1,x2.2))=some (xK,0):=by kernel_rfl
theorem Sf:uJ (72623842526232576#64,0#64) ⟨2#8,2,0,⟨0#64,0#64,0#64⟩⟩ [2] xE (wd 0)=some (xK,0):=by
 unfold uJ;rw[Lk,dE,if_neg (by decide)];exact Am
theorem Li:oA ⟨2#8,2,0,⟨0#64,0#64,0#64⟩⟩=some 0:=by kernel_rfl
theorem Oe:lI 0=some true:=by kernel_rfl
theorem Al:wL (72623842526232576#64,0#64) ⟨2#8,2,0,⟨0#64,0#64,0#64⟩⟩ 0 [2]=some (xK,0):=by
 unfold wL;rw[if_neg (by decide),show decide ((5:Int)≤bD (2#8))=false from by decide];unfold wS rT;rw[cond_false,if_pos (by decide),Li,dE,if_neg (by decide),Oe,dE,Bool.not_true,cond_false,dE];show Option.bind (uJ _ _ _ xE _) _=_;rw[Sf,dE]
theorem Me:tI (72623842526232576#64,0#64) ⟨2#8,2,0,⟨0#64,0#64,0#64⟩⟩ 0 [2]=some (Dk,0):=by
 unfold tI;rw[Al,dE,if_neg (by decide)]
 kernel_rfl
theorem Nb:P2 0 Dk=some true:=by kernel_rfl
theorem Na:jP false=some true:=by
 unfold jP iV;rw[cond_false,dE,Me,dE];exact Nb
theorem Gz:xG=some true:=by
 have h1:xG=jP false:=by kernel_rfl
 rw[h1,Na]
end Go.Sx

end
section
namespace Go.Sx
open Go
theorem Ub:P1=some true:=by
 unfold P1;rw[Gz]
 kernel_rfl
end Go.Sx

end
