/- Several texts in one: SrtSub Pl Pt Tr Ts Fx Mb Lb Tm Cv Tk Fy SecN Fd Kn Cp Pu Nm Pg Pv5 Pw Pk5 Pr Pq. -/
import Derived.Test.YtopkalcefepilaaGreatZd
import Derived.Shelf.SlGeneric
import Derived.Test.YtopkalcefepilaaGreatProg
import Derived.Test.YtopkalcefepilaaGreatZc
import Derived.KernelRfl
set_option linter.unusedVariables false
set_option linter.unusedSimpArgs false
section
set_option linter.unusedVariables false
set_option linter.unusedSimpArgs false
set_option maxRecDepth 100000
namespace Go.Proofs.YtopkalcefepilaaGreat.Mx
open Go Go.RowKit Go.Sx Go.Proofs Go.Shelf Go.Lib Go.Sort
def Qjz:Go.Shelf.Ren:=⟨fun|6=>79|15=>131|14=>130|28=>171|29=>172|20=>163|21=>164|22=>165|23=>166|24=>167|25=>168|26=>169|27=>170|46=>190|47=>191|48=>192|49=>193|50=>194|57=>199|n=>n,fun|22=>101|24=>137|25=>157|3=>3|39=>151|0=>0|53=>247|55=>22|4=>4|46=>240|45=>239|50=>244|5=>5|9=>9|66=>260|70=>264|76=>267|77=>85|n=>n,fun|n=>n⟩
theorem Qrm:Go.Proofs.SlLaysF0.n6 Tryz.prog Qjz:={
 mixed:=by kernel_rfl
 f6:=⟨Tryz.f79.name,by decide,Tryz.func79.trans (congrArg some (by kernel_rfl))⟩
 f14:=⟨Tryz.f130.name,by decide,Tryz.func130.trans (congrArg some (by kernel_rfl))⟩
 f15:=Tryz.func131.trans (congrArg some (by kernel_rfl))
 f20:=⟨Tryz.f163.name,by decide,Tryz.func163.trans (congrArg some (by kernel_rfl))⟩
 f21:=⟨Tryz.f164.name,by decide,Tryz.func164.trans (congrArg some (by kernel_rfl))⟩
 f22:=⟨Tryz.f165.name,by decide,Tryz.func165.trans (congrArg some (by kernel_rfl))⟩
 f23:=⟨Tryz.f166.name,by decide,Tryz.func166.trans (congrArg some (by kernel_rfl))⟩
 f24:=⟨Tryz.f167.name,by decide,Tryz.func167.trans (congrArg some (by kernel_rfl))⟩
 f25:=⟨Tryz.f168.name,by decide,Tryz.func168.trans (congrArg some (by kernel_rfl))⟩
 f26:=⟨Tryz.f169.name,by decide,Tryz.func169.trans (congrArg some (by kernel_rfl))⟩
 f27:=⟨Tryz.f170.name,by decide,Tryz.func170.trans (congrArg some (by kernel_rfl))⟩
 f28:=Tryz.func171.trans (congrArg some (by kernel_rfl))
 f29:=Tryz.func172.trans (congrArg some (by kernel_rfl))
 f46:=⟨Tryz.f190.name,by decide,Tryz.func190.trans (congrArg some (by kernel_rfl))⟩
 f47:=Tryz.func191.trans (congrArg some (by kernel_rfl))
 f48:=Tryz.func192.trans (congrArg some (by kernel_rfl))
 f49:=⟨Tryz.f193.name,by decide,Tryz.func193.trans (congrArg some (by kernel_rfl))⟩
 f50:=⟨Tryz.f194.name,by decide,Tryz.func194.trans (congrArg some (by kernel_rfl))⟩
 f57:=⟨Tryz.f199.name,by decide,Tryz.func199.trans (congrArg some (by kernel_rfl))⟩
 t0:=Tryz.underlying0
 a0:=Tryz.isAgg0
 z0:=Tryz.sizeOf0
 v0:=Tryz.zeroValue0
 t3:=Tryz.underlying3
 a3:=Tryz.isAgg3
 z3:=Tryz.sizeOf3
 v3:=Tryz.zeroValue3
 t4:=Tryz.underlying4
 a4:=Tryz.isAgg4
 z4:=Tryz.sizeOf4
 v4:=Tryz.zeroValue4
 t5:=Tryz.underlying5
 a5:=Tryz.isAgg5
 z5:=Tryz.sizeOf5
 v5:=Tryz.zeroValue5
 t9:=Tryz.underlying9
 a9:=Tryz.isAgg9
 z9:=Tryz.sizeOf9
 v9:=Tryz.zeroValue9
 t22:=Tryz.underlying101
 a22:=Tryz.isAgg101
 z22:=Tryz.sizeOf101
 v22:=Tryz.zeroValue101
 t25:=Tryz.underlying157
 a25:=Tryz.isAgg157
 z25:=Tryz.sizeOf157
 v25:=Tryz.zeroValue157
 t39:=Tryz.underlying151
 a39:=Tryz.isAgg151
 z39:=Tryz.sizeOf151
 v39:=Tryz.zeroValue151
 t45:=Tryz.underlying239
 a45:=Tryz.isAgg239
 z45:=Tryz.sizeOf239
 v45:=Tryz.zeroValue239
 t46:=Tryz.underlying240
 a46:=Tryz.isAgg240
 z46:=Tryz.sizeOf240
 v46:=Tryz.zeroValue240
 t50:=Tryz.underlying244
 a50:=Tryz.isAgg244
 z50:=Tryz.sizeOf244
 v50:=Tryz.zeroValue244
 t53:=Tryz.underlying247
 a53:=Tryz.isAgg247
 z53:=Tryz.sizeOf247
 v53:=Tryz.zeroValue247
 t55:=Tryz.underlying22
 a55:=Tryz.isAgg22
 z55:=Tryz.sizeOf22
 v55:=Tryz.zeroValue22
 t66:=Tryz.underlying260
 a66:=Tryz.isAgg260
 z66:=Tryz.sizeOf260
 v66:=Tryz.zeroValue260
 t70:=Tryz.underlying264
 a70:=Tryz.isAgg264
 z70:=Tryz.sizeOf264
 v70:=Tryz.zeroValue264
 t76:=Tryz.underlying267
 a76:=Tryz.isAgg267
 z76:=Tryz.sizeOf267
 v76:=Tryz.zeroValue267
 t77:=Tryz.underlying85
 a77:=Tryz.isAgg85
 z77:=Tryz.sizeOf85
 v77:=Tryz.zeroValue85 }
theorem Qxg {a b:Int}(ha:0≤a∧a<4611686018427387904)(hb:0≤b∧b<4611686018427387904):IntKind.i64.wrap (a-b)=a-b:=by rw[IntKind.wrap_i64];omega
set_option maxHeartbeats 1000000 in
theorem Qol (x y:Qm)(W:World)(hx:0≤x.Node∧x.Node<4611686018427387904)(hy:0≤y.Node∧y.Node<4611686018427387904):Calls Tryz.prog 80 #[.agg #[.int .i64 x.Node,.int .i64 x.Minus],.agg #[.int .i64 y.Node,.int .i64 y.Minus]] W fun e w'=>e=.returned (.int .i64 (x.Node-y.Node))∧∃ q os',w'=grow (W.drewN q) os':=by
 have hw:=Qxg hx hy
 go_enter Tryz.func80,Tryz.ntmps80
 go_wp2
 go_ret
 exact⟨rfl,0,_,by rw[alloc_eq_grow,alloc_eq_grow,grow_grow];rfl⟩
theorem Qw8 {l m:List Qm}(hm:Bj Qm.Node l=some m)(w:World)(z g:Nat)(v:Value)(h:Qk w z g 137 2 v (l.map Qm.cs)):Calls Tryz.prog 79 [v,.func (.func 80) #[] #[]].toArray w fun e' w'=>∃ v',e'=.returned v'∧(Qk w' z g 137 2 v (m.map Qm.cs)∧Kz [(z,g)] w w'):=
 Qwa (ρ:=Qjz) Qm.cs 2 (fun _=>rfl) (fun x=>Qm.cs_ones x) (by decide) Qm.Node 80 Qrm (fun _=>by kernel_rfl) (fun _=>by kernel_rfl) (fun _ _=>by kernel_rfl) (fun x y W hx hy=>Qol x y W hx hy) hm w z g 137 v h
end Go.Proofs.YtopkalcefepilaaGreat.Mx

end
section
set_option linter.unusedVariables false
set_option linter.unusedSimpArgs false
namespace Go.Sx
open Go
theorem Ye {n:Nat}(h:n<9223372036854775808):n<Qy:=by unfold Qy;omega
theorem Jc {n:Int}(h0 : -9223372036854775808≤n)(h1:n≤9223372036854775807):Qb n=n:=by
 have:=IntKind.wrap_i64 n
 unfold Qb;rw[this];omega
theorem bind_some {α β:Type}(a:α)(f:α→Option β):Option.bind (some a) f=f a:=rfl
theorem Hj {α:Type}{b:Nat}{l m:List α}(h:(l.length+m.length)*b≤140737488355328):Vb b l m=some (l++m):=if_pos h
theorem Yu {α:Type}{l:List α}{i:Nat}(h:i<l.length):Xd l (i:Int)=some l[i]:=by unfold Xd;rw[if_pos (by omega)];simp[h]
def w8 (x:BitVec 64):List (BitVec 8):=[Lc x 0,Lc x 1,Lc x 2,Lc x 3,Lc x 4,Lc x 5,Lc x 6,Lc x 7]
end Go.Sx

end
section
set_option linter.unusedVariables false
set_option linter.unusedSimpArgs false
set_option maxRecDepth 100000
namespace Go.Sx.Pn
open Go Go.Sx
def Zi (k d:Nat):Qo:=⟨BitVec.ofNat 8 k,(d:Int),0,⟨0#64,0#64,0#64⟩⟩
def Qgh:Qz:=⟨Zi 1 0,1,⟨[1,0],[],[],[]⟩,1⟩
theorem Qs9:Vd (Zi 1 0)=some Qgh:=by kernel_rfl
def Qmd:Qz:=⟨Zi 1 1,1,⟨[1,0,1,1,0],[],[],[]⟩,1⟩
theorem Qsa:Vd (Zi 1 1)=some Qmd:=by kernel_rfl
def Qme:Qz:=⟨Zi 1 2,2,⟨[1,0,1,1,0,1,2,2,1,0],[],[],[]⟩,1⟩
theorem Qsb:Vd (Zi 1 2)=some Qme:=by kernel_rfl
def Qmf:Qz:=⟨Zi 1 3,2,⟨[1,0,1,1,0,1,2,2,1,0,1,3,4,4,4,3,2,1,0],[],[],[]⟩,1⟩
theorem Qsc:Vd (Zi 1 3)=some Qmf:=by kernel_rfl
def Qmg:Qz:=⟨Zi 1 4,2,⟨[1,0,1,1,0,1,2,2,1,0,1,3,4,4,4,3,2,1,0,1,4,6,7,8,8,8,8,8,7,6,5,4,3,2,1,0],[],[],[]⟩,1⟩
theorem Qsd:Vd (Zi 1 4)=some Qmg:=by kernel_rfl
def Qmh:Qz:=⟨Zi 1 5,3,⟨[1,0,1,1,0,1,2,2,1,0,1,3,4,4,4,3,2,1,0,1,4,6,7,8,8,8,8,8,7,6,5,4,3,2,1,0,1,5,8,10,12,13,14,15,16,16,16,16,16,16,16,16,16,15,14,13,12,11,10,9,8,7,6,5,4,3,2,1,0],[],[],[]⟩,1⟩
theorem Qse:Vd (Zi 1 5)=some Qmh:=by kernel_rfl
def Qmi:Qz:=⟨Zi 1 6,3,⟨[1,0,1,1,0,1,2,2,1,0,1,3,4,4,4,3,2,1,0,1,4,6,7,8,8,8,8,8,7,6,5,4,3,2,1,0,1,5,8,10,12,13,14,15,16,16,16,16,16,16,16,16,16,15,14,13,12,11,10,9,8,7,6,5,4,3,2,1,0,1,6,10,13,16,18,20,22,24,25,26,27,28,29,30,31,32,32,32,32,32,32,32,32,32,32,32,32,32,32,32,32,32,31,30,29,28,27,26,25,24,23,22,21,20,19,18,17,16,15,14,13,12,11,10,9,8,7,6,5,4,3,2,1,0],[],[],[]⟩,1⟩
theorem Qsf:Vd (Zi 1 6)=some Qmi:=by kernel_rfl
def Qmj:Qz:=⟨Zi 2 0,1,⟨[0,0],[0,1],[],[]⟩,2⟩
theorem Qsg:Vd (Zi 2 0)=some Qmj:=by kernel_rfl
def Qmk:Qz:=⟨Zi 2 1,1,⟨[0,0,0,1,0],[0,1,0,1,1],[],[]⟩,2⟩
theorem Qsh:Vd (Zi 2 1)=some Qmk:=by kernel_rfl
def Qml:Qz:=⟨Zi 2 2,2,⟨[0,0,0,1,0,0,1,2,1,0],[0,1,0,1,1,0,1,3,2,1],[],[]⟩,2⟩
theorem Qsi:Vd (Zi 2 2)=some Qml:=by kernel_rfl
def Qmm:Qz:=⟨Zi 2 3,2,⟨[0,0,0,1,0,0,1,2,1,0,0,1,3,3,4,3,2,1,0],[0,1,0,1,1,0,1,3,2,1,0,1,3,4,5,4,3,2,1],[],[]⟩,2⟩
theorem Qsj:Vd (Zi 2 3)=some Qmm:=by kernel_rfl
def Qmn:Qz:=⟨Zi 2 4,2,⟨[0,0,0,1,0,0,1,2,1,0,0,1,3,3,4,3,2,1,0,0,1,3,4,6,6,7,7,8,7,6,5,4,3,2,1,0],[0,1,0,1,1,0,1,3,2,1,0,1,3,4,5,4,3,2,1,0,1,3,5,7,7,8,8,9,8,7,6,5,4,3,2,1],[],[]⟩,2⟩
theorem Qsk:Vd (Zi 2 4)=some Qmn:=by kernel_rfl
def Qmo:Qz:=⟨Zi 2 5,3,⟨[0,0,0,1,0,0,1,2,1,0,0,1,3,3,4,3,2,1,0,0,1,3,4,6,6,7,7,8,7,6,5,4,3,2,1,0,0,1,3,5,7,7,9,10,12,12,13,13,14,14,15,15,16,15,14,13,12,11,10,9,8,7,6,5,4,3,2,1,0],[0,1,0,1,1,0,1,3,2,1,0,1,3,4,5,4,3,2,1,0,1,3,5,7,7,8,8,9,8,7,6,5,4,3,2,1,0,1,3,5,7,8,10,11,13,13,14,14,15,15,16,16,17,16,15,14,13,12,11,10,9,8,7,6,5,4,3,2,1],[],[]⟩,2⟩
theorem Qsl:Vd (Zi 2 5)=some Qmo:=by kernel_rfl
def Qmp:Qz:=⟨Zi 2 6,3,⟨[0,0,0,1,0,0,1,2,1,0,0,1,3,3,4,3,2,1,0,0,1,3,4,6,6,7,7,8,7,6,5,4,3,2,1,0,0,1,3,5,7,7,9,10,12,12,13,13,14,14,15,15,16,15,14,13,12,11,10,9,8,7,6,5,4,3,2,1,0,0,1,3,5,7,8,10,12,14,14,16,17,19,19,21,22,24,24,25,25,26,26,27,27,28,28,29,29,30,30,31,31,32,31,30,29,28,27,26,25,24,23,22,21,20,19,18,17,16,15,14,13,12,11,10,9,8,7,6,5,4,3,2,1,0],[0,1,0,1,1,0,1,3,2,1,0,1,3,4,5,4,3,2,1,0,1,3,5,7,7,8,8,9,8,7,6,5,4,3,2,1,0,1,3,5,7,8,10,11,13,13,14,14,15,15,16,16,17,16,15,14,13,12,11,10,9,8,7,6,5,4,3,2,1,0,1,3,5,7,9,11,13,15,15,17,18,20,20,22,23,25,25,26,26,27,27,28,28,29,29,30,30,31,31,32,32,33,32,31,30,29,28,27,26,25,24,23,22,21,20,19,18,17,16,15,14,13,12,11,10,9,8,7,6,5,4,3,2,1],[],[]⟩,2⟩
theorem Qsm:Vd (Zi 2 6)=some Qmp:=by kernel_rfl
def Qmq:Qz:=⟨Zi 3 0,1,⟨[0,0],[0,1],[0,1],[0,2]⟩,4⟩
theorem Qsn:Vd (Zi 3 0)=some Qmq:=by kernel_rfl
def Qmr:Qz:=⟨Zi 3 1,1,⟨[0,0,0,1,0],[0,1,0,1,1],[0,1,0,2,1],[0,2,0,2,2]⟩,4⟩
theorem Qso:Vd (Zi 3 1)=some Qmr:=by kernel_rfl
def Qms:Qz:=⟨Zi 3 2,2,⟨[0,0,0,1,0,0,1,2,1,0],[0,1,0,1,1,0,1,3,2,1],[0,1,0,1,1,0,2,3,2,1],[0,2,0,2,2,0,2,4,3,2]⟩,4⟩
theorem Qsp:Vd (Zi 3 2)=some Qms:=by kernel_rfl
def Qmt:Qz:=⟨Zi 3 3,2,⟨[0,0,0,1,0,0,2,2,1,0,0,1,4,4,4,3,2,1,0],[0,1,0,1,1,0,1,3,2,1,0,1,5,5,5,4,3,2,1],[0,1,0,2,1,0,2,3,2,1,0,2,5,5,5,4,3,2,1],[0,2,0,2,2,0,2,4,3,2,0,2,6,6,6,5,4,3,2]⟩,4⟩
theorem Qsq:Vd (Zi 3 3)=some Qmt:=by kernel_rfl
def Qmu:Qz:=⟨Zi 3 4,2,⟨[0,0,0,1,0,0,1,2,1,0,0,2,3,3,4,3,2,1,0,0,1,4,5,6,6,7,7,8,7,6,5,4,3,2,1,0],[0,1,0,1,1,0,1,3,2,1,0,1,3,4,5,4,3,2,1,0,1,5,6,7,7,8,8,9,8,7,6,5,4,3,2,1],[0,1,0,1,1,0,2,3,2,1,0,2,3,4,5,4,3,2,1,0,2,5,6,7,7,8,8,9,8,7,6,5,4,3,2,1],[0,2,0,2,2,0,2,4,3,2,0,2,4,5,6,5,4,3,2,0,2,6,7,8,8,9,9,10,9,8,7,6,5,4,3,2]⟩,4⟩
theorem Qsr:Vd (Zi 3 4)=some Qmu:=by kernel_rfl
def Qmv:Qz:=⟨Zi 3 5,3,⟨[0,0,0,1,0,0,1,2,1,0,0,2,3,3,4,3,2,1,0,0,2,4,5,6,6,7,7,8,7,6,5,4,3,2,1,0,0,1,5,6,8,9,10,11,12,12,13,13,14,14,15,15,16,15,14,13,12,11,10,9,8,7,6,5,4,3,2,1,0],[0,1,0,1,1,0,1,3,2,1,0,1,3,4,5,4,3,2,1,0,1,5,6,7,7,8,8,9,8,7,6,5,4,3,2,1,0,1,5,7,9,10,11,12,13,13,14,14,15,15,16,16,17,16,15,14,13,12,11,10,9,8,7,6,5,4,3,2,1],[0,1,0,1,1,0,2,3,2,1,0,2,3,4,5,4,3,2,1,0,2,5,6,7,7,8,8,9,8,7,6,5,4,3,2,1,0,2,6,7,9,10,11,12,13,13,14,14,15,15,16,16,17,16,15,14,13,12,11,10,9,8,7,6,5,4,3,2,1],[0,2,0,2,2,0,2,4,3,2,0,2,4,5,6,5,4,3,2,0,2,6,7,8,8,9,9,10,9,8,7,6,5,4,3,2,0,2,6,8,10,11,12,13,14,14,15,15,16,16,17,17,18,17,16,15,14,13,12,11,10,9,8,7,6,5,4,3,2]⟩,4⟩
theorem Qss:Vd (Zi 3 5)=some Qmv:=by kernel_rfl
def Qmw:Qz:=⟨Zi 3 6,3,⟨[0,0,0,1,0,0,1,2,1,0,0,1,3,3,4,3,2,1,0,0,2,4,4,6,6,7,7,8,7,6,5,4,3,2,1,0,0,2,4,6,8,8,10,10,12,12,13,13,14,14,15,15,16,15,14,13,12,11,10,9,8,7,6,5,4,3,2,1,0,0,1,5,7,9,10,12,14,16,16,18,18,20,20,22,22,24,24,25,25,26,26,27,27,28,28,29,29,30,30,31,31,32,31,30,29,28,27,26,25,24,23,22,21,20,19,18,17,16,15,14,13,12,11,10,9,8,7,6,5,4,3,2,1,0],[0,1,0,1,1,0,1,3,2,1,0,1,3,4,5,4,3,2,1,0,1,3,5,7,7,8,8,9,8,7,6,5,4,3,2,1,0,1,5,7,9,9,11,11,13,13,14,14,15,15,16,16,17,16,15,14,13,12,11,10,9,8,7,6,5,4,3,2,1,0,1,5,7,9,11,13,15,17,17,19,19,21,21,23,23,25,25,26,26,27,27,28,28,29,29,30,30,31,31,32,32,33,32,31,30,29,28,27,26,25,24,23,22,21,20,19,18,17,16,15,14,13,12,11,10,9,8,7,6,5,4,3,2,1],[0,1,0,1,1,0,1,3,2,1,0,2,4,4,5,4,3,2,1,0,2,4,5,7,7,8,8,9,8,7,6,5,4,3,2,1,0,2,5,7,9,9,11,11,13,13,14,14,15,15,16,16,17,16,15,14,13,12,11,10,9,8,7,6,5,4,3,2,1,0,2,6,8,10,11,13,15,17,17,19,19,21,21,23,23,25,25,26,26,27,27,28,28,29,29,30,30,31,31,32,32,33,32,31,30,29,28,27,26,25,24,23,22,21,20,19,18,17,16,15,14,13,12,11,10,9,8,7,6,5,4,3,2,1],[0,2,0,2,2,0,2,4,3,2,0,2,4,5,6,5,4,3,2,0,2,4,6,8,8,9,9,10,9,8,7,6,5,4,3,2,0,2,6,8,10,10,12,12,14,14,15,15,16,16,17,17,18,17,16,15,14,13,12,11,10,9,8,7,6,5,4,3,2,0,2,6,8,10,12,14,16,18,18,20,20,22,22,24,24,26,26,27,27,28,28,29,29,30,30,31,31,32,32,33,33,34,33,32,31,30,29,28,27,26,25,24,23,22,21,20,19,18,17,16,15,14,13,12,11,10,9,8,7,6,5,4,3,2]⟩,4⟩
theorem Qst:Vd (Zi 3 6)=some Qmw:=by kernel_rfl
def tb (k d:Nat):Qz:=match k,d with
 | 1,0=>Qgh
 | 1,1=>Qmd
 | 1,2=>Qme
 | 1,3=>Qmf
 | 1,4=>Qmg
 | 1,5=>Qmh
 | 1,6=>Qmi
 | 2,0=>Qmj
 | 2,1=>Qmk
 | 2,2=>Qml
 | 2,3=>Qmm
 | 2,4=>Qmn
 | 2,5=>Qmo
 | 2,6=>Qmp
 | 3,0=>Qmq
 | 3,1=>Qmr
 | 3,2=>Qms
 | 3,3=>Qmt
 | 3,4=>Qmu
 | 3,5=>Qmv
 | 3,6=>Qmw
 | _,_=>Qgh
theorem nt {k d:Nat}(hk:1≤k∧k≤3)(hd:d≤6):Vd (Zi k d)=some (tb k d):=by
 rcases(show k=1∨k=2∨k=3 by omega) with rfl|rfl|rfl<;>rcases(show d=0∨d=1∨d=2∨d=3∨d=4∨d=5∨d=6 by omega) with rfl|rfl|rfl|rfl|rfl|rfl|rfl
 · exact Qs9
 · exact Qsa
 · exact Qsb
 · exact Qsc
 · exact Qsd
 · exact Qse
 · exact Qsf
 · exact Qsg
 · exact Qsh
 · exact Qsi
 · exact Qsj
 · exact Qsk
 · exact Qsl
 · exact Qsm
 · exact Qsn
 · exact Qso
 · exact Qsp
 · exact Qsq
 · exact Qsr
 · exact Qss
 · exact Qst
def wl (k d:Nat):List (Int × Int):=match k,d with
 | 1,0=>[(1,0),(1,0)]
 | 1,1=>[(1,0),(1,0),(1,0)]
 | 1,2=>[(1,0),(2,1),(2,1),(2,1),(2,1)]
 | 1,3=>[(1,0),(3,1),(4,2),(4,2),(4,2),(4,2),(4,2),(4,2),(4,2)]
 | 1,4=>[(1,0),(4,1),(6,2),(7,3),(8,4),(8,4),(8,4),(8,4),(8,4),(8,4),(8,4),(8,4),(8,4),(8,4),(8,4),(8,4),(8,4)]
 | 1,5=>[(1,0),(5,1),(8,2),(10,3),(12,4),(13,5),(14,6),(15,7),(16,8),(16,8),(16,8),(16,8),(16,8),(16,8),(16,8),(16,8),(16,8),(16,8),(16,8),(16,8),(16,8),(16,8),(16,8),(16,8),(16,8),(16,8),(16,8),(16,8),(16,8),(16,8),(16,8),(16,8),(16,8)]
 | 1,6=>[(1,0),(6,1),(10,2),(13,3),(16,4),(18,5),(20,6),(22,7),(24,8),(25,9),(26,10),(27,11),(28,12),(29,13),(30,14),(31,15),(32,16),(32,16),(32,16),(32,16),(32,16),(32,16),(32,16),(32,16),(32,16),(32,16),(32,16),(32,16),(32,16),(32,16),(32,16),(32,16),(32,16),(32,16),(32,16),(32,16),(32,16),(32,16),(32,16),(32,16),(32,16),(32,16),(32,16),(32,16),(32,16),(32,16),(32,16),(32,16),(32,16),(32,16),(32,16),(32,16),(32,16),(32,16),(32,16),(32,16),(32,16),(32,16),(32,16),(32,16),(32,16),(32,16),(32,16),(32,16),(32,16)]
 | 2,0=>[(1,0),(1,0)]
 | 2,1=>[(1,0),(1,0),(1,0)]
 | 2,2=>[(1,0),(1,0),(2,2),(2,2),(2,2)]
 | 2,3=>[(1,0),(1,0),(3,2),(3,2),(4,4),(4,4),(4,4),(4,4),(4,4)]
 | 2,4=>[(1,0),(1,0),(3,2),(4,3),(6,4),(6,4),(7,6),(7,6),(8,8),(8,8),(8,8),(8,8),(8,8),(8,8),(8,8),(8,8),(8,8)]
 | 2,5=>[(1,0),(1,0),(3,2),(5,3),(7,4),(7,4),(9,6),(10,7),(12,8),(12,8),(13,10),(13,10),(14,12),(14,12),(15,14),(15,14),(16,16),(16,16),(16,16),(16,16),(16,16),(16,16),(16,16),(16,16),(16,16),(16,16),(16,16),(16,16),(16,16),(16,16),(16,16),(16,16),(16,16)]
 | 2,6=>[(1,0),(1,0),(3,2),(5,3),(7,4),(8,5),(10,6),(12,7),(14,8),(14,8),(16,10),(17,11),(19,12),(19,12),(21,14),(22,15),(24,16),(24,16),(25,18),(25,18),(26,20),(26,20),(27,22),(27,22),(28,24),(28,24),(29,26),(29,26),(30,28),(30,28),(31,30),(31,30),(32,32),(32,32),(32,32),(32,32),(32,32),(32,32),(32,32),(32,32),(32,32),(32,32),(32,32),(32,32),(32,32),(32,32),(32,32),(32,32),(32,32),(32,32),(32,32),(32,32),(32,32),(32,32),(32,32),(32,32),(32,32),(32,32),(32,32),(32,32),(32,32),(32,32),(32,32),(32,32),(32,32)]
 | 3,0=>[(1,0),(1,0)]
 | 3,1=>[(1,0),(1,0),(1,0)]
 | 3,2=>[(1,0),(1,0),(2,2),(2,2),(2,2)]
 | 3,3=>[(1,0),(1,0),(4,2),(4,2),(4,2),(4,2),(4,2),(4,2),(4,2)]
 | 3,4=>[(1,0),(1,0),(4,2),(5,3),(6,4),(6,4),(7,6),(7,6),(8,8),(8,8),(8,8),(8,8),(8,8),(8,8),(8,8),(8,8),(8,8)]
 | 3,5=>[(1,0),(1,0),(5,2),(6,3),(8,4),(9,5),(10,6),(11,7),(12,8),(12,8),(13,10),(13,10),(14,12),(14,12),(15,14),(15,14),(16,16),(16,16),(16,16),(16,16),(16,16),(16,16),(16,16),(16,16),(16,16),(16,16),(16,16),(16,16),(16,16),(16,16),(16,16),(16,16),(16,16)]
 | 3,6=>[(1,0),(1,0),(5,2),(7,3),(9,4),(10,5),(12,6),(14,7),(16,8),(16,8),(18,10),(18,10),(20,12),(20,12),(22,14),(22,14),(24,16),(24,16),(25,18),(25,18),(26,20),(26,20),(27,22),(27,22),(28,24),(28,24),(29,26),(29,26),(30,28),(30,28),(31,30),(31,30),(32,32),(32,32),(32,32),(32,32),(32,32),(32,32),(32,32),(32,32),(32,32),(32,32),(32,32),(32,32),(32,32),(32,32),(32,32),(32,32),(32,32),(32,32),(32,32),(32,32),(32,32),(32,32),(32,32),(32,32),(32,32),(32,32),(32,32),(32,32),(32,32),(32,32),(32,32),(32,32),(32,32)]
 | _,_=>[]
def Wk (k d r:Nat):Int × Int:=(wl k d).getD r (0,0)
theorem Qxi:∀ k∈[1,2,3],∀ d∈List.range 7,∀ r∈List.range (2^d+1),Rw (tb k d) (r:Int)=some (Wk k d r):=by decide +kernel
def ll (k d:Nat):List (Int × List Int × Int):=match k,d with
 | 1,0=>[(0,[],1)]
 | 1,1=>[(0,[],1)]
 | 1,2=>[(0,[],1),(1,[3],2)]
 | 1,3=>[(0,[],1),(1,[7],3),(2,[3,7],4)]
 | 1,4=>[(0,[],1),(1,[15],4),(2,[7,15],6),(3,[7,11,15],7),(4,[3,7,11,15],8)]
 | 1,5=>[(0,[],1),(1,[31],5),(2,[15,31],8),(3,[15,23,31],10),(4,[7,15,23,31],12),(5,[7,15,23,27,31],13),(6,[7,15,19,23,27,31],14),(7,[7,11,15,19,23,27,31],15),(8,[3,7,11,15,19,23,27,31],16)]
 | 1,6=>[(0,[],1),(1,[63],6),(2,[31,63],10),(3,[31,47,63],13),(4,[15,31,47,63],16),(5,[15,31,47,55,63],18),(6,[15,31,39,47,55,63],20),(7,[15,23,31,39,47,55,63],22),(8,[7,15,23,31,39,47,55,63],24),(9,[7,15,23,31,39,47,55,59,63],25),(10,[7,15,23,31,39,47,51,55,59,63],26),(11,[7,15,23,31,39,43,47,51,55,59,63],27),(12,[7,15,23,31,35,39,43,47,51,55,59,63],28),(13,[7,15,23,27,31,35,39,43,47,51,55,59,63],29),(14,[7,15,19,23,27,31,35,39,43,47,51,55,59,63],30),(15,[7,11,15,19,23,27,31,35,39,43,47,51,55,59,63],31),(16,[3,7,11,15,19,23,27,31,35,39,43,47,51,55,59,63],32)]
 | 2,0=>[(0,[],1)]
 | 2,1=>[(0,[],1)]
 | 2,2=>[(0,[],1),(2,[1,3],2)]
 | 2,3=>[(0,[],1),(2,[5,7],3),(4,[1,3,5,7],4)]
 | 2,4=>[(0,[],1),(2,[13,15],3),(3,[11,13,15],4),(4,[5,7,13,15],6),(6,[5,7,9,11,13,15],7),(8,[1,3,5,7,9,11,13,15],8)]
 | 2,5=>[(0,[],1),(2,[29,31],3),(3,[23,29,31],5),(4,[21,23,29,31],7),(6,[13,15,21,23,29,31],9),(7,[11,13,15,21,23,29,31],10),(8,[5,7,13,15,21,23,29,31],12),(10,[5,7,13,15,21,23,25,27,29,31],13),(12,[5,7,13,15,17,19,21,23,25,27,29,31],14),(14,[5,7,9,11,13,15,17,19,21,23,25,27,29,31],15),(16,[1,3,5,7,9,11,13,15,17,19,21,23,25,27,29,31],16)]
 | 2,6=>[(0,[],1),(2,[61,63],3),(3,[55,61,63],5),(4,[53,55,61,63],7),(5,[47,53,55,61,63],8),(6,[45,47,53,55,61,63],10),(7,[23,29,31,53,55,61,63],12),(8,[21,23,29,31,53,55,61,63],14),(10,[21,23,29,31,45,47,53,55,61,63],16),(11,[23,29,31,37,39,45,47,53,55,61,63],17),(12,[21,23,29,31,37,39,45,47,53,55,61,63],19),(14,[13,15,21,23,29,31,37,39,45,47,53,55,61,63],21),(15,[11,13,15,21,23,29,31,37,39,45,47,53,55,61,63],22),(16,[5,7,13,15,21,23,29,31,37,39,45,47,53,55,61,63],24),(18,[5,7,13,15,21,23,29,31,37,39,45,47,53,55,57,59,61,63],25),(20,[5,7,13,15,21,23,29,31,37,39,45,47,49,51,53,55,57,59,61,63],26),(22,[5,7,13,15,21,23,29,31,37,39,41,43,45,47,49,51,53,55,57,59,61,63],27),(24,[5,7,13,15,21,23,29,31,33,35,37,39,41,43,45,47,49,51,53,55,57,59,61,63],28),(26,[5,7,13,15,21,23,25,27,29,31,33,35,37,39,41,43,45,47,49,51,53,55,57,59,61,63],29),(28,[5,7,13,15,17,19,21,23,25,27,29,31,33,35,37,39,41,43,45,47,49,51,53,55,57,59,61,63],30),(30,[5,7,9,11,13,15,17,19,21,23,25,27,29,31,33,35,37,39,41,43,45,47,49,51,53,55,57,59,61,63],31),(32,[1,3,5,7,9,11,13,15,17,19,21,23,25,27,29,31,33,35,37,39,41,43,45,47,49,51,53,55,57,59,61,63],32)]
 | 3,0=>[(0,[],1)]
 | 3,1=>[(0,[],1)]
 | 3,2=>[(0,[],1),(2,[1,3],2)]
 | 3,3=>[(0,[],1),(2,[3,7],4)]
 | 3,4=>[(0,[],1),(2,[7,15],4),(3,[7,13,15],5),(4,[5,7,13,15],6),(6,[5,7,9,11,13,15],7),(8,[1,3,5,7,9,11,13,15],8)]
 | 3,5=>[(0,[],1),(2,[23,31],5),(3,[23,29,31],6),(4,[7,15,23,31],8),(5,[7,15,23,29,31],9),(6,[7,15,21,23,29,31],10),(7,[7,13,15,21,23,29,31],11),(8,[5,7,13,15,21,23,29,31],12),(10,[5,7,13,15,21,23,25,27,29,31],13),(12,[5,7,13,15,17,19,21,23,25,27,29,31],14),(14,[5,7,9,11,13,15,17,19,21,23,25,27,29,31],15),(16,[1,3,5,7,9,11,13,15,17,19,21,23,25,27,29,31],16)]
 | 3,6=>[(0,[],1),(2,[47,63],5),(3,[47,61,63],7),(4,[45,47,61,63],9),(5,[31,45,47,61,63],10),(6,[29,31,45,47,61,63],12),(7,[15,29,31,45,47,61,63],14),(8,[13,15,29,31,45,47,61,63],16),(10,[13,15,29,31,45,47,53,55,61,63],18),(12,[13,15,29,31,37,39,45,47,53,55,61,63],20),(14,[13,15,21,23,29,31,37,39,45,47,53,55,61,63],22),(16,[5,7,13,15,21,23,29,31,37,39,45,47,53,55,61,63],24),(18,[5,7,13,15,21,23,29,31,37,39,45,47,53,55,57,59,61,63],25),(20,[5,7,13,15,21,23,29,31,37,39,45,47,49,51,53,55,57,59,61,63],26),(22,[5,7,13,15,21,23,29,31,37,39,41,43,45,47,49,51,53,55,57,59,61,63],27),(24,[5,7,13,15,21,23,29,31,33,35,37,39,41,43,45,47,49,51,53,55,57,59,61,63],28),(26,[5,7,13,15,21,23,25,27,29,31,33,35,37,39,41,43,45,47,49,51,53,55,57,59,61,63],29),(28,[5,7,13,15,17,19,21,23,25,27,29,31,33,35,37,39,41,43,45,47,49,51,53,55,57,59,61,63],30),(30,[5,7,9,11,13,15,17,19,21,23,25,27,29,31,33,35,37,39,41,43,45,47,49,51,53,55,57,59,61,63],31),(32,[1,3,5,7,9,11,13,15,17,19,21,23,25,27,29,31,33,35,37,39,41,43,45,47,49,51,53,55,57,59,61,63],32)]
 | _,_=>[]
def Rm (k d r:Nat):List Int:=((ll k d).find? fun x=>decide (x.1=(Wk k d r).2)).elim [] (·.2.1)
theorem Qrz:∀ k∈[1,2,3],∀ d∈List.range 7,∀ x∈ll k d,Ih (tb k d) [] 1 0 (d:Int) x.1=some x.2.1∧x.2.1.length=x.1.toNat:=by decide +kernel
theorem Qry:∀ k∈[1,2,3],∀ d∈List.range 7,∀ r∈List.range (2^d+1),∃ x∈(ll k d).find? (fun x=>decide (x.1=(Wk k d r).2)),x.2.2=(Wk k d r).1∧0≤x.1∧x.1≤(r:Int):=by decide +kernel
end Go.Sx.Pn

end
section
set_option linter.unusedVariables false
set_option linter.unusedSimpArgs false
namespace Go.Sx
open Go
theorem Dv (n k:Nat)(h:2^k≤n):Nat.log2 n=Nat.log2 (n / 2^k)+k:=by
 induction k generalizing n with
 | zero=>simp
 | succ k ih=>
  have h2:2^k≤n / 2:=by rw[Nat.le_div_iff_mul_le (by omega)];rw[Nat.pow_succ] at h;omega
  have h1:2≤n:=by have:0<2^k:=Nat.two_pow_pos k;rw[Nat.pow_succ] at h;omega
  rw[Nat.log2_def,if_pos h1,ih (n / 2) h2,Nat.div_div_eq_div_mul,Nat.pow_succ,Nat.mul_comm 2];omega
theorem Rl {n:Nat}(h:2≤n):Nat.log2 n=Nat.log2 (n / 2)+1:=by rw[Nat.log2_def,if_pos h]
theorem Qf0 {m n:Nat}(h:m≤n):Nat.log2 m≤Nat.log2 n:=by
 rcases Nat.eq_zero_or_pos m with h0|h0
 · subst h0;rw[Nat.log2_zero];omega
 · exact(Nat.le_log2 (by omega)).2 (Nat.le_trans (Nat.log2_self_le (by omega)) h)
theorem Qb8 {n:Nat}(h:n<9223372036854775808):Nat.log2 n≤62:=by
 rcases Nat.eq_zero_or_pos n with h0|h0
 · subst h0;rw[Nat.log2_zero];omega
 · have:Nat.log2 n<63:=(Nat.log2_lt (by omega)).2 (by omega)
   omega
theorem Qwu {n:Nat}(h:n<9223372036854775808):un (wd (n:Int))=(n:Int):=Qgk _ (by omega) (by omega)
theorem Qru {n:Nat}(h:1≤n):lg (n:Int)=(Nat.log2 n:Int)+1:=by unfold lg;rw[Int.toNat_natCast,if_neg (by omega)]
theorem Qey {n:Nat}(h1:1≤n)(h:n<9223372036854775808):Dp (n:Int)=some (Nat.log2 n:Int):=by
 have:=Qb8 h
 unfold Dp
 rw[Qwu h,Qru h1,Jc (by omega) (by omega),Int.add_sub_cancel]
theorem Qce (n:Nat)(h:n<9223372036854775808):Sj (n:Int) 2=some ((n / 2:Nat):Int):=by
 unfold Sj
 rw[if_neg (by decide),show(n:Int).tdiv 2=((n / 2:Nat):Int) from by rw[Int.tdiv_eq_ediv_of_nonneg (by omega)];omega,Jc (by omega) (by omega)]
theorem Qlm:∀ (f n k:Nat),n<9223372036854775808→Nat.log2 n<f→k+Nat.log2 n≤1000→Qs Uc f ((n:Int),(k:Int))=some ((k+Nat.log2 n:Nat):Int)
 | 0,n,k,_,h,_=>by omega
 | f+1,n,k,h,hf,hk=>by
  rw[Jm];simp only[Uc]
  by_cases h2:2≤n
  · have hh:=Rl h2
    rw[if_pos (by omega),Qce n h,bind_some,Jc (by omega) (by omega)]
    have:=Qlm f (n / 2) (k+1) (by omega) (by omega) (by omega)
    rw[show(k:Int)+1=((k+1:Nat):Int) from by omega,this,hh];congr 2;omega
  · rw[if_neg (by omega)]
    have:Nat.log2 n=0:=by rw[Nat.log2_def,if_neg (by omega)]
    rw[this,Nat.add_zero]
theorem Qv5 {n:Nat}(h:n<9223372036854775808):Oa (n:Int)=some (Nat.log2 n:Int):=by
 have:=Qb8 h
 have:=Qlm Qy n 0 h (Ye (by omega)) (by omega)
 unfold Oa
 rw[show(0:Int)=((0:Nat):Int) from rfl,this,Nat.zero_add]
def Ks (w v:Nat):Bool:=decide (Nat.log2 v≤Nat.log2 w∧w / 2^(Nat.log2 w-Nat.log2 v)=v)
theorem Qo4 {w v:Nat}(hv:1≤v)(h:v<w):Ks w v=Ks (w / 2) v:=by
 have hh:=Rl (n:=w) (by omega)
 have hm:=Qf0 (Nat.le_of_lt h)
 unfold Ks
 by_cases hl:Nat.log2 v≤Nat.log2 (w / 2)
 · have e:Nat.log2 w-Nat.log2 v=(Nat.log2 (w / 2)-Nat.log2 v)+1:=by omega
   have e2:w / 2^(Nat.log2 w-Nat.log2 v)=w / 2 / 2^(Nat.log2 (w / 2)-Nat.log2 v):=by rw[e,Nat.div_div_eq_div_mul,Nat.pow_succ,Nat.mul_comm 2]
   rw[e2]
   apply decide_eq_decide.2
   constructor
   · rintro⟨_,h2⟩;exact⟨hl,h2⟩
   · rintro⟨_,h2⟩;exact⟨hm,h2⟩
 · rw[decide_eq_false (p:=_∧w / 2 / 2^_=v) (fun hc=>hl hc.1)]
   apply decide_eq_false
   rintro⟨_,h2⟩
   rw[show Nat.log2 w-Nat.log2 v=0 from by omega,Nat.pow_zero,Nat.div_one] at h2
   omega
theorem Qo3 {w v:Nat}(hw:1≤w)(h:w≤v):Ks w v=decide (w=v):=by
 unfold Ks
 by_cases e:w=v
 · subst e;simp
 · rw[decide_eq_false e]
   apply decide_eq_false
   rintro⟨h1,h2⟩
   have:=Qf0 h
   rw[show Nat.log2 w-Nat.log2 v=0 from by omega,Nat.pow_zero,Nat.div_one] at h2
   exact e h2
theorem Qgb (n k:Nat)(hk:k≤64):Ns (n:Int) k=((n / 2^k:Nat):Int):=by
 unfold Ns
 rw[Nat.min_eq_left hk,Int.natCast_ediv,Int.natCast_pow];rfl
theorem Ql0 {v:Nat}(hv:1≤v):∀ (f w:Nat),1≤w→w<9223372036854775808→Nat.log2 w<f→Qs (My (v:Int)) f (w:Int)=some (Ks w v)
 | 0,w,_,_,h=>by omega
 | f+1,w,hw,hw2,hf=>by
  rw[Jm];simp only[My]
  by_cases h:v<w
  · have hh:=Rl (n:=w) (by omega)
    rw[if_pos (by omega),Qce w hw2,bind_some,Ql0 hv f (w / 2) (by omega) (by omega) (by omega),Qo4 hv h]
  · rw[if_neg (by omega),Qo3 hw (by omega)]
    congr 1
    apply decide_eq_decide.2;omega
theorem Qkz {w v:Nat}(hw:1≤w)(hv:1≤v)(hw2:w<9223372036854775808):Iu (w:Int) (v:Int)=some (Ks w v):=by
 have:=Qb8 hw2
 exact Ql0 hv Qy w hw hw2 (Ye (by omega))
def Pd (d:Nat):Nat:=if d≤1 then 1 else if d≤4 then 2 else 3
theorem Qm8 (d:Nat):1≤Pd d:=by unfold Pd;split;omega;split<;>omega
theorem Qfr:∀ d:Fin 7,Yo (d.1:Int)=some ((2^d.1:Nat):Int):=by decide +kernel
theorem Nj {d:Nat}(h:d≤6):Yo (d:Int)=some ((2^d:Nat):Int):=Qfr ⟨d,by omega⟩
theorem Qwf:∀ d:Fin 7,Ug (d.1:Int)=some ((Pd d.1:Nat):Int):=by decide +kernel
theorem Qvm {d:Nat}(h:d≤6):Ug (d:Int)=some ((Pd d:Nat):Int):=Qwf ⟨d,by omega⟩
theorem Yh {d:Nat}(h:d≤6):2^d≤64:=Nat.le_trans (Nat.pow_le_pow_right (by omega) h) (by decide)
theorem Qga {d:Nat}(h:d≤6):Xr 1 d=((2^d:Nat):Int):=by
 have:=Yh h
 unfold Xr
 rw[Nat.min_eq_left (by omega),Int.one_mul,show(2:Int)^d=((2^d:Nat):Int) from by rw[Int.natCast_pow];rfl]
 generalize 2^d=m at *
 exact Jc (by omega) (by omega)
theorem Qd4 (n:Nat):Ju (n:Int)=some n:=by unfold Ju;rw[if_pos (by omega)];rfl
theorem Qm2 {k:BitVec 8}{d:Nat}{st:Int}(h:d≤6):Re ⟨k,(d:Int),st⟩=some ((2^d:Nat):Int):=by
 unfold Re
 rw[Qd4,bind_some,Qga h]
def Qaw (d:Nat)(v:Int):Bool:=decide (1≤v∧v<2*(2^d:Nat))
theorem Qkb {d:Nat}{v:Int}(h:d≤6):Ud (d:Int) v=some (Qaw d v):=by
 have:=Yh h
 unfold Ud Qaw
 by_cases h1:1≤v
 · rw[if_pos h1,Nj h,bind_some]
   generalize 2^d=m at *
   rw[Jc (by omega) (by omega)]
   congr 1;apply decide_eq_decide.2;omega
 · rw[if_neg h1];congr 1;symm;apply decide_eq_false;omega
def Pc (d v:Nat):Bool:=decide (Nat.log2 v%Pd d=0)
theorem Qli (a b:Nat)(hb:1≤b):Ss (a:Int) (b:Int)=some ((a%b:Nat):Int):=by
 unfold Ss
 rw[if_neg (by omega),Int.tmod_eq_emod_of_nonneg (by omega),Int.natCast_emod]
theorem Qm4 {k:BitVec 8}{d v:Nat}(hv:1≤v)(hv2:v<9223372036854775808):Gn ⟨k,(d:Int),(Pd d:Int)⟩ (v:Int)=some (Pc d v):=by
 unfold Gn Pc
 rw[Qey hv hv2,bind_some,Qli _ _ (Qm8 d),bind_some]
 congr 1;apply decide_eq_decide.2;omega
theorem Qlr {d v:Nat}(hd:d≤6)(hv2:v<9223372036854775808):Uf (d:Int) (v:Int)=some (Pc d v):=by
 unfold Uf Pc
 rw[Qv5 hv2,bind_some,Qvm hd,bind_some,Qli _ _ (Qm8 d),bind_some]
 congr 1;apply decide_eq_decide.2;omega
def Vf (w:Nat):Nat→List Nat
 | 0=>[]
 | k+1=>w / 2^k::Vf w k
theorem Qt9 (w k:Nat):Vf w (k+1)=Vf (w / 2) k++[w]:=by
 induction k with
 | zero=>simp[Vf]
 | succ k ih=>rw[Vf,ih,Vf,List.cons_append,Nat.div_div_eq_div_mul,Nat.pow_succ,Nat.mul_comm 2]
theorem Qbd (w k:Nat):(Vf w k).length=k:=by
 induction k with
 | zero=>rfl
 | succ k ih=>simp[Vf,ih]
theorem Qkk {w k n:Nat}(hk:2^k≤w)(h:n∈Vf w k):1≤n∧n≤w:=by
 induction k with
 | zero=>cases h
 | succ k ih=>
  have hk':2^k≤w:=by rw[Nat.pow_succ] at hk;omega
  rcases List.mem_cons.1 h with rfl|h
  · exact⟨(Nat.le_div_iff_mul_le (Nat.two_pow_pos k)).2 (by omega),Nat.div_le_self _ _⟩
  · exact ih hk' h
theorem Qez {w k:Nat}(hk:2^k≤w):Nat.log2 (w / 2^k)=Nat.log2 w-k:=by have:=Dv w k hk;omega
theorem Qi1 {w k:Nat}(hk:2^k≤w):1≤w / 2^k:=(Nat.le_div_iff_mul_le (Nat.two_pow_pos k)).2 (by omega)
theorem Qwl {w k:Nat}(hk:2^(k+1)≤w)(hw:w<9223372036854775808):Li ((w / 2^(k+1):Nat):Int) (w:Int)=some ((w / 2^k:Nat):Int):=by
 have hp:=Nat.two_pow_pos (k+1)
 have l1:=Qb8 hw
 have hl:=Dv w (k+1) hk
 unfold Li
 rw[Qey (by omega) hw,bind_some,Qey (Qi1 hk) (Nat.lt_of_le_of_lt (Nat.div_le_self _ _) hw),bind_some,Jc (n:=(Nat.log2 w:Int)-(Nat.log2 (w / 2^(k+1)):Int)) (by omega) (by omega),Jc (by omega) (by omega)]
 rw[show(Nat.log2 w:Int)-(Nat.log2 (w / 2^(k+1)):Int)-1=((k:Nat):Int) from by omega,Qd4,bind_some,Qgb _ _ (by omega)]
theorem Qkl {w:Nat}(hw:w<9223372036854775808):∀ (k f:Nat),k<f→2^k≤w→Qs (Fz (w:Int)) f ((w / 2^k:Nat):Int)=some ((Vf w k).map Int.ofNat)
 | k,0,h,_=>by omega
 | 0,f+1,_,_=>by
  rw[Jm];simp only[Fz]
  rw[if_neg (by simp)];rfl
 | k+1,f+1,h,hk=>by
  rw[Jm];simp only[Fz]
  have h1:w / 2^(k+1)<w:=Nat.div_lt_self (by have:=Nat.two_pow_pos (k+1);omega) (Nat.one_lt_two_pow (by omega))
  rw[if_pos (by omega),Qwl hk hw,bind_some,Qkl hw k f (by omega) (by rw[Nat.pow_succ] at hk;omega)]
  rfl
theorem Qta {w k:Nat}(hw:w<9223372036854775808)(hk:2^k≤w)(hk2:k≤64):Ez ((w / 2^k:Nat):Int) (w:Int)=some ((Vf w k).map Int.ofNat):=Qkl hw k Qy (Ye (by omega)) hk
theorem Qe0 {w j k:Nat}(hk:2^k≤w)(hj:j<k):w / 2^j≠w / 2^k:=fun e=>by
 have h1:=Qez hk
 have h2:=Qez (w:=w) (k:=j) (Nat.le_trans (Nat.pow_le_pow_right (by omega) (by omega)) hk)
 have h3:=Dv w k hk
 rw[e] at h2;omega
theorem Qlp {w k:Nat}(hw:w<9223372036854775808)(hk:2^k≤w)(hk2:k≤64):∀ (m j f:Nat),j+m=k→m<f→Qs (Bb ((w / 2^k:Nat):Int)) f (((w / 2^j:Nat):Int),(Vf w j).map Int.ofNat)=some (((w / 2^k:Nat):Int)::(Vf w k).map Int.ofNat)
 | m,j,0,_,h=>by omega
 | 0,j,f+1,hj,_=>by
  obtain rfl:j=k:=by omega
  rw[Jm];simp only[Bb]
  rw[if_neg (by simp),Hj (by simp[Qbd];omega),bind_some];rfl
 | m+1,j,f+1,hj,hf=>by
  rw[Jm];simp only[Bb]
  have hne:=Qe0 hk (show j<k by omega)
  have Xy:w / 2^j<9223372036854775808:=Nat.lt_of_le_of_lt (Nat.div_le_self _ _) hw
  rw[if_pos (by omega),Hj (by simp[Qbd];omega),bind_some,Qce _ Xy,bind_some,Nat.div_div_eq_div_mul,←Nat.pow_succ]
  exact Qlp hw hk hk2 m (j+1) f (by omega) (by omega)
theorem Qvf {w k:Nat}(hw:w<9223372036854775808)(hk:2^k≤w)(hk2:k≤64):Ob ((w / 2^k:Nat):Int) (w:Int)=some (((w / 2^k:Nat):Int)::(Vf w k).map Int.ofNat):=by
 have:=Qlp hw hk hk2 k 0 Qy (by omega) (Ye (by omega))
 rw[Nat.pow_zero,Nat.div_one] at this
 exact this
end Go.Sx

end
section
set_option linter.unusedVariables false
set_option linter.unusedSimpArgs false
namespace Go.Sx
open Go
def zG:Xz:=Xz.mk 0#64 0#64 0#64
def Vl (s:Qo):Bool:=decide (1#8≤s.Kind∧s.Kind≤3#8∧0≤s.Depth∧s.Depth≤6∧s.Degree=0∧s.Group=zG)
theorem Qgl (s:Qo):Nl s=some (Vl s):=by
 unfold Nl Vl zG
 by_cases h1:1#8≤s.Kind
 · by_cases h2:s.Kind≤3#8
   · by_cases h3:0≤s.Depth
     · by_cases h4:s.Depth≤6
       · by_cases h5:s.Degree=0
         · simp[h1,h2,h3,h4,h5]
         · simp[h1,h2,h3,h4,h5]
       · simp[h1,h2,h3,h4]
     · simp[h1,h2,h3]
   · simp[h1,h2]
 · simp[h1]
theorem Qgm {s:Qo}(h:Vl s=true):∃ d:Nat,s.Depth=(d:Int)∧d≤6:=by
 unfold Vl at h
 have:=of_decide_eq_true h
 exact⟨s.Depth.toNat,by omega,by omega⟩
theorem Qgi (s:Qo)(n:Nat)(a:Int):Qs (Ra s) (n+1) a=if Qb (a*a)<s.Depth then Qs (Ra s) n (Qb (a+1)) else some (Xl.mk s.Kind s.Depth a,true):=rfl
theorem Qwn (s:Qo){d:Nat}(hd:s.Depth=(d:Int))(h:d≤6):Qs (Ra s) Qy 1=some (Xl.mk s.Kind (d:Int) (Pd d:Int),true):=by
 have e1:Qb (1*1)=1:=by decide
 have e2:Qb (1+1)=2:=by decide
 have e3:Qb (2*2)=4:=by decide
 have e4:Qb (2+1)=3:=by decide
 have e5:Qb (3*3)=9:=by decide
 rw[show Qy=18446744073709551613+3 from rfl,Qgi,e1,e2,hd]
 unfold Pd
 by_cases h1:d≤1
 · rw[if_neg (by omega),if_pos h1,←hd];rfl
 · rw[if_pos (by omega),if_neg h1,show 18446744073709551613+2=18446744073709551614+1 from rfl,Qgi,e3,e4,hd]
   by_cases h2:d≤4
   · rw[if_neg (by omega),if_pos h2,←hd];rfl
   · rw[if_pos (by omega),if_neg h2,show 18446744073709551614=18446744073709551613+1 from rfl,Qgi,e5,hd,if_neg (by omega),←hd];rfl
def Vh (s:Qo):Xl:=Xl.mk s.Kind s.Depth (Pd s.Depth.toNat:Int)
theorem Qwm (s:Qo):Co s=some (if Vl s then(Vh s,true) else(Xl.mk 0#8 0 0,false)):=by
 unfold Co Lj
 by_cases hv:Vl s=true
 · rw[if_pos hv]
   obtain⟨d,hd,h6⟩:=Qgm hv
   unfold Vl at hv
   obtain⟨h1,h2,h3,h4,h5,h7⟩:=of_decide_eq_true hv
   have hs:s=Qo.mk s.Kind s.Depth 0 (Xz.mk 0#64 0#64 0#64):=by cases s;simp only at *;rw[h5,h7];rfl
   rw[if_neg (by rw[BitVec.not_lt];exact h1),if_neg (by rw[BitVec.not_lt];exact h2),if_neg (by omega),if_neg (by omega),decide_eq_false (by simpa using hs)]
   simp only[cond_false]
   rw[Qwn s hd h6]
   unfold Vh
   rw[hd,Int.toNat_natCast]
 · rw[if_neg hv]
   have hn:¬ (1#8≤s.Kind∧s.Kind≤3#8∧0≤s.Depth∧s.Depth≤6∧s.Degree=0∧s.Group=zG):=fun h=>hv (by unfold Vl;exact decide_eq_true h)
   by_cases h1:s.Kind<1#8
   · rw[if_pos h1];rfl
   · rw[if_neg h1]
     by_cases h2:3#8<s.Kind
     · rw[if_pos h2];rfl
     · rw[if_neg h2]
       by_cases h3:s.Depth<0
       · rw[if_pos h3];rfl
       · rw[if_neg h3]
         by_cases h4:(6:Int)<s.Depth
         · rw[if_pos h4];rfl
         · rw[if_neg h4,decide_eq_true (p:=s≠_)]
           · rfl
           · intro hs
             refine hn ⟨BitVec.not_lt.1 h1,BitVec.not_lt.1 h2,by omega,by omega,?_,?_⟩
             · rw[hs]
             · rw[hs];rfl
def Pz (d:Nat)(l:List Nat):Nat:=(l.find? (Pc d)).getD 0
theorem Qjc {k:BitVec 8}{d:Nat}:∀ (l:List Nat),(∀ n∈l,1≤n∧n<9223372036854775808)→
 Ku (Cn ⟨k,(d:Int),(Pd d:Int)⟩) Ev (l.map Int.ofNat) 0=some ((Pz d l:Nat):Int)
 | [],_=>rfl
 | a::l,h=>by
  rw[List.map_cons,Mg]
  simp only[Cn]
  have ha:=h a (by simp)
  rw[show(Int.ofNat a)=(a:Int) from rfl,Qm4 ha.1 ha.2,bind_some]
  unfold Pz
  rw[List.find?_cons]
  cases hs:Pc d a with
  | true=>rfl
  | false=>exact Qjc l (fun n hn=>h n (by simp[hn]))
theorem Qh2 {d:Nat}(hd:d≤6)(v m:Nat)(l:List Nat)(hl:l.length≤64)(hb:∀ n∈l,n<9223372036854775808):∀ (r:List Nat) (j f:Nat),j+r.length=l.length→l.drop j=r→r.length<f→
 Qs (Bd (d:Int) ((v:Int)::(l++[m]).map Int.ofNat)) f ((j+1:Nat):Int)=some ((Pz d r:Nat):Int)
 | r,j,0,_,_,h=>by omega
 | [],j,f+1,hj,hr,_=>by
  rw[Jm];simp only[Bd]
  rw[Jc (by simp;omega) (by simp;omega),if_neg (by simp;simp at hj;omega)];rfl
 | a::r,j,f+1,hj,hr,hf=>by
  rw[Jm];simp only[Bd]
  have hjl:j<l.length:=by simp at hj;omega
  have ha:l[j]=a:=by
   have:=List.drop_eq_getElem_cons hjl;rw[hr] at this;exact(List.cons.inj this).1.symm
  have hr':l.drop (j+1)=r:=by
   have:=List.drop_eq_getElem_cons hjl;rw[hr] at this;exact(List.cons.inj this).2.symm
  have hg:Xd ((v:Int)::(l++[m]).map Int.ofNat) ((j+1:Nat):Int)=some (a:Int):=by
   rw[Yu (by simp;omega)]
   simp only[List.map_append,List.getElem_cons_succ,List.getElem_append_left (show j<(l.map Int.ofNat).length by simpa using hjl),List.getElem_map,ha];rfl
  rw[Jc (by simp;omega) (by simp;omega),if_pos (by simp;omega),hg,bind_some,Qlr hd (hb a (by rw[←ha];exact List.getElem_mem hjl)),bind_some]
  unfold Pz
  rw[List.find?_cons]
  cases hs:Pc d a with
  | true=>rfl
  | false=>
   simp only[cond_false]
   rw[Jc (by simp at hj;omega) (by simp at hj;omega),show((j+1:Nat):Int)+1=((j+1+1:Nat):Int) from by omega]
   exact Qh2 hd v m l hl hb r (j+1) f (by simp at hj ⊢;omega) hr' (by simp at hf;omega)
theorem Qo7 {m n:Nat}(hm:1≤m)(hn:1≤n)(h:Ks m n=true)(hne:m≠n):∃ k,Nat.log2 m-Nat.log2 n=k+1∧n=m / 2^(k+1)∧2^(k+1)≤m:=by
 unfold Ks at h
 obtain⟨h1,h2⟩:=of_decide_eq_true h
 have h3:Nat.log2 m-Nat.log2 n≠0:=fun e=>by rw[e,Nat.pow_zero,Nat.div_one] at h2;exact hne h2
 refine⟨Nat.log2 m-Nat.log2 n-1,by omega,?_,?_⟩
 · rw[show Nat.log2 m-Nat.log2 n-1+1=Nat.log2 m-Nat.log2 n from by omega];exact h2.symm
 · rw[show Nat.log2 m-Nat.log2 n-1+1=Nat.log2 m-Nat.log2 n from by omega]
   exact Nat.le_trans (Nat.pow_le_pow_right (by omega) (by omega)) (Nat.log2_self_le (by omega))
theorem Qjj {m k:Nat}(h:2^(k+1)≤m):2^k≤m / 2:=by rw[Nat.le_div_iff_mul_le (by omega)];rw[Nat.pow_succ] at h;omega
theorem Qov {kd:BitVec 8}{d m k:Nat}(hm:m<128)(hk:2^(k+1)≤m)(hk2:k≤60):Lk ⟨kd,(d:Int),(Pd d:Int)⟩ ((m / 2^(k+1):Nat):Int) (m:Int)=some ((Pz d (Vf (m / 2) k):Nat):Int):=by
 unfold Lk Ey Qac
 rw[show Ju (un 1#64)=some 1 from by decide,bind_some,bind_some,Qgb _ _ (by omega),Nat.pow_one]
 simp only
 have e:m / 2^(k+1)=m / 2 / 2^k:=by rw[Nat.div_div_eq_div_mul,Nat.pow_succ,Nat.mul_comm 2]
 have hp:=Qjj hk
 rw[e,Qta (by omega) hp (by omega),bind_some,Qjc _ (fun n hn=>by have:=Qkk hp hn;omega),bind_some]
theorem Qh1 {d m k:Nat}(hd:d≤6)(hm:m<128)(hk:2^(k+1)≤m)(hk2:k≤60):Sn (d:Int) ((m / 2^(k+1):Nat):Int) (m:Int)=some ((Pz d (Vf (m / 2) k):Nat):Int):=by
 have hp:=Qjj hk
 unfold Sn
 rw[Qvf (by omega) hk (by omega),bind_some,Qt9]
 have:=Qh2 hd (m / 2^(k+1)) m (Vf (m / 2) k) (by rw[Qbd];omega) (fun n hn=>by have:=Qkk hp hn;omega) (Vf (m / 2) k) 0 Qy (by omega) rfl (Ye (by rw[Qbd];omega))
 exact this
theorem Qrn {m k:Nat}(h:2^k≤m)(hm:m<128):k≤6:=by
 have h1:=(Nat.le_log2 (n:=m) (by have:=Nat.two_pow_pos k;omega)).2 h
 have h2:Nat.log2 m<7:=(Nat.log2_lt (by have:=Nat.two_pow_pos k;omega)).2 (by omega)
 omega
end Go.Sx

end
section
set_option linter.unusedVariables false
set_option linter.unusedSimpArgs false
namespace Go.Sx
open Go
theorem Qjd {α σ τ R:Type}(l:List α)(F:(τ→Option R)→τ→Option R)(pk:Nat→σ→τ)(B:α→(σ→Option R)→σ→Option R)(D:σ→Option R)
 (h1:∀ rec (j:Nat) (hj:j<l.length) s,F rec (pk j s)=B l[j] (fun s'=>rec (pk (j+1) s')) s) (h2:∀ rec s,F rec (pk l.length s)=D s):
 ∀ (m j f:Nat) (s:σ),j+m=l.length→m<f→Qs F f (pk j s)=Ku B D (l.drop j) s
 | m,j,0,s,_,h=>by omega
 | 0,j,f+1,s,hj,_=>by
  have:j=l.length:=by omega
  subst this
  rw[Jm,h2,List.drop_length];rfl
 | m+1,j,f+1,s,hj,hf=>by
  have hjl:j<l.length:=by omega
  rw[Jm,h1 _ j hjl,List.drop_eq_getElem_cons hjl,Mg]
  have:(fun s'=>Qs F f (pk (j+1) s'))=Ku B D (l.drop (j+1)):=funext fun s'=>Qjd l F pk B D h1 h2 m (j+1) f s' (by omega) (by omega)
  rw[this]
theorem Qel {α σ τ R:Type}(l:List α)(F:(τ→Option R)→τ→Option R)(pk:Nat→σ→τ)(B:α→(σ→Option R)→σ→Option R)(D:σ→Option R)
 (h1:∀ rec (j:Nat) (hj:j<l.length) s,F rec (pk j s)=B l[j] (fun s'=>rec (pk (j+1) s')) s) (h2:∀ rec s,F rec (pk l.length s)=D s) {f:Nat} (hf:l.length<f) (s:σ):Qs F f (pk 0 s)=Ku B D l s:=by
 have:=Qjd l F pk B D h1 h2 l.length 0 f s (by omega) hf
 rwa[List.drop_zero] at this
theorem Qje {σ τ R:Type}(n:Nat)(F:(τ→Option R)→τ→Option R)(pk:Nat→σ→τ)(B:Nat→(σ→Option R)→σ→Option R)(D:σ→Option R)
 (h1:∀ rec (j:Nat) (hj:j<n) s,F rec (pk j s)=B j (fun s'=>rec (pk (j+1) s')) s) (h2:∀ rec s,F rec (pk n s)=D s) {f:Nat} (hf:n<f) (s:σ):Qs F f (pk 0 s)=Ku B D (List.range n) s:=
 Qel (List.range n) F pk B D (fun rec j hj s=>by rw[List.length_range] at hj;rw[h1 rec j hj,List.getElem_range]) (fun rec s=>by rw[List.length_range];exact h2 rec s) (by rw[List.length_range];exact hf) s
theorem Qjt {α σ R:Type}(g:σ→α→σ)(F:α→(σ→Option R)→σ→Option R)(d:σ→Option R)(I:Nat→σ→Prop):∀ (l:List α) (k:Nat) (s:σ),(∀ j (a:α) s nx,a∈l→I j s→F a nx s=nx (g s a))→(∀ j (a:α) s,a∈l→I j s→I (j+1) (g s a))→I k s→Ku F d l s=d (l.foldl g s)
 | [],k,s,_,_,_=>rfl
 | a::l,k,s,h,hi,hs=>by
  rw[Mg,h k a s _ (by simp) hs,List.foldl_cons]
  exact Qjt g F d I l (k+1) (g s a) (fun j b s nx hb=>h j b s nx (by simp[hb])) (fun j b s hb=>hi j b s (by simp[hb])) (hi k a s (by simp) hs)
theorem Qjs {α σ R:Type}(p:α→Bool)(X:α→σ→Option R)(F:α→(σ→Option R)→σ→Option R)(d:σ→Option R):∀ (l:List α) (s:σ),(∀ a∈l,∀ nx s,F a nx s=bif p a then X a s else nx s)→Ku F d l s=match l.find? p with|some a=>X a s|none=>d s
 | [],s,_=>rfl
 | a::l,s,h=>by
  rw[Mg,h a (by simp),List.find?_cons]
  cases hp:p a with
  | true=>rfl
  | false=>rw[cond_false];exact Qjs p X F d l s (fun x hx=>h x (by simp[hx]))
theorem Fc {n:Nat}(h:n<9223372036854775807):Qb ((n:Int)+1)=((n+1:Nat):Int):=by rw[Jc (by omega) (by omega)];omega
end Go.Sx

end
section
set_option linter.unusedVariables false
set_option linter.unusedSimpArgs false
namespace Go.Sx
open Go
theorem Qro {k:BitVec 8}{d u:Nat}{st:Int}(h:d≤6)(hu:u<128):Rb ⟨k,(d:Int),st⟩ (u:Int)=some ((2^d+u:Nat):Int):=by
 have:=Yh h
 unfold Rb
 rw[Qm2 h,bind_some]
 generalize 2^d=m at *
 rw[Jc (by omega) (by omega)];congr 1
theorem Qqm (s:Qo):Cm s ([]:List Qm)=some (if Vl s then(Vh s,0) else(Xl.mk 0#8 0 0,30)):=by
 unfold Cm
 rw[Qwm,bind_some]
 cases hv:Vl s with
 | false=>rfl
 | true=>rfl
end Go.Sx

end
section
set_option linter.unusedVariables false
set_option linter.unusedSimpArgs false
set_option maxRecDepth 100000
namespace Go.Sx
open Go
def Tb (k:BitVec 8)(d v w:Nat):Bool:=decide (k=2#8)||Pc d v||decide (Pz d (Vf (w / 2) (Nat.log2 w-Nat.log2 v-1))=0)
theorem Qri {k:BitVec 8}(h1:1#8≤k)(h3:k≤3#8):k=1#8∨k=2#8∨k=3#8:=by
 have a:1≤k.toNat:=h1
 have b:k.toNat≤3:=h3
 rcases(show k.toNat=1∨k.toNat=2∨k.toNat=3 by omega) with h|h|h
 · exact .inl (BitVec.eq_of_toNat_eq h)
 · exact .inr (.inl (BitVec.eq_of_toNat_eq h))
 · exact .inr (.inr (BitVec.eq_of_toNat_eq h))
theorem Qwv {s:Qo}(h:Vl s=true):1#8≤s.Kind∧s.Kind≤3#8:=by
 unfold Vl at h
 have:=of_decide_eq_true h
 exact⟨this.1,this.2.1⟩
end Go.Sx

end
section
set_option linter.unusedVariables false
set_option linter.unusedSimpArgs false
set_option maxRecDepth 100000
namespace Go.Sx
open Go
theorem Td {w v:Nat}(hw:1≤w):Ks w v=true↔∃ k,2^k≤w∧v=w / 2^k:=by
 constructor
 · intro h
   unfold Ks at h
   obtain⟨h1,h2⟩:=of_decide_eq_true h
   exact⟨_,Nat.le_trans (Nat.pow_le_pow_right (by omega) (by omega)) (Nat.log2_self_le (by omega)),h2.symm⟩
 · rintro⟨k,h1,rfl⟩
   unfold Ks
   have h2:=Qez h1
   have h3:=Dv w k h1
   apply decide_eq_true
   refine⟨by omega,?_⟩
   rw[h2,show Nat.log2 w-(Nat.log2 w-k)=k from by omega]
theorem Qo6 {w v:Nat}(hw:1≤w)(h:Ks w v=true):1≤v:=by
 obtain⟨k,h1,rfl⟩:=(Td hw).1 h
 exact Qi1 h1
theorem Qkt {w i j:Nat}(h:2^(i+j)≤w):2^j≤w / 2^i:=by
 rw[Nat.le_div_iff_mul_le (Nat.two_pow_pos i),←Nat.pow_add,Nat.add_comm];exact h
theorem Qfo {w i j:Nat}(h:2^j≤w / 2^i):2^(i+j)≤w:=by
 rw[Nat.le_div_iff_mul_le (Nat.two_pow_pos i),←Nat.pow_add,Nat.add_comm] at h;exact h
theorem Qo5 {w v:Nat}(hw:1≤w)(h:Ks w v=true):Nat.log2 v≤Nat.log2 w:=by
 unfold Ks at h
 exact(of_decide_eq_true h).1
theorem Ox:∀ n:Fin 128,(n.1 ^^^ 1) / 2=n.1 / 2∧n.1 ^^^ 1≠n.1∧n.1 ^^^ 1<128∧(2≤n.1→Nat.log2 (n.1 ^^^ 1)=Nat.log2 n.1∧2≤n.1 ^^^ 1)∧n.1 ^^^ 1 ^^^ 1=n.1:=by decide +kernel
theorem Qw0 {n:Nat}(h:n<128):(n ^^^ 1) / 2=n / 2:=(Ox ⟨n,h⟩).1
theorem Qw2 {n:Nat}(h:n<128):n ^^^ 1<128:=(Ox ⟨n,h⟩).2.2.1
theorem Qw1 {n:Nat}(h:n<128)(h2:2≤n):Nat.log2 (n ^^^ 1)=Nat.log2 n:=((Ox ⟨n,h⟩).2.2.2.1 h2).1
theorem Qgc {n:Nat}(h:n<128)(h2:2≤n):2≤n ^^^ 1:=((Ox ⟨n,h⟩).2.2.2.1 h2).2
theorem Qm1 {n:Nat}(h:n<128):n ^^^ 1 ^^^ 1=n:=(Ox ⟨n,h⟩).2.2.2.2
theorem Qh3 {n:Nat}(h:n<128):Te .xor (n:Int) 1=((n ^^^ 1:Nat):Int):=by
 have:∀ n:Fin 128,Te .xor (n.1:Int) 1=((n.1 ^^^ 1:Nat):Int):=by decide +kernel
 exact this ⟨n,h⟩
theorem Qt8 {w k n:Nat}:n∈Vf w k↔∃ j,j<k∧n=w / 2^j:=by
 induction k with
 | zero=>simp[Vf]
 | succ k ih=>
  rw[Vf,List.mem_cons,ih]
  constructor
  · rintro(rfl|⟨j,hj,rfl⟩)
    · exact⟨k,by omega,rfl⟩
    · exact⟨j,by omega,rfl⟩
  · rintro⟨j,hj,rfl⟩
    rcases Nat.lt_or_ge j k with h|h
    · exact .inr ⟨j,h,rfl⟩
    · obtain rfl:j=k:=by omega
      exact .inl rfl
def Qgg (k:BitVec 8)(d n m:Nat):Bool:=
 decide (1≤n∧n<2^(d+1))&&(if k=1#8 then decide (m=0) else if m=0 then decide (n=1) else decide (m<2^(d+1)∧m≠n)&&Ks m n&&Tb k d n m)
theorem Qrp {d u:Nat}(hu:u<2^d):Nat.log2 (2^d+u)=d:=by
 rw[Nat.log2_eq_iff (by have:=Nat.two_pow_pos d;omega),Nat.pow_succ];omega
theorem Qf2 {d n:Nat}(h1:1≤n)(h:n<2^(d+1)):Nat.log2 n≤d:=by
 have:=(Nat.log2_lt (n:=n) (k:=d+1) (by omega)).2 h;omega
end Go.Sx

end
section
set_option linter.unusedVariables false
set_option linter.unusedSimpArgs false
set_option maxRecDepth 100000
namespace Go.Sx
open Go
def Za (d:Nat)(R:List Nat)(v:Nat):Bool:=R.any fun u=>Ks (2^d+u) v
theorem Lw {d:Nat}{R:List Nat}{v:Nat}:Za d R v=true↔∃ u∈R,Ks (2^d+u) v=true:=by unfold Za;rw[List.any_eq_true]
theorem Qhv:∀ n:Fin 64,(2*n.1) ^^^ 1=2*n.1+1∧(2*n.1+1) ^^^ 1=2*n.1:=by decide +kernel
theorem Qht {n:Nat}(h:n<64):(2*n) ^^^ 1=2*n+1:=(Qhv ⟨n,h⟩).1
theorem Qhu {n:Nat}(h:n<64):(2*n+1) ^^^ 1=2*n:=(Qhv ⟨n,h⟩).2
theorem Cu (a b:Nat):a / 2^(b+1)=a / 2^b / 2:=by rw[Nat.pow_succ,Nat.div_div_eq_div_mul]
theorem Qh0 {L v:Nat}(hL:1≤L)(Xy:Nat.log2 v<Nat.log2 L)(hv:1≤v):Ks L v=(Ks L (2*v)||Ks L (2*v+1)):=by
 rw[Bool.eq_iff_iff,Bool.or_eq_true,Td hL,Td hL,Td hL]
 constructor
 · rintro⟨k,h1,h2⟩
   have hl:=Dv L k h1
   rw[←h2] at hl
   obtain⟨j,rfl⟩:∃ j,k=j+1:=⟨k-1,by omega⟩
   have h3:2^j≤L:=Nat.le_trans (Nat.pow_le_pow_right (by omega) (by omega)) h1
   rw[Cu] at h2
   rcases(show L / 2^j=2*v∨L / 2^j=2*v+1 by omega) with e|e
   · exact .inl ⟨j,h3,e.symm⟩
   · exact .inr ⟨j,h3,e.symm⟩
 · rintro(⟨j,h1,h2⟩|⟨j,h1,h2⟩)
   · exact⟨j+1,Qfo (j:=1) (by rw[←h2];omega),by rw[Cu,←h2];omega⟩
   · exact⟨j+1,Qfo (j:=1) (by rw[←h2];omega),by rw[Cu,←h2];omega⟩
theorem Sd {v b:Nat}(hv:1≤v)(hb:b<2):Nat.log2 (2*v+b)=Nat.log2 v+1:=by
 rw[Rl (by omega),show(2*v+b) / 2=v from by omega]
section
variable {d:Nat} {R:List Nat}
def Pp (d:Nat)(R:List Nat):Prop:=d≤6∧∀ u∈R,u<2^d
theorem Pp.leaf (h:Pp d R){u:Nat}(hu:u∈R):1≤2^d+u∧2^d+u<128∧Nat.log2 (2^d+u)=d:=by
 have:=Yh h.1
 have:=h.2 u hu
 have:=Nat.two_pow_pos d
 exact⟨by omega,by omega,Qrp (h.2 u hu)⟩
theorem Qkc {v:Nat}(hv:1≤v):v<2^d↔Nat.log2 v<d:=by rw[Nat.log2_lt (by omega)]
theorem Qer (h:Pp d R){v:Nat}(hv:1≤v)(hl:Nat.log2 v<d):Za d R v=(Za d R (2*v)||Za d R (2*v+1)):=by
 rw[Bool.eq_iff_iff,Bool.or_eq_true,Lw,Lw,Lw]
 constructor
 · rintro⟨u,hu,hb⟩
   obtain⟨h1,h2,h3⟩:=h.leaf hu
   rw[Qh0 h1 (by omega) hv,Bool.or_eq_true] at hb
   rcases hb with hb|hb
   · exact .inl ⟨u,hu,hb⟩
   · exact .inr ⟨u,hu,hb⟩
 · rintro(⟨u,hu,hb⟩|⟨u,hu,hb⟩) <;>
   · obtain⟨h1,h2,h3⟩:=h.leaf hu
     refine⟨u,hu,?_⟩
     rw[Qh0 h1 (by omega) hv,hb];simp
theorem Lx (h:Pp d R){v:Nat}(hv:Za d R v=true):1≤v∧Nat.log2 v≤d∧v<2^(d+1):=by
 obtain⟨u,hu,hb⟩:=Lw.1 hv
 obtain⟨h1,h2,h3⟩:=h.leaf hu
 have hp:=Qo6 h1 hb
 have hl:=Qo5 h1 hb
 rw[h3] at hl
 exact⟨hp,hl,(Nat.log2_lt (by omega)).1 (by omega)⟩
theorem Qjn (h:Pp d R){v:Nat}(hv:Za d R v=true)(h2:2≤v):Za d R (v / 2)=true:=by
 obtain⟨h1,hl,_⟩:=Lx h hv
 have hh:=Rl h2
 rw[Qer h (by omega) (by omega)]
 rcases(show 2*(v / 2)=v∨2*(v / 2)+1=v by omega) with e|e
 · rw[e,hv];simp
 · rw[e,hv];simp
theorem Qjo (h:Pp d R){v:Nat}(hv:Za d R v=true):∀ k,2^k≤v→Za d R (v / 2^k)=true
 | 0,_=>by simpa using hv
 | k+1,hk=>by
  rw[Cu]
  have h1:2^k≤v:=Nat.le_trans (Nat.pow_le_pow_right (by omega) (by omega)) hk
  refine Qjn h (Qjo h hv k h1) ?_
  have:=Qkt (i:=k) (j:=1) hk
  simpa using this
def Hs (d:Nat)(R:List Nat)(v:Nat):Bool:=Za d R (2*v) != Za d R (2*v+1)
def Yb (d:Nat)(R:List Nat)(v:Nat):Nat:=if Za d R (2*v) then 2*v else 2*v+1
def Jj (d:Nat)(R:List Nat):Nat→Nat→Nat
 | 0,v=>v
 | f+1,v=>if Hs d R v then Jj d R f (Yb d R v) else v
theorem Qdn (h:Pp d R){v:Nat}(hv:1≤v)(hb:Hs d R v=true):Nat.log2 v<d∧Za d R v=true:=by
 unfold Hs at hb
 have hx:Za d R (2*v)=true∨Za d R (2*v+1)=true:=by
  cases h1:Za d R (2*v)<;>cases h2:Za d R (2*v+1)<;>simp_all
 have hl:Nat.log2 v<d:=by
  rcases hx with hx|hx
  · have:=(Lx h hx).2.1;have:=Sd hv (b:=0) (by omega);simp at this;omega
  · have:=(Lx h hx).2.1;have:=Sd hv (b:=1) (by omega);omega
 refine⟨hl,?_⟩
 rw[Qer h hv hl]
 rcases hx with hx|hx<;>simp[hx]
def Chn (d:Nat)(R:List Nat)(v w:Nat):Prop:=∃ k,2^k≤w∧v=w / 2^k∧∀ j,j<k→Za d R (w / 2^j)=true∧Za d R ((w / 2^j) ^^^ 1)=false
theorem Aj (h:Pp d R):∀ (f v:Nat),1≤v→Nat.log2 v≤d→d-Nat.log2 v<f→1≤Jj d R f v∧Nat.log2 (Jj d R f v)≤d∧Hs d R (Jj d R f v)=false∧Chn d R v (Jj d R f v)
 | 0,v,_,_,hf=>by omega
 | f+1,v,hv,hl,hf=>by
  unfold Jj
  cases hb:Hs d R v with
  | false=>exact⟨by simpa using hv,by simpa using hl,by simpa using hb,⟨0,by simpa using hv,by simp,fun j hj=>by omega⟩⟩
  | true=>
   rw[if_pos rfl]
   obtain⟨hl2,_⟩:=Qdn h hv hb
   have h64:=Yh h.1
   have hv64:v<64:=by have:=(Qkc (d:=d) hv).2 hl2;omega
   have hc:(Yb d R v) / 2=v∧2≤Yb d R v∧Nat.log2 (Yb d R v)=Nat.log2 v+1∧Za d R (Yb d R v)=true∧Za d R (Yb d R v ^^^ 1)=false:=by
    unfold Yb
    unfold Hs at hb
    cases h1:Za d R (2*v) with
    | true=>
     rw[h1] at hb
     rw[if_pos rfl]
     refine⟨by omega,by omega,Sd hv (b:=0) (by omega),h1,?_⟩
     rw[Qht hv64];simpa using hb
    | false=>
     rw[h1] at hb
     rw[if_neg (by simp)]
     refine⟨by omega,by omega,Sd hv (b:=1) (by omega),by simpa using hb,?_⟩
     rw[Qhu hv64];exact h1
   obtain⟨c1,c2,c3,c4,c5⟩:=hc
   obtain⟨g1,g2,g3,k,g4,g5,g6⟩:=Aj h f (Yb d R v) (by omega) (by omega) (by omega)
   refine⟨g1,g2,g3,k+1,?_,?_,?_⟩
   · exact Qfo (j:=1) (by rw[←g5];omega)
   · rw[Cu,←g5];exact c1.symm
   · intro j hj
     rcases Nat.lt_or_ge j k with hjk|hjk
     · exact g6 j hjk
     · obtain rfl:j=k:=by omega
       rw[←g5];exact⟨c4,c5⟩
def Je (d:Nat)(R:List Nat):Nat→Nat→Nat
 | 0,x=>x
 | f+1,x=>if x=1∨Za d R (x ^^^ 1)=true then x else Je d R f (x / 2)
def Wj (d:Nat)(R:List Nat)(v:Nat):Bool:=decide (v=1)||Za d R (v ^^^ 1)
theorem Qjl {f x:Nat}(h:Wj d R x=true):Je d R f x=x:=by
 cases f with
 | zero=>rfl
 | succ f=>
  unfold Je
  unfold Wj at h
  rw[Bool.or_eq_true,decide_eq_true_eq] at h
  rw[if_pos h]
theorem Qjk {v w:Nat}(hv:Wj d R v=true)(hv1:1≤v):∀ (j k f:Nat),2^(j+k)≤w→v=w / 2^(j+k)→(∀ i,j≤i→i<j+k→Za d R ((w / 2^i) ^^^ 1)=false)→k≤f→Je d R f (w / 2^j)=v
 | j,0,f,h1,h2,_,_=>by rw[Nat.add_zero] at h2;rw[←h2];exact Qjl hv
 | j,k+1,0,h1,h2,h3,hf=>by omega
 | j,k+1,f+1,h1,h2,h3,hf=>by
  unfold Je
  have h4:=h3 j (by omega) (by omega)
  have h5:w / 2^j≠1:=by
   have:=Qkt (w:=w) (i:=j) (j:=1) (Nat.le_trans (Nat.pow_le_pow_right (by omega) (by omega)) h1)
   simp at this;omega
  rw[if_neg (by rw[h4];simp[h5]),←Cu]
  exact Qjk hv hv1 (j+1) k f (by rw[show j+1+k=j+(k+1) from by omega];exact h1) (by rw[show j+1+k=j+(k+1) from by omega];exact h2) (fun i h6 h7=>h3 i (by omega) (by omega)) (by omega)
theorem Qep:∀ (f x:Nat),1≤x→Nat.log2 x<f→Wj d R (Je d R f x)=true∧∃ i,2^i≤x∧Je d R f x=x / 2^i∧∀ t,t<i→Wj d R (x / 2^t)=false
 | 0,x,_,h=>by omega
 | f+1,x,hx,hf=>by
  unfold Je
  by_cases hc:x=1∨Za d R (x ^^^ 1)=true
  · rw[if_pos hc];exact⟨by unfold Wj;simpa using hc,0,by simpa using hx,by simp,fun t ht=>by omega⟩
  · rw[if_neg hc]
    have hx2:2≤x:=by rw[not_or] at hc;omega
    have hh:=Rl hx2
    obtain⟨h1,i,h2,h3,h4⟩:=Qep f (x / 2) (by omega) (by omega)
    refine⟨h1,i+1,?_,?_,?_⟩
    · rw[Nat.pow_succ];omega
    · rw[h3,Nat.div_div_eq_div_mul,Nat.pow_succ,Nat.mul_comm 2]
    · intro t ht
      cases t with
      | zero=>simp only[Nat.pow_zero,Nat.div_one];unfold Wj;simpa[not_or] using hc
      | succ t=>
       have:=h4 t (by omega)
       rw[Nat.div_div_eq_div_mul,show 2*2^t=2^(t+1) from by rw[Nat.pow_succ,Nat.mul_comm]] at this;exact this
def Kf (d v w:Nat):Nat:=Pz d (Vf (w / 2) (Nat.log2 w-Nat.log2 v-1))
def Tt (k:BitVec 8)(d:Nat)(R:List Nat)(x:Nat):Option Nat:=
 if k=1#8 then(if !Za d R x&&(decide (x=1)||Za d R (x / 2)) then some 0 else none)
 else if Za d R x then
  (if Jj d R 7 (Je d R 7 x)=Je d R 7 x then none
  else if x=Je d R 7 x then some (if Tb k d (Je d R 7 x) (Jj d R 7 (Je d R 7 x)) then Jj d R 7 (Je d R 7 x) else Kf d (Je d R 7 x) (Jj d R 7 (Je d R 7 x)))
  else if !Tb k d (Je d R 7 x) (Jj d R 7 (Je d R 7 x))&&decide (x=Kf d (Je d R 7 x) (Jj d R 7 (Je d R 7 x))) then some (Jj d R 7 (Je d R 7 x)) else none)
 else none
def Mp (d:Nat):List Nat:=(List.range (2^(d+1)-1)).map (· + 1)
def Zl (k:BitVec 8)(d:Nat)(R:List Nat):List (Nat × Nat):=(Mp d).filterMap fun x=>(Tt k d R x).map fun m=>(x,m)
theorem Qka {x:Nat}:x∈Mp d↔1≤x∧x<2^(d+1):=by
 unfold Mp
 rw[List.mem_map]
 constructor
 · rintro⟨a,ha,rfl⟩;have:=List.mem_range.1 ha;omega
 · rintro⟨h1,h2⟩;exact⟨x-1,List.mem_range.2 (by omega),by omega⟩
theorem Gl {k:BitVec 8}{y:Nat × Nat}:y∈Zl k d R↔(1≤y.1∧y.1<2^(d+1))∧Tt k d R y.1=some y.2:=by
 unfold Zl
 rw[List.mem_filterMap]
 constructor
 · rintro⟨x,hx,he⟩
   obtain⟨m,hm,rfl⟩:=Option.map_eq_some_iff.1 he
   exact⟨Qka.1 hx,hm⟩
 · rintro⟨h1,h2⟩;exact⟨y.1,Qka.2 h1,by rw[h2];rfl⟩
def Pj (l:List (Nat × Nat)):Prop:=l.Pairwise fun a b=>a.1<b.1
theorem Fp {k:BitVec 8}:Pj (Zl k d R):=by
 unfold Pj Zl
 rw[List.pairwise_filterMap]
 have:(Mp d).Pairwise fun a b=>a<b:=by
  unfold Mp
  rw[List.pairwise_map]
  exact List.pairwise_lt_range.imp (by omega)
 refine this.imp ?_
 intro a b hab y hy z hz
 obtain⟨_,_,rfl⟩:=Option.map_eq_some_iff.1 hy
 obtain⟨_,_,rfl⟩:=Option.map_eq_some_iff.1 hz
 exact hab
theorem Er:∀ {l m:List (Nat × Nat)},Pj l→Pj m→(∀ y,y∈l↔y∈m)→l=m
 | [],[],_,_,_=>rfl
 | [],b::m,_,_,h=>absurd ((h b).2 (by simp)) (by simp)
 | a::l,[],_,_,h=>absurd ((h a).1 (by simp)) (by simp)
 | a::l,b::m,hl,hm,h=>by
  have ha:=List.pairwise_cons.1 hl
  have hb:=List.pairwise_cons.1 hm
  have hab:a=b:=by
   rcases List.mem_cons.1 ((h a).1 (by simp)) with e|e
   · exact e
   · rcases List.mem_cons.1 ((h b).2 (by simp)) with e2|e2
     · exact e2.symm
     · have:=ha.1 b e2;have:=hb.1 a e;omega
  subst hab
  congr 1
  refine Er ha.2 hb.2 fun y=>?_
  constructor
  · intro hy
    rcases List.mem_cons.1 ((h y).1 (by simp[hy])) with e|e
    · subst e;have:=ha.1 y hy;omega
    · exact e
  · intro hy
    rcases List.mem_cons.1 ((h y).2 (by simp[hy])) with e|e
    · subst e;have:=hb.1 y hy;omega
    · exact e
def Hf (k:BitVec 8)(d:Nat)(R:List Nat)(v:Nat):List (Nat × Nat):=
 if k=1#8 then(if v≠1∧Za d R (v ^^^ 1)=false then[(v ^^^ 1,0)] else[])
 else if Wj d R v then(if Jj d R 7 v=v then[] else if Tb k d v (Jj d R 7 v) then[(v,Jj d R 7 v)] else[(v,Kf d v (Jj d R 7 v)),(Kf d v (Jj d R 7 v),Jj d R 7 v)])
 else[]
def Yv (k:BitVec 8)(d:Nat)(R:List Nat)(y:Nat × Nat):Nat:=if k=1#8 then y.1 ^^^ 1 else Je d R 7 y.1
theorem Qdx {k:BitVec 8}{v w:Nat}(hK:2^k.toNat≤w∨True){K:Nat}(h1:2^K≤w)(h2:v=w / 2^K)(hv:1≤v)(hs:Tb k d v w=false):∃ j,1≤j∧j<K∧Kf d v w=w / 2^j:=by
 have hl:=Dv w K h1
 rw[←h2] at hl
 unfold Tb at hs
 simp only[Bool.or_eq_false_iff,decide_eq_false_iff_not] at hs
 have h0:Kf d v w≠0:=hs.2
 unfold Kf at h0 ⊢
 unfold Pz at h0 ⊢
 cases hf:(Vf (w / 2) (Nat.log2 w-Nat.log2 v-1)).find? (Pc d) with
 | none=>rw[hf] at h0;simp at h0
 | some c=>
  obtain⟨j,hj,rfl⟩:=Qt8.1 (List.mem_of_find?_eq_some hf)
  refine⟨j+1,by omega,by omega,?_⟩
  rw[Option.getD_some,Nat.div_div_eq_div_mul,show 2*2^j=2^(j+1) from by rw[Nat.pow_succ,Nat.mul_comm]]
theorem Qhi (h:Pp d R){k:BitVec 8}(hne:R≠[]){v:Nat}(hv:Za d R v=true)(y:Nat × Nat):(y∈Zl k d R∧Yv k d R y=v)↔y∈Hf k d R v:=by
 have h64:=Yh h.1
 have hpow:2^(d+1)=2*2^d:=by rw[Nat.pow_succ,Nat.mul_comm]
 obtain⟨v1,vl,v2⟩:=Lx h hv
 rw[Gl]
 by_cases hk:k=1#8
 · unfold Tt Yv Hf
   rw[if_pos hk,if_pos hk,if_pos hk]
   have hroot:Za d R 1=true:=by
    obtain⟨u,hu⟩:=List.exists_mem_of_ne_nil R hne
    obtain⟨l1,l2,l3⟩:=h.leaf hu
    exact Lw.2 ⟨u,hu,(Td l1).2 ⟨d,by omega,by rw[Nat.add_div_left _ (Nat.two_pow_pos d),Nat.div_eq_of_lt (h.2 u hu)]⟩⟩
   constructor
   · rintro⟨⟨⟨y1,y2⟩,hm⟩,rfl⟩
     split at hm
     · rename_i hc
       simp only[Bool.and_eq_true,Bool.not_eq_true',Bool.or_eq_true,decide_eq_true_eq] at hc
       have hy0:y.2=0:=(Option.some.inj hm).symm
       have hyn:y.1≠1:=fun e=>by rw[e] at hc;rw[hroot] at hc;simp at hc
       have hss:=Qm1 (n:=y.1) (by omega)
       rw[hss]
       have hs1:y.1 ^^^ 1≠1:=by have:=Qgc (n:=y.1) (by omega) (by omega);omega
       rw[if_pos ⟨hs1,hc.1⟩]
       simp only[List.mem_singleton]
       cases y;simp only at *;rw[hy0]
     · cases hm
   · intro hy
     split at hy
     · rename_i hc
       simp only[List.mem_singleton] at hy
       subst hy
       simp only
       have hv2:2≤v:=by omega
       have e1:=Qw2 (n:=v) (by omega)
       have e2:=Qgc (n:=v) (by omega) hv2
       have e3:=Qw1 (n:=v) (by omega) hv2
       refine⟨⟨⟨by omega,?_⟩,?_⟩,Qm1 (by omega)⟩
       · exact(Nat.log2_lt (by omega)).1 (by omega)
       · rw[if_pos]
         simp only[Bool.and_eq_true,Bool.not_eq_true',Bool.or_eq_true,decide_eq_true_eq]
         refine⟨hc.2,.inr ?_⟩
         rw[Qw0 (by omega)];exact Qjn h hv hv2
     · cases hy
 · unfold Tt Yv Hf
   rw[if_neg hk,if_neg hk,if_neg hk]
   constructor
   · rintro⟨⟨⟨y1,y2⟩,hm⟩,rfl⟩
     have hl7:Nat.log2 y.1<7:=by have:=(Nat.log2_lt (n:=y.1) (k:=d+1) (by omega)).2 y2;have:=h.1;omega
     rw[if_pos (Qep 7 y.1 y1 hl7).1]
     generalize Je d R 7 y.1=v at *
     generalize Jj d R 7 v=w at *
     split at hm
     · split at hm
       · cases hm
       · rename_i h1 h2
         rw[if_neg h2]
         split at hm
         · rename_i h3
           have hm':=Option.some.inj hm
           split
           · rename_i h4
             rw[if_pos h4] at hm'
             simp only[List.mem_singleton];cases y;simp only at *;rw[h3,hm']
           · rename_i h4
             rw[if_neg h4] at hm'
             simp only[List.mem_cons,List.not_mem_nil,or_false];left;cases y;simp only at *;rw[h3,hm']
         · split at hm
           · rename_i h3 h4
             simp only[Bool.and_eq_true,Bool.not_eq_true',decide_eq_true_eq] at h4
             rw[if_neg (by rw[h4.1];simp)]
             simp only[List.mem_cons,List.not_mem_nil,or_false];right
             have hm':=Option.some.inj hm
             cases y;simp only at *;rw[←h4.2,hm']
           · cases hm
     · cases hm
   · intro hy
     split at hy
     · rename_i hh
       obtain⟨w1,w2,w3,K,w4,w5,w6⟩:=Aj h 7 v v1 vl (by have:=h.1;omega)
       generalize hw:Jj d R 7 v=w at *
       have hs:Je d R 7 v=v:=Qjl hh
       split at hy
       · cases hy
       · rename_i hne2
         split at hy
         · rename_i h4
           simp only[List.mem_singleton] at hy
           subst hy
           simp only[hs,hw,hv,if_true,if_neg hne2,h4]
           exact⟨⟨⟨v1,v2⟩,trivial⟩,trivial⟩
         · rename_i h4
           have h4':Tb k d v w=false:=by simpa using h4
           simp only[List.mem_cons,List.not_mem_nil,or_false] at hy
           rcases hy with rfl|rfl
           · simp only[hs,hw,hv,if_true,if_neg hne2,h4',Bool.false_eq_true,if_false]
             exact⟨⟨⟨v1,v2⟩,trivial⟩,trivial⟩
           · obtain⟨j,j1,j2,j3⟩:=Qdx (k:=k) (d:=d) (.inr trivial) w4 w5 v1 h4'
             have hlw:=Dv w K w4
             have hKd:K≤6:=by have:=h.1;omega
             have hc:Je d R 7 (Kf d v w)=v:=by
              rw[j3]
              exact Qjk hh v1 j (K-j) 7 (by rw[show j+(K-j)=K from by omega];exact w4) (by rw[show j+(K-j)=K from by omega];exact w5) (fun i _ hi=>(w6 i (by omega)).2) (by omega)
             have hj2:2^j≤w:=Nat.le_trans (Nat.pow_le_pow_right (by omega) (by omega)) w4
             have hch:Za d R (Kf d v w)=true:=by rw[j3];exact(w6 j j2).1
             have hcv:Kf d v w≠v:=by
              rw[j3,w5];exact Qe0 w4 j2
             obtain⟨c1,_,c3⟩:=Lx h hch
             simp only[hc,hw,hch,if_true,if_neg hne2,if_neg hcv,h4']
             simp only[Bool.not_false,Bool.true_and,decide_true,if_true]
             exact⟨⟨⟨c1,c3⟩,trivial⟩,trivial⟩
     · cases hy
theorem Qf7 (h:Pp d R){k:BitVec 8}(hne:R≠[]){y:Nat × Nat}(hy:y∈Zl k d R):Za d R (Yv k d R y)=true:=by
 have h64:=Yh h.1
 have hpow:2^(d+1)=2*2^d:=by rw[Nat.pow_succ,Nat.mul_comm]
 obtain⟨⟨y1,y2⟩,hm⟩:=Gl.1 hy
 unfold Tt at hm
 unfold Yv
 by_cases hk:k=1#8
 · rw[if_pos hk] at hm ⊢
   split at hm
   · rename_i hc
     simp only[Bool.and_eq_true,Bool.not_eq_true',Bool.or_eq_true,decide_eq_true_eq] at hc
     have hroot:Za d R 1=true:=by
      obtain⟨u,hu⟩:=List.exists_mem_of_ne_nil R hne
      obtain⟨l1,l2,l3⟩:=h.leaf hu
      exact Lw.2 ⟨u,hu,(Td l1).2 ⟨d,by omega,by rw[Nat.add_div_left _ (Nat.two_pow_pos d),Nat.div_eq_of_lt (h.2 u hu)]⟩⟩
     have hyn:y.1≠1:=fun e=>by rw[e] at hc;rw[hroot] at hc;simp at hc
     have hp:Za d R (y.1 / 2)=true:=by
      rcases hc.2 with e|e
      · exact absurd e hyn
      · exact e
     have hlg:=Rl (n:=y.1) (by omega)
     have hyl:Nat.log2 y.1≤d:=Qf2 y1 y2
     rw[Qer h (by omega) (by omega),Bool.or_eq_true] at hp
     have hz:y.1 / 2<64:=by omega
     rcases(show y.1=2*(y.1 / 2)∨y.1=2*(y.1 / 2)+1 by omega) with e|e
     · have h2:Za d R (2*(y.1 / 2))=false:=by rw[←e];exact hc.1
       have:y.1 ^^^ 1=2*(y.1 / 2)+1:=by rw[←Qht hz,←e]
       rw[this];rw[h2] at hp;simpa using hp
     · have h2:Za d R (2*(y.1 / 2)+1)=false:=by rw[←e];exact hc.1
       have:y.1 ^^^ 1=2*(y.1 / 2):=by rw[←Qhu hz,←e]
       rw[this];rw[h2] at hp;simpa using hp
   · cases hm
 · rw[if_neg hk] at hm ⊢
   split at hm
   · rename_i hx
     have hl7:Nat.log2 y.1<7:=by have:=Qf2 y1 y2;have:=h.1;omega
     obtain⟨_,i,i1,i2,_⟩:=Qep (d:=d) (R:=R) 7 y.1 y1 hl7
     rw[i2];exact Qjo h hx i i1
   · cases hm
end
end Go.Sx

end
section
set_option linter.unusedVariables false
set_option linter.unusedSimpArgs false
namespace Go.Sx
open Go
end Go.Sx

end
section
set_option linter.unusedVariables false
set_option linter.unusedSimpArgs false
namespace Go.Sx
open Go
end Go.Sx

end
section
set_option linter.unusedVariables false
set_option linter.unusedSimpArgs false
namespace Go.Sx
open Go
theorem Qub {k:BitVec 8}{d:Nat}{st u:Int}(h:d≤6):Aa ⟨k,(d:Int),st⟩ u=some (decide (0≤u∧u<((2^d:Nat):Int))):=by
 unfold Aa
 by_cases h0:(0:Int)≤u
 · rw[if_pos h0,Qm2 h,bind_some];congr 1;apply decide_eq_decide.2;omega
 · rw[if_neg h0];congr 1;symm;apply decide_eq_false;omega
end Go.Sx

end
section
set_option linter.unusedVariables false
set_option linter.unusedSimpArgs false
namespace Go.Sx
open Go
theorem Qrg {s:Qo}{d:Nat}(hv:Vl s=true)(hd:s.Depth=(d:Int))(h6:d≤6)(n m:Nat):Sm s ⟨(n:Int),(m:Int)⟩=some (Qgg s.Kind d n m):=by
 have h64:=Yh h6
 have hpow:2^(d+1)=2*2^d:=by rw[Nat.pow_succ,Nat.mul_comm]
 have hh:∀ a:Nat,Qaw d (a:Int)=decide (1≤a∧a<2^(d+1)):=fun a=>by
  unfold Qaw;apply decide_eq_decide.2;rw[hpow];omega
 unfold Sm Qgg
 rw[hd,Qkb h6,bind_some,hh]
 by_cases hn:1≤n∧n<2^(d+1)
 · rw[decide_eq_true hn]
   simp only[Bool.not_true,cond_false,Bool.true_and]
   by_cases hk:s.Kind=1#8
   · rw[if_pos hk,if_pos hk];congr 1;apply decide_eq_decide.2;omega
   · rw[if_neg hk,if_neg hk]
     by_cases hm:m=0
     · rw[if_pos (by omega),if_pos hm];congr 1;apply decide_eq_decide.2;omega
     · rw[if_neg (by omega),if_neg hm,Qkb h6,bind_some,hh]
       by_cases hm2:m<2^(d+1)
       · rw[decide_eq_true (by omega)]
         simp only[Bool.not_true,cond_false]
         by_cases he:m=n
         · rw[if_pos (by omega),decide_eq_false (by omega)];rfl
         · rw[if_neg (by omega),Qkz (by omega) (by omega) (by omega),bind_some,decide_eq_true (by omega),Bool.true_and]
           unfold Ub Tb
           cases hb:Ks m n with
           | false=>rfl
           | true=>
            simp only[Bool.not_true,cond_false,Bool.true_and]
            by_cases hk2:s.Kind=2#8
            · rw[if_pos hk2,decide_eq_true hk2];rfl
            · rw[if_neg hk2,decide_eq_false hk2,Bool.false_or,hd,Qlr h6 (by omega),bind_some]
              cases Pc d n with
              | true=>rfl
              | false=>
               rw[cond_false,Bool.false_or]
               obtain⟨k,hk0,hk1,hk3⟩:=Qo7 (by omega) hn.1 hb he
               have hkl:=Qrn hk3 (by omega)
               have:=Qh1 (d:=d) (m:=m) (k:=k) h6 (by omega) hk3 (by omega)
               rw[←hk1] at this
               rw[this,bind_some,show Nat.log2 m-Nat.log2 n-1=k from by omega]
               congr 1;apply decide_eq_decide.2;omega
       · rw[decide_eq_false (p:=1≤m∧_) (by omega),decide_eq_false (p:=m<_∧_) (by omega)];rfl
 · rw[decide_eq_false hn];rfl
end Go.Sx

end
section
set_option linter.unusedVariables false
set_option linter.unusedSimpArgs false
namespace Go.Sx
open Go
section
variable {s:Qo} {d u n m:Nat}
end
def Yf (d:Nat)(l:List Int):Bool:=(List.range l.length).all fun j=>decide (0≤l.getD j 0∧l.getD j 0<((2^d:Nat):Int))&&(decide (j=0)||decide (l.getD (j-1) 0<l.getD j 0))
theorem getD_some {l:List Int}{j:Nat}(h:j<l.length):l.getD j 0=l[j]:=by simp[List.getD,h]
theorem Qdk {σ:Type}(p:Nat→Bool):∀ (l:List Nat) (F:Nat→(σ→Option Bool)→σ→Option Bool) (s:σ),(∀ a∈l,∀ nx s,F a nx s=bif p a then nx s else some false)→Ku F (fun _=>some true) l s=some (l.all p)
 | [],F,s,_=>rfl
 | a::l,F,s,h=>by
  rw[Mg,h a (by simp),List.all_cons]
  cases p a with
  | false=>rfl
  | true=>rw[cond_true,Bool.true_and];exact Qdk p l F s (fun b hb=>h b (by simp[hb]))
theorem Qrx {kd:BitVec 8}{d:Nat}{st:Int}(h6:d≤6)(l:List Int)(hl:l.length<4611686018427387904):Cr ⟨kd,(d:Int),st⟩ l=some (Yf d l):=by
 unfold Cr Yf
 have:=Qje l.length (Rc ⟨kd,(d:Int),st⟩ l) (fun j (_:Unit)=>(j:Int)) (fun j nx s=>bif decide (0≤l.getD j 0∧l.getD j 0<((2^d:Nat):Int))&&(decide (j=0)||decide (l.getD (j-1) 0<l.getD j 0)) then nx s else some false) (fun _=>some true)
  (fun rec j hj _=>by
   simp only[Rc,Cs]
   rw[if_pos (by omega),Yu hj,bind_some,Qub h6,bind_some,getD_some hj,Fc (by omega)]
   by_cases h:0≤l[j]∧l[j]<((2^d:Nat):Int)
   · rw[decide_eq_true h]
     simp only[Bool.not_true,cond_false,Bool.true_and]
     by_cases h0:j=0
     · rw[if_neg (by omega),decide_eq_true h0];rfl
     · have hj1:j-1<l.length:=by omega
       rw[if_pos (by omega),Jc (by omega) (by omega),show(j:Int)-1=((j-1:Nat):Int) from by omega,Yu hj1,bind_some,decide_eq_false h0,Bool.false_or,getD_some hj1]
       by_cases h1:l[j]≤l[j-1]
       · rw[decide_eq_true h1,decide_eq_false (by omega)];rfl
       · rw[decide_eq_false h1,decide_eq_true (by omega)];rfl
   · rw[decide_eq_false h];rfl)
  (fun rec _=>by simp only[Rc];rw[if_neg (by omega)]) (f:=Qy) (Ye (by omega)) ()
 rw[show((0:Nat):Int)=0 from rfl] at this
 rw[this]
 exact Qdk _ _ _ _ (fun a _ nx s=>rfl)
theorem Qv7 {d:Nat}(h6:d≤6)(l:List Int)(hl:l.length<4611686018427387904):Iz (d:Int) l=some (Yf d l):=by
 unfold Iz Yf
 have:=Qje l.length (Ba (d:Int) l) (fun j (_:Unit)=>(j:Int)) (fun j nx s=>bif decide (0≤l.getD j 0∧l.getD j 0<((2^d:Nat):Int))&&(decide (j=0)||decide (l.getD (j-1) 0<l.getD j 0)) then nx s else some false) (fun _=>some true)
  (fun rec j hj _=>by
   simp only[Ba,Rz]
   rw[if_pos (by omega),Yu hj,bind_some,bind_some,Nj h6,bind_some,getD_some hj,Fc (by omega)]
   by_cases h:0≤l[j]
   · rw[if_neg (by omega)]
     by_cases h2:l[j]<((2^d:Nat):Int)
     · rw[if_neg (by omega),decide_eq_true ⟨h,h2⟩]
       simp only[Bool.true_and]
       by_cases h0:j=0
       · rw[if_neg (by omega),decide_eq_true h0];rfl
       · have hj1:j-1<l.length:=by omega
         rw[if_pos (by omega),bind_some,Jc (by omega) (by omega),show(j:Int)-1=((j-1:Nat):Int) from by omega,Yu hj1,bind_some,decide_eq_false h0,Bool.false_or,getD_some hj1]
         by_cases h1:l[j]≤l[j-1]
         · rw[decide_eq_true h1,decide_eq_false (by omega)];rfl
         · rw[decide_eq_false h1,decide_eq_true (by omega)];rfl
     · rw[if_pos (by omega),decide_eq_false (by omega)];rfl
   · rw[if_pos (by omega),decide_eq_false (by omega)];rfl)
  (fun rec _=>by simp only[Ba];rw[if_neg (by omega)]) (f:=Qy) (Ye (by omega)) ()
 rw[show((0:Nat):Int)=0 from rfl] at this
 rw[this]
 exact Qdk _ _ _ _ (fun a _ nx s=>rfl)
theorem Qf1 {d:Nat}{l:List Int}(h:Yf d l=true){a:Int}(ha:a∈l):∃ u:Nat,a=(u:Int)∧u<2^d:=by
 obtain⟨j,hj,rfl⟩:=List.mem_iff_getElem.1 ha
 have:=List.all_eq_true.1 h j (by simpa using hj)
 rw[Bool.and_eq_true,decide_eq_true_eq,getD_some hj] at this
 exact⟨l[j].toNat,by omega,by omega⟩
end Go.Sx

end
section
set_option linter.unusedVariables false
set_option linter.unusedSimpArgs false
set_option maxRecDepth 100000
namespace Go.Sx
open Go
def Zg (y:Nat × Nat):Qm:=⟨(y.1:Int),(y.2:Int)⟩
def Hh:Nat→Nat→List Int→List Int
 | 0,_,ks=>ks
 | f+1,n,ks=>if n=0 then ks else Hh f (n / 2) (Hd ks (n:Int))
theorem Qn5 (a5:Int)(rec1:Int × List Int→Option (List Qm × Int)):∀ (f fuel n:Nat) (ks:List Int),n<2^f→f<fuel→Qs (Fu a5 rec1) fuel ((n:Int),ks)=rec1 (Qb (a5+1),Hh f n ks)
 | f,0,n,ks,_,h=>by omega
 | 0,fuel+1,n,ks,hn,_=>by
  rw[Jm];simp only[Fu]
  rw[if_neg (by simp at hn;omega)];rfl
 | f+1,fuel+1,n,ks,hn,hf=>by
  rw[Jm];simp only[Fu]
  unfold Hh
  by_cases h0:n=0
  · rw[if_neg (by omega),if_pos h0]
  · rw[if_pos (by omega),if_neg h0,show Ju (un 1#64)=some 1 from by decide,bind_some,Qgb _ _ (by omega),Nat.pow_one]
    exact Qn5 a5 rec1 f fuel (n / 2) _ (by rw[Nat.pow_succ] at hn;omega) (by omega)
theorem Qrd {ks:List Int}{k z:Int}:z∈Hd ks k↔z∈ks∨z=k:=by
 unfold Hd;split
 · rename_i h;exact⟨.inl,fun h'=>h'.elim id (fun e=>e ▸ h)⟩
 · simp
theorem Qrc {ks:List Int}{k:Int}:(Hd ks k).length≤ks.length+1:=by unfold Hd;split<;>simp
theorem Qn6:∀ (f n:Nat) (ks:List Int) (z:Int),n<2^f→(z∈Hh f n ks↔z∈ks∨∃ j,2^j≤n∧z=((n / 2^j:Nat):Int))
 | 0,n,ks,z,hn=>by
  unfold Hh
  constructor
  · exact .inl
  · rintro(h|⟨j,hj,_⟩)
    · exact h
    · have:=Nat.two_pow_pos j;simp at hn;omega
 | f+1,n,ks,z,hn=>by
  unfold Hh
  by_cases h0:n=0
  · rw[if_pos h0]
    constructor
    · exact .inl
    · rintro(h|⟨j,hj,_⟩)
      · exact h
      · have:=Nat.two_pow_pos j;omega
  · rw[if_neg h0,Qn6 f (n / 2) _ z (by rw[Nat.pow_succ] at hn;omega),Qrd]
    have hd2:∀ j,n / 2 / 2^j=n / 2^(j+1):=fun j=>by rw[Nat.div_div_eq_div_mul,Nat.pow_succ,Nat.mul_comm 2]
    constructor
    · rintro((h|h)|⟨j,h1,h2⟩)
      · exact .inl h
      · exact .inr ⟨0,by simp;omega,by simpa using h⟩
      · exact .inr ⟨j+1,by rw[Nat.pow_succ];omega,by rw[h2,hd2]⟩
    · rintro(h|⟨j,h1,h2⟩)
      · exact .inl (.inl h)
      · cases j with
        | zero=>exact .inl (.inr (by simpa using h2))
        | succ j=>exact .inr ⟨j,by rw[Nat.pow_succ] at h1;omega,by rw[h2,hd2]⟩
theorem Qn4:∀ (f n:Nat) (ks:List Int),(Hh f n ks).length≤ks.length+f
 | 0,n,ks=>by simp[Hh]
 | f+1,n,ks=>by
  unfold Hh;split
  · omega
  · have:=Qn4 f (n / 2) (Hd ks (n:Int));have:=Qrc (ks:=ks) (k:=(n:Int));omega
def Vx (d:Nat)(l:List Int):List Int:=l.foldl (fun ks u=>Hh 8 (2^d+u.toNat) ks) []
theorem Qeq {d:Nat}(h6:d≤6):∀ (l:List Int) (ks:List Int) (z:Int),(∀ u∈l,u.toNat<2^d)→(z∈l.foldl (fun ks u=>Hh 8 (2^d+u.toNat) ks) ks↔z∈ks∨∃ u∈l,∃ j,2^j≤2^d+u.toNat∧z=(((2^d+u.toNat) / 2^j:Nat):Int))
 | [],ks,z,_=>by simp
 | a::l,ks,z,h=>by
  have h64:=Yh h6
  have ha:=h a (by simp)
  rw[List.foldl_cons,Qeq h6 l _ z (fun u hu=>h u (by simp[hu])),Qn6 8 _ _ _ (by omega)]
  constructor
  · rintro((h1|h1)|⟨u,hu,h1⟩)
    · exact .inl h1
    · exact .inr ⟨a,by simp,h1⟩
    · exact .inr ⟨u,by simp[hu],h1⟩
  · rintro(h1|⟨u,hu,h1⟩)
    · exact .inl (.inl h1)
    · rcases List.mem_cons.1 hu with rfl|hu
      · exact .inl (.inr h1)
      · exact .inr ⟨u,hu,h1⟩
theorem Qjm {d:Nat}:∀ (l:List Int) (ks:List Int),(l.foldl (fun ks u=>Hh 8 (2^d+u.toNat) ks) ks).length≤ks.length+8*l.length
 | [],ks=>by simp
 | a::l,ks=>by
  rw[List.foldl_cons,List.length_cons]
  have:=Qjm (d:=d) l (Hh 8 (2^d+a.toNat) ks)
  have:=Qn4 8 (2^d+a.toNat) ks
  omega
def Qx (l:List Int):List Nat:=l.map Int.toNat
theorem Sk {d:Nat}{l:List Int}(h6:d≤6)(h:Yf d l=true):Pp d (Qx l):=⟨h6,fun u hu=>by
 obtain⟨a,ha,rfl⟩:=List.mem_map.1 hu
 obtain⟨w,hw,hw2⟩:=Qf1 h ha
 rw[hw];simpa using hw2⟩
theorem Gu {d:Nat}{l:List Int}(h6:d≤6)(h:Yf d l=true)(n:Nat):((n:Int)∈Vx d l)↔Za d (Qx l) n=true:=by
 have hr:=Sk h6 h
 unfold Vx
 rw[Qeq h6 l [] _ (fun u hu=>hr.2 _ (List.mem_map.2 ⟨u,hu,rfl⟩)),Lw]
 simp only[List.not_mem_nil,false_or]
 constructor
 · rintro⟨u,hu,j,h1,h2⟩
   refine⟨u.toNat,List.mem_map.2 ⟨u,hu,rfl⟩,(Td (hr.leaf (List.mem_map.2 ⟨u,hu,rfl⟩)).1).2 ⟨j,h1,by omega⟩⟩
 · rintro⟨u,hu,hb⟩
   obtain⟨a,ha,rfl⟩:=List.mem_map.1 hu
   obtain⟨j,h1,h2⟩:=(Td (hr.leaf hu).1).1 hb
   exact⟨a,ha,j,h1,by rw[h2]⟩
theorem Qr9 {d:Nat}{l:List Int}(h6:d≤6)(h:Yf d l=true){k:Int}(hk:k∈Vx d l):∃ n:Nat,k=(n:Int)∧Za d (Qx l) n=true:=by
 have hr:=Sk h6 h
 unfold Vx at hk
 rw[Qeq h6 l [] _ (fun u hu=>hr.2 _ (List.mem_map.2 ⟨u,hu,rfl⟩))] at hk
 simp only[List.not_mem_nil,false_or] at hk
 obtain⟨u,hu,j,h1,h2⟩:=hk
 exact⟨_,h2,Lw.2 ⟨u.toNat,List.mem_map.2 ⟨u,hu,rfl⟩,(Td (hr.leaf (List.mem_map.2 ⟨u,hu,rfl⟩)).1).2 ⟨j,h1,rfl⟩⟩⟩
theorem Qdz {d:Nat}{l:List Int}(h6:d≤6)(h:Yf d l=true)(n:Nat):decide ((n:Int)∈Vx d l)=Za d (Qx l) n:=by
 cases hb:Za d (Qx l) n with
 | true=>exact decide_eq_true ((Gu h6 h n).2 hb)
 | false=>exact decide_eq_false fun hm=>by rw[(Gu h6 h n).1 hm] at hb;cases hb
theorem Qjh {s:Qo}{d:Nat}{l:List Int}(h6:d≤6)(h:Yf d l=true)(acc:List Qm)(nx:List Qm→Option (List Qm × Int))(k:Int):∀ (f fuel v:Nat),1≤v→Nat.log2 v≤d→d-Nat.log2 v<f→f≤fuel→
 Qs (Gm (Vh s,0) (Vx d l) acc nx k) fuel (v:Int)=(if(Jj d (Qx l) f v:Int)=k then nx acc else Option.bind (Lk (Vh s) k (Jj d (Qx l) f v:Int)) fun x31=>(if x31≠0 then(if(Vh s).kind=3#8 then Option.bind (Gn (Vh s) k) fun x34=>(Ps acc nx k (Jj d (Qx l) f v:Int) x31 (!x34)) else Ps acc nx k (Jj d (Qx l) f v:Int) x31 false) else Ps acc nx k (Jj d (Qx l) f v:Int) x31 false))
 | 0,fuel,v,_,_,hf,_=>by omega
 | f+1,0,v,_,_,_,hf=>by omega
 | f+1,fuel+1,v,hv,hl,hf,hff=>by
  have hr:=Sk h6 h
  have h64:=Yh h6
  have hv128:v<128:=by
   have:=(Nat.log2_lt (n:=v) (k:=d+1) (by omega)).1 (by omega)
   rw[Nat.pow_succ] at this;omega
  rw[Jm];simp only[Gm]
  have e0:Qb (2*(v:Int))=((2*v:Nat):Int):=by rw[Jc (by omega) (by omega)];omega
  have e1:Qb (((2*v:Nat):Int)+1)=((2*v+1:Nat):Int):=by rw[Jc (by omega) (by omega)];omega
  have e2:Qb ((v:Int)*2)=((2*v:Nat):Int):=by rw[Jc (by omega) (by omega)];omega
  rw[e0,e1,e2,e1,Qdz h6 h,Qdz h6 h]
  rw[show(Za d (Qx l) (2*v) != Za d (Qx l) (2*v+1))=Hs d (Qx l) v from rfl]
  cases hb:Hs d (Qx l) v with
  | false=>
   have hfv:Jj d (Qx l) (f+1) v=v:=by unfold Jj;rw[hb];rfl
   rw[cond_false,hfv]
  | true=>
   have hfv:Jj d (Qx l) (f+1) v=Jj d (Qx l) f (Yb d (Qx l) v):=by
    show(if Hs d (Qx l) v=true then Jj d (Qx l) f (Yb d (Qx l) v) else v)=_
    rw[hb];rfl
   rw[cond_true,hfv]
   obtain⟨hl2,_⟩:=Qdn hr hv hb
   have key:(if ¬ (((2*v:Nat):Int)∈Vx d l) then Qs (Gm (Vh s,0) (Vx d l) acc nx k) fuel ((2*v+1:Nat):Int) else Qs (Gm (Vh s,0) (Vx d l) acc nx k) fuel ((2*v:Nat):Int))=Qs (Gm (Vh s,0) (Vx d l) acc nx k) fuel (Yb d (Qx l) v:Int):=by
    unfold Yb
    cases hh:Za d (Qx l) (2*v) with
    | true=>rw[if_neg (fun hn=>hn ((Gu h6 h _).2 hh)),if_pos rfl]
    | false=>rw[if_pos (fun hm=>by rw[(Gu h6 h _).1 hm] at hh;cases hh),if_neg (by simp)]
   rw[key]
   have hn:1≤Yb d (Qx l) v∧Nat.log2 (Yb d (Qx l) v)=Nat.log2 v+1:=by
    unfold Yb;split
    · exact⟨by omega,Sd hv (b:=0) (by omega)⟩
    · exact⟨by omega,Sd hv (b:=1) (by omega)⟩
   exact Qjh h6 h acc nx k f fuel _ hn.1 (by omega) (by omega) (by omega)
theorem Qwe {s:Qo}{d:Nat}{l:List Int}(hv:Vl s=true)(hd:s.Depth=(d:Int))(h6:d≤6)(h:Yf d l=true){v:Nat}(hh:Za d (Qx l) v=true)(acc:List Qm)(ha:acc.length≤1000)(nx:List Qm→Option (List Qm × Int)):
 Lg (Vh s,0) (Vx d l) (v:Int) nx acc=nx (acc++(Hf s.Kind d (Qx l) v).map Zg):=by
 have hr:=Sk h6 h
 have h64:=Yh h6
 obtain⟨v1,vl,v2⟩:=Lx hr hh
 have hpow:2^(d+1)=2*2^d:=by rw[Nat.pow_succ,Nat.mul_comm]
 have hv128:v<128:=by omega
 have ht:Vh s=⟨s.Kind,(d:Int),(Pd d:Int)⟩:=by unfold Vh;rw[hd,Int.toNat_natCast]
 have hkd:(Vh s).kind=s.Kind:=rfl
 have hsib:Lh (v:Int)=some ((v ^^^ 1:Nat):Int):=by unfold Lh;rw[Qh3 hv128]
 have hadd:∀ (a b:Int) (acc:List Qm),acc.length≤2000→Fq a b acc=some (acc++[⟨a,b⟩]):=fun a b acc hl=>by
  unfold Fq;rw[Hj (by simp;omega),bind_some]
 unfold Lg
 simp only[hkd]
 by_cases hk:s.Kind=1#8
 · rw[if_pos hk]
   unfold Hf
   rw[if_pos hk]
   by_cases hv1:v=1
   · rw[if_neg (by omega),if_neg (by simp[hv1])]
     unfold Cj;simp
   · rw[if_pos (by omega),hsib,bind_some]
     unfold Cj
     have hdm:=Qdz h6 h (v ^^^ 1)
     by_cases hs:Za d (Qx l) (v ^^^ 1)=true
     · rw[decide_eq_false (p:=¬ (((v ^^^ 1:Nat):Int)∈Vx d l)) (fun hn=>hn ((Gu h6 h _).2 hs)),cond_false,if_neg (by simp[hs])];simp
     · have hs':Za d (Qx l) (v ^^^ 1)=false:=by simpa using hs
       rw[decide_eq_true (p:=¬ (((v ^^^ 1:Nat):Int)∈Vx d l)) (fun hm=>hs ((Gu h6 h _).1 hm)),cond_true,hsib,bind_some,hadd _ _ _ (by omega),bind_some,if_pos ⟨hv1,hs'⟩]
       rfl
 · rw[if_neg hk]
   have go:Wj d (Qx l) v=true→Lf (Vh s,0) (Vx d l) acc nx (v:Int) false=nx (acc++(Hf s.Kind d (Qx l) v).map Zg):=by
    intro hhd
    unfold Lf
    rw[cond_false,Qjh h6 h acc nx (v:Int) 7 Qy v v1 vl (by omega) (by unfold Qy;omega)]
    unfold Hf
    rw[if_neg hk,if_pos hhd]
    obtain⟨w1,w2,w3,K,w4,w5,w6⟩:=Aj hr 7 v v1 vl (by omega)
    generalize Jj d (Qx l) 7 v=w at *
    by_cases hw:w=v
    · rw[if_pos (by omega),if_pos hw];simp
    · rw[if_neg (by omega),if_neg hw]
      have hlw:=Dv w K w4
      rw[←w5] at hlw
      have hK:1≤K:=by
       rcases Nat.eq_zero_or_pos K with h0|h0
       · subst h0;simp at w5;exact absurd w5.symm hw
       · exact h0
      have hw128:w<128:=by
       have:=(Nat.log2_lt (n:=w) (k:=d+1) (by omega)).1 (by omega)
       omega
      have hcut:Lk (Vh s) (v:Int) (w:Int)=some ((Kf d v w:Nat):Int):=by
       obtain⟨K',rfl⟩:∃ K',K=K'+1:=⟨K-1,by omega⟩
       have:=Qov (kd:=s.Kind) (d:=d) (m:=w) (k:=K') hw128 w4 (by omega)
       rw[←w5] at this
       rw[ht,this]
       unfold Kf
       rw[show Nat.log2 w-Nat.log2 v-1=K' from by omega]
      have hspc:Gn (Vh s) (v:Int)=some (Pc d v):=by rw[ht];exact Qm4 v1 (by omega)
      rw[hcut,bind_some]
      have one:Ps acc nx (v:Int) (w:Int) ((Kf d v w:Nat):Int) false=nx (acc++[(v,w)].map Zg):=by
       unfold Ps Cl
       rw[cond_false,hadd _ _ _ (by omega),bind_some];rfl
      have two:Ps acc nx (v:Int) (w:Int) ((Kf d v w:Nat):Int) true=nx (acc++[(v,Kf d v w),(Kf d v w,w)].map Zg):=by
       unfold Ps Cl
       rw[cond_true,hadd _ _ _ (by omega),bind_some,hadd _ _ _ (by simp;omega),bind_some,List.append_assoc];rfl
      have hk3:s.Kind=2#8∨s.Kind=3#8:=by
       obtain⟨a,b⟩:=Qwv hv
       rcases Qri a b with e|e|e
       · exact absurd e hk
       · exact .inl e
       · exact .inr e
      unfold Tb
      by_cases hc0:Kf d v w=0
      · rw[if_neg (by omega),one]
        have:(decide (s.Kind=2#8)||Pc d v||decide (Pz d (Vf (w / 2) (Nat.log2 w-Nat.log2 v-1))=0))=true:=by
         rw[decide_eq_true (p:=Pz _ _=0) hc0];simp
        rw[if_pos this]
      · have hc0':decide (Pz d (Vf (w / 2) (Nat.log2 w-Nat.log2 v-1))=0)=false:=decide_eq_false hc0
        rw[if_pos (by omega),hc0',Bool.or_false]
        rcases hk3 with hk3|hk3
        · rw[if_neg (by rw[hkd,hk3];decide),one,if_pos (by simp[hk3])]
        · rw[if_pos (show(Vh s).kind=3#8 from hk3),hspc,bind_some]
          have:decide (s.Kind=2#8)=false:=by rw[hk3];decide
          rw[this,Bool.false_or]
          cases Pc d v with
          | true=>rw[Bool.not_true,one,if_pos rfl]
          | false=>rw[Bool.not_false,two,if_neg (by simp)]
   have no:Wj d (Qx l) v=false→Lf (Vh s,0) (Vx d l) acc nx (v:Int) true=nx (acc++(Hf s.Kind d (Qx l) v).map Zg):=by
    intro hhd
    unfold Lf Hf
    rw[cond_true,if_neg hk,if_neg (by rw[hhd];simp)];simp
   by_cases hv1:v=1
   · rw[if_neg (by omega)];exact go (by unfold Wj;simp[hv1])
   · rw[if_pos (by omega),hsib,bind_some]
     by_cases hs:Za d (Qx l) (v ^^^ 1)=true
     · rw[decide_eq_false (p:=¬ (((v ^^^ 1:Nat):Int)∈Vx d l)) (fun hn=>hn ((Gu h6 h _).2 hs))];exact go (by unfold Wj;simp[hs])
     · have hs':Za d (Qx l) (v ^^^ 1)=false:=by simpa using hs
       rw[decide_eq_true (p:=¬ (((v ^^^ 1:Nat):Int)∈Vx d l)) (fun hm=>hs ((Gu h6 h _).1 hm))];exact no (by unfold Wj;simp[hs',hv1])
theorem Qom {d:Nat}{R:List Nat}(h:Pp d R){k:BitVec 8}(hne:R≠[]){v:Nat}(hv:Za d R v=true):(Zl k d R).filter (fun y=>decide (Yv k d R y=v))=Hf k d R v:=by
 refine Er ?_ ?_ fun y=>?_
 · exact List.Pairwise.filter _ Fp
 · unfold Hf Pj
   split
   · split<;>simp
   · split
     · split
       · simp
       · split
         · simp
         · rename_i h2 h3 h4 h5
           obtain⟨v1,vl,v2⟩:=Lx h hv
           obtain⟨w1,w2,w3,K,w4,w5,w6⟩:=Aj h 7 v v1 vl (by have:=h.1;omega)
           obtain⟨j,j1,j2,j3⟩:=Qdx (k:=k) (d:=d) (.inr trivial) w4 w5 v1 (by simpa using h5)
           simp only[List.pairwise_cons,List.mem_singleton,List.not_mem_nil,false_imp_iff,implies_true,List.Pairwise.nil,and_true,forall_eq]
           have hj2:2^j≤Jj d R 7 v:=Nat.le_trans (Nat.pow_le_pow_right (by omega) (by omega)) w4
           have hl1:=Dv _ _ w4
           have hl2:=Dv _ _ hj2
           rw[←w5] at hl1
           rw[←j3] at hl2
           rcases Nat.lt_or_ge v (Kf d v (Jj d R 7 v)) with Xy|hge
           · exact Xy
           · have:=Qf0 hge;omega
     · simp
 · rw[List.mem_filter,decide_eq_true_eq];exact Qhi h hne hv y
theorem Qa7 {k:BitVec 8}{d:Nat}{R:List Nat}(h6:d≤6):(Zl k d R).length≤127:=by
 have h64:=Yh h6
 have hpow:2^(d+1)=2*2^d:=by rw[Nat.pow_succ,Nat.mul_comm]
 refine Nat.le_trans (List.length_filterMap_le _ _) ?_
 simp[Mp];omega
theorem Qr5 {α:Type}(p q:α→Bool)(hpq:∀ a,p a=true→q a=false)(l:List α):(l.filter fun a=>p a||q a).Perm (l.filter p++l.filter q):=by
 induction l with
 | nil=>simp
 | cons a l ih=>
  cases hp:p a with
  | true=>
   have hq:=hpq a hp
   simp only[List.filter_cons,hp,hq,Bool.true_or,if_true,Bool.false_eq_true,if_false,List.cons_append]
   exact ih.cons a
  | false=>
   cases hq:q a with
   | true=>
    simp only[List.filter_cons,hp,hq,Bool.or_true,if_true,Bool.false_eq_true,if_false]
    exact(ih.cons a).trans List.perm_middle.symm
   | false=>
    simp only[List.filter_cons,hp,hq,Bool.or_false,Bool.false_eq_true,if_false]
    exact ih
theorem Qwd {k:BitVec 8}{d:Nat}{R:List Nat}(h6:d≤6){acc:List Qm}(h:acc.Perm ((Zl k d R).map Zg)):Bj Qm.Node acc=some ((Zl k d R).map Zg):=by
 have h64:=Yh h6
 have hpow:2^(d+1)=2*2^d:=by rw[Nat.pow_succ,Nat.mul_comm]
 have hasc:((Zl k d R).map Zg).Pairwise fun a b=>a.Node<b.Node:=by
  rw[List.pairwise_map]
  exact(Fp (k:=k) (d:=d) (R:=R)).imp (fun {a b} hab=>by unfold Zg;simp only;omega)
 have hnd:(((Zl k d R).map Zg).map Qm.Node).Nodup:=by
  unfold List.Nodup
  rw[List.pairwise_map]
  exact hasc.imp (by omega)
 unfold Bj
 rw[if_pos]
 · congr 1
   have hs:=List.pairwise_mergeSort (le:=fun a b:Qm=>decide (a.Node≤b.Node)) (fun a b c h1 h2=>by simp at *;omega) (fun a b=>by simp;omega) acc
   have hp:(acc.mergeSort fun a b=>decide (a.Node≤b.Node)).Perm ((Zl k d R).map Zg):=(List.mergeSort_perm acc _).trans h
   have key:∀ (l m:List Qm),l.Perm m→(l.Pairwise fun a b=>decide (a.Node≤b.Node)=true)→(m.Pairwise fun a b=>a.Node<b.Node)→l=m:=by
    intro l m hlm hl hm
    have hlnd:(l.map Qm.Node).Nodup:=by
     have:(m.map Qm.Node).Nodup:=by unfold List.Nodup;rw[List.pairwise_map];exact hm.imp (by omega)
     exact(hlm.map _).nodup_iff.2 this
    have hl':l.Pairwise fun a b=>a.Node<b.Node:=by
     unfold List.Nodup at hlnd
     rw[List.pairwise_map] at hlnd
     exact(hl.and hlnd).imp (fun {a b} hab=>by have:=of_decide_eq_true hab.1;have:=hab.2;omega)
    clear hl hlnd
    induction m generalizing l with
    | nil=>exact hlm.eq_nil
    | cons b m ih=>
     cases l with
     | nil=>exact absurd hlm.symm.eq_nil (by simp)
     | cons a l=>
      have ha:=List.pairwise_cons.1 hl'
      have hb:=List.pairwise_cons.1 hm
      have hab:a=b:=by
       rcases List.mem_cons.1 (hlm.subset (List.mem_cons_self)) with e|e
       · exact e
       · rcases List.mem_cons.1 (hlm.symm.subset (List.mem_cons_self)) with e2|e2
         · exact e2.symm
         · have:=ha.1 b e2;have:=hb.1 a e;omega
      subst hab
      rw[ih l (List.Perm.cons_inv hlm) hb.2 ha.2]
   exact key _ _ hp hs hasc
 · refine⟨fun x hx=>?_,(h.map _).nodup_iff.2 hnd,?_⟩
   · obtain⟨y,hy,rfl⟩:=List.mem_map.1 (h.subset hx)
     have:=(Gl.1 hy).1
     unfold Zg;simp only;omega
   · rw[h.length_eq,List.length_map];have:=Qa7 (k:=k) (R:=R) h6;omega
theorem Qu2 {s:Qo}{d:Nat}{l:List Int}(hv:Vl s=true)(hd:s.Depth=(d:Int))(h6:d≤6)(h:Yf d l=true)(hne:l≠[])(hl:l.length*8≤140737488355328):
 Hg (Lg (Vh s,0) (Vx d l)) Fs Qy (Vx d l) []=some ((Zl s.Kind d (Qx l)).map Zg,0):=by
 have hr:=Sk h6 h
 have hne':Qx l≠[]:=by unfold Qx;simpa using hne
 refine Qlo (fun rem acc=>(∀ k∈rem,k∈Vx d l)∧acc.Perm (((Zl s.Kind d (Qx l)).filter fun y=>decide (((Yv s.Kind d (Qx l) y:Nat):Int)∉rem)).map Zg)) ?_ ?_ Qy (Vx d l) [] ?_ ⟨fun _ hk=>hk,?_⟩
 · rintro acc ⟨_,hp⟩
   have:((Zl s.Kind d (Qx l)).filter fun y=>decide (((Yv s.Kind d (Qx l) y:Nat):Int)∉([]:List Int)))=Zl s.Kind d (Qx l):=List.filter_eq_self.2 (by simp)
   rw[this] at hp
   unfold Fs
   rw[Qwd h6 hp,bind_some]
 · rintro rem acc k hk ⟨hsub,hp⟩
   obtain⟨v,rfl,hvh⟩:=Qr9 h6 h (hsub k hk)
   have hal:acc.length≤1000:=by
    rw[hp.length_eq,List.length_map]
    have:=Qa7 (k:=s.Kind) (R:=Qx l) h6
    have:=List.length_filter_le (fun y=>decide (((Yv s.Kind d (Qx l) y:Nat):Int)∉rem)) (Zl s.Kind d (Qx l))
    omega
   refine⟨acc++(Hf s.Kind d (Qx l) v).map Zg,⟨fun j hj=>hsub j (List.mem_filter.1 hj).1,?_⟩,fun nx=>Qwe hv hd h6 h hvh acc hal nx⟩
   have hsp:=Qr5 (fun y=>decide (((Yv s.Kind d (Qx l) y:Nat):Int)∉rem)) (fun y=>decide (Yv s.Kind d (Qx l) y=v)) (fun y hy=>by
    simp only[decide_eq_true_eq,decide_eq_false_iff_not] at hy ⊢
    rintro rfl;exact hy hk) (Zl s.Kind d (Qx l))
   rw[Qom hr hne' hvh] at hsp
   have hcg:((Zl s.Kind d (Qx l)).filter fun y=>decide (((Yv s.Kind d (Qx l) y:Nat):Int)∉rem.filter (· ≠ (v:Int))))=((Zl s.Kind d (Qx l)).filter fun y=>decide (((Yv s.Kind d (Qx l) y:Nat):Int)∉rem)||decide (Yv s.Kind d (Qx l) y=v)):=by
    apply List.filter_congr
    intro y _
    rw[Bool.eq_iff_iff]
    simp only[Bool.or_eq_true,decide_eq_true_eq,List.mem_filter,not_and,ne_eq,Decidable.not_not,decide_not,Bool.not_eq_true',decide_eq_false_iff_not]
    constructor
    · intro hh
      by_cases hm:((Yv s.Kind d (Qx l) y:Nat):Int)∈rem
      · have:=hh hm;right;omega
      · exact .inl hm
    · rintro(hh|hh) hm
      · exact absurd hm hh
      · rw[hh]
   rw[hcg]
   refine List.Perm.trans ?_ (hsp.map Zg).symm
   rw[List.map_append]
   exact hp.append_right _
 · have:=Qjm (d:=d) l []
   unfold Vx Qy
   simp only[List.length_nil,Nat.zero_add] at this
   omega
 · have:((Zl s.Kind d (Qx l)).filter fun y=>decide (((Yv s.Kind d (Qx l) y:Nat):Int)∉Vx d l))=[]:=by
    rw[List.filter_eq_nil_iff]
    intro y hy
    simp only[decide_eq_true_eq]
    exact fun hn=>hn ((Gu h6 h _).2 (Qf7 hr hne' hy))
   rw[this];simp
def Ld (s:Qo)(l:List Int):List Qm × Int:=
 if Vl s then(if Yf s.Depth.toNat l then((if l=[] then[⟨1,0⟩] else(Zl s.Kind s.Depth.toNat (Qx l)).map Zg),0) else([],2)) else([],30)
theorem Qte (s:Qo)(l:List Int)(hl:l.length*8≤140737488355328):Et s l=some (Ld s l):=by
 unfold Et Ld
 rw[Qqm,bind_some]
 cases hv:Vl s with
 | false=>rfl
 | true=>
  obtain⟨d,hd,h6⟩:=Qgm hv
  have ht:Vh s=⟨s.Kind,(d:Int),(Pd d:Int)⟩:=by unfold Vh;rw[hd,Int.toNat_natCast]
  simp only[if_true]
  rw[if_neg (by simp),hd,Int.toNat_natCast]
  have e0:Cr (Vh s) l=some (Yf d l):=by rw[ht];exact Qrx h6 l (by omega)
  rw[e0,bind_some]
  cases hb:Yf d l with
  | false=>rfl
  | true=>
   simp only[Bool.not_true,cond_false,if_true]
   by_cases hne:l=[]
   · subst hne;rfl
   · rw[if_neg (by intro h0;apply hne;exact List.eq_nil_of_length_eq_zero (by omega)),if_neg hne]
     have:=Qel l (Ft l (Vh s,0)) (fun j (ks:List Int)=>((j:Int),ks)) (fun u nx ks=>nx (Hh 8 (2^d+u.toNat) ks)) (fun ks=>Hg (Lg (Vh s,0) ks) Fs Qy ks [])
      (fun rec j hj ks=>by
       obtain⟨u,hu,hu2⟩:=Qf1 hb (List.getElem_mem hj)
       have h64:=Yh h6
       simp only[Ft]
       have hlf:Rb (Vh s) (u:Int)=some ((2^d+u:Nat):Int):=by rw[ht];exact Qro h6 (by omega)
       rw[if_pos (by omega),Yu hj,bind_some,hu,hlf,bind_some,Qn5 _ _ 8 Qy _ _ (by omega) (by unfold Qy;omega),Fc (by omega),Int.toNat_natCast])
      (fun rec ks=>by simp only[Ft];rw[if_neg (by omega)]) (f:=Qy) (Ye (by omega)) ([]:List Int)
     rw[show((0:Nat):Int)=0 from rfl] at this
     rw[this,Qjt (fun ks u=>Hh 8 (2^d+u.toNat) ks) _ _ (fun _ _=>True) l 0 [] (fun _ _ _ _ _ _=>rfl) (fun _ _ _ _ _=>trivial) trivial]
     exact Qu2 hv hd h6 hb hne hl
end Go.Sx

end
section
set_option linter.unusedVariables false
set_option linter.unusedSimpArgs false
set_option maxRecDepth 100000
namespace Go.Sx.Pn
open Go Go.Sx
theorem Ri {k d:Nat}(hk:1≤k∧k≤3)(hd:d≤6):k∈[1,2,3]∧d∈List.range 7:=by
 refine⟨?_,List.mem_range.2 (by omega)⟩
 rcases(show k=1∨k=2∨k=3 by omega) with rfl|rfl|rfl<;>simp
theorem Qvv {k d:Nat}(hk:1≤k∧k≤3)(hd:d≤6):Vl (Zi k d)=true:=by
 unfold Vl Zi
 apply decide_eq_true
 refine⟨?_,?_,by simp only;omega,by simp only;omega,rfl,rfl⟩<;>rcases(show k=1∨k=2∨k=3 by omega) with rfl|rfl|rfl<;>(simp only;decide)
theorem Qcb {d:Nat}(h:d≤6):2^d≤64:=Nat.le_trans (Nat.pow_le_pow_right (by omega) h) (by decide)
theorem Qvy {d:Nat}(h:d≤6):Xr 1 d=((2^d:Nat):Int):=by
 have:=Qcb h
 unfold Xr
 rw[Nat.min_eq_left (by omega),Int.one_mul,show(2:Int)^d=((2^d:Nat):Int) from by rw[Int.natCast_pow];rfl]
 generalize 2^d=m at *
 exact Jc (by omega) (by omega)
theorem Qm0 (n:Nat):Ju (n:Int)=some n:=by unfold Ju;rw[if_pos (by omega)];rfl
section
variable {k d r:Nat}
theorem Qxj (hk:1≤k∧k≤3)(hd:d≤6)(hr:r≤2^d):Rw (tb k d) (r:Int)=some (Wk k d r):=by
 obtain⟨h1,h2⟩:=Ri hk hd
 exact Qxi k h1 d h2 r (List.mem_range.2 (by omega))
theorem Qk2 (hk:1≤k∧k≤3)(hd:d≤6)(hr:r≤2^d):Ih (tb k d) [] 1 0 (d:Int) (Wk k d r).2=some (Rm k d r)∧((Wk k d r).2,Rm k d r,(Wk k d r).1)∈ll k d∧(Rm k d r).length≤r:=by
 obtain⟨h1,h2⟩:=Ri hk hd
 obtain⟨x,hx,e1,e2,e3⟩:=Qry k h1 d h2 r (List.mem_range.2 (by omega))
 have hf:(ll k d).find? (fun x=>decide (x.1=(Wk k d r).2))=some x:=hx
 have h5:=List.mem_of_find?_eq_some hf
 have h6:x.1=(Wk k d r).2:=by have:=List.find?_some hf;simpa using this
 obtain⟨h7,h8⟩:=Qrz k h1 d h2 x h5
 have hl:Rm k d r=x.2.1:=by unfold Rm;rw[hf];rfl
 refine⟨by rw[←h6,hl];exact h7,by rw[hl,←h6,←e1];exact h5,by rw[hl,h8];omega⟩
end
end Go.Sx.Pn

end
section
set_option linter.unusedVariables false
set_option linter.unusedSimpArgs false
set_option maxRecDepth 100000
namespace Go.Sx.Po
open Go
abbrev bn (n:Nat):BitVec 64:=BitVec.ofNat 64 n
theorem Ce (x:BitVec 64):∃ n,n<18446744073709551616∧x=bn n:=⟨x.toNat,x.isLt,by simp[bn]⟩
theorem Ys {n:Nat}(h:n<18446744073709551616):(bn n).toNat=n:=by rw[bn,BitVec.toNat_ofNat];exact Nat.mod_eq_of_lt h
theorem Fo {a b:Nat}(ha:a<18446744073709551616)(hb:b<18446744073709551616):bn a=bn b↔a=b:=by
 constructor
 · intro h;rw[←Ys ha,←Ys hb,h]
 · intro h;rw[h]
theorem Yy {a b:Nat}(ha:a<18446744073709551616)(hb:b<18446744073709551616):bn a<bn b↔a<b:=by rw[BitVec.lt_def,Ys ha,Ys hb]
theorem Nx {a b:Nat}(ha:a<18446744073709551616)(hb:b<18446744073709551616):bn a≤bn b↔a≤b:=by rw[BitVec.le_def,Ys ha,Ys hb]
theorem Cd (a b:Nat):bn a*bn b=bn (a*b):=by apply BitVec.eq_of_toNat_eq;simp[bn]
theorem Qo8 (a b:Nat):bn a+bn b=bn (a+b):=by apply BitVec.eq_of_toNat_eq;simp[bn]
theorem Qh4 {a b:Nat}(ha:a<18446744073709551616)(h:b≤a):bn a-bn b=bn (a-b):=by
 apply BitVec.eq_of_toNat_eq
 rw[BitVec.toNat_sub,Ys ha,Ys (by omega),Ys (by omega)];omega
theorem Qoa (n:Nat)(h:n<18446744073709551616):bn n >>> 1=bn (n / 2):=by
 apply BitVec.eq_of_toNat_eq
 rw[BitVec.toNat_ushiftRight,Ys h,Ys (by omega),Nat.shiftRight_eq_div_pow]
theorem Qo9 (n:Nat)(h:n<18446744073709551616):bn n &&& 1#64=bn (n%2):=by
 apply BitVec.eq_of_toNat_eq
 rw[BitVec.toNat_and,Ys h,Ys (n:=n%2) (by omega)]
 exact Nat.and_one_is_mod n
theorem Di {a m:Nat}(ha:a<18446744073709551616)(hm:0<m)(hm2:m<18446744073709551616):Yw (bn a) (bn m)=some (bn (a%m)):=by
 have:=Nat.mod_lt a hm
 unfold Yw
 rw[if_neg (fun h=>by have:=(Fo (b:=0) hm2 (by omega)).1 h;omega)]
 congr 1
 apply BitVec.eq_of_toNat_eq
 rw[BitVec.toNat_umod,Ys ha,Ys hm2,Ys (by omega)]
theorem Qu1 {a m:Nat}(ha:a<18446744073709551616)(hm:0<m)(hm2:m<18446744073709551616):Im (bn a) (bn m)=some (bn (a / m)):=by
 have:=Nat.div_le_self a m
 unfold Im
 rw[if_neg (fun h=>by have:=(Fo (b:=0) hm2 (by omega)).1 h;omega)]
 congr 1
 apply BitVec.eq_of_toNat_eq
 rw[BitVec.toNat_udiv,Ys ha,Ys hm2,Ys (by omega)]
def Fi (n:Nat):Prop:=2≤n∧∀ e,2≤e→e*e≤n→n%e≠0
theorem Qfq {n:Nat}(hn:n≤1048575)(T:Bool)(F:(BitVec 64→Option Bool)→BitVec 64→Option Bool)(hF:∀ rec a,F rec a=if a*a≤bn n then Option.bind (Yw (bn n) a) fun x4=>if x4=0#64 then some false else rec (a+1#64) else some T):
 ∀ (m d f:Nat),d+m=1025→m<f→2≤d→∃ b,Qs F f (bn d)=some b∧(b=true↔T=true∧∀ e,d≤e→e*e≤n→n%e≠0)
 | m,d,0,_,h,_=>by omega
 | 0,d,f+1,hd,_,h2=>by
  obtain rfl:d=1025:=by omega
  rw[Jm,hF,Cd,if_neg (by rw[Nx (by omega) (by omega)];omega)]
  refine⟨T,rfl,fun h=>⟨h,fun e he hen=>?_⟩,fun h=>h.1⟩
  have:=Nat.mul_le_mul he he
  omega
 | m+1,d,f+1,hd,hf,h2=>by
  have hdd:d*d≤1025*1025:=Nat.mul_le_mul (by omega) (by omega)
  rw[Jm,hF,Cd]
  by_cases hle:d*d≤n
  · rw[if_pos ((Nx (by omega) (by omega)).2 hle),Di (by omega) (by omega) (by omega),bind_some]
    by_cases hz:n%d=0
    · rw[hz,if_pos rfl]
      exact⟨false,rfl,(fun h=>by cases h),fun h=>absurd hz (h.2 d (Nat.le_refl _) hle)⟩
    · have hzn:¬ bn (n%d)=0#64:=fun h=>hz ((Fo (b:=0) (by have:=Nat.mod_lt n (show 0<d by omega);omega) (by omega)).1 h)
      rw[if_neg hzn,show(1#64)=bn 1 from rfl,Qo8]
      obtain⟨b,e1,e2⟩:=Qfq hn T F hF m (d+1) f (by omega) (by omega) (by omega)
      refine⟨b,e1,?_⟩
      rw[e2]
      refine and_congr_right fun _=>⟨fun h e he hen=>?_,fun h e he=>h e (by omega)⟩
      rcases Nat.lt_or_ge d e with h'|h'
      · exact h e (by omega) hen
      · obtain rfl:e=d:=by omega
        exact hz
  · rw[if_neg (fun h=>hle ((Nx (by omega) (by omega)).1 h))]
    refine⟨T,rfl,fun h=>⟨h,fun e he hen=>?_⟩,fun h=>h.1⟩
    have:=Nat.mul_le_mul he he
    omega
theorem Qcc {n:Nat}(h64:n<18446744073709551616):∃ b,Mr (bn n)=some b∧(b=true↔n≤1048575∧Fi n):=by
 unfold Mr Ap
 by_cases h2:n<2
 · rw[if_pos ((Yy h64 (b:=2) (by omega)).2 h2)]
   exact⟨false,rfl,(fun h=>by cases h),fun h=>by have:=h.2.1;omega⟩
 · rw[if_neg (fun h=>h2 ((Yy h64 (b:=2) (by omega)).1 h))]
   by_cases hg:1048575<n
   · rw[decide_eq_true ((Yy (a:=1048575) (by omega) h64).2 hg)]
     exact⟨false,rfl,(fun h=>by cases h),fun h=>by omega⟩
   · rw[decide_eq_false (fun h=>hg ((Yy (a:=1048575) (by omega) h64).1 h)),cond_false]
     obtain⟨b,e1,e2⟩:=Qfq (n:=n) (by omega) true (Aq (bn n)) (fun rec a=>rfl) 1023 2 Qy (by omega) (Ye (by omega)) (by omega)
     refine⟨b,e1,?_⟩
     rw[e2];unfold Fi
     exact⟨fun h=>⟨by omega,by omega,h.2⟩,fun h=>⟨rfl,h.2.2⟩⟩
theorem Qay {n:Nat}(hn:n≤1048575):∃ b,Io (bn n)=some b∧(b=true↔Fi n):=by
 obtain⟨b,e1,e2⟩:=Qfq (n:=n) hn (decide (2#64≤bn n)) (Ip (bn n)) (fun rec a=>rfl) 1023 2 Qy (by omega) (Ye (by omega)) (by omega)
 refine⟨b,e1,?_⟩
 rw[e2,decide_eq_true_eq,show(2#64)=bn 2 from rfl,Nx (by omega) (by omega)];rfl
theorem Qtz (x n:Nat):x^n=x^(n%2)*(x*x)^(n / 2):=by
 have:x^n=x^(n%2+2*(n / 2)):=by congr 1;omega
 rw[this,Nat.pow_add,Nat.pow_mul,Nat.pow_two]
theorem Qku {m x n o:Nat}:o*x^n%m=(if n%2=1 then o*x%m else o)*(x*x%m)^(n / 2)%m:=by
 rw[Qtz x n]
 rcases Nat.mod_two_eq_zero_or_one n with h|h
 · rw[h,if_neg (by omega),Nat.pow_zero,Nat.one_mul,Nat.mul_mod o ((x*x%m)^(n / 2)),←Nat.pow_mod,←Nat.mul_mod]
 · rw[h,if_pos rfl,Nat.pow_one,Nat.mul_mod (o*x%m),Nat.mod_mod,←Nat.pow_mod,←Nat.mul_mod,Nat.mul_assoc]
theorem Qfp {m:Nat}(hm:0<m)(hm2:m<4294967296):∀ (k n x o f:Nat),n<2^k→k≤64→k<f→x<m→o<m→Qs (Rq (bn m)) f (bn x,bn n,bn o)=some (bn (o*x^n%m))
 | k,n,x,o,0,_,_,h,_,_=>by omega
 | 0,n,x,o,f+1,hn,_,_,hx,ho=>by
  obtain rfl:n=0:=by simp at hn;exact hn
  rw[Jm];simp only[Rq]
  rw[if_neg (by decide),Nat.pow_zero,Nat.mul_one,Nat.mod_eq_of_lt ho]
 | k+1,n,x,o,f+1,hn,hk,hf,hx,ho=>by
  have hn64:n<18446744073709551616:=Nat.lt_of_lt_of_le hn (Nat.le_trans (Nat.pow_le_pow_right (by omega) hk) (by decide))
  have hxx:x*x<18446744073709551616:=Nat.lt_of_le_of_lt (Nat.mul_le_mul (Nat.le_of_lt hx) (Nat.le_of_lt hx)) (by have:=Nat.mul_lt_mul'' hm2 hm2;omega)
  have hox:o*x<18446744073709551616:=Nat.lt_of_le_of_lt (Nat.mul_le_mul (Nat.le_of_lt ho) (Nat.le_of_lt hx)) (by have:=Nat.mul_lt_mul'' hm2 hm2;omega)
  rw[Jm];simp only[Rq]
  by_cases h0:n=0
  · subst h0
    rw[if_neg (by decide),Nat.pow_zero,Nat.mul_one,Nat.mod_eq_of_lt ho]
  · rw[if_pos ((Yy (a:=0) (by omega) hn64).2 (by omega)),Qo9 n hn64,show Ju (un 1#64)=some 1 from by decide,Cd,Cd,Di hxx hm (by omega),Di hox hm (by omega),Qku]
    simp only[bind_some]
    rw[Qoa n hn64]
    have Xy:n / 2<2^k:=by rw[Nat.pow_succ] at hn;omega
    have h1:=Nat.mod_lt (x*x) hm
    have h2:=Nat.mod_lt (o*x) hm
    by_cases hodd:n%2=1
    · rw[if_pos (by rw[hodd]),if_pos hodd]
      exact Qfp hm hm2 k (n / 2) _ _ f Xy (by omega) (by omega) h1 h2
    · rw[if_neg (fun h=>hodd ((Fo (b:=1) (by omega) (by omega)).1 h)),if_neg hodd]
      exact Qfp hm hm2 k (n / 2) _ _ f Xy (by omega) (by omega) h1 ho
theorem Qkv {b n m:Nat}(hb:b<18446744073709551616)(hn:n<18446744073709551616)(hm:0<m)(hm2:m<4294967296):Ao (bn b) (bn n) (bn m)=some (bn (b^n%m)):=by
 unfold Ao
 rw[show(1#64)=bn 1 from rfl,Di (by omega) hm (by omega),bind_some,Di hb hm (by omega),bind_some,Qfp hm hm2 64 n _ _ Qy (by omega) (by omega) (Ye (by omega)) (Nat.mod_lt _ hm) (Nat.mod_lt _ hm),Nat.mod_mul_mod,Nat.one_mul,←Nat.pow_mod]
theorem Qg4 {m:Nat}(hm:0<m)(hm2:m<4294967296):∀ (k n x o f:Nat),n<2^k→k≤64→k<f→x<m→o<m→Qs (Ry (bn m)) f (bn n,bn o,bn x)=some (bn (o*x^n%m))
 | k,n,x,o,0,_,_,h,_,_=>by omega
 | 0,n,x,o,f+1,hn,_,_,hx,ho=>by
  obtain rfl:n=0:=by simp at hn;exact hn
  rw[Jm];simp only[Ry]
  rw[if_neg (by decide),Nat.pow_zero,Nat.mul_one,Nat.mod_eq_of_lt ho]
 | k+1,n,x,o,f+1,hn,hk,hf,hx,ho=>by
  have hn64:n<18446744073709551616:=Nat.lt_of_lt_of_le hn (Nat.le_trans (Nat.pow_le_pow_right (by omega) hk) (by decide))
  have hxx:x*x<18446744073709551616:=Nat.lt_of_le_of_lt (Nat.mul_le_mul (Nat.le_of_lt hx) (Nat.le_of_lt hx)) (by have:=Nat.mul_lt_mul'' hm2 hm2;omega)
  have hox:o*x<18446744073709551616:=Nat.lt_of_le_of_lt (Nat.mul_le_mul (Nat.le_of_lt ho) (Nat.le_of_lt hx)) (by have:=Nat.mul_lt_mul'' hm2 hm2;omega)
  rw[Jm];simp only[Ry]
  by_cases h0:n=0
  · subst h0
    rw[if_neg (by decide),Nat.pow_zero,Nat.mul_one,Nat.mod_eq_of_lt ho]
  · unfold Ir
    rw[if_pos ((Yy (a:=0) (by omega) hn64).2 (by omega)),show(2#64)=bn 2 from rfl,Di hn64 (by omega) (by omega),Cd,Cd,Di hxx hm (by omega),Di hox hm (by omega),Qu1 hn64 (by omega) (by omega),Qku]
    simp only[bind_some]
    have Xy:n / 2<2^k:=by rw[Nat.pow_succ] at hn;omega
    have h1:=Nat.mod_lt (x*x) hm
    have h2:=Nat.mod_lt (o*x) hm
    by_cases hodd:n%2=1
    · rw[if_pos (by rw[hodd]),if_pos hodd]
      exact Qg4 hm hm2 k (n / 2) _ _ f Xy (by omega) (by omega) h1 h2
    · rw[if_neg (fun h=>hodd ((Fo (b:=1) (by omega) (by omega)).1 h)),if_neg hodd]
      exact Qg4 hm hm2 k (n / 2) _ _ f Xy (by omega) (by omega) h1 ho
theorem Qvh {b n m:Nat}(hb:b<18446744073709551616)(hn:n<18446744073709551616)(hm:0<m)(hm2:m<4294967296):Iq (bn b) (bn n) (bn m)=some (bn (b^n%m)):=by
 unfold Iq
 rw[show(1#64)=bn 1 from rfl,Di (by omega) hm (by omega),bind_some,Di hb hm (by omega),bind_some,Qg4 hm hm2 64 n _ _ Qy (by omega) (by omega) (Ye (by omega)) (Nat.mod_lt _ hm) (Nat.mod_lt _ hm),Nat.mod_mul_mod,Nat.one_mul,←Nat.pow_mod]
end Go.Sx.Po

end
section
set_option linter.unusedVariables false
set_option linter.unusedSimpArgs false
set_option maxRecDepth 100000
namespace Go.Sx.Po
open Go
theorem Qtf {p q g:Nat}(hp:p<18446744073709551616)(hq:q<18446744073709551616)(hg:g<18446744073709551616):∃ b:Bool,Ro ⟨bn p,bn q,bn g⟩=some (if b=true then 0 else 13):=by
 obtain⟨b1,e1,i1⟩:=Qcc hp
 obtain⟨b2,e2,i2⟩:=Qcc hq
 unfold Ro
 simp only
 rw[e1,bind_some]
 cases b1 with
 | false=>exact⟨false,rfl⟩
 | true=>
  have hP:=i1.1 rfl
  simp only[Bool.not_true,cond_false]
  rw[e2,bind_some]
  cases b2 with
  | false=>exact⟨false,rfl⟩
  | true=>
   have hQ:=i2.1 rfl
   simp only[Bool.not_true,cond_false]
   have hp2:=hP.2.1
   have hq2:=hQ.2.1
   rw[show(1#64)=bn 1 from rfl,Qh4 hp (by omega),Di (by omega) (by omega) hq,bind_some]
   by_cases hz:bn ((p-1)%q)≠0#64
   · rw[if_pos hz];exact⟨false,rfl⟩
   · rw[if_neg hz]
     by_cases c3:bn g<2#64
     · rw[if_pos c3];exact⟨false,rfl⟩
     · rw[if_neg c3]
       by_cases c5:bn p≤bn g
       · rw[if_pos c5];exact⟨false,rfl⟩
       · rw[if_neg c5,Qkv hg hq (by omega) (by omega),bind_some]
         unfold Tu
         by_cases h4:bn (g^q%p)=bn 1
         · rw[decide_eq_false (by simpa using h4)];exact⟨true,rfl⟩
         · rw[decide_eq_true h4];exact⟨false,rfl⟩
theorem Qkx (s:Qo):∃ b:Bool,Nf s=some b∧(b=true→s.Kind=4#8∧0≤s.Depth∧s.Depth≤6∧1≤s.Degree∧s.Degree≤8):=by
 obtain⟨kd,dp,dg,⟨P,Q,G⟩⟩:=s
 obtain⟨p,hp,rfl⟩:=Ce P
 obtain⟨q,hq,rfl⟩:=Ce Q
 obtain⟨g,hg,rfl⟩:=Ce G
 unfold Nf
 simp only
 by_cases h1:kd=4#8
 · rw[if_pos h1]
   by_cases h2:0≤dp
   · rw[if_pos h2]
     by_cases h3:dp≤6
     · rw[if_pos h3]
       by_cases h4:1≤dg
       · rw[if_pos h4]
         by_cases h5:dg≤8
         · rw[if_pos h5]
           obtain⟨b,e1⟩:=Qtf hp hq hg
           rw[e1,bind_some]
           split
           · have:Ju dp=some dp.toNat:=by unfold Ju;rw[if_pos h2]
             rw[this,bind_some]
             exact⟨_,rfl,fun _=>⟨h1,h2,h3,h4,h5⟩⟩
           · exact⟨false,rfl,nofun⟩
         · rw[if_neg h5];exact⟨false,rfl,nofun⟩
       · rw[if_neg h4];exact⟨false,rfl,nofun⟩
     · rw[if_neg h3];exact⟨false,rfl,nofun⟩
   · rw[if_neg h2];exact⟨false,rfl,nofun⟩
 · rw[if_neg h1];exact⟨false,rfl,nofun⟩
def Nd (s:Qo):Bool:=(Nf s).getD false
theorem Qtb (s:Qo):Mw s=some (if Nd s=true then 0 else 30):=by
 obtain⟨b,e,_⟩:=Qkx s
 unfold Mw Nd
 rw[e,bind_some]
 cases b<;>rfl
theorem Qkm {s:Qo}(h:Nd s=true):s.Kind=4#8∧0≤s.Depth∧s.Depth≤6∧1≤s.Degree∧s.Degree≤8:=by
 obtain⟨b,e,i⟩:=Qkx s
 unfold Nd at h
 rw[e] at h
 exact i h
end Go.Sx.Po

end
section
set_option linter.unusedVariables false
set_option linter.unusedSimpArgs false
set_option maxRecDepth 100000
namespace Go.Sx.Pn
open Go Go.Sx Go.Sx.Po
theorem F5:Qy=18446744073709551611+1+1+1+1+1:=rfl
theorem Qjp (m:Int)(l:List Int)(hl:l.length<1000):∀ (k i f:Nat),l.length-i=k→i≤l.length→k<f→∃ j:Int,Qs (Ec l m) f (i:Int)=some j∧(0≤j↔∃ x∈l.drop i,¬ (0≤x∧x≤m))
 | k,i,0,_,_,hf=>by omega
 | k,i,f+1,hk,hi,hf=>by
  rw[Jm]
  unfold Ec
  by_cases h:i<l.length
  · rw[if_pos (by omega),Yu h,bind_some]
    unfold Qc9
    rw[List.drop_eq_getElem_cons h]
    by_cases h0:l[i]<0
    · rw[if_pos h0,bind_some,cond_true]
      exact⟨_,rfl,⟨fun _=>⟨l[i],List.mem_cons_self,by omega⟩,fun _=>by omega⟩⟩
    · rw[if_neg h0,bind_some]
      by_cases h1:m<l[i]
      · rw[decide_eq_true h1,cond_true]
        exact⟨_,rfl,⟨fun _=>⟨l[i],List.mem_cons_self,by omega⟩,fun _=>by omega⟩⟩
      · rw[decide_eq_false h1,cond_false,Jc (by omega) (by omega)]
        obtain⟨j,e,q⟩:=Qjp m l hl (k-1) (i+1) f (by omega) (by omega) (by omega)
        refine⟨j,e,q.trans ?_⟩
        constructor
        · rintro⟨x,hx,hn⟩
          exact⟨x,List.mem_cons_of_mem _ hx,hn⟩
        · rintro⟨x,hx,hn⟩
          rcases List.mem_cons.1 hx with rfl|hx
          · exact absurd ⟨by omega,by omega⟩ hn
          · exact⟨x,hx,hn⟩
  · rw[if_neg (by omega)]
    refine⟨-1,rfl,?_⟩
    rw[List.drop_eq_nil_of_le (by omega)];simp
theorem Qdf (m:Int)(l:List Int)(hl:l.length<1000):Si m l=some (l.all fun x=>decide (0≤x∧x≤m)):=by
 unfold Si Qd5 Qd6
 obtain⟨j,e,q⟩:=Qjp m l hl _ 0 Qy rfl (by omega) (Ye (by omega))
 rw[show((0:Nat):Int)=0 from rfl] at e
 rw[e,bind_some,bind_some]
 congr 1
 rw[List.drop_zero] at q
 by_cases h:0≤j
 · rw[decide_eq_true h,Bool.not_true]
   obtain⟨x,hx,hn⟩:=q.1 h
   symm
   rw[List.all_eq_false]
   exact⟨x,hx,by simpa using hn⟩
 · rw[decide_eq_false h,Bool.not_false]
   symm
   rw[List.all_eq_true]
   intro x hx
   refine decide_eq_true ?_
   by_cases hc:0≤x∧x≤m
   · exact hc
   · exact absurd (q.2 ⟨x,hx,hc⟩) h
def Yc (n:Xg):Bool:=decide ((0≤n.Depth∧n.Depth≤6)∧(0≤n.Revoked∧n.Revoked≤((2^n.Depth.toNat:Nat):Int))∧(0≤n.Storage∧n.Storage≤10000)∧(0≤n.Headers∧n.Headers≤1000)∧(0≤n.HeaderPrice∧n.HeaderPrice≤1000)∧(0≤n.StoragePrice∧n.StoragePrice≤1000))
theorem Qk7 (n:Xg):Au n=some (if Yc n=true then 0 else 2):=by
 unfold Au Yc
 rw[Qdf _ _ (by simp),bind_some]
 simp only[List.all_cons,List.all_nil,Bool.and_true]
 by_cases h1:0≤n.Depth∧n.Depth≤6
 · rw[decide_eq_true h1,Bool.not_true,cond_false]
   obtain⟨d,hd⟩:∃ d:Nat,n.Depth=(d:Int):=⟨n.Depth.toNat,by omega⟩
   rw[hd,Qm0,bind_some,Qvy (by omega),Qdf _ _ (by simp),bind_some,Int.toNat_natCast]
   simp only[List.all_cons,List.all_nil,Bool.and_true]
   by_cases h2:0≤n.Revoked∧n.Revoked≤((2^d:Nat):Int)
   · rw[decide_eq_true h2,Bool.not_true,cond_false,Qdf _ _ (by simp),bind_some]
     simp only[List.all_cons,List.all_nil,Bool.and_true]
     by_cases h3:0≤n.Storage∧n.Storage≤10000
     · rw[decide_eq_true h3,Bool.not_true,cond_false,Qdf _ _ (by simp),bind_some]
       simp only[List.all_cons,List.all_nil,Bool.and_true]
       unfold Rs
       rw[←Bool.decide_and,←Bool.decide_and]
       by_cases h4:(0≤n.Headers∧n.Headers≤1000)∧(0≤n.HeaderPrice∧n.HeaderPrice≤1000)∧(0≤n.StoragePrice∧n.StoragePrice≤1000)
       · rw[decide_eq_true h4,decide_eq_true ⟨by omega,h2,h3,h4⟩];rfl
       · rw[decide_eq_false h4,decide_eq_false fun h=>h4 h.2.2.2];rfl
     · rw[decide_eq_false h3,decide_eq_false fun h=>h3 h.2.2.1];rfl
   · rw[decide_eq_false h2,decide_eq_false fun h=>h2 h.2.1];rfl
 · rw[decide_eq_false h1,decide_eq_false fun h=>h1 h.1];rfl
def Bl (k d:Nat):Int:=((Eu (Zi k d)).getD (0,0)).1
theorem Qm7:∀ k∈[1,2,3],∀ d∈List.range 7,Eu (Zi k d)=some (Bl k d,0)∧1≤Bl k d∧Bl k d≤22:=by decide +kernel
theorem Qns:∀ k∈[1,2,3],∀ d∈List.range 7,∀ r∈List.range (2^d+1),1≤(Wk k d r).1∧(Wk k d r).1≤32:=by decide +kernel
def Mm (n:Xg)(k:BitVec 8)(a b c:Int)(l:List Int):Qq:=⟨k,decide (c≤n.Storage),a,b,67+18*a+16*b,c,n.Headers*n.HeaderPrice*(67+18*a+16*b)+n.StoragePrice*c*((2^n.Depth.toNat:Nat):Int),l⟩
theorem Qhh {n:Xg}(h:Yc n=true){hd c:Int}(h1:0≤hd∧hd≤1000)(h2:0≤c∧c≤400):(0≤n.Headers*n.HeaderPrice∧n.Headers*n.HeaderPrice≤1000000)∧(0≤n.Headers*n.HeaderPrice*hd∧n.Headers*n.HeaderPrice*hd≤1000000000)∧(0≤n.StoragePrice*c∧n.StoragePrice*c≤400000)∧(0≤n.StoragePrice*c*((2^n.Depth.toNat:Nat):Int)∧n.StoragePrice*c*((2^n.Depth.toNat:Nat):Int)≤25600000):=by
 obtain⟨⟨a1,a2⟩,_,_,⟨b1,b2⟩,⟨c1,c2⟩,⟨d1,d2⟩⟩:=of_decide_eq_true h
 have h64:=Qcb (d:=n.Depth.toNat) (by omega)
 have e1:=Int.mul_nonneg b1 c1
 have e2:n.Headers*n.HeaderPrice≤1000*1000:=Int.mul_le_mul b2 c2 c1 (by omega)
 have e3:=Int.mul_nonneg e1 h1.1
 have e4:n.Headers*n.HeaderPrice*hd≤1000000*1000:=Int.mul_le_mul (by omega) h1.2 h1.1 (by omega)
 have e5:=Int.mul_nonneg d1 h2.1
 have e6:n.StoragePrice*c≤1000*400:=Int.mul_le_mul d2 h2.2 h2.1 (by omega)
 have e7:0≤n.StoragePrice*c*((2^n.Depth.toNat:Nat):Int):=Int.mul_nonneg e5 (by omega)
 have e8:n.StoragePrice*c*((2^n.Depth.toNat:Nat):Int)≤400000*64:=Int.mul_le_mul (by omega) (by omega) (by omega) (by omega)
 omega
theorem Qhf {n:Xg}(h:Yc n=true)(k:BitVec 8){a b c:Int}(ha:0≤a∧a≤32)(hb:0≤b∧b≤8)(hc:0≤c∧c≤400)(l:List Int):Mu n k a b c l=some (Mm n k a b c l,0):=by
 obtain⟨q1,q2,q3,q4⟩:=Qhh h (hd:=67+18*a+16*b) (by omega) hc
 have hd:=(of_decide_eq_true h).1
 obtain⟨d,hd2⟩:∃ d:Nat,n.Depth=(d:Int):=⟨n.Depth.toNat,by omega⟩
 have e1:Qb (67+Qb (18*a))=67+18*a:=by rw[Jc (n:=18*a) (by omega) (by omega),Jc (by omega) (by omega)]
 have e2:Qb (Qb (67+Qb (18*a))+Qb (16*b))=67+18*a+16*b:=by rw[e1,Jc (n:=16*b) (by omega) (by omega),Jc (by omega) (by omega)]
 unfold Mu Mm
 rw[e2,Jc (n:=n.Headers*n.HeaderPrice) (by omega) (by omega),Jc (n:=n.Headers*n.HeaderPrice*(67+18*a+16*b)) (by omega) (by omega),Jc (n:=n.StoragePrice*c) (by omega) (by omega)]
 rw[hd2] at q4 ⊢
 rw[Qm0,bind_some]
 unfold Xr
 rw[Int.toNat_natCast] at q4 ⊢
 rw[Nat.min_eq_left (by omega),show(2:Int)^d=((2^d:Nat):Int) from by rw[Int.natCast_pow];rfl,Jc (n:=n.StoragePrice*c*((2^d:Nat):Int)) (by omega) (by omega),Jc (by omega) (by omega)]
def Ow (n:Xg):Qo:=⟨4#8,n.Depth,Vp n.Revoked 1,n.Group⟩
def ch3 (n:Xg)(k:Nat):Qq:=Mm n (BitVec.ofNat 8 k) (Wk k n.Depth.toNat n.Revoked.toNat).1 0 (16*Bl k n.Depth.toNat) (Rm k n.Depth.toNat n.Revoked.toNat)
def ch4 (n:Xg):Qq:=if Nd (Ow n)=true then Mm n 4#8 0 (Vp n.Revoked 1) 8 [] else⟨4#8,false,0,0,0,0,0,[]⟩
def Ve (n:Xg)(k:Nat):Qq:=if k=4 then ch4 n else ch3 n k
def zC:Qq:=⟨0#8,false,0,0,0,0,0,[]⟩
theorem Qoj {n:Xg}(h:Yc n=false)(k:BitVec 8):Sf n k=some (zC,2):=by
 unfold Sf
 rw[Qk7,bind_some,h];rfl
theorem Ms {k:Nat}(hk:k≤4):(BitVec.ofNat 8 k).toNat=k:=by rw[BitVec.toNat_ofNat];omega
theorem Qk8 {n:Xg}(h:Yc n=true):∃ d r:Nat,n.Depth=(d:Int)∧n.Revoked=(r:Int)∧d≤6∧r≤2^d:=by
 obtain⟨⟨a1,a2⟩,⟨b1,b2⟩,_⟩:=of_decide_eq_true h
 exact⟨n.Depth.toNat,n.Revoked.toNat,by omega,by omega,by omega,by omega⟩
theorem Qok {n:Xg}(h:Yc n=true){k:Nat}(hk:1≤k∧k≤4):Sf n (BitVec.ofNat 8 k)=some (Ve n k,0):=by
 obtain⟨d,r,hd,hr,h6,hr2⟩:=Qk8 h
 have h64:=Qcb h6
 unfold Sf
 rw[Qk7,bind_some,h,if_pos rfl,if_neg (by decide),if_neg (fun hc=>by rw[BitVec.lt_def,Ms hk.2] at hc;simp at hc;omega),decide_eq_false (fun hc=>by rw[BitVec.lt_def,Ms hk.2] at hc;simp at hc;omega)]
 unfold Aw
 rw[cond_false]
 by_cases h4:k=4
 · subst h4
   rw[if_pos rfl]
   unfold Ve
   rw[if_pos rfl]
   show Option.bind (Mw (Ow n)) _=_
   rw[Qtb,bind_some]
   unfold ch4
   cases hp:Nd (Ow n) with
   | false=>rw[if_neg (show ¬ false=true by simp),if_pos (show(30:Int)≠0 by decide),if_neg (show ¬ false=true by simp)]
   | true=>
    have hg:=Qkm hp
    have hm:1≤Vp n.Revoked 1∧Vp n.Revoked 1≤8:=hg.2.2.2
    rw[if_pos (show true=true from rfl),if_neg (show ¬ (0:Int)≠0 by decide),if_pos (show true=true from rfl)]
    exact Qhf h _ (by omega) (by omega) (by omega) _
 · have hk3:1≤k∧k≤3:=by omega
   rw[if_neg (fun hc=>by have:=congrArg BitVec.toNat hc;rw[Ms hk.2] at this;simp at this;omega)]
   unfold Ve
   rw[if_neg h4]
   have hs:(Qo.mk (BitVec.ofNat 8 k) n.Depth 0 (Xz.mk 0#64 0#64 0#64))=Zi k d:=by rw[hd];rfl
   obtain⟨hkm,hdm⟩:=Ri hk3 h6
   obtain⟨s0,s1,s2⟩:=Qm7 k hkm d hdm
   obtain⟨w1,w2⟩:=Qns k hkm d hdm r (List.mem_range.2 (by omega))
   rw[hs,nt hk3 h6,bind_some,s0,bind_some,hr,Qxj hk3 h6 hr2,bind_some]
   rw[show n.Depth=(d:Int) from hd,(Qk2 hk3 h6 hr2).1,bind_some]
   simp only
   rw[Jc (n:=16*Bl k d) (by omega) (by omega),Qhf h _ (by omega) (by omega) (by omega)]
   unfold ch3
   rw[hd,hr,Int.toNat_natCast,Int.toNat_natCast]
def Tf (b:BitVec 8 × Int)(k:BitVec 8)(c:Qq):BitVec 8 × Int:=if c.Fits=true∧(b.1=0#8∨c.Cost<b.2) then(k,c.Cost) else b
def Ej (l:List Qq)(b:BitVec 8 × Int):Prop:=(b.1=0#8∧∀ c∈l,c.Fits=false)∨∃ i,∃ h:i<l.length,b.1=BitVec.ofNat 8 (i+1)∧l[i].Fits=true∧l[i].Cost=b.2∧∀ j (hj:j<l.length),l[j].Fits=true→b.2≤l[j].Cost∧(l[j].Cost=b.2→i≤j)
theorem Qa5:Ej [] (0#8,0):=.inl ⟨rfl,nofun⟩
theorem Cg {l:List Qq}{b:BitVec 8 × Int}(h:Ej l b)(hl:l.length<100)(c:Qq):Ej (l++[c]) (Tf b (BitVec.ofNat 8 (l.length+1)) c):=by
 unfold Tf
 rcases h with⟨h1,h2⟩|⟨i,hi,h1,h2,h3,h4⟩
 · cases hf:c.Fits with
   | false=>
    rw[if_neg (by simp)]
    refine .inl ⟨h1,fun x hx=>?_⟩
    rcases List.mem_append.1 hx with hx|hx
    · exact h2 x hx
    · rw[List.mem_singleton.1 hx];exact hf
   | true=>
    rw[if_pos ⟨rfl,.inl h1⟩]
    refine .inr ⟨l.length,by simp,rfl,by simpa using hf,by simp,fun j hj hjf=>?_⟩
    rw[List.length_append,List.length_singleton] at hj
    by_cases hjl:j<l.length
    · rw[List.getElem_append_left hjl,h2 _ (List.getElem_mem hjl)] at hjf;cases hjf
    · obtain rfl:j=l.length:=by omega
      simp
 · have hb0:b.1≠0#8:=by rw[h1];intro hc;have:=congrArg BitVec.toNat hc;rw[BitVec.toNat_ofNat] at this;simp at this;omega
   by_cases hc:c.Fits=true∧(b.1=0#8∨c.Cost<b.2)
   · rw[if_pos hc]
     have Xy:=hc.2.resolve_left hb0
     refine .inr ⟨l.length,by simp,rfl,by simpa using hc.1,by simp,fun j hj hjf=>?_⟩
     rw[List.length_append,List.length_singleton] at hj
     by_cases hjl:j<l.length
     · rw[List.getElem_append_left hjl] at hjf ⊢
       have:=(h4 j hjl hjf).1
       simp only
       exact⟨by omega,fun he=>by omega⟩
     · obtain rfl:j=l.length:=by omega
       simp
   · rw[if_neg hc]
     refine .inr ⟨i,by rw[List.length_append];omega,h1,by rw[List.getElem_append_left hi];exact h2,by rw[List.getElem_append_left hi];exact h3,fun j hj hjf=>?_⟩
     rw[List.length_append,List.length_singleton] at hj
     by_cases hjl:j<l.length
     · rw[List.getElem_append_left hjl] at hjf ⊢;exact h4 j hjl hjf
     · obtain rfl:j=l.length:=by omega
       rw[List.getElem_append_right (by omega)] at hjf ⊢
       simp only[Nat.sub_self,List.getElem_singleton] at hjf ⊢
       have:¬ c.Cost<b.2:=fun hx=>hc ⟨hjf,.inr hx⟩
       exact⟨by omega,fun _=>by omega⟩
theorem Qb9 {n:Xg}(h:Yc n=true)(rec:BitVec 8 × List Qq × BitVec 8→Option (Xk × Int)){l:List Qq}{b:BitVec 8 × Int}(hb:Ej l b)(hl:l.length<4):Rt n rec (BitVec.ofNat 8 (l.length+1),l,b.1)=rec (BitVec.ofNat 8 (l.length+2),l++[Ve n (l.length+1)],(Tf b (BitVec.ofNat 8 (l.length+1)) (Ve n (l.length+1))).1):=by
 unfold Rt
 simp only
 rw[if_pos (by rw[BitVec.le_def,Ms (by omega)];simp;omega),Qok h (by omega),bind_some,if_neg (by simp),Hj (by simp;omega),bind_some]
 generalize Ve n (l.length+1)=c
 have hk:BitVec.ofNat 8 (l.length+1)+1#8=BitVec.ofNat 8 (l.length+2):=by apply BitVec.eq_of_toNat_eq;simp
 unfold Mv Tf
 rw[hk]
 simp only
 cases hf:c.Fits with
 | false=>rw[cond_false,cond_false,if_neg (by simp)]
 | true=>
  rw[cond_true]
  rcases hb with⟨h1,h2⟩|⟨i,hi,h1,h2,h3,h4⟩
  · rw[if_pos h1,if_pos ⟨rfl,.inl h1⟩,cond_true]
  · have hb0:b.1≠0#8:=by rw[h1];intro hc;have:=congrArg BitVec.toNat hc;rw[BitVec.toNat_ofNat] at this;simp at this;omega
    rw[if_neg hb0]
    have hg:Xd (l++[c]) (Jn (b.1-1#8))=some l[i]:=by
     have:Jn (b.1-1#8)=(i:Int):=by
      unfold Jn;rw[h1,BitVec.toNat_sub,BitVec.toNat_ofNat];simp;omega
     rw[this,Yu (by rw[List.length_append];omega),List.getElem_append_left hi]
    rw[hg,bind_some,h3]
    by_cases Xy:c.Cost<b.2
    · rw[decide_eq_true Xy,cond_true,if_pos ⟨rfl,.inr Xy⟩]
    · rw[decide_eq_false Xy,cond_false,if_neg fun hc=>Xy (hc.2.resolve_left hb0)]
def Fl (n:Xg):BitVec 8 × Int:=Tf (Tf (Tf (Tf (0#8,0) 1#8 (Ve n 1)) 2#8 (Ve n 2)) 3#8 (Ve n 3)) 4#8 (Ve n 4)
def Gj (n:Xg):List Qq:=[Ve n 1,Ve n 2,Ve n 3,Ve n 4]
def plP (n:Xg):Xk:=⟨Gj n,(Fl n).1⟩
theorem Qs3 {n:Xg}(h:Yc n=true):Sg n=some (plP n,0):=by
 unfold Sg
 have h1:=Cg Qa5 (by simp) (Ve n 1)
 have h2:=Cg h1 (by simp) (Ve n 2)
 have h3:=Cg h2 (by simp) (Ve n 3)
 rw[F5,Jm,show(1#8,([]:List Qq),0#8)=(BitVec.ofNat 8 (([]:List Qq).length+1),[],(0#8,(0:Int)).1) from rfl,Qb9 h _ Qa5 (by simp)]
 rw[Jm]
 refine(Qb9 h _ h1 (by simp)).trans ?_
 rw[Jm]
 refine(Qb9 h _ h2 (by simp)).trans ?_
 rw[Jm]
 refine(Qb9 h _ h3 (by simp)).trans ?_
 rw[Jm]
 rfl
theorem Qs2 {n:Xg}(h:Yc n=false):Sg n=some (⟨[],0#8⟩,2):=by
 unfold Sg
 rw[F5,Jm]
 unfold Rt
 simp only
 rw[if_pos (by decide),Qoj h,bind_some];rfl
end Go.Sx.Pn

end
section
set_option linter.unusedVariables false
set_option linter.unusedSimpArgs false
set_option maxRecDepth 100000
namespace Go.Sx.Pn
open Go Go.Sx
end Go.Sx.Pn

end
section
set_option linter.unusedVariables false
set_option linter.unusedSimpArgs false
set_option maxRecDepth 100000
namespace Go.Sx.Pn
open Go Go.Sx Go.Sx.Po
def De (c w:Qq):Prop:=c.Kind=w.Kind∧c.Fits=w.Fits∧c.Items=w.Items∧c.Points=w.Points∧c.Header=w.Header∧c.Storage=w.Storage∧c.Cost=w.Cost
instance (c w:Qq):Decidable (De c w):=inferInstanceAs (Decidable (_∧_))
def Bs (n:Xg)(c:Qq):Bool:=if c.Kind=4#8 then decide (c.Witness=[]) else decide ((Ld ⟨c.Kind,n.Depth,0,⟨0#64,0#64,0#64⟩⟩ c.Witness).2=0∧(c.Witness.length:Int)≤n.Revoked∧((Ld ⟨c.Kind,n.Depth,0,⟨0#64,0#64,0#64⟩⟩ c.Witness).1.length:Int)=c.Items)
def Gg (n:Xg)(c w:Qq):Bool:=decide (De c w)&&Bs n c
theorem Qnw (n:Xg)(c:Qq)(hl:c.Witness.length*8≤140737488355328):Sh n c true=some (Bs n c):=by
 unfold Sh Bs
 rw[Bool.not_true,cond_false]
 unfold Ay
 by_cases h4:c.Kind=4#8
 · rw[decide_eq_true h4,cond_true,cond_true,if_pos h4]
   congr 1
   rw[decide_eq_decide]
   constructor
   · intro h;exact List.length_eq_zero_iff.1 (by omega)
   · intro h;rw[h];rfl
 · rw[decide_eq_false h4,cond_false,if_neg h4,Qte _ _ hl,bind_some]
   generalize Ld ⟨c.Kind,n.Depth,0,⟨0#64,0#64,0#64⟩⟩ c.Witness=x
   by_cases a:x.2=0
   · rw[if_pos a]
     by_cases b:(c.Witness.length:Int)≤n.Revoked
     · rw[if_pos b]
       congr 1
       rw[decide_eq_decide]
       exact⟨fun h=>⟨a,b,h⟩,fun h=>h.2.2⟩
     · rw[if_neg b,decide_eq_false fun h=>b h.2.1]
   · rw[if_neg a,decide_eq_false fun h=>a h.1]
theorem Qdj (n:Xg)(c:Qq):Sh n c false=some false:=rfl
theorem Qnx (n:Xg)(c w:Qq)(hl:c.Witness.length*8≤140737488355328):Ax n c w=some (Gg n c w):=by
 unfold Ax Gg
 by_cases h1:c.Kind=w.Kind
 · rw[if_pos h1]
   by_cases h2:c.Fits=w.Fits
   · rw[h2,beq_self_eq_true,cond_true]
     by_cases h3:c.Items=w.Items∧c.Points=w.Points∧c.Header=w.Header∧c.Storage=w.Storage∧c.Cost=w.Cost
     · obtain⟨e1,e2,e3,e4,e5⟩:=h3
       rw[decide_eq_true (show Va.mk c.Items c.Points c.Header c.Storage c.Cost=Va.mk w.Items w.Points w.Header w.Storage w.Cost by rw[e1,e2,e3,e4,e5]),Qnw n c hl,decide_eq_true (show De c w from⟨h1,h2,e1,e2,e3,e4,e5⟩),Bool.true_and]
     · rw[decide_eq_false (fun h=>h3 (by injection h with a b c d e;exact⟨a,b,c,d,e⟩)),Qdj,decide_eq_false (fun h=>h3 h.2.2),Bool.false_and]
   · have:(c.Fits == w.Fits)=false:=by simpa using h2
     rw[this,cond_false,Qdj,decide_eq_false (fun h=>h2 h.2.1),Bool.false_and]
 · rw[if_neg h1,Qdj,decide_eq_false (fun h=>h1 h.1),Bool.false_and]
theorem Qj2 (n:Xg)(p q:List Qq)(hw:∀ c∈p,c.Witness.length*8≤140737488355328)(hp:p.length<1000000)(hlen:p.length=q.length):∀ (k i f:Nat),p.length-i=k→i≤p.length→k<f→Qs (Eb p q n) f (i:Int)=some (((p.drop i).zip (q.drop i)).all fun x=>Gg n x.1 x.2)
 | k,i,0,_,_,hf=>by omega
 | k,i,f+1,hk,hi,hf=>by
  rw[Jm]
  unfold Eb
  by_cases h:i<p.length
  · rw[if_pos (by omega),Yu h,bind_some,Yu (show i<q.length by omega),bind_some]
    unfold Qbe
    rw[Qnx _ _ _ (hw _ (List.getElem_mem h)),bind_some,bind_some,List.drop_eq_getElem_cons h,List.drop_eq_getElem_cons (show i<q.length by omega),List.zip_cons_cons,List.all_cons]
    cases Gg n p[i] q[i] with
    | false=>rw[Bool.not_false,cond_true,Bool.false_and]
    | true=>rw[Bool.not_true,cond_false,Bool.true_and,Jc (by omega) (by omega)];exact Qj2 n p q hw hp hlen (k-1) (i+1) f (by omega) (by omega) (by omega)
  · rw[if_neg (by omega),List.drop_eq_nil_of_le (by omega)];rfl
def Cy (n:Xg)(p q:List Qq):Bool:=decide (p.length=q.length)&&(p.zip q).all fun x=>Gg n x.1 x.2
theorem Qqr (n:Xg)(p q:List Qq)(hw:∀ c∈p,c.Witness.length*8≤140737488355328)(hp:p.length<1000000):Ea p q n=some (Cy n p q):=by
 unfold Ea Cy
 by_cases h:p.length=q.length
 · rw[if_neg (by omega),decide_eq_true h,Bool.true_and]
   have:=Qj2 n p q hw hp h _ 0 Qy rfl (by omega) (Ye (by omega))
   rw[show((0:Nat):Int)=0 from rfl] at this
   rw[this];simp
 · rw[if_pos (by omega),decide_eq_false h,Bool.false_and]
theorem Qtc {n:Xg}(h:Yc n=true)(p:Xk)(hw:∀ c∈p.Choices,c.Witness.length*8≤140737488355328)(hp:p.Choices.length<1000000):Se n p=some (if p.Best=(Fl n).1∧Cy n p.Choices (Gj n)=true then 0 else 100):=by
 unfold Se
 rw[Qs3 h,bind_some,if_neg (by simp)]
 show(if p.Best≠(Fl n).1 then _ else Option.bind (Ea p.Choices (Gj n) n) _)=_
 by_cases hb:p.Best=(Fl n).1
 · rw[if_neg (by simpa using hb),Qqr n _ _ hw hp,bind_some]
   unfold Av
   cases he:Cy n p.Choices (Gj n) with
   | false=>rw[if_neg (by simp)];rfl
   | true=>rw[if_pos ⟨hb,rfl⟩];rfl
 · rw[if_pos hb,if_neg (fun hc=>hb hc.1)];rfl
theorem Qtd {n:Xg}(h:Yc n=false)(p:Xk):Se n p=some 2:=by
 unfold Se
 rw[Qs2 h,bind_some];rfl
end Go.Sx.Pn

end
section
set_option linter.unusedVariables false
set_option linter.unusedSimpArgs false
set_option maxRecDepth 100000
namespace Go.Sx.Pn
open Go Go.Sx
def rwS (k d st:Nat):List Int:=match st with
 | 0=>(tb k d).rows.a0
 | 1=>(tb k d).rows.a1
 | 2=>(tb k d).rows.a2
 | _=>(tb k d).rows.a3
def ts (k d:Nat):List (List (List Int)):=(List.range (if k=1 then 1 else if k=2 then 2 else 4)).map fun st=>(List.range (d+1)).map fun h=>((rwS k d st).drop (2^h-1+h)).take (2^h+1)
theorem Qvn:∀ k∈[1,2,3],∀ d∈List.range 7,Ut (Zi k d)=some (ts k d):=by decide +kernel
theorem Qls {k d:Nat}(hk:1≤k∧k≤3)(hd:d≤6):Ut (Zi k d)=some (ts k d):=by
 obtain⟨h1,h2⟩:=Ri hk hd
 exact Qvn k h1 d h2
theorem Qvq (s:Qo):Nl s=some (Vl s):=by
 unfold Nl Vl zG
 by_cases h1:1#8≤s.Kind
 · by_cases h2:s.Kind≤3#8
   · by_cases h3:0≤s.Depth
     · by_cases h4:s.Depth≤6
       · by_cases h5:s.Degree=0
         · simp[h1,h2,h3,h4,h5]
         · simp[h1,h2,h3,h4,h5]
       · simp[h1,h2,h3,h4]
     · simp[h1,h2,h3]
   · simp[h1,h2]
 · simp[h1]
theorem Qu4 (s:Qo):Iv s=some (if Vl s then 0 else 30):=by
 unfold Iv
 rw[Qvq,bind_some]
 cases Vl s<;>rfl
theorem Qlw {α:Type}[DecidableEq α]{p q:List α}(hl:p.length=q.length)(hs:q.length<1000000){F:(Int→Option Bool)→Int→Option Bool}{D:Option Bool}
 (hF:∀ rec (i:Nat) (h:i<p.length),F rec (i:Int)=if p[i]=q[i] then rec (((i+1:Nat)):Int) else some false) (he:∀ rec,F rec (p.length:Int)=D):
 ∀ (k i f:Nat),p.length-i=k→i≤p.length→k<f→Qs F f (i:Int)=if p.drop i=q.drop i then D else some false
 | k,i,0,_,_,hf=>by omega
 | k,i,f+1,hk,hi,hf=>by
  rw[Jm]
  by_cases h:i<p.length
  · rw[hF _ i h]
    have h2:i<q.length:=by omega
    rw[List.drop_eq_getElem_cons h,List.drop_eq_getElem_cons h2]
    by_cases hh:p[i]=q[i]
    · rw[if_pos hh,Qlw hl hs hF he (k-1) (i+1) f (by omega) (by omega) (by omega),hh]
      by_cases h3:p.drop (i+1)=q.drop (i+1)
      · rw[if_pos h3,if_pos (by rw[h3])]
      · rw[if_neg h3,if_neg (fun e=>h3 (List.cons.inj e).2)]
    · rw[if_neg hh,if_neg (fun e=>hh (List.cons.inj e).1)]
  · obtain rfl:i=p.length:=by omega
    rw[he,List.drop_length,hl,List.drop_length,if_pos rfl]
theorem Qvu {α:Type}[DecidableEq α]{p q:List α}(hl:p.length=q.length)(hs:q.length<1000000){F:(Int→Option Bool)→Int→Option Bool}{D:Option Bool}
 (hF:∀ rec (i:Nat) (h:i<p.length),F rec (i:Int)=if p[i]=q[i] then rec (((i+1:Nat)):Int) else some false) (he:∀ rec,F rec (p.length:Int)=D):
 Qs F Qy 0=if p=q then D else some false:=by
 have:=Qlw hl hs hF he _ 0 Qy rfl (by omega) (Ye (by omega))
 simpa using this
theorem Qrt {α:Type}{p q:List α}(h:¬ p.length=q.length):¬ p=q:=fun e=>h (by rw[e])
theorem Qrh {p:Prop}[Decidable p]:(if p then some true else some false)=some (decide p):=by by_cases h:p<;>simp[h]
theorem Qde {i:Nat}(h:i<1000000):Qb ((i:Int)+1)=((i+1:Nat):Int):=by rw[Jc (by omega) (by omega)];rfl
theorem Qw3 (p q:List Int)(hs:q.length<1000000):Bc p q=some (decide (p=q)):=by
 unfold Bc
 by_cases hl:p.length=q.length
 · rw[if_neg (by omega),Qvu hl hs (D:=some true) (fun rec i h=>?_) (fun rec=>?_),Qrh]
   · unfold Ue
     rw[if_pos (by omega),Yu h,bind_some,Yu (show i<q.length by omega),bind_some,Qde (by omega)]
     by_cases hh:p[i]=q[i]
     · rw[if_neg (by simp[hh]),if_pos hh]
     · rw[if_pos hh,if_neg hh]
   · unfold Ue;rw[if_neg (by omega)]
 · rw[if_pos (by omega),decide_eq_false (Qrt hl)]
end Go.Sx.Pn

end
section
set_option linter.unusedVariables false
set_option linter.unusedSimpArgs false
set_option maxRecDepth 100000
namespace Go.Sx.Pn
open Go Go.Sx
theorem Qv4:∀ k∈[1,2,3],∀ d∈List.range 7,∀ r∈List.range (2^d+1),Uv (Zi k d) (ts k d) (r:Int)=some (Wk k d r):=by decide +kernel
theorem Qv6:∀ k∈[1,2,3],∀ d∈List.range 7,∀ x∈ll k d,Qcw (Zi k d) (ts k d) 1 0 (d:Int) x.1=some x.2.1:=by decide +kernel
theorem Qvi:∀ d∈List.range 7,Yo (d:Int)=some ((2^d:Nat):Int):=by decide +kernel
theorem Qg5 {d:Nat}(h:d≤6):Yo (d:Int)=some ((2^d:Nat):Int):=Qvi d (List.mem_range.2 (by omega))
section
variable {k d r:Nat}
theorem Qu3 (hk:1≤k∧k≤3)(hd:d≤6)(q:Int):Oo (Zi k d) q=some (if q<0∨((2^d:Nat):Int)<q then 2 else 0):=by
 unfold Oo
 rw[Qu4,bind_some,Qvv hk hd,if_pos rfl,if_neg (by decide)]
 show(if q<0 then Uu true else Option.bind (Yo (d:Int)) fun x3=>Uu (decide (x3<q)))=_
 rw[Qg5 hd,bind_some]
 by_cases h1:q<0
 · rw[if_pos h1,if_pos (.inl h1)];rfl
 · rw[if_neg h1]
   by_cases h2:((2^d:Nat):Int)<q
   · rw[decide_eq_true h2,if_pos (.inr h2)];rfl
   · rw[decide_eq_false h2,if_neg (by omega)];rfl
theorem Qll (hk:1≤k∧k≤3)(hd:d≤6)(hr:r≤2^d):Uv (Zi k d) (ts k d) (r:Int)=some (Wk k d r):=by
 obtain⟨h1,h2⟩:=Ri hk hd
 exact Qv4 k h1 d h2 r (List.mem_range.2 (by omega))
theorem Qvr (hk:1≤k∧k≤3)(hd:d≤6)(hr:r≤2^d):Ol (Zi k d) (r:Int)=some (Rm k d r):=by
 obtain⟨h1,h2⟩:=Ri hk hd
 obtain⟨_,h3,_⟩:=Qk2 hk hd hr
 unfold Ol
 rw[Qls hk hd,bind_some,Qll hk hd hr,bind_some]
 show Option.bind (Qcw (Zi k d) (ts k d) 1 0 (d:Int) (Wk k d r).2) _=_
 rw[Qv6 k h1 d h2 _ h3,bind_some]
theorem Qvt (hk:1≤k∧k≤3)(hd:d≤6)(hr:r≤2^d):Om (Zi k d) (r:Int)=some ((Wk k d r).1,0):=by
 unfold Om
 rw[Qu3 hk hd,bind_some,if_neg (by omega),Qls hk hd,bind_some,Qll hk hd hr,bind_some]
end
end Go.Sx.Pn

end
