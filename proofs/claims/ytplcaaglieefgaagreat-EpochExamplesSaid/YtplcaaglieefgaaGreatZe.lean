/- Several texts in one: SrtSub Pl Tr Ts Fx Mb Lb Tm Cv Tk Fy SecN Fd Kn Cp Al5 LawEx5. -/
import Derived.Test.YtplcaaglieefgaaGreatZd
import Derived.Shelf.SlGeneric
import Derived.Test.YtplcaaglieefgaaGreatProg
import Derived.Test.YtplcaaglieefgaaGreatZc
set_option linter.unusedVariables false
set_option linter.unusedSimpArgs false
section
set_option linter.unusedVariables false
set_option linter.unusedSimpArgs false
set_option maxRecDepth 100000
namespace Go.Proofs.YtplcaaglieefgaaGreat.Mx
open Go Go.RowKit Go.Sx Go.Proofs Go.Shelf Go.Lib Go.Sort
def Qm8:Go.Shelf.Ren:=⟨fun|6=>298|15=>351|14=>350|28=>383|29=>384|20=>375|21=>376|22=>377|23=>378|24=>379|25=>380|26=>381|27=>382|46=>390|47=>391|48=>392|49=>393|50=>394|57=>403|n=>n,fun|22=>252|24=>193|25=>379|3=>3|39=>177|0=>0|53=>148|55=>22|4=>4|46=>437|45=>436|50=>179|5=>5|9=>9|66=>450|70=>239|76=>461|77=>204|n=>n,fun|n=>n⟩
theorem Qtb:Go.Proofs.SlLaysF0.n6 Tryz.prog Qm8:={
 mixed:=by kernel_rfl
 f6:=⟨Tryz.f298.name,by decide,Tryz.func298.trans (congrArg some (by kernel_rfl))⟩
 f14:=⟨Tryz.f350.name,by decide,Tryz.func350.trans (congrArg some (by kernel_rfl))⟩
 f15:=Tryz.func351.trans (congrArg some (by kernel_rfl))
 f20:=⟨Tryz.f375.name,by decide,Tryz.func375.trans (congrArg some (by kernel_rfl))⟩
 f21:=⟨Tryz.f376.name,by decide,Tryz.func376.trans (congrArg some (by kernel_rfl))⟩
 f22:=⟨Tryz.f377.name,by decide,Tryz.func377.trans (congrArg some (by kernel_rfl))⟩
 f23:=⟨Tryz.f378.name,by decide,Tryz.func378.trans (congrArg some (by kernel_rfl))⟩
 f24:=⟨Tryz.f379.name,by decide,Tryz.func379.trans (congrArg some (by kernel_rfl))⟩
 f25:=⟨Tryz.f380.name,by decide,Tryz.func380.trans (congrArg some (by kernel_rfl))⟩
 f26:=⟨Tryz.f381.name,by decide,Tryz.func381.trans (congrArg some (by kernel_rfl))⟩
 f27:=⟨Tryz.f382.name,by decide,Tryz.func382.trans (congrArg some (by kernel_rfl))⟩
 f28:=Tryz.func383.trans (congrArg some (by kernel_rfl))
 f29:=Tryz.func384.trans (congrArg some (by kernel_rfl))
 f46:=⟨Tryz.f390.name,by decide,Tryz.func390.trans (congrArg some (by kernel_rfl))⟩
 f47:=Tryz.func391.trans (congrArg some (by kernel_rfl))
 f48:=Tryz.func392.trans (congrArg some (by kernel_rfl))
 f49:=⟨Tryz.f393.name,by decide,Tryz.func393.trans (congrArg some (by kernel_rfl))⟩
 f50:=⟨Tryz.f394.name,by decide,Tryz.func394.trans (congrArg some (by kernel_rfl))⟩
 f57:=⟨Tryz.f403.name,by decide,Tryz.func403.trans (congrArg some (by kernel_rfl))⟩
 t0:=Tryz.underlying0
 a0:=Tryz.isAgg0
 z0:=Tryz.sizeOf0
 v0:=Tryz.zeroValue0
 t3:=Tryz.underlying3
 a3:=Tryz.isAgg3
 z3:=Tryz.sizeOf3
 v3:=Tryz.zeroValue3
 t4:=Tryz.underlying4
 a4:=Tryz.isAgg4
 z4:=Tryz.sizeOf4
 v4:=Tryz.zeroValue4
 t5:=Tryz.underlying5
 a5:=Tryz.isAgg5
 z5:=Tryz.sizeOf5
 v5:=Tryz.zeroValue5
 t9:=Tryz.underlying9
 a9:=Tryz.isAgg9
 z9:=Tryz.sizeOf9
 v9:=Tryz.zeroValue9
 t22:=Tryz.underlying252
 a22:=Tryz.isAgg252
 z22:=Tryz.sizeOf252
 v22:=Tryz.zeroValue252
 t25:=Tryz.underlying379
 a25:=Tryz.isAgg379
 z25:=Tryz.sizeOf379
 v25:=Tryz.zeroValue379
 t39:=Tryz.underlying177
 a39:=Tryz.isAgg177
 z39:=Tryz.sizeOf177
 v39:=Tryz.zeroValue177
 t45:=Tryz.underlying436
 a45:=Tryz.isAgg436
 z45:=Tryz.sizeOf436
 v45:=Tryz.zeroValue436
 t46:=Tryz.underlying437
 a46:=Tryz.isAgg437
 z46:=Tryz.sizeOf437
 v46:=Tryz.zeroValue437
 t50:=Tryz.underlying179
 a50:=Tryz.isAgg179
 z50:=Tryz.sizeOf179
 v50:=Tryz.zeroValue179
 t53:=Tryz.underlying148
 a53:=Tryz.isAgg148
 z53:=Tryz.sizeOf148
 v53:=Tryz.zeroValue148
 t55:=Tryz.underlying22
 a55:=Tryz.isAgg22
 z55:=Tryz.sizeOf22
 v55:=Tryz.zeroValue22
 t66:=Tryz.underlying450
 a66:=Tryz.isAgg450
 z66:=Tryz.sizeOf450
 v66:=Tryz.zeroValue450
 t70:=Tryz.underlying239
 a70:=Tryz.isAgg239
 z70:=Tryz.sizeOf239
 v70:=Tryz.zeroValue239
 t76:=Tryz.underlying461
 a76:=Tryz.isAgg461
 z76:=Tryz.sizeOf461
 v76:=Tryz.zeroValue461
 t77:=Tryz.underlying204
 a77:=Tryz.isAgg204
 z77:=Tryz.sizeOf204
 v77:=Tryz.zeroValue204 }
theorem Qx2 {a b:Int}(ha:0≤a∧a<4611686018427387904)(hb:0≤b∧b<4611686018427387904):IntKind.i64.wrap (a-b)=a-b:=by rw[IntKind.wrap_i64];omega
set_option maxHeartbeats 1000000 in
theorem Qp5 (x y:Xs)(W:World)(hx:0≤x.Node∧x.Node<4611686018427387904)(hy:0≤y.Node∧y.Node<4611686018427387904):Calls Tryz.prog 299 #[.agg #[.int .i64 x.Node,.int .i64 x.Minus],.agg #[.int .i64 y.Node,.int .i64 y.Minus]] W fun e w'=>e=.returned (.int .i64 (x.Node-y.Node))∧∃ q os',w'=grow (W.drewN q) os':=by
 have hw:=Qx2 hx hy
 go_enter Tryz.func299,Tryz.ntmps299
 go_wp2
 go_ret
 exact⟨rfl,0,_,by rw[alloc_eq_grow,alloc_eq_grow,grow_grow];rfl⟩
theorem Qvb {l m:List Xs}(hm:Ce Xs.Node l=some m)(w:World)(z g:Nat)(v:Value)(h:Qe w z g 193 2 v (l.map Xs.cs)):Calls Tryz.prog 298 [v,.func (.func 299) #[] #[]].toArray w fun e' w'=>∃ v',e'=.returned v'∧(Qe w' z g 193 2 v (m.map Xs.cs)∧Kz [(z,g)] w w'):=
 Qvd (ρ:=Qm8) Xs.cs 2 (fun _=>rfl) (fun x=>Xs.cs_ones x) (by decide) Xs.Node 299 Qtb (fun _=>by kernel_rfl) (fun _=>by kernel_rfl) (fun _ _=>by kernel_rfl) (fun x y W hx hy=>Qp5 x y W hx hy) hm w z g 193 v h
end Go.Proofs.YtplcaaglieefgaaGreat.Mx

end
section
set_option linter.unusedVariables false
set_option linter.unusedSimpArgs false
namespace Go.Sx
open Go
theorem Qgn {n:Nat}(h:n<9223372036854775808):n<Ze:=by unfold Ze;omega
theorem Nk {n:Int}(h0 : -9223372036854775808≤n)(h1:n≤9223372036854775807):Qp n=n:=by
 have:=IntKind.wrap_i64 n
 unfold Qp;rw[this];omega
theorem bind_some {α β:Type}(a:α)(f:α→Option β):Option.bind (some a) f=f a:=rfl
theorem Qod {α:Type}{b:Nat}{l m:List α}(h:(l.length+m.length)*b≤140737488355328):Yv b l m=some (l++m):=if_pos h
theorem Qgo {α:Type}{l:List α}{i:Nat}(h:i<l.length):Zu l (i:Int)=some l[i]:=by unfold Zu;rw[if_pos (by omega)];simp[h]
def w8 (x:BitVec 64):List (BitVec 8):=[Vb x 0,Vb x 1,Vb x 2,Vb x 3,Vb x 4,Vb x 5,Vb x 6,Vb x 7]
end Go.Sx

end
section
set_option linter.unusedVariables false
set_option linter.unusedSimpArgs false
namespace Go.Sx
open Go
theorem Nh (n k:Nat)(h:2^k≤n):Nat.log2 n=Nat.log2 (n / 2^k)+k:=by
 induction k generalizing n with
 | zero=>simp
 | succ k ih=>
  have h2:2^k≤n / 2:=by rw[Nat.le_div_iff_mul_le (by omega)];rw[Nat.pow_succ] at h;omega
  have h1:2≤n:=by have:0<2^k:=Nat.two_pow_pos k;rw[Nat.pow_succ] at h;omega
  rw[Nat.log2_def,if_pos h1,ih (n / 2) h2,Nat.div_div_eq_div_mul,Nat.pow_succ,Nat.mul_comm 2];omega
theorem Qcp {n:Nat}(h:2≤n):Nat.log2 n=Nat.log2 (n / 2)+1:=by rw[Nat.log2_def,if_pos h]
theorem Qtj {m n:Nat}(h:m≤n):Nat.log2 m≤Nat.log2 n:=by
 rcases Nat.eq_zero_or_pos m with h0|h0
 · subst h0;rw[Nat.log2_zero];omega
 · exact(Nat.le_log2 (by omega)).2 (Nat.le_trans (Nat.log2_self_le (by omega)) h)
theorem Qme {n:Nat}(h:n<9223372036854775808):Nat.log2 n≤62:=by
 rcases Nat.eq_zero_or_pos n with h0|h0
 · subst h0;rw[Nat.log2_zero];omega
 · have:Nat.log2 n<63:=(Nat.log2_lt (by omega)).2 (by omega)
   omega
theorem Qwa {n:Nat}(h:n<9223372036854775808):un (wd (n:Int))=(n:Int):=Qil _ (by omega) (by omega)
theorem Qth {n:Nat}(h:1≤n):lg (n:Int)=(Nat.log2 n:Int)+1:=by unfold lg;rw[Int.toNat_natCast,if_neg (by omega)]
theorem Qha {n:Nat}(h1:1≤n)(h:n<9223372036854775808):Tn (n:Int)=some (Nat.log2 n:Int):=by
 have:=Qme h
 unfold Tn
 rw[Qwa h,Qth h1,Nk (by omega) (by omega),Int.add_sub_cancel]
def Tl (w v:Nat):Bool:=decide (Nat.log2 v≤Nat.log2 w∧w / 2^(Nat.log2 w-Nat.log2 v)=v)
theorem Qi6 (n k:Nat)(hk:k≤64):Ls (n:Int) k=((n / 2^k:Nat):Int):=by
 unfold Ls
 rw[Nat.min_eq_left hk,Int.natCast_ediv,Int.natCast_pow];rfl
def Gh (d:Nat):Nat:=if d≤1 then 1 else if d≤4 then 2 else 3
theorem Qvl (d:Nat):1≤Gh d:=by unfold Gh;split;omega;split<;>omega
theorem Tb {d:Nat}(h:d≤6):2^d≤64:=Nat.le_trans (Nat.pow_le_pow_right (by omega) h) (by decide)
theorem Quw {d:Nat}(h:d≤6):Hb 1 d=((2^d:Nat):Int):=by
 have:=Tb h
 unfold Hb
 rw[Nat.min_eq_left (by omega),Int.one_mul,show(2:Int)^d=((2^d:Nat):Int) from by rw[Int.natCast_pow];rfl]
 generalize 2^d=m at *
 exact Nk (by omega) (by omega)
theorem Qnb (n:Nat):Vs (n:Int)=some n:=by unfold Vs;rw[if_pos (by omega)];rfl
theorem Qne {k:BitVec 8}{d:Nat}{st:Int}(h:d≤6):Rq ⟨k,(d:Int),st⟩=some ((2^d:Nat):Int):=by
 unfold Rq
 rw[Qnb,bind_some,Quw h]
def Lu (d v:Nat):Bool:=decide (Nat.log2 v%Gh d=0)
theorem Qui (a b:Nat)(hb:1≤b):Wz (a:Int) (b:Int)=some ((a%b:Nat):Int):=by
 unfold Wz
 rw[if_neg (by omega),Int.tmod_eq_emod_of_nonneg (by omega),Int.natCast_emod]
theorem Qng {k:BitVec 8}{d v:Nat}(hv:1≤v)(hv2:v<9223372036854775808):Nv ⟨k,(d:Int),(Gh d:Int)⟩ (v:Int)=some (Lu d v):=by
 unfold Nv Lu
 rw[Qha hv hv2,bind_some,Qui _ _ (Qvl d),bind_some]
 congr 1;apply decide_eq_decide.2;omega
def Dn (w:Nat):Nat→List Nat
 | 0=>[]
 | k+1=>w / 2^k::Dn w k
theorem Qu2 {w k n:Nat}(hk:2^k≤w)(h:n∈Dn w k):1≤n∧n≤w:=by
 induction k with
 | zero=>cases h
 | succ k ih=>
  have hk':2^k≤w:=by rw[Nat.pow_succ] at hk;omega
  rcases List.mem_cons.1 h with rfl|h
  · exact⟨(Nat.le_div_iff_mul_le (Nat.two_pow_pos k)).2 (by omega),Nat.div_le_self _ _⟩
  · exact ih hk' h
theorem Qhb {w k:Nat}(hk:2^k≤w):Nat.log2 (w / 2^k)=Nat.log2 w-k:=by have:=Nh w k hk;omega
theorem Qk2 {w k:Nat}(hk:2^k≤w):1≤w / 2^k:=(Nat.le_div_iff_mul_le (Nat.two_pow_pos k)).2 (by omega)
theorem Qvv {w k:Nat}(hk:2^(k+1)≤w)(hw:w<9223372036854775808):Sh ((w / 2^(k+1):Nat):Int) (w:Int)=some ((w / 2^k:Nat):Int):=by
 have hp:=Nat.two_pow_pos (k+1)
 have l1:=Qme hw
 have hl:=Nh w (k+1) hk
 unfold Sh
 rw[Qha (by omega) hw,bind_some,Qha (Qk2 hk) (Nat.lt_of_le_of_lt (Nat.div_le_self _ _) hw),bind_some,Nk (n:=(Nat.log2 w:Int)-(Nat.log2 (w / 2^(k+1)):Int)) (by omega) (by omega),Nk (by omega) (by omega)]
 rw[show(Nat.log2 w:Int)-(Nat.log2 (w / 2^(k+1)):Int)-1=((k:Nat):Int) from by omega,Qnb,bind_some,Qi6 _ _ (by omega)]
theorem Qmt {w:Nat}(hw:w<9223372036854775808):∀ (k f:Nat),k<f→2^k≤w→Xq (Rl (w:Int)) f ((w / 2^k:Nat):Int)=some ((Dn w k).map Int.ofNat)
 | k,0,h,_=>by omega
 | 0,f+1,_,_=>by
  rw[Bj];simp only[Rl]
  rw[if_neg (by simp)];rfl
 | k+1,f+1,h,hk=>by
  rw[Bj];simp only[Rl]
  have h1:w / 2^(k+1)<w:=Nat.div_lt_self (by have:=Nat.two_pow_pos (k+1);omega) (Nat.one_lt_two_pow (by omega))
  rw[if_pos (by omega),Qvv hk hw,bind_some,Qmt hw k f (by omega) (by rw[Nat.pow_succ] at hk;omega)]
  rfl
theorem Qu4 {w k:Nat}(hw:w<9223372036854775808)(hk:2^k≤w)(hk2:k≤64):Cz ((w / 2^k:Nat):Int) (w:Int)=some ((Dn w k).map Int.ofNat):=Qmt hw k Ze (Qgn (by omega)) hk
theorem Qpy {w j k:Nat}(hk:2^k≤w)(hj:j<k):w / 2^j≠w / 2^k:=fun e=>by
 have h1:=Qhb hk
 have h2:=Qhb (w:=w) (k:=j) (Nat.le_trans (Nat.pow_le_pow_right (by omega) (by omega)) hk)
 have h3:=Nh w k hk
 rw[e] at h2;omega
end Go.Sx

end
section
set_option linter.unusedVariables false
set_option linter.unusedSimpArgs false
namespace Go.Sx
open Go
def zG:Vi:=Vi.mk 0#64 0#64 0#64
def Py (s:Xn):Bool:=decide (1#8≤s.Kind∧s.Kind≤3#8∧0≤s.Depth∧s.Depth≤6∧s.Degree=0∧s.Group=zG)
theorem Qnu {s:Xn}(h:Py s=true):∃ d:Nat,s.Depth=(d:Int)∧d≤6:=by
 unfold Py at h
 have:=of_decide_eq_true h
 exact⟨s.Depth.toNat,by omega,by omega⟩
theorem Qij (s:Xn)(n:Nat)(a:Int):Xq (Rm s) (n+1) a=if Qp (a*a)<s.Depth then Xq (Rm s) n (Qp (a+1)) else some (Xv.mk s.Kind s.Depth a,true):=rfl
theorem Qvx (s:Xn){d:Nat}(hd:s.Depth=(d:Int))(h:d≤6):Xq (Rm s) Ze 1=some (Xv.mk s.Kind (d:Int) (Gh d:Int),true):=by
 have e1:Qp (1*1)=1:=by decide
 have e2:Qp (1+1)=2:=by decide
 have e3:Qp (2*2)=4:=by decide
 have e4:Qp (2+1)=3:=by decide
 have e5:Qp (3*3)=9:=by decide
 rw[show Ze=18446744073709551613+3 from rfl,Qij,e1,e2,hd]
 unfold Gh
 by_cases h1:d≤1
 · rw[if_neg (by omega),if_pos h1,←hd];rfl
 · rw[if_pos (by omega),if_neg h1,show 18446744073709551613+2=18446744073709551614+1 from rfl,Qij,e3,e4,hd]
   by_cases h2:d≤4
   · rw[if_neg (by omega),if_pos h2,←hd];rfl
   · rw[if_pos (by omega),if_neg h2,show 18446744073709551614=18446744073709551613+1 from rfl,Qij,e5,hd,if_neg (by omega),←hd];rfl
def Yd (s:Xn):Xv:=Xv.mk s.Kind s.Depth (Gh s.Depth.toNat:Int)
theorem Qvw (s:Xn):Ma s=some (if Py s then(Yd s,true) else(Xv.mk 0#8 0 0,false)):=by
 unfold Ma Si
 by_cases hv:Py s=true
 · rw[if_pos hv]
   obtain⟨d,hd,h6⟩:=Qnu hv
   unfold Py at hv
   obtain⟨h1,h2,h3,h4,h5,h7⟩:=of_decide_eq_true hv
   have hs:s=Xn.mk s.Kind s.Depth 0 (Vi.mk 0#64 0#64 0#64):=by cases s;simp only at *;rw[h5,h7];rfl
   rw[if_neg (by rw[BitVec.not_lt];exact h1),if_neg (by rw[BitVec.not_lt];exact h2),if_neg (by omega),if_neg (by omega),decide_eq_false (by simpa using hs)]
   simp only[cond_false]
   rw[Qvx s hd h6]
   unfold Yd
   rw[hd,Int.toNat_natCast]
 · rw[if_neg hv]
   have hn:¬ (1#8≤s.Kind∧s.Kind≤3#8∧0≤s.Depth∧s.Depth≤6∧s.Degree=0∧s.Group=zG):=fun h=>hv (by unfold Py;exact decide_eq_true h)
   by_cases h1:s.Kind<1#8
   · rw[if_pos h1];rfl
   · rw[if_neg h1]
     by_cases h2:3#8<s.Kind
     · rw[if_pos h2];rfl
     · rw[if_neg h2]
       by_cases h3:s.Depth<0
       · rw[if_pos h3];rfl
       · rw[if_neg h3]
         by_cases h4:(6:Int)<s.Depth
         · rw[if_pos h4];rfl
         · rw[if_neg h4,decide_eq_true (p:=s≠_)]
           · rfl
           · intro hs
             refine hn ⟨BitVec.not_lt.1 h1,BitVec.not_lt.1 h2,by omega,by omega,?_,?_⟩
             · rw[hs]
             · rw[hs];rfl
def Ld (d:Nat)(l:List Nat):Nat:=(l.find? (Lu d)).getD 0
theorem Qln {k:BitVec 8}{d:Nat}:∀ (l:List Nat),(∀ n∈l,1≤n∧n<9223372036854775808)→
 Vw (Cx ⟨k,(d:Int),(Gh d:Int)⟩) Ew (l.map Int.ofNat) 0=some ((Ld d l:Nat):Int)
 | [],_=>rfl
 | a::l,h=>by
  rw[List.map_cons,Im]
  simp only[Cx]
  have ha:=h a (by simp)
  rw[show(Int.ofNat a)=(a:Int) from rfl,Qng ha.1 ha.2,bind_some]
  unfold Ld
  rw[List.find?_cons]
  cases hs:Lu d a with
  | true=>rfl
  | false=>exact Qln l (fun n hn=>h n (by simp[hn]))
theorem Qso {m k:Nat}(h:2^(k+1)≤m):2^k≤m / 2:=by rw[Nat.le_div_iff_mul_le (by omega)];rw[Nat.pow_succ] at h;omega
theorem Qpl {kd:BitVec 8}{d m k:Nat}(hm:m<128)(hk:2^(k+1)≤m)(hk2:k≤60):Sj ⟨kd,(d:Int),(Gh d:Int)⟩ ((m / 2^(k+1):Nat):Int) (m:Int)=some ((Ld d (Dn (m / 2) k):Nat):Int):=by
 unfold Sj Cy Qam
 rw[show Vs (un 1#64)=some 1 from by decide,bind_some,bind_some,Qi6 _ _ (by omega),Nat.pow_one]
 simp only
 have e:m / 2^(k+1)=m / 2 / 2^k:=by rw[Nat.div_div_eq_div_mul,Nat.pow_succ,Nat.mul_comm 2]
 have hp:=Qso hk
 rw[e,Qu4 (by omega) hp (by omega),bind_some,Qln _ (fun n hn=>by have:=Qu2 hp hn;omega),bind_some]
end Go.Sx

end
section
set_option linter.unusedVariables false
set_option linter.unusedSimpArgs false
namespace Go.Sx
open Go
theorem Qlo {α σ τ R:Type}(l:List α)(F:(τ→Option R)→τ→Option R)(pk:Nat→σ→τ)(B:α→(σ→Option R)→σ→Option R)(D:σ→Option R)
 (h1:∀ rec (j:Nat) (hj:j<l.length) s,F rec (pk j s)=B l[j] (fun s'=>rec (pk (j+1) s')) s) (h2:∀ rec s,F rec (pk l.length s)=D s):
 ∀ (m j f:Nat) (s:σ),j+m=l.length→m<f→Xq F f (pk j s)=Vw B D (l.drop j) s
 | m,j,0,s,_,h=>by omega
 | 0,j,f+1,s,hj,_=>by
  have:j=l.length:=by omega
  subst this
  rw[Bj,h2,List.drop_length];rfl
 | m+1,j,f+1,s,hj,hf=>by
  have hjl:j<l.length:=by omega
  rw[Bj,h1 _ j hjl,List.drop_eq_getElem_cons hjl,Im]
  have:(fun s'=>Xq F f (pk (j+1) s'))=Vw B D (l.drop (j+1)):=funext fun s'=>Qlo l F pk B D h1 h2 m (j+1) f s' (by omega) (by omega)
  rw[this]
theorem Qlp {α σ τ R:Type}(l:List α)(F:(τ→Option R)→τ→Option R)(pk:Nat→σ→τ)(B:α→(σ→Option R)→σ→Option R)(D:σ→Option R)
 (h1:∀ rec (j:Nat) (hj:j<l.length) s,F rec (pk j s)=B l[j] (fun s'=>rec (pk (j+1) s')) s) (h2:∀ rec s,F rec (pk l.length s)=D s) {f:Nat} (hf:l.length<f) (s:σ):Xq F f (pk 0 s)=Vw B D l s:=by
 have:=Qlo l F pk B D h1 h2 l.length 0 f s (by omega) hf
 rwa[List.drop_zero] at this
theorem Qsk {σ τ R:Type}(n:Nat)(F:(τ→Option R)→τ→Option R)(pk:Nat→σ→τ)(B:Nat→(σ→Option R)→σ→Option R)(D:σ→Option R)
 (h1:∀ rec (j:Nat) (hj:j<n) s,F rec (pk j s)=B j (fun s'=>rec (pk (j+1) s')) s) (h2:∀ rec s,F rec (pk n s)=D s) {f:Nat} (hf:n<f) (s:σ):Xq F f (pk 0 s)=Vw B D (List.range n) s:=
 Qlp (List.range n) F pk B D (fun rec j hj s=>by rw[List.length_range] at hj;rw[h1 rec j hj,List.getElem_range]) (fun rec s=>by rw[List.length_range];exact h2 rec s) (by rw[List.length_range];exact hf) s
theorem Qly {α σ R:Type}(g:σ→α→σ)(F:α→(σ→Option R)→σ→Option R)(d:σ→Option R)(I:Nat→σ→Prop):∀ (l:List α) (k:Nat) (s:σ),(∀ j (a:α) s nx,a∈l→I j s→F a nx s=nx (g s a))→(∀ j (a:α) s,a∈l→I j s→I (j+1) (g s a))→I k s→Vw F d l s=d (l.foldl g s)
 | [],k,s,_,_,_=>rfl
 | a::l,k,s,h,hi,hs=>by
  rw[Im,h k a s _ (by simp) hs,List.foldl_cons]
  exact Qly g F d I l (k+1) (g s a) (fun j b s nx hb=>h j b s nx (by simp[hb])) (fun j b s hb=>hi j b s (by simp[hb])) (hi k a s (by simp) hs)
theorem Qo4 {n:Nat}(h:n<9223372036854775807):Qp ((n:Int)+1)=((n+1:Nat):Int):=by rw[Nk (by omega) (by omega)];omega
end Go.Sx

end
section
set_option linter.unusedVariables false
set_option linter.unusedSimpArgs false
namespace Go.Sx
open Go
theorem Qtc {k:BitVec 8}{d u:Nat}{st:Int}(h:d≤6)(hu:u<128):Rn ⟨k,(d:Int),st⟩ (u:Int)=some ((2^d+u:Nat):Int):=by
 have:=Tb h
 unfold Rn
 rw[Qne h,bind_some]
 generalize 2^d=m at *
 rw[Nk (by omega) (by omega)];congr 1
theorem Qre (s:Xn):Sf s ([]:List Xs)=some (if Py s then(Yd s,0) else(Xv.mk 0#8 0 0,30)):=by
 unfold Sf
 rw[Qvw,bind_some]
 cases hv:Py s with
 | false=>rfl
 | true=>rfl
end Go.Sx

end
section
set_option linter.unusedVariables false
set_option linter.unusedSimpArgs false
set_option maxRecDepth 100000
namespace Go.Sx
open Go
def Cg (k:BitVec 8)(d v w:Nat):Bool:=decide (k=2#8)||Lu d v||decide (Ld d (Dn (w / 2) (Nat.log2 w-Nat.log2 v-1))=0)
theorem Qsy {k:BitVec 8}(h1:1#8≤k)(h3:k≤3#8):k=1#8∨k=2#8∨k=3#8:=by
 have a:1≤k.toNat:=h1
 have b:k.toNat≤3:=h3
 rcases(show k.toNat=1∨k.toNat=2∨k.toNat=3 by omega) with h|h|h
 · exact .inl (BitVec.eq_of_toNat_eq h)
 · exact .inr (.inl (BitVec.eq_of_toNat_eq h))
 · exact .inr (.inr (BitVec.eq_of_toNat_eq h))
theorem Qwb {s:Xn}(h:Py s=true):1#8≤s.Kind∧s.Kind≤3#8:=by
 unfold Py at h
 have:=of_decide_eq_true h
 exact⟨this.1,this.2.1⟩
end Go.Sx

end
section
set_option linter.unusedVariables false
set_option linter.unusedSimpArgs false
set_option maxRecDepth 100000
namespace Go.Sx
open Go
theorem Nn {w v:Nat}(hw:1≤w):Tl w v=true↔∃ k,2^k≤w∧v=w / 2^k:=by
 constructor
 · intro h
   unfold Tl at h
   obtain⟨h1,h2⟩:=of_decide_eq_true h
   exact⟨_,Nat.le_trans (Nat.pow_le_pow_right (by omega) (by omega)) (Nat.log2_self_le (by omega)),h2.symm⟩
 · rintro⟨k,h1,rfl⟩
   unfold Tl
   have h2:=Qhb h1
   have h3:=Nh w k h1
   apply decide_eq_true
   refine⟨by omega,?_⟩
   rw[h2,show Nat.log2 w-(Nat.log2 w-k)=k from by omega]
theorem Qol {w v:Nat}(hw:1≤w)(h:Tl w v=true):1≤v:=by
 obtain⟨k,h1,rfl⟩:=(Nn hw).1 h
 exact Qk2 h1
theorem Qmw {w i j:Nat}(h:2^(i+j)≤w):2^j≤w / 2^i:=by
 rw[Nat.le_div_iff_mul_le (Nat.two_pow_pos i),←Nat.pow_add,Nat.add_comm];exact h
theorem Qhz {w i j:Nat}(h:2^j≤w / 2^i):2^(i+j)≤w:=by
 rw[Nat.le_div_iff_mul_le (Nat.two_pow_pos i),←Nat.pow_add,Nat.add_comm] at h;exact h
theorem Qok {w v:Nat}(hw:1≤w)(h:Tl w v=true):Nat.log2 v≤Nat.log2 w:=by
 unfold Tl at h
 exact(of_decide_eq_true h).1
theorem Og:∀ n:Fin 128,(n.1 ^^^ 1) / 2=n.1 / 2∧n.1 ^^^ 1≠n.1∧n.1 ^^^ 1<128∧(2≤n.1→Nat.log2 (n.1 ^^^ 1)=Nat.log2 n.1∧2≤n.1 ^^^ 1)∧n.1 ^^^ 1 ^^^ 1=n.1:=by decide +kernel
theorem Qux {n:Nat}(h:n<128):(n ^^^ 1) / 2=n / 2:=(Og ⟨n,h⟩).1
theorem Quz {n:Nat}(h:n<128):n ^^^ 1<128:=(Og ⟨n,h⟩).2.2.1
theorem Quy {n:Nat}(h:n<128)(h2:2≤n):Nat.log2 (n ^^^ 1)=Nat.log2 n:=((Og ⟨n,h⟩).2.2.2.1 h2).1
theorem Qnd {n:Nat}(h:n<128)(h2:2≤n):2≤n ^^^ 1:=((Og ⟨n,h⟩).2.2.2.1 h2).2
theorem Qnc {n:Nat}(h:n<128):n ^^^ 1 ^^^ 1=n:=(Og ⟨n,h⟩).2.2.2.2
theorem Qon {n:Nat}(h:n<128):Qa2 .xor (n:Int) 1=((n ^^^ 1:Nat):Int):=by
 have:∀ n:Fin 128,Qa2 .xor (n.1:Int) 1=((n.1 ^^^ 1:Nat):Int):=by decide +kernel
 exact this ⟨n,h⟩
theorem Qu3 {w k n:Nat}:n∈Dn w k↔∃ j,j<k∧n=w / 2^j:=by
 induction k with
 | zero=>simp[Dn]
 | succ k ih=>
  rw[Dn,List.mem_cons,ih]
  constructor
  · rintro(rfl|⟨j,hj,rfl⟩)
    · exact⟨k,by omega,rfl⟩
    · exact⟨j,by omega,rfl⟩
  · rintro⟨j,hj,rfl⟩
    rcases Nat.lt_or_ge j k with h|h
    · exact .inr ⟨j,h,rfl⟩
    · obtain rfl:j=k:=by omega
      exact .inl rfl
theorem Qtd {d u:Nat}(hu:u<2^d):Nat.log2 (2^d+u)=d:=by
 rw[Nat.log2_eq_iff (by have:=Nat.two_pow_pos d;omega),Nat.pow_succ];omega
theorem Qml {d n:Nat}(h1:1≤n)(h:n<2^(d+1)):Nat.log2 n≤d:=by
 have:=(Nat.log2_lt (n:=n) (k:=d+1) (by omega)).2 h;omega
end Go.Sx

end
section
set_option linter.unusedVariables false
set_option linter.unusedSimpArgs false
set_option maxRecDepth 100000
namespace Go.Sx
open Go
def Jp (d:Nat)(R:List Nat)(v:Nat):Bool:=R.any fun u=>Tl (2^d+u) v
theorem Sz {d:Nat}{R:List Nat}{v:Nat}:Jp d R v=true↔∃ u∈R,Tl (2^d+u) v=true:=by unfold Jp;rw[List.any_eq_true]
theorem Qjx:∀ n:Fin 64,(2*n.1) ^^^ 1=2*n.1+1∧(2*n.1+1) ^^^ 1=2*n.1:=by decide +kernel
theorem Qjv {n:Nat}(h:n<64):(2*n) ^^^ 1=2*n+1:=(Qjx ⟨n,h⟩).1
theorem Qjw {n:Nat}(h:n<64):(2*n+1) ^^^ 1=2*n:=(Qjx ⟨n,h⟩).2
theorem Ml (a b:Nat):a / 2^(b+1)=a / 2^b / 2:=by rw[Nat.pow_succ,Nat.div_div_eq_div_mul]
theorem Qj4 {L v:Nat}(hL:1≤L)(Kv:Nat.log2 v<Nat.log2 L)(hv:1≤v):Tl L v=(Tl L (2*v)||Tl L (2*v+1)):=by
 rw[Bool.eq_iff_iff,Bool.or_eq_true,Nn hL,Nn hL,Nn hL]
 constructor
 · rintro⟨k,h1,h2⟩
   have hl:=Nh L k h1
   rw[←h2] at hl
   obtain⟨j,rfl⟩:∃ j,k=j+1:=⟨k-1,by omega⟩
   have h3:2^j≤L:=Nat.le_trans (Nat.pow_le_pow_right (by omega) (by omega)) h1
   rw[Ml] at h2
   rcases(show L / 2^j=2*v∨L / 2^j=2*v+1 by omega) with e|e
   · exact .inl ⟨j,h3,e.symm⟩
   · exact .inr ⟨j,h3,e.symm⟩
 · rintro(⟨j,h1,h2⟩|⟨j,h1,h2⟩)
   · exact⟨j+1,Qhz (j:=1) (by rw[←h2];omega),by rw[Ml,←h2];omega⟩
   · exact⟨j+1,Qhz (j:=1) (by rw[←h2];omega),by rw[Ml,←h2];omega⟩
theorem Ul {v b:Nat}(hv:1≤v)(hb:b<2):Nat.log2 (2*v+b)=Nat.log2 v+1:=by
 rw[Qcp (by omega),show(2*v+b) / 2=v from by omega]
section
variable {d:Nat} {R:List Nat}
def Dq (d:Nat)(R:List Nat):Prop:=d≤6∧∀ u∈R,u<2^d
theorem Dq.leaf (h:Dq d R){u:Nat}(hu:u∈R):1≤2^d+u∧2^d+u<128∧Nat.log2 (2^d+u)=d:=by
 have:=Tb h.1
 have:=h.2 u hu
 have:=Nat.two_pow_pos d
 exact⟨by omega,by omega,Qtd (h.2 u hu)⟩
theorem Qtq {v:Nat}(hv:1≤v):v<2^d↔Nat.log2 v<d:=by rw[Nat.log2_lt (by omega)]
theorem Qgr (h:Dq d R){v:Nat}(hv:1≤v)(hl:Nat.log2 v<d):Jp d R v=(Jp d R (2*v)||Jp d R (2*v+1)):=by
 rw[Bool.eq_iff_iff,Bool.or_eq_true,Sz,Sz,Sz]
 constructor
 · rintro⟨u,hu,hb⟩
   obtain⟨h1,h2,h3⟩:=h.leaf hu
   rw[Qj4 h1 (by omega) hv,Bool.or_eq_true] at hb
   rcases hb with hb|hb
   · exact .inl ⟨u,hu,hb⟩
   · exact .inr ⟨u,hu,hb⟩
 · rintro(⟨u,hu,hb⟩|⟨u,hu,hb⟩) <;>
   · obtain⟨h1,h2,h3⟩:=h.leaf hu
     refine⟨u,hu,?_⟩
     rw[Qj4 h1 (by omega) hv,hb];simp
theorem Bl (h:Dq d R){v:Nat}(hv:Jp d R v=true):1≤v∧Nat.log2 v≤d∧v<2^(d+1):=by
 obtain⟨u,hu,hb⟩:=Sz.1 hv
 obtain⟨h1,h2,h3⟩:=h.leaf hu
 have hp:=Qol h1 hb
 have hl:=Qok h1 hb
 rw[h3] at hl
 exact⟨hp,hl,(Nat.log2_lt (by omega)).1 (by omega)⟩
theorem Qlv (h:Dq d R){v:Nat}(hv:Jp d R v=true)(h2:2≤v):Jp d R (v / 2)=true:=by
 obtain⟨h1,hl,_⟩:=Bl h hv
 have hh:=Qcp h2
 rw[Qgr h (by omega) (by omega)]
 rcases(show 2*(v / 2)=v∨2*(v / 2)+1=v by omega) with e|e
 · rw[e,hv];simp
 · rw[e,hv];simp
theorem Qlw (h:Dq d R){v:Nat}(hv:Jp d R v=true):∀ k,2^k≤v→Jp d R (v / 2^k)=true
 | 0,_=>by simpa using hv
 | k+1,hk=>by
  rw[Ml]
  have h1:2^k≤v:=Nat.le_trans (Nat.pow_le_pow_right (by omega) (by omega)) hk
  refine Qlv h (Qlw h hv k h1) ?_
  have:=Qmw (i:=k) (j:=1) hk
  simpa using this
def Nq (d:Nat)(R:List Nat)(v:Nat):Bool:=Jp d R (2*v) != Jp d R (2*v+1)
def Pg (d:Nat)(R:List Nat)(v:Nat):Nat:=if Jp d R (2*v) then 2*v else 2*v+1
def Vc (d:Nat)(R:List Nat):Nat→Nat→Nat
 | 0,v=>v
 | f+1,v=>if Nq d R v then Vc d R f (Pg d R v) else v
theorem Qj6 (h:Dq d R){v:Nat}(hv:1≤v)(hb:Nq d R v=true):Nat.log2 v<d∧Jp d R v=true:=by
 unfold Nq at hb
 have hx:Jp d R (2*v)=true∨Jp d R (2*v+1)=true:=by
  cases h1:Jp d R (2*v)<;>cases h2:Jp d R (2*v+1)<;>simp_all
 have hl:Nat.log2 v<d:=by
  rcases hx with hx|hx
  · have:=(Bl h hx).2.1;have:=Ul hv (b:=0) (by omega);simp at this;omega
  · have:=(Bl h hx).2.1;have:=Ul hv (b:=1) (by omega);omega
 refine⟨hl,?_⟩
 rw[Qgr h hv hl]
 rcases hx with hx|hx<;>simp[hx]
def Chn (d:Nat)(R:List Nat)(v w:Nat):Prop:=∃ k,2^k≤w∧v=w / 2^k∧∀ j,j<k→Jp d R (w / 2^j)=true∧Jp d R ((w / 2^j) ^^^ 1)=false
theorem Qcj (h:Dq d R):∀ (f v:Nat),1≤v→Nat.log2 v≤d→d-Nat.log2 v<f→1≤Vc d R f v∧Nat.log2 (Vc d R f v)≤d∧Nq d R (Vc d R f v)=false∧Chn d R v (Vc d R f v)
 | 0,v,_,_,hf=>by omega
 | f+1,v,hv,hl,hf=>by
  unfold Vc
  cases hb:Nq d R v with
  | false=>exact⟨by simpa using hv,by simpa using hl,by simpa using hb,⟨0,by simpa using hv,by simp,fun j hj=>by omega⟩⟩
  | true=>
   rw[if_pos rfl]
   obtain⟨hl2,_⟩:=Qj6 h hv hb
   have h64:=Tb h.1
   have hv64:v<64:=by have:=(Qtq (d:=d) hv).2 hl2;omega
   have hc:(Pg d R v) / 2=v∧2≤Pg d R v∧Nat.log2 (Pg d R v)=Nat.log2 v+1∧Jp d R (Pg d R v)=true∧Jp d R (Pg d R v ^^^ 1)=false:=by
    unfold Pg
    unfold Nq at hb
    cases h1:Jp d R (2*v) with
    | true=>
     rw[h1] at hb
     rw[if_pos rfl]
     refine⟨by omega,by omega,Ul hv (b:=0) (by omega),h1,?_⟩
     rw[Qjv hv64];simpa using hb
    | false=>
     rw[h1] at hb
     rw[if_neg (by simp)]
     refine⟨by omega,by omega,Ul hv (b:=1) (by omega),by simpa using hb,?_⟩
     rw[Qjw hv64];exact h1
   obtain⟨c1,c2,c3,c4,c5⟩:=hc
   obtain⟨g1,g2,g3,k,g4,g5,g6⟩:=Qcj h f (Pg d R v) (by omega) (by omega) (by omega)
   refine⟨g1,g2,g3,k+1,?_,?_,?_⟩
   · exact Qhz (j:=1) (by rw[←g5];omega)
   · rw[Ml,←g5];exact c1.symm
   · intro j hj
     rcases Nat.lt_or_ge j k with hjk|hjk
     · exact g6 j hjk
     · obtain rfl:j=k:=by omega
       rw[←g5];exact⟨c4,c5⟩
def Yh (d:Nat)(R:List Nat):Nat→Nat→Nat
 | 0,x=>x
 | f+1,x=>if x=1∨Jp d R (x ^^^ 1)=true then x else Yh d R f (x / 2)
def Dg (d:Nat)(R:List Nat)(v:Nat):Bool:=decide (v=1)||Jp d R (v ^^^ 1)
theorem Qlt {f x:Nat}(h:Dg d R x=true):Yh d R f x=x:=by
 cases f with
 | zero=>rfl
 | succ f=>
  unfold Yh
  unfold Dg at h
  rw[Bool.or_eq_true,decide_eq_true_eq] at h
  rw[if_pos h]
theorem Qls {v w:Nat}(hv:Dg d R v=true)(hv1:1≤v):∀ (j k f:Nat),2^(j+k)≤w→v=w / 2^(j+k)→(∀ i,j≤i→i<j+k→Jp d R ((w / 2^i) ^^^ 1)=false)→k≤f→Yh d R f (w / 2^j)=v
 | j,0,f,h1,h2,_,_=>by rw[Nat.add_zero] at h2;rw[←h2];exact Qlt hv
 | j,k+1,0,h1,h2,h3,hf=>by omega
 | j,k+1,f+1,h1,h2,h3,hf=>by
  unfold Yh
  have h4:=h3 j (by omega) (by omega)
  have h5:w / 2^j≠1:=by
   have:=Qmw (w:=w) (i:=j) (j:=1) (Nat.le_trans (Nat.pow_le_pow_right (by omega) (by omega)) h1)
   simp at this;omega
  rw[if_neg (by rw[h4];simp[h5]),←Ml]
  exact Qls hv hv1 (j+1) k f (by rw[show j+1+k=j+(k+1) from by omega];exact h1) (by rw[show j+1+k=j+(k+1) from by omega];exact h2) (fun i h6 h7=>h3 i (by omega) (by omega)) (by omega)
theorem Qgp:∀ (f x:Nat),1≤x→Nat.log2 x<f→Dg d R (Yh d R f x)=true∧∃ i,2^i≤x∧Yh d R f x=x / 2^i∧∀ t,t<i→Dg d R (x / 2^t)=false
 | 0,x,_,h=>by omega
 | f+1,x,hx,hf=>by
  unfold Yh
  by_cases hc:x=1∨Jp d R (x ^^^ 1)=true
  · rw[if_pos hc];exact⟨by unfold Dg;simpa using hc,0,by simpa using hx,by simp,fun t ht=>by omega⟩
  · rw[if_neg hc]
    have hx2:2≤x:=by rw[not_or] at hc;omega
    have hh:=Qcp hx2
    obtain⟨h1,i,h2,h3,h4⟩:=Qgp f (x / 2) (by omega) (by omega)
    refine⟨h1,i+1,?_,?_,?_⟩
    · rw[Nat.pow_succ];omega
    · rw[h3,Nat.div_div_eq_div_mul,Nat.pow_succ,Nat.mul_comm 2]
    · intro t ht
      cases t with
      | zero=>simp only[Nat.pow_zero,Nat.div_one];unfold Dg;simpa[not_or] using hc
      | succ t=>
       have:=h4 t (by omega)
       rw[Nat.div_div_eq_div_mul,show 2*2^t=2^(t+1) from by rw[Nat.pow_succ,Nat.mul_comm]] at this;exact this
def Wu (d v w:Nat):Nat:=Ld d (Dn (w / 2) (Nat.log2 w-Nat.log2 v-1))
def Iu (k:BitVec 8)(d:Nat)(R:List Nat)(x:Nat):Option Nat:=
 if k=1#8 then(if !Jp d R x&&(decide (x=1)||Jp d R (x / 2)) then some 0 else none)
 else if Jp d R x then
  (if Vc d R 7 (Yh d R 7 x)=Yh d R 7 x then none
  else if x=Yh d R 7 x then some (if Cg k d (Yh d R 7 x) (Vc d R 7 (Yh d R 7 x)) then Vc d R 7 (Yh d R 7 x) else Wu d (Yh d R 7 x) (Vc d R 7 (Yh d R 7 x)))
  else if !Cg k d (Yh d R 7 x) (Vc d R 7 (Yh d R 7 x))&&decide (x=Wu d (Yh d R 7 x) (Vc d R 7 (Yh d R 7 x))) then some (Vc d R 7 (Yh d R 7 x)) else none)
 else none
def Um (d:Nat):List Nat:=(List.range (2^(d+1)-1)).map (· + 1)
def Yl (k:BitVec 8)(d:Nat)(R:List Nat):List (Nat × Nat):=(Um d).filterMap fun x=>(Iu k d R x).map fun m=>(x,m)
theorem Qmk {x:Nat}:x∈Um d↔1≤x∧x<2^(d+1):=by
 unfold Um
 rw[List.mem_map]
 constructor
 · rintro⟨a,ha,rfl⟩;have:=List.mem_range.1 ha;omega
 · rintro⟨h1,h2⟩;exact⟨x-1,List.mem_range.2 (by omega),by omega⟩
theorem Qer {k:BitVec 8}{y:Nat × Nat}:y∈Yl k d R↔(1≤y.1∧y.1<2^(d+1))∧Iu k d R y.1=some y.2:=by
 unfold Yl
 rw[List.mem_filterMap]
 constructor
 · rintro⟨x,hx,he⟩
   obtain⟨m,hm,rfl⟩:=Option.map_eq_some_iff.1 he
   exact⟨Qmk.1 hx,hm⟩
 · rintro⟨h1,h2⟩;exact⟨y.1,Qmk.2 h1,by rw[h2];rfl⟩
def Ei (l:List (Nat × Nat)):Prop:=l.Pairwise fun a b=>a.1<b.1
theorem Qjl {k:BitVec 8}:Ei (Yl k d R):=by
 unfold Ei Yl
 rw[List.pairwise_filterMap]
 have:(Um d).Pairwise fun a b=>a<b:=by
  unfold Um
  rw[List.pairwise_map]
  exact List.pairwise_lt_range.imp (by omega)
 refine this.imp ?_
 intro a b hab y hy z hz
 obtain⟨_,_,rfl⟩:=Option.map_eq_some_iff.1 hy
 obtain⟨_,_,rfl⟩:=Option.map_eq_some_iff.1 hz
 exact hab
theorem Qj2:∀ {l m:List (Nat × Nat)},Ei l→Ei m→(∀ y,y∈l↔y∈m)→l=m
 | [],[],_,_,_=>rfl
 | [],b::m,_,_,h=>absurd ((h b).2 (by simp)) (by simp)
 | a::l,[],_,_,h=>absurd ((h a).1 (by simp)) (by simp)
 | a::l,b::m,hl,hm,h=>by
  have ha:=List.pairwise_cons.1 hl
  have hb:=List.pairwise_cons.1 hm
  have hab:a=b:=by
   rcases List.mem_cons.1 ((h a).1 (by simp)) with e|e
   · exact e
   · rcases List.mem_cons.1 ((h b).2 (by simp)) with e2|e2
     · exact e2.symm
     · have:=ha.1 b e2;have:=hb.1 a e;omega
  subst hab
  congr 1
  refine Qj2 ha.2 hb.2 fun y=>?_
  constructor
  · intro hy
    rcases List.mem_cons.1 ((h y).1 (by simp[hy])) with e|e
    · subst e;have:=ha.1 y hy;omega
    · exact e
  · intro hy
    rcases List.mem_cons.1 ((h y).2 (by simp[hy])) with e|e
    · subst e;have:=hb.1 y hy;omega
    · exact e
def Ta (k:BitVec 8)(d:Nat)(R:List Nat)(v:Nat):List (Nat × Nat):=
 if k=1#8 then(if v≠1∧Jp d R (v ^^^ 1)=false then[(v ^^^ 1,0)] else[])
 else if Dg d R v then(if Vc d R 7 v=v then[] else if Cg k d v (Vc d R 7 v) then[(v,Vc d R 7 v)] else[(v,Wu d v (Vc d R 7 v)),(Wu d v (Vc d R 7 v),Vc d R 7 v)])
 else[]
def Hz (k:BitVec 8)(d:Nat)(R:List Nat)(y:Nat × Nat):Nat:=if k=1#8 then y.1 ^^^ 1 else Yh d R 7 y.1
theorem Qju {k:BitVec 8}{v w:Nat}(hK:2^k.toNat≤w∨True){K:Nat}(h1:2^K≤w)(h2:v=w / 2^K)(hv:1≤v)(hs:Cg k d v w=false):∃ j,1≤j∧j<K∧Wu d v w=w / 2^j:=by
 have hl:=Nh w K h1
 rw[←h2] at hl
 unfold Cg at hs
 simp only[Bool.or_eq_false_iff,decide_eq_false_iff_not] at hs
 have h0:Wu d v w≠0:=hs.2
 unfold Wu at h0 ⊢
 unfold Ld at h0 ⊢
 cases hf:(Dn (w / 2) (Nat.log2 w-Nat.log2 v-1)).find? (Lu d) with
 | none=>rw[hf] at h0;simp at h0
 | some c=>
  obtain⟨j,hj,rfl⟩:=Qu3.1 (List.mem_of_find?_eq_some hf)
  refine⟨j+1,by omega,by omega,?_⟩
  rw[Option.getD_some,Nat.div_div_eq_div_mul,show 2*2^j=2^(j+1) from by rw[Nat.pow_succ,Nat.mul_comm]]
theorem Qp9 (h:Dq d R){k:BitVec 8}(hne:R≠[]){v:Nat}(hv:Jp d R v=true)(y:Nat × Nat):(y∈Yl k d R∧Hz k d R y=v)↔y∈Ta k d R v:=by
 have h64:=Tb h.1
 have hpow:2^(d+1)=2*2^d:=by rw[Nat.pow_succ,Nat.mul_comm]
 obtain⟨v1,vl,v2⟩:=Bl h hv
 rw[Qer]
 by_cases hk:k=1#8
 · unfold Iu Hz Ta
   rw[if_pos hk,if_pos hk,if_pos hk]
   have hroot:Jp d R 1=true:=by
    obtain⟨u,hu⟩:=List.exists_mem_of_ne_nil R hne
    obtain⟨l1,l2,l3⟩:=h.leaf hu
    exact Sz.2 ⟨u,hu,(Nn l1).2 ⟨d,by omega,by rw[Nat.add_div_left _ (Nat.two_pow_pos d),Nat.div_eq_of_lt (h.2 u hu)]⟩⟩
   constructor
   · rintro⟨⟨⟨y1,y2⟩,hm⟩,rfl⟩
     split at hm
     · rename_i hc
       simp only[Bool.and_eq_true,Bool.not_eq_true',Bool.or_eq_true,decide_eq_true_eq] at hc
       have hy0:y.2=0:=(Option.some.inj hm).symm
       have hyn:y.1≠1:=fun e=>by rw[e] at hc;rw[hroot] at hc;simp at hc
       have hss:=Qnc (n:=y.1) (by omega)
       rw[hss]
       have hs1:y.1 ^^^ 1≠1:=by have:=Qnd (n:=y.1) (by omega) (by omega);omega
       rw[if_pos ⟨hs1,hc.1⟩]
       simp only[List.mem_singleton]
       cases y;simp only at *;rw[hy0]
     · cases hm
   · intro hy
     split at hy
     · rename_i hc
       simp only[List.mem_singleton] at hy
       subst hy
       simp only
       have hv2:2≤v:=by omega
       have e1:=Quz (n:=v) (by omega)
       have e2:=Qnd (n:=v) (by omega) hv2
       have e3:=Quy (n:=v) (by omega) hv2
       refine⟨⟨⟨by omega,?_⟩,?_⟩,Qnc (by omega)⟩
       · exact(Nat.log2_lt (by omega)).1 (by omega)
       · rw[if_pos]
         simp only[Bool.and_eq_true,Bool.not_eq_true',Bool.or_eq_true,decide_eq_true_eq]
         refine⟨hc.2,.inr ?_⟩
         rw[Qux (by omega)];exact Qlv h hv hv2
     · cases hy
 · unfold Iu Hz Ta
   rw[if_neg hk,if_neg hk,if_neg hk]
   constructor
   · rintro⟨⟨⟨y1,y2⟩,hm⟩,rfl⟩
     have hl7:Nat.log2 y.1<7:=by have:=(Nat.log2_lt (n:=y.1) (k:=d+1) (by omega)).2 y2;have:=h.1;omega
     rw[if_pos (Qgp 7 y.1 y1 hl7).1]
     generalize Yh d R 7 y.1=v at *
     generalize Vc d R 7 v=w at *
     split at hm
     · split at hm
       · cases hm
       · rename_i h1 h2
         rw[if_neg h2]
         split at hm
         · rename_i h3
           have hm':=Option.some.inj hm
           split
           · rename_i h4
             rw[if_pos h4] at hm'
             simp only[List.mem_singleton];cases y;simp only at *;rw[h3,hm']
           · rename_i h4
             rw[if_neg h4] at hm'
             simp only[List.mem_cons,List.not_mem_nil,or_false];left;cases y;simp only at *;rw[h3,hm']
         · split at hm
           · rename_i h3 h4
             simp only[Bool.and_eq_true,Bool.not_eq_true',decide_eq_true_eq] at h4
             rw[if_neg (by rw[h4.1];simp)]
             simp only[List.mem_cons,List.not_mem_nil,or_false];right
             have hm':=Option.some.inj hm
             cases y;simp only at *;rw[←h4.2,hm']
           · cases hm
     · cases hm
   · intro hy
     split at hy
     · rename_i hh
       obtain⟨w1,w2,w3,K,w4,w5,w6⟩:=Qcj h 7 v v1 vl (by have:=h.1;omega)
       generalize hw:Vc d R 7 v=w at *
       have hs:Yh d R 7 v=v:=Qlt hh
       split at hy
       · cases hy
       · rename_i hne2
         split at hy
         · rename_i h4
           simp only[List.mem_singleton] at hy
           subst hy
           simp only[hs,hw,hv,if_true,if_neg hne2,h4]
           exact⟨⟨⟨v1,v2⟩,trivial⟩,trivial⟩
         · rename_i h4
           have h4':Cg k d v w=false:=by simpa using h4
           simp only[List.mem_cons,List.not_mem_nil,or_false] at hy
           rcases hy with rfl|rfl
           · simp only[hs,hw,hv,if_true,if_neg hne2,h4',Bool.false_eq_true,if_false]
             exact⟨⟨⟨v1,v2⟩,trivial⟩,trivial⟩
           · obtain⟨j,j1,j2,j3⟩:=Qju (k:=k) (d:=d) (.inr trivial) w4 w5 v1 h4'
             have hlw:=Nh w K w4
             have hKd:K≤6:=by have:=h.1;omega
             have hc:Yh d R 7 (Wu d v w)=v:=by
              rw[j3]
              exact Qls hh v1 j (K-j) 7 (by rw[show j+(K-j)=K from by omega];exact w4) (by rw[show j+(K-j)=K from by omega];exact w5) (fun i _ hi=>(w6 i (by omega)).2) (by omega)
             have hj2:2^j≤w:=Nat.le_trans (Nat.pow_le_pow_right (by omega) (by omega)) w4
             have hch:Jp d R (Wu d v w)=true:=by rw[j3];exact(w6 j j2).1
             have hcv:Wu d v w≠v:=by
              rw[j3,w5];exact Qpy w4 j2
             obtain⟨c1,_,c3⟩:=Bl h hch
             simp only[hc,hw,hch,if_true,if_neg hne2,if_neg hcv,h4']
             simp only[Bool.not_false,Bool.true_and,decide_true,if_true]
             exact⟨⟨⟨c1,c3⟩,trivial⟩,trivial⟩
     · cases hy
theorem Qu0 (h:Dq d R){k:BitVec 8}(hne:R≠[]){y:Nat × Nat}(hy:y∈Yl k d R):Jp d R (Hz k d R y)=true:=by
 have h64:=Tb h.1
 have hpow:2^(d+1)=2*2^d:=by rw[Nat.pow_succ,Nat.mul_comm]
 obtain⟨⟨y1,y2⟩,hm⟩:=Qer.1 hy
 unfold Iu at hm
 unfold Hz
 by_cases hk:k=1#8
 · rw[if_pos hk] at hm ⊢
   split at hm
   · rename_i hc
     simp only[Bool.and_eq_true,Bool.not_eq_true',Bool.or_eq_true,decide_eq_true_eq] at hc
     have hroot:Jp d R 1=true:=by
      obtain⟨u,hu⟩:=List.exists_mem_of_ne_nil R hne
      obtain⟨l1,l2,l3⟩:=h.leaf hu
      exact Sz.2 ⟨u,hu,(Nn l1).2 ⟨d,by omega,by rw[Nat.add_div_left _ (Nat.two_pow_pos d),Nat.div_eq_of_lt (h.2 u hu)]⟩⟩
     have hyn:y.1≠1:=fun e=>by rw[e] at hc;rw[hroot] at hc;simp at hc
     have hp:Jp d R (y.1 / 2)=true:=by
      rcases hc.2 with e|e
      · exact absurd e hyn
      · exact e
     have hlg:=Qcp (n:=y.1) (by omega)
     have hyl:Nat.log2 y.1≤d:=Qml y1 y2
     rw[Qgr h (by omega) (by omega),Bool.or_eq_true] at hp
     have hz:y.1 / 2<64:=by omega
     rcases(show y.1=2*(y.1 / 2)∨y.1=2*(y.1 / 2)+1 by omega) with e|e
     · have h2:Jp d R (2*(y.1 / 2))=false:=by rw[←e];exact hc.1
       have:y.1 ^^^ 1=2*(y.1 / 2)+1:=by rw[←Qjv hz,←e]
       rw[this];rw[h2] at hp;simpa using hp
     · have h2:Jp d R (2*(y.1 / 2)+1)=false:=by rw[←e];exact hc.1
       have:y.1 ^^^ 1=2*(y.1 / 2):=by rw[←Qjw hz,←e]
       rw[this];rw[h2] at hp;simpa using hp
   · cases hm
 · rw[if_neg hk] at hm ⊢
   split at hm
   · rename_i hx
     have hl7:Nat.log2 y.1<7:=by have:=Qml y1 y2;have:=h.1;omega
     obtain⟨_,i,i1,i2,_⟩:=Qgp (d:=d) (R:=R) 7 y.1 y1 hl7
     rw[i2];exact Qlw h hx i i1
   · cases hm
end
end Go.Sx

end
section
set_option linter.unusedVariables false
set_option linter.unusedSimpArgs false
namespace Go.Sx
open Go
end Go.Sx

end
section
set_option linter.unusedVariables false
set_option linter.unusedSimpArgs false
namespace Go.Sx
open Go
end Go.Sx

end
section
set_option linter.unusedVariables false
set_option linter.unusedSimpArgs false
namespace Go.Sx
open Go
theorem Quf {k:BitVec 8}{d:Nat}{st u:Int}(h:d≤6):Mf ⟨k,(d:Int),st⟩ u=some (decide (0≤u∧u<((2^d:Nat):Int))):=by
 unfold Mf
 by_cases h0:(0:Int)≤u
 · rw[if_pos h0,Qne h,bind_some];congr 1;apply decide_eq_decide.2;omega
 · rw[if_neg h0];congr 1;symm;apply decide_eq_false;omega
end Go.Sx

end
section
set_option linter.unusedVariables false
set_option linter.unusedSimpArgs false
namespace Go.Sx
open Go
end Go.Sx

end
section
set_option linter.unusedVariables false
set_option linter.unusedSimpArgs false
namespace Go.Sx
open Go
section
variable {s:Xn} {d u n m:Nat}
end
def Dj (d:Nat)(l:List Int):Bool:=(List.range l.length).all fun j=>decide (0≤l.getD j 0∧l.getD j 0<((2^d:Nat):Int))&&(decide (j=0)||decide (l.getD (j-1) 0<l.getD j 0))
theorem getD_some {l:List Int}{j:Nat}(h:j<l.length):l.getD j 0=l[j]:=by simp[List.getD,h]
theorem Qiy {σ:Type}(p:Nat→Bool):∀ (l:List Nat) (F:Nat→(σ→Option Bool)→σ→Option Bool) (s:σ),(∀ a∈l,∀ nx s,F a nx s=bif p a then nx s else some false)→Vw F (fun _=>some true) l s=some (l.all p)
 | [],F,s,_=>rfl
 | a::l,F,s,h=>by
  rw[Im,h a (by simp),List.all_cons]
  cases p a with
  | false=>rfl
  | true=>rw[cond_true,Bool.true_and];exact Qiy p l F s (fun b hb=>h b (by simp[hb]))
theorem Qti {kd:BitVec 8}{d:Nat}{st:Int}(h6:d≤6)(l:List Int)(hl:l.length<4611686018427387904):Mc ⟨kd,(d:Int),st⟩ l=some (Dj d l):=by
 unfold Mc Dj
 have:=Qsk l.length (Ro ⟨kd,(d:Int),st⟩ l) (fun j (_:Unit)=>(j:Int)) (fun j nx s=>bif decide (0≤l.getD j 0∧l.getD j 0<((2^d:Nat):Int))&&(decide (j=0)||decide (l.getD (j-1) 0<l.getD j 0)) then nx s else some false) (fun _=>some true)
  (fun rec j hj _=>by
   simp only[Ro,Me]
   rw[if_pos (by omega),Qgo hj,bind_some,Quf h6,bind_some,getD_some hj,Qo4 (by omega)]
   by_cases h:0≤l[j]∧l[j]<((2^d:Nat):Int)
   · rw[decide_eq_true h]
     simp only[Bool.not_true,cond_false,Bool.true_and]
     by_cases h0:j=0
     · rw[if_neg (by omega),decide_eq_true h0];rfl
     · have hj1:j-1<l.length:=by omega
       rw[if_pos (by omega),Nk (by omega) (by omega),show(j:Int)-1=((j-1:Nat):Int) from by omega,Qgo hj1,bind_some,decide_eq_false h0,Bool.false_or,getD_some hj1]
       by_cases h1:l[j]≤l[j-1]
       · rw[decide_eq_true h1,decide_eq_false (by omega)];rfl
       · rw[decide_eq_false h1,decide_eq_true (by omega)];rfl
   · rw[decide_eq_false h];rfl)
  (fun rec _=>by simp only[Ro];rw[if_neg (by omega)]) (f:=Ze) (Qgn (by omega)) ()
 rw[show((0:Nat):Int)=0 from rfl] at this
 rw[this]
 exact Qiy _ _ _ _ (fun a _ nx s=>rfl)
theorem Qmf {d:Nat}{l:List Int}(h:Dj d l=true){a:Int}(ha:a∈l):∃ u:Nat,a=(u:Int)∧u<2^d:=by
 obtain⟨j,hj,rfl⟩:=List.mem_iff_getElem.1 ha
 have:=List.all_eq_true.1 h j (by simpa using hj)
 rw[Bool.and_eq_true,decide_eq_true_eq,getD_some hj] at this
 exact⟨l[j].toNat,by omega,by omega⟩
end Go.Sx

end
section
set_option linter.unusedVariables false
set_option linter.unusedSimpArgs false
set_option maxRecDepth 100000
namespace Go.Sx
open Go
def Hk (y:Nat × Nat):Xs:=⟨(y.1:Int),(y.2:Int)⟩
def Pk:Nat→Nat→List Int→List Int
 | 0,_,ks=>ks
 | f+1,n,ks=>if n=0 then ks else Pk f (n / 2) (Pe ks (n:Int))
theorem Qns (a5:Int)(rec1:Int × List Int→Option (List Xs × Int)):∀ (f fuel n:Nat) (ks:List Int),n<2^f→f<fuel→Xq (Ri a5 rec1) fuel ((n:Int),ks)=rec1 (Qp (a5+1),Pk f n ks)
 | f,0,n,ks,_,h=>by omega
 | 0,fuel+1,n,ks,hn,_=>by
  rw[Bj];simp only[Ri]
  rw[if_neg (by simp at hn;omega)];rfl
 | f+1,fuel+1,n,ks,hn,hf=>by
  rw[Bj];simp only[Ri]
  unfold Pk
  by_cases h0:n=0
  · rw[if_neg (by omega),if_pos h0]
  · rw[if_pos (by omega),if_neg h0,show Vs (un 1#64)=some 1 from by decide,bind_some,Qi6 _ _ (by omega),Nat.pow_one]
    exact Qns a5 rec1 f fuel (n / 2) _ (by rw[Nat.pow_succ] at hn;omega) (by omega)
theorem Qsu {ks:List Int}{k z:Int}:z∈Pe ks k↔z∈ks∨z=k:=by
 unfold Pe;split
 · rename_i h;exact⟨.inl,fun h'=>h'.elim id (fun e=>e ▸ h)⟩
 · simp
theorem Qst {ks:List Int}{k:Int}:(Pe ks k).length≤ks.length+1:=by unfold Pe;split<;>simp
theorem Qnt:∀ (f n:Nat) (ks:List Int) (z:Int),n<2^f→(z∈Pk f n ks↔z∈ks∨∃ j,2^j≤n∧z=((n / 2^j:Nat):Int))
 | 0,n,ks,z,hn=>by
  unfold Pk
  constructor
  · exact .inl
  · rintro(h|⟨j,hj,_⟩)
    · exact h
    · have:=Nat.two_pow_pos j;simp at hn;omega
 | f+1,n,ks,z,hn=>by
  unfold Pk
  by_cases h0:n=0
  · rw[if_pos h0]
    constructor
    · exact .inl
    · rintro(h|⟨j,hj,_⟩)
      · exact h
      · have:=Nat.two_pow_pos j;omega
  · rw[if_neg h0,Qnt f (n / 2) _ z (by rw[Nat.pow_succ] at hn;omega),Qsu]
    have hd2:∀ j,n / 2 / 2^j=n / 2^(j+1):=fun j=>by rw[Nat.div_div_eq_div_mul,Nat.pow_succ,Nat.mul_comm 2]
    constructor
    · rintro((h|h)|⟨j,h1,h2⟩)
      · exact .inl h
      · exact .inr ⟨0,by simp;omega,by simpa using h⟩
      · exact .inr ⟨j+1,by rw[Nat.pow_succ];omega,by rw[h2,hd2]⟩
    · rintro(h|⟨j,h1,h2⟩)
      · exact .inl (.inl h)
      · cases j with
        | zero=>exact .inl (.inr (by simpa using h2))
        | succ j=>exact .inr ⟨j,by rw[Nat.pow_succ] at h1;omega,by rw[h2,hd2]⟩
theorem Qnr:∀ (f n:Nat) (ks:List Int),(Pk f n ks).length≤ks.length+f
 | 0,n,ks=>by simp[Pk]
 | f+1,n,ks=>by
  unfold Pk;split
  · omega
  · have:=Qnr f (n / 2) (Pe ks (n:Int));have:=Qst (ks:=ks) (k:=(n:Int));omega
def Yn (d:Nat)(l:List Int):List Int:=l.foldl (fun ks u=>Pk 8 (2^d+u.toNat) ks) []
theorem Qgq {d:Nat}(h6:d≤6):∀ (l:List Int) (ks:List Int) (z:Int),(∀ u∈l,u.toNat<2^d)→(z∈l.foldl (fun ks u=>Pk 8 (2^d+u.toNat) ks) ks↔z∈ks∨∃ u∈l,∃ j,2^j≤2^d+u.toNat∧z=(((2^d+u.toNat) / 2^j:Nat):Int))
 | [],ks,z,_=>by simp
 | a::l,ks,z,h=>by
  have h64:=Tb h6
  have ha:=h a (by simp)
  rw[List.foldl_cons,Qgq h6 l _ z (fun u hu=>h u (by simp[hu])),Qnt 8 _ _ _ (by omega)]
  constructor
  · rintro((h1|h1)|⟨u,hu,h1⟩)
    · exact .inl h1
    · exact .inr ⟨a,by simp,h1⟩
    · exact .inr ⟨u,by simp[hu],h1⟩
  · rintro(h1|⟨u,hu,h1⟩)
    · exact .inl (.inl h1)
    · rcases List.mem_cons.1 hu with rfl|hu
      · exact .inl (.inr h1)
      · exact .inr ⟨u,hu,h1⟩
theorem Qlu {d:Nat}:∀ (l:List Int) (ks:List Int),(l.foldl (fun ks u=>Pk 8 (2^d+u.toNat) ks) ks).length≤ks.length+8*l.length
 | [],ks=>by simp
 | a::l,ks=>by
  rw[List.foldl_cons,List.length_cons]
  have:=Qlu (d:=d) l (Pk 8 (2^d+a.toNat) ks)
  have:=Qnr 8 (2^d+a.toNat) ks
  omega
def Zz (l:List Int):List Nat:=l.map Int.toNat
theorem Ob {d:Nat}{l:List Int}(h6:d≤6)(h:Dj d l=true):Dq d (Zz l):=⟨h6,fun u hu=>by
 obtain⟨a,ha,rfl⟩:=List.mem_map.1 hu
 obtain⟨w,hw,hw2⟩:=Qmf h ha
 rw[hw];simpa using hw2⟩
theorem Lg {d:Nat}{l:List Int}(h6:d≤6)(h:Dj d l=true)(n:Nat):((n:Int)∈Yn d l)↔Jp d (Zz l) n=true:=by
 have hr:=Ob h6 h
 unfold Yn
 rw[Qgq h6 l [] _ (fun u hu=>hr.2 _ (List.mem_map.2 ⟨u,hu,rfl⟩)),Sz]
 simp only[List.not_mem_nil,false_or]
 constructor
 · rintro⟨u,hu,j,h1,h2⟩
   refine⟨u.toNat,List.mem_map.2 ⟨u,hu,rfl⟩,(Nn (hr.leaf (List.mem_map.2 ⟨u,hu,rfl⟩)).1).2 ⟨j,h1,by omega⟩⟩
 · rintro⟨u,hu,hb⟩
   obtain⟨a,ha,rfl⟩:=List.mem_map.1 hu
   obtain⟨j,h1,h2⟩:=(Nn (hr.leaf hu).1).1 hb
   exact⟨a,ha,j,h1,by rw[h2]⟩
theorem Qsr {d:Nat}{l:List Int}(h6:d≤6)(h:Dj d l=true){k:Int}(hk:k∈Yn d l):∃ n:Nat,k=(n:Int)∧Jp d (Zz l) n=true:=by
 have hr:=Ob h6 h
 unfold Yn at hk
 rw[Qgq h6 l [] _ (fun u hu=>hr.2 _ (List.mem_map.2 ⟨u,hu,rfl⟩))] at hk
 simp only[List.not_mem_nil,false_or] at hk
 obtain⟨u,hu,j,h1,h2⟩:=hk
 exact⟨_,h2,Sz.2 ⟨u.toNat,List.mem_map.2 ⟨u,hu,rfl⟩,(Nn (hr.leaf (List.mem_map.2 ⟨u,hu,rfl⟩)).1).2 ⟨j,h1,rfl⟩⟩⟩
theorem Qfd {d:Nat}{l:List Int}(h6:d≤6)(h:Dj d l=true)(n:Nat):decide ((n:Int)∈Yn d l)=Jp d (Zz l) n:=by
 cases hb:Jp d (Zz l) n with
 | true=>exact decide_eq_true ((Lg h6 h n).2 hb)
 | false=>exact decide_eq_false fun hm=>by rw[(Lg h6 h n).1 hm] at hb;cases hb
theorem Qlr {s:Xn}{d:Nat}{l:List Int}(h6:d≤6)(h:Dj d l=true)(acc:List Xs)(nx:List Xs→Option (List Xs × Int))(k:Int):∀ (f fuel v:Nat),1≤v→Nat.log2 v≤d→d-Nat.log2 v<f→f≤fuel→
 Xq (Nu (Yd s,0) (Yn d l) acc nx k) fuel (v:Int)=(if(Vc d (Zz l) f v:Int)=k then nx acc else Option.bind (Sj (Yd s) k (Vc d (Zz l) f v:Int)) fun x31=>(if x31≠0 then(if(Yd s).kind=3#8 then Option.bind (Nv (Yd s) k) fun x34=>(Du acc nx k (Vc d (Zz l) f v:Int) x31 (!x34)) else Du acc nx k (Vc d (Zz l) f v:Int) x31 false) else Du acc nx k (Vc d (Zz l) f v:Int) x31 false))
 | 0,fuel,v,_,_,hf,_=>by omega
 | f+1,0,v,_,_,_,hf=>by omega
 | f+1,fuel+1,v,hv,hl,hf,hff=>by
  have hr:=Ob h6 h
  have h64:=Tb h6
  have hv128:v<128:=by
   have:=(Nat.log2_lt (n:=v) (k:=d+1) (by omega)).1 (by omega)
   rw[Nat.pow_succ] at this;omega
  rw[Bj];simp only[Nu]
  have e0:Qp (2*(v:Int))=((2*v:Nat):Int):=by rw[Nk (by omega) (by omega)];omega
  have e1:Qp (((2*v:Nat):Int)+1)=((2*v+1:Nat):Int):=by rw[Nk (by omega) (by omega)];omega
  have e2:Qp ((v:Int)*2)=((2*v:Nat):Int):=by rw[Nk (by omega) (by omega)];omega
  rw[e0,e1,e2,e1,Qfd h6 h,Qfd h6 h]
  rw[show(Jp d (Zz l) (2*v) != Jp d (Zz l) (2*v+1))=Nq d (Zz l) v from rfl]
  cases hb:Nq d (Zz l) v with
  | false=>
   have hfv:Vc d (Zz l) (f+1) v=v:=by unfold Vc;rw[hb];rfl
   rw[cond_false,hfv]
  | true=>
   have hfv:Vc d (Zz l) (f+1) v=Vc d (Zz l) f (Pg d (Zz l) v):=by
    show(if Nq d (Zz l) v=true then Vc d (Zz l) f (Pg d (Zz l) v) else v)=_
    rw[hb];rfl
   rw[cond_true,hfv]
   obtain⟨hl2,_⟩:=Qj6 hr hv hb
   have key:(if ¬ (((2*v:Nat):Int)∈Yn d l) then Xq (Nu (Yd s,0) (Yn d l) acc nx k) fuel ((2*v+1:Nat):Int) else Xq (Nu (Yd s,0) (Yn d l) acc nx k) fuel ((2*v:Nat):Int))=Xq (Nu (Yd s,0) (Yn d l) acc nx k) fuel (Pg d (Zz l) v:Int):=by
    unfold Pg
    cases hh:Jp d (Zz l) (2*v) with
    | true=>rw[if_neg (fun hn=>hn ((Lg h6 h _).2 hh)),if_pos rfl]
    | false=>rw[if_pos (fun hm=>by rw[(Lg h6 h _).1 hm] at hh;cases hh),if_neg (by simp)]
   rw[key]
   have hn:1≤Pg d (Zz l) v∧Nat.log2 (Pg d (Zz l) v)=Nat.log2 v+1:=by
    unfold Pg;split
    · exact⟨by omega,Ul hv (b:=0) (by omega)⟩
    · exact⟨by omega,Ul hv (b:=1) (by omega)⟩
   exact Qlr h6 h acc nx k f fuel _ hn.1 (by omega) (by omega) (by omega)
theorem Qvj {s:Xn}{d:Nat}{l:List Int}(hv:Py s=true)(hd:s.Depth=(d:Int))(h6:d≤6)(h:Dj d l=true){v:Nat}(hh:Jp d (Zz l) v=true)(acc:List Xs)(ha:acc.length≤1000)(nx:List Xs→Option (List Xs × Int)):
 Se (Yd s,0) (Yn d l) (v:Int) nx acc=nx (acc++(Ta s.Kind d (Zz l) v).map Hk):=by
 have hr:=Ob h6 h
 have h64:=Tb h6
 obtain⟨v1,vl,v2⟩:=Bl hr hh
 have hpow:2^(d+1)=2*2^d:=by rw[Nat.pow_succ,Nat.mul_comm]
 have hv128:v<128:=by omega
 have ht:Yd s=⟨s.Kind,(d:Int),(Gh d:Int)⟩:=by unfold Yd;rw[hd,Int.toNat_natCast]
 have hkd:(Yd s).kind=s.Kind:=rfl
 have hsib:Sg (v:Int)=some ((v ^^^ 1:Nat):Int):=by unfold Sg;rw[Qon hv128]
 have hadd:∀ (a b:Int) (acc:List Xs),acc.length≤2000→Re a b acc=some (acc++[⟨a,b⟩]):=fun a b acc hl=>by
  unfold Re;rw[Qod (by simp;omega),bind_some]
 unfold Se
 simp only[hkd]
 by_cases hk:s.Kind=1#8
 · rw[if_pos hk]
   unfold Ta
   rw[if_pos hk]
   by_cases hv1:v=1
   · rw[if_neg (by omega),if_neg (by simp[hv1])]
     unfold Cu;simp
   · rw[if_pos (by omega),hsib,bind_some]
     unfold Cu
     have hdm:=Qfd h6 h (v ^^^ 1)
     by_cases hs:Jp d (Zz l) (v ^^^ 1)=true
     · rw[decide_eq_false (p:=¬ (((v ^^^ 1:Nat):Int)∈Yn d l)) (fun hn=>hn ((Lg h6 h _).2 hs)),cond_false,if_neg (by simp[hs])];simp
     · have hs':Jp d (Zz l) (v ^^^ 1)=false:=by simpa using hs
       rw[decide_eq_true (p:=¬ (((v ^^^ 1:Nat):Int)∈Yn d l)) (fun hm=>hs ((Lg h6 h _).1 hm)),cond_true,hsib,bind_some,hadd _ _ _ (by omega),bind_some,if_pos ⟨hv1,hs'⟩]
       rfl
 · rw[if_neg hk]
   have go:Dg d (Zz l) v=true→Sd (Yd s,0) (Yn d l) acc nx (v:Int) false=nx (acc++(Ta s.Kind d (Zz l) v).map Hk):=by
    intro hhd
    unfold Sd
    rw[cond_false,Qlr h6 h acc nx (v:Int) 7 Ze v v1 vl (by omega) (by unfold Ze;omega)]
    unfold Ta
    rw[if_neg hk,if_pos hhd]
    obtain⟨w1,w2,w3,K,w4,w5,w6⟩:=Qcj hr 7 v v1 vl (by omega)
    generalize Vc d (Zz l) 7 v=w at *
    by_cases hw:w=v
    · rw[if_pos (by omega),if_pos hw];simp
    · rw[if_neg (by omega),if_neg hw]
      have hlw:=Nh w K w4
      rw[←w5] at hlw
      have hK:1≤K:=by
       rcases Nat.eq_zero_or_pos K with h0|h0
       · subst h0;simp at w5;exact absurd w5.symm hw
       · exact h0
      have hw128:w<128:=by
       have:=(Nat.log2_lt (n:=w) (k:=d+1) (by omega)).1 (by omega)
       omega
      have hcut:Sj (Yd s) (v:Int) (w:Int)=some ((Wu d v w:Nat):Int):=by
       obtain⟨K',rfl⟩:∃ K',K=K'+1:=⟨K-1,by omega⟩
       have:=Qpl (kd:=s.Kind) (d:=d) (m:=w) (k:=K') hw128 w4 (by omega)
       rw[←w5] at this
       rw[ht,this]
       unfold Wu
       rw[show Nat.log2 w-Nat.log2 v-1=K' from by omega]
      have hspc:Nv (Yd s) (v:Int)=some (Lu d v):=by rw[ht];exact Qng v1 (by omega)
      rw[hcut,bind_some]
      have one:Du acc nx (v:Int) (w:Int) ((Wu d v w:Nat):Int) false=nx (acc++[(v,w)].map Hk):=by
       unfold Du Cw
       rw[cond_false,hadd _ _ _ (by omega),bind_some];rfl
      have two:Du acc nx (v:Int) (w:Int) ((Wu d v w:Nat):Int) true=nx (acc++[(v,Wu d v w),(Wu d v w,w)].map Hk):=by
       unfold Du Cw
       rw[cond_true,hadd _ _ _ (by omega),bind_some,hadd _ _ _ (by simp;omega),bind_some,List.append_assoc];rfl
      have hk3:s.Kind=2#8∨s.Kind=3#8:=by
       obtain⟨a,b⟩:=Qwb hv
       rcases Qsy a b with e|e|e
       · exact absurd e hk
       · exact .inl e
       · exact .inr e
      unfold Cg
      by_cases hc0:Wu d v w=0
      · rw[if_neg (by omega),one]
        have:(decide (s.Kind=2#8)||Lu d v||decide (Ld d (Dn (w / 2) (Nat.log2 w-Nat.log2 v-1))=0))=true:=by
         rw[decide_eq_true (p:=Ld _ _=0) hc0];simp
        rw[if_pos this]
      · have hc0':decide (Ld d (Dn (w / 2) (Nat.log2 w-Nat.log2 v-1))=0)=false:=decide_eq_false hc0
        rw[if_pos (by omega),hc0',Bool.or_false]
        rcases hk3 with hk3|hk3
        · rw[if_neg (by rw[hkd,hk3];decide),one,if_pos (by simp[hk3])]
        · rw[if_pos (show(Yd s).kind=3#8 from hk3),hspc,bind_some]
          have:decide (s.Kind=2#8)=false:=by rw[hk3];decide
          rw[this,Bool.false_or]
          cases Lu d v with
          | true=>rw[Bool.not_true,one,if_pos rfl]
          | false=>rw[Bool.not_false,two,if_neg (by simp)]
   have no:Dg d (Zz l) v=false→Sd (Yd s,0) (Yn d l) acc nx (v:Int) true=nx (acc++(Ta s.Kind d (Zz l) v).map Hk):=by
    intro hhd
    unfold Sd Ta
    rw[cond_true,if_neg hk,if_neg (by rw[hhd];simp)];simp
   by_cases hv1:v=1
   · rw[if_neg (by omega)];exact go (by unfold Dg;simp[hv1])
   · rw[if_pos (by omega),hsib,bind_some]
     by_cases hs:Jp d (Zz l) (v ^^^ 1)=true
     · rw[decide_eq_false (p:=¬ (((v ^^^ 1:Nat):Int)∈Yn d l)) (fun hn=>hn ((Lg h6 h _).2 hs))];exact go (by unfold Dg;simp[hs])
     · have hs':Jp d (Zz l) (v ^^^ 1)=false:=by simpa using hs
       rw[decide_eq_true (p:=¬ (((v ^^^ 1:Nat):Int)∈Yn d l)) (fun hm=>hs ((Lg h6 h _).1 hm))];exact no (by unfold Dg;simp[hs',hv1])
theorem Qp8 {d:Nat}{R:List Nat}(h:Dq d R){k:BitVec 8}(hne:R≠[]){v:Nat}(hv:Jp d R v=true):(Yl k d R).filter (fun y=>decide (Hz k d R y=v))=Ta k d R v:=by
 refine Qj2 ?_ ?_ fun y=>?_
 · exact List.Pairwise.filter _ Qjl
 · unfold Ta Ei
   split
   · split<;>simp
   · split
     · split
       · simp
       · split
         · simp
         · rename_i h2 h3 h4 h5
           obtain⟨v1,vl,v2⟩:=Bl h hv
           obtain⟨w1,w2,w3,K,w4,w5,w6⟩:=Qcj h 7 v v1 vl (by have:=h.1;omega)
           obtain⟨j,j1,j2,j3⟩:=Qju (k:=k) (d:=d) (.inr trivial) w4 w5 v1 (by simpa using h5)
           simp only[List.pairwise_cons,List.mem_singleton,List.not_mem_nil,false_imp_iff,implies_true,List.Pairwise.nil,and_true,forall_eq]
           have hj2:2^j≤Vc d R 7 v:=Nat.le_trans (Nat.pow_le_pow_right (by omega) (by omega)) w4
           have hl1:=Nh _ _ w4
           have hl2:=Nh _ _ hj2
           rw[←w5] at hl1
           rw[←j3] at hl2
           rcases Nat.lt_or_ge v (Wu d v (Vc d R 7 v)) with Kv|hge
           · exact Kv
           · have:=Qtj hge;omega
     · simp
 · rw[List.mem_filter,decide_eq_true_eq];exact Qp9 h hne hv y
theorem Qjm {k:BitVec 8}{d:Nat}{R:List Nat}(h6:d≤6):(Yl k d R).length≤127:=by
 have h64:=Tb h6
 have hpow:2^(d+1)=2*2^d:=by rw[Nat.pow_succ,Nat.mul_comm]
 refine Nat.le_trans (List.length_filterMap_le _ _) ?_
 simp[Um];omega
theorem Qsj {α:Type}(p q:α→Bool)(hpq:∀ a,p a=true→q a=false)(l:List α):(l.filter fun a=>p a||q a).Perm (l.filter p++l.filter q):=by
 induction l with
 | nil=>simp
 | cons a l ih=>
  cases hp:p a with
  | true=>
   have hq:=hpq a hp
   simp only[List.filter_cons,hp,hq,Bool.true_or,if_true,Bool.false_eq_true,if_false,List.cons_append]
   exact ih.cons a
  | false=>
   cases hq:q a with
   | true=>
    simp only[List.filter_cons,hp,hq,Bool.or_true,if_true,Bool.false_eq_true,if_false]
    exact(ih.cons a).trans List.perm_middle.symm
   | false=>
    simp only[List.filter_cons,hp,hq,Bool.or_false,Bool.false_eq_true,if_false]
    exact ih
theorem Qvh {k:BitVec 8}{d:Nat}{R:List Nat}(h6:d≤6){acc:List Xs}(h:acc.Perm ((Yl k d R).map Hk)):Ce Xs.Node acc=some ((Yl k d R).map Hk):=by
 have h64:=Tb h6
 have hpow:2^(d+1)=2*2^d:=by rw[Nat.pow_succ,Nat.mul_comm]
 have hasc:((Yl k d R).map Hk).Pairwise fun a b=>a.Node<b.Node:=by
  rw[List.pairwise_map]
  exact(Qjl (k:=k) (d:=d) (R:=R)).imp (fun {a b} hab=>by unfold Hk;simp only;omega)
 have hnd:(((Yl k d R).map Hk).map Xs.Node).Nodup:=by
  unfold List.Nodup
  rw[List.pairwise_map]
  exact hasc.imp (by omega)
 unfold Ce
 rw[if_pos]
 · congr 1
   have hs:=List.pairwise_mergeSort (le:=fun a b:Xs=>decide (a.Node≤b.Node)) (fun a b c h1 h2=>by simp at *;omega) (fun a b=>by simp;omega) acc
   have hp:(acc.mergeSort fun a b=>decide (a.Node≤b.Node)).Perm ((Yl k d R).map Hk):=(List.mergeSort_perm acc _).trans h
   have key:∀ (l m:List Xs),l.Perm m→(l.Pairwise fun a b=>decide (a.Node≤b.Node)=true)→(m.Pairwise fun a b=>a.Node<b.Node)→l=m:=by
    intro l m hlm hl hm
    have hlnd:(l.map Xs.Node).Nodup:=by
     have:(m.map Xs.Node).Nodup:=by unfold List.Nodup;rw[List.pairwise_map];exact hm.imp (by omega)
     exact(hlm.map _).nodup_iff.2 this
    have hl':l.Pairwise fun a b=>a.Node<b.Node:=by
     unfold List.Nodup at hlnd
     rw[List.pairwise_map] at hlnd
     exact(hl.and hlnd).imp (fun {a b} hab=>by have:=of_decide_eq_true hab.1;have:=hab.2;omega)
    clear hl hlnd
    induction m generalizing l with
    | nil=>exact hlm.eq_nil
    | cons b m ih=>
     cases l with
     | nil=>exact absurd hlm.symm.eq_nil (by simp)
     | cons a l=>
      have ha:=List.pairwise_cons.1 hl'
      have hb:=List.pairwise_cons.1 hm
      have hab:a=b:=by
       rcases List.mem_cons.1 (hlm.subset (List.mem_cons_self)) with e|e
       · exact e
       · rcases List.mem_cons.1 (hlm.symm.subset (List.mem_cons_self)) with e2|e2
         · exact e2.symm
         · have:=ha.1 b e2;have:=hb.1 a e;omega
      subst hab
      rw[ih l (List.Perm.cons_inv hlm) hb.2 ha.2]
   exact key _ _ hp hs hasc
 · refine⟨fun x hx=>?_,(h.map _).nodup_iff.2 hnd,?_⟩
   · obtain⟨y,hy,rfl⟩:=List.mem_map.1 (h.subset hx)
     have:=(Qer.1 hy).1
     unfold Hk;simp only;omega
   · rw[h.length_eq,List.length_map];have:=Qjm (k:=k) (R:=R) h6;omega
theorem Que {s:Xn}{d:Nat}{l:List Int}(hv:Py s=true)(hd:s.Depth=(d:Int))(h6:d≤6)(h:Dj d l=true)(hne:l≠[])(hl:l.length*8≤140737488355328):
 Pj (Se (Yd s,0) (Yn d l)) Rf Ze (Yn d l) []=some ((Yl s.Kind d (Zz l)).map Hk,0):=by
 have hr:=Ob h6 h
 have hne':Zz l≠[]:=by unfold Zz;simpa using hne
 refine Qn2 (fun rem acc=>(∀ k∈rem,k∈Yn d l)∧acc.Perm (((Yl s.Kind d (Zz l)).filter fun y=>decide (((Hz s.Kind d (Zz l) y:Nat):Int)∉rem)).map Hk)) ?_ ?_ Ze (Yn d l) [] ?_ ⟨fun _ hk=>hk,?_⟩
 · rintro acc ⟨_,hp⟩
   have:((Yl s.Kind d (Zz l)).filter fun y=>decide (((Hz s.Kind d (Zz l) y:Nat):Int)∉([]:List Int)))=Yl s.Kind d (Zz l):=List.filter_eq_self.2 (by simp)
   rw[this] at hp
   unfold Rf
   rw[Qvh h6 hp,bind_some]
 · rintro rem acc k hk ⟨hsub,hp⟩
   obtain⟨v,rfl,hvh⟩:=Qsr h6 h (hsub k hk)
   have hal:acc.length≤1000:=by
    rw[hp.length_eq,List.length_map]
    have:=Qjm (k:=s.Kind) (R:=Zz l) h6
    have:=List.length_filter_le (fun y=>decide (((Hz s.Kind d (Zz l) y:Nat):Int)∉rem)) (Yl s.Kind d (Zz l))
    omega
   refine⟨acc++(Ta s.Kind d (Zz l) v).map Hk,⟨fun j hj=>hsub j (List.mem_filter.1 hj).1,?_⟩,fun nx=>Qvj hv hd h6 h hvh acc hal nx⟩
   have hsp:=Qsj (fun y=>decide (((Hz s.Kind d (Zz l) y:Nat):Int)∉rem)) (fun y=>decide (Hz s.Kind d (Zz l) y=v)) (fun y hy=>by
    simp only[decide_eq_true_eq,decide_eq_false_iff_not] at hy ⊢
    rintro rfl;exact hy hk) (Yl s.Kind d (Zz l))
   rw[Qp8 hr hne' hvh] at hsp
   have hcg:((Yl s.Kind d (Zz l)).filter fun y=>decide (((Hz s.Kind d (Zz l) y:Nat):Int)∉rem.filter (· ≠ (v:Int))))=((Yl s.Kind d (Zz l)).filter fun y=>decide (((Hz s.Kind d (Zz l) y:Nat):Int)∉rem)||decide (Hz s.Kind d (Zz l) y=v)):=by
    apply List.filter_congr
    intro y _
    rw[Bool.eq_iff_iff]
    simp only[Bool.or_eq_true,decide_eq_true_eq,List.mem_filter,not_and,ne_eq,Decidable.not_not,decide_not,Bool.not_eq_true',decide_eq_false_iff_not]
    constructor
    · intro hh
      by_cases hm:((Hz s.Kind d (Zz l) y:Nat):Int)∈rem
      · have:=hh hm;right;omega
      · exact .inl hm
    · rintro(hh|hh) hm
      · exact absurd hm hh
      · rw[hh]
   rw[hcg]
   refine List.Perm.trans ?_ (hsp.map Hk).symm
   rw[List.map_append]
   exact hp.append_right _
 · have:=Qlu (d:=d) l []
   unfold Yn Ze
   simp only[List.length_nil,Nat.zero_add] at this
   omega
 · have:((Yl s.Kind d (Zz l)).filter fun y=>decide (((Hz s.Kind d (Zz l) y:Nat):Int)∉Yn d l))=[]:=by
    rw[List.filter_eq_nil_iff]
    intro y hy
    simp only[decide_eq_true_eq]
    exact fun hn=>hn ((Lg h6 h _).2 (Qu0 hr hne' hy))
   rw[this];simp
def Qeq (s:Xn)(l:List Int):List Xs × Int:=
 if Py s then(if Dj s.Depth.toNat l then((if l=[] then[⟨1,0⟩] else(Yl s.Kind s.Depth.toNat (Zz l)).map Hk),0) else([],2)) else([],30)
theorem Qu5 (s:Xn)(l:List Int)(hl:l.length*8≤140737488355328):Ct s l=some (Qeq s l):=by
 unfold Ct Qeq
 rw[Qre,bind_some]
 cases hv:Py s with
 | false=>rfl
 | true=>
  obtain⟨d,hd,h6⟩:=Qnu hv
  have ht:Yd s=⟨s.Kind,(d:Int),(Gh d:Int)⟩:=by unfold Yd;rw[hd,Int.toNat_natCast]
  simp only[if_true]
  rw[if_neg (by simp),hd,Int.toNat_natCast]
  have e0:Mc (Yd s) l=some (Dj d l):=by rw[ht];exact Qti h6 l (by omega)
  rw[e0,bind_some]
  cases hb:Dj d l with
  | false=>rfl
  | true=>
   simp only[Bool.not_true,cond_false,if_true]
   by_cases hne:l=[]
   · subst hne;rfl
   · rw[if_neg (by intro h0;apply hne;exact List.eq_nil_of_length_eq_zero (by omega)),if_neg hne]
     have:=Qlp l (Rh l (Yd s,0)) (fun j (ks:List Int)=>((j:Int),ks)) (fun u nx ks=>nx (Pk 8 (2^d+u.toNat) ks)) (fun ks=>Pj (Se (Yd s,0) ks) Rf Ze ks [])
      (fun rec j hj ks=>by
       obtain⟨u,hu,hu2⟩:=Qmf hb (List.getElem_mem hj)
       have h64:=Tb h6
       simp only[Rh]
       have hlf:Rn (Yd s) (u:Int)=some ((2^d+u:Nat):Int):=by rw[ht];exact Qtc h6 (by omega)
       rw[if_pos (by omega),Qgo hj,bind_some,hu,hlf,bind_some,Qns _ _ 8 Ze _ _ (by omega) (by unfold Ze;omega),Qo4 (by omega),Int.toNat_natCast])
      (fun rec ks=>by simp only[Rh];rw[if_neg (by omega)]) (f:=Ze) (Qgn (by omega)) ([]:List Int)
     rw[show((0:Nat):Int)=0 from rfl] at this
     rw[this,Qly (fun ks u=>Pk 8 (2^d+u.toNat) ks) _ _ (fun _ _=>True) l 0 [] (fun _ _ _ _ _ _=>rfl) (fun _ _ _ _ _=>trivial) trivial]
     exact Que hv hd h6 hb hne hl
end Go.Sx

end
section
set_option linter.unusedVariables false
set_option linter.unusedSimpArgs false
set_option maxRecDepth 100000
namespace Go.Sx
open Go
theorem Qp7:Qeq ⟨2#8,2,0,⟨0#64,0#64,0#64⟩⟩ [2]=([⟨1,6⟩],0):=by decide +kernel
theorem Qp6:Ct ⟨2#8,2,0,⟨0#64,0#64,0#64⟩⟩ [2]=some ([⟨1,6⟩],0):=(Qu5 _ _ (by decide)).trans (congrArg some Qp7)
noncomputable def Oe:W2:=Ki (72623842526232576#64,0#64) (Xr 50#8) (wd 0)
noncomputable def Ij:Qq:=match Eu (72623842526232576#64,0#64) ⟨2#8,2,0,⟨0#64,0#64,0#64⟩⟩ [⟨1,6⟩] Oe with
 | some x=>x.1
 | none=>default
noncomputable def pk5:Qo:=match Au Oe (Qo.mk 1#8 0 Ij 0#8 0#64 [] k0) with
 | some m=>Qo.mk 1#8 0 Ij 0#8 0#64 [] m
 | none=>default
theorem Qut:Option.bind (Eu (72623842526232576#64,0#64) ⟨2#8,2,0,⟨0#64,0#64,0#64⟩⟩ [⟨1,6⟩] Oe) (fun x2=>some (x2.1,x2.2))=some (Ij,0):=by kernel_rfl
theorem Qpq:My (72623842526232576#64,0#64) ⟨2#8,2,0,⟨0#64,0#64,0#64⟩⟩ [2] Oe (wd 0)=some (Ij,0):=by
 unfold My
 rw[Qp6,bind_some,if_neg (by decide)]
 exact Qut
theorem ck5:Sc ⟨2#8,2,0,⟨0#64,0#64,0#64⟩⟩=some 0:=by kernel_rfl
theorem Qvu:Tu 0=some true:=by kernel_rfl
theorem Qus:Ap (72623842526232576#64,0#64) ⟨2#8,2,0,⟨0#64,0#64,0#64⟩⟩ 0 [2]=some (Ij,0):=by
 unfold Ap
 rw[if_neg (by decide),show decide ((5:Int)≤Xr (2#8))=false from by decide]
 unfold Aq Rz
 rw[cond_false,if_pos (by decide),ck5,bind_some,if_neg (by decide),Qvu,bind_some,Bool.not_true,cond_false,bind_some]
 show Option.bind (My _ _ _ Oe _) _=_
 rw[Qpq,bind_some]
theorem Qsp:Ms (72623842526232576#64,0#64) ⟨2#8,2,0,⟨0#64,0#64,0#64⟩⟩ 0 [2]=some (pk5,0):=by
 unfold Ms
 rw[Qus,bind_some,if_neg (by decide)]
 kernel_rfl
theorem Qob:Qcm 0 pk5=some true:=by kernel_rfl
theorem Qoa:Pf false=some true:=by
 unfold Pf Wx
 rw[cond_false,bind_some,Qsp,bind_some]
 exact Qob
theorem Qo9:It=some true:=by
 have h1:It=Pf false:=by kernel_rfl
 rw[h1,Qoa]
end Go.Sx

end
section
set_option linter.unusedVariables false
set_option linter.unusedSimpArgs false
set_option maxRecDepth 100000
namespace Go.Sx
open Go
theorem Qt7:Qcl=some true:=by
 unfold Qcl
 rw[Qo9]
 kernel_rfl
end Go.Sx

end
