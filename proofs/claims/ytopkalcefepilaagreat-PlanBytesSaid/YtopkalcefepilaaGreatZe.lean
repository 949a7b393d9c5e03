/- Several texts in one: BitL Srt SrtSub RxM Pl Tr Ts Fx Mb Lb Tk Fy SecN Nm Vb Vp Kya Tm. -/
import Derived.Test.YtopkalcefepilaaGreatRows
import Derived.Test.YtopkalcefepilaaGreatZd
import Derived.KernelRfl
import Derived.Test.YtopkalcefepilaaGreatZb
import Derived.Test.YtopkalcefepilaaGreatZc
import Derived.Shelf.SlSortCmp.NoneTotal
import Derived.Shelf.SlGeneric
import Derived.Test.YtopkalcefepilaaGreatProg
set_option linter.unusedVariables false
set_option linter.unusedSimpArgs false
section
set_option linter.unusedVariables false
set_option linter.unusedSimpArgs false
namespace Go.Proofs.YtopkalcefepilaaGreat
open Go Go.RowKit Go.Sx
theorem Gm:CV Tryz.prog 5 3 .i64:=fun _ _ _=>by kernel_rfl
theorem Qys:En Tryz.prog 172:=fun _ _=>by kernel_rfl
theorem Xc5 (n k:Nat)(h:2^k≤n):Nat.log2 n=Nat.log2 (n / 2^k)+k:=by
 induction k generalizing n with
 | zero=>simp
 | succ k ih=>
  have h2:2^k≤n / 2:=by rw[Nat.le_div_iff_mul_le (by omega)];rw[Nat.pow_succ] at h;omega
  have h1:2≤n:=by have:0<2^k:=Nat.two_pow_pos k;rw[Nat.pow_succ] at h;omega
  rw[Nat.log2_def,if_pos h1,ih (n / 2) h2,Nat.div_div_eq_div_mul,Nat.pow_succ,Nat.mul_comm 2];omega
theorem Gw (a:Int)(k m:Nat)(hm:2^k=m)(h:(m:Int)≤a):lg a=lg (a / (m:Int))+k:=by
 obtain⟨n,rfl⟩:=Int.eq_ofNat_of_zero_le (show 0≤a by omega)
 subst hm
 have hp:0<2^k:=Nat.two_pow_pos k
 have h':2^k≤n:=by omega
 have e:((n:Int) / ((2^k:Nat):Int)).toNat=n / 2^k:=by rw[←Int.natCast_ediv];rfl
 have h1:¬ (n / 2^k=0):=by rw[Nat.div_eq_zero_iff];omega
 unfold lg
 rw[e,Int.toNat_natCast,if_neg h1,if_neg (by omega),Xc5 n k h']
 omega
def Lp:ByteArray:=⟨#[0,1,2,2,3,3,3,3,4,4,4,4,4,4,4,4,5,5,5,5,5,5,5,5,5,5,5,5,5,5,5,5,6,6,6,6,6,6,6,6,6,6,6,6,6,6,6,6,6,6,6,6,6,6,6,6,6,6,6,6,6,6,6,6,7,7,7,7,7,7,7,7,7,7,7,7,7,7,7,7,7,7,7,7,7,7,7,7,7,7,7,7,7,7,7,7,7,7,7,7,7,7,7,7,7,7,7,7,7,7,7,7,7,7,7,7,7,7,7,7,7,7,7,7,7,7,7,7,8,8,8,8,8,8,8,8,8,8,8,8,8,8,8,8,8,8,8,8,8,8,8,8,8,8,8,8,8,8,8,8,8,8,8,8,8,8,8,8,8,8,8,8,8,8,8,8,8,8,8,8,8,8,8,8,8,8,8,8,8,8,8,8,8,8,8,8,8,8,8,8,8,8,8,8,8,8,8,8,8,8,8,8,8,8,8,8,8,8,8,8,8,8,8,8,8,8,8,8,8,8,8,8,8,8,8,8,8,8,8,8,8,8,8,8,8,8,8,8,8,8,8,8,8,8,8,8]⟩
theorem Xbz:∀ k:Fin 256,Lp[k.1]? = some (UInt8.ofNat (lg (k.1:Int)).toNat)∧lg (k.1:Int)=((UInt8.ofNat (lg (k.1:Int)).toNat).toNat:Int):=by decide +kernel
theorem Ho {a:Int}(h0:0≤a)(h1:a<256):Lp[a.toNat]? = some (UInt8.ofNat (lg a).toNat)∧lg a=((UInt8.ofNat (lg a).toNat).toNat:Int):=by
 obtain⟨n,rfl⟩:=Int.eq_ofNat_of_zero_le h0
 exact Xbz ⟨n,by omega⟩
theorem Cb (a:Int) : -9223372036854775808≤lg a:=by unfold lg;split<;>omega
theorem Ca {a:Int}(h0:0≤a)(h1:a<256):lg a≤9223372036854775807:=by have:=(Ho h0 h1).2;have:=(UInt8.ofNat (lg a).toNat).toNat_lt;omega
theorem Bw {b:Int}(a:Int)(h:0≤b) : -9223372036854775808≤b+lg a:=by unfold lg;split<;>omega
theorem Bz {a b:Int}(h0:0≤a)(h1:a<256)(hb:b≤1000):b+lg a≤9223372036854775807:=by have:=(Ho h0 h1).2;have:=(UInt8.ofNat (lg a).toNat).toNat_lt;omega
set_option maxRecDepth 20000 in
set_option maxHeartbeats 1000000 in
theorem Xby (a:Int)(ha1:0≤a)(ha2:a<18446744073709551616)(w:World):
 Calls Tryz.prog 172 [.int .u64 a].toArray w fun e w'=>∃ v,e=.returned v∧(v=.int .i64 (lg a)∧Gr w w'):=by
 refine Xi (R:=fun v w'=>v=.int .i64 (lg a)∧Gr w w') 25 Tryz.func172 rfl rfl rfl ?_
 refine Qe ?_
 refine Zg [(0,0)] rfl rfl rfl ?_
 refine Qu rfl rfl rfl (Kt rfl) ?_
 refine Qa ?_
 refine Qe ?_
 refine Qe ?_
 refine Zg [(0,0),(1,0)] rfl rfl rfl ?_
 refine Qu rfl rfl rfl (Qt rfl) ?_
 refine Qu rfl rfl rfl (Wk rfl rfl) ?_
 refine Qa ?_
 refine Pq rfl (fun h1=>?_) (fun h1=>?_)
 · -- h1 True
   replace h1:=of_decide_eq_true h1
   refine Qe ?_
   refine Zg [(0,0),(1,0),(2,0)] rfl rfl rfl ?_
   refine Qu rfl rfl rfl (Qt rfl) ?_
   refine Qu rfl rfl rfl (Ap (n:=32) (m:=4294967296) rfl rfl rfl (by decide)) ?_
   refine Qu rfl rfl rfl (Kt rfl) ?_
   refine Qa ?_
   refine Zg [(0,0)] rfl rfl rfl ?_
   refine Qu rfl rfl rfl (Kt rfl) ?_
   refine Qa ?_
   refine Qe ?_
   refine Qe ?_
   refine Zg [(0,0),(1,0)] rfl rfl rfl ?_
   refine Qu rfl rfl rfl (Qt rfl) ?_
   refine Qu rfl rfl rfl (Wk rfl rfl) ?_
   refine Qa ?_
   refine Pq rfl (fun h2=>?_) (fun h2=>?_)
   · -- h2 True
     replace h2:=of_decide_eq_true h2
     refine Qe ?_
     refine Zg [(0,0),(1,0),(2,0)] rfl rfl rfl ?_
     refine Qu rfl rfl rfl (Qt rfl) ?_
     refine Qu rfl rfl rfl (Ap (n:=16) (m:=65536) rfl rfl rfl (by decide)) ?_
     refine Qu rfl rfl rfl (Kt rfl) ?_
     refine Qa ?_
     refine Zg [(0,0),(1,0),(2,0)] rfl rfl rfl ?_
     refine Qu rfl rfl rfl (Qt rfl) ?_
     refine Qu rfl rfl rfl (Hk rfl rfl (by omega) (by omega)) ?_
     refine Qu rfl rfl rfl (Kt rfl) ?_
     refine Qa ?_
     refine Qe ?_
     refine Qe ?_
     refine Zg [(0,0),(1,0)] rfl rfl rfl ?_
     refine Qu rfl rfl rfl (Qt rfl) ?_
     refine Qu rfl rfl rfl (Wk rfl rfl) ?_
     refine Qa ?_
     refine Pq rfl (fun h3=>?_) (fun h3=>?_)
     · -- h3 True
       replace h3:=of_decide_eq_true h3
       refine Qe ?_
       refine Zg [(0,0),(1,0),(2,0)] rfl rfl rfl ?_
       refine Qu rfl rfl rfl (Qt rfl) ?_
       refine Qu rfl rfl rfl (Ap (n:=8) (m:=256) rfl rfl rfl (by decide)) ?_
       refine Qu rfl rfl rfl (Kt rfl) ?_
       refine Qa ?_
       refine Zg [(0,0),(1,0),(2,0)] rfl rfl rfl ?_
       refine Qu rfl rfl rfl (Qt rfl) ?_
       refine Qu rfl rfl rfl (Hk rfl rfl (by omega) (by omega)) ?_
       refine Qu rfl rfl rfl (Kt rfl) ?_
       refine Qa ?_
       refine Qe ?_
       refine Zg [(0,0),(1,0),(2,0),(3,0),(4,0),(5,0),(6,0)] rfl rfl rfl ?_
       refine Qu rfl rfl rfl (Qt rfl) ?_
       refine Qu rfl rfl rfl (Qt rfl) ?_
       refine Qu rfl rfl rfl (Cs Gl rfl (by omega) (by omega)) ?_
       refine Qu rfl rfl rfl (Kb (Ct Tryz.underlying9 rfl rfl (by omega) (show Lp[_]? = _ from(Ho (by omega) (by omega)).1)) (congrArg (Value.int .u8) (Ho (by omega) (by omega)).2.symm)) ?_
       refine Qu rfl rfl rfl (Rm Gm rfl (Cb _) (Ca (by omega) (by omega))) ?_
       refine Qu rfl rfl rfl (Hk rfl rfl (Bw _ (by decide)) (Bz (by omega) (by omega) (by decide))) ?_
       refine Qu rfl rfl rfl (Kt rfl) ?_
       refine Qa ?_
       refine Qq ?_
       refine⟨_,_,rfl,Ny rfl rfl,?_⟩
       refine⟨congrArg (Value.int .i64) ?_,(Gr.refl w)⟩
       have e0:lg (a:Int)=lg ((a:Int) / 4294967296)+32:=Gw (a:Int) 32 4294967296 (by decide) (by omega)
       have e1:lg ((a:Int) / 4294967296)=lg (((a:Int) / 4294967296) / 65536)+16:=Gw ((a:Int) / 4294967296) 16 65536 (by decide) (by omega)
       have e2:lg (((a:Int) / 4294967296) / 65536)=lg ((((a:Int) / 4294967296) / 65536) / 256)+8:=Gw (((a:Int) / 4294967296) / 65536) 8 256 (by decide) (by omega)
       omega
     · -- h3 False
       replace h3:=of_decide_eq_false h3
       refine Jn ?_
       refine Xl ?_
       refine Qe ?_
       refine Zg [(0,0),(1,0),(2,0),(3,0),(4,0),(5,0),(6,0)] rfl rfl rfl ?_
       refine Qu rfl rfl rfl (Qt rfl) ?_
       refine Qu rfl rfl rfl (Qt rfl) ?_
       refine Qu rfl rfl rfl (Cs Gl rfl (by omega) (by omega)) ?_
       refine Qu rfl rfl rfl (Kb (Ct Tryz.underlying9 rfl rfl (by omega) (show Lp[_]? = _ from(Ho (by omega) (by omega)).1)) (congrArg (Value.int .u8) (Ho (by omega) (by omega)).2.symm)) ?_
       refine Qu rfl rfl rfl (Rm Gm rfl (Cb _) (Ca (by omega) (by omega))) ?_
       refine Qu rfl rfl rfl (Hk rfl rfl (Bw _ (by decide)) (Bz (by omega) (by omega) (by decide))) ?_
       refine Qu rfl rfl rfl (Kt rfl) ?_
       refine Qa ?_
       refine Qq ?_
       refine⟨_,_,rfl,Ny rfl rfl,?_⟩
       refine⟨congrArg (Value.int .i64) ?_,(Gr.refl w)⟩
       have e0:lg (a:Int)=lg ((a:Int) / 4294967296)+32:=Gw (a:Int) 32 4294967296 (by decide) (by omega)
       have e1:lg ((a:Int) / 4294967296)=lg (((a:Int) / 4294967296) / 65536)+16:=Gw ((a:Int) / 4294967296) 16 65536 (by decide) (by omega)
       omega
   · -- h2 False
     replace h2:=of_decide_eq_false h2
     refine Jn ?_
     refine Xl ?_
     refine Qe ?_
     refine Qe ?_
     refine Zg [(0,0),(1,0)] rfl rfl rfl ?_
     refine Qu rfl rfl rfl (Qt rfl) ?_
     refine Qu rfl rfl rfl (Wk rfl rfl) ?_
     refine Qa ?_
     refine Pq rfl (fun h4=>?_) (fun h4=>?_)
     · -- h4 True
       replace h4:=of_decide_eq_true h4
       refine Qe ?_
       refine Zg [(0,0),(1,0),(2,0)] rfl rfl rfl ?_
       refine Qu rfl rfl rfl (Qt rfl) ?_
       refine Qu rfl rfl rfl (Ap (n:=8) (m:=256) rfl rfl rfl (by decide)) ?_
       refine Qu rfl rfl rfl (Kt rfl) ?_
       refine Qa ?_
       refine Zg [(0,0),(1,0),(2,0)] rfl rfl rfl ?_
       refine Qu rfl rfl rfl (Qt rfl) ?_
       refine Qu rfl rfl rfl (Hk rfl rfl (by omega) (by omega)) ?_
       refine Qu rfl rfl rfl (Kt rfl) ?_
       refine Qa ?_
       refine Qe ?_
       refine Zg [(0,0),(1,0),(2,0),(3,0),(4,0),(5,0),(6,0)] rfl rfl rfl ?_
       refine Qu rfl rfl rfl (Qt rfl) ?_
       refine Qu rfl rfl rfl (Qt rfl) ?_
       refine Qu rfl rfl rfl (Cs Gl rfl (by omega) (by omega)) ?_
       refine Qu rfl rfl rfl (Kb (Ct Tryz.underlying9 rfl rfl (by omega) (show Lp[_]? = _ from(Ho (by omega) (by omega)).1)) (congrArg (Value.int .u8) (Ho (by omega) (by omega)).2.symm)) ?_
       refine Qu rfl rfl rfl (Rm Gm rfl (Cb _) (Ca (by omega) (by omega))) ?_
       refine Qu rfl rfl rfl (Hk rfl rfl (Bw _ (by decide)) (Bz (by omega) (by omega) (by decide))) ?_
       refine Qu rfl rfl rfl (Kt rfl) ?_
       refine Qa ?_
       refine Qq ?_
       refine⟨_,_,rfl,Ny rfl rfl,?_⟩
       refine⟨congrArg (Value.int .i64) ?_,(Gr.refl w)⟩
       have e0:lg (a:Int)=lg ((a:Int) / 4294967296)+32:=Gw (a:Int) 32 4294967296 (by decide) (by omega)
       have e1:lg ((a:Int) / 4294967296)=lg (((a:Int) / 4294967296) / 256)+8:=Gw ((a:Int) / 4294967296) 8 256 (by decide) (by omega)
       omega
     · -- h4 False
       replace h4:=of_decide_eq_false h4
       refine Jn ?_
       refine Xl ?_
       refine Qe ?_
       refine Zg [(0,0),(1,0),(2,0),(3,0),(4,0),(5,0),(6,0)] rfl rfl rfl ?_
       refine Qu rfl rfl rfl (Qt rfl) ?_
       refine Qu rfl rfl rfl (Qt rfl) ?_
       refine Qu rfl rfl rfl (Cs Gl rfl (by omega) (by omega)) ?_
       refine Qu rfl rfl rfl (Kb (Ct Tryz.underlying9 rfl rfl (by omega) (show Lp[_]? = _ from(Ho (by omega) (by omega)).1)) (congrArg (Value.int .u8) (Ho (by omega) (by omega)).2.symm)) ?_
       refine Qu rfl rfl rfl (Rm Gm rfl (Cb _) (Ca (by omega) (by omega))) ?_
       refine Qu rfl rfl rfl (Hk rfl rfl (Bw _ (by decide)) (Bz (by omega) (by omega) (by decide))) ?_
       refine Qu rfl rfl rfl (Kt rfl) ?_
       refine Qa ?_
       refine Qq ?_
       refine⟨_,_,rfl,Ny rfl rfl,?_⟩
       refine⟨congrArg (Value.int .i64) ?_,(Gr.refl w)⟩
       have e0:lg (a:Int)=lg ((a:Int) / 4294967296)+32:=Gw (a:Int) 32 4294967296 (by decide) (by omega)
       omega
 · -- h1 False
   replace h1:=of_decide_eq_false h1
   refine Jn ?_
   refine Xl ?_
   refine Qe ?_
   refine Qe ?_
   refine Zg [(0,0),(1,0)] rfl rfl rfl ?_
   refine Qu rfl rfl rfl (Qt rfl) ?_
   refine Qu rfl rfl rfl (Wk rfl rfl) ?_
   refine Qa ?_
   refine Pq rfl (fun h5=>?_) (fun h5=>?_)
   · -- h5 True
     replace h5:=of_decide_eq_true h5
     refine Qe ?_
     refine Zg [(0,0),(1,0),(2,0)] rfl rfl rfl ?_
     refine Qu rfl rfl rfl (Qt rfl) ?_
     refine Qu rfl rfl rfl (Ap (n:=16) (m:=65536) rfl rfl rfl (by decide)) ?_
     refine Qu rfl rfl rfl (Kt rfl) ?_
     refine Qa ?_
     refine Zg [(0,0),(1,0),(2,0)] rfl rfl rfl ?_
     refine Qu rfl rfl rfl (Qt rfl) ?_
     refine Qu rfl rfl rfl (Hk rfl rfl (by omega) (by omega)) ?_
     refine Qu rfl rfl rfl (Kt rfl) ?_
     refine Qa ?_
     refine Qe ?_
     refine Qe ?_
     refine Zg [(0,0),(1,0)] rfl rfl rfl ?_
     refine Qu rfl rfl rfl (Qt rfl) ?_
     refine Qu rfl rfl rfl (Wk rfl rfl) ?_
     refine Qa ?_
     refine Pq rfl (fun h6=>?_) (fun h6=>?_)
     · -- h6 True
       replace h6:=of_decide_eq_true h6
       refine Qe ?_
       refine Zg [(0,0),(1,0),(2,0)] rfl rfl rfl ?_
       refine Qu rfl rfl rfl (Qt rfl) ?_
       refine Qu rfl rfl rfl (Ap (n:=8) (m:=256) rfl rfl rfl (by decide)) ?_
       refine Qu rfl rfl rfl (Kt rfl) ?_
       refine Qa ?_
       refine Zg [(0,0),(1,0),(2,0)] rfl rfl rfl ?_
       refine Qu rfl rfl rfl (Qt rfl) ?_
       refine Qu rfl rfl rfl (Hk rfl rfl (by omega) (by omega)) ?_
       refine Qu rfl rfl rfl (Kt rfl) ?_
       refine Qa ?_
       refine Qe ?_
       refine Zg [(0,0),(1,0),(2,0),(3,0),(4,0),(5,0),(6,0)] rfl rfl rfl ?_
       refine Qu rfl rfl rfl (Qt rfl) ?_
       refine Qu rfl rfl rfl (Qt rfl) ?_
       refine Qu rfl rfl rfl (Cs Gl rfl (by omega) (by omega)) ?_
       refine Qu rfl rfl rfl (Kb (Ct Tryz.underlying9 rfl rfl (by omega) (show Lp[_]? = _ from(Ho (by omega) (by omega)).1)) (congrArg (Value.int .u8) (Ho (by omega) (by omega)).2.symm)) ?_
       refine Qu rfl rfl rfl (Rm Gm rfl (Cb _) (Ca (by omega) (by omega))) ?_
       refine Qu rfl rfl rfl (Hk rfl rfl (Bw _ (by decide)) (Bz (by omega) (by omega) (by decide))) ?_
       refine Qu rfl rfl rfl (Kt rfl) ?_
       refine Qa ?_
       refine Qq ?_
       refine⟨_,_,rfl,Ny rfl rfl,?_⟩
       refine⟨congrArg (Value.int .i64) ?_,(Gr.refl w)⟩
       have e0:lg (a:Int)=lg ((a:Int) / 65536)+16:=Gw (a:Int) 16 65536 (by decide) (by omega)
       have e1:lg ((a:Int) / 65536)=lg (((a:Int) / 65536) / 256)+8:=Gw ((a:Int) / 65536) 8 256 (by decide) (by omega)
       omega
     · -- h6 False
       replace h6:=of_decide_eq_false h6
       refine Jn ?_
       refine Xl ?_
       refine Qe ?_
       refine Zg [(0,0),(1,0),(2,0),(3,0),(4,0),(5,0),(6,0)] rfl rfl rfl ?_
       refine Qu rfl rfl rfl (Qt rfl) ?_
       refine Qu rfl rfl rfl (Qt rfl) ?_
       refine Qu rfl rfl rfl (Cs Gl rfl (by omega) (by omega)) ?_
       refine Qu rfl rfl rfl (Kb (Ct Tryz.underlying9 rfl rfl (by omega) (show Lp[_]? = _ from(Ho (by omega) (by omega)).1)) (congrArg (Value.int .u8) (Ho (by omega) (by omega)).2.symm)) ?_
       refine Qu rfl rfl rfl (Rm Gm rfl (Cb _) (Ca (by omega) (by omega))) ?_
       refine Qu rfl rfl rfl (Hk rfl rfl (Bw _ (by decide)) (Bz (by omega) (by omega) (by decide))) ?_
       refine Qu rfl rfl rfl (Kt rfl) ?_
       refine Qa ?_
       refine Qq ?_
       refine⟨_,_,rfl,Ny rfl rfl,?_⟩
       refine⟨congrArg (Value.int .i64) ?_,(Gr.refl w)⟩
       have e0:lg (a:Int)=lg ((a:Int) / 65536)+16:=Gw (a:Int) 16 65536 (by decide) (by omega)
       omega
   · -- h5 False
     replace h5:=of_decide_eq_false h5
     refine Jn ?_
     refine Xl ?_
     refine Qe ?_
     refine Qe ?_
     refine Zg [(0,0),(1,0)] rfl rfl rfl ?_
     refine Qu rfl rfl rfl (Qt rfl) ?_
     refine Qu rfl rfl rfl (Wk rfl rfl) ?_
     refine Qa ?_
     refine Pq rfl (fun h7=>?_) (fun h7=>?_)
     · -- h7 True
       replace h7:=of_decide_eq_true h7
       refine Qe ?_
       refine Zg [(0,0),(1,0),(2,0)] rfl rfl rfl ?_
       refine Qu rfl rfl rfl (Qt rfl) ?_
       refine Qu rfl rfl rfl (Ap (n:=8) (m:=256) rfl rfl rfl (by decide)) ?_
       refine Qu rfl rfl rfl (Kt rfl) ?_
       refine Qa ?_
       refine Zg [(0,0),(1,0),(2,0)] rfl rfl rfl ?_
       refine Qu rfl rfl rfl (Qt rfl) ?_
       refine Qu rfl rfl rfl (Hk rfl rfl (by omega) (by omega)) ?_
       refine Qu rfl rfl rfl (Kt rfl) ?_
       refine Qa ?_
       refine Qe ?_
       refine Zg [(0,0),(1,0),(2,0),(3,0),(4,0),(5,0),(6,0)] rfl rfl rfl ?_
       refine Qu rfl rfl rfl (Qt rfl) ?_
       refine Qu rfl rfl rfl (Qt rfl) ?_
       refine Qu rfl rfl rfl (Cs Gl rfl (by omega) (by omega)) ?_
       refine Qu rfl rfl rfl (Kb (Ct Tryz.underlying9 rfl rfl (by omega) (show Lp[_]? = _ from(Ho (by omega) (by omega)).1)) (congrArg (Value.int .u8) (Ho (by omega) (by omega)).2.symm)) ?_
       refine Qu rfl rfl rfl (Rm Gm rfl (Cb _) (Ca (by omega) (by omega))) ?_
       refine Qu rfl rfl rfl (Hk rfl rfl (Bw _ (by decide)) (Bz (by omega) (by omega) (by decide))) ?_
       refine Qu rfl rfl rfl (Kt rfl) ?_
       refine Qa ?_
       refine Qq ?_
       refine⟨_,_,rfl,Ny rfl rfl,?_⟩
       refine⟨congrArg (Value.int .i64) ?_,(Gr.refl w)⟩
       have e0:lg (a:Int)=lg ((a:Int) / 256)+8:=Gw (a:Int) 8 256 (by decide) (by omega)
       omega
     · -- h7 False
       replace h7:=of_decide_eq_false h7
       refine Jn ?_
       refine Xl ?_
       refine Qe ?_
       refine Zg [(0,0),(1,0),(2,0),(3,0),(4,0),(5,0),(6,0)] rfl rfl rfl ?_
       refine Qu rfl rfl rfl (Qt rfl) ?_
       refine Qu rfl rfl rfl (Qt rfl) ?_
       refine Qu rfl rfl rfl (Cs Gl rfl (by omega) (by omega)) ?_
       refine Qu rfl rfl rfl (Kb (Ct Tryz.underlying9 rfl rfl (by omega) (show Lp[_]? = _ from(Ho (by omega) (by omega)).1)) (congrArg (Value.int .u8) (Ho (by omega) (by omega)).2.symm)) ?_
       refine Qu rfl rfl rfl (Rm Gm rfl (Cb _) (Ca (by omega) (by omega))) ?_
       refine Qu rfl rfl rfl (Hk rfl rfl (Bw _ (by decide)) (Bz (by omega) (by omega) (by decide))) ?_
       refine Qu rfl rfl rfl (Kt rfl) ?_
       refine Qa ?_
       refine Qq ?_
       refine⟨_,_,rfl,Ny rfl rfl,?_⟩
       refine⟨congrArg (Value.int .i64) ?_,(Gr.refl w)⟩
       omega
set_option maxHeartbeats 1000000 in
theorem Xc0 (a:Int)(ha1:0≤a)(ha2:a<18446744073709551616)(w:World):
 Calls Tryz.prog 131 [.int .u64 a].toArray w fun e w'=>∃ v,e=.returned v∧(v=.int .i64 (lg a)∧Gr w w'):=by
 refine Xi (R:=fun v w'=>v=.int .i64 (lg a)∧Gr w w') 8 Tryz.func131 rfl rfl rfl ?_
 refine Qe ?_
 refine Zg [(0,0)] rfl rfl rfl ?_
 refine Qu rfl rfl rfl (Kt rfl) ?_
 refine Qa ?_
 refine Qe ?_
 refine Ty rfl ?_
 refine Jn ?_
 refine Xl ?_
 refine Qe ?_
 refine Zg [(0,0),(1,0),(2,0)] rfl rfl rfl ?_
 refine Qu rfl rfl rfl (Qt rfl) ?_
 refine Km rfl rfl rfl (Tw Qys rfl (Xby _ (by omega) (by omega) _)) ?_
 rintro _ w1 ⟨rfl,Gw1⟩
 have z1:=Gw1.size
 refine Qu rfl rfl rfl (Kt rfl) ?_
 refine Qa ?_
 refine Qq ?_
 have X2:Gr w w1:=(Gr.trans (Gr.refl w) Gw1)
 refine⟨_,_,rfl,Ny rfl rfl,?_⟩
 exact⟨rfl,X2⟩
end Go.Proofs.YtopkalcefepilaaGreat

end
section
set_option linter.unusedVariables false
set_option linter.unusedSimpArgs false
namespace Go.Sx
open Go Go.RowKit Go.Proofs Go.Sort Go.Shelf
def Ws' (k:Nat)(xs:List (List Value)):Prop:=∀ y∈xs,y.length=k
theorem Xfu {β:Type}[Inhabited β](enc:β→List Value)(k:Nat)(hk:1≤k)(hc:∀ b,(enc b).length=k)(w:World)(g n:Nat)(d:Array β)(os:Array Obj)(e:TypeId)(cur:Array Value)(hb:w.heap[g]? = some (.cells cur e (0,0)))(hl:d.size*k≤cur.size):
 ∃ cur':Array Value,(sortWorldK enc k w g 0 n d os).heap[g]? = some (.cells cur' e (0,0))∧cur'.size=cur.size∧cur'.toList.take (d.size*k)=(d.toList.map enc).flatten∧Kz [(1,g)] w (sortWorldK enc k w g 0 n d os):=by
 have Jc:g<w.heap.size:=(Array.getElem?_eq_some_iff.1 hb).1
 have hh:(sortWorldK enc k w g 0 n d os).heap=(w.heap.modify g (onCells (putCells id 0 (flatK enc k d))))++os:=rfl
 refine⟨putCells id 0 (flatK enc k d) cur,?_,by simp[putCells],?_,?_⟩
 · rw[hh,Array.getElem?_append_left (by simpa using Jc),Array.getElem?_modify,if_pos rfl,hb];rfl
 · apply List.ext_getElem?
   intro t
   rw[List.getElem?_take]
   have hfl:((d.toList.map enc).flatten).length=d.size*k:=by
    have:Ws' k (d.toList.map enc):=by
     intro y hy;obtain⟨b,_,rfl⟩:=List.mem_map.1 hy;exact hc b
    have h2:∀ (xs:List (List Value)),Ws' k xs→xs.flatten.length=xs.length*k:=by
     intro xs
     induction xs with
     | nil=>intro _;simp
     | cons a xs ih=>intro h;rw[List.flatten_cons,List.length_append,ih (fun y hy=>h y (List.mem_cons_of_mem _ hy)),h a (by simp),List.length_cons,Nat.add_mul];omega
    rw[h2 _ this];simp
   by_cases ht:t<d.size*k
   · rw[if_pos ht]
     have htc:t<cur.size:=by omega
     have h3:(putCells id 0 (flatK enc k d) cur).toList[t]? = some ((flatK enc k d)[t]!):=by
      simp only[putCells,Array.getElem?_toList,Array.getElem?_mapIdx,Array.getElem?_eq_getElem htc,Option.map_some,Nat.zero_le,true_and,Nat.zero_add,size_flatK,ht,if_true,Nat.sub_zero,id]
     rw[h3,get_flatK enc k d t ht]
     have hq:t / k<d.size:=(Nat.div_lt_iff_lt_mul (by omega)).2 ht
     have hm:t%k<k:=Nat.mod_lt _ (by omega)
     have hgen:∀ (xs:List (List Value)),Ws' k xs→∀ i j c,xs[i]? = some c→j<k→xs.flatten[i*k+j]? = c[j]? := by
      intro xs
      induction xs with
      | nil=>intro _ i j c h;simp at h
      | cons a xs ih=>
       intro hw i j c h hj
       have ha:=hw a (by simp)
       rw[List.flatten_cons]
       cases i with
       | zero=>simp at h;subst h;rw[Nat.zero_mul,Nat.zero_add,List.getElem?_append_left (by omega)]
       | succ i=>
        rw[List.getElem?_append_right (by rw[ha,Nat.add_mul];omega),show(i+1)*k+j-a.length=i*k+j from by rw[ha,Nat.add_mul];omega]
        exact ih (fun y hy=>hw y (List.mem_cons_of_mem _ hy)) i j c (by simpa using h) hj
     have h4:=hgen (d.toList.map enc) (fun y hy=>by obtain⟨b,_,rfl⟩:=List.mem_map.1 hy;exact hc b) (t / k) (t%k) (enc d[t / k]!) (by simp[hq]) hm
     have hdm:t / k*k+t%k=t:=by rw[Nat.mul_comm];exact Nat.div_add_mod t k
     rw[hdm] at h4
     rw[h4]
     have h5:t%k<(enc d[t / k]!).length:=by rw[hc];exact hm
     simp[h5]
   · rw[if_neg ht,List.getElem?_eq_none (by omega)]
 · refine⟨rfl,rfl,rfl,by rw[hh];simp,fun i hi hn=>?_⟩
   have hne:g≠i:=by
    simp only[Zh] at hn
    rcases hn.1 with h|h
    · omega
    · exact fun e=>h e.symm
   rw[hh,Array.getElem?_append_left (by simpa using hi),Array.getElem?_modify,if_neg hne]
section
variable {P:Program} {ρ:Ren}
theorem Xfv {β:Type}(c:β→List Value)(k:Nat)(hc:∀ b,(c b).length=k)(h1:∀ b,Zj (c b)=true)(hk:1≤k)(key:β→Int)(cf:Nat)(L:SlLaysF0.n6 P ρ)(aE:∀ w,(isAgg (ρ.t 24)).run P w=.ok true w)(zE:∀ w,(Go.sizeOf (ρ.t 24)).run P w=.ok k w)
 (eg:∀ args w,(callFunc cf args).run P w=.ok (.enter cf args) w)
 (hcmp:∀ (x y:β) (W:World),0≤key x∧key x<4611686018427387904→0≤key y∧key y<4611686018427387904→Calls P cf #[.agg (c x).toArray,.agg (c y).toArray] W fun e w'=>e=.returned (.int .i64 (key x-key y))∧∃ q os',w'=grow (W.drewN q) os')
 {l m:List β} (hm:Ak key l=some m) (w:World) (z g:Nat) (e:TypeId) (v:Value) (h:Qg w z g e k v (l.map c)):
 Calls P (ρ.f 6) #[v,.func (.func cf) #[] #[]] w fun e' w'=>∃ v',e'=.returned v'∧(Qg w' z g e k v (m.map c)∧Kz [(z,g)] w w'):=by
 obtain⟨rfl,hbd,hnd,hlen⟩:=Xfy hm
 rcases h.2 with⟨hz,rfl,h0⟩|⟨hz,cap,cur,rfl,hb,hn,hcap,hsz,htk⟩
 · have hl0:l=[]:=by simpa using h0
   subst hl0
   refine(AnyF.slices_SortFunc_none L none 0 (.func (.func cf) #[] #[]) w).mono ?_
   rintro e' w' ⟨rfl,rfl⟩
   exact⟨_,rfl,by simpa using h,Kz.refl _ _⟩
 · by_cases hl0:l=[]
   · subst hl0
     have:(([]:List β).map c).length=0:=rfl
     rw[this]
     refine(AnyF.slices_SortFunc_none L (some ⟨g,0,none⟩) cap (.func (.func cf) #[] #[]) w).mono ?_
     rintro e' w' ⟨rfl,rfl⟩
     exact⟨_,rfl,by simpa using h,Kz.refl _ _⟩
   · obtain⟨b0,hb0⟩:=List.exists_mem_of_ne_nil l hl0
     let A:={ x:β // x∈l }
     letI:Inhabited A:=⟨⟨b0,hb0⟩⟩
     let enc:A→List Value:=fun x=>c x.1
     let d:Array A:=l.attach.toArray
     let cfn:A→A→Int:=fun x y=>key x.1-key y.1
     have hds:d.size=l.length:=by show l.attach.toArray.size=l.length;simp
     have Jc:∀ x y:A,ltOf cfn x y=decide (key x.1<key y.1):=fun x y=>by
      unfold ltOf;apply decide_eq_decide.2;show key x.1-key y.1<0↔_;omega
     have hO:SWO (ltOf cfn):=⟨fun x=>by rw[Jc];simp,fun x y z h1 h2=>by rw[Jc] at *;simp at *;omega,fun x y z h1 h2=>by rw[Jc] at *;simp at *;omega⟩
     have hT:∀ x y:A,ltOf cfn x y=false→ltOf cfn y x=false→x=y:=fun x y h1 h2=>by
      rw[Jc] at h1 h2
      simp at h1 h2
      have he:key x.1=key y.1:=by omega
      apply Subtype.ext
      obtain⟨i,hi,ei⟩:=List.mem_iff_getElem.1 x.2
      obtain⟨j,hj,ej⟩:=List.mem_iff_getElem.1 y.2
      have hij:i=j:=(List.getElem_inj (h₀:=by simpa using hi) (h₁:=by simpa using hj) hnd).1 (by rw[List.getElem_map,List.getElem_map,ei,ej];exact he)
      subst hij;rw[←ei,←ej]
     have hmk:d.toList.map enc=l.map c:=by
      show l.attach.toArray.toList.map (fun x:A=>c x.1)=l.map c
      show List.map (fun x:{ x:β // x∈l }=>c x.1) l.attach=l.map c
      exact List.attach_map_val
     rw[List.length_map] at hn htk
     have hle:d.size*k≤cur.size:=by rw[hds,hsz];exact Nat.mul_le_mul_right _ hn
     have hH:HoldsK enc k w g 0 d:=by
      intro j hj
      rw[size_flatK] at hj
      rw[get_flatK enc k d j hj]
      have hq:j / k<d.size:=(Nat.div_lt_iff_lt_mul (by omega)).2 hj
      have hm':j%k<k:=Nat.mod_lt _ (by omega)
      have hcell:w.cell? ⟨g,0+j,none⟩=cur[j]? := by rw[Nat.zero_add,cell_of_row w g j _ e _ hb]
      have hws:Ws k (l.map c):=h.1
      have hat:=hws.at (j / k) (j%k) (c (l[j / k]'(by omega))) (by simp[show j / k<l.length by omega]) hm'
      have hdm:j / k*k+j%k=j:=by rw[Nat.mul_comm];exact Nat.div_add_mod j k
      rw[hdm,←htk,List.getElem?_take,if_pos (by rw[hds] at hj;exact hj),Array.getElem?_toList] at hat
      have hdj:enc d[j / k]! = c (l[j / k]'(by omega)):=by
       have:d[j / k]! = ⟨l[j / k]'(by omega),List.getElem_mem _⟩:=by
        have hjl:j / k<d.size:=hq
        rw[getElem!_pos d (j / k) hjl]
        show(l.attach.toArray)[j / k]'(by simpa using(show j / k<l.length by omega))=_
        simp
       rw[this]
      refine⟨?_,?_⟩
      · rw[hcell,hat,hdj]
        have h5:j%k<(c (l[j / k]'(by omega))).length:=by rw[hc];exact hm'
        simp[h5]
      · simp[World.frozen?,hb]
     have hcl:CmpLays P cf #[] enc k cfn g 0 d.size w:=fun mm os dk hs x y=>by
      have:=hcmp x.1 y.1 (sortWorldK enc k w g 0 mm dk os) (hbd _ x.2) (hbd _ y.2)
      simpa[enc,cfn] using this
     have hone:∀ x:A,∀ u∈enc x,u.oneCell'=true:=fun x u hu=>by
      have hws:Ws k (l.map c):=h.1
      exact hws.one u (List.mem_flatten.2 ⟨c x.1,List.mem_map.2 ⟨x.1,x.2,rfl⟩,hu⟩)
     have:=AnyQ.slices_SortFunc_total L k aE zE enc (fun x=>hc x.1) hone cfn hO cf #[] g 0 cap d w eg hcl hH (Array.getElem?_eq_some_iff.1 hb).1 (by omega) hT
     rw[hds] at this
     rw[List.length_map]
     refine this.mono ?_
     rintro e' w' ⟨rfl,n,os,rfl⟩
     have hms:(d.toList.mergeSort fun x y => !(ltOf cfn) y x).map enc=(l.mergeSort fun a b=>decide (key a≤key b)).map c:=by
      have e1:(d.toList.mergeSort fun x y => !(ltOf cfn) y x).map Subtype.val=(l.mergeSort fun a b=>decide (key a≤key b)):=by
       rw[List.map_mergeSort (s:=fun a b=>decide (key a≤key b)) (fun a _ b _=>by rw[Jc];by_cases hh:key b.1<key a.1<;>simp[hh]<;>omega)]
       congr 1
       show List.map Subtype.val l.attach=l
       simp
      rw[←e1,List.map_map];rfl
     have hsl:(d.toList.mergeSort fun x y => !(ltOf cfn) y x).toArray.size=l.length:=by rw[List.size_toArray,List.length_mergeSort];exact hds
     obtain⟨cur',q1,q2,q3,q4⟩:=Xfu enc k hk (fun x=>hc x.1) w g n (d.toList.mergeSort fun x y => !(ltOf cfn) y x).toArray os e cur hb (by rw[hsl,←hds];exact hle)
     rw[hsl,List.toList_toArray,hms] at q3
     refine⟨_,rfl,⟨?_,.inr ⟨hz,cap,cur',?_,q1,?_,?_,?_,?_⟩⟩,by rw[hz];exact q4⟩
     · exact Qvo fun x _=>⟨hc x,h1 x⟩
     · rw[List.length_map,List.length_mergeSort]
     · rw[List.length_map,List.length_mergeSort];exact hn
     · exact hcap
     · rw[q2];exact hsz
     · rw[List.length_map,List.length_mergeSort];exact q3
end
end Go.Sx

end
section
set_option linter.unusedVariables false
set_option linter.unusedSimpArgs false
set_option maxRecDepth 100000
namespace Go.Proofs.YtopkalcefepilaaGreat.Mx
open Go Go.RowKit Go.Sx Go.Proofs Go.Shelf Go.Lib Go.Sort
def Qrw:Go.Shelf.Ren:=⟨fun|6=>79|15=>131|14=>130|28=>171|29=>172|20=>163|21=>164|22=>165|23=>166|24=>167|25=>168|26=>169|27=>170|46=>190|47=>191|48=>192|49=>193|50=>194|57=>199|n=>n,fun|22=>101|24=>137|25=>157|3=>3|39=>151|0=>0|53=>247|55=>22|4=>4|46=>240|45=>239|50=>244|5=>5|9=>9|66=>260|70=>264|76=>267|77=>85|n=>n,fun|n=>n⟩
theorem Xbw:Go.Proofs.SlLaysF0.n6 Tryz.prog Qrw:={
 mixed:=by kernel_rfl
 f6:=⟨Tryz.f79.name,by decide,Tryz.func79.trans (congrArg some (by kernel_rfl))⟩
 f14:=⟨Tryz.f130.name,by decide,Tryz.func130.trans (congrArg some (by kernel_rfl))⟩
 f15:=Tryz.func131.trans (congrArg some (by kernel_rfl))
 f20:=⟨Tryz.f163.name,by decide,Tryz.func163.trans (congrArg some (by kernel_rfl))⟩
 f21:=⟨Tryz.f164.name,by decide,Tryz.func164.trans (congrArg some (by kernel_rfl))⟩
 f22:=⟨Tryz.f165.name,by decide,Tryz.func165.trans (congrArg some (by kernel_rfl))⟩
 f23:=⟨Tryz.f166.name,by decide,Tryz.func166.trans (congrArg some (by kernel_rfl))⟩
 f24:=⟨Tryz.f167.name,by decide,Tryz.func167.trans (congrArg some (by kernel_rfl))⟩
 f25:=⟨Tryz.f168.name,by decide,Tryz.func168.trans (congrArg some (by kernel_rfl))⟩
 f26:=⟨Tryz.f169.name,by decide,Tryz.func169.trans (congrArg some (by kernel_rfl))⟩
 f27:=⟨Tryz.f170.name,by decide,Tryz.func170.trans (congrArg some (by kernel_rfl))⟩
 f28:=Tryz.func171.trans (congrArg some (by kernel_rfl))
 f29:=Tryz.func172.trans (congrArg some (by kernel_rfl))
 f46:=⟨Tryz.f190.name,by decide,Tryz.func190.trans (congrArg some (by kernel_rfl))⟩
 f47:=Tryz.func191.trans (congrArg some (by kernel_rfl))
 f48:=Tryz.func192.trans (congrArg some (by kernel_rfl))
 f49:=⟨Tryz.f193.name,by decide,Tryz.func193.trans (congrArg some (by kernel_rfl))⟩
 f50:=⟨Tryz.f194.name,by decide,Tryz.func194.trans (congrArg some (by kernel_rfl))⟩
 f57:=⟨Tryz.f199.name,by decide,Tryz.func199.trans (congrArg some (by kernel_rfl))⟩
 t0:=Tryz.underlying0
 a0:=Tryz.isAgg0
 z0:=Tryz.sizeOf0
 v0:=Tryz.zeroValue0
 t3:=Tryz.underlying3
 a3:=Tryz.isAgg3
 z3:=Tryz.sizeOf3
 v3:=Tryz.zeroValue3
 t4:=Tryz.underlying4
 a4:=Tryz.isAgg4
 z4:=Tryz.sizeOf4
 v4:=Tryz.zeroValue4
 t5:=Tryz.underlying5
 a5:=Tryz.isAgg5
 z5:=Tryz.sizeOf5
 v5:=Tryz.zeroValue5
 t9:=Tryz.underlying9
 a9:=Tryz.isAgg9
 z9:=Tryz.sizeOf9
 v9:=Tryz.zeroValue9
 t22:=Tryz.underlying101
 a22:=Tryz.isAgg101
 z22:=Tryz.sizeOf101
 v22:=Tryz.zeroValue101
 t25:=Tryz.underlying157
 a25:=Tryz.isAgg157
 z25:=Tryz.sizeOf157
 v25:=Tryz.zeroValue157
 t39:=Tryz.underlying151
 a39:=Tryz.isAgg151
 z39:=Tryz.sizeOf151
 v39:=Tryz.zeroValue151
 t45:=Tryz.underlying239
 a45:=Tryz.isAgg239
 z45:=Tryz.sizeOf239
 v45:=Tryz.zeroValue239
 t46:=Tryz.underlying240
 a46:=Tryz.isAgg240
 z46:=Tryz.sizeOf240
 v46:=Tryz.zeroValue240
 t50:=Tryz.underlying244
 a50:=Tryz.isAgg244
 z50:=Tryz.sizeOf244
 v50:=Tryz.zeroValue244
 t53:=Tryz.underlying247
 a53:=Tryz.isAgg247
 z53:=Tryz.sizeOf247
 v53:=Tryz.zeroValue247
 t55:=Tryz.underlying22
 a55:=Tryz.isAgg22
 z55:=Tryz.sizeOf22
 v55:=Tryz.zeroValue22
 t66:=Tryz.underlying260
 a66:=Tryz.isAgg260
 z66:=Tryz.sizeOf260
 v66:=Tryz.zeroValue260
 t70:=Tryz.underlying264
 a70:=Tryz.isAgg264
 z70:=Tryz.sizeOf264
 v70:=Tryz.zeroValue264
 t76:=Tryz.underlying267
 a76:=Tryz.isAgg267
 z76:=Tryz.sizeOf267
 v76:=Tryz.zeroValue267
 t77:=Tryz.underlying85
 a77:=Tryz.isAgg85
 z77:=Tryz.sizeOf85
 v77:=Tryz.zeroValue85 }
theorem Xhx {a b:Int}(ha:0≤a∧a<4611686018427387904)(hb:0≤b∧b<4611686018427387904):IntKind.i64.wrap (a-b)=a-b:=by rw[IntKind.wrap_i64];omega
set_option maxHeartbeats 1000000 in
theorem Qxa (x y:Qx)(W:World)(hx:0≤x.Node∧x.Node<4611686018427387904)(hy:0≤y.Node∧y.Node<4611686018427387904):Calls Tryz.prog 80 #[.agg #[.int .i64 x.Node,.int .i64 x.Minus],.agg #[.int .i64 y.Node,.int .i64 y.Minus]] W fun e w'=>e=.returned (.int .i64 (x.Node-y.Node))∧∃ q os',w'=grow (W.drewN q) os':=by
 have hw:=Xhx hx hy
 go_enter Tryz.func80,Tryz.ntmps80
 go_wp2
 go_ret
 exact⟨rfl,0,_,by rw[alloc_eq_grow,alloc_eq_grow,grow_grow];rfl⟩
theorem Xft {l m:List Qx}(hm:Ak Qx.Node l=some m)(w:World)(z g:Nat)(v:Value)(h:Qg w z g 137 2 v (l.map Qx.cs)):Calls Tryz.prog 79 [v,.func (.func 80) #[] #[]].toArray w fun e' w'=>∃ v',e'=.returned v'∧(Qg w' z g 137 2 v (m.map Qx.cs)∧Kz [(z,g)] w w'):=
 Xfv (ρ:=Qrw) Qx.cs 2 (fun _=>rfl) (fun x=>Qx.cs_ones x) (by decide) Qx.Node 80 Xbw (fun _=>by kernel_rfl) (fun _=>by kernel_rfl) (fun _ _=>by kernel_rfl) (fun x y W hx hy=>Qxa x y W hx hy) hm w z g 137 v h
end Go.Proofs.YtopkalcefepilaaGreat.Mx

end
section
set_option linter.unusedVariables false
set_option maxRecDepth 100000
namespace Go.Sx
open Go Go.RowKit
noncomputable section
def Qhw (p0:Qj):Option (Bool):=(if 1#8≤p0.Kind then(if p0.Kind≤3#8 then(if(0:Int)≤p0.Depth then(if p0.Depth≤6 then(if p0.Degree=0 then(some (decide (p0.Group=(Jb.mk 0#64 0#64 0#64)))) else(some false)) else(some false)) else(some false)) else(some false)) else(some false))
def Qtc (p0:Qj):Option (Int):=Option.bind (Qhw p0) fun x1=>((bif (!x1) then(some 30) else(some 0)))
def Xep (p0:Int)(rec1:(Int × Int)→Option (Int))(s1:Int × Int):Option (Int):=match s1 with|(a3,a4)=>(if a4<p0 then(rec1 (Qc (2*a3),Qc (a4+1))) else(some a3))
def Rb (p0:Int):Option (Int):=(Qv (Xep p0) Xb (1,0))
def Qhs (p0:Int)(p1:Int):Option (Bool):=(if(1:Int)≤p1 then Option.bind (Rb p0) fun x1=>((some (decide (p1<Qc (2*x1))))) else(some false))
def Qmf (p1:Int)(rec1:(Int)→Option (Bool))(a2:Int):Option (Bool):=(if p1<a2 then Option.bind (Qdq a2 2) fun x3=>((rec1 x3)) else(some (decide (a2=p1))))
def Qme (p0:Int)(p1:Int):Option (Bool):=(Qv (Qmf p1) Xb p0)
def Qmj  (rec1:(Int × Int)→Option (Int))(s1:Int × Int):Option (Int):=match s1 with|(a3,a4)=>(if(1:Int)<a3 then Option.bind (Qdq a3 2) fun x5=>((rec1 (x5,Qc (a4+1)))) else(some a4))
def Qmi (p0:Int):Option (Int):=(Qv (Qmj) Xb (p0,0))
def Xeq (p0:Int)(rec1:(Int)→Option (Int))(a2:Int):Option (Int):=(if Qc (a2*a2)<p0 then(rec1 (Qc (a2+1))) else(some a2))
def Qmm (p0:Int):Option (Int):=(Qv (Xeq p0) Xb 1)
def Qdv (p0:Int)(p1:Int):Option (Bool):=Option.bind (Qmi p1) fun x1=>(Option.bind (Qmm p0) fun x2=>(Option.bind (Re x1 x2) fun x3=>((some (decide (x3=0))))))
def Qhu (p0:Int)(rec1:(Int × List Int)→Option (List Int))(s1:Int × List Int):Option (List Int):=match s1 with|(a4,a5)=>(if a4≠p0 then Option.bind (Vy 8 [a4] a5) fun l7=>(Option.bind (Qdq a4 2) fun x8=>((rec1 (x8,l7)))) else Option.bind (Vy 8 [p0] a5) fun l9=>((some l9)))
def Qht (p0:Int)(p1:Int):Option (List Int):=(Qv (Qhu p0) Xb (p1,[]))
def Qhy (p0:Int)(x1:List Int)(rec1:(Int)→Option (Int))(a3:Int):Option (Int):=(if a3<Qc ((x1.length:Int)-1) then Option.bind (Xr x1 a3) fun y4=>(Option.bind (Qdv p0 y4) fun x5=>((bif x5 then Option.bind (Xr x1 a3) fun y6=>((some y6)) else(rec1 (Qc (a3+1)))))) else(some 0))
def Qhx (p0:Int)(p1:Int)(p2:Int):Option (Int):=Option.bind (Qht p1 p2) fun x1=>((Qv (Qhy p0 x1) Xb 1))
def Af (p0:Qj)(p1:Qx)(a2:Bool):Option (Bool):=(bif a2 then(some false) else(if p0.Kind=2#8 then(some true) else Option.bind (Qdv p0.Depth p1.Node) fun x3=>((bif x3 then(some true) else Option.bind (Qhx p0.Depth p1.Node p1.Minus) fun x4=>((some (decide (x4=0))))))))
def Nx (p0:Qj)(p1:Qx):Option (Bool):=Option.bind (Qhs p0.Depth p1.Node) fun x1=>((bif (!x1) then(some false) else(if p0.Kind=1#8 then(some (decide (p1.Minus=0))) else(if p1.Minus=0 then(some (decide (p1.Node=1))) else Option.bind (Qhs p0.Depth p1.Minus) fun x5=>((bif (!x5) then(Af p0 p1 true) else(if p1.Minus=p1.Node then(Af p0 p1 true) else Option.bind (Qme p1.Minus p1.Node) fun x6=>((Af p0 p1 (!x6))))))))))
def Qmp (p0:W2)(p1:Int):Option (W2):=Option.bind (Re p1 2) fun x1=>((if x1=0 then(some (Xy p0 (Qs 31#8) 0#64)) else(some (Xy p0 (Qs 32#8) 0#64))))
def Qhz (x1:List Int)(rec1:(Int × W2)→Option (W2))(s1:Int × W2):Option (W2):=match s1 with|(a4,a5)=>(if a4<(x1.length:Int) then Option.bind (Xr x1 a4) fun y6=>(Option.bind (Qmp a5 y6) fun x7=>((rec1 (Qc (a4+1),x7)))) else(some a5))
def Qmn (p0:W2)(p1:Int)(p2:Int):Option (W2):=Option.bind (Qht p1 p2) fun x1=>((Qv (Qhz x1) Xb (1,p0)))
def Qdw (p0:W2)(p1:Int)(p2:Int):Option (W2):=Option.bind (Qmn (Xy p0 (Qs 30#8) (wd p1)) p1 p2) fun x1=>((some x1))
def Qmg (p0:W2)(p1:Qj)(p2:Qx):Option (W2):=(if p1.Kind=1#8 then(some (Xy p0 (Qs 30#8) (wd p2.Node))) else(if p2.Minus=0 then(some (Xy p0 (Qs 34#8) 0#64)) else Option.bind (Qdw p0 p2.Node p2.Minus) fun x1=>((some (Xy x1 (Qs 33#8) 0#64)))))
def Ae (p0:List (BitVec 8))(rec1:(BitVec 64 × Int)→Option (BitVec 64))(s1:BitVec 64 × Int):Option (BitVec 64):=match s1 with|(a3,a4)=>(if a4<(p0.length:Int) then Option.bind (Xr p0 a4) fun y5=>((rec1 ((256#64*a3)+(y5.setWidth 64),Qc (a4+1)))) else(some a3))
def Qds (p0:List (BitVec 8)):Option (BitVec 64):=(Qv (Ae p0) Xb (0#64,0))
def Qtb (p0:W2):Option (BitVec 64 × BitVec 64):=Option.bind (Qds (((Ze p0).take 8).drop 0)) fun x1=>(Option.bind (Qds (((Ze p0).take 16).drop 8)) fun x2=>((some (x1,x2))))
def Qmo (p0:Int)(p1:Int):Option (Bool):=(if(0:Int)≤p1 then Option.bind (Rb p0) fun x1=>((some (decide (p1<x1)))) else(some false))
def Xem (x2:List Int)(rec1:(List Qx × Int)→Option (List Qx))(s1:List Qx × Int):Option (List Qx):=match s1 with|(a6,a8)=>(if a8<(x2.length:Int) then Option.bind (Xr x2 a8) fun y9=>(Option.bind (Vy 16 a6 [(Qx.mk y9 0)]) fun l10=>((rec1 (l10,Qc (a8+1))))) else(some a6))
def Xeo (p0:Qj)(x2:List Int)(a17:Int)(rec2:(List Qx × Int)→Option (List Qx))(rec3:(List Qx × Int)→Option (List Qx))(s3:List Qx × Int):Option (List Qx):=match s3 with|(a21,a23)=>(if a23<(x2.length:Int) then Option.bind (Xr x2 a17) fun y24=>(Option.bind (Xr x2 a23) fun y25=>(Option.bind (Nx p0 (Qx.mk y24 (Ii .xor y25 1))) fun x26=>((bif x26 then Option.bind (Vy 16 a21 [(Qx.mk y24 (Ii .xor y25 1))]) fun l27=>((rec3 (l27,Qc (a23+1)))) else(rec3 (a21,Qc (a23+1))))))) else(rec2 (a21,Qc (a17+1))))
def Xen (p0:Qj)(x2:List Int)(rec2:(List Qx × Int)→Option (List Qx))(s2:List Qx × Int):Option (List Qx):=match s2 with|(a15,a17)=>(if a17<(x2.length:Int) then(Qv (Xeo p0 x2 a17 rec2) Xb (a15,Qc (a17+1))) else(some a15))
def Qmh (p0:Qj)(p1:Int):Option (List Qx):=Option.bind (Rb p0.Depth) fun x1=>(Option.bind (Qht 1 (Qc (x1+p1))) fun x2=>((if p0.Kind=1#8 then(Qv (Xem x2) Xb ([],0)) else Option.bind (Vy 16 [] [(Qx.mk 1 0)]) fun l11=>((Qv (Xen p0 x2) Xb (l11,0))))))
def Qml (x1:List Qx)(a5:Int)(a6:List Je)(rec1:(Int × List Je)→Option (Xp))(a10:W2):Option (Xp):=Option.bind (Xr x1 a5) fun y11=>(Option.bind (Xr x1 a5) fun y12=>(Option.bind (Vy 32 a6 [(Je.mk y11.Node y12.Minus a10)]) fun l13=>((rec1 (Qc (a5+1),l13)))))
def Qtf (p0:W2)(x1:List Qx)(a5:Int)(a6:List Je)(rec1:(Int × List Je)→Option (Xp))(a9:W2):Option (Xp):=Option.bind (Xr x1 a5) fun y14=>((if y14.Minus≠0 then Option.bind (Xr x1 a5) fun y15=>(Option.bind (Xr x1 a5) fun y16=>(Option.bind (Qdw p0 y15.Node y16.Minus) fun x17=>((Qml x1 a5 a6 rec1 x17)))) else(Qml x1 a5 a6 rec1 a9)))
def Qdu (p0:W2)(p1:Qj)(p2:Int)(x1:List Qx)(rec1:(Int × List Je)→Option (Xp))(s1:Int × List Je):Option (Xp):=match s1 with|(a5,a6)=>(if a5<(x1.length:Int) then Option.bind (Xr x1 a5) fun y18=>(Option.bind (Qmg p0 p1 y18) fun x19=>((Qtf p0 x1 a5 a6 rec1 x19))) else(some (Xp.mk p2 a6 (Xq.mk 0#64 0#64))))
def Qte (p0:W2)(p1:Qj)(p2:Int):Option (Xp):=Option.bind (Qmh p1 p2) fun x1=>((Qv (Qdu p0 p1 p2 x1) Xb (0,[])))
def Qtd (p0:W2)(p1:Qj)(p2:Int):Option (Xp × Int):=Option.bind (Qhw p1) fun x1=>((bif (!x1) then(some ((Xp.mk 0 [] (Xq.mk 0#64 0#64)),30)) else Option.bind (Qmo p1.Depth p2) fun x2=>((bif (!x2) then(some ((Xp.mk 0 [] (Xq.mk 0#64 0#64)),2)) else Option.bind (Qte p0 p1 p2) fun x3=>((some (x3,0)))))))
def Qta (p0:BitVec 64)(rec1:(BitVec 64)→Option (Bool))(a2:BitVec 64):Option (Bool):=(if a2*a2≤p0 then Option.bind (Yc p0 a2) fun x3=>((if x3=0#64 then(some false) else(rec1 (a2+1#64)))) else(some (decide (2#64≤p0))))
def Qma (p0:BitVec 64):Option (Bool):=(Qv (Qta p0) Xb 2#64)
def Qmc (p2:BitVec 64)(a6:BitVec 64)(a8:BitVec 64)(rec1:(BitVec 64 × BitVec 64 × BitVec 64)→Option (BitVec 64))(a9:BitVec 64):Option (BitVec 64):=Option.bind (Yc (a8*a8) p2) fun x10=>(Option.bind (Qm7 a6 2#64) fun x11=>((rec1 (x11,a9,x10))))
def Qhq (p2:BitVec 64)(rec1:(BitVec 64 × BitVec 64 × BitVec 64)→Option (BitVec 64))(s1:BitVec 64 × BitVec 64 × BitVec 64):Option (BitVec 64):=match s1 with|(a6,a7,a8)=>(if 0#64<a6 then Option.bind (Yc a6 2#64) fun x12=>((if x12=1#64 then Option.bind (Yc (a7*a8) p2) fun x13=>((Qmc p2 a6 a8 rec1 x13)) else(Qmc p2 a6 a8 rec1 a7))) else(some a7))
def Qmb (p0:BitVec 64)(p1:BitVec 64)(p2:BitVec 64):Option (BitVec 64):=Option.bind (Yc 1#64 p2) fun x1=>(Option.bind (Yc p0 p2) fun x2=>((Qv (Qhq p2) Xb (p1,x1,x2))))
def Qba (p0:Jb)(a1:Bool):Option (Bool):=(bif a1 then(some false) else(if 2#64≤p0.G then(if p0.G<p0.P then Option.bind (Qmb p0.G p0.Q p0.P) fun x2=>((some (decide (x2=1#64)))) else(some false)) else(some false)))
def Qmd (p0:Jb):Option (Bool):=(if 1048575#64<p0.P then(Qba p0 true) else Option.bind (Qma p0.P) fun x3=>((bif (!x3) then(Qba p0 true) else(if 1048575#64<p0.Q then(Qba p0 true) else Option.bind (Qma p0.Q) fun x4=>((bif (!x4) then(Qba p0 true) else Option.bind (Yc (p0.P-1#64) p0.Q) fun x5=>((Qba p0 (decide (x5≠0#64))))))))))
def Ah (p0:Qj)(a1:Bool):Option (Bool):=(bif a1 then(some false) else Option.bind (Rb p0.Depth) fun x2=>((some (decide (wd (Qc (x2+p0.Degree))<p0.Group.Q)))))
def Ag (p0:Qj):Option (Bool):=(if p0.Kind≠4#8 then(Ah p0 true) else(if p0.Depth<0 then(Ah p0 true) else(if(6:Int)<p0.Depth then(Ah p0 true) else(if p0.Degree<1 then(Ah p0 true) else(if(8:Int)<p0.Degree then(Ah p0 true) else Option.bind (Qmd p0.Group) fun x3=>((Ah p0 (!x3))))))))
def Qhr (p0:W2)(p1:BitVec 64)(p2:BitVec 64):Option (BitVec 64):=(if p2=0#64 then(some 0#64) else Option.bind (Qds (((Ze (Xy p0 (Qs 3#8) p1)).take 8).drop 0)) fun x1=>(Option.bind (Yc x1 p2) fun x2=>((some x2))))
def Qmr (p0:W2)(p1:Qj)(rec1:(List (BitVec 64) × Int)→Option (List (BitVec 64)))(s1:List (BitVec 64) × Int):Option (List (BitVec 64)):=match s1 with|(a4,a6)=>(if a6≤p1.Degree then Option.bind (Qhr (Xy p0 (Qs 40#8) 0#64) (wd a6) p1.Group.Q) fun x7=>(Option.bind (Vy 8 a4 [x7]) fun l8=>((rec1 (l8,Qc (a6+1))))) else(some a4))
def Qmq (p0:W2)(p1:Qj):Option (List (BitVec 64)):=(Qv (Qmr p0 p1) Xb ([],0))
def Qmu (p0:BitVec 64)(p1:List (BitVec 64))(p2:BitVec 64)(rec1:(BitVec 64 × BitVec 64 × Int)→Option (BitVec 64))(s1:BitVec 64 × BitVec 64 × Int):Option (BitVec 64):=match s1 with|(a4,a5,a6)=>(if a6<(p1.length:Int) then Option.bind (Xr p1 a6) fun y7=>(Option.bind (Yc (a4+(y7*a5)) p0) fun x8=>(Option.bind (Yc (a5*p2) p0) fun x9=>((rec1 (x8,x9,Qc (a6+1)))))) else(some a4))
def Qmt (p0:BitVec 64)(p1:List (BitVec 64))(p2:BitVec 64):Option (BitVec 64):=(Qv (Qmu p0 p1 p2) Xb (0#64,1#64,0))
def Qti (p0:W2)(p1:Qj)(p2:Int):Option (Xp):=Option.bind (Qmq p0 p1) fun x1=>(Option.bind (Qmt p1.Group.Q x1 ((wd p2)+1#64)) fun x2=>((some (Xp.mk p2 [] (Xq.mk ((wd p2)+1#64) x2)))))
def Qms (p0:W2)(p1:Qj)(p2:Int)(a2:Bool):Option (Xp × Int):=(bif a2 then(some ((Xp.mk 0 [] (Xq.mk 0#64 0#64)),2)) else Option.bind (Qti p0 p1 p2) fun x3=>((some (x3,0))))
def Qth (p0:W2)(p1:Qj)(p2:Int):Option (Xp × Int):=Option.bind (Ag p1) fun x1=>((bif (!x1) then(some ((Xp.mk 0 [] (Xq.mk 0#64 0#64)),30)) else(if p2<0 then(Qms p0 p1 p2 true) else Option.bind (Rb p1.Depth) fun x4=>((Qms p0 p1 p2 (decide (x4≤p2)))))))
def Qtg (p0:Qj):Option (Int):=Option.bind (Ag p0) fun x1=>((bif (!x1) then(some 30) else(some 0)))
structure Tv where
 Epoch:Int
 Word:Int
 Early:Int
 Drift:Int
 Delay:Int
deriving DecidableEq,Inhabited
def Tv.cs (x:Tv)  : List Value:=[.int .i64 x.Epoch,.int .i64 x.Word,.int .i64 x.Early,.int .i64 x.Drift,.int .i64 x.Delay]
theorem Tv.cs_ones (x:Tv)   : Zj (Tv.cs x )=true:=by simp only[Tv.cs,List.cons_append,List.nil_append,kb,Zj,Yx,Yw,Yy,cond_true]
theorem Tv.cs_inj {x y:Tv}(h:Tv.cs x=Tv.cs y):x=y:=by
 have h0:x.Epoch=y.Epoch:=Yd (congrArg (fun l=>l[0]?) h)
 have h1:x.Word=y.Word:=Yd (congrArg (fun l=>l[1]?) h)
 have h2:x.Early=y.Early:=Yd (congrArg (fun l=>l[2]?) h)
 have h3:x.Drift=y.Drift:=Yd (congrArg (fun l=>l[3]?) h)
 have h4:x.Delay=y.Delay:=Yd (congrArg (fun l=>l[4]?) h)
 cases x;cases y;simp only at *;subst h0;subst h1;subst h2;subst h3;subst h4;rfl
theorem Tv.ws (l:List Tv):Ws 5 (l.map Tv.cs):=Pb l (fun _=>rfl) (fun _=>rfl)
structure Pd where
 Full:Bool
 Epoch:Int
 Key:W2
deriving DecidableEq,Inhabited
def Pd.cs (x:Pd)  : List Value:=[.bool x.Full,.int .i64 x.Epoch]++(kb x.Key)
theorem Pd.cs_ones (x:Pd)   : Zj (Pd.cs x )=true:=by simp only[Pd.cs,List.cons_append,List.nil_append,kb,Zj,Yx,Yw,Yy,cond_true]
theorem Pd.cs_inj {x y:Pd}(h:Pd.cs x=Pd.cs y):x=y:=by
 have h0:x.Full=y.Full:=Qx9 (congrArg (fun l=>l[0]?) h)
 have h1:x.Epoch=y.Epoch:=Yd (congrArg (fun l=>l[1]?) h)
 have h2:x.Key=y.Key:=Uz (congrArg (fun l=>(l.drop 2).take 16) h)
 cases x;cases y;simp only at *;subst h0;subst h1;subst h2;rfl
theorem Pd.ws (l:List Pd):Ws 18 (l.map Pd.cs):=Pb l (fun _=>rfl) (fun _=>rfl)
structure Tg where
 a0:Pd
 a1:Pd
deriving DecidableEq,Inhabited
def Tg.cs (x:Tg)  : List Value:=[.bool x.a0.Full,.int .i64 x.a0.Epoch]++(kb x.a0.Key++([.bool x.a1.Full,.int .i64 x.a1.Epoch]++(kb x.a1.Key)))
theorem Tg.cs_ones (x:Tg)   : Zj (Tg.cs x )=true:=by simp only[Tg.cs,List.cons_append,List.nil_append,kb,Zj,Yx,Yw,Yy,cond_true]
theorem Tg.cs_inj {x y:Tg}(h:Tg.cs x=Tg.cs y):x=y:=by
 have h0:x.a0=y.a0:=Pd.cs_inj (congrArg (fun l=>(l.drop 0).take 18) h)
 have h1:x.a1=y.a1:=Pd.cs_inj (congrArg (fun l=>(l.drop 18).take 18) h)
 cases x;cases y;simp only at *;subst h0;subst h1;rfl
theorem Tg.ws (l:List Tg):Ws 36 (l.map Tg.cs):=Pb l (fun _=>rfl) (fun _=>rfl)
structure Az where
 Secret:Xp
 Ahead:Int
 Slots:Tg
deriving DecidableEq,Inhabited
def Az.cs (x:Az)(v0:Value):List Value:=[.int .i64 x.Secret.Receiver,v0,wv x.Secret.Share.X,wv x.Secret.Share.Y,.int .i64 x.Ahead,.bool x.Slots.a0.Full,.int .i64 x.Slots.a0.Epoch]++(kb x.Slots.a0.Key++([.bool x.Slots.a1.Full,.int .i64 x.Slots.a1.Epoch]++(kb x.Slots.a1.Key)))
theorem Az.cs_ones (x:Az)(v0:Value)(h0:oneB v0=true):Zj (Az.cs x v0)=true:=by simp only[Az.cs,List.cons_append,List.nil_append,kb,Zj,Yx,Yw,Yy,cond_true,h0]
structure Mj where
 b:List (BitVec 8)
 short:Bool
deriving DecidableEq,Inhabited
def Mj.cs (x:Mj)(v0:Value):List Value:=[v0,.bool x.short]
theorem Mj.cs_ones (x:Mj)(v0:Value)(h0:oneB v0=true):Zj (Mj.cs x v0)=true:=by simp only[Mj.cs,List.cons_append,List.nil_append,kb,Zj,Yx,Yw,Yy,cond_true,h0]
end
end Go.Sx

end
section
set_option linter.unusedVariables false
set_option linter.unusedSimpArgs false
namespace Go.Sx
open Go
theorem Yl {n:Nat}(h:n<9223372036854775808):n<Xb:=by unfold Xb;omega
theorem Jw {n:Int}(h0 : -9223372036854775808≤n)(h1:n≤9223372036854775807):Qc n=n:=by
 have:=IntKind.wrap_i64 n
 unfold Qc;rw[this];omega
theorem bind_some {α β:Type}(a:α)(f:α→Option β):Option.bind (some a) f=f a:=rfl
theorem Ti {α:Type}{b:Nat}{l m:List α}(h:(l.length+m.length)*b≤140737488355328):Vy b l m=some (l++m):=if_pos h
theorem Wg {α:Type}{l:List α}{i:Nat}(h:i<l.length):Xr l (i:Int)=some l[i]:=by unfold Xr;rw[if_pos (by omega)];simp[h]
theorem Cm {α:Type}(l:List α)(i:Nat)(h:i<l.length):l.take (i+1)=l.take i++[l[i]]:=by rw[List.take_add_one];simp[h]
def w8 (x:BitVec 64):List (BitVec 8):=[Kj x 0,Kj x 1,Kj x 2,Kj x 3,Kj x 4,Kj x 5,Kj x 6,Kj x 7]
theorem Qbr (x:BitVec 64):(w8 x).length=8:=rfl
def pad (n:Nat)(s:List (BitVec 8)):List (BitVec 8):=s.take n++List.replicate (n-s.length) 0#8
end Go.Sx

end
section
set_option linter.unusedVariables false
set_option linter.unusedSimpArgs false
namespace Go.Sx
open Go
theorem Dj (n k:Nat)(h:2^k≤n):Nat.log2 n=Nat.log2 (n / 2^k)+k:=by
 induction k generalizing n with
 | zero=>simp
 | succ k ih=>
  have h2:2^k≤n / 2:=by rw[Nat.le_div_iff_mul_le (by omega)];rw[Nat.pow_succ] at h;omega
  have h1:2≤n:=by have:0<2^k:=Nat.two_pow_pos k;rw[Nat.pow_succ] at h;omega
  rw[Nat.log2_def,if_pos h1,ih (n / 2) h2,Nat.div_div_eq_div_mul,Nat.pow_succ,Nat.mul_comm 2];omega
theorem Nr {n:Nat}(h:2≤n):Nat.log2 n=Nat.log2 (n / 2)+1:=by rw[Nat.log2_def,if_pos h]
theorem Qky {m n:Nat}(h:m≤n):Nat.log2 m≤Nat.log2 n:=by
 rcases Nat.eq_zero_or_pos m with h0|h0
 · subst h0;rw[Nat.log2_zero];omega
 · exact(Nat.le_log2 (by omega)).2 (Nat.le_trans (Nat.log2_self_le (by omega)) h)
theorem Qas {n:Nat}(h:n<9223372036854775808):Nat.log2 n≤62:=by
 rcases Nat.eq_zero_or_pos n with h0|h0
 · subst h0;rw[Nat.log2_zero];omega
 · have:Nat.log2 n<63:=(Nat.log2_lt (by omega)).2 (by omega)
   omega
theorem Xh2 {n:Nat}(h:n<9223372036854775808):un (wd (n:Int))=(n:Int):=Qig _ (by omega) (by omega)
theorem Xc1 {n:Nat}(h:1≤n):lg (n:Int)=(Nat.log2 n:Int)+1:=by unfold lg;rw[Int.toNat_natCast,if_neg (by omega)]
theorem Qd4 {n:Nat}(h1:1≤n)(h:n<9223372036854775808):Ni (n:Int)=some (Nat.log2 n:Int):=by
 have:=Qas h
 unfold Ni
 rw[Xh2 h,Xc1 h1,Jw (by omega) (by omega),Int.add_sub_cancel]
theorem Qm6 (n:Nat)(h:n<9223372036854775808):Qdq (n:Int) 2=some ((n / 2:Nat):Int):=by
 unfold Qdq
 rw[if_neg (by decide),show(n:Int).tdiv 2=((n / 2:Nat):Int) from by rw[Int.tdiv_eq_ediv_of_nonneg (by omega)];omega,Jw (by omega) (by omega)]
theorem Qtk:∀ (f n k:Nat),n<9223372036854775808→Nat.log2 n<f→k+Nat.log2 n≤1000→Qv Qmj f ((n:Int),(k:Int))=some ((k+Nat.log2 n:Nat):Int)
 | 0,n,k,_,h,_=>by omega
 | f+1,n,k,h,hf,hk=>by
  rw[Kk];simp only[Qmj]
  by_cases h2:2≤n
  · have hh:=Nr h2
    rw[if_pos (by omega),Qm6 n h,bind_some,Jw (by omega) (by omega)]
    have:=Qtk f (n / 2) (k+1) (by omega) (by omega) (by omega)
    rw[show(k:Int)+1=((k+1:Nat):Int) from by omega,this,hh];congr 2;omega
  · rw[if_neg (by omega)]
    have:Nat.log2 n=0:=by rw[Nat.log2_def,if_neg (by omega)]
    rw[this,Nat.add_zero]
theorem Xex {n:Nat}(h:n<9223372036854775808):Qmi (n:Int)=some (Nat.log2 n:Int):=by
 have:=Qas h
 have:=Qtk Xb n 0 h (Yl (by omega)) (by omega)
 unfold Qmi
 rw[show(0:Int)=((0:Nat):Int) from rfl,this,Nat.zero_add]
def Zm (w v:Nat):Bool:=decide (Nat.log2 v≤Nat.log2 w∧w / 2^(Nat.log2 w-Nat.log2 v)=v)
theorem Qw8 {w v:Nat}(hv:1≤v)(h:v<w):Zm w v=Zm (w / 2) v:=by
 have hh:=Nr (n:=w) (by omega)
 have hm:=Qky (Nat.le_of_lt h)
 unfold Zm
 by_cases hl:Nat.log2 v≤Nat.log2 (w / 2)
 · have e:Nat.log2 w-Nat.log2 v=(Nat.log2 (w / 2)-Nat.log2 v)+1:=by omega
   have e2:w / 2^(Nat.log2 w-Nat.log2 v)=w / 2 / 2^(Nat.log2 (w / 2)-Nat.log2 v):=by rw[e,Nat.div_div_eq_div_mul,Nat.pow_succ,Nat.mul_comm 2]
   rw[e2]
   apply decide_eq_decide.2
   constructor
   · rintro⟨_,h2⟩;exact⟨hl,h2⟩
   · rintro⟨_,h2⟩;exact⟨hm,h2⟩
 · rw[decide_eq_false (p:=_∧w / 2 / 2^_=v) (fun hc=>hl hc.1)]
   apply decide_eq_false
   rintro⟨_,h2⟩
   rw[show Nat.log2 w-Nat.log2 v=0 from by omega,Nat.pow_zero,Nat.div_one] at h2
   omega
theorem Qw7 {w v:Nat}(hw:1≤w)(h:w≤v):Zm w v=decide (w=v):=by
 unfold Zm
 by_cases e:w=v
 · subst e;simp
 · rw[decide_eq_false e]
   apply decide_eq_false
   rintro⟨h1,h2⟩
   have:=Qky h
   rw[show Nat.log2 w-Nat.log2 v=0 from by omega,Nat.pow_zero,Nat.div_one] at h2
   exact e h2
theorem Qi4 (n k:Nat)(hk:k≤64):Rh (n:Int) k=((n / 2^k:Nat):Int):=by
 unfold Rh
 rw[Nat.min_eq_left hk,Int.natCast_ediv,Int.natCast_pow];rfl
theorem Qw9 {w v:Nat}(hw:1≤w)(hv:1≤v)(hw2:w<9223372036854775808)(hv2:v<9223372036854775808):Oq (w:Int) (v:Int)=some (Zm w v):=by
 have l1:=Qas hw2
 have l2:=Qas hv2
 unfold Oq Ot
 rw[if_neg (by omega),if_neg (by omega),Qd4 hw hw2,bind_some,Qd4 hv hv2,bind_some]
 by_cases h:Nat.log2 w<Nat.log2 v
 · rw[decide_eq_true (by omega)]
   unfold Zm
   rw[decide_eq_false (by omega)];rfl
 · rw[decide_eq_false (by omega)]
   simp only[cond_false]
   rw[bind_some,bind_some,Jw (by omega) (by omega)]
   have:Jp ((Nat.log2 w:Int)-(Nat.log2 v:Int))=some (Nat.log2 w-Nat.log2 v):=by unfold Jp;rw[if_pos (by omega)];congr 1;omega
   rw[this,bind_some,Qi4 _ _ (by omega)]
   unfold Zm
   congr 1
   apply decide_eq_decide.2
   constructor
   · intro h3;exact⟨by omega,by omega⟩
   · intro h3;omega
theorem Qt8 {v:Nat}(hv:1≤v):∀ (f w:Nat),1≤w→w<9223372036854775808→Nat.log2 w<f→Qv (Qmf (v:Int)) f (w:Int)=some (Zm w v)
 | 0,w,_,_,h=>by omega
 | f+1,w,hw,hw2,hf=>by
  rw[Kk];simp only[Qmf]
  by_cases h:v<w
  · have hh:=Nr (n:=w) (by omega)
    rw[if_pos (by omega),Qm6 w hw2,bind_some,Qt8 hv f (w / 2) (by omega) (by omega) (by omega),Qw8 hv h]
  · rw[if_neg (by omega),Qw7 hw (by omega)]
    congr 1
    apply decide_eq_decide.2;omega
theorem Qt7 {w v:Nat}(hw:1≤w)(hv:1≤v)(hw2:w<9223372036854775808):Qme (w:Int) (v:Int)=some (Zm w v):=by
 have:=Qas hw2
 exact Qt8 hv Xb w hw hw2 (Yl (by omega))
def Yz (d:Nat):Nat:=if d≤1 then 1 else if d≤4 then 2 else 3
theorem Qu7 (d:Nat):1≤Yz d:=by unfold Yz;split;omega;split<;>omega
theorem Qm9:∀ d:Fin 7,Rb (d.1:Int)=some ((2^d.1:Nat):Int):=by decide +kernel
theorem Qdr {d:Nat}(h:d≤6):Rb (d:Int)=some ((2^d:Nat):Int):=Qm9 ⟨d,by omega⟩
theorem Xg3:∀ d:Fin 7,Qmm (d.1:Int)=some ((Yz d.1:Nat):Int):=by decide +kernel
theorem Xf5 {d:Nat}(h:d≤6):Qmm (d:Int)=some ((Yz d:Nat):Int):=Xg3 ⟨d,by omega⟩
theorem Ve {d:Nat}(h:d≤6):2^d≤64:=Nat.le_trans (Nat.pow_le_pow_right (by omega) h) (by decide)
theorem Cl {d:Nat}(h:d≤6):Xw 1 d=((2^d:Nat):Int):=by
 have:=Ve h
 unfold Xw
 rw[Nat.min_eq_left (by omega),Int.one_mul,show(2:Int)^d=((2^d:Nat):Int) from by rw[Int.natCast_pow];rfl]
 generalize 2^d=m at *
 exact Jw (by omega) (by omega)
theorem Rf (n:Nat):Jp (n:Int)=some n:=by unfold Jp;rw[if_pos (by omega)];rfl
theorem Qn5 {k:BitVec 8}{d:Nat}{st:Int}(h:d≤6):Ug ⟨k,(d:Int),st⟩=some ((2^d:Nat):Int):=by
 unfold Ug
 rw[Rf,bind_some,Cl h]
def Tl (d:Nat)(v:Int):Bool:=decide (1≤v∧v<2*(2^d:Nat))
theorem Qfu {k:BitVec 8}{d:Nat}{st v:Int}(h:d≤6):Ow ⟨k,(d:Int),st⟩ v=some (Tl d v):=by
 have:=Ve h
 unfold Ow Tl
 by_cases h1:1≤v
 · rw[if_pos h1,Qn5 h,bind_some]
   generalize 2^d=m at *
   rw[Jw (by omega) (by omega)]
   congr 1;apply decide_eq_decide.2;omega
 · rw[if_neg h1];congr 1;symm;apply decide_eq_false;omega
theorem Qav {d:Nat}{v:Int}(h:d≤6):Qhs (d:Int) v=some (Tl d v):=by
 have:=Ve h
 unfold Qhs Tl
 by_cases h1:1≤v
 · rw[if_pos h1,Qdr h,bind_some]
   generalize 2^d=m at *
   rw[Jw (by omega) (by omega)]
   congr 1;apply decide_eq_decide.2;omega
 · rw[if_neg h1];congr 1;symm;apply decide_eq_false;omega
theorem Qft {d:Nat}{v:Int}(hd:d≤6)(h:Tl d v=true):∃ n:Nat,v=(n:Int)∧1≤n∧n<128:=by
 have:=Ve hd
 unfold Tl at h
 generalize 2^d=m at *
 have:=of_decide_eq_true h
 exact⟨v.toNat,by omega,by omega,by omega⟩
def Kr (d v:Nat):Bool:=decide (Nat.log2 v%Yz d=0)
theorem Qi0 (a b:Nat)(hb:1≤b):Re (a:Int) (b:Int)=some ((a%b:Nat):Int):=by
 unfold Re
 rw[if_neg (by omega),Int.tmod_eq_emod_of_nonneg (by omega),Int.natCast_emod]
theorem Qn6 {k:BitVec 8}{d v:Nat}(hv:1≤v)(hv2:v<9223372036854775808):Li ⟨k,(d:Int),(Yz d:Int)⟩ (v:Int)=some (Kr d v):=by
 unfold Li Kr
 rw[Qd4 hv hv2,bind_some,Qi0 _ _ (Qu7 d),bind_some]
 congr 1;apply decide_eq_decide.2;omega
theorem Qmz {d v:Nat}(hd:d≤6)(hv2:v<9223372036854775808):Qdv (d:Int) (v:Int)=some (Kr d v):=by
 unfold Qdv Kr
 rw[Xex hv2,bind_some,Xf5 hd,bind_some,Qi0 _ _ (Qu7 d),bind_some]
 congr 1;apply decide_eq_decide.2;omega
def Jt (w:Nat):Nat→List Nat
 | 0=>[]
 | k+1=>w / 2^k::Jt w k
theorem Qlb (w k:Nat):Jt w (k+1)=Jt (w / 2) k++[w]:=by
 induction k with
 | zero=>simp[Jt]
 | succ k ih=>rw[Jt,ih,Jt,List.cons_append,Nat.div_div_eq_div_mul,Nat.pow_succ,Nat.mul_comm 2]
theorem Qb0 (w k:Nat):(Jt w k).length=k:=by
 induction k with
 | zero=>rfl
 | succ k ih=>simp[Jt,ih]
theorem Qsr {w k n:Nat}(hk:2^k≤w)(h:n∈Jt w k):1≤n∧n≤w:=by
 induction k with
 | zero=>cases h
 | succ k ih=>
  have hk':2^k≤w:=by rw[Nat.pow_succ] at hk;omega
  rcases List.mem_cons.1 h with rfl|h
  · exact⟨(Nat.le_div_iff_mul_le (Nat.two_pow_pos k)).2 (by omega),Nat.div_le_self _ _⟩
  · exact ih hk' h
theorem Qkx {w k:Nat}(hk:2^k≤w):Nat.log2 (w / 2^k)=Nat.log2 w-k:=by have:=Dj w k hk;omega
theorem Qa2 {w k:Nat}(hk:2^k≤w):1≤w / 2^k:=(Nat.le_div_iff_mul_le (Nat.two_pow_pos k)).2 (by omega)
theorem Xgn {w k:Nat}(hk:2^(k+1)≤w)(hw:w<9223372036854775808):Ba ((w / 2^(k+1):Nat):Int) (w:Int)=some ((w / 2^k:Nat):Int):=by
 have hp:=Nat.two_pow_pos (k+1)
 have l1:=Qas hw
 have hl:=Dj w (k+1) hk
 unfold Ba
 rw[Qd4 (by omega) hw,bind_some,Qd4 (Qa2 hk) (Nat.lt_of_le_of_lt (Nat.div_le_self _ _) hw),bind_some,Jw (n:=(Nat.log2 w:Int)-(Nat.log2 (w / 2^(k+1)):Int)) (by omega) (by omega),Jw (by omega) (by omega)]
 rw[show(Nat.log2 w:Int)-(Nat.log2 (w / 2^(k+1)):Int)-1=((k:Nat):Int) from by omega,Rf,bind_some,Qi4 _ _ (by omega)]
theorem Qsu {w:Nat}(hw:w<9223372036854775808):∀ (k f:Nat),k<f→2^k≤w→Qv (Ub (w:Int)) f ((w / 2^k:Nat):Int)=some ((Jt w k).map Int.ofNat)
 | k,0,h,_=>by omega
 | 0,f+1,_,_=>by
  rw[Kk];simp only[Ub]
  rw[if_neg (by simp)];rfl
 | k+1,f+1,h,hk=>by
  rw[Kk];simp only[Ub]
  have h1:w / 2^(k+1)<w:=Nat.div_lt_self (by have:=Nat.two_pow_pos (k+1);omega) (Nat.one_lt_two_pow (by omega))
  rw[if_pos (by omega),Xgn hk hw,bind_some,Qsu hw k f (by omega) (by rw[Nat.pow_succ] at hk;omega)]
  rfl
theorem Qst {w k:Nat}(hw:w<9223372036854775808)(hk:2^k≤w)(hk2:k≤64):Ou ((w / 2^k:Nat):Int) (w:Int)=some ((Jt w k).map Int.ofNat):=Qsu hw k Xb (Yl (by omega)) hk
theorem Qf1 {w j k:Nat}(hk:2^k≤w)(hj:j<k):w / 2^j≠w / 2^k:=fun e=>by
 have h1:=Qkx hk
 have h2:=Qkx (w:=w) (k:=j) (Nat.le_trans (Nat.pow_le_pow_right (by omega) (by omega)) hk)
 have h3:=Dj w k hk
 rw[e] at h2;omega
theorem Qtr {w k:Nat}(hw:w<9223372036854775808)(hk:2^k≤w)(hk2:k≤64):∀ (m j f:Nat),j+m=k→m<f→Qv (Qhu ((w / 2^k:Nat):Int)) f (((w / 2^j:Nat):Int),(Jt w j).map Int.ofNat)=some (((w / 2^k:Nat):Int)::(Jt w k).map Int.ofNat)
 | m,j,0,_,h=>by omega
 | 0,j,f+1,hj,_=>by
  obtain rfl:j=k:=by omega
  rw[Kk];simp only[Qhu]
  rw[if_neg (by simp),Ti (by simp[Qb0];omega),bind_some];rfl
 | m+1,j,f+1,hj,hf=>by
  rw[Kk];simp only[Qhu]
  have hne:=Qf1 hk (show j<k by omega)
  have Jc:w / 2^j<9223372036854775808:=Nat.lt_of_le_of_lt (Nat.div_le_self _ _) hw
  rw[if_pos (by omega),Ti (by simp[Qb0];omega),bind_some,Qm6 _ Jc,bind_some,Nat.div_div_eq_div_mul,←Nat.pow_succ]
  exact Qtr hw hk hk2 m (j+1) f (by omega) (by omega)
theorem Qtq {w k:Nat}(hw:w<9223372036854775808)(hk:2^k≤w)(hk2:k≤64):Qht ((w / 2^k:Nat):Int) (w:Int)=some (((w / 2^k:Nat):Int)::(Jt w k).map Int.ofNat):=by
 have:=Qtr hw hk hk2 k 0 Xb (by omega) (Yl (by omega))
 rw[Nat.pow_zero,Nat.div_one] at this
 exact this
end Go.Sx

end
section
set_option linter.unusedVariables false
set_option linter.unusedSimpArgs false
namespace Go.Sx
open Go
def zG:Jb:=Jb.mk 0#64 0#64 0#64
def Ju (s:Qj):Bool:=decide (1#8≤s.Kind∧s.Kind≤3#8∧0≤s.Depth∧s.Depth≤6∧s.Degree=0∧s.Group=zG)
theorem Cq (s:Qj):Qhw s=some (Ju s):=by
 unfold Qhw Ju zG
 by_cases h1:1#8≤s.Kind
 · by_cases h2:s.Kind≤3#8
   · by_cases h3:0≤s.Depth
     · by_cases h4:s.Depth≤6
       · by_cases h5:s.Degree=0
         · simp[h1,h2,h3,h4,h5]
         · simp[h1,h2,h3,h4,h5]
       · simp[h1,h2,h3,h4]
     · simp[h1,h2,h3]
   · simp[h1,h2]
 · simp[h1]
theorem Qbl {s:Qj}(h:Ju s=true):∃ d:Nat,s.Depth=(d:Int)∧d≤6:=by
 unfold Ju at h
 have:=of_decide_eq_true h
 exact⟨s.Depth.toNat,by omega,by omega⟩
theorem Qn9 (s:Qj)(n:Nat)(a:Int):Qv (Uc s) (n+1) a=if Qc (a*a)<s.Depth then Qv (Uc s) n (Qc (a+1)) else some (Xj.mk s.Kind s.Depth a,true):=rfl
theorem Xgp (s:Qj){d:Nat}(hd:s.Depth=(d:Int))(h:d≤6):Qv (Uc s) Xb 1=some (Xj.mk s.Kind (d:Int) (Yz d:Int),true):=by
 have e1:Qc (1*1)=1:=by decide
 have e2:Qc (1+1)=2:=by decide
 have e3:Qc (2*2)=4:=by decide
 have e4:Qc (2+1)=3:=by decide
 have e5:Qc (3*3)=9:=by decide
 rw[show Xb=18446744073709551613+3 from rfl,Qn9,e1,e2,hd]
 unfold Yz
 by_cases h1:d≤1
 · rw[if_neg (by omega),if_pos h1,←hd];rfl
 · rw[if_pos (by omega),if_neg h1,show 18446744073709551613+2=18446744073709551614+1 from rfl,Qn9,e3,e4,hd]
   by_cases h2:d≤4
   · rw[if_neg (by omega),if_pos h2,←hd];rfl
   · rw[if_pos (by omega),if_neg h2,show 18446744073709551614=18446744073709551613+1 from rfl,Qn9,e5,hd,if_neg (by omega),←hd];rfl
def Jq (s:Qj):Xj:=Xj.mk s.Kind s.Depth (Yz s.Depth.toNat:Int)
theorem Qbk (s:Qj):Ov s=some (if Ju s then(Jq s,true) else(Xj.mk 0#8 0 0,false)):=by
 unfold Ov Bb
 by_cases hv:Ju s=true
 · rw[if_pos hv]
   obtain⟨d,hd,h6⟩:=Qbl hv
   unfold Ju at hv
   obtain⟨h1,h2,h3,h4,h5,h7⟩:=of_decide_eq_true hv
   have hs:s=Qj.mk s.Kind s.Depth 0 (Jb.mk 0#64 0#64 0#64):=by cases s;simp only at *;rw[h5,h7];rfl
   rw[if_neg (by rw[BitVec.not_lt];exact h1),if_neg (by rw[BitVec.not_lt];exact h2),if_neg (by omega),if_neg (by omega),decide_eq_false (by simpa using hs)]
   simp only[cond_false]
   rw[Xgp s hd h6]
   unfold Jq
   rw[hd,Int.toNat_natCast]
 · rw[if_neg hv]
   have hn:¬ (1#8≤s.Kind∧s.Kind≤3#8∧0≤s.Depth∧s.Depth≤6∧s.Degree=0∧s.Group=zG):=fun h=>hv (by unfold Ju;exact decide_eq_true h)
   by_cases h1:s.Kind<1#8
   · rw[if_pos h1];rfl
   · rw[if_neg h1]
     by_cases h2:3#8<s.Kind
     · rw[if_pos h2];rfl
     · rw[if_neg h2]
       by_cases h3:s.Depth<0
       · rw[if_pos h3];rfl
       · rw[if_neg h3]
         by_cases h4:(6:Int)<s.Depth
         · rw[if_pos h4];rfl
         · rw[if_neg h4,decide_eq_true (p:=s≠_)]
           · rfl
           · intro hs
             refine hn ⟨BitVec.not_lt.1 h1,BitVec.not_lt.1 h2,by omega,by omega,?_,?_⟩
             · rw[hs]
             · rw[hs];rfl
def Hm (d:Nat)(l:List Nat):Nat:=(l.find? (Kr d)).getD 0
theorem Qr4 {k:BitVec 8}{d:Nat}:∀ (l:List Nat),(∀ n∈l,1≤n∧n<9223372036854775808)→
 Js (Oo ⟨k,(d:Int),(Yz d:Int)⟩) Qcj (l.map Int.ofNat) 0=some ((Hm d l:Nat):Int)
 | [],_=>rfl
 | a::l,h=>by
  rw[List.map_cons,Fi]
  simp only[Oo]
  have ha:=h a (by simp)
  rw[show(Int.ofNat a)=(a:Int) from rfl,Qn6 ha.1 ha.2,bind_some]
  unfold Hm
  rw[List.find?_cons]
  cases hs:Kr d a with
  | true=>rfl
  | false=>exact Qr4 l (fun n hn=>h n (by simp[hn]))
theorem Qo7 {d:Nat}(hd:d≤6)(v m:Nat)(l:List Nat)(hl:l.length≤64)(hb:∀ n∈l,n<9223372036854775808):∀ (r:List Nat) (j f:Nat),j+r.length=l.length→l.drop j=r→r.length<f→
 Qv (Qhy (d:Int) ((v:Int)::(l++[m]).map Int.ofNat)) f ((j+1:Nat):Int)=some ((Hm d r:Nat):Int)
 | r,j,0,_,_,h=>by omega
 | [],j,f+1,hj,hr,_=>by
  rw[Kk];simp only[Qhy]
  rw[Jw (by simp;omega) (by simp;omega),if_neg (by simp;simp at hj;omega)];rfl
 | a::r,j,f+1,hj,hr,hf=>by
  rw[Kk];simp only[Qhy]
  have hjl:j<l.length:=by simp at hj;omega
  have ha:l[j]=a:=by
   have:=List.drop_eq_getElem_cons hjl;rw[hr] at this;exact(List.cons.inj this).1.symm
  have hr':l.drop (j+1)=r:=by
   have:=List.drop_eq_getElem_cons hjl;rw[hr] at this;exact(List.cons.inj this).2.symm
  have hg:Xr ((v:Int)::(l++[m]).map Int.ofNat) ((j+1:Nat):Int)=some (a:Int):=by
   rw[Wg (by simp;omega)]
   simp only[List.map_append,List.getElem_cons_succ,List.getElem_append_left (show j<(l.map Int.ofNat).length by simpa using hjl),List.getElem_map,ha];rfl
  rw[Jw (by simp;omega) (by simp;omega),if_pos (by simp;omega),hg,bind_some,Qmz hd (hb a (by rw[←ha];exact List.getElem_mem hjl)),bind_some]
  unfold Hm
  rw[List.find?_cons]
  cases hs:Kr d a with
  | true=>rfl
  | false=>
   simp only[cond_false]
   rw[Jw (by simp at hj;omega) (by simp at hj;omega),show((j+1:Nat):Int)+1=((j+1+1:Nat):Int) from by omega]
   exact Qo7 hd v m l hl hb r (j+1) f (by simp at hj ⊢;omega) hr' (by simp at hf;omega)
theorem Qc4 {m n:Nat}(hm:1≤m)(hn:1≤n)(h:Zm m n=true)(hne:m≠n):∃ k,Nat.log2 m-Nat.log2 n=k+1∧n=m / 2^(k+1)∧2^(k+1)≤m:=by
 unfold Zm at h
 obtain⟨h1,h2⟩:=of_decide_eq_true h
 have h3:Nat.log2 m-Nat.log2 n≠0:=fun e=>by rw[e,Nat.pow_zero,Nat.div_one] at h2;exact hne h2
 refine⟨Nat.log2 m-Nat.log2 n-1,by omega,?_,?_⟩
 · rw[show Nat.log2 m-Nat.log2 n-1+1=Nat.log2 m-Nat.log2 n from by omega];exact h2.symm
 · rw[show Nat.log2 m-Nat.log2 n-1+1=Nat.log2 m-Nat.log2 n from by omega]
   exact Nat.le_trans (Nat.pow_le_pow_right (by omega) (by omega)) (Nat.log2_self_le (by omega))
theorem Qre {m k:Nat}(h:2^(k+1)≤m):2^k≤m / 2:=by rw[Nat.le_div_iff_mul_le (by omega)];rw[Nat.pow_succ] at h;omega
theorem Qp8 {kd:BitVec 8}{d m k:Nat}(hm:m<128)(hk:2^(k+1)≤m)(hk2:k≤60):Sl ⟨kd,(d:Int),(Yz d:Int)⟩ ((m / 2^(k+1):Nat):Int) (m:Int)=some ((Hm d (Jt (m / 2) k):Nat):Int):=by
 unfold Sl Ua Qet
 rw[show Jp (un 1#64)=some 1 from by decide,bind_some,bind_some,Qi4 _ _ (by omega),Nat.pow_one]
 simp only
 have e:m / 2^(k+1)=m / 2 / 2^k:=by rw[Nat.div_div_eq_div_mul,Nat.pow_succ,Nat.mul_comm 2]
 have hp:=Qre hk
 rw[e,Qst (by omega) hp (by omega),bind_some,Qr4 _ (fun n hn=>by have:=Qsr hp hn;omega),bind_some]
theorem Qo6 {d m k:Nat}(hd:d≤6)(hm:m<128)(hk:2^(k+1)≤m)(hk2:k≤60):Qhx (d:Int) ((m / 2^(k+1):Nat):Int) (m:Int)=some ((Hm d (Jt (m / 2) k):Nat):Int):=by
 have hp:=Qre hk
 unfold Qhx
 rw[Qtq (by omega) hk (by omega),bind_some,Qlb]
 have:=Qo7 hd (m / 2^(k+1)) m (Jt (m / 2) k) (by rw[Qb0];omega) (fun n hn=>by have:=Qsr hp hn;omega) (Jt (m / 2) k) 0 Xb (by omega) rfl (Yl (by rw[Qb0];omega))
 exact this
theorem Qd3 {m k:Nat}(h:2^k≤m)(hm:m<128):k≤6:=by
 have h1:=(Nat.le_log2 (n:=m) (by have:=Nat.two_pow_pos k;omega)).2 h
 have h2:Nat.log2 m<7:=(Nat.log2_lt (by have:=Nat.two_pow_pos k;omega)).2 (by omega)
 omega
def Mh (s:Qj)(x:Qx):Prop:=Tl s.Depth.toNat x.Node=true∧(s.Kind=1#8∨x.Minus=0∨(∃ m n k:Nat,x.Minus=(m:Int)∧x.Node=(n:Int)∧n=m / 2^(k+1)∧2^(k+1)≤m∧m<128∧k≤6∧1≤n))
theorem Xga (s:Qj)(hv:Ju s=true)(x:Qx):∃ b,Lj (Jq s) x=some b∧Nx s x=some b∧(b=true→Mh s x):=by
 obtain⟨d,hd,h6⟩:=Qbl hv
 have ht:Jq s=⟨s.Kind,(d:Int),(Yz d:Int)⟩:=by unfold Jq;rw[hd,Int.toNat_natCast]
 rw[ht]
 unfold Lj Nx
 rw[hd,Qfu h6,Qav h6,bind_some,bind_some]
 have hno:false=true→Mh s x:=fun h=>by cases h
 cases h1:Tl d x.Node with
 | false=>exact⟨false,rfl,rfl,hno⟩
 | true=>
  have hsd:Tl s.Depth.toNat x.Node=true:=by rw[hd,Int.toNat_natCast];exact h1
  simp only[Bool.not_true,cond_false]
  obtain⟨n,hn,hn1,hn2⟩:=Qft h6 h1
  by_cases hk:s.Kind=1#8
  · rw[if_pos hk,if_pos hk]
    unfold Qa0
    rw[cond_true]
    by_cases hm:x.Minus=0
    · rw[if_pos hm,if_pos hk];exact⟨true,rfl,by rw[decide_eq_true hm],fun _=>⟨hsd,.inl hk⟩⟩
    · rw[if_neg hm];exact⟨false,rfl,by rw[decide_eq_false hm],hno⟩
  · rw[if_neg hk,if_neg hk]
    unfold Qa0
    by_cases hm:x.Minus=0
    · rw[decide_eq_true hm,cond_true,if_pos hm,if_neg hk,if_pos hm]
      exact⟨_,rfl,rfl,fun _=>⟨hsd,.inr (.inl hm)⟩⟩
    · rw[decide_eq_false hm,cond_false,if_neg hm,Qfu h6,Qav h6,bind_some,bind_some]
      have hf:∃ b,Uh ⟨s.Kind,(d:Int),(Yz d:Int)⟩ x true=some b∧Af s x true=some b∧(b=true→Mh s x):=⟨false,rfl,rfl,hno⟩
      cases h2:Tl d x.Minus with
      | false=>exact hf
      | true=>
       rw[Bool.not_true,cond_false,cond_false]
       obtain⟨m,hm1,hm2,hm3⟩:=Qft h6 h2
       by_cases he:x.Minus=x.Node
       · rw[if_pos he,if_pos he];exact hf
       · have e1:Oq x.Minus x.Node=some (Zm m n):=by rw[hm1,hn];exact Qw9 hm2 hn1 (by omega) (by omega)
         have e2:Qme x.Minus x.Node=some (Zm m n):=by rw[hm1,hn];exact Qt7 hm2 hn1 (by omega)
         rw[if_neg he,if_neg he,e1,e2,bind_some,bind_some]
         cases h3:Zm m n with
         | false=>exact hf
         | true=>
          obtain⟨k,hk0,hk1,hk2⟩:=Qc4 hm2 hn1 h3 (by omega)
          have hkl:=Qd3 hk2 hm3
          have hok:∀ b:Bool,b=true→Mh s x:=fun b _=>⟨hsd,.inr (.inr ⟨m,n,k,hm1,hn,hk1,hk2,hm3,by omega,hn1⟩)⟩
          unfold Uh Af
          rw[Bool.not_true,cond_false,cond_false]
          by_cases hk3:s.Kind=2#8
          · rw[if_pos hk3,if_pos hk3];exact⟨true,rfl,rfl,hok true⟩
          · have e3:Li ⟨s.Kind,(d:Int),(Yz d:Int)⟩ x.Node=some (Kr d n):=by rw[hn];exact Qn6 hn1 (by omega)
            have e4:Qdv s.Depth x.Node=some (Kr d n):=by rw[hn,hd];exact Qmz h6 (by omega)
            rw[if_neg hk3,if_neg hk3,e3,e4,bind_some,bind_some]
            cases hs:Kr d n with
            | true=>exact⟨true,rfl,rfl,hok true⟩
            | false=>
             rw[cond_false,cond_false]
             have e5:Sl ⟨s.Kind,(d:Int),(Yz d:Int)⟩ x.Node x.Minus=some ((Hm d (Jt (m / 2) k):Nat):Int):=by rw[hn,hm1,hk1];exact Qp8 hm3 hk2 (by omega)
             have e6:Qhx s.Depth x.Node x.Minus=some ((Hm d (Jt (m / 2) k):Nat):Int):=by rw[hn,hm1,hd,hk1];exact Qo6 h6 hm3 hk2 (by omega)
             rw[e5,e6,bind_some]
             exact⟨_,rfl,rfl,hok _⟩
end Go.Sx

end
section
set_option linter.unusedVariables false
set_option linter.unusedSimpArgs false
namespace Go.Sx
open Go
theorem Qr5 {α σ τ R:Type}(l:List α)(F:(τ→Option R)→τ→Option R)(pk:Nat→σ→τ)(B:α→(σ→Option R)→σ→Option R)(D:σ→Option R)
 (h1:∀ rec (j:Nat) (hj:j<l.length) s,F rec (pk j s)=B l[j] (fun s'=>rec (pk (j+1) s')) s) (h2:∀ rec s,F rec (pk l.length s)=D s):
 ∀ (m j f:Nat) (s:σ),j+m=l.length→m<f→Qv F f (pk j s)=Js B D (l.drop j) s
 | m,j,0,s,_,h=>by omega
 | 0,j,f+1,s,hj,_=>by
  have:j=l.length:=by omega
  subst this
  rw[Kk,h2,List.drop_length];rfl
 | m+1,j,f+1,s,hj,hf=>by
  have hjl:j<l.length:=by omega
  rw[Kk,h1 _ j hjl,List.drop_eq_getElem_cons hjl,Fi]
  have:(fun s'=>Qv F f (pk (j+1) s'))=Js B D (l.drop (j+1)):=funext fun s'=>Qr5 l F pk B D h1 h2 m (j+1) f s' (by omega) (by omega)
  rw[this]
theorem Qkj {α σ τ R:Type}(l:List α)(F:(τ→Option R)→τ→Option R)(pk:Nat→σ→τ)(B:α→(σ→Option R)→σ→Option R)(D:σ→Option R)
 (h1:∀ rec (j:Nat) (hj:j<l.length) s,F rec (pk j s)=B l[j] (fun s'=>rec (pk (j+1) s')) s) (h2:∀ rec s,F rec (pk l.length s)=D s) {f:Nat} (hf:l.length<f) (s:σ):Qv F f (pk 0 s)=Js B D l s:=by
 have:=Qr5 l F pk B D h1 h2 l.length 0 f s (by omega) hf
 rwa[List.drop_zero] at this
theorem Qr6 {σ τ R:Type}(n:Nat)(F:(τ→Option R)→τ→Option R)(pk:Nat→σ→τ)(B:Nat→(σ→Option R)→σ→Option R)(D:σ→Option R)
 (h1:∀ rec (j:Nat) (hj:j<n) s,F rec (pk j s)=B j (fun s'=>rec (pk (j+1) s')) s) (h2:∀ rec s,F rec (pk n s)=D s) {f:Nat} (hf:n<f) (s:σ):Qv F f (pk 0 s)=Js B D (List.range n) s:=
 Qkj (List.range n) F pk B D (fun rec j hj s=>by rw[List.length_range] at hj;rw[h1 rec j hj,List.getElem_range]) (fun rec s=>by rw[List.length_range];exact h2 rec s) (by rw[List.length_range];exact hf) s
theorem Xb7 {α β σ R:Type}(F:β→(σ→Option R)→σ→Option R)(d:σ→Option R)(g:α→β)(l:List α):Js F d (l.map g)=Js (fun a=>F (g a)) d l:=by unfold Js;rw[List.foldr_map]
theorem Qrl {α σ R:Type}(g:σ→α→σ)(F:α→(σ→Option R)→σ→Option R)(d:σ→Option R)(I:Nat→σ→Prop):∀ (l:List α) (k:Nat) (s:σ),(∀ j (a:α) s nx,a∈l→I j s→F a nx s=nx (g s a))→(∀ j (a:α) s,a∈l→I j s→I (j+1) (g s a))→I k s→Js F d l s=d (l.foldl g s)
 | [],k,s,_,_,_=>rfl
 | a::l,k,s,h,hi,hs=>by
  rw[Fi,h k a s _ (by simp) hs,List.foldl_cons]
  exact Qrl g F d I l (k+1) (g s a) (fun j b s nx hb=>h j b s nx (by simp[hb])) (fun j b s hb=>hi j b s (by simp[hb])) (hi k a s (by simp) hs)
theorem Qg0 {α β R:Type}(b n:Nat)(p:α→Bool)(f:α→β)(F:α→(List β→Option R)→List β→Option R)(d:List β→Option R):∀ (l:List α) (s:List β),(∀ a∈l,∀ nx s,F a nx s=bif p a then Option.bind (Vy b s [f a]) nx else nx s)→(s.length+l.length)*b≤140737488355328→Js F d l s=d (s++(l.filter p).map f)
 | [],s,_,_=>by simp[Xb8]
 | a::l,s,h,hb=>by
  have hlen:(s.length+(a::l).length)*b=(s.length+1+l.length)*b:=by congr 1;simp;omega
  rw[Fi,h a (by simp),List.filter_cons]
  cases hp:p a with
  | true=>
   have h2:(s.length+1)*b≤(s.length+1+l.length)*b:=Nat.mul_le_mul_right _ (by omega)
   rw[cond_true,Ti (by simp;omega),bind_some,Qg0 b n p f F d l (s++[f a]) (fun x hx=>h x (by simp[hx])) (by simp;omega)]
   simp
  | false=>
   have h2:(s.length+l.length)*b≤(s.length+1+l.length)*b:=Nat.mul_le_mul_right _ (by omega)
   rw[cond_false,Qg0 b n p f F d l s (fun x hx=>h x (by simp[hx])) (by omega)]
   simp
theorem Xi7 {α:Type}(x:α)(l:List α):yl x (some l)=some (x::l):=rfl
theorem Hz {n:Nat}(h:n<9223372036854775807):Qc ((n:Int)+1)=((n+1:Nat):Int):=by rw[Jw (by omega) (by omega)];omega
end Go.Sx

end
section
set_option linter.unusedVariables false
set_option linter.unusedSimpArgs false
namespace Go.Sx
open Go
def Lq (leaf:Nat)(v w:Nat):Bool:=Zm leaf v&&(decide (w=0) || !Zm leaf w)
def Qbw (s:Qj)(x:Qx)(n m:Nat):Prop:=x.Node=(n:Int)∧x.Minus=(m:Int)∧1≤n∧n<128∧m<128
theorem Xg4 (s:Qj)(hv:Ju s=true)(x:Qx)(h:Nx s x=some true):∃ n m:Nat,Qbw s x n m:=by
 obtain⟨d,hd,h6⟩:=Qbl hv
 unfold Nx at h
 rw[hd,Qav h6,bind_some] at h
 cases h1:Tl d x.Node with
 | false=>rw[h1] at h;simp at h
 | true=>
  obtain⟨n,hn,hn1,hn2⟩:=Qft h6 h1
  rw[h1] at h
  simp only[Bool.not_true,cond_false] at h
  by_cases hm:x.Minus=0
  · exact⟨n,0,hn,by simpa using hm,hn1,hn2,by omega⟩
  · by_cases hk:s.Kind=1#8
    · rw[if_pos hk,decide_eq_false hm] at h;simp at h
    · rw[if_neg hk,if_neg hm,Qav h6,bind_some] at h
      cases h2:Tl d x.Minus with
      | false=>rw[h2] at h;simp[Af] at h
      | true=>
       obtain⟨m,hm1,hm2,hm3⟩:=Qft h6 h2
       exact⟨n,m,hn,hm1,hn1,hn2,hm3⟩
theorem Xbx {k:BitVec 8}{d u:Nat}{st:Int}(h:d≤6)(hu:u<128):Ud ⟨k,(d:Int),st⟩ (u:Int)=some ((2^d+u:Nat):Int):=by
 have:=Ve h
 unfold Ud
 rw[Qn5 h,bind_some]
 generalize 2^d=m at *
 rw[Jw (by omega) (by omega)];congr 1
theorem Qqa (s:Qj):Dw s ([]:List Qx)=some (if Ju s then(Jq s,0) else(Xj.mk 0#8 0 0,30)):=by
 unfold Dw
 rw[Qbk,bind_some]
 cases hv:Ju s with
 | false=>rfl
 | true=>rfl
theorem Qzp (s:Qj)(hv:Ju s=true)(x:Qx):∃ b,Dw s [x]=some (if b then(Jq s,0) else(Xj.mk 0#8 0 0,31))∧Nx s x=some b∧Lj (Jq s) x=some b∧(b=true→Mh s x∧∃ n m,Qbw s x n m):=by
 obtain⟨b,e1,e2,e3⟩:=Xga s hv x
 refine⟨b,?_,e2,e1,fun h=>⟨e3 h,Xg4 s hv x (h ▸ e2)⟩⟩
 unfold Dw
 rw[Qbk,bind_some,if_pos hv]
 show Qv (Rx [x] (Jq s,true)) (18446744073709551614+1+1) 0=_
 rw[Kk];simp only[Rx]
 rw[if_pos (by simp),show Xr [x] 0=some x from rfl,bind_some,e1,bind_some]
 cases b with
 | false=>rfl
 | true=>rfl
end Go.Sx

end
section
set_option linter.unusedVariables false
set_option linter.unusedSimpArgs false
set_option maxRecDepth 100000
namespace Go.Sx
open Go
def Wj (k:BitVec 8)(d v w:Nat):Bool:=decide (k=2#8)||Kr d v||decide (Hm d (Jt (w / 2) (Nat.log2 w-Nat.log2 v-1))=0)
def Qrt (k:BitVec 8)(d leaf:Nat):Nat→List (Nat × Nat)
 | 0=>[]
 | j+1=>((Jt leaf (j+1)).filter fun p=>Wj k d (leaf / 2^(j+1)) (p ^^^ 1)).map (fun p=>(leaf / 2^(j+1),p ^^^ 1))++Qrt k d leaf j
def Hh (k:BitVec 8)(d u:Nat):List (Nat × Nat):=(1,0)::if k=1#8 then(Jt (2^d+u) d).map (fun p=>(p,0)) else Qrt k d (2^d+u) d
def Qg4 (k:BitVec 8)(d u:Nat):List (Int × Int):=(Hh k d u).map fun x=>((x.1:Int),(x.2:Int))
def Fo (k:BitVec 8)(d u:Nat):List Qx:=(Hh k d u).map fun x=>Qx.mk (x.1:Int) (x.2:Int)
def Eb (k:BitVec 8)(d u:Nat):Bool:=
 decide (Ox ⟨k,(d:Int),(Yz d:Int)⟩ (u:Int)=some (Qg4 k d u))&&decide (Qmh ⟨k,(d:Int),0,zG⟩ (u:Int)=some (Fo k d u))&&decide ((Hh k d u).length≤100) &&
  (Hh k d u).all fun x=>decide (1≤x.1∧x.1<128∧x.2<128)&&(decide (x.2=0)||(Zm x.2 x.1 && !decide (x.2=x.1)))
theorem Xbn:∀ d:Fin 7,(List.range (2^d.1)).all (fun u=>Eb 1#8 d.1 u)=true:=by decide +kernel
theorem Xbo:∀ d:Fin 6,(List.range (2^d.1)).all (fun u=>Eb 2#8 d.1 u)=true:=by decide +kernel
theorem Xbp:(List.range 64).all (fun u=>Eb 2#8 6 u)=true:=by decide +kernel
theorem Xbq:∀ d:Fin 6,(List.range (2^d.1)).all (fun u=>Eb 3#8 d.1 u)=true:=by decide +kernel
theorem Xbr:(List.range 64).all (fun u=>Eb 3#8 6 u)=true:=by decide +kernel
theorem Qrq {k:BitVec 8}(h1:1#8≤k)(h3:k≤3#8):k=1#8∨k=2#8∨k=3#8:=by
 have a:1≤k.toNat:=h1
 have b:k.toNat≤3:=h3
 rcases(show k.toNat=1∨k.toNat=2∨k.toNat=3 by omega) with h|h|h
 · exact .inl (BitVec.eq_of_toNat_eq h)
 · exact .inr (.inl (BitVec.eq_of_toNat_eq h))
 · exact .inr (.inr (BitVec.eq_of_toNat_eq h))
theorem Qkr {k:BitVec 8}{d u:Nat}(h1:1#8≤k)(h3:k≤3#8)(hd:d≤6)(hu:u<2^d):Eb k d u=true:=by
 have key:∀ {n:Nat} {f:Nat→Bool},(List.range n).all f=true→u<n→f u=true:=fun h hu=>List.all_eq_true.1 h u (List.mem_range.2 hu)
 rcases Qrq h1 h3 with rfl|rfl|rfl
 · exact key (Xbn ⟨d,by omega⟩) hu
 · rcases Nat.lt_or_ge d 6 with h|h
   · exact key (Xbo ⟨d,h⟩) hu
   · obtain rfl:d=6:=by omega
     exact key Xbp hu
 · rcases Nat.lt_or_ge d 6 with h|h
   · exact key (Xbq ⟨d,h⟩) hu
   · obtain rfl:d=6:=by omega
     exact key Xbr hu
theorem Qv6 {s:Qj}(h:Ju s=true):1#8≤s.Kind∧s.Kind≤3#8:=by
 unfold Ju at h
 have:=of_decide_eq_true h
 exact⟨this.1,this.2.1⟩
theorem Xh4 {s:Qj}{d:Nat}(h:Ju s=true)(hd:s.Depth=(d:Int)):s=⟨s.Kind,(d:Int),0,zG⟩:=by
 unfold Ju at h
 have:=of_decide_eq_true h
 cases s;simp only at *;rw[hd,this.2.2.2.2.1,this.2.2.2.2.2]
theorem Xbs {s:Qj}{d u:Nat}(hv:Ju s=true)(hd:s.Depth=(d:Int))(h6:d≤6)(hu:u<2^d):
 Ox ⟨s.Kind,(d:Int),(Yz d:Int)⟩ (u:Int)=some (Qg4 s.Kind d u)∧Qmh s (u:Int)=some (Fo s.Kind d u)∧(Hh s.Kind d u).length≤100∧
 ∀ x∈Hh s.Kind d u,(1≤x.1∧x.1<128∧x.2<128)∧(x.2=0∨(Zm x.2 x.1=true∧x.2≠x.1)):=by
 obtain⟨k1,k3⟩:=Qv6 hv
 have h:=Qkr k1 k3 h6 hu
 unfold Eb at h
 simp only[Bool.and_eq_true,decide_eq_true_eq,List.all_eq_true,Bool.or_eq_true,Bool.not_eq_true',decide_eq_false_iff_not] at h
 refine⟨h.1.1.1,?_,h.1.2,h.2⟩
 rw[Xh4 hv hd];exact h.1.1.2
end Go.Sx

end
section
set_option linter.unusedVariables false
set_option linter.unusedSimpArgs false
namespace Go.Sx
open Go
def Rk (k:W2)(n:Nat):W2:=if n%2=1 then Xy k (Qs 32#8) 0#64 else Xy k (Qs 31#8) 0#64
theorem Qjm:∀ (l:List Nat) (k:W2),Js Om Qch (l.map Int.ofNat) k=some (l.foldl Rk k)
 | [],k=>rfl
 | a::l,k=>by
  rw[List.map_cons,Fi]
  simp only[Om,Qci]
  rw[show(Int.ofNat a)=(a:Int) from rfl,show(2:Int)=((2:Nat):Int) from rfl,Qi0 a 2 (by omega),bind_some,List.foldl_cons]
  unfold Rk
  by_cases h:a%2=1
  · rw[if_pos (by omega),if_pos h];exact Qjm l _
  · rw[if_neg (by omega),if_neg h];exact Qjm l _
theorem Qpg {w k:Nat}(key:W2)(hw:w<9223372036854775808)(hk:2^k≤w)(hk2:k≤64):Mw key ((w / 2^k:Nat):Int) (w:Int)=some ((Jt w k).foldl Rk key):=by
 unfold Mw Ua
 rw[bind_some]
 simp only
 rw[Qst hw hk hk2,bind_some,Qjm]
theorem Xg1 (k:W2)(n:Nat):Qmp k (n:Int)=some (Rk k n):=by
 unfold Qmp Rk
 rw[show(2:Int)=((2:Nat):Int) from rfl,Qi0 n 2 (by omega),bind_some]
 by_cases h:n%2=1
 · rw[if_neg (by omega),if_pos h]
 · rw[if_pos (by omega),if_neg h]
theorem Qpi (v:Int)(l:List Nat)(hl:l.length≤1000):∀ (r:List Nat) (j f:Nat) (k:W2),j+r.length=l.length→l.drop j=r→r.length<f→Qv (Qhz (v::l.map Int.ofNat)) f (((j+1:Nat):Int),k)=some (r.foldl Rk k)
 | r,j,0,k,_,_,h=>by omega
 | [],j,f+1,k,hj,hr,_=>by
  rw[Kk];simp only[Qhz]
  rw[if_neg (by simp at hj ⊢;omega)];rfl
 | a::r,j,f+1,k,hj,hr,hf=>by
  rw[Kk];simp only[Qhz]
  have hjl:j<l.length:=by simp at hj;omega
  have ha:l[j]=a:=by
   have:=List.drop_eq_getElem_cons hjl;rw[hr] at this;exact(List.cons.inj this).1.symm
  have hr':l.drop (j+1)=r:=by
   have:=List.drop_eq_getElem_cons hjl;rw[hr] at this;exact(List.cons.inj this).2.symm
  have hg:Xr (v::l.map Int.ofNat) ((j+1:Nat):Int)=some (a:Int):=by
   rw[Wg (by simp;omega)]
   simp only[List.getElem_cons_succ,List.getElem_map,ha];rfl
  rw[if_pos (by simp;omega),hg,bind_some,Xg1,bind_some,Jw (by simp at hj;omega) (by simp at hj;omega),show((j+1:Nat):Int)+1=((j+1+1:Nat):Int) from by omega,List.foldl_cons]
  exact Qpi v l hl r (j+1) f _ (by simp at hj ⊢;omega) hr' (by simp at hf;omega)
theorem Qph {w k:Nat}(key:W2)(hw:w<9223372036854775808)(hk:2^k≤w)(hk2:k≤64):Qmn key ((w / 2^k:Nat):Int) (w:Int)=some ((Jt w k).foldl Rk key):=by
 unfold Qmn
 rw[Qtq hw hk hk2,bind_some]
 exact Qpi _ (Jt w k) (by rw[Qb0];omega) (Jt w k) 0 Xb key (by omega) rfl (Yl (by rw[Qb0];omega))
end Go.Sx

end
section
set_option linter.unusedVariables false
set_option linter.unusedSimpArgs false
namespace Go.Sx
open Go
theorem Qr3 {α:Type}(l:List α):(l.filter fun _=>true)=l:=List.filter_eq_self.2 (by simp)
theorem Qcy {τ R:Type}(F:(τ→Option R)→τ→Option R)(I:Nat→τ→Prop)(n:Nat)(r:Option R)(hs:∀ j s,j<n→I j s→∃ s',I (j+1) s'∧∀ rec,F rec s=rec s')(he:∀ s,I n s→∀ rec,F rec s=r):
 ∀ (m j f:Nat) (s:τ),j+m=n→m<f→I j s→Qv F f s=r
 | m,j,0,s,_,h,_=>by omega
 | 0,j,f+1,s,hj,_,hi=>by
  have:j=n:=by omega
  subst this
  rw[Kk,he s hi]
 | m+1,j,f+1,s,hj,hf,hi=>by
  obtain⟨s',h1,h2⟩:=hs j s (by omega) hi
  rw[Kk,h2]
  exact Qcy F I n r hs he m (j+1) f s' (by omega) (by omega) h1
end Go.Sx

end
section
set_option linter.unusedVariables false
set_option linter.unusedSimpArgs false
namespace Go.Sx
open Go
def Fl (root:W2)(k:BitVec 8)(x:Nat × Nat):W2:=
 if x.2=0 then(if k=1#8 then Xy root (Qs 30#8) (wd (x.1:Int)) else Xy root (Qs 34#8) 0#64) else(Jt x.2 (Nat.log2 x.2-Nat.log2 x.1)).foldl Rk (Xy root (Qs 30#8) (wd (x.1:Int)))
def lbl (root:W2)(k:BitVec 8)(x:Nat × Nat):Je:=Je.mk (x.1:Int) (x.2:Int) (Fl root k x)
def Nz (root:W2)(k:BitVec 8)(d u:Nat):List Je:=(Hh k d u).map (lbl root k)
def Qbu (x:Nat × Nat):Prop:=(1≤x.1∧x.1<128∧x.2<128)∧(x.2=0∨(Zm x.2 x.1=true∧x.2≠x.1))
theorem Qks {x:Nat × Nat}(h:Qbu x)(h0:x.2≠0):∃ k,Nat.log2 x.2-Nat.log2 x.1=k+1∧x.1=x.2 / 2^(k+1)∧2^(k+1)≤x.2∧k≤6:=by
 rcases h.2 with h2|⟨h2,h3⟩
 · exact absurd h2 h0
 · obtain⟨k,e1,e2,e3⟩:=Qc4 (by omega) h.1.1 h2 h3
   have:=Qd3 e3 h.1.2.2
   exact⟨k,e1,e2,e3,by omega⟩
theorem Qt3 {root:W2}{s:Qj}{d u:Nat}(ui:Int)(h:∀ x∈Hh s.Kind d u,Qbu x)(hl:(Hh s.Kind d u).length≤100):
 Js (Ol root (Jq s,0)) (Ok ui) (Qg4 s.Kind d u) []=some (Xp.mk ui (Nz root s.Kind d u) (Xq.mk 0#64 0#64),0):=by
 unfold Qg4
 rw[Xb7]
 refine(Qg0 32 0 (fun _=>true) (lbl root s.Kind) _ _ _ _ (fun a ha nx l=>?_) (by simp;omega)).trans (by simp[Ok,Nz,Qr3])
 have hok:=h a ha
 simp only[Ol,Qcf,cond_true]
 by_cases h0:a.2=0
 · rw[if_pos (by omega)]
   have:Bc (Jq s) root (Qx.mk (a.1:Int) 0)=some (Fl root s.Kind a):=by
    unfold Bc Fl Ry
    rw[if_pos h0,show(Jq s).kind=s.Kind from rfl]
    by_cases hk:s.Kind=1#8
    · rw[if_pos hk,if_pos hk];rfl
    · rw[if_neg hk,if_neg hk,if_pos rfl]
   rw[this,bind_some];rfl
 · rw[if_neg (by omega)]
   obtain⟨k,e1,e2,e3,e4⟩:=Qks hok h0
   unfold Ry
   rw[bind_some]
   have:Mw (Xy root (Qs 30#8) (wd (a.1:Int))) (a.1:Int) (a.2:Int)=some (Fl root s.Kind a):=by
    have:=Qpg (Xy root (Qs 30#8) (wd (a.1:Int))) (w:=a.2) (k:=k+1) (by have:=hok.1.2.2;omega) e3 (by omega)
    rw[←e2] at this
    rw[this,Fl,if_neg h0,e1]
   rw[this,bind_some];rfl
theorem Xbc {root:W2}{s:Qj}{x:Nat × Nat}(h:Qbu x)(hk1:s.Kind=1#8→x.2=0):∃ k,Qmg root s (Qx.mk (x.1:Int) (x.2:Int))=some k∧(x.2=0→k=Fl root s.Kind x):=by
 unfold Qmg Fl
 by_cases hk:s.Kind=1#8
 · rw[if_pos hk];exact⟨_,rfl,fun h0=>by rw[if_pos h0,if_pos hk]⟩
 · rw[if_neg hk]
   by_cases h0:x.2=0
   · rw[if_pos (by simp[h0])];exact⟨_,rfl,fun _=>by rw[if_pos h0,if_neg hk]⟩
   · rw[if_neg (by simp only;omega)]
     obtain⟨k,e1,e2,e3,e4⟩:=Qks h h0
     unfold Qdw
     have:=Qph (Xy root (Qs 30#8) (wd (x.1:Int))) (w:=x.2) (k:=k+1) (by have:=h.1.2.2;omega) e3 (by omega)
     rw[←e2] at this
     simp only
     rw[this,bind_some,bind_some]
     exact⟨_,rfl,fun h=>absurd h h0⟩
theorem Xew {root:W2}{k':BitVec 8}{x:Nat × Nat}(h:Qbu x)(h0:x.2≠0):Qdw root (x.1:Int) (x.2:Int)=some (Fl root k' x):=by
 obtain⟨k,e1,e2,e3,e4⟩:=Qks h h0
 unfold Qdw Fl
 have:=Qph (Xy root (Qs 30#8) (wd (x.1:Int))) (w:=x.2) (k:=k+1) (by have:=h.1.2.2;omega) e3 (by omega)
 rw[←e2] at this
 rw[this,bind_some,if_neg h0,e1]
theorem Xbm {k:BitVec 8}{d u:Nat}(hk:k=1#8):∀ x∈Hh k d u,x.2=0:=by
 intro x hx
 unfold Hh at hx
 rw[if_pos hk] at hx
 rcases List.mem_cons.1 hx with rfl|hx
 · rfl
 · obtain⟨p,_,rfl⟩:=List.mem_map.1 hx;rfl
theorem Qmy {root:W2}{s:Qj}{d u:Nat}(ui:Int)(h:∀ x∈Hh s.Kind d u,Qbu x)(hl:(Hh s.Kind d u).length≤100):
 Qv (Qdu root s ui (Fo s.Kind d u)) Xb (0,[])=some (Xp.mk ui (Nz root s.Kind d u) (Xq.mk 0#64 0#64)):=by
 have hls:(Fo s.Kind d u).length=(Hh s.Kind d u).length:=by simp[Fo]
 have:=Qkj (Hh s.Kind d u) (Qdu root s ui (Fo s.Kind d u)) (fun j (acc:List Je)=>((j:Int),acc)) (fun a nx acc=>Option.bind (Vy 32 acc [lbl root s.Kind a]) nx) (fun acc=>some (Xp.mk ui acc (Xq.mk 0#64 0#64)))
  (fun rec j hj acc=>by
   have hj':j<(Fo s.Kind d u).length:=by omega
   have hg:(Fo s.Kind d u)[j]=Qx.mk ((Hh s.Kind d u)[j].1:Int) ((Hh s.Kind d u)[j].2:Int):=by simp[Fo]
   have hok:=h _ (List.getElem_mem hj)
   obtain⟨k,e1,e2⟩:=Xbc (root:=root) (s:=s) hok (fun hk=>Xbm hk _ (List.getElem_mem hj))
   simp only[Qdu,Qtf,Qml]
   rw[if_pos (by omega),Wg hj',bind_some,hg,e1,bind_some,bind_some]
   simp only[bind_some]
   by_cases h0:(Hh s.Kind d u)[j].2=0
   · rw[if_neg (by omega),e2 h0,Hz (by omega)];rfl
   · rw[if_pos (by omega),Xew (k':=s.Kind) hok h0,bind_some,Hz (by omega)];rfl)
  (fun rec acc=>by simp only[Qdu];rw[if_neg (by omega)]) (f:=Xb) (Yl (by omega)) ([]:List Je)
 rw[show((0:Nat):Int)=0 from rfl] at this
 rw[this]
 exact(Qg0 32 0 (fun _=>true) (lbl root s.Kind) _ _ _ _ (fun a _ nx l=>rfl) (by simp;omega)).trans (by simp[Nz,Qr3])
theorem Qt9 {k:BitVec 8}{d:Nat}{st u:Int}(h:d≤6):Uf ⟨k,(d:Int),st⟩ u=some (decide (0≤u∧u<((2^d:Nat):Int))):=by
 unfold Uf
 by_cases h0:(0:Int)≤u
 · rw[if_pos h0,Qn5 h,bind_some];congr 1;apply decide_eq_decide.2;omega
 · rw[if_neg h0];congr 1;symm;apply decide_eq_false;omega
theorem Xf4 {d:Nat}{u:Int}(h:d≤6):Qmo (d:Int) u=some (decide (0≤u∧u<((2^d:Nat):Int))):=by
 unfold Qmo
 by_cases h0:(0:Int)≤u
 · rw[if_pos h0,Qdr h,bind_some];congr 1;apply decide_eq_decide.2;omega
 · rw[if_neg h0];congr 1;symm;apply decide_eq_false;omega
def Qi1:Xp:=Xp.mk 0 [] (Xq.mk 0#64 0#64)
def Qbg (root:W2)(s:Qj)(u:Int):Xp × Int:=
 if Ju s then(if 0≤u∧u<((2^s.Depth.toNat:Nat):Int) then(Xp.mk u (Nz root s.Kind s.Depth.toNat u.toNat) (Xq.mk 0#64 0#64),0) else(Qi1,2)) else(Qi1,30)
theorem Qvs (root:W2)(s:Qj)(u:Int):Qce root s u=some (Qbg root s u)∧Qtd root s u=some (Qbg root s u)∧(Qbg root s u).1.Labels.length≤100:=by
 unfold Qce Qtd Qbg
 rw[Qqa,Cq,bind_some,bind_some]
 cases hv:Ju s with
 | false=>exact⟨rfl,rfl,by simp[Qi1]⟩
 | true=>
  obtain⟨d,hd,h6⟩:=Qbl hv
  have ht:Jq s=⟨s.Kind,(d:Int),(Yz d:Int)⟩:=by unfold Jq;rw[hd,Int.toNat_natCast]
  simp only[if_true,Bool.not_true,cond_false]
  rw[if_neg (by simp),hd,Xf4 h6,Int.toNat_natCast]
  have e0:Uf (Jq s) u=some (decide (0≤u∧u<((2^d:Nat):Int))):=by rw[ht];exact Qt9 h6
  rw[e0,bind_some,bind_some]
  by_cases hu:0≤u∧u<((2^d:Nat):Int)
  · rw[decide_eq_true hu,if_pos hu]
    simp only[Bool.not_true,cond_false]
    obtain⟨n,hn⟩:∃ n:Nat,u=(n:Int):=⟨u.toNat,by omega⟩
    subst hn
    obtain⟨e1,e2,e3,e4⟩:=Xbs (u:=n) hv hd h6 (by omega)
    unfold Qck Qte
    rw[bind_some]
    simp only
    rw[Int.toNat_natCast,ht,e1,e2,bind_some,bind_some,←ht,Qt3 _ e4 e3,Qmy _ e4 e3,bind_some]
    exact⟨rfl,rfl,by simpa[Nz] using e3⟩
  · rw[decide_eq_false hu,if_neg hu];exact⟨rfl,rfl,by simp[Qi1]⟩
end Go.Sx

end
section
set_option linter.unusedVariables false
set_option linter.unusedSimpArgs false
set_option maxRecDepth 100000
namespace Go.Sx.Po
open Go
abbrev bn (n:Nat):BitVec 64:=BitVec.ofNat 64 n
theorem Ik (x:BitVec 64):∃ n,n<18446744073709551616∧x=bn n:=⟨x.toNat,x.isLt,by simp[bn]⟩
theorem Wn {n:Nat}(h:n<18446744073709551616):(bn n).toNat=n:=by rw[bn,BitVec.toNat_ofNat];exact Nat.mod_eq_of_lt h
theorem Rt {a b:Nat}(ha:a<18446744073709551616)(hb:b<18446744073709551616):bn a=bn b↔a=b:=by
 constructor
 · intro h;rw[←Wn ha,←Wn hb,h]
 · intro h;rw[h]
theorem Wy {a b:Nat}(ha:a<18446744073709551616)(hb:b<18446744073709551616):bn a<bn b↔a<b:=by rw[BitVec.lt_def,Wn ha,Wn hb]
theorem Sg {a b:Nat}(ha:a<18446744073709551616)(hb:b<18446744073709551616):bn a≤bn b↔a≤b:=by rw[BitVec.le_def,Wn ha,Wn hb]
theorem Lg (a b:Nat):bn a*bn b=bn (a*b):=by apply BitVec.eq_of_toNat_eq;simp[bn]
theorem Ij (a b:Nat):bn a+bn b=bn (a+b):=by apply BitVec.eq_of_toNat_eq;simp[bn]
theorem Qj5 {a b:Nat}(ha:a<18446744073709551616)(h:b≤a):bn a-bn b=bn (a-b):=by
 apply BitVec.eq_of_toNat_eq
 rw[BitVec.toNat_sub,Wn ha,Wn (by omega),Wn (by omega)];omega
theorem Qwh (n:Nat)(h:n<18446744073709551616):bn n >>> 1=bn (n / 2):=by
 apply BitVec.eq_of_toNat_eq
 rw[BitVec.toNat_ushiftRight,Wn h,Wn (by omega),Nat.shiftRight_eq_div_pow]
theorem Qwg (n:Nat)(h:n<18446744073709551616):bn n &&& 1#64=bn (n%2):=by
 apply BitVec.eq_of_toNat_eq
 rw[BitVec.toNat_and,Wn h,Wn (n:=n%2) (by omega)]
 exact Nat.and_one_is_mod n
theorem Pm {a m:Nat}(ha:a<18446744073709551616)(hm:0<m)(hm2:m<18446744073709551616):Yc (bn a) (bn m)=some (bn (a%m)):=by
 have:=Nat.mod_lt a hm
 unfold Yc
 rw[if_neg (fun h=>by have:=(Rt (b:=0) hm2 (by omega)).1 h;omega)]
 congr 1
 apply BitVec.eq_of_toNat_eq
 rw[BitVec.toNat_umod,Wn ha,Wn hm2,Wn (by omega)]
theorem Xej {a m:Nat}(ha:a<18446744073709551616)(hm:0<m)(hm2:m<18446744073709551616):Qm7 (bn a) (bn m)=some (bn (a / m)):=by
 have:=Nat.div_le_self a m
 unfold Qm7
 rw[if_neg (fun h=>by have:=(Rt (b:=0) hm2 (by omega)).1 h;omega)]
 congr 1
 apply BitVec.eq_of_toNat_eq
 rw[BitVec.toNat_udiv,Wn ha,Wn hm2,Wn (by omega)]
def Mg (n:Nat):Prop:=2≤n∧∀ e,2≤e→e*e≤n→n%e≠0
theorem Qm3 {n:Nat}(hn:n≤1048575)(T:Bool)(F:(BitVec 64→Option Bool)→BitVec 64→Option Bool)(hF:∀ rec a,F rec a=if a*a≤bn n then Option.bind (Yc (bn n) a) fun x4=>if x4=0#64 then some false else rec (a+1#64) else some T):
 ∀ (m d f:Nat),d+m=1025→m<f→2≤d→∃ b,Qv F f (bn d)=some b∧(b=true↔T=true∧∀ e,d≤e→e*e≤n→n%e≠0)
 | m,d,0,_,h,_=>by omega
 | 0,d,f+1,hd,_,h2=>by
  obtain rfl:d=1025:=by omega
  rw[Kk,hF,Lg,if_neg (by rw[Sg (by omega) (by omega)];omega)]
  refine⟨T,rfl,fun h=>⟨h,fun e he hen=>?_⟩,fun h=>h.1⟩
  have:=Nat.mul_le_mul he he
  omega
 | m+1,d,f+1,hd,hf,h2=>by
  have hdd:d*d≤1025*1025:=Nat.mul_le_mul (by omega) (by omega)
  rw[Kk,hF,Lg]
  by_cases hle:d*d≤n
  · rw[if_pos ((Sg (by omega) (by omega)).2 hle),Pm (by omega) (by omega) (by omega),bind_some]
    by_cases hz:n%d=0
    · rw[hz,if_pos rfl]
      exact⟨false,rfl,(fun h=>by cases h),fun h=>absurd hz (h.2 d (Nat.le_refl _) hle)⟩
    · have hzn:¬ bn (n%d)=0#64:=fun h=>hz ((Rt (b:=0) (by have:=Nat.mod_lt n (show 0<d by omega);omega) (by omega)).1 h)
      rw[if_neg hzn,show(1#64)=bn 1 from rfl,Ij]
      obtain⟨b,e1,e2⟩:=Qm3 hn T F hF m (d+1) f (by omega) (by omega) (by omega)
      refine⟨b,e1,?_⟩
      rw[e2]
      refine and_congr_right fun _=>⟨fun h e he hen=>?_,fun h e he=>h e (by omega)⟩
      rcases Nat.lt_or_ge d e with h'|h'
      · exact h e (by omega) hen
      · obtain rfl:e=d:=by omega
        exact hz
  · rw[if_neg (fun h=>hle ((Sg (by omega) (by omega)).1 h))]
    refine⟨T,rfl,fun h=>⟨h,fun e he hen=>?_⟩,fun h=>h.1⟩
    have:=Nat.mul_le_mul he he
    omega
theorem Qho {n:Nat}(h64:n<18446744073709551616):∃ b,Qaz (bn n)=some b∧(b=true↔n≤1048575∧Mg n):=by
 unfold Qaz Qd7
 by_cases h2:n<2
 · rw[if_pos ((Wy h64 (b:=2) (by omega)).2 h2)]
   exact⟨false,rfl,(fun h=>by cases h),fun h=>by have:=h.2.1;omega⟩
 · rw[if_neg (fun h=>h2 ((Wy h64 (b:=2) (by omega)).1 h))]
   by_cases hg:1048575<n
   · rw[decide_eq_true ((Wy (a:=1048575) (by omega) h64).2 hg)]
     exact⟨false,rfl,(fun h=>by cases h),fun h=>by omega⟩
   · rw[decide_eq_false (fun h=>hg ((Wy (a:=1048575) (by omega) h64).1 h)),cond_false]
     obtain⟨b,e1,e2⟩:=Qm3 (n:=n) (by omega) true (Qd8 (bn n)) (fun rec a=>rfl) 1023 2 Xb (by omega) (Yl (by omega)) (by omega)
     refine⟨b,e1,?_⟩
     rw[e2];unfold Mg
     exact⟨fun h=>⟨by omega,by omega,h.2⟩,fun h=>⟨rfl,h.2.2⟩⟩
theorem Qfz {n:Nat}(hn:n≤1048575):∃ b,Qma (bn n)=some b∧(b=true↔Mg n):=by
 obtain⟨b,e1,e2⟩:=Qm3 (n:=n) hn (decide (2#64≤bn n)) (Qta (bn n)) (fun rec a=>rfl) 1023 2 Xb (by omega) (Yl (by omega)) (by omega)
 refine⟨b,e1,?_⟩
 rw[e2,decide_eq_true_eq,show(2#64)=bn 2 from rfl,Sg (by omega) (by omega)];rfl
theorem Xeh (x n:Nat):x^n=x^(n%2)*(x*x)^(n / 2):=by
 have:x^n=x^(n%2+2*(n / 2)):=by congr 1;omega
 rw[this,Nat.pow_add,Nat.pow_mul,Nat.pow_two]
theorem Qt1 {m x n o:Nat}:o*x^n%m=(if n%2=1 then o*x%m else o)*(x*x%m)^(n / 2)%m:=by
 rw[Xeh x n]
 rcases Nat.mod_two_eq_zero_or_one n with h|h
 · rw[h,if_neg (by omega),Nat.pow_zero,Nat.one_mul,Nat.mul_mod o ((x*x%m)^(n / 2)),←Nat.pow_mod,←Nat.mul_mod]
 · rw[h,if_pos rfl,Nat.pow_one,Nat.mul_mod (o*x%m),Nat.mod_mod,←Nat.pow_mod,←Nat.mul_mod,Nat.mul_assoc]
theorem Qm2 {m:Nat}(hm:0<m)(hm2:m<4294967296):∀ (k n x o f:Nat),n<2^k→k≤64→k<f→x<m→o<m→Qv (Ei (bn m)) f (bn x,bn n,bn o)=some (bn (o*x^n%m))
 | k,n,x,o,0,_,_,h,_,_=>by omega
 | 0,n,x,o,f+1,hn,_,_,hx,ho=>by
  obtain rfl:n=0:=by simp at hn;exact hn
  rw[Kk];simp only[Ei]
  rw[if_neg (by decide),Nat.pow_zero,Nat.mul_one,Nat.mod_eq_of_lt ho]
 | k+1,n,x,o,f+1,hn,hk,hf,hx,ho=>by
  have hn64:n<18446744073709551616:=Nat.lt_of_lt_of_le hn (Nat.le_trans (Nat.pow_le_pow_right (by omega) hk) (by decide))
  have hxx:x*x<18446744073709551616:=Nat.lt_of_le_of_lt (Nat.mul_le_mul (Nat.le_of_lt hx) (Nat.le_of_lt hx)) (by have:=Nat.mul_lt_mul'' hm2 hm2;omega)
  have hox:o*x<18446744073709551616:=Nat.lt_of_le_of_lt (Nat.mul_le_mul (Nat.le_of_lt ho) (Nat.le_of_lt hx)) (by have:=Nat.mul_lt_mul'' hm2 hm2;omega)
  rw[Kk];simp only[Ei]
  by_cases h0:n=0
  · subst h0
    rw[if_neg (by decide),Nat.pow_zero,Nat.mul_one,Nat.mod_eq_of_lt ho]
  · rw[if_pos ((Wy (a:=0) (by omega) hn64).2 (by omega)),Qwg n hn64,show Jp (un 1#64)=some 1 from by decide,Lg,Lg,Pm hxx hm (by omega),Pm hox hm (by omega),Qt1]
    simp only[bind_some]
    rw[Qwh n hn64]
    have Jc:n / 2<2^k:=by rw[Nat.pow_succ] at hn;omega
    have h1:=Nat.mod_lt (x*x) hm
    have h2:=Nat.mod_lt (o*x) hm
    by_cases hodd:n%2=1
    · rw[if_pos (by rw[hodd]),if_pos hodd]
      exact Qm2 hm hm2 k (n / 2) _ _ f Jc (by omega) (by omega) h1 h2
    · rw[if_neg (fun h=>hodd ((Rt (b:=1) (by omega) (by omega)).1 h)),if_neg hodd]
      exact Qm2 hm hm2 k (n / 2) _ _ f Jc (by omega) (by omega) h1 ho
theorem Qm1 {b n m:Nat}(hb:b<18446744073709551616)(hn:n<18446744073709551616)(hm:0<m)(hm2:m<4294967296):Qay (bn b) (bn n) (bn m)=some (bn (b^n%m)):=by
 unfold Qay
 rw[show(1#64)=bn 1 from rfl,Pm (by omega) hm (by omega),bind_some,Pm hb hm (by omega),bind_some,Qm2 hm hm2 64 n _ _ Xb (by omega) (by omega) (Yl (by omega)) (Nat.mod_lt _ hm) (Nat.mod_lt _ hm),Nat.mod_mul_mod,Nat.one_mul,←Nat.pow_mod]
theorem Qmx {m:Nat}(hm:0<m)(hm2:m<4294967296):∀ (k n x o f:Nat),n<2^k→k≤64→k<f→x<m→o<m→Qv (Qhq (bn m)) f (bn n,bn o,bn x)=some (bn (o*x^n%m))
 | k,n,x,o,0,_,_,h,_,_=>by omega
 | 0,n,x,o,f+1,hn,_,_,hx,ho=>by
  obtain rfl:n=0:=by simp at hn;exact hn
  rw[Kk];simp only[Qhq]
  rw[if_neg (by decide),Nat.pow_zero,Nat.mul_one,Nat.mod_eq_of_lt ho]
 | k+1,n,x,o,f+1,hn,hk,hf,hx,ho=>by
  have hn64:n<18446744073709551616:=Nat.lt_of_lt_of_le hn (Nat.le_trans (Nat.pow_le_pow_right (by omega) hk) (by decide))
  have hxx:x*x<18446744073709551616:=Nat.lt_of_le_of_lt (Nat.mul_le_mul (Nat.le_of_lt hx) (Nat.le_of_lt hx)) (by have:=Nat.mul_lt_mul'' hm2 hm2;omega)
  have hox:o*x<18446744073709551616:=Nat.lt_of_le_of_lt (Nat.mul_le_mul (Nat.le_of_lt ho) (Nat.le_of_lt hx)) (by have:=Nat.mul_lt_mul'' hm2 hm2;omega)
  rw[Kk];simp only[Qhq]
  by_cases h0:n=0
  · subst h0
    rw[if_neg (by decide),Nat.pow_zero,Nat.mul_one,Nat.mod_eq_of_lt ho]
  · unfold Qmc
    rw[if_pos ((Wy (a:=0) (by omega) hn64).2 (by omega)),show(2#64)=bn 2 from rfl,Pm hn64 (by omega) (by omega),Lg,Lg,Pm hxx hm (by omega),Pm hox hm (by omega),Xej hn64 (by omega) (by omega),Qt1]
    simp only[bind_some]
    have Jc:n / 2<2^k:=by rw[Nat.pow_succ] at hn;omega
    have h1:=Nat.mod_lt (x*x) hm
    have h2:=Nat.mod_lt (o*x) hm
    by_cases hodd:n%2=1
    · rw[if_pos (by rw[hodd]),if_pos hodd]
      exact Qmx hm hm2 k (n / 2) _ _ f Jc (by omega) (by omega) h1 h2
    · rw[if_neg (fun h=>hodd ((Rt (b:=1) (by omega) (by omega)).1 h)),if_neg hodd]
      exact Qmx hm hm2 k (n / 2) _ _ f Jc (by omega) (by omega) h1 ho
theorem Xf3 {b n m:Nat}(hb:b<18446744073709551616)(hn:n<18446744073709551616)(hm:0<m)(hm2:m<4294967296):Qmb (bn b) (bn n) (bn m)=some (bn (b^n%m)):=by
 unfold Qmb
 rw[show(1#64)=bn 1 from rfl,Pm (by omega) hm (by omega),bind_some,Pm hb hm (by omega),bind_some,Qmx hm hm2 64 n _ _ Xb (by omega) (by omega) (Yl (by omega)) (Nat.mod_lt _ hm) (Nat.mod_lt _ hm),Nat.mod_mul_mod,Nat.one_mul,←Nat.pow_mod]
end Go.Sx.Po

end
section
set_option linter.unusedVariables false
set_option linter.unusedSimpArgs false
set_option maxRecDepth 100000
namespace Go.Sx.Po
open Go
theorem Fc {τ R:Type}(F:(τ→Option R)→τ→Option R)(I:Nat→τ→Prop)(n:Nat)(r:Option R)(hn:n<9223372036854775808){s:τ}(h0:I 0 s)(hs:∀ j s,j<n→I j s→∃ s',I (j+1) s'∧∀ rec,F rec s=rec s')(he:∀ s,I n s→∀ rec,F rec s=r):Qv F Xb s=r:=
 Qcy F I n r hs he n 0 Xb s (by omega) (Yl hn) h0
def Vs (l:List (BitVec 8)):BitVec 64:=l.foldl (fun n c=>256#64*n+c.setWidth 64) 0#64
theorem Qbh (a:BitVec 64)(c:BitVec 8):(a <<< 8) ||| (c.setWidth 64)=256#64*a+c.setWidth 64:=by
 have e1:256#64*a=a <<< 8:=by
  apply BitVec.eq_of_toNat_eq
  rw[BitVec.toNat_mul,BitVec.toNat_shiftLeft,Nat.shiftLeft_eq,Nat.mul_comm];rfl
 rw[e1]
 symm
 apply BitVec.add_eq_or_of_and_eq_zero
 apply BitVec.eq_of_getLsbD_eq
 intro j hj
 rw[BitVec.getLsbD_and,BitVec.getLsbD_shiftLeft,BitVec.getLsbD_setWidth,BitVec.getLsbD_zero]
 by_cases h:j<8
 · simp[h]
 · simp[BitVec.getLsbD_of_ge c j (by omega)]
theorem Am (l:List (BitVec 8))(c:BitVec 8):Vs (l++[c])=256#64*Vs l+c.setWidth 64:=by simp[Vs]
theorem Xfj (x:BitVec 64)(s:Nat):256#64*(x >>> (s+8))+((x >>> s).setWidth 8).setWidth 64=x >>> s:=by
 rw[←Qbh]
 apply BitVec.eq_of_getLsbD_eq
 intro i hi
 simp only[BitVec.getLsbD_or,BitVec.getLsbD_shiftLeft,BitVec.getLsbD_ushiftRight,BitVec.getLsbD_setWidth]
 by_cases h:i<8
 · simp[h,hi]
 · simp[h,hi,show s+8+(i-8)=s+i from by omega]
theorem Qnc (x:BitVec 64):Vs (w8 x)=x:=by
 have h0:Vs []=x >>> 64:=by
  apply BitVec.eq_of_getLsbD_eq
  intro i hi
  rw[BitVec.getLsbD_ushiftRight,BitVec.getLsbD_of_ge x _ (by omega)];simp[Vs]
 have st:∀ (l:List (BitVec 8)) (i:Nat),i≤7→Vs l=x >>> (56-8*i+8)→Vs (l++[Kj x i])=x >>> (56-8*i):=fun l i hi hl=>by
  rw[Am,hl];exact Xfj x (56-8*i)
 have h1:=st [] 0 (by omega) h0
 have h2:=st _ 1 (by omega) h1
 have h3:=st _ 2 (by omega) h2
 have h4:=st _ 3 (by omega) h3
 have h5:=st _ 4 (by omega) h4
 have h6:=st _ 5 (by omega) h5
 have h7:=st _ 6 (by omega) h6
 have h8:=st _ 7 (by omega) h7
 rw[show 56-8*7=0 from rfl,BitVec.ushiftRight_zero] at h8
 exact h8
theorem Qe0 (l:List (BitVec 8))(hx:l.length≤1000):∀ (m i fuel:Nat),l.length-i=m→i≤l.length→m<fuel→Qv (Ae l) fuel (Vs (l.take i),(i:Int))=some (Vs l)
 | m,i,0,_,_,hf=>by omega
 | 0,i,fuel+1,hm,hi,hf=>by
  rw[Kk];simp only[Ae];rw[if_neg (by omega),List.take_of_length_le (by omega)]
 | m+1,i,fuel+1,hm,hi,hf=>by
  rw[Kk];simp only[Ae]
  rw[if_pos (by omega),Wg (by omega),bind_some,←Am,←Cm _ _ (by omega),Jw (by omega) (by omega)]
  exact Qe0 l hx m (i+1) fuel (by omega) (by omega) (by omega)
theorem Qih (l:List (BitVec 8))(h:l.length≤1000):Qds l=some (Vs l):=Qe0 l h _ 0 Xb rfl (by omega) (Yl (by omega))
theorem Qrn (k:W2):Ze k=w8 k.1++w8 k.2:=rfl
theorem Xhz (k:W2)(A B:List (BitVec 8))(hA:A.length=8)(hB:B.length=8)(hk:Ze k=A++B):Io k=some ⟨Vs A,Vs B⟩:=by
 unfold Io
 refine Fc _ (fun j x=>x=((j:Int),Vs (A.take j),Vs (B.take j))) 8 _ (by omega) (by simp[Vs]) ?_ ?_
 · rintro j _ hj rfl
   refine⟨_,rfl,fun rec=>?_⟩
   have h1:j<A.length:=by omega
   have h2:j<B.length:=by omega
   have g1:Xr (Ze k) (j:Int)=some A[j]:=by rw[hk,Wg (by rw[List.length_append];omega),List.getElem_append_left h1]
   have g2:Xr (Ze k) ((8+j:Nat):Int)=some B[j]:=by
    rw[hk,Wg (by rw[List.length_append];omega),List.getElem_append_right (by omega)]
    congr 2;omega
   simp only[It]
   rw[if_pos (by omega),show Jp (un 8#64)=some 8 from by decide,bind_some,g1,bind_some,bind_some,Jw (n:=8+(j:Int)) (by omega) (by omega),show(8:Int)+(j:Int)=((8+j:Nat):Int) from by omega,g2,bind_some,Qbh,Qbh,←Am,←Am,←Cm _ _ h1,←Cm _ _ h2,Hz (by omega)]
 · rintro _ rfl rec
   simp only[It]
   rw[if_neg (by omega),List.take_of_length_le (by omega),List.take_of_length_le (by omega)]
theorem Qvn (k:W2):Io k=some ⟨k.1,k.2⟩:=by
 rw[Xhz k _ _ (Qbr _) (Qbr _) (Qrn k),Qnc,Qnc]
theorem Qse (k:W2)(n m:BitVec 64)(hm:m≠0#64):Mq k n m=some ((Xy k (Qs 3#8) n).1%m):=by
 unfold Mq
 rw[if_neg hm,Qvn,bind_some]
 simp only
 unfold Yc
 rw[if_neg hm];rfl
theorem Qtm (k:W2)(n m:BitVec 64)(hm:m≠0#64):Qhr k n m=some ((Xy k (Qs 3#8) n).1%m):=by
 unfold Qhr
 rw[if_neg hm,List.drop_zero,Qrn,List.take_left' (Qbr _),Qih _ (by rw[Qbr];omega),bind_some,Qnc]
 unfold Yc
 rw[if_neg hm];rfl
end Go.Sx.Po

end
section
set_option linter.unusedVariables false
set_option linter.unusedSimpArgs false
set_option maxRecDepth 100000
namespace Go.Sx.Po
open Go
def Qec (p q g:Nat):Prop:=(p≤1048575∧Mg p)∧(q≤1048575∧Mg q)∧(p-1)%q=0∧2≤g∧g<p∧g^q%p=1
theorem Xaw {p q g:Nat}(hp:p<18446744073709551616)(hq:q<18446744073709551616)(hg:g<18446744073709551616):
 ∃ b,Eh ⟨bn p,bn q,bn g⟩=some (if b=true then 0 else 13)∧Qmd ⟨bn p,bn q,bn g⟩=some b∧(b=true↔Qec p q g):=by
 obtain⟨b1,e1,i1⟩:=Qho hp
 obtain⟨b2,e2,i2⟩:=Qho hq
 unfold Eh Qmd
 simp only
 rw[e1,bind_some,show(1048575#64)=bn 1048575 from rfl]
 have no:∀ (h:¬ Qec p q g),(false=true↔Qec p q g):=fun h=>⟨(fun e=>by cases e),fun e=>absurd e h⟩
 by_cases hP:p≤1048575∧Mg p
 · have c0:¬ bn 1048575<bn p:=fun h=>by have:=(Wy (by omega) hp).1 h;omega
   rw[i1.2 hP,if_neg c0]
   obtain⟨c1,f1,j1⟩:=Qfz hP.1
   rw[f1,bind_some,j1.2 hP.2]
   simp only[Bool.not_true,cond_false]
   rw[e2,bind_some]
   by_cases hQ:q≤1048575∧Mg q
   · have c0':¬ bn 1048575<bn q:=fun h=>by have:=(Wy (by omega) hq).1 h;omega
     rw[i2.2 hQ,if_neg c0']
     obtain⟨c2,f2,j2⟩:=Qfz hQ.1
     rw[f2,bind_some,j2.2 hQ.2]
     simp only[Bool.not_true,cond_false]
     have hp2:=hP.2.1
     have hq2:=hQ.2.1
     rw[show(1#64)=bn 1 from rfl,Qj5 hp (by omega),Pm (by omega) (by omega) hq,bind_some,bind_some]
     have hmod:=Nat.mod_lt (p-1) (show 0<q by omega)
     unfold Lr Qba
     simp only
     by_cases hz:(p-1)%q=0
     · rw[hz,if_neg (by simp),decide_eq_false (by simp),cond_false,show(2#64)=bn 2 from rfl]
       by_cases h2:2≤g
       · have c3:¬ bn g<bn 2:=fun h=>by have:=(Wy hg (by omega)).1 h;omega
         have c4:bn 2≤bn g:=(Sg (by omega) hg).2 h2
         rw[if_neg c3,if_pos c4]
         by_cases h3:g<p
         · have c5:¬ bn p≤bn g:=fun h=>by have:=(Sg hp hg).1 h;omega
           have c6:bn g<bn p:=(Wy hg hp).2 h3
           rw[if_neg c5,if_pos c6,Qm1 hg hq (by omega) (by omega),Xf3 hg hq (by omega) (by omega),bind_some,bind_some]
           have hpm:=Nat.mod_lt (g^q) (show 0<p by omega)
           have hone:bn (g^q%p)=bn 1↔g^q%p=1:=Rt (by omega) (by omega)
           refine⟨decide (bn (g^q%p)=bn 1),?_,rfl,?_⟩
           · by_cases h4:bn (g^q%p)=bn 1
             · rw[decide_eq_false (by simpa using h4),decide_eq_true h4];rfl
             · rw[decide_eq_true h4,decide_eq_false h4];rfl
           · rw[decide_eq_true_eq,hone]
             exact⟨fun h=>⟨hP,hQ,hz,h2,h3,h⟩,fun h=>h.2.2.2.2.2⟩
         · have c5:bn p≤bn g:=(Sg hp hg).2 (by omega)
           have c6:¬ bn g<bn p:=fun h=>h3 ((Wy hg hp).1 h)
           rw[if_pos c5,if_neg c6]
           exact⟨false,rfl,rfl,no fun h=>h3 h.2.2.2.2.1⟩
       · have c3:bn g<bn 2:=(Wy hg (by omega)).2 (by omega)
         have c4:¬ bn 2≤bn g:=fun h=>h2 ((Sg (by omega) hg).1 h)
         rw[if_pos c3,if_neg c4]
         exact⟨false,rfl,rfl,no fun h=>h2 h.2.2.2.1⟩
     · have hz':bn ((p-1)%q)≠0#64:=fun h=>hz ((Rt (b:=0) (by omega) (by omega)).1 h)
       rw[if_pos hz',decide_eq_true hz']
       exact⟨false,rfl,rfl,no fun h=>hz h.2.2.1⟩
   · have hb2:b2=false:=by cases b2 with|false=>rfl|true=>exact absurd (i2.1 rfl) hQ
     rw[hb2]
     refine⟨false,rfl,?_,no fun h=>hQ h.2.1⟩
     by_cases hg':1048575<q
     · have c0':bn 1048575<bn q:=(Wy (by omega) hq).2 hg'
       rw[if_pos c0'];rfl
     · have c0':¬ bn 1048575<bn q:=fun h=>hg' ((Wy (by omega) hq).1 h)
       rw[if_neg c0']
       obtain⟨c2,f2,j2⟩:=Qfz (n:=q) (by omega)
       have:c2=false:=by cases c2 with|false=>rfl|true=>exact absurd ⟨by omega,j2.1 rfl⟩ hQ
       rw[f2,bind_some,this];rfl
 · have hb1:b1=false:=by cases b1 with|false=>rfl|true=>exact absurd (i1.1 rfl) hP
   rw[hb1]
   refine⟨false,rfl,?_,no fun h=>hP h.1⟩
   by_cases hg':1048575<p
   · have c0:bn 1048575<bn p:=(Wy (by omega) hp).2 hg'
     rw[if_pos c0];rfl
   · have c0:¬ bn 1048575<bn p:=fun h=>hg' ((Wy (by omega) hp).1 h)
     rw[if_neg c0]
     obtain⟨c1,f1,j1⟩:=Qfz (n:=p) (by omega)
     have:c1=false:=by cases c1 with|false=>rfl|true=>exact absurd ⟨by omega,j1.1 rfl⟩ hP
     rw[f1,bind_some,this];rfl
theorem Qm9:∀ d:Fin 7,Rb (d.1:Int)=some ((2^d.1:Nat):Int):=by decide +kernel
theorem Qdr {d:Nat}(h:d≤6):Rb (d:Int)=some ((2^d:Nat):Int):=Qm9 ⟨d,by omega⟩
theorem Xfl:∀ d:Fin 7,Xw 1 d.1=((2^d.1:Nat):Int):=by decide +kernel
theorem Cl {d:Nat}(h:d≤6):Xw 1 d=((2^d:Nat):Int):=Xfl ⟨d,by omega⟩
theorem Rf (n:Nat):Jp (n:Int)=some n:=by unfold Jp;rw[if_pos (by omega)];rfl
theorem Ve {d:Nat}(h:d≤6):2^d≤64:=Nat.le_trans (Nat.pow_le_pow_right (by omega) h) (by decide)
theorem Cu (n:Nat):wd (n:Int)=bn n:=by unfold wd bn;exact BitVec.ofInt_natCast 64 n
structure Wb (s:Qj)(d t p q g:Nat):Prop where
 kind:s.Kind=4#8
 depth:s.Depth=(d:Int)
 deg:s.Degree=(t:Int)
 d6:d≤6
 t1:1≤t
 t8:t≤8
 grp:s.Group=⟨bn p,bn q,bn g⟩
 ok:Qec p q g
 big:2^d+t<q
theorem Cq (s:Qj):(Hi s=some false∧Ag s=some false)∨(Hi s=some true∧Ag s=some true∧∃ d t p q g,Wb s d t p q g):=by
 obtain⟨kd,dp,dg,⟨P,Q,G⟩⟩:=s
 obtain⟨p,hp,rfl⟩:=Ik P
 obtain⟨q,hq,rfl⟩:=Ik Q
 obtain⟨g,hg,rfl⟩:=Ik G
 unfold Hi Ag Ah
 simp only
 by_cases h1:kd=4#8
 · rw[if_pos h1,if_neg (show ¬ kd≠4#8 from fun h=>h h1)]
   by_cases h2:0≤dp
   · rw[if_pos h2,if_neg (show ¬ dp<0 by omega)]
     by_cases h3:dp≤6
     · rw[if_pos h3,if_neg (show ¬ 6<dp by omega)]
       by_cases h4:1≤dg
       · rw[if_pos h4,if_neg (show ¬ dg<1 by omega)]
         by_cases h5:dg≤8
         · rw[if_pos h5,if_neg (show ¬ 8<dg by omega)]
           obtain⟨b,e1,e2,i⟩:=Xaw hp hq hg
           rw[e1,e2,bind_some,bind_some]
           cases b with
           | false=>exact .inl ⟨rfl,rfl⟩
           | true=>
            obtain⟨d,rfl⟩:∃ d:Nat,dp=(d:Int):=⟨dp.toNat,by omega⟩
            obtain⟨t,rfl⟩:∃ t:Nat,dg=(t:Int):=⟨dg.toNat,by omega⟩
            have h64:=Ve (d:=d) (by omega)
            have hpp:=Nat.two_pow_pos d
            simp only[Bool.not_true,cond_false,if_true]
            rw[Rf,bind_some,Qdr (by omega),bind_some,Cl (by omega),Jw (by omega) (by omega),show((2^d:Nat):Int)+(t:Int)=((2^d+t:Nat):Int) from by omega,Cu]
            by_cases Jc:2^d+t<q
            · rw[decide_eq_true ((Wy (by omega) hq).2 Jc)]
              exact .inr ⟨rfl,rfl,d,t,p,q,g,⟨h1,rfl,rfl,by omega,by omega,by omega,rfl,i.1 rfl,Jc⟩⟩
            · rw[decide_eq_false (fun h=>Jc ((Wy (by omega) hq).1 h))];exact .inl ⟨rfl,rfl⟩
         · rw[if_neg h5,if_pos (show 8<dg by omega)];exact .inl ⟨rfl,rfl⟩
       · rw[if_neg h4,if_pos (show dg<1 by omega)];exact .inl ⟨rfl,rfl⟩
     · rw[if_neg h3,if_pos (show 6<dp by omega)];exact .inl ⟨rfl,rfl⟩
   · rw[if_neg h2,if_pos (show dp<0 by omega)];exact .inl ⟨rfl,rfl⟩
 · rw[if_neg h1,if_pos (show kd≠4#8 from h1)];exact .inl ⟨rfl,rfl⟩
theorem Wb.qb {s:Qj}{d t p q g:Nat}(h:Wb s d t p q g):2≤q∧q≤1048575:=⟨h.ok.2.1.2.1,h.ok.2.1.1⟩
theorem Wb.pb {s:Qj}{d t p q g:Nat}(h:Wb s d t p q g):2≤p∧p≤1048575:=⟨h.ok.1.2.1,h.ok.1.1⟩
def cfN (root:W2)(q i:Nat):Nat:=(Xy (Xy root (Qs 40#8) 0#64) (Qs 3#8) (bn i)).1.toNat%q
def Pf (root:W2)(q t:Nat):List Nat:=(List.range (t+1)).map (cfN root q)
theorem Qc7 {root:W2}{q t:Nat}(hq:0<q):∀ c∈Pf root q t,c<q:=by
 intro c hc
 obtain⟨i,_,rfl⟩:=List.mem_map.1 hc
 exact Nat.mod_lt _ hq
theorem Ql0 (x:BitVec 64){q:Nat}(hq:0<q)(hq2:q<18446744073709551616):x%bn q=bn (x.toNat%q):=by
 apply BitVec.eq_of_toNat_eq
 have:=Nat.mod_lt x.toNat hq
 rw[BitVec.toNat_umod,Wn hq2,Wn (by omega)]
theorem Qeg {q:Nat}(hq:0<q)(hq2:q<18446744073709551616):bn q≠0#64:=fun h=>by have:=(Rt (b:=0) hq2 (by omega)).1 h;omega
theorem Qn2 {s:Qj}{d t p q g:Nat}(h:Wb s d t p q g)(root:W2):Cg root s=some ((Pf root q t).map bn):=by
 obtain⟨q1,q2⟩:=h.qb
 have ht:=h.t8
 unfold Cg
 rw[h.deg,Jw (by omega) (by omega),show(t:Int)+1=((t+1:Nat):Int) from by omega,mkL,if_pos (by omega),bind_some,Int.toNat_natCast]
 refine Fc _ (fun j x=>x=((List.range (t+1)).map (fun i=>if i<j then bn (cfN root q i) else 0#64),(j:Int))) (t+1) _ (by omega) ?_ ?_ ?_
 · congr 1
   apply List.ext_getElem
   · simp
   · intro i _ _;simp
 · rintro j _ hj rfl
   refine⟨_,rfl,fun rec=>?_⟩
   simp only[Qb7]
   have hjl:j<((List.range (t+1)).map (fun i=>if i<j then bn (cfN root q i) else 0#64)).length:=by simpa using hj
   rw[if_pos (by simp;omega),h.grp,Cu]
   simp only
   rw[Qse _ _ _ (Qeg (by omega) (by omega)),bind_some,Wg hjl,bind_some,Int.toNat_natCast,Hz (by omega),Ql0 _ (by omega) (by omega)]
   congr 2
   apply List.ext_getElem
   · simp
   · intro i h1 h2
     rw[List.getElem_set]
     simp only[List.getElem_map,List.getElem_range]
     by_cases e:j=i
     · subst e;rw[if_pos rfl,if_pos (by omega)];rfl
     · rw[if_neg e]
       by_cases e2:i<j
       · rw[if_pos e2,if_pos (by omega)]
       · rw[if_neg e2,if_neg (by omega)]
 · rintro _ rfl rec
   simp only[Qb7]
   rw[if_neg (by simp)]
   congr 1
   unfold Pf
   rw[List.map_map]
   apply List.map_congr_left
   intro i hi
   rw[if_pos (List.mem_range.1 hi)];rfl
theorem Qmy {s:Qj}{d t p q g:Nat}(h:Wb s d t p q g)(root:W2):Qmq root s=some ((Pf root q t).map bn):=by
 obtain⟨q1,q2⟩:=h.qb
 have ht:=h.t8
 unfold Qmq
 refine Fc _ (fun j x=>x=((List.range j).map (fun i=>bn (cfN root q i)),(j:Int))) (t+1) _ (by omega) (by simp) ?_ ?_
 · rintro j _ hj rfl
   refine⟨_,rfl,fun rec=>?_⟩
   simp only[Qmr]
   rw[h.deg,if_pos (by omega),h.grp,Cu]
   simp only
   rw[Qtm _ _ _ (Qeg (by omega) (by omega)),bind_some,Ti (by simp;omega),bind_some,Hz (by omega),Ql0 _ (by omega) (by omega),List.range_succ,List.map_append];rfl
 · rintro _ rfl rec
   simp only[Qmr]
   rw[h.deg,if_neg (by omega)]
   unfold Pf
   rw[List.map_map];rfl
def Yk (l:List Nat)(x:Nat):Nat:=l.foldr (fun c a=>c+x*a) 0
theorem Qqj (x:Nat):∀ (l:List Nat) (c:Nat),Yk (l++[c]) x=Yk l x+c*x^l.length
 | [],c=>by simp[Yk]
 | a::l,c=>by
  have:=Qqj x l c
  simp only[Yk] at this ⊢
  rw[List.cons_append,List.foldr_cons,List.foldr_cons,this,List.length_cons,Nat.pow_succ,Nat.mul_add,Nat.add_assoc]
  congr 2
  rw[Nat.mul_left_comm,Nat.mul_comm x]
theorem Xck {q a b:Nat}(hq:2≤q)(hq2:q≤1048575)(ha:a<q)(hb:b<q):Qdn (bn q) [bn a,bn b]=some (bn (a*b%q)):=by
 unfold Qdn
 have hab:a*b<18446744073709551616:=Nat.lt_of_le_of_lt (Nat.mul_le_mul (Nat.le_of_lt ha) (Nat.le_of_lt hb)) (by have:=Nat.mul_le_mul hq2 hq2;omega)
 rw[show Xb=18446744073709551613+1+1+1 from rfl,Kk]
 simp only[Aa]
 rw[if_pos (by simp),show Xr [bn a,bn b] 0=some (bn a) from rfl,bind_some,show(1#64)=bn 1 from rfl,Lg,Nat.one_mul,Pm (by omega) (by omega) (by omega),bind_some,Nat.mod_eq_of_lt ha,show Qc (0+1)=1 from by decide,Kk]
 simp only[Aa]
 rw[if_pos (by simp),show Xr [bn a,bn b] 1=some (bn b) from rfl,bind_some,Lg,Pm hab (by omega) (by omega),bind_some,show Qc (1+1)=2 from by decide,Kk]
 simp only[Aa]
 rw[if_neg (by simp)]
theorem Qo1 (l:List (BitVec 64))(hl:l.length<4611686018427387904):∀ (k f:Nat),k≤l.length→k<f→Qv (Ai l) f ((k:Int)-1)=some ((List.range k).reverse.map fun i:Nat=>((i:Int),l.getD i 0#64))
 | k,0,_,h=>by omega
 | 0,f+1,_,_=>by
  rw[Kk];simp only[Ai];rw[if_neg (by omega)];rfl
 | k+1,f+1,hk,hf=>by
  rw[Kk];simp only[Ai]
  rw[show((k+1:Nat):Int)-1=(k:Int) from by omega,if_pos (by omega),Wg (by omega),bind_some,Jw (by omega) (by omega),Qo1 l hl k f (by omega) (by omega),Xi7,List.range_succ,List.reverse_append,List.map_append]
  have hkk:k<l.length:=by omega
  simp[hkk]
theorem Qo0 {q x:Nat}(hq:2≤q)(hq2:q≤1048575)(hx:x<q)(l:List Nat)(hl:∀ c∈l,c<q):∀ (k:Nat),k≤l.length→Js (Qb5 (bn q) (bn x)) Qdo ((List.range k).reverse.map fun i:Nat=>((i:Int),(l.map bn).getD i 0#64)) (bn (Yk (l.drop k) x%q))=some (bn (Yk l x%q))
 | 0,_=>by rw[List.drop_zero];rfl
 | k+1,hk=>by
  have hkl:k<l.length:=by omega
  rw[List.range_succ,List.reverse_append,List.map_append,show([k].reverse.map fun i:Nat=>((i:Int),(l.map bn).getD i 0#64))=[((k:Int),bn l[k])] from by simp[List.getD,hkl],List.singleton_append,Fi]
  simp only[Qb5]
  have hc:=hl _ (List.getElem_mem hkl)
  have hm:=Nat.mod_lt (Yk (l.drop (k+1)) x) (show 0<q by omega)
  have hm2:=Nat.mod_lt (Yk (l.drop (k+1)) x%q*x) (show 0<q by omega)
  rw[Xck hq hq2 hm hx,bind_some,Ij,Pm (by omega) (by omega) (by omega),bind_some]
  have he:(Yk (l.drop (k+1)) x%q*x%q+l[k])%q=Yk (l.drop k) x%q:=by
   rw[List.drop_eq_getElem_cons hkl,show Yk (l[k]::l.drop (k+1)) x=l[k]+x*Yk (l.drop (k+1)) x from rfl,Nat.mod_mul_mod,Nat.mod_add_mod,Nat.add_comm,Nat.mul_comm]
  rw[he]
  exact Qo0 hq hq2 hx l hl k (by omega)
theorem Qj1 {q x:Nat}(hq:2≤q)(hq2:q≤1048575)(hx:x<q)(l:List Nat)(hl:∀ c∈l,c<q)(hlen:l.length<4611686018427387904):Qb4 (l.map bn) (bn q) (bn x)=some (bn (Yk l x%q)):=by
 unfold Qb4 Qi7 Qi6
 rw[bind_some,Jw (by rw[List.length_map];omega) (by rw[List.length_map];omega),Qo1 _ (by rw[List.length_map];exact hlen) _ Xb (Nat.le_refl _) (Yl (by rw[List.length_map];omega)),bind_some,List.length_map]
 have:=Qo0 hq hq2 hx l hl l.length (Nat.le_refl _)
 rw[List.drop_length,show Yk [] x%q=0 from by simp[Yk]] at this
 exact this
theorem Xh3 {q x:Nat}(hq:2≤q)(hq2:q≤1048575)(hx:x<q)(l:List Nat)(hl:∀ c∈l,c<q)(hlen:l.length<4611686018427387904):Qmt (bn q) (l.map bn) (bn x)=some (bn (Yk l x%q)):=by
 unfold Qmt
 refine Fc _ (fun j s=>s=(bn (Yk (l.take j) x%q),bn (x^j%q),(j:Int))) l.length _ (by omega) ?_ ?_ ?_
 · rw[List.take_zero,Nat.pow_zero,Nat.mod_eq_of_lt (show 1<q by omega),show Yk [] x%q=0 from by simp[Yk]];rfl
 · rintro j _ hj rfl
   refine⟨_,rfl,fun rec=>?_⟩
   have hc:=hl _ (List.getElem_mem hj)
   have hm:=Nat.mod_lt (Yk (l.take j) x) (show 0<q by omega)
   have hm2:=Nat.mod_lt (x^j) (show 0<q by omega)
   have hp1:l[j]*(x^j%q)≤1048575*1048575:=Nat.mul_le_mul (by omega) (by omega)
   have hp2:x^j%q*x≤1048575*1048575:=Nat.mul_le_mul (by omega) (by omega)
   simp only[Qmu]
   rw[if_pos (by simp;omega),Wg (by simpa using hj),bind_some,List.getElem_map,Lg,Ij,Pm (by omega) (by omega) (by omega),bind_some,Lg,Pm (by omega) (by omega) (by omega),bind_some,Hz (by omega),Cm l j hj,Qqj,List.length_take,Nat.min_eq_left (by omega)]
   congr 2
   · rw[Nat.mod_add_mod,Nat.add_mod,Nat.mul_mod_mod,←Nat.add_mod]
   · rw[Nat.mod_mul_mod,Nat.pow_succ]
 · rintro _ rfl rec
   simp only[Qmu]
   rw[if_neg (by simp),List.take_length]
end Go.Sx.Po

end
section
set_option linter.unusedVariables false
set_option linter.unusedSimpArgs false
set_option maxRecDepth 100000
noncomputable section
namespace Go.Sx.Ep
open Go Go.Sx
theorem Qek (s:Qj):Tj s=some (if Ju s then 0 else 30)∧Qtc s=some (if Ju s then 0 else 30):=by
 unfold Tj Qtc
 constructor
 · rw[Qbk,bind_some]
   cases hv:Ju s<;>rfl
 · rw[Go.Sx.Cq,bind_some]
   cases hv:Ju s<;>rfl
theorem Qld (s:Qj):∃ r,Tp s=some r∧Qtg s=some r:=by
 unfold Tp Qtg
 rcases Po.Cq s with⟨e1,e2⟩|⟨e1,e2,_⟩
 · rw[e1,e2];exact⟨_,rfl,rfl⟩
 · rw[e1,e2];exact⟨_,rfl,rfl⟩
theorem Xbh (k:BitVec 8):(k<1#8∨(5:Int)≤Qs k)∨((Qs k=1∨Qs k=2∨Qs k=3)∧1#8≤k∧k≤3#8∧k≠4#8∧¬ k<1#8∧¬ (5:Int)≤Qs k)∨(k=4#8∧Qs k=4∧¬ (Qs k=1∨Qs k=2∨Qs k=3)):=by
 unfold Qs
 have h4:k=4#8↔k.toNat=4:=⟨fun h=>by rw[h];rfl,fun h=>BitVec.eq_of_toNat_eq h⟩
 rw[BitVec.lt_def,BitVec.le_def,BitVec.le_def,ne_eq,h4]
 have e1:(1#8).toNat=1:=rfl
 have e3:(3#8).toNat=3:=rfl
 rw[e1,e3];omega
theorem Qrd {τ R:Type}(F:(τ→Option R)→τ→Option R)(I:Nat→τ→Prop)(n:Nat)(r:Option R)(hn:n<9223372036854775808){s:τ}(h0:I 0 s)(hs:∀ j s,j<n→I j s→∃ s',I (j+1) s'∧∀ rec,F rec s=rec s')(he:∀ s,I n s→∀ rec,F rec s=r):Qv F Xb s=r:=
 Qcy F I n r hs he n 0 Xb s (by omega) (Yl hn) h0
theorem Qt3 (root:W2)(s:Qj)(u:Int):∃ r,Fz root s u=some r∧Qth root s u=some r∧r.1.Labels=[]:=by
 unfold Fz Qth
 rcases Po.Cq s with⟨e1,e2⟩|⟨e1,e2,d,t,p,q,g,h⟩
 · rw[e1,e2];exact⟨_,rfl,rfl,rfl⟩
 · have h64:=Po.Ve h.d6
   obtain⟨q1,q2⟩:=h.qb
   rw[e1,e2,bind_some,bind_some]
   simp only[Bool.not_true,cond_false]
   unfold Ez Qms
   by_cases hn:u<0
   · rw[if_pos hn,if_pos hn];exact⟨_,rfl,rfl,rfl⟩
   · rw[if_neg hn,if_neg hn,h.depth,Po.Rf,bind_some,Po.Qdr h.d6,bind_some,Po.Cl h.d6]
     by_cases hg:((2^d:Nat):Int)≤u
     · rw[decide_eq_true hg];exact⟨_,rfl,rfl,rfl⟩
     · rw[decide_eq_false hg,cond_false,cond_false]
       obtain⟨n,rfl⟩:∃ n:Nat,u=(n:Int):=⟨u.toNat,by omega⟩
       unfold Qti
       have hb:=h.big
       have hcl:(Po.Pf root q t).length=t+1:=by simp[Po.Pf]
       have ht:=h.t8
       rw[Po.Qn2 h,Po.Qmy h,bind_some,bind_some,h.grp,Po.Cu,show(1#64)=Po.bn 1 from rfl,Po.Ij]
       simp only
       rw[Po.Qj1 q1 q2 (by omega) _ (Po.Qc7 (by omega)) (by omega),Po.Xh3 q1 q2 (by omega) _ (Po.Qc7 (by omega)) (by omega),bind_some,bind_some]
       exact⟨_,rfl,rfl,rfl⟩
end Go.Sx.Ep

end
section
set_option linter.unusedVariables false
set_option linter.unusedSimpArgs false
set_option maxRecDepth 100000
namespace Go.Sx
open Go
theorem Ys {w v:Nat}(hw:1≤w):Zm w v=true↔∃ k,2^k≤w∧v=w / 2^k:=by
 constructor
 · intro h
   unfold Zm at h
   obtain⟨h1,h2⟩:=of_decide_eq_true h
   exact⟨_,Nat.le_trans (Nat.pow_le_pow_right (by omega) (by omega)) (Nat.log2_self_le (by omega)),h2.symm⟩
 · rintro⟨k,h1,rfl⟩
   unfold Zm
   have h2:=Qkx h1
   have h3:=Dj w k h1
   apply decide_eq_true
   refine⟨by omega,?_⟩
   rw[h2,show Nat.log2 w-(Nat.log2 w-k)=k from by omega]
theorem Qwc {w:Nat}(hw:1≤w):Zm w w=true:=(Ys hw).2 ⟨0,by simpa using hw,by simp⟩
theorem Qo4 {w v:Nat}(hw:1≤w)(h:Zm w v=true):1≤v:=by
 obtain⟨k,h1,rfl⟩:=(Ys hw).1 h
 exact Qa2 h1
theorem Ab {w i j:Nat}(h:2^(i+j)≤w):2^j≤w / 2^i:=by
 rw[Nat.le_div_iff_mul_le (Nat.two_pow_pos i),←Nat.pow_add,Nat.add_comm];exact h
theorem Qhn {w i j:Nat}(h:2^j≤w / 2^i):2^(i+j)≤w:=by
 rw[Nat.le_div_iff_mul_le (Nat.two_pow_pos i),←Nat.pow_add,Nat.add_comm] at h;exact h
theorem Qo5 {a b c:Nat}(ha:1≤a)(h1:Zm a b=true)(h2:Zm b c=true):Zm a c=true:=by
 have hb:=Qo4 ha h1
 obtain⟨i,p1,rfl⟩:=(Ys ha).1 h1
 obtain⟨j,p2,rfl⟩:=(Ys hb).1 h2
 exact(Ys ha).2 ⟨i+j,Qhn p2,by rw[Nat.div_div_eq_div_mul,←Nat.pow_add]⟩
theorem Qwa {w v:Nat}(hw:1≤w)(h:Zm w v=true):Nat.log2 v≤Nat.log2 w:=by
 unfold Zm at h
 exact(of_decide_eq_true h).1
theorem Qc3 {a b c:Nat}(ha:1≤a)(h1:Zm a b=true)(h2:Zm a c=true)(he:Nat.log2 b=Nat.log2 c):b=c:=by
 unfold Zm at h1 h2
 have p1:=(of_decide_eq_true h1).2
 have p2:=(of_decide_eq_true h2).2
 rw[he] at p1;rw[←p1,p2]
theorem Qbi:∀ n:Fin 128,(n.1 ^^^ 1) / 2=n.1 / 2∧n.1 ^^^ 1≠n.1∧n.1 ^^^ 1<128∧(2≤n.1→Nat.log2 (n.1 ^^^ 1)=Nat.log2 n.1∧2≤n.1 ^^^ 1)∧n.1 ^^^ 1 ^^^ 1=n.1:=by decide +kernel
theorem Qn4 {n:Nat}(h:n<128):(n ^^^ 1) / 2=n / 2:=(Qbi ⟨n,h⟩).1
theorem Xfm {n:Nat}(h:n<128):n ^^^ 1≠n:=(Qbi ⟨n,h⟩).2.1
theorem Qu0 {n:Nat}(h:n<128):n ^^^ 1<128:=(Qbi ⟨n,h⟩).2.2.1
theorem Qtz {n:Nat}(h:n<128)(h2:2≤n):Nat.log2 (n ^^^ 1)=Nat.log2 n:=((Qbi ⟨n,h⟩).2.2.2.1 h2).1
theorem Qi5 {n:Nat}(h:n<128)(h2:2≤n):2≤n ^^^ 1:=((Qbi ⟨n,h⟩).2.2.2.1 h2).2
theorem Qu1 {n:Nat}(h:n<128):n ^^^ 1 ^^^ 1=n:=(Qbi ⟨n,h⟩).2.2.2.2
theorem Qwe {n:Nat}(h:n<128):Ii .xor (n:Int) 1=((n ^^^ 1:Nat):Int):=by
 have:∀ n:Fin 128,Ii .xor (n.1:Int) 1=((n.1 ^^^ 1:Nat):Int):=by decide +kernel
 exact this ⟨n,h⟩
theorem Qb1 {w k n:Nat}:n∈Jt w k↔∃ j,j<k∧n=w / 2^j:=by
 induction k with
 | zero=>simp[Jt]
 | succ k ih=>
  rw[Jt,List.mem_cons,ih]
  constructor
  · rintro(rfl|⟨j,hj,rfl⟩)
    · exact⟨k,by omega,rfl⟩
    · exact⟨j,by omega,rfl⟩
  · rintro⟨j,hj,rfl⟩
    rcases Nat.lt_or_ge j k with h|h
    · exact .inr ⟨j,h,rfl⟩
    · obtain rfl:j=k:=by omega
      exact .inl rfl
theorem Qrc {d:Nat}{l:List Nat}(hl:∀ n∈l,1≤n):Hm d l=0↔∀ n∈l,Kr d n=false:=by
 unfold Hm
 cases h:l.find? (Kr d) with
 | none=>
  rw[List.find?_eq_none] at h
  exact⟨fun _ n hn=>by simpa using h n hn,fun _=>rfl⟩
 | some a=>
  have h1:=List.find?_some h
  have h2:=List.mem_of_find?_eq_some h
  constructor
  · intro h0;simp at h0;have:=hl a h2;omega
  · intro h0;rw[h0 a h2] at h1;cases h1
def Pp (k:BitVec 8)(d n m:Nat):Bool:=
 decide (1≤n∧n<2^(d+1))&&(if k=1#8 then decide (m=0) else if m=0 then decide (n=1) else decide (m<2^(d+1)∧m≠n)&&Zm m n&&Wj k d n m)
theorem Qry {d u:Nat}(hu:u<2^d):Nat.log2 (2^d+u)=d:=by
 rw[Nat.log2_eq_iff (by have:=Nat.two_pow_pos d;omega),Nat.pow_succ];omega
theorem Qaw {d n:Nat}(h1:1≤n)(h:n<2^(d+1)):Nat.log2 n≤d:=by
 have:=(Nat.log2_lt (n:=n) (k:=d+1) (by omega)).2 h;omega
end Go.Sx

end
