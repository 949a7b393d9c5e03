/- Several texts in one: Be Pw Pg Pv5 LawTp. -/
import Derived.Test.YtplcaaglieefgaaGreatZg
import Derived.Test.YtplcaaglieefgaaGreatZe
import Derived.Test.YtplcaaglieefgaaGreatZd
set_option linter.unusedVariables false
set_option linter.unusedSectionVars false
set_option linter.unusedSimpArgs false
set_option maxRecDepth 100000
section
namespace Go.Sx.Pn
open Go Go.Sx
def rwT (k d st:Nat):List Int:=match st with
 | 0=>(tb k d).rows.a0
 | 1=>(tb k d).rows.a1
 | 2=>(tb k d).rows.a2
 | _=>(tb k d).rows.a3
def tT (k d st h c:Nat):Nat:=((rwT k d st).getD (2^h-1+h+c) 0).toNat
def Ny (k d h st:Nat):Nat:=if k=2 then 1 else if st=0 then(if(d-(h+1))%jK d=0 then 1 else 2) else if st=2 then(if(d-(h+1))%jK d=0 then 3 else 2) else st
def B1 (k:Nat):List Nat:=List.range (if k=2 then 2 else 4)
theorem Qxb:∀ d∈List.range 7,∀ h∈List.range (d+1),1≤tT 1 d 0 h 0:=by decide +kernel
theorem Qx6:∀ d∈List.range 7,∀ h∈List.range d,∀ a∈List.range (2^h+1),∀ b∈List.range (2^h+1),0<a+b→tT 1 d 0 h a+tT 1 d 0 h b≤tT 1 d 0 (h+1) (a+b):=by decide +kernel
theorem Qxa:∀ k∈[2,3],∀ d∈List.range 7,∀ st∈B1 k,yV st≤tT k d st 0 1:=by decide +kernel
theorem Qx7:∀ d∈List.range 7,∀ st∈B1 2,∀ h∈List.range d,∀ a∈List.range (2^h+1),∀ b∈List.range (2^h+1),0<a→0<b→yV st+tT 2 d 0 h a+tT 2 d 0 h b≤tT 2 d st (h+1) (a+b):=by decide +kernel
theorem Qx8:∀ d∈List.range 7,∀ st∈B1 3,∀ h∈List.range d,∀ a∈List.range (2^h+1),∀ b∈List.range (2^h+1),0<a→0<b→yV st+tT 3 d 0 h a+tT 3 d 0 h b≤tT 3 d st (h+1) (a+b):=by decide +kernel
theorem Qx9:∀ k∈[2,3],∀ d∈List.range 7,∀ st∈B1 k,∀ h∈List.range d,∀ a∈List.range (2^h+1),0<a→tT k d (Ny k d h st) h a≤tT k d st (h+1) a:=by decide +kernel
theorem Qxc:∀ k∈[1,2,3],∀ d∈List.range 7,∀ r∈List.range (2^d+1),1≤(jT k d r).1∧∀ c∈List.range (r+1),0<c→(tT k d 0 d c:Int)≤(jT k d r).1:=by decide +kernel
theorem Gg {k st:Nat}(h1:st<4)(h2:k=2→st<2):st∈B1 k:=by
 unfold B1;refine List.mem_range.2 ?_
 split
 · exact h2 ‹_›
 · exact h1
theorem k8 {k:Nat}(hk:1≤k∧k≤3)(j:Nat)(hj:1≤j∧j≤3):(BitVec.ofNat 8 k=BitVec.ofNat 8 j)↔k=j:=by
 constructor
 · intro h;have:=congrArg BitVec.toNat h;rw[BitVec.toNat_ofNat,BitVec.toNat_ofNat] at this;omega
 · intro h;rw[h]
theorem Qkg {k d r:Nat}{R:List Nat}(hk:1≤k∧k≤3)(hr:fW d R)(hn:R.Nodup)(hle:R.length≤r)(hr2:r≤2^d):((fA (BitVec.ofNat 8 k) d R).length:Int)≤(jT k d r).1∧1≤(jT k d r).1:=by
 obtain⟨hkm,hdm⟩:=Qe hk hr.1;obtain⟨t1,t2⟩:=Qxc k hkm d hdm r (List.mem_range.2 (by omega));refine⟨?_,t1⟩;unfold fA;by_cases hne:R=[]
 · rw[if_pos hne];simpa using t1
 rw[if_neg hne];have hpos:0<R.length:=List.length_pos_iff.2 hne;have h3:=t2 R.length (List.mem_range.2 (by omega)) hpos;have hlen:=Qkb hr hne (BitVec.ofNat 8 k);have hroot:=Eh hr hne;have hcr:=Qk2 hr;have hl1:Nat.log2 1=0:=by decide
 have key:jR (BitVec.ofNat 8 k) d R 1+sJ (BitVec.ofNat 8 k) d R d 1≤tT k d 0 d R.length:=by
  rcases(show k=1∨k=2∨k=3 by omega) with rfl|hk2
  · have h0:jR (BitVec.ofNat 8 1) d R 1=0:=by
     unfold jR oE jZ;rw[if_pos hroot,if_pos rfl,if_neg (by simp)];rfl
    have:=Js hr hn (fun h c=>tT 1 d 0 h c) (fun h hh=>Qxb d hdm h (List.mem_range.2 (by omega)))
     (fun h a b hh ha hb hab=>Qx6 d hdm h (List.mem_range.2 hh) a (List.mem_range.2 (by omega)) b (List.mem_range.2 (by omega)) hab) d 1 (by omega) (by omega) hroot
    rw[hcr] at this;rw[h0,Nat.zero_add];exact this
  · have hk1:BitVec.ofNat 8 k≠1#8:=fun h=>by have:=(k8 hk 1 (by omega)).1 h;omega
    have hk23:k∈[2,3]:=by rcases hk2 with rfl|rfl<;>simp
    have e2:∀ {p:Prop},(BitVec.ofNat 8 k=2#8→p)→(k=2→p):=fun h h2=>h ((k8 hk 2 (by omega)).2 h2)
    have:=Qiv hr hn hk1 (fun st h c=>tT k d st h c)
     (fun st s1 s2=>Qxa k hk23 d hdm st (Gg s1 (e2 s2)))
     (fun st h a b s1 s2 hh ha hb ha0 hb0=>by
      rcases hk2 with rfl|rfl
      · exact Qx7 d hdm st (Gg s1 (e2 s2)) h (List.mem_range.2 hh) a (List.mem_range.2 (by omega)) b (List.mem_range.2 (by omega)) ha0 hb0
      · exact Qx8 d hdm st (Gg s1 (e2 s2)) h (List.mem_range.2 hh) a (List.mem_range.2 (by omega)) b (List.mem_range.2 (by omega)) ha0 hb0)
     (fun st h a v s1 s2 hh ha ha0 hv=>by
      have hb:=Qx9 k hk23 d hdm st (Gg s1 (e2 s2)) h (List.mem_range.2 hh) a (List.mem_range.2 (by omega)) ha0;have hs:fF d v=decide ((d-(h+1))%jK d=0):=by unfold fF;rw[show Nat.log2 v=d-(h+1) by omega]
      have he:Z2 (BitVec.ofNat 8 k) d v st=Ny k d h st:=by
       unfold Z2 Ny;rw[hs];simp only[k8 hk 2 (by omega),decide_eq_true_eq]
      show tT k d (Z2 (BitVec.ofNat 8 k) d v st) h a≤_
      rw[he];exact hb)
     d 1 0 (by omega) (by omega) hroot (by simp) (by simp[jX]) (fun t ht=>by omega)
    rw[hcr,show mX (BitVec.ofNat 8 k) d 1 0=0 from rfl] at this;simpa using this
 omega
end Go.Sx.Pn

end
section
namespace Go.Sx.Pn
open Go Go.Sx
end Go.Sx.Pn

end
section
namespace Go.Sx.Po
open Go
theorem Qsz {p q g:Nat}(hp:p<18446744073709551616)(hq:q<18446744073709551616)(hg:g<18446744073709551616):∃ b:Bool,yH ⟨bn p,bn q,bn g⟩=some (if b=true then 0 else 13):=by
 obtain⟨b1,e1,i1⟩:=Ps hp;obtain⟨b2,e2,i2⟩:=Ps hq;unfold yH;simp only;rw[e1,bind_some]
 cases b1 with
 | false=>exact⟨false,rfl⟩
 | true=>
  have hP:=i1.1 rfl;simp only[Bool.not_true,cond_false];rw[e2,bind_some]
  cases b2 with
  | false=>exact⟨false,rfl⟩
  | true=>
   have hQ:=i2.1 rfl;simp only[Bool.not_true,cond_false];have hp2:=hP.2.1;have hq2:=hQ.2.1;rw[show(1#64)=bn 1 from rfl,Z8 hp (by omega),jD (by omega) (by omega) hq,bind_some];by_cases hz:bn ((p-1)%q)≠0#64
   · rw[if_pos hz];exact⟨false,rfl⟩
   · rw[if_neg hz];by_cases c3:bn g<2#64
     · rw[if_pos c3];exact⟨false,rfl⟩
     · rw[if_neg c3];by_cases c5:bn p≤bn g
       · rw[if_pos c5];exact⟨false,rfl⟩
       · rw[if_neg c5,My hg hq (by omega) (by omega),bind_some];unfold rS;by_cases h4:bn (g^q%p)=bn 1
         · rw[decide_eq_false (by simpa using h4)];exact⟨true,rfl⟩
         · rw[decide_eq_true h4];exact⟨false,rfl⟩
theorem Ue (s:aF):∃ b:Bool,jE s=some b∧(b=true→s.Kind=4#8∧0≤s.Depth∧s.Depth≤6∧1≤s.Degree∧s.Degree≤8):=by
 obtain⟨kd,dp,dg,⟨P,Q,G⟩⟩:=s;obtain⟨p,hp,rfl⟩:=Z7 P;obtain⟨q,hq,rfl⟩:=Z7 Q;obtain⟨g,hg,rfl⟩:=Z7 G;unfold jE;simp only;by_cases h1:kd=4#8
 · rw[if_pos h1];by_cases h2:0≤dp
   · rw[if_pos h2];by_cases h3:dp≤6
     · rw[if_pos h3];by_cases h4:1≤dg
       · rw[if_pos h4];by_cases h5:dg≤8
         · rw[if_pos h5];obtain⟨b,e1⟩:=Qsz hp hq hg;rw[e1,bind_some]
           split
           · have:eK dp=some dp.toNat:=by unfold eK;rw[if_pos h2]
             rw[this,bind_some];exact⟨_,rfl,fun _=>⟨h1,h2,h3,h4,h5⟩⟩
           · exact⟨false,rfl,nofun⟩
         · rw[if_neg h5];exact⟨false,rfl,nofun⟩
       · rw[if_neg h4];exact⟨false,rfl,nofun⟩
     · rw[if_neg h3];exact⟨false,rfl,nofun⟩
   · rw[if_neg h2];exact⟨false,rfl,nofun⟩
 · rw[if_neg h1];exact⟨false,rfl,nofun⟩
def tY (s:aF):Bool:=(jE s).getD false
theorem Qsu (s:aF):oI s=some (if tY s=true then 0 else 30):=by
 obtain⟨b,e,_⟩:=Ue s;unfold oI tY;rw[e,bind_some];cases b<;>rfl
theorem Qt1 {s:aF}(h:tY s=true):s.Kind=4#8∧0≤s.Depth∧s.Depth≤6∧1≤s.Degree∧s.Degree≤8:=by
 obtain⟨b,e,i⟩:=Ue s;unfold tY at h;rw[e] at h;exact i h
end Go.Sx.Po

end
section
namespace Go.Sx.Pn
open Go Go.Sx Go.Sx.Po
theorem F5:aI=18446744073709551611+1+1+1+1+1:=rfl
theorem Qdb (m:Int)(l:List Int)(hl:l.length<1000):∀ (k i f:Nat),l.length-i=k→i≤l.length→k<f→∃ j:Int,aS (R5 l m) f (i:Int)=some j∧(0≤j↔∃ x∈l.drop i,¬ (0≤x∧x≤m))
 | k,i,0,_,_,hf=>by omega
 | k,i,f+1,hk,hi,hf=>by
  rw[eQ];unfold R5;by_cases h:i<l.length
  · rw[if_pos (by omega),eG h,bind_some];unfold Pe;rw[List.drop_eq_getElem_cons h];by_cases h0:l[i]<0
    · rw[if_pos h0,bind_some,cond_true];exact⟨_,rfl,⟨fun _=>⟨l[i],List.mem_cons_self,by omega⟩,fun _=>by omega⟩⟩
    · rw[if_neg h0,bind_some];by_cases h1:m<l[i]
      · rw[decide_eq_true h1,cond_true];exact⟨_,rfl,⟨fun _=>⟨l[i],List.mem_cons_self,by omega⟩,fun _=>by omega⟩⟩
      · rw[decide_eq_false h1,cond_false,dO (by omega) (by omega)];obtain⟨j,e,q⟩:=Qdb m l hl (k-1) (i+1) f (by omega) (by omega) (by omega);refine⟨j,e,q.trans ?_⟩;constructor
        · rintro⟨x,hx,hn⟩;exact⟨x,List.mem_cons_of_mem _ hx,hn⟩
        · rintro⟨x,hx,hn⟩;rcases List.mem_cons.1 hx with rfl|hx
          · exact absurd ⟨by omega,by omega⟩ hn
          · exact⟨x,hx,hn⟩
  · rw[if_neg (by omega)];refine⟨-1,rfl,?_⟩;rw[List.drop_eq_nil_of_le (by omega)];simp
theorem wZ (m:Int)(l:List Int)(hl:l.length<1000):vH m l=some (l.all fun x=>decide (0≤x∧x≤m)):=by
 unfold vH Tw Ty;obtain⟨j,e,q⟩:=Qdb m l hl _ 0 aI rfl (by omega) (fI (by omega));rw[show((0:Nat):Int)=0 from rfl] at e;rw[e,bind_some,bind_some];congr 1;rw[List.drop_zero] at q;by_cases h:0≤j
 · rw[decide_eq_true h,Bool.not_true];obtain⟨x,hx,hn⟩:=q.1 h
   symm
   rw[List.all_eq_false];exact⟨x,hx,by simpa using hn⟩
 · rw[decide_eq_false h,Bool.not_false]
   symm
   rw[List.all_eq_true];intro x hx;refine decide_eq_true ?_;by_cases hc:0≤x∧x≤m
   · exact hc
   · exact absurd (q.2 ⟨x,hx,hc⟩) h
def mB (n:cO):Bool:=decide ((0≤n.Depth∧n.Depth≤6)∧(0≤n.Revoked∧n.Revoked≤((2^n.Depth.toNat:Nat):Int))∧(0≤n.Storage∧n.Storage≤10000)∧(0≤n.Headers∧n.Headers≤1000)∧(0≤n.HeaderPrice∧n.HeaderPrice≤1000)∧(0≤n.StoragePrice∧n.StoragePrice≤1000))
theorem Qef (n:cO):Qr n=some (if mB n=true then 0 else 2):=by
 unfold Qr mB;rw[wZ _ _ (by simp),bind_some];simp only[List.all_cons,List.all_nil,Bool.and_true];by_cases h1:0≤n.Depth∧n.Depth≤6
 · rw[decide_eq_true h1,Bool.not_true,cond_false];obtain⟨d,hd⟩:∃ d:Nat,n.Depth=(d:Int):=⟨n.Depth.toNat,by omega⟩;rw[hd,Qgg,bind_some,Qvz (by omega),wZ _ _ (by simp),bind_some,Int.toNat_natCast];simp only[List.all_cons,List.all_nil,Bool.and_true];by_cases h2:0≤n.Revoked∧n.Revoked≤((2^d:Nat):Int)
   · rw[decide_eq_true h2,Bool.not_true,cond_false,wZ _ _ (by simp),bind_some];simp only[List.all_cons,List.all_nil,Bool.and_true];by_cases h3:0≤n.Storage∧n.Storage≤10000
     · rw[decide_eq_true h3,Bool.not_true,cond_false,wZ _ _ (by simp),bind_some];simp only[List.all_cons,List.all_nil,Bool.and_true];unfold yL;rw[←Bool.decide_and,←Bool.decide_and];by_cases h4:(0≤n.Headers∧n.Headers≤1000)∧(0≤n.HeaderPrice∧n.HeaderPrice≤1000)∧(0≤n.StoragePrice∧n.StoragePrice≤1000)
       · rw[decide_eq_true h4,decide_eq_true ⟨by omega,h2,h3,h4⟩];rfl
       · rw[decide_eq_false h4,decide_eq_false fun h=>h4 h.2.2.2];rfl
     · rw[decide_eq_false h3,decide_eq_false fun h=>h3 h.2.2.1];rfl
   · rw[decide_eq_false h2,decide_eq_false fun h=>h2 h.2.1];rfl
 · rw[decide_eq_false h1,decide_eq_false fun h=>h1 h.1];rfl
def zR (k d:Nat):Int:=((E9 (dF k d)).getD (0,0)).1
theorem Qgn:∀ k∈[1,2,3],∀ d∈List.range 7,E9 (dF k d)=some (zR k d,0)∧1≤zR k d∧zR k d≤22:=by decide +kernel
theorem Qi4:∀ k∈[1,2,3],∀ d∈List.range 7,∀ r∈List.range (2^d+1),1≤(jT k d r).1∧(jT k d r).1≤32:=by decide +kernel
def Wb (n:cO)(k:BitVec 8)(a b c:Int)(l:List Int):cL:=⟨k,decide (c≤n.Storage),a,b,67+18*a+16*b,c,n.Headers*n.HeaderPrice*(67+18*a+16*b)+n.StoragePrice*c*((2^n.Depth.toNat:Nat):Int),l⟩
theorem Qk3 {n:cO}(h:mB n=true){hd c:Int}(h1:0≤hd∧hd≤1000)(h2:0≤c∧c≤400):(0≤n.Headers*n.HeaderPrice∧n.Headers*n.HeaderPrice≤1000000)∧(0≤n.Headers*n.HeaderPrice*hd∧n.Headers*n.HeaderPrice*hd≤1000000000)∧(0≤n.StoragePrice*c∧n.StoragePrice*c≤400000)∧(0≤n.StoragePrice*c*((2^n.Depth.toNat:Nat):Int)∧n.StoragePrice*c*((2^n.Depth.toNat:Nat):Int)≤25600000):=by
 obtain⟨⟨a1,a2⟩,_,_,⟨b1,b2⟩,⟨c1,c2⟩,⟨d1,d2⟩⟩:=of_decide_eq_true h;have h64:=Mw (d:=n.Depth.toNat) (by omega);have e1:=Int.mul_nonneg b1 c1;have e2:n.Headers*n.HeaderPrice≤1000*1000:=Int.mul_le_mul b2 c2 c1 (by omega);have e3:=Int.mul_nonneg e1 h1.1;have e4:n.Headers*n.HeaderPrice*hd≤1000000*1000:=Int.mul_le_mul (by omega) h1.2 h1.1 (by omega);have e5:=Int.mul_nonneg d1 h2.1;have e6:n.StoragePrice*c≤1000*400:=Int.mul_le_mul d2 h2.2 h2.1 (by omega);have e7:0≤n.StoragePrice*c*((2^n.Depth.toNat:Nat):Int):=Int.mul_nonneg e5 (by omega);have e8:n.StoragePrice*c*((2^n.Depth.toNat:Nat):Int)≤400000*64:=Int.mul_le_mul (by omega) (by omega) (by omega) (by omega);omega
theorem Qa2 {n:cO}(h:mB n=true)(k:BitVec 8){a b c:Int}(ha:0≤a∧a≤32)(hb:0≤b∧b≤8)(hc:0≤c∧c≤400)(l:List Int):N0 n k a b c l=some (Wb n k a b c l,0):=by
 obtain⟨q1,q2,q3,q4⟩:=Qk3 h (hd:=67+18*a+16*b) (by omega) hc;have hd:=(of_decide_eq_true h).1;obtain⟨d,hd2⟩:∃ d:Nat,n.Depth=(d:Int):=⟨n.Depth.toNat,by omega⟩;have e1:aX (67+aX (18*a))=67+18*a:=by rw[dO (n:=18*a) (by omega) (by omega),dO (by omega) (by omega)]
 have e2:aX (aX (67+aX (18*a))+aX (16*b))=67+18*a+16*b:=by rw[e1,dO (n:=16*b) (by omega) (by omega),dO (by omega) (by omega)]
 unfold N0 Wb;rw[e2,dO (n:=n.Headers*n.HeaderPrice) (by omega) (by omega),dO (n:=n.Headers*n.HeaderPrice*(67+18*a+16*b)) (by omega) (by omega),dO (n:=n.StoragePrice*c) (by omega) (by omega)];rw[hd2] at q4 ⊢;rw[Qgg,bind_some];unfold cW;rw[Int.toNat_natCast] at q4 ⊢;rw[Nat.min_eq_left (by omega),show(2:Int)^d=((2^d:Nat):Int) from by rw[Int.natCast_pow];rfl,dO (n:=n.StoragePrice*c*((2^d:Nat):Int)) (by omega) (by omega),dO (by omega) (by omega)]
def qP (n:cO):aF:=⟨4#8,n.Depth,gO n.Revoked 1,n.Group⟩
def Lq (n:cO)(k:Nat):cL:=Wb n (BitVec.ofNat 8 k) (jT k n.Depth.toNat n.Revoked.toNat).1 0 (16*zR k n.Depth.toNat) (yZ k n.Depth.toNat n.Revoked.toNat)
def E0 (n:cO):cL:=if tY (qP n)=true then Wb n 4#8 0 (gO n.Revoked 1) 8 [] else⟨4#8,false,0,0,0,0,0,[]⟩
def gN (n:cO)(k:Nat):cL:=if k=4 then E0 n else Lq n k
def zC:cL:=⟨0#8,false,0,0,0,0,0,[]⟩
theorem Qjv {n:cO}(h:mB n=false)(k:BitVec 8):yS n k=some (zC,2):=by
 unfold yS;rw[Qef,bind_some,h];rfl
theorem vW {k:Nat}(hk:k≤4):(BitVec.ofNat 8 k).toNat=k:=by rw[BitVec.toNat_ofNat];omega
theorem Ce {n:cO}(h:mB n=true):∃ d r:Nat,n.Depth=(d:Int)∧n.Revoked=(r:Int)∧d≤6∧r≤2^d:=by
 obtain⟨⟨a1,a2⟩,⟨b1,b2⟩,_⟩:=of_decide_eq_true h;exact⟨n.Depth.toNat,n.Revoked.toNat,by omega,by omega,by omega,by omega⟩
theorem Qzl {n:cO}(h:mB n=true){k:Nat}(hk:1≤k∧k≤3):(0≤(jT k n.Depth.toNat n.Revoked.toNat).1∧(jT k n.Depth.toNat n.Revoked.toNat).1≤32)∧(0≤16*zR k n.Depth.toNat∧16*zR k n.Depth.toNat≤400):=by
 obtain⟨d,r,hd,hr,h6,hr2⟩:=Ce h;rw[hd,hr,Int.toNat_natCast,Int.toNat_natCast];obtain⟨hkm,hdm⟩:=Qe hk h6;obtain⟨_,s1,s2⟩:=Qgn k hkm d hdm;obtain⟨w1,w2⟩:=Qi4 k hkm d hdm r (List.mem_range.2 (by omega));omega
theorem Qjw {n:cO}(h:mB n=true){k:Nat}(hk:1≤k∧k≤4):yS n (BitVec.ofNat 8 k)=some (gN n k,0):=by
 obtain⟨d,r,hd,hr,h6,hr2⟩:=Ce h;have h64:=Mw h6;unfold yS;rw[Qef,bind_some,h,if_pos rfl,if_neg (by decide),if_neg (fun hc=>by rw[BitVec.lt_def,vW hk.2] at hc;simp at hc;omega),decide_eq_false (fun hc=>by rw[BitVec.lt_def,vW hk.2] at hc;simp at hc;omega)];unfold Qs;rw[cond_false];by_cases h4:k=4
 · subst h4;rw[if_pos rfl];unfold gN;rw[if_pos rfl];show Option.bind (oI (qP n)) _=_;rw[Qsu,bind_some];unfold E0
   cases hp:tY (qP n) with
   | false=>rw[if_neg (show ¬ false=true by simp),if_pos (show(30:Int)≠0 by decide),if_neg (show ¬ false=true by simp)]
   | true=>
    have hg:=Qt1 hp;have hm:1≤gO n.Revoked 1∧gO n.Revoked 1≤8:=hg.2.2.2;rw[if_pos (show true=true from rfl),if_neg (show ¬ (0:Int)≠0 by decide),if_pos (show true=true from rfl)];exact Qa2 h _ (by omega) (by omega) (by omega) _
 · have hk3:1≤k∧k≤3:=by omega
   rw[if_neg (fun hc=>by have:=congrArg BitVec.toNat hc;rw[vW hk.2] at this;simp at this;omega)];unfold gN;rw[if_neg h4];have hs:(aF.mk (BitVec.ofNat 8 k) n.Depth 0 (dR.mk 0#64 0#64 0#64))=dF k d:=by rw[hd];rfl
   obtain⟨hkm,hdm⟩:=Qe hk3 h6;obtain⟨s0,s1,s2⟩:=Qgn k hkm d hdm;obtain⟨w1,w2⟩:=Qi4 k hkm d hdm r (List.mem_range.2 (by omega));rw[hs,nt hk3 h6,bind_some,s0,bind_some,hr,Qz2 hk3 h6 hr2,bind_some];rw[show n.Depth=(d:Int) from hd,(Qql hk3 h6 hr2).1,bind_some];simp only;rw[dO (n:=16*zR k d) (by omega) (by omega),Qa2 h _ (by omega) (by omega) (by omega)];unfold Lq;rw[hd,hr,Int.toNat_natCast,Int.toNat_natCast]
def tI (b:BitVec 8 × Int)(k:BitVec 8)(c:cL):BitVec 8 × Int:=if c.Fits=true∧(b.1=0#8∨c.Cost<b.2) then(k,c.Cost) else b
def C8 (l:List cL)(b:BitVec 8 × Int):Prop:=(b.1=0#8∧∀ c∈l,c.Fits=false)∨∃ i,∃ h:i<l.length,b.1=BitVec.ofNat 8 (i+1)∧l[i].Fits=true∧l[i].Cost=b.2∧∀ j (hj:j<l.length),l[j].Fits=true→b.2≤l[j].Cost∧(l[j].Cost=b.2→i≤j)
theorem Lk:C8 [] (0#8,0):=.inl ⟨rfl,nofun⟩
theorem wS {l:List cL}{b:BitVec 8 × Int}(h:C8 l b)(hl:l.length<100)(c:cL):C8 (l++[c]) (tI b (BitVec.ofNat 8 (l.length+1)) c):=by
 unfold tI;rcases h with⟨h1,h2⟩|⟨i,hi,h1,h2,h3,h4⟩
 · cases hf:c.Fits with
   | false=>
    rw[if_neg (by simp)];refine .inl ⟨h1,fun x hx=>?_⟩;rcases List.mem_append.1 hx with hx|hx
    · exact h2 x hx
    · rw[List.mem_singleton.1 hx];exact hf
   | true=>
    rw[if_pos ⟨rfl,.inl h1⟩];refine .inr ⟨l.length,by simp,rfl,by simpa using hf,by simp,fun j hj hjf=>?_⟩;rw[List.length_append,List.length_singleton] at hj;by_cases hjl:j<l.length
    · rw[List.getElem_append_left hjl,h2 _ (List.getElem_mem hjl)] at hjf;cases hjf
    · obtain rfl:j=l.length:=by omega
      simp
 · have hb0:b.1≠0#8:=by rw[h1];intro hc;have:=congrArg BitVec.toNat hc;rw[BitVec.toNat_ofNat] at this;simp at this;omega
   by_cases hc:c.Fits=true∧(b.1=0#8∨c.Cost<b.2)
   · rw[if_pos hc];have cP:=hc.2.resolve_left hb0;refine .inr ⟨l.length,by simp,rfl,by simpa using hc.1,by simp,fun j hj hjf=>?_⟩;rw[List.length_append,List.length_singleton] at hj;by_cases hjl:j<l.length
     · rw[List.getElem_append_left hjl] at hjf ⊢;have:=(h4 j hjl hjf).1;simp only;exact⟨by omega,fun he=>by omega⟩
     · obtain rfl:j=l.length:=by omega
       simp
   · rw[if_neg hc];refine .inr ⟨i,by rw[List.length_append];omega,h1,by rw[List.getElem_append_left hi];exact h2,by rw[List.getElem_append_left hi];exact h3,fun j hj hjf=>?_⟩;rw[List.length_append,List.length_singleton] at hj;by_cases hjl:j<l.length
     · rw[List.getElem_append_left hjl] at hjf ⊢;exact h4 j hjl hjf
     · obtain rfl:j=l.length:=by omega
       rw[List.getElem_append_right (by omega)] at hjf ⊢;simp only[Nat.sub_self,List.getElem_singleton] at hjf ⊢;have:¬ c.Cost<b.2:=fun hx=>hc ⟨hjf,.inr hx⟩;exact⟨by omega,fun _=>by omega⟩
theorem Wa {n:cO}(h:mB n=true)(rec:BitVec 8 × List cL × BitVec 8→Option (fH × Int)){l:List cL}{b:BitVec 8 × Int}(hb:C8 l b)(hl:l.length<4):yF n rec (BitVec.ofNat 8 (l.length+1),l,b.1)=rec (BitVec.ofNat 8 (l.length+2),l++[gN n (l.length+1)],(tI b (BitVec.ofNat 8 (l.length+1)) (gN n (l.length+1))).1):=by
 unfold yF;simp only;rw[if_pos (by rw[BitVec.le_def,vW (by omega)];simp;omega),Qjw h (by omega),bind_some,if_neg (by simp),kD (by simp;omega),bind_some];generalize gN n (l.length+1)=c;have hk:BitVec.ofNat 8 (l.length+1)+1#8=BitVec.ofNat 8 (l.length+2):=by apply BitVec.eq_of_toNat_eq;simp
 unfold N1 tI;rw[hk];simp only
 cases hf:c.Fits with
 | false=>rw[cond_false,cond_false,if_neg (by simp)]
 | true=>
  rw[cond_true];rcases hb with⟨h1,h2⟩|⟨i,hi,h1,h2,h3,h4⟩
  · rw[if_pos h1,if_pos ⟨rfl,.inl h1⟩,cond_true]
  · have hb0:b.1≠0#8:=by rw[h1];intro hc;have:=congrArg BitVec.toNat hc;rw[BitVec.toNat_ofNat] at this;simp at this;omega
    rw[if_neg hb0]
    have hg:bG (l++[c]) (aC (b.1-1#8))=some l[i]:=by
     have:aC (b.1-1#8)=(i:Int):=by
      unfold aC;rw[h1,BitVec.toNat_sub,BitVec.toNat_ofNat];simp;omega
     rw[this,eG (by rw[List.length_append];omega),List.getElem_append_left hi]
    rw[hg,bind_some,h3];by_cases cP:c.Cost<b.2
    · rw[decide_eq_true cP,cond_true,if_pos ⟨rfl,.inr cP⟩]
    · rw[decide_eq_false cP,cond_false,if_neg fun hc=>cP (hc.2.resolve_left hb0)]
def mV (n:cO):BitVec 8 × Int:=tI (tI (tI (tI (0#8,0) 1#8 (gN n 1)) 2#8 (gN n 2)) 3#8 (gN n 3)) 4#8 (gN n 4)
def sH (n:cO):List cL:=[gN n 1,gN n 2,gN n 3,gN n 4]
def rB (n:cO):fH:=⟨sH n,(mV n).1⟩
theorem Qj3 (n:cO):C8 (sH n) (mV n):=by
 have h1:=wS Lk (by simp) (gN n 1);have h2:=wS h1 (by simp) (gN n 2);have h3:=wS h2 (by simp) (gN n 3);exact wS h3 (by simp) (gN n 4)
theorem Qe9 {n:cO}(h:mB n=true):tW n=some (rB n,0):=by
 unfold tW;have h1:=wS Lk (by simp) (gN n 1);have h2:=wS h1 (by simp) (gN n 2);have h3:=wS h2 (by simp) (gN n 3);rw[F5,eQ,show(1#8,([]:List cL),0#8)=(BitVec.ofNat 8 (([]:List cL).length+1),[],(0#8,(0:Int)).1) from rfl,Wa h _ Lk (by simp)];rw[eQ];refine(Wa h _ h1 (by simp)).trans ?_;rw[eQ];refine(Wa h _ h2 (by simp)).trans ?_;rw[eQ];refine(Wa h _ h3 (by simp)).trans ?_;rw[eQ];rfl
theorem Qqt {n:cO}(h:mB n=false):tW n=some (⟨[],0#8⟩,2):=by
 unfold tW;rw[F5,eQ];unfold yF;simp only;rw[if_pos (by decide),Qjv h,bind_some];rfl
end Go.Sx.Pn

end
section
namespace Go.Sx.Tp
open Go Go.Sx Go.Sx.Ep Go.Sx.Pn Go.Sx.Po Go.Sx.Rg
theorem Qqq {d:Nat}{l:List Int}(h:gI d l=true):(cV l).Nodup:=by
 have key:∀ i j (hi:i<l.length) (hj:j<l.length),i<j→l[i]<l[j]:=by
  intro i j hi hj hij
  induction j with
  | zero=>omega
  | succ j ih=>
   unfold gI at h;rw[List.all_eq_true] at h;have h1:=h (j+1) (List.mem_range.2 hj);rw[Bool.and_eq_true,Bool.or_eq_true,decide_eq_true_eq,decide_eq_true_eq,decide_eq_true_eq,getD_some hj,Nat.add_sub_cancel,getD_some (by omega:j<l.length)] at h1;have h2:=h1.2.resolve_left (by omega);rcases Nat.lt_or_ge i j with h3|h3
   · have:=ih (by omega) h3;omega
   · obtain rfl:i=j:=by omega
     exact h2
 unfold cV;refine List.pairwise_iff_getElem.2 fun i j hi hj hij=>?_;rw[List.length_map] at hi hj;rw[List.getElem_map,List.getElem_map];have h1:=key i j hi hj hij;obtain⟨a,ha,_⟩:=Qj h (List.getElem_mem hi);obtain⟨b,hb,_⟩:=Qj h (List.getElem_mem hj);omega
theorem Qhd {k d:Nat}(hk:1≤k∧k≤3)(hd:d≤6):tE (dF k d) d:=by
 refine⟨?_,?_,Qvm hk hd,rfl,hd⟩
 · have:k=1∨k=2∨k=3:=by omega
   rcases this with rfl|rfl|rfl
   · exact .inl rfl
   · exact .inr (.inl rfl)
   · exact .inr (.inr rfl)
 · intro hc;have:=congrArg BitVec.toNat hc;change(BitVec.ofNat 8 k).toNat=4 at this;rw[vW (by omega)] at this;omega
theorem Qxh {k d r:Nat}(hk:1≤k∧k≤3)(hd:d≤6)(hr:r≤2^d){l:List Int}(hb:gI d l=true)(hle:l.length≤r):((fA (BitVec.ofNat 8 k) d (cV l)).length:Int)≤(jT k d r).1:=by
 exact(Qkg hk (rU hd hb) (Qqq hb) (by unfold cV;rw[List.length_map];exact hle) hr).1
def vR (b:dD)(p e:Int)(d:Nat):List Nat:=(List.range (2^d)).filter fun(u:Nat) => !tX b (u:Int) p e
theorem Qfs (b:dD)(p e:Int)(d:Nat):∀ n∈vR b p e d,n<2^d:=fun n h=>List.mem_range.1 (List.mem_filter.1 h).1
theorem Qft (b:dD)(p e:Int)(d:Nat):(vR b p e d).Pairwise (· < ·):=List.Pairwise.filter _ List.pairwise_lt_range
theorem Qj2 {n:cO}(b:mV n=mV n):(mV n).1=0#8∨∃ k,(1≤k∧k≤4)∧(mV n).1=BitVec.ofNat 8 k∧(gN n k).Fits=true:=by
 have hlen:(sH n).length=4:=rfl;rcases Qj3 n with⟨h1,_⟩|⟨i,hi,h1,h2,_⟩
 · exact .inl h1
 · refine .inr ⟨i+1,by omega,h1,?_⟩;have hi4:i<4:=hi;rcases(show i=0∨i=1∨i=2∨i=3 by omega) with rfl|rfl|rfl|rfl<;>exact h2
theorem Qa3 {n:cO}{k:Nat}(hk:1≤k∧k≤4):bG (sH n) (aC (BitVec.ofNat 8 k-1#8))=some (gN n k):=by
 rcases(show k=1∨k=2∨k=3∨k=4 by omega) with rfl|rfl|rfl|rfl<;>rfl
theorem Qhb {e:Int}(h:0≤e∧e≤1099511627776):nQ e=some true:=by
 unfold nQ;rw[if_pos h.1,decide_eq_true h.2]
theorem Qhc {n:cO}{b:dD}(hS:Sb b){root:W2}{p e u:Int}{s:aF}{x3:fH × Int}{a6:Int}{a7 a8 a9:BitVec 64}{x10:dZ × Int}(hs:s=aF.mk x3.1.Best n.Depth a6 (dR.mk a7 a8 a9))
 (hv:mR b=true) (he:0≤e∧e≤1099511627776) (hp:0≤p∧p<(b.Products.length:Int)) {d:Nat} (h6:d≤6)
 (hsec:∀ y,qO root s u=some y→y.2=0→∃ w:Nat,u=(w:Int)∧w<2^d∧qA s y.1 x10.1.Head=some (if(w:Int)∈kI b p e d then(k0,6) else(eF root e,0))):xA n b root p e u true x3 a6 a7 a8 a9 x10 false=some true:=by
 unfold xA;rw[cond_false,←hs];obtain⟨y,y1⟩:=Qvp root s u;rw[y1,bind_some];by_cases hy:y.2=0
 · obtain⟨w,rfl,hw,ho⟩:=hsec y y1 hy;have h64:=Po.fO h6;rw[if_neg (by simpa using hy),Qnm b hS hv (by omega) he hp,bind_some,ho,bind_some]
   cases hm:tX b (w:Int) p e with
   | true=>
    rw[if_neg (show ¬ ((w:Int)∈kI b p e d) from fun h=>by obtain⟨_,e1,_,h2⟩:=(Qfr b p e d _).1 h;rw[h2] at hm;cases hm)];simp only[cond_true,if_true];unfold rQ;rw[bind_some,decide_eq_true rfl]
   | false=>
    rw[if_pos ((Qfr b p e d _).2 ⟨w,rfl,hw,hm⟩)];simp
 · rw[if_pos hy]
theorem Qxg {n:cO}(hv:mB n=true){b:dD}(hS:Sb b){root:W2}{p e u:Int}{k d r:Nat}(hk:1≤k∧k≤3)(hd:n.Depth=(d:Int))(hr:n.Revoked=(r:Int))(h6:d≤6)(hr2:r≤2^d)
 (hvb:mR b=true) (he:0≤e∧e≤1099511627776) (hp:0≤p∧p<(b.Products.length:Int)) (hbest:(mV n).1=BitVec.ofNat 8 k) (hle:(kI b p e d).length≤r):
 uE n b root p e u true (rB n,0) (kI b p e d,0) 0 0#64 0#64 0#64=some true:=by
 have h64:=Po.fO h6;have hT:=Qhd hk h6;have hs:dF k d=aF.mk (rB n).Best n.Depth 0 (dR.mk 0#64 0#64 0#64):=by rw[hd,show(rB n).Best=BitVec.ofNat 8 k from hbest];rfl
 have hb:gI d (kI b p e d)=true:=Qqp (Qfs b p e d) (Qft b p e d);have hR:=rU h6 hb;have hcl:=Lv hR (BitVec.ofNat 8 k);have ht:=Qhb he;have hseal:=Qgb hT hb (by omega) root ht;obtain⟨m,hm⟩:=Bf hseal (by unfold gZ;rw[List.length_map];show(fA (BitVec.ofNat 8 k) d _).length≤64;omega) (by unfold gZ;simp);obtain⟨bs,e1,e2⟩:=Fs (h:=gZ root (eF root e) (dF k d).Kind (fA (dF k d).Kind d (cV (kI b p e d)))) m he (by unfold gZ;rw[List.length_map];show(fA (BitVec.ofNat 8 k) d _).length≤64;omega) (by unfold gZ;simp) (Qep hR _ _ _);have hi:(gZ root (eF root e) (dF k d).Kind (fA (dF k d).Kind d (cV (kI b p e d)))).Items.length=(fA (BitVec.ofNat 8 k) d (cV (kI b p e d))).length:=by unfold gZ;rw[List.length_map];rfl
 have hpt:(gZ root (eF root e) (dF k d).Kind (fA (dF k d).Kind d (cV (kI b p e d)))).Points.length=0:=rfl;rw[hi,hpt] at e2;have t1:=Qxh hk h6 hr2 hb hle;unfold uE;rw[←hs];simp only;rw[hm,bind_some];simp only;rw[e1,bind_some,if_neg (by simp),if_neg (by simp)];show Option.bind (bG (sH n) (aC ((mV n).1-1#8))) _=_;rw[hbest,Qa3 ⟨hk.1,by omega⟩,bind_some]
 have eH:(gN n k).Header=67+18*(jT k d r).1:=by
  have e4:gN n k=Lq n k:=if_neg (by omega);rw[e4];show 67+18*(jT k n.Depth.toNat n.Revoked.toNat).1+16*0=_;rw[hd,hr,Int.toNat_natCast,Int.toNat_natCast];omega
 rw[decide_eq_false (by rw[eH,e2];omega)];refine Qhc hS hs hvb he hp h6 (fun y y1 y2=>?_);obtain⟨y',y3,y4⟩:=Qvv hT root u;rw[y1] at y3;cases y3;obtain⟨w,rfl,hw,hyv⟩:=y4 y2;refine⟨w,rfl,hw,?_⟩;rw[hyv];exact Qsq hT hb root e hw
theorem Qxf {n:cO}(hv:mB n=true){b:dD}(hS:Sb b){root:W2}{p e u:Int}{d r:Nat}(hd:n.Depth=(d:Int))(hr:n.Revoked=(r:Int))(h6:d≤6)
 (hvb:mR b=true) (he:0≤e∧e≤1099511627776) (hp:0≤p∧p<(b.Products.length:Int)) (hbest:(mV n).1=BitVec.ofNat 8 4) (hfit:(gN n 4).Fits=true) (hle:(kI b p e d).length≤r):
 uE n b root p e u true (rB n,0) (kI b p e d,0) (gO n.Revoked 1) n.Group.P n.Group.Q n.Group.G=some true:=by
 have e4:gN n 4=E0 n:=if_pos rfl
 have hpl:tY (qP n)=true:=by
  cases h:tY (qP n) with
  | true=>rfl
  | false=>rw[e4] at hfit;unfold E0 at hfit;rw[h,if_neg (by simp)] at hfit;cases hfit
 have hpv:jE (qP n)=some true:=by
  obtain⟨b',hb',_⟩:=Ue (qP n);unfold tY at hpl;rw[hb'] at hpl ⊢;simp only[Option.getD_some] at hpl;rw[hpl]
 obtain⟨d',t,p',q,g,hV⟩:∃ d t p q g,Po.gC (qP n) d t p q g:=by
  rcases Po.Zu (qP n) with⟨e1,_⟩|⟨_,_,d,t,p,q,g,h⟩
  · rw[e1] at hpv;cases hpv
  · exact⟨d,t,p,q,g,h⟩
 haveI:NeZero q:=⟨by have:=hV.qb;omega⟩;have hP:Q4 (qP n) d' t p' q g:=⟨rfl,rfl,hV,hpv⟩;have hdd:d'=d:=by have h1:n.Depth=(d':Int):=hV.depth;omega
 subst hdd;have ht8:=hV.t8;have hdeg:gO n.Revoked 1=(t:Int):=hV.deg;have hrt:r≤t:=by unfold gO at hdeg;split at hdeg<;>omega
 have hs:qP n=aF.mk (rB n).Best n.Depth (gO n.Revoked 1) (dR.mk n.Group.P n.Group.Q n.Group.G):=by rw[show(rB n).Best=BitVec.ofNat 8 4 from hbest];rfl
 have hl1:=Qfs b p e d';have hl2:=Qft b p e d';have hl3:(vR b p e d').length≤t:=by have:(kI b p e d').length=(vR b p e d').length:=List.length_map ..;omega
 have ht:=Qhb he;have hseal:=Qvr hP hl1 hl2 hl3 root ht;obtain⟨m,hm⟩:=Bf hseal (by unfold Po.dV;simp) (by unfold Po.dV;rw[List.length_map,Po.zA hl3];omega);obtain⟨bs,e1,e2⟩:=Fs (h:=Po.dV root d' t p' q g (vR b p e d') (eF root e) (wd e)) m he (by unfold Po.dV;simp) (by unfold Po.dV;rw[List.length_map,Po.zA hl3];omega) (by unfold Po.dV;simp);have hi:(Po.dV root d' t p' q g (vR b p e d') (eF root e) (wd e)).Items.length=0:=rfl;have hpt:(Po.dV root d' t p' q g (vR b p e d') (eF root e) (wd e)).Points.length=t:=by unfold Po.dV;rw[List.length_map,Po.zA hl3]
 rw[hi,hpt] at e2;unfold uE;rw[←hs];simp only;rw[show kI b p e d'=(vR b p e d').map (fun n:Nat=>(n:Int)) from rfl,hm,bind_some];simp only;rw[e1,bind_some,if_neg (by simp),if_neg (by simp)];show Option.bind (bG (sH n) (aC ((mV n).1-1#8))) _=_;rw[hbest,Qa3 (by omega),bind_some]
 have eH:(gN n 4).Header=67+16*gO n.Revoked 1:=by
  rw[e4];unfold E0;rw[if_pos hpl];show 67+18*0+16*gO n.Revoked 1=_;omega
 rw[decide_eq_false (by rw[eH,e2,hdeg];omega)];refine Qhc hS hs hvb he hp h6 (fun y y1 y2=>?_);obtain⟨y',y3,y4⟩:=Qvu hP root u;rw[y1] at y3;cases y3;obtain⟨w,rfl,hw,hyv⟩:=y4 y2;refine⟨w,rfl,hw,?_⟩;rw[hyv];exact Qso hP hl1 hl2 hl3 root e hw
def vY:cO:=cO.mk 1 1 100 1 1 0 (dR.mk 0#64 0#64 0#64)
theorem v10:mB vY=true:=by decide +kernel
theorem Qj1:(mV vY).1=1#8:=by kernel_rfl
theorem Qp5:(gN vY 1).Header=85:=by kernel_rfl
theorem Qk4:(fA (1#8) 1 (cV [1])).length=1:=by decide +kernel
theorem Qic:Qb=some true:=by
 unfold Qb;show Option.bind (tW vY) _=_;rw[Qe9 v10,bind_some];have hT:tE (dF 1 1) 1:=Qhd ⟨by omega,by omega⟩ (by omega);have hb:gI 1 [1]=true:=by decide +kernel
 have hR:=rU (d:=1) (by omega) hb;have ht:nQ 3=some true:=by kernel_rfl
 have hseal:=Qgb hT hb (by simp) (72057594037927936#64,0#64) ht;have hil:(gZ (72057594037927936#64,0#64) (eF (72057594037927936#64,0#64) 3) (1#8) (fA (1#8) 1 (cV [1]))).Items.length=1:=by unfold gZ;rw[List.length_map];exact Qk4
 obtain⟨m,hm⟩:=Bf hseal (by show(gZ _ _ (1#8) (fA (1#8) 1 (cV [1]))).Items.length≤64;rw[hil];omega) (by unfold gZ;simp);obtain⟨bs,e1,e2⟩:=Fs (h:=gZ (72057594037927936#64,0#64) (eF (72057594037927936#64,0#64) 3) (1#8) (fA (1#8) 1 (cV [1]))) m (n:=3) (by omega) (by rw[hil];omega) (by unfold gZ;simp) (Qep hR _ _ _);rw[hil] at e2;have hm':xN (72057594037927936#64,0#64) (aF.mk 1#8 1 0 (dR.mk 0#64 0#64 0#64)) 3 [1]=some (⟨1#8,3,gZ (72057594037927936#64,0#64) (eF (72057594037927936#64,0#64) 3) (1#8) (fA (1#8) 1 (cV [1])),0#8,0#64,[],m⟩,0):=hm;rw[hm',bind_some];simp only;rw[e1,bind_some,if_pos trivial,if_pos (show(rB vY).Best=1#8 from Qj1),if_pos (show(0:Int)=0 from rfl),if_pos trivial,if_pos (show(bs.length:Int)=85 by rw[e2];rfl)];show Option.bind (bG (sH vY) 0) _=_;have:bG (sH vY) 0=some (gN vY 1):=rfl;rw[this,bind_some,decide_eq_true Qp5]
end Go.Sx.Tp
namespace Go.Sx
open Go Go.Sx.Ep Go.Sx.Pn Go.Sx.Rg Go.Sx.Tp
theorem Qp2 (b:dD):L3 b=some true∨(L3 b=some false∧Sb b):=by
 unfold L3 Sb;by_cases h1:(20:Int)<(b.Products.length:Int)
 · rw[if_pos h1];exact .inl rfl
 · rw[if_neg h1];by_cases h2:(80:Int)<(b.Cards.length:Int)
   · rw[if_pos h2];exact .inl rfl
   · rw[if_neg h2];by_cases h3:(80:Int)<(b.Grants.length:Int)
     · rw[if_pos h3];exact .inl rfl
     · rw[if_neg h3];by_cases h4:(80:Int)<(b.Sales.length:Int)
       · rw[if_pos h4];exact .inl rfl
       · rw[if_neg h4];by_cases h5:(80:Int)<(b.Licences.length:Int)
         · rw[decide_eq_true h5];exact .inl rfl
         · rw[decide_eq_false h5];exact .inr ⟨rfl,by omega⟩
theorem Qp7 (n:cO)(b:dD)(root:W2)(p e u:Int)(hn:n.ok)(hb:b.ok)(hp:eB p)(he:eB e)(hu:eB u):Yr n b root p e u=some true:=by
 unfold Yr;rw[Qic,bind_some];rcases Qp2 b with hg|⟨hg,hS⟩
 · rw[hg];rfl
 rw[hg,bind_some,cond_false,Bool.not_true];unfold Qa;rw[cond_false];obtain⟨x,x1,x2,_⟩:=Qu8 b hS p e n.Depth;have hJ2:∀ y z,uU n b root p e u true y z true=some true:=fun _ _=>rfl
 cases hv:mB n with
 | false=>rw[Qqt hv,bind_some,x1,bind_some,if_pos (by simp)];exact hJ2 _ _
 | true=>
  rw[Qe9 hv,bind_some,x1,bind_some,if_neg (by simp)];by_cases h2:x.2=0
  · obtain⟨hvb,he',hd',hp',hx⟩:=x2 h2;rw[if_neg (by simpa using h2)];show(if(mV n).1=0#8 then _ else _)=_
    rcases Qj2 (n:=n) rfl with h0|⟨k,hk,hbest,hfit⟩
    · rw[if_pos h0];exact hJ2 _ _
    · have hne:¬ (mV n).1=0#8:=by rw[hbest];intro hc;have:=congrArg BitVec.toNat hc;rw[vW hk.2] at this;simp at this;omega
      rw[if_neg hne];obtain⟨d,r,hd,hr,h6,hr2⟩:=Ce hv;obtain⟨l,z⟩:=x;simp only at h2 hx ⊢;subst h2;rw[hd,Int.toNat_natCast] at hx;subst hx;by_cases hle:n.Revoked<((kI b p e d).length:Int)
      · rw[decide_eq_true hle];exact hJ2 _ _
      · rw[decide_eq_false hle];unfold uU;rw[cond_false]
        have hun:¬ ((rB n).Choices.length:Int)<aC (rB n).Best:=by
         show ¬ ((sH n).length:Int)<aC (mV n).1;rw[hbest];unfold aC;rw[vW hk.2];show ¬ (4:Int)<_;omega
        rw[if_neg hun];show(if(mV n).1=4#8 then _ else _)=_
        by_cases h4:k=4
        · subst h4;rw[if_pos hbest];exact Qxf hv hS hd hr h6 hvb he' hp' hbest hfit (by omega)
        · rw[if_neg (by rw[hbest];intro hc;have:=congrArg BitVec.toNat hc;rw[vW hk.2] at this;simp at this;omega)];exact Qxg hv hS ⟨hk.1,by omega⟩ hd hr h6 hr2 hvb he' hp' hbest (by omega)
  · rw[if_pos h2];exact hJ2 _ _
end Go.Sx

end
