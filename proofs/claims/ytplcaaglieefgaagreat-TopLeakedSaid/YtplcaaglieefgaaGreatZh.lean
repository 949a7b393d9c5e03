/- Several texts in one: Nw Nx Neb Nec Ny Nz LawTl. -/
import Derived.Test.YtplcaaglieefgaaGreatZg
import Derived.Test.YtplcaaglieefgaaGreatZe
import Derived.Test.YtplcaaglieefgaaGreatZf
import Derived.Test.YtplcaaglieefgaaGreatZb
set_option linter.unusedVariables false
set_option linter.unusedSimpArgs false
set_option maxRecDepth 100000
section
namespace Go.Sx.Nu
open Go Go.Sx
theorem xA:eD (un 32#64)=some 32:=rfl
theorem Xfx:eD (un 31#64)=some 31:=rfl
theorem Qe2 (hi lo:BitVec 32):(((hi.setWidth 64) <<< 32) ||| (lo.setWidth 64)).toNat=hi.toNat*B+lo.toNat:=by
 have h1:=hi.isLt;have h2:=lo.isLt;rw[Lq,V5,kT,kT,fA (show hi.toNat<2^64 by omega),fA (show lo.toNat<2^64 by omega),fA (by rw[vQ];omega),←Qbb h2,vQ]
theorem Qz (p:Dg)(i:Nat):vU p (i:Int)=some ((p.getD i 0#32).setWidth 64):=by
 unfold vU;by_cases h:(p.length:Int)≤(i:Int)
 · rw[aG h];have:p.getD i 0#32=0#32:=by simp[List.getD,show p.length≤i by omega]
   rw[this];rfl
 · rw[aH h,cF (show i<p.length by omega),aJ];simp[List.getD,show i<p.length by omega]
theorem gd (p:Dg){i:Nat}(h:i<p.length):p.getD i 0#32=p[i]:=by simp[List.getD,h]
theorem gd0 (p:Dg){i:Nat}(h:p.length≤i):p.getD i 0#32=0#32:=by simp[List.getD,h]
theorem Ie (l:Dg)(i:Nat):val (l.take (i+1))=val (l.take i)+B^i*(l.getD i 0#32).toNat:=by
 by_cases h:i<l.length
 · rw[Vd l i h,Ib,qR,oB aQ,gd l h];simp[val]
 · rw[kI aQ,kI aQ,gd0 l aQ];simp
theorem Xx (n:Nat)(h:n<1000000):lG 4 (n:Int) (0#32)=some (List.replicate n 0#32):=by
 unfold lG;rw[aG aQ];simp
theorem Qv0 (hi lo y:BitVec 32)(h:hi<y):∃ q r,Dh hi lo y=some (q,r)∧r.toNat=(hi.toNat*B+lo.toNat)%y.toNat:=by
 have hy:y≠0#32:=by intro h0;subst h0;rw[pN] at h;simp at h
 rw[pN] at h;have hle:¬ y≤hi:=by rw[yG];omega
 unfold Dh;rw[aG hy,cJ hle];unfold Di
 have hy64:y.setWidth 64≠0#64:=by
  intro h0;have:=cA BitVec.toNat h0;rw[kT,fA (by have:=y.isLt;omega)] at this;exact hy (jW this)
 rw[cH,xA,aJ];unfold wX gB;rw[aH hy64,aJ,aH hy64,aJ];refine⟨_,_,rfl,?_⟩;rw[kT,E3,Qe2,kT,fA (show y.toNat<2^64 by have:=y.isLt;omega)];have:(hi.toNat*B+lo.toNat)%y.toNat<y.toNat:=fR _ aQ;exact fA (by have:=y.isLt;omega)
theorem Qnt (p:Dg)(hp:p.length<1000000)(y:BitVec 32)(hy:y≠0#32):∀ (k:Nat) (q:Dg) (r:BitVec 32),k≤p.length→q.length=p.length→r.toNat=val (p.drop k)%y.toNat→∃ q' r',fU (Zn p [y]) L4 (bk p k) (q,r)=some (q',r')∧val r'=val p%y.toNat∧Nz r'
 | 0,q,r,_,hq,hr=>by
  show ∃ q' r',L4 (q,r)=some (q',r')∧_;unfold L4 Mu;obtain⟨t,t1,_⟩:=yJ q aQ;obtain⟨s,s1,s2,_,s3,_⟩:=yJ [r] bW;simp only;rw[t1,aJ,s1,aJ];refine⟨t,s,rfl,?_,s3⟩;rw[s2];rw[kA] at hr;simp[val,hr]
 | k+1,q,r,hk,hq,hr=>by
  have hk':k<p.length:=by omega
  have dX:r<y:=by
   have hy0:0<y.toNat:=by
    rcases rR y.toNat with h0|h0
    · exact absurd (jW h0) hy
    · exact h0
   rw[pN,hr];exact fR _ hy0
  obtain⟨q1,r1,d1,d2⟩:=Qv0 r p[k] y dX;unfold bk;rw[sJ];unfold Zn;simp only;rw[cF hk',aJ,show bJ [y] 0=some y from rfl,aJ,d1,aJ,cF (show k<q.length by omega),aJ];refine Qnt p hp y hy k _ r1 aQ (by simpa using hq) ?_;rw[d2,qH p k hk',hr,yC,eZ _ B,Sm,tY,A8,←tY,←Sm]
theorem Xg2 (y:BitVec 32)(n:Nat)(hn:n<32):(y <<< n).toNat=y.toNat*2^n%B:=by rw[V5,vQ]
theorem Qps (y:BitVec 32)(n:Nat)(hn:n<32):((((y.setWidth 64) <<< n) >>> 32).setWidth 32).toNat=y.toNat*2^n / B:=by
 have h1:=y.isLt;have h2:2^n≤2^31:=fD bV aQ;have h3:y.toNat*2^n≤(2^32-1)*2^31:=oC aQ h2;rw[kT,uC,V5,kT,fA (show y.toNat<2^64 by omega),vQ,fA (show y.toNat*2^n<2^64 by omega),vX];exact fA (by show y.toNat*2^n / 2^32<2^32;omega)
theorem Xd4 {a b n:Nat}(ha:a<2^n)(hb:b%2^n=0):a ||| b=a+b:=by
 have e:b=(b / 2^n) <<< n:=by rw[vQ];have:=qM b (2^n);rw[eZ] at this;omega
 rw[e,Nat.or_comm,←Qbb ha];omega
theorem Vk (n:Nat)(h:n<64):un (wd (n:Int))=(n:Int):=by
 unfold un wd;rw[Yd];omega
theorem Qpq (a:Dg)(ha:a.length<1000000)(n:Nat)(hn:n<32):∀ (k i f:Nat) (out:Dg),a.length-i=k→i≤a.length→k<f→out.length=a.length+1→val out=val (a.take i)*2^n→(∀ j (h:j<out.length),i<j→out[j]=0#32)→(∀ h:i<out.length,out[i].toNat<2^n)→
 ∃ u,aC (Zs a (wd (n:Int))) f (out,(i:Int))=some u∧u.length=a.length+1∧val u=val a*2^n
 | k,i,0,out,_,_,hf,_,_,_,_=>by omega
 | k,i,f+1,out,hk,hi,hf,ho,hv,hz,hc=>by
  rw[dW];simp only[Zs];by_cases h:i<a.length
  · have io:i<out.length:=by omega
    have io1:i+1<out.length:=by omega
    rw[aG aQ,cF h,aJ,cF io,aJ,Vk n aQ,show eD (n:Int)=some n from by unfold eD;rw[aG aQ];rfl,aJ,aJ,aJ,xA,aJ,fS aQ,cF (show i+1<(out.set ((i:Nat):Int).toNat (out[i] ||| (a[i] <<< n))).length by simpa using io1),aJ];rw[jZ,jZ];have hci:=hc io
    have hmod:(a[i].toNat*2^n%B)%2^n=0:=by
     have e:B=2^n*2^(32-n):=by rw[←kO,show n+(32-n)=32 by omega]
     rw[e,eZ a[i].toNat,Nat.mul_mod_mul_left,Nat.mul_mod_right]
    have e1:(out[i] ||| (a[i] <<< n)).toNat=out[i].toNat+a[i].toNat*2^n%B:=by
     rw[Lq,Xg2 _ _ hn];exact Xd4 hci hmod
    have s1:=Nn out i (out[i] ||| (a[i] <<< n)) io
    have z1:(out.set i (out[i] ||| (a[i] <<< n)))[i+1]'(by simpa using io1)=0#32:=by
     rw[Qaq aQ];exact hz _ io1 aQ
    have s2:=Nn (out.set i (out[i] ||| (a[i] <<< n))) (i+1) ((((a[i].setWidth 64) <<< n) >>> 32).setWidth 32) (by simpa using io1);rw[z1,Qps _ _ hn] at s2;rw[e1] at s1;refine Qpq a ha n hn (k-1) (i+1) f _ aQ aQ aQ (by simpa using ho) ?_ ?_ ?_
    · rw[Ie,gd a h,iN,←hv];have hd:=qM (a[i].toNat*2^n) B;have e3:B^(i+1)*(a[i].toNat*2^n / B)=B^i*(B*(a[i].toNat*2^n / B)):=by rw[eS,jN]
      have e4:B^i*a[i].toNat*2^n=B^i*(B*(a[i].toNat*2^n / B))+B^i*(a[i].toNat*2^n%B):=by rw[jN,←iQ,hd]
      have e5:B^i*(out[i].toNat+a[i].toNat*2^n%B)=B^i*out[i].toNat+B^i*(a[i].toNat*2^n%B):=iQ ..;have e6:B^(i+1)*(0#32:BitVec 32).toNat=0:=by simp
      rw[e3,e6] at s2;rw[e5] at s1;rw[e4];omega
    · intro j hj hij;rw[Qaq aQ,Qaq aQ];exact hz j (by simpa using hj) aQ
    · intro hj;rw[List.getElem_set_self,Qps _ _ hn];have:=a[i].isLt;exact Qb4 (A9 (by show a[i].toNat<B;exact this) (fI n))
  · obtain rfl:i=a.length:=by omega
    rw[aH aQ];exact⟨out,rfl,ho,by rw[hv,Sl]⟩
theorem Qpp (a:Dg)(ha:a.length<999999)(n:Nat)(hn:n<32):∃ u,Zr a (wd (n:Int))=some u∧u.length=a.length+1∧val u=val a*2^n:=by
 unfold Zr;rw[fS aQ,Xx _ aQ,aJ];refine Qpq a aQ n hn _ 0 aI _ rfl aQ (fQ aQ) bW (by rw[Xi6];simp[val]) (fun j h _=>by simp) (fun h=>by simp;exact fI n)
def ud (n:Nat)(d e:BitVec 32):BitVec 32:=((((e.setWidth 64) <<< 32) ||| (d.setWidth 64)) >>> n).setWidth 32
def uS (n:Nat):Dg→Dg
 | []=>[]
 | d::r=>ud n d (r.headD 0#32)::uS n r
theorem Qqn (n:Nat):∀ l:Dg,(uS n l).length=l.length
 | []=>rfl
 | d::r=>by rw[uS,qF,qF,Qqn n r]
theorem Qqm (n:Nat):∀ (l:Dg) (i:Nat),i<l.length→(uS n l).getD i 0#32=ud n (l.getD i 0#32) (l.getD (i+1) 0#32)
 | [],i,h=>by simp at h
 | d::r,0,_=>by cases r<;>rfl
 | d::r,i+1,h=>by
  have:=Qqm n r i (by simpa using h);simpa[uS,List.getD] using this
theorem Xhq (n:Nat)(hn:n<32)(d e:BitVec 32):(ud n d e).toNat=(e.toNat*B+d.toNat) / 2^n%B:=by
 unfold ud;rw[kT,uC,Qe2,vX]
theorem Qqo (n:Nat)(hn:n<32):∀ l:Dg,val (uS n l)=val l / 2^n
 | []=>by simp[uS,val]
 | d::r=>by
  rw[uS,val,val,Qqo n hn r,Xhq n hn]
  obtain⟨r0,v',h0,hv⟩:∃ r0 v':Nat,(r.headD 0#32).toNat=r0∧val r=r0+B*v':=by
   cases r with
   | nil=>exact⟨0,0,rfl,by simp[val]⟩
   | cons a t=>exact⟨a.toNat,val t,rfl,rfl⟩
  rw[h0,hv];obtain⟨c,hc⟩:∃ c,c=2^n:=⟨_,rfl⟩;obtain⟨m,hm⟩:∃ m,m=2^(32-n):=⟨_,rfl⟩;have hB:B=c*m:=by rw[hc,hm,←kO,show n+(32-n)=32 by omega]
  have hc0:0<c:=by rw[hc];exact fI n
  have hm0:0<m:=by rw[hm];exact fI _
  rw[←hc];have hd:=d.isLt;have hdm:d.toNat / c<m:=Qb4 (by rw[←hB];exact hd)
  have e1:(r0*B+d.toNat) / c=d.toNat / c+m*r0:=by
   rw[hB,show r0*(c*m)=c*(m*r0) by rw[eZ,jN],yC,Yq _ _ hc0]
  have e2:(d.toNat / c+m*r0) / B=r0 / c:=by
   rw[hB,eZ c m,←iB,Yq _ _ hm0,pF hdm,kN]
  have e3:(r0+B*v') / c=r0 / c+m*v':=by
   rw[hB,jN,Yq _ _ hc0]
  have e4:(d.toNat+B*(r0+B*v')) / c=d.toNat / c+m*(r0+B*v'):=by
   rw[show B*(r0+B*v')=c*(m*(r0+B*v')) by rw[←jN,←hB],Yq _ _ hc0]
  rw[e1,e3,e4];have e5:=qM (d.toNat / c+m*r0) B;rw[e2] at e5;rw[iQ,iQ m r0,show m*(B*v')=B*(m*v') by rw[←jN,eZ m B,jN]];omega
theorem Qqi (a:Dg)(ha:a.length<1000000)(n:Nat)(hn:n<32):∀ (k i f:Nat) (out:Dg),a.length-i=k→i≤a.length→k<f→out.length=a.length→(∀ j,j<i→out.getD j 0#32=(uS n a).getD j 0#32)→
 ∃ r,aC (Zw a (wd (n:Int))) f (out,(i:Int))=some r∧val r=val a / 2^n∧Nz r
 | k,i,0,out,_,_,hf,_,_=>by omega
 | k,i,f+1,out,hk,hi,hf,ho,hv=>by
  rw[dW];simp only[Zw];by_cases h:i<a.length
  · have io:i<out.length:=by omega
    rw[aG aQ,fS aQ,Qz,aJ,xA,aJ,Qz,aJ,Vk n aQ,show eD (n:Int)=some n from by unfold eD;rw[aG aQ];rfl,aJ,cF io,aJ,jZ];refine Qqi a ha n hn (k-1) (i+1) f _ aQ aQ aQ (by simpa using ho) fun j hj=>?_;rcases jG j i with h1|h1
    · rw[←hv j h1];simp only[List.getD,Qan];rw[aH aQ]
    · obtain rfl:j=i:=by omega
      rw[Qqm n a j h];simp only[List.getD,Qan];rw[aG trivial,aG io];rfl
  · obtain rfl:i=a.length:=by omega
    rw[aH aQ]
    have he:out=uS n a:=by
     apply E7 (by rw[ho,Qqn]);intro j h1 h2;have:=hv j aQ;rwa[gd out h1,gd (uS n a) h2] at this
    obtain⟨t,t1,t2,_,t3,_⟩:=yJ out aQ;rw[t1,aJ];exact⟨t,rfl,by rw[t2,he,Qqo n hn],t3⟩
theorem Xhz (a:Dg)(ha:a.length<1000000)(n:Nat)(hn:n<32):∃ r,Tb a (wd (n:Int))=some r∧val r=val a / 2^n∧Nz r:=by
 unfold Tb;rw[Xx _ aQ,aJ];exact Qqi a ha n hn _ 0 aI _ rfl aQ (fQ aQ) bW (fun j h=>by omega)
end Go.Sx.Nu

end
section
namespace Go.Sx.Nu
open Go Go.Sx
theorem Xgv (y p b:BitVec 32)(hb:b.toNat≤1):∃ d b',Dk y p b=some (d,b')∧b'.toNat≤1∧d.toNat+p.toNat+b.toNat=y.toNat+B*b'.toNat:=by
 unfold Dk;rw[Xfx,aJ];refine⟨_,_,rfl,?_⟩
 have hb':b=0#32∨b=1#32:=by
  rcases jG b.toNat 1 with h|h
  · exact .inl (jW (by simp;omega))
  · exact .inr (jW (by simp;omega))
 have hm:∀ x:BitVec 32,(x >>> 31).toNat=if x.msb then 1 else 0:=by
  intro x;rw[uC,vX,BitVec.msb_eq_decide];have:=x.isLt;by_cases h:2^31≤x.toNat
  · rw[cS (by simpa using h),aG rfl];omega
  · rw[cJ (by simpa using h),aH bW];omega
 rw[hm,BitVec.msb_or,BitVec.msb_and,BitVec.msb_and,BitVec.msb_not,BitVec.msb_not,BitVec.msb_xor];obtain⟨D,hD⟩:∃ D,D=y-p-b:=⟨_,rfl⟩;rw[←hD];have hy:=y.isLt;have hp:=p.isLt;have hDn:D.toNat=(2^32-b.toNat+(2^32-p.toNat+y.toNat)%2^32)%2^32:=by rw[hD,E2,E2]
 have hDl:=D.isLt;have msb:∀ x:BitVec 32,x.msb=decide (2^31≤x.toNat):=fun x=>BitVec.msb_eq_decide x;rw[msb,msb,msb]
 have key:(if((!decide (2^31≤y.toNat)&&decide (2^31≤p.toNat))||(!(decide (2^31≤y.toNat) ^^ decide (2^31≤p.toNat))&&decide (2^31≤D.toNat)))=true then 1 else 0)=if y.toNat<p.toNat+b.toNat then 1 else 0:=by
  by_cases h1:2^31≤y.toNat<;>by_cases h2:2^31≤p.toNat<;>by_cases h3:2^31≤D.toNat<;>by_cases h4:y.toNat<p.toNat+b.toNat<;>simp only[h1,h2,h3,h4,decide_true,decide_false,fF,uU,Lv,Bool.and_false,Bool.or_true,Ye,Bool.xor_true,Bool.xor_false,jH,uM,lU,mB,nI]<;>omega
 rw[show decide (0<32)=true from rfl,jH,jH,key,show B=4294967296 from rfl];by_cases h4:y.toNat<p.toNat+b.toNat
 · rw[aG h4];omega
 · rw[aH h4];omega
theorem Qrq (y p b:BitVec 32)(hb:b.toNat≤1):∃ d b',Dd y p b=some (d,b')∧b'.toNat≤1∧d.toNat+B*b'.toNat=y.toNat+p.toNat+b.toNat:=by
 unfold Dd;rw[xA,aJ];refine⟨_,_,rfl,?_⟩;have hy:=y.isLt;have hp:=p.isLt
 have e:((y.setWidth 64+p.setWidth 64)+b.setWidth 64).toNat=y.toNat+p.toNat+b.toNat:=by
  rw[E1,E1,kT,kT,kT];omega
 rw[kT,kT,uC,e,vX,show B=4294967296 from rfl];omega
theorem Qe0 (x:BitVec 64):∃ l h,L3 x=some (l,h)∧l.toNat=x.toNat%B∧h.toNat=x.toNat / B:=by
 unfold L3;rw[xA,aJ];exact⟨_,_,rfl,by rw[kT],by rw[uC,vX]⟩
theorem Pu (j m i:Nat)(h:i<m):qQ (j:Int) m (i:Int)=some ((j+i:Nat):Int):=by
 unfold qQ;rw[aG aQ];congr 1
theorem Xi8 (l:Dg)(j m:Nat)(hm:0<m)(h:j+m≤l.length):wK l (j:Int) ((j+m:Nat):Int)=some m:=by
 unfold wK;rw[aG aQ];congr 1;omega
section
variable {x30 a41:Dg} {rec3:(Dg × Dg × Int)→Option (Dg × Dg)} {a52:BitVec 64}
theorem Qq0 (U:Dg)(hU:U.length<1000000)(j m:Nat)(hjm:j+m≤U.length)(hx:a52.toNat<B):
 ∀ (k i f:Nat) (c:BitVec 64) (b:BitVec 32) (S:Dg),m-i=k→i≤m→k<f→S.length=U.length→S.take j=U.take j→S.drop (j+i)=U.drop (j+i)→c.toNat=a52.toNat*val (x30.take i) / B^i→b.toNat≤1→val S+B^j*(a52.toNat*val (x30.take i))=val U+B^(j+i)*(c.toNat+b.toNat)→
 ∃ (c':BitVec 64) (b':BitVec 32) (S':Dg),aC (L5 x30 a41 (j:Int) rec3 m a52) f (c,b,(i:Int),S)=(if b'≠0#32 then(aC (Q4 x30 a41 (j:Int) rec3 m a52) aI (0#32,0,S')) else Option.bind (bJ a41 (j:Int)) fun y81=>((rec3 (S',a41.set (j:Int).toNat (a52.setWidth 32),aT ((j:Int)-1)))))∧
  S'.length=U.length∧S'.take j=U.take j∧S'.drop (j+m)=U.drop (j+m)∧c'.toNat=a52.toNat*val (x30.take m) / B^m∧b'.toNat≤1∧val S'+B^j*(a52.toNat*val (x30.take m))=val U+B^(j+m)*(c'.toNat+b'.toNat)
 | k,i,0,_,_,_,_,_,hf,_,_,_,_,_,_=>by omega
 | k,i,f+1,c,b,S,hk,hi,hf,hS,ht,hd,hc,hb,he=>by
  rw[dW];generalize hrec:aC (L5 x30 a41 (j:Int) rec3 m a52) f=rec5;simp only[L5];by_cases h:i<m
  · have hji:j+i<S.length:=by omega
    have hvt:=pP (x30.take i);have dX:(x30.take i).length≤i:=by rw[qR];omega
    have hvt2:val (x30.take i)<B^i:=iC hvt (fD bV dX)
    have hcB:c.toNat<B:=by
     rw[hc];refine Qb4 ?_;have h1:a52.toNat*val (x30.take i)≤a52.toNat*B^i:=qE _ (nV hvt2);have h2:a52.toNat*B^i<B*B^i:=A9 hx (H0 bV);rw[eZ (B^i)];omega
    obtain⟨dv,hdv⟩:∃ dv,dv=x30.getD i 0#32:=⟨_,rfl⟩;have hdl:=dv.isLt
    have hp:(a52*dv.setWidth 64+c).toNat=a52.toNat*dv.toNat+c.toNat:=by
     have h1:a52.toNat*dv.toNat≤(B-1)*(B-1):=oC aQ (by show dv.toNat≤B-1;have:dv.toNat<B:=hdl;omega);have h2:(B-1)*(B-1)+B≤2^64:=by decide
     rw[E1,Lp,kT,fA (show dv.toNat<2^64 by omega),fA (show a52.toNat*dv.toNat<2^64 by omega),fA aQ]
    obtain⟨lo,hi',h1,h2,h3⟩:=Qe0 (a52*dv.setWidth 64+c);obtain⟨d,b',s1,s2,s3⟩:=Xgv S[j+i] lo b hb;rw[aG aQ,Qz,aJ,←hdv,h1,aJ,Pu j _ i h,aJ,cF hji,aJ];simp only;rw[s1,aJ,aJ,cF hji,aJ,fS aQ,jZ,←hrec];rw[hp] at h2 h3;have hsv:=Nn S (j+i) d hji;refine Qq0 U hU j m hjm hx (k-1) (i+1) f hi' b' _ aQ aQ aQ (by simpa using hS) ?_ ?_ ?_ s2 ?_
    · rw[List.take_set_of_le aQ];exact ht
    · rw[←rS,Qag aQ];have:=cA (List.drop 1) hd;rwa[rL,rL] at this
    · rw[h3,Ie,←hdv,iQ,hc,eS,←iB];congr 1;rw[show a52.toNat*(B^i*dv.toNat)=B^i*(a52.toNat*dv.toNat) by rw[Qb8],Yq _ _ (H0 bV)];omega
    · show val (S.set (j+i) d)+_=_;rw[Ie,←hdv];have hdm:=qM (a52.toNat*dv.toNat+c.toNat) B;rw[←h2,←h3] at hdm;obtain⟨P,hP⟩:∃ P,P=B^(j+i):=⟨_,rfl⟩
      have e1:B^j*(a52.toNat*(val (x30.take i)+B^i*dv.toNat))=B^j*(a52.toNat*val (x30.take i))+P*(a52.toNat*dv.toNat):=by
       rw[iQ,iQ,hP,kO,jN (B^j),Qb8 a52.toNat]
      have e2:B^(j+(i+1))*(hi'.toNat+b'.toNat)=P*(B*(hi'.toNat+b'.toNat)):=by
       rw[←rS,eS,hP,jN]
      rw[e1,e2];rw[←hP] at hsv he
      have e3:P*(a52.toNat*dv.toNat)+P*c.toNat+P*d.toNat+P*b.toNat=P*S[j+i].toNat+P*(B*(hi'.toNat+b'.toNat)):=by
       rw[←iQ,←iQ,←iQ,←iQ];congr 1;rw[iQ];omega
      rw[iQ] at he;omega
  · obtain rfl:i=m:=by omega
    rw[aH aQ];exact⟨c,b,S,rfl,hS,ht,hd,hc,hb,he⟩
theorem Qlq (U:Dg)(hU:U.length<1000000)(j m:Nat)(hjm:j+m≤U.length):
 ∀ (k i f:Nat) (c:BitVec 32) (S:Dg),m-i=k→i≤m→k<f→S.length=U.length→S.take j=U.take j→S.drop (j+i)=U.drop (j+i)→c.toNat≤1→val S+B^(j+i)*c.toNat=val U+B^j*val (x30.take i)→
 ∃ (c':BitVec 32) (S':Dg),aC (Q4 x30 a41 (j:Int) rec3 m a52) f (c,(i:Int),S)=(Option.bind (bJ a41 (j:Int)) fun y80=>((rec3 (S',a41.set (j:Int).toNat ((a52-1#64).setWidth 32),aT ((j:Int)-1)))))∧
  S'.length=U.length∧S'.take j=U.take j∧S'.drop (j+m)=U.drop (j+m)∧c'.toNat≤1∧val S'+B^(j+m)*c'.toNat=val U+B^j*val (x30.take m)
 | k,i,0,_,_,_,_,hf,_,_,_,_,_=>by omega
 | k,i,f+1,c,S,hk,hi,hf,hS,ht,hd,hc,he=>by
  rw[dW];generalize hrec:aC (Q4 x30 a41 (j:Int) rec3 m a52) f=rec6;simp only[Q4];by_cases h:i<m
  · have hji:j+i<S.length:=by omega
    obtain⟨dv,hdv⟩:∃ dv,dv=x30.getD i 0#32:=⟨_,rfl⟩
    have e0:(dv.setWidth 64).setWidth 32=dv:=by
     apply jW;rw[kT,kT];have:=dv.isLt;omega
    obtain⟨d,b',s1,s2,s3⟩:=Qrq S[j+i] dv c hc;rw[aG aQ,Pu j _ i h,aJ,cF hji,aJ,Qz,aJ,←hdv,e0,s1,aJ,aJ,cF hji,aJ,fS aQ,jZ,←hrec];have hsv:=Nn S (j+i) d hji;refine Qlq U hU j m hjm (k-1) (i+1) f b' _ aQ aQ aQ (by simpa using hS) ?_ ?_ s2 ?_
    · rw[List.take_set_of_le aQ];exact ht
    · rw[←rS,Qag aQ];have:=cA (List.drop 1) hd;rwa[rL,rL] at this
    · show val (S.set (j+i) d)+_=_;rw[Ie,←hdv];obtain⟨P,hP⟩:∃ P,P=B^(j+i):=⟨_,rfl⟩
      have e1:B^j*(val (x30.take i)+B^i*dv.toNat)=B^j*val (x30.take i)+P*dv.toNat:=by
       rw[iQ,hP,kO,jN]
      have e2:B^(j+(i+1))*b'.toNat=P*(B*b'.toNat):=by rw[←rS,eS,hP,jN]
      rw[e1,e2];rw[←hP] at hsv he
      have e3:P*d.toNat+P*(B*b'.toNat)=P*S[j+i].toNat+P*dv.toNat+P*c.toNat:=by
       rw[←iQ,←iQ,←iQ,s3]
      omega
  · obtain rfl:i=m:=by omega
    rw[aH aQ];exact⟨c,S,rfl,hS,ht,hd,hc,he⟩
end
theorem Bi (l:Dg)(j:Nat)(h:j≤l.length):val l=val (l.take j)+B^j*val (l.drop j):=sB l j h
theorem Qo4 {U S:Dg}{j:Nat}(h:j≤U.length)(hS:S.length=U.length)(ht:S.take j=U.take j){X Y:Nat}(he:val S+B^j*X=val U+B^j*Y):val (S.drop j)+X=val (U.drop j)+Y:=by
 rw[Bi S j aQ,Bi U j h,ht,rS,rS,←iQ,←iQ] at he;exact Nat.eq_of_mul_eq_mul_left (H0 (n:=j) (show 0<B by decide)) aQ
theorem Qgr {l:Dg}{m:Nat}(h:val l<B^m):val (l.drop m)=0:=by
 rcases jG l.length m with h1|h1
 · rw[tQ aQ];rfl
 · have:=sB l m h1;rcases rR (val (l.drop m)) with h0|h0
   · exact h0
   · have:B^m*1≤B^m*val (l.drop m):=qE _ h0;omega
theorem below {l:Dg}{m:Nat}(h:val (l.drop m)=0):val l<B^m:=by
 rcases jG l.length m with h1|h1
 · exact iC (pP l) (fD bV aQ)
 · have:=sB l m h1;have h2:=pP (l.take m);rw[qR,oB h1] at h2;rw[this,h];omega
theorem Xgq (v:Dg)(n:Nat)(hv:v.length=n)(hn:2≤n)(U Q:Dg)(hU:U.length<1000000)(j:Nat)(hjm:j+(n+1)≤U.length)(hjq:j<Q.length)(rec3:(Dg × Dg × Int)→Option (Dg × Dg))(x:BitVec 64)(hx:x.toNat<B)
 (hlo:val (U.drop j)<(x.toNat+1)*val v) (hhi:x.toNat*val v<val (U.drop j)+val v) (hV:0<val v):
 ∃ U' Q',vE v U Q (j:Int) rec3 (n+1) x=rec3 (U',Q',(j:Int)-1)∧U'.length=U.length∧Q'.length=Q.length∧U'.take j=U.take j∧val (U'.drop j)=val (U.drop j)%val v:=by
 have hVB:=pP v;rw[hv] at hVB;have htk:v.take (n+1)=v:=kI aQ;have hBn:B^(n+1)=B*B^n:=by rw[eS,eZ]
 have hxV:x.toNat*val v<B^(n+1):=by
  have h1:x.toNat*val v≤x.toNat*B^n:=qE _ (nV hVB);have h2:x.toNat*B^n<B*B^n:=A9 hx (H0 bV);omega
 have hSB:val (U.drop j)<B^(n+1):=by
  have h1:(x.toNat+1)*val v≤B*val v:=gA _ aQ;have h2:B*val v<B*B^n:=Nat.mul_lt_mul_of_pos_left hVB bV;omega
 unfold vE;obtain⟨c',b',S',s1,s2,s3,s4,s5,s6,s7⟩:=Qq0 (x30:=v) (a41:=Q) (rec3:=rec3) (a52:=x) U hU j (n+1) hjm hx _ 0 aI 0#64 0#32 U rfl aQ (fQ aQ) rfl rfl rfl (by simp[val]) bW (by simp[val]);rw[show((0:Nat):Int)=0 from rfl] at s1;rw[s1];rw[htk] at s5 s7;have hc0:c'.toNat=0:=by rw[s5];exact pF hxV
 rw[hc0,kN,kO,jN] at s7;have p1:=Qo4 aQ s2 s3 s7;have hSd:(S'.drop j).drop (n+1)=(U.drop j).drop (n+1):=by rw[rL,rL];exact s4
 have hS'B:val (S'.drop j)<B^(n+1):=below (by rw[hSd];exact Qgr hSB);by_cases hb:b'≠0#32
 · rw[aG hb]
   have hb1:b'.toNat=1:=by
    rcases jG b'.toNat 1 with h|h
    · exact absurd (jW (by simp;omega)) hb
    · omega
   obtain⟨c2,S2,g1,g2,g3,g4,g5,g6⟩:=Qlq (x30:=v) (a41:=Q) (rec3:=rec3) (a52:=x) S' aQ j (n+1) aQ _ 0 aI 0#32 S' rfl aQ (fQ aQ) rfl rfl rfl bW (by simp[val]);rw[show((0:Nat):Int)=0 from rfl] at g1;rw[g1,cF hjq,aJ,dR aQ aQ];rw[htk,kO,jN] at g6;have p2:=Qo4 aQ g2 g3 g6;rw[hb1,tW] at p1;have hS2d:(S2.drop j).drop (n+1)=(S'.drop j).drop (n+1):=by rw[rL,rL];exact g4
   have hS2B:val (S2.drop j)<B^(n+1):=below (by rw[hS2d,hSd];exact Qgr hSB)
   have hx1:1≤x.toNat:=by
    rcases rR x.toNat with h0|h0
    · rw[h0,vZ] at p1;omega
    · exact h0
   have e1:x.toNat*val v=(x.toNat-1)*val v+val v:=by
    conv=>lhs;rw[show x.toNat=(x.toNat-1)+1 by omega,iN,nY]
   refine⟨S2,_,rfl,aQ,by simp,by rw[g3,s3],?_⟩;have h1:(x.toNat-1)*val v≤val (U.drop j):=by omega
   have h2:val (U.drop j)<((x.toNat-1)+1)*val v:=by
    rw[show x.toNat-1+1=x.toNat by omega];omega
   rw[Qkn hV h2 h1];rcases jG c2.toNat 1 with hc|hc
   · have:c2.toNat=0:=by omega
     rw[this,uO] at p2;omega
   · have:c2.toNat=1:=by omega
     rw[this,tW] at p2;omega
 · rw[aH hb,cF hjq,aJ,dR aQ aQ]
   have hb0:b'.toNat=0:=by
    have:b'=0#32:=by simpa using hb
    rw[this];rfl
   rw[hb0,uO,tV] at p1;exact⟨S',_,rfl,s2,by simp,s3,by rw[Qkn hV hlo aQ];omega⟩
end Go.Sx.Nu

end
section
namespace Go.Sx.Nu
open Go Go.Sx
theorem Xaz (a u b:Nat)(h:u<b):a+u+1≤a+b:=by omega
section
variable {M U V U3 V2 Ul Vl H u2 top next:Nat}
theorem Qyi (hM:0<M)(eU:U=U3*M+Ul)(eV:V=V2*M+Vl)(hVl:Vl<M)(e3:U3=H*B+u2)(e2:V2=top*B+next)(hn:next<B)(hU:U<B*V):H<B*top+B:=by
 rcases jG H (B*top+B) with h|h
 · exact h
 · exfalso;have h1:(B*top+B)*B≤H*B:=gA B h
   have h2:B*(V2+1)≤U3:=by
    rw[e3,e2]
    have:B*(top*B+next+1)≤(B*top+B)*B:=by
     rw[iN,jN,rS,iQ];exact Nat.add_le_add_left (qE B aQ) _
    exact eK this (eK h1 (yE _ _))
   have h3:B*(V2+1)*M≤U3*M:=gA M h2;have h4:B*V≤B*((V2+1)*M):=qE B (by rw[eV,iN,nY];omega);rw[←jN] at h4;omega
theorem Qyh (hM:0<M)(eU:U=U3*M+Ul)(hUl:Ul<M)(eV:V=V2*M+Vl)(e3:U3=H*B+u2)(e2:V2=top*B+next)(hu:u2<B)(ht:0<top):U<(H / top+1)*V:=by
 have h1:H+1≤(H / top+1)*top:=by
  have:=qM H top;have h2:=fR H ht;rw[iN,nY,eZ];omega
 obtain⟨Q,hQ⟩:∃ Q,Q=H / top+1:=⟨_,rfl⟩;rw[←hQ] at h1 ⊢;have h2:(H+1)*B≤Q*top*B:=gA B h1
 have h3:U3+1≤Q*V2:=by
  have e:Q*V2=Q*top*B+Q*next:=by rw[e2,iQ,jN]
  rw[iN,nY] at h2;rw[e,e3];exact eK (eK (Xaz (H*B) u2 B hu) h2) (yE _ _)
 have h4:(U3+1)*M≤Q*V2*M:=gA M h3;have h5:Q*V2*M≤Q*V:=by rw[eV,iQ,jN];exact yE _ _
 rw[iN,nY] at h4;omega
theorem Qkl {R:Type}(hM:0<M)(eU:U=U3*M+Ul)(hUl:Ul<M)(eV:V=V2*M+Vl)(hVl:Vl<M)(e3:U3=H*B+u2)(e2:V2=top*B+next)(hn:next<B)(hu:u2<B)(ht:B≤2*top)(htB:top<B)(hU:U<B*V)
 (F:(BitVec 64 × BitVec 64→Option R)→BitVec 64 × BitVec 64→Option R) (out:BitVec 64→Option R) (tw:BitVec 64) (htw:tw.toNat=top)
 (hF:∀ rec x r,r.toNat<B→F rec (x,r)=if x.toNat<B∧x.toNat*next≤r.toNat*B+u2 then out x else if B≤(r+tw).toNat then out (x-1#64) else rec (x-1#64,r+tw)):
 ∀ (k f:Nat) (x r:BitVec 64),k<f→B≤r.toNat+k*top→x.toNat*top+r.toNat=H→r.toNat<B→U<(x.toNat+1)*V→∃ x':BitVec 64,aC F f (x,r)=out x'∧x'.toNat<B∧U<(x'.toNat+1)*V∧x'.toNat*V<U+V
 | k,0,x,r,h,_,_,_,_=>by omega
 | 0,f+1,x,r,_,hk,_,hr,_=>by rw[vZ] at hk;omega
 | k+1,f+1,x,r,hf,hk,heq,hr,hup=>by
  rw[dW,hF _ _ _ hr];by_cases c:x.toNat<B∧x.toNat*next≤r.toNat*B+u2
  · rw[aG c];exact⟨x,rfl,c.1,hup,Qkm hM eU eV hVl e2 ht c.1 (Qko e3 e2 heq c.1 hn (.inl c.2))⟩
  · rw[aH c]
    have hx:B≤x.toNat∨r.toNat*B+u2<x.toNat*next:=by
     by_cases h:x.toNat<B
     · exact .inr (Nat.lt_of_not_le fun h2=>c ⟨h,h2⟩)
     · exact .inl aQ
    have hlo:U<x.toNat*V:=Qyj hM eU hUl eV e3 e2 heq hx hU
    have hx1:1≤x.toNat:=by
     rcases rR x.toNat with h0|h0
     · rw[h0,vZ] at hlo;omega
     · exact h0
    have ex:(x-1#64).toNat=x.toNat-1:=by rw[E2];simp;have:=x.isLt;omega
    have er:(r+tw).toNat=r.toNat+top:=by rw[E1,htw];exact fA (by have:B=4294967296:=rfl;omega)
    have heq':(x-1#64).toNat*top+(r+tw).toNat=H:=by
     rw[ex,er,←heq]
     conv=>rhs;rw[show x.toNat=(x.toNat-1)+1 by omega,iN,nY]
     omega
    have hup':U<((x-1#64).toNat+1)*V:=by rw[ex,show x.toNat-1+1=x.toNat by omega];exact hlo
    by_cases c2:B≤(r+tw).toNat
    · rw[aG c2]
      have hxB:(x-1#64).toNat<B:=by
       rcases jG (x-1#64).toNat B with h|h
       · exact h
       · exfalso;have h1:=Qyi hM eU eV hVl e3 e2 hn hU;have h2:B*top≤(x-1#64).toNat*top:=gA top h;omega
      exact⟨_,rfl,hxB,hup',Qkm hM eU eV hVl e2 ht hxB (Qko e3 e2 heq' hxB hn (.inr c2))⟩
    · rw[aH c2];refine Qkl hM eU hUl eV hVl e3 e2 hn hu ht htB hU F out tw htw hF k f _ _ aQ ?_ heq' aQ hup';rw[iN,nY] at hk;rw[er];omega
end
end Go.Sx.Nu

end
section
namespace Go.Sx.Nu
open Go Go.Sx
theorem Ax (l:Dg)(k:Nat):val (l.take k)<B^k:=iC (pP _) (fD bV (by rw[qR];omega))
theorem Xb2 (u:Dg)(j k:Nat)(hj:j+k+2<u.length)(hz:val (u.drop (j+1))<B^(k+2)):val (u.drop j)=((u[j+k+2].toNat*B+u[j+k+1].toNat)*B+u[j+k].toNat)*B^k+val ((u.drop j).take k):=by
 have h1:=sB (u.drop j) k (by rw[Yl];omega)
 have h2:val (u.drop (j+k+3))=0:=by
  have:=Qgr (m:=k+2) hz;rwa[rL,show j+1+(k+2)=j+k+3 by omega] at this
 rw[rL,qH u (j+k) aQ,qH u (j+k+1) aQ,qH u (j+k+2) aQ,h2,uO] at h1;simp only[tV] at h1;rw[h1,yC (val _),eZ (B^k)];congr 2
 have e:B*(u[j+k+1].toNat+B*u[j+k+2].toNat)=(u[j+k+2].toNat*B+u[j+k+1].toNat)*B:=by
  rw[eZ B,eZ B u[j+k+2].toNat,yC u[j+k+1].toNat]
 omega
theorem Xb1 (v:Dg)(k:Nat)(hv:v.length=k+2):val v=(v[k+1].toNat*B+v[k].toNat)*B^k+val (v.take k):=by
 have h1:=sB v k aQ;have h2:val (v.drop (k+2))=0:=by rw[tQ aQ];rfl
 rw[qH v k aQ,qH v (k+1) aQ,h2,uO] at h1;simp only[tV] at h1;rw[h1,yC (val _),eZ (B^k)];congr 2;rw[eZ B];omega
theorem Xhf (v:Dg)(n:Nat)(hn:v.length=n+1){c:Nat}(h:c*B^n≤val v):c≤v[n].toNat:=by
 have h1:=sB v n aQ;have h2:val (v.drop (n+1))=0:=by rw[tQ aQ];rfl
 rw[qH v n aQ,h2,uO] at h1;simp only[tV] at h1;have h3:=Ax v n;rcases jG v[n].toNat c with h4|h4
 · exfalso;have h5:(v[n].toNat+1)*B^n≤c*B^n:=gA _ h4;rw[iN,nY,eZ v[n].toNat] at h5;omega
 · exact h4
theorem Xhe (v:Dg)(n:Nat)(hn:v.length=n+1):val v<(v[n].toNat+1)*B^n:=by
 have h1:=sB v n aQ;have h2:val (v.drop (n+1))=0:=by rw[tQ aQ];rfl
 rw[qH v n aQ,h2,uO] at h1;simp only[tV] at h1;have h3:=Ax v n;rw[iN,nY,eZ v[n].toNat];omega
theorem Qq8 (v:Dg)(n:Nat)(hn:v.length=n+1):v[n].toNat*B^n≤val v:=by
 have h1:=sB v n aQ;have h2:val (v.drop (n+1))=0:=by rw[tQ aQ];rfl
 rw[qH v n aQ,h2,uO] at h1;simp only[tV] at h1;rw[eZ v[n].toNat];omega
theorem Qn6 (y:Nat)(hy:0<y)(hB:y<B):2^31≤y*2^(31-Nat.log2 y)∧(y+1)*2^(31-Nat.log2 y)≤B:=by
 have h1:=Ys (n:=y) aQ;have h2:y<2^(Nat.log2 y+1):=(oQ aQ).1 (cP _);have h3:Nat.log2 y<32:=(oQ aQ).2 hB;have e1:2^Nat.log2 y*2^(31-Nat.log2 y)=2^31:=by rw[←kO,show Nat.log2 y+(31-Nat.log2 y)=31 by omega]
 have e2:2^(Nat.log2 y+1)*2^(31-Nat.log2 y)=2^32:=by rw[←kO,show Nat.log2 y+1+(31-Nat.log2 y)=32 by omega]
 constructor
 · rw[←e1];exact gA _ h1
 · show _≤2^32;rw[←e2];exact gA _ h2
theorem Xc0 {b v:Dg}{n s:Nat}(hb:b.length=n+1)(hnz:Nz v)(hs:s=31-Nat.log2 b[n].toNat)(hb0:0<b[n].toNat)(hv:val v=val b*2^s):v.length=n+1∧∀ h:n<v.length,2^31≤v[n].toNat:=by
 have hp:=H0 (n:=n) (show 0<B by decide);obtain⟨p1,p2⟩:=Qn6 b[n].toNat hb0 b[n].isLt;rw[←hs] at p1 p2
 have h1:val v<B^(n+1):=by
  have:=Xhe b n hb;have h2:val b*2^s<(b[n].toNat+1)*B^n*2^s:=A9 this (fI s)
  have h3:(b[n].toNat+1)*B^n*2^s≤B*B^n:=by
   rw[Qb9];exact gA _ p2
  rw[hv,eS,eZ (B^n)];omega
 have h2:2^31*B^n≤val v:=by
  have:=Qq8 b n hb;have h2:b[n].toNat*B^n*2^s≤val b*2^s:=gA _ this
  have h3:2^31*B^n≤b[n].toNat*B^n*2^s:=by
   rw[Qb9];exact gA _ p1
  rw[hv];omega
 have hlen:v.length=n+1:=by
  have a1:=Qei hnz h1;rcases jG v.length (n+1) with h|h
  · exfalso;have a2:=pP v;have a3:B^v.length≤B^n:=fD bV aQ;have a4:1*B^n≤2^31*B^n:=gA _ bV;omega
  · omega
 exact⟨hlen,fun h=>Xhf v n hlen h2⟩
theorem Xgo {a b u:Dg}{n s:Nat}(hb:b.length=n+1)(hb0:0<b[n].toNat)(hs:s=31-Nat.log2 b[n].toNat)(hu:val u=val a*2^s)(hul:u.length=a.length+1)(hab:n+1≤a.length):val (u.drop (u.length-(n+1)))<val b*2^s:=by
 obtain⟨j,hj⟩:∃ j,u.length-(n+1)=j:=⟨_,rfl⟩;rw[hj];obtain⟨p1,p2⟩:=Qn6 b[n].toNat hb0 b[n].isLt;rw[←hs] at p1 p2;have h1:=sB u j aQ;have h2:=pP a
 have h3:val u<B^j*(B^n*2^s):=by
  rw[hu,←jN,←kO,show j+n=a.length by omega];exact A9 h2 (fI s)
 have h4:val (u.drop j)<B^n*2^s:=by
  rcases jG (val (u.drop j)) (B^n*2^s) with h|h
  · exact h
  · have:=qE (B^j) h;omega
 have h5:=Qq8 b n hb;have h6:1*B^n≤b[n].toNat*B^n:=gA _ hb0;have h7:B^n*2^s≤val b*2^s:=gA _ aQ;omega
end Go.Sx.Nu

end
section
namespace Go.Sx.Nu
open Go Go.Sx
theorem Fv (a:Dg)(h:a.length<1000000):Ks a=some a:=by
 unfold Ks;rw[mW (by simp;omega),aJ,tK]
theorem Xf4 (r:BitVec 64)(y:BitVec 32)(h:r.toNat<B):((r <<< 32) ||| (y.setWidth 64)).toNat=r.toNat*B+y.toNat:=by
 have h2:=y.isLt;have hB:B=4294967296:=rfl;rw[Lq,V5,kT,fA (show y.toNat<2^64 by omega),fA (by rw[vQ];omega),←Qbb h2,vQ]
theorem Ac (x:BitVec 64):x >>> 32=0#64↔x.toNat<B:=by
 have e:(x >>> 32).toNat=x.toNat / B:=by rw[uC,vX]
 constructor
 · intro h;rw[h] at e;rcases jG x.toNat B with h1|h1
   · exact h1
   · have:1≤x.toNat / B:=(yA bV).2 aQ;simp at e;omega
 · intro h;apply jW;rw[e,pF h];rfl
theorem Ng (y:BitVec 32):(y.setWidth 64).toNat=y.toNat:=by rw[kT];exact fA (by have:=y.isLt;omega)
theorem Xbu (x:BitVec 64)(y:BitVec 32)(h:x.toNat<B):(x*y.setWidth 64).toNat=x.toNat*y.toNat:=by
 have h1:x.toNat*y.toNat≤(B-1)*(B-1):=oC aQ (by have:y.toNat<B:=y.isLt;omega);have h2:(B-1)*(B-1)<2^64:=by decide
 rw[Lp,Ng];exact fA aQ
theorem Xbr (T P D V:Nat):(T+P*(D%V))%V=(T+P*D)%V:=by
 rw[Sm,tY,A8,←tY,←Sm]
theorem Qn2 (s:Nat)(hs:s<32)(v:Dg)(k:Nat)(hv:v.length=k+2)(ht:2^31≤(v[k+1]'aQ).toNat)(hV:0<val v):
 ∀ (m f:Nat) (u Q:Dg),m<f→u.length<900000→Q.length+(k+2)=u.length→m≤Q.length→val (u.drop m)<val v→∃ q r,aC (Q3 (s:Int) v (v[k+1]'aQ) (v[k]'aQ)) f (u,Q,(m:Int)-1)=some (q,r)∧val r=val u%val v / 2^s∧Nz r
 | m,0,u,Q,h,_,_,_,_=>by omega
 | 0,f+1,u,Q,_,hu,hQ,_,dX=>by
  rw[dW];simp only[Q3];obtain⟨q,q1,_⟩:=yJ Q aQ;obtain⟨t,t1,t2,t3,_⟩:=yJ u aQ;obtain⟨r,r1,r2,r3⟩:=Xhz t aQ s hs;rw[aH aQ,q1,aJ,t1,aJ,r1,aJ];rw[kA] at dX;exact⟨q,r,rfl,by rw[r2,t2,fA dX],r3⟩
 | m+1,f+1,u,Q,hf,hu,hQ,hm,dX=>by
  have hBv:B=4294967296:=rfl;have hVB:val v<B^(k+2):=by have:=pP v;rwa[hv] at this
  rw[dW];generalize hrec:aC (Q3 (s:Int) v (v[k+1]'aQ) (v[k]'aQ)) f=rec3;simp only[Q3];have e0:((m+1:Nat):Int)-1=(m:Int):=by omega
  have e1:aT (aT ((m:Int)+(v.length:Int))+1)=((m+(k+2+1):Nat):Int):=by rw[dR (n:=(m:Int)+(v.length:Int)) aQ aQ,dR aQ aQ];omega
  have hm2:m+k+2<u.length:=by omega
  have i1:qQ (m:Int) (k+2+1) (v.length:Int)=some ((m+k+2:Nat):Int):=by rw[Pu m (k+2+1) v.length aQ,hv];rfl
  have i2:qQ (m:Int) (k+2+1) (aT ((v.length:Int)-1))=some ((m+k+1:Nat):Int):=by rw[dR aQ aQ,show(v.length:Int)-1=((k+1:Nat):Int) by omega,Pu m (k+2+1) (k+1) aQ];rfl
  have i3:qQ (m:Int) (k+2+1) (aT ((v.length:Int)-2))=some ((m+k:Nat):Int):=by rw[dR aQ aQ,show(v.length:Int)-2=(k:Int) by omega,Pu m (k+2+1) k aQ]
  rw[e0,aG aQ,e1,Xi8 u m (k+2+1) aQ aQ,aJ,i1,aJ,cF hm2,aJ,xA,aJ,i2,aJ,cF (show m+k+1<u.length by omega),aJ];obtain⟨top,htop⟩:∃ t,t=v[k+1]'aQ:=⟨_,rfl⟩;obtain⟨nxt,hnxt⟩:∃ t,t=v[k]'aQ:=⟨_,rfl⟩;have htB:=top.isLt;have hnB:=nxt.isLt;rw[←htop] at ht hrec ⊢;rw[←hnxt] at hrec ⊢
  have hy64:top.setWidth 64≠0#64:=fun h0=>by
   have:=cA BitVec.toNat h0;rw[Ng] at this;simp at this;omega
  unfold wX gB;rw[aH hy64,aJ,aH hy64,aJ];have hz:val (u.drop (m+1))<B^(k+2):=Ss dX hVB;have eU:=Xb2 u m k hm2 hz;have eV:=Xb1 v k hv;rw[←htop,←hnxt] at eV
  have hU:val (u.drop m)<B*val v:=by
   rw[qH u m aQ];have h1:B*(val (u.drop (m+1))+1)≤B*val v:=qE B dX;have h2:=u[m].isLt;rw[iQ] at h1;omega
  have hM:0<B^k:=H0 bV;have hUl:=Ax (u.drop m) k;have hVl:=Ax v k;have hd2:=u[m+k+2].isLt;have hd1:=u[m+k+1].isLt;have hd0:=u[m+k].isLt;have htwo:B≤2*top.toNat:=by omega
  have hF:∀ rec (x r:BitVec 64),r.toNat<B→Zm v top nxt u Q (m:Int) rec3 (k+2+1) rec (x,r)=if x.toNat<B∧x.toNat*nxt.toNat≤r.toNat*B+u[m+k].toNat then vE v u Q (m:Int) rec3 (k+2+1) x else if B≤(r+top.setWidth 64).toNat then vE v u Q (m:Int) rec3 (k+2+1) (x-1#64) else rec (x-1#64,r+top.setWidth 64):=by
   intro rec x r hr
   have hJ:∀ b:Bool,Zl v top u Q (m:Int) rec3 (k+2+1) x r rec b=if b=true then vE v u Q (m:Int) rec3 (k+2+1) x else if B≤(r+top.setWidth 64).toNat then vE v u Q (m:Int) rec3 (k+2+1) (x-1#64) else rec (x-1#64,r+top.setWidth 64):=by
    intro b;unfold Zl
    cases b with
    | true=>rfl
    | false=>
     rw[cH,xA,aJ,aH (show ¬ false=true by simp)];by_cases h:B≤(r+top.setWidth 64).toNat
     · rw[aG h,aG (fun hc=>by have:=(Ac _).1 hc;omega)]
     · rw[aH h,aH (fun hc=>hc ((Ac _).2 aQ))]
   simp only[Zm];rw[xA,aJ];by_cases hx:x.toNat<B
   · rw[aG ((Ac x).2 hx),aJ,i3,aJ,cF (show m+k<u.length by omega),aJ,hJ]
     have e:(x*nxt.setWidth 64≤(r <<< 32) ||| (u[m+k].setWidth 64))↔(x.toNat<B∧x.toNat*nxt.toNat≤r.toNat*B+u[m+k].toNat):=by
      rw[yG,Xbu x nxt hx,Xf4 r _ hr];exact⟨fun h=>⟨hx,h⟩,fun h=>h.2⟩
     by_cases c:x*nxt.setWidth 64≤(r <<< 32) ||| (u[m+k].setWidth 64)
     · rw[cS c,aG rfl,aG (e.1 c)]
     · rw[cJ c,aH bW,aH (fun h=>c (e.2 h))]
   · rw[aH (fun h=>hx ((Ac x).1 h)),hJ,aH (show ¬ false=true by simp),aH (show ¬ (x.toNat<B∧x.toNat*nxt.toNat≤r.toNat*B+u[m+k].toNat) from fun h=>hx h.1)]
  obtain⟨H,hH⟩:∃ H,H=u[m+k+2].toNat*B+u[m+k+1].toNat:=⟨_,rfl⟩;have hHn:=Qe2 u[m+k+2] u[m+k+1];have hq:((((u[m+k+2].setWidth 64) <<< 32) ||| (u[m+k+1].setWidth 64)) / top.setWidth 64).toNat=H / top.toNat:=by rw[Qaa,hHn,Ng,hH]
  have hr:((((u[m+k+2].setWidth 64) <<< 32) ||| (u[m+k+1].setWidth 64))%top.setWidth 64).toNat=H%top.toNat:=by rw[E3,hHn,Ng,hH]
  rw[←hH] at eU;have ht0:0<top.toNat:=by omega
  have hrl:=fR H ht0;obtain⟨x',a1,a2,a3,a4⟩:=Qkl hM eU hUl eV hVl rfl rfl hnB hd0 htwo htB hU _ _ (top.setWidth 64) (Ng top) hF 2 aI _ _ (fQ aQ) (by rw[hr];omega) (by rw[hq,hr,eZ];exact qM H top.toNat) (by rw[hr];omega) (by rw[hq];exact Qyh hM eU hUl eV rfl rfl hd0 ht0);rw[a1];obtain⟨U',Q',b1,b2,b3,b4,b5⟩:=Xgq v (k+2) hv aQ u Q aQ m aQ aQ rec3 x' a2 a3 a4 hV;rw[b1,←hrec,htop,hnxt];obtain⟨q,r,c1,c2,c3⟩:=Qn2 s hs v k hv (htop ▸ ht) hV m f U' Q' aQ aQ aQ aQ (by rw[b5];exact fR _ hV);refine⟨q,r,c1,?_,c3⟩;rw[c2,Bi U' m aQ,Bi u m aQ,b4,b5,Xbr]
theorem Qf7 (a b:Dg)(ha:Nz a)(hb:Nz b)(hla:a.length<800000)(hne:b≠[]):∃ q r,Zk a b=some (q,r)∧val r=val a%val b∧Nz r:=by
 have hb1:1≤b.length:=Qba.2 fun h=>hne (A0.1 h);have hbv:0<val b:=I0 fun h=>hne ((Ic hb).1 h);obtain⟨c,c1,c2⟩:=Qnz a b ha hb aQ;unfold Zk;rw[c1,aJ];by_cases hc:c<0
 · rw[aG hc,Fv a aQ,aJ];exact⟨[],a,rfl,(fA (c2.1 hc)).symm,ha⟩
 · have hab:¬ val a<val b:=fun h=>hc (c2.2 h);rw[aH hc];by_cases h1:(b.length:Int)=1
   · obtain⟨y,rfl⟩:∃ y,b=[y]:=List.length_eq_one_iff.1 aQ;have hy:y≠0#32:=hb bW;have he:val [y]=y.toNat:=by simp[val]
     rw[aG h1,Xx _ aQ,aJ];unfold Kr;rw[aJ,Qi2 a aQ,aJ,he];obtain⟨q',r',d1,d2,d3⟩:=Qnt a aQ y hy a.length (List.replicate a.length 0#32) 0#32 (eO _) bW (by rw[tX];simp[val]);exact⟨q',r',d1,d2,d3⟩
   · obtain⟨k,hk⟩:∃ k,b.length=k+2:=⟨b.length-2,aQ⟩
     have hlen:b.length≤a.length:=by
      rcases jG a.length b.length with h|h
      · exact absurd (Qev ha hb h) hab
      · exact h
     have hk1:k+1<b.length:=by omega
     have hbt:b[k+1]≠0#32:=by
      have:=hb hne;rw[Qar] at this;simpa[hk] using this
     have hb0:0<b[k+1].toNat:=I0 fun h=>hbt (jW (by simpa using h));have hbB:=b[k+1].isLt;have hl32:Nat.log2 b[k+1].toNat<32:=(oQ aQ).2 hbB;obtain⟨s,hs⟩:∃ s,s=31-Nat.log2 b[k+1].toNat:=⟨_,rfl⟩
     have hlz:Dj b[k+1]=some (s:Int):=by
      unfold Dj lg eM;rw[jZ,aH aQ,dR aQ aQ];congr 1;omega
     obtain⟨u,u1,u2,u3⟩:=Qpp a aQ s aQ;obtain⟨w,w1,w2,w3⟩:=Qpp b aQ s aQ;obtain⟨v,v1,v2,_,v3,_⟩:=yJ w aQ;have hvv:val v=val b*2^s:=by rw[v2,w3]
     obtain⟨n1,n2⟩:=Xc0 (n:=k+1) aQ v3 hs hb0 hvv;have hst:=Xgo (a:=a) (b:=b) (u:=u) (n:=k+1) aQ hb0 hs u3 u2 aQ;have hvk:v.length=k+2:=by omega
     have hVpos:0<val v:=by rw[hvv];exact Yu hbv (fI s)
     have hbl:aT ((b.length:Int)-1)=((k+1:Nat):Int):=by rw[dR aQ aQ];omega
     have hvl:aT ((v.length:Int)-1)=((k+1:Nat):Int):=by rw[dR aQ aQ];omega
     have hvl2:aT ((v.length:Int)-2)=((k:Nat):Int):=by rw[dR aQ aQ];omega
     have hul:aT ((u.length:Int)-(v.length:Int))=((u.length-(k+2):Nat):Int):=by rw[dR aQ aQ];omega
     rw[aH h1,hbl,cF hk1,aJ,hlz,aJ,u1,aJ,w1,aJ,v1,aJ,hvl,cF (show k+1<v.length by omega),aJ,hvl2,cF (show k<v.length by omega),aJ,hul,Xx _ aQ,aJ,A2,dR aQ aQ];obtain⟨q,r,r1,r2,r3⟩:=Qn2 s aQ v k hvk (n2 aQ) hVpos (u.length-(k+2)) aI u (List.replicate (u.length-(k+2)) 0#32) (fQ aQ) aQ (by rw[A2];omega) (by rw[A2];omega) (by rw[hvv];exact hst);refine⟨q,r,r1,?_,r3⟩;rw[r2,u3,hvv,Nat.mul_mod_mul_right,Nat.mul_div_cancel _ (fI s)]
theorem Qix:∀ (k f:Nat) (a b:Dg),2*k+1<f→Nz a→Nz b→a.length<800000→b.length<800000→val b<2^k→∃ g,aC qK f (a,b)=some g
 | k,0,a,b,h,_,_,_,_,_=>by omega
 | 0,f+1,a,b,_,ha,hb,hla,hlb,hv=>by
  have:b=[]:=(Ic hb).1 (by simpa using hv);subst this;rw[dW];simp only[qK];rw[aH bW,Fv a aQ,aJ];exact⟨a,rfl⟩
 | k+1,1,a,b,h,_,_,_,_,_=>by omega
 | k+1,f+2,a,b,hf,ha,hb,hla,hlb,hv=>by
  by_cases hne:b=[]
  · subst hne;rw[dW];simp only[qK];rw[aH bW,Fv a aQ,aJ];exact⟨a,rfl⟩
  · have hb1:1≤b.length:=Qba.2 fun h=>hne (A0.1 h);have hbv:0<val b:=I0 fun h=>hne ((Ic hb).1 h);obtain⟨q,r,p1,p2,p3⟩:=Qf7 a b ha hb hla hne;have hrb:val r<val b:=by rw[p2];exact fR _ hbv
    have hrl:r.length≤b.length:=Qei p3 (Ss hrb (pP b))
    have hstep:aC qK (f+2) (a,b)=aC qK (f+1) (b,r):=by
     rw[dW];simp only[qK];rw[aG aQ,p1,aJ]
    rw[hstep];by_cases hr:r=[]
    · subst hr;rw[dW];simp only[qK];rw[aH bW,Fv b aQ,aJ];exact⟨b,rfl⟩
    · have hr1:1≤r.length:=Qba.2 fun h=>hr (A0.1 h);have hrv:0<val r:=I0 fun h=>hr ((Ic p3).1 h);obtain⟨q2,r2,s1,s2,s3⟩:=Qf7 b r hb p3 hlb hr;have hr2b:val r2<val r:=by rw[s2];exact fR _ hrv
      have hr2l:r2.length≤r.length:=Qei s3 (Ss hr2b (pP r))
      have hstep2:aC qK (f+1) (b,r)=aC qK f (r,r2):=by
       rw[dW];simp only[qK];rw[aG aQ,s1,aJ]
      rw[hstep2];refine Qix k f r r2 aQ p3 s3 aQ aQ ?_;have hh:=Qyk (a:=val a) (b:=val b) (by rw[←p2];exact hrv) hbv;rw[←p2,←s2] at hh;rw[eS] at hv;omega
theorem Qu0 (a b:Dg)(ha:Nz a)(hb:Nz b)(hla:a.length≤16)(hlb:b.length≤16):∃ g,Mt a b=some g:=by
 have hv:val b<2^512:=by
  have h1:=pP b;have h2:B^b.length≤B^16:=fD bV hlb;have h3:B^16=2^512:=by decide +kernel
  omega
 exact Qix 512 aI a b (fQ aQ) ha hb aQ aQ hv
end Go.Sx.Nu

end
section
namespace Go.Sx.Nu
open Go Go.Sx
theorem Qew (n:BitVec 64):∃ t,L2 n=some t∧t.length≤2:=by
 unfold L2;rw[xA,aJ];obtain⟨t,t1,_,t2,_⟩:=yJ [n.setWidth 32,(n >>> 32).setWidth 32] bW;rw[t1,aJ];exact⟨t,rfl,by simpa using t2⟩
theorem Np (a b:Dg):∃ v:Bool,vA [a,b]=some v∧(v=true→(a.length≤16∧Nz a)∧(b.length≤16∧Nz b)):=by
 obtain⟨v,h1,h2⟩:=J4 [a,b] bW;exact⟨v,h1,fun h=>⟨h2 h a bW,h2 h b bW⟩⟩
theorem Qiy (a b:Dg):∃ r,Zc a b=some r:=by
 unfold Zc;obtain⟨v,h1,h2⟩:=Np a b;rw[h1,aJ]
 cases v with
 | false=>exact⟨_,rfl⟩
 | true=>
  obtain⟨⟨l1,n1⟩,l2,n2⟩:=h2 rfl;obtain⟨c,c1,_⟩:=Qnz a b n1 n2 aQ;rw[fF,cH,c1,aJ];exact⟨_,rfl⟩
theorem Qq6 (b:Dg)(hb:b.length≤16)(n i:Nat)(hi:i+b.length<n)(hn:n≤32)(rec1:(Dg × Int)→Option Dg)(x:BitVec 32)(hrec:∀ S:Dg,S.length=n→∃ t,rec1 (S,((i+1:Nat):Int))=some t):
 ∀ (k j f:Nat) (S:Dg) (c:BitVec 64),b.length-j=k→j≤b.length→k<f→S.length=n→∃ t,aC (Zu b (i:Int) rec1 x) f (S,c,(j:Int))=some t
 | k,j,0,S,c,_,_,hf,_=>by omega
 | k,j,f+1,S,c,hk,hj,hf,hS=>by
  rw[dW];simp only[Zu];by_cases h:j<b.length
  · have e:aT ((i:Int)+(j:Int))=((i+j:Nat):Int):=by rw[dR aQ aQ];omega
    obtain⟨l,h',a1,_⟩:=Qe0 ((((x.setWidth 64)*(b[j].setWidth 64))+((S[i+j]'aQ).setWidth 64))+c);rw[aG aQ,cF h,aJ,e,cF (show i+j<S.length by omega),aJ,a1,aJ,aJ,fS aQ];exact Qq6 b hb n i hi hn rec1 x hrec (k-1) (j+1) f _ _ aQ aQ aQ (by simpa using hS)
  · obtain rfl:j=b.length:=by omega
    have e:aT ((i:Int)+(b.length:Int))=((i+b.length:Nat):Int):=by rw[dR aQ aQ];omega
    rw[aH aQ,e,cF (show i+b.length<S.length by omega),aJ,fS aQ];exact hrec _ (by simpa using hS)
theorem Qq7 (a b:Dg)(ha:a.length≤16)(hb:b.length≤16):∀ (k i f:Nat) (S:Dg),a.length-i=k→i≤a.length→k<f→S.length=a.length+b.length→∃ t,aC (Zt a b) f (S,(i:Int))=some t
 | k,i,0,S,_,_,hf,_=>by omega
 | k,i,f+1,S,hk,hi,hf,hS=>by
  rw[dW];simp only[Zt];by_cases h:i<a.length
  · rw[aG aQ,cF h,aJ];exact Qq6 b hb (a.length+b.length) i aQ aQ _ _ (fun S' hS'=>Qq7 a b ha hb (k-1) (i+1) f S' aQ aQ aQ hS') _ 0 aI S 0#64 rfl aQ (fQ aQ) hS
  · obtain⟨t,t1,_⟩:=yJ S aQ;rw[aH aQ,t1,aJ];exact⟨t,rfl⟩
theorem Xhb (a b:Dg)(ha:a.length≤16)(hb:b.length≤16):∃ t,Ta a b=some t:=by
 unfold Ta;have e:aT ((a.length:Int)+(b.length:Int))=((a.length+b.length:Nat):Int):=by rw[dR aQ aQ];omega
 rw[e,Xx _ aQ,aJ];exact Qq7 a b ha hb _ 0 aI _ rfl aQ (fQ aQ) bW
theorem Qmz (a:Dg):∃ r,Zg a=some r:=by
 unfold Zg;split<;>exact⟨_,rfl⟩
theorem Mq (a b:Dg):∃ r,Q2 a b=some r:=by
 unfold Q2;obtain⟨v,h1,h2⟩:=Np a b;rw[h1,aJ]
 cases v with
 | false=>exact⟨_,rfl⟩
 | true=>
  obtain⟨⟨l1,_⟩,l2,_⟩:=h2 rfl;obtain⟨t,t1⟩:=Xhb a b l1 l2;obtain⟨r,r1⟩:=Qmz t;rw[fF,cH,t1,aJ,r1,aJ];exact⟨_,rfl⟩
theorem Qna (a b:Nat):sP (a:Int) (b:Int)=((max a b:Nat):Int):=by unfold sP;split<;>omega
theorem Qoa (a b:Dg)(ha:a.length≤16)(hb:b.length≤16):∀ (k i f:Nat) (S:Dg) (c:BitVec 64),max a.length b.length-i=k→i≤max a.length b.length→k<f→S.length=max a.length b.length+1→∃ t,aC (Zo a b) f (S,c,(i:Int))=some t
 | k,i,0,S,c,_,_,hf,_=>by omega
 | k,i,f+1,S,c,hk,hi,hf,hS=>by
  rw[dW];simp only[Zo];rw[Qna];by_cases h:i<max a.length b.length
  · obtain⟨l,h',a1,_⟩:=Qe0 ((((a.getD i 0#32).setWidth 64)+((b.getD i 0#32).setWidth 64))+c);rw[aG aQ,Qz,aJ,Qz,aJ,a1,aJ,cF (show i<S.length by omega),aJ,fS aQ];exact Qoa a b ha hb (k-1) (i+1) f _ _ aQ aQ aQ (by simpa using hS)
  · obtain rfl:i=max a.length b.length:=by omega
    rw[aH aQ,cF (show max a.length b.length<S.length by omega),aJ];obtain⟨t,t1,_⟩:=yJ (S.set ((max a.length b.length:Nat):Int).toNat (c.setWidth 32)) (by simp;omega);rw[t1,aJ];exact⟨t,rfl⟩
theorem Xdd (a b:Dg)(ha:a.length≤16)(hb:b.length≤16):∃ t,Dx a b=some t:=by
 unfold Dx;rw[Qna,fS aQ,Xx _ aQ,aJ];exact Qoa a b ha hb _ 0 aI _ _ rfl aQ (fQ aQ) bW
theorem Qrr (a b:Dg):∃ r,Dm a b=some r:=by
 unfold Dm;obtain⟨v,h1,h2⟩:=Np a b;rw[h1,aJ]
 cases v with
 | false=>exact⟨_,rfl⟩
 | true=>
  obtain⟨⟨l1,_⟩,l2,_⟩:=h2 rfl;obtain⟨t,t1⟩:=Xdd a b l1 l2;obtain⟨r,r1⟩:=Qmz t;rw[fF,cH,t1,aJ,r1,aJ];exact⟨_,rfl⟩
theorem Qv1 (a b:Dg):∃ r,Dt a b=some r:=by
 unfold Dt;obtain⟨v,h1,h2⟩:=Np a b;rw[h1,aJ]
 cases v with
 | false=>exact⟨_,rfl⟩
 | true=>
  obtain⟨⟨l1,n1⟩,l2,n2⟩:=h2 rfl;rw[fF,cH];by_cases h:(b.length:Int)=0
  · rw[aG h];exact⟨_,rfl⟩
  · obtain⟨q,r,p1,_⟩:=Qf7 a b n1 n2 aQ (fun hc=>h (by rw[hc];rfl));rw[aH h,p1,aJ];exact⟨_,rfl⟩
theorem Qti (f:iW):∃ e,Dn f=some e:=by
 unfold Dn;obtain⟨v,h1,h2⟩:=Np f.Num f.Den;have hT:Zb f true=some 8:=rfl;rw[h1,aJ]
 cases v with
 | false=>rw[uU,dC,hT];exact⟨_,rfl⟩
 | true=>
  obtain⟨⟨l1,n1⟩,l2,n2⟩:=h2 rfl;rw[fF,cH];by_cases h:(f.Den.length:Int)=0
  · rw[cS h,hT];exact⟨_,rfl⟩
  · rw[cJ h];unfold Zb;obtain⟨g,g1⟩:=Qu0 f.Num f.Den n1 n2 l1 l2;rw[cH,g1,aJ];have hJ:∀ b,∃ e,Dp b=some e:=fun b=>by cases b<;>exact⟨_,rfl⟩
    by_cases h3:(g.length:Int)≠1
    · rw[aG h3];exact hJ _
    · have:=cF (l:=g) (i:=0) aQ;rw[aH h3,show(0:Int)=((0:Nat):Int) from rfl,this,aJ];exact hJ _
theorem Xbb (f:iW):∃ b,Wl f=some b:=by
 unfold Wl;obtain⟨e,h1⟩:=Qti f
 have hJ:∀ b,∃ e,H6 f b=some e:=fun b=>by
  cases b with
  | true=>exact⟨_,rfl⟩
  | false=>
   obtain⟨r,r1⟩:=Qiy f.Num f.Den;unfold H6;rw[cH,r1,aJ];exact⟨_,rfl⟩
 rw[h1,aJ]
 split
 · exact hJ _
 · split
   · exact hJ _
   · exact hJ _
theorem Xgt (c:fV):∃ e,O8 c=some e∧(e=0→(2≤c.Users∧c.Users≤16)∧(1≤c.Block∧c.Block≤64)):=by
 unfold O8;have hT:wU true=some 70:=rfl;by_cases h1:c.Users<2
 · rw[aG h1,hT];exact⟨_,rfl,fun h=>by omega⟩
 · rw[aH h1];by_cases h2:(16:Int)<c.Users
   · rw[aG h2,hT];exact⟨_,rfl,fun h=>by omega⟩
   · rw[aH h2];by_cases h3:c.Block<1
     · rw[aG h3,hT];exact⟨_,rfl,fun h=>by omega⟩
     · rw[aH h3];by_cases h4:(64:Int)<c.Block
       · rw[aG h4,hT];exact⟨_,rfl,fun h=>by omega⟩
       · obtain⟨b,b1⟩:=Xbb c.Limit;rw[aH h4,b1,aJ];have hJ:∀ b,∃ e,wU b=some e:=fun b=>by cases b<;>exact⟨_,rfl⟩
         obtain⟨e,he⟩:=hJ (!b);exact⟨e,he,fun _=>by omega⟩
theorem Qp9 (a:Nat)(ha:a<100000):∀ (k i f:Nat) (R:List Dg),a+1-i=k→1≤i→i≤a+1→k<f→R.length=i→∃ t,aC (H7 (a:Int)) f (R,(i:Int))=some t
 | k,i,0,R,_,_,_,hf,_=>by omega
 | k,i,f+1,R,hk,h1,hi,hf,hR=>by
  rw[dW];simp only[H7];by_cases h:i≤a
  · have e:aT ((i:Int)-1)=((i-1:Nat):Int):=by rw[dR aQ aQ];omega
    obtain⟨x,x1,_⟩:=Qew (wd (aT ((aT ((a:Int)-(i:Int)))+1)));obtain⟨m,m1⟩:=Mq (R[i-1]'aQ) x;obtain⟨y,y1,_⟩:=Qew (wd (i:Int));obtain⟨d,d1⟩:=Qv1 m.1 y;unfold tG;rw[aG aQ,e,cF (show i-1<R.length by omega),aJ,x1,aJ,m1,aJ,aJ,y1,aJ,d1,aJ,mW (by simp;omega),aJ,fS aQ];exact Qp9 a ha (k-1) (i+1) f _ aQ aQ aQ aQ (by simp;omega)
  · rw[aH aQ];exact⟨_,rfl⟩
theorem Qga (a:Int)(ha:a<100000):∃ t,zQ a=some t:=by
 unfold zQ Rh;obtain⟨x,x1,_⟩:=Qew 1#64;rw[x1,aJ,aJ];by_cases h:0≤a
 · obtain⟨n,rfl⟩:=E5 h;exact Qp9 n aQ _ 1 aI [x] rfl aQ aQ (fQ aQ) rfl
 · obtain⟨f,hf⟩:∃ f,aI=f+1:=⟨aI-1,by unfold aI;omega⟩;rw[hf,dW];simp only[H7];rw[aH aQ];exact⟨_,rfl⟩
theorem Qbs (r:List Dg)(b:Int):∃ t,yO r b=some t:=by
 unfold yO;have hT:Qb r b true=some []:=rfl;by_cases h:b<0
 · rw[aG h,hT];exact⟨_,rfl⟩
 · rw[aH h];by_cases h2:(r.length:Int)≤b
   · rw[cS h2,hT];exact⟨_,rfl⟩
   · obtain⟨n,rfl⟩:=E5 (show 0≤b by omega);rw[cJ h2];unfold Qb;rw[cH,cF (show n<r.length by omega),aJ];exact⟨_,rfl⟩
theorem Xjb (d:jR)(x:Int):∃ t,Wk d x=some t:=by
 unfold Wk tG;obtain⟨a,a1⟩:=Qbs d.marked x;obtain⟨b,b1⟩:=Qbs d.others (aT (d.d-x));obtain⟨m,m1⟩:=Mq a b;rw[a1,aJ,b1,aJ,m1,aJ,aJ];exact⟨_,rfl⟩
theorem Xjc (a b:Dg)(f:iW):∃ t,Wo a b f=some t:=by
 unfold Wo tG;obtain⟨x,x1⟩:=Mq a f.Den;obtain⟨y,y1⟩:=Mq f.Num b;obtain⟨c,c1⟩:=Qiy x.1 y.1;rw[x1,aJ,aJ,y1,aJ,aJ,c1,aJ]
 split<;>exact⟨_,rfl⟩
theorem Qq5 (c:fV)(K:Nat)(hK:K<100000)(d:jR)(l:Dg):∀ (k x f:Nat) (s:Dg),K+1-x=k→x≤K+1→k<f→∃ t,aC (Qf c (K:Int) d l) f (s,(x:Int))=some t
 | k,x,0,s,_,_,hf=>by omega
 | k,x,f+1,s,hk,hx,hf=>by
  rw[dW];simp only[Qf];by_cases h:x≤K
  · obtain⟨w,w1⟩:=Xjb d (x:Int);obtain⟨a,a1⟩:=Qrr s w;obtain⟨b,b1⟩:=Xjc a.1 l c.Limit;unfold tG;rw[aG aQ,w1,aJ,a1,aJ,aJ,b1,aJ]
    cases b with
    | false=>exact⟨_,rfl⟩
    | true=>
     rw[fF,cH,fS aQ];exact Qq5 c K hK d l (k-1) (x+1) f _ aQ aQ aQ
  · rw[aH aQ];exact⟨_,rfl⟩
theorem Xh9 (c:fV)(hc:1≤c.Block∧c.Block≤64)(K:Int)(h0:0≤K)(hK:K<100000):∃ t,Wn c K=some t:=by
 unfold Wn Re Rf;obtain⟨r1,e1⟩:=Qga K aQ;obtain⟨r2,e2⟩:=Qga (aT ((aT (2*c.Block))-K)) (by rw[dR (n:=2*c.Block) aQ aQ,dR aQ aQ];omega);obtain⟨r3,e3⟩:=Qga (aT (2*c.Block)) (by rw[dR aQ aQ];omega);obtain⟨o,o1⟩:=Qbs r3 c.Block;rw[e1,aJ,e2,aJ,aJ];show ∃ t,Option.bind (Option.bind (zQ (aT (2*c.Block))) _) _=some t;rw[e3,aJ];show ∃ t,Option.bind (Option.bind (yO r3 c.Block) _) _=some t;rw[o1,aJ,aJ];obtain⟨n,rfl⟩:=E5 h0;exact Qq5 c n aQ _ _ _ 0 aI [] rfl aQ (fQ aQ)
theorem Qiu (l:List (BitVec 8))(hl:l.length<1000000):∀ (k i f:Nat) (a b c d:Int),l.length-i=k→i≤l.length→k<f→∃ t,aC (Qc l) f ((i:Int),a,b,c,d)=some t
 | k,i,0,_,_,_,_,_,_,hf=>by omega
 | k,i,f+1,a,b,c,d,hk,hi,hf=>by
  rw[dW];simp only[Qc];by_cases h:i<l.length
  · have hm:∃ n:Nat,n<4∧aO (lZ l[i] 3#8)=(n:Int):=by
     refine⟨(lZ l[i] 3#8).toNat,?_,rfl⟩;unfold lZ
     split
     · decide
     · rename_i h3;rw[pN] at h3;have:(3#8:BitVec 8).toNat=3:=rfl;omega
    obtain⟨n,hn,he⟩:=hm;rw[aG aQ,cF h,aJ,he,cF (l:=[a,b,c,d]) (by simpa using hn),aJ,aJ,fS aQ];exact Qiu l hl (k-1) (i+1) f _ _ _ _ aQ aQ aQ
  · rw[aH aQ];exact⟨_,rfl⟩
theorem Qu1 (l:List (BitVec 8))(hl:l.length<1000000)(n:Int):∃ b,H5 l n=some b∧(b=true→(l.length:Int)=n):=by
 unfold H5 Rc;by_cases h:(l.length:Int)=n
 · obtain⟨t,t1⟩:=Qiu l hl _ 0 aI 0 0 0 0 rfl aQ (fQ aQ);rw[show((0:Nat):Int)=0 from rfl] at t1;rw[aG h,t1,aJ];have:bJ ([t.a0,t.a1,t.a2,t.a3]:List Int) 3=some t.a3:=rfl;rw[this,aJ];exact⟨_,rfl,fun _=>h⟩
 · rw[aH h];exact⟨_,rfl,fun hc=>by cases hc⟩
def yP (n:Nat)(l:List Int):Prop:=l.length=n∧∀ x∈l,0≤x∧x<(n:Int)
theorem Qfc {n:Nat}{l:List Int}(h:yP n l)(i:Nat){x:Int}(hx:0≤x∧x<(n:Int)):yP n (l.set i x):=
 ⟨by rw[Ym];exact h.1,fun y hy=>by
  rcases Qas hy with h1|h1
  · exact h.2 y h1
  · rw[h1];exact hx⟩
theorem Qh8 (c:gE)(y:List (BitVec 8))(n m B0:Nat)(hn:n<1000000)(hp:yP n c.at_)(hy:y.length=n)(hb:c.Steps.Block=(B0:Int))(hb1:1≤B0)(hm:n=m*B0):
 ∀ (k i f:Nat) (w:List Int),n-i=k→i≤n→k<f→w.length=m→(∀ x∈w,0≤x∧x≤(i:Int))→∃ t,aC (Qe c y) f (w,(i:Int))=some t∧t.length=m∧∀ x∈t,0≤x∧x≤(n:Int)
 | k,i,0,w,_,_,hf,_,_=>by omega
 | k,i,f+1,w,hk,hi,hf,hw,hx=>by
  rw[dW];simp only[Qe];have hpl:=hp.1;by_cases h:i<n
  · have h1:i<c.at_.length:=by omega
    obtain⟨p,hpe⟩:=E5 (hp.2 _ (jJ h1)).1;have hpn:=(hp.2 _ (jJ h1)).2;rw[aG aQ,cF h1,aJ,hpe,cF (show p<y.length by omega),aJ,fS aQ];by_cases h2:y[p]'aQ=1#8
    · have hq:sL (i:Int) c.Steps.Block=some ((i / B0:Nat):Int):=by
       have h3:=rF i B0;unfold sL;rw[hb,aH aQ,show(i:Int).tdiv (B0:Int)=((i / B0:Nat):Int) from by rw[Qae aQ];exact(Yf ..).symm];generalize i / B0=q at h3 ⊢;rw[dR aQ aQ]
      have hid:i / B0<m:=by
       rw[Sp aQ];omega
      rw[aG h2,hq,aJ,cF (show i / B0<w.length by omega),aJ,aJ];have hv:=hx _ (jJ (show i / B0<w.length by omega));rw[dR (n:=w[i / B0]'aQ+1) aQ aQ];refine Qh8 c y n m B0 hn hp hy hb hb1 hm (k-1) (i+1) f _ aQ aQ aQ (by simpa using hw) fun x hx2=>?_;rcases Qas hx2 with h4|h4
      · have:=hx x h4;omega
      · rw[h4];omega
    · rw[aH h2];exact Qh8 c y n m B0 hn hp hy hb hb1 hm (k-1) (i+1) f _ aQ aQ aQ hw fun x hx2=>by have:=hx x hx2;omega
  · obtain rfl:i=n:=by omega
    rw[aH aQ];exact⟨w,rfl,hw,hx⟩
theorem Qer (c:gE)(m:Nat)(hm:c.Steps.Users=((m+1:Nat):Int))(hm1:1≤m∧m≤15)(hb:1≤c.Steps.Block∧c.Steps.Block≤64)(w:List Int)(hw:w.length=m)(hx:∀ x∈w,0≤x∧x≤1000):
 ∀ (k i f:Nat) (out:List Int),m+1-i=k→i≤m+1→k<f→out.length≤i→∃ t,aC (H9 c w) f (out,(i:Int))=some t∧t.length≤m+1
 | k,i,0,out,_,_,hf,_=>by omega
 | k,i,f+1,out,hk,hi,hf,ho=>by
  rw[dW];simp only[H9];by_cases h:i<m+1
  · have hJ:∀ b,∃ t,H8 out (i:Int) (aC (H9 c w) f) b=some t∧t.length≤m+1:=fun b=>by
     unfold H8
     cases b with
     | true=>
      rw[dC,mW (by simp;omega),aJ,fS aQ];exact Qer c m hm hm1 hb w hw hx (k-1) (i+1) f _ aQ aQ aQ (by simp;omega)
     | false=>
      rw[cH,fS aQ];exact Qer c m hm hm1 hb w hw hx (k-1) (i+1) f _ aQ aQ aQ aQ
    rw[aG (by rw[hm];omega)];by_cases h0:(i:Int)=0
    · rw[aG h0,show(0:Int)=((0:Nat):Int) from rfl,cF (show 0<w.length by omega),aJ];exact hJ _
    · have e:aT ((i:Int)-1)=((i-1:Nat):Int):=by rw[dR aQ aQ];omega
      rw[aH h0,e,cF (show i-1<w.length by omega)];by_cases hl:(i:Int)=aT (c.Steps.Users-1)
      · rw[aG hl,aJ];exact hJ _
      · have hi2:i<w.length:=by
         rw[hm,dR aQ aQ] at hl;omega
        have v1:=hx _ (jJ (show i-1<w.length by omega));have v2:=hx _ (jJ hi2);rw[aH hl,aJ,aJ,cF hi2,aJ];obtain⟨t,t1⟩:=Xh9 c.Steps hb (aT (w[i-1]'aQ+w[i])) (by rw[dR aQ aQ];omega) (by rw[dR aQ aQ];omega);rw[t1,aJ];exact hJ _
  · rw[aH (by rw[hm];omega)];exact⟨out,rfl,aQ⟩
theorem Xca (k:W2)(n q:BitVec 64)(hq:q≠0#64):∃ x,tT k n q=some x∧x.toNat<q.toNat:=by
 unfold tT;rw[aH hq,Po.Qre,aJ];unfold gB;rw[aH hq,aJ];refine⟨_,rfl,?_⟩;rw[E3];exact fR _ (I0 fun h=>hq (jW (by simpa using h)))
theorem Qpr (c:fV)(y:List (BitVec 8))(n:Nat)(hn:n<1000000)(R:List Int→Option (List Int × Int))(hR:∀ l,yP n l→∃ t,R l=some t∧t.1.length<1000000)(hE:∀ rec (a:Int) l,¬ 0<a→vW c y rec (a,l)=R l):
 ∀ (i f:Nat) (l:List Int),i<f→i<n∨n=0∧i=0→yP n l→∃ t,aC (vW c y) f ((i:Int),l)=some t∧t.1.length<1000000
 | i,0,l,h,_,_=>by omega
 | 0,f+1,l,_,_,hl=>by
  rw[dW,hE _ ((0:Nat):Int) l aQ];exact hR l hl
 | i+1,f+1,l,hf,hi,hl=>by
  have hin:i+1<n:=by omega
  rw[dW];simp only[vW];have hw:wd ((i+1:Nat):Int)=BitVec.ofNat 64 (i+1):=by unfold wd;rw[Lo]
  have hq:(wd ((i+1:Nat):Int)+1#64).toNat=i+2:=by rw[hw,E1,BitVec.toNat_ofNat];simp;omega
  obtain⟨x,x1,x2⟩:=Xca (cC c.Key (aO 70#8) 0#64) (wd ((i+1:Nat):Int)) (wd ((i+1:Nat):Int)+1#64) (fun h=>by rw[h] at hq;simp at hq);have hxl:x.toNat<l.length:=by rw[hl.1];omega
  have hil:i+1<l.length:=by rw[hl.1];omega
  have hux:un x=((x.toNat:Nat):Int):=rfl;rw[aG aQ,x1,aJ,hux,cF hxl,aJ,cF hil,aJ,aJ,cF (show x.toNat<(l.set ((i+1:Nat):Int).toNat l[x.toNat]).length by simpa using hxl),aJ,dR aQ aQ,show((i+1:Nat):Int)-1=(i:Int) by omega];exact Qpr c y n hn R hR hE i f _ aQ aQ (Qfc (Qfc hl _ (hl.2 _ (jJ hxl))) _ (hl.2 _ (jJ hil)))
theorem Qld (c:fV)(y:List (BitVec 8))(n:Nat)(hn:n<1000000)(z:List Int)(hz:z.length=n)(hR:∀ l,yP n l→∃ t,aC (vW c y) aI (aT ((l.length:Int)-1),l)=some t∧t.1.length<1000000):
 ∀ (k i f:Nat) (l:List Int),n-i=k→i≤n→k<f→yP n l→∃ t,aC (Qa c y z) f ((i:Int),l)=some t∧t.1.length<1000000
 | k,i,0,l,_,_,hf,_=>by omega
 | k,i,f+1,l,hk,hi,hf,hl=>by
  rw[dW];simp only[Qa];by_cases h:i<n
  · rw[aG aQ,cF (show i<l.length by rw[hl.1];omega),aJ,fS aQ];exact Qld c y n hn z hz hR (k-1) (i+1) f _ aQ aQ aQ (Qfc hl _ aQ)
  · rw[aH aQ];exact hR l hl
theorem trace_ex (c:fV)(y:List (BitVec 8))(hy:y.length<1000000):∃ r,Wj c y=some r∧r.1.length<1000000:=by
 unfold Wj;obtain⟨e,e1,e2⟩:=Xgt c;rw[e1,aJ];by_cases h:e≠0
 · rw[aG h,aG h];exact⟨_,rfl,by simp⟩
 · obtain⟨⟨hu,hu2⟩,hb,hb2⟩:=e2 aQ;obtain⟨m,hm⟩:∃ m:Nat,c.Users=((m+1:Nat):Int):=⟨(c.Users-1).toNat,aQ⟩;obtain⟨b,hbb⟩:∃ b:Nat,c.Block=(b:Int):=⟨c.Block.toNat,aQ⟩;have hmb:m*b≤15*64:=oC aQ aQ
   have ew:aT ((aT (c.Users-1))*c.Block)=((m*b:Nat):Int):=by
    rw[dR (n:=c.Users-1) aQ aQ,hm,hbb,show((m+1:Nat):Int)-1=(m:Int) by omega,←Lx,dR aQ aQ]
   have hmk:lG 8 ((m*b:Nat):Int) (0:Int)=some (List.replicate (m*b) 0):=by
    unfold lG;rw[aG aQ,jZ]
   rw[aH h,ew,hmk,aJ];refine Qld c y (m*b) aQ _ bW (fun l hl=>?_) _ 0 aI _ rfl aQ (fQ aQ) ⟨by simp,fun x hx=>?_⟩
   · have hR:∀ l,yP (m*b) l→∃ t,(Option.bind (H5 y (l.length:Int)) fun x21=>((bif (!x21) then(some ([],71)) else Option.bind (Qd (gE.mk c l) y) fun x22=>((some (x22,(0:Int)))))))=some t∧t.1.length<1000000:=by
      intro l hl;obtain⟨v,v1,v2⟩:=Qu1 y hy (l.length:Int);rw[v1,aJ]
      cases v with
      | false=>exact⟨_,rfl,by simp⟩
      | true=>
       have hyl:y.length=m*b:=by have:=v2 rfl;have:=hl.1;omega
       rw[fF,cH];unfold Qd Ri;have em:aT (c.Users-1)=(m:Int):=by rw[dR aQ aQ];omega
       have hmk2:lG 8 (m:Int) (0:Int)=some (List.replicate m 0):=by
        unfold lG;rw[aG aQ];simp
       simp only;rw[em,hmk2,aJ];obtain⟨w,w1,w2,w3⟩:=Qh8 (gE.mk c l) y (m*b) m b aQ hl hyl hbb aQ rfl _ 0 aI (List.replicate m 0) rfl aQ (fQ aQ) bW (fun x hx=>by have:=Yi hx;omega);rw[show((0:Nat):Int)=0 from rfl] at w1;rw[w1,aJ];obtain⟨t,t1,t2⟩:=Qer (gE.mk c l) m hm aQ ⟨hb,hb2⟩ w w2 (fun x hx=>by have:=w3 x hx;omega) _ 0 aI [] rfl aQ (fQ aQ) bW;rw[show((0:Nat):Int)=0 from rfl] at t1;rw[t1,aJ];exact⟨_,rfl,by simp only;omega⟩
     have hE:∀ rec (a:Int) l,¬ 0<a→vW c y rec (a,l)=(Option.bind (H5 y (l.length:Int)) fun x21=>((bif (!x21) then(some ([],71)) else Option.bind (Qd (gE.mk c l) y) fun x22=>((some (x22,(0:Int))))))):=by
      intro rec a l ha;simp only[vW];rw[aH ha]
     have hpos:1≤m*b:=Yu aQ aQ;have el:aT ((l.length:Int)-1)=((m*b-1:Nat):Int):=by rw[hl.1,dR aQ aQ];omega
     rw[el];exact Qpr c y (m*b) aQ _ hR hE (m*b-1) aI l (fQ aQ) aQ hl
   · have h1:=Yi hx;have:1≤m*b:=Yu aQ aQ;omega
end Go.Sx.Nu

end
section
namespace Go.Sx.Tl
open Go Go.Sx Go.Sx.Ep Go.Sx.Rg
theorem Qm2 (l:List Int)(hl:l.length<1000000)(u:Int):∀ (k i f:Nat),l.length-i=k→i≤l.length→k<f→aC (N2 l u) f (i:Int)=some (decide (u∈l.drop i))
 | k,i,0,_,_,hf=>by omega
 | k,i,f+1,hk,hi,hf=>by
  rw[dW];have ih:=fun h:i<l.length=>Qm2 l hl u (k-1) (i+1) f aQ aQ aQ;generalize aC (N2 l u) f=rec1 at ih ⊢;unfold N2;by_cases h:i<l.length
  · rw[aG aQ,cF h,aJ,nZ h];by_cases he:l[i]=u
    · rw[aG he,cS (by rw[he];exact Yn ..)]
    · rw[aH he,fS aQ,ih h];congr 1;rw[lQ,gW];exact⟨fun h=>.inr h,fun h=>h.resolve_left (fun hc=>he hc.symm)⟩
  · rw[aH aQ,tQ aQ];rfl
theorem Ma (l:List Int)(hl:l.length<1000000)(u:Int):N1 l u=some (decide (u∈l)):=by
 have:=Qm2 l hl u _ 0 aI rfl aQ (fQ aQ);rw[kA] at this;exact this
theorem Qny {root:W2}{s:bX}{e u:Int}{l:List Int}(hl:l.length≤1000){y:bT × Int}(hy:oY root s e l=some y)(h0:y.2=0){z:bU × Int}(hz:oA root s u=some z)(z0:z.2=0):
 ∃ w d:Nat,u=(w:Int)∧s.Depth=(d:Int)∧d≤6∧w<2^d∧oE s z.1 y.1=some (if u∈l then(k0,6) else(gJ root e,0)):=by
 obtain⟨y',y1,y2⟩:=Qge root s e l hl;rw[hy] at y1;have:=jB y1;subst this;rcases y2 h0 with⟨d,hT,hb,hx⟩|⟨d,t,p,q,g,ln,hP,rfl,hlb,ho,hlen,_,hx⟩
 · obtain⟨z',z1,z2⟩:=Xfu hT root u;rw[hz] at z1;have:=jB z1;subst this;obtain⟨w,rfl,hw,hv⟩:=z2 z0;refine⟨w,d,rfl,hT.2.2.2.1,hT.2.2.2.2,hw,?_⟩;rw[hv,hx];exact Qf4 hT hb root e hw
 · haveI:NeZero q:=⟨by have:=hP.2.2.1.qb;omega⟩;obtain⟨z',z1,z2⟩:=Xft hP root u;rw[hz] at z1;have:=jB z1;subst this;obtain⟨w,rfl,hw,hv⟩:=z2 z0;refine⟨w,d,rfl,hP.2.2.1.depth,hP.2.2.1.d6,hw,?_⟩;rw[hv,hx];exact Xd1 hP hlb ho hlen root e hw
theorem Qlz (b:bS)(hl:b.Cards.length<1000000)(u:Int)(x4 x22:List Int × Int)(x27 x28:W2 × Int)(R:Option Bool)(hR:R=some true)(hE:∀ rec (a:Int),¬ a<(b.Cards.length:Int)→J8 b u→vF b u true x4 x22 x27 x28 rec a=some true):
 ∀ (k i f:Nat),b.Cards.length-i=k→i≤b.Cards.length→k<f→(∀ x∈b.Cards.take i,x.Receiver=u→x.Home=0)→aC (vF b u true x4 x22 x27 x28) f (i:Int)=some true
 | k,i,0,_,_,hf,_=>by omega
 | k,i,f+1,hk,hi,hf,hh=>by
  rw[dW];by_cases h:i<b.Cards.length
  · have hn:(b.Cards[i].Receiver=u→b.Cards[i].Home=0)→aC (vF b u true x4 x22 x27 x28) f (((i+1:Nat)):Int)=some true:=fun hc=>
     Qlz b hl u x4 x22 x27 x28 R hR hE (k-1) (i+1) f aQ aQ aQ (fun x hx hr=>by
      rw[Qb0 h] at hx;rcases nO.1 hx with hx|hx
      · exact hh x hx hr
      · rw[mY.1 hx] at hr ⊢;exact hc hr)
    generalize aC (vF b u true x4 x22 x27 x28) f=rec at hn ⊢;unfold vF Pn;rw[aG aQ,cF h,aJ,fS aQ];by_cases h1:b.Cards[i].Receiver=u
    · rw[aG h1,aJ];by_cases h2:b.Cards[i].Home≠0
      · rw[cS h2,dC]
      · rw[cJ h2,cH];exact hn (fun _=>by omega)
    · rw[aH h1,cH];exact hn (fun hc=>absurd hc h1)
  · refine hE _ _ aQ fun x hx=>hh x ?_;rw[kI aQ];exact hx
theorem Xhc {c:fV}{b x:bS}(hS:Sb b)(hv:mF b=true){named:List Int}(hK:U8 b x named)(hn:named.length<1000000){root:W2}{s:bX}{p e u:Int}{x3:List Int × Int}(h3:x3.1=named)(he:0≤e∧e≤1099511627776)(hd:0≤s.Depth∧s.Depth≤6)(hp:0≤p∧p<(b.Products.length:Int)):
 (Option.bind (uW x p e s.Depth) fun x22=>((if x22.2≠0 then(some false) else Option.bind (oY root s e (lV b p e s.Depth.toNat)) fun x23=>(Option.bind (oY root s e x22.1) fun x24=>(Option.bind (oA root s u) fun x25=>((if x23.2≠0 then(vS b s u true x3 (lV b p e s.Depth.toNat,0) x22 x23 x24 x25 true) else(if x24.2≠0 then(vS b s u true x3 (lV b p e s.Depth.toNat,0) x22 x23 x24 x25 true) else(vS b s u true x3 (lV b p e s.Depth.toNat,0) x22 x23 x24 x25 (decide (x25.2≠0)))))))))))=some true:=by
 obtain⟨r,r1,_,r3⟩:=Qoy x hK.sb p e s.Depth;rw[r1,aJ,r3 hK.vb he hd (by rw[hK.pr];exact hp),aH bW];obtain⟨dd,hdd⟩:∃ dd:Nat,dd=s.Depth.toNat:=⟨_,rfl⟩;rw[←hdd]
 have h64:∀ bb:bS,(lV bb p e dd).length≤64:=fun bb=>by
  have h1:=Xe3 bb p e dd;have h2:2^dd≤64:=eK (fD aQ (show dd≤6 by omega)) bV;omega
 obtain⟨y,y1,_⟩:=Qge root s e (lV b p e dd) (by have:=h64 b;omega);obtain⟨y',y1',_⟩:=Qge root s e (lV x p e dd) (by have:=h64 x;omega);obtain⟨z,z1⟩:=Xfq root s u;rw[y1,aJ,y1',aJ,z1,aJ];have hT:vS b s u true x3 (lV b p e dd,0) (lV x p e dd,0) y y' z true=some true:=rfl;by_cases e1:y.2≠0
 · rw[aG e1];exact hT
 rw[aH e1];by_cases e2:y'.2≠0
 · rw[aG e2];exact hT
 rw[aH e2];by_cases e3:z.2≠0
 · rw[cS e3];exact hT
 rw[cJ e3];obtain⟨w,d,rfl,hsd,h6,hw,o1⟩:=Qny (by have:=h64 b;omega) y1 aQ z1 aQ;obtain⟨_,_,_,_,_,_,o2⟩:=Qny (by have:=h64 x;omega) y1' aQ z1 aQ;have hw64:w<64:=iC hw (eK (fD aQ h6) bV);have hdw:w<2^dd:=by rw[show dd=d by omega];exact hw
 have hm:∀ bb:bS,(w:Int)∈lV bb p e dd↔qJ bb (w:Int) p e=false:=fun bb=>by
  rw[Xe4];exact⟨fun⟨_,_,_,h⟩=>h,fun h=>⟨w,rfl,hdw,h⟩⟩
 unfold vS;rw[cH,o1,aJ,o2,aJ,h3,Ma named hn,aJ];by_cases hi:(w:Int)∈named
 · have hg:=Qzn x (w:Int) p e (hK.gone _ hi aQ);have hin:=(hm x).2 hg;rw[cS hi,dC,dC,Ma _ (by have:=h64 x;simp only;omega),aJ,cS hin,dC,aG hin];rfl
 · rw[cJ hi,cH];refine Qlz b hS.2.1 (w:Int) _ _ _ _ (some true) rfl (fun rec a ha hh=>?_) _ 0 aI rfl aQ (fQ (by have:=hS.2.1;omega)) (fun x hx=>by simp at hx);have hmm:=hK.may (w:Int) p e hi hh;have hiff:((w:Int)∈lV b p e dd)↔((w:Int)∈lV x p e dd):=by rw[hm,hm,hmm]
   unfold vF;rw[aH ha,dC,Ma _ (by have:=h64 b;simp only;omega),aJ,Ma _ (by have:=h64 x;simp only;omega),aJ];by_cases hb:(w:Int)∈lV b p e dd
   · rw[cS hb,cS (hiff.1 hb),aG hb,aG (hiff.1 hb)];simp
   · rw[cJ hb,cJ (fun h=>hb (hiff.2 h)),aH hb,aH (fun h=>hb (hiff.2 h))];simp
theorem Qml {c:fV}{b:bS}(hS:Sb b)(hv:mF b=true){root:W2}{s:bX}{p e u:Int}{x3:List Int × Int}(hn:x3.1.length<1000000)(he:0≤e∧e≤1099511627776)(hd:0≤s.Depth∧s.Depth≤6)(hp:0≤p∧p<(b.Products.length:Int)):
 ∀ (k i f:Nat) (x:bS),x3.1.length-i=k→i≤x3.1.length→k<f→U8 b x (x3.1.take i)→aC (zA b root s p e u true x3 (lV b p e s.Depth.toNat,0)) f ((i:Int),x)=some true
 | k,i,0,x,_,_,hf,_=>by omega
 | k,i,f+1,x,hk,hi,hf,hK=>by
  rw[dW];by_cases h:i<x3.1.length
  · have IH:=fun x'=>Qml (c:=c) (u:=u) (root:=root) hS hv hn he hd hp (k-1) (i+1) f x' aQ aQ aQ;generalize aC (zA b root s p e u true x3 (lV b p e s.Depth.toNat,0)) f=rec at IH ⊢;obtain⟨y,y1,y2,y3⟩:=Xaj hK x3.1[i];rw[←Qb0 h] at y2 y3;unfold zA;simp only;rw[aG aQ,cF h,aJ,fS aQ];show Option.bind (nB x (mG x3.1[i])) _=_;rw[y1,aJ];by_cases h0:y.2=0
    · rw[aG h0];exact IH _ (y2 h0)
    · rw[aH h0];exact IH _ (y3 h0)
  · rw[kI aQ] at hK;unfold zA;simp only;rw[aH aQ];exact Xhc (c:=c) hS hv hK hn rfl he hd hp
def Bj:bS:=bS.mk [] [] [] [] [] (kJ.mk 0 0 0 0 0 0 0 0 0 0 0 0 0 0 0 0)
def Fb (b:bS)(d:cT):bS:=((nB b d).getD (Bj,1)).1
def Qbh:bS:=Fb Bj (cT.mk 1#8 0 0 0 0 0 0 255#8 0#8 false)
def Qbi:bS:=Fb Qbh (cT.mk 2#8 0 0 0 0 0 0 0#8 0#8 false)
def Fc:bS:=Fb Qbi (cT.mk 5#8 0 0 0 0 9 0 0#8 0#8 false)
def Qi1:bS:=Fb Fc (cT.mk 4#8 0 0 0 0 0 0 0#8 0#8 false)
theorem Qrm:nB Bj (cT.mk 1#8 0 0 0 0 0 0 255#8 0#8 false)=some (Qbh,0):=by kernel_rfl
theorem Qrn:nB Qbh (cT.mk 2#8 0 0 0 0 0 0 0#8 0#8 false)=some (Qbi,0):=by kernel_rfl
theorem Qro:nB Qbi (cT.mk 5#8 0 0 0 0 9 0 0#8 0#8 false)=some (Fc,0):=by kernel_rfl
theorem Qrp:nB Fc (cT.mk 4#8 0 0 0 0 0 0 0#8 0#8 false)=some (Qi1,0):=by kernel_rfl
theorem Xds:uW Fc 0 1 1=some ([1],0):=by kernel_rfl
theorem Xdt:uW Qi1 0 1 1=some ([0,1],0):=by kernel_rfl
theorem w07:(O9 (fV.mk 2 1 k0 (iW.mk [1#32] [2#32])) 0).map (fun r=>(r.2,(r.1.length:Int)))=some (0,1):=by kernel_rfl
def uP:bX:=bX.mk 1#8 1 0 (iK.mk 0#64 0#64 0#64)
theorem J3:wT uP 1:=⟨.inl rfl,by decide,by decide +kernel,rfl,by decide⟩
theorem c07 (root:W2):oA root uP 0=some (bU.mk 0 (lS root (1#8) 1 0) (bN.mk 0#64 0#64),0):=by
 obtain⟨n1,n2⟩:=Q0 uP (by have:=J3.1;omega);unfold oA;rw[aH n1,cJ n2];unfold wO;rw[cH,aG J3.1,(O2 _).1,aJ,aG J3.2.2.1,aH bV,(Ou root _ 0).1,aJ];have:=Qpk (s:=uP) J3.2.2.1 rfl (u:=0) (fI 1) root;rw[show((0:Nat):Int)=0 from rfl] at this;rw[this];rfl
theorem Qrt:Pp=some true:=by
 have ht:xQ 1=some true:=by kernel_rfl
 have b1:iJ 1 [1]=true:=by decide +kernel
 have b2:iJ 1 [0,1]=true:=by decide +kernel
 obtain⟨wr,w1⟩:∃ r,O9 (fV.mk 2 1 k0 (iW.mk [1#32] [2#32])) 0=some r:=by
  have:=w07
  cases h:O9 (fV.mk 2 1 k0 (iW.mk [1#32] [2#32])) 0 with
  | none=>rw[h] at this;cases this
  | some r=>exact⟨r,rfl⟩
 have w2:=w07;rw[w1] at w2;have w3:(wr.2,(wr.1.length:Int))=((0:Int),(1:Int)):=jB w2;have w4:wr.2=0:=cA Prod.fst w3;have w5:(wr.1.length:Int)=1:=cA Prod.snd w3;have l1:=Qpj J3 b1 bW (72057594037927936#64,0#64) ht;have l2:=Qpj J3 b2 bW (72057594037927936#64,0#64) ht;have o1:=Qf4 J3 b1 (72057594037927936#64,0#64) 1 (w:=0) bV;have o2:=Qf4 J3 b2 (72057594037927936#64,0#64) 1 (w:=0) bV;rw[aH bV] at o1;rw[aG bV] at o2;unfold Pp;show Option.bind (nB Bj _) _=_;rw[Qrm,aJ,Qrn,aJ,Qro,aJ,Qrp,aJ,Xds,aJ,Xdt,aJ];show Option.bind (oA _ uP 0) _=_;rw[c07,aJ];show Option.bind (oY _ uP 1 [1]) _=_;rw[l1,aJ];show Option.bind (oY _ uP 1 [0,1]) _=_;rw[l2,aJ];show Option.bind (oE uP (bU.mk ((0:Nat):Int) (lS (72057594037927936#64,0#64) uP.Kind 1 0) (bN.mk 0#64 0#64)) _) _=_;rw[o1,aJ];show Option.bind (oE uP (bU.mk ((0:Nat):Int) (lS (72057594037927936#64,0#64) uP.Kind 1 0) (bN.mk 0#64 0#64)) _) _=_;rw[o2,aJ,w1,aJ];simp only[w4,w5];rfl
theorem Qzp (b:bS):Jl b=some true∨(Jl b=some false∧Sb b):=by
 unfold Jl Sb;by_cases h1:(20:Int)<(b.Products.length:Int)
 · rw[aG h1];exact .inl rfl
 · rw[aH h1];by_cases h2:(80:Int)<(b.Cards.length:Int)
   · rw[aG h2];exact .inl rfl
   · rw[aH h2];by_cases h3:(80:Int)<(b.Grants.length:Int)
     · rw[aG h3];exact .inl rfl
     · rw[aH h3];by_cases h4:(80:Int)<(b.Sales.length:Int)
       · rw[aG h4];exact .inl rfl
       · rw[aH h4];by_cases h5:(80:Int)<(b.Licences.length:Int)
         · rw[cS h5];exact .inl rfl
         · rw[cJ h5];exact .inr ⟨rfl,aQ⟩
end Go.Sx.Tl
namespace Go.Sx
open Go Go.Sx.Ep Go.Sx.Rg Go.Sx.Tl
theorem Qzs (c:fV)(y:List (BitVec 8))(b:bS)(root:W2)(s:bX)(p e u:Int)(hc:c.ok)(hyl:y.length*1≤140737488351232)(hb:b.ok)(hs:s.ok)(hp:gX p)(he:gX e)(hu:gX u):Cu c y b root s p e u=some true:=by
 have hJ1:N0 c y b root s p e u true true=some true:=rfl;unfold Cu;rw[Qrt,aJ];by_cases h1:(1000:Int)<(y.length:Int)
 · rw[aG h1];exact hJ1
 rw[aH h1];rcases Qzp b with hg|⟨hg,hS⟩
 · rw[hg,aJ,dC];exact hJ1
 rw[hg,aJ,cH,fF];unfold N0;obtain⟨x3,t1,t2⟩:=Nu.trace_ex c y aQ;obtain⟨x4,r1,r2,_⟩:=Qoy b hS p e s.Depth;rw[cH,t1,aJ,r1,aJ];have hJ2:Xp b root s p e u true x3 x4 true=some true:=rfl;by_cases h3:x3.2≠0
 · rw[aG h3];exact hJ2
 rw[aH h3];by_cases h4:x4.2≠0
 · rw[cS h4];exact hJ2
 rw[cJ h4];obtain⟨hv,he',hd,hp',hx⟩:=r2 aQ;unfold Xp;rw[cH]
 have ex4:x4=(lV b p e s.Depth.toNat,0):=by
  obtain⟨a,z⟩:=x4;simp only at h4 hx;rw[hx,show z=0 by omega]
 rw[ex4];have:=Qml (c:=c) (u:=u) (root:=root) (x3:=x3) hS hv t2 he' hd hp' _ 0 aI b rfl aQ (fQ aQ) (by rw[List.take_zero];exact Xai hS hv);exact this
end Go.Sx

end
