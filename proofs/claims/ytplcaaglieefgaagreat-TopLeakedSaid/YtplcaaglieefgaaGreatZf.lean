/- Several texts in one: SecN Nm Vb Vp Kya Tm Cv Fd Kn Cp Alv Cx Mm Kv Fk Sv. -/
import Derived.Test.YtplcaaglieefgaaGreatZe
import Derived.Test.YtplcaaglieefgaaGreatZb
set_option linter.unusedVariables false
set_option linter.unusedSimpArgs false
set_option maxRecDepth 100000
section
namespace Go.Sx
open Go
def uQ (root:W2)(k:BitVec 8)(x:Nat × Nat):W2:=
 if x.2=0 then(if k=1#8 then cC root (aO 30#8) (wd (x.1:Int)) else cC root (aO 34#8) 0#64) else(fC x.2 (Nat.log2 x.2-Nat.log2 x.1)).foldl yX (cC root (aO 30#8) (wd (x.1:Int)))
def Xs (root:W2)(k:BitVec 8)(x:Nat × Nat):eR:=eR.mk (x.1:Int) (x.2:Int) (uQ root k x)
def lS (root:W2)(k:BitVec 8)(d u:Nat):List eR:=(jY k d u).map (Xs root k)
def Vs (x:Nat × Nat):Prop:=(1≤x.1∧x.1<128∧x.2<128)∧(x.2=0∨(cI x.2 x.1=true∧x.2≠x.1))
theorem Qee {x:Nat × Nat}(h:Vs x)(h0:x.2≠0):∃ k,Nat.log2 x.2-Nat.log2 x.1=k+1∧x.1=x.2 / 2^(k+1)∧2^(k+1)≤x.2∧k≤6:=by
 rcases h.2 with h2|⟨h2,h3⟩
 · exact absurd h2 h0
 · obtain⟨k,e1,e2,e3⟩:=I7 aQ h.1.1 h2 h3;have:=N6 e3 h.1.2.2;exact⟨k,e1,e2,e3,aQ⟩
theorem Xdo {root:W2}{s:bX}{d u:Nat}(ui:Int)(h:∀ x∈jY s.Kind d u,Vs x)(hl:(jY s.Kind d u).length≤100):
 fU (Ql root (eA s,0)) (Qk ui) (Mn s.Kind d u) []=some (bU.mk ui (lS root s.Kind d u) (bN.mk 0#64 0#64),0):=by
 unfold Mn;rw[Xa5];refine(Mf 32 0 (fun _=>true) (Xs root s.Kind) _ _ _ _ (fun a ha nx l=>?_) (by simp;omega)).trans (by simp[Qk,lS,Qle]);have hok:=h a ha;simp only[Ql,Wt,dC];by_cases h0:a.2=0
 · rw[aG aQ]
   have:zD (eA s) root (bG.mk (a.1:Int) 0)=some (uQ root s.Kind a):=by
    unfold zD uQ zY;rw[aG h0,show(eA s).kind=s.Kind from rfl];by_cases hk:s.Kind=1#8
    · rw[aG hk,aG hk];rfl
    · rw[aH hk,aH hk,aG rfl]
   rw[this,aJ];rfl
 · rw[aH aQ];obtain⟨k,e1,e2,e3,e4⟩:=Qee hok h0;unfold zY;rw[aJ]
   have:zK (cC root (aO 30#8) (wd (a.1:Int))) (a.1:Int) (a.2:Int)=some (uQ root s.Kind a):=by
    have:=Qcm (cC root (aO 30#8) (wd (a.1:Int))) (w:=a.2) (k:=k+1) (by have:=hok.1.2.2;omega) e3 aQ;rw[←e2] at this;rw[this,uQ,aH h0,e1]
   rw[this,aJ];rfl
theorem Xab {root:W2}{s:bX}{x:Nat × Nat}(h:Vs x)(hk1:s.Kind=1#8→x.2=0):∃ k,Qft root s (bG.mk (x.1:Int) (x.2:Int))=some k∧(x.2=0→k=uQ root s.Kind x):=by
 unfold Qft uQ;by_cases hk:s.Kind=1#8
 · rw[aG hk];exact⟨_,rfl,fun h0=>by rw[aG h0,aG hk]⟩
 · rw[aH hk];by_cases h0:x.2=0
   · rw[aG (by simp[h0])];exact⟨_,rfl,fun _=>by rw[aG h0,aH hk]⟩
   · rw[aH (by simp only;omega)];obtain⟨k,e1,e2,e3,e4⟩:=Qee h h0;unfold Gb;have:=Qjh (cC root (aO 30#8) (wd (x.1:Int))) (w:=x.2) (k:=k+1) (by have:=h.1.2.2;omega) e3 aQ;rw[←e2] at this;simp only;rw[this,aJ,aJ];exact⟨_,rfl,fun h=>absurd h h0⟩
theorem Xf5 {root:W2}{k':BitVec 8}{x:Nat × Nat}(h:Vs x)(h0:x.2≠0):Gb root (x.1:Int) (x.2:Int)=some (uQ root k' x):=by
 obtain⟨k,e1,e2,e3,e4⟩:=Qee h h0;unfold Gb uQ;have:=Qjh (cC root (aO 30#8) (wd (x.1:Int))) (w:=x.2) (k:=k+1) (by have:=h.1.2.2;omega) e3 aQ;rw[←e2] at this;rw[this,aJ,aH h0,e1]
theorem Qmr {k:BitVec 8}{d u:Nat}(hk:k=1#8):∀ x∈jY k d u,x.2=0:=by
 intro x hx;unfold jY at hx;rw[aG hk] at hx;rcases gW.1 hx with rfl|hx
 · rfl
 · obtain⟨p,_,rfl⟩:=fP.1 hx;rfl
theorem Xfd {root:W2}{s:bX}{d u:Nat}(ui:Int)(h:∀ x∈jY s.Kind d u,Vs x)(hl:(jY s.Kind d u).length≤100):
 aC (Ty root s ui (xG s.Kind d u)) aI (0,[])=some (bU.mk ui (lS root s.Kind d u) (bN.mk 0#64 0#64)):=by
 have hls:(xG s.Kind d u).length=(jY s.Kind d u).length:=by simp[xG]
 have:=Pm (jY s.Kind d u) (Ty root s ui (xG s.Kind d u)) (fun j (acc:List eR)=>((j:Int),acc)) (fun a nx acc=>Option.bind (gI 32 acc [Xs root s.Kind a]) nx) (fun acc=>some (bU.mk ui acc (bN.mk 0#64 0#64)))
  (fun rec j hj acc=>by
   have hj':j<(xG s.Kind d u).length:=by omega
   have hg:(xG s.Kind d u)[j]=bG.mk ((jY s.Kind d u)[j].1:Int) ((jY s.Kind d u)[j].2:Int):=by simp[xG]
   have hok:=h _ (jJ hj);obtain⟨k,e1,e2⟩:=Xab (root:=root) (s:=s) hok (fun hk=>Qmr hk _ (jJ hj));simp only[Ty,Qov,Qfx];rw[aG aQ,cF hj',aJ,hg,e1,aJ,aJ];simp only[aJ];by_cases h0:(jY s.Kind d u)[j].2=0
   · rw[aH aQ,e2 h0,fS aQ];rfl
   · rw[aG aQ,Xf5 (k':=s.Kind) hok h0,aJ,fS aQ];rfl)
  (fun rec acc=>by simp only[Ty];rw[aH aQ]) (f:=aI) (fQ aQ) ([]:List eR)
 rw[show((0:Nat):Int)=0 from rfl] at this;rw[this];exact(Mf 32 0 (fun _=>true) (Xs root s.Kind) _ _ _ _ (fun a _ nx l=>rfl) (by simp;omega)).trans (by simp[lS,Qle])
theorem Qop {k:BitVec 8}{d:Nat}{st u:Int}(h:d≤6):D8 ⟨k,(d:Int),st⟩ u=some (decide (0≤u∧u<((2^d:Nat):Int))):=by
 unfold D8;by_cases h0:(0:Int)≤u
 · rw[aG h0,Qgk h,aJ];congr 1;apply lQ.2;omega
 · rw[aH h0];congr 1;symm;apply cJ;omega
theorem Xfc {d:Nat}{u:Int}(h:d≤6):Qg0 (d:Int) u=some (decide (0≤u∧u<((2^d:Nat):Int))):=by
 unfold Qg0;by_cases h0:(0:Int)≤u
 · rw[aG h0,Uo h,aJ];congr 1;apply lQ.2;omega
 · rw[aH h0];congr 1;symm;apply cJ;omega
def Ez:bU:=bU.mk 0 [] (bN.mk 0#64 0#64)
def Z8 (root:W2)(s:bX)(u:Int):bU × Int:=
 if gQ s then(if 0≤u∧u<((2^s.Depth.toNat:Nat):Int) then(bU.mk u (lS root s.Kind s.Depth.toNat u.toNat) (bN.mk 0#64 0#64),0) else(Ez,2)) else(Ez,30)
theorem Ou (root:W2)(s:bX)(u:Int):Wr root s u=some (Z8 root s u)∧Qot root s u=some (Z8 root s u)∧(Z8 root s u).1.Labels.length≤100:=by
 unfold Wr Qot Z8;rw[Qd7,J4,aJ,aJ]
 cases hv:gQ s with
 | false=>exact⟨rfl,rfl,by simp[Ez]⟩
 | true=>
  obtain⟨d,hd,h6⟩:=Ve hv;have ht:eA s=⟨s.Kind,(d:Int),(mX d:Int)⟩:=by unfold eA;rw[hd,jZ]
  simp only[lU,fF,cH];rw[aH bW,hd,Xfc h6,jZ];have e0:D8 (eA s) u=some (decide (0≤u∧u<((2^d:Nat):Int))):=by rw[ht];exact Qop h6
  rw[e0,aJ,aJ];by_cases hu:0≤u∧u<((2^d:Nat):Int)
  · rw[cS hu,aG hu];simp only[fF,cH];obtain⟨n,hn⟩:∃ n:Nat,u=(n:Int):=⟨u.toNat,aQ⟩;subst hn;obtain⟨e1,e2,e3,e4⟩:=Qms (u:=n) hv hd h6 aQ;unfold Rv Qou;rw[aJ];simp only;rw[jZ,ht,e1,e2,aJ,aJ,←ht,Xdo _ e4 e3,Xfd _ e4 e3,aJ];exact⟨rfl,rfl,by simpa[lS] using e3⟩
  · rw[cJ hu,aH hu];exact⟨rfl,rfl,by simp[Ez]⟩
end Go.Sx

end
section
namespace Go.Sx.Po
open Go
abbrev bn (n:Nat):BitVec 64:=BitVec.ofNat 64 n
theorem Qbr (x:BitVec 64):∃ n,n<18446744073709551616∧x=bn n:=⟨x.toNat,x.isLt,by simp[bn]⟩
theorem jV {n:Nat}(h:n<18446744073709551616):(bn n).toNat=n:=by rw[bn,BitVec.toNat_ofNat];exact fA h
theorem tH {a b:Nat}(ha:a<18446744073709551616)(hb:b<18446744073709551616):bn a=bn b↔a=b:=by
 constructor
 · intro h;rw[←jV ha,←jV hb,h]
 · intro h;rw[h]
theorem jC {a b:Nat}(ha:a<18446744073709551616)(hb:b<18446744073709551616):bn a<bn b↔a<b:=by rw[pN,jV ha,jV hb]
theorem pC {a b:Nat}(ha:a<18446744073709551616)(hb:b<18446744073709551616):bn a≤bn b↔a≤b:=by rw[yG,jV ha,jV hb]
theorem vK (a b:Nat):bn a*bn b=bn (a*b):=by apply jW;simp[bn]
theorem O0 (a b:Nat):bn a+bn b=bn (a+b):=by apply jW;simp[bn]
theorem Wa {a b:Nat}(ha:a<18446744073709551616)(h:b≤a):bn a-bn b=bn (a-b):=by
 apply jW;rw[E2,jV ha,jV aQ,jV aQ];omega
theorem Qsl (n:Nat)(h:n<18446744073709551616):bn n >>> 1=bn (n / 2):=by
 apply jW;rw[uC,jV h,jV aQ,vX]
theorem Qsk (n:Nat)(h:n<18446744073709551616):bn n &&& 1#64=bn (n%2):=by
 apply jW;rw[Qa9,jV h,jV (n:=n%2) aQ];exact Nat.and_one_is_mod n
theorem lL {a m:Nat}(ha:a<18446744073709551616)(hm:0<m)(hm2:m<18446744073709551616):gB (bn a) (bn m)=some (bn (a%m)):=by
 have:=fR a hm;unfold gB;rw[aH (fun h=>by have:=(tH (b:=0) hm2 aQ).1 h;omega)];congr 1;apply jW;rw[E3,jV ha,jV hm2,jV aQ]
theorem Qoi {a m:Nat}(ha:a<18446744073709551616)(hm:0<m)(hm2:m<18446744073709551616):wX (bn a) (bn m)=some (bn (a / m)):=by
 have:=rF a m;unfold wX;rw[aH (fun h=>by have:=(tH (b:=0) hm2 aQ).1 h;omega)];congr 1;apply jW;rw[Qaa,jV ha,jV hm2,jV aQ]
def kD (n:Nat):Prop:=2≤n∧∀ e,2≤e→e*e≤n→n%e≠0
theorem Qfi {n:Nat}(hn:n≤1048575)(T:Bool)(F:(BitVec 64→Option Bool)→BitVec 64→Option Bool)(hF:∀ rec a,F rec a=if a*a≤bn n then Option.bind (gB (bn n) a) fun x4=>if x4=0#64 then some false else rec (a+1#64) else some T):
 ∀ (m d f:Nat),d+m=1025→m<f→2≤d→∃ b,aC F f (bn d)=some b∧(b=true↔T=true∧∀ e,d≤e→e*e≤n→n%e≠0)
 | m,d,0,_,h,_=>by omega
 | 0,d,f+1,hd,_,h2=>by
  obtain rfl:d=1025:=by omega
  rw[dW,hF,vK,aH (by rw[pC aQ aQ];omega)];refine⟨T,rfl,fun h=>⟨h,fun e he hen=>?_⟩,fun h=>h.1⟩;have:=oC he he;omega
 | m+1,d,f+1,hd,hf,h2=>by
  have hdd:d*d≤1025*1025:=oC aQ aQ;rw[dW,hF,vK];by_cases hle:d*d≤n
  · rw[aG ((pC aQ aQ).2 hle),lL aQ aQ aQ,aJ];by_cases hz:n%d=0
    · rw[hz,aG rfl];exact⟨false,rfl,(fun h=>by cases h),fun h=>absurd hz (h.2 d (eO _) hle)⟩
    · have hzn:¬ bn (n%d)=0#64:=fun h=>hz ((tH (b:=0) (by have:=fR n (show 0<d by omega);omega) aQ).1 h);rw[aH hzn,show(1#64)=bn 1 from rfl,O0];obtain⟨b,e1,e2⟩:=Qfi hn T F hF m (d+1) f aQ aQ aQ;refine⟨b,e1,?_⟩;rw[e2];refine and_congr_right fun _=>⟨fun h e he hen=>?_,fun h e he=>h e aQ⟩;rcases jG d e with h'|h'
      · exact h e aQ hen
      · obtain rfl:e=d:=by omega
        exact hz
  · rw[aH (fun h=>hle ((pC aQ aQ).1 h))];refine⟨T,rfl,fun h=>⟨h,fun e he hen=>?_⟩,fun h=>h.1⟩;have:=oC he he;omega
theorem Qof {n:Nat}(h64:n<18446744073709551616):∃ b,Zq (bn n)=some b∧(b=true↔n≤1048575∧kD n):=by
 unfold Zq Dy;by_cases h2:n<2
 · rw[aG ((jC h64 (b:=2) aQ).2 h2)];exact⟨false,rfl,(fun h=>by cases h),fun h=>by have:=h.2.1;omega⟩
 · rw[aH (fun h=>h2 ((jC h64 (b:=2) aQ).1 h))];by_cases hg:1048575<n
   · rw[cS ((jC (a:=1048575) aQ h64).2 hg)];exact⟨false,rfl,(fun h=>by cases h),fun h=>by omega⟩
   · rw[cJ (fun h=>hg ((jC (a:=1048575) aQ h64).1 h)),cH];obtain⟨b,e1,e2⟩:=Qfi (n:=n) aQ true (Dz (bn n)) (fun rec a=>rfl) 1023 2 aI aQ (fQ aQ) aQ;refine⟨b,e1,?_⟩;rw[e2];unfold kD;exact⟨fun h=>⟨aQ,aQ,h.2⟩,fun h=>⟨rfl,h.2.2⟩⟩
theorem Me {n:Nat}(hn:n≤1048575):∃ b,Qfn (bn n)=some b∧(b=true↔kD n):=by
 obtain⟨b,e1,e2⟩:=Qfi (n:=n) hn (decide (2#64≤bn n)) (Qoq (bn n)) (fun rec a=>rfl) 1023 2 aI aQ (fQ aQ) aQ;refine⟨b,e1,?_⟩;rw[e2,fT,show(2#64)=bn 2 from rfl,pC aQ aQ];rfl
theorem Xdn (x n:Nat):x^n=x^(n%2)*(x*x)^(n / 2):=by
 have:x^n=x^(n%2+2*(n / 2)):=by congr 1;omega
 rw[this,kO,Yv,Nat.pow_two]
theorem Qod {m x n o:Nat}:o*x^n%m=(if n%2=1 then o*x%m else o)*(x*x%m)^(n / 2)%m:=by
 rw[Xdn x n];rcases Nat.mod_two_eq_zero_or_one n with h|h
 · rw[h,aH aQ,pR,nY,tY o ((x*x%m)^(n / 2)),←yI,←tY]
 · rw[h,aG rfl,Sw,tY (o*x%m),A8,←yI,←tY,jN]
theorem Qfh {m:Nat}(hm:0<m)(hm2:m<4294967296):∀ (k n x o f:Nat),n<2^k→k≤64→k<f→x<m→o<m→aC (L6 (bn m)) f (bn x,bn n,bn o)=some (bn (o*x^n%m))
 | k,n,x,o,0,_,_,h,_,_=>by omega
 | 0,n,x,o,f+1,hn,_,_,hx,ho=>by
  obtain rfl:n=0:=by simp at hn;exact hn
  rw[dW];simp only[L6];rw[aH bV,pR,tW,fA ho]
 | k+1,n,x,o,f+1,hn,hk,hf,hx,ho=>by
  have hn64:n<18446744073709551616:=iC hn (eK (fD aQ hk) bV);have hxx:x*x<18446744073709551616:=rB (oC (nV hx) (nV hx)) (by have:=Su hm2 hm2;omega);have hox:o*x<18446744073709551616:=rB (oC (nV ho) (nV hx)) (by have:=Su hm2 hm2;omega);rw[dW];simp only[L6];by_cases h0:n=0
  · subst h0;rw[aH bV,pR,tW,fA ho]
  · rw[aG ((jC (a:=0) aQ hn64).2 aQ),Qsk n hn64,show eD (un 1#64)=some 1 from by decide,vK,vK,lL hxx hm aQ,lL hox hm aQ,Qod];simp only[aJ];rw[Qsl n hn64];have dX:n / 2<2^k:=by rw[eS] at hn;omega
    have h1:=fR (x*x) hm;have h2:=fR (o*x) hm;by_cases hodd:n%2=1
    · rw[aG (by rw[hodd]),aG hodd];exact Qfh hm hm2 k (n / 2) _ _ f dX aQ aQ h1 h2
    · rw[aH (fun h=>hodd ((tH (b:=1) aQ aQ).1 h)),aH hodd];exact Qfh hm hm2 k (n / 2) _ _ f dX aQ aQ h1 ho
theorem Qoe {b n m:Nat}(hb:b<18446744073709551616)(hn:n<18446744073709551616)(hm:0<m)(hm2:m<4294967296):Zp (bn b) (bn n) (bn m)=some (bn (b^n%m)):=by
 unfold Zp;rw[show(1#64)=bn 1 from rfl,lL aQ hm aQ,aJ,lL hb hm aQ,aJ,Qfh hm hm2 64 n _ _ aI aQ aQ (fQ aQ) (fR _ hm) (fR _ hm),Qb7,nY,←yI]
theorem Qgb {m:Nat}(hm:0<m)(hm2:m<4294967296):∀ (k n x o f:Nat),n<2^k→k≤64→k<f→x<m→o<m→aC (Up (bn m)) f (bn n,bn o,bn x)=some (bn (o*x^n%m))
 | k,n,x,o,0,_,_,h,_,_=>by omega
 | 0,n,x,o,f+1,hn,_,_,hx,ho=>by
  obtain rfl:n=0:=by simp at hn;exact hn
  rw[dW];simp only[Up];rw[aH bV,pR,tW,fA ho]
 | k+1,n,x,o,f+1,hn,hk,hf,hx,ho=>by
  have hn64:n<18446744073709551616:=iC hn (eK (fD aQ hk) bV);have hxx:x*x<18446744073709551616:=rB (oC (nV hx) (nV hx)) (by have:=Su hm2 hm2;omega);have hox:o*x<18446744073709551616:=rB (oC (nV ho) (nV hx)) (by have:=Su hm2 hm2;omega);rw[dW];simp only[Up];by_cases h0:n=0
  · subst h0;rw[aH bV,pR,tW,fA ho]
  · unfold Qfp;rw[aG ((jC (a:=0) aQ hn64).2 aQ),show(2#64)=bn 2 from rfl,lL hn64 aQ aQ,vK,vK,lL hxx hm aQ,lL hox hm aQ,Qoi hn64 aQ aQ,Qod];simp only[aJ];have dX:n / 2<2^k:=by rw[eS] at hn;omega
    have h1:=fR (x*x) hm;have h2:=fR (o*x) hm;by_cases hodd:n%2=1
    · rw[aG (by rw[hodd]),aG hodd];exact Qgb hm hm2 k (n / 2) _ _ f dX aQ aQ h1 h2
    · rw[aH (fun h=>hodd ((tH (b:=1) aQ aQ).1 h)),aH hodd];exact Qgb hm hm2 k (n / 2) _ _ f dX aQ aQ h1 ho
theorem Xfb {b n m:Nat}(hb:b<18446744073709551616)(hn:n<18446744073709551616)(hm:0<m)(hm2:m<4294967296):Qfo (bn b) (bn n) (bn m)=some (bn (b^n%m)):=by
 unfold Qfo;rw[show(1#64)=bn 1 from rfl,lL aQ hm aQ,aJ,lL hb hm aQ,aJ,Qgb hm hm2 64 n _ _ aI aQ aQ (fQ aQ) (fR _ hm) (fR _ hm),Qb7,nY,←yI]
end Go.Sx.Po

end
section
namespace Go.Sx.Po
open Go
theorem vL {τ R:Type}(F:(τ→Option R)→τ→Option R)(I:Nat→τ→Prop)(n:Nat)(r:Option R)(hn:n<9223372036854775808){s:τ}(h0:I 0 s)(hs:∀ j s,j<n→I j s→∃ s',I (j+1) s'∧∀ rec,F rec s=rec s')(he:∀ s,I n s→∀ rec,F rec s=r):aC F aI s=r:=
 Qdv F I n r hs he n 0 aI s aQ (fQ hn) h0
def oN (l:List (BitVec 8)):BitVec 64:=l.foldl (fun n c=>256#64*n+c.setWidth 64) 0#64
theorem Qgf (a:BitVec 64)(c:BitVec 8):(a <<< 8) ||| (c.setWidth 64)=256#64*a+c.setWidth 64:=by
 have e1:256#64*a=a <<< 8:=by
  apply jW;rw[Lp,V5,vQ,eZ];rfl
 rw[e1]
 symm
 apply BitVec.add_eq_or_of_and_eq_zero;apply V3;intro j hj;rw[BitVec.getLsbD_and,Yc,Qa8,BitVec.getLsbD_zero];by_cases h:j<8
 · simp[h]
 · simp[V4 c j aQ]
theorem Ia (l:List (BitVec 8))(c:BitVec 8):oN (l++[c])=256#64*oN l+c.setWidth 64:=by simp[oN]
theorem Xfy (x:BitVec 64)(s:Nat):256#64*(x >>> (s+8))+((x >>> s).setWidth 8).setWidth 64=x >>> s:=by
 rw[←Qgf];apply V3;intro i hi;simp only[Lm,Yc,E0,Qa8];by_cases h:i<8
 · simp[h,hi]
 · simp[h,hi,show s+8+(i-8)=s+i from by omega]
theorem Qgx (x:BitVec 64):oN (w8 x)=x:=by
 have h0:oN []=x >>> 64:=by
  apply V3;intro i hi;rw[E0,V4 x _ aQ];simp[oN]
 have st:∀ (l:List (BitVec 8)) (i:Nat),i≤7→oN l=x >>> (56-8*i+8)→oN (l++[gU x i])=x >>> (56-8*i):=fun l i hi hl=>by
  rw[Ia,hl];exact Xfy x (56-8*i)
 have h1:=st [] 0 aQ h0;have h2:=st _ 1 aQ h1;have h3:=st _ 2 aQ h2;have h4:=st _ 3 aQ h3;have h5:=st _ 4 aQ h4;have h6:=st _ 5 aQ h5;have h7:=st _ 6 aQ h6;have h8:=st _ 7 aQ h7;rw[show 56-8*7=0 from rfl,BitVec.ushiftRight_zero] at h8;exact h8
theorem Qqp (l:List (BitVec 8))(hx:l.length≤1000):∀ (m i fuel:Nat),l.length-i=m→i≤l.length→m<fuel→aC (Uq l) fuel (oN (l.take i),(i:Int))=some (oN l)
 | m,i,0,_,_,hf=>by omega
 | 0,i,fuel+1,hm,hi,hf=>by
  rw[dW];simp only[Uq];rw[aH aQ,kI aQ]
 | m+1,i,fuel+1,hm,hi,hf=>by
  rw[dW];simp only[Uq];rw[aG aQ,cF aQ,aJ,←Ia,←Vd _ _ aQ,dR aQ aQ];exact Qqp l hx m (i+1) fuel aQ aQ aQ
theorem Xi7 (l:List (BitVec 8))(h:l.length≤1000):Qor l=some (oN l):=Qqp l h _ 0 aI rfl aQ (fQ aQ)
theorem Qmd (k:W2):pZ k=w8 k.1++w8 k.2:=rfl
theorem Xjd (k:W2)(A B:List (BitVec 8))(hA:A.length=8)(hB:B.length=8)(hk:pZ k=A++B):O4 k=some ⟨oN A,oN B⟩:=by
 unfold O4;refine vL _ (fun j x=>x=((j:Int),oN (A.take j),oN (B.take j))) 8 _ aQ (by simp[oN]) ?_ ?_
 · rintro j _ hj rfl;refine⟨_,rfl,fun rec=>?_⟩;have h1:j<A.length:=by omega
   have h2:j<B.length:=by omega
   have g1:bJ (pZ k) (j:Int)=some A[j]:=by rw[hk,cF (by rw[nJ];omega),List.getElem_append_left h1]
   have g2:bJ (pZ k) ((8+j:Nat):Int)=some B[j]:=by
    rw[hk,cF (by rw[nJ];omega),List.getElem_append_right aQ];congr 2;omega
   simp only[O5];rw[aG aQ,show eD (un 8#64)=some 8 from by decide,aJ,g1,aJ,aJ,dR (n:=8+(j:Int)) aQ aQ,show(8:Int)+(j:Int)=((8+j:Nat):Int) from by omega,g2,aJ,Qgf,Qgf,←Ia,←Ia,←Vd _ _ h1,←Vd _ _ h2,fS aQ]
 · rintro _ rfl rec;simp only[O5];rw[aH aQ,kI aQ,kI aQ]
theorem Qre (k:W2):O4 k=some ⟨k.1,k.2⟩:=by
 rw[Xjd k _ _ (Iu _) (Iu _) (Qmd k),Qgx,Qgx]
theorem Qnh (k:W2)(n m:BitVec 64)(hm:m≠0#64):tT k n m=some ((cC k (aO 3#8) n).1%m):=by
 unfold tT;rw[aH hm,Qre,aJ];simp only;unfold gB;rw[aH hm];rfl
theorem Xfa (k:W2)(n m:BitVec 64)(hm:m≠0#64):Qfr k n m=some ((cC k (aO 3#8) n).1%m):=by
 unfold Qfr;rw[aH hm,kA,Qmd,List.take_left' (Iu _),Xi7 _ (by rw[Iu];omega),aJ,Qgx];unfold gB;rw[aH hm];rfl
end Go.Sx.Po

end
section
namespace Go.Sx.Po
open Go
def sA (p q g:Nat):Prop:=(p≤1048575∧kD p)∧(q≤1048575∧kD q)∧(p-1)%q=0∧2≤g∧g<p∧g^q%p=1
theorem Qzq {p q g:Nat}(hp:p<18446744073709551616)(hq:q<18446744073709551616)(hg:g<18446744073709551616):
 ∃ b,Dq ⟨bn p,bn q,bn g⟩=some (if b=true then 0 else 13)∧Qfq ⟨bn p,bn q,bn g⟩=some b∧(b=true↔sA p q g):=by
 obtain⟨b1,e1,i1⟩:=Qof hp;obtain⟨b2,e2,i2⟩:=Qof hq;unfold Dq Qfq;simp only;rw[e1,aJ,show(1048575#64)=bn 1048575 from rfl];have no:∀ (h:¬ sA p q g),(false=true↔sA p q g):=fun h=>⟨(fun e=>by cases e),fun e=>absurd e h⟩;by_cases hP:p≤1048575∧kD p
 · have c0:¬ bn 1048575<bn p:=fun h=>by have:=(jC aQ hp).1 h;omega
   rw[i1.2 hP,aH c0];obtain⟨c1,f1,j1⟩:=Me hP.1;rw[f1,aJ,j1.2 hP.2];simp only[fF,cH];rw[e2,aJ];by_cases hQ:q≤1048575∧kD q
   · have c0':¬ bn 1048575<bn q:=fun h=>by have:=(jC aQ hq).1 h;omega
     rw[i2.2 hQ,aH c0'];obtain⟨c2,f2,j2⟩:=Me hQ.1;rw[f2,aJ,j2.2 hQ.2];simp only[fF,cH];have hp2:=hP.2.1;have hq2:=hQ.2.1;rw[show(1#64)=bn 1 from rfl,Wa hp aQ,lL aQ aQ hq,aJ,aJ];have hmod:=fR (p-1) (show 0<q by omega);unfold xS Jk;simp only;by_cases hz:(p-1)%q=0
     · rw[hz,aH bW,cJ bW,cH,show(2#64)=bn 2 from rfl];by_cases h2:2≤g
       · have c3:¬ bn g<bn 2:=fun h=>by have:=(jC hg aQ).1 h;omega
         have c4:bn 2≤bn g:=(pC aQ hg).2 h2;rw[aH c3,aG c4];by_cases h3:g<p
         · have c5:¬ bn p≤bn g:=fun h=>by have:=(pC hp hg).1 h;omega
           have c6:bn g<bn p:=(jC hg hp).2 h3;rw[aH c5,aG c6,Qoe hg hq aQ aQ,Xfb hg hq aQ aQ,aJ,aJ];have hpm:=fR (g^q) (show 0<p by omega);have hone:bn (g^q%p)=bn 1↔g^q%p=1:=tH aQ aQ;refine⟨decide (bn (g^q%p)=bn 1),?_,rfl,?_⟩
           · by_cases h4:bn (g^q%p)=bn 1
             · rw[cJ (by simpa using h4),cS h4];rfl
             · rw[cS h4,cJ h4];rfl
           · rw[fT,hone];exact⟨fun h=>⟨hP,hQ,hz,h2,h3,h⟩,fun h=>h.2.2.2.2.2⟩
         · have c5:bn p≤bn g:=(pC hp hg).2 aQ;have c6:¬ bn g<bn p:=fun h=>h3 ((jC hg hp).1 h);rw[aG c5,aH c6];exact⟨false,rfl,rfl,no fun h=>h3 h.2.2.2.2.1⟩
       · have c3:bn g<bn 2:=(jC hg aQ).2 aQ;have c4:¬ bn 2≤bn g:=fun h=>h2 ((pC aQ hg).1 h);rw[aG c3,aH c4];exact⟨false,rfl,rfl,no fun h=>h2 h.2.2.2.1⟩
     · have hz':bn ((p-1)%q)≠0#64:=fun h=>hz ((tH (b:=0) aQ aQ).1 h);rw[aG hz',cS hz'];exact⟨false,rfl,rfl,no fun h=>hz h.2.2.1⟩
   · have hb2:b2=false:=by cases b2 with|false=>rfl|true=>exact absurd (i2.1 rfl) hQ
     rw[hb2];refine⟨false,rfl,?_,no fun h=>hQ h.2.1⟩;by_cases hg':1048575<q
     · have c0':bn 1048575<bn q:=(jC aQ hq).2 hg';rw[aG c0'];rfl
     · have c0':¬ bn 1048575<bn q:=fun h=>hg' ((jC aQ hq).1 h);rw[aH c0'];obtain⟨c2,f2,j2⟩:=Me (n:=q) aQ;have:c2=false:=by cases c2 with|false=>rfl|true=>exact absurd ⟨aQ,j2.1 rfl⟩ hQ
       rw[f2,aJ,this];rfl
 · have hb1:b1=false:=by cases b1 with|false=>rfl|true=>exact absurd (i1.1 rfl) hP
   rw[hb1];refine⟨false,rfl,?_,no fun h=>hP h.1⟩;by_cases hg':1048575<p
   · have c0:bn 1048575<bn p:=(jC aQ hp).2 hg';rw[aG c0];rfl
   · have c0:¬ bn 1048575<bn p:=fun h=>hg' ((jC aQ hp).1 h);rw[aH c0];obtain⟨c1,f1,j1⟩:=Me (n:=p) aQ;have:c1=false:=by cases c1 with|false=>rfl|true=>exact absurd ⟨aQ,j1.1 rfl⟩ hP
     rw[f1,aJ,this];rfl
theorem Qfk:∀ d:Fin 7,Z4 (d.1:Int)=some ((2^d.1:Nat):Int):=by decide +kernel
theorem Uo {d:Nat}(h:d≤6):Z4 (d:Int)=some ((2^d:Nat):Int):=Qfk ⟨d,aQ⟩
theorem Xfz:∀ d:Fin 7,lF 1 d.1=((2^d.1:Nat):Int):=by decide +kernel
theorem C4 {d:Nat}(h:d≤6):lF 1 d=((2^d:Nat):Int):=Xfz ⟨d,aQ⟩
theorem Z9 (n:Nat):eD (n:Int)=some n:=by unfold eD;rw[aG aQ];rfl
theorem iG {d:Nat}(h:d≤6):2^d≤64:=eK (fD aQ h) bV
theorem Vj (n:Nat):wd (n:Int)=bn n:=by unfold wd bn;exact Lo 64 n
structure jX (s:bX)(d t p q g:Nat):Prop where
 kind:s.Kind=4#8
 depth:s.Depth=(d:Int)
 deg:s.Degree=(t:Int)
 d6:d≤6
 t1:1≤t
 t8:t≤8
 grp:s.Group=⟨bn p,bn q,bn g⟩
 ok:sA p q g
 big:2^d+t<q
theorem J4 (s:bX):(mE s=some false∧Gd s=some false)∨(mE s=some true∧Gd s=some true∧∃ d t p q g,jX s d t p q g):=by
 obtain⟨kd,dp,dg,⟨P,Q,G⟩⟩:=s;obtain⟨p,hp,rfl⟩:=Qbr P;obtain⟨q,hq,rfl⟩:=Qbr Q;obtain⟨g,hg,rfl⟩:=Qbr G;unfold mE Gd B1;simp only;by_cases h1:kd=4#8
 · rw[aG h1,aH (show ¬ kd≠4#8 from fun h=>h h1)];by_cases h2:0≤dp
   · rw[aG h2,aH (show ¬ dp<0 by omega)];by_cases h3:dp≤6
     · rw[aG h3,aH (show ¬ 6<dp by omega)];by_cases h4:1≤dg
       · rw[aG h4,aH (show ¬ dg<1 by omega)];by_cases h5:dg≤8
         · rw[aG h5,aH (show ¬ 8<dg by omega)];obtain⟨b,e1,e2,i⟩:=Qzq hp hq hg;rw[e1,e2,aJ,aJ]
           cases b with
           | false=>exact .inl ⟨rfl,rfl⟩
           | true=>
            obtain⟨d,rfl⟩:∃ d:Nat,dp=(d:Int):=⟨dp.toNat,aQ⟩;obtain⟨t,rfl⟩:∃ t:Nat,dg=(t:Int):=⟨dg.toNat,aQ⟩;have h64:=iG (d:=d) aQ;have hpp:=fI d;simp only[fF,cH,lU];rw[Z9,aJ,Uo aQ,aJ,C4 aQ,dR aQ aQ,show((2^d:Nat):Int)+(t:Int)=((2^d+t:Nat):Int) from by omega,Vj];by_cases dX:2^d+t<q
            · rw[cS ((jC aQ hq).2 dX)];exact .inr ⟨rfl,rfl,d,t,p,q,g,⟨h1,rfl,rfl,aQ,aQ,aQ,rfl,i.1 rfl,dX⟩⟩
            · rw[cJ (fun h=>dX ((jC aQ hq).1 h))];exact .inl ⟨rfl,rfl⟩
         · rw[aH h5,aG (show 8<dg by omega)];exact .inl ⟨rfl,rfl⟩
       · rw[aH h4,aG (show dg<1 by omega)];exact .inl ⟨rfl,rfl⟩
     · rw[aH h3,aG (show 6<dp by omega)];exact .inl ⟨rfl,rfl⟩
   · rw[aH h2,aG (show dp<0 by omega)];exact .inl ⟨rfl,rfl⟩
 · rw[aH h1,aG (show kd≠4#8 from h1)];exact .inl ⟨rfl,rfl⟩
theorem jX.qb {s:bX}{d t p q g:Nat}(h:jX s d t p q g):2≤q∧q≤1048575:=⟨h.ok.2.1.2.1,h.ok.2.1.1⟩
theorem jX.pb {s:bX}{d t p q g:Nat}(h:jX s d t p q g):2≤p∧p≤1048575:=⟨h.ok.1.2.1,h.ok.1.1⟩
def cfN (root:W2)(q i:Nat):Nat:=(cC (cC root (aO 40#8) 0#64) (aO 3#8) (bn i)).1.toNat%q
def qO (root:W2)(q t:Nat):List Nat:=(List.range (t+1)).map (cfN root q)
theorem Qbw {root:W2}{q t:Nat}(hq:0<q):∀ c∈qO root q t,c<q:=by
 intro c hc;obtain⟨i,_,rfl⟩:=fP.1 hc;exact fR _ hq
theorem Qn9 (x:BitVec 64){q:Nat}(hq:0<q)(hq2:q<18446744073709551616):x%bn q=bn (x.toNat%q):=by
 apply jW;have:=fR x.toNat hq;rw[E3,jV hq2,jV aQ]
theorem Fh {q:Nat}(hq:0<q)(hq2:q<18446744073709551616):bn q≠0#64:=fun h=>by have:=(tH (b:=0) hq2 aQ).1 h;omega
theorem Qpm {s:bX}{d t p q g:Nat}(h:jX s d t p q g)(root:W2):Z1 root s=some ((qO root q t).map bn):=by
 obtain⟨q1,q2⟩:=h.qb;have ht:=h.t8;unfold Z1;rw[h.deg,dR aQ aQ,show(t:Int)+1=((t+1:Nat):Int) from by omega,lG,aG aQ,aJ,jZ];refine vL _ (fun j x=>x=((List.range (t+1)).map (fun i=>if i<j then bn (cfN root q i) else 0#64),(j:Int))) (t+1) _ aQ ?_ ?_ ?_
 · congr 1;apply E7
   · simp
   · intro i _ _;simp
 · rintro j _ hj rfl;refine⟨_,rfl,fun rec=>?_⟩;simp only[Ji];have hjl:j<((List.range (t+1)).map (fun i=>if i<j then bn (cfN root q i) else 0#64)).length:=by simpa using hj
   rw[aG (by simp;omega),h.grp,Vj];simp only;rw[Qnh _ _ _ (Fh aQ aQ),aJ,cF hjl,aJ,jZ,fS aQ,Qn9 _ aQ aQ];congr 2;apply E7
   · simp
   · intro i h1 h2;rw[List.getElem_set];simp only[oR,List.getElem_range];by_cases e:j=i
     · subst e;rw[aG rfl,aG aQ];rfl
     · rw[aH e];by_cases e2:i<j
       · rw[aG e2,aG aQ]
       · rw[aH e2,aH aQ]
 · rintro _ rfl rec;simp only[Ji];rw[aH bW];congr 1;unfold qO;rw[Y0];apply List.map_congr_left;intro i hi;rw[aG (tJ.1 hi)];rfl
def oI (l:List Nat)(x:Nat):Nat:=l.foldr (fun c a=>c+x*a) 0
theorem Qeq {q a b:Nat}(hq:2≤q)(hq2:q≤1048575)(ha:a<q)(hb:b<q):wQ (bn q) [bn a,bn b]=some (bn (a*b%q)):=by
 unfold wQ;have hab:a*b<18446744073709551616:=rB (oC (nV ha) (nV hb)) (by have:=oC hq2 hq2;omega);rw[show aI=18446744073709551613+1+1+1 from rfl,dW];simp only[F9];rw[aG bW,show bJ [bn a,bn b] 0=some (bn a) from rfl,aJ,show(1#64)=bn 1 from rfl,vK,nY,lL aQ aQ aQ,aJ,fA ha,show aT (0+1)=1 from by decide,dW];simp only[F9];rw[aG bW,show bJ [bn a,bn b] 1=some (bn b) from rfl,aJ,vK,lL hab aQ aQ,aJ,show aT (1+1)=2 from by decide,dW];simp only[F9];rw[aH bW]
theorem Qi3 (l:List (BitVec 64))(hl:l.length<4611686018427387904):∀ (k f:Nat),k≤l.length→k<f→aC (C6 l) f ((k:Int)-1)=some ((List.range k).reverse.map fun i:Nat=>((i:Int),l.getD i 0#64))
 | k,0,_,h=>by omega
 | 0,f+1,_,_=>by
  rw[dW];simp only[C6];rw[aH aQ];rfl
 | k+1,f+1,hk,hf=>by
  rw[dW];simp only[C6];rw[show((k+1:Nat):Int)-1=(k:Int) from by omega,aG aQ,cF aQ,aJ,dR aQ aQ,Qi3 l hl k f aQ aQ,Qri,W7,List.reverse_append,qB];have hkk:k<l.length:=by omega
  simp[hkk]
theorem Qi0 {q x:Nat}(hq:2≤q)(hq2:q≤1048575)(hx:x<q)(l:List Nat)(hl:∀ c∈l,c<q):∀ (k:Nat),k≤l.length→fU (Jh (bn q) (bn x)) Tu ((List.range k).reverse.map fun i:Nat=>((i:Int),(l.map bn).getD i 0#64)) (bn (oI (l.drop k) x%q))=some (bn (oI l x%q))
 | 0,_=>by rw[kA];rfl
 | k+1,hk=>by
  have hkl:k<l.length:=by omega
  rw[W7,List.reverse_append,qB,show([k].reverse.map fun i:Nat=>((i:Int),(l.map bn).getD i 0#64))=[((k:Int),bn l[k])] from by simp[List.getD,hkl],List.singleton_append,sJ];simp only[Jh];have hc:=hl _ (jJ hkl);have hm:=fR (oI (l.drop (k+1)) x) (show 0<q by omega);have hm2:=fR (oI (l.drop (k+1)) x%q*x) (show 0<q by omega);rw[Qeq hq hq2 hm hx,aJ,O0,lL aQ aQ aQ,aJ]
  have he:(oI (l.drop (k+1)) x%q*x%q+l[k])%q=oI (l.drop k) x%q:=by
   rw[nZ hkl,show oI (l[k]::l.drop (k+1)) x=l[k]+x*oI (l.drop (k+1)) x from rfl,Qb7,Nat.mod_add_mod,yC,eZ]
  rw[he];exact Qi0 hq hq2 hx l hl k aQ
theorem Qhz {q x:Nat}(hq:2≤q)(hq2:q≤1048575)(hx:x<q)(l:List Nat)(hl:∀ c∈l,c<q)(hlen:l.length<4611686018427387904):Jg (l.map bn) (bn q) (bn x)=some (bn (oI l x%q)):=by
 unfold Jg Ah Ag;rw[aJ,dR (by rw[fJ];omega) (by rw[fJ];omega),Qi3 _ (by rw[fJ];exact hlen) _ aI (eO _) (fQ (by rw[fJ];omega)),aJ,fJ];have:=Qi0 hq hq2 hx l hl l.length (eO _);rw[tX,show oI [] x%q=0 from by simp[oI]] at this;exact this
end Go.Sx.Po

end
section
noncomputable section
namespace Go.Sx.Ep
open Go Go.Sx
theorem O2 (s:bX):vH s=some (if gQ s then 0 else 30)∧Qos s=some (if gQ s then 0 else 30):=by
 unfold vH Qos;constructor
 · rw[Ni,aJ];cases hv:gQ s<;>rfl
 · rw[Go.Sx.J4,aJ];cases hv:gQ s<;>rfl
theorem Qmo (k:BitVec 8):(k<1#8∨(5:Int)≤aO k)∨((aO k=1∨aO k=2∨aO k=3)∧1#8≤k∧k≤3#8∧k≠4#8∧¬ k<1#8∧¬ (5:Int)≤aO k)∨(k=4#8∧aO k=4∧¬ (aO k=1∨aO k=2∨aO k=3)):=by
 unfold aO;have h4:k=4#8↔k.toNat=4:=⟨fun h=>by rw[h];rfl,fun h=>jW h⟩;rw[pN,yG,yG,ne_eq,h4];have e1:(1#8).toNat=1:=rfl;have e3:(3#8).toNat=3:=rfl;rw[e1,e3];omega
end Go.Sx.Ep

end
section
namespace Go.Sx
open Go
theorem iZ {w v:Nat}(hw:1≤w):cI w v=true↔∃ k,2^k≤w∧v=w / 2^k:=by
 constructor
 · intro h;unfold cI at h;obtain⟨h1,h2⟩:=iX h;exact⟨_,eK (fD aQ aQ) (Ys aQ),h2.symm⟩
 · rintro⟨k,h1,rfl⟩;unfold cI;have h2:=Qel h1;have h3:=kW w k h1;apply cS;refine⟨aQ,?_⟩;rw[h2,show Nat.log2 w-(Nat.log2 w-k)=k from by omega]
theorem Qi7 {w:Nat}(hw:1≤w):cI w w=true:=(iZ hw).2 ⟨0,by simpa using hw,by simp⟩
theorem Qi6 {w v:Nat}(hw:1≤w)(h:cI w v=true):1≤v:=by
 obtain⟨k,h1,rfl⟩:=(iZ hw).1 h;exact tS h1
theorem xU {w i j:Nat}(h:2^(i+j)≤w):2^j≤w / 2^i:=by
 rw[yA (fI i),←kO,yC];exact h
theorem Uh {w i j:Nat}(h:2^j≤w / 2^i):2^(i+j)≤w:=by
 rw[yA (fI i),←kO,yC] at h;exact h
theorem Yz {a b c:Nat}(ha:1≤a)(h1:cI a b=true)(h2:cI b c=true):cI a c=true:=by
 have hb:=Qi6 ha h1;obtain⟨i,p1,rfl⟩:=(iZ ha).1 h1;obtain⟨j,p2,rfl⟩:=(iZ hb).1 h2;exact(iZ ha).2 ⟨i+j,Uh p2,by rw[iB,←kO]⟩
theorem Ff {w v:Nat}(hw:1≤w)(h:cI w v=true):Nat.log2 v≤Nat.log2 w:=by
 unfold cI at h;exact(iX h).1
theorem I6 {a b c:Nat}(ha:1≤a)(h1:cI a b=true)(h2:cI a c=true)(he:Nat.log2 b=Nat.log2 c):b=c:=by
 unfold cI at h1 h2;have p1:=(iX h1).2;have p2:=(iX h2).2;rw[he] at p1;rw[←p1,p2]
theorem Ko:∀ n:Fin 128,(n.1 ^^^ 1) / 2=n.1 / 2∧n.1 ^^^ 1≠n.1∧n.1 ^^^ 1<128∧(2≤n.1→Nat.log2 (n.1 ^^^ 1)=Nat.log2 n.1∧2≤n.1 ^^^ 1)∧n.1 ^^^ 1 ^^^ 1=n.1:=by decide +kernel
theorem Xg1:∀ n:Fin 128,∀ b:Fin 2,(2*(n.1 / 2)+b.1=n.1∨2*(n.1 / 2)+b.1=n.1 ^^^ 1):=by decide +kernel
theorem Xg0 {a b:Nat}(hb:b<128)(h:a / 2=b / 2)(hne:a≠b):a=b ^^^ 1:=by
 have:=Xg1 ⟨b,hb⟩ ⟨a%2,fR _ aQ⟩;have h2:2*(b / 2)+a%2=a:=by rw[←h];omega
 simp only[h2] at this;rcases this with h3|h3
 · exact absurd h3 hne
 · exact h3
theorem Ae {n:Nat}(h:n<128):(n ^^^ 1) / 2=n / 2:=(Ko ⟨n,h⟩).1
theorem Qgi {n:Nat}(h:n<128):n ^^^ 1≠n:=(Ko ⟨n,h⟩).2.1
theorem Qgh {n:Nat}(h:n<128):n ^^^ 1<128:=(Ko ⟨n,h⟩).2.2.1
theorem Af {n:Nat}(h:n<128)(h2:2≤n):Nat.log2 (n ^^^ 1)=Nat.log2 n:=((Ko ⟨n,h⟩).2.2.2.1 h2).1
theorem Nc {n:Nat}(h:n<128)(h2:2≤n):2≤n ^^^ 1:=((Ko ⟨n,h⟩).2.2.2.1 h2).2
theorem Qgj {n:Nat}(h:n<128):n ^^^ 1 ^^^ 1=n:=(Ko ⟨n,h⟩).2.2.2.2
theorem Qsi {n:Nat}(h:n<128):I9 .xor (n:Int) 1=((n ^^^ 1:Nat):Int):=by
 have:∀ n:Fin 128,I9 .xor (n.1:Int) 1=((n.1 ^^^ 1:Nat):Int):=by decide +kernel
 exact this ⟨n,h⟩
theorem xB {w k n:Nat}:n∈fC w k↔∃ j,j<k∧n=w / 2^j:=by
 induction k with
 | zero=>simp[fC]
 | succ k ih=>
  rw[fC,gW,ih];constructor
  · rintro(rfl|⟨j,hj,rfl⟩)
    · exact⟨k,aQ,rfl⟩
    · exact⟨j,aQ,rfl⟩
  · rintro⟨j,hj,rfl⟩;rcases jG j k with h|h
    · exact .inr ⟨j,h,rfl⟩
    · obtain rfl:j=k:=by omega
      exact .inl rfl
theorem Qed {k:BitVec 8}{d leaf:Nat}{x:Nat × Nat}:∀ {j:Nat},x∈Px k d leaf j↔∃ i t,i<j∧t≤i∧x=(leaf / 2^(i+1),(leaf / 2^t) ^^^ 1)∧kQ k d x.1 x.2=true
 | 0=>by simp[Px]
 | j+1=>by
  rw[Px,nO,Qed,fP];constructor
  · rintro(⟨p,hp,rfl⟩|⟨i,t,h1,h2,h3⟩)
    · rw[yB,xB] at hp;obtain⟨⟨t,ht,rfl⟩,hs⟩:=hp;exact⟨j,t,aQ,aQ,rfl,hs⟩
    · exact⟨i,t,aQ,h2,h3⟩
  · rintro⟨i,t,h1,h2,rfl,h4⟩;rcases jG i j with h|h
    · exact .inr ⟨i,t,h,h2,rfl,h4⟩
    · obtain rfl:i=j:=by omega
      exact .inl ⟨_,yB.2 ⟨xB.2 ⟨t,aQ,rfl⟩,h4⟩,rfl⟩
theorem Qdy {d:Nat}{l:List Nat}(hl:∀ n∈l,1≤n):nL d l=0↔∀ n∈l,lR d n=false:=by
 unfold nL
 cases h:l.find? (lR d) with
 | none=>
  rw[Lz] at h;exact⟨fun _ n hn=>by simpa using h n hn,fun _=>rfl⟩
 | some a=>
  have h1:=Sa h;have h2:=A3 h;constructor
  · intro h0;simp at h0;have:=hl a h2;omega
  · intro h0;rw[h0 a h2] at h1;cases h1
theorem Xgx {k:BitVec 8}{d n m i K:Nat}(hm:m<128)(hK:2^K≤m)(hn:n=m / 2^K)(hi:i<K)(h:kQ k d n m=true):kQ k d n (m / 2^i)=true:=by
 unfold kQ at h ⊢;simp only[nX,fT] at h ⊢;rcases h with h|h
 · exact .inl h
 · refine .inr ?_;have hi2:2^i≤m:=eK (fD aQ aQ) hK;have l1:=kW m K hK;have l2:=kW m i hi2;rw[←hn] at l1
   have hp:∀ a b,b+1≤Nat.log2 a→1≤a→∀ x∈fC (a / 2) b,1≤x:=by
    intro a b hb ha x hx;obtain⟨j,hj,rfl⟩:=xB.1 hx;rw[iB,show 2*2^j=2^(j+1) from by rw[eS,eZ]];exact tS ((A6 aQ).1 aQ)
   rw[Qdy (hp _ _ aQ (by have:=fI K;omega))] at h;rw[Qdy (hp _ _ aQ (tS hi2))];intro x hx;obtain⟨j,hj,rfl⟩:=xB.1 hx;refine h _ (xB.2 ⟨i+j,aQ,?_⟩);rw[iB,iB,iB,kO];congr 1;exact Qb8 _ _ _
theorem Qo3 {f g:Nat→Nat}:∀ (k:Nat),f 0=g 0→f k≠g k→∃ i,i<k∧f i=g i∧f (i+1)≠g (i+1)
 | 0,h,hk=>absurd h hk
 | k+1,h,hk=>by
  by_cases hk':f k=g k
  · exact⟨k,aQ,hk',hk⟩
  · obtain⟨i,h1,h2⟩:=Qo3 k h hk';exact⟨i,aQ,h2⟩
theorem Xd8 {leaf n m K k d:Nat}(hl:leaf<128)(hK:2^K≤leaf)(hn:n=leaf / 2^K)(hk:2^(k+1)≤m)(hm:m<128)(hn2:n=m / 2^(k+1))(hle:Nat.log2 m≤Nat.log2 leaf)(hnb:cI leaf m=false):
 ∃ t i,t<K∧i≤k∧(leaf / 2^t) ^^^ 1=m / 2^i:=by
 have lp:1≤leaf:=by have:=fI K;omega
 have l1:=kW leaf K hK;have l2:=kW m (k+1) hk;rw[←hn] at l1;rw[←hn2] at l2;have hKk:k+1≤K:=by omega
 obtain⟨i,hi,e1,e2⟩:=Qo3 (f:=fun i=>m / 2^(k+1-i)) (g:=fun i=>leaf / 2^(K-i)) (k+1) (by simp only[I1];rw[←hn,←hn2]) (by
  simp only[Nat.sub_self,pR,yU];intro e;have:cI leaf m=true:=(iZ lp).2 ⟨K-(k+1),eK (fD aQ aQ) hK,e⟩
  rw[this] at hnb;cases hnb)
 refine⟨K-(i+1),k+1-(i+1),aQ,aQ,?_⟩;have hh:∀ a b,a / 2^(b+1)=a / 2^b / 2:=fun a b=>by rw[eS,iB]
 have e3:m / 2^(k+1-(i+1)) / 2=leaf / 2^(K-(i+1)) / 2:=by
  rw[←hh,←hh,show k+1-(i+1)+1=k+1-i from by omega,show K-(i+1)+1=K-i from by omega];exact e1
 exact(Xg0 (rB (rF _ _) hl) e3 e2).symm
def oD (k:BitVec 8)(n m:Nat)(a:Nat × Nat):Bool:=if k=1#8∨m=0 then decide (a.1=n∧a.2=m) else decide (a.1=n∧1≤a.2)&&cI a.2 n&&cI m a.2
def lB (k:BitVec 8)(d n m:Nat):Bool:=
 decide (1≤n∧n<2^(d+1))&&(if k=1#8 then decide (m=0) else if m=0 then decide (n=1) else decide (m<2^(d+1)∧m≠n)&&cI m n&&kQ k d n m)
theorem Py {d u:Nat}(hu:u<2^d):Nat.log2 (2^d+u)=d:=by
 rw[Nat.log2_eq_iff (by have:=fI d;omega),eS];omega
theorem L0 {d n:Nat}(h1:1≤n)(h:n<2^(d+1)):Nat.log2 n≤d:=by
 have:=(oQ (n:=n) (k:=d+1) aQ).2 h;omega
theorem Xb0 {k:BitVec 8}{d u n m:Nat}(hd:d≤6)(hu:u<2^d)(h:lB k d n m=true):(jY k d u).any (oD k n m)=jU (2^d+u) n m:=by
 have h64:=iG hd;have hp:=fI d;have hlog:=Py hu;have hpow:2^(d+1)=2*2^d:=by rw[eS,eZ]
 have lp:1≤2^d+u:=by omega
 unfold lB at h;simp only[fM,fT] at h;obtain⟨⟨hn1,hn2⟩,h⟩:=h
 have anc:cI (2^d+u) n=true↔n=1∨n∈fC (2^d+u) d:=by
  rw[iZ lp,xB];constructor
  · rintro⟨j,h1,rfl⟩;have hj:j≤d:=by have:=kW _ _ h1;omega
    rcases jG j d with hj2|hj2
    · exact .inr ⟨j,hj2,rfl⟩
    · obtain rfl:j=d:=by omega
      left;rw[W8 _ hp,pF hu]
  · rintro(rfl|⟨j,hj,rfl⟩)
    · exact⟨d,aQ,by rw[W8 _ hp,pF hu]⟩
    · exact⟨j,eK (fD aQ aQ) (yE _ _),rfl⟩
 by_cases hk:k=1#8
 · rw[aG hk,fT] at h;subst h;unfold jU jY;rw[aG hk,cS rfl,Lw,Lv,V6,anc,List.any_cons,nX,List.any_map,yF];unfold oD;simp only[hk,true_or,lU,fT,Function.comp,and_true];constructor
   · rintro(h|⟨x,hx,rfl⟩)
     · exact .inl h.symm
     · exact .inr hx
   · rintro(h|h)
     · exact .inl h.symm
     · exact .inr ⟨n,h,rfl⟩
 · rw[aH hk] at h;by_cases hm:m=0
   · rw[aG hm,fT] at h;subst hm;subst h;unfold jU;rw[cS rfl,Lw,Lv,anc.2 (.inl rfl),yF];exact⟨(1,0),by simp[jY],by simp[oD]⟩
   · rw[aH hm] at h;simp only[fM,fT] at h;obtain⟨⟨⟨hm2,hne⟩,hb⟩,hs⟩:=h;have hm1:1≤m:=by omega
     obtain⟨j,hj1,hj2,hj3⟩:=I7 hm1 hn1 hb hne;have hlm:=L0 hm1 hm2;unfold jU;rw[cJ hm,yN,V6,yF,fM,sO]
     have hld:∀ a,oD k n m a=true↔(a.1=n∧1≤a.2)∧cI a.2 n=true∧cI m a.2=true:=fun a=>by
      unfold oD;rw[aH (by simp[hk,hm])];simp only[fM,fT,and_assoc]
     constructor
     · rintro⟨a,ha,hl⟩;obtain⟨⟨e1,e2⟩,e3,e4⟩:=(hld a).1 hl;unfold jY at ha;rw[aH hk] at ha;rcases gW.1 ha with rfl|ha
       · simp at e2
       · obtain⟨i,t,h1,h2,h3,_⟩:=Qed.1 ha;rw[h3] at e1 e2 e3 e4;simp only at e1 e2 e3 e4;have hi2:2^(i+1)≤2^d+u:=eK (fD aQ aQ) (yE _ _);have ht2:2^t≤2^d+u:=eK (fD aQ aQ) (yE _ _);refine⟨(iZ lp).2 ⟨i+1,hi2,e1.symm⟩,?_⟩
         cases hc:cI (2^d+u) m with
         | false=>rfl
         | true=>
          exfalso;have dX:(2^d+u) / 2^t<128:=rB (rF _ _) aQ;have lt1:=kW _ _ ht2
          have hp2:2≤(2^d+u) / 2^t:=by
           have hq:2^(t+1)≤2^d+u:=eK (fD aQ aQ) hi2;have:=xU (i:=t) (j:=1) hq;simpa using this
          have h5:=Yz lp hc e4;have h6:cI (2^d+u) ((2^d+u) / 2^t)=true:=(iZ lp).2 ⟨t,ht2,rfl⟩;exact Qgi dX (I6 lp h5 h6 (Af dX hp2))
     · rintro⟨h1,h2⟩;obtain⟨K,hK1,hK2⟩:=(iZ lp).1 h1;obtain⟨t,i,ht,hi,e⟩:=Xd8 (d:=d) aQ hK1 hK2 hj3 aQ hj2 aQ h2;have hKd:=kW _ _ hK1;have hi2:2^i≤m:=eK (fD aQ aQ) hj3;refine⟨(n,m / 2^i),?_,(hld _).2 ⟨⟨rfl,tS hi2⟩,?_,(iZ hm1).2 ⟨i,hi2,rfl⟩⟩⟩
       · unfold jY;rw[aH hk];refine pS _ (Qed.2 ⟨K-1,t,aQ,aQ,?_,Xgx aQ hj3 hj2 aQ hs⟩);rw[show K-1+1=K from by omega,←hK2,e]
       · refine(iZ (tS hi2)).2 ⟨j+1-i,?_,?_⟩
         · exact xU (by rw[show i+(j+1-i)=j+1 from by omega];exact hj3)
         · rw[iB,←kO,show i+(j+1-i)=j+1 from by omega];exact hj2
end Go.Sx

end
section
namespace Go.Sx
open Go
def dF (d:Nat)(R:List Nat)(v:Nat):Bool:=R.any fun u=>cI (2^d+u) v
theorem vR {d:Nat}{R:List Nat}{v:Nat}:dF d R v=true↔∃ u∈R,cI (2^d+u) v=true:=by unfold dF;rw[yF]
theorem Qjb:∀ n:Fin 64,(2*n.1) ^^^ 1=2*n.1+1∧(2*n.1+1) ^^^ 1=2*n.1:=by decide +kernel
theorem Hf {n:Nat}(h:n<64):(2*n) ^^^ 1=2*n+1:=(Qjb ⟨n,h⟩).1
theorem Hg {n:Nat}(h:n<64):(2*n+1) ^^^ 1=2*n:=(Qjb ⟨n,h⟩).2
theorem wI (a b:Nat):a / 2^(b+1)=a / 2^b / 2:=by rw[eS,iB]
theorem Qbp {L v:Nat}(hL:1≤L)(dX:Nat.log2 v<Nat.log2 L)(hv:1≤v):cI L v=(cI L (2*v)||cI L (2*v+1)):=by
 rw[V6,nX,iZ hL,iZ hL,iZ hL];constructor
 · rintro⟨k,h1,h2⟩;have hl:=kW L k h1;rw[←h2] at hl;obtain⟨j,rfl⟩:∃ j,k=j+1:=⟨k-1,aQ⟩;have h3:2^j≤L:=eK (fD aQ aQ) h1;rw[wI] at h2;rcases(show L / 2^j=2*v∨L / 2^j=2*v+1 by omega) with e|e
   · exact .inl ⟨j,h3,e.symm⟩
   · exact .inr ⟨j,h3,e.symm⟩
 · rintro(⟨j,h1,h2⟩|⟨j,h1,h2⟩)
   · exact⟨j+1,Uh (j:=1) (by rw[←h2];omega),by rw[wI,←h2];omega⟩
   · exact⟨j+1,Uh (j:=1) (by rw[←h2];omega),by rw[wI,←h2];omega⟩
theorem Xv {v b:Nat}(hv:1≤v)(hb:b<2):Nat.log2 (2*v+b)=Nat.log2 v+1:=by
 rw[sH aQ,show(2*v+b) / 2=v from by omega]
section
variable {d:Nat} {R:List Nat}
def jQ (d:Nat)(R:List Nat):Prop:=d≤6∧∀ u∈R,u<2^d
theorem jQ.leaf (h:jQ d R){u:Nat}(hu:u∈R):1≤2^d+u∧2^d+u<128∧Nat.log2 (2^d+u)=d:=by
 have:=iG h.1;have:=h.2 u hu;have:=fI d;exact⟨aQ,aQ,Py (h.2 u hu)⟩
theorem Xbx {v:Nat}(hv:1≤v):v<2^d↔Nat.log2 v<d:=by rw[oQ aQ]
theorem Cz (h:jQ d R){v:Nat}(hv:1≤v)(hl:Nat.log2 v<d):dF d R v=(dF d R (2*v)||dF d R (2*v+1)):=by
 rw[V6,nX,vR,vR,vR];constructor
 · rintro⟨u,hu,hb⟩;obtain⟨h1,h2,h3⟩:=h.leaf hu;rw[Qbp h1 aQ hv,nX] at hb;rcases hb with hb|hb
   · exact .inl ⟨u,hu,hb⟩
   · exact .inr ⟨u,hu,hb⟩
 · rintro(⟨u,hu,hb⟩|⟨u,hu,hb⟩) <;>
   · obtain⟨h1,h2,h3⟩:=h.leaf hu;refine⟨u,hu,?_⟩;rw[Qbp h1 aQ hv,hb];simp
theorem sZ (h:jQ d R){v:Nat}(hv:dF d R v=true):1≤v∧Nat.log2 v≤d∧v<2^(d+1):=by
 obtain⟨u,hu,hb⟩:=vR.1 hv;obtain⟨h1,h2,h3⟩:=h.leaf hu;have hp:=Qi6 h1 hb;have hl:=Ff h1 hb;rw[h3] at hl;exact⟨hp,hl,(oQ aQ).1 aQ⟩
theorem Qe5 (h:jQ d R){v:Nat}(hv:dF d R v=true)(h2:2≤v):dF d R (v / 2)=true:=by
 obtain⟨h1,hl,_⟩:=sZ h hv;have hh:=sH h2;rw[Cz h aQ aQ];rcases(show 2*(v / 2)=v∨2*(v / 2)+1=v by omega) with e|e
 · rw[e,hv];simp
 · rw[e,hv];simp
theorem Pq (h:jQ d R){v:Nat}(hv:dF d R v=true):∀ k,2^k≤v→dF d R (v / 2^k)=true
 | 0,_=>by simpa using hv
 | k+1,hk=>by
  rw[wI];have h1:2^k≤v:=eK (fD aQ aQ) hk;refine Qe5 h (Pq h hv k h1) ?_;have:=xU (i:=k) (j:=1) hk;simpa using this
def tP (d:Nat)(R:List Nat)(v:Nat):Bool:=dF d R (2*v) != dF d R (2*v+1)
def nF (d:Nat)(R:List Nat)(v:Nat):Nat:=if dF d R (2*v) then 2*v else 2*v+1
def eW (d:Nat)(R:List Nat):Nat→Nat→Nat
 | 0,v=>v
 | f+1,v=>if tP d R v then eW d R f (nF d R v) else v
theorem Qic (h:jQ d R){v:Nat}(hv:1≤v)(hb:tP d R v=true):Nat.log2 v<d∧dF d R v=true:=by
 unfold tP at hb
 have hx:dF d R (2*v)=true∨dF d R (2*v+1)=true:=by
  cases h1:dF d R (2*v)<;>cases h2:dF d R (2*v+1)<;>simp_all
 have hl:Nat.log2 v<d:=by
  rcases hx with hx|hx
  · have:=(sZ h hx).2.1;have:=Xv hv (b:=0) aQ;simp at this;omega
  · have:=(sZ h hx).2.1;have:=Xv hv (b:=1) aQ;omega
 refine⟨hl,?_⟩;rw[Cz h hv hl];rcases hx with hx|hx<;>simp[hx]
def Chn (d:Nat)(R:List Nat)(v w:Nat):Prop:=∃ k,2^k≤w∧v=w / 2^k∧∀ j,j<k→dF d R (w / 2^j)=true∧dF d R ((w / 2^j) ^^^ 1)=false
theorem zU (h:jQ d R):∀ (f v:Nat),1≤v→Nat.log2 v≤d→d-Nat.log2 v<f→1≤eW d R f v∧Nat.log2 (eW d R f v)≤d∧tP d R (eW d R f v)=false∧Chn d R v (eW d R f v)
 | 0,v,_,_,hf=>by omega
 | f+1,v,hv,hl,hf=>by
  unfold eW
  cases hb:tP d R v with
  | false=>exact⟨by simpa using hv,by simpa using hl,by simpa using hb,⟨0,by simpa using hv,by simp,fun j hj=>by omega⟩⟩
  | true=>
   rw[aG rfl];obtain⟨hl2,_⟩:=Qic h hv hb;have h64:=iG h.1;have hv64:v<64:=by have:=(Xbx (d:=d) hv).2 hl2;omega
   have hc:(nF d R v) / 2=v∧2≤nF d R v∧Nat.log2 (nF d R v)=Nat.log2 v+1∧dF d R (nF d R v)=true∧dF d R (nF d R v ^^^ 1)=false:=by
    unfold nF;unfold tP at hb
    cases h1:dF d R (2*v) with
    | true=>
     rw[h1] at hb;rw[aG rfl];refine⟨aQ,aQ,Xv hv (b:=0) aQ,h1,?_⟩;rw[Hf hv64];simpa using hb
    | false=>
     rw[h1] at hb;rw[aH bW];refine⟨aQ,aQ,Xv hv (b:=1) aQ,by simpa using hb,?_⟩;rw[Hg hv64];exact h1
   obtain⟨c1,c2,c3,c4,c5⟩:=hc;obtain⟨g1,g2,g3,k,g4,g5,g6⟩:=zU h f (nF d R v) aQ aQ aQ;refine⟨g1,g2,g3,k+1,?_,?_,?_⟩
   · exact Uh (j:=1) (by rw[←g5];omega)
   · rw[wI,←g5];exact c1.symm
   · intro j hj;rcases jG j k with hjk|hjk
     · exact g6 j hjk
     · obtain rfl:j=k:=by omega
       rw[←g5];exact⟨c4,c5⟩
def eY (d:Nat)(R:List Nat):Nat→Nat→Nat
 | 0,x=>x
 | f+1,x=>if x=1∨dF d R (x ^^^ 1)=true then x else eY d R f (x / 2)
def oP (d:Nat)(R:List Nat)(v:Nat):Bool:=decide (v=1)||dF d R (v ^^^ 1)
theorem Qly {f x:Nat}(h:oP d R x=true):eY d R f x=x:=by
 cases f with
 | zero=>rfl
 | succ f=>
  unfold eY;unfold oP at h;rw[nX,fT] at h;rw[aG h]
theorem Qe1 {v w:Nat}(hv:oP d R v=true)(hv1:1≤v):∀ (j k f:Nat),2^(j+k)≤w→v=w / 2^(j+k)→(∀ i,j≤i→i<j+k→dF d R ((w / 2^i) ^^^ 1)=false)→k≤f→eY d R f (w / 2^j)=v
 | j,0,f,h1,h2,_,_=>by rw[tV] at h2;rw[←h2];exact Qly hv
 | j,k+1,0,h1,h2,h3,hf=>by omega
 | j,k+1,f+1,h1,h2,h3,hf=>by
  unfold eY;have h4:=h3 j aQ aQ
  have h5:w / 2^j≠1:=by
   have:=xU (w:=w) (i:=j) (j:=1) (eK (fD aQ aQ) h1);simp at this;omega
  rw[aH (by rw[h4];simp[h5]),←wI];exact Qe1 hv hv1 (j+1) k f (by rw[show j+1+k=j+(k+1) from by omega];exact h1) (by rw[show j+1+k=j+(k+1) from by omega];exact h2) (fun i h6 h7=>h3 i aQ aQ) aQ
theorem Xo:∀ (f x:Nat),1≤x→Nat.log2 x<f→oP d R (eY d R f x)=true∧∃ i,2^i≤x∧eY d R f x=x / 2^i∧∀ t,t<i→oP d R (x / 2^t)=false
 | 0,x,_,h=>by omega
 | f+1,x,hx,hf=>by
  unfold eY;by_cases hc:x=1∨dF d R (x ^^^ 1)=true
  · rw[aG hc];exact⟨by unfold oP;simpa using hc,0,by simpa using hx,by simp,fun t ht=>by omega⟩
  · rw[aH hc];have hx2:2≤x:=by rw[not_or] at hc;omega
    have hh:=sH hx2;obtain⟨h1,i,h2,h3,h4⟩:=Xo f (x / 2) aQ aQ;refine⟨h1,i+1,?_,?_,?_⟩
    · rw[eS];omega
    · rw[h3,iB,eS,eZ 2]
    · intro t ht
      cases t with
      | zero=>simp only[pR,yU];unfold oP;simpa[not_or] using hc
      | succ t=>
       have:=h4 t aQ;rw[iB,show 2*2^t=2^(t+1) from by rw[eS,eZ]] at this;exact this
def iR (d v w:Nat):Nat:=nL d (fC (w / 2) (Nat.log2 w-Nat.log2 v-1))
def N8 (k:BitVec 8)(d:Nat)(R:List Nat)(x:Nat):Option Nat:=
 if k=1#8 then(if !dF d R x&&(decide (x=1)||dF d R (x / 2)) then some 0 else none)
 else if dF d R x then
  (if eW d R 7 (eY d R 7 x)=eY d R 7 x then none
  else if x=eY d R 7 x then some (if kQ k d (eY d R 7 x) (eW d R 7 (eY d R 7 x)) then eW d R 7 (eY d R 7 x) else iR d (eY d R 7 x) (eW d R 7 (eY d R 7 x)))
  else if !kQ k d (eY d R 7 x) (eW d R 7 (eY d R 7 x))&&decide (x=iR d (eY d R 7 x) (eW d R 7 (eY d R 7 x))) then some (eW d R 7 (eY d R 7 x)) else none)
 else none
def Xy (d:Nat):List Nat:=(List.range (2^(d+1)-1)).map (· + 1)
def iS (k:BitVec 8)(d:Nat)(R:List Nat):List (Nat × Nat):=(Xy d).filterMap fun x=>(N8 k d R x).map fun m=>(x,m)
theorem Qnd {x:Nat}:x∈Xy d↔1≤x∧x<2^(d+1):=by
 unfold Xy;rw[fP];constructor
 · rintro⟨a,ha,rfl⟩;have:=tJ.1 ha;omega
 · rintro⟨h1,h2⟩;exact⟨x-1,tJ.2 aQ,aQ⟩
theorem P1 {k:BitVec 8}{y:Nat × Nat}:y∈iS k d R↔(1≤y.1∧y.1<2^(d+1))∧N8 k d R y.1=some y.2:=by
 unfold iS;rw[List.mem_filterMap];constructor
 · rintro⟨x,hx,he⟩;obtain⟨m,hm,rfl⟩:=Qbc.1 he;exact⟨Qnd.1 hx,hm⟩
 · rintro⟨h1,h2⟩;exact⟨y.1,Qnd.2 h1,by rw[h2];rfl⟩
def yH (l:List (Nat × Nat)):Prop:=l.Pairwise fun a b=>a.1<b.1
theorem Qc3 {k:BitVec 8}:yH (iS k d R):=by
 unfold yH iS;rw[List.pairwise_filterMap]
 have:(Xy d).Pairwise fun a b=>a<b:=by
  unfold Xy;rw[uI];exact List.pairwise_lt_range.imp aQ
 refine this.imp ?_;intro a b hab y hy z hz;obtain⟨_,_,rfl⟩:=Qbc.1 hy;obtain⟨_,_,rfl⟩:=Qbc.1 hz;exact hab
theorem Qhy:∀ {l m:List (Nat × Nat)},yH l→yH m→(∀ y,y∈l↔y∈m)→l=m
 | [],[],_,_,_=>rfl
 | [],b::m,_,_,h=>absurd ((h b).2 bW) bW
 | a::l,[],_,_,h=>absurd ((h a).1 bW) bW
 | a::l,b::m,hl,hm,h=>by
  have ha:=Yo.1 hl;have hb:=Yo.1 hm
  have hab:a=b:=by
   rcases gW.1 ((h a).1 bW) with e|e
   · exact e
   · rcases gW.1 ((h b).2 bW) with e2|e2
     · exact e2.symm
     · have:=ha.1 b e2;have:=hb.1 a e;omega
  subst hab;congr 1;refine Qhy ha.2 hb.2 fun y=>?_;constructor
  · intro hy;rcases gW.1 ((h y).1 (by simp[hy])) with e|e
    · subst e;have:=ha.1 y hy;omega
    · exact e
  · intro hy;rcases gW.1 ((h y).2 (by simp[hy])) with e|e
    · subst e;have:=hb.1 y hy;omega
    · exact e
def pV (k:BitVec 8)(d:Nat)(R:List Nat)(v:Nat):List (Nat × Nat):=
 if k=1#8 then(if v≠1∧dF d R (v ^^^ 1)=false then[(v ^^^ 1,0)] else[])
 else if oP d R v then(if eW d R 7 v=v then[] else if kQ k d v (eW d R 7 v) then[(v,eW d R 7 v)] else[(v,iR d v (eW d R 7 v)),(iR d v (eW d R 7 v),eW d R 7 v)])
 else[]
def lJ (k:BitVec 8)(d:Nat)(R:List Nat)(y:Nat × Nat):Nat:=if k=1#8 then y.1 ^^^ 1 else eY d R 7 y.1
theorem Ba {k:BitVec 8}{v w:Nat}(hK:2^k.toNat≤w∨True){K:Nat}(h1:2^K≤w)(h2:v=w / 2^K)(hv:1≤v)(hs:kQ k d v w=false):∃ j,1≤j∧j<K∧iR d v w=w / 2^j:=by
 have hl:=kW w K h1;rw[←h2] at hl;unfold kQ at hs;simp only[Qac,I2] at hs;have h0:iR d v w≠0:=hs.2;unfold iR at h0 ⊢;unfold nL at h0 ⊢
 cases hf:(fC (w / 2) (Nat.log2 w-Nat.log2 v-1)).find? (lR d) with
 | none=>rw[hf] at h0;simp at h0
 | some c=>
  obtain⟨j,hj,rfl⟩:=xB.1 (A3 hf);refine⟨j+1,aQ,aQ,?_⟩;rw[Fa,iB,show 2*2^j=2^(j+1) from by rw[eS,eZ]]
theorem Rn (h:jQ d R){k:BitVec 8}(hne:R≠[]){v:Nat}(hv:dF d R v=true)(y:Nat × Nat):(y∈iS k d R∧lJ k d R y=v)↔y∈pV k d R v:=by
 have h64:=iG h.1;have hpow:2^(d+1)=2*2^d:=by rw[eS,eZ]
 obtain⟨v1,vl,v2⟩:=sZ h hv;rw[P1];by_cases hk:k=1#8
 · unfold N8 lJ pV;rw[aG hk,aG hk,aG hk]
   have hroot:dF d R 1=true:=by
    obtain⟨u,hu⟩:=Yj R hne;obtain⟨l1,l2,l3⟩:=h.leaf hu;exact vR.2 ⟨u,hu,(iZ l1).2 ⟨d,aQ,by rw[W8 _ (fI d),pF (h.2 u hu)]⟩⟩
   constructor
   · rintro⟨⟨⟨y1,y2⟩,hm⟩,rfl⟩
     split at hm
     · rename_i hc;simp only[fM,sO,nX,fT] at hc;have hy0:y.2=0:=(jB hm).symm;have hyn:y.1≠1:=fun e=>by rw[e] at hc;rw[hroot] at hc;simp at hc
       have hss:=Qgj (n:=y.1) aQ;rw[hss];have hs1:y.1 ^^^ 1≠1:=by have:=Nc (n:=y.1) aQ aQ;omega
       rw[aG ⟨hs1,hc.1⟩];simp only[mY];cases y;simp only at *;rw[hy0]
     · cases hm
   · intro hy
     split at hy
     · rename_i hc;simp only[mY] at hy;subst hy;simp only;have hv2:2≤v:=by omega
       have e1:=Qgh (n:=v) aQ;have e2:=Nc (n:=v) aQ hv2;have e3:=Af (n:=v) aQ hv2;refine⟨⟨⟨aQ,?_⟩,?_⟩,Qgj aQ⟩
       · exact(oQ aQ).1 aQ
       · rw[aG];simp only[fM,sO,nX,fT];refine⟨hc.2,.inr ?_⟩;rw[Ae aQ];exact Qe5 h hv hv2
     · cases hy
 · unfold N8 lJ pV;rw[aH hk,aH hk,aH hk];constructor
   · rintro⟨⟨⟨y1,y2⟩,hm⟩,rfl⟩;have hl7:Nat.log2 y.1<7:=by have:=(oQ (n:=y.1) (k:=d+1) aQ).2 y2;have:=h.1;omega
     rw[aG (Xo 7 y.1 y1 hl7).1];generalize eY d R 7 y.1=v at *;generalize eW d R 7 v=w at *
     split at hm
     · split at hm
       · cases hm
       · rename_i h1 h2;rw[aH h2]
         split at hm
         · rename_i h3;have hm':=jB hm
           split
           · rename_i h4;rw[aG h4] at hm';simp only[mY];cases y;simp only at *;rw[h3,hm']
           · rename_i h4;rw[aH h4] at hm';simp only[gW,nK,vJ];left;cases y;simp only at *;rw[h3,hm']
         · split at hm
           · rename_i h3 h4;simp only[fM,sO,fT] at h4;rw[aH (by rw[h4.1];simp)];simp only[gW,nK,vJ];right;have hm':=jB hm;cases y;simp only at *;rw[←h4.2,hm']
           · cases hm
     · cases hm
   · intro hy
     split at hy
     · rename_i hh;obtain⟨w1,w2,w3,K,w4,w5,w6⟩:=zU h 7 v v1 vl (by have:=h.1;omega);generalize hw:eW d R 7 v=w at *;have hs:eY d R 7 v=v:=Qly hh
       split at hy
       · cases hy
       · rename_i hne2
         split at hy
         · rename_i h4;simp only[mY] at hy;subst hy;simp only[hs,hw,hv,lU,aH hne2,h4];exact⟨⟨⟨v1,v2⟩,trivial⟩,trivial⟩
         · rename_i h4;have h4':kQ k d v w=false:=by simpa using h4
           simp only[gW,nK,vJ] at hy;rcases hy with rfl|rfl
           · simp only[hs,hw,hv,lU,aH hne2,h4',nI,mB];exact⟨⟨⟨v1,v2⟩,trivial⟩,trivial⟩
           · obtain⟨j,j1,j2,j3⟩:=Ba (k:=k) (d:=d) (.inr trivial) w4 w5 v1 h4';have hlw:=kW w K w4;have hKd:K≤6:=by have:=h.1;omega
             have hc:eY d R 7 (iR d v w)=v:=by
              rw[j3];exact Qe1 hh v1 j (K-j) 7 (by rw[show j+(K-j)=K from by omega];exact w4) (by rw[show j+(K-j)=K from by omega];exact w5) (fun i _ hi=>(w6 i aQ).2) aQ
             have hj2:2^j≤w:=eK (fD aQ aQ) w4;have hch:dF d R (iR d v w)=true:=by rw[j3];exact(w6 j j2).1
             have hcv:iR d v w≠v:=by
              rw[j3,w5];exact Bg w4 j2
             obtain⟨c1,_,c3⟩:=sZ h hch;simp only[hc,hw,hch,lU,aH hne2,aH hcv,h4'];simp only[uU,jH,decide_true,lU];exact⟨⟨⟨c1,c3⟩,trivial⟩,trivial⟩
     · cases hy
theorem Qf6 (h:jQ d R){k:BitVec 8}(hne:R≠[]){y:Nat × Nat}(hy:y∈iS k d R):dF d R (lJ k d R y)=true:=by
 have h64:=iG h.1;have hpow:2^(d+1)=2*2^d:=by rw[eS,eZ]
 obtain⟨⟨y1,y2⟩,hm⟩:=P1.1 hy;unfold N8 at hm;unfold lJ;by_cases hk:k=1#8
 · rw[aG hk] at hm ⊢
   split at hm
   · rename_i hc;simp only[fM,sO,nX,fT] at hc
     have hroot:dF d R 1=true:=by
      obtain⟨u,hu⟩:=Yj R hne;obtain⟨l1,l2,l3⟩:=h.leaf hu;exact vR.2 ⟨u,hu,(iZ l1).2 ⟨d,aQ,by rw[W8 _ (fI d),pF (h.2 u hu)]⟩⟩
     have hyn:y.1≠1:=fun e=>by rw[e] at hc;rw[hroot] at hc;simp at hc
     have hp:dF d R (y.1 / 2)=true:=by
      rcases hc.2 with e|e
      · exact absurd e hyn
      · exact e
     have hlg:=sH (n:=y.1) aQ;have hyl:Nat.log2 y.1≤d:=L0 y1 y2;rw[Cz h aQ aQ,nX] at hp;have hz:y.1 / 2<64:=by omega
     rcases(show y.1=2*(y.1 / 2)∨y.1=2*(y.1 / 2)+1 by omega) with e|e
     · have h2:dF d R (2*(y.1 / 2))=false:=by rw[←e];exact hc.1
       have:y.1 ^^^ 1=2*(y.1 / 2)+1:=by rw[←Hf hz,←e]
       rw[this];rw[h2] at hp;simpa using hp
     · have h2:dF d R (2*(y.1 / 2)+1)=false:=by rw[←e];exact hc.1
       have:y.1 ^^^ 1=2*(y.1 / 2):=by rw[←Hg hz,←e]
       rw[this];rw[h2] at hp;simpa using hp
   · cases hm
 · rw[aH hk] at hm ⊢
   split at hm
   · rename_i hx;have hl7:Nat.log2 y.1<7:=by have:=L0 y1 y2;have:=h.1;omega
     obtain⟨_,i,i1,i2,_⟩:=Xo (d:=d) (R:=R) 7 y.1 y1 hl7;rw[i2];exact Pq h hx i i1
   · cases hm
end
end Go.Sx

end
section
namespace Go.Sx
open Go
theorem Qsg {m q:Nat}(hm:1≤m)(h:cI m q=true):∃ k,q=m / 2^k∧2^k≤m:=by
 unfold cI at h;obtain⟨h1,h2⟩:=iX h;exact⟨_,h2.symm,eK (fD aQ aQ) (Ys aQ)⟩
theorem Qm6 {s:bX}{d:Nat}(hv:gQ s=true)(hd:s.Depth=(d:Int))(h6:d≤6)(n m:Nat):uY s ⟨(n:Int),(m:Int)⟩=some (lB s.Kind d n m):=by
 have h64:=iG h6;have hpow:2^(d+1)=2*2^d:=by rw[eS,eZ]
 have hh:∀ a:Nat,pO d (a:Int)=decide (1≤a∧a<2^(d+1)):=fun a=>by
  unfold pO;apply lQ.2;rw[hpow];omega
 unfold uY lB;rw[hd,Xz h6,aJ,hh];by_cases hn:1≤n∧n<2^(d+1)
 · rw[cS hn];simp only[fF,cH,jH];by_cases hk:s.Kind=1#8
   · rw[aG hk,aG hk];congr 1;apply lQ.2;omega
   · rw[aH hk,aH hk];by_cases hm:m=0
     · rw[aG aQ,aG hm];congr 1;apply lQ.2;omega
     · rw[aH aQ,aH hm,Xz h6,aJ,hh];by_cases hm2:m<2^(d+1)
       · rw[cS aQ];simp only[fF,cH];by_cases he:m=n
         · rw[aG aQ,cJ aQ];rfl
         · rw[aH aQ,Um aQ aQ aQ,aJ,cS aQ,jH];unfold R9 kQ
           cases hb:cI m n with
           | false=>rfl
           | true=>
            simp only[fF,cH,jH];by_cases hk2:s.Kind=2#8
            · rw[aG hk2,cS hk2];rfl
            · rw[aH hk2,cJ hk2,yN,hd,Qgc h6 aQ,aJ]
              cases lR d n with
              | true=>rfl
              | false=>
               rw[cH,yN];obtain⟨k,hk0,hk1,hk3⟩:=I7 aQ hn.1 hb he;have hkl:=N6 hk3 aQ;have:=Qi8 (d:=d) (m:=m) (k:=k) h6 aQ hk3 aQ;rw[←hk1] at this;rw[this,aJ,show Nat.log2 m-Nat.log2 n-1=k from by omega];congr 1;apply lQ.2;omega
       · rw[cJ (p:=1≤m∧_) aQ,cJ (p:=m<_∧_) aQ];rfl
 · rw[cJ hn];rfl
theorem Qgq {k:BitVec 8}{d n m:Nat}(h6:d≤6)(h:lB k d n m=true):1≤n∧n<128∧m<128∧(k=1#8∨m=0∨(cI m n=true∧m≠n)):=by
 have h64:=iG h6;have hpow:2^(d+1)=2*2^d:=by rw[eS,eZ]
 unfold lB at h;simp only[fM,fT] at h;obtain⟨⟨h1,h2⟩,h⟩:=h;by_cases hk:k=1#8
 · rw[aG hk,fT] at h;exact⟨h1,aQ,aQ,.inl hk⟩
 · rw[aH hk] at h;by_cases hm:m=0
   · exact⟨h1,aQ,aQ,.inr (.inl hm)⟩
   · rw[aH hm] at h;simp only[fM,fT] at h;exact⟨h1,aQ,aQ,.inr (.inr ⟨h.1.2,h.1.1.2⟩)⟩
theorem Xgy {s:bX}{d:Nat}(hv:gQ s=true)(hd:s.Depth=(d:Int))(h6:d≤6)(x:bG):
 (oU s [x]=some (cX.mk 0#8 0 0,31)∧uY s x=some false∧tL (eA s) x=some false)∨
 (oU s [x]=some (eA s,0)∧uY s x=some true∧tL (eA s) x=some true∧V0 s x∧∃ n m:Nat,x=⟨(n:Int),(m:Int)⟩∧Vw s x n m∧lB s.Kind d n m=true):=by
 obtain⟨b,e1,e2,e3,e4⟩:=Qy4 s hv x
 cases b with
 | false=>exact .inl ⟨e1,e2,e3⟩
 | true=>
  obtain⟨h1,n,m,h2⟩:=e4 rfl;have hx:x=⟨(n:Int),(m:Int)⟩:=by cases x;simp only[Vw] at h2;rw[h2.1,h2.2.1]
  refine .inr ⟨e1,e2,e3,h1,n,m,hx,h2,?_⟩;have:=Qm6 hv hd h6 n m;rw[←hx,e2] at this;exact(jB this).symm
theorem Xb3 {s:bX}{d n m:Nat}(h6:d≤6)(hs:lB s.Kind d n m=true){a:Nat × Nat}(ha:a.1<128∧a.2<128)(key:W2):
 Hd (eA s) (eR.mk (a.1:Int) (a.2:Int) key) ⟨(n:Int),(m:Int)⟩=some (oD s.Kind n m a)∧Qow s (a.1:Int) (a.2:Int) ⟨(n:Int),(m:Int)⟩=some (oD s.Kind n m a):=by
 obtain⟨hn1,hn2,hm2,_⟩:=Qgq h6 hs;unfold Hd Qow;rw[show(eA s).kind=s.Kind from rfl];simp only;by_cases hk:s.Kind=1#8
 · have hl:oD s.Kind n m a=decide (a.1=n∧a.2=m):=aG (.inl hk);rw[aG hk,aG hk,hl];unfold D5 Gc;rw[dC,dC];simp only;by_cases he:a.1=n
   · rw[aH aQ,aG aQ];refine⟨?_,?_⟩<;>(congr 1;apply lQ.2;omega)
   · rw[aG aQ,aH aQ,cJ aQ];exact⟨rfl,rfl⟩
 · rw[aH hk,aH hk];by_cases hm:m=0
   · have hl:oD s.Kind n m a=decide (a.1=n∧a.2=m):=aG (.inr hm);rw[hl];unfold D5 Gc;rw[cS aQ,dC,dC];simp only;by_cases he:a.1=n
     · rw[aH aQ,aG aQ];refine⟨?_,?_⟩<;>(congr 1;apply lQ.2;omega)
     · rw[aG aQ,aH aQ,cJ aQ];exact⟨rfl,rfl⟩
   · have hl:oD s.Kind n m a=(decide (a.1=n∧1≤a.2)&&cI a.2 n&&cI m a.2):=aH (by rintro(h|h);exact hk h;exact hm h);rw[hl];unfold D5 Gc;rw[cJ aQ,cH,cH];simp only;by_cases he:a.1=n
     · rw[aH aQ,aG aQ];by_cases h1:1≤a.2
       · rw[aG aQ,cS aQ,jH,he,Qbo h1 hn1 aQ aQ,Um h1 hn1 aQ,aJ,aJ]
         cases cI a.2 n with
         | false=>exact⟨rfl,rfl⟩
         | true=>rw[dC,dC,Qbo aQ h1 aQ aQ,Um aQ h1 aQ,aJ,jH];exact⟨rfl,rfl⟩
       · have h0:a.2=0:=by omega
         rw[aH aQ,cJ aQ,uM,uM];refine⟨?_,rfl⟩
         have:vP (a.2:Int) (a.1:Int)=some false:=by
          unfold vP P7;rw[aG aQ];rfl
         rw[this,aJ];rfl
     · rw[aG aQ,aH aQ,cJ aQ];exact⟨rfl,rfl⟩
end Go.Sx

end
section
namespace Go.Sx
open Go
section
variable {s:bX} {d u n m:Nat}
def Qeh (s:bX)(d u n m:Nat):Option (Nat × Nat):=(jY s.Kind d u).find? (oD s.Kind n m)
theorem Xb5 (h6:d≤6)(hu:u<2^d)(hs:lB s.Kind d n m=true):jU (2^d+u) n m=(Qeh s d u n m).isSome:=by
 rw[←Xb0 h6 hu hs];unfold Qeh;rw[V6,List.find?_isSome,yF]
end
def iJ (d:Nat)(l:List Int):Bool:=(List.range l.length).all fun j=>decide (0≤l.getD j 0∧l.getD j 0<((2^d:Nat):Int))&&(decide (j=0)||decide (l.getD (j-1) 0<l.getD j 0))
theorem getD_some {l:List Int}{j:Nat}(h:j<l.length):l.getD j 0=l[j]:=by simp[List.getD,h]
theorem I3 {σ:Type}(p:Nat→Bool):∀ (l:List Nat) (F:Nat→(σ→Option Bool)→σ→Option Bool) (s:σ),(∀ a∈l,∀ nx s,F a nx s=bif p a then nx s else some false)→fU F (fun _=>some true) l s=some (l.all p)
 | [],F,s,_=>rfl
 | a::l,F,s,h=>by
  rw[sJ,h a bW,V7]
  cases p a with
  | false=>rfl
  | true=>rw[dC,jH];exact I3 p l F s (fun b hb=>h b (by simp[hb]))
theorem Xbd {kd:BitVec 8}{d:Nat}{st:Int}(h6:d≤6)(l:List Int)(hl:l.length<4611686018427387904):Qs ⟨kd,(d:Int),st⟩ l=some (iJ d l):=by
 unfold Qs iJ
 have:=Qdu l.length (D7 ⟨kd,(d:Int),st⟩ l) (fun j (_:Unit)=>(j:Int)) (fun j nx s=>bif decide (0≤l.getD j 0∧l.getD j 0<((2^d:Nat):Int))&&(decide (j=0)||decide (l.getD (j-1) 0<l.getD j 0)) then nx s else some false) (fun _=>some true)
  (fun rec j hj _=>by
   simp only[D7,Qt];rw[aG aQ,cF hj,aJ,Qop h6,aJ,getD_some hj,fS aQ];by_cases h:0≤l[j]∧l[j]<((2^d:Nat):Int)
   · rw[cS h];simp only[fF,cH,jH];by_cases h0:j=0
     · rw[aH aQ,cS h0];rfl
     · have hj1:j-1<l.length:=by omega
       rw[aG aQ,dR aQ aQ,show(j:Int)-1=((j-1:Nat):Int) from by omega,cF hj1,aJ,cJ h0,yN,getD_some hj1];by_cases h1:l[j]≤l[j-1]
       · rw[cS h1,cJ aQ];rfl
       · rw[cJ h1,cS aQ];rfl
   · rw[cJ h];rfl)
  (fun rec _=>by simp only[D7];rw[aH aQ]) (f:=aI) (fQ aQ) ()
 rw[show((0:Nat):Int)=0 from rfl] at this;rw[this];exact I3 _ _ _ _ (fun a _ nx s=>rfl)
theorem Qeo {d:Nat}{l:List Int}(h:iJ d l=true){a:Int}(ha:a∈l):∃ u:Nat,a=(u:Int)∧u<2^d:=by
 obtain⟨j,hj,rfl⟩:=Si.1 ha;have:=oF.1 h j (by simpa using hj);rw[fM,fT,getD_some hj] at this;exact⟨l[j].toNat,aQ,aQ⟩
end Go.Sx

end
section
namespace Go.Sx
open Go
def kC (y:Nat × Nat):bG:=⟨(y.1:Int),(y.2:Int)⟩
def pH:Nat→Nat→List Int→List Int
 | 0,_,ks=>ks
 | f+1,n,ks=>if n=0 then ks else pH f (n / 2) (pX ks (n:Int))
theorem Qqk (a5:Int)(rec1:Int × List Int→Option (List bG × Int)):∀ (f fuel n:Nat) (ks:List Int),n<2^f→f<fuel→aC (P5 a5 rec1) fuel ((n:Int),ks)=rec1 (aT (a5+1),pH f n ks)
 | f,0,n,ks,_,h=>by omega
 | 0,fuel+1,n,ks,hn,_=>by
  rw[dW];simp only[P5];rw[aH (by simp at hn;omega)];rfl
 | f+1,fuel+1,n,ks,hn,hf=>by
  rw[dW];simp only[P5];unfold pH;by_cases h0:n=0
  · rw[aH aQ,aG h0]
  · rw[aG aQ,aH h0,show eD (un 1#64)=some 1 from by decide,aJ,Ad _ _ aQ,Sw];exact Qqk a5 rec1 f fuel (n / 2) _ (by rw[eS] at hn;omega) aQ
theorem Xa1 {ks:List Int}{k z:Int}:z∈pX ks k↔z∈ks∨z=k:=by
 unfold pX;split
 · rename_i h;exact⟨.inl,fun h'=>h'.elim id (fun e=>e ▸ h)⟩
 · simp
theorem Xa0 {ks:List Int}{k:Int}:(pX ks k).length≤ks.length+1:=by unfold pX;split<;>simp
theorem Qql:∀ (f n:Nat) (ks:List Int) (z:Int),n<2^f→(z∈pH f n ks↔z∈ks∨∃ j,2^j≤n∧z=((n / 2^j:Nat):Int))
 | 0,n,ks,z,hn=>by
  unfold pH;constructor
  · exact .inl
  · rintro(h|⟨j,hj,_⟩)
    · exact h
    · have:=fI j;simp at hn;omega
 | f+1,n,ks,z,hn=>by
  unfold pH;by_cases h0:n=0
  · rw[aG h0];constructor
    · exact .inl
    · rintro(h|⟨j,hj,_⟩)
      · exact h
      · have:=fI j;omega
  · rw[aH h0,Qql f (n / 2) _ z (by rw[eS] at hn;omega),Xa1];have hd2:∀ j,n / 2 / 2^j=n / 2^(j+1):=fun j=>by rw[iB,eS,eZ 2]
    constructor
    · rintro((h|h)|⟨j,h1,h2⟩)
      · exact .inl h
      · exact .inr ⟨0,by simp;omega,by simpa using h⟩
      · exact .inr ⟨j+1,by rw[eS];omega,by rw[h2,hd2]⟩
    · rintro(h|⟨j,h1,h2⟩)
      · exact .inl (.inl h)
      · cases j with
        | zero=>exact .inl (.inr (by simpa using h2))
        | succ j=>exact .inr ⟨j,by rw[eS] at h1;omega,by rw[h2,hd2]⟩
theorem Qqj:∀ (f n:Nat) (ks:List Int),(pH f n ks).length≤ks.length+f
 | 0,n,ks=>by simp[pH]
 | f+1,n,ks=>by
  unfold pH;split
  · omega
  · have:=Qqj f (n / 2) (pX ks (n:Int));have:=Xa0 (ks:=ks) (k:=(n:Int));omega
def kB (d:Nat)(l:List Int):List Int:=l.foldl (fun ks u=>pH 8 (2^d+u.toNat) ks) []
theorem Qe3 {d:Nat}(h6:d≤6):∀ (l:List Int) (ks:List Int) (z:Int),(∀ u∈l,u.toNat<2^d)→(z∈l.foldl (fun ks u=>pH 8 (2^d+u.toNat) ks) ks↔z∈ks∨∃ u∈l,∃ j,2^j≤2^d+u.toNat∧z=(((2^d+u.toNat) / 2^j:Nat):Int))
 | [],ks,z,_=>by simp
 | a::l,ks,z,h=>by
  have h64:=iG h6;have ha:=h a bW;rw[wN,Qe3 h6 l _ z (fun u hu=>h u (by simp[hu])),Qql 8 _ _ _ aQ];constructor
  · rintro((h1|h1)|⟨u,hu,h1⟩)
    · exact .inl h1
    · exact .inr ⟨a,by simp,h1⟩
    · exact .inr ⟨u,by simp[hu],h1⟩
  · rintro(h1|⟨u,hu,h1⟩)
    · exact .inl (.inl h1)
    · rcases gW.1 hu with rfl|hu
      · exact .inl (.inr h1)
      · exact .inr ⟨u,hu,h1⟩
theorem Qm0 {d:Nat}:∀ (l:List Int) (ks:List Int),(l.foldl (fun ks u=>pH 8 (2^d+u.toNat) ks) ks).length≤ks.length+8*l.length
 | [],ks=>by simp
 | a::l,ks=>by
  rw[wN,qF];have:=Qm0 (d:=d) l (pH 8 (2^d+a.toNat) ks);have:=Qqj 8 (2^d+a.toNat) ks;omega
def dD (l:List Int):List Nat:=l.map Int.toNat
theorem Z3 {d:Nat}{l:List Int}(h6:d≤6)(h:iJ d l=true):jQ d (dD l):=⟨h6,fun u hu=>by
 obtain⟨a,ha,rfl⟩:=fP.1 hu;obtain⟨w,hw,hw2⟩:=Qeo h ha
 rw[hw];simpa using hw2⟩
theorem xH {d:Nat}{l:List Int}(h6:d≤6)(h:iJ d l=true)(n:Nat):((n:Int)∈kB d l)↔dF d (dD l) n=true:=by
 have hr:=Z3 h6 h;unfold kB;rw[Qe3 h6 l [] _ (fun u hu=>hr.2 _ (fP.2 ⟨u,hu,rfl⟩)),vR];simp only[nK,false_or];constructor
 · rintro⟨u,hu,j,h1,h2⟩;refine⟨u.toNat,fP.2 ⟨u,hu,rfl⟩,(iZ (hr.leaf (fP.2 ⟨u,hu,rfl⟩)).1).2 ⟨j,h1,aQ⟩⟩
 · rintro⟨u,hu,hb⟩;obtain⟨a,ha,rfl⟩:=fP.1 hu;obtain⟨j,h1,h2⟩:=(iZ (hr.leaf hu).1).1 hb;exact⟨a,ha,j,h1,by rw[h2]⟩
theorem Qzw {d:Nat}{l:List Int}(h6:d≤6)(h:iJ d l=true){k:Int}(hk:k∈kB d l):∃ n:Nat,k=(n:Int)∧dF d (dD l) n=true:=by
 have hr:=Z3 h6 h;unfold kB at hk;rw[Qe3 h6 l [] _ (fun u hu=>hr.2 _ (fP.2 ⟨u,hu,rfl⟩))] at hk;simp only[nK,false_or] at hk;obtain⟨u,hu,j,h1,h2⟩:=hk;exact⟨_,h2,vR.2 ⟨u.toNat,fP.2 ⟨u,hu,rfl⟩,(iZ (hr.leaf (fP.2 ⟨u,hu,rfl⟩)).1).2 ⟨j,h1,rfl⟩⟩⟩
theorem Qcj {d:Nat}{l:List Int}(h6:d≤6)(h:iJ d l=true)(n:Nat):decide ((n:Int)∈kB d l)=dF d (dD l) n:=by
 cases hb:dF d (dD l) n with
 | true=>exact cS ((xH h6 h n).2 hb)
 | false=>exact cJ fun hm=>by rw[(xH h6 h n).1 hm] at hb;cases hb
theorem Qlp {s:bX}{d:Nat}{l:List Int}(h6:d≤6)(h:iJ d l=true)(acc:List bG)(nx:List bG→Option (List bG × Int))(k:Int):∀ (f fuel v:Nat),1≤v→Nat.log2 v≤d→d-Nat.log2 v<f→f≤fuel→
 aC (wE (eA s,0) (kB d l) acc nx k) fuel (v:Int)=(if(eW d (dD l) f v:Int)=k then nx acc else Option.bind (wA (eA s) k (eW d (dD l) f v:Int)) fun x31=>(if x31≠0 then(if(eA s).kind=3#8 then Option.bind (vD (eA s) k) fun x34=>(rM acc nx k (eW d (dD l) f v:Int) x31 (!x34)) else rM acc nx k (eW d (dD l) f v:Int) x31 false) else rM acc nx k (eW d (dD l) f v:Int) x31 false))
 | 0,fuel,v,_,_,hf,_=>by omega
 | f+1,0,v,_,_,_,hf=>by omega
 | f+1,fuel+1,v,hv,hl,hf,hff=>by
  have hr:=Z3 h6 h;have h64:=iG h6
  have hv128:v<128:=by
   have:=(oQ (n:=v) (k:=d+1) aQ).1 aQ;rw[eS] at this;omega
  rw[dW];simp only[wE];have e0:aT (2*(v:Int))=((2*v:Nat):Int):=by rw[dR aQ aQ];omega
  have e1:aT (((2*v:Nat):Int)+1)=((2*v+1:Nat):Int):=by rw[dR aQ aQ];omega
  have e2:aT ((v:Int)*2)=((2*v:Nat):Int):=by rw[dR aQ aQ];omega
  rw[e0,e1,e2,e1,Qcj h6 h,Qcj h6 h];rw[show(dF d (dD l) (2*v) != dF d (dD l) (2*v+1))=tP d (dD l) v from rfl]
  cases hb:tP d (dD l) v with
  | false=>
   have hfv:eW d (dD l) (f+1) v=v:=by unfold eW;rw[hb];rfl
   rw[cH,hfv]
  | true=>
   have hfv:eW d (dD l) (f+1) v=eW d (dD l) f (nF d (dD l) v):=by
    show(if tP d (dD l) v=true then eW d (dD l) f (nF d (dD l) v) else v)=_
    rw[hb];rfl
   rw[dC,hfv];obtain⟨hl2,_⟩:=Qic hr hv hb
   have key:(if ¬ (((2*v:Nat):Int)∈kB d l) then aC (wE (eA s,0) (kB d l) acc nx k) fuel ((2*v+1:Nat):Int) else aC (wE (eA s,0) (kB d l) acc nx k) fuel ((2*v:Nat):Int))=aC (wE (eA s,0) (kB d l) acc nx k) fuel (nF d (dD l) v:Int):=by
    unfold nF
    cases hh:dF d (dD l) (2*v) with
    | true=>rw[aH (fun hn=>hn ((xH h6 h _).2 hh)),aG rfl]
    | false=>rw[aG (fun hm=>by rw[(xH h6 h _).1 hm] at hh;cases hh),aH bW]
   rw[key]
   have hn:1≤nF d (dD l) v∧Nat.log2 (nF d (dD l) v)=Nat.log2 v+1:=by
    unfold nF;split
    · exact⟨aQ,Xv hv (b:=0) aQ⟩
    · exact⟨aQ,Xv hv (b:=1) aQ⟩
   exact Qlp h6 h acc nx k f fuel _ hn.1 aQ aQ aQ
theorem Xgs {s:bX}{d:Nat}{l:List Int}(hv:gQ s=true)(hd:s.Depth=(d:Int))(h6:d≤6)(h:iJ d l=true){v:Nat}(hh:dF d (dD l) v=true)(acc:List bG)(ha:acc.length≤1000)(nx:List bG→Option (List bG × Int)):
 zZ (eA s,0) (kB d l) (v:Int) nx acc=nx (acc++(pV s.Kind d (dD l) v).map kC):=by
 have hr:=Z3 h6 h;have h64:=iG h6;obtain⟨v1,vl,v2⟩:=sZ hr hh;have hpow:2^(d+1)=2*2^d:=by rw[eS,eZ]
 have hv128:v<128:=by omega
 have ht:eA s=⟨s.Kind,(d:Int),(mX d:Int)⟩:=by unfold eA;rw[hd,jZ]
 have hkd:(eA s).kind=s.Kind:=rfl;have hsib:zW (v:Int)=some ((v ^^^ 1:Nat):Int):=by unfold zW;rw[Qsi hv128]
 have hadd:∀ (a b:Int) (acc:List bG),acc.length≤2000→P2 a b acc=some (acc++[⟨a,b⟩]):=fun a b acc hl=>by
  unfold P2;rw[mW (by simp;omega),aJ]
 unfold zZ;simp only[hkd];by_cases hk:s.Kind=1#8
 · rw[aG hk];unfold pV;rw[aG hk];by_cases hv1:v=1
   · rw[aH aQ,aH (by simp[hv1])];unfold Qg;simp
   · rw[aG aQ,hsib,aJ];unfold Qg;have hdm:=Qcj h6 h (v ^^^ 1);by_cases hs:dF d (dD l) (v ^^^ 1)=true
     · rw[cJ (p:=¬ (((v ^^^ 1:Nat):Int)∈kB d l)) (fun hn=>hn ((xH h6 h _).2 hs)),cH,aH (by simp[hs])];simp
     · have hs':dF d (dD l) (v ^^^ 1)=false:=by simpa using hs
       rw[cS (p:=¬ (((v ^^^ 1:Nat):Int)∈kB d l)) (fun hm=>hs ((xH h6 h _).1 hm)),dC,hsib,aJ,hadd _ _ _ aQ,aJ,aG ⟨hv1,hs'⟩];rfl
 · rw[aH hk]
   have go:oP d (dD l) v=true→zX (eA s,0) (kB d l) acc nx (v:Int) false=nx (acc++(pV s.Kind d (dD l) v).map kC):=by
    intro hhd;unfold zX;rw[cH,Qlp h6 h acc nx (v:Int) 7 aI v v1 vl aQ (by unfold aI;omega)];unfold pV;rw[aH hk,aG hhd];obtain⟨w1,w2,w3,K,w4,w5,w6⟩:=zU hr 7 v v1 vl aQ;generalize eW d (dD l) 7 v=w at *;by_cases hw:w=v
    · rw[aG aQ,aG hw];simp
    · rw[aH aQ,aH hw];have hlw:=kW w K w4;rw[←w5] at hlw
      have hK:1≤K:=by
       rcases rR K with h0|h0
       · subst h0;simp at w5;exact absurd w5.symm hw
       · exact h0
      have hw128:w<128:=by
       have:=(oQ (n:=w) (k:=d+1) aQ).1 aQ;omega
      have hcut:wA (eA s) (v:Int) (w:Int)=some ((iR d v w:Nat):Int):=by
       obtain⟨K',rfl⟩:∃ K',K=K'+1:=⟨K-1,aQ⟩;have:=Qj9 (kd:=s.Kind) (d:=d) (m:=w) (k:=K') hw128 w4 aQ;rw[←w5] at this;rw[ht,this];unfold iR;rw[show Nat.log2 w-Nat.log2 v-1=K' from by omega]
      have hspc:vD (eA s) (v:Int)=some (lR d v):=by rw[ht];exact Qgm v1 aQ
      rw[hcut,aJ]
      have one:rM acc nx (v:Int) (w:Int) ((iR d v w:Nat):Int) false=nx (acc++[(v,w)].map kC):=by
       unfold rM Qh;rw[cH,hadd _ _ _ aQ,aJ];rfl
      have two:rM acc nx (v:Int) (w:Int) ((iR d v w:Nat):Int) true=nx (acc++[(v,iR d v w),(iR d v w,w)].map kC):=by
       unfold rM Qh;rw[dC,hadd _ _ _ aQ,aJ,hadd _ _ _ (by simp;omega),aJ,V8];rfl
      have hk3:s.Kind=2#8∨s.Kind=3#8:=by
       obtain⟨a,b⟩:=Qqq hv;rcases Qmn a b with e|e|e
       · exact absurd e hk
       · exact .inl e
       · exact .inr e
      unfold kQ;by_cases hc0:iR d v w=0
      · rw[aH aQ,one]
        have:(decide (s.Kind=2#8)||lR d v||decide (nL d (fC (w / 2) (Nat.log2 w-Nat.log2 v-1))=0))=true:=by
         rw[cS (p:=nL _ _=0) hc0];simp
        rw[aG this]
      · have hc0':decide (nL d (fC (w / 2) (Nat.log2 w-Nat.log2 v-1))=0)=false:=cJ hc0;rw[aG aQ,hc0',Ye];rcases hk3 with hk3|hk3
        · rw[aH (by rw[hkd,hk3];decide),one,aG (by simp[hk3])]
        · rw[aG (show(eA s).kind=3#8 from hk3),hspc,aJ];have:decide (s.Kind=2#8)=false:=by rw[hk3];decide
          rw[this,yN]
          cases lR d v with
          | true=>rw[fF,one,aG rfl]
          | false=>rw[uU,two,aH bW]
   have no:oP d (dD l) v=false→zX (eA s,0) (kB d l) acc nx (v:Int) true=nx (acc++(pV s.Kind d (dD l) v).map kC):=by
    intro hhd;unfold zX pV;rw[dC,aH hk,aH (by rw[hhd];simp)];simp
   by_cases hv1:v=1
   · rw[aH aQ];exact go (by unfold oP;simp[hv1])
   · rw[aG aQ,hsib,aJ];by_cases hs:dF d (dD l) (v ^^^ 1)=true
     · rw[cJ (p:=¬ (((v ^^^ 1:Nat):Int)∈kB d l)) (fun hn=>hn ((xH h6 h _).2 hs))];exact go (by unfold oP;simp[hs])
     · have hs':dF d (dD l) (v ^^^ 1)=false:=by simpa using hs
       rw[cS (p:=¬ (((v ^^^ 1:Nat):Int)∈kB d l)) (fun hm=>hs ((xH h6 h _).1 hm))];exact no (by unfold oP;simp[hs',hv1])
theorem Qu5 {d:Nat}{R:List Nat}(h:jQ d R){k:BitVec 8}(hne:R≠[]){v:Nat}(hv:dF d R v=true):(iS k d R).filter (fun y=>decide (lJ k d R y=v))=pV k d R v:=by
 refine Qhy ?_ ?_ fun y=>?_
 · exact List.Pairwise.filter _ Qc3
 · unfold pV yH
   split
   · split<;>simp
   · split
     · split
       · simp
       · split
         · simp
         · rename_i h2 h3 h4 h5;obtain⟨v1,vl,v2⟩:=sZ h hv;obtain⟨w1,w2,w3,K,w4,w5,w6⟩:=zU h 7 v v1 vl (by have:=h.1;omega);obtain⟨j,j1,j2,j3⟩:=Ba (k:=k) (d:=d) (.inr trivial) w4 w5 v1 (by simpa using h5);simp only[Yo,mY,nK,false_imp_iff,implies_true,List.Pairwise.nil,and_true,forall_eq];have hj2:2^j≤eW d R 7 v:=eK (fD aQ aQ) w4;have hl1:=kW _ _ w4;have hl2:=kW _ _ hj2;rw[←w5] at hl1;rw[←j3] at hl2;rcases jG v (iR d v (eW d R 7 v)) with dX|hge
           · exact dX
           · have:=Qem hge;omega
     · simp
 · rw[yB,fT];exact Rn h hne hv y
theorem Qj1 {k:BitVec 8}{d:Nat}{R:List Nat}(h6:d≤6):(iS k d R).length≤127:=by
 have h64:=iG h6;have hpow:2^(d+1)=2*2^d:=by rw[eS,eZ]
 refine eK (List.length_filterMap_le _ _) ?_;simp[Xy];omega
theorem Qzc {α:Type}(p q:α→Bool)(hpq:∀ a,p a=true→q a=false)(l:List α):(l.filter fun a=>p a||q a).Perm (l.filter p++l.filter q):=by
 induction l with
 | nil=>simp
 | cons a l ih=>
  cases hp:p a with
  | true=>
   have hq:=hpq a hp;simp only[Yk,hp,hq,Lw,lU,nI,mB,uE];exact ih.cons a
  | false=>
   cases hq:q a with
   | true=>
    simp only[Yk,hp,hq,Bool.or_true,lU,nI,mB];exact(ih.cons a).trans List.perm_middle.symm
   | false=>
    simp only[Yk,hp,hq,Ye,nI,mB];exact ih
theorem Xgn {k:BitVec 8}{d:Nat}{R:List Nat}(h6:d≤6){acc:List bG}(h:acc.Perm ((iS k d R).map kC)):C9 bG.Node acc=some ((iS k d R).map kC):=by
 have h64:=iG h6;have hpow:2^(d+1)=2*2^d:=by rw[eS,eZ]
 have hasc:((iS k d R).map kC).Pairwise fun a b=>a.Node<b.Node:=by
  rw[uI];exact(Qc3 (k:=k) (d:=d) (R:=R)).imp (fun {a b} hab=>by unfold kC;simp only;omega)
 have hnd:(((iS k d R).map kC).map bG.Node).Nodup:=by
  unfold List.Nodup;rw[uI];exact hasc.imp aQ
 unfold C9;rw[aG]
 · congr 1;have hs:=List.pairwise_mergeSort (le:=fun a b:bG=>decide (a.Node≤b.Node)) (fun a b c h1 h2=>by simp at *;omega) (fun a b=>by simp;omega) acc;have hp:(acc.mergeSort fun a b=>decide (a.Node≤b.Node)).Perm ((iS k d R).map kC):=(List.mergeSort_perm acc _).trans h
   have key:∀ (l m:List bG),l.Perm m→(l.Pairwise fun a b=>decide (a.Node≤b.Node)=true)→(m.Pairwise fun a b=>a.Node<b.Node)→l=m:=by
    intro l m hlm hl hm
    have hlnd:(l.map bG.Node).Nodup:=by
     have:(m.map bG.Node).Nodup:=by unfold List.Nodup;rw[uI];exact hm.imp aQ
     exact(hlm.map _).nodup_iff.2 this
    have hl':l.Pairwise fun a b=>a.Node<b.Node:=by
     unfold List.Nodup at hlnd;rw[uI] at hlnd;exact(hl.and hlnd).imp (fun {a b} hab=>by have:=iX hab.1;have:=hab.2;omega)
    clear hl hlnd
    induction m generalizing l with
    | nil=>exact hlm.eq_nil
    | cons b m ih=>
     cases l with
     | nil=>exact absurd hlm.symm.eq_nil bW
     | cons a l=>
      have ha:=Yo.1 hl';have hb:=Yo.1 hm
      have hab:a=b:=by
       rcases gW.1 (hlm.subset (Yn)) with e|e
       · exact e
       · rcases gW.1 (hlm.symm.subset (Yn)) with e2|e2
         · exact e2.symm
         · have:=ha.1 b e2;have:=hb.1 a e;omega
      subst hab;rw[ih l (List.Perm.cons_inv hlm) hb.2 ha.2]
   exact key _ _ hp hs hasc
 · refine⟨fun x hx=>?_,(h.map _).nodup_iff.2 hnd,?_⟩
   · obtain⟨y,hy,rfl⟩:=fP.1 (h.subset hx);have:=(P1.1 hy).1;unfold kC;simp only;omega
   · rw[h.length_eq,fJ];have:=Qj1 (k:=k) (R:=R) h6;omega
theorem Xdu {s:bX}{d:Nat}{l:List Int}(hv:gQ s=true)(hd:s.Depth=(d:Int))(h6:d≤6)(h:iJ d l=true)(hne:l≠[])(hl:l.length*8≤140737488355328):
 pW (zZ (eA s,0) (kB d l)) P3 aI (kB d l) []=some ((iS s.Kind d (dD l)).map kC,0):=by
 have hr:=Z3 h6 h;have hne':dD l≠[]:=by unfold dD;simpa using hne
 refine Qp3 (fun rem acc=>(∀ k∈rem,k∈kB d l)∧acc.Perm (((iS s.Kind d (dD l)).filter fun y=>decide (((lJ s.Kind d (dD l) y:Nat):Int)∉rem)).map kC)) ?_ ?_ aI (kB d l) [] ?_ ⟨fun _ hk=>hk,?_⟩
 · rintro acc ⟨_,hp⟩;have:((iS s.Kind d (dD l)).filter fun y=>decide (((lJ s.Kind d (dD l) y:Nat):Int)∉([]:List Int)))=iS s.Kind d (dD l):=Qaj.2 bW;rw[this] at hp;unfold P3;rw[Xgn h6 hp,aJ]
 · rintro rem acc k hk ⟨hsub,hp⟩;obtain⟨v,rfl,hvh⟩:=Qzw h6 h (hsub k hk)
   have hal:acc.length≤1000:=by
    rw[hp.length_eq,fJ];have:=Qj1 (k:=s.Kind) (R:=dD l) h6;have:=List.length_filter_le (fun y=>decide (((lJ s.Kind d (dD l) y:Nat):Int)∉rem)) (iS s.Kind d (dD l));omega
   refine⟨acc++(pV s.Kind d (dD l) v).map kC,⟨fun j hj=>hsub j (yB.1 hj).1,?_⟩,fun nx=>Xgs hv hd h6 h hvh acc hal nx⟩
   have hsp:=Qzc (fun y=>decide (((lJ s.Kind d (dD l) y:Nat):Int)∉rem)) (fun y=>decide (lJ s.Kind d (dD l) y=v)) (fun y hy=>by
    simp only[fT,I2] at hy ⊢
    rintro rfl;exact hy hk) (iS s.Kind d (dD l))
   rw[Qu5 hr hne' hvh] at hsp
   have hcg:((iS s.Kind d (dD l)).filter fun y=>decide (((lJ s.Kind d (dD l) y:Nat):Int)∉rem.filter (· ≠ (v:Int))))=((iS s.Kind d (dD l)).filter fun y=>decide (((lJ s.Kind d (dD l) y:Nat):Int)∉rem)||decide (lJ s.Kind d (dD l) y=v)):=by
    apply List.filter_congr;intro y _;rw[V6];simp only[nX,fT,yB,wR,ne_eq,Decidable.not_not,decide_not,sO,I2];constructor
    · intro hh;by_cases hm:((lJ s.Kind d (dD l) y:Nat):Int)∈rem
      · have:=hh hm;right;omega
      · exact .inl hm
    · rintro(hh|hh) hm
      · exact absurd hm hh
      · rw[hh]
   rw[hcg];refine List.Perm.trans ?_ (hsp.map kC).symm;rw[qB];exact hp.append_right _
 · have:=Qm0 (d:=d) l [];unfold kB aI;simp only[Sg,kN] at this;omega
 · have:((iS s.Kind d (dD l)).filter fun y=>decide (((lJ s.Kind d (dD l) y:Nat):Int)∉kB d l))=[]:=by
    rw[List.filter_eq_nil_iff];intro y hy;simp only[fT];exact fun hn=>hn ((xH h6 h _).2 (Qf6 hr hne' hy))
   rw[this];simp
def P0 (s:bX)(l:List Int):List bG × Int:=
 if gQ s then(if iJ s.Depth.toNat l then((if l=[] then[⟨1,0⟩] else(iS s.Kind s.Depth.toNat (dD l)).map kC),0) else([],2)) else([],30)
theorem Qo9 (s:bX)(l:List Int)(hl:l.length*8≤140737488355328):Wp s l=some (P0 s l):=by
 unfold Wp P0;rw[Qd7,aJ]
 cases hv:gQ s with
 | false=>rfl
 | true=>
  obtain⟨d,hd,h6⟩:=Ve hv;have ht:eA s=⟨s.Kind,(d:Int),(mX d:Int)⟩:=by unfold eA;rw[hd,jZ]
  simp only[lU];rw[aH bW,hd,jZ];have e0:Qs (eA s) l=some (iJ d l):=by rw[ht];exact Xbd h6 l aQ
  rw[e0,aJ]
  cases hb:iJ d l with
  | false=>rfl
  | true=>
   simp only[fF,cH,lU];by_cases hne:l=[]
   · subst hne;rfl
   · rw[aH (by intro h0;apply hne;exact Qah aQ),aH hne]
     have:=Pm l (P4 l (eA s,0)) (fun j (ks:List Int)=>((j:Int),ks)) (fun u nx ks=>nx (pH 8 (2^d+u.toNat) ks)) (fun ks=>pW (zZ (eA s,0) ks) P3 aI ks [])
      (fun rec j hj ks=>by
       obtain⟨u,hu,hu2⟩:=Qeo hb (jJ hj);have h64:=iG h6;simp only[P4];have hlf:D6 (eA s) (u:Int)=some ((2^d+u:Nat):Int):=by rw[ht];exact Xb4 h6 aQ
       rw[aG aQ,cF hj,aJ,hu,hlf,aJ,Qqk _ _ 8 aI _ _ aQ (by unfold aI;omega),fS aQ,jZ])
      (fun rec ks=>by simp only[P4];rw[aH aQ]) (f:=aI) (fQ aQ) ([]:List Int)
     rw[show((0:Nat):Int)=0 from rfl] at this;rw[this,Qm8 (fun ks u=>pH 8 (2^d+u.toNat) ks) _ _ (fun _ _=>True) l 0 [] (fun _ _ _ _ _ _=>rfl) (fun _ _ _ _ _=>trivial) trivial];exact Xdu hv hd h6 hb hne hl
end Go.Sx

end
section
namespace Go.Sx
open Go
end Go.Sx

end
section
namespace Go.Sx
open Go
variable {d:Nat} {R:List Nat}
theorem Qm1 (h:jQ d R){u:Nat}(hu:u<2^d):dF d R (2^d+u)=true↔u∈R:=by
 rw[vR];constructor
 · rintro⟨a,ha,hb⟩;obtain⟨l1,l2,l3⟩:=h.leaf ha;have:=I6 l1 (Qi7 l1) hb (by rw[l3,Py hu]);have:a=u:=by omega
   exact this ▸ ha
 · intro hm;exact⟨u,hm,Qi7 (by have:=fI d;omega)⟩
theorem Qsf {L a b:Nat}(hL:1≤L)(ha:cI L a=true)(hb:cI L b=true)(hl:Nat.log2 b≤Nat.log2 a):cI a b=true:=by
 obtain⟨i,i1,rfl⟩:=(iZ hL).1 ha;obtain⟨j,j1,rfl⟩:=(iZ hL).1 hb;have li:=kW L i i1;have lj:=kW L j j1;have hij:i+(j-i)=j:=by omega
 refine(iZ (tS i1)).2 ⟨j-i,xU (by rw[hij];exact j1),?_⟩;rw[iB,←kO,hij]
def Low (d:Nat)(R:List Nat)(L z:Nat):Prop:=dF d R z=true∧cI L z=true∧∃ s,s / 2=z∧2≤s∧cI L s=true∧dF d R s=false
theorem Qe4 (h:jQ d R){a b:Nat}(ha:dF d R a=true)(hb:cI a b=true):dF d R b=true:=by
 obtain⟨k,k1,k2⟩:=(iZ (sZ h ha).1).1 hb;rw[k2];exact Pq h ha k k1
theorem Qn4 (h:jQ d R){L z1 z2:Nat}(hL:1≤L)(h1:Low d R L z1)(h2:Low d R L z2):¬ Nat.log2 z1<Nat.log2 z2:=by
 intro dX;obtain⟨a1,b1,s,c1,c2,c3,c4⟩:=h1;obtain⟨a2,b2,_⟩:=h2;have hs:=sH c2;rw[c1] at hs;have:=Qe4 h a2 (Qsf hL b2 c3 aQ);rw[c4] at this;cases this
theorem Qn3 (h:jQ d R){L z1 z2:Nat}(hL:1≤L)(h1:Low d R L z1)(h2:Low d R L z2):z1=z2:=
 I6 hL h1.2.1 h2.2.1 (by have:=Qn4 h hL h1 h2;have:=Qn4 h hL h2 h1;omega)
theorem Qgu {p:Nat→Bool}:∀ (n j:Nat),p (j+n)=true→p j=false→∃ t,j≤t∧t<j+n∧p (t+1)=true∧p t=false
 | 0,j,h1,h2=>by rw[tV,h2] at h1;cases h1
 | n+1,j,h1,h2=>by
  cases hp:p (j+n) with
  | true=>obtain⟨t,a,b,c⟩:=Qgu n j hp h2;exact⟨t,a,aQ,c⟩
  | false=>exact⟨j+n,aQ,aQ,h1,hp⟩
theorem Qen (h:jQ d R){L f K i j:Nat}(hL:1≤L)(hl:Nat.log2 L=d)(hf:f<128)(hK:2^K≤f)(hfd:Nat.log2 f≤d)(hc:∀ t,t<K→dF d R (f / 2^t)=true∧dF d R ((f / 2^t) ^^^ 1)=false)
 (hij:j<i) (hi:i≤K) (ha:cI L (f / 2^i)=true) (hb:cI L (f / 2^j)=false):∃ t,j≤t∧t<i∧Low d R L (f / 2^(t+1)):=by
 obtain⟨t,t1,t2,t3,t4⟩:=Qgu (p:=fun t=>cI L (f / 2^t)) (i-j) j (by show cI L (f / 2^(j+(i-j)))=true;rw[yM aQ];exact ha) hb;replace t3:cI L (f / 2^(t+1))=true:=t3;replace t4:cI L (f / 2^t)=false:=t4;refine⟨t,t1,aQ,?_⟩;have ht:2^(t+1)≤f:=eK (fD aQ aQ) hK;have hs2:2≤f / 2^t:=by have:=xU (w:=f) (i:=t) (j:=1) ht;simpa using this
 obtain⟨c1,c2⟩:=hc t aQ;rw[wI] at t3 ⊢;have hsl:f / 2^t<128:=rB (rF _ _) hf;have hlg:=kW f t (eK (fD aQ aQ) ht);generalize hs:f / 2^t=s at *;have hh:=sH hs2;refine⟨Qe5 h c1 hs2,t3,s ^^^ 1,Ae hsl,Nc hsl hs2,?_,c2⟩;rw[Qbp hL aQ aQ] at t3;rcases(show 2*(s / 2)=s∨2*(s / 2)+1=s by omega) with e|e
 · have:=Hf (n:=s / 2) aQ;rw[e,t4,yN] at t3;rw[e] at this;rw[this];exact t3
 · have:=Hg (n:=s / 2) aQ;rw[e,t4,Ye] at t3;rw[e] at this;rw[this];exact t3
def Qbe (k:BitVec 8)(d:Nat)(R:List Nat)(L z:Nat):Nat × Nat:=
 if kQ k d (eY d R 7 z) (eW d R 7 (eY d R 7 z)) then(eY d R 7 z,eW d R 7 (eY d R 7 z))
 else if cI L (iR d (eY d R 7 z) (eW d R 7 (eY d R 7 z))) then(iR d (eY d R 7 z) (eW d R 7 (eY d R 7 z)),eW d R 7 (eY d R 7 z))
 else(eY d R 7 z,iR d (eY d R 7 z) (eW d R 7 (eY d R 7 z)))
theorem rV {L v w:Nat}:jU L v w=true↔cI L v=true∧(w=0∨cI L w=false):=by
 unfold jU;simp
theorem Qc4 (h:jQ d R){k:BitVec 8}(hk:k≠1#8)(hne:R≠[]){y:Nat × Nat}(hy:y∈iS k d R){u:Nat}(hu:u<2^d)(hm:jU (2^d+u) y.1 y.2=true):
 ∃ z,Low d R (2^d+u) z∧y=Qbe k d R (2^d+u) z:=by
 have h64:=iG h.1;have hpow:2^(d+1)=2*2^d:=by rw[eS,eZ]
 have hv:=Qf6 h hne hy;have hout:=(Rn h hne hv y).1 ⟨hy,rfl⟩;have hy1:=(P1.1 hy).1;have hlog:=Py hu;have hL:1≤2^d+u:=by omega
 generalize hLe:2^d+u=L at *
 have hhd:oP d R (lJ k d R y)=true:=by
  unfold lJ;rw[aH hk];exact(Xo 7 y.1 hy1.1 (by have:=L0 hy1.1 hy1.2;have:=h.1;omega)).1
 generalize hve:lJ k d R y=v at *;obtain⟨v1,vl,v2⟩:=sZ h hv;obtain⟨f1,f2,f3,K,f4,f5,f6⟩:=zU h 7 v v1 vl (by have:=h.1;omega);unfold pV at hout;rw[aH hk,aG hhd] at hout
 have key:∀ z,eY d R 7 z=v→Qbe k d R L z=if kQ k d v (eW d R 7 v) then(v,eW d R 7 v) else if cI L (iR d v (eW d R 7 v)) then(iR d v (eW d R 7 v),eW d R 7 v) else(v,iR d v (eW d R 7 v)):=by
  intro z hz;unfold Qbe;rw[hz]
 have cutc:=fun hs=>Ba (d:=d) (k:=k) (v:=v) (w:=eW d R 7 v) (.inr trivial) f4 f5 v1 hs;generalize hfe:eW d R 7 v=f at *;have hf128:f<128:=by have:=(oQ (n:=f) (k:=d+1) aQ).1 aQ;omega
 have hK6:=N6 f4 hf128
 have hd:∀ t,t<K→eY d R 7 (f / 2^(t+1))=v:=fun t ht=>
  Qe1 hhd v1 (t+1) (K-(t+1)) 7 (by rw[yM aQ];exact f4) (by rw[yM aQ];exact f5) (fun i h1 h2=>(f6 i aQ).2) aQ
 by_cases hfv:f=v
 · rw[aG hfv] at hout;cases hout
 · rw[aH hfv] at hout
   have hK0:0<K:=by
    rcases rR K with e|e
    · subst e;simp at f5;exact absurd f5.symm hfv
    · exact e
   cases hs:kQ k d v f with
   | true=>
    rw[hs,aG rfl,mY] at hout;subst hout;obtain⟨m1,m2⟩:=rV.1 hm;simp only at m1 m2;rcases m2 with m2|m2
    · omega
    · rw[f5] at m1;obtain⟨t,t1,t2,t3⟩:=Qen h hL hlog hf128 f4 f2 f6 (j:=0) (i:=K) hK0 (eO _) m1 (by simpa using m2);exact⟨_,t3,by rw[key _ (hd t t2),hs,aG rfl]⟩
   | false=>
    rw[hs,aH bW] at hout;obtain⟨j,j1,j2,j3⟩:=cutc hs;generalize hce:iR d v f=c at *;have hc1:1≤c:=by rw[j3];exact tS (eK (fD aQ aQ) f4)
    rcases gW.1 hout with e|e
    · subst e;obtain⟨m1,m2⟩:=rV.1 hm;simp only at m1 m2;rcases m2 with m2|m2
      · omega
      · have m2':=m2;rw[f5] at m1;rw[j3] at m2;obtain⟨t,t1,t2,t3⟩:=Qen h hL hlog hf128 f4 f2 f6 (j:=j) (i:=K) j2 (eO _) m1 m2;exact⟨_,t3,by rw[key _ (hd t t2),hs,aH bW,m2',aH bW]⟩
    · rw[mY] at e;subst e;obtain⟨m1,m2⟩:=rV.1 hm;simp only at m1 m2;rcases m2 with m2|m2
      · omega
      · have m1':=m1;rw[j3] at m1;obtain⟨t,t1,t2,t3⟩:=Qen h hL hlog hf128 f4 f2 f6 (j:=0) (i:=j) aQ aQ m1 (by simpa using m2);exact⟨_,t3,by rw[key _ (hd t aQ),hs,aH bW,m1',aG rfl]⟩
theorem Qp5 (h:jQ d R)(hne:R≠[]):dF d R 1=true:=by
 obtain⟨u,hu⟩:=Yj R hne;obtain⟨l1,l2,l3⟩:=h.leaf hu;exact vR.2 ⟨u,hu,(iZ l1).2 ⟨d,aQ,by rw[W8 _ (fI d),pF (h.2 u hu)]⟩⟩
theorem Rm (h:jQ d R)(hne:R≠[]){y:Nat × Nat}(hy:y∈iS 1#8 d R):dF d R y.1=false∧2≤y.1∧dF d R (y.1 / 2)=true∧y.2=0:=by
 obtain⟨⟨y1,y2⟩,hm⟩:=P1.1 hy;unfold N8 at hm;rw[aG rfl] at hm
 split at hm
 · rename_i hc;simp only[fM,sO,nX,fT] at hc;have hr:=Qp5 h hne;have hyn:y.1≠1:=fun e=>by rw[e,hr] at hc;simp at hc
   exact⟨hc.1,aQ,hc.2.resolve_left hyn,(jB hm).symm⟩
 · cases hm
theorem Qub (h:jQ d R){k:BitVec 8}(hne:R≠[]){y y':Nat × Nat}(hy:y∈iS k d R)(hy':y'∈iS k d R){u:Nat}(hu:u<2^d)(hm:jU (2^d+u) y.1 y.2=true)(hm':jU (2^d+u) y'.1 y'.2=true):y=y':=by
 have hL:1≤2^d+u:=by have:=fI d;omega
 by_cases hk:k=1#8
 · subst hk;obtain⟨a1,a2,a3,a4⟩:=Rm h hne hy;obtain⟨b1,b2,b3,b4⟩:=Rm h hne hy';have m1:=(rV.1 hm).1;have m2:=(rV.1 hm').1;have up:∀ {s:Nat},2≤s→cI (2^d+u) s=true→cI (2^d+u) (s / 2)=true:=fun {s} h2 hb=>Yz hL hb ((iZ aQ).2 ⟨1,by simpa using h2,by simp⟩);have hz:=Qn3 h hL (z1:=y.1 / 2) (z2:=y'.1 / 2) ⟨a3,up a2 m1,y.1,rfl,a2,m1,a1⟩ ⟨b3,up b2 m2,y'.1,rfl,b2,m2,b1⟩;have l1:=sH a2;have l2:=sH b2;have:=I6 hL m1 m2 (by rw[l1,l2,hz]);exact Prod.ext this (by rw[a4,b4])
 · obtain⟨z,z1,z2⟩:=Qc4 h hk hne hy hu hm;obtain⟨z',z1',z2'⟩:=Qc4 h hk hne hy' hu hm';rw[z2,z2',Qn3 h hL z1 z1']
theorem Qu7 (h:jQ d R){k:BitVec 8}(hne:R≠[]){y:Nat × Nat}(hy:y∈iS k d R){u:Nat}(hu:u<2^d)(hr:u∈R):jU (2^d+u) y.1 y.2=false:=by
 have hhot:=(Qm1 h hu).2 hr
 cases hm:jU (2^d+u) y.1 y.2 with
 | false=>rfl
 | true=>
  by_cases hk:k=1#8
  · subst hk;have:=Qe4 h hhot (rV.1 hm).1;rw[(Rm h hne hy).1] at this;cases this
  · obtain⟨z,⟨_,_,s,_,_,s3,s4⟩,_⟩:=Qc4 h hk hne hy hu hm;have:=Qe4 h hhot s3;rw[s4] at this;cases this
theorem Xbf (h:jQ d R)(hne:R≠[]){u:Nat}(hu:u<2^d)(hn:u∉R):∃ z,Low d R (2^d+u) z:=by
 have hp:=fI d;have hL:1≤2^d+u:=by omega
 have h0:dF d R (2^d+u)=false:=by cases hh:dF d R (2^d+u) with|false=>rfl|true=>exact absurd ((Qm1 h hu).1 hh) hn
 obtain⟨t,t1,t2,t3,t4⟩:=Qgu (p:=fun i=>dF d R ((2^d+u) / 2^i)) d 0 (by simp only[kN];rw[W8 _ hp,pF hu];exact Qp5 h hne) (by simpa using h0);have h1:2^(t+1)≤2^d+u:=eK (fD aQ aQ) (yE _ _);have h2:2^t≤2^d+u:=eK (fD aQ aQ) h1;refine⟨_,t3,(iZ hL).2 ⟨t+1,h1,rfl⟩,(2^d+u) / 2^t,(wI _ _).symm,?_,(iZ hL).2 ⟨t,h2,rfl⟩,t4⟩;have:=xU (w:=2^d+u) (i:=t) (j:=1) h1;simpa using this
theorem Qid {z c:Nat}(hz:c / 2=z)(h2:2≤c)(hc:c<128)(hh:dF d R c=true)(hs:dF d R (c ^^^ 1)=false):tP d R z=true∧nF d R z=c:=by
 unfold tP nF;rcases(show 2*(c / 2)=c∨2*(c / 2)+1=c by omega) with e|e
 · have:=Hf (n:=c / 2) aQ;rw[e] at this;rw[this] at hs;rw[hz] at e;rw[e,hh,hs];simp
 · have:=Hg (n:=c / 2) aQ;rw[e] at this;rw[this,hz] at hs;rw[hz] at e;rw[e,hh,hs];simp
theorem Qlo {z:Nat}(hz:z<128):∀ (i g:Nat),2^i≤z→(∀ t,t<i→dF d R (z / 2^t)=true∧dF d R ((z / 2^t) ^^^ 1)=false)→eW d R (i+g) (z / 2^i)=eW d R g z
 | 0,g,_,_=>by simp
 | i+1,g,hi,hc=>by
  obtain⟨c1,c2⟩:=hc i aQ;have h2:2≤z / 2^i:=by have:=xU (w:=z) (i:=i) (j:=1) hi;simpa using this
  obtain⟨b1,b2⟩:=Qid (z:=z / 2^(i+1)) (wI z i).symm h2 (rB (rF _ _) hz) c1 c2;rw[show i+1+g=(i+g)+1 from by omega,eW,b1,aG rfl,b2];exact Qlo hz i g (eK (fD aQ aQ) hi) fun t ht=>hc t aQ
theorem Qu6 (h:jQ d R){k:BitVec 8}(hne:R≠[]){u:Nat}(hu:u<2^d)(hn:u∉R):∃ y∈iS k d R,jU (2^d+u) y.1 y.2=true:=by
 have h64:=iG h.1;have hpow:2^(d+1)=2*2^d:=by rw[eS,eZ]
 have hlog:=Py hu;have hL:1≤2^d+u:=by omega
 have hL2:2^d+u<128:=by omega
 obtain⟨z,z1,z2,s,s1,s2,s3,s4⟩:=Xbf h hne hu hn;have hsl:=Ff hL s3;have hsh:=sH s2;obtain⟨zp,zl,zb⟩:=sZ h z1;have hs128:s<2^(d+1):=(oQ aQ).1 aQ;by_cases hk:k=1#8
 · subst hk;refine⟨(s,0),P1.2 ⟨⟨by simp only;omega,hs128⟩,?_⟩,rV.2 ⟨s3,.inl rfl⟩⟩;unfold N8;rw[aG rfl,s4,s1,z1];simp
 · have hsb:=Qgh (n:=s) aQ;have hs2':=Nc (n:=s) aQ s2;have hslog:=Af (n:=s) aQ s2
   have hc:dF d R (s ^^^ 1)=true:=by
    have:=Cz h (v:=z) zp (by rw[s1] at hsh;omega);rw[z1,←s1] at this;rcases(show 2*(s / 2)=s∨2*(s / 2)+1=s by omega) with e|e
    · have e2:=Hf (n:=s / 2) aQ;rw[e] at e2;rw[e,←e2,s4] at this;simpa using this.symm
    · have e2:=Hg (n:=s / 2) aQ;rw[e] at e2;rw[e,s4,←e2] at this;simpa using this.symm
   have hcn:cI (2^d+u) (s ^^^ 1)=false:=by
    cases hb:cI (2^d+u) (s ^^^ 1) with
    | false=>rfl
    | true=>exact absurd (I6 hL hb s3 hslog) (Qgi aQ)
   obtain⟨hh,i,i1,i2,i3⟩:=Xo (d:=d) (R:=R) 7 z zp (by have:=h.1;omega);have hi6:=N6 i1 aQ;have vhot:dF d R (eY d R 7 z)=true:=by rw[i2];exact Pq h z1 i i1
   have hbr:=Qid (d:=d) (R:=R) (z:=z) (c:=s ^^^ 1) (by rw[Ae aQ];exact s1) hs2' hsb hc (by rw[Qgj aQ];exact s4);have hzi:=kW z i i1;have hzpos:=tS i1
   have hft:eW d R 7 (eY d R 7 z)=eW d R (6-i) (s ^^^ 1):=by
    rw[i2]
    have:=Qlo (d:=d) (R:=R) (z:=z) aQ i (7-i) i1 (fun t ht=>⟨Pq h z1 t (eK (fD aQ aQ) i1),by
     have:=i3 t ht;unfold oP at this;rw[Qac] at this;exact this.2⟩)
    rw[yM aQ] at this;rw[this,show 7-i=(6-i)+1 from by omega,eW,hbr.1,aG rfl,hbr.2]
   have hil:i≤Nat.log2 z:=by omega
   rw[s1] at hsh;have hd6:=h.1;obtain⟨g1,g2,g3,K',g4,g5,g6⟩:=zU h (6-i) (s ^^^ 1) aQ aQ aQ;have hvl:=sZ h vhot;obtain⟨f1,f2,f3,K,f4,f5,f6⟩:=zU h 7 (eY d R 7 z) hvl.1 hvl.2.1 aQ;have hfb:cI (eW d R 7 (eY d R 7 z)) (s ^^^ 1)=true:=by rw[hft];exact(iZ g1).2 ⟨K',g4,g5⟩
   have hLv:cI (2^d+u) (eY d R 7 z)=true:=Yz hL z2 (by rw[i2];exact(iZ zp).2 ⟨i,i1,rfl⟩);have hvlog:Nat.log2 (eY d R 7 z)≤Nat.log2 z:=by rw[i2];omega
   have hflog:=Ff f1 hfb;have cutc:=fun hs=>Ba (d:=d) (k:=k) (v:=eY d R 7 z) (w:=eW d R 7 (eY d R 7 z)) (.inr trivial) f4 f5 hvl.1 hs;have hout:=fun y=>(Rn (k:=k) h hne vhot y).2;unfold pV at hout;rw[aH hk,aG hh] at hout;generalize hve:eY d R 7 z=v at *;clear hft f3;generalize hfe:eW d R 7 v=f at *
   have hLf:cI (2^d+u) f=false:=by
    cases hb:cI (2^d+u) f with
    | false=>rfl
    | true=>have:=Yz hL hb hfb;rw[hcn] at this;cases this
   have hfv:f≠v:=fun e=>by rw[e] at hflog;omega
   rw[aH hfv] at hout
   cases hs:kQ k d v f with
   | true=>
    rw[hs,aG rfl] at hout;exact⟨(v,f),(hout _ bW).1,rV.2 ⟨hLv,.inr hLf⟩⟩
   | false=>
    rw[hs,aH bW] at hout
    cases hb:cI (2^d+u) (iR d v f) with
    | true=>exact⟨(iR d v f,f),(hout _ bW).1,rV.2 ⟨hb,.inr hLf⟩⟩
    | false=>exact⟨(v,iR d v f),(hout _ bW).1,rV.2 ⟨hLv,.inr hb⟩⟩
theorem Qf9:∀ (b a w:Nat),fC w (a+b)=fC (w / 2^b) a++fC w b
 | 0,a,w=>by simp[fC]
 | b+1,a,w=>by
  rw[show a+(b+1)=(a+b)+1 from rfl,Qf8,Qf8,Qf9 b a (w / 2),V8,iB,show 2*2^b=2^(b+1) from by rw[eS,eZ]]
theorem Qun {k:BitVec 8}{v w K:Nat}(h1:2^K≤w)(h2:v=w / 2^K)(hv:1≤v)(hs:kQ k d v w=false):∃ j,1≤j∧j<K∧iR d v w=w / 2^j∧lR d (w / 2^j)=true∧kQ k d v (w / 2^j)=true:=by
 have hl:=kW w K h1;rw[←h2] at hl;unfold kQ at hs;simp only[Qac,I2] at hs;have h0:iR d v w≠0:=hs.2;unfold iR at h0 ⊢;unfold nL at h0 ⊢
 cases hf:(fC (w / 2) (Nat.log2 w-Nat.log2 v-1)).find? (lR d) with
 | none=>rw[hf] at h0;simp at h0
 | some c=>
  obtain⟨j,hj,rfl⟩:=xB.1 (A3 hf);have hdj:w / 2 / 2^j=w / 2^(j+1):=by rw[iB,show 2*2^j=2^(j+1) from by rw[eS,eZ]]
  have hsp:=Sa hf;rw[hdj] at hsp;refine⟨j+1,aQ,aQ,by rw[Fa,hdj],hsp,?_⟩;have hj1:2^(j+1)≤w:=eK (fD aQ aQ) h1;have hlc:=kW w (j+1) hj1;unfold kQ;simp only[nX,fT];refine .inr ?_
  have hpos:∀ n∈fC (w / 2^(j+1) / 2) (Nat.log2 (w / 2^(j+1))-Nat.log2 v-1),∃ t,n=w / 2^(j+1+(t+1))∧j+1+(t+1)<K:=by
   intro n hn;obtain⟨t,t1,rfl⟩:=xB.1 hn;refine⟨t,?_,aQ⟩;rw[iB,iB,show 2^(j+1)*(2*2^t)=2^(j+1+(t+1)) from by rw[kO 2 (j+1),eS 2 t,eZ 2 (2^t)]]
  have hpos2:∀ n∈fC (w / 2^(j+1) / 2) (Nat.log2 (w / 2^(j+1))-Nat.log2 v-1),1≤n:=by
   intro n hn;obtain⟨t,rfl,ht⟩:=hpos n hn;exact tS (eK (fD aQ aQ) h1)
  rw[Qdy hpos2];have hap:=Qf9 (j+1) (Nat.log2 (w / 2^(j+1))-Nat.log2 v-1) (w / 2);rw[show Nat.log2 (w / 2^(j+1))-Nat.log2 v-1+(j+1)=Nat.log2 w-Nat.log2 v-1 from by omega,show w / 2 / 2^(j+1)=w / 2^(j+1) / 2 from by rw[iB,iB,eZ]] at hap;rw[hap,List.find?_append] at hf;intro n hn
  cases hfn:(fC (w / 2^(j+1) / 2) (Nat.log2 (w / 2^(j+1))-Nat.log2 v-1)).find? (lR d) with
  | none=>simpa using(Lz.1 hfn) n hn
  | some a=>
   rw[hfn,Option.some_or] at hf;obtain⟨t,e,ht⟩:=hpos a (A3 hfn);rw[jB hf,hdj] at e;exact absurd e (Bg (eK (fD aQ aQ) h1) aQ)
theorem Qu9 (h:jQ d R){k:BitVec 8}(hne:R≠[]){y:Nat × Nat}(hy:y∈iS k d R):lB k d y.1 y.2=true:=by
 have h64:=iG h.1;have hpow:2^(d+1)=2*2^d:=by rw[eS,eZ]
 have hy1:=(P1.1 hy).1;unfold lB;rw[cS hy1,jH];by_cases hk:k=1#8
 · subst hk;rw[aG rfl,(Rm h hne hy).2.2.2];rfl
 · rw[aH hk];have hv:=Qf6 h hne hy;have hout:=(Rn h hne hv y).1 ⟨hy,rfl⟩
   have hhd:oP d R (lJ k d R y)=true:=by
    unfold lJ;rw[aH hk];exact(Xo 7 y.1 hy1.1 (by have:=L0 hy1.1 hy1.2;have:=h.1;omega)).1
   generalize hve:lJ k d R y=v at *;obtain⟨v1,vl,v2⟩:=sZ h hv;obtain⟨f1,f2,f3,K,f4,f5,f6⟩:=zU h 7 v v1 vl (by have:=h.1;omega);unfold pV at hout;rw[aH hk,aG hhd] at hout;have cutc:=fun hs=>Qun (d:=d) (k:=k) (v:=v) (w:=eW d R 7 v) f4 f5 v1 hs;generalize hfe:eW d R 7 v=f at *;have hflt:f<2^(d+1):=(oQ aQ).1 aQ
   have two:∀ i j,i<j→j≤K→cI (f / 2^i) (f / 2^j)=true∧f / 2^i≠f / 2^j∧f / 2^i<2^(d+1)∧f / 2^i≠0:=by
    intro i j hij hj;have hi1:2^i≤f:=eK (fD aQ aQ) f4;have hj1:2^j≤f:=eK (fD aQ aQ) f4;have hp:=tS hi1;refine⟨(iZ hp).2 ⟨j-i,xU (by rw[yM aQ];exact hj1),?_⟩,Bg hj1 hij,rB (rF _ _) hflt,aQ⟩;rw[iB,←kO,yM aQ]
   by_cases hfv:f=v
   · rw[aG hfv] at hout;cases hout
   · rw[aH hfv] at hout
     have hK0:0<K:=by
      rcases rR K with e|e
      · subst e;simp at f5;exact absurd f5.symm hfv
      · exact e
     have t0:=two 0 K hK0 (eO _);rw[pR,yU,←f5] at t0
     cases hs:kQ k d v f with
     | true=>
      rw[hs,aG rfl,mY] at hout;subst hout;simp only;rw[aH t0.2.2.2,t0.1,hs,cS ⟨t0.2.2.1,t0.2.1⟩];rfl
     | false=>
      rw[hs,aH bW] at hout;obtain⟨j,j1,j2,j3,j4,j5⟩:=cutc hs;rw[j3] at hout;have t1:=two j K j2 (eO _);have t2:=two 0 j aQ aQ;rw[pR,yU] at t2;rw[←f5] at t1;rcases gW.1 hout with e|e
      · subst e;simp only;rw[aH t1.2.2.2,t1.1,j5,cS ⟨t1.2.2.1,t1.2.1⟩];rfl
      · rw[mY] at e;subst e;simp only;have:kQ k d (f / 2^j) f=true:=by unfold kQ;rw[j4];simp
        rw[aH t2.2.2.2,t2.1,this,cS ⟨t2.2.2.1,t2.2.1⟩];rfl
theorem Qmu {x:Nat}(h1:1≤x)(hl:Nat.log2 x≤d):∃ u,u<2^d∧cI (2^d+u) x=true:=by
 have hx1:2^Nat.log2 x≤x:=(A6 aQ).1 (eO _);have hx2:x<2^(Nat.log2 x+1):=(oQ aQ).1 aQ;have hp:2^d=2^Nat.log2 x*2^(d-Nat.log2 x):=by rw[←kO,yM hl]
 have hq:=fI (d-Nat.log2 x);have hlow:2^d≤x*2^(d-Nat.log2 x):=by rw[hp];exact gA _ hx1
 have hhigh:x*2^(d-Nat.log2 x)<2^d+2^d:=by
  have:x*2^(d-Nat.log2 x)<2^(Nat.log2 x+1)*2^(d-Nat.log2 x):=A9 hx2 hq;rw[eS,Qb9,←hp] at this;omega
 refine⟨x*2^(d-Nat.log2 x)-2^d,aQ,?_⟩;rw[yM hlow];exact(iZ (by have:=fI d;omega)).2 ⟨d-Nat.log2 x,Nat.le_mul_of_pos_left _ aQ,by rw[Nat.mul_div_cancel _ hq]⟩
theorem Xgz {k:BitVec 8}{n m:Nat}(h6:d≤6)(h:lB k d n m=true):∃ u,u<2^d∧jU (2^d+u) n m=true:=by
 have h64:=iG h6;have hpow:2^(d+1)=2*2^d:=by rw[eS,eZ]
 unfold lB at h;rw[fM,fT] at h;obtain⟨⟨h1,h2⟩,h3⟩:=h;by_cases hm:m=0
 · obtain⟨u,hu,hb⟩:=Qmu (d:=d) h1 (L0 h1 h2);exact⟨u,hu,rV.2 ⟨hb,.inl hm⟩⟩
 · by_cases hk:k=1#8
   · rw[aG hk] at h3;exact absurd (by simpa using h3) hm
   · rw[aH hk,aH hm,fM,fM,fT] at h3;obtain⟨⟨⟨a1,a2⟩,a3⟩,_⟩:=h3;have hm1:1≤m:=by omega
     obtain⟨t,t1,t2,t3⟩:=I7 hm1 h1 a3 a2;have hm2:2≤m:=eK (by have:=fD (n:=2) aQ (show 1≤t+1 by omega);simpa using this) t3;have hl:=L0 hm1 a1;have e1:=Qgh (n:=m) aQ;have e2:=Nc (n:=m) aQ hm2;have e3:=Af (n:=m) aQ hm2;have e4:=Ae (n:=m) aQ;have e5:=Qgi (n:=m) aQ;obtain⟨u,hu,hb⟩:=Qmu (d:=d) (x:=m ^^^ 1) aQ aQ;have hL:1≤2^d+u:=by have:=fI d;omega
     refine⟨u,hu,rV.2 ⟨Yz hL hb ((iZ aQ).2 ⟨t+1,?_,?_⟩),.inr ?_⟩⟩
     · have:=(A6 (n:=m) (k:=t+1) aQ).2 t3;exact(A6 aQ).1 aQ
     · rw[t2,eS,eZ,←iB,←iB,e4]
     · cases hb2:cI (2^d+u) m with
       | false=>rfl
       | true=>exact absurd (I6 hL hb hb2 e3) e5
def kL (k:BitVec 8)(d:Nat)(R:List Nat):List (Nat × Nat):=if R=[] then[(1,0)] else iS k d R
theorem Qu3 {k:BitVec 8}:yH (kL k d R):=by
 unfold kL;split
 · simp[yH]
 · exact Qc3
theorem Xcj {u:Nat}(hu:u<2^d):jU (2^d+u) 1 0=true:=by
 have hp:=fI d;exact rV.2 ⟨(iZ aQ).2 ⟨d,aQ,by rw[W8 _ hp,pF hu]⟩,.inl rfl⟩
theorem Rl (h:jQ d R){k:BitVec 8}{y:Nat × Nat}(hy:y∈kL k d R):lB k d y.1 y.2=true:=by
 unfold kL at hy;split at hy
 · rw[mY] at hy;subst hy;unfold lB;have:1<2^(d+1):=iC aQ (fD (n:=2) aQ (show 1≤d+1 by omega));rw[cS ⟨eO _,this⟩]
   split<;>simp
 · rename_i hne;exact Qu9 h hne hy
theorem Qu4 (h:jQ d R){k:BitVec 8}{y y':Nat × Nat}(hy:y∈kL k d R)(hy':y'∈kL k d R){u:Nat}(hu:u<2^d)(hm:jU (2^d+u) y.1 y.2=true)(hm':jU (2^d+u) y'.1 y'.2=true):y=y':=by
 unfold kL at hy hy';split at hy
 · rename_i hne;rw[aG hne] at hy';rw[mY] at hy hy';rw[hy,hy']
 · rename_i hne;rw[aH hne] at hy';exact Qub h hne hy hy' hu hm hm'
theorem Qu2 (h:jQ d R)(k:BitVec 8){u:Nat}(hu:u<2^d):((kL k d R).any fun y=>jU (2^d+u) y.1 y.2)=decide (u∉R):=by
 unfold kL;split
 · rename_i hne;subst hne;simp[Xcj hu]
 · rename_i hne;by_cases hr:u∈R
   · rw[cJ (by simpa using hr),Yg];intro y hy;rw[Qu7 h hne hy hu hr];simp
   · rw[cS hr,yF];exact Qu6 h hne hu hr
end Go.Sx

end
section
namespace Go.Sx
open Go
theorem vL {τ R:Type}(F:(τ→Option R)→τ→Option R)(I:Nat→τ→Prop)(n:Nat)(r:Option R)(hn:n<9223372036854775808){s:τ}(h0:I 0 s)(hs:∀ j s,j<n→I j s→∃ s',I (j+1) s'∧∀ rec,F rec s=rec s')(he:∀ s,I n s→∀ rec,F rec s=r):aC F aI s=r:=
 Qdv F I n r hs he n 0 aI s aQ (fQ hn) h0
section
variable {s:bX} {d:Nat}
theorem Qq1 (hv:gQ s=true)(hd:s.Depth=(d:Int))(h6:d≤6){n m:Nat}(hs:lB s.Kind d n m=true):oU s [⟨(n:Int),(m:Int)⟩]=some (eA s,0)∧uY s ⟨(n:Int),(m:Int)⟩=some true∧tL (eA s) ⟨(n:Int),(m:Int)⟩=some true∧V0 s ⟨(n:Int),(m:Int)⟩∧Vw s ⟨(n:Int),(m:Int)⟩ n m:=by
 have hi:=Qm6 hv hd h6 n m;rw[hs] at hi;rcases Xgy hv hd h6 ⟨(n:Int),(m:Int)⟩ with⟨_,f1,_⟩|⟨f0,f1,f2,f3,n',m',e,f5,f6⟩
 · rw[hi] at f1;cases f1
 · injection e with e1 e2;obtain rfl:n=n':=by omega
   obtain rfl:m=m':=by omega
   exact⟨f0,f1,f2,f3,f5⟩
theorem Qj0 (hv:gQ s=true)(hd:s.Depth=(d:Int)){l:List Int}(h:iJ d l=true):P0 s l=((kL s.Kind d (dD l)).map kC,0):=by
 unfold P0 kL dD;rw[aG hv,hd,jZ,aG h];by_cases hl:l=[]
 · rw[aG hl,aG (by simpa using hl)];rfl
 · rw[aH hl,aH (by simpa using hl)]
theorem Qon {l:List Int}(h:iJ d l=true){u:Nat}:u∈dD l↔(u:Int)∈l:=by
 unfold dD;rw[fP];constructor
 · rintro⟨a,ha,rfl⟩;obtain⟨w,rfl,_⟩:=Qeo h ha;rw[jZ];exact ha
 · intro h;exact⟨_,h,jZ u⟩
end
end Go.Sx

end
section
namespace Go.Sx
open Go
end Go.Sx

end
section
namespace Go.Sx
open Go
theorem Nb (x:BitVec 64)(n m:Nat)(h:n+m=64)(hn:0<n)(hm:0<m):qW (qW x n) m=x:=by
 unfold qW;apply V3;intro i hi;simp only[Lm,Yc,E0];by_cases h1:i<m
 · have h2:¬ (64-m+i<n):=by omega
   have h3:64-m+i<64:=by omega
   have h4:64-m+i-n=i:=by omega
   have h5:64≤64-n+(64-m+i):=by omega
   rw[h4,V4 x _ h5];simp[h1,hi,h2,h3]
 · have h2:i-m<n:=by omega
   have h3:64-n+(i-m)=i:=by omega
   have h4:64≤64-m+i:=by omega
   have h6:¬ 64-m+i<64:=by omega
   have h7:64≤64-n+(64-m+i):=by omega
   rw[h3,V4 x _ h7];simp[h1,hi,h2,h6]
theorem Qg9 (p:W2)(k:BitVec 64):rH (nC p k) k=p:=by
 obtain⟨a,b⟩:=p;unfold rH nC;simp only;have h1:∀ x y:BitVec 64,x ^^^ (y ^^^ x)=y:=fun x y=>by rw[BitVec.xor_comm y x,←Lr,Lu,BitVec.zero_xor]
 have h2:∀ x y:BitVec 64,(x ^^^ y) ^^^ y=x:=fun x y=>by rw[Lr,Lu,BitVec.xor_zero]
 rw[h1,h2,Nb b 3 61 aQ aQ aQ,BitVec.add_sub_cancel,Nb a 56 8 aQ aQ aQ]
theorem Nl (K:Nat→BitVec 64):∀ (n:Nat) (b:W2),(List.range n).foldl (fun p i=>rH p (K (n-1-i))) ((List.range n).foldl (fun p i=>nC p (K i)) b)=b
 | 0,b=>rfl
 | n+1,b=>by
  rw[show(List.range (n+1)).foldl (fun p i=>nC p (K i)) b=nC ((List.range n).foldl (fun p i=>nC p (K i)) b) (K n) from by rw[W7,Sd];rfl];rw[List.range_succ_eq_map,wN,show n+1-1-0=n from rfl,Qg9,List.foldl_map];have:=Nl K n b;rw[show(fun(p:W2) (i:Nat)=>rH p (K (n+1-1-i.succ)))=fun p i=>rH p (K (n-1-i)) from by funext p i;congr 2;omega];exact this
theorem Qck (k b:W2):rU k (mH k b)=b:=Nl (fun i=>(ks k i).2) 32 b
def zO (root:W2)(k:BitVec 8)(n m:Nat):W2:=
 if k=1#8 then cC root (aO 30#8) (wd (n:Int)) else if m=0 then cC root (aO 34#8) 0#64 else cC ((fC m (Nat.log2 m-Nat.log2 n)).foldl yX (cC root (aO 30#8) (wd (n:Int)))) (aO 33#8) 0#64
section
variable {s:bX} {d:Nat}
theorem Xdc (h6:d≤6){n m:Nat}(hs:lB s.Kind d n m=true)(root:W2):zD (eA s) root ⟨(n:Int),(m:Int)⟩=some (zO root s.Kind n m):=by
 obtain⟨hn1,hn2,hm2,hc⟩:=Qgq h6 hs;unfold zD zO zY Qo;rw[show(eA s).kind=s.Kind from rfl];by_cases hk:s.Kind=1#8
 · rw[aG hk,aG hk];rfl
 · rw[aH hk,aH hk];by_cases hm:m=0
   · rw[aG (by simp only;omega),aG hm]
   · rw[aH (by simp only;omega),aH hm]
     obtain⟨hb,hne⟩:cI m n=true∧m≠n:=by
      rcases hc with h|h|h
      · exact absurd h hk
      · exact absurd h hm
      · exact h
     obtain⟨t,t1,t2,t3⟩:=I7 aQ hn1 hb hne;have:=N6 t3 hm2;simp only;rw[aJ,t1];have hd:=Qcm (w:=m) (k:=t+1) (cC root (aO 30#8) (wd (n:Int))) aQ t3 aQ;rw[←t2] at hd;rw[hd,aJ,aJ]
theorem Xdb (hv:gQ s=true)(hd:s.Depth=(d:Int))(h6:d≤6){u n m:Nat}(hu:u<2^d)(hs:lB s.Kind d n m=true)(root:W2)(ui:Int)(pt:bN):
 Wx (eA s) (bU.mk ui (lS root s.Kind d u) pt) ⟨(n:Int),(m:Int)⟩=some (if jU (2^d+u) n m then(zO root s.Kind n m,true) else(k0,false)):=by
 obtain⟨e1,e2,e3,e4⟩:=Qms hv hd h6 hu;obtain⟨hn1,hn2,hm2,hc⟩:=Qgq h6 hs;have hlen:(lS root s.Kind d u).length=(jY s.Kind d u).length:=by simp[lS]
 unfold Wx
 have p1:=Pm (jY s.Kind d u) (D4 (eA s) (bU.mk ui (lS root s.Kind d u) pt) ⟨(n:Int),(m:Int)⟩) (fun j (_:Unit)=>(j:Int)) (fun a nx s'=>bif oD s.Kind n m a then some (zO root s.Kind n m,true) else nx s') (fun _=>some (k0,false))
  (fun rec j hj _=>by
   simp only[D4];have hj':j<(lS root s.Kind d u).length:=by omega
   have hok:=e4 _ (jJ hj);have ham:=jJ hj;rw[aG aQ,cF hj',aJ,show(lS root s.Kind d u)[j]=Xs root s.Kind (jY s.Kind d u)[j] from by simp[lS],fS aQ];generalize (jY s.Kind d u)[j]=a at *;rw[show Xs root s.Kind a=eR.mk (a.1:Int) (a.2:Int) (uQ root s.Kind a) from rfl,(Xb3 h6 hs ⟨hok.1.2.1,hok.1.2.2⟩ _).1,aJ]
   cases hl:oD s.Kind n m a with
   | false=>rfl
   | true=>
    simp only[fF,cH,dC];rw[show(eA s).kind=s.Kind from rfl];unfold Wy zO uQ;unfold oD at hl;by_cases hk:s.Kind=1#8
    · have h0:=Qmr hk a ham;rw[aG (.inl hk),fT] at hl;rw[aG hk,aG hk,dC];simp only;rw[aG h0,aG hk,hl.1]
    · rw[aH hk,aH hk];by_cases hm:m=0
      · rw[aG (.inr hm),fT] at hl;rw[cS aQ,dC,aG hm];simp only;rw[aG aQ,aH hk]
      · rw[aH (by rw[not_or];exact⟨hk,hm⟩)] at hl;simp only[fM,fT] at hl;obtain⟨⟨⟨ha1,ha2⟩,ha3⟩,ha4⟩:=hl;rw[cJ aQ,cH,aH hm];simp only;rw[aH aQ];obtain⟨i,i1,i2⟩:=Qsg aQ ha4;have hi6:=N6 i2 hm2;have hdl:=fun key=>Qcm (w:=m) (k:=i) key aQ i2 aQ;rw[←i1] at hdl;rw[hdl,aJ];unfold Qo;rw[aJ];have hlg:=kW m i i2;rw[←i1] at hlg;have hln:=Ff ha2 ha3
        rw[show Nat.log2 m-Nat.log2 n=(Nat.log2 a.2-Nat.log2 n)+i from by omega,Qf9,←i1,Sd,ha1,aH hk])
  (fun rec _=>by simp only[D4];rw[aH aQ]) (f:=aI) (fQ aQ) ()
 rw[show((0:Nat):Int)=0 from rfl] at p1;rw[p1,Qe7 (oD s.Kind n m) (fun _ _=>some (zO root s.Kind n m,true)) _ _ _ _ (fun a _ nx s=>rfl),Xb5 h6 hu hs];unfold Qeh
 cases(jY s.Kind d u).find? (oD s.Kind n m) with
 | none=>rfl
 | some a=>rfl
theorem Qpk (hv:gQ s=true)(hd:s.Depth=(d:Int)){u:Nat}(hu:u<2^d)(root:W2):Z8 root s (u:Int)=(bU.mk (u:Int) (lS root s.Kind d u) (bN.mk 0#64 0#64),0):=by
 unfold Z8;rw[aG hv,hd,jZ,aG aQ,jZ]
end
end Go.Sx

end
section
namespace Go.Sx
open Go
theorem Qzz {α β:Type}(f:α→β){l:List α}{m:List β}(hl:l.Nodup)(hf:∀ a∈l,f a∈m)(hi:∀ a∈l,∀ b∈l,f a=f b→a=b):l.length≤m.length:=by
 have h1:(l.map f).Nodup:=by
  rw[List.Nodup,uI];exact hl.imp_of_mem fun ha hb h e=>h (hi _ ha _ hb e)
 have h2:l.map f ⊆ m:=fun b hb=>by
  obtain⟨a,ha,rfl⟩:=fP.1 hb;exact hf a ha
 have:=h1.length_le_of_subset h2;rwa[fJ] at this
theorem Qs8 {l:List (Nat × Nat)}(h:yH l):l.Nodup:=h.imp fun h e=>by rw[e] at h;omega
theorem Qc2 {d:Nat}{R:List Nat}(h:jQ d R)(k:BitVec 8):(kL k d R).length≤2^d:=by
 have hm:∀ y:Nat × Nat,∃ u,y∈kL k d R→u<2^d∧jU (2^d+u) y.1 y.2=true:=fun y=>by
  by_cases hy:y∈kL k d R
  · obtain⟨u,h1,h2⟩:=Xgz h.1 (Rl h hy);exact⟨u,fun _=>⟨h1,h2⟩⟩
  · exact⟨0,fun h=>absurd h hy⟩
 let f:=fun y=>Classical.choose (hm y)
 have hf:∀ y∈kL k d R,f y<2^d∧jU (2^d+f y) y.1 y.2=true:=fun y hy=>yL (hm y) hy;have:=Qzz f (m:=List.range (2^d)) (Qs8 Qu3) (fun y hy=>tJ.2 (hf y hy).1) (fun a ha b hb e=>Qu4 h ha hb (hf a ha).1 (hf a ha).2 (by rw[e];exact(hf b hb).2));rwa[A1] at this
section
variable {s:bX} {d:Nat}
def zI (root gJ:W2)(k:BitVec 8)(y:Nat × Nat):gZ:=gZ.mk (kC y) (mH (zO root k y.1 y.2) gJ)
def mT (root gJ:W2)(k:BitVec 8)(l:List (Nat × Nat)):bT:=bT.mk (l.map (zI root gJ k)) 0#64 [] k0 (cC gJ (aO 53#8) 0#64)
theorem Ft (s:bX):vH s=some (if gQ s then 0 else 30):=by
 unfold vH;rw[Ni,aJ];cases gQ s<;>rfl
theorem Qy5 (hv:gQ s=true)(hd:s.Depth=(d:Int))(h6:d≤6)(l:List (Nat × Nat))(hl:∀ y∈l,lB s.Kind d y.1 y.2=true)(hlen:l.length<4611686018427387904):oU s (l.map kC)=some (eA s,0):=by
 unfold oU;rw[Ni,aJ,aG hv];simp only[fF,cH];refine vL _ (fun j x=>x=(j:Int)) l.length _ aQ rfl ?_ ?_
 · rintro j _ hj rfl;refine⟨_,rfl,fun rec=>?_⟩;simp only[zV];rw[aG (by simp;omega),cF (by simpa using hj),aJ,oR,show kC l[j]=⟨(l[j].1:Int),(l[j].2:Int)⟩ from rfl,(Qq1 hv hd h6 (hl _ (jJ hj))).2.2.1,aJ,fS aQ];rfl
 · rintro _ rfl rec;simp only[zV];rw[aH bW]
theorem Uj (hv:gQ s=true)(hd:s.Depth=(d:Int))(h6:d≤6)(l:List (Nat × Nat))(hl:∀ y∈l,lB s.Kind d y.1 y.2=true)(hlen:l.length≤64)(root gJ:W2):Wq root s (l.map kC) gJ=some (mT root gJ s.Kind l,0):=by
 unfold Wq;rw[Ft,aJ,aG hv,aH bW,aH (by simp;omega),Qy5 hv hd h6 l hl aQ,aJ,aH bW];refine vL _ (fun j x=>x=((j:Int),(l.take j).map (zI root gJ s.Kind))) l.length _ aQ bW ?_ ?_
 · rintro j _ hj rfl;refine⟨_,rfl,fun rec=>?_⟩;simp only[Qj];rw[aG (by simp;omega),cF (by simpa using hj),aJ,oR,show kC l[j]=⟨(l[j].1:Int),(l[j].2:Int)⟩ from rfl,Xdc h6 (hl _ (jJ hj)),aJ,mW (by simp;omega),aJ,fS aQ,Vd l j hj,qB];rfl
 · rintro _ rfl rec;simp only[Qj];rw[aH bW,Sl];rfl
theorem Xdm (hv:gQ s=true)(hd:s.Depth=(d:Int))(h6:d≤6){u:Nat}(hu:u<2^d)(l:List (Nat × Nat))(hl:∀ y∈l,lB s.Kind d y.1 y.2=true)(hlen:l.length≤64)(root gJ:W2)(ui:Int)(pt:bN):
 Qi s (bU.mk ui (lS root s.Kind d u) pt) (mT root gJ s.Kind l)=some (if l.any (fun y=>jU (2^d+u) y.1 y.2) then(gJ,0) else(k0,6)):=by
 unfold Qi;rw[Qd7,aJ,aG hv,aH bW,aH (by simp[mT];omega),aH (by simp[mT]),aH (by simp[mT]),aH (by simp[mT])]
 have hc:Nd (mT root gJ s.Kind l).Items (eA s)=some false:=by
  rw[show(mT root gJ s.Kind l).Items=l.map (zI root gJ s.Kind) from rfl];unfold Nd Ar
  have:aC (C7 (l.map (zI root gJ s.Kind)) (eA s)) aI 0=some (-1):=by
   refine vL _ (fun j x=>x=(j:Int)) l.length _ aQ rfl ?_ ?_
   · rintro j _ hj rfl;refine⟨_,rfl,fun rec=>?_⟩;simp only[C7];rw[aG (by simp;omega),cF (by simpa using hj),aJ,oR];unfold Rq;rw[show(zI root gJ s.Kind l[j]).Subset=⟨(l[j].1:Int),(l[j].2:Int)⟩ from rfl,(Qq1 hv hd h6 (hl _ (jJ hj))).2.2.1,aJ,aJ,fS aQ];rfl
   · rintro _ rfl rec;simp only[C7];rw[aH bW]
  rw[this,aJ];rfl
 simp only;rw[hc,aJ];unfold zJ;rw[cH]
 have p1:=Pm l (P6 (bU.mk ui (lS root s.Kind d u) pt) (mT root gJ s.Kind l) (eA s,0)) (fun j (_:Unit)=>(j:Int)) (fun y nx s'=>bif jU (2^d+u) y.1 y.2 then some (gJ,0) else nx s') (fun _=>some (k0,6))
  (fun rec j hj _=>by
   simp only[P6];rw[aG (by simp[mT];omega),show bJ (mT root gJ s.Kind l).Items (j:Int)=some (zI root gJ s.Kind l[j]) from by unfold mT;rw[cF (by simpa using hj),oR],aJ,show(zI root gJ s.Kind l[j]).Subset=⟨(l[j].1:Int),(l[j].2:Int)⟩ from rfl,Xdb hv hd h6 hu (hl _ (jJ hj)),aJ,fS aQ]
   cases jU (2^d+u) l[j].1 l[j].2 with
   | false=>rfl
   | true=>
    simp only[lU,dC]
    rw[show(zI root gJ s.Kind l[j]).Box=mH (zO root s.Kind l[j].1 l[j].2) gJ from rfl,Qck,aG (show cC gJ (aO 53#8) 0#64=(mT root gJ s.Kind l).Check from rfl)])
  (fun rec _=>by simp only[P6];rw[aH (by simp[mT])]) (f:=aI) (fQ aQ) ()
 rw[show((0:Nat):Int)=0 from rfl] at p1;rw[p1,Qe7 (fun y:Nat × Nat=>jU (2^d+u) y.1 y.2) (fun _ _=>some (gJ,0)) _ _ _ _ (fun a _ nx s=>rfl)]
 cases hf:l.find? (fun y:Nat × Nat=>jU (2^d+u) y.1 y.2) with
 | none=>rw[Yg.2 (fun a ha=>(Lz.1 hf) a ha)];rfl
 | some a=>rw[yF.2 ⟨a,A3 hf,Sa hf⟩];rfl
end
end Go.Sx

end
