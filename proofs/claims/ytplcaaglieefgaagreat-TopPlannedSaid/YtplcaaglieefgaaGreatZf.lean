/- Several texts in one: Vb Vp Kya Tm Cv Fd Kn Cp Alv Cx Mm Kv Fk Sv Fq Ls Pse Byp. -/
import Derived.Test.YtplcaaglieefgaaGreatZe
set_option linter.unusedVariables false
set_option linter.unusedSectionVars false
set_option linter.unusedSimpArgs false
set_option maxRecDepth 100000
section
namespace Go.Sx.Po
open Go
theorem rV {τ R:Type}(F:(τ→Option R)→τ→Option R)(I:Nat→τ→Prop)(n:Nat)(r:Option R)(hn:n<9223372036854775808){s:τ}(h0:I 0 s)(hs:∀ j s,j<n→I j s→∃ s',I (j+1) s'∧∀ rec,F rec s=rec s')(he:∀ s,I n s→∀ rec,F rec s=r):aS F aI s=r:=
 O9 F I n r hs he n 0 aI s (by omega) (fI hn) h0
def lJ (l:List (BitVec 8)):BitVec 64:=l.foldl (fun n c=>256#64*n+c.setWidth 64) 0#64
theorem Em (a:BitVec 64)(c:BitVec 8):(a <<< 8) ||| (c.setWidth 64)=256#64*a+c.setWidth 64:=by
 have e1:256#64*a=a <<< 8:=by
  apply BitVec.eq_of_toNat_eq;rw[BitVec.toNat_mul,BitVec.toNat_shiftLeft,Nat.shiftLeft_eq,Nat.mul_comm];rfl
 rw[e1]
 symm
 apply BitVec.add_eq_or_of_and_eq_zero;apply BitVec.eq_of_getLsbD_eq;intro j hj;rw[BitVec.getLsbD_and,BitVec.getLsbD_shiftLeft,BitVec.getLsbD_setWidth,BitVec.getLsbD_zero];by_cases h:j<8
 · simp[h]
 · simp[BitVec.getLsbD_of_ge c j (by omega)]
theorem Gj (l:List (BitVec 8))(c:BitVec 8):lJ (l++[c])=256#64*lJ l+c.setWidth 64:=by simp[lJ]
theorem Qvy (x:BitVec 64)(s:Nat):256#64*(x >>> (s+8))+((x >>> s).setWidth 8).setWidth 64=x >>> s:=by
 rw[←Em];apply BitVec.eq_of_getLsbD_eq;intro i hi;simp only[BitVec.getLsbD_or,BitVec.getLsbD_shiftLeft,BitVec.getLsbD_ushiftRight,BitVec.getLsbD_setWidth];by_cases h:i<8
 · simp[h,hi]
 · simp[h,hi,show s+8+(i-8)=s+i from by omega]
theorem Ag (x:BitVec 64):lJ (w8 x)=x:=by
 have h0:lJ []=x >>> 64:=by
  apply BitVec.eq_of_getLsbD_eq;intro i hi;rw[BitVec.getLsbD_ushiftRight,BitVec.getLsbD_of_ge x _ (by omega)];simp[lJ]
 have st:∀ (l:List (BitVec 8)) (i:Nat),i≤7→lJ l=x >>> (56-8*i+8)→lJ (l++[fR x i])=x >>> (56-8*i):=fun l i hi hl=>by
  rw[Gj,hl];exact Qvy x (56-8*i)
 have h1:=st [] 0 (by omega) h0;have h2:=st _ 1 (by omega) h1;have h3:=st _ 2 (by omega) h2;have h4:=st _ 3 (by omega) h3;have h5:=st _ 4 (by omega) h4;have h6:=st _ 5 (by omega) h5;have h7:=st _ 6 (by omega) h6;have h8:=st _ 7 (by omega) h7;rw[show 56-8*7=0 from rfl,BitVec.ushiftRight_zero] at h8;exact h8
theorem Qhn (l:List (BitVec 8))(hx:l.length≤1000):∀ (m i fuel:Nat),l.length-i=m→i≤l.length→m<fuel→aS (Dc l) fuel (lJ (l.take i),(i:Int))=some (lJ l)
 | m,i,0,_,_,hf=>by omega
 | 0,i,fuel+1,hm,hi,hf=>by
  rw[eQ];simp only[Dc];rw[if_neg (by omega),List.take_of_length_le (by omega)]
 | m+1,i,fuel+1,hm,hi,hf=>by
  rw[eQ];simp only[Dc];rw[if_pos (by omega),eG (by omega),bind_some,←Gj,←B2 _ _ (by omega),dO (by omega) (by omega)];exact Qhn l hx m (i+1) fuel (by omega) (by omega) (by omega)
theorem Qy3 (l:List (BitVec 8))(h:l.length≤1000):Qfj l=some (lJ l):=Qhn l h _ 0 aI rfl (by omega) (fI (by omega))
theorem Qdl (k:W2):cI k=w8 k.1++w8 k.2:=rfl
theorem Qyz (k:W2)(A B:List (BitVec 8))(hA:A.length=8)(hB:B.length=8)(hk:cI k=A++B):J0 k=some ⟨lJ A,lJ B⟩:=by
 unfold J0;refine rV _ (fun j x=>x=((j:Int),lJ (A.take j),lJ (B.take j))) 8 _ (by omega) (by simp[lJ]) ?_ ?_
 · rintro j _ hj rfl;refine⟨_,rfl,fun rec=>?_⟩;have h1:j<A.length:=by omega
   have h2:j<B.length:=by omega
   have g1:bG (cI k) (j:Int)=some A[j]:=by rw[hk,eG (by rw[List.length_append];omega),List.getElem_append_left h1]
   have g2:bG (cI k) ((8+j:Nat):Int)=some B[j]:=by
    rw[hk,eG (by rw[List.length_append];omega),List.getElem_append_right (by omega)];congr 2;omega
   simp only[J1];rw[if_pos (by omega),show eK (un 8#64)=some 8 from by decide,bind_some,g1,bind_some,bind_some,dO (n:=8+(j:Int)) (by omega) (by omega),show(8:Int)+(j:Int)=((8+j:Nat):Int) from by omega,g2,bind_some,Em,Em,←Gj,←Gj,←B2 _ _ h1,←B2 _ _ h2,gR (by omega)]
 · rintro _ rfl rec;simp only[J1];rw[if_neg (by omega),List.take_of_length_le (by omega),List.take_of_length_le (by omega)]
theorem Qz0 (k:W2):J0 k=some ⟨k.1,k.2⟩:=by
 rw[Qyz k _ _ (Na _) (Na _) (Qdl k),Ag,Ag]
theorem Qej (k:W2)(n m:BitVec 64)(hm:m≠0#64):wF k n m=some ((cX k (aC 3#8) n).1%m):=by
 unfold wF;rw[if_neg hm,Qz0,bind_some];simp only;unfold gY;rw[if_neg hm];rfl
theorem Qv7 (k:W2)(n m:BitVec 64)(hm:m≠0#64):Ur k n m=some ((cX k (aC 3#8) n).1%m):=by
 unfold Ur;rw[if_neg hm,List.drop_zero,Qdl,List.take_left' (Na _),Qy3 _ (by rw[Na];omega),bind_some,Ag];unfold gY;rw[if_neg hm];rfl
end Go.Sx.Po

end
section
namespace Go.Sx.Po
open Go
def pW (p q g:Nat):Prop:=(p≤1048575∧iI p)∧(q≤1048575∧iI q)∧(p-1)%q=0∧2≤g∧g<p∧g^q%p=1
theorem Qp3 {p q g:Nat}(hp:p<18446744073709551616)(hq:q<18446744073709551616)(hg:g<18446744073709551616):
 ∃ b,yH ⟨bn p,bn q,bn g⟩=some (if b=true then 0 else 13)∧Uq ⟨bn p,bn q,bn g⟩=some b∧(b=true↔pW p q g):=by
 obtain⟨b1,e1,i1⟩:=Ps hp;obtain⟨b2,e2,i2⟩:=Ps hq;unfold yH Uq;simp only;rw[e1,bind_some,show(1048575#64)=bn 1048575 from rfl];have no:∀ (h:¬ pW p q g),(false=true↔pW p q g):=fun h=>⟨(fun e=>by cases e),fun e=>absurd e h⟩;by_cases hP:p≤1048575∧iI p
 · have c0:¬ bn 1048575<bn p:=fun h=>by have:=(iK (by omega) hp).1 h;omega
   rw[i1.2 hP,if_neg c0];obtain⟨c1,f1,j1⟩:=Yt hP.1;rw[f1,bind_some,j1.2 hP.2];simp only[Bool.not_true,cond_false];rw[e2,bind_some];by_cases hQ:q≤1048575∧iI q
   · have c0':¬ bn 1048575<bn q:=fun h=>by have:=(iK (by omega) hq).1 h;omega
     rw[i2.2 hQ,if_neg c0'];obtain⟨c2,f2,j2⟩:=Yt hQ.1;rw[f2,bind_some,j2.2 hQ.2];simp only[Bool.not_true,cond_false];have hp2:=hP.2.1;have hq2:=hQ.2.1;rw[show(1#64)=bn 1 from rfl,Z8 hp (by omega),jD (by omega) (by omega) hq,bind_some,bind_some];have hmod:=Nat.mod_lt (p-1) (show 0<q by omega);unfold rS L2;simp only;by_cases hz:(p-1)%q=0
     · rw[hz,if_neg (by simp),decide_eq_false (by simp),cond_false,show(2#64)=bn 2 from rfl];by_cases h2:2≤g
       · have c3:¬ bn g<bn 2:=fun h=>by have:=(iK hg (by omega)).1 h;omega
         have c4:bn 2≤bn g:=(mO (by omega) hg).2 h2;rw[if_neg c3,if_pos c4];by_cases h3:g<p
         · have c5:¬ bn p≤bn g:=fun h=>by have:=(mO hp hg).1 h;omega
           have c6:bn g<bn p:=(iK hg hp).2 h3;rw[if_neg c5,if_pos c6,My hg hq (by omega) (by omega),Qv9 hg hq (by omega) (by omega),bind_some,bind_some];have hpm:=Nat.mod_lt (g^q) (show 0<p by omega);have hone:bn (g^q%p)=bn 1↔g^q%p=1:=pD (by omega) (by omega);refine⟨decide (bn (g^q%p)=bn 1),?_,rfl,?_⟩
           · by_cases h4:bn (g^q%p)=bn 1
             · rw[decide_eq_false (by simpa using h4),decide_eq_true h4];rfl
             · rw[decide_eq_true h4,decide_eq_false h4];rfl
           · rw[decide_eq_true_eq,hone];exact⟨fun h=>⟨hP,hQ,hz,h2,h3,h⟩,fun h=>h.2.2.2.2.2⟩
         · have c5:bn p≤bn g:=(mO hp hg).2 (by omega);have c6:¬ bn g<bn p:=fun h=>h3 ((iK hg hp).1 h);rw[if_pos c5,if_neg c6];exact⟨false,rfl,rfl,no fun h=>h3 h.2.2.2.2.1⟩
       · have c3:bn g<bn 2:=(iK hg (by omega)).2 (by omega);have c4:¬ bn 2≤bn g:=fun h=>h2 ((mO (by omega) hg).1 h);rw[if_pos c3,if_neg c4];exact⟨false,rfl,rfl,no fun h=>h2 h.2.2.2.1⟩
     · have hz':bn ((p-1)%q)≠0#64:=fun h=>hz ((pD (b:=0) (by omega) (by omega)).1 h);rw[if_pos hz',decide_eq_true hz'];exact⟨false,rfl,rfl,no fun h=>hz h.2.2.1⟩
   · have hb2:b2=false:=by cases b2 with|false=>rfl|true=>exact absurd (i2.1 rfl) hQ
     rw[hb2];refine⟨false,rfl,?_,no fun h=>hQ h.2.1⟩;by_cases hg':1048575<q
     · have c0':bn 1048575<bn q:=(iK (by omega) hq).2 hg';rw[if_pos c0'];rfl
     · have c0':¬ bn 1048575<bn q:=fun h=>hg' ((iK (by omega) hq).1 h);rw[if_neg c0'];obtain⟨c2,f2,j2⟩:=Yt (n:=q) (by omega);have:c2=false:=by cases c2 with|false=>rfl|true=>exact absurd ⟨by omega,j2.1 rfl⟩ hQ
       rw[f2,bind_some,this];rfl
 · have hb1:b1=false:=by cases b1 with|false=>rfl|true=>exact absurd (i1.1 rfl) hP
   rw[hb1];refine⟨false,rfl,?_,no fun h=>hP h.1⟩;by_cases hg':1048575<p
   · have c0:bn 1048575<bn p:=(iK (by omega) hp).2 hg';rw[if_pos c0];rfl
   · have c0:¬ bn 1048575<bn p:=fun h=>hg' ((iK (by omega) hp).1 h);rw[if_neg c0];obtain⟨c1,f1,j1⟩:=Yt (n:=p) (by omega);have:c1=false:=by cases c1 with|false=>rfl|true=>exact absurd ⟨by omega,j1.1 rfl⟩ hP
     rw[f1,bind_some,this];rfl
theorem Uj:∀ d:Fin 7,vL (d.1:Int)=some ((2^d.1:Nat):Int):=by decide +kernel
theorem Da {d:Nat}(h:d≤6):vL (d:Int)=some ((2^d:Nat):Int):=Uj ⟨d,by omega⟩
theorem Qw0:∀ d:Fin 7,cW 1 d.1=((2^d.1:Nat):Int):=by decide +kernel
theorem zD {d:Nat}(h:d≤6):cW 1 d=((2^d:Nat):Int):=Qw0 ⟨d,by omega⟩
theorem vC (n:Nat):eK (n:Int)=some n:=by unfold eK;rw[if_pos (by omega)];rfl
theorem fO {d:Nat}(h:d≤6):2^d≤64:=Nat.le_trans (Nat.pow_le_pow_right (by omega) h) (by decide)
theorem C5 (n:Nat):wd (n:Int)=bn n:=by unfold wd bn;exact BitVec.ofInt_natCast 64 n
structure gC (s:aF)(d t p q g:Nat):Prop where
 kind:s.Kind=4#8
 depth:s.Depth=(d:Int)
 deg:s.Degree=(t:Int)
 d6:d≤6
 t1:1≤t
 t8:t≤8
 grp:s.Group=⟨bn p,bn q,bn g⟩
 ok:pW p q g
 big:2^d+t<q
theorem Zu (s:aF):(jE s=some false∧Ed s=some false)∨(jE s=some true∧Ed s=some true∧∃ d t p q g,gC s d t p q g):=by
 obtain⟨kd,dp,dg,⟨P,Q,G⟩⟩:=s;obtain⟨p,hp,rfl⟩:=Z7 P;obtain⟨q,hq,rfl⟩:=Z7 Q;obtain⟨g,hg,rfl⟩:=Z7 G;unfold jE Ed zW;simp only;by_cases h1:kd=4#8
 · rw[if_pos h1,if_neg (show ¬ kd≠4#8 from fun h=>h h1)];by_cases h2:0≤dp
   · rw[if_pos h2,if_neg (show ¬ dp<0 by omega)];by_cases h3:dp≤6
     · rw[if_pos h3,if_neg (show ¬ 6<dp by omega)];by_cases h4:1≤dg
       · rw[if_pos h4,if_neg (show ¬ dg<1 by omega)];by_cases h5:dg≤8
         · rw[if_pos h5,if_neg (show ¬ 8<dg by omega)];obtain⟨b,e1,e2,i⟩:=Qp3 hp hq hg;rw[e1,e2,bind_some,bind_some]
           cases b with
           | false=>exact .inl ⟨rfl,rfl⟩
           | true=>
            obtain⟨d,rfl⟩:∃ d:Nat,dp=(d:Int):=⟨dp.toNat,by omega⟩;obtain⟨t,rfl⟩:∃ t:Nat,dg=(t:Int):=⟨dg.toNat,by omega⟩;have h64:=fO (d:=d) (by omega);have hpp:=Nat.two_pow_pos d;simp only[Bool.not_true,cond_false,if_true];rw[vC,bind_some,Da (by omega),bind_some,zD (by omega),dO (by omega) (by omega),show((2^d:Nat):Int)+(t:Int)=((2^d+t:Nat):Int) from by omega,C5];by_cases cP:2^d+t<q
            · rw[decide_eq_true ((iK (by omega) hq).2 cP)];exact .inr ⟨rfl,rfl,d,t,p,q,g,⟨h1,rfl,rfl,by omega,by omega,by omega,rfl,i.1 rfl,cP⟩⟩
            · rw[decide_eq_false (fun h=>cP ((iK (by omega) hq).1 h))];exact .inl ⟨rfl,rfl⟩
         · rw[if_neg h5,if_pos (show 8<dg by omega)];exact .inl ⟨rfl,rfl⟩
       · rw[if_neg h4,if_pos (show dg<1 by omega)];exact .inl ⟨rfl,rfl⟩
     · rw[if_neg h3,if_pos (show 6<dp by omega)];exact .inl ⟨rfl,rfl⟩
   · rw[if_neg h2,if_pos (show dp<0 by omega)];exact .inl ⟨rfl,rfl⟩
 · rw[if_neg h1,if_pos (show kd≠4#8 from h1)];exact .inl ⟨rfl,rfl⟩
theorem gC.qb {s:aF}{d t p q g:Nat}(h:gC s d t p q g):2≤q∧q≤1048575:=⟨h.ok.2.1.2.1,h.ok.2.1.1⟩
theorem gC.pb {s:aF}{d t p q g:Nat}(h:gC s d t p q g):2≤p∧p≤1048575:=⟨h.ok.1.2.1,h.ok.1.1⟩
def Ln (root:W2)(q i:Nat):Nat:=(cX (cX root (aC 40#8) 0#64) (aC 3#8) (bn i)).1.toNat%q
def nN (root:W2)(q t:Nat):List Nat:=(List.range (t+1)).map (Ln root q)
theorem Lp {root:W2}{q t:Nat}(hq:0<q):∀ c∈nN root q t,c<q:=by
 intro c hc;obtain⟨i,_,rfl⟩:=List.mem_map.1 hc;exact Nat.mod_lt _ hq
theorem Qec (x:BitVec 64){q:Nat}(hq:0<q)(hq2:q<18446744073709551616):x%bn q=bn (x.toNat%q):=by
 apply BitVec.eq_of_toNat_eq;have:=Nat.mod_lt x.toNat hq;rw[BitVec.toNat_umod,gU hq2,gU (by omega)]
theorem Jv {q:Nat}(hq:0<q)(hq2:q<18446744073709551616):bn q≠0#64:=fun h=>by have:=(pD (b:=0) hq2 (by omega)).1 h;omega
theorem Qgd {s:aF}{d t p q g:Nat}(h:gC s d t p q g)(root:W2):vG root s=some ((nN root q t).map bn):=by
 obtain⟨q1,q2⟩:=h.qb;have ht:=h.t8;unfold vG;rw[h.deg,dO (by omega) (by omega),show(t:Int)+1=((t+1:Nat):Int) from by omega,T1,if_pos (by omega),bind_some,Int.toNat_natCast];refine rV _ (fun j x=>x=((List.range (t+1)).map (fun i=>if i<j then bn (Ln root q i) else 0#64),(j:Int))) (t+1) _ (by omega) ?_ ?_ ?_
 · congr 1;apply List.ext_getElem
   · simp
   · intro i _ _;simp
 · rintro j _ hj rfl;refine⟨_,rfl,fun rec=>?_⟩;simp only[N9];have hjl:j<((List.range (t+1)).map (fun i=>if i<j then bn (Ln root q i) else 0#64)).length:=by simpa using hj
   rw[if_pos (by simp;omega),h.grp,C5];simp only;rw[Qej _ _ _ (Jv (by omega) (by omega)),bind_some,eG hjl,bind_some,Int.toNat_natCast,gR (by omega),Qec _ (by omega) (by omega)];congr 2;apply List.ext_getElem
   · simp
   · intro i h1 h2;rw[List.getElem_set];simp only[List.getElem_map,List.getElem_range];by_cases e:j=i
     · subst e;rw[if_pos rfl,if_pos (by omega)];rfl
     · rw[if_neg e];by_cases e2:i<j
       · rw[if_pos e2,if_pos (by omega)]
       · rw[if_neg e2,if_neg (by omega)]
 · rintro _ rfl rec;simp only[N9];rw[if_neg (by simp)];congr 1;unfold nN;rw[List.map_map];apply List.map_congr_left;intro i hi;rw[if_pos (List.mem_range.1 hi)];rfl
def mH (l:List Nat)(x:Nat):Nat:=l.foldr (fun c a=>c+x*a) 0
theorem Cc {q a b:Nat}(hq:2≤q)(hq2:q≤1048575)(ha:a<q)(hb:b<q):rC (bn q) [bn a,bn b]=some (bn (a*b%q)):=by
 unfold rC;have hab:a*b<18446744073709551616:=Nat.lt_of_le_of_lt (Nat.mul_le_mul (Nat.le_of_lt ha) (Nat.le_of_lt hb)) (by have:=Nat.mul_le_mul hq2 hq2;omega);rw[show aI=18446744073709551613+1+1+1 from rfl,eQ];simp only[zX];rw[if_pos (by simp),show bG [bn a,bn b] 0=some (bn a) from rfl,bind_some,show(1#64)=bn 1 from rfl,qF,Nat.one_mul,jD (by omega) (by omega) (by omega),bind_some,Nat.mod_eq_of_lt ha,show aX (0+1)=1 from by decide,eQ];simp only[zX];rw[if_pos (by simp),show bG [bn a,bn b] 1=some (bn b) from rfl,bind_some,qF,jD hab (by omega) (by omega),bind_some,show aX (1+1)=2 from by decide,eQ];simp only[zX];rw[if_neg (by simp)]
theorem It (l:List (BitVec 64))(hl:l.length<4611686018427387904):∀ (k f:Nat),k≤l.length→k<f→aS (zT l) f ((k:Int)-1)=some ((List.range k).reverse.map fun i:Nat=>((i:Int),l.getD i 0#64))
 | k,0,_,h=>by omega
 | 0,f+1,_,_=>by
  rw[eQ];simp only[zT];rw[if_neg (by omega)];rfl
 | k+1,f+1,hk,hf=>by
  rw[eQ];simp only[zT];rw[show((k+1:Nat):Int)-1=(k:Int) from by omega,if_pos (by omega),eG (by omega),bind_some,dO (by omega) (by omega),It l hl k f (by omega) (by omega),Qz8,List.range_succ,List.reverse_append,List.map_append];have hkk:k<l.length:=by omega
  simp[hkk]
theorem Io {q x:Nat}(hq:2≤q)(hq2:q≤1048575)(hx:x<q)(l:List Nat)(hl:∀ c∈l,c<q):∀ (k:Nat),k≤l.length→eS (N8 (bn q) (bn x)) Xj ((List.range k).reverse.map fun i:Nat=>((i:Int),(l.map bn).getD i 0#64)) (bn (mH (l.drop k) x%q))=some (bn (mH l x%q))
 | 0,_=>by rw[List.drop_zero];rfl
 | k+1,hk=>by
  have hkl:k<l.length:=by omega
  rw[List.range_succ,List.reverse_append,List.map_append,show([k].reverse.map fun i:Nat=>((i:Int),(l.map bn).getD i 0#64))=[((k:Int),bn l[k])] from by simp[List.getD,hkl],List.singleton_append,rH];simp only[N8];have hc:=hl _ (List.getElem_mem hkl);have hm:=Nat.mod_lt (mH (l.drop (k+1)) x) (show 0<q by omega);have hm2:=Nat.mod_lt (mH (l.drop (k+1)) x%q*x) (show 0<q by omega);rw[Cc hq hq2 hm hx,bind_some,Z6,jD (by omega) (by omega) (by omega),bind_some]
  have he:(mH (l.drop (k+1)) x%q*x%q+l[k])%q=mH (l.drop k) x%q:=by
   rw[List.drop_eq_getElem_cons hkl,show mH (l[k]::l.drop (k+1)) x=l[k]+x*mH (l.drop (k+1)) x from rfl,Nat.mod_mul_mod,Nat.mod_add_mod,Nat.add_comm,Nat.mul_comm]
  rw[he];exact Io hq hq2 hx l hl k (by omega)
theorem Im {q x:Nat}(hq:2≤q)(hq2:q≤1048575)(hx:x<q)(l:List Nat)(hl:∀ c∈l,c<q)(hlen:l.length<4611686018427387904):N7 (l.map bn) (bn q) (bn x)=some (bn (mH l x%q)):=by
 unfold N7 Tu Tt;rw[bind_some,dO (by rw[List.length_map];omega) (by rw[List.length_map];omega),It _ (by rw[List.length_map];exact hlen) _ aI (Nat.le_refl _) (fI (by rw[List.length_map];omega)),bind_some,List.length_map];have:=Io hq hq2 hx l hl l.length (Nat.le_refl _);rw[List.drop_length,show mH [] x%q=0 from by simp[mH]] at this;exact this
end Go.Sx.Po

end
section
noncomputable section
namespace Go.Sx.Ep
open Go Go.Sx
theorem Kb (s:aF):qR s=some (if eO s then 0 else 30)∧Qfk s=some (if eO s then 0 else 30):=by
 unfold qR Qfk;constructor
 · rw[Zs,bind_some];cases hv:eO s<;>rfl
 · rw[Go.Sx.Zu,bind_some];cases hv:eO s<;>rfl
theorem Qps (k:BitVec 8):(k<1#8∨(5:Int)≤aC k)∨((aC k=1∨aC k=2∨aC k=3)∧1#8≤k∧k≤3#8∧k≠4#8∧¬ k<1#8∧¬ (5:Int)≤aC k)∨(k=4#8∧aC k=4∧¬ (aC k=1∨aC k=2∨aC k=3)):=by
 unfold aC;have h4:k=4#8↔k.toNat=4:=⟨fun h=>by rw[h];rfl,fun h=>BitVec.eq_of_toNat_eq h⟩;rw[BitVec.lt_def,BitVec.le_def,BitVec.le_def,ne_eq,h4];have e1:(1#8).toNat=1:=rfl;have e3:(3#8).toNat=3:=rfl;rw[e1,e3];omega
theorem Qd0 {τ R:Type}(F:(τ→Option R)→τ→Option R)(I:Nat→τ→Prop)(n:Nat)(r:Option R)(hn:n<9223372036854775808){s:τ}(h0:I 0 s)(hs:∀ j s,j<n→I j s→∃ s',I (j+1) s'∧∀ rec,F rec s=rec s')(he:∀ s,I n s→∀ rec,F rec s=r):aS F aI s=r:=
 O9 F I n r hs he n 0 aI s (by omega) (fI hn) h0
end Go.Sx.Ep

end
section
namespace Go.Sx
open Go
theorem fE {w v:Nat}(hw:1≤w):cJ w v=true↔∃ k,2^k≤w∧v=w / 2^k:=by
 constructor
 · intro h;unfold cJ at h;obtain⟨h1,h2⟩:=of_decide_eq_true h;exact⟨_,Nat.le_trans (Nat.pow_le_pow_right (by omega) (by omega)) (Nat.log2_self_le (by omega)),h2.symm⟩
 · rintro⟨k,h1,rfl⟩;unfold cJ;have h2:=Bv h1;have h3:=iL w k h1;apply decide_eq_true;refine⟨by omega,?_⟩;rw[h2,show Nat.log2 w-(Nat.log2 w-k)=k from by omega]
theorem Lc {w:Nat}(hw:1≤w):cJ w w=true:=(fE hw).2 ⟨0,by simpa using hw,by simp⟩
theorem Oc {w v:Nat}(hw:1≤w)(h:cJ w v=true):1≤v:=by
 obtain⟨k,h1,rfl⟩:=(fE hw).1 h;exact pS h1
theorem rM {w i j:Nat}(h:2^(i+j)≤w):2^j≤w / 2^i:=by
 rw[Nat.le_div_iff_mul_le (Nat.two_pow_pos i),←Nat.pow_add,Nat.add_comm];exact h
theorem Pq {w i j:Nat}(h:2^j≤w / 2^i):2^(i+j)≤w:=by
 rw[Nat.le_div_iff_mul_le (Nat.two_pow_pos i),←Nat.pow_add,Nat.add_comm] at h;exact h
theorem U5 {a b c:Nat}(ha:1≤a)(h1:cJ a b=true)(h2:cJ b c=true):cJ a c=true:=by
 have hb:=Oc ha h1;obtain⟨i,p1,rfl⟩:=(fE ha).1 h1;obtain⟨j,p2,rfl⟩:=(fE hb).1 h2;exact(fE ha).2 ⟨i+j,Pq p2,by rw[Nat.div_div_eq_div_mul,←Nat.pow_add]⟩
theorem Ju {w v:Nat}(hw:1≤w)(h:cJ w v=true):Nat.log2 v≤Nat.log2 w:=by
 unfold cJ at h;exact(of_decide_eq_true h).1
theorem tA {a b c:Nat}(ha:1≤a)(h1:cJ a b=true)(h2:cJ a c=true)(he:Nat.log2 b=Nat.log2 c):b=c:=by
 unfold cJ at h1 h2;have p1:=(of_decide_eq_true h1).2;have p2:=(of_decide_eq_true h2).2;rw[he] at p1;rw[←p1,p2]
theorem R3:∀ n:Fin 128,(n.1 ^^^ 1) / 2=n.1 / 2∧n.1 ^^^ 1≠n.1∧n.1 ^^^ 1<128∧(2≤n.1→Nat.log2 (n.1 ^^^ 1)=Nat.log2 n.1∧2≤n.1 ^^^ 1)∧n.1 ^^^ 1 ^^^ 1=n.1:=by decide +kernel
theorem Qw2:∀ n:Fin 128,∀ b:Fin 2,(2*(n.1 / 2)+b.1=n.1∨2*(n.1 / 2)+b.1=n.1 ^^^ 1):=by decide +kernel
theorem Qw1 {a b:Nat}(hb:b<128)(h:a / 2=b / 2)(hne:a≠b):a=b ^^^ 1:=by
 have:=Qw2 ⟨b,hb⟩ ⟨a%2,Nat.mod_lt _ (by omega)⟩;have h2:2*(b / 2)+a%2=a:=by rw[←h];omega
 simp only[h2] at this;rcases this with h3|h3
 · exact absurd h3 hne
 · exact h3
theorem Tn {n:Nat}(h:n<128):(n ^^^ 1) / 2=n / 2:=(R3 ⟨n,h⟩).1
theorem Es {n:Nat}(h:n<128):n ^^^ 1≠n:=(R3 ⟨n,h⟩).2.1
theorem Er {n:Nat}(h:n<128):n ^^^ 1<128:=(R3 ⟨n,h⟩).2.2.1
theorem Tq {n:Nat}(h:n<128)(h2:2≤n):Nat.log2 (n ^^^ 1)=Nat.log2 n:=((R3 ⟨n,h⟩).2.2.2.1 h2).1
theorem Zl {n:Nat}(h:n<128)(h2:2≤n):2≤n ^^^ 1:=((R3 ⟨n,h⟩).2.2.2.1 h2).2
theorem Et {n:Nat}(h:n<128):n ^^^ 1 ^^^ 1=n:=(R3 ⟨n,h⟩).2.2.2.2
theorem Qj5 {n:Nat}(h:n<128):Z5 .xor (n:Int) 1=((n ^^^ 1:Nat):Int):=by
 have:∀ n:Fin 128,Z5 .xor (n.1:Int) 1=((n.1 ^^^ 1:Nat):Int):=by decide +kernel
 exact this ⟨n,h⟩
theorem oA {w k n:Nat}:n∈eN w k↔∃ j,j<k∧n=w / 2^j:=by
 induction k with
 | zero=>simp[eN]
 | succ k ih=>
  rw[eN,List.mem_cons,ih];constructor
  · rintro(rfl|⟨j,hj,rfl⟩)
    · exact⟨k,by omega,rfl⟩
    · exact⟨j,by omega,rfl⟩
  · rintro⟨j,hj,rfl⟩;rcases Nat.lt_or_ge j k with h|h
    · exact .inr ⟨j,h,rfl⟩
    · obtain rfl:j=k:=by omega
      exact .inl rfl
theorem Bn {k:BitVec 8}{d leaf:Nat}{x:Nat × Nat}:∀ {j:Nat},x∈Qg k d leaf j↔∃ i t,i<j∧t≤i∧x=(leaf / 2^(i+1),(leaf / 2^t) ^^^ 1)∧iX k d x.1 x.2=true
 | 0=>by simp[Qg]
 | j+1=>by
  rw[Qg,List.mem_append,Bn,List.mem_map];constructor
  · rintro(⟨p,hp,rfl⟩|⟨i,t,h1,h2,h3⟩)
    · rw[List.mem_filter,oA] at hp;obtain⟨⟨t,ht,rfl⟩,hs⟩:=hp;exact⟨j,t,by omega,by omega,rfl,hs⟩
    · exact⟨i,t,by omega,h2,h3⟩
  · rintro⟨i,t,h1,h2,rfl,h4⟩;rcases Nat.lt_or_ge i j with h|h
    · exact .inr ⟨i,t,h,h2,rfl,h4⟩
    · obtain rfl:i=j:=by omega
      exact .inl ⟨_,List.mem_filter.2 ⟨oA.2 ⟨t,by omega,rfl⟩,h4⟩,rfl⟩
theorem Yo {d:Nat}{l:List Nat}(hl:∀ n∈l,1≤n):kB d l=0↔∀ n∈l,fF d n=false:=by
 unfold kB
 cases h:l.find? (fF d) with
 | none=>
  rw[List.find?_eq_none] at h;exact⟨fun _ n hn=>by simpa using h n hn,fun _=>rfl⟩
 | some a=>
  have h1:=List.find?_some h;have h2:=List.mem_of_find?_eq_some h;constructor
  · intro h0;simp at h0;have:=hl a h2;omega
  · intro h0;rw[h0 a h2] at h1;cases h1
theorem Qwr {k:BitVec 8}{d n m i K:Nat}(hm:m<128)(hK:2^K≤m)(hn:n=m / 2^K)(hi:i<K)(h:iX k d n m=true):iX k d n (m / 2^i)=true:=by
 unfold iX at h ⊢;simp only[Bool.or_eq_true,decide_eq_true_eq] at h ⊢;rcases h with h|h
 · exact .inl h
 · refine .inr ?_;have hi2:2^i≤m:=Nat.le_trans (Nat.pow_le_pow_right (by omega) (by omega)) hK;have l1:=iL m K hK;have l2:=iL m i hi2;rw[←hn] at l1
   have hp:∀ a b,b+1≤Nat.log2 a→1≤a→∀ x∈eN (a / 2) b,1≤x:=by
    intro a b hb ha x hx;obtain⟨j,hj,rfl⟩:=oA.1 hx;rw[Nat.div_div_eq_div_mul,show 2*2^j=2^(j+1) from by rw[Nat.pow_succ,Nat.mul_comm]];exact pS ((Nat.le_log2 (by omega)).1 (by omega))
   rw[Yo (hp _ _ (by omega) (by have:=Nat.two_pow_pos K;omega))] at h;rw[Yo (hp _ _ (by omega) (pS hi2))];intro x hx;obtain⟨j,hj,rfl⟩:=oA.1 hx;refine h _ (oA.2 ⟨i+j,by omega,?_⟩);rw[Nat.div_div_eq_div_mul,Nat.div_div_eq_div_mul,Nat.div_div_eq_div_mul,Nat.pow_add];congr 1;exact Nat.mul_left_comm _ _ _
theorem Qex {f g:Nat→Nat}:∀ (k:Nat),f 0=g 0→f k≠g k→∃ i,i<k∧f i=g i∧f (i+1)≠g (i+1)
 | 0,h,hk=>absurd h hk
 | k+1,h,hk=>by
  by_cases hk':f k=g k
  · exact⟨k,by omega,hk',hk⟩
  · obtain⟨i,h1,h2⟩:=Qex k h hk';exact⟨i,by omega,h2⟩
theorem Qst {leaf n m K k d:Nat}(hl:leaf<128)(hK:2^K≤leaf)(hn:n=leaf / 2^K)(hk:2^(k+1)≤m)(hm:m<128)(hn2:n=m / 2^(k+1))(hle:Nat.log2 m≤Nat.log2 leaf)(hnb:cJ leaf m=false):
 ∃ t i,t<K∧i≤k∧(leaf / 2^t) ^^^ 1=m / 2^i:=by
 have lp:1≤leaf:=by have:=Nat.two_pow_pos K;omega
 have l1:=iL leaf K hK;have l2:=iL m (k+1) hk;rw[←hn] at l1;rw[←hn2] at l2;have hKk:k+1≤K:=by omega
 obtain⟨i,hi,e1,e2⟩:=Qex (f:=fun i=>m / 2^(k+1-i)) (g:=fun i=>leaf / 2^(K-i)) (k+1) (by simp only[Nat.sub_zero];rw[←hn,←hn2]) (by
  simp only[Nat.sub_self,Nat.pow_zero,Nat.div_one];intro e;have:cJ leaf m=true:=(fE lp).2 ⟨K-(k+1),Nat.le_trans (Nat.pow_le_pow_right (by omega) (by omega)) hK,e⟩
  rw[this] at hnb;cases hnb)
 refine⟨K-(i+1),k+1-(i+1),by omega,by omega,?_⟩;have hh:∀ a b,a / 2^(b+1)=a / 2^b / 2:=fun a b=>by rw[Nat.pow_succ,Nat.div_div_eq_div_mul]
 have e3:m / 2^(k+1-(i+1)) / 2=leaf / 2^(K-(i+1)) / 2:=by
  rw[←hh,←hh,show k+1-(i+1)+1=k+1-i from by omega,show K-(i+1)+1=K-i from by omega];exact e1
 exact(Qw1 (Nat.lt_of_le_of_lt (Nat.div_le_self _ _) hl) e3 e2).symm
def lI (k:BitVec 8)(n m:Nat)(a:Nat × Nat):Bool:=if k=1#8∨m=0 then decide (a.1=n∧a.2=m) else decide (a.1=n∧1≤a.2)&&cJ a.2 n&&cJ m a.2
def jV (k:BitVec 8)(d n m:Nat):Bool:=
 decide (1≤n∧n<2^(d+1))&&(if k=1#8 then decide (m=0) else if m=0 then decide (n=1) else decide (m<2^(d+1)∧m≠n)&&cJ m n&&iX k d n m)
theorem Qh {d u:Nat}(hu:u<2^d):Nat.log2 (2^d+u)=d:=by
 rw[Nat.log2_eq_iff (by have:=Nat.two_pow_pos d;omega),Nat.pow_succ];omega
theorem yW {d n:Nat}(h1:1≤n)(h:n<2^(d+1)):Nat.log2 n≤d:=by
 have:=(Nat.log2_lt (n:=n) (k:=d+1) (by omega)).2 h;omega
theorem Qq9 {k:BitVec 8}{d u n m:Nat}(hd:d≤6)(hu:u<2^d)(h:jV k d n m=true):(gA k d u).any (lI k n m)=iY (2^d+u) n m:=by
 have h64:=fO hd;have hp:=Nat.two_pow_pos d;have hlog:=Qh hu;have hpow:2^(d+1)=2*2^d:=by rw[Nat.pow_succ,Nat.mul_comm]
 have lp:1≤2^d+u:=by omega
 unfold jV at h;simp only[Bool.and_eq_true,decide_eq_true_eq] at h;obtain⟨⟨hn1,hn2⟩,h⟩:=h
 have anc:cJ (2^d+u) n=true↔n=1∨n∈eN (2^d+u) d:=by
  rw[fE lp,oA];constructor
  · rintro⟨j,h1,rfl⟩;have hj:j≤d:=by have:=iL _ _ h1;omega
    rcases Nat.lt_or_ge j d with hj2|hj2
    · exact .inr ⟨j,hj2,rfl⟩
    · obtain rfl:j=d:=by omega
      left;rw[Nat.add_div_left _ hp,Nat.div_eq_of_lt hu]
  · rintro(rfl|⟨j,hj,rfl⟩)
    · exact⟨d,by omega,by rw[Nat.add_div_left _ hp,Nat.div_eq_of_lt hu]⟩
    · exact⟨j,Nat.le_trans (Nat.pow_le_pow_right (by omega) (by omega)) (Nat.le_add_right _ _),rfl⟩
 by_cases hk:k=1#8
 · rw[if_pos hk,decide_eq_true_eq] at h;subst h;unfold iY gA;rw[if_pos hk,decide_eq_true rfl,Bool.true_or,Bool.and_true,Bool.eq_iff_iff,anc,List.any_cons,Bool.or_eq_true,List.any_map,List.any_eq_true];unfold lI;simp only[hk,true_or,if_true,decide_eq_true_eq,Function.comp,and_true];constructor
   · rintro(h|⟨x,hx,rfl⟩)
     · exact .inl h.symm
     · exact .inr hx
   · rintro(h|h)
     · exact .inl h.symm
     · exact .inr ⟨n,h,rfl⟩
 · rw[if_neg hk] at h;by_cases hm:m=0
   · rw[if_pos hm,decide_eq_true_eq] at h;subst hm;subst h;unfold iY;rw[decide_eq_true rfl,Bool.true_or,Bool.and_true,anc.2 (.inl rfl),List.any_eq_true];exact⟨(1,0),by simp[gA],by simp[lI]⟩
   · rw[if_neg hm] at h;simp only[Bool.and_eq_true,decide_eq_true_eq] at h;obtain⟨⟨⟨hm2,hne⟩,hb⟩,hs⟩:=h;have hm1:1≤m:=by omega
     obtain⟨j,hj1,hj2,hj3⟩:=Z3 hm1 hn1 hb hne;have hlm:=yW hm1 hm2;unfold iY;rw[decide_eq_false hm,Bool.false_or,Bool.eq_iff_iff,List.any_eq_true,Bool.and_eq_true,Bool.not_eq_true']
     have hld:∀ a,lI k n m a=true↔(a.1=n∧1≤a.2)∧cJ a.2 n=true∧cJ m a.2=true:=fun a=>by
      unfold lI;rw[if_neg (by simp[hk,hm])];simp only[Bool.and_eq_true,decide_eq_true_eq,and_assoc]
     constructor
     · rintro⟨a,ha,hl⟩;obtain⟨⟨e1,e2⟩,e3,e4⟩:=(hld a).1 hl;unfold gA at ha;rw[if_neg hk] at ha;rcases List.mem_cons.1 ha with rfl|ha
       · simp at e2
       · obtain⟨i,t,h1,h2,h3,_⟩:=Bn.1 ha;rw[h3] at e1 e2 e3 e4;simp only at e1 e2 e3 e4;have hi2:2^(i+1)≤2^d+u:=Nat.le_trans (Nat.pow_le_pow_right (by omega) (by omega)) (Nat.le_add_right _ _);have ht2:2^t≤2^d+u:=Nat.le_trans (Nat.pow_le_pow_right (by omega) (by omega)) (Nat.le_add_right _ _);refine⟨(fE lp).2 ⟨i+1,hi2,e1.symm⟩,?_⟩
         cases hc:cJ (2^d+u) m with
         | false=>rfl
         | true=>
          exfalso;have cP:(2^d+u) / 2^t<128:=Nat.lt_of_le_of_lt (Nat.div_le_self _ _) (by omega);have lt1:=iL _ _ ht2
          have hp2:2≤(2^d+u) / 2^t:=by
           have hq:2^(t+1)≤2^d+u:=Nat.le_trans (Nat.pow_le_pow_right (by omega) (by omega)) hi2;have:=rM (i:=t) (j:=1) hq;simpa using this
          have h5:=U5 lp hc e4;have h6:cJ (2^d+u) ((2^d+u) / 2^t)=true:=(fE lp).2 ⟨t,ht2,rfl⟩;exact Es cP (tA lp h5 h6 (Tq cP hp2))
     · rintro⟨h1,h2⟩;obtain⟨K,hK1,hK2⟩:=(fE lp).1 h1;obtain⟨t,i,ht,hi,e⟩:=Qst (d:=d) (by omega) hK1 hK2 hj3 (by omega) hj2 (by omega) h2;have hKd:=iL _ _ hK1;have hi2:2^i≤m:=Nat.le_trans (Nat.pow_le_pow_right (by omega) (by omega)) hj3;refine⟨(n,m / 2^i),?_,(hld _).2 ⟨⟨rfl,pS hi2⟩,?_,(fE hm1).2 ⟨i,hi2,rfl⟩⟩⟩
       · unfold gA;rw[if_neg hk];refine List.mem_cons_of_mem _ (Bn.2 ⟨K-1,t,by omega,by omega,?_,Qwr (by omega) hj3 hj2 (by omega) hs⟩);rw[show K-1+1=K from by omega,←hK2,e]
       · refine(fE (pS hi2)).2 ⟨j+1-i,?_,?_⟩
         · exact rM (by rw[show i+(j+1-i)=j+1 from by omega];exact hj3)
         · rw[Nat.div_div_eq_div_mul,←Nat.pow_add,show i+(j+1-i)=j+1 from by omega];exact hj2
end Go.Sx

end
section
namespace Go.Sx
open Go
def bA (d:Nat)(R:List Nat)(v:Nat):Bool:=R.any fun u=>cJ (2^d+u) v
theorem rY {d:Nat}{R:List Nat}{v:Nat}:bA d R v=true↔∃ u∈R,cJ (2^d+u) v=true:=by unfold bA;rw[List.any_eq_true]
theorem Qah:∀ n:Fin 64,(2*n.1) ^^^ 1=2*n.1+1∧(2*n.1+1) ^^^ 1=2*n.1:=by decide +kernel
theorem qM {n:Nat}(h:n<64):(2*n) ^^^ 1=2*n+1:=(Qah ⟨n,h⟩).1
theorem qU {n:Nat}(h:n<64):(2*n+1) ^^^ 1=2*n:=(Qah ⟨n,h⟩).2
theorem qE (a b:Nat):a / 2^(b+1)=a / 2^b / 2:=by rw[Nat.pow_succ,Nat.div_div_eq_div_mul]
theorem Jt {L v:Nat}(hL:1≤L)(cP:Nat.log2 v<Nat.log2 L)(hv:1≤v):cJ L v=(cJ L (2*v)||cJ L (2*v+1)):=by
 rw[Bool.eq_iff_iff,Bool.or_eq_true,fE hL,fE hL,fE hL];constructor
 · rintro⟨k,h1,h2⟩;have hl:=iL L k h1;rw[←h2] at hl;obtain⟨j,rfl⟩:∃ j,k=j+1:=⟨k-1,by omega⟩;have h3:2^j≤L:=Nat.le_trans (Nat.pow_le_pow_right (by omega) (by omega)) h1;rw[qE] at h2;rcases(show L / 2^j=2*v∨L / 2^j=2*v+1 by omega) with e|e
   · exact .inl ⟨j,h3,e.symm⟩
   · exact .inr ⟨j,h3,e.symm⟩
 · rintro(⟨j,h1,h2⟩|⟨j,h1,h2⟩)
   · exact⟨j+1,Pq (j:=1) (by rw[←h2];omega),by rw[qE,←h2];omega⟩
   · exact⟨j+1,Pq (j:=1) (by rw[←h2];omega),by rw[qE,←h2];omega⟩
theorem nK {v b:Nat}(hv:1≤v)(hb:b<2):Nat.log2 (2*v+b)=Nat.log2 v+1:=by
 rw[oB (by omega),show(2*v+b) / 2=v from by omega]
section
variable {d:Nat} {R:List Nat}
def fW (d:Nat)(R:List Nat):Prop:=d≤6∧∀ u∈R,u<2^d
theorem fW.leaf (h:fW d R){u:Nat}(hu:u∈R):1≤2^d+u∧2^d+u<128∧Nat.log2 (2^d+u)=d:=by
 have:=fO h.1;have:=h.2 u hu;have:=Nat.two_pow_pos d;exact⟨by omega,by omega,Qh (h.2 u hu)⟩
theorem Cf {v:Nat}(hv:1≤v):v<2^d↔Nat.log2 v<d:=by rw[Nat.log2_lt (by omega)]
theorem D2 (h:fW d R){v:Nat}(hv:1≤v)(hl:Nat.log2 v<d):bA d R v=(bA d R (2*v)||bA d R (2*v+1)):=by
 rw[Bool.eq_iff_iff,Bool.or_eq_true,rY,rY,rY];constructor
 · rintro⟨u,hu,hb⟩;obtain⟨h1,h2,h3⟩:=h.leaf hu;rw[Jt h1 (by omega) hv,Bool.or_eq_true] at hb;rcases hb with hb|hb
   · exact .inl ⟨u,hu,hb⟩
   · exact .inr ⟨u,hu,hb⟩
 · rintro(⟨u,hu,hb⟩|⟨u,hu,hb⟩) <;>
   · obtain⟨h1,h2,h3⟩:=h.leaf hu;refine⟨u,hu,?_⟩;rw[Jt h1 (by omega) hv,hb];simp
theorem nF (h:fW d R){v:Nat}(hv:bA d R v=true):1≤v∧Nat.log2 v≤d∧v<2^(d+1):=by
 obtain⟨u,hu,hb⟩:=rY.1 hv;obtain⟨h1,h2,h3⟩:=h.leaf hu;have hp:=Oc h1 hb;have hl:=Ju h1 hb;rw[h3] at hl;exact⟨hp,hl,(Nat.log2_lt (by omega)).1 (by omega)⟩
theorem Ys (h:fW d R){v:Nat}(hv:bA d R v=true)(h2:2≤v):bA d R (v / 2)=true:=by
 obtain⟨h1,hl,_⟩:=nF h hv;have hh:=oB h2;rw[D2 h (by omega) (by omega)];rcases(show 2*(v / 2)=v∨2*(v / 2)+1=v by omega) with e|e
 · rw[e,hv];simp
 · rw[e,hv];simp
theorem D3 (h:fW d R){v:Nat}(hv:bA d R v=true):∀ k,2^k≤v→bA d R (v / 2^k)=true
 | 0,_=>by simpa using hv
 | k+1,hk=>by
  rw[qE];have h1:2^k≤v:=Nat.le_trans (Nat.pow_le_pow_right (by omega) (by omega)) hk;refine Ys h (D3 h hv k h1) ?_;have:=rM (i:=k) (j:=1) hk;simpa using this
def lB (d:Nat)(R:List Nat)(v:Nat):Bool:=bA d R (2*v) != bA d R (2*v+1)
def lG (d:Nat)(R:List Nat)(v:Nat):Nat:=if bA d R (2*v) then 2*v else 2*v+1
def dT (d:Nat)(R:List Nat):Nat→Nat→Nat
 | 0,v=>v
 | f+1,v=>if lB d R v then dT d R f (lG d R v) else v
theorem Lg (h:fW d R){v:Nat}(hv:1≤v)(hb:lB d R v=true):Nat.log2 v<d∧bA d R v=true:=by
 unfold lB at hb
 have hx:bA d R (2*v)=true∨bA d R (2*v+1)=true:=by
  cases h1:bA d R (2*v)<;>cases h2:bA d R (2*v+1)<;>simp_all
 have hl:Nat.log2 v<d:=by
  rcases hx with hx|hx
  · have:=(nF h hx).2.1;have:=nK hv (b:=0) (by omega);simp at this;omega
  · have:=(nF h hx).2.1;have:=nK hv (b:=1) (by omega);omega
 refine⟨hl,?_⟩;rw[D2 h hv hl];rcases hx with hx|hx<;>simp[hx]
def Chn (d:Nat)(R:List Nat)(v w:Nat):Prop:=∃ k,2^k≤w∧v=w / 2^k∧∀ j,j<k→bA d R (w / 2^j)=true∧bA d R ((w / 2^j) ^^^ 1)=false
theorem uM (h:fW d R):∀ (f v:Nat),1≤v→Nat.log2 v≤d→d-Nat.log2 v<f→1≤dT d R f v∧Nat.log2 (dT d R f v)≤d∧lB d R (dT d R f v)=false∧Chn d R v (dT d R f v)
 | 0,v,_,_,hf=>by omega
 | f+1,v,hv,hl,hf=>by
  unfold dT
  cases hb:lB d R v with
  | false=>exact⟨by simpa using hv,by simpa using hl,by simpa using hb,⟨0,by simpa using hv,by simp,fun j hj=>by omega⟩⟩
  | true=>
   rw[if_pos rfl];obtain⟨hl2,_⟩:=Lg h hv hb;have h64:=fO h.1;have hv64:v<64:=by have:=(Cf (d:=d) hv).2 hl2;omega
   have hc:(lG d R v) / 2=v∧2≤lG d R v∧Nat.log2 (lG d R v)=Nat.log2 v+1∧bA d R (lG d R v)=true∧bA d R (lG d R v ^^^ 1)=false:=by
    unfold lG;unfold lB at hb
    cases h1:bA d R (2*v) with
    | true=>
     rw[h1] at hb;rw[if_pos rfl];refine⟨by omega,by omega,nK hv (b:=0) (by omega),h1,?_⟩;rw[qM hv64];simpa using hb
    | false=>
     rw[h1] at hb;rw[if_neg (by simp)];refine⟨by omega,by omega,nK hv (b:=1) (by omega),by simpa using hb,?_⟩;rw[qU hv64];exact h1
   obtain⟨c1,c2,c3,c4,c5⟩:=hc;obtain⟨g1,g2,g3,k,g4,g5,g6⟩:=uM h f (lG d R v) (by omega) (by omega) (by omega);refine⟨g1,g2,g3,k+1,?_,?_,?_⟩
   · exact Pq (j:=1) (by rw[←g5];omega)
   · rw[qE,←g5];exact c1.symm
   · intro j hj;rcases Nat.lt_or_ge j k with hjk|hjk
     · exact g6 j hjk
     · obtain rfl:j=k:=by omega
       rw[←g5];exact⟨c4,c5⟩
def dV (d:Nat)(R:List Nat):Nat→Nat→Nat
 | 0,x=>x
 | f+1,x=>if x=1∨bA d R (x ^^^ 1)=true then x else dV d R f (x / 2)
def jX (d:Nat)(R:List Nat)(v:Nat):Bool:=decide (v=1)||bA d R (v ^^^ 1)
theorem Qd7 {f x:Nat}(h:jX d R x=true):dV d R f x=x:=by
 cases f with
 | zero=>rfl
 | succ f=>
  unfold dV;unfold jX at h;rw[Bool.or_eq_true,decide_eq_true_eq] at h;rw[if_pos h]
theorem Bc {v w:Nat}(hv:jX d R v=true)(hv1:1≤v):∀ (j k f:Nat),2^(j+k)≤w→v=w / 2^(j+k)→(∀ i,j≤i→i<j+k→bA d R ((w / 2^i) ^^^ 1)=false)→k≤f→dV d R f (w / 2^j)=v
 | j,0,f,h1,h2,_,_=>by rw[Nat.add_zero] at h2;rw[←h2];exact Qd7 hv
 | j,k+1,0,h1,h2,h3,hf=>by omega
 | j,k+1,f+1,h1,h2,h3,hf=>by
  unfold dV;have h4:=h3 j (by omega) (by omega)
  have h5:w / 2^j≠1:=by
   have:=rM (w:=w) (i:=j) (j:=1) (Nat.le_trans (Nat.pow_le_pow_right (by omega) (by omega)) h1);simp at this;omega
  rw[if_neg (by rw[h4];simp[h5]),←qE];exact Bc hv hv1 (j+1) k f (by rw[show j+1+k=j+(k+1) from by omega];exact h1) (by rw[show j+1+k=j+(k+1) from by omega];exact h2) (fun i h6 h7=>h3 i (by omega) (by omega)) (by omega)
theorem P9:∀ (f x:Nat),1≤x→Nat.log2 x<f→jX d R (dV d R f x)=true∧∃ i,2^i≤x∧dV d R f x=x / 2^i∧∀ t,t<i→jX d R (x / 2^t)=false
 | 0,x,_,h=>by omega
 | f+1,x,hx,hf=>by
  unfold dV;by_cases hc:x=1∨bA d R (x ^^^ 1)=true
  · rw[if_pos hc];exact⟨by unfold jX;simpa using hc,0,by simpa using hx,by simp,fun t ht=>by omega⟩
  · rw[if_neg hc];have hx2:2≤x:=by rw[not_or] at hc;omega
    have hh:=oB hx2;obtain⟨h1,i,h2,h3,h4⟩:=P9 f (x / 2) (by omega) (by omega);refine⟨h1,i+1,?_,?_,?_⟩
    · rw[Nat.pow_succ];omega
    · rw[h3,Nat.div_div_eq_div_mul,Nat.pow_succ,Nat.mul_comm 2]
    · intro t ht
      cases t with
      | zero=>simp only[Nat.pow_zero,Nat.div_one];unfold jX;simpa[not_or] using hc
      | succ t=>
       have:=h4 t (by omega);rw[Nat.div_div_eq_div_mul,show 2*2^t=2^(t+1) from by rw[Nat.pow_succ,Nat.mul_comm]] at this;exact this
def gP (d v w:Nat):Nat:=kB d (eN (w / 2) (Nat.log2 w-Nat.log2 v-1))
def yK (k:BitVec 8)(d:Nat)(R:List Nat)(x:Nat):Option Nat:=
 if k=1#8 then(if !bA d R x&&(decide (x=1)||bA d R (x / 2)) then some 0 else none)
 else if bA d R x then
  (if dT d R 7 (dV d R 7 x)=dV d R 7 x then none
  else if x=dV d R 7 x then some (if iX k d (dV d R 7 x) (dT d R 7 (dV d R 7 x)) then dT d R 7 (dV d R 7 x) else gP d (dV d R 7 x) (dT d R 7 (dV d R 7 x)))
  else if !iX k d (dV d R 7 x) (dT d R 7 (dV d R 7 x))&&decide (x=gP d (dV d R 7 x) (dT d R 7 (dV d R 7 x))) then some (dT d R 7 (dV d R 7 x)) else none)
 else none
def T2 (d:Nat):List Nat:=(List.range (2^(d+1)-1)).map (· + 1)
def gX (k:BitVec 8)(d:Nat)(R:List Nat):List (Nat × Nat):=(T2 d).filterMap fun x=>(yK k d R x).map fun m=>(x,m)
theorem Qeh {x:Nat}:x∈T2 d↔1≤x∧x<2^(d+1):=by
 unfold T2;rw[List.mem_map];constructor
 · rintro⟨a,ha,rfl⟩;have:=List.mem_range.1 ha;omega
 · rintro⟨h1,h2⟩;exact⟨x-1,List.mem_range.2 (by omega),by omega⟩
theorem wB {k:BitVec 8}{y:Nat × Nat}:y∈gX k d R↔(1≤y.1∧y.1<2^(d+1))∧yK k d R y.1=some y.2:=by
 unfold gX;rw[List.mem_filterMap];constructor
 · rintro⟨x,hx,he⟩;obtain⟨m,hm,rfl⟩:=Option.map_eq_some_iff.1 he;exact⟨Qeh.1 hx,hm⟩
 · rintro⟨h1,h2⟩;exact⟨y.1,Qeh.2 h1,by rw[h2];rfl⟩
def tM (l:List (Nat × Nat)):Prop:=l.Pairwise fun a b=>a.1<b.1
theorem Ki {k:BitVec 8}:tM (gX k d R):=by
 unfold tM gX;rw[List.pairwise_filterMap]
 have:(T2 d).Pairwise fun a b=>a<b:=by
  unfold T2;rw[List.pairwise_map];exact List.pairwise_lt_range.imp (by omega)
 refine this.imp ?_;intro a b hab y hy z hz;obtain⟨_,_,rfl⟩:=Option.map_eq_some_iff.1 hy;obtain⟨_,_,rfl⟩:=Option.map_eq_some_iff.1 hz;exact hab
theorem Ik:∀ {l m:List (Nat × Nat)},tM l→tM m→(∀ y,y∈l↔y∈m)→l=m
 | [],[],_,_,_=>rfl
 | [],b::m,_,_,h=>absurd ((h b).2 (by simp)) (by simp)
 | a::l,[],_,_,h=>absurd ((h a).1 (by simp)) (by simp)
 | a::l,b::m,hl,hm,h=>by
  have ha:=List.pairwise_cons.1 hl;have hb:=List.pairwise_cons.1 hm
  have hab:a=b:=by
   rcases List.mem_cons.1 ((h a).1 (by simp)) with e|e
   · exact e
   · rcases List.mem_cons.1 ((h b).2 (by simp)) with e2|e2
     · exact e2.symm
     · have:=ha.1 b e2;have:=hb.1 a e;omega
  subst hab;congr 1;refine Ik ha.2 hb.2 fun y=>?_;constructor
  · intro hy;rcases List.mem_cons.1 ((h y).1 (by simp[hy])) with e|e
    · subst e;have:=ha.1 y hy;omega
    · exact e
  · intro hy;rcases List.mem_cons.1 ((h y).2 (by simp[hy])) with e|e
    · subst e;have:=hb.1 y hy;omega
    · exact e
def jZ (k:BitVec 8)(d:Nat)(R:List Nat)(v:Nat):List (Nat × Nat):=
 if k=1#8 then(if v≠1∧bA d R (v ^^^ 1)=false then[(v ^^^ 1,0)] else[])
 else if jX d R v then(if dT d R 7 v=v then[] else if iX k d v (dT d R 7 v) then[(v,dT d R 7 v)] else[(v,gP d v (dT d R 7 v)),(gP d v (dT d R 7 v),dT d R 7 v)])
 else[]
def iH (k:BitVec 8)(d:Nat)(R:List Nat)(y:Nat × Nat):Nat:=if k=1#8 then y.1 ^^^ 1 else dV d R 7 y.1
theorem Ky {k:BitVec 8}{v w:Nat}(hK:2^k.toNat≤w∨True){K:Nat}(h1:2^K≤w)(h2:v=w / 2^K)(hv:1≤v)(hs:iX k d v w=false):∃ j,1≤j∧j<K∧gP d v w=w / 2^j:=by
 have hl:=iL w K h1;rw[←h2] at hl;unfold iX at hs;simp only[Bool.or_eq_false_iff,decide_eq_false_iff_not] at hs;have h0:gP d v w≠0:=hs.2;unfold gP at h0 ⊢;unfold kB at h0 ⊢
 cases hf:(eN (w / 2) (Nat.log2 w-Nat.log2 v-1)).find? (fF d) with
 | none=>rw[hf] at h0;simp at h0
 | some c=>
  obtain⟨j,hj,rfl⟩:=oA.1 (List.mem_of_find?_eq_some hf);refine⟨j+1,by omega,by omega,?_⟩;rw[Option.getD_some,Nat.div_div_eq_div_mul,show 2*2^j=2^(j+1) from by rw[Nat.pow_succ,Nat.mul_comm]]
theorem E4 (h:fW d R){k:BitVec 8}(hne:R≠[]){v:Nat}(hv:bA d R v=true)(y:Nat × Nat):(y∈gX k d R∧iH k d R y=v)↔y∈jZ k d R v:=by
 have h64:=fO h.1;have hpow:2^(d+1)=2*2^d:=by rw[Nat.pow_succ,Nat.mul_comm]
 obtain⟨v1,vl,v2⟩:=nF h hv;rw[wB];by_cases hk:k=1#8
 · unfold yK iH jZ;rw[if_pos hk,if_pos hk,if_pos hk]
   have hroot:bA d R 1=true:=by
    obtain⟨u,hu⟩:=List.exists_mem_of_ne_nil R hne;obtain⟨l1,l2,l3⟩:=h.leaf hu;exact rY.2 ⟨u,hu,(fE l1).2 ⟨d,by omega,by rw[Nat.add_div_left _ (Nat.two_pow_pos d),Nat.div_eq_of_lt (h.2 u hu)]⟩⟩
   constructor
   · rintro⟨⟨⟨y1,y2⟩,hm⟩,rfl⟩
     split at hm
     · rename_i hc;simp only[Bool.and_eq_true,Bool.not_eq_true',Bool.or_eq_true,decide_eq_true_eq] at hc;have hy0:y.2=0:=(Option.some.inj hm).symm;have hyn:y.1≠1:=fun e=>by rw[e] at hc;rw[hroot] at hc;simp at hc
       have hss:=Et (n:=y.1) (by omega);rw[hss];have hs1:y.1 ^^^ 1≠1:=by have:=Zl (n:=y.1) (by omega) (by omega);omega
       rw[if_pos ⟨hs1,hc.1⟩];simp only[List.mem_singleton];cases y;simp only at *;rw[hy0]
     · cases hm
   · intro hy
     split at hy
     · rename_i hc;simp only[List.mem_singleton] at hy;subst hy;simp only;have hv2:2≤v:=by omega
       have e1:=Er (n:=v) (by omega);have e2:=Zl (n:=v) (by omega) hv2;have e3:=Tq (n:=v) (by omega) hv2;refine⟨⟨⟨by omega,?_⟩,?_⟩,Et (by omega)⟩
       · exact(Nat.log2_lt (by omega)).1 (by omega)
       · rw[if_pos];simp only[Bool.and_eq_true,Bool.not_eq_true',Bool.or_eq_true,decide_eq_true_eq];refine⟨hc.2,.inr ?_⟩;rw[Tn (by omega)];exact Ys h hv hv2
     · cases hy
 · unfold yK iH jZ;rw[if_neg hk,if_neg hk,if_neg hk];constructor
   · rintro⟨⟨⟨y1,y2⟩,hm⟩,rfl⟩;have hl7:Nat.log2 y.1<7:=by have:=(Nat.log2_lt (n:=y.1) (k:=d+1) (by omega)).2 y2;have:=h.1;omega
     rw[if_pos (P9 7 y.1 y1 hl7).1];generalize dV d R 7 y.1=v at *;generalize dT d R 7 v=w at *
     split at hm
     · split at hm
       · cases hm
       · rename_i h1 h2;rw[if_neg h2]
         split at hm
         · rename_i h3;have hm':=Option.some.inj hm
           split
           · rename_i h4;rw[if_pos h4] at hm';simp only[List.mem_singleton];cases y;simp only at *;rw[h3,hm']
           · rename_i h4;rw[if_neg h4] at hm';simp only[List.mem_cons,List.not_mem_nil,or_false];left;cases y;simp only at *;rw[h3,hm']
         · split at hm
           · rename_i h3 h4;simp only[Bool.and_eq_true,Bool.not_eq_true',decide_eq_true_eq] at h4;rw[if_neg (by rw[h4.1];simp)];simp only[List.mem_cons,List.not_mem_nil,or_false];right;have hm':=Option.some.inj hm;cases y;simp only at *;rw[←h4.2,hm']
           · cases hm
     · cases hm
   · intro hy
     split at hy
     · rename_i hh;obtain⟨w1,w2,w3,K,w4,w5,w6⟩:=uM h 7 v v1 vl (by have:=h.1;omega);generalize hw:dT d R 7 v=w at *;have hs:dV d R 7 v=v:=Qd7 hh
       split at hy
       · cases hy
       · rename_i hne2
         split at hy
         · rename_i h4;simp only[List.mem_singleton] at hy;subst hy;simp only[hs,hw,hv,if_true,if_neg hne2,h4];exact⟨⟨⟨v1,v2⟩,trivial⟩,trivial⟩
         · rename_i h4;have h4':iX k d v w=false:=by simpa using h4
           simp only[List.mem_cons,List.not_mem_nil,or_false] at hy;rcases hy with rfl|rfl
           · simp only[hs,hw,hv,if_true,if_neg hne2,h4',Bool.false_eq_true,if_false];exact⟨⟨⟨v1,v2⟩,trivial⟩,trivial⟩
           · obtain⟨j,j1,j2,j3⟩:=Ky (k:=k) (d:=d) (.inr trivial) w4 w5 v1 h4';have hlw:=iL w K w4;have hKd:K≤6:=by have:=h.1;omega
             have hc:dV d R 7 (gP d v w)=v:=by
              rw[j3];exact Bc hh v1 j (K-j) 7 (by rw[show j+(K-j)=K from by omega];exact w4) (by rw[show j+(K-j)=K from by omega];exact w5) (fun i _ hi=>(w6 i (by omega)).2) (by omega)
             have hj2:2^j≤w:=Nat.le_trans (Nat.pow_le_pow_right (by omega) (by omega)) w4;have hch:bA d R (gP d v w)=true:=by rw[j3];exact(w6 j j2).1
             have hcv:gP d v w≠v:=by
              rw[j3,w5];exact Ve w4 j2
             obtain⟨c1,_,c3⟩:=nF h hch;simp only[hc,hw,hch,if_true,if_neg hne2,if_neg hcv,h4'];simp only[Bool.not_false,Bool.true_and,decide_true,if_true];exact⟨⟨⟨c1,c3⟩,trivial⟩,trivial⟩
     · cases hy
theorem Wo (h:fW d R){k:BitVec 8}(hne:R≠[]){y:Nat × Nat}(hy:y∈gX k d R):bA d R (iH k d R y)=true:=by
 have h64:=fO h.1;have hpow:2^(d+1)=2*2^d:=by rw[Nat.pow_succ,Nat.mul_comm]
 obtain⟨⟨y1,y2⟩,hm⟩:=wB.1 hy;unfold yK at hm;unfold iH;by_cases hk:k=1#8
 · rw[if_pos hk] at hm ⊢
   split at hm
   · rename_i hc;simp only[Bool.and_eq_true,Bool.not_eq_true',Bool.or_eq_true,decide_eq_true_eq] at hc
     have hroot:bA d R 1=true:=by
      obtain⟨u,hu⟩:=List.exists_mem_of_ne_nil R hne;obtain⟨l1,l2,l3⟩:=h.leaf hu;exact rY.2 ⟨u,hu,(fE l1).2 ⟨d,by omega,by rw[Nat.add_div_left _ (Nat.two_pow_pos d),Nat.div_eq_of_lt (h.2 u hu)]⟩⟩
     have hyn:y.1≠1:=fun e=>by rw[e] at hc;rw[hroot] at hc;simp at hc
     have hp:bA d R (y.1 / 2)=true:=by
      rcases hc.2 with e|e
      · exact absurd e hyn
      · exact e
     have hlg:=oB (n:=y.1) (by omega);have hyl:Nat.log2 y.1≤d:=yW y1 y2;rw[D2 h (by omega) (by omega),Bool.or_eq_true] at hp;have hz:y.1 / 2<64:=by omega
     rcases(show y.1=2*(y.1 / 2)∨y.1=2*(y.1 / 2)+1 by omega) with e|e
     · have h2:bA d R (2*(y.1 / 2))=false:=by rw[←e];exact hc.1
       have:y.1 ^^^ 1=2*(y.1 / 2)+1:=by rw[←qM hz,←e]
       rw[this];rw[h2] at hp;simpa using hp
     · have h2:bA d R (2*(y.1 / 2)+1)=false:=by rw[←e];exact hc.1
       have:y.1 ^^^ 1=2*(y.1 / 2):=by rw[←qU hz,←e]
       rw[this];rw[h2] at hp;simpa using hp
   · cases hm
 · rw[if_neg hk] at hm ⊢
   split at hm
   · rename_i hx;have hl7:Nat.log2 y.1<7:=by have:=yW y1 y2;have:=h.1;omega
     obtain⟨_,i,i1,i2,_⟩:=P9 (d:=d) (R:=R) 7 y.1 y1 hl7;rw[i2];exact D3 h hx i i1
   · cases hm
end
end Go.Sx

end
section
namespace Go.Sx
open Go
theorem Qj0 {m q:Nat}(hm:1≤m)(h:cJ m q=true):∃ k,q=m / 2^k∧2^k≤m:=by
 unfold cJ at h;obtain⟨h1,h2⟩:=of_decide_eq_true h;exact⟨_,h2.symm,Nat.le_trans (Nat.pow_le_pow_right (by omega) (by omega)) (Nat.log2_self_le (by omega))⟩
theorem Qdf {s:aF}{d:Nat}(hv:eO s=true)(hd:s.Depth=(d:Int))(h6:d≤6)(n m:Nat):qY s ⟨(n:Int),(m:Int)⟩=some (jV s.Kind d n m):=by
 have h64:=fO h6;have hpow:2^(d+1)=2*2^d:=by rw[Nat.pow_succ,Nat.mul_comm]
 have hh:∀ a:Nat,nJ d (a:Int)=decide (1≤a∧a<2^(d+1)):=fun a=>by
  unfold nJ;apply decide_eq_decide.2;rw[hpow];omega
 unfold qY jV;rw[hd,T3 h6,bind_some,hh];by_cases hn:1≤n∧n<2^(d+1)
 · rw[decide_eq_true hn];simp only[Bool.not_true,cond_false,Bool.true_and];by_cases hk:s.Kind=1#8
   · rw[if_pos hk,if_pos hk];congr 1;apply decide_eq_decide.2;omega
   · rw[if_neg hk,if_neg hk];by_cases hm:m=0
     · rw[if_pos (by omega),if_pos hm];congr 1;apply decide_eq_decide.2;omega
     · rw[if_neg (by omega),if_neg hm,T3 h6,bind_some,hh];by_cases hm2:m<2^(d+1)
       · rw[decide_eq_true (by omega)];simp only[Bool.not_true,cond_false];by_cases he:m=n
         · rw[if_pos (by omega),decide_eq_false (by omega)];rfl
         · rw[if_neg (by omega),Pz (by omega) (by omega) (by omega),bind_some,decide_eq_true (by omega),Bool.true_and];unfold zY iX
           cases hb:cJ m n with
           | false=>rfl
           | true=>
            simp only[Bool.not_true,cond_false,Bool.true_and];by_cases hk2:s.Kind=2#8
            · rw[if_pos hk2,decide_eq_true hk2];rfl
            · rw[if_neg hk2,decide_eq_false hk2,Bool.false_or,hd,Ej h6 (by omega),bind_some]
              cases fF d n with
              | true=>rfl
              | false=>
               rw[cond_false,Bool.false_or];obtain⟨k,hk0,hk1,hk3⟩:=Z3 (by omega) hn.1 hb he;have hkl:=yQ hk3 (by omega);have:=Od (d:=d) (m:=m) (k:=k) h6 (by omega) hk3 (by omega);rw[←hk1] at this;rw[this,bind_some,show Nat.log2 m-Nat.log2 n-1=k from by omega];congr 1;apply decide_eq_decide.2;omega
       · rw[decide_eq_false (p:=1≤m∧_) (by omega),decide_eq_false (p:=m<_∧_) (by omega)];rfl
 · rw[decide_eq_false hn];rfl
theorem Ey {k:BitVec 8}{d n m:Nat}(h6:d≤6)(h:jV k d n m=true):1≤n∧n<128∧m<128∧(k=1#8∨m=0∨(cJ m n=true∧m≠n)):=by
 have h64:=fO h6;have hpow:2^(d+1)=2*2^d:=by rw[Nat.pow_succ,Nat.mul_comm]
 unfold jV at h;simp only[Bool.and_eq_true,decide_eq_true_eq] at h;obtain⟨⟨h1,h2⟩,h⟩:=h;by_cases hk:k=1#8
 · rw[if_pos hk,decide_eq_true_eq] at h;exact⟨h1,by omega,by omega,.inl hk⟩
 · rw[if_neg hk] at h;by_cases hm:m=0
   · exact⟨h1,by omega,by omega,.inr (.inl hm)⟩
   · rw[if_neg hm] at h;simp only[Bool.and_eq_true,decide_eq_true_eq] at h;exact⟨h1,by omega,by omega,.inr (.inr ⟨h.1.2,h.1.1.2⟩)⟩
theorem Qws {s:aF}{d:Nat}(hv:eO s=true)(hd:s.Depth=(d:Int))(h6:d≤6)(x:bZ):
 (lM s [x]=some (bB.mk 0#8 0 0,31)∧qY s x=some false∧pL (dI s) x=some false)∨
 (lM s [x]=some (dI s,0)∧qY s x=some true∧pL (dI s) x=some true∧wY s x∧∃ n m:Nat,x=⟨(n:Int),(m:Int)⟩∧M1 s x n m∧jV s.Kind d n m=true):=by
 obtain⟨b,e1,e2,e3,e4⟩:=Qnk s hv x
 cases b with
 | false=>exact .inl ⟨e1,e2,e3⟩
 | true=>
  obtain⟨h1,n,m,h2⟩:=e4 rfl;have hx:x=⟨(n:Int),(m:Int)⟩:=by cases x;simp only[M1] at h2;rw[h2.1,h2.2.1]
  refine .inr ⟨e1,e2,e3,h1,n,m,hx,h2,?_⟩;have:=Qdf hv hd h6 n m;rw[←hx,e2] at this;exact(Option.some.inj this).symm
theorem Qqa {s:aF}{d n m:Nat}(h6:d≤6)(hs:jV s.Kind d n m=true){a:Nat × Nat}(ha:a.1<128∧a.2<128)(key:W2):
 A7 (dI s) (dP.mk (a.1:Int) (a.2:Int) key) ⟨(n:Int),(m:Int)⟩=some (lI s.Kind n m a)∧Qfo s (a.1:Int) (a.2:Int) ⟨(n:Int),(m:Int)⟩=some (lI s.Kind n m a):=by
 obtain⟨hn1,hn2,hm2,_⟩:=Ey h6 hs;unfold A7 Qfo;rw[show(dI s).kind=s.Kind from rfl];simp only;by_cases hk:s.Kind=1#8
 · have hl:lI s.Kind n m a=decide (a.1=n∧a.2=m):=if_pos (.inl hk);rw[if_pos hk,if_pos hk,hl];unfold xK Xp;rw[cond_true,cond_true];simp only;by_cases he:a.1=n
   · rw[if_neg (by omega),if_pos (by omega)];refine⟨?_,?_⟩<;>(congr 1;apply decide_eq_decide.2;omega)
   · rw[if_pos (by omega),if_neg (by omega),decide_eq_false (by omega)];exact⟨rfl,rfl⟩
 · rw[if_neg hk,if_neg hk];by_cases hm:m=0
   · have hl:lI s.Kind n m a=decide (a.1=n∧a.2=m):=if_pos (.inr hm);rw[hl];unfold xK Xp;rw[decide_eq_true (by omega),cond_true,cond_true];simp only;by_cases he:a.1=n
     · rw[if_neg (by omega),if_pos (by omega)];refine⟨?_,?_⟩<;>(congr 1;apply decide_eq_decide.2;omega)
     · rw[if_pos (by omega),if_neg (by omega),decide_eq_false (by omega)];exact⟨rfl,rfl⟩
   · have hl:lI s.Kind n m a=(decide (a.1=n∧1≤a.2)&&cJ a.2 n&&cJ m a.2):=if_neg (by rintro(h|h);exact hk h;exact hm h);rw[hl];unfold xK Xp;rw[decide_eq_false (by omega),cond_false,cond_false];simp only;by_cases he:a.1=n
     · rw[if_neg (by omega),if_pos (by omega)];by_cases h1:1≤a.2
       · rw[if_pos (by omega),decide_eq_true (by omega),Bool.true_and,he,La h1 hn1 (by omega) (by omega),Pz h1 hn1 (by omega),bind_some,bind_some]
         cases cJ a.2 n with
         | false=>exact⟨rfl,rfl⟩
         | true=>rw[cond_true,cond_true,La (by omega) h1 (by omega) (by omega),Pz (by omega) h1 (by omega),bind_some,Bool.true_and];exact⟨rfl,rfl⟩
       · have h0:a.2=0:=by omega
         rw[if_neg (by omega),decide_eq_false (by omega),Bool.false_and,Bool.false_and];refine⟨?_,rfl⟩
         have:qB (a.2:Int) (a.1:Int)=some false:=by
          unfold qB wI;rw[if_pos (by omega)];rfl
         rw[this,bind_some];rfl
     · rw[if_pos (by omega),if_neg (by omega),decide_eq_false (by omega)];exact⟨rfl,rfl⟩
end Go.Sx

end
section
namespace Go.Sx
open Go
section
variable {s:aF} {d u n m:Nat}
def Br (s:aF)(d u n m:Nat):Option (Nat × Nat):=(gA s.Kind d u).find? (lI s.Kind n m)
theorem Qqc (h6:d≤6)(hu:u<2^d)(hs:jV s.Kind d n m=true):iY (2^d+u) n m=(Br s d u n m).isSome:=by
 rw[←Qq9 h6 hu hs];unfold Br;rw[Bool.eq_iff_iff,List.find?_isSome,List.any_eq_true]
end
def gI (d:Nat)(l:List Int):Bool:=(List.range l.length).all fun j=>decide (0≤l.getD j 0∧l.getD j 0<((2^d:Nat):Int))&&(decide (j=0)||decide (l.getD (j-1) 0<l.getD j 0))
theorem getD_some {l:List Int}{j:Nat}(h:j<l.length):l.getD j 0=l[j]:=by simp[List.getD,h]
theorem X0 {σ:Type}(p:Nat→Bool):∀ (l:List Nat) (F:Nat→(σ→Option Bool)→σ→Option Bool) (s:σ),(∀ a∈l,∀ nx s,F a nx s=bif p a then nx s else some false)→eS F (fun _=>some true) l s=some (l.all p)
 | [],F,s,_=>rfl
 | a::l,F,s,h=>by
  rw[rH,h a (by simp),List.all_cons]
  cases p a with
  | false=>rfl
  | true=>rw[cond_true,Bool.true_and];exact X0 p l F s (fun b hb=>h b (by simp[hb]))
theorem Qqi {kd:BitVec 8}{d:Nat}{st:Int}(h6:d≤6)(l:List Int)(hl:l.length<4611686018427387904):V8 ⟨kd,(d:Int),st⟩ l=some (gI d l):=by
 unfold V8 gI
 have:=Ry l.length (xY ⟨kd,(d:Int),st⟩ l) (fun j (_:Unit)=>(j:Int)) (fun j nx s=>bif decide (0≤l.getD j 0∧l.getD j 0<((2^d:Nat):Int))&&(decide (j=0)||decide (l.getD (j-1) 0<l.getD j 0)) then nx s else some false) (fun _=>some true)
  (fun rec j hj _=>by
   simp only[xY,V9];rw[if_pos (by omega),eG hj,bind_some,Qfh h6,bind_some,getD_some hj,gR (by omega)];by_cases h:0≤l[j]∧l[j]<((2^d:Nat):Int)
   · rw[decide_eq_true h];simp only[Bool.not_true,cond_false,Bool.true_and];by_cases h0:j=0
     · rw[if_neg (by omega),decide_eq_true h0];rfl
     · have hj1:j-1<l.length:=by omega
       rw[if_pos (by omega),dO (by omega) (by omega),show(j:Int)-1=((j-1:Nat):Int) from by omega,eG hj1,bind_some,decide_eq_false h0,Bool.false_or,getD_some hj1];by_cases h1:l[j]≤l[j-1]
       · rw[decide_eq_true h1,decide_eq_false (by omega)];rfl
       · rw[decide_eq_false h1,decide_eq_true (by omega)];rfl
   · rw[decide_eq_false h];rfl)
  (fun rec _=>by simp only[xY];rw[if_neg (by omega)]) (f:=aI) (fI (by omega)) ()
 rw[show((0:Nat):Int)=0 from rfl] at this;rw[this];exact X0 _ _ _ _ (fun a _ nx s=>rfl)
theorem Qj {d:Nat}{l:List Int}(h:gI d l=true){a:Int}(ha:a∈l):∃ u:Nat,a=(u:Int)∧u<2^d:=by
 obtain⟨j,hj,rfl⟩:=List.mem_iff_getElem.1 ha;have:=List.all_eq_true.1 h j (by simpa using hj);rw[Bool.and_eq_true,decide_eq_true_eq,getD_some hj] at this;exact⟨l[j].toNat,by omega,by omega⟩
end Go.Sx

end
section
namespace Go.Sx
open Go
def iE (y:Nat × Nat):bZ:=⟨(y.1:Int),(y.2:Int)⟩
def mF:Nat→Nat→List Int→List Int
 | 0,_,ks=>ks
 | f+1,n,ks=>if n=0 then ks else mF f (n / 2) (mD ks (n:Int))
theorem Qhl (a5:Int)(rec1:Int × List Int→Option (List bZ × Int)):∀ (f fuel n:Nat) (ks:List Int),n<2^f→f<fuel→aS (wE a5 rec1) fuel ((n:Int),ks)=rec1 (aX (a5+1),mF f n ks)
 | f,0,n,ks,_,h=>by omega
 | 0,fuel+1,n,ks,hn,_=>by
  rw[eQ];simp only[wE];rw[if_neg (by simp at hn;omega)];rfl
 | f+1,fuel+1,n,ks,hn,hf=>by
  rw[eQ];simp only[wE];unfold mF;by_cases h0:n=0
  · rw[if_neg (by omega),if_pos h0]
  · rw[if_pos (by omega),if_neg h0,show eK (un 1#64)=some 1 from by decide,bind_some,Tl _ _ (by omega),Nat.pow_one];exact Qhl a5 rec1 f fuel (n / 2) _ (by rw[Nat.pow_succ] at hn;omega) (by omega)
theorem Qph {ks:List Int}{k z:Int}:z∈mD ks k↔z∈ks∨z=k:=by
 unfold mD;split
 · rename_i h;exact⟨.inl,fun h'=>h'.elim id (fun e=>e ▸ h)⟩
 · simp
theorem Qpg {ks:List Int}{k:Int}:(mD ks k).length≤ks.length+1:=by unfold mD;split<;>simp
theorem Qhm:∀ (f n:Nat) (ks:List Int) (z:Int),n<2^f→(z∈mF f n ks↔z∈ks∨∃ j,2^j≤n∧z=((n / 2^j:Nat):Int))
 | 0,n,ks,z,hn=>by
  unfold mF;constructor
  · exact .inl
  · rintro(h|⟨j,hj,_⟩)
    · exact h
    · have:=Nat.two_pow_pos j;simp at hn;omega
 | f+1,n,ks,z,hn=>by
  unfold mF;by_cases h0:n=0
  · rw[if_pos h0];constructor
    · exact .inl
    · rintro(h|⟨j,hj,_⟩)
      · exact h
      · have:=Nat.two_pow_pos j;omega
  · rw[if_neg h0,Qhm f (n / 2) _ z (by rw[Nat.pow_succ] at hn;omega),Qph];have hd2:∀ j,n / 2 / 2^j=n / 2^(j+1):=fun j=>by rw[Nat.div_div_eq_div_mul,Nat.pow_succ,Nat.mul_comm 2]
    constructor
    · rintro((h|h)|⟨j,h1,h2⟩)
      · exact .inl h
      · exact .inr ⟨0,by simp;omega,by simpa using h⟩
      · exact .inr ⟨j+1,by rw[Nat.pow_succ];omega,by rw[h2,hd2]⟩
    · rintro(h|⟨j,h1,h2⟩)
      · exact .inl (.inl h)
      · cases j with
        | zero=>exact .inl (.inr (by simpa using h2))
        | succ j=>exact .inr ⟨j,by rw[Nat.pow_succ] at h1;omega,by rw[h2,hd2]⟩
theorem Qhk:∀ (f n:Nat) (ks:List Int),(mF f n ks).length≤ks.length+f
 | 0,n,ks=>by simp[mF]
 | f+1,n,ks=>by
  unfold mF;split
  · omega
  · have:=Qhk f (n / 2) (mD ks (n:Int));have:=Qpg (ks:=ks) (k:=(n:Int));omega
def jQ (d:Nat)(l:List Int):List Int:=l.foldl (fun ks u=>mF 8 (2^d+u.toNat) ks) []
theorem Bg {d:Nat}(h6:d≤6):∀ (l:List Int) (ks:List Int) (z:Int),(∀ u∈l,u.toNat<2^d)→(z∈l.foldl (fun ks u=>mF 8 (2^d+u.toNat) ks) ks↔z∈ks∨∃ u∈l,∃ j,2^j≤2^d+u.toNat∧z=(((2^d+u.toNat) / 2^j:Nat):Int))
 | [],ks,z,_=>by simp
 | a::l,ks,z,h=>by
  have h64:=fO h6;have ha:=h a (by simp);rw[List.foldl_cons,Bg h6 l _ z (fun u hu=>h u (by simp[hu])),Qhm 8 _ _ _ (by omega)];constructor
  · rintro((h1|h1)|⟨u,hu,h1⟩)
    · exact .inl h1
    · exact .inr ⟨a,by simp,h1⟩
    · exact .inr ⟨u,by simp[hu],h1⟩
  · rintro(h1|⟨u,hu,h1⟩)
    · exact .inl (.inl h1)
    · rcases List.mem_cons.1 hu with rfl|hu
      · exact .inl (.inr h1)
      · exact .inr ⟨u,hu,h1⟩
theorem Qd9 {d:Nat}:∀ (l:List Int) (ks:List Int),(l.foldl (fun ks u=>mF 8 (2^d+u.toNat) ks) ks).length≤ks.length+8*l.length
 | [],ks=>by simp
 | a::l,ks=>by
  rw[List.foldl_cons,List.length_cons];have:=Qd9 (d:=d) l (mF 8 (2^d+a.toNat) ks);have:=Qhk 8 (2^d+a.toNat) ks;omega
def cV (l:List Int):List Nat:=l.map Int.toNat
theorem rU {d:Nat}{l:List Int}(h6:d≤6)(h:gI d l=true):fW d (cV l):=⟨h6,fun u hu=>by
 obtain⟨a,ha,rfl⟩:=List.mem_map.1 hu;obtain⟨w,hw,hw2⟩:=Qj h ha
 rw[hw];simpa using hw2⟩
theorem sM {d:Nat}{l:List Int}(h6:d≤6)(h:gI d l=true)(n:Nat):((n:Int)∈jQ d l)↔bA d (cV l) n=true:=by
 have hr:=rU h6 h;unfold jQ;rw[Bg h6 l [] _ (fun u hu=>hr.2 _ (List.mem_map.2 ⟨u,hu,rfl⟩)),rY];simp only[List.not_mem_nil,false_or];constructor
 · rintro⟨u,hu,j,h1,h2⟩;refine⟨u.toNat,List.mem_map.2 ⟨u,hu,rfl⟩,(fE (hr.leaf (List.mem_map.2 ⟨u,hu,rfl⟩)).1).2 ⟨j,h1,by omega⟩⟩
 · rintro⟨u,hu,hb⟩;obtain⟨a,ha,rfl⟩:=List.mem_map.1 hu;obtain⟨j,h1,h2⟩:=(fE (hr.leaf hu).1).1 hb;exact⟨a,ha,j,h1,by rw[h2]⟩
theorem Qpb {d:Nat}{l:List Int}(h6:d≤6)(h:gI d l=true){k:Int}(hk:k∈jQ d l):∃ n:Nat,k=(n:Int)∧bA d (cV l) n=true:=by
 have hr:=rU h6 h;unfold jQ at hk;rw[Bg h6 l [] _ (fun u hu=>hr.2 _ (List.mem_map.2 ⟨u,hu,rfl⟩))] at hk;simp only[List.not_mem_nil,false_or] at hk;obtain⟨u,hu,j,h1,h2⟩:=hk;exact⟨_,h2,rY.2 ⟨u.toNat,List.mem_map.2 ⟨u,hu,rfl⟩,(fE (hr.leaf (List.mem_map.2 ⟨u,hu,rfl⟩)).1).2 ⟨j,h1,rfl⟩⟩⟩
theorem Sk {d:Nat}{l:List Int}(h6:d≤6)(h:gI d l=true)(n:Nat):decide ((n:Int)∈jQ d l)=bA d (cV l) n:=by
 cases hb:bA d (cV l) n with
 | true=>exact decide_eq_true ((sM h6 h n).2 hb)
 | false=>exact decide_eq_false fun hm=>by rw[(sM h6 h n).1 hm] at hb;cases hb
theorem Qcz {s:aF}{d:Nat}{l:List Int}(h6:d≤6)(h:gI d l=true)(acc:List bZ)(nx:List bZ→Option (List bZ × Int))(k:Int):∀ (f fuel v:Nat),1≤v→Nat.log2 v≤d→d-Nat.log2 v<f→f≤fuel→
 aS (sD (dI s,0) (jQ d l) acc nx k) fuel (v:Int)=(if(dT d (cV l) f v:Int)=k then nx acc else Option.bind (sT (dI s) k (dT d (cV l) f v:Int)) fun x31=>(if x31≠0 then(if(dI s).kind=3#8 then Option.bind (qC (dI s) k) fun x34=>(oV acc nx k (dT d (cV l) f v:Int) x31 (!x34)) else oV acc nx k (dT d (cV l) f v:Int) x31 false) else oV acc nx k (dT d (cV l) f v:Int) x31 false))
 | 0,fuel,v,_,_,hf,_=>by omega
 | f+1,0,v,_,_,_,hf=>by omega
 | f+1,fuel+1,v,hv,hl,hf,hff=>by
  have hr:=rU h6 h;have h64:=fO h6
  have hv128:v<128:=by
   have:=(Nat.log2_lt (n:=v) (k:=d+1) (by omega)).1 (by omega);rw[Nat.pow_succ] at this;omega
  rw[eQ];simp only[sD];have e0:aX (2*(v:Int))=((2*v:Nat):Int):=by rw[dO (by omega) (by omega)];omega
  have e1:aX (((2*v:Nat):Int)+1)=((2*v+1:Nat):Int):=by rw[dO (by omega) (by omega)];omega
  have e2:aX ((v:Int)*2)=((2*v:Nat):Int):=by rw[dO (by omega) (by omega)];omega
  rw[e0,e1,e2,e1,Sk h6 h,Sk h6 h];rw[show(bA d (cV l) (2*v) != bA d (cV l) (2*v+1))=lB d (cV l) v from rfl]
  cases hb:lB d (cV l) v with
  | false=>
   have hfv:dT d (cV l) (f+1) v=v:=by unfold dT;rw[hb];rfl
   rw[cond_false,hfv]
  | true=>
   have hfv:dT d (cV l) (f+1) v=dT d (cV l) f (lG d (cV l) v):=by
    show(if lB d (cV l) v=true then dT d (cV l) f (lG d (cV l) v) else v)=_
    rw[hb];rfl
   rw[cond_true,hfv];obtain⟨hl2,_⟩:=Lg hr hv hb
   have key:(if ¬ (((2*v:Nat):Int)∈jQ d l) then aS (sD (dI s,0) (jQ d l) acc nx k) fuel ((2*v+1:Nat):Int) else aS (sD (dI s,0) (jQ d l) acc nx k) fuel ((2*v:Nat):Int))=aS (sD (dI s,0) (jQ d l) acc nx k) fuel (lG d (cV l) v:Int):=by
    unfold lG
    cases hh:bA d (cV l) (2*v) with
    | true=>rw[if_neg (fun hn=>hn ((sM h6 h _).2 hh)),if_pos rfl]
    | false=>rw[if_pos (fun hm=>by rw[(sM h6 h _).1 hm] at hh;cases hh),if_neg (by simp)]
   rw[key]
   have hn:1≤lG d (cV l) v∧Nat.log2 (lG d (cV l) v)=Nat.log2 v+1:=by
    unfold lG;split
    · exact⟨by omega,nK hv (b:=0) (by omega)⟩
    · exact⟨by omega,nK hv (b:=1) (by omega)⟩
   exact Qcz h6 h acc nx k f fuel _ hn.1 (by omega) (by omega) (by omega)
theorem Qwo {s:aF}{d:Nat}{l:List Int}(hv:eO s=true)(hd:s.Depth=(d:Int))(h6:d≤6)(h:gI d l=true){v:Nat}(hh:bA d (cV l) v=true)(acc:List bZ)(ha:acc.length≤1000)(nx:List bZ→Option (List bZ × Int)):
 uZ (dI s,0) (jQ d l) (v:Int) nx acc=nx (acc++(jZ s.Kind d (cV l) v).map iE):=by
 have hr:=rU h6 h;have h64:=fO h6;obtain⟨v1,vl,v2⟩:=nF hr hh;have hpow:2^(d+1)=2*2^d:=by rw[Nat.pow_succ,Nat.mul_comm]
 have hv128:v<128:=by omega
 have ht:dI s=⟨s.Kind,(d:Int),(jK d:Int)⟩:=by unfold dI;rw[hd,Int.toNat_natCast]
 have hkd:(dI s).kind=s.Kind:=rfl;have hsib:uW (v:Int)=some ((v ^^^ 1:Nat):Int):=by unfold uW;rw[Qj5 hv128]
 have hadd:∀ (a b:Int) (acc:List bZ),acc.length≤2000→wC a b acc=some (acc++[⟨a,b⟩]):=fun a b acc hl=>by
  unfold wC;rw[kD (by simp;omega),bind_some]
 unfold uZ;simp only[hkd];by_cases hk:s.Kind=1#8
 · rw[if_pos hk];unfold jZ;rw[if_pos hk];by_cases hv1:v=1
   · rw[if_neg (by omega),if_neg (by simp[hv1])];unfold J6;simp
   · rw[if_pos (by omega),hsib,bind_some];unfold J6;have hdm:=Sk h6 h (v ^^^ 1);by_cases hs:bA d (cV l) (v ^^^ 1)=true
     · rw[decide_eq_false (p:=¬ (((v ^^^ 1:Nat):Int)∈jQ d l)) (fun hn=>hn ((sM h6 h _).2 hs)),cond_false,if_neg (by simp[hs])];simp
     · have hs':bA d (cV l) (v ^^^ 1)=false:=by simpa using hs
       rw[decide_eq_true (p:=¬ (((v ^^^ 1:Nat):Int)∈jQ d l)) (fun hm=>hs ((sM h6 h _).1 hm)),cond_true,hsib,bind_some,hadd _ _ _ (by omega),bind_some,if_pos ⟨hv1,hs'⟩];rfl
 · rw[if_neg hk]
   have go:jX d (cV l) v=true→uX (dI s,0) (jQ d l) acc nx (v:Int) false=nx (acc++(jZ s.Kind d (cV l) v).map iE):=by
    intro hhd;unfold uX;rw[cond_false,Qcz h6 h acc nx (v:Int) 7 aI v v1 vl (by omega) (by unfold aI;omega)];unfold jZ;rw[if_neg hk,if_pos hhd];obtain⟨w1,w2,w3,K,w4,w5,w6⟩:=uM hr 7 v v1 vl (by omega);generalize dT d (cV l) 7 v=w at *;by_cases hw:w=v
    · rw[if_pos (by omega),if_pos hw];simp
    · rw[if_neg (by omega),if_neg hw];have hlw:=iL w K w4;rw[←w5] at hlw
      have hK:1≤K:=by
       rcases Nat.eq_zero_or_pos K with h0|h0
       · subst h0;simp at w5;exact absurd w5.symm hw
       · exact h0
      have hw128:w<128:=by
       have:=(Nat.log2_lt (n:=w) (k:=d+1) (by omega)).1 (by omega);omega
      have hcut:sT (dI s) (v:Int) (w:Int)=some ((gP d v w:Nat):Int):=by
       obtain⟨K',rfl⟩:∃ K',K=K'+1:=⟨K-1,by omega⟩;have:=Qag (kd:=s.Kind) (d:=d) (m:=w) (k:=K') hw128 w4 (by omega);rw[←w5] at this;rw[ht,this];unfold gP;rw[show Nat.log2 w-Nat.log2 v-1=K' from by omega]
      have hspc:qC (dI s) (v:Int)=some (fF d v):=by rw[ht];exact Ev v1 (by omega)
      rw[hcut,bind_some]
      have one:oV acc nx (v:Int) (w:Int) ((gP d v w:Nat):Int) false=nx (acc++[(v,w)].map iE):=by
       unfold oV J7;rw[cond_false,hadd _ _ _ (by omega),bind_some];rfl
      have two:oV acc nx (v:Int) (w:Int) ((gP d v w:Nat):Int) true=nx (acc++[(v,gP d v w),(gP d v w,w)].map iE):=by
       unfold oV J7;rw[cond_true,hadd _ _ _ (by omega),bind_some,hadd _ _ _ (by simp;omega),bind_some,List.append_assoc];rfl
      have hk3:s.Kind=2#8∨s.Kind=3#8:=by
       obtain⟨a,b⟩:=Qho hv;rcases Qds a b with e|e|e
       · exact absurd e hk
       · exact .inl e
       · exact .inr e
      unfold iX;by_cases hc0:gP d v w=0
      · rw[if_neg (by omega),one]
        have:(decide (s.Kind=2#8)||fF d v||decide (kB d (eN (w / 2) (Nat.log2 w-Nat.log2 v-1))=0))=true:=by
         rw[decide_eq_true (p:=kB _ _=0) hc0];simp
        rw[if_pos this]
      · have hc0':decide (kB d (eN (w / 2) (Nat.log2 w-Nat.log2 v-1))=0)=false:=decide_eq_false hc0;rw[if_pos (by omega),hc0',Bool.or_false];rcases hk3 with hk3|hk3
        · rw[if_neg (by rw[hkd,hk3];decide),one,if_pos (by simp[hk3])]
        · rw[if_pos (show(dI s).kind=3#8 from hk3),hspc,bind_some];have:decide (s.Kind=2#8)=false:=by rw[hk3];decide
          rw[this,Bool.false_or]
          cases fF d v with
          | true=>rw[Bool.not_true,one,if_pos rfl]
          | false=>rw[Bool.not_false,two,if_neg (by simp)]
   have no:jX d (cV l) v=false→uX (dI s,0) (jQ d l) acc nx (v:Int) true=nx (acc++(jZ s.Kind d (cV l) v).map iE):=by
    intro hhd;unfold uX jZ;rw[cond_true,if_neg hk,if_neg (by rw[hhd];simp)];simp
   by_cases hv1:v=1
   · rw[if_neg (by omega)];exact go (by unfold jX;simp[hv1])
   · rw[if_pos (by omega),hsib,bind_some];by_cases hs:bA d (cV l) (v ^^^ 1)=true
     · rw[decide_eq_false (p:=¬ (((v ^^^ 1:Nat):Int)∈jQ d l)) (fun hn=>hn ((sM h6 h _).2 hs))];exact go (by unfold jX;simp[hs])
     · have hs':bA d (cV l) (v ^^^ 1)=false:=by simpa using hs
       rw[decide_eq_true (p:=¬ (((v ^^^ 1:Nat):Int)∈jQ d l)) (fun hm=>hs ((sM h6 h _).1 hm))];exact no (by unfold jX;simp[hs',hv1])
theorem Qk9 {d:Nat}{R:List Nat}(h:fW d R){k:BitVec 8}(hne:R≠[]){v:Nat}(hv:bA d R v=true):(gX k d R).filter (fun y=>decide (iH k d R y=v))=jZ k d R v:=by
 refine Ik ?_ ?_ fun y=>?_
 · exact List.Pairwise.filter _ Ki
 · unfold jZ tM
   split
   · split<;>simp
   · split
     · split
       · simp
       · split
         · simp
         · rename_i h2 h3 h4 h5;obtain⟨v1,vl,v2⟩:=nF h hv;obtain⟨w1,w2,w3,K,w4,w5,w6⟩:=uM h 7 v v1 vl (by have:=h.1;omega);obtain⟨j,j1,j2,j3⟩:=Ky (k:=k) (d:=d) (.inr trivial) w4 w5 v1 (by simpa using h5);simp only[List.pairwise_cons,List.mem_singleton,List.not_mem_nil,false_imp_iff,implies_true,List.Pairwise.nil,and_true,forall_eq];have hj2:2^j≤dT d R 7 v:=Nat.le_trans (Nat.pow_le_pow_right (by omega) (by omega)) w4;have hl1:=iL _ _ w4;have hl2:=iL _ _ hj2;rw[←w5] at hl1;rw[←j3] at hl2;rcases Nat.lt_or_ge v (gP d v (dT d R 7 v)) with cP|hge
           · exact cP
           · have:=Bw hge;omega
     · simp
 · rw[List.mem_filter,decide_eq_true_eq];exact E4 h hne hv y
theorem Qa6 {k:BitVec 8}{d:Nat}{R:List Nat}(h6:d≤6):(gX k d R).length≤127:=by
 have h64:=fO h6;have hpow:2^(d+1)=2*2^d:=by rw[Nat.pow_succ,Nat.mul_comm]
 refine Nat.le_trans (List.length_filterMap_le _ _) ?_;simp[T2];omega
theorem Qor {α:Type}(p q:α→Bool)(hpq:∀ a,p a=true→q a=false)(l:List α):(l.filter fun a=>p a||q a).Perm (l.filter p++l.filter q):=by
 induction l with
 | nil=>simp
 | cons a l ih=>
  cases hp:p a with
  | true=>
   have hq:=hpq a hp;simp only[List.filter_cons,hp,hq,Bool.true_or,if_true,Bool.false_eq_true,if_false,List.cons_append];exact ih.cons a
  | false=>
   cases hq:q a with
   | true=>
    simp only[List.filter_cons,hp,hq,Bool.or_true,if_true,Bool.false_eq_true,if_false];exact(ih.cons a).trans List.perm_middle.symm
   | false=>
    simp only[List.filter_cons,hp,hq,Bool.or_false,Bool.false_eq_true,if_false];exact ih
theorem Qwl {k:BitVec 8}{d:Nat}{R:List Nat}(h6:d≤6){acc:List bZ}(h:acc.Perm ((gX k d R).map iE)):zS bZ.Node acc=some ((gX k d R).map iE):=by
 have h64:=fO h6;have hpow:2^(d+1)=2*2^d:=by rw[Nat.pow_succ,Nat.mul_comm]
 have hasc:((gX k d R).map iE).Pairwise fun a b=>a.Node<b.Node:=by
  rw[List.pairwise_map];exact(Ki (k:=k) (d:=d) (R:=R)).imp (fun {a b} hab=>by unfold iE;simp only;omega)
 have hnd:(((gX k d R).map iE).map bZ.Node).Nodup:=by
  unfold List.Nodup;rw[List.pairwise_map];exact hasc.imp (by omega)
 unfold zS;rw[if_pos]
 · congr 1;have hs:=List.pairwise_mergeSort (le:=fun a b:bZ=>decide (a.Node≤b.Node)) (fun a b c h1 h2=>by simp at *;omega) (fun a b=>by simp;omega) acc;have hp:(acc.mergeSort fun a b=>decide (a.Node≤b.Node)).Perm ((gX k d R).map iE):=(List.mergeSort_perm acc _).trans h
   have key:∀ (l m:List bZ),l.Perm m→(l.Pairwise fun a b=>decide (a.Node≤b.Node)=true)→(m.Pairwise fun a b=>a.Node<b.Node)→l=m:=by
    intro l m hlm hl hm
    have hlnd:(l.map bZ.Node).Nodup:=by
     have:(m.map bZ.Node).Nodup:=by unfold List.Nodup;rw[List.pairwise_map];exact hm.imp (by omega)
     exact(hlm.map _).nodup_iff.2 this
    have hl':l.Pairwise fun a b=>a.Node<b.Node:=by
     unfold List.Nodup at hlnd;rw[List.pairwise_map] at hlnd;exact(hl.and hlnd).imp (fun {a b} hab=>by have:=of_decide_eq_true hab.1;have:=hab.2;omega)
    clear hl hlnd
    induction m generalizing l with
    | nil=>exact hlm.eq_nil
    | cons b m ih=>
     cases l with
     | nil=>exact absurd hlm.symm.eq_nil (by simp)
     | cons a l=>
      have ha:=List.pairwise_cons.1 hl';have hb:=List.pairwise_cons.1 hm
      have hab:a=b:=by
       rcases List.mem_cons.1 (hlm.subset (List.mem_cons_self)) with e|e
       · exact e
       · rcases List.mem_cons.1 (hlm.symm.subset (List.mem_cons_self)) with e2|e2
         · exact e2.symm
         · have:=ha.1 b e2;have:=hb.1 a e;omega
      subst hab;rw[ih l (List.Perm.cons_inv hlm) hb.2 ha.2]
   exact key _ _ hp hs hasc
 · refine⟨fun x hx=>?_,(h.map _).nodup_iff.2 hnd,?_⟩
   · obtain⟨y,hy,rfl⟩:=List.mem_map.1 (h.subset hx);have:=(wB.1 hy).1;unfold iE;simp only;omega
   · rw[h.length_eq,List.length_map];have:=Qa6 (k:=k) (R:=R) h6;omega
theorem Qty {s:aF}{d:Nat}{l:List Int}(hv:eO s=true)(hd:s.Depth=(d:Int))(h6:d≤6)(h:gI d l=true)(hne:l≠[])(hl:l.length*8≤140737488355328):
 mL (uZ (dI s,0) (jQ d l)) wM aI (jQ d l) []=some ((gX s.Kind d (cV l)).map iE,0):=by
 have hr:=rU h6 h;have hne':cV l≠[]:=by unfold cV;simpa using hne
 refine Qfz (fun rem acc=>(∀ k∈rem,k∈jQ d l)∧acc.Perm (((gX s.Kind d (cV l)).filter fun y=>decide (((iH s.Kind d (cV l) y:Nat):Int)∉rem)).map iE)) ?_ ?_ aI (jQ d l) [] ?_ ⟨fun _ hk=>hk,?_⟩
 · rintro acc ⟨_,hp⟩;have:((gX s.Kind d (cV l)).filter fun y=>decide (((iH s.Kind d (cV l) y:Nat):Int)∉([]:List Int)))=gX s.Kind d (cV l):=List.filter_eq_self.2 (by simp);rw[this] at hp;unfold wM;rw[Qwl h6 hp,bind_some]
 · rintro rem acc k hk ⟨hsub,hp⟩;obtain⟨v,rfl,hvh⟩:=Qpb h6 h (hsub k hk)
   have hal:acc.length≤1000:=by
    rw[hp.length_eq,List.length_map];have:=Qa6 (k:=s.Kind) (R:=cV l) h6;have:=List.length_filter_le (fun y=>decide (((iH s.Kind d (cV l) y:Nat):Int)∉rem)) (gX s.Kind d (cV l));omega
   refine⟨acc++(jZ s.Kind d (cV l) v).map iE,⟨fun j hj=>hsub j (List.mem_filter.1 hj).1,?_⟩,fun nx=>Qwo hv hd h6 h hvh acc hal nx⟩
   have hsp:=Qor (fun y=>decide (((iH s.Kind d (cV l) y:Nat):Int)∉rem)) (fun y=>decide (iH s.Kind d (cV l) y=v)) (fun y hy=>by
    simp only[decide_eq_true_eq,decide_eq_false_iff_not] at hy ⊢
    rintro rfl;exact hy hk) (gX s.Kind d (cV l))
   rw[Qk9 hr hne' hvh] at hsp
   have hcg:((gX s.Kind d (cV l)).filter fun y=>decide (((iH s.Kind d (cV l) y:Nat):Int)∉rem.filter (· ≠ (v:Int))))=((gX s.Kind d (cV l)).filter fun y=>decide (((iH s.Kind d (cV l) y:Nat):Int)∉rem)||decide (iH s.Kind d (cV l) y=v)):=by
    apply List.filter_congr;intro y _;rw[Bool.eq_iff_iff];simp only[Bool.or_eq_true,decide_eq_true_eq,List.mem_filter,not_and,ne_eq,Decidable.not_not,decide_not,Bool.not_eq_true',decide_eq_false_iff_not];constructor
    · intro hh;by_cases hm:((iH s.Kind d (cV l) y:Nat):Int)∈rem
      · have:=hh hm;right;omega
      · exact .inl hm
    · rintro(hh|hh) hm
      · exact absurd hm hh
      · rw[hh]
   rw[hcg];refine List.Perm.trans ?_ (hsp.map iE).symm;rw[List.map_append];exact hp.append_right _
 · have:=Qd9 (d:=d) l [];unfold jQ aI;simp only[List.length_nil,Nat.zero_add] at this;omega
 · have:((gX s.Kind d (cV l)).filter fun y=>decide (((iH s.Kind d (cV l) y:Nat):Int)∉jQ d l))=[]:=by
    rw[List.filter_eq_nil_iff];intro y hy;simp only[decide_eq_true_eq];exact fun hn=>hn ((sM h6 h _).2 (Wo hr hne' hy))
   rw[this];simp
def Kg (s:aF)(l:List Int):List bZ × Int:=
 if eO s then(if gI s.Depth.toNat l then((if l=[] then[⟨1,0⟩] else(gX s.Kind s.Depth.toNat (cV l)).map iE),0) else([],2)) else([],30)
theorem Qsv (s:aF)(l:List Int)(hl:l.length*8≤140737488355328):E5 s l=some (Kg s l):=by
 unfold E5 Kg;rw[Ft,bind_some]
 cases hv:eO s with
 | false=>rfl
 | true=>
  obtain⟨d,hd,h6⟩:=Zv hv;have ht:dI s=⟨s.Kind,(d:Int),(jK d:Int)⟩:=by unfold dI;rw[hd,Int.toNat_natCast]
  simp only[if_true];rw[if_neg (by simp),hd,Int.toNat_natCast];have e0:V8 (dI s) l=some (gI d l):=by rw[ht];exact Qqi h6 l (by omega)
  rw[e0,bind_some]
  cases hb:gI d l with
  | false=>rfl
  | true=>
   simp only[Bool.not_true,cond_false,if_true];by_cases hne:l=[]
   · subst hne;rfl
   · rw[if_neg (by intro h0;apply hne;exact List.eq_nil_of_length_eq_zero (by omega)),if_neg hne]
     have:=O8 l (wU l (dI s,0)) (fun j (ks:List Int)=>((j:Int),ks)) (fun u nx ks=>nx (mF 8 (2^d+u.toNat) ks)) (fun ks=>mL (uZ (dI s,0) ks) wM aI ks [])
      (fun rec j hj ks=>by
       obtain⟨u,hu,hu2⟩:=Qj hb (List.getElem_mem hj);have h64:=fO h6;simp only[wU];have hlf:xV (dI s) (u:Int)=some ((2^d+u:Nat):Int):=by rw[ht];exact Qqb h6 (by omega)
       rw[if_pos (by omega),eG hj,bind_some,hu,hlf,bind_some,Qhl _ _ 8 aI _ _ (by omega) (by unfold aI;omega),gR (by omega),Int.toNat_natCast])
      (fun rec ks=>by simp only[wU];rw[if_neg (by omega)]) (f:=aI) (fI (by omega)) ([]:List Int)
     rw[show((0:Nat):Int)=0 from rfl] at this;rw[this,Qdh (fun ks u=>mF 8 (2^d+u.toNat) ks) _ _ (fun _ _=>True) l 0 [] (fun _ _ _ _ _ _=>rfl) (fun _ _ _ _ _=>trivial) trivial];exact Qty hv hd h6 hb hne hl
end Go.Sx

end
section
namespace Go.Sx
open Go
end Go.Sx

end
section
namespace Go.Sx
open Go
variable {d:Nat} {R:List Nat}
theorem Qda (h:fW d R){u:Nat}(hu:u<2^d):bA d R (2^d+u)=true↔u∈R:=by
 rw[rY];constructor
 · rintro⟨a,ha,hb⟩;obtain⟨l1,l2,l3⟩:=h.leaf ha;have:=tA l1 (Lc l1) hb (by rw[l3,Qh hu]);have:a=u:=by omega
   exact this ▸ ha
 · intro hm;exact⟨u,hm,Lc (by have:=Nat.two_pow_pos d;omega)⟩
theorem Qiz {L a b:Nat}(hL:1≤L)(ha:cJ L a=true)(hb:cJ L b=true)(hl:Nat.log2 b≤Nat.log2 a):cJ a b=true:=by
 obtain⟨i,i1,rfl⟩:=(fE hL).1 ha;obtain⟨j,j1,rfl⟩:=(fE hL).1 hb;have li:=iL L i i1;have lj:=iL L j j1;have hij:i+(j-i)=j:=by omega
 refine(fE (pS i1)).2 ⟨j-i,rM (by rw[hij];exact j1),?_⟩;rw[Nat.div_div_eq_div_mul,←Nat.pow_add,hij]
def Low (d:Nat)(R:List Nat)(L z:Nat):Prop:=bA d R z=true∧cJ L z=true∧∃ s,s / 2=z∧2≤s∧cJ L s=true∧bA d R s=false
theorem Bh (h:fW d R){a b:Nat}(ha:bA d R a=true)(hb:cJ a b=true):bA d R b=true:=by
 obtain⟨k,k1,k2⟩:=(fE (nF h ha).1).1 hb;rw[k2];exact D3 h ha k k1
theorem Qe6 (h:fW d R){L z1 z2:Nat}(hL:1≤L)(h1:Low d R L z1)(h2:Low d R L z2):¬ Nat.log2 z1<Nat.log2 z2:=by
 intro cP;obtain⟨a1,b1,s,c1,c2,c3,c4⟩:=h1;obtain⟨a2,b2,_⟩:=h2;have hs:=oB c2;rw[c1] at hs;have:=Bh h a2 (Qiz hL b2 c3 (by omega));rw[c4] at this;cases this
theorem Qe5 (h:fW d R){L z1 z2:Nat}(hL:1≤L)(h1:Low d R L z1)(h2:Low d R L z2):z1=z2:=
 tA hL h1.2.1 h2.2.1 (by have:=Qe6 h hL h1 h2;have:=Qe6 h hL h2 h1;omega)
theorem Ac {p:Nat→Bool}:∀ (n j:Nat),p (j+n)=true→p j=false→∃ t,j≤t∧t<j+n∧p (t+1)=true∧p t=false
 | 0,j,h1,h2=>by rw[Nat.add_zero,h2] at h1;cases h1
 | n+1,j,h1,h2=>by
  cases hp:p (j+n) with
  | true=>obtain⟨t,a,b,c⟩:=Ac n j hp h2;exact⟨t,a,by omega,c⟩
  | false=>exact⟨j+n,by omega,by omega,h1,hp⟩
theorem Bz (h:fW d R){L f K i j:Nat}(hL:1≤L)(hl:Nat.log2 L=d)(hf:f<128)(hK:2^K≤f)(hfd:Nat.log2 f≤d)(hc:∀ t,t<K→bA d R (f / 2^t)=true∧bA d R ((f / 2^t) ^^^ 1)=false)
 (hij:j<i) (hi:i≤K) (ha:cJ L (f / 2^i)=true) (hb:cJ L (f / 2^j)=false):∃ t,j≤t∧t<i∧Low d R L (f / 2^(t+1)):=by
 obtain⟨t,t1,t2,t3,t4⟩:=Ac (p:=fun t=>cJ L (f / 2^t)) (i-j) j (by show cJ L (f / 2^(j+(i-j)))=true;rw[Nat.add_sub_cancel' (by omega)];exact ha) hb;replace t3:cJ L (f / 2^(t+1))=true:=t3;replace t4:cJ L (f / 2^t)=false:=t4;refine⟨t,t1,by omega,?_⟩;have ht:2^(t+1)≤f:=Nat.le_trans (Nat.pow_le_pow_right (by omega) (by omega)) hK;have hs2:2≤f / 2^t:=by have:=rM (w:=f) (i:=t) (j:=1) ht;simpa using this
 obtain⟨c1,c2⟩:=hc t (by omega);rw[qE] at t3 ⊢;have hsl:f / 2^t<128:=Nat.lt_of_le_of_lt (Nat.div_le_self _ _) hf;have hlg:=iL f t (Nat.le_trans (Nat.pow_le_pow_right (by omega) (by omega)) ht);generalize hs:f / 2^t=s at *;have hh:=oB hs2;refine⟨Ys h c1 hs2,t3,s ^^^ 1,Tn hsl,Zl hsl hs2,?_,c2⟩;rw[Jt hL (by omega) (by omega)] at t3;rcases(show 2*(s / 2)=s∨2*(s / 2)+1=s by omega) with e|e
 · have:=qM (n:=s / 2) (by omega);rw[e,t4,Bool.false_or] at t3;rw[e] at this;rw[this];exact t3
 · have:=qU (n:=s / 2) (by omega);rw[e,t4,Bool.or_false] at t3;rw[e] at this;rw[this];exact t3
def Ns (k:BitVec 8)(d:Nat)(R:List Nat)(L z:Nat):Nat × Nat:=
 if iX k d (dV d R 7 z) (dT d R 7 (dV d R 7 z)) then(dV d R 7 z,dT d R 7 (dV d R 7 z))
 else if cJ L (gP d (dV d R 7 z) (dT d R 7 (dV d R 7 z))) then(gP d (dV d R 7 z) (dT d R 7 (dV d R 7 z)),dT d R 7 (dV d R 7 z))
 else(dV d R 7 z,gP d (dV d R 7 z) (dT d R 7 (dV d R 7 z)))
theorem nC {L v w:Nat}:iY L v w=true↔cJ L v=true∧(w=0∨cJ L w=false):=by
 unfold iY;simp
theorem Lw (h:fW d R){k:BitVec 8}(hk:k≠1#8)(hne:R≠[]){y:Nat × Nat}(hy:y∈gX k d R){u:Nat}(hu:u<2^d)(hm:iY (2^d+u) y.1 y.2=true):
 ∃ z,Low d R (2^d+u) z∧y=Ns k d R (2^d+u) z:=by
 have h64:=fO h.1;have hpow:2^(d+1)=2*2^d:=by rw[Nat.pow_succ,Nat.mul_comm]
 have hv:=Wo h hne hy;have hout:=(E4 h hne hv y).1 ⟨hy,rfl⟩;have hy1:=(wB.1 hy).1;have hlog:=Qh hu;have hL:1≤2^d+u:=by omega
 generalize hLe:2^d+u=L at *
 have hhd:jX d R (iH k d R y)=true:=by
  unfold iH;rw[if_neg hk];exact(P9 7 y.1 hy1.1 (by have:=yW hy1.1 hy1.2;have:=h.1;omega)).1
 generalize hve:iH k d R y=v at *;obtain⟨v1,vl,v2⟩:=nF h hv;obtain⟨f1,f2,f3,K,f4,f5,f6⟩:=uM h 7 v v1 vl (by have:=h.1;omega);unfold jZ at hout;rw[if_neg hk,if_pos hhd] at hout
 have key:∀ z,dV d R 7 z=v→Ns k d R L z=if iX k d v (dT d R 7 v) then(v,dT d R 7 v) else if cJ L (gP d v (dT d R 7 v)) then(gP d v (dT d R 7 v),dT d R 7 v) else(v,gP d v (dT d R 7 v)):=by
  intro z hz;unfold Ns;rw[hz]
 have cutc:=fun hs=>Ky (d:=d) (k:=k) (v:=v) (w:=dT d R 7 v) (.inr trivial) f4 f5 v1 hs;generalize hfe:dT d R 7 v=f at *;have hf128:f<128:=by have:=(Nat.log2_lt (n:=f) (k:=d+1) (by omega)).1 (by omega);omega
 have hK6:=yQ f4 hf128
 have hd:∀ t,t<K→dV d R 7 (f / 2^(t+1))=v:=fun t ht=>
  Bc hhd v1 (t+1) (K-(t+1)) 7 (by rw[Nat.add_sub_cancel' (by omega)];exact f4) (by rw[Nat.add_sub_cancel' (by omega)];exact f5) (fun i h1 h2=>(f6 i (by omega)).2) (by omega)
 by_cases hfv:f=v
 · rw[if_pos hfv] at hout;cases hout
 · rw[if_neg hfv] at hout
   have hK0:0<K:=by
    rcases Nat.eq_zero_or_pos K with e|e
    · subst e;simp at f5;exact absurd f5.symm hfv
    · exact e
   cases hs:iX k d v f with
   | true=>
    rw[hs,if_pos rfl,List.mem_singleton] at hout;subst hout;obtain⟨m1,m2⟩:=nC.1 hm;simp only at m1 m2;rcases m2 with m2|m2
    · omega
    · rw[f5] at m1;obtain⟨t,t1,t2,t3⟩:=Bz h hL hlog hf128 f4 f2 f6 (j:=0) (i:=K) hK0 (Nat.le_refl _) m1 (by simpa using m2);exact⟨_,t3,by rw[key _ (hd t t2),hs,if_pos rfl]⟩
   | false=>
    rw[hs,if_neg (by simp)] at hout;obtain⟨j,j1,j2,j3⟩:=cutc hs;generalize hce:gP d v f=c at *;have hc1:1≤c:=by rw[j3];exact pS (Nat.le_trans (Nat.pow_le_pow_right (by omega) (by omega)) f4)
    rcases List.mem_cons.1 hout with e|e
    · subst e;obtain⟨m1,m2⟩:=nC.1 hm;simp only at m1 m2;rcases m2 with m2|m2
      · omega
      · have m2':=m2;rw[f5] at m1;rw[j3] at m2;obtain⟨t,t1,t2,t3⟩:=Bz h hL hlog hf128 f4 f2 f6 (j:=j) (i:=K) j2 (Nat.le_refl _) m1 m2;exact⟨_,t3,by rw[key _ (hd t t2),hs,if_neg (by simp),m2',if_neg (by simp)]⟩
    · rw[List.mem_singleton] at e;subst e;obtain⟨m1,m2⟩:=nC.1 hm;simp only at m1 m2;rcases m2 with m2|m2
      · omega
      · have m1':=m1;rw[j3] at m1;obtain⟨t,t1,t2,t3⟩:=Bz h hL hlog hf128 f4 f2 f6 (j:=0) (i:=j) (by omega) (by omega) m1 (by simpa using m2);exact⟨_,t3,by rw[key _ (hd t (by omega)),hs,if_neg (by simp),m1',if_pos rfl]⟩
theorem Eh (h:fW d R)(hne:R≠[]):bA d R 1=true:=by
 obtain⟨u,hu⟩:=List.exists_mem_of_ne_nil R hne;obtain⟨l1,l2,l3⟩:=h.leaf hu;exact rY.2 ⟨u,hu,(fE l1).2 ⟨d,by omega,by rw[Nat.add_div_left _ (Nat.two_pow_pos d),Nat.div_eq_of_lt (h.2 u hu)]⟩⟩
theorem Kj (h:fW d R)(hne:R≠[]){y:Nat × Nat}(hy:y∈gX 1#8 d R):bA d R y.1=false∧2≤y.1∧bA d R (y.1 / 2)=true∧y.2=0:=by
 obtain⟨⟨y1,y2⟩,hm⟩:=wB.1 hy;unfold yK at hm;rw[if_pos rfl] at hm
 split at hm
 · rename_i hc;simp only[Bool.and_eq_true,Bool.not_eq_true',Bool.or_eq_true,decide_eq_true_eq] at hc;have hr:=Eh h hne;have hyn:y.1≠1:=fun e=>by rw[e,hr] at hc;simp at hc
   exact⟨hc.1,by omega,hc.2.resolve_left hyn,(Option.some.inj hm).symm⟩
 · cases hm
theorem Qkf (h:fW d R){k:BitVec 8}(hne:R≠[]){y y':Nat × Nat}(hy:y∈gX k d R)(hy':y'∈gX k d R){u:Nat}(hu:u<2^d)(hm:iY (2^d+u) y.1 y.2=true)(hm':iY (2^d+u) y'.1 y'.2=true):y=y':=by
 have hL:1≤2^d+u:=by have:=Nat.two_pow_pos d;omega
 by_cases hk:k=1#8
 · subst hk;obtain⟨a1,a2,a3,a4⟩:=Kj h hne hy;obtain⟨b1,b2,b3,b4⟩:=Kj h hne hy';have m1:=(nC.1 hm).1;have m2:=(nC.1 hm').1;have up:∀ {s:Nat},2≤s→cJ (2^d+u) s=true→cJ (2^d+u) (s / 2)=true:=fun {s} h2 hb=>U5 hL hb ((fE (by omega)).2 ⟨1,by simpa using h2,by simp⟩);have hz:=Qe5 h hL (z1:=y.1 / 2) (z2:=y'.1 / 2) ⟨a3,up a2 m1,y.1,rfl,a2,m1,a1⟩ ⟨b3,up b2 m2,y'.1,rfl,b2,m2,b1⟩;have l1:=oB a2;have l2:=oB b2;have:=tA hL m1 m2 (by rw[l1,l2,hz]);exact Prod.ext this (by rw[a4,b4])
 · obtain⟨z,z1,z2⟩:=Lw h hk hne hy hu hm;obtain⟨z',z1',z2'⟩:=Lw h hk hne hy' hu hm';rw[z2,z2',Qe5 h hL z1 z1']
theorem Qkc (h:fW d R){k:BitVec 8}(hne:R≠[]){y:Nat × Nat}(hy:y∈gX k d R){u:Nat}(hu:u<2^d)(hr:u∈R):iY (2^d+u) y.1 y.2=false:=by
 have hhot:=(Qda h hu).2 hr
 cases hm:iY (2^d+u) y.1 y.2 with
 | false=>rfl
 | true=>
  by_cases hk:k=1#8
  · subst hk;have:=Bh h hhot (nC.1 hm).1;rw[(Kj h hne hy).1] at this;cases this
  · obtain⟨z,⟨_,_,s,_,_,s3,s4⟩,_⟩:=Lw h hk hne hy hu hm;have:=Bh h hhot s3;rw[s4] at this;cases this
theorem Qqo (h:fW d R)(hne:R≠[]){u:Nat}(hu:u<2^d)(hn:u∉R):∃ z,Low d R (2^d+u) z:=by
 have hp:=Nat.two_pow_pos d;have hL:1≤2^d+u:=by omega
 have h0:bA d R (2^d+u)=false:=by cases hh:bA d R (2^d+u) with|false=>rfl|true=>exact absurd ((Qda h hu).1 hh) hn
 obtain⟨t,t1,t2,t3,t4⟩:=Ac (p:=fun i=>bA d R ((2^d+u) / 2^i)) d 0 (by simp only[Nat.zero_add];rw[Nat.add_div_left _ hp,Nat.div_eq_of_lt hu];exact Eh h hne) (by simpa using h0);have h1:2^(t+1)≤2^d+u:=Nat.le_trans (Nat.pow_le_pow_right (by omega) (by omega)) (Nat.le_add_right _ _);have h2:2^t≤2^d+u:=Nat.le_trans (Nat.pow_le_pow_right (by omega) (by omega)) h1;refine⟨_,t3,(fE hL).2 ⟨t+1,h1,rfl⟩,(2^d+u) / 2^t,(qE _ _).symm,?_,(fE hL).2 ⟨t,h2,rfl⟩,t4⟩;have:=rM (w:=2^d+u) (i:=t) (j:=1) h1;simpa using this
theorem Om {z c:Nat}(hz:c / 2=z)(h2:2≤c)(hc:c<128)(hh:bA d R c=true)(hs:bA d R (c ^^^ 1)=false):lB d R z=true∧lG d R z=c:=by
 unfold lB lG;rcases(show 2*(c / 2)=c∨2*(c / 2)+1=c by omega) with e|e
 · have:=qM (n:=c / 2) (by omega);rw[e] at this;rw[this] at hs;rw[hz] at e;rw[e,hh,hs];simp
 · have:=qU (n:=c / 2) (by omega);rw[e] at this;rw[this,hz] at hs;rw[hz] at e;rw[e,hh,hs];simp
theorem Ba {z:Nat}(hz:z<128):∀ (i g:Nat),2^i≤z→(∀ t,t<i→bA d R (z / 2^t)=true∧bA d R ((z / 2^t) ^^^ 1)=false)→dT d R (i+g) (z / 2^i)=dT d R g z
 | 0,g,_,_=>by simp
 | i+1,g,hi,hc=>by
  obtain⟨c1,c2⟩:=hc i (by omega);have h2:2≤z / 2^i:=by have:=rM (w:=z) (i:=i) (j:=1) hi;simpa using this
  obtain⟨b1,b2⟩:=Om (z:=z / 2^(i+1)) (qE z i).symm h2 (Nat.lt_of_le_of_lt (Nat.div_le_self _ _) hz) c1 c2;rw[show i+1+g=(i+g)+1 from by omega,dT,b1,if_pos rfl,b2];exact Ba hz i g (Nat.le_trans (Nat.pow_le_pow_right (by omega) (by omega)) hi) fun t ht=>hc t (by omega)
theorem Qka (h:fW d R){k:BitVec 8}(hne:R≠[]){u:Nat}(hu:u<2^d)(hn:u∉R):∃ y∈gX k d R,iY (2^d+u) y.1 y.2=true:=by
 have h64:=fO h.1;have hpow:2^(d+1)=2*2^d:=by rw[Nat.pow_succ,Nat.mul_comm]
 have hlog:=Qh hu;have hL:1≤2^d+u:=by omega
 have hL2:2^d+u<128:=by omega
 obtain⟨z,z1,z2,s,s1,s2,s3,s4⟩:=Qqo h hne hu hn;have hsl:=Ju hL s3;have hsh:=oB s2;obtain⟨zp,zl,zb⟩:=nF h z1;have hs128:s<2^(d+1):=(Nat.log2_lt (by omega)).1 (by omega);by_cases hk:k=1#8
 · subst hk;refine⟨(s,0),wB.2 ⟨⟨by simp only;omega,hs128⟩,?_⟩,nC.2 ⟨s3,.inl rfl⟩⟩;unfold yK;rw[if_pos rfl,s4,s1,z1];simp
 · have hsb:=Er (n:=s) (by omega);have hs2':=Zl (n:=s) (by omega) s2;have hslog:=Tq (n:=s) (by omega) s2
   have hc:bA d R (s ^^^ 1)=true:=by
    have:=D2 h (v:=z) zp (by rw[s1] at hsh;omega);rw[z1,←s1] at this;rcases(show 2*(s / 2)=s∨2*(s / 2)+1=s by omega) with e|e
    · have e2:=qM (n:=s / 2) (by omega);rw[e] at e2;rw[e,←e2,s4] at this;simpa using this.symm
    · have e2:=qU (n:=s / 2) (by omega);rw[e] at e2;rw[e,s4,←e2] at this;simpa using this.symm
   have hcn:cJ (2^d+u) (s ^^^ 1)=false:=by
    cases hb:cJ (2^d+u) (s ^^^ 1) with
    | false=>rfl
    | true=>exact absurd (tA hL hb s3 hslog) (Es (by omega))
   obtain⟨hh,i,i1,i2,i3⟩:=P9 (d:=d) (R:=R) 7 z zp (by have:=h.1;omega);have hi6:=yQ i1 (by omega);have vhot:bA d R (dV d R 7 z)=true:=by rw[i2];exact D3 h z1 i i1
   have hbr:=Om (d:=d) (R:=R) (z:=z) (c:=s ^^^ 1) (by rw[Tn (by omega)];exact s1) hs2' hsb hc (by rw[Et (by omega)];exact s4);have hzi:=iL z i i1;have hzpos:=pS i1
   have hft:dT d R 7 (dV d R 7 z)=dT d R (6-i) (s ^^^ 1):=by
    rw[i2]
    have:=Ba (d:=d) (R:=R) (z:=z) (by omega) i (7-i) i1 (fun t ht=>⟨D3 h z1 t (Nat.le_trans (Nat.pow_le_pow_right (by omega) (by omega)) i1),by
     have:=i3 t ht;unfold jX at this;rw[Bool.or_eq_false_iff] at this;exact this.2⟩)
    rw[Nat.add_sub_cancel' (by omega)] at this;rw[this,show 7-i=(6-i)+1 from by omega,dT,hbr.1,if_pos rfl,hbr.2]
   have hil:i≤Nat.log2 z:=by omega
   rw[s1] at hsh;have hd6:=h.1;obtain⟨g1,g2,g3,K',g4,g5,g6⟩:=uM h (6-i) (s ^^^ 1) (by omega) (by omega) (by omega);have hvl:=nF h vhot;obtain⟨f1,f2,f3,K,f4,f5,f6⟩:=uM h 7 (dV d R 7 z) hvl.1 hvl.2.1 (by omega);have hfb:cJ (dT d R 7 (dV d R 7 z)) (s ^^^ 1)=true:=by rw[hft];exact(fE g1).2 ⟨K',g4,g5⟩
   have hLv:cJ (2^d+u) (dV d R 7 z)=true:=U5 hL z2 (by rw[i2];exact(fE zp).2 ⟨i,i1,rfl⟩);have hvlog:Nat.log2 (dV d R 7 z)≤Nat.log2 z:=by rw[i2];omega
   have hflog:=Ju f1 hfb;have cutc:=fun hs=>Ky (d:=d) (k:=k) (v:=dV d R 7 z) (w:=dT d R 7 (dV d R 7 z)) (.inr trivial) f4 f5 hvl.1 hs;have hout:=fun y=>(E4 (k:=k) h hne vhot y).2;unfold jZ at hout;rw[if_neg hk,if_pos hh] at hout;generalize hve:dV d R 7 z=v at *;clear hft f3;generalize hfe:dT d R 7 v=f at *
   have hLf:cJ (2^d+u) f=false:=by
    cases hb:cJ (2^d+u) f with
    | false=>rfl
    | true=>have:=U5 hL hb hfb;rw[hcn] at this;cases this
   have hfv:f≠v:=fun e=>by rw[e] at hflog;omega
   rw[if_neg hfv] at hout
   cases hs:iX k d v f with
   | true=>
    rw[hs,if_pos rfl] at hout;exact⟨(v,f),(hout _ (by simp)).1,nC.2 ⟨hLv,.inr hLf⟩⟩
   | false=>
    rw[hs,if_neg (by simp)] at hout
    cases hb:cJ (2^d+u) (gP d v f) with
    | true=>exact⟨(gP d v f,f),(hout _ (by simp)).1,nC.2 ⟨hb,.inr hLf⟩⟩
    | false=>exact⟨(v,gP d v f),(hout _ (by simp)).1,nC.2 ⟨hLv,.inr hb⟩⟩
theorem Cw:∀ (b a w:Nat),eN w (a+b)=eN (w / 2^b) a++eN w b
 | 0,a,w=>by simp[eN]
 | b+1,a,w=>by
  rw[show a+(b+1)=(a+b)+1 from rfl,Cu,Cu,Cw b a (w / 2),List.append_assoc,Nat.div_div_eq_div_mul,show 2*2^b=2^(b+1) from by rw[Nat.pow_succ,Nat.mul_comm]]
theorem Qkr {k:BitVec 8}{v w K:Nat}(h1:2^K≤w)(h2:v=w / 2^K)(hv:1≤v)(hs:iX k d v w=false):∃ j,1≤j∧j<K∧gP d v w=w / 2^j∧fF d (w / 2^j)=true∧iX k d v (w / 2^j)=true:=by
 have hl:=iL w K h1;rw[←h2] at hl;unfold iX at hs;simp only[Bool.or_eq_false_iff,decide_eq_false_iff_not] at hs;have h0:gP d v w≠0:=hs.2;unfold gP at h0 ⊢;unfold kB at h0 ⊢
 cases hf:(eN (w / 2) (Nat.log2 w-Nat.log2 v-1)).find? (fF d) with
 | none=>rw[hf] at h0;simp at h0
 | some c=>
  obtain⟨j,hj,rfl⟩:=oA.1 (List.mem_of_find?_eq_some hf);have hdj:w / 2 / 2^j=w / 2^(j+1):=by rw[Nat.div_div_eq_div_mul,show 2*2^j=2^(j+1) from by rw[Nat.pow_succ,Nat.mul_comm]]
  have hsp:=List.find?_some hf;rw[hdj] at hsp;refine⟨j+1,by omega,by omega,by rw[Option.getD_some,hdj],hsp,?_⟩;have hj1:2^(j+1)≤w:=Nat.le_trans (Nat.pow_le_pow_right (by omega) (by omega)) h1;have hlc:=iL w (j+1) hj1;unfold iX;simp only[Bool.or_eq_true,decide_eq_true_eq];refine .inr ?_
  have hpos:∀ n∈eN (w / 2^(j+1) / 2) (Nat.log2 (w / 2^(j+1))-Nat.log2 v-1),∃ t,n=w / 2^(j+1+(t+1))∧j+1+(t+1)<K:=by
   intro n hn;obtain⟨t,t1,rfl⟩:=oA.1 hn;refine⟨t,?_,by omega⟩;rw[Nat.div_div_eq_div_mul,Nat.div_div_eq_div_mul,show 2^(j+1)*(2*2^t)=2^(j+1+(t+1)) from by rw[Nat.pow_add 2 (j+1),Nat.pow_succ 2 t,Nat.mul_comm 2 (2^t)]]
  have hpos2:∀ n∈eN (w / 2^(j+1) / 2) (Nat.log2 (w / 2^(j+1))-Nat.log2 v-1),1≤n:=by
   intro n hn;obtain⟨t,rfl,ht⟩:=hpos n hn;exact pS (Nat.le_trans (Nat.pow_le_pow_right (by omega) (by omega)) h1)
  rw[Yo hpos2];have hap:=Cw (j+1) (Nat.log2 (w / 2^(j+1))-Nat.log2 v-1) (w / 2);rw[show Nat.log2 (w / 2^(j+1))-Nat.log2 v-1+(j+1)=Nat.log2 w-Nat.log2 v-1 from by omega,show w / 2 / 2^(j+1)=w / 2^(j+1) / 2 from by rw[Nat.div_div_eq_div_mul,Nat.div_div_eq_div_mul,Nat.mul_comm]] at hap;rw[hap,List.find?_append] at hf;intro n hn
  cases hfn:(eN (w / 2^(j+1) / 2) (Nat.log2 (w / 2^(j+1))-Nat.log2 v-1)).find? (fF d) with
  | none=>simpa using(List.find?_eq_none.1 hfn) n hn
  | some a=>
   rw[hfn,Option.some_or] at hf;obtain⟨t,e,ht⟩:=hpos a (List.mem_of_find?_eq_some hfn);rw[Option.some.inj hf,hdj] at e;exact absurd e (Ve (Nat.le_trans (Nat.pow_le_pow_right (by omega) (by omega)) h1) (by omega))
theorem Qkd (h:fW d R){k:BitVec 8}(hne:R≠[]){y:Nat × Nat}(hy:y∈gX k d R):jV k d y.1 y.2=true:=by
 have h64:=fO h.1;have hpow:2^(d+1)=2*2^d:=by rw[Nat.pow_succ,Nat.mul_comm]
 have hy1:=(wB.1 hy).1;unfold jV;rw[decide_eq_true hy1,Bool.true_and];by_cases hk:k=1#8
 · subst hk;rw[if_pos rfl,(Kj h hne hy).2.2.2];rfl
 · rw[if_neg hk];have hv:=Wo h hne hy;have hout:=(E4 h hne hv y).1 ⟨hy,rfl⟩
   have hhd:jX d R (iH k d R y)=true:=by
    unfold iH;rw[if_neg hk];exact(P9 7 y.1 hy1.1 (by have:=yW hy1.1 hy1.2;have:=h.1;omega)).1
   generalize hve:iH k d R y=v at *;obtain⟨v1,vl,v2⟩:=nF h hv;obtain⟨f1,f2,f3,K,f4,f5,f6⟩:=uM h 7 v v1 vl (by have:=h.1;omega);unfold jZ at hout;rw[if_neg hk,if_pos hhd] at hout;have cutc:=fun hs=>Qkr (d:=d) (k:=k) (v:=v) (w:=dT d R 7 v) f4 f5 v1 hs;generalize hfe:dT d R 7 v=f at *;have hflt:f<2^(d+1):=(Nat.log2_lt (by omega)).1 (by omega)
   have two:∀ i j,i<j→j≤K→cJ (f / 2^i) (f / 2^j)=true∧f / 2^i≠f / 2^j∧f / 2^i<2^(d+1)∧f / 2^i≠0:=by
    intro i j hij hj;have hi1:2^i≤f:=Nat.le_trans (Nat.pow_le_pow_right (by omega) (by omega)) f4;have hj1:2^j≤f:=Nat.le_trans (Nat.pow_le_pow_right (by omega) (by omega)) f4;have hp:=pS hi1;refine⟨(fE hp).2 ⟨j-i,rM (by rw[Nat.add_sub_cancel' (by omega)];exact hj1),?_⟩,Ve hj1 hij,Nat.lt_of_le_of_lt (Nat.div_le_self _ _) hflt,by omega⟩;rw[Nat.div_div_eq_div_mul,←Nat.pow_add,Nat.add_sub_cancel' (by omega)]
   by_cases hfv:f=v
   · rw[if_pos hfv] at hout;cases hout
   · rw[if_neg hfv] at hout
     have hK0:0<K:=by
      rcases Nat.eq_zero_or_pos K with e|e
      · subst e;simp at f5;exact absurd f5.symm hfv
      · exact e
     have t0:=two 0 K hK0 (Nat.le_refl _);rw[Nat.pow_zero,Nat.div_one,←f5] at t0
     cases hs:iX k d v f with
     | true=>
      rw[hs,if_pos rfl,List.mem_singleton] at hout;subst hout;simp only;rw[if_neg t0.2.2.2,t0.1,hs,decide_eq_true ⟨t0.2.2.1,t0.2.1⟩];rfl
     | false=>
      rw[hs,if_neg (by simp)] at hout;obtain⟨j,j1,j2,j3,j4,j5⟩:=cutc hs;rw[j3] at hout;have t1:=two j K j2 (Nat.le_refl _);have t2:=two 0 j (by omega) (by omega);rw[Nat.pow_zero,Nat.div_one] at t2;rw[←f5] at t1;rcases List.mem_cons.1 hout with e|e
      · subst e;simp only;rw[if_neg t1.2.2.2,t1.1,j5,decide_eq_true ⟨t1.2.2.1,t1.2.1⟩];rfl
      · rw[List.mem_singleton] at e;subst e;simp only;have:iX k d (f / 2^j) f=true:=by unfold iX;rw[j4];simp
        rw[if_neg t2.2.2.2,t2.1,this,decide_eq_true ⟨t2.2.2.1,t2.2.1⟩];rfl
theorem Qdy {x:Nat}(h1:1≤x)(hl:Nat.log2 x≤d):∃ u,u<2^d∧cJ (2^d+u) x=true:=by
 have hx1:2^Nat.log2 x≤x:=(Nat.le_log2 (by omega)).1 (Nat.le_refl _);have hx2:x<2^(Nat.log2 x+1):=(Nat.log2_lt (by omega)).1 (by omega);have hp:2^d=2^Nat.log2 x*2^(d-Nat.log2 x):=by rw[←Nat.pow_add,Nat.add_sub_cancel' hl]
 have hq:=Nat.two_pow_pos (d-Nat.log2 x);have hlow:2^d≤x*2^(d-Nat.log2 x):=by rw[hp];exact Nat.mul_le_mul_right _ hx1
 have hhigh:x*2^(d-Nat.log2 x)<2^d+2^d:=by
  have:x*2^(d-Nat.log2 x)<2^(Nat.log2 x+1)*2^(d-Nat.log2 x):=Nat.mul_lt_mul_of_pos_right hx2 hq;rw[Nat.pow_succ,Nat.mul_right_comm,←hp] at this;omega
 refine⟨x*2^(d-Nat.log2 x)-2^d,by omega,?_⟩;rw[Nat.add_sub_cancel' hlow];exact(fE (by have:=Nat.two_pow_pos d;omega)).2 ⟨d-Nat.log2 x,Nat.le_mul_of_pos_left _ (by omega),by rw[Nat.mul_div_cancel _ hq]⟩
theorem Qwu {k:BitVec 8}{n m:Nat}(h6:d≤6)(h:jV k d n m=true):∃ u,u<2^d∧iY (2^d+u) n m=true:=by
 have h64:=fO h6;have hpow:2^(d+1)=2*2^d:=by rw[Nat.pow_succ,Nat.mul_comm]
 unfold jV at h;rw[Bool.and_eq_true,decide_eq_true_eq] at h;obtain⟨⟨h1,h2⟩,h3⟩:=h;by_cases hm:m=0
 · obtain⟨u,hu,hb⟩:=Qdy (d:=d) h1 (yW h1 h2);exact⟨u,hu,nC.2 ⟨hb,.inl hm⟩⟩
 · by_cases hk:k=1#8
   · rw[if_pos hk] at h3;exact absurd (by simpa using h3) hm
   · rw[if_neg hk,if_neg hm,Bool.and_eq_true,Bool.and_eq_true,decide_eq_true_eq] at h3;obtain⟨⟨⟨a1,a2⟩,a3⟩,_⟩:=h3;have hm1:1≤m:=by omega
     obtain⟨t,t1,t2,t3⟩:=Z3 hm1 h1 a3 a2;have hm2:2≤m:=Nat.le_trans (by have:=Nat.pow_le_pow_right (n:=2) (by omega) (show 1≤t+1 by omega);simpa using this) t3;have hl:=yW hm1 a1;have e1:=Er (n:=m) (by omega);have e2:=Zl (n:=m) (by omega) hm2;have e3:=Tq (n:=m) (by omega) hm2;have e4:=Tn (n:=m) (by omega);have e5:=Es (n:=m) (by omega);obtain⟨u,hu,hb⟩:=Qdy (d:=d) (x:=m ^^^ 1) (by omega) (by omega);have hL:1≤2^d+u:=by have:=Nat.two_pow_pos d;omega
     refine⟨u,hu,nC.2 ⟨U5 hL hb ((fE (by omega)).2 ⟨t+1,?_,?_⟩),.inr ?_⟩⟩
     · have:=(Nat.le_log2 (n:=m) (k:=t+1) (by omega)).2 t3;exact(Nat.le_log2 (by omega)).1 (by omega)
     · rw[t2,Nat.pow_succ,Nat.mul_comm,←Nat.div_div_eq_div_mul,←Nat.div_div_eq_div_mul,e4]
     · cases hb2:cJ (2^d+u) m with
       | false=>rfl
       | true=>exact absurd (tA hL hb hb2 e3) e5
def fA (k:BitVec 8)(d:Nat)(R:List Nat):List (Nat × Nat):=if R=[] then[(1,0)] else gX k d R
theorem Qk7 {k:BitVec 8}:tM (fA k d R):=by
 unfold fA;split
 · simp[tM]
 · exact Ki
theorem Qs7 {u:Nat}(hu:u<2^d):iY (2^d+u) 1 0=true:=by
 have hp:=Nat.two_pow_pos d;exact nC.2 ⟨(fE (by omega)).2 ⟨d,by omega,by rw[Nat.add_div_left _ hp,Nat.div_eq_of_lt hu]⟩,.inl rfl⟩
theorem Kh (h:fW d R){k:BitVec 8}{y:Nat × Nat}(hy:y∈fA k d R):jV k d y.1 y.2=true:=by
 unfold fA at hy;split at hy
 · rw[List.mem_singleton] at hy;subst hy;unfold jV;have:1<2^(d+1):=Nat.lt_of_lt_of_le (by omega) (Nat.pow_le_pow_right (n:=2) (by omega) (show 1≤d+1 by omega));rw[decide_eq_true ⟨Nat.le_refl _,this⟩]
   split<;>simp
 · rename_i hne;exact Qkd h hne hy
theorem Qk8 (h:fW d R){k:BitVec 8}{y y':Nat × Nat}(hy:y∈fA k d R)(hy':y'∈fA k d R){u:Nat}(hu:u<2^d)(hm:iY (2^d+u) y.1 y.2=true)(hm':iY (2^d+u) y'.1 y'.2=true):y=y':=by
 unfold fA at hy hy';split at hy
 · rename_i hne;rw[if_pos hne] at hy';rw[List.mem_singleton] at hy hy';rw[hy,hy']
 · rename_i hne;rw[if_neg hne] at hy';exact Qkf h hne hy hy' hu hm hm'
theorem Qk6 (h:fW d R)(k:BitVec 8){u:Nat}(hu:u<2^d):((fA k d R).any fun y=>iY (2^d+u) y.1 y.2)=decide (u∉R):=by
 unfold fA;split
 · rename_i hne;subst hne;simp[Qs7 hu]
 · rename_i hne;by_cases hr:u∈R
   · rw[decide_eq_false (by simpa using hr),List.any_eq_false];intro y hy;rw[Qkc h hne hy hu hr];simp
   · rw[decide_eq_true hr,List.any_eq_true];exact Qka h hne hu hr
end Go.Sx

end
section
namespace Go.Sx
open Go
theorem rV {τ R:Type}(F:(τ→Option R)→τ→Option R)(I:Nat→τ→Prop)(n:Nat)(r:Option R)(hn:n<9223372036854775808){s:τ}(h0:I 0 s)(hs:∀ j s,j<n→I j s→∃ s',I (j+1) s'∧∀ rec,F rec s=rec s')(he:∀ s,I n s→∀ rec,F rec s=r):aS F aI s=r:=
 O9 F I n r hs he n 0 aI s (by omega) (fI hn) h0
section
variable {s:aF} {d:Nat}
theorem Qgp (hv:eO s=true)(hd:s.Depth=(d:Int))(h6:d≤6){n m:Nat}(hs:jV s.Kind d n m=true):lM s [⟨(n:Int),(m:Int)⟩]=some (dI s,0)∧qY s ⟨(n:Int),(m:Int)⟩=some true∧pL (dI s) ⟨(n:Int),(m:Int)⟩=some true∧wY s ⟨(n:Int),(m:Int)⟩∧M1 s ⟨(n:Int),(m:Int)⟩ n m:=by
 have hi:=Qdf hv hd h6 n m;rw[hs] at hi;rcases Qws hv hd h6 ⟨(n:Int),(m:Int)⟩ with⟨_,f1,_⟩|⟨f0,f1,f2,f3,n',m',e,f5,f6⟩
 · rw[hi] at f1;cases f1
 · injection e with e1 e2;obtain rfl:n=n':=by omega
   obtain rfl:m=m':=by omega
   exact⟨f0,f1,f2,f3,f5⟩
theorem Qk5 (hv:eO s=true)(hd:s.Depth=(d:Int)){l:List Int}(h:gI d l=true):Kg s l=((fA s.Kind d (cV l)).map iE,0):=by
 unfold Kg fA cV;rw[if_pos hv,hd,Int.toNat_natCast,if_pos h];by_cases hl:l=[]
 · rw[if_pos hl,if_pos (by simpa using hl)];rfl
 · rw[if_neg hl,if_neg (by simpa using hl)]
theorem Qff {l:List Int}(h:gI d l=true){u:Nat}:u∈cV l↔(u:Int)∈l:=by
 unfold cV;rw[List.mem_map];constructor
 · rintro⟨a,ha,rfl⟩;obtain⟨w,rfl,_⟩:=Qj h ha;rw[Int.toNat_natCast];exact ha
 · intro h;exact⟨_,h,Int.toNat_natCast u⟩
end
end Go.Sx

end
section
namespace Go.Sx
open Go
end Go.Sx

end
section
namespace Go.Sx
open Go
theorem Zi (x:BitVec 64)(n m:Nat)(h:n+m=64)(hn:0<n)(hm:0<m):nW (nW x n) m=x:=by
 unfold nW;apply BitVec.eq_of_getLsbD_eq;intro i hi;simp only[BitVec.getLsbD_or,BitVec.getLsbD_shiftLeft,BitVec.getLsbD_ushiftRight];by_cases h1:i<m
 · have h2:¬ (64-m+i<n):=by omega
   have h3:64-m+i<64:=by omega
   have h4:64-m+i-n=i:=by omega
   have h5:64≤64-n+(64-m+i):=by omega
   rw[h4,BitVec.getLsbD_of_ge x _ h5];simp[h1,hi,h2,h3]
 · have h2:i-m<n:=by omega
   have h3:64-n+(i-m)=i:=by omega
   have h4:64≤64-m+i:=by omega
   have h6:¬ 64-m+i<64:=by omega
   have h7:64≤64-n+(64-m+i):=by omega
   rw[h3,BitVec.getLsbD_of_ge x _ h7];simp[h1,hi,h2,h6]
theorem Eg (p:W2)(k:BitVec 64):nU (lN p k) k=p:=by
 obtain⟨a,b⟩:=p;unfold nU lN;simp only;have h1:∀ x y:BitVec 64,x ^^^ (y ^^^ x)=y:=fun x y=>by rw[BitVec.xor_comm y x,←BitVec.xor_assoc,BitVec.xor_self,BitVec.zero_xor]
 have h2:∀ x y:BitVec 64,(x ^^^ y) ^^^ y=x:=fun x y=>by rw[BitVec.xor_assoc,BitVec.xor_self,BitVec.xor_zero]
 rw[h1,h2,Zi b 3 61 (by omega) (by omega) (by omega),BitVec.add_sub_cancel,Zi a 56 8 (by omega) (by omega) (by omega)]
theorem Zt (K:Nat→BitVec 64):∀ (n:Nat) (b:W2),(List.range n).foldl (fun p i=>nU p (K (n-1-i))) ((List.range n).foldl (fun p i=>lN p (K i)) b)=b
 | 0,b=>rfl
 | n+1,b=>by
  rw[show(List.range (n+1)).foldl (fun p i=>lN p (K i)) b=lN ((List.range n).foldl (fun p i=>lN p (K i)) b) (K n) from by rw[List.range_succ,List.foldl_append];rfl];rw[List.range_succ_eq_map,List.foldl_cons,show n+1-1-0=n from rfl,Eg,List.foldl_map];have:=Zt K n b;rw[show(fun(p:W2) (i:Nat)=>nU p (K (n+1-1-i.succ)))=fun p i=>nU p (K (n-1-i)) from by funext p i;congr 2;omega];exact this
theorem Sl (k b:W2):oH k (jP k b)=b:=Zt (fun i=>(ks k i).2) 32 b
def uO (root:W2)(k:BitVec 8)(n m:Nat):W2:=
 if k=1#8 then cX root (aC 30#8) (wd (n:Int)) else if m=0 then cX root (aC 34#8) 0#64 else cX ((eN m (Nat.log2 m-Nat.log2 n)).foldl tF (cX root (aC 30#8) (wd (n:Int)))) (aC 33#8) 0#64
section
variable {s:aF} {d:Nat}
theorem Qt0 (h6:d≤6){n m:Nat}(hs:jV s.Kind d n m=true)(root:W2):uD (dI s) root ⟨(n:Int),(m:Int)⟩=some (uO root s.Kind n m):=by
 obtain⟨hn1,hn2,hm2,hc⟩:=Ey h6 hs;unfold uD uO uY V3;rw[show(dI s).kind=s.Kind from rfl];by_cases hk:s.Kind=1#8
 · rw[if_pos hk,if_pos hk];rfl
 · rw[if_neg hk,if_neg hk];by_cases hm:m=0
   · rw[if_pos (by simp only;omega),if_pos hm]
   · rw[if_neg (by simp only;omega),if_neg hm]
     obtain⟨hb,hne⟩:cJ m n=true∧m≠n:=by
      rcases hc with h|h|h
      · exact absurd h hk
      · exact absurd h hm
      · exact h
     obtain⟨t,t1,t2,t3⟩:=Z3 (by omega) hn1 hb hne;have:=yQ t3 hm2;simp only;rw[bind_some,t1];have hd:=Sp (w:=m) (k:=t+1) (cX root (aC 30#8) (wd (n:Int))) (by omega) t3 (by omega);rw[←t2] at hd;rw[hd,bind_some,bind_some]
theorem Qsy (hv:eO s=true)(hd:s.Depth=(d:Int))(h6:d≤6){u n m:Nat}(hu:u<2^d)(hs:jV s.Kind d n m=true)(root:W2)(ui:Int)(pt:bX):
 A4 (dI s) (bR.mk ui (lQ root s.Kind d u) pt) ⟨(n:Int),(m:Int)⟩=some (if iY (2^d+u) n m then(uO root s.Kind n m,true) else(k0,false)):=by
 obtain⟨e1,e2,e3,e4⟩:=Qdw hv hd h6 hu;obtain⟨hn1,hn2,hm2,hc⟩:=Ey h6 hs;have hlen:(lQ root s.Kind d u).length=(gA s.Kind d u).length:=by simp[lQ]
 unfold A4
 have p1:=O8 (gA s.Kind d u) (xJ (dI s) (bR.mk ui (lQ root s.Kind d u) pt) ⟨(n:Int),(m:Int)⟩) (fun j (_:Unit)=>(j:Int)) (fun a nx s'=>bif lI s.Kind n m a then some (uO root s.Kind n m,true) else nx s') (fun _=>some (k0,false))
  (fun rec j hj _=>by
   simp only[xJ];have hj':j<(lQ root s.Kind d u).length:=by omega
   have hok:=e4 _ (List.getElem_mem hj);have ham:=List.getElem_mem hj;rw[if_pos (by omega),eG hj',bind_some,show(lQ root s.Kind d u)[j]=D7 root s.Kind (gA s.Kind d u)[j] from by simp[lQ],gR (by omega)];generalize (gA s.Kind d u)[j]=a at *;rw[show D7 root s.Kind a=dP.mk (a.1:Int) (a.2:Int) (qX root s.Kind a) from rfl,(Qqa h6 hs ⟨hok.1.2.1,hok.1.2.2⟩ _).1,bind_some]
   cases hl:lI s.Kind n m a with
   | false=>rfl
   | true=>
    simp only[Bool.not_true,cond_false,cond_true];rw[show(dI s).kind=s.Kind from rfl];unfold A5 uO qX;unfold lI at hl;by_cases hk:s.Kind=1#8
    · have h0:=Qdv hk a ham;rw[if_pos (.inl hk),decide_eq_true_eq] at hl;rw[if_pos hk,if_pos hk,cond_true];simp only;rw[if_pos h0,if_pos hk,hl.1]
    · rw[if_neg hk,if_neg hk];by_cases hm:m=0
      · rw[if_pos (.inr hm),decide_eq_true_eq] at hl;rw[decide_eq_true (by omega),cond_true,if_pos hm];simp only;rw[if_pos (by omega),if_neg hk]
      · rw[if_neg (by rw[not_or];exact⟨hk,hm⟩)] at hl;simp only[Bool.and_eq_true,decide_eq_true_eq] at hl;obtain⟨⟨⟨ha1,ha2⟩,ha3⟩,ha4⟩:=hl;rw[decide_eq_false (by omega),cond_false,if_neg hm];simp only;rw[if_neg (by omega)];obtain⟨i,i1,i2⟩:=Qj0 (by omega) ha4;have hi6:=yQ i2 hm2;have hdl:=fun key=>Sp (w:=m) (k:=i) key (by omega) i2 (by omega);rw[←i1] at hdl;rw[hdl,bind_some];unfold V3;rw[bind_some];have hlg:=iL m i i2;rw[←i1] at hlg;have hln:=Ju ha2 ha3
        rw[show Nat.log2 m-Nat.log2 n=(Nat.log2 a.2-Nat.log2 n)+i from by omega,Cw,←i1,List.foldl_append,ha1,if_neg hk])
  (fun rec _=>by simp only[xJ];rw[if_neg (by omega)]) (f:=aI) (fI (by omega)) ()
 rw[show((0:Nat):Int)=0 from rfl] at p1;rw[p1,Bk (lI s.Kind n m) (fun _ _=>some (uO root s.Kind n m,true)) _ _ _ _ (fun a _ nx s=>rfl),Qqc h6 hu hs];unfold Br
 cases(gA s.Kind d u).find? (lI s.Kind n m) with
 | none=>rfl
 | some a=>rfl
theorem Qvt (hv:eO s=true)(hd:s.Depth=(d:Int)){u:Nat}(hu:u<2^d)(root:W2):vB root s (u:Int)=(bR.mk (u:Int) (lQ root s.Kind d u) (bX.mk 0#64 0#64),0):=by
 unfold vB;rw[if_pos hv,hd,Int.toNat_natCast,if_pos (by omega),Int.toNat_natCast]
end
end Go.Sx

end
section
namespace Go.Sx
open Go
theorem Qpf {α β:Type}(f:α→β){l:List α}{m:List β}(hl:l.Nodup)(hf:∀ a∈l,f a∈m)(hi:∀ a∈l,∀ b∈l,f a=f b→a=b):l.length≤m.length:=by
 have h1:(l.map f).Nodup:=by
  rw[List.Nodup,List.pairwise_map];exact hl.imp_of_mem fun ha hb h e=>h (hi _ ha _ hb e)
 have h2:l.map f ⊆ m:=fun b hb=>by
  obtain⟨a,ha,rfl⟩:=List.mem_map.1 hb;exact hf a ha
 have:=h1.length_le_of_subset h2;rwa[List.length_map] at this
theorem Il {l:List (Nat × Nat)}(h:tM l):l.Nodup:=h.imp fun h e=>by rw[e] at h;omega
theorem Lv {d:Nat}{R:List Nat}(h:fW d R)(k:BitVec 8):(fA k d R).length≤2^d:=by
 have hm:∀ y:Nat × Nat,∃ u,y∈fA k d R→u<2^d∧iY (2^d+u) y.1 y.2=true:=fun y=>by
  by_cases hy:y∈fA k d R
  · obtain⟨u,h1,h2⟩:=Qwu h.1 (Kh h hy);exact⟨u,fun _=>⟨h1,h2⟩⟩
  · exact⟨0,fun h=>absurd h hy⟩
 let f:=fun y=>Classical.choose (hm y)
 have hf:∀ y∈fA k d R,f y<2^d∧iY (2^d+f y) y.1 y.2=true:=fun y hy=>Classical.choose_spec (hm y) hy;have:=Qpf f (m:=List.range (2^d)) (Il Qk7) (fun y hy=>List.mem_range.2 (hf y hy).1) (fun a ha b hb e=>Qk8 h ha hb (hf a ha).1 (hf a ha).2 (by rw[e];exact(hf b hb).2));rwa[List.length_range] at this
section
variable {s:aF} {d:Nat}
def rP (root eF:W2)(k:BitVec 8)(y:Nat × Nat):cG:=cG.mk (iE y) (jP (uO root k y.1 y.2) eF)
def gZ (root eF:W2)(k:BitVec 8)(l:List (Nat × Nat)):bQ:=bQ.mk (l.map (rP root eF k)) 0#64 [] k0 (cX eF (aC 53#8) 0#64)
theorem Kc (s:aF):qR s=some (if eO s then 0 else 30):=by
 unfold qR;rw[Zs,bind_some];cases eO s<;>rfl
theorem Qnl (hv:eO s=true)(hd:s.Depth=(d:Int))(h6:d≤6)(l:List (Nat × Nat))(hl:∀ y∈l,jV s.Kind d y.1 y.2=true)(hlen:l.length<4611686018427387904):lM s (l.map iE)=some (dI s,0):=by
 unfold lM;rw[Zs,bind_some,if_pos hv];simp only[Bool.not_true,cond_false];refine rV _ (fun j x=>x=(j:Int)) l.length _ (by omega) rfl ?_ ?_
 · rintro j _ hj rfl;refine⟨_,rfl,fun rec=>?_⟩;simp only[uV];rw[if_pos (by simp;omega),eG (by simpa using hj),bind_some,List.getElem_map,show iE l[j]=⟨(l[j].1:Int),(l[j].2:Int)⟩ from rfl,(Qgp hv hd h6 (hl _ (List.getElem_mem hj))).2.2.1,bind_some,gR (by omega)];rfl
 · rintro _ rfl rec;simp only[uV];rw[if_neg (by simp)]
theorem Uc (hv:eO s=true)(hd:s.Depth=(d:Int))(h6:d≤6)(l:List (Nat × Nat))(hl:∀ y∈l,jV s.Kind d y.1 y.2=true)(hlen:l.length≤64)(root eF:W2):E6 root s (l.map iE) eF=some (gZ root eF s.Kind l,0):=by
 unfold E6;rw[Kc,bind_some,if_pos hv,if_neg (by simp),if_neg (by simp;omega),Qnl hv hd h6 l hl (by omega),bind_some,if_neg (by simp)];refine rV _ (fun j x=>x=((j:Int),(l.take j).map (rP root eF s.Kind))) l.length _ (by omega) (by simp) ?_ ?_
 · rintro j _ hj rfl;refine⟨_,rfl,fun rec=>?_⟩;simp only[J9];rw[if_pos (by simp;omega),eG (by simpa using hj),bind_some,List.getElem_map,show iE l[j]=⟨(l[j].1:Int),(l[j].2:Int)⟩ from rfl,Qt0 h6 (hl _ (List.getElem_mem hj)),bind_some,kD (by simp;omega),bind_some,gR (by omega),B2 l j hj,List.map_append];rfl
 · rintro _ rfl rec;simp only[J9];rw[if_neg (by simp),List.take_length];rfl
theorem Qts (hv:eO s=true)(hd:s.Depth=(d:Int))(h6:d≤6){u:Nat}(hu:u<2^d)(l:List (Nat × Nat))(hl:∀ y∈l,jV s.Kind d y.1 y.2=true)(hlen:l.length≤64)(root eF:W2)(ui:Int)(pt:bX):
 J8 s (bR.mk ui (lQ root s.Kind d u) pt) (gZ root eF s.Kind l)=some (if l.any (fun y=>iY (2^d+u) y.1 y.2) then(eF,0) else(k0,6)):=by
 unfold J8;rw[Ft,bind_some,if_pos hv,if_neg (by simp),if_neg (by simp[gZ];omega),if_neg (by simp[gZ]),if_neg (by simp[gZ]),if_neg (by simp[gZ])]
 have hc:Zn (gZ root eF s.Kind l).Items (dI s)=some false:=by
  rw[show(gZ root eF s.Kind l).Items=l.map (rP root eF s.Kind) from rfl];unfold Zn Ga
  have:aS (zN (l.map (rP root eF s.Kind)) (dI s)) aI 0=some (-1):=by
   refine rV _ (fun j x=>x=(j:Int)) l.length _ (by omega) rfl ?_ ?_
   · rintro j _ hj rfl;refine⟨_,rfl,fun rec=>?_⟩;simp only[zN];rw[if_pos (by simp;omega),eG (by simpa using hj),bind_some,List.getElem_map];unfold Kl;rw[show(rP root eF s.Kind l[j]).Subset=⟨(l[j].1:Int),(l[j].2:Int)⟩ from rfl,(Qgp hv hd h6 (hl _ (List.getElem_mem hj))).2.2.1,bind_some,bind_some,gR (by omega)];rfl
   · rintro _ rfl rec;simp only[zN];rw[if_neg (by simp)]
  rw[this,bind_some];rfl
 simp only;rw[hc,bind_some];unfold uJ;rw[cond_false]
 have p1:=O8 l (wA (bR.mk ui (lQ root s.Kind d u) pt) (gZ root eF s.Kind l) (dI s,0)) (fun j (_:Unit)=>(j:Int)) (fun y nx s'=>bif iY (2^d+u) y.1 y.2 then some (eF,0) else nx s') (fun _=>some (k0,6))
  (fun rec j hj _=>by
   simp only[wA];rw[if_pos (by simp[gZ];omega),show bG (gZ root eF s.Kind l).Items (j:Int)=some (rP root eF s.Kind l[j]) from by unfold gZ;rw[eG (by simpa using hj),List.getElem_map],bind_some,show(rP root eF s.Kind l[j]).Subset=⟨(l[j].1:Int),(l[j].2:Int)⟩ from rfl,Qsy hv hd h6 hu (hl _ (List.getElem_mem hj)),bind_some,gR (by omega)]
   cases iY (2^d+u) l[j].1 l[j].2 with
   | false=>rfl
   | true=>
    simp only[if_true,cond_true]
    rw[show(rP root eF s.Kind l[j]).Box=jP (uO root s.Kind l[j].1 l[j].2) eF from rfl,Sl,if_pos (show cX eF (aC 53#8) 0#64=(gZ root eF s.Kind l).Check from rfl)])
  (fun rec _=>by simp only[wA];rw[if_neg (by simp[gZ])]) (f:=aI) (fI (by omega)) ()
 rw[show((0:Nat):Int)=0 from rfl] at p1;rw[p1,Bk (fun y:Nat × Nat=>iY (2^d+u) y.1 y.2) (fun _ _=>some (eF,0)) _ _ _ _ (fun a _ nx s=>rfl)]
 cases hf:l.find? (fun y:Nat × Nat=>iY (2^d+u) y.1 y.2) with
 | none=>rw[List.any_eq_false.2 (fun a ha=>(List.find?_eq_none.1 hf) a ha)];rfl
 | some a=>rw[List.any_eq_true.2 ⟨a,List.mem_of_find?_eq_some hf,List.find?_some hf⟩];rfl
end
end Go.Sx

end
section
namespace Go.Sx.Po
open Go
def fi (q:Nat)[NeZero q](n:Nat):Fin q:=Fin.ofNat q n
abbrev fe {q:Nat}(a:Fin q):BitVec 64:=bn a.val
section
variable {q:Nat} [NeZero q]
theorem pA (n:Nat):(fi q n).val=n%q:=rfl
theorem pE (a:Fin q):fi q a.val=a:=by apply Fin.ext;rw[pA];exact Nat.mod_eq_of_lt a.isLt
theorem O6 (a b:Nat):fi q (a+b)=fi q a+fi q b:=by apply Fin.ext;simp[fi,Fin.ofNat,Fin.add_def]
theorem uC (a b:Nat):fi q (a*b)=fi q a*fi q b:=by apply Fin.ext;simp[fi,Fin.ofNat,Fin.mul_def]
theorem Rw (n:Nat):fi q (n%q)=fi q n:=by apply Fin.ext;rw[pA,pA,Nat.mod_mod]
theorem Qcn:fi q 0=0:=rfl
theorem Qco:fi q 1=1:=rfl
theorem Qcp:fi q q=0:=by apply Fin.ext;rw[pA,Nat.mod_self];rfl
theorem Qoq {a b:Nat}(h:b≤a):fi q (a-b)=fi q a-fi q b:=by
 have:=O6 (q:=q) (a-b) b;rw[Nat.sub_add_cancel h] at this
 grind
theorem O7 {n:Nat}(h:n<q):(fi q n).val=n:=Nat.mod_eq_of_lt h
theorem Qop {a b:Nat}(ha:a<q)(hb:b<q)(h:fi q a=fi q b):a=b:=by rw[←O7 ha,←O7 hb,h]
theorem O5 {n:Nat}(h:n<q):fe (fi q n)=bn n:=by unfold fe;rw[O7 h]
theorem Rz (q1:2≤q)(q2:q≤1048575)(a b:Fin q):rC (bn q) [fe a,fe b]=some (fe (a*b)):=by
 rw[Cc q1 q2 a.isLt b.isLt];rfl
theorem Qov (q1:2≤q)(q2:q≤1048575)(a b:Fin q):Xg (bn q) (fe a) (fe b)=some (fe (a-b)):=by
 have ha:=a.isLt;have hb:=b.isLt;unfold Xg fe;rw[Z6,Z8 (by omega) (by omega),jD (by omega) (by omega) (by omega),bind_some,Fin.sub_def];simp only;congr 3;omega
theorem Qow {q a:Nat}(hP:iI q)(h0:0<a)(h1:a<q):Nat.gcd q a=1:=by
 have hg:Nat.gcd q a∣q:=Nat.gcd_dvd_left q a;have hga:Nat.gcd q a∣a:=Nat.gcd_dvd_right q a;have hle:=Nat.le_of_dvd h0 hga;have hpos:0<Nat.gcd q a:=Nat.gcd_pos_of_pos_right _ h0;rcases Nat.lt_or_ge (Nat.gcd q a) 2 with h|h
 · omega
 · exfalso;obtain⟨k,hk⟩:=hg
   have hk2:2≤k:=by
    rcases k with _|_|k
    · simp at hk;omega
    · simp at hk;omega
    · omega
   rcases Nat.le_total (Nat.gcd q a) k with hgk|hgk
   · refine hP.2 _ h ?_ (Nat.mod_eq_zero_of_dvd ⟨k,hk⟩)
     calc _≤Nat.gcd q a*k:=Nat.mul_le_mul_left _ hgk
      _=q:=hk.symm
   · refine hP.2 k hk2 ?_ (Nat.mod_eq_zero_of_dvd ⟨Nat.gcd q a,by rw[Nat.mul_comm];exact hk⟩)
     calc k*k≤Nat.gcd q a*k:=Nat.mul_le_mul_right _ hgk
      _=q:=hk.symm
theorem Qi1 (n:Nat):wd (n:Int)=bn n:=C5 n
theorem Qx5 (a b:Nat):Int.tdiv (a:Int) (b:Int)=((a / b:Nat):Int):=rfl
theorem Aa (a b:Nat):Int.tmod (a:Int) (b:Int)=((a%b:Nat):Int):=rfl
theorem Qxd (a b:Nat):Int.tmod (-(a:Int)) (b:Int) = -((a%b:Nat):Int):=by rw[Int.neg_tmod];rfl
theorem Qtx {a b:Int}(h:b≠0):tP a b=some (aX (a.tdiv b)):=if_neg h
theorem Ee {a b:Int}(h:b≠0):nY a b=some (a.tmod b):=if_neg h
theorem Qpj {m:Nat}(m1:2≤m)(m2:m≤1048575)(σ:Int)(hσ:σ=1∨σ = -1)(S:Nat)(hS:S≤m):
 ∃ x:Nat,x<m∧(∃ j:Int,(x:Int)=σ*S+j*m)∧(Option.bind (nY (σ*S) (aX (un (bn m)))) fun x12=>(Option.bind (nY (aX (x12+(aX (un (bn m))))) (aX (un (bn m)))) fun x13=>((some (wd x13,(0:Int))))))=some (bn x,0):=by
 have hun:aX (un (bn m))=(m:Int):=by rw[show un (bn m)=(m:Int) from by unfold un;rw[gU (by omega)]];exact dO (by omega) (by omega)
 have cP:=Nat.mod_lt S (show 0<m by omega);have hdm:=Nat.div_add_mod S m;rw[hun,Ee (by omega),bind_some];rcases hσ with rfl|rfl
 · refine⟨S%m,cP,⟨-((S / m:Nat):Int),?_⟩,?_⟩
   · have:((m*(S / m)+S%m:Nat):Int)=(S:Int):=by rw[hdm]
     grind
   · rw[Int.one_mul,Aa,dO (by omega) (by omega),Ee (by omega),bind_some,show((S%m:Nat):Int)+(m:Int)=((S%m+m:Nat):Int) from by omega,Aa,Nat.add_mod_right,Nat.mod_mod,Qi1]
 · refine⟨(m-S%m)%m,Nat.mod_lt _ (by omega),⟨((S / m:Nat):Int)+(if S%m=0 then 0 else 1),?_⟩,?_⟩
   · have:((m*(S / m)+S%m:Nat):Int)=(S:Int):=by rw[hdm]
     by_cases h0:S%m=0
     · rw[if_pos h0,h0,Nat.sub_zero,Nat.mod_self];rw[h0] at this;grind
     · rw[if_neg h0,Nat.mod_eq_of_lt (by omega)];have e:((m-S%m:Nat):Int)=(m:Int)-((S%m:Nat):Int):=by omega
       rw[e];grind
   · rw[show(-1:Int)*(S:Int) = -(S:Int) from by omega,Qxd,dO (by omega) (by omega),Ee (by omega),bind_some,show -((S%m:Nat):Int)+(m:Int)=((m-S%m:Nat):Int) from by omega,Aa,Qi1]
theorem Qdd {m:Nat}(m1:2≤m)(m2:m≤1048575)(a:Int):∀ (f R N S T:Nat) (σ k l:Int),(σ=1∨σ = -1)→N<f→R≤m→N<R→S≤m→R*T+N*S=m→Nat.gcd R N=1→(R:Int)=(σ*S)*a+k*m→(N:Int)=(-σ*T)*a+l*m→
 ∃ x:Nat,x<m∧(∃ j:Int,(x:Int)*a=1+j*m)∧aS (T6 (bn m)) f ((R:Int),(N:Int),σ*S,-σ*T)=some (bn x,0)
 | 0,R,N,S,T,σ,k,l,_,h,_,_,_,_,_,_,_=>by omega
 | f+1,R,N,S,T,σ,k,l,hσ,hf,hR,hNR,hS,hm,hg,h1,h2=>by
  rw[eQ];simp only[T6];by_cases h0:N=0
  · subst h0;rw[if_neg (by simp)];have hR1:R=1:=by simpa using hg
    subst hR1;rw[if_neg (by simp)];obtain⟨x,x1,⟨j,x2⟩,x3⟩:=Qpj m1 m2 σ hσ S hS;refine⟨x,x1,⟨j*a-k,?_⟩,x3⟩;rw[x2];grind
  · have hq0:R / N*N≤R:=Nat.div_mul_le_self R N;have hdm:=Nat.div_add_mod R N;have cP:=Nat.mod_lt R (show 0<N by omega);have hqm:R / N≤m:=Nat.le_trans (Nat.div_le_self R N) hR;have hgr:Nat.gcd N (R%N)=1:=by rw[←hg,Nat.gcd_comm R N,Nat.gcd_rec N R,Nat.gcd_comm]
    rw[if_pos (by omega),Qtx (by omega),bind_some,Qx5];generalize R / N=Q at *;generalize R%N=M at *
    have hTm:T≤m:=by
     have:1*T≤R*T:=Nat.mul_le_mul_right _ (by omega);omega
    have hqT:Q*T≤m:=by
     have h3:N*(Q*T)≤R*T:=by rw[←Nat.mul_assoc];exact Nat.mul_le_mul_right _ (by rw[Nat.mul_comm];exact hq0)
     have h4:1*(Q*T)≤N*(Q*T):=Nat.mul_le_mul_right _ (by omega);omega
    rw[dO (n:=((Q:Nat):Int)) (by omega) (by omega)]
    have e1:aX ((R:Int)-aX (((Q:Nat):Int)*(N:Int)))=((M:Nat):Int):=by
     have:((Q:Nat):Int)*(N:Int)=((Q*N:Nat):Int):=by push_cast;rfl
     rw[this,dO (n:=((Q*N:Nat):Int)) (by omega) (by omega),dO (by omega) (by omega)];rw[Nat.mul_comm] at hq0;have:((N*(Q)+M:Nat):Int)=(R:Int):=by rw[hdm]
     rw[Nat.mul_comm (Q) N];omega
    have e2:aX (((Q:Nat):Int)*(-σ*(T:Int))) = -σ*((Q*T:Nat):Int):=by
     have e:((Q:Nat):Int)*(-σ*(T:Int)) = -σ*((Q*T:Nat):Int):=by push_cast;grind
     rw[e];rcases hσ with rfl|rfl<;>exact dO (by omega) (by omega)
    have e3:aX (σ*(S:Int) - -σ*((Q*T:Nat):Int)) = -(-σ)*((S+Q*T:Nat):Int):=by
     have e:σ*(S:Int) - -σ*((Q*T:Nat):Int) = -(-σ)*((S+Q*T:Nat):Int):=by push_cast;grind
     rw[e];rcases hσ with rfl|rfl<;>exact dO (by omega) (by omega)
    rw[e1,e2,e3];have hc:((N*(Q)+M:Nat):Int)=(R:Int):=by rw[hdm]
    refine Qdd m1 m2 a f N (M) T (S+Q*T) (-σ) l (k-((Q:Nat):Int)*l) (by rcases hσ with rfl|rfl<;>simp) (by omega) (by omega) cP hTm ?_ ?_ ?_ ?_
    · have:N*(S+Q*T)+M*T=N*S+(N*(Q)+M)*T:=by grind
      rw[this,hdm];omega
    · exact hgr
    · exact h2
    · push_cast at hc ⊢
      grind
theorem Qde (q1:2≤q)(q2:q≤1048575)(α:Fin q):∀ (f A B:Nat) (X Y:Fin q),B<f→A≤q→B≤q→Nat.gcd A B=1→fi q A=X*α→fi q B=Y*α→
 ∃ x:Fin q,x*α=1∧aS (Ul (bn q)) f (bn A,fe X,bn B,fe Y)=some (fe x,true)
 | 0,A,B,X,Y,h,_,_,_,_,_=>by omega
 | f+1,A,B,X,Y,hf,hA,hB,hg,h1,h2=>by
  rw[eQ];simp only[Ul];have hX:=X.isLt;have hY:=Y.isLt;by_cases h0:B=0
  · subst h0;have hA1:A=1:=by simpa using hg
    subst hA1;rw[if_neg (by simp)];exact⟨X,h1.symm.trans Qco,rfl⟩
  · have cP:=Nat.mod_lt A (show 0<B by omega);have hdm:=Nat.div_add_mod A B;have hle:=Nat.div_le_self A B;have hq0:A / B*B≤A:=Nat.div_mul_le_self A B;have hz:¬ bn B=0#64:=Jv (by omega) (by omega);have hmq:=Nat.mod_lt (A / B) (show 0<q by omega);have hp1:A / B%q*Y.val≤1048575*1048575:=Nat.mul_le_mul (by omega) (by omega);have hm2:=Nat.mod_lt (A / B%q*Y.val) (show 0<q by omega);rw[if_pos hz,Qfa (by omega) (by omega) (by omega),bind_some,jD (by omega) (by omega) (by omega),bind_some,qF,jD (by omega) (by omega) (by omega),bind_some,Z8 (by omega) (by omega),Z6,jD (by omega) (by omega) (by omega),bind_some,qF,Z8 (by omega) (by omega)];have e:A-A / B*B=A%B:=by rw[Nat.mul_comm] at hq0 ⊢;omega
    rw[e];have hA':fi q A=fi q B*fi q (A / B)+fi q (A%B):=by rw[←uC,←O6,hdm]
    have hY':fi q ((X.val+(q-A / B%q*Y.val%q))%q)=X-fi q (A / B)*Y:=by
     rw[Rw,O6,pE,Qoq (by omega),Qcp,Rw,uC,Rw,pE];grind
    rw[show bn ((X.val+(q-A / B%q*Y.val%q))%q)=fe (X-fi q (A / B)*Y) from by rw[←hY',O5 (Nat.mod_lt _ (by omega))]];refine Qde q1 q2 α f B (A%B) Y _ (by omega) hB (by omega) ?_ h2 ?_
    · rw[←hg,Nat.gcd_comm A B,Nat.gcd_rec B A,Nat.gcd_comm]
    · grind
theorem Qpk (hP:iI q)(q2:q≤1048575){α:Fin q}(hα:α≠0):∃ x:Fin q,α*x=1∧T5 (fe α) (bn q)=some (fe x,0)∧Uk (fe α) (bn q)=some (fe x,true):=by
 have q1:=hP.1;have ha:=α.isLt
 have h0:0<α.val:=by
  rcases Nat.eq_zero_or_pos α.val with h|h
  · exact absurd (Fin.ext h) hα
  · exact h
 have hg:=Qow hP h0 ha;obtain⟨x,x1,⟨j,x2⟩,x3⟩:=Qdd q1 q2 (α.val:Int) aI q α.val 0 1 (-1) 1 0 (.inr rfl) (fI (by omega)) (Nat.le_refl _) ha (by omega) (by omega) hg (by simp) (by simp);obtain⟨y,y1,y2⟩:=Qde q1 q2 α aI α.val q 1 0 (fI (by omega)) (by omega) (Nat.le_refl _) (by rw[Nat.gcd_comm];exact hg) (by rw[pE];grind) (by rw[Qcp];grind)
 have hx:fi q x*α=1:=by
  have h1:fi q (x*α.val)=fi q x*α:=by rw[uC,pE]
  rw[←h1];apply Fin.ext;have e1:(1:Fin q).val=1:=Nat.mod_eq_of_lt (show 1<q by omega);rw[pA,e1]
  have h2:((x*α.val%q:Nat):Int)=1:=by
   push_cast
   rw[x2,Int.add_mul_emod_self_right];exact Int.emod_eq_of_lt (by omega) (by omega)
  omega
 have hxy:fi q x=y:=by grind
 refine⟨y,by grind,?_,?_⟩
 · unfold T5 T7;have hun:∀ n:Nat,n<9223372036854775807→aX (un (bn n))=(n:Int):=fun n hn=>by rw[show un (bn n)=(n:Int) from by unfold un;rw[gU (by omega)]];exact dO (by omega) (by omega)
   rw[show(1#64)=bn 1 from rfl,if_pos ((mO (by omega) (by omega)).2 (by omega)),bind_some,show(4294967296#64)=bn 4294967296 from rfl,decide_eq_true ((iK (by omega) (by omega)).2 (by omega))];simp only[Bool.not_true,cond_false];rw[jD (by omega) (by omega) (by omega),bind_some,Nat.mod_eq_of_lt ha,hun q (by omega),hun _ (by omega)];rw[show(0:Int) = -1*((0:Nat):Int) from by simp,show(1:Int) = -(-1)*((1:Nat):Int) from by simp];rw[←hxy,O5 x1];exact x3
 · unfold Uk;rw[show(1#64)=bn 1 from rfl,jD (by omega) (by omega) (by omega),bind_some,jD (by omega) (by omega) (by omega),bind_some,Nat.mod_eq_of_lt ha,Nat.mod_eq_of_lt (show 1<q by omega)];have e1:bn 1=fe (1:Fin q):=by unfold fe;rw[show(1:Fin q).val=1 from Nat.mod_eq_of_lt (show 1<q by omega)]
   have e0:(0#64)=fe (0:Fin q):=rfl;rw[e1,e0];exact y2
end
end Go.Sx.Po

end
section
namespace Go.Sx.Po
open Go
def gI (d:Nat)(l:List Int):Bool:=(List.range l.length).all fun j=>decide (0≤l.getD j 0∧l.getD j 0<((2^d:Nat):Int))&&(decide (j=0)||decide (l.getD (j-1) 0<l.getD j 0))
theorem getD_some {l:List Int}{j:Nat}(h:j<l.length):l.getD j 0=l[j]:=by simp[List.getD,h]
theorem X0 {R:Type}(p:Nat→Bool)(D E:Option R):∀ (l:List Nat) (F:Nat→(Unit→Option R)→Unit→Option R),(∀ a∈l,∀ nx s,F a nx s=bif p a then nx s else E)→eS F (fun _=>D) l ()=bif l.all p then D else E
 | [],F,h=>rfl
 | a::l,F,h=>by
  rw[rH,h a (by simp),List.all_cons]
  cases p a with
  | false=>rfl
  | true=>rw[cond_true,Bool.true_and];exact X0 p D E l F (fun b hb=>h b (by simp[hb]))
theorem Qqr {d:Nat}{ln:List Nat}(h1:∀ n∈ln,n<2^d)(h2:ln.Pairwise (· < ·)):gI d (ln.map fun n:Nat=>(n:Int))=true:=by
 unfold gI;rw[List.all_eq_true];intro j hj;have hj':j<ln.length:=by simpa using hj
 have hl:j<(ln.map fun n:Nat=>(n:Int)).length:=by simpa using hj'
 rw[getD_some hl,List.getElem_map];have ha:=h1 _ (List.getElem_mem hj');rw[Bool.and_eq_true,decide_eq_true_eq,Bool.or_eq_true,decide_eq_true_eq,decide_eq_true_eq];refine⟨by omega,?_⟩;by_cases h0:j=0
 · exact .inl h0
 · right;rw[getD_some (by simp;omega),List.getElem_map];have:=(List.pairwise_iff_getElem.1 h2) (j-1) j (by omega) hj' (by omega);omega
end Go.Sx.Po

end
section
namespace Go.Sx.Po
open Go
theorem Qtk {b n p:Nat}(hb:b<18446744073709551616)(hn:n<18446744073709551616)(hp:1≤p)(hp2:p<4294967296):Qk (bn b) (bn n) (bn p)=some (bn (b^n%p),0):=by
 unfold Qk T7;rw[show(1#64)=bn 1 from rfl,if_pos ((mO (by omega) (by omega)).2 hp),bind_some,show(4294967296#64)=bn 4294967296 from rfl,decide_eq_true ((iK (by omega) (by omega)).2 hp2)];simp only[Bool.not_true,cond_false];rw[My hb hn (by omega) hp2,bind_some]
section
variable {s:aF} {d t p q g:Nat}
theorem Pr (h:gC s d t p q g){b n:Nat}(hb:b<18446744073709551616)(hn:n<18446744073709551616):vT s (bn b) (bn n)=some (bn (b^n%p)):=by
 obtain⟨p1,p2⟩:=h.pb;unfold vT;rw[h.grp];simp only;rw[Qtk hb hn (by omega) (by omega),bind_some]
end
def fN (root:W2)(q t x:Nat):Nat:=mH (nN root q t) x%q
def rN (root:W2)(q:Nat)(nonce:BitVec 64):Nat:=1+(cX (cX root (aC 41#8) nonce) (aC 3#8) 0#64).1.toNat%(q-1)
def kT (root:W2)(p q g:Nat)(nonce:BitVec 64):Nat:=g^rN root q nonce%p
def qV (root:W2)(p q t b x:Nat):bX:=⟨bn x,bn (b^fN root q t x%p)⟩
def lK (d t:Nat)(ln:List Nat):List Nat:=ln.map (· + 1)++(List.range (t-ln.length)).map fun i=>2^d+1+i
def dV (root:W2)(d t p q g:Nat)(ln:List Nat)(session:W2)(nonce:BitVec 64):bQ:=
 ⟨[],bn (kT root p q g nonce),(lK d t ln).map (qV root p q t (kT root p q g nonce)),jP (cX k0 (aC 42#8) (bn (kT root p q g nonce^fN root q t 0%p))) session,cX session (aC 53#8) 0#64⟩
theorem zA {d t:Nat}{ln:List Nat}(h:ln.length≤t):(lK d t ln).length=t:=by simp[lK];omega
section
variable {s:aF} {d t p q g:Nat}
theorem Qc0 (h:gC s d t p q g)(root:W2)(x:Nat):fN root q t x<q:=Nat.mod_lt _ (by have:=h.qb;omega)
theorem Nw (h:gC s d t p q g)(root:W2)(nonce:BitVec 64):kT root p q g nonce<p:=Nat.mod_lt _ (by have:=h.pb;omega)
theorem Lo (root:W2):(nN root q t).length=t+1:=by simp[nN]
theorem Qi6 (h:gC s d t p q g){ln:List Nat}(hl:∀ n∈ln,n<2^d){x:Nat}(hx:x∈lK d t ln):1≤x∧x<q:=by
 have:=h.big;have hpp:=Nat.two_pow_pos d;rcases List.mem_append.1 hx with hx|hx
 · obtain⟨n,hn,rfl⟩:=List.mem_map.1 hx;have:=hl n hn;omega
 · obtain⟨n,hn,rfl⟩:=List.mem_map.1 hx;have:=List.mem_range.1 hn;omega
theorem Qg0 (h:gC s d t p q g)(root:W2)(nonce:BitVec 64):1≤rN root q nonce∧rN root q nonce<q:=by
 have hb:=h.big;have:=Nat.mod_lt (cX (cX root (aC 41#8) nonce) (aC 3#8) 0#64).1.toNat (show 0<q-1 by have:=Nat.two_pow_pos d;omega);unfold rN;omega
theorem Qr8 (h:gC s d t p q g)(root:W2)(nonce:BitVec 64):wF (cX root (aC 41#8) nonce) 0#64 (bn q-1#64)=some (bn (rN root q nonce-1))∧Ur (cX root (aC 41#8) nonce) 0#64 (bn q-1#64)=some (bn (rN root q nonce-1)):=by
 obtain⟨q1,q2⟩:=h.qb;have hb:=h.big;have:=Nat.two_pow_pos d;have ht:=h.t1;have e:rN root q nonce-1=(cX (cX root (aC 41#8) nonce) (aC 3#8) 0#64).1.toNat%(q-1):=by unfold rN;omega
 rw[show(1#64)=bn 1 from rfl,Z8 (by omega) (by omega),Qej _ _ _ (Jv (by omega) (by omega)),Qv7 _ _ _ (Jv (by omega) (by omega)),Qec _ (by omega) (by omega),e];exact⟨rfl,rfl⟩
theorem Bt (h:gC s d t p q g)(root:W2){b x:Nat}(hb:b<p)(hx:x<q)(it:List cG)(pts:List bX)(k1 k2:W2):
 yU (bn x) s ⟨it,bn b,pts,k1,k2⟩ ((nN root q t).map bn) (bn q)=some (bn (b^fN root q t x%p)):=by
 obtain⟨q1,q2⟩:=h.qb;obtain⟨p1,p2⟩:=h.pb;have hf:=Qc0 h root x;have ht:=h.t8;unfold yU;rw[Im q1 q2 hx _ (Lp (by omega)) (by rw[Lo];omega),bind_some];simp only;rw[show mH (nN root q t) x%q=fN root q t x from rfl,Pr h (by omega) (by omega),bind_some]
theorem Qtj (h:gC s d t p q g)(root:W2)(l:List Int)(session:W2)(nonce:BitVec 64)(hl:l.length<4611686018427387904):
 aS (vD root s l session nonce) aI 0=bif gI d l then(if s.Degree<(l.length:Int) then some (⟨[],0#64,[],k0,k0⟩,4) else Option.bind (vG root s) fun x=>N3 root s l session nonce x) else some (⟨[],0#64,[],k0,k0⟩,2):=by
 have h64:=fO h.d6;have hpp:=Nat.two_pow_pos d
 have:=Ry l.length (vD root s l session nonce) (fun j (_:Unit)=>(j:Int)) (fun j nx u=>bif decide (0≤l.getD j 0∧l.getD j 0<((2^d:Nat):Int))&&(decide (j=0)||decide (l.getD (j-1) 0<l.getD j 0)) then nx u else some (⟨[],0#64,[],k0,k0⟩,2)) (fun _=>if s.Degree<(l.length:Int) then some (⟨[],0#64,[],k0,k0⟩,4) else Option.bind (vG root s) fun x=>N3 root s l session nonce x)
  (fun rec j hj _=>by
   simp only[vD,yE];rw[if_pos (by omega),eG hj,bind_some,h.depth,vC,bind_some,zD h.d6,getD_some hj,gR (by omega)];by_cases h1:l[j]<0
   · rw[if_pos h1,decide_eq_false (by omega)];rfl
   · rw[if_neg h1];by_cases h2:((2^d:Nat):Int)≤l[j]
     · rw[if_pos h2,decide_eq_false (by omega)];rfl
     · rw[if_neg h2,decide_eq_true (show 0≤l[j]∧l[j]<((2^d:Nat):Int) by omega),Bool.true_and];by_cases h0:j=0
       · rw[if_neg (by omega),decide_eq_true h0];rfl
       · have hj1:j-1<l.length:=by omega
         rw[if_pos (by omega),dO (by omega) (by omega),show(j:Int)-1=((j-1:Nat):Int) from by omega,eG hj1,bind_some,decide_eq_false h0,Bool.false_or,getD_some hj1];by_cases h3:l[j]≤l[j-1]
         · rw[decide_eq_true h3,decide_eq_false (by omega)];rfl
         · rw[decide_eq_false h3,decide_eq_true (by omega)];rfl)
  (fun rec _=>by simp only[vD];rw[if_neg (by omega)]) (f:=aI) (fI (by omega)) ()
 rw[show((0:Nat):Int)=0 from rfl] at this;rw[this,X0 _ _ _ _ _ (fun a _ nx u=>rfl)];rfl
theorem Qr3 (h:gC s d t p q g)(root:W2)(session:W2)(nonce:BitVec 64){b:Nat}(hb:b<p)(pts:List bX)(hk:pts.length≤t):
 aS (yI s session ((nN root q t).map bn) (bn b)) aI (aX (((2^d:Nat):Int)+1),pts)=some (⟨[],bn b,pts++(List.range (t-pts.length)).map (fun i=>qV root p q t b (2^d+1+i)),jP (cX k0 (aC 42#8) (bn (b^fN root q t 0%p))) session,cX session (aC 53#8) 0#64⟩,0):=by
 have h64:=fO h.d6;have hpp:=Nat.two_pow_pos d;have ht:=h.t8;have hbig:=h.big;obtain⟨q1,q2⟩:=h.qb;refine rV _ (fun j st=>st=(((2^d+1+j:Nat):Int),pts++(List.range j).map (fun i=>qV root p q t b (2^d+1+i)))) (t-pts.length) _ (by omega) ?_ ?_ ?_
 · rw[gR (by omega)];simp
 · rintro j _ hj rfl;refine⟨_,rfl,fun rec=>?_⟩;simp only[yI];rw[if_pos (by rw[h.deg];simp;omega),h.grp,C5];simp only;rw[Bt h root hb (show 2^d+1+j<q by omega),bind_some,kD (by simp;omega),bind_some,gR (by omega),List.range_succ,List.map_append,←List.append_assoc];rfl
 · rintro _ rfl rec;simp only[yI];rw[if_neg (by rw[h.deg];simp;omega),h.grp,show(0#64)=bn 0 from rfl];simp only;rw[Bt h root hb (show 0<q by omega),bind_some];rfl
theorem Qot (h:gC s d t p q g)(root:W2){ln:List Nat}(hl:∀ n∈ln,n<2^d)(hlen:ln.length≤t)(session:W2)(nonce:BitVec 64){b:Nat}(hb:b<p):
 aS (yA s (ln.map fun n:Nat=>(n:Int)) session ((nN root q t).map bn) (bn b)) aI (0,[])=some (⟨[],bn b,(lK d t ln).map (qV root p q t b),jP (cX k0 (aC 42#8) (bn (b^fN root q t 0%p))) session,cX session (aC 53#8) 0#64⟩,0):=by
 have h64:=fO h.d6;have hpp:=Nat.two_pow_pos d;have ht:=h.t8;have hbig:=h.big;obtain⟨q1,q2⟩:=h.qb;refine rV _ (fun j st=>st=((j:Int),(ln.take j).map fun n=>qV root p q t b (n+1))) ln.length _ (by omega) (by simp) ?_ ?_
 · rintro j _ hj rfl;refine⟨_,rfl,fun rec=>?_⟩;have hn:=hl _ (List.getElem_mem hj);simp only[yA];rw[if_pos (by simp;omega),eG (by simpa using hj),bind_some,List.getElem_map,gR (by omega),C5,h.grp];simp only;rw[Bt h root hb (show ln[j]+1<q by omega),bind_some,kD (by simp;omega),bind_some,gR (by omega),B2 ln j hj,List.map_append];rfl
 · rintro _ rfl rec;simp only[yA];rw[if_neg (by simp),h.depth,vC,bind_some,zD h.d6,List.take_length,Qr3 h root session nonce hb _ (by simpa using hlen)];simp only[lK,List.map_append,List.map_map,List.length_map];rfl
theorem Uc (h:gC s d t p q g)(e1:jE s=some true)(root:W2){ln:List Nat}(hl:∀ n∈ln,n<2^d)(ho:ln.Pairwise (· < ·))(hlen:ln.length≤t)(session:W2)(nonce:BitVec 64):
 N2 root s (ln.map fun n:Nat=>(n:Int)) session nonce=some (dV root d t p q g ln session nonce,0):=by
 have ht:=h.t8;obtain⟨r1,r2⟩:=Qg0 h root nonce;obtain⟨p1,p2⟩:=h.pb;obtain⟨q1,q2⟩:=h.qb;have hgp:=h.ok.2.2.2.2.1;unfold N2;rw[e1,bind_some];simp only[Bool.not_true,cond_false];rw[Qtj h root _ session nonce (by simp;omega),Qqr hl ho,cond_true,if_neg (by rw[h.deg];simp;omega),Qgd h,bind_some];unfold N3 Pj;rw[h.grp];simp only;rw[(Qr8 h root nonce).1,bind_some,show(1#64)=bn 1 from rfl,Z6,show 1+(rN root q nonce-1)=rN root q nonce from by omega,Pr h (by omega) (by omega),bind_some];have:=Qot h root hl hlen session nonce (Nw h root nonce);rw[show bn (kT root p q g nonce)=bn (g^rN root q nonce%p) from rfl] at this;rw[this];rfl
end
end Go.Sx.Po

end
section
namespace Go.Sx.Po.Cy
open Go
def lJ (l:List (BitVec 8)):BitVec 64:=l.foldl (fun n c=>256#64*n+c.setWidth 64) 0#64
end Go.Sx.Po.Cy

end
