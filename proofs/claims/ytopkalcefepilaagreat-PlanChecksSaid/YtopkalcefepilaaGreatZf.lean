/- Several texts in one: Vq Pm Cq LawCk. -/
import Derived.Test.YtopkalcefepilaaGreatZe
import Derived.Test.YtopkalcefepilaaGreatZd
set_option linter.unusedVariables false
set_option linter.unusedSimpArgs false
section
set_option linter.unusedVariables false
set_option linter.unusedSimpArgs false
set_option maxRecDepth 100000
namespace Go.Sx.Po
open Go
def Qa3 (p q g:Nat):Prop:=(p≤1048575∧Fi p)∧(q≤1048575∧Fi q)∧(p-1)%q=0∧2≤g∧g<p∧g^q%p=1
theorem Qr7 {p q g:Nat}(hp:p<18446744073709551616)(hq:q<18446744073709551616)(hg:g<18446744073709551616):
 ∃ b,Ro ⟨bn p,bn q,bn g⟩=some (if b=true then 0 else 13)∧It ⟨bn p,bn q,bn g⟩=some b∧(b=true↔Qa3 p q g):=by
 obtain⟨b1,e1,i1⟩:=Qcc hp
 obtain⟨b2,e2,i2⟩:=Qcc hq
 unfold Ro It
 simp only
 rw[e1,bind_some,show(1048575#64)=bn 1048575 from rfl]
 have no:∀ (h:¬ Qa3 p q g),(false=true↔Qa3 p q g):=fun h=>⟨(fun e=>by cases e),fun e=>absurd e h⟩
 by_cases hP:p≤1048575∧Fi p
 · have c0:¬ bn 1048575<bn p:=fun h=>by have:=(Yy (by omega) hp).1 h;omega
   rw[i1.2 hP,if_neg c0]
   obtain⟨c1,f1,j1⟩:=Qay hP.1
   rw[f1,bind_some,j1.2 hP.2]
   simp only[Bool.not_true,cond_false]
   rw[e2,bind_some]
   by_cases hQ:q≤1048575∧Fi q
   · have c0':¬ bn 1048575<bn q:=fun h=>by have:=(Yy (by omega) hq).1 h;omega
     rw[i2.2 hQ,if_neg c0']
     obtain⟨c2,f2,j2⟩:=Qay hQ.1
     rw[f2,bind_some,j2.2 hQ.2]
     simp only[Bool.not_true,cond_false]
     have hp2:=hP.2.1
     have hq2:=hQ.2.1
     rw[show(1#64)=bn 1 from rfl,Qh4 hp (by omega),Di (by omega) (by omega) hq,bind_some,bind_some]
     have hmod:=Nat.mod_lt (p-1) (show 0<q by omega)
     unfold Tu Sl
     simp only
     by_cases hz:(p-1)%q=0
     · rw[hz,if_neg (by simp),decide_eq_false (by simp),cond_false,show(2#64)=bn 2 from rfl]
       by_cases h2:2≤g
       · have c3:¬ bn g<bn 2:=fun h=>by have:=(Yy hg (by omega)).1 h;omega
         have c4:bn 2≤bn g:=(Nx (by omega) hg).2 h2
         rw[if_neg c3,if_pos c4]
         by_cases h3:g<p
         · have c5:¬ bn p≤bn g:=fun h=>by have:=(Nx hp hg).1 h;omega
           have c6:bn g<bn p:=(Yy hg hp).2 h3
           rw[if_neg c5,if_pos c6,Qkv hg hq (by omega) (by omega),Qvh hg hq (by omega) (by omega),bind_some,bind_some]
           have hpm:=Nat.mod_lt (g^q) (show 0<p by omega)
           have hone:bn (g^q%p)=bn 1↔g^q%p=1:=Fo (by omega) (by omega)
           refine⟨decide (bn (g^q%p)=bn 1),?_,rfl,?_⟩
           · by_cases h4:bn (g^q%p)=bn 1
             · rw[decide_eq_false (by simpa using h4),decide_eq_true h4];rfl
             · rw[decide_eq_true h4,decide_eq_false h4];rfl
           · rw[decide_eq_true_eq,hone]
             exact⟨fun h=>⟨hP,hQ,hz,h2,h3,h⟩,fun h=>h.2.2.2.2.2⟩
         · have c5:bn p≤bn g:=(Nx hp hg).2 (by omega)
           have c6:¬ bn g<bn p:=fun h=>h3 ((Yy hg hp).1 h)
           rw[if_pos c5,if_neg c6]
           exact⟨false,rfl,rfl,no fun h=>h3 h.2.2.2.2.1⟩
       · have c3:bn g<bn 2:=(Yy hg (by omega)).2 (by omega)
         have c4:¬ bn 2≤bn g:=fun h=>h2 ((Nx (by omega) hg).1 h)
         rw[if_pos c3,if_neg c4]
         exact⟨false,rfl,rfl,no fun h=>h2 h.2.2.2.1⟩
     · have hz':bn ((p-1)%q)≠0#64:=fun h=>hz ((Fo (b:=0) (by omega) (by omega)).1 h)
       rw[if_pos hz',decide_eq_true hz']
       exact⟨false,rfl,rfl,no fun h=>hz h.2.2.1⟩
   · have hb2:b2=false:=by cases b2 with|false=>rfl|true=>exact absurd (i2.1 rfl) hQ
     rw[hb2]
     refine⟨false,rfl,?_,no fun h=>hQ h.2.1⟩
     by_cases hg':1048575<q
     · have c0':bn 1048575<bn q:=(Yy (by omega) hq).2 hg'
       rw[if_pos c0'];rfl
     · have c0':¬ bn 1048575<bn q:=fun h=>hg' ((Yy (by omega) hq).1 h)
       rw[if_neg c0']
       obtain⟨c2,f2,j2⟩:=Qay (n:=q) (by omega)
       have:c2=false:=by cases c2 with|false=>rfl|true=>exact absurd ⟨by omega,j2.1 rfl⟩ hQ
       rw[f2,bind_some,this];rfl
 · have hb1:b1=false:=by cases b1 with|false=>rfl|true=>exact absurd (i1.1 rfl) hP
   rw[hb1]
   refine⟨false,rfl,?_,no fun h=>hP h.1⟩
   by_cases hg':1048575<p
   · have c0:bn 1048575<bn p:=(Yy (by omega) hp).2 hg'
     rw[if_pos c0];rfl
   · have c0:¬ bn 1048575<bn p:=fun h=>hg' ((Yy (by omega) hp).1 h)
     rw[if_neg c0]
     obtain⟨c1,f1,j1⟩:=Qay (n:=p) (by omega)
     have:c1=false:=by cases c1 with|false=>rfl|true=>exact absurd ⟨by omega,j1.1 rfl⟩ hP
     rw[f1,bind_some,this];rfl
theorem Qfr:∀ d:Fin 7,Yo (d.1:Int)=some ((2^d.1:Nat):Int):=by decide +kernel
theorem Nj {d:Nat}(h:d≤6):Yo (d:Int)=some ((2^d:Nat):Int):=Qfr ⟨d,by omega⟩
theorem Qvz:∀ d:Fin 7,Xr 1 d.1=((2^d.1:Nat):Int):=by decide +kernel
theorem Qga {d:Nat}(h:d≤6):Xr 1 d=((2^d:Nat):Int):=Qvz ⟨d,by omega⟩
theorem Qd4 (n:Nat):Ju (n:Int)=some n:=by unfold Ju;rw[if_pos (by omega)];rfl
theorem Yh {d:Nat}(h:d≤6):2^d≤64:=Nat.le_trans (Nat.pow_le_pow_right (by omega) h) (by decide)
theorem Qxh (n:Nat):wd (n:Int)=bn n:=by unfold wd bn;exact BitVec.ofInt_natCast 64 n
structure Vld (s:Qo)(d t p q g:Nat):Prop where
 kind:s.Kind=4#8
 depth:s.Depth=(d:Int)
 deg:s.Degree=(t:Int)
 d6:d≤6
 t1:1≤t
 t8:t≤8
 grp:s.Group=⟨bn p,bn q,bn g⟩
 ok:Qa3 p q g
 big:2^d+t<q
theorem Qgl (s:Qo):(Nf s=some false∧Sp s=some false)∨(Nf s=some true∧Sp s=some true∧∃ d t p q g,Vld s d t p q g):=by
 obtain⟨kd,dp,dg,⟨P,Q,G⟩⟩:=s
 obtain⟨p,hp,rfl⟩:=Ce P
 obtain⟨q,hq,rfl⟩:=Ce Q
 obtain⟨g,hg,rfl⟩:=Ce G
 unfold Nf Sp Np
 simp only
 by_cases h1:kd=4#8
 · rw[if_pos h1,if_neg (show ¬ kd≠4#8 from fun h=>h h1)]
   by_cases h2:0≤dp
   · rw[if_pos h2,if_neg (show ¬ dp<0 by omega)]
     by_cases h3:dp≤6
     · rw[if_pos h3,if_neg (show ¬ 6<dp by omega)]
       by_cases h4:1≤dg
       · rw[if_pos h4,if_neg (show ¬ dg<1 by omega)]
         by_cases h5:dg≤8
         · rw[if_pos h5,if_neg (show ¬ 8<dg by omega)]
           obtain⟨b,e1,e2,i⟩:=Qr7 hp hq hg
           rw[e1,e2,bind_some,bind_some]
           cases b with
           | false=>exact .inl ⟨rfl,rfl⟩
           | true=>
            obtain⟨d,rfl⟩:∃ d:Nat,dp=(d:Int):=⟨dp.toNat,by omega⟩
            obtain⟨t,rfl⟩:∃ t:Nat,dg=(t:Int):=⟨dg.toNat,by omega⟩
            have h64:=Yh (d:=d) (by omega)
            have hpp:=Nat.two_pow_pos d
            simp only[Bool.not_true,cond_false,if_true]
            rw[Qd4,bind_some,Nj (by omega),bind_some,Qga (by omega),Jc (by omega) (by omega),show((2^d:Nat):Int)+(t:Int)=((2^d+t:Nat):Int) from by omega,Qxh]
            by_cases Xy:2^d+t<q
            · rw[decide_eq_true ((Yy (by omega) hq).2 Xy)]
              exact .inr ⟨rfl,rfl,d,t,p,q,g,⟨h1,rfl,rfl,by omega,by omega,by omega,rfl,i.1 rfl,Xy⟩⟩
            · rw[decide_eq_false (fun h=>Xy ((Yy (by omega) hq).1 h))];exact .inl ⟨rfl,rfl⟩
         · rw[if_neg h5,if_pos (show 8<dg by omega)];exact .inl ⟨rfl,rfl⟩
       · rw[if_neg h4,if_pos (show dg<1 by omega)];exact .inl ⟨rfl,rfl⟩
     · rw[if_neg h3,if_pos (show 6<dp by omega)];exact .inl ⟨rfl,rfl⟩
   · rw[if_neg h2,if_pos (show dp<0 by omega)];exact .inl ⟨rfl,rfl⟩
 · rw[if_neg h1,if_pos (show kd≠4#8 from h1)];exact .inl ⟨rfl,rfl⟩
end Go.Sx.Po

end
section
set_option linter.unusedVariables false
set_option linter.unusedSimpArgs false
set_option maxRecDepth 100000
namespace Go.Sx.Pn
open Go Go.Sx Go.Sx.Po
theorem Qln (n:Xg):Ok n=some (Yc n):=by
 unfold Ok
 by_cases h1:0≤n.Depth∧n.Depth≤6
 · obtain⟨d,hd⟩:∃ d:Nat,n.Depth=(d:Int):=⟨n.Depth.toNat,by omega⟩
   rw[if_neg (by omega),if_neg (by omega)]
   unfold Yc
   rw[hd,Qg5 (by omega),Int.toNat_natCast,bind_some]
   by_cases h2:0≤n.Revoked∧n.Revoked≤((2^d:Nat):Int)
   · rw[if_neg (by omega),if_neg (by omega)]
     by_cases h3:0≤n.Storage∧n.Storage≤10000
     · rw[if_neg (by omega),decide_eq_false (by omega)]
       unfold Nq
       rw[cond_false]
       by_cases a1:0≤n.Headers
       · by_cases a2:n.Headers≤1000
         · by_cases a3:0≤n.HeaderPrice
           · by_cases a4:n.HeaderPrice≤1000
             · by_cases a5:0≤n.StoragePrice
               · rw[if_pos a1,if_pos a2,if_pos a3,if_pos a4,if_pos a5]
                 by_cases a6:n.StoragePrice≤1000
                 · rw[decide_eq_true a6,decide_eq_true (by omega)]
                 · rw[decide_eq_false a6,decide_eq_false (by omega)]
               · rw[if_pos a1,if_pos a2,if_pos a3,if_pos a4,if_neg a5,decide_eq_false (by omega)]
             · rw[if_pos a1,if_pos a2,if_pos a3,if_neg a4,decide_eq_false (by omega)]
           · rw[if_pos a1,if_pos a2,if_neg a3,decide_eq_false (by omega)]
         · rw[if_pos a1,if_neg a2,decide_eq_false (by omega)]
       · rw[if_neg a1,decide_eq_false (by omega)]
     · rw[decide_eq_false (show ¬ ((0≤(d:Int)∧(d:Int)≤6)∧(0≤n.Revoked∧n.Revoked≤((2^d:Nat):Int))∧(0≤n.Storage∧n.Storage≤10000)∧(0≤n.Headers∧n.Headers≤1000)∧(0≤n.HeaderPrice∧n.HeaderPrice≤1000)∧(0≤n.StoragePrice∧n.StoragePrice≤1000)) from fun h=>h3 h.2.2.1)]
       by_cases h4:n.Storage<0
       · rw[if_pos h4];rfl
       · rw[if_neg h4,decide_eq_true (by omega)];rfl
   · rw[decide_eq_false (show ¬ ((0≤(d:Int)∧(d:Int)≤6)∧(0≤n.Revoked∧n.Revoked≤((2^d:Nat):Int))∧(0≤n.Storage∧n.Storage≤10000)∧(0≤n.Headers∧n.Headers≤1000)∧(0≤n.HeaderPrice∧n.HeaderPrice≤1000)∧(0≤n.StoragePrice∧n.StoragePrice≤1000)) from fun h=>h2 h.2.1)]
     by_cases h4:n.Revoked<0
     · rw[if_pos h4];rfl
     · rw[if_neg h4,if_pos (by omega)];rfl
 · have hv:Yc n=false:=decide_eq_false fun h=>h1 h.1
   rw[hv]
   by_cases h4:n.Depth<0
   · rw[if_pos h4];rfl
   · rw[if_neg h4,if_pos (by omega)];rfl
theorem Qvl:∀ k∈[1,2,3],∀ d∈List.range 7,Qck (Zi k d)=some (Bl k d,0):=by decide +kernel
theorem Qvg (s:Qo):Sp s=some (Nd s):=by
 unfold Nd
 rcases Go.Sx.Po.Qgl s with⟨h1,h2⟩|⟨h1,h2,_⟩<;>rw[h1,h2]<;>rfl
theorem Ql1 {n:Xg}(h:Yc n=true)(k:BitVec 8){a b c:Int}(ha:0≤a∧a≤32)(hb:0≤b∧b≤8)(hc:0≤c∧c≤400)(l:List Int):Ul n k a b c l=some (Mm n k a b c l):=by
 obtain⟨q1,q2,q3,q4⟩:=Qhh h (hd:=67+18*a+16*b) (by omega) hc
 have hh:=of_decide_eq_true h
 have hd:=hh.1
 have hs:=hh.2.2.2.2.2
 obtain⟨d,hd2⟩:∃ d:Nat,n.Depth=(d:Int):=⟨n.Depth.toNat,by omega⟩
 have h64:=Qcb (d:=d) (by omega)
 have e1:Qb (67+Qb (18*a))=67+18*a:=by rw[Jc (n:=18*a) (by omega) (by omega),Jc (by omega) (by omega)]
 have e2:Qb (Qb (67+Qb (18*a))+Qb (16*b))=67+18*a+16*b:=by rw[e1,Jc (n:=16*b) (by omega) (by omega),Jc (by omega) (by omega)]
 unfold Ul Mm
 rw[e2,Jc (n:=n.Headers*n.HeaderPrice) (by omega) (by omega),Jc (n:=n.Headers*n.HeaderPrice*(67+18*a+16*b)) (by omega) (by omega)]
 rw[hd2] at q4 ⊢
 rw[Int.toNat_natCast] at q4 ⊢
 rw[Qg5 (by omega),bind_some]
 have m1:0≤((2^d:Nat):Int)∧((2^d:Nat):Int)≤64:=⟨Int.natCast_nonneg _,Int.ofNat_le.2 h64⟩
 generalize ((2^d:Nat):Int)=m at *
 have e3:0≤m*n.StoragePrice:=Int.mul_nonneg m1.1 hs.1
 have e4:m*n.StoragePrice≤64*1000:=Int.mul_le_mul m1.2 hs.2 hs.1 (by omega)
 have e5:m*n.StoragePrice*c=n.StoragePrice*c*m:=by rw[Int.mul_assoc,Int.mul_comm]
 rw[Jc (n:=m*n.StoragePrice) (by omega) (by omega),e5,Jc (n:=n.StoragePrice*c*m) (by omega) (by omega),Jc (by omega) (by omega)]
theorem Qu5 {n:Xg}(h:Yc n=true){k:Nat}(hk:1≤k∧k≤4):Oh n (BitVec.ofNat 8 k)=some (Ve n k):=by
 obtain⟨d,r,hd,hr,h6,hr2⟩:=Qk8 h
 unfold Oh Ur
 by_cases h4:k=4
 · subst h4
   rw[if_pos rfl,bind_some,if_pos rfl]
   unfold Ve
   rw[if_pos rfl]
   show Option.bind (Sp (Ow n)) _=_
   rw[Qvg,bind_some]
   unfold ch4
   cases hp:Nd (Ow n) with
   | false=>rw[Bool.not_false,cond_true,if_neg (show ¬ false=true by simp)]
   | true=>
    have hg:=Qkm hp
    have hm:1≤Vp n.Revoked 1∧Vp n.Revoked 1≤8:=hg.2.2.2
    rw[Bool.not_true,cond_false,if_pos (show true=true from rfl)]
    exact Ql1 h _ (a:=0) (b:=Vp n.Revoked 1) (c:=8) (by omega) (by omega) (by omega) _
 · have hk3:1≤k∧k≤3:=by omega
   have hne:¬ BitVec.ofNat 8 k=4#8:=fun hc=>by have:=congrArg BitVec.toNat hc;rw[Ms hk.2] at this;simp at this;omega
   rw[if_neg hne,bind_some,if_neg hne]
   unfold Ve
   rw[if_neg h4]
   have hs:(Qo.mk (BitVec.ofNat 8 k) n.Depth 0 (Xz.mk 0#64 0#64 0#64))=Zi k d:=by rw[hd];rfl
   obtain⟨hkm,hdm⟩:=Ri hk3 h6
   obtain⟨s0,s1,s2⟩:=Qm7 k hkm d hdm
   obtain⟨w1,w2⟩:=Qns k hkm d hdm r (List.mem_range.2 (by omega))
   rw[hs,Qvl k hkm d hdm,bind_some,hr,Qvt hk3 h6 hr2,bind_some,Qvr hk3 h6 hr2,bind_some]
   simp only
   rw[Jc (n:=16*Bl k d) (by omega) (by omega),Ql1 h _ (by omega) (by omega) (by omega)]
   unfold ch3
   rw[hd,hr,Int.toNat_natCast,Int.toNat_natCast]
theorem Qd1 {n:Xg}(h:Yc n=true)(rec:BitVec 8 × List Qq × BitVec 8→Option Xk){l:List Qq}{b:BitVec 8 × Int}(hb:Ej l b)(hl:l.length<4):Uo n rec (BitVec.ofNat 8 (l.length+1),l,b.1)=rec (BitVec.ofNat 8 (l.length+2),l++[Ve n (l.length+1)],(Tf b (BitVec.ofNat 8 (l.length+1)) (Ve n (l.length+1))).1):=by
 unfold Uo
 simp only
 rw[if_pos (by rw[BitVec.le_def,Ms (by omega)];simp;omega),Qu5 h (by omega),bind_some,Hj (by simp;omega),bind_some]
 generalize Ve n (l.length+1)=c
 have hk:BitVec.ofNat 8 (l.length+1)+1#8=BitVec.ofNat 8 (l.length+2):=by apply BitVec.eq_of_toNat_eq;simp
 unfold Um Tf
 rw[hk]
 cases hf:c.Fits with
 | false=>rw[cond_false,cond_false,if_neg (by simp)]
 | true=>
  rw[cond_true]
  rcases hb with⟨h1,h2⟩|⟨i,hi,h1,h2,h3,h4⟩
  · rw[if_pos h1,if_pos ⟨rfl,.inl h1⟩,cond_true]
  · have hb0:b.1≠0#8:=by rw[h1];intro hc;have:=congrArg BitVec.toNat hc;rw[BitVec.toNat_ofNat] at this;simp at this;omega
    rw[if_neg hb0]
    have hg:Xd (l++[c]) (Jn (b.1-1#8))=some l[i]:=by
     have:Jn (b.1-1#8)=(i:Int):=by
      unfold Jn;rw[h1,BitVec.toNat_sub,BitVec.toNat_ofNat];simp;omega
     rw[this,Yu (by rw[List.length_append];omega),List.getElem_append_left hi]
    rw[hg,bind_some,h3]
    by_cases Xy:c.Cost<b.2
    · rw[decide_eq_true Xy,cond_true,if_pos ⟨rfl,.inr Xy⟩]
    · rw[decide_eq_false Xy,cond_false,if_neg fun hc=>Xy (hc.2.resolve_left hb0)]
theorem Qv8 {n:Xg}(h:Yc n=true):Oi n=some (plP n):=by
 unfold Oi
 have h1:=Cg Qa5 (by simp) (Ve n 1)
 have h2:=Cg h1 (by simp) (Ve n 2)
 have h3:=Cg h2 (by simp) (Ve n 3)
 rw[F5,Jm,show(1#8,([]:List Qq),0#8)=(BitVec.ofNat 8 (([]:List Qq).length+1),[],(0#8,(0:Int)).1) from rfl,Qd1 h _ Qa5 (by simp)]
 rw[Jm]
 refine(Qd1 h _ h1 (by simp)).trans ?_
 rw[Jm]
 refine(Qd1 h _ h2 (by simp)).trans ?_
 rw[Jm]
 refine(Qd1 h _ h3 (by simp)).trans ?_
 rw[Jm]
 rfl
theorem Qvk (c:Qq)(hl:c.Witness.length<1000000):Up c c=some true:=by
 unfold Up Bi
 rw[if_pos rfl,beq_self_eq_true,cond_true,if_pos rfl,if_pos rfl,if_pos rfl,if_pos rfl,decide_eq_true rfl,bind_some,cond_true,Qw3 _ _ hl,bind_some,decide_eq_true rfl]
theorem Qlq (p:Xk)(hw:∀ c∈p.Choices,c.Witness.length<1000000)(hl:p.Choices.length<1000000):∀ (k i f:Nat),p.Choices.length-i=k→i≤p.Choices.length→k<f→Qs (Uq p p) f (i:Int)=some true
 | k,i,0,_,_,hf=>by omega
 | k,i,f+1,hk,hi,hf=>by
  rw[Jm]
  unfold Uq
  by_cases h:i<p.Choices.length
  · rw[if_pos (by omega),Yu h,bind_some,bind_some,Qvk _ (hw _ (List.getElem_mem h)),bind_some]
    unfold Qcm
    rw[Bool.not_true,cond_false,Qde (by omega)]
    exact Qlq p hw hl (k-1) (i+1) f (by omega) (by omega) (by omega)
  · rw[if_neg (by omega)]
theorem Qvj (p:Xk)(hw:∀ c∈p.Choices,c.Witness.length<1000000)(hl:p.Choices.length<1000000):Bh p p=some true:=by
 unfold Bh Oj
 rw[if_neg (by simp),decide_eq_false (by simp),cond_false]
 exact Qlq p hw hl _ 0 Qy rfl (by omega) (Ye (by omega))
end Go.Sx.Pn

end
section
set_option linter.unusedVariables false
set_option linter.unusedSimpArgs false
set_option maxRecDepth 100000
namespace Go.Sx
open Go
theorem Ux {d:Nat}{l:List Int}(h6:d≤6)(h:Yf d l=true)(hl:l.length<4611686018427387904){v:Nat}(hv:1≤v):Tv (d:Int) l (v:Int)=some (Za d (Qx l) v):=by
 have h64:=Yh h6
 unfold Tv
 have:=Qel l (Bf (d:Int) l (v:Int)) (fun j (_:Unit)=>(j:Int)) (fun u nx s=>bif Ks (2^d+u.toNat) v then some true else nx s) (fun _=>some false)
  (fun rec j hj _=>by
   obtain⟨u,hu,hu2⟩:=Qf1 h (List.getElem_mem hj)
   simp only[Bf]
   have e:Qb (((2^d:Nat):Int)+(u:Int))=((2^d+u:Nat):Int):=by
    generalize 2^d=q at *
    rw[Jc (by omega) (by omega)];omega
   have hp:=Nat.two_pow_pos d
   rw[if_pos (by omega),Yu hj,bind_some,Nj h6,bind_some,hu,e,Qkz (by omega) hv (by omega),bind_some,Fc (by omega),Int.toNat_natCast])
  (fun rec _=>by simp only[Bf];rw[if_neg (by omega)]) (f:=Qy) (Ye (by omega)) ()
 rw[show((0:Nat):Int)=0 from rfl] at this
 rw[this,Qjs (fun u:Int=>Ks (2^d+u.toNat) v) (fun _ _=>some true) _ _ _ _ (fun a _ nx s=>rfl)]
 unfold Za Qx
 rw[List.any_map]
 cases hf:l.find? (fun u:Int=>Ks (2^d+u.toNat) v) with
 | none=>
  rw[List.find?_eq_none] at hf
  have:l.any ((fun u=>Ks (2^d+u) v) ∘ Int.toNat)=false:=by
   rw[Bool.eq_false_iff]
   intro hc
   obtain⟨u,hu,hb⟩:=List.any_eq_true.1 hc
   exact hf u hu hb
  rw[this]
 | some u=>
  have:l.any ((fun u=>Ks (2^d+u) v) ∘ Int.toNat)=true:=List.any_eq_true.2 ⟨u,List.mem_of_find?_eq_some hf,List.find?_some hf⟩
  rw[this]
theorem Qlk {d:Nat}{l:List Int}(h6:d≤6)(h:Yf d l=true)(hl:l.length<4611686018427387904):∀ (f fuel v:Nat),1≤v→Nat.log2 v≤d→d-Nat.log2 v<f→f≤fuel→Qs (Uh (d:Int) l) fuel (v:Int)=some (Jj d (Qx l) f v:Int)
 | 0,fuel,v,_,_,hf,_=>by omega
 | f+1,0,v,_,_,_,hf=>by omega
 | f+1,fuel+1,v,hv,hlv,hf,hff=>by
  have hr:=Sk h6 h
  have h64:=Yh h6
  have hv128:v<128:=by
   have:=(Nat.log2_lt (n:=v) (k:=d+1) (by omega)).1 (by omega)
   rw[Nat.pow_succ] at this;omega
  rw[Jm];simp only[Uh,Od]
  have e0:Qb (2*(v:Int))=((2*v:Nat):Int):=by rw[Jc (by omega) (by omega)];omega
  have e1:Qb (((2*v:Nat):Int)+1)=((2*v+1:Nat):Int):=by rw[Jc (by omega) (by omega)];omega
  rw[Nj h6,bind_some,e0,e1,Ux h6 h hl (by omega),Ux h6 h hl (by omega),bind_some,bind_some]
  have hbr:(Za d (Qx l) (2*v) != Za d (Qx l) (2*v+1))=Hs d (Qx l) v:=rfl
  rw[hbr]
  cases hb:Hs d (Qx l) v with
  | false=>
   have hfv:Jj d (Qx l) (f+1) v=v:=by
    show(if Hs d (Qx l) v=true then Jj d (Qx l) f (Yb d (Qx l) v) else v)=_
    rw[hb];rfl
   rw[hfv];simp
  | true=>
   have hfv:Jj d (Qx l) (f+1) v=Jj d (Qx l) f (Yb d (Qx l) v):=by
    show(if Hs d (Qx l) v=true then Jj d (Qx l) f (Yb d (Qx l) v) else v)=_
    rw[hb];rfl
   obtain⟨hl2,_⟩:=Qdn hr hv hb
   have hv64:=(Qkc (d:=d) hv).2 hl2
   rw[hfv,if_pos (by omega),cond_true,bind_some]
   have hn:1≤Yb d (Qx l) v∧Nat.log2 (Yb d (Qx l) v)=Nat.log2 v+1:=by
    unfold Yb;split
    · exact⟨by omega,Sd hv (b:=0) (by omega)⟩
    · exact⟨by omega,Sd hv (b:=1) (by omega)⟩
   rw[←Qlk h6 h hl f fuel _ hn.1 (by omega) (by omega) (by omega)]
   unfold Yb
   cases Za d (Qx l) (2*v) with
   | true=>rfl
   | false=>rfl
theorem Qv3 {d:Nat}{l:List Int}(h6:d≤6)(h:Yf d l=true)(hl:l.length<4611686018427387904){v:Nat}(hv:1≤v)(hlv:Nat.log2 v≤d):Oc (d:Int) l (v:Int)=some (Jj d (Qx l) 7 v:Int):=
 Qlk h6 h hl 7 Qy v hv hlv (by omega) (by unfold Qy;omega)
def Db (A:List (Nat × Nat))(y:Nat × Nat):List (Nat × Nat):=A.takeWhile (fun a=>decide (a.1<y.1))++y::A.dropWhile (fun a=>decide (a.1<y.1))
theorem Qjr (A:List (Nat × Nat))(y:Nat × Nat)(hA:A.length≤1000):∀ (C B:List (Nat × Nat)) (f:Nat),A=B++C→C.length<f→
 Qs (Bg (A.map Zg) (Zg y)) f (B.length:Int)=some ((B++(C.takeWhile (fun a=>decide (a.1<y.1))++y::C.dropWhile (fun a=>decide (a.1<y.1)))).map Zg)
 | C,B,0,_,h=>by omega
 | [],B,f+1,hs,_=>by
  rw[Jm];simp only[Bg,Uj]
  have hlen:(A.map Zg).length=B.length:=by rw[hs];simp
  have hb:B.length≤1000:=by rw[List.length_map] at hlen;omega
  rw[if_neg (by omega),cond_false]
  have e1:Wg (A.map Zg) 0 (B.length:Int)=some (B.map Zg):=by
   unfold Wg;rw[if_pos ⟨by omega,by omega,by omega⟩,hs,Int.toNat_natCast,List.append_nil,List.take_of_length_le (by simp)];simp
  have e2:Wg (A.map Zg) (B.length:Int) (((A.map Zg).length:Nat):Int)=some []:=by
   unfold Wg;rw[if_pos ⟨by omega,by omega,by omega⟩,hlen,hs];simp
  rw[e1,bind_some,Hj (by simp;omega),bind_some,Hj (by simp;omega),bind_some,e2,bind_some,Hj (by simp;omega),bind_some]
  simp
 | c::C,B,f+1,hs,hf=>by
  rw[Jm];simp only[Bg,Uj]
  have hlen:(A.map Zg).length=B.length+(C.length+1):=by rw[hs];simp
  have hb:B.length+(C.length+1)≤1000:=by rw[List.length_map] at hlen;omega
  have hg:Xd (A.map Zg) (B.length:Int)=some (Zg c):=by
   rw[Yu (by omega)];simp[hs]
  rw[if_pos (by omega),hg,bind_some]
  by_cases Xy:c.1<y.1
  · rw[decide_eq_true (show(Zg c).Node<(Zg y).Node by unfold Zg;simp only;omega),cond_true,Fc (by omega)]
    have:=Qjr A y hA C (B++[c]) f (by rw[hs];simp) (by simp at hf;omega)
    rw[show((B++[c]).length:Int)=((B.length+1:Nat):Int) from by simp] at this
    rw[this,List.takeWhile_cons,List.dropWhile_cons,decide_eq_true Xy]
    simp
  · rw[decide_eq_false (show ¬ (Zg c).Node<(Zg y).Node by unfold Zg;simp only;omega),cond_false]
    have e1:Wg (A.map Zg) 0 (B.length:Int)=some (B.map Zg):=by
     unfold Wg;rw[if_pos ⟨by omega,by omega,by omega⟩,hs];simp
    have e2:Wg (A.map Zg) (B.length:Int) (((A.map Zg).length:Nat):Int)=some ((c::C).map Zg):=by
     unfold Wg;rw[if_pos ⟨by omega,by omega,by omega⟩,Int.toNat_natCast,Int.toNat_natCast,List.take_of_length_le (Nat.le_refl _),hs];simp
    rw[e1,bind_some,Hj (by simp;omega),bind_some,Hj (by simp;omega),bind_some,e2,bind_some,Hj (by simp;omega),bind_some,List.takeWhile_cons,List.dropWhile_cons,decide_eq_false Xy]
    simp
theorem Qet (A:List (Nat × Nat))(y:Nat × Nat)(hA:A.length≤1000):Nn (A.map Zg) (Zg y)=some ((Db A y).map Zg):=by
 have:=Qjr A y hA A [] Qy rfl (Ye (by omega))
 rw[List.nil_append] at this
 exact this
theorem Al {A:List (Nat × Nat)}{y z:Nat × Nat}:z∈Db A y↔z∈A∨z=y:=by
 unfold Db
 conv=>rhs;rw[←List.takeWhile_append_dropWhile (p:=fun a:Nat × Nat=>decide (a.1<y.1)) (l:=A)]
 simp only[List.mem_append,List.mem_cons]
 constructor
 · rintro(h|h|h)
   · exact .inl (.inl h)
   · exact .inr h
   · exact .inl (.inr h)
 · rintro((h|h)|h)
   · exact .inl h
   · exact .inr (.inr h)
   · exact .inr (.inl h)
theorem Qax:∀ {A:List (Nat × Nat)} {y:Nat × Nat},Pj A→(∀ a∈A,a.1≠y.1)→Pj (Db A y)
 | [],y,_,_=>by unfold Db Pj;simp
 | a::A,y,h,hn=>by
  have ha:=List.pairwise_cons.1 h
  have hne:=hn a (by simp)
  unfold Db
  rw[List.takeWhile_cons,List.dropWhile_cons]
  by_cases Xy:a.1<y.1
  · rw[decide_eq_true Xy]
    simp only[if_true,List.cons_append]
    refine List.pairwise_cons.2 ⟨fun z hz=>?_,Qax ha.2 (fun b hb=>hn b (by simp[hb]))⟩
    rcases(Al (A:=A) (y:=y)).1 hz with h1|h1
    · exact ha.1 z h1
    · rw[h1];exact Xy
  · rw[decide_eq_false Xy]
    simp only[Bool.false_eq_true,if_false,List.nil_append]
    refine List.pairwise_cons.2 ⟨fun z hz=>?_,h⟩
    rcases List.mem_cons.1 hz with rfl|hz
    · omega
    · have:=ha.1 z hz;omega
theorem Qrf {A:List (Nat × Nat)}{y:Nat × Nat}:(Db A y).length=A.length+1:=by
 unfold Db
 rw[List.length_append,List.length_cons,Nat.add_succ,←List.length_append,List.takeWhile_append_dropWhile]
section
variable {s:Qo} {d:Nat} {l:List Int}
theorem Qu8 (hv:Vl s=true)(hd:s.Depth=(d:Int))(h6:d≤6)(h:Yf d l=true)(hl:l.length<4611686018427387904)(hk:s.Kind≠1#8)(hne:l≠[]){v:Nat}(v1:1≤v)(v2:v<2^(d+1))(rec:List Qm × Int→Option (List Qm)):
 Dh s l rec (((Zl s.Kind d (Qx l)).filter fun y=>decide (Je d (Qx l) 7 y.1<v)).map Zg,(v:Int))=rec (((Zl s.Kind d (Qx l)).filter fun y=>decide (Je d (Qx l) 7 y.1<v+1)).map Zg,((v+1:Nat):Int)):=by
 have hr:=Sk h6 h
 have h64:=Yh h6
 have hpow:2^(d+1)=2*2^d:=by rw[Nat.pow_succ,Nat.mul_comm]
 have hne':Qx l≠[]:=by unfold Qx;simpa using hne
 have hlv:=Qf2 v1 v2
 obtain⟨A,hA⟩:∃ A,A=(Zl s.Kind d (Qx l)).filter fun y=>decide (Je d (Qx l) 7 y.1<v):=⟨_,rfl⟩
 have hAl:A.length≤127:=by rw[hA];exact Nat.le_trans (List.length_filter_le _ _) (Qa7 h6)
 have hAa:Pj A:=by rw[hA];exact List.Pairwise.filter _ Fp
 rw[←hA]
 have hmem:∀ y,y∈A↔y∈Zl s.Kind d (Qx l)∧Je d (Qx l) 7 y.1<v:=fun y=>by rw[hA,List.mem_filter,decide_eq_true_eq]
 have hnew:∀ B:List (Nat × Nat),Pj B→(∀ y,y∈B↔y∈A∨(y∈Zl s.Kind d (Qx l)∧Je d (Qx l) 7 y.1=v))→B=(Zl s.Kind d (Qx l)).filter fun y=>decide (Je d (Qx l) 7 y.1<v+1):=by
  intro B hB hm
  refine Er hB (List.Pairwise.filter _ Fp) fun y=>?_
  rw[hm,hmem,List.mem_filter,decide_eq_true_eq]
  constructor
  · rintro(⟨a,b⟩|⟨a,b⟩)
    · exact⟨a,by omega⟩
    · exact⟨a,by omega⟩
  · rintro⟨a,b⟩
    by_cases e:Je d (Qx l) 7 y.1=v
    · exact .inr ⟨a,e⟩
    · exact .inl ⟨a,by omega⟩
 have own:∀ y,Yv s.Kind d (Qx l) y=Je d (Qx l) 7 y.1:=fun y=>by unfold Yv;rw[if_neg hk]
 have hout:Za d (Qx l) v=true→∀ y,(y∈Zl s.Kind d (Qx l)∧Je d (Qx l) 7 y.1=v)↔y∈Hf s.Kind d (Qx l) v:=fun hh y=>by rw[←own];exact Qhi hr hne' hh y
 have none:(∀ y,¬ (y∈Zl s.Kind d (Qx l)∧Je d (Qx l) 7 y.1=v))→A=(Zl s.Kind d (Qx l)).filter fun y=>decide (Je d (Qx l) 7 y.1<v+1):=fun hn=>hnew A hAa fun y=>⟨.inl,fun hh=>hh.elim id fun hh=>absurd hh (hn y)⟩
 simp only[Dh,Ua]
 rw[hd,Nj h6,bind_some,show Qb (2*((2^d:Nat):Int))=((2*2^d:Nat):Int) from by rw[Jc (by omega) (by omega)];omega,if_pos (by omega),Ux h6 h hl v1,bind_some,if_neg hk,Fc (by omega)]
 have skip:(∀ y,¬ (y∈Zl s.Kind d (Qx l)∧Je d (Qx l) 7 y.1=v))→rec (A.map Zg,((v+1:Nat):Int))=rec (((Zl s.Kind d (Qx l)).filter fun y=>decide (Je d (Qx l) 7 y.1<v+1)).map Zg,((v+1:Nat):Int)):=fun hn=>by rw[←none hn]
 cases hh:Za d (Qx l) v with
 | false=>
  simp only[Bool.not_false,cond_true]
  refine skip fun y hy=>?_
  have:=Qf7 hr hne' hy.1
  rw[own,hy.2,hh] at this;cases this
 | true=>
  simp only[Bool.not_true,cond_false]
  have hv128:v<128:=by omega
  have go:Wj d (Qx l) v=true→(Option.bind (Oc (d:Int) l (v:Int)) fun x15=>if x15=(v:Int) then rec (A.map Zg,((v+1:Nat):Int)) else Option.bind (Sm s (Qm.mk (v:Int) x15)) fun x16=>bif x16 then Option.bind (Nn (A.map Zg) (Qm.mk (v:Int) x15)) fun x17=>rec (x17,((v+1:Nat):Int)) else Option.bind (Sn (d:Int) (v:Int) x15) fun x18=>Option.bind (Nn (A.map Zg) (Qm.mk (v:Int) x18)) fun x19=>Option.bind (Nn x19 (Qm.mk x18 x15)) fun x20=>rec (x20,((v+1:Nat):Int)))
   = rec (((Zl s.Kind d (Qx l)).filter fun y=>decide (Je d (Qx l) 7 y.1<v+1)).map Zg,((v+1:Nat):Int)):=by
   intro hhd
   have hout':=hout hh
   unfold Hf at hout'
   rw[if_neg hk,if_pos hhd] at hout'
   obtain⟨w1,w2,w3,K,w4,w5,w6⟩:=Aj hr 7 v v1 hlv (by omega)
   rw[Qv3 h6 h hl v1 hlv,bind_some]
   generalize Jj d (Qx l) 7 v=w at *
   by_cases hw:w=v
   · rw[if_pos (by omega)]
     rw[if_pos hw] at hout'
     exact skip fun y hy=>by have:=(hout' y).1 hy;cases this
   · rw[if_neg (by omega)]
     rw[if_neg hw] at hout'
     have hlw:=Dv w K w4
     rw[←w5] at hlw
     have hK:1≤K:=by
      rcases Nat.eq_zero_or_pos K with h0|h0
      · subst h0;simp at w5;exact absurd w5.symm hw
      · exact h0
     have hw2:w<2^(d+1):=(Nat.log2_lt (by omega)).1 (by omega)
     have hbw:Ks w v=true:=(Td w1).2 ⟨K,w4,w5⟩
     have hsub:Sm s ⟨(v:Int),(w:Int)⟩=some (Tb s.Kind d v w):=by
      rw[Qrg hv hd h6 v w]
      unfold Qgg
      rw[if_neg hk,if_neg (by omega),decide_eq_true ⟨v1,v2⟩,decide_eq_true ⟨hw2,hw⟩,hbw];simp
     rw[hsub,bind_some]
     have apart:∀ y:Nat × Nat,(y∈Zl s.Kind d (Qx l)∧Je d (Qx l) 7 y.1=v)→∀ a∈A,a.1≠y.1:=fun y hy a ha he=>by
      have h1:=((hmem a).1 ha).2
      rw[he,hy.2] at h1;omega
     cases hsn:Tb s.Kind d v w with
     | true=>
      rw[hsn,if_pos rfl] at hout'
      rw[cond_true]
      have hi:=Qet A (v,w) (by omega)
      rw[show Zg (v,w)=(⟨(v:Int),(w:Int)⟩:Qm) from rfl] at hi
      rw[hi,bind_some]
      rw[hnew (Db A (v,w)) (Qax hAa (apart (v,w) ((hout' (v,w)).2 (by simp)))) fun y=>by rw[Al,hout'];simp]
     | false=>
      rw[hsn,if_neg (by simp)] at hout'
      rw[cond_false]
      have hw128:w<128:=by omega
      have hbt:Sn (d:Int) (v:Int) (w:Int)=some ((Kf d v w:Nat):Int):=by
       obtain⟨K',rfl⟩:∃ K',K=K'+1:=⟨K-1,by omega⟩
       have:=Qh1 (d:=d) (m:=w) (k:=K') h6 hw128 w4 (by omega)
       rw[←w5] at this
       rw[this]
       unfold Kf
       rw[show Nat.log2 w-Nat.log2 v-1=K' from by omega]
      have hi:=Qet A (v,Kf d v w) (by omega)
      rw[show Zg (v,Kf d v w)=(⟨(v:Int),((Kf d v w:Nat):Int)⟩:Qm) from rfl] at hi
      have hi2:=Qet (Db A (v,Kf d v w)) (Kf d v w,w) (by rw[Qrf];omega)
      rw[show Zg (Kf d v w,w)=(⟨((Kf d v w:Nat):Int),(w:Int)⟩:Qm) from rfl] at hi2
      rw[hbt,bind_some,hi,bind_some,hi2,bind_some]
      have m1:=(hout' (v,Kf d v w)).2 (by simp)
      have m2:=(hout' (Kf d v w,w)).2 (by simp)
      obtain⟨j,j1,j2,j3⟩:=Qdx (k:=s.Kind) (d:=d) (.inr trivial) w4 w5 v1 hsn
      have hcv:Kf d v w≠v:=by rw[j3,w5];exact Qe0 w4 j2
      rw[hnew (Db (Db A (v,Kf d v w)) (Kf d v w,w)) (Qax (Qax hAa (apart _ m1)) fun a ha=>by
       rcases Al.1 ha with ha|rfl
       · exact apart _ m2 a ha
       · exact fun e=>hcv e.symm) fun y=>by rw[Al,Al,hout',or_assoc];simp]
  by_cases hv1:v=1
  · rw[if_neg (by omega)]
    exact go (by unfold Wj;simp[hv1])
  · rw[if_pos (by omega),Qh3 hv128,Ux h6 h hl (by have:=Qgc hv128 (by omega);omega),bind_some]
    cases hs:Za d (Qx l) (v ^^^ 1) with
    | true=>
     simp only[Bool.not_true,cond_false]
     exact go (by unfold Wj;simp[hs])
    | false=>
     simp only[Bool.not_false,cond_true]
     refine skip fun y hy=>?_
     have h1:=(hout hh y).1 hy
     unfold Hf at h1
     rw[if_neg hk,if_neg (by unfold Wj;simp[hs,hv1])] at h1
     cases h1
theorem Qu9 (hd:s.Depth=(d:Int))(h6:d≤6)(h:Yf d l=true)(hl:l.length<4611686018427387904)(hk:s.Kind=1#8){v:Nat}(v1:1≤v)(v2:v<2^(d+1))(rec:List Qm × Int→Option (List Qm)):
 Dh s l rec (((Zl s.Kind d (Qx l)).filter fun y=>decide (y.1<v)).map Zg,(v:Int))=rec (((Zl s.Kind d (Qx l)).filter fun y=>decide (y.1<v+1)).map Zg,((v+1:Nat):Int)):=by
 have h64:=Yh h6
 have hpow:2^(d+1)=2*2^d:=by rw[Nat.pow_succ,Nat.mul_comm]
 have hlen:((Zl s.Kind d (Qx l)).filter fun y=>decide (y.1<v)).length≤127:=Nat.le_trans (List.length_filter_le _ _) (Qa7 h6)
 simp only[Dh]
 rw[hd,Nj h6,bind_some,show Qb (2*((2^d:Nat):Int))=((2*2^d:Nat):Int) from by rw[Jc (by omega) (by omega)];omega,if_pos (by omega),Ux h6 h hl v1,bind_some,if_pos hk]
 have hmin:Tt s.Kind d (Qx l) v=if(!Za d (Qx l) v&&(decide (v=1)||Za d (Qx l) (v / 2)))=true then some 0 else none:=by unfold Tt;rw[if_pos hk]
 have add:Tt s.Kind d (Qx l) v=some 0→Nk (((Zl s.Kind d (Qx l)).filter fun y=>decide (y.1<v)).map Zg) (v:Int) rec true=rec (((Zl s.Kind d (Qx l)).filter fun y=>decide (y.1<v+1)).map Zg,((v+1:Nat):Int)):=fun hm=>by
  unfold Nk
  rw[cond_true,Hj (by simp;omega),bind_some,Fc (by omega)]
  have:((Zl s.Kind d (Qx l)).filter fun y=>decide (y.1<v))++[(v,0)]=(Zl s.Kind d (Qx l)).filter fun y=>decide (y.1<v+1):=by
   refine Er ?_ (List.Pairwise.filter _ Fp) fun y=>?_
   · unfold Pj
     rw[List.pairwise_append]
     refine⟨List.Pairwise.filter _ Fp,by simp,fun a ha b hb=>?_⟩
     simp only[List.mem_singleton] at hb
     subst hb
     have:=(List.mem_filter.1 ha).2
     simpa using this
   · simp only[List.mem_append,List.mem_filter,List.mem_singleton,decide_eq_true_eq]
     constructor
     · rintro(⟨a,b⟩|rfl)
       · exact⟨a,by omega⟩
       · exact⟨Gl.2 ⟨⟨v1,v2⟩,hm⟩,by simp⟩
     · rintro⟨a,b⟩
       by_cases e:y.1=v
       · right
         have:=(Gl.1 a).2
         rw[e,hm] at this
         cases y;simp only at *;rw[e,←Option.some.inj this]
       · exact .inl ⟨a,by omega⟩
  rw[←this,List.map_append];rfl
 have no:Tt s.Kind d (Qx l) v=none→Nk (((Zl s.Kind d (Qx l)).filter fun y=>decide (y.1<v)).map Zg) (v:Int) rec false=rec (((Zl s.Kind d (Qx l)).filter fun y=>decide (y.1<v+1)).map Zg,((v+1:Nat):Int)):=fun hm=>by
  unfold Nk
  rw[cond_false,Fc (by omega)]
  have:((Zl s.Kind d (Qx l)).filter fun y=>decide (y.1<v))=(Zl s.Kind d (Qx l)).filter fun y=>decide (y.1<v+1):=by
   apply List.filter_congr
   intro y hy
   apply decide_eq_decide.2
   have hne:y.1≠v:=fun e=>by have:=(Gl.1 hy).2;rw[e,hm] at this;cases this
   omega
  rw[this]
 cases hh:Za d (Qx l) v with
 | true=>
  simp only[Bool.not_true,cond_false]
  exact no (by rw[hmin,hh];simp)
 | false=>
  simp only[Bool.not_false,cond_true]
  by_cases hv1:v=1
  · rw[if_pos (by omega)]
    exact add (by rw[hmin,hh];simp[hv1])
  · rw[if_neg (by omega),Qce v (by omega),bind_some,Ux h6 h hl (by omega),bind_some]
    cases hp:Za d (Qx l) (v / 2) with
    | true=>exact add (by rw[hmin,hh,hp];simp)
    | false=>exact no (by rw[hmin,hh,hp];simp[hv1])
end
def stA (k:BitVec 8)(d:Nat)(R:List Nat)(v:Nat):List Qm × Int:=(((Zl k d R).filter fun y=>decide (y.1<v)).map Zg,(v:Int))
def stB (k:BitVec 8)(d:Nat)(R:List Nat)(v:Nat):List Qm × Int:=(((Zl k d R).filter fun y=>decide (Je d R 7 y.1<v)).map Zg,(v:Int))
theorem Qem {σ R:Type}(F:(σ→Option R)→σ→Option R)(n:Nat)(st:Nat→σ)(r:Option R)(hs:∀ rec j,1≤j→j<n→F rec (st j)=rec (st (j+1)))(he:∀ rec,F rec (st n)=r):∀ (m j f:Nat),1≤j→j+m=n→m<f→Qs F f (st j)=r
 | m,j,0,_,_,h=>by omega
 | 0,j,f+1,_,hj,_=>by
  have:j=n:=by omega
  subst this;rw[Jm,he]
 | m+1,j,f+1,h1,hj,hf=>by
  rw[Jm,hs _ j h1 (by omega)]
  exact Qem F n st r hs he m (j+1) f (by omega) (by omega) (by omega)
theorem Qua (s:Qo)(l:List Int)(hl:l.length*8≤140737488355328):Iw s l=some (Ld s l):=by
 unfold Iw Ld
 rw[Qgl,bind_some]
 cases hv:Vl s with
 | false=>rfl
 | true=>
  obtain⟨d,hd,h6⟩:=Qgm hv
  have h64:=Yh h6
  have hpow:2^(d+1)=2*2^d:=by rw[Nat.pow_succ,Nat.mul_comm]
  have hp:=Nat.two_pow_pos d
  simp only[Bool.not_true,cond_false,if_true]
  rw[hd,Int.toNat_natCast,Qv7 h6 l (by omega),bind_some]
  cases hb:Yf d l with
  | false=>rfl
  | true=>
   simp only[Bool.not_true,cond_false,if_true]
   unfold Qcf Iy
   have hl2:l.length<4611686018427387904:=by omega
   obtain⟨M,hM⟩:∃ M,M=2^(d+1):=⟨_,rfl⟩
   have hsum:1+(M-1)=M:=by omega
   have hfu:M-1<Qy:=Ye (by omega)
   have hend:∀ rec (A:List Qm),Dh s l rec (A,(M:Int))=some A:=fun rec A=>by
    simp only[Dh]
    rw[hd,Nj h6,bind_some,show Qb (2*((2^d:Nat):Int))=((2*2^d:Nat):Int) from by rw[Jc (by omega) (by omega)];omega,if_neg (by rw[hM,hpow];omega)]
   by_cases hk:s.Kind=1#8
   · rw[if_neg (by simp[hk]),cond_false]
     have:=Qem (Dh s l) M (stA s.Kind d (Qx l)) (some (stA s.Kind d (Qx l) M).1) (fun rec j j1 j2=>Qu9 hd h6 hb hl2 hk j1 (hM ▸ j2) rec) (fun rec=>hend rec _) (M-1) 1 Qy (Nat.le_refl _) hsum hfu
     rw[stA,stA,hM] at this
     have e1:((Zl s.Kind d (Qx l)).filter fun y=>decide (y.1<1))=[]:=by
      rw[List.filter_eq_nil_iff];intro y hy;have:=(Gl.1 hy).1;simp;omega
     have e2:((Zl s.Kind d (Qx l)).filter fun y=>decide (y.1<2^(d+1)))=Zl s.Kind d (Qx l):=by
      rw[List.filter_eq_self];intro y hy;have:=(Gl.1 hy).1;simpa using this.2
     rw[e1,e2] at this
     rw[show((1:Nat):Int)=1 from rfl] at this
     simp only[List.map_nil] at this
     rw[this,bind_some]
     by_cases hne:l=[]
     · rw[if_pos hne]
       have e3:Zl s.Kind d (Qx l)=[(1,0)]:=by
        subst hne
        refine Er Fp (by unfold Pj;simp) fun y=>?_
        rw[Gl]
        have hno:∀ x,Za d (Qx []) x=false:=fun x=>rfl
        unfold Tt
        rw[if_pos hk,hno,hno]
        simp only[Bool.not_false,Bool.true_and,Bool.or_false,List.mem_singleton,decide_eq_true_eq]
        constructor
        · rintro⟨_,hm⟩
          split at hm
          · rename_i e;cases y;simp only at *;rw[e,←Option.some.inj hm]
          · cases hm
        · rintro rfl;exact⟨⟨by omega,by rw[hpow];show 1<2*2^d;omega⟩,by simp⟩
       rw[e3];rfl
     · rw[if_neg hne]
   · rw[if_pos (by simpa using hk)]
     by_cases hne:l=[]
     · rw[decide_eq_true (by simp[hne]),cond_true,if_pos hne,bind_some]
     · rw[decide_eq_false (by intro h0;apply hne;exact List.eq_nil_of_length_eq_zero (by omega)),cond_false,if_neg hne]
       have:=Qem (Dh s l) M (stB s.Kind d (Qx l)) (some (stB s.Kind d (Qx l) M).1) (fun rec j j1 j2=>Qu8 hv hd h6 hb hl2 hk hne j1 (hM ▸ j2) rec) (fun rec=>hend rec _) (M-1) 1 Qy (Nat.le_refl _) hsum hfu
       rw[stB,stB,hM] at this
       have hr:=Sk h6 hb
       have hne':Qx l≠[]:=by unfold Qx;simpa using hne
       have hbd:∀ y∈Zl s.Kind d (Qx l),1≤Je d (Qx l) 7 y.1∧Je d (Qx l) 7 y.1<2^(d+1):=fun y hy=>by
        have h1:=Qf7 hr hne' hy
        unfold Yv at h1
        rw[if_neg hk] at h1
        obtain⟨a,_,b⟩:=Lx hr h1
        exact⟨a,b⟩
       have e1:((Zl s.Kind d (Qx l)).filter fun y=>decide (Je d (Qx l) 7 y.1<1))=[]:=by
        rw[List.filter_eq_nil_iff];intro y hy;have:=hbd y hy;simp;omega
       have e2:((Zl s.Kind d (Qx l)).filter fun y=>decide (Je d (Qx l) 7 y.1<2^(d+1)))=Zl s.Kind d (Qx l):=by
        rw[List.filter_eq_self];intro y hy;simpa using(hbd y hy).2
       rw[e1,e2] at this
       rw[show((1:Nat):Int)=1 from rfl] at this
       simp only[List.map_nil] at this
       rw[this,bind_some]
end Go.Sx

end
section
set_option linter.unusedVariables false
set_option linter.unusedSimpArgs false
namespace Go.Sx.Pn
open Go Go.Sx Go.Sx.Po
theorem Qw7 (a b:Qq):Bi a b=some (decide (De a b)):=by
 unfold Bi
 by_cases h1:a.Kind=b.Kind
 · rw[if_pos h1]
   by_cases h2:a.Fits=b.Fits
   · have e2:(a.Fits == b.Fits)=true:=by simpa using h2
     rw[e2,cond_true]
     by_cases h3:a.Items=b.Items
     · by_cases h4:a.Points=b.Points
       · by_cases h5:a.Header=b.Header
         · by_cases h6:a.Storage=b.Storage
           · rw[if_pos h3,if_pos h4,if_pos h5,if_pos h6]
             congr 1
             exact decide_eq_decide.2 ⟨fun h=>⟨h1,h2,h3,h4,h5,h6,h⟩,fun h=>h.2.2.2.2.2.2⟩
           · rw[if_pos h3,if_pos h4,if_pos h5,if_neg h6,decide_eq_false (p:=De a b) fun h=>h6 h.2.2.2.2.2.1]
         · rw[if_pos h3,if_pos h4,if_neg h5,decide_eq_false (p:=De a b) fun h=>h5 h.2.2.2.2.1]
       · rw[if_pos h3,if_neg h4,decide_eq_false (p:=De a b) fun h=>h4 h.2.2.2.1]
     · rw[if_neg h3,decide_eq_false (p:=De a b) fun h=>h3 h.2.2.1]
   · have:(a.Fits == b.Fits)=false:=by simpa using h2
     rw[this,cond_false,decide_eq_false (p:=De a b) fun h=>h2 h.2.1]
 · rw[if_neg h1,decide_eq_false (p:=De a b) fun h=>h1 h.1]
theorem Qvs (n:Xg)(c:Qq)(hl:c.Witness.length*8≤140737488355328):Ou n c=some (Bs n c):=by
 unfold Ou Bs
 by_cases h4:c.Kind=4#8
 · rw[if_pos h4,if_pos h4]
   refine congrArg some ?_
   by_cases h:c.Witness=[]
   · rw[h];simp
   · have:c.Witness.length≠0:=fun hc=>h (List.length_eq_zero_iff.1 hc)
     rw[decide_eq_false h,decide_eq_false (by omega)]
 · rw[if_neg h4,if_neg h4]
   unfold Ur
   rw[if_neg h4,bind_some,Qua _ _ hl,bind_some]
   generalize Ld ⟨c.Kind,n.Depth,0,⟨0#64,0#64,0#64⟩⟩ c.Witness=q
   by_cases h1:q.2=0
   · rw[if_pos h1]
     by_cases h2:(c.Witness.length:Int)≤n.Revoked
     · rw[if_pos h2];simp[h1,h2]
     · rw[if_neg h2];simp[h2]
   · rw[if_neg h1];simp[h1]
theorem Ql2 (n:Xg)(p q:Xk)(hw:∀ c∈p.Choices,c.Witness.length*8≤140737488355328)(hp:p.Choices.length<1000000)(hlen:p.Choices.length=q.Choices.length):
 ∀ (k i f:Nat),q.Choices.length-i=k→i≤q.Choices.length→k<f→Qs (Uk n p q) f (i:Int)=some (if((p.Choices.drop i).zip (q.Choices.drop i)).all (fun x=>Gg n x.1 x.2)=true then 0 else 100)
 | k,i,0,_,_,hf=>by omega
 | k,i,f+1,hk,hi,hf=>by
  rw[Jm]
  unfold Uk Og
  by_cases h:i<q.Choices.length
  · have h2:i<p.Choices.length:=by omega
    rw[if_pos (by omega),Yu h2,bind_some,Yu h,bind_some,Qw7,bind_some,List.drop_eq_getElem_cons h2,List.drop_eq_getElem_cons h,List.zip_cons_cons,List.all_cons]
    have hA:Gg n p.Choices[i] q.Choices[i]=(decide (De p.Choices[i] q.Choices[i])&&Bs n p.Choices[i]):=rfl
    rw[hA]
    cases hn:decide (De p.Choices[i] q.Choices[i]) with
    | false=>rw[Bool.not_false,cond_true,cond_true,Bool.false_and,Bool.false_and,if_neg (by simp)]
    | true=>
     rw[Bool.not_true,cond_false,bind_some,Qvs _ _ (hw _ (List.getElem_mem h2)),bind_some,Bool.true_and]
     cases hb:Bs n p.Choices[i] with
     | false=>rw[Bool.not_false,cond_true,Bool.false_and,if_neg (by simp)]
     | true=>rw[Bool.not_true,cond_false,Bool.true_and,Qde (by omega)];exact Ql2 n p q hw hp hlen (k-1) (i+1) f (by omega) (by omega) (by omega)
  · obtain rfl:i=q.Choices.length:=by omega
    rw[if_neg (by omega),←hlen,List.drop_length,List.zip_nil_left];rfl
theorem Qu6 {n:Xg}(h:Yc n=true)(p:Xk)(hw:∀ c∈p.Choices,c.Witness.length*8≤140737488355328)(hp:p.Choices.length<1000000):Sr n p=some (if p.Best=(Fl n).1∧Cy n p.Choices (Gj n)=true then 0 else 100):=by
 unfold Sr Oe
 rw[Qln,bind_some,h,Bool.not_true,cond_false,Qv8 h,bind_some]
 show(if(p.Choices.length:Int)≠((Gj n).length:Int) then _ else _)=_
 unfold Cy
 by_cases hl:p.Choices.length=(Gj n).length
 · rw[if_neg (by omega),decide_eq_true hl,Bool.true_and]
   show(bif decide (p.Best≠(Fl n).1) then _ else _)=_
   by_cases hb:p.Best=(Fl n).1
   · rw[decide_eq_false (by simp[hb]),cond_false]
     have e:=Ql2 n p (plP n) hw hp hl _ 0 Qy rfl (by omega) (Ye (by rw[show(plP n).Choices.length=4 from rfl];omega))
     refine Eq.trans e (congrArg some ?_)
     rw[List.drop_zero,List.drop_zero]
     show(if(p.Choices.zip (Gj n)).all (fun x=>Gg n x.1 x.2)=true then(0:Int) else 100)=_
     by_cases ha:(p.Choices.zip (Gj n)).all (fun x=>Gg n x.1 x.2)=true
     · rw[if_pos ha,if_pos ⟨hb,ha⟩]
     · rw[if_neg ha,if_neg (fun x=>ha x.2)]
   · rw[decide_eq_true hb,cond_true,if_neg (fun x=>hb x.1)]
 · rw[if_pos (by omega),cond_true,decide_eq_false hl,Bool.false_and,if_neg (by simp)]
theorem Qu7 {n:Xg}(h:Yc n=false)(p:Xk):Sr n p=some 2:=by
 unfold Sr
 rw[Qln,bind_some,h];rfl
theorem Qhg (n:Xg)(p:Xk)(hp:p.Choices.length≤10):∀ (k i f:Nat),p.Choices.length-i=k→i≤p.Choices.length→k<f→(∀ c∈p.Choices.take i,c.Witness.length≤100)→Qs (Rk n p) f ((i:Int),p.Choices.take i)=some true
 | k,i,0,_,_,hf,_=>by omega
 | k,i,f+1,hk,hi,hf,hw=>by
  rw[Jm]
  generalize hrec:Qs (Rk n p) f=rec1
  unfold Rk
  simp only
  by_cases h:i<p.Choices.length
  · rw[if_pos (by omega),Yu h,bind_some]
    by_cases hx:100<(p.Choices[i].Witness.length:Int)
    · rw[if_pos hx]
    · rw[if_neg hx,bind_some,Hj (by simp;omega),bind_some,Hj (by simp;omega),bind_some,List.nil_append,Qde (by omega),←hrec,show p.Choices.take i++[p.Choices[i]]=p.Choices.take (i+1) from by simp]
      refine Qhg n p hp (k-1) (i+1) f (by omega) (by omega) (by omega) fun c hc=>?_
      rw[List.take_succ_eq_append_getElem h] at hc
      rcases List.mem_append.1 hc with hc|hc
      · exact hw c hc
      · rw[List.mem_singleton.1 hc];omega
  · obtain rfl:i=p.Choices.length:=by omega
    rw[List.take_length] at hw ⊢
    rw[if_neg (by omega)]
    show Option.bind (Se n p) (fun x11=>Option.bind (Sr n p) fun x12=>if x11=x12 then Option.bind (Bh p p) fun x13=>some x13 else some false)=_
    have h1:∀ c∈p.Choices,c.Witness.length*8≤140737488355328:=fun c hc=>by have:=hw c hc;omega
    have h2:Bh p p=some true:=Qvj p (fun c hc=>by have:=hw c hc;omega) (by omega)
    cases hv:Yc n with
    | false=>rw[Qtd hv,Qu7 hv,bind_some,bind_some,if_pos rfl,h2,bind_some]
    | true=>rw[Qtc hv p h1 (by omega),Qu6 hv p h1 (by omega),bind_some,bind_some,if_pos rfl,h2,bind_some]
end Go.Sx.Pn
namespace Go.Sx
open Go Go.Sx.Pn
theorem Qrk (n:Xg)(p:Xk)(hn:n.ok)(hp:p.ok):Qb0 n p=some true:=by
 unfold Qb0
 by_cases h:(10:Int)<(p.Choices.length:Int)
 · rw[if_pos h]
 · rw[if_neg h]
   exact Qhg n p (by omega) _ 0 Qy rfl (by omega) (Ye (by omega)) (fun c hc=>by simp at hc)
end Go.Sx

end
