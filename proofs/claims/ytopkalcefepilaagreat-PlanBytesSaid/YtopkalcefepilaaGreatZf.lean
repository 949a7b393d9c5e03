/- Several texts in one: Cv Fd Kn Cp Alv Cx Mm Kv Fk Sv Fq Ls Pse Byp Pop Poq Pos Ip Iq Ir Iv Alp Oa Og Oh De Oi Ko5 Pka Pkb Mc Hq. -/
import Derived.Test.YtopkalcefepilaaGreatZe
import Derived.KernelRfl
import Derived.Test.YtopkalcefepilaaGreatZd
set_option linter.unusedVariables false
set_option linter.unusedSimpArgs false
section
set_option linter.unusedVariables false
set_option linter.unusedSimpArgs false
set_option maxRecDepth 100000
namespace Go.Sx
open Go
def Xv (d:Nat)(R:List Nat)(v:Nat):Bool:=R.any fun u=>Zm (2^d+u) v
theorem Fh {d:Nat}{R:List Nat}{v:Nat}:Xv d R v=true↔∃ u∈R,Zm (2^d+u) v=true:=by unfold Xv;rw[List.any_eq_true]
theorem Qp9:∀ n:Fin 64,(2*n.1) ^^^ 1=2*n.1+1∧(2*n.1+1) ^^^ 1=2*n.1:=by decide +kernel
theorem Sn {n:Nat}(h:n<64):(2*n) ^^^ 1=2*n+1:=(Qp9 ⟨n,h⟩).1
theorem Sp {n:Nat}(h:n<64):(2*n+1) ^^^ 1=2*n:=(Qp9 ⟨n,h⟩).2
theorem Sr (a b:Nat):a / 2^(b+1)=a / 2^b / 2:=by rw[Nat.pow_succ,Nat.div_div_eq_div_mul]
theorem Qef {L v:Nat}(hL:1≤L)(Jc:Nat.log2 v<Nat.log2 L)(hv:1≤v):Zm L v=(Zm L (2*v)||Zm L (2*v+1)):=by
 rw[Bool.eq_iff_iff,Bool.or_eq_true,Ys hL,Ys hL,Ys hL]
 constructor
 · rintro⟨k,h1,h2⟩
   have hl:=Dj L k h1
   rw[←h2] at hl
   obtain⟨j,rfl⟩:∃ j,k=j+1:=⟨k-1,by omega⟩
   have h3:2^j≤L:=Nat.le_trans (Nat.pow_le_pow_right (by omega) (by omega)) h1
   rw[Sr] at h2
   rcases(show L / 2^j=2*v∨L / 2^j=2*v+1 by omega) with e|e
   · exact .inl ⟨j,h3,e.symm⟩
   · exact .inr ⟨j,h3,e.symm⟩
 · rintro(⟨j,h1,h2⟩|⟨j,h1,h2⟩)
   · exact⟨j+1,Qhn (j:=1) (by rw[←h2];omega),by rw[Sr,←h2];omega⟩
   · exact⟨j+1,Qhn (j:=1) (by rw[←h2];omega),by rw[Sr,←h2];omega⟩
theorem Tn {v b:Nat}(hv:1≤v)(hb:b<2):Nat.log2 (2*v+b)=Nat.log2 v+1:=by
 rw[Nr (by omega),show(2*v+b) / 2=v from by omega]
section
variable {d:Nat} {R:List Nat}
def Kw (d:Nat)(R:List Nat):Prop:=d≤6∧∀ u∈R,u<2^d
theorem Kw.leaf (h:Kw d R){u:Nat}(hu:u∈R):1≤2^d+u∧2^d+u<128∧Nat.log2 (2^d+u)=d:=by
 have:=Ve h.1
 have:=h.2 u hu
 have:=Nat.two_pow_pos d
 exact⟨by omega,by omega,Qry (h.2 u hu)⟩
theorem Ql4 {v:Nat}(hv:1≤v):v<2^d↔Nat.log2 v<d:=by rw[Nat.log2_lt (by omega)]
theorem Qd0 (h:Kw d R){v:Nat}(hv:1≤v)(hl:Nat.log2 v<d):Xv d R v=(Xv d R (2*v)||Xv d R (2*v+1)):=by
 rw[Bool.eq_iff_iff,Bool.or_eq_true,Fh,Fh,Fh]
 constructor
 · rintro⟨u,hu,hb⟩
   obtain⟨h1,h2,h3⟩:=h.leaf hu
   rw[Qef h1 (by omega) hv,Bool.or_eq_true] at hb
   rcases hb with hb|hb
   · exact .inl ⟨u,hu,hb⟩
   · exact .inr ⟨u,hu,hb⟩
 · rintro(⟨u,hu,hb⟩|⟨u,hu,hb⟩) <;>
   · obtain⟨h1,h2,h3⟩:=h.leaf hu
     refine⟨u,hu,?_⟩
     rw[Qef h1 (by omega) hv,hb];simp
theorem Np (h:Kw d R){v:Nat}(hv:Xv d R v=true):1≤v∧Nat.log2 v≤d∧v<2^(d+1):=by
 obtain⟨u,hu,hb⟩:=Fh.1 hv
 obtain⟨h1,h2,h3⟩:=h.leaf hu
 have hp:=Qo4 h1 hb
 have hl:=Qwa h1 hb
 rw[h3] at hl
 exact⟨hp,hl,(Nat.log2_lt (by omega)).1 (by omega)⟩
theorem Qfx (h:Kw d R){v:Nat}(hv:Xv d R v=true)(h2:2≤v):Xv d R (v / 2)=true:=by
 obtain⟨h1,hl,_⟩:=Np h hv
 have hh:=Nr h2
 rw[Qd0 h (by omega) (by omega)]
 rcases(show 2*(v / 2)=v∨2*(v / 2)+1=v by omega) with e|e
 · rw[e,hv];simp
 · rw[e,hv];simp
theorem Qfy (h:Kw d R){v:Nat}(hv:Xv d R v=true):∀ k,2^k≤v→Xv d R (v / 2^k)=true
 | 0,_=>by simpa using hv
 | k+1,hk=>by
  rw[Sr]
  have h1:2^k≤v:=Nat.le_trans (Nat.pow_le_pow_right (by omega) (by omega)) hk
  refine Qfx h (Qfy h hv k h1) ?_
  have:=Ab (i:=k) (j:=1) hk
  simpa using this
def Da (d:Nat)(R:List Nat)(v:Nat):Bool:=Xv d R (2*v) != Xv d R (2*v+1)
def Pk (d:Nat)(R:List Nat)(v:Nat):Nat:=if Xv d R (2*v) then 2*v else 2*v+1
def Zy (d:Nat)(R:List Nat):Nat→Nat→Nat
 | 0,v=>v
 | f+1,v=>if Da d R v then Zy d R f (Pk d R v) else v
theorem Qj6 (h:Kw d R){v:Nat}(hv:1≤v)(hb:Da d R v=true):Nat.log2 v<d∧Xv d R v=true:=by
 unfold Da at hb
 have hx:Xv d R (2*v)=true∨Xv d R (2*v+1)=true:=by
  cases h1:Xv d R (2*v)<;>cases h2:Xv d R (2*v+1)<;>simp_all
 have hl:Nat.log2 v<d:=by
  rcases hx with hx|hx
  · have:=(Np h hx).2.1;have:=Tn hv (b:=0) (by omega);simp at this;omega
  · have:=(Np h hx).2.1;have:=Tn hv (b:=1) (by omega);omega
 refine⟨hl,?_⟩
 rw[Qd0 h hv hl]
 rcases hx with hx|hx<;>simp[hx]
def Chn (d:Nat)(R:List Nat)(v w:Nat):Prop:=∃ k,2^k≤w∧v=w / 2^k∧∀ j,j<k→Xv d R (w / 2^j)=true∧Xv d R ((w / 2^j) ^^^ 1)=false
theorem Qak (h:Kw d R):∀ (f v:Nat),1≤v→Nat.log2 v≤d→d-Nat.log2 v<f→1≤Zy d R f v∧Nat.log2 (Zy d R f v)≤d∧Da d R (Zy d R f v)=false∧Chn d R v (Zy d R f v)
 | 0,v,_,_,hf=>by omega
 | f+1,v,hv,hl,hf=>by
  unfold Zy
  cases hb:Da d R v with
  | false=>exact⟨by simpa using hv,by simpa using hl,by simpa using hb,⟨0,by simpa using hv,by simp,fun j hj=>by omega⟩⟩
  | true=>
   rw[if_pos rfl]
   obtain⟨hl2,_⟩:=Qj6 h hv hb
   have h64:=Ve h.1
   have hv64:v<64:=by have:=(Ql4 (d:=d) hv).2 hl2;omega
   have hc:(Pk d R v) / 2=v∧2≤Pk d R v∧Nat.log2 (Pk d R v)=Nat.log2 v+1∧Xv d R (Pk d R v)=true∧Xv d R (Pk d R v ^^^ 1)=false:=by
    unfold Pk
    unfold Da at hb
    cases h1:Xv d R (2*v) with
    | true=>
     rw[h1] at hb
     rw[if_pos rfl]
     refine⟨by omega,by omega,Tn hv (b:=0) (by omega),h1,?_⟩
     rw[Sn hv64];simpa using hb
    | false=>
     rw[h1] at hb
     rw[if_neg (by simp)]
     refine⟨by omega,by omega,Tn hv (b:=1) (by omega),by simpa using hb,?_⟩
     rw[Sp hv64];exact h1
   obtain⟨c1,c2,c3,c4,c5⟩:=hc
   obtain⟨g1,g2,g3,k,g4,g5,g6⟩:=Qak h f (Pk d R v) (by omega) (by omega) (by omega)
   refine⟨g1,g2,g3,k+1,?_,?_,?_⟩
   · exact Qhn (j:=1) (by rw[←g5];omega)
   · rw[Sr,←g5];exact c1.symm
   · intro j hj
     rcases Nat.lt_or_ge j k with hjk|hjk
     · exact g6 j hjk
     · obtain rfl:j=k:=by omega
       rw[←g5];exact⟨c4,c5⟩
def Zn (d:Nat)(R:List Nat):Nat→Nat→Nat
 | 0,x=>x
 | f+1,x=>if x=1∨Xv d R (x ^^^ 1)=true then x else Zn d R f (x / 2)
def Wh (d:Nat)(R:List Nat)(v:Nat):Bool:=decide (v=1)||Xv d R (v ^^^ 1)
theorem Qrf {f x:Nat}(h:Wh d R x=true):Zn d R f x=x:=by
 cases f with
 | zero=>rfl
 | succ f=>
  unfold Zn
  unfold Wh at h
  rw[Bool.or_eq_true,decide_eq_true_eq] at h
  rw[if_pos h]
theorem Qkk {v w:Nat}(hv:Wh d R v=true)(hv1:1≤v):∀ (j k f:Nat),2^(j+k)≤w→v=w / 2^(j+k)→(∀ i,j≤i→i<j+k→Xv d R ((w / 2^i) ^^^ 1)=false)→k≤f→Zn d R f (w / 2^j)=v
 | j,0,f,h1,h2,_,_=>by rw[Nat.add_zero] at h2;rw[←h2];exact Qrf hv
 | j,k+1,0,h1,h2,h3,hf=>by omega
 | j,k+1,f+1,h1,h2,h3,hf=>by
  unfold Zn
  have h4:=h3 j (by omega) (by omega)
  have h5:w / 2^j≠1:=by
   have:=Ab (w:=w) (i:=j) (j:=1) (Nat.le_trans (Nat.pow_le_pow_right (by omega) (by omega)) h1)
   simp at this;omega
  rw[if_neg (by rw[h4];simp[h5]),←Sr]
  exact Qkk hv hv1 (j+1) k f (by rw[show j+1+k=j+(k+1) from by omega];exact h1) (by rw[show j+1+k=j+(k+1) from by omega];exact h2) (fun i h6 h7=>h3 i (by omega) (by omega)) (by omega)
theorem Qcz:∀ (f x:Nat),1≤x→Nat.log2 x<f→Wh d R (Zn d R f x)=true∧∃ i,2^i≤x∧Zn d R f x=x / 2^i∧∀ t,t<i→Wh d R (x / 2^t)=false
 | 0,x,_,h=>by omega
 | f+1,x,hx,hf=>by
  unfold Zn
  by_cases hc:x=1∨Xv d R (x ^^^ 1)=true
  · rw[if_pos hc];exact⟨by unfold Wh;simpa using hc,0,by simpa using hx,by simp,fun t ht=>by omega⟩
  · rw[if_neg hc]
    have hx2:2≤x:=by rw[not_or] at hc;omega
    have hh:=Nr hx2
    obtain⟨h1,i,h2,h3,h4⟩:=Qcz f (x / 2) (by omega) (by omega)
    refine⟨h1,i+1,?_,?_,?_⟩
    · rw[Nat.pow_succ];omega
    · rw[h3,Nat.div_div_eq_div_mul,Nat.pow_succ,Nat.mul_comm 2]
    · intro t ht
      cases t with
      | zero=>simp only[Nat.pow_zero,Nat.div_one];unfold Wh;simpa[not_or] using hc
      | succ t=>
       have:=h4 t (by omega)
       rw[Nat.div_div_eq_div_mul,show 2*2^t=2^(t+1) from by rw[Nat.pow_succ,Nat.mul_comm]] at this;exact this
def Vw (d v w:Nat):Nat:=Hm d (Jt (w / 2) (Nat.log2 w-Nat.log2 v-1))
def Qat (k:BitVec 8)(d:Nat)(R:List Nat)(x:Nat):Option Nat:=
 if k=1#8 then(if !Xv d R x&&(decide (x=1)||Xv d R (x / 2)) then some 0 else none)
 else if Xv d R x then
  (if Zy d R 7 (Zn d R 7 x)=Zn d R 7 x then none
  else if x=Zn d R 7 x then some (if Wj k d (Zn d R 7 x) (Zy d R 7 (Zn d R 7 x)) then Zy d R 7 (Zn d R 7 x) else Vw d (Zn d R 7 x) (Zy d R 7 (Zn d R 7 x)))
  else if !Wj k d (Zn d R 7 x) (Zy d R 7 (Zn d R 7 x))&&decide (x=Vw d (Zn d R 7 x) (Zy d R 7 (Zn d R 7 x))) then some (Zy d R 7 (Zn d R 7 x)) else none)
 else none
def Qau (d:Nat):List Nat:=(List.range (2^(d+1)-1)).map (· + 1)
def Vj (k:BitVec 8)(d:Nat)(R:List Nat):List (Nat × Nat):=(Qau d).filterMap fun x=>(Qat k d R x).map fun m=>(x,m)
theorem Qsc {x:Nat}:x∈Qau d↔1≤x∧x<2^(d+1):=by
 unfold Qau
 rw[List.mem_map]
 constructor
 · rintro⟨a,ha,rfl⟩;have:=List.mem_range.1 ha;omega
 · rintro⟨h1,h2⟩;exact⟨x-1,List.mem_range.2 (by omega),by omega⟩
theorem Ob {k:BitVec 8}{y:Nat × Nat}:y∈Vj k d R↔(1≤y.1∧y.1<2^(d+1))∧Qat k d R y.1=some y.2:=by
 unfold Vj
 rw[List.mem_filterMap]
 constructor
 · rintro⟨x,hx,he⟩
   obtain⟨m,hm,rfl⟩:=Option.map_eq_some_iff.1 he
   exact⟨Qsc.1 hx,hm⟩
 · rintro⟨h1,h2⟩;exact⟨y.1,Qsc.2 h1,by rw[h2];rfl⟩
def Ro (l:List (Nat × Nat)):Prop:=l.Pairwise fun a b=>a.1<b.1
theorem Qeo {k:BitVec 8}:Ro (Vj k d R):=by
 unfold Ro Vj
 rw[List.pairwise_filterMap]
 have:(Qau d).Pairwise fun a b=>a<b:=by
  unfold Qau
  rw[List.pairwise_map]
  exact List.pairwise_lt_range.imp (by omega)
 refine this.imp ?_
 intro a b hab y hy z hz
 obtain⟨_,_,rfl⟩:=Option.map_eq_some_iff.1 hy
 obtain⟨_,_,rfl⟩:=Option.map_eq_some_iff.1 hz
 exact hab
theorem Qny:∀ {l m:List (Nat × Nat)},Ro l→Ro m→(∀ y,y∈l↔y∈m)→l=m
 | [],[],_,_,_=>rfl
 | [],b::m,_,_,h=>absurd ((h b).2 (by simp)) (by simp)
 | a::l,[],_,_,h=>absurd ((h a).1 (by simp)) (by simp)
 | a::l,b::m,hl,hm,h=>by
  have ha:=List.pairwise_cons.1 hl
  have hb:=List.pairwise_cons.1 hm
  have hab:a=b:=by
   rcases List.mem_cons.1 ((h a).1 (by simp)) with e|e
   · exact e
   · rcases List.mem_cons.1 ((h b).2 (by simp)) with e2|e2
     · exact e2.symm
     · have:=ha.1 b e2;have:=hb.1 a e;omega
  subst hab
  congr 1
  refine Qny ha.2 hb.2 fun y=>?_
  constructor
  · intro hy
    rcases List.mem_cons.1 ((h y).1 (by simp[hy])) with e|e
    · subst e;have:=ha.1 y hy;omega
    · exact e
  · intro hy
    rcases List.mem_cons.1 ((h y).2 (by simp[hy])) with e|e
    · subst e;have:=hb.1 y hy;omega
    · exact e
def Wi (k:BitVec 8)(d:Nat)(R:List Nat)(v:Nat):List (Nat × Nat):=
 if k=1#8 then(if v≠1∧Xv d R (v ^^^ 1)=false then[(v ^^^ 1,0)] else[])
 else if Wh d R v then(if Zy d R 7 v=v then[] else if Wj k d v (Zy d R 7 v) then[(v,Zy d R 7 v)] else[(v,Vw d v (Zy d R 7 v)),(Vw d v (Zy d R 7 v),Zy d R 7 v)])
 else[]
def Yg (k:BitVec 8)(d:Nat)(R:List Nat)(y:Nat × Nat):Nat:=if k=1#8 then y.1 ^^^ 1 else Zn d R 7 y.1
theorem Qjj {k:BitVec 8}{v w:Nat}(hK:2^k.toNat≤w∨True){K:Nat}(h1:2^K≤w)(h2:v=w / 2^K)(hv:1≤v)(hs:Wj k d v w=false):∃ j,1≤j∧j<K∧Vw d v w=w / 2^j:=by
 have hl:=Dj w K h1
 rw[←h2] at hl
 unfold Wj at hs
 simp only[Bool.or_eq_false_iff,decide_eq_false_iff_not] at hs
 have h0:Vw d v w≠0:=hs.2
 unfold Vw at h0 ⊢
 unfold Hm at h0 ⊢
 cases hf:(Jt (w / 2) (Nat.log2 w-Nat.log2 v-1)).find? (Kr d) with
 | none=>rw[hf] at h0;simp at h0
 | some c=>
  obtain⟨j,hj,rfl⟩:=Qb1.1 (List.mem_of_find?_eq_some hf)
  refine⟨j+1,by omega,by omega,?_⟩
  rw[Option.getD_some,Nat.div_div_eq_div_mul,show 2*2^j=2^(j+1) from by rw[Nat.pow_succ,Nat.mul_comm]]
theorem Qep (h:Kw d R){k:BitVec 8}(hne:R≠[]){v:Nat}(hv:Xv d R v=true)(y:Nat × Nat):(y∈Vj k d R∧Yg k d R y=v)↔y∈Wi k d R v:=by
 have h64:=Ve h.1
 have hpow:2^(d+1)=2*2^d:=by rw[Nat.pow_succ,Nat.mul_comm]
 obtain⟨v1,vl,v2⟩:=Np h hv
 rw[Ob]
 by_cases hk:k=1#8
 · unfold Qat Yg Wi
   rw[if_pos hk,if_pos hk,if_pos hk]
   have hroot:Xv d R 1=true:=by
    obtain⟨u,hu⟩:=List.exists_mem_of_ne_nil R hne
    obtain⟨l1,l2,l3⟩:=h.leaf hu
    exact Fh.2 ⟨u,hu,(Ys l1).2 ⟨d,by omega,by rw[Nat.add_div_left _ (Nat.two_pow_pos d),Nat.div_eq_of_lt (h.2 u hu)]⟩⟩
   constructor
   · rintro⟨⟨⟨y1,y2⟩,hm⟩,rfl⟩
     split at hm
     · rename_i hc
       simp only[Bool.and_eq_true,Bool.not_eq_true',Bool.or_eq_true,decide_eq_true_eq] at hc
       have hy0:y.2=0:=(Option.some.inj hm).symm
       have hyn:y.1≠1:=fun e=>by rw[e] at hc;rw[hroot] at hc;simp at hc
       have hss:=Qu1 (n:=y.1) (by omega)
       rw[hss]
       have hs1:y.1 ^^^ 1≠1:=by have:=Qi5 (n:=y.1) (by omega) (by omega);omega
       rw[if_pos ⟨hs1,hc.1⟩]
       simp only[List.mem_singleton]
       cases y;simp only at *;rw[hy0]
     · cases hm
   · intro hy
     split at hy
     · rename_i hc
       simp only[List.mem_singleton] at hy
       subst hy
       simp only
       have hv2:2≤v:=by omega
       have e1:=Qu0 (n:=v) (by omega)
       have e2:=Qi5 (n:=v) (by omega) hv2
       have e3:=Qtz (n:=v) (by omega) hv2
       refine⟨⟨⟨by omega,?_⟩,?_⟩,Qu1 (by omega)⟩
       · exact(Nat.log2_lt (by omega)).1 (by omega)
       · rw[if_pos]
         simp only[Bool.and_eq_true,Bool.not_eq_true',Bool.or_eq_true,decide_eq_true_eq]
         refine⟨hc.2,.inr ?_⟩
         rw[Qn4 (by omega)];exact Qfx h hv hv2
     · cases hy
 · unfold Qat Yg Wi
   rw[if_neg hk,if_neg hk,if_neg hk]
   constructor
   · rintro⟨⟨⟨y1,y2⟩,hm⟩,rfl⟩
     have hl7:Nat.log2 y.1<7:=by have:=(Nat.log2_lt (n:=y.1) (k:=d+1) (by omega)).2 y2;have:=h.1;omega
     rw[if_pos (Qcz 7 y.1 y1 hl7).1]
     generalize Zn d R 7 y.1=v at *
     generalize Zy d R 7 v=w at *
     split at hm
     · split at hm
       · cases hm
       · rename_i h1 h2
         rw[if_neg h2]
         split at hm
         · rename_i h3
           have hm':=Option.some.inj hm
           split
           · rename_i h4
             rw[if_pos h4] at hm'
             simp only[List.mem_singleton];cases y;simp only at *;rw[h3,hm']
           · rename_i h4
             rw[if_neg h4] at hm'
             simp only[List.mem_cons,List.not_mem_nil,or_false];left;cases y;simp only at *;rw[h3,hm']
         · split at hm
           · rename_i h3 h4
             simp only[Bool.and_eq_true,Bool.not_eq_true',decide_eq_true_eq] at h4
             rw[if_neg (by rw[h4.1];simp)]
             simp only[List.mem_cons,List.not_mem_nil,or_false];right
             have hm':=Option.some.inj hm
             cases y;simp only at *;rw[←h4.2,hm']
           · cases hm
     · cases hm
   · intro hy
     split at hy
     · rename_i hh
       obtain⟨w1,w2,w3,K,w4,w5,w6⟩:=Qak h 7 v v1 vl (by have:=h.1;omega)
       generalize hw:Zy d R 7 v=w at *
       have hs:Zn d R 7 v=v:=Qrf hh
       split at hy
       · cases hy
       · rename_i hne2
         split at hy
         · rename_i h4
           simp only[List.mem_singleton] at hy
           subst hy
           simp only[hs,hw,hv,if_true,if_neg hne2,h4]
           exact⟨⟨⟨v1,v2⟩,trivial⟩,trivial⟩
         · rename_i h4
           have h4':Wj k d v w=false:=by simpa using h4
           simp only[List.mem_cons,List.not_mem_nil,or_false] at hy
           rcases hy with rfl|rfl
           · simp only[hs,hw,hv,if_true,if_neg hne2,h4',Bool.false_eq_true,if_false]
             exact⟨⟨⟨v1,v2⟩,trivial⟩,trivial⟩
           · obtain⟨j,j1,j2,j3⟩:=Qjj (k:=k) (d:=d) (.inr trivial) w4 w5 v1 h4'
             have hlw:=Dj w K w4
             have hKd:K≤6:=by have:=h.1;omega
             have hc:Zn d R 7 (Vw d v w)=v:=by
              rw[j3]
              exact Qkk hh v1 j (K-j) 7 (by rw[show j+(K-j)=K from by omega];exact w4) (by rw[show j+(K-j)=K from by omega];exact w5) (fun i _ hi=>(w6 i (by omega)).2) (by omega)
             have hj2:2^j≤w:=Nat.le_trans (Nat.pow_le_pow_right (by omega) (by omega)) w4
             have hch:Xv d R (Vw d v w)=true:=by rw[j3];exact(w6 j j2).1
             have hcv:Vw d v w≠v:=by
              rw[j3,w5];exact Qf1 w4 j2
             obtain⟨c1,_,c3⟩:=Np h hch
             simp only[hc,hw,hch,if_true,if_neg hne2,if_neg hcv,h4']
             simp only[Bool.not_false,Bool.true_and,decide_true,if_true]
             exact⟨⟨⟨c1,c3⟩,trivial⟩,trivial⟩
     · cases hy
theorem Qgm (h:Kw d R){k:BitVec 8}(hne:R≠[]){y:Nat × Nat}(hy:y∈Vj k d R):Xv d R (Yg k d R y)=true:=by
 have h64:=Ve h.1
 have hpow:2^(d+1)=2*2^d:=by rw[Nat.pow_succ,Nat.mul_comm]
 obtain⟨⟨y1,y2⟩,hm⟩:=Ob.1 hy
 unfold Qat at hm
 unfold Yg
 by_cases hk:k=1#8
 · rw[if_pos hk] at hm ⊢
   split at hm
   · rename_i hc
     simp only[Bool.and_eq_true,Bool.not_eq_true',Bool.or_eq_true,decide_eq_true_eq] at hc
     have hroot:Xv d R 1=true:=by
      obtain⟨u,hu⟩:=List.exists_mem_of_ne_nil R hne
      obtain⟨l1,l2,l3⟩:=h.leaf hu
      exact Fh.2 ⟨u,hu,(Ys l1).2 ⟨d,by omega,by rw[Nat.add_div_left _ (Nat.two_pow_pos d),Nat.div_eq_of_lt (h.2 u hu)]⟩⟩
     have hyn:y.1≠1:=fun e=>by rw[e] at hc;rw[hroot] at hc;simp at hc
     have hp:Xv d R (y.1 / 2)=true:=by
      rcases hc.2 with e|e
      · exact absurd e hyn
      · exact e
     have hlg:=Nr (n:=y.1) (by omega)
     have hyl:Nat.log2 y.1≤d:=Qaw y1 y2
     rw[Qd0 h (by omega) (by omega),Bool.or_eq_true] at hp
     have hz:y.1 / 2<64:=by omega
     rcases(show y.1=2*(y.1 / 2)∨y.1=2*(y.1 / 2)+1 by omega) with e|e
     · have h2:Xv d R (2*(y.1 / 2))=false:=by rw[←e];exact hc.1
       have:y.1 ^^^ 1=2*(y.1 / 2)+1:=by rw[←Sn hz,←e]
       rw[this];rw[h2] at hp;simpa using hp
     · have h2:Xv d R (2*(y.1 / 2)+1)=false:=by rw[←e];exact hc.1
       have:y.1 ^^^ 1=2*(y.1 / 2):=by rw[←Sp hz,←e]
       rw[this];rw[h2] at hp;simpa using hp
   · cases hm
 · rw[if_neg hk] at hm ⊢
   split at hm
   · rename_i hx
     have hl7:Nat.log2 y.1<7:=by have:=Qaw y1 y2;have:=h.1;omega
     obtain⟨_,i,i1,i2,_⟩:=Qcz (d:=d) (R:=R) 7 y.1 y1 hl7
     rw[i2];exact Qfy h hx i i1
   · cases hm
end
end Go.Sx

end
section
set_option linter.unusedVariables false
set_option linter.unusedSimpArgs false
namespace Go.Sx
open Go
theorem Qrk {s:Qj}{d:Nat}(hv:Ju s=true)(hd:s.Depth=(d:Int))(h6:d≤6)(n m:Nat):Nx s ⟨(n:Int),(m:Int)⟩=some (Pp s.Kind d n m):=by
 have h64:=Ve h6
 have hpow:2^(d+1)=2*2^d:=by rw[Nat.pow_succ,Nat.mul_comm]
 have hh:∀ a:Nat,Tl d (a:Int)=decide (1≤a∧a<2^(d+1)):=fun a=>by
  unfold Tl;apply decide_eq_decide.2;rw[hpow];omega
 unfold Nx Pp
 rw[hd,Qav h6,bind_some,hh]
 by_cases hn:1≤n∧n<2^(d+1)
 · rw[decide_eq_true hn]
   simp only[Bool.not_true,cond_false,Bool.true_and]
   by_cases hk:s.Kind=1#8
   · rw[if_pos hk,if_pos hk];congr 1;apply decide_eq_decide.2;omega
   · rw[if_neg hk,if_neg hk]
     by_cases hm:m=0
     · rw[if_pos (by omega),if_pos hm];congr 1;apply decide_eq_decide.2;omega
     · rw[if_neg (by omega),if_neg hm,Qav h6,bind_some,hh]
       by_cases hm2:m<2^(d+1)
       · rw[decide_eq_true (by omega)]
         simp only[Bool.not_true,cond_false]
         by_cases he:m=n
         · rw[if_pos (by omega),decide_eq_false (by omega)];rfl
         · rw[if_neg (by omega),Qt7 (by omega) (by omega) (by omega),bind_some,decide_eq_true (by omega),Bool.true_and]
           unfold Af Wj
           cases hb:Zm m n with
           | false=>rfl
           | true=>
            simp only[Bool.not_true,cond_false,Bool.true_and]
            by_cases hk2:s.Kind=2#8
            · rw[if_pos hk2,decide_eq_true hk2];rfl
            · rw[if_neg hk2,decide_eq_false hk2,Bool.false_or,hd,Qmz h6 (by omega),bind_some]
              cases Kr d n with
              | true=>rfl
              | false=>
               rw[cond_false,Bool.false_or]
               obtain⟨k,hk0,hk1,hk3⟩:=Qc4 (by omega) hn.1 hb he
               have hkl:=Qd3 hk3 (by omega)
               have:=Qo6 (d:=d) (m:=m) (k:=k) h6 (by omega) hk3 (by omega)
               rw[←hk1] at this
               rw[this,bind_some,show Nat.log2 m-Nat.log2 n-1=k from by omega]
               congr 1;apply decide_eq_decide.2;omega
       · rw[decide_eq_false (p:=1≤m∧_) (by omega),decide_eq_false (p:=m<_∧_) (by omega)];rfl
 · rw[decide_eq_false hn];rfl
theorem Xg5 {k:BitVec 8}{d n m:Nat}(h6:d≤6)(h:Pp k d n m=true):1≤n∧n<128∧m<128∧(k=1#8∨m=0∨(Zm m n=true∧m≠n)):=by
 have h64:=Ve h6
 have hpow:2^(d+1)=2*2^d:=by rw[Nat.pow_succ,Nat.mul_comm]
 unfold Pp at h
 simp only[Bool.and_eq_true,decide_eq_true_eq] at h
 obtain⟨⟨h1,h2⟩,h⟩:=h
 by_cases hk:k=1#8
 · rw[if_pos hk,decide_eq_true_eq] at h;exact⟨h1,by omega,by omega,.inl hk⟩
 · rw[if_neg hk] at h
   by_cases hm:m=0
   · exact⟨h1,by omega,by omega,.inr (.inl hm)⟩
   · rw[if_neg hm] at h
     simp only[Bool.and_eq_true,decide_eq_true_eq] at h
     exact⟨h1,by omega,by omega,.inr (.inr ⟨h.1.2,h.1.1.2⟩)⟩
theorem Xg6 {s:Qj}{d:Nat}(hv:Ju s=true)(hd:s.Depth=(d:Int))(h6:d≤6)(x:Qx):
 (Dw s [x]=some (Xj.mk 0#8 0 0,31)∧Nx s x=some false∧Lj (Jq s) x=some false)∨
 (Dw s [x]=some (Jq s,0)∧Nx s x=some true∧Lj (Jq s) x=some true∧Mh s x∧∃ n m:Nat,x=⟨(n:Int),(m:Int)⟩∧Qbw s x n m∧Pp s.Kind d n m=true):=by
 obtain⟨b,e1,e2,e3,e4⟩:=Qzp s hv x
 cases b with
 | false=>exact .inl ⟨e1,e2,e3⟩
 | true=>
  obtain⟨h1,n,m,h2⟩:=e4 rfl
  have hx:x=⟨(n:Int),(m:Int)⟩:=by cases x;simp only[Qbw] at h2;rw[h2.1,h2.2.1]
  refine .inr ⟨e1,e2,e3,h1,n,m,hx,h2,?_⟩
  have:=Qrk hv hd h6 n m
  rw[←hx,e2] at this
  exact(Option.some.inj this).symm
end Go.Sx

end
section
set_option linter.unusedVariables false
set_option linter.unusedSimpArgs false
namespace Go.Sx
open Go
section
variable {s:Qj} {d u n m:Nat}
end
def Ks (d:Nat)(l:List Int):Bool:=(List.range l.length).all fun j=>decide (0≤l.getD j 0∧l.getD j 0<((2^d:Nat):Int))&&(decide (j=0)||decide (l.getD (j-1) 0<l.getD j 0))
theorem getD_some {l:List Int}{j:Nat}(h:j<l.length):l.getD j 0=l[j]:=by simp[List.getD,h]
theorem Qc0 {σ:Type}(p:Nat→Bool):∀ (l:List Nat) (F:Nat→(σ→Option Bool)→σ→Option Bool) (s:σ),(∀ a∈l,∀ nx s,F a nx s=bif p a then nx s else some false)→Js F (fun _=>some true) l s=some (l.all p)
 | [],F,s,_=>rfl
 | a::l,F,s,h=>by
  rw[Fi,h a (by simp),List.all_cons]
  cases p a with
  | false=>rfl
  | true=>rw[cond_true,Bool.true_and];exact Qc0 p l F s (fun b hb=>h b (by simp[hb]))
theorem Xc2 {kd:BitVec 8}{d:Nat}{st:Int}(h6:d≤6)(l:List Int)(hl:l.length<4611686018427387904):Oy ⟨kd,(d:Int),st⟩ l=some (Ks d l):=by
 unfold Oy Ks
 have:=Qr6 l.length (Ue ⟨kd,(d:Int),st⟩ l) (fun j (_:Unit)=>(j:Int)) (fun j nx s=>bif decide (0≤l.getD j 0∧l.getD j 0<((2^d:Nat):Int))&&(decide (j=0)||decide (l.getD (j-1) 0<l.getD j 0)) then nx s else some false) (fun _=>some true)
  (fun rec j hj _=>by
   simp only[Ue,Oz]
   rw[if_pos (by omega),Wg hj,bind_some,Qt9 h6,bind_some,getD_some hj,Hz (by omega)]
   by_cases h:0≤l[j]∧l[j]<((2^d:Nat):Int)
   · rw[decide_eq_true h]
     simp only[Bool.not_true,cond_false,Bool.true_and]
     by_cases h0:j=0
     · rw[if_neg (by omega),decide_eq_true h0];rfl
     · have hj1:j-1<l.length:=by omega
       rw[if_pos (by omega),Jw (by omega) (by omega),show(j:Int)-1=((j-1:Nat):Int) from by omega,Wg hj1,bind_some,decide_eq_false h0,Bool.false_or,getD_some hj1]
       by_cases h1:l[j]≤l[j-1]
       · rw[decide_eq_true h1,decide_eq_false (by omega)];rfl
       · rw[decide_eq_false h1,decide_eq_true (by omega)];rfl
   · rw[decide_eq_false h];rfl)
  (fun rec _=>by simp only[Ue];rw[if_neg (by omega)]) (f:=Xb) (Yl (by omega)) ()
 rw[show((0:Nat):Int)=0 from rfl] at this
 rw[this]
 exact Qc0 _ _ _ _ (fun a _ nx s=>rfl)
theorem Qge {d:Nat}{l:List Int}(h:Ks d l=true){a:Int}(ha:a∈l):∃ u:Nat,a=(u:Int)∧u<2^d:=by
 obtain⟨j,hj,rfl⟩:=List.mem_iff_getElem.1 ha
 have:=List.all_eq_true.1 h j (by simpa using hj)
 rw[Bool.and_eq_true,decide_eq_true_eq,getD_some hj] at this
 exact⟨l[j].toNat,by omega,by omega⟩
end Go.Sx

end
section
set_option linter.unusedVariables false
set_option linter.unusedSimpArgs false
set_option maxRecDepth 100000
namespace Go.Sx
open Go
def Yn (y:Nat × Nat):Qx:=⟨(y.1:Int),(y.2:Int)⟩
def Te:Nat→Nat→List Int→List Int
 | 0,_,ks=>ks
 | f+1,n,ks=>if n=0 then ks else Te f (n / 2) (Dz ks (n:Int))
theorem Qv3 (a5:Int)(rec1:Int × List Int→Option (List Qx × Int)):∀ (f fuel n:Nat) (ks:List Int),n<2^f→f<fuel→Qv (Mv a5 rec1) fuel ((n:Int),ks)=rec1 (Qc (a5+1),Te f n ks)
 | f,0,n,ks,_,h=>by omega
 | 0,fuel+1,n,ks,hn,_=>by
  rw[Kk];simp only[Mv]
  rw[if_neg (by simp at hn;omega)];rfl
 | f+1,fuel+1,n,ks,hn,hf=>by
  rw[Kk];simp only[Mv]
  unfold Te
  by_cases h0:n=0
  · rw[if_neg (by omega),if_pos h0]
  · rw[if_pos (by omega),if_neg h0,show Jp (un 1#64)=some 1 from by decide,bind_some,Qi4 _ _ (by omega),Nat.pow_one]
    exact Qv3 a5 rec1 f fuel (n / 2) _ (by rw[Nat.pow_succ] at hn;omega) (by omega)
theorem Xb5 {ks:List Int}{k z:Int}:z∈Dz ks k↔z∈ks∨z=k:=by
 unfold Dz;split
 · rename_i h;exact⟨.inl,fun h'=>h'.elim id (fun e=>e ▸ h)⟩
 · simp
theorem Xb4 {ks:List Int}{k:Int}:(Dz ks k).length≤ks.length+1:=by unfold Dz;split<;>simp
theorem Qv4:∀ (f n:Nat) (ks:List Int) (z:Int),n<2^f→(z∈Te f n ks↔z∈ks∨∃ j,2^j≤n∧z=((n / 2^j:Nat):Int))
 | 0,n,ks,z,hn=>by
  unfold Te
  constructor
  · exact .inl
  · rintro(h|⟨j,hj,_⟩)
    · exact h
    · have:=Nat.two_pow_pos j;simp at hn;omega
 | f+1,n,ks,z,hn=>by
  unfold Te
  by_cases h0:n=0
  · rw[if_pos h0]
    constructor
    · exact .inl
    · rintro(h|⟨j,hj,_⟩)
      · exact h
      · have:=Nat.two_pow_pos j;omega
  · rw[if_neg h0,Qv4 f (n / 2) _ z (by rw[Nat.pow_succ] at hn;omega),Xb5]
    have hd2:∀ j,n / 2 / 2^j=n / 2^(j+1):=fun j=>by rw[Nat.div_div_eq_div_mul,Nat.pow_succ,Nat.mul_comm 2]
    constructor
    · rintro((h|h)|⟨j,h1,h2⟩)
      · exact .inl h
      · exact .inr ⟨0,by simp;omega,by simpa using h⟩
      · exact .inr ⟨j+1,by rw[Nat.pow_succ];omega,by rw[h2,hd2]⟩
    · rintro(h|⟨j,h1,h2⟩)
      · exact .inl (.inl h)
      · cases j with
        | zero=>exact .inl (.inr (by simpa using h2))
        | succ j=>exact .inr ⟨j,by rw[Nat.pow_succ] at h1;omega,by rw[h2,hd2]⟩
theorem Qv2:∀ (f n:Nat) (ks:List Int),(Te f n ks).length≤ks.length+f
 | 0,n,ks=>by simp[Te]
 | f+1,n,ks=>by
  unfold Te;split
  · omega
  · have:=Qv2 f (n / 2) (Dz ks (n:Int));have:=Xb4 (ks:=ks) (k:=(n:Int));omega
def Yv (d:Nat)(l:List Int):List Int:=l.foldl (fun ks u=>Te 8 (2^d+u.toNat) ks) []
theorem Qkl {d:Nat}(h6:d≤6):∀ (l:List Int) (ks:List Int) (z:Int),(∀ u∈l,u.toNat<2^d)→(z∈l.foldl (fun ks u=>Te 8 (2^d+u.toNat) ks) ks↔z∈ks∨∃ u∈l,∃ j,2^j≤2^d+u.toNat∧z=(((2^d+u.toNat) / 2^j:Nat):Int))
 | [],ks,z,_=>by simp
 | a::l,ks,z,h=>by
  have h64:=Ve h6
  have ha:=h a (by simp)
  rw[List.foldl_cons,Qkl h6 l _ z (fun u hu=>h u (by simp[hu])),Qv4 8 _ _ _ (by omega)]
  constructor
  · rintro((h1|h1)|⟨u,hu,h1⟩)
    · exact .inl h1
    · exact .inr ⟨a,by simp,h1⟩
    · exact .inr ⟨u,by simp[hu],h1⟩
  · rintro(h1|⟨u,hu,h1⟩)
    · exact .inl (.inl h1)
    · rcases List.mem_cons.1 hu with rfl|hu
      · exact .inl (.inr h1)
      · exact .inr ⟨u,hu,h1⟩
theorem Qrh {d:Nat}:∀ (l:List Int) (ks:List Int),(l.foldl (fun ks u=>Te 8 (2^d+u.toNat) ks) ks).length≤ks.length+8*l.length
 | [],ks=>by simp
 | a::l,ks=>by
  rw[List.foldl_cons,List.length_cons]
  have:=Qrh (d:=d) l (Te 8 (2^d+a.toNat) ks)
  have:=Qv2 8 (2^d+a.toNat) ks
  omega
def Xx (l:List Int):List Nat:=l.map Int.toNat
theorem Nw {d:Nat}{l:List Int}(h6:d≤6)(h:Ks d l=true):Kw d (Xx l):=⟨h6,fun u hu=>by
 obtain⟨a,ha,rfl⟩:=List.mem_map.1 hu
 obtain⟨w,hw,hw2⟩:=Qge h ha
 rw[hw];simpa using hw2⟩
theorem Ff {d:Nat}{l:List Int}(h6:d≤6)(h:Ks d l=true)(n:Nat):((n:Int)∈Yv d l)↔Xv d (Xx l) n=true:=by
 have hr:=Nw h6 h
 unfold Yv
 rw[Qkl h6 l [] _ (fun u hu=>hr.2 _ (List.mem_map.2 ⟨u,hu,rfl⟩)),Fh]
 simp only[List.not_mem_nil,false_or]
 constructor
 · rintro⟨u,hu,j,h1,h2⟩
   refine⟨u.toNat,List.mem_map.2 ⟨u,hu,rfl⟩,(Ys (hr.leaf (List.mem_map.2 ⟨u,hu,rfl⟩)).1).2 ⟨j,h1,by omega⟩⟩
 · rintro⟨u,hu,hb⟩
   obtain⟨a,ha,rfl⟩:=List.mem_map.1 hu
   obtain⟨j,h1,h2⟩:=(Ys (hr.leaf hu).1).1 hb
   exact⟨a,ha,j,h1,by rw[h2]⟩
theorem Xaz {d:Nat}{l:List Int}(h6:d≤6)(h:Ks d l=true){k:Int}(hk:k∈Yv d l):∃ n:Nat,k=(n:Int)∧Xv d (Xx l) n=true:=by
 have hr:=Nw h6 h
 unfold Yv at hk
 rw[Qkl h6 l [] _ (fun u hu=>hr.2 _ (List.mem_map.2 ⟨u,hu,rfl⟩))] at hk
 simp only[List.not_mem_nil,false_or] at hk
 obtain⟨u,hu,j,h1,h2⟩:=hk
 exact⟨_,h2,Fh.2 ⟨u.toNat,List.mem_map.2 ⟨u,hu,rfl⟩,(Ys (hr.leaf (List.mem_map.2 ⟨u,hu,rfl⟩)).1).2 ⟨j,h1,rfl⟩⟩⟩
theorem Qjl {d:Nat}{l:List Int}(h6:d≤6)(h:Ks d l=true)(n:Nat):decide ((n:Int)∈Yv d l)=Xv d (Xx l) n:=by
 cases hb:Xv d (Xx l) n with
 | true=>exact decide_eq_true ((Ff h6 h n).2 hb)
 | false=>exact decide_eq_false fun hm=>by rw[(Ff h6 h n).1 hm] at hb;cases hb
theorem Qrb {s:Qj}{d:Nat}{l:List Int}(h6:d≤6)(h:Ks d l=true)(acc:List Qx)(nx:List Qx→Option (List Qx × Int))(k:Int):∀ (f fuel v:Nat),1≤v→Nat.log2 v≤d→d-Nat.log2 v<f→f≤fuel→
 Qv (Sk (Jq s,0) (Yv d l) acc nx k) fuel (v:Int)=(if(Zy d (Xx l) f v:Int)=k then nx acc else Option.bind (Sl (Jq s) k (Zy d (Xx l) f v:Int)) fun x31=>(if x31≠0 then(if(Jq s).kind=3#8 then Option.bind (Li (Jq s) k) fun x34=>(Gk acc nx k (Zy d (Xx l) f v:Int) x31 (!x34)) else Gk acc nx k (Zy d (Xx l) f v:Int) x31 false) else Gk acc nx k (Zy d (Xx l) f v:Int) x31 false))
 | 0,fuel,v,_,_,hf,_=>by omega
 | f+1,0,v,_,_,_,hf=>by omega
 | f+1,fuel+1,v,hv,hl,hf,hff=>by
  have hr:=Nw h6 h
  have h64:=Ve h6
  have hv128:v<128:=by
   have:=(Nat.log2_lt (n:=v) (k:=d+1) (by omega)).1 (by omega)
   rw[Nat.pow_succ] at this;omega
  rw[Kk];simp only[Sk]
  have e0:Qc (2*(v:Int))=((2*v:Nat):Int):=by rw[Jw (by omega) (by omega)];omega
  have e1:Qc (((2*v:Nat):Int)+1)=((2*v+1:Nat):Int):=by rw[Jw (by omega) (by omega)];omega
  have e2:Qc ((v:Int)*2)=((2*v:Nat):Int):=by rw[Jw (by omega) (by omega)];omega
  rw[e0,e1,e2,e1,Qjl h6 h,Qjl h6 h]
  rw[show(Xv d (Xx l) (2*v) != Xv d (Xx l) (2*v+1))=Da d (Xx l) v from rfl]
  cases hb:Da d (Xx l) v with
  | false=>
   have hfv:Zy d (Xx l) (f+1) v=v:=by unfold Zy;rw[hb];rfl
   rw[cond_false,hfv]
  | true=>
   have hfv:Zy d (Xx l) (f+1) v=Zy d (Xx l) f (Pk d (Xx l) v):=by
    show(if Da d (Xx l) v=true then Zy d (Xx l) f (Pk d (Xx l) v) else v)=_
    rw[hb];rfl
   rw[cond_true,hfv]
   obtain⟨hl2,_⟩:=Qj6 hr hv hb
   have key:(if ¬ (((2*v:Nat):Int)∈Yv d l) then Qv (Sk (Jq s,0) (Yv d l) acc nx k) fuel ((2*v+1:Nat):Int) else Qv (Sk (Jq s,0) (Yv d l) acc nx k) fuel ((2*v:Nat):Int))=Qv (Sk (Jq s,0) (Yv d l) acc nx k) fuel (Pk d (Xx l) v:Int):=by
    unfold Pk
    cases hh:Xv d (Xx l) (2*v) with
    | true=>rw[if_neg (fun hn=>hn ((Ff h6 h _).2 hh)),if_pos rfl]
    | false=>rw[if_pos (fun hm=>by rw[(Ff h6 h _).1 hm] at hh;cases hh),if_neg (by simp)]
   rw[key]
   have hn:1≤Pk d (Xx l) v∧Nat.log2 (Pk d (Xx l) v)=Nat.log2 v+1:=by
    unfold Pk;split
    · exact⟨by omega,Tn hv (b:=0) (by omega)⟩
    · exact⟨by omega,Tn hv (b:=1) (by omega)⟩
   exact Qrb h6 h acc nx k f fuel _ hn.1 (by omega) (by omega) (by omega)
theorem Xg2 {s:Qj}{d:Nat}{l:List Int}(hv:Ju s=true)(hd:s.Depth=(d:Int))(h6:d≤6)(h:Ks d l=true){v:Nat}(hh:Xv d (Xx l) v=true)(acc:List Qx)(ha:acc.length≤1000)(nx:List Qx→Option (List Qx × Int)):
 Rw (Jq s,0) (Yv d l) (v:Int) nx acc=nx (acc++(Wi s.Kind d (Xx l) v).map Yn):=by
 have hr:=Nw h6 h
 have h64:=Ve h6
 obtain⟨v1,vl,v2⟩:=Np hr hh
 have hpow:2^(d+1)=2*2^d:=by rw[Nat.pow_succ,Nat.mul_comm]
 have hv128:v<128:=by omega
 have ht:Jq s=⟨s.Kind,(d:Int),(Yz d:Int)⟩:=by unfold Jq;rw[hd,Int.toNat_natCast]
 have hkd:(Jq s).kind=s.Kind:=rfl
 have hsib:Rz (v:Int)=some ((v ^^^ 1:Nat):Int):=by unfold Rz;rw[Qwe hv128]
 have hadd:∀ (a b:Int) (acc:List Qx),acc.length≤2000→Ms a b acc=some (acc++[⟨a,b⟩]):=fun a b acc hl=>by
  unfold Ms;rw[Ti (by simp;omega),bind_some]
 unfold Rw
 simp only[hkd]
 by_cases hk:s.Kind=1#8
 · rw[if_pos hk]
   unfold Wi
   rw[if_pos hk]
   by_cases hv1:v=1
   · rw[if_neg (by omega),if_neg (by simp[hv1])]
     unfold Od;simp
   · rw[if_pos (by omega),hsib,bind_some]
     unfold Od
     have hdm:=Qjl h6 h (v ^^^ 1)
     by_cases hs:Xv d (Xx l) (v ^^^ 1)=true
     · rw[decide_eq_false (p:=¬ (((v ^^^ 1:Nat):Int)∈Yv d l)) (fun hn=>hn ((Ff h6 h _).2 hs)),cond_false,if_neg (by simp[hs])];simp
     · have hs':Xv d (Xx l) (v ^^^ 1)=false:=by simpa using hs
       rw[decide_eq_true (p:=¬ (((v ^^^ 1:Nat):Int)∈Yv d l)) (fun hm=>hs ((Ff h6 h _).1 hm)),cond_true,hsib,bind_some,hadd _ _ _ (by omega),bind_some,if_pos ⟨hv1,hs'⟩]
       rfl
 · rw[if_neg hk]
   have go:Wh d (Xx l) v=true→Rv (Jq s,0) (Yv d l) acc nx (v:Int) false=nx (acc++(Wi s.Kind d (Xx l) v).map Yn):=by
    intro hhd
    unfold Rv
    rw[cond_false,Qrb h6 h acc nx (v:Int) 7 Xb v v1 vl (by omega) (by unfold Xb;omega)]
    unfold Wi
    rw[if_neg hk,if_pos hhd]
    obtain⟨w1,w2,w3,K,w4,w5,w6⟩:=Qak hr 7 v v1 vl (by omega)
    generalize Zy d (Xx l) 7 v=w at *
    by_cases hw:w=v
    · rw[if_pos (by omega),if_pos hw];simp
    · rw[if_neg (by omega),if_neg hw]
      have hlw:=Dj w K w4
      rw[←w5] at hlw
      have hK:1≤K:=by
       rcases Nat.eq_zero_or_pos K with h0|h0
       · subst h0;simp at w5;exact absurd w5.symm hw
       · exact h0
      have hw128:w<128:=by
       have:=(Nat.log2_lt (n:=w) (k:=d+1) (by omega)).1 (by omega)
       omega
      have hcut:Sl (Jq s) (v:Int) (w:Int)=some ((Vw d v w:Nat):Int):=by
       obtain⟨K',rfl⟩:∃ K',K=K'+1:=⟨K-1,by omega⟩
       have:=Qp8 (kd:=s.Kind) (d:=d) (m:=w) (k:=K') hw128 w4 (by omega)
       rw[←w5] at this
       rw[ht,this]
       unfold Vw
       rw[show Nat.log2 w-Nat.log2 v-1=K' from by omega]
      have hspc:Li (Jq s) (v:Int)=some (Kr d v):=by rw[ht];exact Qn6 v1 (by omega)
      rw[hcut,bind_some]
      have one:Gk acc nx (v:Int) (w:Int) ((Vw d v w:Nat):Int) false=nx (acc++[(v,w)].map Yn):=by
       unfold Gk Oe
       rw[cond_false,hadd _ _ _ (by omega),bind_some];rfl
      have two:Gk acc nx (v:Int) (w:Int) ((Vw d v w:Nat):Int) true=nx (acc++[(v,Vw d v w),(Vw d v w,w)].map Yn):=by
       unfold Gk Oe
       rw[cond_true,hadd _ _ _ (by omega),bind_some,hadd _ _ _ (by simp;omega),bind_some,List.append_assoc];rfl
      have hk3:s.Kind=2#8∨s.Kind=3#8:=by
       obtain⟨a,b⟩:=Qv6 hv
       rcases Qrq a b with e|e|e
       · exact absurd e hk
       · exact .inl e
       · exact .inr e
      unfold Wj
      by_cases hc0:Vw d v w=0
      · rw[if_neg (by omega),one]
        have:(decide (s.Kind=2#8)||Kr d v||decide (Hm d (Jt (w / 2) (Nat.log2 w-Nat.log2 v-1))=0))=true:=by
         rw[decide_eq_true (p:=Hm _ _=0) hc0];simp
        rw[if_pos this]
      · have hc0':decide (Hm d (Jt (w / 2) (Nat.log2 w-Nat.log2 v-1))=0)=false:=decide_eq_false hc0
        rw[if_pos (by omega),hc0',Bool.or_false]
        rcases hk3 with hk3|hk3
        · rw[if_neg (by rw[hkd,hk3];decide),one,if_pos (by simp[hk3])]
        · rw[if_pos (show(Jq s).kind=3#8 from hk3),hspc,bind_some]
          have:decide (s.Kind=2#8)=false:=by rw[hk3];decide
          rw[this,Bool.false_or]
          cases Kr d v with
          | true=>rw[Bool.not_true,one,if_pos rfl]
          | false=>rw[Bool.not_false,two,if_neg (by simp)]
   have no:Wh d (Xx l) v=false→Rv (Jq s,0) (Yv d l) acc nx (v:Int) true=nx (acc++(Wi s.Kind d (Xx l) v).map Yn):=by
    intro hhd
    unfold Rv Wi
    rw[cond_true,if_neg hk,if_neg (by rw[hhd];simp)];simp
   by_cases hv1:v=1
   · rw[if_neg (by omega)];exact go (by unfold Wh;simp[hv1])
   · rw[if_pos (by omega),hsib,bind_some]
     by_cases hs:Xv d (Xx l) (v ^^^ 1)=true
     · rw[decide_eq_false (p:=¬ (((v ^^^ 1:Nat):Int)∈Yv d l)) (fun hn=>hn ((Ff h6 h _).2 hs))];exact go (by unfold Wh;simp[hs])
     · have hs':Xv d (Xx l) (v ^^^ 1)=false:=by simpa using hs
       rw[decide_eq_true (p:=¬ (((v ^^^ 1:Nat):Int)∈Yv d l)) (fun hm=>hs ((Ff h6 h _).1 hm))];exact no (by unfold Wh;simp[hs',hv1])
theorem Qxf {d:Nat}{R:List Nat}(h:Kw d R){k:BitVec 8}(hne:R≠[]){v:Nat}(hv:Xv d R v=true):(Vj k d R).filter (fun y=>decide (Yg k d R y=v))=Wi k d R v:=by
 refine Qny ?_ ?_ fun y=>?_
 · exact List.Pairwise.filter _ Qeo
 · unfold Wi Ro
   split
   · split<;>simp
   · split
     · split
       · simp
       · split
         · simp
         · rename_i h2 h3 h4 h5
           obtain⟨v1,vl,v2⟩:=Np h hv
           obtain⟨w1,w2,w3,K,w4,w5,w6⟩:=Qak h 7 v v1 vl (by have:=h.1;omega)
           obtain⟨j,j1,j2,j3⟩:=Qjj (k:=k) (d:=d) (.inr trivial) w4 w5 v1 (by simpa using h5)
           simp only[List.pairwise_cons,List.mem_singleton,List.not_mem_nil,false_imp_iff,implies_true,List.Pairwise.nil,and_true,forall_eq]
           have hj2:2^j≤Zy d R 7 v:=Nat.le_trans (Nat.pow_le_pow_right (by omega) (by omega)) w4
           have hl1:=Dj _ _ w4
           have hl2:=Dj _ _ hj2
           rw[←w5] at hl1
           rw[←j3] at hl2
           rcases Nat.lt_or_ge v (Vw d v (Zy d R 7 v)) with Jc|hge
           · exact Jc
           · have:=Qky hge;omega
     · simp
 · rw[List.mem_filter,decide_eq_true_eq];exact Qep h hne hv y
theorem Qov {k:BitVec 8}{d:Nat}{R:List Nat}(h6:d≤6):(Vj k d R).length≤127:=by
 have h64:=Ve h6
 have hpow:2^(d+1)=2*2^d:=by rw[Nat.pow_succ,Nat.mul_comm]
 refine Nat.le_trans (List.length_filterMap_le _ _) ?_
 simp[Qau];omega
theorem Xar {α:Type}(p q:α→Bool)(hpq:∀ a,p a=true→q a=false)(l:List α):(l.filter fun a=>p a||q a).Perm (l.filter p++l.filter q):=by
 induction l with
 | nil=>simp
 | cons a l ih=>
  cases hp:p a with
  | true=>
   have hq:=hpq a hp
   simp only[List.filter_cons,hp,hq,Bool.true_or,if_true,Bool.false_eq_true,if_false,List.cons_append]
   exact ih.cons a
  | false=>
   cases hq:q a with
   | true=>
    simp only[List.filter_cons,hp,hq,Bool.or_true,if_true,Bool.false_eq_true,if_false]
    exact(ih.cons a).trans List.perm_middle.symm
   | false=>
    simp only[List.filter_cons,hp,hq,Bool.or_false,Bool.false_eq_true,if_false]
    exact ih
theorem Xfz {k:BitVec 8}{d:Nat}{R:List Nat}(h6:d≤6){acc:List Qx}(h:acc.Perm ((Vj k d R).map Yn)):Ak Qx.Node acc=some ((Vj k d R).map Yn):=by
 have h64:=Ve h6
 have hpow:2^(d+1)=2*2^d:=by rw[Nat.pow_succ,Nat.mul_comm]
 have hasc:((Vj k d R).map Yn).Pairwise fun a b=>a.Node<b.Node:=by
  rw[List.pairwise_map]
  exact(Qeo (k:=k) (d:=d) (R:=R)).imp (fun {a b} hab=>by unfold Yn;simp only;omega)
 have hnd:(((Vj k d R).map Yn).map Qx.Node).Nodup:=by
  unfold List.Nodup
  rw[List.pairwise_map]
  exact hasc.imp (by omega)
 unfold Ak
 rw[if_pos]
 · congr 1
   have hs:=List.pairwise_mergeSort (le:=fun a b:Qx=>decide (a.Node≤b.Node)) (fun a b c h1 h2=>by simp at *;omega) (fun a b=>by simp;omega) acc
   have hp:(acc.mergeSort fun a b=>decide (a.Node≤b.Node)).Perm ((Vj k d R).map Yn):=(List.mergeSort_perm acc _).trans h
   have key:∀ (l m:List Qx),l.Perm m→(l.Pairwise fun a b=>decide (a.Node≤b.Node)=true)→(m.Pairwise fun a b=>a.Node<b.Node)→l=m:=by
    intro l m hlm hl hm
    have hlnd:(l.map Qx.Node).Nodup:=by
     have:(m.map Qx.Node).Nodup:=by unfold List.Nodup;rw[List.pairwise_map];exact hm.imp (by omega)
     exact(hlm.map _).nodup_iff.2 this
    have hl':l.Pairwise fun a b=>a.Node<b.Node:=by
     unfold List.Nodup at hlnd
     rw[List.pairwise_map] at hlnd
     exact(hl.and hlnd).imp (fun {a b} hab=>by have:=of_decide_eq_true hab.1;have:=hab.2;omega)
    clear hl hlnd
    induction m generalizing l with
    | nil=>exact hlm.eq_nil
    | cons b m ih=>
     cases l with
     | nil=>exact absurd hlm.symm.eq_nil (by simp)
     | cons a l=>
      have ha:=List.pairwise_cons.1 hl'
      have hb:=List.pairwise_cons.1 hm
      have hab:a=b:=by
       rcases List.mem_cons.1 (hlm.subset (List.mem_cons_self)) with e|e
       · exact e
       · rcases List.mem_cons.1 (hlm.symm.subset (List.mem_cons_self)) with e2|e2
         · exact e2.symm
         · have:=ha.1 b e2;have:=hb.1 a e;omega
      subst hab
      rw[ih l (List.Perm.cons_inv hlm) hb.2 ha.2]
   exact key _ _ hp hs hasc
 · refine⟨fun x hx=>?_,(h.map _).nodup_iff.2 hnd,?_⟩
   · obtain⟨y,hy,rfl⟩:=List.mem_map.1 (h.subset hx)
     have:=(Ob.1 hy).1
     unfold Yn;simp only;omega
   · rw[h.length_eq,List.length_map];have:=Qov (k:=k) (R:=R) h6;omega
theorem Xek {s:Qj}{d:Nat}{l:List Int}(hv:Ju s=true)(hd:s.Depth=(d:Int))(h6:d≤6)(h:Ks d l=true)(hne:l≠[])(hl:l.length*8≤140737488355328):
 Tc (Rw (Jq s,0) (Yv d l)) Mt Xb (Yv d l) []=some ((Vj s.Kind d (Xx l)).map Yn,0):=by
 have hr:=Nw h6 h
 have hne':Xx l≠[]:=by unfold Xx;simpa using hne
 refine Qtl (fun rem acc=>(∀ k∈rem,k∈Yv d l)∧acc.Perm (((Vj s.Kind d (Xx l)).filter fun y=>decide (((Yg s.Kind d (Xx l) y:Nat):Int)∉rem)).map Yn)) ?_ ?_ Xb (Yv d l) [] ?_ ⟨fun _ hk=>hk,?_⟩
 · rintro acc ⟨_,hp⟩
   have:((Vj s.Kind d (Xx l)).filter fun y=>decide (((Yg s.Kind d (Xx l) y:Nat):Int)∉([]:List Int)))=Vj s.Kind d (Xx l):=List.filter_eq_self.2 (by simp)
   rw[this] at hp
   unfold Mt
   rw[Xfz h6 hp,bind_some]
 · rintro rem acc k hk ⟨hsub,hp⟩
   obtain⟨v,rfl,hvh⟩:=Xaz h6 h (hsub k hk)
   have hal:acc.length≤1000:=by
    rw[hp.length_eq,List.length_map]
    have:=Qov (k:=s.Kind) (R:=Xx l) h6
    have:=List.length_filter_le (fun y=>decide (((Yg s.Kind d (Xx l) y:Nat):Int)∉rem)) (Vj s.Kind d (Xx l))
    omega
   refine⟨acc++(Wi s.Kind d (Xx l) v).map Yn,⟨fun j hj=>hsub j (List.mem_filter.1 hj).1,?_⟩,fun nx=>Xg2 hv hd h6 h hvh acc hal nx⟩
   have hsp:=Xar (fun y=>decide (((Yg s.Kind d (Xx l) y:Nat):Int)∉rem)) (fun y=>decide (Yg s.Kind d (Xx l) y=v)) (fun y hy=>by
    simp only[decide_eq_true_eq,decide_eq_false_iff_not] at hy ⊢
    rintro rfl;exact hy hk) (Vj s.Kind d (Xx l))
   rw[Qxf hr hne' hvh] at hsp
   have hcg:((Vj s.Kind d (Xx l)).filter fun y=>decide (((Yg s.Kind d (Xx l) y:Nat):Int)∉rem.filter (· ≠ (v:Int))))=((Vj s.Kind d (Xx l)).filter fun y=>decide (((Yg s.Kind d (Xx l) y:Nat):Int)∉rem)||decide (Yg s.Kind d (Xx l) y=v)):=by
    apply List.filter_congr
    intro y _
    rw[Bool.eq_iff_iff]
    simp only[Bool.or_eq_true,decide_eq_true_eq,List.mem_filter,not_and,ne_eq,Decidable.not_not,decide_not,Bool.not_eq_true',decide_eq_false_iff_not]
    constructor
    · intro hh
      by_cases hm:((Yg s.Kind d (Xx l) y:Nat):Int)∈rem
      · have:=hh hm;right;omega
      · exact .inl hm
    · rintro(hh|hh) hm
      · exact absurd hm hh
      · rw[hh]
   rw[hcg]
   refine List.Perm.trans ?_ (hsp.map Yn).symm
   rw[List.map_append]
   exact hp.append_right _
 · have:=Qrh (d:=d) l []
   unfold Yv Xb
   simp only[List.length_nil,Nat.zero_add] at this
   omega
 · have:((Vj s.Kind d (Xx l)).filter fun y=>decide (((Yg s.Kind d (Xx l) y:Nat):Int)∉Yv d l))=[]:=by
    rw[List.filter_eq_nil_iff]
    intro y hy
    simp only[decide_eq_true_eq]
    exact fun hn=>hn ((Ff h6 h _).2 (Qgm hr hne' hy))
   rw[this];simp
def Sj (s:Qj)(l:List Int):List Qx × Int:=
 if Ju s then(if Ks s.Depth.toNat l then((if l=[] then[⟨1,0⟩] else(Vj s.Kind s.Depth.toNat (Xx l)).map Yn),0) else([],2)) else([],30)
theorem Qsv (s:Qj)(l:List Int)(hl:l.length*8≤140737488355328):Qcc s l=some (Sj s l):=by
 unfold Qcc Sj
 rw[Qqa,bind_some]
 cases hv:Ju s with
 | false=>rfl
 | true=>
  obtain⟨d,hd,h6⟩:=Qbl hv
  have ht:Jq s=⟨s.Kind,(d:Int),(Yz d:Int)⟩:=by unfold Jq;rw[hd,Int.toNat_natCast]
  simp only[if_true]
  rw[if_neg (by simp),hd,Int.toNat_natCast]
  have e0:Oy (Jq s) l=some (Ks d l):=by rw[ht];exact Xc2 h6 l (by omega)
  rw[e0,bind_some]
  cases hb:Ks d l with
  | false=>rfl
  | true=>
   simp only[Bool.not_true,cond_false,if_true]
   by_cases hne:l=[]
   · subst hne;rfl
   · rw[if_neg (by intro h0;apply hne;exact List.eq_nil_of_length_eq_zero (by omega)),if_neg hne]
     have:=Qkj l (Mu l (Jq s,0)) (fun j (ks:List Int)=>((j:Int),ks)) (fun u nx ks=>nx (Te 8 (2^d+u.toNat) ks)) (fun ks=>Tc (Rw (Jq s,0) ks) Mt Xb ks [])
      (fun rec j hj ks=>by
       obtain⟨u,hu,hu2⟩:=Qge hb (List.getElem_mem hj)
       have h64:=Ve h6
       simp only[Mu]
       have hlf:Ud (Jq s) (u:Int)=some ((2^d+u:Nat):Int):=by rw[ht];exact Xbx h6 (by omega)
       rw[if_pos (by omega),Wg hj,bind_some,hu,hlf,bind_some,Qv3 _ _ 8 Xb _ _ (by omega) (by unfold Xb;omega),Hz (by omega),Int.toNat_natCast])
      (fun rec ks=>by simp only[Mu];rw[if_neg (by omega)]) (f:=Xb) (Yl (by omega)) ([]:List Int)
     rw[show((0:Nat):Int)=0 from rfl] at this
     rw[this,Qrl (fun ks u=>Te 8 (2^d+u.toNat) ks) _ _ (fun _ _=>True) l 0 [] (fun _ _ _ _ _ _=>rfl) (fun _ _ _ _ _=>trivial) trivial]
     exact Xek hv hd h6 hb hne hl
end Go.Sx

end
section
set_option linter.unusedVariables false
set_option linter.unusedSimpArgs false
set_option maxRecDepth 100000
namespace Go.Sx
open Go
end Go.Sx

end
section
set_option linter.unusedVariables false
set_option linter.unusedSimpArgs false
set_option maxRecDepth 100000
namespace Go.Sx
open Go
variable {d:Nat} {R:List Nat}
theorem Qwb {L a b:Nat}(hL:1≤L)(ha:Zm L a=true)(hb:Zm L b=true)(hl:Nat.log2 b≤Nat.log2 a):Zm a b=true:=by
 obtain⟨i,i1,rfl⟩:=(Ys hL).1 ha
 obtain⟨j,j1,rfl⟩:=(Ys hL).1 hb
 have li:=Dj L i i1
 have lj:=Dj L j j1
 have hij:i+(j-i)=j:=by omega
 refine(Ys (Qa2 i1)).2 ⟨j-i,Ab (by rw[hij];exact j1),?_⟩
 rw[Nat.div_div_eq_div_mul,←Nat.pow_add,hij]
def Low (d:Nat)(R:List Nat)(L z:Nat):Prop:=Xv d R z=true∧Zm L z=true∧∃ s,s / 2=z∧2≤s∧Zm L s=true∧Xv d R s=false
theorem Xb0 (h:Kw d R){a b:Nat}(ha:Xv d R a=true)(hb:Zm a b=true):Xv d R b=true:=by
 obtain⟨k,k1,k2⟩:=(Ys (Np h ha).1).1 hb
 rw[k2];exact Qfy h ha k k1
theorem Qs7 (h:Kw d R){L z1 z2:Nat}(hL:1≤L)(h1:Low d R L z1)(h2:Low d R L z2):¬ Nat.log2 z1<Nat.log2 z2:=by
 intro Jc
 obtain⟨a1,b1,s,c1,c2,c3,c4⟩:=h1
 obtain⟨a2,b2,_⟩:=h2
 have hs:=Nr c2
 rw[c1] at hs
 have:=Xb0 h a2 (Qwb hL b2 c3 (by omega))
 rw[c4] at this;cases this
theorem Qs6 (h:Kw d R){L z1 z2:Nat}(hL:1≤L)(h1:Low d R L z1)(h2:Low d R L z2):z1=z2:=
 Qc3 hL h1.2.1 h2.2.1 (by have:=Qs7 h hL h1 h2;have:=Qs7 h hL h2 h1;omega)
theorem Quv {p:Nat→Bool}:∀ (n j:Nat),p (j+n)=true→p j=false→∃ t,j≤t∧t<j+n∧p (t+1)=true∧p t=false
 | 0,j,h1,h2=>by rw[Nat.add_zero,h2] at h1;cases h1
 | n+1,j,h1,h2=>by
  cases hp:p (j+n) with
  | true=>obtain⟨t,a,b,c⟩:=Quv n j hp h2;exact⟨t,a,by omega,c⟩
  | false=>exact⟨j+n,by omega,by omega,h1,hp⟩
theorem Qkz (h:Kw d R){L f K i j:Nat}(hL:1≤L)(hl:Nat.log2 L=d)(hf:f<128)(hK:2^K≤f)(hfd:Nat.log2 f≤d)(hc:∀ t,t<K→Xv d R (f / 2^t)=true∧Xv d R ((f / 2^t) ^^^ 1)=false)
 (hij:j<i) (hi:i≤K) (ha:Zm L (f / 2^i)=true) (hb:Zm L (f / 2^j)=false):∃ t,j≤t∧t<i∧Low d R L (f / 2^(t+1)):=by
 obtain⟨t,t1,t2,t3,t4⟩:=Quv (p:=fun t=>Zm L (f / 2^t)) (i-j) j (by show Zm L (f / 2^(j+(i-j)))=true;rw[Nat.add_sub_cancel' (by omega)];exact ha) hb
 replace t3:Zm L (f / 2^(t+1))=true:=t3
 replace t4:Zm L (f / 2^t)=false:=t4
 refine⟨t,t1,by omega,?_⟩
 have ht:2^(t+1)≤f:=Nat.le_trans (Nat.pow_le_pow_right (by omega) (by omega)) hK
 have hs2:2≤f / 2^t:=by have:=Ab (w:=f) (i:=t) (j:=1) ht;simpa using this
 obtain⟨c1,c2⟩:=hc t (by omega)
 rw[Sr] at t3 ⊢
 have hsl:f / 2^t<128:=Nat.lt_of_le_of_lt (Nat.div_le_self _ _) hf
 have hlg:=Dj f t (Nat.le_trans (Nat.pow_le_pow_right (by omega) (by omega)) ht)
 generalize hs:f / 2^t=s at *
 have hh:=Nr hs2
 refine⟨Qfx h c1 hs2,t3,s ^^^ 1,Qn4 hsl,Qi5 hsl hs2,?_,c2⟩
 rw[Qef hL (by omega) (by omega)] at t3
 rcases(show 2*(s / 2)=s∨2*(s / 2)+1=s by omega) with e|e
 · have:=Sn (n:=s / 2) (by omega)
   rw[e,t4,Bool.false_or] at t3
   rw[e] at this;rw[this];exact t3
 · have:=Sp (n:=s / 2) (by omega)
   rw[e,t4,Bool.or_false] at t3
   rw[e] at this;rw[this];exact t3
def Qj0 (k:BitVec 8)(d:Nat)(R:List Nat)(L z:Nat):Nat × Nat:=
 if Wj k d (Zn d R 7 z) (Zy d R 7 (Zn d R 7 z)) then(Zn d R 7 z,Zy d R 7 (Zn d R 7 z))
 else if Zm L (Vw d (Zn d R 7 z) (Zy d R 7 (Zn d R 7 z))) then(Vw d (Zn d R 7 z) (Zy d R 7 (Zn d R 7 z)),Zy d R 7 (Zn d R 7 z))
 else(Zn d R 7 z,Vw d (Zn d R 7 z) (Zy d R 7 (Zn d R 7 z)))
theorem Ee {L v w:Nat}:Lq L v w=true↔Zm L v=true∧(w=0∨Zm L w=false):=by
 unfold Lq;simp
theorem Qow (h:Kw d R){k:BitVec 8}(hk:k≠1#8)(hne:R≠[]){y:Nat × Nat}(hy:y∈Vj k d R){u:Nat}(hu:u<2^d)(hm:Lq (2^d+u) y.1 y.2=true):
 ∃ z,Low d R (2^d+u) z∧y=Qj0 k d R (2^d+u) z:=by
 have h64:=Ve h.1
 have hpow:2^(d+1)=2*2^d:=by rw[Nat.pow_succ,Nat.mul_comm]
 have hv:=Qgm h hne hy
 have hout:=(Qep h hne hv y).1 ⟨hy,rfl⟩
 have hy1:=(Ob.1 hy).1
 have hlog:=Qry hu
 have hL:1≤2^d+u:=by omega
 generalize hLe:2^d+u=L at *
 have hhd:Wh d R (Yg k d R y)=true:=by
  unfold Yg;rw[if_neg hk]
  exact(Qcz 7 y.1 hy1.1 (by have:=Qaw hy1.1 hy1.2;have:=h.1;omega)).1
 generalize hve:Yg k d R y=v at *
 obtain⟨v1,vl,v2⟩:=Np h hv
 obtain⟨f1,f2,f3,K,f4,f5,f6⟩:=Qak h 7 v v1 vl (by have:=h.1;omega)
 unfold Wi at hout
 rw[if_neg hk,if_pos hhd] at hout
 have key:∀ z,Zn d R 7 z=v→Qj0 k d R L z=if Wj k d v (Zy d R 7 v) then(v,Zy d R 7 v) else if Zm L (Vw d v (Zy d R 7 v)) then(Vw d v (Zy d R 7 v),Zy d R 7 v) else(v,Vw d v (Zy d R 7 v)):=by
  intro z hz;unfold Qj0;rw[hz]
 have cutc:=fun hs=>Qjj (d:=d) (k:=k) (v:=v) (w:=Zy d R 7 v) (.inr trivial) f4 f5 v1 hs
 generalize hfe:Zy d R 7 v=f at *
 have hf128:f<128:=by have:=(Nat.log2_lt (n:=f) (k:=d+1) (by omega)).1 (by omega);omega
 have hK6:=Qd3 f4 hf128
 have hd:∀ t,t<K→Zn d R 7 (f / 2^(t+1))=v:=fun t ht=>
  Qkk hhd v1 (t+1) (K-(t+1)) 7 (by rw[Nat.add_sub_cancel' (by omega)];exact f4) (by rw[Nat.add_sub_cancel' (by omega)];exact f5) (fun i h1 h2=>(f6 i (by omega)).2) (by omega)
 by_cases hfv:f=v
 · rw[if_pos hfv] at hout;cases hout
 · rw[if_neg hfv] at hout
   have hK0:0<K:=by
    rcases Nat.eq_zero_or_pos K with e|e
    · subst e;simp at f5;exact absurd f5.symm hfv
    · exact e
   cases hs:Wj k d v f with
   | true=>
    rw[hs,if_pos rfl,List.mem_singleton] at hout
    subst hout
    obtain⟨m1,m2⟩:=Ee.1 hm
    simp only at m1 m2
    rcases m2 with m2|m2
    · omega
    · rw[f5] at m1
      obtain⟨t,t1,t2,t3⟩:=Qkz h hL hlog hf128 f4 f2 f6 (j:=0) (i:=K) hK0 (Nat.le_refl _) m1 (by simpa using m2)
      exact⟨_,t3,by rw[key _ (hd t t2),hs,if_pos rfl]⟩
   | false=>
    rw[hs,if_neg (by simp)] at hout
    obtain⟨j,j1,j2,j3⟩:=cutc hs
    generalize hce:Vw d v f=c at *
    have hc1:1≤c:=by rw[j3];exact Qa2 (Nat.le_trans (Nat.pow_le_pow_right (by omega) (by omega)) f4)
    rcases List.mem_cons.1 hout with e|e
    · subst e
      obtain⟨m1,m2⟩:=Ee.1 hm
      simp only at m1 m2
      rcases m2 with m2|m2
      · omega
      · have m2':=m2
        rw[f5] at m1;rw[j3] at m2
        obtain⟨t,t1,t2,t3⟩:=Qkz h hL hlog hf128 f4 f2 f6 (j:=j) (i:=K) j2 (Nat.le_refl _) m1 m2
        exact⟨_,t3,by rw[key _ (hd t t2),hs,if_neg (by simp),m2',if_neg (by simp)]⟩
    · rw[List.mem_singleton] at e
      subst e
      obtain⟨m1,m2⟩:=Ee.1 hm
      simp only at m1 m2
      rcases m2 with m2|m2
      · omega
      · have m1':=m1
        rw[j3] at m1
        obtain⟨t,t1,t2,t3⟩:=Qkz h hL hlog hf128 f4 f2 f6 (j:=0) (i:=j) (by omega) (by omega) m1 (by simpa using m2)
        exact⟨_,t3,by rw[key _ (hd t (by omega)),hs,if_neg (by simp),m1',if_pos rfl]⟩
theorem Qtn (h:Kw d R)(hne:R≠[]):Xv d R 1=true:=by
 obtain⟨u,hu⟩:=List.exists_mem_of_ne_nil R hne
 obtain⟨l1,l2,l3⟩:=h.leaf hu
 exact Fh.2 ⟨u,hu,(Ys l1).2 ⟨d,by omega,by rw[Nat.add_div_left _ (Nat.two_pow_pos d),Nat.div_eq_of_lt (h.2 u hu)]⟩⟩
theorem Qjb (h:Kw d R)(hne:R≠[]){y:Nat × Nat}(hy:y∈Vj 1#8 d R):Xv d R y.1=false∧2≤y.1∧Xv d R (y.1 / 2)=true∧y.2=0:=by
 obtain⟨⟨y1,y2⟩,hm⟩:=Ob.1 hy
 unfold Qat at hm
 rw[if_pos rfl] at hm
 split at hm
 · rename_i hc
   simp only[Bool.and_eq_true,Bool.not_eq_true',Bool.or_eq_true,decide_eq_true_eq] at hc
   have hr:=Qtn h hne
   have hyn:y.1≠1:=fun e=>by rw[e,hr] at hc;simp at hc
   exact⟨hc.1,by omega,hc.2.resolve_left hyn,(Option.some.inj hm).symm⟩
 · cases hm
theorem Qxk (h:Kw d R){k:BitVec 8}(hne:R≠[]){y y':Nat × Nat}(hy:y∈Vj k d R)(hy':y'∈Vj k d R){u:Nat}(hu:u<2^d)(hm:Lq (2^d+u) y.1 y.2=true)(hm':Lq (2^d+u) y'.1 y'.2=true):y=y':=by
 have hL:1≤2^d+u:=by have:=Nat.two_pow_pos d;omega
 by_cases hk:k=1#8
 · subst hk
   obtain⟨a1,a2,a3,a4⟩:=Qjb h hne hy
   obtain⟨b1,b2,b3,b4⟩:=Qjb h hne hy'
   have m1:=(Ee.1 hm).1
   have m2:=(Ee.1 hm').1
   have up:∀ {s:Nat},2≤s→Zm (2^d+u) s=true→Zm (2^d+u) (s / 2)=true:=fun {s} h2 hb=>Qo5 hL hb ((Ys (by omega)).2 ⟨1,by simpa using h2,by simp⟩)
   have hz:=Qs6 h hL (z1:=y.1 / 2) (z2:=y'.1 / 2) ⟨a3,up a2 m1,y.1,rfl,a2,m1,a1⟩ ⟨b3,up b2 m2,y'.1,rfl,b2,m2,b1⟩
   have l1:=Nr a2
   have l2:=Nr b2
   have:=Qc3 hL m1 m2 (by rw[l1,l2,hz])
   exact Prod.ext this (by rw[a4,b4])
 · obtain⟨z,z1,z2⟩:=Qow h hk hne hy hu hm
   obtain⟨z',z1',z2'⟩:=Qow h hk hne hy' hu hm'
   rw[z2,z2',Qs6 h hL z1 z1']
theorem Qwi {z c:Nat}(hz:c / 2=z)(h2:2≤c)(hc:c<128)(hh:Xv d R c=true)(hs:Xv d R (c ^^^ 1)=false):Da d R z=true∧Pk d R z=c:=by
 unfold Da Pk
 rcases(show 2*(c / 2)=c∨2*(c / 2)+1=c by omega) with e|e
 · have:=Sn (n:=c / 2) (by omega)
   rw[e] at this
   rw[this] at hs
   rw[hz] at e
   rw[e,hh,hs];simp
 · have:=Sp (n:=c / 2) (by omega)
   rw[e] at this
   rw[this,hz] at hs
   rw[hz] at e
   rw[e,hh,hs];simp
theorem Qra {z:Nat}(hz:z<128):∀ (i g:Nat),2^i≤z→(∀ t,t<i→Xv d R (z / 2^t)=true∧Xv d R ((z / 2^t) ^^^ 1)=false)→Zy d R (i+g) (z / 2^i)=Zy d R g z
 | 0,g,_,_=>by simp
 | i+1,g,hi,hc=>by
  obtain⟨c1,c2⟩:=hc i (by omega)
  have h2:2≤z / 2^i:=by have:=Ab (w:=z) (i:=i) (j:=1) hi;simpa using this
  obtain⟨b1,b2⟩:=Qwi (z:=z / 2^(i+1)) (Sr z i).symm h2 (Nat.lt_of_le_of_lt (Nat.div_le_self _ _) hz) c1 c2
  rw[show i+1+g=(i+g)+1 from by omega,Zy,b1,if_pos rfl,b2]
  exact Qra hz i g (Nat.le_trans (Nat.pow_le_pow_right (by omega) (by omega)) hi) fun t ht=>hc t (by omega)
theorem Qss:∀ (b a w:Nat),Jt w (a+b)=Jt (w / 2^b) a++Jt w b
 | 0,a,w=>by simp[Jt]
 | b+1,a,w=>by
  rw[show a+(b+1)=(a+b)+1 from rfl,Qlb,Qlb,Qss b a (w / 2),List.append_assoc,Nat.div_div_eq_div_mul,show 2*2^b=2^(b+1) from by rw[Nat.pow_succ,Nat.mul_comm]]
theorem Qxw {k:BitVec 8}{v w K:Nat}(h1:2^K≤w)(h2:v=w / 2^K)(hv:1≤v)(hs:Wj k d v w=false):∃ j,1≤j∧j<K∧Vw d v w=w / 2^j∧Kr d (w / 2^j)=true∧Wj k d v (w / 2^j)=true:=by
 have hl:=Dj w K h1
 rw[←h2] at hl
 unfold Wj at hs
 simp only[Bool.or_eq_false_iff,decide_eq_false_iff_not] at hs
 have h0:Vw d v w≠0:=hs.2
 unfold Vw at h0 ⊢
 unfold Hm at h0 ⊢
 cases hf:(Jt (w / 2) (Nat.log2 w-Nat.log2 v-1)).find? (Kr d) with
 | none=>rw[hf] at h0;simp at h0
 | some c=>
  obtain⟨j,hj,rfl⟩:=Qb1.1 (List.mem_of_find?_eq_some hf)
  have hdj:w / 2 / 2^j=w / 2^(j+1):=by rw[Nat.div_div_eq_div_mul,show 2*2^j=2^(j+1) from by rw[Nat.pow_succ,Nat.mul_comm]]
  have hsp:=List.find?_some hf
  rw[hdj] at hsp
  refine⟨j+1,by omega,by omega,by rw[Option.getD_some,hdj],hsp,?_⟩
  have hj1:2^(j+1)≤w:=Nat.le_trans (Nat.pow_le_pow_right (by omega) (by omega)) h1
  have hlc:=Dj w (j+1) hj1
  unfold Wj
  simp only[Bool.or_eq_true,decide_eq_true_eq]
  refine .inr ?_
  have hpos:∀ n∈Jt (w / 2^(j+1) / 2) (Nat.log2 (w / 2^(j+1))-Nat.log2 v-1),∃ t,n=w / 2^(j+1+(t+1))∧j+1+(t+1)<K:=by
   intro n hn
   obtain⟨t,t1,rfl⟩:=Qb1.1 hn
   refine⟨t,?_,by omega⟩
   rw[Nat.div_div_eq_div_mul,Nat.div_div_eq_div_mul,show 2^(j+1)*(2*2^t)=2^(j+1+(t+1)) from by rw[Nat.pow_add 2 (j+1),Nat.pow_succ 2 t,Nat.mul_comm 2 (2^t)]]
  have hpos2:∀ n∈Jt (w / 2^(j+1) / 2) (Nat.log2 (w / 2^(j+1))-Nat.log2 v-1),1≤n:=by
   intro n hn
   obtain⟨t,rfl,ht⟩:=hpos n hn
   exact Qa2 (Nat.le_trans (Nat.pow_le_pow_right (by omega) (by omega)) h1)
  rw[Qrc hpos2]
  have hap:=Qss (j+1) (Nat.log2 (w / 2^(j+1))-Nat.log2 v-1) (w / 2)
  rw[show Nat.log2 (w / 2^(j+1))-Nat.log2 v-1+(j+1)=Nat.log2 w-Nat.log2 v-1 from by omega,show w / 2 / 2^(j+1)=w / 2^(j+1) / 2 from by rw[Nat.div_div_eq_div_mul,Nat.div_div_eq_div_mul,Nat.mul_comm]] at hap
  rw[hap,List.find?_append] at hf
  intro n hn
  cases hfn:(Jt (w / 2^(j+1) / 2) (Nat.log2 (w / 2^(j+1))-Nat.log2 v-1)).find? (Kr d) with
  | none=>simpa using(List.find?_eq_none.1 hfn) n hn
  | some a=>
   rw[hfn,Option.some_or] at hf
   obtain⟨t,e,ht⟩:=hpos a (List.mem_of_find?_eq_some hfn)
   rw[Option.some.inj hf,hdj] at e
   exact absurd e (Qf1 (Nat.le_trans (Nat.pow_le_pow_right (by omega) (by omega)) h1) (by omega))
theorem Qxi (h:Kw d R){k:BitVec 8}(hne:R≠[]){y:Nat × Nat}(hy:y∈Vj k d R):Pp k d y.1 y.2=true:=by
 have h64:=Ve h.1
 have hpow:2^(d+1)=2*2^d:=by rw[Nat.pow_succ,Nat.mul_comm]
 have hy1:=(Ob.1 hy).1
 unfold Pp
 rw[decide_eq_true hy1,Bool.true_and]
 by_cases hk:k=1#8
 · subst hk
   rw[if_pos rfl,(Qjb h hne hy).2.2.2];rfl
 · rw[if_neg hk]
   have hv:=Qgm h hne hy
   have hout:=(Qep h hne hv y).1 ⟨hy,rfl⟩
   have hhd:Wh d R (Yg k d R y)=true:=by
    unfold Yg;rw[if_neg hk]
    exact(Qcz 7 y.1 hy1.1 (by have:=Qaw hy1.1 hy1.2;have:=h.1;omega)).1
   generalize hve:Yg k d R y=v at *
   obtain⟨v1,vl,v2⟩:=Np h hv
   obtain⟨f1,f2,f3,K,f4,f5,f6⟩:=Qak h 7 v v1 vl (by have:=h.1;omega)
   unfold Wi at hout
   rw[if_neg hk,if_pos hhd] at hout
   have cutc:=fun hs=>Qxw (d:=d) (k:=k) (v:=v) (w:=Zy d R 7 v) f4 f5 v1 hs
   generalize hfe:Zy d R 7 v=f at *
   have hflt:f<2^(d+1):=(Nat.log2_lt (by omega)).1 (by omega)
   have two:∀ i j,i<j→j≤K→Zm (f / 2^i) (f / 2^j)=true∧f / 2^i≠f / 2^j∧f / 2^i<2^(d+1)∧f / 2^i≠0:=by
    intro i j hij hj
    have hi1:2^i≤f:=Nat.le_trans (Nat.pow_le_pow_right (by omega) (by omega)) f4
    have hj1:2^j≤f:=Nat.le_trans (Nat.pow_le_pow_right (by omega) (by omega)) f4
    have hp:=Qa2 hi1
    refine⟨(Ys hp).2 ⟨j-i,Ab (by rw[Nat.add_sub_cancel' (by omega)];exact hj1),?_⟩,Qf1 hj1 hij,Nat.lt_of_le_of_lt (Nat.div_le_self _ _) hflt,by omega⟩
    rw[Nat.div_div_eq_div_mul,←Nat.pow_add,Nat.add_sub_cancel' (by omega)]
   by_cases hfv:f=v
   · rw[if_pos hfv] at hout;cases hout
   · rw[if_neg hfv] at hout
     have hK0:0<K:=by
      rcases Nat.eq_zero_or_pos K with e|e
      · subst e;simp at f5;exact absurd f5.symm hfv
      · exact e
     have t0:=two 0 K hK0 (Nat.le_refl _)
     rw[Nat.pow_zero,Nat.div_one,←f5] at t0
     cases hs:Wj k d v f with
     | true=>
      rw[hs,if_pos rfl,List.mem_singleton] at hout
      subst hout
      simp only
      rw[if_neg t0.2.2.2,t0.1,hs,decide_eq_true ⟨t0.2.2.1,t0.2.1⟩];rfl
     | false=>
      rw[hs,if_neg (by simp)] at hout
      obtain⟨j,j1,j2,j3,j4,j5⟩:=cutc hs
      rw[j3] at hout
      have t1:=two j K j2 (Nat.le_refl _)
      have t2:=two 0 j (by omega) (by omega)
      rw[Nat.pow_zero,Nat.div_one] at t2
      rw[←f5] at t1
      rcases List.mem_cons.1 hout with e|e
      · subst e
        simp only
        rw[if_neg t1.2.2.2,t1.1,j5,decide_eq_true ⟨t1.2.2.1,t1.2.1⟩];rfl
      · rw[List.mem_singleton] at e
        subst e
        simp only
        have:Wj k d (f / 2^j) f=true:=by unfold Wj;rw[j4];simp
        rw[if_neg t2.2.2.2,t2.1,this,decide_eq_true ⟨t2.2.2.1,t2.2.1⟩];rfl
theorem Qrx {x:Nat}(h1:1≤x)(hl:Nat.log2 x≤d):∃ u,u<2^d∧Zm (2^d+u) x=true:=by
 have hx1:2^Nat.log2 x≤x:=(Nat.le_log2 (by omega)).1 (Nat.le_refl _)
 have hx2:x<2^(Nat.log2 x+1):=(Nat.log2_lt (by omega)).1 (by omega)
 have hp:2^d=2^Nat.log2 x*2^(d-Nat.log2 x):=by rw[←Nat.pow_add,Nat.add_sub_cancel' hl]
 have hq:=Nat.two_pow_pos (d-Nat.log2 x)
 have hlow:2^d≤x*2^(d-Nat.log2 x):=by rw[hp];exact Nat.mul_le_mul_right _ hx1
 have hhigh:x*2^(d-Nat.log2 x)<2^d+2^d:=by
  have:x*2^(d-Nat.log2 x)<2^(Nat.log2 x+1)*2^(d-Nat.log2 x):=Nat.mul_lt_mul_of_pos_right hx2 hq
  rw[Nat.pow_succ,Nat.mul_right_comm,←hp] at this;omega
 refine⟨x*2^(d-Nat.log2 x)-2^d,by omega,?_⟩
 rw[Nat.add_sub_cancel' hlow]
 exact(Ys (by have:=Nat.two_pow_pos d;omega)).2 ⟨d-Nat.log2 x,Nat.le_mul_of_pos_left _ (by omega),by rw[Nat.mul_div_cancel _ hq]⟩
theorem Xg8 {k:BitVec 8}{n m:Nat}(h6:d≤6)(h:Pp k d n m=true):∃ u,u<2^d∧Lq (2^d+u) n m=true:=by
 have h64:=Ve h6
 have hpow:2^(d+1)=2*2^d:=by rw[Nat.pow_succ,Nat.mul_comm]
 unfold Pp at h
 rw[Bool.and_eq_true,decide_eq_true_eq] at h
 obtain⟨⟨h1,h2⟩,h3⟩:=h
 by_cases hm:m=0
 · obtain⟨u,hu,hb⟩:=Qrx (d:=d) h1 (Qaw h1 h2)
   exact⟨u,hu,Ee.2 ⟨hb,.inl hm⟩⟩
 · by_cases hk:k=1#8
   · rw[if_pos hk] at h3;exact absurd (by simpa using h3) hm
   · rw[if_neg hk,if_neg hm,Bool.and_eq_true,Bool.and_eq_true,decide_eq_true_eq] at h3
     obtain⟨⟨⟨a1,a2⟩,a3⟩,_⟩:=h3
     have hm1:1≤m:=by omega
     obtain⟨t,t1,t2,t3⟩:=Qc4 hm1 h1 a3 a2
     have hm2:2≤m:=Nat.le_trans (by have:=Nat.pow_le_pow_right (n:=2) (by omega) (show 1≤t+1 by omega);simpa using this) t3
     have hl:=Qaw hm1 a1
     have e1:=Qu0 (n:=m) (by omega)
     have e2:=Qi5 (n:=m) (by omega) hm2
     have e3:=Qtz (n:=m) (by omega) hm2
     have e4:=Qn4 (n:=m) (by omega)
     have e5:=Xfm (n:=m) (by omega)
     obtain⟨u,hu,hb⟩:=Qrx (d:=d) (x:=m ^^^ 1) (by omega) (by omega)
     have hL:1≤2^d+u:=by have:=Nat.two_pow_pos d;omega
     refine⟨u,hu,Ee.2 ⟨Qo5 hL hb ((Ys (by omega)).2 ⟨t+1,?_,?_⟩),.inr ?_⟩⟩
     · have:=(Nat.le_log2 (n:=m) (k:=t+1) (by omega)).2 t3
       exact(Nat.le_log2 (by omega)).1 (by omega)
     · rw[t2,Nat.pow_succ,Nat.mul_comm,←Nat.div_div_eq_div_mul,←Nat.div_div_eq_div_mul,e4]
     · cases hb2:Zm (2^d+u) m with
       | false=>rfl
       | true=>exact absurd (Qc3 hL hb hb2 e3) e5
def Va (k:BitVec 8)(d:Nat)(R:List Nat):List (Nat × Nat):=if R=[] then[(1,0)] else Vj k d R
theorem Qxd {k:BitVec 8}:Ro (Va k d R):=by
 unfold Va;split
 · simp[Ro]
 · exact Qeo
theorem Qen (h:Kw d R){k:BitVec 8}{y:Nat × Nat}(hy:y∈Va k d R):Pp k d y.1 y.2=true:=by
 unfold Va at hy;split at hy
 · rw[List.mem_singleton] at hy;subst hy
   unfold Pp
   have:1<2^(d+1):=Nat.lt_of_lt_of_le (by omega) (Nat.pow_le_pow_right (n:=2) (by omega) (show 1≤d+1 by omega))
   rw[decide_eq_true ⟨Nat.le_refl _,this⟩]
   split<;>simp
 · rename_i hne;exact Qxi h hne hy
theorem Qxe (h:Kw d R){k:BitVec 8}{y y':Nat × Nat}(hy:y∈Va k d R)(hy':y'∈Va k d R){u:Nat}(hu:u<2^d)(hm:Lq (2^d+u) y.1 y.2=true)(hm':Lq (2^d+u) y'.1 y'.2=true):y=y':=by
 unfold Va at hy hy';split at hy
 · rename_i hne
   rw[if_pos hne] at hy'
   rw[List.mem_singleton] at hy hy';rw[hy,hy']
 · rename_i hne
   rw[if_neg hne] at hy'
   exact Qxk h hne hy hy' hu hm hm'
end Go.Sx

end
section
set_option linter.unusedVariables false
set_option linter.unusedSimpArgs false
set_option maxRecDepth 100000
namespace Go.Sx
open Go
theorem Fc {τ R:Type}(F:(τ→Option R)→τ→Option R)(I:Nat→τ→Prop)(n:Nat)(r:Option R)(hn:n<9223372036854775808){s:τ}(h0:I 0 s)(hs:∀ j s,j<n→I j s→∃ s',I (j+1) s'∧∀ rec,F rec s=rec s')(he:∀ s,I n s→∀ rec,F rec s=r):Qv F Xb s=r:=
 Qcy F I n r hs he n 0 Xb s (by omega) (Yl hn) h0
section
variable {s:Qj} {d:Nat}
theorem Xg9 (hv:Ju s=true)(hd:s.Depth=(d:Int))(h6:d≤6){n m:Nat}(hs:Pp s.Kind d n m=true):Dw s [⟨(n:Int),(m:Int)⟩]=some (Jq s,0)∧Nx s ⟨(n:Int),(m:Int)⟩=some true∧Lj (Jq s) ⟨(n:Int),(m:Int)⟩=some true∧Mh s ⟨(n:Int),(m:Int)⟩∧Qbw s ⟨(n:Int),(m:Int)⟩ n m:=by
 have hi:=Qrk hv hd h6 n m
 rw[hs] at hi
 rcases Xg6 hv hd h6 ⟨(n:Int),(m:Int)⟩ with⟨_,f1,_⟩|⟨f0,f1,f2,f3,n',m',e,f5,f6⟩
 · rw[hi] at f1;cases f1
 · injection e with e1 e2
   obtain rfl:n=n':=by omega
   obtain rfl:m=m':=by omega
   exact⟨f0,f1,f2,f3,f5⟩
theorem Qja (hv:Ju s=true)(hd:s.Depth=(d:Int)){l:List Int}(h:Ks d l=true):Sj s l=((Va s.Kind d (Xx l)).map Yn,0):=by
 unfold Sj Va Xx
 rw[if_pos hv,hd,Int.toNat_natCast,if_pos h]
 by_cases hl:l=[]
 · rw[if_pos hl,if_pos (by simpa using hl)];rfl
 · rw[if_neg hl,if_neg (by simpa using hl)]
end
end Go.Sx

end
section
set_option linter.unusedVariables false
set_option linter.unusedSimpArgs false
set_option maxRecDepth 100000
namespace Go.Sx
open Go
end Go.Sx

end
section
set_option linter.unusedVariables false
set_option linter.unusedSimpArgs false
set_option maxRecDepth 100000
namespace Go.Sx
open Go
def Qkq (root:W2)(k:BitVec 8)(n m:Nat):W2:=
 if k=1#8 then Xy root (Qs 30#8) (wd (n:Int)) else if m=0 then Xy root (Qs 34#8) 0#64 else Xy ((Jt m (Nat.log2 m-Nat.log2 n)).foldl Rk (Xy root (Qs 30#8) (wd (n:Int)))) (Qs 33#8) 0#64
section
variable {s:Qj} {d:Nat}
theorem Xdv (h6:d≤6){n m:Nat}(hs:Pp s.Kind d n m=true)(root:W2):Bc (Jq s) root ⟨(n:Int),(m:Int)⟩=some (Qkq root s.Kind n m):=by
 obtain⟨hn1,hn2,hm2,hc⟩:=Xg5 h6 hs
 unfold Bc Qkq Ry Qeu
 rw[show(Jq s).kind=s.Kind from rfl]
 by_cases hk:s.Kind=1#8
 · rw[if_pos hk,if_pos hk];rfl
 · rw[if_neg hk,if_neg hk]
   by_cases hm:m=0
   · rw[if_pos (by simp only;omega),if_pos hm]
   · rw[if_neg (by simp only;omega),if_neg hm]
     obtain⟨hb,hne⟩:Zm m n=true∧m≠n:=by
      rcases hc with h|h|h
      · exact absurd h hk
      · exact absurd h hm
      · exact h
     obtain⟨t,t1,t2,t3⟩:=Qc4 (by omega) hn1 hb hne
     have:=Qd3 t3 hm2
     simp only
     rw[bind_some,t1]
     have hd:=Qpg (w:=m) (k:=t+1) (Xy root (Qs 30#8) (wd (n:Int))) (by omega) t3 (by omega)
     rw[←t2] at hd
     rw[hd,bind_some,bind_some]
theorem Xff (hv:Ju s=true)(hd:s.Depth=(d:Int)){u:Nat}(hu:u<2^d)(root:W2):Qbg root s (u:Int)=(Xp.mk (u:Int) (Nz root s.Kind d u) (Xq.mk 0#64 0#64),0):=by
 unfold Qbg
 rw[if_pos hv,hd,Int.toNat_natCast,if_pos (by omega),Int.toNat_natCast]
end
end Go.Sx

end
section
set_option linter.unusedVariables false
set_option linter.unusedSimpArgs false
set_option maxRecDepth 100000
namespace Go.Sx
open Go
theorem Xb3 {α β:Type}(f:α→β){l:List α}{m:List β}(hl:l.Nodup)(hf:∀ a∈l,f a∈m)(hi:∀ a∈l,∀ b∈l,f a=f b→a=b):l.length≤m.length:=by
 have h1:(l.map f).Nodup:=by
  rw[List.Nodup,List.pairwise_map]
  exact hl.imp_of_mem fun ha hb h e=>h (hi _ ha _ hb e)
 have h2:l.map f ⊆ m:=fun b hb=>by
  obtain⟨a,ha,rfl⟩:=List.mem_map.1 hb
  exact hf a ha
 have:=h1.length_le_of_subset h2
 rwa[List.length_map] at this
theorem Qnz {l:List (Nat × Nat)}(h:Ro l):l.Nodup:=h.imp fun h e=>by rw[e] at h;omega
theorem Qcb {d:Nat}{R:List Nat}(h:Kw d R)(k:BitVec 8):(Va k d R).length≤2^d:=by
 have hm:∀ y:Nat × Nat,∃ u,y∈Va k d R→u<2^d∧Lq (2^d+u) y.1 y.2=true:=fun y=>by
  by_cases hy:y∈Va k d R
  · obtain⟨u,h1,h2⟩:=Xg8 h.1 (Qen h hy);exact⟨u,fun _=>⟨h1,h2⟩⟩
  · exact⟨0,fun h=>absurd h hy⟩
 let f:=fun y=>Classical.choose (hm y)
 have hf:∀ y∈Va k d R,f y<2^d∧Lq (2^d+f y) y.1 y.2=true:=fun y hy=>Classical.choose_spec (hm y) hy
 have:=Xb3 f (m:=List.range (2^d)) (Qnz Qxd) (fun y hy=>List.mem_range.2 (hf y hy).1) (fun a ha b hb e=>Qxe h ha hb (hf a ha).1 (hf a ha).2 (by rw[e];exact(hf b hb).2))
 rwa[List.length_range] at this
section
variable {s:Qj} {d:Nat}
def Qg1 (root Ko:W2)(k:BitVec 8)(y:Nat × Nat):Zr:=Zr.mk (Yn y) (Wz (Qkq root k y.1 y.2) Ko)
def Ym (root Ko:W2)(k:BitVec 8)(l:List (Nat × Nat)):Qy:=Qy.mk (l.map (Qg1 root Ko k)) 0#64 [] k0 (Xy Ko (Qs 53#8) 0#64)
theorem Qor (s:Qj):Tj s=some (if Ju s then 0 else 30):=by
 unfold Tj
 rw[Qbk,bind_some]
 cases Ju s<;>rfl
theorem Qzq (hv:Ju s=true)(hd:s.Depth=(d:Int))(h6:d≤6)(l:List (Nat × Nat))(hl:∀ y∈l,Pp s.Kind d y.1 y.2=true)(hlen:l.length<4611686018427387904):Dw s (l.map Yn)=some (Jq s,0):=by
 unfold Dw
 rw[Qbk,bind_some,if_pos hv]
 simp only[Bool.not_true,cond_false]
 refine Fc _ (fun j x=>x=(j:Int)) l.length _ (by omega) rfl ?_ ?_
 · rintro j _ hj rfl
   refine⟨_,rfl,fun rec=>?_⟩
   simp only[Rx]
   rw[if_pos (by simp;omega),Wg (by simpa using hj),bind_some,List.getElem_map,show Yn l[j]=⟨(l[j].1:Int),(l[j].2:Int)⟩ from rfl,(Xg9 hv hd h6 (hl _ (List.getElem_mem hj))).2.2.1,bind_some,Hz (by omega)];rfl
 · rintro _ rfl rec
   simp only[Rx]
   rw[if_neg (by simp)]
theorem Qdp (hv:Ju s=true)(hd:s.Depth=(d:Int))(h6:d≤6)(l:List (Nat × Nat))(hl:∀ y∈l,Pp s.Kind d y.1 y.2=true)(hlen:l.length≤64)(root Ko:W2):Qcd root s (l.map Yn) Ko=some (Ym root Ko s.Kind l,0):=by
 unfold Qcd
 rw[Qor,bind_some,if_pos hv,if_neg (by simp),if_neg (by simp;omega),Qzq hv hd h6 l hl (by omega),bind_some,if_neg (by simp)]
 refine Fc _ (fun j x=>x=((j:Int),(l.take j).map (Qg1 root Ko s.Kind))) l.length _ (by omega) (by simp) ?_ ?_
 · rintro j _ hj rfl
   refine⟨_,rfl,fun rec=>?_⟩
   simp only[Oj]
   rw[if_pos (by simp;omega),Wg (by simpa using hj),bind_some,List.getElem_map,show Yn l[j]=⟨(l[j].1:Int),(l[j].2:Int)⟩ from rfl,Xdv h6 (hl _ (List.getElem_mem hj)),bind_some,Ti (by simp;omega),bind_some,Hz (by omega),Cm l j hj,List.map_append];rfl
 · rintro _ rfl rec
   simp only[Oj]
   rw[if_neg (by simp),List.take_length];rfl
end
end Go.Sx

end
section
set_option linter.unusedVariables false
set_option linter.unusedSimpArgs false
set_option linter.unusedSectionVars false
set_option maxRecDepth 100000
namespace Go.Sx.Po
open Go
def fi (q:Nat)[NeZero q](n:Nat):Fin q:=Fin.ofNat q n
abbrev fe {q:Nat}(a:Fin q):BitVec 64:=bn a.val
section
variable {q:Nat} [NeZero q]
theorem Qr2 (n:Nat):(fi q n).val=n%q:=rfl
theorem Qr1 (a:Fin q):fi q a.val=a:=by apply Fin.ext;rw[Qr2];exact Nat.mod_eq_of_lt a.isLt
theorem Xao (a b:Nat):fi q (a+b)=fi q a+fi q b:=by apply Fin.ext;simp[fi,Fin.ofNat,Fin.add_def]
theorem Xap (a b:Nat):fi q (a*b)=fi q a*fi q b:=by apply Fin.ext;simp[fi,Fin.ofNat,Fin.mul_def]
theorem Qr0 {n:Nat}(h:n<q):(fi q n).val=n:=Nat.mod_eq_of_lt h
end
end Go.Sx.Po

end
section
set_option linter.unusedVariables false
set_option linter.unusedSimpArgs false
set_option maxRecDepth 100000
namespace Go.Sx.Po
open Go
def Ks (d:Nat)(l:List Int):Bool:=(List.range l.length).all fun j=>decide (0≤l.getD j 0∧l.getD j 0<((2^d:Nat):Int))&&(decide (j=0)||decide (l.getD (j-1) 0<l.getD j 0))
theorem getD_some {l:List Int}{j:Nat}(h:j<l.length):l.getD j 0=l[j]:=by simp[List.getD,h]
theorem Qc0 {R:Type}(p:Nat→Bool)(D E:Option R):∀ (l:List Nat) (F:Nat→(Unit→Option R)→Unit→Option R),(∀ a∈l,∀ nx s,F a nx s=bif p a then nx s else E)→Js F (fun _=>D) l ()=bif l.all p then D else E
 | [],F,h=>rfl
 | a::l,F,h=>by
  rw[Fi,h a (by simp),List.all_cons]
  cases p a with
  | false=>rfl
  | true=>rw[cond_true,Bool.true_and];exact Qc0 p D E l F (fun b hb=>h b (by simp[hb]))
theorem Qd5 {d:Nat}{l:List Int}(h:Ks d l=true){j:Nat}(hj:j<l.length):(0≤l[j]∧l[j]<((2^d:Nat):Int))∧(j=0∨l.getD (j-1) 0<l[j]):=by
 have:=List.all_eq_true.1 h j (by simpa using hj)
 rw[Bool.and_eq_true,decide_eq_true_eq,getD_some hj,Bool.or_eq_true,decide_eq_true_eq,decide_eq_true_eq] at this
 exact this
theorem Xc6 {d:Nat}{l:List Int}(h:Ks d l=true):∃ ln:List Nat,l=ln.map (fun n:Nat=>(n:Int))∧(∀ n∈ln,n<2^d)∧ln.Pairwise (· < ·):=by
 refine⟨l.map Int.toNat,?_,?_,?_⟩
 · rw[List.map_map]
   apply List.ext_getElem
   · simp
   · intro i h1 h2
     have:=(Qd5 h h1).1.1
     simp only[List.getElem_map,Function.comp_apply];omega
 · intro n hn
   obtain⟨a,ha,rfl⟩:=List.mem_map.1 hn
   obtain⟨j,hj,rfl⟩:=List.mem_iff_getElem.1 ha
   have:=(Qd5 h hj).1;omega
 · rw[List.pairwise_iff_getElem]
   have key:∀ (m i:Nat) (h2:i+m+1<l.length),l[i]<l[i+m+1]:=by
    intro m
    induction m with
    | zero=>
     intro i h2
     have:=(Qd5 h h2).2
     rw[getD_some (by omega)] at this
     simp only[Nat.add_zero,Nat.add_sub_cancel] at this ⊢
     omega
    | succ m ih=>
     intro i h2
     have h3:=ih i (by omega)
     have:=(Qd5 h h2).2
     rw[getD_some (by omega)] at this
     have e:l[i+(m+1)+1-1]'(by omega)=l[i+m+1]'(by omega):=by congr 1
     rw[e] at this
     omega
   intro i j hi hj hij
   simp only[List.length_map] at hi hj
   simp only[List.getElem_map]
   have h1:=(Qd5 h hi).1
   have h2:=key (j-i-1) i (by omega)
   have e:l[i+(j-i-1)+1]'(by omega)=l[j]:=by congr 1;omega
   rw[e] at h2
   omega
theorem Xc8 {d:Nat}{ln:List Nat}(h1:∀ n∈ln,n<2^d)(h2:ln.Pairwise (· < ·)):Ks d (ln.map fun n:Nat=>(n:Int))=true:=by
 unfold Ks
 rw[List.all_eq_true]
 intro j hj
 have hj':j<ln.length:=by simpa using hj
 have hl:j<(ln.map fun n:Nat=>(n:Int)).length:=by simpa using hj'
 rw[getD_some hl,List.getElem_map]
 have ha:=h1 _ (List.getElem_mem hj')
 rw[Bool.and_eq_true,decide_eq_true_eq,Bool.or_eq_true,decide_eq_true_eq,decide_eq_true_eq]
 refine⟨by omega,?_⟩
 by_cases h0:j=0
 · exact .inl h0
 · right
   rw[getD_some (by simp;omega),List.getElem_map]
   have:=(List.pairwise_iff_getElem.1 h2) (j-1) j (by omega) hj' (by omega)
   omega
end Go.Sx.Po

end
section
set_option linter.unusedVariables false
set_option linter.unusedSimpArgs false
set_option maxRecDepth 100000
namespace Go.Sx.Po
open Go
theorem Xec {b n p:Nat}(hb:b<18446744073709551616)(hn:n<18446744073709551616)(hp:1≤p)(hp2:p<4294967296):Qd6 (bn b) (bn n) (bn p)=some (bn (b^n%p),0):=by
 unfold Qd6 Qgg
 rw[show(1#64)=bn 1 from rfl,if_pos ((Sg (by omega) (by omega)).2 hp),bind_some,show(4294967296#64)=bn 4294967296 from rfl,decide_eq_true ((Wy (by omega) (by omega)).2 hp2)]
 simp only[Bool.not_true,cond_false]
 rw[Qm1 hb hn (by omega) hp2,bind_some]
section
variable {s:Qj} {d t p q g:Nat}
theorem Qt2 (h:Wb s d t p q g){b n:Nat}(hb:b<18446744073709551616)(hn:n<18446744073709551616):Qb6 s (bn b) (bn n)=some (bn (b^n%p)):=by
 obtain⟨p1,p2⟩:=h.pb
 unfold Qb6
 rw[h.grp]
 simp only
 rw[Xec hb hn (by omega) (by omega),bind_some]
end
def fN (root:W2)(q t x:Nat):Nat:=Yk (Pf root q t) x%q
def rN (root:W2)(q:Nat)(nonce:BitVec 64):Nat:=1+(Xy (Xy root (Qs 41#8) nonce) (Qs 3#8) 0#64).1.toNat%(q-1)
def Qc2 (root:W2)(p q g:Nat)(nonce:BitVec 64):Nat:=g^rN root q nonce%p
def ptN (root:W2)(p q t b x:Nat):Xq:=⟨bn x,bn (b^fN root q t x%p)⟩
def xsN (d t:Nat)(ln:List Nat):List Nat:=ln.map (· + 1)++(List.range (t-ln.length)).map fun i=>2^d+1+i
def Zn (root:W2)(d t p q g:Nat)(ln:List Nat)(session:W2)(nonce:BitVec 64):Qy:=
 ⟨[],bn (Qc2 root p q g nonce),(xsN d t ln).map (ptN root p q t (Qc2 root p q g nonce)),Wz (Xy k0 (Qs 42#8) (bn (Qc2 root p q g nonce^fN root q t 0%p))) session,Xy session (Qs 53#8) 0#64⟩
theorem Qbs {d t:Nat}{ln:List Nat}(h:ln.length≤t):(xsN d t ln).length=t:=by simp[xsN];omega
section
variable {s:Qj} {d t p q g:Nat}
theorem Xai (h:Wb s d t p q g)(root:W2)(x:Nat):fN root q t x<q:=Nat.mod_lt _ (by have:=h.qb;omega)
theorem Qw3 (h:Wb s d t p q g)(root:W2)(nonce:BitVec 64):Qc2 root p q g nonce<p:=Nat.mod_lt _ (by have:=h.pb;omega)
theorem Qop (root:W2):(Pf root q t).length=t+1:=by simp[Pf]
theorem Xf1 (h:Wb s d t p q g)(root:W2)(nonce:BitVec 64):1≤rN root q nonce∧rN root q nonce<q:=by
 have hb:=h.big
 have:=Nat.mod_lt (Xy (Xy root (Qs 41#8) nonce) (Qs 3#8) 0#64).1.toNat (show 0<q-1 by have:=Nat.two_pow_pos d;omega)
 unfold rN;omega
theorem Xcl (h:Wb s d t p q g)(root:W2)(nonce:BitVec 64):Mq (Xy root (Qs 41#8) nonce) 0#64 (bn q-1#64)=some (bn (rN root q nonce-1))∧Qhr (Xy root (Qs 41#8) nonce) 0#64 (bn q-1#64)=some (bn (rN root q nonce-1)):=by
 obtain⟨q1,q2⟩:=h.qb
 have hb:=h.big
 have:=Nat.two_pow_pos d
 have ht:=h.t1
 have e:rN root q nonce-1=(Xy (Xy root (Qs 41#8) nonce) (Qs 3#8) 0#64).1.toNat%(q-1):=by unfold rN;omega
 rw[show(1#64)=bn 1 from rfl,Qj5 (by omega) (by omega),Qse _ _ _ (Qeg (by omega) (by omega)),Qtm _ _ _ (Qeg (by omega) (by omega)),Ql0 _ (by omega) (by omega),e]
 exact⟨rfl,rfl⟩
theorem Qkw (h:Wb s d t p q g)(root:W2){b x:Nat}(hb:b<p)(hx:x<q)(it:List Zr)(pts:List Xq)(k1 k2:W2):
 Eu (bn x) s ⟨it,bn b,pts,k1,k2⟩ ((Pf root q t).map bn) (bn q)=some (bn (b^fN root q t x%p)):=by
 obtain⟨q1,q2⟩:=h.qb
 obtain⟨p1,p2⟩:=h.pb
 have hf:=Xai h root x
 have ht:=h.t8
 unfold Eu
 rw[Qj1 q1 q2 hx _ (Qc7 (by omega)) (by rw[Qop];omega),bind_some]
 simp only
 rw[show Yk (Pf root q t) x%q=fN root q t x from rfl,Qt2 h (by omega) (by omega),bind_some]
theorem Qlw (h:Wb s d t p q g)(root:W2)(l:List Int)(session:W2)(nonce:BitVec 64)(hl:l.length<4611686018427387904):
 Qv (Cf root s l session nonce) Xb 0=bif Ks d l then(if s.Degree<(l.length:Int) then some (⟨[],0#64,[],k0,k0⟩,4) else Option.bind (Cg root s) fun x=>Qb3 root s l session nonce x) else some (⟨[],0#64,[],k0,k0⟩,2):=by
 have h64:=Ve h.d6
 have hpp:=Nat.two_pow_pos d
 have:=Qr6 l.length (Cf root s l session nonce) (fun j (_:Unit)=>(j:Int)) (fun j nx u=>bif decide (0≤l.getD j 0∧l.getD j 0<((2^d:Nat):Int))&&(decide (j=0)||decide (l.getD (j-1) 0<l.getD j 0)) then nx u else some (⟨[],0#64,[],k0,k0⟩,2)) (fun _=>if s.Degree<(l.length:Int) then some (⟨[],0#64,[],k0,k0⟩,4) else Option.bind (Cg root s) fun x=>Qb3 root s l session nonce x)
  (fun rec j hj _=>by
   simp only[Cf,Ev]
   rw[if_pos (by omega),Wg hj,bind_some,h.depth,Rf,bind_some,Cl h.d6,getD_some hj,Hz (by omega)]
   by_cases h1:l[j]<0
   · rw[if_pos h1,decide_eq_false (by omega)];rfl
   · rw[if_neg h1]
     by_cases h2:((2^d:Nat):Int)≤l[j]
     · rw[if_pos h2,decide_eq_false (by omega)];rfl
     · rw[if_neg h2,decide_eq_true (show 0≤l[j]∧l[j]<((2^d:Nat):Int) by omega),Bool.true_and]
       by_cases h0:j=0
       · rw[if_neg (by omega),decide_eq_true h0];rfl
       · have hj1:j-1<l.length:=by omega
         rw[if_pos (by omega),Jw (by omega) (by omega),show(j:Int)-1=((j-1:Nat):Int) from by omega,Wg hj1,bind_some,decide_eq_false h0,Bool.false_or,getD_some hj1]
         by_cases h3:l[j]≤l[j-1]
         · rw[decide_eq_true h3,decide_eq_false (by omega)];rfl
         · rw[decide_eq_false h3,decide_eq_true (by omega)];rfl)
  (fun rec _=>by simp only[Cf];rw[if_neg (by omega)]) (f:=Xb) (Yl (by omega)) ()
 rw[show((0:Nat):Int)=0 from rfl] at this
 rw[this,Qc0 _ _ _ _ _ (fun a _ nx u=>rfl)];rfl
theorem Xci (h:Wb s d t p q g)(root:W2)(session:W2)(nonce:BitVec 64){b:Nat}(hb:b<p)(pts:List Xq)(hk:pts.length≤t):
 Qv (Ey s session ((Pf root q t).map bn) (bn b)) Xb (Qc (((2^d:Nat):Int)+1),pts)=some (⟨[],bn b,pts++(List.range (t-pts.length)).map (fun i=>ptN root p q t b (2^d+1+i)),Wz (Xy k0 (Qs 42#8) (bn (b^fN root q t 0%p))) session,Xy session (Qs 53#8) 0#64⟩,0):=by
 have h64:=Ve h.d6
 have hpp:=Nat.two_pow_pos d
 have ht:=h.t8
 have hbig:=h.big
 obtain⟨q1,q2⟩:=h.qb
 refine Fc _ (fun j st=>st=(((2^d+1+j:Nat):Int),pts++(List.range j).map (fun i=>ptN root p q t b (2^d+1+i)))) (t-pts.length) _ (by omega) ?_ ?_ ?_
 · rw[Hz (by omega)];simp
 · rintro j _ hj rfl
   refine⟨_,rfl,fun rec=>?_⟩
   simp only[Ey]
   rw[if_pos (by rw[h.deg];simp;omega),h.grp,Cu]
   simp only
   rw[Qkw h root hb (show 2^d+1+j<q by omega),bind_some,Ti (by simp;omega),bind_some,Hz (by omega),List.range_succ,List.map_append,←List.append_assoc];rfl
 · rintro _ rfl rec
   simp only[Ey]
   rw[if_neg (by rw[h.deg];simp;omega),h.grp,show(0#64)=bn 0 from rfl]
   simp only
   rw[Qkw h root hb (show 0<q by omega),bind_some];rfl
theorem Xas (h:Wb s d t p q g)(root:W2){ln:List Nat}(hl:∀ n∈ln,n<2^d)(hlen:ln.length≤t)(session:W2)(nonce:BitVec 64){b:Nat}(hb:b<p):
 Qv (Ew s (ln.map fun n:Nat=>(n:Int)) session ((Pf root q t).map bn) (bn b)) Xb (0,[])=some (⟨[],bn b,(xsN d t ln).map (ptN root p q t b),Wz (Xy k0 (Qs 42#8) (bn (b^fN root q t 0%p))) session,Xy session (Qs 53#8) 0#64⟩,0):=by
 have h64:=Ve h.d6
 have hpp:=Nat.two_pow_pos d
 have ht:=h.t8
 have hbig:=h.big
 obtain⟨q1,q2⟩:=h.qb
 refine Fc _ (fun j st=>st=((j:Int),(ln.take j).map fun n=>ptN root p q t b (n+1))) ln.length _ (by omega) (by simp) ?_ ?_
 · rintro j _ hj rfl
   refine⟨_,rfl,fun rec=>?_⟩
   have hn:=hl _ (List.getElem_mem hj)
   simp only[Ew]
   rw[if_pos (by simp;omega),Wg (by simpa using hj),bind_some,List.getElem_map,Hz (by omega),Cu,h.grp]
   simp only
   rw[Qkw h root hb (show ln[j]+1<q by omega),bind_some,Ti (by simp;omega),bind_some,Hz (by omega),Cm ln j hj,List.map_append];rfl
 · rintro _ rfl rec
   simp only[Ew]
   rw[if_neg (by simp),h.depth,Rf,bind_some,Cl h.d6,List.take_length,Xci h root session nonce hb _ (by simpa using hlen)]
   simp only[xsN,List.map_append,List.map_map,List.length_map];rfl
theorem Qdp (h:Wb s d t p q g)(e1:Hi s=some true)(root:W2){ln:List Nat}(hl:∀ n∈ln,n<2^d)(ho:ln.Pairwise (· < ·))(hlen:ln.length≤t)(session:W2)(nonce:BitVec 64):
 Tb root s (ln.map fun n:Nat=>(n:Int)) session nonce=some (Zn root d t p q g ln session nonce,0):=by
 have ht:=h.t8
 obtain⟨r1,r2⟩:=Xf1 h root nonce
 obtain⟨p1,p2⟩:=h.pb
 obtain⟨q1,q2⟩:=h.qb
 have hgp:=h.ok.2.2.2.2.1
 unfold Tb
 rw[e1,bind_some]
 simp only[Bool.not_true,cond_false]
 rw[Qlw h root _ session nonce (by simp;omega),Xc8 hl ho,cond_true,if_neg (by rw[h.deg];simp;omega),Qn2 h,bind_some]
 unfold Qb3 Qhl
 rw[h.grp]
 simp only
 rw[(Xcl h root nonce).1,bind_some,show(1#64)=bn 1 from rfl,Ij,show 1+(rN root q nonce-1)=rN root q nonce from by omega,Qt2 h (by omega) (by omega),bind_some]
 have:=Xas h root hl hlen session nonce (Qw3 h root nonce)
 rw[show bn (Qc2 root p q g nonce)=bn (g^rN root q nonce%p) from rfl] at this
 rw[this];rfl
end
end Go.Sx.Po

end
section
set_option linter.unusedVariables false
set_option linter.unusedSimpArgs false
namespace Go.Sx.Po.Cy
open Go
def Vs (l:List (BitVec 8)):BitVec 64:=l.foldl (fun n c=>256#64*n+c.setWidth 64) 0#64
theorem Am (l:List (BitVec 8))(c:BitVec 8):Vs (l++[c])=256#64*Vs l+c.setWidth 64:=by simp[Vs]
theorem Qe0 (l:List (BitVec 8))(hx:l.length≤1000):∀ (m i fuel:Nat),l.length-i=m→i≤l.length→m<fuel→Qv (Ae l) fuel (Vs (l.take i),(i:Int))=some (Vs l)
 | m,i,0,_,_,hf=>by omega
 | 0,i,fuel+1,hm,hi,hf=>by
  rw[Kk];simp only[Ae];rw[if_neg (by omega),List.take_of_length_le (by omega)]
 | m+1,i,fuel+1,hm,hi,hf=>by
  rw[Kk];simp only[Ae]
  rw[if_pos (by omega),Wg (by omega),bind_some,←Am,←Cm _ _ (by omega),Jw (by omega) (by omega)]
  exact Qe0 l hx m (i+1) fuel (by omega) (by omega) (by omega)
theorem Qih (l:List (BitVec 8))(h:l.length≤1000):Qds l=some (Vs l):=Qe0 l h _ 0 Xb rfl (by omega) (Yl (by omega))
theorem Qbh (a:BitVec 64)(c:BitVec 8):(a <<< 8) ||| (c.setWidth 64)=256#64*a+c.setWidth 64:=by
 have e1:256#64*a=a <<< 8:=by
  apply BitVec.eq_of_toNat_eq
  rw[BitVec.toNat_mul,BitVec.toNat_shiftLeft,Nat.shiftLeft_eq,Nat.mul_comm];rfl
 rw[e1]
 symm
 apply BitVec.add_eq_or_of_and_eq_zero
 apply BitVec.eq_of_getLsbD_eq
 intro j hj
 rw[BitVec.getLsbD_and,BitVec.getLsbD_shiftLeft,BitVec.getLsbD_setWidth,BitVec.getLsbD_zero]
 by_cases h:j<8
 · simp[h]
 · simp[BitVec.getLsbD_of_ge c j (by omega)]
theorem Qwy (x:BitVec 64)(k:Nat):(Kj x k).setWidth 64=wd (bt x k):=by
 rw[Qvl]
 apply BitVec.eq_of_toNat_eq
 unfold Kj
 rw[BitVec.toNat_setWidth,BitVec.toNat_setWidth,BitVec.toNat_and]
 have:(255#64:BitVec 64).toNat=2^8-1:=rfl
 rw[this,Nat.and_two_pow_sub_one_eq_mod]
 omega
theorem Co (x:BitVec 64)(k:Nat)(hk:k<8):256#64*(x >>> (64-8*k))+(Kj x k).setWidth 64=x >>> (64-8*(k+1)):=by
 rw[←Qbh,Qwy,Qdy x k hk]
theorem Qv5 (x:BitVec 64):Vs (w8 x)=x:=by
 have h0:=Co x 0 (by decide)
 have h1:=Co x 1 (by decide)
 have h2:=Co x 2 (by decide)
 have h3:=Co x 3 (by decide)
 have h4:=Co x 4 (by decide)
 have h5:=Co x 5 (by decide)
 have h6:=Co x 6 (by decide)
 have h7:=Co x 7 (by decide)
 have hz:x >>> 64=0#64:=by apply BitVec.eq_of_toNat_eq;rw[BitVec.toNat_ushiftRight,Nat.shiftRight_eq_div_pow,Nat.div_eq_of_lt x.isLt];rfl
 simp only[Nat.mul_zero,Nat.sub_zero,hz] at h0
 simp only[Vs,w8,List.foldl_cons,List.foldl_nil,h0,h1,h2,h3,h4,h5,h6,h7]
 simp
theorem Qvn (p:W2):Qtb p=some p:=by
 unfold Qtb
 rw[show((Ze p).take 8).drop 0=w8 p.1 from rfl,show((Ze p).take 16).drop 8=w8 p.2 from rfl,Qih _ (by rw[Qbr];omega),bind_some,Qih _ (by rw[Qbr];omega),bind_some,Qv5,Qv5]
end Go.Sx.Po.Cy

end
section
set_option linter.unusedVariables false
set_option linter.unusedSimpArgs false
set_option linter.unusedSectionVars false
set_option maxRecDepth 100000
namespace Go.Sx.Po
open Go
def Nv (s:Qj)(x:Xq):Bool:=decide (1#64≤x.X)&&decide (x.X<s.Group.Q)&&decide (1#64≤x.Y)&&decide (x.Y<s.Group.P)
end Go.Sx.Po

end
section
set_option linter.unusedVariables false
set_option linter.unusedSimpArgs false
set_option linter.unusedSectionVars false
set_option maxRecDepth 100000
namespace Go.Sx.Po
open Go
open Classical in
noncomputable def iv {q:Nat}[NeZero q](a:Fin q):Fin q:=if h:∃ x,a*x=1 then Classical.choose h else 0
section
variable {q:Nat} [NeZero q]
variable {s:Qj} {d t p g:Nat}
end
end Go.Sx.Po

end
section
set_option linter.unusedVariables false
set_option linter.unusedSimpArgs false
set_option linter.unusedSectionVars false
set_option maxRecDepth 100000
namespace Go.Sx.Po
open Go
section
variable {s:Qj} {d t p q g:Nat}
end
end Go.Sx.Po

end
section
set_option linter.unusedVariables false
set_option linter.unusedSimpArgs false
set_option linter.unusedSectionVars false
set_option maxRecDepth 100000
namespace Go.Sx.Po
open Go
section
variable {q:Nat} [NeZero q]
def evF (l:List (Fin q))(x:Fin q):Fin q:=l.foldr (fun c a=>c+x*a) 0
theorem Xa4 (a:Fin q)(l:List (Fin q))(x:Fin q):evF (a::l) x=a+x*evF l x:=rfl
noncomputable def dd (f:Fin q→Fin q):List (Fin q)→Fin q→Fin q
 | [],x=>f x
 | a::S,x=>(dd f S x-dd f S a)*iv (x-a)
end
end Go.Sx.Po

end
section
set_option linter.unusedVariables false
set_option linter.unusedSimpArgs false
set_option linter.unusedSectionVars false
set_option maxRecDepth 100000
namespace Go.Sx.Po
open Go
section
variable {q:Nat} [NeZero q]
def Hp (f:Nat→Fin q)(n:Nat):List (BitVec 64):=(List.range n).map fun k=>fe (f k)
variable (X Y:Nat→Fin q)
end
end Go.Sx.Po

end
section
set_option linter.unusedVariables false
set_option linter.unusedSimpArgs false
set_option linter.unusedSectionVars false
set_option maxRecDepth 100000
namespace Go.Sx.Po
open Go
section
variable {q:Nat} [NeZero q] (X Y:Nat→Fin q)
variable {s:Qj} {d t p g:Nat}
def seg (a b:Nat):List (Fin q):=(List.range' a (b-a)).map X
end
end Go.Sx.Po

end
section
set_option linter.unusedVariables false
set_option linter.unusedSimpArgs false
set_option linter.unusedSectionVars false
set_option maxRecDepth 100000
namespace Go.Sx.Po
open Go
section
variable {s:Qj} {d t p q g:Nat}
end
section
variable {s:Qj} {d t p q g:Nat}
end
end Go.Sx.Po

end
section
set_option linter.unusedVariables false
set_option linter.unusedSimpArgs false
set_option maxRecDepth 100000
namespace Go.Sx
open Go
end Go.Sx

end
section
set_option linter.unusedVariables false
set_option linter.unusedSimpArgs false
set_option linter.unusedSectionVars false
set_option maxRecDepth 100000
namespace Go.Sx.Po
open Go
theorem Qqi {q:Nat}[NeZero q](x:Fin q):∀ (l:List (Fin q)),fi q (Yk (l.map Fin.val) x.val)=evF l x
 | []=>rfl
 | a::l=>by
  have ih:=Qqi x l
  rw[Xa4,List.map_cons]
  show fi q (a.val+x.val*Yk (l.map Fin.val) x.val)=_
  rw[Xao,Xap,Qr1,Qr1,ih]
section
variable {s:Qj} {d t p q g:Nat}
def cfF (root:W2)(q t:Nat)[NeZero q]:List (Fin q):=(Pf root q t).map (fi q)
theorem Xah [NeZero q](root:W2)(x:Nat)(hx:x<q):fN root q t x=(evF (cfF root q t) (fi q x)).val:=by
 rw[←Qqi]
 unfold fN cfF
 rw[List.map_map,Qr0 hx,Qr2]
 congr 2
 have:∀ c∈Pf root q t,(Fin.val ∘ fi q) c=c:=fun c hc=>Qr0 (Qc7 (by omega) c hc)
 exact((List.map_congr_left this).trans (List.map_id _)).symm
theorem Qtw [NeZero q](h:Wb s d t p q g)(e1:Hi s=some true)(root:W2){u:Nat}(hu:u<2^d):Fz root s (u:Int)=some (⟨(u:Int),[],⟨bn (u+1),fe (evF (cfF root q t) (fi q (u+1)))⟩⟩,0):=by
 have h64:=Ve h.d6
 obtain⟨q1,q2⟩:=h.qb
 have hb:=h.big
 have ht:=h.t8
 have hcl:(Pf root q t).length=t+1:=Qop root
 unfold Fz Ez
 rw[e1,bind_some]
 simp only[Bool.not_true,cond_false]
 rw[if_neg (by omega),h.depth,Rf,bind_some,Cl h.d6,decide_eq_false (by omega),cond_false,Qn2 h,bind_some,h.grp,Cu,show(1#64)=bn 1 from rfl,Ij]
 simp only
 rw[Qj1 q1 q2 (by omega) _ (Qc7 (by omega)) (by omega),bind_some]
 have:=Xah (t:=t) root (u+1) (show u+1<q by omega)
 unfold fN at this
 rw[this]
theorem Xfg (h:Wb s d t p q g)(e1:Hi s=some true)(root:W2){u:Int}(hu:¬ (0≤u∧u<((2^d:Nat):Int))):∃ c,Fz root s u=some (c,2):=by
 have h64:=Ve h.d6
 unfold Fz Ez
 rw[e1,bind_some]
 simp only[Bool.not_true,cond_false]
 by_cases hn:u<0
 · rw[if_pos hn];exact⟨_,rfl⟩
 · rw[if_neg hn,h.depth,Rf,bind_some,Cl h.d6,decide_eq_true (by omega)];exact⟨_,rfl⟩
end
end Go.Sx.Po

end
section
set_option linter.unusedVariables false
set_option linter.unusedSimpArgs false
set_option linter.unusedSectionVars false
set_option maxRecDepth 100000
namespace Go.Sx.Po
open Go
section
variable {p q g:Nat}
end
section
variable {s:Qj} {d t p q g:Nat}
theorem Xfb (root:W2)(s:Qj)(l:List Int)(hl:l.length<4611686018427387904)(session:W2)(nonce:BitVec 64):
 (Ag s=some false∧∃ r,Tb root s l session nonce=some (r,30))∨
 ∃ d t p q g,Wb s d t p q g∧Hi s=some true∧Ag s=some true∧((∃ r,Ks d l=false∧Tb root s l session nonce=some (r,2))∨(∃ r,Ks d l=true∧t<l.length∧Tb root s l session nonce=some (r,4))∨
  ∃ ln:List Nat,l=ln.map (fun n:Nat=>(n:Int))∧Ks d l=true∧(∀ n∈ln,n<2^d)∧ln.Pairwise (· < ·)∧ln.length≤t∧Tb root s l session nonce=some (Zn root d t p q g ln session nonce,0)):=by
 rcases Cq s with⟨e1,e2⟩|⟨e1,e2,d,t,p,q,g,h⟩
 · refine .inl ⟨e2,⟨[],0#64,[],k0,k0⟩,?_⟩
   unfold Tb;rw[e1,bind_some];rfl
 · refine .inr ⟨d,t,p,q,g,h,e1,e2,?_⟩
   cases hb:Ks d l with
   | false=>
    refine .inl ⟨⟨[],0#64,[],k0,k0⟩,rfl,?_⟩
    unfold Tb;rw[e1,bind_some];simp only[Bool.not_true,cond_false];rw[Qlw h root l session nonce hl,hb];rfl
   | true=>
    by_cases hlen:s.Degree<(l.length:Int)
    · refine .inr (.inl ⟨⟨[],0#64,[],k0,k0⟩,rfl,by rw[h.deg] at hlen;omega,?_⟩)
      unfold Tb;rw[e1,bind_some];simp only[Bool.not_true,cond_false];rw[Qlw h root l session nonce hl,hb,cond_true,if_pos hlen]
    · obtain⟨ln,rfl,h1,h2⟩:=Xc6 hb
      rw[h.deg] at hlen
      have h3:ln.length≤t:=by simp at hlen;omega
      exact .inr (.inr ⟨ln,rfl,rfl,h1,h2,h3,Qdp h e1 root h1 h2 h3 session nonce⟩)
end
end Go.Sx.Po

end
section
set_option linter.unusedVariables false
set_option linter.unusedSimpArgs false
set_option linter.unusedSectionVars false
set_option maxRecDepth 100000
namespace Go.Sx.Po
open Go
section
variable {q:Nat} [NeZero q] (X Y:Nat→Fin q)
end
end Go.Sx.Po

end
section
set_option linter.unusedVariables false
set_option linter.unusedSimpArgs false
set_option maxRecDepth 100000
namespace Go.Sx.Po
open Go
end Go.Sx.Po

end
section
set_option linter.unusedVariables false
set_option linter.unusedSimpArgs false
set_option linter.unusedSectionVars false
set_option maxRecDepth 100000
namespace Go.Sx.Po
open Go
section
variable {s:Qj} {d t p q g:Nat}
end
end Go.Sx.Po

end
section
set_option linter.unusedVariables false
set_option linter.unusedSimpArgs false
set_option maxRecDepth 100000
namespace Go.Sx.Ep
open Go Go.Sx
theorem Ea (s:Qj)(h:Qs s.Kind=1∨Qs s.Kind=2∨Qs s.Kind=3∨Qs s.Kind=4):¬ s.Kind<1#8∧¬ (5:Int)≤Qs s.Kind:=by
 refine⟨fun h1=>?_,by omega⟩
 have:=Qna.2 h1
 have e:Qs (1#8)=1:=rfl
 omega
theorem Qut (n:Int):∃ b,Dh n=some b:=by
 unfold Dh
 by_cases h:0≤n
 · rw[if_pos h];exact⟨_,rfl⟩
 · rw[if_neg h];exact⟨_,rfl⟩
def Rr (s:Qj)(d:Nat):Prop:=(Qs s.Kind=1∨Qs s.Kind=2∨Qs s.Kind=3)∧s.Kind≠4#8∧Ju s=true∧s.Depth=(d:Int)∧d≤6
def Mf (s:Qj)(d t p q g:Nat):Prop:=Qs s.Kind=4∧s.Kind=4#8∧Po.Wb s d t p q g∧Hi s=some true
abbrev Ko (root:W2)(n:Int):W2:=Xy root (Qs 50#8) (wd n)
theorem Qox {s:Qj}{l:List Int}(h:(Sj s l).2=0):∃ d:Nat,Ju s=true∧s.Depth=(d:Int)∧d≤6∧Ks d l=true:=by
 unfold Sj at h
 cases hv:Ju s with
 | false=>rw[hv,if_neg (by simp)] at h;exact absurd h (by simp)
 | true=>
  obtain⟨d,hd,h6⟩:=Qbl hv
  rw[hv,if_pos rfl,hd,Int.toNat_natCast] at h
  cases hb:Ks d l with
  | false=>rw[hb,if_neg (by simp)] at h;exact absurd h (by simp)
  | true=>exact⟨d,rfl,hd,h6,hb⟩
theorem Xfd (root:W2)(s:Qj)(n:Int)(l:List Int)(hl:l.length≤1000):∃ x,Gp root s n l=some x∧(x.2=0→
 (∃ d,Rr s d∧Ks d l=true∧x.1=Ym root (Ko root n) s.Kind (Va s.Kind d (Xx l)))∨
 (∃ d t p q g,∃ ln:List Nat,Mf s d t p q g∧l=ln.map (fun n:Nat=>(n:Int))∧(∀ n∈ln,n<2^d)∧ln.Pairwise (· < ·)∧ln.length≤t∧Tb root s l (Ko root n) (wd n)=some (Po.Zn root d t p q g ln (Ko root n) (wd n),0)∧x.1=Po.Zn root d t p q g ln (Ko root n) (wd n))):=by
 obtain⟨tk,ht⟩:=Qut n
 have key:∀ b,(b=true∨(Qs s.Kind=1∨Qs s.Kind=2∨Qs s.Kind=3)∧s.Kind≠4#8∨s.Kind=4#8∧Qs s.Kind=4∧¬ (Qs s.Kind=1∨Qs s.Kind=2∨Qs s.Kind=3))→∃ x,Bh root s n l b=some x∧(x.2=0→
  (∃ d,Rr s d∧Ks d l=true∧x.1=Ym root (Ko root n) s.Kind (Va s.Kind d (Xx l)))∨
  (∃ d t p q g,∃ ln:List Nat,Mf s d t p q g∧l=ln.map (fun n:Nat=>(n:Int))∧(∀ n∈ln,n<2^d)∧ln.Pairwise (· < ·)∧ln.length≤t∧Tb root s l (Ko root n) (wd n)=some (Po.Zn root d t p q g ln (Ko root n) (wd n),0)∧x.1=Po.Zn root d t p q g ln (Ko root n) (wd n))):=by
  intro b hb
  unfold Bh Sw
  cases b with
  | true=>exact⟨_,rfl,fun h=>absurd h (by simp)⟩
  | false=>
   rw[cond_false]
   rcases hb with hb|⟨k1,k4⟩|⟨k4,k1,k0⟩
   · cases hb
   · rw[if_pos k1,(Qek s).1,bind_some]
     cases hv:Ju s with
     | false=>rw[if_neg (show ¬ (false=true) by simp),if_pos (by decide)];exact⟨_,rfl,fun h=>absurd h (by simp)⟩
     | true=>
      rw[if_pos (show(true=true) from rfl),if_neg (by decide),ht,bind_some]
      cases tk with
      | false=>exact⟨_,rfl,fun h=>absurd h (by simp)⟩
      | true=>
       rw[Bool.not_true,cond_false,bind_some]
       unfold Um
       rw[Qsv s l (by omega),bind_some]
       by_cases hc:(Sj s l).2≠0
       · rw[if_pos hc,bind_some];exact⟨_,rfl,fun h=>absurd h hc⟩
       · obtain⟨d,_,hd,h6,hb⟩:=Qox (s:=s) (l:=l) (by omega)
         have h64:=Po.Ve h6
         have hR:=Nw h6 hb
         have hcl:=Qcb hR s.Kind
         have hsub:=fun y (hy:y∈Va s.Kind d (Xx l))=>Qen hR hy
         rw[if_neg hc,Qja hv hd hb]
         simp only
         rw[Qdp hv hd h6 _ hsub (by omega),bind_some,bind_some]
         exact⟨_,rfl,fun _=>.inl ⟨d,⟨k1,k4,hv,hd,h6⟩,hb,rfl⟩⟩
   · rw[if_neg k0,if_pos k1]
     unfold Tp
     rcases Po.Xfb root s l (by omega) (Ko root n) (wd n) with⟨e2,r,hr⟩|⟨d,t,p,q,g,h,e1,e2,hcase⟩
     · have e1:Hi s=some false:=by
        rcases Po.Cq s with⟨a,_⟩|⟨_,b,_⟩
        · exact a
        · rw[b] at e2;cases e2
       rw[e1]
       exact⟨_,rfl,fun h=>absurd h (by simp)⟩
     · rw[e1,bind_some]
       simp only[Bool.not_true,cond_false,bind_some]
       rw[if_neg (by decide),ht,bind_some]
       cases tk with
       | false=>exact⟨_,rfl,fun h=>absurd h (by simp)⟩
       | true=>
        simp only[Bool.not_true,cond_false,bind_some]
        rcases hcase with⟨r,hb,hr⟩|⟨r,hb,Jc,hr⟩|⟨ln,hln,hb,hlb,ho,hlen,hs'⟩
        · rw[hr,bind_some];exact⟨_,rfl,fun h=>absurd h (by simp)⟩
        · rw[hr,bind_some];exact⟨_,rfl,fun h=>absurd h (by simp)⟩
        · rw[hs',bind_some]
          exact⟨_,rfl,fun _=>.inr ⟨d,t,p,q,g,ln,⟨k1,k4,h,e1⟩,hln,hlb,ho,hlen,rfl,rfl⟩⟩
 unfold Gp
 rcases Xbh s.Kind with h|⟨h1,h2,h3,h4,h5,h6⟩|⟨h1,h2,h3⟩
 · by_cases h0:s.Kind<1#8
   · rw[if_pos h0];exact key true (.inl rfl)
   · rw[if_neg h0,decide_eq_true (h.resolve_left h0)];exact key true (.inl rfl)
 · rw[if_neg h5,decide_eq_false h6];exact key false (.inr (.inl ⟨h1,h4⟩))
 · obtain⟨n1,n2⟩:=Ea s (by omega)
   rw[if_neg n1,decide_eq_false n2];exact key false (.inr (.inr ⟨h1,h2,h3⟩))
theorem Qlc {s:Qj}(h:Hi s=some true):Tp s=some 0:=by
 unfold Tp;rw[h];rfl
theorem Xfh {s:Qj}{d t p q g:Nat}[NeZero q](h:Mf s d t p q g)(root:W2)(u:Int):∃ y,Bi root s u=some y∧(y.2=0→∃ w:Nat,u=(w:Int)∧w<2^d∧y.1=⟨(w:Int),[],⟨Po.bn (w+1),Po.fe (Po.evF (Po.cfF root q t) (Po.fi q (w+1)))⟩⟩):=by
 obtain⟨k1,k4,hV,e1⟩:=h
 obtain⟨n1,n2⟩:=Ea s (by omega)
 unfold Bi
 rw[if_neg n1,decide_eq_false n2]
 unfold Ul
 rw[cond_false,if_neg (by omega),if_pos k1,Qlc e1,bind_some,if_neg (by decide)]
 by_cases hur:0≤u∧u<((2^d:Nat):Int)
 · obtain⟨w,rfl⟩:∃ w:Nat,u=(w:Int):=⟨u.toNat,by omega⟩
   have hw:w<2^d:=by omega
   rw[Po.Qtw hV e1 root hw,bind_some]
   exact⟨_,rfl,fun _=>⟨w,rfl,hw,rfl⟩⟩
 · obtain⟨c,hcc⟩:=Po.Xfg hV e1 root hur
   rw[hcc,bind_some]
   exact⟨_,rfl,fun h=>absurd h (by simp)⟩
end Go.Sx.Ep

end
section
set_option linter.unusedVariables false
set_option linter.unusedSimpArgs false
set_option maxRecDepth 100000
namespace Go.Sx.Ep
open Go Go.Sx
theorem goE {τ R:Type}(F:(τ→Option R)→τ→Option R)(I:Nat→τ→Prop)(n:Nat)(r:Option R)(hn:n<9223372036854775808){s:τ}(h0:I 0 s)(hs:∀ j s,j<n→I j s→∃ s',I (j+1) s'∧∀ rec,F rec s=rec s')(he:∀ s,I n s→∀ rec,F rec s=r):Qv F Xb s=r:=
 Qcy F I n r hs he n 0 Xb s (by omega) (Yl hn) h0
def be (x:BitVec 64):Nat→List (BitVec 8)
 | 0=>[]
 | k+1=>((x >>> (8*k)).setWidth 8)::be x k
theorem Pe (x:BitVec 64):∀ k,(be x k).length=k
 | 0=>rfl
 | k+1=>by simp[be,Pe x k]
theorem Qt5 (x:BitVec 64):∀ (k fuel:Nat) (out:List (BitVec 8)),k<fuel→k≤1000→out.length+k≤1000000→Qv (Up x) fuel ((k:Int)-1,out)=some ⟨out++be x k⟩
 | k,0,_,hf,_,_=>by omega
 | 0,fuel+1,out,_,_,_=>by
  rw[Kk];simp only[Up];rw[if_neg (by omega)];simp[be]
 | k+1,fuel+1,out,hf,hk,hl=>by
  rw[Kk];simp only[Up]
  have e1:Jp (Qc (8*(((k+1:Nat):Int)-1)))=some (8*k):=by
   rw[Jw (by omega) (by omega)];unfold Jp;rw[if_pos (by omega)];congr 1;omega
  rw[if_pos (by omega),e1,bind_some,Ti (by simp;omega),bind_some,Jw (by omega) (by omega)]
  have e2:((k+1:Nat):Int)-1-1=(k:Int)-1:=by omega
  rw[e2,Qt5 x k fuel _ (by omega) (by omega) (by simp;omega)]
  simp[be]
theorem Gz (w:Kh)(x:BitVec 64)(k:Nat){kk:Int}(hkk:kk=(k:Int))(hk:k≤1000)(hl:w.out.length+k≤1000000):Di w x kk=some ⟨w.out++be x k⟩:=by
 subst hkk;unfold Di
 rw[Jw (by omega) (by omega)]
 exact Qt5 x k Xb _ (Yl (by omega)) hk hl
theorem be1 (x:BitVec 64):be x 1=[x.setWidth 8]:=by simp[be]
theorem Qo3 (x:BitVec 8):be (x.setWidth 64) 1=[x]:=by
 rw[be1];congr 1
 apply BitVec.eq_of_toNat_eq
 rw[BitVec.toNat_setWidth,BitVec.toNat_setWidth];have:=x.isLt;omega
theorem Qed (n:Int):be (wd n) 1=[Pr n]:=by
 rw[be1];congr 1
 apply BitVec.eq_of_toNat_eq
 unfold wd Pr
 rw[BitVec.toNat_setWidth,BitVec.toNat_ofInt,BitVec.toNat_ofInt];omega
def Wx (x:Zr):Prop:=(0≤x.Subset.Node∧x.Subset.Node≤127)∧0≤x.Subset.Minus∧x.Subset.Minus≤127
instance (x:Zr):Decidable (Wx x):=by unfold Wx;infer_instance
def Av (h:Qy):Prop:=h.Items=[]∧h.Points=[]∧h.Base=0#64∧h.Box=k0∧h.Check=k0
instance (h:Qy):Decidable (Av h):=by unfold Av;infer_instance
def Qby (p:Zl):Prop:=(0≤p.Epoch∧p.Epoch≤1099511627776)∧p.Low=0#8∧p.Number=0#64∧p.Data=[]∧p.Head.Items.length≤64∧p.Head.Points.length≤8∧∀ x∈p.Head.Items,Wx x
instance (p:Zl):Decidable (Qby p):=by unfold Qby;infer_instance
def Qbx (p:Zl):Prop:=p.Epoch=0∧p.Low<4#8∧p.Data.length≤256∧Av p.Head
instance (p:Zl):Decidable (Qbx p):=by unfold Qbx;infer_instance
def VP (p:Zl):Prop:=(p.Kind=1#8∧Qby p)∨(p.Kind=2#8∧Qbx p)
instance (p:Zl):Decidable (VP p):=by unfold VP;infer_instance
theorem ixf (l:List Zr)(hl:l.length<4611686018427387904):∀ (m i fuel:Nat),l.length-i=m→i≤l.length→m<fuel→∃ r,Qv (Aj l) fuel (i:Int)=some r∧(0≤r↔¬ ∀ x∈l.drop i,Wx x)
 | m,i,0,_,_,hf=>by omega
 | 0,i,fuel+1,hm,hi,hf=>by
  rw[Kk];simp only[Aj]
  rw[if_neg (by omega),List.drop_eq_nil_of_le (by omega)]
  exact⟨_,rfl,by simp⟩
 | m+1,i,fuel+1,hm,hi,hf=>by
  have hil:i<l.length:=by omega
  rw[Kk];simp only[Aj]
  have e:Qcr l[i]=some (decide (¬ Wx l[i])):=by
   have h1:Ft l[i].Subset.Node l[i].Subset.Minus<0↔(l[i].Subset.Node<0∨l[i].Subset.Minus<0):=by unfold Ft;split<;>omega
   have h2:127<Yf l[i].Subset.Node l[i].Subset.Minus↔(127<l[i].Subset.Node∨127<l[i].Subset.Minus):=by unfold Yf;split<;>omega
   unfold Qcr
   by_cases c:Ft l[i].Subset.Node l[i].Subset.Minus<0
   · rw[if_pos c,decide_eq_true];rw[h1] at c;unfold Wx;omega
   · rw[if_neg c];rw[h1] at c;congr 1;apply Bool.eq_iff_iff.2;rw[decide_eq_true_iff,decide_eq_true_iff,h2];unfold Wx;omega
  have hd:(∀ x∈l.drop i,Wx x)↔Wx l[i]∧∀ x∈l.drop (i+1),Wx x:=by rw[List.drop_eq_getElem_cons hil,List.forall_mem_cons]
  rw[if_pos (by omega),Wg hil,bind_some,e,bind_some,hd]
  by_cases ho:Wx l[i]
  · rw[decide_eq_false (fun h=>h ho),cond_false,Hz (by omega)]
    obtain⟨r,h1,h2⟩:=ixf l hl m (i+1) fuel (by omega) (by omega) (by omega)
    exact⟨r,h1,by rw[h2];exact⟨fun h h'=>h h'.2,fun h h'=>h ⟨ho,h'⟩⟩⟩
  · rw[decide_eq_true ho,cond_true]
    exact⟨_,rfl,⟨fun _ h=>ho h.1,fun _=>by omega⟩⟩
theorem Qfu (l:List Zr)(hl:l.length<4611686018427387904):Qdz l=some (!decide (∀ x∈l,Wx x)):=by
 unfold Qdz Qia
 obtain⟨r,h1,h2⟩:=ixf l hl _ 0 Xb rfl (by omega) (Yl (by omega))
 rw[show(0:Int)=((0:Nat):Int) from rfl,h1,bind_some]
 congr 1
 have h3:((0:Nat):Int)≤r↔¬ ∀ x∈l,Wx x:=by rw[List.drop_zero] at h2;exact h2
 by_cases h:∀ x∈l,Wx x
 · rw[decide_eq_true h,decide_eq_false (fun h4=>h3.1 h4 h)];rfl
 · rw[decide_eq_false h,decide_eq_true (h3.2 h)];rfl
theorem Qs1 {α:Type}(l:List α):((l.length:Int)=0)↔l=[]:=by
 cases l with
 | nil=>simp
 | cons a l=>simp;omega
theorem Qx1 (p:Zl)(hl:p.Head.Items.length<4611686018427387904):Qa5 p=some (if VP p then 0 else 8):=by
 have h1:Qa5 p=Ss p (decide (Av p.Head)):=by
  unfold Qa5 Av
  simp only[Qs1]
  repeat' split
  all_goals simp[*]
 have h2:∀ b:Bool,Dx b=some (if b=true then 0 else 8):=fun b=>by cases b<;>rfl
 rw[h1]
 unfold Ss
 simp only[h2]
 by_cases hk:p.Kind=1#8
 · rw[if_pos hk]
   have e:Dh p.Epoch=some (decide (0≤p.Epoch∧p.Epoch≤1099511627776)):=by
    unfold Dh;split<;>simp[*]
   rw[e,bind_some,Qfu _ hl]
   have hv:VP p↔Qby p:=by unfold VP;rw[hk];simp
   simp only[hv,Qby,bind_some,Qs1]
   by_cases c1:(0≤p.Epoch∧p.Epoch≤1099511627776)
   · rw[decide_eq_true c1,cond_true]
     by_cases c2:p.Low=0#8
     · by_cases c3:p.Number=0#64
       · by_cases c4:p.Data=[]
         · by_cases c5:p.Head.Items.length≤64
           · by_cases c6:p.Head.Points.length≤8
             · rw[if_pos c2,if_pos c3,if_pos c4,if_pos (by omega),if_pos (by omega)]
               by_cases c7:∀ x∈p.Head.Items,Wx x
               · rw[decide_eq_true c7,if_pos (by rfl),if_pos ⟨c1,c2,c3,c4,c5,c6,c7⟩]
               · rw[decide_eq_false c7,if_neg (by simp),if_neg (fun h=>c7 h.2.2.2.2.2.2)]
             · rw[if_pos c2,if_pos c3,if_pos c4,if_pos (by omega),if_neg (by omega),if_neg (by simp),if_neg (fun h=>c6 h.2.2.2.2.2.1)]
           · rw[if_pos c2,if_pos c3,if_pos c4,if_neg (by omega),if_neg (by simp),if_neg (fun h=>c5 h.2.2.2.2.1)]
         · rw[if_pos c2,if_pos c3,if_neg c4,if_neg (by simp),if_neg (fun h=>c4 h.2.2.2.1)]
       · rw[if_pos c2,if_neg c3,if_neg (by simp),if_neg (fun h=>c3 h.2.2.1)]
     · rw[if_neg c2,if_neg (by simp),if_neg (fun h=>c2 h.2.1)]
   · rw[decide_eq_false c1,cond_false,if_neg (by simp),if_neg (fun h=>c1 h.1)]
 · rw[if_neg hk]
   by_cases hk2:p.Kind=2#8
   · rw[if_pos hk2]
     have hv:VP p↔Qbx p:=by unfold VP;rw[hk2];simp
     simp only[hv,Qbx]
     by_cases c1:p.Epoch=0
     · by_cases c2:p.Low<4#8
       · by_cases c3:p.Data.length≤256
         · rw[if_pos c1,if_pos c2,if_pos (by omega)]
           by_cases c4:Av p.Head
           · rw[decide_eq_true c4,if_pos rfl,if_pos ⟨c1,c2,c3,c4⟩]
           · rw[decide_eq_false c4,if_neg (by simp),if_neg (fun h=>c4 h.2.2.2)]
         · rw[if_pos c1,if_pos c2,if_neg (by omega),if_neg (by simp),if_neg (fun h=>c3 h.2.2.1)]
       · rw[if_pos c1,if_neg c2,if_neg (by simp),if_neg (fun h=>c2 h.2.1)]
     · rw[if_neg c1,if_neg (by simp),if_neg (fun h=>c1 h.1)]
   · rw[if_neg hk2,if_neg (by simp),if_neg]
     rintro(h|h)
     · exact hk h.1
     · exact hk2 h.1
def Ln (x:Zr):List (BitVec 8):=[Pr x.Subset.Node,Pr x.Subset.Minus]++Ze x.Box
def Nv (x:Xq):List (BitVec 8):=be x.X 8++be x.Y 8
def Mn (p:Zl):List (BitVec 8):=
 [p.Kind]++(if p.Kind=2#8 then[p.Low]++(be p.Number 8++(be (wd (p.Data.length:Int)) 2++p.Data))
 else be (wd p.Epoch) 8++([Pr (p.Head.Items.length:Int)]++(p.Head.Items.flatMap Ln++(be p.Head.Base 8++([Pr (p.Head.Points.length:Int)]++(p.Head.Points.flatMap Nv++(Ze p.Head.Box++Ze p.Head.Check)))))))
def bts (p:Zl):List (BitVec 8):=Mn p++Ze p.Mac
def Sm (p:Zl):Prop:=p.Head.Items.length≤1000∧p.Head.Points.length≤1000∧p.Data.length≤100000
theorem Qkn (x:Zr):(Ln x).length=18:=rfl
theorem Qm4 (x:Xq):(Nv x).length=16:=by simp[Nv,Pe]
theorem Uy {α:Type}(f:α→List (BitVec 8))(c:Nat)(hf:∀ a,(f a).length=c):∀ l:List α,(l.flatMap f).length=c*l.length
 | []=>by simp
 | a::l=>by rw[List.flatMap_cons,List.length_append,hf,Uy f c hf l,List.length_cons,Nat.mul_add,Nat.mul_one,Nat.add_comm]
theorem Qr7 {α:Type}(f:α→List (BitVec 8))(l:List α)(j:Nat)(h:j<l.length):(l.take (j+1)).flatMap f=(l.take j).flatMap f++f l[j]:=by rw[Cm l j h,List.flatMap_append];simp
theorem Qo9 (p:Zl)(hs:Sm p):Qa7 p=some (Mn p):=by
 obtain⟨s1,s2,s3⟩:=hs
 unfold Qa7
 rw[Gz (kk:=1) _ _ 1 rfl (by omega) (by simp),bind_some,Qo3]
 unfold Mn
 by_cases hk:p.Kind=2#8
 · rw[if_pos hk,if_pos hk,Gz (kk:=1) _ _ 1 rfl (by omega) (by simp),bind_some,Qo3,Gz (kk:=8) _ _ 8 rfl (by omega) (by simp),bind_some,Gz (kk:=2) _ _ 2 rfl (by omega) (by simp[Pe]),bind_some,Ti (by simp[Pe];omega),bind_some]
   simp
 · rw[if_neg hk,if_neg hk,Gz (kk:=8) _ _ 8 rfl (by omega) (by simp),bind_some,Gz (kk:=1) _ _ 1 rfl (by omega) (by simp[Pe]),bind_some,Qed]
   have hI:∀ j,((p.Head.Items.take j).flatMap Ln).length≤18000:=fun j=>by rw[Uy Ln 18 Qkn,List.length_take];omega
   have hP:∀ j,((p.Head.Points.take j).flatMap Nv).length≤16000:=fun j=>by rw[Uy Nv 16 Qm4,List.length_take];omega
   refine goE _ (fun j x=>x=((j:Int),(⟨[]++[p.Kind]++be (wd p.Epoch) 8++[Pr (p.Head.Items.length:Int)]++(p.Head.Items.take j).flatMap Ln⟩:Kh))) p.Head.Items.length _ (by omega) (by simp) ?_ ?_
   · rintro j _ hj rfl
     refine⟨_,rfl,fun rec=>?_⟩
     have:=hI j
     simp only[Qa8]
     rw[if_pos (by omega),Wg hj,bind_some,Gz (kk:=1) _ _ 1 rfl (by omega) (by simp only[List.length_append,Pe,List.length_cons,List.length_nil,Vq];omega),bind_some,Qed,Gz (kk:=1) _ _ 1 rfl (by omega) (by simp only[List.length_append,Pe,List.length_cons,List.length_nil,Vq];omega),bind_some,Qed]
     unfold Uo
     rw[Ti (by simp only[List.length_append,Pe,List.length_cons,List.length_nil,Vq];omega),bind_some,bind_some,Hz (by omega),Qr7 Ln _ _ hj]
     simp only[Ln,List.append_assoc,List.singleton_append,List.cons_append,List.nil_append]
   · rintro _ rfl rec
     have:=hI p.Head.Items.length
     simp only[Qa8]
     rw[List.take_length] at this ⊢
     rw[if_neg (by omega),Gz (kk:=8) _ _ 8 rfl (by omega) (by simp only[List.length_append,Pe,List.length_cons,List.length_nil,Vq];omega),bind_some,Gz (kk:=1) _ _ 1 rfl (by omega) (by simp only[List.length_append,Pe,List.length_cons,List.length_nil,Vq];omega),bind_some,Qed]
     refine goE _ (fun j x=>x=((j:Int),(⟨[]++[p.Kind]++be (wd p.Epoch) 8++[Pr (p.Head.Items.length:Int)]++p.Head.Items.flatMap Ln++be p.Head.Base 8++[Pr (p.Head.Points.length:Int)]++(p.Head.Points.take j).flatMap Nv⟩:Kh))) p.Head.Points.length _ (by omega) (by simp) ?_ ?_
     · rintro j _ hj rfl
       refine⟨_,rfl,fun rec=>?_⟩
       have h2:=hP j
       simp only[Qa9]
       rw[if_pos (by omega),Wg hj,bind_some,Gz (kk:=8) _ _ 8 rfl (by omega) (by simp only[List.length_append,Pe,List.length_cons,List.length_nil];omega),bind_some,Gz (kk:=8) _ _ 8 rfl (by omega) (by simp only[List.length_append,Pe,List.length_cons,List.length_nil];omega),bind_some,Hz (by omega),Qr7 Nv _ _ hj]
       simp only[Nv,List.append_assoc]
     · rintro _ rfl rec
       have h2:=hP p.Head.Points.length
       simp only[Qa9]
       unfold Uo
       rw[if_neg (by omega),Ti (by simp only[List.length_append,Pe,List.length_cons,List.length_nil,Vq];omega),bind_some,bind_some,Ti (by simp only[List.length_append,Pe,List.length_cons,List.length_nil,Vq];omega),bind_some,bind_some,List.take_length]
       simp only[List.append_assoc,List.nil_append]
theorem Qw4 (p:Zl)(hs:Sm p):(Mn p).length≤200000:=by
 obtain⟨s1,s2,s3⟩:=hs
 unfold Mn
 split
 · simp only[List.length_append,Pe,List.length_cons,List.length_nil];omega
 · simp only[List.length_append,Pe,List.length_cons,List.length_nil,Vq,Uy Ln 18 Qkn,Uy Nv 16 Qm4];omega
theorem Qzo (p:Zl)(hs:Sm p):Su p=some (if VP p then(bts p,0) else([],8)):=by
 have:=Qw4 p hs
 unfold Su
 rw[Qx1 p (by have:=hs.1;omega),bind_some]
 by_cases hv:VP p
 · rw[if_pos hv,if_neg (by simp),Qo9 p hs,bind_some,Ti (by rw[Vq];omega),bind_some,if_pos hv];rfl
 · rw[if_neg hv,if_pos (by decide),if_neg hv]
end Go.Sx.Ep

end
section
set_option linter.unusedVariables false
set_option linter.unusedSimpArgs false
set_option maxRecDepth 100000
namespace Go.Sx.Ep
open Go Go.Sx
abbrev By:=List (BitVec 8)
def Vs (l:By):BitVec 64:=l.foldl (fun n c=>256#64*n+c.setWidth 64) 0#64
theorem Qbh (a:BitVec 64)(c:BitVec 8):(a <<< 8) ||| (c.setWidth 64)=256#64*a+c.setWidth 64:=by
 have e1:256#64*a=a <<< 8:=by
  apply BitVec.eq_of_toNat_eq
  rw[BitVec.toNat_mul,BitVec.toNat_shiftLeft,Nat.shiftLeft_eq,Nat.mul_comm];rfl
 rw[e1]
 symm
 apply BitVec.add_eq_or_of_and_eq_zero
 apply BitVec.eq_of_getLsbD_eq
 intro j hj
 rw[BitVec.getLsbD_and,BitVec.getLsbD_shiftLeft,BitVec.getLsbD_setWidth,BitVec.getLsbD_zero]
 by_cases h:j<8
 · simp[h]
 · simp[BitVec.getLsbD_of_ge c j (by omega)]
theorem Am (l:By)(c:BitVec 8):Vs (l++[c])=256#64*Vs l+c.setWidth 64:=by simp[Vs]
def st:Option By→Mj
 | some t=>⟨t,false⟩
 | none=>⟨[],true⟩
def pN (n:Nat):Option By→By × Option By
 | some t=>if n≤t.length then(t.take n,some (t.drop n)) else(List.replicate n 0#8,none)
 | none=>(List.replicate n 0#8,none)
def pK (o:Option By):W2 × Option By:=(Hr (pN 16 o).1,(pN 16 o).2)
theorem Xde (p:W2):Hr (Ze p)=p:=by have:=Xdd p [];rwa[List.append_nil] at this
theorem Qrm {l:By}(h:l.length=16):Ze (Hr l)=l:=by rw[Qd2 (by omega),List.take_of_length_le (by omega)]
def zP:Zl:=Zl.mk 0#8 0 (Qy.mk [] 0#64 [] k0 k0) 0#8 0#64 [] k0
def Nn (k:BitVec 8)(ep:Int)(hd:Qy)(lo:BitVec 8)(nu:BitVec 64)(da:By)(o:Option By):Zl × Int:=
 if(pK o).2=some []∧VP ⟨k,ep,hd,lo,nu,da,(pK o).1⟩ then(⟨k,ep,hd,lo,nu,da,(pK o).1⟩,0) else(zP,8)
theorem Cu (x:BitVec 64):wd ((x.toNat:Nat):Int)=x:=by
 apply BitVec.eq_of_toNat_eq;unfold wd;rw[BitVec.toNat_ofInt];have:=x.isLt;omega
end Go.Sx.Ep

end
section
set_option linter.unusedVariables false
set_option linter.unusedSimpArgs false
set_option maxRecDepth 100000
namespace Go.Sx.Ep
open Go Go.Sx
section
variable {α:Type}
theorem Xcc {A Z:List α}(h:A.length=Z.length){j:Nat}(hj:j<A.length):(Z.take j++A.drop j)[j]? = A[j]? := by
 rw[List.getElem?_append_right (by simp;omega),List.length_take,Nat.min_eq_left (by omega),Nat.sub_self,List.getElem?_drop,Nat.add_zero]
theorem Xce {A Z:List α}(h:A.length=Z.length){j:Nat}(hj:j<A.length){z:α}(hz:Z[j]? = some z):(Z.take j++A.drop j).set j z=Z.take (j+1)++A.drop (j+1):=by
 rw[List.set_append_right _ _ (by simp;omega),List.length_take,Nat.min_eq_left (by omega),Nat.sub_self,List.drop_eq_getElem_cons hj,List.set_cons_zero,List.take_add_one,hz,List.append_assoc];rfl
theorem Xcd {A Z:List α}(h:A.length=Z.length){j:Nat}(hj:j≤A.length):(Z.take j++A.drop j).length=A.length:=by simp;omega
end
theorem Xau {L:List (BitVec 8)}(hL:L.length=16){i:Nat}{b:BitVec 8}(h:L[i]? = some b):Xr (Ze (Hr L)) (i:Int)=some b:=by
 have:=(List.getElem?_eq_some_iff.1 h).1
 rw[Qrm hL];unfold Xr;rw[if_pos (by omega),Int.toNat_natCast,h]
theorem Xfi {L:List (BitVec 8)}(hL:L.length=16){i:Nat}(hi:i<16)(b:BitVec 8):Qao (Hr L) (i:Int) b=some (Hr (L.set i b)):=by
 unfold Qao;rw[if_pos (by omega),Qrm hL,Int.toNat_natCast]
def Cw (a b:W2):By:=List.zipWith (· ^^^ ·) (Ze a) (Ze b)
def xr (a b:W2):W2:=Hr (Cw a b)
theorem Qnp (a b:W2):(Cw a b).length=16:=by simp[Cw,Vq]
theorem Xi9 {A B:By}(hA:A.length=16)(hB:B.length=16){j:Nat}(hj:j<16):∃ x y,A[j]? = some x∧B[j]? = some y∧(List.zipWith (· ^^^ ·) A B)[j]? = some (x ^^^ y):=by
 have h1:j<A.length:=by omega
 have h2:j<B.length:=by omega
 exact⟨A[j],B[j],List.getElem?_eq_getElem h1,List.getElem?_eq_getElem h2,by rw[List.getElem?_zipWith,List.getElem?_eq_getElem h1,List.getElem?_eq_getElem h2]⟩
theorem Qvp (a b:W2){j:Nat}(hj:j<16):∃ x y,(Ze a)[j]? = some x∧(Ze b)[j]? = some y∧(Cw a b)[j]? = some (x ^^^ y):=Xi9 (Vq a) (Vq b) hj
theorem Xi6 (a:W2):xr a a=k0:=by
 have:Cw a a=List.replicate 16 0#8:=by
  refine List.ext_getElem? fun j=>?_
  by_cases hj:j<16
  · obtain⟨x,y,h1,h2,h3⟩:=Qvp a a hj
    rw[h1] at h2;cases h2
    rw[h3,List.getElem?_replicate,if_pos hj,BitVec.xor_self]
  · rw[List.getElem?_eq_none (by rw[Qnp];omega),List.getElem?_eq_none (by simp;omega)]
 unfold xr;rw[this];decide +kernel
theorem Xi5 (a b:W2):Qca a b=some (xr a b):=by
 unfold Qca
 by_cases h:a=b
 · rw[if_pos h,h,Xi6]
 rw[if_neg h]
 have hl:(Ze a).length=(Cw a b).length:=by rw[Qnp,Vq]
 refine Qrd _ (fun j s=>s=((j:Int),Hr ((Cw a b).take j++(Ze a).drop j))) 16 _ (by omega) ?_ ?_ ?_
 · rw[List.take_zero,List.nil_append,List.drop_zero,Xde];rfl
 · rintro j s hj rfl
   refine⟨_,rfl,fun rec=>?_⟩
   obtain⟨x,y,h1,h2,h3⟩:=Qvp a b hj
   have hm:((Cw a b).take j++(Ze a).drop j).length=16:=(Xcd hl (by rw[Vq];omega)).trans (Vq a)
   have hg:=Xau hm ((Xcc hl (by rw[Vq];omega)).trans h1)
   have hb:Xr (Ze b) (j:Int)=some y:=by unfold Xr;rw[if_pos (by omega),Int.toNat_natCast,h2]
   unfold Iu
   simp only
   rw[if_pos (by omega),hg,bind_some,hb,bind_some,bind_some,Xfi hm hj,bind_some,Xce hl (by rw[Vq];omega) h3,Jw (by omega) (by omega)];rfl
 · rintro s rfl rec
   unfold Iu
   simp only
   rw[if_neg (by omega),List.take_of_length_le (by rw[Qnp];omega),List.drop_eq_nil_of_le (by rw[Vq];omega),List.append_nil];rfl
def por (b:By)(i:Nat):W2:=Hr (pad 16 (b.drop (16*i)))
def Ed (k:W2)(b:By)(n:Nat):W2:=(List.range n).foldl (fun s i=>Wz k (xr s (por b i))) (Xy k (Qs 2#8) (wd (b.length:Int)))
def mcN (k:W2)(b:By):W2:=Ed k b ((b.length+15) / 16)
theorem Xca (k:W2)(b:By)(n:Nat):Ed k b (n+1)=Wz k (xr (Ed k b n) (por b n)):=by unfold Ed;rw[List.range_succ,List.foldl_append,List.foldl_cons,List.foldl_nil]
theorem Xcb (k:W2)(b:By):Ed k b 0=Xy k (Qs 2#8) (wd (b.length:Int)):=by unfold Ed;rw[List.range_zero,List.foldl_nil]
theorem Xc9 (k:W2)(b:By)(h:b.length≤16384):Qc8 k b=some (mcN k b,0):=by
 unfold Qc8
 rw[if_neg (by omega)]
 have key:Qc9 (Xy k (Qs 2#8) (wd (b.length:Int))) b k=some (mcN k b):=by
  unfold Qc9
  refine Qrd _ (fun j s=>s=(b.drop (16*j),Ed k b j)) ((b.length+15) / 16) _ (by omega) (by rw[Xcb,Nat.mul_zero,List.drop_zero]) ?_ ?_
  · rintro j s hj rfl
    refine⟨_,rfl,fun rec=>?_⟩
    unfold Im
    simp only
    have hlen:(b.drop (16*j)).length=b.length-16*j:=List.length_drop
    rw[if_pos (by omega)]
    have hs:La (b.drop (16*j)) (Ru (Ze k0) (b.drop (16*j))) ((b.drop (16*j)).length:Int)=some (b.drop (16*(j+1))):=by
     have hc:Ru (Ze k0) (b.drop (16*j))=((min (b.length-16*j) 16:Nat):Int):=by unfold Ru;rw[hlen,Vq]
     unfold La
     rw[hc,hlen,if_pos (by omega),Int.toNat_natCast,Int.toNat_natCast,List.take_of_length_le (by omega),List.drop_drop]
     congr 1
     by_cases hx:16*(j+1)≤b.length
     · congr 1;omega
     · rw[List.drop_eq_nil_of_le (by omega),List.drop_eq_nil_of_le (by omega)]
    rw[hs,bind_some]
    unfold Qel
    rw[Xi5,bind_some,bind_some,Xca]
    have hp:Gj (Ze k0) (b.drop (16*j))=pad 16 (b.drop (16*j)):=by
     unfold Gj pad
     rw[Vq,show Ze k0=List.replicate 16 0#8 by decide +kernel,List.drop_replicate]
    rw[hp];rfl
  · rintro s rfl rec
    unfold Im
    simp only
    rw[List.drop_eq_nil_of_le (by omega),if_neg (by simp)];rfl
 rw[key,bind_some]
end Go.Sx.Ep

end
section
set_option linter.unusedVariables false
set_option linter.unusedSimpArgs false
set_option maxRecDepth 100000
namespace Go.Sx.Ep
open Go Go.Sx
theorem Qo2 {p:Zl}(hk:p.Kind=1#8):(Mn p).length=51+18*p.Head.Items.length+16*p.Head.Points.length:=by
 unfold Mn
 rw[if_neg (by rw[hk];decide)]
 simp only[List.length_append,Pe,List.length_cons,List.length_nil,Vq,Uy Ln 18 Qkn,Uy Nv 16 Qm4];omega
theorem Xax (k:W2){p:Zl}(hk:p.Kind=1#8)(h1:p.Head.Items.length≤64)(h2:p.Head.Points.length≤8)(h3:p.Data=[]):∃ m,Qcs k p=some m:=by
 unfold Qcs
 rw[Qo9 p ⟨by omega,by omega,by rw[h3];simp⟩,bind_some,Xc9 _ _ (by rw[Qo2 hk];omega),bind_some]
 exact⟨_,rfl⟩
theorem Qfw {root:W2}{s:Qj}{n:Int}{l:List Int}{h:Qy}(hs:Gp root s n l=some (h,0))(h1:h.Items.length≤64)(h2:h.Points.length≤8):∃ m,Bg root s n l=some (⟨1#8,n,h,0#8,0#64,[],m⟩,0):=by
 unfold Bg
 rw[hs,bind_some,if_neg (by simp)]
 unfold Sw
 rw[bind_some]
 obtain⟨m,hm⟩:=Xax (Xy root (Qs 50#8) (wd n)) (p:=⟨1#8,n,h,0#8,0#64,[],k0⟩) rfl h1 h2 rfl
 exact⟨m,by rw[hm];rfl⟩
theorem Qfd {n:Int}{h:Qy}(m:W2)(hn:0≤n∧n≤1099511627776)(h1:h.Items.length≤64)(h2:h.Points.length≤8)(h3:∀ x∈h.Items,Wx x):∃ b,Su ⟨1#8,n,h,0#8,0#64,[],m⟩=some (b,0)∧b.length=67+18*h.Items.length+16*h.Points.length:=by
 have hv:VP ⟨1#8,n,h,0#8,0#64,[],m⟩:=.inl ⟨rfl,hn,rfl,rfl,rfl,h1,h2,h3⟩
 refine⟨bts ⟨1#8,n,h,0#8,0#64,[],m⟩,?_,?_⟩
 · rw[Qzo _ ⟨by show h.Items.length≤1000;omega,by show h.Points.length≤1000;omega,by simp⟩,if_pos hv]
 · unfold bts
   rw[List.length_append,Qo2 rfl,Vq];show 51+18*h.Items.length+16*h.Points.length+16=_;omega
theorem Qie {n:Int}(h:Dh n=some true):0≤n∧n≤1099511627776:=by
 unfold Dh at h
 split at h
 · rename_i h1
   exact⟨h1,of_decide_eq_true (Option.some.inj h)⟩
 · cases h
theorem Qtv {s:Qj}{d:Nat}(h:Rr s d)(root:W2)(n:Int)(l:List Int){tk:Bool}(ht:Dh n=some tk):Gp root s n l=if tk=true then Option.bind (Um root s l (Ko root n) (wd n)) fun x5=>some (x5.1,x5.2) else some (Qy.mk [] 0#64 [] k0 k0,2):=by
 obtain⟨k1,k4,hv,hd,h6⟩:=h
 obtain⟨n1,n2⟩:=Ea s (by omega)
 unfold Gp
 rw[if_neg n1,decide_eq_false n2]
 unfold Bh Sw
 rw[cond_false,if_pos k1,(Qek s).1,bind_some,hv,if_pos rfl,if_neg (by decide),ht,bind_some]
 cases tk<;>rfl
theorem Qxj {s:Qj}{d:Nat}(h:Rr s d){l:List Int}(hb:Ks d l=true)(hl:l.length≤1000)(root ss:W2)(x:BitVec 64):Um root s l ss x=some (Ym root ss s.Kind (Va s.Kind d (Xx l)),0):=by
 obtain⟨k1,k4,hv,hd,h6⟩:=h
 have h64:=Po.Ve h6
 have hR:=Nw h6 hb
 have hcl:=Qcb hR s.Kind
 have hsub:=fun y (hy:y∈Va s.Kind d (Xx l))=>Qen hR hy
 unfold Um
 rw[Qsv s l (by omega),bind_some,Qja hv hd hb,if_neg (by simp)]
 simp only
 rw[Qdp hv hd h6 _ hsub (by omega),bind_some]
theorem Xfe {s:Qj}{d:Nat}(h:Rr s d){l:List Int}(hb:Ks d l=true)(hl:l.length≤1000)(root:W2){n:Int}(ht:Dh n=some true):Gp root s n l=some (Ym root (Ko root n) s.Kind (Va s.Kind d (Xx l)),0):=by
 rw[Qtv h root n l ht,if_pos rfl,Qxj h hb hl,bind_some]
theorem Qtu {s:Qj}{d t p q g:Nat}(h:Mf s d t p q g)(root:W2)(n:Int)(l:List Int){tk:Bool}(ht:Dh n=some tk):Gp root s n l=if tk=true then Option.bind (Tb root s l (Ko root n) (wd n)) fun x=>some (x.1,x.2) else some (Qy.mk [] 0#64 [] k0 k0,2):=by
 obtain⟨k1,k4,hV,e1⟩:=h
 obtain⟨n1,n2⟩:=Ea s (by omega)
 unfold Gp
 rw[if_neg n1,decide_eq_false n2]
 unfold Bh Sw
 rw[cond_false,if_neg (by omega),if_pos k1,Qlc e1,bind_some,if_neg (by decide),ht,bind_some]
 cases tk<;>rfl
theorem Xfc {s:Qj}{d t p q g:Nat}(h:Mf s d t p q g)(root:W2){n:Int}(ht:Dh n=some true):Gp root s n []=some (Po.Zn root d t p q g [] (Ko root n) (wd n),0):=by
 have:=Po.Qdp h.2.2.1 h.2.2.2 root (ln:=[]) nofun List.Pairwise.nil (Nat.zero_le _) (Ko root n) (wd n)
 rw[Qtu h root n [] ht,if_pos rfl,show([]:List Int)=([]:List Nat).map (fun n:Nat=>(n:Int)) from rfl,this,bind_some]
theorem Xg7 {k:BitVec 8}{d n m:Nat}(h7:2^(d+1)≤128)(h:Pp k d n m=true):n<128∧m<128:=by
 unfold Pp at h
 rw[Bool.and_eq_true,decide_eq_true_eq] at h
 refine⟨by omega,?_⟩
 have h2:=h.2
 split at h2
 · have:=of_decide_eq_true h2;omega
 · split at h2
   · omega
   · rw[Bool.and_eq_true,Bool.and_eq_true,decide_eq_true_eq] at h2;omega
theorem Qsl {d:Nat}{R:List Nat}(hR:Kw d R)(root ss:W2)(k:BitVec 8):∀ x∈(Ym root ss k (Va k d R)).Items,Wx x:=by
 intro x hx
 obtain⟨y,hy,rfl⟩:=List.mem_map.1 hx
 have hs:=Qen hR hy
 have h6:=hR.1
 have h7:2^(d+1)≤128:=Nat.le_trans (Nat.pow_le_pow_right (by omega) (show d+1≤7 by omega)) (by decide)
 have hb:y.1<128∧y.2<128:=Xg7 h7 hs
 show Wx (Qg1 root ss k y)
 unfold Wx Qg1 Yn
 exact⟨⟨by show(0:Int)≤(y.1:Int);omega,by show(y.1:Int)≤127;omega⟩,by show(0:Int)≤(y.2:Int);omega,by show(y.2:Int)≤127;omega⟩
theorem Qfv (root:W2)(s:Qj)(n:Int)(l:List Int)(hl:l.length≤1000):∃ x,Bg root s n l=some x∧(x.2=0→Dh n=some true∧
 ((∃ d,Rr s d∧Ks d l=true∧∃ m,x.1=⟨1#8,n,Ym root (Ko root n) s.Kind (Va s.Kind d (Xx l)),0#8,0#64,[],m⟩)∨
 (∃ d t p q g,∃ ln:List Nat,Mf s d t p q g∧l=ln.map (fun n:Nat=>(n:Int))∧(∀ n∈ln,n<2^d)∧ln.Pairwise (· < ·)∧ln.length≤t∧∃ m,x.1=⟨1#8,n,Po.Zn root d t p q g ln (Ko root n) (wd n),0#8,0#64,[],m⟩))):=by
 obtain⟨y,y1,y2⟩:=Xfd root s n l hl
 by_cases h0:y.2=0
 · obtain⟨h,e⟩:=y
   simp only at h0
   subst h0
   obtain⟨tk,ht⟩:=Qut n
   rcases y2 rfl with⟨d,hT,hb,hx⟩|⟨d,t,p,q,g,ln,hP,rfl,hlb,ho,hlen,_,hx⟩
   · have htk:tk=true:=by
      cases tk with
      | true=>rfl
      | false=>rw[Qtv hT root n l ht,if_neg (by simp)] at y1;have:=congrArg Prod.snd (Option.some.inj y1);simp at this
     subst htk
     simp only at hx
     subst hx
     have hR:=Nw hT.2.2.2.2 hb
     have hcl:=Qcb hR s.Kind
     have h64:=Po.Ve hT.2.2.2.2
     obtain⟨m,hm⟩:=Qfw y1 (by unfold Ym;rw[List.length_map];omega) (by unfold Ym;simp)
     exact⟨_,hm,fun _=>⟨ht,.inl ⟨d,hT,hb,m,rfl⟩⟩⟩
   · have htk:tk=true:=by
      cases tk with
      | true=>rfl
      | false=>rw[Qtu hP root n _ ht,if_neg (by simp)] at y1;have:=congrArg Prod.snd (Option.some.inj y1);simp at this
     subst htk
     simp only at hx
     subst hx
     have ht8:=hP.2.2.1.t8
     obtain⟨m,hm⟩:=Qfw y1 (by unfold Po.Zn;simp) (by unfold Po.Zn;rw[List.length_map,Po.Qbs hlen];omega)
     exact⟨_,hm,fun _=>⟨ht,.inr ⟨d,t,p,q,g,ln,hP,rfl,hlb,ho,hlen,m,rfl⟩⟩⟩
 · refine⟨(Zl.mk 0#8 0 (Qy.mk [] 0#64 [] k0 k0) 0#8 0#64 [] k0,y.2),?_,fun h=>absurd h h0⟩
   unfold Bg
   rw[y1,bind_some,if_pos h0]
end Go.Sx.Ep

end
