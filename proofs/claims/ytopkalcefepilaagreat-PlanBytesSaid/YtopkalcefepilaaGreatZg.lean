/- Several texts in one: Bd Pt Pu Be Pw Pg Pv5 Ala LawBy. -/
import Derived.Test.YtopkalcefepilaaGreatZf
import Derived.Test.YtopkalcefepilaaGreatZd
import Derived.Test.YtopkalcefepilaaGreatZe
import Derived.KernelRfl
set_option linter.unusedVariables false
set_option linter.unusedSimpArgs false
section
set_option linter.unusedVariables false
set_option linter.unusedSimpArgs false
set_option maxRecDepth 100000
namespace Go.Sx
open Go
variable {d:Nat} {R:List Nat}
theorem Qjn (x t:Nat):x / 2^(t+1)=x / 2 / 2^t:=by rw[Nat.div_div_eq_div_mul,Nat.pow_succ,Nat.mul_comm 2 (2^t)]
def Dl:Nat→Nat→List Nat
 | 0,v=>[v]
 | h+1,v=>v::(Dl h (2*v)++Dl h (2*v+1))
theorem Ql1:∀ (h j v x:Nat),j≤h→x / 2^j=v→x∈Dl h v
 | 0,j,v,x,hj,hx=>by
  obtain rfl:j=0:=by omega
  simp at hx;simp[Dl,hx]
 | h+1,0,v,x,hj,hx=>by simp at hx;simp[Dl,hx]
 | h+1,j+1,v,x,hj,hx=>by
  rw[Sr] at hx
  unfold Dl
  rw[List.mem_cons,List.mem_append]
  right
  rcases(show x / 2^j=2*v∨x / 2^j=2*v+1 by omega) with h1|h1
  · exact .inl (Ql1 h j _ x (by omega) h1)
  · exact .inr (Ql1 h j _ x (by omega) h1)
def Gy (k:BitVec 8)(d:Nat)(R:List Nat)(v:Nat):List (Nat × Nat):=if Xv d R v=true then Wi k d R v else[]
def Wq (k:BitVec 8)(d:Nat)(R:List Nat)(v:Nat):Nat:=(Gy k d R v).length
def Ri (k:BitVec 8)(d:Nat)(R:List Nat)(l:List Nat):Nat:=(l.map (Wq k d R)).sum
def Sf (k:BitVec 8)(d:Nat)(R:List Nat):Nat→Nat→Nat
 | 0,_=>0
 | h+1,v=>Ri k d R (Dl h (2*v))+Ri k d R (Dl h (2*v+1))
theorem Qj4 {k:BitVec 8}(h v:Nat):Sf k d R (h+1) v=Ri k d R (Dl h (2*v))+Ri k d R (Dl h (2*v+1)):=rfl
theorem Qw6 {k:BitVec 8}(v:Nat):Sf k d R 0 v=0:=rfl
theorem Ly {k:BitVec 8}(h v:Nat):Ri k d R (Dl h v)=Wq k d R v+Sf k d R h v:=by
 cases h with
 | zero=>simp[Dl,Ri,Sf]
 | succ h=>simp[Dl,Ri,Sf,List.sum_append]
theorem Iz (hr:Kw d R){k:BitVec 8}:∀ (h v:Nat),1≤v→Xv d R v=false→Ri k d R (Dl h v)=0
 | 0,v,hv,hh=>by simp[Dl,Ri,Wq,Gy,hh]
 | h+1,v,hv,hh=>by
  have hc:∀ b,b<2→Xv d R (2*v+b)=false:=fun b hb=>by
   cases hx:Xv d R (2*v+b) with
   | false=>rfl
   | true=>
    have:=Qfx hr hx (by omega)
    rw[show(2*v+b) / 2=v by omega,hh] at this;cases this
  have h0:=Iz hr (k:=k) h (2*v) (by omega) (hc 0 (by omega))
  have h1:=Iz hr (k:=k) h (2*v+1) (by omega) (hc 1 (by omega))
  rw[Ly,Qj4,h0,h1];simp[Wq,Gy,hh]
theorem Qxg (hr:Kw d R)(hne:R≠[])(k:BitVec 8):(Vj k d R).length≤Wq k d R 1+Sf k d R d 1:=by
 rw[←Ly]
 have hs:Vj k d R ⊆ (Dl d 1).flatMap (Gy k d R):=fun y hy=>by
  have hh:=Qgm hr hne hy
  have ho:=(Qep hr hne hh y).1 ⟨hy,rfl⟩
  obtain⟨h1,h2,h3⟩:=Np hr hh
  rw[List.mem_flatMap]
  exact⟨Yg k d R y,Ql1 d (Nat.log2 (Yg k d R y)) 1 _ h2 (by
   rw[←Nat.shiftRight_eq_div_pow]
   have e1:=Nat.log2_self_le (n:=Yg k d R y) (by omega)
   have e2:=Nat.lt_log2_self (n:=Yg k d R y)
   rw[Nat.shiftRight_eq_div_pow]
   rw[Nat.pow_succ] at e2
   exact Nat.div_eq_of_lt_le (by omega) (by omega)),by unfold Gy;rw[if_pos hh];exact ho⟩
 have:=(Qnz (Qeo (d:=d) (R:=R) (k:=k))).length_le_of_subset hs
 rw[List.length_flatMap] at this
 exact this
def Yj (d:Nat)(R:List Nat)(v:Nat):Nat:=R.countP fun u=>Zm (2^d+u) v
theorem Fg {v:Nat}:Xv d R v=true↔0<Yj d R v:=by
 unfold Xv Yj
 rw[List.any_eq_true,List.countP_pos_iff]
theorem Qxb (hr:Kw d R):Yj d R 1=R.length:=by
 unfold Yj
 rw[List.countP_eq_length]
 intro u hu
 obtain⟨h1,h2,h3⟩:=hr.leaf hu
 refine(Ys h1).2 ⟨Nat.log2 (2^d+u),Nat.log2_self_le (by omega),?_⟩
 have e1:=Nat.log2_self_le (n:=2^d+u) (by omega)
 have e2:=Nat.lt_log2_self (n:=2^d+u)
 rw[Nat.pow_succ] at e2
 exact(Nat.div_eq_of_lt_le (by omega) (by omega)).symm
theorem Qou {α:Type}(p q r:α→Bool):∀ (l:List α),(∀ a∈l,p a=(q a||r a)∧¬ (q a=true∧r a=true))→l.countP p=l.countP q+l.countP r
 | [],_=>rfl
 | a::l,h=>by
  have h1:=Qou p q r l fun b hb=>h b (by simp[hb])
  obtain⟨h2,h3⟩:=h a (by simp)
  rw[List.countP_cons,List.countP_cons,List.countP_cons,h1,h2]
  cases hq:q a<;>cases hrr:r a<;>simp_all<;>omega
theorem Qj9 (hr:Kw d R){v:Nat}(hv:1≤v)(hl:Nat.log2 v<d):Yj d R v=Yj d R (2*v)+Yj d R (2*v+1):=by
 unfold Yj
 refine Qou _ _ _ R fun u hu=>?_
 obtain⟨h1,h2,h3⟩:=hr.leaf hu
 refine⟨Qef h1 (by omega) hv,fun⟨ha,hb⟩=>?_⟩
 have e0:=Tn hv (b:=0) (by omega)
 have e1:=Tn hv (b:=1) (by omega)
 have:=Qc3 h1 ha hb (by rw[e1];simpa using e0)
 omega
theorem Mr (hr:Kw d R)(hn:R.Nodup):∀ (h v:Nat),1≤v→Nat.log2 v+h=d→Yj d R v≤2^h
 | 0,v,hv,hl=>by
  unfold Yj
  rw[List.countP_eq_length_filter]
  have:(R.filter fun u=>Zm (2^d+u) v) ⊆ [v-2^d]:=fun u hu=>by
   obtain⟨h1,h2⟩:=List.mem_filter.1 hu
   obtain⟨h3,h4,h5⟩:=hr.leaf h1
   have:=Qc3 h3 h2 (Qwc h3) (by rw[h5];omega)
   simp;omega
  have hn2:(R.filter fun u=>Zm (2^d+u) v).Nodup:=List.Pairwise.filter _ hn
  have:=hn2.length_le_of_subset this
  simpa using this
 | h+1,v,hv,hl=>by
  have e0:=Tn hv (b:=0) (by omega)
  have e1:=Tn hv (b:=1) (by omega)
  rw[Qj9 hr hv (by omega),Nat.pow_succ]
  have h0:=Mr hr hn h (2*v) (by omega) (by simp at e0;omega)
  have h1:=Mr hr hn h (2*v+1) (by omega) (by omega)
  omega
theorem Qee (hr:Kw d R)(hn:R.Nodup)(T:Nat→Nat→Nat)(h00:∀ h,h≤d→1≤T h 0)(hs:∀ h a b,h<d→a≤2^h→b≤2^h→0<a+b→T h a+T h b≤T (h+1) (a+b)):
 ∀ (h v:Nat),1≤v→Nat.log2 v+h=d→Xv d R v=true→Sf 1#8 d R h v≤T h (Yj d R v)
 | 0,v,hv,hl,hh=>by rw[Qw6];omega
 | h+1,v,hv,hl,hh=>by
  have h64:=Ve hr.1
  have hv64:v<64:=by have:=(Ql4 (d:=d) hv).2 (by omega);omega
  have e0:=Tn hv (b:=0) (by omega)
  have e1:=Tn hv (b:=1) (by omega)
  rw[Nat.add_zero] at e0
  have c0:=Mr hr hn h (2*v) (by omega) (by omega)
  have c1:=Mr hr hn h (2*v+1) (by omega) (by omega)
  have hc:=Qj9 hr hv (by omega)
  have hT:=hs h (Yj d R (2*v)) (Yj d R (2*v+1)) (by omega) c0 c1 (by have:=Fg.1 hh;omega)
  have z0:=h00 h (by omega)
  rw[hc,Qj4,Ly,Ly]
  cases x0:Xv d R (2*v) with
  | false=>
   have y0:=Iz hr (k:=1#8) h (2*v) (by omega) x0
   rw[Ly] at y0
   have n0:Yj d R (2*v)=0:=by have:=(Fg (d:=d) (R:=R) (v:=2*v)).2;cases Nat.eq_zero_or_pos (Yj d R (2*v)) with|inl h=>exact h|inr h=>rw[this h] at x0;cases x0
   cases x1:Xv d R (2*v+1) with
   | false=>
    have:=Qd0 hr hv (by omega);rw[hh,x0,x1] at this;cases this
   | true=>
    have i1:=Qee hr hn T h00 hs h (2*v+1) (by omega) (by omega) x1
    have o1:Wq 1#8 d R (2*v+1)=1:=by
     unfold Wq Gy Wi;rw[if_pos x1,if_pos rfl,Sp hv64,if_pos ⟨by omega,x0⟩];rfl
    rw[n0] at hT ⊢
    omega
  | true=>
   have i0:=Qee hr hn T h00 hs h (2*v) (by omega) (by omega) x0
   cases x1:Xv d R (2*v+1) with
   | false=>
    have y1:=Iz hr (k:=1#8) h (2*v+1) (by omega) x1
    rw[Ly] at y1
    have n1:Yj d R (2*v+1)=0:=by have:=(Fg (d:=d) (R:=R) (v:=2*v+1)).2;cases Nat.eq_zero_or_pos (Yj d R (2*v+1)) with|inl h=>exact h|inr h=>rw[this h] at x1;cases x1
    have o0:Wq 1#8 d R (2*v)=1:=by
     unfold Wq Gy Wi;rw[if_pos x0,if_pos rfl,Sn hv64,if_pos ⟨by omega,x1⟩];rfl
    rw[n1] at hT ⊢
    omega
   | true=>
    have i1:=Qee hr hn T h00 hs h (2*v+1) (by omega) (by omega) x1
    have o0:Wq 1#8 d R (2*v)=0:=by
     unfold Wq Gy Wi;rw[if_pos x0,if_pos rfl,Sn hv64,if_neg (by rw[x1];simp)];rfl
    have o1:Wq 1#8 d R (2*v+1)=0:=by
     unfold Wq Gy Wi;rw[if_pos x1,if_pos rfl,Sp hv64,if_neg (by rw[x0];simp)];rfl
    omega
def Dm (k:BitVec 8)(d v K:Nat):Nat:=if K=0 then 0 else if k=2#8∨Kr d (v / 2^K)=true then 1 else if(List.range (K-1)).all (fun j => !Kr d (v / 2^(j+1))) then 2 else 3
def Ef (st:Nat):Nat:=if st=0 then 0 else if st=3 then 2 else 1
def Ig (k:BitVec 8)(d v st:Nat):Nat:=if k=2#8 then 1 else if st=0 then(if Kr d v then 1 else 2) else if st=2 then(if Kr d v then 3 else 2) else st
theorem Qu4 {k:BitVec 8}{v c K:Nat}(hc:c / 2=v):Dm k d c (K+1)=Ig k d v (Dm k d v K):=by
 have e:∀ j,c / 2^(j+1)=v / 2^j:=fun j=>by rw[Qjn,hc]
 unfold Dm Ig
 rw[if_neg (by omega),e K]
 by_cases hk:k=2#8
 · rw[if_pos (.inl hk),if_pos hk]
 · rw[if_neg (c:=k=2#8) hk]
   cases K with
   | zero=>
    simp only[Nat.pow_zero,Nat.div_one,hk,false_or,if_true,Nat.zero_add,Nat.sub_self,List.range_zero,List.all_nil]
   | succ K=>
    simp only[Nat.add_one_ne_zero,if_false,hk,false_or]
    by_cases hs:Kr d (v / 2^(K+1))=true
    · rw[if_pos hs,if_pos hs,if_neg (by decide),if_neg (by decide)]
    · rw[if_neg hs,if_neg hs]
      have ha:((List.range (K+1+1-1)).all fun j => !Kr d (c / 2^(j+1)))=(!Kr d v&&(List.range (K+1-1)).all fun j => !Kr d (v / 2^(j+1))):=by
       rw[show K+1+1-1=K+1 from rfl,show K+1-1=K from rfl,List.range_succ_eq_map,List.all_cons,List.all_map]
       rw[show c / 2^(0+1)=v by rw[e];simp]
       congr 1
       refine congrArg (List.all (List.range K)) (funext fun j=>?_)
       show(!Kr d (c / 2^(j+1+1)))=_
       rw[e]
      rw[ha]
      cases hv:Kr d v<;>cases hb:((List.range (K+1-1)).all fun j => !Kr d (v / 2^(j+1)))<;>simp
theorem Qrg (hr:Kw d R){k:BitVec 8}(hk:k≠1#8){v K:Nat}(hv:1≤v)(h2:2^K≤v)(hv128:v<128)(hK:K≤7)(hd:Wh d R (v / 2^K)=true)(hh:Xv d R v=true)(hc:∀ t,t<K→Xv d R (v / 2^t)=true∧Xv d R ((v / 2^t) ^^^ 1)=false)(hb:Da d R v=false):
 Wq k d R (v / 2^K)=Ef (Dm k d v K):=by
 have hf:Zy d R 7 (v / 2^K)=v:=by
  have:=Qra hv128 K (7-K) h2 hc
  rw[show K+(7-K)=7 by omega] at this
  rw[this]
  cases h7:7-K with
  | zero=>rfl
  | succ g=>unfold Zy;rw[hb];rfl
 have hhot:Xv d R (v / 2^K)=true:=Qfy hr hh K h2
 unfold Wq Gy
 rw[if_pos hhot]
 unfold Wi
 rw[if_neg hk,if_pos hd,hf]
 cases K with
 | zero=>rw[if_pos (by simp)];rfl
 | succ K=>
  have hne:v≠v / 2^(K+1):=by
   have:=Nat.div_lt_self (n:=v) (k:=2^(K+1)) (by omega) (Nat.lt_of_lt_of_le (by omega:1<2^1) (Nat.pow_le_pow_right (by omega) (by omega)))
   omega
  rw[if_neg hne]
  have hl:=Dj v (K+1) h2
  have hs:Wj k d (v / 2^(K+1)) v=decide (Dm k d v (K+1)≠3):=by
   have hfs:decide (Hm d (Jt (v / 2) (Nat.log2 v-Nat.log2 (v / 2^(K+1))-1))=0)=(List.range (K+1-1)).all fun j => !Kr d (v / 2^(j+1)):=by
    rw[Bool.eq_iff_iff,decide_eq_true_eq,List.all_eq_true]
    have hk1:Nat.log2 v-Nat.log2 (v / 2^(K+1))-1=K:=by omega
    rw[hk1,Qrc (fun n hn=>by
     obtain⟨j,hj,rfl⟩:=Qb1.1 hn
     rw[Nat.div_div_eq_div_mul,show 2*2^j=2^(j+1) from by rw[Nat.pow_succ,Nat.mul_comm]]
     have:=Ab (w:=v) (i:=j+1) (j:=0) (Nat.le_trans (Nat.pow_le_pow_right (by omega) (by omega)) h2)
     simpa using this)]
    constructor
    · intro h j hj
      have:=h (v / 2 / 2^j) (Qb1.2 ⟨j,by simpa using hj,rfl⟩)
      rw[Nat.div_div_eq_div_mul,show 2*2^j=2^(j+1) from by rw[Nat.pow_succ,Nat.mul_comm]] at this
      rw[this];rfl
    · intro h n hn
      obtain⟨j,hj,rfl⟩:=Qb1.1 hn
      rw[Nat.div_div_eq_div_mul,show 2*2^j=2^(j+1) from by rw[Nat.pow_succ,Nat.mul_comm]]
      have:=h j (by simpa using hj)
      simpa using this
   unfold Wj
   rw[hfs]
   unfold Dm
   rw[if_neg (by omega)]
   by_cases h2:k=2#8
   · rw[if_pos (.inl h2)];simp[h2]
   · by_cases h3:Kr d (v / 2^(K+1))=true
     · rw[if_pos (.inr h3)];simp[h3]
     · rw[if_neg (by simp[h2,h3])]
       rw[Bool.not_eq_true] at h3
       rw[h3,decide_eq_false h2,Bool.false_or,Bool.false_or]
       cases(List.range (K+1-1)).all fun j => !Kr d (v / 2^(j+1))<;>simp
  have h0:Dm k d v (K+1)≠0:=by
   unfold Dm;rw[if_neg (by omega)];split
   · omega
   · split<;>omega
  rw[hs]
  unfold Ef
  rw[if_neg h0]
  by_cases h3:Dm k d v (K+1)=3
  · rw[h3];rfl
  · rw[decide_eq_true h3,if_pos rfl,if_neg h3];rfl
theorem Qsq (hr:Kw d R){k:BitVec 8}(hk:k≠1#8){c:Nat}(h2:2≤c)(hs:Xv d R (c ^^^ 1)=false):Wq k d R c=0:=by
 unfold Wq Gy Wi
 have:Wh d R c=false:=by unfold Wh;rw[hs];simp;omega
 rw[if_neg hk,this]
 split<;>rfl
theorem Qw5 (hr:Kw d R)(hn:R.Nodup){k:BitVec 8}(hk:k≠1#8)(T:Nat→Nat→Nat→Nat)
 (t0:∀ st,st<4→(k=2#8→st<2)→Ef st≤T st 0 1)
 (ts:∀ st h a b,st<4→(k=2#8→st<2)→h<d→a≤2^h→b≤2^h→0<a→0<b→Ef st+T 0 h a+T 0 h b≤T st (h+1) (a+b))
 (tb:∀ st h a v,st<4→(k=2#8→st<2)→h<d→a≤2^h→0<a→Nat.log2 v+(h+1)=d→T (Ig k d v st) h a≤T st (h+1) a):
 ∀ (h v K:Nat),1≤v→Nat.log2 v+h=d→Xv d R v=true→2^K≤v→Wh d R (v / 2^K)=true→(∀ t,t<K→Xv d R (v / 2^t)=true∧Xv d R ((v / 2^t) ^^^ 1)=false)→
  Wq k d R (v / 2^K)+Sf k d R h v≤T (Dm k d v K) h (Yj d R v):=by
 have hst:∀ v K,Dm k d v K<4∧(k=2#8→Dm k d v K<2):=fun v K=>by
  unfold Dm
  by_cases h2:k=2#8
  · simp only[h2,true_or,if_true];split<;>omega
  · refine⟨?_,fun h=>absurd h h2⟩;split
    · omega
    · split
      · omega
      · split<;>omega
 have hK7:∀ {v K:Nat},1≤v→Nat.log2 v≤d→2^K≤v→v<128∧K≤7:=fun {v K} hv hl h2=>by
  have h6:=hr.1
  have h1:=(Nat.log2_lt (n:=v) (k:=d+1) (by omega)).1 (by omega)
  have h3:2^(d+1)≤2^7:=Nat.pow_le_pow_right (by omega) (by omega)
  refine⟨by omega,?_⟩
  have:2^K<2^7:=by omega
  have:=(Nat.pow_lt_pow_iff_right (a:=2) (by omega)).1 this
  omega
 intro h
 induction h with
 | zero=>
  intro v K hv hl hh h2 hd hc
  obtain⟨h128,h7⟩:=hK7 hv (by omega) h2
  have hb:Da d R v=false:=by
   cases hb:Da d R v with
   | false=>rfl
   | true=>have:=(Qj6 hr hv hb).1;omega
  obtain⟨s1,s2⟩:=hst v K
  rw[Qrg hr hk hv h2 h128 h7 hd hh hc hb]
  have c1:=Mr hr hn 0 v hv hl
  have c0:=Fg.1 hh
  rw[show Yj d R v=1 by omega]
  exact t0 _ s1 s2
 | succ h ih=>
  intro v K hv hl hh h2 hd hc
  obtain⟨h128,h7⟩:=hK7 hv (by omega) h2
  obtain⟨s1,s2⟩:=hst v K
  have h64:=Ve hr.1
  have hv64:v<64:=by have:=(Ql4 (d:=d) hv).2 (by omega);omega
  have e0:=Tn hv (b:=0) (by omega)
  have e1:=Tn hv (b:=1) (by omega)
  rw[Nat.add_zero] at e0
  have c0:=Mr hr hn h (2*v) (by omega) (by omega)
  have c1:=Mr hr hn h (2*v+1) (by omega) (by omega)
  have hcn:=Qj9 hr hv (by omega)
  have hz:∀ {x:Nat},Xv d R x=false→Yj d R x=0:=fun {x} hx=>by
   cases Nat.eq_zero_or_pos (Yj d R x) with
   | inl h=>exact h
   | inr h=>rw[Fg.2 h] at hx;cases hx
  rw[hcn,Qj4,Ly,Ly]
  cases x0:Xv d R (2*v) with
  | false=>
   have y0:=Iz hr (k:=k) h (2*v) (by omega) x0
   rw[Ly] at y0
   have n0:=hz x0
   cases x1:Xv d R (2*v+1) with
   | false=>have:=Qd0 hr hv (by omega);rw[hh,x0,x1] at this;cases this
   | true=>
    have hc2:(2*v+1) / 2=v:=by omega
    have hp:∀ t,(2*v+1) / 2^(t+1)=v / 2^t:=fun t=>by rw[Qjn,hc2]
    have i1:=ih (2*v+1) (K+1) (by omega) (by omega) x1 (by rw[Nat.pow_succ];omega) (by rw[hp];exact hd) (fun t ht=>by
     cases t with
     | zero=>simp only[Nat.pow_zero,Nat.div_one];rw[Sp hv64];exact⟨x1,x0⟩
     | succ t=>rw[hp];exact hc t (by omega))
    rw[hp,Qu4 hc2] at i1
    have o1:=Qsq hr hk (c:=2*v+1) (by omega) (by rw[Sp hv64];exact x0)
    have t1:=tb _ h (Yj d R (2*v+1)) v s1 s2 (by omega) c1 (Fg.1 x1) (by omega)
    rw[n0,Nat.zero_add (Yj d R (2*v+1))]
    omega
  | true=>
   cases x1:Xv d R (2*v+1) with
   | false=>
    have y1:=Iz hr (k:=k) h (2*v+1) (by omega) x1
    rw[Ly] at y1
    have n1:=hz x1
    have hc2:(2*v) / 2=v:=by omega
    have hp:∀ t,(2*v) / 2^(t+1)=v / 2^t:=fun t=>by rw[Qjn,hc2]
    have i0:=ih (2*v) (K+1) (by omega) (by omega) x0 (by rw[Nat.pow_succ];omega) (by rw[hp];exact hd) (fun t ht=>by
     cases t with
     | zero=>simp only[Nat.pow_zero,Nat.div_one];rw[Sn hv64];exact⟨x0,x1⟩
     | succ t=>rw[hp];exact hc t (by omega))
    rw[hp,Qu4 hc2] at i0
    have o0:=Qsq hr hk (c:=2*v) (by omega) (by rw[Sn hv64];exact x1)
    have t0:=tb _ h (Yj d R (2*v)) v s1 s2 (by omega) c0 (Fg.1 x0) (by omega)
    rw[n1,Nat.add_zero (Yj d R (2*v))]
    omega
   | true=>
    have hb:Da d R v=false:=by unfold Da;rw[x0,x1];rfl
    have i0:=ih (2*v) 0 (by omega) (by omega) x0 (by simp;omega) (by simp only[Nat.pow_zero,Nat.div_one];unfold Wh;rw[Sn hv64,x1];simp) (fun t ht=>by omega)
    have i1:=ih (2*v+1) 0 (by omega) (by omega) x1 (by simp) (by simp only[Nat.pow_zero,Nat.div_one];unfold Wh;rw[Sp hv64,x0];simp) (fun t ht=>by omega)
    simp only[Nat.pow_zero,Nat.div_one] at i0 i1
    rw[show Dm k d (2*v) 0=0 from rfl] at i0
    rw[show Dm k d (2*v+1) 0=0 from rfl] at i1
    rw[Qrg hr hk hv h2 h128 h7 hd hh hc hb]
    have t2:=ts _ h _ _ s1 s2 (by omega) c0 c1 (Fg.1 x0) (Fg.1 x1)
    omega
end Go.Sx

end
section
set_option linter.unusedVariables false
set_option linter.unusedSimpArgs false
set_option maxRecDepth 100000
namespace Go.Sx.Pn
open Go Go.Sx
def Zx (k d:Nat):Qj:=⟨BitVec.ofNat 8 k,(d:Int),0,⟨0#64,0#64,0#64⟩⟩
def Qn8:Xc:=⟨Zx 1 0,1,⟨[1,0],[],[],[]⟩,1⟩
theorem Xcp:Yb (Zx 1 0)=some Qn8:=by kernel_rfl
def Qu9:Xc:=⟨Zx 1 1,1,⟨[1,0,1,1,0],[],[],[]⟩,1⟩
theorem Xcq:Yb (Zx 1 1)=some Qu9:=by kernel_rfl
def Qua:Xc:=⟨Zx 1 2,2,⟨[1,0,1,1,0,1,2,2,1,0],[],[],[]⟩,1⟩
theorem Xcr:Yb (Zx 1 2)=some Qua:=by kernel_rfl
def Qub:Xc:=⟨Zx 1 3,2,⟨[1,0,1,1,0,1,2,2,1,0,1,3,4,4,4,3,2,1,0],[],[],[]⟩,1⟩
theorem Xcs:Yb (Zx 1 3)=some Qub:=by kernel_rfl
def Quc:Xc:=⟨Zx 1 4,2,⟨[1,0,1,1,0,1,2,2,1,0,1,3,4,4,4,3,2,1,0,1,4,6,7,8,8,8,8,8,7,6,5,4,3,2,1,0],[],[],[]⟩,1⟩
theorem Xct:Yb (Zx 1 4)=some Quc:=by kernel_rfl
def Qud:Xc:=⟨Zx 1 5,3,⟨[1,0,1,1,0,1,2,2,1,0,1,3,4,4,4,3,2,1,0,1,4,6,7,8,8,8,8,8,7,6,5,4,3,2,1,0,1,5,8,10,12,13,14,15,16,16,16,16,16,16,16,16,16,15,14,13,12,11,10,9,8,7,6,5,4,3,2,1,0],[],[],[]⟩,1⟩
theorem Xcu:Yb (Zx 1 5)=some Qud:=by kernel_rfl
def Que:Xc:=⟨Zx 1 6,3,⟨[1,0,1,1,0,1,2,2,1,0,1,3,4,4,4,3,2,1,0,1,4,6,7,8,8,8,8,8,7,6,5,4,3,2,1,0,1,5,8,10,12,13,14,15,16,16,16,16,16,16,16,16,16,15,14,13,12,11,10,9,8,7,6,5,4,3,2,1,0,1,6,10,13,16,18,20,22,24,25,26,27,28,29,30,31,32,32,32,32,32,32,32,32,32,32,32,32,32,32,32,32,32,31,30,29,28,27,26,25,24,23,22,21,20,19,18,17,16,15,14,13,12,11,10,9,8,7,6,5,4,3,2,1,0],[],[],[]⟩,1⟩
theorem Xcv:Yb (Zx 1 6)=some Que:=by kernel_rfl
def Quf:Xc:=⟨Zx 2 0,1,⟨[0,0],[0,1],[],[]⟩,2⟩
theorem Xcw:Yb (Zx 2 0)=some Quf:=by kernel_rfl
def Qug:Xc:=⟨Zx 2 1,1,⟨[0,0,0,1,0],[0,1,0,1,1],[],[]⟩,2⟩
theorem Xcx:Yb (Zx 2 1)=some Qug:=by kernel_rfl
def Quh:Xc:=⟨Zx 2 2,2,⟨[0,0,0,1,0,0,1,2,1,0],[0,1,0,1,1,0,1,3,2,1],[],[]⟩,2⟩
theorem Xcy:Yb (Zx 2 2)=some Quh:=by kernel_rfl
def Qui:Xc:=⟨Zx 2 3,2,⟨[0,0,0,1,0,0,1,2,1,0,0,1,3,3,4,3,2,1,0],[0,1,0,1,1,0,1,3,2,1,0,1,3,4,5,4,3,2,1],[],[]⟩,2⟩
theorem Xcz:Yb (Zx 2 3)=some Qui:=by kernel_rfl
def Quj:Xc:=⟨Zx 2 4,2,⟨[0,0,0,1,0,0,1,2,1,0,0,1,3,3,4,3,2,1,0,0,1,3,4,6,6,7,7,8,7,6,5,4,3,2,1,0],[0,1,0,1,1,0,1,3,2,1,0,1,3,4,5,4,3,2,1,0,1,3,5,7,7,8,8,9,8,7,6,5,4,3,2,1],[],[]⟩,2⟩
theorem Xd0:Yb (Zx 2 4)=some Quj:=by kernel_rfl
def Quk:Xc:=⟨Zx 2 5,3,⟨[0,0,0,1,0,0,1,2,1,0,0,1,3,3,4,3,2,1,0,0,1,3,4,6,6,7,7,8,7,6,5,4,3,2,1,0,0,1,3,5,7,7,9,10,12,12,13,13,14,14,15,15,16,15,14,13,12,11,10,9,8,7,6,5,4,3,2,1,0],[0,1,0,1,1,0,1,3,2,1,0,1,3,4,5,4,3,2,1,0,1,3,5,7,7,8,8,9,8,7,6,5,4,3,2,1,0,1,3,5,7,8,10,11,13,13,14,14,15,15,16,16,17,16,15,14,13,12,11,10,9,8,7,6,5,4,3,2,1],[],[]⟩,2⟩
theorem Xd1:Yb (Zx 2 5)=some Quk:=by kernel_rfl
def Qul:Xc:=⟨Zx 2 6,3,⟨[0,0,0,1,0,0,1,2,1,0,0,1,3,3,4,3,2,1,0,0,1,3,4,6,6,7,7,8,7,6,5,4,3,2,1,0,0,1,3,5,7,7,9,10,12,12,13,13,14,14,15,15,16,15,14,13,12,11,10,9,8,7,6,5,4,3,2,1,0,0,1,3,5,7,8,10,12,14,14,16,17,19,19,21,22,24,24,25,25,26,26,27,27,28,28,29,29,30,30,31,31,32,31,30,29,28,27,26,25,24,23,22,21,20,19,18,17,16,15,14,13,12,11,10,9,8,7,6,5,4,3,2,1,0],[0,1,0,1,1,0,1,3,2,1,0,1,3,4,5,4,3,2,1,0,1,3,5,7,7,8,8,9,8,7,6,5,4,3,2,1,0,1,3,5,7,8,10,11,13,13,14,14,15,15,16,16,17,16,15,14,13,12,11,10,9,8,7,6,5,4,3,2,1,0,1,3,5,7,9,11,13,15,15,17,18,20,20,22,23,25,25,26,26,27,27,28,28,29,29,30,30,31,31,32,32,33,32,31,30,29,28,27,26,25,24,23,22,21,20,19,18,17,16,15,14,13,12,11,10,9,8,7,6,5,4,3,2,1],[],[]⟩,2⟩
theorem Xd2:Yb (Zx 2 6)=some Qul:=by kernel_rfl
def Qum:Xc:=⟨Zx 3 0,1,⟨[0,0],[0,1],[0,1],[0,2]⟩,4⟩
theorem Xd3:Yb (Zx 3 0)=some Qum:=by kernel_rfl
def Qun:Xc:=⟨Zx 3 1,1,⟨[0,0,0,1,0],[0,1,0,1,1],[0,1,0,2,1],[0,2,0,2,2]⟩,4⟩
theorem Xd4:Yb (Zx 3 1)=some Qun:=by kernel_rfl
def Quo:Xc:=⟨Zx 3 2,2,⟨[0,0,0,1,0,0,1,2,1,0],[0,1,0,1,1,0,1,3,2,1],[0,1,0,1,1,0,2,3,2,1],[0,2,0,2,2,0,2,4,3,2]⟩,4⟩
theorem Xd5:Yb (Zx 3 2)=some Quo:=by kernel_rfl
def Qup:Xc:=⟨Zx 3 3,2,⟨[0,0,0,1,0,0,2,2,1,0,0,1,4,4,4,3,2,1,0],[0,1,0,1,1,0,1,3,2,1,0,1,5,5,5,4,3,2,1],[0,1,0,2,1,0,2,3,2,1,0,2,5,5,5,4,3,2,1],[0,2,0,2,2,0,2,4,3,2,0,2,6,6,6,5,4,3,2]⟩,4⟩
theorem Xd6:Yb (Zx 3 3)=some Qup:=by kernel_rfl
def Quq:Xc:=⟨Zx 3 4,2,⟨[0,0,0,1,0,0,1,2,1,0,0,2,3,3,4,3,2,1,0,0,1,4,5,6,6,7,7,8,7,6,5,4,3,2,1,0],[0,1,0,1,1,0,1,3,2,1,0,1,3,4,5,4,3,2,1,0,1,5,6,7,7,8,8,9,8,7,6,5,4,3,2,1],[0,1,0,1,1,0,2,3,2,1,0,2,3,4,5,4,3,2,1,0,2,5,6,7,7,8,8,9,8,7,6,5,4,3,2,1],[0,2,0,2,2,0,2,4,3,2,0,2,4,5,6,5,4,3,2,0,2,6,7,8,8,9,9,10,9,8,7,6,5,4,3,2]⟩,4⟩
theorem Xd7:Yb (Zx 3 4)=some Quq:=by kernel_rfl
def Qur:Xc:=⟨Zx 3 5,3,⟨[0,0,0,1,0,0,1,2,1,0,0,2,3,3,4,3,2,1,0,0,2,4,5,6,6,7,7,8,7,6,5,4,3,2,1,0,0,1,5,6,8,9,10,11,12,12,13,13,14,14,15,15,16,15,14,13,12,11,10,9,8,7,6,5,4,3,2,1,0],[0,1,0,1,1,0,1,3,2,1,0,1,3,4,5,4,3,2,1,0,1,5,6,7,7,8,8,9,8,7,6,5,4,3,2,1,0,1,5,7,9,10,11,12,13,13,14,14,15,15,16,16,17,16,15,14,13,12,11,10,9,8,7,6,5,4,3,2,1],[0,1,0,1,1,0,2,3,2,1,0,2,3,4,5,4,3,2,1,0,2,5,6,7,7,8,8,9,8,7,6,5,4,3,2,1,0,2,6,7,9,10,11,12,13,13,14,14,15,15,16,16,17,16,15,14,13,12,11,10,9,8,7,6,5,4,3,2,1],[0,2,0,2,2,0,2,4,3,2,0,2,4,5,6,5,4,3,2,0,2,6,7,8,8,9,9,10,9,8,7,6,5,4,3,2,0,2,6,8,10,11,12,13,14,14,15,15,16,16,17,17,18,17,16,15,14,13,12,11,10,9,8,7,6,5,4,3,2]⟩,4⟩
theorem Xd8:Yb (Zx 3 5)=some Qur:=by kernel_rfl
def Qus:Xc:=⟨Zx 3 6,3,⟨[0,0,0,1,0,0,1,2,1,0,0,1,3,3,4,3,2,1,0,0,2,4,4,6,6,7,7,8,7,6,5,4,3,2,1,0,0,2,4,6,8,8,10,10,12,12,13,13,14,14,15,15,16,15,14,13,12,11,10,9,8,7,6,5,4,3,2,1,0,0,1,5,7,9,10,12,14,16,16,18,18,20,20,22,22,24,24,25,25,26,26,27,27,28,28,29,29,30,30,31,31,32,31,30,29,28,27,26,25,24,23,22,21,20,19,18,17,16,15,14,13,12,11,10,9,8,7,6,5,4,3,2,1,0],[0,1,0,1,1,0,1,3,2,1,0,1,3,4,5,4,3,2,1,0,1,3,5,7,7,8,8,9,8,7,6,5,4,3,2,1,0,1,5,7,9,9,11,11,13,13,14,14,15,15,16,16,17,16,15,14,13,12,11,10,9,8,7,6,5,4,3,2,1,0,1,5,7,9,11,13,15,17,17,19,19,21,21,23,23,25,25,26,26,27,27,28,28,29,29,30,30,31,31,32,32,33,32,31,30,29,28,27,26,25,24,23,22,21,20,19,18,17,16,15,14,13,12,11,10,9,8,7,6,5,4,3,2,1],[0,1,0,1,1,0,1,3,2,1,0,2,4,4,5,4,3,2,1,0,2,4,5,7,7,8,8,9,8,7,6,5,4,3,2,1,0,2,5,7,9,9,11,11,13,13,14,14,15,15,16,16,17,16,15,14,13,12,11,10,9,8,7,6,5,4,3,2,1,0,2,6,8,10,11,13,15,17,17,19,19,21,21,23,23,25,25,26,26,27,27,28,28,29,29,30,30,31,31,32,32,33,32,31,30,29,28,27,26,25,24,23,22,21,20,19,18,17,16,15,14,13,12,11,10,9,8,7,6,5,4,3,2,1],[0,2,0,2,2,0,2,4,3,2,0,2,4,5,6,5,4,3,2,0,2,4,6,8,8,9,9,10,9,8,7,6,5,4,3,2,0,2,6,8,10,10,12,12,14,14,15,15,16,16,17,17,18,17,16,15,14,13,12,11,10,9,8,7,6,5,4,3,2,0,2,6,8,10,12,14,16,18,18,20,20,22,22,24,24,26,26,27,27,28,28,29,29,30,30,31,31,32,32,33,33,34,33,32,31,30,29,28,27,26,25,24,23,22,21,20,19,18,17,16,15,14,13,12,11,10,9,8,7,6,5,4,3,2]⟩,4⟩
theorem Xd9:Yb (Zx 3 6)=some Qus:=by kernel_rfl
def tb (k d:Nat):Xc:=match k,d with
 | 1,0=>Qn8
 | 1,1=>Qu9
 | 1,2=>Qua
 | 1,3=>Qub
 | 1,4=>Quc
 | 1,5=>Qud
 | 1,6=>Que
 | 2,0=>Quf
 | 2,1=>Qug
 | 2,2=>Quh
 | 2,3=>Qui
 | 2,4=>Quj
 | 2,5=>Quk
 | 2,6=>Qul
 | 3,0=>Qum
 | 3,1=>Qun
 | 3,2=>Quo
 | 3,3=>Qup
 | 3,4=>Quq
 | 3,5=>Qur
 | 3,6=>Qus
 | _,_=>Qn8
theorem nt {k d:Nat}(hk:1≤k∧k≤3)(hd:d≤6):Yb (Zx k d)=some (tb k d):=by
 rcases(show k=1∨k=2∨k=3 by omega) with rfl|rfl|rfl<;>rcases(show d=0∨d=1∨d=2∨d=3∨d=4∨d=5∨d=6 by omega) with rfl|rfl|rfl|rfl|rfl|rfl|rfl
 · exact Xcp
 · exact Xcq
 · exact Xcr
 · exact Xcs
 · exact Xct
 · exact Xcu
 · exact Xcv
 · exact Xcw
 · exact Xcx
 · exact Xcy
 · exact Xcz
 · exact Xd0
 · exact Xd1
 · exact Xd2
 · exact Xd3
 · exact Xd4
 · exact Xd5
 · exact Xd6
 · exact Xd7
 · exact Xd8
 · exact Xd9
def wl (k d:Nat):List (Int × Int):=match k,d with
 | 1,0=>[(1,0),(1,0)]
 | 1,1=>[(1,0),(1,0),(1,0)]
 | 1,2=>[(1,0),(2,1),(2,1),(2,1),(2,1)]
 | 1,3=>[(1,0),(3,1),(4,2),(4,2),(4,2),(4,2),(4,2),(4,2),(4,2)]
 | 1,4=>[(1,0),(4,1),(6,2),(7,3),(8,4),(8,4),(8,4),(8,4),(8,4),(8,4),(8,4),(8,4),(8,4),(8,4),(8,4),(8,4),(8,4)]
 | 1,5=>[(1,0),(5,1),(8,2),(10,3),(12,4),(13,5),(14,6),(15,7),(16,8),(16,8),(16,8),(16,8),(16,8),(16,8),(16,8),(16,8),(16,8),(16,8),(16,8),(16,8),(16,8),(16,8),(16,8),(16,8),(16,8),(16,8),(16,8),(16,8),(16,8),(16,8),(16,8),(16,8),(16,8)]
 | 1,6=>[(1,0),(6,1),(10,2),(13,3),(16,4),(18,5),(20,6),(22,7),(24,8),(25,9),(26,10),(27,11),(28,12),(29,13),(30,14),(31,15),(32,16),(32,16),(32,16),(32,16),(32,16),(32,16),(32,16),(32,16),(32,16),(32,16),(32,16),(32,16),(32,16),(32,16),(32,16),(32,16),(32,16),(32,16),(32,16),(32,16),(32,16),(32,16),(32,16),(32,16),(32,16),(32,16),(32,16),(32,16),(32,16),(32,16),(32,16),(32,16),(32,16),(32,16),(32,16),(32,16),(32,16),(32,16),(32,16),(32,16),(32,16),(32,16),(32,16),(32,16),(32,16),(32,16),(32,16),(32,16),(32,16)]
 | 2,0=>[(1,0),(1,0)]
 | 2,1=>[(1,0),(1,0),(1,0)]
 | 2,2=>[(1,0),(1,0),(2,2),(2,2),(2,2)]
 | 2,3=>[(1,0),(1,0),(3,2),(3,2),(4,4),(4,4),(4,4),(4,4),(4,4)]
 | 2,4=>[(1,0),(1,0),(3,2),(4,3),(6,4),(6,4),(7,6),(7,6),(8,8),(8,8),(8,8),(8,8),(8,8),(8,8),(8,8),(8,8),(8,8)]
 | 2,5=>[(1,0),(1,0),(3,2),(5,3),(7,4),(7,4),(9,6),(10,7),(12,8),(12,8),(13,10),(13,10),(14,12),(14,12),(15,14),(15,14),(16,16),(16,16),(16,16),(16,16),(16,16),(16,16),(16,16),(16,16),(16,16),(16,16),(16,16),(16,16),(16,16),(16,16),(16,16),(16,16),(16,16)]
 | 2,6=>[(1,0),(1,0),(3,2),(5,3),(7,4),(8,5),(10,6),(12,7),(14,8),(14,8),(16,10),(17,11),(19,12),(19,12),(21,14),(22,15),(24,16),(24,16),(25,18),(25,18),(26,20),(26,20),(27,22),(27,22),(28,24),(28,24),(29,26),(29,26),(30,28),(30,28),(31,30),(31,30),(32,32),(32,32),(32,32),(32,32),(32,32),(32,32),(32,32),(32,32),(32,32),(32,32),(32,32),(32,32),(32,32),(32,32),(32,32),(32,32),(32,32),(32,32),(32,32),(32,32),(32,32),(32,32),(32,32),(32,32),(32,32),(32,32),(32,32),(32,32),(32,32),(32,32),(32,32),(32,32),(32,32)]
 | 3,0=>[(1,0),(1,0)]
 | 3,1=>[(1,0),(1,0),(1,0)]
 | 3,2=>[(1,0),(1,0),(2,2),(2,2),(2,2)]
 | 3,3=>[(1,0),(1,0),(4,2),(4,2),(4,2),(4,2),(4,2),(4,2),(4,2)]
 | 3,4=>[(1,0),(1,0),(4,2),(5,3),(6,4),(6,4),(7,6),(7,6),(8,8),(8,8),(8,8),(8,8),(8,8),(8,8),(8,8),(8,8),(8,8)]
 | 3,5=>[(1,0),(1,0),(5,2),(6,3),(8,4),(9,5),(10,6),(11,7),(12,8),(12,8),(13,10),(13,10),(14,12),(14,12),(15,14),(15,14),(16,16),(16,16),(16,16),(16,16),(16,16),(16,16),(16,16),(16,16),(16,16),(16,16),(16,16),(16,16),(16,16),(16,16),(16,16),(16,16),(16,16)]
 | 3,6=>[(1,0),(1,0),(5,2),(7,3),(9,4),(10,5),(12,6),(14,7),(16,8),(16,8),(18,10),(18,10),(20,12),(20,12),(22,14),(22,14),(24,16),(24,16),(25,18),(25,18),(26,20),(26,20),(27,22),(27,22),(28,24),(28,24),(29,26),(29,26),(30,28),(30,28),(31,30),(31,30),(32,32),(32,32),(32,32),(32,32),(32,32),(32,32),(32,32),(32,32),(32,32),(32,32),(32,32),(32,32),(32,32),(32,32),(32,32),(32,32),(32,32),(32,32),(32,32),(32,32),(32,32),(32,32),(32,32),(32,32),(32,32),(32,32),(32,32),(32,32),(32,32),(32,32),(32,32),(32,32),(32,32)]
 | _,_=>[]
def Wt (k d r:Nat):Int × Int:=(wl k d).getD r (0,0)
theorem Xi0:∀ k∈[1,2,3],∀ d∈List.range 7,∀ r∈List.range (2^d+1),Et (tb k d) (r:Int)=some (Wt k d r):=by decide +kernel
def ll (k d:Nat):List (Int × List Int × Int):=match k,d with
 | 1,0=>[(0,[],1)]
 | 1,1=>[(0,[],1)]
 | 1,2=>[(0,[],1),(1,[3],2)]
 | 1,3=>[(0,[],1),(1,[7],3),(2,[3,7],4)]
 | 1,4=>[(0,[],1),(1,[15],4),(2,[7,15],6),(3,[7,11,15],7),(4,[3,7,11,15],8)]
 | 1,5=>[(0,[],1),(1,[31],5),(2,[15,31],8),(3,[15,23,31],10),(4,[7,15,23,31],12),(5,[7,15,23,27,31],13),(6,[7,15,19,23,27,31],14),(7,[7,11,15,19,23,27,31],15),(8,[3,7,11,15,19,23,27,31],16)]
 | 1,6=>[(0,[],1),(1,[63],6),(2,[31,63],10),(3,[31,47,63],13),(4,[15,31,47,63],16),(5,[15,31,47,55,63],18),(6,[15,31,39,47,55,63],20),(7,[15,23,31,39,47,55,63],22),(8,[7,15,23,31,39,47,55,63],24),(9,[7,15,23,31,39,47,55,59,63],25),(10,[7,15,23,31,39,47,51,55,59,63],26),(11,[7,15,23,31,39,43,47,51,55,59,63],27),(12,[7,15,23,31,35,39,43,47,51,55,59,63],28),(13,[7,15,23,27,31,35,39,43,47,51,55,59,63],29),(14,[7,15,19,23,27,31,35,39,43,47,51,55,59,63],30),(15,[7,11,15,19,23,27,31,35,39,43,47,51,55,59,63],31),(16,[3,7,11,15,19,23,27,31,35,39,43,47,51,55,59,63],32)]
 | 2,0=>[(0,[],1)]
 | 2,1=>[(0,[],1)]
 | 2,2=>[(0,[],1),(2,[1,3],2)]
 | 2,3=>[(0,[],1),(2,[5,7],3),(4,[1,3,5,7],4)]
 | 2,4=>[(0,[],1),(2,[13,15],3),(3,[11,13,15],4),(4,[5,7,13,15],6),(6,[5,7,9,11,13,15],7),(8,[1,3,5,7,9,11,13,15],8)]
 | 2,5=>[(0,[],1),(2,[29,31],3),(3,[23,29,31],5),(4,[21,23,29,31],7),(6,[13,15,21,23,29,31],9),(7,[11,13,15,21,23,29,31],10),(8,[5,7,13,15,21,23,29,31],12),(10,[5,7,13,15,21,23,25,27,29,31],13),(12,[5,7,13,15,17,19,21,23,25,27,29,31],14),(14,[5,7,9,11,13,15,17,19,21,23,25,27,29,31],15),(16,[1,3,5,7,9,11,13,15,17,19,21,23,25,27,29,31],16)]
 | 2,6=>[(0,[],1),(2,[61,63],3),(3,[55,61,63],5),(4,[53,55,61,63],7),(5,[47,53,55,61,63],8),(6,[45,47,53,55,61,63],10),(7,[23,29,31,53,55,61,63],12),(8,[21,23,29,31,53,55,61,63],14),(10,[21,23,29,31,45,47,53,55,61,63],16),(11,[23,29,31,37,39,45,47,53,55,61,63],17),(12,[21,23,29,31,37,39,45,47,53,55,61,63],19),(14,[13,15,21,23,29,31,37,39,45,47,53,55,61,63],21),(15,[11,13,15,21,23,29,31,37,39,45,47,53,55,61,63],22),(16,[5,7,13,15,21,23,29,31,37,39,45,47,53,55,61,63],24),(18,[5,7,13,15,21,23,29,31,37,39,45,47,53,55,57,59,61,63],25),(20,[5,7,13,15,21,23,29,31,37,39,45,47,49,51,53,55,57,59,61,63],26),(22,[5,7,13,15,21,23,29,31,37,39,41,43,45,47,49,51,53,55,57,59,61,63],27),(24,[5,7,13,15,21,23,29,31,33,35,37,39,41,43,45,47,49,51,53,55,57,59,61,63],28),(26,[5,7,13,15,21,23,25,27,29,31,33,35,37,39,41,43,45,47,49,51,53,55,57,59,61,63],29),(28,[5,7,13,15,17,19,21,23,25,27,29,31,33,35,37,39,41,43,45,47,49,51,53,55,57,59,61,63],30),(30,[5,7,9,11,13,15,17,19,21,23,25,27,29,31,33,35,37,39,41,43,45,47,49,51,53,55,57,59,61,63],31),(32,[1,3,5,7,9,11,13,15,17,19,21,23,25,27,29,31,33,35,37,39,41,43,45,47,49,51,53,55,57,59,61,63],32)]
 | 3,0=>[(0,[],1)]
 | 3,1=>[(0,[],1)]
 | 3,2=>[(0,[],1),(2,[1,3],2)]
 | 3,3=>[(0,[],1),(2,[3,7],4)]
 | 3,4=>[(0,[],1),(2,[7,15],4),(3,[7,13,15],5),(4,[5,7,13,15],6),(6,[5,7,9,11,13,15],7),(8,[1,3,5,7,9,11,13,15],8)]
 | 3,5=>[(0,[],1),(2,[23,31],5),(3,[23,29,31],6),(4,[7,15,23,31],8),(5,[7,15,23,29,31],9),(6,[7,15,21,23,29,31],10),(7,[7,13,15,21,23,29,31],11),(8,[5,7,13,15,21,23,29,31],12),(10,[5,7,13,15,21,23,25,27,29,31],13),(12,[5,7,13,15,17,19,21,23,25,27,29,31],14),(14,[5,7,9,11,13,15,17,19,21,23,25,27,29,31],15),(16,[1,3,5,7,9,11,13,15,17,19,21,23,25,27,29,31],16)]
 | 3,6=>[(0,[],1),(2,[47,63],5),(3,[47,61,63],7),(4,[45,47,61,63],9),(5,[31,45,47,61,63],10),(6,[29,31,45,47,61,63],12),(7,[15,29,31,45,47,61,63],14),(8,[13,15,29,31,45,47,61,63],16),(10,[13,15,29,31,45,47,53,55,61,63],18),(12,[13,15,29,31,37,39,45,47,53,55,61,63],20),(14,[13,15,21,23,29,31,37,39,45,47,53,55,61,63],22),(16,[5,7,13,15,21,23,29,31,37,39,45,47,53,55,61,63],24),(18,[5,7,13,15,21,23,29,31,37,39,45,47,53,55,57,59,61,63],25),(20,[5,7,13,15,21,23,29,31,37,39,45,47,49,51,53,55,57,59,61,63],26),(22,[5,7,13,15,21,23,29,31,37,39,41,43,45,47,49,51,53,55,57,59,61,63],27),(24,[5,7,13,15,21,23,29,31,33,35,37,39,41,43,45,47,49,51,53,55,57,59,61,63],28),(26,[5,7,13,15,21,23,25,27,29,31,33,35,37,39,41,43,45,47,49,51,53,55,57,59,61,63],29),(28,[5,7,13,15,17,19,21,23,25,27,29,31,33,35,37,39,41,43,45,47,49,51,53,55,57,59,61,63],30),(30,[5,7,9,11,13,15,17,19,21,23,25,27,29,31,33,35,37,39,41,43,45,47,49,51,53,55,57,59,61,63],31),(32,[1,3,5,7,9,11,13,15,17,19,21,23,25,27,29,31,33,35,37,39,41,43,45,47,49,51,53,55,57,59,61,63],32)]
 | _,_=>[]
def Hp (k d r:Nat):List Int:=((ll k d).find? fun x=>decide (x.1=(Wt k d r).2)).elim [] (·.2.1)
theorem Xc4:∀ k∈[1,2,3],∀ d∈List.range 7,∀ x∈ll k d,Qdk (tb k d) [] 1 0 (d:Int) x.1=some x.2.1∧x.2.1.length=x.1.toNat:=by decide +kernel
theorem Xc3:∀ k∈[1,2,3],∀ d∈List.range 7,∀ r∈List.range (2^d+1),∃ x∈(ll k d).find? (fun x=>decide (x.1=(Wt k d r).2)),x.2.2=(Wt k d r).1∧0≤x.1∧x.1≤(r:Int):=by decide +kernel
end Go.Sx.Pn

end
section
set_option linter.unusedVariables false
set_option linter.unusedSimpArgs false
set_option maxRecDepth 100000
namespace Go.Sx.Pn
open Go Go.Sx
theorem Qor (s:Qj):Tj s=some (if Ju s then 0 else 30):=by
 unfold Tj
 rw[Qbk,bind_some]
 cases Ju s<;>rfl
theorem Qam {k d:Nat}(hk:1≤k∧k≤3)(hd:d≤6):k∈[1,2,3]∧d∈List.range 7:=by
 refine⟨?_,List.mem_range.2 (by omega)⟩
 rcases(show k=1∨k=2∨k=3 by omega) with rfl|rfl|rfl<;>simp
theorem Xf8 {k d:Nat}(hk:1≤k∧k≤3)(hd:d≤6):Ju (Zx k d)=true:=by
 unfold Ju Zx
 apply decide_eq_true
 refine⟨?_,?_,by simp only;omega,by simp only;omega,rfl,rfl⟩<;>rcases(show k=1∨k=2∨k=3 by omega) with rfl|rfl|rfl<;>(simp only;decide)
theorem Qhm {d:Nat}(h:d≤6):2^d≤64:=Nat.le_trans (Nat.pow_le_pow_right (by omega) h) (by decide)
theorem Xfk {d:Nat}(h:d≤6):Xw 1 d=((2^d:Nat):Int):=by
 have:=Qhm h
 unfold Xw
 rw[Nat.min_eq_left (by omega),Int.one_mul,show(2:Int)^d=((2^d:Nat):Int) from by rw[Int.natCast_pow];rfl]
 generalize 2^d=m at *
 exact Jw (by omega) (by omega)
theorem Qty (n:Nat):Jp (n:Int)=some n:=by unfold Jp;rw[if_pos (by omega)];rfl
section
variable {k d r:Nat}
theorem Xi1 (hk:1≤k∧k≤3)(hd:d≤6)(hr:r≤2^d):Et (tb k d) (r:Int)=some (Wt k d r):=by
 obtain⟨h1,h2⟩:=Qam hk hd
 exact Xi0 k h1 d h2 r (List.mem_range.2 (by omega))
theorem Qs4 (hk:1≤k∧k≤3)(hd:d≤6)(hr:r≤2^d):Qdk (tb k d) [] 1 0 (d:Int) (Wt k d r).2=some (Hp k d r)∧((Wt k d r).2,Hp k d r,(Wt k d r).1)∈ll k d∧(Hp k d r).length≤r:=by
 obtain⟨h1,h2⟩:=Qam hk hd
 obtain⟨x,hx,e1,e2,e3⟩:=Xc3 k h1 d h2 r (List.mem_range.2 (by omega))
 have hf:(ll k d).find? (fun x=>decide (x.1=(Wt k d r).2))=some x:=hx
 have h5:=List.mem_of_find?_eq_some hf
 have h6:x.1=(Wt k d r).2:=by have:=List.find?_some hf;simpa using this
 obtain⟨h7,h8⟩:=Xc4 k h1 d h2 x h5
 have hl:Hp k d r=x.2.1:=by unfold Hp;rw[hf];rfl
 refine⟨by rw[←h6,hl];exact h7,by rw[hl,←h6,←e1];exact h5,by rw[hl,h8];omega⟩
end
end Go.Sx.Pn

end
section
set_option linter.unusedVariables false
set_option linter.unusedSimpArgs false
set_option maxRecDepth 100000
namespace Go.Sx.Pn
open Go Go.Sx
def rwT (k d st:Nat):List Int:=match st with
 | 0=>(tb k d).rows.a0
 | 1=>(tb k d).rows.a1
 | 2=>(tb k d).rows.a2
 | _=>(tb k d).rows.a3
def tT (k d st h c:Nat):Nat:=((rwT k d st).getD (2^h-1+h+c) 0).toNat
def Qj3 (k d h st:Nat):Nat:=if k=2 then 1 else if st=0 then(if(d-(h+1))%Yz d=0 then 1 else 2) else if st=2 then(if(d-(h+1))%Yz d=0 then 3 else 2) else st
def sts (k:Nat):List Nat:=List.range (if k=2 then 2 else 4)
theorem Xgl:∀ d∈List.range 7,∀ h∈List.range (d+1),1≤tT 1 d 0 h 0:=by decide +kernel
theorem Xgg:∀ d∈List.range 7,∀ h∈List.range d,∀ a∈List.range (2^h+1),∀ b∈List.range (2^h+1),0<a+b→tT 1 d 0 h a+tT 1 d 0 h b≤tT 1 d 0 (h+1) (a+b):=by decide +kernel
theorem Xgk:∀ k∈[2,3],∀ d∈List.range 7,∀ st∈sts k,Ef st≤tT k d st 0 1:=by decide +kernel
theorem Xgh:∀ d∈List.range 7,∀ st∈sts 2,∀ h∈List.range d,∀ a∈List.range (2^h+1),∀ b∈List.range (2^h+1),0<a→0<b→Ef st+tT 2 d 0 h a+tT 2 d 0 h b≤tT 2 d st (h+1) (a+b):=by decide +kernel
theorem Xgi:∀ d∈List.range 7,∀ st∈sts 3,∀ h∈List.range d,∀ a∈List.range (2^h+1),∀ b∈List.range (2^h+1),0<a→0<b→Ef st+tT 3 d 0 h a+tT 3 d 0 h b≤tT 3 d st (h+1) (a+b):=by decide +kernel
theorem Xgj:∀ k∈[2,3],∀ d∈List.range 7,∀ st∈sts k,∀ h∈List.range d,∀ a∈List.range (2^h+1),0<a→tT k d (Qj3 k d h st) h a≤tT k d st (h+1) a:=by decide +kernel
theorem Xgm:∀ k∈[1,2,3],∀ d∈List.range 7,∀ r∈List.range (2^d+1),1≤(Wt k d r).1∧∀ c∈List.range (r+1),0<c→(tT k d 0 d c:Int)≤(Wt k d r).1:=by decide +kernel
theorem Qic {k st:Nat}(h1:st<4)(h2:k=2→st<2):st∈sts k:=by
 unfold sts
 refine List.mem_range.2 ?_
 split
 · exact h2 ‹_›
 · exact h1
theorem k8 {k:Nat}(hk:1≤k∧k≤3)(j:Nat)(hj:1≤j∧j≤3):(BitVec.ofNat 8 k=BitVec.ofNat 8 j)↔k=j:=by
 constructor
 · intro h
   have:=congrArg BitVec.toNat h
   rw[BitVec.toNat_ofNat,BitVec.toNat_ofNat] at this
   omega
 · intro h;rw[h]
theorem Qxl {k d r:Nat}{R:List Nat}(hk:1≤k∧k≤3)(hr:Kw d R)(hn:R.Nodup)(hle:R.length≤r)(hr2:r≤2^d):((Va (BitVec.ofNat 8 k) d R).length:Int)≤(Wt k d r).1∧1≤(Wt k d r).1:=by
 obtain⟨hkm,hdm⟩:=Qam hk hr.1
 obtain⟨t1,t2⟩:=Xgm k hkm d hdm r (List.mem_range.2 (by omega))
 refine⟨?_,t1⟩
 unfold Va
 by_cases hne:R=[]
 · rw[if_pos hne];simpa using t1
 rw[if_neg hne]
 have hpos:0<R.length:=List.length_pos_iff.2 hne
 have h3:=t2 R.length (List.mem_range.2 (by omega)) hpos
 have hlen:=Qxg hr hne (BitVec.ofNat 8 k)
 have hroot:=Qtn hr hne
 have hcr:=Qxb hr
 have hl1:Nat.log2 1=0:=by decide
 have key:Wq (BitVec.ofNat 8 k) d R 1+Sf (BitVec.ofNat 8 k) d R d 1≤tT k d 0 d R.length:=by
  rcases(show k=1∨k=2∨k=3 by omega) with rfl|hk2
  · have h0:Wq (BitVec.ofNat 8 1) d R 1=0:=by
     unfold Wq Gy Wi
     rw[if_pos hroot,if_pos rfl,if_neg (by simp)];rfl
    have:=Qee hr hn (fun h c=>tT 1 d 0 h c) (fun h hh=>Xgl d hdm h (List.mem_range.2 (by omega)))
     (fun h a b hh ha hb hab=>Xgg d hdm h (List.mem_range.2 hh) a (List.mem_range.2 (by omega)) b (List.mem_range.2 (by omega)) hab) d 1 (by omega) (by omega) hroot
    rw[hcr] at this
    rw[h0,Nat.zero_add];exact this
  · have hk1:BitVec.ofNat 8 k≠1#8:=fun h=>by have:=(k8 hk 1 (by omega)).1 h;omega
    have hk23:k∈[2,3]:=by rcases hk2 with rfl|rfl<;>simp
    have e2:∀ {p:Prop},(BitVec.ofNat 8 k=2#8→p)→(k=2→p):=fun h h2=>h ((k8 hk 2 (by omega)).2 h2)
    have:=Qw5 hr hn hk1 (fun st h c=>tT k d st h c)
     (fun st s1 s2=>Xgk k hk23 d hdm st (Qic s1 (e2 s2)))
     (fun st h a b s1 s2 hh ha hb ha0 hb0=>by
      rcases hk2 with rfl|rfl
      · exact Xgh d hdm st (Qic s1 (e2 s2)) h (List.mem_range.2 hh) a (List.mem_range.2 (by omega)) b (List.mem_range.2 (by omega)) ha0 hb0
      · exact Xgi d hdm st (Qic s1 (e2 s2)) h (List.mem_range.2 hh) a (List.mem_range.2 (by omega)) b (List.mem_range.2 (by omega)) ha0 hb0)
     (fun st h a v s1 s2 hh ha ha0 hv=>by
      have hb:=Xgj k hk23 d hdm st (Qic s1 (e2 s2)) h (List.mem_range.2 hh) a (List.mem_range.2 (by omega)) ha0
      have hs:Kr d v=decide ((d-(h+1))%Yz d=0):=by unfold Kr;rw[show Nat.log2 v=d-(h+1) by omega]
      have he:Ig (BitVec.ofNat 8 k) d v st=Qj3 k d h st:=by
       unfold Ig Qj3
       rw[hs]
       simp only[k8 hk 2 (by omega),decide_eq_true_eq]
      show tT k d (Ig (BitVec.ofNat 8 k) d v st) h a≤_
      rw[he];exact hb)
     d 1 0 (by omega) (by omega) hroot (by simp) (by simp[Wh]) (fun t ht=>by omega)
    rw[hcr,show Dm (BitVec.ofNat 8 k) d 1 0=0 from rfl] at this
    simpa using this
 omega
end Go.Sx.Pn

end
section
set_option linter.unusedVariables false
set_option linter.unusedSimpArgs false
set_option maxRecDepth 100000
namespace Go.Sx.Pn
open Go Go.Sx
theorem Qxh:∀ k∈[1,2,3],∀ d∈List.range 7,∀ x∈ll k d,(Sj (Zx k d) x.2.1).2=0∧((Sj (Zx k d) x.2.1).1.length:Int)=x.2.2:=by decide +kernel
end Go.Sx.Pn

end
section
set_option linter.unusedVariables false
set_option linter.unusedSimpArgs false
set_option maxRecDepth 100000
namespace Go.Sx.Po
open Go
theorem Xdu {p q g:Nat}(hp:p<18446744073709551616)(hq:q<18446744073709551616)(hg:g<18446744073709551616):∃ b:Bool,Eh ⟨bn p,bn q,bn g⟩=some (if b=true then 0 else 13):=by
 obtain⟨b1,e1,i1⟩:=Qho hp
 obtain⟨b2,e2,i2⟩:=Qho hq
 unfold Eh
 simp only
 rw[e1,bind_some]
 cases b1 with
 | false=>exact⟨false,rfl⟩
 | true=>
  have hP:=i1.1 rfl
  simp only[Bool.not_true,cond_false]
  rw[e2,bind_some]
  cases b2 with
  | false=>exact⟨false,rfl⟩
  | true=>
   have hQ:=i2.1 rfl
   simp only[Bool.not_true,cond_false]
   have hp2:=hP.2.1
   have hq2:=hQ.2.1
   rw[show(1#64)=bn 1 from rfl,Qj5 hp (by omega),Pm (by omega) (by omega) hq,bind_some]
   by_cases hz:bn ((p-1)%q)≠0#64
   · rw[if_pos hz];exact⟨false,rfl⟩
   · rw[if_neg hz]
     by_cases c3:bn g<2#64
     · rw[if_pos c3];exact⟨false,rfl⟩
     · rw[if_neg c3]
       by_cases c5:bn p≤bn g
       · rw[if_pos c5];exact⟨false,rfl⟩
       · rw[if_neg c5,Qm1 hg hq (by omega) (by omega),bind_some]
         unfold Lr
         by_cases h4:bn (g^q%p)=bn 1
         · rw[decide_eq_false (by simpa using h4)];exact⟨true,rfl⟩
         · rw[decide_eq_true h4];exact⟨false,rfl⟩
theorem Qm5 (s:Qj):∃ b:Bool,Hi s=some b∧(b=true→s.Kind=4#8∧0≤s.Depth∧s.Depth≤6∧1≤s.Degree∧s.Degree≤8):=by
 obtain⟨kd,dp,dg,⟨P,Q,G⟩⟩:=s
 obtain⟨p,hp,rfl⟩:=Ik P
 obtain⟨q,hq,rfl⟩:=Ik Q
 obtain⟨g,hg,rfl⟩:=Ik G
 unfold Hi
 simp only
 by_cases h1:kd=4#8
 · rw[if_pos h1]
   by_cases h2:0≤dp
   · rw[if_pos h2]
     by_cases h3:dp≤6
     · rw[if_pos h3]
       by_cases h4:1≤dg
       · rw[if_pos h4]
         by_cases h5:dg≤8
         · rw[if_pos h5]
           obtain⟨b,e1⟩:=Xdu hp hq hg
           rw[e1,bind_some]
           split
           · have:Jp dp=some dp.toNat:=by unfold Jp;rw[if_pos h2]
             rw[this,bind_some]
             exact⟨_,rfl,fun _=>⟨h1,h2,h3,h4,h5⟩⟩
           · exact⟨false,rfl,nofun⟩
         · rw[if_neg h5];exact⟨false,rfl,nofun⟩
       · rw[if_neg h4];exact⟨false,rfl,nofun⟩
     · rw[if_neg h3];exact⟨false,rfl,nofun⟩
   · rw[if_neg h2];exact⟨false,rfl,nofun⟩
 · rw[if_neg h1];exact⟨false,rfl,nofun⟩
def Lv (s:Qj):Bool:=(Hi s).getD false
theorem Qld (s:Qj):Tp s=some (if Lv s=true then 0 else 30):=by
 obtain⟨b,e,_⟩:=Qm5 s
 unfold Tp Lv
 rw[e,bind_some]
 cases b<;>rfl
theorem Xdw {s:Qj}(h:Lv s=true):s.Kind=4#8∧0≤s.Depth∧s.Depth≤6∧1≤s.Degree∧s.Degree≤8:=by
 obtain⟨b,e,i⟩:=Qm5 s
 unfold Lv at h
 rw[e] at h
 exact i h
end Go.Sx.Po

end
section
set_option linter.unusedVariables false
set_option linter.unusedSimpArgs false
set_option maxRecDepth 100000
namespace Go.Sx.Pn
open Go Go.Sx Go.Sx.Po
theorem Qri (m:Int)(l:List Int)(hl:l.length<1000):∀ (k i f:Nat),l.length-i=k→i≤l.length→k<f→∃ j:Int,Qv (Qbj l m) f (i:Int)=some j∧(0≤j↔∃ x∈l.drop i,¬ (0≤x∧x≤m))
 | k,i,0,_,_,hf=>by omega
 | k,i,f+1,hk,hi,hf=>by
  rw[Kk]
  unfold Qbj
  by_cases h:i<l.length
  · rw[if_pos (by omega),Wg h,bind_some]
    unfold Qhi
    rw[List.drop_eq_getElem_cons h]
    by_cases h0:l[i]<0
    · rw[if_pos h0,bind_some,cond_true]
      exact⟨_,rfl,⟨fun _=>⟨l[i],List.mem_cons_self,by omega⟩,fun _=>by omega⟩⟩
    · rw[if_neg h0,bind_some]
      by_cases h1:m<l[i]
      · rw[decide_eq_true h1,cond_true]
        exact⟨_,rfl,⟨fun _=>⟨l[i],List.mem_cons_self,by omega⟩,fun _=>by omega⟩⟩
      · rw[decide_eq_false h1,cond_false,Jw (by omega) (by omega)]
        obtain⟨j,e,q⟩:=Qri m l hl (k-1) (i+1) f (by omega) (by omega) (by omega)
        refine⟨j,e,q.trans ?_⟩
        constructor
        · rintro⟨x,hx,hn⟩
          exact⟨x,List.mem_cons_of_mem _ hx,hn⟩
        · rintro⟨x,hx,hn⟩
          rcases List.mem_cons.1 hx with rfl|hx
          · exact absurd ⟨by omega,by omega⟩ hn
          · exact⟨x,hx,hn⟩
  · rw[if_neg (by omega)]
    refine⟨-1,rfl,?_⟩
    rw[List.drop_eq_nil_of_le (by omega)];simp
theorem Qir (m:Int)(l:List Int)(hl:l.length<1000):Ce m l=some (l.all fun x=>decide (0≤x∧x≤m)):=by
 unfold Ce Qi8 Qi9
 obtain⟨j,e,q⟩:=Qri m l hl _ 0 Xb rfl (by omega) (Yl (by omega))
 rw[show((0:Nat):Int)=0 from rfl] at e
 rw[e,bind_some,bind_some]
 congr 1
 rw[List.drop_zero] at q
 by_cases h:0≤j
 · rw[decide_eq_true h,Bool.not_true]
   obtain⟨x,hx,hn⟩:=q.1 h
   symm
   rw[List.all_eq_false]
   exact⟨x,hx,by simpa using hn⟩
 · rw[decide_eq_false h,Bool.not_false]
   symm
   rw[List.all_eq_true]
   intro x hx
   refine decide_eq_true ?_
   by_cases hc:0≤x∧x≤m
   · exact hc
   · exact absurd (q.2 ⟨x,hx,hc⟩) h
def Lc (n:Zs):Bool:=decide ((0≤n.Depth∧n.Depth≤6)∧(0≤n.Revoked∧n.Revoked≤((2^n.Depth.toNat:Nat):Int))∧(0≤n.Storage∧n.Storage≤10000)∧(0≤n.Headers∧n.Headers≤1000)∧(0≤n.HeaderPrice∧n.HeaderPrice≤1000)∧(0≤n.StoragePrice∧n.StoragePrice≤1000))
theorem Ql2 (n:Zs):Qdb n=some (if Lc n=true then 0 else 2):=by
 unfold Qdb Lc
 rw[Qir _ _ (by simp),bind_some]
 simp only[List.all_cons,List.all_nil,Bool.and_true]
 by_cases h1:0≤n.Depth∧n.Depth≤6
 · rw[decide_eq_true h1,Bool.not_true,cond_false]
   obtain⟨d,hd⟩:∃ d:Nat,n.Depth=(d:Int):=⟨n.Depth.toNat,by omega⟩
   rw[hd,Qty,bind_some,Xfk (by omega),Qir _ _ (by simp),bind_some,Int.toNat_natCast]
   simp only[List.all_cons,List.all_nil,Bool.and_true]
   by_cases h2:0≤n.Revoked∧n.Revoked≤((2^d:Nat):Int)
   · rw[decide_eq_true h2,Bool.not_true,cond_false,Qir _ _ (by simp),bind_some]
     simp only[List.all_cons,List.all_nil,Bool.and_true]
     by_cases h3:0≤n.Storage∧n.Storage≤10000
     · rw[decide_eq_true h3,Bool.not_true,cond_false,Qir _ _ (by simp),bind_some]
       simp only[List.all_cons,List.all_nil,Bool.and_true]
       unfold Eo
       rw[←Bool.decide_and,←Bool.decide_and]
       by_cases h4:(0≤n.Headers∧n.Headers≤1000)∧(0≤n.HeaderPrice∧n.HeaderPrice≤1000)∧(0≤n.StoragePrice∧n.StoragePrice≤1000)
       · rw[decide_eq_true h4,decide_eq_true ⟨by omega,h2,h3,h4⟩];rfl
       · rw[decide_eq_false h4,decide_eq_false fun h=>h4 h.2.2.2];rfl
     · rw[decide_eq_false h3,decide_eq_false fun h=>h3 h.2.2.1];rfl
   · rw[decide_eq_false h2,decide_eq_false fun h=>h2 h.2.1];rfl
 · rw[decide_eq_false h1,decide_eq_false fun h=>h1 h.1];rfl
def Rj (k d:Nat):Int:=((Qcg (Zx k d)).getD (0,0)).1
theorem Qu6:∀ k∈[1,2,3],∀ d∈List.range 7,Qcg (Zx k d)=some (Rj k d,0)∧1≤Rj k d∧Rj k d≤22:=by decide +kernel
theorem Xi4:∀ k∈[1,2,3],∀ d∈List.range 7,∀ r∈List.range (2^d+1),1≤(Wt k d r).1∧(Wt k d r).1≤32:=by decide +kernel
def mkC (n:Zs)(k:BitVec 8)(a b c:Int)(l:List Int):Xs:=⟨k,decide (c≤n.Storage),a,b,67+18*a+16*b,c,n.Headers*n.HeaderPrice*(67+18*a+16*b)+n.StoragePrice*c*((2^n.Depth.toNat:Nat):Int),l⟩
theorem Qxc {n:Zs}(h:Lc n=true){hd c:Int}(h1:0≤hd∧hd≤1000)(h2:0≤c∧c≤400):(0≤n.Headers*n.HeaderPrice∧n.Headers*n.HeaderPrice≤1000000)∧(0≤n.Headers*n.HeaderPrice*hd∧n.Headers*n.HeaderPrice*hd≤1000000000)∧(0≤n.StoragePrice*c∧n.StoragePrice*c≤400000)∧(0≤n.StoragePrice*c*((2^n.Depth.toNat:Nat):Int)∧n.StoragePrice*c*((2^n.Depth.toNat:Nat):Int)≤25600000):=by
 obtain⟨⟨a1,a2⟩,_,_,⟨b1,b2⟩,⟨c1,c2⟩,⟨d1,d2⟩⟩:=of_decide_eq_true h
 have h64:=Qhm (d:=n.Depth.toNat) (by omega)
 have e1:=Int.mul_nonneg b1 c1
 have e2:n.Headers*n.HeaderPrice≤1000*1000:=Int.mul_le_mul b2 c2 c1 (by omega)
 have e3:=Int.mul_nonneg e1 h1.1
 have e4:n.Headers*n.HeaderPrice*hd≤1000000*1000:=Int.mul_le_mul (by omega) h1.2 h1.1 (by omega)
 have e5:=Int.mul_nonneg d1 h2.1
 have e6:n.StoragePrice*c≤1000*400:=Int.mul_le_mul d2 h2.2 h2.1 (by omega)
 have e7:0≤n.StoragePrice*c*((2^n.Depth.toNat:Nat):Int):=Int.mul_nonneg e5 (by omega)
 have e8:n.StoragePrice*c*((2^n.Depth.toNat:Nat):Int)≤400000*64:=Int.mul_le_mul (by omega) (by omega) (by omega) (by omega)
 omega
theorem Qos {n:Zs}(h:Lc n=true)(k:BitVec 8){a b c:Int}(ha:0≤a∧a≤32)(hb:0≤b∧b≤8)(hc:0≤c∧c≤400)(l:List Int):Qb2 n k a b c l=some (mkC n k a b c l,0):=by
 obtain⟨q1,q2,q3,q4⟩:=Qxc h (hd:=67+18*a+16*b) (by omega) hc
 have hd:=(of_decide_eq_true h).1
 obtain⟨d,hd2⟩:∃ d:Nat,n.Depth=(d:Int):=⟨n.Depth.toNat,by omega⟩
 have e1:Qc (67+Qc (18*a))=67+18*a:=by rw[Jw (n:=18*a) (by omega) (by omega),Jw (by omega) (by omega)]
 have e2:Qc (Qc (67+Qc (18*a))+Qc (16*b))=67+18*a+16*b:=by rw[e1,Jw (n:=16*b) (by omega) (by omega),Jw (by omega) (by omega)]
 unfold Qb2 mkC
 rw[e2,Jw (n:=n.Headers*n.HeaderPrice) (by omega) (by omega),Jw (n:=n.Headers*n.HeaderPrice*(67+18*a+16*b)) (by omega) (by omega),Jw (n:=n.StoragePrice*c) (by omega) (by omega)]
 rw[hd2] at q4 ⊢
 rw[Qty,bind_some]
 unfold Xw
 rw[Int.toNat_natCast] at q4 ⊢
 rw[Nat.min_eq_left (by omega),show(2:Int)^d=((2^d:Nat):Int) from by rw[Int.natCast_pow];rfl,Jw (n:=n.StoragePrice*c*((2^d:Nat):Int)) (by omega) (by omega),Jw (by omega) (by omega)]
def Td (n:Zs):Qj:=⟨4#8,n.Depth,Yf n.Revoked 1,n.Group⟩
def Ng (n:Zs)(k:Nat):Xs:=mkC n (BitVec.ofNat 8 k) (Wt k n.Depth.toNat n.Revoked.toNat).1 0 (16*Rj k n.Depth.toNat) (Hp k n.Depth.toNat n.Revoked.toNat)
def Nh (n:Zs):Xs:=if Lv (Td n)=true then mkC n 4#8 0 (Yf n.Revoked 1) 8 [] else⟨4#8,false,0,0,0,0,0,[]⟩
def chN (n:Zs)(k:Nat):Xs:=if k=4 then Nh n else Ng n k
def zC:Xs:=⟨0#8,false,0,0,0,0,0,[]⟩
theorem Qx3 {n:Zs}(h:Lc n=false)(k:BitVec 8):Nu n k=some (zC,2):=by
 unfold Nu
 rw[Ql2,bind_some,h];rfl
theorem Qx2 {n:Zs}(h:Lc n=true){k:BitVec 8}(hk:k<1#8∨4#8<k):Nu n k=some (zC,2):=by
 unfold Nu
 rw[Ql2,bind_some,h,if_pos rfl,if_neg (by decide)]
 by_cases h1:k<1#8
 · rw[if_pos h1];rfl
 · rw[if_neg h1,decide_eq_true (hk.resolve_left h1)];rfl
theorem Qgh {k:Nat}(hk:k≤4):(BitVec.ofNat 8 k).toNat=k:=by rw[BitVec.toNat_ofNat];omega
theorem Ql3 {n:Zs}(h:Lc n=true):∃ d r:Nat,n.Depth=(d:Int)∧n.Revoked=(r:Int)∧d≤6∧r≤2^d:=by
 obtain⟨⟨a1,a2⟩,⟨b1,b2⟩,_⟩:=of_decide_eq_true h
 exact⟨n.Depth.toNat,n.Revoked.toNat,by omega,by omega,by omega,by omega⟩
theorem Qx4 {n:Zs}(h:Lc n=true){k:Nat}(hk:1≤k∧k≤4):Nu n (BitVec.ofNat 8 k)=some (chN n k,0):=by
 obtain⟨d,r,hd,hr,h6,hr2⟩:=Ql3 h
 have h64:=Qhm h6
 unfold Nu
 rw[Ql2,bind_some,h,if_pos rfl,if_neg (by decide),if_neg (fun hc=>by rw[BitVec.lt_def,Qgh hk.2] at hc;simp at hc;omega),decide_eq_false (fun hc=>by rw[BitVec.lt_def,Qgh hk.2] at hc;simp at hc;omega)]
 unfold Qdc
 rw[cond_false]
 by_cases h4:k=4
 · subst h4
   rw[if_pos rfl]
   unfold chN
   rw[if_pos rfl]
   show Option.bind (Tp (Td n)) _=_
   rw[Qld,bind_some]
   unfold Nh
   cases hp:Lv (Td n) with
   | false=>rw[if_neg (show ¬ false=true by simp),if_pos (show(30:Int)≠0 by decide),if_neg (show ¬ false=true by simp)]
   | true=>
    have hg:=Xdw hp
    have hm:1≤Yf n.Revoked 1∧Yf n.Revoked 1≤8:=hg.2.2.2
    rw[if_pos (show true=true from rfl),if_neg (show ¬ (0:Int)≠0 by decide),if_pos (show true=true from rfl)]
    exact Qos h _ (by omega) (by omega) (by omega) _
 · have hk3:1≤k∧k≤3:=by omega
   rw[if_neg (fun hc=>by have:=congrArg BitVec.toNat hc;rw[Qgh hk.2] at this;simp at this;omega)]
   unfold chN
   rw[if_neg h4]
   have hs:(Qj.mk (BitVec.ofNat 8 k) n.Depth 0 (Jb.mk 0#64 0#64 0#64))=Zx k d:=by rw[hd];rfl
   obtain⟨hkm,hdm⟩:=Qam hk3 h6
   obtain⟨s0,s1,s2⟩:=Qu6 k hkm d hdm
   obtain⟨w1,w2⟩:=Xi4 k hkm d hdm r (List.mem_range.2 (by omega))
   rw[hs,nt hk3 h6,bind_some,s0,bind_some,hr,Xi1 hk3 h6 hr2,bind_some]
   rw[show n.Depth=(d:Int) from hd,(Qs4 hk3 h6 hr2).1,bind_some]
   simp only
   rw[Jw (n:=16*Rj k d) (by omega) (by omega),Qos h _ (by omega) (by omega) (by omega)]
   unfold Ng
   rw[hd,hr,Int.toNat_natCast,Int.toNat_natCast]
end Go.Sx.Pn

end
section
set_option linter.unusedVariables false
set_option maxRecDepth 100000
namespace Go.Sx.Pn
open Go Go.Sx
theorem Qvu:Qg6=some true:=by kernel_rfl
end Go.Sx.Pn

end
section
set_option linter.unusedVariables false
set_option linter.unusedSimpArgs false
set_option maxRecDepth 100000
namespace Go.Sx.Pn
open Go Go.Sx Go.Sx.Ep Go.Sx.Po
theorem Xc7 {d:Nat}{l:List Int}(h:Ks d l=true):(Xx l).Nodup:=by
 have key:∀ i j (hi:i<l.length) (hj:j<l.length),i<j→l[i]<l[j]:=by
  intro i j hi hj hij
  induction j with
  | zero=>omega
  | succ j ih=>
   unfold Ks at h
   rw[List.all_eq_true] at h
   have h1:=h (j+1) (List.mem_range.2 hj)
   rw[Bool.and_eq_true,Bool.or_eq_true,decide_eq_true_eq,decide_eq_true_eq,decide_eq_true_eq,getD_some hj,Nat.add_sub_cancel,getD_some (by omega:j<l.length)] at h1
   have h2:=h1.2.resolve_left (by omega)
   rcases Nat.lt_or_ge i j with h3|h3
   · have:=ih (by omega) h3;omega
   · obtain rfl:i=j:=by omega
     exact h2
 unfold Xx
 refine List.pairwise_iff_getElem.2 fun i j hi hj hij=>?_
 rw[List.length_map] at hi hj
 rw[List.getElem_map,List.getElem_map]
 have h1:=key i j hi hj hij
 obtain⟨a,ha,_⟩:=Qge h (List.getElem_mem hi)
 obtain⟨b,hb,_⟩:=Qge h (List.getElem_mem hj)
 omega
theorem Qkr:∀ k∈[1,2,3],∀ d∈List.range 7,((Hh (BitVec.ofNat 8 k) d 0).length:Int)=Rj k d:=by decide +kernel
theorem Quu {k d:Nat}(hk:1≤k∧k≤3)(hd:d≤6):Rr (Zx k d) d:=by
 refine⟨?_,?_,Xf8 hk hd,rfl,hd⟩
 · have:k=1∨k=2∨k=3:=by omega
   rcases this with rfl|rfl|rfl
   · exact .inl rfl
   · exact .inr (.inl rfl)
   · exact .inr (.inr rfl)
 · intro hc
   have:=congrArg BitVec.toNat hc
   change(BitVec.ofNat 8 k).toNat=4 at this
   rw[Qgh (by omega)] at this;omega
theorem Qxv {s:Qj}{d:Nat}(h:Rr s d):Uk s=some 0:=by
 obtain⟨k1,k4,hv,hd,h6⟩:=h
 obtain⟨n1,n2⟩:=Ea s (by omega)
 unfold Uk
 rw[if_neg n1,decide_eq_false n2]
 unfold Qa6
 rw[cond_false,if_pos k1,(Qek s).1,bind_some,hv,if_pos rfl]
theorem Qxu (s:Qj)(h:s.Kind=4#8):Uk s=some (if Lv s=true then 0 else 30):=by
 unfold Uk
 rw[h,if_neg (by decide),decide_eq_false (by decide)]
 unfold Qa6
 rw[cond_false,h,if_neg (by decide),if_pos (by decide),Po.Qld,bind_some]
theorem Qoi {c:Xs × Int}{x9:Zl × Int}{x10 x11:List (BitVec 8) × Int}{x12:Xp × Int}{a:Int}(h1:x9.2=0)(h2:x10.2=0)(h3:x11.2=0)(h4:x12.2=0)(h5:(x10.1.length:Int)≤c.1.Header)(h6:(x11.1.length:Int)=c.1.Header)(h7:a=c.1.Storage):Qap true c x9 x10 x11 x12 a=some true:=by
 unfold Qap
 rw[cond_true,if_pos h1,if_pos h2,if_pos h3,if_pos h4,if_pos h5,if_pos h6,decide_eq_true h7]
theorem Qj8 {k:BitVec 8}{root:W2}{n:Int}{l:List Int}{c:Xs × Int}{s:Qj}(h:c.1.Header=0):Bt k root n l true c s true=some true:=by
 unfold Bt
 rw[cond_true,cond_true,decide_eq_true h]
theorem Xgo {k d r:Nat}(hk:1≤k∧k≤3)(hd:d≤6)(hr:r≤2^d){l:List Int}(hb:Ks d l=true)(hle:l.length≤r):((Va (BitVec.ofNat 8 k) d (Xx l)).length:Int)≤(Wt k d r).1:=by
 exact(Qxl hk (Nw hd hb) (Xc7 hb) (by unfold Xx;rw[List.length_map];exact hle) hr).1
theorem Xhy {k d r:Nat}(hk:1≤k∧k≤3)(hd:d≤6)(hr:r≤2^d):Ks d (Hp k d r)=true∧((Va (BitVec.ofNat 8 k) d (Xx (Hp k d r))).length:Int)=(Wt k d r).1∧(Hp k d r).length≤r:=by
 obtain⟨_,l2,l3⟩:=Qs4 hk hd hr
 obtain⟨h1,h2⟩:=Qam hk hd
 obtain⟨c1,c2⟩:=Qxh k h1 d h2 _ l2
 simp only at c1 c2
 obtain⟨d',hv,hd',_,hb⟩:=Qox c1
 have e:d'=d:=by have:((d:Nat):Int)=(d':Int):=hd';omega
 subst e
 refine⟨hb,?_,l3⟩
 rw[Qja hv rfl hb] at c2
 rw[←c2,List.length_map];rfl
theorem Qww {n:Zs}(hv:Lc n=true){k:Nat}(hk:1≤k∧k≤3)(root:W2)(m:Int){l:List Int}(hl:l.length≤100)(hle:(l.length:Int)≤n.Revoked):Bu (BitVec.ofNat 8 k) root m l true (Ng n k,0) (Zx k n.Depth.toNat) (Ng n k).Witness=some true:=by
 obtain⟨d,r,hd,hr,h6,hr2⟩:=Ql3 hv
 have h64:=Qhm h6
 have hT:=Quu hk h6
 obtain⟨w1,w2,w3⟩:=Xhy hk h6 hr2
 have hk4:¬ BitVec.ofNat 8 k=4#8:=hT.2.1
 have eW:(Ng n k).Witness=Hp k d r:=by show Hp k n.Depth.toNat n.Revoked.toNat=_;rw[hd,hr];rfl
 have eH:(Ng n k).Header=67+18*(Wt k d r).1:=by show 67+18*(Wt k n.Depth.toNat n.Revoked.toNat).1+16*0=_;rw[hd,hr,Int.toNat_natCast,Int.toNat_natCast];omega
 have eS:(Ng n k).Storage=16*Rj k d:=by show 16*Rj k n.Depth.toNat=_;rw[hd];rfl
 have eD:n.Depth.toNat=d:=by omega
 rw[eW,eD]
 unfold Bu
 obtain⟨x8,a8,b8⟩:=Qfv root (Zx k d) m l (by omega)
 obtain⟨x9,a9,b9⟩:=Qfv root (Zx k d) m (Hp k d r) (by omega)
 rw[a8,bind_some,a9,bind_some]
 by_cases h8:x8.2=0
 · obtain⟨ht,h⟩:=b8 h8
   have hlr:l.length≤r:=by omega
   have hcase:Ks d l=true∧∃ mm,x8.1=⟨1#8,m,Ym root (Ko root m) (BitVec.ofNat 8 k) (Va (BitVec.ofNat 8 k) d (Xx l)),0#8,0#64,[],mm⟩:=by
    rcases h with⟨d',hT',hb,mm,hx⟩|⟨_,_,_,_,_,_,hP,_⟩
    · have e:d'=d:=by have h1:((d:Nat):Int)=(d':Int):=hT'.2.2.2.1;omega
      subst e
      exact⟨hb,mm,hx⟩
    · exact absurd hP.2.1 hT.2.1
   obtain⟨hb,mm,hx⟩:=hcase
   have hR:=Nw h6 hb
   have hRw:=Nw h6 w1
   have c1:=Qcb hR (BitVec.ofNat 8 k)
   have c2:=Qcb hRw (BitVec.ofNat 8 k)
   have hsw:=Xfe hT w1 (by omega) root ht
   obtain⟨mw,hmw⟩:=Qfw hsw (by unfold Ym;rw[List.length_map];show(Va (BitVec.ofNat 8 k) d (Xx (Hp k d r))).length≤64;omega) (by unfold Ym;simp)
   rw[a9] at hmw
   cases hmw
   obtain⟨p8,q8⟩:=x8
   simp only at h8 hx
   subst h8 hx
   rw[if_neg (by simp)]
   obtain⟨b1,e1,f1⟩:=Qfd (h:=Ym root (Ko root m) (BitVec.ofNat 8 k) (Va (BitVec.ofNat 8 k) d (Xx l))) mm (Qie ht) (by unfold Ym;rw[List.length_map];omega) (by unfold Ym;simp) (Qsl hR _ _ _)
   obtain⟨b2,e2,f2⟩:=Qfd (h:=Ym root (Ko root m) (BitVec.ofNat 8 k) (Va (BitVec.ofNat 8 k) d (Xx (Hp k d r)))) mw (Qie ht) (by unfold Ym;rw[List.length_map];omega) (by unfold Ym;simp) (Qsl hRw _ _ _)
   rw[e1,bind_some]
   show Option.bind (Su ⟨1#8,m,Ym root (Ko root m) (BitVec.ofNat 8 k) (Va (BitVec.ofNat 8 k) d (Xx (Hp k d r))),0#8,0#64,[],mw⟩) _=_
   rw[e2,bind_some]
   have hs:Bi root (Zx k d) 0=some (Xp.mk 0 (Nz root (BitVec.ofNat 8 k) d 0) (Xq.mk 0#64 0#64),0):=by
    obtain⟨n1,n2⟩:=Ea (Zx k d) (by have:=hT.1;omega)
    unfold Bi
    rw[if_neg n1,decide_eq_false n2]
    unfold Ul
    rw[cond_false,if_pos hT.1,(Qek _).1,bind_some,if_pos hT.2.2.1,if_neg (by decide),(Qvs root _ 0).1,bind_some]
    have:=Xff (s:=Zx k d) hT.2.2.1 rfl (u:=0) (Nat.two_pow_pos d) root
    rw[show((0:Nat):Int)=0 from rfl] at this
    rw[this];rfl
   rw[hs,bind_some,if_neg hk4]
   obtain⟨hkm,hdm⟩:=Qam hk h6
   obtain⟨_,s1,s2⟩:=Qu6 k hkm d hdm
   have hlab:=Qkr k hkm d hdm
   have hlen:((Nz root (BitVec.ofNat 8 k) d 0).length:Int)=Rj k d:=by unfold Nz;rw[List.length_map];exact hlab
   have hi1:(Ym root (Ko root m) (BitVec.ofNat 8 k) (Va (BitVec.ofNat 8 k) d (Xx l))).Items.length=(Va (BitVec.ofNat 8 k) d (Xx l)).length:=by unfold Ym;rw[List.length_map]
   have hi2:(Ym root (Ko root m) (BitVec.ofNat 8 k) (Va (BitVec.ofNat 8 k) d (Xx (Hp k d r)))).Items.length=(Va (BitVec.ofNat 8 k) d (Xx (Hp k d r))).length:=by unfold Ym;rw[List.length_map]
   have hp1:∀ y,(Ym root (Ko root m) (BitVec.ofNat 8 k) y).Points.length=0:=fun y=>rfl
   rw[hp1,hi1] at f1
   rw[hp1,hi2] at f2
   have t1:=Xgo hk h6 hr2 hb hlr
   refine Qoi rfl rfl rfl rfl ?_ ?_ ?_
   · show(b1.length:Int)≤(Ng n k).Header
     rw[eH,f1];omega
   · show(b2.length:Int)=(Ng n k).Header
     rw[eH,f2];omega
   · show Qc (16*((Nz root (BitVec.ofNat 8 k) d 0).length:Int))=(Ng n k).Storage
     rw[eS,hlen,Jw (by omega) (by omega)]
 · rw[if_pos h8]
theorem Qwx {n:Zs}(hv:Lc n=true)(hp:Lv (Td n)=true)(root:W2)(m:Int){l:List Int}(hl:l.length≤100)(hle:(l.length:Int)≤n.Revoked):Bu 4#8 root m l true (Nh n,0) (Td n) []=some true:=by
 have hpv:Hi (Td n)=some true:=by
  obtain⟨b,hb,_⟩:=Qm5 (Td n)
  unfold Lv at hp
  rw[hb] at hp ⊢
  simp only[Option.getD_some] at hp
  rw[hp]
 obtain⟨d,t,p,q,g,hV⟩:∃ d t p q g,Po.Wb (Td n) d t p q g:=by
  rcases Po.Cq (Td n) with⟨e1,_⟩|⟨_,_,d,t,p,q,g,h⟩
  · rw[e1] at hpv;cases hpv
  · exact⟨d,t,p,q,g,h⟩
 haveI:NeZero q:=⟨by have:=hV.qb;omega⟩
 have hP:Mf (Td n) d t p q g:=⟨rfl,rfl,hV,hpv⟩
 have ht8:=hV.t8
 have hdeg:(t:Int)=Yf n.Revoked 1:=hV.deg.symm
 have eC:Nh n=mkC n 4#8 0 (Yf n.Revoked 1) 8 []:=by unfold Nh;rw[if_pos hp]
 unfold Bu
 obtain⟨x8,a8,b8⟩:=Qfv root (Td n) m l (by omega)
 obtain⟨x9,a9,b9⟩:=Qfv root (Td n) m [] (by simp)
 rw[a8,bind_some,a9,bind_some]
 by_cases h8:x8.2=0
 · obtain⟨ht,h⟩:=b8 h8
   rcases h with⟨d',hT',_⟩|⟨d',t',p',q',g',ln,hP',rfl,hlb,ho,hlen,mm,hx⟩
   · exact absurd rfl hT'.2.1
   · have ht':t'=t:=by have h1:=hP'.2.2.1.deg;have h2:=hV.deg;omega
     subst ht'
     have hsw:=Xfc hP' root ht
     obtain⟨mw,hmw⟩:=Qfw hsw (by unfold Po.Zn;simp) (by unfold Po.Zn;rw[List.length_map,Po.Qbs (Nat.zero_le _)];omega)
     rw[a9] at hmw
     cases hmw
     obtain⟨p8,q8⟩:=x8
     simp only at h8 hx
     subst h8 hx
     rw[if_neg (by simp)]
     obtain⟨b1,e1,f1⟩:=Qfd (h:=Po.Zn root d' t' p' q' g' ln (Ko root m) (wd m)) mm (Qie ht) (by unfold Po.Zn;simp) (by unfold Po.Zn;rw[List.length_map,Po.Qbs hlen];omega) (by unfold Po.Zn;simp)
     obtain⟨b2,e2,f2⟩:=Qfd (h:=Po.Zn root d' t' p' q' g' [] (Ko root m) (wd m)) mw (Qie ht) (by unfold Po.Zn;simp) (by unfold Po.Zn;rw[List.length_map,Po.Qbs (Nat.zero_le _)];omega) (by unfold Po.Zn;simp)
     rw[e1,bind_some]
     show Option.bind (Su ⟨1#8,m,Po.Zn root d' t' p' q' g' [] (Ko root m) (wd m),0#8,0#64,[],mw⟩) _=_
     rw[e2,bind_some]
     obtain⟨y,y1,y2⟩:=Xfh hP root 0
     have hy0:y.2=0:=by
      have hf:=Po.Qtw hV hpv root (u:=0) (Nat.two_pow_pos d)
      obtain⟨n1,n2⟩:=Ea (Td n) (by have:=hP.1;omega)
      unfold Bi at y1
      rw[if_neg n1,decide_eq_false n2] at y1
      unfold Ul at y1
      rw[cond_false,if_neg (by have:=hP.1;omega),if_pos hP.1,Qlc hpv,bind_some,if_neg (by decide),show(0:Int)=((0:Nat):Int) from rfl,hf,bind_some] at y1
      have:=Option.some.inj y1
      rw[←this]
     rw[y1,bind_some,if_pos rfl]
     have hi:∀ z,(Po.Zn root d' t' p' q' g' z (Ko root m) (wd m)).Items.length=0:=fun z=>rfl
     have hp1:(Po.Zn root d' t' p' q' g' ln (Ko root m) (wd m)).Points.length=t':=by unfold Po.Zn;rw[List.length_map,Po.Qbs hlen]
     have hp2:(Po.Zn root d' t' p' q' g' [] (Ko root m) (wd m)).Points.length=t':=by unfold Po.Zn;rw[List.length_map,Po.Qbs (Nat.zero_le _)]
     rw[hi,hp1] at f1
     rw[hi,hp2] at f2
     have eH:(Nh n).Header=67+16*Yf n.Revoked 1:=by rw[eC];show 67+18*0+16*Yf n.Revoked 1=_;omega
     refine Qoi rfl rfl rfl hy0 ?_ ?_ ?_
     · show(b1.length:Int)≤(Nh n).Header
       rw[eH,f1];omega
     · show(b2.length:Int)=(Nh n).Header
       rw[eH,f2];omega
     · show(8:Int)=(Nh n).Storage
       rw[eC];rfl
 · rw[if_pos h8]
end Go.Sx.Pn
namespace Go.Sx
open Go Go.Sx.Pn Go.Sx.Ep Go.Sx.Po
theorem Xbt (n:Zs)(k:BitVec 8)(root:W2)(m:Int)(l:List Int)(hn:n.ok)(hm:Gg m)(hl:∀ a∈l,Gg a)(hll:l.length*8≤140737488351232):Qg5 n k root m l=some true:=by
 unfold Qg5
 rw[Qvu,bind_some]
 have hJ:Ec n k root m l true true=some true:=rfl
 by_cases h1:(100:Int)<(l.length:Int)
 · rw[if_pos h1];exact hJ
 rw[if_neg h1]
 by_cases h2:n.Revoked<(l.length:Int)
 · rw[if_pos h2];exact hJ
 rw[if_neg h2,Bool.not_true]
 unfold Ec
 rw[cond_false]
 have hsc:∃ s,Rc n k=some s:=by unfold Rc;split<;>exact⟨_,rfl⟩
 cases hv:Lc n with
 | false=>
  obtain⟨s,hs⟩:=hsc
  rw[Qx3 hv,bind_some,hs,bind_some,if_pos (by simp)]
  exact Qj8 rfl
 | true=>
  by_cases hk:k<1#8∨4#8<k
  · obtain⟨s,hs⟩:=hsc
    rw[Qx2 hv hk,bind_some,hs,bind_some,if_pos (by simp)]
    exact Qj8 rfl
  · obtain⟨j,hj,rfl⟩:∃ j:Nat,(1≤j∧j≤4)∧k=BitVec.ofNat 8 j:=by
     refine⟨k.toNat,?_,by simp⟩
     constructor
     · have h3:¬ k<1#8:=fun h=>hk (.inl h)
       rw[BitVec.lt_def] at h3;simp at h3;omega
     · have h3:¬ 4#8<k:=fun h=>hk (.inr h)
       rw[BitVec.lt_def] at h3;simp at h3;omega
    rw[Qx4 hv hj,bind_some]
    by_cases h4:j=4
    · subst h4
      have e1:Rc n (BitVec.ofNat 8 4)=some (Td n):=by unfold Rc;rw[if_pos rfl];rfl
      have e2:chN n 4=Nh n:=if_pos rfl
      rw[e1,bind_some,if_neg (by simp),Qxu _ rfl,bind_some,e2]
      cases hp:Lv (Td n) with
      | false=>
       rw[if_neg (show ¬ false=true by simp),decide_eq_true (by decide)]
       exact Qj8 (by unfold Nh;rw[if_neg (by rw[hp];simp)])
      | true=>
       rw[if_pos (show true=true from rfl),decide_eq_false (by decide)]
       unfold Bt
       rw[cond_false,if_pos rfl]
       exact Qwx hv hp root m (by omega) (by omega)
    · have hj3:1≤j∧j≤3:=by omega
      obtain⟨d,r,hd,hr,h6,hr2⟩:=Ql3 hv
      have hT:=Quu hj3 h6
      have hk4:¬ BitVec.ofNat 8 j=4#8:=hT.2.1
      have e1:Rc n (BitVec.ofNat 8 j)=some (Zx j n.Depth.toNat):=by unfold Rc;rw[if_neg hk4,hd];rfl
      have e2:chN n j=Ng n j:=if_neg h4
      rw[e1,bind_some,if_neg (by simp),e2,show n.Depth.toNat=d by omega,Qxv hT,bind_some,decide_eq_false (by simp)]
      unfold Bt
      rw[cond_false,if_neg hk4]
      have:=Qww hv hj3 root m (l:=l) (by omega) (by omega)
      rw[show n.Depth.toNat=d by omega] at this
      exact this
end Go.Sx

end
