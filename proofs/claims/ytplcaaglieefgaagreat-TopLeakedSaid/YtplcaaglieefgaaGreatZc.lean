/- Several texts in one: Mir MirB MirC MirD MirE MirF MirG Wd MirH MirI We MirJ MirK MirL Sq Row Opn Pln Wf MirM Wg. -/
import Derived.Test.YtplcaaglieefgaaGreatZb
import Derived.Laws.MakeOwn
import Derived.Laws.Slices
import Derived.Laws.IdiomStrings
import Derived.Laws.Strings
import Derived.Laws.IdiomCopy
import Derived.Laws.IdiomRangeMap
import Derived.ControlIn
import Derived.Laws.CopyRow
import Derived.Test.YtplcaaglieefgaaGreatRows
import Derived.ProofKit
import Derived.OpenShut
import Derived.ShutString
import Derived.ChangeOld
import Derived.Below
import Derived.Carry
import Derived.SizedLaws
set_option linter.unusedVariables false
set_option linter.unusedSimpArgs false
set_option maxRecDepth 100000
section
namespace Go.Sx
open Go Go.RowKit
abbrev aT (n:Int):Int:=IntKind.i64.wrap n
def aI:Nat:=18446744073709551616
def aC {σ R:Type}(F:(σ→Option R)→σ→Option R)(n:Nat):σ→Option R:=Nat.rec (fun _=>none) (fun _ ih s=>F ih s) n
theorem dW {σ R:Type}(F:(σ→Option R)→σ→Option R)(n:Nat)(s:σ):aC F (n+1) s=F (aC F n) s:=rfl
theorem dE {σ R:Type}{F:(σ→Option R)→σ→Option R}{n:Nat}{s:σ}{r:R}(h:aC F n s=some r):∃ m,n=m+1∧F (aC F m) s=some r:=by
 cases n with
 | zero=>cases h
 | succ m=>exact⟨m,rfl,h⟩
theorem aV {α β:Type}{o:Option α}{f:α→Option β}{r:β}(h:Option.bind o f=some r):∃ a,o=some a∧f a=some r:=by
 cases o with
 | none=>cases h
 | some a=>exact⟨a,rfl,h⟩
theorem tO {β:Type}{c:Prop}[Decidable c]{a b:Option β}{r:β}(hc:c)(h:(if c then a else b)=some r):a=some r:=by rwa[aG hc] at h
theorem tI {β:Type}{c:Prop}[Decidable c]{a b:Option β}{r:β}(hc:¬ c)(h:(if c then a else b)=some r):b=some r:=by rwa[aH hc] at h
theorem O7 {β:Type}{c:Bool}{a b:Option β}{r:β}(hc:c=true)(h:(bif c then a else b)=some r):a=some r:=by rw[hc] at h;exact h
theorem O6 {β:Type}{c:Bool}{a b:Option β}{r:β}(hc:c=false)(h:(bif c then a else b)=some r):b=some r:=by rw[hc] at h;exact h
def bJ {α:Type}(l:List α)(i:Int):Option α:=if 0≤i then l[i.toNat]? else none
theorem pQ {α:Type}{l:List α}{i:Int}{a:α}(h:bJ l i=some a):0≤i:=by unfold bJ at h;split at h<;>first|assumption|cases h
theorem rO {α:Type}{l:List α}{i:Int}{a:α}(h:bJ l i=some a):l[i.toNat]? = some a:=by unfold bJ at h;split at h<;>first|assumption|cases h
theorem xY {α:Type}{l:List α}{i:Int}{a:α}(h:bJ l i=some a):i<l.length:=by
 have:=(jP.1 (rO h)).1;have:=pQ h;omega
def gI {α:Type}(b:Nat)(l m:List α):Option (List α):=if(l.length+m.length)*b≤140737488355328 then some (l++m) else none
theorem Qhu {α:Type}{b:Nat}{l m k:List α}(h:gI b l m=some k):k=l++m∧(l.length+m.length)*b≤140737488355328:=by
 unfold gI at h;split at h
 · exact⟨(jB h).symm,‹_›⟩
 · cases h
def lG {α:Type}(b:Nat)(n:Int)(z:α):Option (List α):=if 0≤n∧n*b≤140737488355328 then some (List.replicate n.toNat z) else none
theorem Xbo {α:Type}{b:Nat}{n:Int}{z:α}{k:List α}(h:lG b n z=some k):k=List.replicate n.toNat z∧0≤n∧n*b≤140737488355328:=by
 unfold lG at h;split at h
 · rename_i h1;exact⟨(jB h).symm,h1⟩
 · cases h
def uG {α:Type}(l:List α)(lo hi:Int):Option (List α):=if 0≤lo∧lo≤hi∧hi≤l.length then some ((l.take hi.toNat).drop lo.toNat) else none
theorem Xg3 {α:Type}{l k:List α}{lo hi:Int}(h:uG l lo hi=some k):k=(l.take hi.toNat).drop lo.toNat∧0≤lo∧lo≤hi∧hi≤l.length:=by
 unfold uG at h;split at h
 · rename_i h1;exact⟨(jB h).symm,h1⟩
 · cases h
def sL (a b:Int):Option Int:=if b=0 then none else some (aT (a.tdiv b))
def rW (a b:Int):Option Int:=if b=0 then none else some (a.tmod b)
def wX {n:Nat}(a b:BitVec n):Option (BitVec n):=if b=BitVec.ofNat n 0 then none else some (a / b)
def gB {n:Nat}(a b:BitVec n):Option (BitVec n):=if b=BitVec.ofNat n 0 then none else some (a%b)
def eD (n:Int):Option Nat:=if 0≤n then some n.toNat else none
theorem C3 {n:Int}{k:Nat}(h:eD n=some k):0≤n∧n.toNat=k:=by
 unfold eD at h;split at h
 · rename_i h1;exact⟨h1,jB h⟩
 · cases h
def lF (a:Int)(n:Nat):Int:=aT (a*2^min n 64)
def xO (a:Int)(n:Nat):Int:=a / 2^min n 64
def I9 (op:BinOp)(a b:Int):Int:=bits op .i64 a b
def aO (x:BitVec 8):Int:=(x.toNat:Int)
abbrev bv (x:BitVec 8):Value:=.int .u8 (aO x)
theorem mS (x:BitVec 8):0≤aO x:=by unfold aO;omega
theorem mL (x:BitVec 8):aO x≤255:=by unfold aO;have:=x.isLt;omega
theorem Qqe {x y:BitVec 8}(h:aO x=aO y):x=y:=by apply jW;unfold aO at h;omega
def Iy (n:Int):BitVec 8:=BitVec.ofInt 8 n
abbrev ic (n:Int):List Value:=[.int .i64 n]
abbrev mJ (x:BitVec 64):List Value:=[wv x]
abbrev lD (x:BitVec 8):List Value:=[bv x]
abbrev k0:W2:=(0#64,0#64)
section
variable {P:Program} {L:Slots} {w:World} {dst:Option Nat} {ty:TypeId} {pos:String} {af:Array Edge} {gu:Option (Nat × Bool)} {x y:Operand} {t u:TypeId} {a b:Int}
theorem Qr8 {c:Int}(hx:ev L x=some (.int .i64 a))(hy:ev L y=some (.int .i64 b))(h:sL a b=some c):VV P L ⟨dst,.binOp .quo t x y u,ty,pos,af,gu⟩ w (.int .i64 c):=fun ρ hρ=>by
 unfold sL at h
 split at h
 · cases h
 · rename_i hd;cases h;simp[execOp,hρ _ _ hx,hρ _ _ hy,go_sem,Op.intDiv,hd]
theorem Il {c:Int}(hx:ev L x=some (.int .i64 a))(hy:ev L y=some (.int .i64 b))(h:rW a b=some c):VV P L ⟨dst,.binOp .rem t x y u,ty,pos,af,gu⟩ w (.int .i64 c):=fun ρ hρ=>by
 unfold rW at h
 split at h
 · cases h
 · rename_i hd;cases h;simp[execOp,hρ _ _ hx,hρ _ _ hy,go_sem,Op.intDiv,hd]
theorem Vh {yk:IntKind}{n:Nat}(hx:ev L x=some (.int .i64 a))(hy:ev L y=some (.int yk b))(h:eD b=some n):VV P L ⟨dst,.binOp .shl t x y u,ty,pos,af,gu⟩ w (.int .i64 (lF a n)):=by
 obtain⟨h1,rfl⟩:=C3 h;exact Qh6 hx hy h1
theorem Im {yk:IntKind}{n:Nat}(hx:ev L x=some (.int .i64 a))(hy:ev L y=some (.int yk b))(h:eD b=some n):VV P L ⟨dst,.binOp .shr t x y u,ty,pos,af,gu⟩ w (.int .i64 (xO a n)):=by
 obtain⟨h1,rfl⟩:=C3 h;exact La hx hy h1
theorem U2 {yk:IntKind}{n:Nat}{c:BitVec 64}(hx:ev L x=some (wv c))(hy:ev L y=some (.int yk b))(h:eD b=some n):VV P L ⟨dst,.binOp .shl t x y u,ty,pos,af,gu⟩ w (wv (c <<< n)):=by
 obtain⟨h1,rfl⟩:=C3 h;exact Lc hx hy h1
theorem yY {yk:IntKind}{n:Nat}{c:BitVec 64}(hx:ev L x=some (wv c))(hy:ev L y=some (.int yk b))(h:eD b=some n):VV P L ⟨dst,.binOp .shr t x y u,ty,pos,af,gu⟩ w (wv (c >>> n)):=by
 obtain⟨h1,rfl⟩:=C3 h;exact Io hx hy h1
theorem Xib {op:BinOp}(hop:op=.and∨op=.or∨op=.xor∨op=.andNot)(hx:ev L x=some (.int .i64 a))(hy:ev L y=some (.int .i64 b)):VV P L ⟨dst,.binOp op t x y u,ty,pos,af,gu⟩ w (.int .i64 (I9 op a b)):=yK hop hx hy
variable {c d:BitVec 64} {p q:BitVec 8}
theorem Qqf:un c=un d↔c=d:=⟨Ay,fun h=>by rw[h]⟩
theorem Xhu:aO p=aO q↔p=q:=⟨Qqe,fun h=>by rw[h]⟩
theorem oK {p q:Prop}[Decidable p][Decidable q](h:p↔q):Value.bool (decide p)=.bool (decide q):=by simp[h]
theorem Qqh:un c<un d↔c<d:=by unfold un;rw[pN];omega
theorem Qqg:un c≤un d↔c≤d:=by unfold un;rw[yG];omega
theorem Nk:aO p<aO q↔p<q:=by unfold aO;rw[pN];omega
theorem Xhv:aO p≤aO q↔p≤q:=by unfold aO;rw[yG];omega
theorem Nr (hx:ev L x=some (wv c))(hy:ev L y=some (wv d)):VV P L ⟨dst,.binOp .eql t x y u,ty,pos,af,gu⟩ w (.bool (decide (c=d))):=dL (dK hx hy) (oK Qqf)
theorem Ik (hx:ev L x=some (wv c))(hy:ev L y=some (wv d)):VV P L ⟨dst,.binOp .neq t x y u,ty,pos,af,gu⟩ w (.bool (decide (c≠d))):=dL (fH hx hy) (oK (not_congr Qqf))
theorem U1 (hx:ev L x=some (wv c))(hy:ev L y=some (wv d)):VV P L ⟨dst,.binOp .lss t x y u,ty,pos,af,gu⟩ w (.bool (decide (c<d))):=dL (cN hx hy) (oK Qqh)
theorem Qr5 (hx:ev L x=some (wv c))(hy:ev L y=some (wv d)):VV P L ⟨dst,.binOp .leq t x y u,ty,pos,af,gu⟩ w (.bool (decide (c≤d))):=dL (qT hx hy) (oK Qqg)
theorem Qh1 (hx:ev L x=some (wv c))(hy:ev L y=some (wv d)):VV P L ⟨dst,.binOp .gtr t x y u,ty,pos,af,gu⟩ w (.bool (decide (d<c))):=dL (gT hx hy) (oK Qqh)
theorem Ns (hx:ev L x=some (wv c))(hy:ev L y=some (wv d)):VV P L ⟨dst,.binOp .geq t x y u,ty,pos,af,gu⟩ w (.bool (decide (d≤c))):=dL (gC hx hy) (oK Qqg)
theorem kP (hx:ev L x=some (bv p))(hy:ev L y=some (bv q)):VV P L ⟨dst,.binOp .eql t x y u,ty,pos,af,gu⟩ w (.bool (decide (p=q))):=dL (dK hx hy) (oK Xhu)
theorem U0 (hx:ev L x=some (bv p))(hy:ev L y=some (bv q)):VV P L ⟨dst,.binOp .lss t x y u,ty,pos,af,gu⟩ w (.bool (decide (p<q))):=dL (cN hx hy) (oK Nk)
theorem Qh3 (hx:ev L x=some (bv p))(hy:ev L y=some (bv q)):VV P L ⟨dst,.binOp .leq t x y u,ty,pos,af,gu⟩ w (.bool (decide (p≤q))):=dL (qT hx hy) (oK Xhv)
theorem Xij (hx:ev L x=some (bv p))(hy:ev L y=some (bv q)):VV P L ⟨dst,.binOp .gtr t x y u,ty,pos,af,gu⟩ w (.bool (decide (q<p))):=dL (gT hx hy) (oK Nk)
theorem Qr9 {e:BitVec 64}(hx:ev L x=some (wv c))(hy:ev L y=some (wv d))(h:wX c d=some e):VV P L ⟨dst,.binOp .quo t x y u,ty,pos,af,gu⟩ w (wv e):=by
 unfold wX at h
 split at h
 · cases h
 · rename_i hd;cases h
   have h0:0<un d:=by
    have:=M0 d;rcases Int.lt_or_eq_of_le this with h|h
    · exact h
    · exact absurd (Ay (show un d=un 0#64 from by rw[←h];rfl)) hd
   have e1:un c / un d=un (c / d):=by unfold un;rw[Qaa];norm_cast
   have hl:=Qgv (c / d);have hn:=M0 (c / d);exact dL (Xiz hx hy (M0 c) h0 (by rw[e1,IntKind.wrap_u64];omega)) (by rw[e1])
theorem qN {e:BitVec 64}(hx:ev L x=some (wv c))(hy:ev L y=some (wv d))(h:gB c d=some e):VV P L ⟨dst,.binOp .rem t x y u,ty,pos,af,gu⟩ w (wv e):=by
 unfold gB at h
 split at h
 · cases h
 · rename_i hd;cases h
   have h0:0<un d:=by
    have:=M0 d;rcases Int.lt_or_eq_of_le this with h|h
    · exact h
    · exact absurd (Ay (show un d=un 0#64 from by rw[←h];rfl)) hd
   exact dL (Xj0 hx hy (M0 c) h0) (cA (Value.int .u64) (by unfold un;rw[E3];exact(Qad _ _).symm))
theorem Nq {s d:TypeId}(hc:CV P s d .i64)(hx:ev L x=some (wv c)):VV P L ⟨dst,.convert s d x,ty,pos,af,gu⟩ w (.int .i64 (aT (un c))):=wV hc hx
theorem Qh0 {s d:TypeId}(hc:CV P s d .i64)(hx:ev L x=some (bv p)):VV P L ⟨dst,.convert s d x,ty,pos,af,gu⟩ w (.int .i64 (aO p)):=rD hc hx (by have:=mS p;omega) (by have:=mL p;omega)
theorem mK {s d:TypeId}(hc:CV P s d .u64)(hx:ev L x=some (.int .i64 a)):VV P L ⟨dst,.convert s d x,ty,pos,af,gu⟩ w (wv (wd a)):=dL (wV hc hx) (by
 rw[IntKind.wrap_u64];show Value.int .u64 _=Value.int .u64 (un (wd a));refine cA (Value.int .u64) ?_;unfold un wd;rw[Yd];omega)
theorem Qqu {s d:TypeId}(hc:CV P s d .u64)(hx:ev L x=some (bv p)):VV P L ⟨dst,.convert s d x,ty,pos,af,gu⟩ w (wv (p.setWidth 64)):=dL (wV hc hx) (by
 have:=mS p;have:=mL p
 rw[IntKind.wrap_u64,E4 aQ aQ];show Value.int .u64 _=Value.int .u64 (un (p.setWidth 64));refine cA (Value.int .u64) ?_;unfold aO un;rw[kT,fA (by have:=p.isLt;omega)])
end
section
variable {P:Program} {L:Slots} {w:World} {dst:Option Nat} {ty:TypeId} {pos:String} {af:Array Edge} {gu:Option (Nat × Bool)}
variable {x y:Operand} {t:TypeId} {z g o sz:Nat} {e:TypeId} {v:Value} {k:IntKind} {α:Type} {l:List α} {c:α→List Value} {a:α} {i:Int}
theorem cQ (hu:P.underlying t=some (.slice e))(hx:ev L x=some v)(hr:Rd w z g o sz v (l.map c)):VV P L ⟨dst,.call { callee:=.builtin .len,args := #[x],argTypes := #[t] },ty,pos,af,gu⟩ w (.int .i64 (l.length:Int)):=Qr4 hu hx hr (fJ ..)
theorem cW (hu:P.underlying t=some (.slice e))(hs:iY P e sz)(hx:ev L x=some v)(hr:Rd w z g o sz v (l.map c))(hy:ev L y=some (.int k i))(hg:bJ l i=some a):
 VV P L ⟨dst,.indexAddr t x y,ty,pos,af,gu⟩ w (.pointer (some ⟨g,o+i.toNat*sz,none⟩)):=Qr1 hu hs hx hr (fJ ..) hy (pQ hg) (xY hg)
theorem dH {p q:Nat}{u:Value}(h1:gV P t)(hx:ev L x=some (.pointer (some ⟨g,p,none⟩)))(hr:Rd w z g o sz v (l.map c))(hg:bJ l i=some a)(hp:p=o+(i.toNat*sz+q))(hc:(c a)[q]? = some u):VV P L ⟨dst,.load t x,ty,pos,af,gu⟩ w u:=
 Xic h1 hx hr (sQ (rO hg)) hp hc
theorem jA {p:Nat}(h1:gG P t sz)(hx:ev L x=some (.pointer (some ⟨g,p,none⟩)))(hr:Rd w z g o sz v (l.map c))(hg:bJ l i=some a)(hp:p=o+i.toNat*sz):VV P L ⟨dst,.load t x,ty,pos,af,gu⟩ w (.agg (c a).toArray):=
 Xie h1 hx hr (sQ (rO hg)) hp
theorem lT {bytes z2 g2 o2:Nat}{u:Value}{m k:List α}(ha:lC P t e sz bytes)(hx:ev L x=some v)(hy:ev L y=some u)(h:aY w z g e sz v (l.map c))(hr:Rd w z2 g2 o2 sz u (m.map c))(hb:gI bytes l m=some k)(hpos:1≤bytes):
 EV P L ⟨dst,.call { callee:=.builtin .append,args := #[x,y],argTypes := #[t,t] },ty,pos,af,gu⟩ w fun v' w'=>∃ z' g',aY w' z' g' e sz v' (k.map c)∧Ka z g w w'∧bQ (z'=0∨(z'=1∧g'<w'.heap.size))∧bQ ((g'=g∧z=1)∨w.heap.size≤g'∨z'=0):=by
 obtain⟨rfl,hb2⟩:=Qhu hb;have hle:l.length+m.length≤(l.length+m.length)*bytes:=Nat.le_mul_of_pos_right _ hpos;refine(Qyl ha hx hy h hr (by rw[fJ,fJ];exact hb2) (by rw[fJ,fJ];omega)).mono ?_;rintro v' w' ⟨z',g',h1,h2,h3,h4,h5⟩;exact⟨z',g',by rw[qB];exact h1,h2,⟨h3⟩,⟨h4⟩⟩
theorem eP {len:Nat}{zs cs:List Value}{parts:Array (Nat × Operand)}{vs:List (Nat × Value)}(l:List α)(c:α→List Value)(hb:iO P t len e sz zs)(hp:zN L parts.toList=some vs)(hf:oO (fun i=>some (i*sz,sz)) zs vs=some cs)
 (hw:Ws sz (l.map c)) (hx:cs=(l.map c).flatten) (hl:l.length=len) (hm:Nat.ble len 1000000=true):
 EV P L ⟨dst,.buildSlice t len parts,ty,pos,af,gu⟩ w fun v' w'=>∃ g',w.heap.size≤g'∧aY w' 1 g' e sz v' (l.map c)∧Gr w w':=Qyn hb hp hf hw hx (by rw[fJ];exact hl) hm
theorem Ws.take {sz n:Nat}{xs:List (List Value)}(h:Ws sz xs):Ws sz (xs.take n):=fun y hy=>h y (List.mem_of_mem_take hy)
theorem Ws.drop {sz n:Nat}{xs:List (List Value)}(h:Ws sz xs):Ws sz (xs.drop n):=fun y hy=>h y (List.mem_of_mem_drop hy)
theorem Qll {sz:Nat}:∀ (n:Nat) (xs:List (List Value)),Ws sz xs→(xs.drop n).flatten=xs.flatten.drop (n*sz)
 | 0,xs,_=>by simp
 | n+1,[],_=>by simp
 | n+1,x::xs,h=>by
  have hx:=(h x bW).1;rw[List.drop_succ_cons,Qll n xs (fun y hy=>h y (pS _ hy)),pL,List.drop_append];have e:(n+1)*sz-x.length=n*sz:=by rw[hx,iN];omega
  have e2:x.drop ((n+1)*sz)=[]:=tQ (by rw[hx,iN];omega);rw[e,e2,tK]
theorem Qlm {sz:Nat}:∀ (n:Nat) (xs:List (List Value)),Ws sz xs→(xs.take n).flatten=xs.flatten.take (n*sz)
 | 0,xs,_=>by simp
 | n+1,[],_=>by simp
 | n+1,x::xs,h=>by
  have hx:=(h x bW).1;rw[List.take_succ_cons,pL,Qlm n xs (fun y hy=>h y (pS _ hy)),pL,Sk];have e:(n+1)*sz-x.length=n*sz:=by rw[hx,iN];omega
  have e2:x.take ((n+1)*sz)=x:=kI (by rw[hx,iN];omega);rw[e,e2]
end
end Go.Sx

end
section
namespace Go.Sx
open Go Go.RowKit
def cY:List (Nat × Nat)→Nat→Prop
 | [],_=>True
 | (z,g)::r,k=>(z=0∨k≠g)∧cY r k
def Mz:List (Nat × Nat)→Nat→Prop
 | [],_=>False
 | (z,g)::r,k=>(k=g∧z≠0)∨Mz r k
def dU (l:List (Nat × Nat))(z g base:Nat):Prop:=z=0∨base≤g∨Mz l g
def dB:List (Nat × Nat)→List (Nat × Nat)→Nat→Prop
 | [],_,_=>True
 | (z,g)::r,l,base=>dU l z g base∧dB r l base
theorem eQ {g:Nat}:∀ {ms:List Nat},Mz (ms.map fun b=>(1,b)) g↔g∈ms
 | []=>by simp[Mz]
 | a::r=>by simp[Mz,eQ]
theorem Qnc:∀ {l:List (Nat × Nat)} {k g:Nat},cY l k→Mz l g→k≠g
 | [],k,g,_,h=>h.elim
 | (z,b)::r,k,g,hn,h=>by
  rcases h with⟨h1,h2⟩|h
  · subst h1;rcases hn.1 with h0|h0
    · exact absurd h0 h2
    · exact h0
  · exact Qnc hn.2 h
theorem Qe6 {l:List (Nat × Nat)}{z g base k:Nat}(h:dU l z g base)(hk:k<base)(hn:cY l k):z=0∨k≠g:=by
 rcases h with h|h|h
 · exact .inl h
 · exact .inr aQ
 · exact .inr (Qnc hn h)
theorem Pt {l:List (Nat × Nat)}{base k:Nat}(hk:k<base)(hn:cY l k):∀ {m:List (Nat × Nat)},dB m l base→cY m k
 | [],_=>trivial
 | (z,g)::r,h=>⟨Qe6 h.1 hk hn,Pt hk hn h.2⟩
structure Kz (l:List (Nat × Nat))(w w':World):Prop where
 os:w'.os=w.os
 tape:w'.tape=w.tape
 output:w'.output=w.output
 size:w.heap.size≤w'.heap.size
 block:∀ k,k<w.heap.size→cY l k→w'.heap[k]? = w.heap[k]?
section
variable {l m:List (Nat × Nat)} {w w₁ w₂ w':World} {z g b o sz:Nat} {t e:TypeId} {cs:List Value} {v:Value} {xs:List (List Value)}
theorem Kz.refl (l:List (Nat × Nat))(w:World):Kz l w w:=⟨rfl,rfl,rfl,eO _,fun _ _ _=>rfl⟩
theorem Kz.gr (h:Kz l w w₁)(k:Gr w₁ w₂):Kz l w w₂:=⟨k.os.trans h.os,k.tape.trans h.tape,k.output.trans h.output,eK h.size k.size,fun i hi hn=>(k.block i (iC hi h.size)).trans (h.block i hi hn)⟩
theorem Kz.md (h:Kz l w w₁)(k:Md b w₁ w₂)(hb:dU l 1 b w.heap.size:=by simp only[cY,dB,dU,eQ,Mz,bO]<;>omega):Kz l w w₂:=⟨k.os.trans h.os,k.tape.trans h.tape,k.output.trans h.output,by rw[k.size];exact h.size,fun i hi hn=>(k.block i (by have:=Qe6 hb hi hn;omega)).trans (h.block i hi hn)⟩
theorem Kz.ka (h:Kz l w w₁)(k:Ka z g w₁ w₂)(hb:dU l z g w.heap.size:=by simp only[cY,dB,dU,eQ,Mz,bO]<;>omega):Kz l w w₂:=⟨k.os.trans h.os,k.tape.trans h.tape,k.output.trans h.output,eK h.size k.size,fun i hi hn=>(k.block i (iC hi h.size) (Qe6 hb hi hn)).trans (h.block i hi hn)⟩
theorem Kz.kz (h:Kz l w w₁)(k:Kz m w₁ w₂)(hb:dB m l w.heap.size:=by simp only[cY,dB,dU,eQ,Mz,bO]<;>omega):Kz l w w₂:=⟨k.os.trans h.os,k.tape.trans h.tape,k.output.trans h.output,eK h.size k.size,fun i hi hn=>(k.block i (iC hi h.size) (Pt hi hn hb)).trans (h.block i hi hn)⟩
theorem Kz.kp {ms:List Nat}(h:Kz l w w₁)(k:Kp ms w₁ w₂)(hb:dB (ms.map fun b=>(1,b)) l w.heap.size):Kz l w w₂:=⟨k.os.trans h.os,k.tape.trans h.tape,k.output.trans h.output,eK h.size k.size,fun i hi hn=>(k.block i (iC hi h.size) (fun hm=>by
 have h1:=Pt hi hn hb
 have key:∀ (ms:List Nat),i∈ms→cY (ms.map fun b=>(1,b)) i→False:=by
  intro ms
  induction ms with
  | nil=>intro h;cases h
  | cons a r ih=>
   intro h h2;rcases gW.1 h with rfl|h
   · have:=h2.1;omega
   · exact ih h h2.2
 exact key ms hm h1)).trans (h.block i hi hn)⟩
theorem Gr.kz (h:Gr w w₁)(k:Kz m w₁ w₂)(hb:dB m [] w.heap.size:=by simp only[cY,dB,dU,eQ,Mz,bO]<;>omega):Gr w w₂:=⟨k.os.trans h.os,k.tape.trans h.tape,k.output.trans h.output,eK h.size k.size,fun i hi=>(k.block i (iC hi h.size) (Pt (l:=[]) hi trivial hb)).trans (h.block i hi)⟩
theorem Kp.kz {ms:List Nat}(h:Kp ms w w₁)(k:Kz m w₁ w₂)(hb:dB m (ms.map fun b=>(1,b)) w.heap.size:=by simp only[cY,dB,dU,eQ,Mz,bO]<;>omega):Kp ms w w₂:=⟨k.os.trans h.os,k.tape.trans h.tape,k.output.trans h.output,eK h.size k.size,fun i hi hn=>(k.block i (iC hi h.size) (Pt hi (by
 have key:∀ (ms:List Nat),i∉ms→cY (ms.map fun b=>(1,b)) i:=by
  intro ms
  induction ms with
  | nil=>intro _;trivial
  | cons a r ih=>intro h;exact⟨.inr (fun e=>h (by rw[e];simp)),ih (fun h2=>h (by simp[h2]))⟩
 exact key ms hn) hb)).trans (h.block i hi hn)⟩
theorem Bx.kz (h:Bx w b t cs)(k:Kz l w w')(hn:cY l b:=by simp only[cY,dB,dU,eQ,Mz,bO]<;>omega):Bx w' b t cs:=(k.block b h.lt hn).trans h
theorem aY.kz (h:aY w z g e sz v xs)(k:Kz l w w')(hn:z=0∨cY l g:=by simp only[cY,dB,dU,eQ,Mz,bO]<;>omega):aY w' z g e sz v xs:=h.keep (hn.imp id fun hn hl=>k.block g hl hn)
theorem Rd.kz (h:Rd w z g o sz v xs)(k:Kz l w w')(hn:z=0∨cY l g:=by simp only[cY,dB,dU,eQ,Mz,bO]<;>omega):Rd w' z g o sz v xs:=h.keep (hn.imp id fun hn hl=>k.block g hl hn) k.size
theorem Df.kz {D:Nat}(h:Df w D)(k:Kz l w w')(hn:cY l D:=by simp only[cY,dB,dU,eQ,Mz,bO]<;>omega):Df w' D:=(k.block D h.lt hn).trans h
theorem Rd.oneB (h:Rd w z g o sz v xs):oneB v=true:=by
 rcases h.2 with⟨_,_,a,c,rfl⟩|⟨_,c,rfl,_⟩<;>rfl
end
theorem Qrf {sz:Nat}{α:Type}{c:α→List Value}{l:List α}(h:∀ x∈l,(c x).length=sz∧iD (c x)=true):Ws sz (l.map c):=fun y hy=>by
 obtain⟨x,hx,rfl⟩:=fP.1 hy;exact h x hx
theorem Tg (k:IntKind)(n:Int):oneB (.int k n)=true:=rfl
theorem Tf (b:Bool):oneB (.bool b)=true:=rfl
theorem Th (b:ByteArray):oneB (.string b)=true:=rfl
theorem Xh3 {P:Program}{r:Option Nat}{n:Nat}{Q:Exit→List Deferred→Slots→World→Prop}{D:List Deferred}{L:Slots}{w:World}{x y:Code}{β:Type}(iV:List Nat)(dyn:β→Slots)(J:β→World→Prop)
 (hk:∀ b w1,J b w1→SW P r n y Q D (dyn b++nT iV L) w1)
 (h:SW P r n x (mZ (fun D1 L1 w1=>D1=D∧∃ b,nA (dyn b++nT iV L) L1∧J b w1) Q) D L w):SW P r n (.seq x y) Q D L w:=
 aD (h.mono fun e D1 L1 w1 hh=>by
  cases e with
  | normal=>obtain⟨rfl,b,h1,h2⟩:=hh;exact(hk b w1 h2).forget h1
  | exit id=>exact hh
  | goto l=>exact hh
  | ret=>exact hh
  | panic c=>exact hh
  | outgrown=>exact hh)
section
variable {P:Program} {L:Slots} {w:World} {dst:Option Nat} {ty:TypeId} {pos:String} {af:Array Edge} {gu:Option (Nat × Bool)} {x y:Operand} {t u:TypeId}
theorem Qh5 {p:Prop}[Decidable p](hx:ev L x=some (.bool (decide p))):VV P L ⟨dst,.unOp .not t x,ty,pos,af,gu⟩ w (.bool (decide (¬ p))):=dL (eF hx) (by by_cases h:p<;>simp[h])
def BZ (P:Program)(t:TypeId)(v:Value):Prop:=∀ w,(Instr.build t #[]).run P w=.ok v w
theorem rP {v:Value}(h:BZ P t v):VV P L ⟨dst,.build t #[],ty,pos,af,gu⟩ w v:=fun ρ hρ=>nM (by simpa using h w)
def Qq2:Value→Bool
 | .pointer (some _)=>true
 | .func (.func _) _ _=>true
 | _=>false
theorem cR {v:Value}(hx:ev L x=some v)(hs:Qq2 v=true):VV P L ⟨dst,.nilCheck x,ty,pos,af,gu⟩ w v:=fun ρ hρ=>by
 simp only[execOp,hρ _ _ hx];unfold Qq2 at hs
 split at hs<;>first|rfl|cases hs
theorem Qqw {a b:Bool}(hu:P.underlying t=some .bool)(hx:ev L x=some (.bool a))(hy:ev L y=some (.bool b)):VV P L ⟨dst,.binOp .eql t x y u,ty,pos,af,gu⟩ w (.bool (a == b)):=fun ρ hρ=>by
 simp[execOp,hρ _ _ hx,hρ _ _ hy,go_sem,run_eql_bool _ _ _ _ hu]
theorem Xit {a b:Bool}(hu:P.underlying t=some .bool)(hx:ev L x=some (.bool a))(hy:ev L y=some (.bool b)):VV P L ⟨dst,.binOp .neq t x y u,ty,pos,af,gu⟩ w (.bool (a != b)):=fun ρ hρ=>by
 simp[execOp,hρ _ _ hx,hρ _ _ hy,go_sem,run_neq_bool _ _ _ _ hu];cases a<;>cases b<;>rfl
theorem Qjd {p:Prop}[Decidable p]{q:Prop}(h:q↔p):kS q=decide p:=by
 by_cases hp:p
 · rw[Qw (h.2 hp)];simp[hp]
 · rw[Qje (fun hq=>hp (h.1 hq))];simp[hp]
theorem Qqx {α:Type}[DecidableEq α]{cf:α→List Value}{a b:α}{ks:List Ck}(h:wP P t ks)(hx:ev L x=some (.agg (cf a).toArray))(hy:ev L y=some (.agg (cf b).toArray))(hc:kn ks (cf a)=true)(hd:kn ks (cf b)=true)(inj:cf a=cf b→a=b):
 VV P L ⟨dst,.binOp .eql t x y u,ty,pos,af,gu⟩ w (.bool (decide (a=b))):=dL (Xig h hx hy hc hd) (by rw[Qjd ⟨inj,fun h=>by rw[h]⟩])
theorem Ij {α:Type}[DecidableEq α]{cf:α→List Value}{a b:α}{ks:List Ck}(h:wP P t ks)(hx:ev L x=some (.agg (cf a).toArray))(hy:ev L y=some (.agg (cf b).toArray))(hc:kn ks (cf a)=true)(hd:kn ks (cf b)=true)(inj:cf a=cf b→a=b):
 VV P L ⟨dst,.binOp .neq t x y u,ty,pos,af,gu⟩ w (.bool (decide (a≠b))):=dL (Xis h hx hy hc hd) (by rw[Qjd (p:=a=b) ⟨inj,fun h=>by rw[h]⟩];by_cases h:a=b<;>simp[h])
theorem vY {a b:Int}{k:IntKind}(h:some (Value.int k a)=some (.int k b)):a=b:=by simpa using h
theorem Qcf {a b:BitVec 64}(h:some (wv a)=some (wv b)):a=b:=Ay (vY h)
theorem Fp {a b:BitVec 8}(h:some (bv a)=some (bv b)):a=b:=Qqe (vY h)
theorem Qtk {a b:Bool}(h:some (Value.bool a)=some (.bool b)):a=b:=by simpa using h
theorem eX {b' off:Nat}{tb:TypeId}{v:Value}{cs cs':List Value}(hs:iY P t 1)(hx:ev L x=some (.pointer (some ⟨b',off,none⟩)))(hy:ev L y=some v)(h1:oneB v=true)(hb:Bx w b' tb cs)(hl:Nat.blt off cs.length=true)(he:cs.set off v=cs'):
 EV P L ⟨dst,.store t x y,ty,pos,af,gu⟩ w fun _ w'=>Bx w' b' tb cs'∧Md b' w w':=by
 subst he;exact Xg hs hx hy h1 hb (by simpa using hl)
theorem Hr {b' off m:Nat}{tb:TypeId}{v:Value}{cs vs cs':List Value}(hs:iY P t m)(hx:ev L x=some (.pointer (some ⟨b',off,none⟩)))(hy:ev L y=some v)(hc:v.cells=vs.toArray)(hm:vs.length=m)(h1:iD vs=true)(hb:Bx w b' tb cs)(hl:Nat.ble (off+m) cs.length=true)(he:iU cs off vs=cs'):
 EV P L ⟨dst,.store t x y,ty,pos,af,gu⟩ w fun _ w'=>Bx w' b' tb cs'∧Md b' w w':=by
 subst he;exact Ch hs hx hy hc hm h1 hb hl
end
section
variable {P:Program} {L:Slots} {w:World} {dst:Option Nat} {ty:TypeId} {pos:String} {af:Array Edge} {gu:Option (Nat × Bool)} {x y:Operand} {t e:TypeId} {z g sz:Nat} {v:Value}
theorem Xgl (cs:List Value)(off:Nat)(vs:List Value)(h:off+vs.length≤cs.length):(iU cs off vs).length=cs.length:=by simp[iU];omega
theorem Xh7 (cs:List Value)(off n:Nat)(vs:List Value)(h:off+vs.length≤n)(hn:n≤cs.length):(iU cs off vs).take n=iU (cs.take n) off vs:=by
 have e1:(cs.take off).length=off:=by simp;omega
 unfold iU;rw[Sk,Sk,nJ,e1,kI (l:=cs.take off) aQ,kI (l:=vs) aQ,List.take_take,oB aQ,List.drop_take]
theorem Qdw:∀ (xs:List (List Value)) (i q:Nat) (c vs:List Value),Ws sz xs→xs[i]? = some c→q+vs.length≤sz→(xs.set i (iU c q vs)).flatten=iU xs.flatten (i*sz+q) vs
 | [],i,q,c,vs,_,hi,_=>by simp at hi
 | a::xs,0,q,c,vs,h,hi,hq=>by
  simp at hi;subst hi;have ha:=(h a bW).1;simp only[List.set_cons_zero,pL,vZ,kN,iU];rw[Qaz aQ,Qaf aQ];simp
 | a::xs,i+1,q,c,vs,h,hi,hq=>by
  simp at hi;have ha:=(h a bW).1;have ih:=Qdw xs i q c vs (fun y hy=>h y (pS _ hy)) hi hq;rw[Qay,pL,ih,pL];simp only[iU];have e1:(i+1)*sz+q=a.length+(i*sz+q):=by rw[ha,iN];omega
  rw[e1,Sk,kI (l:=a) aQ,show a.length+(i*sz+q)-a.length=i*sz+q from by omega,List.drop_append,@List.drop_eq_nil_of_le _ a _ aQ,show a.length+(i*sz+q)+vs.length-a.length=i*sz+q+vs.length from by omega];simp
theorem kV {α:Type}{l:List α}{c:α→List Value}{a a':α}{i:Int}{p q m:Nat}{u:Value}{vs:List Value}(hs:iY P t m)(hx:ev L x=some (.pointer (some ⟨g,p,none⟩)))(hy:ev L y=some u)(hc:u.cells=vs.toArray)(hm:vs.length=m)(h1:iD vs=true)
 (h:aY w z g e sz v (l.map c)) (hg:bJ l i=some a) (hp:p=i.toNat*sz+q) (hq:Nat.ble (q+m) sz=true) (he:iU (c a) q vs=c a') (hw:(c a').length=sz∧iD (c a')=true):
 EV P L ⟨dst,.store t x y,ty,pos,af,gu⟩ w fun _ w'=>aY w' z g e sz v ((l.set i.toNat a').map c)∧Md g w w':=by
 have hq':=qU hq;have hi:=rO hg;have hxi:(l.map c)[i.toNat]? = some (c a):=sQ hi;have hil:=(jP.1 hxi).1;rcases h.2 with⟨_,_,h0⟩|⟨hz,cap,cur,hv,hb,hn,hcap,hsz,htk⟩
 · rw[h0] at hxi;simp at hxi
 · have hbx:Bx w g e cur.toList:=by unfold Bx;simpa using hb
   have hfl:=h.1.flat;have hle:(l.map c).length*sz≤cur.toList.length:=by rw[show cur.toList.length=cap*sz from hsz];exact gA _ hn
   have hin:i.toNat*sz+sz≤(l.map c).length*sz:=by rw[←Nat.succ_mul];exact gA _ hil
   have hbd:i.toNat*sz+q+vs.length≤cur.toList.length:=by omega
   refine(Ch (off:=p) hs hx hy hc hm h1 hbx (by rw[Sn];omega)).mono ?_;rintro _ w' ⟨h2,h3⟩;have hset:(l.set i.toNat a').map c=(l.map c).set i.toNat (iU (c a) q vs):=by rw[List.map_set,he]
   refine⟨⟨?_,.inr ⟨hz,cap,(iU cur.toList p vs).toArray,?_,h2,?_,hcap,?_,?_⟩⟩,h3⟩
   · rw[hset];intro y hy;rcases Qas hy with hy|hy
     · exact h.1 y hy
     · subst hy;rw[he];exact hw
   · rw[hv];simp
   · simpa using hn
   · rw[Sj,hp,Xgl _ _ _ aQ,Qa7];exact hsz
   · rw[hset,Qdw _ _ _ _ _ h.1 hxi aQ,←htk,hp,Ym];exact Xh7 _ _ _ _ aQ hle
theorem Qn7 (z:List Value)(h:0<z.length):∀ n,((List.range (n*z.length)).map fun i=>z.toArray[i%z.toArray.size]!)=(List.replicate n z).flatten
 | 0=>by simp
 | n+1=>by
  rw[iN,nY,List.range_add,qB,Qn7 z h n,Y0,List.replicate_succ',Sc];congr 1;apply E7 bW;intro i h1 h2;have hi:i<z.length:=by simpa using h1
  have e1:(n*z.length+i)%z.length=i:=by rw[eZ,Nat.mul_add_mod,fA hi]
  simp[e1,hi]
theorem tB {bytes:Nat}{zv:Value}{α:Type}{c:α→List Value}{a:α}{n:Int}{l:List α}(ha:lC P t e sz bytes)(hz:ZV P e zv)(hc:zv.cells=(c a).toArray)(hs:(c a).length=sz∧iD (c a)=true)(hx:ev L x=some (.int .i64 n))(hl:lG bytes n a=some l)(hpos:1≤bytes):
 EV P L ⟨dst,.makeSlice t x x,ty,pos,af,gu⟩ w fun v' w'=>∃ g',w.heap.size≤g'∧aY w' 1 g' e sz v' (l.map c)∧Gr w w':=fun ρ hρ=>by
 obtain⟨rfl,h0,hb⟩:=Xbo hl;obtain⟨i,zv',hi,hzv,hsz,hby,hzs⟩:=ha.info
 have hzz:zv'=zv:=by
  have h1:=hz w;simp[zeroValue,typeInfo,hi,hzv] at h1;exact h1
 subst hzz hsz hby;have hle:n≤n*i.bytes:=by have:=Int.mul_le_mul_of_nonneg_left (show(1:Int)≤i.bytes by omega) h0;omega
 have hbc:(i.bytes:Int)*n=n*i.bytes:=Int.mul_comm _ _;have hrun:=run_make (P:=P) w t e i zv' ha.und hi hzv .i64 .i64 n n h0 (Int.le_refl _) aQ aQ
 have hmade:(madeCells zv'.cells (n.toNat*i.size)).toList=(List.replicate n.toNat (c a)).flatten:=by
  rw[hc];unfold madeCells;rw[Yb,Array.toList_range,←hs.1];exact Qn7 (c a) (by rw[hs.1];exact ha.pos) n.toNat
 have hws:Ws i.size ((List.replicate n.toNat a).map c):=Qrf (fun y hy=>by rw[Yi hy];exact hs);refine .val _ _ (nM ?_) ⟨w.heap.size,eO _,⟨hws,.inr ⟨rfl,n.toNat,madeCells zv'.cells (n.toNat*i.size),by rw[fJ,A2],heap_alloc_new w _,by rw[fJ,A2];exact eO _,by simp only[maxLen];omega,size_madeCells _ _,?_⟩⟩,(Below.refl _ _).alloc (eO _) _⟩
 · rw[hρ _ _ hx];exact hrun
 · rw[fJ,A2,List.map_replicate,←hmade,kI (by rw[Qa7,size_madeCells];exact eO _)]
def J9 (L:Slots)(o:Option Operand)(d v:Int):Prop:=match o with
 | none=>v=d
 | some x=>∃ k,ev L x=some (.int k v)
theorem Qpd {a:Option Addr}{len cap:Nat}{lo hi:Int}{ol oh:Option Operand}{ρ:Operand→Value}(hρ:sE L ρ)(hu:P.underlying t=some (.slice e))(hs:iY P e sz)(h1:J9 L ol 0 lo)(h2:J9 L oh (len:Int) hi)(h0:0≤lo)(hlh:lo≤hi)(hh:hi≤len)(hcap:len≤cap):
 (Instr.sliceAt t (.slice a len cap) (ol.map ρ) (oh.map ρ) none).run P w=.ok (sliced a lo.toNat hi.toNat cap sz) w:=by
 have he:P.elem t=e:=by simp[Program.elem,hu]
 have hu':P.underlying t=some (.slice (P.elem t)):=by rw[he];exact hu
 rw[run_sliceAt_slice _ _ _ _ _ _ hu']
 cases ol with
 | none=>
  simp only[J9] at h1;subst h1
  cases oh with
  | none=>simp only[J9] at h2;subst h2;rw[Qbd,run_slice_all _ _ _ _ _ hu',he,hs w];simp[Result.andThen]
  | some q=>obtain⟨k,hq⟩:=h2;rw[Qbd,wS,hρ _ _ hq,run_slice_h _ _ _ _ _ hu' _ _ aQ aQ,he,hs w];simp[Result.andThen]
 | some p=>
  obtain⟨k1,hp⟩:=h1
  cases oh with
  | none=>simp only[J9] at h2;subst h2;rw[Qbd,wS,hρ _ _ hp,run_slice_l _ _ _ _ _ hu' _ _ h0 aQ,he,hs w];simp[Result.andThen]
  | some q=>obtain⟨k,hq⟩:=h2;rw[wS,wS,hρ _ _ hp,hρ _ _ hq,run_slice_lh _ _ _ _ _ hu' _ _ _ _ h0 hlh aQ,he,hs w];simp[Result.andThen]
theorem Qra {α:Type}{c:α→List Value}{l m:List α}{lo hi:Int}{ol oh:Option Operand}{o:Nat}(hu:P.underlying t=some (.slice e))(hs:iY P e sz)(hx:ev L x=some v)(hr:Rd w z g o sz v (l.map c))(h1:J9 L ol 0 lo)(h2:J9 L oh (l.length:Int) hi)(hl:uG l lo hi=some m):
 ∃ v' o',(∀ w1,VV P L ⟨dst,.slice t x ol oh none,ty,pos,af,gu⟩ w1 v')∧Rd w z g o' sz v' (m.map c):=by
 obtain⟨rfl,h3,h4,h5⟩:=Xg3 hl;rcases hr.2 with⟨hz,hnil,a,cap,rfl⟩|⟨hz,cap,rfl,⟨hg,hcap⟩,hcell⟩
 · have hl0:l=[]:=by simpa using hnil
   subst hl0;simp only[Sg] at h2 h5;have e1:lo=0:=by omega
   have e2:hi=0:=by omega
   subst e1 e2;refine⟨_,0,fun w1 ρ hρ=>nM (by rw[hρ _ _ hx];exact Qpd hρ hu hs h1 h2 aQ aQ aQ (Yw _)),by simpa using hr.1,.inl ⟨hz,by simp,?_⟩⟩;exact⟨_,_,rfl⟩
 · rw[fJ] at hcap hx;have hlen:((l.map c).take hi.toNat).length=hi.toNat:=by rw[qR,fJ];omega
   have hm:(((l.take hi.toNat).drop lo.toNat).map c)=((l.map c).take hi.toNat).drop lo.toNat:=by rw[List.map_drop,List.map_take]
   have hml:(((l.take hi.toNat).drop lo.toNat).map c).length=hi.toNat-lo.toNat:=by rw[hm,Yl,hlen]
   refine⟨_,if cap=lo.toNat then o else o+lo.toNat*sz,fun w1 ρ hρ=>nM (by rw[hρ _ _ hx];exact Qpd hρ hu hs h1 h2 h3 h4 h5 hcap),by rw[hm];exact hr.1.take.drop,.inr ⟨hz,cap-lo.toNat,?_,⟨hg,by rw[hml];omega⟩,fun j u hj=>?_⟩⟩
   · simp only[sliced,hml];by_cases e:cap=lo.toNat
     · rw[aG e,aG e]
     · rw[aH e,aH e];simp[Addr.add_lit]
   · rw[hm,Qll _ _ hr.1.take,Qlm _ _ hr.1,V9] at hj
     have hj2:(l.map c).flatten[lo.toNat*sz+j]? = some u:=by
      rw[wL] at hj
      split at hj
      · exact hj
      · cases hj
     by_cases e:cap=lo.toNat
     · exfalso;have e2:hi.toNat=lo.toNat:=by omega
       rw[wL,e2] at hj
       split at hj
       · omega
       · cases hj
     · rw[aH e,rS];exact hcell _ _ hj2
end
end Go.Sx
namespace Go.Sx
open Go
section
variable {P:Program} {n:Nat} {ops:Array Oper} {Q:Slots→World→Prop} {rest:List (Nat × Nat)} {i:Nat} {dst:Option Nat} {op:Op} {ty:TypeId} {pos:String} {af:Array Edge} {gu:Option (Nat × Bool)} {L:Slots} {w w₀:World} {ms:List Nat} {kp:Nat→Nat→Bool} {B:Value→Nat→Prop}
end
end Go.Sx

end
section
namespace Go.Sx
open Go Go.RowKit
def gU (x:BitVec 64)(i:Nat):BitVec 8:=(x >>> (56-8*i)).setWidth 8
def pZ (p:W2):List (BitVec 8):=[gU p.1 0,gU p.1 1,gU p.1 2,gU p.1 3,gU p.1 4,gU p.1 5,gU p.1 6,gU p.1 7,gU p.2 0,gU p.2 1,gU p.2 2,gU p.2 3,gU p.2 4,gU p.2 5,gU p.2 6,gU p.2 7]
theorem Qmc (p:W2):(pZ p).length=16:=rfl
theorem Xht (x:BitVec 64)(i:Nat):aO (gU x i)=bt x i:=by
 unfold aO gU bt un;rw[kT];omega
theorem Qmb (p:W2):kb p=((pZ p).map lD).flatten:=by
 simp only[kb,pZ,qC,List.map_nil,pL,List.flatten_nil,uE,tK,bv,Xht]
def uF (b0 b1 b2 b3 b4 b5 b6 b7:BitVec 8):BitVec 64:=b0++b1++b2++b3++b4++b5++b6++b7
theorem Qio (b0 b1 b2 b3 b4 b5 b6 b7:BitVec 8):gU (uF b0 b1 b2 b3 b4 b5 b6 b7) 0=b0∧gU (uF b0 b1 b2 b3 b4 b5 b6 b7) 1=b1∧gU (uF b0 b1 b2 b3 b4 b5 b6 b7) 2=b2∧gU (uF b0 b1 b2 b3 b4 b5 b6 b7) 3=b3∧gU (uF b0 b1 b2 b3 b4 b5 b6 b7) 4=b4∧gU (uF b0 b1 b2 b3 b4 b5 b6 b7) 5=b5∧gU (uF b0 b1 b2 b3 b4 b5 b6 b7) 6=b6∧gU (uF b0 b1 b2 b3 b4 b5 b6 b7) 7=b7:=by
 have key:∀ (x y:BitVec 8),(∀ i,i<8→x.getLsbD i=y.getLsbD i)→x=y:=fun x y h=>V3 (fun i hi=>h i hi);refine⟨?_,?_,?_,?_,?_,?_,?_,?_⟩ <;>
 · apply key;intro i hi;simp only[gU,uF,Qa8,E0,BitVec.getLsbD_append,hi,decide_true,jH]
   repeat' split
   all_goals first|omega|(congr 1;omega)
def ofB:List (BitVec 8)→W2
 | b0::b1::b2::b3::b4::b5::b6::b7::c0::c1::c2::c3::c4::c5::c6::c7::_=>(uF b0 b1 b2 b3 b4 b5 b6 b7,uF c0 c1 c2 c3 c4 c5 c6 c7)
 | _=>k0
theorem Xaa {l:List (BitVec 8)}(h:16≤l.length):pZ (ofB l)=l.take 16:=by
 match l,h with
 | b0::b1::b2::b3::b4::b5::b6::b7::c0::c1::c2::c3::c4::c5::c6::c7::r,_=>
  obtain⟨h0,h1,h2,h3,h4,h5,h6,h7⟩:=Qio b0 b1 b2 b3 b4 b5 b6 b7;obtain⟨g0,g1,g2,g3,g4,g5,g6,g7⟩:=Qio c0 c1 c2 c3 c4 c5 c6 c7;simp only[ofB,pZ,h0,h1,h2,h3,h4,h5,h6,h7,g0,g1,g2,g3,g4,g5,g6,g7];rfl
section
variable {P:Program} {L:Slots} {w:World} {dst:Option Nat} {ty:TypeId} {pos:String} {af:Array Edge} {gu:Option (Nat × Bool)} {x y:Operand} {t e:TypeId} {z g o sz:Nat} {v:Value}
theorem Qr0 {b' off:Nat}{k:IntKind}{i:Int}{p:W2}{c:BitVec 8}(hu:P.underlying t=some (.array 16 e))(hs:iY P e 1)(hx:ev L x=some (.pointer (some ⟨b',off,none⟩)))(hy:ev L y=some (.int k i))(hg:bJ (pZ p) i=some c):VV P L ⟨dst,.indexAddr t x y,ty,pos,af,gu⟩ w (.pointer (some ⟨b',off+i.toNat*1,none⟩)):=
 yV hu hs hx hy (pQ hg) (by have:=xY hg;rw[Qmc] at this;omega)
theorem Qr2 {b off q:Nat}{tb:TypeId}{cs:List Value}{p:W2}{i:Int}{c:BitVec 8}(h1:gV P t)(hx:ev L x=some (.pointer (some ⟨b,q,none⟩)))(hb:Bx w b tb cs)(h:(cs.drop off).take 16=kb p)(hg:bJ (pZ p) i=some c)(hq:q=off+i.toNat):VV P L ⟨dst,.load t x,ty,pos,af,gu⟩ w (bv c):=by
 refine aS h1 hx hb ?_;have hi:=rO hg;have dX:i.toNat<16:=by have:=xY hg;have:=pQ hg;rw[Qmc] at *;omega
 have e1:(kb p)[i.toNat]? = some (bv c):=by
  have hw:Ws 1 ((pZ p).map lD):=Ld _ (fun _=>rfl) (fun _=>rfl);have:=hw.at (i.toNat) 0 (lD c) (sQ hi) aQ;rw[Qmb];simpa using this
 rw[←h,wL,aG dX,V9] at e1;rw[hq];exact e1
end
section
variable {P:Program} {L:Slots} {w:World} {dst:Option Nat} {ty:TypeId} {pos:String} {af:Array Edge} {gu:Option (Nat × Bool)} {x y:Operand} {t e:TypeId} {z g:Nat} {v:Value}
end
end Go.Sx

end
section
namespace Go.Sx
open Go Go.RowKit
def fU {α σ R:Type}(F:α→(σ→Option R)→σ→Option R)(d:σ→Option R)(l:List α):σ→Option R:=l.foldr F d
theorem Xa6 {α σ R:Type}(F:α→(σ→Option R)→σ→Option R)(d:σ→Option R):fU F d []=d:=rfl
theorem sJ {α σ R:Type}(F:α→(σ→Option R)→σ→Option R)(d:σ→Option R)(a:α)(l:List α):fU F d (a::l)=F a (fU F d l):=rfl
theorem N3 {α σ R:Type}{F:α→(σ→Option R)→σ→Option R}{d:σ→Option R}{l:List α}{k:Nat}{s:σ}{r:R}{a:α}(h:fU F d (l.drop k) s=some r)(ha:l[k]? = some a):F a (fU F d (l.drop (k+1))) s=some r:=by
 obtain⟨hk,rfl⟩:=jP.1 ha;rw[nZ hk,sJ] at h;exact h
theorem N4 {α β σ R:Type}{F:α→(σ→Option R)→σ→Option R}{d:σ→Option R}{l:List α}{c:α→β}{s:σ}{r:R}(h:fU F d (l.drop (l.map c).length) s=some r):d s=some r:=by
 rw[fJ,tX] at h;exact h
theorem aY.z1 {w:World}{z g sz:Nat}{e:TypeId}{v:Value}{α:Type}{l:List α}{c:α→List Value}{i:Int}{a:α}(h:aY w z g e sz v (l.map c))(hg:bJ l i=some a):z=1:=by
 rcases h.2 with⟨_,_,h0⟩|⟨h1,_⟩
 · have:l=[]:=by simpa using h0
   subst this;have:=xY hg;have:=pQ hg;simp at *;omega
 · exact h1
theorem qX {l:List (Nat × Nat)}{ms:List Nat}{w w':World}(h:Kp ms w w')(hn:∀ k,cY l k→k∉ms):Kz l w w':=⟨h.os,h.tape,h.output,h.size,fun k hk hl=>h.block k hk (hn k hl)⟩
theorem xP {l:List (Nat × Nat)}{ms:List Nat}{w w':World}(h:Kz l w w')(hn:∀ k,k∉ms→cY l k):Kp ms w w':=⟨h.os,h.tape,h.output,h.size,fun k hk hl=>h.block k hk (hn k hl)⟩
theorem aY.hs {w w':World}{z g sz:Nat}{e:TypeId}{v:Value}{xs:List (List Value)}{ms:List Nat}(h:aY w z g e sz v xs)(hs:∀ b∈ms,w'.heap[b]? = w.heap[b]?)(hm:z≠0→g∈ms):aY w' z g e sz v xs:=
 h.keep (by by_cases hz:z=0;exact .inl hz;exact .inr fun _=>hs g (hm hz))
theorem Rd.hs {w w':World}{z g o sz:Nat}{v:Value}{xs:List (List Value)}{ms:List Nat}(h:Rd w z g o sz v xs)(he:J6 w w')(hs:∀ b∈ms,w'.heap[b]? = w.heap[b]?)(hm:z≠0→g∈ms):Rd w' z g o sz v xs:=
 h.keep (by by_cases hz:z=0;exact .inl hz;exact .inr fun _=>hs g (hm hz)) he.size
theorem wJ {α:Type}(p:α→Nat→Prop)(FP:α→List Nat)(F:α→World→Prop)(h1:∀ a W,F a W→∀ b∈FP a,b<W.heap.size)
 (h2:∀ a W W',F a W→J6 W W'→(∀ b∈FP a,W'.heap[b]? = W.heap[b]?)→F a W'):nE fun k fp W=>∃ a,p a k∧fp=FP a∧F a W:=
 ⟨fun⟨a,_,h,hF⟩ b hb=>h1 a _ hF b (h ▸ hb),fun⟨a,hp,h,hF⟩ he hs=>⟨a,hp,h,h2 a _ _ hF he (h ▸ hs)⟩⟩
theorem Qgp {J:Nat→List Nat→World→Prop}(p:Prop)(h:nE J):nE fun i fp W=>p∧J i fp W:=⟨fun h0 b hb=>h.lt h0.2 b hb,fun h0 he hs=>⟨h0.1,h.keep h0.2 he hs⟩⟩
def yl {α:Type}(x:α)(m:Option (List α)):Option (List α):=m.map (x :: ·)
theorem Vm {α:Type}{x:α}{m:Option (List α)}{r:List α}(h:yl x m=some r):∃ t,m=some t∧r=x::t:=by
 cases m with
 | none=>cases h
 | some t=>exact⟨t,rfl,(jB h).symm⟩
def Dr {α:Type}(xs:List α)(k:Nat)(rr:List α):Prop:=k≤xs.length∧xs.drop k=rr
theorem Bh {α:Type}(xs:List α):Dr xs 0 xs:=⟨Yw _,rfl⟩
theorem Dr.at {α:Type}{xs rr t:List α}{k:Nat}{x:α}(h:Dr xs k rr)(e:rr=x::t):xs[k]? = some x:=by
 have h1:=h.2;rw[e] at h1;have:(xs.drop k)[0]? = some x:=by rw[h1];rfl
 rwa[V9,tV] at this
theorem Dr.next {α:Type}{xs rr t:List α}{k:Nat}{x:α}(h:Dr xs k rr)(e:rr=x::t):Dr xs (k+1) t:=by
 have h0:=h.at e;have hk:=(jP.1 h0).1;refine⟨hk,?_⟩;have h1:=h.2;rw[e,nZ hk] at h1;exact(Yh h1).2
theorem Dr.last {α β:Type}{xs rr:List α}{k:Nat}{c:α→β}(h:Dr xs k rr)(e:rr=[]):k=(xs.map c).length:=by
 have h1:=h.2;rw[e,List.drop_eq_nil_iff] at h1;have:=h.1;rw[fJ];omega
theorem Qne {f f':List Nat}{s z b:Nat}(hF:∀ c∈f',c∈f∨s≤c)(h:z=0∨b∉f)(dX:z=0∨b<s):z=0∨b∉f':=by
 rcases h with h|h
 · exact .inl h
 · rcases dX with h1|h1
   · exact .inl h1
   · exact .inr (gF hF h h1)
theorem nE.ka {J:Nat→List Nat→World→Prop}(hJ:nE J){k z g:Nat}{f:List Nat}{W W':World}(h:J k f W)(a:Ka z g W W')(hb:z=0∨g∉f):J k f W':=hJ.keep h a.env fun c hc=>a.block c (hJ.lt h c hc) (by
 rcases hb with h0|h0
 · exact .inl h0
 · exact .inr (by rintro rfl;exact h0 hc))
end Go.Sx

end
section
namespace Go.Sx
open Go Go.RowKit
inductive Tz
 | leaf (seg:List (Nat × Nat))
 | fork (seg:List (Nat × Nat)) (a b:Tz)
def Tz.heads:Tz→List Nat
 | .leaf []=>[]
 | .leaf ((i,_)::_)=>[i]
 | .fork [] a b=>a.heads++b.heads
 | .fork ((i,_)::_) _ _=>[i]
def Tz.len:Tz→Nat
 | .leaf s=>s.length
 | .fork s a _=>s.length+a.len
def xN (l:List (Nat × Nat))(listed:Array Bool):Array Bool:=l.foldl (fun s x=>s.setIfInBounds x.1 true) listed
def L9 (ops:Array Oper)(kp:Nat→Nat→Bool):List (Nat × Nat)→Array Bool→Bool
 | [],_=>true
 | (i,c)::rest,listed=>(match rK c with
  | some lv=>(Region.ready .any ops listed).contains i&&Region.free .any ops listed i&&Mh ops (kp lv) listed i
  | none=>(Region.ready .any ops listed == [i]))&&L9 ops kp rest (listed.setIfInBounds i true)
def lA (ops:Array Oper)(kp:Nat→Nat→Bool):Tz→Array Bool→Bool
 | .leaf [],_=>false
 | .leaf ((i,c)::s),listed=>(rK c).isNone&&L9 ops kp s (listed.setIfInBounds i true)&&(Region.ready .any ops (xN s (listed.setIfInBounds i true))).isEmpty
 | .fork [] a b,listed=>lA ops kp a listed&&lA ops kp b listed&&(a.len == b.len)
 | .fork ((i,c)::s) a b,listed=>(rK c).isNone&&L9 ops kp s (listed.setIfInBounds i true)&&(Region.ready .any ops (xN s (listed.setIfInBounds i true)) == a.heads++b.heads)
  && lA ops kp a (xN s (listed.setIfInBounds i true))&&lA ops kp b (xN s (listed.setIfInBounds i true))&&(a.len == b.len)
def Te (ops:Array Oper)(kp:Nat→Nat→Bool):Tz→Array Bool→Bool
 | .leaf s,listed=>L9 ops kp s listed&&(Region.ready .any ops (xN s listed)).isEmpty
 | .fork s a b,listed=>L9 ops kp s listed&&(Region.ready .any ops (xN s listed) == a.heads++b.heads)&&lA ops kp a (xN s listed)&&lA ops kp b (xN s listed)&&(a.len == b.len)
def jI (P:Program)(n:Nat)(ops:Array Oper)(Q:Slots→World→Prop)(S:Nat→World→Prop)(kp:Nat→Nat→Bool):Tz→Slots→World→Prop
 | .leaf s,L,w=>SD P n ops Q S kp s L w
 | .fork s a b,L,w=>SD P n ops (fun L w=>jI P n ops Q S kp a L w∧jI P n ops Q S kp b L w) S kp s L w
section
variable {P:Program} {r:Option Nat} {n:Nat} {ops:Array Oper} {Q:Slots→World→Prop} {S:Nat→World→Prop} {kp:Nat→Nat→Bool} {D:List Deferred} {QA:Exit→Act→World→Prop}
theorem SD.seg (hnd:jK ops=true)(hQ:∀ c a w,¬ QA (.panic c) a w)(hO:¬ LetsOut QA){fuel:Nat}:
 ∀ (l:List (Nat × Nat)) (listed:Array Bool) (L:Slots) (a:Act) (w:World),L9 ops kp l listed=true→fE n D L a→SD P n ops Q S kp l L w→
  (∀ L a w,fE n D L a→Q L w→Go.Sx.anyH P r ops QA S kp fuel (xN l listed) a w)→Go.Sx.anyH P r ops QA S kp (l.length+fuel) listed a w
 | [],listed,L,a,w,ho,hf,h,hk=>by rw[Sg,kN];exact hk L a w hf h
 | (i,c)::rest,listed,L,a,w,ho,hf,h,hk=>by
  have hlen:((i,c)::rest).length+fuel=rest.length+fuel+1:=by simp;omega
  rw[hlen];unfold SD at h;unfold L9 at ho
  cases hc:rK c with
  | some lv=>
   rw[hc] at h ho;obtain⟨o,v,hi,hd,hS,hv,hrest⟩:=h;simp only[fM] at ho
   refine Go.Sx.Qhr hnd hi hQ hO (rest.length+fuel) listed a w (fun j oj h1 h2 h3 h4=>⟨Region.free_spec hi ho.1.1.2 j oj h1 h2 h3 h4,Qme ho.1.2 j oj h1 h2 h3 h4⟩) (by simpa using ho.1.1.1) ?_ hS
    (SD.seg hnd hQ hO rest _ _ _ w ho.2 (hf.put hd) hrest hk)
   rcases hv with⟨hg,hv⟩|⟨hg,rfl⟩
   · exact .inl ⟨rI hf hg,fun w' hw'=>hv w' hw' _ hf.cons⟩
   · exact .inr ⟨rI hf hg,rfl⟩
  | none=>
   rw[hc] at h ho;obtain⟨o,hi,hd,h⟩:=h;simp only[fM,wF] at ho;refine⟨fun h0=>(by rw[ho.1] at h0;cases h0),fun j hj=>?_⟩;rw[ho.1] at hj;simp only[mY] at hj;subst hj;unfold wpOpIn;simp only[hi];rcases h with⟨hg,R,hev,hk2⟩|⟨hg,hrest⟩
   · rw[rI hf hg,aG rfl];exact(hev _ hf.cons).uponIn (jK.nd hnd hi) fun v w' hR=>⟨(hk2 v w' hR).1,SD.seg hnd hQ hO rest _ _ _ w' ho.2 (hf.put hd) (hk2 v w' hR).2 hk⟩
   · rw[rI hf hg];simp only[nI,mB];exact⟨fun _ _=>trivial,fun _ _ h=>h,SD.seg hnd hQ hO rest _ _ _ w ho.2 (hf.put hd) hrest hk⟩
theorem SD.stepAny (hnd:jK ops=true){i c:Nat}{s:List (Nat × Nat)}{listed:Array Bool}{L:Slots}{a:Act}{w:World}{fuel:Nat}(hc:(rK c).isNone=true)(hf:fE n D L a)(h:SD P n ops Q S kp ((i,c)::s) L w)
 (hk:∀ L a w,fE n D L a→SD P n ops Q S kp s L w→Go.Sx.anyH P r ops QA S kp fuel (listed.setIfInBounds i true) a w):
 wpOpIn (Fw r) 0 P ops QA i (fun a' w'=>(∀ v,kp v i=true→S v w→S v w')∧Go.Sx.anyH P r ops QA S kp fuel (listed.setIfInBounds i true) a' w') a w:=by
 unfold SD at h;rw[Option.isNone_iff_eq_none.1 hc] at h;obtain⟨o,hi,hd,h⟩:=h;unfold wpOpIn;simp only[hi];rcases h with⟨hg,R,hev,hk2⟩|⟨hg,hrest⟩
 · rw[rI hf hg,aG rfl];exact(hev _ hf.cons).uponIn (jK.nd hnd hi) fun v w' hR=>⟨(hk2 v w' hR).1,hk _ _ _ (hf.put hd) (hk2 v w' hR).2⟩
 · rw[rI hf hg];simp only[nI,mB];exact⟨fun _ _=>trivial,fun _ _ h=>h,hk _ _ _ (hf.put hd) hrest⟩
theorem Qej:∀ (t:Tz) (listed:Array Bool),lA ops kp t listed=true→∃ m,t.len=m+1
 | .leaf [],_,h=>by simp[lA] at h
 | .leaf ((i,c)::s),_,_=>⟨s.length,by simp[Tz.len]⟩
 | .fork [] a b,listed,h=>by
  simp only[lA,fM] at h;obtain⟨m,hm⟩:=Qej a listed h.1.1;exact⟨m,by simp[Tz.len,hm]⟩
 | .fork ((i,c)::s) a b,_,_=>⟨s.length+a.len,by simp[Tz.len];omega⟩
theorem jI.kid (hnd:jK ops=true)(hQ:∀ c a w,¬ QA (.panic c) a w)(hO:¬ LetsOut QA)(hq:∀ L a w,fE n D L a→Q L w→QA .normal a w):
 ∀ (t:Tz) (listed:Array Bool) (L:Slots) (a:Act) (w:World) (m:Nat),lA ops kp t listed=true→t.len=m+1→fE n D L a→jI P n ops Q S kp t L w→∀ i∈t.heads,
  wpOpIn (Fw r) 0 P ops QA i (fun a' w'=>(∀ v,kp v i=true→S v w→S v w')∧Go.Sx.anyH P r ops QA S kp m (listed.setIfInBounds i true) a' w') a w
 | .leaf [],_,_,_,_,_,ho,_,_,_,_,_=>by simp[lA] at ho
 | .leaf ((i,c)::s),listed,L,a,w,m,ho,hl,hf,h,j,hj=>by
  simp only[Tz.heads,mY] at hj;subst hj;simp only[lA,fM] at ho;have hm:m=s.length+0:=by simp[Tz.len] at hl;omega
  subst hm;refine SD.stepAny hnd ho.1.1 hf h fun L a w hf h=>SD.seg hnd hQ hO s _ L a w ho.1.2 hf h fun L a w hf h=>⟨by simpa using ho.2,hq L a w hf h⟩
 | .fork [] x y,listed,L,a,w,m,ho,hl,hf,h,j,hj=>by
  simp only[lA,fM,wF] at ho;simp only[Tz.len,Sg,kN] at hl;simp only[Tz.heads,nO] at hj;have h':jI P n ops Q S kp x L w∧jI P n ops Q S kp y L w:=h;rcases hj with hj|hj
  · exact jI.kid hnd hQ hO hq x listed L a w m ho.1.1 hl hf h'.1 j hj
  · exact jI.kid hnd hQ hO hq y listed L a w m ho.1.2 (by rw[←ho.2];exact hl) hf h'.2 j hj
 | .fork ((i,c)::s) x y,listed,L,a,w,m,ho,hl,hf,h,j,hj=>by
  simp only[Tz.heads,mY] at hj;subst hj;simp only[lA,fM,wF] at ho;have hm:m=s.length+x.len:=by simp[Tz.len] at hl;omega
  subst hm;refine SD.stepAny hnd ho.1.1.1.1.1 hf h fun L a w hf h=>SD.seg hnd hQ hO s _ L a w ho.1.1.1.1.2 hf h fun L a w hf h=>?_;obtain⟨mx,hx⟩:=Qej x _ ho.1.1.2;have hy:y.len=mx+1:=by rw[←ho.2];exact hx
  rw[hx];refine⟨fun h0=>?_,fun k hk=>?_⟩
  · obtain⟨z,hz⟩:∃ z,z∈x.heads:=by
     have:∀ (t:Tz) (l:Array Bool),lA ops kp t l=true→∃ z,z∈t.heads:=by
      intro t
      induction t with
      | leaf s=>intro l h;cases s with
       | nil=>simp[lA] at h
       | cons a s=>exact⟨a.1,by simp[Tz.heads]⟩
      | fork s a b iha ihb=>intro l h;cases s with
       | nil=>
        simp only[lA,fM] at h;obtain⟨z,hz⟩:=iha l h.1.1;exact⟨z,by simp[Tz.heads,hz]⟩
       | cons a s=>exact⟨a.1,by simp[Tz.heads]⟩
     exact this x _ ho.1.1.2
    rw[ho.1.1.1.2] at h0;have:z∈x.heads++y.heads:=yR _ hz;rw[h0] at this;cases this
  · rw[ho.1.1.1.2] at hk;rcases nO.1 hk with hk|hk
    · exact jI.kid hnd hQ hO hq x _ L a w mx ho.1.1.2 hx hf h.1 k hk
    · exact jI.kid hnd hQ hO hq y _ L a w mx ho.1.2 hy hf h.2 k hk
theorem Qzv:∀ (t:Tz) (l:Array Bool),lA ops kp t l=true→∃ z,z∈t.heads:=by
 intro t
 induction t with
 | leaf s=>intro l h;cases s with
  | nil=>simp[lA] at h
  | cons a s=>exact⟨a.1,by simp[Tz.heads]⟩
 | fork s a b iha ihb=>intro l h;cases s with
  | nil=>
   simp only[lA,fM] at h;obtain⟨z,hz⟩:=iha l h.1.1;exact⟨z,by simp[Tz.heads,hz]⟩
  | cons a s=>exact⟨a.1,by simp[Tz.heads]⟩
theorem jI.anyH (hnd:jK ops=true)(hQ:∀ c a w,¬ QA (.panic c) a w)(hO:¬ LetsOut QA)(hq:∀ L a w,fE n D L a→Q L w→QA .normal a w)(t:Tz)(listed:Array Bool)(L:Slots)(a:Act)(w:World)(ho:Te ops kp t listed=true)(hf:fE n D L a)(h:jI P n ops Q S kp t L w):
 Go.Sx.anyH P r ops QA S kp t.len listed a w:=by
 cases t with
 | leaf s=>
  simp only[Te,fM] at ho;exact SD.seg (fuel:=0) hnd hQ hO s listed L a w ho.1 hf h fun L a w hf h=>⟨by simpa using ho.2,hq L a w hf h⟩
 | fork s x y=>
  simp only[Te,fM,wF] at ho;obtain⟨mx,hx⟩:=Qej x _ ho.1.1.2;have hy:y.len=mx+1:=by rw[←ho.2];exact hx
  refine SD.seg (fuel:=x.len) hnd hQ hO s listed L a w ho.1.1.1.1 hf h fun L a w hf h=>?_;rw[hx];refine⟨fun h0=>?_,fun k hk=>?_⟩
  · obtain⟨z,hz⟩:=Qzv (ops:=ops) (kp:=kp) x _ ho.1.1.2;rw[ho.1.1.1.2] at h0;have:z∈x.heads++y.heads:=yR _ hz;rw[h0] at this;cases this
  · rw[ho.1.1.1.2] at hk;rcases nO.1 hk with hk|hk
    · exact jI.kid hnd hQ hO hq x _ L a w mx ho.1.1.2 hx hf h.1 k hk
    · exact jI.kid hnd hQ hO hq y _ L a w mx ho.1.2 hy hf h.2 k hk
end
theorem uD {P:Program}{n:Nat}{ops:Array Oper}{Q:Slots→World→Prop}{S:Nat→World→Prop}{kp:Nat→Nat→Bool}{a b:Tz}{L:Slots}{w:World}(h1:jI P n ops Q S kp a L w)(h2:jI P n ops Q S kp b L w):SD P n ops (fun L w=>jI P n ops Q S kp a L w∧jI P n ops Q S kp b L w) S kp [] L w:=⟨h1,h2⟩
theorem dZ {P:Program}{n:Nat}{ops:Array Oper}{Q:Slots→World→Prop}{S:Nat→World→Prop}{kp:Nat→Nat→Bool}{s:List (Nat × Nat)}{L:Slots}{w:World}(h:SD P n ops Q S kp s L w):jI P n ops Q S kp (.leaf s) L w:=h
theorem uT {P:Program}{n:Nat}{ops:Array Oper}{Q:Slots→World→Prop}{S:Nat→World→Prop}{kp:Nat→Nat→Bool}{s:List (Nat × Nat)}{a b:Tz}{L:Slots}{w:World}(h:SD P n ops (fun L w=>jI P n ops Q S kp a L w∧jI P n ops Q S kp b L w) S kp s L w):jI P n ops Q S kp (.fork s a b) L w:=h
end Go.Sx

end
section
namespace Go.Sx
open Go Go.RowKit
def eI (mss:List (List Nat))(w₀:World)(k:Nat)(w:World):Prop:=∀ ms,mss[k]? = some ms→Kp ms w₀ w
def Ml (tab:List (Nat × List Nat))(lv j:Nat):Bool:=tab.all fun x => !(Nat.beq x.1 j&&x.2.any (Nat.beq lv))
def U6 (p:Nat→List Nat→Prop):Nat→List (List Nat)→Prop
 | _,[]=>True
 | k,ms::r=>p k ms∧U6 p (k+1) r
theorem U6.get {p:Nat→List Nat→Prop}:∀ {l:List (List Nat)} {o:Nat},U6 p o l→∀ k ms,l[k]? = some ms→p (o+k) ms
 | [],o,_,k,ms,h=>by simp at h
 | a::r,o,h,0,ms,hk=>by simp at hk;subst hk;exact h.1
 | a::r,o,h,k+1,ms,hk=>by
  have:=U6.get h.2 k ms (by simpa using hk);rw[show o+(k+1)=o+1+k from by omega];exact this
theorem Kz.ofGr {w w':World}(h:Gr w w'):Kz [] w w':=(Kz.refl [] w).gr h
theorem Kz.ofMd {w w':World}{b:Nat}(h:Md b w w'):Kz [(1,b)] w w':=(Kz.refl _ w).md h (by simp[dU,Mz])
theorem Kz.ofKa {w w':World}{z g:Nat}(h:Ka z g w w'):Kz [(z,g)] w w':=(Kz.refl _ w).ka h (by by_cases hz:z=0<;>simp[dU,Mz,hz])
theorem Qn5 (k:Nat):rK (k+10)=some k:=by
 have h1:Nat.beq (k+10) 1=false:=I8 aQ;have h2:Nat.beq (k+10) 3=false:=I8 aQ;have h3:Nat.ble 10 (k+10)=true:=Sn aQ;unfold rK;rw[h1,h2,h3];simp
section
variable {P:Program} {n:Nat} {ops:Array Oper} {Q:Slots→World→Prop} {rest:List (Nat × Nat)} {i:Nat} {dst:Option Nat} {op:Op} {ty:TypeId} {pos:String} {af:Array Edge} {gu:Option (Nat × Bool)} {L:Slots} {w w₀:World} {mss:List (List Nat)} {kp:Nat→Nat→Bool} {ms:List Nat}
theorem Bd {v:Value}(k:Nat)(hi:ops[i]? = some ⟨dst,op,ty,pos,af,gu⟩)(hg:gd ops L ⟨dst,op,ty,pos,af,gu⟩=some true)(hd:jL n dst=true)(hm:mss[k]? = some ms)(hS:Kp ms w₀ w)(hv:∀ w,Kp ms w₀ w→VV P L ⟨dst,op,ty,pos,af,gu⟩ w v)
 (h:SD P n ops Q (eI mss w₀) kp rest (dO dst v L) w):SD P n ops Q (eI mss w₀) kp ((i,k+10)::rest) L w:=by
 have hl:=Qn5 k;unfold SD;rw[hl];exact⟨_,v,hi,hd,fun ms' h'=>by rw[hm] at h';cases h';exact hS,.inl ⟨hg,fun w hw=>hv w (hw ms hm)⟩,h⟩
theorem Quu (k:Nat)(hi:ops[i]? = some ⟨dst,op,ty,pos,af,gu⟩)(hg:gd ops L ⟨dst,op,ty,pos,af,gu⟩=some false)(hd:jL n dst=true)(hm:mss[k]? = some ms)(hS:Kp ms w₀ w)
 (h:SD P n ops Q (eI mss w₀) kp rest (dO dst undef L) w):SD P n ops Q (eI mss w₀) kp ((i,k+10)::rest) L w:=by
 have hl:=Qn5 k;unfold SD;rw[hl];exact⟨_,undef,hi,hd,fun ms' h'=>by rw[hm] at h';cases h';exact hS,.inr ⟨hg,rfl⟩,h⟩
theorem Qut {t:Bool}(k:Nat)(hi:ops[i]? = some ⟨dst,op,ty,pos,af,gu⟩)(hg:gd ops L ⟨dst,op,ty,pos,af,gu⟩=some true)(hd:jL n dst=true)(hm:mss[k]? = some ms)(hS:Kp ms w₀ w)(hv:∀ w,Kp ms w₀ w→VV P L ⟨dst,op,ty,pos,af,gu⟩ w (.bool t))
 (ht:t=true→SD P n ops Q (eI mss w₀) kp rest (dO dst (.bool true) L) w) (hf:t=false→SD P n ops Q (eI mss w₀) kp rest (dO dst (.bool false) L) w):SD P n ops Q (eI mss w₀) kp ((i,k+10)::rest) L w:=by
 cases t with
 | true=>exact Bd k hi hg hd hm hS hv (ht rfl)
 | false=>exact Bd k hi hg hd hm hS hv (hf rfl)
theorem Quy {R:Value→World→Prop}(l:List (Nat × Nat))(hi:ops[i]? = some ⟨dst,op,ty,pos,af,gu⟩)(hg:gd ops L ⟨dst,op,ty,pos,af,gu⟩=some true)(hd:jL n dst=true)(hv:EV P L ⟨dst,op,ty,pos,af,gu⟩ w R)
 (hb:U6 (fun k ms=>kp k i=true→dB l (ms.map fun b=>(1,b)) w₀.heap.size) 0 mss)
 (h:∀ v w',R v w'→Kz l w w'∧SD P n ops Q (eI mss w₀) kp rest (dO dst v L) w'):SD P n ops Q (eI mss w₀) kp ((i,0)::rest) L w:=
 ⟨_,hi,hd,.inl ⟨hg,R,hv,fun v w' hR=>⟨fun lv hk hS ms hm=>Kp.kz (hS ms hm) (h v w' hR).1 (by have:=hb.get lv ms hm;rw[kN] at this;exact this hk),(h v w' hR).2⟩⟩⟩
theorem Quw {v:Value}(hi:ops[i]? = some ⟨dst,op,ty,pos,af,gu⟩)(hg:gd ops L ⟨dst,op,ty,pos,af,gu⟩=some true)(hd:jL n dst=true)(hv:VV P L ⟨dst,op,ty,pos,af,gu⟩ w v)
 (h:SD P n ops Q (eI mss w₀) kp rest (dO dst v L) w):SD P n ops Q (eI mss w₀) kp ((i,0)::rest) L w:=
 ⟨_,hi,hd,.inl ⟨hg,_,hv.ev,fun v' w' ⟨h1,h2⟩=>by subst h1;subst h2;exact⟨fun _ _ h=>h,h⟩⟩⟩
theorem Quv (hi:ops[i]? = some ⟨dst,op,ty,pos,af,gu⟩)(hg:gd ops L ⟨dst,op,ty,pos,af,gu⟩=some false)(hd:jL n dst=true)
 (h:SD P n ops Q (eI mss w₀) kp rest (dO dst undef L) w):SD P n ops Q (eI mss w₀) kp ((i,0)::rest) L w:=⟨_,hi,hd,.inr ⟨hg,h⟩⟩
end
theorem aN {q:Prop}(f:q:=by(try simp only[cY,dB,dU,eQ,Mz,bO])<;>omega):q:=f
theorem aW {p q:Prop}(h:p)(f:p→q:=by intro;(try simp only[cY,dB,dU,eQ,Mz,bO])<;>omega):q:=f h
theorem gD {p1 p2 q:Prop}(h1:p1)(h2:p2)(f:p1→p2→q:=by intro _ _;(try simp only[cY,dB,dU,eQ,Mz,bO])<;>omega):q:=f h1 h2
theorem uL {p1 p2 p3 q:Prop}(h1:p1)(h2:p2)(h3:p3)(f:p1→p2→p3→q:=by intro _ _ _;(try simp only[cY,dB,dU,eQ,Mz,bO])<;>omega):q:=f h1 h2 h3
theorem tk4 {p1 p2 p3 p4 q:Prop}(h1:p1)(h2:p2)(h3:p3)(h4:p4)(f:p1→p2→p3→p4→q:=by intro _ _ _ _;(try simp only[cY,dB,dU,eQ,Mz,bO])<;>omega):q:=f h1 h2 h3 h4
section
variable {A:Nat→Prop} {z g z' g' s z1 g1 z2 g2 z3 g3:Nat}
theorem lK (r:bQ ((g'=g∧z=1)∨s≤g'∨z'=0))(h:z=0∨A g)(f:∀ x,s≤x→A x:=by intro x hx;(try simp only[cY,dB,dU,eQ,Mz,bO])<;>omega):z'=0∨A g':=by
 rcases r.o with⟨h1,h2⟩|h1|h1
 · rcases h with h|h
   · omega
   · exact .inr (h1 ▸ h)
 · exact .inr (f _ h1)
 · exact .inl h1
theorem bI (r:bQ (z=0∨s≤g))(f:∀ x,s≤x→A x:=by intro x hx;(try simp only[cY,dB,dU,eQ,Mz,bO])<;>omega):z=0∨A g:=r.o.imp id (f g)
theorem cU (r:bQ (z=0∨(g=g1∧z1≠0)∨s≤g))(h1:z1=0∨A g1)(f:∀ x,s≤x→A x:=by intro x hx;(try simp only[cY,dB,dU,eQ,Mz,bO])<;>omega):z=0∨A g:=by
 rcases r.o with h|⟨h,hz⟩|h
 · exact .inl h
 · exact .inr (h ▸ h1.resolve_left hz)
 · exact .inr (f _ h)
theorem rY (r:bQ (z=0∨(g=g1∧z1≠0)∨(g=g2∧z2≠0)∨(g=g3∧z3≠0)∨s≤g))(h1:z1=0∨A g1)(h2:z2=0∨A g2)(h3:z3=0∨A g3)(f:∀ x,s≤x→A x:=by intro x hx;(try simp only[cY,dB,dU,eQ,Mz,bO])<;>omega):z=0∨A g:=by
 rcases r.o with h|⟨h,hz⟩|⟨h,hz⟩|⟨h,hz⟩|h
 · exact .inl h
 · exact .inr (h ▸ h1.resolve_left hz)
 · exact .inr (h ▸ h2.resolve_left hz)
 · exact .inr (h ▸ h3.resolve_left hz)
 · exact .inr (f _ h)
theorem R3 (r:bQ (z=0∨(z=1∧g<s)))(f:∀ x,x<s→A x:=by intro x hx;(try simp only[cY,dB,dU,eQ,Mz,bO])<;>omega):z=0∨A g:=r.o.imp id fun h=>f _ h.2
theorem eJ (h:z=0∨z1=0∨g≠g1):z1=0∨z=0∨g1≠g:=by omega
end
theorem O3 {v:Value}(h:oneB v=true):v.cells=[v].toArray:=by cases v<;>first|rfl|cases h
theorem mU {pl:Nat→Option (Nat × Nat)}{z cs:List Value}{i off:Nat}{v:Value}{r:List (Nat × Value)}(hp:pl i=some (off,1))(h1:oneB v=true)(hl:Nat.ble (off+1) z.length=true)(hr:oO pl (iU z off [v]) r=some cs):oO pl z ((i,v)::r)=some cs:=by
 unfold oO;rw[hp];simp only[O3 h1];rw[aG ⟨rfl,qU hl⟩];exact hr
theorem lE {pl:Nat→Option (Nat × Nat)}{z cs:List Value}{i off size:Nat}{v:Value}{r:List (Nat × Value)}(hp:pl i=some (off,size))(h1:v.cells.size=size)(hl:Nat.ble (off+size) z.length=true)(hr:oO pl (iU z off v.cells.toList) r=some cs):oO pl z ((i,v)::r)=some cs:=by
 unfold oO;rw[hp];simp only[h1];rw[aG ⟨trivial,qU hl⟩];exact hr
theorem Xh2 {P:Program}{r:Option Nat}{n:Nat}{Q:Exit→List Deferred→Slots→World→Prop}{D:List Deferred}{L:Slots}{w:World}{id:Nat}{ops:Array Oper}(mss:List (List Nat))(tab:List (Nat × List Nat))(t:Tz)(hm:P.follows .mixedOrders=true)(hnd:jK ops=true)(hlen:t.len=ops.size)
 (ho:Te ops (Ml tab) t (Array.replicate ops.size false)=true) (h:∀ w1,RowKit.Below w.heap.size w w1→w1.heap.size=w.heap.size→jI P n ops (fun L w=>Q .normal D L w) (eI mss w1) (Ml tab) t L w1):SW P r n (.region id ops true) Q D L w:=
 fun _ ha=>wpIn_region_any hm (by
  have:=(jI.anyH (r:=r) (D:=D) (QA:=Da n Q) hnd (fun _ _ _=>Qmy) Qmx (fun L _ _ hf hq=>⟨D,L,hf,hq⟩) t _ L _ w.drew ho ha (h w.drew (RowKit.Below.refl _ _).drew rfl)).any
  rw[hlen] at this;exact this)
end Go.Sx

end
section
namespace Go.Sx
open Go Go.RowKit
def gK (base:Nat)(ks fp:List Nat)(W:World):Prop:=lH base ks W∧∀ k∈ks,k∉fp
section
variable {base b:Nat} {ks fp fp':List Nat} {W W':World}
theorem Xbp (base:Nat)(fp:List Nat)(W:World):gK base [] fp W:=⟨Xbq base W,fun _ h=>by cases h⟩
theorem gK.gr (h:gK base ks fp W)(g:Gr W W'):gK base ks fp W':=⟨h.1.gr g,h.2⟩
theorem gK.md {t:TypeId}{cs:List Value}(h:gK base ks fp W)(m:Md b W W')(hb:Bx W b t cs):gK base ks fp W':=⟨h.1.md m (fun hk=>by
 have h1:=(h.1.2 b hk).2
 unfold Df at h1;unfold Bx at hb;rw[hb] at h1;simp at h1),h.2⟩
theorem gK.mdl {W0:World}{fp0:List Nat}(h:gK base ks fp W)(m:Md b W W')(h0:gK base ks fp0 W0)(hb:W0.heap.size≤b):gK base ks fp W':=⟨h.1.md m (fun hk=>by
 have h1:=(h0.1.2 b hk).2.lt
 omega),h.2⟩
theorem gK.kp (h:gK base ks fp W)(k:Kp fp W W')(hg:∀ c∈fp',c∈fp∨W.heap.size≤c):gK base ks fp' W':=
 ⟨h.1.kp k h.2,fun j hj=>gF hg (h.2 j hj) (h.1.2 j hj).2.lt⟩
theorem gK.cons {W0:World}{fp0:List Nat}{D:Nat}(h:gK base ks fp W)(h0:gK base ks fp0 W0)(hD:W0.heap.size≤D)(hb:base≤W0.heap.size)(hd:Df W D)(hn:D∉fp):gK base (D::ks) fp W:=
 ⟨h.1.cons aQ hd fun hk=>by have:=(h0.1.2 D hk).2.lt;omega,fun j hj=>by
  rcases gW.1 hj with rfl|hj
  · exact hn
  · exact h.2 j hj⟩
theorem gK.leave (h:gK base ks fp W):∃ wl,Vt (xL ks) W wl∧Kp ks W wl:=h.1.leave
theorem gK.stb {J:Nat→List Nat→World→Prop}{k:Nat}(hJ:nE J)(h:gK base ks fp W)(j:J k fp W)(kl:Kp ks W W'):J k fp W':=
 hJ.keep j kl.env fun c hc=>kl.block c (hJ.lt j c hc) fun hk=>h.2 c hk hc
theorem gK.trans {w:World}{f:List Nat}(h:gK w.heap.size ks fp W)(K:Kp f w W)(kl:Kp ks W W'):Kp f w W':=K.trans kl fun c hc=>.inr (h.1.2 c hc).1
end
end Go.Sx
namespace Go.Sx
open Go Go.RowKit
theorem Qux {P:Program}{n:Nat}{ops:Array Oper}{Q:Slots→World→Prop}{rest:List (Nat × Nat)}{i:Nat}{dst:Option Nat}{op:Op}{ty:TypeId}{pos:String}{af:Array Edge}{gu:Option (Nat × Bool)}{L:Slots}{w w₀:World}{ms:List Nat}{kp:Nat→Nat→Bool}{R:Value→World→Prop}
 (hi:ops[i]? = some ⟨dst,op,ty,pos,af,gu⟩) (hg:gd ops L ⟨dst,op,ty,pos,af,gu⟩=some true) (hd:jL n dst=true) (hv:EV P L ⟨dst,op,ty,pos,af,gu⟩ w R)
 (h:∀ v w',R v w'→(Kp ms w₀ w→Kp ms w₀ w')∧SD P n ops Q (eI [ms] w₀) kp rest (dO dst v L) w'):SD P n ops Q (eI [ms] w₀) kp ((i,0)::rest) L w:=
 ⟨_,hi,hd,.inl ⟨hg,R,hv,fun v w' hR=>⟨fun lv _ hS ms' hm=>by
  cases lv with
  | zero=>simp at hm;subst hm;exact(h v w' hR).1 (hS _ rfl)
  | succ k=>simp at hm,(h v w' hR).2⟩⟩⟩
end Go.Sx

end
section
namespace Go.Sx
open Go
def pX (ks:List Int)(k:Int):List Int:=if k∈ks then ks else ks++[k]
theorem Xa2 {ks:List Int}{k:Int}(h:ks.Nodup):(pX ks k).Nodup:=by
 unfold pX;split
 · exact h
 · rename_i hn;rw[Qav];exact⟨h,by simp,fun a ha b hb=>by simp at hb;subst hb;rintro rfl;exact hn ha⟩
open Classical in
noncomputable def pW {σ R:Type}(F:Int→(σ→Option R)→σ→Option R)(d:σ→Option R):Nat→List Int→σ→Option R
 | 0,_,_=>none
 | n+1,rem,s=>if rem=[] then d s else if h:∃ r,∀ k∈rem,F k (pW F d n (rem.filter (· ≠ k))) s=some r then some (Classical.choose h) else none
theorem Xf9 {σ R:Type}{F:Int→(σ→Option R)→σ→Option R}{d:σ→Option R}{n:Nat}{rem:List Int}{s:σ}{r:R}(h:pW F d n rem s=some r)(hr:rem=[]):d s=some r:=by
 cases n with
 | zero=>cases h
 | succ n=>unfold pW at h;rw[aG hr] at h;exact h
theorem Xf8 {σ R:Type}{F:Int→(σ→Option R)→σ→Option R}{d:σ→Option R}{n:Nat}{rem:List Int}{s:σ}{r:R}{k:Int}(h:pW F d n rem s=some r)(hk:k∈rem):∃ m,n=m+1∧F k (pW F d m (rem.filter (· ≠ k))) s=some r:=by
 cases n with
 | zero=>cases h
 | succ n=>
  refine⟨n,rfl,?_⟩;unfold pW at h;rw[aH (by rintro rfl;cases hk)] at h
  split at h
  · rename_i hx;have:=yL hx k hk;rw[this,h]
  · cases h
theorem Qp3 {σ R:Type}{F:Int→(σ→Option R)→σ→Option R}{d:σ→Option R}{r:R}(I:List Int→σ→Prop)(hd:∀ s,I [] s→d s=some r)(hs:∀ rem s k,k∈rem→I rem s→∃ s',I (rem.filter (· ≠ k)) s'∧∀ nx,F k nx s=nx s'):
 ∀ (n:Nat) (rem:List Int) (s:σ),rem.length<n→I rem s→pW F d n rem s=some r
 | 0,rem,s,h,_=>by omega
 | n+1,rem,s,h,hi=>by
  unfold pW;by_cases h0:rem=[]
  · rw[aG h0];subst h0;exact hd s hi
  · rw[aH h0]
    have hx:∀ k∈rem,F k (pW F d n (rem.filter (· ≠ k))) s=some r:=fun k hk=>by
     obtain⟨s',h1,h2⟩:=hs rem s k hk hi;rw[h2];refine Qp3 I hd hs n _ s' ?_ h1
     have:(rem.filter (· ≠ k)).length<rem.length:=by
      exact List.length_filter_lt_length_iff_exists.2 ⟨k,hk,by simp⟩
     omega
    have hex:∃ r,∀ k∈rem,F k (pW F d n (rem.filter (· ≠ k))) s=some r:=⟨r,hx⟩;rw[dif_pos hex];obtain⟨k,hk⟩:=Yj rem h0;have h1:=yL hex k hk;rw[hx k hk] at h1;exact h1.symm
def C9 {α:Type}(key:α→Int)(l:List α):Option (List α):=if(∀ x∈l,0≤key x∧key x<4611686018427387904)∧(l.map key).Nodup∧l.length<4611686018427387904 then some (l.mergeSort fun a b=>decide (key a≤key b)) else none
theorem Xgm {α:Type}{key:α→Int}{l m:List α}(h:C9 key l=some m):m=l.mergeSort (fun a b=>decide (key a≤key b))∧(∀ x∈l,0≤key x∧key x<4611686018427387904)∧(l.map key).Nodup∧l.length<4611686018427387904:=by
 unfold C9 at h;split at h
 · rename_i h1;exact⟨(jB h).symm,h1⟩
 · cases h
end Go.Sx

end
section
namespace Go.Sx
open Go Go.RowKit
def oG (ks:List Int):List MapEntry:=ks.zipIdx.map fun x=>⟨.int .i64 x.1,.bool true,x.2⟩
structure Mo (w:World)(b:Nat)(ks:List Int):Prop where
 nd:ks.Nodup
 row:w.heap[b]? = some (.map (oG ks).toArray ks.length)
def Z5 (ks:List Int)(seen:List Nat):List Int:=(ks.zipIdx.filter fun x => !seen.contains x.2).map (·.1)
def Mi (w:World)(b m:Nat)(ks rem:List Int):Prop:=∃ seen:List Nat,w.heap[b]? = some (.mapIter (some m) ks.length seen.toArray ks.length)∧rem=Z5 ks seen
def Mk (w:World)(b m:Nat)(ks rem:List Int)(k:Int):Prop:=∃ (seen:List Nat) (i:Nat),w.heap[b]? = some (.mapIter (some m) ks.length (seen++[i]).toArray ks.length)∧rem=Z5 ks (seen++[i])∧ks[i]? = some k
section
variable {w w':World} {b m c z g:Nat} {ks rem:List Int} {k:Int} {l:List (Nat × Nat)}
theorem dX {o:Obj}(h:w.heap[b]? = some o):b<w.heap.size:=(lM.1 h).1
theorem Mo.lt (h:Mo w b ks):b<w.heap.size:=dX h.row
theorem Mo.gr (h:Mo w b ks)(G:Gr w w'):Mo w' b ks:=⟨h.nd,(G.block b h.lt).trans h.row⟩
theorem Mo.md (h:Mo w b ks)(M:Md c w w')(ne:b≠c:=by omega):Mo w' b ks:=⟨h.nd,(M.block b ne).trans h.row⟩
theorem Mo.ka (h:Mo w b ks)(A:Ka z g w w')(hn:z=0∨g≠b:=by omega):Mo w' b ks:=⟨h.nd,(A.block b h.lt aQ).trans h.row⟩
theorem Mo.kz (h:Mo w b ks)(K:Kz l w w')(hn:cY l b:=by simp only[cY,dB,dU,eQ,Mz,bO]<;>omega):Mo w' b ks:=⟨h.nd,(K.block b h.lt hn).trans h.row⟩
theorem Mi.lt (h:Mi w b m ks rem):b<w.heap.size:=by obtain⟨s,h,_⟩:=h;exact dX h
theorem Mi.gr (h:Mi w b m ks rem)(G:Gr w w'):Mi w' b m ks rem:=by obtain⟨s,h1,h2⟩:=h;exact⟨s,(G.block b (dX h1)).trans h1,h2⟩
theorem Mi.md (h:Mi w b m ks rem)(M:Md c w w')(ne:b≠c:=by omega):Mi w' b m ks rem:=by obtain⟨s,h1,h2⟩:=h;exact⟨s,(M.block b ne).trans h1,h2⟩
theorem Mi.ka (h:Mi w b m ks rem)(A:Ka z g w w')(hn:z=0∨g≠b:=by omega):Mi w' b m ks rem:=by obtain⟨s,h1,h2⟩:=h;exact⟨s,(A.block b (dX h1) aQ).trans h1,h2⟩
theorem Mi.kz (h:Mi w b m ks rem)(K:Kz l w w')(hn:cY l b:=by simp only[cY,dB,dU,eQ,Mz,bO]<;>omega):Mi w' b m ks rem:=by obtain⟨s,h1,h2⟩:=h;exact⟨s,(K.block b (dX h1) hn).trans h1,h2⟩
theorem Mk.mi (h:Mk w b m ks rem k):Mi w b m ks rem:=by obtain⟨s,i,h1,h2,_⟩:=h;exact⟨_,h1,h2⟩
end
theorem Xe1 (ks:List Int):Z5 ks []=ks:=by
 unfold Z5;have:(ks.zipIdx.filter fun x => !([]:List Nat).contains x.2)=ks.zipIdx:=Qaj.2 bW;rw[this];simp
theorem Xe2 {ks:List Int}{seen:List Nat}{i:Nat}{k:Int}(hn:ks.Nodup)(hi:ks[i]? = some k):Z5 ks (seen++[i])=(Z5 ks seen).filter (· ≠ k):=by
 unfold Z5;rw[List.filter_map,List.filter_filter];congr 1;apply List.filter_congr;rintro⟨x,j⟩ hx;have hj:ks[j]? = some x:=by simpa using Qau.1 hx
 have:decide (x≠k) = !decide (j=i):=by
  by_cases e:j=i
  · subst e;rw[hi] at hj;cases hj;simp
  · have:x≠k:=by
     rintro rfl;obtain⟨p1,e1⟩:=jP.1 hi;obtain⟨p2,e2⟩:=jP.1 hj;exact e ((Qak hn).1 (by rw[e1,e2]))
    simp[e,this]
 simp only[Function.comp,List.contains_append,Bool.not_or,this];rw[Bool.and_comm];congr 1;simp only[List.contains_cons,List.contains_nil,Ye];by_cases e:j=i<;>simp[e]
section
variable {P:Program} {L:Slots} {w:World} {dst:Option Nat} {ty:TypeId} {pos:String} {af:Array Edge} {gu:Option (Nat × Bool)} {x y:Operand} {t K E:TypeId} {b m:Nat} {ks rem:List Int} {k:Int}
structure Li (P:Program)(t K E:TypeId):Prop where
 und:P.underlying t=some (.map K E)
 key:P.underlying K=some (.int .i64)
 zero:∀ w,(zeroValue E).run P w=.ok (.bool false) w
theorem Qyp:EV P L ⟨dst,.makeMap t none,ty,pos,af,gu⟩ w fun v' w'=>∃ b,v'=.map (some b)∧w.heap.size≤b∧Mo w' b []∧Gr w w':=fun ρ hρ=>by
 refine .val (.map (some w.heap.size)) (w.alloc (.map #[] 0)) (by simp[execOp,Instr.makeMap,go_sem]) ⟨_,rfl,eO _,⟨List.nodup_nil,heap_alloc_new w _⟩,(Below.refl _ _).alloc (eO _) _⟩
theorem Qdt (k:Int):∀ (ks:List Int) (o i:Nat),Instr.findNow (.int .i64) (.int .i64 k) ((ks.zipIdx o).map fun x=>(⟨.int .i64 x.1,.bool true,x.2⟩:MapEntry)) i=some (if k∈ks then some (i+ks.idxOf k,.bool true) else none)
 | [],o,i=>by simp[Instr.findNow]
 | a::ks,o,i=>by
  rw[Qb1,qC];simp only[Instr.findNow,Instr.sameNow,lU];by_cases h:k=a
  · subst h;simp
  · have hb:(k == a)=false:=by simpa using h
    have hb2:(a == k)=false:=by simpa using fun e=>h e.symm
    rw[hb];simp only;rw[Qdt k ks (o+1) (i+1)];simp only[gW,h,false_or,List.idxOf_cons,hb2,cH];congr 1
    split
    · congr 2;omega
    · rfl
theorem Qis (e:Bool)(n:Nat)(hk:P.underlying K=some (.int .i64)):(Instr.checkKey e (n+1) K (.int .i64 k)).run P w=.ok () w:=by
 unfold Instr.checkKey;simp only[Sem.run_bind,run_underlying hk,Result.andThen];rfl
theorem Nt (hm:Li P t K E)(hx:ev L x=some (.map (some b)))(hy:ev L y=some (.int .i64 k))(hb:Mo w b ks):VV P L ⟨dst,.lookup t x y false,ty,pos,af,gu⟩ w (.bool (decide (k∈ks))):=fun ρ hρ=>by
 refine nM ?_;rw[hρ _ _ hx,hρ _ _ hy];have hck:∀ e,(Instr.checkKey e 10000 K (.int .i64 k)).run P w=.ok () w:=fun e=>Qis e 9999 hm.key;have hf:Instr.findNow (.int .i64) (.int .i64 k) (oG ks) 0=_:=Qdt k ks 0 0;unfold Instr.lookup;simp only[Sem.run_bind,run_underlying hm.und,Result.andThen,MapKept.run_getObj_map hb.row,Sem.run_pure,hck];unfold Instr.findKey;simp only[Sem.run_bind,run_underlying hm.key,Result.andThen];rw[hf];by_cases h:k∈ks
 · simp[h]
 · simp[h,hm.zero w]
theorem Xbt (ks:List Int)(k:Int):oG (ks++[k])=oG ks++[⟨.int .i64 k,.bool true,ks.length⟩]:=by
 unfold oG;rw[List.zipIdx_append,qB];simp
theorem Qyq (hm:Li P t K E){z:Operand}(hx:ev L x=some (.map (some b)))(hy:ev L y=some (.int .i64 k))(hz:ev L z=some (.bool true))(hb:Mo w b ks):EV P L ⟨dst,.mapUpdate t x y z,ty,pos,af,gu⟩ w fun _ w'=>Mo w' b (pX ks k)∧Md b w w':=fun ρ hρ=>by
 have hck:(Instr.checkKey false 10000 K (.int .i64 k)).run P w=.ok () w:=Qis false 9999 hm.key;have hf:Instr.findNow (.int .i64) (.int .i64 k) (oG ks) 0=_:=Qdt k ks 0 0
 have hset:∀ o:Obj,(setObj b o).run P w=.ok () (w.putObj b o):=fun o=>by
  simp only[setObj,Sem.run,hb.row];rfl
 have key:∃ o:Obj,(Instr.mapUpdate t (.map (some b)) (.int .i64 k) (.bool true)).run P w=.ok () (w.putObj b o)∧o=.map (oG (pX ks k)).toArray (pX ks k).length:=by
  unfold Instr.mapUpdate;simp only[Sem.run_bind,run_underlying hm.und,Result.andThen,MapKept.run_getObj_map hb.row,hck];unfold Instr.findKey;simp only[Sem.run_bind,run_underlying hm.key,Result.andThen];rw[hf];by_cases h:k∈ks
  · rw[aG h];simp only[Sem.run_pure,kN,Instr.keyThatStays];have hi:ks.idxOf k<ks.length:=List.idxOf_lt_length_of_mem h
    have hg:(oG ks).toArray[ks.idxOf k]? = some ⟨.int .i64 k,.bool true,ks.idxOf k⟩:=by
     simp[oG,hi]
    rw[hg];simp only[wS,Fa,Instr.sameBits,beq_self_eq_true,Bool.and_self,lU,Sem.run_bind,Sem.run_pure,Result.andThen,hset,pX,aG h];refine⟨_,rfl,?_⟩;congr 1;apply Array.ext_getElem?;intro j;rw[Qa6];by_cases hj:ks.idxOf k=j
    · subst hj;rw[aG rfl,hg];rfl
    · rw[aH hj]
  · rw[aH h];simp only[Sem.run_pure,hset,pX,aH h];refine⟨_,rfl,?_⟩;rw[Xbt];simp
 obtain⟨o,h1,rfl⟩:=key;refine .skip _ ?_ ⟨⟨Xa2 hb.nd,World.putObj_heap_same hb.lt⟩,Md.put b _⟩;simp[execOp,hρ _ _ hx,hρ _ _ hy,hρ _ _ hz,h1]
theorem Qys (hm:Li P t K E)(hx:ev L x=some (.map (some m)))(hb:Mo w m ks):EV P L ⟨dst,.range t x,ty,pos,af,gu⟩ w fun v' w'=>∃ b,v'=.pointer (some ⟨b,0,none⟩)∧w.heap.size≤b∧Mi w' b m ks ks∧Gr w w':=fun ρ hρ=>by
 have h:=run_range_map (P:=P) w t K E m _ _ hm.und hb.row;refine .val _ _ (nM (by rw[hρ _ _ hx];exact h)) ⟨_,rfl,eO _,⟨[],heap_alloc_new w _,(Xe1 ks).symm⟩,(Below.refl _ _).alloc (eO _) _⟩
theorem Qyr (hx:ev L x=some (.pointer (some ⟨b,0,none⟩)))(hb:Mo w m ks)(hi:Mi w b m ks rem):EV P L ⟨dst,.next x false,ty,pos,af,gu⟩ w fun v' w'=>
 (v'=.tuple [.bool false].toArray∧rem=[]∧Gr w w')∨(∃ k,k∈rem∧v'=.tuple [.bool true,.int .i64 k,.bool true].toArray∧Mk w' b m ks (rem.filter (· ≠ k)) k∧Md b w w'):=fun ρ hρ=>by
 obtain⟨seen,h1,rfl⟩:=hi
 have hold:∀ e∈(oG ks).toArray.toList,e.born<ks.length:=by
  intro e he;obtain⟨⟨a,j⟩,hj,rfl⟩:=fP.1 he;have:=Qau.1 hj;exact(jP.1 (by simpa using this)).1
 have hrun:∀ (r:Result Value),(Instr.next (.pointer (some ⟨b,0,none⟩)) false ty).run P w=r→(execOp ρ ⟨dst,.next x false,ty,pos,af,gu⟩).run P w=r.andThen fun v w'=>.ok (.value v) w':=fun r hr=>by
  simp only[execOp,hρ _ _ hx];rw[←hr];simp[Sem.run_bind]
 have hL:(Array.filter (fun e => !seen.toArray.contains e.born) (oG ks).toArray).toList=(ks.zipIdx.filter fun x => !seen.contains x.2).map fun x=>(⟨.int .i64 x.1,.bool true,x.2⟩:MapEntry):=by
  simp[oG,List.filter_map,Function.comp_def]
 have hmem:∀ e∈(Array.filter (fun e => !seen.toArray.contains e.born) (oG ks).toArray).toList,e.born<ks.length:=fun e he=>hold e (by simp at he ⊢;exact he.1);have hn:(Instr.next (.pointer (some ⟨b,0,none⟩)) false ty).run P w=(Instr.next (.pointer (some ⟨b,0,none⟩)) false ty).run P w:=rfl
 conv at hn=>rhs;simp only[Instr.next,getObj,Sem.run_bind,Sem.run,h1,hb.row,Result.andThen,next_test_false seen.toArray (oG ks).toArray ks.length ks.length hold (eO _),nI,mB]
 generalize Array.filter (fun e => !seen.toArray.contains e.born) (oG ks).toArray=A at hL hmem hn;have e1:A.filter (fun x=>decide (x.born<ks.length))=A:=Array.filter_eq_self.2 (fun x hx=>by simpa using hmem x (by simpa using hx))
 have e2:A.filter (fun x=>decide (x.born≥ks.length)) = #[]:=by
  rw[Array.filter_eq_empty_iff];intro x hx;have:=hmem x (by simpa using hx);simp;omega
 simp only[e1,e2,Array.append_empty] at hn;by_cases h0:A.size=0
 · have hA:A = #[]:=Array.eq_empty_of_size_eq_zero h0;subst hA;have h2:=hrun _ hn;refine .val (.tuple [.bool false].toArray) w ?_ (.inl ⟨rfl,?_,Gr.refl w⟩)
   · rw[h2];simp[choose,Sem.run,Question.forced,Result.andThen]
   · have:(ks.zipIdx.filter fun x => !seen.contains x.2)=[]:=by simpa using hL.symm
     unfold Z5;rw[this];rfl
 · have hne:A.isEmpty=false:=by simp[Array.isEmpty,h0]
   simp only[hne,nI,mB,Array.empty_append,Array.size_map] at hn
   have hch:∃ (j:Nat) (w1:World),j<A.size∧(w1=w∨w1=w.drew)∧(choose (Question.mapNext A.size)).run P w=.ok j w1:=by
    by_cases hf:A.size≤1
    · exact⟨0,w,aQ,.inl rfl,by simp[choose,Sem.run,Question.forced,hf]⟩
    · exact⟨_,w.drew,fR _ aQ,.inr rfl,by
       simp only[choose,Sem.run,Question.forced,fT,hf,mB,Question.cut];rfl⟩
   obtain⟨j,w1,hj,hw1,hc⟩:=hch;have hw1h:w1.heap=w.heap:=by rcases hw1 with rfl|rfl<;>rfl
   have hset:∀ o:Obj,(setObj b o).run P w1=.ok () (w1.putObj b o):=fun o=>by
    have:w1.heap[b]? = some (.mapIter (some m) ks.length seen.toArray ks.length):=by rw[hw1h];exact h1
    simp only[setObj,Sem.run,this];rfl
   simp only[hc,Array.getElem?_map,Array.getElem?_eq_getElem hj,wS,hset,Sem.run_bind,Result.andThen] at hn;have hAj:A[j]∈A.toList:=by simp
   rw[hL] at hAj;obtain⟨⟨k,i⟩,hki,hkj⟩:=fP.1 hAj;have hki':=yB.1 hki;have hi:ks[i]? = some k:=by simpa using Qau.1 hki'.1
   rw[←hkj] at hn;have h2:=hrun _ hn
   have hmd:Md b w (w1.putObj b (.mapIter (some m) ks.length (seen.toArray.push i) ks.length)):=by
    have:Md b w1 (w1.putObj b (.mapIter (some m) ks.length (seen.toArray.push i) ks.length)):=Md.put b _;rcases hw1 with rfl|rfl
    · exact this
    · exact⟨this.os,this.tape,this.output,this.size,this.block⟩
   refine .val (.tuple [.bool true,.int .i64 k,.bool true].toArray) _ (by rw[h2];rfl) (.inr ⟨k,?_,rfl,⟨seen,i,?_,?_,hi⟩,hmd⟩)
   · exact fP.2 ⟨(k,i),hki,rfl⟩
   · have hbs:b<w1.heap.size:=by rw[hw1h];exact dX h1
     have:=World.putObj_heap_same (w:=w1) (o:=.mapIter (some m) ks.length (seen.toArray.push i) ks.length) hbs;rw[this];simp
   · exact(Xe2 hb.nd hi).symm
theorem Xif (hx:ev L x=some (.pointer (some ⟨b,0,none⟩)))(hb:Mo w m ks)(hi:Mk w b m ks rem k):VV P L ⟨dst,.entry x,ty,pos,af,gu⟩ w (.tuple [.int .i64 k,.bool true].toArray):=fun ρ hρ=>by
 obtain⟨seen,i,h1,_,h3⟩:=hi;refine nM ?_;rw[hρ _ _ hx]
 have hf:(oG ks).toArray.find? (fun e=>e.born == i)=some ⟨.int .i64 k,.bool true,i⟩:=by
  rw[←Array.find?_toList]
  have hgen:∀ (ks:List Int) (o i:Nat),ks[i]? = some k→((ks.zipIdx o).map fun x=>(⟨.int .i64 x.1,.bool true,x.2⟩:MapEntry)).find? (fun e=>e.born == o+i)=some ⟨.int .i64 k,.bool true,o+i⟩:=by
   intro ks
   induction ks with
   | nil=>intro o i h;simp at h
   | cons a ks ih=>
    intro o i h;rw[Qb1,qC,Ly]
    cases i with
    | zero=>simp at h;subst h;simp
    | succ i=>
     have hne:(o == o+(i+1))=false:=by simp
     rw[hne];have:=ih (o+1) i (by simpa using h);rw[show o+1+i=o+(i+1) from by omega] at this;exact this
  have:=hgen ks 0 i h3;rw[kN] at this;exact this
 simp[Instr.entry,getObj,Sem.run,h1,hb.row,hf]
end
end Go.Sx

end
section
namespace Go.Sx
open Go Go.RowKit
theorem kH {P:Program}{n:Nat}{ops:Array Oper}{Q:Slots→World→Prop}{rest:List (Nat × Nat)}{i:Nat}{dst:Option Nat}{ty:TypeId}{pos:String}{af:Array Edge}{gu:Option (Nat × Bool)}{L:Slots}{w:World}
 {f:Nat} {fs cap:List Value} {x:Operand} {aas:Array Operand} {at_:Array TypeId} {vs:List Value} {fn:Func} {c:Code} (n':Nat) (hf:P.funcs[f]? = some fn) (hi:ops[i]? = some ⟨dst,.call { callee:=.value x,args:=aas,argTypes:=at_ },ty,pos,af,gu⟩)
 (hg:gd ops L ⟨dst,.call { callee:=.value x,args:=aas,argTypes:=at_ },ty,pos,af,gu⟩=some true) (hd:jL n dst=true) (hen:En P f) (hx:ev L x=some (.func (.func f) fs.toArray cap.toArray)) (hargs:tC L aas.toList=some vs)
 (hb:fn.body=some c) (hn:fn.ntmps=n') (hl:Nat.ble (fs++vs++cap).length n'=true)
 (h:SW P none n' c (Qox P fn (fun v w'=>SD P n ops Q (fun _ _=>True) (fun _ _=>false) rest (dO dst v L) w')) [] (I5 0 (fs++vs++cap)) w):SD P n ops Q (fun _ _=>True) (fun _ _=>false) ((i,0)::rest) L w:=
 Qpi hi hg hd (gS hen hx hargs (bP n' hf hb hn hl h)) fun v w' hR=>hR
end Go.Sx

end
section
namespace Go.Sx
open Go
def sP (a b:Int):Int:=if a<b then b else a
def mnI (a b:Int):Int:=if b<a then b else a
end Go.Sx

end
section
namespace Go.Sx
open Go Go.RowKit
theorem T6 {α:Type}(a:α):∃ x,x=a:=⟨a,rfl⟩
section
variable {F:Fence} {n:Nat} {P:Program} {a:Act} {w:World} {Q:Exit→Act→World→Prop}
theorem Vc {b:Frame}{k:List Item}{cs:List Frame}{c:Code}:step P (lone (b.atR a (.code (.scope c)::k)) cs w)=.next (lone (b.atR a (.code c::.inScope c::k)) cs w):=step_lone_go (by simp[stepG,stepG.exec,Frame.atR])
theorem Xgp {b:Frame}{k:List Item}{cs:List Frame}{c:Code}:step P (lone (b.atR a (.inScope c::k)) cs w)=.next (lone (b.atR a k) cs w):=step_lone_go (by simp[stepG,stepG.exec,Frame.atR])
def Xbw (Q:Exit→Act→World→Prop):Exit→Act→World→Prop
 | .goto _,_,_=>False
 | e,a,w=>Q e a w
theorem Xje {c:Code}(h:c.wpIn F n P (Xbw Q) a w):(Code.scope c).wpIn F n P Q a w:=by
 intro b k cs hro hb hr;have h0:(lone (b.atR a (.code (.scope c)::k)) cs w).fenced P F:=fenced_calm hb hr rfl;obtain⟨e,a₁,w₁,hq,harr⟩:=h b (.inScope c::k) cs hro hb hr
 cases e with
 | normal=>exact⟨.normal,a₁,w₁,hq,.head h0 Vc (StepsIn.trans harr (.one (fenced_calm hb hr rfl) Xgp))⟩
 | exit id'=>
  have hx:exitTo id' (.inScope c::k)=exitTo id' k:=by simp[exitTo]
  exact⟨.exit id',a₁,w₁,hq,fun k' hk=>.head h0 Vc (harr.1 k' (by rw[hx];exact hk)),
   fun hr' hk=>let ⟨k₁,h1,h2⟩:=harr.2 hr' (by rw[hx];exact hk);⟨k₁,h1,.head h0 Vc h2⟩⟩
 | goto l=>exact hq.elim
 | ret=>exact⟨_,a₁,w₁,hq,.of_steps (.one h0 Vc) harr⟩
 | panic ch=>exact⟨_,a₁,w₁,hq,.of_steps (.one h0 Vc) harr⟩
 | outgrown=>exact⟨_,a₁,w₁,hq,.of_steps (.one h0 Vc) harr⟩
end
def Qgd (Q:Exit→List Deferred→Slots→World→Prop):Exit→List Deferred→Slots→World→Prop
 | .goto _,_,_,_=>False
 | e,D,L,w=>Q e D L w
section
variable {P:Program} {r:Option Nat} {n:Nat} {Q:Exit→List Deferred→Slots→World→Prop} {D:List Deferred} {L:Slots} {w:World}
theorem Qq4 {c:Code}(h:SW P r n c (Qgd Q) D L w):SW P r n (.scope c) Q D L w:=fun a ha=>Xje (wpIn_mono (h a ha) fun e a' w' hh=>by
 cases e with
 | goto l=>obtain⟨_,_,_,h⟩:=hh;exact h.elim
 | normal=>exact hh
 | exit id=>exact hh
 | ret=>exact hh
 | panic c=>exact hh
 | outgrown=>exact hh)
theorem Qpg (h:Q .normal D L w):Qgd Q .normal D L w:=h
theorem Qph (h:Q .ret D L w):Qgd Q .ret D L w:=h
end
section
variable {P:Program} {L:Slots} {w:World} {dst:Option Nat} {ty:TypeId} {pos:String} {af:Array Edge} {gu:Option (Nat × Bool)} {x y q:Operand} {t t2 t3:TypeId} {a b c:Int} {k k2 k3:IntKind}
theorem Xip (hx:ev L x=some (.int k a))(hy:ev L y=some (.int k2 b)):VV P L ⟨dst,.call { callee:=.builtin .max,args := #[x,y],argTypes := #[t,t2] },ty,pos,af,gu⟩ w (.int k (sP a b)):=fun ρ hρ=>by
 simp[execOp,resolve,invoke,builtin,hρ _ _ hx,hρ _ _ hy,Builtin.max_,Builtin.max2,sP]
theorem Xir (hx:ev L x=some (.int k a))(hy:ev L y=some (.int k2 b)):VV P L ⟨dst,.call { callee:=.builtin .min,args := #[x,y],argTypes := #[t,t2] },ty,pos,af,gu⟩ w (.int k (mnI a b)):=fun ρ hρ=>by
 simp[execOp,resolve,invoke,builtin,hρ _ _ hx,hρ _ _ hy,Builtin.min_,Builtin.min2,mnI]
variable {d e:BitVec 64}
end
def BA (P:Program)(t:TypeId)(sz:Nat)(z:List Value):Prop:=∃ n e,P.underlying t=some (.array n e)∧iY P e sz∧ZV P t (.agg z.toArray)
theorem Vf {P:Program}{L:Slots}{w:World}{dst:Option Nat}{ty:TypeId}{pos:String}{af:Array Edge}{gu:Option (Nat × Bool)}{t:TypeId}{sz:Nat}{z cs:List Value}{parts:Array (Nat × Operand)}{vs:List (Nat × Value)}(hb:BA P t sz z)(hp:zN L parts.toList=some vs)(hf:oO (fun i=>some (i*sz,sz)) z vs=some cs):
 VV P L ⟨dst,.build t parts,ty,pos,af,gu⟩ w (.agg cs.toArray):=fun ρ hρ=>by
 obtain⟨n,e,hu,hs,hz⟩:=hb;have e1:(parts.map fun(x:Nat × Operand)=>(x.1,ρ x.2))=vs.toArray:=by rw[←hρ.mapP hp,←Yb]
 refine nM ?_;show(Instr.build t (parts.map fun(x:Nat × Operand)=>(x.1,ρ x.2))).run P w=_;rw[e1];simp only[Instr.build,Sem.run_bind,hz w,Result.andThen,run_underlying hu,hs w,Value.cells,Cr vs z cs hf];rfl
section
variable {P:Program} {L:Slots} {w:World} {dst:Option Nat} {ty:TypeId} {pos:String} {af:Array Edge} {gu:Option (Nat × Bool)} {x:Operand} {t u e:TypeId} {v:Value} {z g o sz:Nat} {α:Type} {l:List α} {c:α→List Value}
theorem R4 (hr:Rd w z g o sz v (l.map c)):(∃ cap,v=.slice none 0 cap∧l=[])∨∃ a k cap,v=.slice (some a) k cap:=by
 rcases hr.2 with⟨_,h,a,cap,rfl⟩|⟨_,cap,rfl,_⟩
 · cases a with
   | none=>exact .inl ⟨cap,rfl,by simpa using h⟩
   | some a=>exact .inr ⟨a,0,cap,rfl⟩
 · exact .inr ⟨_,_,_,rfl⟩
theorem Xfl {P:Program}{a:Option Addr}{k cap:Nat}{w:World}(d:Nat)(hu:P.underlying t=some (.slice e)):(Op.equalIn (d+1) t (.slice a k cap) (.slice none 0 0)).run P w=.ok a.isNone w:=by
 cases a<;>simp[Op.equalIn,run_underlying hu]
theorem Xfk {P:Program}{a:Option Addr}{k cap:Nat}{w:World}(hu:P.underlying t=some (.slice e)):(Op.equal t (.slice a k cap) (.slice none 0 0)).run P w=.ok a.isNone w:=by
 exact Xfl 9999 hu
theorem qD {k cap:Nat}{a:Option Addr}(hu:P.underlying t=some (.slice e))(hx:ev L x=some v)(hv:v=.slice a k cap):VV P L ⟨dst,.binOp .eql t x (.const (.slice none 0 0)) u,ty,pos,af,gu⟩ w (.bool a.isNone):=fun ρ hρ=>by
 subst hv;simp[execOp,hρ _ _ hx,hρ (.const (.slice none 0 0)) _ rfl,go_sem,binOp,Xfk hu]
end
section
variable {P:Program} {L:Slots} {w:World} {dst:Option Nat} {ty:TypeId} {pos:String} {af:Array Edge} {gu:Option (Nat × Bool)} {x y p q r:Operand} {t e:TypeId} {v:Value} {z g o sz N:Nat} {α:Type} {l m k:List α} {c:α→List Value} {lo hi:Int} {kl kh km:IntKind}
end
end Go.Sx

end
section
namespace Go.Sx
open Go Go.RowKit
theorem Xjf (n:Int):IntKind.u8.wrap n=n%256:=by simp[IntKind.wrap,IntKind.bits,IntKind.signed]
theorem Qns (x:BitVec 8):BitVec.ofInt 8 (aO x)=x:=by unfold aO;rw[Lo,BitVec.ofNat_toNat,BitVec.setWidth_eq]
theorem wr8 (x:BitVec 8):IntKind.u8.wrap (x.toNat:Int)=aO x:=by rw[Xjf];unfold aO;have:=x.isLt;omega
theorem Qsa (x y:BitVec 8):bits .and .u8 (aO x) (aO y)=aO (x &&& y):=by
 show IntKind.u8.wrap ((BitVec.ofInt 8 (aO x) &&& BitVec.ofInt 8 (aO y)).toNat:Int)=_;rw[Qns,Qns,wr8]
section
variable {P:Program} {L:Slots} {w:World} {dst:Option Nat} {ty:TypeId} {pos:String} {af:Array Edge} {gu:Option (Nat × Bool)} {x y:Operand} {t u e:TypeId} {a b:BitVec 8}
theorem Xia (hx:ev L x=some (bv a))(hy:ev L y=some (bv b)):VV P L ⟨dst,.binOp .and t x y u,ty,pos,af,gu⟩ w (bv (a &&& b)):=dL (yK bW hx hy) (by rw[Qsa])
end
section
variable {P:Program} {L:Slots} {w:World} {dst:Option Nat} {ty:TypeId} {pos:String} {af:Array Edge} {gu:Option (Nat × Bool)} {x y:Operand} {t u e:TypeId}
theorem Qqz {len b' off sz off':Nat}{i:Int}{k:IntKind}{α:Type}{l:List α}{a:α}(hu:P.underlying t=some (.array len e))(hs:iY P e sz)(hx:ev L x=some (.pointer (some ⟨b',off,none⟩)))(hy:ev L y=some (.int k i))(hg:bJ l i=some a)(hl:l.length=len)(ho:off'=off+i.toNat*sz:=by rfl):
 VV P L ⟨dst,.indexAddr t x y,ty,pos,af,gu⟩ w (.pointer (some ⟨b',off',none⟩)):=by
 subst ho;exact yV hu hs hx hy (pQ hg) (by have:=xY hg;omega)
theorem Vg {len b' off sz:Nat}{i:Int}{k:IntKind}(hu:P.underlying t=some (.array len e))(hs:iY P e sz)(hx:ev L x=some (.pointer (some ⟨b',off,none⟩)))(hy:ev L y=some (.int k i))(h0:0≤i∧i<len):
 VV P L ⟨dst,.indexAddr t x y,ty,pos,af,gu⟩ w (.pointer (some ⟨b',off+i.toNat*sz,none⟩)):=yV hu hs hx hy h0.1 h0.2
theorem Qyt {b' o p q m sz:Nat}{tb:TypeId}{α:Type}{l l':List α}{c:α→List Value}{a a':α}{i:Int}{v:Value}{cs cs' vs:List Value}(hs:iY P t m)(hx:ev L x=some (.pointer (some ⟨b',p,none⟩)))(hy:ev L y=some v)(hc:v.cells=vs.toArray)(hm:vs.length=m)(h1:iD vs=true)
 (hb:Bx w b' tb cs) (hw:Ws sz (l.map c)) (ha:cs=cs.take o++((l.map c).flatten++cs.drop (o+l.length*sz))) (hol:Nat.ble (o+l.length*sz) cs.length=true) (hg:bJ l i=some a) (hp:p=o+(i.toNat*sz+q)) (hq:Nat.ble (q+m) sz=true) (he:iU (c a) q vs=c a') (hset:l.set i.toNat a'=l') (he':cs.take o++((l'.map c).flatten++cs.drop (o+l.length*sz))=cs'):
 EV P L ⟨dst,.store t x y,ty,pos,af,gu⟩ w fun _ w'=>Bx w' b' tb cs'∧Md b' w w':=by
 have hq':=qU hq;have hol':=qU hol;have hi:=rO hg;have hil:=(jP.1 hi).1;have hfl:(l.map c).flatten.length=l.length*sz:=by rw[hw.flat,fJ]
 have hin:i.toNat*sz+sz≤l.length*sz:=by rw[←Nat.succ_mul];exact gA _ hil
 refine Hr (off:=p) hs hx hy hc hm h1 hb (Sn aQ) ?_;rw[←he',←hset,List.map_set,←he,Qdw _ _ _ _ _ hw (sQ hi) aQ];have e1:(cs.take o).length=o:=by rw[qR];omega
 generalize hF:(l.map c).flatten=F at *;generalize hT:cs.drop (o+l.length*sz)=T at *;generalize hH:cs.take o=H at *;rw[ha];unfold iU;rw[hp,show o+(i.toNat*sz+q)=H.length+(i.toNat*sz+q) from by rw[e1],List.take_length_add_append,Qaz aQ,rS H.length,List.drop_length_add_append,Qaf aQ];simp only[V8]
end
end Go.Sx

end
section
namespace Go.Sx
open Go Go.RowKit
structure Rp (α:Type) where
 γ:Type
 sz:Nat
 c:α × γ→List Value
 S:World→List Nat→α × γ→Prop
 ws:∀ {w F p},S w F p→(c p).length=sz∧iD (c p)=true
 keep:∀ {w w' F p},S w F p→w.heap.size≤w'.heap.size→(∀ b∈F,b<w.heap.size→w'.heap[b]? = w.heap[b]?)→S w' F p
 mono:∀ {w F F' p},S w F p→(∀ b∈F,b∈F')→S w F' p
def eL {α:Type}(R:Rp α)(w:World)(z g:Nat)(e:TypeId)(v:Value)(F:List Nat)(l:List α):Prop:=
 ∃ lg:List (α × R.γ),lg.map Prod.fst=l∧aY w z g e R.sz v (lg.map R.c)∧(∀ p∈lg,R.S w F p)∧(∀ b∈F,b<w.heap.size)∧(z=0∨∀ b∈F,b≠g)
def gL {α:Type}(R:Rp α)(w:World)(z g o:Nat)(v:Value)(F:List Nat)(l:List α):Prop:=
 ∃ lg:List (α × R.γ),lg.map Prod.fst=l∧Rd w z g o R.sz v (lg.map R.c)∧(∀ p∈lg,R.S w F p)∧(∀ b∈F,b<w.heap.size)
section
variable {α:Type} {R:Rp α} {w w' w₁:World} {z g o b z' g':Nat} {e:TypeId} {v:Value} {F F':List Nat} {l:List α} {lz:List (Nat × Nat)} {ms:List Nat}
theorem eL.rd (h:eL R w z g e v F l):gL R w z g 0 v F l:=by
 obtain⟨lg,h1,h2,h3,h4,h5⟩:=h;exact⟨lg,h1,h2.rd,h3,h4⟩
theorem eL.keep (h:eL R w z g e v F l)(hs:w.heap.size≤w'.heap.size)(hg:z=0∨(g<w.heap.size→w'.heap[g]? = w.heap[g]?))(hF:∀ b∈F,b<w.heap.size→w'.heap[b]? = w.heap[b]?):eL R w' z g e v F l:=by
 obtain⟨lg,h1,h2,h3,h4,h5⟩:=h;exact⟨lg,h1,h2.keep hg,fun p hp=>R.keep (h3 p hp) hs hF,fun b hb=>iC (h4 b hb) hs,h5⟩
theorem gL.keep (h:gL R w z g o v F l)(hs:w.heap.size≤w'.heap.size)(hg:z=0∨(g<w.heap.size→w'.heap[g]? = w.heap[g]?))(hF:∀ b∈F,b<w.heap.size→w'.heap[b]? = w.heap[b]?):gL R w' z g o v F l:=by
 obtain⟨lg,h1,h2,h3,h4⟩:=h;exact⟨lg,h1,h2.keep hg hs,fun p hp=>R.keep (h3 p hp) hs hF,fun b hb=>iC (h4 b hb) hs⟩
theorem eL.gr (h:eL R w z g e v F l)(k:Gr w w'):eL R w' z g e v F l:=h.keep k.size (.inr fun hl=>k.block g hl) (fun b _ hl=>k.block b hl)
theorem gL.gr (h:gL R w z g o v F l)(k:Gr w w'):gL R w' z g o v F l:=h.keep k.size (.inr fun hl=>k.block g hl) (fun b _ hl=>k.block b hl)
theorem eL.md (h:eL R w z g e v F l)(k:Md b w w')(hn:z=0∨g≠b)(hF:∀ x∈F,1=0∨x≠b):eL R w' z g e v F l:=h.keep (W9 k.size.symm) (hn.imp id fun hn _=>k.block g hn) (fun x hx _=>k.block x ((hF x hx).resolve_left bV))
theorem gL.md (h:gL R w z g o v F l)(k:Md b w w')(hn:z=0∨g≠b)(hF:∀ x∈F,1=0∨x≠b):gL R w' z g o v F l:=h.keep (W9 k.size.symm) (hn.imp id fun hn _=>k.block g hn) (fun x hx _=>k.block x ((hF x hx).resolve_left bV))
theorem eL.ka (h:eL R w z g e v F l)(k:Ka z' g' w w')(hn:z=0∨z'=0∨g≠g')(hF:∀ x∈F,z'=0∨x≠g'):eL R w' z g e v F l:=h.keep k.size (hn.imp id fun hn hl=>k.block g hl hn) (fun x hx hl=>k.block x hl (hF x hx))
theorem gL.ka (h:gL R w z g o v F l)(k:Ka z' g' w w')(hn:z=0∨z'=0∨g≠g')(hF:∀ x∈F,z'=0∨x≠g'):gL R w' z g o v F l:=h.keep k.size (hn.imp id fun hn hl=>k.block g hl hn) (fun x hx hl=>k.block x hl (hF x hx))
theorem eL.kz (h:eL R w z g e v F l)(k:Kz lz w w')(hn:z=0∨cY lz g)(hF:∀ x∈F,cY lz x):eL R w' z g e v F l:=h.keep k.size (hn.imp id fun hn hl=>k.block g hl hn) (fun x hx hl=>k.block x hl (hF x hx))
theorem gL.kz (h:gL R w z g o v F l)(k:Kz lz w w')(hn:z=0∨cY lz g)(hF:∀ x∈F,cY lz x):gL R w' z g o v F l:=h.keep k.size (hn.imp id fun hn hl=>k.block g hl hn) (fun x hx hl=>k.block x hl (hF x hx))
theorem eL.kp (h:eL R w z g e v F l)(k:Kp ms w w')(hn:z=0∨g∉ms)(hF:∀ x∈F,x∉ms):eL R w' z g e v F l:=h.keep k.size (hn.imp id fun hn hl=>k.block g hl hn) (fun x hx hl=>k.block x hl (hF x hx))
theorem gL.kp (h:gL R w z g o v F l)(k:Kp ms w w')(hn:z=0∨g∉ms)(hF:∀ x∈F,x∉ms):gL R w' z g o v F l:=h.keep k.size (hn.imp id fun hn hl=>k.block g hl hn) (fun x hx hl=>k.block x hl (hF x hx))
theorem eL.lth (h:eL R w z g e v F l):bQ (z=0∨(z=1∧g<w.heap.size)):=by obtain⟨lg,h1,h2,_⟩:=h;exact h2.lth
theorem gL.lth (h:gL R w z g o v F l):bQ (z=0∨(z=1∧g<w.heap.size)):=by obtain⟨lg,h1,h2,_⟩:=h;exact h2.lth
theorem eL.flt (h:eL R w z g e v F l):∀ b∈F,b<w.heap.size:=by obtain⟨lg,h1,h2,h3,h4,_⟩:=h;exact h4
theorem gL.flt (h:gL R w z g o v F l):∀ b∈F,b<w.heap.size:=by obtain⟨lg,h1,h2,h3,h4⟩:=h;exact h4
theorem eL.oneB (h:eL R w z g e v F l):Sx.oneB v=true:=by obtain⟨lg,h1,h2,_⟩:=h;exact h2.oneB
theorem gL.oneB (h:gL R w z g o v F l):Sx.oneB v=true:=by obtain⟨lg,h1,h2,_⟩:=h;exact h2.oneB
theorem Xju (R:Rp α)(w:World)(g:Nat)(e:TypeId):eL R w 0 g e (.slice none 0 0) [] []:=⟨[],rfl,cM w g e R.sz,nofun,nofun,.inl rfl⟩
theorem eL.z1 {i:Int}{a:α}(h:eL R w z g e v F l)(hg:bJ l i=some a):z=1:=by
 obtain⟨lg,h1,h2,_⟩:=h;rcases h2.2 with⟨_,_,h0⟩|⟨h0,_⟩
 · have:=rO hg;rw[←h1,List.map_eq_nil_iff.1 h0] at this;simp at this
 · exact h0
theorem Mp {β:Type}{lg:List (α × β)}(h:lg.map Prod.fst=l):lg.length=l.length:=by rw[←h,fJ]
theorem Qzl {β:Type}{lg:List (α × β)}{i:Int}{a:α}(h:lg.map Prod.fst=l)(hg:bJ l i=some a):∃ x,bJ lg i=some (a,x):=by
 have h0:=pQ hg;have h1:=rO hg;rw[←h,qS] at h1
 cases hx:lg[i.toNat]? with
 | none=>rw[hx] at h1;cases h1
 | some p=>
  rw[hx] at h1;have:p.1=a:=jB h1;exact⟨p.2,by unfold bJ;rw[aG h0,hx,←this]⟩
theorem gL.at {i:Int}{a:α}(h:gL R w z g o v F l)(hg:bJ l i=some a):∃ (lg:List (α × R.γ)) (x:R.γ),Rd w z g o R.sz v (lg.map R.c)∧bJ lg i=some (a,x)∧R.S w F (a,x):=by
 obtain⟨lg,h1,h2,h3,h4⟩:=h;obtain⟨x,hx⟩:=Qzl h1 hg;exact⟨lg,x,h2,hx,h3 _ (uA (rO hx))⟩
variable {P:Program} {L:Slots} {dst:Option Nat} {ty:TypeId} {pos:String} {af:Array Edge} {gu:Option (Nat × Bool)} {x y:Operand} {t:TypeId}
theorem Qr3 (hu:P.underlying t=some (.slice e))(hx:ev L x=some v)(hr:gL R w z g o v F l):VV P L ⟨dst,.call { callee:=.builtin .len,args := #[x],argTypes := #[t] },ty,pos,af,gu⟩ w (.int .i64 (l.length:Int)):=by
 obtain⟨lg,h1,h2,_⟩:=hr;exact Qr4 hu hx h2 (by rw[fJ,Mp h1])
theorem Qh2 {i:Int}{a:α}{kd:IntKind}(hu:P.underlying t=some (.slice e))(hs:iY P e R.sz)(hx:ev L x=some v)(hr:gL R w z g o v F l)(hy:ev L y=some (.int kd i))(hg:bJ l i=some a):
 VV P L ⟨dst,.indexAddr t x y,ty,pos,af,gu⟩ w (.pointer (some ⟨g,o+i.toNat*R.sz,none⟩)):=by
 obtain⟨lg,h1,h2,_⟩:=hr;exact Qr1 hu hs hx h2 (by rw[fJ,Mp h1]) hy (pQ hg) (xY hg)
theorem Qym {bytes z2 g2 o2:Nat}{u:Value}{m k:List α}{F2:List Nat}(ha:lC P t e R.sz bytes)(hx:ev L x=some v)(hy:ev L y=some u)(h:eL R w z g e v F l)(hr:gL R w z2 g2 o2 u F2 m)(hb:gI bytes l m=some k)(hpos:1≤bytes)(hF:∀ b∈F2,z=0∨b≠g):
 EV P L ⟨dst,.call { callee:=.builtin .append,args := #[x,y],argTypes := #[t,t] },ty,pos,af,gu⟩ w fun v' w'=>∃ z' g',eL R w' z' g' e v' (F++F2) k∧Ka z g w w'∧bQ (z'=0∨(z'=1∧g'<w'.heap.size))∧bQ ((g'=g∧z=1)∨w.heap.size≤g'∨z'=0):=by
 obtain⟨lg,h1,h2,h3,h4,h5⟩:=h;obtain⟨mg,m1,m2,m3,m4⟩:=hr;obtain⟨rfl,hb2⟩:=Qhu hb;have e1:gI bytes lg mg=some (lg++mg):=by unfold gI;rw[Mp h1,Mp m1,aG hb2]
 refine(lT ha hx hy h2 m2 e1 hpos).mono ?_;rintro v' w' ⟨z',g',q1,q2,q3,q4⟩;refine⟨z',g',⟨lg++mg,by rw[qB,h1,m1],q1,?_,?_,?_⟩,q2,q3,q4⟩
 · have kF:∀ b∈F++F2,b<w.heap.size→w'.heap[b]? = w.heap[b]? := fun b hb hl=>q2.block b hl (by
    rcases nO.1 hb with hb|hb
    · exact h5.imp id fun h5=>h5 b hb
    · exact hF b hb)
   intro p hp;rcases nO.1 hp with hp|hp
   · exact R.keep (R.mono (h3 p hp) fun b hb=>yR _ hb) q2.size kF
   · exact R.keep (R.mono (m3 p hp) fun b hb=>Sh _ hb) q2.size kF
 · intro b hb;rcases nO.1 hb with hb|hb
   · exact iC (h4 b hb) q2.size
   · exact iC (m4 b hb) q2.size
 · rcases q4.o with⟨rfl,hz⟩|hn|h0
   · refine .inr fun b hb=>?_;rcases nO.1 hb with hb|hb
     · exact(h5.resolve_left aQ) b hb
     · exact(hF b hb).resolve_left aQ
   · refine .inr fun b hb=>?_;rcases nO.1 hb with hb|hb
     · have:=h4 b hb;omega
     · have:=m4 b hb;omega
   · exact .inl h0
theorem T4 {len:Nat}{zs cs:List Value}{parts:Array (Nat × Operand)}{vs:List (Nat × Value)}(lg:List (α × R.γ))(hb:iO P t len e R.sz zs)(hp:zN L parts.toList=some vs)(hf:oO (fun i=>some (i*R.sz,R.sz)) zs vs=some cs)
 (hx:cs=(lg.map R.c).flatten) (hl:lg.length=len) (hm:Nat.ble len 1000000=true) (hS:∀ p∈lg,R.S w F p) (hF:∀ b∈F,b<w.heap.size):
 EV P L ⟨dst,.buildSlice t len parts,ty,pos,af,gu⟩ w fun v' w'=>∃ g',w.heap.size≤g'∧eL R w' 1 g' e v' F (lg.map Prod.fst)∧Gr w w':=by
 refine(eP lg R.c hb hp hf (fun y hy=>?_) hx hl hm).mono ?_
 · obtain⟨p,hp,rfl⟩:=fP.1 hy;exact R.ws (hS p hp)
 · rintro v' w' ⟨g',h1,h2,h3⟩;exact⟨g',h1,⟨lg,rfl,h2,fun p hp=>R.keep (hS p hp) h3.size (fun b _ hl=>h3.block b hl),fun b hb=>iC (hF b hb) h3.size,.inr fun b hb=>by have:=hF b hb;omega⟩,h3⟩
end
def mQ {α:Type}(sz:Nat)(c:α→List Value):Rp (List α) where
 γ:=Value
 sz:=1
 c p:=[p.2]
 S w F p:=∃ z g o,Rd w z g o sz p.2 (p.1.map c)∧(z=0∨g∈F)
 ws:=fun⟨z,g,o,h,_⟩=>⟨rfl,by simp[iD,h.oneB]⟩
 keep:=fun⟨z,g,o,h,hg⟩ hs hF=>⟨z,g,o,h.keep (hg.imp id fun hg hl=>hF g hg hl) hs,hg⟩
 mono:=fun⟨z,g,o,h,hg⟩ hF=>⟨z,g,o,h,hg.imp id fun hg=>hF g hg⟩
section
variable {α:Type} {R:Rp α} {w:World} {F F':List Nat} {l:List α} {v:Value}
end
section
variable {α β:Type} {w:World} {z g o k sz:Nat} {F:List Nat} {v:Value} {i:Int}
theorem Qbg {c:α→List Value}{l:List (List α)}{a:List α}(h:gL (mQ sz c) w z g o v F l)(hg:bJ l i=some a):∃ (lg:List (List α × Value)) (x:Value) (z' g' o':Nat),Rd w z g o 1 v (lg.map fun p=>[p.2])∧bJ lg i=some (a,x)∧Rd w z' g' o' sz x (a.map c)∧bQ (z'=0∨g'∈F):=by
 obtain⟨lg,x,h1,h2,z',g',o',h3,h4⟩:=h.at hg;exact⟨lg,x,z',g',o',h1,h2,h3,⟨h4⟩⟩
variable {R:Rp α} {l:List α} {a:α} {P:Program} {L:Slots} {dst:Option Nat} {ty:TypeId} {pos:String} {af:Array Edge} {gu:Option (Nat × Bool)} {x y:Operand} {t e:TypeId}
end
section
variable {A:Nat→Prop} {F F2 F3:List Nat} {z g n n2 x:Nat}
theorem Hs:∀ x∈([]:List Nat),A x:=nofun
theorem Xh (h1:∀ x∈F,A x)(h2:∀ x∈F2,A x):∀ x∈F++F2,A x:=fun x hx=>(nO.1 hx).elim (h1 x) (h2 x)
theorem Xi (h:z=0∨A g):∀ x∈zf z g,A x:=fun x hx=>by
 obtain⟨h1,rfl⟩:=vM.1 hx;exact h.resolve_left h1
theorem Qku (h:bQ (z=0∨g∈F))(hF:∀ x∈F,A x):z=0∨A g:=h.o.imp id (hF g)
def Pv (F:List Nat)(zs:List (Nat × Nat))(n x:Nat):Prop:=x∈F∨Mz zs x∨n≤x
theorem zL {zs:List (Nat × Nat)}(h:∀ x∈F,Pv F2 zs n x)(h1:∀ x∈F2,A x)(h2:∀ x,Mz zs x→A x)(h3:∀ x,n≤x→A x):∀ x∈F,A x:=fun x hx=>(h x hx).elim (h1 x) fun h=>h.elim (h2 x) (h3 x)
theorem Q1:∀ x,Mz [] x→A x:=nofun
theorem sU {w:World}(h:z=0∨(z=1∧g<w.heap.size)):∀ b∈zf z g,b<w.heap.size:=Xi (h.imp id And.right)
theorem Qoh {zs:List (Nat × Nat)}{F':List Nat}(h:z=0∨Mz zs g∨n≤g):z=0∨Pv F' zs n g:=h.imp id .inr
theorem rX (z g:Nat):z=0∨g∈zf z g:=by
 by_cases h:z=0
 · exact .inl h
 · exact .inr (vM.2 ⟨h,rfl⟩)
theorem Pr (h:z=0∨g∈F):z=0∨g∈F++F2:=h.imp id (yR _)
theorem Ps (h:z=0∨g∈F2):z=0∨g∈F++F2:=h.imp id (Sh _)
end
end Go.Sx

end
section
namespace Go.Sx
open Go Go.RowKit
def jE (b:Bool)(n:Nat)(ops:Array Oper)(L:Slots)(i:Nat):Option Oper:=
 match ops[i]? with
 | some o=>match gd ops L o with
  | some g=>bif (g == b)&&jL n o.dst then some o else none
  | none=>none
 | none=>none
theorem iE {b:Bool}{n:Nat}{ops:Array Oper}{L:Slots}{i:Nat}{o:Oper}(h:jE b n ops L i=some o):ops[i]? = some o∧gd ops L o=some b∧jL n o.dst=true:=by
 unfold jE at h
 split at h
 · rename_i o' ho
   split at h
   · rename_i g hg
     cases hc:(g == b)&&jL n o'.dst with
     | false=>rw[hc] at h;cases h
     | true=>
      rw[hc] at h;cases h;rw[fM] at hc;exact⟨ho,by rw[hg,wF.1 hc.1],hc.2⟩
   · cases h
 · cases h
def od:Nat→Nat→List (Nat × Nat)
 | 0,_=>[]
 | n+1,i=>(i,0)::od n (i+1)
theorem Qnq:∀ n i,(od n i).map (·.1)=List.range' i n
 | 0,_=>rfl
 | n+1,i=>by rw[od,qC,Qnq n (i+1)];rfl
theorem Qnr:∀ n i,((od n i).all fun x=>(rK x.2).isNone)=true
 | 0,_=>rfl
 | n+1,i=>by rw[od,V7,Qnr n (i+1)];rfl
section
variable {P:Program} {r:Option Nat} {n:Nat} {Q:Exit→List Deferred→Slots→World→Prop} {D:List Deferred} {L:Slots} {w:World}
theorem qr {id:Nat}{ops:Array Oper}(k:Nat)(hk:ops.size=k)(hnd:jK ops=true)(h:SD P n ops (fun L w=>Q .normal D L w) (fun _ _=>True) (fun _ _=>false) (od k 0) L w):SW P r n (.region id ops false) Q D L w:=
 Xh6 (od k 0) hnd (Qnr k 0) (by rw[Qnq,hk,Qaw]) h
theorem qsr {id:Nat}{ops:Array Oper}{y:Code}(k:Nat)(hk:ops.size=k)(hnd:jK ops=true)(h:SD P n ops (fun L w=>mZ (fun D L w=>SW P r n y Q D L w) Q .normal D L w) (fun _ _=>True) (fun _ _=>false) (od k 0) L w):SW P r n (.seq (.region id ops false) y) Q D L w:=
 aD (qr k hk hnd h)
theorem cnF {c:Operand}{x y:Code}{t:Bool}(hc:ev L c=some (.bool t))(hf:t=false→SW P r n y Q D L w)(ht:t=true→SW P r n x Q D L w):SW P r n (.cond c x y) Q D L w:=lY hc ht hf
theorem qj {x y:Code}{β:Type}(iV:List Nat)(dyn:β→Slots)(J:β→World→Prop)(h:SW P r n x (mZ (fun D1 L1 w1=>D1=D∧∃ b,nA (dyn b++nT iV L) L1∧J b w1) Q) D L w)(hk:∀ b w1,J b w1→SW P r n y Q D (dyn b++nT iV L) w1):SW P r n (.seq x y) Q D L w:=Xh3 iV dyn J hk h
end
theorem aR {A B:Slots}(h:nA A B:=by repeat' first|exact trivial|refine⟨rfl,?_⟩):nA A B:=h
section
variable {P:Program} {n:Nat} {ops:Array Oper} {Q:Slots→World→Prop} {rest:List (Nat × Nat)} {i:Nat} {dst:Option Nat} {op:Op} {ty:TypeId} {pos:String} {af:Array Edge} {gu:Option (Nat × Bool)} {L:Slots} {w:World}
theorem qv {v:Value}(hi:jE true n ops L i=some ⟨dst,op,ty,pos,af,gu⟩)(hv:VV P L ⟨dst,op,ty,pos,af,gu⟩ w v)(h:SD P n ops Q (fun _ _=>True) (fun _ _=>false) rest (dO dst v L) w):SD P n ops Q (fun _ _=>True) (fun _ _=>false) ((i,0)::rest) L w:=
 Ey (iE hi).1 (iE hi).2.1 (iE hi).2.2 hv h
theorem qe {R:Value→World→Prop}(hi:jE true n ops L i=some ⟨dst,op,ty,pos,af,gu⟩)(hv:EV P L ⟨dst,op,ty,pos,af,gu⟩ w R)(h:∀ v w',R v w'→SD P n ops Q (fun _ _=>True) (fun _ _=>false) rest (dO dst v L) w'):SD P n ops Q (fun _ _=>True) (fun _ _=>false) ((i,0)::rest) L w:=
 Qpi (iE hi).1 (iE hi).2.1 (iE hi).2.2 hv h
theorem qk (hi:jE false n ops L i=some ⟨dst,op,ty,pos,af,gu⟩)(h:SD P n ops Q (fun _ _=>True) (fun _ _=>false) rest (dO dst undef L) w):SD P n ops Q (fun _ _=>True) (fun _ _=>false) ((i,0)::rest) L w:=
 Xfo (iE hi).1 (iE hi).2.1 (iE hi).2.2 h
theorem qp {t:Bool}(hi:jE true n ops L i=some ⟨dst,op,ty,pos,af,gu⟩)(hv:VV P L ⟨dst,op,ty,pos,af,gu⟩ w (.bool t))(ht:t=true→SD P n ops Q (fun _ _=>True) (fun _ _=>false) rest (dO dst (.bool true) L) w)(hf:t=false→SD P n ops Q (fun _ _=>True) (fun _ _=>false) rest (dO dst (.bool false) L) w):SD P n ops Q (fun _ _=>True) (fun _ _=>false) ((i,0)::rest) L w:=
 Xfp (iE hi).1 (iE hi).2.1 (iE hi).2.2 hv ht hf
theorem qpF {t:Bool}(hi:jE true n ops L i=some ⟨dst,op,ty,pos,af,gu⟩)(hv:VV P L ⟨dst,op,ty,pos,af,gu⟩ w (.bool t))(hf:t=false→SD P n ops Q (fun _ _=>True) (fun _ _=>false) rest (dO dst (.bool false) L) w)(ht:t=true→SD P n ops Q (fun _ _=>True) (fun _ _=>false) rest (dO dst (.bool true) L) w):SD P n ops Q (fun _ _=>True) (fun _ _=>false) ((i,0)::rest) L w:=qp hi hv ht hf
theorem qt {R:Value→Nat→Prop}(hi:jE true n ops L i=some ⟨dst,op,ty,pos,af,gu⟩)(hv:∃ v o,(∀ w1,VV P L ⟨dst,op,ty,pos,af,gu⟩ w1 v)∧R v o)(h:∀ v o,R v o→SD P n ops Q (fun _ _=>True) (fun _ _=>false) rest (dO dst v L) w):SD P n ops Q (fun _ _=>True) (fun _ _=>false) ((i,0)::rest) L w:=by
 obtain⟨v,o,h1,h2⟩:=hv;exact qv hi (h1 w) (h v o h2)
variable {w₀:World} {mss:List (List Nat)} {ms:List Nat} {kp:Nat→Nat→Bool}
theorem qh {v:Value}(k:Nat)(hi:jE true n ops L i=some ⟨dst,op,ty,pos,af,gu⟩)(hm:mss[k]? = some ms)(hS:Kp ms w₀ w)(hv:∀ w,Kp ms w₀ w→VV P L ⟨dst,op,ty,pos,af,gu⟩ w v)(h:SD P n ops Q (eI mss w₀) kp rest (dO dst v L) w):SD P n ops Q (eI mss w₀) kp ((i,k+10)::rest) L w:=
 Bd k (iE hi).1 (iE hi).2.1 (iE hi).2.2 hm hS hv h
theorem qx (k:Nat)(hi:jE false n ops L i=some ⟨dst,op,ty,pos,af,gu⟩)(hm:mss[k]? = some ms)(hS:Kp ms w₀ w)(h:SD P n ops Q (eI mss w₀) kp rest (dO dst undef L) w):SD P n ops Q (eI mss w₀) kp ((i,k+10)::rest) L w:=
 Quu k (iE hi).1 (iE hi).2.1 (iE hi).2.2 hm hS h
theorem qq {t:Bool}(k:Nat)(hi:jE true n ops L i=some ⟨dst,op,ty,pos,af,gu⟩)(hm:mss[k]? = some ms)(hS:Kp ms w₀ w)(hv:∀ w,Kp ms w₀ w→VV P L ⟨dst,op,ty,pos,af,gu⟩ w (.bool t))(ht:t=true→SD P n ops Q (eI mss w₀) kp rest (dO dst (.bool true) L) w)(hf:t=false→SD P n ops Q (eI mss w₀) kp rest (dO dst (.bool false) L) w):SD P n ops Q (eI mss w₀) kp ((i,k+10)::rest) L w:=
 Qut k (iE hi).1 (iE hi).2.1 (iE hi).2.2 hm hS hv ht hf
theorem qqF {t:Bool}(k:Nat)(hi:jE true n ops L i=some ⟨dst,op,ty,pos,af,gu⟩)(hm:mss[k]? = some ms)(hS:Kp ms w₀ w)(hv:∀ w,Kp ms w₀ w→VV P L ⟨dst,op,ty,pos,af,gu⟩ w (.bool t))(hf:t=false→SD P n ops Q (eI mss w₀) kp rest (dO dst (.bool false) L) w)(ht:t=true→SD P n ops Q (eI mss w₀) kp rest (dO dst (.bool true) L) w):SD P n ops Q (eI mss w₀) kp ((i,k+10)::rest) L w:=qq k hi hm hS hv ht hf
theorem qz {R:Value→World→Prop}(l:List (Nat × Nat))(hi:jE true n ops L i=some ⟨dst,op,ty,pos,af,gu⟩)(hv:EV P L ⟨dst,op,ty,pos,af,gu⟩ w R)(hb:U6 (fun k ms=>kp k i=true→dB l (ms.map fun b=>(1,b)) w₀.heap.size) 0 mss)(h:∀ v w',R v w'→Kz l w w'∧SD P n ops Q (eI mss w₀) kp rest (dO dst v L) w'):SD P n ops Q (eI mss w₀) kp ((i,0)::rest) L w:=
 Quy l (iE hi).1 (iE hi).2.1 (iE hi).2.2 hv hb h
theorem qw {v:Value}(hi:jE true n ops L i=some ⟨dst,op,ty,pos,af,gu⟩)(hv:VV P L ⟨dst,op,ty,pos,af,gu⟩ w v)(h:SD P n ops Q (eI mss w₀) kp rest (dO dst v L) w):SD P n ops Q (eI mss w₀) kp ((i,0)::rest) L w:=
 Quw (iE hi).1 (iE hi).2.1 (iE hi).2.2 hv h
theorem qy (hi:jE false n ops L i=some ⟨dst,op,ty,pos,af,gu⟩)(h:SD P n ops Q (eI mss w₀) kp rest (dO dst undef L) w):SD P n ops Q (eI mss w₀) kp ((i,0)::rest) L w:=
 Quv (iE hi).1 (iE hi).2.1 (iE hi).2.2 h
end
theorem iT {p:Prop}[Decidable p]{α:Type}{a b:Option α}{r:α}(h:decide p=true)(hm:(if p then a else b)=some r):a=some r:=tO (iX h) hm
theorem iF {p:Prop}[Decidable p]{α:Type}{a b:Option α}{r:α}(h:decide p=false)(hm:(if p then a else b)=some r):b=some r:=tI (oX h) hm
def Qes:List Value→Nat→Option Value
 | [],_=>none
 | v::_,0=>some v
 | _::r,k+1=>Qes r k
theorem Qnf:∀ {l:List Value} {k:Nat} {v:Value},Qes l k=some v→l[k]? = some v
 | [],_,_,h=>by cases h
 | a::r,0,v,h=>h
 | a::r,k+1,v,h=>by rw[Qal];exact Qnf h
def Uk (L:Slots):Op→Option Value
 | .move x=>ev L x
 | .assign x=>ev L x
 | .extract x q=>match ev L x with
  | some (.tuple vs)=>Qes vs.toList q
  | _=>none
 | .pick c a b=>match ev L c with
  | some (.bool t)=>bif t then ev L a else ev L b
  | _=>none
 | _=>none
theorem Qog {P:Program}{L:Slots}{dst:Option Nat}{op:Op}{ty:TypeId}{pos:String}{af:Array Edge}{gu:Option (Nat × Bool)}{v:Value}(h:Uk L op=some v)(w:World):VV P L ⟨dst,op,ty,pos,af,gu⟩ w v:=by
 unfold Uk at h
 split at h
 · exact aA h
 · exact fX h
 · split at h
   · rename_i x q _ vs hx;exact Xih (vs:=vs.toList) (by rw[hx]) (Qnf h)
   · cases h
 · split at h
   · rename_i c a b _ t hc
     cases t with
     | true=>exact Xiy hc h
     | false=>exact Xix hc h
   · cases h
 · cases h
def Ky (n:Nat)(ops:Array Oper)(L:Slots)(i:Nat):Option (Option Nat × Value):=
 match ops[i]? with
 | some o=>match gd ops L o with
  | some true=>match Uk L o.op with
   | some v=>bif jL n o.dst then some (o.dst,v) else none
   | none=>none
  | _=>none
 | none=>none
theorem Qpx {n:Nat}{ops:Array Oper}{L:Slots}{i:Nat}{dst:Option Nat}{v:Value}(h:Ky n ops L i=some (dst,v)):∃ op ty pos af gu,ops[i]? = some ⟨dst,op,ty,pos,af,gu⟩∧gd ops L ⟨dst,op,ty,pos,af,gu⟩=some true∧jL n dst=true∧Uk L op=some v:=by
 unfold Ky at h
 split at h
 · rename_i o ho
   split at h
   · rename_i hg
     split at h
     · rename_i v' hv
       cases hc:jL n o.dst with
       | false=>rw[hc] at h;cases h
       | true=>
        rw[hc] at h;cases h;exact⟨_,_,_,_,_,ho,hg,hc,hv⟩
     · cases h
   · cases h
 · cases h
def Gf (ops:Array Oper)(k:Nat):Bool:=Nat.beq ops.size k&&jK ops
theorem Jm {ops:Array Oper}{k:Nat}(h:Gf ops k=true):ops.size=k∧jK ops=true:=by
 unfold Gf at h;rw[fM] at h;exact⟨Qb5 h.1,h.2⟩
section
variable {P:Program} {r:Option Nat} {n:Nat} {Q:Exit→List Deferred→Slots→World→Prop} {K:List Deferred→Slots→World→Prop} {D:List Deferred} {L:Slots} {w:World} {S:Nat→World→Prop} {kp:Nat→Nat→Bool}
theorem qd {id:Nat}{ops ops':Array Oper}{y:Code}(k:Nat)(hk:Gf ops k=true)(h:SD P n ops (fun L w=>mZ (fun D L w=>SW P r n y Q D L w) Q .normal D L w) (fun _ _=>True) (fun _ _=>false) (od k 0) L w):
 SD P n ops' (fun L w=>mZ (fun D L w=>SW P r n (.seq (.region id ops false) y) Q D L w) Q .normal D L w) S kp [] L w:=aX (qsr k (Jm hk).1 (Jm hk).2 h)
theorem qs {id:Nat}{ops:Array Oper}{y:Code}(k:Nat)(hk:Gf ops k=true)(h:SD P n ops (fun L w=>mZ (fun D L w=>SW P r n y Q D L w) Q .normal D L w) (fun _ _=>True) (fun _ _=>false) (od k 0) L w):SW P r n (.seq (.region id ops false) y) Q D L w:=
 qsr k (Jm hk).1 (Jm hk).2 h
theorem qg {id:Nat}{ops:Array Oper}(k:Nat)(hk:Gf ops k=true)(h:SD P n ops (fun L w=>Q .normal D L w) (fun _ _=>True) (fun _ _=>false) (od k 0) L w):SW P r n (.region id ops false) Q D L w:=
 qr k (Jm hk).1 (Jm hk).2 h
theorem qb {ops:Array Oper}{K:List Deferred→Slots→World→Prop}(h:Q .ret D L w):SD P n ops (fun L w=>mZ (fun D L w=>SW P r n .ret (mZ K Q) D L w) (mZ K Q) .normal D L w) S kp [] L w:=aX (aF (bA h))
theorem qu {y:Code}(h:SW P r n y Q D L w):SW P r n .skip (mZ (fun D L w=>SW P r n y Q D L w) Q) D L w:=eG (bY h)
end
section
variable {P:Program} {n:Nat} {ops:Array Oper} {Q:Slots→World→Prop} {rest:List (Nat × Nat)} {i:Nat} {dst:Option Nat} {op:Op} {ty:TypeId} {pos:String} {af:Array Edge} {gu:Option (Nat × Bool)} {L:Slots} {w w₀:World} {v:Value} {mss:List (List Nat)} {ms:List Nat} {kp:Nat→Nat→Bool}
theorem qm (h0:Ky n ops L i=some (dst,v))(h:SD P n ops Q (fun _ _=>True) (fun _ _=>false) rest (dO dst v L) w):SD P n ops Q (fun _ _=>True) (fun _ _=>false) ((i,0)::rest) L w:=by
 obtain⟨op,ty,pos,af,gu,h1,h2,h3,h4⟩:=Qpx h0;exact Ey h1 h2 h3 (Qog h4 w) h
theorem dn (k:Nat)(h0:Ky n ops L i=some (dst,v))(hm:mss[k]? = some ms)(hS:Kp ms w₀ w)(h:SD P n ops Q (eI mss w₀) kp rest (dO dst v L) w):SD P n ops Q (eI mss w₀) kp ((i,k+10)::rest) L w:=by
 obtain⟨op,ty,pos,af,gu,h1,h2,h3,h4⟩:=Qpx h0;exact Bd k h1 h2 h3 hm hS (fun w _=>Qog h4 w) h
theorem dm (k:Nat)(h0:Ky n ops L i=some (dst,v))(hm:mss[k]? = some ms)(h:SD P n ops Q (eI mss w₀) kp rest (dO dst v L) w₀):SD P n ops Q (eI mss w₀) kp ((i,k+10)::rest) L w₀:=dn k h0 hm (Kp.refl _ _) h
theorem dh {v:Value}(k:Nat)(hi:jE true n ops L i=some ⟨dst,op,ty,pos,af,gu⟩)(hm:mss[k]? = some ms)(hv:∀ w,Kp ms w₀ w→VV P L ⟨dst,op,ty,pos,af,gu⟩ w v)(h:SD P n ops Q (eI mss w₀) kp rest (dO dst v L) w₀):SD P n ops Q (eI mss w₀) kp ((i,k+10)::rest) L w₀:=
 qh k hi hm (Kp.refl _ _) hv h
theorem dx (k:Nat)(hi:jE false n ops L i=some ⟨dst,op,ty,pos,af,gu⟩)(hm:mss[k]? = some ms)(h:SD P n ops Q (eI mss w₀) kp rest (dO dst undef L) w₀):SD P n ops Q (eI mss w₀) kp ((i,k+10)::rest) L w₀:=
 qx k hi hm (Kp.refl _ _) h
end
section
variable {P:Program} {L:Slots} {w:World} {dst:Option Nat} {ty:TypeId} {pos:String} {af:Array Edge} {gu:Option (Nat × Bool)} {x y:Operand} {t:TypeId}
theorem bF {b' m:Nat}{tb:TypeId}{cs vs:List Value}(hs:gG P t m)(hx:ev L x=some (.pointer (some ⟨b',0,none⟩)))(hy:ev L y=some (.agg vs.toArray))(h1:iD vs=true)(hb:Bx w b' tb cs)(hm:vs.length=m)(hl:cs.length=m):
 EV P L ⟨dst,.store t x y,ty,pos,af,gu⟩ w fun _ w'=>Bx w' b' tb vs∧Md b' w w':=
 Hr hs.siz hx hy rfl hm h1 hb (by rw[hl,kN];exact Sn (eO _)) (by unfold iU;rw[List.take_zero,tK,kN,tQ aQ,List.append_nil])
end
theorem bM {w:World}:Kz [] w w:=Kz.refl _ _
section
variable {b z g z' g' s z1 g1 z2 g2 z3 g3:Nat}
theorem Q9 (r:bQ ((g'=g∧z=1)∨s≤g'∨z'=0))(h:z=0∨g≠b)(f:s≤b→False:=by omega):z'=0∨g'≠b:=lK (A:=(· ≠ b)) r h (fun x hx e=>f (e ▸ hx))
theorem cV (r:bQ (z=0∨s≤g))(f:s≤b→False:=by omega):z=0∨g≠b:=bI (A:=(· ≠ b)) r (fun x hx e=>f (e ▸ hx))
theorem eE (r:bQ (z=0∨(g=g1∧z1≠0)∨s≤g))(h1:z1=0∨g1≠b)(f:s≤b→False:=by omega):z=0∨g≠b:=cU (A:=(· ≠ b)) r h1 (fun x hx e=>f (e ▸ hx))
theorem Qfa (r:bQ (z=0∨(g=g1∧z1≠0)∨(g=g2∧z2≠0)∨(g=g3∧z3≠0)∨s≤g))(h1:z1=0∨g1≠b)(h2:z2=0∨g2≠b)(h3:z3=0∨g3≠b)(f:s≤b→False:=by omega):z=0∨g≠b:=rY (A:=(· ≠ b)) r h1 h2 h3 (fun x hx e=>f (e ▸ hx))
theorem aK (r:bQ (z=0∨(z=1∧g<s)))(f:b<s→False:=by omega):z=0∨g≠b:=R3 (A:=(· ≠ b)) r (fun x hx e=>f (e ▸ hx))
end
def rg:Nat→Nat→List Nat
 | _,0=>[]
 | a,n+1=>a::rg (a+1) n
theorem kG {w w':World}{p:Prop}(h:Gr w w')(k:p):Kz [] w w'∧p:=⟨Kz.ofGr h,k⟩
theorem kM {w w':World}{b:Nat}{p:Prop}(h:Md b w w')(k:p):Kz [(1,b)] w w'∧p:=⟨Kz.ofMd h,k⟩
theorem dw {P:Program}{r:Option Nat}{n:Nat}{Q:Exit→List Deferred→Slots→World→Prop}{D:List Deferred}{L:Slots}{w:World}{id:Nat}{ops:Array Oper}(mss:List (List Nat))(tab:List (Nat × List Nat))(t:Tz)
 (h:∀ w1,RowKit.Below w.heap.size w w1→w1.heap.size=w.heap.size→jI P n ops (fun L w=>Q .normal D L w) (eI mss w1) (Ml tab) t L w1) (hm:P.follows .mixedOrders=true:=by kernel_rfl) (hnd:jK ops=true:=by kernel_rfl) (hlen:t.len=ops.size:=by exact rfl)
 (ho:Te ops (Ml tab) t (Array.replicate ops.size false)=true:=by kernel_rfl):SW P r n (.region id ops true) Q D L w:=Xh2 mss tab t hm hnd hlen ho h
theorem eC {P:Program}{L:Slots}{w:World}{dst:Option Nat}{ty:TypeId}{pos:String}{af:Array Edge}{gu:Option (Nat × Bool)}{f:Nat}{aas:Array Operand}{at_:Array TypeId}{vs:List Value}{R:Value→World→Prop}(hen:En P f)(hargs:tC L aas.toList=some vs)
 (hc:Calls P f vs.toArray w fun e w'=>∃ v,e=.returned v∧R v w'):EV P L ⟨dst,.call { callee:=.value (.func f),args:=aas,argTypes:=at_ },ty,pos,af,gu⟩ w R:=mP hen hargs hc
theorem eB {P:Program}{n:Nat}{ops:Array Oper}{Q:Slots→World→Prop}{rest:List (Nat × Nat)}{i:Nat}{dst:Option Nat}{op:Op}{ty:TypeId}{pos:String}{af:Array Edge}{gu:Option (Nat × Bool)}{L:Slots}{w:World}{p:Prop}[Decidable p]{α:Type}{x₁ x₂:Option α}{r₁:α}(hm:(if p then x₁ else x₂)=some r₁)(hi:jE true n ops L i=some ⟨dst,op,ty,pos,af,gu⟩)(hv:VV P L ⟨dst,op,ty,pos,af,gu⟩ w (.bool (decide p)))(h1:decide p=true→x₁=some r₁→SD P n ops Q (fun _ _=>True) (fun _ _=>false) rest (dO dst (.bool true) L) w)(h2:decide p=false→x₂=some r₁→SD P n ops Q (fun _ _=>True) (fun _ _=>false) rest (dO dst (.bool false) L) w):SD P n ops Q (fun _ _=>True) (fun _ _=>false) ((i,0)::rest) L w:=qp hi hv (fun c=>h1 c (iT c hm)) (fun c=>h2 c (iF c hm))
theorem fG {P:Program}{n:Nat}{ops:Array Oper}{Q:Slots→World→Prop}{rest:List (Nat × Nat)}{i:Nat}{dst:Option Nat}{op:Op}{ty:TypeId}{pos:String}{af:Array Edge}{gu:Option (Nat × Bool)}{L:Slots}{w:World}{p:Prop}[Decidable p]{α:Type}{x₁ x₂:Option α}{r₁:α}(hm:(if p then x₁ else x₂)=some r₁)(hi:jE true n ops L i=some ⟨dst,op,ty,pos,af,gu⟩)(hv:VV P L ⟨dst,op,ty,pos,af,gu⟩ w (.bool (decide p)))(h2:decide p=false→x₂=some r₁→SD P n ops Q (fun _ _=>True) (fun _ _=>false) rest (dO dst (.bool false) L) w)(h1:decide p=true→x₁=some r₁→SD P n ops Q (fun _ _=>True) (fun _ _=>false) rest (dO dst (.bool true) L) w):SD P n ops Q (fun _ _=>True) (fun _ _=>false) ((i,0)::rest) L w:=qp hi hv (fun c=>h1 c (iT c hm)) (fun c=>h2 c (iF c hm))
theorem qqI {P:Program}{n:Nat}{ops:Array Oper}{Q:Slots→World→Prop}{rest:List (Nat × Nat)}{i:Nat}{dst:Option Nat}{op:Op}{ty:TypeId}{pos:String}{af:Array Edge}{gu:Option (Nat × Bool)}{L:Slots}{w:World}{w₀:World}{mss:List (List Nat)}{ms:List Nat}{kp:Nat→Nat→Bool}{p:Prop}[Decidable p]{α:Type}{x₁ x₂:Option α}{r₁:α}(hm:(if p then x₁ else x₂)=some r₁)(k:Nat)(hi:jE true n ops L i=some ⟨dst,op,ty,pos,af,gu⟩)(hk:mss[k]? = some ms)(hS:Kp ms w₀ w)(hv:∀ w,Kp ms w₀ w→VV P L ⟨dst,op,ty,pos,af,gu⟩ w (.bool (decide p)))(h1:decide p=true→x₁=some r₁→SD P n ops Q (eI mss w₀) kp rest (dO dst (.bool true) L) w)(h2:decide p=false→x₂=some r₁→SD P n ops Q (eI mss w₀) kp rest (dO dst (.bool false) L) w):SD P n ops Q (eI mss w₀) kp ((i,k+10)::rest) L w:=qq k hi hk hS hv (fun c=>h1 c (iT c hm)) (fun c=>h2 c (iF c hm))
theorem uV {P:Program}{n:Nat}{ops:Array Oper}{Q:Slots→World→Prop}{rest:List (Nat × Nat)}{i:Nat}{dst:Option Nat}{op:Op}{ty:TypeId}{pos:String}{af:Array Edge}{gu:Option (Nat × Bool)}{L:Slots}{w:World}{w₀:World}{mss:List (List Nat)}{ms:List Nat}{kp:Nat→Nat→Bool}{p:Prop}[Decidable p]{α:Type}{x₁ x₂:Option α}{r₁:α}(hm:(if p then x₁ else x₂)=some r₁)(k:Nat)(hi:jE true n ops L i=some ⟨dst,op,ty,pos,af,gu⟩)(hk:mss[k]? = some ms)(hS:Kp ms w₀ w)(hv:∀ w,Kp ms w₀ w→VV P L ⟨dst,op,ty,pos,af,gu⟩ w (.bool (decide p)))(h2:decide p=false→x₂=some r₁→SD P n ops Q (eI mss w₀) kp rest (dO dst (.bool false) L) w)(h1:decide p=true→x₁=some r₁→SD P n ops Q (eI mss w₀) kp rest (dO dst (.bool true) L) w):SD P n ops Q (eI mss w₀) kp ((i,k+10)::rest) L w:=qq k hi hk hS hv (fun c=>h1 c (iT c hm)) (fun c=>h2 c (iF c hm))
theorem dG {P:Program}{r:Option Nat}{n:Nat}{Q:Exit→List Deferred→Slots→World→Prop}{D:List Deferred}{L:Slots}{w:World}{c:Operand}{x y:Code}{p:Prop}[Decidable p]{α:Type}{x₁ x₂:Option α}{r₁:α}(hm:(if p then x₁ else x₂)=some r₁)(hc:ev L c=some (.bool (decide p)))(h1:decide p=true→x₁=some r₁→SW P r n x Q D L w)(h2:decide p=false→x₂=some r₁→SW P r n y Q D L w):SW P r n (.cond c x y) Q D L w:=lY hc (fun c=>h1 c (iT c hm)) (fun c=>h2 c (iF c hm))
theorem dM {P:Program}{r:Option Nat}{n:Nat}{Q:Exit→List Deferred→Slots→World→Prop}{D:List Deferred}{L:Slots}{w:World}{c:Operand}{x y:Code}{p:Prop}[Decidable p]{α:Type}{x₁ x₂:Option α}{r₁:α}(hm:(if p then x₁ else x₂)=some r₁)(hc:ev L c=some (.bool (decide p)))(h2:decide p=false→x₂=some r₁→SW P r n y Q D L w)(h1:decide p=true→x₁=some r₁→SW P r n x Q D L w):SW P r n (.cond c x y) Q D L w:=lY hc (fun c=>h1 c (iT c hm)) (fun c=>h2 c (iF c hm))
theorem sN {P:Program}{n:Nat}{ops:Array Oper}{Q:Slots→World→Prop}{rest:List (Nat × Nat)}{i:Nat}{dst:Option Nat}{op:Op}{ty:TypeId}{pos:String}{af:Array Edge}{gu:Option (Nat × Bool)}{L:Slots}{w:World}{c₁:Bool}{α:Type}{x₁ x₂:Option α}{r₁:α}(hm:(bif c₁ then x₁ else x₂)=some r₁)(hi:jE true n ops L i=some ⟨dst,op,ty,pos,af,gu⟩)(hv:VV P L ⟨dst,op,ty,pos,af,gu⟩ w (.bool c₁))(h1:c₁=true→x₁=some r₁→SD P n ops Q (fun _ _=>True) (fun _ _=>false) rest (dO dst (.bool true) L) w)(h2:c₁=false→x₂=some r₁→SD P n ops Q (fun _ _=>True) (fun _ _=>false) rest (dO dst (.bool false) L) w):SD P n ops Q (fun _ _=>True) (fun _ _=>false) ((i,0)::rest) L w:=qp hi hv (fun c=>h1 c (O7 c hm)) (fun c=>h2 c (O6 c hm))
theorem jS {P:Program}{n:Nat}{ops:Array Oper}{Q:Slots→World→Prop}{rest:List (Nat × Nat)}{i:Nat}{dst:Option Nat}{op:Op}{ty:TypeId}{pos:String}{af:Array Edge}{gu:Option (Nat × Bool)}{L:Slots}{w:World}{c₁:Bool}{α:Type}{x₁ x₂:Option α}{r₁:α}(hm:(bif c₁ then x₁ else x₂)=some r₁)(hi:jE true n ops L i=some ⟨dst,op,ty,pos,af,gu⟩)(hv:VV P L ⟨dst,op,ty,pos,af,gu⟩ w (.bool c₁))(h2:c₁=false→x₂=some r₁→SD P n ops Q (fun _ _=>True) (fun _ _=>false) rest (dO dst (.bool false) L) w)(h1:c₁=true→x₁=some r₁→SD P n ops Q (fun _ _=>True) (fun _ _=>false) rest (dO dst (.bool true) L) w):SD P n ops Q (fun _ _=>True) (fun _ _=>false) ((i,0)::rest) L w:=qp hi hv (fun c=>h1 c (O7 c hm)) (fun c=>h2 c (O6 c hm))
theorem qqC {P:Program}{n:Nat}{ops:Array Oper}{Q:Slots→World→Prop}{rest:List (Nat × Nat)}{i:Nat}{dst:Option Nat}{op:Op}{ty:TypeId}{pos:String}{af:Array Edge}{gu:Option (Nat × Bool)}{L:Slots}{w:World}{w₀:World}{mss:List (List Nat)}{ms:List Nat}{kp:Nat→Nat→Bool}{c₁:Bool}{α:Type}{x₁ x₂:Option α}{r₁:α}(hm:(bif c₁ then x₁ else x₂)=some r₁)(k:Nat)(hi:jE true n ops L i=some ⟨dst,op,ty,pos,af,gu⟩)(hk:mss[k]? = some ms)(hS:Kp ms w₀ w)(hv:∀ w,Kp ms w₀ w→VV P L ⟨dst,op,ty,pos,af,gu⟩ w (.bool c₁))(h1:c₁=true→x₁=some r₁→SD P n ops Q (eI mss w₀) kp rest (dO dst (.bool true) L) w)(h2:c₁=false→x₂=some r₁→SD P n ops Q (eI mss w₀) kp rest (dO dst (.bool false) L) w):SD P n ops Q (eI mss w₀) kp ((i,k+10)::rest) L w:=qq k hi hk hS hv (fun c=>h1 c (O7 c hm)) (fun c=>h2 c (O6 c hm))
theorem Tw {P:Program}{n:Nat}{ops:Array Oper}{Q:Slots→World→Prop}{rest:List (Nat × Nat)}{i:Nat}{dst:Option Nat}{op:Op}{ty:TypeId}{pos:String}{af:Array Edge}{gu:Option (Nat × Bool)}{L:Slots}{w:World}{w₀:World}{mss:List (List Nat)}{ms:List Nat}{kp:Nat→Nat→Bool}{c₁:Bool}{α:Type}{x₁ x₂:Option α}{r₁:α}(hm:(bif c₁ then x₁ else x₂)=some r₁)(k:Nat)(hi:jE true n ops L i=some ⟨dst,op,ty,pos,af,gu⟩)(hk:mss[k]? = some ms)(hS:Kp ms w₀ w)(hv:∀ w,Kp ms w₀ w→VV P L ⟨dst,op,ty,pos,af,gu⟩ w (.bool c₁))(h2:c₁=false→x₂=some r₁→SD P n ops Q (eI mss w₀) kp rest (dO dst (.bool false) L) w)(h1:c₁=true→x₁=some r₁→SD P n ops Q (eI mss w₀) kp rest (dO dst (.bool true) L) w):SD P n ops Q (eI mss w₀) kp ((i,k+10)::rest) L w:=qq k hi hk hS hv (fun c=>h1 c (O7 c hm)) (fun c=>h2 c (O6 c hm))
theorem dY {P:Program}{r:Option Nat}{n:Nat}{Q:Exit→List Deferred→Slots→World→Prop}{D:List Deferred}{L:Slots}{w:World}{c:Operand}{x y:Code}{c₁:Bool}{α:Type}{x₁ x₂:Option α}{r₁:α}(hm:(bif c₁ then x₁ else x₂)=some r₁)(hc:ev L c=some (.bool c₁))(h1:c₁=true→x₁=some r₁→SW P r n x Q D L w)(h2:c₁=false→x₂=some r₁→SW P r n y Q D L w):SW P r n (.cond c x y) Q D L w:=lY hc (fun c=>h1 c (O7 c hm)) (fun c=>h2 c (O6 c hm))
theorem nH {P:Program}{r:Option Nat}{n:Nat}{Q:Exit→List Deferred→Slots→World→Prop}{D:List Deferred}{L:Slots}{w:World}{c:Operand}{x y:Code}{c₁:Bool}{α:Type}{x₁ x₂:Option α}{r₁:α}(hm:(bif c₁ then x₁ else x₂)=some r₁)(hc:ev L c=some (.bool c₁))(h2:c₁=false→x₂=some r₁→SW P r n y Q D L w)(h1:c₁=true→x₁=some r₁→SW P r n x Q D L w):SW P r n (.cond c x y) Q D L w:=lY hc (fun c=>h1 c (O7 c hm)) (fun c=>h2 c (O6 c hm))
def Lk (n:Nat)(ops:Array Oper):Nat→List (Nat × Nat)→Slots→Option (List (Nat × Nat) × Slots)
 | 0,l,L=>some (l,L)
 | _+1,[],_=>none
 | _+1,(_,_+1)::_,_=>none
 | k+1,(i,0)::rest,L=>match jE false n ops L i with
  | some ⟨dst,_,_,_,_,_⟩=>Lk n ops k rest (dO dst undef L)
  | none=>match Ky n ops L i with
   | some (dst,v)=>Lk n ops k rest (dO dst v L)
   | none=>none
theorem qn {P:Program}{n:Nat}{ops:Array Oper}{Q:Slots→World→Prop}{w:World}:∀ {l l':List (Nat × Nat)} {L L':Slots} (k:Nat),Lk n ops k l L=some (l',L')→SD P n ops Q (fun _ _=>True) (fun _ _=>false) l' L' w→SD P n ops Q (fun _ _=>True) (fun _ _=>false) l L w
 | _,_,_,_,0,h,hh=>by cases h;exact hh
 | [],_,_,_,k+1,h,_=>by cases h
 | (_,_+1)::_,_,_,_,k+1,h,_=>by cases h
 | (i,0)::rest,_,L,_,k+1,h,hh=>by
  unfold Lk at h
  split at h
  · rename_i ho;exact qk ho (qn k h hh)
  · split at h
    · rename_i hm;exact qm hm (qn k h hh)
    · cases h
end Go.Sx

end
section
namespace Go.Sx
open Go Go.RowKit
theorem iL {a b:Bool}(ha:a=true)(hb:b=true):(a&&b)=true:=by rw[ha,hb];rfl
theorem Xcg {P:Program}{W:World}{r:Reach}{base:Nat}{t:TypeId}{v:Value}{k:IntKind}(hu:P.underlying t=some (.int k))(h:Cell.okWide P W r base t v):∃ n,v=.int k n∧k.has n:=by
 simp only[Cell.okWide,hu,Cell.ok] at h
 split at h<;>try (exact h.elim)
 all_goals first|(obtain⟨rfl,h⟩:=h;rename_i e;cases e;exact⟨_,rfl,h⟩)|simp_all
theorem Xcf {P:Program}{W:World}{r:Reach}{base:Nat}{t:TypeId}{v:Value}(hu:P.underlying t=some (.int .i64))(h:Cell.okWide P W r base t v):∃ n:Int,v=.int .i64 n ∧ -9223372036854775808≤n∧n≤9223372036854775807:=by
 obtain⟨n,h1,h2⟩:=Xcg hu h;simp only[IntKind.has,IntKind.min,IntKind.max,IntKind.bits,IntKind.signed] at h2;exact⟨n,h1,by simpa using h2.1,by simpa using h2.2⟩
end Go.Sx

end
section
namespace Go.Sx
open Go Go.RowKit
def gX (n:Int):Prop := -9223372036854775808≤n∧n≤9223372036854775807
section
variable {H:Type} {enc:TypeId × Value→H} {P:Program} {W:World} {fuel:Nat} {t e:TypeId} {cs:List Value} {x:DataW H × List MemPlace}
def Sz (P:Program)(t:TypeId)(d:DataW H):Prop:=∀ n∈d.weights P t,n≤reachBytes
abbrev Tr (enc:TypeId × Value→H)(P:Program)(W:World)(fuel:Nat)(t:TypeId)(cs:List Value)(x:DataW H × List MemPlace):Prop:=DataW.trod enc P W 0 (fun _=>true) true fuel t cs=some x
theorem gR (hu:P.underlying t=some (.int .i64))(h:Tr enc P W fuel t cs x):∃ n:Int,cs=[.int .i64 n]∧gX n:=by
 obtain⟨n,rfl,_,hw⟩:=DataW.trod_int hu h;simp[Lit.wf,IntKind.min,IntKind.max,IntKind.signed,IntKind.bits] at hw;exact⟨n,rfl,by unfold gX;omega⟩
theorem Qf3 (hu:P.underlying t=some (.int .u64))(h:Tr enc P W fuel t cs x):∃ n:BitVec 64,cs=[wv n]:=by
 obtain⟨n,rfl,_,hw⟩:=DataW.trod_int hu h;simp[Lit.wf,IntKind.min,IntKind.max,IntKind.signed,IntKind.bits] at hw;refine⟨wd n,?_⟩;show[Value.int .u64 n]=[Value.int .u64 (un (wd n))];rw[Az n aQ aQ]
theorem S3 (hu:P.underlying t=some (.int .u8))(h:Tr enc P W fuel t cs x):∃ n:BitVec 8,cs=[bv n]:=by
 obtain⟨n,rfl,_,hw⟩:=DataW.trod_int hu h;simp[Lit.wf,IntKind.min,IntKind.max,IntKind.signed,IntKind.bits] at hw;refine⟨Iy n,?_⟩;show[Value.int .u8 n]=[Value.int .u8 (aO (Iy n))];have:aO (Iy n)=n:=by unfold aO Iy;rw[Yd];omega
 rw[this]
theorem Qnv (hu:P.underlying t=some .bool)(h:Tr enc P W fuel t cs x):∃ b:Bool,cs=[.bool b]:=by
 obtain⟨b,rfl,_⟩:=DataW.trod_bool hu h;exact⟨b,rfl⟩
theorem Qzj {cs:List Value}{i:Nat}{v:Value}(h:(cs.drop (i*1)).take 1=[v]):cs[i]? = some v:=by
 have:((cs.drop (i*1)).take 1)[0]? = some v:=by rw[h];rfl
 simpa[wL,V9] using this
theorem Xcx (he:P.underlying e=some (.int .u8))(hc:P.cellsOf e=1){m n:Nat}{xs:List (DataW H × List MemPlace)}(hl:cs.length=n)(hx:xs.length=n)
 (h:∀ i,i<n→DataW.trod enc P W 0 (fun _=>true) true m e ((cs.drop (i*P.cellsOf e)).take (P.cellsOf e))=xs[i]?):∃ l:List (BitVec 8),l.length=n∧cs=(l.map lD).flatten:=by
 have key:∀ i,i<n→∃ b:BitVec 8,cs[i]? = some (bv b):=fun i hi=>by
  have h1:=h i hi;rw[hc] at h1;have:∃ y,xs[i]? = some y:=⟨xs[i],by simp[hx,hi]⟩;obtain⟨y,hy⟩:=this;rw[hy] at h1;obtain⟨b,hb⟩:=S3 he h1;exact⟨b,Qzj hb⟩
 refine⟨List.ofFn fun i:Fin n=>Classical.choose (key i.1 i.2),by simp,?_⟩
 have hf:∀ (l:List (BitVec 8)),(l.map lD).flatten=l.map bv:=by
  intro l
  induction l with
  | nil=>rfl
  | cons a l ih=>simp only[qC,pL,ih];rfl
 rw[hf];apply Qai;intro i;by_cases hi:i<n
 · rw[yL (key i hi)];simp[hi]
 · rw[Qam aQ,Qam (by simp;omega)]
theorem Qnw (hu:P.underlying t=some (.array 16 e))(he:P.underlying e=some (.int .u8))(hc:P.cellsOf e=1)(ht:P.cellsOf t=16)(h:Tr enc P W fuel t cs x):∃ p:W2,cs=kb p:=by
 obtain⟨xs,m,rfl,rfl,hl,hx,hf⟩:=DataW.trod_array hu h;obtain⟨l,h1,h2⟩:=Xcx he hc (hl.trans ht) hx hf;refine⟨ofB l,?_⟩;rw[Qmb,Xaa aQ,kI aQ];exact h2
theorem J2 {fs:Array Field}{parts:List (DataW H)}(hu:P.underlying t=some (.struct fs))(h:Sz P t (.agg parts)){i:Nat}{u:TypeId}{d:DataW H}(ht:(fs.toList.map (·.type))[i]? = some u)(hd:parts[i]? = some d):Sz P u d:=fun n hn=>
 h n (by simp only[DataW.weights,hu];exact DataW.weights_mem_each ht hd n hn)
theorem gH {fs:Array Field}{n:Nat}{xs:List (DataW H × List MemPlace)}(hf:∀ (i:Nat) (f:Field),fs[i]? = some f→DataW.trod enc P W 0 (fun _=>true) true n f.type ((cs.drop f.offset).take (P.cellsOf f.type))=xs[i]?){i o k:Nat}{u:TypeId}{f:Field}{y:DataW H × List MemPlace}
 (hi:fs[i]? = some f) (h1:f.type=u) (h2:f.offset=o) (h3:P.cellsOf u=k) (e:xs[i]? = some y):Tr enc P W n u ((cs.drop o).take k) y:=by
 subst h1;subst h2;subst h3;exact(hf i f hi).trans e
theorem oV {n m k o i:Nat}{xs:List (DataW H × List MemPlace)}(hf:∀ i,i<n→DataW.trod enc P W 0 (fun _=>true) true m e ((cs.drop (i*P.cellsOf e)).take (P.cellsOf e))=xs[i]?){y:DataW H × List MemPlace}(hi:i<n)(hk:P.cellsOf e=k)(ho:i*k=o)(ey:xs[i]? = some y):Tr enc P W m e ((cs.drop o).take k) y:=by
 subst hk;subst ho;exact(hf i hi).trans ey
theorem eH {cs a r:List Value}{o k:Nat}(h:(cs.drop o).take k=a)(hr:cs.drop (o+k)=r):cs.drop o=a++r:=by rw[←h,←hr,←rL,A5]
theorem tD {cs:List Value}{n:Nat}(h:cs.length=n):cs.drop n=[]:=tQ aQ
theorem eT {α:Type}{xs:List α}{n i:Nat}(h:xs.length=n)(hi:Nat.blt i n=true):∃ y,xs[i]? = some y:=⟨xs[i]'(by rw[h];exact qU hi),by simp⟩
theorem Qtg {w:World}{a:Addr}{n:Nat}{cs:List Value}(h:w.cells? 0 a n=some cs):cs.length=n∧∀ q u,cs[q]? = some u→w.cell? (a.add q)=some u:=by
 unfold World.cells? at h;rw[aG (Yw _)] at h;have hl:=mapM_some_length h;rw[A1] at hl;refine⟨hl,fun q u hq=>?_⟩;have hqn:q<n:=by rw[←hl];exact(jP.1 hq).1
 have:=mapM_some_get h q q (by simp[hqn]);rw[this];exact hq
theorem Mv {r:Reach}{base:Nat}{v:Value}(hu:(∃ fs,P.underlying t=some (.struct fs))∨∃ n e,P.underlying t=some (.array n e))(h:Value.okWide P W r base t v):∃ cs:List Value,v=.agg cs.toArray:=by
 unfold Value.okWide at h
 split at h
 · obtain⟨cs,rfl,_⟩:=h;exact⟨cs.toList,rfl⟩
 · obtain⟨cs,rfl,_⟩:=h;exact⟨cs.toList,rfl⟩
 · rename_i h1 h2;rcases hu with⟨fs,hu⟩|⟨n,e,hu⟩
   · exact absurd hu (h1 fs)
   · exact absurd hu (h2 n e)
theorem Xch {r:Reach}{base:Nat}{v:Value}(h1:∀ fs,P.underlying t≠some (.struct fs))(h2:∀ n e,P.underlying t≠some (.array n e))(h:Value.okWide P W r base t v):Cell.okWide P W r base t v:=by
 unfold Value.okWide at h
 split at h
 · rename_i h3;exact absurd h3 (h1 _)
 · rename_i h3;exact absurd h3 (h2 _ _)
 · exact h
theorem Qex {r:Reach}{base:Nat}{v:Value}(hu:P.underlying t=some (.int .i64))(h:Value.okWide P W r base t v):∃ n:Int,v=.int .i64 n∧gX n:=Xcf hu (Xch (by simp[hu]) (by simp[hu]) h)
theorem Fs (cs:List Value):(Value.agg cs.toArray).cells.toList=cs:=rfl
theorem Qth (a:Option Addr)(l c:Nat):(Value.slice a l c).cells.toList=[.slice a l c]:=rfl
theorem Q8 {α:Type}{c:α→List Value}{ok:α→Prop}{sz bytes:Nat}(hu:P.underlying t=some (.slice e))(hc:P.cellsOf e=sz)(hb:P.bytesOf e=bytes)(hpos:1≤sz)(hcs:∀ a,(c a).length=sz∧iD (c a)=true)
 (hel:∀ (fuel:Nat) (cs:List Value) (x:DataW H × List MemPlace),Tr enc P W fuel e cs x→∃ m:α,cs=c m∧ok m) (h:Tr enc P W fuel t cs x) (hw:Sz P t x.1):
 ∃ (l:List α) (v:Value) (z g o:Nat),cs=[v]∧Rd W z g o sz v (l.map c)∧(∀ a∈l,ok a)∧l.length*bytes≤140737488351232:=by
 rcases DataW.trod_slice hu h with⟨rfl,rfl⟩|⟨a,len,cap,elems,rest,n,rfl,rfl,rfl,_,hlc,hcm,hel2,hget,_,_⟩
 · exact⟨[],_,0,0,0,rfl,⟨Qhb _,.inl ⟨rfl,rfl,none,0,rfl⟩⟩,by simp,by simp⟩
 · have key:∀ i,i<len→∃ m:α,W.cells? 0 (a.add (i*sz)) sz=some (c m)∧ok m:=fun i hi=>by
    have h1:=hget i hi;rw[hc] at h1;have hy:elems[i]? = some elems[i]:=by simp
    rw[hy] at h1;rw[Option.bind_eq_some_iff] at h1;obtain⟨cs',h2,h3⟩:=h1;obtain⟨m,rfl,hm⟩:=hel _ _ _ h3;exact⟨m,h2,hm⟩
   let f:Fin len→α:=fun i=>Classical.choose (key i.1 i.2)
   have hf:∀ i (hi:i<len),W.cells? 0 (a.add (i*sz)) sz=some (c (f ⟨i,hi⟩))∧ok (f ⟨i,hi⟩):=fun i hi=>yL (key i hi)
   have hws:Ws sz ((List.ofFn f).map c):=fun y hy=>by
    obtain⟨b,_,rfl⟩:=fP.1 hy;exact hcs b
   have hbd:(List.ofFn f).length*bytes≤140737488351232:=by
    have:=hw ((elems.length+rest.length)*P.bytesOf e) (by simp[DataW.weights,hu]);rw[hb] at this;have h2:elems.length*bytes≤(elems.length+rest.length)*bytes:=gA _ aQ;have h3:reachBytes=140737488351232:=by decide
    rw[List.length_ofFn,←hel2];omega
   rcases rR len with h0|hp
   · refine⟨List.ofFn f,_,0,0,0,rfl,⟨hws,.inl ⟨rfl,?_,some a,cap,by rw[h0]⟩⟩,?_,hbd⟩
     · apply Qah;simp[h0]
     · intro b hb';obtain⟨i,rfl⟩:=List.mem_ofFn.1 hb';exact(hf i.1 i.2).2
   · have hcell:∀ j u,((List.ofFn f).map c).flatten[j]? = some u→W.cell? (a.add j)=some u:=fun j u hj=>by
      have hjl:j<len*sz:=by
       have h1:=(jP.1 hj).1;rw[hws.flat] at h1;simpa using h1
      have hq:j%sz<sz:=fR _ aQ;have hi:j / sz<len:=(Sp aQ).2 hjl;obtain⟨h1,_⟩:=hf (j / sz) hi;have h2:=hws.at (j / sz) (j%sz) (c (f ⟨j / sz,hi⟩)) (by simp[hi]) hq;have hdm:j / sz*sz+j%sz=j:=by rw[eZ];exact qM j sz
      rw[hdm,hj] at h2;have h3:=(Qtg h1).2 (j%sz) u h2.symm;rw[Addr.add_add,hdm] at h3;exact h3
     have hsp:a.spot=none:=by
      have h0:∃ u,((List.ofFn f).map c).flatten[0]? = some u:=by
       have:0<((List.ofFn f).map c).flatten.length:=by rw[hws.flat];simp;exact Yu hp aQ
       exact⟨_,tZ this⟩
      obtain⟨u,hu0⟩:=h0;simpa[Addr.add] using World.cell?_spot (hcell 0 u hu0)
     obtain⟨g,o,spot⟩:=a;simp only at hsp;subst hsp
     have dX:g<W.heap.size:=by
      have h0:∃ u,((List.ofFn f).map c).flatten[0]? = some u:=by
       have:0<((List.ofFn f).map c).flatten.length:=by rw[hws.flat];simp;exact Yu hp aQ
       exact⟨_,tZ this⟩
      obtain⟨u,hu0⟩:=h0;have h1:=hcell 0 u hu0;rcases jG g W.heap.size with h|h
      · exact h
      · simp[World.cell?,Addr.add,Array.getElem?_eq_none h] at h1
     refine⟨List.ofFn f,_,1,g,o,rfl,⟨hws,.inr ⟨rfl,cap,by simp,⟨dX,by simpa using hlc⟩,fun j u hj=>?_⟩⟩,?_,hbd⟩
     · have:=hcell j u hj;rw[Addr.add_lit] at this;exact this
     · intro b hb';obtain⟨i,rfl⟩:=List.mem_ofFn.1 hb';exact(hf i.1 i.2).2
end
end Go.Sx

end
section
namespace Go.Sx
open Go
def qW (x:BitVec 64)(s:Nat):BitVec 64:=x <<< s ||| x >>> (64-s)
def nC (p:W2)(k:BitVec 64):W2:=((qW p.1 56+p.2) ^^^ k,qW p.2 3 ^^^ ((qW p.1 56+p.2) ^^^ k))
def rH (p:W2)(k:BitVec 64):W2:=(qW ((p.1 ^^^ k)-qW (p.1 ^^^ p.2) 61) 8,qW (p.1 ^^^ p.2) 61)
def ks (k:W2):Nat→W2
 | 0=>k
 | i+1=>nC (ks k i) (wd (i:Int))
def mH (k b:W2):W2:=(List.range 32).foldl (fun p i=>nC p (ks k i).2) b
def blk (tag:Int)(c n:BitVec 64):W2:=(wd tag <<< 56 ||| c,n)
def cC (k:W2)(tag:Int)(n:BitVec 64):W2:=mH k (blk tag 0#64 n)
def Qy (k b:W2)(j:Nat):W2:=(List.range (32-j)).foldl (fun p i=>rH p (ks k (31-i)).2) b
def rU (k b:W2):W2:=Qy k b 0
def lg (a:Int):Int:=if a.toNat=0 then 0 else(Nat.log2 a.toNat:Int)+1
end Go.Sx

end
section
namespace Go.Sx
open Go
def wK {α:Type}(l:List α)(lo hi:Int):Option Nat:=if 0≤lo∧lo<hi∧hi≤l.length then some (hi-lo).toNat else none
def qQ (lo:Int)(n:Nat)(i:Int):Option Int:=if 0≤i∧i<(n:Int) then some (lo+i) else none
end Go.Sx

end
section
namespace Go.Sx
open Go Go.RowKit
section
variable {P:Program} {L:Slots} {w:World} {dst:Option Nat} {ty:TypeId} {pos:String} {af:Array Edge} {gu:Option (Nat × Bool)} {x y p q r:Operand} {t e:TypeId} {v:Value} {z g o sz:Nat} {α:Type} {l m:List α} {c:α→List Value} {lo hi:Int} {kl kh km:IntKind}
theorem M1 {n:Nat}(hl:wK l lo hi=some n):0≤lo:=by
 unfold wK at hl;split at hl
 · rename_i hh;exact hh.1
 · cases hl
theorem Xil {len:Nat}{i:Int}{k:IntKind}{a:α}{u:Value}{cs:List Value}(hu:P.underlying t=some (.array len e))(hs:iY P e 1)(h1:gV P e)(hx:ev L x=some (.agg cs.toArray))(hcs:cs=(l.map c).flatten)(hl:l.length=len)(hw:Ws 1 (l.map c))(hy:ev L y=some (.int k i))(hg:bJ l i=some a)(hc:c a=[u]):
 VV P L ⟨dst,.index t x y,ty,pos,af,gu⟩ w u:=fun ρ hρ=>by
 have h0:=pQ hg;have h2:=xY hg;have h2':i<(len:Int):=by omega
 have hp:(part e cs.toArray (i.toNat*1)).run P w=.ok u w:=by
  have hq:cs[i.toNat]? = some u:=by
   have:=Ws.at (sz:=1) i.toNat 0 (c a) hw (sQ (rO hg)) aQ;rw[hcs];rw[hc] at this;simpa using this
  have hq2:cs.toArray[i.toNat]? = some u:=by simpa using hq
  simp[part,(h1 w).1,hq2]
 rw[tW] at hp;refine nM ?_;rw[hρ _ _ hx,hρ _ _ hy];simp[Instr.index,run_underlying hu,asIntOf,h0,h2',hs w,hp]
end
end Go.Sx

end
section
namespace Go.Sx
open Go
def eM (x:BitVec 32):Int:=(x.toNat:Int)
def Iw (n:Int):BitVec 32:=BitVec.ofInt 32 n
def lZ (a b:BitVec 8):BitVec 8:=if b<a then b else a
end Go.Sx

end
