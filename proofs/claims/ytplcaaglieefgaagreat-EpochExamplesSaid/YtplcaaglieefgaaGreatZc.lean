/- Several texts in one: Mir MirB MirC MirD MirE MirF MirG Wd MirH MirI We MirJ MirK MirL Sq Row Opn Pln CaM CrM. -/
import Derived.Test.YtplcaaglieefgaaGreatZb
import Derived.Laws.MakeOwn
import Derived.Laws.Slices
import Derived.Laws.IdiomStrings
import Derived.Laws.Strings
import Derived.Laws.IdiomCopy
import Derived.Laws.IdiomRangeMap
import Derived.ControlIn
import Derived.Laws.CopyRow
import Derived.Test.YtplcaaglieefgaaGreatRows
import Derived.ProofKit
import Derived.OpenShut
import Derived.ShutString
import Derived.ChangeOld
import Derived.Below
import Derived.Carry
import Derived.SizedLaws
set_option linter.unusedVariables false
set_option linter.unusedSimpArgs false
set_option maxRecDepth 100000
section
namespace Go.Sx
open Go Go.RowKit
abbrev aS (n:Int):Int:=IntKind.i64.wrap n
def bA:Nat:=18446744073709551616
def bP {σ R:Type}(F:(σ→Option R)→σ→Option R)(n:Nat):σ→Option R:=Nat.rec (fun _=>none) (fun _ ih s=>F ih s) n
theorem rM {σ R:Type}(F:(σ→Option R)→σ→Option R)(n:Nat)(s:σ):bP F (n+1) s=F (bP F n) s:=rfl
theorem dC {σ R:Type}{F:(σ→Option R)→σ→Option R}{n:Nat}{s:σ}{r:R}(h:bP F n s=some r):∃ m,n=m+1∧F (bP F m) s=some r:=by
 cases n with
 | zero=>cases h
 | succ m=>exact⟨m,rfl,h⟩
theorem aJ {α β:Type}{o:Option α}{f:α→Option β}{r:β}(h:Option.bind o f=some r):∃ a,o=some a∧f a=some r:=by
 cases o with
 | none=>cases h
 | some a=>exact⟨a,rfl,h⟩
theorem oK {β:Type}{c:Prop}[Decidable c]{a b:Option β}{r:β}(hc:c)(h:(if c then a else b)=some r):a=some r:=by rwa[if_pos hc] at h
theorem oJ {β:Type}{c:Prop}[Decidable c]{a b:Option β}{r:β}(hc:¬ c)(h:(if c then a else b)=some r):b=some r:=by rwa[if_neg hc] at h
theorem vR {β:Type}{c:Bool}{a b:Option β}{r:β}(hc:c=true)(h:(bif c then a else b)=some r):a=some r:=by rw[hc] at h;exact h
theorem vF {β:Type}{c:Bool}{a b:Option β}{r:β}(hc:c=false)(h:(bif c then a else b)=some r):b=some r:=by rw[hc] at h;exact h
def cL {α:Type}(l:List α)(i:Int):Option α:=if 0≤i then l[i.toNat]? else none
theorem oX {α:Type}{l:List α}{i:Int}{a:α}(h:cL l i=some a):0≤i:=by unfold cL at h;split at h<;>first|assumption|cases h
theorem nX {α:Type}{l:List α}{i:Int}{a:α}(h:cL l i=some a):l[i.toNat]? = some a:=by unfold cL at h;split at h<;>first|assumption|cases h
theorem rU {α:Type}{l:List α}{i:Int}{a:α}(h:cL l i=some a):i<l.length:=by
 have:=(List.getElem?_eq_some_iff.1 (nX h)).1;have:=oX h;omega
def gL {α:Type}(b:Nat)(l m:List α):Option (List α):=if(l.length+m.length)*b≤140737488355328 then some (l++m) else none
theorem Nc {α:Type}{b:Nat}{l m k:List α}(h:gL b l m=some k):k=l++m∧(l.length+m.length)*b≤140737488355328:=by
 unfold gL at h;split at h
 · exact⟨(Option.some.inj h).symm,‹_›⟩
 · cases h
def rO {α:Type}(b:Nat)(n:Int)(z:α):Option (List α):=if 0≤n∧n*b≤140737488355328 then some (List.replicate n.toNat z) else none
theorem Uq {α:Type}{b:Nat}{n:Int}{z:α}{k:List α}(h:rO b n z=some k):k=List.replicate n.toNat z∧0≤n∧n*b≤140737488355328:=by
 unfold rO at h;split at h
 · rename_i h1;exact⟨(Option.some.inj h).symm,h1⟩
 · cases h
def sG {α:Type}(l:List α)(lo hi:Int):Option (List α):=if 0≤lo∧lo≤hi∧hi≤l.length then some ((l.take hi.toNat).drop lo.toNat) else none
theorem Av {α:Type}{l k:List α}{lo hi:Int}(h:sG l lo hi=some k):k=(l.take hi.toNat).drop lo.toNat∧0≤lo∧lo≤hi∧hi≤l.length:=by
 unfold sG at h;split at h
 · rename_i h1;exact⟨(Option.some.inj h).symm,h1⟩
 · cases h
def lT (a b:Int):Option Int:=if b=0 then none else some (aS (a.tdiv b))
def iW (a b:Int):Option Int:=if b=0 then none else some (a.tmod b)
def kV {n:Nat}(a b:BitVec n):Option (BitVec n):=if b=BitVec.ofNat n 0 then none else some (a%b)
def fD (n:Int):Option Nat:=if 0≤n then some n.toNat else none
theorem L4 {n:Int}{k:Nat}(h:fD n=some k):0≤n∧n.toNat=k:=by
 unfold fD at h;split at h
 · rename_i h1;exact⟨h1,Option.some.inj h⟩
 · cases h
def iP (a:Int)(n:Nat):Int:=aS (a*2^min n 64)
def oL (a:Int)(n:Nat):Int:=a / 2^min n 64
def yS (op:BinOp)(a b:Int):Int:=bits op .i64 a b
def bD (x:BitVec 8):Int:=(x.toNat:Int)
abbrev bv (x:BitVec 8):Value:=.int .u8 (bD x)
theorem gE (x:BitVec 8):0≤bD x:=by unfold bD;omega
theorem gU (x:BitVec 8):bD x≤255:=by unfold bD;have:=x.isLt;omega
theorem Tv {x y:BitVec 8}(h:bD x=bD y):x=y:=by apply BitVec.eq_of_toNat_eq;unfold bD at h;omega
def eZ (n:Int):BitVec 8:=BitVec.ofInt 8 n
abbrev ic (n:Int):List Value:=[.int .i64 n]
abbrev gO (x:BitVec 64):List Value:=[wv x]
abbrev bF (x:BitVec 8):List Value:=[bv x]
abbrev k0:W2:=(0#64,0#64)
section
variable {P:Program} {L:Slots} {w:World} {dst:Option Nat} {ty:TypeId} {pos:String} {af:Array Edge} {gu:Option (Nat × Bool)} {x y:Operand} {t u:TypeId} {a b:Int}
theorem nW {c:Int}(hx:ev L x=some (.int .i64 a))(hy:ev L y=some (.int .i64 b))(h:lT a b=some c):VV P L ⟨dst,.binOp .quo t x y u,ty,pos,af,gu⟩ w (.int .i64 c):=fun ρ hρ=>by
 unfold lT at h
 split at h
 · cases h
 · rename_i hd;cases h;simp[execOp,hρ _ _ hx,hρ _ _ hy,go_sem,Op.intDiv,hd]
theorem kP {c:Int}(hx:ev L x=some (.int .i64 a))(hy:ev L y=some (.int .i64 b))(h:iW a b=some c):VV P L ⟨dst,.binOp .rem t x y u,ty,pos,af,gu⟩ w (.int .i64 c):=fun ρ hρ=>by
 unfold iW at h
 split at h
 · cases h
 · rename_i hd;cases h;simp[execOp,hρ _ _ hx,hρ _ _ hy,go_sem,Op.intDiv,hd]
theorem vW {yk:IntKind}{n:Nat}(hx:ev L x=some (.int .i64 a))(hy:ev L y=some (.int yk b))(h:fD b=some n):VV P L ⟨dst,.binOp .shl t x y u,ty,pos,af,gu⟩ w (.int .i64 (iP a n)):=by
 obtain⟨h1,rfl⟩:=L4 h;exact Gp hx hy h1
theorem F5 {yk:IntKind}{n:Nat}(hx:ev L x=some (.int .i64 a))(hy:ev L y=some (.int yk b))(h:fD b=some n):VV P L ⟨dst,.binOp .shr t x y u,ty,pos,af,gu⟩ w (.int .i64 (oL a n)):=by
 obtain⟨h1,rfl⟩:=L4 h;exact Kc hx hy h1
theorem F4 {yk:IntKind}{n:Nat}{c:BitVec 64}(hx:ev L x=some (wv c))(hy:ev L y=some (.int yk b))(h:fD b=some n):VV P L ⟨dst,.binOp .shl t x y u,ty,pos,af,gu⟩ w (wv (c <<< n)):=by
 obtain⟨h1,rfl⟩:=L4 h;exact yV hx hy h1
theorem yJ {yk:IntKind}{n:Nat}{c:BitVec 64}(hx:ev L x=some (wv c))(hy:ev L y=some (.int yk b))(h:fD b=some n):VV P L ⟨dst,.binOp .shr t x y u,ty,pos,af,gu⟩ w (wv (c >>> n)):=by
 obtain⟨h1,rfl⟩:=L4 h;exact F7 hx hy h1
theorem Qa2 {op:BinOp}(hop:op=.and∨op=.or∨op=.xor∨op=.andNot)(hx:ev L x=some (.int .i64 a))(hy:ev L y=some (.int .i64 b)):VV P L ⟨dst,.binOp op t x y u,ty,pos,af,gu⟩ w (.int .i64 (yS op a b)):=vX hop hx hy
variable {c d:BitVec 64} {p q:BitVec 8}
theorem Tx:un c=un d↔c=d:=⟨Ju,fun h=>by rw[h]⟩
theorem Ow:bD p=bD q↔p=q:=⟨Tv,fun h=>by rw[h]⟩
theorem nM {p q:Prop}[Decidable p][Decidable q](h:p↔q):Value.bool (decide p)=.bool (decide q):=by simp[h]
theorem Gb:un c<un d↔c<d:=by unfold un;rw[BitVec.lt_def];omega
theorem Ga:un c≤un d↔c≤d:=by unfold un;rw[BitVec.le_def];omega
theorem Tw:bD p<bD q↔p<q:=by unfold bD;rw[BitVec.lt_def];omega
theorem vV (hx:ev L x=some (wv c))(hy:ev L y=some (wv d)):VV P L ⟨dst,.binOp .eql t x y u,ty,pos,af,gu⟩ w (.bool (decide (c=d))):=eX (eT hx hy) (nM Tx)
theorem S9 (hx:ev L x=some (wv c))(hy:ev L y=some (wv d)):VV P L ⟨dst,.binOp .neq t x y u,ty,pos,af,gu⟩ w (.bool (decide (c≠d))):=eX (cP hx hy) (nM (not_congr Tx))
theorem sB (hx:ev L x=some (wv c))(hy:ev L y=some (wv d)):VV P L ⟨dst,.binOp .lss t x y u,ty,pos,af,gu⟩ w (.bool (decide (c<d))):=eX (cU hx hy) (nM Gb)
theorem Qag (hx:ev L x=some (wv c))(hy:ev L y=some (wv d)):VV P L ⟨dst,.binOp .leq t x y u,ty,pos,af,gu⟩ w (.bool (decide (c≤d))):=eX (lQ hx hy) (nM Ga)
theorem S6 (hx:ev L x=some (wv c))(hy:ev L y=some (wv d)):VV P L ⟨dst,.binOp .gtr t x y u,ty,pos,af,gu⟩ w (.bool (decide (d<c))):=eX (eA hx hy) (nM Gb)
theorem yX (hx:ev L x=some (wv c))(hy:ev L y=some (wv d)):VV P L ⟨dst,.binOp .geq t x y u,ty,pos,af,gu⟩ w (.bool (decide (d≤c))):=eX (eU hx hy) (nM Ga)
theorem jV (hx:ev L x=some (bv p))(hy:ev L y=some (bv q)):VV P L ⟨dst,.binOp .eql t x y u,ty,pos,af,gu⟩ w (.bool (decide (p=q))):=eX (eT hx hy) (nM Ow)
theorem vY (hx:ev L x=some (bv p))(hy:ev L y=some (bv q)):VV P L ⟨dst,.binOp .lss t x y u,ty,pos,af,gu⟩ w (.bool (decide (p<q))):=eX (cU hx hy) (nM Tw)
theorem Gi (hx:ev L x=some (bv p))(hy:ev L y=some (bv q)):VV P L ⟨dst,.binOp .gtr t x y u,ty,pos,af,gu⟩ w (.bool (decide (q<p))):=eX (eA hx hy) (nM Tw)
theorem Gh (hx:ev L x=some (bv p))(hy:ev L y=some (bv q)):VV P L ⟨dst,.binOp .add t x y u,ty,pos,af,gu⟩ w (bv (p+q)):=eX (cC hx hy) (by
 have:IntKind.u8.wrap (bD p+bD q)=(bD p+bD q)%256:=by simp[IntKind.wrap,IntKind.bits,IntKind.signed]
 rw[this];show Value.int .u8 _=Value.int .u8 (bD (p+q));refine congrArg (Value.int .u8) ?_;unfold bD;rw[BitVec.toNat_add];omega)
theorem lL {e:BitVec 64}(hx:ev L x=some (wv c))(hy:ev L y=some (wv d))(h:kV c d=some e):VV P L ⟨dst,.binOp .rem t x y u,ty,pos,af,gu⟩ w (wv e):=by
 unfold kV at h
 split at h
 · cases h
 · rename_i hd;cases h
   have h0:0<un d:=by
    have:=S2 d;rcases Int.lt_or_eq_of_le this with h|h
    · exact h
    · exact absurd (Ju (show un d=un 0#64 from by rw[←h];rfl)) hd
   exact eX (Qan hx hy (S2 c) h0) (congrArg (Value.int .u64) (by unfold un;rw[BitVec.toNat_umod];exact(Int.natCast_emod _ _).symm))
theorem qZ {s d:TypeId}(hc:CV P s d .i64)(hx:ev L x=some (wv c)):VV P L ⟨dst,.convert s d x,ty,pos,af,gu⟩ w (.int .i64 (aS (un c))):=oF hc hx
theorem yQ {s d:TypeId}(hc:CV P s d .i64)(hx:ev L x=some (bv p)):VV P L ⟨dst,.convert s d x,ty,pos,af,gu⟩ w (.int .i64 (bD p)):=oR hc hx (by have:=gE p;omega) (by have:=gU p;omega)
theorem gD {s d:TypeId}(hc:CV P s d .u64)(hx:ev L x=some (.int .i64 a)):VV P L ⟨dst,.convert s d x,ty,pos,af,gu⟩ w (wv (wd a)):=eX (oF hc hx) (by
 rw[IntKind.wrap_u64];show Value.int .u64 _=Value.int .u64 (un (wd a));refine congrArg (Value.int .u64) ?_;unfold un wd;rw[BitVec.toNat_ofInt];omega)
theorem vJ {s d:TypeId}(hc:CV P s d .u64)(hx:ev L x=some (bv p)):VV P L ⟨dst,.convert s d x,ty,pos,af,gu⟩ w (wv (p.setWidth 64)):=eX (oF hc hx) (by
 have:=gE p;have:=gU p
 rw[IntKind.wrap_u64,Int.emod_eq_of_lt (by omega) (by omega)];show Value.int .u64 _=Value.int .u64 (un (p.setWidth 64));refine congrArg (Value.int .u64) ?_;unfold bD un;rw[BitVec.toNat_setWidth,Nat.mod_eq_of_lt (by have:=p.isLt;omega)])
theorem Jz {s d:TypeId}(hc:CV P s d .u8)(hx:ev L x=some (wv c)):VV P L ⟨dst,.convert s d x,ty,pos,af,gu⟩ w (bv (c.setWidth 8)):=eX (Jw hc hx) (by
 show Value.int .u8 _=Value.int .u8 (bD (c.setWidth 8));refine congrArg (Value.int .u8) ?_;unfold bD un;rw[BitVec.toNat_setWidth];omega)
theorem Jy {s d:TypeId}(hc:CV P s d .u8)(hx:ev L x=some (.int .i64 a)):VV P L ⟨dst,.convert s d x,ty,pos,af,gu⟩ w (bv (eZ a)):=eX (oF hc hx) (by
 have:IntKind.u8.wrap a=a%256:=by simp[IntKind.wrap,IntKind.bits,IntKind.signed]
 rw[this];show Value.int .u8 _=Value.int .u8 (bD (eZ a));refine congrArg (Value.int .u8) ?_;unfold bD eZ;rw[BitVec.toNat_ofInt];omega)
end
section
variable {P:Program} {L:Slots} {w:World} {dst:Option Nat} {ty:TypeId} {pos:String} {af:Array Edge} {gu:Option (Nat × Bool)}
variable {x y:Operand} {t:TypeId} {z g o sz:Nat} {e:TypeId} {v:Value} {k:IntKind} {α:Type} {l:List α} {c:α→List Value} {a:α} {i:Int}
theorem cB (hu:P.underlying t=some (.slice e))(hx:ev L x=some v)(hr:Rd w z g o sz v (l.map c)):VV P L ⟨dst,.call { callee:=.builtin .len,args := #[x],argTypes := #[t] },ty,pos,af,gu⟩ w (.int .i64 (l.length:Int)):=Qaf hu hx hr (List.length_map ..)
theorem fK (hu:P.underlying t=some (.slice e))(hs:fO P e sz)(hx:ev L x=some v)(hr:Rd w z g o sz v (l.map c))(hy:ev L y=some (.int k i))(hg:cL l i=some a):
 VV P L ⟨dst,.indexAddr t x y,ty,pos,af,gu⟩ w (.pointer (some ⟨g,o+i.toNat*sz,none⟩)):=Qac hu hs hx hr (List.length_map ..) hy (oX hg) (rU hg)
theorem kW {p q:Nat}{u:Value}(h1:fV P t)(hx:ev L x=some (.pointer (some ⟨g,p,none⟩)))(hr:Rd w z g o sz v (l.map c))(hg:cL l i=some a)(hp:p=o+(i.toNat*sz+q))(hc:(c a)[q]? = some u):VV P L ⟨dst,.load t x,ty,pos,af,gu⟩ w u:=
 Qa3 h1 hx hr (mY (nX hg)) hp hc
theorem iN {p:Nat}(h1:eG P t sz)(hx:ev L x=some (.pointer (some ⟨g,p,none⟩)))(hr:Rd w z g o sz v (l.map c))(hg:cL l i=some a)(hp:p=o+i.toNat*sz):VV P L ⟨dst,.load t x,ty,pos,af,gu⟩ w (.agg (c a).toArray):=
 Qa5 h1 hx hr (mY (nX hg)) hp
theorem hC {bytes z2 g2 o2:Nat}{u:Value}{m k:List α}(ha:jL P t e sz bytes)(hx:ev L x=some v)(hy:ev L y=some u)(h:aK w z g e sz v (l.map c))(hr:Rd w z2 g2 o2 sz u (m.map c))(hb:gL bytes l m=some k)(hpos:1≤bytes):
 EV P L ⟨dst,.call { callee:=.builtin .append,args := #[x,y],argTypes := #[t,t] },ty,pos,af,gu⟩ w fun v' w'=>∃ z' g',aK w' z' g' e sz v' (k.map c)∧Ka z g w w'∧bJ (z'=0∨(z'=1∧g'<w'.heap.size))∧bJ ((g'=g∧z=1)∨w.heap.size≤g'∨z'=0):=by
 obtain⟨rfl,hb2⟩:=Nc hb;have hle:l.length+m.length≤(l.length+m.length)*bytes:=Nat.le_mul_of_pos_right _ hpos;refine(Ch ha hx hy h hr (by rw[List.length_map,List.length_map];exact hb2) (by rw[List.length_map,List.length_map];omega)).mono ?_;rintro v' w' ⟨z',g',h1,h2,h3,h4,h5⟩;exact⟨z',g',by rw[List.map_append];exact h1,h2,⟨h3⟩,⟨h4⟩⟩
theorem eK {len:Nat}{zs cs:List Value}{parts:Array (Nat × Operand)}{vs:List (Nat × Value)}(l:List α)(c:α→List Value)(hb:iL P t len e sz zs)(hp:rS L parts.toList=some vs)(hf:kZ (fun i=>some (i*sz,sz)) zs vs=some cs)
 (hw:Ws sz (l.map c)) (hx:cs=(l.map c).flatten) (hl:l.length=len) (hm:Nat.ble len 1000000=true):
 EV P L ⟨dst,.buildSlice t len parts,ty,pos,af,gu⟩ w fun v' w'=>∃ g',w.heap.size≤g'∧aK w' 1 g' e sz v' (l.map c)∧Gr w w':=Ci hb hp hf hw hx (by rw[List.length_map];exact hl) hm
theorem Ws.take {sz n:Nat}{xs:List (List Value)}(h:Ws sz xs):Ws sz (xs.take n):=fun y hy=>h y (List.mem_of_mem_take hy)
theorem Ws.drop {sz n:Nat}{xs:List (List Value)}(h:Ws sz xs):Ws sz (xs.drop n):=fun y hy=>h y (List.mem_of_mem_drop hy)
theorem Qo {sz:Nat}:∀ (n:Nat) (xs:List (List Value)),Ws sz xs→(xs.drop n).flatten=xs.flatten.drop (n*sz)
 | 0,xs,_=>by simp
 | n+1,[],_=>by simp
 | n+1,x::xs,h=>by
  have hx:=(h x (by simp)).1;rw[List.drop_succ_cons,Qo n xs (fun y hy=>h y (List.mem_cons_of_mem _ hy)),List.flatten_cons,List.drop_append];have e:(n+1)*sz-x.length=n*sz:=by rw[hx,Nat.add_mul];omega
  have e2:x.drop ((n+1)*sz)=[]:=List.drop_eq_nil_of_le (by rw[hx,Nat.add_mul];omega);rw[e,e2,List.nil_append]
theorem H7 {sz:Nat}:∀ (n:Nat) (xs:List (List Value)),Ws sz xs→(xs.take n).flatten=xs.flatten.take (n*sz)
 | 0,xs,_=>by simp
 | n+1,[],_=>by simp
 | n+1,x::xs,h=>by
  have hx:=(h x (by simp)).1;rw[List.take_succ_cons,List.flatten_cons,H7 n xs (fun y hy=>h y (List.mem_cons_of_mem _ hy)),List.flatten_cons,List.take_append];have e:(n+1)*sz-x.length=n*sz:=by rw[hx,Nat.add_mul];omega
  have e2:x.take ((n+1)*sz)=x:=List.take_of_length_le (by rw[hx,Nat.add_mul];omega);rw[e,e2]
end
end Go.Sx

end
section
namespace Go.Sx
open Go Go.RowKit
def dY:List (Nat × Nat)→Nat→Prop
 | [],_=>True
 | (z,g)::r,k=>(z=0∨k≠g)∧dY r k
def Mz:List (Nat × Nat)→Nat→Prop
 | [],_=>False
 | (z,g)::r,k=>(k=g∧z≠0)∨Mz r k
def gZ (l:List (Nat × Nat))(z g base:Nat):Prop:=z=0∨base≤g∨Mz l g
def fR:List (Nat × Nat)→List (Nat × Nat)→Nat→Prop
 | [],_,_=>True
 | (z,g)::r,l,base=>gZ l z g base∧fR r l base
theorem iQ {g:Nat}:∀ {ms:List Nat},Mz (ms.map fun b=>(1,b)) g↔g∈ms
 | []=>by simp[Mz]
 | a::r=>by simp[Mz,iQ]
theorem Py:∀ {l:List (Nat × Nat)} {k g:Nat},dY l k→Mz l g→k≠g
 | [],k,g,_,h=>h.elim
 | (z,b)::r,k,g,hn,h=>by
  rcases h with⟨h1,h2⟩|h
  · subst h1;rcases hn.1 with h0|h0
    · exact absurd h0 h2
    · exact h0
  · exact Py hn.2 h
theorem Qv {l:List (Nat × Nat)}{z g base k:Nat}(h:gZ l z g base)(hk:k<base)(hn:dY l k):z=0∨k≠g:=by
 rcases h with h|h|h
 · exact .inl h
 · exact .inr (by omega)
 · exact .inr (Py hn h)
theorem xV {l:List (Nat × Nat)}{base k:Nat}(hk:k<base)(hn:dY l k):∀ {m:List (Nat × Nat)},fR m l base→dY m k
 | [],_=>trivial
 | (z,g)::r,h=>⟨Qv h.1 hk hn,xV hk hn h.2⟩
structure Kz (l:List (Nat × Nat))(w w':World):Prop where
 os:w'.os=w.os
 tape:w'.tape=w.tape
 output:w'.output=w.output
 size:w.heap.size≤w'.heap.size
 block:∀ k,k<w.heap.size→dY l k→w'.heap[k]? = w.heap[k]?
section
variable {l m:List (Nat × Nat)} {w w₁ w₂ w':World} {z g b o sz:Nat} {t e:TypeId} {cs:List Value} {v:Value} {xs:List (List Value)}
theorem Kz.refl (l:List (Nat × Nat))(w:World):Kz l w w:=⟨rfl,rfl,rfl,Nat.le_refl _,fun _ _ _=>rfl⟩
theorem Kz.gr (h:Kz l w w₁)(k:Gr w₁ w₂):Kz l w w₂:=⟨k.os.trans h.os,k.tape.trans h.tape,k.output.trans h.output,Nat.le_trans h.size k.size,fun i hi hn=>(k.block i (Nat.lt_of_lt_of_le hi h.size)).trans (h.block i hi hn)⟩
theorem Kz.md (h:Kz l w w₁)(k:Md b w₁ w₂)(hb:gZ l 1 b w.heap.size:=by simp only[dY,fR,gZ,iQ,Mz,dX]<;>omega):Kz l w w₂:=⟨k.os.trans h.os,k.tape.trans h.tape,k.output.trans h.output,by rw[k.size];exact h.size,fun i hi hn=>(k.block i (by have:=Qv hb hi hn;omega)).trans (h.block i hi hn)⟩
theorem Kz.ka (h:Kz l w w₁)(k:Ka z g w₁ w₂)(hb:gZ l z g w.heap.size:=by simp only[dY,fR,gZ,iQ,Mz,dX]<;>omega):Kz l w w₂:=⟨k.os.trans h.os,k.tape.trans h.tape,k.output.trans h.output,Nat.le_trans h.size k.size,fun i hi hn=>(k.block i (Nat.lt_of_lt_of_le hi h.size) (Qv hb hi hn)).trans (h.block i hi hn)⟩
theorem Kz.kz (h:Kz l w w₁)(k:Kz m w₁ w₂)(hb:fR m l w.heap.size:=by simp only[dY,fR,gZ,iQ,Mz,dX]<;>omega):Kz l w w₂:=⟨k.os.trans h.os,k.tape.trans h.tape,k.output.trans h.output,Nat.le_trans h.size k.size,fun i hi hn=>(k.block i (Nat.lt_of_lt_of_le hi h.size) (xV hi hn hb)).trans (h.block i hi hn)⟩
theorem Kz.kp {ms:List Nat}(h:Kz l w w₁)(k:Kp ms w₁ w₂)(hb:fR (ms.map fun b=>(1,b)) l w.heap.size):Kz l w w₂:=⟨k.os.trans h.os,k.tape.trans h.tape,k.output.trans h.output,Nat.le_trans h.size k.size,fun i hi hn=>(k.block i (Nat.lt_of_lt_of_le hi h.size) (fun hm=>by
 have h1:=xV hi hn hb
 have key:∀ (ms:List Nat),i∈ms→dY (ms.map fun b=>(1,b)) i→False:=by
  intro ms
  induction ms with
  | nil=>intro h;cases h
  | cons a r ih=>
   intro h h2;rcases List.mem_cons.1 h with rfl|h
   · have:=h2.1;omega
   · exact ih h h2.2
 exact key ms hm h1)).trans (h.block i hi hn)⟩
theorem Gr.kz (h:Gr w w₁)(k:Kz m w₁ w₂)(hb:fR m [] w.heap.size:=by simp only[dY,fR,gZ,iQ,Mz,dX]<;>omega):Gr w w₂:=⟨k.os.trans h.os,k.tape.trans h.tape,k.output.trans h.output,Nat.le_trans h.size k.size,fun i hi=>(k.block i (Nat.lt_of_lt_of_le hi h.size) (xV (l:=[]) hi trivial hb)).trans (h.block i hi)⟩
theorem Kp.kz {ms:List Nat}(h:Kp ms w w₁)(k:Kz m w₁ w₂)(hb:fR m (ms.map fun b=>(1,b)) w.heap.size:=by simp only[dY,fR,gZ,iQ,Mz,dX]<;>omega):Kp ms w w₂:=⟨k.os.trans h.os,k.tape.trans h.tape,k.output.trans h.output,Nat.le_trans h.size k.size,fun i hi hn=>(k.block i (Nat.lt_of_lt_of_le hi h.size) (xV hi (by
 have key:∀ (ms:List Nat),i∉ms→dY (ms.map fun b=>(1,b)) i:=by
  intro ms
  induction ms with
  | nil=>intro _;trivial
  | cons a r ih=>intro h;exact⟨.inr (fun e=>h (by rw[e];simp)),ih (fun h2=>h (by simp[h2]))⟩
 exact key ms hn) hb)).trans (h.block i hi hn)⟩
theorem Bx.kz (h:Bx w b t cs)(k:Kz l w w')(hn:dY l b:=by simp only[dY,fR,gZ,iQ,Mz,dX]<;>omega):Bx w' b t cs:=(k.block b h.lt hn).trans h
theorem aK.kz (h:aK w z g e sz v xs)(k:Kz l w w')(hn:z=0∨dY l g:=by simp only[dY,fR,gZ,iQ,Mz,dX]<;>omega):aK w' z g e sz v xs:=h.keep (hn.imp id fun hn hl=>k.block g hl hn)
theorem Rd.kz (h:Rd w z g o sz v xs)(k:Kz l w w')(hn:z=0∨dY l g:=by simp only[dY,fR,gZ,iQ,Mz,dX]<;>omega):Rd w' z g o sz v xs:=h.keep (hn.imp id fun hn hl=>k.block g hl hn) k.size
theorem Df.kz {D:Nat}(h:Df w D)(k:Kz l w w')(hn:dY l D:=by simp only[dY,fR,gZ,iQ,Mz,dX]<;>omega):Df w' D:=(k.block D h.lt hn).trans h
theorem Rd.oneB (h:Rd w z g o sz v xs):oneB v=true:=by
 rcases h.2 with⟨_,_,a,c,rfl⟩|⟨_,c,rfl,_⟩<;>rfl
end
theorem Gu {sz:Nat}{α:Type}{c:α→List Value}{l:List α}(h:∀ x∈l,(c x).length=sz∧cZ (c x)=true):Ws sz (l.map c):=fun y hy=>by
 obtain⟨x,hx,rfl⟩:=List.mem_map.1 hy;exact h x hx
theorem eL (k:IntKind)(n:Int):oneB (.int k n)=true:=rfl
theorem eN (b:Bool):oneB (.bool b)=true:=rfl
theorem eS (b:ByteArray):oneB (.string b)=true:=rfl
theorem Iw {P:Program}{r:Option Nat}{n:Nat}{Q:Exit→List Deferred→Slots→World→Prop}{D:List Deferred}{L:Slots}{w:World}{x y:Code}{β:Type}(dead:List Nat)(dyn:β→Slots)(J:β→World→Prop)
 (hk:∀ b w1,J b w1→SW P r n y Q D (dyn b++iB dead L) w1)
 (h:SW P r n x (iG (fun D1 L1 w1=>D1=D∧∃ b,iA (dyn b++iB dead L) L1∧J b w1) Q) D L w):SW P r n (.seq x y) Q D L w:=
 aP (h.mono fun e D1 L1 w1 hh=>by
  cases e with
  | normal=>obtain⟨rfl,b,h1,h2⟩:=hh;exact(hk b w1 h2).forget h1
  | exit id=>exact hh
  | goto l=>exact hh
  | ret=>exact hh
  | panic c=>exact hh
  | outgrown=>exact hh)
section
variable {P:Program} {L:Slots} {w:World} {dst:Option Nat} {ty:TypeId} {pos:String} {af:Array Edge} {gu:Option (Nat × Bool)} {x y:Operand} {t u:TypeId}
theorem Kb {p:Prop}[Decidable p](hx:ev L x=some (.bool (decide p))):VV P L ⟨dst,.unOp .not t x,ty,pos,af,gu⟩ w (.bool (decide (¬ p))):=eX (dZ hx) (by by_cases h:p<;>simp[h])
def BZ (P:Program)(t:TypeId)(v:Value):Prop:=∀ w,(Instr.build t #[]).run P w=.ok v w
theorem iU {v:Value}(h:BZ P t v):VV P L ⟨dst,.build t #[],ty,pos,af,gu⟩ w v:=fun ρ hρ=>iH (by simpa using h w)
def Tu:Value→Bool
 | .pointer (some _)=>true
 | .func (.func _) _ _=>true
 | _=>false
theorem gR {v:Value}(hx:ev L x=some v)(hs:Tu v=true):VV P L ⟨dst,.nilCheck x,ty,pos,af,gu⟩ w v:=fun ρ hρ=>by
 simp only[execOp,hρ _ _ hx];unfold Tu at hs
 split at hs<;>first|rfl|cases hs
theorem Qak {a b:Bool}(hu:P.underlying t=some .bool)(hx:ev L x=some (.bool a))(hy:ev L y=some (.bool b)):VV P L ⟨dst,.binOp .neq t x y u,ty,pos,af,gu⟩ w (.bool (a != b)):=fun ρ hρ=>by
 simp[execOp,hρ _ _ hx,hρ _ _ hy,go_sem,run_neq_bool _ _ _ _ hu];cases a<;>cases b<;>rfl
theorem Ya {p:Prop}[Decidable p]{q:Prop}(h:q↔p):gV q=decide p:=by
 by_cases hp:p
 · rw[tS (h.2 hp)];simp[hp]
 · rw[Yb (fun hq=>hp (h.1 hq))];simp[hp]
theorem S4 {α:Type}[DecidableEq α]{cf:α→List Value}{a b:α}{ks:List Ck}(h:lR P t ks)(hx:ev L x=some (.agg (cf a).toArray))(hy:ev L y=some (.agg (cf b).toArray))(hc:kn ks (cf a)=true)(hd:kn ks (cf b)=true)(inj:cf a=cf b→a=b):
 VV P L ⟨dst,.binOp .eql t x y u,ty,pos,af,gu⟩ w (.bool (decide (a=b))):=eX (Qa7 h hx hy hc hd) (by rw[Ya ⟨inj,fun h=>by rw[h]⟩])
theorem mT {α:Type}[DecidableEq α]{cf:α→List Value}{a b:α}{ks:List Ck}(h:lR P t ks)(hx:ev L x=some (.agg (cf a).toArray))(hy:ev L y=some (.agg (cf b).toArray))(hc:kn ks (cf a)=true)(hd:kn ks (cf b)=true)(inj:cf a=cf b→a=b):
 VV P L ⟨dst,.binOp .neq t x y u,ty,pos,af,gu⟩ w (.bool (decide (a≠b))):=eX (Qaj h hx hy hc hd) (by rw[Ya (p:=a=b) ⟨inj,fun h=>by rw[h]⟩];by_cases h:a=b<;>simp[h])
theorem cF {a b:Int}{k:IntKind}(h:some (Value.int k a)=some (.int k b)):a=b:=by simpa using h
theorem rJ {a b:BitVec 64}(h:some (wv a)=some (wv b)):a=b:=Ju (cF h)
theorem nF {a b:BitVec 8}(h:some (bv a)=some (bv b)):a=b:=Tv (cF h)
theorem yO {a b:Bool}(h:some (Value.bool a)=some (.bool b)):a=b:=by simpa using h
theorem dD {b' off:Nat}{tb:TypeId}{v:Value}{cs cs':List Value}(hs:fO P t 1)(hx:ev L x=some (.pointer (some ⟨b',off,none⟩)))(hy:ev L y=some v)(h1:oneB v=true)(hb:Bx w b' tb cs)(hl:Nat.blt off cs.length=true)(he:cs.set off v=cs'):
 EV P L ⟨dst,.store t x y,ty,pos,af,gu⟩ w fun _ w'=>Bx w' b' tb cs'∧Md b' w w':=by
 subst he;exact uY hs hx hy h1 hb (by simpa using hl)
theorem jX {b' off m:Nat}{tb:TypeId}{v:Value}{cs vs cs':List Value}(hs:fO P t m)(hx:ev L x=some (.pointer (some ⟨b',off,none⟩)))(hy:ev L y=some v)(hc:v.cells=vs.toArray)(hm:vs.length=m)(h1:cZ vs=true)(hb:Bx w b' tb cs)(hl:Nat.ble (off+m) cs.length=true)(he:eF cs off vs=cs'):
 EV P L ⟨dst,.store t x y,ty,pos,af,gu⟩ w fun _ w'=>Bx w' b' tb cs'∧Md b' w w':=by
 subst he;exact W9 hs hx hy hc hm h1 hb hl
end
section
variable {P:Program} {L:Slots} {w:World} {dst:Option Nat} {ty:TypeId} {pos:String} {af:Array Edge} {gu:Option (Nat × Bool)} {x y:Operand} {t e:TypeId} {z g sz:Nat} {v:Value}
theorem Im (cs:List Value)(off:Nat)(vs:List Value)(h:off+vs.length≤cs.length):(eF cs off vs).length=cs.length:=by simp[eF];omega
theorem Od (cs:List Value)(off n:Nat)(vs:List Value)(h:off+vs.length≤n)(hn:n≤cs.length):(eF cs off vs).take n=eF (cs.take n) off vs:=by
 have e1:(cs.take off).length=off:=by simp;omega
 unfold eF;rw[List.take_append,List.take_append,List.length_append,e1,List.take_of_length_le (l:=cs.take off) (by omega),List.take_of_length_le (l:=vs) (by omega),List.take_take,Nat.min_eq_left (by omega),List.drop_take]
theorem Qp:∀ (xs:List (List Value)) (i q:Nat) (c vs:List Value),Ws sz xs→xs[i]? = some c→q+vs.length≤sz→(xs.set i (eF c q vs)).flatten=eF xs.flatten (i*sz+q) vs
 | [],i,q,c,vs,_,hi,_=>by simp at hi
 | a::xs,0,q,c,vs,h,hi,hq=>by
  simp at hi;subst hi;have ha:=(h a (by simp)).1;simp only[List.set_cons_zero,List.flatten_cons,Nat.zero_mul,Nat.zero_add,eF];rw[List.take_append_of_le_length (by omega),List.drop_append_of_le_length (by omega)];simp
 | a::xs,i+1,q,c,vs,h,hi,hq=>by
  simp at hi;have ha:=(h a (by simp)).1;have ih:=Qp xs i q c vs (fun y hy=>h y (List.mem_cons_of_mem _ hy)) hi hq;rw[List.set_cons_succ,List.flatten_cons,ih,List.flatten_cons];simp only[eF];have e1:(i+1)*sz+q=a.length+(i*sz+q):=by rw[ha,Nat.add_mul];omega
  rw[e1,List.take_append,List.take_of_length_le (l:=a) (by omega),show a.length+(i*sz+q)-a.length=i*sz+q from by omega,List.drop_append,@List.drop_eq_nil_of_le _ a _ (by omega),show a.length+(i*sz+q)+vs.length-a.length=i*sz+q+vs.length from by omega];simp
theorem Hg {α:Type}{l:List α}{c:α→List Value}{a a':α}{i:Int}{p q m:Nat}{u:Value}{vs:List Value}(hs:fO P t m)(hx:ev L x=some (.pointer (some ⟨g,p,none⟩)))(hy:ev L y=some u)(hc:u.cells=vs.toArray)(hm:vs.length=m)(h1:cZ vs=true)
 (h:aK w z g e sz v (l.map c)) (hg:cL l i=some a) (hp:p=i.toNat*sz+q) (hq:Nat.ble (q+m) sz=true) (he:eF (c a) q vs=c a') (hw:(c a').length=sz∧cZ (c a')=true):
 EV P L ⟨dst,.store t x y,ty,pos,af,gu⟩ w fun _ w'=>aK w' z g e sz v ((l.set i.toNat a').map c)∧Md g w w':=by
 have hq':=Nat.le_of_ble_eq_true hq;have hi:=nX hg;have hxi:(l.map c)[i.toNat]? = some (c a):=mY hi;have hil:=(List.getElem?_eq_some_iff.1 hxi).1;rcases h.2 with⟨_,_,h0⟩|⟨hz,cap,cur,hv,hb,hn,hcap,hsz,htk⟩
 · rw[h0] at hxi;simp at hxi
 · have hbx:Bx w g e cur.toList:=by unfold Bx;simpa using hb
   have hfl:=h.1.flat;have hle:(l.map c).length*sz≤cur.toList.length:=by rw[show cur.toList.length=cap*sz from hsz];exact Nat.mul_le_mul_right _ hn
   have hin:i.toNat*sz+sz≤(l.map c).length*sz:=by rw[←Nat.succ_mul];exact Nat.mul_le_mul_right _ hil
   have hbd:i.toNat*sz+q+vs.length≤cur.toList.length:=by omega
   refine(W9 (off:=p) hs hx hy hc hm h1 hbx (by rw[Nat.ble_eq_true_of_le];omega)).mono ?_;rintro _ w' ⟨h2,h3⟩;have hset:(l.set i.toNat a').map c=(l.map c).set i.toNat (eF (c a) q vs):=by rw[List.map_set,he]
   refine⟨⟨?_,.inr ⟨hz,cap,(eF cur.toList p vs).toArray,?_,h2,?_,hcap,?_,?_⟩⟩,h3⟩
   · rw[hset];intro y hy;rcases List.mem_or_eq_of_mem_set hy with hy|hy
     · exact h.1 y hy
     · subst hy;rw[he];exact hw
   · rw[hv];simp
   · simpa using hn
   · rw[List.size_toArray,hp,Im _ _ _ (by omega),Array.length_toList];exact hsz
   · rw[hset,Qp _ _ _ _ _ h.1 hxi (by omega),←htk,hp,List.length_set];exact Od _ _ _ _ (by omega) hle
theorem Pv (z:List Value)(h:0<z.length):∀ n,((List.range (n*z.length)).map fun i=>z.toArray[i%z.toArray.size]!)=(List.replicate n z).flatten
 | 0=>by simp
 | n+1=>by
  rw[Nat.add_mul,Nat.one_mul,List.range_add,List.map_append,Pv z h n,List.map_map,List.replicate_succ',List.flatten_append];congr 1;apply List.ext_getElem (by simp);intro i h1 h2;have hi:i<z.length:=by simpa using h1
  have e1:(n*z.length+i)%z.length=i:=by rw[Nat.mul_comm,Nat.mul_add_mod,Nat.mod_eq_of_lt hi]
  simp[e1,hi]
theorem wE {bytes:Nat}{zv:Value}{α:Type}{c:α→List Value}{a:α}{n:Int}{l:List α}(ha:jL P t e sz bytes)(hz:ZV P e zv)(hc:zv.cells=(c a).toArray)(hs:(c a).length=sz∧cZ (c a)=true)(hx:ev L x=some (.int .i64 n))(hl:rO bytes n a=some l)(hpos:1≤bytes):
 EV P L ⟨dst,.makeSlice t x x,ty,pos,af,gu⟩ w fun v' w'=>∃ g',w.heap.size≤g'∧aK w' 1 g' e sz v' (l.map c)∧Gr w w':=fun ρ hρ=>by
 obtain⟨rfl,h0,hb⟩:=Uq hl;obtain⟨i,zv',hi,hzv,hsz,hby,hzs⟩:=ha.info
 have hzz:zv'=zv:=by
  have h1:=hz w;simp[zeroValue,typeInfo,hi,hzv] at h1;exact h1
 subst hzz hsz hby;have hle:n≤n*i.bytes:=by have:=Int.mul_le_mul_of_nonneg_left (show(1:Int)≤i.bytes by omega) h0;omega
 have hbc:(i.bytes:Int)*n=n*i.bytes:=Int.mul_comm _ _;have hrun:=run_make (P:=P) w t e i zv' ha.und hi hzv .i64 .i64 n n h0 (Int.le_refl _) (by omega) (by omega)
 have hmade:(madeCells zv'.cells (n.toNat*i.size)).toList=(List.replicate n.toNat (c a)).flatten:=by
  rw[hc];unfold madeCells;rw[Array.toList_map,Array.toList_range,←hs.1];exact Pv (c a) (by rw[hs.1];exact ha.pos) n.toNat
 have hws:Ws i.size ((List.replicate n.toNat a).map c):=Gu (fun y hy=>by rw[List.eq_of_mem_replicate hy];exact hs);refine .val _ _ (iH ?_) ⟨w.heap.size,Nat.le_refl _,⟨hws,.inr ⟨rfl,n.toNat,madeCells zv'.cells (n.toNat*i.size),by rw[List.length_map,List.length_replicate],heap_alloc_new w _,by rw[List.length_map,List.length_replicate];exact Nat.le_refl _,by simp only[maxLen];omega,size_madeCells _ _,?_⟩⟩,(Below.refl _ _).alloc (Nat.le_refl _) _⟩
 · rw[hρ _ _ hx];exact hrun
 · rw[List.length_map,List.length_replicate,List.map_replicate,←hmade,List.take_of_length_le (by rw[Array.length_toList,size_madeCells];exact Nat.le_refl _)]
def qP (L:Slots)(o:Option Operand)(d v:Int):Prop:=match o with
 | none=>v=d
 | some x=>∃ k,ev L x=some (.int k v)
theorem Ta {a:Option Addr}{len cap:Nat}{lo hi:Int}{ol oh:Option Operand}{ρ:Operand→Value}(hρ:lF L ρ)(hu:P.underlying t=some (.slice e))(hs:fO P e sz)(h1:qP L ol 0 lo)(h2:qP L oh (len:Int) hi)(h0:0≤lo)(hlh:lo≤hi)(hh:hi≤len)(hcap:len≤cap):
 (Instr.sliceAt t (.slice a len cap) (ol.map ρ) (oh.map ρ) none).run P w=.ok (sliced a lo.toNat hi.toNat cap sz) w:=by
 have he:P.elem t=e:=by simp[Program.elem,hu]
 have hu':P.underlying t=some (.slice (P.elem t)):=by rw[he];exact hu
 rw[run_sliceAt_slice _ _ _ _ _ _ hu']
 cases ol with
 | none=>
  simp only[qP] at h1;subst h1
  cases oh with
  | none=>simp only[qP] at h2;subst h2;rw[Option.map_none,run_slice_all _ _ _ _ _ hu',he,hs w];simp[Result.andThen]
  | some q=>obtain⟨k,hq⟩:=h2;rw[Option.map_none,Option.map_some,hρ _ _ hq,run_slice_h _ _ _ _ _ hu' _ _ (by omega) (by omega),he,hs w];simp[Result.andThen]
 | some p=>
  obtain⟨k1,hp⟩:=h1
  cases oh with
  | none=>simp only[qP] at h2;subst h2;rw[Option.map_none,Option.map_some,hρ _ _ hp,run_slice_l _ _ _ _ _ hu' _ _ h0 (by omega),he,hs w];simp[Result.andThen]
  | some q=>obtain⟨k,hq⟩:=h2;rw[Option.map_some,Option.map_some,hρ _ _ hp,hρ _ _ hq,run_slice_lh _ _ _ _ _ hu' _ _ _ _ h0 hlh (by omega),he,hs w];simp[Result.andThen]
theorem F6 {α:Type}{c:α→List Value}{l m:List α}{lo hi:Int}{ol oh:Option Operand}{o:Nat}(hu:P.underlying t=some (.slice e))(hs:fO P e sz)(hx:ev L x=some v)(hr:Rd w z g o sz v (l.map c))(h1:qP L ol 0 lo)(h2:qP L oh (l.length:Int) hi)(hl:sG l lo hi=some m):
 ∃ v' o',(∀ w1,VV P L ⟨dst,.slice t x ol oh none,ty,pos,af,gu⟩ w1 v')∧Rd w z g o' sz v' (m.map c):=by
 obtain⟨rfl,h3,h4,h5⟩:=Av hl;rcases hr.2 with⟨hz,hnil,a,cap,rfl⟩|⟨hz,cap,rfl,⟨hg,hcap⟩,hcell⟩
 · have hl0:l=[]:=by simpa using hnil
   subst hl0;simp only[List.length_nil] at h2 h5;have e1:lo=0:=by omega
   have e2:hi=0:=by omega
   subst e1 e2;refine⟨_,0,fun w1 ρ hρ=>iH (by rw[hρ _ _ hx];exact Ta hρ hu hs h1 h2 (by omega) (by omega) (by omega) (Nat.zero_le _)),by simpa using hr.1,.inl ⟨hz,by simp,?_⟩⟩;exact⟨_,_,rfl⟩
 · rw[List.length_map] at hcap hx;have hlen:((l.map c).take hi.toNat).length=hi.toNat:=by rw[List.length_take,List.length_map];omega
   have hm:(((l.take hi.toNat).drop lo.toNat).map c)=((l.map c).take hi.toNat).drop lo.toNat:=by rw[List.map_drop,List.map_take]
   have hml:(((l.take hi.toNat).drop lo.toNat).map c).length=hi.toNat-lo.toNat:=by rw[hm,List.length_drop,hlen]
   refine⟨_,if cap=lo.toNat then o else o+lo.toNat*sz,fun w1 ρ hρ=>iH (by rw[hρ _ _ hx];exact Ta hρ hu hs h1 h2 h3 h4 h5 hcap),by rw[hm];exact hr.1.take.drop,.inr ⟨hz,cap-lo.toNat,?_,⟨hg,by rw[hml];omega⟩,fun j u hj=>?_⟩⟩
   · simp only[sliced,hml];by_cases e:cap=lo.toNat
     · rw[if_pos e,if_pos e]
     · rw[if_neg e,if_neg e];simp[Addr.add_lit]
   · rw[hm,Qo _ _ hr.1.take,H7 _ _ hr.1,List.getElem?_drop] at hj
     have hj2:(l.map c).flatten[lo.toNat*sz+j]? = some u:=by
      rw[List.getElem?_take] at hj
      split at hj
      · exact hj
      · cases hj
     by_cases e:cap=lo.toNat
     · exfalso;have e2:hi.toNat=lo.toNat:=by omega
       rw[List.getElem?_take,e2] at hj
       split at hj
       · omega
       · cases hj
     · rw[if_neg e,Nat.add_assoc];exact hcell _ _ hj2
end
end Go.Sx
namespace Go.Sx
open Go
section
variable {P:Program} {n:Nat} {ops:Array Oper} {Q:Slots→World→Prop} {rest:List (Nat × Nat)} {i:Nat} {dst:Option Nat} {op:Op} {ty:TypeId} {pos:String} {af:Array Edge} {gu:Option (Nat × Bool)} {L:Slots} {w w₀:World} {ms:List Nat} {kp:Nat→Nat→Bool} {B:Value→Nat→Prop}
end
end Go.Sx

end
section
namespace Go.Sx
open Go Go.RowKit
def eB (x:BitVec 64)(i:Nat):BitVec 8:=(x >>> (56-8*i)).setWidth 8
def dF (p:W2):List (BitVec 8):=[eB p.1 0,eB p.1 1,eB p.1 2,eB p.1 3,eB p.1 4,eB p.1 5,eB p.1 6,eB p.1 7,eB p.2 0,eB p.2 1,eB p.2 2,eB p.2 3,eB p.2 4,eB p.2 5,eB p.2 6,eB p.2 7]
theorem rI (p:W2):(dF p).length=16:=rfl
theorem Ov (x:BitVec 64)(i:Nat):bD (eB x i)=bt x i:=by
 unfold bD eB bt un;rw[BitVec.toNat_setWidth];omega
theorem rA (p:W2):kb p=((dF p).map bF).flatten:=by
 simp only[kb,dF,List.map_cons,List.map_nil,List.flatten_cons,List.flatten_nil,List.cons_append,List.nil_append,bv,Ov]
def mG (b0 b1 b2 b3 b4 b5 b6 b7:BitVec 8):BitVec 64:=b0++b1++b2++b3++b4++b5++b6++b7
theorem Vg (b0 b1 b2 b3 b4 b5 b6 b7:BitVec 8):eB (mG b0 b1 b2 b3 b4 b5 b6 b7) 0=b0∧eB (mG b0 b1 b2 b3 b4 b5 b6 b7) 1=b1∧eB (mG b0 b1 b2 b3 b4 b5 b6 b7) 2=b2∧eB (mG b0 b1 b2 b3 b4 b5 b6 b7) 3=b3∧eB (mG b0 b1 b2 b3 b4 b5 b6 b7) 4=b4∧eB (mG b0 b1 b2 b3 b4 b5 b6 b7) 5=b5∧eB (mG b0 b1 b2 b3 b4 b5 b6 b7) 6=b6∧eB (mG b0 b1 b2 b3 b4 b5 b6 b7) 7=b7:=by
 have key:∀ (x y:BitVec 8),(∀ i,i<8→x.getLsbD i=y.getLsbD i)→x=y:=fun x y h=>BitVec.eq_of_getLsbD_eq (fun i hi=>h i hi);refine⟨?_,?_,?_,?_,?_,?_,?_,?_⟩ <;>
 · apply key;intro i hi;simp only[eB,mG,BitVec.getLsbD_setWidth,BitVec.getLsbD_ushiftRight,BitVec.getLsbD_append,hi,decide_true,Bool.true_and]
   repeat' split
   all_goals first|omega|(congr 1;omega)
def kA:List (BitVec 8)→W2
 | b0::b1::b2::b3::b4::b5::b6::b7::c0::c1::c2::c3::c4::c5::c6::c7::_=>(mG b0 b1 b2 b3 b4 b5 b6 b7,mG c0 c1 c2 c3 c4 c5 c6 c7)
 | _=>k0
theorem Qy {l:List (BitVec 8)}(h:16≤l.length):dF (kA l)=l.take 16:=by
 match l,h with
 | b0::b1::b2::b3::b4::b5::b6::b7::c0::c1::c2::c3::c4::c5::c6::c7::r,_=>
  obtain⟨h0,h1,h2,h3,h4,h5,h6,h7⟩:=Vg b0 b1 b2 b3 b4 b5 b6 b7;obtain⟨g0,g1,g2,g3,g4,g5,g6,g7⟩:=Vg c0 c1 c2 c3 c4 c5 c6 c7;simp only[kA,dF,h0,h1,h2,h3,h4,h5,h6,h7,g0,g1,g2,g3,g4,g5,g6,g7];rfl
def xP (l:List (BitVec 8)):Option W2:=if 16≤l.length then some (kA l) else none
theorem Pc {l:List (BitVec 8)}{p:W2}(h:xP l=some p):16≤l.length∧p=kA l:=by
 unfold xP at h;split at h
 · exact⟨‹_›,(Option.some.inj h).symm⟩
 · cases h
def pR (p:W2)(i:Int)(b:BitVec 8):Option W2:=if 0≤i∧i<16 then some (kA ((dF p).set i.toNat b)) else none
theorem Ua {p q:W2}{i:Int}{b:BitVec 8}(h:pR p i b=some q):(0≤i∧i<16)∧dF q=(dF p).set i.toNat b:=by
 unfold pR at h;split at h
 · refine⟨‹_›,?_⟩;cases h;rw[Qy (by simp[dF]),List.take_of_length_le (by simp[dF])]
 · cases h
section
variable {P:Program} {L:Slots} {w:World} {dst:Option Nat} {ty:TypeId} {pos:String} {af:Array Edge} {gu:Option (Nat × Bool)} {x y:Operand} {t e:TypeId} {z g o sz:Nat} {v:Value}
theorem Zx {b:Nat}{cs:List Value}{p:W2}(hb:Bx w b t cs)(h:(cs.drop o).take 16=kb p):Rd w 1 b o 1 (.slice (some ⟨b,o,none⟩) 16 16) ((dF p).map bF):=
 N7 hb (fT _ (fun _=>rfl) (fun _=>rfl)) rfl (by rw[←rA];exact h)
theorem Qao {l:List (BitVec 8)}{p:W2}{n:Nat}(hu:P.underlying t=some (.array 16 e))(hx:ev L x=some v)(hr:Rd w z g o 1 v (l.map bF))(hk:xP l=some p):VV P L ⟨dst,.sliceToArrayPointer t x,ty,pos,af,gu⟩ w (.pointer (some ⟨g,o,none⟩)):=fun ρ hρ=>by
 obtain⟨h16,_⟩:=Pc hk;rcases hr.2 with⟨_,h0,_⟩|⟨_,cap,rfl,_⟩
 · have:l=[]:=by simpa using h0
   subst this;simp at h16
 · have eD:¬ (l.length<16):=by omega
   refine iH ?_;rw[hρ _ _ hx];simp[Instr.arrayAt,run_underlying hu,eD]
theorem Qap {l:List (BitVec 8)}{p:W2}(h1:eG P t 16)(hx:ev L x=some (.pointer (some ⟨g,o,none⟩)))(hr:Rd w z g o 1 v (l.map bF))(hk:xP l=some p):VV P L ⟨dst,.load t x,ty,pos,af,gu⟩ w (kv p):=fun ρ hρ=>by
 obtain⟨h16,rfl⟩:=Pc hk;rcases hr.2 with⟨_,h0,_⟩|⟨_,cap,rfl,_,hcell⟩
 · have:l=[]:=by simpa using h0
   subst this;simp at h16
 · have hkb:kb (kA l)=((l.take 16).map bF).flatten:=by rw[rA,Qy h16]
   have hld:(loadCells ⟨g,o,none⟩ (kb (kA l)).length).run P w=.ok (kb (kA l)).toArray w:=run_loadCells_list w _ _ (fun j u hj=>by
    rw[Addr.add_lit];refine hcell j u ?_;rw[hkb,List.map_take,H7 (sz:=1) _ _ hr.1,List.getElem?_take] at hj
    split at hj
    · exact hj
    · cases hj)
   have hl:(kb (kA l)).length=16:=rfl;rw[hl] at hld;refine iH ?_;rw[hρ _ _ hx];simp[Instr.loadAt,Instr.sureAddr,loadVar,(h1 w).1,(h1 w).2,hld]
theorem lN {b' off:Nat}{k:IntKind}{i:Int}{p:W2}{c:BitVec 8}(hu:P.underlying t=some (.array 16 e))(hs:fO P e 1)(hx:ev L x=some (.pointer (some ⟨b',off,none⟩)))(hy:ev L y=some (.int k i))(hg:cL (dF p) i=some c):VV P L ⟨dst,.indexAddr t x y,ty,pos,af,gu⟩ w (.pointer (some ⟨b',off+i.toNat*1,none⟩)):=
 oB hu hs hx hy (oX hg) (by have:=rU hg;rw[rI] at this;omega)
theorem sR {b off q:Nat}{tb:TypeId}{cs:List Value}{p:W2}{i:Int}{c:BitVec 8}(h1:fV P t)(hx:ev L x=some (.pointer (some ⟨b,q,none⟩)))(hb:Bx w b tb cs)(h:(cs.drop off).take 16=kb p)(hg:cL (dF p) i=some c)(hq:q=off+i.toNat):VV P L ⟨dst,.load t x,ty,pos,af,gu⟩ w (bv c):=by
 refine aT h1 hx hb ?_;have hi:=nX hg;have eD:i.toNat<16:=by have:=rU hg;have:=oX hg;rw[rI] at *;omega
 have e1:(kb p)[i.toNat]? = some (bv c):=by
  have hw:Ws 1 ((dF p).map bF):=fT _ (fun _=>rfl) (fun _=>rfl);have:=hw.at (i.toNat) 0 (bF c) (mY hi) (by omega);rw[rA];simpa using this
 rw[←h,List.getElem?_take,if_pos eD,List.getElem?_drop] at e1;rw[hq];exact e1
theorem Il {cs:List Value}{off:Nat}{p q:W2}{i:Nat}{c:BitVec 8}(h:(cs.drop off).take 16=kb p)(hi:i<16)(hq:dF q=(dF p).set i c)(hl:off+16≤cs.length):cs.set (off+i) (bv c)=eF cs off (kb q):=by
 have hkq:kb q=(kb p).set i (bv c):=by
  rw[rA,rA,hq]
  have e1:∀ (l:List (BitVec 8)) (i:Nat),((l.set i c).map bF).flatten=((l.map bF).flatten).set i (bv c):=by
   intro l
   induction l with
   | nil=>intro i;simp
   | cons a l ih=>
    intro i
    cases i with
    | zero=>simp
    | succ i=>rw[List.set_cons_succ,List.map_cons,List.flatten_cons,ih,List.map_cons,List.flatten_cons];rfl
  exact e1 _ _
 have hkl:(kb q).length=16:=rfl;apply List.ext_getElem?;intro j;rw[List.getElem?_set];unfold eF;rw[hkl];by_cases h1:j<off
 · rw[if_neg (by omega),List.append_assoc,List.getElem?_append_left (by simp;omega),List.getElem?_take_of_lt h1]
 · by_cases h2:j<off+16
   · rw[List.append_assoc,List.getElem?_append_right (by simp;omega),List.getElem?_append_left (by simp[hkl];omega)];have e2:j-(cs.take off).length=j-off:=by simp;omega
     rw[e2,hkq,List.getElem?_set,←h];by_cases h3:i=j-off
     · rw[if_pos (by omega),if_pos h3];have:i<((cs.drop off).take 16).length:=by simp;omega
       rw[if_pos (by omega),if_pos this]
     · rw[if_neg (by omega),if_neg h3,List.getElem?_take_of_lt (by omega),List.getElem?_drop];congr 1;omega
   · rw[if_neg (by omega),List.append_assoc,List.getElem?_append_right (by simp;omega),List.getElem?_append_right (by simp[hkl];omega),List.getElem?_drop];congr 1;simp[hkl];omega
theorem wA {b off qq:Nat}{tb:TypeId}{cs cs':List Value}{p q:W2}{i:Int}{c:BitVec 8}(hs:fO P t 1)(hx:ev L x=some (.pointer (some ⟨b,qq,none⟩)))(hy:ev L y=some (bv c))(hb:Bx w b tb cs)(h:(cs.drop off).take 16=kb p)(hk:pR p i c=some q)(hq:qq=off+i.toNat*1)(hl:Nat.ble (off+16) cs.length=true)(he:eF cs off (kb q)=cs'):
 EV P L ⟨dst,.store t x y,ty,pos,af,gu⟩ w fun _ w'=>Bx w' b tb cs'∧Md b w w':=by
 obtain⟨hi,hkq⟩:=Ua hk;have hl':=Nat.le_of_ble_eq_true hl;refine dD hs hx hy rfl hb (by simp;omega) ?_;rw[←he,←Il h (by omega) hkq hl'];congr 1;omega
def S1 (l:List (BitVec 8)):ByteArray:=⟨(l.map UInt8.ofBitVec).toArray⟩
abbrev Js (l:List (BitVec 8)):Value:=.string (S1 l)
theorem Qa1 {l:List (BitVec 8)}{s d:TypeId}(hs:P.underlying s=some (.slice e))(he:P.underlying e=some (.int .u8))(hd:P.underlying d=some .string)(hx:ev L x=some v)(hr:Rd w z g o 1 v (l.map bF)):VV P L ⟨dst,.convert s d x,ty,pos,af,gu⟩ w (Js l):=fun ρ hρ=>by
 refine iH ?_;rw[hρ _ _ hx];rcases hr.2 with⟨_,h0,a,cap,rfl⟩|⟨_,cap,rfl,_,hcell⟩
 · have:l=[]:=by simpa using h0
   subst this;rw[run_convert_bytes_string _ _ _ _ _ _ _ hs he hd]
   cases a with
   | none=>simp[Conv.bytesToString,S1];rfl
   | some a=>
    have:=run_bytesToString (P:=P) w a 0 cap [] (by simpa using run_loadCells_list (P:=P) w a [] (by simp));rw[this];rfl
 · have:=run_convert_bytes_back (P:=P) w s d e ⟨g,o,none⟩ cap (l.map UInt8.ofBitVec) hs he hd (fun j hj=>by
    rw[Addr.add_lit];refine hcell j _ ?_;have hj':j<l.length:=by simpa using hj
    have hw:=hr.1.at j 0 (bF l[j]) (by simp[hj']) (by omega);simp only[Nat.mul_one,Nat.add_zero] at hw;rw[hw]
    simp[bD])
   rw[List.length_map] at this;rw[List.length_map];exact this
theorem It (l:List (BitVec 8)):(S1 l).toList=l.map UInt8.ofBitVec:=by rw[ByteArray.toList_eq];simp[S1]
theorem Ed {l m:List (BitVec 8)}(h:l.map UInt8.ofBitVec=m.map UInt8.ofBitVec):l=m:=by
 have:Function.Injective UInt8.ofBitVec:=fun a b h=>by cases h;rfl
 exact(List.map_inj_right (fun _ _ h=>this h)).1 h
theorem Qa8 {l m:List (BitVec 8)}{u:TypeId}(hx:ev L x=some (Js l))(hy:ev L y=some (Js m)):VV P L ⟨dst,.binOp .eql t x y u,ty,pos,af,gu⟩ w (.bool (decide (l=m))):=fun ρ hρ=>by
 have:(l.map UInt8.ofBitVec == m.map UInt8.ofBitVec)=decide (l=m):=by
  by_cases h:l=m
  · subst h;simp
  · have:¬ (l.map UInt8.ofBitVec=m.map UInt8.ofBitVec):=fun e=>h (Ed e);simp[h,this]
 simp[execOp,hρ _ _ hx,hρ _ _ hy,go_sem,eqGuard,binOp,Op.stringOp,It,this]
end
def mR {α:Type}(d s:List α):List α:=s.take d.length++d.drop s.length
def vB {α:Type}(d s:List α):Int:=((min s.length d.length:Nat):Int)
section
variable {P:Program} {L:Slots} {w:World} {dst:Option Nat} {ty:TypeId} {pos:String} {af:Array Edge} {gu:Option (Nat × Bool)} {x y:Operand} {t e:TypeId} {z g:Nat} {v:Value}
end
end Go.Sx

end
section
namespace Go.Sx
open Go Go.RowKit
def fS {α σ R:Type}(F:α→(σ→Option R)→σ→Option R)(d:σ→Option R)(l:List α):σ→Option R:=l.foldr F d
theorem xW {α σ R:Type}(F:α→(σ→Option R)→σ→Option R)(d:σ→Option R)(a:α)(l:List α):fS F d (a::l)=F a (fS F d l):=rfl
theorem xY {α σ R:Type}{F:α→(σ→Option R)→σ→Option R}{d:σ→Option R}{l:List α}{k:Nat}{s:σ}{r:R}{a:α}(h:fS F d (l.drop k) s=some r)(ha:l[k]? = some a):F a (fS F d (l.drop (k+1))) s=some r:=by
 obtain⟨hk,rfl⟩:=List.getElem?_eq_some_iff.1 ha;rw[List.drop_eq_getElem_cons hk,xW] at h;exact h
theorem xH {α β σ R:Type}{F:α→(σ→Option R)→σ→Option R}{d:σ→Option R}{l:List α}{c:α→β}{s:σ}{r:R}(h:fS F d (l.drop (l.map c).length) s=some r):d s=some r:=by
 rw[List.length_map,List.drop_length] at h;exact h
theorem aK.z1 {w:World}{z g sz:Nat}{e:TypeId}{v:Value}{α:Type}{l:List α}{c:α→List Value}{i:Int}{a:α}(h:aK w z g e sz v (l.map c))(hg:cL l i=some a):z=1:=by
 rcases h.2 with⟨_,_,h0⟩|⟨h1,_⟩
 · have:l=[]:=by simpa using h0
   subst this;have:=rU hg;have:=oX hg;simp at *;omega
 · exact h1
theorem oW {l:List (Nat × Nat)}{ms:List Nat}{w w':World}(h:Kp ms w w')(hn:∀ k,dY l k→k∉ms):Kz l w w':=⟨h.os,h.tape,h.output,h.size,fun k hk hl=>h.block k hk (hn k hl)⟩
theorem xT {l:List (Nat × Nat)}{ms:List Nat}{w w':World}(h:Kz l w w')(hn:∀ k,k∉ms→dY l k):Kp ms w w':=⟨h.os,h.tape,h.output,h.size,fun k hk hl=>h.block k hk (hn k hl)⟩
theorem aK.hs {w w':World}{z g sz:Nat}{e:TypeId}{v:Value}{xs:List (List Value)}{ms:List Nat}(h:aK w z g e sz v xs)(hs:∀ b∈ms,w'.heap[b]? = w.heap[b]?)(hm:z≠0→g∈ms):aK w' z g e sz v xs:=
 h.keep (by by_cases hz:z=0;exact .inl hz;exact .inr fun _=>hs g (hm hz))
theorem Rd.hs {w w':World}{z g o sz:Nat}{v:Value}{xs:List (List Value)}{ms:List Nat}(h:Rd w z g o sz v xs)(he:qH w w')(hs:∀ b∈ms,w'.heap[b]? = w.heap[b]?)(hm:z≠0→g∈ms):Rd w' z g o sz v xs:=
 h.keep (by by_cases hz:z=0;exact .inl hz;exact .inr fun _=>hs g (hm hz)) he.size
theorem sL {α:Type}(p:α→Nat→Prop)(FP:α→List Nat)(F:α→World→Prop)(h1:∀ a W,F a W→∀ b∈FP a,b<W.heap.size)
 (h2:∀ a W W',F a W→qH W W'→(∀ b∈FP a,W'.heap[b]? = W.heap[b]?)→F a W'):iE fun k fp W=>∃ a,p a k∧fp=FP a∧F a W:=
 ⟨fun⟨a,_,h,hF⟩ b hb=>h1 a _ hF b (h ▸ hb),fun⟨a,hp,h,hF⟩ he hs=>⟨a,hp,h,h2 a _ _ hF he (h ▸ hs)⟩⟩
theorem Tt {J:Nat→List Nat→World→Prop}(p:Prop)(h:iE J):iE fun i fp W=>p∧J i fp W:=⟨fun h0 b hb=>h.lt h0.2 b hb,fun h0 he hs=>⟨h0.1,h.keep h0.2 he hs⟩⟩
def yl {α:Type}(x:α)(m:Option (List α)):Option (List α):=m.map (x :: ·)
theorem yY {α:Type}{x:α}{m:Option (List α)}{r:List α}(h:yl x m=some r):∃ t,m=some t∧r=x::t:=by
 cases m with
 | none=>cases h
 | some t=>exact⟨t,rfl,(Option.some.inj h).symm⟩
def Dr {α:Type}(xs:List α)(k:Nat)(rr:List α):Prop:=k≤xs.length∧xs.drop k=rr
theorem A1 {α:Type}(xs:List α):Dr xs 0 xs:=⟨Nat.zero_le _,rfl⟩
theorem Dr.at {α:Type}{xs rr t:List α}{k:Nat}{x:α}(h:Dr xs k rr)(e:rr=x::t):xs[k]? = some x:=by
 have h1:=h.2;rw[e] at h1;have:(xs.drop k)[0]? = some x:=by rw[h1];rfl
 rwa[List.getElem?_drop,Nat.add_zero] at this
theorem Dr.next {α:Type}{xs rr t:List α}{k:Nat}{x:α}(h:Dr xs k rr)(e:rr=x::t):Dr xs (k+1) t:=by
 have h0:=h.at e;have hk:=(List.getElem?_eq_some_iff.1 h0).1;refine⟨hk,?_⟩;have h1:=h.2;rw[e,List.drop_eq_getElem_cons hk] at h1;exact(List.cons.inj h1).2
theorem Dr.last {α β:Type}{xs rr:List α}{k:Nat}{c:α→β}(h:Dr xs k rr)(e:rr=[]):k=(xs.map c).length:=by
 have h1:=h.2;rw[e,List.drop_eq_nil_iff] at h1;have:=h.1;rw[List.length_map];omega
theorem Uz {f f':List Nat}{s z b:Nat}(hF:∀ c∈f',c∈f∨s≤c)(h:z=0∨b∉f)(eD:z=0∨b<s):z=0∨b∉f':=by
 rcases h with h|h
 · exact .inl h
 · rcases eD with h1|h1
   · exact .inl h1
   · exact .inr (eH hF h h1)
theorem iE.ka {J:Nat→List Nat→World→Prop}(hJ:iE J){k z g:Nat}{f:List Nat}{W W':World}(h:J k f W)(a:Ka z g W W')(hb:z=0∨g∉f):J k f W':=hJ.keep h a.env fun c hc=>a.block c (hJ.lt h c hc) (by
 rcases hb with h0|h0
 · exact .inl h0
 · exact .inr (by rintro rfl;exact h0 hc))
end Go.Sx

end
section
namespace Go.Sx
open Go Go.RowKit
inductive Tz
 | leaf (seg:List (Nat × Nat))
 | fork (seg:List (Nat × Nat)) (a b:Tz)
def Tz.heads:Tz→List Nat
 | .leaf []=>[]
 | .leaf ((i,_)::_)=>[i]
 | .fork [] a b=>a.heads++b.heads
 | .fork ((i,_)::_) _ _=>[i]
def Tz.len:Tz→Nat
 | .leaf s=>s.length
 | .fork s a _=>s.length+a.len
def oH (l:List (Nat × Nat))(listed:Array Bool):Array Bool:=l.foldl (fun s x=>s.setIfInBounds x.1 true) listed
def sZ (ops:Array Oper)(kp:Nat→Nat→Bool):List (Nat × Nat)→Array Bool→Bool
 | [],_=>true
 | (i,c)::rest,listed=>(match kE c with
  | some lv=>(Region.ready .any ops listed).contains i&&Region.free .any ops listed i&&H9 ops (kp lv) listed i
  | none=>(Region.ready .any ops listed == [i]))&&sZ ops kp rest (listed.setIfInBounds i true)
def gA (ops:Array Oper)(kp:Nat→Nat→Bool):Tz→Array Bool→Bool
 | .leaf [],_=>false
 | .leaf ((i,c)::s),listed=>(kE c).isNone&&sZ ops kp s (listed.setIfInBounds i true)&&(Region.ready .any ops (oH s (listed.setIfInBounds i true))).isEmpty
 | .fork [] a b,listed=>gA ops kp a listed&&gA ops kp b listed&&(a.len == b.len)
 | .fork ((i,c)::s) a b,listed=>(kE c).isNone&&sZ ops kp s (listed.setIfInBounds i true)&&(Region.ready .any ops (oH s (listed.setIfInBounds i true)) == a.heads++b.heads)
  && gA ops kp a (oH s (listed.setIfInBounds i true))&&gA ops kp b (oH s (listed.setIfInBounds i true))&&(a.len == b.len)
def xS (ops:Array Oper)(kp:Nat→Nat→Bool):Tz→Array Bool→Bool
 | .leaf s,listed=>sZ ops kp s listed&&(Region.ready .any ops (oH s listed)).isEmpty
 | .fork s a b,listed=>sZ ops kp s listed&&(Region.ready .any ops (oH s listed) == a.heads++b.heads)&&gA ops kp a (oH s listed)&&gA ops kp b (oH s listed)&&(a.len == b.len)
def fI (P:Program)(n:Nat)(ops:Array Oper)(Q:Slots→World→Prop)(S:Nat→World→Prop)(kp:Nat→Nat→Bool):Tz→Slots→World→Prop
 | .leaf s,L,w=>SD P n ops Q S kp s L w
 | .fork s a b,L,w=>SD P n ops (fun L w=>fI P n ops Q S kp a L w∧fI P n ops Q S kp b L w) S kp s L w
section
variable {P:Program} {r:Option Nat} {n:Nat} {ops:Array Oper} {Q:Slots→World→Prop} {S:Nat→World→Prop} {kp:Nat→Nat→Bool} {D:List Deferred} {QA:Exit→Act→World→Prop}
theorem SD.seg (hnd:fP ops=true)(hQ:∀ c a w,¬ QA (.panic c) a w)(hO:¬ LetsOut QA){fuel:Nat}:
 ∀ (l:List (Nat × Nat)) (listed:Array Bool) (L:Slots) (a:Act) (w:World),sZ ops kp l listed=true→dB n D L a→SD P n ops Q S kp l L w→
  (∀ L a w,dB n D L a→Q L w→Go.Sx.anyH P r ops QA S kp fuel (oH l listed) a w)→Go.Sx.anyH P r ops QA S kp (l.length+fuel) listed a w
 | [],listed,L,a,w,ho,hf,h,hk=>by rw[List.length_nil,Nat.zero_add];exact hk L a w hf h
 | (i,c)::rest,listed,L,a,w,ho,hf,h,hk=>by
  have hlen:((i,c)::rest).length+fuel=rest.length+fuel+1:=by simp;omega
  rw[hlen];unfold SD at h;unfold sZ at ho
  cases hc:kE c with
  | some lv=>
   rw[hc] at h ho;obtain⟨o,v,hi,hd,hS,hv,hrest⟩:=h;simp only[Bool.and_eq_true] at ho
   refine Go.Sx.Kq hnd hi hQ hO (rest.length+fuel) listed a w (fun j oj h1 h2 h3 h4=>⟨Region.free_spec hi ho.1.1.2 j oj h1 h2 h3 h4,Pb ho.1.2 j oj h1 h2 h3 h4⟩) (by simpa using ho.1.1.1) ?_ hS
    (SD.seg hnd hQ hO rest _ _ _ w ho.2 (hf.put hd) hrest hk)
   rcases hv with⟨hg,hv⟩|⟨hg,rfl⟩
   · exact .inl ⟨lW hf hg,fun w' hw'=>hv w' hw' _ hf.cons⟩
   · exact .inr ⟨lW hf hg,rfl⟩
  | none=>
   rw[hc] at h ho;obtain⟨o,hi,hd,h⟩:=h;simp only[Bool.and_eq_true,beq_iff_eq] at ho;refine⟨fun h0=>(by rw[ho.1] at h0;cases h0),fun j hj=>?_⟩;rw[ho.1] at hj;simp only[List.mem_singleton] at hj;subst hj;unfold wpOpIn;simp only[hi];rcases h with⟨hg,R,hev,hk2⟩|⟨hg,hrest⟩
   · rw[lW hf hg,if_pos rfl];exact(hev _ hf.cons).uponIn (fP.nd hnd hi) fun v w' hR=>⟨(hk2 v w' hR).1,SD.seg hnd hQ hO rest _ _ _ w' ho.2 (hf.put hd) (hk2 v w' hR).2 hk⟩
   · rw[lW hf hg];simp only[Bool.false_eq_true,if_false];exact⟨fun _ _=>trivial,fun _ _ h=>h,SD.seg hnd hQ hO rest _ _ _ w ho.2 (hf.put hd) hrest hk⟩
theorem SD.stepAny (hnd:fP ops=true){i c:Nat}{s:List (Nat × Nat)}{listed:Array Bool}{L:Slots}{a:Act}{w:World}{fuel:Nat}(hc:(kE c).isNone=true)(hf:dB n D L a)(h:SD P n ops Q S kp ((i,c)::s) L w)
 (hk:∀ L a w,dB n D L a→SD P n ops Q S kp s L w→Go.Sx.anyH P r ops QA S kp fuel (listed.setIfInBounds i true) a w):
 wpOpIn (Fw r) 0 P ops QA i (fun a' w'=>(∀ v,kp v i=true→S v w→S v w')∧Go.Sx.anyH P r ops QA S kp fuel (listed.setIfInBounds i true) a' w') a w:=by
 unfold SD at h;rw[Option.isNone_iff_eq_none.1 hc] at h;obtain⟨o,hi,hd,h⟩:=h;unfold wpOpIn;simp only[hi];rcases h with⟨hg,R,hev,hk2⟩|⟨hg,hrest⟩
 · rw[lW hf hg,if_pos rfl];exact(hev _ hf.cons).uponIn (fP.nd hnd hi) fun v w' hR=>⟨(hk2 v w' hR).1,hk _ _ _ (hf.put hd) (hk2 v w' hR).2⟩
 · rw[lW hf hg];simp only[Bool.false_eq_true,if_false];exact⟨fun _ _=>trivial,fun _ _ h=>h,hk _ _ _ (hf.put hd) hrest⟩
theorem Xu:∀ (t:Tz) (listed:Array Bool),gA ops kp t listed=true→∃ m,t.len=m+1
 | .leaf [],_,h=>by simp[gA] at h
 | .leaf ((i,c)::s),_,_=>⟨s.length,by simp[Tz.len]⟩
 | .fork [] a b,listed,h=>by
  simp only[gA,Bool.and_eq_true] at h;obtain⟨m,hm⟩:=Xu a listed h.1.1;exact⟨m,by simp[Tz.len,hm]⟩
 | .fork ((i,c)::s) a b,_,_=>⟨s.length+a.len,by simp[Tz.len];omega⟩
theorem fI.kid (hnd:fP ops=true)(hQ:∀ c a w,¬ QA (.panic c) a w)(hO:¬ LetsOut QA)(hq:∀ L a w,dB n D L a→Q L w→QA .normal a w):
 ∀ (t:Tz) (listed:Array Bool) (L:Slots) (a:Act) (w:World) (m:Nat),gA ops kp t listed=true→t.len=m+1→dB n D L a→fI P n ops Q S kp t L w→∀ i∈t.heads,
  wpOpIn (Fw r) 0 P ops QA i (fun a' w'=>(∀ v,kp v i=true→S v w→S v w')∧Go.Sx.anyH P r ops QA S kp m (listed.setIfInBounds i true) a' w') a w
 | .leaf [],_,_,_,_,_,ho,_,_,_,_,_=>by simp[gA] at ho
 | .leaf ((i,c)::s),listed,L,a,w,m,ho,hl,hf,h,j,hj=>by
  simp only[Tz.heads,List.mem_singleton] at hj;subst hj;simp only[gA,Bool.and_eq_true] at ho;have hm:m=s.length+0:=by simp[Tz.len] at hl;omega
  subst hm;refine SD.stepAny hnd ho.1.1 hf h fun L a w hf h=>SD.seg hnd hQ hO s _ L a w ho.1.2 hf h fun L a w hf h=>⟨by simpa using ho.2,hq L a w hf h⟩
 | .fork [] x y,listed,L,a,w,m,ho,hl,hf,h,j,hj=>by
  simp only[gA,Bool.and_eq_true,beq_iff_eq] at ho;simp only[Tz.len,List.length_nil,Nat.zero_add] at hl;simp only[Tz.heads,List.mem_append] at hj;have h':fI P n ops Q S kp x L w∧fI P n ops Q S kp y L w:=h;rcases hj with hj|hj
  · exact fI.kid hnd hQ hO hq x listed L a w m ho.1.1 hl hf h'.1 j hj
  · exact fI.kid hnd hQ hO hq y listed L a w m ho.1.2 (by rw[←ho.2];exact hl) hf h'.2 j hj
 | .fork ((i,c)::s) x y,listed,L,a,w,m,ho,hl,hf,h,j,hj=>by
  simp only[Tz.heads,List.mem_singleton] at hj;subst hj;simp only[gA,Bool.and_eq_true,beq_iff_eq] at ho;have hm:m=s.length+x.len:=by simp[Tz.len] at hl;omega
  subst hm;refine SD.stepAny hnd ho.1.1.1.1.1 hf h fun L a w hf h=>SD.seg hnd hQ hO s _ L a w ho.1.1.1.1.2 hf h fun L a w hf h=>?_;obtain⟨mx,hx⟩:=Xu x _ ho.1.1.2;have hy:y.len=mx+1:=by rw[←ho.2];exact hx
  rw[hx];refine⟨fun h0=>?_,fun k hk=>?_⟩
  · obtain⟨z,hz⟩:∃ z,z∈x.heads:=by
     have:∀ (t:Tz) (l:Array Bool),gA ops kp t l=true→∃ z,z∈t.heads:=by
      intro t
      induction t with
      | leaf s=>intro l h;cases s with
       | nil=>simp[gA] at h
       | cons a s=>exact⟨a.1,by simp[Tz.heads]⟩
      | fork s a b iha ihb=>intro l h;cases s with
       | nil=>
        simp only[gA,Bool.and_eq_true] at h;obtain⟨z,hz⟩:=iha l h.1.1;exact⟨z,by simp[Tz.heads,hz]⟩
       | cons a s=>exact⟨a.1,by simp[Tz.heads]⟩
     exact this x _ ho.1.1.2
    rw[ho.1.1.1.2] at h0;have:z∈x.heads++y.heads:=List.mem_append_left _ hz;rw[h0] at this;cases this
  · rw[ho.1.1.1.2] at hk;rcases List.mem_append.1 hk with hk|hk
    · exact fI.kid hnd hQ hO hq x _ L a w mx ho.1.1.2 hx hf h.1 k hk
    · exact fI.kid hnd hQ hO hq y _ L a w mx ho.1.2 hy hf h.2 k hk
theorem Mf:∀ (t:Tz) (l:Array Bool),gA ops kp t l=true→∃ z,z∈t.heads:=by
 intro t
 induction t with
 | leaf s=>intro l h;cases s with
  | nil=>simp[gA] at h
  | cons a s=>exact⟨a.1,by simp[Tz.heads]⟩
 | fork s a b iha ihb=>intro l h;cases s with
  | nil=>
   simp only[gA,Bool.and_eq_true] at h;obtain⟨z,hz⟩:=iha l h.1.1;exact⟨z,by simp[Tz.heads,hz]⟩
  | cons a s=>exact⟨a.1,by simp[Tz.heads]⟩
theorem fI.anyH (hnd:fP ops=true)(hQ:∀ c a w,¬ QA (.panic c) a w)(hO:¬ LetsOut QA)(hq:∀ L a w,dB n D L a→Q L w→QA .normal a w)(t:Tz)(listed:Array Bool)(L:Slots)(a:Act)(w:World)(ho:xS ops kp t listed=true)(hf:dB n D L a)(h:fI P n ops Q S kp t L w):
 Go.Sx.anyH P r ops QA S kp t.len listed a w:=by
 cases t with
 | leaf s=>
  simp only[xS,Bool.and_eq_true] at ho;exact SD.seg (fuel:=0) hnd hQ hO s listed L a w ho.1 hf h fun L a w hf h=>⟨by simpa using ho.2,hq L a w hf h⟩
 | fork s x y=>
  simp only[xS,Bool.and_eq_true,beq_iff_eq] at ho;obtain⟨mx,hx⟩:=Xu x _ ho.1.1.2;have hy:y.len=mx+1:=by rw[←ho.2];exact hx
  refine SD.seg (fuel:=x.len) hnd hQ hO s listed L a w ho.1.1.1.1 hf h fun L a w hf h=>?_;rw[hx];refine⟨fun h0=>?_,fun k hk=>?_⟩
  · obtain⟨z,hz⟩:=Mf (ops:=ops) (kp:=kp) x _ ho.1.1.2;rw[ho.1.1.1.2] at h0;have:z∈x.heads++y.heads:=List.mem_append_left _ hz;rw[h0] at this;cases this
  · rw[ho.1.1.1.2] at hk;rcases List.mem_append.1 hk with hk|hk
    · exact fI.kid hnd hQ hO hq x _ L a w mx ho.1.1.2 hx hf h.1 k hk
    · exact fI.kid hnd hQ hO hq y _ L a w mx ho.1.2 hy hf h.2 k hk
end
theorem cG {P:Program}{n:Nat}{ops:Array Oper}{Q:Slots→World→Prop}{S:Nat→World→Prop}{kp:Nat→Nat→Bool}{a b:Tz}{L:Slots}{w:World}(h1:fI P n ops Q S kp a L w)(h2:fI P n ops Q S kp b L w):SD P n ops (fun L w=>fI P n ops Q S kp a L w∧fI P n ops Q S kp b L w) S kp [] L w:=⟨h1,h2⟩
theorem bW {P:Program}{n:Nat}{ops:Array Oper}{Q:Slots→World→Prop}{S:Nat→World→Prop}{kp:Nat→Nat→Bool}{s:List (Nat × Nat)}{L:Slots}{w:World}(h:SD P n ops Q S kp s L w):fI P n ops Q S kp (.leaf s) L w:=h
theorem cN {P:Program}{n:Nat}{ops:Array Oper}{Q:Slots→World→Prop}{S:Nat→World→Prop}{kp:Nat→Nat→Bool}{s:List (Nat × Nat)}{a b:Tz}{L:Slots}{w:World}(h:SD P n ops (fun L w=>fI P n ops Q S kp a L w∧fI P n ops Q S kp b L w) S kp s L w):fI P n ops Q S kp (.fork s a b) L w:=h
end Go.Sx

end
section
namespace Go.Sx
open Go Go.RowKit
def dS (mss:List (List Nat))(w₀:World)(k:Nat)(w:World):Prop:=∀ ms,mss[k]? = some ms→Kp ms w₀ w
def P0 (tab:List (Nat × List Nat))(lv j:Nat):Bool:=tab.all fun x => !(Nat.beq x.1 j&&x.2.any (Nat.beq lv))
def sM (p:Nat→List Nat→Prop):Nat→List (List Nat)→Prop
 | _,[]=>True
 | k,ms::r=>p k ms∧sM p (k+1) r
theorem sM.get {p:Nat→List Nat→Prop}:∀ {l:List (List Nat)} {o:Nat},sM p o l→∀ k ms,l[k]? = some ms→p (o+k) ms
 | [],o,_,k,ms,h=>by simp at h
 | a::r,o,h,0,ms,hk=>by simp at hk;subst hk;exact h.1
 | a::r,o,h,k+1,ms,hk=>by
  have:=sM.get h.2 k ms (by simpa using hk);rw[show o+(k+1)=o+1+k from by omega];exact this
theorem Kz.ofGr {w w':World}(h:Gr w w'):Kz [] w w':=(Kz.refl [] w).gr h
theorem Kz.ofMd {w w':World}{b:Nat}(h:Md b w w'):Kz [(1,b)] w w':=(Kz.refl _ w).md h (by simp[gZ,Mz])
theorem Kz.ofKa {w w':World}{z g:Nat}(h:Ka z g w w'):Kz [(z,g)] w w':=(Kz.refl _ w).ka h (by by_cases hz:z=0<;>simp[gZ,Mz,hz])
theorem Pu (k:Nat):kE (k+10)=some k:=by
 have h1:Nat.beq (k+10) 1=false:=tZ (by omega);have h2:Nat.beq (k+10) 3=false:=tZ (by omega);have h3:Nat.ble 10 (k+10)=true:=Nat.ble_eq_true_of_le (by omega);unfold kE;rw[h1,h2,h3];simp
section
variable {P:Program} {n:Nat} {ops:Array Oper} {Q:Slots→World→Prop} {rest:List (Nat × Nat)} {i:Nat} {dst:Option Nat} {op:Op} {ty:TypeId} {pos:String} {af:Array Edge} {gu:Option (Nat × Bool)} {L:Slots} {w w₀:World} {mss:List (List Nat)} {kp:Nat→Nat→Bool} {ms:List Nat}
theorem Q0 {v:Value}(k:Nat)(hi:ops[i]? = some ⟨dst,op,ty,pos,af,gu⟩)(hg:gd ops L ⟨dst,op,ty,pos,af,gu⟩=some true)(hd:fL n dst=true)(hm:mss[k]? = some ms)(hS:Kp ms w₀ w)(hv:∀ w,Kp ms w₀ w→VV P L ⟨dst,op,ty,pos,af,gu⟩ w v)
 (h:SD P n ops Q (dS mss w₀) kp rest (cA dst v L) w):SD P n ops Q (dS mss w₀) kp ((i,k+10)::rest) L w:=by
 have hl:=Pu k;unfold SD;rw[hl];exact⟨_,v,hi,hd,fun ms' h'=>by rw[hm] at h';cases h';exact hS,.inl ⟨hg,fun w hw=>hv w (hw ms hm)⟩,h⟩
theorem Sh (k:Nat)(hi:ops[i]? = some ⟨dst,op,ty,pos,af,gu⟩)(hg:gd ops L ⟨dst,op,ty,pos,af,gu⟩=some false)(hd:fL n dst=true)(hm:mss[k]? = some ms)(hS:Kp ms w₀ w)
 (h:SD P n ops Q (dS mss w₀) kp rest (cA dst undef L) w):SD P n ops Q (dS mss w₀) kp ((i,k+10)::rest) L w:=by
 have hl:=Pu k;unfold SD;rw[hl];exact⟨_,undef,hi,hd,fun ms' h'=>by rw[hm] at h';cases h';exact hS,.inr ⟨hg,rfl⟩,h⟩
theorem Sg {t:Bool}(k:Nat)(hi:ops[i]? = some ⟨dst,op,ty,pos,af,gu⟩)(hg:gd ops L ⟨dst,op,ty,pos,af,gu⟩=some true)(hd:fL n dst=true)(hm:mss[k]? = some ms)(hS:Kp ms w₀ w)(hv:∀ w,Kp ms w₀ w→VV P L ⟨dst,op,ty,pos,af,gu⟩ w (.bool t))
 (ht:t=true→SD P n ops Q (dS mss w₀) kp rest (cA dst (.bool true) L) w) (hf:t=false→SD P n ops Q (dS mss w₀) kp rest (cA dst (.bool false) L) w):SD P n ops Q (dS mss w₀) kp ((i,k+10)::rest) L w:=by
 cases t with
 | true=>exact Q0 k hi hg hd hm hS hv (ht rfl)
 | false=>exact Q0 k hi hg hd hm hS hv (hf rfl)
theorem Sl {R:Value→World→Prop}(l:List (Nat × Nat))(hi:ops[i]? = some ⟨dst,op,ty,pos,af,gu⟩)(hg:gd ops L ⟨dst,op,ty,pos,af,gu⟩=some true)(hd:fL n dst=true)(hv:EV P L ⟨dst,op,ty,pos,af,gu⟩ w R)
 (hb:sM (fun k ms=>kp k i=true→fR l (ms.map fun b=>(1,b)) w₀.heap.size) 0 mss)
 (h:∀ v w',R v w'→Kz l w w'∧SD P n ops Q (dS mss w₀) kp rest (cA dst v L) w'):SD P n ops Q (dS mss w₀) kp ((i,0)::rest) L w:=
 ⟨_,hi,hd,.inl ⟨hg,R,hv,fun v w' hR=>⟨fun lv hk hS ms hm=>Kp.kz (hS ms hm) (h v w' hR).1 (by have:=hb.get lv ms hm;rw[Nat.zero_add] at this;exact this hk),(h v w' hR).2⟩⟩⟩
theorem Sj {v:Value}(hi:ops[i]? = some ⟨dst,op,ty,pos,af,gu⟩)(hg:gd ops L ⟨dst,op,ty,pos,af,gu⟩=some true)(hd:fL n dst=true)(hv:VV P L ⟨dst,op,ty,pos,af,gu⟩ w v)
 (h:SD P n ops Q (dS mss w₀) kp rest (cA dst v L) w):SD P n ops Q (dS mss w₀) kp ((i,0)::rest) L w:=
 ⟨_,hi,hd,.inl ⟨hg,_,hv.ev,fun v' w' ⟨h1,h2⟩=>by subst h1;subst h2;exact⟨fun _ _ h=>h,h⟩⟩⟩
theorem Si (hi:ops[i]? = some ⟨dst,op,ty,pos,af,gu⟩)(hg:gd ops L ⟨dst,op,ty,pos,af,gu⟩=some false)(hd:fL n dst=true)
 (h:SD P n ops Q (dS mss w₀) kp rest (cA dst undef L) w):SD P n ops Q (dS mss w₀) kp ((i,0)::rest) L w:=⟨_,hi,hd,.inr ⟨hg,h⟩⟩
end
theorem aX {q:Prop}(f:q:=by(try simp only[dY,fR,gZ,iQ,Mz,dX])<;>omega):q:=f
theorem aZ {p q:Prop}(h:p)(f:p→q:=by intro;(try simp only[dY,fR,gZ,iQ,Mz,dX])<;>omega):q:=f h
theorem dT {p1 p2 q:Prop}(h1:p1)(h2:p2)(f:p1→p2→q:=by intro _ _;(try simp only[dY,fR,gZ,iQ,Mz,dX])<;>omega):q:=f h1 h2
section
variable {A:Nat→Prop} {z g z' g' s z1 g1 z2 g2 z3 g3:Nat}
theorem gH (r:bJ ((g'=g∧z=1)∨s≤g'∨z'=0))(h:z=0∨A g)(f:∀ x,s≤x→A x:=by intro x hx;(try simp only[dY,fR,gZ,iQ,Mz,dX])<;>omega):z'=0∨A g':=by
 rcases r.o with⟨h1,h2⟩|h1|h1
 · rcases h with h|h
   · omega
   · exact .inr (h1 ▸ h)
 · exact .inr (f _ h1)
 · exact .inl h1
theorem aD (r:bJ (z=0∨s≤g))(f:∀ x,s≤x→A x:=by intro x hx;(try simp only[dY,fR,gZ,iQ,Mz,dX])<;>omega):z=0∨A g:=r.o.imp id (f g)
theorem aU (r:bJ (z=0∨(g=g1∧z1≠0)∨s≤g))(h1:z1=0∨A g1)(f:∀ x,s≤x→A x:=by intro x hx;(try simp only[dY,fR,gZ,iQ,Mz,dX])<;>omega):z=0∨A g:=by
 rcases r.o with h|⟨h,hz⟩|h
 · exact .inl h
 · exact .inr (h ▸ h1.resolve_left hz)
 · exact .inr (f _ h)
theorem eV (r:bJ (z=0∨(z=1∧g<s)))(f:∀ x,x<s→A x:=by intro x hx;(try simp only[dY,fR,gZ,iQ,Mz,dX])<;>omega):z=0∨A g:=r.o.imp id fun h=>f _ h.2
theorem dI (h:z=0∨z1=0∨g≠g1):z1=0∨z=0∨g1≠g:=by omega
end
theorem Vi {v:Value}(h:oneB v=true):v.cells=[v].toArray:=by cases v<;>first|rfl|cases h
theorem Cu {pl:Nat→Option (Nat × Nat)}{z cs:List Value}{i off:Nat}{v:Value}{r:List (Nat × Value)}(hp:pl i=some (off,1))(h1:oneB v=true)(hl:Nat.ble (off+1) z.length=true)(hr:kZ pl (eF z off [v]) r=some cs):kZ pl z ((i,v)::r)=some cs:=by
 unfold kZ;rw[hp];simp only[Vi h1];rw[if_pos ⟨rfl,Nat.le_of_ble_eq_true hl⟩];exact hr
theorem gC {pl:Nat→Option (Nat × Nat)}{z cs:List Value}{i off size:Nat}{v:Value}{r:List (Nat × Value)}(hp:pl i=some (off,size))(h1:v.cells.size=size)(hl:Nat.ble (off+size) z.length=true)(hr:kZ pl (eF z off v.cells.toList) r=some cs):kZ pl z ((i,v)::r)=some cs:=by
 unfold kZ;rw[hp];simp only[h1];rw[if_pos ⟨trivial,Nat.le_of_ble_eq_true hl⟩];exact hr
theorem Iv {P:Program}{r:Option Nat}{n:Nat}{Q:Exit→List Deferred→Slots→World→Prop}{D:List Deferred}{L:Slots}{w:World}{id:Nat}{ops:Array Oper}(mss:List (List Nat))(tab:List (Nat × List Nat))(t:Tz)(hm:P.follows .mixedOrders=true)(hnd:fP ops=true)(hlen:t.len=ops.size)
 (ho:xS ops (P0 tab) t (Array.replicate ops.size false)=true) (h:∀ w1,RowKit.Below w.heap.size w w1→w1.heap.size=w.heap.size→fI P n ops (fun L w=>Q .normal D L w) (dS mss w1) (P0 tab) t L w1):SW P r n (.region id ops true) Q D L w:=
 fun _ ha=>wpIn_region_any hm (by
  have:=(fI.anyH (r:=r) (D:=D) (QA:=P4 n Q) hnd (fun _ _ _=>Pq) Pp (fun L _ _ hf hq=>⟨D,L,hf,hq⟩) t _ L _ w.drew ho ha (h w.drew (RowKit.Below.refl _ _).drew rfl)).any
  rw[hlen] at this;exact this)
end Go.Sx

end
section
namespace Go.Sx
open Go Go.RowKit
def dM (base:Nat)(ks fp:List Nat)(W:World):Prop:=gB base ks W∧∀ k∈ks,k∉fp
section
variable {base b:Nat} {ks fp fp':List Nat} {W W':World}
theorem Ur (base:Nat)(fp:List Nat)(W:World):dM base [] fp W:=⟨Ut base W,fun _ h=>by cases h⟩
theorem dM.gr (h:dM base ks fp W)(g:Gr W W'):dM base ks fp W':=⟨h.1.gr g,h.2⟩
theorem dM.md {t:TypeId}{cs:List Value}(h:dM base ks fp W)(m:Md b W W')(hb:Bx W b t cs):dM base ks fp W':=⟨h.1.md m (fun hk=>by
 have h1:=(h.1.2 b hk).2
 unfold Df at h1;unfold Bx at hb;rw[hb] at h1;simp at h1),h.2⟩
theorem dM.mdl {W0:World}{fp0:List Nat}(h:dM base ks fp W)(m:Md b W W')(h0:dM base ks fp0 W0)(hb:W0.heap.size≤b):dM base ks fp W':=⟨h.1.md m (fun hk=>by
 have h1:=(h0.1.2 b hk).2.lt
 omega),h.2⟩
theorem dM.kp (h:dM base ks fp W)(k:Kp fp W W')(hg:∀ c∈fp',c∈fp∨W.heap.size≤c):dM base ks fp' W':=
 ⟨h.1.kp k h.2,fun j hj=>eH hg (h.2 j hj) (h.1.2 j hj).2.lt⟩
theorem dM.cons {W0:World}{fp0:List Nat}{D:Nat}(h:dM base ks fp W)(h0:dM base ks fp0 W0)(hD:W0.heap.size≤D)(hb:base≤W0.heap.size)(hd:Df W D)(hn:D∉fp):dM base (D::ks) fp W:=
 ⟨h.1.cons (by omega) hd fun hk=>by have:=(h0.1.2 D hk).2.lt;omega,fun j hj=>by
  rcases List.mem_cons.1 hj with rfl|hj
  · exact hn
  · exact h.2 j hj⟩
theorem dM.leave (h:dM base ks fp W):∃ wl,vT (oP ks) W wl∧Kp ks W wl:=h.1.leave
theorem dM.stb {J:Nat→List Nat→World→Prop}{k:Nat}(hJ:iE J)(h:dM base ks fp W)(j:J k fp W)(kl:Kp ks W W'):J k fp W':=
 hJ.keep j kl.env fun c hc=>kl.block c (hJ.lt j c hc) fun hk=>h.2 c hk hc
theorem dM.trans {w:World}{f:List Nat}(h:dM w.heap.size ks fp W)(K:Kp f w W)(kl:Kp ks W W'):Kp f w W':=K.trans kl fun c hc=>.inr (h.1.2 c hc).1
end
end Go.Sx
namespace Go.Sx
open Go Go.RowKit
theorem Sk {P:Program}{n:Nat}{ops:Array Oper}{Q:Slots→World→Prop}{rest:List (Nat × Nat)}{i:Nat}{dst:Option Nat}{op:Op}{ty:TypeId}{pos:String}{af:Array Edge}{gu:Option (Nat × Bool)}{L:Slots}{w w₀:World}{ms:List Nat}{kp:Nat→Nat→Bool}{R:Value→World→Prop}
 (hi:ops[i]? = some ⟨dst,op,ty,pos,af,gu⟩) (hg:gd ops L ⟨dst,op,ty,pos,af,gu⟩=some true) (hd:fL n dst=true) (hv:EV P L ⟨dst,op,ty,pos,af,gu⟩ w R)
 (h:∀ v w',R v w'→(Kp ms w₀ w→Kp ms w₀ w')∧SD P n ops Q (dS [ms] w₀) kp rest (cA dst v L) w'):SD P n ops Q (dS [ms] w₀) kp ((i,0)::rest) L w:=
 ⟨_,hi,hd,.inl ⟨hg,R,hv,fun v w' hR=>⟨fun lv _ hS ms' hm=>by
  cases lv with
  | zero=>simp at hm;subst hm;exact(h v w' hR).1 (hS _ rfl)
  | succ k=>simp at hm,(h v w' hR).2⟩⟩⟩
end Go.Sx

end
section
namespace Go.Sx
open Go
def jH (ks:List Int)(k:Int):List Int:=if k∈ks then ks else ks++[k]
theorem Mm {ks:List Int}{k:Int}(h:ks.Nodup):(jH ks k).Nodup:=by
 unfold jH;split
 · exact h
 · rename_i hn;rw[List.nodup_append];exact⟨h,by simp,fun a ha b hb=>by simp at hb;subst hb;rintro rfl;exact hn ha⟩
open Classical in
noncomputable def jG {σ R:Type}(F:Int→(σ→Option R)→σ→Option R)(d:σ→Option R):Nat→List Int→σ→Option R
 | 0,_,_=>none
 | n+1,rem,s=>if rem=[] then d s else if h:∃ r,∀ k∈rem,F k (jG F d n (rem.filter (· ≠ k))) s=some r then some (Classical.choose h) else none
theorem Ae {σ R:Type}{F:Int→(σ→Option R)→σ→Option R}{d:σ→Option R}{n:Nat}{rem:List Int}{s:σ}{r:R}(h:jG F d n rem s=some r)(hr:rem=[]):d s=some r:=by
 cases n with
 | zero=>cases h
 | succ n=>unfold jG at h;rw[if_pos hr] at h;exact h
theorem Ad {σ R:Type}{F:Int→(σ→Option R)→σ→Option R}{d:σ→Option R}{n:Nat}{rem:List Int}{s:σ}{r:R}{k:Int}(h:jG F d n rem s=some r)(hk:k∈rem):∃ m,n=m+1∧F k (jG F d m (rem.filter (· ≠ k))) s=some r:=by
 cases n with
 | zero=>cases h
 | succ n=>
  refine⟨n,rfl,?_⟩;unfold jG at h;rw[if_neg (by rintro rfl;cases hk)] at h
  split at h
  · rename_i hx;have:=Classical.choose_spec hx k hk;rw[this,h]
  · cases h
theorem Dx {σ R:Type}{F:Int→(σ→Option R)→σ→Option R}{d:σ→Option R}{r:R}(I:List Int→σ→Prop)(hd:∀ s,I [] s→d s=some r)(hs:∀ rem s k,k∈rem→I rem s→∃ s',I (rem.filter (· ≠ k)) s'∧∀ nx,F k nx s=nx s'):
 ∀ (n:Nat) (rem:List Int) (s:σ),rem.length<n→I rem s→jG F d n rem s=some r
 | 0,rem,s,h,_=>by omega
 | n+1,rem,s,h,hi=>by
  unfold jG;by_cases h0:rem=[]
  · rw[if_pos h0];subst h0;exact hd s hi
  · rw[if_neg h0]
    have hx:∀ k∈rem,F k (jG F d n (rem.filter (· ≠ k))) s=some r:=fun k hk=>by
     obtain⟨s',h1,h2⟩:=hs rem s k hk hi;rw[h2];refine Dx I hd hs n _ s' ?_ h1
     have:(rem.filter (· ≠ k)).length<rem.length:=by
      exact List.length_filter_lt_length_iff_exists.2 ⟨k,hk,by simp⟩
     omega
    have hex:∃ r,∀ k∈rem,F k (jG F d n (rem.filter (· ≠ k))) s=some r:=⟨r,hx⟩;rw[dif_pos hex];obtain⟨k,hk⟩:=List.exists_mem_of_ne_nil rem h0;have h1:=Classical.choose_spec hex k hk;rw[hx k hk] at h1;exact h1.symm
def sN {α:Type}(key:α→Int)(l:List α):Option (List α):=if(∀ x∈l,0≤key x∧key x<4611686018427387904)∧(l.map key).Nodup∧l.length<4611686018427387904 then some (l.mergeSort fun a b=>decide (key a≤key b)) else none
theorem Io {α:Type}{key:α→Int}{l m:List α}(h:sN key l=some m):m=l.mergeSort (fun a b=>decide (key a≤key b))∧(∀ x∈l,0≤key x∧key x<4611686018427387904)∧(l.map key).Nodup∧l.length<4611686018427387904:=by
 unfold sN at h;split at h
 · rename_i h1;exact⟨(Option.some.inj h).symm,h1⟩
 · cases h
end Go.Sx

end
section
namespace Go.Sx
open Go Go.RowKit
def jJ (ks:List Int):List MapEntry:=ks.zipIdx.map fun x=>⟨.int .i64 x.1,.bool true,x.2⟩
structure Mo (w:World)(b:Nat)(ks:List Int):Prop where
 nd:ks.Nodup
 row:w.heap[b]? = some (.map (jJ ks).toArray ks.length)
def pI (ks:List Int)(seen:List Nat):List Int:=(ks.zipIdx.filter fun x => !seen.contains x.2).map (·.1)
def Mi (w:World)(b m:Nat)(ks rem:List Int):Prop:=∃ seen:List Nat,w.heap[b]? = some (.mapIter (some m) ks.length seen.toArray ks.length)∧rem=pI ks seen
def Mk (w:World)(b m:Nat)(ks rem:List Int)(k:Int):Prop:=∃ (seen:List Nat) (i:Nat),w.heap[b]? = some (.mapIter (some m) ks.length (seen++[i]).toArray ks.length)∧rem=pI ks (seen++[i])∧ks[i]? = some k
section
variable {w w':World} {b m c z g:Nat} {ks rem:List Int} {k:Int} {l:List (Nat × Nat)}
theorem eD {o:Obj}(h:w.heap[b]? = some o):b<w.heap.size:=(Array.getElem?_eq_some_iff.1 h).1
theorem Mo.lt (h:Mo w b ks):b<w.heap.size:=eD h.row
theorem Mo.gr (h:Mo w b ks)(G:Gr w w'):Mo w' b ks:=⟨h.nd,(G.block b h.lt).trans h.row⟩
theorem Mo.md (h:Mo w b ks)(M:Md c w w')(ne:b≠c:=by omega):Mo w' b ks:=⟨h.nd,(M.block b ne).trans h.row⟩
theorem Mo.ka (h:Mo w b ks)(A:Ka z g w w')(hn:z=0∨g≠b:=by omega):Mo w' b ks:=⟨h.nd,(A.block b h.lt (by omega)).trans h.row⟩
theorem Mo.kz (h:Mo w b ks)(K:Kz l w w')(hn:dY l b:=by simp only[dY,fR,gZ,iQ,Mz,dX]<;>omega):Mo w' b ks:=⟨h.nd,(K.block b h.lt hn).trans h.row⟩
theorem Mi.lt (h:Mi w b m ks rem):b<w.heap.size:=by obtain⟨s,h,_⟩:=h;exact eD h
theorem Mi.gr (h:Mi w b m ks rem)(G:Gr w w'):Mi w' b m ks rem:=by obtain⟨s,h1,h2⟩:=h;exact⟨s,(G.block b (eD h1)).trans h1,h2⟩
theorem Mi.md (h:Mi w b m ks rem)(M:Md c w w')(ne:b≠c:=by omega):Mi w' b m ks rem:=by obtain⟨s,h1,h2⟩:=h;exact⟨s,(M.block b ne).trans h1,h2⟩
theorem Mi.ka (h:Mi w b m ks rem)(A:Ka z g w w')(hn:z=0∨g≠b:=by omega):Mi w' b m ks rem:=by obtain⟨s,h1,h2⟩:=h;exact⟨s,(A.block b (eD h1) (by omega)).trans h1,h2⟩
theorem Mi.kz (h:Mi w b m ks rem)(K:Kz l w w')(hn:dY l b:=by simp only[dY,fR,gZ,iQ,Mz,dX]<;>omega):Mi w' b m ks rem:=by obtain⟨s,h1,h2⟩:=h;exact⟨s,(K.block b (eD h1) hn).trans h1,h2⟩
theorem Mk.mi (h:Mk w b m ks rem k):Mi w b m ks rem:=by obtain⟨s,i,h1,h2,_⟩:=h;exact⟨_,h1,h2⟩
end
theorem Ez (ks:List Int):pI ks []=ks:=by
 unfold pI;have:(ks.zipIdx.filter fun x => !([]:List Nat).contains x.2)=ks.zipIdx:=List.filter_eq_self.2 (by simp);rw[this];simp
theorem Aa {ks:List Int}{seen:List Nat}{i:Nat}{k:Int}(hn:ks.Nodup)(hi:ks[i]? = some k):pI ks (seen++[i])=(pI ks seen).filter (· ≠ k):=by
 unfold pI;rw[List.filter_map,List.filter_filter];congr 1;apply List.filter_congr;rintro⟨x,j⟩ hx;have hj:ks[j]? = some x:=by simpa using List.mem_zipIdx_iff_getElem?.1 hx
 have:decide (x≠k) = !decide (j=i):=by
  by_cases e:j=i
  · subst e;rw[hi] at hj;cases hj;simp
  · have:x≠k:=by
     rintro rfl;obtain⟨p1,e1⟩:=List.getElem?_eq_some_iff.1 hi;obtain⟨p2,e2⟩:=List.getElem?_eq_some_iff.1 hj;exact e ((List.getElem_inj hn).1 (by rw[e1,e2]))
    simp[e,this]
 simp only[Function.comp,List.contains_append,Bool.not_or,this];rw[Bool.and_comm];congr 1;simp only[List.contains_cons,List.contains_nil,Bool.or_false];by_cases e:j=i<;>simp[e]
section
variable {P:Program} {L:Slots} {w:World} {dst:Option Nat} {ty:TypeId} {pos:String} {af:Array Edge} {gu:Option (Nat × Bool)} {x y:Operand} {t K E:TypeId} {b m:Nat} {ks rem:List Int} {k:Int}
structure yT (P:Program)(t K E:TypeId):Prop where
 und:P.underlying t=some (.map K E)
 key:P.underlying K=some (.int .i64)
 zero:∀ w,(zeroValue E).run P w=.ok (.bool false) w
theorem Cl:EV P L ⟨dst,.makeMap t none,ty,pos,af,gu⟩ w fun v' w'=>∃ b,v'=.map (some b)∧w.heap.size≤b∧Mo w' b []∧Gr w w':=fun ρ hρ=>by
 refine .val (.map (some w.heap.size)) (w.alloc (.map #[] 0)) (by simp[execOp,Instr.makeMap,go_sem]) ⟨_,rfl,Nat.le_refl _,⟨List.nodup_nil,heap_alloc_new w _⟩,(Below.refl _ _).alloc (Nat.le_refl _) _⟩
theorem Qn (k:Int):∀ (ks:List Int) (o i:Nat),Instr.findNow (.int .i64) (.int .i64 k) ((ks.zipIdx o).map fun x=>(⟨.int .i64 x.1,.bool true,x.2⟩:MapEntry)) i=some (if k∈ks then some (i+ks.idxOf k,.bool true) else none)
 | [],o,i=>by simp[Instr.findNow]
 | a::ks,o,i=>by
  rw[List.zipIdx_cons,List.map_cons];simp only[Instr.findNow,Instr.sameNow,if_true];by_cases h:k=a
  · subst h;simp
  · have hb:(k == a)=false:=by simpa using h
    have hb2:(a == k)=false:=by simpa using fun e=>h e.symm
    rw[hb];simp only;rw[Qn k ks (o+1) (i+1)];simp only[List.mem_cons,h,false_or,List.idxOf_cons,hb2,cond_false];congr 1
    split
    · congr 2;omega
    · rfl
theorem Vj (e:Bool)(n:Nat)(hk:P.underlying K=some (.int .i64)):(Instr.checkKey e (n+1) K (.int .i64 k)).run P w=.ok () w:=by
 unfold Instr.checkKey;simp only[Sem.run_bind,run_underlying hk,Result.andThen];rfl
theorem yZ (hm:yT P t K E)(hx:ev L x=some (.map (some b)))(hy:ev L y=some (.int .i64 k))(hb:Mo w b ks):VV P L ⟨dst,.lookup t x y false,ty,pos,af,gu⟩ w (.bool (decide (k∈ks))):=fun ρ hρ=>by
 refine iH ?_;rw[hρ _ _ hx,hρ _ _ hy];have hck:∀ e,(Instr.checkKey e 10000 K (.int .i64 k)).run P w=.ok () w:=fun e=>Vj e 9999 hm.key;have hf:Instr.findNow (.int .i64) (.int .i64 k) (jJ ks) 0=_:=Qn k ks 0 0;unfold Instr.lookup;simp only[Sem.run_bind,run_underlying hm.und,Result.andThen,MapKept.run_getObj_map hb.row,Sem.run_pure,hck];unfold Instr.findKey;simp only[Sem.run_bind,run_underlying hm.key,Result.andThen];rw[hf];by_cases h:k∈ks
 · simp[h]
 · simp[h,hm.zero w]
theorem Uu (ks:List Int)(k:Int):jJ (ks++[k])=jJ ks++[⟨.int .i64 k,.bool true,ks.length⟩]:=by
 unfold jJ;rw[List.zipIdx_append,List.map_append];simp
theorem Cm (hm:yT P t K E){z:Operand}(hx:ev L x=some (.map (some b)))(hy:ev L y=some (.int .i64 k))(hz:ev L z=some (.bool true))(hb:Mo w b ks):EV P L ⟨dst,.mapUpdate t x y z,ty,pos,af,gu⟩ w fun _ w'=>Mo w' b (jH ks k)∧Md b w w':=fun ρ hρ=>by
 have hck:(Instr.checkKey false 10000 K (.int .i64 k)).run P w=.ok () w:=Vj false 9999 hm.key;have hf:Instr.findNow (.int .i64) (.int .i64 k) (jJ ks) 0=_:=Qn k ks 0 0
 have hset:∀ o:Obj,(setObj b o).run P w=.ok () (w.putObj b o):=fun o=>by
  simp only[setObj,Sem.run,hb.row];rfl
 have key:∃ o:Obj,(Instr.mapUpdate t (.map (some b)) (.int .i64 k) (.bool true)).run P w=.ok () (w.putObj b o)∧o=.map (jJ (jH ks k)).toArray (jH ks k).length:=by
  unfold Instr.mapUpdate;simp only[Sem.run_bind,run_underlying hm.und,Result.andThen,MapKept.run_getObj_map hb.row,hck];unfold Instr.findKey;simp only[Sem.run_bind,run_underlying hm.key,Result.andThen];rw[hf];by_cases h:k∈ks
  · rw[if_pos h];simp only[Sem.run_pure,Nat.zero_add,Instr.keyThatStays];have hi:ks.idxOf k<ks.length:=List.idxOf_lt_length_of_mem h
    have hg:(jJ ks).toArray[ks.idxOf k]? = some ⟨.int .i64 k,.bool true,ks.idxOf k⟩:=by
     simp[jJ,hi]
    rw[hg];simp only[Option.map_some,Option.getD_some,Instr.sameBits,beq_self_eq_true,Bool.and_self,if_true,Sem.run_bind,Sem.run_pure,Result.andThen,hset,jH,if_pos h];refine⟨_,rfl,?_⟩;congr 1;apply Array.ext_getElem?;intro j;rw[Array.getElem?_modify];by_cases hj:ks.idxOf k=j
    · subst hj;rw[if_pos rfl,hg];rfl
    · rw[if_neg hj]
  · rw[if_neg h];simp only[Sem.run_pure,hset,jH,if_neg h];refine⟨_,rfl,?_⟩;rw[Uu];simp
 obtain⟨o,h1,rfl⟩:=key;refine .skip _ ?_ ⟨⟨Mm hb.nd,World.putObj_heap_same hb.lt⟩,Md.put b _⟩;simp[execOp,hρ _ _ hx,hρ _ _ hy,hρ _ _ hz,h1]
theorem Co (hm:yT P t K E)(hx:ev L x=some (.map (some m)))(hb:Mo w m ks):EV P L ⟨dst,.range t x,ty,pos,af,gu⟩ w fun v' w'=>∃ b,v'=.pointer (some ⟨b,0,none⟩)∧w.heap.size≤b∧Mi w' b m ks ks∧Gr w w':=fun ρ hρ=>by
 have h:=run_range_map (P:=P) w t K E m _ _ hm.und hb.row;refine .val _ _ (iH (by rw[hρ _ _ hx];exact h)) ⟨_,rfl,Nat.le_refl _,⟨[],heap_alloc_new w _,(Ez ks).symm⟩,(Below.refl _ _).alloc (Nat.le_refl _) _⟩
theorem Cn (hx:ev L x=some (.pointer (some ⟨b,0,none⟩)))(hb:Mo w m ks)(hi:Mi w b m ks rem):EV P L ⟨dst,.next x false,ty,pos,af,gu⟩ w fun v' w'=>
 (v'=.tuple [.bool false].toArray∧rem=[]∧Gr w w')∨(∃ k,k∈rem∧v'=.tuple [.bool true,.int .i64 k,.bool true].toArray∧Mk w' b m ks (rem.filter (· ≠ k)) k∧Md b w w'):=fun ρ hρ=>by
 obtain⟨seen,h1,rfl⟩:=hi
 have hold:∀ e∈(jJ ks).toArray.toList,e.born<ks.length:=by
  intro e he;obtain⟨⟨a,j⟩,hj,rfl⟩:=List.mem_map.1 he;have:=List.mem_zipIdx_iff_getElem?.1 hj;exact(List.getElem?_eq_some_iff.1 (by simpa using this)).1
 have hrun:∀ (r:Result Value),(Instr.next (.pointer (some ⟨b,0,none⟩)) false ty).run P w=r→(execOp ρ ⟨dst,.next x false,ty,pos,af,gu⟩).run P w=r.andThen fun v w'=>.ok (.value v) w':=fun r hr=>by
  simp only[execOp,hρ _ _ hx];rw[←hr];simp[Sem.run_bind]
 have hL:(Array.filter (fun e => !seen.toArray.contains e.born) (jJ ks).toArray).toList=(ks.zipIdx.filter fun x => !seen.contains x.2).map fun x=>(⟨.int .i64 x.1,.bool true,x.2⟩:MapEntry):=by
  simp[jJ,List.filter_map,Function.comp_def]
 have hmem:∀ e∈(Array.filter (fun e => !seen.toArray.contains e.born) (jJ ks).toArray).toList,e.born<ks.length:=fun e he=>hold e (by simp at he ⊢;exact he.1);have hn:(Instr.next (.pointer (some ⟨b,0,none⟩)) false ty).run P w=(Instr.next (.pointer (some ⟨b,0,none⟩)) false ty).run P w:=rfl
 conv at hn=>rhs;simp only[Instr.next,getObj,Sem.run_bind,Sem.run,h1,hb.row,Result.andThen,next_test_false seen.toArray (jJ ks).toArray ks.length ks.length hold (Nat.le_refl _),Bool.false_eq_true,if_false]
 generalize Array.filter (fun e => !seen.toArray.contains e.born) (jJ ks).toArray=A at hL hmem hn;have e1:A.filter (fun x=>decide (x.born<ks.length))=A:=Array.filter_eq_self.2 (fun x hx=>by simpa using hmem x (by simpa using hx))
 have e2:A.filter (fun x=>decide (x.born≥ks.length)) = #[]:=by
  rw[Array.filter_eq_empty_iff];intro x hx;have:=hmem x (by simpa using hx);simp;omega
 simp only[e1,e2,Array.append_empty] at hn;by_cases h0:A.size=0
 · have hA:A = #[]:=Array.eq_empty_of_size_eq_zero h0;subst hA;have h2:=hrun _ hn;refine .val (.tuple [.bool false].toArray) w ?_ (.inl ⟨rfl,?_,Gr.refl w⟩)
   · rw[h2];simp[choose,Sem.run,Question.forced,Result.andThen]
   · have:(ks.zipIdx.filter fun x => !seen.contains x.2)=[]:=by simpa using hL.symm
     unfold pI;rw[this];rfl
 · have hne:A.isEmpty=false:=by simp[Array.isEmpty,h0]
   simp only[hne,Bool.false_eq_true,if_false,Array.empty_append,Array.size_map] at hn
   have hch:∃ (j:Nat) (w1:World),j<A.size∧(w1=w∨w1=w.drew)∧(choose (Question.mapNext A.size)).run P w=.ok j w1:=by
    by_cases hf:A.size≤1
    · exact⟨0,w,by omega,.inl rfl,by simp[choose,Sem.run,Question.forced,hf]⟩
    · exact⟨_,w.drew,Nat.mod_lt _ (by omega),.inr rfl,by
       simp only[choose,Sem.run,Question.forced,decide_eq_true_eq,hf,if_false,Question.cut];rfl⟩
   obtain⟨j,w1,hj,hw1,hc⟩:=hch;have hw1h:w1.heap=w.heap:=by rcases hw1 with rfl|rfl<;>rfl
   have hset:∀ o:Obj,(setObj b o).run P w1=.ok () (w1.putObj b o):=fun o=>by
    have:w1.heap[b]? = some (.mapIter (some m) ks.length seen.toArray ks.length):=by rw[hw1h];exact h1
    simp only[setObj,Sem.run,this];rfl
   simp only[hc,Array.getElem?_map,Array.getElem?_eq_getElem hj,Option.map_some,hset,Sem.run_bind,Result.andThen] at hn;have hAj:A[j]∈A.toList:=by simp
   rw[hL] at hAj;obtain⟨⟨k,i⟩,hki,hkj⟩:=List.mem_map.1 hAj;have hki':=List.mem_filter.1 hki;have hi:ks[i]? = some k:=by simpa using List.mem_zipIdx_iff_getElem?.1 hki'.1
   rw[←hkj] at hn;have h2:=hrun _ hn
   have hmd:Md b w (w1.putObj b (.mapIter (some m) ks.length (seen.toArray.push i) ks.length)):=by
    have:Md b w1 (w1.putObj b (.mapIter (some m) ks.length (seen.toArray.push i) ks.length)):=Md.put b _;rcases hw1 with rfl|rfl
    · exact this
    · exact⟨this.os,this.tape,this.output,this.size,this.block⟩
   refine .val (.tuple [.bool true,.int .i64 k,.bool true].toArray) _ (by rw[h2];rfl) (.inr ⟨k,?_,rfl,⟨seen,i,?_,?_,hi⟩,hmd⟩)
   · exact List.mem_map.2 ⟨(k,i),hki,rfl⟩
   · have hbs:b<w1.heap.size:=by rw[hw1h];exact eD h1
     have:=World.putObj_heap_same (w:=w1) (o:=.mapIter (some m) ks.length (seen.toArray.push i) ks.length) hbs;rw[this];simp
   · exact(Aa hb.nd hi).symm
theorem Qa6 (hx:ev L x=some (.pointer (some ⟨b,0,none⟩)))(hb:Mo w m ks)(hi:Mk w b m ks rem k):VV P L ⟨dst,.entry x,ty,pos,af,gu⟩ w (.tuple [.int .i64 k,.bool true].toArray):=fun ρ hρ=>by
 obtain⟨seen,i,h1,_,h3⟩:=hi;refine iH ?_;rw[hρ _ _ hx]
 have hf:(jJ ks).toArray.find? (fun e=>e.born == i)=some ⟨.int .i64 k,.bool true,i⟩:=by
  rw[←Array.find?_toList]
  have hgen:∀ (ks:List Int) (o i:Nat),ks[i]? = some k→((ks.zipIdx o).map fun x=>(⟨.int .i64 x.1,.bool true,x.2⟩:MapEntry)).find? (fun e=>e.born == o+i)=some ⟨.int .i64 k,.bool true,o+i⟩:=by
   intro ks
   induction ks with
   | nil=>intro o i h;simp at h
   | cons a ks ih=>
    intro o i h;rw[List.zipIdx_cons,List.map_cons,List.find?_cons]
    cases i with
    | zero=>simp at h;subst h;simp
    | succ i=>
     have hne:(o == o+(i+1))=false:=by simp
     rw[hne];have:=ih (o+1) i (by simpa using h);rw[show o+1+i=o+(i+1) from by omega] at this;exact this
  have:=hgen ks 0 i h3;rw[Nat.zero_add] at this;exact this
 simp[Instr.entry,getObj,Sem.run,h1,hb.row,hf]
end
end Go.Sx

end
section
namespace Go.Sx
open Go Go.RowKit
theorem oN {P:Program}{n:Nat}{ops:Array Oper}{Q:Slots→World→Prop}{rest:List (Nat × Nat)}{i:Nat}{dst:Option Nat}{ty:TypeId}{pos:String}{af:Array Edge}{gu:Option (Nat × Bool)}{L:Slots}{w:World}
 {f:Nat} {fs cap:List Value} {x:Operand} {aas:Array Operand} {at_:Array TypeId} {vs:List Value} {fn:Func} {c:Code} (n':Nat) (hf:P.funcs[f]? = some fn) (hi:ops[i]? = some ⟨dst,.call { callee:=.value x,args:=aas,argTypes:=at_ },ty,pos,af,gu⟩)
 (hg:gd ops L ⟨dst,.call { callee:=.value x,args:=aas,argTypes:=at_ },ty,pos,af,gu⟩=some true) (hd:fL n dst=true) (hen:En P f) (hx:ev L x=some (.func (.func f) fs.toArray cap.toArray)) (hargs:lO L aas.toList=some vs)
 (hb:fn.body=some c) (hn:fn.ntmps=n') (hl:Nat.ble (fs++vs++cap).length n'=true)
 (h:SW P none n' c (Dw P fn (fun v w'=>SD P n ops Q (fun _ _=>True) (fun _ _=>false) rest (cA dst v L) w')) [] (tX 0 (fs++vs++cap)) w):SD P n ops Q (fun _ _=>True) (fun _ _=>false) ((i,0)::rest) L w:=
 Te hi hg hd (fZ hen hx hargs (bN n' hf hb hn hl h)) fun v w' hR=>hR
end Go.Sx

end
section
namespace Go.Sx
open Go
def xL (a b:Int):Int:=if a<b then b else a
def mW (a b:Int):Int:=if b<a then b else a
end Go.Sx

end
section
namespace Go.Sx
open Go Go.RowKit
theorem rF {α:Type}(a:α):∃ x,x=a:=⟨a,rfl⟩
section
variable {F:Fence} {n:Nat} {P:Program} {a:Act} {w:World} {Q:Exit→Act→World→Prop}
theorem vQ {b:Frame}{k:List Item}{cs:List Frame}{c:Code}:step P (lone (b.atR a (.code (.scope c)::k)) cs w)=.next (lone (b.atR a (.code c::.inScope c::k)) cs w):=step_lone_go (by simp[stepG,stepG.exec,Frame.atR])
theorem Iq {b:Frame}{k:List Item}{cs:List Frame}{c:Code}:step P (lone (b.atR a (.inScope c::k)) cs w)=.next (lone (b.atR a k) cs w):=step_lone_go (by simp[stepG,stepG.exec,Frame.atR])
def Uv (Q:Exit→Act→World→Prop):Exit→Act→World→Prop
 | .goto _,_,_=>False
 | e,a,w=>Q e a w
theorem Qat {c:Code}(h:c.wpIn F n P (Uv Q) a w):(Code.scope c).wpIn F n P Q a w:=by
 intro b k cs hro hb hr;have h0:(lone (b.atR a (.code (.scope c)::k)) cs w).fenced P F:=fenced_calm hb hr rfl;obtain⟨e,a₁,w₁,hq,harr⟩:=h b (.inScope c::k) cs hro hb hr
 cases e with
 | normal=>exact⟨.normal,a₁,w₁,hq,.head h0 vQ (StepsIn.trans harr (.one (fenced_calm hb hr rfl) Iq))⟩
 | exit id'=>
  have hx:exitTo id' (.inScope c::k)=exitTo id' k:=by simp[exitTo]
  exact⟨.exit id',a₁,w₁,hq,fun k' hk=>.head h0 vQ (harr.1 k' (by rw[hx];exact hk)),
   fun hr' hk=>let ⟨k₁,h1,h2⟩:=harr.2 hr' (by rw[hx];exact hk);⟨k₁,h1,.head h0 vQ h2⟩⟩
 | goto l=>exact hq.elim
 | ret=>exact⟨_,a₁,w₁,hq,.of_steps (.one h0 vQ) harr⟩
 | panic ch=>exact⟨_,a₁,w₁,hq,.of_steps (.one h0 vQ) harr⟩
 | outgrown=>exact⟨_,a₁,w₁,hq,.of_steps (.one h0 vQ) harr⟩
end
def Tc (Q:Exit→List Deferred→Slots→World→Prop):Exit→List Deferred→Slots→World→Prop
 | .goto _,_,_,_=>False
 | e,D,L,w=>Q e D L w
section
variable {P:Program} {r:Option Nat} {n:Nat} {Q:Exit→List Deferred→Slots→World→Prop} {D:List Deferred} {L:Slots} {w:World}
theorem Oc {c:Code}(h:SW P r n c (Tc Q) D L w):SW P r n (.scope c) Q D L w:=fun a ha=>Qat (wpIn_mono (h a ha) fun e a' w' hh=>by
 cases e with
 | goto l=>obtain⟨_,_,_,h⟩:=hh;exact h.elim
 | normal=>exact hh
 | exit id=>exact hh
 | ret=>exact hh
 | panic c=>exact hh
 | outgrown=>exact hh)
theorem Td (h:Q .ret D L w):Tc Q .ret D L w:=h
end
section
variable {P:Program} {L:Slots} {w:World} {dst:Option Nat} {ty:TypeId} {pos:String} {af:Array Edge} {gu:Option (Nat × Bool)} {x y q:Operand} {t t2 t3:TypeId} {a b c:Int} {k k2 k3:IntKind}
theorem Gl (hx:ev L x=some (.int k a))(hy:ev L y=some (.int k2 b)):VV P L ⟨dst,.call { callee:=.builtin .max,args := #[x,y],argTypes := #[t,t2] },ty,pos,af,gu⟩ w (.int k (xL a b)):=fun ρ hρ=>by
 simp[execOp,resolve,invoke,builtin,hρ _ _ hx,hρ _ _ hy,Builtin.max_,Builtin.max2,xL]
theorem Qah (hx:ev L x=some (.int k a))(hy:ev L y=some (.int k2 b)):VV P L ⟨dst,.call { callee:=.builtin .min,args := #[x,y],argTypes := #[t,t2] },ty,pos,af,gu⟩ w (.int k (mW a b)):=fun ρ hρ=>by
 simp[execOp,resolve,invoke,builtin,hρ _ _ hx,hρ _ _ hy,Builtin.min_,Builtin.min2,mW]
theorem Qai (hx:ev L x=some (.int k a))(hy:ev L y=some (.int k2 b))(hq:ev L q=some (.int k3 c)):VV P L ⟨dst,.call { callee:=.builtin .min,args := #[x,y,q],argTypes := #[t,t2,t3] },ty,pos,af,gu⟩ w (.int k (mW (mW a b) c)):=fun ρ hρ=>by
 simp[execOp,resolve,invoke,builtin,hρ _ _ hx,hρ _ _ hy,hρ _ _ hq,Builtin.min_,Builtin.min2];unfold mW;congr 3
variable {d e:BitVec 64}
end
def BA (P:Program)(t:TypeId)(sz:Nat)(z:List Value):Prop:=∃ n e,P.underlying t=some (.array n e)∧fO P e sz∧ZV P t (.agg z.toArray)
theorem vZ {P:Program}{L:Slots}{w:World}{dst:Option Nat}{ty:TypeId}{pos:String}{af:Array Edge}{gu:Option (Nat × Bool)}{t:TypeId}{sz:Nat}{z cs:List Value}{parts:Array (Nat × Operand)}{vs:List (Nat × Value)}(hb:BA P t sz z)(hp:rS L parts.toList=some vs)(hf:kZ (fun i=>some (i*sz,sz)) z vs=some cs):
 VV P L ⟨dst,.build t parts,ty,pos,af,gu⟩ w (.agg cs.toArray):=fun ρ hρ=>by
 obtain⟨n,e,hu,hs,hz⟩:=hb;have e1:(parts.map fun(x:Nat × Operand)=>(x.1,ρ x.2))=vs.toArray:=by rw[←hρ.mapP hp,←Array.toList_map]
 refine iH ?_;show(Instr.build t (parts.map fun(x:Nat × Operand)=>(x.1,ρ x.2))).run P w=_;rw[e1];simp only[Instr.build,Sem.run_bind,hz w,Result.andThen,run_underlying hu,hs w,Value.cells,H6 vs z cs hf];rfl
section
variable {P:Program} {L:Slots} {w:World} {dst:Option Nat} {ty:TypeId} {pos:String} {af:Array Edge} {gu:Option (Nat × Bool)} {x:Operand} {t u e:TypeId} {v:Value} {z g o sz:Nat} {α:Type} {l:List α} {c:α→List Value}
theorem Zy (hr:Rd w z g o sz v (l.map c)):(∃ cap,v=.slice none 0 cap∧l=[])∨∃ a k cap,v=.slice (some a) k cap:=by
 rcases hr.2 with⟨_,h,a,cap,rfl⟩|⟨_,cap,rfl,_⟩
 · cases a with
   | none=>exact .inl ⟨cap,rfl,by simpa using h⟩
   | some a=>exact .inr ⟨a,0,cap,rfl⟩
 · exact .inr ⟨_,_,_,rfl⟩
theorem Ah {P:Program}{a:Option Addr}{k cap:Nat}{w:World}(d:Nat)(hu:P.underlying t=some (.slice e)):(Op.equalIn (d+1) t (.slice a k cap) (.slice none 0 0)).run P w=.ok a.isNone w:=by
 cases a<;>simp[Op.equalIn,run_underlying hu]
theorem Ag {P:Program}{a:Option Addr}{k cap:Nat}{w:World}(hu:P.underlying t=some (.slice e)):(Op.equal t (.slice a k cap) (.slice none 0 0)).run P w=.ok a.isNone w:=by
 exact Ah 9999 hu
theorem vK {k cap:Nat}{a:Option Addr}(hu:P.underlying t=some (.slice e))(hx:ev L x=some v)(hv:v=.slice a k cap):VV P L ⟨dst,.binOp .eql t x (.const (.slice none 0 0)) u,ty,pos,af,gu⟩ w (.bool a.isNone):=fun ρ hρ=>by
 subst hv;simp[execOp,hρ _ _ hx,hρ (.const (.slice none 0 0)) _ rfl,go_sem,binOp,Ag hu]
end
section
variable {P:Program} {L:Slots} {w:World} {dst:Option Nat} {ty:TypeId} {pos:String} {af:Array Edge} {gu:Option (Nat × Bool)} {x y p q r:Operand} {t e:TypeId} {v:Value} {z g o sz N:Nat} {α:Type} {l m k:List α} {c:α→List Value} {lo hi:Int} {kl kh km:IntKind}
end
end Go.Sx

end
section
namespace Go.Sx
open Go Go.RowKit
theorem Qau (n:Int):IntKind.u8.wrap n=n%256:=by simp[IntKind.wrap,IntKind.bits,IntKind.signed]
theorem Di (x:BitVec 8):BitVec.ofInt 8 (bD x)=x:=by unfold bD;rw[BitVec.ofInt_natCast,BitVec.ofNat_toNat,BitVec.setWidth_eq]
theorem wr8 (x:BitVec 8):IntKind.u8.wrap (x.toNat:Int)=bD x:=by rw[Qau];unfold bD;have:=x.isLt;omega
theorem Nj (x y:BitVec 8):bits .xor .u8 (bD x) (bD y)=bD (x ^^^ y):=by
 show IntKind.u8.wrap ((BitVec.ofInt 8 (bD x) ^^^ BitVec.ofInt 8 (bD y)).toNat:Int)=_;rw[Di,Di,wr8]
section
variable {P:Program} {L:Slots} {w:World} {dst:Option Nat} {ty:TypeId} {pos:String} {af:Array Edge} {gu:Option (Nat × Bool)} {x y:Operand} {t u e:TypeId} {a b:BitVec 8}
theorem Gq (hx:ev L x=some (bv a))(hy:ev L y=some (bv b)):VV P L ⟨dst,.binOp .xor t x y u,ty,pos,af,gu⟩ w (bv (a ^^^ b)):=eX (vX (by simp) hx hy) (by rw[Nj])
theorem Cj {bt off cp z2 g2 o2:Nat}{tb:TypeId}{cs cs':List Value}{p:W2}{v:Value}{s:List (BitVec 8)}(ha:jL P t e 1 1)(hx:ev L x=some (.slice (some ⟨bt,off,none⟩) 16 cp))(hy:ev L y=some v)(hb:Bx w bt tb cs)(h:(cs.drop off).take 16=kb p)(hr:Rd w z2 g2 o2 1 v (s.map bF))
 (hl:Nat.ble (off+16) cs.length=true) (he:eF cs off (kb (kA (mR (dF p) s)))=cs'):
 EV P L ⟨dst,.call { callee:=.builtin .copy,args := #[x,y],argTypes := #[t,t] },ty,pos,af,gu⟩ w fun v' w'=>v'=.int .i64 (vB (dF p) s)∧Bx w' bt tb cs'∧Md bt w w':=fun ρ hρ=>by
 obtain⟨i,zv,hi,hzv,hsz,hby,hzs⟩:=ha.info;have hl':=Nat.le_of_ble_eq_true hl;have hs1:(P.info? e).map (·.size)=some 1:=by rw[hi];simp[hsz]
 have hkl:(mR (dF p) s).length=16:=by simp[mR,rI];omega
 have hkb:dF (kA (mR (dF p) s))=mR (dF p) s:=by rw[Qy (by omega),List.take_of_length_le (by omega)]
 have fin:∀ v' w',(Builtin.copy_ #[t,t] ty #[.slice (some ⟨bt,off,none⟩) 16 cp,v]).run P w=.ok v' w'→(execOp ρ ⟨dst,.call { callee:=.builtin .copy,args := #[x,y],argTypes := #[t,t] },ty,pos,af,gu⟩).run P w=.ok (.value v') w':=fun v' w' h1=>by
  simp[execOp,resolve,invoke,builtin,hρ _ _ hx,hρ _ _ hy,h1]
 have hkey:∀ m:List Value,(∃ k,k≤16∧m=(((s.map bF).flatten).take k)∧mR (dF p) s=s.take k++(dF p).drop k∧m.length=k)→eF cs off m=cs':=by
  rintro m ⟨k,hk,rfl,hc,hml⟩;rw[←he,rA,hkb,hc]
  have e0:((s.take k++(dF p).drop k).map bF).flatten=((s.map bF).flatten).take k++(kb p).drop k:=by
   have w1:Ws 1 (s.map bF):=fT _ (fun _=>rfl) (fun _=>rfl);have w2:Ws 1 ((dF p).map bF):=fT _ (fun _=>rfl) (fun _=>rfl);rw[List.map_append,List.flatten_append,List.map_take,List.map_drop,H7 _ _ w1,Qo _ _ w2,←rA,Nat.mul_one]
  have hkbl:(kb p).length=16:=rfl;have hlen:(((s.map bF).flatten).take k++(kb p).drop k).length=16:=by rw[List.length_append,hml,List.length_drop,hkbl];omega
  unfold eF;rw[e0,hlen,hml,←h];simp only[List.append_assoc];congr 2;rw[List.drop_take,List.drop_drop];have e1:off+16=off+k+(16-k):=by omega
  rw[e1,←List.drop_drop (i:=16-k) (j:=off+k),List.take_append_drop]
 rcases hr.2 with⟨hz2,hs0,a,cap,rfl⟩|⟨hz2,cap,rfl,eD,hcell⟩
 · have hs0':s=[]:=by simpa using hs0
   subst hs0';refine .val _ _ (fin _ _ (run_copy_none w t t ty e (some ⟨bt,off,none⟩) a 16 cp 0 cap ha.und hs1 (by simp))) ⟨by simp[vB,goInt],?_,Md.refl _ _⟩;rw[←hkey [] ⟨0,by omega,by simp,by simp[mR],rfl⟩,S0];exact hb
 · have hfs:(s.map bF).flatten.length=s.length:=by rw[hr.1.flat,List.length_map];omega
   have hvl:((s.map bF).flatten.take (min s.length 16)).length=min s.length 16:=by rw[List.length_take,hfs];omega
   have hld:(loadCells ⟨g2,o2,none⟩ (min s.length 16)).run P w=.ok ((s.map bF).flatten.take (min s.length 16)).toArray w:=by
    have:=run_loadCells_list (P:=P) w ⟨g2,o2,none⟩ ((s.map bF).flatten.take (min s.length 16)) (fun j u hj=>by
     rw[Addr.add_lit];refine hcell j u ?_;rw[List.getElem?_take] at hj
     split at hj
     · exact hj
     · cases hj)
    rw[hvl] at this;exact this
   have hone:∀ u∈(s.map bF).flatten.take (min s.length 16),u.oneCell'=true:=fun u hu=>hr.1.one u (List.mem_of_mem_take hu);obtain⟨w',hrun,hb',hmd⟩:=Jc (P:=P) (off:=off) _ 0 w cs hone hb (by rw[hvl];omega);refine .val _ w' (fin _ _ ?_) ⟨rfl,?_,hmd⟩
   · have e1:Nat.min (s.map bF).length 16=min s.length 16:=by rw[List.length_map]
     have e2:min s.length (dF p).length=min s.length 16:=by rw[rI]
     simp[Builtin.copy_,run_underlying ha.und,Builtin.lenOf,Builtin.firstCells,sizeOf,typeInfo,hi,hsz,hld,hrun,goInt,vB,e2]
   · rw[Nat.add_zero] at hb';rw[←hkey _ ⟨min s.length 16,by omega,rfl,?_,hvl⟩];exact hb';unfold mR;rw[rI];by_cases hle:s.length≤16
     · rw[Nat.min_eq_left hle,List.take_of_length_le (by omega),List.take_of_length_le (by omega)]
     · rw[Nat.min_eq_right (by omega),List.drop_eq_nil_of_le (by rw[rI];omega),List.drop_eq_nil_of_le (by rw[rI];omega)]
end
section
variable {P:Program} {L:Slots} {w:World} {dst:Option Nat} {ty:TypeId} {pos:String} {af:Array Edge} {gu:Option (Nat × Bool)} {x y:Operand} {t u e:TypeId}
theorem Gn {a:Int}(hx:ev L x=some (.int .i64 a)):VV P L ⟨dst,.unOp .neg t x,ty,pos,af,gu⟩ w (.int .i64 (aS (-a))):=fun ρ hρ=>by
 simp[execOp,hρ _ _ hx,go_sem]
theorem An {sz:Nat}{xs:List (List Value)}(hw:Ws sz xs){i:Nat}{c:List Value}(hi:xs[i]? = some c):(xs.flatten.drop (i*sz)).take sz=c:=by
 have hc:=(hw c (List.mem_of_getElem? hi)).1;apply List.ext_getElem?;intro q;by_cases hq:q<sz
 · rw[List.getElem?_take_of_lt hq,List.getElem?_drop];exact hw.at i q c hi hq
 · rw[List.getElem?_eq_none (by simp;omega),List.getElem?_eq_none (by omega)]
theorem Qad {len sz:Nat}{i:Int}{k:IntKind}{α:Type}{l:List α}{c:α→List Value}{a:α}{cs:List Value}(hu:P.underlying t=some (.array len e))(hs:fO P e sz)(ha:eG P e sz)(hx:ev L x=some (.agg cs.toArray))(hcs:cs=(l.map c).flatten)(hl:l.length=len)(hw:Ws sz (l.map c))(hy:ev L y=some (.int k i))(hg:cL l i=some a):
 VV P L ⟨dst,.index t x y,ty,pos,af,gu⟩ w (.agg (c a).toArray):=fun ρ hρ=>by
 have h0:=oX hg;have h1:=rU hg;have h1':i<(len:Int):=by omega
 have hp:(part e cs.toArray (i.toNat*sz)).run P w=.ok (.agg (c a).toArray) w:=rL ha (by rw[hcs];simpa using An hw (mY (nX hg)));refine iH ?_;rw[hρ _ _ hx,hρ _ _ hy];simp[Instr.index,run_underlying hu,asIntOf,h0,h1',hs w,hp]
theorem Gj {len b' off sz off':Nat}{i:Int}{k:IntKind}{α:Type}{l:List α}{a:α}(hu:P.underlying t=some (.array len e))(hs:fO P e sz)(hx:ev L x=some (.pointer (some ⟨b',off,none⟩)))(hy:ev L y=some (.int k i))(hg:cL l i=some a)(hl:l.length=len)(ho:off'=off+i.toNat*sz:=by rfl):
 VV P L ⟨dst,.indexAddr t x y,ty,pos,af,gu⟩ w (.pointer (some ⟨b',off',none⟩)):=by
 subst ho;exact oB hu hs hx hy (oX hg) (by have:=rU hg;omega)
theorem qJ {len b' off sz:Nat}{i:Int}{k:IntKind}(hu:P.underlying t=some (.array len e))(hs:fO P e sz)(hx:ev L x=some (.pointer (some ⟨b',off,none⟩)))(hy:ev L y=some (.int k i))(h0:0≤i∧i<len):
 VV P L ⟨dst,.indexAddr t x y,ty,pos,af,gu⟩ w (.pointer (some ⟨b',off+i.toNat*sz,none⟩)):=oB hu hs hx hy h0.1 h0.2
theorem Cq {b' o p q m sz:Nat}{tb:TypeId}{α:Type}{l l':List α}{c:α→List Value}{a a':α}{i:Int}{v:Value}{cs cs' vs:List Value}(hs:fO P t m)(hx:ev L x=some (.pointer (some ⟨b',p,none⟩)))(hy:ev L y=some v)(hc:v.cells=vs.toArray)(hm:vs.length=m)(h1:cZ vs=true)
 (hb:Bx w b' tb cs) (hw:Ws sz (l.map c)) (ha:cs=cs.take o++((l.map c).flatten++cs.drop (o+l.length*sz))) (hol:Nat.ble (o+l.length*sz) cs.length=true) (hg:cL l i=some a) (hp:p=o+(i.toNat*sz+q)) (hq:Nat.ble (q+m) sz=true) (he:eF (c a) q vs=c a') (hset:l.set i.toNat a'=l') (he':cs.take o++((l'.map c).flatten++cs.drop (o+l.length*sz))=cs'):
 EV P L ⟨dst,.store t x y,ty,pos,af,gu⟩ w fun _ w'=>Bx w' b' tb cs'∧Md b' w w':=by
 have hq':=Nat.le_of_ble_eq_true hq;have hol':=Nat.le_of_ble_eq_true hol;have hi:=nX hg;have hil:=(List.getElem?_eq_some_iff.1 hi).1;have hfl:(l.map c).flatten.length=l.length*sz:=by rw[hw.flat,List.length_map]
 have hin:i.toNat*sz+sz≤l.length*sz:=by rw[←Nat.succ_mul];exact Nat.mul_le_mul_right _ hil
 refine jX (off:=p) hs hx hy hc hm h1 hb (Nat.ble_eq_true_of_le (by omega)) ?_;rw[←he',←hset,List.map_set,←he,Qp _ _ _ _ _ hw (mY hi) (by omega)];have e1:(cs.take o).length=o:=by rw[List.length_take];omega
 generalize hF:(l.map c).flatten=F at *;generalize hT:cs.drop (o+l.length*sz)=T at *;generalize hH:cs.take o=H at *;rw[ha];unfold eF;rw[hp,show o+(i.toNat*sz+q)=H.length+(i.toNat*sz+q) from by rw[e1],List.take_length_add_append,List.take_append_of_le_length (by omega),Nat.add_assoc H.length,List.drop_length_add_append,List.drop_append_of_le_length (by omega)];simp only[List.append_assoc]
theorem Ao {α:Type}{a b y y':α}{i:Int}(h:cL [a,b] i=some y):[a,b].set i.toNat y'=[if i=0 then y' else a,if i=0 then b else y']:=by
 have h0:=oX h;have h1:=rU h;simp at h1;by_cases hi:i=0
 · subst hi;rfl
 · have:i=1:=by omega
   subst this;rfl
end
end Go.Sx

end
section
namespace Go.Sx
open Go Go.RowKit
structure Rp (α:Type) where
 γ:Type
 sz:Nat
 c:α × γ→List Value
 S:World→List Nat→α × γ→Prop
 ws:∀ {w F p},S w F p→(c p).length=sz∧cZ (c p)=true
 keep:∀ {w w' F p},S w F p→w.heap.size≤w'.heap.size→(∀ b∈F,b<w.heap.size→w'.heap[b]? = w.heap[b]?)→S w' F p
 mono:∀ {w F F' p},S w F p→(∀ b∈F,b∈F')→S w F' p
def fB {α:Type}(R:Rp α)(w:World)(z g:Nat)(e:TypeId)(v:Value)(F:List Nat)(l:List α):Prop:=
 ∃ lg:List (α × R.γ),lg.map Prod.fst=l∧aK w z g e R.sz v (lg.map R.c)∧(∀ p∈lg,R.S w F p)∧(∀ b∈F,b<w.heap.size)∧(z=0∨∀ b∈F,b≠g)
def fA {α:Type}(R:Rp α)(w:World)(z g o:Nat)(v:Value)(F:List Nat)(l:List α):Prop:=
 ∃ lg:List (α × R.γ),lg.map Prod.fst=l∧Rd w z g o R.sz v (lg.map R.c)∧(∀ p∈lg,R.S w F p)∧(∀ b∈F,b<w.heap.size)
section
variable {α:Type} {R:Rp α} {w w' w₁:World} {z g o b z' g':Nat} {e:TypeId} {v:Value} {F F':List Nat} {l:List α} {lz:List (Nat × Nat)} {ms:List Nat}
theorem fB.rd (h:fB R w z g e v F l):fA R w z g 0 v F l:=by
 obtain⟨lg,h1,h2,h3,h4,h5⟩:=h;exact⟨lg,h1,h2.rd,h3,h4⟩
theorem fB.keep (h:fB R w z g e v F l)(hs:w.heap.size≤w'.heap.size)(hg:z=0∨(g<w.heap.size→w'.heap[g]? = w.heap[g]?))(hF:∀ b∈F,b<w.heap.size→w'.heap[b]? = w.heap[b]?):fB R w' z g e v F l:=by
 obtain⟨lg,h1,h2,h3,h4,h5⟩:=h;exact⟨lg,h1,h2.keep hg,fun p hp=>R.keep (h3 p hp) hs hF,fun b hb=>Nat.lt_of_lt_of_le (h4 b hb) hs,h5⟩
theorem fA.keep (h:fA R w z g o v F l)(hs:w.heap.size≤w'.heap.size)(hg:z=0∨(g<w.heap.size→w'.heap[g]? = w.heap[g]?))(hF:∀ b∈F,b<w.heap.size→w'.heap[b]? = w.heap[b]?):fA R w' z g o v F l:=by
 obtain⟨lg,h1,h2,h3,h4⟩:=h;exact⟨lg,h1,h2.keep hg hs,fun p hp=>R.keep (h3 p hp) hs hF,fun b hb=>Nat.lt_of_lt_of_le (h4 b hb) hs⟩
theorem fB.gr (h:fB R w z g e v F l)(k:Gr w w'):fB R w' z g e v F l:=h.keep k.size (.inr fun hl=>k.block g hl) (fun b _ hl=>k.block b hl)
theorem fA.gr (h:fA R w z g o v F l)(k:Gr w w'):fA R w' z g o v F l:=h.keep k.size (.inr fun hl=>k.block g hl) (fun b _ hl=>k.block b hl)
theorem fB.md (h:fB R w z g e v F l)(k:Md b w w')(hn:z=0∨g≠b)(hF:∀ x∈F,1=0∨x≠b):fB R w' z g e v F l:=h.keep (Nat.le_of_eq k.size.symm) (hn.imp id fun hn _=>k.block g hn) (fun x hx _=>k.block x ((hF x hx).resolve_left (by decide)))
theorem fA.md (h:fA R w z g o v F l)(k:Md b w w')(hn:z=0∨g≠b)(hF:∀ x∈F,1=0∨x≠b):fA R w' z g o v F l:=h.keep (Nat.le_of_eq k.size.symm) (hn.imp id fun hn _=>k.block g hn) (fun x hx _=>k.block x ((hF x hx).resolve_left (by decide)))
theorem fB.ka (h:fB R w z g e v F l)(k:Ka z' g' w w')(hn:z=0∨z'=0∨g≠g')(hF:∀ x∈F,z'=0∨x≠g'):fB R w' z g e v F l:=h.keep k.size (hn.imp id fun hn hl=>k.block g hl hn) (fun x hx hl=>k.block x hl (hF x hx))
theorem fA.ka (h:fA R w z g o v F l)(k:Ka z' g' w w')(hn:z=0∨z'=0∨g≠g')(hF:∀ x∈F,z'=0∨x≠g'):fA R w' z g o v F l:=h.keep k.size (hn.imp id fun hn hl=>k.block g hl hn) (fun x hx hl=>k.block x hl (hF x hx))
theorem fB.kz (h:fB R w z g e v F l)(k:Kz lz w w')(hn:z=0∨dY lz g)(hF:∀ x∈F,dY lz x):fB R w' z g e v F l:=h.keep k.size (hn.imp id fun hn hl=>k.block g hl hn) (fun x hx hl=>k.block x hl (hF x hx))
theorem fA.kz (h:fA R w z g o v F l)(k:Kz lz w w')(hn:z=0∨dY lz g)(hF:∀ x∈F,dY lz x):fA R w' z g o v F l:=h.keep k.size (hn.imp id fun hn hl=>k.block g hl hn) (fun x hx hl=>k.block x hl (hF x hx))
theorem fB.kp (h:fB R w z g e v F l)(k:Kp ms w w')(hn:z=0∨g∉ms)(hF:∀ x∈F,x∉ms):fB R w' z g e v F l:=h.keep k.size (hn.imp id fun hn hl=>k.block g hl hn) (fun x hx hl=>k.block x hl (hF x hx))
theorem fA.kp (h:fA R w z g o v F l)(k:Kp ms w w')(hn:z=0∨g∉ms)(hF:∀ x∈F,x∉ms):fA R w' z g o v F l:=h.keep k.size (hn.imp id fun hn hl=>k.block g hl hn) (fun x hx hl=>k.block x hl (hF x hx))
theorem fB.lth (h:fB R w z g e v F l):bJ (z=0∨(z=1∧g<w.heap.size)):=by obtain⟨lg,h1,h2,_⟩:=h;exact h2.lth
theorem fA.lth (h:fA R w z g o v F l):bJ (z=0∨(z=1∧g<w.heap.size)):=by obtain⟨lg,h1,h2,_⟩:=h;exact h2.lth
theorem fB.oneB (h:fB R w z g e v F l):Sx.oneB v=true:=by obtain⟨lg,h1,h2,_⟩:=h;exact h2.oneB
theorem fA.oneB (h:fA R w z g o v F l):Sx.oneB v=true:=by obtain⟨lg,h1,h2,_⟩:=h;exact h2.oneB
theorem fB.z1 {i:Int}{a:α}(h:fB R w z g e v F l)(hg:cL l i=some a):z=1:=by
 obtain⟨lg,h1,h2,_⟩:=h;rcases h2.2 with⟨_,_,h0⟩|⟨h0,_⟩
 · have:=nX hg;rw[←h1,List.map_eq_nil_iff.1 h0] at this;simp at this
 · exact h0
theorem Ma {β:Type}{lg:List (α × β)}{i:Int}{a:α}(h:lg.map Prod.fst=l)(hg:cL l i=some a):∃ x,cL lg i=some (a,x):=by
 have h0:=oX hg;have h1:=nX hg;rw[←h,List.getElem?_map] at h1
 cases hx:lg[i.toNat]? with
 | none=>rw[hx] at h1;cases h1
 | some p=>
  rw[hx] at h1;have:p.1=a:=Option.some.inj h1;exact⟨p.2,by unfold cL;rw[if_pos h0,hx,←this]⟩
theorem fA.at {i:Int}{a:α}(h:fA R w z g o v F l)(hg:cL l i=some a):∃ (lg:List (α × R.γ)) (x:R.γ),Rd w z g o R.sz v (lg.map R.c)∧cL lg i=some (a,x)∧R.S w F (a,x):=by
 obtain⟨lg,h1,h2,h3,h4⟩:=h;obtain⟨x,hx⟩:=Ma h1 hg;exact⟨lg,x,h2,hx,h3 _ (List.mem_of_getElem? (nX hx))⟩
variable {P:Program} {L:Slots} {dst:Option Nat} {ty:TypeId} {pos:String} {af:Array Edge} {gu:Option (Nat × Bool)} {x y:Operand} {t:TypeId}
end
section
variable {α:Type} {R:Rp α} {w:World} {F F':List Nat} {l:List α} {v:Value}
end
section
variable {α β:Type} {w:World} {z g o k sz:Nat} {F:List Nat} {v:Value} {i:Int}
variable {R:Rp α} {l:List α} {a:α} {P:Program} {L:Slots} {dst:Option Nat} {ty:TypeId} {pos:String} {af:Array Edge} {gu:Option (Nat × Bool)} {x y:Operand} {t e:TypeId}
end
section
variable {A:Nat→Prop} {F F2 F3:List Nat} {z g n n2 x:Nat}
end
end Go.Sx

end
section
namespace Go.Sx
open Go Go.RowKit
def gP (b:Bool)(n:Nat)(ops:Array Oper)(L:Slots)(i:Nat):Option Oper:=
 match ops[i]? with
 | some o=>match gd ops L o with
  | some g=>bif (g == b)&&fL n o.dst then some o else none
  | none=>none
 | none=>none
theorem fW {b:Bool}{n:Nat}{ops:Array Oper}{L:Slots}{i:Nat}{o:Oper}(h:gP b n ops L i=some o):ops[i]? = some o∧gd ops L o=some b∧fL n o.dst=true:=by
 unfold gP at h
 split at h
 · rename_i o' ho
   split at h
   · rename_i g hg
     cases hc:(g == b)&&fL n o'.dst with
     | false=>rw[hc] at h;cases h
     | true=>
      rw[hc] at h;cases h;rw[Bool.and_eq_true] at hc;exact⟨ho,by rw[hg,beq_iff_eq.1 hc.1],hc.2⟩
   · cases h
 · cases h
def od:Nat→Nat→List (Nat × Nat)
 | 0,_=>[]
 | n+1,i=>(i,0)::od n (i+1)
theorem Dg:∀ n i,(od n i).map (·.1)=List.range' i n
 | 0,_=>rfl
 | n+1,i=>by rw[od,List.map_cons,Dg n (i+1)];rfl
theorem Dh:∀ n i,((od n i).all fun x=>(kE x.2).isNone)=true
 | 0,_=>rfl
 | n+1,i=>by rw[od,List.all_cons,Dh n (i+1)];rfl
section
variable {P:Program} {r:Option Nat} {n:Nat} {Q:Exit→List Deferred→Slots→World→Prop} {D:List Deferred} {L:Slots} {w:World}
theorem qr {id:Nat}{ops:Array Oper}(k:Nat)(hk:ops.size=k)(hnd:fP ops=true)(h:SD P n ops (fun L w=>Q .normal D L w) (fun _ _=>True) (fun _ _=>false) (od k 0) L w):SW P r n (.region id ops false) Q D L w:=
 Ob (od k 0) hnd (Dh k 0) (by rw[Dg,hk,List.range_eq_range']) h
theorem Dq {id:Nat}{ops:Array Oper}{y:Code}(k:Nat)(hk:ops.size=k)(hnd:fP ops=true)(h:SD P n ops (fun L w=>iG (fun D L w=>SW P r n y Q D L w) Q .normal D L w) (fun _ _=>True) (fun _ _=>false) (od k 0) L w):SW P r n (.seq (.region id ops false) y) Q D L w:=
 aP (qr k hk hnd h)
theorem qj {x y:Code}{β:Type}(dead:List Nat)(dyn:β→Slots)(J:β→World→Prop)(h:SW P r n x (iG (fun D1 L1 w1=>D1=D∧∃ b,iA (dyn b++iB dead L) L1∧J b w1) Q) D L w)(hk:∀ b w1,J b w1→SW P r n y Q D (dyn b++iB dead L) w1):SW P r n (.seq x y) Q D L w:=Iw dead dyn J hk h
end
theorem aW {A B:Slots}(h:iA A B:=by repeat' first|exact trivial|refine⟨rfl,?_⟩):iA A B:=h
section
variable {P:Program} {n:Nat} {ops:Array Oper} {Q:Slots→World→Prop} {rest:List (Nat × Nat)} {i:Nat} {dst:Option Nat} {op:Op} {ty:TypeId} {pos:String} {af:Array Edge} {gu:Option (Nat × Bool)} {L:Slots} {w:World}
theorem qv {v:Value}(hi:gP true n ops L i=some ⟨dst,op,ty,pos,af,gu⟩)(hv:VV P L ⟨dst,op,ty,pos,af,gu⟩ w v)(h:SD P n ops Q (fun _ _=>True) (fun _ _=>false) rest (cA dst v L) w):SD P n ops Q (fun _ _=>True) (fun _ _=>false) ((i,0)::rest) L w:=
 L2 (fW hi).1 (fW hi).2.1 (fW hi).2.2 hv h
theorem qe {R:Value→World→Prop}(hi:gP true n ops L i=some ⟨dst,op,ty,pos,af,gu⟩)(hv:EV P L ⟨dst,op,ty,pos,af,gu⟩ w R)(h:∀ v w',R v w'→SD P n ops Q (fun _ _=>True) (fun _ _=>false) rest (cA dst v L) w'):SD P n ops Q (fun _ _=>True) (fun _ _=>false) ((i,0)::rest) L w:=
 Te (fW hi).1 (fW hi).2.1 (fW hi).2.2 hv h
theorem qk (hi:gP false n ops L i=some ⟨dst,op,ty,pos,af,gu⟩)(h:SD P n ops Q (fun _ _=>True) (fun _ _=>false) rest (cA dst undef L) w):SD P n ops Q (fun _ _=>True) (fun _ _=>false) ((i,0)::rest) L w:=
 Aj (fW hi).1 (fW hi).2.1 (fW hi).2.2 h
theorem qp {t:Bool}(hi:gP true n ops L i=some ⟨dst,op,ty,pos,af,gu⟩)(hv:VV P L ⟨dst,op,ty,pos,af,gu⟩ w (.bool t))(ht:t=true→SD P n ops Q (fun _ _=>True) (fun _ _=>false) rest (cA dst (.bool true) L) w)(hf:t=false→SD P n ops Q (fun _ _=>True) (fun _ _=>false) rest (cA dst (.bool false) L) w):SD P n ops Q (fun _ _=>True) (fun _ _=>false) ((i,0)::rest) L w:=
 Ak (fW hi).1 (fW hi).2.1 (fW hi).2.2 hv ht hf
theorem qt {R:Value→Nat→Prop}(hi:gP true n ops L i=some ⟨dst,op,ty,pos,af,gu⟩)(hv:∃ v o,(∀ w1,VV P L ⟨dst,op,ty,pos,af,gu⟩ w1 v)∧R v o)(h:∀ v o,R v o→SD P n ops Q (fun _ _=>True) (fun _ _=>false) rest (cA dst v L) w):SD P n ops Q (fun _ _=>True) (fun _ _=>false) ((i,0)::rest) L w:=by
 obtain⟨v,o,h1,h2⟩:=hv;exact qv hi (h1 w) (h v o h2)
variable {w₀:World} {mss:List (List Nat)} {ms:List Nat} {kp:Nat→Nat→Bool}
theorem qh {v:Value}(k:Nat)(hi:gP true n ops L i=some ⟨dst,op,ty,pos,af,gu⟩)(hm:mss[k]? = some ms)(hS:Kp ms w₀ w)(hv:∀ w,Kp ms w₀ w→VV P L ⟨dst,op,ty,pos,af,gu⟩ w v)(h:SD P n ops Q (dS mss w₀) kp rest (cA dst v L) w):SD P n ops Q (dS mss w₀) kp ((i,k+10)::rest) L w:=
 Q0 k (fW hi).1 (fW hi).2.1 (fW hi).2.2 hm hS hv h
theorem qx (k:Nat)(hi:gP false n ops L i=some ⟨dst,op,ty,pos,af,gu⟩)(hm:mss[k]? = some ms)(hS:Kp ms w₀ w)(h:SD P n ops Q (dS mss w₀) kp rest (cA dst undef L) w):SD P n ops Q (dS mss w₀) kp ((i,k+10)::rest) L w:=
 Sh k (fW hi).1 (fW hi).2.1 (fW hi).2.2 hm hS h
theorem qq {t:Bool}(k:Nat)(hi:gP true n ops L i=some ⟨dst,op,ty,pos,af,gu⟩)(hm:mss[k]? = some ms)(hS:Kp ms w₀ w)(hv:∀ w,Kp ms w₀ w→VV P L ⟨dst,op,ty,pos,af,gu⟩ w (.bool t))(ht:t=true→SD P n ops Q (dS mss w₀) kp rest (cA dst (.bool true) L) w)(hf:t=false→SD P n ops Q (dS mss w₀) kp rest (cA dst (.bool false) L) w):SD P n ops Q (dS mss w₀) kp ((i,k+10)::rest) L w:=
 Sg k (fW hi).1 (fW hi).2.1 (fW hi).2.2 hm hS hv ht hf
theorem qz {R:Value→World→Prop}(l:List (Nat × Nat))(hi:gP true n ops L i=some ⟨dst,op,ty,pos,af,gu⟩)(hv:EV P L ⟨dst,op,ty,pos,af,gu⟩ w R)(hb:sM (fun k ms=>kp k i=true→fR l (ms.map fun b=>(1,b)) w₀.heap.size) 0 mss)(h:∀ v w',R v w'→Kz l w w'∧SD P n ops Q (dS mss w₀) kp rest (cA dst v L) w'):SD P n ops Q (dS mss w₀) kp ((i,0)::rest) L w:=
 Sl l (fW hi).1 (fW hi).2.1 (fW hi).2.2 hv hb h
theorem qw {v:Value}(hi:gP true n ops L i=some ⟨dst,op,ty,pos,af,gu⟩)(hv:VV P L ⟨dst,op,ty,pos,af,gu⟩ w v)(h:SD P n ops Q (dS mss w₀) kp rest (cA dst v L) w):SD P n ops Q (dS mss w₀) kp ((i,0)::rest) L w:=
 Sj (fW hi).1 (fW hi).2.1 (fW hi).2.2 hv h
theorem qy (hi:gP false n ops L i=some ⟨dst,op,ty,pos,af,gu⟩)(h:SD P n ops Q (dS mss w₀) kp rest (cA dst undef L) w):SD P n ops Q (dS mss w₀) kp ((i,0)::rest) L w:=
 Si (fW hi).1 (fW hi).2.1 (fW hi).2.2 h
end
theorem iT {p:Prop}[Decidable p]{α:Type}{a b:Option α}{r:α}(h:decide p=true)(hm:(if p then a else b)=some r):a=some r:=oK (of_decide_eq_true h) hm
theorem iF {p:Prop}[Decidable p]{α:Type}{a b:Option α}{r:α}(h:decide p=false)(hm:(if p then a else b)=some r):b=some r:=oJ (of_decide_eq_false h) hm
def Xy:List Value→Nat→Option Value
 | [],_=>none
 | v::_,0=>some v
 | _::r,k+1=>Xy r k
theorem Db:∀ {l:List Value} {k:Nat} {v:Value},Xy l k=some v→l[k]? = some v
 | [],_,_,h=>by cases h
 | a::r,0,v,h=>h
 | a::r,k+1,v,h=>by rw[List.getElem?_cons_succ];exact Db h
def N6 (L:Slots):Op→Option Value
 | .move x=>ev L x
 | .assign x=>ev L x
 | .extract x q=>match ev L x with
  | some (.tuple vs)=>Xy vs.toList q
  | _=>none
 | .pick c a b=>match ev L c with
  | some (.bool t)=>bif t then ev L a else ev L b
  | _=>none
 | _=>none
theorem Dp {P:Program}{L:Slots}{dst:Option Nat}{op:Op}{ty:TypeId}{pos:String}{af:Array Edge}{gu:Option (Nat × Bool)}{v:Value}(h:N6 L op=some v)(w:World):VV P L ⟨dst,op,ty,pos,af,gu⟩ w v:=by
 unfold N6 at h
 split at h
 · exact aA h
 · exact eQ h
 · split at h
   · rename_i x q _ vs hx;exact Qa9 (vs:=vs.toList) (by rw[hx]) (Db h)
   · cases h
 · split at h
   · rename_i c a b _ t hc
     cases t with
     | true=>exact Qam hc h
     | false=>exact Qal hc h
   · cases h
 · cases h
def uO (n:Nat)(ops:Array Oper)(L:Slots)(i:Nat):Option (Option Nat × Value):=
 match ops[i]? with
 | some o=>match gd ops L o with
  | some true=>match N6 L o.op with
   | some v=>bif fL n o.dst then some (o.dst,v) else none
   | none=>none
  | _=>none
 | none=>none
theorem Tp {n:Nat}{ops:Array Oper}{L:Slots}{i:Nat}{dst:Option Nat}{v:Value}(h:uO n ops L i=some (dst,v)):∃ op ty pos af gu,ops[i]? = some ⟨dst,op,ty,pos,af,gu⟩∧gd ops L ⟨dst,op,ty,pos,af,gu⟩=some true∧fL n dst=true∧N6 L op=some v:=by
 unfold uO at h
 split at h
 · rename_i o ho
   split at h
   · rename_i hg
     split at h
     · rename_i v' hv
       cases hc:fL n o.dst with
       | false=>rw[hc] at h;cases h
       | true=>
        rw[hc] at h;cases h;exact⟨_,_,_,_,_,ho,hg,hc,hv⟩
     · cases h
   · cases h
 · cases h
def xM (ops:Array Oper)(k:Nat):Bool:=Nat.beq ops.size k&&fP ops
theorem uI {ops:Array Oper}{k:Nat}(h:xM ops k=true):ops.size=k∧fP ops=true:=by
 unfold xM at h;rw[Bool.and_eq_true] at h;exact⟨Nat.eq_of_beq_eq_true h.1,h.2⟩
section
variable {P:Program} {r:Option Nat} {n:Nat} {Q:Exit→List Deferred→Slots→World→Prop} {K:List Deferred→Slots→World→Prop} {D:List Deferred} {L:Slots} {w:World} {S:Nat→World→Prop} {kp:Nat→Nat→Bool}
theorem qd {id:Nat}{ops ops':Array Oper}{y:Code}(k:Nat)(hk:xM ops k=true)(h:SD P n ops (fun L w=>iG (fun D L w=>SW P r n y Q D L w) Q .normal D L w) (fun _ _=>True) (fun _ _=>false) (od k 0) L w):
 SD P n ops' (fun L w=>iG (fun D L w=>SW P r n (.seq (.region id ops false) y) Q D L w) Q .normal D L w) S kp [] L w:=aQ (Dq k (uI hk).1 (uI hk).2 h)
theorem qs {id:Nat}{ops:Array Oper}{y:Code}(k:Nat)(hk:xM ops k=true)(h:SD P n ops (fun L w=>iG (fun D L w=>SW P r n y Q D L w) Q .normal D L w) (fun _ _=>True) (fun _ _=>false) (od k 0) L w):SW P r n (.seq (.region id ops false) y) Q D L w:=
 Dq k (uI hk).1 (uI hk).2 h
theorem qg {id:Nat}{ops:Array Oper}(k:Nat)(hk:xM ops k=true)(h:SD P n ops (fun L w=>Q .normal D L w) (fun _ _=>True) (fun _ _=>false) (od k 0) L w):SW P r n (.region id ops false) Q D L w:=
 qr k (uI hk).1 (uI hk).2 h
theorem qb {ops:Array Oper}{K:List Deferred→Slots→World→Prop}(h:Q .ret D L w):SD P n ops (fun L w=>iG (fun D L w=>SW P r n .ret (iG K Q) D L w) (iG K Q) .normal D L w) S kp [] L w:=aQ (aB (bM h))
theorem qu {y:Code}(h:SW P r n y Q D L w):SW P r n .skip (iG (fun D L w=>SW P r n y Q D L w) Q) D L w:=fJ (bO h)
end
section
variable {P:Program} {n:Nat} {ops:Array Oper} {Q:Slots→World→Prop} {rest:List (Nat × Nat)} {i:Nat} {dst:Option Nat} {op:Op} {ty:TypeId} {pos:String} {af:Array Edge} {gu:Option (Nat × Bool)} {L:Slots} {w w₀:World} {v:Value} {mss:List (List Nat)} {ms:List Nat} {kp:Nat→Nat→Bool}
theorem qm (h0:uO n ops L i=some (dst,v))(h:SD P n ops Q (fun _ _=>True) (fun _ _=>false) rest (cA dst v L) w):SD P n ops Q (fun _ _=>True) (fun _ _=>false) ((i,0)::rest) L w:=by
 obtain⟨op,ty,pos,af,gu,h1,h2,h3,h4⟩:=Tp h0;exact L2 h1 h2 h3 (Dp h4 w) h
theorem dn (k:Nat)(h0:uO n ops L i=some (dst,v))(hm:mss[k]? = some ms)(hS:Kp ms w₀ w)(h:SD P n ops Q (dS mss w₀) kp rest (cA dst v L) w):SD P n ops Q (dS mss w₀) kp ((i,k+10)::rest) L w:=by
 obtain⟨op,ty,pos,af,gu,h1,h2,h3,h4⟩:=Tp h0;exact Q0 k h1 h2 h3 hm hS (fun w _=>Dp h4 w) h
theorem dm (k:Nat)(h0:uO n ops L i=some (dst,v))(hm:mss[k]? = some ms)(h:SD P n ops Q (dS mss w₀) kp rest (cA dst v L) w₀):SD P n ops Q (dS mss w₀) kp ((i,k+10)::rest) L w₀:=dn k h0 hm (Kp.refl _ _) h
theorem dh {v:Value}(k:Nat)(hi:gP true n ops L i=some ⟨dst,op,ty,pos,af,gu⟩)(hm:mss[k]? = some ms)(hv:∀ w,Kp ms w₀ w→VV P L ⟨dst,op,ty,pos,af,gu⟩ w v)(h:SD P n ops Q (dS mss w₀) kp rest (cA dst v L) w₀):SD P n ops Q (dS mss w₀) kp ((i,k+10)::rest) L w₀:=
 qh k hi hm (Kp.refl _ _) hv h
theorem dx (k:Nat)(hi:gP false n ops L i=some ⟨dst,op,ty,pos,af,gu⟩)(hm:mss[k]? = some ms)(h:SD P n ops Q (dS mss w₀) kp rest (cA dst undef L) w₀):SD P n ops Q (dS mss w₀) kp ((i,k+10)::rest) L w₀:=
 qx k hi hm (Kp.refl _ _) h
end
section
variable {P:Program} {L:Slots} {w:World} {dst:Option Nat} {ty:TypeId} {pos:String} {af:Array Edge} {gu:Option (Nat × Bool)} {x y:Operand} {t:TypeId}
theorem aR {b' m:Nat}{tb:TypeId}{cs vs:List Value}(hs:eG P t m)(hx:ev L x=some (.pointer (some ⟨b',0,none⟩)))(hy:ev L y=some (.agg vs.toArray))(h1:cZ vs=true)(hb:Bx w b' tb cs)(hm:vs.length=m)(hl:cs.length=m):
 EV P L ⟨dst,.store t x y,ty,pos,af,gu⟩ w fun _ w'=>Bx w' b' tb vs∧Md b' w w':=
 jX hs.siz hx hy rfl hm h1 hb (by rw[hl,Nat.zero_add];exact Nat.ble_eq_true_of_le (Nat.le_refl _)) (by unfold eF;rw[List.take_zero,List.nil_append,Nat.zero_add,List.drop_eq_nil_of_le (by omega),List.append_nil])
end
theorem bX {w:World}:Kz [] w w:=Kz.refl _ _
section
variable {b z g z' g' s z1 g1 z2 g2 z3 g3:Nat}
theorem sK (r:bJ ((g'=g∧z=1)∨s≤g'∨z'=0))(h:z=0∨g≠b)(f:s≤b→False:=by omega):z'=0∨g'≠b:=gH (A:=(· ≠ b)) r h (fun x hx e=>f (e ▸ hx))
theorem aC (r:bJ (z=0∨s≤g))(f:s≤b→False:=by omega):z=0∨g≠b:=aD (A:=(· ≠ b)) r (fun x hx e=>f (e ▸ hx))
theorem aV (r:bJ (z=0∨(g=g1∧z1≠0)∨s≤g))(h1:z1=0∨g1≠b)(f:s≤b→False:=by omega):z=0∨g≠b:=aU (A:=(· ≠ b)) r h1 (fun x hx e=>f (e ▸ hx))
theorem aG (r:bJ (z=0∨(z=1∧g<s)))(f:b<s→False:=by omega):z=0∨g≠b:=eV (A:=(· ≠ b)) r (fun x hx e=>f (e ▸ hx))
end
def rg:Nat→Nat→List Nat
 | _,0=>[]
 | a,n+1=>a::rg (a+1) n
theorem kG {w w':World}{p:Prop}(h:Gr w w')(k:p):Kz [] w w'∧p:=⟨Kz.ofGr h,k⟩
theorem kM {w w':World}{b:Nat}{p:Prop}(h:Md b w w')(k:p):Kz [(1,b)] w w'∧p:=⟨Kz.ofMd h,k⟩
theorem dw {P:Program}{r:Option Nat}{n:Nat}{Q:Exit→List Deferred→Slots→World→Prop}{D:List Deferred}{L:Slots}{w:World}{id:Nat}{ops:Array Oper}(mss:List (List Nat))(tab:List (Nat × List Nat))(t:Tz)
 (h:∀ w1,RowKit.Below w.heap.size w w1→w1.heap.size=w.heap.size→fI P n ops (fun L w=>Q .normal D L w) (dS mss w1) (P0 tab) t L w1) (hm:P.follows .mixedOrders=true:=by kernel_rfl) (hnd:fP ops=true:=by kernel_rfl) (hlen:t.len=ops.size:=by exact rfl)
 (ho:xS ops (P0 tab) t (Array.replicate ops.size false)=true:=by kernel_rfl):SW P r n (.region id ops true) Q D L w:=Iv mss tab t hm hnd hlen ho h
theorem eC {P:Program}{L:Slots}{w:World}{dst:Option Nat}{ty:TypeId}{pos:String}{af:Array Edge}{gu:Option (Nat × Bool)}{f:Nat}{aas:Array Operand}{at_:Array TypeId}{vs:List Value}{R:Value→World→Prop}(hen:En P f)(hargs:lO L aas.toList=some vs)
 (hc:Calls P f vs.toArray w fun e w'=>∃ v,e=.returned v∧R v w'):EV P L ⟨dst,.call { callee:=.value (.func f),args:=aas,argTypes:=at_ },ty,pos,af,gu⟩ w R:=hM hen hargs hc
theorem Cz {w:World}{g k:Nat}{cur:Array Value}{e:TypeId}{fr:Nat × Nat}(h:w.heap[g]? = some (.cells cur e fr)):∃ fr',(w.freeze ⟨g,k,none⟩ 1).heap[g]? = some (.cells cur e fr'):=by
 unfold World.freeze;rw[if_neg (by decide)];show ∃ fr',(w.heap.modify g _)[g]? = _;rw[Array.getElem?_modify,if_pos rfl,h];exact⟨_,rfl⟩
theorem Cy {w:World}{g k:Nat}:Ka 1 g w (w.freeze ⟨g,k,none⟩ 1):=by
 unfold World.freeze;rw[if_neg (by decide)];refine⟨rfl,rfl,rfl,?_,?_⟩
 · show w.heap.size≤(w.heap.modify g _).size;rw[Array.size_modify];exact Nat.le_refl _
 · intro i hi hn;show(w.heap.modify g _)[i]? = _;rw[Array.getElem?_modify,if_neg (by rcases hn with h|h;cases h;exact fun e=>h e.symm)]
theorem gF {P:Program}{L:Slots}{w:World}{dst:Option Nat}{ty:TypeId}{pos:String}{af:Array Edge}{gu:Option (Nat × Bool)}{x:Operand}{t e:TypeId}{v:Value}{g:Nat}{xs:List (List Value)}(ht:P.underlying t=some (.slice e))(he:P.underlying e=some (.int .u8))(hx:ev L x=some v)(h:aK w 1 g e 1 v xs):
 EV P L ⟨dst,.convert t t x,ty,pos,af,gu⟩ w fun v' w'=>Rd w' 1 g 0 1 v' xs∧Ka 1 g w w':=fun ρ hρ=>by
 have hr:=h.rd;obtain⟨hw,h0|⟨_,cap,cur,rfl,hrow,h1,h2,h3,h4⟩⟩:=h
 · cases h0.1
 obtain⟨fr',hf⟩:=Cz (k:=cur.size) hrow;refine .val (.slice (some ⟨g,0,none⟩) xs.length cap) (w.freeze ⟨g,cur.size,none⟩ 1) ?_ ⟨?_,Cy⟩
 · have hsh:w.shape? g=some (e,cur.size):=by unfold World.shape?;rw[hrow]
   simp[execOp,hρ _ _ hx,convert,run_underlying ht,run_underlying he,markStringish,hsh,go_sem]
 · have hc:∀ j,(w.freeze ⟨g,cur.size,none⟩ 1).cell? ⟨g,j,none⟩=w.cell? ⟨g,j,none⟩:=fun j=>by unfold World.cell?;simp only;rw[hf,hrow]
   refine⟨hw,.inr ⟨rfl,cap,rfl,⟨?_,h1⟩,fun j u hj=>?_⟩⟩
   · exact(Array.getElem?_eq_some_iff.1 hf).1
   · rw[hc,Nat.zero_add,cell_of_row w g j cur e (0,0) hrow];rcases hr.2 with⟨h0,_⟩|⟨_,cap',hv,_,hu⟩
     · cases h0
     · have:=hu j u hj;rw[Nat.zero_add,cell_of_row w g j cur e (0,0) hrow] at this;exact this
theorem cY {P:Program}{n:Nat}{ops:Array Oper}{Q:Slots→World→Prop}{rest:List (Nat × Nat)}{i:Nat}{dst:Option Nat}{op:Op}{ty:TypeId}{pos:String}{af:Array Edge}{gu:Option (Nat × Bool)}{L:Slots}{w:World}{p:Prop}[Decidable p]{α:Type}{x₁ x₂:Option α}{r₁:α}(hm:(if p then x₁ else x₂)=some r₁)(hi:gP true n ops L i=some ⟨dst,op,ty,pos,af,gu⟩)(hv:VV P L ⟨dst,op,ty,pos,af,gu⟩ w (.bool (decide p)))(h1:decide p=true→x₁=some r₁→SD P n ops Q (fun _ _=>True) (fun _ _=>false) rest (cA dst (.bool true) L) w)(h2:decide p=false→x₂=some r₁→SD P n ops Q (fun _ _=>True) (fun _ _=>false) rest (cA dst (.bool false) L) w):SD P n ops Q (fun _ _=>True) (fun _ _=>false) ((i,0)::rest) L w:=qp hi hv (fun c=>h1 c (iT c hm)) (fun c=>h2 c (iF c hm))
theorem eY {P:Program}{n:Nat}{ops:Array Oper}{Q:Slots→World→Prop}{rest:List (Nat × Nat)}{i:Nat}{dst:Option Nat}{op:Op}{ty:TypeId}{pos:String}{af:Array Edge}{gu:Option (Nat × Bool)}{L:Slots}{w:World}{p:Prop}[Decidable p]{α:Type}{x₁ x₂:Option α}{r₁:α}(hm:(if p then x₁ else x₂)=some r₁)(hi:gP true n ops L i=some ⟨dst,op,ty,pos,af,gu⟩)(hv:VV P L ⟨dst,op,ty,pos,af,gu⟩ w (.bool (decide p)))(h2:decide p=false→x₂=some r₁→SD P n ops Q (fun _ _=>True) (fun _ _=>false) rest (cA dst (.bool false) L) w)(h1:decide p=true→x₁=some r₁→SD P n ops Q (fun _ _=>True) (fun _ _=>false) rest (cA dst (.bool true) L) w):SD P n ops Q (fun _ _=>True) (fun _ _=>false) ((i,0)::rest) L w:=qp hi hv (fun c=>h1 c (iT c hm)) (fun c=>h2 c (iF c hm))
theorem Zw {P:Program}{n:Nat}{ops:Array Oper}{Q:Slots→World→Prop}{rest:List (Nat × Nat)}{i:Nat}{dst:Option Nat}{op:Op}{ty:TypeId}{pos:String}{af:Array Edge}{gu:Option (Nat × Bool)}{L:Slots}{w:World}{w₀:World}{mss:List (List Nat)}{ms:List Nat}{kp:Nat→Nat→Bool}{p:Prop}[Decidable p]{α:Type}{x₁ x₂:Option α}{r₁:α}(hm:(if p then x₁ else x₂)=some r₁)(k:Nat)(hi:gP true n ops L i=some ⟨dst,op,ty,pos,af,gu⟩)(hk:mss[k]? = some ms)(hS:Kp ms w₀ w)(hv:∀ w,Kp ms w₀ w→VV P L ⟨dst,op,ty,pos,af,gu⟩ w (.bool (decide p)))(h1:decide p=true→x₁=some r₁→SD P n ops Q (dS mss w₀) kp rest (cA dst (.bool true) L) w)(h2:decide p=false→x₂=some r₁→SD P n ops Q (dS mss w₀) kp rest (cA dst (.bool false) L) w):SD P n ops Q (dS mss w₀) kp ((i,k+10)::rest) L w:=qq k hi hk hS hv (fun c=>h1 c (iT c hm)) (fun c=>h2 c (iF c hm))
theorem uA {P:Program}{n:Nat}{ops:Array Oper}{Q:Slots→World→Prop}{rest:List (Nat × Nat)}{i:Nat}{dst:Option Nat}{op:Op}{ty:TypeId}{pos:String}{af:Array Edge}{gu:Option (Nat × Bool)}{L:Slots}{w:World}{w₀:World}{mss:List (List Nat)}{ms:List Nat}{kp:Nat→Nat→Bool}{p:Prop}[Decidable p]{α:Type}{x₁ x₂:Option α}{r₁:α}(hm:(if p then x₁ else x₂)=some r₁)(k:Nat)(hi:gP true n ops L i=some ⟨dst,op,ty,pos,af,gu⟩)(hk:mss[k]? = some ms)(hS:Kp ms w₀ w)(hv:∀ w,Kp ms w₀ w→VV P L ⟨dst,op,ty,pos,af,gu⟩ w (.bool (decide p)))(h2:decide p=false→x₂=some r₁→SD P n ops Q (dS mss w₀) kp rest (cA dst (.bool false) L) w)(h1:decide p=true→x₁=some r₁→SD P n ops Q (dS mss w₀) kp rest (cA dst (.bool true) L) w):SD P n ops Q (dS mss w₀) kp ((i,k+10)::rest) L w:=qq k hi hk hS hv (fun c=>h1 c (iT c hm)) (fun c=>h2 c (iF c hm))
theorem cS {P:Program}{r:Option Nat}{n:Nat}{Q:Exit→List Deferred→Slots→World→Prop}{D:List Deferred}{L:Slots}{w:World}{c:Operand}{x y:Code}{p:Prop}[Decidable p]{α:Type}{x₁ x₂:Option α}{r₁:α}(hm:(if p then x₁ else x₂)=some r₁)(hc:ev L c=some (.bool (decide p)))(h1:decide p=true→x₁=some r₁→SW P r n x Q D L w)(h2:decide p=false→x₂=some r₁→SW P r n y Q D L w):SW P r n (.cond c x y) Q D L w:=iD hc (fun c=>h1 c (iT c hm)) (fun c=>h2 c (iF c hm))
theorem dA {P:Program}{r:Option Nat}{n:Nat}{Q:Exit→List Deferred→Slots→World→Prop}{D:List Deferred}{L:Slots}{w:World}{c:Operand}{x y:Code}{p:Prop}[Decidable p]{α:Type}{x₁ x₂:Option α}{r₁:α}(hm:(if p then x₁ else x₂)=some r₁)(hc:ev L c=some (.bool (decide p)))(h2:decide p=false→x₂=some r₁→SW P r n y Q D L w)(h1:decide p=true→x₁=some r₁→SW P r n x Q D L w):SW P r n (.cond c x y) Q D L w:=iD hc (fun c=>h1 c (iT c hm)) (fun c=>h2 c (iF c hm))
theorem kK {P:Program}{n:Nat}{ops:Array Oper}{Q:Slots→World→Prop}{rest:List (Nat × Nat)}{i:Nat}{dst:Option Nat}{op:Op}{ty:TypeId}{pos:String}{af:Array Edge}{gu:Option (Nat × Bool)}{L:Slots}{w:World}{c₁:Bool}{α:Type}{x₁ x₂:Option α}{r₁:α}(hm:(bif c₁ then x₁ else x₂)=some r₁)(hi:gP true n ops L i=some ⟨dst,op,ty,pos,af,gu⟩)(hv:VV P L ⟨dst,op,ty,pos,af,gu⟩ w (.bool c₁))(h1:c₁=true→x₁=some r₁→SD P n ops Q (fun _ _=>True) (fun _ _=>false) rest (cA dst (.bool true) L) w)(h2:c₁=false→x₂=some r₁→SD P n ops Q (fun _ _=>True) (fun _ _=>false) rest (cA dst (.bool false) L) w):SD P n ops Q (fun _ _=>True) (fun _ _=>false) ((i,0)::rest) L w:=qp hi hv (fun c=>h1 c (vR c hm)) (fun c=>h2 c (vF c hm))
theorem sH {P:Program}{n:Nat}{ops:Array Oper}{Q:Slots→World→Prop}{rest:List (Nat × Nat)}{i:Nat}{dst:Option Nat}{op:Op}{ty:TypeId}{pos:String}{af:Array Edge}{gu:Option (Nat × Bool)}{L:Slots}{w:World}{c₁:Bool}{α:Type}{x₁ x₂:Option α}{r₁:α}(hm:(bif c₁ then x₁ else x₂)=some r₁)(hi:gP true n ops L i=some ⟨dst,op,ty,pos,af,gu⟩)(hv:VV P L ⟨dst,op,ty,pos,af,gu⟩ w (.bool c₁))(h2:c₁=false→x₂=some r₁→SD P n ops Q (fun _ _=>True) (fun _ _=>false) rest (cA dst (.bool false) L) w)(h1:c₁=true→x₁=some r₁→SD P n ops Q (fun _ _=>True) (fun _ _=>false) rest (cA dst (.bool true) L) w):SD P n ops Q (fun _ _=>True) (fun _ _=>false) ((i,0)::rest) L w:=qp hi hv (fun c=>h1 c (vR c hm)) (fun c=>h2 c (vF c hm))
theorem Ev {P:Program}{n:Nat}{ops:Array Oper}{Q:Slots→World→Prop}{rest:List (Nat × Nat)}{i:Nat}{dst:Option Nat}{op:Op}{ty:TypeId}{pos:String}{af:Array Edge}{gu:Option (Nat × Bool)}{L:Slots}{w:World}{w₀:World}{mss:List (List Nat)}{ms:List Nat}{kp:Nat→Nat→Bool}{c₁:Bool}{α:Type}{x₁ x₂:Option α}{r₁:α}(hm:(bif c₁ then x₁ else x₂)=some r₁)(k:Nat)(hi:gP true n ops L i=some ⟨dst,op,ty,pos,af,gu⟩)(hk:mss[k]? = some ms)(hS:Kp ms w₀ w)(hv:∀ w,Kp ms w₀ w→VV P L ⟨dst,op,ty,pos,af,gu⟩ w (.bool c₁))(h2:c₁=false→x₂=some r₁→SD P n ops Q (dS mss w₀) kp rest (cA dst (.bool false) L) w)(h1:c₁=true→x₁=some r₁→SD P n ops Q (dS mss w₀) kp rest (cA dst (.bool true) L) w):SD P n ops Q (dS mss w₀) kp ((i,k+10)::rest) L w:=qq k hi hk hS hv (fun c=>h1 c (vR c hm)) (fun c=>h2 c (vF c hm))
theorem cR {P:Program}{r:Option Nat}{n:Nat}{Q:Exit→List Deferred→Slots→World→Prop}{D:List Deferred}{L:Slots}{w:World}{c:Operand}{x y:Code}{c₁:Bool}{α:Type}{x₁ x₂:Option α}{r₁:α}(hm:(bif c₁ then x₁ else x₂)=some r₁)(hc:ev L c=some (.bool c₁))(h1:c₁=true→x₁=some r₁→SW P r n x Q D L w)(h2:c₁=false→x₂=some r₁→SW P r n y Q D L w):SW P r n (.cond c x y) Q D L w:=iD hc (fun c=>h1 c (vR c hm)) (fun c=>h2 c (vF c hm))
theorem nR {P:Program}{r:Option Nat}{n:Nat}{Q:Exit→List Deferred→Slots→World→Prop}{D:List Deferred}{L:Slots}{w:World}{c:Operand}{x y:Code}{c₁:Bool}{α:Type}{x₁ x₂:Option α}{r₁:α}(hm:(bif c₁ then x₁ else x₂)=some r₁)(hc:ev L c=some (.bool c₁))(h2:c₁=false→x₂=some r₁→SW P r n y Q D L w)(h1:c₁=true→x₁=some r₁→SW P r n x Q D L w):SW P r n (.cond c x y) Q D L w:=iD hc (fun c=>h1 c (vR c hm)) (fun c=>h2 c (vF c hm))
def yG (n:Nat)(ops:Array Oper):Nat→List (Nat × Nat)→Slots→Option (List (Nat × Nat) × Slots)
 | 0,l,L=>some (l,L)
 | _+1,[],_=>none
 | _+1,(_,_+1)::_,_=>none
 | k+1,(i,0)::rest,L=>match gP false n ops L i with
  | some ⟨dst,_,_,_,_,_⟩=>yG n ops k rest (cA dst undef L)
  | none=>match uO n ops L i with
   | some (dst,v)=>yG n ops k rest (cA dst v L)
   | none=>none
theorem qn {P:Program}{n:Nat}{ops:Array Oper}{Q:Slots→World→Prop}{w:World}:∀ {l l':List (Nat × Nat)} {L L':Slots} (k:Nat),yG n ops k l L=some (l',L')→SD P n ops Q (fun _ _=>True) (fun _ _=>false) l' L' w→SD P n ops Q (fun _ _=>True) (fun _ _=>false) l L w
 | _,_,_,_,0,h,hh=>by cases h;exact hh
 | [],_,_,_,k+1,h,_=>by cases h
 | (_,_+1)::_,_,_,_,k+1,h,_=>by cases h
 | (i,0)::rest,_,L,_,k+1,h,hh=>by
  unfold yG at h
  split at h
  · rename_i ho;exact qk ho (qn k h hh)
  · split at h
    · rename_i hm;exact qm hm (qn k h hh)
    · cases h
end Go.Sx

end
section
namespace Go.Sx
open Go Go.RowKit
theorem fX {a b:Bool}(ha:a=true)(hb:b=true):(a&&b)=true:=by rw[ha,hb];rfl
end Go.Sx

end
section
namespace Go.Sx
open Go Go.RowKit
section
variable {H:Type} {enc:TypeId × Value→H} {P:Program} {W:World} {fuel:Nat} {t e:TypeId} {cs:List Value} {x:DataW H × List MemPlace}
end
end Go.Sx

end
section
namespace Go.Sx
open Go
def qQ (x:BitVec 64)(s:Nat):BitVec 64:=x <<< s ||| x >>> (64-s)
def xU (p:W2)(k:BitVec 64):W2:=((qQ p.1 56+p.2) ^^^ k,qQ p.2 3 ^^^ ((qQ p.1 56+p.2) ^^^ k))
def Jb (p:W2)(k:BitVec 64):W2:=(qQ ((p.1 ^^^ k)-qQ (p.1 ^^^ p.2) 61) 8,qQ (p.1 ^^^ p.2) 61)
def ks (k:W2):Nat→W2
 | 0=>k
 | i+1=>xU (ks k i) (wd (i:Int))
def jA (k b:W2):W2:=(List.range 32).foldl (fun p i=>xU p (ks k i).2) b
def B0 (tag:Int)(c n:BitVec 64):W2:=(wd tag <<< 56 ||| c,n)
def dO (k:W2)(tag:Int)(n:BitVec 64):W2:=jA k (B0 tag 0#64 n)
def tR (k b:W2)(j:Nat):W2:=(List.range (32-j)).foldl (fun p i=>Jb p (ks k (31-i)).2) b
def nU (k b:W2):W2:=tR k b 0
def lg (a:Int):Int:=if a.toNat=0 then 0 else(Nat.log2 a.toNat:Int)+1
end Go.Sx

end
section
namespace Go.Sx
open Go Go.RowKit
structure eE where
 P:BitVec 64
 Q:BitVec 64
 G:BitVec 64
deriving DecidableEq,Inhabited
def eE.cs (x:eE)  : List Value:=[wv x.P,wv x.Q,wv x.G]
theorem eE.cs_ones (x:eE)   : cZ (eE.cs x )=true:=by simp only[eE.cs,List.cons_append,List.nil_append,kb,cZ,eL,eN,eS,cond_true]
theorem eE.cs_inj {x y:eE}(h:eE.cs x=eE.cs y):x=y:=by
 have h0:x.P=y.P:=rJ (congrArg (fun l=>l[0]?) h);have h1:x.Q=y.Q:=rJ (congrArg (fun l=>l[1]?) h);have h2:x.G=y.G:=rJ (congrArg (fun l=>l[2]?) h);cases x;cases y;simp only at *;subst h0;subst h1;subst h2;rfl
theorem eE.ws (l:List eE):Ws 3 (l.map eE.cs):=fT l (fun _=>rfl) (fun _=>rfl)
structure bY where
 Kind:BitVec 8
 Depth:Int
 Degree:Int
 Group:eE
deriving DecidableEq,Inhabited
def bY.cs (x:bY)  : List Value:=[bv x.Kind,.int .i64 x.Depth,.int .i64 x.Degree,wv x.Group.P,wv x.Group.Q,wv x.Group.G]
theorem bY.cs_ones (x:bY)   : cZ (bY.cs x )=true:=by simp only[bY.cs,List.cons_append,List.nil_append,kb,cZ,eL,eN,eS,cond_true]
theorem bY.cs_inj {x y:bY}(h:bY.cs x=bY.cs y):x=y:=by
 have h0:x.Kind=y.Kind:=nF (congrArg (fun l=>l[0]?) h);have h1:x.Depth=y.Depth:=cF (congrArg (fun l=>l[1]?) h);have h2:x.Degree=y.Degree:=cF (congrArg (fun l=>l[2]?) h);have h3:x.Group=y.Group:=eE.cs_inj (congrArg (fun l=>(l.drop 3).take 3) h);cases x;cases y;simp only at *;subst h0;subst h1;subst h2;subst h3;rfl
theorem bY.ws (l:List bY):Ws 6 (l.map bY.cs):=fT l (fun _=>rfl) (fun _=>rfl)
structure bT where
 Node:Int
 Minus:Int
deriving DecidableEq,Inhabited
def bT.cs (x:bT)  : List Value:=[.int .i64 x.Node,.int .i64 x.Minus]
theorem bT.cs_ones (x:bT)   : cZ (bT.cs x )=true:=by simp only[bT.cs,List.cons_append,List.nil_append,kb,cZ,eL,eN,eS,cond_true]
theorem bT.cs_inj {x y:bT}(h:bT.cs x=bT.cs y):x=y:=by
 have h0:x.Node=y.Node:=cF (congrArg (fun l=>l[0]?) h);have h1:x.Minus=y.Minus:=cF (congrArg (fun l=>l[1]?) h);cases x;cases y;simp only at *;subst h0;subst h1;rfl
theorem bT.ws (l:List bT):Ws 2 (l.map bT.cs):=fT l (fun _=>rfl) (fun _=>rfl)
structure cT where
 Node:Int
 Minus:Int
 Key:W2
deriving DecidableEq,Inhabited
def cT.cs (x:cT)  : List Value:=[.int .i64 x.Node,.int .i64 x.Minus]++(kb x.Key)
theorem cT.cs_ones (x:cT)   : cZ (cT.cs x )=true:=by simp only[cT.cs,List.cons_append,List.nil_append,kb,cZ,eL,eN,eS,cond_true]
theorem cT.cs_inj {x y:cT}(h:cT.cs x=cT.cs y):x=y:=by
 have h0:x.Node=y.Node:=cF (congrArg (fun l=>l[0]?) h);have h1:x.Minus=y.Minus:=cF (congrArg (fun l=>l[1]?) h);have h2:x.Key=y.Key:=kB (congrArg (fun l=>(l.drop 2).take 16) h);cases x;cases y;simp only at *;subst h0;subst h1;subst h2;rfl
theorem cT.ws (l:List cT):Ws 18 (l.map cT.cs):=fT l (fun _=>rfl) (fun _=>rfl)
structure aI where
 X:BitVec 64
 Y:BitVec 64
deriving DecidableEq,Inhabited
def aI.cs (x:aI)  : List Value:=[wv x.X,wv x.Y]
theorem aI.cs_ones (x:aI)   : cZ (aI.cs x )=true:=by simp only[aI.cs,List.cons_append,List.nil_append,kb,cZ,eL,eN,eS,cond_true]
theorem aI.cs_inj {x y:aI}(h:aI.cs x=aI.cs y):x=y:=by
 have h0:x.X=y.X:=rJ (congrArg (fun l=>l[0]?) h);have h1:x.Y=y.Y:=rJ (congrArg (fun l=>l[1]?) h);cases x;cases y;simp only at *;subst h0;subst h1;rfl
theorem aI.ws (l:List aI):Ws 2 (l.map aI.cs):=fT l (fun _=>rfl) (fun _=>rfl)
structure bG where
 Receiver:Int
 Labels:List cT
 Share:aI
deriving DecidableEq,Inhabited
def bG.cs (x:bG)(v0:Value):List Value:=[.int .i64 x.Receiver,v0,wv x.Share.X,wv x.Share.Y]
theorem bG.cs_ones (x:bG)(v0:Value)(h0:oneB v0=true):cZ (bG.cs x v0)=true:=by simp only[bG.cs,List.cons_append,List.nil_append,kb,cZ,eL,eN,eS,cond_true,h0]
structure bU where
 Subset:bT
 Box:W2
deriving DecidableEq,Inhabited
def bU.cs (x:bU)  : List Value:=[.int .i64 x.Subset.Node,.int .i64 x.Subset.Minus]++(kb x.Box)
theorem bU.cs_ones (x:bU)   : cZ (bU.cs x )=true:=by simp only[bU.cs,List.cons_append,List.nil_append,kb,cZ,eL,eN,eS,cond_true]
theorem bU.cs_inj {x y:bU}(h:bU.cs x=bU.cs y):x=y:=by
 have h0:x.Subset=y.Subset:=bT.cs_inj (congrArg (fun l=>(l.drop 0).take 2) h);have h1:x.Box=y.Box:=kB (congrArg (fun l=>(l.drop 2).take 16) h);cases x;cases y;simp only at *;subst h0;subst h1;rfl
theorem bU.ws (l:List bU):Ws 18 (l.map bU.cs):=fT l (fun _=>rfl) (fun _=>rfl)
structure aF where
 Items:List bU
 Base:BitVec 64
 Points:List aI
 Box:W2
 Check:W2
deriving DecidableEq,Inhabited
def aF.cs (x:aF)(v0:Value)(v1:Value):List Value:=[v0,wv x.Base,v1]++(kb x.Box++(kb x.Check))
theorem aF.cs_ones (x:aF)(v0:Value)(v1:Value)(h0:oneB v0=true)(h1:oneB v1=true):cZ (aF.cs x v0 v1)=true:=by simp only[aF.cs,List.cons_append,List.nil_append,kb,cZ,eL,eN,eS,cond_true,h0,h1]
structure bL where
 kind:BitVec 8
 depth:Int
 stride:Int
deriving DecidableEq,Inhabited
def bL.cs (x:bL)  : List Value:=[bv x.kind,.int .i64 x.depth,.int .i64 x.stride]
theorem bL.cs_ones (x:bL)   : cZ (bL.cs x )=true:=by simp only[bL.cs,List.cons_append,List.nil_append,kb,cZ,eL,eN,eS,cond_true]
theorem bL.cs_inj {x y:bL}(h:bL.cs x=bL.cs y):x=y:=by
 have h0:x.kind=y.kind:=nF (congrArg (fun l=>l[0]?) h);have h1:x.depth=y.depth:=cF (congrArg (fun l=>l[1]?) h);have h2:x.stride=y.stride:=cF (congrArg (fun l=>l[2]?) h);cases x;cases y;simp only at *;subst h0;subst h1;subst h2;rfl
theorem bL.ws (l:List bL):Ws 3 (l.map bL.cs):=fT l (fun _=>rfl) (fun _=>rfl)
def qO (p0:bY)(rec2:(Int)→Option (bL × Bool))(a3:Int):Option (bL × Bool):=(if aS (a3*a3)<p0.Depth then(rec2 (aS (a3+1))) else(some ((bL.mk p0.Kind p0.Depth a3),true)))
def pJ (p0:bY)(a1:Bool):Option (bL × Bool):=(bif a1 then(some ((bL.mk 0#8 0 0),false)) else(bP (qO p0) bA 1))
def tT (p0:bY):Option (bL × Bool):=(if p0.Kind<1#8 then(pJ p0 true) else(if 3#8<p0.Kind then(pJ p0 true) else(if p0.Depth<0 then(pJ p0 true) else(if(6:Int)<p0.Depth then(pJ p0 true) else(pJ p0 (decide (p0≠(bY.mk p0.Kind p0.Depth 0 (eE.mk 0#64 0#64 0#64)))))))))
def oA (p0:bY):Option (Int):=Option.bind (tT p0) fun x1=>((bif (!x1.2) then(some 30) else(some 0)))
end Go.Sx

end
section
namespace Go.Sx
open Go Go.RowKit
end Go.Sx

end
