/- Several texts in one: Mir MirB MirC MirD MirE MirF MirG Wd MirH MirI We MirJ MirK MirL Sq Row Opn Pln. -/
import Derived.Test.YtplcaaglieefgaaGreatZb
import Derived.Laws.MakeOwn
import Derived.Laws.Slices
import Derived.Laws.IdiomStrings
import Derived.Laws.Strings
import Derived.Laws.IdiomCopy
import Derived.Laws.IdiomRangeMap
import Derived.ControlIn
import Derived.Laws.CopyRow
import Derived.Test.YtplcaaglieefgaaGreatRows
import Derived.ProofKit
import Derived.OpenShut
import Derived.ShutString
import Derived.ChangeOld
import Derived.Below
import Derived.Carry
import Derived.SizedLaws
set_option linter.unusedVariables false
set_option linter.unusedSimpArgs false
set_option maxRecDepth 100000
section
namespace Go.Sx
open Go Go.RowKit
abbrev aX (n:Int):Int:=IntKind.i64.wrap n
def aI:Nat:=18446744073709551616
def aS {σ R:Type}(F:(σ→Option R)→σ→Option R)(n:Nat):σ→Option R:=Nat.rec (fun _=>none) (fun _ ih s=>F ih s) n
theorem eQ {σ R:Type}(F:(σ→Option R)→σ→Option R)(n:Nat)(s:σ):aS F (n+1) s=F (aS F n) s:=rfl
theorem dG {σ R:Type}{F:(σ→Option R)→σ→Option R}{n:Nat}{s:σ}{r:R}(h:aS F n s=some r):∃ m,n=m+1∧F (aS F m) s=some r:=by
 cases n with
 | zero=>cases h
 | succ m=>exact⟨m,rfl,h⟩
theorem aK {α β:Type}{o:Option α}{f:α→Option β}{r:β}(h:Option.bind o f=some r):∃ a,o=some a∧f a=some r:=by
 cases o with
 | none=>cases h
 | some a=>exact⟨a,rfl,h⟩
theorem kJ {β:Type}{c:Prop}[Decidable c]{a b:Option β}{r:β}(hc:c)(h:(if c then a else b)=some r):a=some r:=by rwa[if_pos hc] at h
theorem kZ {β:Type}{c:Prop}[Decidable c]{a b:Option β}{r:β}(hc:¬ c)(h:(if c then a else b)=some r):b=some r:=by rwa[if_neg hc] at h
theorem J4 {β:Type}{c:Bool}{a b:Option β}{r:β}(hc:c=true)(h:(bif c then a else b)=some r):a=some r:=by rw[hc] at h;exact h
theorem J3 {β:Type}{c:Bool}{a b:Option β}{r:β}(hc:c=false)(h:(bif c then a else b)=some r):b=some r:=by rw[hc] at h;exact h
def bG {α:Type}(l:List α)(i:Int):Option α:=if 0≤i then l[i.toNat]? else none
theorem oL {α:Type}{l:List α}{i:Int}{a:α}(h:bG l i=some a):0≤i:=by unfold bG at h;split at h<;>first|assumption|cases h
theorem pO {α:Type}{l:List α}{i:Int}{a:α}(h:bG l i=some a):l[i.toNat]? = some a:=by unfold bG at h;split at h<;>first|assumption|cases h
theorem P7 {α:Type}{l:List α}{i:Int}{a:α}(h:bG l i=some a):i<l.length:=by
 have:=(List.getElem?_eq_some_iff.1 (pO h)).1;have:=oL h;omega
def gG {α:Type}(b:Nat)(l m:List α):Option (List α):=if(l.length+m.length)*b≤140737488355328 then some (l++m) else none
theorem Ij {α:Type}{b:Nat}{l m k:List α}(h:gG b l m=some k):k=l++m∧(l.length+m.length)*b≤140737488355328:=by
 unfold gG at h;split at h
 · exact⟨(Option.some.inj h).symm,‹_›⟩
 · cases h
def T1 {α:Type}(b:Nat)(n:Int)(z:α):Option (List α):=if 0≤n∧n*b≤140737488355328 then some (List.replicate n.toNat z) else none
theorem Qr0 {α:Type}{b:Nat}{n:Int}{z:α}{k:List α}(h:T1 b n z=some k):k=List.replicate n.toNat z∧0≤n∧n*b≤140737488355328:=by
 unfold T1 at h;split at h
 · rename_i h1;exact⟨(Option.some.inj h).symm,h1⟩
 · cases h
def nH {α:Type}(l:List α)(lo hi:Int):Option (List α):=if 0≤lo∧lo≤hi∧hi≤l.length then some ((l.take hi.toNat).drop lo.toNat) else none
theorem Qgh {α:Type}{l k:List α}{lo hi:Int}(h:nH l lo hi=some k):k=(l.take hi.toNat).drop lo.toNat∧0≤lo∧lo≤hi∧hi≤l.length:=by
 unfold nH at h;split at h
 · rename_i h1;exact⟨(Option.some.inj h).symm,h1⟩
 · cases h
def tP (a b:Int):Option Int:=if b=0 then none else some (aX (a.tdiv b))
def nY (a b:Int):Option Int:=if b=0 then none else some (a.tmod b)
def Py {n:Nat}(a b:BitVec n):Option (BitVec n):=if b=BitVec.ofNat n 0 then none else some (a / b)
def gY {n:Nat}(a b:BitVec n):Option (BitVec n):=if b=BitVec.ofNat n 0 then none else some (a%b)
def eK (n:Int):Option Nat:=if 0≤n then some n.toNat else none
theorem Zk {n:Int}{k:Nat}(h:eK n=some k):0≤n∧n.toNat=k:=by
 unfold eK at h;split at h
 · rename_i h1;exact⟨h1,Option.some.inj h⟩
 · cases h
def cW (a:Int)(n:Nat):Int:=aX (a*2^min n 64)
def tN (a:Int)(n:Nat):Int:=a / 2^min n 64
def Z5 (op:BinOp)(a b:Int):Int:=bits op .i64 a b
def aC (x:BitVec 8):Int:=(x.toNat:Int)
abbrev bv (x:BitVec 8):Value:=.int .u8 (aC x)
theorem jI (x:BitVec 8):0≤aC x:=by unfold aC;omega
theorem jA (x:BitVec 8):aC x≤255:=by unfold aC;have:=x.isLt;omega
theorem Qhf {x y:BitVec 8}(h:aC x=aC y):x=y:=by apply BitVec.eq_of_toNat_eq;unfold aC at h;omega
def nO (n:Int):BitVec 8:=BitVec.ofInt 8 n
abbrev ic (n:Int):List Value:=[.int .i64 n]
abbrev jO (x:BitVec 64):List Value:=[wv x]
abbrev eZ (x:BitVec 8):List Value:=[bv x]
abbrev k0:W2:=(0#64,0#64)
section
variable {P:Program} {L:Slots} {w:World} {dst:Option Nat} {ty:TypeId} {pos:String} {af:Array Edge} {gu:Option (Nat × Bool)} {x y:Operand} {t u:TypeId} {a b:Int}
theorem Qys {c:Int}(hx:ev L x=some (.int .i64 a))(hy:ev L y=some (.int .i64 b))(h:tP a b=some c):VV P L ⟨dst,.binOp .quo t x y u,ty,pos,af,gu⟩ w (.int .i64 c):=fun ρ hρ=>by
 unfold tP at h
 split at h
 · cases h
 · rename_i hd;cases h;simp[execOp,hρ _ _ hx,hρ _ _ hy,go_sem,Op.intDiv,hd]
theorem Je {c:Int}(hx:ev L x=some (.int .i64 a))(hy:ev L y=some (.int .i64 b))(h:nY a b=some c):VV P L ⟨dst,.binOp .rem t x y u,ty,pos,af,gu⟩ w (.int .i64 c):=fun ρ hρ=>by
 unfold nY at h
 split at h
 · cases h
 · rename_i hd;cases h;simp[execOp,hρ _ _ hx,hρ _ _ hy,go_sem,Op.intDiv,hd]
theorem nD {yk:IntKind}{n:Nat}(hx:ev L x=some (.int .i64 a))(hy:ev L y=some (.int yk b))(h:eK b=some n):VV P L ⟨dst,.binOp .shl t x y u,ty,pos,af,gu⟩ w (.int .i64 (cW a n)):=by
 obtain⟨h1,rfl⟩:=Zk h;exact Qhx hx hy h1
theorem Gs {yk:IntKind}{n:Nat}(hx:ev L x=some (.int .i64 a))(hy:ev L y=some (.int yk b))(h:eK b=some n):VV P L ⟨dst,.binOp .shr t x y u,ty,pos,af,gu⟩ w (.int .i64 (tN a n)):=by
 obtain⟨h1,rfl⟩:=Zk h;exact Gq hx hy h1
theorem Qhy {yk:IntKind}{n:Nat}{c:BitVec 64}(hx:ev L x=some (wv c))(hy:ev L y=some (.int yk b))(h:eK b=some n):VV P L ⟨dst,.binOp .shl t x y u,ty,pos,af,gu⟩ w (wv (c <<< n)):=by
 obtain⟨h1,rfl⟩:=Zk h;exact Jg hx hy h1
theorem Ap {yk:IntKind}{n:Nat}{c:BitVec 64}(hx:ev L x=some (wv c))(hy:ev L y=some (.int yk b))(h:eK b=some n):VV P L ⟨dst,.binOp .shr t x y u,ty,pos,af,gu⟩ w (wv (c >>> n)):=by
 obtain⟨h1,rfl⟩:=Zk h;exact Gx hx hy h1
theorem Qy6 {op:BinOp}(hop:op=.and∨op=.or∨op=.xor∨op=.andNot)(hx:ev L x=some (.int .i64 a))(hy:ev L y=some (.int .i64 b)):VV P L ⟨dst,.binOp op t x y u,ty,pos,af,gu⟩ w (.int .i64 (Z5 op a b)):=zB hop hx hy
variable {c d:BitVec 64} {p q:BitVec 8}
theorem Qhg:un c=un d↔c=d:=⟨Af,fun h=>by rw[h]⟩
theorem Qhe:aC p=aC q↔p=q:=⟨Qhf,fun h=>by rw[h]⟩
theorem oW {p q:Prop}[Decidable p][Decidable q](h:p↔q):Value.bool (decide p)=.bool (decide q):=by simp[h]
theorem Qhj:un c<un d↔c<d:=by unfold un;rw[BitVec.lt_def];omega
theorem Qhi:un c≤un d↔c≤d:=by unfold un;rw[BitVec.le_def];omega
theorem Ae:aC p<aC q↔p<q:=by unfold aC;rw[BitVec.lt_def];omega
theorem Qxs:aC p≤aC q↔p≤q:=by unfold aC;rw[BitVec.le_def];omega
theorem C0 (hx:ev L x=some (wv c))(hy:ev L y=some (wv d)):VV P L ⟨dst,.binOp .eql t x y u,ty,pos,af,gu⟩ w (.bool (decide (c=d))):=eR (cH hx hy) (oW Qhg)
theorem An (hx:ev L x=some (wv c))(hy:ev L y=some (wv d)):VV P L ⟨dst,.binOp .neq t x y u,ty,pos,af,gu⟩ w (.bool (decide (c≠d))):=eR (fV hx hy) (oW (not_congr Qhg))
theorem zM (hx:ev L x=some (wv c))(hy:ev L y=some (wv d)):VV P L ⟨dst,.binOp .lss t x y u,ty,pos,af,gu⟩ w (.bool (decide (c<d))):=eR (cE hx hy) (oW Qhj)
theorem Qyj (hx:ev L x=some (wv c))(hy:ev L y=some (wv d)):VV P L ⟨dst,.binOp .leq t x y u,ty,pos,af,gu⟩ w (.bool (decide (c≤d))):=eR (mC hx hy) (oW Qhi)
theorem Aj (hx:ev L x=some (wv c))(hy:ev L y=some (wv d)):VV P L ⟨dst,.binOp .gtr t x y u,ty,pos,af,gu⟩ w (.bool (decide (d<c))):=eR (fS hx hy) (oW Qhj)
theorem Zz (hx:ev L x=some (wv c))(hy:ev L y=some (wv d)):VV P L ⟨dst,.binOp .geq t x y u,ty,pos,af,gu⟩ w (.bool (decide (d≤c))):=eR (gF hx hy) (oW Qhi)
theorem gS (hx:ev L x=some (bv p))(hy:ev L y=some (bv q)):VV P L ⟨dst,.binOp .eql t x y u,ty,pos,af,gu⟩ w (.bool (decide (p=q))):=eR (cH hx hy) (oW Qhe)
theorem Qyl (hx:ev L x=some (bv p))(hy:ev L y=some (bv q)):VV P L ⟨dst,.binOp .neq t x y u,ty,pos,af,gu⟩ w (.bool (decide (p≠q))):=eR (fV hx hy) (oW (not_congr Qhe))
theorem wX (hx:ev L x=some (bv p))(hy:ev L y=some (bv q)):VV P L ⟨dst,.binOp .lss t x y u,ty,pos,af,gu⟩ w (.bool (decide (p<q))):=eR (cE hx hy) (oW Ae)
theorem Al (hx:ev L x=some (bv p))(hy:ev L y=some (bv q)):VV P L ⟨dst,.binOp .leq t x y u,ty,pos,af,gu⟩ w (.bool (decide (p≤q))):=eR (mC hx hy) (oW Qxs)
theorem Qhr (hx:ev L x=some (bv p))(hy:ev L y=some (bv q)):VV P L ⟨dst,.binOp .gtr t x y u,ty,pos,af,gu⟩ w (.bool (decide (q<p))):=eR (fS hx hy) (oW Ae)
theorem Qhp (hx:ev L x=some (bv p))(hy:ev L y=some (bv q)):VV P L ⟨dst,.binOp .add t x y u,ty,pos,af,gu⟩ w (bv (p+q)):=eR (bM hx hy) (by
 have:IntKind.u8.wrap (aC p+aC q)=(aC p+aC q)%256:=by simp[IntKind.wrap,IntKind.bits,IntKind.signed]
 rw[this];show Value.int .u8 _=Value.int .u8 (aC (p+q));refine congrArg (Value.int .u8) ?_;unfold aC;rw[BitVec.toNat_add];omega)
theorem Qi0 (hx:ev L x=some (bv p))(hy:ev L y=some (bv q)):VV P L ⟨dst,.binOp .sub t x y u,ty,pos,af,gu⟩ w (bv (p-q)):=eR (gK hx hy) (by
 have:IntKind.u8.wrap (aC p-aC q)=(aC p-aC q)%256:=by simp[IntKind.wrap,IntKind.bits,IntKind.signed]
 rw[this];show Value.int .u8 _=Value.int .u8 (aC (p-q));refine congrArg (Value.int .u8) ?_;unfold aC;rw[BitVec.toNat_sub];have:=p.isLt;have:=q.isLt;omega)
theorem pY {e:BitVec 64}(hx:ev L x=some (wv c))(hy:ev L y=some (wv d))(h:gY c d=some e):VV P L ⟨dst,.binOp .rem t x y u,ty,pos,af,gu⟩ w (wv e):=by
 unfold gY at h
 split at h
 · cases h
 · rename_i hd;cases h
   have h0:0<un d:=by
    have:=Gh d;rcases Int.lt_or_eq_of_le this with h|h
    · exact h
    · exact absurd (Af (show un d=un 0#64 from by rw[←h];rfl)) hd
   exact eR (Qyt hx hy (Gh c) h0) (congrArg (Value.int .u64) (by unfold un;rw[BitVec.toNat_umod];exact(Int.natCast_emod _ _).symm))
theorem Zx {s d:TypeId}(hc:CV P s d .i64)(hx:ev L x=some (wv c)):VV P L ⟨dst,.convert s d x,ty,pos,af,gu⟩ w (.int .i64 (aX (un c))):=vI hc hx
theorem Gl {s d:TypeId}(hc:CV P s d .i64)(hx:ev L x=some (bv p)):VV P L ⟨dst,.convert s d x,ty,pos,af,gu⟩ w (.int .i64 (aC p)):=tR hc hx (by have:=jI p;omega) (by have:=jA p;omega)
theorem jC {s d:TypeId}(hc:CV P s d .u64)(hx:ev L x=some (.int .i64 a)):VV P L ⟨dst,.convert s d x,ty,pos,af,gu⟩ w (wv (wd a)):=eR (vI hc hx) (by
 rw[IntKind.wrap_u64];show Value.int .u64 _=Value.int .u64 (un (wd a));refine congrArg (Value.int .u64) ?_;unfold un wd;rw[BitVec.toNat_ofInt];omega)
theorem Gm {s d:TypeId}(hc:CV P s d .u64)(hx:ev L x=some (bv p)):VV P L ⟨dst,.convert s d x,ty,pos,af,gu⟩ w (wv (p.setWidth 64)):=eR (vI hc hx) (by
 have:=jI p;have:=jA p
 rw[IntKind.wrap_u64,Int.emod_eq_of_lt (by omega) (by omega)];show Value.int .u64 _=Value.int .u64 (un (p.setWidth 64));refine congrArg (Value.int .u64) ?_;unfold aC un;rw[BitVec.toNat_setWidth,Nat.mod_eq_of_lt (by have:=p.isLt;omega)])
theorem Qy7 {s d:TypeId}(hc:CV P s d .u8)(hx:ev L x=some (wv c)):VV P L ⟨dst,.convert s d x,ty,pos,af,gu⟩ w (bv (c.setWidth 8)):=eR (Ah hc hx) (by
 show Value.int .u8 _=Value.int .u8 (aC (c.setWidth 8));refine congrArg (Value.int .u8) ?_;unfold aC un;rw[BitVec.toNat_setWidth];omega)
end
section
variable {P:Program} {L:Slots} {w:World} {dst:Option Nat} {ty:TypeId} {pos:String} {af:Array Edge} {gu:Option (Nat × Bool)}
variable {x y:Operand} {t:TypeId} {z g o sz:Nat} {e:TypeId} {v:Value} {k:IntKind} {α:Type} {l:List α} {c:α→List Value} {a:α} {i:Int}
theorem cT (hu:P.underlying t=some (.slice e))(hx:ev L x=some v)(hr:Rd w z g o sz v (l.map c)):VV P L ⟨dst,.call { callee:=.builtin .len,args := #[x],argTypes := #[t] },ty,pos,af,gu⟩ w (.int .i64 (l.length:Int)):=Qhu hu hx hr (List.length_map ..)
theorem eW (hu:P.underlying t=some (.slice e))(hs:gQ P e sz)(hx:ev L x=some v)(hr:Rd w z g o sz v (l.map c))(hy:ev L y=some (.int k i))(hg:bG l i=some a):
 VV P L ⟨dst,.indexAddr t x y,ty,pos,af,gu⟩ w (.pointer (some ⟨g,o+i.toNat*sz,none⟩)):=Qht hu hs hx hr (List.length_map ..) hy (oL hg) (P7 hg)
theorem iZ {p q:Nat}{u:Value}(h1:eI P t)(hx:ev L x=some (.pointer (some ⟨g,p,none⟩)))(hr:Rd w z g o sz v (l.map c))(hg:bG l i=some a)(hp:p=o+(i.toNat*sz+q))(hc:(c a)[q]? = some u):VV P L ⟨dst,.load t x,ty,pos,af,gu⟩ w u:=
 Qy8 h1 hx hr (oS (pO hg)) hp hc
theorem hM {p:Nat}(h1:fY P t sz)(hx:ev L x=some (.pointer (some ⟨g,p,none⟩)))(hr:Rd w z g o sz v (l.map c))(hg:bG l i=some a)(hp:p=o+i.toNat*sz):VV P L ⟨dst,.load t x,ty,pos,af,gu⟩ w (.agg (c a).toArray):=
 Qya h1 hx hr (oS (pO hg)) hp
theorem lA {bytes z2 g2 o2:Nat}{u:Value}{m k:List α}(ha:lS P t e sz bytes)(hx:ev L x=some v)(hy:ev L y=some u)(h:aT w z g e sz v (l.map c))(hr:Rd w z2 g2 o2 sz u (m.map c))(hb:gG bytes l m=some k)(hpos:1≤bytes):
 EV P L ⟨dst,.call { callee:=.builtin .append,args := #[x,y],argTypes := #[t,t] },ty,pos,af,gu⟩ w fun v' w'=>∃ z' g',aT w' z' g' e sz v' (k.map c)∧Ka z g w w'∧bN (z'=0∨(z'=1∧g'<w'.heap.size))∧bN ((g'=g∧z=1)∨w.heap.size≤g'∨z'=0):=by
 obtain⟨rfl,hb2⟩:=Ij hb;have hle:l.length+m.length≤(l.length+m.length)*bytes:=Nat.le_mul_of_pos_right _ hpos;refine(Qo0 ha hx hy h hr (by rw[List.length_map,List.length_map];exact hb2) (by rw[List.length_map,List.length_map];omega)).mono ?_;rintro v' w' ⟨z',g',h1,h2,h3,h4,h5⟩;exact⟨z',g',by rw[List.map_append];exact h1,h2,⟨h3⟩,⟨h4⟩⟩
theorem eU {len:Nat}{zs cs:List Value}{parts:Array (Nat × Operand)}{vs:List (Nat × Value)}(l:List α)(c:α→List Value)(hb:lV P t len e sz zs)(hp:uL L parts.toList=some vs)(hf:oG (fun i=>some (i*sz,sz)) zs vs=some cs)
 (hw:Ws sz (l.map c)) (hx:cs=(l.map c).flatten) (hl:l.length=len) (hm:Nat.ble len 1000000=true):
 EV P L ⟨dst,.buildSlice t len parts,ty,pos,af,gu⟩ w fun v' w'=>∃ g',w.heap.size≤g'∧aT w' 1 g' e sz v' (l.map c)∧Gr w w':=Qo2 hb hp hf hw hx (by rw[List.length_map];exact hl) hm
theorem Ws.take {sz n:Nat}{xs:List (List Value)}(h:Ws sz xs):Ws sz (xs.take n):=fun y hy=>h y (List.mem_of_mem_take hy)
theorem Ws.drop {sz n:Nat}{xs:List (List Value)}(h:Ws sz xs):Ws sz (xs.drop n):=fun y hy=>h y (List.mem_of_mem_drop hy)
theorem Ym {sz:Nat}:∀ (n:Nat) (xs:List (List Value)),Ws sz xs→(xs.drop n).flatten=xs.flatten.drop (n*sz)
 | 0,xs,_=>by simp
 | n+1,[],_=>by simp
 | n+1,x::xs,h=>by
  have hx:=(h x (by simp)).1;rw[List.drop_succ_cons,Ym n xs (fun y hy=>h y (List.mem_cons_of_mem _ hy)),List.flatten_cons,List.drop_append];have e:(n+1)*sz-x.length=n*sz:=by rw[hx,Nat.add_mul];omega
  have e2:x.drop ((n+1)*sz)=[]:=List.drop_eq_nil_of_le (by rw[hx,Nat.add_mul];omega);rw[e,e2,List.nil_append]
theorem Yn {sz:Nat}:∀ (n:Nat) (xs:List (List Value)),Ws sz xs→(xs.take n).flatten=xs.flatten.take (n*sz)
 | 0,xs,_=>by simp
 | n+1,[],_=>by simp
 | n+1,x::xs,h=>by
  have hx:=(h x (by simp)).1;rw[List.take_succ_cons,List.flatten_cons,Yn n xs (fun y hy=>h y (List.mem_cons_of_mem _ hy)),List.flatten_cons,List.take_append];have e:(n+1)*sz-x.length=n*sz:=by rw[hx,Nat.add_mul];omega
  have e2:x.take ((n+1)*sz)=x:=List.take_of_length_le (by rw[hx,Nat.add_mul];omega);rw[e,e2]
end
end Go.Sx

end
section
namespace Go.Sx
open Go Go.RowKit
def cC:List (Nat × Nat)→Nat→Prop
 | [],_=>True
 | (z,g)::r,k=>(z=0∨k≠g)∧cC r k
def Mz:List (Nat × Nat)→Nat→Prop
 | [],_=>False
 | (z,g)::r,k=>(k=g∧z≠0)∨Mz r k
def gD (l:List (Nat × Nat))(z g base:Nat):Prop:=z=0∨base≤g∨Mz l g
def gV:List (Nat × Nat)→List (Nat × Nat)→Nat→Prop
 | [],_,_=>True
 | (z,g)::r,l,base=>gD l z g base∧gV r l base
theorem iS {g:Nat}:∀ {ms:List Nat},Mz (ms.map fun b=>(1,b)) g↔g∈ms
 | []=>by simp[Mz]
 | a::r=>by simp[Mz,iS]
theorem Qeg:∀ {l:List (Nat × Nat)} {k g:Nat},cC l k→Mz l g→k≠g
 | [],k,g,_,h=>h.elim
 | (z,b)::r,k,g,hn,h=>by
  rcases h with⟨h1,h2⟩|h
  · subst h1;rcases hn.1 with h0|h0
    · exact absurd h0 h2
    · exact h0
  · exact Qeg hn.2 h
theorem Bi {l:List (Nat × Nat)}{z g base k:Nat}(h:gD l z g base)(hk:k<base)(hn:cC l k):z=0∨k≠g:=by
 rcases h with h|h|h
 · exact .inl h
 · exact .inr (by omega)
 · exact .inr (Qeg hn h)
theorem Qc {l:List (Nat × Nat)}{base k:Nat}(hk:k<base)(hn:cC l k):∀ {m:List (Nat × Nat)},gV m l base→cC m k
 | [],_=>trivial
 | (z,g)::r,h=>⟨Bi h.1 hk hn,Qc hk hn h.2⟩
structure Kz (l:List (Nat × Nat))(w w':World):Prop where
 os:w'.os=w.os
 tape:w'.tape=w.tape
 output:w'.output=w.output
 size:w.heap.size≤w'.heap.size
 block:∀ k,k<w.heap.size→cC l k→w'.heap[k]? = w.heap[k]?
section
variable {l m:List (Nat × Nat)} {w w₁ w₂ w':World} {z g b o sz:Nat} {t e:TypeId} {cs:List Value} {v:Value} {xs:List (List Value)}
theorem Kz.refl (l:List (Nat × Nat))(w:World):Kz l w w:=⟨rfl,rfl,rfl,Nat.le_refl _,fun _ _ _=>rfl⟩
theorem Kz.gr (h:Kz l w w₁)(k:Gr w₁ w₂):Kz l w w₂:=⟨k.os.trans h.os,k.tape.trans h.tape,k.output.trans h.output,Nat.le_trans h.size k.size,fun i hi hn=>(k.block i (Nat.lt_of_lt_of_le hi h.size)).trans (h.block i hi hn)⟩
theorem Kz.md (h:Kz l w w₁)(k:Md b w₁ w₂)(hb:gD l 1 b w.heap.size:=by simp only[cC,gV,gD,iS,Mz,cZ]<;>omega):Kz l w w₂:=⟨k.os.trans h.os,k.tape.trans h.tape,k.output.trans h.output,by rw[k.size];exact h.size,fun i hi hn=>(k.block i (by have:=Bi hb hi hn;omega)).trans (h.block i hi hn)⟩
theorem Kz.ka (h:Kz l w w₁)(k:Ka z g w₁ w₂)(hb:gD l z g w.heap.size:=by simp only[cC,gV,gD,iS,Mz,cZ]<;>omega):Kz l w w₂:=⟨k.os.trans h.os,k.tape.trans h.tape,k.output.trans h.output,Nat.le_trans h.size k.size,fun i hi hn=>(k.block i (Nat.lt_of_lt_of_le hi h.size) (Bi hb hi hn)).trans (h.block i hi hn)⟩
theorem Kz.kz (h:Kz l w w₁)(k:Kz m w₁ w₂)(hb:gV m l w.heap.size:=by simp only[cC,gV,gD,iS,Mz,cZ]<;>omega):Kz l w w₂:=⟨k.os.trans h.os,k.tape.trans h.tape,k.output.trans h.output,Nat.le_trans h.size k.size,fun i hi hn=>(k.block i (Nat.lt_of_lt_of_le hi h.size) (Qc hi hn hb)).trans (h.block i hi hn)⟩
theorem Kz.kp {ms:List Nat}(h:Kz l w w₁)(k:Kp ms w₁ w₂)(hb:gV (ms.map fun b=>(1,b)) l w.heap.size):Kz l w w₂:=⟨k.os.trans h.os,k.tape.trans h.tape,k.output.trans h.output,Nat.le_trans h.size k.size,fun i hi hn=>(k.block i (Nat.lt_of_lt_of_le hi h.size) (fun hm=>by
 have h1:=Qc hi hn hb
 have key:∀ (ms:List Nat),i∈ms→cC (ms.map fun b=>(1,b)) i→False:=by
  intro ms
  induction ms with
  | nil=>intro h;cases h
  | cons a r ih=>
   intro h h2;rcases List.mem_cons.1 h with rfl|h
   · have:=h2.1;omega
   · exact ih h h2.2
 exact key ms hm h1)).trans (h.block i hi hn)⟩
theorem Gr.kz (h:Gr w w₁)(k:Kz m w₁ w₂)(hb:gV m [] w.heap.size:=by simp only[cC,gV,gD,iS,Mz,cZ]<;>omega):Gr w w₂:=⟨k.os.trans h.os,k.tape.trans h.tape,k.output.trans h.output,Nat.le_trans h.size k.size,fun i hi=>(k.block i (Nat.lt_of_lt_of_le hi h.size) (Qc (l:=[]) hi trivial hb)).trans (h.block i hi)⟩
theorem Kp.kz {ms:List Nat}(h:Kp ms w w₁)(k:Kz m w₁ w₂)(hb:gV m (ms.map fun b=>(1,b)) w.heap.size:=by simp only[cC,gV,gD,iS,Mz,cZ]<;>omega):Kp ms w w₂:=⟨k.os.trans h.os,k.tape.trans h.tape,k.output.trans h.output,Nat.le_trans h.size k.size,fun i hi hn=>(k.block i (Nat.lt_of_lt_of_le hi h.size) (Qc hi (by
 have key:∀ (ms:List Nat),i∉ms→cC (ms.map fun b=>(1,b)) i:=by
  intro ms
  induction ms with
  | nil=>intro _;trivial
  | cons a r ih=>intro h;exact⟨.inr (fun e=>h (by rw[e];simp)),ih (fun h2=>h (by simp[h2]))⟩
 exact key ms hn) hb)).trans (h.block i hi hn)⟩
theorem Bx.kz (h:Bx w b t cs)(k:Kz l w w')(hn:cC l b:=by simp only[cC,gV,gD,iS,Mz,cZ]<;>omega):Bx w' b t cs:=(k.block b h.lt hn).trans h
theorem aT.kz (h:aT w z g e sz v xs)(k:Kz l w w')(hn:z=0∨cC l g:=by simp only[cC,gV,gD,iS,Mz,cZ]<;>omega):aT w' z g e sz v xs:=h.keep (hn.imp id fun hn hl=>k.block g hl hn)
theorem Rd.kz (h:Rd w z g o sz v xs)(k:Kz l w w')(hn:z=0∨cC l g:=by simp only[cC,gV,gD,iS,Mz,cZ]<;>omega):Rd w' z g o sz v xs:=h.keep (hn.imp id fun hn hl=>k.block g hl hn) k.size
theorem Df.kz {D:Nat}(h:Df w D)(k:Kz l w w')(hn:cC l D:=by simp only[cC,gV,gD,iS,Mz,cZ]<;>omega):Df w' D:=(k.block D h.lt hn).trans h
theorem Rd.oneB (h:Rd w z g o sz v xs):oneB v=true:=by
 rcases h.2 with⟨_,_,a,c,rfl⟩|⟨_,c,rfl,_⟩<;>rfl
end
theorem Qi3 {sz:Nat}{α:Type}{c:α→List Value}{l:List α}(h:∀ x∈l,(c x).length=sz∧bI (c x)=true):Ws sz (l.map c):=fun y hy=>by
 obtain⟨x,hx,rfl⟩:=List.mem_map.1 hy;exact h x hx
theorem fC (k:IntKind)(n:Int):oneB (.int k n)=true:=rfl
theorem fB (b:Bool):oneB (.bool b)=true:=rfl
theorem fM (b:ByteArray):oneB (.string b)=true:=rfl
theorem Qwy {P:Program}{r:Option Nat}{n:Nat}{Q:Exit→List Deferred→Slots→World→Prop}{D:List Deferred}{L:Slots}{w:World}{x y:Code}{β:Type}(dead:List Nat)(dyn:β→Slots)(J:β→World→Prop)
 (hk:∀ b w1,J b w1→SW P r n y Q D (dyn b++lD dead L) w1)
 (h:SW P r n x (lZ (fun D1 L1 w1=>D1=D∧∃ b,lR (dyn b++lD dead L) L1∧J b w1) Q) D L w):SW P r n (.seq x y) Q D L w:=
 aY (h.mono fun e D1 L1 w1 hh=>by
  cases e with
  | normal=>obtain⟨rfl,b,h1,h2⟩:=hh;exact(hk b w1 h2).forget h1
  | exit id=>exact hh
  | goto l=>exact hh
  | ret=>exact hh
  | panic c=>exact hh
  | outgrown=>exact hh)
section
variable {P:Program} {L:Slots} {w:World} {dst:Option Nat} {ty:TypeId} {pos:String} {af:Array Edge} {gu:Option (Nat × Bool)} {x y:Operand} {t u:TypeId}
theorem Ao {p:Prop}[Decidable p](hx:ev L x=some (.bool (decide p))):VV P L ⟨dst,.unOp .not t x,ty,pos,af,gu⟩ w (.bool (decide (¬ p))):=eR (dB hx) (by by_cases h:p<;>simp[h])
def BZ (P:Program)(t:TypeId)(v:Value):Prop:=∀ w,(Instr.build t #[]).run P w=.ok v w
theorem lL {v:Value}(h:BZ P t v):VV P L ⟨dst,.build t #[],ty,pos,af,gu⟩ w v:=fun ρ hρ=>kO (by simpa using h w)
def Qgq:Value→Bool
 | .pointer (some _)=>true
 | .func (.func _) _ _=>true
 | _=>false
theorem eX {v:Value}(hx:ev L x=some v)(hs:Qgq v=true):VV P L ⟨dst,.nilCheck x,ty,pos,af,gu⟩ w v:=fun ρ hρ=>by
 simp only[execOp,hρ _ _ hx];unfold Qgq at hs
 split at hs<;>first|rfl|cases hs
theorem Qyd {a b:Bool}(hu:P.underlying t=some .bool)(hx:ev L x=some (.bool a))(hy:ev L y=some (.bool b)):VV P L ⟨dst,.binOp .eql t x y u,ty,pos,af,gu⟩ w (.bool (a == b)):=fun ρ hρ=>by
 simp[execOp,hρ _ _ hx,hρ _ _ hy,go_sem,run_eql_bool _ _ _ _ hu]
theorem Qym {a b:Bool}(hu:P.underlying t=some .bool)(hx:ev L x=some (.bool a))(hy:ev L y=some (.bool b)):VV P L ⟨dst,.binOp .neq t x y u,ty,pos,af,gu⟩ w (.bool (a != b)):=fun ρ hρ=>by
 simp[execOp,hρ _ _ hx,hρ _ _ hy,go_sem,run_neq_bool _ _ _ _ hu];cases a<;>cases b<;>rfl
theorem Qaj {p:Prop}[Decidable p]{q:Prop}(h:q↔p):iO q=decide p:=by
 by_cases hp:p
 · rw[W7 (h.2 hp)];simp[hp]
 · rw[Qak (fun hq=>hp (h.1 hq))];simp[hp]
theorem Zy {α:Type}[DecidableEq α]{cf:α→List Value}{a b:α}{ks:List Ck}(h:tU P t ks)(hx:ev L x=some (.agg (cf a).toArray))(hy:ev L y=some (.agg (cf b).toArray))(hc:kn ks (cf a)=true)(hd:kn ks (cf b)=true)(inj:cf a=cf b→a=b):
 VV P L ⟨dst,.binOp .eql t x y u,ty,pos,af,gu⟩ w (.bool (decide (a=b))):=eR (Qyc h hx hy hc hd) (by rw[Qaj ⟨inj,fun h=>by rw[h]⟩])
theorem Am {α:Type}[DecidableEq α]{cf:α→List Value}{a b:α}{ks:List Ck}(h:tU P t ks)(hx:ev L x=some (.agg (cf a).toArray))(hy:ev L y=some (.agg (cf b).toArray))(hc:kn ks (cf a)=true)(hd:kn ks (cf b)=true)(inj:cf a=cf b→a=b):
 VV P L ⟨dst,.binOp .neq t x y u,ty,pos,af,gu⟩ w (.bool (decide (a≠b))):=eR (Qyk h hx hy hc hd) (by rw[Qaj (p:=a=b) ⟨inj,fun h=>by rw[h]⟩];by_cases h:a=b<;>simp[h])
theorem dJ {a b:Int}{k:IntKind}(h:some (Value.int k a)=some (.int k b)):a=b:=by simpa using h
theorem xD {a b:BitVec 64}(h:some (wv a)=some (wv b)):a=b:=Af (dJ h)
theorem sW {a b:BitVec 8}(h:some (bv a)=some (bv b)):a=b:=Qhf (dJ h)
theorem Kf {a b:Bool}(h:some (Value.bool a)=some (.bool b)):a=b:=by simpa using h
theorem dK {b' off:Nat}{tb:TypeId}{v:Value}{cs cs':List Value}(hs:gQ P t 1)(hx:ev L x=some (.pointer (some ⟨b',off,none⟩)))(hy:ev L y=some v)(h1:oneB v=true)(hb:Bx w b' tb cs)(hl:Nat.blt off cs.length=true)(he:cs.set off v=cs'):
 EV P L ⟨dst,.store t x y,ty,pos,af,gu⟩ w fun _ w'=>Bx w' b' tb cs'∧Md b' w w':=by
 subst he;exact P0 hs hx hy h1 hb (by simpa using hl)
theorem H9 {b' off m:Nat}{tb:TypeId}{v:Value}{cs vs cs':List Value}(hs:gQ P t m)(hx:ev L x=some (.pointer (some ⟨b',off,none⟩)))(hy:ev L y=some v)(hc:v.cells=vs.toArray)(hm:vs.length=m)(h1:bI vs=true)(hb:Bx w b' tb cs)(hl:Nat.ble (off+m) cs.length=true)(he:gJ cs off vs=cs'):
 EV P L ⟨dst,.store t x y,ty,pos,af,gu⟩ w fun _ w'=>Bx w' b' tb cs'∧Md b' w w':=by
 subst he;exact Vx hs hx hy hc hm h1 hb hl
end
section
variable {P:Program} {L:Slots} {w:World} {dst:Option Nat} {ty:TypeId} {pos:String} {af:Array Edge} {gu:Option (Nat × Bool)} {x y:Operand} {t e:TypeId} {z g sz:Nat} {v:Value}
theorem Qwj (cs:List Value)(off:Nat)(vs:List Value)(h:off+vs.length≤cs.length):(gJ cs off vs).length=cs.length:=by simp[gJ];omega
theorem Qx4 (cs:List Value)(off n:Nat)(vs:List Value)(h:off+vs.length≤n)(hn:n≤cs.length):(gJ cs off vs).take n=gJ (cs.take n) off vs:=by
 have e1:(cs.take off).length=off:=by simp;omega
 unfold gJ;rw[List.take_append,List.take_append,List.length_append,e1,List.take_of_length_le (l:=cs.take off) (by omega),List.take_of_length_le (l:=vs) (by omega),List.take_take,Nat.min_eq_left (by omega),List.drop_take]
theorem Qcx:∀ (xs:List (List Value)) (i q:Nat) (c vs:List Value),Ws sz xs→xs[i]? = some c→q+vs.length≤sz→(xs.set i (gJ c q vs)).flatten=gJ xs.flatten (i*sz+q) vs
 | [],i,q,c,vs,_,hi,_=>by simp at hi
 | a::xs,0,q,c,vs,h,hi,hq=>by
  simp at hi;subst hi;have ha:=(h a (by simp)).1;simp only[List.set_cons_zero,List.flatten_cons,Nat.zero_mul,Nat.zero_add,gJ];rw[List.take_append_of_le_length (by omega),List.drop_append_of_le_length (by omega)];simp
 | a::xs,i+1,q,c,vs,h,hi,hq=>by
  simp at hi;have ha:=(h a (by simp)).1;have ih:=Qcx xs i q c vs (fun y hy=>h y (List.mem_cons_of_mem _ hy)) hi hq;rw[List.set_cons_succ,List.flatten_cons,ih,List.flatten_cons];simp only[gJ];have e1:(i+1)*sz+q=a.length+(i*sz+q):=by rw[ha,Nat.add_mul];omega
  rw[e1,List.take_append,List.take_of_length_le (l:=a) (by omega),show a.length+(i*sz+q)-a.length=i*sz+q from by omega,List.drop_append,@List.drop_eq_nil_of_le _ a _ (by omega),show a.length+(i*sz+q)+vs.length-a.length=i*sz+q+vs.length from by omega];simp
theorem lT {α:Type}{l:List α}{c:α→List Value}{a a':α}{i:Int}{p q m:Nat}{u:Value}{vs:List Value}(hs:gQ P t m)(hx:ev L x=some (.pointer (some ⟨g,p,none⟩)))(hy:ev L y=some u)(hc:u.cells=vs.toArray)(hm:vs.length=m)(h1:bI vs=true)
 (h:aT w z g e sz v (l.map c)) (hg:bG l i=some a) (hp:p=i.toNat*sz+q) (hq:Nat.ble (q+m) sz=true) (he:gJ (c a) q vs=c a') (hw:(c a').length=sz∧bI (c a')=true):
 EV P L ⟨dst,.store t x y,ty,pos,af,gu⟩ w fun _ w'=>aT w' z g e sz v ((l.set i.toNat a').map c)∧Md g w w':=by
 have hq':=Nat.le_of_ble_eq_true hq;have hi:=pO hg;have hxi:(l.map c)[i.toNat]? = some (c a):=oS hi;have hil:=(List.getElem?_eq_some_iff.1 hxi).1;rcases h.2 with⟨_,_,h0⟩|⟨hz,cap,cur,hv,hb,hn,hcap,hsz,htk⟩
 · rw[h0] at hxi;simp at hxi
 · have hbx:Bx w g e cur.toList:=by unfold Bx;simpa using hb
   have hfl:=h.1.flat;have hle:(l.map c).length*sz≤cur.toList.length:=by rw[show cur.toList.length=cap*sz from hsz];exact Nat.mul_le_mul_right _ hn
   have hin:i.toNat*sz+sz≤(l.map c).length*sz:=by rw[←Nat.succ_mul];exact Nat.mul_le_mul_right _ hil
   have hbd:i.toNat*sz+q+vs.length≤cur.toList.length:=by omega
   refine(Vx (off:=p) hs hx hy hc hm h1 hbx (by rw[Nat.ble_eq_true_of_le];omega)).mono ?_;rintro _ w' ⟨h2,h3⟩;have hset:(l.set i.toNat a').map c=(l.map c).set i.toNat (gJ (c a) q vs):=by rw[List.map_set,he]
   refine⟨⟨?_,.inr ⟨hz,cap,(gJ cur.toList p vs).toArray,?_,h2,?_,hcap,?_,?_⟩⟩,h3⟩
   · rw[hset];intro y hy;rcases List.mem_or_eq_of_mem_set hy with hy|hy
     · exact h.1 y hy
     · subst hy;rw[he];exact hw
   · rw[hv];simp
   · simpa using hn
   · rw[List.size_toArray,hp,Qwj _ _ _ (by omega),Array.length_toList];exact hsz
   · rw[hset,Qcx _ _ _ _ _ h.1 hxi (by omega),←htk,hp,List.length_set];exact Qx4 _ _ _ _ (by omega) hle
theorem Qe8 (z:List Value)(h:0<z.length):∀ n,((List.range (n*z.length)).map fun i=>z.toArray[i%z.toArray.size]!)=(List.replicate n z).flatten
 | 0=>by simp
 | n+1=>by
  rw[Nat.add_mul,Nat.one_mul,List.range_add,List.map_append,Qe8 z h n,List.map_map,List.replicate_succ',List.flatten_append];congr 1;apply List.ext_getElem (by simp);intro i h1 h2;have hi:i<z.length:=by simpa using h1
  have e1:(n*z.length+i)%z.length=i:=by rw[Nat.mul_comm,Nat.mul_add_mod,Nat.mod_eq_of_lt hi]
  simp[e1,hi]
theorem Qby {bytes:Nat}{zv:Value}{α:Type}{c:α→List Value}{a:α}{n:Int}{l:List α}(ha:lS P t e sz bytes)(hz:ZV P e zv)(hc:zv.cells=(c a).toArray)(hs:(c a).length=sz∧bI (c a)=true)(hx:ev L x=some (.int .i64 n))(hl:T1 bytes n a=some l)(hpos:1≤bytes):
 EV P L ⟨dst,.makeSlice t x x,ty,pos,af,gu⟩ w fun v' w'=>∃ g',w.heap.size≤g'∧aT w' 1 g' e sz v' (l.map c)∧Gr w w':=fun ρ hρ=>by
 obtain⟨rfl,h0,hb⟩:=Qr0 hl;obtain⟨i,zv',hi,hzv,hsz,hby,hzs⟩:=ha.info
 have hzz:zv'=zv:=by
  have h1:=hz w;simp[zeroValue,typeInfo,hi,hzv] at h1;exact h1
 subst hzz hsz hby;have hle:n≤n*i.bytes:=by have:=Int.mul_le_mul_of_nonneg_left (show(1:Int)≤i.bytes by omega) h0;omega
 have hbc:(i.bytes:Int)*n=n*i.bytes:=Int.mul_comm _ _;have hrun:=run_make (P:=P) w t e i zv' ha.und hi hzv .i64 .i64 n n h0 (Int.le_refl _) (by omega) (by omega)
 have hmade:(madeCells zv'.cells (n.toNat*i.size)).toList=(List.replicate n.toNat (c a)).flatten:=by
  rw[hc];unfold madeCells;rw[Array.toList_map,Array.toList_range,←hs.1];exact Qe8 (c a) (by rw[hs.1];exact ha.pos) n.toNat
 have hws:Ws i.size ((List.replicate n.toNat a).map c):=Qi3 (fun y hy=>by rw[List.eq_of_mem_replicate hy];exact hs);refine .val _ _ (kO ?_) ⟨w.heap.size,Nat.le_refl _,⟨hws,.inr ⟨rfl,n.toNat,madeCells zv'.cells (n.toNat*i.size),by rw[List.length_map,List.length_replicate],heap_alloc_new w _,by rw[List.length_map,List.length_replicate];exact Nat.le_refl _,by simp only[maxLen];omega,size_madeCells _ _,?_⟩⟩,(Below.refl _ _).alloc (Nat.le_refl _) _⟩
 · rw[hρ _ _ hx];exact hrun
 · rw[List.length_map,List.length_replicate,List.map_replicate,←hmade,List.take_of_length_le (by rw[Array.length_toList,size_madeCells];exact Nat.le_refl _)]
def wV (L:Slots)(o:Option Operand)(d v:Int):Prop:=match o with
 | none=>v=d
 | some x=>∃ k,ev L x=some (.int k v)
theorem Qg6 {a:Option Addr}{len cap:Nat}{lo hi:Int}{ol oh:Option Operand}{ρ:Operand→Value}(hρ:oQ L ρ)(hu:P.underlying t=some (.slice e))(hs:gQ P e sz)(h1:wV L ol 0 lo)(h2:wV L oh (len:Int) hi)(h0:0≤lo)(hlh:lo≤hi)(hh:hi≤len)(hcap:len≤cap):
 (Instr.sliceAt t (.slice a len cap) (ol.map ρ) (oh.map ρ) none).run P w=.ok (sliced a lo.toNat hi.toNat cap sz) w:=by
 have he:P.elem t=e:=by simp[Program.elem,hu]
 have hu':P.underlying t=some (.slice (P.elem t)):=by rw[he];exact hu
 rw[run_sliceAt_slice _ _ _ _ _ _ hu']
 cases ol with
 | none=>
  simp only[wV] at h1;subst h1
  cases oh with
  | none=>simp only[wV] at h2;subst h2;rw[Option.map_none,run_slice_all _ _ _ _ _ hu',he,hs w];simp[Result.andThen]
  | some q=>obtain⟨k,hq⟩:=h2;rw[Option.map_none,Option.map_some,hρ _ _ hq,run_slice_h _ _ _ _ _ hu' _ _ (by omega) (by omega),he,hs w];simp[Result.andThen]
 | some p=>
  obtain⟨k1,hp⟩:=h1
  cases oh with
  | none=>simp only[wV] at h2;subst h2;rw[Option.map_none,Option.map_some,hρ _ _ hp,run_slice_l _ _ _ _ _ hu' _ _ h0 (by omega),he,hs w];simp[Result.andThen]
  | some q=>obtain⟨k,hq⟩:=h2;rw[Option.map_some,Option.map_some,hρ _ _ hp,hρ _ _ hq,run_slice_lh _ _ _ _ _ hu' _ _ _ _ h0 hlh (by omega),he,hs w];simp[Result.andThen]
theorem Qhz {α:Type}{c:α→List Value}{l m:List α}{lo hi:Int}{ol oh:Option Operand}{o:Nat}(hu:P.underlying t=some (.slice e))(hs:gQ P e sz)(hx:ev L x=some v)(hr:Rd w z g o sz v (l.map c))(h1:wV L ol 0 lo)(h2:wV L oh (l.length:Int) hi)(hl:nH l lo hi=some m):
 ∃ v' o',(∀ w1,VV P L ⟨dst,.slice t x ol oh none,ty,pos,af,gu⟩ w1 v')∧Rd w z g o' sz v' (m.map c):=by
 obtain⟨rfl,h3,h4,h5⟩:=Qgh hl;rcases hr.2 with⟨hz,hnil,a,cap,rfl⟩|⟨hz,cap,rfl,⟨hg,hcap⟩,hcell⟩
 · have hl0:l=[]:=by simpa using hnil
   subst hl0;simp only[List.length_nil] at h2 h5;have e1:lo=0:=by omega
   have e2:hi=0:=by omega
   subst e1 e2;refine⟨_,0,fun w1 ρ hρ=>kO (by rw[hρ _ _ hx];exact Qg6 hρ hu hs h1 h2 (by omega) (by omega) (by omega) (Nat.zero_le _)),by simpa using hr.1,.inl ⟨hz,by simp,?_⟩⟩;exact⟨_,_,rfl⟩
 · rw[List.length_map] at hcap hx;have hlen:((l.map c).take hi.toNat).length=hi.toNat:=by rw[List.length_take,List.length_map];omega
   have hm:(((l.take hi.toNat).drop lo.toNat).map c)=((l.map c).take hi.toNat).drop lo.toNat:=by rw[List.map_drop,List.map_take]
   have hml:(((l.take hi.toNat).drop lo.toNat).map c).length=hi.toNat-lo.toNat:=by rw[hm,List.length_drop,hlen]
   refine⟨_,if cap=lo.toNat then o else o+lo.toNat*sz,fun w1 ρ hρ=>kO (by rw[hρ _ _ hx];exact Qg6 hρ hu hs h1 h2 h3 h4 h5 hcap),by rw[hm];exact hr.1.take.drop,.inr ⟨hz,cap-lo.toNat,?_,⟨hg,by rw[hml];omega⟩,fun j u hj=>?_⟩⟩
   · simp only[sliced,hml];by_cases e:cap=lo.toNat
     · rw[if_pos e,if_pos e]
     · rw[if_neg e,if_neg e];simp[Addr.add_lit]
   · rw[hm,Ym _ _ hr.1.take,Yn _ _ hr.1,List.getElem?_drop] at hj
     have hj2:(l.map c).flatten[lo.toNat*sz+j]? = some u:=by
      rw[List.getElem?_take] at hj
      split at hj
      · exact hj
      · cases hj
     by_cases e:cap=lo.toNat
     · exfalso;have e2:hi.toNat=lo.toNat:=by omega
       rw[List.getElem?_take,e2] at hj
       split at hj
       · omega
       · cases hj
     · rw[if_neg e,Nat.add_assoc];exact hcell _ _ hj2
end
end Go.Sx
namespace Go.Sx
open Go
section
variable {P:Program} {n:Nat} {ops:Array Oper} {Q:Slots→World→Prop} {rest:List (Nat × Nat)} {i:Nat} {dst:Option Nat} {op:Op} {ty:TypeId} {pos:String} {af:Array Edge} {gu:Option (Nat × Bool)} {L:Slots} {w w₀:World} {ms:List Nat} {kp:Nat→Nat→Bool} {B:Value→Nat→Prop}
end
end Go.Sx

end
section
namespace Go.Sx
open Go Go.RowKit
def fR (x:BitVec 64)(i:Nat):BitVec 8:=(x >>> (56-8*i)).setWidth 8
def cI (p:W2):List (BitVec 8):=[fR p.1 0,fR p.1 1,fR p.1 2,fR p.1 3,fR p.1 4,fR p.1 5,fR p.1 6,fR p.1 7,fR p.2 0,fR p.2 1,fR p.2 2,fR p.2 3,fR p.2 4,fR p.2 5,fR p.2 6,fR p.2 7]
theorem gE (p:W2):(cI p).length=16:=rfl
theorem Qxr (x:BitVec 64)(i:Nat):aC (fR x i)=bt x i:=by
 unfold aC fR bt un;rw[BitVec.toNat_setWidth];omega
theorem sE (p:W2):kb p=((cI p).map eZ).flatten:=by
 simp only[kb,cI,List.map_cons,List.map_nil,List.flatten_cons,List.flatten_nil,List.cons_append,List.nil_append,bv,Qxr]
def qD (b0 b1 b2 b3 b4 b5 b6 b7:BitVec 8):BitVec 64:=b0++b1++b2++b3++b4++b5++b6++b7
theorem Ox (b0 b1 b2 b3 b4 b5 b6 b7:BitVec 8):fR (qD b0 b1 b2 b3 b4 b5 b6 b7) 0=b0∧fR (qD b0 b1 b2 b3 b4 b5 b6 b7) 1=b1∧fR (qD b0 b1 b2 b3 b4 b5 b6 b7) 2=b2∧fR (qD b0 b1 b2 b3 b4 b5 b6 b7) 3=b3∧fR (qD b0 b1 b2 b3 b4 b5 b6 b7) 4=b4∧fR (qD b0 b1 b2 b3 b4 b5 b6 b7) 5=b5∧fR (qD b0 b1 b2 b3 b4 b5 b6 b7) 6=b6∧fR (qD b0 b1 b2 b3 b4 b5 b6 b7) 7=b7:=by
 have key:∀ (x y:BitVec 8),(∀ i,i<8→x.getLsbD i=y.getLsbD i)→x=y:=fun x y h=>BitVec.eq_of_getLsbD_eq (fun i hi=>h i hi);refine⟨?_,?_,?_,?_,?_,?_,?_,?_⟩ <;>
 · apply key;intro i hi;simp only[fR,qD,BitVec.getLsbD_setWidth,BitVec.getLsbD_ushiftRight,BitVec.getLsbD_append,hi,decide_true,Bool.true_and]
   repeat' split
   all_goals first|omega|(congr 1;omega)
def kE:List (BitVec 8)→W2
 | b0::b1::b2::b3::b4::b5::b6::b7::c0::c1::c2::c3::c4::c5::c6::c7::_=>(qD b0 b1 b2 b3 b4 b5 b6 b7,qD c0 c1 c2 c3 c4 c5 c6 c7)
 | _=>k0
theorem Qd {l:List (BitVec 8)}(h:16≤l.length):cI (kE l)=l.take 16:=by
 match l,h with
 | b0::b1::b2::b3::b4::b5::b6::b7::c0::c1::c2::c3::c4::c5::c6::c7::r,_=>
  obtain⟨h0,h1,h2,h3,h4,h5,h6,h7⟩:=Ox b0 b1 b2 b3 b4 b5 b6 b7;obtain⟨g0,g1,g2,g3,g4,g5,g6,g7⟩:=Ox c0 c1 c2 c3 c4 c5 c6 c7;simp only[kE,cI,h0,h1,h2,h3,h4,h5,h6,h7,g0,g1,g2,g3,g4,g5,g6,g7];rfl
theorem Qpq {p q:W2}(h:cI p=cI q):p=q:=qQ (by rw[sE,sE,h])
theorem Qs0 (p:W2)(r:List (BitVec 8)):kE (cI p++r)=p:=Qpq (by rw[Qd (by simp[cI])];rfl)
def D6 (p:W2)(i:Int)(b:BitVec 8):Option W2:=if 0≤i∧i<16 then some (kE ((cI p).set i.toNat b)) else none
theorem Qq0 {p q:W2}{i:Int}{b:BitVec 8}(h:D6 p i b=some q):(0≤i∧i<16)∧cI q=(cI p).set i.toNat b:=by
 unfold D6 at h;split at h
 · refine⟨‹_›,?_⟩;cases h;rw[Qd (by simp[cI]),List.take_of_length_le (by simp[cI])]
 · cases h
section
variable {P:Program} {L:Slots} {w:World} {dst:Option Nat} {ty:TypeId} {pos:String} {af:Array Edge} {gu:Option (Nat × Bool)} {x y:Operand} {t e:TypeId} {z g o sz:Nat} {v:Value}
theorem Ui {b:Nat}{cs:List Value}{p:W2}(hb:Bx w b t cs)(h:(cs.drop o).take 16=kb p):Rd w 1 b o 1 (.slice (some ⟨b,o,none⟩) 16 16) ((cI p).map eZ):=
 Qfg hb (C6 _ (fun _=>rfl) (fun _=>rfl)) rfl (by rw[←sE];exact h)
theorem Jb {b' off:Nat}{k:IntKind}{i:Int}{p:W2}{c:BitVec 8}(hu:P.underlying t=some (.array 16 e))(hs:gQ P e 1)(hx:ev L x=some (.pointer (some ⟨b',off,none⟩)))(hy:ev L y=some (.int k i))(hg:bG (cI p) i=some c):VV P L ⟨dst,.indexAddr t x y,ty,pos,af,gu⟩ w (.pointer (some ⟨b',off+i.toNat*1,none⟩)):=
 tB hu hs hx hy (oL hg) (by have:=P7 hg;rw[gE] at this;omega)
theorem Gn {b off q:Nat}{tb:TypeId}{cs:List Value}{p:W2}{i:Int}{c:BitVec 8}(h1:eI P t)(hx:ev L x=some (.pointer (some ⟨b,q,none⟩)))(hb:Bx w b tb cs)(h:(cs.drop off).take 16=kb p)(hg:bG (cI p) i=some c)(hq:q=off+i.toNat):VV P L ⟨dst,.load t x,ty,pos,af,gu⟩ w (bv c):=by
 refine aV h1 hx hb ?_;have hi:=pO hg;have cP:i.toNat<16:=by have:=P7 hg;have:=oL hg;rw[gE] at *;omega
 have e1:(kb p)[i.toNat]? = some (bv c):=by
  have hw:Ws 1 ((cI p).map eZ):=C6 _ (fun _=>rfl) (fun _=>rfl);have:=hw.at (i.toNat) 0 (eZ c) (oS hi) (by omega);rw[sE];simpa using this
 rw[←h,List.getElem?_take,if_pos cP,List.getElem?_drop] at e1;rw[hq];exact e1
theorem Qwi {cs:List Value}{off:Nat}{p q:W2}{i:Nat}{c:BitVec 8}(h:(cs.drop off).take 16=kb p)(hi:i<16)(hq:cI q=(cI p).set i c)(hl:off+16≤cs.length):cs.set (off+i) (bv c)=gJ cs off (kb q):=by
 have hkq:kb q=(kb p).set i (bv c):=by
  rw[sE,sE,hq]
  have e1:∀ (l:List (BitVec 8)) (i:Nat),((l.set i c).map eZ).flatten=((l.map eZ).flatten).set i (bv c):=by
   intro l
   induction l with
   | nil=>intro i;simp
   | cons a l ih=>
    intro i
    cases i with
    | zero=>simp
    | succ i=>rw[List.set_cons_succ,List.map_cons,List.flatten_cons,ih,List.map_cons,List.flatten_cons];rfl
  exact e1 _ _
 have hkl:(kb q).length=16:=rfl;apply List.ext_getElem?;intro j;rw[List.getElem?_set];unfold gJ;rw[hkl];by_cases h1:j<off
 · rw[if_neg (by omega),List.append_assoc,List.getElem?_append_left (by simp;omega),List.getElem?_take_of_lt h1]
 · by_cases h2:j<off+16
   · rw[List.append_assoc,List.getElem?_append_right (by simp;omega),List.getElem?_append_left (by simp[hkl];omega)];have e2:j-(cs.take off).length=j-off:=by simp;omega
     rw[e2,hkq,List.getElem?_set,←h];by_cases h3:i=j-off
     · rw[if_pos (by omega),if_pos h3];have:i<((cs.drop off).take 16).length:=by simp;omega
       rw[if_pos (by omega),if_pos this]
     · rw[if_neg (by omega),if_neg h3,List.getElem?_take_of_lt (by omega),List.getElem?_drop];congr 1;omega
   · rw[if_neg (by omega),List.append_assoc,List.getElem?_append_right (by simp;omega),List.getElem?_append_right (by simp[hkl];omega),List.getElem?_drop];congr 1;simp[hkl];omega
theorem Qo9 {b off qq:Nat}{tb:TypeId}{cs cs':List Value}{p q:W2}{i:Int}{c:BitVec 8}(hs:gQ P t 1)(hx:ev L x=some (.pointer (some ⟨b,qq,none⟩)))(hy:ev L y=some (bv c))(hb:Bx w b tb cs)(h:(cs.drop off).take 16=kb p)(hk:D6 p i c=some q)(hq:qq=off+i.toNat*1)(hl:Nat.ble (off+16) cs.length=true)(he:gJ cs off (kb q)=cs'):
 EV P L ⟨dst,.store t x y,ty,pos,af,gu⟩ w fun _ w'=>Bx w' b tb cs'∧Md b w w':=by
 obtain⟨hi,hkq⟩:=Qq0 hk;have hl':=Nat.le_of_ble_eq_true hl;refine dK hs hx hy rfl hb (by simp;omega) ?_;rw[←he,←Qwi h (by omega) hkq hl'];congr 1;omega
end
def oK {α:Type}(d s:List α):List α:=s.take d.length++d.drop s.length
def uQ {α:Type}(d s:List α):Int:=((min s.length d.length:Nat):Int)
section
variable {P:Program} {L:Slots} {w:World} {dst:Option Nat} {ty:TypeId} {pos:String} {af:Array Edge} {gu:Option (Nat × Bool)} {x y:Operand} {t e:TypeId} {z g:Nat} {v:Value}
end
end Go.Sx

end
section
namespace Go.Sx
open Go Go.RowKit
def eS {α σ R:Type}(F:α→(σ→Option R)→σ→Option R)(d:σ→Option R)(l:List α):σ→Option R:=l.foldr F d
theorem Qpm {α σ R:Type}(F:α→(σ→Option R)→σ→Option R)(d:σ→Option R):eS F d []=d:=rfl
theorem rH {α σ R:Type}(F:α→(σ→Option R)→σ→Option R)(d:σ→Option R)(a:α)(l:List α):eS F d (a::l)=F a (eS F d l):=rfl
theorem uA {α σ R:Type}{F:α→(σ→Option R)→σ→Option R}{d:σ→Option R}{l:List α}{k:Nat}{s:σ}{r:R}{a:α}(h:eS F d (l.drop k) s=some r)(ha:l[k]? = some a):F a (eS F d (l.drop (k+1))) s=some r:=by
 obtain⟨hk,rfl⟩:=List.getElem?_eq_some_iff.1 ha;rw[List.drop_eq_getElem_cons hk,rH] at h;exact h
theorem uI {α β σ R:Type}{F:α→(σ→Option R)→σ→Option R}{d:σ→Option R}{l:List α}{c:α→β}{s:σ}{r:R}(h:eS F d (l.drop (l.map c).length) s=some r):d s=some r:=by
 rw[List.length_map,List.drop_length] at h;exact h
theorem aT.z1 {w:World}{z g sz:Nat}{e:TypeId}{v:Value}{α:Type}{l:List α}{c:α→List Value}{i:Int}{a:α}(h:aT w z g e sz v (l.map c))(hg:bG l i=some a):z=1:=by
 rcases h.2 with⟨_,_,h0⟩|⟨h1,_⟩
 · have:l=[]:=by simpa using h0
   subst this;have:=P7 hg;have:=oL hg;simp at *;omega
 · exact h1
theorem mT {l:List (Nat × Nat)}{ms:List Nat}{w w':World}(h:Kp ms w w')(hn:∀ k,cC l k→k∉ms):Kz l w w':=⟨h.os,h.tape,h.output,h.size,fun k hk hl=>h.block k hk (hn k hl)⟩
theorem rG {l:List (Nat × Nat)}{ms:List Nat}{w w':World}(h:Kz l w w')(hn:∀ k,k∉ms→cC l k):Kp ms w w':=⟨h.os,h.tape,h.output,h.size,fun k hk hl=>h.block k hk (hn k hl)⟩
theorem aT.hs {w w':World}{z g sz:Nat}{e:TypeId}{v:Value}{xs:List (List Value)}{ms:List Nat}(h:aT w z g e sz v xs)(hs:∀ b∈ms,w'.heap[b]? = w.heap[b]?)(hm:z≠0→g∈ms):aT w' z g e sz v xs:=
 h.keep (by by_cases hz:z=0;exact .inl hz;exact .inr fun _=>hs g (hm hz))
theorem Rd.hs {w w':World}{z g o sz:Nat}{v:Value}{xs:List (List Value)}{ms:List Nat}(h:Rd w z g o sz v xs)(he:wK w w')(hs:∀ b∈ms,w'.heap[b]? = w.heap[b]?)(hm:z≠0→g∈ms):Rd w' z g o sz v xs:=
 h.keep (by by_cases hz:z=0;exact .inl hz;exact .inr fun _=>hs g (hm hz)) he.size
theorem rI {α:Type}(p:α→Nat→Prop)(FP:α→List Nat)(F:α→World→Prop)(h1:∀ a W,F a W→∀ b∈FP a,b<W.heap.size)
 (h2:∀ a W W',F a W→wK W W'→(∀ b∈FP a,W'.heap[b]? = W.heap[b]?)→F a W'):lF fun k fp W=>∃ a,p a k∧fp=FP a∧F a W:=
 ⟨fun⟨a,_,h,hF⟩ b hb=>h1 a _ hF b (h ▸ hb),fun⟨a,hp,h,hF⟩ he hs=>⟨a,hp,h,h2 a _ _ hF he (h ▸ hs)⟩⟩
theorem Qgm {J:Nat→List Nat→World→Prop}(p:Prop)(h:lF J):lF fun i fp W=>p∧J i fp W:=⟨fun h0 b hb=>h.lt h0.2 b hb,fun h0 he hs=>⟨h0.1,h.keep h0.2 he hs⟩⟩
def yl {α:Type}(x:α)(m:Option (List α)):Option (List α):=m.map (x :: ·)
theorem zI {α:Type}{x:α}{m:Option (List α)}{r:List α}(h:yl x m=some r):∃ t,m=some t∧r=x::t:=by
 cases m with
 | none=>cases h
 | some t=>exact⟨t,rfl,(Option.some.inj h).symm⟩
def Dr {α:Type}(xs:List α)(k:Nat)(rr:List α):Prop:=k≤xs.length∧xs.drop k=rr
theorem A9 {α:Type}(xs:List α):Dr xs 0 xs:=⟨Nat.zero_le _,rfl⟩
theorem Dr.at {α:Type}{xs rr t:List α}{k:Nat}{x:α}(h:Dr xs k rr)(e:rr=x::t):xs[k]? = some x:=by
 have h1:=h.2;rw[e] at h1;have:(xs.drop k)[0]? = some x:=by rw[h1];rfl
 rwa[List.getElem?_drop,Nat.add_zero] at this
theorem Dr.next {α:Type}{xs rr t:List α}{k:Nat}{x:α}(h:Dr xs k rr)(e:rr=x::t):Dr xs (k+1) t:=by
 have h0:=h.at e;have hk:=(List.getElem?_eq_some_iff.1 h0).1;refine⟨hk,?_⟩;have h1:=h.2;rw[e,List.drop_eq_getElem_cons hk] at h1;exact(List.cons.inj h1).2
theorem Dr.last {α β:Type}{xs rr:List α}{k:Nat}{c:α→β}(h:Dr xs k rr)(e:rr=[]):k=(xs.map c).length:=by
 have h1:=h.2;rw[e,List.drop_eq_nil_iff] at h1;have:=h.1;rw[List.length_map];omega
theorem Qrb {f f':List Nat}{s z b:Nat}(hF:∀ c∈f',c∈f∨s≤c)(h:z=0∨b∉f)(cP:z=0∨b<s):z=0∨b∉f':=by
 rcases h with h|h
 · exact .inl h
 · rcases cP with h1|h1
   · exact .inl h1
   · exact .inr (fZ hF h h1)
theorem lF.ka {J:Nat→List Nat→World→Prop}(hJ:lF J){k z g:Nat}{f:List Nat}{W W':World}(h:J k f W)(a:Ka z g W W')(hb:z=0∨g∉f):J k f W':=hJ.keep h a.env fun c hc=>a.block c (hJ.lt h c hc) (by
 rcases hb with h0|h0
 · exact .inl h0
 · exact .inr (by rintro rfl;exact h0 hc))
end Go.Sx

end
section
namespace Go.Sx
open Go Go.RowKit
inductive Tz
 | leaf (seg:List (Nat × Nat))
 | fork (seg:List (Nat × Nat)) (a b:Tz)
def Tz.heads:Tz→List Nat
 | .leaf []=>[]
 | .leaf ((i,_)::_)=>[i]
 | .fork [] a b=>a.heads++b.heads
 | .fork ((i,_)::_) _ _=>[i]
def Tz.len:Tz→Nat
 | .leaf s=>s.length
 | .fork s a _=>s.length+a.len
def tQ (l:List (Nat × Nat))(listed:Array Bool):Array Bool:=l.foldl (fun s x=>s.setIfInBounds x.1 true) listed
def yT (ops:Array Oper)(kp:Nat→Nat→Bool):List (Nat × Nat)→Array Bool→Bool
 | [],_=>true
 | (i,c)::rest,listed=>(match nB c with
  | some lv=>(Region.ready .any ops listed).contains i&&Region.free .any ops listed i&&Yv ops (kp lv) listed i
  | none=>(Region.ready .any ops listed == [i]))&&yT ops kp rest (listed.setIfInBounds i true)
def jU (ops:Array Oper)(kp:Nat→Nat→Bool):Tz→Array Bool→Bool
 | .leaf [],_=>false
 | .leaf ((i,c)::s),listed=>(nB c).isNone&&yT ops kp s (listed.setIfInBounds i true)&&(Region.ready .any ops (tQ s (listed.setIfInBounds i true))).isEmpty
 | .fork [] a b,listed=>jU ops kp a listed&&jU ops kp b listed&&(a.len == b.len)
 | .fork ((i,c)::s) a b,listed=>(nB c).isNone&&yT ops kp s (listed.setIfInBounds i true)&&(Region.ready .any ops (tQ s (listed.setIfInBounds i true)) == a.heads++b.heads)
  && jU ops kp a (tQ s (listed.setIfInBounds i true))&&jU ops kp b (tQ s (listed.setIfInBounds i true))&&(a.len == b.len)
def Qn (ops:Array Oper)(kp:Nat→Nat→Bool):Tz→Array Bool→Bool
 | .leaf s,listed=>yT ops kp s listed&&(Region.ready .any ops (tQ s listed)).isEmpty
 | .fork s a b,listed=>yT ops kp s listed&&(Region.ready .any ops (tQ s listed) == a.heads++b.heads)&&jU ops kp a (tQ s listed)&&jU ops kp b (tQ s listed)&&(a.len == b.len)
def iP (P:Program)(n:Nat)(ops:Array Oper)(Q:Slots→World→Prop)(S:Nat→World→Prop)(kp:Nat→Nat→Bool):Tz→Slots→World→Prop
 | .leaf s,L,w=>SD P n ops Q S kp s L w
 | .fork s a b,L,w=>SD P n ops (fun L w=>iP P n ops Q S kp a L w∧iP P n ops Q S kp b L w) S kp s L w
section
variable {P:Program} {r:Option Nat} {n:Nat} {ops:Array Oper} {Q:Slots→World→Prop} {S:Nat→World→Prop} {kp:Nat→Nat→Bool} {D:List Deferred} {QA:Exit→Act→World→Prop}
theorem SD.seg (hnd:gM ops=true)(hQ:∀ c a w,¬ QA (.panic c) a w)(hO:¬ LetsOut QA){fuel:Nat}:
 ∀ (l:List (Nat × Nat)) (listed:Array Bool) (L:Slots) (a:Act) (w:World),yT ops kp l listed=true→eA n D L a→SD P n ops Q S kp l L w→
  (∀ L a w,eA n D L a→Q L w→Go.Sx.anyH P r ops QA S kp fuel (tQ l listed) a w)→Go.Sx.anyH P r ops QA S kp (l.length+fuel) listed a w
 | [],listed,L,a,w,ho,hf,h,hk=>by rw[List.length_nil,Nat.zero_add];exact hk L a w hf h
 | (i,c)::rest,listed,L,a,w,ho,hf,h,hk=>by
  have hlen:((i,c)::rest).length+fuel=rest.length+fuel+1:=by simp;omega
  rw[hlen];unfold SD at h;unfold yT at ho
  cases hc:nB c with
  | some lv=>
   rw[hc] at h ho;obtain⟨o,v,hi,hd,hS,hv,hrest⟩:=h;simp only[Bool.and_eq_true] at ho
   refine Go.Sx.Ig hnd hi hQ hO (rest.length+fuel) listed a w (fun j oj h1 h2 h3 h4=>⟨Region.free_spec hi ho.1.1.2 j oj h1 h2 h3 h4,Qdm ho.1.2 j oj h1 h2 h3 h4⟩) (by simpa using ho.1.1.1) ?_ hS
    (SD.seg hnd hQ hO rest _ _ _ w ho.2 (hf.put hd) hrest hk)
   rcases hv with⟨hg,hv⟩|⟨hg,rfl⟩
   · exact .inl ⟨oN hf hg,fun w' hw'=>hv w' hw' _ hf.cons⟩
   · exact .inr ⟨oN hf hg,rfl⟩
  | none=>
   rw[hc] at h ho;obtain⟨o,hi,hd,h⟩:=h;simp only[Bool.and_eq_true,beq_iff_eq] at ho;refine⟨fun h0=>(by rw[ho.1] at h0;cases h0),fun j hj=>?_⟩;rw[ho.1] at hj;simp only[List.mem_singleton] at hj;subst hj;unfold wpOpIn;simp only[hi];rcases h with⟨hg,R,hev,hk2⟩|⟨hg,hrest⟩
   · rw[oN hf hg,if_pos rfl];exact(hev _ hf.cons).uponIn (gM.nd hnd hi) fun v w' hR=>⟨(hk2 v w' hR).1,SD.seg hnd hQ hO rest _ _ _ w' ho.2 (hf.put hd) (hk2 v w' hR).2 hk⟩
   · rw[oN hf hg];simp only[Bool.false_eq_true,if_false];exact⟨fun _ _=>trivial,fun _ _ h=>h,SD.seg hnd hQ hO rest _ _ _ w ho.2 (hf.put hd) hrest hk⟩
theorem SD.stepAny (hnd:gM ops=true){i c:Nat}{s:List (Nat × Nat)}{listed:Array Bool}{L:Slots}{a:Act}{w:World}{fuel:Nat}(hc:(nB c).isNone=true)(hf:eA n D L a)(h:SD P n ops Q S kp ((i,c)::s) L w)
 (hk:∀ L a w,eA n D L a→SD P n ops Q S kp s L w→Go.Sx.anyH P r ops QA S kp fuel (listed.setIfInBounds i true) a w):
 wpOpIn (Fw r) 0 P ops QA i (fun a' w'=>(∀ v,kp v i=true→S v w→S v w')∧Go.Sx.anyH P r ops QA S kp fuel (listed.setIfInBounds i true) a' w') a w:=by
 unfold SD at h;rw[Option.isNone_iff_eq_none.1 hc] at h;obtain⟨o,hi,hd,h⟩:=h;unfold wpOpIn;simp only[hi];rcases h with⟨hg,R,hev,hk2⟩|⟨hg,hrest⟩
 · rw[oN hf hg,if_pos rfl];exact(hev _ hf.cons).uponIn (gM.nd hnd hi) fun v w' hR=>⟨(hk2 v w' hR).1,hk _ _ _ (hf.put hd) (hk2 v w' hR).2⟩
 · rw[oN hf hg];simp only[Bool.false_eq_true,if_false];exact⟨fun _ _=>trivial,fun _ _ h=>h,hk _ _ _ (hf.put hd) hrest⟩
theorem Bs:∀ (t:Tz) (listed:Array Bool),jU ops kp t listed=true→∃ m,t.len=m+1
 | .leaf [],_,h=>by simp[jU] at h
 | .leaf ((i,c)::s),_,_=>⟨s.length,by simp[Tz.len]⟩
 | .fork [] a b,listed,h=>by
  simp only[jU,Bool.and_eq_true] at h;obtain⟨m,hm⟩:=Bs a listed h.1.1;exact⟨m,by simp[Tz.len,hm]⟩
 | .fork ((i,c)::s) a b,_,_=>⟨s.length+a.len,by simp[Tz.len];omega⟩
theorem iP.kid (hnd:gM ops=true)(hQ:∀ c a w,¬ QA (.panic c) a w)(hO:¬ LetsOut QA)(hq:∀ L a w,eA n D L a→Q L w→QA .normal a w):
 ∀ (t:Tz) (listed:Array Bool) (L:Slots) (a:Act) (w:World) (m:Nat),jU ops kp t listed=true→t.len=m+1→eA n D L a→iP P n ops Q S kp t L w→∀ i∈t.heads,
  wpOpIn (Fw r) 0 P ops QA i (fun a' w'=>(∀ v,kp v i=true→S v w→S v w')∧Go.Sx.anyH P r ops QA S kp m (listed.setIfInBounds i true) a' w') a w
 | .leaf [],_,_,_,_,_,ho,_,_,_,_,_=>by simp[jU] at ho
 | .leaf ((i,c)::s),listed,L,a,w,m,ho,hl,hf,h,j,hj=>by
  simp only[Tz.heads,List.mem_singleton] at hj;subst hj;simp only[jU,Bool.and_eq_true] at ho;have hm:m=s.length+0:=by simp[Tz.len] at hl;omega
  subst hm;refine SD.stepAny hnd ho.1.1 hf h fun L a w hf h=>SD.seg hnd hQ hO s _ L a w ho.1.2 hf h fun L a w hf h=>⟨by simpa using ho.2,hq L a w hf h⟩
 | .fork [] x y,listed,L,a,w,m,ho,hl,hf,h,j,hj=>by
  simp only[jU,Bool.and_eq_true,beq_iff_eq] at ho;simp only[Tz.len,List.length_nil,Nat.zero_add] at hl;simp only[Tz.heads,List.mem_append] at hj;have h':iP P n ops Q S kp x L w∧iP P n ops Q S kp y L w:=h;rcases hj with hj|hj
  · exact iP.kid hnd hQ hO hq x listed L a w m ho.1.1 hl hf h'.1 j hj
  · exact iP.kid hnd hQ hO hq y listed L a w m ho.1.2 (by rw[←ho.2];exact hl) hf h'.2 j hj
 | .fork ((i,c)::s) x y,listed,L,a,w,m,ho,hl,hf,h,j,hj=>by
  simp only[Tz.heads,List.mem_singleton] at hj;subst hj;simp only[jU,Bool.and_eq_true,beq_iff_eq] at ho;have hm:m=s.length+x.len:=by simp[Tz.len] at hl;omega
  subst hm;refine SD.stepAny hnd ho.1.1.1.1.1 hf h fun L a w hf h=>SD.seg hnd hQ hO s _ L a w ho.1.1.1.1.2 hf h fun L a w hf h=>?_;obtain⟨mx,hx⟩:=Bs x _ ho.1.1.2;have hy:y.len=mx+1:=by rw[←ho.2];exact hx
  rw[hx];refine⟨fun h0=>?_,fun k hk=>?_⟩
  · obtain⟨z,hz⟩:∃ z,z∈x.heads:=by
     have:∀ (t:Tz) (l:Array Bool),jU ops kp t l=true→∃ z,z∈t.heads:=by
      intro t
      induction t with
      | leaf s=>intro l h;cases s with
       | nil=>simp[jU] at h
       | cons a s=>exact⟨a.1,by simp[Tz.heads]⟩
      | fork s a b iha ihb=>intro l h;cases s with
       | nil=>
        simp only[jU,Bool.and_eq_true] at h;obtain⟨z,hz⟩:=iha l h.1.1;exact⟨z,by simp[Tz.heads,hz]⟩
       | cons a s=>exact⟨a.1,by simp[Tz.heads]⟩
     exact this x _ ho.1.1.2
    rw[ho.1.1.1.2] at h0;have:z∈x.heads++y.heads:=List.mem_append_left _ hz;rw[h0] at this;cases this
  · rw[ho.1.1.1.2] at hk;rcases List.mem_append.1 hk with hk|hk
    · exact iP.kid hnd hQ hO hq x _ L a w mx ho.1.1.2 hx hf h.1 k hk
    · exact iP.kid hnd hQ hO hq y _ L a w mx ho.1.2 hy hf h.2 k hk
theorem Qpa:∀ (t:Tz) (l:Array Bool),jU ops kp t l=true→∃ z,z∈t.heads:=by
 intro t
 induction t with
 | leaf s=>intro l h;cases s with
  | nil=>simp[jU] at h
  | cons a s=>exact⟨a.1,by simp[Tz.heads]⟩
 | fork s a b iha ihb=>intro l h;cases s with
  | nil=>
   simp only[jU,Bool.and_eq_true] at h;obtain⟨z,hz⟩:=iha l h.1.1;exact⟨z,by simp[Tz.heads,hz]⟩
  | cons a s=>exact⟨a.1,by simp[Tz.heads]⟩
theorem iP.anyH (hnd:gM ops=true)(hQ:∀ c a w,¬ QA (.panic c) a w)(hO:¬ LetsOut QA)(hq:∀ L a w,eA n D L a→Q L w→QA .normal a w)(t:Tz)(listed:Array Bool)(L:Slots)(a:Act)(w:World)(ho:Qn ops kp t listed=true)(hf:eA n D L a)(h:iP P n ops Q S kp t L w):
 Go.Sx.anyH P r ops QA S kp t.len listed a w:=by
 cases t with
 | leaf s=>
  simp only[Qn,Bool.and_eq_true] at ho;exact SD.seg (fuel:=0) hnd hQ hO s listed L a w ho.1 hf h fun L a w hf h=>⟨by simpa using ho.2,hq L a w hf h⟩
 | fork s x y=>
  simp only[Qn,Bool.and_eq_true,beq_iff_eq] at ho;obtain⟨mx,hx⟩:=Bs x _ ho.1.1.2;have hy:y.len=mx+1:=by rw[←ho.2];exact hx
  refine SD.seg (fuel:=x.len) hnd hQ hO s listed L a w ho.1.1.1.1 hf h fun L a w hf h=>?_;rw[hx];refine⟨fun h0=>?_,fun k hk=>?_⟩
  · obtain⟨z,hz⟩:=Qpa (ops:=ops) (kp:=kp) x _ ho.1.1.2;rw[ho.1.1.1.2] at h0;have:z∈x.heads++y.heads:=List.mem_append_left _ hz;rw[h0] at this;cases this
  · rw[ho.1.1.1.2] at hk;rcases List.mem_append.1 hk with hk|hk
    · exact iP.kid hnd hQ hO hq x _ L a w mx ho.1.1.2 hx hf h.1 k hk
    · exact iP.kid hnd hQ hO hq y _ L a w mx ho.1.2 hy hf h.2 k hk
end
theorem nE {P:Program}{n:Nat}{ops:Array Oper}{Q:Slots→World→Prop}{S:Nat→World→Prop}{kp:Nat→Nat→Bool}{a b:Tz}{L:Slots}{w:World}(h1:iP P n ops Q S kp a L w)(h2:iP P n ops Q S kp b L w):SD P n ops (fun L w=>iP P n ops Q S kp a L w∧iP P n ops Q S kp b L w) S kp [] L w:=⟨h1,h2⟩
theorem cD {P:Program}{n:Nat}{ops:Array Oper}{Q:Slots→World→Prop}{S:Nat→World→Prop}{kp:Nat→Nat→Bool}{s:List (Nat × Nat)}{L:Slots}{w:World}(h:SD P n ops Q S kp s L w):iP P n ops Q S kp (.leaf s) L w:=h
theorem nI {P:Program}{n:Nat}{ops:Array Oper}{Q:Slots→World→Prop}{S:Nat→World→Prop}{kp:Nat→Nat→Bool}{s:List (Nat × Nat)}{a b:Tz}{L:Slots}{w:World}(h:SD P n ops (fun L w=>iP P n ops Q S kp a L w∧iP P n ops Q S kp b L w) S kp s L w):iP P n ops Q S kp (.fork s a b) L w:=h
end Go.Sx

end
section
namespace Go.Sx
open Go Go.RowKit
def eV (mss:List (List Nat))(w₀:World)(k:Nat)(w:World):Prop:=∀ ms,mss[k]? = some ms→Kp ms w₀ w
def Yw (tab:List (Nat × List Nat))(lv j:Nat):Bool:=tab.all fun x => !(Nat.beq x.1 j&&x.2.any (Nat.beq lv))
def Q0 (p:Nat→List Nat→Prop):Nat→List (List Nat)→Prop
 | _,[]=>True
 | k,ms::r=>p k ms∧Q0 p (k+1) r
theorem Q0.get {p:Nat→List Nat→Prop}:∀ {l:List (List Nat)} {o:Nat},Q0 p o l→∀ k ms,l[k]? = some ms→p (o+k) ms
 | [],o,_,k,ms,h=>by simp at h
 | a::r,o,h,0,ms,hk=>by simp at hk;subst hk;exact h.1
 | a::r,o,h,k+1,ms,hk=>by
  have:=Q0.get h.2 k ms (by simpa using hk);rw[show o+(k+1)=o+1+k from by omega];exact this
theorem Kz.ofGr {w w':World}(h:Gr w w'):Kz [] w w':=(Kz.refl [] w).gr h
theorem Kz.ofMd {w w':World}{b:Nat}(h:Md b w w'):Kz [(1,b)] w w':=(Kz.refl _ w).md h (by simp[gD,Mz])
theorem Kz.ofKa {w w':World}{z g:Nat}(h:Ka z g w w'):Kz [(z,g)] w w':=(Kz.refl _ w).ka h (by by_cases hz:z=0<;>simp[gD,Mz,hz])
theorem Qe7 (k:Nat):nB (k+10)=some k:=by
 have h1:Nat.beq (k+10) 1=false:=Z4 (by omega);have h2:Nat.beq (k+10) 3=false:=Z4 (by omega);have h3:Nat.ble 10 (k+10)=true:=Nat.ble_eq_true_of_le (by omega);unfold nB;rw[h1,h2,h3];simp
section
variable {P:Program} {n:Nat} {ops:Array Oper} {Q:Slots→World→Prop} {rest:List (Nat × Nat)} {i:Nat} {dst:Option Nat} {op:Op} {ty:TypeId} {pos:String} {af:Array Edge} {gu:Option (Nat × Bool)} {L:Slots} {w w₀:World} {mss:List (List Nat)} {kp:Nat→Nat→Bool} {ms:List Nat}
theorem Vc {v:Value}(k:Nat)(hi:ops[i]? = some ⟨dst,op,ty,pos,af,gu⟩)(hg:gd ops L ⟨dst,op,ty,pos,af,gu⟩=some true)(hd:iQ n dst=true)(hm:mss[k]? = some ms)(hS:Kp ms w₀ w)(hv:∀ w,Kp ms w₀ w→VV P L ⟨dst,op,ty,pos,af,gu⟩ w v)
 (h:SD P n ops Q (eV mss w₀) kp rest (dN dst v L) w):SD P n ops Q (eV mss w₀) kp ((i,k+10)::rest) L w:=by
 have hl:=Qe7 k;unfold SD;rw[hl];exact⟨_,v,hi,hd,fun ms' h'=>by rw[hm] at h';cases h';exact hS,.inl ⟨hg,fun w hw=>hv w (hw ms hm)⟩,h⟩
theorem Qkx (k:Nat)(hi:ops[i]? = some ⟨dst,op,ty,pos,af,gu⟩)(hg:gd ops L ⟨dst,op,ty,pos,af,gu⟩=some false)(hd:iQ n dst=true)(hm:mss[k]? = some ms)(hS:Kp ms w₀ w)
 (h:SD P n ops Q (eV mss w₀) kp rest (dN dst undef L) w):SD P n ops Q (eV mss w₀) kp ((i,k+10)::rest) L w:=by
 have hl:=Qe7 k;unfold SD;rw[hl];exact⟨_,undef,hi,hd,fun ms' h'=>by rw[hm] at h';cases h';exact hS,.inr ⟨hg,rfl⟩,h⟩
theorem Qkw {t:Bool}(k:Nat)(hi:ops[i]? = some ⟨dst,op,ty,pos,af,gu⟩)(hg:gd ops L ⟨dst,op,ty,pos,af,gu⟩=some true)(hd:iQ n dst=true)(hm:mss[k]? = some ms)(hS:Kp ms w₀ w)(hv:∀ w,Kp ms w₀ w→VV P L ⟨dst,op,ty,pos,af,gu⟩ w (.bool t))
 (ht:t=true→SD P n ops Q (eV mss w₀) kp rest (dN dst (.bool true) L) w) (hf:t=false→SD P n ops Q (eV mss w₀) kp rest (dN dst (.bool false) L) w):SD P n ops Q (eV mss w₀) kp ((i,k+10)::rest) L w:=by
 cases t with
 | true=>exact Vc k hi hg hd hm hS hv (ht rfl)
 | false=>exact Vc k hi hg hd hm hS hv (hf rfl)
theorem Ql1 {R:Value→World→Prop}(l:List (Nat × Nat))(hi:ops[i]? = some ⟨dst,op,ty,pos,af,gu⟩)(hg:gd ops L ⟨dst,op,ty,pos,af,gu⟩=some true)(hd:iQ n dst=true)(hv:EV P L ⟨dst,op,ty,pos,af,gu⟩ w R)
 (hb:Q0 (fun k ms=>kp k i=true→gV l (ms.map fun b=>(1,b)) w₀.heap.size) 0 mss)
 (h:∀ v w',R v w'→Kz l w w'∧SD P n ops Q (eV mss w₀) kp rest (dN dst v L) w'):SD P n ops Q (eV mss w₀) kp ((i,0)::rest) L w:=
 ⟨_,hi,hd,.inl ⟨hg,R,hv,fun v w' hR=>⟨fun lv hk hS ms hm=>Kp.kz (hS ms hm) (h v w' hR).1 (by have:=hb.get lv ms hm;rw[Nat.zero_add] at this;exact this hk),(h v w' hR).2⟩⟩⟩
theorem Qkz {v:Value}(hi:ops[i]? = some ⟨dst,op,ty,pos,af,gu⟩)(hg:gd ops L ⟨dst,op,ty,pos,af,gu⟩=some true)(hd:iQ n dst=true)(hv:VV P L ⟨dst,op,ty,pos,af,gu⟩ w v)
 (h:SD P n ops Q (eV mss w₀) kp rest (dN dst v L) w):SD P n ops Q (eV mss w₀) kp ((i,0)::rest) L w:=
 ⟨_,hi,hd,.inl ⟨hg,_,hv.ev,fun v' w' ⟨h1,h2⟩=>by subst h1;subst h2;exact⟨fun _ _ h=>h,h⟩⟩⟩
theorem Qky (hi:ops[i]? = some ⟨dst,op,ty,pos,af,gu⟩)(hg:gd ops L ⟨dst,op,ty,pos,af,gu⟩=some false)(hd:iQ n dst=true)
 (h:SD P n ops Q (eV mss w₀) kp rest (dN dst undef L) w):SD P n ops Q (eV mss w₀) kp ((i,0)::rest) L w:=⟨_,hi,hd,.inr ⟨hg,h⟩⟩
end
theorem aW {q:Prop}(f:q:=by(try simp only[cC,gV,gD,iS,Mz,cZ])<;>omega):q:=f
theorem aZ {p q:Prop}(h:p)(f:p→q:=by intro;(try simp only[cC,gV,gD,iS,Mz,cZ])<;>omega):q:=f h
theorem cN {p1 p2 q:Prop}(h1:p1)(h2:p2)(f:p1→p2→q:=by intro _ _;(try simp only[cC,gV,gD,iS,Mz,cZ])<;>omega):q:=f h1 h2
theorem vE {p1 p2 p3 q:Prop}(h1:p1)(h2:p2)(h3:p3)(f:p1→p2→p3→q:=by intro _ _ _;(try simp only[cC,gV,gD,iS,Mz,cZ])<;>omega):q:=f h1 h2 h3
theorem jY {p1 p2 p3 p4 q:Prop}(h1:p1)(h2:p2)(h3:p3)(h4:p4)(f:p1→p2→p3→p4→q:=by intro _ _ _ _;(try simp only[cC,gV,gD,iS,Mz,cZ])<;>omega):q:=f h1 h2 h3 h4
section
variable {A:Nat→Prop} {z g z' g' s z1 g1 z2 g2 z3 g3:Nat}
theorem kA (r:bN ((g'=g∧z=1)∨s≤g'∨z'=0))(h:z=0∨A g)(f:∀ x,s≤x→A x:=by intro x hx;(try simp only[cC,gV,gD,iS,Mz,cZ])<;>omega):z'=0∨A g':=by
 rcases r.o with⟨h1,h2⟩|h1|h1
 · rcases h with h|h
   · omega
   · exact .inr (h1 ▸ h)
 · exact .inr (f _ h1)
 · exact .inl h1
theorem bC (r:bN (z=0∨s≤g))(f:∀ x,s≤x→A x:=by intro x hx;(try simp only[cC,gV,gD,iS,Mz,cZ])<;>omega):z=0∨A g:=r.o.imp id (f g)
theorem aU (r:bN (z=0∨(g=g1∧z1≠0)∨s≤g))(h1:z1=0∨A g1)(f:∀ x,s≤x→A x:=by intro x hx;(try simp only[cC,gV,gD,iS,Mz,cZ])<;>omega):z=0∨A g:=by
 rcases r.o with h|⟨h,hz⟩|h
 · exact .inl h
 · exact .inr (h ▸ h1.resolve_left hz)
 · exact .inr (f _ h)
theorem zK (r:bN (z=0∨(z=1∧g<s)))(f:∀ x,x<s→A x:=by intro x hx;(try simp only[cC,gV,gD,iS,Mz,cZ])<;>omega):z=0∨A g:=r.o.imp id fun h=>f _ h.2
theorem dU (h:z=0∨z1=0∨g≠g1):z1=0∨z=0∨g1≠g:=by omega
end
theorem Qjs {v:Value}(h:oneB v=true):v.cells=[v].toArray:=by cases v<;>first|rfl|cases h
theorem iU {pl:Nat→Option (Nat × Nat)}{z cs:List Value}{i off size:Nat}{v:Value}{r:List (Nat × Value)}(hp:pl i=some (off,size))(h1:v.cells.size=size)(hl:Nat.ble (off+size) z.length=true)(hr:oG pl (gJ z off v.cells.toList) r=some cs):oG pl z ((i,v)::r)=some cs:=by
 unfold oG;rw[hp];simp only[h1];rw[if_pos ⟨trivial,Nat.le_of_ble_eq_true hl⟩];exact hr
theorem Qwx {P:Program}{r:Option Nat}{n:Nat}{Q:Exit→List Deferred→Slots→World→Prop}{D:List Deferred}{L:Slots}{w:World}{id:Nat}{ops:Array Oper}(mss:List (List Nat))(tab:List (Nat × List Nat))(t:Tz)(hm:P.follows .mixedOrders=true)(hnd:gM ops=true)(hlen:t.len=ops.size)
 (ho:Qn ops (Yw tab) t (Array.replicate ops.size false)=true) (h:∀ w1,RowKit.Below w.heap.size w w1→w1.heap.size=w.heap.size→iP P n ops (fun L w=>Q .normal D L w) (eV mss w1) (Yw tab) t L w1):SW P r n (.region id ops true) Q D L w:=
 fun _ ha=>wpIn_region_any hm (by
  have:=(iP.anyH (r:=r) (D:=D) (QA:=Yz n Q) hnd (fun _ _ _=>Qe3) Qe2 (fun L _ _ hf hq=>⟨D,L,hf,hq⟩) t _ L _ w.drew ho ha (h w.drew (RowKit.Below.refl _ _).drew rfl)).any
  rw[hlen] at this;exact this)
end Go.Sx

end
section
namespace Go.Sx
open Go Go.RowKit
def fX (base:Nat)(ks fp:List Nat)(W:World):Prop:=jN base ks W∧∀ k∈ks,k∉fp
section
variable {base b:Nat} {ks fp fp':List Nat} {W W':World}
theorem Qr1 (base:Nat)(fp:List Nat)(W:World):fX base [] fp W:=⟨Qr2 base W,fun _ h=>by cases h⟩
theorem fX.gr (h:fX base ks fp W)(g:Gr W W'):fX base ks fp W':=⟨h.1.gr g,h.2⟩
theorem fX.md {t:TypeId}{cs:List Value}(h:fX base ks fp W)(m:Md b W W')(hb:Bx W b t cs):fX base ks fp W':=⟨h.1.md m (fun hk=>by
 have h1:=(h.1.2 b hk).2
 unfold Df at h1;unfold Bx at hb;rw[hb] at h1;simp at h1),h.2⟩
theorem fX.mdl {W0:World}{fp0:List Nat}(h:fX base ks fp W)(m:Md b W W')(h0:fX base ks fp0 W0)(hb:W0.heap.size≤b):fX base ks fp W':=⟨h.1.md m (fun hk=>by
 have h1:=(h0.1.2 b hk).2.lt
 omega),h.2⟩
theorem fX.kp (h:fX base ks fp W)(k:Kp fp W W')(hg:∀ c∈fp',c∈fp∨W.heap.size≤c):fX base ks fp' W':=
 ⟨h.1.kp k h.2,fun j hj=>fZ hg (h.2 j hj) (h.1.2 j hj).2.lt⟩
theorem fX.cons {W0:World}{fp0:List Nat}{D:Nat}(h:fX base ks fp W)(h0:fX base ks fp0 W0)(hD:W0.heap.size≤D)(hb:base≤W0.heap.size)(hd:Df W D)(hn:D∉fp):fX base (D::ks) fp W:=
 ⟨h.1.cons (by omega) hd fun hk=>by have:=(h0.1.2 D hk).2.lt;omega,fun j hj=>by
  rcases List.mem_cons.1 hj with rfl|hj
  · exact hn
  · exact h.2 j hj⟩
theorem fX.leave (h:fX base ks fp W):∃ wl,M0 (tZ ks) W wl∧Kp ks W wl:=h.1.leave
theorem fX.stb {J:Nat→List Nat→World→Prop}{k:Nat}(hJ:lF J)(h:fX base ks fp W)(j:J k fp W)(kl:Kp ks W W'):J k fp W':=
 hJ.keep j kl.env fun c hc=>kl.block c (hJ.lt j c hc) fun hk=>h.2 c hk hc
theorem fX.trans {w:World}{f:List Nat}(h:fX w.heap.size ks fp W)(K:Kp f w W)(kl:Kp ks W W'):Kp f w W':=K.trans kl fun c hc=>.inr (h.1.2 c hc).1
end
end Go.Sx
namespace Go.Sx
open Go Go.RowKit
theorem Ql0 {P:Program}{n:Nat}{ops:Array Oper}{Q:Slots→World→Prop}{rest:List (Nat × Nat)}{i:Nat}{dst:Option Nat}{op:Op}{ty:TypeId}{pos:String}{af:Array Edge}{gu:Option (Nat × Bool)}{L:Slots}{w w₀:World}{ms:List Nat}{kp:Nat→Nat→Bool}{R:Value→World→Prop}
 (hi:ops[i]? = some ⟨dst,op,ty,pos,af,gu⟩) (hg:gd ops L ⟨dst,op,ty,pos,af,gu⟩=some true) (hd:iQ n dst=true) (hv:EV P L ⟨dst,op,ty,pos,af,gu⟩ w R)
 (h:∀ v w',R v w'→(Kp ms w₀ w→Kp ms w₀ w')∧SD P n ops Q (eV [ms] w₀) kp rest (dN dst v L) w'):SD P n ops Q (eV [ms] w₀) kp ((i,0)::rest) L w:=
 ⟨_,hi,hd,.inl ⟨hg,R,hv,fun v w' hR=>⟨fun lv _ hS ms' hm=>by
  cases lv with
  | zero=>simp at hm;subst hm;exact(h v w' hR).1 (hS _ rfl)
  | succ k=>simp at hm,(h v w' hR).2⟩⟩⟩
end Go.Sx

end
section
namespace Go.Sx
open Go
def mD (ks:List Int)(k:Int):List Int:=if k∈ks then ks else ks++[k]
theorem Qpi {ks:List Int}{k:Int}(h:ks.Nodup):(mD ks k).Nodup:=by
 unfold mD;split
 · exact h
 · rename_i hn;rw[List.nodup_append];exact⟨h,by simp,fun a ha b hb=>by simp at hb;subst hb;rintro rfl;exact hn ha⟩
open Classical in
noncomputable def mL {σ R:Type}(F:Int→(σ→Option R)→σ→Option R)(d:σ→Option R):Nat→List Int→σ→Option R
 | 0,_,_=>none
 | n+1,rem,s=>if rem=[] then d s else if h:∃ r,∀ k∈rem,F k (mL F d n (rem.filter (· ≠ k))) s=some r then some (Classical.choose h) else none
theorem Qv6 {σ R:Type}{F:Int→(σ→Option R)→σ→Option R}{d:σ→Option R}{n:Nat}{rem:List Int}{s:σ}{r:R}(h:mL F d n rem s=some r)(hr:rem=[]):d s=some r:=by
 cases n with
 | zero=>cases h
 | succ n=>unfold mL at h;rw[if_pos hr] at h;exact h
theorem Qv5 {σ R:Type}{F:Int→(σ→Option R)→σ→Option R}{d:σ→Option R}{n:Nat}{rem:List Int}{s:σ}{r:R}{k:Int}(h:mL F d n rem s=some r)(hk:k∈rem):∃ m,n=m+1∧F k (mL F d m (rem.filter (· ≠ k))) s=some r:=by
 cases n with
 | zero=>cases h
 | succ n=>
  refine⟨n,rfl,?_⟩;unfold mL at h;rw[if_neg (by rintro rfl;cases hk)] at h
  split at h
  · rename_i hx;have:=Classical.choose_spec hx k hk;rw[this,h]
  · cases h
theorem Qfz {σ R:Type}{F:Int→(σ→Option R)→σ→Option R}{d:σ→Option R}{r:R}(I:List Int→σ→Prop)(hd:∀ s,I [] s→d s=some r)(hs:∀ rem s k,k∈rem→I rem s→∃ s',I (rem.filter (· ≠ k)) s'∧∀ nx,F k nx s=nx s'):
 ∀ (n:Nat) (rem:List Int) (s:σ),rem.length<n→I rem s→mL F d n rem s=some r
 | 0,rem,s,h,_=>by omega
 | n+1,rem,s,h,hi=>by
  unfold mL;by_cases h0:rem=[]
  · rw[if_pos h0];subst h0;exact hd s hi
  · rw[if_neg h0]
    have hx:∀ k∈rem,F k (mL F d n (rem.filter (· ≠ k))) s=some r:=fun k hk=>by
     obtain⟨s',h1,h2⟩:=hs rem s k hk hi;rw[h2];refine Qfz I hd hs n _ s' ?_ h1
     have:(rem.filter (· ≠ k)).length<rem.length:=by
      exact List.length_filter_lt_length_iff_exists.2 ⟨k,hk,by simp⟩
     omega
    have hex:∃ r,∀ k∈rem,F k (mL F d n (rem.filter (· ≠ k))) s=some r:=⟨r,hx⟩;rw[dif_pos hex];obtain⟨k,hk⟩:=List.exists_mem_of_ne_nil rem h0;have h1:=Classical.choose_spec hex k hk;rw[hx k hk] at h1;exact h1.symm
def zS {α:Type}(key:α→Int)(l:List α):Option (List α):=if(∀ x∈l,0≤key x∧key x<4611686018427387904)∧(l.map key).Nodup∧l.length<4611686018427387904 then some (l.mergeSort fun a b=>decide (key a≤key b)) else none
theorem Qwk {α:Type}{key:α→Int}{l m:List α}(h:zS key l=some m):m=l.mergeSort (fun a b=>decide (key a≤key b))∧(∀ x∈l,0≤key x∧key x<4611686018427387904)∧(l.map key).Nodup∧l.length<4611686018427387904:=by
 unfold zS at h;split at h
 · rename_i h1;exact⟨(Option.some.inj h).symm,h1⟩
 · cases h
end Go.Sx

end
section
namespace Go.Sx
open Go Go.RowKit
def lO (ks:List Int):List MapEntry:=ks.zipIdx.map fun x=>⟨.int .i64 x.1,.bool true,x.2⟩
structure Mo (w:World)(b:Nat)(ks:List Int):Prop where
 nd:ks.Nodup
 row:w.heap[b]? = some (.map (lO ks).toArray ks.length)
def vS (ks:List Int)(seen:List Nat):List Int:=(ks.zipIdx.filter fun x => !seen.contains x.2).map (·.1)
def Mi (w:World)(b m:Nat)(ks rem:List Int):Prop:=∃ seen:List Nat,w.heap[b]? = some (.mapIter (some m) ks.length seen.toArray ks.length)∧rem=vS ks seen
def Mk (w:World)(b m:Nat)(ks rem:List Int)(k:Int):Prop:=∃ (seen:List Nat) (i:Nat),w.heap[b]? = some (.mapIter (some m) ks.length (seen++[i]).toArray ks.length)∧rem=vS ks (seen++[i])∧ks[i]? = some k
section
variable {w w':World} {b m c z g:Nat} {ks rem:List Int} {k:Int} {l:List (Nat × Nat)}
theorem cP {o:Obj}(h:w.heap[b]? = some o):b<w.heap.size:=(Array.getElem?_eq_some_iff.1 h).1
theorem Mo.lt (h:Mo w b ks):b<w.heap.size:=cP h.row
theorem Mo.gr (h:Mo w b ks)(G:Gr w w'):Mo w' b ks:=⟨h.nd,(G.block b h.lt).trans h.row⟩
theorem Mo.md (h:Mo w b ks)(M:Md c w w')(ne:b≠c:=by omega):Mo w' b ks:=⟨h.nd,(M.block b ne).trans h.row⟩
theorem Mo.ka (h:Mo w b ks)(A:Ka z g w w')(hn:z=0∨g≠b:=by omega):Mo w' b ks:=⟨h.nd,(A.block b h.lt (by omega)).trans h.row⟩
theorem Mo.kz (h:Mo w b ks)(K:Kz l w w')(hn:cC l b:=by simp only[cC,gV,gD,iS,Mz,cZ]<;>omega):Mo w' b ks:=⟨h.nd,(K.block b h.lt hn).trans h.row⟩
theorem Mi.lt (h:Mi w b m ks rem):b<w.heap.size:=by obtain⟨s,h,_⟩:=h;exact cP h
theorem Mi.gr (h:Mi w b m ks rem)(G:Gr w w'):Mi w' b m ks rem:=by obtain⟨s,h1,h2⟩:=h;exact⟨s,(G.block b (cP h1)).trans h1,h2⟩
theorem Mi.md (h:Mi w b m ks rem)(M:Md c w w')(ne:b≠c:=by omega):Mi w' b m ks rem:=by obtain⟨s,h1,h2⟩:=h;exact⟨s,(M.block b ne).trans h1,h2⟩
theorem Mi.ka (h:Mi w b m ks rem)(A:Ka z g w w')(hn:z=0∨g≠b:=by omega):Mi w' b m ks rem:=by obtain⟨s,h1,h2⟩:=h;exact⟨s,(A.block b (cP h1) (by omega)).trans h1,h2⟩
theorem Mi.kz (h:Mi w b m ks rem)(K:Kz l w w')(hn:cC l b:=by simp only[cC,gV,gD,iS,Mz,cZ]<;>omega):Mi w' b m ks rem:=by obtain⟨s,h1,h2⟩:=h;exact⟨s,(K.block b (cP h1) hn).trans h1,h2⟩
theorem Mk.mi (h:Mk w b m ks rem k):Mi w b m ks rem:=by obtain⟨s,i,h1,h2,_⟩:=h;exact⟨_,h1,h2⟩
end
theorem Qu6 (ks:List Int):vS ks []=ks:=by
 unfold vS;have:(ks.zipIdx.filter fun x => !([]:List Nat).contains x.2)=ks.zipIdx:=List.filter_eq_self.2 (by simp);rw[this];simp
theorem Qu7 {ks:List Int}{seen:List Nat}{i:Nat}{k:Int}(hn:ks.Nodup)(hi:ks[i]? = some k):vS ks (seen++[i])=(vS ks seen).filter (· ≠ k):=by
 unfold vS;rw[List.filter_map,List.filter_filter];congr 1;apply List.filter_congr;rintro⟨x,j⟩ hx;have hj:ks[j]? = some x:=by simpa using List.mem_zipIdx_iff_getElem?.1 hx
 have:decide (x≠k) = !decide (j=i):=by
  by_cases e:j=i
  · subst e;rw[hi] at hj;cases hj;simp
  · have:x≠k:=by
     rintro rfl;obtain⟨p1,e1⟩:=List.getElem?_eq_some_iff.1 hi;obtain⟨p2,e2⟩:=List.getElem?_eq_some_iff.1 hj;exact e ((List.getElem_inj hn).1 (by rw[e1,e2]))
    simp[e,this]
 simp only[Function.comp,List.contains_append,Bool.not_or,this];rw[Bool.and_comm];congr 1;simp only[List.contains_cons,List.contains_nil,Bool.or_false];by_cases e:j=i<;>simp[e]
section
variable {P:Program} {L:Slots} {w:World} {dst:Option Nat} {ty:TypeId} {pos:String} {af:Array Edge} {gu:Option (Nat × Bool)} {x y:Operand} {t K E:TypeId} {b m:Nat} {ks rem:List Int} {k:Int}
structure Jn (P:Program)(t K E:TypeId):Prop where
 und:P.underlying t=some (.map K E)
 key:P.underlying K=some (.int .i64)
 zero:∀ w,(zeroValue E).run P w=.ok (.bool false) w
theorem Qo5:EV P L ⟨dst,.makeMap t none,ty,pos,af,gu⟩ w fun v' w'=>∃ b,v'=.map (some b)∧w.heap.size≤b∧Mo w' b []∧Gr w w':=fun ρ hρ=>by
 refine .val (.map (some w.heap.size)) (w.alloc (.map #[] 0)) (by simp[execOp,Instr.makeMap,go_sem]) ⟨_,rfl,Nat.le_refl _,⟨List.nodup_nil,heap_alloc_new w _⟩,(Below.refl _ _).alloc (Nat.le_refl _) _⟩
theorem Rx (k:Int):∀ (ks:List Int) (o i:Nat),Instr.findNow (.int .i64) (.int .i64 k) ((ks.zipIdx o).map fun x=>(⟨.int .i64 x.1,.bool true,x.2⟩:MapEntry)) i=some (if k∈ks then some (i+ks.idxOf k,.bool true) else none)
 | [],o,i=>by simp[Instr.findNow]
 | a::ks,o,i=>by
  rw[List.zipIdx_cons,List.map_cons];simp only[Instr.findNow,Instr.sameNow,if_true];by_cases h:k=a
  · subst h;simp
  · have hb:(k == a)=false:=by simpa using h
    have hb2:(a == k)=false:=by simpa using fun e=>h e.symm
    rw[hb];simp only;rw[Rx k ks (o+1) (i+1)];simp only[List.mem_cons,h,false_or,List.idxOf_cons,hb2,cond_false];congr 1
    split
    · congr 2;omega
    · rfl
theorem Qa1 (e:Bool)(n:Nat)(hk:P.underlying K=some (.int .i64)):(Instr.checkKey e (n+1) K (.int .i64 k)).run P w=.ok () w:=by
 unfold Instr.checkKey;simp only[Sem.run_bind,run_underlying hk,Result.andThen];rfl
theorem Jc (hm:Jn P t K E)(hx:ev L x=some (.map (some b)))(hy:ev L y=some (.int .i64 k))(hb:Mo w b ks):VV P L ⟨dst,.lookup t x y false,ty,pos,af,gu⟩ w (.bool (decide (k∈ks))):=fun ρ hρ=>by
 refine kO ?_;rw[hρ _ _ hx,hρ _ _ hy];have hck:∀ e,(Instr.checkKey e 10000 K (.int .i64 k)).run P w=.ok () w:=fun e=>Qa1 e 9999 hm.key;have hf:Instr.findNow (.int .i64) (.int .i64 k) (lO ks) 0=_:=Rx k ks 0 0;unfold Instr.lookup;simp only[Sem.run_bind,run_underlying hm.und,Result.andThen,MapKept.run_getObj_map hb.row,Sem.run_pure,hck];unfold Instr.findKey;simp only[Sem.run_bind,run_underlying hm.key,Result.andThen];rw[hf];by_cases h:k∈ks
 · simp[h]
 · simp[h,hm.zero w]
theorem Qr4 (ks:List Int)(k:Int):lO (ks++[k])=lO ks++[⟨.int .i64 k,.bool true,ks.length⟩]:=by
 unfold lO;rw[List.zipIdx_append,List.map_append];simp
theorem Qo6 (hm:Jn P t K E){z:Operand}(hx:ev L x=some (.map (some b)))(hy:ev L y=some (.int .i64 k))(hz:ev L z=some (.bool true))(hb:Mo w b ks):EV P L ⟨dst,.mapUpdate t x y z,ty,pos,af,gu⟩ w fun _ w'=>Mo w' b (mD ks k)∧Md b w w':=fun ρ hρ=>by
 have hck:(Instr.checkKey false 10000 K (.int .i64 k)).run P w=.ok () w:=Qa1 false 9999 hm.key;have hf:Instr.findNow (.int .i64) (.int .i64 k) (lO ks) 0=_:=Rx k ks 0 0
 have hset:∀ o:Obj,(setObj b o).run P w=.ok () (w.putObj b o):=fun o=>by
  simp only[setObj,Sem.run,hb.row];rfl
 have key:∃ o:Obj,(Instr.mapUpdate t (.map (some b)) (.int .i64 k) (.bool true)).run P w=.ok () (w.putObj b o)∧o=.map (lO (mD ks k)).toArray (mD ks k).length:=by
  unfold Instr.mapUpdate;simp only[Sem.run_bind,run_underlying hm.und,Result.andThen,MapKept.run_getObj_map hb.row,hck];unfold Instr.findKey;simp only[Sem.run_bind,run_underlying hm.key,Result.andThen];rw[hf];by_cases h:k∈ks
  · rw[if_pos h];simp only[Sem.run_pure,Nat.zero_add,Instr.keyThatStays];have hi:ks.idxOf k<ks.length:=List.idxOf_lt_length_of_mem h
    have hg:(lO ks).toArray[ks.idxOf k]? = some ⟨.int .i64 k,.bool true,ks.idxOf k⟩:=by
     simp[lO,hi]
    rw[hg];simp only[Option.map_some,Option.getD_some,Instr.sameBits,beq_self_eq_true,Bool.and_self,if_true,Sem.run_bind,Sem.run_pure,Result.andThen,hset,mD,if_pos h];refine⟨_,rfl,?_⟩;congr 1;apply Array.ext_getElem?;intro j;rw[Array.getElem?_modify];by_cases hj:ks.idxOf k=j
    · subst hj;rw[if_pos rfl,hg];rfl
    · rw[if_neg hj]
  · rw[if_neg h];simp only[Sem.run_pure,hset,mD,if_neg h];refine⟨_,rfl,?_⟩;rw[Qr4];simp
 obtain⟨o,h1,rfl⟩:=key;refine .skip _ ?_ ⟨⟨Qpi hb.nd,World.putObj_heap_same hb.lt⟩,Md.put b _⟩;simp[execOp,hρ _ _ hx,hρ _ _ hy,hρ _ _ hz,h1]
theorem Qo8 (hm:Jn P t K E)(hx:ev L x=some (.map (some m)))(hb:Mo w m ks):EV P L ⟨dst,.range t x,ty,pos,af,gu⟩ w fun v' w'=>∃ b,v'=.pointer (some ⟨b,0,none⟩)∧w.heap.size≤b∧Mi w' b m ks ks∧Gr w w':=fun ρ hρ=>by
 have h:=run_range_map (P:=P) w t K E m _ _ hm.und hb.row;refine .val _ _ (kO (by rw[hρ _ _ hx];exact h)) ⟨_,rfl,Nat.le_refl _,⟨[],heap_alloc_new w _,(Qu6 ks).symm⟩,(Below.refl _ _).alloc (Nat.le_refl _) _⟩
theorem Qo7 (hx:ev L x=some (.pointer (some ⟨b,0,none⟩)))(hb:Mo w m ks)(hi:Mi w b m ks rem):EV P L ⟨dst,.next x false,ty,pos,af,gu⟩ w fun v' w'=>
 (v'=.tuple [.bool false].toArray∧rem=[]∧Gr w w')∨(∃ k,k∈rem∧v'=.tuple [.bool true,.int .i64 k,.bool true].toArray∧Mk w' b m ks (rem.filter (· ≠ k)) k∧Md b w w'):=fun ρ hρ=>by
 obtain⟨seen,h1,rfl⟩:=hi
 have hold:∀ e∈(lO ks).toArray.toList,e.born<ks.length:=by
  intro e he;obtain⟨⟨a,j⟩,hj,rfl⟩:=List.mem_map.1 he;have:=List.mem_zipIdx_iff_getElem?.1 hj;exact(List.getElem?_eq_some_iff.1 (by simpa using this)).1
 have hrun:∀ (r:Result Value),(Instr.next (.pointer (some ⟨b,0,none⟩)) false ty).run P w=r→(execOp ρ ⟨dst,.next x false,ty,pos,af,gu⟩).run P w=r.andThen fun v w'=>.ok (.value v) w':=fun r hr=>by
  simp only[execOp,hρ _ _ hx];rw[←hr];simp[Sem.run_bind]
 have hL:(Array.filter (fun e => !seen.toArray.contains e.born) (lO ks).toArray).toList=(ks.zipIdx.filter fun x => !seen.contains x.2).map fun x=>(⟨.int .i64 x.1,.bool true,x.2⟩:MapEntry):=by
  simp[lO,List.filter_map,Function.comp_def]
 have hmem:∀ e∈(Array.filter (fun e => !seen.toArray.contains e.born) (lO ks).toArray).toList,e.born<ks.length:=fun e he=>hold e (by simp at he ⊢;exact he.1);have hn:(Instr.next (.pointer (some ⟨b,0,none⟩)) false ty).run P w=(Instr.next (.pointer (some ⟨b,0,none⟩)) false ty).run P w:=rfl
 conv at hn=>rhs;simp only[Instr.next,getObj,Sem.run_bind,Sem.run,h1,hb.row,Result.andThen,next_test_false seen.toArray (lO ks).toArray ks.length ks.length hold (Nat.le_refl _),Bool.false_eq_true,if_false]
 generalize Array.filter (fun e => !seen.toArray.contains e.born) (lO ks).toArray=A at hL hmem hn;have e1:A.filter (fun x=>decide (x.born<ks.length))=A:=Array.filter_eq_self.2 (fun x hx=>by simpa using hmem x (by simpa using hx))
 have e2:A.filter (fun x=>decide (x.born≥ks.length)) = #[]:=by
  rw[Array.filter_eq_empty_iff];intro x hx;have:=hmem x (by simpa using hx);simp;omega
 simp only[e1,e2,Array.append_empty] at hn;by_cases h0:A.size=0
 · have hA:A = #[]:=Array.eq_empty_of_size_eq_zero h0;subst hA;have h2:=hrun _ hn;refine .val (.tuple [.bool false].toArray) w ?_ (.inl ⟨rfl,?_,Gr.refl w⟩)
   · rw[h2];simp[choose,Sem.run,Question.forced,Result.andThen]
   · have:(ks.zipIdx.filter fun x => !seen.contains x.2)=[]:=by simpa using hL.symm
     unfold vS;rw[this];rfl
 · have hne:A.isEmpty=false:=by simp[Array.isEmpty,h0]
   simp only[hne,Bool.false_eq_true,if_false,Array.empty_append,Array.size_map] at hn
   have hch:∃ (j:Nat) (w1:World),j<A.size∧(w1=w∨w1=w.drew)∧(choose (Question.mapNext A.size)).run P w=.ok j w1:=by
    by_cases hf:A.size≤1
    · exact⟨0,w,by omega,.inl rfl,by simp[choose,Sem.run,Question.forced,hf]⟩
    · exact⟨_,w.drew,Nat.mod_lt _ (by omega),.inr rfl,by
       simp only[choose,Sem.run,Question.forced,decide_eq_true_eq,hf,if_false,Question.cut];rfl⟩
   obtain⟨j,w1,hj,hw1,hc⟩:=hch;have hw1h:w1.heap=w.heap:=by rcases hw1 with rfl|rfl<;>rfl
   have hset:∀ o:Obj,(setObj b o).run P w1=.ok () (w1.putObj b o):=fun o=>by
    have:w1.heap[b]? = some (.mapIter (some m) ks.length seen.toArray ks.length):=by rw[hw1h];exact h1
    simp only[setObj,Sem.run,this];rfl
   simp only[hc,Array.getElem?_map,Array.getElem?_eq_getElem hj,Option.map_some,hset,Sem.run_bind,Result.andThen] at hn;have hAj:A[j]∈A.toList:=by simp
   rw[hL] at hAj;obtain⟨⟨k,i⟩,hki,hkj⟩:=List.mem_map.1 hAj;have hki':=List.mem_filter.1 hki;have hi:ks[i]? = some k:=by simpa using List.mem_zipIdx_iff_getElem?.1 hki'.1
   rw[←hkj] at hn;have h2:=hrun _ hn
   have hmd:Md b w (w1.putObj b (.mapIter (some m) ks.length (seen.toArray.push i) ks.length)):=by
    have:Md b w1 (w1.putObj b (.mapIter (some m) ks.length (seen.toArray.push i) ks.length)):=Md.put b _;rcases hw1 with rfl|rfl
    · exact this
    · exact⟨this.os,this.tape,this.output,this.size,this.block⟩
   refine .val (.tuple [.bool true,.int .i64 k,.bool true].toArray) _ (by rw[h2];rfl) (.inr ⟨k,?_,rfl,⟨seen,i,?_,?_,hi⟩,hmd⟩)
   · exact List.mem_map.2 ⟨(k,i),hki,rfl⟩
   · have hbs:b<w1.heap.size:=by rw[hw1h];exact cP h1
     have:=World.putObj_heap_same (w:=w1) (o:=.mapIter (some m) ks.length (seen.toArray.push i) ks.length) hbs;rw[this];simp
   · exact(Qu7 hb.nd hi).symm
theorem Qyb (hx:ev L x=some (.pointer (some ⟨b,0,none⟩)))(hb:Mo w m ks)(hi:Mk w b m ks rem k):VV P L ⟨dst,.entry x,ty,pos,af,gu⟩ w (.tuple [.int .i64 k,.bool true].toArray):=fun ρ hρ=>by
 obtain⟨seen,i,h1,_,h3⟩:=hi;refine kO ?_;rw[hρ _ _ hx]
 have hf:(lO ks).toArray.find? (fun e=>e.born == i)=some ⟨.int .i64 k,.bool true,i⟩:=by
  rw[←Array.find?_toList]
  have hgen:∀ (ks:List Int) (o i:Nat),ks[i]? = some k→((ks.zipIdx o).map fun x=>(⟨.int .i64 x.1,.bool true,x.2⟩:MapEntry)).find? (fun e=>e.born == o+i)=some ⟨.int .i64 k,.bool true,o+i⟩:=by
   intro ks
   induction ks with
   | nil=>intro o i h;simp at h
   | cons a ks ih=>
    intro o i h;rw[List.zipIdx_cons,List.map_cons,List.find?_cons]
    cases i with
    | zero=>simp at h;subst h;simp
    | succ i=>
     have hne:(o == o+(i+1))=false:=by simp
     rw[hne];have:=ih (o+1) i (by simpa using h);rw[show o+1+i=o+(i+1) from by omega] at this;exact this
  have:=hgen ks 0 i h3;rw[Nat.zero_add] at this;exact this
 simp[Instr.entry,getObj,Sem.run,h1,hb.row,hf]
end
end Go.Sx

end
section
namespace Go.Sx
open Go Go.RowKit
theorem nA {P:Program}{n:Nat}{ops:Array Oper}{Q:Slots→World→Prop}{rest:List (Nat × Nat)}{i:Nat}{dst:Option Nat}{ty:TypeId}{pos:String}{af:Array Edge}{gu:Option (Nat × Bool)}{L:Slots}{w:World}
 {f:Nat} {fs cap:List Value} {x:Operand} {aas:Array Operand} {at_:Array TypeId} {vs:List Value} {fn:Func} {c:Code} (n':Nat) (hf:P.funcs[f]? = some fn) (hi:ops[i]? = some ⟨dst,.call { callee:=.value x,args:=aas,argTypes:=at_ },ty,pos,af,gu⟩)
 (hg:gd ops L ⟨dst,.call { callee:=.value x,args:=aas,argTypes:=at_ },ty,pos,af,gu⟩=some true) (hd:iQ n dst=true) (hen:En P f) (hx:ev L x=some (.func (.func f) fs.toArray cap.toArray)) (hargs:pR L aas.toList=some vs)
 (hb:fn.body=some c) (hn:fn.ntmps=n') (hl:Nat.ble (fs++vs++cap).length n'=true)
 (h:SW P none n' c (Qfq P fn (fun v w'=>SD P n ops Q (fun _ _=>True) (fun _ _=>false) rest (dN dst v L) w')) [] (Z1 0 (fs++vs++cap)) w):SD P n ops Q (fun _ _=>True) (fun _ _=>false) ((i,0)::rest) L w:=
 Qga hi hg hd (fL hen hx hargs (bP n' hf hb hn hl h)) fun v w' hR=>hR
end Go.Sx

end
section
namespace Go.Sx
open Go
def gO (a b:Int):Int:=if a<b then b else a
def tJ (a b:Int):Int:=if b<a then b else a
end Go.Sx

end
section
namespace Go.Sx
open Go Go.RowKit
theorem xB {α:Type}(a:α):∃ x,x=a:=⟨a,rfl⟩
section
variable {F:Fence} {n:Nat} {P:Program} {a:Act} {w:World} {Q:Exit→Act→World→Prop}
theorem B0 {b:Frame}{k:List Item}{cs:List Frame}{c:Code}:step P (lone (b.atR a (.code (.scope c)::k)) cs w)=.next (lone (b.atR a (.code c::.inScope c::k)) cs w):=step_lone_go (by simp[stepG,stepG.exec,Frame.atR])
theorem Qwm {b:Frame}{k:List Item}{cs:List Frame}{c:Code}:step P (lone (b.atR a (.inScope c::k)) cs w)=.next (lone (b.atR a k) cs w):=step_lone_go (by simp[stepG,stepG.exec,Frame.atR])
def Qr6 (Q:Exit→Act→World→Prop):Exit→Act→World→Prop
 | .goto _,_,_=>False
 | e,a,w=>Q e a w
theorem Qz3 {c:Code}(h:c.wpIn F n P (Qr6 Q) a w):(Code.scope c).wpIn F n P Q a w:=by
 intro b k cs hro hb hr;have h0:(lone (b.atR a (.code (.scope c)::k)) cs w).fenced P F:=fenced_calm hb hr rfl;obtain⟨e,a₁,w₁,hq,harr⟩:=h b (.inScope c::k) cs hro hb hr
 cases e with
 | normal=>exact⟨.normal,a₁,w₁,hq,.head h0 B0 (StepsIn.trans harr (.one (fenced_calm hb hr rfl) Qwm))⟩
 | exit id'=>
  have hx:exitTo id' (.inScope c::k)=exitTo id' k:=by simp[exitTo]
  exact⟨.exit id',a₁,w₁,hq,fun k' hk=>.head h0 B0 (harr.1 k' (by rw[hx];exact hk)),
   fun hr' hk=>let ⟨k₁,h1,h2⟩:=harr.2 hr' (by rw[hx];exact hk);⟨k₁,h1,.head h0 B0 h2⟩⟩
 | goto l=>exact hq.elim
 | ret=>exact⟨_,a₁,w₁,hq,.of_steps (.one h0 B0) harr⟩
 | panic ch=>exact⟨_,a₁,w₁,hq,.of_steps (.one h0 B0) harr⟩
 | outgrown=>exact⟨_,a₁,w₁,hq,.of_steps (.one h0 B0) harr⟩
end
def Qg8 (Q:Exit→List Deferred→Slots→World→Prop):Exit→List Deferred→Slots→World→Prop
 | .goto _,_,_,_=>False
 | e,D,L,w=>Q e D L w
section
variable {P:Program} {r:Option Nat} {n:Nat} {Q:Exit→List Deferred→Slots→World→Prop} {D:List Deferred} {L:Slots} {w:World}
theorem Qx3 {c:Code}(h:SW P r n c (Qg8 Q) D L w):SW P r n (.scope c) Q D L w:=fun a ha=>Qz3 (wpIn_mono (h a ha) fun e a' w' hh=>by
 cases e with
 | goto l=>obtain⟨_,_,_,h⟩:=hh;exact h.elim
 | normal=>exact hh
 | exit id=>exact hh
 | ret=>exact hh
 | panic c=>exact hh
 | outgrown=>exact hh)
theorem Qg9 (h:Q .ret D L w):Qg8 Q .ret D L w:=h
end
section
variable {P:Program} {L:Slots} {w:World} {dst:Option Nat} {ty:TypeId} {pos:String} {af:Array Edge} {gu:Option (Nat × Bool)} {x y q:Operand} {t t2 t3:TypeId} {a b c:Int} {k k2 k3:IntKind}
theorem Gp (hx:ev L x=some (.int k a))(hy:ev L y=some (.int k2 b)):VV P L ⟨dst,.call { callee:=.builtin .max,args := #[x,y],argTypes := #[t,t2] },ty,pos,af,gu⟩ w (.int k (gO a b)):=fun ρ hρ=>by
 simp[execOp,resolve,invoke,builtin,hρ _ _ hx,hρ _ _ hy,Builtin.max_,Builtin.max2,gO]
theorem Qhv (hx:ev L x=some (.int k a))(hy:ev L y=some (.int k2 b)):VV P L ⟨dst,.call { callee:=.builtin .min,args := #[x,y],argTypes := #[t,t2] },ty,pos,af,gu⟩ w (.int k (tJ a b)):=fun ρ hρ=>by
 simp[execOp,resolve,invoke,builtin,hρ _ _ hx,hρ _ _ hy,Builtin.min_,Builtin.min2,tJ]
variable {d e:BitVec 64}
end
def BA (P:Program)(t:TypeId)(sz:Nat)(z:List Value):Prop:=∃ n e,P.underlying t=some (.array n e)∧gQ P e sz∧ZV P t (.agg z.toArray)
theorem Zw {P:Program}{L:Slots}{w:World}{dst:Option Nat}{ty:TypeId}{pos:String}{af:Array Edge}{gu:Option (Nat × Bool)}{t:TypeId}{sz:Nat}{z cs:List Value}{parts:Array (Nat × Operand)}{vs:List (Nat × Value)}(hb:BA P t sz z)(hp:uL L parts.toList=some vs)(hf:oG (fun i=>some (i*sz,sz)) z vs=some cs):
 VV P L ⟨dst,.build t parts,ty,pos,af,gu⟩ w (.agg cs.toArray):=fun ρ hρ=>by
 obtain⟨n,e,hu,hs,hz⟩:=hb;have e1:(parts.map fun(x:Nat × Operand)=>(x.1,ρ x.2))=vs.toArray:=by rw[←hρ.mapP hp,←Array.toList_map]
 refine kO ?_;show(Instr.build t (parts.map fun(x:Nat × Operand)=>(x.1,ρ x.2))).run P w=_;rw[e1];simp only[Instr.build,Sem.run_bind,hz w,Result.andThen,run_underlying hu,hs w,Value.cells,Yl vs z cs hf];rfl
section
variable {P:Program} {L:Slots} {w:World} {dst:Option Nat} {ty:TypeId} {pos:String} {af:Array Edge} {gu:Option (Nat × Bool)} {x:Operand} {t u e:TypeId} {v:Value} {z g o sz:Nat} {α:Type} {l:List α} {c:α→List Value}
theorem Qtz (hr:Rd w z g o sz v (l.map c)):(∃ cap,v=.slice none 0 cap∧l=[])∨∃ a k cap,v=.slice (some a) k cap:=by
 rcases hr.2 with⟨_,h,a,cap,rfl⟩|⟨_,cap,rfl,_⟩
 · cases a with
   | none=>exact .inl ⟨cap,rfl,by simpa using h⟩
   | some a=>exact .inr ⟨a,0,cap,rfl⟩
 · exact .inr ⟨_,_,_,rfl⟩
theorem Qvj {P:Program}{a:Option Addr}{k cap:Nat}{w:World}(d:Nat)(hu:P.underlying t=some (.slice e)):(Op.equalIn (d+1) t (.slice a k cap) (.slice none 0 0)).run P w=.ok a.isNone w:=by
 cases a<;>simp[Op.equalIn,run_underlying hu]
theorem Qvi {P:Program}{a:Option Addr}{k cap:Nat}{w:World}(hu:P.underlying t=some (.slice e)):(Op.equal t (.slice a k cap) (.slice none 0 0)).run P w=.ok a.isNone w:=by
 exact Qvj 9999 hu
theorem Qhq {k cap:Nat}{a:Option Addr}(hu:P.underlying t=some (.slice e))(hx:ev L x=some v)(hv:v=.slice a k cap):VV P L ⟨dst,.binOp .eql t x (.const (.slice none 0 0)) u,ty,pos,af,gu⟩ w (.bool a.isNone):=fun ρ hρ=>by
 subst hv;simp[execOp,hρ _ _ hx,hρ (.const (.slice none 0 0)) _ rfl,go_sem,binOp,Qvi hu]
end
section
variable {P:Program} {L:Slots} {w:World} {dst:Option Nat} {ty:TypeId} {pos:String} {af:Array Edge} {gu:Option (Nat × Bool)} {x y p q r:Operand} {t e:TypeId} {v:Value} {z g o sz N:Nat} {α:Type} {l m k:List α} {c:α→List Value} {lo hi:Int} {kl kh km:IntKind}
end
end Go.Sx

end
section
namespace Go.Sx
open Go Go.RowKit
theorem Qz4 (n:Int):IntKind.u8.wrap n=n%256:=by simp[IntKind.wrap,IntKind.bits,IntKind.signed]
theorem Wh (x:BitVec 8):BitVec.ofInt 8 (aC x)=x:=by unfold aC;rw[BitVec.ofInt_natCast,BitVec.ofNat_toNat,BitVec.setWidth_eq]
theorem wr8 (x:BitVec 8):IntKind.u8.wrap (x.toNat:Int)=aC x:=by rw[Qz4];unfold aC;have:=x.isLt;omega
theorem Qip (x y:BitVec 8):bits .xor .u8 (aC x) (aC y)=aC (x ^^^ y):=by
 show IntKind.u8.wrap ((BitVec.ofInt 8 (aC x) ^^^ BitVec.ofInt 8 (aC y)).toNat:Int)=_;rw[Wh,Wh,wr8]
theorem Qio (x y:BitVec 8):bits .and .u8 (aC x) (aC y)=aC (x &&& y):=by
 show IntKind.u8.wrap ((BitVec.ofInt 8 (aC x) &&& BitVec.ofInt 8 (aC y)).toNat:Int)=_;rw[Wh,Wh,wr8]
section
variable {P:Program} {L:Slots} {w:World} {dst:Option Nat} {ty:TypeId} {pos:String} {af:Array Edge} {gu:Option (Nat × Bool)} {x y:Operand} {t u e:TypeId} {a b:BitVec 8}
theorem Qyw (hx:ev L x=some (bv a))(hy:ev L y=some (bv b)):VV P L ⟨dst,.binOp .xor t x y u,ty,pos,af,gu⟩ w (bv (a ^^^ b)):=eR (zB (by simp) hx hy) (by rw[Qip])
theorem Qy5 (hx:ev L x=some (bv a))(hy:ev L y=some (bv b)):VV P L ⟨dst,.binOp .and t x y u,ty,pos,af,gu⟩ w (bv (a &&& b)):=eR (zB (by simp) hx hy) (by rw[Qio])
theorem Qo3 {bt off cp z2 g2 o2:Nat}{tb:TypeId}{cs cs':List Value}{p:W2}{v:Value}{s:List (BitVec 8)}(ha:lS P t e 1 1)(hx:ev L x=some (.slice (some ⟨bt,off,none⟩) 16 cp))(hy:ev L y=some v)(hb:Bx w bt tb cs)(h:(cs.drop off).take 16=kb p)(hr:Rd w z2 g2 o2 1 v (s.map eZ))
 (hl:Nat.ble (off+16) cs.length=true) (he:gJ cs off (kb (kE (oK (cI p) s)))=cs'):
 EV P L ⟨dst,.call { callee:=.builtin .copy,args := #[x,y],argTypes := #[t,t] },ty,pos,af,gu⟩ w fun v' w'=>v'=.int .i64 (uQ (cI p) s)∧Bx w' bt tb cs'∧Md bt w w':=fun ρ hρ=>by
 obtain⟨i,zv,hi,hzv,hsz,hby,hzs⟩:=ha.info;have hl':=Nat.le_of_ble_eq_true hl;have hs1:(P.info? e).map (·.size)=some 1:=by rw[hi];simp[hsz]
 have hkl:(oK (cI p) s).length=16:=by simp[oK,gE];omega
 have hkb:cI (kE (oK (cI p) s))=oK (cI p) s:=by rw[Qd (by omega),List.take_of_length_le (by omega)]
 have pI:∀ v' w',(Builtin.copy_ #[t,t] ty #[.slice (some ⟨bt,off,none⟩) 16 cp,v]).run P w=.ok v' w'→(execOp ρ ⟨dst,.call { callee:=.builtin .copy,args := #[x,y],argTypes := #[t,t] },ty,pos,af,gu⟩).run P w=.ok (.value v') w':=fun v' w' h1=>by
  simp[execOp,resolve,invoke,builtin,hρ _ _ hx,hρ _ _ hy,h1]
 have hkey:∀ m:List Value,(∃ k,k≤16∧m=(((s.map eZ).flatten).take k)∧oK (cI p) s=s.take k++(cI p).drop k∧m.length=k)→gJ cs off m=cs':=by
  rintro m ⟨k,hk,rfl,hc,hml⟩;rw[←he,sE,hkb,hc]
  have e0:((s.take k++(cI p).drop k).map eZ).flatten=((s.map eZ).flatten).take k++(kb p).drop k:=by
   have w1:Ws 1 (s.map eZ):=C6 _ (fun _=>rfl) (fun _=>rfl);have w2:Ws 1 ((cI p).map eZ):=C6 _ (fun _=>rfl) (fun _=>rfl);rw[List.map_append,List.flatten_append,List.map_take,List.map_drop,Yn _ _ w1,Ym _ _ w2,←sE,Nat.mul_one]
  have hkbl:(kb p).length=16:=rfl;have hlen:(((s.map eZ).flatten).take k++(kb p).drop k).length=16:=by rw[List.length_append,hml,List.length_drop,hkbl];omega
  unfold gJ;rw[e0,hlen,hml,←h];simp only[List.append_assoc];congr 2;rw[List.drop_take,List.drop_drop];have e1:off+16=off+k+(16-k):=by omega
  rw[e1,←List.drop_drop (i:=16-k) (j:=off+k),List.take_append_drop]
 rcases hr.2 with⟨hz2,hs0,a,cap,rfl⟩|⟨hz2,cap,rfl,cP,hcell⟩
 · have hs0':s=[]:=by simpa using hs0
   subst hs0';refine .val _ _ (pI _ _ (run_copy_none w t t ty e (some ⟨bt,off,none⟩) a 16 cp 0 cap ha.und hs1 (by simp))) ⟨by simp[uQ,goInt],?_,Md.refl _ _⟩;rw[←hkey [] ⟨0,by omega,by simp,by simp[oK],rfl⟩,Gf];exact hb
 · have hfs:(s.map eZ).flatten.length=s.length:=by rw[hr.1.flat,List.length_map];omega
   have hvl:((s.map eZ).flatten.take (min s.length 16)).length=min s.length 16:=by rw[List.length_take,hfs];omega
   have hld:(loadCells ⟨g2,o2,none⟩ (min s.length 16)).run P w=.ok ((s.map eZ).flatten.take (min s.length 16)).toArray w:=by
    have:=run_loadCells_list (P:=P) w ⟨g2,o2,none⟩ ((s.map eZ).flatten.take (min s.length 16)) (fun j u hj=>by
     rw[Addr.add_lit];refine hcell j u ?_;rw[List.getElem?_take] at hj
     split at hj
     · exact hj
     · cases hj)
    rw[hvl] at this;exact this
   have hone:∀ u∈(s.map eZ).flatten.take (min s.length 16),u.oneCell'=true:=fun u hu=>hr.1.one u (List.mem_of_mem_take hu);obtain⟨w',hrun,hb',hmd⟩:=El (P:=P) (off:=off) _ 0 w cs hone hb (by rw[hvl];omega);refine .val _ w' (pI _ _ ?_) ⟨rfl,?_,hmd⟩
   · have e1:Nat.min (s.map eZ).length 16=min s.length 16:=by rw[List.length_map]
     have e2:min s.length (cI p).length=min s.length 16:=by rw[gE]
     simp[Builtin.copy_,run_underlying ha.und,Builtin.lenOf,Builtin.firstCells,sizeOf,typeInfo,hi,hsz,hld,hrun,goInt,uQ,e2]
   · rw[Nat.add_zero] at hb';rw[←hkey _ ⟨min s.length 16,by omega,rfl,?_,hvl⟩];exact hb';unfold oK;rw[gE];by_cases hle:s.length≤16
     · rw[Nat.min_eq_left hle,List.take_of_length_le (by omega),List.take_of_length_le (by omega)]
     · rw[Nat.min_eq_right (by omega),List.drop_eq_nil_of_le (by rw[gE];omega),List.drop_eq_nil_of_le (by rw[gE];omega)]
end
section
variable {P:Program} {L:Slots} {w:World} {dst:Option Nat} {ty:TypeId} {pos:String} {af:Array Edge} {gu:Option (Nat × Bool)} {x y:Operand} {t u e:TypeId}
theorem C1 {len b' off sz:Nat}{i:Int}{k:IntKind}(hu:P.underlying t=some (.array len e))(hs:gQ P e sz)(hx:ev L x=some (.pointer (some ⟨b',off,none⟩)))(hy:ev L y=some (.int k i))(h0:0≤i∧i<len):
 VV P L ⟨dst,.indexAddr t x y,ty,pos,af,gu⟩ w (.pointer (some ⟨b',off+i.toNat*sz,none⟩)):=tB hu hs hx hy h0.1 h0.2
end
end Go.Sx

end
section
namespace Go.Sx
open Go Go.RowKit
structure Rp (α:Type) where
 γ:Type
 sz:Nat
 c:α × γ→List Value
 S:World→List Nat→α × γ→Prop
 ws:∀ {w F p},S w F p→(c p).length=sz∧bI (c p)=true
 keep:∀ {w w' F p},S w F p→w.heap.size≤w'.heap.size→(∀ b∈F,b<w.heap.size→w'.heap[b]? = w.heap[b]?)→S w' F p
 mono:∀ {w F F' p},S w F p→(∀ b∈F,b∈F')→S w F' p
def eT {α:Type}(R:Rp α)(w:World)(z g:Nat)(e:TypeId)(v:Value)(F:List Nat)(l:List α):Prop:=
 ∃ lg:List (α × R.γ),lg.map Prod.fst=l∧aT w z g e R.sz v (lg.map R.c)∧(∀ p∈lg,R.S w F p)∧(∀ b∈F,b<w.heap.size)∧(z=0∨∀ b∈F,b≠g)
def gW {α:Type}(R:Rp α)(w:World)(z g o:Nat)(v:Value)(F:List Nat)(l:List α):Prop:=
 ∃ lg:List (α × R.γ),lg.map Prod.fst=l∧Rd w z g o R.sz v (lg.map R.c)∧(∀ p∈lg,R.S w F p)∧(∀ b∈F,b<w.heap.size)
section
variable {α:Type} {R:Rp α} {w w' w₁:World} {z g o b z' g':Nat} {e:TypeId} {v:Value} {F F':List Nat} {l:List α} {lz:List (Nat × Nat)} {ms:List Nat}
theorem eT.rd (h:eT R w z g e v F l):gW R w z g 0 v F l:=by
 obtain⟨lg,h1,h2,h3,h4,h5⟩:=h;exact⟨lg,h1,h2.rd,h3,h4⟩
theorem eT.keep (h:eT R w z g e v F l)(hs:w.heap.size≤w'.heap.size)(hg:z=0∨(g<w.heap.size→w'.heap[g]? = w.heap[g]?))(hF:∀ b∈F,b<w.heap.size→w'.heap[b]? = w.heap[b]?):eT R w' z g e v F l:=by
 obtain⟨lg,h1,h2,h3,h4,h5⟩:=h;exact⟨lg,h1,h2.keep hg,fun p hp=>R.keep (h3 p hp) hs hF,fun b hb=>Nat.lt_of_lt_of_le (h4 b hb) hs,h5⟩
theorem gW.keep (h:gW R w z g o v F l)(hs:w.heap.size≤w'.heap.size)(hg:z=0∨(g<w.heap.size→w'.heap[g]? = w.heap[g]?))(hF:∀ b∈F,b<w.heap.size→w'.heap[b]? = w.heap[b]?):gW R w' z g o v F l:=by
 obtain⟨lg,h1,h2,h3,h4⟩:=h;exact⟨lg,h1,h2.keep hg hs,fun p hp=>R.keep (h3 p hp) hs hF,fun b hb=>Nat.lt_of_lt_of_le (h4 b hb) hs⟩
theorem eT.gr (h:eT R w z g e v F l)(k:Gr w w'):eT R w' z g e v F l:=h.keep k.size (.inr fun hl=>k.block g hl) (fun b _ hl=>k.block b hl)
theorem gW.gr (h:gW R w z g o v F l)(k:Gr w w'):gW R w' z g o v F l:=h.keep k.size (.inr fun hl=>k.block g hl) (fun b _ hl=>k.block b hl)
theorem eT.md (h:eT R w z g e v F l)(k:Md b w w')(hn:z=0∨g≠b)(hF:∀ x∈F,1=0∨x≠b):eT R w' z g e v F l:=h.keep (Nat.le_of_eq k.size.symm) (hn.imp id fun hn _=>k.block g hn) (fun x hx _=>k.block x ((hF x hx).resolve_left (by decide)))
theorem gW.md (h:gW R w z g o v F l)(k:Md b w w')(hn:z=0∨g≠b)(hF:∀ x∈F,1=0∨x≠b):gW R w' z g o v F l:=h.keep (Nat.le_of_eq k.size.symm) (hn.imp id fun hn _=>k.block g hn) (fun x hx _=>k.block x ((hF x hx).resolve_left (by decide)))
theorem eT.ka (h:eT R w z g e v F l)(k:Ka z' g' w w')(hn:z=0∨z'=0∨g≠g')(hF:∀ x∈F,z'=0∨x≠g'):eT R w' z g e v F l:=h.keep k.size (hn.imp id fun hn hl=>k.block g hl hn) (fun x hx hl=>k.block x hl (hF x hx))
theorem gW.ka (h:gW R w z g o v F l)(k:Ka z' g' w w')(hn:z=0∨z'=0∨g≠g')(hF:∀ x∈F,z'=0∨x≠g'):gW R w' z g o v F l:=h.keep k.size (hn.imp id fun hn hl=>k.block g hl hn) (fun x hx hl=>k.block x hl (hF x hx))
theorem eT.kz (h:eT R w z g e v F l)(k:Kz lz w w')(hn:z=0∨cC lz g)(hF:∀ x∈F,cC lz x):eT R w' z g e v F l:=h.keep k.size (hn.imp id fun hn hl=>k.block g hl hn) (fun x hx hl=>k.block x hl (hF x hx))
theorem gW.kz (h:gW R w z g o v F l)(k:Kz lz w w')(hn:z=0∨cC lz g)(hF:∀ x∈F,cC lz x):gW R w' z g o v F l:=h.keep k.size (hn.imp id fun hn hl=>k.block g hl hn) (fun x hx hl=>k.block x hl (hF x hx))
theorem eT.kp (h:eT R w z g e v F l)(k:Kp ms w w')(hn:z=0∨g∉ms)(hF:∀ x∈F,x∉ms):eT R w' z g e v F l:=h.keep k.size (hn.imp id fun hn hl=>k.block g hl hn) (fun x hx hl=>k.block x hl (hF x hx))
theorem gW.kp (h:gW R w z g o v F l)(k:Kp ms w w')(hn:z=0∨g∉ms)(hF:∀ x∈F,x∉ms):gW R w' z g o v F l:=h.keep k.size (hn.imp id fun hn hl=>k.block g hl hn) (fun x hx hl=>k.block x hl (hF x hx))
theorem eT.lth (h:eT R w z g e v F l):bN (z=0∨(z=1∧g<w.heap.size)):=by obtain⟨lg,h1,h2,_⟩:=h;exact h2.lth
theorem gW.lth (h:gW R w z g o v F l):bN (z=0∨(z=1∧g<w.heap.size)):=by obtain⟨lg,h1,h2,_⟩:=h;exact h2.lth
theorem eT.flt (h:eT R w z g e v F l):∀ b∈F,b<w.heap.size:=by obtain⟨lg,h1,h2,h3,h4,_⟩:=h;exact h4
theorem gW.flt (h:gW R w z g o v F l):∀ b∈F,b<w.heap.size:=by obtain⟨lg,h1,h2,h3,h4⟩:=h;exact h4
theorem eT.oneB (h:eT R w z g e v F l):Sx.oneB v=true:=by obtain⟨lg,h1,h2,_⟩:=h;exact h2.oneB
theorem gW.oneB (h:gW R w z g o v F l):Sx.oneB v=true:=by obtain⟨lg,h1,h2,_⟩:=h;exact h2.oneB
theorem Qev (R:Rp α)(w:World)(g:Nat)(e:TypeId):eT R w 0 g e (.slice none 0 0) [] []:=⟨[],rfl,cU w g e R.sz,nofun,nofun,.inl rfl⟩
theorem eT.z1 {i:Int}{a:α}(h:eT R w z g e v F l)(hg:bG l i=some a):z=1:=by
 obtain⟨lg,h1,h2,_⟩:=h;rcases h2.2 with⟨_,_,h0⟩|⟨h0,_⟩
 · have:=pO hg;rw[←h1,List.map_eq_nil_iff.1 h0] at this;simp at this
 · exact h0
theorem Yy {β:Type}{lg:List (α × β)}(h:lg.map Prod.fst=l):lg.length=l.length:=by rw[←h,List.length_map]
theorem Qp0 {β:Type}{lg:List (α × β)}{i:Int}{a:α}(h:lg.map Prod.fst=l)(hg:bG l i=some a):∃ x,bG lg i=some (a,x):=by
 have h0:=oL hg;have h1:=pO hg;rw[←h,List.getElem?_map] at h1
 cases hx:lg[i.toNat]? with
 | none=>rw[hx] at h1;cases h1
 | some p=>
  rw[hx] at h1;have:p.1=a:=Option.some.inj h1;exact⟨p.2,by unfold bG;rw[if_pos h0,hx,←this]⟩
theorem gW.at {i:Int}{a:α}(h:gW R w z g o v F l)(hg:bG l i=some a):∃ (lg:List (α × R.γ)) (x:R.γ),Rd w z g o R.sz v (lg.map R.c)∧bG lg i=some (a,x)∧R.S w F (a,x):=by
 obtain⟨lg,h1,h2,h3,h4⟩:=h;obtain⟨x,hx⟩:=Qp0 h1 hg;exact⟨lg,x,h2,hx,h3 _ (List.mem_of_getElem? (pO hx))⟩
variable {P:Program} {L:Slots} {dst:Option Nat} {ty:TypeId} {pos:String} {af:Array Edge} {gu:Option (Nat × Bool)} {x y:Operand} {t:TypeId}
theorem Qyi (hu:P.underlying t=some (.slice e))(hx:ev L x=some v)(hr:gW R w z g o v F l):VV P L ⟨dst,.call { callee:=.builtin .len,args := #[x],argTypes := #[t] },ty,pos,af,gu⟩ w (.int .i64 (l.length:Int)):=by
 obtain⟨lg,h1,h2,_⟩:=hr;exact Qhu hu hx h2 (by rw[List.length_map,Yy h1])
theorem Ak {i:Int}{a:α}{kd:IntKind}(hu:P.underlying t=some (.slice e))(hs:gQ P e R.sz)(hx:ev L x=some v)(hr:gW R w z g o v F l)(hy:ev L y=some (.int kd i))(hg:bG l i=some a):
 VV P L ⟨dst,.indexAddr t x y,ty,pos,af,gu⟩ w (.pointer (some ⟨g,o+i.toNat*R.sz,none⟩)):=by
 obtain⟨lg,h1,h2,_⟩:=hr;exact Qht hu hs hx h2 (by rw[List.length_map,Yy h1]) hy (oL hg) (P7 hg)
theorem Qo1 {bytes z2 g2 o2:Nat}{u:Value}{m k:List α}{F2:List Nat}(ha:lS P t e R.sz bytes)(hx:ev L x=some v)(hy:ev L y=some u)(h:eT R w z g e v F l)(hr:gW R w z2 g2 o2 u F2 m)(hb:gG bytes l m=some k)(hpos:1≤bytes)(hF:∀ b∈F2,z=0∨b≠g):
 EV P L ⟨dst,.call { callee:=.builtin .append,args := #[x,y],argTypes := #[t,t] },ty,pos,af,gu⟩ w fun v' w'=>∃ z' g',eT R w' z' g' e v' (F++F2) k∧Ka z g w w'∧bN (z'=0∨(z'=1∧g'<w'.heap.size))∧bN ((g'=g∧z=1)∨w.heap.size≤g'∨z'=0):=by
 obtain⟨lg,h1,h2,h3,h4,h5⟩:=h;obtain⟨mg,m1,m2,m3,m4⟩:=hr;obtain⟨rfl,hb2⟩:=Ij hb;have e1:gG bytes lg mg=some (lg++mg):=by unfold gG;rw[Yy h1,Yy m1,if_pos hb2]
 refine(lA ha hx hy h2 m2 e1 hpos).mono ?_;rintro v' w' ⟨z',g',q1,q2,q3,q4⟩;refine⟨z',g',⟨lg++mg,by rw[List.map_append,h1,m1],q1,?_,?_,?_⟩,q2,q3,q4⟩
 · have kF:∀ b∈F++F2,b<w.heap.size→w'.heap[b]? = w.heap[b]? := fun b hb hl=>q2.block b hl (by
    rcases List.mem_append.1 hb with hb|hb
    · exact h5.imp id fun h5=>h5 b hb
    · exact hF b hb)
   intro p hp;rcases List.mem_append.1 hp with hp|hp
   · exact R.keep (R.mono (h3 p hp) fun b hb=>List.mem_append_left _ hb) q2.size kF
   · exact R.keep (R.mono (m3 p hp) fun b hb=>List.mem_append_right _ hb) q2.size kF
 · intro b hb;rcases List.mem_append.1 hb with hb|hb
   · exact Nat.lt_of_lt_of_le (h4 b hb) q2.size
   · exact Nat.lt_of_lt_of_le (m4 b hb) q2.size
 · rcases q4.o with⟨rfl,hz⟩|hn|h0
   · refine .inr fun b hb=>?_;rcases List.mem_append.1 hb with hb|hb
     · exact(h5.resolve_left (by omega)) b hb
     · exact(hF b hb).resolve_left (by omega)
   · refine .inr fun b hb=>?_;rcases List.mem_append.1 hb with hb|hb
     · have:=h4 b hb;omega
     · have:=m4 b hb;omega
   · exact .inl h0
theorem Qo4 {len:Nat}{zs cs:List Value}{parts:Array (Nat × Operand)}{vs:List (Nat × Value)}(lg:List (α × R.γ))(hb:lV P t len e R.sz zs)(hp:uL L parts.toList=some vs)(hf:oG (fun i=>some (i*R.sz,R.sz)) zs vs=some cs)
 (hx:cs=(lg.map R.c).flatten) (hl:lg.length=len) (hm:Nat.ble len 1000000=true) (hS:∀ p∈lg,R.S w F p) (hF:∀ b∈F,b<w.heap.size):
 EV P L ⟨dst,.buildSlice t len parts,ty,pos,af,gu⟩ w fun v' w'=>∃ g',w.heap.size≤g'∧eT R w' 1 g' e v' F (lg.map Prod.fst)∧Gr w w':=by
 refine(eU lg R.c hb hp hf (fun y hy=>?_) hx hl hm).mono ?_
 · obtain⟨p,hp,rfl⟩:=List.mem_map.1 hy;exact R.ws (hS p hp)
 · rintro v' w' ⟨g',h1,h2,h3⟩;exact⟨g',h1,⟨lg,rfl,h2,fun p hp=>R.keep (hS p hp) h3.size (fun b _ hl=>h3.block b hl),fun b hb=>Nat.lt_of_lt_of_le (hF b hb) h3.size,.inr fun b hb=>by have:=hF b hb;omega⟩,h3⟩
end
def Qv8 {α β:Type}(sz:Nat)(cs:α→Value→List Value)(f:α→List β)(k:Nat)(c:β→List Value)(hcs:∀ a v,oneB v=true→(cs a v).length=sz∧bI (cs a v)=true):Rp α where
 γ:=Value
 sz:=sz
 c p:=cs p.1 p.2
 S w F p:=∃ z g o,Rd w z g o k p.2 ((f p.1).map c)∧(z=0∨g∈F)
 ws:=fun⟨z,g,o,h,_⟩=>hcs _ _ h.oneB
 keep:=fun⟨z,g,o,h,hg⟩ hs hF=>⟨z,g,o,h.keep (hg.imp id fun hg hl=>hF g hg hl) hs,hg⟩
 mono:=fun⟨z,g,o,h,hg⟩ hF=>⟨z,g,o,h,hg.imp id fun hg=>hF g hg⟩
section
variable {α:Type} {R:Rp α} {w:World} {F F':List Nat} {l:List α} {v:Value}
end
section
variable {α β:Type} {w:World} {z g o k sz:Nat} {F:List Nat} {v:Value} {i:Int}
variable {R:Rp α} {l:List α} {a:α} {P:Program} {L:Slots} {dst:Option Nat} {ty:TypeId} {pos:String} {af:Array Edge} {gu:Option (Nat × Bool)} {x y:Operand} {t e:TypeId}
theorem Ai {p q:Nat}{u:Value}(h1:eI P t)(hx:ev L x=some (.pointer (some ⟨g,p,none⟩)))(hr:gW R w z g o v F l)(hg:bG l i=some a)(hp:p=o+(i.toNat*R.sz+q))(hc:∀ x,(R.c (a,x))[q]? = some u):VV P L ⟨dst,.load t x,ty,pos,af,gu⟩ w u:=by
 obtain⟨lg,x,h2,h3,_⟩:=hr.at hg;exact iZ h1 hx h2 h3 hp (hc x)
end
section
variable {A:Nat→Prop} {F F2 F3:List Nat} {z g n n2 x:Nat}
theorem rX:∀ x∈([]:List Nat),A x:=nofun
theorem P1 (h1:∀ x∈F,A x)(h2:∀ x∈F2,A x):∀ x∈F++F2,A x:=fun x hx=>(List.mem_append.1 hx).elim (h1 x) (h2 x)
theorem uF (h:z=0∨A g):∀ x∈zf z g,A x:=fun x hx=>by
 obtain⟨h1,rfl⟩:=vK.1 hx;exact h.resolve_left h1
def Pv (F:List Nat)(zs:List (Nat × Nat))(n x:Nat):Prop:=x∈F∨Mz zs x∨n≤x
theorem uS {zs:List (Nat × Nat)}(h:∀ x∈F,Pv F2 zs n x)(h1:∀ x∈F2,A x)(h2:∀ x,Mz zs x→A x)(h3:∀ x,n≤x→A x):∀ x∈F,A x:=fun x hx=>(h x hx).elim (h1 x) fun h=>h.elim (h2 x) (h3 x)
theorem vV:∀ x,Mz [] x→A x:=nofun
theorem Qza {w:World}(h:z=0∨(z=1∧g<w.heap.size)):∀ b∈zf z g,b<w.heap.size:=uF (h.imp id And.right)
theorem Wm {b:Nat}(h:z=0∨g≠b):z=0∨1=0∨g≠b:=h.imp id .inr
theorem Qf9 {zs:List (Nat × Nat)}{F':List Nat}(h:z=0∨Mz zs g∨n≤g):z=0∨Pv F' zs n g:=h.imp id .inr
theorem Qpd (z g:Nat):z=0∨g∈zf z g:=by
 by_cases h:z=0
 · exact .inl h
 · exact .inr (vK.2 ⟨h,rfl⟩)
end
end Go.Sx

end
section
namespace Go.Sx
open Go Go.RowKit
def iA (b:Bool)(n:Nat)(ops:Array Oper)(L:Slots)(i:Nat):Option Oper:=
 match ops[i]? with
 | some o=>match gd ops L o with
  | some g=>bif (g == b)&&iQ n o.dst then some o else none
  | none=>none
 | none=>none
theorem gL {b:Bool}{n:Nat}{ops:Array Oper}{L:Slots}{i:Nat}{o:Oper}(h:iA b n ops L i=some o):ops[i]? = some o∧gd ops L o=some b∧iQ n o.dst=true:=by
 unfold iA at h
 split at h
 · rename_i o' ho
   split at h
   · rename_i g hg
     cases hc:(g == b)&&iQ n o'.dst with
     | false=>rw[hc] at h;cases h
     | true=>
      rw[hc] at h;cases h;rw[Bool.and_eq_true] at hc;exact⟨ho,by rw[hg,beq_iff_eq.1 hc.1],hc.2⟩
   · cases h
 · cases h
def od:Nat→Nat→List (Nat × Nat)
 | 0,_=>[]
 | n+1,i=>(i,0)::od n (i+1)
theorem Qen:∀ n i,(od n i).map (·.1)=List.range' i n
 | 0,_=>rfl
 | n+1,i=>by rw[od,List.map_cons,Qen n (i+1)];rfl
theorem Qeo:∀ n i,((od n i).all fun x=>(nB x.2).isNone)=true
 | 0,_=>rfl
 | n+1,i=>by rw[od,List.all_cons,Qeo n (i+1)];rfl
section
variable {P:Program} {r:Option Nat} {n:Nat} {Q:Exit→List Deferred→Slots→World→Prop} {D:List Deferred} {L:Slots} {w:World}
theorem qr {id:Nat}{ops:Array Oper}(k:Nat)(hk:ops.size=k)(hnd:gM ops=true)(h:SD P n ops (fun L w=>Q .normal D L w) (fun _ _=>True) (fun _ _=>false) (od k 0) L w):SW P r n (.region id ops false) Q D L w:=
 Qx2 (od k 0) hnd (Qeo k 0) (by rw[Qen,hk,List.range_eq_range']) h
theorem qsr {id:Nat}{ops:Array Oper}{y:Code}(k:Nat)(hk:ops.size=k)(hnd:gM ops=true)(h:SD P n ops (fun L w=>lZ (fun D L w=>SW P r n y Q D L w) Q .normal D L w) (fun _ _=>True) (fun _ _=>false) (od k 0) L w):SW P r n (.seq (.region id ops false) y) Q D L w:=
 aY (qr k hk hnd h)
theorem qj {x y:Code}{β:Type}(dead:List Nat)(dyn:β→Slots)(J:β→World→Prop)(h:SW P r n x (lZ (fun D1 L1 w1=>D1=D∧∃ b,lR (dyn b++lD dead L) L1∧J b w1) Q) D L w)(hk:∀ b w1,J b w1→SW P r n y Q D (dyn b++lD dead L) w1):SW P r n (.seq x y) Q D L w:=Qwy dead dyn J hk h
end
theorem aH {A B:Slots}(h:lR A B:=by repeat' first|exact trivial|refine⟨rfl,?_⟩):lR A B:=h
section
variable {P:Program} {n:Nat} {ops:Array Oper} {Q:Slots→World→Prop} {rest:List (Nat × Nat)} {i:Nat} {dst:Option Nat} {op:Op} {ty:TypeId} {pos:String} {af:Array Edge} {gu:Option (Nat × Bool)} {L:Slots} {w:World}
theorem qv {v:Value}(hi:iA true n ops L i=some ⟨dst,op,ty,pos,af,gu⟩)(hv:VV P L ⟨dst,op,ty,pos,af,gu⟩ w v)(h:SD P n ops Q (fun _ _=>True) (fun _ _=>false) rest (dN dst v L) w):SD P n ops Q (fun _ _=>True) (fun _ _=>false) ((i,0)::rest) L w:=
 Tg (gL hi).1 (gL hi).2.1 (gL hi).2.2 hv h
theorem qe {R:Value→World→Prop}(hi:iA true n ops L i=some ⟨dst,op,ty,pos,af,gu⟩)(hv:EV P L ⟨dst,op,ty,pos,af,gu⟩ w R)(h:∀ v w',R v w'→SD P n ops Q (fun _ _=>True) (fun _ _=>false) rest (dN dst v L) w'):SD P n ops Q (fun _ _=>True) (fun _ _=>false) ((i,0)::rest) L w:=
 Qga (gL hi).1 (gL hi).2.1 (gL hi).2.2 hv h
theorem qk (hi:iA false n ops L i=some ⟨dst,op,ty,pos,af,gu⟩)(h:SD P n ops Q (fun _ _=>True) (fun _ _=>false) rest (dN dst undef L) w):SD P n ops Q (fun _ _=>True) (fun _ _=>false) ((i,0)::rest) L w:=
 Qvn (gL hi).1 (gL hi).2.1 (gL hi).2.2 h
theorem qp {t:Bool}(hi:iA true n ops L i=some ⟨dst,op,ty,pos,af,gu⟩)(hv:VV P L ⟨dst,op,ty,pos,af,gu⟩ w (.bool t))(ht:t=true→SD P n ops Q (fun _ _=>True) (fun _ _=>false) rest (dN dst (.bool true) L) w)(hf:t=false→SD P n ops Q (fun _ _=>True) (fun _ _=>false) rest (dN dst (.bool false) L) w):SD P n ops Q (fun _ _=>True) (fun _ _=>false) ((i,0)::rest) L w:=
 Qvo (gL hi).1 (gL hi).2.1 (gL hi).2.2 hv ht hf
theorem qt {R:Value→Nat→Prop}(hi:iA true n ops L i=some ⟨dst,op,ty,pos,af,gu⟩)(hv:∃ v o,(∀ w1,VV P L ⟨dst,op,ty,pos,af,gu⟩ w1 v)∧R v o)(h:∀ v o,R v o→SD P n ops Q (fun _ _=>True) (fun _ _=>false) rest (dN dst v L) w):SD P n ops Q (fun _ _=>True) (fun _ _=>false) ((i,0)::rest) L w:=by
 obtain⟨v,o,h1,h2⟩:=hv;exact qv hi (h1 w) (h v o h2)
variable {w₀:World} {mss:List (List Nat)} {ms:List Nat} {kp:Nat→Nat→Bool}
theorem qh {v:Value}(k:Nat)(hi:iA true n ops L i=some ⟨dst,op,ty,pos,af,gu⟩)(hm:mss[k]? = some ms)(hS:Kp ms w₀ w)(hv:∀ w,Kp ms w₀ w→VV P L ⟨dst,op,ty,pos,af,gu⟩ w v)(h:SD P n ops Q (eV mss w₀) kp rest (dN dst v L) w):SD P n ops Q (eV mss w₀) kp ((i,k+10)::rest) L w:=
 Vc k (gL hi).1 (gL hi).2.1 (gL hi).2.2 hm hS hv h
theorem qx (k:Nat)(hi:iA false n ops L i=some ⟨dst,op,ty,pos,af,gu⟩)(hm:mss[k]? = some ms)(hS:Kp ms w₀ w)(h:SD P n ops Q (eV mss w₀) kp rest (dN dst undef L) w):SD P n ops Q (eV mss w₀) kp ((i,k+10)::rest) L w:=
 Qkx k (gL hi).1 (gL hi).2.1 (gL hi).2.2 hm hS h
theorem qq {t:Bool}(k:Nat)(hi:iA true n ops L i=some ⟨dst,op,ty,pos,af,gu⟩)(hm:mss[k]? = some ms)(hS:Kp ms w₀ w)(hv:∀ w,Kp ms w₀ w→VV P L ⟨dst,op,ty,pos,af,gu⟩ w (.bool t))(ht:t=true→SD P n ops Q (eV mss w₀) kp rest (dN dst (.bool true) L) w)(hf:t=false→SD P n ops Q (eV mss w₀) kp rest (dN dst (.bool false) L) w):SD P n ops Q (eV mss w₀) kp ((i,k+10)::rest) L w:=
 Qkw k (gL hi).1 (gL hi).2.1 (gL hi).2.2 hm hS hv ht hf
theorem qz {R:Value→World→Prop}(l:List (Nat × Nat))(hi:iA true n ops L i=some ⟨dst,op,ty,pos,af,gu⟩)(hv:EV P L ⟨dst,op,ty,pos,af,gu⟩ w R)(hb:Q0 (fun k ms=>kp k i=true→gV l (ms.map fun b=>(1,b)) w₀.heap.size) 0 mss)(h:∀ v w',R v w'→Kz l w w'∧SD P n ops Q (eV mss w₀) kp rest (dN dst v L) w'):SD P n ops Q (eV mss w₀) kp ((i,0)::rest) L w:=
 Ql1 l (gL hi).1 (gL hi).2.1 (gL hi).2.2 hv hb h
theorem qw {v:Value}(hi:iA true n ops L i=some ⟨dst,op,ty,pos,af,gu⟩)(hv:VV P L ⟨dst,op,ty,pos,af,gu⟩ w v)(h:SD P n ops Q (eV mss w₀) kp rest (dN dst v L) w):SD P n ops Q (eV mss w₀) kp ((i,0)::rest) L w:=
 Qkz (gL hi).1 (gL hi).2.1 (gL hi).2.2 hv h
theorem qy (hi:iA false n ops L i=some ⟨dst,op,ty,pos,af,gu⟩)(h:SD P n ops Q (eV mss w₀) kp rest (dN dst undef L) w):SD P n ops Q (eV mss w₀) kp ((i,0)::rest) L w:=
 Qky (gL hi).1 (gL hi).2.1 (gL hi).2.2 h
end
theorem iT {p:Prop}[Decidable p]{α:Type}{a b:Option α}{r:α}(h:decide p=true)(hm:(if p then a else b)=some r):a=some r:=kJ (of_decide_eq_true h) hm
theorem iF {p:Prop}[Decidable p]{α:Type}{a b:Option α}{r:α}(h:decide p=false)(hm:(if p then a else b)=some r):b=some r:=kZ (of_decide_eq_false h) hm
def Cg:List Value→Nat→Option Value
 | [],_=>none
 | v::_,0=>some v
 | _::r,k+1=>Cg r k
theorem Qei:∀ {l:List Value} {k:Nat} {v:Value},Cg l k=some v→l[k]? = some v
 | [],_,_,h=>by cases h
 | a::r,0,v,h=>h
 | a::r,k+1,v,h=>by rw[List.getElem?_cons_succ];exact Qei h
def Px (L:Slots):Op→Option Value
 | .move x=>ev L x
 | .assign x=>ev L x
 | .extract x q=>match ev L x with
  | some (.tuple vs)=>Cg vs.toList q
  | _=>none
 | .pick c a b=>match ev L c with
  | some (.bool t)=>bif t then ev L a else ev L b
  | _=>none
 | _=>none
theorem Qf7 {P:Program}{L:Slots}{dst:Option Nat}{op:Op}{ty:TypeId}{pos:String}{af:Array Edge}{gu:Option (Nat × Bool)}{v:Value}(h:Px L op=some v)(w:World):VV P L ⟨dst,op,ty,pos,af,gu⟩ w v:=by
 unfold Px at h
 split at h
 · exact aB h
 · exact fJ h
 · split at h
   · rename_i x q _ vs hx;exact Qye (vs:=vs.toList) (by rw[hx]) (Qei h)
   · cases h
 · split at h
   · rename_i c a b _ t hc
     cases t with
     | true=>exact Qyr hc h
     | false=>exact Qyq hc h
   · cases h
 · cases h
def R9 (n:Nat)(ops:Array Oper)(L:Slots)(i:Nat):Option (Option Nat × Value):=
 match ops[i]? with
 | some o=>match gd ops L o with
  | some true=>match Px L o.op with
   | some v=>bif iQ n o.dst then some (o.dst,v) else none
   | none=>none
  | _=>none
 | none=>none
theorem Qgj {n:Nat}{ops:Array Oper}{L:Slots}{i:Nat}{dst:Option Nat}{v:Value}(h:R9 n ops L i=some (dst,v)):∃ op ty pos af gu,ops[i]? = some ⟨dst,op,ty,pos,af,gu⟩∧gd ops L ⟨dst,op,ty,pos,af,gu⟩=some true∧iQ n dst=true∧Px L op=some v:=by
 unfold R9 at h
 split at h
 · rename_i o ho
   split at h
   · rename_i hg
     split at h
     · rename_i v' hv
       cases hc:iQ n o.dst with
       | false=>rw[hc] at h;cases h
       | true=>
        rw[hc] at h;cases h;exact⟨_,_,_,_,_,ho,hg,hc,hv⟩
     · cases h
   · cases h
 · cases h
def Xq (ops:Array Oper)(k:Nat):Bool:=Nat.beq ops.size k&&gM ops
theorem L4 {ops:Array Oper}{k:Nat}(h:Xq ops k=true):ops.size=k∧gM ops=true:=by
 unfold Xq at h;rw[Bool.and_eq_true] at h;exact⟨Nat.eq_of_beq_eq_true h.1,h.2⟩
section
variable {P:Program} {r:Option Nat} {n:Nat} {Q:Exit→List Deferred→Slots→World→Prop} {K:List Deferred→Slots→World→Prop} {D:List Deferred} {L:Slots} {w:World} {S:Nat→World→Prop} {kp:Nat→Nat→Bool}
theorem qd {id:Nat}{ops ops':Array Oper}{y:Code}(k:Nat)(hk:Xq ops k=true)(h:SD P n ops (fun L w=>lZ (fun D L w=>SW P r n y Q D L w) Q .normal D L w) (fun _ _=>True) (fun _ _=>false) (od k 0) L w):
 SD P n ops' (fun L w=>lZ (fun D L w=>SW P r n (.seq (.region id ops false) y) Q D L w) Q .normal D L w) S kp [] L w:=aQ (qsr k (L4 hk).1 (L4 hk).2 h)
theorem qs {id:Nat}{ops:Array Oper}{y:Code}(k:Nat)(hk:Xq ops k=true)(h:SD P n ops (fun L w=>lZ (fun D L w=>SW P r n y Q D L w) Q .normal D L w) (fun _ _=>True) (fun _ _=>false) (od k 0) L w):SW P r n (.seq (.region id ops false) y) Q D L w:=
 qsr k (L4 hk).1 (L4 hk).2 h
theorem qg {id:Nat}{ops:Array Oper}(k:Nat)(hk:Xq ops k=true)(h:SD P n ops (fun L w=>Q .normal D L w) (fun _ _=>True) (fun _ _=>false) (od k 0) L w):SW P r n (.region id ops false) Q D L w:=
 qr k (L4 hk).1 (L4 hk).2 h
theorem qb {ops:Array Oper}{K:List Deferred→Slots→World→Prop}(h:Q .ret D L w):SD P n ops (fun L w=>lZ (fun D L w=>SW P r n .ret (lZ K Q) D L w) (lZ K Q) .normal D L w) S kp [] L w:=aQ (aG (bU h))
theorem qu {y:Code}(h:SW P r n y Q D L w):SW P r n .skip (lZ (fun D L w=>SW P r n y Q D L w) Q) D L w:=dA (bY h)
end
section
variable {P:Program} {n:Nat} {ops:Array Oper} {Q:Slots→World→Prop} {rest:List (Nat × Nat)} {i:Nat} {dst:Option Nat} {op:Op} {ty:TypeId} {pos:String} {af:Array Edge} {gu:Option (Nat × Bool)} {L:Slots} {w w₀:World} {v:Value} {mss:List (List Nat)} {ms:List Nat} {kp:Nat→Nat→Bool}
theorem qm (h0:R9 n ops L i=some (dst,v))(h:SD P n ops Q (fun _ _=>True) (fun _ _=>false) rest (dN dst v L) w):SD P n ops Q (fun _ _=>True) (fun _ _=>false) ((i,0)::rest) L w:=by
 obtain⟨op,ty,pos,af,gu,h1,h2,h3,h4⟩:=Qgj h0;exact Tg h1 h2 h3 (Qf7 h4 w) h
theorem dn (k:Nat)(h0:R9 n ops L i=some (dst,v))(hm:mss[k]? = some ms)(hS:Kp ms w₀ w)(h:SD P n ops Q (eV mss w₀) kp rest (dN dst v L) w):SD P n ops Q (eV mss w₀) kp ((i,k+10)::rest) L w:=by
 obtain⟨op,ty,pos,af,gu,h1,h2,h3,h4⟩:=Qgj h0;exact Vc k h1 h2 h3 hm hS (fun w _=>Qf7 h4 w) h
theorem dm (k:Nat)(h0:R9 n ops L i=some (dst,v))(hm:mss[k]? = some ms)(h:SD P n ops Q (eV mss w₀) kp rest (dN dst v L) w₀):SD P n ops Q (eV mss w₀) kp ((i,k+10)::rest) L w₀:=dn k h0 hm (Kp.refl _ _) h
theorem dh {v:Value}(k:Nat)(hi:iA true n ops L i=some ⟨dst,op,ty,pos,af,gu⟩)(hm:mss[k]? = some ms)(hv:∀ w,Kp ms w₀ w→VV P L ⟨dst,op,ty,pos,af,gu⟩ w v)(h:SD P n ops Q (eV mss w₀) kp rest (dN dst v L) w₀):SD P n ops Q (eV mss w₀) kp ((i,k+10)::rest) L w₀:=
 qh k hi hm (Kp.refl _ _) hv h
theorem dx (k:Nat)(hi:iA false n ops L i=some ⟨dst,op,ty,pos,af,gu⟩)(hm:mss[k]? = some ms)(h:SD P n ops Q (eV mss w₀) kp rest (dN dst undef L) w₀):SD P n ops Q (eV mss w₀) kp ((i,k+10)::rest) L w₀:=
 qx k hi hm (Kp.refl _ _) h
end
section
variable {P:Program} {L:Slots} {w:World} {dst:Option Nat} {ty:TypeId} {pos:String} {af:Array Edge} {gu:Option (Nat × Bool)} {x y:Operand} {t:TypeId}
theorem bV {b' m:Nat}{tb:TypeId}{cs vs:List Value}(hs:fY P t m)(hx:ev L x=some (.pointer (some ⟨b',0,none⟩)))(hy:ev L y=some (.agg vs.toArray))(h1:bI vs=true)(hb:Bx w b' tb cs)(hm:vs.length=m)(hl:cs.length=m):
 EV P L ⟨dst,.store t x y,ty,pos,af,gu⟩ w fun _ w'=>Bx w' b' tb vs∧Md b' w w':=
 H9 hs.siz hx hy rfl hm h1 hb (by rw[hl,Nat.zero_add];exact Nat.ble_eq_true_of_le (Nat.le_refl _)) (by unfold gJ;rw[List.take_zero,List.nil_append,Nat.zero_add,List.drop_eq_nil_of_le (by omega),List.append_nil])
end
theorem bK {w:World}:Kz [] w w:=Kz.refl _ _
section
variable {b z g z' g' s z1 g1 z2 g2 z3 g3:Nat}
theorem qK (r:bN ((g'=g∧z=1)∨s≤g'∨z'=0))(h:z=0∨g≠b)(f:s≤b→False:=by omega):z'=0∨g'≠b:=kA (A:=(· ≠ b)) r h (fun x hx e=>f (e ▸ hx))
theorem aA (r:bN (z=0∨s≤g))(f:s≤b→False:=by omega):z=0∨g≠b:=bC (A:=(· ≠ b)) r (fun x hx e=>f (e ▸ hx))
theorem aM (r:bN (z=0∨(g=g1∧z1≠0)∨s≤g))(h1:z1=0∨g1≠b)(f:s≤b→False:=by omega):z=0∨g≠b:=aU (A:=(· ≠ b)) r h1 (fun x hx e=>f (e ▸ hx))
theorem aL (r:bN (z=0∨(z=1∧g<s)))(f:b<s→False:=by omega):z=0∨g≠b:=zK (A:=(· ≠ b)) r (fun x hx e=>f (e ▸ hx))
end
def rg:Nat→Nat→List Nat
 | _,0=>[]
 | a,n+1=>a::rg (a+1) n
theorem kG {w w':World}{p:Prop}(h:Gr w w')(k:p):Kz [] w w'∧p:=⟨Kz.ofGr h,k⟩
theorem kM {w w':World}{b:Nat}{p:Prop}(h:Md b w w')(k:p):Kz [(1,b)] w w'∧p:=⟨Kz.ofMd h,k⟩
theorem dw {P:Program}{r:Option Nat}{n:Nat}{Q:Exit→List Deferred→Slots→World→Prop}{D:List Deferred}{L:Slots}{w:World}{id:Nat}{ops:Array Oper}(mss:List (List Nat))(tab:List (Nat × List Nat))(t:Tz)
 (h:∀ w1,RowKit.Below w.heap.size w w1→w1.heap.size=w.heap.size→iP P n ops (fun L w=>Q .normal D L w) (eV mss w1) (Yw tab) t L w1) (hm:P.follows .mixedOrders=true:=by kernel_rfl) (hnd:gM ops=true:=by kernel_rfl) (hlen:t.len=ops.size:=by exact rfl)
 (ho:Qn ops (Yw tab) t (Array.replicate ops.size false)=true:=by kernel_rfl):SW P r n (.region id ops true) Q D L w:=Qwx mss tab t hm hnd hlen ho h
theorem eC {P:Program}{L:Slots}{w:World}{dst:Option Nat}{ty:TypeId}{pos:String}{af:Array Edge}{gu:Option (Nat × Bool)}{f:Nat}{aas:Array Operand}{at_:Array TypeId}{vs:List Value}{R:Value→World→Prop}(hen:En P f)(hargs:pR L aas.toList=some vs)
 (hc:Calls P f vs.toArray w fun e w'=>∃ v,e=.returned v∧R v w'):EV P L ⟨dst,.call { callee:=.value (.func f),args:=aas,argTypes:=at_ },ty,pos,af,gu⟩ w R:=kX hen hargs hc
theorem dX {P:Program}{n:Nat}{ops:Array Oper}{Q:Slots→World→Prop}{rest:List (Nat × Nat)}{i:Nat}{dst:Option Nat}{op:Op}{ty:TypeId}{pos:String}{af:Array Edge}{gu:Option (Nat × Bool)}{L:Slots}{w:World}{p:Prop}[Decidable p]{α:Type}{x₁ x₂:Option α}{r₁:α}(hm:(if p then x₁ else x₂)=some r₁)(hi:iA true n ops L i=some ⟨dst,op,ty,pos,af,gu⟩)(hv:VV P L ⟨dst,op,ty,pos,af,gu⟩ w (.bool (decide p)))(h1:decide p=true→x₁=some r₁→SD P n ops Q (fun _ _=>True) (fun _ _=>false) rest (dN dst (.bool true) L) w)(h2:decide p=false→x₂=some r₁→SD P n ops Q (fun _ _=>True) (fun _ _=>false) rest (dN dst (.bool false) L) w):SD P n ops Q (fun _ _=>True) (fun _ _=>false) ((i,0)::rest) L w:=qp hi hv (fun c=>h1 c (iT c hm)) (fun c=>h2 c (iF c hm))
theorem eE {P:Program}{n:Nat}{ops:Array Oper}{Q:Slots→World→Prop}{rest:List (Nat × Nat)}{i:Nat}{dst:Option Nat}{op:Op}{ty:TypeId}{pos:String}{af:Array Edge}{gu:Option (Nat × Bool)}{L:Slots}{w:World}{p:Prop}[Decidable p]{α:Type}{x₁ x₂:Option α}{r₁:α}(hm:(if p then x₁ else x₂)=some r₁)(hi:iA true n ops L i=some ⟨dst,op,ty,pos,af,gu⟩)(hv:VV P L ⟨dst,op,ty,pos,af,gu⟩ w (.bool (decide p)))(h2:decide p=false→x₂=some r₁→SD P n ops Q (fun _ _=>True) (fun _ _=>false) rest (dN dst (.bool false) L) w)(h1:decide p=true→x₁=some r₁→SD P n ops Q (fun _ _=>True) (fun _ _=>false) rest (dN dst (.bool true) L) w):SD P n ops Q (fun _ _=>True) (fun _ _=>false) ((i,0)::rest) L w:=qp hi hv (fun c=>h1 c (iT c hm)) (fun c=>h2 c (iF c hm))
theorem Ug {P:Program}{n:Nat}{ops:Array Oper}{Q:Slots→World→Prop}{rest:List (Nat × Nat)}{i:Nat}{dst:Option Nat}{op:Op}{ty:TypeId}{pos:String}{af:Array Edge}{gu:Option (Nat × Bool)}{L:Slots}{w:World}{w₀:World}{mss:List (List Nat)}{ms:List Nat}{kp:Nat→Nat→Bool}{p:Prop}[Decidable p]{α:Type}{x₁ x₂:Option α}{r₁:α}(hm:(if p then x₁ else x₂)=some r₁)(k:Nat)(hi:iA true n ops L i=some ⟨dst,op,ty,pos,af,gu⟩)(hk:mss[k]? = some ms)(hS:Kp ms w₀ w)(hv:∀ w,Kp ms w₀ w→VV P L ⟨dst,op,ty,pos,af,gu⟩ w (.bool (decide p)))(h1:decide p=true→x₁=some r₁→SD P n ops Q (eV mss w₀) kp rest (dN dst (.bool true) L) w)(h2:decide p=false→x₂=some r₁→SD P n ops Q (eV mss w₀) kp rest (dN dst (.bool false) L) w):SD P n ops Q (eV mss w₀) kp ((i,k+10)::rest) L w:=qq k hi hk hS hv (fun c=>h1 c (iT c hm)) (fun c=>h2 c (iF c hm))
theorem nM {P:Program}{n:Nat}{ops:Array Oper}{Q:Slots→World→Prop}{rest:List (Nat × Nat)}{i:Nat}{dst:Option Nat}{op:Op}{ty:TypeId}{pos:String}{af:Array Edge}{gu:Option (Nat × Bool)}{L:Slots}{w:World}{w₀:World}{mss:List (List Nat)}{ms:List Nat}{kp:Nat→Nat→Bool}{p:Prop}[Decidable p]{α:Type}{x₁ x₂:Option α}{r₁:α}(hm:(if p then x₁ else x₂)=some r₁)(k:Nat)(hi:iA true n ops L i=some ⟨dst,op,ty,pos,af,gu⟩)(hk:mss[k]? = some ms)(hS:Kp ms w₀ w)(hv:∀ w,Kp ms w₀ w→VV P L ⟨dst,op,ty,pos,af,gu⟩ w (.bool (decide p)))(h2:decide p=false→x₂=some r₁→SD P n ops Q (eV mss w₀) kp rest (dN dst (.bool false) L) w)(h1:decide p=true→x₁=some r₁→SD P n ops Q (eV mss w₀) kp rest (dN dst (.bool true) L) w):SD P n ops Q (eV mss w₀) kp ((i,k+10)::rest) L w:=qq k hi hk hS hv (fun c=>h1 c (iT c hm)) (fun c=>h2 c (iF c hm))
theorem dW {P:Program}{r:Option Nat}{n:Nat}{Q:Exit→List Deferred→Slots→World→Prop}{D:List Deferred}{L:Slots}{w:World}{c:Operand}{x y:Code}{p:Prop}[Decidable p]{α:Type}{x₁ x₂:Option α}{r₁:α}(hm:(if p then x₁ else x₂)=some r₁)(hc:ev L c=some (.bool (decide p)))(h1:decide p=true→x₁=some r₁→SW P r n x Q D L w)(h2:decide p=false→x₂=some r₁→SW P r n y Q D L w):SW P r n (.cond c x y) Q D L w:=lX hc (fun c=>h1 c (iT c hm)) (fun c=>h2 c (iF c hm))
theorem dS {P:Program}{r:Option Nat}{n:Nat}{Q:Exit→List Deferred→Slots→World→Prop}{D:List Deferred}{L:Slots}{w:World}{c:Operand}{x y:Code}{p:Prop}[Decidable p]{α:Type}{x₁ x₂:Option α}{r₁:α}(hm:(if p then x₁ else x₂)=some r₁)(hc:ev L c=some (.bool (decide p)))(h2:decide p=false→x₂=some r₁→SW P r n y Q D L w)(h1:decide p=true→x₁=some r₁→SW P r n x Q D L w):SW P r n (.cond c x y) Q D L w:=lX hc (fun c=>h1 c (iT c hm)) (fun c=>h2 c (iF c hm))
theorem pQ {P:Program}{n:Nat}{ops:Array Oper}{Q:Slots→World→Prop}{rest:List (Nat × Nat)}{i:Nat}{dst:Option Nat}{op:Op}{ty:TypeId}{pos:String}{af:Array Edge}{gu:Option (Nat × Bool)}{L:Slots}{w:World}{c₁:Bool}{α:Type}{x₁ x₂:Option α}{r₁:α}(hm:(bif c₁ then x₁ else x₂)=some r₁)(hi:iA true n ops L i=some ⟨dst,op,ty,pos,af,gu⟩)(hv:VV P L ⟨dst,op,ty,pos,af,gu⟩ w (.bool c₁))(h1:c₁=true→x₁=some r₁→SD P n ops Q (fun _ _=>True) (fun _ _=>false) rest (dN dst (.bool true) L) w)(h2:c₁=false→x₂=some r₁→SD P n ops Q (fun _ _=>True) (fun _ _=>false) rest (dN dst (.bool false) L) w):SD P n ops Q (fun _ _=>True) (fun _ _=>false) ((i,0)::rest) L w:=qp hi hv (fun c=>h1 c (J4 c hm)) (fun c=>h2 c (J3 c hm))
theorem kK {P:Program}{n:Nat}{ops:Array Oper}{Q:Slots→World→Prop}{rest:List (Nat × Nat)}{i:Nat}{dst:Option Nat}{op:Op}{ty:TypeId}{pos:String}{af:Array Edge}{gu:Option (Nat × Bool)}{L:Slots}{w:World}{c₁:Bool}{α:Type}{x₁ x₂:Option α}{r₁:α}(hm:(bif c₁ then x₁ else x₂)=some r₁)(hi:iA true n ops L i=some ⟨dst,op,ty,pos,af,gu⟩)(hv:VV P L ⟨dst,op,ty,pos,af,gu⟩ w (.bool c₁))(h2:c₁=false→x₂=some r₁→SD P n ops Q (fun _ _=>True) (fun _ _=>false) rest (dN dst (.bool false) L) w)(h1:c₁=true→x₁=some r₁→SD P n ops Q (fun _ _=>True) (fun _ _=>false) rest (dN dst (.bool true) L) w):SD P n ops Q (fun _ _=>True) (fun _ _=>false) ((i,0)::rest) L w:=qp hi hv (fun c=>h1 c (J4 c hm)) (fun c=>h2 c (J3 c hm))
theorem Uf {P:Program}{n:Nat}{ops:Array Oper}{Q:Slots→World→Prop}{rest:List (Nat × Nat)}{i:Nat}{dst:Option Nat}{op:Op}{ty:TypeId}{pos:String}{af:Array Edge}{gu:Option (Nat × Bool)}{L:Slots}{w:World}{w₀:World}{mss:List (List Nat)}{ms:List Nat}{kp:Nat→Nat→Bool}{c₁:Bool}{α:Type}{x₁ x₂:Option α}{r₁:α}(hm:(bif c₁ then x₁ else x₂)=some r₁)(k:Nat)(hi:iA true n ops L i=some ⟨dst,op,ty,pos,af,gu⟩)(hk:mss[k]? = some ms)(hS:Kp ms w₀ w)(hv:∀ w,Kp ms w₀ w→VV P L ⟨dst,op,ty,pos,af,gu⟩ w (.bool c₁))(h1:c₁=true→x₁=some r₁→SD P n ops Q (eV mss w₀) kp rest (dN dst (.bool true) L) w)(h2:c₁=false→x₂=some r₁→SD P n ops Q (eV mss w₀) kp rest (dN dst (.bool false) L) w):SD P n ops Q (eV mss w₀) kp ((i,k+10)::rest) L w:=qq k hi hk hS hv (fun c=>h1 c (J4 c hm)) (fun c=>h2 c (J3 c hm))
theorem zV {P:Program}{n:Nat}{ops:Array Oper}{Q:Slots→World→Prop}{rest:List (Nat × Nat)}{i:Nat}{dst:Option Nat}{op:Op}{ty:TypeId}{pos:String}{af:Array Edge}{gu:Option (Nat × Bool)}{L:Slots}{w:World}{w₀:World}{mss:List (List Nat)}{ms:List Nat}{kp:Nat→Nat→Bool}{c₁:Bool}{α:Type}{x₁ x₂:Option α}{r₁:α}(hm:(bif c₁ then x₁ else x₂)=some r₁)(k:Nat)(hi:iA true n ops L i=some ⟨dst,op,ty,pos,af,gu⟩)(hk:mss[k]? = some ms)(hS:Kp ms w₀ w)(hv:∀ w,Kp ms w₀ w→VV P L ⟨dst,op,ty,pos,af,gu⟩ w (.bool c₁))(h2:c₁=false→x₂=some r₁→SD P n ops Q (eV mss w₀) kp rest (dN dst (.bool false) L) w)(h1:c₁=true→x₁=some r₁→SD P n ops Q (eV mss w₀) kp rest (dN dst (.bool true) L) w):SD P n ops Q (eV mss w₀) kp ((i,k+10)::rest) L w:=qq k hi hk hS hv (fun c=>h1 c (J4 c hm)) (fun c=>h2 c (J3 c hm))
theorem cA {P:Program}{r:Option Nat}{n:Nat}{Q:Exit→List Deferred→Slots→World→Prop}{D:List Deferred}{L:Slots}{w:World}{c:Operand}{x y:Code}{c₁:Bool}{α:Type}{x₁ x₂:Option α}{r₁:α}(hm:(bif c₁ then x₁ else x₂)=some r₁)(hc:ev L c=some (.bool c₁))(h1:c₁=true→x₁=some r₁→SW P r n x Q D L w)(h2:c₁=false→x₂=some r₁→SW P r n y Q D L w):SW P r n (.cond c x y) Q D L w:=lX hc (fun c=>h1 c (J4 c hm)) (fun c=>h2 c (J3 c hm))
theorem jH {P:Program}{r:Option Nat}{n:Nat}{Q:Exit→List Deferred→Slots→World→Prop}{D:List Deferred}{L:Slots}{w:World}{c:Operand}{x y:Code}{c₁:Bool}{α:Type}{x₁ x₂:Option α}{r₁:α}(hm:(bif c₁ then x₁ else x₂)=some r₁)(hc:ev L c=some (.bool c₁))(h2:c₁=false→x₂=some r₁→SW P r n y Q D L w)(h1:c₁=true→x₁=some r₁→SW P r n x Q D L w):SW P r n (.cond c x y) Q D L w:=lX hc (fun c=>h1 c (J4 c hm)) (fun c=>h2 c (J3 c hm))
def Jo (n:Nat)(ops:Array Oper):Nat→List (Nat × Nat)→Slots→Option (List (Nat × Nat) × Slots)
 | 0,l,L=>some (l,L)
 | _+1,[],_=>none
 | _+1,(_,_+1)::_,_=>none
 | k+1,(i,0)::rest,L=>match iA false n ops L i with
  | some ⟨dst,_,_,_,_,_⟩=>Jo n ops k rest (dN dst undef L)
  | none=>match R9 n ops L i with
   | some (dst,v)=>Jo n ops k rest (dN dst v L)
   | none=>none
theorem qn {P:Program}{n:Nat}{ops:Array Oper}{Q:Slots→World→Prop}{w:World}:∀ {l l':List (Nat × Nat)} {L L':Slots} (k:Nat),Jo n ops k l L=some (l',L')→SD P n ops Q (fun _ _=>True) (fun _ _=>false) l' L' w→SD P n ops Q (fun _ _=>True) (fun _ _=>false) l L w
 | _,_,_,_,0,h,hh=>by cases h;exact hh
 | [],_,_,_,k+1,h,_=>by cases h
 | (_,_+1)::_,_,_,_,k+1,h,_=>by cases h
 | (i,0)::rest,_,L,_,k+1,h,hh=>by
  unfold Jo at h
  split at h
  · rename_i ho;exact qk ho (qn k h hh)
  · split at h
    · rename_i hm;exact qm hm (qn k h hh)
    · cases h
end Go.Sx

end
section
namespace Go.Sx
open Go Go.RowKit
theorem gH {a b:Bool}(ha:a=true)(hb:b=true):(a&&b)=true:=by rw[ha,hb];rfl
theorem Qs3 {P:Program}{W:World}{r:Reach}{base:Nat}{t:TypeId}{v:Value}{k:IntKind}(hu:P.underlying t=some (.int k))(h:Cell.okWide P W r base t v):∃ n,v=.int k n∧k.has n:=by
 simp only[Cell.okWide,hu,Cell.ok] at h
 split at h<;>try (exact h.elim)
 all_goals first|(obtain⟨rfl,h⟩:=h;rename_i e;cases e;exact⟨_,rfl,h⟩)|simp_all
theorem Qs2 {P:Program}{W:World}{r:Reach}{base:Nat}{t:TypeId}{v:Value}(hu:P.underlying t=some (.int .i64))(h:Cell.okWide P W r base t v):∃ n:Int,v=.int .i64 n ∧ -9223372036854775808≤n∧n≤9223372036854775807:=by
 obtain⟨n,h1,h2⟩:=Qs3 hu h;simp only[IntKind.has,IntKind.min,IntKind.max,IntKind.bits,IntKind.signed] at h2;exact⟨n,h1,by simpa using h2.1,by simpa using h2.2⟩
end Go.Sx

end
section
namespace Go.Sx
open Go Go.RowKit
def eB (n:Int):Prop := -9223372036854775808≤n∧n≤9223372036854775807
section
variable {H:Type} {enc:TypeId × Value→H} {P:Program} {W:World} {fuel:Nat} {t e:TypeId} {cs:List Value} {x:DataW H × List MemPlace}
def Sz (P:Program)(t:TypeId)(d:DataW H):Prop:=∀ n∈d.weights P t,n≤reachBytes
abbrev Tr (enc:TypeId × Value→H)(P:Program)(W:World)(fuel:Nat)(t:TypeId)(cs:List Value)(x:DataW H × List MemPlace):Prop:=DataW.trod enc P W 0 (fun _=>true) true fuel t cs=some x
theorem fG (hu:P.underlying t=some (.int .i64))(h:Tr enc P W fuel t cs x):∃ n:Int,cs=[.int .i64 n]∧eB n:=by
 obtain⟨n,rfl,_,hw⟩:=DataW.trod_int hu h;simp[Lit.wf,IntKind.min,IntKind.max,IntKind.signed,IntKind.bits] at hw;exact⟨n,rfl,by unfold eB;omega⟩
theorem Cr (hu:P.underlying t=some (.int .u64))(h:Tr enc P W fuel t cs x):∃ n:BitVec 64,cs=[wv n]:=by
 obtain⟨n,rfl,_,hw⟩:=DataW.trod_int hu h;simp[Lit.wf,IntKind.min,IntKind.max,IntKind.signed,IntKind.bits] at hw;refine⟨wd n,?_⟩;show[Value.int .u64 n]=[Value.int .u64 (un (wd n))];rw[Gi n (by omega) (by omega)]
theorem Qq (hu:P.underlying t=some (.int .u8))(h:Tr enc P W fuel t cs x):∃ n:BitVec 8,cs=[bv n]:=by
 obtain⟨n,rfl,_,hw⟩:=DataW.trod_int hu h;simp[Lit.wf,IntKind.min,IntKind.max,IntKind.signed,IntKind.bits] at hw;refine⟨nO n,?_⟩;show[Value.int .u8 n]=[Value.int .u8 (aC (nO n))];have:aC (nO n)=n:=by unfold aC nO;rw[BitVec.toNat_ofInt];omega
 rw[this]
theorem Qes (hu:P.underlying t=some .bool)(h:Tr enc P W fuel t cs x):∃ b:Bool,cs=[.bool b]:=by
 obtain⟨b,rfl,_⟩:=DataW.trod_bool hu h;exact⟨b,rfl⟩
theorem Qox {cs:List Value}{i:Nat}{v:Value}(h:(cs.drop (i*1)).take 1=[v]):cs[i]? = some v:=by
 have:((cs.drop (i*1)).take 1)[0]? = some v:=by rw[h];rfl
 simpa[List.getElem?_take,List.getElem?_drop] using this
theorem Qsj (he:P.underlying e=some (.int .u8))(hc:P.cellsOf e=1){m n:Nat}{xs:List (DataW H × List MemPlace)}(hl:cs.length=n)(hx:xs.length=n)
 (h:∀ i,i<n→DataW.trod enc P W 0 (fun _=>true) true m e ((cs.drop (i*P.cellsOf e)).take (P.cellsOf e))=xs[i]?):∃ l:List (BitVec 8),l.length=n∧cs=(l.map eZ).flatten:=by
 have key:∀ i,i<n→∃ b:BitVec 8,cs[i]? = some (bv b):=fun i hi=>by
  have h1:=h i hi;rw[hc] at h1;have:∃ y,xs[i]? = some y:=⟨xs[i],by simp[hx,hi]⟩;obtain⟨y,hy⟩:=this;rw[hy] at h1;obtain⟨b,hb⟩:=Qq he h1;exact⟨b,Qox hb⟩
 refine⟨List.ofFn fun i:Fin n=>Classical.choose (key i.1 i.2),by simp,?_⟩
 have hf:∀ (l:List (BitVec 8)),(l.map eZ).flatten=l.map bv:=by
  intro l
  induction l with
  | nil=>rfl
  | cons a l ih=>simp only[List.map_cons,List.flatten_cons,ih];rfl
 rw[hf];apply List.ext_getElem?;intro i;by_cases hi:i<n
 · rw[Classical.choose_spec (key i hi)];simp[hi]
 · rw[List.getElem?_eq_none (by omega),List.getElem?_eq_none (by simp;omega)]
theorem Qsk (hu:P.underlying t=some (.array 16 e))(he:P.underlying e=some (.int .u8))(hc:P.cellsOf e=1)(ht:P.cellsOf t=16)(h:Tr enc P W fuel t cs x):∃ p:W2,cs=kb p:=by
 obtain⟨xs,m,rfl,rfl,hl,hx,hf⟩:=DataW.trod_array hu h;obtain⟨l,h1,h2⟩:=Qsj he hc (hl.trans ht) hx hf;refine⟨kE l,?_⟩;rw[sE,Qd (by omega),List.take_of_length_le (by omega)];exact h2
theorem Zr {fs:Array Field}{parts:List (DataW H)}(hu:P.underlying t=some (.struct fs))(h:Sz P t (.agg parts)){i:Nat}{u:TypeId}{d:DataW H}(ht:(fs.toList.map (·.type))[i]? = some u)(hd:parts[i]? = some d):Sz P u d:=fun n hn=>
 h n (by simp only[DataW.weights,hu];exact DataW.weights_mem_each ht hd n hn)
theorem fT {fs:Array Field}{n:Nat}{xs:List (DataW H × List MemPlace)}(hf:∀ (i:Nat) (f:Field),fs[i]? = some f→DataW.trod enc P W 0 (fun _=>true) true n f.type ((cs.drop f.offset).take (P.cellsOf f.type))=xs[i]?){i o k:Nat}{u:TypeId}{f:Field}{y:DataW H × List MemPlace}
 (hi:fs[i]? = some f) (h1:f.type=u) (h2:f.offset=o) (h3:P.cellsOf u=k) (e:xs[i]? = some y):Tr enc P W n u ((cs.drop o).take k) y:=by
 subst h1;subst h2;subst h3;exact(hf i f hi).trans e
theorem lU {n m k o i:Nat}{xs:List (DataW H × List MemPlace)}(hf:∀ i,i<n→DataW.trod enc P W 0 (fun _=>true) true m e ((cs.drop (i*P.cellsOf e)).take (P.cellsOf e))=xs[i]?){y:DataW H × List MemPlace}(hi:i<n)(hk:P.cellsOf e=k)(ho:i*k=o)(ey:xs[i]? = some y):Tr enc P W m e ((cs.drop o).take k) y:=by
 subst hk;subst ho;exact(hf i hi).trans ey
theorem dM {cs a r:List Value}{o k:Nat}(h:(cs.drop o).take k=a)(hr:cs.drop (o+k)=r):cs.drop o=a++r:=by rw[←h,←hr,←List.drop_drop,List.take_append_drop]
theorem sY {cs:List Value}{n:Nat}(h:cs.length=n):cs.drop n=[]:=List.drop_eq_nil_of_le (by omega)
theorem dE {α:Type}{xs:List α}{n i:Nat}(h:xs.length=n)(hi:Nat.blt i n=true):∃ y,xs[i]? = some y:=⟨xs[i]'(by rw[h];exact Nat.le_of_ble_eq_true hi),by simp⟩
theorem Qjt {w:World}{a:Addr}{n:Nat}{cs:List Value}(h:w.cells? 0 a n=some cs):cs.length=n∧∀ q u,cs[q]? = some u→w.cell? (a.add q)=some u:=by
 unfold World.cells? at h;rw[if_pos (Nat.zero_le _)] at h;have hl:=mapM_some_length h;rw[List.length_range] at hl;refine⟨hl,fun q u hq=>?_⟩;have hqn:q<n:=by rw[←hl];exact(List.getElem?_eq_some_iff.1 hq).1
 have:=mapM_some_get h q q (by simp[hqn]);rw[this];exact hq
theorem Ch {r:Reach}{base:Nat}{v:Value}(hu:(∃ fs,P.underlying t=some (.struct fs))∨∃ n e,P.underlying t=some (.array n e))(h:Value.okWide P W r base t v):∃ cs:List Value,v=.agg cs.toArray:=by
 unfold Value.okWide at h
 split at h
 · obtain⟨cs,rfl,_⟩:=h;exact⟨cs.toList,rfl⟩
 · obtain⟨cs,rfl,_⟩:=h;exact⟨cs.toList,rfl⟩
 · rename_i h1 h2;rcases hu with⟨fs,hu⟩|⟨n,e,hu⟩
   · exact absurd hu (h1 fs)
   · exact absurd hu (h2 n e)
theorem Qs4 {r:Reach}{base:Nat}{v:Value}(h1:∀ fs,P.underlying t≠some (.struct fs))(h2:∀ n e,P.underlying t≠some (.array n e))(h:Value.okWide P W r base t v):Cell.okWide P W r base t v:=by
 unfold Value.okWide at h
 split at h
 · rename_i h3;exact absurd h3 (h1 _)
 · rename_i h3;exact absurd h3 (h2 _ _)
 · exact h
theorem Ci {r:Reach}{base:Nat}{v:Value}(hu:P.underlying t=some (.int .i64))(h:Value.okWide P W r base t v):∃ n:Int,v=.int .i64 n∧eB n:=Qs2 hu (Qs4 (by simp[hu]) (by simp[hu]) h)
theorem Lm (cs:List Value):(Value.agg cs.toArray).cells.toList=cs:=rfl
theorem Qp {α:Type}{c:α→List Value}{ok:α→Prop}{sz bytes:Nat}(hu:P.underlying t=some (.slice e))(hc:P.cellsOf e=sz)(hb:P.bytesOf e=bytes)(hpos:1≤sz)(hcs:∀ a,(c a).length=sz∧bI (c a)=true)
 (hel:∀ (fuel:Nat) (cs:List Value) (x:DataW H × List MemPlace),Tr enc P W fuel e cs x→∃ m:α,cs=c m∧ok m) (h:Tr enc P W fuel t cs x) (hw:Sz P t x.1):
 ∃ (l:List α) (v:Value) (z g o:Nat),cs=[v]∧Rd W z g o sz v (l.map c)∧(∀ a∈l,ok a)∧l.length*bytes≤140737488351232:=by
 rcases DataW.trod_slice hu h with⟨rfl,rfl⟩|⟨a,len,cap,elems,rest,n,rfl,rfl,rfl,_,hlc,hcm,hel2,hget,_,_⟩
 · exact⟨[],_,0,0,0,rfl,⟨Aw _,.inl ⟨rfl,rfl,none,0,rfl⟩⟩,by simp,by simp⟩
 · have key:∀ i,i<len→∃ m:α,W.cells? 0 (a.add (i*sz)) sz=some (c m)∧ok m:=fun i hi=>by
    have h1:=hget i hi;rw[hc] at h1;have hy:elems[i]? = some elems[i]:=by simp
    rw[hy] at h1;rw[Option.bind_eq_some_iff] at h1;obtain⟨cs',h2,h3⟩:=h1;obtain⟨m,rfl,hm⟩:=hel _ _ _ h3;exact⟨m,h2,hm⟩
   let f:Fin len→α:=fun i=>Classical.choose (key i.1 i.2)
   have hf:∀ i (hi:i<len),W.cells? 0 (a.add (i*sz)) sz=some (c (f ⟨i,hi⟩))∧ok (f ⟨i,hi⟩):=fun i hi=>Classical.choose_spec (key i hi)
   have hws:Ws sz ((List.ofFn f).map c):=fun y hy=>by
    obtain⟨b,_,rfl⟩:=List.mem_map.1 hy;exact hcs b
   have hbd:(List.ofFn f).length*bytes≤140737488351232:=by
    have:=hw ((elems.length+rest.length)*P.bytesOf e) (by simp[DataW.weights,hu]);rw[hb] at this;have h2:elems.length*bytes≤(elems.length+rest.length)*bytes:=Nat.mul_le_mul_right _ (by omega);have h3:reachBytes=140737488351232:=by decide
    rw[List.length_ofFn,←hel2];omega
   rcases Nat.eq_zero_or_pos len with h0|hp
   · refine⟨List.ofFn f,_,0,0,0,rfl,⟨hws,.inl ⟨rfl,?_,some a,cap,by rw[h0]⟩⟩,?_,hbd⟩
     · apply List.eq_nil_of_length_eq_zero;simp[h0]
     · intro b hb';obtain⟨i,rfl⟩:=List.mem_ofFn.1 hb';exact(hf i.1 i.2).2
   · have hcell:∀ j u,((List.ofFn f).map c).flatten[j]? = some u→W.cell? (a.add j)=some u:=fun j u hj=>by
      have hjl:j<len*sz:=by
       have h1:=(List.getElem?_eq_some_iff.1 hj).1;rw[hws.flat] at h1;simpa using h1
      have hq:j%sz<sz:=Nat.mod_lt _ (by omega);have hi:j / sz<len:=(Nat.div_lt_iff_lt_mul (by omega)).2 hjl;obtain⟨h1,_⟩:=hf (j / sz) hi;have h2:=hws.at (j / sz) (j%sz) (c (f ⟨j / sz,hi⟩)) (by simp[hi]) hq;have hdm:j / sz*sz+j%sz=j:=by rw[Nat.mul_comm];exact Nat.div_add_mod j sz
      rw[hdm,hj] at h2;have h3:=(Qjt h1).2 (j%sz) u h2.symm;rw[Addr.add_add,hdm] at h3;exact h3
     have hsp:a.spot=none:=by
      have h0:∃ u,((List.ofFn f).map c).flatten[0]? = some u:=by
       have:0<((List.ofFn f).map c).flatten.length:=by rw[hws.flat];simp;exact Nat.mul_pos hp (by omega)
       exact⟨_,List.getElem?_eq_getElem this⟩
      obtain⟨u,hu0⟩:=h0;simpa[Addr.add] using World.cell?_spot (hcell 0 u hu0)
     obtain⟨g,o,spot⟩:=a;simp only at hsp;subst hsp
     have cP:g<W.heap.size:=by
      have h0:∃ u,((List.ofFn f).map c).flatten[0]? = some u:=by
       have:0<((List.ofFn f).map c).flatten.length:=by rw[hws.flat];simp;exact Nat.mul_pos hp (by omega)
       exact⟨_,List.getElem?_eq_getElem this⟩
      obtain⟨u,hu0⟩:=h0;have h1:=hcell 0 u hu0;rcases Nat.lt_or_ge g W.heap.size with h|h
      · exact h
      · simp[World.cell?,Addr.add,Array.getElem?_eq_none h] at h1
     refine⟨List.ofFn f,_,1,g,o,rfl,⟨hws,.inr ⟨rfl,cap,by simp,⟨cP,by simpa using hlc⟩,fun j u hj=>?_⟩⟩,?_,hbd⟩
     · have:=hcell j u hj;rw[Addr.add_lit] at this;exact this
     · intro b hb';obtain⟨i,rfl⟩:=List.mem_ofFn.1 hb';exact(hf i.1 i.2).2
end
end Go.Sx

end
section
namespace Go.Sx
open Go
def nW (x:BitVec 64)(s:Nat):BitVec 64:=x <<< s ||| x >>> (64-s)
def lN (p:W2)(k:BitVec 64):W2:=((nW p.1 56+p.2) ^^^ k,nW p.2 3 ^^^ ((nW p.1 56+p.2) ^^^ k))
def nU (p:W2)(k:BitVec 64):W2:=(nW ((p.1 ^^^ k)-nW (p.1 ^^^ p.2) 61) 8,nW (p.1 ^^^ p.2) 61)
def ks (k:W2):Nat→W2
 | 0=>k
 | i+1=>lN (ks k i) (wd (i:Int))
def jP (k b:W2):W2:=(List.range 32).foldl (fun p i=>lN p (ks k i).2) b
def Ld (tag:Int)(c n:BitVec 64):W2:=(wd tag <<< 56 ||| c,n)
def cX (k:W2)(tag:Int)(n:BitVec 64):W2:=jP k (Ld tag 0#64 n)
def W9 (k b:W2)(j:Nat):W2:=(List.range (32-j)).foldl (fun p i=>nU p (ks k (31-i)).2) b
def oH (k b:W2):W2:=W9 k b 0
def lg (a:Int):Int:=if a.toNat=0 then 0 else(Nat.log2 a.toNat:Int)+1
end Go.Sx

end
