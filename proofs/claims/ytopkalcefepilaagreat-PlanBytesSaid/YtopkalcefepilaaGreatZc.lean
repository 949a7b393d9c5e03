/- Several texts in one: Mir MirB MirC MirD MirE MirF MirG Wd MirH MirI We MirJ MirK MirL Sq Row. -/
import Derived.Test.YtopkalcefepilaaGreatZb
import Derived.Laws.MakeOwn
import Derived.Laws.Slices
import Derived.Laws.IdiomStrings
import Derived.Laws.Strings
import Derived.Laws.IdiomCopy
import Derived.Laws.IdiomRangeMap
import Derived.ControlIn
import Derived.Laws.CopyRow
import Derived.Test.YtopkalcefepilaaGreatRows
import Derived.ProofKit
import Derived.OpenShut
import Derived.ShutString
import Derived.ChangeOld
import Derived.Below
import Derived.Carry
set_option linter.unusedVariables false
set_option linter.unusedSimpArgs false
section
set_option linter.unusedVariables false
set_option linter.unusedSimpArgs false
namespace Go.Sx
open Go Go.RowKit
abbrev Qc (n:Int):Int:=IntKind.i64.wrap n
def Xb:Nat:=18446744073709551616
def Qv {σ R:Type}(F:(σ→Option R)→σ→Option R)(n:Nat):σ→Option R:=Nat.rec (fun _=>none) (fun _ ih s=>F ih s) n
theorem Kk {σ R:Type}(F:(σ→Option R)→σ→Option R)(n:Nat)(s:σ):Qv F (n+1) s=F (Qv F n) s:=rfl
theorem Kl {σ R:Type}{F:(σ→Option R)→σ→Option R}{n:Nat}{s:σ}{r:R}(h:Qv F n s=some r):∃ m,n=m+1∧F (Qv F m) s=some r:=by
 cases n with
 | zero=>cases h
 | succ m=>exact⟨m,rfl,h⟩
theorem Qd {α β:Type}{o:Option α}{f:α→Option β}{r:β}(h:Option.bind o f=some r):∃ a,o=some a∧f a=some r:=by
 cases o with
 | none=>cases h
 | some a=>exact⟨a,rfl,h⟩
theorem Hg {β:Type}{c:Prop}[Decidable c]{a b:Option β}{r:β}(hc:c)(h:(if c then a else b)=some r):a=some r:=by rwa[if_pos hc] at h
theorem Hf {β:Type}{c:Prop}[Decidable c]{a b:Option β}{r:β}(hc:¬ c)(h:(if c then a else b)=some r):b=some r:=by rwa[if_neg hc] at h
theorem Iy {β:Type}{c:Bool}{a b:Option β}{r:β}(hc:c=true)(h:(bif c then a else b)=some r):a=some r:=by rw[hc] at h;exact h
theorem Iw {β:Type}{c:Bool}{a b:Option β}{r:β}(hc:c=false)(h:(bif c then a else b)=some r):b=some r:=by rw[hc] at h;exact h
def Xr {α:Type}(l:List α)(i:Int):Option α:=if 0≤i then l[i.toNat]? else none
theorem Bq {α:Type}{l:List α}{i:Int}{a:α}(h:Xr l i=some a):0≤i:=by unfold Xr at h;split at h<;>first|assumption|cases h
theorem Fe {α:Type}{l:List α}{i:Int}{a:α}(h:Xr l i=some a):l[i.toNat]? = some a:=by unfold Xr at h;split at h<;>first|assumption|cases h
theorem Qal {α:Type}{l:List α}{i:Int}{a:α}(h:Xr l i=some a):i<l.length:=by
 have:=(List.getElem?_eq_some_iff.1 (Fe h)).1;have:=Bq h;omega
def Vy {α:Type}(b:Nat)(l m:List α):Option (List α):=if(l.length+m.length)*b≤140737488355328 then some (l++m) else none
theorem Qnv {α:Type}{b:Nat}{l m k:List α}(h:Vy b l m=some k):k=l++m∧(l.length+m.length)*b≤140737488355328:=by
 unfold Vy at h;split at h
 · exact⟨(Option.some.inj h).symm,‹_›⟩
 · cases h
def mkL {α:Type}(b:Nat)(n:Int)(z:α):Option (List α):=if 0≤n∧n*b≤140737488355328 then some (List.replicate n.toNat z) else none
theorem Xcf {α:Type}{b:Nat}{n:Int}{z:α}{k:List α}(h:mkL b n z=some k):k=List.replicate n.toNat z∧0≤n∧n*b≤140737488355328:=by
 unfold mkL at h;split at h
 · rename_i h1;exact⟨(Option.some.inj h).symm,h1⟩
 · cases h
def La {α:Type}(l:List α)(lo hi:Int):Option (List α):=if 0≤lo∧lo≤hi∧hi≤l.length then some ((l.take hi.toNat).drop lo.toNat) else none
theorem Qu2 {α:Type}{l k:List α}{lo hi:Int}(h:La l lo hi=some k):k=(l.take hi.toNat).drop lo.toNat∧0≤lo∧lo≤hi∧hi≤l.length:=by
 unfold La at h;split at h
 · rename_i h1;exact⟨(Option.some.inj h).symm,h1⟩
 · cases h
def Qdq (a b:Int):Option Int:=if b=0 then none else some (Qc (a.tdiv b))
def Re (a b:Int):Option Int:=if b=0 then none else some (a.tmod b)
def Qm7 {n:Nat}(a b:BitVec n):Option (BitVec n):=if b=BitVec.ofNat n 0 then none else some (a / b)
def Yc {n:Nat}(a b:BitVec n):Option (BitVec n):=if b=BitVec.ofNat n 0 then none else some (a%b)
def Jp (n:Int):Option Nat:=if 0≤n then some n.toNat else none
theorem Qi3 {n:Int}{k:Nat}(h:Jp n=some k):0≤n∧n.toNat=k:=by
 unfold Jp at h;split at h
 · rename_i h1;exact⟨h1,Option.some.inj h⟩
 · cases h
def Xw (a:Int)(n:Nat):Int:=Qc (a*2^min n 64)
def Rh (a:Int)(n:Nat):Int:=a / 2^min n 64
def Ii (op:BinOp)(a b:Int):Int:=bits op .i64 a b
def Qs (x:BitVec 8):Int:=(x.toNat:Int)
abbrev bv (x:BitVec 8):Value:=.int .u8 (Qs x)
theorem Hv (x:BitVec 8):0≤Qs x:=by unfold Qs;omega
theorem Hu (x:BitVec 8):Qs x≤255:=by unfold Qs;have:=x.isLt;omega
theorem Qux {x y:BitVec 8}(h:Qs x=Qs y):x=y:=by apply BitVec.eq_of_toNat_eq;unfold Qs at h;omega
def Pr (n:Int):BitVec 8:=BitVec.ofInt 8 n
abbrev ic (n:Int):List Value:=[.int .i64 n]
abbrev Dn (x:BitVec 64):List Value:=[wv x]
abbrev Jg (x:BitVec 8):List Value:=[bv x]
abbrev k0:W2:=(0#64,0#64)
section
variable {P:Program} {L:Slots} {w:World} {dst:Option Nat} {ty:TypeId} {pos:String} {af:Array Edge} {gu:Option (Nat × Bool)} {x y:Operand} {t u:TypeId} {a b:Int}
theorem Qnj {c:Int}(hx:ev L x=some (.int .i64 a))(hy:ev L y=some (.int .i64 b))(h:Re a b=some c):VV P L ⟨dst,.binOp .rem t x y u,ty,pos,af,gu⟩ w (.int .i64 c):=fun ρ hρ=>by
 unfold Re at h
 split at h
 · cases h
 · rename_i hd;cases h
   simp[execOp,hρ _ _ hx,hρ _ _ hy,go_sem,Op.intDiv,hd]
theorem Tf {yk:IntKind}{n:Nat}(hx:ev L x=some (.int .i64 a))(hy:ev L y=some (.int yk b))(h:Jp b=some n):VV P L ⟨dst,.binOp .shl t x y u,ty,pos,af,gu⟩ w (.int .i64 (Xw a n)):=by
 obtain⟨h1,rfl⟩:=Qi3 h
 exact Qvg hx hy h1
theorem Qin {yk:IntKind}{n:Nat}(hx:ev L x=some (.int .i64 a))(hy:ev L y=some (.int yk b))(h:Jp b=some n):VV P L ⟨dst,.binOp .shr t x y u,ty,pos,af,gu⟩ w (.int .i64 (Rh a n)):=by
 obtain⟨h1,rfl⟩:=Qi3 h
 exact Qnk hx hy h1
theorem Qvh {yk:IntKind}{n:Nat}{c:BitVec 64}(hx:ev L x=some (wv c))(hy:ev L y=some (.int yk b))(h:Jp b=some n):VV P L ⟨dst,.binOp .shl t x y u,ty,pos,af,gu⟩ w (wv (c <<< n)):=by
 obtain⟨h1,rfl⟩:=Qi3 h
 exact Qe8 hx hy h1
theorem Qnl {yk:IntKind}{n:Nat}{c:BitVec 64}(hx:ev L x=some (wv c))(hy:ev L y=some (.int yk b))(h:Jp b=some n):VV P L ⟨dst,.binOp .shr t x y u,ty,pos,af,gu⟩ w (wv (c >>> n)):=by
 obtain⟨h1,rfl⟩:=Qi3 h
 exact Qiq hx hy h1
theorem Xh5 {op:BinOp}(hop:op=.and∨op=.or∨op=.xor∨op=.andNot)(hx:ev L x=some (.int .i64 a))(hy:ev L y=some (.int .i64 b)):VV P L ⟨dst,.binOp op t x y u,ty,pos,af,gu⟩ w (.int .i64 (Ii op a b)):=Qbm hop hx hy
variable {c d:BitVec 64} {p q:BitVec 8}
theorem Quy:un c=un d↔c=d:=⟨Qnb,fun h=>by rw[h]⟩
theorem Quw:Qs p=Qs q↔p=q:=⟨Qux,fun h=>by rw[h]⟩
theorem Nj {p q:Prop}[Decidable p][Decidable q](h:p↔q):Value.bool (decide p)=.bool (decide q):=by simp[h]
theorem Qv1:un c<un d↔c<d:=by unfold un;rw[BitVec.lt_def];omega
theorem Qv0:un c≤un d↔c≤d:=by unfold un;rw[BitVec.le_def];omega
theorem Qna:Qs p<Qs q↔p<q:=by unfold Qs;rw[BitVec.lt_def];omega
theorem Xgz:Qs p≤Qs q↔p≤q:=by unfold Qs;rw[BitVec.le_def];omega
theorem Qe3 (hx:ev L x=some (wv c))(hy:ev L y=some (wv d)):VV P L ⟨dst,.binOp .eql t x y u,ty,pos,af,gu⟩ w (.bool (decide (c=d))):=Kb (Zu hx hy) (Nj Quy)
theorem Qvf (hx:ev L x=some (wv c))(hy:ev L y=some (wv d)):VV P L ⟨dst,.binOp .neq t x y u,ty,pos,af,gu⟩ w (.bool (decide (c≠d))):=Kb (Kg hx hy) (Nj (not_congr Quy))
theorem Qnh (hx:ev L x=some (wv c))(hy:ev L y=some (wv d)):VV P L ⟨dst,.binOp .lss t x y u,ty,pos,af,gu⟩ w (.bool (decide (c<d))):=Kb (Jv hx hy) (Nj Qv1)
theorem Xhl (hx:ev L x=some (wv c))(hy:ev L y=some (wv d)):VV P L ⟨dst,.binOp .leq t x y u,ty,pos,af,gu⟩ w (.bool (decide (c≤d))):=Kb (Tt hx hy) (Nj Qv0)
theorem Qng (hx:ev L x=some (wv c))(hy:ev L y=some (wv d)):VV P L ⟨dst,.binOp .gtr t x y u,ty,pos,af,gu⟩ w (.bool (decide (d<c))):=Kb (Wr hx hy) (Nj Qv1)
theorem Qv8 (hx:ev L x=some (wv c))(hy:ev L y=some (wv d)):VV P L ⟨dst,.binOp .geq t x y u,ty,pos,af,gu⟩ w (.bool (decide (d≤c))):=Kb (Wk hx hy) (Nj Qv0)
theorem Vt (hx:ev L x=some (bv p))(hy:ev L y=some (bv q)):VV P L ⟨dst,.binOp .eql t x y u,ty,pos,af,gu⟩ w (.bool (decide (p=q))):=Kb (Zu hx hy) (Nj Quw)
theorem Xhn (hx:ev L x=some (bv p))(hy:ev L y=some (bv q)):VV P L ⟨dst,.binOp .neq t x y u,ty,pos,af,gu⟩ w (.bool (decide (p≠q))):=Kb (Kg hx hy) (Nj (not_congr Quw))
theorem Qbp (hx:ev L x=some (bv p))(hy:ev L y=some (bv q)):VV P L ⟨dst,.binOp .lss t x y u,ty,pos,af,gu⟩ w (.bool (decide (p<q))):=Kb (Jv hx hy) (Nj Qna)
theorem Xhk (hx:ev L x=some (bv p))(hy:ev L y=some (bv q)):VV P L ⟨dst,.binOp .leq t x y u,ty,pos,af,gu⟩ w (.bool (decide (p≤q))):=Kb (Tt hx hy) (Nj Xgz)
theorem Qv9 (hx:ev L x=some (bv p))(hy:ev L y=some (bv q)):VV P L ⟨dst,.binOp .gtr t x y u,ty,pos,af,gu⟩ w (.bool (decide (q<p))):=Kb (Wr hx hy) (Nj Qna)
theorem Qv7 (hx:ev L x=some (bv p))(hy:ev L y=some (bv q)):VV P L ⟨dst,.binOp .add t x y u,ty,pos,af,gu⟩ w (bv (p+q)):=Kb (Zd hx hy) (by
 have:IntKind.u8.wrap (Qs p+Qs q)=(Qs p+Qs q)%256:=by simp[IntKind.wrap,IntKind.bits,IntKind.signed]
 rw[this];show Value.int .u8 _=Value.int .u8 (Qs (p+q));refine congrArg (Value.int .u8) ?_;unfold Qs;rw[BitVec.toNat_add];omega)
theorem Xhu (hx:ev L x=some (bv p))(hy:ev L y=some (bv q)):VV P L ⟨dst,.binOp .sub t x y u,ty,pos,af,gu⟩ w (bv (p-q)):=Kb (Vx hx hy) (by
 have:IntKind.u8.wrap (Qs p-Qs q)=(Qs p-Qs q)%256:=by simp[IntKind.wrap,IntKind.bits,IntKind.signed]
 rw[this];show Value.int .u8 _=Value.int .u8 (Qs (p-q));refine congrArg (Value.int .u8) ?_;unfold Qs;rw[BitVec.toNat_sub];have:=p.isLt;have:=q.isLt;omega)
theorem Sb {e:BitVec 64}(hx:ev L x=some (wv c))(hy:ev L y=some (wv d))(h:Yc c d=some e):VV P L ⟨dst,.binOp .rem t x y u,ty,pos,af,gu⟩ w (wv e):=by
 unfold Yc at h
 split at h
 · cases h
 · rename_i hd;cases h
   have h0:0<un d:=by
    have:=Qif d
    rcases Int.lt_or_eq_of_le this with h|h
    · exact h
    · exact absurd (Qnb (show un d=un 0#64 from by rw[←h];rfl)) hd
   exact Kb (Xhs hx hy (Qif c) h0) (congrArg (Value.int .u64) (by unfold un;rw[BitVec.toNat_umod];exact(Int.natCast_emod _ _).symm))
theorem Qne {s d:TypeId}(hc:CV P s d .i64)(hx:ev L x=some (bv p)):VV P L ⟨dst,.convert s d x,ty,pos,af,gu⟩ w (.int .i64 (Qs p)):=Rm hc hx (by have:=Hv p;omega) (by have:=Hu p;omega)
theorem Ww {s d:TypeId}(hc:CV P s d .u64)(hx:ev L x=some (.int .i64 a)):VV P L ⟨dst,.convert s d x,ty,pos,af,gu⟩ w (wv (wd a)):=Kb (An hc hx) (by
 rw[IntKind.wrap_u64];show Value.int .u64 _=Value.int .u64 (un (wd a));refine congrArg (Value.int .u64) ?_;unfold un wd;rw[BitVec.toNat_ofInt];omega)
theorem Qik {s d:TypeId}(hc:CV P s d .u64)(hx:ev L x=some (bv p)):VV P L ⟨dst,.convert s d x,ty,pos,af,gu⟩ w (wv (p.setWidth 64)):=Kb (An hc hx) (by
 have:=Hv p;have:=Hu p
 rw[IntKind.wrap_u64,Int.emod_eq_of_lt (by omega) (by omega)];show Value.int .u64 _=Value.int .u64 (un (p.setWidth 64));refine congrArg (Value.int .u64) ?_;unfold Qs un;rw[BitVec.toNat_setWidth,Nat.mod_eq_of_lt (by have:=p.isLt;omega)])
theorem Xh6 {s d:TypeId}(hc:CV P s d .u8)(hx:ev L x=some (wv c)):VV P L ⟨dst,.convert s d x,ty,pos,af,gu⟩ w (bv (c.setWidth 8)):=Kb (Qnd hc hx) (by
 show Value.int .u8 _=Value.int .u8 (Qs (c.setWidth 8));refine congrArg (Value.int .u8) ?_;unfold Qs un;rw[BitVec.toNat_setWidth];omega)
end
section
variable {P:Program} {L:Slots} {w:World} {dst:Option Nat} {ty:TypeId} {pos:String} {af:Array Edge} {gu:Option (Nat × Bool)}
variable {x y:Operand} {t:TypeId} {z g o sz:Nat} {e:TypeId} {v:Value} {k:IntKind} {α:Type} {l:List α} {c:α→List Value} {a:α} {i:Int}
theorem Kq (hu:P.underlying t=some (.slice e))(hx:ev L x=some v)(hr:Rd w z g o sz v (l.map c)):VV P L ⟨dst,.call { callee:=.builtin .len,args := #[x],argTypes := #[t] },ty,pos,af,gu⟩ w (.int .i64 (l.length:Int)):=Qvc hu hx hr (List.length_map ..)
theorem Yq (hu:P.underlying t=some (.slice e))(hs:Vu P e sz)(hx:ev L x=some v)(hr:Rd w z g o sz v (l.map c))(hy:ev L y=some (.int k i))(hg:Xr l i=some a):
 VV P L ⟨dst,.indexAddr t x y,ty,pos,af,gu⟩ w (.pointer (some ⟨g,o+i.toNat*sz,none⟩)):=Qvb hu hs hx hr (List.length_map ..) hy (Bq hg) (Qal hg)
theorem Hl {p q:Nat}{u:Value}(h1:Ku P t)(hx:ev L x=some (.pointer (some ⟨g,p,none⟩)))(hr:Rd w z g o sz v (l.map c))(hg:Xr l i=some a)(hp:p=o+(i.toNat*sz+q))(hc:(c a)[q]? = some u):VV P L ⟨dst,.load t x,ty,pos,af,gu⟩ w u:=
 Xh7 h1 hx hr (Gu (Fe hg)) hp hc
theorem Qe2 {p:Nat}(h1:Ky P t sz)(hx:ev L x=some (.pointer (some ⟨g,p,none⟩)))(hr:Rd w z g o sz v (l.map c))(hg:Xr l i=some a)(hp:p=o+i.toNat*sz):VV P L ⟨dst,.load t x,ty,pos,af,gu⟩ w (.agg (c a).toArray):=
 Xha h1 hx hr (Gu (Fe hg)) hp
theorem Nk {bytes z2 g2 o2:Nat}{u:Value}{m k:List α}(ha:Dt P t e sz bytes)(hx:ev L x=some v)(hy:ev L y=some u)(h:Qg w z g e sz v (l.map c))(hr:Rd w z2 g2 o2 sz u (m.map c))(hb:Vy bytes l m=some k)(hpos:1≤bytes):
 EV P L ⟨dst,.call { callee:=.builtin .append,args := #[x,y],argTypes := #[t,t] },ty,pos,af,gu⟩ w fun v' w'=>∃ z' g',Qg w' z' g' e sz v' (k.map c)∧Ka z g w w'∧Xd (z'=0∨(z'=1∧g'<w'.heap.size))∧Xd ((g'=g∧z=1)∨w.heap.size≤g'∨z'=0):=by
 obtain⟨rfl,hb2⟩:=Qnv hb
 have hle:l.length+m.length≤(l.length+m.length)*bytes:=Nat.le_mul_of_pos_right _ hpos
 refine(Xa5 ha hx hy h hr (by rw[List.length_map,List.length_map];exact hb2) (by rw[List.length_map,List.length_map];omega)).mono ?_
 rintro v' w' ⟨z',g',h1,h2,h3,h4,h5⟩
 exact⟨z',g',by rw[List.map_append];exact h1,h2,⟨h3⟩,⟨h4⟩⟩
theorem Ha {len:Nat}{zs cs:List Value}{parts:Array (Nat × Operand)}{vs:List (Nat × Value)}(l:List α)(c:α→List Value)(hb:Du P t len e sz zs)(hp:Bk L parts.toList=some vs)(hf:Dy (fun i=>some (i*sz,sz)) zs vs=some cs)
 (hw:Ws sz (l.map c)) (hx:cs=(l.map c).flatten) (hl:l.length=len) (hm:Nat.ble len 1000000=true):
 EV P L ⟨dst,.buildSlice t len parts,ty,pos,af,gu⟩ w fun v' w'=>∃ g',w.heap.size≤g'∧Qg w' 1 g' e sz v' (l.map c)∧Gr w w':=Xa7 hb hp hf hw hx (by rw[List.length_map];exact hl) hm
theorem Ws.take {sz n:Nat}{xs:List (List Value)}(h:Ws sz xs):Ws sz (xs.take n):=fun y hy=>h y (List.mem_of_mem_take hy)
theorem Ws.drop {sz n:Nat}{xs:List (List Value)}(h:Ws sz xs):Ws sz (xs.drop n):=fun y hy=>h y (List.mem_of_mem_drop hy)
theorem Qfr {sz:Nat}:∀ (n:Nat) (xs:List (List Value)),Ws sz xs→(xs.drop n).flatten=xs.flatten.drop (n*sz)
 | 0,xs,_=>by simp
 | n+1,[],_=>by simp
 | n+1,x::xs,h=>by
  have hx:=(h x (by simp)).1
  rw[List.drop_succ_cons,Qfr n xs (fun y hy=>h y (List.mem_cons_of_mem _ hy)),List.flatten_cons,List.drop_append]
  have e:(n+1)*sz-x.length=n*sz:=by rw[hx,Nat.add_mul];omega
  have e2:x.drop ((n+1)*sz)=[]:=List.drop_eq_nil_of_le (by rw[hx,Nat.add_mul];omega)
  rw[e,e2,List.nil_append]
theorem Qfs {sz:Nat}:∀ (n:Nat) (xs:List (List Value)),Ws sz xs→(xs.take n).flatten=xs.flatten.take (n*sz)
 | 0,xs,_=>by simp
 | n+1,[],_=>by simp
 | n+1,x::xs,h=>by
  have hx:=(h x (by simp)).1
  rw[List.take_succ_cons,List.flatten_cons,Qfs n xs (fun y hy=>h y (List.mem_cons_of_mem _ hy)),List.flatten_cons,List.take_append]
  have e:(n+1)*sz-x.length=n*sz:=by rw[hx,Nat.add_mul];omega
  have e2:x.take ((n+1)*sz)=x:=List.take_of_length_le (by rw[hx,Nat.add_mul];omega)
  rw[e,e2]
end
end Go.Sx

end
section
set_option linter.unusedVariables false
set_option linter.unusedSimpArgs false
namespace Go.Sx
open Go Go.RowKit
def Zh:List (Nat × Nat)→Nat→Prop
 | [],_=>True
 | (z,g)::r,k=>(z=0∨k≠g)∧Zh r k
def Mz:List (Nat × Nat)→Nat→Prop
 | [],_=>False
 | (z,g)::r,k=>(k=g∧z≠0)∨Mz r k
def Vm (l:List (Nat × Nat))(z g base:Nat):Prop:=z=0∨base≤g∨Mz l g
def Vg:List (Nat × Nat)→List (Nat × Nat)→Nat→Prop
 | [],_,_=>True
 | (z,g)::r,l,base=>Vm l z g base∧Vg r l base
theorem Yo {g:Nat}:∀ {ms:List Nat},Mz (ms.map fun b=>(1,b)) g↔g∈ms
 | []=>by simp[Mz]
 | a::r=>by simp[Mz,Yo]
theorem Qsb:∀ {l:List (Nat × Nat)} {k g:Nat},Zh l k→Mz l g→k≠g
 | [],k,g,_,h=>h.elim
 | (z,b)::r,k,g,hn,h=>by
  rcases h with⟨h1,h2⟩|h
  · subst h1;rcases hn.1 with h0|h0
    · exact absurd h0 h2
    · exact h0
  · exact Qsb hn.2 h
theorem Qkm {l:List (Nat × Nat)}{z g base k:Nat}(h:Vm l z g base)(hk:k<base)(hn:Zh l k):z=0∨k≠g:=by
 rcases h with h|h|h
 · exact .inl h
 · exact .inr (by omega)
 · exact .inr (Qsb hn h)
theorem Qd1 {l:List (Nat × Nat)}{base k:Nat}(hk:k<base)(hn:Zh l k):∀ {m:List (Nat × Nat)},Vg m l base→Zh m k
 | [],_=>trivial
 | (z,g)::r,h=>⟨Qkm h.1 hk hn,Qd1 hk hn h.2⟩
structure Kz (l:List (Nat × Nat))(w w':World):Prop where
 os:w'.os=w.os
 tape:w'.tape=w.tape
 output:w'.output=w.output
 size:w.heap.size≤w'.heap.size
 block:∀ k,k<w.heap.size→Zh l k→w'.heap[k]? = w.heap[k]?
section
variable {l m:List (Nat × Nat)} {w w₁ w₂ w':World} {z g b o sz:Nat} {t e:TypeId} {cs:List Value} {v:Value} {xs:List (List Value)}
theorem Kz.refl (l:List (Nat × Nat))(w:World):Kz l w w:=⟨rfl,rfl,rfl,Nat.le_refl _,fun _ _ _=>rfl⟩
theorem Kz.gr (h:Kz l w w₁)(k:Gr w₁ w₂):Kz l w w₂:=⟨k.os.trans h.os,k.tape.trans h.tape,k.output.trans h.output,Nat.le_trans h.size k.size,fun i hi hn=>(k.block i (Nat.lt_of_lt_of_le hi h.size)).trans (h.block i hi hn)⟩
theorem Kz.md (h:Kz l w w₁)(k:Md b w₁ w₂)(hb:Vm l 1 b w.heap.size:=by simp only[Zh,Vg,Vm,Yo,Mz,or_true,true_or,and_true,List.mem_cons,List.mem_append,Xt,List.not_mem_nil,or_false,false_or,not_or,ne_eq,List.nil_append,List.cons_append,true_and,and_true,false_and,and_false,not_true_eq_false,not_false_eq_true,or_true,true_or]<;>omega):Kz l w w₂:=⟨k.os.trans h.os,k.tape.trans h.tape,k.output.trans h.output,by rw[k.size];exact h.size,fun i hi hn=>(k.block i (by have:=Qkm hb hi hn;omega)).trans (h.block i hi hn)⟩
theorem Kz.ka (h:Kz l w w₁)(k:Ka z g w₁ w₂)(hb:Vm l z g w.heap.size:=by simp only[Zh,Vg,Vm,Yo,Mz,or_true,true_or,and_true,List.mem_cons,List.mem_append,Xt,List.not_mem_nil,or_false,false_or,not_or,ne_eq,List.nil_append,List.cons_append,true_and,and_true,false_and,and_false,not_true_eq_false,not_false_eq_true,or_true,true_or]<;>omega):Kz l w w₂:=⟨k.os.trans h.os,k.tape.trans h.tape,k.output.trans h.output,Nat.le_trans h.size k.size,fun i hi hn=>(k.block i (Nat.lt_of_lt_of_le hi h.size) (Qkm hb hi hn)).trans (h.block i hi hn)⟩
theorem Kz.kz (h:Kz l w w₁)(k:Kz m w₁ w₂)(hb:Vg m l w.heap.size:=by simp only[Zh,Vg,Vm,Yo,Mz,or_true,true_or,and_true,List.mem_cons,List.mem_append,Xt,List.not_mem_nil,or_false,false_or,not_or,ne_eq,List.nil_append,List.cons_append,true_and,and_true,false_and,and_false,not_true_eq_false,not_false_eq_true,or_true,true_or]<;>omega):Kz l w w₂:=⟨k.os.trans h.os,k.tape.trans h.tape,k.output.trans h.output,Nat.le_trans h.size k.size,fun i hi hn=>(k.block i (Nat.lt_of_lt_of_le hi h.size) (Qd1 hi hn hb)).trans (h.block i hi hn)⟩
theorem Kz.kp {ms:List Nat}(h:Kz l w w₁)(k:Kp ms w₁ w₂)(hb:Vg (ms.map fun b=>(1,b)) l w.heap.size):Kz l w w₂:=⟨k.os.trans h.os,k.tape.trans h.tape,k.output.trans h.output,Nat.le_trans h.size k.size,fun i hi hn=>(k.block i (Nat.lt_of_lt_of_le hi h.size) (fun hm=>by
 have h1:=Qd1 hi hn hb
 have key:∀ (ms:List Nat),i∈ms→Zh (ms.map fun b=>(1,b)) i→False:=by
  intro ms
  induction ms with
  | nil=>intro h;cases h
  | cons a r ih=>
   intro h h2
   rcases List.mem_cons.1 h with rfl|h
   · have:=h2.1;omega
   · exact ih h h2.2
 exact key ms hm h1)).trans (h.block i hi hn)⟩
theorem Gr.kz (h:Gr w w₁)(k:Kz m w₁ w₂)(hb:Vg m [] w.heap.size:=by simp only[Zh,Vg,Vm,Yo,Mz,or_true,true_or,and_true,List.mem_cons,List.mem_append,Xt,List.not_mem_nil,or_false,false_or,not_or,ne_eq,List.nil_append,List.cons_append,true_and,and_true,false_and,and_false,not_true_eq_false,not_false_eq_true,or_true,true_or]<;>omega):Gr w w₂:=⟨k.os.trans h.os,k.tape.trans h.tape,k.output.trans h.output,Nat.le_trans h.size k.size,fun i hi=>(k.block i (Nat.lt_of_lt_of_le hi h.size) (Qd1 (l:=[]) hi trivial hb)).trans (h.block i hi)⟩
theorem Kp.kz {ms:List Nat}(h:Kp ms w w₁)(k:Kz m w₁ w₂)(hb:Vg m (ms.map fun b=>(1,b)) w.heap.size:=by simp only[Zh,Vg,Vm,Yo,Mz,or_true,true_or,and_true,List.mem_cons,List.mem_append,Xt,List.not_mem_nil,or_false,false_or,not_or,ne_eq,List.nil_append,List.cons_append,true_and,and_true,false_and,and_false,not_true_eq_false,not_false_eq_true,or_true,true_or]<;>omega):Kp ms w w₂:=⟨k.os.trans h.os,k.tape.trans h.tape,k.output.trans h.output,Nat.le_trans h.size k.size,fun i hi hn=>(k.block i (Nat.lt_of_lt_of_le hi h.size) (Qd1 hi (by
 have key:∀ (ms:List Nat),i∉ms→Zh (ms.map fun b=>(1,b)) i:=by
  intro ms
  induction ms with
  | nil=>intro _;trivial
  | cons a r ih=>intro h;exact⟨.inr (fun e=>h (by rw[e];simp)),ih (fun h2=>h (by simp[h2]))⟩
 exact key ms hn) hb)).trans (h.block i hi hn)⟩
theorem Bx.kz (h:Bx w b t cs)(k:Kz l w w')(hn:Zh l b:=by simp only[Zh,Vg,Vm,Yo,Mz,or_true,true_or,and_true,List.mem_cons,List.mem_append,Xt,List.not_mem_nil,or_false,false_or,not_or,ne_eq,List.nil_append,List.cons_append,true_and,and_true,false_and,and_false,not_true_eq_false,not_false_eq_true,or_true,true_or]<;>omega):Bx w' b t cs:=(k.block b h.lt hn).trans h
theorem Qg.kz (h:Qg w z g e sz v xs)(k:Kz l w w')(hn:z=0∨Zh l g:=by simp only[Zh,Vg,Vm,Yo,Mz,or_true,true_or,and_true,List.mem_cons,List.mem_append,Xt,List.not_mem_nil,or_false,false_or,not_or,ne_eq,List.nil_append,List.cons_append,true_and,and_true,false_and,and_false,not_true_eq_false,not_false_eq_true,or_true,true_or]<;>omega):Qg w' z g e sz v xs:=h.keep (hn.imp id fun hn hl=>k.block g hl hn)
theorem Rd.kz (h:Rd w z g o sz v xs)(k:Kz l w w')(hn:z=0∨Zh l g:=by simp only[Zh,Vg,Vm,Yo,Mz,or_true,true_or,and_true,List.mem_cons,List.mem_append,Xt,List.not_mem_nil,or_false,false_or,not_or,ne_eq,List.nil_append,List.cons_append,true_and,and_true,false_and,and_false,not_true_eq_false,not_false_eq_true,or_true,true_or]<;>omega):Rd w' z g o sz v xs:=h.keep (hn.imp id fun hn hl=>k.block g hl hn) k.size
theorem Df.kz {D:Nat}(h:Df w D)(k:Kz l w w')(hn:Zh l D:=by simp only[Zh,Vg,Vm,Yo,Mz,or_true,true_or,and_true,List.mem_cons,List.mem_append,Xt,List.not_mem_nil,or_false,false_or,not_or,ne_eq,List.nil_append,List.cons_append,true_and,and_true,false_and,and_false,not_true_eq_false,not_false_eq_true,or_true,true_or]<;>omega):Df w' D:=(k.block D h.lt hn).trans h
theorem Rd.oneB (h:Rd w z g o sz v xs):oneB v=true:=by
 rcases h.2 with⟨_,_,a,c,rfl⟩|⟨_,c,rfl,_⟩<;>rfl
end
theorem Qvo {sz:Nat}{α:Type}{c:α→List Value}{l:List α}(h:∀ x∈l,(c x).length=sz∧Zj (c x)=true):Ws sz (l.map c):=fun y hy=>by
 obtain⟨x,hx,rfl⟩:=List.mem_map.1 hy
 exact h x hx
theorem Yx (k:IntKind)(n:Int):oneB (.int k n)=true:=rfl
theorem Yw (b:Bool):oneB (.bool b)=true:=rfl
theorem Yy (b:ByteArray):oneB (.string b)=true:=rfl
theorem Xgc {P:Program}{r:Option Nat}{n:Nat}{Q:Exit→List Deferred→Slots→World→Prop}{D:List Deferred}{L:Slots}{w:World}{x y:Code}{β:Type}(dead:List Nat)(dyn:β→Slots)(J:β→World→Prop)
 (hk:∀ b w1,J b w1→SW P r n y Q D (dyn b++Ph dead L) w1)
 (h:SW P r n x (Ht (fun D1 L1 w1=>D1=D∧∃ b,Py (dyn b++Ph dead L) L1∧J b w1) Q) D L w):SW P r n (.seq x y) Q D L w:=
 Qe (h.mono fun e D1 L1 w1 hh=>by
  cases e with
  | normal=>obtain⟨rfl,b,h1,h2⟩:=hh;exact(hk b w1 h2).forget h1
  | exit id=>exact hh
  | goto l=>exact hh
  | ret=>exact hh
  | panic c=>exact hh
  | outgrown=>exact hh)
section
variable {P:Program} {L:Slots} {w:World} {dst:Option Nat} {ty:TypeId} {pos:String} {af:Array Edge} {gu:Option (Nat × Bool)} {x y:Operand} {t u:TypeId}
theorem Qni {p:Prop}[Decidable p](hx:ev L x=some (.bool (decide p))):VV P L ⟨dst,.unOp .not t x,ty,pos,af,gu⟩ w (.bool (decide (¬ p))):=Kb (Kd hx) (by by_cases h:p<;>simp[h])
def BZ (P:Program)(t:TypeId)(v:Value):Prop:=∀ w,(Instr.build t #[]).run P w=.ok v w
theorem Qe1 {v:Value}(h:BZ P t v):VV P L ⟨dst,.build t #[],ty,pos,af,gu⟩ w v:=fun ρ hρ=>Hs (by simpa using h w)
def Qu8:Value→Bool
 | .pointer (some _)=>true
 | .func (.func _) _ _=>true
 | _=>false
theorem Hy {v:Value}(hx:ev L x=some v)(hs:Qu8 v=true):VV P L ⟨dst,.nilCheck x,ty,pos,af,gu⟩ w v:=fun ρ hρ=>by
 simp only[execOp,hρ _ _ hx]
 unfold Qu8 at hs
 split at hs<;>first|rfl|cases hs
theorem Xhd {a b:Bool}(hu:P.underlying t=some .bool)(hx:ev L x=some (.bool a))(hy:ev L y=some (.bool b)):VV P L ⟨dst,.binOp .eql t x y u,ty,pos,af,gu⟩ w (.bool (a == b)):=fun ρ hρ=>by
 simp[execOp,hρ _ _ hx,hρ _ _ hy,go_sem,run_eql_bool _ _ _ _ hu]
theorem Xho {a b:Bool}(hu:P.underlying t=some .bool)(hx:ev L x=some (.bool a))(hy:ev L y=some (.bool b)):VV P L ⟨dst,.binOp .neq t x y u,ty,pos,af,gu⟩ w (.bool (a != b)):=fun ρ hρ=>by
 simp[execOp,hρ _ _ hx,hρ _ _ hy,go_sem,run_neq_bool _ _ _ _ hu];cases a<;>cases b<;>rfl
theorem Qpb {p:Prop}[Decidable p]{q:Prop}(h:q↔p):Yt q=decide p:=by
 by_cases hp:p
 · rw[Qa1 (h.2 hp)];simp[hp]
 · rw[Qpd (fun hq=>hp (h.1 hq))];simp[hp]
theorem Qnf {α:Type}[DecidableEq α]{cf:α→List Value}{a b:α}{ks:List Ck}(h:Rq P t ks)(hx:ev L x=some (.agg (cf a).toArray))(hy:ev L y=some (.agg (cf b).toArray))(hc:kn ks (cf a)=true)(hd:kn ks (cf b)=true)(inj:cf a=cf b→a=b):
 VV P L ⟨dst,.binOp .eql t x y u,ty,pos,af,gu⟩ w (.bool (decide (a=b))):=Kb (Xhc h hx hy hc hd) (by rw[Qpb ⟨inj,fun h=>by rw[h]⟩])
theorem Xhp {α:Type}[DecidableEq α]{cf:α→List Value}{a b:α}{ks:List Ck}(h:Rq P t ks)(hx:ev L x=some (.agg (cf a).toArray))(hy:ev L y=some (.agg (cf b).toArray))(hc:kn ks (cf a)=true)(hd:kn ks (cf b)=true)(inj:cf a=cf b→a=b):
 VV P L ⟨dst,.binOp .neq t x y u,ty,pos,af,gu⟩ w (.bool (decide (a≠b))):=Kb (Xhm h hx hy hc hd) (by rw[Qpb (p:=a=b) ⟨inj,fun h=>by rw[h]⟩];by_cases h:a=b<;>simp[h])
theorem Yd {a b:Int}{k:IntKind}(h:some (Value.int k a)=some (.int k b)):a=b:=by simpa using h
theorem Ui {a b:BitVec 64}(h:some (wv a)=some (wv b)):a=b:=Qnb (Yd h)
theorem Qom {a b:BitVec 8}(h:some (bv a)=some (bv b)):a=b:=Qux (Yd h)
theorem Qx9 {a b:Bool}(h:some (Value.bool a)=some (.bool b)):a=b:=by simpa using h
theorem Zp {b' off:Nat}{tb:TypeId}{v:Value}{cs cs':List Value}(hs:Vu P t 1)(hx:ev L x=some (.pointer (some ⟨b',off,none⟩)))(hy:ev L y=some v)(h1:oneB v=true)(hb:Bx w b' tb cs)(hl:Nat.blt off cs.length=true)(he:cs.set off v=cs'):
 EV P L ⟨dst,.store t x y,ty,pos,af,gu⟩ w fun _ w'=>Bx w' b' tb cs'∧Md b' w w':=by
 subst he;exact Qct hs hx hy h1 hb (by simpa using hl)
theorem Qab {b' off m:Nat}{tb:TypeId}{v:Value}{cs vs cs':List Value}(hs:Vu P t m)(hx:ev L x=some (.pointer (some ⟨b',off,none⟩)))(hy:ev L y=some v)(hc:v.cells=vs.toArray)(hm:vs.length=m)(h1:Zj vs=true)(hb:Bx w b' tb cs)(hl:Nat.ble (off+m) cs.length=true)(he:Vd cs off vs=cs'):
 EV P L ⟨dst,.store t x y,ty,pos,af,gu⟩ w fun _ w'=>Bx w' b' tb cs'∧Md b' w w':=by
 subst he;exact Qfg hs hx hy hc hm h1 hb hl
end
section
variable {P:Program} {L:Slots} {w:World} {dst:Option Nat} {ty:TypeId} {pos:String} {af:Array Edge} {gu:Option (Nat × Bool)} {x y:Operand} {t e:TypeId} {z g sz:Nat} {v:Value}
theorem Xfx (cs:List Value)(off:Nat)(vs:List Value)(h:off+vs.length≤cs.length):(Vd cs off vs).length=cs.length:=by simp[Vd];omega
theorem Xgf (cs:List Value)(off n:Nat)(vs:List Value)(h:off+vs.length≤n)(hn:n≤cs.length):(Vd cs off vs).take n=Vd (cs.take n) off vs:=by
 have e1:(cs.take off).length=off:=by simp;omega
 unfold Vd
 rw[List.take_append,List.take_append,List.length_append,e1,List.take_of_length_le (l:=cs.take off) (by omega),List.take_of_length_le (l:=vs) (by omega),List.take_take,Nat.min_eq_left (by omega),List.drop_take]
theorem Qr8:∀ (xs:List (List Value)) (i q:Nat) (c vs:List Value),Ws sz xs→xs[i]? = some c→q+vs.length≤sz→(xs.set i (Vd c q vs)).flatten=Vd xs.flatten (i*sz+q) vs
 | [],i,q,c,vs,_,hi,_=>by simp at hi
 | a::xs,0,q,c,vs,h,hi,hq=>by
  simp at hi;subst hi
  have ha:=(h a (by simp)).1
  simp only[List.set_cons_zero,List.flatten_cons,Nat.zero_mul,Nat.zero_add,Vd]
  rw[List.take_append_of_le_length (by omega),List.drop_append_of_le_length (by omega)]
  simp
 | a::xs,i+1,q,c,vs,h,hi,hq=>by
  simp at hi
  have ha:=(h a (by simp)).1
  have ih:=Qr8 xs i q c vs (fun y hy=>h y (List.mem_cons_of_mem _ hy)) hi hq
  rw[List.set_cons_succ,List.flatten_cons,ih,List.flatten_cons];simp only[Vd]
  have e1:(i+1)*sz+q=a.length+(i*sz+q):=by rw[ha,Nat.add_mul];omega
  rw[e1,List.take_append,List.take_of_length_le (l:=a) (by omega),show a.length+(i*sz+q)-a.length=i*sz+q from by omega,List.drop_append,@List.drop_eq_nil_of_le _ a _ (by omega),show a.length+(i*sz+q)+vs.length-a.length=i*sz+q+vs.length from by omega]
  simp
theorem Pj {α:Type}{l:List α}{c:α→List Value}{a a':α}{i:Int}{p q m:Nat}{u:Value}{vs:List Value}(hs:Vu P t m)(hx:ev L x=some (.pointer (some ⟨g,p,none⟩)))(hy:ev L y=some u)(hc:u.cells=vs.toArray)(hm:vs.length=m)(h1:Zj vs=true)
 (h:Qg w z g e sz v (l.map c)) (hg:Xr l i=some a) (hp:p=i.toNat*sz+q) (hq:Nat.ble (q+m) sz=true) (he:Vd (c a) q vs=c a') (hw:(c a').length=sz∧Zj (c a')=true):
 EV P L ⟨dst,.store t x y,ty,pos,af,gu⟩ w fun _ w'=>Qg w' z g e sz v ((l.set i.toNat a').map c)∧Md g w w':=by
 have hq':=Nat.le_of_ble_eq_true hq
 have hi:=Fe hg
 have hxi:(l.map c)[i.toNat]? = some (c a):=Gu hi
 have hil:=(List.getElem?_eq_some_iff.1 hxi).1
 rcases h.2 with⟨_,_,h0⟩|⟨hz,cap,cur,hv,hb,hn,hcap,hsz,htk⟩
 · rw[h0] at hxi;simp at hxi
 · have hbx:Bx w g e cur.toList:=by unfold Bx;simpa using hb
   have hfl:=h.1.flat
   have hle:(l.map c).length*sz≤cur.toList.length:=by rw[show cur.toList.length=cap*sz from hsz];exact Nat.mul_le_mul_right _ hn
   have hin:i.toNat*sz+sz≤(l.map c).length*sz:=by rw[←Nat.succ_mul];exact Nat.mul_le_mul_right _ hil
   have hbd:i.toNat*sz+q+vs.length≤cur.toList.length:=by omega
   refine(Qfg (off:=p) hs hx hy hc hm h1 hbx (by rw[Nat.ble_eq_true_of_le];omega)).mono ?_
   rintro _ w' ⟨h2,h3⟩
   have hset:(l.set i.toNat a').map c=(l.map c).set i.toNat (Vd (c a) q vs):=by rw[List.map_set,he]
   refine⟨⟨?_,.inr ⟨hz,cap,(Vd cur.toList p vs).toArray,?_,h2,?_,hcap,?_,?_⟩⟩,h3⟩
   · rw[hset];intro y hy
     rcases List.mem_or_eq_of_mem_set hy with hy|hy
     · exact h.1 y hy
     · subst hy;rw[he];exact hw
   · rw[hv];simp
   · simpa using hn
   · rw[List.size_toArray,hp,Xfx _ _ _ (by omega),Array.length_toList];exact hsz
   · rw[hset,Qr8 _ _ _ _ _ h.1 hxi (by omega),←htk,hp,List.length_set]
     exact Xgf _ _ _ _ (by omega) hle
theorem Qs9 (z:List Value)(h:0<z.length):∀ n,((List.range (n*z.length)).map fun i=>z.toArray[i%z.toArray.size]!)=(List.replicate n z).flatten
 | 0=>by simp
 | n+1=>by
  rw[Nat.add_mul,Nat.one_mul,List.range_add,List.map_append,Qs9 z h n,List.map_map,List.replicate_succ',List.flatten_append]
  congr 1
  apply List.ext_getElem (by simp)
  intro i h1 h2
  have hi:i<z.length:=by simpa using h1
  have e1:(n*z.length+i)%z.length=i:=by rw[Nat.mul_comm,Nat.mul_add_mod,Nat.mod_eq_of_lt hi]
  simp[e1,hi]
theorem Qqk {bytes:Nat}{zv:Value}{α:Type}{c:α→List Value}{a:α}{n:Int}{l:List α}(ha:Dt P t e sz bytes)(hz:ZV P e zv)(hc:zv.cells=(c a).toArray)(hs:(c a).length=sz∧Zj (c a)=true)(hx:ev L x=some (.int .i64 n))(hl:mkL bytes n a=some l)(hpos:1≤bytes):
 EV P L ⟨dst,.makeSlice t x x,ty,pos,af,gu⟩ w fun v' w'=>∃ g',w.heap.size≤g'∧Qg w' 1 g' e sz v' (l.map c)∧Gr w w':=fun ρ hρ=>by
 obtain⟨rfl,h0,hb⟩:=Xcf hl
 obtain⟨i,zv',hi,hzv,hsz,hby,hzs⟩:=ha.info
 have hzz:zv'=zv:=by
  have h1:=hz w
  simp[zeroValue,typeInfo,hi,hzv] at h1
  exact h1
 subst hzz hsz hby
 have hle:n≤n*i.bytes:=by have:=Int.mul_le_mul_of_nonneg_left (show(1:Int)≤i.bytes by omega) h0;omega
 have hbc:(i.bytes:Int)*n=n*i.bytes:=Int.mul_comm _ _
 have hrun:=run_make (P:=P) w t e i zv' ha.und hi hzv .i64 .i64 n n h0 (Int.le_refl _) (by omega) (by omega)
 have hmade:(madeCells zv'.cells (n.toNat*i.size)).toList=(List.replicate n.toNat (c a)).flatten:=by
  rw[hc];unfold madeCells
  rw[Array.toList_map,Array.toList_range,←hs.1]
  exact Qs9 (c a) (by rw[hs.1];exact ha.pos) n.toNat
 have hws:Ws i.size ((List.replicate n.toNat a).map c):=Qvo (fun y hy=>by rw[List.eq_of_mem_replicate hy];exact hs)
 refine .val _ _ (Hs ?_) ⟨w.heap.size,Nat.le_refl _,⟨hws,.inr ⟨rfl,n.toNat,madeCells zv'.cells (n.toNat*i.size),by rw[List.length_map,List.length_replicate],heap_alloc_new w _,by rw[List.length_map,List.length_replicate];exact Nat.le_refl _,by simp only[maxLen];omega,size_madeCells _ _,?_⟩⟩,(Below.refl _ _).alloc (Nat.le_refl _) _⟩
 · rw[hρ _ _ hx];exact hrun
 · rw[List.length_map,List.length_replicate,List.map_replicate,←hmade,List.take_of_length_le (by rw[Array.length_toList,size_madeCells];exact Nat.le_refl _)]
def Me (L:Slots)(o:Option Operand)(d v:Int):Prop:=match o with
 | none=>v=d
 | some x=>∃ k,ev L x=some (.int k v)
theorem Qtt {a:Option Addr}{len cap:Nat}{lo hi:Int}{ol oh:Option Operand}{ρ:Operand→Value}(hρ:Gb L ρ)(hu:P.underlying t=some (.slice e))(hs:Vu P e sz)(h1:Me L ol 0 lo)(h2:Me L oh (len:Int) hi)(h0:0≤lo)(hlh:lo≤hi)(hh:hi≤len)(hcap:len≤cap):
 (Instr.sliceAt t (.slice a len cap) (ol.map ρ) (oh.map ρ) none).run P w=.ok (sliced a lo.toNat hi.toNat cap sz) w:=by
 have he:P.elem t=e:=by simp[Program.elem,hu]
 have hu':P.underlying t=some (.slice (P.elem t)):=by rw[he];exact hu
 rw[run_sliceAt_slice _ _ _ _ _ _ hu']
 cases ol with
 | none=>
  simp only[Me] at h1;subst h1
  cases oh with
  | none=>simp only[Me] at h2;subst h2;rw[Option.map_none,run_slice_all _ _ _ _ _ hu',he,hs w];simp[Result.andThen]
  | some q=>obtain⟨k,hq⟩:=h2;rw[Option.map_none,Option.map_some,hρ _ _ hq,run_slice_h _ _ _ _ _ hu' _ _ (by omega) (by omega),he,hs w];simp[Result.andThen]
 | some p=>
  obtain⟨k1,hp⟩:=h1
  cases oh with
  | none=>simp only[Me] at h2;subst h2;rw[Option.map_none,Option.map_some,hρ _ _ hp,run_slice_l _ _ _ _ _ hu' _ _ h0 (by omega),he,hs w];simp[Result.andThen]
  | some q=>obtain⟨k,hq⟩:=h2;rw[Option.map_some,Option.map_some,hρ _ _ hp,hρ _ _ hq,run_slice_lh _ _ _ _ _ hu' _ _ _ _ h0 hlh (by omega),he,hs w];simp[Result.andThen]
theorem Xht {α:Type}{c:α→List Value}{l m:List α}{lo hi:Int}{ol oh:Option Operand}{o:Nat}(hu:P.underlying t=some (.slice e))(hs:Vu P e sz)(hx:ev L x=some v)(hr:Rd w z g o sz v (l.map c))(h1:Me L ol 0 lo)(h2:Me L oh (l.length:Int) hi)(hl:La l lo hi=some m):
 ∃ v' o',(∀ w1,VV P L ⟨dst,.slice t x ol oh none,ty,pos,af,gu⟩ w1 v')∧Rd w z g o' sz v' (m.map c):=by
 obtain⟨rfl,h3,h4,h5⟩:=Qu2 hl
 rcases hr.2 with⟨hz,hnil,a,cap,rfl⟩|⟨hz,cap,rfl,⟨hg,hcap⟩,hcell⟩
 · have hl0:l=[]:=by simpa using hnil
   subst hl0
   simp only[List.length_nil] at h2 h5
   have e1:lo=0:=by omega
   have e2:hi=0:=by omega
   subst e1 e2
   refine⟨_,0,fun w1 ρ hρ=>Hs (by rw[hρ _ _ hx];exact Qtt hρ hu hs h1 h2 (by omega) (by omega) (by omega) (Nat.zero_le _)),by simpa using hr.1,.inl ⟨hz,by simp,?_⟩⟩
   exact⟨_,_,rfl⟩
 · rw[List.length_map] at hcap hx
   have hlen:((l.map c).take hi.toNat).length=hi.toNat:=by rw[List.length_take,List.length_map];omega
   have hm:(((l.take hi.toNat).drop lo.toNat).map c)=((l.map c).take hi.toNat).drop lo.toNat:=by rw[List.map_drop,List.map_take]
   have hml:(((l.take hi.toNat).drop lo.toNat).map c).length=hi.toNat-lo.toNat:=by rw[hm,List.length_drop,hlen]
   refine⟨_,if cap=lo.toNat then o else o+lo.toNat*sz,fun w1 ρ hρ=>Hs (by rw[hρ _ _ hx];exact Qtt hρ hu hs h1 h2 h3 h4 h5 hcap),by rw[hm];exact hr.1.take.drop,.inr ⟨hz,cap-lo.toNat,?_,⟨hg,by rw[hml];omega⟩,fun j u hj=>?_⟩⟩
   · simp only[sliced,hml]
     by_cases e:cap=lo.toNat
     · rw[if_pos e,if_pos e]
     · rw[if_neg e,if_neg e];simp[Addr.add_lit]
   · rw[hm,Qfr _ _ hr.1.take,Qfs _ _ hr.1,List.getElem?_drop] at hj
     have hj2:(l.map c).flatten[lo.toNat*sz+j]? = some u:=by
      rw[List.getElem?_take] at hj
      split at hj
      · exact hj
      · cases hj
     by_cases e:cap=lo.toNat
     · exfalso
       have e2:hi.toNat=lo.toNat:=by omega
       rw[List.getElem?_take,e2] at hj
       split at hj
       · omega
       · cases hj
     · rw[if_neg e,Nat.add_assoc];exact hcell _ _ hj2
end
end Go.Sx
namespace Go.Sx
open Go
section
variable {P:Program} {n:Nat} {ops:Array Oper} {Q:Slots→World→Prop} {rest:List (Nat × Nat)} {i:Nat} {dst:Option Nat} {op:Op} {ty:TypeId} {pos:String} {af:Array Edge} {gu:Option (Nat × Bool)} {L:Slots} {w w₀:World} {ms:List Nat} {kp:Nat→Nat→Bool} {B:Value→Nat→Prop}
end
end Go.Sx

end
section
set_option linter.unusedVariables false
set_option linter.unusedSimpArgs false
namespace Go.Sx
open Go Go.RowKit
def Kj (x:BitVec 64)(i:Nat):BitVec 8:=(x >>> (56-8*i)).setWidth 8
def Ze (p:W2):List (BitVec 8):=[Kj p.1 0,Kj p.1 1,Kj p.1 2,Kj p.1 3,Kj p.1 4,Kj p.1 5,Kj p.1 6,Kj p.1 7,Kj p.2 0,Kj p.2 1,Kj p.2 2,Kj p.2 3,Kj p.2 4,Kj p.2 5,Kj p.2 6,Kj p.2 7]
theorem Vq (p:W2):(Ze p).length=16:=rfl
theorem Xgy (x:BitVec 64)(i:Nat):Qs (Kj x i)=bt x i:=by
 unfold Qs Kj bt un;rw[BitVec.toNat_setWidth];omega
theorem Fj (p:W2):kb p=((Ze p).map Jg).flatten:=by
 simp only[kb,Ze,List.map_cons,List.map_nil,List.flatten_cons,List.flatten_nil,List.cons_append,List.nil_append,bv,Xgy]
def Ld (b0 b1 b2 b3 b4 b5 b6 b7:BitVec 8):BitVec 64:=b0++b1++b2++b3++b4++b5++b6++b7
theorem Qoj (b0 b1 b2 b3 b4 b5 b6 b7:BitVec 8):Kj (Ld b0 b1 b2 b3 b4 b5 b6 b7) 0=b0∧Kj (Ld b0 b1 b2 b3 b4 b5 b6 b7) 1=b1∧Kj (Ld b0 b1 b2 b3 b4 b5 b6 b7) 2=b2∧Kj (Ld b0 b1 b2 b3 b4 b5 b6 b7) 3=b3∧Kj (Ld b0 b1 b2 b3 b4 b5 b6 b7) 4=b4∧Kj (Ld b0 b1 b2 b3 b4 b5 b6 b7) 5=b5∧Kj (Ld b0 b1 b2 b3 b4 b5 b6 b7) 6=b6∧Kj (Ld b0 b1 b2 b3 b4 b5 b6 b7) 7=b7:=by
 have key:∀ (x y:BitVec 8),(∀ i,i<8→x.getLsbD i=y.getLsbD i)→x=y:=fun x y h=>BitVec.eq_of_getLsbD_eq (fun i hi=>h i hi)
 refine⟨?_,?_,?_,?_,?_,?_,?_,?_⟩ <;>
 · apply key
   intro i hi
   simp only[Kj,Ld,BitVec.getLsbD_setWidth,BitVec.getLsbD_ushiftRight,BitVec.getLsbD_append,hi,decide_true,Bool.true_and]
   repeat' split
   all_goals first|omega|(congr 1;omega)
def Hr:List (BitVec 8)→W2
 | b0::b1::b2::b3::b4::b5::b6::b7::c0::c1::c2::c3::c4::c5::c6::c7::_=>(Ld b0 b1 b2 b3 b4 b5 b6 b7,Ld c0 c1 c2 c3 c4 c5 c6 c7)
 | _=>k0
theorem Qd2 {l:List (BitVec 8)}(h:16≤l.length):Ze (Hr l)=l.take 16:=by
 match l,h with
 | b0::b1::b2::b3::b4::b5::b6::b7::c0::c1::c2::c3::c4::c5::c6::c7::r,_=>
  obtain⟨h0,h1,h2,h3,h4,h5,h6,h7⟩:=Qoj b0 b1 b2 b3 b4 b5 b6 b7
  obtain⟨g0,g1,g2,g3,g4,g5,g6,g7⟩:=Qoj c0 c1 c2 c3 c4 c5 c6 c7
  simp only[Hr,Ze,h0,h1,h2,h3,h4,h5,h6,h7,g0,g1,g2,g3,g4,g5,g6,g7]
  rfl
theorem Xbb {p q:W2}(h:Ze p=Ze q):p=q:=Uz (by rw[Fj,Fj,h])
theorem Xdd (p:W2)(r:List (BitVec 8)):Hr (Ze p++r)=p:=Xbb (by rw[Qd2 (by simp[Ze])];rfl)
def Qao (p:W2)(i:Int)(b:BitVec 8):Option W2:=if 0≤i∧i<16 then some (Hr ((Ze p).set i.toNat b)) else none
theorem Xbl {p q:W2}{i:Int}{b:BitVec 8}(h:Qao p i b=some q):(0≤i∧i<16)∧Ze q=(Ze p).set i.toNat b:=by
 unfold Qao at h;split at h
 · refine⟨‹_›,?_⟩
   cases h
   rw[Qd2 (by simp[Ze]),List.take_of_length_le (by simp[Ze])]
 · cases h
section
variable {P:Program} {L:Slots} {w:World} {dst:Option Nat} {ty:TypeId} {pos:String} {af:Array Edge} {gu:Option (Nat × Bool)} {x y:Operand} {t e:TypeId} {z g o sz:Nat} {v:Value}
theorem Qm8 {b:Nat}{cs:List Value}{p:W2}(hb:Bx w b t cs)(h:(cs.drop o).take 16=kb p):Rd w 1 b o 1 (.slice (some ⟨b,o,none⟩) 16 16) ((Ze p).map Jg):=
 Xel hb (Pb _ (fun _=>rfl) (fun _=>rfl)) rfl (by rw[←Fj];exact h)
theorem Qe4 {b' off:Nat}{k:IntKind}{i:Int}{p:W2}{c:BitVec 8}(hu:P.underlying t=some (.array 16 e))(hs:Vu P e 1)(hx:ev L x=some (.pointer (some ⟨b',off,none⟩)))(hy:ev L y=some (.int k i))(hg:Xr (Ze p) i=some c):VV P L ⟨dst,.indexAddr t x y,ty,pos,af,gu⟩ w (.pointer (some ⟨b',off+i.toNat*1,none⟩)):=
 Ao hu hs hx hy (Bq hg) (by have:=Qal hg;rw[Vq] at this;omega)
theorem Qil {b off q:Nat}{tb:TypeId}{cs:List Value}{p:W2}{i:Int}{c:BitVec 8}(h1:Ku P t)(hx:ev L x=some (.pointer (some ⟨b,q,none⟩)))(hb:Bx w b tb cs)(h:(cs.drop off).take 16=kb p)(hg:Xr (Ze p) i=some c)(hq:q=off+i.toNat):VV P L ⟨dst,.load t x,ty,pos,af,gu⟩ w (bv c):=by
 refine Qi h1 hx hb ?_
 have hi:=Fe hg
 have Jc:i.toNat<16:=by have:=Qal hg;have:=Bq hg;rw[Vq] at *;omega
 have e1:(kb p)[i.toNat]? = some (bv c):=by
  have hw:Ws 1 ((Ze p).map Jg):=Pb _ (fun _=>rfl) (fun _=>rfl)
  have:=hw.at (i.toNat) 0 (Jg c) (Gu hi) (by omega)
  rw[Fj]
  simpa using this
 rw[←h,List.getElem?_take,if_pos Jc,List.getElem?_drop] at e1
 rw[hq];exact e1
theorem Xfw {cs:List Value}{off:Nat}{p q:W2}{i:Nat}{c:BitVec 8}(h:(cs.drop off).take 16=kb p)(hi:i<16)(hq:Ze q=(Ze p).set i c)(hl:off+16≤cs.length):cs.set (off+i) (bv c)=Vd cs off (kb q):=by
 have hkq:kb q=(kb p).set i (bv c):=by
  rw[Fj,Fj,hq]
  have e1:∀ (l:List (BitVec 8)) (i:Nat),((l.set i c).map Jg).flatten=((l.map Jg).flatten).set i (bv c):=by
   intro l
   induction l with
   | nil=>intro i;simp
   | cons a l ih=>
    intro i
    cases i with
    | zero=>simp
    | succ i=>rw[List.set_cons_succ,List.map_cons,List.flatten_cons,ih,List.map_cons,List.flatten_cons];rfl
  exact e1 _ _
 have hkl:(kb q).length=16:=rfl
 apply List.ext_getElem?
 intro j
 rw[List.getElem?_set]
 unfold Vd
 rw[hkl]
 by_cases h1:j<off
 · rw[if_neg (by omega),List.append_assoc,List.getElem?_append_left (by simp;omega),List.getElem?_take_of_lt h1]
 · by_cases h2:j<off+16
   · rw[List.append_assoc,List.getElem?_append_right (by simp;omega),List.getElem?_append_left (by simp[hkl];omega)]
     have e2:j-(cs.take off).length=j-off:=by simp;omega
     rw[e2,hkq,List.getElem?_set,←h]
     by_cases h3:i=j-off
     · rw[if_pos (by omega),if_pos h3]
       have:i<((cs.drop off).take 16).length:=by simp;omega
       rw[if_pos (by omega),if_pos this]
     · rw[if_neg (by omega),if_neg h3,List.getElem?_take_of_lt (by omega),List.getElem?_drop]
       congr 1;omega
   · rw[if_neg (by omega),List.append_assoc,List.getElem?_append_right (by simp;omega),List.getElem?_append_right (by simp[hkl];omega),List.getElem?_drop]
     congr 1;simp[hkl];omega
theorem Xae {b off qq:Nat}{tb:TypeId}{cs cs':List Value}{p q:W2}{i:Int}{c:BitVec 8}(hs:Vu P t 1)(hx:ev L x=some (.pointer (some ⟨b,qq,none⟩)))(hy:ev L y=some (bv c))(hb:Bx w b tb cs)(h:(cs.drop off).take 16=kb p)(hk:Qao p i c=some q)(hq:qq=off+i.toNat*1)(hl:Nat.ble (off+16) cs.length=true)(he:Vd cs off (kb q)=cs'):
 EV P L ⟨dst,.store t x y,ty,pos,af,gu⟩ w fun _ w'=>Bx w' b tb cs'∧Md b w w':=by
 obtain⟨hi,hkq⟩:=Xbl hk
 have hl':=Nat.le_of_ble_eq_true hl
 refine Zp hs hx hy rfl hb (by simp;omega) ?_
 rw[←he,←Xfw h (by omega) hkq hl']
 congr 1;omega
end
def Gj {α:Type}(d s:List α):List α:=s.take d.length++d.drop s.length
def Ru {α:Type}(d s:List α):Int:=((min s.length d.length:Nat):Int)
section
variable {P:Program} {L:Slots} {w:World} {dst:Option Nat} {ty:TypeId} {pos:String} {af:Array Edge} {gu:Option (Nat × Bool)} {x y:Operand} {t e:TypeId} {z g:Nat} {v:Value}
end
end Go.Sx

end
section
set_option linter.unusedVariables false
set_option linter.unusedSimpArgs false
namespace Go.Sx
open Go Go.RowKit
def Js {α σ R:Type}(F:α→(σ→Option R)→σ→Option R)(d:σ→Option R)(l:List α):σ→Option R:=l.foldr F d
theorem Xb8 {α σ R:Type}(F:α→(σ→Option R)→σ→Option R)(d:σ→Option R):Js F d []=d:=rfl
theorem Fi {α σ R:Type}(F:α→(σ→Option R)→σ→Option R)(d:σ→Option R)(a:α)(l:List α):Js F d (a::l)=F a (Js F d l):=rfl
theorem Br {α σ R:Type}{F:α→(σ→Option R)→σ→Option R}{d:σ→Option R}{l:List α}{k:Nat}{s:σ}{r:R}{a:α}(h:Js F d (l.drop k) s=some r)(ha:l[k]? = some a):F a (Js F d (l.drop (k+1))) s=some r:=by
 obtain⟨hk,rfl⟩:=List.getElem?_eq_some_iff.1 ha
 rw[List.drop_eq_getElem_cons hk,Fi] at h;exact h
theorem Bs {α β σ R:Type}{F:α→(σ→Option R)→σ→Option R}{d:σ→Option R}{l:List α}{c:α→β}{s:σ}{r:R}(h:Js F d (l.drop (l.map c).length) s=some r):d s=some r:=by
 rw[List.length_map,List.drop_length] at h;exact h
theorem Qg.z1 {w:World}{z g sz:Nat}{e:TypeId}{v:Value}{α:Type}{l:List α}{c:α→List Value}{i:Int}{a:α}(h:Qg w z g e sz v (l.map c))(hg:Xr l i=some a):z=1:=by
 rcases h.2 with⟨_,_,h0⟩|⟨h1,_⟩
 · have:l=[]:=by simpa using h0
   subst this;have:=Qal hg;have:=Bq hg;simp at *;omega
 · exact h1
theorem Ta {l:List (Nat × Nat)}{ms:List Nat}{w w':World}(h:Kp ms w w')(hn:∀ k,Zh l k→k∉ms):Kz l w w':=⟨h.os,h.tape,h.output,h.size,fun k hk hl=>h.block k hk (hn k hl)⟩
theorem Lo {l:List (Nat × Nat)}{ms:List Nat}{w w':World}(h:Kz l w w')(hn:∀ k,k∉ms→Zh l k):Kp ms w w':=⟨h.os,h.tape,h.output,h.size,fun k hk hl=>h.block k hk (hn k hl)⟩
theorem Qg.hs {w w':World}{z g sz:Nat}{e:TypeId}{v:Value}{xs:List (List Value)}{ms:List Nat}(h:Qg w z g e sz v xs)(hs:∀ b∈ms,w'.heap[b]? = w.heap[b]?)(hm:z≠0→g∈ms):Qg w' z g e sz v xs:=
 h.keep (by by_cases hz:z=0;exact .inl hz;exact .inr fun _=>hs g (hm hz))
theorem Rd.hs {w w':World}{z g o sz:Nat}{v:Value}{xs:List (List Value)}{ms:List Nat}(h:Rd w z g o sz v xs)(he:Ma w w')(hs:∀ b∈ms,w'.heap[b]? = w.heap[b]?)(hm:z≠0→g∈ms):Rd w' z g o sz v xs:=
 h.keep (by by_cases hz:z=0;exact .inl hz;exact .inr fun _=>hs g (hm hz)) he.size
theorem Sa {α:Type}(p:α→Nat→Prop)(FP:α→List Nat)(F:α→World→Prop)(h1:∀ a W,F a W→∀ b∈FP a,b<W.heap.size)
 (h2:∀ a W W',F a W→Ma W W'→(∀ b∈FP a,W'.heap[b]? = W.heap[b]?)→F a W'):Px fun k fp W=>∃ a,p a k∧fp=FP a∧F a W:=
 ⟨fun⟨a,_,h,hF⟩ b hb=>h1 a _ hF b (h ▸ hb),fun⟨a,hp,h,hF⟩ he hs=>⟨a,hp,h,h2 a _ _ hF he (h ▸ hs)⟩⟩
theorem Qu5 {J:Nat→List Nat→World→Prop}(p:Prop)(h:Px J):Px fun i fp W=>p∧J i fp W:=⟨fun h0 b hb=>h.lt h0.2 b hb,fun h0 he hs=>⟨h0.1,h.keep h0.2 he hs⟩⟩
def yl {α:Type}(x:α)(m:Option (List α)):Option (List α):=m.map (x :: ·)
theorem Aq {α:Type}{x:α}{m:Option (List α)}{r:List α}(h:yl x m=some r):∃ t,m=some t∧r=x::t:=by
 cases m with
 | none=>cases h
 | some t=>exact⟨t,rfl,(Option.some.inj h).symm⟩
def Dr {α:Type}(xs:List α)(k:Nat)(rr:List α):Prop:=k≤xs.length∧xs.drop k=rr
theorem Qcm {α:Type}(xs:List α):Dr xs 0 xs:=⟨Nat.zero_le _,rfl⟩
theorem Dr.at {α:Type}{xs rr t:List α}{k:Nat}{x:α}(h:Dr xs k rr)(e:rr=x::t):xs[k]? = some x:=by
 have h1:=h.2;rw[e] at h1
 have:(xs.drop k)[0]? = some x:=by rw[h1];rfl
 rwa[List.getElem?_drop,Nat.add_zero] at this
theorem Dr.next {α:Type}{xs rr t:List α}{k:Nat}{x:α}(h:Dr xs k rr)(e:rr=x::t):Dr xs (k+1) t:=by
 have h0:=h.at e
 have hk:=(List.getElem?_eq_some_iff.1 h0).1
 refine⟨hk,?_⟩
 have h1:=h.2;rw[e,List.drop_eq_getElem_cons hk] at h1
 exact(List.cons.inj h1).2
theorem Dr.last {α β:Type}{xs rr:List α}{k:Nat}{c:α→β}(h:Dr xs k rr)(e:rr=[]):k=(xs.map c).length:=by
 have h1:=h.2;rw[e,List.drop_eq_nil_iff] at h1
 have:=h.1;rw[List.length_map];omega
theorem Xco {f f':List Nat}{s z b:Nat}(hF:∀ c∈f',c∈f∨s≤c)(h:z=0∨b∉f)(Jc:z=0∨b<s):z=0∨b∉f':=by
 rcases h with h|h
 · exact .inl h
 · rcases Jc with h1|h1
   · exact .inl h1
   · exact .inr (Ke hF h h1)
theorem Px.ka {J:Nat→List Nat→World→Prop}(hJ:Px J){k z g:Nat}{f:List Nat}{W W':World}(h:J k f W)(a:Ka z g W W')(hb:z=0∨g∉f):J k f W':=hJ.keep h a.env fun c hc=>a.block c (hJ.lt h c hc) (by
 rcases hb with h0|h0
 · exact .inl h0
 · exact .inr (by rintro rfl;exact h0 hc))
end Go.Sx

end
section
set_option linter.unusedVariables false
set_option linter.unusedSimpArgs false
namespace Go.Sx
open Go Go.RowKit
inductive Tz
 | leaf (seg:List (Nat × Nat))
 | fork (seg:List (Nat × Nat)) (a b:Tz)
def Tz.heads:Tz→List Nat
 | .leaf []=>[]
 | .leaf ((i,_)::_)=>[i]
 | .fork [] a b=>a.heads++b.heads
 | .fork ((i,_)::_) _ _=>[i]
def Tz.len:Tz→Nat
 | .leaf s=>s.length
 | .fork s a _=>s.length+a.len
def Fp (l:List (Nat × Nat))(listed:Array Bool):Array Bool:=l.foldl (fun s x=>s.setIfInBounds x.1 true) listed
def Ek (ops:Array Oper)(kp:Nat→Nat→Bool):List (Nat × Nat)→Array Bool→Bool
 | [],_=>true
 | (i,c)::rest,listed=>(match Tx c with
  | some lv=>(Region.ready .any ops listed).contains i&&Region.free .any ops listed i&&Qg2 ops (kp lv) listed i
  | none=>(Region.ready .any ops listed == [i]))&&Ek ops kp rest (listed.setIfInBounds i true)
def Wv (ops:Array Oper)(kp:Nat→Nat→Bool):Tz→Array Bool→Bool
 | .leaf [],_=>false
 | .leaf ((i,c)::s),listed=>(Tx c).isNone&&Ek ops kp s (listed.setIfInBounds i true)&&(Region.ready .any ops (Fp s (listed.setIfInBounds i true))).isEmpty
 | .fork [] a b,listed=>Wv ops kp a listed&&Wv ops kp b listed&&(a.len == b.len)
 | .fork ((i,c)::s) a b,listed=>(Tx c).isNone&&Ek ops kp s (listed.setIfInBounds i true)&&(Region.ready .any ops (Fp s (listed.setIfInBounds i true)) == a.heads++b.heads)
  && Wv ops kp a (Fp s (listed.setIfInBounds i true))&&Wv ops kp b (Fp s (listed.setIfInBounds i true))&&(a.len == b.len)
def Qd9 (ops:Array Oper)(kp:Nat→Nat→Bool):Tz→Array Bool→Bool
 | .leaf s,listed=>Ek ops kp s listed&&(Region.ready .any ops (Fp s listed)).isEmpty
 | .fork s a b,listed=>Ek ops kp s listed&&(Region.ready .any ops (Fp s listed) == a.heads++b.heads)&&Wv ops kp a (Fp s listed)&&Wv ops kp b (Fp s listed)&&(a.len == b.len)
def Yh (P:Program)(n:Nat)(ops:Array Oper)(Q:Slots→World→Prop)(S:Nat→World→Prop)(kp:Nat→Nat→Bool):Tz→Slots→World→Prop
 | .leaf s,L,w=>SD P n ops Q S kp s L w
 | .fork s a b,L,w=>SD P n ops (fun L w=>Yh P n ops Q S kp a L w∧Yh P n ops Q S kp b L w) S kp s L w
section
variable {P:Program} {r:Option Nat} {n:Nat} {ops:Array Oper} {Q:Slots→World→Prop} {S:Nat→World→Prop} {kp:Nat→Nat→Bool} {D:List Deferred} {QA:Exit→Act→World→Prop}
theorem SD.seg (hnd:Vo ops=true)(hQ:∀ c a w,¬ QA (.panic c) a w)(hO:¬ LetsOut QA){fuel:Nat}:
 ∀ (l:List (Nat × Nat)) (listed:Array Bool) (L:Slots) (a:Act) (w:World),Ek ops kp l listed=true→Jy n D L a→SD P n ops Q S kp l L w→
  (∀ L a w,Jy n D L a→Q L w→Go.Sx.anyH P r ops QA S kp fuel (Fp l listed) a w)→Go.Sx.anyH P r ops QA S kp (l.length+fuel) listed a w
 | [],listed,L,a,w,ho,hf,h,hk=>by rw[List.length_nil,Nat.zero_add];exact hk L a w hf h
 | (i,c)::rest,listed,L,a,w,ho,hf,h,hk=>by
  have hlen:((i,c)::rest).length+fuel=rest.length+fuel+1:=by simp;omega
  rw[hlen]
  unfold SD at h
  unfold Ek at ho
  cases hc:Tx c with
  | some lv=>
   rw[hc] at h ho
   obtain⟨o,v,hi,hd,hS,hv,hrest⟩:=h
   simp only[Bool.and_eq_true] at ho
   refine Go.Sx.Qnu hnd hi hQ hO (rest.length+fuel) listed a w (fun j oj h1 h2 h3 h4=>⟨Region.free_spec hi ho.1.1.2 j oj h1 h2 h3 h4,Qro ho.1.2 j oj h1 h2 h3 h4⟩) (by simpa using ho.1.1.1) ?_ hS
    (SD.seg hnd hQ hO rest _ _ _ w ho.2 (hf.put hd) hrest hk)
   rcases hv with⟨hg,hv⟩|⟨hg,rfl⟩
   · exact .inl ⟨Gs hf hg,fun w' hw'=>hv w' hw' _ hf.cons⟩
   · exact .inr ⟨Gs hf hg,rfl⟩
  | none=>
   rw[hc] at h ho
   obtain⟨o,hi,hd,h⟩:=h
   simp only[Bool.and_eq_true,beq_iff_eq] at ho
   refine⟨fun h0=>(by rw[ho.1] at h0;cases h0),fun j hj=>?_⟩
   rw[ho.1] at hj
   simp only[List.mem_singleton] at hj
   subst hj
   unfold wpOpIn
   simp only[hi]
   rcases h with⟨hg,R,hev,hk2⟩|⟨hg,hrest⟩
   · rw[Gs hf hg,if_pos rfl]
     exact(hev _ hf.cons).uponIn (Vo.nd hnd hi) fun v w' hR=>⟨(hk2 v w' hR).1,SD.seg hnd hQ hO rest _ _ _ w' ho.2 (hf.put hd) (hk2 v w' hR).2 hk⟩
   · rw[Gs hf hg]
     simp only[Bool.false_eq_true,if_false]
     exact⟨fun _ _=>trivial,fun _ _ h=>h,SD.seg hnd hQ hO rest _ _ _ w ho.2 (hf.put hd) hrest hk⟩
theorem SD.stepAny (hnd:Vo ops=true){i c:Nat}{s:List (Nat × Nat)}{listed:Array Bool}{L:Slots}{a:Act}{w:World}{fuel:Nat}(hc:(Tx c).isNone=true)(hf:Jy n D L a)(h:SD P n ops Q S kp ((i,c)::s) L w)
 (hk:∀ L a w,Jy n D L a→SD P n ops Q S kp s L w→Go.Sx.anyH P r ops QA S kp fuel (listed.setIfInBounds i true) a w):
 wpOpIn (Fw r) 0 P ops QA i (fun a' w'=>(∀ v,kp v i=true→S v w→S v w')∧Go.Sx.anyH P r ops QA S kp fuel (listed.setIfInBounds i true) a' w') a w:=by
 unfold SD at h
 rw[Option.isNone_iff_eq_none.1 hc] at h
 obtain⟨o,hi,hd,h⟩:=h
 unfold wpOpIn
 simp only[hi]
 rcases h with⟨hg,R,hev,hk2⟩|⟨hg,hrest⟩
 · rw[Gs hf hg,if_pos rfl]
   exact(hev _ hf.cons).uponIn (Vo.nd hnd hi) fun v w' hR=>⟨(hk2 v w' hR).1,hk _ _ _ (hf.put hd) (hk2 v w' hR).2⟩
 · rw[Gs hf hg]
   simp only[Bool.false_eq_true,if_false]
   exact⟨fun _ _=>trivial,fun _ _ h=>h,hk _ _ _ (hf.put hd) hrest⟩
theorem Qkv:∀ (t:Tz) (listed:Array Bool),Wv ops kp t listed=true→∃ m,t.len=m+1
 | .leaf [],_,h=>by simp[Wv] at h
 | .leaf ((i,c)::s),_,_=>⟨s.length,by simp[Tz.len]⟩
 | .fork [] a b,listed,h=>by
  simp only[Wv,Bool.and_eq_true] at h
  obtain⟨m,hm⟩:=Qkv a listed h.1.1
  exact⟨m,by simp[Tz.len,hm]⟩
 | .fork ((i,c)::s) a b,_,_=>⟨s.length+a.len,by simp[Tz.len];omega⟩
theorem Yh.kid (hnd:Vo ops=true)(hQ:∀ c a w,¬ QA (.panic c) a w)(hO:¬ LetsOut QA)(hq:∀ L a w,Jy n D L a→Q L w→QA .normal a w):
 ∀ (t:Tz) (listed:Array Bool) (L:Slots) (a:Act) (w:World) (m:Nat),Wv ops kp t listed=true→t.len=m+1→Jy n D L a→Yh P n ops Q S kp t L w→∀ i∈t.heads,
  wpOpIn (Fw r) 0 P ops QA i (fun a' w'=>(∀ v,kp v i=true→S v w→S v w')∧Go.Sx.anyH P r ops QA S kp m (listed.setIfInBounds i true) a' w') a w
 | .leaf [],_,_,_,_,_,ho,_,_,_,_,_=>by simp[Wv] at ho
 | .leaf ((i,c)::s),listed,L,a,w,m,ho,hl,hf,h,j,hj=>by
  simp only[Tz.heads,List.mem_singleton] at hj;subst hj
  simp only[Wv,Bool.and_eq_true] at ho
  have hm:m=s.length+0:=by simp[Tz.len] at hl;omega
  subst hm
  refine SD.stepAny hnd ho.1.1 hf h fun L a w hf h=>SD.seg hnd hQ hO s _ L a w ho.1.2 hf h fun L a w hf h=>⟨by simpa using ho.2,hq L a w hf h⟩
 | .fork [] x y,listed,L,a,w,m,ho,hl,hf,h,j,hj=>by
  simp only[Wv,Bool.and_eq_true,beq_iff_eq] at ho
  simp only[Tz.len,List.length_nil,Nat.zero_add] at hl
  simp only[Tz.heads,List.mem_append] at hj
  have h':Yh P n ops Q S kp x L w∧Yh P n ops Q S kp y L w:=h
  rcases hj with hj|hj
  · exact Yh.kid hnd hQ hO hq x listed L a w m ho.1.1 hl hf h'.1 j hj
  · exact Yh.kid hnd hQ hO hq y listed L a w m ho.1.2 (by rw[←ho.2];exact hl) hf h'.2 j hj
 | .fork ((i,c)::s) x y,listed,L,a,w,m,ho,hl,hf,h,j,hj=>by
  simp only[Tz.heads,List.mem_singleton] at hj;subst hj
  simp only[Wv,Bool.and_eq_true,beq_iff_eq] at ho
  have hm:m=s.length+x.len:=by simp[Tz.len] at hl;omega
  subst hm
  refine SD.stepAny hnd ho.1.1.1.1.1 hf h fun L a w hf h=>SD.seg hnd hQ hO s _ L a w ho.1.1.1.1.2 hf h fun L a w hf h=>?_
  obtain⟨mx,hx⟩:=Qkv x _ ho.1.1.2
  have hy:y.len=mx+1:=by rw[←ho.2];exact hx
  rw[hx]
  refine⟨fun h0=>?_,fun k hk=>?_⟩
  · obtain⟨z,hz⟩:∃ z,z∈x.heads:=by
     have:∀ (t:Tz) (l:Array Bool),Wv ops kp t l=true→∃ z,z∈t.heads:=by
      intro t
      induction t with
      | leaf s=>intro l h;cases s with
       | nil=>simp[Wv] at h
       | cons a s=>exact⟨a.1,by simp[Tz.heads]⟩
      | fork s a b iha ihb=>intro l h;cases s with
       | nil=>
        simp only[Wv,Bool.and_eq_true] at h
        obtain⟨z,hz⟩:=iha l h.1.1
        exact⟨z,by simp[Tz.heads,hz]⟩
       | cons a s=>exact⟨a.1,by simp[Tz.heads]⟩
     exact this x _ ho.1.1.2
    rw[ho.1.1.1.2] at h0
    have:z∈x.heads++y.heads:=List.mem_append_left _ hz
    rw[h0] at this;cases this
  · rw[ho.1.1.1.2] at hk
    rcases List.mem_append.1 hk with hk|hk
    · exact Yh.kid hnd hQ hO hq x _ L a w mx ho.1.1.2 hx hf h.1 k hk
    · exact Yh.kid hnd hQ hO hq y _ L a w mx ho.1.2 hy hf h.2 k hk
theorem Xay:∀ (t:Tz) (l:Array Bool),Wv ops kp t l=true→∃ z,z∈t.heads:=by
 intro t
 induction t with
 | leaf s=>intro l h;cases s with
  | nil=>simp[Wv] at h
  | cons a s=>exact⟨a.1,by simp[Tz.heads]⟩
 | fork s a b iha ihb=>intro l h;cases s with
  | nil=>
   simp only[Wv,Bool.and_eq_true] at h
   obtain⟨z,hz⟩:=iha l h.1.1
   exact⟨z,by simp[Tz.heads,hz]⟩
  | cons a s=>exact⟨a.1,by simp[Tz.heads]⟩
theorem Yh.anyH (hnd:Vo ops=true)(hQ:∀ c a w,¬ QA (.panic c) a w)(hO:¬ LetsOut QA)(hq:∀ L a w,Jy n D L a→Q L w→QA .normal a w)(t:Tz)(listed:Array Bool)(L:Slots)(a:Act)(w:World)(ho:Qd9 ops kp t listed=true)(hf:Jy n D L a)(h:Yh P n ops Q S kp t L w):
 Go.Sx.anyH P r ops QA S kp t.len listed a w:=by
 cases t with
 | leaf s=>
  simp only[Qd9,Bool.and_eq_true] at ho
  exact SD.seg (fuel:=0) hnd hQ hO s listed L a w ho.1 hf h fun L a w hf h=>⟨by simpa using ho.2,hq L a w hf h⟩
 | fork s x y=>
  simp only[Qd9,Bool.and_eq_true,beq_iff_eq] at ho
  obtain⟨mx,hx⟩:=Qkv x _ ho.1.1.2
  have hy:y.len=mx+1:=by rw[←ho.2];exact hx
  refine SD.seg (fuel:=x.len) hnd hQ hO s listed L a w ho.1.1.1.1 hf h fun L a w hf h=>?_
  rw[hx]
  refine⟨fun h0=>?_,fun k hk=>?_⟩
  · obtain⟨z,hz⟩:=Xay (ops:=ops) (kp:=kp) x _ ho.1.1.2
    rw[ho.1.1.1.2] at h0
    have:z∈x.heads++y.heads:=List.mem_append_left _ hz
    rw[h0] at this;cases this
  · rw[ho.1.1.1.2] at hk
    rcases List.mem_append.1 hk with hk|hk
    · exact Yh.kid hnd hQ hO hq x _ L a w mx ho.1.1.2 hx hf h.1 k hk
    · exact Yh.kid hnd hQ hO hq y _ L a w mx ho.1.2 hy hf h.2 k hk
end
theorem Lw {P:Program}{n:Nat}{ops:Array Oper}{Q:Slots→World→Prop}{S:Nat→World→Prop}{kp:Nat→Nat→Bool}{a b:Tz}{L:Slots}{w:World}(h1:Yh P n ops Q S kp a L w)(h2:Yh P n ops Q S kp b L w):SD P n ops (fun L w=>Yh P n ops Q S kp a L w∧Yh P n ops Q S kp b L w) S kp [] L w:=⟨h1,h2⟩
theorem Zz {P:Program}{n:Nat}{ops:Array Oper}{Q:Slots→World→Prop}{S:Nat→World→Prop}{kp:Nat→Nat→Bool}{s:List (Nat × Nat)}{L:Slots}{w:World}(h:SD P n ops Q S kp s L w):Yh P n ops Q S kp (.leaf s) L w:=h
theorem Lx {P:Program}{n:Nat}{ops:Array Oper}{Q:Slots→World→Prop}{S:Nat→World→Prop}{kp:Nat→Nat→Bool}{s:List (Nat × Nat)}{a b:Tz}{L:Slots}{w:World}(h:SD P n ops (fun L w=>Yh P n ops Q S kp a L w∧Yh P n ops Q S kp b L w) S kp s L w):Yh P n ops Q S kp (.fork s a b) L w:=h
end Go.Sx

end
section
set_option linter.unusedVariables false
set_option linter.unusedSimpArgs false
namespace Go.Sx
open Go Go.RowKit
def Jj (mss:List (List Nat))(w₀:World)(k:Nat)(w:World):Prop:=∀ ms,mss[k]? = some ms→Kp ms w₀ w
def kpN (tab:List (Nat × List Nat))(lv j:Nat):Bool:=tab.all fun x => !(Nat.beq x.1 j&&x.2.any (Nat.beq lv))
def Au (p:Nat→List Nat→Prop):Nat→List (List Nat)→Prop
 | _,[]=>True
 | k,ms::r=>p k ms∧Au p (k+1) r
theorem Au.get {p:Nat→List Nat→Prop}:∀ {l:List (List Nat)} {o:Nat},Au p o l→∀ k ms,l[k]? = some ms→p (o+k) ms
 | [],o,_,k,ms,h=>by simp at h
 | a::r,o,h,0,ms,hk=>by simp at hk;subst hk;exact h.1
 | a::r,o,h,k+1,ms,hk=>by
  have:=Au.get h.2 k ms (by simpa using hk)
  rw[show o+(k+1)=o+1+k from by omega];exact this
theorem Kz.ofGr {w w':World}(h:Gr w w'):Kz [] w w':=(Kz.refl [] w).gr h
theorem Kz.ofMd {w w':World}{b:Nat}(h:Md b w w'):Kz [(1,b)] w w':=(Kz.refl _ w).md h (by simp[Vm,Mz])
theorem Kz.ofKa {w w':World}{z g:Nat}(h:Ka z g w w'):Kz [(z,g)] w w':=(Kz.refl _ w).ka h (by by_cases hz:z=0<;>simp[Vm,Mz,hz])
theorem Qs8 (k:Nat):Tx (k+10)=some k:=by
 have h1:Nat.beq (k+10) 1=false:=Ih (by omega)
 have h2:Nat.beq (k+10) 3=false:=Ih (by omega)
 have h3:Nat.ble 10 (k+10)=true:=Nat.ble_eq_true_of_le (by omega)
 unfold Tx
 rw[h1,h2,h3];simp
section
variable {P:Program} {n:Nat} {ops:Array Oper} {Q:Slots→World→Prop} {rest:List (Nat × Nat)} {i:Nat} {dst:Option Nat} {op:Op} {ty:TypeId} {pos:String} {af:Array Edge} {gu:Option (Nat × Bool)} {L:Slots} {w w₀:World} {mss:List (List Nat)} {kp:Nat→Nat→Bool} {ms:List Nat}
theorem Qf0 {v:Value}(k:Nat)(hi:ops[i]? = some ⟨dst,op,ty,pos,af,gu⟩)(hg:gd ops L ⟨dst,op,ty,pos,af,gu⟩=some true)(hd:Ya n dst=true)(hm:mss[k]? = some ms)(hS:Kp ms w₀ w)(hv:∀ w,Kp ms w₀ w→VV P L ⟨dst,op,ty,pos,af,gu⟩ w v)
 (h:SD P n ops Q (Jj mss w₀) kp rest (Zt dst v L) w):SD P n ops Q (Jj mss w₀) kp ((i,k+10)::rest) L w:=by
 have hl:=Qs8 k
 unfold SD
 rw[hl]
 exact⟨_,v,hi,hd,fun ms' h'=>by rw[hm] at h';cases h';exact hS,.inl ⟨hg,fun w hw=>hv w (hw ms hm)⟩,h⟩
theorem Qy1 (k:Nat)(hi:ops[i]? = some ⟨dst,op,ty,pos,af,gu⟩)(hg:gd ops L ⟨dst,op,ty,pos,af,gu⟩=some false)(hd:Ya n dst=true)(hm:mss[k]? = some ms)(hS:Kp ms w₀ w)
 (h:SD P n ops Q (Jj mss w₀) kp rest (Zt dst undef L) w):SD P n ops Q (Jj mss w₀) kp ((i,k+10)::rest) L w:=by
 have hl:=Qs8 k
 unfold SD
 rw[hl]
 exact⟨_,undef,hi,hd,fun ms' h'=>by rw[hm] at h';cases h';exact hS,.inr ⟨hg,rfl⟩,h⟩
theorem Qy0 {t:Bool}(k:Nat)(hi:ops[i]? = some ⟨dst,op,ty,pos,af,gu⟩)(hg:gd ops L ⟨dst,op,ty,pos,af,gu⟩=some true)(hd:Ya n dst=true)(hm:mss[k]? = some ms)(hS:Kp ms w₀ w)(hv:∀ w,Kp ms w₀ w→VV P L ⟨dst,op,ty,pos,af,gu⟩ w (.bool t))
 (ht:t=true→SD P n ops Q (Jj mss w₀) kp rest (Zt dst (.bool true) L) w) (hf:t=false→SD P n ops Q (Jj mss w₀) kp rest (Zt dst (.bool false) L) w):SD P n ops Q (Jj mss w₀) kp ((i,k+10)::rest) L w:=by
 cases t with
 | true=>exact Qf0 k hi hg hd hm hS hv (ht rfl)
 | false=>exact Qf0 k hi hg hd hm hS hv (hf rfl)
theorem Qy5 {R:Value→World→Prop}(l:List (Nat × Nat))(hi:ops[i]? = some ⟨dst,op,ty,pos,af,gu⟩)(hg:gd ops L ⟨dst,op,ty,pos,af,gu⟩=some true)(hd:Ya n dst=true)(hv:EV P L ⟨dst,op,ty,pos,af,gu⟩ w R)
 (hb:Au (fun k ms=>kp k i=true→Vg l (ms.map fun b=>(1,b)) w₀.heap.size) 0 mss)
 (h:∀ v w',R v w'→Kz l w w'∧SD P n ops Q (Jj mss w₀) kp rest (Zt dst v L) w'):SD P n ops Q (Jj mss w₀) kp ((i,0)::rest) L w:=
 ⟨_,hi,hd,.inl ⟨hg,R,hv,fun v w' hR=>⟨fun lv hk hS ms hm=>Kp.kz (hS ms hm) (h v w' hR).1 (by have:=hb.get lv ms hm;rw[Nat.zero_add] at this;exact this hk),(h v w' hR).2⟩⟩⟩
theorem Qy3 {v:Value}(hi:ops[i]? = some ⟨dst,op,ty,pos,af,gu⟩)(hg:gd ops L ⟨dst,op,ty,pos,af,gu⟩=some true)(hd:Ya n dst=true)(hv:VV P L ⟨dst,op,ty,pos,af,gu⟩ w v)
 (h:SD P n ops Q (Jj mss w₀) kp rest (Zt dst v L) w):SD P n ops Q (Jj mss w₀) kp ((i,0)::rest) L w:=
 ⟨_,hi,hd,.inl ⟨hg,_,hv.ev,fun v' w' ⟨h1,h2⟩=>by subst h1;subst h2;exact⟨fun _ _ h=>h,h⟩⟩⟩
theorem Qy2 (hi:ops[i]? = some ⟨dst,op,ty,pos,af,gu⟩)(hg:gd ops L ⟨dst,op,ty,pos,af,gu⟩=some false)(hd:Ya n dst=true)
 (h:SD P n ops Q (Jj mss w₀) kp rest (Zt dst undef L) w):SD P n ops Q (Jj mss w₀) kp ((i,0)::rest) L w:=⟨_,hi,hd,.inr ⟨hg,h⟩⟩
end
theorem Qf {q:Prop}(f:q:=by(try simp only[Zh,Vg,Vm,Yo,Mz,List.mem_cons,List.mem_append,Xt,List.not_mem_nil,or_false,false_or,not_or,ne_eq,List.nil_append,List.cons_append,true_and,and_true,false_and,and_false,not_true_eq_false,not_false_eq_true,or_true,true_or])<;>omega):q:=f
theorem Qb {p q:Prop}(h:p)(f:p→q:=by intro;(try simp only[Zh,Vg,Vm,Yo,Mz,List.mem_cons,List.mem_append,Xt,List.not_mem_nil,or_false,false_or,not_or,ne_eq,List.nil_append,List.cons_append,true_and,and_true,false_and,and_false,not_true_eq_false,not_false_eq_true,or_true,true_or])<;>omega):q:=f h
theorem Zc {p1 p2 q:Prop}(h1:p1)(h2:p2)(f:p1→p2→q:=by intro _ _;(try simp only[Zh,Vg,Vm,Yo,Mz,List.mem_cons,List.mem_append,Xt,List.not_mem_nil,or_false,false_or,not_or,ne_eq,List.nil_append,List.cons_append,true_and,and_true,false_and,and_false,not_true_eq_false,not_false_eq_true,or_true,true_or])<;>omega):q:=f h1 h2
theorem Cn {p1 p2 p3 q:Prop}(h1:p1)(h2:p2)(h3:p3)(f:p1→p2→p3→q:=by intro _ _ _;(try simp only[Zh,Vg,Vm,Yo,Mz,List.mem_cons,List.mem_append,Xt,List.not_mem_nil,or_false,false_or,not_or,ne_eq,List.nil_append,List.cons_append,true_and,and_true,false_and,and_false,not_true_eq_false,not_false_eq_true,or_true,true_or])<;>omega):q:=f h1 h2 h3
theorem Wa {p1 p2 p3 p4 q:Prop}(h1:p1)(h2:p2)(h3:p3)(h4:p4)(f:p1→p2→p3→p4→q:=by intro _ _ _ _;(try simp only[Zh,Vg,Vm,Yo,Mz,List.mem_cons,List.mem_append,Xt,List.not_mem_nil,or_false,false_or,not_or,ne_eq,List.nil_append,List.cons_append,true_and,and_true,false_and,and_false,not_true_eq_false,not_false_eq_true,or_true,true_or])<;>omega):q:=f h1 h2 h3 h4
section
variable {A:Nat→Prop} {z g z' g' s z1 g1 z2 g2 z3 g3:Nat}
theorem Tq (r:Xd ((g'=g∧z=1)∨s≤g'∨z'=0))(h:z=0∨A g)(f:∀ x,s≤x→A x:=by intro x hx;(try simp only[Zh,Vg,Vm,Yo,Mz,List.mem_cons,List.mem_append,Xt,List.not_mem_nil,or_false,false_or,not_or,ne_eq,List.nil_append,List.cons_append,true_and,and_true,false_and,and_false,not_true_eq_false,not_false_eq_true,or_true,true_or])<;>omega):z'=0∨A g':=by
 rcases r.o with⟨h1,h2⟩|h1|h1
 · rcases h with h|h
   · omega
   · exact .inr (h1 ▸ h)
 · exact .inr (f _ h1)
 · exact .inl h1
theorem Xm (r:Xd (z=0∨s≤g))(f:∀ x,s≤x→A x:=by intro x hx;(try simp only[Zh,Vg,Vm,Yo,Mz,List.mem_cons,List.mem_append,Xt,List.not_mem_nil,or_false,false_or,not_or,ne_eq,List.nil_append,List.cons_append,true_and,and_true,false_and,and_false,not_true_eq_false,not_false_eq_true,or_true,true_or])<;>omega):z=0∨A g:=r.o.imp id (f g)
theorem Qp (r:Xd (z=0∨(g=g1∧z1≠0)∨s≤g))(h1:z1=0∨A g1)(f:∀ x,s≤x→A x:=by intro x hx;(try simp only[Zh,Vg,Vm,Yo,Mz,List.mem_cons,List.mem_append,Xt,List.not_mem_nil,or_false,false_or,not_or,ne_eq,List.nil_append,List.cons_append,true_and,and_true,false_and,and_false,not_true_eq_false,not_false_eq_true,or_true,true_or])<;>omega):z=0∨A g:=by
 rcases r.o with h|⟨h,hz⟩|h
 · exact .inl h
 · exact .inr (h ▸ h1.resolve_left hz)
 · exact .inr (f _ h)
theorem Ad (r:Xd (z=0∨(z=1∧g<s)))(f:∀ x,x<s→A x:=by intro x hx;(try simp only[Zh,Vg,Vm,Yo,Mz,List.mem_cons,List.mem_append,Xt,List.not_mem_nil,or_false,false_or,not_or,ne_eq,List.nil_append,List.cons_append,true_and,and_true,false_and,and_false,not_true_eq_false,not_false_eq_true,or_true,true_or])<;>omega):z=0∨A g:=r.o.imp id fun h=>f _ h.2
theorem Jh (h:z=0∨z1=0∨g≠g1):z1=0∨z=0∨g1≠g:=by omega
end
theorem Qon {v:Value}(h:oneB v=true):v.cells=[v].toArray:=by cases v<;>first|rfl|cases h
theorem Xaq {pl:Nat→Option (Nat × Nat)}{z cs:List Value}{i off:Nat}{v:Value}{r:List (Nat × Value)}(hp:pl i=some (off,1))(h1:oneB v=true)(hl:Nat.ble (off+1) z.length=true)(hr:Dy pl (Vd z off [v]) r=some cs):Dy pl z ((i,v)::r)=some cs:=by
 unfold Dy
 rw[hp]
 simp only[Qon h1]
 rw[if_pos ⟨rfl,Nat.le_of_ble_eq_true hl⟩];exact hr
theorem Vz {pl:Nat→Option (Nat × Nat)}{z cs:List Value}{i off size:Nat}{v:Value}{r:List (Nat × Value)}(hp:pl i=some (off,size))(h1:v.cells.size=size)(hl:Nat.ble (off+size) z.length=true)(hr:Dy pl (Vd z off v.cells.toList) r=some cs):Dy pl z ((i,v)::r)=some cs:=by
 unfold Dy
 rw[hp]
 simp only[h1]
 rw[if_pos ⟨trivial,Nat.le_of_ble_eq_true hl⟩];exact hr
theorem Xgb {P:Program}{r:Option Nat}{n:Nat}{Q:Exit→List Deferred→Slots→World→Prop}{D:List Deferred}{L:Slots}{w:World}{id:Nat}{ops:Array Oper}(mss:List (List Nat))(tab:List (Nat × List Nat))(t:Tz)(hm:P.follows .mixedOrders=true)(hnd:Vo ops=true)(hlen:t.len=ops.size)
 (ho:Qd9 ops (kpN tab) t (Array.replicate ops.size false)=true) (h:∀ w1,RowKit.Below w.heap.size w w1→w1.heap.size=w.heap.size→Yh P n ops (fun L w=>Q .normal D L w) (Jj mss w1) (kpN tab) t L w1):SW P r n (.region id ops true) Q D L w:=
 fun _ ha=>wpIn_region_any hm (by
  have:=(Yh.anyH (r:=r) (D:=D) (QA:=Qgd n Q) hnd (fun _ _ _=>Qs3) Qs2 (fun L _ _ hf hq=>⟨D,L,hf,hq⟩) t _ L _ w.drew ho ha (h w.drew (RowKit.Below.refl _ _).drew rfl)).any
  rw[hlen] at this;exact this)
end Go.Sx

end
section
set_option linter.unusedVariables false
set_option linter.unusedSimpArgs false
namespace Go.Sx
open Go Go.RowKit
def Kc (base:Nat)(ks fp:List Nat)(W:World):Prop:=Wm base ks W∧∀ k∈ks,k∉fp
section
variable {base b:Nat} {ks fp fp':List Nat} {W W':World}
theorem Xcg (base:Nat)(fp:List Nat)(W:World):Kc base [] fp W:=⟨Xch base W,fun _ h=>by cases h⟩
theorem Kc.gr (h:Kc base ks fp W)(g:Gr W W'):Kc base ks fp W':=⟨h.1.gr g,h.2⟩
theorem Kc.md {t:TypeId}{cs:List Value}(h:Kc base ks fp W)(m:Md b W W')(hb:Bx W b t cs):Kc base ks fp W':=⟨h.1.md m (fun hk=>by
 have h1:=(h.1.2 b hk).2
 unfold Df at h1;unfold Bx at hb;rw[hb] at h1;simp at h1),h.2⟩
theorem Kc.mdl {W0:World}{fp0:List Nat}(h:Kc base ks fp W)(m:Md b W W')(h0:Kc base ks fp0 W0)(hb:W0.heap.size≤b):Kc base ks fp W':=⟨h.1.md m (fun hk=>by
 have h1:=(h0.1.2 b hk).2.lt
 omega),h.2⟩
theorem Kc.kp (h:Kc base ks fp W)(k:Kp fp W W')(hg:∀ c∈fp',c∈fp∨W.heap.size≤c):Kc base ks fp' W':=
 ⟨h.1.kp k h.2,fun j hj=>Ke hg (h.2 j hj) (h.1.2 j hj).2.lt⟩
theorem Kc.cons {W0:World}{fp0:List Nat}{D:Nat}(h:Kc base ks fp W)(h0:Kc base ks fp0 W0)(hD:W0.heap.size≤D)(hb:base≤W0.heap.size)(hd:Df W D)(hn:D∉fp):Kc base (D::ks) fp W:=
 ⟨h.1.cons (by omega) hd fun hk=>by have:=(h0.1.2 D hk).2.lt;omega,fun j hj=>by
  rcases List.mem_cons.1 hj with rfl|hj
  · exact hn
  · exact h.2 j hj⟩
theorem Kc.leave (h:Kc base ks fp W):∃ wl,Qbv (Fs ks) W wl∧Kp ks W wl:=h.1.leave
theorem Kc.stb {J:Nat→List Nat→World→Prop}{k:Nat}(hJ:Px J)(h:Kc base ks fp W)(j:J k fp W)(kl:Kp ks W W'):J k fp W':=
 hJ.keep j kl.env fun c hc=>kl.block c (hJ.lt j c hc) fun hk=>h.2 c hk hc
theorem Kc.trans {w:World}{f:List Nat}(h:Kc w.heap.size ks fp W)(K:Kp f w W)(kl:Kp ks W W'):Kp f w W':=K.trans kl fun c hc=>.inr (h.1.2 c hc).1
end
end Go.Sx
namespace Go.Sx
open Go Go.RowKit
theorem Qy4 {P:Program}{n:Nat}{ops:Array Oper}{Q:Slots→World→Prop}{rest:List (Nat × Nat)}{i:Nat}{dst:Option Nat}{op:Op}{ty:TypeId}{pos:String}{af:Array Edge}{gu:Option (Nat × Bool)}{L:Slots}{w w₀:World}{ms:List Nat}{kp:Nat→Nat→Bool}{R:Value→World→Prop}
 (hi:ops[i]? = some ⟨dst,op,ty,pos,af,gu⟩) (hg:gd ops L ⟨dst,op,ty,pos,af,gu⟩=some true) (hd:Ya n dst=true) (hv:EV P L ⟨dst,op,ty,pos,af,gu⟩ w R)
 (h:∀ v w',R v w'→(Kp ms w₀ w→Kp ms w₀ w')∧SD P n ops Q (Jj [ms] w₀) kp rest (Zt dst v L) w'):SD P n ops Q (Jj [ms] w₀) kp ((i,0)::rest) L w:=
 ⟨_,hi,hd,.inl ⟨hg,R,hv,fun v w' hR=>⟨fun lv _ hS ms' hm=>by
  cases lv with
  | zero=>simp at hm;subst hm;exact(h v w' hR).1 (hS _ rfl)
  | succ k=>simp at hm,(h v w' hR).2⟩⟩⟩
end Go.Sx

end
section
set_option linter.unusedVariables false
set_option linter.unusedSimpArgs false
namespace Go.Sx
open Go
def Dz (ks:List Int)(k:Int):List Int:=if k∈ks then ks else ks++[k]
theorem Xb6 {ks:List Int}{k:Int}(h:ks.Nodup):(Dz ks k).Nodup:=by
 unfold Dz;split
 · exact h
 · rename_i hn;rw[List.nodup_append];exact⟨h,by simp,fun a ha b hb=>by simp at hb;subst hb;rintro rfl;exact hn ha⟩
open Classical in
noncomputable def Tc {σ R:Type}(F:Int→(σ→Option R)→σ→Option R)(d:σ→Option R):Nat→List Int→σ→Option R
 | 0,_,_=>none
 | n+1,rem,s=>if rem=[] then d s else if h:∃ r,∀ k∈rem,F k (Tc F d n (rem.filter (· ≠ k))) s=some r then some (Classical.choose h) else none
theorem Xf0 {σ R:Type}{F:Int→(σ→Option R)→σ→Option R}{d:σ→Option R}{n:Nat}{rem:List Int}{s:σ}{r:R}(h:Tc F d n rem s=some r)(hr:rem=[]):d s=some r:=by
 cases n with
 | zero=>cases h
 | succ n=>unfold Tc at h;rw[if_pos hr] at h;exact h
theorem Xez {σ R:Type}{F:Int→(σ→Option R)→σ→Option R}{d:σ→Option R}{n:Nat}{rem:List Int}{s:σ}{r:R}{k:Int}(h:Tc F d n rem s=some r)(hk:k∈rem):∃ m,n=m+1∧F k (Tc F d m (rem.filter (· ≠ k))) s=some r:=by
 cases n with
 | zero=>cases h
 | succ n=>
  refine⟨n,rfl,?_⟩
  unfold Tc at h
  rw[if_neg (by rintro rfl;cases hk)] at h
  split at h
  · rename_i hx
    have:=Classical.choose_spec hx k hk
    rw[this,h]
  · cases h
theorem Qtl {σ R:Type}{F:Int→(σ→Option R)→σ→Option R}{d:σ→Option R}{r:R}(I:List Int→σ→Prop)(hd:∀ s,I [] s→d s=some r)(hs:∀ rem s k,k∈rem→I rem s→∃ s',I (rem.filter (· ≠ k)) s'∧∀ nx,F k nx s=nx s'):
 ∀ (n:Nat) (rem:List Int) (s:σ),rem.length<n→I rem s→Tc F d n rem s=some r
 | 0,rem,s,h,_=>by omega
 | n+1,rem,s,h,hi=>by
  unfold Tc
  by_cases h0:rem=[]
  · rw[if_pos h0];subst h0;exact hd s hi
  · rw[if_neg h0]
    have hx:∀ k∈rem,F k (Tc F d n (rem.filter (· ≠ k))) s=some r:=fun k hk=>by
     obtain⟨s',h1,h2⟩:=hs rem s k hk hi
     rw[h2]
     refine Qtl I hd hs n _ s' ?_ h1
     have:(rem.filter (· ≠ k)).length<rem.length:=by
      exact List.length_filter_lt_length_iff_exists.2 ⟨k,hk,by simp⟩
     omega
    have hex:∃ r,∀ k∈rem,F k (Tc F d n (rem.filter (· ≠ k))) s=some r:=⟨r,hx⟩
    rw[dif_pos hex]
    obtain⟨k,hk⟩:=List.exists_mem_of_ne_nil rem h0
    have h1:=Classical.choose_spec hex k hk
    rw[hx k hk] at h1
    exact h1.symm
def Ak {α:Type}(key:α→Int)(l:List α):Option (List α):=if(∀ x∈l,0≤key x∧key x<4611686018427387904)∧(l.map key).Nodup∧l.length<4611686018427387904 then some (l.mergeSort fun a b=>decide (key a≤key b)) else none
theorem Xfy {α:Type}{key:α→Int}{l m:List α}(h:Ak key l=some m):m=l.mergeSort (fun a b=>decide (key a≤key b))∧(∀ x∈l,0≤key x∧key x<4611686018427387904)∧(l.map key).Nodup∧l.length<4611686018427387904:=by
 unfold Ak at h;split at h
 · rename_i h1;exact⟨(Option.some.inj h).symm,h1⟩
 · cases h
end Go.Sx

end
section
set_option linter.unusedVariables false
set_option linter.unusedSimpArgs false
namespace Go.Sx
open Go Go.RowKit
def Dk (ks:List Int):List MapEntry:=ks.zipIdx.map fun x=>⟨.int .i64 x.1,.bool true,x.2⟩
structure Mo (w:World)(b:Nat)(ks:List Int):Prop where
 nd:ks.Nodup
 row:w.heap[b]? = some (.map (Dk ks).toArray ks.length)
def Ci (ks:List Int)(seen:List Nat):List Int:=(ks.zipIdx.filter fun x => !seen.contains x.2).map (·.1)
def Mi (w:World)(b m:Nat)(ks rem:List Int):Prop:=∃ seen:List Nat,w.heap[b]? = some (.mapIter (some m) ks.length seen.toArray ks.length)∧rem=Ci ks seen
def Mk (w:World)(b m:Nat)(ks rem:List Int)(k:Int):Prop:=∃ (seen:List Nat) (i:Nat),w.heap[b]? = some (.mapIter (some m) ks.length (seen++[i]).toArray ks.length)∧rem=Ci ks (seen++[i])∧ks[i]? = some k
section
variable {w w':World} {b m c z g:Nat} {ks rem:List Int} {k:Int} {l:List (Nat × Nat)}
theorem Jc {o:Obj}(h:w.heap[b]? = some o):b<w.heap.size:=(Array.getElem?_eq_some_iff.1 h).1
theorem Mo.lt (h:Mo w b ks):b<w.heap.size:=Jc h.row
theorem Mo.gr (h:Mo w b ks)(G:Gr w w'):Mo w' b ks:=⟨h.nd,(G.block b h.lt).trans h.row⟩
theorem Mo.md (h:Mo w b ks)(M:Md c w w')(ne:b≠c:=by omega):Mo w' b ks:=⟨h.nd,(M.block b ne).trans h.row⟩
theorem Mo.ka (h:Mo w b ks)(A:Ka z g w w')(hn:z=0∨g≠b:=by omega):Mo w' b ks:=⟨h.nd,(A.block b h.lt (by omega)).trans h.row⟩
theorem Mo.kz (h:Mo w b ks)(K:Kz l w w')(hn:Zh l b:=by simp only[Zh,Vg,Vm,Yo,Mz,or_true,true_or,and_true,List.mem_cons,List.mem_append,Xt,List.not_mem_nil,or_false,false_or,not_or,ne_eq,List.nil_append,List.cons_append,true_and,and_true,false_and,and_false,not_true_eq_false,not_false_eq_true,or_true,true_or]<;>omega):Mo w' b ks:=⟨h.nd,(K.block b h.lt hn).trans h.row⟩
theorem Mi.lt (h:Mi w b m ks rem):b<w.heap.size:=by obtain⟨s,h,_⟩:=h;exact Jc h
theorem Mi.gr (h:Mi w b m ks rem)(G:Gr w w'):Mi w' b m ks rem:=by obtain⟨s,h1,h2⟩:=h;exact⟨s,(G.block b (Jc h1)).trans h1,h2⟩
theorem Mi.md (h:Mi w b m ks rem)(M:Md c w w')(ne:b≠c:=by omega):Mi w' b m ks rem:=by obtain⟨s,h1,h2⟩:=h;exact⟨s,(M.block b ne).trans h1,h2⟩
theorem Mi.ka (h:Mi w b m ks rem)(A:Ka z g w w')(hn:z=0∨g≠b:=by omega):Mi w' b m ks rem:=by obtain⟨s,h1,h2⟩:=h;exact⟨s,(A.block b (Jc h1) (by omega)).trans h1,h2⟩
theorem Mi.kz (h:Mi w b m ks rem)(K:Kz l w w')(hn:Zh l b:=by simp only[Zh,Vg,Vm,Yo,Mz,or_true,true_or,and_true,List.mem_cons,List.mem_append,Xt,List.not_mem_nil,or_false,false_or,not_or,ne_eq,List.nil_append,List.cons_append,true_and,and_true,false_and,and_false,not_true_eq_false,not_false_eq_true,or_true,true_or]<;>omega):Mi w' b m ks rem:=by obtain⟨s,h1,h2⟩:=h;exact⟨s,(K.block b (Jc h1) hn).trans h1,h2⟩
theorem Mk.mi (h:Mk w b m ks rem k):Mi w b m ks rem:=by obtain⟨s,i,h1,h2,_⟩:=h;exact⟨_,h1,h2⟩
end
theorem Xeu (ks:List Int):Ci ks []=ks:=by
 unfold Ci
 have:(ks.zipIdx.filter fun x => !([]:List Nat).contains x.2)=ks.zipIdx:=List.filter_eq_self.2 (by simp)
 rw[this];simp
theorem Xev {ks:List Int}{seen:List Nat}{i:Nat}{k:Int}(hn:ks.Nodup)(hi:ks[i]? = some k):Ci ks (seen++[i])=(Ci ks seen).filter (· ≠ k):=by
 unfold Ci
 rw[List.filter_map,List.filter_filter]
 congr 1
 apply List.filter_congr
 rintro⟨x,j⟩ hx
 have hj:ks[j]? = some x:=by simpa using List.mem_zipIdx_iff_getElem?.1 hx
 have:decide (x≠k) = !decide (j=i):=by
  by_cases e:j=i
  · subst e;rw[hi] at hj;cases hj;simp
  · have:x≠k:=by
     rintro rfl
     obtain⟨p1,e1⟩:=List.getElem?_eq_some_iff.1 hi
     obtain⟨p2,e2⟩:=List.getElem?_eq_some_iff.1 hj
     exact e ((List.getElem_inj hn).1 (by rw[e1,e2]))
    simp[e,this]
 simp only[Function.comp,List.contains_append,Bool.not_or,this]
 rw[Bool.and_comm]
 congr 1
 simp only[List.contains_cons,List.contains_nil,Bool.or_false]
 by_cases e:j=i<;>simp[e]
section
variable {P:Program} {L:Slots} {w:World} {dst:Option Nat} {ty:TypeId} {pos:String} {af:Array Edge} {gu:Option (Nat × Bool)} {x y:Operand} {t K E:TypeId} {b m:Nat} {ks rem:List Int} {k:Int}
structure MpT (P:Program)(t K E:TypeId):Prop where
 und:P.underlying t=some (.map K E)
 key:P.underlying K=some (.int .i64)
 zero:∀ w,(zeroValue E).run P w=.ok (.bool false) w
theorem Xaa:EV P L ⟨dst,.makeMap t none,ty,pos,af,gu⟩ w fun v' w'=>∃ b,v'=.map (some b)∧w.heap.size≤b∧Mo w' b []∧Gr w w':=fun ρ hρ=>by
 refine .val (.map (some w.heap.size)) (w.alloc (.map #[] 0)) (by simp[execOp,Instr.makeMap,go_sem]) ⟨_,rfl,Nat.le_refl _,⟨List.nodup_nil,heap_alloc_new w _⟩,(Below.refl _ _).alloc (Nat.le_refl _) _⟩
theorem Qki (k:Int):∀ (ks:List Int) (o i:Nat),Instr.findNow (.int .i64) (.int .i64 k) ((ks.zipIdx o).map fun x=>(⟨.int .i64 x.1,.bool true,x.2⟩:MapEntry)) i=some (if k∈ks then some (i+ks.idxOf k,.bool true) else none)
 | [],o,i=>by simp[Instr.findNow]
 | a::ks,o,i=>by
  rw[List.zipIdx_cons,List.map_cons]
  simp only[Instr.findNow,Instr.sameNow,if_true]
  by_cases h:k=a
  · subst h;simp
  · have hb:(k == a)=false:=by simpa using h
    have hb2:(a == k)=false:=by simpa using fun e=>h e.symm
    rw[hb]
    simp only
    rw[Qki k ks (o+1) (i+1)]
    simp only[List.mem_cons,h,false_or,List.idxOf_cons,hb2,cond_false]
    congr 1
    split
    · congr 2;omega
    · rfl
theorem Qoq (e:Bool)(n:Nat)(hk:P.underlying K=some (.int .i64)):(Instr.checkKey e (n+1) K (.int .i64 k)).run P w=.ok () w:=by
 unfold Instr.checkKey
 simp only[Sem.run_bind,run_underlying hk,Result.andThen]
 rfl
theorem Qe5 (hm:MpT P t K E)(hx:ev L x=some (.map (some b)))(hy:ev L y=some (.int .i64 k))(hb:Mo w b ks):VV P L ⟨dst,.lookup t x y false,ty,pos,af,gu⟩ w (.bool (decide (k∈ks))):=fun ρ hρ=>by
 refine Hs ?_
 rw[hρ _ _ hx,hρ _ _ hy]
 have hck:∀ e,(Instr.checkKey e 10000 K (.int .i64 k)).run P w=.ok () w:=fun e=>Qoq e 9999 hm.key
 have hf:Instr.findNow (.int .i64) (.int .i64 k) (Dk ks) 0=_:=Qki k ks 0 0
 unfold Instr.lookup
 simp only[Sem.run_bind,run_underlying hm.und,Result.andThen,MapKept.run_getObj_map hb.row,Sem.run_pure,hck]
 unfold Instr.findKey
 simp only[Sem.run_bind,run_underlying hm.key,Result.andThen]
 rw[hf]
 by_cases h:k∈ks
 · simp[h]
 · simp[h,hm.zero w]
theorem Xcj (ks:List Int)(k:Int):Dk (ks++[k])=Dk ks++[⟨.int .i64 k,.bool true,ks.length⟩]:=by
 unfold Dk;rw[List.zipIdx_append,List.map_append];simp
theorem Xab (hm:MpT P t K E){z:Operand}(hx:ev L x=some (.map (some b)))(hy:ev L y=some (.int .i64 k))(hz:ev L z=some (.bool true))(hb:Mo w b ks):EV P L ⟨dst,.mapUpdate t x y z,ty,pos,af,gu⟩ w fun _ w'=>Mo w' b (Dz ks k)∧Md b w w':=fun ρ hρ=>by
 have hck:(Instr.checkKey false 10000 K (.int .i64 k)).run P w=.ok () w:=Qoq false 9999 hm.key
 have hf:Instr.findNow (.int .i64) (.int .i64 k) (Dk ks) 0=_:=Qki k ks 0 0
 have hset:∀ o:Obj,(setObj b o).run P w=.ok () (w.putObj b o):=fun o=>by
  simp only[setObj,Sem.run,hb.row];rfl
 have key:∃ o:Obj,(Instr.mapUpdate t (.map (some b)) (.int .i64 k) (.bool true)).run P w=.ok () (w.putObj b o)∧o=.map (Dk (Dz ks k)).toArray (Dz ks k).length:=by
  unfold Instr.mapUpdate
  simp only[Sem.run_bind,run_underlying hm.und,Result.andThen,MapKept.run_getObj_map hb.row,hck]
  unfold Instr.findKey
  simp only[Sem.run_bind,run_underlying hm.key,Result.andThen]
  rw[hf]
  by_cases h:k∈ks
  · rw[if_pos h]
    simp only[Sem.run_pure,Nat.zero_add,Instr.keyThatStays]
    have hi:ks.idxOf k<ks.length:=List.idxOf_lt_length_of_mem h
    have hg:(Dk ks).toArray[ks.idxOf k]? = some ⟨.int .i64 k,.bool true,ks.idxOf k⟩:=by
     simp[Dk,hi]
    rw[hg]
    simp only[Option.map_some,Option.getD_some,Instr.sameBits,beq_self_eq_true,Bool.and_self,if_true,Sem.run_bind,Sem.run_pure,Result.andThen,hset,Dz,if_pos h]
    refine⟨_,rfl,?_⟩
    congr 1
    apply Array.ext_getElem?
    intro j
    rw[Array.getElem?_modify]
    by_cases hj:ks.idxOf k=j
    · subst hj;rw[if_pos rfl,hg];rfl
    · rw[if_neg hj]
  · rw[if_neg h]
    simp only[Sem.run_pure,hset,Dz,if_neg h]
    refine⟨_,rfl,?_⟩
    rw[Xcj];simp
 obtain⟨o,h1,rfl⟩:=key
 refine .skip _ ?_ ⟨⟨Xb6 hb.nd,World.putObj_heap_same hb.lt⟩,Md.put b _⟩
 simp[execOp,hρ _ _ hx,hρ _ _ hy,hρ _ _ hz,h1]
theorem Xad (hm:MpT P t K E)(hx:ev L x=some (.map (some m)))(hb:Mo w m ks):EV P L ⟨dst,.range t x,ty,pos,af,gu⟩ w fun v' w'=>∃ b,v'=.pointer (some ⟨b,0,none⟩)∧w.heap.size≤b∧Mi w' b m ks ks∧Gr w w':=fun ρ hρ=>by
 have h:=run_range_map (P:=P) w t K E m _ _ hm.und hb.row
 refine .val _ _ (Hs (by rw[hρ _ _ hx];exact h)) ⟨_,rfl,Nat.le_refl _,⟨[],heap_alloc_new w _,(Xeu ks).symm⟩,(Below.refl _ _).alloc (Nat.le_refl _) _⟩
theorem Xac (hx:ev L x=some (.pointer (some ⟨b,0,none⟩)))(hb:Mo w m ks)(hi:Mi w b m ks rem):EV P L ⟨dst,.next x false,ty,pos,af,gu⟩ w fun v' w'=>
 (v'=.tuple [.bool false].toArray∧rem=[]∧Gr w w')∨(∃ k,k∈rem∧v'=.tuple [.bool true,.int .i64 k,.bool true].toArray∧Mk w' b m ks (rem.filter (· ≠ k)) k∧Md b w w'):=fun ρ hρ=>by
 obtain⟨seen,h1,rfl⟩:=hi
 have hold:∀ e∈(Dk ks).toArray.toList,e.born<ks.length:=by
  intro e he
  obtain⟨⟨a,j⟩,hj,rfl⟩:=List.mem_map.1 he
  have:=List.mem_zipIdx_iff_getElem?.1 hj
  exact(List.getElem?_eq_some_iff.1 (by simpa using this)).1
 have hrun:∀ (r:Result Value),(Instr.next (.pointer (some ⟨b,0,none⟩)) false ty).run P w=r→(execOp ρ ⟨dst,.next x false,ty,pos,af,gu⟩).run P w=r.andThen fun v w'=>.ok (.value v) w':=fun r hr=>by
  simp only[execOp,hρ _ _ hx]
  rw[←hr]
  simp[Sem.run_bind]
 have hL:(Array.filter (fun e => !seen.toArray.contains e.born) (Dk ks).toArray).toList=(ks.zipIdx.filter fun x => !seen.contains x.2).map fun x=>(⟨.int .i64 x.1,.bool true,x.2⟩:MapEntry):=by
  simp[Dk,List.filter_map,Function.comp_def]
 have hmem:∀ e∈(Array.filter (fun e => !seen.toArray.contains e.born) (Dk ks).toArray).toList,e.born<ks.length:=fun e he=>hold e (by simp at he ⊢;exact he.1)
 have hn:(Instr.next (.pointer (some ⟨b,0,none⟩)) false ty).run P w=(Instr.next (.pointer (some ⟨b,0,none⟩)) false ty).run P w:=rfl
 conv at hn=>rhs;simp only[Instr.next,getObj,Sem.run_bind,Sem.run,h1,hb.row,Result.andThen,next_test_false seen.toArray (Dk ks).toArray ks.length ks.length hold (Nat.le_refl _),Bool.false_eq_true,if_false]
 generalize Array.filter (fun e => !seen.toArray.contains e.born) (Dk ks).toArray=A at hL hmem hn
 have e1:A.filter (fun x=>decide (x.born<ks.length))=A:=Array.filter_eq_self.2 (fun x hx=>by simpa using hmem x (by simpa using hx))
 have e2:A.filter (fun x=>decide (x.born≥ks.length)) = #[]:=by
  rw[Array.filter_eq_empty_iff]
  intro x hx
  have:=hmem x (by simpa using hx)
  simp;omega
 simp only[e1,e2,Array.append_empty] at hn
 by_cases h0:A.size=0
 · have hA:A = #[]:=Array.eq_empty_of_size_eq_zero h0
   subst hA
   have h2:=hrun _ hn
   refine .val (.tuple [.bool false].toArray) w ?_ (.inl ⟨rfl,?_,Gr.refl w⟩)
   · rw[h2];simp[choose,Sem.run,Question.forced,Result.andThen]
   · have:(ks.zipIdx.filter fun x => !seen.contains x.2)=[]:=by simpa using hL.symm
     unfold Ci;rw[this];rfl
 · have hne:A.isEmpty=false:=by simp[Array.isEmpty,h0]
   simp only[hne,Bool.false_eq_true,if_false,Array.empty_append,Array.size_map] at hn
   have hch:∃ (j:Nat) (w1:World),j<A.size∧(w1=w∨w1=w.drew)∧(choose (Question.mapNext A.size)).run P w=.ok j w1:=by
    by_cases hf:A.size≤1
    · exact⟨0,w,by omega,.inl rfl,by simp[choose,Sem.run,Question.forced,hf]⟩
    · exact⟨_,w.drew,Nat.mod_lt _ (by omega),.inr rfl,by
       simp only[choose,Sem.run,Question.forced,decide_eq_true_eq,hf,if_false,Question.cut];rfl⟩
   obtain⟨j,w1,hj,hw1,hc⟩:=hch
   have hw1h:w1.heap=w.heap:=by rcases hw1 with rfl|rfl<;>rfl
   have hset:∀ o:Obj,(setObj b o).run P w1=.ok () (w1.putObj b o):=fun o=>by
    have:w1.heap[b]? = some (.mapIter (some m) ks.length seen.toArray ks.length):=by rw[hw1h];exact h1
    simp only[setObj,Sem.run,this];rfl
   simp only[hc,Array.getElem?_map,Array.getElem?_eq_getElem hj,Option.map_some,hset,Sem.run_bind,Result.andThen] at hn
   have hAj:A[j]∈A.toList:=by simp
   rw[hL] at hAj
   obtain⟨⟨k,i⟩,hki,hkj⟩:=List.mem_map.1 hAj
   have hki':=List.mem_filter.1 hki
   have hi:ks[i]? = some k:=by simpa using List.mem_zipIdx_iff_getElem?.1 hki'.1
   rw[←hkj] at hn
   have h2:=hrun _ hn
   have hmd:Md b w (w1.putObj b (.mapIter (some m) ks.length (seen.toArray.push i) ks.length)):=by
    have:Md b w1 (w1.putObj b (.mapIter (some m) ks.length (seen.toArray.push i) ks.length)):=Md.put b _
    rcases hw1 with rfl|rfl
    · exact this
    · exact⟨this.os,this.tape,this.output,this.size,this.block⟩
   refine .val (.tuple [.bool true,.int .i64 k,.bool true].toArray) _ (by rw[h2];rfl) (.inr ⟨k,?_,rfl,⟨seen,i,?_,?_,hi⟩,hmd⟩)
   · exact List.mem_map.2 ⟨(k,i),hki,rfl⟩
   · have hbs:b<w1.heap.size:=by rw[hw1h];exact Jc h1
     have:=World.putObj_heap_same (w:=w1) (o:=.mapIter (some m) ks.length (seen.toArray.push i) ks.length) hbs
     rw[this];simp
   · exact(Xev hb.nd hi).symm
theorem Xhb (hx:ev L x=some (.pointer (some ⟨b,0,none⟩)))(hb:Mo w m ks)(hi:Mk w b m ks rem k):VV P L ⟨dst,.entry x,ty,pos,af,gu⟩ w (.tuple [.int .i64 k,.bool true].toArray):=fun ρ hρ=>by
 obtain⟨seen,i,h1,_,h3⟩:=hi
 refine Hs ?_
 rw[hρ _ _ hx]
 have hf:(Dk ks).toArray.find? (fun e=>e.born == i)=some ⟨.int .i64 k,.bool true,i⟩:=by
  rw[←Array.find?_toList]
  have hgen:∀ (ks:List Int) (o i:Nat),ks[i]? = some k→((ks.zipIdx o).map fun x=>(⟨.int .i64 x.1,.bool true,x.2⟩:MapEntry)).find? (fun e=>e.born == o+i)=some ⟨.int .i64 k,.bool true,o+i⟩:=by
   intro ks
   induction ks with
   | nil=>intro o i h;simp at h
   | cons a ks ih=>
    intro o i h
    rw[List.zipIdx_cons,List.map_cons,List.find?_cons]
    cases i with
    | zero=>simp at h;subst h;simp
    | succ i=>
     have hne:(o == o+(i+1))=false:=by simp
     rw[hne]
     have:=ih (o+1) i (by simpa using h)
     rw[show o+1+i=o+(i+1) from by omega] at this
     exact this
  have:=hgen ks 0 i h3
  rw[Nat.zero_add] at this;exact this
 simp[Instr.entry,getObj,Sem.run,h1,hb.row,hf]
end
end Go.Sx

end
section
set_option linter.unusedVariables false
namespace Go.Sx
open Go Go.RowKit
theorem Cj {P:Program}{n:Nat}{ops:Array Oper}{Q:Slots→World→Prop}{rest:List (Nat × Nat)}{i:Nat}{dst:Option Nat}{ty:TypeId}{pos:String}{af:Array Edge}{gu:Option (Nat × Bool)}{L:Slots}{w:World}
 {f:Nat} {fs cap:List Value} {x:Operand} {aas:Array Operand} {at_:Array TypeId} {vs:List Value} {fn:Func} {c:Code} (n':Nat) (hf:P.funcs[f]? = some fn) (hi:ops[i]? = some ⟨dst,.call { callee:=.value x,args:=aas,argTypes:=at_ },ty,pos,af,gu⟩)
 (hg:gd ops L ⟨dst,.call { callee:=.value x,args:=aas,argTypes:=at_ },ty,pos,af,gu⟩=some true) (hd:Ya n dst=true) (hen:En P f) (hx:ev L x=some (.func (.func f) fs.toArray cap.toArray)) (hargs:Nl L aas.toList=some vs)
 (hb:fn.body=some c) (hn:fn.ntmps=n') (hl:Nat.ble (fs++vs++cap).length n'=true)
 (h:SW P none n' c (Qtj P fn (fun v w'=>SD P n ops Q (fun _ _=>True) (fun _ _=>false) rest (Zt dst v L) w')) [] (Ie 0 (fs++vs++cap)) w):SD P n ops Q (fun _ _=>True) (fun _ _=>false) ((i,0)::rest) L w:=
 Km hi hg hd (Yu hen hx hargs (Xi n' hf hb hn hl h)) fun v w' hR=>hR
end Go.Sx

end
section
set_option linter.unusedVariables false
namespace Go.Sx
open Go
def Yf (a b:Int):Int:=if a<b then b else a
def Ft (a b:Int):Int:=if b<a then b else a
end Go.Sx

end
section
set_option linter.unusedVariables false
set_option linter.unusedSimpArgs false
namespace Go.Sx
open Go Go.RowKit
theorem Ur {α:Type}(a:α):∃ x,x=a:=⟨a,rfl⟩
section
variable {F:Fence} {n:Nat} {P:Program} {a:Act} {w:World} {Q:Exit→Act→World→Prop}
end
section
variable {P:Program} {r:Option Nat} {n:Nat} {Q:Exit→List Deferred→Slots→World→Prop} {D:List Deferred} {L:Slots} {w:World}
end
section
variable {P:Program} {L:Slots} {w:World} {dst:Option Nat} {ty:TypeId} {pos:String} {af:Array Edge} {gu:Option (Nat × Bool)} {x y q:Operand} {t t2 t3:TypeId} {a b c:Int} {k k2 k3:IntKind}
theorem Qim (hx:ev L x=some (.int k a))(hy:ev L y=some (.int k2 b)):VV P L ⟨dst,.call { callee:=.builtin .max,args := #[x,y],argTypes := #[t,t2] },ty,pos,af,gu⟩ w (.int k (Yf a b)):=fun ρ hρ=>by
 simp[execOp,resolve,invoke,builtin,hρ _ _ hx,hρ _ _ hy,Builtin.max_,Builtin.max2,Yf]
theorem Qvd (hx:ev L x=some (.int k a))(hy:ev L y=some (.int k2 b)):VV P L ⟨dst,.call { callee:=.builtin .min,args := #[x,y],argTypes := #[t,t2] },ty,pos,af,gu⟩ w (.int k (Ft a b)):=fun ρ hρ=>by
 simp[execOp,resolve,invoke,builtin,hρ _ _ hx,hρ _ _ hy,Builtin.min_,Builtin.min2,Ft]
variable {d e:BitVec 64}
end
def BA (P:Program)(t:TypeId)(sz:Nat)(z:List Value):Prop:=∃ n e,P.underlying t=some (.array n e)∧Vu P e sz∧ZV P t (.agg z.toArray)
theorem Qii {P:Program}{L:Slots}{w:World}{dst:Option Nat}{ty:TypeId}{pos:String}{af:Array Edge}{gu:Option (Nat × Bool)}{t:TypeId}{sz:Nat}{z cs:List Value}{parts:Array (Nat × Operand)}{vs:List (Nat × Value)}(hb:BA P t sz z)(hp:Bk L parts.toList=some vs)(hf:Dy (fun i=>some (i*sz,sz)) z vs=some cs):
 VV P L ⟨dst,.build t parts,ty,pos,af,gu⟩ w (.agg cs.toArray):=fun ρ hρ=>by
 obtain⟨n,e,hu,hs,hz⟩:=hb
 have e1:(parts.map fun(x:Nat × Operand)=>(x.1,ρ x.2))=vs.toArray:=by rw[←hρ.mapP hp,←Array.toList_map]
 refine Hs ?_
 show(Instr.build t (parts.map fun(x:Nat × Operand)=>(x.1,ρ x.2))).run P w=_
 rw[e1]
 simp only[Instr.build,Sem.run_bind,hz w,Result.andThen,run_underlying hu,hs w,Value.cells,Qfq vs z cs hf];rfl
section
variable {P:Program} {L:Slots} {w:World} {dst:Option Nat} {ty:TypeId} {pos:String} {af:Array Edge} {gu:Option (Nat × Bool)} {x:Operand} {t u e:TypeId} {v:Value} {z g o sz:Nat} {α:Type} {l:List α} {c:α→List Value}
end
section
variable {P:Program} {L:Slots} {w:World} {dst:Option Nat} {ty:TypeId} {pos:String} {af:Array Edge} {gu:Option (Nat × Bool)} {x y p q r:Operand} {t e:TypeId} {v:Value} {z g o sz N:Nat} {α:Type} {l m k:List α} {c:α→List Value} {lo hi:Int} {kl kh km:IntKind}
end
end Go.Sx

end
section
set_option linter.unusedVariables false
set_option linter.unusedSimpArgs false
namespace Go.Sx
open Go Go.RowKit
theorem Xi2 (n:Int):IntKind.u8.wrap n=n%256:=by simp[IntKind.wrap,IntKind.bits,IntKind.signed]
theorem Qsj (x:BitVec 8):BitVec.ofInt 8 (Qs x)=x:=by unfold Qs;rw[BitVec.ofInt_natCast,BitVec.ofNat_toNat,BitVec.setWidth_eq]
theorem wr8 (x:BitVec 8):IntKind.u8.wrap (x.toNat:Int)=Qs x:=by rw[Xi2];unfold Qs;have:=x.isLt;omega
theorem Qw1 (x y:BitVec 8):bits .xor .u8 (Qs x) (Qs y)=Qs (x ^^^ y):=by
 show IntKind.u8.wrap ((BitVec.ofInt 8 (Qs x) ^^^ BitVec.ofInt 8 (Qs y)).toNat:Int)=_
 rw[Qsj,Qsj,wr8]
section
variable {P:Program} {L:Slots} {w:World} {dst:Option Nat} {ty:TypeId} {pos:String} {af:Array Edge} {gu:Option (Nat × Bool)} {x y:Operand} {t u e:TypeId} {a b:BitVec 8}
theorem Xhw (hx:ev L x=some (bv a))(hy:ev L y=some (bv b)):VV P L ⟨dst,.binOp .xor t x y u,ty,pos,af,gu⟩ w (bv (a ^^^ b)):=Kb (Qbm (by simp) hx hy) (by rw[Qw1])
theorem Xa8 {bt off cp z2 g2 o2:Nat}{tb:TypeId}{cs cs':List Value}{p:W2}{v:Value}{s:List (BitVec 8)}(ha:Dt P t e 1 1)(hx:ev L x=some (.slice (some ⟨bt,off,none⟩) 16 cp))(hy:ev L y=some v)(hb:Bx w bt tb cs)(h:(cs.drop off).take 16=kb p)(hr:Rd w z2 g2 o2 1 v (s.map Jg))
 (hl:Nat.ble (off+16) cs.length=true) (he:Vd cs off (kb (Hr (Gj (Ze p) s)))=cs'):
 EV P L ⟨dst,.call { callee:=.builtin .copy,args := #[x,y],argTypes := #[t,t] },ty,pos,af,gu⟩ w fun v' w'=>v'=.int .i64 (Ru (Ze p) s)∧Bx w' bt tb cs'∧Md bt w w':=fun ρ hρ=>by
 obtain⟨i,zv,hi,hzv,hsz,hby,hzs⟩:=ha.info
 have hl':=Nat.le_of_ble_eq_true hl
 have hs1:(P.info? e).map (·.size)=some 1:=by rw[hi];simp[hsz]
 have hkl:(Gj (Ze p) s).length=16:=by simp[Gj,Vq];omega
 have hkb:Ze (Hr (Gj (Ze p) s))=Gj (Ze p) s:=by rw[Qd2 (by omega),List.take_of_length_le (by omega)]
 have Nn:∀ v' w',(Builtin.copy_ #[t,t] ty #[.slice (some ⟨bt,off,none⟩) 16 cp,v]).run P w=.ok v' w'→(execOp ρ ⟨dst,.call { callee:=.builtin .copy,args := #[x,y],argTypes := #[t,t] },ty,pos,af,gu⟩).run P w=.ok (.value v') w':=fun v' w' h1=>by
  simp[execOp,resolve,invoke,builtin,hρ _ _ hx,hρ _ _ hy,h1]
 have hkey:∀ m:List Value,(∃ k,k≤16∧m=(((s.map Jg).flatten).take k)∧Gj (Ze p) s=s.take k++(Ze p).drop k∧m.length=k)→Vd cs off m=cs':=by
  rintro m ⟨k,hk,rfl,hc,hml⟩
  rw[←he,Fj,hkb,hc]
  have e0:((s.take k++(Ze p).drop k).map Jg).flatten=((s.map Jg).flatten).take k++(kb p).drop k:=by
   have w1:Ws 1 (s.map Jg):=Pb _ (fun _=>rfl) (fun _=>rfl)
   have w2:Ws 1 ((Ze p).map Jg):=Pb _ (fun _=>rfl) (fun _=>rfl)
   rw[List.map_append,List.flatten_append,List.map_take,List.map_drop,Qfs _ _ w1,Qfr _ _ w2,←Fj,Nat.mul_one]
  have hkbl:(kb p).length=16:=rfl
  have hlen:(((s.map Jg).flatten).take k++(kb p).drop k).length=16:=by rw[List.length_append,hml,List.length_drop,hkbl];omega
  unfold Vd
  rw[e0,hlen,hml,←h]
  simp only[List.append_assoc]
  congr 2
  rw[List.drop_take,List.drop_drop]
  have e1:off+16=off+k+(16-k):=by omega
  rw[e1,←List.drop_drop (i:=16-k) (j:=off+k),List.take_append_drop]
 rcases hr.2 with⟨hz2,hs0,a,cap,rfl⟩|⟨hz2,cap,rfl,Jc,hcell⟩
 · have hs0':s=[]:=by simpa using hs0
   subst hs0'
   refine .val _ _ (Nn _ _ (run_copy_none w t t ty e (some ⟨bt,off,none⟩) a 16 cp 0 cap ha.und hs1 (by simp))) ⟨by simp[Ru,goInt],?_,Md.refl _ _⟩
   rw[←hkey [] ⟨0,by omega,by simp,by simp[Gj],rfl⟩,Qib];exact hb
 · have hfs:(s.map Jg).flatten.length=s.length:=by rw[hr.1.flat,List.length_map];omega
   have hvl:((s.map Jg).flatten.take (min s.length 16)).length=min s.length 16:=by rw[List.length_take,hfs];omega
   have hld:(loadCells ⟨g2,o2,none⟩ (min s.length 16)).run P w=.ok ((s.map Jg).flatten.take (min s.length 16)).toArray w:=by
    have:=run_loadCells_list (P:=P) w ⟨g2,o2,none⟩ ((s.map Jg).flatten.take (min s.length 16)) (fun j u hj=>by
     rw[Addr.add_lit]
     refine hcell j u ?_
     rw[List.getElem?_take] at hj
     split at hj
     · exact hj
     · cases hj)
    rw[hvl] at this;exact this
   have hone:∀ u∈(s.map Jg).flatten.take (min s.length 16),u.oneCell'=true:=fun u hu=>hr.1.one u (List.mem_of_mem_take hu)
   obtain⟨w',hrun,hb',hmd⟩:=Qn1 (P:=P) (off:=off) _ 0 w cs hone hb (by rw[hvl];omega)
   refine .val _ w' (Nn _ _ ?_) ⟨rfl,?_,hmd⟩
   · have e1:Nat.min (s.map Jg).length 16=min s.length 16:=by rw[List.length_map]
     have e2:min s.length (Ze p).length=min s.length 16:=by rw[Vq]
     simp[Builtin.copy_,run_underlying ha.und,Builtin.lenOf,Builtin.firstCells,sizeOf,typeInfo,hi,hsz,hld,hrun,goInt,Ru,e2]
   · rw[Nat.add_zero] at hb'
     rw[←hkey _ ⟨min s.length 16,by omega,rfl,?_,hvl⟩];exact hb'
     unfold Gj
     rw[Vq]
     by_cases hle:s.length≤16
     · rw[Nat.min_eq_left hle,List.take_of_length_le (by omega),List.take_of_length_le (by omega)]
     · rw[Nat.min_eq_right (by omega),List.drop_eq_nil_of_le (by rw[Vq];omega),List.drop_eq_nil_of_le (by rw[Vq];omega)]
end
section
variable {P:Program} {L:Slots} {w:World} {dst:Option Nat} {ty:TypeId} {pos:String} {af:Array Edge} {gu:Option (Nat × Bool)} {x y:Operand} {t u e:TypeId}
theorem Qbn {len b' off sz:Nat}{i:Int}{k:IntKind}(hu:P.underlying t=some (.array len e))(hs:Vu P e sz)(hx:ev L x=some (.pointer (some ⟨b',off,none⟩)))(hy:ev L y=some (.int k i))(h0:0≤i∧i<len):
 VV P L ⟨dst,.indexAddr t x y,ty,pos,af,gu⟩ w (.pointer (some ⟨b',off+i.toNat*sz,none⟩)):=Ao hu hs hx hy h0.1 h0.2
end
end Go.Sx

end
section
set_option linter.unusedVariables false
set_option linter.unusedSimpArgs false
namespace Go.Sx
open Go Go.RowKit
structure Rp (α:Type) where
 γ:Type
 sz:Nat
 c:α × γ→List Value
 S:World→List Nat→α × γ→Prop
 ws:∀ {w F p},S w F p→(c p).length=sz∧Zj (c p)=true
 keep:∀ {w w' F p},S w F p→w.heap.size≤w'.heap.size→(∀ b∈F,b<w.heap.size→w'.heap[b]? = w.heap[b]?)→S w' F p
 mono:∀ {w F F' p},S w F p→(∀ b∈F,b∈F')→S w F' p
def Jz {α:Type}(R:Rp α)(w:World)(z g:Nat)(e:TypeId)(v:Value)(F:List Nat)(l:List α):Prop:=
 ∃ lg:List (α × R.γ),lg.map Prod.fst=l∧Qg w z g e R.sz v (lg.map R.c)∧(∀ p∈lg,R.S w F p)∧(∀ b∈F,b<w.heap.size)∧(z=0∨∀ b∈F,b≠g)
def Vh {α:Type}(R:Rp α)(w:World)(z g o:Nat)(v:Value)(F:List Nat)(l:List α):Prop:=
 ∃ lg:List (α × R.γ),lg.map Prod.fst=l∧Rd w z g o R.sz v (lg.map R.c)∧(∀ p∈lg,R.S w F p)∧(∀ b∈F,b<w.heap.size)
section
variable {α:Type} {R:Rp α} {w w' w₁:World} {z g o b z' g':Nat} {e:TypeId} {v:Value} {F F':List Nat} {l:List α} {lz:List (Nat × Nat)} {ms:List Nat}
theorem Jz.rd (h:Jz R w z g e v F l):Vh R w z g 0 v F l:=by
 obtain⟨lg,h1,h2,h3,h4,h5⟩:=h;exact⟨lg,h1,h2.rd,h3,h4⟩
theorem Jz.keep (h:Jz R w z g e v F l)(hs:w.heap.size≤w'.heap.size)(hg:z=0∨(g<w.heap.size→w'.heap[g]? = w.heap[g]?))(hF:∀ b∈F,b<w.heap.size→w'.heap[b]? = w.heap[b]?):Jz R w' z g e v F l:=by
 obtain⟨lg,h1,h2,h3,h4,h5⟩:=h
 exact⟨lg,h1,h2.keep hg,fun p hp=>R.keep (h3 p hp) hs hF,fun b hb=>Nat.lt_of_lt_of_le (h4 b hb) hs,h5⟩
theorem Vh.keep (h:Vh R w z g o v F l)(hs:w.heap.size≤w'.heap.size)(hg:z=0∨(g<w.heap.size→w'.heap[g]? = w.heap[g]?))(hF:∀ b∈F,b<w.heap.size→w'.heap[b]? = w.heap[b]?):Vh R w' z g o v F l:=by
 obtain⟨lg,h1,h2,h3,h4⟩:=h
 exact⟨lg,h1,h2.keep hg hs,fun p hp=>R.keep (h3 p hp) hs hF,fun b hb=>Nat.lt_of_lt_of_le (h4 b hb) hs⟩
theorem Jz.gr (h:Jz R w z g e v F l)(k:Gr w w'):Jz R w' z g e v F l:=h.keep k.size (.inr fun hl=>k.block g hl) (fun b _ hl=>k.block b hl)
theorem Vh.gr (h:Vh R w z g o v F l)(k:Gr w w'):Vh R w' z g o v F l:=h.keep k.size (.inr fun hl=>k.block g hl) (fun b _ hl=>k.block b hl)
theorem Jz.md (h:Jz R w z g e v F l)(k:Md b w w')(hn:z=0∨g≠b)(hF:∀ x∈F,1=0∨x≠b):Jz R w' z g e v F l:=h.keep (Nat.le_of_eq k.size.symm) (hn.imp id fun hn _=>k.block g hn) (fun x hx _=>k.block x ((hF x hx).resolve_left (by decide)))
theorem Vh.md (h:Vh R w z g o v F l)(k:Md b w w')(hn:z=0∨g≠b)(hF:∀ x∈F,1=0∨x≠b):Vh R w' z g o v F l:=h.keep (Nat.le_of_eq k.size.symm) (hn.imp id fun hn _=>k.block g hn) (fun x hx _=>k.block x ((hF x hx).resolve_left (by decide)))
theorem Jz.ka (h:Jz R w z g e v F l)(k:Ka z' g' w w')(hn:z=0∨z'=0∨g≠g')(hF:∀ x∈F,z'=0∨x≠g'):Jz R w' z g e v F l:=h.keep k.size (hn.imp id fun hn hl=>k.block g hl hn) (fun x hx hl=>k.block x hl (hF x hx))
theorem Vh.ka (h:Vh R w z g o v F l)(k:Ka z' g' w w')(hn:z=0∨z'=0∨g≠g')(hF:∀ x∈F,z'=0∨x≠g'):Vh R w' z g o v F l:=h.keep k.size (hn.imp id fun hn hl=>k.block g hl hn) (fun x hx hl=>k.block x hl (hF x hx))
theorem Jz.kz (h:Jz R w z g e v F l)(k:Kz lz w w')(hn:z=0∨Zh lz g)(hF:∀ x∈F,Zh lz x):Jz R w' z g e v F l:=h.keep k.size (hn.imp id fun hn hl=>k.block g hl hn) (fun x hx hl=>k.block x hl (hF x hx))
theorem Vh.kz (h:Vh R w z g o v F l)(k:Kz lz w w')(hn:z=0∨Zh lz g)(hF:∀ x∈F,Zh lz x):Vh R w' z g o v F l:=h.keep k.size (hn.imp id fun hn hl=>k.block g hl hn) (fun x hx hl=>k.block x hl (hF x hx))
theorem Jz.kp (h:Jz R w z g e v F l)(k:Kp ms w w')(hn:z=0∨g∉ms)(hF:∀ x∈F,x∉ms):Jz R w' z g e v F l:=h.keep k.size (hn.imp id fun hn hl=>k.block g hl hn) (fun x hx hl=>k.block x hl (hF x hx))
theorem Vh.kp (h:Vh R w z g o v F l)(k:Kp ms w w')(hn:z=0∨g∉ms)(hF:∀ x∈F,x∉ms):Vh R w' z g o v F l:=h.keep k.size (hn.imp id fun hn hl=>k.block g hl hn) (fun x hx hl=>k.block x hl (hF x hx))
theorem Jz.lth (h:Jz R w z g e v F l):Xd (z=0∨(z=1∧g<w.heap.size)):=by obtain⟨lg,h1,h2,_⟩:=h;exact h2.lth
theorem Vh.lth (h:Vh R w z g o v F l):Xd (z=0∨(z=1∧g<w.heap.size)):=by obtain⟨lg,h1,h2,_⟩:=h;exact h2.lth
theorem Jz.flt (h:Jz R w z g e v F l):∀ b∈F,b<w.heap.size:=by obtain⟨lg,h1,h2,h3,h4,_⟩:=h;exact h4
theorem Vh.flt (h:Vh R w z g o v F l):∀ b∈F,b<w.heap.size:=by obtain⟨lg,h1,h2,h3,h4⟩:=h;exact h4
theorem Jz.oneB (h:Jz R w z g e v F l):Sx.oneB v=true:=by obtain⟨lg,h1,h2,_⟩:=h;exact h2.oneB
theorem Vh.oneB (h:Vh R w z g o v F l):Sx.oneB v=true:=by obtain⟨lg,h1,h2,_⟩:=h;exact h2.oneB
theorem Qsp (R:Rp α)(w:World)(g:Nat)(e:TypeId):Jz R w 0 g e (.slice none 0 0) [] []:=⟨[],rfl,Zi w g e R.sz,nofun,nofun,.inl rfl⟩
theorem Jz.z1 {i:Int}{a:α}(h:Jz R w z g e v F l)(hg:Xr l i=some a):z=1:=by
 obtain⟨lg,h1,h2,_⟩:=h
 rcases h2.2 with⟨_,_,h0⟩|⟨h0,_⟩
 · have:=Fe hg
   rw[←h1,List.map_eq_nil_iff.1 h0] at this;simp at this
 · exact h0
theorem Qgc {β:Type}{lg:List (α × β)}(h:lg.map Prod.fst=l):lg.length=l.length:=by rw[←h,List.length_map]
theorem Xav {β:Type}{lg:List (α × β)}{i:Int}{a:α}(h:lg.map Prod.fst=l)(hg:Xr l i=some a):∃ x,Xr lg i=some (a,x):=by
 have h0:=Bq hg
 have h1:=Fe hg
 rw[←h,List.getElem?_map] at h1
 cases hx:lg[i.toNat]? with
 | none=>rw[hx] at h1;cases h1
 | some p=>
  rw[hx] at h1
  have:p.1=a:=Option.some.inj h1
  exact⟨p.2,by unfold Xr;rw[if_pos h0,hx,←this]⟩
theorem Vh.at {i:Int}{a:α}(h:Vh R w z g o v F l)(hg:Xr l i=some a):∃ (lg:List (α × R.γ)) (x:R.γ),Rd w z g o R.sz v (lg.map R.c)∧Xr lg i=some (a,x)∧R.S w F (a,x):=by
 obtain⟨lg,h1,h2,h3,h4⟩:=h
 obtain⟨x,hx⟩:=Xav h1 hg
 exact⟨lg,x,h2,hx,h3 _ (List.mem_of_getElem? (Fe hx))⟩
variable {P:Program} {L:Slots} {dst:Option Nat} {ty:TypeId} {pos:String} {af:Array Edge} {gu:Option (Nat × Bool)} {x y:Operand} {t:TypeId}
theorem Xhj (hu:P.underlying t=some (.slice e))(hx:ev L x=some v)(hr:Vh R w z g o v F l):VV P L ⟨dst,.call { callee:=.builtin .len,args := #[x],argTypes := #[t] },ty,pos,af,gu⟩ w (.int .i64 (l.length:Int)):=by
 obtain⟨lg,h1,h2,_⟩:=hr
 exact Qvc hu hx h2 (by rw[List.length_map,Qgc h1])
theorem Xhg {i:Int}{a:α}{kd:IntKind}(hu:P.underlying t=some (.slice e))(hs:Vu P e R.sz)(hx:ev L x=some v)(hr:Vh R w z g o v F l)(hy:ev L y=some (.int kd i))(hg:Xr l i=some a):
 VV P L ⟨dst,.indexAddr t x y,ty,pos,af,gu⟩ w (.pointer (some ⟨g,o+i.toNat*R.sz,none⟩)):=by
 obtain⟨lg,h1,h2,_⟩:=hr
 exact Qvb hu hs hx h2 (by rw[List.length_map,Qgc h1]) hy (Bq hg) (Qal hg)
theorem Xa6 {bytes z2 g2 o2:Nat}{u:Value}{m k:List α}{F2:List Nat}(ha:Dt P t e R.sz bytes)(hx:ev L x=some v)(hy:ev L y=some u)(h:Jz R w z g e v F l)(hr:Vh R w z2 g2 o2 u F2 m)(hb:Vy bytes l m=some k)(hpos:1≤bytes)(hF:∀ b∈F2,z=0∨b≠g):
 EV P L ⟨dst,.call { callee:=.builtin .append,args := #[x,y],argTypes := #[t,t] },ty,pos,af,gu⟩ w fun v' w'=>∃ z' g',Jz R w' z' g' e v' (F++F2) k∧Ka z g w w'∧Xd (z'=0∨(z'=1∧g'<w'.heap.size))∧Xd ((g'=g∧z=1)∨w.heap.size≤g'∨z'=0):=by
 obtain⟨lg,h1,h2,h3,h4,h5⟩:=h
 obtain⟨mg,m1,m2,m3,m4⟩:=hr
 obtain⟨rfl,hb2⟩:=Qnv hb
 have e1:Vy bytes lg mg=some (lg++mg):=by unfold Vy;rw[Qgc h1,Qgc m1,if_pos hb2]
 refine(Nk ha hx hy h2 m2 e1 hpos).mono ?_
 rintro v' w' ⟨z',g',q1,q2,q3,q4⟩
 refine⟨z',g',⟨lg++mg,by rw[List.map_append,h1,m1],q1,?_,?_,?_⟩,q2,q3,q4⟩
 · have kF:∀ b∈F++F2,b<w.heap.size→w'.heap[b]? = w.heap[b]? := fun b hb hl=>q2.block b hl (by
    rcases List.mem_append.1 hb with hb|hb
    · exact h5.imp id fun h5=>h5 b hb
    · exact hF b hb)
   intro p hp
   rcases List.mem_append.1 hp with hp|hp
   · exact R.keep (R.mono (h3 p hp) fun b hb=>List.mem_append_left _ hb) q2.size kF
   · exact R.keep (R.mono (m3 p hp) fun b hb=>List.mem_append_right _ hb) q2.size kF
 · intro b hb
   rcases List.mem_append.1 hb with hb|hb
   · exact Nat.lt_of_lt_of_le (h4 b hb) q2.size
   · exact Nat.lt_of_lt_of_le (m4 b hb) q2.size
 · rcases q4.o with⟨rfl,hz⟩|hn|h0
   · refine .inr fun b hb=>?_
     rcases List.mem_append.1 hb with hb|hb
     · exact(h5.resolve_left (by omega)) b hb
     · exact(hF b hb).resolve_left (by omega)
   · refine .inr fun b hb=>?_
     rcases List.mem_append.1 hb with hb|hb
     · have:=h4 b hb;omega
     · have:=m4 b hb;omega
   · exact .inl h0
theorem Xa9 {len:Nat}{zs cs:List Value}{parts:Array (Nat × Operand)}{vs:List (Nat × Value)}(lg:List (α × R.γ))(hb:Du P t len e R.sz zs)(hp:Bk L parts.toList=some vs)(hf:Dy (fun i=>some (i*R.sz,R.sz)) zs vs=some cs)
 (hx:cs=(lg.map R.c).flatten) (hl:lg.length=len) (hm:Nat.ble len 1000000=true) (hS:∀ p∈lg,R.S w F p) (hF:∀ b∈F,b<w.heap.size):
 EV P L ⟨dst,.buildSlice t len parts,ty,pos,af,gu⟩ w fun v' w'=>∃ g',w.heap.size≤g'∧Jz R w' 1 g' e v' F (lg.map Prod.fst)∧Gr w w':=by
 refine(Ha lg R.c hb hp hf (fun y hy=>?_) hx hl hm).mono ?_
 · obtain⟨p,hp,rfl⟩:=List.mem_map.1 hy
   exact R.ws (hS p hp)
 · rintro v' w' ⟨g',h1,h2,h3⟩
   exact⟨g',h1,⟨lg,rfl,h2,fun p hp=>R.keep (hS p hp) h3.size (fun b _ hl=>h3.block b hl),fun b hb=>Nat.lt_of_lt_of_le (hF b hb) h3.size,.inr fun b hb=>by have:=hF b hb;omega⟩,h3⟩
end
def Xf2 {α β:Type}(sz:Nat)(cs:α→Value→List Value)(f:α→List β)(k:Nat)(c:β→List Value)(hcs:∀ a v,oneB v=true→(cs a v).length=sz∧Zj (cs a v)=true):Rp α where
 γ:=Value
 sz:=sz
 c p:=cs p.1 p.2
 S w F p:=∃ z g o,Rd w z g o k p.2 ((f p.1).map c)∧(z=0∨g∈F)
 ws:=fun⟨z,g,o,h,_⟩=>hcs _ _ h.oneB
 keep:=fun⟨z,g,o,h,hg⟩ hs hF=>⟨z,g,o,h.keep (hg.imp id fun hg hl=>hF g hg hl) hs,hg⟩
 mono:=fun⟨z,g,o,h,hg⟩ hF=>⟨z,g,o,h,hg.imp id fun hg=>hF g hg⟩
section
variable {α:Type} {R:Rp α} {w:World} {F F':List Nat} {l:List α} {v:Value}
end
section
variable {α β:Type} {w:World} {z g o k sz:Nat} {F:List Nat} {v:Value} {i:Int}
variable {R:Rp α} {l:List α} {a:α} {P:Program} {L:Slots} {dst:Option Nat} {ty:TypeId} {pos:String} {af:Array Edge} {gu:Option (Nat × Bool)} {x y:Operand} {t e:TypeId}
theorem Xh8 {p q:Nat}{u:Value}(h1:Ku P t)(hx:ev L x=some (.pointer (some ⟨g,p,none⟩)))(hr:Vh R w z g o v F l)(hg:Xr l i=some a)(hp:p=o+(i.toNat*R.sz+q))(hc:∀ x,(R.c (a,x))[q]? = some u):VV P L ⟨dst,.load t x,ty,pos,af,gu⟩ w u:=by
 obtain⟨lg,x,h2,h3,_⟩:=hr.at hg
 exact Hl h1 hx h2 h3 hp (hc x)
end
section
variable {A:Nat→Prop} {F F2 F3:List Nat} {z g n n2 x:Nat}
theorem Ll:∀ x∈([]:List Nat),A x:=nofun
theorem Qac (h1:∀ x∈F,A x)(h2:∀ x∈F2,A x):∀ x∈F++F2,A x:=fun x hx=>(List.mem_append.1 hx).elim (h1 x) (h2 x)
theorem Bm (h:z=0∨A g):∀ x∈zf z g,A x:=fun x hx=>by
 obtain⟨h1,rfl⟩:=Xt.1 hx
 exact h.resolve_left h1
def Pv (F:List Nat)(zs:List (Nat × Nat))(n x:Nat):Prop:=x∈F∨Mz zs x∨n≤x
theorem Bl {zs:List (Nat × Nat)}(h:∀ x∈F,Pv F2 zs n x)(h1:∀ x∈F2,A x)(h2:∀ x,Mz zs x→A x)(h3:∀ x,n≤x→A x):∀ x∈F,A x:=fun x hx=>(h x hx).elim (h1 x) fun h=>h.elim (h2 x) (h3 x)
theorem Cc:∀ x,Mz [] x→A x:=nofun
theorem Xi8 {w:World}(h:z=0∨(z=1∧g<w.heap.size)):∀ b∈zf z g,b<w.heap.size:=Bm (h.imp id And.right)
theorem Qgl {b:Nat}(h:z=0∨g≠b):z=0∨1=0∨g≠b:=h.imp id .inr
theorem Qt6 {zs:List (Nat × Nat)}{F':List Nat}(h:z=0∨Mz zs g∨n≤g):z=0∨Pv F' zs n g:=h.imp id .inr
theorem Xb1 (z g:Nat):z=0∨g∈zf z g:=by
 by_cases h:z=0
 · exact .inl h
 · exact .inr (Xt.2 ⟨h,rfl⟩)
end
end Go.Sx

end
section
set_option linter.unusedVariables false
set_option linter.unusedSimpArgs false
namespace Go.Sx
open Go Go.RowKit
def Yp (b:Bool)(n:Nat)(ops:Array Oper)(L:Slots)(i:Nat):Option Oper:=
 match ops[i]? with
 | some o=>match gd ops L o with
  | some g=>bif (g == b)&&Ya n o.dst then some o else none
  | none=>none
 | none=>none
theorem Vl {b:Bool}{n:Nat}{ops:Array Oper}{L:Slots}{i:Nat}{o:Oper}(h:Yp b n ops L i=some o):ops[i]? = some o∧gd ops L o=some b∧Ya n o.dst=true:=by
 unfold Yp at h
 split at h
 · rename_i o' ho
   split at h
   · rename_i g hg
     cases hc:(g == b)&&Ya n o'.dst with
     | false=>rw[hc] at h;cases h
     | true=>
      rw[hc] at h;cases h
      rw[Bool.and_eq_true] at hc
      exact⟨ho,by rw[hg,beq_iff_eq.1 hc.1],hc.2⟩
   · cases h
 · cases h
def od:Nat→Nat→List (Nat × Nat)
 | 0,_=>[]
 | n+1,i=>(i,0)::od n (i+1)
theorem Qsh:∀ n i,(od n i).map (·.1)=List.range' i n
 | 0,_=>rfl
 | n+1,i=>by rw[od,List.map_cons,Qsh n (i+1)];rfl
theorem Qsi:∀ n i,((od n i).all fun x=>(Tx x.2).isNone)=true
 | 0,_=>rfl
 | n+1,i=>by rw[od,List.all_cons,Qsi n (i+1)];rfl
section
variable {P:Program} {r:Option Nat} {n:Nat} {Q:Exit→List Deferred→Slots→World→Prop} {D:List Deferred} {L:Slots} {w:World}
theorem qr {id:Nat}{ops:Array Oper}(k:Nat)(hk:ops.size=k)(hnd:Vo ops=true)(h:SD P n ops (fun L w=>Q .normal D L w) (fun _ _=>True) (fun _ _=>false) (od k 0) L w):SW P r n (.region id ops false) Q D L w:=
 Zg (od k 0) hnd (Qsi k 0) (by rw[Qsh,hk,List.range_eq_range']) h
theorem qsr {id:Nat}{ops:Array Oper}{y:Code}(k:Nat)(hk:ops.size=k)(hnd:Vo ops=true)(h:SD P n ops (fun L w=>Ht (fun D L w=>SW P r n y Q D L w) Q .normal D L w) (fun _ _=>True) (fun _ _=>false) (od k 0) L w):SW P r n (.seq (.region id ops false) y) Q D L w:=
 Qe (qr k hk hnd h)
theorem qj {x y:Code}{β:Type}(dead:List Nat)(dyn:β→Slots)(J:β→World→Prop)(h:SW P r n x (Ht (fun D1 L1 w1=>D1=D∧∃ b,Py (dyn b++Ph dead L) L1∧J b w1) Q) D L w)(hk:∀ b w1,J b w1→SW P r n y Q D (dyn b++Ph dead L) w1):SW P r n (.seq x y) Q D L w:=Xgc dead dyn J hk h
end
theorem Ql {A B:Slots}(h:Py A B:=by repeat' first|exact trivial|refine⟨rfl,?_⟩):Py A B:=h
section
variable {P:Program} {n:Nat} {ops:Array Oper} {Q:Slots→World→Prop} {rest:List (Nat × Nat)} {i:Nat} {dst:Option Nat} {op:Op} {ty:TypeId} {pos:String} {af:Array Edge} {gu:Option (Nat × Bool)} {L:Slots} {w:World}
theorem qv {v:Value}(hi:Yp true n ops L i=some ⟨dst,op,ty,pos,af,gu⟩)(hv:VV P L ⟨dst,op,ty,pos,af,gu⟩ w v)(h:SD P n ops Q (fun _ _=>True) (fun _ _=>false) rest (Zt dst v L) w):SD P n ops Q (fun _ _=>True) (fun _ _=>false) ((i,0)::rest) L w:=
 Qu (Vl hi).1 (Vl hi).2.1 (Vl hi).2.2 hv h
theorem qe {R:Value→World→Prop}(hi:Yp true n ops L i=some ⟨dst,op,ty,pos,af,gu⟩)(hv:EV P L ⟨dst,op,ty,pos,af,gu⟩ w R)(h:∀ v w',R v w'→SD P n ops Q (fun _ _=>True) (fun _ _=>false) rest (Zt dst v L) w'):SD P n ops Q (fun _ _=>True) (fun _ _=>false) ((i,0)::rest) L w:=
 Km (Vl hi).1 (Vl hi).2.1 (Vl hi).2.2 hv h
theorem qk (hi:Yp false n ops L i=some ⟨dst,op,ty,pos,af,gu⟩)(h:SD P n ops Q (fun _ _=>True) (fun _ _=>false) rest (Zt dst undef L) w):SD P n ops Q (fun _ _=>True) (fun _ _=>false) ((i,0)::rest) L w:=
 Xf9 (Vl hi).1 (Vl hi).2.1 (Vl hi).2.2 h
theorem qp {t:Bool}(hi:Yp true n ops L i=some ⟨dst,op,ty,pos,af,gu⟩)(hv:VV P L ⟨dst,op,ty,pos,af,gu⟩ w (.bool t))(ht:t=true→SD P n ops Q (fun _ _=>True) (fun _ _=>false) rest (Zt dst (.bool true) L) w)(hf:t=false→SD P n ops Q (fun _ _=>True) (fun _ _=>false) rest (Zt dst (.bool false) L) w):SD P n ops Q (fun _ _=>True) (fun _ _=>false) ((i,0)::rest) L w:=
 Xfa (Vl hi).1 (Vl hi).2.1 (Vl hi).2.2 hv ht hf
theorem qt {R:Value→Nat→Prop}(hi:Yp true n ops L i=some ⟨dst,op,ty,pos,af,gu⟩)(hv:∃ v o,(∀ w1,VV P L ⟨dst,op,ty,pos,af,gu⟩ w1 v)∧R v o)(h:∀ v o,R v o→SD P n ops Q (fun _ _=>True) (fun _ _=>false) rest (Zt dst v L) w):SD P n ops Q (fun _ _=>True) (fun _ _=>false) ((i,0)::rest) L w:=by
 obtain⟨v,o,h1,h2⟩:=hv
 exact qv hi (h1 w) (h v o h2)
variable {w₀:World} {mss:List (List Nat)} {ms:List Nat} {kp:Nat→Nat→Bool}
theorem qh {v:Value}(k:Nat)(hi:Yp true n ops L i=some ⟨dst,op,ty,pos,af,gu⟩)(hm:mss[k]? = some ms)(hS:Kp ms w₀ w)(hv:∀ w,Kp ms w₀ w→VV P L ⟨dst,op,ty,pos,af,gu⟩ w v)(h:SD P n ops Q (Jj mss w₀) kp rest (Zt dst v L) w):SD P n ops Q (Jj mss w₀) kp ((i,k+10)::rest) L w:=
 Qf0 k (Vl hi).1 (Vl hi).2.1 (Vl hi).2.2 hm hS hv h
theorem qx (k:Nat)(hi:Yp false n ops L i=some ⟨dst,op,ty,pos,af,gu⟩)(hm:mss[k]? = some ms)(hS:Kp ms w₀ w)(h:SD P n ops Q (Jj mss w₀) kp rest (Zt dst undef L) w):SD P n ops Q (Jj mss w₀) kp ((i,k+10)::rest) L w:=
 Qy1 k (Vl hi).1 (Vl hi).2.1 (Vl hi).2.2 hm hS h
theorem qq {t:Bool}(k:Nat)(hi:Yp true n ops L i=some ⟨dst,op,ty,pos,af,gu⟩)(hm:mss[k]? = some ms)(hS:Kp ms w₀ w)(hv:∀ w,Kp ms w₀ w→VV P L ⟨dst,op,ty,pos,af,gu⟩ w (.bool t))(ht:t=true→SD P n ops Q (Jj mss w₀) kp rest (Zt dst (.bool true) L) w)(hf:t=false→SD P n ops Q (Jj mss w₀) kp rest (Zt dst (.bool false) L) w):SD P n ops Q (Jj mss w₀) kp ((i,k+10)::rest) L w:=
 Qy0 k (Vl hi).1 (Vl hi).2.1 (Vl hi).2.2 hm hS hv ht hf
theorem qz {R:Value→World→Prop}(l:List (Nat × Nat))(hi:Yp true n ops L i=some ⟨dst,op,ty,pos,af,gu⟩)(hv:EV P L ⟨dst,op,ty,pos,af,gu⟩ w R)(hb:Au (fun k ms=>kp k i=true→Vg l (ms.map fun b=>(1,b)) w₀.heap.size) 0 mss)(h:∀ v w',R v w'→Kz l w w'∧SD P n ops Q (Jj mss w₀) kp rest (Zt dst v L) w'):SD P n ops Q (Jj mss w₀) kp ((i,0)::rest) L w:=
 Qy5 l (Vl hi).1 (Vl hi).2.1 (Vl hi).2.2 hv hb h
theorem qw {v:Value}(hi:Yp true n ops L i=some ⟨dst,op,ty,pos,af,gu⟩)(hv:VV P L ⟨dst,op,ty,pos,af,gu⟩ w v)(h:SD P n ops Q (Jj mss w₀) kp rest (Zt dst v L) w):SD P n ops Q (Jj mss w₀) kp ((i,0)::rest) L w:=
 Qy3 (Vl hi).1 (Vl hi).2.1 (Vl hi).2.2 hv h
theorem qy (hi:Yp false n ops L i=some ⟨dst,op,ty,pos,af,gu⟩)(h:SD P n ops Q (Jj mss w₀) kp rest (Zt dst undef L) w):SD P n ops Q (Jj mss w₀) kp ((i,0)::rest) L w:=
 Qy2 (Vl hi).1 (Vl hi).2.1 (Vl hi).2.2 h
end
theorem iT {p:Prop}[Decidable p]{α:Type}{a b:Option α}{r:α}(h:decide p=true)(hm:(if p then a else b)=some r):a=some r:=Hg (of_decide_eq_true h) hm
theorem iF {p:Prop}[Decidable p]{α:Type}{a b:Option α}{r:α}(h:decide p=false)(hm:(if p then a else b)=some r):b=some r:=Hf (of_decide_eq_false h) hm
def Ql5:List Value→Nat→Option Value
 | [],_=>none
 | v::_,0=>some v
 | _::r,k+1=>Ql5 r k
theorem Qsd:∀ {l:List Value} {k:Nat} {v:Value},Ql5 l k=some v→l[k]? = some v
 | [],_,_,h=>by cases h
 | a::r,0,v,h=>h
 | a::r,k+1,v,h=>by rw[List.getElem?_cons_succ];exact Qsd h
def Qhp (L:Slots):Op→Option Value
 | .move x=>ev L x
 | .assign x=>ev L x
 | .extract x q=>match ev L x with
  | some (.tuple vs)=>Ql5 vs.toList q
  | _=>none
 | .pick c a b=>match ev L c with
  | some (.bool t)=>bif t then ev L a else ev L b
  | _=>none
 | _=>none
theorem Qt4 {P:Program}{L:Slots}{dst:Option Nat}{op:Op}{ty:TypeId}{pos:String}{af:Array Edge}{gu:Option (Nat × Bool)}{v:Value}(h:Qhp L op=some v)(w:World):VV P L ⟨dst,op,ty,pos,af,gu⟩ w v:=by
 unfold Qhp at h
 split at h
 · exact Qt h
 · exact Kt h
 · split at h
   · rename_i x q _ vs hx
     exact Xhe (vs:=vs.toList) (by rw[hx]) (Qsd h)
   · cases h
 · split at h
   · rename_i c a b _ t hc
     cases t with
     | true=>exact Xhr hc h
     | false=>exact Xhq hc h
   · cases h
 · cases h
def sqm (n:Nat)(ops:Array Oper)(L:Slots)(i:Nat):Option (Option Nat × Value):=
 match ops[i]? with
 | some o=>match gd ops L o with
  | some true=>match Qhp L o.op with
   | some v=>bif Ya n o.dst then some (o.dst,v) else none
   | none=>none
  | _=>none
 | none=>none
theorem Qu3 {n:Nat}{ops:Array Oper}{L:Slots}{i:Nat}{dst:Option Nat}{v:Value}(h:sqm n ops L i=some (dst,v)):∃ op ty pos af gu,ops[i]? = some ⟨dst,op,ty,pos,af,gu⟩∧gd ops L ⟨dst,op,ty,pos,af,gu⟩=some true∧Ya n dst=true∧Qhp L op=some v:=by
 unfold sqm at h
 split at h
 · rename_i o ho
   split at h
   · rename_i hg
     split at h
     · rename_i v' hv
       cases hc:Ya n o.dst with
       | false=>rw[hc] at h;cases h
       | true=>
        rw[hc] at h;cases h
        exact⟨_,_,_,_,_,ho,hg,hc,hv⟩
     · cases h
   · cases h
 · cases h
def rgn (ops:Array Oper)(k:Nat):Bool:=Nat.beq ops.size k&&Vo ops
theorem Qbc {ops:Array Oper}{k:Nat}(h:rgn ops k=true):ops.size=k∧Vo ops=true:=by
 unfold rgn at h;rw[Bool.and_eq_true] at h;exact⟨Nat.eq_of_beq_eq_true h.1,h.2⟩
section
variable {P:Program} {r:Option Nat} {n:Nat} {Q:Exit→List Deferred→Slots→World→Prop} {K:List Deferred→Slots→World→Prop} {D:List Deferred} {L:Slots} {w:World} {S:Nat→World→Prop} {kp:Nat→Nat→Bool}
theorem qd {id:Nat}{ops ops':Array Oper}{y:Code}(k:Nat)(hk:rgn ops k=true)(h:SD P n ops (fun L w=>Ht (fun D L w=>SW P r n y Q D L w) Q .normal D L w) (fun _ _=>True) (fun _ _=>false) (od k 0) L w):
 SD P n ops' (fun L w=>Ht (fun D L w=>SW P r n (.seq (.region id ops false) y) Q D L w) Q .normal D L w) S kp [] L w:=Qa (qsr k (Qbc hk).1 (Qbc hk).2 h)
theorem qs {id:Nat}{ops:Array Oper}{y:Code}(k:Nat)(hk:rgn ops k=true)(h:SD P n ops (fun L w=>Ht (fun D L w=>SW P r n y Q D L w) Q .normal D L w) (fun _ _=>True) (fun _ _=>false) (od k 0) L w):SW P r n (.seq (.region id ops false) y) Q D L w:=
 qsr k (Qbc hk).1 (Qbc hk).2 h
theorem qg {id:Nat}{ops:Array Oper}(k:Nat)(hk:rgn ops k=true)(h:SD P n ops (fun L w=>Q .normal D L w) (fun _ _=>True) (fun _ _=>false) (od k 0) L w):SW P r n (.region id ops false) Q D L w:=
 qr k (Qbc hk).1 (Qbc hk).2 h
theorem qb {ops:Array Oper}{K:List Deferred→Slots→World→Prop}(h:Q .ret D L w):SD P n ops (fun L w=>Ht (fun D L w=>SW P r n .ret (Ht K Q) D L w) (Ht K Q) .normal D L w) S kp [] L w:=Qa (Qq (Xz h))
theorem qu {y:Code}(h:SW P r n y Q D L w):SW P r n .skip (Ht (fun D L w=>SW P r n y Q D L w) Q) D L w:=Jn (Xl h)
end
section
variable {P:Program} {n:Nat} {ops:Array Oper} {Q:Slots→World→Prop} {rest:List (Nat × Nat)} {i:Nat} {dst:Option Nat} {op:Op} {ty:TypeId} {pos:String} {af:Array Edge} {gu:Option (Nat × Bool)} {L:Slots} {w w₀:World} {v:Value} {mss:List (List Nat)} {ms:List Nat} {kp:Nat→Nat→Bool}
theorem qm (h0:sqm n ops L i=some (dst,v))(h:SD P n ops Q (fun _ _=>True) (fun _ _=>false) rest (Zt dst v L) w):SD P n ops Q (fun _ _=>True) (fun _ _=>false) ((i,0)::rest) L w:=by
 obtain⟨op,ty,pos,af,gu,h1,h2,h3,h4⟩:=Qu3 h0
 exact Qu h1 h2 h3 (Qt4 h4 w) h
theorem dn (k:Nat)(h0:sqm n ops L i=some (dst,v))(hm:mss[k]? = some ms)(hS:Kp ms w₀ w)(h:SD P n ops Q (Jj mss w₀) kp rest (Zt dst v L) w):SD P n ops Q (Jj mss w₀) kp ((i,k+10)::rest) L w:=by
 obtain⟨op,ty,pos,af,gu,h1,h2,h3,h4⟩:=Qu3 h0
 exact Qf0 k h1 h2 h3 hm hS (fun w _=>Qt4 h4 w) h
theorem dm (k:Nat)(h0:sqm n ops L i=some (dst,v))(hm:mss[k]? = some ms)(h:SD P n ops Q (Jj mss w₀) kp rest (Zt dst v L) w₀):SD P n ops Q (Jj mss w₀) kp ((i,k+10)::rest) L w₀:=dn k h0 hm (Kp.refl _ _) h
theorem dh {v:Value}(k:Nat)(hi:Yp true n ops L i=some ⟨dst,op,ty,pos,af,gu⟩)(hm:mss[k]? = some ms)(hv:∀ w,Kp ms w₀ w→VV P L ⟨dst,op,ty,pos,af,gu⟩ w v)(h:SD P n ops Q (Jj mss w₀) kp rest (Zt dst v L) w₀):SD P n ops Q (Jj mss w₀) kp ((i,k+10)::rest) L w₀:=
 qh k hi hm (Kp.refl _ _) hv h
theorem dx (k:Nat)(hi:Yp false n ops L i=some ⟨dst,op,ty,pos,af,gu⟩)(hm:mss[k]? = some ms)(h:SD P n ops Q (Jj mss w₀) kp rest (Zt dst undef L) w₀):SD P n ops Q (Jj mss w₀) kp ((i,k+10)::rest) L w₀:=
 qx k hi hm (Kp.refl _ _) h
end
section
variable {P:Program} {L:Slots} {w:World} {dst:Option Nat} {ty:TypeId} {pos:String} {af:Array Edge} {gu:Option (Nat × Bool)} {x y:Operand} {t:TypeId}
theorem Xf {b' m:Nat}{tb:TypeId}{cs vs:List Value}(hs:Ky P t m)(hx:ev L x=some (.pointer (some ⟨b',0,none⟩)))(hy:ev L y=some (.agg vs.toArray))(h1:Zj vs=true)(hb:Bx w b' tb cs)(hm:vs.length=m)(hl:cs.length=m):
 EV P L ⟨dst,.store t x y,ty,pos,af,gu⟩ w fun _ w'=>Bx w' b' tb vs∧Md b' w w':=
 Qab hs.siz hx hy rfl hm h1 hb (by rw[hl,Nat.zero_add];exact Nat.ble_eq_true_of_le (Nat.le_refl _)) (by unfold Vd;rw[List.take_zero,List.nil_append,Nat.zero_add,List.drop_eq_nil_of_le (by omega),List.append_nil])
end
theorem Xe {w:World}:Kz [] w w:=Kz.refl _ _
section
variable {b z g z' g' s z1 g1 z2 g2 z3 g3:Nat}
theorem Nt (r:Xd ((g'=g∧z=1)∨s≤g'∨z'=0))(h:z=0∨g≠b)(f:s≤b→False:=by omega):z'=0∨g'≠b:=Tq (A:=(· ≠ b)) r h (fun x hx e=>f (e ▸ hx))
theorem Qr (r:Xd (z=0∨s≤g))(f:s≤b→False:=by omega):z=0∨g≠b:=Xm (A:=(· ≠ b)) r (fun x hx e=>f (e ▸ hx))
theorem Qo (r:Xd (z=0∨(g=g1∧z1≠0)∨s≤g))(h1:z1=0∨g1≠b)(f:s≤b→False:=by omega):z=0∨g≠b:=Qp (A:=(· ≠ b)) r h1 (fun x hx e=>f (e ▸ hx))
theorem Qw (r:Xd (z=0∨(z=1∧g<s)))(f:b<s→False:=by omega):z=0∨g≠b:=Ad (A:=(· ≠ b)) r (fun x hx e=>f (e ▸ hx))
end
def rg:Nat→Nat→List Nat
 | _,0=>[]
 | a,n+1=>a::rg (a+1) n
theorem kG {w w':World}{p:Prop}(h:Gr w w')(k:p):Kz [] w w'∧p:=⟨Kz.ofGr h,k⟩
theorem kM {w w':World}{b:Nat}{p:Prop}(h:Md b w w')(k:p):Kz [(1,b)] w w'∧p:=⟨Kz.ofMd h,k⟩
theorem dw {P:Program}{r:Option Nat}{n:Nat}{Q:Exit→List Deferred→Slots→World→Prop}{D:List Deferred}{L:Slots}{w:World}{id:Nat}{ops:Array Oper}(mss:List (List Nat))(tab:List (Nat × List Nat))(t:Tz)
 (h:∀ w1,RowKit.Below w.heap.size w w1→w1.heap.size=w.heap.size→Yh P n ops (fun L w=>Q .normal D L w) (Jj mss w1) (kpN tab) t L w1) (hm:P.follows .mixedOrders=true:=by kernel_rfl) (hnd:Vo ops=true:=by kernel_rfl) (hlen:t.len=ops.size:=by exact rfl)
 (ho:Qd9 ops (kpN tab) t (Array.replicate ops.size false)=true:=by kernel_rfl):SW P r n (.region id ops true) Q D L w:=Xgb mss tab t hm hnd hlen ho h
theorem eC {P:Program}{L:Slots}{w:World}{dst:Option Nat}{ty:TypeId}{pos:String}{af:Array Edge}{gu:Option (Nat × Bool)}{f:Nat}{aas:Array Operand}{at_:Array TypeId}{vs:List Value}{R:Value→World→Prop}(hen:En P f)(hargs:Nl L aas.toList=some vs)
 (hc:Calls P f vs.toArray w fun e w'=>∃ v,e=.returned v∧R v w'):EV P L ⟨dst,.call { callee:=.value (.func f),args:=aas,argTypes:=at_ },ty,pos,af,gu⟩ w R:=Tw hen hargs hc
theorem Ji {P:Program}{n:Nat}{ops:Array Oper}{Q:Slots→World→Prop}{rest:List (Nat × Nat)}{i:Nat}{dst:Option Nat}{op:Op}{ty:TypeId}{pos:String}{af:Array Edge}{gu:Option (Nat × Bool)}{L:Slots}{w:World}{p:Prop}[Decidable p]{α:Type}{x₁ x₂:Option α}{r₁:α}(hm:(if p then x₁ else x₂)=some r₁)(hi:Yp true n ops L i=some ⟨dst,op,ty,pos,af,gu⟩)(hv:VV P L ⟨dst,op,ty,pos,af,gu⟩ w (.bool (decide p)))(h1:decide p=true→x₁=some r₁→SD P n ops Q (fun _ _=>True) (fun _ _=>false) rest (Zt dst (.bool true) L) w)(h2:decide p=false→x₂=some r₁→SD P n ops Q (fun _ _=>True) (fun _ _=>false) rest (Zt dst (.bool false) L) w):SD P n ops Q (fun _ _=>True) (fun _ _=>false) ((i,0)::rest) L w:=qp hi hv (fun c=>h1 c (iT c hm)) (fun c=>h2 c (iF c hm))
theorem Vc {P:Program}{n:Nat}{ops:Array Oper}{Q:Slots→World→Prop}{rest:List (Nat × Nat)}{i:Nat}{dst:Option Nat}{op:Op}{ty:TypeId}{pos:String}{af:Array Edge}{gu:Option (Nat × Bool)}{L:Slots}{w:World}{p:Prop}[Decidable p]{α:Type}{x₁ x₂:Option α}{r₁:α}(hm:(if p then x₁ else x₂)=some r₁)(hi:Yp true n ops L i=some ⟨dst,op,ty,pos,af,gu⟩)(hv:VV P L ⟨dst,op,ty,pos,af,gu⟩ w (.bool (decide p)))(h2:decide p=false→x₂=some r₁→SD P n ops Q (fun _ _=>True) (fun _ _=>false) rest (Zt dst (.bool false) L) w)(h1:decide p=true→x₁=some r₁→SD P n ops Q (fun _ _=>True) (fun _ _=>false) rest (Zt dst (.bool true) L) w):SD P n ops Q (fun _ _=>True) (fun _ _=>false) ((i,0)::rest) L w:=qp hi hv (fun c=>h1 c (iT c hm)) (fun c=>h2 c (iF c hm))
theorem qqI {P:Program}{n:Nat}{ops:Array Oper}{Q:Slots→World→Prop}{rest:List (Nat × Nat)}{i:Nat}{dst:Option Nat}{op:Op}{ty:TypeId}{pos:String}{af:Array Edge}{gu:Option (Nat × Bool)}{L:Slots}{w:World}{w₀:World}{mss:List (List Nat)}{ms:List Nat}{kp:Nat→Nat→Bool}{p:Prop}[Decidable p]{α:Type}{x₁ x₂:Option α}{r₁:α}(hm:(if p then x₁ else x₂)=some r₁)(k:Nat)(hi:Yp true n ops L i=some ⟨dst,op,ty,pos,af,gu⟩)(hk:mss[k]? = some ms)(hS:Kp ms w₀ w)(hv:∀ w,Kp ms w₀ w→VV P L ⟨dst,op,ty,pos,af,gu⟩ w (.bool (decide p)))(h1:decide p=true→x₁=some r₁→SD P n ops Q (Jj mss w₀) kp rest (Zt dst (.bool true) L) w)(h2:decide p=false→x₂=some r₁→SD P n ops Q (Jj mss w₀) kp rest (Zt dst (.bool false) L) w):SD P n ops Q (Jj mss w₀) kp ((i,k+10)::rest) L w:=qq k hi hk hS hv (fun c=>h1 c (iT c hm)) (fun c=>h2 c (iF c hm))
theorem Qb9 {P:Program}{n:Nat}{ops:Array Oper}{Q:Slots→World→Prop}{rest:List (Nat × Nat)}{i:Nat}{dst:Option Nat}{op:Op}{ty:TypeId}{pos:String}{af:Array Edge}{gu:Option (Nat × Bool)}{L:Slots}{w:World}{w₀:World}{mss:List (List Nat)}{ms:List Nat}{kp:Nat→Nat→Bool}{p:Prop}[Decidable p]{α:Type}{x₁ x₂:Option α}{r₁:α}(hm:(if p then x₁ else x₂)=some r₁)(k:Nat)(hi:Yp true n ops L i=some ⟨dst,op,ty,pos,af,gu⟩)(hk:mss[k]? = some ms)(hS:Kp ms w₀ w)(hv:∀ w,Kp ms w₀ w→VV P L ⟨dst,op,ty,pos,af,gu⟩ w (.bool (decide p)))(h2:decide p=false→x₂=some r₁→SD P n ops Q (Jj mss w₀) kp rest (Zt dst (.bool false) L) w)(h1:decide p=true→x₁=some r₁→SD P n ops Q (Jj mss w₀) kp rest (Zt dst (.bool true) L) w):SD P n ops Q (Jj mss w₀) kp ((i,k+10)::rest) L w:=qq k hi hk hS hv (fun c=>h1 c (iT c hm)) (fun c=>h2 c (iF c hm))
theorem Zv {P:Program}{r:Option Nat}{n:Nat}{Q:Exit→List Deferred→Slots→World→Prop}{D:List Deferred}{L:Slots}{w:World}{c:Operand}{x y:Code}{p:Prop}[Decidable p]{α:Type}{x₁ x₂:Option α}{r₁:α}(hm:(if p then x₁ else x₂)=some r₁)(hc:ev L c=some (.bool (decide p)))(h1:decide p=true→x₁=some r₁→SW P r n x Q D L w)(h2:decide p=false→x₂=some r₁→SW P r n y Q D L w):SW P r n (.cond c x y) Q D L w:=Pq hc (fun c=>h1 c (iT c hm)) (fun c=>h2 c (iF c hm))
theorem Kx {P:Program}{r:Option Nat}{n:Nat}{Q:Exit→List Deferred→Slots→World→Prop}{D:List Deferred}{L:Slots}{w:World}{c:Operand}{x y:Code}{p:Prop}[Decidable p]{α:Type}{x₁ x₂:Option α}{r₁:α}(hm:(if p then x₁ else x₂)=some r₁)(hc:ev L c=some (.bool (decide p)))(h2:decide p=false→x₂=some r₁→SW P r n y Q D L w)(h1:decide p=true→x₁=some r₁→SW P r n x Q D L w):SW P r n (.cond c x y) Q D L w:=Pq hc (fun c=>h1 c (iT c hm)) (fun c=>h2 c (iF c hm))
theorem Ch {P:Program}{n:Nat}{ops:Array Oper}{Q:Slots→World→Prop}{rest:List (Nat × Nat)}{i:Nat}{dst:Option Nat}{op:Op}{ty:TypeId}{pos:String}{af:Array Edge}{gu:Option (Nat × Bool)}{L:Slots}{w:World}{c₁:Bool}{α:Type}{x₁ x₂:Option α}{r₁:α}(hm:(bif c₁ then x₁ else x₂)=some r₁)(hi:Yp true n ops L i=some ⟨dst,op,ty,pos,af,gu⟩)(hv:VV P L ⟨dst,op,ty,pos,af,gu⟩ w (.bool c₁))(h1:c₁=true→x₁=some r₁→SD P n ops Q (fun _ _=>True) (fun _ _=>false) rest (Zt dst (.bool true) L) w)(h2:c₁=false→x₂=some r₁→SD P n ops Q (fun _ _=>True) (fun _ _=>false) rest (Zt dst (.bool false) L) w):SD P n ops Q (fun _ _=>True) (fun _ _=>false) ((i,0)::rest) L w:=qp hi hv (fun c=>h1 c (Iy c hm)) (fun c=>h2 c (Iw c hm))
theorem Ra {P:Program}{n:Nat}{ops:Array Oper}{Q:Slots→World→Prop}{rest:List (Nat × Nat)}{i:Nat}{dst:Option Nat}{op:Op}{ty:TypeId}{pos:String}{af:Array Edge}{gu:Option (Nat × Bool)}{L:Slots}{w:World}{c₁:Bool}{α:Type}{x₁ x₂:Option α}{r₁:α}(hm:(bif c₁ then x₁ else x₂)=some r₁)(hi:Yp true n ops L i=some ⟨dst,op,ty,pos,af,gu⟩)(hv:VV P L ⟨dst,op,ty,pos,af,gu⟩ w (.bool c₁))(h2:c₁=false→x₂=some r₁→SD P n ops Q (fun _ _=>True) (fun _ _=>false) rest (Zt dst (.bool false) L) w)(h1:c₁=true→x₁=some r₁→SD P n ops Q (fun _ _=>True) (fun _ _=>false) rest (Zt dst (.bool true) L) w):SD P n ops Q (fun _ _=>True) (fun _ _=>false) ((i,0)::rest) L w:=qp hi hv (fun c=>h1 c (Iy c hm)) (fun c=>h2 c (Iw c hm))
theorem qqC {P:Program}{n:Nat}{ops:Array Oper}{Q:Slots→World→Prop}{rest:List (Nat × Nat)}{i:Nat}{dst:Option Nat}{op:Op}{ty:TypeId}{pos:String}{af:Array Edge}{gu:Option (Nat × Bool)}{L:Slots}{w:World}{w₀:World}{mss:List (List Nat)}{ms:List Nat}{kp:Nat→Nat→Bool}{c₁:Bool}{α:Type}{x₁ x₂:Option α}{r₁:α}(hm:(bif c₁ then x₁ else x₂)=some r₁)(k:Nat)(hi:Yp true n ops L i=some ⟨dst,op,ty,pos,af,gu⟩)(hk:mss[k]? = some ms)(hS:Kp ms w₀ w)(hv:∀ w,Kp ms w₀ w→VV P L ⟨dst,op,ty,pos,af,gu⟩ w (.bool c₁))(h1:c₁=true→x₁=some r₁→SD P n ops Q (Jj mss w₀) kp rest (Zt dst (.bool true) L) w)(h2:c₁=false→x₂=some r₁→SD P n ops Q (Jj mss w₀) kp rest (Zt dst (.bool false) L) w):SD P n ops Q (Jj mss w₀) kp ((i,k+10)::rest) L w:=qq k hi hk hS hv (fun c=>h1 c (Iy c hm)) (fun c=>h2 c (Iw c hm))
theorem Xei {P:Program}{n:Nat}{ops:Array Oper}{Q:Slots→World→Prop}{rest:List (Nat × Nat)}{i:Nat}{dst:Option Nat}{op:Op}{ty:TypeId}{pos:String}{af:Array Edge}{gu:Option (Nat × Bool)}{L:Slots}{w:World}{w₀:World}{mss:List (List Nat)}{ms:List Nat}{kp:Nat→Nat→Bool}{c₁:Bool}{α:Type}{x₁ x₂:Option α}{r₁:α}(hm:(bif c₁ then x₁ else x₂)=some r₁)(k:Nat)(hi:Yp true n ops L i=some ⟨dst,op,ty,pos,af,gu⟩)(hk:mss[k]? = some ms)(hS:Kp ms w₀ w)(hv:∀ w,Kp ms w₀ w→VV P L ⟨dst,op,ty,pos,af,gu⟩ w (.bool c₁))(h2:c₁=false→x₂=some r₁→SD P n ops Q (Jj mss w₀) kp rest (Zt dst (.bool false) L) w)(h1:c₁=true→x₁=some r₁→SD P n ops Q (Jj mss w₀) kp rest (Zt dst (.bool true) L) w):SD P n ops Q (Jj mss w₀) kp ((i,k+10)::rest) L w:=qq k hi hk hS hv (fun c=>h1 c (Iy c hm)) (fun c=>h2 c (Iw c hm))
theorem Jo {P:Program}{r:Option Nat}{n:Nat}{Q:Exit→List Deferred→Slots→World→Prop}{D:List Deferred}{L:Slots}{w:World}{c:Operand}{x y:Code}{c₁:Bool}{α:Type}{x₁ x₂:Option α}{r₁:α}(hm:(bif c₁ then x₁ else x₂)=some r₁)(hc:ev L c=some (.bool c₁))(h1:c₁=true→x₁=some r₁→SW P r n x Q D L w)(h2:c₁=false→x₂=some r₁→SW P r n y Q D L w):SW P r n (.cond c x y) Q D L w:=Pq hc (fun c=>h1 c (Iy c hm)) (fun c=>h2 c (Iw c hm))
theorem Si {P:Program}{r:Option Nat}{n:Nat}{Q:Exit→List Deferred→Slots→World→Prop}{D:List Deferred}{L:Slots}{w:World}{c:Operand}{x y:Code}{c₁:Bool}{α:Type}{x₁ x₂:Option α}{r₁:α}(hm:(bif c₁ then x₁ else x₂)=some r₁)(hc:ev L c=some (.bool c₁))(h2:c₁=false→x₂=some r₁→SW P r n y Q D L w)(h1:c₁=true→x₁=some r₁→SW P r n x Q D L w):SW P r n (.cond c x y) Q D L w:=Pq hc (fun c=>h1 c (Iy c hm)) (fun c=>h2 c (Iw c hm))
def adv (n:Nat)(ops:Array Oper):Nat→List (Nat × Nat)→Slots→Option (List (Nat × Nat) × Slots)
 | 0,l,L=>some (l,L)
 | _+1,[],_=>none
 | _+1,(_,_+1)::_,_=>none
 | k+1,(i,0)::rest,L=>match Yp false n ops L i with
  | some ⟨dst,_,_,_,_,_⟩=>adv n ops k rest (Zt dst undef L)
  | none=>match sqm n ops L i with
   | some (dst,v)=>adv n ops k rest (Zt dst v L)
   | none=>none
theorem qn {P:Program}{n:Nat}{ops:Array Oper}{Q:Slots→World→Prop}{w:World}:∀ {l l':List (Nat × Nat)} {L L':Slots} (k:Nat),adv n ops k l L=some (l',L')→SD P n ops Q (fun _ _=>True) (fun _ _=>false) l' L' w→SD P n ops Q (fun _ _=>True) (fun _ _=>false) l L w
 | _,_,_,_,0,h,hh=>by cases h;exact hh
 | [],_,_,_,k+1,h,_=>by cases h
 | (_,_+1)::_,_,_,_,k+1,h,_=>by cases h
 | (i,0)::rest,_,L,_,k+1,h,hh=>by
  unfold adv at h
  split at h
  · rename_i ho;exact qk ho (qn k h hh)
  · split at h
    · rename_i hm;exact qm hm (qn k h hh)
    · cases h
end Go.Sx

end
section
set_option linter.unusedVariables false
set_option linter.unusedSimpArgs false
namespace Go.Sx
open Go Go.RowKit
theorem Vi {a b:Bool}(ha:a=true)(hb:b=true):(a&&b)=true:=by rw[ha,hb];rfl
theorem Qsk {P:Program}{W:World}{r:Reach}{base:Nat}{t:TypeId}{v:Value}{k:IntKind}(hu:P.underlying t=some (.int k))(h:Cell.okWide P W r base t v):∃ n,v=.int k n∧k.has n:=by
 simp only[Cell.okWide,hu,Cell.ok] at h
 split at h<;>try (exact h.elim)
 all_goals first|(obtain⟨rfl,h⟩:=h;rename_i e;cases e;exact⟨_,rfl,h⟩)|simp_all
theorem Xdf {P:Program}{W:World}{r:Reach}{base:Nat}{t:TypeId}{v:Value}(hu:P.underlying t=some (.int .i64))(h:Cell.okWide P W r base t v):∃ n:Int,v=.int .i64 n ∧ -9223372036854775808≤n∧n≤9223372036854775807:=by
 obtain⟨n,h1,h2⟩:=Qsk hu h
 simp only[IntKind.has,IntKind.min,IntKind.max,IntKind.bits,IntKind.signed] at h2
 exact⟨n,h1,by simpa using h2.1,by simpa using h2.2⟩
theorem Xdg {P:Program}{W:World}{r:Reach}{base:Nat}{t:TypeId}{v:Value}(hu:P.underlying t=some (.int .u8))(h:Cell.okWide P W r base t v):∃ n:Int,v=.int .u8 n∧0≤n∧n≤255:=by
 obtain⟨n,h1,h2⟩:=Qsk hu h
 simp only[IntKind.has,IntKind.min,IntKind.max,IntKind.bits,IntKind.signed] at h2
 exact⟨n,h1,by simpa using h2.1,by simpa using h2.2⟩
end Go.Sx

end
