/- Several texts in one: MirN MirU OpnU CaM CrM CbM ClM CcM HaM PaM PkM PbM PcM HbM HcM EkM EtM EsM AlM VaM DeM KdM RaM RbM KeM NaM KfM NbM KgM NcM KhM RcM KjM TlM. -/
import Derived.Test.YtplcaaglieefgaaGreatZc
import Derived.Test.YtplcaaglieefgaaGreatZb
set_option linter.unusedVariables false
set_option linter.unusedSimpArgs false
set_option maxRecDepth 100000
section
namespace Go.Sx
open Go Go.RowKit
section
variable {P:Program} {L:Slots} {w:World} {dst:Option Nat} {ty:TypeId} {pos:String} {af:Array Edge} {gu:Option (Nat × Bool)} {x y:Operand} {t u:TypeId} {b:Int}
theorem Xj2 {yk:IntKind}{n:Nat}{p:BitVec 8}(hx:ev L x=some (bv p))(hy:ev L y=some (.int yk b))(h:eD b=some n):VV P L ⟨dst,.binOp .shr t x y u,ty,pos,af,gu⟩ w (bv (p >>> n)):=by
 obtain⟨h1,rfl⟩:=C3 h;refine dL (La hx hy h1) ?_;show Value.int .u8 (aO p / 2^min b.toNat 8)=Value.int .u8 (aO (p >>> b.toNat));refine cA (Value.int .u8) ?_;unfold aO;rw[uC,vX];rcases A7 b.toNat 8 with h|h
 · rw[oB h];norm_cast
 · rw[Yt h];have h2:p.toNat / 2^b.toNat=0:=pF (iC p.isLt (fD aQ h));have h3:p.toNat / 2^8=0:=pF p.isLt;rw[h2,←h3];norm_cast
theorem Xiq {p q:BitVec 8}(hx:ev L x=some (bv p))(hy:ev L y=some (bv q)){t1 t2:TypeId}:VV P L ⟨dst,.call { callee:=.builtin .min,args := #[x,y],argTypes := #[t1,t2] },ty,pos,af,gu⟩ w (bv (lZ p q)):=dL (Xir (a:=aO p) (b:=aO q) hx hy) (by
 show Value.int .u8 _=Value.int .u8 (aO (lZ p q));refine cA (Value.int .u8) ?_;unfold lZ mnI;by_cases h:aO q<aO p
 · rw[aG h,aG (Nk.1 h)]
 · rw[aH h,aH (fun hh=>h (Nk.2 hh))])
def pe (g o sz:Nat)(r:Int):Value:=if r<0 then .pointer none else .pointer (some ⟨g,o+r.toNat*sz+0,none⟩)
theorem Xda (g o sz:Nat):Value.pointer none=pe g o sz (-1):=rfl
theorem Xd9 {g o sz:Nat}{r:Int}(h:0≤r):Value.pointer (some ⟨g,o+r.toNat*sz+0,none⟩)=pe g o sz r:=by unfold pe;rw[aH aQ]
section
variable {e:TypeId} {g o sz n:Nat} {i j r:Int} {α:Type} {l m:List α} {a c:α} {A:Addr}
theorem Xfh (d:Nat)(hu:P.underlying t=some (.pointer e))(a:Option Addr):(Op.equalIn (d+1) t (.pointer none) (.pointer a)).run P w=.ok a.isNone w:=by
 simp[Op.equalIn,run_underlying hu]
theorem Xfg (hu:P.underlying t=some (.pointer e))(a:Option Addr):(Op.equal t (.pointer none) (.pointer a)).run P w=.ok a.isNone w:=Xfh 9999 hu a
theorem Xfj (d:Nat)(hu:P.underlying t=some (.pointer e))(hs:iY P e n)(hn:n≠0)(p q:Nat):(Op.equalIn (d+1) t (.pointer (some ⟨g,p,none⟩)) (.pointer (some ⟨g,q,none⟩))).run P w=.ok (decide (p=q)) w:=by
 have e1:((⟨g,p,none⟩:Addr) == ⟨g,q,none⟩)=decide (p=q):=by
  by_cases h:p=q
  · subst h;simp
  · rw[cJ h];exact beq_false_of_ne (fun hh=>h (by injection hh))
 simp[Op.equalIn,run_underlying hu,hs w,hn,sameAddr,e1]
theorem Xfi (hu:P.underlying t=some (.pointer e))(hs:iY P e n)(hn:n≠0)(p q:Nat):(Op.equal t (.pointer (some ⟨g,p,none⟩)) (.pointer (some ⟨g,q,none⟩))).run P w=.ok (decide (p=q)) w:=Xfj 9999 hu hs hn p q
theorem Xiv (hu:P.underlying t=some (.pointer e))(hx:ev L x=some (.pointer none))(hy:ev L y=some (.pointer (some A))):VV P L ⟨dst,.binOp .neq t x y u,ty,pos,af,gu⟩ w (.bool true):=fun ρ hρ=>by
 simp[execOp,hρ _ _ hx,hρ _ _ hy,go_sem,binOp,Xfg hu]
theorem Qv2 (hz:sz≠0)(hi:0≤i)(hj:0≤j):(o+i.toNat*sz+0=o+j.toNat*sz+0)↔i=j:=by
 constructor
 · intro h;have:i.toNat*sz=j.toNat*sz:=by omega
   have:=Nat.eq_of_mul_eq_mul_right (I0 hz) this;omega
 · intro h;rw[h]
theorem Xiw {p q:Nat}(hu:P.underlying t=some (.pointer e))(hs:iY P e sz)(hx:ev L x=some (.pointer (some ⟨g,p,none⟩)))(hy:ev L y=some (.pointer (some ⟨g,q,none⟩)))(hz:sz≠0):VV P L ⟨dst,.binOp .neq t x y u,ty,pos,af,gu⟩ w (.bool (!decide (p=q))):=fun ρ hρ=>by
 simp[execOp,hρ _ _ hx,hρ _ _ hy,go_sem,binOp,Xfi hu hs hz]
theorem Xiu (hu:P.underlying t=some (.pointer e))(hs:iY P e sz)(hx:ev L x=some (pe g o sz r))(hy:ev L y=some (.pointer (some ⟨g,o+j.toNat*sz+0,none⟩)))(hz:sz≠0)(hj:bJ l j=some c):VV P L ⟨dst,.binOp .neq t x y u,ty,pos,af,gu⟩ w (.bool (decide (r≠j))):=by
 have h0:=pQ hj;by_cases h:r<0
 · rw[cS aQ];exact Xiv hu (by rw[hx];unfold pe;rw[aG h]) hy
 · refine dL (Xiw hu hs (by rw[hx];unfold pe;rw[aH h]) hy hz) ?_;rw[←decide_not];exact oK (not_congr (Qv2 hz aQ h0))
variable {v:Value} {p q:Operand} {lo hi:Int} {kl kh:IntKind} {cf:α→List Value}
theorem Xd7 {z:Nat}(h:aY w z g e sz v (l.map cf))(hl:wK l lo hi=some n):z=1:=by
 rcases h.2 with⟨_,_,h0⟩|⟨h1,_⟩
 · have:l=[]:=by simpa using h0
   subst this;unfold wK at hl;split at hl
   · rename_i hh;simp at hh;omega
   · cases hl
 · exact h1
theorem Xd5 (h:aY w 1 g e sz v (l.map cf)):∃ cp,v=.slice (some ⟨g,0,none⟩) l.length cp∧l.length≤cp:=by
 rcases h.2 with⟨h0,_⟩|⟨_,cap,cur,h1,_,h3,_⟩
 · cases h0
 · exact⟨cap,by rw[h1,fJ],by rw[fJ] at h3;exact h3⟩
theorem Xj4 {cp:Nat}(hu:P.underlying t=some (.slice e))(hs:iY P e sz)(hx:ev L x=some (.slice (some ⟨g,0,none⟩) l.length cp))(hc:l.length≤cp)(hp:ev L p=some (.int kl lo))(hq:ev L q=some (.int kh hi))(hl:wK l lo hi=some n):
 VV P L ⟨dst,.slice t x (some p) (some q) none,ty,pos,af,gu⟩ w (.slice (some ⟨g,lo.toNat*sz,none⟩) n (cp-lo.toNat)):=fun ρ hρ=>by
 unfold wK at hl
 split at hl
 · rename_i hh;obtain⟨h0,h1,h2⟩:=hh;cases hl;have he:P.elem t=e:=by simp[Program.elem,hu]
   have hu':P.underlying t=some (.slice (P.elem t)):=by rw[he];exact hu
   refine nM ?_;rw[hρ _ _ hx];show(Instr.sliceAt t (.slice (some ⟨g,0,none⟩) _ cp) (some (ρ p)) (some (ρ q)) none).run P w=_;rw[run_sliceAt_slice _ _ _ _ _ _ hu',hρ _ _ hp,hρ _ _ hq,run_slice_lh _ _ _ _ _ hu' _ _ _ _ h0 aQ aQ,he,hs w];simp only[Result.andThen,sliced];rw[aH aQ];simp[Addr.add_lit];omega
 · cases hl
theorem Xj5 {cp:Nat}{v:Value}(hu:P.underlying t=some (.slice e))(hs:iY P e sz)(hx:ev L x=some v)(hv:v=.slice (some ⟨g,0,none⟩) l.length cp)(hc:l.length≤cp)(hp:ev L p=some (.int kl lo))(hq:ev L q=some (.int kh hi))(hl:wK l lo hi=some n):
 VV P L ⟨dst,.slice t x (some p) (some q) none,ty,pos,af,gu⟩ w (.slice (some ⟨g,lo.toNat*sz,none⟩) n (cp-lo.toNat)):=by
 subst hv;exact Xj4 hu hs hx hc hp hq hl
theorem M2 {cp:Nat}{k:IntKind}(h0:0≤lo)(hu:P.underlying t=some (.slice e))(hs:iY P e sz)(hx:ev L x=some (.slice (some ⟨g,lo.toNat*sz,none⟩) n cp))(hy:ev L y=some (.int k i))(hj:qQ lo n i=some j):
 VV P L ⟨dst,.indexAddr t x y,ty,pos,af,gu⟩ w (.pointer (some ⟨g,0+j.toNat*sz,none⟩)):=by
 unfold qQ at hj
 split at hj
 · rename_i hh;cases hj;have:=Qqy (dst:=dst) (ty:=ty) (pos:=pos) (af:=af) (gu:=gu) (w:=w) hu hs hx hy hh.1 hh.2;have e:lo.toNat*sz+i.toNat*sz=0+(lo+i).toNat*sz:=by rw[←iN,Int.toNat_add h0 hh.1];omega
   rwa[e] at this
 · cases hj
theorem Xfw {a b c d y y':α}{i:Int}(h:bJ [a,b,c,d] i=some y):[a,b,c,d].set i.toNat y'=[if i=0 then y' else a,if i=1 then y' else b,if i=2 then y' else c,if i=3 then y' else d]:=by
 have h0:=pQ h;have h1:=xY h;simp at h1;rcases(show i=0∨i=1∨i=2∨i=3 by omega) with rfl|rfl|rfl|rfl<;>rfl
end
end
end Go.Sx

end
section
namespace Go.Sx
open Go Go.RowKit
abbrev dv (x:BitVec 32):Value:=.int .u32 (eM x)
abbrev bD (x:BitVec 32):List Value:=[dv x]
theorem Qqd (x:BitVec 32):0≤eM x:=by unfold eM;omega
theorem Qqb (x:BitVec 32):eM x≤4294967295:=by unfold eM;have:=x.isLt;omega
theorem Xhr {x y:BitVec 32}(h:eM x=eM y):x=y:=by apply jW;unfold eM at h;omega
theorem Oc (n:Int):IntKind.u32.wrap n=n%4294967296:=by simp[IntKind.wrap,IntKind.bits,IntKind.signed]
theorem Zx (x:BitVec 32):BitVec.ofInt 32 (eM x)=x:=by unfold eM;rw[Lo,BitVec.ofNat_toNat,BitVec.setWidth_eq]
theorem Qha (x:BitVec 32):IntKind.u32.wrap (x.toNat:Int)=eM x:=by rw[Oc];unfold eM;have:=x.isLt;omega
theorem Qja (x y:BitVec 32):bits .xor .u32 (eM x) (eM y)=eM (x ^^^ y):=by
 show IntKind.u32.wrap ((BitVec.ofInt 32 (eM x) ^^^ BitVec.ofInt 32 (eM y)).toNat:Int)=_;rw[Zx,Zx,Qha]
theorem Qur (x y:BitVec 32):bits .and .u32 (eM x) (eM y)=eM (x &&& y):=by
 show IntKind.u32.wrap ((BitVec.ofInt 32 (eM x) &&& BitVec.ofInt 32 (eM y)).toNat:Int)=_;rw[Zx,Zx,Qha]
theorem Qus (x y:BitVec 32):bits .or .u32 (eM x) (eM y)=eM (x ||| y):=by
 show IntKind.u32.wrap ((BitVec.ofInt 32 (eM x) ||| BitVec.ofInt 32 (eM y)).toNat:Int)=_;rw[Zx,Zx,Qha]
section
variable {P:Program} {L:Slots} {w:World} {dst:Option Nat} {ty:TypeId} {pos:String} {af:Array Edge} {gu:Option (Nat × Bool)} {x y:Operand} {t u:TypeId} {p q:BitVec 32} {a b:Int} {c d:BitVec 64}
theorem Qqa:eM p=eM q↔p=q:=⟨Xhr,fun h=>by rw[h]⟩
theorem Qqc:eM p<eM q↔p<q:=by unfold eM;rw[pN];omega
theorem Xhs:eM p≤eM q↔p≤q:=by unfold eM;rw[yG];omega
theorem Qqv (hx:ev L x=some (dv p))(hy:ev L y=some (dv q)):VV P L ⟨dst,.binOp .eql t x y u,ty,pos,af,gu⟩ w (.bool (decide (p=q))):=dL (dK hx hy) (oK Qqa)
theorem Qh4 (hx:ev L x=some (dv p))(hy:ev L y=some (dv q)):VV P L ⟨dst,.binOp .neq t x y u,ty,pos,af,gu⟩ w (.bool (decide (p≠q))):=dL (fH hx hy) (oK (not_congr Qqa))
theorem Xio (hx:ev L x=some (dv p))(hy:ev L y=some (dv q)):VV P L ⟨dst,.binOp .lss t x y u,ty,pos,af,gu⟩ w (.bool (decide (p<q))):=dL (cN hx hy) (oK Qqc)
theorem Xin (hx:ev L x=some (dv p))(hy:ev L y=some (dv q)):VV P L ⟨dst,.binOp .leq t x y u,ty,pos,af,gu⟩ w (.bool (decide (p≤q))):=dL (qT hx hy) (oK Xhs)
theorem Xik (hx:ev L x=some (dv p))(hy:ev L y=some (dv q)):VV P L ⟨dst,.binOp .gtr t x y u,ty,pos,af,gu⟩ w (.bool (decide (q<p))):=dL (gT hx hy) (oK Qqc)
theorem Qrb (hx:ev L x=some (dv p))(hy:ev L y=some (dv q)):VV P L ⟨dst,.binOp .sub t x y u,ty,pos,af,gu⟩ w (dv (p-q)):=dL (fL hx hy) (by
 rw[Oc];show Value.int .u32 _=Value.int .u32 (eM (p-q));refine cA (Value.int .u32) ?_;unfold eM;rw[E2];have:=p.isLt;have:=q.isLt;omega)
theorem Xj8 (hx:ev L x=some (dv p))(hy:ev L y=some (dv q)):VV P L ⟨dst,.binOp .xor t x y u,ty,pos,af,gu⟩ w (dv (p ^^^ q)):=dL (yK bW hx hy) (by rw[Qja])
theorem Qqr (hx:ev L x=some (dv p))(hy:ev L y=some (dv q)):VV P L ⟨dst,.binOp .and t x y u,ty,pos,af,gu⟩ w (dv (p &&& q)):=dL (yK bW hx hy) (by rw[Qur])
theorem Qr7 (hx:ev L x=some (dv p))(hy:ev L y=some (dv q)):VV P L ⟨dst,.binOp .or t x y u,ty,pos,af,gu⟩ w (dv (p ||| q)):=dL (yK bW hx hy) (by rw[Qus])
theorem Qqs (hx:ev L x=some (dv p)):VV P L ⟨dst,.unOp .xor t x,ty,pos,af,gu⟩ w (dv (~~~p)):=fun ρ hρ=>by
 have e:bits .xor .u32 (if IntKind.u32.signed=true then -1 else IntKind.u32.max) (eM p)=eM (~~~p):=by
  rw[show(if IntKind.u32.signed=true then(-1:Int) else IntKind.u32.max)=eM (BitVec.allOnes 32) from by decide,Qja,BitVec.allOnes_xor]
 simp[execOp,hρ _ _ hx,go_sem,e]
theorem Xj1 {yk:IntKind}{n:Nat}(hx:ev L x=some (dv p))(hy:ev L y=some (.int yk b))(h:eD b=some n):VV P L ⟨dst,.binOp .shl t x y u,ty,pos,af,gu⟩ w (dv (p <<< n)):=by
 obtain⟨h1,rfl⟩:=C3 h;refine dL (Qh6 hx hy h1) ?_;rw[Oc];show Value.int .u32 _=Value.int .u32 (eM (p <<< b.toNat));refine cA (Value.int .u32) ?_;unfold eM;rw[V5,vQ];show((p.toNat:Int)*2^min b.toNat 32)%4294967296=_;rcases A7 b.toNat 32 with h|h
 · rw[oB h,show((2:Int)^b.toNat)=((2^b.toNat:Nat):Int) from by rw[E6];rfl,←Lx];rfl
 · rw[Yt h];have e:(p.toNat*2^b.toNat)%2^32=0:=Qb6 (Nat.dvd_trans (Nat.pow_dvd_pow 2 h) (Nat.dvd_mul_left _ _));rw[e,show((2:Int)^32)=4294967296 from by decide];omega
theorem Xj3 {yk:IntKind}{n:Nat}(hx:ev L x=some (dv p))(hy:ev L y=some (.int yk b))(h:eD b=some n):VV P L ⟨dst,.binOp .shr t x y u,ty,pos,af,gu⟩ w (dv (p >>> n)):=by
 obtain⟨h1,rfl⟩:=C3 h;refine dL (La hx hy h1) ?_;show Value.int .u32 (eM p / 2^min b.toNat 32)=Value.int .u32 (eM (p >>> b.toNat));refine cA (Value.int .u32) ?_;unfold eM;rw[uC,vX];rcases A7 b.toNat 32 with h|h
 · rw[oB h,show((2:Int)^b.toNat)=((2^b.toNat:Nat):Int) from by rw[E6];rfl];exact(Yf ..).symm
 · rw[Yt h];have h2:p.toNat / 2^b.toNat=0:=pF (iC p.isLt (fD aQ h));have h3:p.toNat / 2^32=0:=pF p.isLt;rw[h2,show((2:Int)^32)=((2^32:Nat):Int) from by decide,←Yf,h3]
theorem qP {s d:TypeId}(hc:CV P s d .u32)(hx:ev L x=some (wv c)):VV P L ⟨dst,.convert s d x,ty,pos,af,gu⟩ w (dv (c.setWidth 32)):=dL (wV hc hx) (by
 rw[Oc];show Value.int .u32 _=Value.int .u32 (eM (c.setWidth 32));refine cA (Value.int .u32) ?_;unfold eM un;rw[kT];omega)
theorem nU {s d:TypeId}(hc:CV P s d .u64)(hx:ev L x=some (dv p)):VV P L ⟨dst,.convert s d x,ty,pos,af,gu⟩ w (wv (p.setWidth 64)):=dL (wV hc hx) (by
 have:=Qqd p;have:=Qqb p
 rw[IntKind.wrap_u64,E4 aQ aQ];show Value.int .u64 _=Value.int .u64 (un (p.setWidth 64));refine cA (Value.int .u64) ?_;unfold eM un;rw[kT,fA (by have:=p.isLt;omega)])
end
end Go.Sx

end
section
namespace Go.Sx
open Go Go.RowKit
section
variable {H:Type} {enc:TypeId × Value→H} {P:Program} {W:World} {fuel:Nat} {t e:TypeId} {cs:List Value} {x:DataW H × List MemPlace}
theorem Qnx (hu:P.underlying t=some (.int .u32))(h:Tr enc P W fuel t cs x):∃ n:BitVec 32,cs=[dv n]:=by
 obtain⟨n,rfl,_,hw⟩:=DataW.trod_int hu h;simp[Lit.wf,IntKind.min,IntKind.max,IntKind.signed,IntKind.bits] at hw;refine⟨Iw n,?_⟩;show[Value.int .u32 n]=[Value.int .u32 (eM (Iw n))];have:eM (Iw n)=n:=by unfold eM Iw;rw[Yd];omega
 rw[this]
end
end Go.Sx

end
section
namespace Go.Sx
open Go Go.RowKit
structure iK where
 P:BitVec 64
 Q:BitVec 64
 G:BitVec 64
deriving DecidableEq,Inhabited
def iK.cs (x:iK)  : List Value:=[wv x.P,wv x.Q,wv x.G]
theorem iK.cs_inj {x y:iK}(h:iK.cs x=iK.cs y):x=y:=by
 have h0:x.P=y.P:=Qcf (cA (fun l=>l[0]?) h);have h1:x.Q=y.Q:=Qcf (cA (fun l=>l[1]?) h);have h2:x.G=y.G:=Qcf (cA (fun l=>l[2]?) h);cases x;cases y;simp only at *;subst h0;subst h1;subst h2;rfl
structure bX where
 Kind:BitVec 8
 Depth:Int
 Degree:Int
 Group:iK
deriving DecidableEq,Inhabited
def bX.cs (x:bX)  : List Value:=[bv x.Kind,.int .i64 x.Depth,.int .i64 x.Degree,wv x.Group.P,wv x.Group.Q,wv x.Group.G]
theorem bX.cs_inj {x y:bX}(h:bX.cs x=bX.cs y):x=y:=by
 have h0:x.Kind=y.Kind:=Fp (cA (fun l=>l[0]?) h);have h1:x.Depth=y.Depth:=vY (cA (fun l=>l[1]?) h);have h2:x.Degree=y.Degree:=vY (cA (fun l=>l[2]?) h);have h3:x.Group=y.Group:=iK.cs_inj (cA (fun l=>(l.drop 3).take 3) h);cases x;cases y;simp only at *;subst h0;subst h1;subst h2;subst h3;rfl
structure bG where
 Node:Int
 Minus:Int
deriving DecidableEq,Inhabited
def bG.cs (x:bG)  : List Value:=[.int .i64 x.Node,.int .i64 x.Minus]
theorem bG.cs_ones (x:bG)   : iD (bG.cs x )=true:=by simp only[bG.cs,uE,tK,kb,iD,Tg,Tf,Th,dC]
structure eR where
 Node:Int
 Minus:Int
 Key:W2
deriving DecidableEq,Inhabited
def eR.cs (x:eR)  : List Value:=[.int .i64 x.Node,.int .i64 x.Minus]++(kb x.Key)
structure bN where
 X:BitVec 64
 Y:BitVec 64
deriving DecidableEq,Inhabited
def bN.cs (x:bN)  : List Value:=[wv x.X,wv x.Y]
structure bU where
 Receiver:Int
 Labels:List eR
 Share:bN
deriving DecidableEq,Inhabited
def bU.cs (x:bU)(v0:Value):List Value:=[.int .i64 x.Receiver,v0,wv x.Share.X,wv x.Share.Y]
theorem bU.cs_ones (x:bU)(v0:Value)(h0:oneB v0=true):iD (bU.cs x v0)=true:=by simp only[bU.cs,uE,tK,kb,iD,Tg,Tf,Th,dC,h0]
structure gZ where
 Subset:bG
 Box:W2
deriving DecidableEq,Inhabited
def gZ.cs (x:gZ)  : List Value:=[.int .i64 x.Subset.Node,.int .i64 x.Subset.Minus]++(kb x.Box)
structure bT where
 Items:List gZ
 Base:BitVec 64
 Points:List bN
 Box:W2
 Check:W2
deriving DecidableEq,Inhabited
def bT.cs (x:bT)(v0:Value)(v1:Value):List Value:=[v0,wv x.Base,v1]++(kb x.Box++(kb x.Check))
theorem bT.cs_ones (x:bT)(v0:Value)(v1:Value)(h0:oneB v0=true)(h1:oneB v1=true):iD (bT.cs x v0 v1)=true:=by simp only[bT.cs,uE,tK,kb,iD,Tg,Tf,Th,dC,h0,h1]
structure cX where
 kind:BitVec 8
 depth:Int
 stride:Int
deriving DecidableEq,Inhabited
def cX.cs (x:cX)  : List Value:=[bv x.kind,.int .i64 x.depth,.int .i64 x.stride]
def D3 (p0:bX)(rec2:(Int)→Option (cX × Bool))(a3:Int):Option (cX × Bool):=(if aT (a3*a3)<p0.Depth then(rec2 (aT (a3+1))) else(some ((cX.mk p0.Kind p0.Depth a3),true)))
def zP (p0:bX)(a1:Bool):Option (cX × Bool):=(bif a1 then(some ((cX.mk 0#8 0 0),false)) else(aC (D3 p0) aI 1))
def Qq (p0:bX):Option (cX × Bool):=(if p0.Kind<1#8 then(zP p0 true) else(if 3#8<p0.Kind then(zP p0 true) else(if p0.Depth<0 then(zP p0 true) else(if(6:Int)<p0.Depth then(zP p0 true) else(zP p0 (decide (p0≠(bX.mk p0.Kind p0.Depth 0 (iK.mk 0#64 0#64 0#64)))))))))
def vH (p0:bX):Option (Int):=(Qq p0).bind fun x1=>((bif (!x1.2) then(some 30) else(some 0)))
end Go.Sx

end
section
namespace Go.Sx
open Go Go.RowKit
def Uv (p0:bX):Option (Bool):=(if 1#8≤p0.Kind then(if p0.Kind≤3#8 then(if(0:Int)≤p0.Depth then(if p0.Depth≤6 then(if p0.Degree=0 then(some (decide (p0.Group=(iK.mk 0#64 0#64 0#64)))) else(some false)) else(some false)) else(some false)) else(some false)) else(some false))
def Qos (p0:bX):Option (Int):=(Uv p0).bind fun x1=>((bif (!x1) then(some 30) else(some 0)))
end Go.Sx

end
section
namespace Go.Sx
open Go Go.RowKit
def D9 (p0:cX):Option (Int):=(eD p0.depth).bind fun nn1=>((some (lF 1 nn1)))
def Qr (p0:cX)(p1:Int):Option (Bool):=(if(1:Int)≤p1 then(D9 p0).bind fun x1=>((some (decide (p1<aT (2*x1))))) else(some false))
def tN (p0:Int):Option (Int):=(some (aT ((lg (un (wd p0)))-1)))
def P7 (p0:Int)(p1:Int)(a1:Bool):Option (Bool):=(bif a1 then(some false) else(tN p0).bind fun x2=>((tN p1).bind fun x3=>((eD (aT (x2-x3))).bind fun nn4=>((some (decide (xO p0 nn4=p1)))))))
def vP (p0:Int)(p1:Int):Option (Bool):=(if p0<1 then(P7 p0 p1 true) else(if p1<1 then(P7 p0 p1 true) else(tN p0).bind fun x5=>((tN p1).bind fun x6=>((P7 p0 p1 (decide (x5<x6)))))))
def vD (p0:cX)(p1:Int):Option (Bool):=(tN p1).bind fun x1=>((rW x1 p0.stride).bind fun x2=>((some (decide (x2=0)))))
def P9 (p0:Int)(p1:Int):Option (Int × Int):=(some (p0,p1))
def zH (p0:Int)(p1:Int):Option (Int):=(tN p1).bind fun x1=>((tN p0).bind fun x2=>((eD (aT ((aT (x1-x2))-1))).bind fun nn3=>((some (xO p1 nn3)))))
def D2 (p2:Int)(rec1:(Int)→Option (List Int))(a2:Int):Option (List Int):=(if a2≠p2 then(zH a2 p2).bind fun x3=>((yl x3 ((rec1 x3)))) else(some []))
def Qp (p1:Int)(p2:Int):Option (List Int):=(aC (D2 p2) aI p1)
def Ww  (s:Int):Option (Int):=match s with|a3=>(some 0)
def Qc7  (s:Int):Option (Int):=match s with|a3=>(some a3)
def Qn (p1_0:cX)(e4:Int)(nx1:(Int)→Option (Int))(s:Int):Option (Int):=match s with|a3=>(vD p1_0 e4).bind fun x5=>((bif x5 then(Qc7 e4) else(nx1 a3)))
def Rs (p0_0:Int)(p0_1:Int)(p1_0:cX):Option (Int):=(Qp p0_0 p0_1).bind fun l1=>((fU (Qn p1_0) Ww l1 0))
def wA (p0:cX)(p1:Int)(p2:Int):Option (Int):=(eD (un 1#64)).bind fun nn1=>((P9 p1 (xO p2 nn1)).bind fun x2=>((Rs x2.1 x2.2 p0).bind fun x3=>((some x3))))
def T0 (p0:cX)(p1:bG)(a3:Bool):Option (Bool):=(bif a3 then(some false) else(if p0.kind=2#8 then(some true) else(vD p0 p1.Node).bind fun x4=>((bif x4 then(some true) else(wA p0 p1.Node p1.Minus).bind fun x5=>((some (decide (x5=0))))))))
def Qu (p0:cX)(p1:bG)(a2:Bool):Option (Bool):=(bif a2 then(if p1.Minus=0 then(if p0.kind=1#8 then(some true) else(some (decide (p1.Node=1)))) else(some false)) else(Qr p0 p1.Minus).bind fun x6=>((bif (!x6) then(T0 p0 p1 true) else(if p1.Minus=p1.Node then(T0 p0 p1 true) else(vP p1.Minus p1.Node).bind fun x7=>((T0 p0 p1 (!x7)))))))
def tL (p0:cX)(p1:bG):Option (Bool):=(Qr p0 p1.Node).bind fun x1=>((bif (!x1) then(some false) else(if p0.kind=1#8 then(Qu p0 p1 true) else(Qu p0 p1 (decide (p1.Minus=0))))))
def zV (p1:List bG)(x1:cX × Bool)(rec1:(Int)→Option (cX × Int))(a3:Int):Option (cX × Int):=(if a3<(p1.length:Int) then(bJ p1 a3).bind fun y4=>((tL x1.1 y4).bind fun x5=>((bif (!x5) then(some ((cX.mk 0#8 0 0),31)) else(rec1 (aT (a3+1)))))) else(some (x1.1,0)))
def oU (p0:bX)(p1:List bG):Option (cX × Int):=(Qq p0).bind fun x1=>((bif (!x1.2) then(some ((cX.mk 0#8 0 0),30)) else(aC (zV p1 x1) aI 0)))
def zY (p0:W2)(p1:Int):Option (W2):=(some (cC p0 (aO 30#8) (wd p1)))
def Wv (a4:W2)(nx1:(W2)→Option (W2))(a6:BitVec 8):Option (W2):=(nx1 (cC a4 (aO a6) 0#64))
def Wu  (s:W2):Option (W2):=match s with|a4=>(some a4)
def Qm  (e5:Int)(nx1:(W2)→Option (W2))(s:W2):Option (W2):=match s with|a4=>(rW e5 2).bind fun x7=>((if x7=1 then(Wv a4 nx1 32#8) else(Wv a4 nx1 31#8)))
def zK (p0:W2)(p1:Int)(p2:Int):Option (W2):=(P9 p1 p2).bind fun x1=>((Qp x1.1 x1.2).bind fun l2=>((fU Qm Wu l2 p0)))
def Qo (p0:W2):Option (W2):=(some (cC p0 (aO 33#8) 0#64))
def zD (p0:cX)(p1:W2)(p2:bG):Option (W2):=(if p0.kind=1#8 then(zY p1 p2.Node).bind fun x1=>((some x1)) else(if p2.Minus=0 then(some (cC p1 (aO 34#8) 0#64)) else(zY p1 p2.Node).bind fun x2=>((zK x2 p2.Node p2.Minus).bind fun x3=>((Qo x3).bind fun x4=>((some x4))))))
def Qj (p0:W2)(p2:List bG)(p3:W2)(x2:cX × Int)(rec1:(Int × List gZ)→Option (bT × Int))(s1:Int × List gZ):Option (bT × Int):=match s1 with|(a6,a7)=>(if a6<(p2.length:Int) then(bJ p2 a6).bind fun y9=>((zD x2.1 p0 y9).bind fun x10=>((gI 32 a7 [(gZ.mk y9 (mH x10 p3))]).bind fun l11=>((rec1 (aT (a6+1),l11))))) else(some ((bT.mk a7 0#64 [] k0 (cC p3 (aO 53#8) 0#64)),0)))
def Wq (p0:W2)(p1:bX)(p2:List bG)(p3:W2):Option (bT × Int):=(vH p1).bind fun x1=>((if x1≠0 then(some ((bT.mk [] 0#64 [] k0 k0),x1)) else(if(64:Int)<(p2.length:Int) then(some ((bT.mk [] 0#64 [] k0 k0),4)) else(oU p1 p2).bind fun x2=>((if x2.2≠0 then(some ((bT.mk [] 0#64 [] k0 k0),x2.2)) else(aC (Qj p0 p2 p3 x2) aI (0,[])))))))
def Xdy (p0:Int)(rec1:(Int × Int)→Option (Int))(s1:Int × Int):Option (Int):=match s1 with|(a3,a4)=>(if a4<p0 then(rec1 (aT (2*a3),aT (a4+1))) else(some a3))
def Z4 (p0:Int):Option (Int):=(aC (Xdy p0) aI (1,0))
def Ur (p0:Int)(p1:Int):Option (Bool):=(if(1:Int)≤p1 then(Z4 p0).bind fun x1=>((some (decide (p1<aT (2*x1))))) else(some false))
def Qfs (p1:Int)(rec1:(Int)→Option (Bool))(a2:Int):Option (Bool):=(if p1<a2 then(sL a2 2).bind fun x3=>((rec1 x3)) else(some (decide (a2=p1))))
def Tx (p0:Int)(p1:Int):Option (Bool):=(aC (Qfs p1) aI p0)
def Qfw  (rec1:(Int × Int)→Option (Int))(s1:Int × Int):Option (Int):=match s1 with|(a3,a4)=>(if(1:Int)<a3 then(sL a3 2).bind fun x5=>((rec1 (x5,aT (a4+1)))) else(some a4))
def Qfv (p0:Int):Option (Int):=(aC (Qfw) aI (p0,0))
def Xdz (p0:Int)(rec1:(Int)→Option (Int))(a2:Int):Option (Int):=(if aT (a2*a2)<p0 then(rec1 (aT (a2+1))) else(some a2))
def Qfy (p0:Int):Option (Int):=(aC (Xdz p0) aI 1)
def Ga (p0:Int)(p1:Int):Option (Bool):=(Qfv p1).bind fun x1=>((Qfy p0).bind fun x2=>((rW x1 x2).bind fun x3=>((some (decide (x3=0))))))
def Uu (p0:Int)(rec1:(Int × List Int)→Option (List Int))(s1:Int × List Int):Option (List Int):=match s1 with|(a4,a5)=>(if a4≠p0 then(gI 8 [a4] a5).bind fun l7=>((sL a4 2).bind fun x8=>((rec1 (x8,l7)))) else(gI 8 [p0] a5).bind fun l9=>((some l9)))
def Ut (p0:Int)(p1:Int):Option (List Int):=(aC (Uu p0) aI (p1,[]))
def Ux (p0:Int)(x1:List Int)(rec1:(Int)→Option (Int))(a3:Int):Option (Int):=(if a3<aT ((x1.length:Int)-1) then(bJ x1 a3).bind fun y4=>((Ga p0 y4).bind fun x5=>((bif x5 then(bJ x1 a3).bind fun y6=>((some y6)) else(rec1 (aT (a3+1)))))) else(some 0))
def Uw (p0:Int)(p1:Int)(p2:Int):Option (Int):=(Ut p1 p2).bind fun x1=>((aC (Ux p0 x1) aI 1))
def R9 (p0:bX)(p1:bG)(a2:Bool):Option (Bool):=(bif a2 then(some false) else(if p0.Kind=2#8 then(some true) else(Ga p0.Depth p1.Node).bind fun x3=>((bif x3 then(some true) else(Uw p0.Depth p1.Node p1.Minus).bind fun x4=>((some (decide (x4=0))))))))
def uY (p0:bX)(p1:bG):Option (Bool):=(Ur p0.Depth p1.Node).bind fun x1=>((bif (!x1) then(some false) else(if p0.Kind=1#8 then(some (decide (p1.Minus=0))) else(if p1.Minus=0 then(some (decide (p1.Node=1))) else(Ur p0.Depth p1.Minus).bind fun x5=>((bif (!x5) then(R9 p0 p1 true) else(if p1.Minus=p1.Node then(R9 p0 p1 true) else(Tx p1.Minus p1.Node).bind fun x6=>((R9 p0 p1 (!x6))))))))))
def Qg1 (p0:W2)(p1:Int):Option (W2):=(rW p1 2).bind fun x1=>((if x1=0 then(some (cC p0 (aO 31#8) 0#64)) else(some (cC p0 (aO 32#8) 0#64))))
def Uy (x1:List Int)(rec1:(Int × W2)→Option (W2))(s1:Int × W2):Option (W2):=match s1 with|(a4,a5)=>(if a4<(x1.length:Int) then(bJ x1 a4).bind fun y6=>((Qg1 a5 y6).bind fun x7=>((rec1 (aT (a4+1),x7)))) else(some a5))
def Qfz (p0:W2)(p1:Int)(p2:Int):Option (W2):=(Ut p1 p2).bind fun x1=>((aC (Uy x1) aI (1,p0)))
def Gb (p0:W2)(p1:Int)(p2:Int):Option (W2):=(Qfz (cC p0 (aO 30#8) (wd p1)) p1 p2).bind fun x1=>((some x1))
def Qft (p0:W2)(p1:bX)(p2:bG):Option (W2):=(if p1.Kind=1#8 then(some (cC p0 (aO 30#8) (wd p2.Node))) else(if p2.Minus=0 then(some (cC p0 (aO 34#8) 0#64)) else(Gb p0 p2.Node p2.Minus).bind fun x1=>((some (cC x1 (aO 33#8) 0#64)))))
def Rq (p0:gZ)(p1:cX):Option (Bool):=(tL p1 p0.Subset).bind fun x1=>((some (!x1)))
def C7 (p0:List gZ)(p1_0:cX)(rec1:(Int)→Option (Int))(a2:Int):Option (Int):=(if a2<(p0.length:Int) then(bJ p0 a2).bind fun y3=>((Rq y3 p1_0).bind fun x4=>((bif x4 then(some a2) else(rec1 (aT (a2+1)))))) else(some (-1)))
def Ar (p0:List gZ)(p1_0:cX):Option (Int):=(aC (C7 p0 p1_0) aI 0)
def Nd (p0:List gZ)(p1_0:cX):Option (Bool):=(Ar p0 p1_0).bind fun x1=>((some (decide ((0:Int)≤x1))))
def D5 (p1:eR)(p2:bG)(a1:Bool):Option (Bool):=(bif a1 then(some (decide (p1.Minus=p2.Minus))) else(vP p1.Minus p1.Node).bind fun x2=>((bif x2 then(vP p2.Minus p1.Minus).bind fun x3=>((some x3)) else(some false))))
def Hd (p0:cX)(p1:eR)(p2:bG):Option (Bool):=(if p1.Node≠p2.Node then(some false) else(if p0.kind=1#8 then(D5 p1 p2 true) else(D5 p1 p2 (decide (p2.Minus=0)))))
def Wy (p2:bG)(y3:eR)(a5:Bool):Option (W2 × Bool):=(bif a5 then(some (y3.Key,true)) else(zK y3.Key y3.Minus p2.Minus).bind fun x6=>((Qo x6).bind fun x7=>((some (x7,true)))))
def D4 (p0:cX)(p1:bU)(p2:bG)(rec1:(Int)→Option (W2 × Bool))(a2:Int):Option (W2 × Bool):=(if a2<(p1.Labels.length:Int) then(bJ p1.Labels a2).bind fun y3=>((Hd p0 y3 p2).bind fun x4=>((bif (!x4) then(rec1 (aT (a2+1))) else(if p0.kind=1#8 then(Wy p2 y3 true) else(Wy p2 y3 (decide (p2.Minus=0))))))) else(some (k0,false)))
def Wx (p0:cX)(p1:bU)(p2:bG):Option (W2 × Bool):=(aC (D4 p0 p1 p2) aI 0)
def P6 (p1:bU)(p2:bT)(x1:cX × Int)(rec2:(Int)→Option (W2 × Int))(a4:Int):Option (W2 × Int):=(if a4<(p2.Items.length:Int) then(bJ p2.Items a4).bind fun y5=>((Wx x1.1 p1 y5.Subset).bind fun x6=>((bif x6.2 then(if cC (rU x6.1 y5.Box) (aO 53#8) 0#64=p2.Check then(some (rU x6.1 y5.Box,0)) else(rec2 (aT (a4+1)))) else(rec2 (aT (a4+1)))))) else(some (k0,6)))
def zJ (p1:bU)(p2:bT)(x1:cX × Int)(a2:Bool):Option (W2 × Int):=(bif a2 then(some (k0,8)) else(aC (P6 p1 p2 x1) aI 0))
def Qi (p0:bX)(p1:bU)(p2:bT):Option (W2 × Int):=(oU p0 ([]:List bG)).bind fun x1=>((if x1.2≠0 then(some (k0,x1.2)) else(if(64:Int)<(p2.Items.length:Int) then(zJ p1 p2 x1 true) else(if p2.Base≠0#64 then(zJ p1 p2 x1 true) else(if(0:Int)<(p2.Points.length:Int) then(zJ p1 p2 x1 true) else(if p2.Box≠k0 then(zJ p1 p2 x1 true) else(Nd p2.Items x1.1).bind fun x7=>((zJ p1 p2 x1 x7))))))))
def Gc (p1:Int)(p2:Int)(p3:bG)(a1:Bool):Option (Bool):=(bif a1 then(if p1=p3.Node then(some (decide (p2=p3.Minus))) else(some false)) else(if p1=p3.Node then(if(1:Int)≤p2 then(Tx p2 p1).bind fun x2=>((bif x2 then(Tx p3.Minus p2).bind fun x3=>((some x3)) else(some false))) else(some false)) else(some false)))
def Qow (p0:bX)(p1:Int)(p2:Int)(p3:bG):Option (Bool):=(if p0.Kind=1#8 then(Gc p1 p2 p3 true) else(Gc p1 p2 p3 (decide (p3.Minus=0))))
def Uq (p0:List (BitVec 8))(rec1:(BitVec 64 × Int)→Option (BitVec 64))(s1:BitVec 64 × Int):Option (BitVec 64):=match s1 with|(a3,a4)=>(if a4<(p0.length:Int) then(bJ p0 a4).bind fun y5=>((rec1 ((256#64*a3)+(y5.setWidth 64),aT (a4+1)))) else(some a3))
def Qor (p0:List (BitVec 8)):Option (BitVec 64):=(aC (Uq p0) aI (0#64,0))
end Go.Sx

end
section
namespace Go.Sx
open Go Go.RowKit
def Rv (p0:cX)(p1:Int):Option (cX × Int):=(some (p0,p1))
def D6 (p0:cX)(p1:Int):Option (Int):=(D9 p0).bind fun x1=>((some (aT (x1+p1))))
def zW (p0:Int):Option (Int):=(some (I9 .xor p0 1))
def Rw (x1:Int)(a2:Int)(rec1:(Int)→Option (List (Int × Int)))(s:Unit):Option (List (Int × Int)):=(zH a2 x1).bind fun x10=>((rec1 x10))
def Ry (p1:cX)(a2:Int)(e7:Int)(nx2:Unit→Option (List (Int × Int)))(s:Unit):Option (List (Int × Int)):=(zW e7).bind fun x8=>((tL p1 (bG.mk a2 x8)).bind fun x9=>((bif x9 then(yl (a2,x8) ((nx2 ()))) else(nx2 ()))))
def Rx (p1:cX)(x1:Int)(rec1:(Int)→Option (List (Int × Int)))(a2:Int):Option (List (Int × Int)):=(if a2≠x1 then(if p1.kind=1#8 then(zH a2 x1).bind fun x3=>((yl (x3,0) ((zH a2 x1).bind fun x4=>((rec1 x4))))) else(P9 a2 x1).bind fun x5=>((Qp x5.1 x5.2).bind fun l6=>((fU (Ry p1 a2) (Rw x1 a2 rec1) l6 ())))) else(some []))
def Wz (p1:cX)(p2:Int):Option (List (Int × Int)):=(D6 p1 p2).bind fun x1=>((yl (1,0) ((aC (Rx p1 x1) aI 1))))
def Xjs  (ee:Int × Int)(nx1:(Int)→Option (Int × Int))(s:Int):Option (Int × Int):=match ee with|(e6,e7)=>match s with|a5=>(nx1 (aT (a5+1)))
def D8 (p0:cX)(p1:Int):Option (Bool):=(if(0:Int)≤p1 then(D9 p0).bind fun x1=>((some (decide (p1<x1)))) else(some false))
def Wt (a7:List eR)(nx1:(List eR)→Option (bU × Int))(e9:Int)(e10:Int)(a11:W2):Option (bU × Int):=(gI 32 a7 [(eR.mk e9 e10 a11)]).bind fun l12=>((nx1 l12))
def Qk (p2:Int)(s:List eR):Option (bU × Int):=match s with|a7=>(some ((bU.mk p2 a7 (bN.mk 0#64 0#64)),0))
def Ql (p0:W2)(x1:cX × Int)(ee:Int × Int)(nx1:(List eR)→Option (bU × Int))(s:List eR):Option (bU × Int):=match ee with|(e9,e10)=>match s with|a7=>(if e10=0 then(zD x1.1 p0 (bG.mk e9 0)).bind fun x13=>((Wt a7 nx1 e9 e10 x13)) else(zY p0 e9).bind fun x14=>((zK x14 e9 e10).bind fun x15=>((Wt a7 nx1 e9 e10 x15))))
def Wr (p0:W2)(p1:bX)(p2:Int):Option (bU × Int):=(oU p1 ([]:List bG)).bind fun x1=>((if x1.2≠0 then(some ((bU.mk 0 [] (bN.mk 0#64 0#64)),x1.2)) else(D8 x1.1 p2).bind fun x2=>((bif (!x2) then(some ((bU.mk 0 [] (bN.mk 0#64 0#64)),2)) else(Rv x1.1 p2).bind fun x3=>((Wz x3.1 x3.2).bind fun l4=>((fU (Ql p0 x1) (Qk p2) l4 [])))))))
def Qg0 (p0:Int)(p1:Int):Option (Bool):=(if(0:Int)≤p1 then(Z4 p0).bind fun x1=>((some (decide (p1<x1)))) else(some false))
def Xdv (x2:List Int)(rec1:(List bG × Int)→Option (List bG))(s1:List bG × Int):Option (List bG):=match s1 with|(a6,a8)=>(if a8<(x2.length:Int) then(bJ x2 a8).bind fun y9=>((gI 16 a6 [(bG.mk y9 0)]).bind fun l10=>((rec1 (l10,aT (a8+1))))) else(some a6))
def Xdx (p0:bX)(x2:List Int)(a17:Int)(rec2:(List bG × Int)→Option (List bG))(rec3:(List bG × Int)→Option (List bG))(s3:List bG × Int):Option (List bG):=match s3 with|(a21,a23)=>(if a23<(x2.length:Int) then(bJ x2 a17).bind fun y24=>((bJ x2 a23).bind fun y25=>((uY p0 (bG.mk y24 (I9 .xor y25 1))).bind fun x26=>((bif x26 then(gI 16 a21 [(bG.mk y24 (I9 .xor y25 1))]).bind fun l27=>((rec3 (l27,aT (a23+1)))) else(rec3 (a21,aT (a23+1))))))) else(rec2 (a21,aT (a17+1))))
def Xdw (p0:bX)(x2:List Int)(rec2:(List bG × Int)→Option (List bG))(s2:List bG × Int):Option (List bG):=match s2 with|(a15,a17)=>(if a17<(x2.length:Int) then(aC (Xdx p0 x2 a17 rec2) aI (a15,aT (a17+1))) else(some a15))
def Qfu (p0:bX)(p1:Int):Option (List bG):=(Z4 p0.Depth).bind fun x1=>((Ut 1 (aT (x1+p1))).bind fun x2=>((if p0.Kind=1#8 then(aC (Xdv x2) aI ([],0)) else(gI 16 [] [(bG.mk 1 0)]).bind fun l11=>((aC (Xdw p0 x2) aI (l11,0))))))
def Qfx (x1:List bG)(a5:Int)(a6:List eR)(rec1:(Int × List eR)→Option (bU))(a10:W2):Option (bU):=(bJ x1 a5).bind fun y11=>((bJ x1 a5).bind fun y12=>((gI 32 a6 [(eR.mk y11.Node y12.Minus a10)]).bind fun l13=>((rec1 (aT (a5+1),l13)))))
def Qov (p0:W2)(x1:List bG)(a5:Int)(a6:List eR)(rec1:(Int × List eR)→Option (bU))(a9:W2):Option (bU):=(bJ x1 a5).bind fun y14=>((if y14.Minus≠0 then(bJ x1 a5).bind fun y15=>((bJ x1 a5).bind fun y16=>((Gb p0 y15.Node y16.Minus).bind fun x17=>((Qfx x1 a5 a6 rec1 x17)))) else(Qfx x1 a5 a6 rec1 a9)))
def Ty (p0:W2)(p1:bX)(p2:Int)(x1:List bG)(rec1:(Int × List eR)→Option (bU))(s1:Int × List eR):Option (bU):=match s1 with|(a5,a6)=>(if a5<(x1.length:Int) then(bJ x1 a5).bind fun y18=>((Qft p0 p1 y18).bind fun x19=>((Qov p0 x1 a5 a6 rec1 x19))) else(some (bU.mk p2 a6 (bN.mk 0#64 0#64))))
def Qou (p0:W2)(p1:bX)(p2:Int):Option (bU):=(Qfu p1 p2).bind fun x1=>((aC (Ty p0 p1 p2 x1) aI (0,[])))
def Qot (p0:W2)(p1:bX)(p2:Int):Option (bU × Int):=(Uv p1).bind fun x1=>((bif (!x1) then(some ((bU.mk 0 [] (bN.mk 0#64 0#64)),30)) else(Qg0 p1.Depth p2).bind fun x2=>((bif (!x2) then(some ((bU.mk 0 [] (bN.mk 0#64 0#64)),2)) else(Qou p0 p1 p2).bind fun x3=>((some (x3,0)))))))
end Go.Sx

end
section
namespace Go.Sx
open Go Go.RowKit
noncomputable section
def Qt (a2:Int)(rec1:(Int)→Option (Bool))(a4:Bool):Option (Bool):=(bif a4 then(some false) else(rec1 (aT (a2+1))))
def D7 (p0:cX)(p1:List Int)(rec1:(Int)→Option (Bool))(a2:Int):Option (Bool):=(if a2<(p1.length:Int) then(bJ p1 a2).bind fun y3=>((D8 p0 y3).bind fun x5=>((bif (!x5) then(Qt a2 rec1 true) else(if(0:Int)<a2 then(bJ p1 (aT (a2-1))).bind fun y6=>((Qt a2 rec1 (decide (y3≤y6)))) else(Qt a2 rec1 false))))) else(some true))
def Qs (p0:cX)(p1:List Int):Option (Bool):=(aC (D7 p0 p1) aI 0)
def P2 (p0:Int)(p1:Int)(p2:List bG):Option (List bG):=(gI 16 p2 [(bG.mk p0 p1)]).bind fun l1=>((some l1))
def P5 (a5:Int)(rec1:(Int × List Int)→Option (List bG × Int))(rec2:(Int × List Int)→Option (List bG × Int))(s2:Int × List Int):Option (List bG × Int):=match s2 with|(a11,a12)=>(if(0:Int)<a11 then(eD (un 1#64)).bind fun nn13=>((rec2 (xO a11 nn13,pX a12 a11))) else(rec1 (aT (a5+1),a12)))
def Qg (a16:List bG)(nx3:(List bG)→Option (List bG × Int))(k18:Int)(a20:Bool):Option (List bG × Int):=(bif a20 then(zW k18).bind fun x21=>((P2 x21 0 a16).bind fun x22=>((nx3 x22))) else(nx3 a16))
def Qh (nx3:(List bG)→Option (List bG × Int))(a26:Int)(a27:Int)(a28:List bG):Option (List bG × Int):=(P2 a27 a26 a28).bind fun x30=>((nx3 x30))
def rM (a16:List bG)(nx3:(List bG)→Option (List bG × Int))(k18:Int)(a26:Int)(x31:Int)(a32:Bool):Option (List bG × Int):=(bif a32 then(P2 k18 x31 a16).bind fun x33=>((Qh nx3 a26 x31 x33)) else(Qh nx3 a26 k18 a16))
def wE (x1:cX × Int)(a6:List Int)(a16:List bG)(nx3:(List bG)→Option (List bG × Int))(k18:Int)(rec6:(Int)→Option (List bG × Int))(a26:Int):Option (List bG × Int):=(bif ((decide ((aT (2*a26))∈a6)) != (decide ((aT ((aT (2*a26))+1))∈a6))) then(if ¬ ((aT (a26*2))∈a6) then(rec6 (aT ((aT (a26*2))+1))) else(rec6 (aT (a26*2)))) else(if a26=k18 then(nx3 a16) else(wA x1.1 k18 a26).bind fun x31=>((if x31≠0 then(if x1.1.kind=3#8 then(vD x1.1 k18).bind fun x34=>((rM a16 nx3 k18 a26 x31 (!x34))) else(rM a16 nx3 k18 a26 x31 false)) else(rM a16 nx3 k18 a26 x31 false)))))
def zX (x1:cX × Int)(a6:List Int)(a16:List bG)(nx3:(List bG)→Option (List bG × Int))(k18:Int)(a24:Bool):Option (List bG × Int):=(bif a24 then(nx3 a16) else(aC (wE x1 a6 a16 nx3 k18) aI k18))
def P3  (a16:List bG):Option (List bG × Int):=(C9 bG.Node a16).bind fun l19=>((some (l19,0)))
def zZ (x1:cX × Int)(a6:List Int)(k18:Int)(nx3:(List bG)→Option (List bG × Int))(a16:List bG):Option (List bG × Int):=(if x1.1.kind=1#8 then(if(1:Int)<k18 then(zW k18).bind fun x23=>((Qg a16 nx3 k18 (decide (¬ (x23∈a6))))) else(Qg a16 nx3 k18 false)) else(if(1:Int)<k18 then(zW k18).bind fun x35=>((zX x1 a6 a16 nx3 k18 (decide (¬ (x35∈a6))))) else(zX x1 a6 a16 nx3 k18 false)))
def P4 (p1:List Int)(x1:cX × Int)(rec1:(Int × List Int)→Option (List bG × Int))(s1:Int × List Int):Option (List bG × Int):=match s1 with|(a5,a6)=>(if a5<(p1.length:Int) then(bJ p1 a5).bind fun y7=>((D6 x1.1 y7).bind fun x8=>((aC (P5 a5 rec1) aI (x8,a6)))) else(pW (zZ x1 a6) P3 aI a6 []))
def Wp (p0:bX)(p1:List Int):Option (List bG × Int):=(oU p0 ([]:List bG)).bind fun x1=>((if x1.2≠0 then(some ([],x1.2)) else(Qs x1.1 p1).bind fun x2=>((bif (!x2) then(some ([],2)) else(if(p1.length:Int)=0 then(some ([(bG.mk 1 0)],0)) else(aC (P4 p1 x1) aI (0,[])))))))
end
end Go.Sx

end
section

end
section
namespace Go.Sx
open Go Go.RowKit
noncomputable section
structure mO where
 x:BitVec 64
 y:BitVec 64
deriving DecidableEq,Inhabited
def mO.cs (x:mO)  : List Value:=[wv x.x,wv x.y]
def Dz (p0:BitVec 64)(rec2:(BitVec 64)→Option (Bool))(a3:BitVec 64):Option (Bool):=(if a3*a3≤p0 then(gB p0 a3).bind fun x4=>((if x4=0#64 then(some false) else(rec2 (a3+1#64)))) else(some true))
def Dy (p0:BitVec 64)(a1:Bool):Option (Bool):=(bif a1 then(some false) else(aC (Dz p0) aI 2#64))
def Zq (p0:BitVec 64):Option (Bool):=(if p0<2#64 then(Dy p0 true) else(Dy p0 (decide (1048575#64<p0))))
def L6 (p2:BitVec 64)(rec1:(BitVec 64 × BitVec 64 × BitVec 64)→Option (BitVec 64))(s1:BitVec 64 × BitVec 64 × BitVec 64):Option (BitVec 64):=match s1 with|(a6,a7,a8)=>(if 0#64<a7 then(if a7 &&& 1#64=1#64 then(gB (a8*a6) p2).bind fun x9=>((gB (a6*a6) p2).bind fun x10=>((eD (un 1#64)).bind fun nn11=>((rec1 (x10,a7 >>> nn11,x9))))) else(gB (a6*a6) p2).bind fun x12=>((eD (un 1#64)).bind fun nn13=>((rec1 (x12,a7 >>> nn13,a8))))) else(some a8))
def Zp (p0:BitVec 64)(p1:BitVec 64)(p2:BitVec 64):Option (BitVec 64):=(gB 1#64 p2).bind fun x1=>((gB p0 p2).bind fun x2=>((aC (L6 p2) aI (x2,p1,x1))))
def xS (a1:Bool):Option (Int):=(bif a1 then(some 13) else(some 0))
def Dq (p0:iK):Option (Int):=(Zq p0.P).bind fun x2=>((bif (!x2) then(xS true) else(Zq p0.Q).bind fun x3=>((bif (!x3) then(xS true) else(gB (p0.P-1#64) p0.Q).bind fun x4=>((if x4≠0#64 then(xS true) else(if p0.G<2#64 then(xS true) else(if p0.P≤p0.G then(xS true) else(Zp p0.G p0.Q p0.P).bind fun x5=>((xS (decide (x5≠1#64))))))))))))
def mE (p0:bX):Option (Bool):=(if p0.Kind=4#8 then(if(0:Int)≤p0.Depth then(if p0.Depth≤6 then(if(1:Int)≤p0.Degree then(if p0.Degree≤8 then(Dq p0.Group).bind fun x1=>((if x1=0 then(eD p0.Depth).bind fun nn2=>((some (decide (wd (aT ((lF 1 nn2)+p0.Degree))<p0.Group.Q)))) else(some false))) else(some false)) else(some false)) else(some false)) else(some false)) else(some false))
def O5 (p0:W2)(rec1:(Int × BitVec 64 × BitVec 64)→Option (mO))(s1:Int × BitVec 64 × BitVec 64):Option (mO):=match s1 with|(a4,a5,a6)=>(if a4<8 then(eD (un 8#64)).bind fun nn7=>((bJ (pZ p0) a4).bind fun y8=>((eD (un 8#64)).bind fun nn9=>((bJ (pZ p0) (aT (8+a4))).bind fun y10=>((rec1 (aT (a4+1),(a5 <<< nn7) ||| (y8.setWidth 64),(a6 <<< nn9) ||| (y10.setWidth 64))))))) else(some (mO.mk a5 a6)))
def O4 (p0:W2):Option (mO):=(aC (O5 p0) aI (0,0#64,0#64))
def tT (p0:W2)(p1:BitVec 64)(p2:BitVec 64):Option (BitVec 64):=(if p2=0#64 then(some 0#64) else(O4 (cC p0 (aO 3#8) p1)).bind fun x1=>((gB x1.x p2).bind fun x2=>((some x2))))
def Ji (p0:W2)(p1:bX)(l1:List (BitVec 64))(rec1:(List (BitVec 64) × Int)→Option (List (BitVec 64)))(s1:List (BitVec 64) × Int):Option (List (BitVec 64)):=match s1 with|(a5,a7)=>(if a7<(l1.length:Int) then(tT (cC p0 (aO 40#8) 0#64) (wd a7) p1.Group.Q).bind fun x8=>((bJ a5 a7).bind fun y9=>((rec1 (a5.set a7.toNat x8,aT (a7+1))))) else(some a5))
def Z1 (p0:W2)(p1:bX):Option (List (BitVec 64)):=(lG 8 (aT (p1.Degree+1)) 0#64).bind fun l1=>((aC (Ji p0 p1 l1) aI (l1,0)))
def Ah (p0:List (BitVec 64)):Option (List (BitVec 64)):=(some p0)
def C6 (p1:List (BitVec 64))(rec1:(Int)→Option (List (Int × BitVec 64)))(a2:Int):Option (List (Int × BitVec 64)):=(if(0:Int)≤a2 then(bJ p1 a2).bind fun y3=>((yl (a2,y3) ((rec1 (aT (a2-1)))))) else(some []))
def Ag (p1:List (BitVec 64)):Option (List (Int × BitVec 64)):=(aC (C6 p1) aI (aT ((p1.length:Int)-1)))
def F9 (p0:BitVec 64)(p1:List (BitVec 64))(rec1:(BitVec 64 × Int)→Option (BitVec 64))(s1:BitVec 64 × Int):Option (BitVec 64):=match s1 with|(a3,a4)=>(if a4<(p1.length:Int) then(bJ p1 a4).bind fun y5=>((gB (a3*y5) p0).bind fun x6=>((rec1 (x6,aT (a4+1))))) else(some a3))
def wQ (p0:BitVec 64)(p1:List (BitVec 64)):Option (BitVec 64):=(aC (F9 p0 p1) aI (1#64,0))
def Tu  (s:BitVec 64):Option (BitVec 64):=match s with|a4=>(some a4)
def Jh (p1:BitVec 64)(p2:BitVec 64)(ee:Int × BitVec 64)(nx1:(BitVec 64)→Option (BitVec 64))(s:BitVec 64):Option (BitVec 64):=match ee with|(e5,e6)=>match s with|a4=>(wQ p1 [a4,p2]).bind fun x7=>((gB (x7+e6) p1).bind fun x8=>((nx1 x8)))
def Jg (p0:List (BitVec 64))(p1:BitVec 64)(p2:BitVec 64):Option (BitVec 64):=(Ah p0).bind fun x1=>((Ag x1).bind fun l2=>((fU (Jh p1 p2) Tu l2 0#64)))
def Jc (p0:W2)(p1:bX)(p2:Int)(a2:Bool):Option (bU × Int):=(bif a2 then(some ((bU.mk 0 [] (bN.mk 0#64 0#64)),2)) else(Z1 p0 p1).bind fun x3=>((Jg x3 p1.Group.Q ((wd p2)+1#64)).bind fun x4=>((some ((bU.mk p2 [] (bN.mk ((wd p2)+1#64) x4)),0)))))
def F7 (p0:W2)(p1:bX)(p2:Int):Option (bU × Int):=(mE p1).bind fun x1=>((bif (!x1) then(some ((bU.mk 0 [] (bN.mk 0#64 0#64)),30)) else(if p2<0 then(Jc p0 p1 p2 true) else(eD p1.Depth).bind fun nn5=>((Jc p0 p1 p2 (decide (lF 1 nn5≤p2)))))))
def Qoq (p0:BitVec 64)(rec1:(BitVec 64)→Option (Bool))(a2:BitVec 64):Option (Bool):=(if a2*a2≤p0 then(gB p0 a2).bind fun x3=>((if x3=0#64 then(some false) else(rec1 (a2+1#64)))) else(some (decide (2#64≤p0))))
def Qfn (p0:BitVec 64):Option (Bool):=(aC (Qoq p0) aI 2#64)
def Qfp (p2:BitVec 64)(a6:BitVec 64)(a8:BitVec 64)(rec1:(BitVec 64 × BitVec 64 × BitVec 64)→Option (BitVec 64))(a9:BitVec 64):Option (BitVec 64):=(gB (a8*a8) p2).bind fun x10=>((wX a6 2#64).bind fun x11=>((rec1 (x11,a9,x10))))
def Up (p2:BitVec 64)(rec1:(BitVec 64 × BitVec 64 × BitVec 64)→Option (BitVec 64))(s1:BitVec 64 × BitVec 64 × BitVec 64):Option (BitVec 64):=match s1 with|(a6,a7,a8)=>(if 0#64<a6 then(gB a6 2#64).bind fun x12=>((if x12=1#64 then(gB (a7*a8) p2).bind fun x13=>((Qfp p2 a6 a8 rec1 x13)) else(Qfp p2 a6 a8 rec1 a7))) else(some a7))
def Qfo (p0:BitVec 64)(p1:BitVec 64)(p2:BitVec 64):Option (BitVec 64):=(gB 1#64 p2).bind fun x1=>((gB p0 p2).bind fun x2=>((aC (Up p2) aI (p1,x1,x2))))
def Jk (p0:iK)(a1:Bool):Option (Bool):=(bif a1 then(some false) else(if 2#64≤p0.G then(if p0.G<p0.P then(Qfo p0.G p0.Q p0.P).bind fun x2=>((some (decide (x2=1#64)))) else(some false)) else(some false)))
def Qfq (p0:iK):Option (Bool):=(if 1048575#64<p0.P then(Jk p0 true) else(Qfn p0.P).bind fun x3=>((bif (!x3) then(Jk p0 true) else(if 1048575#64<p0.Q then(Jk p0 true) else(Qfn p0.Q).bind fun x4=>((bif (!x4) then(Jk p0 true) else(gB (p0.P-1#64) p0.Q).bind fun x5=>((Jk p0 (decide (x5≠0#64))))))))))
def B1 (p0:bX)(a1:Bool):Option (Bool):=(bif a1 then(some false) else(Z4 p0.Depth).bind fun x2=>((some (decide (wd (aT (x2+p0.Degree))<p0.Group.Q)))))
def Gd (p0:bX):Option (Bool):=(if p0.Kind≠4#8 then(B1 p0 true) else(if p0.Depth<0 then(B1 p0 true) else(if(6:Int)<p0.Depth then(B1 p0 true) else(if p0.Degree<1 then(B1 p0 true) else(if(8:Int)<p0.Degree then(B1 p0 true) else(Qfq p0.Group).bind fun x3=>((B1 p0 (!x3))))))))
def Qfr (p0:W2)(p1:BitVec 64)(p2:BitVec 64):Option (BitVec 64):=(if p2=0#64 then(some 0#64) else(Qor (((pZ (cC p0 (aO 3#8) p1)).take 8).drop 0)).bind fun x1=>((gB x1 p2).bind fun x2=>((some x2))))
def xC (p0:bX):Option (Int):=(mE p0).bind fun x1=>((bif (!x1) then(some 30) else(some 0)))
end
end Go.Sx

end
section
namespace Go.Sx
open Go Go.RowKit
noncomputable section
def Zh (p0:BitVec 64):Option (Bool):=(if 1#64≤p0 then(some (decide (p0<4294967296#64))) else(some false))
def Du (p0:BitVec 64)(p1:BitVec 64)(p2:BitVec 64):Option (BitVec 64 × Int):=(Zh p2).bind fun x1=>((bif (!x1) then(some (0#64,2)) else(Zp p0 p1 p2).bind fun x2=>((some (x2,0)))))
def Z0 (p0:bX)(p1:BitVec 64)(p2:BitVec 64):Option (BitVec 64):=(Du p1 p2 p0.Group.P).bind fun x1=>((some x1.1))
def Tt (p0:BitVec 64):Option (W2):=(some (cC k0 (aO 42#8) p0))
def Ue (p0:bN)(p1:bN):Option (Bool):=(some (decide (p0.X=p1.X)))
def Ku (p0:List bN)(p1_0:bN)(rec1:(Int)→Option (Int))(a2:Int):Option (Int):=(if a2<(p0.length:Int) then(bJ p0 a2).bind fun y3=>((Ue y3 p1_0).bind fun x4=>((bif x4 then(some a2) else(rec1 (aT (a2+1)))))) else(some (-1)))
def Aq (p0:List bN)(p1_0:bN):Option (Int):=(aC (Ku p0 p1_0) aI 0)
def Nf (p0:List bN)(p1_0:bN):Option (Bool):=(Aq p0 p1_0).bind fun x1=>((some (decide ((0:Int)≤x1))))
def F8 (p0:List bN)(rec1:(Int)→Option (Bool))(a2:Int):Option (Bool):=(if a2<(p0.length:Int) then(bJ p0 a2).bind fun y3=>((uG p0 0 a2).bind fun l4=>((Nf l4 y3).bind fun x5=>((bif x5 then(some false) else(rec1 (aT (a2+1))))))) else(some true))
def Je (p0:List bN):Option (Bool):=(aC (F8 p0) aI 0)
def Qfm (p1:BitVec 64)(rec1:(BitVec 64 × BitVec 64 × BitVec 64 × BitVec 64)→Option (BitVec 64 × Bool))(s1:BitVec 64 × BitVec 64 × BitVec 64 × BitVec 64):Option (BitVec 64 × Bool):=match s1 with|(a7,a8,a9,a10)=>(if a9≠0#64 then(wX a7 a9).bind fun x11=>((gB x11 p1).bind fun x12=>((gB (x12*a10) p1).bind fun x13=>((gB (a8+(p1-x13)) p1).bind fun x14=>((rec1 (a9,a10,a7-(x11*a9),x14)))))) else(some (a8,decide (a7=1#64))))
def Qfl (p0:BitVec 64)(p1:BitVec 64):Option (BitVec 64 × Bool):=(gB p0 p1).bind fun x1=>((gB 1#64 p1).bind fun x2=>((aC (Qfm p1) aI (x1,x2,p1,0#64))))
def Tp (p0:BitVec 64)(p1:BitVec 64)(p2:BitVec 64):Option (BitVec 64):=(gB ((p1+p0)-p2) p0).bind fun x1=>((some x1))
def Ze (p1:BitVec 64)(rec1:(Int × Int × Int × Int)→Option (BitVec 64 × Int))(s1:Int × Int × Int × Int):Option (BitVec 64 × Int):=match s1 with|(a7,a8,a9,a10)=>(if a8≠0 then(sL a7 a8).bind fun x11=>((rec1 (a8,aT (a7-(aT (x11*a8))),a10,aT (a9-(aT (x11*a10)))))) else(if a7≠1 then(some (0#64,10)) else(rW a9 (aT (un p1))).bind fun x12=>((rW (aT (x12+(aT (un p1)))) (aT (un p1))).bind fun x13=>((some (wd x13,0))))))
def Zd (p0:BitVec 64)(p1:BitVec 64):Option (BitVec 64 × Int):=(Zh p1).bind fun x1=>((bif (!x1) then(some (0#64,2)) else(gB p0 p1).bind fun x2=>((aC (Ze p1) aI (aT (un p1),aT (un x2),0,1)))))
def Tj (p0:BitVec 64)(p1:BitVec 64)(p2:BitVec 64):Option (BitVec 64):=(Zd p2 p0).bind fun x1=>((wQ p0 [p1,x1.1]).bind fun x2=>((some x2)))
end
end Go.Sx

end
section
namespace Go.Sx
open Go Go.RowKit
noncomputable section
def S9 (p0:BitVec 64)(p1:bX)(p2:bT)(p3:List (BitVec 64))(p4:BitVec 64):Option (BitVec 64):=(Jg p3 p4 p0).bind fun x1=>((Z0 p1 p2.Base x1).bind fun x2=>((some x2)))
def F4 (a3:Int)(rec1:(Int)→Option (bT × Int))(a5:Bool):Option (bT × Int):=(bif a5 then(some ((bT.mk [] 0#64 [] k0 k0),2)) else(rec1 (aT (a3+1))))
def F6 (p1:bX)(p3:W2)(a9:List (BitVec 64))(a14:BitVec 64)(rec6:(Int × List bN)→Option (bT × Int))(s6:Int × List bN):Option (bT × Int):=match s6 with|(a30,a31)=>(if(a31.length:Int)<p1.Degree then(S9 (wd a30) p1 (bT.mk [] a14 a31 k0 (cC p3 (aO 53#8) 0#64)) a9 p1.Group.Q).bind fun x33=>((gI 16 a31 [(bN.mk (wd a30) x33)]).bind fun l34=>((rec6 (aT (a30+1),l34)))) else(S9 0#64 p1 (bT.mk [] a14 a31 k0 (cC p3 (aO 53#8) 0#64)) a9 p1.Group.Q).bind fun x35=>((Tt x35).bind fun x36=>((some ((bT.mk [] a14 a31 (mH x36 p3) (cC p3 (aO 53#8) 0#64)),0)))))
def F5 (p1:bX)(p2:List Int)(p3:W2)(a9:List (BitVec 64))(a14:BitVec 64)(rec5:(Int × List bN)→Option (bT × Int))(s5:Int × List bN):Option (bT × Int):=match s5 with|(a20,a21)=>(if a20<(p2.length:Int) then(bJ p2 a20).bind fun y23=>((S9 (wd (aT (y23+1))) p1 (bT.mk [] a14 a21 k0 (cC p3 (aO 53#8) 0#64)) a9 p1.Group.Q).bind fun x24=>((gI 16 a21 [(bN.mk (wd (aT (y23+1))) x24)]).bind fun l25=>((rec5 (aT (a20+1),l25))))) else(eD p1.Depth).bind fun nn26=>((aC (F6 p1 p3 a9 a14) aI (aT ((lF 1 nn26)+1),a21))))
def Ud (p1:bX)(p2:List Int)(p3:W2)(a9:List (BitVec 64))(a14:BitVec 64):Option (bT × Int):=(aC (F5 p1 p2 p3 a9 a14) aI (0,[]))
def Jb (p0:W2)(p1:bX)(p2:List Int)(p3:W2)(p4:BitVec 64)(a9:List (BitVec 64)):Option (bT × Int):=(tT (cC p0 (aO 41#8) p4) 0#64 (p1.Group.Q-1#64)).bind fun x12=>((Z0 p1 p1.Group.G (1#64+x12)).bind fun x37=>((Ud p1 p2 p3 a9 x37)))
def X1 (p0:W2)(p1:bX)(p2:List Int)(p3:W2)(p4:BitVec 64)(rec1:(Int)→Option (bT × Int))(a3:Int):Option (bT × Int):=(if a3<(p2.length:Int) then(bJ p2 a3).bind fun y4=>((if y4<0 then(F4 a3 rec1 true) else(eD p1.Depth).bind fun nn6=>((if lF 1 nn6≤y4 then(F4 a3 rec1 true) else(if(0:Int)<a3 then(bJ p2 (aT (a3-1))).bind fun y7=>((F4 a3 rec1 (decide (y4≤y7)))) else(F4 a3 rec1 false)))))) else(if p1.Degree<(p2.length:Int) then(some ((bT.mk [] 0#64 [] k0 k0),4)) else(Z1 p0 p1).bind fun x39=>((Jb p0 p1 p2 p3 p4 x39))))
def qV (p0:W2)(p1:bX)(p2:List Int)(p3:W2)(p4:BitVec 64):Option (bT × Int):=(mE p1).bind fun x1=>((bif (!x1) then(some ((bT.mk [] 0#64 [] k0 k0),30)) else(aC (X1 p0 p1 p2 p3 p4) aI 0)))
end
end Go.Sx

end
section
namespace Go.Sx
open Go Go.RowKit
noncomputable section
def Ai (p0:List bN):Option (List bN):=(gI 16 [] p0).bind fun l1=>((some l1))
def Jf (p0:bX)(p1:bU)(a2:Bool):Option (Bool):=(bif a2 then(some (decide (p1.Share.Y<p0.Group.Q))) else(some false))
def R0 (p0:bX)(p1:bU)(a3:List bN)(a5:Int)(rec4:(Bool × Int)→Option (Bool))(s4:Bool × Int):Option (Bool):=match s4 with|(a8,a9)=>(if a9<a5 then(bJ a3 a9).bind fun y10=>((bif (!a8) then(Jf p0 p1 a8) else(if 1#64≤y10.X then(if y10.X<p0.Group.Q then(if 1#64≤y10.Y then(rec4 (decide (y10.Y<p0.Group.P),aT (a9+1))) else(rec4 (false,aT (a9+1)))) else(rec4 (false,aT (a9+1)))) else(rec4 (false,aT (a9+1)))))) else(Jf p0 p1 a8))
def Uf (p0:bX)(p1:bU)(a1:Bool)(a3:List bN)(a5:Int):Option (Bool):=(aC (R0 p0 p1 a3 a5) aI (a1,0))
def xM (p0:bX)(p1:bU)(p2:bT)(a1:Bool):Option (Bool):=(Ai p2.Points).bind fun x11=>((gI 16 x11 [(bN.mk p1.Share.X 1#64)]).bind fun l12=>((Uf p0 p1 a1 l12 (l12.length:Int))))
def Tq (p0:bX)(p1:bU)(p2:bT):Option (Bool):=(if(p2.Items.length:Int)=0 then(if 1#64≤p2.Base then(if p2.Base<p0.Group.P then(if(p2.Points.length:Int)=p0.Degree then(Je p2.Points).bind fun x15=>((xM p0 p1 p2 x15)) else(xM p0 p1 p2 false)) else(xM p0 p1 p2 false)) else(xM p0 p1 p2 false)) else(xM p0 p1 p2 false))
def S6 (p0:bX)(l4:List bN)(a8:BitVec 64)(a9:Int)(rec1:(BitVec 64 × Int)→Option (W2 × Int))(y10:bN)(rec2:(BitVec 64 × BitVec 64 × Int)→Option (W2 × Int))(s2:BitVec 64 × BitVec 64 × Int):Option (W2 × Int):=match s2 with|(a14,a15,a16)=>(if a16<(l4.length:Int) then(bJ l4 a16).bind fun y17=>((if a16≠a9 then(wQ p0.Group.Q [a14,y17.X]).bind fun x18=>((Tp p0.Group.Q y17.X y10.X).bind fun x19=>((wQ p0.Group.Q [a15,x19]).bind fun x20=>((rec2 (x18,x20,aT (a16+1)))))) else(rec2 (a14,a15,aT (a16+1))))) else(Tj p0.Group.Q a14 a15).bind fun x21=>((Z0 p0 y10.Y x21).bind fun x22=>((wQ p0.Group.P [a8,x22]).bind fun x23=>((rec1 (x23,aT (a9+1)))))))
def Ti (p2:bT)(a25:W2):Option (W2 × Int):=(if cC a25 (aO 53#8) 0#64≠p2.Check then(some (k0,6)) else(some (a25,0)))
def X0 (p0:bX)(p2:bT)(l4:List bN)(rec1:(BitVec 64 × Int)→Option (W2 × Int))(s1:BitVec 64 × Int):Option (W2 × Int):=match s1 with|(a8,a9)=>(if a9<(l4.length:Int) then(bJ l4 a9).bind fun y10=>((aC (S6 p0 l4 a8 a9 rec1 y10) aI (1#64,1#64,0))) else(Tt a8).bind fun x26=>((Ti p2 (rU x26 p2.Box))))
def S4 (p0:bX)(p1:bU)(p2:bT):Option (W2 × Int):=(mE p0).bind fun x1=>((bif (!x1) then(some (k0,30)) else(Tq p0 p1 p2).bind fun x2=>((bif (!x2) then(some (k0,8)) else(Z0 p0 p2.Base p1.Share.Y).bind fun x3=>((gI 16 [(bN.mk p1.Share.X x3)] p2.Points).bind fun l4=>((Je l4).bind fun x5=>((bif (!x5) then(some (k0,6)) else(aC (X0 p0 p2 l4) aI (1#64,0))))))))))
end
end Go.Sx

end
section

end
section

end
section
namespace Go.Sx
open Go Go.RowKit
noncomputable section
def wO (p0:W2)(p1:bX)(p2:Int)(a1:Bool):Option (bU × Int):=(bif a1 then(some ((bU.mk 0 [] (bN.mk 0#64 0#64)),2)) else(if aO p1.Kind=1∨aO p1.Kind=2∨aO p1.Kind=3 then(vH p1).bind fun x2=>((if x2≠0 then(some ((bU.mk 0 [] (bN.mk 0#64 0#64)),x2)) else(Wr p0 p1 p2).bind fun x3=>((some (x3.1,x3.2))))) else(if aO p1.Kind=4 then(xC p1).bind fun x4=>((if x4≠0 then(some ((bU.mk 0 [] (bN.mk 0#64 0#64)),x4)) else(F7 p0 p1 p2).bind fun x5=>((some (x5.1,x5.2))))) else none)))
def oA (p0:W2)(p1:bX)(p2:Int):Option (bU × Int):=(if p1.Kind<1#8 then(wO p0 p1 p2 true) else(wO p0 p1 p2 (decide ((5:Int)≤aO p1.Kind))))
def Xe (p0:W2)(p1:Int):Option (W2):=(some (cC p0 (aO 50#8) (wd p1)))
end
end Go.Sx

end
section
namespace Go.Sx
open Go Go.RowKit
noncomputable section
structure Qhk where
 Epoch:Int
 Word:Int
 Early:Int
 Drift:Int
 Delay:Int
deriving DecidableEq,Inhabited
def Qhk.cs (x:Qhk)  : List Value:=[.int .i64 x.Epoch,.int .i64 x.Word,.int .i64 x.Early,.int .i64 x.Drift,.int .i64 x.Delay]
structure yD where
 Kind:BitVec 8
 Epoch:Int
 Head:bT
 Low:BitVec 8
 Number:BitVec 64
 Data:List (BitVec 8)
 Mac:W2
deriving DecidableEq,Inhabited
def yD.cs (x:yD)(v0:Value)(v1:Value)(v2:Value):List Value:=[bv x.Kind,.int .i64 x.Epoch,v0,wv x.Head.Base,v1]++(kb x.Head.Box++(kb x.Head.Check++([bv x.Low,wv x.Number,v2]++(kb x.Mac))))
structure Qhp where
 out:List (BitVec 8)
deriving DecidableEq,Inhabited
def Qhp.cs (x:Qhp)(v0:Value):List Value:=[v0]
structure Lj where
 Full:Bool
 Epoch:Int
 Key:W2
deriving DecidableEq,Inhabited
def Lj.cs (x:Lj)  : List Value:=[.bool x.Full,.int .i64 x.Epoch]++(kb x.Key)
structure Ov where
 a0:Lj
 a1:Lj
deriving DecidableEq,Inhabited
def Ov.cs (x:Ov)  : List Value:=[.bool x.a0.Full,.int .i64 x.a0.Epoch]++(kb x.a0.Key++([.bool x.a1.Full,.int .i64 x.a1.Epoch]++(kb x.a1.Key)))
structure Qhn where
 Secret:bU
 Ahead:Int
 Slots:Ov
deriving DecidableEq,Inhabited
def Qhn.cs (x:Qhn)(v0:Value):List Value:=[.int .i64 x.Secret.Receiver,v0,wv x.Secret.Share.X,wv x.Secret.Share.Y,.int .i64 x.Ahead,.bool x.Slots.a0.Full,.int .i64 x.Slots.a0.Epoch]++(kb x.Slots.a0.Key++([.bool x.Slots.a1.Full,.int .i64 x.Slots.a1.Epoch]++(kb x.Slots.a1.Key)))
def xQ (p0:Int):Option (Bool):=(if(0:Int)≤p0 then(some (decide (p0≤1099511627776))) else(some false))
def T3 (p0:W2)(p1:bX)(p2:List Int)(p3:W2)(p4:BitVec 64):Option (bT × Int):=(Wp p1 p2).bind fun x1=>((if x1.2≠0 then(some ((bT.mk [] 0#64 [] k0 k0),x1.2)) else(Wq p0 p1 x1.1 p3).bind fun x2=>((some (x2.1,x2.2)))))
def T2 (p0:W2)(p1:bX)(p2:Int)(p3:List Int)(a1:Bool):Option (bT × Int):=(bif a1 then(some ((bT.mk [] 0#64 [] k0 k0),2)) else(if aO p1.Kind=1∨aO p1.Kind=2∨aO p1.Kind=3 then(vH p1).bind fun x2=>((if x2≠0 then(some ((bT.mk [] 0#64 [] k0 k0),x2)) else(xQ p2).bind fun x3=>((bif (!x3) then(some ((bT.mk [] 0#64 [] k0 k0),2)) else(Xe p0 p2).bind fun x4=>((T3 p0 p1 p3 x4 (wd p2)).bind fun x5=>((some (x5.1,x5.2)))))))) else(if aO p1.Kind=4 then(xC p1).bind fun x6=>((if x6≠0 then(some ((bT.mk [] 0#64 [] k0 k0),x6)) else(xQ p2).bind fun x7=>((bif (!x7) then(some ((bT.mk [] 0#64 [] k0 k0),2)) else(Xe p0 p2).bind fun x8=>((qV p0 p1 p3 x8 (wd p2)).bind fun x9=>((some (x9.1,x9.2)))))))) else none)))
def oY (p0:W2)(p1:bX)(p2:Int)(p3:List Int):Option (bT × Int):=(if p1.Kind<1#8 then(T2 p0 p1 p2 p3 true) else(T2 p0 p1 p2 p3 (decide ((5:Int)≤aO p1.Kind))))
def Xd (p0:bX)(p1:bU)(p2:bT)(a1:Bool):Option (W2 × Int):=(bif a1 then(some (k0,2)) else(if aO p0.Kind=1∨aO p0.Kind=2∨aO p0.Kind=3 then(vH p0).bind fun x2=>((if x2≠0 then(some (k0,x2)) else(Qi p0 p1 p2).bind fun x3=>((some (x3.1,x3.2))))) else(if aO p0.Kind=4 then(xC p0).bind fun x4=>((if x4≠0 then(some (k0,x4)) else(S4 p0 p1 p2).bind fun x5=>((some (x5.1,x5.2))))) else none)))
def oE (p0:bX)(p1:bU)(p2:bT):Option (W2 × Int):=(if p0.Kind<1#8 then(Xd p0 p1 p2 true) else(Xd p0 p1 p2 (decide ((5:Int)≤aO p0.Kind))))
end
end Go.Sx

end
section
namespace Go.Sx
open Go Go.RowKit
noncomputable section
end
end Go.Sx

end
section
namespace Go.Sx
open Go Go.RowKit
noncomputable section
end
end Go.Sx

end
section
namespace Go.Sx
open Go Go.RowKit
noncomputable section
end
end Go.Sx

end
section
namespace Go.Sx
open Go Go.RowKit
noncomputable section
structure Qho where
 b:List (BitVec 8)
 short:Bool
deriving DecidableEq,Inhabited
def Qho.cs (x:Qho)(v0:Value):List Value:=[v0,.bool x.short]
end
end Go.Sx

end
section

end
section
namespace Go.Sx
open Go Go.RowKit
noncomputable section
structure cG where
 Regions:BitVec 8
 Level:BitVec 8
 Price:Int
 View:Bool
deriving DecidableEq,Inhabited
def cG.cs (x:cG)  : List Value:=[bv x.Regions,bv x.Level,.int .i64 x.Price,.bool x.View]
structure bK where
 Receiver:Int
 Account:Int
 Region:BitVec 8
 Level:BitVec 8
 Home:Int
 Met:Int
 Dead:Bool
deriving DecidableEq,Inhabited
def bK.cs (x:bK)  : List Value:=[.int .i64 x.Receiver,.int .i64 x.Account,bv x.Region,bv x.Level,.int .i64 x.Home,.int .i64 x.Met,.bool x.Dead]
structure dQ where
 Account:Int
 Product:Int
 From:Int
 To:Int
deriving DecidableEq,Inhabited
def dQ.cs (x:dQ)  : List Value:=[.int .i64 x.Account,.int .i64 x.Product,.int .i64 x.From,.int .i64 x.To]
structure cL where
 Account:Int
 Product:Int
 Epoch:Int
 Price:Int
deriving DecidableEq,Inhabited
def cL.cs (x:cL)  : List Value:=[.int .i64 x.Account,.int .i64 x.Product,.int .i64 x.Epoch,.int .i64 x.Price]
structure dA where
 Account:Int
 Title:Int
 Until:Int
 Plays:Int
deriving DecidableEq,Inhabited
def dA.cs (x:dA)  : List Value:=[.int .i64 x.Account,.int .i64 x.Title,.int .i64 x.Until,.int .i64 x.Plays]
structure kJ where
 a0:Int
 a1:Int
 a2:Int
 a3:Int
 a4:Int
 a5:Int
 a6:Int
 a7:Int
 a8:Int
 a9:Int
 a10:Int
 a11:Int
 a12:Int
 a13:Int
 a14:Int
 a15:Int
deriving DecidableEq,Inhabited
def kJ.cs (x:kJ)  : List Value:=[.int .i64 x.a0,.int .i64 x.a1,.int .i64 x.a2,.int .i64 x.a3,.int .i64 x.a4,.int .i64 x.a5,.int .i64 x.a6,.int .i64 x.a7,.int .i64 x.a8,.int .i64 x.a9,.int .i64 x.a10,.int .i64 x.a11,.int .i64 x.a12,.int .i64 x.a13,.int .i64 x.a14,.int .i64 x.a15]
structure bS where
 Products:List cG
 Cards:List bK
 Grants:List dQ
 Sales:List cL
 Licences:List dA
 Credits:kJ
deriving DecidableEq,Inhabited
def bS.cs (x:bS)(v0:Value)(v1:Value)(v2:Value)(v3:Value)(v4:Value):List Value:=[v0,v1,v2,v3,v4,.int .i64 x.Credits.a0,.int .i64 x.Credits.a1,.int .i64 x.Credits.a2,.int .i64 x.Credits.a3,.int .i64 x.Credits.a4,.int .i64 x.Credits.a5,.int .i64 x.Credits.a6,.int .i64 x.Credits.a7,.int .i64 x.Credits.a8,.int .i64 x.Credits.a9,.int .i64 x.Credits.a10,.int .i64 x.Credits.a11,.int .i64 x.Credits.a12,.int .i64 x.Credits.a13,.int .i64 x.Credits.a14,.int .i64 x.Credits.a15]
theorem bS.cs_ones (x:bS)(v0:Value)(v1:Value)(v2:Value)(v3:Value)(v4:Value)(h0:oneB v0=true)(h1:oneB v1=true)(h2:oneB v2=true)(h3:oneB v3=true)(h4:oneB v4=true):iD (bS.cs x v0 v1 v2 v3 v4)=true:=by simp only[bS.cs,uE,tK,kb,iD,Tg,Tf,Th,dC,h0,h1,h2,h3,h4]
structure cD where
 Books:bS
deriving DecidableEq,Inhabited
def cD.cs (x:cD)(v0:Value)(v1:Value)(v2:Value)(v3:Value)(v4:Value):List Value:=[v0,v1,v2,v3,v4,.int .i64 x.Books.Credits.a0,.int .i64 x.Books.Credits.a1,.int .i64 x.Books.Credits.a2,.int .i64 x.Books.Credits.a3,.int .i64 x.Books.Credits.a4,.int .i64 x.Books.Credits.a5,.int .i64 x.Books.Credits.a6,.int .i64 x.Books.Credits.a7,.int .i64 x.Books.Credits.a8,.int .i64 x.Books.Credits.a9,.int .i64 x.Books.Credits.a10,.int .i64 x.Books.Credits.a11,.int .i64 x.Books.Credits.a12,.int .i64 x.Books.Credits.a13,.int .i64 x.Books.Credits.a14,.int .i64 x.Books.Credits.a15]
def Na (a2:Int)(rec1:(Int)→Option (Bool))(a4:Bool):Option (Bool):=(bif a4 then(some false) else(rec1 (aT (a2+1))))
def Kl (p0:Int)(p1:List Int)(rec1:(Int)→Option (Bool))(a2:Int):Option (Bool):=(if a2<(p1.length:Int) then(bJ p1 a2).bind fun y3=>((if y3<0 then(Na a2 rec1 true) else(Na a2 rec1 (decide (p0<y3))))) else(some true))
def jF (p0:Int)(p1:List Int):Option (Bool):=(aC (Kl p0 p1) aI 0)
def Gw (p0:cG):Option (Bool):=(if p0.Level≤3#8 then(jF 1000 [p0.Price]).bind fun x1=>((some x1)) else(some false))
def Jt (p0:List cG)(rec1:(Int × Int)→Option (Int))(s1:Int × Int):Option (Int):=match s1 with|(a3,a4)=>(if a4<(p0.length:Int) then(bJ p0 a4).bind fun y5=>((Gw y5).bind fun x6=>((bif x6 then(rec1 (aT (a3+1),aT (a4+1))) else(rec1 (a3,aT (a4+1)))))) else(some a3))
def Eg (p0:List cG):Option (Int):=(aC (Jt p0) aI (0,0))
def Gm (p0:List cG):Option (Bool):=(Eg p0).bind fun x1=>((some (decide (x1=(p0.length:Int)))))
def Gz (p0:dA):Option (Bool):=(jF 15 [p0.Account]).bind fun x1=>((bif x1 then(jF 15 [p0.Title]).bind fun x2=>((bif x2 then(jF 1099511627776 [p0.Until]).bind fun x3=>((bif x3 then(jF 100 [p0.Plays]).bind fun x4=>((some x4)) else(some false))) else(some false))) else(some false)))
def Jp (p0:List dA)(rec1:(Int × Int)→Option (Int))(s1:Int × Int):Option (Int):=match s1 with|(a3,a4)=>(if a4<(p0.length:Int) then(bJ p0 a4).bind fun y5=>((Gz y5).bind fun x6=>((bif x6 then(rec1 (aT (a3+1),aT (a4+1))) else(rec1 (a3,aT (a4+1)))))) else(some a3))
def Ec (p0:List dA):Option (Int):=(aC (Jp p0) aI (0,0))
def Gj (p0:List dA):Option (Bool):=(Ec p0).bind fun x1=>((some (decide (x1=(p0.length:Int)))))
def El (p0:bK)(p1:bK):Option (Bool):=(some (decide (p0.Receiver=p1.Receiver)))
def Ju (p0:List bK)(p1_0:bK)(rec1:(Int × Int)→Option (Int))(s1:Int × Int):Option (Int):=match s1 with|(a3,a4)=>(if a4<(p0.length:Int) then(bJ p0 a4).bind fun y5=>((El y5 p1_0).bind fun x6=>((bif x6 then(rec1 (aT (a3+1),aT (a4+1))) else(rec1 (a3,aT (a4+1)))))) else(some a3))
def Ei (p0:List bK)(p1_0:bK):Option (Int):=(aC (Ju p0 p1_0) aI (0,0))
def Em (p0:bK)(p1:bK):Option (Bool):=(some (decide (p0.Home=p1.Home)))
def Jv (p0:List bK)(p1_0:bK)(rec1:(Int × Int)→Option (Int))(s1:Int × Int):Option (Int):=match s1 with|(a3,a4)=>(if a4<(p0.length:Int) then(bJ p0 a4).bind fun y5=>((Em y5 p1_0).bind fun x6=>((bif x6 then(rec1 (aT (a3+1),aT (a4+1))) else(rec1 (a3,aT (a4+1)))))) else(some a3))
def Ej (p0:List bK)(p1_0:bK):Option (Int):=(aC (Jv p0 p1_0) aI (0,0))
def Eo (p0:bK)(p1:bK):Option (Bool):=(if p0.Home=p1.Home then(some (decide (p0.Account≠p1.Account))) else(some false))
def Jw (p0:List bK)(p1_0:bK)(rec1:(Int × Int)→Option (Int))(s1:Int × Int):Option (Int):=match s1 with|(a3,a4)=>(if a4<(p0.length:Int) then(bJ p0 a4).bind fun y5=>((Eo y5 p1_0).bind fun x6=>((bif x6 then(rec1 (aT (a3+1),aT (a4+1))) else(rec1 (a3,aT (a4+1)))))) else(some a3))
def Ek (p0:List bK)(p1_0:bK):Option (Int):=(aC (Jw p0 p1_0) aI (0,0))
def sF (p0:cD)(p1:bK)(a2:Bool):Option (Bool):=(bif a2 then(some false) else(Ei p0.Books.Cards p1).bind fun x3=>((Ej p0.Books.Cards p1).bind fun x4=>((Ek p0.Books.Cards p1).bind fun x5=>((if x3=1 then(if p1.Home=0 then(some true) else(if x4≤4 then(some (decide (x5=0))) else(some false))) else(some false))))))
def uH (p0:cD)(p1:bK)(a1:Bool):Option (Bool):=(bif (!a1) then(sF p0 p1 true) else(if p1.Home=0 then(if(0:Int)<p1.Met then(sF p0 p1 true) else(bif p1.Dead then(sF p0 p1 (decide ((0:Int)<p1.Home))) else(sF p0 p1 false))) else(bif p1.Dead then(sF p0 p1 (decide ((0:Int)<p1.Home))) else(sF p0 p1 false))))
def Gq (p0:cD)(p1:bK):Option (Bool):=(jF 63 [p1.Receiver]).bind fun x6=>((bif x6 then(jF 15 [p1.Account]).bind fun x7=>((bif x7 then(if p1.Region<8#8 then(if p1.Level≤3#8 then(jF 8 [p1.Home]).bind fun x8=>((bif x8 then(jF 1099511627777 [p1.Met]).bind fun x9=>((uH p0 p1 x9)) else(uH p0 p1 false))) else(uH p0 p1 false)) else(uH p0 p1 false)) else(uH p0 p1 false))) else(uH p0 p1 false)))
def Jy (p0:List bK)(p1_0:cD)(rec1:(Int × Int)→Option (Int))(s1:Int × Int):Option (Int):=match s1 with|(a3,a4)=>(if a4<(p0.length:Int) then(bJ p0 a4).bind fun y5=>((Gq p1_0 y5).bind fun x6=>((bif x6 then(rec1 (aT (a3+1),aT (a4+1))) else(rec1 (a3,aT (a4+1)))))) else(some a3))
def Eh (p0:List bK)(p1_0:cD):Option (Int):=(aC (Jy p0 p1_0) aI (0,0))
def Gk (p0:List bK)(p1_0:cD):Option (Bool):=(Eh p0 p1_0).bind fun x1=>((some (decide (x1=(p0.length:Int)))))
def Jz (p0:cD)(p1:Int)(p2:Bool):Option (Bool):=(if(0:Int)≤p1 then(if p1<(p0.Books.Products.length:Int) then(bJ p0.Books.Products p1).bind fun y1=>((some (y1.View == p2))) else(some false)) else(some false))
def Gx (p0:dQ)(p1_p:cD):Option (Bool):=(jF 15 [p0.Account]).bind fun x1=>((bif x1 then(Jz p1_p p0.Product false).bind fun x2=>((bif x2 then(jF 1099511627776 [p0.From,p0.To]).bind fun x3=>((bif x3 then(some (decide (p0.From<p0.To))) else(some false))) else(some false))) else(some false)))
def Js (p0:List dQ)(p1_0_p:cD)(rec1:(Int × Int)→Option (Int))(s1:Int × Int):Option (Int):=match s1 with|(a3,a4)=>(if a4<(p0.length:Int) then(bJ p0 a4).bind fun y5=>((Gx y5 p1_0_p).bind fun x6=>((bif x6 then(rec1 (aT (a3+1),aT (a4+1))) else(rec1 (a3,aT (a4+1)))))) else(some a3))
def Ef (p0:List dQ)(p1_0_p:cD):Option (Int):=(aC (Js p0 p1_0_p) aI (0,0))
def Gl (p0:List dQ)(p1_0_p:cD):Option (Bool):=(Ef p0 p1_0_p).bind fun x1=>((some (decide (x1=(p0.length:Int)))))
def Kk (p0:cL)(p1:cL):Option (Bool):=(if p0.Account=p1.Account then(if p0.Product=p1.Product then(some (decide (p0.Epoch=p1.Epoch))) else(some false)) else(some false))
def Ev (p0:cL)(p1:cL):Option (Bool):=(Kk p1 p0).bind fun x1=>((some x1))
def Jq (p0:List cL)(p1_0:cL)(rec1:(Int × Int)→Option (Int))(s1:Int × Int):Option (Int):=match s1 with|(a3,a4)=>(if a4<(p0.length:Int) then(bJ p0 a4).bind fun y5=>((Ev y5 p1_0).bind fun x6=>((bif x6 then(rec1 (aT (a3+1),aT (a4+1))) else(rec1 (a3,aT (a4+1)))))) else(some a3))
def Ee (p0:List cL)(p1_0:cL):Option (Int):=(aC (Jq p0 p1_0) aI (0,0))
def Gy (p0:cL)(p1_p:cD):Option (Bool):=(Ee p1_p.Books.Sales p0).bind fun x1=>((jF 15 [p0.Account]).bind fun x2=>((bif x2 then(Jz p1_p p0.Product true).bind fun x3=>((bif x3 then(jF 1099511627776 [p0.Epoch]).bind fun x4=>((bif x4 then(jF 1000 [p0.Price]).bind fun x5=>((bif x5 then(some (decide (x1=1))) else(some false))) else(some false))) else(some false))) else(some false))))
def Jr (p0:List cL)(p1_0_p:cD)(rec1:(Int × Int)→Option (Int))(s1:Int × Int):Option (Int):=match s1 with|(a3,a4)=>(if a4<(p0.length:Int) then(bJ p0 a4).bind fun y5=>((Gy y5 p1_0_p).bind fun x6=>((bif x6 then(rec1 (aT (a3+1),aT (a4+1))) else(rec1 (a3,aT (a4+1)))))) else(some a3))
def Ed (p0:List cL)(p1_0_p:cD):Option (Int):=(aC (Jr p0 p1_0_p) aI (0,0))
def Gn (p0:List cL)(p1_0_p:cD):Option (Bool):=(Ed p0 p1_0_p).bind fun x1=>((some (decide (x1=(p0.length:Int)))))
def wZ (p0:cD)(a1:Bool):Option (Bool):=(bif a1 then(some false) else(jF 100000 [p0.Books.Credits.a0,p0.Books.Credits.a1,p0.Books.Credits.a2,p0.Books.Credits.a3,p0.Books.Credits.a4,p0.Books.Credits.a5,p0.Books.Credits.a6,p0.Books.Credits.a7,p0.Books.Credits.a8,p0.Books.Credits.a9,p0.Books.Credits.a10,p0.Books.Credits.a11,p0.Books.Credits.a12,p0.Books.Credits.a13,p0.Books.Credits.a14,p0.Books.Credits.a15]).bind fun x2=>((bif x2 then(Gm p0.Books.Products).bind fun x3=>((bif x3 then(Gk p0.Books.Cards p0).bind fun x4=>((bif x4 then(Gl p0.Books.Grants p0).bind fun x5=>((bif x5 then(Gn p0.Books.Sales p0).bind fun x6=>((bif x6 then(Gj p0.Books.Licences).bind fun x7=>((some x7)) else(some false))) else(some false))) else(some false))) else(some false))) else(some false))))
def Gv (p0:cD):Option (Bool):=(if(8:Int)<(p0.Books.Products.length:Int) then(wZ p0 true) else(if(64:Int)<(p0.Books.Cards.length:Int) then(wZ p0 true) else(if(64:Int)<(p0.Books.Grants.length:Int) then(wZ p0 true) else(if(64:Int)<(p0.Books.Sales.length:Int) then(wZ p0 true) else(wZ p0 (decide ((64:Int)<(p0.Books.Licences.length:Int))))))))
def Jn (p0:bS):Option (Int):=(Gv (cD.mk p0)).bind fun x1=>((bif (!x1) then(some 8) else(some 0)))
end
end Go.Sx

end
section
namespace Go.Sx
open Go Go.RowKit
noncomputable section
structure qL where
 a0:Int
 a1:Int
 a2:Int
 a3:Int
deriving DecidableEq,Inhabited
def qL.cs (x:qL)  : List Value:=[.int .i64 x.a0,.int .i64 x.a1,.int .i64 x.a2,.int .i64 x.a3]
def Et (p0:bK)(p1:Int):Option (Bool):=(some (decide (p0.Receiver=p1)))
def Kw (p0:List bK)(p1_0:Int)(rec1:(Int)→Option (Int))(a2:Int):Option (Int):=(if a2<(p0.length:Int) then(bJ p0 a2).bind fun y3=>((Et y3 p1_0).bind fun x4=>((bif x4 then(some a2) else(rec1 (aT (a2+1)))))) else(some (-1)))
def C8 (p0:List bK)(p1_0:Int):Option (Int):=(aC (Kw p0 p1_0) aI 0)
def Eu (p0:bK)(p1:Int):Option (Bool):=(some (decide (p0.Home=p1)))
def Kx (p0:List bK)(p1_0:Int)(rec1:(Int)→Option (Int))(a2:Int):Option (Int):=(if a2<(p0.length:Int) then(bJ p0 a2).bind fun y3=>((Eu y3 p1_0).bind fun x4=>((bif x4 then(some a2) else(rec1 (aT (a2+1)))))) else(some (-1)))
def Au (p0:List bK)(p1_0:Int):Option (Int):=(aC (Kx p0 p1_0) aI 0)
def Gs (p0:cD)(p1:Int):Option (Int):=(Au p0.Books.Cards p1).bind fun x1=>((if x1<0 then(some (-1)) else(bJ p0.Books.Cards x1).bind fun y2=>((some x1))))
def Kc (p0:cD)(p2:Int)(p3:Int)(y5:bK)(rec3:(Int)→Option (Bool))(a10:Int):Option (Bool):=(if a10<(p0.Books.Sales.length:Int) then(bJ p0.Books.Sales a10).bind fun y11=>((Kk y11 (cL.mk y5.Account p2 p3 0)).bind fun x12=>((bif x12 then(some (decide ((0:Int)≤a10))) else(rec3 (aT (a10+1)))))) else(some (decide ((0:Int)≤(-1)))))
def Ki (p0:cD)(p2:Int)(p3:Int)(y5:bK)(rec4:(Int)→Option (Bool))(a14:Int):Option (Bool):=(if a14<(p0.Books.Grants.length:Int) then(bJ p0.Books.Grants a14).bind fun y15=>((if y15.Account=y5.Account then(if y15.Product=p2 then(if y15.From≤p3 then(if p3<y15.To then(some (decide ((0:Int)≤a14))) else(rec4 (aT (a14+1)))) else(rec4 (aT (a14+1)))) else(rec4 (aT (a14+1)))) else(rec4 (aT (a14+1))))) else(some (decide ((0:Int)≤(-1)))))
def xE (p0:cD)(p2:Int)(p3:Int)(y5:bK)(y6:cG)(a8:Bool):Option (Bool):=(bif a8 then(some false) else(bif y6.View then(aC (Kc p0 p2 p3 y5) aI 0) else(aC (Ki p0 p2 p3 y5) aI 0)))
def Kb (p0:cD)(p2:Int)(p3:Int)(x1:Int)(y5:bK)(y6:cG)(a7:Bool):Option (Bool):=(bif a7 then(some false) else(if(0:Int)<y5.Home then(Gs p0 y5.Home).bind fun x16=>((if x16≠x1 then(if y5.Met=0 then(xE p0 p2 p3 y5 y6 true) else(xE p0 p2 p3 y5 y6 (decide (aT ((aT (y5.Met-1))+3)<p3)))) else(xE p0 p2 p3 y5 y6 false))) else(xE p0 p2 p3 y5 y6 false)))
def Gu (p0:cD)(p1:Int)(p2:Int)(p3:Int):Option (Bool):=(C8 p0.Books.Cards p1).bind fun x1=>((if x1<0 then(bJ p0.Books.Products p2).bind fun y2=>((some false)) else(bJ p0.Books.Cards x1).bind fun y3=>((bif y3.Dead then(bJ p0.Books.Products p2).bind fun y4=>((some false)) else(bJ p0.Books.Cards x1).bind fun y5=>((bJ p0.Books.Products p2).bind fun y6=>((eD (aO y5.Region)).bind fun nn17=>((if(y6.Regions >>> nn17) &&& 1#8=0#8 then(Kb p0 p2 p3 x1 y5 y6 true) else(Kb p0 p2 p3 x1 y5 y6 (decide (y5.Level<y6.Level)))))))))))
def Jo (p0:bS)(p1:Int)(p2:Int)(nn4:Nat)(rec2:(List Int × Int)→Option (List Int × Int))(s2:List Int × Int):Option (List Int × Int):=match s2 with|(a8,a10)=>(if a10<lF 1 nn4 then(Gu (cD.mk p0) a10 p1 p2).bind fun x11=>((bif (!x11) then(gI 8 a8 [a10]).bind fun l12=>((rec2 (l12,aT (a10+1)))) else(rec2 (a8,aT (a10+1))))) else(some (a8,0)))
def Gi (p0:bS)(p1:Int)(p2:Int)(p3:Int)(a2:Bool):Option (List Int × Int):=(bif a2 then(some ([],2)) else(jF (aT ((p0.Products.length:Int)-1)) [p1]).bind fun x3=>((bif (!x3) then(some ([],6)) else(eD p3).bind fun nn4=>((aC (Jo p0 p1 p2 nn4) aI ([],0))))))
def uW (p0:bS)(p1:Int)(p2:Int)(p3:Int):Option (List Int × Int):=(Jn p0).bind fun x1=>((if x1≠0 then(some ([],x1)) else(jF 1099511627776 [p2]).bind fun x13=>((bif (!x13) then(Gi p0 p1 p2 p3 true) else(jF 6 [p3]).bind fun x14=>((Gi p0 p1 p2 p3 (!x14)))))))
def Jl (p0:bS):Option (Bool):=(if(20:Int)<(p0.Products.length:Int) then(some true) else(if(80:Int)<(p0.Cards.length:Int) then(some true) else(if(80:Int)<(p0.Grants.length:Int) then(some true) else(if(80:Int)<(p0.Sales.length:Int) then(some true) else(some (decide ((80:Int)<(p0.Licences.length:Int))))))))
end
end Go.Sx

end
section

end
section
namespace Go.Sx
open Go Go.RowKit
noncomputable section
def Zv (p0:List (BitVec 32))(a2:Int)(rec1:(Int)→Option (List (BitVec 32)))(a3:Bool):Option (List (BitVec 32)):=(bif a3 then(rec1 (aT (a2-1))) else(uG p0 0 a2).bind fun l4=>((some l4)))
def L7 (p0:List (BitVec 32))(rec1:(Int)→Option (List (BitVec 32)))(a2:Int):Option (List (BitVec 32)):=(if(0:Int)<a2 then(bJ p0 (aT (a2-1))).bind fun y5=>((Zv p0 a2 rec1 (decide (y5=0#32)))) else(Zv p0 a2 rec1 false))
def sD (p0:List (BitVec 32)):Option (List (BitVec 32)):=(aC (L7 p0) aI (p0.length:Int))
def L2 (p0:BitVec 64):Option (List (BitVec 32)):=(eD (un 32#64)).bind fun nn1=>((sD [p0.setWidth 32,(p0 >>> nn1).setWidth 32]).bind fun x2=>((some x2)))
def Tc (p0:List (BitVec 32)):Option (Bool):=(if(16:Int)<(p0.length:Int) then(some true) else(if(0:Int)<(p0.length:Int) then(bJ p0 (aT ((p0.length:Int)-1))).bind fun y1=>((some (decide (y1=0#32)))) else(some false)))
def Kt (p0:List (List (BitVec 32)))(rec1:(Int)→Option (Int))(a2:Int):Option (Int):=(if a2<(p0.length:Int) then(bJ p0 a2).bind fun y3=>((Tc y3).bind fun x4=>((bif x4 then(some a2) else(rec1 (aT (a2+1)))))) else(some (-1)))
def Ap (p0:List (List (BitVec 32))):Option (Int):=(aC (Kt p0) aI 0)
def Ao (p0:List (List (BitVec 32))):Option (Bool):=(Ap p0).bind fun x1=>((some (decide ((0:Int)≤x1))))
def vA (p0:List (List (BitVec 32))):Option (Bool):=(Ao p0).bind fun x1=>((some (!x1)))
def Kr (p0:List (BitVec 32)):Option (List (BitVec 32)):=(some p0)
def J0 (p1:List (BitVec 32))(rec1:(Int)→Option (List (Int × BitVec 32)))(a2:Int):Option (List (Int × BitVec 32)):=(if(0:Int)≤a2 then(bJ p1 a2).bind fun y3=>((yl (a2,y3) ((rec1 (aT (a2-1)))))) else(some []))
def Kq (p1:List (BitVec 32)):Option (List (Int × BitVec 32)):=(aC (J0 p1) aI (aT ((p1.length:Int)-1)))
def Dv  (s:Int):Option (Int):=match s with|a4=>(some 0)
def Dw  (s:Int):Option (Int):=match s with|a4=>(some a4)
def Zj (p1:List (BitVec 32))(ee:Int × BitVec 32)(nx1:(Int)→Option (Int))(s:Int):Option (Int):=match ee with|(e5,e6)=>match s with|a4=>(bJ p1 e5).bind fun y7=>((if e6<y7 then(Dw (-1)) else(bJ p1 e5).bind fun y8=>((if y8<e6 then(Dw 1) else(nx1 a4)))))
def Zi (p0:List (BitVec 32))(p1:List (BitVec 32)):Option (Int):=(if(p0.length:Int)≠(p1.length:Int) then(if(p0.length:Int)<(p1.length:Int) then(some (-1)) else(some 1)) else(Kr p0).bind fun x1=>((Kq x1).bind fun l2=>((fU (Zj p1) Dv l2 0))))
def Zc (p0:List (BitVec 32))(p1:List (BitVec 32)):Option (Int × Int):=(vA [p0,p1]).bind fun x1=>((bif (!x1) then(some (0,8)) else(Zi p0 p1).bind fun x2=>((some (x2,0)))))
def L3 (p0:BitVec 64):Option (BitVec 32 × BitVec 64):=(eD (un 32#64)).bind fun nn1=>((some (p0.setWidth 32,p0 >>> nn1)))
def Zu (p1:List (BitVec 32))(a7:Int)(rec1:(List (BitVec 32) × Int)→Option (List (BitVec 32)))(y8:BitVec 32)(rec2:(List (BitVec 32) × BitVec 64 × Int)→Option (List (BitVec 32)))(s2:List (BitVec 32) × BitVec 64 × Int):Option (List (BitVec 32)):=match s2 with|(a13,a15,a16)=>(if a16<(p1.length:Int) then(bJ p1 a16).bind fun y17=>((bJ a13 (aT (a7+a16))).bind fun y18=>((L3 ((((y8.setWidth 64)*(y17.setWidth 64))+(y18.setWidth 64))+a15)).bind fun x19=>((bJ a13 (aT (a7+a16))).bind fun y20=>((rec2 (a13.set (aT (a7+a16)).toNat x19.1,x19.2,aT (a16+1))))))) else(bJ a13 (aT (a7+(p1.length:Int)))).bind fun y21=>((rec1 (a13.set (aT (a7+(p1.length:Int))).toNat (a15.setWidth 32),aT (a7+1)))))
def Zt (p0:List (BitVec 32))(p1:List (BitVec 32))(rec1:(List (BitVec 32) × Int)→Option (List (BitVec 32)))(s1:List (BitVec 32) × Int):Option (List (BitVec 32)):=match s1 with|(a5,a7)=>(if a7<(p0.length:Int) then(bJ p0 a7).bind fun y8=>((aC (Zu p1 a7 rec1 y8) aI (a5,0#64,0))) else(sD a5).bind fun x22=>((some x22)))
def Ta (p0:List (BitVec 32))(p1:List (BitVec 32)):Option (List (BitVec 32)):=(lG 4 (aT ((p0.length:Int)+(p1.length:Int))) 0#32).bind fun l1=>((aC (Zt p0 p1) aI (l1,0)))
def Zg (p0:List (BitVec 32)):Option (List (BitVec 32) × Int):=(if(16:Int)<(p0.length:Int) then(some ([],4)) else(some (p0,0)))
def Q2 (p0:List (BitVec 32))(p1:List (BitVec 32)):Option (List (BitVec 32) × Int):=(vA [p0,p1]).bind fun x1=>((bif (!x1) then(some ([],8)) else(Ta p0 p1).bind fun x2=>((Zg x2).bind fun x3=>((some (x3.1,x3.2))))))
def vU (p0:List (BitVec 32))(p1:Int):Option (BitVec 64):=(if(p0.length:Int)≤p1 then(some 0#64) else(bJ p0 p1).bind fun y1=>((some (y1.setWidth 64))))
def Zo (p0:List (BitVec 32))(p1:List (BitVec 32))(rec1:(List (BitVec 32) × BitVec 64 × Int)→Option (List (BitVec 32)))(s1:List (BitVec 32) × BitVec 64 × Int):Option (List (BitVec 32)):=match s1 with|(a6,a8,a9)=>(if a9<sP (p0.length:Int) (p1.length:Int) then(vU p0 a9).bind fun x10=>((vU p1 a9).bind fun x11=>((L3 ((x10+x11)+a8)).bind fun x12=>((bJ a6 a9).bind fun y13=>((rec1 (a6.set a9.toNat x12.1,x12.2,aT (a9+1))))))) else(bJ a6 (sP (p0.length:Int) (p1.length:Int))).bind fun y14=>((sD (a6.set (sP (p0.length:Int) (p1.length:Int)).toNat (a8.setWidth 32))).bind fun x15=>((some x15))))
def Dx (p0:List (BitVec 32))(p1:List (BitVec 32)):Option (List (BitVec 32)):=(lG 4 (aT ((sP (p0.length:Int) (p1.length:Int))+1)) 0#32).bind fun l1=>((aC (Zo p0 p1) aI (l1,0#64,0)))
def Dm (p0:List (BitVec 32))(p1:List (BitVec 32)):Option (List (BitVec 32) × Int):=(vA [p0,p1]).bind fun x1=>((bif (!x1) then(some ([],8)) else(Dx p0 p1).bind fun x2=>((Zg x2).bind fun x3=>((some (x3.1,x3.2))))))
def Ks (p0:List (BitVec 32)):Option (List (BitVec 32)):=(gI 4 [] p0).bind fun l1=>((some l1))
def Di (p0:BitVec 32)(p1:BitVec 32)(p2:BitVec 32)(a1:Bool):Option (BitVec 32 × BitVec 32):=(bif a1 then none else(eD (un 32#64)).bind fun nn2=>((wX (((p0.setWidth 64) <<< nn2) ||| (p1.setWidth 64)) (p2.setWidth 64)).bind fun x3=>((gB (((p0.setWidth 64) <<< nn2) ||| (p1.setWidth 64)) (p2.setWidth 64)).bind fun x4=>((some (x3.setWidth 32,x4.setWidth 32))))))
def Dh (p0:BitVec 32)(p1:BitVec 32)(p2:BitVec 32):Option (BitVec 32 × BitVec 32):=(if p2≠0#32 then(Di p0 p1 p2 (decide (p2≤p0))) else(Di p0 p1 p2 false))
def Dj (p0:BitVec 32):Option (Int):=(some (aT (32-(lg (eM p0)))))
def Zs (p0:List (BitVec 32))(p1:BitVec 64)(rec1:(List (BitVec 32) × Int)→Option (List (BitVec 32)))(s1:List (BitVec 32) × Int):Option (List (BitVec 32)):=match s1 with|(a5,a7)=>(if a7<(p0.length:Int) then(bJ p0 a7).bind fun y8=>((bJ a5 a7).bind fun y9=>((eD (un p1)).bind fun nn10=>((bJ a5 a7).bind fun y11=>((eD (un p1)).bind fun nn12=>((eD (un 32#64)).bind fun nn13=>((bJ (a5.set a7.toNat (y9 ||| (y8 <<< nn10))) (aT (a7+1))).bind fun y14=>((rec1 ((a5.set a7.toNat (y9 ||| (y8 <<< nn10))).set (aT (a7+1)).toNat ((((y8.setWidth 64) <<< nn12) >>> nn13).setWidth 32),aT (a7+1)))))))))) else(some a5))
def Zr (p0:List (BitVec 32))(p1:BitVec 64):Option (List (BitVec 32)):=(lG 4 (aT ((p0.length:Int)+1)) 0#32).bind fun l1=>((aC (Zs p0 p1) aI (l1,0)))
def Dk (p0:BitVec 32)(p1:BitVec 32)(p2:BitVec 32):Option (BitVec 32 × BitVec 32):=(eD (un 31#64)).bind fun nn1=>((some ((p0-p1)-p2,(((~~~p0) &&& p1) ||| ((~~~(p0 ^^^ p1)) &&& ((p0-p1)-p2))) >>> nn1)))
def Dd (p0:BitVec 32)(p1:BitVec 32)(p2:BitVec 32):Option (BitVec 32 × BitVec 32):=(eD (un 32#64)).bind fun nn1=>((some ((((p0.setWidth 64)+(p1.setWidth 64))+(p2.setWidth 64)).setWidth 32,((((p0.setWidth 64)+(p1.setWidth 64))+(p2.setWidth 64)) >>> nn1).setWidth 32)))
def Zw (p0:List (BitVec 32))(p1:BitVec 64)(rec1:(List (BitVec 32) × Int)→Option (List (BitVec 32)))(s1:List (BitVec 32) × Int):Option (List (BitVec 32)):=match s1 with|(a5,a7)=>(if a7<(p0.length:Int) then(vU p0 (aT (a7+1))).bind fun x8=>((eD (un 32#64)).bind fun nn9=>((vU p0 a7).bind fun x10=>((eD (un p1)).bind fun nn11=>((bJ a5 a7).bind fun y12=>((rec1 (a5.set a7.toNat ((((x8 <<< nn9) ||| x10) >>> nn11).setWidth 32),aT (a7+1)))))))) else(sD a5).bind fun x13=>((some x13)))
def Tb (p0:List (BitVec 32))(p1:BitVec 64):Option (List (BitVec 32)):=(lG 4 (p0.length:Int) 0#32).bind fun l1=>((aC (Zw p0 p1) aI (l1,0)))
def Mu (a18:List (BitVec 32))(a20:List (BitVec 32)):Option (List (BitVec 32) × List (BitVec 32)):=(some (a18,a20))
def L4  (s:List (BitVec 32) × BitVec 32):Option (List (BitVec 32) × List (BitVec 32)):=match s with|(a9,a11)=>(sD a9).bind fun x22=>((sD [a11]).bind fun x23=>((Mu x22 x23)))
def Zn (p0:List (BitVec 32))(p1:List (BitVec 32))(ee:Int × BitVec 32)(nx1:(List (BitVec 32) × BitVec 32)→Option (List (BitVec 32) × List (BitVec 32)))(s:List (BitVec 32) × BitVec 32):Option (List (BitVec 32) × List (BitVec 32)):=match ee with|(e12,e13)=>match s with|(a9,a11)=>(bJ p0 e12).bind fun y14=>((bJ p1 0).bind fun y15=>((Dh a11 y14 y15).bind fun x16=>((bJ a9 e12).bind fun y17=>((nx1 (a9.set e12.toNat x16.1,x16.2))))))
def Q4 (x30:List (BitVec 32))(a41:List (BitVec 32))(a43:Int)(rec3:(List (BitVec 32) × List (BitVec 32) × Int)→Option (List (BitVec 32) × List (BitVec 32)))(nn44:Nat)(a52:BitVec 64)(rec6:(BitVec 32 × Int × List (BitVec 32))→Option (List (BitVec 32) × List (BitVec 32)))(s6:BitVec 32 × Int × List (BitVec 32)):Option (List (BitVec 32) × List (BitVec 32)):=match s6 with|(a71,a72,a73)=>(if a72<(nn44:Int) then(qQ a43 nn44 a72).bind fun j74=>((bJ a73 j74).bind fun y75=>((vU x30 a72).bind fun x76=>((Dd y75 (x76.setWidth 32) a71).bind fun x77=>((qQ a43 nn44 a72).bind fun j78=>((bJ a73 j78).bind fun y79=>((rec6 (x77.2,aT (a72+1),a73.set j78.toNat x77.1)))))))) else(bJ a41 a43).bind fun y80=>((rec3 (a73,a41.set a43.toNat ((a52-1#64).setWidth 32),aT (a43-1)))))
def L5 (x30:List (BitVec 32))(a41:List (BitVec 32))(a43:Int)(rec3:(List (BitVec 32) × List (BitVec 32) × Int)→Option (List (BitVec 32) × List (BitVec 32)))(nn44:Nat)(a52:BitVec 64)(rec5:(BitVec 64 × BitVec 32 × Int × List (BitVec 32))→Option (List (BitVec 32) × List (BitVec 32)))(s5:BitVec 64 × BitVec 32 × Int × List (BitVec 32)):Option (List (BitVec 32) × List (BitVec 32)):=match s5 with|(a57,a58,a59,a60)=>(if a59<(nn44:Int) then(vU x30 a59).bind fun x61=>((L3 ((a52*x61)+a57)).bind fun x62=>((qQ a43 nn44 a59).bind fun j63=>((bJ a60 j63).bind fun y64=>((Dk y64 x62.1 a58).bind fun x65=>((qQ a43 nn44 a59).bind fun j66=>((bJ a60 j66).bind fun y67=>((rec5 (x62.2,x65.2,aT (a59+1),a60.set j66.toNat x65.1))))))))) else(if a58≠0#32 then(aC (Q4 x30 a41 a43 rec3 nn44 a52) aI (0#32,0,a60)) else(bJ a41 a43).bind fun y81=>((rec3 (a60,a41.set a43.toNat (a52.setWidth 32),aT (a43-1))))))
def vE (x30:List (BitVec 32))(a39:List (BitVec 32))(a41:List (BitVec 32))(a43:Int)(rec3:(List (BitVec 32) × List (BitVec 32) × Int)→Option (List (BitVec 32) × List (BitVec 32)))(nn44:Nat)(a52:BitVec 64):Option (List (BitVec 32) × List (BitVec 32)):=(aC (L5 x30 a41 a43 rec3 nn44 a52) aI (0#64,0#32,0,a39))
def Zl (x30:List (BitVec 32))(y31:BitVec 32)(a39:List (BitVec 32))(a41:List (BitVec 32))(a43:Int)(rec3:(List (BitVec 32) × List (BitVec 32) × Int)→Option (List (BitVec 32) × List (BitVec 32)))(nn44:Nat)(a84:BitVec 64)(a85:BitVec 64)(rec7:(BitVec 64 × BitVec 64)→Option (List (BitVec 32) × List (BitVec 32)))(a86:Bool):Option (List (BitVec 32) × List (BitVec 32)):=(bif a86 then(vE x30 a39 a41 a43 rec3 nn44 a84) else(eD (un 32#64)).bind fun nn87=>((if(a85+(y31.setWidth 64)) >>> nn87≠0#64 then(vE x30 a39 a41 a43 rec3 nn44 (a84-1#64)) else(rec7 (a84-1#64,a85+(y31.setWidth 64))))))
def Zm (x30:List (BitVec 32))(y31:BitVec 32)(y32:BitVec 32)(a39:List (BitVec 32))(a41:List (BitVec 32))(a43:Int)(rec3:(List (BitVec 32) × List (BitVec 32) × Int)→Option (List (BitVec 32) × List (BitVec 32)))(nn44:Nat)(rec7:(BitVec 64 × BitVec 64)→Option (List (BitVec 32) × List (BitVec 32)))(s7:BitVec 64 × BitVec 64):Option (List (BitVec 32) × List (BitVec 32)):=match s7 with|(a84,a85)=>(eD (un 32#64)).bind fun nn88=>((if a84 >>> nn88=0#64 then(eD (un 32#64)).bind fun nn89=>((qQ a43 nn44 (aT ((x30.length:Int)-2))).bind fun j90=>((bJ a39 j90).bind fun y91=>((Zl x30 y31 a39 a41 a43 rec3 nn44 a84 a85 rec7 (decide (a84*(y32.setWidth 64)≤(a85 <<< nn89) ||| (y91.setWidth 64))))))) else(Zl x30 y31 a39 a41 a43 rec3 nn44 a84 a85 rec7 false)))
def Q3 (x27:Int)(x30:List (BitVec 32))(y31:BitVec 32)(y32:BitVec 32)(rec3:(List (BitVec 32) × List (BitVec 32) × Int)→Option (List (BitVec 32) × List (BitVec 32)))(s3:List (BitVec 32) × List (BitVec 32) × Int):Option (List (BitVec 32) × List (BitVec 32)):=match s3 with|(a39,a41,a43)=>(if(0:Int)≤a43 then(wK a39 a43 (aT ((aT (a43+(x30.length:Int)))+1))).bind fun nn44=>((qQ a43 nn44 (x30.length:Int)).bind fun j45=>((bJ a39 j45).bind fun y46=>((eD (un 32#64)).bind fun nn47=>((qQ a43 nn44 (aT ((x30.length:Int)-1))).bind fun j48=>((bJ a39 j48).bind fun y49=>((wX (((y46.setWidth 64) <<< nn47) ||| (y49.setWidth 64)) (y31.setWidth 64)).bind fun x50=>((gB (((y46.setWidth 64) <<< nn47) ||| (y49.setWidth 64)) (y31.setWidth 64)).bind fun x51=>((aC (Zm x30 y31 y32 a39 a41 a43 rec3 nn44) aI (x50,x51)))))))))) else(sD a41).bind fun x92=>((sD a39).bind fun x93=>((Tb x93 (wd x27)).bind fun x94=>((some (x92,x94))))))
def Zk (p0:List (BitVec 32))(p1:List (BitVec 32)):Option (List (BitVec 32) × List (BitVec 32)):=(Zi p0 p1).bind fun x1=>((if x1<0 then(Ks p0).bind fun x2=>((some ([],x2))) else(if(p1.length:Int)=1 then(lG 4 (p0.length:Int) 0#32).bind fun l3=>((Kr p0).bind fun x4=>((Kq x4).bind fun l5=>((fU (Zn p0 p1) L4 l5 (l3,0#32))))) else(bJ p1 (aT ((p1.length:Int)-1))).bind fun y26=>((Dj y26).bind fun x27=>((Zr p0 (wd x27)).bind fun x28=>((Zr p1 (wd x27)).bind fun x29=>((sD x29).bind fun x30=>((bJ x30 (aT ((x30.length:Int)-1))).bind fun y31=>((bJ x30 (aT ((x30.length:Int)-2))).bind fun y32=>((lG 4 (aT ((x28.length:Int)-(x30.length:Int))) 0#32).bind fun l33=>((aC (Q3 x27 x30 y31 y32) aI (x28,l33,aT ((l33.length:Int)-1))))))))))))))
def Dt (p0:List (BitVec 32))(p1:List (BitVec 32)):Option (List (BitVec 32) × List (BitVec 32) × Int):=(vA [p0,p1]).bind fun x1=>((bif (!x1) then(some ([],[],8)) else(if(p1.length:Int)=0 then(some ([],[],10)) else(Zk p0 p1).bind fun x2=>((some (x2.1,x2.2,0))))))
end
end Go.Sx

end
section

end
section
namespace Go.Sx
open Go Go.RowKit
noncomputable section
structure iW where
 Num:List (BitVec 32)
 Den:List (BitVec 32)
deriving DecidableEq,Inhabited
def iW.cs (x:iW)(v0:Value)(v1:Value):List Value:=[v0,v1]
structure fV where
 Users:Int
 Block:Int
 Key:W2
 Limit:iW
deriving DecidableEq,Inhabited
def fV.cs (x:fV)(v0:Value)(v1:Value):List Value:=[.int .i64 x.Users,.int .i64 x.Block]++(kb x.Key++([v0,v1]))
def qK  (rec1:(List (BitVec 32) × List (BitVec 32))→Option (List (BitVec 32)))(s1:List (BitVec 32) × List (BitVec 32)):Option (List (BitVec 32)):=match s1 with|(a5,a7)=>(if(0:Int)<(a7.length:Int) then(Zk a5 a7).bind fun x9=>((rec1 (a7,x9.2))) else(Ks a5).bind fun x10=>((some x10)))
def Mt (p0:List (BitVec 32))(p1:List (BitVec 32)):Option (List (BitVec 32)):=(aC (qK) aI (p0,p1))
def Dp (a3:Bool):Option (Int):=(bif a3 then(some 8) else(some 0))
def Zb (p0:iW)(a1:Bool):Option (Int):=(bif a1 then(some 8) else(Mt p0.Num p0.Den).bind fun x2=>((if(x2.length:Int)≠1 then(Dp true) else(bJ x2 0).bind fun y4=>((Dp (decide (y4≠1#32)))))))
def Dn (p0:iW):Option (Int):=(vA [p0.Num,p0.Den]).bind fun x5=>((bif (!x5) then(Zb p0 true) else(Zb p0 (decide ((p0.Den.length:Int)=0)))))
def H6 (p0:iW)(a1:Bool):Option (Bool):=(bif a1 then(some false) else(Zc p0.Num p0.Den).bind fun x2=>((some (decide (x2.1<0)))))
def Wl (p0:iW):Option (Bool):=(Dn p0).bind fun x3=>((if x3≠0 then(H6 p0 true) else(if(4:Int)<(p0.Num.length:Int) then(H6 p0 true) else(H6 p0 (decide ((4:Int)<(p0.Den.length:Int)))))))
def wU (a1:Bool):Option (Int):=(bif a1 then(some 70) else(some 0))
def O8 (p0:fV):Option (Int):=(if p0.Users<2 then(wU true) else(if(16:Int)<p0.Users then(wU true) else(if p0.Block<1 then(wU true) else(if(64:Int)<p0.Block then(wU true) else(Wl p0.Limit).bind fun x2=>((wU (!x2)))))))
end
end Go.Sx

end
section

end
section
namespace Go.Sx
open Go Go.RowKit
noncomputable section
structure gE where
 Steps:fV
 at_:List Int
deriving DecidableEq,Inhabited
def gE.cs (x:gE)(v0:Value)(v1:Value)(v2:Value):List Value:=[.int .i64 x.Steps.Users,.int .i64 x.Steps.Block]++(kb x.Steps.Key++([v0,v1,v2]))
structure jR where
 d:Int
 marked:List (List (BitVec 32))
 others:List (List (BitVec 32))
deriving DecidableEq,Inhabited
def jR.cs (x:jR)(v0:Value)(v1:Value):List Value:=[.int .i64 x.d,v0,v1]
theorem jR.cs_ones (x:jR)(v0:Value)(v1:Value)(h0:oneB v0=true)(h1:oneB v1=true):iD (jR.cs x v0 v1)=true:=by simp only[jR.cs,uE,tK,kb,iD,Tg,Tf,Th,dC,h0,h1]
def Qc (p0:List (BitVec 8))(rec1:(Int × Int × Int × Int × Int)→Option (qL))(s1:Int × Int × Int × Int × Int):Option (qL):=match s1 with|(a6,a7,a8,a9,a10)=>(if a6<(p0.length:Int) then(bJ p0 a6).bind fun y11=>((bJ [a7,a8,a9,a10] (aO (lZ y11 3#8))).bind fun y12=>((bJ [a7,a8,a9,a10] (aO (lZ y11 3#8))).bind fun y13=>((rec1 (aT (a6+1),(if aO (lZ y11 3#8)=0 then aT (y12+1) else a7),(if aO (lZ y11 3#8)=1 then aT (y12+1) else a8),(if aO (lZ y11 3#8)=2 then aT (y12+1) else a9),(if aO (lZ y11 3#8)=3 then aT (y12+1) else a10)))))) else(some (qL.mk a7 a8 a9 a10)))
def Rc (p0:List (BitVec 8)):Option (qL):=(aC (Qc p0) aI (0,0,0,0,0))
def H5 (p0:List (BitVec 8))(p1:Int):Option (Bool):=(if(p0.length:Int)=p1 then(Rc p0).bind fun x1=>((bJ ([x1.a0,x1.a1,x1.a2,x1.a3]:List Int) 3).bind fun y2=>((some (decide (y2=0))))) else(some false))
def Qe (p0:gE)(p1:List (BitVec 8))(rec1:(List Int × Int)→Option (List Int))(s1:List Int × Int):Option (List Int):=match s1 with|(a5,a7)=>(if a7<(p0.at_.length:Int) then(bJ p0.at_ a7).bind fun y8=>((bJ p1 y8).bind fun y9=>((if y9=1#8 then(sL a7 p0.Steps.Block).bind fun x10=>((bJ a5 x10).bind fun y11=>((bJ a5 x10).bind fun y12=>((rec1 (a5.set x10.toNat (aT (y11+1)),aT (a7+1)))))) else(rec1 (a5,aT (a7+1)))))) else(some a5))
def Ri (p0:gE)(p1:List (BitVec 8)):Option (List Int):=(lG 8 (aT (p0.Steps.Users-1)) 0).bind fun l1=>((aC (Qe p0 p1) aI (l1,0)))
def Rh  : Option (List (BitVec 32)):=(L2 1#64).bind fun x1=>((some x1))
def tG (p0:List (BitVec 32))(p1:Int):Option (List (BitVec 32)):=(some p0)
def H7 (p0:Int)(rec1:(List (List (BitVec 32)) × Int)→Option (List (List (BitVec 32))))(s1:List (List (BitVec 32)) × Int):Option (List (List (BitVec 32))):=match s1 with|(a5,a7)=>(if a7≤p0 then(bJ a5 (aT (a7-1))).bind fun y8=>((L2 (wd (aT ((aT (p0-a7))+1)))).bind fun x9=>((Q2 y8 x9).bind fun x10=>((tG x10.1 x10.2).bind fun x11=>((L2 (wd a7)).bind fun x12=>((Dt x11 x12).bind fun x13=>((gI 24 a5 [x13.1]).bind fun l14=>((rec1 (l14,aT (a7+1)))))))))) else(some a5))
def zQ (p0:Int):Option (List (List (BitVec 32))):=(Rh).bind fun x1=>((aC (H7 p0) aI ([x1],1)))
def Re (p0:Int)(p1:Int):Option (jR):=(zQ p1).bind fun x1=>((zQ (aT ((aT (2*p0))-p1))).bind fun x2=>((some (jR.mk p0 x1 x2))))
def Qb (p0:List (List (BitVec 32)))(p1:Int)(a1:Bool):Option (List (BitVec 32)):=(bif a1 then(some []) else(bJ p0 p1).bind fun y2=>((some y2)))
def yO (p0:List (List (BitVec 32)))(p1:Int):Option (List (BitVec 32)):=(if p1<0 then(Qb p0 p1 true) else(Qb p0 p1 (decide ((p0.length:Int)≤p1))))
def Rf (p0:jR):Option (List (BitVec 32)):=(zQ (aT (2*p0.d))).bind fun x1=>((yO x1 p0.d).bind fun x2=>((some x2)))
def Wk (p0:jR)(p1:Int):Option (List (BitVec 32)):=(yO p0.marked p1).bind fun x1=>((yO p0.others (aT (p0.d-p1))).bind fun x2=>((Q2 x1 x2).bind fun x3=>((tG x3.1 x3.2).bind fun x4=>((some x4)))))
def Wo (p0:List (BitVec 32))(p1:List (BitVec 32))(p2:iW):Option (Bool):=(Q2 p0 p2.Den).bind fun x1=>((tG x1.1 x1.2).bind fun x2=>((Q2 p2.Num p1).bind fun x3=>((tG x3.1 x3.2).bind fun x4=>((Zc x2 x4).bind fun x5=>((if x5.2=0 then(some (decide (x5.1≤0))) else(some false)))))))
def Qf (p0:fV)(p1:Int)(x1:jR)(x2:List (BitVec 32))(rec1:(List (BitVec 32) × Int)→Option (Int))(s1:List (BitVec 32) × Int):Option (Int):=match s1 with|(a6,a8)=>(if a8≤p1 then(Wk x1 a8).bind fun x9=>((Dm a6 x9).bind fun x10=>((tG x10.1 x10.2).bind fun x11=>((Wo x11 x2 p0.Limit).bind fun x12=>((bif (!x12) then(some (aT (a8-1))) else(rec1 (x11,aT (a8+1)))))))) else(some p1))
def Wn (p0:fV)(p1:Int):Option (Int):=(Re p0.Block p1).bind fun x1=>((Rf x1).bind fun x2=>((aC (Qf p0 p1 x1 x2) aI ([],0))))
def H8 (a5:List Int)(a7:Int)(rec1:(List Int × Int)→Option (List Int))(a8:Bool):Option (List Int):=(bif a8 then(gI 8 a5 [a7]).bind fun l9=>((rec1 (l9,aT (a7+1)))) else(rec1 (a5,aT (a7+1))))
def H9 (p0:gE)(x1:List Int)(rec1:(List Int × Int)→Option (List Int))(s1:List Int × Int):Option (List Int):=match s1 with|(a5,a7)=>(if a7<p0.Steps.Users then(if a7=0 then(bJ x1 0).bind fun y10=>((H8 a5 a7 rec1 (decide ((0:Int)<y10)))) else(if a7=aT (p0.Steps.Users-1) then(bJ x1 (aT (a7-1))).bind fun y11=>((H8 a5 a7 rec1 (decide (y11<p0.Steps.Block)))) else(bJ x1 (aT (a7-1))).bind fun y12=>((bJ x1 (aT (a7-1))).bind fun y13=>((bJ x1 a7).bind fun y14=>((Wn p0.Steps (aT (y13+y14))).bind fun x15=>((H8 a5 a7 rec1 (decide (y12≤x15))))))))) else(some a5))
def Qd (p0:gE)(p1:List (BitVec 8)):Option (List Int):=(Ri p0 p1).bind fun x1=>((aC (H9 p0 x1) aI ([],0)))
def vW (p0:fV)(p1:List (BitVec 8))(rec2:(Int × List Int)→Option (List Int × Int))(s2:Int × List Int):Option (List Int × Int):=match s2 with|(a13,a14)=>(if(0:Int)<a13 then(tT (cC p0.Key (aO 70#8) 0#64) (wd a13) ((wd a13)+1#64)).bind fun x16=>((bJ a14 (un x16)).bind fun y17=>((bJ a14 a13).bind fun y18=>((bJ a14 a13).bind fun y19=>((bJ (a14.set a13.toNat y17) (un x16)).bind fun y20=>((rec2 (aT (a13-1),(a14.set a13.toNat y17).set (un x16).toNat y18))))))) else(H5 p1 (a14.length:Int)).bind fun x21=>((bif (!x21) then(some ([],71)) else(Qd (gE.mk p0 a14) p1).bind fun x22=>((some (x22,0))))))
def Qa (p0:fV)(p1:List (BitVec 8))(l2:List Int)(rec1:(Int × List Int)→Option (List Int × Int))(s1:Int × List Int):Option (List Int × Int):=match s1 with|(a6,a7)=>(if a6<(l2.length:Int) then(bJ a7 a6).bind fun y9=>((rec1 (aT (a6+1),a7.set a6.toNat a6))) else(aC (vW p0 p1) aI (aT ((a7.length:Int)-1),a7)))
def Wj (p0:fV)(p1:List (BitVec 8)):Option (List Int × Int):=(O8 p0).bind fun x1=>((if x1≠0 then(if x1≠0 then(some ([],x1)) else none) else(lG 8 (aT ((aT (p0.Users-1))*p0.Block)) 0).bind fun l2=>((aC (Qa p0 p1 l2) aI (0,l2)))))
def Rj (p0:gE)(rec1:(List (BitVec 8) × Int)→Option (List (BitVec 8)))(s1:List (BitVec 8) × Int):Option (List (BitVec 8)):=match s1 with|(a5,a7)=>(if a7<(p0.at_.length:Int) then(bJ p0.at_ a7).bind fun y8=>((bJ a5 y8).bind fun y9=>((rec1 (a5.set y8.toNat 1#8,aT (a7+1))))) else(some a5))
def Qc1 (p0:gE)(p1:Int):Option (List (BitVec 8)):=(lG 1 (p0.at_.length:Int) 0#8).bind fun l1=>((aC (Rj p0) aI (l1,aT (p1*p0.Steps.Block))))
def Fz (p0:fV)(p1:Int)(a14:List Int)(a21:Bool):Option (List (BitVec 8) × Int):=(bif a21 then(some ([],2)) else(Qc1 (gE.mk p0 a14) p1).bind fun x22=>((some (x22,0))))
def Rb (p0:fV)(p1:Int)(rec2:(Int × List Int)→Option (List (BitVec 8) × Int))(s2:Int × List Int):Option (List (BitVec 8) × Int):=match s2 with|(a13,a14)=>(if(0:Int)<a13 then(tT (cC p0.Key (aO 70#8) 0#64) (wd a13) ((wd a13)+1#64)).bind fun x16=>((bJ a14 (un x16)).bind fun y17=>((bJ a14 a13).bind fun y18=>((bJ a14 a13).bind fun y19=>((bJ (a14.set a13.toNat y17) (un x16)).bind fun y20=>((rec2 (aT (a13-1),(a14.set a13.toNat y17).set (un x16).toNat y18))))))) else(if p1<0 then(Fz p0 p1 a14 true) else(Fz p0 p1 a14 (decide (p0.Users≤p1)))))
def Ra (p0:fV)(p1:Int)(l2:List Int)(rec1:(Int × List Int)→Option (List (BitVec 8) × Int))(s1:Int × List Int):Option (List (BitVec 8) × Int):=match s1 with|(a6,a7)=>(if a6<(l2.length:Int) then(bJ a7 a6).bind fun y9=>((rec1 (aT (a6+1),a7.set a6.toNat a6))) else(aC (Rb p0 p1) aI (aT ((a7.length:Int)-1),a7)))
def O9 (p0:fV)(p1:Int):Option (List (BitVec 8) × Int):=(O8 p0).bind fun x1=>((if x1≠0 then(if x1≠0 then(some ([],x1)) else none) else(lG 8 (aT ((aT (p0.Users-1))*p0.Block)) 0).bind fun l2=>((aC (Ra p0 p1 l2) aI (0,l2)))))
end
end Go.Sx

end
section

end
section
namespace Go.Sx
open Go Go.RowKit
noncomputable section
structure cT where
 Kind:BitVec 8
 Receiver:Int
 Account:Int
 Item:Int
 From:Int
 To:Int
 Amount:Int
 Region:BitVec 8
 Level:BitVec 8
 View:Bool
deriving DecidableEq,Inhabited
def cT.cs (x:cT)  : List Value:=[bv x.Kind,.int .i64 x.Receiver,.int .i64 x.Account,.int .i64 x.Item,.int .i64 x.From,.int .i64 x.To,.int .i64 x.Amount,bv x.Region,bv x.Level,.bool x.View]
theorem cT.cs_inj {x y:cT}(h:cT.cs x=cT.cs y):x=y:=by
 have h0:x.Kind=y.Kind:=Fp (cA (fun l=>l[0]?) h);have h1:x.Receiver=y.Receiver:=vY (cA (fun l=>l[1]?) h);have h2:x.Account=y.Account:=vY (cA (fun l=>l[2]?) h);have h3:x.Item=y.Item:=vY (cA (fun l=>l[3]?) h);have h4:x.From=y.From:=vY (cA (fun l=>l[4]?) h);have h5:x.To=y.To:=vY (cA (fun l=>l[5]?) h);have h6:x.Amount=y.Amount:=vY (cA (fun l=>l[6]?) h);have h7:x.Region=y.Region:=Fp (cA (fun l=>l[7]?) h);have h8:x.Level=y.Level:=Fp (cA (fun l=>l[8]?) h);have h9:x.View=y.View:=Qtk (cA (fun l=>l[9]?) h);cases x;cases y;simp only at *;subst h0;subst h1;subst h2;subst h3;subst h4;subst h5;subst h6;subst h7;subst h8;subst h9;rfl
def Ea (a12:Bool):Option (Int):=(bif a12 then(some 2) else(some 0))
def qY (a2:Bool)(a3:Int)(a4:Int)(a5:Int)(a6:Int)(a7:Int)(a8:Int)(a9:BitVec 8)(a10:BitVec 8)(a11:Bool):Option (Int):=(bif (!a2) then(Ea true) else(Ea (decide ((cT.mk 0#8 a3 a4 a5 a6 a7 a8 a9 a10 a11)≠(cT.mk 0#8 0 0 0 0 0 0 0#8 0#8 false)))))
def Z7 (p0:cT)(a1:Bool):Option (Int):=(if p0.Kind=1#8 then(bif a1 then(jF 1000 [p0.Amount]).bind fun x13=>((qY x13 p0.Receiver p0.Account p0.Item p0.From p0.To 0 0#8 0#8 false)) else(qY false p0.Receiver p0.Account p0.Item p0.From p0.To 0 0#8 0#8 false)) else(if p0.Kind=2#8 then(bif a1 then(qY (decide (p0.Region<8#8)) 0 0 p0.Item p0.From p0.To p0.Amount 0#8 0#8 p0.View) else(qY false 0 0 p0.Item p0.From p0.To p0.Amount 0#8 0#8 p0.View)) else(if p0.Kind=3#8 then none else(if p0.Kind=4#8 then(qY a1 0 p0.Account p0.Item p0.From p0.To p0.Amount p0.Region p0.Level p0.View) else(if p0.Kind=5#8 then(bif a1 then(jF 7 [p0.Item]).bind fun x14=>((bif x14 then(qY (decide (p0.From<p0.To)) p0.Receiver 0 0 0 0 p0.Amount p0.Region p0.Level p0.View) else(qY false p0.Receiver 0 0 0 0 p0.Amount p0.Region p0.Level p0.View))) else(qY false p0.Receiver 0 0 0 0 p0.Amount p0.Region p0.Level p0.View)) else(if p0.Kind=6#8 then none else(if p0.Kind=8#8 then none else(if p0.Kind=7#8 then none else(if p0.Kind=9#8 then none else(if p0.Kind=10#8 then none else(if p0.Kind=11#8 then none else(if p0.Kind=12#8 then none else(some 2)))))))))))))
def Gh (p0:cT):Option (Int):=(jF 63 [p0.Receiver]).bind fun x15=>((bif x15 then(jF 15 [p0.Account]).bind fun x16=>((bif x16 then(jF 1099511627776 [p0.From,p0.To]).bind fun x17=>((bif x17 then(Z7 p0 (decide (p0.Level≤3#8))) else(Z7 p0 false))) else(Z7 p0 false))) else(Z7 p0 false)))
def An (p0:List cG):Option (List cG):=(gI 24 [] p0).bind fun l1=>((some l1))
def Am (p0:List bK):Option (List bK):=(gI 48 [] p0).bind fun l1=>((some l1))
def Ak (p0:List dQ):Option (List dQ):=(gI 32 [] p0).bind fun l1=>((some l1))
def Al (p0:List cL):Option (List cL):=(gI 32 [] p0).bind fun l1=>((some l1))
def Aj (p0:List dA):Option (List dA):=(gI 32 [] p0).bind fun l1=>((some l1))
def Gp (p0:bS):Option (bS):=(An p0.Products).bind fun x1=>((Am p0.Cards).bind fun x2=>((Ak p0.Grants).bind fun x3=>((Al p0.Sales).bind fun x4=>((Aj p0.Licences).bind fun x5=>((some (bS.mk x1 x2 x3 x4 x5 p0.Credits)))))))
def Qg8 (p0:cD)(p1:cT):Option (Int × cD):=(if(p0.Books.Products.length:Int)=8 then(some (9,p0)) else(gI 24 p0.Books.Products [(cG.mk p1.Region p1.Level p1.Amount p1.View)]).bind fun l1=>((some (0,(cD.mk (bS.mk l1 p0.Books.Cards p0.Books.Grants p0.Books.Sales p0.Books.Licences p0.Books.Credits))))))
def Qg7 (p0:cD)(p1:cT):Option (Int × cD):=(C8 p0.Books.Cards p1.Receiver).bind fun x1=>((if x1<0 then(gI 48 p0.Books.Cards [(bK.mk p1.Receiver p1.Account p1.Region p1.Level 0 0 false)]).bind fun l2=>((some (0,(cD.mk (bS.mk p0.Books.Products l2 p0.Books.Grants p0.Books.Sales p0.Books.Licences p0.Books.Credits))))) else(bJ p0.Books.Cards x1).bind fun y3=>((bif y3.Dead then(some (61,p0)) else(bJ p0.Books.Cards x1).bind fun y4=>((some (61,p0)))))))
def Es (p0:cD)(p1:cT):Option (Int × cD):=(C8 p0.Books.Cards p1.Receiver).bind fun x1=>((if x1<0 then(some (6,p0)) else(bJ p0.Books.Cards x1).bind fun y2=>((bif y2.Dead then(some (60,p0)) else(bJ p0.Books.Cards x1).bind fun y3=>((some (0,(cD.mk (bS.mk p0.Books.Products (((p0.Books.Cards.set x1.toNat (bK.mk y3.Receiver y3.Account y3.Region y3.Level y3.Home y3.Met true)).set x1.toNat (bK.mk y3.Receiver y3.Account y3.Region y3.Level 0 y3.Met true)).set x1.toNat (bK.mk y3.Receiver y3.Account y3.Region y3.Level 0 0 true)) p0.Books.Grants p0.Books.Sales p0.Books.Licences p0.Books.Credits)))))))))
def Qg6 (p0:cD)(p1:cT):Option (Int × cD):=(if(p0.Books.Products.length:Int)≤p1.Item then(some (6,p0)) else(bJ p0.Books.Products p1.Item).bind fun y1=>((bif y1.View then(some (2,p0)) else(if(p0.Books.Grants.length:Int)=64 then(some (9,p0)) else(gI 32 p0.Books.Grants [(dQ.mk p1.Account p1.Item p1.From p1.To)]).bind fun l2=>((some (0,(cD.mk (bS.mk p0.Books.Products p0.Books.Cards l2 p0.Books.Sales p0.Books.Licences p0.Books.Credits)))))))))
def Er (p0:cD)(p1:cT):Option (Int × cD):=(if p1.Kind=1#8 then(Qg8 p0 p1).bind fun x1=>((some (x1.1,(cD.mk (bS.mk x1.2.Books.Products p0.Books.Cards p0.Books.Grants p0.Books.Sales p0.Books.Licences x1.2.Books.Credits))))) else(if p1.Kind=2#8 then(Qg7 p0 p1).bind fun x2=>((some (x2.1,(cD.mk (bS.mk p0.Books.Products x2.2.Books.Cards p0.Books.Grants p0.Books.Sales p0.Books.Licences x2.2.Books.Credits))))) else(if p1.Kind=4#8 then(Es p0 p1).bind fun x3=>((some (x3.1,(cD.mk (bS.mk p0.Books.Products x3.2.Books.Cards p0.Books.Grants p0.Books.Sales p0.Books.Licences x3.2.Books.Credits))))) else(if p1.Kind=5#8 then(Qg6 p0 p1).bind fun x4=>((some (x4.1,(cD.mk (bS.mk p0.Books.Products p0.Books.Cards x4.2.Books.Grants p0.Books.Sales p0.Books.Licences x4.2.Books.Credits))))) else none))))
def C0 (x3:bS)(a4:Int)(a5:List cG)(a6:List bK)(a7:List dQ)(a8:kJ):Option (bS × Int):=(if a4≠0 then(some ((bS.mk [] [] [] [] [] (kJ.mk 0 0 0 0 0 0 0 0 0 0 0 0 0 0 0 0)),a4)) else(some ((bS.mk a5 a6 a7 x3.Sales x3.Licences a8),0)))
def B2 (p0:bS)(p1:cT)(a2:Int):Option (bS × Int):=(Gp p0).bind fun x3=>((if a2=0 then(Er (cD.mk x3) p1).bind fun x12=>((C0 x3 x12.1 x12.2.Books.Products x12.2.Books.Cards x12.2.Books.Grants x12.2.Books.Credits)) else(C0 x3 a2 x3.Products x3.Cards x3.Grants x3.Credits)))
def nB (p0:bS)(p1:cT):Option (bS × Int):=(Jn p0).bind fun x1=>((if x1=0 then(Gh p1).bind fun x13=>((B2 p0 p1 x13)) else(B2 p0 p1 x1)))
end
end Go.Sx

end
section

end
section
namespace Go.Sx
open Go Go.RowKit
noncomputable section
def Pp  : Option (Bool):=(nB (bS.mk [] [] [] [] [] (kJ.mk 0 0 0 0 0 0 0 0 0 0 0 0 0 0 0 0)) (cT.mk 1#8 0 0 0 0 0 0 255#8 0#8 false)).bind fun x1=>((nB x1.1 (cT.mk 2#8 0 0 0 0 0 0 0#8 0#8 false)).bind fun x2=>((nB x2.1 (cT.mk 5#8 0 0 0 0 9 0 0#8 0#8 false)).bind fun x3=>((nB x3.1 (cT.mk 4#8 0 0 0 0 0 0 0#8 0#8 false)).bind fun x4=>((uW x3.1 0 1 1).bind fun x5=>((uW x4.1 0 1 1).bind fun x6=>((oA (72057594037927936#64,0#64) (bX.mk 1#8 1 0 (iK.mk 0#64 0#64 0#64)) 0).bind fun x7=>((oY (72057594037927936#64,0#64) (bX.mk 1#8 1 0 (iK.mk 0#64 0#64 0#64)) 1 x5.1).bind fun x8=>((oY (72057594037927936#64,0#64) (bX.mk 1#8 1 0 (iK.mk 0#64 0#64 0#64)) 1 x6.1).bind fun x9=>((oE (bX.mk 1#8 1 0 (iK.mk 0#64 0#64 0#64)) x7.1 x8.1).bind fun x10=>((oE (bX.mk 1#8 1 0 (iK.mk 0#64 0#64 0#64)) x7.1 x9.1).bind fun x11=>((O9 (fV.mk 2 1 k0 (iW.mk [1#32] [2#32])) 0).bind fun x12=>((if x1.2=0 then(if x2.2=0 then(if x3.2=0 then(if x4.2=0 then(if x5.2=0 then(if x6.2=0 then(if x7.2=0 then(if x8.2=0 then(if x9.2=0 then(if x10.2=0 then(if x11.2=6 then(if x12.2=0 then(if(x12.1.length:Int)=1 then(if(x5.1.length:Int)=1 then(some (decide ((x6.1.length:Int)=2))) else(some false)) else(some false)) else(some false)) else(some false)) else(some false)) else(some false)) else(some false)) else(some false)) else(some false)) else(some false)) else(some false)) else(some false)) else(some false)) else(some false))))))))))))))
def N2 (p0:List Int)(p1:Int)(rec1:(Int)→Option (Bool))(a2:Int):Option (Bool):=(if a2<(p0.length:Int) then(bJ p0 a2).bind fun y3=>((if y3=p1 then(some true) else(rec1 (aT (a2+1))))) else(some false))
def N1 (p0:List Int)(p1:Int):Option (Bool):=(aC (N2 p0 p1) aI 0)
def Pn (x1:Bool)(a32:Int)(rec5:(Int)→Option (Bool))(a33:Bool):Option (Bool):=(bif a33 then(some x1) else(rec5 (aT (a32+1))))
def vF (p2:bS)(p7:Int)(x1:Bool)(x4:List Int × Int)(x22:List Int × Int)(x27:W2 × Int)(x28:W2 × Int)(rec5:(Int)→Option (Bool))(a32:Int):Option (Bool):=(if a32<(p2.Cards.length:Int) then(bJ p2.Cards a32).bind fun y34=>((if y34.Receiver=p7 then(bJ p2.Cards a32).bind fun y35=>((Pn x1 a32 rec5 (decide (y35.Home≠0)))) else(Pn x1 a32 rec5 false))) else(bif x1 then(N1 x4.1 p7).bind fun x36=>((N1 x22.1 p7).bind fun x37=>((bif (x36 == x37) then(if x27.2=x28.2 then(some (decide (x27.1=x28.1))) else(some false)) else(some false)))) else(some false)))
def vS (p2:bS)(p4:bX)(p7:Int)(x1:Bool)(x3:List Int × Int)(x4:List Int × Int)(x22:List Int × Int)(x23:bT × Int)(x24:bT × Int)(x25:bU × Int)(a26:Bool):Option (Bool):=(bif a26 then(some x1) else(oE p4 x25.1 x23.1).bind fun x27=>((oE p4 x25.1 x24.1).bind fun x28=>((N1 x3.1 p7).bind fun x29=>((bif x29 then(bif x1 then(N1 x22.1 p7).bind fun x30=>((bif x30 then(some (decide (x28.2=6))) else(some false))) else(some false)) else(aC (vF p2 p7 x1 x4 x22 x27 x28) aI 0))))))
def zA (p2:bS)(p3:W2)(p4:bX)(p5:Int)(p6:Int)(p7:Int)(x1:Bool)(x3:List Int × Int)(x4:List Int × Int)(rec3:(Int × bS)→Option (Bool))(s3:Int × bS):Option (Bool):=match s3 with|(a13,a14)=>(if a13<(x3.1.length:Int) then(bJ x3.1 a13).bind fun y20=>((nB a14 (cT.mk 4#8 y20 0 0 0 0 0 0#8 0#8 false)).bind fun x21=>((if x21.2=0 then(rec3 (aT (a13+1),x21.1)) else(rec3 (aT (a13+1),a14))))) else(uW a14 p5 p6 p4.Depth).bind fun x22=>((if x22.2≠0 then(some false) else(oY p3 p4 p6 x4.1).bind fun x23=>((oY p3 p4 p6 x22.1).bind fun x24=>((oA p3 p4 p7).bind fun x25=>((if x23.2≠0 then(vS p2 p4 p7 x1 x3 x4 x22 x23 x24 x25 true) else(if x24.2≠0 then(vS p2 p4 p7 x1 x3 x4 x22 x23 x24 x25 true) else(vS p2 p4 p7 x1 x3 x4 x22 x23 x24 x25 (decide (x25.2≠0)))))))))))
def Xp (p2:bS)(p3:W2)(p4:bX)(p5:Int)(p6:Int)(p7:Int)(x1:Bool)(x3:List Int × Int)(x4:List Int × Int)(a5:Bool):Option (Bool):=(bif a5 then(some x1) else(aC (zA p2 p3 p4 p5 p6 p7 x1 x3 x4) aI (0,p2)))
def N0 (p0:fV)(p1:List (BitVec 8))(p2:bS)(p3:W2)(p4:bX)(p5:Int)(p6:Int)(p7:Int)(x1:Bool)(a2:Bool):Option (Bool):=(bif a2 then(some x1) else(Wj p0 p1).bind fun x3=>((uW p2 p5 p6 p4.Depth).bind fun x4=>((if x3.2≠0 then(Xp p2 p3 p4 p5 p6 p7 x1 x3 x4 true) else(Xp p2 p3 p4 p5 p6 p7 x1 x3 x4 (decide (x4.2≠0)))))))
def Cu (p0:fV)(p1:List (BitVec 8))(p2:bS)(p3:W2)(p4:bX)(p5:Int)(p6:Int)(p7:Int):Option (Bool):=(Pp).bind fun x1=>((if(1000:Int)<(p1.length:Int) then(N0 p0 p1 p2 p3 p4 p5 p6 p7 x1 true) else(Jl p2).bind fun x38=>((bif x38 then(N0 p0 p1 p2 p3 p4 p5 p6 p7 x1 true) else(N0 p0 p1 p2 p3 p4 p5 p6 p7 x1 (!x1))))))
end
end Go.Sx

end
