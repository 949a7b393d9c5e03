/- Several texts in one: Opn Pln Wf GaM GhM GcM GeM GfM GdM HbM HcM HdM HeM ByM OpnBy CipA CipB CipC MirM. -/
import Derived.Test.YtopkalcefepilaaGreatZc
import Derived.SizedLaws
import Derived.Test.YtopkalcefepilaaGreatZb
import Derived.Test.YtopkalcefepilaaGreatRows
import Derived.KernelRfl
set_option linter.unusedVariables false
set_option linter.unusedSimpArgs false
section
set_option linter.unusedVariables false
set_option linter.unusedSimpArgs false
namespace Go.Sx
open Go Go.RowKit
def Gg (n:Int):Prop := -9223372036854775808≤n∧n≤9223372036854775807
section
variable {H:Type} {enc:TypeId × Value→H} {P:Program} {W:World} {fuel:Nat} {t e:TypeId} {cs:List Value} {x:DataW H × List MemPlace}
def Sz (P:Program)(t:TypeId)(d:DataW H):Prop:=∀ n∈d.weights P t,n≤reachBytes
abbrev Tr (enc:TypeId × Value→H)(P:Program)(W:World)(fuel:Nat)(t:TypeId)(cs:List Value)(x:DataW H × List MemPlace):Prop:=DataW.trod enc P W 0 (fun _=>true) true fuel t cs=some x
theorem Em (hu:P.underlying t=some (.int .i64))(h:Tr enc P W fuel t cs x):∃ n:Int,cs=[.int .i64 n]∧Gg n:=by
 obtain⟨n,rfl,_,hw⟩:=DataW.trod_int hu h
 simp[Lit.wf,IntKind.min,IntKind.max,IntKind.signed,IntKind.bits] at hw
 exact⟨n,rfl,by unfold Gg;omega⟩
theorem Qla (hu:P.underlying t=some (.int .u64))(h:Tr enc P W fuel t cs x):∃ n:BitVec 64,cs=[wv n]:=by
 obtain⟨n,rfl,_,hw⟩:=DataW.trod_int hu h
 simp[Lit.wf,IntKind.min,IntKind.max,IntKind.signed,IntKind.bits] at hw
 refine⟨wd n,?_⟩
 show[Value.int .u64 n]=[Value.int .u64 (un (wd n))]
 rw[Qig n (by omega) (by omega)]
theorem Xds (hu:P.underlying t=some (.int .u8))(h:Tr enc P W fuel t cs x):∃ n:BitVec 8,cs=[bv n]:=by
 obtain⟨n,rfl,_,hw⟩:=DataW.trod_int hu h
 simp[Lit.wf,IntKind.min,IntKind.max,IntKind.signed,IntKind.bits] at hw
 refine⟨Pr n,?_⟩
 show[Value.int .u8 n]=[Value.int .u8 (Qs (Pr n))]
 have:Qs (Pr n)=n:=by unfold Qs Pr;rw[BitVec.toNat_ofInt];omega
 rw[this]
theorem Xat {cs:List Value}{i:Nat}{v:Value}(h:(cs.drop (i*1)).take 1=[v]):cs[i]? = some v:=by
 have:((cs.drop (i*1)).take 1)[0]? = some v:=by rw[h];rfl
 simpa[List.getElem?_take,List.getElem?_drop] using this
theorem Xdp (he:P.underlying e=some (.int .u8))(hc:P.cellsOf e=1){m n:Nat}{xs:List (DataW H × List MemPlace)}(hl:cs.length=n)(hx:xs.length=n)
 (h:∀ i,i<n→DataW.trod enc P W 0 (fun _=>true) true m e ((cs.drop (i*P.cellsOf e)).take (P.cellsOf e))=xs[i]?):∃ l:List (BitVec 8),l.length=n∧cs=(l.map Jg).flatten:=by
 have key:∀ i,i<n→∃ b:BitVec 8,cs[i]? = some (bv b):=fun i hi=>by
  have h1:=h i hi
  rw[hc] at h1
  have:∃ y,xs[i]? = some y:=⟨xs[i],by simp[hx,hi]⟩
  obtain⟨y,hy⟩:=this
  rw[hy] at h1
  obtain⟨b,hb⟩:=Xds he h1
  exact⟨b,Xat hb⟩
 refine⟨List.ofFn fun i:Fin n=>Classical.choose (key i.1 i.2),by simp,?_⟩
 have hf:∀ (l:List (BitVec 8)),(l.map Jg).flatten=l.map bv:=by
  intro l
  induction l with
  | nil=>rfl
  | cons a l ih=>simp only[List.map_cons,List.flatten_cons,ih];rfl
 rw[hf]
 apply List.ext_getElem?
 intro i
 by_cases hi:i<n
 · rw[Classical.choose_spec (key i hi)]
   simp[hi]
 · rw[List.getElem?_eq_none (by omega),List.getElem?_eq_none (by simp;omega)]
theorem Xdq (hu:P.underlying t=some (.array 16 e))(he:P.underlying e=some (.int .u8))(hc:P.cellsOf e=1)(ht:P.cellsOf t=16)(h:Tr enc P W fuel t cs x):∃ p:W2,cs=kb p:=by
 obtain⟨xs,m,rfl,rfl,hl,hx,hf⟩:=DataW.trod_array hu h
 obtain⟨l,h1,h2⟩:=Xdp he hc (hl.trans ht) hx hf
 refine⟨Hr l,?_⟩
 rw[Fj,Qd2 (by omega),List.take_of_length_le (by omega)];exact h2
theorem Lm {fs:Array Field}{n:Nat}{xs:List (DataW H × List MemPlace)}(hf:∀ (i:Nat) (f:Field),fs[i]? = some f→DataW.trod enc P W 0 (fun _=>true) true n f.type ((cs.drop f.offset).take (P.cellsOf f.type))=xs[i]?){i o k:Nat}{u:TypeId}{f:Field}{y:DataW H × List MemPlace}
 (hi:fs[i]? = some f) (h1:f.type=u) (h2:f.offset=o) (h3:P.cellsOf u=k) (e:xs[i]? = some y):Tr enc P W n u ((cs.drop o).take k) y:=by
 subst h1;subst h2;subst h3
 exact(hf i f hi).trans e
theorem Lh {cs a r:List Value}{o k:Nat}(h:(cs.drop o).take k=a)(hr:cs.drop (o+k)=r):cs.drop o=a++r:=by rw[←h,←hr,←List.drop_drop,List.take_append_drop]
theorem Qol {cs:List Value}{n:Nat}(h:cs.length=n):cs.drop n=[]:=List.drop_eq_nil_of_le (by omega)
theorem Lz {α:Type}{xs:List α}{n i:Nat}(h:xs.length=n)(hi:Nat.blt i n=true):∃ y,xs[i]? = some y:=⟨xs[i]'(by rw[h];exact Nat.le_of_ble_eq_true hi),by simp⟩
theorem Qwz {w:World}{a:Addr}{n:Nat}{cs:List Value}(h:w.cells? 0 a n=some cs):cs.length=n∧∀ q u,cs[q]? = some u→w.cell? (a.add q)=some u:=by
 unfold World.cells? at h
 rw[if_pos (Nat.zero_le _)] at h
 have hl:=mapM_some_length h
 rw[List.length_range] at hl
 refine⟨hl,fun q u hq=>?_⟩
 have hqn:q<n:=by rw[←hl];exact(List.getElem?_eq_some_iff.1 hq).1
 have:=mapM_some_get h q q (by simp[hqn])
 rw[this];exact hq
theorem Qsm {r:Reach}{base:Nat}{v:Value}(hu:(∃ fs,P.underlying t=some (.struct fs))∨∃ n e,P.underlying t=some (.array n e))(h:Value.okWide P W r base t v):∃ cs:List Value,v=.agg cs.toArray:=by
 unfold Value.okWide at h
 split at h
 · obtain⟨cs,rfl,_⟩:=h;exact⟨cs.toList,rfl⟩
 · obtain⟨cs,rfl,_⟩:=h;exact⟨cs.toList,rfl⟩
 · rename_i h1 h2
   rcases hu with⟨fs,hu⟩|⟨n,e,hu⟩
   · exact absurd hu (h1 fs)
   · exact absurd hu (h2 n e)
theorem Qsn {r:Reach}{base:Nat}{v:Value}(h1:∀ fs,P.underlying t≠some (.struct fs))(h2:∀ n e,P.underlying t≠some (.array n e))(h:Value.okWide P W r base t v):Cell.okWide P W r base t v:=by
 unfold Value.okWide at h
 split at h
 · rename_i h3;exact absurd h3 (h1 _)
 · rename_i h3;exact absurd h3 (h2 _ _)
 · exact h
theorem Xdh {r:Reach}{base:Nat}{v:Value}(hu:P.underlying t=some (.int .i64))(h:Value.okWide P W r base t v):∃ n:Int,v=.int .i64 n∧Gg n:=Xdf hu (Qsn (by simp[hu]) (by simp[hu]) h)
theorem Xdi {r:Reach}{base:Nat}{v:Value}(hu:P.underlying t=some (.int .u8))(h:Value.okWide P W r base t v):∃ n:BitVec 8,v=bv n:=by
 obtain⟨n,rfl,h1,h2⟩:=Xdg hu (Qsn (by simp[hu]) (by simp[hu]) h)
 refine⟨Pr n,?_⟩
 have:Qs (Pr n)=n:=by unfold Qs Pr;rw[BitVec.toNat_ofInt];omega
 show Value.int .u8 n=Value.int .u8 (Qs (Pr n))
 rw[this]
theorem Qoo (cs:List Value):(Value.agg cs.toArray).cells.toList=cs:=rfl
theorem Qx0 (a:Option Addr)(l c:Nat):(Value.slice a l c).cells.toList=[.slice a l c]:=rfl
theorem Xdr {α:Type}{c:α→List Value}{ok:α→Prop}{sz bytes:Nat}(hu:P.underlying t=some (.slice e))(hc:P.cellsOf e=sz)(hb:P.bytesOf e=bytes)(hpos:1≤sz)(hcs:∀ a,(c a).length=sz∧Zj (c a)=true)
 (hel:∀ (fuel:Nat) (cs:List Value) (x:DataW H × List MemPlace),Tr enc P W fuel e cs x→∃ m:α,cs=c m∧ok m) (h:Tr enc P W fuel t cs x) (hw:Sz P t x.1):
 ∃ (l:List α) (v:Value) (z g o:Nat),cs=[v]∧Rd W z g o sz v (l.map c)∧(∀ a∈l,ok a)∧l.length*bytes≤140737488351232:=by
 rcases DataW.trod_slice hu h with⟨rfl,rfl⟩|⟨a,len,cap,elems,rest,n,rfl,rfl,rfl,_,hlc,hcm,hel2,hget,_,_⟩
 · exact⟨[],_,0,0,0,rfl,⟨Qno _,.inl ⟨rfl,rfl,none,0,rfl⟩⟩,by simp,by simp⟩
 · have key:∀ i,i<len→∃ m:α,W.cells? 0 (a.add (i*sz)) sz=some (c m)∧ok m:=fun i hi=>by
    have h1:=hget i hi
    rw[hc] at h1
    have hy:elems[i]? = some elems[i]:=by simp
    rw[hy] at h1
    rw[Option.bind_eq_some_iff] at h1
    obtain⟨cs',h2,h3⟩:=h1
    obtain⟨m,rfl,hm⟩:=hel _ _ _ h3
    exact⟨m,h2,hm⟩
   let f:Fin len→α:=fun i=>Classical.choose (key i.1 i.2)
   have hf:∀ i (hi:i<len),W.cells? 0 (a.add (i*sz)) sz=some (c (f ⟨i,hi⟩))∧ok (f ⟨i,hi⟩):=fun i hi=>Classical.choose_spec (key i hi)
   have hws:Ws sz ((List.ofFn f).map c):=fun y hy=>by
    obtain⟨b,_,rfl⟩:=List.mem_map.1 hy;exact hcs b
   have hbd:(List.ofFn f).length*bytes≤140737488351232:=by
    have:=hw ((elems.length+rest.length)*P.bytesOf e) (by simp[DataW.weights,hu])
    rw[hb] at this
    have h2:elems.length*bytes≤(elems.length+rest.length)*bytes:=Nat.mul_le_mul_right _ (by omega)
    have h3:reachBytes=140737488351232:=by decide
    rw[List.length_ofFn,←hel2];omega
   rcases Nat.eq_zero_or_pos len with h0|hp
   · refine⟨List.ofFn f,_,0,0,0,rfl,⟨hws,.inl ⟨rfl,?_,some a,cap,by rw[h0]⟩⟩,?_,hbd⟩
     · apply List.eq_nil_of_length_eq_zero;simp[h0]
     · intro b hb';obtain⟨i,rfl⟩:=List.mem_ofFn.1 hb';exact(hf i.1 i.2).2
   · have hcell:∀ j u,((List.ofFn f).map c).flatten[j]? = some u→W.cell? (a.add j)=some u:=fun j u hj=>by
      have hjl:j<len*sz:=by
       have h1:=(List.getElem?_eq_some_iff.1 hj).1
       rw[hws.flat] at h1;simpa using h1
      have hq:j%sz<sz:=Nat.mod_lt _ (by omega)
      have hi:j / sz<len:=(Nat.div_lt_iff_lt_mul (by omega)).2 hjl
      obtain⟨h1,_⟩:=hf (j / sz) hi
      have h2:=hws.at (j / sz) (j%sz) (c (f ⟨j / sz,hi⟩)) (by simp[hi]) hq
      have hdm:j / sz*sz+j%sz=j:=by rw[Nat.mul_comm];exact Nat.div_add_mod j sz
      rw[hdm,hj] at h2
      have h3:=(Qwz h1).2 (j%sz) u h2.symm
      rw[Addr.add_add,hdm] at h3;exact h3
     have hsp:a.spot=none:=by
      have h0:∃ u,((List.ofFn f).map c).flatten[0]? = some u:=by
       have:0<((List.ofFn f).map c).flatten.length:=by rw[hws.flat];simp;exact Nat.mul_pos hp (by omega)
       exact⟨_,List.getElem?_eq_getElem this⟩
      obtain⟨u,hu0⟩:=h0
      simpa[Addr.add] using World.cell?_spot (hcell 0 u hu0)
     obtain⟨g,o,spot⟩:=a
     simp only at hsp;subst hsp
     have Jc:g<W.heap.size:=by
      have h0:∃ u,((List.ofFn f).map c).flatten[0]? = some u:=by
       have:0<((List.ofFn f).map c).flatten.length:=by rw[hws.flat];simp;exact Nat.mul_pos hp (by omega)
       exact⟨_,List.getElem?_eq_getElem this⟩
      obtain⟨u,hu0⟩:=h0
      have h1:=hcell 0 u hu0
      rcases Nat.lt_or_ge g W.heap.size with h|h
      · exact h
      · simp[World.cell?,Addr.add,Array.getElem?_eq_none h] at h1
     refine⟨List.ofFn f,_,1,g,o,rfl,⟨hws,.inr ⟨rfl,cap,by simp,⟨Jc,by simpa using hlc⟩,fun j u hj=>?_⟩⟩,?_,hbd⟩
     · have:=hcell j u hj;rw[Addr.add_lit] at this;exact this
     · intro b hb';obtain⟨i,rfl⟩:=List.mem_ofFn.1 hb';exact(hf i.1 i.2).2
end
end Go.Sx

end
section
set_option linter.unusedVariables false
namespace Go.Sx
open Go
def Qbd (x:BitVec 64)(s:Nat):BitVec 64:=x <<< s ||| x >>> (64-s)
def rnd (p:W2)(k:BitVec 64):W2:=((Qbd p.1 56+p.2) ^^^ k,Qbd p.2 3 ^^^ ((Qbd p.1 56+p.2) ^^^ k))
def ks (k:W2):Nat→W2
 | 0=>k
 | i+1=>rnd (ks k i) (wd (i:Int))
def Wz (k b:W2):W2:=(List.range 32).foldl (fun p i=>rnd p (ks k i).2) b
def blk (tag:Int)(c n:BitVec 64):W2:=(wd tag <<< 56 ||| c,n)
def Xy (k:W2)(tag:Int)(n:BitVec 64):W2:=Wz k (blk tag 0#64 n)
def lg (a:Int):Int:=if a.toNat=0 then 0 else(Nat.log2 a.toNat:Int)+1
end Go.Sx

end
section
set_option linter.unusedVariables false
namespace Go.Sx
open Go
def Cr {α:Type}(l:List α)(lo hi:Int):Option Nat:=if 0≤lo∧lo<hi∧hi≤l.length then some (hi-lo).toNat else none
def Hn (lo:Int)(n:Nat)(i:Int):Option Int:=if 0≤i∧i<(n:Int) then some (lo+i) else none
end Go.Sx

end
section
set_option linter.unusedVariables false
set_option maxRecDepth 100000
namespace Go.Sx
open Go Go.RowKit
structure Jb where
 P:BitVec 64
 Q:BitVec 64
 G:BitVec 64
deriving DecidableEq,Inhabited
def Jb.cs (x:Jb)  : List Value:=[wv x.P,wv x.Q,wv x.G]
theorem Jb.cs_ones (x:Jb)   : Zj (Jb.cs x )=true:=by simp only[Jb.cs,List.cons_append,List.nil_append,kb,Zj,Yx,Yw,Yy,cond_true]
theorem Jb.cs_inj {x y:Jb}(h:Jb.cs x=Jb.cs y):x=y:=by
 have h0:x.P=y.P:=Ui (congrArg (fun l=>l[0]?) h)
 have h1:x.Q=y.Q:=Ui (congrArg (fun l=>l[1]?) h)
 have h2:x.G=y.G:=Ui (congrArg (fun l=>l[2]?) h)
 cases x;cases y;simp only at *;subst h0;subst h1;subst h2;rfl
theorem Jb.ws (l:List Jb):Ws 3 (l.map Jb.cs):=Pb l (fun _=>rfl) (fun _=>rfl)
structure Qj where
 Kind:BitVec 8
 Depth:Int
 Degree:Int
 Group:Jb
deriving DecidableEq,Inhabited
def Qj.cs (x:Qj)  : List Value:=[bv x.Kind,.int .i64 x.Depth,.int .i64 x.Degree,wv x.Group.P,wv x.Group.Q,wv x.Group.G]
theorem Qj.cs_ones (x:Qj)   : Zj (Qj.cs x )=true:=by simp only[Qj.cs,List.cons_append,List.nil_append,kb,Zj,Yx,Yw,Yy,cond_true]
theorem Qj.cs_inj {x y:Qj}(h:Qj.cs x=Qj.cs y):x=y:=by
 have h0:x.Kind=y.Kind:=Qom (congrArg (fun l=>l[0]?) h)
 have h1:x.Depth=y.Depth:=Yd (congrArg (fun l=>l[1]?) h)
 have h2:x.Degree=y.Degree:=Yd (congrArg (fun l=>l[2]?) h)
 have h3:x.Group=y.Group:=Jb.cs_inj (congrArg (fun l=>(l.drop 3).take 3) h)
 cases x;cases y;simp only at *;subst h0;subst h1;subst h2;subst h3;rfl
theorem Qj.ws (l:List Qj):Ws 6 (l.map Qj.cs):=Pb l (fun _=>rfl) (fun _=>rfl)
structure Qx where
 Node:Int
 Minus:Int
deriving DecidableEq,Inhabited
def Qx.cs (x:Qx)  : List Value:=[.int .i64 x.Node,.int .i64 x.Minus]
theorem Qx.cs_ones (x:Qx)   : Zj (Qx.cs x )=true:=by simp only[Qx.cs,List.cons_append,List.nil_append,kb,Zj,Yx,Yw,Yy,cond_true]
theorem Qx.cs_inj {x y:Qx}(h:Qx.cs x=Qx.cs y):x=y:=by
 have h0:x.Node=y.Node:=Yd (congrArg (fun l=>l[0]?) h)
 have h1:x.Minus=y.Minus:=Yd (congrArg (fun l=>l[1]?) h)
 cases x;cases y;simp only at *;subst h0;subst h1;rfl
theorem Qx.ws (l:List Qx):Ws 2 (l.map Qx.cs):=Pb l (fun _=>rfl) (fun _=>rfl)
structure Xj where
 kind:BitVec 8
 depth:Int
 stride:Int
deriving DecidableEq,Inhabited
def Xj.cs (x:Xj)  : List Value:=[bv x.kind,.int .i64 x.depth,.int .i64 x.stride]
theorem Xj.cs_ones (x:Xj)   : Zj (Xj.cs x )=true:=by simp only[Xj.cs,List.cons_append,List.nil_append,kb,Zj,Yx,Yw,Yy,cond_true]
theorem Xj.cs_inj {x y:Xj}(h:Xj.cs x=Xj.cs y):x=y:=by
 have h0:x.kind=y.kind:=Qom (congrArg (fun l=>l[0]?) h)
 have h1:x.depth=y.depth:=Yd (congrArg (fun l=>l[1]?) h)
 have h2:x.stride=y.stride:=Yd (congrArg (fun l=>l[2]?) h)
 cases x;cases y;simp only at *;subst h0;subst h1;subst h2;rfl
theorem Xj.ws (l:List Xj):Ws 3 (l.map Xj.cs):=Pb l (fun _=>rfl) (fun _=>rfl)
structure Dv where
 a0:Int
 a1:Int
 a2:Int
 a3:Int
deriving DecidableEq,Inhabited
def Dv.cs (x:Dv)  : List Value:=[.int .i64 x.a0,.int .i64 x.a1,.int .i64 x.a2,.int .i64 x.a3]
theorem Dv.cs_ones (x:Dv)   : Zj (Dv.cs x )=true:=by simp only[Dv.cs,List.cons_append,List.nil_append,kb,Zj,Yx,Yw,Yy,cond_true]
theorem Dv.cs_inj {x y:Dv}(h:Dv.cs x=Dv.cs y):x=y:=by
 have h0:x.a0=y.a0:=Yd (congrArg (fun l=>l[0]?) h)
 have h1:x.a1=y.a1:=Yd (congrArg (fun l=>l[1]?) h)
 have h2:x.a2=y.a2:=Yd (congrArg (fun l=>l[2]?) h)
 have h3:x.a3=y.a3:=Yd (congrArg (fun l=>l[3]?) h)
 cases x;cases y;simp only at *;subst h0;subst h1;subst h2;subst h3;rfl
theorem Dv.ws (l:List Dv):Ws 4 (l.map Dv.cs):=Pb l (fun _=>rfl) (fun _=>rfl)
structure Vn where
 a0:List Int
 a1:List Int
 a2:List Int
 a3:List Int
deriving DecidableEq,Inhabited
def Vn.cs (x:Vn)(v0:Value)(v1:Value)(v2:Value)(v3:Value):List Value:=[v0,v1,v2,v3]
theorem Vn.cs_ones (x:Vn)(v0:Value)(v1:Value)(v2:Value)(v3:Value)(h0:oneB v0=true)(h1:oneB v1=true)(h2:oneB v2=true)(h3:oneB v3=true):Zj (Vn.cs x v0 v1 v2 v3)=true:=by simp only[Vn.cs,List.cons_append,List.nil_append,kb,Zj,Yx,Yw,Yy,cond_true,h0,h1,h2,h3]
structure Xc where
 s:Qj
 stride:Int
 rows:Vn
 states:Int
deriving DecidableEq,Inhabited
def Xc.cs (x:Xc)(v0:Value)(v1:Value)(v2:Value)(v3:Value):List Value:=[bv x.s.Kind,.int .i64 x.s.Depth,.int .i64 x.s.Degree,wv x.s.Group.P,wv x.s.Group.Q,wv x.s.Group.G,.int .i64 x.stride,v0,v1,v2,v3,.int .i64 x.states]
theorem Xc.cs_ones (x:Xc)(v0:Value)(v1:Value)(v2:Value)(v3:Value)(h0:oneB v0=true)(h1:oneB v1=true)(h2:oneB v2=true)(h3:oneB v3=true):Zj (Xc.cs x v0 v1 v2 v3)=true:=by simp only[Xc.cs,List.cons_append,List.nil_append,kb,Zj,Yx,Yw,Yy,cond_true,h0,h1,h2,h3]
def Uc (p0:Qj)(rec2:(Int)→Option (Xj × Bool))(a3:Int):Option (Xj × Bool):=(if Qc (a3*a3)<p0.Depth then(rec2 (Qc (a3+1))) else(some ((Xj.mk p0.Kind p0.Depth a3),true)))
def Bb (p0:Qj)(a1:Bool):Option (Xj × Bool):=(bif a1 then(some ((Xj.mk 0#8 0 0),false)) else(Qv (Uc p0) Xb 1))
def Ov (p0:Qj):Option (Xj × Bool):=(if p0.Kind<1#8 then(Bb p0 true) else(if 3#8<p0.Kind then(Bb p0 true) else(if p0.Depth<0 then(Bb p0 true) else(if(6:Int)<p0.Depth then(Bb p0 true) else(Bb p0 (decide (p0≠(Qj.mk p0.Kind p0.Depth 0 (Jb.mk 0#64 0#64 0#64)))))))))
def Tj (p0:Qj):Option (Int):=Option.bind (Ov p0) fun x1=>((bif (!x1.2) then(some 30) else(some 0)))
def Qh9 (p0:Int)(rec1:(Int)→Option (Int))(a2:Int):Option (Int):=(if Qc (a2*a2)<p0 then(rec1 (Qc (a2+1))) else(some a2))
def Qln (p0:Int):Option (Int):=(Qv (Qh9 p0) Xb 1)
def Qhh (p0:Int):Option (Int):=Option.bind (Jp p0) fun nn1=>((some (Qc ((Xw 1 nn1)+1))))
def Es (p0:Xc)(p1:Int):Option (Int):=(if p1=0 then(some 0) else(if p1=3 then(some 2) else(some 1)))
def Qll (p0:Int)(p1:Int):Option (Int × Int):=(some (p0,p1))
def Qh8 (p2:Int)(nn1:Nat)(rec1:(Int)→Option (List Int))(a3:Int):Option (List Int):=(if a3≤Ft p2 (Xw 1 nn1) then(yl a3 ((rec1 (Qc (a3+1))))) else(some []))
def Qlm (p1:Int)(p2:Int):Option (List Int):=Option.bind (Jp (Qc (p1-1))) fun nn1=>((Qv (Qh8 p2 nn1) Xb (Yf 0 (Qc (p2-(Xw 1 nn1))))))
def Qdi (p0:Xc)(p1:Int)(p2:Int):Option (List Int):=Option.bind (Jp p2) fun nn1=>(Option.bind (Qhh p2) fun x2=>((if p1=0 then Option.bind (La p0.rows.a0 (Qc ((Qc ((Xw 1 nn1)-1))+p2)) (Qc ((Qc ((Qc ((Xw 1 nn1)-1))+p2))+x2))) fun l3=>((some l3)) else(if p1=1 then Option.bind (La p0.rows.a1 (Qc ((Qc ((Xw 1 nn1)-1))+p2)) (Qc ((Qc ((Qc ((Xw 1 nn1)-1))+p2))+x2))) fun l4=>((some l4)) else(if p1=2 then Option.bind (La p0.rows.a2 (Qc ((Qc ((Xw 1 nn1)-1))+p2)) (Qc ((Qc ((Qc ((Xw 1 nn1)-1))+p2))+x2))) fun l5=>((some l5)) else(if p1=3 then Option.bind (La p0.rows.a3 (Qc ((Qc ((Xw 1 nn1)-1))+p2)) (Qc ((Qc ((Qc ((Xw 1 nn1)-1))+p2))+x2))) fun l6=>((some l6)) else none))))))
def Qhc (p1:Int)(a3:Bool):Option (Int):=(bif a3 then(some 3) else(if p1=0 then(some 2) else(some p1)))
def Qhb (p1:Int)(x1:Int)(a2:Bool):Option (Int):=(bif a2 then(some 1) else(if p1=2 then(Qhc p1 (decide (x1=0))) else(Qhc p1 false)))
def Qha (p0:Xc)(p1:Int)(p2:Int):Option (Int):=(if p0.s.Kind=2#8 then(some 1) else Option.bind (Re (Qc (p0.s.Depth-p2)) p0.stride) fun x1=>((if p1=0 then(Qhb p1 x1 (decide (x1=0))) else(Qhb p1 x1 false))))
def Qhf (p0:Xc)(p1:Int)(p2:Int)(p3:Int)(p4:Int)(x1:List Int)(a4:Bool):Option (Int):=(bif a4 then Option.bind (Xr x1 p4) fun y5=>(Option.bind (Xr x1 (Qc (p3-p4))) fun y6=>(Option.bind (Es p0 p1) fun x7=>((some (Qc ((Qc (y5+y6))+x7)))))) else Option.bind (Qha p0 p1 p2) fun x8=>(Option.bind (Qdi p0 x8 (Qc (p2-1))) fun x9=>(Option.bind (Xr x9 p3) fun y10=>((some y10)))))
def Qls (p0:Xc)(p1:Int)(p2:Int)(p3:Int)(p4:Int):Option (Int):=Option.bind (Qdi p0 0 (Qc (p2-1))) fun x1=>((if p0.s.Kind=1#8 then Option.bind (Xr x1 p4) fun y2=>(Option.bind (Xr x1 (Qc (p3-p4))) fun y3=>((some (Qc (y2+y3))))) else(if(0:Int)<p4 then(Qhf p0 p1 p2 p3 p4 x1 (decide (p4<p3))) else(Qhf p0 p1 p2 p3 p4 x1 false))))
def Qlp (p0:Int)(p1_p:Xc)(p2:Int)(p3:Int)(p4:Int):Option (Int):=Option.bind (Qls p1_p p2 p3 p4 p0) fun x1=>((some x1))
def Qgs (a5:Int)(a6:Int)(a7:Bool)(nx1:(Int × Int × Bool)→Option (Int × Int))(e8:Int)(x9:Int)(a10:Bool):Option (Int × Int):=(bif a10 then(nx1 (x9,e8,false)) else(nx1 (a5,a6,a7)))
def Qgr  (s:Int × Int × Bool):Option (Int × Int):=match s with|(a5,a6,a7)=>(some (a5,a6))
def Qgt (p1_0_p:Xc)(p1_1:Int)(p1_2:Int)(p1_3:Int)(e8:Int)(nx1:(Int × Int × Bool)→Option (Int × Int))(s:Int × Int × Bool):Option (Int × Int):=match s with|(a5,a6,a7)=>Option.bind (Qlp e8 p1_0_p p1_1 p1_2 p1_3) fun x9=>((bif a7 then(Qgs a5 a6 a7 nx1 e8 x9 true) else(Qgs a5 a6 a7 nx1 e8 x9 (decide (a5<x9)))))
def Qli (p0_0:Int)(p0_1:Int)(p1_0_p:Xc)(p1_1:Int)(p1_2:Int)(p1_3:Int):Option (Int × Int):=Option.bind (Qlm p0_0 p0_1) fun l1=>((Js (Qgt p1_0_p p1_1 p1_2 p1_3) Qgr l1 (0,0,true)))
def Er (p0:Xc)(p1:Int)(p2:Int)(p3:Int):Option (Int × Int):=Option.bind (Qll p2 p3) fun x1=>(Option.bind (Qli x1.1 x1.2 p0 p1 p2 p3) fun x2=>((some (x2.1,x2.2))))
def Qdg (p0:Qj)(y1:Int)(x2:Int)(a35:Int)(a56:Int)(a58:List Int)(a59:List Int)(a60:List Int)(nn65:Nat)(nn67:Nat)(a71:Int)(a72:List Int)(rec4:(Int × List Int)→Option (Xc))(a77:Bool):Option (Xc):=(bif a77 then Option.bind (Hn (Qc ((Qc ((Xw 1 nn65)-1))+a35)) nn67 a71) fun j78=>(Option.bind (Xr a72 j78) fun y79=>((rec4 (Qc (a71+1),a72.set j78.toNat 0)))) else(if a35=0 then Option.bind (Es (Xc.mk p0 x2 (Vn.mk a72 a58 a59 a60) y1) a56) fun x80=>(Option.bind (Hn (Qc ((Qc ((Xw 1 nn65)-1))+a35)) nn67 a71) fun j81=>(Option.bind (Xr a72 j81) fun y82=>((rec4 (Qc (a71+1),a72.set j81.toNat x80))))) else Option.bind (Er (Xc.mk p0 x2 (Vn.mk a72 a58 a59 a60) y1) a56 a35 a71) fun x83=>(Option.bind (Hn (Qc ((Qc ((Xw 1 nn65)-1))+a35)) nn67 a71) fun j84=>(Option.bind (Xr a72 j84) fun y85=>((rec4 (Qc (a71+1),a72.set j84.toNat x83.1)))))))
def Qgz (p0:Qj)(y1:Int)(x2:Int)(a35:Int)(a56:Int)(a58:List Int)(a59:List Int)(a60:List Int)(nn65:Nat)(nn67:Nat)(a71:Int)(a72:List Int)(rec4:(Int × List Int)→Option (Xc))(a74:Bool):Option (Xc):=(bif a74 then Option.bind (Hn (Qc ((Qc ((Xw 1 nn65)-1))+a35)) nn67 a71) fun j75=>(Option.bind (Xr a72 j75) fun y76=>((rec4 (Qc (a71+1),a72.set j75.toNat 1)))) else(if a71=0 then(Qdg p0 y1 x2 a35 a56 a58 a59 a60 nn65 nn67 a71 a72 rec4 true) else(if p0.Kind=1#8 then(Qdg p0 y1 x2 a35 a56 a58 a59 a60 nn65 nn67 a71 a72 rec4 (decide (a35=0))) else(Qdg p0 y1 x2 a35 a56 a58 a59 a60 nn65 nn67 a71 a72 rec4 false))))
def Qh6 (p0:Qj)(y1:Int)(x2:Int)(a35:Int)(a56:Int)(a58:List Int)(a59:List Int)(a60:List Int)(rec3:(Int × List Int × List Int × List Int × List Int)→Option (Xc))(nn65:Nat)(nn67:Nat)(rec4:(Int × List Int)→Option (Xc))(s4:Int × List Int):Option (Xc):=match s4 with|(a71,a72)=>(if a71<(nn67:Int) then(if p0.Kind=1#8 then(Qgz p0 y1 x2 a35 a56 a58 a59 a60 nn65 nn67 a71 a72 rec4 (decide (a71=0))) else(Qgz p0 y1 x2 a35 a56 a58 a59 a60 nn65 nn67 a71 a72 rec4 false)) else(rec3 (Qc (a56+1),a72,a58,a59,a60)))
def Qdh (p0:Qj)(y1:Int)(x2:Int)(a35:Int)(a56:Int)(a57:List Int)(a59:List Int)(a60:List Int)(nn65:Nat)(nn86:Nat)(a90:Int)(a91:List Int)(rec7:(Int × List Int)→Option (Xc))(a96:Bool):Option (Xc):=(bif a96 then Option.bind (Hn (Qc ((Qc ((Xw 1 nn65)-1))+a35)) nn86 a90) fun j97=>(Option.bind (Xr a91 j97) fun y98=>((rec7 (Qc (a90+1),a91.set j97.toNat 0)))) else(if a35=0 then Option.bind (Es (Xc.mk p0 x2 (Vn.mk a57 a91 a59 a60) y1) a56) fun x99=>(Option.bind (Hn (Qc ((Qc ((Xw 1 nn65)-1))+a35)) nn86 a90) fun j100=>(Option.bind (Xr a91 j100) fun y101=>((rec7 (Qc (a90+1),a91.set j100.toNat x99))))) else Option.bind (Er (Xc.mk p0 x2 (Vn.mk a57 a91 a59 a60) y1) a56 a35 a90) fun x102=>(Option.bind (Hn (Qc ((Qc ((Xw 1 nn65)-1))+a35)) nn86 a90) fun j103=>(Option.bind (Xr a91 j103) fun y104=>((rec7 (Qc (a90+1),a91.set j103.toNat x102.1)))))))
def Qh0 (p0:Qj)(y1:Int)(x2:Int)(a35:Int)(a56:Int)(a57:List Int)(a59:List Int)(a60:List Int)(nn65:Nat)(nn86:Nat)(a90:Int)(a91:List Int)(rec7:(Int × List Int)→Option (Xc))(a93:Bool):Option (Xc):=(bif a93 then Option.bind (Hn (Qc ((Qc ((Xw 1 nn65)-1))+a35)) nn86 a90) fun j94=>(Option.bind (Xr a91 j94) fun y95=>((rec7 (Qc (a90+1),a91.set j94.toNat 1)))) else(if a90=0 then(Qdh p0 y1 x2 a35 a56 a57 a59 a60 nn65 nn86 a90 a91 rec7 true) else(if p0.Kind=1#8 then(Qdh p0 y1 x2 a35 a56 a57 a59 a60 nn65 nn86 a90 a91 rec7 (decide (a35=0))) else(Qdh p0 y1 x2 a35 a56 a57 a59 a60 nn65 nn86 a90 a91 rec7 false))))
def Qh7 (p0:Qj)(y1:Int)(x2:Int)(a35:Int)(a56:Int)(a57:List Int)(a59:List Int)(a60:List Int)(rec3:(Int × List Int × List Int × List Int × List Int)→Option (Xc))(nn65:Nat)(nn86:Nat)(rec7:(Int × List Int)→Option (Xc))(s7:Int × List Int):Option (Xc):=match s7 with|(a90,a91)=>(if a90<(nn86:Int) then(if p0.Kind=1#8 then(Qh0 p0 y1 x2 a35 a56 a57 a59 a60 nn65 nn86 a90 a91 rec7 (decide (a90=0))) else(Qh0 p0 y1 x2 a35 a56 a57 a59 a60 nn65 nn86 a90 a91 rec7 false)) else(rec3 (Qc (a56+1),a57,a91,a59,a60)))
def Qde (p0:Qj)(y1:Int)(x2:Int)(a35:Int)(a56:Int)(a57:List Int)(a58:List Int)(a60:List Int)(nn65:Nat)(nn105:Nat)(a109:Int)(a110:List Int)(rec10:(Int × List Int)→Option (Xc))(a115:Bool):Option (Xc):=(bif a115 then Option.bind (Hn (Qc ((Qc ((Xw 1 nn65)-1))+a35)) nn105 a109) fun j116=>(Option.bind (Xr a110 j116) fun y117=>((rec10 (Qc (a109+1),a110.set j116.toNat 0)))) else(if a35=0 then Option.bind (Es (Xc.mk p0 x2 (Vn.mk a57 a58 a110 a60) y1) a56) fun x118=>(Option.bind (Hn (Qc ((Qc ((Xw 1 nn65)-1))+a35)) nn105 a109) fun j119=>(Option.bind (Xr a110 j119) fun y120=>((rec10 (Qc (a109+1),a110.set j119.toNat x118))))) else Option.bind (Er (Xc.mk p0 x2 (Vn.mk a57 a58 a110 a60) y1) a56 a35 a109) fun x121=>(Option.bind (Hn (Qc ((Qc ((Xw 1 nn65)-1))+a35)) nn105 a109) fun j122=>(Option.bind (Xr a110 j122) fun y123=>((rec10 (Qc (a109+1),a110.set j122.toNat x121.1)))))))
def Qgx (p0:Qj)(y1:Int)(x2:Int)(a35:Int)(a56:Int)(a57:List Int)(a58:List Int)(a60:List Int)(nn65:Nat)(nn105:Nat)(a109:Int)(a110:List Int)(rec10:(Int × List Int)→Option (Xc))(a112:Bool):Option (Xc):=(bif a112 then Option.bind (Hn (Qc ((Qc ((Xw 1 nn65)-1))+a35)) nn105 a109) fun j113=>(Option.bind (Xr a110 j113) fun y114=>((rec10 (Qc (a109+1),a110.set j113.toNat 1)))) else(if a109=0 then(Qde p0 y1 x2 a35 a56 a57 a58 a60 nn65 nn105 a109 a110 rec10 true) else(if p0.Kind=1#8 then(Qde p0 y1 x2 a35 a56 a57 a58 a60 nn65 nn105 a109 a110 rec10 (decide (a35=0))) else(Qde p0 y1 x2 a35 a56 a57 a58 a60 nn65 nn105 a109 a110 rec10 false))))
def Qh2 (p0:Qj)(y1:Int)(x2:Int)(a35:Int)(a56:Int)(a57:List Int)(a58:List Int)(a60:List Int)(rec3:(Int × List Int × List Int × List Int × List Int)→Option (Xc))(nn65:Nat)(nn105:Nat)(rec10:(Int × List Int)→Option (Xc))(s10:Int × List Int):Option (Xc):=match s10 with|(a109,a110)=>(if a109<(nn105:Int) then(if p0.Kind=1#8 then(Qgx p0 y1 x2 a35 a56 a57 a58 a60 nn65 nn105 a109 a110 rec10 (decide (a109=0))) else(Qgx p0 y1 x2 a35 a56 a57 a58 a60 nn65 nn105 a109 a110 rec10 false)) else(rec3 (Qc (a56+1),a57,a58,a110,a60)))
def Qdf (p0:Qj)(y1:Int)(x2:Int)(a35:Int)(a56:Int)(a57:List Int)(a58:List Int)(a59:List Int)(nn65:Nat)(nn124:Nat)(a128:Int)(a129:List Int)(rec13:(Int × List Int)→Option (Xc))(a134:Bool):Option (Xc):=(bif a134 then Option.bind (Hn (Qc ((Qc ((Xw 1 nn65)-1))+a35)) nn124 a128) fun j135=>(Option.bind (Xr a129 j135) fun y136=>((rec13 (Qc (a128+1),a129.set j135.toNat 0)))) else(if a35=0 then Option.bind (Es (Xc.mk p0 x2 (Vn.mk a57 a58 a59 a129) y1) a56) fun x137=>(Option.bind (Hn (Qc ((Qc ((Xw 1 nn65)-1))+a35)) nn124 a128) fun j138=>(Option.bind (Xr a129 j138) fun y139=>((rec13 (Qc (a128+1),a129.set j138.toNat x137))))) else Option.bind (Er (Xc.mk p0 x2 (Vn.mk a57 a58 a59 a129) y1) a56 a35 a128) fun x140=>(Option.bind (Hn (Qc ((Qc ((Xw 1 nn65)-1))+a35)) nn124 a128) fun j141=>(Option.bind (Xr a129 j141) fun y142=>((rec13 (Qc (a128+1),a129.set j141.toNat x140.1)))))))
def Qgy (p0:Qj)(y1:Int)(x2:Int)(a35:Int)(a56:Int)(a57:List Int)(a58:List Int)(a59:List Int)(nn65:Nat)(nn124:Nat)(a128:Int)(a129:List Int)(rec13:(Int × List Int)→Option (Xc))(a131:Bool):Option (Xc):=(bif a131 then Option.bind (Hn (Qc ((Qc ((Xw 1 nn65)-1))+a35)) nn124 a128) fun j132=>(Option.bind (Xr a129 j132) fun y133=>((rec13 (Qc (a128+1),a129.set j132.toNat 1)))) else(if a128=0 then(Qdf p0 y1 x2 a35 a56 a57 a58 a59 nn65 nn124 a128 a129 rec13 true) else(if p0.Kind=1#8 then(Qdf p0 y1 x2 a35 a56 a57 a58 a59 nn65 nn124 a128 a129 rec13 (decide (a35=0))) else(Qdf p0 y1 x2 a35 a56 a57 a58 a59 nn65 nn124 a128 a129 rec13 false))))
def Qh3 (p0:Qj)(y1:Int)(x2:Int)(a35:Int)(a56:Int)(a57:List Int)(a58:List Int)(a59:List Int)(rec3:(Int × List Int × List Int × List Int × List Int)→Option (Xc))(nn65:Nat)(nn124:Nat)(rec13:(Int × List Int)→Option (Xc))(s13:Int × List Int):Option (Xc):=match s13 with|(a128,a129)=>(if a128<(nn124:Int) then(if p0.Kind=1#8 then(Qgy p0 y1 x2 a35 a56 a57 a58 a59 nn65 nn124 a128 a129 rec13 (decide (a128=0))) else(Qgy p0 y1 x2 a35 a56 a57 a58 a59 nn65 nn124 a128 a129 rec13 false)) else(rec3 (Qc (a56+1),a57,a58,a59,a129)))
def Qh5 (p0:Qj)(y1:Int)(x2:Int)(a35:Int)(rec2:(Int × List Int × List Int × List Int × List Int)→Option (Xc))(rec3:(Int × List Int × List Int × List Int × List Int)→Option (Xc))(s3:Int × List Int × List Int × List Int × List Int):Option (Xc):=match s3 with|(a56,a57,a58,a59,a60)=>(if a56<y1 then Option.bind (Jp a35) fun nn65=>(Option.bind (Qhh a35) fun x66=>((if a56=0 then Option.bind (Cr a57 (Qc ((Qc ((Xw 1 nn65)-1))+a35)) (Qc ((Qc ((Qc ((Xw 1 nn65)-1))+a35))+x66))) fun nn67=>((Qv (Qh6 p0 y1 x2 a35 a56 a58 a59 a60 rec3 nn65 nn67) Xb (0,a57))) else(if a56=1 then Option.bind (Cr a58 (Qc ((Qc ((Xw 1 nn65)-1))+a35)) (Qc ((Qc ((Qc ((Xw 1 nn65)-1))+a35))+x66))) fun nn86=>((Qv (Qh7 p0 y1 x2 a35 a56 a57 a59 a60 rec3 nn65 nn86) Xb (0,a58))) else(if a56=2 then Option.bind (Cr a59 (Qc ((Qc ((Xw 1 nn65)-1))+a35)) (Qc ((Qc ((Qc ((Xw 1 nn65)-1))+a35))+x66))) fun nn105=>((Qv (Qh2 p0 y1 x2 a35 a56 a57 a58 a60 rec3 nn65 nn105) Xb (0,a59))) else(if a56=3 then Option.bind (Cr a60 (Qc ((Qc ((Xw 1 nn65)-1))+a35)) (Qc ((Qc ((Qc ((Xw 1 nn65)-1))+a35))+x66))) fun nn124=>((Qv (Qh3 p0 y1 x2 a35 a56 a57 a58 a59 rec3 nn65 nn124) Xb (0,a60))) else none)))))) else(rec2 (Qc (a35+1),a57,a58,a59,a60)))
def Qh4 (p0:Qj)(y1:Int)(x2:Int)(rec2:(Int × List Int × List Int × List Int × List Int)→Option (Xc))(s2:Int × List Int × List Int × List Int × List Int):Option (Xc):=match s2 with|(a35,a36,a37,a38,a39)=>(if a35<Qc (p0.Depth+1) then(Qv (Qh5 p0 y1 x2 a35 rec2) Xb (0,a36,a37,a38,a39)) else(some (Xc.mk p0 x2 (Vn.mk a36 a37 a38 a39) y1)))
def Qh1 (p0:Qj)(y1:Int)(x2:Int)(nn3:Nat)(rec1:(Int × List Int × List Int × List Int × List Int)→Option (Xc))(s1:Int × List Int × List Int × List Int × List Int):Option (Xc):=match s1 with|(a16,a17,a18,a19,a20)=>(if a16<y1 then Option.bind (mkL 8 (Qc ((Qc ((Qc ((Xw 1 nn3)-1))+p0.Depth))+1)) 0) fun l25=>((if a16=0 then(rec1 (Qc (a16+1),l25,a18,a19,a20)) else(if a16=1 then(rec1 (Qc (a16+1),a17,l25,a19,a20)) else(if a16=2 then(rec1 (Qc (a16+1),a17,a18,l25,a20)) else(if a16=3 then(rec1 (Qc (a16+1),a17,a18,a19,l25)) else none))))) else(Qv (Qh4 p0 y1 x2) Xb (0,a17,a18,a19,a20)))
def Yb (p0:Qj):Option (Xc):=Option.bind (Xr ([0,1,2,4]:List Int) (Qs p0.Kind)) fun y1=>(Option.bind (Qln p0.Depth) fun x2=>(Option.bind (Jp (Qc (p0.Depth+1))) fun nn3=>((Qv (Qh1 p0 y1 x2 nn3) Xb (0,[],[],[],[])))))
end Go.Sx

end
section
set_option linter.unusedVariables false
set_option maxRecDepth 100000
namespace Go.Sx
open Go Go.RowKit
def Qlu (p0:Int):Option (Int):=(some p0)
def Qhg (p1:Int)(rec1:(Int)→Option (List Int))(a2:Int):Option (List Int):=(if a2≤p1 then(yl a2 ((rec1 (Qc (a2+1))))) else(some []))
def Qlv (p1:Int):Option (List Int):=(Qv (Qhg p1) Xb 0)
def Qlq (p0:Xc)(p1:Int):Option (Int):=(if p1=0 then(some 1) else Option.bind (Qdi p0 0 p0.s.Depth) fun x1=>(Option.bind (Xr x1 p1) fun y2=>((some y2))))
def Qgv (a5:Int)(a6:Int)(a7:Bool)(nx1:(Int × Int × Bool)→Option (Int × Int))(e8:Int)(x9:Int)(a10:Bool):Option (Int × Int):=(bif a10 then(nx1 (x9,e8,false)) else(nx1 (a5,a6,a7)))
def Qgu  (s:Int × Int × Bool):Option (Int × Int):=match s with|(a5,a6,a7)=>(some (a5,a6))
def Qgw (p1_0:Xc)(e8:Int)(nx1:(Int × Int × Bool)→Option (Int × Int))(s:Int × Int × Bool):Option (Int × Int):=match s with|(a5,a6,a7)=>Option.bind (Qlq p1_0 e8) fun x9=>((bif a7 then(Qgv a5 a6 a7 nx1 e8 x9 true) else(Qgv a5 a6 a7 nx1 e8 x9 (decide (a5<x9)))))
def Qlj (p0_0:Int)(p1_0:Xc):Option (Int × Int):=Option.bind (Qlv p0_0) fun l1=>((Js (Qgw p1_0) Qgu l1 (0,0,true)))
def Et (p0:Xc)(p1:Int):Option (Int × Int):=Option.bind (Qlu p1) fun x1=>(Option.bind (Qlj x1 p0) fun x2=>((some (x2.1,x2.2))))
def Qgq (p0:Qj)(p1:Int)(a2:Bool):Option (Int × Int):=(bif a2 then(some (0,2)) else Option.bind (Yb p0) fun x3=>(Option.bind (Et x3 p1) fun x4=>((some (x4.1,0)))))
def Qlh (p0:Qj)(p1:Int):Option (Int × Int):=Option.bind (Tj p0) fun x1=>((if x1≠0 then(if x1≠0 then(some (0,x1)) else none) else(if p1<0 then(Qgq p0 p1 true) else Option.bind (Jp p0.Depth) fun nn5=>((Qgq p0 p1 (decide (Xw 1 nn5<p1)))))))
def Qhe (p0:Xc)(p1:List Int)(p2:Int)(p4:Int)(p5:Int)(rec0:(Xc × List Int × Int × Int × Int × Int)→Option (List Int))(x3:Int × Int)(a4:Int):Option (List Int):=Option.bind (rec0 (p0,p1,Qc (2*p2),a4,Qc (p4-1),x3.2)) fun x5=>(Option.bind (rec0 (p0,x5,Qc ((Qc (2*p2))+1),a4,Qc (p4-1),Qc (p5-x3.2))) fun x6=>((some x6)))
def Qdl (p0:Xc)(p1:List Int)(p2:Int)(p3:Int)(p4:Int)(p5:Int)(rec0:(Xc × List Int × Int × Int × Int × Int)→Option (List Int))(x3:Int × Int)(a7:Bool):Option (List Int):=(bif a7 then Option.bind (Qha p0 p3 p4) fun x8=>((Qhe p0 p1 p2 p4 p5 rec0 x3 x8)) else(Qhe p0 p1 p2 p4 p5 rec0 x3 0))
def Qlr (rec0:((Xc × List Int × Int × Int × Int × Int)→Option (List Int)))(p0:Xc)(p1:List Int)(p2:Int)(p3:Int)(p4:Int)(p5:Int):Option (List Int):=(if p5=0 then(some p1) else(if p4=0 then Option.bind (Jp p0.s.Depth) fun nn1=>(Option.bind (Vy 8 p1 [Qc (p2-(Xw 1 nn1))]) fun l2=>((some l2))) else Option.bind (Er p0 p3 p4 p5) fun x3=>((if p0.s.Kind≠1#8 then(if x3.2=0 then(Qdl p0 p1 p2 p3 p4 p5 rec0 x3 true) else(Qdl p0 p1 p2 p3 p4 p5 rec0 x3 (decide (x3.2=p5)))) else(Qdl p0 p1 p2 p3 p4 p5 rec0 x3 false)))))
def Qhd (rec0:((Xc × List Int × Int × Int × Int × Int)→Option (List Int)))(s:Xc × List Int × Int × Int × Int × Int):Option (List Int):=match s with|(p0,p1,p2,p3,p4,p5)=>Qlr rec0 p0 p1 p2 p3 p4 p5
def Qdk (p0:Xc)(p1:List Int)(p2:Int)(p3:Int)(p4:Int)(p5:Int):Option (List Int):=Qv Qhd Xb (p0,p1,p2,p3,p4,p5)
def Qgp (p0:Qj)(p1:Int)(a2:Bool):Option (List Int × Int):=(bif a2 then(some ([],2)) else Option.bind (Yb p0) fun x3=>(Option.bind (Et x3 p1) fun x4=>(Option.bind (Qdk x3 ([]:List Int) 1 0 p0.Depth x4.2) fun x5=>((some (x5,0))))))
def Qgo (p0:Qj)(p1:Int):Option (List Int × Int):=Option.bind (Tj p0) fun x1=>((if x1≠0 then(if x1≠0 then(some ([],x1)) else none) else(if p1<0 then(Qgp p0 p1 true) else Option.bind (Jp p0.Depth) fun nn6=>((Qgp p0 p1 (decide (Xw 1 nn6<p1)))))))
end Go.Sx

end
section
set_option linter.unusedVariables false
set_option maxRecDepth 100000
namespace Go.Sx
open Go Go.RowKit
structure Zs where
 Depth:Int
 Revoked:Int
 Storage:Int
 Headers:Int
 HeaderPrice:Int
 StoragePrice:Int
 Group:Jb
deriving DecidableEq,Inhabited
def Zs.cs (x:Zs)  : List Value:=[.int .i64 x.Depth,.int .i64 x.Revoked,.int .i64 x.Storage,.int .i64 x.Headers,.int .i64 x.HeaderPrice,.int .i64 x.StoragePrice,wv x.Group.P,wv x.Group.Q,wv x.Group.G]
theorem Zs.cs_ones (x:Zs)   : Zj (Zs.cs x )=true:=by simp only[Zs.cs,List.cons_append,List.nil_append,kb,Zj,Yx,Yw,Yy,cond_true]
theorem Zs.cs_inj {x y:Zs}(h:Zs.cs x=Zs.cs y):x=y:=by
 have h0:x.Depth=y.Depth:=Yd (congrArg (fun l=>l[0]?) h)
 have h1:x.Revoked=y.Revoked:=Yd (congrArg (fun l=>l[1]?) h)
 have h2:x.Storage=y.Storage:=Yd (congrArg (fun l=>l[2]?) h)
 have h3:x.Headers=y.Headers:=Yd (congrArg (fun l=>l[3]?) h)
 have h4:x.HeaderPrice=y.HeaderPrice:=Yd (congrArg (fun l=>l[4]?) h)
 have h5:x.StoragePrice=y.StoragePrice:=Yd (congrArg (fun l=>l[5]?) h)
 have h6:x.Group=y.Group:=Jb.cs_inj (congrArg (fun l=>(l.drop 6).take 3) h)
 cases x;cases y;simp only at *;subst h0;subst h1;subst h2;subst h3;subst h4;subst h5;subst h6;rfl
theorem Zs.ws (l:List Zs):Ws 9 (l.map Zs.cs):=Pb l (fun _=>rfl) (fun _=>rfl)
structure Xs where
 Kind:BitVec 8
 Fits:Bool
 Items:Int
 Points:Int
 Header:Int
 Storage:Int
 Cost:Int
 Witness:List Int
deriving DecidableEq,Inhabited
def Xs.cs (x:Xs)(v0:Value):List Value:=[bv x.Kind,.bool x.Fits,.int .i64 x.Items,.int .i64 x.Points,.int .i64 x.Header,.int .i64 x.Storage,.int .i64 x.Cost,v0]
theorem Xs.cs_ones (x:Xs)(v0:Value)(h0:oneB v0=true):Zj (Xs.cs x v0)=true:=by simp only[Xs.cs,List.cons_append,List.nil_append,kb,Zj,Yx,Yw,Yy,cond_true,h0]
structure Vf where
 Choices:List Xs
 Best:BitVec 8
deriving DecidableEq,Inhabited
def Vf.cs (x:Vf)(v0:Value):List Value:=[v0,bv x.Best]
theorem Vf.cs_ones (x:Vf)(v0:Value)(h0:oneB v0=true):Zj (Vf.cs x v0)=true:=by simp only[Vf.cs,List.cons_append,List.nil_append,kb,Zj,Yx,Yw,Yy,cond_true,h0]
def Qhi (p0:Int)(p1:Int):Option (Bool):=(if p0<0 then(some true) else(some (decide (p1<p0))))
def Qbj (p0:List Int)(p1_0:Int)(rec1:(Int)→Option (Int))(a2:Int):Option (Int):=(if a2<(p0.length:Int) then Option.bind (Xr p0 a2) fun y3=>(Option.bind (Qhi y3 p1_0) fun x4=>((bif x4 then(some a2) else(rec1 (Qc (a2+1)))))) else(some (-1)))
def Qi9 (p0:List Int)(p1_0:Int):Option (Int):=(Qv (Qbj p0 p1_0) Xb 0)
def Qi8 (p0:List Int)(p1_0:Int):Option (Bool):=Option.bind (Qi9 p0 p1_0) fun x1=>((some (decide ((0:Int)≤x1))))
def Ce (p0:Int)(p1:List Int):Option (Bool):=Option.bind (Qi8 p1 p0) fun x1=>((some (!x1)))
def Eo (a1:Bool):Option (Int):=(bif a1 then(some 2) else(some 0))
def Qdb (p0:Zs):Option (Int):=Option.bind (Ce 6 [p0.Depth]) fun x2=>((bif (!x2) then(Eo true) else Option.bind (Jp p0.Depth) fun nn3=>(Option.bind (Ce (Xw 1 nn3) [p0.Revoked]) fun x4=>((bif (!x4) then(Eo true) else Option.bind (Ce 10000 [p0.Storage]) fun x5=>((bif (!x5) then(Eo true) else Option.bind (Ce 1000 [p0.Headers,p0.HeaderPrice,p0.StoragePrice]) fun x6=>((Eo (!x6))))))))))
def Qd8 (p0:BitVec 64)(rec2:(BitVec 64)→Option (Bool))(a3:BitVec 64):Option (Bool):=(if a3*a3≤p0 then Option.bind (Yc p0 a3) fun x4=>((if x4=0#64 then(some false) else(rec2 (a3+1#64)))) else(some true))
def Qd7 (p0:BitVec 64)(a1:Bool):Option (Bool):=(bif a1 then(some false) else(Qv (Qd8 p0) Xb 2#64))
def Qaz (p0:BitVec 64):Option (Bool):=(if p0<2#64 then(Qd7 p0 true) else(Qd7 p0 (decide (1048575#64<p0))))
def Ei (p2:BitVec 64)(rec1:(BitVec 64 × BitVec 64 × BitVec 64)→Option (BitVec 64))(s1:BitVec 64 × BitVec 64 × BitVec 64):Option (BitVec 64):=match s1 with|(a6,a7,a8)=>(if 0#64<a7 then(if a7 &&& 1#64=1#64 then Option.bind (Yc (a8*a6) p2) fun x9=>(Option.bind (Yc (a6*a6) p2) fun x10=>(Option.bind (Jp (un 1#64)) fun nn11=>((rec1 (x10,a7 >>> nn11,x9))))) else Option.bind (Yc (a6*a6) p2) fun x12=>(Option.bind (Jp (un 1#64)) fun nn13=>((rec1 (x12,a7 >>> nn13,a8))))) else(some a8))
def Qay (p0:BitVec 64)(p1:BitVec 64)(p2:BitVec 64):Option (BitVec 64):=Option.bind (Yc 1#64 p2) fun x1=>(Option.bind (Yc p0 p2) fun x2=>((Qv (Ei p2) Xb (x2,p1,x1))))
def Lr (a1:Bool):Option (Int):=(bif a1 then(some 13) else(some 0))
def Eh (p0:Jb):Option (Int):=Option.bind (Qaz p0.P) fun x2=>((bif (!x2) then(Lr true) else Option.bind (Qaz p0.Q) fun x3=>((bif (!x3) then(Lr true) else Option.bind (Yc (p0.P-1#64) p0.Q) fun x4=>((if x4≠0#64 then(Lr true) else(if p0.G<2#64 then(Lr true) else(if p0.P≤p0.G then(Lr true) else Option.bind (Qay p0.G p0.Q p0.P) fun x5=>((Lr (decide (x5≠1#64))))))))))))
def Hi (p0:Qj):Option (Bool):=(if p0.Kind=4#8 then(if(0:Int)≤p0.Depth then(if p0.Depth≤6 then(if(1:Int)≤p0.Degree then(if p0.Degree≤8 then Option.bind (Eh p0.Group) fun x1=>((if x1=0 then Option.bind (Jp p0.Depth) fun nn2=>((some (decide (wd (Qc ((Xw 1 nn2)+p0.Degree))<p0.Group.Q)))) else(some false))) else(some false)) else(some false)) else(some false)) else(some false)) else(some false))
def Tp (p0:Qj):Option (Int):=Option.bind (Hi p0) fun x1=>((bif (!x1) then(some 30) else(some 0)))
def Ug (p0:Xj):Option (Int):=Option.bind (Jp p0.depth) fun nn1=>((some (Xw 1 nn1)))
def Ow (p0:Xj)(p1:Int):Option (Bool):=(if(1:Int)≤p1 then Option.bind (Ug p0) fun x1=>((some (decide (p1<Qc (2*x1))))) else(some false))
def Ni (p0:Int):Option (Int):=(some (Qc ((lg (un (wd p0)))-1)))
def Ot (p0:Int)(p1:Int)(a1:Bool):Option (Bool):=(bif a1 then(some false) else Option.bind (Ni p0) fun x2=>(Option.bind (Ni p1) fun x3=>(Option.bind (Jp (Qc (x2-x3))) fun nn4=>((some (decide (Rh p0 nn4=p1)))))))
def Oq (p0:Int)(p1:Int):Option (Bool):=(if p0<1 then(Ot p0 p1 true) else(if p1<1 then(Ot p0 p1 true) else Option.bind (Ni p0) fun x5=>(Option.bind (Ni p1) fun x6=>((Ot p0 p1 (decide (x5<x6)))))))
def Li (p0:Xj)(p1:Int):Option (Bool):=Option.bind (Ni p1) fun x1=>(Option.bind (Re x1 p0.stride) fun x2=>((some (decide (x2=0)))))
def Ua (p0:Int)(p1:Int):Option (Int × Int):=(some (p0,p1))
def Ba (p0:Int)(p1:Int):Option (Int):=Option.bind (Ni p1) fun x1=>(Option.bind (Ni p0) fun x2=>(Option.bind (Jp (Qc ((Qc (x1-x2))-1))) fun nn3=>((some (Rh p1 nn3)))))
def Ub (p2:Int)(rec1:(Int)→Option (List Int))(a2:Int):Option (List Int):=(if a2≠p2 then Option.bind (Ba a2 p2) fun x3=>((yl x3 ((rec1 x3)))) else(some []))
def Ou (p1:Int)(p2:Int):Option (List Int):=(Qv (Ub p2) Xb p1)
def Qcj  (s:Int):Option (Int):=match s with|a3=>(some 0)
def Qjd  (s:Int):Option (Int):=match s with|a3=>(some a3)
def Oo (p1_0:Xj)(e4:Int)(nx1:(Int)→Option (Int))(s:Int):Option (Int):=match s with|a3=>Option.bind (Li p1_0 e4) fun x5=>((bif x5 then(Qjd e4) else(nx1 a3)))
def Qet (p0_0:Int)(p0_1:Int)(p1_0:Xj):Option (Int):=Option.bind (Ou p0_0 p0_1) fun l1=>((Js (Oo p1_0) Qcj l1 0))
def Sl (p0:Xj)(p1:Int)(p2:Int):Option (Int):=Option.bind (Jp (un 1#64)) fun nn1=>(Option.bind (Ua p1 (Rh p2 nn1)) fun x2=>(Option.bind (Qet x2.1 x2.2 p0) fun x3=>((some x3))))
def Uh (p0:Xj)(p1:Qx)(a3:Bool):Option (Bool):=(bif a3 then(some false) else(if p0.kind=2#8 then(some true) else Option.bind (Li p0 p1.Node) fun x4=>((bif x4 then(some true) else Option.bind (Sl p0 p1.Node p1.Minus) fun x5=>((some (decide (x5=0))))))))
def Qa0 (p0:Xj)(p1:Qx)(a2:Bool):Option (Bool):=(bif a2 then(if p1.Minus=0 then(if p0.kind=1#8 then(some true) else(some (decide (p1.Node=1)))) else(some false)) else Option.bind (Ow p0 p1.Minus) fun x6=>((bif (!x6) then(Uh p0 p1 true) else(if p1.Minus=p1.Node then(Uh p0 p1 true) else Option.bind (Oq p1.Minus p1.Node) fun x7=>((Uh p0 p1 (!x7)))))))
def Lj (p0:Xj)(p1:Qx):Option (Bool):=Option.bind (Ow p0 p1.Node) fun x1=>((bif (!x1) then(some false) else(if p0.kind=1#8 then(Qa0 p0 p1 true) else(Qa0 p0 p1 (decide (p1.Minus=0))))))
def Rx (p1:List Qx)(x1:Xj × Bool)(rec1:(Int)→Option (Xj × Int))(a3:Int):Option (Xj × Int):=(if a3<(p1.length:Int) then Option.bind (Xr p1 a3) fun y4=>(Option.bind (Lj x1.1 y4) fun x5=>((bif (!x5) then(some ((Xj.mk 0#8 0 0),31)) else(rec1 (Qc (a3+1)))))) else(some (x1.1,0)))
def Dw (p0:Qj)(p1:List Qx):Option (Xj × Int):=Option.bind (Ov p0) fun x1=>((bif (!x1.2) then(some ((Xj.mk 0#8 0 0),30)) else(Qv (Rx p1 x1) Xb 0)))
def Qck (p0:Xj)(p1:Int):Option (Xj × Int):=(some (p0,p1))
def Ud (p0:Xj)(p1:Int):Option (Int):=Option.bind (Ug p0) fun x1=>((some (Qc (x1+p1))))
def Rz (p0:Int):Option (Int):=(some (Ii .xor p0 1))
def Qex (x1:Int)(a2:Int)(rec1:(Int)→Option (List (Int × Int)))(s:Unit):Option (List (Int × Int)):=Option.bind (Ba a2 x1) fun x10=>((rec1 x10))
def Qez (p1:Xj)(a2:Int)(e7:Int)(nx2:Unit→Option (List (Int × Int)))(s:Unit):Option (List (Int × Int)):=Option.bind (Rz e7) fun x8=>(Option.bind (Lj p1 (Qx.mk a2 x8)) fun x9=>((bif x9 then(yl (a2,x8) ((nx2 ()))) else(nx2 ()))))
def Qey (p1:Xj)(x1:Int)(rec1:(Int)→Option (List (Int × Int)))(a2:Int):Option (List (Int × Int)):=(if a2≠x1 then(if p1.kind=1#8 then Option.bind (Ba a2 x1) fun x3=>((yl (x3,0) (Option.bind (Ba a2 x1) fun x4=>((rec1 x4))))) else Option.bind (Ua a2 x1) fun x5=>(Option.bind (Ou x5.1 x5.2) fun l6=>((Js (Qez p1 a2) (Qex x1 a2 rec1) l6 ())))) else(some []))
def Ox (p1:Xj)(p2:Int):Option (List (Int × Int)):=Option.bind (Ud p1 p2) fun x1=>((yl (1,0) ((Qv (Qey p1 x1) Xb 1))))
def Qeq  (s:Int):Option (Int × Int):=match s with|a5=>(some (a5,0))
def Qer  (ee:Int × Int)(nx1:(Int)→Option (Int × Int))(s:Int):Option (Int × Int):=match ee with|(e6,e7)=>match s with|a5=>(nx1 (Qc (a5+1)))
def Qcg (p0:Qj):Option (Int × Int):=Option.bind (Dw p0 ([]:List Qx)) fun x1=>((if x1.2≠0 then(some (0,x1.2)) else Option.bind (Qck x1.1 0) fun x2=>(Option.bind (Ox x2.1 x2.2) fun l3=>((Js Qer Qeq l3 0)))))
def Qb2 (p0:Zs)(p1:BitVec 8)(a2:Int)(a3:Int)(a4:Int)(a5:List Int):Option (Xs × Int):=Option.bind (Jp p0.Depth) fun nn7=>((some ((Xs.mk p1 (decide (a4≤p0.Storage)) a2 a3 (Qc ((Qc (67+(Qc (18*a2))))+(Qc (16*a3)))) a4 (Qc ((Qc ((Qc (p0.Headers*p0.HeaderPrice))*(Qc ((Qc (67+(Qc (18*a2))))+(Qc (16*a3))))))+(Xw (Qc (p0.StoragePrice*a4)) nn7))) a5),0)))
def Qdc (p0:Zs)(p1:BitVec 8)(a8:Bool):Option (Xs × Int):=(bif a8 then(some ((Xs.mk 0#8 false 0 0 0 0 0 []),2)) else(if p1=4#8 then Option.bind (Tp (Qj.mk p1 p0.Depth (Yf p0.Revoked 1) p0.Group)) fun x9=>((if x9≠0 then(some ((Xs.mk p1 false 0 0 0 0 0 []),0)) else(Qb2 p0 p1 0 (Yf p0.Revoked 1) 8 []))) else Option.bind (Yb (Qj.mk p1 p0.Depth 0 (Jb.mk 0#64 0#64 0#64))) fun x10=>(Option.bind (Qcg (Qj.mk p1 p0.Depth 0 (Jb.mk 0#64 0#64 0#64))) fun x11=>(Option.bind (Et x10 p0.Revoked) fun x12=>(Option.bind (Qdk x10 ([]:List Int) 1 0 p0.Depth x12.2) fun x13=>((Qb2 p0 p1 x12.1 0 (Qc (16*x11.1)) x13)))))))
def Nu (p0:Zs)(p1:BitVec 8):Option (Xs × Int):=Option.bind (Qdb p0) fun x1=>((if x1≠0 then(some ((Xs.mk 0#8 false 0 0 0 0 0 []),x1)) else(if p1<1#8 then(Qdc p0 p1 true) else(Qdc p0 p1 (decide (4#8<p1))))))
def Qdd (a5:BitVec 8)(a7:BitVec 8)(rec1:(BitVec 8 × List Xs × BitVec 8)→Option (Vf × Int))(l10:List Xs)(a11:Bool):Option (Vf × Int):=(bif a11 then(rec1 (a5+1#8,l10,a5)) else(rec1 (a5+1#8,l10,a7)))
def Qgn (p0:Zs)(rec1:(BitVec 8 × List Xs × BitVec 8)→Option (Vf × Int))(s1:BitVec 8 × List Xs × BitVec 8):Option (Vf × Int):=match s1 with|(a5,a6,a7)=>(if a5≤4#8 then Option.bind (Nu p0 a5) fun x9=>((if x9.2≠0 then(some ((Vf.mk [] 0#8),x9.2)) else Option.bind (Vy 72 a6 [x9.1]) fun l10=>((bif x9.1.Fits then(if a7=0#8 then(Qdd a5 a7 rec1 l10 true) else Option.bind (Xr l10 (Qs (a7-1#8))) fun y12=>((Qdd a5 a7 rec1 l10 (decide (x9.1.Cost<y12.Cost))))) else(Qdd a5 a7 rec1 l10 false))))) else(some ((Vf.mk a6 a7),0)))
def Qlg (p0:Zs):Option (Vf × Int):=(Qv (Qgn p0) Xb (1#8,[],0#8))
end Go.Sx

end
section
set_option linter.unusedVariables false
set_option maxRecDepth 100000
namespace Go.Sx
open Go Go.RowKit
def Qhv (p0:List Int)(p1:List Int)(rec1:(Int)→Option (Bool))(a2:Int):Option (Bool):=(if a2<(p0.length:Int) then Option.bind (Xr p0 a2) fun y3=>(Option.bind (Xr p1 a2) fun y4=>((if y3≠y4 then(some false) else(rec1 (Qc (a2+1)))))) else(some true))
def Qdt (p0:List Int)(p1:List Int):Option (Bool):=(if(p0.length:Int)≠(p1.length:Int) then(some false) else(Qv (Qhv p0 p1) Xb 0))
def Qmw (p0:Xs)(p1:Xs):Option (Bool):=(if p0.Kind=p1.Kind then(bif (p0.Fits == p1.Fits) then(if p0.Items=p1.Items then(if p0.Points=p1.Points then(if p0.Header=p1.Header then(if p0.Storage=p1.Storage then(some (decide (p0.Cost=p1.Cost))) else(some false)) else(some false)) else(some false)) else(some false)) else(some false)) else(some false))
def Qmv (p0:Xs)(p1:Xs):Option (Bool):=Option.bind (Qmw p0 p1) fun x1=>((bif x1 then Option.bind (Qdt p0.Witness p1.Witness) fun x2=>((some x2)) else(some false)))
end Go.Sx

end
section
set_option linter.unusedVariables false
set_option maxRecDepth 100000
namespace Go.Sx
open Go Go.RowKit
def Qaq (p0:BitVec 8)(p1:Int):Option (Qj):=(some (Qj.mk p0 p1 0 (Jb.mk 0#64 0#64 0#64)))
def Qg7  : Option (Zs):=(some (Zs.mk 2 1 48 10 1 2 (Jb.mk 0#64 0#64 0#64)))
def Qga (a2:Int)(rec1:(Int)→Option (Bool))(a4:Bool):Option (Bool):=(bif a4 then(some false) else(rec1 (Qc (a2+1))))
def Qgb (p0:Qj)(p1:List Int)(rec1:(Int)→Option (Bool))(a2:Int):Option (Bool):=(if a2<(p1.length:Int) then Option.bind (Qlh p0 a2) fun x3=>((if x3.2≠0 then(Qga a2 rec1 true) else Option.bind (Xr p1 a2) fun y5=>((Qga a2 rec1 (decide (x3.1≠y5)))))) else(some true))
def Qg9 (p0:Qj)(p1:List Int):Option (Bool):=(Qv (Qgb p0 p1) Xb 0)
def Bv (x6:Xs × Int)(x8:Vf × Int)(a9:Bool):Option (Bool):=(bif a9 then(some false) else Option.bind (Qaq 1#8 2) fun x10=>(Option.bind (Qg9 x10 [1,2,2,2,2]) fun x11=>((bif x11 then Option.bind (Qaq 2#8 2) fun x12=>(Option.bind (Qg9 x12 [1,1,2,2,2]) fun x13=>((bif x13 then Option.bind (Qmv x6.1 (Xs.mk 1#8 true 2 0 103 48 1414 [3])) fun x14=>((bif x14 then(if x8.1.Best=1#8 then(some (decide ((x8.1.Choices.length:Int)=4))) else(some false)) else(some false))) else(some false)))) else(some false)))))
def Qg6  : Option (Bool):=Option.bind (Qaq 1#8 2) fun x1=>(Option.bind (Qgo x1 2) fun x2=>(Option.bind (Qaq 2#8 2) fun x3=>(Option.bind (Qgo x3 2) fun x4=>(Option.bind (Qg7) fun x5=>(Option.bind (Nu x5 1#8) fun x6=>(Option.bind (Qg7) fun x7=>(Option.bind (Qlg x7) fun x8=>((if x2.2≠0 then(Bv x6 x8 true) else(if x4.2≠0 then(Bv x6 x8 true) else(if x6.2≠0 then(Bv x6 x8 true) else(if x8.2≠0 then(Bv x6 x8 true) else Option.bind (Qdt x2.1 [3]) fun x15=>((bif (!x15) then(Bv x6 x8 true) else Option.bind (Qdt x4.1 [1,3]) fun x16=>((Bv x6 x8 (!x16)))))))))))))))))
end Go.Sx

end
section
set_option linter.unusedVariables false
set_option maxRecDepth 100000
namespace Go.Sx
open Go Go.RowKit
noncomputable section
def Uf (p0:Xj)(p1:Int):Option (Bool):=(if(0:Int)≤p1 then Option.bind (Ug p0) fun x1=>((some (decide (p1<x1)))) else(some false))
def Oz (a2:Int)(rec1:(Int)→Option (Bool))(a4:Bool):Option (Bool):=(bif a4 then(some false) else(rec1 (Qc (a2+1))))
def Ue (p0:Xj)(p1:List Int)(rec1:(Int)→Option (Bool))(a2:Int):Option (Bool):=(if a2<(p1.length:Int) then Option.bind (Xr p1 a2) fun y3=>(Option.bind (Uf p0 y3) fun x5=>((bif (!x5) then(Oz a2 rec1 true) else(if(0:Int)<a2 then Option.bind (Xr p1 (Qc (a2-1))) fun y6=>((Oz a2 rec1 (decide (y3≤y6)))) else(Oz a2 rec1 false))))) else(some true))
def Oy (p0:Xj)(p1:List Int):Option (Bool):=(Qv (Ue p0 p1) Xb 0)
def Ms (p0:Int)(p1:Int)(p2:List Qx):Option (List Qx):=Option.bind (Vy 16 p2 [(Qx.mk p0 p1)]) fun l1=>((some l1))
def Mv (a5:Int)(rec1:(Int × List Int)→Option (List Qx × Int))(rec2:(Int × List Int)→Option (List Qx × Int))(s2:Int × List Int):Option (List Qx × Int):=match s2 with|(a11,a12)=>(if(0:Int)<a11 then Option.bind (Jp (un 1#64)) fun nn13=>((rec2 (Rh a11 nn13,Dz a12 a11))) else(rec1 (Qc (a5+1),a12)))
def Od (a16:List Qx)(nx3:(List Qx)→Option (List Qx × Int))(k18:Int)(a20:Bool):Option (List Qx × Int):=(bif a20 then Option.bind (Rz k18) fun x21=>(Option.bind (Ms x21 0 a16) fun x22=>((nx3 x22))) else(nx3 a16))
def Oe (nx3:(List Qx)→Option (List Qx × Int))(a26:Int)(a27:Int)(a28:List Qx):Option (List Qx × Int):=Option.bind (Ms a27 a26 a28) fun x30=>((nx3 x30))
def Gk (a16:List Qx)(nx3:(List Qx)→Option (List Qx × Int))(k18:Int)(a26:Int)(x31:Int)(a32:Bool):Option (List Qx × Int):=(bif a32 then Option.bind (Ms k18 x31 a16) fun x33=>((Oe nx3 a26 x31 x33)) else(Oe nx3 a26 k18 a16))
def Sk (x1:Xj × Int)(a6:List Int)(a16:List Qx)(nx3:(List Qx)→Option (List Qx × Int))(k18:Int)(rec6:(Int)→Option (List Qx × Int))(a26:Int):Option (List Qx × Int):=(bif ((decide ((Qc (2*a26))∈a6)) != (decide ((Qc ((Qc (2*a26))+1))∈a6))) then(if ¬ ((Qc (a26*2))∈a6) then(rec6 (Qc ((Qc (a26*2))+1))) else(rec6 (Qc (a26*2)))) else(if a26=k18 then(nx3 a16) else Option.bind (Sl x1.1 k18 a26) fun x31=>((if x31≠0 then(if x1.1.kind=3#8 then Option.bind (Li x1.1 k18) fun x34=>((Gk a16 nx3 k18 a26 x31 (!x34))) else(Gk a16 nx3 k18 a26 x31 false)) else(Gk a16 nx3 k18 a26 x31 false)))))
def Rv (x1:Xj × Int)(a6:List Int)(a16:List Qx)(nx3:(List Qx)→Option (List Qx × Int))(k18:Int)(a24:Bool):Option (List Qx × Int):=(bif a24 then(nx3 a16) else(Qv (Sk x1 a6 a16 nx3 k18) Xb k18))
def Mt  (a16:List Qx):Option (List Qx × Int):=Option.bind (Ak Qx.Node a16) fun l19=>((some (l19,0)))
def Rw (x1:Xj × Int)(a6:List Int)(k18:Int)(nx3:(List Qx)→Option (List Qx × Int))(a16:List Qx):Option (List Qx × Int):=(if x1.1.kind=1#8 then(if(1:Int)<k18 then Option.bind (Rz k18) fun x23=>((Od a16 nx3 k18 (decide (¬ (x23∈a6))))) else(Od a16 nx3 k18 false)) else(if(1:Int)<k18 then Option.bind (Rz k18) fun x35=>((Rv x1 a6 a16 nx3 k18 (decide (¬ (x35∈a6))))) else(Rv x1 a6 a16 nx3 k18 false)))
def Mu (p1:List Int)(x1:Xj × Int)(rec1:(Int × List Int)→Option (List Qx × Int))(s1:Int × List Int):Option (List Qx × Int):=match s1 with|(a5,a6)=>(if a5<(p1.length:Int) then Option.bind (Xr p1 a5) fun y7=>(Option.bind (Ud x1.1 y7) fun x8=>((Qv (Mv a5 rec1) Xb (x8,a6)))) else(Tc (Rw x1 a6) Mt Xb a6 []))
def Qcc (p0:Qj)(p1:List Int):Option (List Qx × Int):=Option.bind (Dw p0 ([]:List Qx)) fun x1=>((if x1.2≠0 then(some ([],x1.2)) else Option.bind (Oy x1.1 p1) fun x2=>((bif (!x2) then(some ([],2)) else(if(p1.length:Int)=0 then(some ([(Qx.mk 1 0)],0)) else(Qv (Mu p1 x1) Xb (0,[])))))))
end
end Go.Sx

end
section
set_option linter.unusedVariables false
set_option maxRecDepth 100000
namespace Go.Sx
open Go Go.RowKit
noncomputable section
structure Zr where
 Subset:Qx
 Box:W2
deriving DecidableEq,Inhabited
def Zr.cs (x:Zr)  : List Value:=[.int .i64 x.Subset.Node,.int .i64 x.Subset.Minus]++(kb x.Box)
theorem Zr.cs_ones (x:Zr)   : Zj (Zr.cs x )=true:=by simp only[Zr.cs,List.cons_append,List.nil_append,kb,Zj,Yx,Yw,Yy,cond_true]
theorem Zr.cs_inj {x y:Zr}(h:Zr.cs x=Zr.cs y):x=y:=by
 have h0:x.Subset=y.Subset:=Qx.cs_inj (congrArg (fun l=>(l.drop 0).take 2) h)
 have h1:x.Box=y.Box:=Uz (congrArg (fun l=>(l.drop 2).take 16) h)
 cases x;cases y;simp only at *;subst h0;subst h1;rfl
theorem Zr.ws (l:List Zr):Ws 18 (l.map Zr.cs):=Pb l (fun _=>rfl) (fun _=>rfl)
structure Xq where
 X:BitVec 64
 Y:BitVec 64
deriving DecidableEq,Inhabited
def Xq.cs (x:Xq)  : List Value:=[wv x.X,wv x.Y]
theorem Xq.cs_ones (x:Xq)   : Zj (Xq.cs x )=true:=by simp only[Xq.cs,List.cons_append,List.nil_append,kb,Zj,Yx,Yw,Yy,cond_true]
theorem Xq.cs_inj {x y:Xq}(h:Xq.cs x=Xq.cs y):x=y:=by
 have h0:x.X=y.X:=Ui (congrArg (fun l=>l[0]?) h)
 have h1:x.Y=y.Y:=Ui (congrArg (fun l=>l[1]?) h)
 cases x;cases y;simp only at *;subst h0;subst h1;rfl
theorem Xq.ws (l:List Xq):Ws 2 (l.map Xq.cs):=Pb l (fun _=>rfl) (fun _=>rfl)
structure Qy where
 Items:List Zr
 Base:BitVec 64
 Points:List Xq
 Box:W2
 Check:W2
deriving DecidableEq,Inhabited
def Qy.cs (x:Qy)(v0:Value)(v1:Value):List Value:=[v0,wv x.Base,v1]++(kb x.Box++(kb x.Check))
theorem Qy.cs_ones (x:Qy)(v0:Value)(v1:Value)(h0:oneB v0=true)(h1:oneB v1=true):Zj (Qy.cs x v0 v1)=true:=by simp only[Qy.cs,List.cons_append,List.nil_append,kb,Zj,Yx,Yw,Yy,cond_true,h0,h1]
structure Vv where
 x:BitVec 64
 y:BitVec 64
deriving DecidableEq,Inhabited
def Vv.cs (x:Vv)  : List Value:=[wv x.x,wv x.y]
theorem Vv.cs_ones (x:Vv)   : Zj (Vv.cs x )=true:=by simp only[Vv.cs,List.cons_append,List.nil_append,kb,Zj,Yx,Yw,Yy,cond_true]
theorem Vv.cs_inj {x y:Vv}(h:Vv.cs x=Vv.cs y):x=y:=by
 have h0:x.x=y.x:=Ui (congrArg (fun l=>l[0]?) h)
 have h1:x.y=y.y:=Ui (congrArg (fun l=>l[1]?) h)
 cases x;cases y;simp only at *;subst h0;subst h1;rfl
theorem Vv.ws (l:List Vv):Ws 2 (l.map Vv.cs):=Pb l (fun _=>rfl) (fun _=>rfl)
def Ry (p0:W2)(p1:Int):Option (W2):=(some (Xy p0 (Qs 30#8) (wd p1)))
def Qci (a4:W2)(nx1:(W2)→Option (W2))(a6:BitVec 8):Option (W2):=(nx1 (Xy a4 (Qs a6) 0#64))
def Qch  (s:W2):Option (W2):=match s with|a4=>(some a4)
def Om  (e5:Int)(nx1:(W2)→Option (W2))(s:W2):Option (W2):=match s with|a4=>Option.bind (Re e5 2) fun x7=>((if x7=1 then(Qci a4 nx1 32#8) else(Qci a4 nx1 31#8)))
def Mw (p0:W2)(p1:Int)(p2:Int):Option (W2):=Option.bind (Ua p1 p2) fun x1=>(Option.bind (Ou x1.1 x1.2) fun l2=>((Js Om Qch l2 p0)))
def Qeu (p0:W2):Option (W2):=(some (Xy p0 (Qs 33#8) 0#64))
def Bc (p0:Xj)(p1:W2)(p2:Qx):Option (W2):=(if p0.kind=1#8 then Option.bind (Ry p1 p2.Node) fun x1=>((some x1)) else(if p2.Minus=0 then(some (Xy p1 (Qs 34#8) 0#64)) else Option.bind (Ry p1 p2.Node) fun x2=>(Option.bind (Mw x2 p2.Node p2.Minus) fun x3=>(Option.bind (Qeu x3) fun x4=>((some x4))))))
def Oj (p0:W2)(p2:List Qx)(p3:W2)(x2:Xj × Int)(rec1:(Int × List Zr)→Option (Qy × Int))(s1:Int × List Zr):Option (Qy × Int):=match s1 with|(a6,a7)=>(if a6<(p2.length:Int) then Option.bind (Xr p2 a6) fun y9=>(Option.bind (Bc x2.1 p0 y9) fun x10=>(Option.bind (Vy 32 a7 [(Zr.mk y9 (Wz x10 p3))]) fun l11=>((rec1 (Qc (a6+1),l11))))) else(some ((Qy.mk a7 0#64 [] k0 (Xy p3 (Qs 53#8) 0#64)),0)))
def Qcd (p0:W2)(p1:Qj)(p2:List Qx)(p3:W2):Option (Qy × Int):=Option.bind (Tj p1) fun x1=>((if x1≠0 then(some ((Qy.mk [] 0#64 [] k0 k0),x1)) else(if(64:Int)<(p2.length:Int) then(some ((Qy.mk [] 0#64 [] k0 k0),4)) else Option.bind (Dw p1 p2) fun x2=>((if x2.2≠0 then(some ((Qy.mk [] 0#64 [] k0 k0),x2.2)) else(Qv (Oj p0 p2 p3 x2) Xb (0,[])))))))
def It (p0:W2)(rec1:(Int × BitVec 64 × BitVec 64)→Option (Vv))(s1:Int × BitVec 64 × BitVec 64):Option (Vv):=match s1 with|(a4,a5,a6)=>(if a4<8 then Option.bind (Jp (un 8#64)) fun nn7=>(Option.bind (Xr (Ze p0) a4) fun y8=>(Option.bind (Jp (un 8#64)) fun nn9=>(Option.bind (Xr (Ze p0) (Qc (8+a4))) fun y10=>((rec1 (Qc (a4+1),(a5 <<< nn7) ||| (y8.setWidth 64),(a6 <<< nn9) ||| (y10.setWidth 64))))))) else(some (Vv.mk a5 a6)))
def Io (p0:W2):Option (Vv):=(Qv (It p0) Xb (0,0#64,0#64))
def Mq (p0:W2)(p1:BitVec 64)(p2:BitVec 64):Option (BitVec 64):=(if p2=0#64 then(some 0#64) else Option.bind (Io (Xy p0 (Qs 3#8) p1)) fun x1=>(Option.bind (Yc x1.x p2) fun x2=>((some x2))))
def Qb7 (p0:W2)(p1:Qj)(l1:List (BitVec 64))(rec1:(List (BitVec 64) × Int)→Option (List (BitVec 64)))(s1:List (BitVec 64) × Int):Option (List (BitVec 64)):=match s1 with|(a5,a7)=>(if a7<(l1.length:Int) then Option.bind (Mq (Xy p0 (Qs 40#8) 0#64) (wd a7) p1.Group.Q) fun x8=>(Option.bind (Xr a5 a7) fun y9=>((rec1 (a5.set a7.toNat x8,Qc (a7+1))))) else(some a5))
def Cg (p0:W2)(p1:Qj):Option (List (BitVec 64)):=Option.bind (mkL 8 (Qc (p1.Degree+1)) 0#64) fun l1=>((Qv (Qb7 p0 p1 l1) Xb (l1,0)))
def Qgg (p0:BitVec 64):Option (Bool):=(if 1#64≤p0 then(some (decide (p0<4294967296#64))) else(some false))
def Qd6 (p0:BitVec 64)(p1:BitVec 64)(p2:BitVec 64):Option (BitVec 64 × Int):=Option.bind (Qgg p2) fun x1=>((bif (!x1) then(some (0#64,2)) else Option.bind (Qay p0 p1 p2) fun x2=>((some (x2,0)))))
def Qb6 (p0:Qj)(p1:BitVec 64)(p2:BitVec 64):Option (BitVec 64):=Option.bind (Qd6 p1 p2 p0.Group.P) fun x1=>((some x1.1))
def Qi7 (p0:List (BitVec 64)):Option (List (BitVec 64)):=(some p0)
def Ai (p1:List (BitVec 64))(rec1:(Int)→Option (List (Int × BitVec 64)))(a2:Int):Option (List (Int × BitVec 64)):=(if(0:Int)≤a2 then Option.bind (Xr p1 a2) fun y3=>((yl (a2,y3) ((rec1 (Qc (a2-1)))))) else(some []))
def Qi6 (p1:List (BitVec 64)):Option (List (Int × BitVec 64)):=(Qv (Ai p1) Xb (Qc ((p1.length:Int)-1)))
def Aa (p0:BitVec 64)(p1:List (BitVec 64))(rec1:(BitVec 64 × Int)→Option (BitVec 64))(s1:BitVec 64 × Int):Option (BitVec 64):=match s1 with|(a3,a4)=>(if a4<(p1.length:Int) then Option.bind (Xr p1 a4) fun y5=>(Option.bind (Yc (a3*y5) p0) fun x6=>((rec1 (x6,Qc (a4+1))))) else(some a3))
def Qdn (p0:BitVec 64)(p1:List (BitVec 64)):Option (BitVec 64):=(Qv (Aa p0 p1) Xb (1#64,0))
def Qdo  (s:BitVec 64):Option (BitVec 64):=match s with|a4=>(some a4)
def Qb5 (p1:BitVec 64)(p2:BitVec 64)(ee:Int × BitVec 64)(nx1:(BitVec 64)→Option (BitVec 64))(s:BitVec 64):Option (BitVec 64):=match ee with|(e5,e6)=>match s with|a4=>Option.bind (Qdn p1 [a4,p2]) fun x7=>(Option.bind (Yc (x7+e6) p1) fun x8=>((nx1 x8)))
def Qb4 (p0:List (BitVec 64))(p1:BitVec 64)(p2:BitVec 64):Option (BitVec 64):=Option.bind (Qi7 p0) fun x1=>(Option.bind (Qi6 x1) fun l2=>((Js (Qb5 p1 p2) Qdo l2 0#64)))
def Eu (p0:BitVec 64)(p1:Qj)(p2:Qy)(p3:List (BitVec 64))(p4:BitVec 64):Option (BitVec 64):=Option.bind (Qb4 p3 p4 p0) fun x1=>(Option.bind (Qb6 p1 p2.Base x1) fun x2=>((some x2)))
def Qly (p0:BitVec 64):Option (W2):=(some (Xy k0 (Qs 42#8) p0))
def Ev (a3:Int)(rec1:(Int)→Option (Qy × Int))(a5:Bool):Option (Qy × Int):=(bif a5 then(some ((Qy.mk [] 0#64 [] k0 k0),2)) else(rec1 (Qc (a3+1))))
def Ey (p1:Qj)(p3:W2)(a9:List (BitVec 64))(a14:BitVec 64)(rec6:(Int × List Xq)→Option (Qy × Int))(s6:Int × List Xq):Option (Qy × Int):=match s6 with|(a30,a31)=>(if(a31.length:Int)<p1.Degree then Option.bind (Eu (wd a30) p1 (Qy.mk [] a14 a31 k0 (Xy p3 (Qs 53#8) 0#64)) a9 p1.Group.Q) fun x33=>(Option.bind (Vy 16 a31 [(Xq.mk (wd a30) x33)]) fun l34=>((rec6 (Qc (a30+1),l34)))) else Option.bind (Eu 0#64 p1 (Qy.mk [] a14 a31 k0 (Xy p3 (Qs 53#8) 0#64)) a9 p1.Group.Q) fun x35=>(Option.bind (Qly x35) fun x36=>((some ((Qy.mk [] a14 a31 (Wz x36 p3) (Xy p3 (Qs 53#8) 0#64)),0)))))
def Ew (p1:Qj)(p2:List Int)(p3:W2)(a9:List (BitVec 64))(a14:BitVec 64)(rec5:(Int × List Xq)→Option (Qy × Int))(s5:Int × List Xq):Option (Qy × Int):=match s5 with|(a20,a21)=>(if a20<(p2.length:Int) then Option.bind (Xr p2 a20) fun y23=>(Option.bind (Eu (wd (Qc (y23+1))) p1 (Qy.mk [] a14 a21 k0 (Xy p3 (Qs 53#8) 0#64)) a9 p1.Group.Q) fun x24=>(Option.bind (Vy 16 a21 [(Xq.mk (wd (Qc (y23+1))) x24)]) fun l25=>((rec5 (Qc (a20+1),l25))))) else Option.bind (Jp p1.Depth) fun nn26=>((Qv (Ey p1 p3 a9 a14) Xb (Qc ((Xw 1 nn26)+1),a21))))
def Qhl (p1:Qj)(p2:List Int)(p3:W2)(a9:List (BitVec 64))(a14:BitVec 64):Option (Qy × Int):=(Qv (Ew p1 p2 p3 a9 a14) Xb (0,[]))
def Qb3 (p0:W2)(p1:Qj)(p2:List Int)(p3:W2)(p4:BitVec 64)(a9:List (BitVec 64)):Option (Qy × Int):=Option.bind (Mq (Xy p0 (Qs 41#8) p4) 0#64 (p1.Group.Q-1#64)) fun x12=>(Option.bind (Qb6 p1 p1.Group.G (1#64+x12)) fun x37=>((Qhl p1 p2 p3 a9 x37)))
def Cf (p0:W2)(p1:Qj)(p2:List Int)(p3:W2)(p4:BitVec 64)(rec1:(Int)→Option (Qy × Int))(a3:Int):Option (Qy × Int):=(if a3<(p2.length:Int) then Option.bind (Xr p2 a3) fun y4=>((if y4<0 then(Ev a3 rec1 true) else Option.bind (Jp p1.Depth) fun nn6=>((if Xw 1 nn6≤y4 then(Ev a3 rec1 true) else(if(0:Int)<a3 then Option.bind (Xr p2 (Qc (a3-1))) fun y7=>((Ev a3 rec1 (decide (y4≤y7)))) else(Ev a3 rec1 false)))))) else(if p1.Degree<(p2.length:Int) then(some ((Qy.mk [] 0#64 [] k0 k0),4)) else Option.bind (Cg p0 p1) fun x39=>((Qb3 p0 p1 p2 p3 p4 x39))))
def Tb (p0:W2)(p1:Qj)(p2:List Int)(p3:W2)(p4:BitVec 64):Option (Qy × Int):=Option.bind (Hi p1) fun x1=>((bif (!x1) then(some ((Qy.mk [] 0#64 [] k0 k0),30)) else(Qv (Cf p0 p1 p2 p3 p4) Xb 0)))
end
end Go.Sx

end
section
set_option linter.unusedVariables false
set_option maxRecDepth 100000
namespace Go.Sx
open Go Go.RowKit
noncomputable section
structure Je where
 Node:Int
 Minus:Int
 Key:W2
deriving DecidableEq,Inhabited
def Je.cs (x:Je)  : List Value:=[.int .i64 x.Node,.int .i64 x.Minus]++(kb x.Key)
theorem Je.cs_ones (x:Je)   : Zj (Je.cs x )=true:=by simp only[Je.cs,List.cons_append,List.nil_append,kb,Zj,Yx,Yw,Yy,cond_true]
theorem Je.cs_inj {x y:Je}(h:Je.cs x=Je.cs y):x=y:=by
 have h0:x.Node=y.Node:=Yd (congrArg (fun l=>l[0]?) h)
 have h1:x.Minus=y.Minus:=Yd (congrArg (fun l=>l[1]?) h)
 have h2:x.Key=y.Key:=Uz (congrArg (fun l=>(l.drop 2).take 16) h)
 cases x;cases y;simp only at *;subst h0;subst h1;subst h2;rfl
theorem Je.ws (l:List Je):Ws 18 (l.map Je.cs):=Pb l (fun _=>rfl) (fun _=>rfl)
structure Xp where
 Receiver:Int
 Labels:List Je
 Share:Xq
deriving DecidableEq,Inhabited
def Xp.cs (x:Xp)(v0:Value):List Value:=[.int .i64 x.Receiver,v0,wv x.Share.X,wv x.Share.Y]
theorem Xp.cs_ones (x:Xp)(v0:Value)(h0:oneB v0=true):Zj (Xp.cs x v0)=true:=by simp only[Xp.cs,List.cons_append,List.nil_append,kb,Zj,Yx,Yw,Yy,cond_true,h0]
def Qcf (a7:List Je)(nx1:(List Je)→Option (Xp × Int))(e9:Int)(e10:Int)(a11:W2):Option (Xp × Int):=Option.bind (Vy 32 a7 [(Je.mk e9 e10 a11)]) fun l12=>((nx1 l12))
def Ok (p2:Int)(s:List Je):Option (Xp × Int):=match s with|a7=>(some ((Xp.mk p2 a7 (Xq.mk 0#64 0#64)),0))
def Ol (p0:W2)(x1:Xj × Int)(ee:Int × Int)(nx1:(List Je)→Option (Xp × Int))(s:List Je):Option (Xp × Int):=match ee with|(e9,e10)=>match s with|a7=>(if e10=0 then Option.bind (Bc x1.1 p0 (Qx.mk e9 0)) fun x13=>((Qcf a7 nx1 e9 e10 x13)) else Option.bind (Ry p0 e9) fun x14=>(Option.bind (Mw x14 e9 e10) fun x15=>((Qcf a7 nx1 e9 e10 x15))))
def Qce (p0:W2)(p1:Qj)(p2:Int):Option (Xp × Int):=Option.bind (Dw p1 ([]:List Qx)) fun x1=>((if x1.2≠0 then(some ((Xp.mk 0 [] (Xq.mk 0#64 0#64)),x1.2)) else Option.bind (Uf x1.1 p2) fun x2=>((bif (!x2) then(some ((Xp.mk 0 [] (Xq.mk 0#64 0#64)),2)) else Option.bind (Qck x1.1 p2) fun x3=>(Option.bind (Ox x3.1 x3.2) fun l4=>((Js (Ol p0 x1) (Ok p2) l4 [])))))))
def Ez (p0:W2)(p1:Qj)(p2:Int)(a2:Bool):Option (Xp × Int):=(bif a2 then(some ((Xp.mk 0 [] (Xq.mk 0#64 0#64)),2)) else Option.bind (Cg p0 p1) fun x3=>(Option.bind (Qb4 x3 p1.Group.Q ((wd p2)+1#64)) fun x4=>((some ((Xp.mk p2 [] (Xq.mk ((wd p2)+1#64) x4)),0)))))
def Fz (p0:W2)(p1:Qj)(p2:Int):Option (Xp × Int):=Option.bind (Hi p1) fun x1=>((bif (!x1) then(some ((Xp.mk 0 [] (Xq.mk 0#64 0#64)),30)) else(if p2<0 then(Ez p0 p1 p2 true) else Option.bind (Jp p1.Depth) fun nn5=>((Ez p0 p1 p2 (decide (Xw 1 nn5≤p2)))))))
end
end Go.Sx

end
section
set_option linter.unusedVariables false
set_option maxRecDepth 100000
namespace Go.Sx
open Go Go.RowKit
noncomputable section
structure Zl where
 Kind:BitVec 8
 Epoch:Int
 Head:Qy
 Low:BitVec 8
 Number:BitVec 64
 Data:List (BitVec 8)
 Mac:W2
deriving DecidableEq,Inhabited
def Zl.cs (x:Zl)(v0:Value)(v1:Value)(v2:Value):List Value:=[bv x.Kind,.int .i64 x.Epoch,v0,wv x.Head.Base,v1]++(kb x.Head.Box++(kb x.Head.Check++([bv x.Low,wv x.Number,v2]++(kb x.Mac))))
theorem Zl.cs_ones (x:Zl)(v0:Value)(v1:Value)(v2:Value)(h0:oneB v0=true)(h1:oneB v1=true)(h2:oneB v2=true):Zj (Zl.cs x v0 v1 v2)=true:=by simp only[Zl.cs,List.cons_append,List.nil_append,kb,Zj,Yx,Yw,Yy,cond_true,h0,h1,h2]
structure Kh where
 out:List (BitVec 8)
deriving DecidableEq,Inhabited
def Kh.cs (x:Kh)(v0:Value):List Value:=[v0]
theorem Kh.cs_ones (x:Kh)(v0:Value)(h0:oneB v0=true):Zj (Kh.cs x v0)=true:=by simp only[Kh.cs,List.cons_append,List.nil_append,kb,Zj,Yx,Yw,Yy,cond_true,h0]
def Qa6 (p0:Qj)(a1:Bool):Option (Int):=(bif a1 then(some 2) else(if Qs p0.Kind=1∨Qs p0.Kind=2∨Qs p0.Kind=3 then Option.bind (Tj p0) fun x2=>((some x2)) else(if Qs p0.Kind=4 then Option.bind (Tp p0) fun x3=>((some x3)) else none)))
def Uk (p0:Qj):Option (Int):=(if p0.Kind<1#8 then(Qa6 p0 true) else(Qa6 p0 (decide ((5:Int)≤Qs p0.Kind))))
def Dh (p0:Int):Option (Bool):=(if(0:Int)≤p0 then(some (decide (p0≤1099511627776))) else(some false))
def Sw (p0:W2)(p1:Int):Option (W2):=(some (Xy p0 (Qs 50#8) (wd p1)))
def Um (p0:W2)(p1:Qj)(p2:List Int)(p3:W2)(p4:BitVec 64):Option (Qy × Int):=Option.bind (Qcc p1 p2) fun x1=>((if x1.2≠0 then(some ((Qy.mk [] 0#64 [] k0 k0),x1.2)) else Option.bind (Qcd p0 p1 x1.1 p3) fun x2=>((some (x2.1,x2.2)))))
def Bh (p0:W2)(p1:Qj)(p2:Int)(p3:List Int)(a1:Bool):Option (Qy × Int):=(bif a1 then(some ((Qy.mk [] 0#64 [] k0 k0),2)) else(if Qs p1.Kind=1∨Qs p1.Kind=2∨Qs p1.Kind=3 then Option.bind (Tj p1) fun x2=>((if x2≠0 then(some ((Qy.mk [] 0#64 [] k0 k0),x2)) else Option.bind (Dh p2) fun x3=>((bif (!x3) then(some ((Qy.mk [] 0#64 [] k0 k0),2)) else Option.bind (Sw p0 p2) fun x4=>(Option.bind (Um p0 p1 p3 x4 (wd p2)) fun x5=>((some (x5.1,x5.2)))))))) else(if Qs p1.Kind=4 then Option.bind (Tp p1) fun x6=>((if x6≠0 then(some ((Qy.mk [] 0#64 [] k0 k0),x6)) else Option.bind (Dh p2) fun x7=>((bif (!x7) then(some ((Qy.mk [] 0#64 [] k0 k0),2)) else Option.bind (Sw p0 p2) fun x8=>(Option.bind (Tb p0 p1 p3 x8 (wd p2)) fun x9=>((some (x9.1,x9.2)))))))) else none)))
def Gp (p0:W2)(p1:Qj)(p2:Int)(p3:List Int):Option (Qy × Int):=(if p1.Kind<1#8 then(Bh p0 p1 p2 p3 true) else(Bh p0 p1 p2 p3 (decide ((5:Int)≤Qs p1.Kind))))
def Up (p1:BitVec 64)(rec1:(Int × List (BitVec 8))→Option (Kh))(s1:Int × List (BitVec 8)):Option (Kh):=match s1 with|(a4,a5)=>(if(0:Int)≤a4 then Option.bind (Jp (Qc (8*a4))) fun nn7=>(Option.bind (Vy 1 a5 [(p1 >>> nn7).setWidth 8]) fun l8=>((rec1 (Qc (a4-1),l8)))) else(some (Kh.mk a5)))
def Di (p0:Kh)(p1:BitVec 64)(p2:Int):Option (Kh):=(Qv (Up p1) Xb (Qc (p2-1),p0.out))
def Uo (p0:Kh)(p1:W2):Option (Kh):=Option.bind (Vy 1 p0.out (Ze p1)) fun l1=>((some (Kh.mk l1)))
def Qa9 (p0:Zl)(rec2:(Int × Kh)→Option (List (BitVec 8)))(s2:Int × Kh):Option (List (BitVec 8)):=match s2 with|(a23,a24)=>(if a23<(p0.Head.Points.length:Int) then Option.bind (Xr p0.Head.Points a23) fun y26=>(Option.bind (Di a24 y26.X 8) fun x27=>(Option.bind (Di x27 y26.Y 8) fun x28=>((rec2 (Qc (a23+1),x28))))) else Option.bind (Uo a24 p0.Head.Box) fun x29=>(Option.bind (Uo x29 p0.Head.Check) fun x30=>((some x30.out))))
def Qa8 (p0:Zl)(rec1:(Int × Kh)→Option (List (BitVec 8)))(s1:Int × Kh):Option (List (BitVec 8)):=match s1 with|(a11,a12)=>(if a11<(p0.Head.Items.length:Int) then Option.bind (Xr p0.Head.Items a11) fun y14=>(Option.bind (Di a12 (wd y14.Subset.Node) 1) fun x15=>(Option.bind (Di x15 (wd y14.Subset.Minus) 1) fun x16=>(Option.bind (Uo x16 y14.Box) fun x17=>((rec1 (Qc (a11+1),x17)))))) else Option.bind (Di a12 p0.Head.Base 8) fun x18=>(Option.bind (Di x18 (wd (p0.Head.Points.length:Int)) 1) fun x19=>((Qv (Qa9 p0) Xb (0,x19)))))
def Qa7 (p0:Zl):Option (List (BitVec 8)):=Option.bind (Di (Kh.mk []) (p0.Kind.setWidth 64) 1) fun x1=>((if p0.Kind=2#8 then Option.bind (Di x1 (p0.Low.setWidth 64) 1) fun x2=>(Option.bind (Di x2 p0.Number 8) fun x3=>(Option.bind (Di x3 (wd (p0.Data.length:Int)) 2) fun x4=>(Option.bind (Vy 1 x4.out p0.Data) fun l5=>((some l5))))) else Option.bind (Di x1 (wd p0.Epoch) 8) fun x6=>(Option.bind (Di x6 (wd (p0.Head.Items.length:Int)) 1) fun x7=>((Qv (Qa8 p0) Xb (0,x7))))))
def Iu (p1:W2)(rec1:(Int × W2)→Option (W2))(s1:Int × W2):Option (W2):=match s1 with|(a3,a4)=>(if a3<16 then Option.bind (Xr (Ze a4) a3) fun y5=>(Option.bind (Xr (Ze p1) a3) fun y6=>(Option.bind (Xr (Ze a4) a3) fun y7=>(Option.bind (Qao a4 a3 (y5 ^^^ y6)) fun x8=>((rec1 (Qc (a3+1),x8)))))) else(some a4))
def Qca (p0:W2)(p1:W2):Option (W2):=(if p0=p1 then(some k0) else(Qv (Iu p1) Xb (0,p0)))
def Qel (p0:W2)(p1:W2)(p2:W2):Option (W2):=Option.bind (Qca p0 p1) fun x1=>((some (Wz p2 x1)))
def Im (p2_0:W2)(rec1:(List (BitVec 8) × W2)→Option (W2))(s1:List (BitVec 8) × W2):Option (W2):=match s1 with|(a4,a6)=>(if(0:Int)<(a4.length:Int) then Option.bind (La a4 (Ru (Ze k0) a4) (a4.length:Int)) fun l7=>(Option.bind (Qel a6 (Hr (Gj (Ze k0) a4)) p2_0) fun x8=>((rec1 (l7,x8)))) else(some a6))
def Qc9 (p0:W2)(p1:List (BitVec 8))(p2_0:W2):Option (W2):=(Qv (Im p2_0) Xb (p1,p0))
def Qc8 (p0:W2)(p1:List (BitVec 8)):Option (W2 × Int):=(if(16384:Int)<(p1.length:Int) then(some (k0,4)) else Option.bind (Qc9 (Xy p0 (Qs 2#8) (wd (p1.length:Int))) p1 p0) fun x1=>((some (x1,0))))
def Qk6 (a2:W2):Option (W2):=(some a2)
def Qcs (p0:W2)(p1:Zl):Option (W2):=Option.bind (Qa7 p1) fun x3=>(Option.bind (Qc8 (Xy p0 (Qs 52#8) (wd p1.Epoch)) x3) fun x4=>((Qk6 x4.1)))
def Bg (p0:W2)(p1:Qj)(p2:Int)(p3:List Int):Option (Zl × Int):=Option.bind (Gp p0 p1 p2 p3) fun x1=>((if x1.2≠0 then(some ((Zl.mk 0#8 0 (Qy.mk [] 0#64 [] k0 k0) 0#8 0#64 [] k0),x1.2)) else Option.bind (Sw p0 p2) fun x2=>(Option.bind (Qcs x2 (Zl.mk 1#8 p2 x1.1 0#8 0#64 [] k0)) fun x3=>((some ((Zl.mk 1#8 p2 x1.1 0#8 0#64 [] x3),0))))))
def Qcr (p0:Zr):Option (Bool):=(if Ft p0.Subset.Node p0.Subset.Minus<0 then(some true) else(some (decide ((127:Int)<Yf p0.Subset.Node p0.Subset.Minus))))
def Aj (p0:List Zr)(rec1:(Int)→Option (Int))(a2:Int):Option (Int):=(if a2<(p0.length:Int) then Option.bind (Xr p0 a2) fun y3=>(Option.bind (Qcr y3) fun x4=>((bif x4 then(some a2) else(rec1 (Qc (a2+1)))))) else(some (-1)))
def Qia (p0:List Zr):Option (Int):=(Qv (Aj p0) Xb 0)
def Qdz (p0:List Zr):Option (Bool):=Option.bind (Qia p0) fun x1=>((some (decide ((0:Int)≤x1))))
def Dx (a2:Bool):Option (Int):=(bif (!a2) then(some 8) else(some 0))
def Ss (p0:Zl)(a1:Bool):Option (Int):=(if p0.Kind=1#8 then Option.bind (Dh p0.Epoch) fun x3=>((bif x3 then(if p0.Low=0#8 then(if p0.Number=0#64 then(if(p0.Data.length:Int)=0 then(if(p0.Head.Items.length:Int)≤64 then(if(p0.Head.Points.length:Int)≤8 then Option.bind (Qdz p0.Head.Items) fun x4=>((Dx (!x4))) else(Dx false)) else(Dx false)) else(Dx false)) else(Dx false)) else(Dx false)) else(Dx false))) else(if p0.Kind=2#8 then(if p0.Epoch=0 then(if p0.Low<4#8 then(if(p0.Data.length:Int)≤256 then(Dx a1) else(Dx false)) else(Dx false)) else(Dx false)) else(Dx false)))
def Qa5 (p0:Zl):Option (Int):=(if(p0.Head.Items.length:Int)=0 then(if(p0.Head.Points.length:Int)=0 then(if p0.Head.Base=0#64 then(if p0.Head.Box=k0 then(Ss p0 (decide (p0.Head.Check=k0))) else(Ss p0 false)) else(Ss p0 false)) else(Ss p0 false)) else(Ss p0 false))
def Su (p0:Zl):Option (List (BitVec 8) × Int):=Option.bind (Qa5 p0) fun x1=>((if x1≠0 then(some ([],x1)) else Option.bind (Qa7 p0) fun x2=>(Option.bind (Vy 1 x2 (Ze p0.Mac)) fun l3=>((some (l3,0))))))
def Ul (p0:W2)(p1:Qj)(p2:Int)(a1:Bool):Option (Xp × Int):=(bif a1 then(some ((Xp.mk 0 [] (Xq.mk 0#64 0#64)),2)) else(if Qs p1.Kind=1∨Qs p1.Kind=2∨Qs p1.Kind=3 then Option.bind (Tj p1) fun x2=>((if x2≠0 then(some ((Xp.mk 0 [] (Xq.mk 0#64 0#64)),x2)) else Option.bind (Qce p0 p1 p2) fun x3=>((some (x3.1,x3.2))))) else(if Qs p1.Kind=4 then Option.bind (Tp p1) fun x4=>((if x4≠0 then(some ((Xp.mk 0 [] (Xq.mk 0#64 0#64)),x4)) else Option.bind (Fz p0 p1 p2) fun x5=>((some (x5.1,x5.2))))) else none)))
def Bi (p0:W2)(p1:Qj)(p2:Int):Option (Xp × Int):=(if p1.Kind<1#8 then(Ul p0 p1 p2 true) else(Ul p0 p1 p2 (decide ((5:Int)≤Qs p1.Kind))))
end
end Go.Sx

end
section
set_option linter.unusedVariables false
set_option maxRecDepth 100000
namespace Go.Sx
open Go Go.RowKit
noncomputable section
def Rc (p0:Zs)(p1:BitVec 8):Option (Qj):=(if p1=4#8 then(some (Qj.mk p1 p0.Depth (Yf p0.Revoked 1) p0.Group)) else(some (Qj.mk p1 p0.Depth 0 (Jb.mk 0#64 0#64 0#64))))
end
end Go.Sx

end
section
set_option linter.unusedVariables false
set_option maxRecDepth 100000
namespace Go.Sx
open Go Go.RowKit
noncomputable section
def Qap (x1:Bool)(x3:Xs × Int)(x9:Zl × Int)(x10:List (BitVec 8) × Int)(x11:List (BitVec 8) × Int)(x12:Xp × Int)(a13:Int):Option (Bool):=(bif x1 then(if x9.2=0 then(if x10.2=0 then(if x11.2=0 then(if x12.2=0 then(if(x10.1.length:Int)≤x3.1.Header then(if(x11.1.length:Int)=x3.1.Header then(some (decide (a13=x3.1.Storage))) else(some false)) else(some false)) else(some false)) else(some false)) else(some false)) else(some false)) else(some false))
def Bu (p1:BitVec 8)(p2:W2)(p3:Int)(p4:List Int)(x1:Bool)(x3:Xs × Int)(x4:Qj)(a6:List Int):Option (Bool):=Option.bind (Bg p2 x4 p3 p4) fun x8=>(Option.bind (Bg p2 x4 p3 a6) fun x9=>((if x8.2≠0 then(some x1) else Option.bind (Su x8.1) fun x10=>(Option.bind (Su x9.1) fun x11=>(Option.bind (Bi p2 x4 0) fun x12=>((if p1=4#8 then(Qap x1 x3 x9 x10 x11 x12 8) else(Qap x1 x3 x9 x10 x11 x12 (Qc (16*(x12.1.Labels.length:Int)))))))))))
def Bt (p1:BitVec 8)(p2:W2)(p3:Int)(p4:List Int)(x1:Bool)(x3:Xs × Int)(x4:Qj)(a5:Bool):Option (Bool):=(bif a5 then(bif x1 then(some (decide (x3.1.Header=0))) else(some false)) else(if p1=4#8 then(Bu p1 p2 p3 p4 x1 x3 x4 []) else(Bu p1 p2 p3 p4 x1 x3 x4 x3.1.Witness)))
def Ec (p0:Zs)(p1:BitVec 8)(p2:W2)(p3:Int)(p4:List Int)(x1:Bool)(a2:Bool):Option (Bool):=(bif a2 then(some x1) else Option.bind (Nu p0 p1) fun x3=>(Option.bind (Rc p0 p1) fun x4=>((if x3.2≠0 then(Bt p1 p2 p3 p4 x1 x3 x4 true) else Option.bind (Uk x4) fun x14=>((Bt p1 p2 p3 p4 x1 x3 x4 (decide (x14≠0))))))))
def Qg5 (p0:Zs)(p1:BitVec 8)(p2:W2)(p3:Int)(p4:List Int):Option (Bool):=Option.bind (Qg6) fun x1=>((if(100:Int)<(p4.length:Int) then(Ec p0 p1 p2 p3 p4 x1 true) else(if p0.Revoked<(p4.length:Int) then(Ec p0 p1 p2 p3 p4 x1 true) else(Ec p0 p1 p2 p3 p4 x1 (!x1)))))
end
end Go.Sx

end
section
set_option linter.unusedVariables false
set_option linter.unusedSimpArgs false
set_option maxRecDepth 100000
namespace Go.Sx
open Go Go.RowKit Go.Proofs
theorem Xdn {H:Type}{enc:TypeId × Value→H}{W:World}{fuel:Nat}{cs:List Value}{x:DataW H × List MemPlace}(h:Tr enc Tryz.prog W fuel 24 cs x):∃ (m:Jb),cs=Jb.cs m:=by
 obtain⟨xs,n,rfl,rfl,hl,hx,hf⟩:=DataW.trod_struct Tryz.underlying24 h
 replace hl:cs.length=3:=hl.trans (by kernel_rfl)
 replace hx:xs.length=3:=hx
 obtain⟨y0,e0⟩:=Lz (i:=0) hx rfl
 have h0:Tr enc Tryz.prog W n 22 ((cs.drop 0).take 1) y0:=Lm hf (i:=0) rfl rfl rfl (by kernel_rfl) e0
 obtain⟨m0,c0⟩:=Qla Tryz.underlying22 h0
 obtain⟨y1,e1⟩:=Lz (i:=1) hx rfl
 have h1:Tr enc Tryz.prog W n 22 ((cs.drop 1).take 1) y1:=Lm hf (i:=1) rfl rfl rfl (by kernel_rfl) e1
 obtain⟨m1,c1⟩:=Qla Tryz.underlying22 h1
 obtain⟨y2,e2⟩:=Lz (i:=2) hx rfl
 have h2:Tr enc Tryz.prog W n 22 ((cs.drop 2).take 1) y2:=Lm hf (i:=2) rfl rfl rfl (by kernel_rfl) e2
 obtain⟨m2,c2⟩:=Qla Tryz.underlying22 h2
 have q:=Qol hl
 replace q:=Lh (o:=2) (k:=1) c2 q
 replace q:=Lh (o:=1) (k:=1) c1 q
 replace q:=Lh (o:=0) (k:=1) c0 q
 exact⟨⟨m0,m1,m2⟩,q⟩
def Zs.ok (x:Zs):Prop:=Gg x.Depth∧Gg x.Revoked∧Gg x.Storage∧Gg x.Headers∧Gg x.HeaderPrice∧Gg x.StoragePrice
theorem Xdo {H:Type}{enc:TypeId × Value→H}{W:World}{fuel:Nat}{cs:List Value}{x:DataW H × List MemPlace}(h:Tr enc Tryz.prog W fuel 26 cs x):∃ (m:Zs),cs=Zs.cs m∧Zs.ok m:=by
 obtain⟨xs,n,rfl,rfl,hl,hx,hf⟩:=DataW.trod_struct Tryz.underlying26 h
 replace hl:cs.length=9:=hl.trans (by kernel_rfl)
 replace hx:xs.length=7:=hx
 obtain⟨y0,e0⟩:=Lz (i:=0) hx rfl
 have h0:Tr enc Tryz.prog W n 3 ((cs.drop 0).take 1) y0:=Lm hf (i:=0) rfl rfl rfl (by kernel_rfl) e0
 obtain⟨m0,c0,k0⟩:=Em Tryz.underlying3 h0
 obtain⟨y1,e1⟩:=Lz (i:=1) hx rfl
 have h1:Tr enc Tryz.prog W n 3 ((cs.drop 1).take 1) y1:=Lm hf (i:=1) rfl rfl rfl (by kernel_rfl) e1
 obtain⟨m1,c1,k1⟩:=Em Tryz.underlying3 h1
 obtain⟨y2,e2⟩:=Lz (i:=2) hx rfl
 have h2:Tr enc Tryz.prog W n 3 ((cs.drop 2).take 1) y2:=Lm hf (i:=2) rfl rfl rfl (by kernel_rfl) e2
 obtain⟨m2,c2,k2⟩:=Em Tryz.underlying3 h2
 obtain⟨y3,e3⟩:=Lz (i:=3) hx rfl
 have h3:Tr enc Tryz.prog W n 3 ((cs.drop 3).take 1) y3:=Lm hf (i:=3) rfl rfl rfl (by kernel_rfl) e3
 obtain⟨m3,c3,k3⟩:=Em Tryz.underlying3 h3
 obtain⟨y4,e4⟩:=Lz (i:=4) hx rfl
 have h4:Tr enc Tryz.prog W n 3 ((cs.drop 4).take 1) y4:=Lm hf (i:=4) rfl rfl rfl (by kernel_rfl) e4
 obtain⟨m4,c4,k4⟩:=Em Tryz.underlying3 h4
 obtain⟨y5,e5⟩:=Lz (i:=5) hx rfl
 have h5:Tr enc Tryz.prog W n 3 ((cs.drop 5).take 1) y5:=Lm hf (i:=5) rfl rfl rfl (by kernel_rfl) e5
 obtain⟨m5,c5,k5⟩:=Em Tryz.underlying3 h5
 obtain⟨y6,e6⟩:=Lz (i:=6) hx rfl
 have h6:Tr enc Tryz.prog W n 24 ((cs.drop 6).take 3) y6:=Lm hf (i:=6) rfl rfl rfl (by kernel_rfl) e6
 obtain⟨m6,c6⟩:=Xdn h6
 have q:=Qol hl
 replace q:=Lh (o:=6) (k:=3) c6 q
 replace q:=Lh (o:=5) (k:=1) c5 q
 replace q:=Lh (o:=4) (k:=1) c4 q
 replace q:=Lh (o:=3) (k:=1) c3 q
 replace q:=Lh (o:=2) (k:=1) c2 q
 replace q:=Lh (o:=1) (k:=1) c1 q
 replace q:=Lh (o:=0) (k:=1) c0 q
 exact⟨⟨m0,m1,m2,m3,m4,m5,m6⟩,q,⟨k0,k1,k2,k3,k4,k5⟩⟩
end Go.Sx

end
section
set_option linter.unusedVariables false
set_option linter.unusedSimpArgs false
namespace Go.Proofs.YtopkalcefepilaaGreat
open Go Go.RowKit Go.Sx
theorem Qxz:CV Tryz.prog 3 151 .u64:=fun _ _ _=>by kernel_rfl
theorem Rn:ZV Tryz.prog 227 (.agg [.int .u64 0,.int .u64 0].toArray):=fun _=>by kernel_rfl
theorem Uu:FA Tryz.prog 227 0 0:=fun _ _ _=>by kernel_rfl
theorem Zw:Ku Tryz.prog 22:=fun _=>⟨by kernel_rfl,by kernel_rfl⟩
theorem Sy:FA Tryz.prog 227 1 1:=fun _ _ _=>by kernel_rfl
theorem Qpw:En Tryz.prog 186:=fun _ _=>by kernel_rfl
theorem Qoa:BS Tryz.prog 227 (fun i=>[(0,1),(1,1)][i]?) [.int .u64 0,.int .u64 0]:=Dc Tryz.underlying227 Rn ⟨rfl,(Zw).siz,rfl,(Zw).siz,trivial⟩
theorem Pz:Ky Tryz.prog 227 2:=fun _=>⟨by kernel_rfl,by kernel_rfl⟩
theorem Bf:CV Tryz.prog 5 22 .u64:=fun _ _ _=>by kernel_rfl
theorem Zb:Ku Tryz.prog 5:=fun _=>⟨by kernel_rfl,by kernel_rfl⟩
theorem Gl:CV Tryz.prog 22 5 .u8:=fun _ _ _=>by kernel_rfl
theorem Yr:ZV Tryz.prog 39 (.agg [.int .u8 0,.int .u8 0,.int .u8 0,.int .u8 0,.int .u8 0,.int .u8 0,.int .u8 0,.int .u8 0,.int .u8 0,.int .u8 0,.int .u8 0,.int .u8 0,.int .u8 0,.int .u8 0,.int .u8 0,.int .u8 0].toArray):=fun _=>by kernel_rfl
theorem Xk:Ky Tryz.prog 39 16:=fun _=>⟨by kernel_rfl,by kernel_rfl⟩
abbrev pv (p:W2):Value:=.agg [wv p.1,wv p.2].toArray
set_option maxHeartbeats 1000000 in
theorem Qto (x:BitVec 64)(k:Int)(s:Nat)(hs:s<64)(hk:bits .and .u64 (IntKind.u64.wrap k) 63=(s:Int))(w:World):
 Calls Tryz.prog 186 [wv x,.int .i64 k].toArray w fun e w'=>∃ v,e=.returned v∧(v=wv (Qbd x s)∧Gr w w'):=by
 refine Xi (R:=fun v w'=>v=wv (Qbd x s)∧Gr w w') 17 Tryz.func186 rfl rfl rfl ?_
 refine Qe ?_
 refine Zg [(0,0)] rfl rfl rfl ?_
 refine Qu rfl rfl rfl (Kt rfl) ?_
 refine Qa ?_
 refine Qe ?_
 refine Zg [(0,0),(1,0),(2,0),(3,0)] rfl rfl rfl ?_
 refine Qu rfl rfl rfl (Qt rfl) ?_
 refine Qu rfl rfl rfl (An Qxz rfl) ?_
 refine Qu rfl rfl rfl (Kb (Qbm (by simp) rfl rfl) (show _=Value.int .u64 (s:Int) from by rw[hk])) ?_
 refine Qu rfl rfl rfl (Kt rfl) ?_
 refine Qa ?_
 refine Qe ?_
 refine Zg [(0,0),(1,0),(2,0),(3,0),(4,0),(5,0),(6,0),(7,0),(8,0)] rfl rfl rfl ?_
 refine Qu rfl rfl rfl (Qt rfl) ?_
 refine Qu rfl rfl rfl (Qt rfl) ?_
 refine Qu rfl rfl rfl (Qe8 rfl rfl (by omega)) ?_
 refine Qu rfl rfl rfl (Qt rfl) ?_
 refine Qu rfl rfl rfl (Qt rfl) ?_
 refine Qu rfl rfl rfl (Kb (Vx rfl rfl) (show _=Value.int .u64 ((64-s:Nat):Int) from by rw[IntKind.wrap_u64];congr 1;omega)) ?_
 refine Qu rfl rfl rfl (Qiq rfl rfl (by omega)) ?_
 refine Qu rfl rfl rfl (Qbq rfl rfl) ?_
 refine Qu rfl rfl rfl (Kt rfl) ?_
 refine Qa ?_
 refine Qq ?_
 refine⟨_,_,rfl,Ny rfl rfl,?_⟩
 exact⟨by simp[Qbd],(Gr.refl w)⟩
set_option maxHeartbeats 1000000 in
theorem Qtp (p:W2)(k:BitVec 64)(w:World):
 Calls Tryz.prog 162 [pv p,wv k].toArray w fun e w'=>∃ v,e=.returned v∧(v=pv (rnd p k)∧Gr w w'):=by
 refine Xi (R:=fun v w'=>v=pv (rnd p k)∧Gr w w') 21 Tryz.func162 rfl rfl rfl ?_
 refine Qe ?_
 refine Zg [(0,0),(1,0)] rfl rfl rfl ?_
 refine Km rfl rfl rfl (Xo rfl (by rfl)) ?_
 rintro _ w1 ⟨b1,rfl,hbw1,Bw1,Gw1⟩
 have z1:=Gw1.size
 have lt2:=Bw1.lt
 refine Km rfl rfl rfl (Xg Rn (by rfl)) ?_
 rintro _ w2 ⟨b2,rfl,hbw2,Bw2,Gw2⟩
 have z3:=Gw2.size
 have lt4:=Bw2.lt
 refine Qa ?_
 refine Qe ?_
 refine Qid [] [(0,3),(1,3),(3,3),(4,3),(6,3),(2,0),(5,3),(7,3),(8,3)] (by kernel_rfl) (by kernel_rfl) rfl (by kernel_rfl) ?_
 intro w3 Gw3 zw3
 refine Jm rfl rfl rfl (Kp.refl [] w3) (fun w hS=>Qh Uu rfl) ?_
 have B5:=(Bx.gr (Bx.gr Bw1 Gw2) Gw3)
 refine Jm rfl rfl rfl (Kp.refl [] w3) (fun w hS=>Qi Zw rfl (Bx.kp B5 hS (by simp<;>first|omega|(split<;>omega))) (by rfl)) ?_
 refine Jm rfl rfl rfl (Kp.refl [] w3) (fun w hS=>Qh Sy rfl) ?_
 refine Jm rfl rfl rfl (Kp.refl [] w3) (fun w hS=>Qi Zw rfl (Bx.kp B5 hS (by simp<;>first|omega|(split<;>omega))) (by rfl)) ?_
 refine Jm rfl rfl rfl (Kp.refl [] w3) (fun w hS=>Qt rfl) ?_
 refine Qjk rfl rfl rfl (Tw Qpw rfl (Qto _ (-8) 56 (by decide) (by decide) _)) ?_
 rintro _ w4 ⟨rfl,Gw4⟩
 have z6:=Gw4.size
 refine⟨Gw4,?_⟩
 have S7:=(Kp.gr (Kp.refl [] w3) Gw4)
 refine Jm rfl rfl rfl S7 (fun w hS=>Qe6 rfl rfl) ?_
 refine Jm rfl rfl rfl S7 (fun w hS=>Qvk rfl rfl) ?_
 refine Jm rfl rfl rfl S7 (fun w hS=>Kt rfl) ?_
 refine Qa ?_
 refine Qe ?_
 refine Zg [(0,0),(1,0),(2,0),(3,0),(4,0),(5,0),(6,0),(7,0)] rfl rfl rfl ?_
 refine Qu rfl rfl rfl (Qt rfl) ?_
 refine Qu rfl rfl rfl (Qh Sy rfl) ?_
 have B8:=(Bx.gr B5 Gw4)
 refine Qu rfl rfl rfl (Qi Zw rfl B8 (by rfl)) ?_
 refine Km rfl rfl rfl (Tw Qpw rfl (Qto _ (3) 3 (by decide) (by decide) _)) ?_
 rintro _ w5 ⟨rfl,Gw5⟩
 have z9:=Gw5.size
 refine Qu rfl rfl rfl (Qt rfl) ?_
 refine Qu rfl rfl rfl (Qvk rfl rfl) ?_
 refine Qu rfl rfl rfl (Zk Qoa rfl rfl) ?_
 have B10:=(Bx.gr (Bx.gr (Bx.gr Bw2 Gw3) Gw4) Gw5)
 refine Km rfl rfl rfl (Lk (Pz).siz rfl rfl (by rfl) (by rfl) (by rfl) B10 (by rfl)) ?_
 rintro _ w6 ⟨Bw6,Mw6⟩
 have z11:=Mw6.size
 refine Qa ?_
 refine Qq ?_
 have X12:Gr w w6:=(Gr.md (Gr.trans (Gr.trans (Gr.trans (Gr.trans (Gr.trans (Gr.refl w) Gw1) Gw2) Gw3) Gw4) Gw5) Mw6 (by omega))
 refine⟨_,_,rfl,Qbb rfl Pz rfl Bw6 (by rfl),?_⟩
 exact⟨rfl,X12⟩
set_option maxHeartbeats 1000000 in
theorem Qvm (p:W2)(w:World):
 Calls Tryz.prog 153 [kv p].toArray w fun e w'=>∃ v,e=.returned v∧(v=pv p∧Gr w w'):=by
 refine Xi (R:=fun v w'=>v=pv p∧Gr w w') 29 Tryz.func153 rfl rfl rfl ?_
 refine Qe ?_
 refine Zg [(0,0),(1,0)] rfl rfl rfl ?_
 refine Km rfl rfl rfl (Xo rfl (by rfl)) ?_
 rintro _ w1 ⟨b1,rfl,hbw1,Bw1,Gw1⟩
 have z1:=Gw1.size
 have lt2:=Bw1.lt
 refine Km rfl rfl rfl (Xg Rn (by rfl)) ?_
 rintro _ w2 ⟨b2,rfl,hbw2,Bw2,Gw2⟩
 have z3:=Gw2.size
 have lt4:=Bw2.lt
 refine Qa ?_
 refine Qe ?_
 refine Zg [(0,0)] rfl rfl rfl ?_
 refine Km rfl rfl rfl (Xg Rn (by rfl)) ?_
 rintro _ w3 ⟨b3,rfl,hbw3,Bw3,Gw3⟩
 have z5:=Gw3.size
 have lt6:=Bw3.lt
 refine Qa ?_
 refine Qe ?_
 refine Qe ?_
 refine Zg [(0,0)] rfl rfl rfl ?_
 refine Qu rfl rfl rfl (Qt rfl) ?_
 refine Qa ?_
 refine Xn ?_
 have X7:Gr w w3:=(Gr.trans (Gr.trans (Gr.trans (Gr.refl w) Gw1) Gw2) Gw3)
 refine Kf (α:=Nat) [4,5,6,7,8,9,10,11,12,13,14,15,16,17,18,19,20,21,22,23,24,25,26,27] (fun k=>[(5,.int .i64 (k:Int))]) (fun k wr=>(k≤8)∧Bx wr b3 227 ([wv (p.1 >>> (64-8*k)),wv (p.2 >>> (64-8*k))])∧Kp [b3] w3 wr) (fun k=>8-k) (0) ?_ ?_ ?_
 · repeat' first|exact trivial|refine⟨rfl,?_⟩
 · exact⟨by omega,(by rw[Nat.mul_zero,Nat.sub_zero,Qn3,Qn3];exact Bw3),Kp.refl _ _⟩
 rintro k w4 ⟨hk,Bw4_b3,Kw4⟩
 have z8:=Kw4.size
 refine Qe ?_
 refine Zg [(0,0)] rfl rfl rfl ?_
 refine Qu rfl rfl rfl (Jv rfl rfl) ?_
 refine Qa ?_
 refine Qe ?_
 refine Pq rfl (fun h1=>?_) (fun h1=>?_)
 · -- h1 True
   replace h1:=of_decide_eq_true h1
   refine Jn ?_
   refine Xl ?_
   refine Qe ?_
   refine Xn ?_
   refine Qe ?_
   refine Zg [(0,0),(1,0)] rfl rfl rfl ?_
   refine Qu rfl rfl rfl (Qt rfl) ?_
   refine Qu rfl rfl rfl (Kt rfl) ?_
   refine Qa ?_
   refine Qid [b3] [(0,3),(1,1),(2,3),(3,3),(4,3),(5,3),(6,3),(7,3),(8,3),(9,1),(10,3),(11,3),(12,3),(13,3),(14,3),(15,3),(16,3),(17,3),(18,2),(19,3),(20,2)] (by kernel_rfl) (by kernel_rfl) rfl (by kernel_rfl) ?_
   intro w5 Gw5 zw5
   refine Jm rfl rfl rfl (Kp.refl [b3] w5) (fun w hS=>Qh Uu rfl) ?_
   have B9:=(Bx.gr Bw4_b3 Gw5)
   refine Qpf rfl rfl rfl (Gr.refl w5) (fun w hS=>Qi Zw rfl (Bx.gr B9 hS) (by rfl)) ?_
   refine Jm rfl rfl rfl (Kp.refl [b3] w5) (fun w hS=>Qe8 rfl rfl (by omega)) ?_
   refine Jm rfl rfl rfl (Kp.refl [b3] w5) (fun w hS=>Qt rfl) ?_
   refine Jm rfl rfl rfl (Kp.refl [b3] w5) (fun w hS=>Ao Tryz.underlying39 (Zb).siz rfl rfl (by omega) (by omega)) ?_
   have B10:=(Bx.gr (Bx.kp (Bx.gr (Bx.gr Bw1 Gw2) Gw3) Kw4 (by simp<;>first|omega|(split<;>omega))) Gw5)
   refine Jm rfl rfl rfl (Kp.refl [b3] w5) (fun w hS=>Qi Zb rfl (Bx.kp B10 hS (by simp<;>first|omega|(split<;>omega))) (by exact Xba p k (by omega))) ?_
   refine Jm rfl rfl rfl (Kp.refl [b3] w5) (fun w hS=>Qij Bf rfl (Qoh _ _) (by have:=Qog p.1 k;omega)) ?_
   refine Jm rfl rfl rfl (Kp.refl [b3] w5) (fun w hS=>Qbq rfl rfl) ?_
   refine Jm rfl rfl rfl (Kp.refl [b3] w5) (fun w hS=>Qh Sy rfl) ?_
   refine Qpf rfl rfl rfl (Gr.refl w5) (fun w hS=>Qi Zw rfl (Bx.gr B9 hS) (by rfl)) ?_
   refine Jm rfl rfl rfl (Kp.refl [b3] w5) (fun w hS=>Qe8 rfl rfl (by omega)) ?_
   refine Jm rfl rfl rfl (Kp.refl [b3] w5) (fun w hS=>Qt rfl) ?_
   refine Jm rfl rfl rfl (Kp.refl [b3] w5) (fun w hS=>Hk rfl rfl (by omega) (by omega)) ?_
   refine Jm rfl rfl rfl (Kp.refl [b3] w5) (fun w hS=>Ao Tryz.underlying39 (Zb).siz rfl rfl (by omega) (by omega)) ?_
   refine Jm rfl rfl rfl (Kp.refl [b3] w5) (fun w hS=>Qi Zb rfl (Bx.kp B10 hS (by simp<;>first|omega|(split<;>omega))) (by exact Xb9 p k (by omega))) ?_
   refine Jm rfl rfl rfl (Kp.refl [b3] w5) (fun w hS=>Qij Bf rfl (Qoh _ _) (by have:=Qog p.2 k;omega)) ?_
   refine Jm rfl rfl rfl (Kp.refl [b3] w5) (fun w hS=>Qbq rfl rfl) ?_
   refine Jm rfl rfl rfl (Kp.refl [b3] w5) (fun w hS=>Qh Uu rfl) ?_
   refine Qcl (b:=b3) rfl rfl rfl rfl (Qct (Zw).siz rfl rfl rfl B9 (by simp)) (by first|exact Or.inl (by simp)|exact Or.inr (by omega)) ?_
   rintro _ w6 ⟨Bw6,Mw6⟩
   have z11:=Mw6.size
   refine⟨Mw6,?_⟩
   have S12:=(Kp.md (Kp.refl [b3] w5) Mw6 (by first|exact Or.inl (by simp)|exact Or.inr (by omega)))
   refine Jm rfl rfl rfl S12 (fun w hS=>Qh Sy rfl) ?_
   refine Qcl (b:=b3) rfl rfl rfl rfl (Qct (Zw).siz rfl rfl rfl Bw6 (by simp)) (by first|exact Or.inl (by simp)|exact Or.inr (by omega)) ?_
   rintro _ w7 ⟨Bw7,Mw7⟩
   have z13:=Mw7.size
   refine⟨Mw7,?_⟩
   refine Qk ?_
   refine Xh ?_
   refine Xl ?_
   refine Zg [(0,0),(1,0)] rfl rfl rfl ?_
   refine Qu rfl rfl rfl (Hk rfl rfl (by omega) (by omega)) ?_
   refine Qu rfl rfl rfl (Qt rfl) ?_
   refine Qk ?_
   have K_14:=(Kp.md (Kp.md (Kp.gr Kw4 Gw5) Mw6 (by simp<;>first|omega|(split<;>omega))) Mw7 (by simp<;>first|omega|(split<;>omega)))
   refine⟨rfl,k+1,?_,⟨?_,?_,K_14⟩,?_⟩
   · repeat' first|exact trivial|refine⟨rfl,?_⟩
   · omega
   · rw[←Qdy _ k (by omega),←Qdy _ k (by omega)];exact Bw7
   · first|omega|(dsimp only;omega)
 · -- h1 False
   replace h1:=of_decide_eq_false h1
   refine Jl ?_
   refine Xu ?_
   refine Xu ?_
   refine Jk ?_
   refine Xl ?_
   refine Qe ?_
   refine Zg [(0,0),(1,0)] rfl rfl rfl ?_
   refine Qu rfl rfl rfl (Xa Pz rfl Bw4_b3 (by rfl)) ?_
   have B15:=(Bx.kp (Bx.gr Bw2 Gw3) Kw4 (by simp<;>first|omega|(split<;>omega)))
   refine Km rfl rfl rfl (Lk (Pz).siz rfl rfl (by rfl) (by rfl) (by rfl) B15 (by rfl)) ?_
   rintro _ w8 ⟨Bw8,Mw8⟩
   have z16:=Mw8.size
   refine Qa ?_
   refine Qq ?_
   obtain rfl:k=8:=by omega
   have X17:Gr w w8:=(Gr.md (Gr.kp X7 Kw4 (by simp<;>first|omega|(split<;>omega))) Mw8 (by omega))
   refine⟨_,_,rfl,Qbb rfl Pz rfl Bw8 (by rfl),?_⟩
   exact⟨rfl,X17⟩
set_option maxHeartbeats 1000000 in
theorem Qo8 (p:W2)(w:World):
 Calls Tryz.prog 155 [pv p].toArray w fun e w'=>∃ v,e=.returned v∧(v=kv p∧Gr w w'):=by
 refine Xi (R:=fun v w'=>v=kv p∧Gr w w') 29 Tryz.func155 rfl rfl rfl ?_
 refine Qe ?_
 refine Zg [(0,0),(1,0)] rfl rfl rfl ?_
 refine Km rfl rfl rfl (Xo rfl (by rfl)) ?_
 rintro _ w1 ⟨b1,rfl,hbw1,Bw1,Gw1⟩
 have z1:=Gw1.size
 have lt2:=Bw1.lt
 refine Km rfl rfl rfl (Xg Yr (by rfl)) ?_
 rintro _ w2 ⟨b2,rfl,hbw2,Bw2,Gw2⟩
 have z3:=Gw2.size
 have lt4:=Bw2.lt
 refine Qa ?_
 refine Qe ?_
 refine Zg [(0,0)] rfl rfl rfl ?_
 refine Km rfl rfl rfl (Xg Yr (by rfl)) ?_
 rintro _ w3 ⟨b3,rfl,hbw3,Bw3,Gw3⟩
 have z5:=Gw3.size
 have lt6:=Bw3.lt
 refine Qa ?_
 refine Qe ?_
 refine Qe ?_
 refine Zg [(0,0)] rfl rfl rfl ?_
 refine Qu rfl rfl rfl (Qt rfl) ?_
 refine Qa ?_
 refine Xn ?_
 have X7:Gr w w3:=(Gr.trans (Gr.trans (Gr.trans (Gr.refl w) Gw1) Gw2) Gw3)
 refine Kf (α:=Nat) [4,5,6,7,8,9,10,11,12,13,14,15,16,17,18,19,20,21,22,23,24,25,26,27] (fun k=>[(5,.int .i64 (k:Int))]) (fun k wr=>(k≤8)∧Bx wr b3 39 (Fm p k)∧Kp [b3] w3 wr) (fun k=>8-k) (0) ?_ ?_ ?_
 · repeat' first|exact trivial|refine⟨rfl,?_⟩
 · exact⟨by omega,(by rw[Xbi];exact Bw3),Kp.refl _ _⟩
 rintro k w4 ⟨hk,Bw4_b3,Kw4⟩
 have z8:=Kw4.size
 refine Qe ?_
 refine Zg [(0,0)] rfl rfl rfl ?_
 refine Qu rfl rfl rfl (Jv rfl rfl) ?_
 refine Qa ?_
 refine Qe ?_
 refine Pq rfl (fun h1=>?_) (fun h1=>?_)
 · -- h1 True
   replace h1:=of_decide_eq_true h1
   refine Jn ?_
   refine Xl ?_
   refine Qe ?_
   refine Xn ?_
   refine Qe ?_
   refine Zg [(0,0),(1,0)] rfl rfl rfl ?_
   refine Qu rfl rfl rfl (Qt rfl) ?_
   refine Qu rfl rfl rfl (Kt rfl) ?_
   refine Qa ?_
   refine Qid [b3] [(0,3),(1,3),(2,3),(3,3),(4,3),(5,3),(6,3),(7,3),(8,3),(9,3),(10,3),(11,3),(12,3),(13,3),(14,3),(15,3),(16,3),(17,3),(18,2),(19,3),(20,2)] (by kernel_rfl) (by kernel_rfl) rfl (by kernel_rfl) ?_
   intro w5 Gw5 zw5
   refine Jm rfl rfl rfl (Kp.refl [b3] w5) (fun w hS=>Qt rfl) ?_
   refine Jm rfl rfl rfl (Kp.refl [b3] w5) (fun w hS=>Qt rfl) ?_
   refine Jm rfl rfl rfl (Kp.refl [b3] w5) (fun w hS=>Hk rfl rfl (by omega) (by omega)) ?_
   refine Jm rfl rfl rfl (Kp.refl [b3] w5) (fun w hS=>Qh Uu rfl) ?_
   have B9:=(Bx.gr (Bx.kp (Bx.gr (Bx.gr Bw1 Gw2) Gw3) Kw4 (by simp<;>first|omega|(split<;>omega))) Gw5)
   refine Jm rfl rfl rfl (Kp.refl [b3] w5) (fun w hS=>Qi Zw rfl (Bx.kp B9 hS (by simp<;>first|omega|(split<;>omega))) (by rfl)) ?_
   refine Jm rfl rfl rfl (Kp.refl [b3] w5) (fun w hS=>Qt rfl) ?_
   refine Jm rfl rfl rfl (Kp.refl [b3] w5) (fun w hS=>Qve rfl rfl (by omega) (by omega)) ?_
   refine Jm rfl rfl rfl (Kp.refl [b3] w5) (fun w hS=>Qvi rfl rfl (by omega) (by omega)) ?_
   refine Jm rfl rfl rfl (Kp.refl [b3] w5) (fun w hS=>Qiq rfl rfl (by omega)) ?_
   refine Jm rfl rfl rfl (Kp.refl [b3] w5) (fun w hS=>Qnd Gl rfl) ?_
   refine Jm rfl rfl rfl (Kp.refl [b3] w5) (fun w hS=>Qh Sy rfl) ?_
   refine Jm rfl rfl rfl (Kp.refl [b3] w5) (fun w hS=>Qi Zw rfl (Bx.kp B9 hS (by simp<;>first|omega|(split<;>omega))) (by rfl)) ?_
   refine Jm rfl rfl rfl (Kp.refl [b3] w5) (fun w hS=>Qt rfl) ?_
   refine Jm rfl rfl rfl (Kp.refl [b3] w5) (fun w hS=>Qve rfl rfl (by omega) (by omega)) ?_
   refine Jm rfl rfl rfl (Kp.refl [b3] w5) (fun w hS=>Qvi rfl rfl (by omega) (by omega)) ?_
   refine Jm rfl rfl rfl (Kp.refl [b3] w5) (fun w hS=>Qiq rfl rfl (by omega)) ?_
   refine Jm rfl rfl rfl (Kp.refl [b3] w5) (fun w hS=>Qnd Gl rfl) ?_
   refine Jm rfl rfl rfl (Kp.refl [b3] w5) (fun w hS=>Ao Tryz.underlying39 (Zb).siz rfl rfl (by omega) (by omega)) ?_
   have B10:=(Bx.gr Bw4_b3 Gw5)
   refine Qcl (b:=b3) rfl rfl rfl rfl (Qct (Zb).siz rfl rfl rfl B10 (by rw[Qrs];omega)) (by first|exact Or.inl (by simp)|exact Or.inr (by omega)) ?_
   rintro _ w6 ⟨Bw6,Mw6⟩
   have z11:=Mw6.size
   refine⟨Mw6,?_⟩
   have S12:=(Kp.md (Kp.refl [b3] w5) Mw6 (by first|exact Or.inl (by simp)|exact Or.inr (by omega)))
   refine Jm rfl rfl rfl S12 (fun w hS=>Ao Tryz.underlying39 (Zb).siz rfl rfl (by omega) (by omega)) ?_
   refine Qcl (b:=b3) rfl rfl rfl rfl (Qct (Zb).siz rfl rfl rfl Bw6 (by rw[List.length_set,Qrs];omega)) (by first|exact Or.inl (by simp)|exact Or.inr (by omega)) ?_
   rintro _ w7 ⟨Bw7,Mw7⟩
   have z13:=Mw7.size
   refine⟨Mw7,?_⟩
   refine Qk ?_
   refine Xh ?_
   refine Xl ?_
   refine Zg [(0,0),(1,0)] rfl rfl rfl ?_
   refine Qu rfl rfl rfl (Hk rfl rfl (by omega) (by omega)) ?_
   refine Qu rfl rfl rfl (Qt rfl) ?_
   refine Qk ?_
   have K_14:=(Kp.md (Kp.md (Kp.gr Kw4 Gw5) Mw6 (by simp<;>first|omega|(split<;>omega))) Mw7 (by simp<;>first|omega|(split<;>omega)))
   refine⟨rfl,k+1,?_,⟨?_,?_,K_14⟩,?_⟩
   · repeat' first|exact trivial|refine⟨rfl,?_⟩
   · omega
   · rw[←Xbj p k (by omega)];exact Bw7
   · first|omega|(dsimp only;omega)
 · -- h1 False
   replace h1:=of_decide_eq_false h1
   refine Jl ?_
   refine Xu ?_
   refine Xu ?_
   refine Jk ?_
   refine Xl ?_
   refine Qe ?_
   obtain rfl:k=8:=by omega
   refine Zg [(0,0),(1,0)] rfl rfl rfl ?_
   refine Qu rfl rfl rfl (Xa Xk rfl Bw4_b3 (by rfl)) ?_
   have B15:=(Bx.kp (Bx.gr Bw2 Gw3) Kw4 (by simp<;>first|omega|(split<;>omega)))
   refine Km rfl rfl rfl (Lk (Xk).siz rfl rfl (by rfl) (by rfl) (by rfl) B15 (by rfl)) ?_
   rintro _ w8 ⟨Bw8,Mw8⟩
   have z16:=Mw8.size
   refine Qa ?_
   refine Qq ?_
   have X17:Gr w w8:=(Gr.md (Gr.kp X7 Kw4 (by simp<;>first|omega|(split<;>omega))) Mw8 (by omega))
   refine⟨_,_,rfl,Qbb rfl Xk rfl Bw8 (by rfl),?_⟩
   exact⟨rfl,X17⟩
end Go.Proofs.YtopkalcefepilaaGreat

end
section
set_option linter.unusedVariables false
set_option linter.unusedSimpArgs false
namespace Go.Proofs.YtopkalcefepilaaGreat
open Go Go.RowKit Go.Sx
theorem Qf2:En Tryz.prog 153:=fun _ _=>by kernel_rfl
theorem Wu:CV Tryz.prog 3 22 .u64:=fun _ _ _=>by kernel_rfl
theorem Qpv:En Tryz.prog 162:=fun _ _=>by kernel_rfl
theorem Qyp:En Tryz.prog 152:=fun _ _=>by kernel_rfl
theorem Qyt:En Tryz.prog 185:=fun _ _=>by kernel_rfl
theorem Qpu:En Tryz.prog 155:=fun _ _=>by kernel_rfl
def Nq (k:W2):List (List Value):=(List.range 32).map fun(i:Nat)=>[.int .i64 (i:Int),wv (ks k i).2]
theorem Qg3 (k:W2):(Nq k).length=32:=by simp[Nq]
theorem Qrp (k:W2)(i:Nat)(h:i<32):(Nq k)[i]? = some [.int .i64 (i:Int),wv (ks k i).2]:=by simp[Nq,h]
set_option maxHeartbeats 1000000 in
theorem Xbg (k:W2)(b:Nat)(w0:World)(hb:Bx w0 b 39 (kb k)):
 IT Tryz.prog 185 [.pointer (some ⟨b,0,none⟩)] (Nq k) [b] w0:=by
 intro l J Jx w fp hG hJ hJx hcap h0 hY
 have Bc0:=Bx.gr hb hG
 have lt1:=Bc0.lt
 refine Xi (R:=fun v w'=>Kp fp w w'∧((∃ fp',(∀ c∈fp',c∈fp∨w.heap.size≤c)∧J (Nq k).length fp' w')∨(∃ j fp',(∀ c∈fp',c∈fp∨w.heap.size≤c)∧j≤(Nq k).length∧Jx j fp' w'))) 21 Tryz.func185 rfl rfl rfl ?_
 refine Qe ?_
 refine Zg [(0,0),(1,0),(2,0),(3,0)] rfl rfl rfl ?_
 refine Qu rfl rfl rfl (Xa Xk rfl Bc0 (by rfl)) ?_
 refine Km rfl rfl rfl (Tw Qf2 rfl (Qvm _ _)) ?_
 rintro _ w1 ⟨rfl,Gw1⟩
 have z2:=Gw1.size
 refine Km rfl rfl rfl (Xg Rn (by rfl)) ?_
 rintro _ w2 ⟨b2,rfl,hbw2,Bw2,Gw2⟩
 have z3:=Gw2.size
 have lt4:=Bw2.lt
 refine Km rfl rfl rfl (Lk (Pz).siz rfl rfl (by rfl) (by rfl) (by rfl) Bw2 (by rfl)) ?_
 rintro _ w3 ⟨Bw3,Mw3⟩
 have z5:=Mw3.size
 refine Qa ?_
 refine Qe ?_
 refine Zg [(0,0)] rfl rfl rfl ?_
 refine Qu rfl rfl rfl (Qt rfl) ?_
 refine Qa ?_
 refine Xn ?_
 have hz0:b2∉fp:=fun h=>by have:=hJ.lt h0 b2 h;omega
 have hk0:Kp fp w w3:=((Gr.toKp Gw1).gr Gw2).md Mw3 (.inr (by omega))
 have hj0:J 0 fp w3:=hJ.md (hJ.gr (hJ.gr h0 Gw1) Gw2) Mw3 hz0
 have B6:=(Bx.md (Bx.gr (Bx.gr Bc0 Gw1) Gw2) Mw3 (by omega))
 refine Kf (α:=Nat) [4,7,8,9,10,11,12,13,14,15,16,17,18,19,20] (fun i=>[(7,.int .i64 (i:Int))]) (fun i wr=>(i≤32∧∃ f,J i f wr∧Kp fp w wr∧(∀ c∈f,c∈fp∨w.heap.size≤c)∧b∉f∧b2∉f)∧Bx wr b 39 (kb k)∧Bx wr b2 227 ([wv (ks k i).1,wv (ks k i).2])∧True) (fun i=>32-i) (0) ?_ ?_ ?_
 · repeat' first|exact trivial|refine⟨rfl,?_⟩
 · exact⟨⟨by omega,fp,hj0,hk0,fun c hc=>.inl hc,hcap b (by simp),hz0⟩,B6,Bw3,trivial⟩
 rintro i w4 ⟨⟨hi,f,hj,hk,hf,hbf,hpf⟩,Bw4_b,Bw4_b2,Kw4⟩
 have lt7:=Bw4_b.lt
 have lt8:=Bw4_b2.lt
 refine Qe ?_
 refine Zg [(0,0)] rfl rfl rfl ?_
 refine Qu rfl rfl rfl (Jv rfl rfl) ?_
 refine Qa ?_
 refine Qe ?_
 refine Pq rfl (fun h1=>?_) (fun h1=>?_)
 · -- h1 True
   replace h1:=of_decide_eq_true h1
   refine Jn ?_
   refine Xl ?_
   refine Qe ?_
   refine Xn ?_
   refine Qe ?_
   refine Zg [(0,0),(1,0)] rfl rfl rfl ?_
   refine Qu rfl rfl rfl (Qt rfl) ?_
   refine Qu rfl rfl rfl (Kt rfl) ?_
   refine Qa ?_
   refine Qe ?_
   refine Qe ?_
   refine Zg [(0,0),(1,0),(2,0),(3,0),(4,0),(5,0)] rfl rfl rfl ?_
   refine Qu rfl rfl rfl (Qt rfl) ?_
   refine Qu rfl rfl rfl (Qt rfl) ?_
   refine Qu rfl rfl rfl (Qh Sy rfl) ?_
   refine Qu rfl rfl rfl (Qi Zw rfl Bw4_b2 (by rfl)) ?_
   refine Km rfl rfl rfl (Bj rfl rfl (hY i _ f _ (Qrp k i (by omega)) hj hk hf)) ?_
   rintro _ w5 ⟨y1,rfl,Kw5,fw5,Fw5,Jw5⟩
   have z9:=Kw5.size
   have hk5:Kp fp w w5:=hk.trans Kw5 hf
   have hf5:=Na hf Fw5 hk.size
   have hn2:b2∉fw5:=Ke Fw5 hpf lt8
   refine Qu rfl rfl rfl (Kd rfl) ?_
   refine Qa ?_
   refine Pq rfl (fun h2=>?_) (fun h2=>?_)
   · -- h2 True
     replace h2:=Xcn h2
     subst h2
     refine Qq ?_
     refine Xz ?_
     refine Jf ?_
     refine Xz ?_
     refine Xz ?_
     refine Jf ?_
     refine⟨_,_,rfl,Hj rfl,?_⟩
     exact⟨hk5,.inr ⟨i+1,fw5,hf5,by rw[Qg3];omega,Jw5⟩⟩
   · -- h2 False
     replace h2:=Xcm h2
     subst h2
     refine Jn ?_
     refine Xl ?_
     refine Zg [(0,0),(1,0),(2,0),(3,0),(4,0)] rfl rfl rfl ?_
     have B10:=(Bx.kp Bw4_b2 Kw5 hpf)
     refine Qu rfl rfl rfl (Xa Pz rfl B10 (by rfl)) ?_
     refine Qu rfl rfl rfl (Qt rfl) ?_
     refine Qu rfl rfl rfl (Qij Wu rfl (by omega) (by omega)) ?_
     refine Km rfl rfl rfl (Tw Qpv rfl (Qtp _ _ _)) ?_
     rintro _ w6 ⟨rfl,Gw6⟩
     have z11:=Gw6.size
     have B12:=(Bx.gr B10 Gw6)
     refine Km rfl rfl rfl (Lk (Pz).siz rfl rfl (by rfl) (by rfl) (by rfl) B12 (by rfl)) ?_
     rintro _ w7 ⟨Bw7,Mw7⟩
     have z13:=Mw7.size
     refine Qk ?_
     refine Xh ?_
     refine Xl ?_
     refine Zg [(0,0),(1,0)] rfl rfl rfl ?_
     refine Qu rfl rfl rfl (Hk rfl rfl (by omega) (by omega)) ?_
     refine Qu rfl rfl rfl (Qt rfl) ?_
     refine Qk ?_
     have B15:=(Bx.md (Bx.gr (Bx.kp Bw4_b Kw5 hbf) Gw6) Mw7 (by omega))
     refine⟨rfl,i+1,?_,⟨?_,?_,?_,trivial⟩,?_⟩
     · repeat' first|exact trivial|refine⟨rfl,?_⟩
     · exact⟨by omega,fw5,hJ.md (hJ.gr Jw5 Gw6) Mw7 hn2,(hk5.gr Gw6).md Mw7 (.inr (by omega)),hf5,Ke Fw5 hbf lt7,hn2⟩
     · exact B15
     · exact Bw7
     · first|omega|(dsimp only;omega)
 · -- h1 False
   replace h1:=of_decide_eq_false h1
   refine Jl ?_
   refine Xu ?_
   refine Xu ?_
   refine Jk ?_
   refine⟨_,_,rfl,Hj rfl,?_⟩
   obtain rfl:i=32:=by omega
   exact⟨hk,.inl ⟨f,hf,by rw[Qg3];exact hj⟩⟩
set_option maxHeartbeats 1000000 in
theorem Xbf (k:W2)(w:World):
 Calls Tryz.prog 152 [kv k].toArray w fun e w'=>∃ v,e=.returned v∧(∃ b,v=.func (.func 185) #[] [.pointer (some ⟨b,0,none⟩)].toArray∧w.heap.size≤b∧Bx w' b 39 (kb k)∧Gr w w'):=by
 refine Xi (R:=fun v w'=>∃ b,v=.func (.func 185) #[] [.pointer (some ⟨b,0,none⟩)].toArray∧w.heap.size≤b∧Bx w' b 39 (kb k)∧Gr w w') 4 Tryz.func152 rfl rfl rfl ?_
 refine Qe ?_
 refine Zg [(0,0),(1,0)] rfl rfl rfl ?_
 refine Km rfl rfl rfl (Xo rfl (by rfl)) ?_
 rintro _ w1 ⟨b1,rfl,hbw1,Bw1,Gw1⟩
 have z1:=Gw1.size
 have lt2:=Bw1.lt
 refine Qu rfl rfl rfl (Kt rfl) ?_
 refine Qa ?_
 refine Qe ?_
 refine Zg [(0,0),(1,0)] rfl rfl rfl ?_
 refine Qu rfl rfl rfl (Tu rfl rfl) ?_
 refine Qu rfl rfl rfl (Kt rfl) ?_
 refine Qa ?_
 refine Qq ?_
 have X3:Gr w w1:=(Gr.trans (Gr.refl w) Gw1)
 refine⟨_,_,rfl,Ny rfl rfl,?_⟩
 exact⟨b1,rfl,hbw1,Bw1,X3⟩
def Qcq (k b:W2)(n:Nat):W2:=(List.range n).foldl (fun p i=>rnd p (ks k i).2) b
theorem Qzn (k b:W2)(n:Nat):Qcq k b (n+1)=rnd (Qcq k b n) (ks k n).2:=by simp[Qcq,List.range_succ]
theorem Xbd {k:W2}{i:Nat}{x:List Value}(h:(Nq k)[i]? = some x):i<32∧x=[.int .i64 (i:Int),wv (ks k i).2]:=by
 have hi:i<32:=by have:=(List.getElem?_eq_some_iff.1 h).1;rwa[Qg3] at this
 rw[Qrp k i hi] at h;exact⟨hi,by simpa using h.symm⟩
theorem Xbe (k:W2):∀ x∈Nq k,x.length=2:=by intro x hx;simp[Nq] at hx;obtain⟨i,_,rfl⟩:=hx;rfl
set_option maxHeartbeats 1000000 in
theorem Qfe (k b:W2)(w:World):
 Calls Tryz.prog 121 [kv k,kv b].toArray w fun e w'=>∃ v,e=.returned v∧(v=kv (Wz k b)∧Gr w w'):=by
 refine Xi (R:=fun v w'=>v=kv (Wz k b)∧Gr w w') 19 Tryz.func121 rfl rfl rfl ?_
 refine Qe ?_
 refine Zg [(0,0),(1,0),(2,0)] rfl rfl rfl ?_
 refine Km rfl rfl rfl (Xo rfl (by rfl)) ?_
 rintro _ w1 ⟨b1,rfl,hbw1,Bw1,Gw1⟩
 have z1:=Gw1.size
 have lt2:=Bw1.lt
 refine Km rfl rfl rfl (Xo rfl (by rfl)) ?_
 rintro _ w2 ⟨b2,rfl,hbw2,Bw2,Gw2⟩
 have z3:=Gw2.size
 have lt4:=Bw2.lt
 refine Km rfl rfl rfl (Xg Yr (by rfl)) ?_
 rintro _ w3 ⟨b3,rfl,hbw3,Bw3,Gw3⟩
 have z5:=Gw3.size
 have lt6:=Bw3.lt
 refine Qa ?_
 refine Qe ?_
 refine Zg [(0,0),(1,0),(2,0),(3,0)] rfl rfl rfl ?_
 have B7:=(Bx.gr Bw2 Gw3)
 refine Qu rfl rfl rfl (Xa Xk rfl B7 (by rfl)) ?_
 refine Km rfl rfl rfl (Tw Qf2 rfl (Qvm _ _)) ?_
 rintro _ w4 ⟨rfl,Gw4⟩
 have z8:=Gw4.size
 refine Km rfl rfl rfl (Xg Rn (by rfl)) ?_
 rintro _ w5 ⟨b5,rfl,hbw5,Bw5,Gw5⟩
 have z9:=Gw5.size
 have lt10:=Bw5.lt
 refine Km rfl rfl rfl (Lk (Pz).siz rfl rfl (by rfl) (by rfl) (by rfl) Bw5 (by rfl)) ?_
 rintro _ w6 ⟨Bw6,Mw6⟩
 have z11:=Mw6.size
 refine Qa ?_
 refine Qe ?_
 refine Qe ?_
 refine Zg [(0,0),(1,0)] rfl rfl rfl ?_
 have B12:=(Bx.md (Bx.gr (Bx.gr (Bx.gr (Bx.gr Bw1 Gw2) Gw3) Gw4) Gw5) Mw6 (by omega))
 refine Qu rfl rfl rfl (Xa Xk rfl B12 (by rfl)) ?_
 refine Km rfl rfl rfl (Tw Qyp rfl (Xbf _ _)) ?_
 rintro _ w7 ⟨b7,rfl,hb7,Bk7,Gw7⟩
 have z13:=Gw7.size
 have lt14:=Bk7.lt
 refine Qa ?_
 refine Xn ?_
 have X15:Gr w w7:=(Gr.trans (Gr.md (Gr.trans (Gr.trans (Gr.trans (Gr.trans (Gr.trans (Gr.refl w) Gw1) Gw2) Gw3) Gw4) Gw5) Mw6 (by omega)) Gw7)
 have B16:=(Bx.gr Bw6 Gw7)
 refine Rl (gf:=185) (xs:=Nq k) (cap:=[b7]) rfl Qyt (Xbg k b7 _ Bk7) (Xbe k) rfl (fun rk fp W=>fp=[b5]∧Bx W b5 227 ([wv (Qcq k b rk).1,wv (Qcq k b rk).2])) (fun _ _ _ _=>False) [b5] (Xg0 _ _ _) (fun _=>Al) (by simp<;>omega) (⟨rfl,B16⟩) ?_ ?_ ?_
 · rintro l rk x fp w8 hl hx ⟨rfl,Bw8⟩ Kw8 hF hln Jc
   have z17:=Kw8.size
   obtain⟨hi,rfl⟩:=Xbd hx
   refine Zg [(0,0)] rfl rfl rfl ?_
   refine Qu rfl rfl rfl (Kt rfl) ?_
   refine Qk ?_
   refine⟨rfl,(Gr.refl _),?_⟩
   rintro w9 Mw9 ⟨_,Bw9⟩
   have z18:=Mw9.size
   refine Xn ?_
   refine Zg [(0,0),(1,0),(2,0),(3,0)] rfl rfl rfl ?_
   refine Qu rfl rfl rfl (Xa Pz rfl Bw9 (by rfl)) ?_
   refine Qu rfl rfl rfl (Qt rfl) ?_
   refine Km rfl rfl rfl (Tw Qpv rfl (Qtp _ _ _)) ?_
   rintro _ w10 ⟨rfl,Gw10⟩
   have z19:=Gw10.size
   have B20:=(Bx.gr Bw9 Gw10)
   refine Km rfl rfl rfl (Lk (Pz).siz rfl rfl (by rfl) (by rfl) (by rfl) B20 (by rfl)) ?_
   rintro _ w11 ⟨Bw11,Mw11⟩
   have z21:=Mw11.size
   refine Qk ?_
   refine Xh ?_
   refine⟨(Kp.md (Kp.gr (Kp.refl _ _) Gw10) Mw11 (by first|exact Or.inl (by simp)|exact Or.inr (by omega))),_,fun c hc=>.inl hc,?_⟩
   exact⟨rfl,by rw[Qzn];exact Bw11⟩
 · rintro Dw12 fp w12 hDw12 Dfw12 nw12 ⟨rfl,Bw12⟩ Kw12
   have z22:=Kw12.size
   have lt22:=Df.lt (w:=w12) Dfw12
   rw[Qg3] at Bw12
   refine Xh ?_
   refine Xl ?_
   refine Qe ?_
   refine Zg [(0,0),(1,0),(2,0)] rfl rfl rfl ?_
   refine Qu rfl rfl rfl (Xa Pz rfl Bw12 (by rfl)) ?_
   refine Km rfl rfl rfl (Tw Qpu rfl (Qo8 _ _)) ?_
   rintro _ w13 ⟨rfl,Gw13⟩
   have z23:=Gw13.size
   have B24:=(Bx.gr (Bx.kp (Bx.gr (Bx.md (Bx.gr (Bx.gr Bw3 Gw4) Gw5) Mw6 (by omega)) Gw7) Kw12 (by simp<;>first|omega|(split<;>omega))) Gw13)
   refine Km rfl rfl rfl (Lk (Xk).siz rfl rfl (by rfl) (by rfl) (by rfl) B24 (by rfl)) ?_
   rintro _ w14 ⟨Bw14,Mw14⟩
   have z25:=Mw14.size
   refine Qa ?_
   refine Qq ?_
   have DL26:=(Df.md (Df.gr Dfw12 Gw13) Mw14 (by omega))
   have L26:=Md.put (w:=w14) Dw12 (.deferred none)
   have zL26:=L26.size
   have B27:=(Bx.md Bw14 L26 (by omega))
   have X28:Gr w (w14.putObj Dw12 (.deferred none)):=(Gr.md (Gr.md (Gr.trans (Gr.kp X15 Kw12 (by simp<;>first|omega|(split<;>omega))) Gw13) Mw14 (by omega)) L26 (by omega))
   refine⟨_,_,⟨Dw12,rfl,DL26,rfl⟩,Qbb rfl Xk rfl B27 (by rfl),?_⟩
   exact⟨rfl,X28⟩
 · rintro _ _ _ _ _ _ _ _ _ h _
   exact h.elim
end Go.Proofs.YtopkalcefepilaaGreat

end
section
set_option linter.unusedVariables false
set_option linter.unusedSimpArgs false
namespace Go.Proofs.YtopkalcefepilaaGreat
open Go Go.RowKit Go.Sx
theorem Qyf:En Tryz.prog 125:=fun _ _=>by kernel_rfl
theorem Qcn:En Tryz.prog 121:=fun _ _=>by kernel_rfl
set_option maxHeartbeats 1000000 in
theorem Qwf (tag:Int)(h0:0≤tag)(h1:tag≤255)(c n:BitVec 64)(w:World):
 Calls Tryz.prog 125 [.int .u8 tag,wv c,wv n].toArray w fun e w'=>∃ v,e=.returned v∧(v=kv (blk tag c n)∧Gr w w'):=by
 refine Xi (R:=fun v w'=>v=kv (blk tag c n)∧Gr w w') 15 Tryz.func125 rfl rfl rfl ?_
 refine Qe ?_
 refine Zg [(0,0)] rfl rfl rfl ?_
 refine Km rfl rfl rfl (Xg Yr (by rfl)) ?_
 rintro _ w1 ⟨b1,rfl,hbw1,Bw1,Gw1⟩
 have z1:=Gw1.size
 have lt2:=Bw1.lt
 refine Qa ?_
 refine Qe ?_
 refine Zg [(0,0),(1,0),(2,0),(3,0),(4,0),(5,0),(6,0),(7,0),(8,0)] rfl rfl rfl ?_
 refine Qu rfl rfl rfl (Qt rfl) ?_
 refine Qu rfl rfl rfl (Qij Bf rfl (by omega) (by omega)) ?_
 refine Qu rfl rfl rfl (Qe8 rfl rfl (by omega)) ?_
 refine Qu rfl rfl rfl (Qt rfl) ?_
 refine Qu rfl rfl rfl (Qbq rfl rfl) ?_
 refine Qu rfl rfl rfl (Qt rfl) ?_
 refine Qu rfl rfl rfl (Zk Qoa rfl rfl) ?_
 refine Km rfl rfl rfl (Tw Qpu rfl (Qo8 (blk tag c n) _)) ?_
 rintro _ w2 ⟨rfl,Gw2⟩
 have z3:=Gw2.size
 have B4:=(Bx.gr Bw1 Gw2)
 refine Km rfl rfl rfl (Lk (Xk).siz rfl rfl (by rfl) (by rfl) (by rfl) B4 (by rfl)) ?_
 rintro _ w3 ⟨Bw3,Mw3⟩
 have z5:=Mw3.size
 refine Qa ?_
 refine Qq ?_
 have X6:Gr w w3:=(Gr.md (Gr.trans (Gr.trans (Gr.refl w) Gw1) Gw2) Mw3 (by omega))
 refine⟨_,_,rfl,Qbb rfl Xk rfl Bw3 (by rfl),?_⟩
 exact⟨rfl,X6⟩
set_option maxHeartbeats 1000000 in
theorem Dd (k:W2)(tag:Int)(h0:0≤tag)(h1:tag≤255)(n:BitVec 64)(w:World):
 Calls Tryz.prog 68 [kv k,.int .u8 tag,wv n].toArray w fun e w'=>∃ v,e=.returned v∧(v=kv (Xy k tag n)∧Gr w w'):=by
 refine Xi (R:=fun v w'=>v=kv (Xy k tag n)∧Gr w w') 12 Tryz.func68 rfl rfl rfl ?_
 refine Qe ?_
 refine Zg [(0,0),(1,0)] rfl rfl rfl ?_
 refine Km rfl rfl rfl (Xo rfl (by rfl)) ?_
 rintro _ w1 ⟨b1,rfl,hbw1,Bw1,Gw1⟩
 have z1:=Gw1.size
 have lt2:=Bw1.lt
 refine Km rfl rfl rfl (Xg Yr (by rfl)) ?_
 rintro _ w2 ⟨b2,rfl,hbw2,Bw2,Gw2⟩
 have z3:=Gw2.size
 have lt4:=Bw2.lt
 refine Qa ?_
 refine Qe ?_
 refine Qid [b2] [(0,3),(1,3),(2,3),(3,0),(4,0),(5,2)] (by kernel_rfl) (by kernel_rfl) rfl (by kernel_rfl) ?_
 intro w3 Gw3 zw3
 have B5:=(Bx.gr (Bx.gr Bw1 Gw2) Gw3)
 refine Jm rfl rfl rfl (Kp.refl [b2] w3) (fun w hS=>Xa Xk rfl (Bx.kp B5 hS (by simp<;>first|omega|(split<;>omega))) (by rfl)) ?_
 refine Jm rfl rfl rfl (Kp.refl [b2] w3) (fun w hS=>Qt rfl) ?_
 refine Jm rfl rfl rfl (Kp.refl [b2] w3) (fun w hS=>Qt rfl) ?_
 refine Qjk rfl rfl rfl (Tw Qyf rfl (Qwf _ (by omega) (by omega) 0#64 _ _)) ?_
 rintro _ w4 ⟨rfl,Gw4⟩
 have z6:=Gw4.size
 refine⟨Gw4,?_⟩
 refine Qjk rfl rfl rfl (Tw Qcn rfl (Qfe _ _ _)) ?_
 rintro _ w5 ⟨rfl,Gw5⟩
 have z7:=Gw5.size
 refine⟨Gw5,?_⟩
 have B8:=(Bx.gr (Bx.gr (Bx.gr Bw2 Gw3) Gw4) Gw5)
 refine Qcl (b:=b2) rfl rfl rfl rfl (Lk (Xk).siz rfl rfl (by rfl) (by rfl) (by rfl) B8 (by rfl)) (by first|exact Or.inl (by simp)|exact Or.inr (by omega)) ?_
 rintro _ w6 ⟨Bw6,Mw6⟩
 have z9:=Mw6.size
 refine⟨Mw6,?_⟩
 refine Qa ?_
 refine Qq ?_
 have X10:Gr w w6:=(Gr.md (Gr.trans (Gr.trans (Gr.trans (Gr.trans (Gr.trans (Gr.refl w) Gw1) Gw2) Gw3) Gw4) Gw5) Mw6 (by omega))
 refine⟨_,_,rfl,Qbb rfl Xk rfl Bw6 (by rfl),?_⟩
 exact⟨rfl,X10⟩
end Go.Proofs.YtopkalcefepilaaGreat

end
section
set_option linter.unusedVariables false
set_option linter.unusedSimpArgs false
namespace Go.Sx
open Go Go.RowKit
section
variable {P:Program} {L:Slots} {w:World} {dst:Option Nat} {ty:TypeId} {pos:String} {af:Array Edge} {gu:Option (Nat × Bool)} {x y p q r:Operand} {t e:TypeId} {v:Value} {z g o sz:Nat} {α:Type} {l m:List α} {c:α→List Value} {lo hi:Int} {kl kh km:IntKind}
theorem Qn0 {ρ:Operand→Value}{a:Option Addr}{len cap:Nat}(hρ:Gb L ρ)(hu:P.underlying t=some (.slice e))(hs:Vu P e sz)(hp:ev L p=some (.int kl lo))(hq:ev L q=some (.int kh hi))(hm:ev L r=some (.int km hi))(h0:0≤lo)(h1:lo≤hi)(h2:hi≤(cap:Int)):
 (Instr.sliceAt t (.slice a len cap) (some (ρ p)) (some (ρ q)) (some (ρ r))).run P w=.ok (sliced a lo.toNat hi.toNat hi.toNat sz) w:=by
 have he:P.elem t=e:=by simp[Program.elem,hu]
 have hu':P.underlying t=some (.slice (P.elem t)):=by rw[he];exact hu
 rw[run_sliceAt_slice _ _ _ _ _ _ hu',hρ _ _ hp,hρ _ _ hq,hρ _ _ hm,run_slice_lhm _ _ _ _ _ hu' _ _ _ _ _ _ h0 h1 (by omega) h2,he,hs w];simp[Result.andThen]
theorem Qio (hu:P.underlying t=some (.slice e))(hs:Vu P e sz)(hx:ev L x=some v)(hr:Rd w z g o sz v (l.map c))(hp:ev L p=some (.int kl lo))(hq:ev L q=some (.int kh hi))(hmx:ev L r=some (.int km hi))(hl:La l lo hi=some m):
 ∃ v' o',(∀ w1,VV P L ⟨dst,.slice t x (some p) (some q) (some r),ty,pos,af,gu⟩ w1 v')∧Rd w z g o' sz v' (m.map c):=by
 obtain⟨rfl,h3,h4,h5⟩:=Qu2 hl
 rcases hr.2 with⟨hz,hnil,a,cap,rfl⟩|⟨hz,cap,rfl,⟨hg,hcap⟩,hcell⟩
 · have hl0:l=[]:=by simpa using hnil
   subst hl0
   simp only[List.length_nil] at h5
   have e1:lo=0:=by omega
   have e2:hi=0:=by omega
   subst e1 e2
   refine⟨_,0,fun w1 ρ hρ=>Hs (by rw[hρ _ _ hx];exact Qn0 hρ hu hs hp hq hmx (by omega) (by omega) (by omega)),by simpa using hr.1,.inl ⟨hz,by simp,?_⟩⟩
   exact⟨_,_,rfl⟩
 · rw[List.length_map] at hcap hx
   have hlen:((l.map c).take hi.toNat).length=hi.toNat:=by rw[List.length_take,List.length_map];omega
   have hm:(((l.take hi.toNat).drop lo.toNat).map c)=((l.map c).take hi.toNat).drop lo.toNat:=by rw[List.map_drop,List.map_take]
   have hml:(((l.take hi.toNat).drop lo.toNat).map c).length=hi.toNat-lo.toNat:=by rw[hm,List.length_drop,hlen]
   refine⟨_,if hi.toNat=lo.toNat then o else o+lo.toNat*sz,fun w1 ρ hρ=>Hs (by rw[hρ _ _ hx];exact Qn0 hρ hu hs hp hq hmx h3 h4 (by omega)),by rw[hm];exact hr.1.take.drop,.inr ⟨hz,hi.toNat-lo.toNat,?_,⟨hg,by rw[hml];omega⟩,fun j u hj=>?_⟩⟩
   · simp only[sliced,hml]
     by_cases e:hi.toNat=lo.toNat
     · rw[if_pos e,if_pos e]
     · rw[if_neg e,if_neg e];simp[Addr.add_lit]
   · rw[hm,Qfr _ _ hr.1.take,Qfs _ _ hr.1,List.getElem?_drop] at hj
     have hj2:(l.map c).flatten[lo.toNat*sz+j]? = some u:=by
      rw[List.getElem?_take] at hj
      split at hj
      · exact hj
      · cases hj
     by_cases e:hi.toNat=lo.toNat
     · exfalso
       rw[List.getElem?_take,e] at hj
       split at hj
       · omega
       · cases hj
     · rw[if_neg e,Nat.add_assoc];exact hcell _ _ hj2
theorem Qip {n:Nat}(hu:P.underlying t=some (.slice e))(hs:Vu P e sz)(hx:ev L x=some v)(h:Qg w z g e sz v (l.map c))(hp:ev L p=some (.int kl lo))(hq:ev L q=some (.int kh hi))(hm:ev L r=some (.int km hi))(hl:Cr l lo hi=some n):
 VV P L ⟨dst,.slice t x (some p) (some q) (some r),ty,pos,af,gu⟩ w (.slice (some ⟨g,lo.toNat*sz,none⟩) n n):=fun ρ hρ=>by
 unfold Cr at hl
 split at hl
 · rename_i hh
   obtain⟨h0,h1,h2⟩:=hh
   cases hl
   rcases h.2 with⟨_,_,h0'⟩|⟨hz,cap,cur,rfl,h1',h2',h3⟩
   · have:l=[]:=by simpa using h0'
     subst this;simp at h2;omega
   · rw[List.length_map] at h2'
     refine Hs ?_
     rw[hρ _ _ hx]
     show(Instr.sliceAt t (.slice (some ⟨g,0,none⟩) _ cap) (some (ρ p)) (some (ρ q)) (some (ρ r))).run P w=_
     rw[Qn0 hρ hu hs hp hq hm h0 (by omega) (by omega)]
     simp only[sliced]
     rw[if_neg (by omega)]
     simp[Addr.add_lit]
     omega
 · cases hl
theorem Dq {n:Nat}{i j:Int}{k:IntKind}{v:Value}(hv:v=.slice (some ⟨g,lo.toNat*sz,none⟩) n n)(h0:0≤lo)(hu:P.underlying t=some (.slice e))(hs:Vu P e sz)(hx:ev L x=some v)(hy:ev L y=some (.int k i))(hj:Hn lo n i=some j):
 VV P L ⟨dst,.indexAddr t x y,ty,pos,af,gu⟩ w (.pointer (some ⟨g,0+j.toNat*sz,none⟩)):=by
 unfold Hn at hj
 split at hj
 · rename_i hh
   cases hj
   subst hv
   have:=Qva (dst:=dst) (ty:=ty) (pos:=pos) (af:=af) (gu:=gu) (w:=w) hu hs hx hy hh.1 hh.2
   have e:lo.toNat*sz+i.toNat*sz=0+(lo+i).toNat*sz:=by rw[←Nat.add_mul,Int.toNat_add h0 hh.1];omega
   rwa[e] at this
 · cases hj
theorem Dp {n:Nat}(hl:Cr l lo hi=some n):0≤lo:=by
 unfold Cr at hl;split at hl
 · rename_i hh;exact hh.1
 · cases hl
theorem Nc {len b' off:Nat}{i:Int}{k:IntKind}(j:Nat)(hu:P.underlying t=some (.array len e))(hs:Vu P e sz)(hx:ev L x=some (.pointer (some ⟨b',off,none⟩)))(hy:ev L y=some (.int k i))(h:i=(j:Int))(hj:j<len):
 VV P L ⟨dst,.indexAddr t x y,ty,pos,af,gu⟩ w (.pointer (some ⟨b',off+j*sz,none⟩)):=by
 have:=Ao (dst:=dst) (ty:=ty) (pos:=pos) (af:=af) (gu:=gu) (w:=w) hu hs hx hy (by omega) (by omega)
 rwa[show i.toNat=j from by omega] at this
theorem Xhh {len:Nat}{i:Int}{k:IntKind}{a:α}{u:Value}{cs:List Value}(hu:P.underlying t=some (.array len e))(hs:Vu P e 1)(h1:Ku P e)(hx:ev L x=some (.agg cs.toArray))(hcs:cs=(l.map c).flatten)(hl:l.length=len)(hw:Ws 1 (l.map c))(hy:ev L y=some (.int k i))(hg:Xr l i=some a)(hc:c a=[u]):
 VV P L ⟨dst,.index t x y,ty,pos,af,gu⟩ w u:=fun ρ hρ=>by
 have h0:=Bq hg
 have h2:=Qal hg
 have h2':i<(len:Int):=by omega
 have hp:(part e cs.toArray (i.toNat*1)).run P w=.ok u w:=by
  have hq:cs[i.toNat]? = some u:=by
   have:=Ws.at (sz:=1) i.toNat 0 (c a) hw (Gu (Fe hg)) (by omega)
   rw[hcs];rw[hc] at this;simpa using this
  have hq2:cs.toArray[i.toNat]? = some u:=by simpa using hq
  simp[part,(h1 w).1,hq2]
 rw[Nat.mul_one] at hp
 refine Hs ?_
 rw[hρ _ _ hx,hρ _ _ hy]
 simp[Instr.index,run_underlying hu,asIntOf,h0,h2',hs w,hp]
end
end Go.Sx

end
