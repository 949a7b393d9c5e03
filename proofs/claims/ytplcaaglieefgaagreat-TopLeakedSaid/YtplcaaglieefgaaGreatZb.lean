/- Several texts in one: Sx SxDraw SxMem SxW SxOps SxIter SxSl SxMark SxEq U64 SxU Key. -/
import Derived.WalkKit
import Derived.OrdersIn
import Derived.TacticsIn
import Derived.RangeFuncLeaves
import Derived.Laws.Rows
import Derived.RangeFuncRecord
import Derived.Laws.Cells
import Derived.RangeFuncIn
import Derived.Laws.AppendOwn
import Derived.Laws.StructEq
import Derived.Laws.Small
import Derived.ChangeKeysEq
import Derived.Laws.Bits64b
import Derived.KernelRfl
set_option linter.unusedVariables false
set_option linter.unusedSimpArgs false
set_option maxRecDepth 100000
set_option linter.defProp false
theorem aQ {p:Prop}(h:p:=by omega):p:=h
theorem aZ {p:Prop}(h:p:=by kernel_rfl):p:=h
theorem bW {p:Prop}(h:p:=by simp):p:=h
theorem bV {p:Prop}(h:p:=by decide):p:=h
def dC:=@cond_true
def aG:=@if_pos
def aH:=@if_neg
def gW:=@List.mem_cons
def fP:=@List.mem_map
def jJ:=@List.getElem_mem
def lQ:=@decide_eq_decide
def cJ:=@decide_eq_false
def jZ:=@Int.toNat_natCast
def lU:=@if_true
def fF:=@Bool.not_true
def cH:=@cond_false
def cS:=@decide_eq_true
def fA:=@Nat.mod_eq_of_lt
def pN:=@BitVec.lt_def
def yG:=@BitVec.le_def
def jW:=@BitVec.eq_of_toNat_eq
def E2:=@BitVec.toNat_sub
def uC:=@BitVec.toNat_ushiftRight
def vX:=@Nat.shiftRight_eq_div_pow
def Qa9:=@BitVec.toNat_and
def fR:=@Nat.mod_lt
def E3:=@BitVec.toNat_umod
def rF:=@Nat.div_le_self
def Qaa:=@BitVec.toNat_udiv
def oC:=@Nat.mul_le_mul
def eO:=@Nat.le_refl
def jG:=@Nat.lt_or_ge
def fT:=@decide_eq_true_eq
def kO:=@Nat.pow_add
def Yv:=@Nat.pow_mul
def pR:=@Nat.pow_zero
def nY:=@Nat.one_mul
def tY:=@Nat.mul_mod
def yI:=@Nat.pow_mod
def Sw:=@Nat.pow_one
def A8:=@Nat.mod_mod
def jN:=@Nat.mul_assoc
def tW:=@Nat.mul_one
def iC:=@Nat.lt_of_lt_of_le
def eK:=@Nat.le_trans
def fD:=@Nat.pow_le_pow_right
def rB:=@Nat.lt_of_le_of_lt
def nV:=@Nat.le_of_lt
def Su:=@Nat.mul_lt_mul''
def eS:=@Nat.pow_succ
def Qb7:=@Nat.mod_mul_mod
def Lp:=@BitVec.toNat_mul
def V5:=@BitVec.toNat_shiftLeft
def vQ:=@Nat.shiftLeft_eq
def eZ:=@Nat.mul_comm
def V3:=@BitVec.eq_of_getLsbD_eq
def Yc:=@BitVec.getLsbD_shiftLeft
def Qa8:=@BitVec.getLsbD_setWidth
def V4:=@BitVec.getLsbD_of_ge
def Lm:=@BitVec.getLsbD_or
def E0:=@BitVec.getLsbD_ushiftRight
def kI:=@List.take_of_length_le
def nJ:=@List.length_append
def kA:=@List.drop_zero
def Lo:=@BitVec.ofInt_natCast
def fI:=@Nat.two_pow_pos
def E7:=@List.ext_getElem
def oR:=@List.getElem_map
def Y0:=@List.map_map
def tJ:=@List.mem_range
def W7:=@List.range_succ
def qB:=@List.map_append
def nZ:=@List.drop_eq_getElem_cons
def yC:=@Nat.add_comm
def fJ:=@List.length_map
def tX:=@List.drop_length
def iX:=@of_decide_eq_true
def Ys:=@Nat.log2_self_le
def yA:=@Nat.le_div_iff_mul_le
def iB:=@Nat.div_div_eq_div_mul
def nO:=@List.mem_append
def yB:=@List.mem_filter
def Lz:=@List.find?_eq_none
def Sa:=@List.find?_some
def A3:=@List.mem_of_find?_eq_some
def nX:=@Bool.or_eq_true
def A6:=@Nat.le_log2
def Qb8:=@Nat.mul_left_comm
def I1:=@Nat.sub_zero
def yU:=@Nat.div_one
def oQ:=@Nat.log2_lt
def fM:=@Bool.and_eq_true
def W8:=@Nat.add_div_left
def pF:=@Nat.div_eq_of_lt
def yE:=@Nat.le_add_right
def Lw:=@Bool.true_or
def Lv:=@Bool.and_true
def V6:=@Bool.eq_iff_iff
def yF:=@List.any_eq_true
def yN:=@Bool.false_or
def sO:=@Bool.not_eq_true'
def pS:=@List.mem_cons_of_mem
def tV:=@Nat.add_zero
def Qbc:=@Option.map_eq_some_iff
def uI:=@List.pairwise_map
def Yo:=@List.pairwise_cons
def Qac:=@Bool.or_eq_false_iff
def I2:=@decide_eq_false_iff_not
def Fa:=@Option.getD_some
def Yj:=@List.exists_mem_of_ne_nil
def jB:=@Option.some.inj
def mY:=@List.mem_singleton
def nK:=@List.not_mem_nil
def vJ:=@or_false
def nI:=@Bool.false_eq_true
def mB:=@if_false
def uU:=@Bool.not_false
def jH:=@Bool.true_and
def uM:=@Bool.false_and
def V7:=@List.all_cons
def Si:=@List.mem_iff_getElem
def oF:=@List.all_eq_true
def wN:=@List.foldl_cons
def qF:=@List.length_cons
def rR:=@Nat.eq_zero_or_pos
def V8:=@List.append_assoc
def Ye:=@Bool.or_false
def Yk:=@List.filter_cons
def uE:=@List.cons_append
def Yn:=@List.mem_cons_self
def Qaj:=@List.filter_eq_self
def wR:=@not_and
def Sg:=@List.length_nil
def kN:=@Nat.zero_add
def Qah:=@List.eq_nil_of_length_eq_zero
def yM:=@Nat.add_sub_cancel'
def gA:=@Nat.mul_le_mul_right
def A9:=@Nat.mul_lt_mul_of_pos_right
def Qb9:=@Nat.mul_right_comm
def Yg:=@List.any_eq_false
def Lr:=@BitVec.xor_assoc
def Lu:=@BitVec.xor_self
def Sd:=@List.foldl_append
def yL:=@Classical.choose_spec
def A1:=@List.length_range
def Sl:=@List.take_length
def cP:=@Nat.lt_succ_self
def jP:=@List.getElem?_eq_some_iff
def Yh:=@List.cons.inj
def Qb5:=@Nat.eq_of_beq_eq_true
def qC:=@List.map_cons
def Yb:=@Array.toList_map
def Qa4:=@Array.getD_eq_getD_getElem?
def H1:=@Ne.symm
def lM:=@Array.getElem?_eq_some_iff
def wF:=@beq_iff_eq
def qU:=@Nat.le_of_ble_eq_true
def Qa5:=@Array.getElem?_append_left
def Qap:=@List.getElem?_take_of_lt
def V9:=@List.getElem?_drop
def Qb0:=@List.take_succ_eq_append_getElem
def Qag:=@List.drop_set_of_lt
def rS:=@Nat.add_assoc
def Qb1:=@List.zipIdx_cons
def uA:=@List.mem_of_getElem?
def pL:=@List.flatten_cons
def iN:=@Nat.add_mul
def vZ:=@Nat.zero_mul
def wL:=@List.getElem?_take
def Sc:=@List.flatten_append
def Sj:=@List.size_toArray
def qR:=@List.length_take
def Yl:=@List.length_drop
def Qa7:=@Array.length_toList
def A4:=@List.nodup_cons
def cA:=@congrArg
def Qaz:=@List.take_append_of_le_length
def W9:=@Nat.le_of_eq
def Qaf:=@List.drop_append_of_le_length
def rL:=@List.drop_drop
def A5:=@List.take_append_drop
def Qax:=@List.replicate_succ
def Qaw:=@List.range_eq_range'
def Yd:=@BitVec.toNat_ofInt
def E4:=@Int.emod_eq_of_lt
def Qad:=@Int.natCast_emod
def E1:=@BitVec.toNat_add
def Lx:=@Int.natCast_mul
def Lq:=@BitVec.toNat_or
def E6:=@Int.natCast_pow
def A7:=@Nat.le_total
def oB:=@Nat.min_eq_left
def Yt:=@Nat.min_eq_right
def Qab:=@BitVec.ushiftRight_eq_zero
def Qae:=@Int.tdiv_eq_ediv_of_nonneg
def I0:=@Nat.pos_of_ne_zero
def Qb6:=@Nat.mod_eq_zero_of_dvd
def Yf:=@Int.natCast_ediv
def kT:=@BitVec.toNat_setWidth
def tK:=@List.nil_append
def Qbb:=@Nat.shiftLeft_add_eq_or_of_lt
def Sm:=@Nat.add_mod
def qM:=@Nat.div_add_mod
def Qaq:=@List.getElem_set_ne
def iQ:=@Nat.mul_add
def Qb4:=@Nat.div_lt_of_lt_mul
def Yq:=@Nat.add_mul_div_left
def Qan:=@List.getElem?_set
def qE:=@Nat.mul_le_mul_left
def H0:=@Nat.pow_pos
def tQ:=@List.drop_eq_nil_of_le
def uO:=@Nat.mul_zero
def Ss:=@Nat.lt_trans
def Qba:=@Nat.one_le_iff_ne_zero
def A0:=@List.length_eq_zero_iff
def Qar:=@List.getLast_eq_getElem
def Yu:=@Nat.mul_pos
def A2:=@List.length_replicate
def E5:=@Int.eq_ofNat_of_zero_le
def Ym:=@List.length_set
def Qas:=@List.mem_or_eq_of_mem_set
def Sp:=@Nat.div_lt_iff_lt_mul
def Yi:=@List.eq_of_mem_replicate
def Sk:=@List.take_append
def Qay:=@List.set_cons_succ
def Sn:=@Nat.ble_eq_true_of_le
def Qbd:=@Option.map_none
def wS:=@Option.map_some
def Yw:=@Nat.zero_le
def yR:=@List.mem_append_left
def Qav:=@List.nodup_append
def Qau:=@List.mem_zipIdx_iff_getElem?
def Qak:=@List.getElem_inj
def Qa6:=@Array.getElem?_modify
def Ly:=@List.find?_cons
def qS:=@List.getElem?_map
def Sh:=@List.mem_append_right
def oX:=@of_decide_eq_false
def Qal:=@List.getElem?_cons_succ
def Qai:=@List.ext_getElem?
def Qam:=@List.getElem?_eq_none
def tZ:=@List.getElem?_eq_getElem
def Sr:=@Nat.log2_def
def Sf:=@List.length_mergeSort
def Qao:=@List.getElem?_set_self
def Ln:=@BitVec.not_lt
def Se:=@List.getElem_cons_succ
def yS:=@Fin.ext
def Yr:=@Nat.gcd_comm
def Yp:=@List.pairwise_iff_getElem
def E8:=@List.findIdx?_cons
def E9:=@List.findIdx?_eq_some_iff_getElem
def Qb3:=@List.zipWith_nil_left
def Qb2:=@List.zipWith_cons_cons
def Qat:=@List.mem_range'_1
def wG:=@List.countP_cons
def Sy:=@Option.elim_some
section
namespace Go.Sx
open Go
abbrev Slots:=List (Nat × Value)
def lk (i:Nat):Slots→Option Value
 | []=>none
 | (j,v)::r=>bif Nat.beq j i then some v else lk i r
theorem I8 {i j:Nat}(h:¬ i=j):Nat.beq i j=false:=by
 cases e:Nat.beq i j with
 | true=>exact absurd (Qb5 e) h
 | false=>rfl
def ev (L:Slots):Operand→Option Value
 | .tmp t=>lk t L
 | .const v=>some v
 | .global g=>some (.pointer (some ⟨g,0,none⟩))
 | .func f=>some (.func (.func f) #[] #[])
def tC (L:Slots):List Operand→Option (List Value)
 | []=>some []
 | x::r=>match ev L x,tC L r with
  | some v,some vs=>some (v::vs)
  | _,_=>none
def dO:Option Nat→Value→Slots→Slots
 | some d,v,L=>(d,v)::L
 | none,_,L=>L
def jL (n:Nat):Option Nat→Bool
 | some d=>Nat.blt d n
 | none=>true
def sE (L:Slots)(ρ:Operand→Value):Prop:=∀ x v,ev L x=some v→ρ x=v
theorem sE.map {L:Slots}{ρ:Operand→Value}(h:sE L ρ):∀ {l:List Operand} {vs:List Value},tC L l=some vs→l.map ρ=vs
 | [],vs,e=>by cases e;rfl
 | x::r,vs,e=>by
  unfold tC at e
  split at e
  · rename_i v vs' h1 h2;cases e;rw[qC,h _ _ h1,h.map h2]
  · cases e
theorem sE.mapA {L:Slots}{ρ:Operand→Value}(h:sE L ρ){aas:Array Operand}{vs:List Value}(e:tC L aas.toList=some vs):aas.map ρ=vs.toArray:=by
 rw[←h.map e,←Yb]
structure fE (n:Nat)(D:List Deferred)(L:Slots)(a:Act):Prop where
 size:a.tmps.size=n
 defers:a.defers=D
 get:∀ i v,lk i L=some v→a.tmps[i]? = some v
theorem fE.cons {n:Nat}{D:List Deferred}{L:Slots}{a:Act}(h:fE n D L a):sE L a.eval:=by
 intro x v e
 cases x with
 | tmp t=>
  have:=h.get t v e;simp only[Act.eval,Qa4,this,Fa]
 | const u=>cases e;rfl
 | global g=>cases e;rfl
 | func f=>cases e;rfl
theorem fE.put {n:Nat}{D:List Deferred}{L:Slots}{a:Act}(h:fE n D L a){d:Option Nat}{v:Value}(hd:jL n d=true):fE n D (dO d v L) (a.put d v):=by
 cases d with
 | none=>exact h
 | some d=>
  have hd':d<n:=by simpa[jL] using hd
  refine⟨by simp[Act.put,h.size],h.defers,fun i u e=>?_⟩;simp only[dO,lk] at e;by_cases hdi:d=i
  · subst hdi;simp at e;subst e;simp[Act.put,h.size,hd']
  · have:=I8 hdi;rw[this] at e;simp only[Act.put];rw[Array.getElem?_setIfInBounds_ne hdi];exact h.get i u e
def nA:Slots→Slots→Prop
 | [],_=>True
 | (i,v)::r,L=>lk i L=some v∧nA r L
theorem nA.get {L:Slots}:∀ {L':Slots},nA L' L→∀ i v,lk i L'=some v→lk i L=some v
 | [],_,i,v,e=>by cases e
 | (j,u)::r,h,i,v,e=>by
  simp only[lk] at e;by_cases hji:j=i
  · subst hji;simp at e;subst e;exact h.1
  · have:=I8 hji;rw[this] at e;exact nA.get h.2 i v e
theorem fE.sub {n:Nat}{D:List Deferred}{L L':Slots}{a:Act}(h:fE n D L a)(hs:nA L' L):fE n D L' a:=⟨h.size,h.defers,fun i v e=>h.get i v (hs.get i v e)⟩
def gd (ops:Array Oper)(L:Slots)(o:Oper):Option Bool:=
 match o.guard with
 | none=>some true
 | some (j,b)=>match (ops[j]?).bind (·.dst) with
  | none=>some false
  | some d=>match lk d L with
   | some (.bool c)=>some (c == b)
   | some _=>some false
   | none=>none
theorem rI {n:Nat}{D:List Deferred}{L:Slots}{a:Act}(h:fE n D L a){ops:Array Oper}{o:Oper}{b:Bool}(hg:gd ops L o=some b):
 Region.wanted o (yielded ops a.tmps)=b:=by
 unfold gd at hg;unfold Region.wanted
 split at hg
 · rename_i e;rw[e];cases hg;rfl
 · rename_i j c e;rw[e];simp only[yielded]
   split at hg
   · rename_i e2;rw[e2];cases hg;simp
   · rename_i d e2;rw[e2]
     split at hg
     · rename_i u e3;have:=h.get d _ e3;simp only[Option.bind_some,this];cases hg;cases u<;>cases c<;>rfl
     · rename_i v hne e3;have:=h.get d _ e3;simp only[Option.bind_some,this];cases hg;cases v<;>simp_all
     · cases hg
def Za:Op→Bool
 | .defer _=>false
 | _=>true
theorem Mr {o:Op}(h:Za o=true):∀ c,o≠.defer c:=by intro c e;subst e;cases h
def Fw (r:Option Nat):Fence:={ Fence.wide with round:=r }
theorem Qip {r:Option Nat}{m:Nat}{P:Program}{f:FuncId}{args:Array Value}{w:World}{R:Ending→World→Prop}(h:Calls P f args w R):CallsIn (Fw r) m P f args w R:=
 (callsIn_wide (n:=m)).2 h
def VV (P:Program)(L:Slots)(o:Oper)(w:World)(v:Value):Prop:=∀ ρ,sE L ρ→(execOp ρ o).run P w=.ok (.value v) w
def PV (P:Program)(L:Slots)(o:Oper)(v:Value):Prop:=∀ w,VV P L o w v
def HV (P:Program)(S:World→Prop)(L:Slots)(o:Oper)(v:Value):Prop:=∀ w,S w→VV P L o w v
inductive U7 (P:Program) (ρ:Operand→Value) (o:Oper) (w:World) (R:Value→World→Prop):Prop
 | val (v:Value) (w':World) (h:(execOp ρ o).run P w=.ok (.value v) w') (hR:R v w')
 | skip (w':World) (h:(execOp ρ o).run P w=.ok .skip w') (hR:R undef w')
 | call (f:FuncId) (args:Array Value) (w':World) (h:(execOp ρ o).run P w=.ok (.enter f args) w') (hR:Calls P f args w' fun e w''=>∃ v,e=.returned v∧R v w'')
 | round (l:Nat) (f:FuncId) (tmps:Array Value) (assign body:Code) (w':World) (h:(execOp ρ o).run P w=.ok (.round l f tmps assign body) w')
  (hR:RoundIn Fence.wide 0 P l f tmps assign body w' fun e w''=>∃ v,e=.returned v∧R v w'')
def EV (P:Program)(L:Slots)(o:Oper)(w:World)(R:Value→World→Prop):Prop:=∀ ρ,sE L ρ→U7 P ρ o w R
theorem PV.hv {P:Program}{L:Slots}{o:Oper}{v:Value}{S:World→Prop}(h:PV P L o v):HV P S L o v:=fun w _=>h w
theorem VV.ev {P:Program}{L:Slots}{o:Oper}{v:Value}{w:World}(h:VV P L o w v):EV P L o w fun v' w'=>v'=v∧w'=w:=fun ρ hρ=>.val v w (h ρ hρ) ⟨rfl,rfl⟩
theorem U7.mono {P:Program}{ρ:Operand→Value}{o:Oper}{w:World}{R R':Value→World→Prop}(h:U7 P ρ o w R)(hr:∀ v w',R v w'→R' v w'):U7 P ρ o w R':=by
 cases h with
 | val v w' h hR=>exact .val v w' h (hr _ _ hR)
 | skip w' h hR=>exact .skip w' h (hr _ _ hR)
 | call f args w' h hR=>exact .call f args w' h (hR.mono fun e w'' ⟨v,he,hv⟩=>⟨v,he,hr _ _ hv⟩)
 | round l f tmps assign body w' h hR=>exact .round l f tmps assign body w' h (hR.mono fun e w'' ⟨v,he,hv⟩=>⟨v,he,hr _ _ hv⟩)
theorem EV.mono {P:Program}{L:Slots}{o:Oper}{w:World}{R R':Value→World→Prop}(h:EV P L o w R)(hr:∀ v w',R v w'→R' v w'):EV P L o w R':=fun ρ hρ=>(h ρ hρ).mono hr
theorem U7.uponIn {P:Program}{r:Option Nat}{o:Oper}{a:Act}{w:World}{R:Value→World→Prop}{K:Act→World→Prop}{Q:Exit→Act→World→Prop}(hn:Za o.op=true)
 (h:U7 P a.eval o w R) (hk:∀ v w',R v w'→K (a.put o.dst v) w'):o.wpIn (Fw r) 0 P a w K Q:=by
 refine⟨fun _ _=>trivial,?_⟩;rw[Oper.semAt_eq _ _ _ (Mr hn)]
 cases h with
 | val v w' h hR=>rw[h];exact hk _ _ hR
 | skip w' h hR=>rw[h];exact hk _ _ hR
 | call f args w' h hR=>
  rw[h];refine⟨fun h=>(by cases h),Qip (hR.mono ?_)⟩;rintro e w'' ⟨v,rfl,hv⟩;exact hk _ _ hv
 | round l f tmps assign body w' h hR=>
  rw[h];refine⟨fun h=>(by cases h),RoundIn.mono (F:=Fw r) hR ?_⟩;rintro e w'' ⟨v,rfl,hv⟩;exact hk _ _ hv
end Go.Sx

end
section
namespace Go.Sx
open Go
section
variable {P:Program} {r:Option Nat} {ops:Array Oper} {Q:Exit→Act→World→Prop} {S:World→Prop}
def YI (P:Program)(ops:Array Oper)(S:World→Prop)(o:Oper)(v:Value)(a:Act):Prop:=
 (Region.wanted o (yielded ops a.tmps)=true∧∀ w,S w→(execOp a.eval o).run P w=.ok (.value v) w)∨(Region.wanted o (yielded ops a.tmps)=false∧v=undef)
theorem YI.same {o:Oper}{v:Value}{a a':Act}(hy:YI P ops S o v a)(he:execOp a'.eval o=execOp a.eval o)
 (hw:Region.wanted o (yielded ops a'.tmps)=Region.wanted o (yielded ops a.tmps)):YI P ops S o v a':=by
 unfold YI at *;rw[he,hw];exact hy
theorem YI.wp {i:Nat}{o:Oper}{v:Value}{a:Act}(hn:Za o.op=true)(hi:ops[i]? = some o)(hy:YI P ops S o v a)
 {K:Act→World→Prop} {w:World} (hS:S w) (h:K (a.put o.dst v) w):wpOpIn (Fw r) 0 P ops Q i K a w:=by
 unfold wpOpIn;simp only[hi];rcases hy with⟨hw,hv⟩|⟨hw,rfl⟩
 · simp only[hw,lU];refine⟨fun _ _=>trivial,?_⟩;rw[Oper.semAt_eq _ _ _ (Mr hn),hv w hS];exact h
 · simp only[hw,nI,mB];exact⟨fun _ _=>trivial,h⟩
theorem Xcl {j:Nat}{oi oj:Oper}{v:Value}(hj:ops[j]? = some oj)(hap:oi.apart ops oj=true)(hn:Za oj.op=true)
 (hsi:∀ cs b,oi.op≠.select cs b) (hsj:∀ cs b,oj.op≠.select cs b)
 (hQ:∀ c a w,¬ Q (.panic c) a w) (hO:¬ LetsOut Q) {K:Act→World→Prop} {a:Act} {w:World}
 (hy:YI P ops S oi v a) (h:wpOpIn (Fw r) 0 P ops Q j K (a.put oi.dst v) w):
 wpOpIn (Fw r) 0 P ops Q j (fun a' w'=>YI P ops S oi v a'∧K (a'.put oi.dst v) w') a w:=by
 obtain⟨h1,h2,h3⟩:=Oper.apart_spec hap;have keep:∀ u,YI P ops S oi v (a.put oj.dst u):=fun u=>hy.same (execOp_put oi hsi a oj.dst u h3) (wanted_put oi a oj.dst u h3);have turn:∀ u,(a.put oi.dst v).put oj.dst u=(a.put oj.dst u).put oi.dst v:=fun u=>Act.put_comm a v u h2;unfold wpOpIn at *;simp only[hj] at *;rw[wanted_put oj a oi.dst v h1] at h;by_cases hw:Region.wanted oj (yielded ops a.tmps)=true
 · simp only[hw,lU] at h ⊢;refine⟨fun _ _=>trivial,?_⟩;have h:=h.2;rw[Oper.semAt_eq _ _ _ (Mr hn),execOp_put oj hsj a oi.dst v h1] at h;rw[Oper.semAt_eq _ _ _ (Mr hn)];generalize (execOp a.eval oj).run P w=res at *
   cases res with
   | ok x w'=>
    cases x<;>simp only[Oper.uponIn] at h ⊢
    case value u=>exact⟨keep u,by rw[←turn];exact h⟩
    case skip=>exact⟨keep _,by rw[←turn];exact h⟩
    case defer d=>
     refine⟨?_,?_⟩
     · have:=keep undef;exact(hy.same (a':={ a with defers:=d::a.defers }) rfl rfl).same (execOp_put oi hsi _ oj.dst undef h3) (wanted_put oi _ oj.dst undef h3)
     · rw[←Act.put_comm _ v undef h2,←Act.put_defers];exact h
    case enter f args=>
     refine⟨h.1,CallsIn.mono h.2 fun e w'' he=>?_⟩
     cases e with
     | returned u=>exact⟨keep u,by rw[←turn];exact he⟩
     | panicked c=>exact(hQ _ _ _ he).elim
     | outgrown=>exact(hO he).elim
    case row row args=>exact⟨h.1,RowsIn.mono h.2 fun u w'' he=>⟨keep u,by rw[←turn];exact he⟩⟩
    case round l f tmps assign body=>
     refine⟨h.1,RoundIn.mono h.2 fun e w'' he=>?_⟩
     cases e with
     | returned u=>exact⟨keep u,by rw[←turn];exact he⟩
     | panicked c=>exact(hQ _ _ _ he).elim
     | outgrown=>exact(hO he).elim
   | halt x w'=>
    cases x<;>simp only[Oper.uponIn] at h ⊢
    case panic u=>exact(hQ _ _ _ h).elim
 · simp only[hw,nI,mB] at h ⊢;exact⟨fun _ _=>trivial,keep _,by rw[←turn];exact h.2⟩
def anyH (P:Program)(r:Option Nat)(ops:Array Oper)(Q:Exit→Act→World→Prop)(S:Nat→World→Prop)(kp:Nat→Nat→Bool):Nat→Array Bool→Act→World→Prop
 | 0,listed,a,w=>Region.ready .any ops listed=[]∧Q .normal a w
 | fuel+1,listed,a,w=>(Region.ready .any ops listed=[]→Q .normal a w)∧
  ∀ i∈Region.ready .any ops listed,wpOpIn (Fw r) 0 P ops Q i (fun a' w'=>(∀ v,kp v i=true→S v w→S v w')∧anyH P r ops Q S kp fuel (listed.setIfInBounds i true) a' w') a w
theorem anyH.any {S:Nat→World→Prop}{kp:Nat→Nat→Bool}:∀ (fuel:Nat) (listed:Array Bool) (a:Act) (w:World),anyH P r ops Q S kp fuel listed a w→wpAnyIn (Fw r) 0 P .any ops Q fuel listed a w
 | 0,_,_,_,h=>h
 | fuel+1,_,_,_,h=>⟨h.1,fun i hi=>wpOpIn_mono (fun a' w' h'=>anyH.any fuel _ a' w' h'.2) (h.2 i hi)⟩
def jK (ops:Array Oper):Bool:=ops.toList.all fun o=>Za o.op&&(match o.op with|.select .. => false|_=>true)
theorem jK.nd (h:jK ops=true){j:Nat}{o:Oper}(hj:ops[j]? = some o):Za o.op=true:=by
 have:=oF.1 h o (Array.mem_toList_iff.2 (Array.mem_of_getElem? hj));exact(Bool.and_eq_true_iff.1 this).1
theorem jK.ns (h:jK ops=true){j:Nat}{o:Oper}(hj:ops[j]? = some o):∀ cs b,o.op≠.select cs b:=by
 have:=oF.1 h o (Array.mem_toList_iff.2 (Array.mem_of_getElem? hj));intro cs b e;have:=(Bool.and_eq_true_iff.1 this).2;rw[e] at this;cases this
theorem Qhr (hnd:jK ops=true){i:Nat}{oi:Oper}{v:Value}(hi:ops[i]? = some oi)(hQ:∀ c a w,¬ Q (.panic c) a w)(hO:¬ LetsOut Q){S:Nat→World→Prop}{kp:Nat→Nat→Bool}{lv:Nat}:
 ∀ (fuel:Nat) (listed:Array Bool) (a:Act) (w:World),
  (∀ j oj,ops[j]? = some oj→j≠i→listed.getD j true=false→(∀ e∈oj.after,Region.binds .any e=true→e.on≠i)→oi.apart ops oj=true∧kp lv j=true)→
  i∈Region.ready .any ops listed→YI P ops (S lv) oi v a→S lv w→
  anyH P r ops Q S kp fuel (listed.setIfInBounds i true) (a.put oi.dst v) w→anyH P r ops Q S kp (fuel+1) listed a w:=by
 intro fuel
 induction fuel with
 | zero=>
  intro listed a w _ hr hy hS H;refine⟨fun h=>(by rw[h] at hr;cases hr),fun j hj=>?_⟩;by_cases hji:j=i
  · subst hji;exact hy.wp (jK.nd hnd hi) hi hS ⟨fun _ _ h=>h,H⟩
  · have:=ready_mono hj hji;rw[H.1] at this;cases this
 | succ fuel ih=>
  intro listed a w hfree hr hy hS H;refine⟨fun h=>(by rw[h] at hr;cases hr),fun j hj=>?_⟩;by_cases hji:j=i
  · subst hji;exact hy.wp (jK.nd hnd hi) hi hS ⟨fun _ _ h=>h,H⟩
  · have h1:=H.2 j (ready_mono hj hji);obtain⟨hjun,oj,hoj,hall⟩:=mem_ready.1 hj
    have hnot:∀ e∈oj.after,Region.binds .any e=true→e.on≠i:=by
     intro e he hb heq;have q1:=hall e he hb;have q0:=(mem_ready.1 hr).1;rw[heq] at q1;rcases jG i listed.size with q|q
     · simp[q] at q0 q1;rw[q0] at q1;cases q1
     · simp[Array.getElem?_eq_none q] at q1
    obtain⟨hap,hkj⟩:=hfree j oj hoj hji hjun hnot;have h2:=Xcl hoj hap (jK.nd hnd hoj) (jK.ns hnd hi) (jK.ns hnd hoj) hQ hO hy h1;refine wpOpIn_mono (fun a' w' h3=>⟨h3.2.1,ih (listed.setIfInBounds j true) a' w' ?_ (ready_mono hr (H1 hji)) h3.1 (h3.2.1 lv hkj hS) ?_⟩) h2
    · intro k ok hk hki hun hno;refine hfree k ok hk hki ?_ hno;by_cases hjk:j=k
      · subst hjk;exact hjun
      · rw[getD_set_ne true hjk] at hun;exact hun
    · rw[Array.setIfInBounds_comm _ _ hji];exact h3.2.2
end
def Mh (ops:Array Oper)(kp:Nat→Bool)(listed:Array Bool)(i:Nat):Bool:=
 (List.range ops.size).all fun j=>j == i||listed.getD j true||kp j||match ops[j]? with
  | some oj=>oj.after.any (fun e=>Region.binds .any e&&e.on == i)
  | none=>true
theorem Qme {ops:Array Oper}{kp:Nat→Bool}{listed:Array Bool}{i:Nat}(h:Mh ops kp listed i=true)(j:Nat)(oj:Oper)
 (hj:ops[j]? = some oj) (hne:j≠i) (hun:listed.getD j true=false) (hno:∀ e∈oj.after,Region.binds .any e=true→e.on≠i):kp j=true:=by
 simp only[Mh,oF,tJ] at h;have h1:=h j (lM.1 hj).1;simp only[hj,nX,wF,hne,false_or,hun,nI] at h1;rcases h1 with h1|h1
 · exact h1
 · obtain⟨e,he,hb⟩:=Array.any_eq_true'.1 h1;simp only[fM,wF] at hb;exact absurd hb.2 (hno e he hb.1)
def Qmp (l:List (Nat × Nat))(lv j:Nat):Bool := !(Nat.beq lv 0&&l.any fun x=>x.1 == j&&x.2 == 2)
def rK (c:Nat):Option Nat:=bif Nat.beq c 1 then some 0 else bif Nat.beq c 3 then some 1 else bif Nat.ble 10 c then some (c-10) else none
def L8 (ops:Array Oper)(kp:Nat→Nat→Bool):List (Nat × Nat)→Array Bool→Bool
 | [],listed=>(Region.ready .any ops listed).isEmpty
 | (i,c)::rest,listed=>match rK c with
  | some lv=>(Region.ready .any ops listed).contains i&&Region.free .any ops listed i&&Mh ops (kp lv) listed i&&L8 ops kp rest (listed.setIfInBounds i true)
  | none=>(Region.ready .any ops listed == [i])&&L8 ops kp rest (listed.setIfInBounds i true)
def SD (P:Program)(n:Nat)(ops:Array Oper)(Q:Slots→World→Prop)(S:Nat→World→Prop)(kp:Nat→Nat→Bool):List (Nat × Nat)→Slots→World→Prop
 | [],L,w=>Q L w
 | (i,c)::rest,L,w=>match rK c with
  | some lv=>∃ o v,ops[i]? = some o∧jL n o.dst=true∧S lv w∧((gd ops L o=some true∧HV P (S lv) L o v)∨(gd ops L o=some false∧v=undef))∧SD P n ops Q S kp rest (dO o.dst v L) w
  | none=>∃ o,ops[i]? = some o∧jL n o.dst=true∧
   ((gd ops L o=some true∧∃ R,EV P L o w R∧∀ v w',R v w'→(∀ lv,kp lv i=true→S lv w→S lv w')∧SD P n ops Q S kp rest (dO o.dst v L) w')∨
    (gd ops L o=some false∧SD P n ops Q S kp rest (dO o.dst undef L) w))
section
variable {P:Program} {r:Option Nat} {n:Nat} {ops:Array Oper} {Q:Slots→World→Prop} {S:Nat→World→Prop} {kp:Nat→Nat→Bool} {D:List Deferred} {QA:Exit→Act→World→Prop}
theorem SD.anyH (hnd:jK ops=true)(hQ:∀ c a w,¬ QA (.panic c) a w)(hO:¬ LetsOut QA)(hq:∀ L a w,fE n D L a→Q L w→QA .normal a w):
 ∀ (l:List (Nat × Nat)) (listed:Array Bool) (L:Slots) (a:Act) (w:World),L8 ops kp l listed=true→fE n D L a→SD P n ops Q S kp l L w→
  anyH P r ops QA S kp l.length listed a w
 | [],listed,L,a,w,ho,hf,h=>⟨by simpa[L8] using ho,hq L a w hf h⟩
 | (i,c)::rest,listed,L,a,w,ho,hf,h=>by
  unfold SD at h;unfold L8 at ho
  cases hc:rK c with
  | some lv=>
   rw[hc] at h ho;obtain⟨o,v,hi,hd,hS,hv,hrest⟩:=h;simp only[fM] at ho
   refine Qhr hnd hi hQ hO rest.length listed a w (fun j oj h1 h2 h3 h4=>⟨Region.free_spec hi ho.1.1.2 j oj h1 h2 h3 h4,Qme ho.1.2 j oj h1 h2 h3 h4⟩) (by simpa using ho.1.1.1) ?_ hS
    (SD.anyH hnd hQ hO hq rest _ _ _ w ho.2 (hf.put hd) hrest)
   rcases hv with⟨hg,hv⟩|⟨hg,rfl⟩
   · exact .inl ⟨rI hf hg,fun w' hw'=>hv w' hw' _ hf.cons⟩
   · exact .inr ⟨rI hf hg,rfl⟩
  | none=>
   rw[hc] at h ho;obtain⟨o,hi,hd,h⟩:=h;simp only[fM,wF] at ho;refine⟨fun h0=>(by rw[ho.1] at h0;cases h0),fun j hj=>?_⟩;rw[ho.1] at hj;simp only[mY] at hj;subst hj;unfold wpOpIn;simp only[hi];rcases h with⟨hg,R,hev,hk⟩|⟨hg,hrest⟩
   · rw[rI hf hg,aG rfl];exact(hev _ hf.cons).uponIn (jK.nd hnd hi) fun v w' hR=>⟨(hk v w' hR).1,SD.anyH hnd hQ hO hq rest _ _ _ w' ho.2 (hf.put hd) (hk v w' hR).2⟩
   · rw[rI hf hg];simp only[nI,mB];exact⟨fun _ _=>trivial,fun _ _ h=>h,SD.anyH hnd hQ hO hq rest _ _ _ w ho.2 (hf.put hd) hrest⟩
theorem SD.drawn {id:Nat}{l:List (Nat × Nat)}{L:Slots}{a:Act}{w:World}(hm:P.follows .mixedOrders=true)(hnd:jK ops=true)(hlen:l.length=ops.size)
 (ho:L8 ops kp l (Array.replicate ops.size false)=true) (hQ:∀ c a w,¬ QA (.panic c) a w) (hO:¬ LetsOut QA) (hq:∀ L a w,fE n D L a→Q L w→QA .normal a w)
 (hf:fE n D L a) (h:SD P n ops Q S kp l L w.drew):(Code.region id ops true).wpIn (Fw r) 0 P QA a w:=
 wpIn_region_any hm (by have:=(SD.anyH (r:=r) hnd hQ hO hq l _ L a w.drew ho hf h).any;rw[hlen] at this;exact this)
theorem SD.text (hnd:jK ops=true)(hq:∀ L a w,fE n D L a→Q L w→QA .normal a w):
 ∀ (l:List (Nat × Nat)) (L:Slots) (a:Act) (w:World),(l.all fun x=>(rK x.2).isNone)=true→fE n D L a→SD P n ops Q S kp l L w→wpOpsIn (Fw r) 0 P ops QA (l.map (·.1)) a w
 | [],L,a,w,_,hf,h=>hq L a w hf h
 | (i,c)::rest,L,a,w,hl,hf,h=>by
  simp only[V7,fM] at hl;unfold SD at h;rw[Option.isNone_iff_eq_none.1 hl.1] at h;obtain⟨o,hi,hd,h⟩:=h;simp only[qC];rw[wpOpsIn_cons];unfold wpOpIn;simp only[hi];rcases h with⟨hg,R,hev,hk⟩|⟨hg,hrest⟩
  · rw[rI hf hg,aG rfl];exact(hev _ hf.cons).uponIn (jK.nd hnd hi) fun v w' hR=>SD.text hnd hq rest _ _ w' hl.2 (hf.put hd) (hk v w' hR).2
  · rw[rI hf hg];simp only[nI,mB];exact⟨fun _ _=>trivial,SD.text hnd hq rest _ _ w hl.2 (hf.put hd) hrest⟩
end
end Go.Sx

end
section
namespace Go.Sx
open Go Go.RowKit
structure bQ (p:Prop):Prop where
 o:p
def zf (z g:Nat):List Nat:=if z=0 then[] else[g]
theorem vM {z g x:Nat}:x∈zf z g↔(z≠0∧x=g):=by unfold zf;split<;>simp_all
theorem bO:(∀ (a b:Nat) (l:List Nat),(a∈b::l)=(a=b∨a∈l))∧(∀ (a:Nat) (l m:List Nat),(a∈l++m)=(a∈l∨a∈m))∧(∀ (z g x:Nat),(x∈zf z g)=(z≠0∧x=g))∧(∀ a:Nat,(a∈([]:List Nat))=False)∧(∀ p:Prop,(p∨False)=p)∧(∀ p:Prop,(False∨p)=p)∧(∀ p q:Prop,(¬ (p∨q))=(¬ p∧¬ q))∧(∀ a b:Nat,(a≠b)=¬ (a=b))∧(∀ l:List Nat,[]++l=l)∧(∀ (a:Nat) (l m:List Nat),(a::l)++m=a::(l++m))∧(∀ p:Prop,(True∧p)=p)∧(∀ p:Prop,(p∧True)=p)∧(∀ p:Prop,(False∧p)=False)∧(∀ p:Prop,(p∧False)=False)∧((¬ True)=False)∧((¬ False)=True)∧(∀ p:Prop,(p∨True)=True)∧(∀ p:Prop,(True∨p)=True):=by
 refine⟨?_,?_,?_,?_,?_,?_,?_,?_,?_,?_,?_,?_,?_,?_,?_,?_,?_,?_⟩<;>intros<;>simp[vM]
def Bx (w:World)(b:Nat)(t:TypeId)(cs:List Value):Prop:=w.heap[b]? = some (.cells cs.toArray t (0,0))
structure Md (b:Nat)(w w':World):Prop where
 os:w'.os=w.os
 tape:w'.tape=w.tape
 output:w'.output=w.output
 size:w'.heap.size=w.heap.size
 block:∀ k,k≠b→w'.heap[k]? = w.heap[k]?
abbrev Gr (w w':World):Prop:=Below w.heap.size w w'
section
variable {w w':World} {b c:Nat} {t:TypeId} {cs:List Value}
theorem Bx.lt (h:Bx w b t cs):b<w.heap.size:=(lM.1 h).1
theorem Bx.gr (h:Bx w b t cs)(g:Gr w w'):Bx w' b t cs:=(g.block b h.lt).trans h
theorem Bx.md (h:Bx w c t cs)(m:Md b w w')(ne:c≠b:=by omega):Bx w' c t cs:=(m.block c ne).trans h
theorem Bx.cell (h:Bx w b t cs)(off:Nat):w.cell? ⟨b,off,none⟩=cs[off]? := by rw[cell_of_row w b off _ t _ h];simp
theorem Gr.refl (w:World):Gr w w:=Below.refl _ _
theorem Gr.trans {w₁ w₂ w₃:World}(h:Gr w₁ w₂)(k:Gr w₂ w₃):Gr w₁ w₃:=Below.trans h (k.mono h.size)
theorem Md.refl (b:Nat)(w:World):Md b w w:=⟨rfl,rfl,rfl,rfl,fun _ _=>rfl⟩
theorem Md.trans {w₁ w₂ w₃:World}(h:Md b w₁ w₂)(k:Md b w₂ w₃):Md b w₁ w₃:=⟨k.os.trans h.os,k.tape.trans h.tape,k.output.trans h.output,k.size.trans h.size,fun i hi=>(k.block i hi).trans (h.block i hi)⟩
theorem Md.below {B:Nat}{w₀:World}(h:Below B w₀ w)(m:Md b w w')(hb:B≤b):Below B w₀ w':=
 ⟨m.os.trans h.os,m.tape.trans h.tape,m.output.trans h.output,by rw[m.size];exact h.size,fun k hk=>(m.block k aQ).trans (h.block k hk)⟩
theorem Md.of_setCell (hb:Bx w b t cs)(off:Nat)(v:Value):Md b w (w.setCell ⟨b,off,none⟩ v)∧Bx (w.setCell ⟨b,off,none⟩ v) b t (cs.set off v):=by
 refine⟨⟨rfl,rfl,rfl,by simp[World.setCell],fun k hk=>heap_setCell_other w ⟨b,off,none⟩ k v hk⟩,?_⟩;unfold Bx at *;rw[heap_setCell_same w b off _ t v hb];simp
end
theorem Gr.md {w w₁ w₂:World}{b:Nat}(h:Gr w w₁)(m:Md b w₁ w₂)(hb:w.heap.size≤b:=by omega):Gr w w₂:=Md.below h m hb
structure Kp (ms:List Nat)(w w':World):Prop where
 os:w'.os=w.os
 tape:w'.tape=w.tape
 output:w'.output=w.output
 size:w.heap.size≤w'.heap.size
 block:∀ k,k<w.heap.size→k∉ms→w'.heap[k]? = w.heap[k]?
theorem Kp.refl (ms:List Nat)(w:World):Kp ms w w:=⟨rfl,rfl,rfl,eO _,fun _ _ _=>rfl⟩
theorem Kp.gr {ms:List Nat}{w w₁ w₂:World}(h:Kp ms w w₁)(g:Gr w₁ w₂):Kp ms w w₂:=⟨g.os.trans h.os,g.tape.trans h.tape,g.output.trans h.output,eK h.size g.size,fun k hk hm=>(g.block k (iC hk h.size)).trans (h.block k hk hm)⟩
theorem Kp.md {ms:List Nat}{w w₁ w₂:World}{b:Nat}(h:Kp ms w w₁)(m:Md b w₁ w₂)(hb:b∈ms∨w.heap.size≤b:=by(try simp only[bO])<;>omega):Kp ms w w₂:=⟨m.os.trans h.os,m.tape.trans h.tape,m.output.trans h.output,by rw[m.size];exact h.size,fun k hk hm=>(m.block k (by rintro rfl;rcases hb with hb|hb;exact hm hb;omega)).trans (h.block k hk hm)⟩
theorem Bx.kp {ms:List Nat}{w w':World}{b:Nat}{t:TypeId}{cs:List Value}(h:Bx w b t cs)(g:Kp ms w w')(hn:b∉ms:=by(try simp only[bO])<;>omega):Bx w' b t cs:=(g.block b h.lt hn).trans h
theorem Gr.kp {ms:List Nat}{w w₁ w₂:World}(h:Gr w w₁)(g:Kp ms w₁ w₂)(hm:∀ b∈ms,w.heap.size≤b):Gr w w₂:=
 ⟨g.os.trans h.os,g.tape.trans h.tape,g.output.trans h.output,eK h.size g.size,fun k hk=>(g.block k (iC hk h.size) (fun hb=>by have:=hm k hb;omega)).trans (h.block k hk)⟩
def wD (ms:List Nat)(w₀:World):Nat→World→Prop
 | 0,w=>Gr w₀ w
 | _,w=>Kp ms w₀ w
end Go.Sx

end
section
namespace Go.Sx
open Go
def Da (n:Nat)(Q:Exit→List Deferred→Slots→World→Prop):Exit→Act→World→Prop
 | .panic _,_,_=>False
 | .outgrown,_,_=>False
 | e,a,w=>∃ D L,fE n D L a∧Q e D L w
def SW (P:Program)(r:Option Nat)(n:Nat)(c:Code)(Q:Exit→List Deferred→Slots→World→Prop)(D:List Deferred)(L:Slots)(w:World):Prop:=
 ∀ a,fE n D L a→c.wpIn (Fw r) 0 P (Da n Q) a w
section
variable {P:Program} {r:Option Nat} {n:Nat} {Q:Exit→List Deferred→Slots→World→Prop} {D:List Deferred} {L:Slots} {w:World}
theorem SW.mono {c:Code}{Q':Exit→List Deferred→Slots→World→Prop}(h:SW P r n c Q D L w)(hq:∀ e D L w,Q e D L w→Q' e D L w):SW P r n c Q' D L w:=
 fun a ha=>wpIn_mono (h a ha) fun e a' w' hh=>by
  cases e<;>first|exact hh|(obtain⟨D',L',h1,h2⟩:=hh;exact⟨D',L',h1,hq _ _ _ _ h2⟩)
theorem SW.forget {c:Code}{L':Slots}(h:SW P r n c Q D L' w)(hs:nA L' L):SW P r n c Q D L w:=fun a ha=>h a (ha.sub hs)
def mZ (K:List Deferred→Slots→World→Prop)(Q:Exit→List Deferred→Slots→World→Prop):Exit→List Deferred→Slots→World→Prop
 | .normal,D,L,w=>K D L w
 | e,D,L,w=>Q e D L w
theorem aD {x y:Code}(h:SW P r n x (mZ (fun D L w=>SW P r n y Q D L w) Q) D L w):SW P r n (.seq x y) Q D L w:=
 fun a ha=>wpIn_seq (wpIn_mono (h a ha) fun e a' w' hh=>by
  cases e with
  | normal=>obtain⟨D',L',h1,h2⟩:=hh;exact h2 a' h1
  | exit id=>exact hh
  | goto l=>exact hh
  | ret=>exact hh
  | panic c=>exact hh
  | outgrown=>exact hh)
theorem eG (h:Q .normal D L w):SW P r n .skip Q D L w:=fun _ ha=>wpIn_skip ⟨D,L,ha,h⟩
theorem aF (h:Q .ret D L w):SW P r n .ret Q D L w:=fun _ ha=>wpIn_ret ⟨D,L,ha,h⟩
theorem cE {id:Nat}(h:Q (.exit id) D L w):SW P r n (.exit id) Q D L w:=fun _ ha=>wpIn_exit ⟨D,L,ha,h⟩
theorem Qq3 {l:Nat}(h:Q .normal D L w):SW P r n (.label l) Q D L w:=fun _ ha=>wpIn_label ⟨D,L,ha,h⟩
theorem lY {c:Operand}{x y:Code}{t:Bool}(hc:ev L c=some (.bool t))(ht:t=true→SW P r n x Q D L w)(hf:t=false→SW P r n y Q D L w):SW P r n (.cond c x y) Q D L w:=
 fun a ha=>wpIn_cond_split (ha.cons _ _ hc) (fun h=>ht h a ha) (fun h=>hf h a ha)
theorem iA {c:Operand}{x y:Code}(hc:ev L c=some (.bool true))(h:SW P r n x Q D L w):SW P r n (.cond c x y) Q D L w:=lY hc (fun _=>h) (fun h=>by cases h)
theorem jT {c:Operand}{x y:Code}(hc:ev L c=some (.bool false))(h:SW P r n y Q D L w):SW P r n (.cond c x y) Q D L w:=lY hc (fun h=>by cases h) (fun _=>h)
def wB (id:Nat)(Q:Exit→List Deferred→Slots→World→Prop):Exit→List Deferred→Slots→World→Prop
 | .exit id',D,L,w=>bif Nat.beq id' id then Q .normal D L w else Q (.exit id') D L w
 | e,D,L,w=>Q e D L w
theorem bH {id:Nat}{c:Code}(h:SW P r n c (wB id Q) D L w):SW P r n (.block id c) Q D L w:=
 fun a ha=>wpIn_block (wpIn_mono (h a ha) fun e a' w' hh=>by
  cases e with
  | exit id'=>
   obtain⟨D',L',h1,h2⟩:=hh;simp only[Exit.inBlock];by_cases e:id'=id
   · subst e;rw[aG rfl];exact⟨D',L',h1,by simpa[wB] using h2⟩
   · rw[aH e];exact⟨D',L',h1,by simpa[wB,I8 e] using h2⟩
  | normal=>exact hh
  | goto l=>exact hh
  | ret=>exact hh
  | panic c=>exact hh
  | outgrown=>exact hh)
theorem Qef {p:Nat→Prop}(h:∃ m,p m):∃ m,p m∧∀ k,p k→m≤k:=by
 obtain⟨m,hm⟩:=h
 induction m using Nat.strongRecOn with
 | _ m ih=>
  by_cases h:∃ k,k<m∧p k
  · obtain⟨k,hk,hp⟩:=h;exact ih k hk hp
  · exact⟨m,hm,fun k hk=>Nat.le_of_not_lt fun dX=>h ⟨k,dX,hk⟩⟩
open Classical in
noncomputable def Xt (p:Nat→Prop):Nat:=if h:∃ m,p m then Classical.choose (Qef h) else 0
theorem Qmw {p:Nat→Prop}(h:∃ m,p m):p (Xt p):=by unfold Xt;rw[dif_pos h];exact(yL (Qef h)).1
theorem Qmv {p:Nat→Prop}{k:Nat}(h:p k):Xt p≤k:=by unfold Xt;rw[dif_pos ⟨k,h⟩];exact(yL (Qef ⟨k,h⟩)).2 k h
theorem Xh4 {c:Code}{α:Type}(st:α→Slots)(J:α→World→Prop)(μ:α→Nat)(x₀:α)(hs:nA (st x₀) L)(h₀:J x₀ w)
 (round:∀ x w,J x w→SW P r n c (mZ (fun D' L' w'=>D'=D∧∃ x',nA (st x') L'∧J x' w'∧μ x'<μ x) Q) D (st x) w):SW P r n (.loop c) Q D L w:=by
 intro a ha;refine wpIn_loop (fun a w=>∃ x,fE n D (st x) a∧J x w) (fun a w=>Xt fun m=>∃ x,fE n D (st x) a∧J x w∧μ x=m) ⟨x₀,ha.sub hs,h₀⟩ ?_;intro a w ⟨x1,hx1,hJ1⟩;obtain⟨x,hx,hJ,hm⟩:=Qmw (p:=fun m=>∃ x,fE n D (st x) a∧J x w∧μ x=m) ⟨μ x1,x1,hx1,hJ1,rfl⟩;refine wpIn_mono (round x w hJ a hx) fun e a' w' hh=>?_
 cases e with
 | normal=>
  obtain⟨D',L',h1,rfl,x',h2,h3,h4⟩:=hh;refine⟨⟨x',h1.sub h2,h3⟩,?_⟩;have:=Qmv (p:=fun m=>∃ x,fE n D' (st x) a'∧J x w'∧μ x=m) ⟨x',h1.sub h2,h3,rfl⟩;omega
 | exit id=>exact hh
 | goto l=>exact hh
 | ret=>exact hh
 | panic c=>exact hh
 | outgrown=>exact hh
def mem (i:Nat):List Nat→Bool
 | []=>false
 | j::r=>bif Nat.beq i j then true else mem i r
def nT (ds:List Nat):Slots→Slots
 | []=>[]
 | (i,v)::r=>bif mem i ds then nT ds r else(i,v)::nT ds r
theorem dN {c:Code}{α:Type}(iV:List Nat)(dyn:α→Slots)(J:α→World→Prop)(μ:α→Nat)(x₀:α)(hs:nA (dyn x₀++nT iV L) L)(h₀:J x₀ w)
 (round:∀ x w,J x w→SW P r n c (mZ (fun D' L' w'=>D'=D∧∃ x',nA (dyn x'++nT iV L) L'∧J x' w'∧μ x'<μ x) Q) D (dyn x++nT iV L) w):SW P r n (.loop c) Q D L w:=
 Xh4 (fun x=>dyn x++nT iV L) J μ x₀ hs h₀ round
theorem Qmy {c:List PanicEntry}{a:Act}{w:World}:¬ Da n Q (.panic c) a w:=fun h=>h
theorem Qmx:¬ LetsOut (Da n Q):=fun⟨_,_,h⟩=>h
theorem Xh6 {id:Nat}{ops:Array Oper}(l:List (Nat × Nat))(hnd:jK ops=true)(hl:(l.all fun x=>(rK x.2).isNone)=true)(ho:l.map (·.1)=List.range ops.size)
 (h:SD P n ops (fun L w=>Q .normal D L w) (fun _ _=>True) (fun _ _=>false) l L w):SW P r n (.region id ops false) Q D L w:=
 fun a ha=>wpIn_region (by rw[←ho];exact SD.text (D:=D) hnd (fun L _ _ hf hq=>⟨D,L,hf,hq⟩) l L a w hl ha h)
theorem Nh {id:Nat}{ops:Array Oper}(ms:List Nat)(l:List (Nat × Nat))(hm:P.follows .mixedOrders=true)(hnd:jK ops=true)(hlen:l.length=ops.size)
 (ho:L8 ops (Qmp l) l (Array.replicate ops.size false)=true) (h:∀ w1,RowKit.Below w.heap.size w w1→w1.heap.size=w.heap.size→SD P n ops (fun L w=>Q .normal D L w) (wD ms w1) (Qmp l) l L w1):SW P r n (.region id ops true) Q D L w:=
 fun _ ha=>SD.drawn (D:=D) hm hnd hlen ho (fun _ _ _=>Qmy) Qmx (fun L _ _ hf hq=>⟨D,L,hf,hq⟩) ha (h w.drew (RowKit.Below.refl _ _).drew rfl)
end
section
variable {P:Program} {n:Nat} {ops:Array Oper} {Q:Slots→World→Prop} {rest:List (Nat × Nat)} {i:Nat} {dst:Option Nat} {op:Op} {ty:TypeId} {pos:String} {af:Array Edge} {gu:Option (Nat × Bool)} {L:Slots} {w:World}
theorem Ey {v:Value}(hi:ops[i]? = some ⟨dst,op,ty,pos,af,gu⟩)(hg:gd ops L ⟨dst,op,ty,pos,af,gu⟩=some true)(hd:jL n dst=true)(hv:VV P L ⟨dst,op,ty,pos,af,gu⟩ w v)
 (h:SD P n ops Q (fun _ _=>True) (fun _ _=>false) rest (dO dst v L) w):SD P n ops Q (fun _ _=>True) (fun _ _=>false) ((i,0)::rest) L w:=
 ⟨_,hi,hd,.inl ⟨hg,_,hv.ev,fun v' w' ⟨h1,h2⟩=>by subst h1;subst h2;exact⟨fun _ _ _=>trivial,h⟩⟩⟩
theorem Qpi {R:Value→World→Prop}(hi:ops[i]? = some ⟨dst,op,ty,pos,af,gu⟩)(hg:gd ops L ⟨dst,op,ty,pos,af,gu⟩=some true)(hd:jL n dst=true)(hv:EV P L ⟨dst,op,ty,pos,af,gu⟩ w R)
 (h:∀ v w',R v w'→SD P n ops Q (fun _ _=>True) (fun _ _=>false) rest (dO dst v L) w'):SD P n ops Q (fun _ _=>True) (fun _ _=>false) ((i,0)::rest) L w:=⟨_,hi,hd,.inl ⟨hg,R,hv,fun v w' hR=>⟨fun _ _ _=>trivial,h v w' hR⟩⟩⟩
theorem Xfo (hi:ops[i]? = some ⟨dst,op,ty,pos,af,gu⟩)(hg:gd ops L ⟨dst,op,ty,pos,af,gu⟩=some false)(hd:jL n dst=true)
 (h:SD P n ops Q (fun _ _=>True) (fun _ _=>false) rest (dO dst undef L) w):SD P n ops Q (fun _ _=>True) (fun _ _=>false) ((i,0)::rest) L w:=⟨_,hi,hd,.inr ⟨hg,h⟩⟩
theorem Xfp {t:Bool}(hi:ops[i]? = some ⟨dst,op,ty,pos,af,gu⟩)(hg:gd ops L ⟨dst,op,ty,pos,af,gu⟩=some true)(hd:jL n dst=true)(hv:VV P L ⟨dst,op,ty,pos,af,gu⟩ w (.bool t))
 (ht:t=true→SD P n ops Q (fun _ _=>True) (fun _ _=>false) rest (dO dst (.bool true) L) w) (hf:t=false→SD P n ops Q (fun _ _=>True) (fun _ _=>false) rest (dO dst (.bool false) L) w):SD P n ops Q (fun _ _=>True) (fun _ _=>false) ((i,0)::rest) L w:=by
 cases t with
 | true=>exact Ey hi hg hd hv (ht rfl)
 | false=>exact Ey hi hg hd hv (hf rfl)
theorem aB {S:Nat→World→Prop}{kp:Nat→Nat→Bool}(h:Q L w):SD P n ops Q S kp [] L w:=h
variable {ms:List Nat} {w₀:World} {kp:Nat→Nat→Bool}
theorem Qci {v:Value}(hi:ops[i]? = some ⟨dst,op,ty,pos,af,gu⟩)(hg:gd ops L ⟨dst,op,ty,pos,af,gu⟩=some true)(hd:jL n dst=true)(hS:Gr w₀ w)(hv:∀ w,Gr w₀ w→VV P L ⟨dst,op,ty,pos,af,gu⟩ w v)
 (h:SD P n ops Q (wD ms w₀) kp rest (dO dst v L) w):SD P n ops Q (wD ms w₀) kp ((i,1)::rest) L w:=⟨_,v,hi,hd,hS,.inl ⟨hg,hv⟩,h⟩
theorem fK {v:Value}(hi:ops[i]? = some ⟨dst,op,ty,pos,af,gu⟩)(hg:gd ops L ⟨dst,op,ty,pos,af,gu⟩=some true)(hd:jL n dst=true)(hS:Kp ms w₀ w)(hv:∀ w,Kp ms w₀ w→VV P L ⟨dst,op,ty,pos,af,gu⟩ w v)
 (h:SD P n ops Q (wD ms w₀) kp rest (dO dst v L) w):SD P n ops Q (wD ms w₀) kp ((i,3)::rest) L w:=⟨_,v,hi,hd,hS,.inl ⟨hg,hv⟩,h⟩
theorem Bc {R:Value→World→Prop}(hi:ops[i]? = some ⟨dst,op,ty,pos,af,gu⟩)(hg:gd ops L ⟨dst,op,ty,pos,af,gu⟩=some true)(hd:jL n dst=true)(hv:EV P L ⟨dst,op,ty,pos,af,gu⟩ w R)
 (h:∀ v w',R v w'→Gr w w'∧SD P n ops Q (wD ms w₀) kp rest (dO dst v L) w'):SD P n ops Q (wD ms w₀) kp ((i,0)::rest) L w:=
 ⟨_,hi,hd,.inl ⟨hg,R,hv,fun v w' hR=>⟨fun lv _ hS=>by
  cases lv with
  | zero=>exact Gr.trans hS (h v w' hR).1
  | succ k=>exact Kp.gr hS (h v w' hR).1,(h v w' hR).2⟩⟩⟩
theorem Qx {R:Value→World→Prop}{b:Nat}(hi:ops[i]? = some ⟨dst,op,ty,pos,af,gu⟩)(hk:kp 0 i=false)(hg:gd ops L ⟨dst,op,ty,pos,af,gu⟩=some true)(hd:jL n dst=true)(hv:EV P L ⟨dst,op,ty,pos,af,gu⟩ w R)(hb:b∈ms∨w₀.heap.size≤b)
 (h:∀ v w',R v w'→Md b w w'∧SD P n ops Q (wD ms w₀) kp rest (dO dst v L) w'):SD P n ops Q (wD ms w₀) kp ((i,2)::rest) L w:=
 ⟨_,hi,hd,.inl ⟨hg,R,hv,fun v w' hR=>⟨fun lv hk' hS=>by
  cases lv with
  | zero=>rw[hk] at hk';cases hk'
  | succ k=>exact Kp.md hS (h v w' hR).1 hb,(h v w' hR).2⟩⟩⟩
end
section
variable {P:Program} {r:Option Nat} {n:Nat} {Q:Exit→List Deferred→Slots→World→Prop} {K:List Deferred→Slots→World→Prop} {D:List Deferred} {L:Slots} {w:World} {id id':Nat}
theorem aX {y:Code}{ops:Array Oper}{S:Nat→World→Prop}{kp:Nat→Nat→Bool}(h:SW P r n y Q D L w):SD P n ops (fun L w=>mZ (fun D L w=>SW P r n y Q D L w) Q .normal D L w) S kp [] L w:=h
theorem bY {y:Code}(h:SW P r n y Q D L w):mZ (fun D L w=>SW P r n y Q D L w) Q .normal D L w:=h
theorem bL (h:Q (.exit id) D L w):mZ K Q (.exit id) D L w:=h
theorem bA (h:Q .ret D L w):mZ K Q .ret D L w:=h
theorem bE (h:Q .normal D L w):wB id Q .normal D L w:=h
theorem dS (h:Q .ret D L w):wB id Q .ret D L w:=h
theorem cB (h:Q .normal D L w):wB id Q (.exit id) D L w:=by simpa[wB] using h
theorem Fg (e:Nat.beq id' id=false)(h:Q (.exit id') D L w):wB id Q (.exit id') D L w:=by simpa[wB,e] using h
end
def Vt:List Deferred→World→World→Prop
 | [],w,w'=>w'=w
 | d::ds,w,w'=>∃ k,d.target=.collected k∧w.heap[k]? = some (.deferred (some []))∧Vt ds (w.putObj k (.deferred none)) w'
def K0 (P:Program)(fn:Func)(L:Slots)(w:World)(v:Value):Prop:=∀ n D a,fE n D L a→(results fn a.tmps).run P w=.ok v w
def Qox (P:Program)(fn:Func)(R:Value→World→Prop):Exit→List Deferred→Slots→World→Prop
 | .normal,D,L,w|.ret,D,L,w=>∃ w' v,Vt D w w'∧K0 P fn L w' v∧R v w'
 | _,_,_,_=>False
theorem Qeg {P:Program}{fn:Func}{tmps:Array Value}{R:Value→World→Prop}:∀ (D:List Deferred) (w w':World) (v:Value),Vt D w w'→(results fn tmps).run P w'=.ok v w'→R v w'→
 LeavesInM Fence.wide 0 P fn tmps (fun e w''=>∃ v,e=.returned v∧R v w'') D .returning w
 | [],w,w',v,hl,hr,hR=>by cases hl;exact⟨v,hr,v,rfl,hR⟩
 | d::ds,w,w',v,⟨k,hk,hb,hl⟩,hr,hR=>⟨by simp,.inl ⟨k,_,hk,run_takeDeferred hb,Qeg ds _ w' v hl hr hR⟩⟩
def I5:Nat→List Value→Slots
 | _,[]=>[]
 | i,v::r=>(i,v)::I5 (i+1) r
theorem Qn1:∀ (vs:List Value) (k i:Nat) (v:Value),lk i (I5 k vs)=some v→k≤i∧vs[i-k]? = some v
 | [],k,i,v,h=>by cases h
 | u::r,k,i,v,h=>by
  simp only[I5,lk] at h;by_cases e:k=i
  · subst e;simp at h;subst h;exact⟨eO _,by simp⟩
  · rw[I8 e] at h;obtain⟨h1,h2⟩:=Qn1 r (k+1) i v h;refine⟨aQ,?_⟩;have:i-k=(i-(k+1))+1:=by omega
    rw[this];simpa using h2
theorem bP {P:Program}{f:FuncId}{fn:Func}{c:Code}{vs:List Value}{w:World}{R:Value→World→Prop}(n:Nat)(hf:P.funcs[f]? = some fn)(hb:fn.body=some c)(hn:fn.ntmps=n)(hl:Nat.ble vs.length n=true)
 (h:SW P none n c (Qox P fn R) [] (I5 0 vs) w):Calls P f vs.toArray w fun e w'=>∃ v,e=.returned v∧R v w':=by
 refine(callsIn_wide (n:=0)).1 (callsIn_of_wp_marks hf hb trivial ?_);have hl':vs.length≤n:=qU hl
 have hfo:fE n [] (I5 0 vs) { tmps:=vs.toArray++Array.replicate (fn.ntmps-vs.toArray.size) undef,defers:=[] }:=by
  refine⟨by simp[hn];omega,rfl,fun i v e=>?_⟩;have:=(Qn1 vs 0 i v e).2;simp only[I1] at this;have hi:=(jP.1 this).1;rw[Qa5 (by simpa using hi)];simpa using this
 refine wpIn_mono (h _ hfo) fun e a' w' hh=>?_
 cases e with
 | normal=>obtain⟨D,L,h1,w'',v,h2,h3,h4⟩:=hh;show LeavesInM _ _ _ _ _ _ a'.defers _ _;rw[h1.defers];exact Qeg D w' w'' v h2 (h3 _ _ _ h1) h4
 | ret=>obtain⟨D,L,h1,w'',v,h2,h3,h4⟩:=hh;show LeavesInM _ _ _ _ _ _ a'.defers _ _;rw[h1.defers];exact Qeg D w' w'' v h2 (h3 _ _ _ h1) h4
 | exit id=>obtain⟨_,_,_,h⟩:=hh;exact h.elim
 | goto l=>obtain⟨_,_,_,h⟩:=hh;exact h.elim
 | panic c=>exact hh.elim
 | outgrown=>exact hh.elim
end Go.Sx

end
section
namespace Go.Sx
open Go Go.RowKit
def gV (P:Program)(t:TypeId):Prop:=∀ w,(isAgg t).run P w=.ok false w∧(sizeOf t).run P w=.ok 1 w
def gG (P:Program)(t:TypeId)(n:Nat):Prop:=∀ w,(isAgg t).run P w=.ok true w∧(sizeOf t).run P w=.ok n w
def iY (P:Program)(t:TypeId)(n:Nat):Prop:=∀ w,(sizeOf t).run P w=.ok n w
theorem gV.siz {P:Program}{t:TypeId}(h:gV P t):iY P t 1:=fun w=>(h w).2
theorem gG.siz {P:Program}{t:TypeId}{n:Nat}(h:gG P t n):iY P t n:=fun w=>(h w).2
def ZV (P:Program)(t:TypeId)(v:Value):Prop:=∀ w,(zeroValue t).run P w=.ok v w
def FA (P:Program)(s f k:Nat):Prop:=∀ b off w,(Instr.fieldAt s (.pointer (some ⟨b,off,none⟩)) f).run P w=.ok (.pointer (some ⟨b,off+k,none⟩)) w
def En (P:Program)(f:Nat):Prop:=∀ args w,(callFunc f args).run P w=.ok (.enter f args) w
def F1 (P:Program)(s f k:Nat):Prop:=∀ (cs:Array Value) w v,cs[k]? = some v→(Instr.field s (.agg cs) f).run P w=.ok v w
section
variable {P:Program} {L:Slots} {w:World} {dst:Option Nat} {ty:TypeId} {pos:String} {af:Array Edge} {gu:Option (Nat × Bool)}
theorem nM {s:Sem Value}{w':World}{v:Value}(h:s.run P w=.ok v w'):(do pure (Next.value (← s)):Sem Next).run P w=.ok (.value v) w':=by
 show(s.bind _).run P w=_;rw[Sem.run_bind',h];rfl
theorem Xfm {s:Sem Unit}{w':World}(h:s.run P w=.ok () w'):(do s;pure Next.skip:Sem Next).run P w=.ok .skip w':=by
 show(s.bind _).run P w=_;rw[Sem.run_bind',h];rfl
theorem aA {x:Operand}{v:Value}(hx:ev L x=some v):VV P L ⟨dst,.move x,ty,pos,af,gu⟩ w v:=fun ρ hρ=>by simp[execOp,hρ _ _ hx]
theorem fX {x:Operand}{v:Value}(hx:ev L x=some v):VV P L ⟨dst,.assign x,ty,pos,af,gu⟩ w v:=fun ρ hρ=>by simp[execOp,hρ _ _ hx]
theorem Xiy {c a b:Operand}{v:Value}(hc:ev L c=some (.bool true))(ha:ev L a=some v):VV P L ⟨dst,.pick c a b,ty,pos,af,gu⟩ w v:=fun ρ hρ=>by
 simp[execOp,hρ _ _ hc,hρ _ _ ha,asBool]
theorem Xix {c a b:Operand}{v:Value}(hc:ev L c=some (.bool false))(hb:ev L b=some v):VV P L ⟨dst,.pick c a b,ty,pos,af,gu⟩ w v:=fun ρ hρ=>by
 simp[execOp,hρ _ _ hc,hρ _ _ hb,asBool]
variable {x y:Operand} {t u:TypeId} {k:IntKind} {a b:Int}
theorem cZ (hx:ev L x=some (.int k a))(hy:ev L y=some (.int k b)):VV P L ⟨dst,.binOp .add t x y u,ty,pos,af,gu⟩ w (.int k (k.wrap (a+b))):=fun ρ hρ=>by
 simp[execOp,hρ _ _ hx,hρ _ _ hy,go_sem,Op.intArith]
theorem fL (hx:ev L x=some (.int k a))(hy:ev L y=some (.int k b)):VV P L ⟨dst,.binOp .sub t x y u,ty,pos,af,gu⟩ w (.int k (k.wrap (a-b))):=fun ρ hρ=>by
 simp[execOp,hρ _ _ hx,hρ _ _ hy,go_sem,Op.intArith]
theorem qG (hx:ev L x=some (.int k a))(hy:ev L y=some (.int k b)):VV P L ⟨dst,.binOp .mul t x y u,ty,pos,af,gu⟩ w (.int k (k.wrap (a*b))):=fun ρ hρ=>by
 simp[execOp,hρ _ _ hx,hρ _ _ hy,go_sem,Op.intArith]
theorem Ob {n:Int}(h1 : -9223372036854775808≤n)(h2:n≤9223372036854775807):IntKind.i64.wrap n=n:=IntWalk.i64_in n aQ
theorem kX (hx:ev L x=some (.int .i64 a))(hy:ev L y=some (.int .i64 b))(h1 : -9223372036854775808≤a+b)(h2:a+b≤9223372036854775807):VV P L ⟨dst,.binOp .add t x y u,ty,pos,af,gu⟩ w (.int .i64 (a+b)):=by
 have:=cZ (P:=P) (w:=w) (dst:=dst) (ty:=ty) (pos:=pos) (af:=af) (gu:=gu) (t:=t) (u:=u) hx hy;rwa[Ob h1 h2] at this
theorem Qh7 (hx:ev L x=some (.int .i64 a))(hy:ev L y=some (.int .i64 b))(h1 : -9223372036854775808≤a-b)(h2:a-b≤9223372036854775807):VV P L ⟨dst,.binOp .sub t x y u,ty,pos,af,gu⟩ w (.int .i64 (a-b)):=by
 have:=fL (P:=P) (w:=w) (dst:=dst) (ty:=ty) (pos:=pos) (af:=af) (gu:=gu) (t:=t) (u:=u) hx hy;rwa[Ob h1 h2] at this
theorem Qr6 (hx:ev L x=some (.int .i64 a))(hy:ev L y=some (.int .i64 b))(h1 : -9223372036854775808≤a*b)(h2:a*b≤9223372036854775807):VV P L ⟨dst,.binOp .mul t x y u,ty,pos,af,gu⟩ w (.int .i64 (a*b)):=by
 have:=qG (P:=P) (w:=w) (dst:=dst) (ty:=ty) (pos:=pos) (af:=af) (gu:=gu) (t:=t) (u:=u) hx hy;rwa[Ob h1 h2] at this
theorem yK {op:BinOp}(hop:op=.and∨op=.or∨op=.xor∨op=.andNot)(hx:ev L x=some (.int k a))(hy:ev L y=some (.int k b)):VV P L ⟨dst,.binOp op t x y u,ty,pos,af,gu⟩ w (.int k (bits op k a b)):=fun ρ hρ=>by
 rcases hop with rfl|rfl|rfl|rfl<;>simp[execOp,hρ _ _ hx,hρ _ _ hy,go_sem]
theorem Qh6 {yk:IntKind}(hx:ev L x=some (.int k a))(hy:ev L y=some (.int yk b))(h0:0≤b):VV P L ⟨dst,.binOp .shl t x y u,ty,pos,af,gu⟩ w (.int k (k.wrap (a*2^min b.toNat k.bits))):=fun ρ hρ=>by
 simp[execOp,hρ _ _ hx,hρ _ _ hy,go_sem,h0]
theorem La {yk:IntKind}(hx:ev L x=some (.int k a))(hy:ev L y=some (.int yk b))(h0:0≤b):VV P L ⟨dst,.binOp .shr t x y u,ty,pos,af,gu⟩ w (.int k (a / 2^min b.toNat k.bits)):=fun ρ hρ=>by
 simp[execOp,hρ _ _ hx,hρ _ _ hy,go_sem,h0]
theorem dK (hx:ev L x=some (.int k a))(hy:ev L y=some (.int k b)):VV P L ⟨dst,.binOp .eql t x y u,ty,pos,af,gu⟩ w (.bool (decide (a=b))):=fun ρ hρ=>by
 simp[execOp,hρ _ _ hx,hρ _ _ hy,go_sem];rfl
theorem fH (hx:ev L x=some (.int k a))(hy:ev L y=some (.int k b)):VV P L ⟨dst,.binOp .neq t x y u,ty,pos,af,gu⟩ w (.bool (decide (a≠b))):=fun ρ hρ=>by
 simp[execOp,hρ _ _ hx,hρ _ _ hy,go_sem];rfl
theorem cN (hx:ev L x=some (.int k a))(hy:ev L y=some (.int k b)):VV P L ⟨dst,.binOp .lss t x y u,ty,pos,af,gu⟩ w (.bool (decide (a<b))):=fun ρ hρ=>by
 simp[execOp,hρ _ _ hx,hρ _ _ hy,go_sem]
theorem qT (hx:ev L x=some (.int k a))(hy:ev L y=some (.int k b)):VV P L ⟨dst,.binOp .leq t x y u,ty,pos,af,gu⟩ w (.bool (decide (a≤b))):=fun ρ hρ=>by
 simp[execOp,hρ _ _ hx,hρ _ _ hy,go_sem]
theorem gT (hx:ev L x=some (.int k a))(hy:ev L y=some (.int k b)):VV P L ⟨dst,.binOp .gtr t x y u,ty,pos,af,gu⟩ w (.bool (decide (b<a))):=fun ρ hρ=>by
 simp[execOp,hρ _ _ hx,hρ _ _ hy,go_sem]
theorem gC (hx:ev L x=some (.int k a))(hy:ev L y=some (.int k b)):VV P L ⟨dst,.binOp .geq t x y u,ty,pos,af,gu⟩ w (.bool (decide (b≤a))):=fun ρ hρ=>by
 simp[execOp,hρ _ _ hx,hρ _ _ hy,go_sem]
theorem eF {c:Bool}(hx:ev L x=some (.bool c)):VV P L ⟨dst,.unOp .not t x,ty,pos,af,gu⟩ w (.bool (!c)):=fun ρ hρ=>by
 simp[execOp,hρ _ _ hx,go_sem]
def CV (P:Program)(s d:TypeId)(k:IntKind):Prop:=∀ q n w,(convert s d (.int q n)).run P w=.ok (.int k (k.wrap n)) w
theorem wV {s d:TypeId}{q:IntKind}(hc:CV P s d k)(hx:ev L x=some (.int q a)):VV P L ⟨dst,.convert s d x,ty,pos,af,gu⟩ w (.int k (k.wrap a)):=fun ρ hρ=>by
 simp[execOp,hρ _ _ hx,hc q a w,go_sem]
theorem rD {s d:TypeId}{q:IntKind}(hc:CV P s d .i64)(hx:ev L x=some (.int q a))(h1 : -9223372036854775808≤a)(h2:a≤9223372036854775807):VV P L ⟨dst,.convert s d x,ty,pos,af,gu⟩ w (.int .i64 a):=by
 have:=wV (P:=P) (w:=w) (dst:=dst) (ty:=ty) (pos:=pos) (af:=af) (gu:=gu) hc hx;rwa[Ob h1 h2] at this
theorem aP {s f q b' off:Nat}(hf:FA P s f q)(hx:ev L x=some (.pointer (some ⟨b',off,none⟩))):VV P L ⟨dst,.fieldAddr s x f,ty,pos,af,gu⟩ w (.pointer (some ⟨b',off+q,none⟩)):=fun ρ hρ=>nM (by rw[hρ _ _ hx];exact hf b' off w)
theorem yV {len b' off sz:Nat}{e:TypeId}{i:Int}(hu:P.underlying t=some (.array len e))(hs:iY P e sz)(hx:ev L x=some (.pointer (some ⟨b',off,none⟩)))(hy:ev L y=some (.int k i))(h0:0≤i)(h1:i<len):
 VV P L ⟨dst,.indexAddr t x y,ty,pos,af,gu⟩ w (.pointer (some ⟨b',off+i.toNat*sz,none⟩)):=fun ρ hρ=>by
 simp[execOp,hρ _ _ hx,hρ _ _ hy,Instr.indexAt,run_underlying hu,Instr.sureAddr,asIntOf,hs w,h0,h1,go_sem]
theorem Qqy {len cap b' off sz:Nat}{e:TypeId}{i:Int}(hu:P.underlying t=some (.slice e))(hs:iY P e sz)(hx:ev L x=some (.slice (some ⟨b',off,none⟩) len cap))(hy:ev L y=some (.int k i))(h0:0≤i)(h1:i<len):
 VV P L ⟨dst,.indexAddr t x y,ty,pos,af,gu⟩ w (.pointer (some ⟨b',off+i.toNat*sz,none⟩)):=fun ρ hρ=>by
 simp[execOp,hρ _ _ hx,hρ _ _ hy,Instr.indexAt,run_underlying hu,asIntOf,hs w,h0,h1,go_sem]
theorem Xih {vs:List Value}{q:Nat}{v:Value}(hx:ev L x=some (.tuple vs.toArray))(hq:vs[q]? = some v):VV P L ⟨dst,.extract x q,ty,pos,af,gu⟩ w v:=fun ρ hρ=>by
 simp[execOp,hρ _ _ hx,Instr.extract,hq,go_sem]
theorem Xii {s f q:Nat}{cs:List Value}{v:Value}(hf:F1 P s f q)(hx:ev L x=some (.agg cs.toArray))(hv:cs[q]? = some v):VV P L ⟨dst,.field s x f,ty,pos,af,gu⟩ w v:=fun ρ hρ=>by
 have:=hf cs.toArray w v (by simpa using hv);simp[execOp,hρ _ _ hx,this,go_sem]
theorem kZ {f:Nat}{fs cap:Array Operand}{vf vc:List Value}(h1:tC L fs.toList=some vf)(h2:tC L cap.toList=some vc):VV P L ⟨dst,.makeFunc (.func f) fs cap,ty,pos,af,gu⟩ w (.func (.func f) vf.toArray vc.toArray):=fun ρ hρ=>by
 simp[execOp,hρ.mapA h1,hρ.mapA h2,Instr.makeFunc,go_sem]
theorem aS {b' off:Nat}{tb:TypeId}{cs:List Value}{v:Value}(h1:gV P t)(hx:ev L x=some (.pointer (some ⟨b',off,none⟩)))(hb:Bx w b' tb cs)(hv:cs[off]? = some v):VV P L ⟨dst,.load t x,ty,pos,af,gu⟩ w v:=fun ρ hρ=>by
 have hc:w.cell? ⟨b',off,none⟩=some v:=by rw[hb.cell];exact hv
 simp[execOp,hρ _ _ hx,Instr.loadAt,Instr.sureAddr,loadVar,(h1 w).1,hc,go_sem]
theorem gM {b' off m:Nat}{tb:TypeId}{cs vs:List Value}(h1:gG P t m)(hx:ev L x=some (.pointer (some ⟨b',off,none⟩)))(hb:Bx w b' tb cs)(hv:(cs.drop off).take m=vs)(hl:vs.length=m):VV P L ⟨dst,.load t x,ty,pos,af,gu⟩ w (.agg vs.toArray):=fun ρ hρ=>by
 have hc:(loadCells ⟨b',off,none⟩ vs.length).run P w=.ok vs.toArray w:=run_loadCells_list w _ _ (fun j v hj=>by
  rw[Addr.add_lit,hb.cell];have hjm:j<m:=by rw[←hl];exact(jP.1 hj).1
  rw[←hv,Qap hjm,V9] at hj
  exact hj)
 rw[hl] at hc;refine nM ?_;rw[hρ _ _ hx];simp[Instr.loadAt,Instr.sureAddr,loadVar,(h1 w).1,(h1 w).2,hc]
theorem bZ {b' m:Nat}{tb:TypeId}{cs:List Value}(h1:gG P t m)(hx:ev L x=some (.pointer (some ⟨b',0,none⟩)))(hb:Bx w b' tb cs)(hl:cs.length=m):VV P L ⟨dst,.load t x,ty,pos,af,gu⟩ w (.agg cs.toArray):=
 gM h1 hx hb (by rw[kA,kI aQ]) hl
theorem Qkt {o:Oper}{v:Value}{cs:List Value}(hrun:∀ ρ,sE L ρ→(execOp ρ o).run P w=.ok (.value (.pointer (some ⟨w.heap.size,0,none⟩))) (w.alloc (.cells v.cells t)))(hc:v.cells=cs.toArray):
 EV P L o w fun v' w'=>∃ b,v'=.pointer (some ⟨b,0,none⟩)∧w.heap.size≤b∧Bx w' b t cs∧Gr w w':=fun ρ hρ=>
 .val _ _ (hrun ρ hρ) ⟨w.heap.size,rfl,eO _,by unfold Bx;rw[hc];exact heap_alloc_new w _,(Below.refl _ _).alloc (eO _) _⟩
theorem bR {v:Value}{cs:List Value}(hx:ev L x=some v)(hc:v.cells=cs.toArray):
 EV P L ⟨dst,.box t x,ty,pos,af,gu⟩ w fun v' w'=>∃ b,v'=.pointer (some ⟨b,0,none⟩)∧w.heap.size≤b∧Bx w' b t cs∧Gr w w':=
 Qkt (v:=v) (fun ρ hρ=>by simp[execOp,hρ _ _ hx,Instr.box,newVar,newRow,go_sem]) hc
theorem bB {v:Value}{cs:List Value}(hz:ZV P t v)(hc:v.cells=cs.toArray):
 EV P L ⟨dst,.alloc t,ty,pos,af,gu⟩ w fun v' w'=>∃ b,v'=.pointer (some ⟨b,0,none⟩)∧w.heap.size≤b∧Bx w' b t cs∧Gr w w':=
 Qkt (v:=v) (fun ρ _=>by simp[execOp,Instr.alloc,hz w,newVar,newRow,go_sem]) hc
def iU (cs:List Value)(off:Nat)(vs:List Value):List Value:=cs.take off++vs++cs.drop (off+vs.length)
theorem Qgo (cs:List Value)(off:Nat):iU cs off []=cs:=by simp[iU]
theorem Qgn (cs:List Value)(off:Nat)(v:Value)(vs:List Value)(h:off+(v::vs).length≤cs.length):iU (cs.set off v) (off+1) vs=iU cs off (v::vs):=by
 simp only[qF] at h;unfold iU
 have e1:(cs.set off v).take (off+1)=cs.take off++[v]:=by
  rw[List.take_set,Qb0 aQ,List.set_append_right _ _ (by simp;omega)];have:off-(cs.take off).length=0:=by simp;omega
  rw[this];rfl
 have e2:(cs.set off v).drop (off+1+vs.length)=cs.drop (off+(v::vs).length):=by
  rw[Qag aQ];congr 1;simp;omega
 rw[e1,e2];simp
theorem Qpe {b' off:Nat}{tb:TypeId}:∀ (vs:List Value) (i:Nat) (w:World) (cs:List Value),(∀ v∈vs,v.oneCell'=true)→Bx w b' tb cs→off+i+vs.length≤cs.length→
 ∃ w',(storeCells ⟨b',off,none⟩ vs i).run P w=.ok () w'∧Bx w' b' tb (iU cs (off+i) vs)∧Md b' w w'
 | [],i,w,cs,_,hb,_=>⟨w,rfl,by rw[Qgo];exact hb,Md.refl _ _⟩
 | v::vs,i,w,cs,h1,hb,hl=>by
  obtain⟨hm,hb'⟩:=Md.of_setCell hb (off+i) v;obtain⟨w',hr,hb2,hm2⟩:=Qpe (off:=off) vs (i+1) _ _ (fun u hu=>h1 u (pS _ hu)) hb' (by simp at hl ⊢;omega);refine⟨w',?_,?_,hm.trans hm2⟩
  · unfold storeCells;have dX:off+i<cs.length:=by simp at hl;omega
    have hc:w.cell? ⟨b',off+i,none⟩=some cs[off+i]:=by rw[hb.cell];simp[dX]
    have hfz:w.frozen? ⟨b',off+i,none⟩=false:=frozen_of_row w b' (off+i) _ tb hb;have hs:=run_store P w ⟨b',off+i,none⟩ v .plain (h1 v bW);rw[Addr.add_lit];simp only[Sem.run_bind,hs,hc,hfz];simpa[Result.andThen] using hr
  · have e:off+i+1=off+(i+1):=by omega
    rw[←Qgn cs (off+i) v vs (by simpa[rS] using hl),e];exact hb2
def oneB:Value→Bool
 | .agg _=>false
 | .tuple _=>false
 | _=>true
def iD:List Value→Bool
 | []=>true
 | v::r=>bif oneB v then iD r else false
theorem Qf2:∀ {vs:List Value},iD vs=true→∀ v∈vs,v.oneCell'=true
 | [],_,v,hv=>by cases hv
 | u::r,h,v,hv=>by
  unfold iD at h
  cases e:oneB u with
  | false=>rw[e] at h;cases h
  | true=>
   rw[e] at h;rcases gW.1 hv with rfl|hv
   · cases v<;>first|rfl|(cases e)
   · exact Qf2 h v hv
theorem Ch {b' off m:Nat}{tb:TypeId}{v:Value}{cs vs:List Value}(hs:iY P t m)(hx:ev L x=some (.pointer (some ⟨b',off,none⟩)))(hy:ev L y=some v)(hc:v.cells=vs.toArray)(hm:vs.length=m)(h1:iD vs=true)(hb:Bx w b' tb cs)(hl:Nat.ble (off+m) cs.length=true):
 EV P L ⟨dst,.store t x y,ty,pos,af,gu⟩ w fun _ w'=>Bx w' b' tb (iU cs off vs)∧Md b' w w':=fun ρ hρ=>by
 have hl':=qU hl;obtain⟨w',hr,h2,h3⟩:=Qpe (P:=P) (off:=off) vs 0 w cs (Qf2 h1) hb (by simp;omega);refine .skip w' (Xfm ?_) ⟨h2,h3⟩;rw[hρ _ _ hx,hρ _ _ hy];simp[Instr.storeAt,Instr.sureAddr,storeVar,hs w,hc,hm,hr]
theorem pU {b' m:Nat}{tb:TypeId}{v:Value}{cs vs:List Value}(hs:iY P t m)(hx:ev L x=some (.pointer (some ⟨b',0,none⟩)))(hy:ev L y=some v)(hc:v.cells=vs.toArray)(hm:vs.length=m)(h1:iD vs=true)(hb:Bx w b' tb cs)(hl:cs.length=m):
 EV P L ⟨dst,.store t x y,ty,pos,af,gu⟩ w fun _ w'=>Bx w' b' tb vs∧Md b' w w':=by
 refine(Ch hs hx hy hc hm h1 hb (by simp[hl])).mono ?_;rintro _ w' ⟨h2,h3⟩;have:iU cs 0 vs=vs:=by simp[iU,hm,hl]
 rw[this] at h2;exact⟨h2,h3⟩
theorem Xg {b' off:Nat}{tb:TypeId}{v:Value}{cs:List Value}(hs:iY P t 1)(hx:ev L x=some (.pointer (some ⟨b',off,none⟩)))(hy:ev L y=some v)(h1:oneB v=true)(hb:Bx w b' tb cs)(hl:off<cs.length):
 EV P L ⟨dst,.store t x y,ty,pos,af,gu⟩ w fun _ w'=>Bx w' b' tb (cs.set off v)∧Md b' w w':=by
 have hc:v.cells=[v].toArray:=by cases v<;>first|rfl|(cases h1)
 refine(Ch (vs:=[v]) hs hx hy hc rfl (by simp[iD,h1]) hb (by simp;omega)).mono ?_;rintro _ w' ⟨h2,h3⟩;refine⟨?_,h3⟩;have:=Qgn cs off v [] (by simp;omega);rw[Qgo] at this;rw[this];exact h2
def oO (pl:Nat→Option (Nat × Nat)):List Value→List (Nat × Value)→Option (List Value)
 | z,[]=>some z
 | z,(i,v)::r=>match pl i with
  | none=>none
  | some (off,size)=>if v.cells.size=size∧off+size≤z.length then oO pl (iU z off v.cells.toList) r else none
theorem Qln (off:Nat):∀ (vs:List Value) (k:Nat) (z:List Value),off+k+vs.length≤z.length→
 (vs.zipIdx k).foldl (fun(cs:Array Value) (x:Value × Nat)=>cs.setIfInBounds (off+x.2) x.1) z.toArray=(iU z (off+k) vs).toArray
 | [],k,z,_=>by simp[Qgo]
 | v::vs,k,z,h=>by
  simp only[Qb1,wN];have e:z.toArray.setIfInBounds (off+k) v=(z.set (off+k) v).toArray:=by simp
  rw[e,Qln off vs (k+1) (z.set (off+k) v) (by simp at h ⊢;omega)];have:=Qgn z (off+k) v vs (by simpa[rS] using h);rw[←this,rS]
theorem Cr {pl:Nat→Option (Nat × Nat)}:∀ (parts:List (Nat × Value)) (z cs:List Value),oO pl z parts=some cs→Instr.fill pl z.toArray parts=some cs.toArray
 | [],z,cs,h=>by simp[oO] at h;subst h;rfl
 | (i,v)::r,z,cs,h=>by
  unfold oO at h;unfold Instr.fill
  split at h
  · cases h
  · rename_i off size e;rw[e];by_cases hc:v.cells.size=size∧off+size≤z.length
    · rw[aG hc] at h;have h1:(v.cells.size≠size||off+v.cells.size>z.toArray.size)=false:=by simp;omega
      simp only[h1,nI,mB]
      have h2:v.cells.zipIdx.foldl (fun(cs:Array Value) (x:Value × Nat)=>cs.setIfInBounds (off+x.2) x.1) z.toArray=(iU z off v.cells.toList).toArray:=by
       have:=Qln off v.cells.toList 0 z (by simp;omega);rw[←Array.foldl_toList,Array.toList_zipIdx];simpa using this
      rw[h2];exact Cr r _ cs h
    · rw[aH hc] at h;cases h
def BS (P:Program)(t:TypeId)(pl:Nat→Option (Nat × Nat))(z:List Value):Prop:=∀ (parts:Array (Nat × Value)) w cells, Instr.fill pl z.toArray parts.toList=some cells→(Instr.build t parts).run P w=
 (pure (.agg cells) : Sem Value).run P w
def zN (L:Slots):List (Nat × Operand)→Option (List (Nat × Value))
 | []=>some []
 | (i,x)::r=>match ev L x,zN L r with
  | some v,some vs=>some ((i,v)::vs)
  | _,_=>none
theorem sE.mapP {ρ:Operand→Value}(h:sE L ρ):∀ {l:List (Nat × Operand)} {vs:List (Nat × Value)},zN L l=some vs→l.map (fun x=>(x.1,ρ x.2))=vs
 | [],vs,e=>by cases e;rfl
 | (i,x)::r,vs,e=>by
  unfold zN at e
  split at e
  · rename_i v vs' h1 h2;cases e;rw[qC,h _ _ h1,h.mapP h2]
  · cases e
theorem dJ {pl:Nat→Option (Nat × Nat)}{z cs:List Value}{parts:Array (Nat × Operand)}{vs:List (Nat × Value)}(hb:BS P t pl z)(hp:zN L parts.toList=some vs)(hf:oO pl z vs=some cs):
 VV P L ⟨dst,.build t parts,ty,pos,af,gu⟩ w (.agg cs.toArray):=fun ρ hρ=>by
 have e:(parts.map fun(x:Nat × Operand)=>(x.1,ρ x.2))=vs.toArray:=by rw[←hρ.mapP hp,←Yb]
 refine nM ?_;show(Instr.build t (parts.map fun(x:Nat × Operand)=>(x.1,ρ x.2))).run P w=_;rw [e,hb _ _ _ (Cr vs z cs hf)];rfl
theorem mP {f:Nat}{aas:Array Operand}{at_:Array TypeId}{vs:List Value}{R:Value→World→Prop}(hen:En P f)(hargs:tC L aas.toList=some vs)
 (hc:Calls P f vs.toArray w fun e w'=>∃ v,e=.returned v∧R v w'):EV P L ⟨dst,.call { callee:=.value (.func f),args:=aas,argTypes:=at_ },ty,pos,af,gu⟩ w R:=fun ρ hρ=>by
 refine .call f vs.toArray w ?_ hc;have h0:ρ (.func f)=.func (.func f) #[] #[]:=hρ _ _ rfl;simp[execOp,resolve,hρ.mapA hargs,h0,Deferred.ofValue,invoke,go_sem];exact hen _ _
theorem gS {f:Nat}{fs cap:List Value}{aas:Array Operand}{at_:Array TypeId}{vs:List Value}{R:Value→World→Prop}(hen:En P f)(hx:ev L x=some (.func (.func f) fs.toArray cap.toArray))(hargs:tC L aas.toList=some vs)
 (hc:Calls P f (fs++vs++cap).toArray w fun e w'=>∃ v,e=.returned v∧R v w'):EV P L ⟨dst,.call { callee:=.value x,args:=aas,argTypes:=at_ },ty,pos,af,gu⟩ w R:=fun ρ hρ=>by
 refine .call f (fs++vs++cap).toArray w ?_ hc;simp[execOp,resolve,hρ.mapA hargs,hρ _ _ hx,Deferred.ofValue,invoke,go_sem];simpa[V8] using hen (fs++vs++cap).toArray w
theorem Ih {o':Option Addr}{len cap:Nat}{e:TypeId}(hu:P.underlying t=some (.slice e))(hx:ev L x=some (.slice o' len cap)):VV P L ⟨dst,.call { callee:=.builtin .len,args := #[x],argTypes := #[t] },ty,pos,af,gu⟩ w (.int .i64 len):=fun ρ hρ=>by
 simp[hρ _ _ hx,Builtin.len_,run_underlying hu,goInt,go_sem]
end
section
variable {P:Program} {fn:Func} {L:Slots} {w:World}
theorem pY {t:Nat}{v:Value}(h:fn.results = #[.tmp t])(hv:lk t L=some v):K0 P fn L w v:=fun n D a ha=>by
 have:=ha.get t v hv;rw[results_tmp h,Qa4,this];rfl
theorem Z6 {t b m:Nat}{ty tb:TypeId}{cs:List Value}(h:fn.results = #[.cell t ty])(h1:gG P ty m)(hv:lk t L=some (.pointer (some ⟨b,0,none⟩)))(hb:Bx w b tb cs)(hl:cs.length=m):K0 P fn L w (.agg cs.toArray):=fun n D a ha=>by
 have hc:(loadCells ⟨b,0,none⟩ cs.length).run P w=.ok cs.toArray w:=run_loadCells_list w _ _ (fun j v hj=>by rw[Addr.add_lit,hb.cell,kN];exact hj);rw[hl] at hc;have:=ha.get t _ hv;simp[results,h,this,asAddr,loadVar,(h1 w).1,(h1 w).2,hc]
theorem lO (h:fn.results = #[]):K0 P fn L w (.tuple #[]):=fun _ _ _ _=>results_none h _ _ _
end
end Go.Sx

end
section
namespace Go.Sx
open Go Go.RowKit
structure J6 (w w':World):Prop where
 os:w'.os=w.os
 tape:w'.tape=w.tape
 output:w'.output=w.output
 size:w.heap.size≤w'.heap.size
theorem Kp.env {ms:List Nat}{w w':World}(h:Kp ms w w'):J6 w w':=⟨h.os,h.tape,h.output,h.size⟩
theorem Kp.trans {ms ms':List Nat}{w w₁ w₂:World}(h:Kp ms w w₁)(k:Kp ms' w₁ w₂)(hm:∀ b∈ms',b∈ms∨w.heap.size≤b):Kp ms w w₂:=
 ⟨k.os.trans h.os,k.tape.trans h.tape,k.output.trans h.output,eK h.size k.size,fun b hb hn=>(k.block b (iC hb h.size) (fun hb'=>by
  rcases hm b hb' with h1|h1
  · exact hn h1
  · omega)).trans (h.block b hb hn)⟩
theorem Kp.mono {ms ms':List Nat}{w w':World}(h:Kp ms w w')(hs:∀ b∈ms,b∈ms'):Kp ms' w w':=⟨h.os,h.tape,h.output,h.size,fun k hk hn=>h.block k hk fun hm=>hn (hs k hm)⟩
theorem Gr.toKp {ms:List Nat}{w w':World}(h:Gr w w'):Kp ms w w':=⟨h.os,h.tape,h.output,h.size,fun k hk _=>h.block k hk⟩
theorem Md.put {w:World}(l:Nat)(o:Obj):Md l w (w.putObj l o):=⟨rfl,rfl,rfl,by simp,fun _ hk=>World.putObj_heap_other hk⟩
structure nE (J:Nat→List Nat→World→Prop):Prop where
 lt:∀ {k fp W},J k fp W→∀ b∈fp,b<W.heap.size
 keep:∀ {k fp W W'},J k fp W→J6 W W'→(∀ b∈fp,W'.heap[b]? = W.heap[b]?)→J k fp W'
theorem nE.gr {J:Nat→List Nat→World→Prop}(hJ:nE J){k:Nat}{f:List Nat}{W W':World}(h:J k f W)(g:Gr W W'):J k f W':=hJ.keep h ⟨g.os,g.tape,g.output,g.size⟩ fun b hb=>g.block b (hJ.lt h b hb)
theorem nE.md {J:Nat→List Nat→World→Prop}(hJ:nE J){k b:Nat}{f:List Nat}{W W':World}(h:J k f W)(m:Md b W W')(hb:b∉f):J k f W':=hJ.keep h ⟨m.os,m.tape,m.output,by rw[m.size];exact eO _⟩ fun c hc=>m.block c (by rintro rfl;exact hb hc)
theorem gF {f f':List Nat}{s b:Nat}(hF:∀ c∈f',c∈f∨s≤c)(h:b∉f)(dX:b<s):b∉f':=fun hb=>by
 rcases hF b hb with h1|h1
 · exact h h1
 · omega
theorem uN {fp f f':List Nat}{s0 s1:Nat}(hf:∀ c∈f,c∈fp∨s0≤c)(hF:∀ c∈f',c∈f∨s1≤c)(hs:s0≤s1):∀ c∈f',c∈fp∨s0≤c:=fun c hc=>by
 rcases hF c hc with h|h
 · exact hf c h
 · exact .inr aQ
theorem Qpy (b:Nat)(t:TypeId)(f:Nat→List Value):nE fun k fp W=>fp=[b]∧Bx W b t (f k):=
 ⟨fun⟨h1,h2⟩ c hc=>by subst h1;simp at hc;subst hc;exact h2.lt,fun⟨h1,h2⟩ _ hs=>⟨h1,(hs _ (by rw[h1];simp)).trans h2⟩⟩
theorem map_some {α β:Type}{l:List α}{c:α→β}{k:Nat}{y:β}(h:(l.map c)[k]? = some y):∃ x,l[k]? = some x∧c x=y:=by simpa using h
theorem Va:nE fun _ _ _=>False:=⟨fun h=>h.elim,fun h=>h.elim⟩
def Df (w:World)(b:Nat):Prop:=w.heap[b]? = some (.deferred (some []))
theorem Df.lt {w:World}{b:Nat}(h:Df w b):b<w.heap.size:=(lM.1 h).1
theorem Df.gr {w w':World}{b:Nat}(h:Df w b)(g:Gr w w'):Df w' b:=(g.block b h.lt).trans h
theorem Df.md {w w':World}{b c:Nat}(h:Df w c)(m:Md b w w')(ne:c≠b:=by omega):Df w' c:=(m.block c ne).trans h
theorem Df.kp {ms:List Nat}{w w':World}{b:Nat}(h:Df w b)(g:Kp ms w w')(hn:b∉ms):Df w' b:=(g.block b h.lt hn).trans h
def YD (P:Program)(l:Nat)(vs:List Value)(W:World)(R:Bool→World→Prop):Prop:=
 ∃ f tmps assign body,(Instr.yield l vs.toArray).run P W=.ok (.round l f tmps assign body) W∧RoundIn Fence.wide 0 P l f tmps assign body W fun e W'=>∃ b,e=.returned (.bool b)∧R b W'
def Rnd (J Jx:Nat→List Nat→World→Prop)(k:Nat)(fp:List Nat)(W:World)(b:Bool)(W':World):Prop:=
 Kp fp W W'∧∃ fp',(∀ c∈fp',c∈fp∨W.heap.size≤c)∧(bif b then J (k+1) fp' W' else Jx (k+1) fp' W')
def IT (P:Program)(g:Nat)(lb:List Value)(xs:List (List Value))(cap:List Nat)(w:World):Prop:=
 ∀ (l:Nat) (J Jx:Nat→List Nat→World→Prop) (W:World) (fp:List Nat),Gr w W→nE J→nE Jx→(∀ b∈cap,b∉fp)→J 0 fp W→
  (∀ k x fp' W1,xs[k]? = some x→J k fp' W1→Kp fp W W1→(∀ c∈fp',c∈fp∨W.heap.size≤c)→YD P l x W1 (Rnd J Jx k fp' W1))→
  Calls P g (Value.func (.yield l) #[] #[]::lb).toArray W fun e W'=>∃ v,e=.returned v∧Kp fp W W'∧((∃ fp',(∀ c∈fp',c∈fp∨W.heap.size≤c)∧J xs.length fp' W')∨(∃ k fp',(∀ c∈fp',c∈fp∨W.heap.size≤c)∧k≤xs.length∧Jx k fp' W'))
section
variable {P:Program} {L:Slots} {w:World} {dst:Option Nat} {ty:TypeId} {pos:String} {af:Array Edge} {gu:Option (Nat × Bool)}
theorem T5 {x:Operand}{l:Nat}{aas:Array Operand}{at_:Array TypeId}{vs:List Value}{R:Bool→World→Prop}(hx:ev L x=some (.func (.yield l) #[] #[]))(hargs:tC L aas.toList=some vs)
 (hy:YD P l vs w R):EV P L ⟨dst,.call { callee:=.value x,args:=aas,argTypes:=at_ },ty,pos,af,gu⟩ w fun v w'=>∃ b,v=.bool b∧R b w':=fun ρ hρ=>by
 obtain⟨f,tmps,assign,body,hrun,hR⟩:=hy;refine .round l f tmps assign body w ?_ (hR.mono ?_)
 · simp only[execOp,resolve,hρ.mapA hargs,hρ _ _ hx,Deferred.ofValue,Sem.run_bind,Sem.run_pure,Result.andThen,invoke];simpa using hrun
 · rintro e w' ⟨b,rfl,hb⟩;exact⟨_,rfl,b,rfl,hb⟩
end
def R2:List Nat→List Value→Slots→Slots
 | p::ps,v::vs,L=>R2 ps vs ((p,v)::L)
 | _,_,L=>L
theorem fE.ps {n:Nat}:∀ (ps:List Nat) (vs:List Value) (D:List Deferred) (L:Slots) (a:Act),fE n D L a→(∀ p∈ps,p<n)→
 fE n [] (R2 ps vs L) { tmps:=(ps.zip vs).foldl (fun t (x:Nat × Value)=>t.setIfInBounds x.1 x.2) a.tmps,defers:=[] }
 | [],vs,D,L,a,h,_=>⟨by simpa using h.size,rfl,by simpa[R2] using h.get⟩
 | p::ps,[],D,L,a,h,_=>⟨by simpa using h.size,rfl,by simpa[R2] using h.get⟩
 | p::ps,v::vs,D,L,a,h,hp=>by
  have h1:=h.put (d:=some p) (v:=v) (by simpa[jL] using hp p bW);have:=fE.ps ps vs D _ _ h1 (fun q hq=>hp q (by simp[hq]));simpa[R2,dO,Act.put] using this
def Xf7 (I:Nat→List Nat→World→Prop)(Ix:Code→Nat→List Nat→World→Prop)(k:Nat)(fp:List Nat)(W:World):Exit→List Deferred→Slots→World→Prop
 | .normal,_,_,W'=>Kp fp W W'∧∃ fp',(∀ c∈fp',c∈fp∨W.heap.size≤c)∧I (k+1) fp' W'
 | .ret,_,_,W'=>Kp fp W W'∧∃ fp',(∀ c∈fp',c∈fp∨W.heap.size≤c)∧Ix .ret (k+1) fp' W'
 | .exit id,_,_,W'=>Kp fp W W'∧∃ fp',(∀ c∈fp',c∈fp∨W.heap.size≤c)∧Ix (.exit id) (k+1) fp' W'
 | _,_,_,_=>False
def Qs9 (P:Program)(n l:Nat)(body:Code)(I:Nat→List Nat→World→Prop)(Ix:Code→Nat→List Nat→World→Prop)(k:Nat)(fp:List Nat)(W:World):Exit→List Deferred→Slots→World→Prop
 | .normal,D1,L1,W1=>D1=[]∧Gr W W1∧∀ W2,Md l W1 W2→I k fp W2→SW P (some l) n body (Xf7 I Ix k fp W2) [] L1 W2
 | _,_,_,_=>False
theorem yZ {P:Program}{n:Nat}{g:Operand}{ps:Array Tmp}{assign body:Code}{Q:Exit→List Deferred→Slots→World→Prop}{D:List Deferred}{L:Slots}{w:World}
 {gf:Nat} {lb:List Value} (hg:ev L g=some (.func (.func gf) #[] lb.toArray)) (hen:En P gf) {xs:List (List Value)} {cap:List Nat} (hit:IT P gf lb xs cap w)
 (hps:∀ x∈xs,x.length=ps.toList.length) (hpn:ps.toList.all (fun p=>Nat.blt p n)=true)
 (I:Nat→List Nat→World→Prop) (Ix:Code→Nat→List Nat→World→Prop) (fp0:List Nat) (hI:nE I) (hIx:∀ c,nE (Ix c)) (hcap:∀ b∈cap,b∉fp0∧b<w.heap.size) (h0:I 0 fp0 w)
 (hround:∀ (l k:Nat) (x:List Value) (fp:List Nat) (W:World),w.heap.size≤l→xs[k]? = some x→I k fp W→Kp fp0 w W→(∀ b∈fp,b∈fp0∨w.heap.size≤b)→l∉fp→l<W.heap.size→
  SW P (some l) n assign (Qs9 P n l body I Ix k fp W) [] (R2 ps.toList x L) W)
 (hdone:∀ (D0:Nat) (fp:List Nat) (W:World),w.heap.size≤D0→W.heap[D0]? = some (.deferred (some []))→D0∉fp→I xs.length fp W→Kp fp0 w W→Q .normal (⟨.collected D0,#[]⟩::D) L W)
 (hstop:∀ (D0:Nat) (c:Code) (k:Nat) (fp:List Nat) (W:World),w.heap.size≤D0→W.heap[D0]? = some (.deferred (some []))→D0∉fp→k≤xs.length→Ix c k fp W→Kp fp0 w W→SW P none n c Q (⟨.collected D0,#[]⟩::D) L W):
 SW P none n (.rangeFunc g ps assign body) Q D L w:=by
 intro a ha;refine wpIn_rangeFunc ?_;intro fn _;have hgv:a.eval g=.func (.func gf) #[] lb.toArray:=ha.cons _ _ hg;obtain⟨rec,hrec⟩:∃ rec:LoopState→Option Code→Loop,rec=fun st pe=>{ state:=st,pending:=pe,fn,tmps:=a.tmps,params:=ps,assign,body,defers:=w.heap.size }:=⟨_,rfl⟩;obtain⟨W1,hW1⟩:∃ W1,(w.alloc (.deferred (some []))).alloc (.loop (rec .ready none))=W1:=⟨_,rfl⟩
 have hL1:W1.heap[w.heap.size+1]? = some (.loop (rec .ready none)):=by
  rw[←hW1];have:=World.alloc_heap_new (w.alloc (.deferred (some []))) (.loop (rec .ready none));rwa[World.size_alloc] at this
 have hK1:W1.heap[w.heap.size]? = some (.deferred (some [])):=by
  rw[←hW1];exact(Below.heap_alloc _ _ _ bW).trans (World.alloc_heap_new w _)
 have hG1:Gr w W1:=by rw[←hW1];exact((Below.refl _ w).alloc (eO _) _).alloc bW _
 have hI1:I 0 fp0 W1:=hI.keep h0 ⟨hG1.os,hG1.tape,hG1.output,hG1.size⟩ (fun b hb=>hG1.block b (hI.lt h0 b hb));have hfl:∀ b∈fp0,b<w.heap.size:=hI.lt h0;have hWs:W1.heap.size=w.heap.size+2:=by rw[←hW1];simp
 refine⟨w.heap.size+1,[{ target:=.collected w.heap.size,args := #[] }],W1,{ target:=.fn (.func gf) lb.toArray,args := #[.func (.yield (w.heap.size+1)) #[] #[]] },W1,gf,
  #[.func (.yield (w.heap.size+1)) #[] #[]]++lb.toArray,W1,?_,?_,?_,?_,fun h=>(by cases h),?_⟩
 · rw[←hW1,hrec];exact run_enterLoop_outer _ _ _ _ _
 · simp only[resolve,hgv];simp[go_sem]
 · intro f' _;trivial
 · simp only[invoke];exact hen _ _
 have hE:∀ (l:Nat) (o:Obj) (W:World),J6 W (W.putObj l o):=fun l o W=>⟨rfl,rfl,rfl,by simp⟩;refine Qip ?_;have hargs : #[Value.func (.yield (w.heap.size+1)) #[] #[]]++lb.toArray=(Value.func (.yield (w.heap.size+1)) #[] #[]::lb).toArray:=by simp
 rw[hargs];have hfw:∀ b∈fp0,b≠w.heap.size∧b≠w.heap.size+1:=fun b hb=>by have:=hfl b hb;omega
 have hw1:∀ {W:World},Kp (w.heap.size::(w.heap.size+1)::fp0) W1 W→Kp fp0 w W:=fun {W} h=>by
  refine⟨h.os.trans hG1.os,h.tape.trans hG1.tape,h.output.trans hG1.output,eK hG1.size h.size,fun b hb hn=>?_⟩;refine(h.block b (iC hb hG1.size) ?_).trans (hG1.block b hb);simp only[gW,not_or];exact⟨aQ,aQ,hn⟩
 refine(hit (w.heap.size+1)
  (fun k fp W=>∃ fi,fp=w.heap.size::(w.heap.size+1)::fi∧I k fi W∧w.heap.size∉fi∧w.heap.size+1∉fi∧W.heap[w.heap.size+1]? = some (.loop (rec .ready none))∧W.heap[w.heap.size]? = some (.deferred (some [])))
  (fun k fp W=>∃ fi,fp=w.heap.size::(w.heap.size+1)::fi∧∃ c,Ix c k fi W∧w.heap.size∉fi∧w.heap.size+1∉fi∧W.heap[w.heap.size+1]? = some (.loop (rec .done (some c)))∧W.heap[w.heap.size]? = some (.deferred (some [])))
  W1 (w.heap.size::(w.heap.size+1)::fp0) hG1 ?_ ?_ ?_ ⟨fp0,rfl,hI1,fun h=>(hfw _ h).1 rfl,fun h=>(hfw _ h).2 rfl,hL1,hK1⟩ ?_).mono ?_
 · constructor
   · rintro k fp W ⟨fi,rfl,hi,_,_,hl,hd⟩ b hb;simp only[gW] at hb;rcases hb with rfl|rfl|hb
     · exact(lM.1 hd).1
     · exact(lM.1 hl).1
     · exact hI.lt hi b hb
   · rintro k fp W W' ⟨fi,rfl,hi,h1,h2,hl,hd⟩ he hs;exact⟨fi,rfl,hI.keep hi he (fun b hb=>hs b (by simp[hb])),h1,h2,(hs _ bW).trans hl,(hs _ bW).trans hd⟩
 · constructor
   · rintro k fp W ⟨fi,rfl,c,hi,_,_,hl,hd⟩ b hb;simp only[gW] at hb;rcases hb with rfl|rfl|hb
     · exact(lM.1 hd).1
     · exact(lM.1 hl).1
     · exact(hIx c).lt hi b hb
   · rintro k fp W W' ⟨fi,rfl,c,hi,h1,h2,hl,hd⟩ he hs;exact⟨fi,rfl,c,(hIx c).keep hi he (fun b hb=>hs b (by simp[hb])),h1,h2,(hs _ bW).trans hl,(hs _ bW).trans hd⟩
 · intro b hb;simp only[gW,not_or];have:=(hcap b hb).2;exact⟨aQ,aQ,(hcap b hb).1⟩
 · rintro k x fp' W2 hx ⟨fi,rfl,hi,hn1,hn2,hl,hd⟩ hkp hfp;have hkw:=hw1 hkp;have hlt2:w.heap.size+1<W2.heap.size:=(lM.1 hl).1;have hxl:x.length=ps.toList.length:=hps x (uA hx);refine⟨fn,(ps.zip x.toArray).foldl (fun tmps (t,a)=>tmps.setIfInBounds t a) a.tmps,assign,body,?_,?_⟩
   · have:=run_yield (P:=P) (w:=W2) (l:=w.heap.size+1) (r:=rec .ready none) (args:=x.toArray) hl (by rw[hrec];simpa using hxl);rw[this,hrec]
   · have hf0:fE n [] (R2 ps.toList x L) { tmps:=((ps.zip x.toArray).foldl (fun tmps (t,a)=>tmps.setIfInBounds t a) a.tmps),defers:=[] }:=by
      have:=fE.ps ps.toList x D L a ha (fun p hp=>by have:=oF.1 hpn p hp;simpa using this)
      have e:(ps.zip x.toArray).foldl (fun tmps (t,a)=>tmps.setIfInBounds t a) a.tmps=(ps.toList.zip x).foldl (fun t (x:Nat × Value)=>t.setIfInBounds x.1 x.2) a.tmps:=by
       rw[←Array.foldl_toList,Array.toList_zip]
      rw[e];exact this
     have hr:=hround (w.heap.size+1) k x fi W2 aQ hx hi hkw (fun b hb=>by
      rcases hfp b (by simp[hb]) with h|h
      · simp only[gW] at h;rcases h with rfl|rfl|h
        · exact(hn1 hb).elim
        · exact(hn2 hb).elim
        · exact .inl h
      · exact .inr (eK hG1.size h)) hn2 hlt2
     refine roundIn_of_wpIn (F:=Fence.wide) trivial ?_;refine wpIn_mono (hr _ hf0) fun e a1 W3 hh=>?_
     cases e with
     | normal=>
      obtain⟨D1,L1,hf1,rfl,hg3,hb⟩:=hh;have hl3:W3.heap[w.heap.size+1]? = some (.loop (rec .ready none)):=(hg3.block _ hlt2).trans hl;refine⟨_,run_beginRound hl3 (by rw[hrec]),?_⟩;have hl4:(W3.putObj (w.heap.size+1) (.loop { rec .ready none with state:=.busy })).heap[w.heap.size+1]? = some (.loop { rec .ready none with state:=.busy }):=World.putObj_heap_same (lM.1 hl3).1;have hd4:(W3.putObj (w.heap.size+1) (.loop { rec .ready none with state:=.busy })).heap[w.heap.size]? = some (.deferred (some [])):=(World.putObj_heap_other aQ).trans ((hg3.block _ aQ).trans hd);have hk4:Kp (w.heap.size::(w.heap.size+1)::fi) W2 (W3.putObj (w.heap.size+1) (.loop { rec .ready none with state:=.busy })):=(Gr.toKp hg3).md (Md.put _ _) (.inl bW);have hi4:I k fi (W3.putObj (w.heap.size+1) (.loop { rec .ready none with state:=.busy })):=hI.keep hi ⟨hg3.os,hg3.tape,hg3.output,by simpa using hg3.size⟩ (fun b hb=>(World.putObj_heap_other (show b≠w.heap.size+1 from by rintro rfl;exact hn2 hb)).trans (hg3.block b (hI.lt hi b hb)));have hsz4:W2.heap.size≤(W3.putObj (w.heap.size+1) (.loop { rec .ready none with state:=.busy })).heap.size:=hk4.size;have hrb:=hb _ (Md.put _ _) hi4 a1 hf1;generalize W3.putObj (w.heap.size+1) (.loop { rec .ready none with state:=.busy })=W4 at *;refine wpIn_mono hrb fun e a5 W5 hh=>?_
      have fin:∀ (j:Option Code) (fp':List Nat),Kp fi W4 W5→(∀ c∈fp',c∈fi∨W4.heap.size≤c)→
       (∀ W6,J6 W5 W6→(∀ b∈fp',W6.heap[b]? = W5.heap[b]?)→W6.heap[w.heap.size+1]? = some (.loop { rec .ready none with state:=if j.isNone then .ready else .done,pending:=j })→W6.heap[w.heap.size]? = some (.deferred (some []))→
        (bif j.isNone then(∃ fi',w.heap.size::(w.heap.size+1)::fp'=w.heap.size::(w.heap.size+1)::fi'∧I (k+1) fi' W6∧w.heap.size∉fi'∧w.heap.size+1∉fi'∧W6.heap[w.heap.size+1]? = some (.loop (rec .ready none))∧W6.heap[w.heap.size]? = some (.deferred (some [])))
         else ∃ fi',w.heap.size::(w.heap.size+1)::fp'=w.heap.size::(w.heap.size+1)::fi'∧∃ c,Ix c (k+1) fi' W6∧w.heap.size∉fi'∧w.heap.size+1∉fi'∧W6.heap[w.heap.size+1]? = some (.loop (rec .done (some c)))∧W6.heap[w.heap.size]? = some (.deferred (some []))))→
       ∃ v w',(Instr.endRound (w.heap.size+1) j).run P W5=.ok v w'∧∃ b,Ending.returned v=.returned (.bool b)∧
        Rnd (fun k fp W=>∃ fi,fp=w.heap.size::(w.heap.size+1)::fi∧I k fi W∧w.heap.size∉fi∧w.heap.size+1∉fi∧W.heap[w.heap.size+1]? = some (.loop (rec .ready none))∧W.heap[w.heap.size]? = some (.deferred (some [])))
         (fun k fp W=>∃ fi,fp=w.heap.size::(w.heap.size+1)::fi∧∃ c,Ix c k fi W∧w.heap.size∉fi∧w.heap.size+1∉fi∧W.heap[w.heap.size+1]? = some (.loop (rec .done (some c)))∧W.heap[w.heap.size]? = some (.deferred (some [])))
         k (w.heap.size::(w.heap.size+1)::fi) W2 b w':=by
       intro j fp' hk5 hfp' hcl;have hl5:W5.heap[w.heap.size+1]? = some (.loop { rec .ready none with state:=.busy }):=(hk5.block _ (lM.1 hl4).1 hn2).trans hl4;have hd5:W5.heap[w.heap.size]? = some (.deferred (some [])):=(hk5.block _ (lM.1 hd4).1 hn1).trans hd4
       have hnf:∀ c∈fp',c≠w.heap.size∧c≠w.heap.size+1:=fun c hc=>by
        rcases hfp' c hc with h|h
        · exact⟨fun e=>hn1 (e ▸ h),fun e=>hn2 (e ▸ h)⟩
        · omega
       refine⟨_,_,run_endRound j hl5,j.isNone,rfl,?_,w.heap.size::(w.heap.size+1)::fp',?_,?_⟩
       · refine Kp.md (Kp.trans hk4 (hk5.mono fun b hb=>by simp[hb]) (fun b hb=>.inl hb)) (Md.put _ _) (.inl bW)
       · intro c hc;simp only[gW] at hc ⊢;rcases hc with rfl|rfl|hc
         · exact .inl (.inl rfl)
         · exact .inl (.inr (.inl rfl))
         · rcases hfp' c hc with h|h
           · exact .inl (.inr (.inr h))
           · exact .inr (eK hsz4 h)
       · exact hcl _ (hE _ _ _) (fun b hb=>World.putObj_heap_other (hnf b hb).2) (by rw[World.putObj_heap_same (lM.1 hl5).1]) ((World.putObj_heap_other aQ).trans hd5)
      have nofp:∀ fp':List Nat,(∀ c∈fp',c∈fi∨W4.heap.size≤c)→w.heap.size∉fp'∧w.heap.size+1∉fp':=fun fp' h=>
       ⟨fun hc=>by rcases h _ hc with h|h;exact hn1 h;omega,fun hc=>by rcases h _ hc with h|h;exact hn2 h;omega⟩
      cases e with
      | normal=>
       obtain⟨_,_,_,hk5,fp',hfp',hI5⟩:=hh;exact fin none fp' hk5 hfp' fun W6 he hs hl6 hd6=>⟨fp',rfl,hI.keep hI5 he hs,(nofp fp' hfp').1,(nofp fp' hfp').2,by rw[hl6,hrec];rfl,hd6⟩
      | ret=>
       obtain⟨_,_,_,hk5,fp',hfp',hI5⟩:=hh;exact fin (some .ret) fp' hk5 hfp' fun W6 he hs hl6 hd6=>⟨fp',rfl,.ret,(hIx _).keep hI5 he hs,(nofp fp' hfp').1,(nofp fp' hfp').2,by rw[hl6,hrec];rfl,hd6⟩
      | exit id=>
       obtain⟨_,_,_,hk5,fp',hfp',hI5⟩:=hh;exact fin (some (.exit id)) fp' hk5 hfp' fun W6 he hs hl6 hd6=>⟨fp',rfl,.exit id,(hIx _).keep hI5 he hs,(nofp fp' hfp').1,(nofp fp' hfp').2,by rw[hl6,hrec];rfl,hd6⟩
      | goto t=>obtain⟨_,_,_,h⟩:=hh;exact h.elim
      | panic c=>exact hh.elim
      | outgrown=>exact hh.elim
     | exit id=>obtain⟨_,_,_,h⟩:=hh;exact h.elim
     | goto t=>obtain⟨_,_,_,h⟩:=hh;exact h.elim
     | ret=>obtain⟨_,_,_,h⟩:=hh;exact h.elim
     | panic c=>exact hh.elim
     | outgrown=>exact hh.elim
 · rintro e W' ⟨v,rfl,hkp,hh⟩;have hkw:=hw1 hkp;have hmk:∀ (W:World),fE n ({ target:=.collected w.heap.size,args := #[] }::D) L { a with defers:=[{ target:=.collected w.heap.size,args := #[] }]++a.defers }:=fun _=>⟨ha.size,by rw[ha.defers];rfl,ha.get⟩;rcases hh with⟨fp',_,fi,rfl,hi,hn1,hn2,hl,hd⟩|⟨k,fp',_,hk,fi,rfl,c,hi,hn1,hn2,hl,hd⟩
   · refine⟨_,_,run_endLoop hl (by rw[hrec];simp),?_⟩;rw[hrec];refine⟨_,L,hmk W',hdone w.heap.size fi _ (eO _) ((World.putObj_heap_other aQ).trans hd) hn1 (hI.keep hi (hE _ _ _) (fun b hb=>World.putObj_heap_other (show b≠w.heap.size+1 from by rintro rfl;exact hn2 hb))) (hkw.md (Md.put _ _) (.inr aQ))⟩
   · refine⟨_,_,run_endLoop hl (by rw[hrec];simp),?_⟩;rw[hrec];exact hstop w.heap.size c k fi _ (eO _) ((World.putObj_heap_other aQ).trans hd) hn1 hk ((hIx c).keep hi (hE _ _ _) (fun b hb=>World.putObj_heap_other (show b≠w.heap.size+1 from by rintro rfl;exact hn2 hb))) (hkw.md (Md.put _ _) (.inr aQ)) _ (hmk W')
end Go.Sx

end
section
namespace Go.Sx
open Go Go.RowKit
structure Ka (z g:Nat)(w w':World):Prop where
 os:w'.os=w.os
 tape:w'.tape=w.tape
 output:w'.output=w.output
 size:w.heap.size≤w'.heap.size
 block:∀ k,k<w.heap.size→(z=0∨k≠g)→w'.heap[k]? = w.heap[k]?
section
variable {w w' w₁ w₂:World} {z g b:Nat} {t:TypeId} {cs:List Value} {ms:List Nat}
theorem Bx.ka (h:Bx w b t cs)(a:Ka z g w w')(hn:z=0∨b≠g:=by omega):Bx w' b t cs:=(a.block b h.lt hn).trans h
theorem Gr.ka (h:Gr w w₁)(a:Ka z g w₁ w₂)(hg:z=0∨w.heap.size≤g:=by omega):Gr w w₂:=
 ⟨a.os.trans h.os,a.tape.trans h.tape,a.output.trans h.output,eK h.size a.size,fun k hk=>(a.block k (iC hk h.size) aQ).trans (h.block k hk)⟩
theorem Kp.ka (h:Kp ms w w₁)(a:Ka z g w₁ w₂)(hg:z=0∨g∈ms∨w.heap.size≤g:=by(try simp only[bO])<;>omega):Kp ms w w₂:=
 ⟨a.os.trans h.os,a.tape.trans h.tape,a.output.trans h.output,eK h.size a.size,fun k hk hm=>(a.block k (iC hk h.size) (by
  rcases hg with h0|h0|h0
  · exact .inl h0
  · exact .inr fun e=>hm (e ▸ h0)
  · exact .inr aQ)).trans (h.block k hk hm)⟩
theorem Ka.env (a:Ka z g w w'):J6 w w':=⟨a.os,a.tape,a.output,a.size⟩
theorem Df.ka {D:Nat}(h:w.heap[D]? = some (.deferred (some [])))(a:Ka z g w w')(hn:z=0∨D≠g:=by omega):w'.heap[D]? = some (.deferred (some [])):=(a.block D (lM.1 h).1 hn).trans h
theorem Ka.refl (z g:Nat)(w:World):Ka z g w w:=⟨rfl,rfl,rfl,eO _,fun _ _ _=>rfl⟩
end
def Ws (sz:Nat)(xs:List (List Value)):Prop:=∀ x∈xs,x.length=sz∧iD x=true
theorem Qhb (sz:Nat):Ws sz []:=fun _ h=>by cases h
theorem Xjg {sz:Nat}{x:List Value}{xs:List (List Value)}(h1:x.length=sz)(h2:iD x=true)(h:Ws sz xs):Ws sz (x::xs):=fun y hy=>by
 rcases gW.1 hy with rfl|hy
 · exact⟨h1,h2⟩
 · exact h y hy
theorem Od {sz:Nat}{xs ys:List (List Value)}(h:Ws sz xs)(k:Ws sz ys):Ws sz (xs++ys):=fun y hy=>by
 rcases nO.1 hy with hy|hy
 · exact h y hy
 · exact k y hy
theorem Ld {sz:Nat}{α:Type}{c:α→List Value}(l:List α)(h1:∀ x,(c x).length=sz)(h2:∀ x,iD (c x)=true):Ws sz (l.map c):=fun y hy=>by
 obtain⟨x,_,rfl⟩:=fP.1 hy;exact⟨h1 x,h2 x⟩
theorem Ws.flat {sz:Nat}:∀ {xs:List (List Value)},Ws sz xs→xs.flatten.length=xs.length*sz
 | [],_=>by simp
 | x::xs,h=>by
  rw[pL,nJ,(h x bW).1,Ws.flat (fun y hy=>h y (pS _ hy)),qF,iN];omega
theorem Ws.one {sz:Nat}{xs:List (List Value)}(h:Ws sz xs):∀ u∈xs.flatten,u.oneCell'=true:=fun u hu=>by
 obtain⟨x,hx,hux⟩:=List.mem_flatten.1 hu;exact Qf2 (h x hx).2 u hux
theorem Ws.at {sz:Nat}:∀ {xs:List (List Value)} (i q:Nat) (c:List Value),Ws sz xs→xs[i]? = some c→q<sz→xs.flatten[i*sz+q]? = c[q]?
 | [],i,q,c,_,hi,_=>by simp at hi
 | x::xs,0,q,c,h,hi,hq=>by
  simp at hi;subst hi;rw[pL,vZ,kN,List.getElem?_append_left (by rw[(h x bW).1];exact hq)]
 | x::xs,i+1,q,c,h,hi,hq=>by
  simp at hi;have hx:=(h x bW).1;rw[pL,List.getElem?_append_right (by rw[hx,iN];omega)];have e:(i+1)*sz+q-x.length=i*sz+q:=by rw[hx,iN];omega
  rw[e];exact Ws.at i q c (fun y hy=>h y (pS _ hy)) hi hq
theorem sQ {α β:Type}{l:List α}{k:Nat}{x:α}{c:α→β}(h:l[k]? = some x):(l.map c)[k]? = some (c x):=by simp[h]
def aY (w:World)(z g:Nat)(e:TypeId)(sz:Nat)(v:Value)(xs:List (List Value)):Prop:=
 Ws sz xs∧((z=0∧v=.slice none 0 0∧xs=[])∨
  (z=1∧∃ cap cur,v=.slice (some ⟨g,0,none⟩) xs.length cap∧w.heap[g]? = some (.cells cur e (0,0))∧xs.length≤cap∧cap≤maxLen∧cur.size=cap*sz∧cur.toList.take (xs.length*sz)=xs.flatten))
def Rd (w:World)(z g o sz:Nat)(v:Value)(xs:List (List Value)):Prop:=
 Ws sz xs∧((z=0∧xs=[]∧∃ a cap,v=.slice a 0 cap)∨
  (z=1∧∃ cap,v=.slice (some ⟨g,o,none⟩) xs.length cap∧(g<w.heap.size∧xs.length≤cap)∧∀ j u,xs.flatten[j]? = some u→w.cell? ⟨g,o+j,none⟩=some u))
section
variable {w w':World} {z g o sz b z' g':Nat} {e:TypeId} {v:Value} {xs:List (List Value)} {ms:List Nat}
theorem aY.keep (h:aY w z g e sz v xs)(hb:z=0∨(g<w.heap.size→w'.heap[g]? = w.heap[g]?)):aY w' z g e sz v xs:=by
 refine⟨h.1,?_⟩;rcases h.2 with h0|⟨rfl,cap,cur,h1,h2,h3⟩
 · exact .inl h0
 · refine .inr ⟨rfl,cap,cur,h1,?_,h3⟩;rcases hb with hb|hb
   · cases hb
   · rw[hb (lM.1 h2).1];exact h2
theorem aY.gr (h:aY w z g e sz v xs)(k:Gr w w'):aY w' z g e sz v xs:=h.keep (.inr fun hl=>k.block g hl)
theorem aY.md (h:aY w z g e sz v xs)(k:Md b w w')(hn:z=0∨g≠b:=by omega):aY w' z g e sz v xs:=h.keep (hn.imp id fun hn _=>k.block g hn)
theorem aY.kp (h:aY w z g e sz v xs)(k:Kp ms w w')(hn:z=0∨g∉ms:=by(try simp only[bO])<;>omega):aY w' z g e sz v xs:=h.keep (hn.imp id fun hn hl=>k.block g hl hn)
theorem aY.ka (h:aY w z g e sz v xs)(k:Ka z' g' w w')(hn:z=0∨z'=0∨g≠g':=by omega):aY w' z g e sz v xs:=h.keep (hn.imp id fun hn hl=>k.block g hl hn)
theorem aY.lt (h:aY w z g e sz v xs):z=0∨(z=1∧g<w.heap.size):=by
 rcases h.2 with h0|⟨rfl,cap,cur,h1,h2,h3⟩
 · exact .inl h0.1
 · exact .inr ⟨rfl,(lM.1 h2).1⟩
theorem aY.oneB (h:aY w z g e sz v xs):oneB v=true:=by
 rcases h.2 with⟨_,rfl,_⟩|⟨_,cap,cur,rfl,_⟩<;>rfl
theorem cM (w:World)(g:Nat)(e:TypeId)(sz:Nat):aY w 0 g e sz (.slice none 0 0) []:=⟨Qhb _,.inl ⟨rfl,rfl,rfl⟩⟩
theorem Rd.keep (h:Rd w z g o sz v xs)(hb:z=0∨(g<w.heap.size→w'.heap[g]? = w.heap[g]?))(hs:w.heap.size≤w'.heap.size):Rd w' z g o sz v xs:=by
 refine⟨h.1,?_⟩;rcases h.2 with h0|⟨rfl,cap,h1,h2,h3⟩
 · exact .inl h0
 · refine .inr ⟨rfl,cap,h1,⟨iC h2.1 hs,h2.2⟩,fun j u hj=>?_⟩;rcases hb with hb|hb
   · cases hb
   · rw[World.cell?_of_block (hb h2.1)];exact h3 j u hj
theorem Rd.gr (h:Rd w z g o sz v xs)(k:Gr w w'):Rd w' z g o sz v xs:=h.keep (.inr fun hl=>k.block g hl) k.size
theorem Rd.md (h:Rd w z g o sz v xs)(k:Md b w w')(hn:z=0∨g≠b:=by omega):Rd w' z g o sz v xs:=h.keep (hn.imp id fun hn _=>k.block g hn) (by rw[k.size];exact eO _)
theorem Rd.kp (h:Rd w z g o sz v xs)(k:Kp ms w w')(hn:z=0∨g∉ms:=by(try simp only[bO])<;>omega):Rd w' z g o sz v xs:=h.keep (hn.imp id fun hn hl=>k.block g hl hn) k.size
theorem Rd.ka (h:Rd w z g o sz v xs)(k:Ka z' g' w w')(hn:z=0∨z'=0∨g≠g':=by omega):Rd w' z g o sz v xs:=h.keep (hn.imp id fun hn hl=>k.block g hl hn) k.size
theorem Rd.lt (h:Rd w z g o sz v xs):z=0∨(z=1∧g<w.heap.size):=by
 rcases h.2 with h0|⟨rfl,cap,h1,h2,h3⟩
 · exact .inl h0.1
 · exact .inr ⟨rfl,h2.1⟩
theorem aY.lth (h:aY w z g e sz v xs):bQ (z=0∨(z=1∧g<w.heap.size)):=⟨h.lt⟩
theorem Rd.lth (h:Rd w z g o sz v xs):bQ (z=0∨(z=1∧g<w.heap.size)):=⟨h.lt⟩
theorem aY.rd (h:aY w z g e sz v xs):Rd w z g 0 sz v xs:=by
 refine⟨h.1,?_⟩;rcases h.2 with⟨h0,h1,h2⟩|⟨rfl,cap,cur,h1,h2,h3,h4,h5,h6⟩
 · exact .inl ⟨h0,h2,none,0,h1⟩
 · refine .inr ⟨rfl,cap,h1,⟨(lM.1 h2).1,h3⟩,fun j u hj=>?_⟩;rw[kN,cell_of_row w g j cur e (0,0) h2];rw[←h6,wL] at hj
   split at hj
   · simpa using hj
   · cases hj
theorem aY.row (h:aY w z g e sz v xs)(hz:z=1):w.ownsRow g e sz v xs.length xs.flatten:=by
 rcases h.2 with⟨h0,h1,h2⟩|⟨_,cap,cur,h1,h2,h3,h4,h5,h6⟩
 · omega
 · exact⟨h.1.flat,.inr ⟨g,cap,cur,h1,eO _,h2,h3,h4,h5,h6⟩⟩
theorem aY.rowN (h:aY w z g e sz v xs)(hz:z=0)(base:Nat):w.ownsRow base e sz v xs.length xs.flatten:=by
 rcases h.2 with⟨h0,rfl,rfl⟩|⟨h0,_⟩
 · exact World.ownsRow_nil _ _ _ _
 · omega
theorem Xd6 {base n:Nat}(h:w.ownsRow base e sz v n xs.flatten)(hn:n=xs.length)(hw:Ws sz xs):∃ z g,aY w z g e sz v xs∧v.ownBlock=(if z=0 then none else some g)∧(z=0∨base≤g):=by
 subst hn;rcases h.2 with⟨h0,h1⟩|⟨g,cap,cur,h1,hb,h2⟩
 · have:xs=[]:=Qah h1;subst this;exact⟨0,0,⟨hw,.inl ⟨rfl,h0,rfl⟩⟩,by rw[h0];rfl,.inl rfl⟩
 · exact⟨1,g,⟨hw,.inr ⟨rfl,cap,cur,h1,h2⟩⟩,by rw[h1];rfl,.inr hb⟩
end
section
variable {P:Program} {L:Slots} {w:World} {dst:Option Nat} {ty:TypeId} {pos:String} {af:Array Edge} {gu:Option (Nat × Bool)}
variable {x y:Operand} {t:TypeId} {z g o sz:Nat} {e:TypeId} {v:Value} {xs:List (List Value)} {k:IntKind}
theorem Xim (hu:P.underlying t=some (.slice e))(hx:ev L x=some v)(hr:Rd w z g o sz v xs):VV P L ⟨dst,.call { callee:=.builtin .len,args := #[x],argTypes := #[t] },ty,pos,af,gu⟩ w (.int .i64 xs.length):=by
 rcases hr.2 with⟨_,rfl,a,cap,rfl⟩|⟨_,cap,rfl,_⟩
 · exact Ih hu hx
 · exact Ih hu hx
theorem Qr4 {n:Nat}(hu:P.underlying t=some (.slice e))(hx:ev L x=some v)(hr:Rd w z g o sz v xs)(hn:xs.length=n):VV P L ⟨dst,.call { callee:=.builtin .len,args := #[x],argTypes := #[t] },ty,pos,af,gu⟩ w (.int .i64 (n:Int)):=hn ▸ Xim hu hx hr
theorem Qr1 {i:Int}{n:Nat}(hu:P.underlying t=some (.slice e))(hs:iY P e sz)(hx:ev L x=some v)(hr:Rd w z g o sz v xs)(hn:xs.length=n)(hy:ev L y=some (.int k i))(h0:0≤i)(h1:i<(n:Int)):
 VV P L ⟨dst,.indexAddr t x y,ty,pos,af,gu⟩ w (.pointer (some ⟨g,o+i.toNat*sz,none⟩)):=by
 rcases hr.2 with⟨_,rfl,a,cap,rfl⟩|⟨_,cap,rfl,_⟩
 · simp at hn;omega
 · exact Qqy hu hs hx hy h0 aQ
theorem Xic {p i q:Nat}{c:List Value}{u:Value}(h1:gV P t)(hx:ev L x=some (.pointer (some ⟨g,p,none⟩)))(hr:Rd w z g o sz v xs)(hi:xs[i]? = some c)(hp:p=o+(i*sz+q))(hc:c[q]? = some u):VV P L ⟨dst,.load t x,ty,pos,af,gu⟩ w u:=fun ρ hρ=>by
 rcases hr.2 with⟨_,rfl,_⟩|⟨_,cap,rfl,_,hcell⟩
 · simp at hi
 · have hq:q<sz:=by
    have h2:=(jP.1 hc).1;have h3:=(hr.1 c (uA hi)).1;omega
   have hc':w.cell? ⟨g,p,none⟩=some u:=by rw[hp];exact hcell _ _ (by rw[hr.1.at i q c hi hq];exact hc)
   simp[execOp,hρ _ _ hx,Instr.loadAt,Instr.sureAddr,loadVar,(h1 w).1,hc',go_sem]
theorem Xid {p i q m:Nat}{c vs:List Value}(h1:gG P t m)(hx:ev L x=some (.pointer (some ⟨g,p,none⟩)))(hr:Rd w z g o sz v xs)(hi:xs[i]? = some c)(hp:p=o+(i*sz+q))(hc:(c.drop q).take m=vs)(hl:vs.length=m):VV P L ⟨dst,.load t x,ty,pos,af,gu⟩ w (.agg vs.toArray):=fun ρ hρ=>by
 rcases hr.2 with⟨_,rfl,_⟩|⟨_,cap,rfl,_,hcell⟩
 · simp at hi
 · have h3:=(hr.1 c (uA hi)).1
   have hld:(loadCells ⟨g,p,none⟩ vs.length).run P w=.ok vs.toArray w:=run_loadCells_list w _ _ (fun j u hj=>by
    rw[Addr.add_lit,hp];have hjm:j<m:=by rw[←hl];exact(jP.1 hj).1
    rw[←hc,Qap hjm,V9] at hj;have hq:q+j<sz:=by rw[←h3];exact(jP.1 hj).1
    have:=hcell (i*sz+(q+j)) u (by rw[hr.1.at i (q+j) c hi hq];exact hj)
    rw[←this];congr 2;omega)
   rw[hl] at hld;refine nM ?_;rw[hρ _ _ hx];simp[Instr.loadAt,Instr.sureAddr,loadVar,(h1 w).1,(h1 w).2,hld]
theorem Xie {p i:Nat}{c:List Value}(h1:gG P t sz)(hx:ev L x=some (.pointer (some ⟨g,p,none⟩)))(hr:Rd w z g o sz v xs)(hi:xs[i]? = some c)(hp:p=o+i*sz):VV P L ⟨dst,.load t x,ty,pos,af,gu⟩ w (.agg c.toArray):=by
 have hl:=(hr.1 c (uA hi)).1;exact Xid (q:=0) h1 hx hr hi aQ (by rw[kA,kI aQ]) hl
def iO (P:Program)(t:TypeId)(len:Nat)(e:TypeId)(sz:Nat)(zs:List Value):Prop:=∀ (parts:Array (Nat × Value)) (cs:Array Value) w,Instr.fill (fun i=>some (i*sz,sz)) zs.toArray parts.toList=some cs→
 (Instr.buildSlice t len parts).run P w=.ok (.slice (some ⟨w.heap.size,0,none⟩) len len) (w.alloc (.cells cs e))
theorem nW {len:Nat}{zv:Value}{zs:List Value}(hu:P.underlying t=some (.slice e))(hs:iY P e sz)(hz:ZV P e zv)(hlen:Nat.ble (len*sz) 16777216=true)(hpos:Nat.ble 1 (len*sz)=true)
 (hzs:(Array.range (len*sz)).map (fun i=>zv.cells[i%zv.cells.size]!)=zs.toArray):iO P t len e sz zs:=fun parts cs w hf=>by
 have h1:¬ (len*sz>2^24):=by have:=qU hlen;omega
 have h2:¬ (len*sz=0):=by have:=qU hpos;omega
 simp only[Instr.buildSlice,Sem.run_bind,run_underlying hu,Result.andThen_ok,hs w,h1,h2,mB,Sem.run_pure,hz w,hzs,hf];simp[newRow,go_sem]
theorem H4 (hu:P.underlying t=some (.slice e))(hs:iY P e sz):iO P t 0 e sz []:=fun parts cs w hf=>by
 simp only[Instr.buildSlice,Sem.run_bind,run_underlying hu,Result.andThen_ok,hs w,vZ,lU,Sem.run_pure,show ¬ (0>2^24) from by omega,mB];have:∀ f:Nat→Value,(Array.range 0).map f = #[]:=fun f=>by simp
 rw[this];have hf':Instr.fill (fun i=>some (i*sz,sz)) #[] parts.toList=some cs:=hf;simp[hf',newRow,go_sem]
theorem Qyn {len:Nat}{zs cs:List Value}{parts:Array (Nat × Operand)}{vs:List (Nat × Value)}{xs:List (List Value)}(hb:iO P t len e sz zs)(hp:zN L parts.toList=some vs)(hf:oO (fun i=>some (i*sz,sz)) zs vs=some cs)
 (hw:Ws sz xs) (hx:cs=xs.flatten) (hl:xs.length=len) (hm:Nat.ble len 1000000=true):
 EV P L ⟨dst,.buildSlice t len parts,ty,pos,af,gu⟩ w fun v' w'=>∃ g',w.heap.size≤g'∧aY w' 1 g' e sz v' xs∧Gr w w':=fun ρ hρ=>by
 have e1:(parts.map fun(x:Nat × Operand)=>(x.1,ρ x.2))=vs.toArray:=by rw[←hρ.mapP hp,←Yb]
 have hr:=hb vs.toArray cs.toArray w (Cr vs zs cs hf);have hm':=qU hm;refine .val _ _ (nM ?_) ⟨w.heap.size,eO _,⟨hw,.inr ⟨rfl,len,cs.toArray,by rw[hl],heap_alloc_new w _,aQ,by simp only[maxLen];omega,?_,?_⟩⟩,(Below.refl _ _).alloc (eO _) _⟩
 · show(Instr.buildSlice t len (parts.map fun(x:Nat × Operand)=>(x.1,ρ x.2))).run P w=_;rw[e1];exact hr
 · subst hx;rw[←hl];simpa using hw.flat
 · subst hx;rw[←hw.flat];simp only[Sl]
structure lC (P:Program)(t e:TypeId)(sz bytes:Nat):Prop where
 und:P.underlying t=some (.slice e)
 info:∃ i zv,P.info? e=some i∧i.zero=some zv∧i.size=sz∧i.bytes=bytes∧zv.cells.size=sz
 pos:0<sz
theorem Xff {bytes:Nat}(ha:lC P t e sz bytes)(h:aY w z g e sz v xs){a:Option Addr}{c:Nat}:(Builtin.append_ #[t,t] ty #[v,.slice a 0 c]).run P w=.ok v w:=by
 obtain⟨i,zv,hi,_,hsz,_⟩:=ha.info;have hf:(Builtin.firstCells i.size 0 (.slice a 0 c)).run P w=.ok #[] w:=by cases a<;>simp[Builtin.firstCells,loadCells,loadCellsFrom]
 rcases h.2 with⟨_,rfl,rfl⟩|⟨_,cap,cur,rfl,h2,h3,_⟩
 · simp[Builtin.append_,run_underlying ha.und,sizeOf,typeInfo,hi,Builtin.lenOf,hf]
 · simp[Builtin.append_,run_underlying ha.und,sizeOf,typeInfo,hi,Builtin.lenOf,hf,h3,storeCells]
theorem Qyl {bytes z2 g2 o2:Nat}{u:Value}{ys:List (List Value)}(ha:lC P t e sz bytes)(hx:ev L x=some v)(hy:ev L y=some u)(h:aY w z g e sz v xs)(hr:Rd w z2 g2 o2 sz u ys)
 (hb:(xs.length+ys.length)*bytes≤140737488355328) (hl:xs.length+ys.length≤9223372036854775807):
 EV P L ⟨dst,.call { callee:=.builtin .append,args := #[x,y],argTypes := #[t,t] },ty,pos,af,gu⟩ w fun v' w'=>∃ z' g',aY w' z' g' e sz v' (xs++ys)∧Ka z g w w'∧(z'=0∨(z'=1∧g'<w'.heap.size))∧((g'=g∧z=1)∨w.heap.size≤g'∨z'=0)∧(z'=0→z=0∧ys.length=0):=fun ρ hρ=>by
 rcases hr.2 with⟨hz2,rfl,a,cap,rfl⟩|⟨hz2,cap,rfl,dX,hcell⟩
 · refine .val v w ?_ ⟨z,g,by simpa using h,Ka.refl _ _ _,?_,?_,fun h0=>⟨h0,rfl⟩⟩
   · have:=Xff (ty:=ty) ha h (a:=a) (c:=cap);simp[execOp,resolve,invoke,builtin,hρ _ _ hx,hρ _ _ hy,this]
   · rcases h.lt with h1|h1<;>omega
   · rcases h.lt with h1|h1<;>omega
 · obtain⟨i,zv,hi,hzv,hsz,hby,hzs⟩:=ha.info;have hsrc:∀ j u,ys.flatten[j]? = some u→w.cell? ((⟨g2,o2,none⟩:Addr).add j)=some u:=fun j u hj=>by rw[Addr.add_lit];exact hcell j u hj
   have hml:maxLen=9223372036854775807:=rfl
   have main:∀ base,w.ownsRow base e sz v xs.length xs.flatten→base≤w.heap.size→∃ v' w',(Builtin.append_ #[t,t] ty #[v,.slice (some ⟨g2,o2,none⟩) ys.length cap]).run P w=.ok v' w'∧w'.ownsRow base e sz v' (xs.length+ys.length) (xs++ys).flatten∧w.grownBy w' v.ownBlock∧(v'=.slice none 0 0↔v=.slice none 0 0∧ys.length=0):=fun base hrow hbase=>by
    obtain⟨v',w',h1,h2,h3,h4⟩:=run_append_own w base t ty e i zv sz bytes ha.und hi hzv hsz hby hzs ha.pos v xs.length xs.flatten hrow ⟨g2,o2,none⟩ ys.length cap ys.flatten hr.1.flat hsrc hr.1.one aQ hb hbase;exact⟨v',w',h1,by rw[Sc];exact h2,h3,h4⟩
   have fin:∀ v' w',(Builtin.append_ #[t,t] ty #[v,.slice (some ⟨g2,o2,none⟩) ys.length cap]).run P w=.ok v' w'→(execOp ρ ⟨dst,.call { callee:=.builtin .append,args := #[x,y],argTypes := #[t,t] },ty,pos,af,gu⟩).run P w=.ok (.value v') w':=fun v' w' h1=>by
    simp[execOp,resolve,invoke,builtin,hρ _ _ hx,hρ _ _ hy,h1]
   rcases h.2 with⟨hz,rfl,rfl⟩|⟨hz,cap1,cur,hv,hg,hn1,hc1,hcs,htk⟩
   · obtain⟨v',w',h1,h2,h3,h4⟩:=main w.heap.size (h.rowN hz _) (eO _);obtain⟨z',g',h5,h6,h7⟩:=Xd6 h2 bW (Od h.1 hr.1);refine .val v' w' (fin v' w' h1) ⟨z',g',h5,⟨h3.os,h3.tape,h3.output,h3.size,fun k hk _=>h3.block k hk (by simp[Value.ownBlock])⟩,h5.lt,aQ,fun h0=>⟨hz,?_⟩⟩;rcases h5.2 with⟨_,e1,e2⟩|⟨e1,_⟩
     · exact(h4.1 e1).2
     · omega
   · have hlt1:=(lM.1 hg).1;subst hv;subst hsz hby;have hflx:=h.1.flat;have hfly:=hr.1.flat;have hlen:(xs++ys).flatten.length=(xs++ys).length*i.size:=(Od h.1 hr.1).flat;by_cases hroom:xs.length+ys.length≤cap1
     · have hfit:xs.length*i.size+ys.flatten.length≤cur.size:=by rw[hfly,hcs,←iN];exact gA _ hroom
       have hrun:=run_append_room (P:=P) w t ty e i ha.und hi g xs.length cap1 cur hg ⟨g2,o2,none⟩ ys.length cap ys.flatten hfly hsrc hr.1.one hroom hfit
       refine .val _ _ (fin _ _ hrun) ⟨1,g,⟨Od h.1 hr.1,.inr ⟨rfl,cap1,_,by rw[nJ],setRow_heap w g cur _ e _ hg,by rw[nJ];exact hroom,hc1,?_,?_⟩⟩,
        ⟨rfl,rfl,rfl,by simp,fun k _ hk=>setRow_other w g k _ aQ⟩,.inr ⟨rfl,by simpa using hlt1⟩,.inl ⟨rfl,hz⟩,fun h0=>by omega⟩
       · simp only[Sj,nJ,qR,Yl,Qa7];omega
       · rw[htk,←hlen,Sc];exact List.take_left
     · have holds:∀ j u,xs.flatten[j]? = some u→w.cell? ((⟨g,0,none⟩:Addr).add j)=some u:=(h.row hz).cells (g:=g) rfl;have hrun:=run_append_grow (P:=P) w t ty e i zv ha.und hi hzv ⟨g,0,none⟩ xs.length cap1 xs.flatten hflx holds ⟨g2,o2,none⟩ ys.length cap ys.flatten hfly hsrc aQ aQ (growslice_fits aQ hb);have hge:=grownCap_ge w (xs.length+ys.length) cap1 e;have hcm:grownCap w (xs.length+ys.length) cap1 e≤maxLen:=grownCap_le_maxLen w _ cap1 e aQ
       refine .val _ _ (fin _ _ hrun) ⟨1,w.heap.size,⟨Od h.1 hr.1,.inr ⟨rfl,_,_,by rw[nJ],heap_alloc_new w.drew _,by rw[nJ];exact hge,hcm,?_,?_⟩⟩,
        ⟨rfl,rfl,rfl,by simp,fun k hk _=>heap_alloc_old w.drew _ hk⟩,.inr ⟨rfl,by simp⟩,.inr (.inl (eO _)),fun h0=>by omega⟩
       · simp only[Array.size_append,Sj,size_zeroCells,hzs,hflx,hfly,←iN];congr 1;omega
       · simp only[Array.toList_append,V8];rw[←hlen,Sc,←V8];exact List.take_left
def Qm3 (P:Program)(e:TypeId)(sz bytes:Nat):Bool:=match P.info? e with
 | some i=>(match i.zero with|some zv=>i.size == sz&&i.bytes == bytes&&zv.cells.size == sz|none=>false)
 | none=>false
theorem pB {bytes:Nat}(hu:P.underlying t=some (.slice e))(hpos:Nat.ble 1 sz=true)(h:Qm3 P e sz bytes=true):lC P t e sz bytes:=by
 refine⟨hu,?_,qU hpos⟩;unfold Qm3 at h
 split at h
 · rename_i i hi
   split at h
   · rename_i zv hz;simp only[fM,wF] at h;exact⟨i,zv,hi,hz,h.1.1,h.1.2,h.2⟩
   · cases h
 · cases h
def wsB (sz:Nat):List (List Value)→Bool
 | []=>true
 | x::xs=>bif Nat.beq x.length sz then(bif iD x then wsB sz xs else false) else false
theorem eN {xs:List (List Value)}:wsB sz xs=true→Ws sz xs:=by
 induction xs with
 | nil=>exact fun _=>Qhb _
 | cons x xs ih=>
  intro h;unfold wsB at h
  cases h1:Nat.beq x.length sz with
  | false=>rw[h1] at h;cases h
  | true=>
   rw[h1] at h
   cases h2:iD x with
   | false=>rw[h2] at h;cases h
   | true=>rw[h2] at h;exact Xjg (Qb5 h1) h2 (ih h)
end
section
variable {P:Program} {L:Slots} {w:World} {dst:Option Nat} {ty:TypeId} {pos:String} {af:Array Edge} {gu:Option (Nat × Bool)} {x:Operand} {t e:TypeId} {sz:Nat}
def OB (L:Slots)(o:Option Operand)(d v:Nat):Prop:=match o with
 | none=>v=d
 | some x=>∃ k,ev L x=some (.int k (v:Int))
theorem Xj6 {n l h b' off:Nat}{lo hi:Option Operand}(hu:P.underlying t=some (.array n e))(hs:iY P e sz)(hx:ev L x=some (.pointer (some ⟨b',off,none⟩)))(hlo:OB L lo 0 l)(hhi:OB L hi n h)(h1:l≤h)(h2:h≤n)(h3:l<n):
 VV P L ⟨dst,.slice t x lo hi none,ty,pos,af,gu⟩ w (.slice (some ⟨b',off+l*sz,none⟩) (h-l) (n-l)):=fun ρ hρ=>by
 have hne:¬ (n=l):=by omega
 refine nM ?_;show(Instr.sliceAt t (ρ x) (lo.map ρ) (hi.map ρ) none).run P w=_;rw[hρ _ _ hx]
 cases lo with
 | none=>
  simp[OB] at hlo;subst hlo
  cases hi with
  | none=>simp[OB] at hhi;subst hhi;simp[Instr.sliceAt,run_underlying hu,Instr.sureAddr,Instr.sliceBounds,hs w,hne,Addr.add]
  | some o=>
   obtain⟨k,ho⟩:=hhi;simp[Instr.sliceAt,run_underlying hu,Instr.sureAddr,Instr.sliceBounds,hρ _ _ ho,Instr.sliceBound,asIntOf,h2,hs w,hne,Addr.add]
 | some o1=>
  obtain⟨k1,ho1⟩:=hlo
  cases hi with
  | none=>simp[OB] at hhi;subst hhi;simp[Instr.sliceAt,run_underlying hu,Instr.sureAddr,Instr.sliceBounds,hρ _ _ ho1,Instr.sliceBound,asIntOf,h1,hs w,hne,Addr.add_lit]
  | some o=>
   obtain⟨k,ho⟩:=hhi;simp[Instr.sliceAt,run_underlying hu,Instr.sureAddr,Instr.sliceBounds,hρ _ _ ho,hρ _ _ ho1,Instr.sliceBound,asIntOf,h1,h2,hs w,hne,Addr.add_lit]
theorem Qoo {b o m cap:Nat}{cs:List Value}{xs:List (List Value)}(hb:Bx w b t cs)(hw:Ws sz xs)(hl:xs.length=m)(hs:(cs.drop o).take xs.flatten.length=xs.flatten)(hcap:Nat.ble m cap=true:=by rfl):Rd w 1 b o sz (.slice (some ⟨b,o,none⟩) m cap) xs:=by
 refine⟨hw,.inr ⟨rfl,cap,by rw[hl],⟨hb.lt,by rw[hl];exact qU hcap⟩,fun j u hj=>?_⟩⟩;have hjl:=(jP.1 hj).1;rw[←hs,Qap hjl,V9] at hj;rw[hb.cell];exact hj
end
section
variable {P:Program} {fn:Func} {L:Slots} {w:World}
def C1 (tmps:Array Value):ResultVar→Sem Value
 | .tmp t=>pure (tmps.getD t undef)
 | .cell a t=>do loadVar t (← asAddr (tmps.getD a undef))
def RV (P:Program)(r:ResultVar)(L:Slots)(w:World)(v:Value):Prop:=∀ n D a,fE n D L a→(C1 a.tmps r).run P w=.ok v w
theorem aL {t:Nat}{v:Value}(hv:lk t L=some v):RV P (.tmp t) L w v:=fun n D a ha=>by
 have:=ha.get t v hv;simp[C1,Qa4,this]
theorem dT {t b m:Nat}{ty tb:TypeId}{cs:List Value}(h1:gG P ty m)(hv:lk t L=some (.pointer (some ⟨b,0,none⟩)))(hb:Bx w b tb cs)(hl:cs.length=m):RV P (.cell t ty) L w (.agg cs.toArray):=fun n D a ha=>by
 have hc:(loadCells ⟨b,0,none⟩ cs.length).run P w=.ok cs.toArray w:=run_loadCells_list w _ _ (fun j v hj=>by rw[Addr.add_lit,hb.cell,kN];exact hj);rw[hl] at hc;have:=ha.get t _ hv;simp[C1,this,asAddr,loadVar,(h1 w).1,(h1 w).2,hc]
theorem Km {t b:Nat}{ty tb:TypeId}{v:Value}(h1:gV P ty)(hv:lk t L=some (.pointer (some ⟨b,0,none⟩)))(hb:Bx w b tb [v]):RV P (.cell t ty) L w v:=fun n D a ha=>by
 have hc:w.cell? ⟨b,0,none⟩=some v:=by rw[hb.cell];rfl
 have:=ha.get t _ hv;simp[C1,this,asAddr,loadVar,(h1 w).1,hc]
theorem aM {r:ResultVar}{v:Value}(h:fn.results = #[r])(h1:RV P r L w v):K0 P fn L w v:=fun n D a ha=>by
 have e:=h1 n D a ha
 have:(results fn a.tmps)=(do let vs ← fn.results.mapM (C1 a.tmps);pure (if h:vs.size=1 then vs[0] else .tuple vs)):=by
  unfold results;congr 2
 rw[this,h];simp[e]
theorem cK {r1 r2:ResultVar}{v1 v2:Value}(h:fn.results = #[r1,r2])(h1:RV P r1 L w v1)(h2:RV P r2 L w v2):K0 P fn L w (.tuple [v1,v2].toArray):=fun n D a ha=>by
 have e1:=h1 n D a ha;have e2:=h2 n D a ha
 have:(results fn a.tmps)=(do let vs ← fn.results.mapM (C1 a.tmps);pure (if h:vs.size=1 then vs[0] else .tuple vs)):=by
  unfold results;congr 2
 rw[this,h];simp[e1,e2]
theorem Qg4 {r1 r2 r3:ResultVar}{v1 v2 v3:Value}(h:fn.results = #[r1,r2,r3])(h1:RV P r1 L w v1)(h2:RV P r2 L w v2)(h3:RV P r3 L w v3):K0 P fn L w (.tuple [v1,v2,v3].toArray):=fun n D a ha=>by
 have e1:=h1 n D a ha;have e2:=h2 n D a ha;have e3:=h3 n D a ha
 have:(results fn a.tmps)=(do let vs ← fn.results.mapM (C1 a.tmps);pure (if h:vs.size=1 then vs[0] else .tuple vs)):=by
  unfold results;congr 2
 rw[this,h];simp[e1,e2,e3]
end
end Go.Sx

end
section
namespace Go.Sx
open Go Go.RowKit
def lH (base:Nat)(ks:List Nat)(w:World):Prop:=ks.Nodup∧∀ k∈ks,base≤k∧Df w k
def xL (ks:List Nat):List Deferred:=ks.map fun k=>⟨.collected k,#[]⟩
theorem Xbq (base:Nat)(w:World):lH base [] w:=⟨List.nodup_nil,fun _ h=>by cases h⟩
section
variable {base:Nat} {ks:List Nat} {w w':World}
theorem lH.keep (h:lH base ks w)(hk:∀ k∈ks,w'.heap[k]? = w.heap[k]?):lH base ks w':=⟨h.1,fun k hk'=>⟨(h.2 k hk').1,(hk k hk').trans (h.2 k hk').2⟩⟩
theorem lH.gr (h:lH base ks w)(g:Gr w w'):lH base ks w':=h.keep fun k hk=>g.block k (h.2 k hk).2.lt
theorem lH.md {b:Nat}(h:lH base ks w)(m:Md b w w')(hb:b∉ks):lH base ks w':=h.keep fun k hk=>m.block k (by rintro rfl;exact hb hk)
theorem lH.kp {ms:List Nat}(h:lH base ks w)(g:Kp ms w w')(hd:∀ k∈ks,k∉ms):lH base ks w':=h.keep fun k hk=>g.block k (h.2 k hk).2.lt (hd k hk)
theorem lH.cons {k:Nat}(h:lH base ks w)(hb:base≤k)(hd:Df w k)(hn:k∉ks):lH base (k::ks) w:=⟨A4.2 ⟨hn,h.1⟩,fun j hj=>by
 rcases gW.1 hj with rfl|hj
 · exact⟨hb,hd⟩
 · exact h.2 j hj⟩
theorem lH.leave:∀ {ks:List Nat} {w:World},lH base ks w→∃ wl,Vt (xL ks) w wl∧Kp ks w wl
 | [],w,_=>⟨w,rfl,Kp.refl _ _⟩
 | k::ks,w,h=>by
  have hn:=(A4.1 h.1).1;have hm:Md k w (w.putObj k (.deferred none)):=Md.put k _;have ht:lH base ks w:=⟨(A4.1 h.1).2,fun j hj=>h.2 j (pS _ hj)⟩;obtain⟨wl,h1,h2⟩:=lH.leave (ht.md hm hn);refine⟨wl,⟨k,rfl,(h.2 k bW).2,h1⟩,?_⟩;exact Kp.trans ((Kp.refl (k::ks) w).md hm (.inl bW)) h2 fun b hb=>.inl (pS _ hb)
end
theorem Xh5 {P:Program}{r:Option Nat}{n:Nat}{Q:Exit→List Deferred→Slots→World→Prop}{D:List Deferred}{L:Slots}{w:World}{c:Code}{α:Type}(iV:List Nat)(dyn:α→Slots)(J:α→List Nat→World→Prop)(μ:α→Nat)(x₀:α)(ks₀:List Nat)(hD:D=xL ks₀)
 (hs:nA (dyn x₀++nT iV L) L) (h₀:J x₀ ks₀ w)
 (round:∀ x ks w,J x ks w→SW P r n c (mZ (fun D' L' w'=>∃ x' ks',D'=xL ks'∧nA (dyn x'++nT iV L) L'∧J x' ks' w'∧μ x'<μ x) Q) (xL ks) (dyn x++nT iV L) w):SW P r n (.loop c) Q D L w:=by
 subst hD;intro a ha;refine wpIn_loop (fun a w=>∃ x ks,fE n (xL ks) (dyn x++nT iV L) a∧J x ks w) (fun a w=>Xt fun m=>∃ x ks,fE n (xL ks) (dyn x++nT iV L) a∧J x ks w∧μ x=m) ⟨x₀,ks₀,ha.sub hs,h₀⟩ ?_;intro a w ⟨x1,ks1,hx1,hJ1⟩;obtain⟨x,ks,hx,hJ,hm⟩:=Qmw (p:=fun m=>∃ x ks,fE n (xL ks) (dyn x++nT iV L) a∧J x ks w∧μ x=m) ⟨μ x1,x1,ks1,hx1,hJ1,rfl⟩;refine wpIn_mono (round x ks w hJ a hx) fun e a' w' hh=>?_
 cases e with
 | normal=>
  obtain⟨D',L',h1,x',ks',rfl,h2,h3,h4⟩:=hh;refine⟨⟨x',ks',h1.sub h2,h3⟩,?_⟩;have:=Qmv (p:=fun m=>∃ x ks,fE n (xL ks) (dyn x++nT iV L) a'∧J x ks w'∧μ x=m) ⟨x',ks',h1.sub h2,h3,rfl⟩;omega
 | exit id=>exact hh
 | goto l=>exact hh
 | ret=>exact hh
 | panic c=>exact hh
 | outgrown=>exact hh
end Go.Sx

end
section
namespace Go.Sx
open Go Go.RowKit
noncomputable def kS (p:Prop):Bool:=@decide p (Classical.propDecidable p)
section
open Classical
theorem Qjf {p:Prop}(h:kS p=true):p:=iX h
theorem Qw {p:Prop}(h:p):kS p=true:=cS h
theorem Qje {p:Prop}(h:¬ p):kS p=false:=cJ h
end
theorem Qch {p:Prop}{b:Bool}(h:b=true↔p):b=kS p:=by
 by_cases hp:p
 · rw[Qw hp];exact h.2 hp
 · rw[Qje hp];cases b with
   | false=>rfl
   | true=>exact absurd (h.1 rfl) hp
theorem Qjc {p q r:Prop}(h:r↔p∧q):kS r=(kS p&&kS q):=by
 symm;apply Qch
 rw[h,fM];exact⟨fun h=>⟨Qjf h.1,Qjf h.2⟩,fun h=>⟨Qw h.1,Qw h.2⟩⟩
inductive Ck|i (k:IntKind)|b
def kn:List Ck→List Value→Bool
 | [],[]=>true
 | .i k::ks,.int k' _::vs=>k == k'&&kn ks vs
 | .b::ks,.bool _::vs=>kn ks vs
 | _,_=>false
theorem rZ:∀ {ks:List Ck} {vs:List Value},kn ks vs=true→vs.length=ks.length
 | [],[],_=>rfl
 | .i k::ks,.int k' _::vs,h=>by simp[kn] at h;simp[rZ h.2]
 | .b::ks,.bool _::vs,h=>by simp[kn] at h;simp[rZ h]
theorem Xr:∀ {ks ks':List Ck} {vs:List Value},kn (ks++ks') vs=true→kn ks (vs.take ks.length)=true∧kn ks' (vs.drop ks.length)=true
 | [],ks',vs,h=>by simpa[kn] using h
 | .i k::ks,ks',.int k' n::vs,h=>by
  simp[kn] at h;obtain⟨h1,h2⟩:=Xr h.2;exact⟨by simp[kn,h.1,h1],by simpa using h2⟩
 | .b::ks,ks',.bool n::vs,h=>by
  simp[kn] at h;obtain⟨h1,h2⟩:=Xr h;exact⟨by simp[kn,h1],by simpa using h2⟩
def mV (P:Program)(n:Nat)(t:TypeId)(ks:List Ck):Prop:=∀ d,n≤d→∀ (xs ys:Array Value) (off:Nat) (w:World) (s s':List Value),kn ks s=true→kn ks s'=true→(xs.toList.drop off).take ks.length=s→(ys.toList.drop off).take ks.length=s'→
 ∃ a b,(part t xs off).run P w=.ok a w∧(part t ys off).run P w=.ok b w∧(Op.equalIn d t a b).run P w=.ok (kS (s=s')) w
def J7 (P:Program)(n:Nat)(fs:List Field)(off:Nat)(ks:List Ck):Prop:=∀ d,n≤d→∀ (xs ys:Array Value) (w:World) (s s':List Value),kn ks s=true→kn ks s'=true→(xs.toList.drop off).take ks.length=s→(ys.toList.drop off).take ks.length=s'→
 (Op.eqFields d xs ys fs).run P w=.ok (kS (s=s')) w
def EqI (P:Program)(n:Nat)(e:TypeId)(c:Nat)(is:List Nat)(off:Nat)(ks:List Ck):Prop:=∀ d,n≤d→∀ (xs ys:Array Value) (w:World) (s s':List Value),kn ks s=true→kn ks s'=true→(xs.toList.drop off).take ks.length=s→(ys.toList.drop off).take ks.length=s'→
 (Op.eqItems d e c xs ys is).run P w=.ok (kS (s=s')) w
theorem Aa (l r:List Value)(off a b:Nat)(hr:r.length=a+b)(hz:(l.drop off).take a++(l.drop (off+a)).take b=r):(l.drop off).take a=r.take a∧(l.drop (off+a)).take b=r.drop a:=by
 have hl1:((l.drop off).take a).length=a:=by
  have:=cA List.length hz;simp only[nJ,qR,Yl,hr] at this ⊢;omega
 subst hz;exact⟨by rw[Qaz (W9 hl1.symm),kI (W9 hl1)],by rw[Qaf (W9 hl1.symm),List.drop_of_length_le (W9 hl1)];simp⟩
theorem Qpo (l:List Value)(off a b:Nat):(l.drop off).take (a+b)=(l.drop off).take a++(l.drop (off+a)).take b:=by
 rw[List.take_add,rL]
section
variable {P:Program} {n:Nat} {t e:TypeId} {ks:List Ck}
theorem Qyd (hu:P.underlying t=some .bool)(h1:gV P t):mV P 1 t [.b]:=by
 intro d hd xs ys off w s s' hs hs' hx hy
 have get:∀ (zs:Array Value) (r:List Value),kn [.b] r=true→(zs.toList.drop off).take 1=r→∃ m,r=[.bool m]∧(part t zs off).run P w=.ok (.bool m) w:=by
  intro zs r hr hz
  match r,hr,rZ hr with
  | [.bool m],hr,_=>
   refine⟨m,rfl,?_⟩
   have hg:zs[off]? = some (.bool m):=by
    have:=cA (fun l=>l[0]?) hz;simp[wL] at this;exact this
   simp[part,(h1 w).1,hg]
 obtain⟨a,rfl,ha⟩:=get xs s hs hx;obtain⟨b,rfl,hb⟩:=get ys s' hs' hy;refine⟨_,_,ha,hb,?_⟩;obtain⟨d,rfl⟩:∃ d',d=d'+1:=⟨d-1,aQ⟩;rw[run_equalIn_bool' w d t a b hu];congr 1;exact Qch bW
theorem Qd9 {k:IntKind}(hu:P.underlying t=some (.int k))(h1:gV P t):mV P 1 t [.i k]:=by
 intro d hd xs ys off w s s' hs hs' hx hy
 have get:∀ (zs:Array Value) (r:List Value),kn [.i k] r=true→(zs.toList.drop off).take 1=r→∃ m,r=[.int k m]∧(part t zs off).run P w=.ok (.int k m) w:=by
  intro zs r hr hz
  match r,hr,rZ hr with
  | [.int k' m],hr,_=>
   simp[kn] at hr;subst hr;refine⟨m,rfl,?_⟩
   have hg:zs[off]? = some (.int k m):=by
    have:=cA (fun l=>l[0]?) hz;simp[wL] at this;exact this
   simp[part,(h1 w).1,hg]
 obtain⟨a,rfl,ha⟩:=get xs s hs hx;obtain⟨b,rfl,hb⟩:=get ys s' hs' hy;refine⟨_,_,ha,hb,?_⟩;obtain⟨d,rfl⟩:∃ d',d=d'+1:=⟨d-1,aQ⟩;rw[run_equalIn_int w d t k k a b hu];congr 1;exact Qch bW
theorem Qdb (off:Nat):J7 P n [] off []:=by
 intro d _ xs ys w s s' hs hs' _ _
 match s,s',hs,hs' with
 | [],[],_,_=>simp[Op.eqFields,Qw]
theorem nN {f:Field}{fs:List Field}{off:Nat}{ks1 ks2:List Ck}(ho:f.offset=off)(hn:f.name ≠ "_")(h1:mV P n f.type ks1)(h2:J7 P n fs (off+ks1.length) ks2):J7 P n (f::fs) off (ks1++ks2):=by
 intro d hd xs ys w s s' hs hs' hx hy;rw[nJ,Qpo] at hx hy;obtain⟨k1,k2⟩:=Xr hs;obtain⟨k1',k2'⟩:=Xr hs';obtain⟨c1,c2⟩:=Aa _ s _ _ _ (by rw[rZ hs,nJ]) hx;obtain⟨c1',c2'⟩:=Aa _ s' _ _ _ (by rw[rZ hs',nJ]) hy;obtain⟨a,b,ha,hb,he⟩:=h1 d hd xs ys off w _ _ k1 k1' c1 c1';have hr:=h2 d hd xs ys w _ _ k2 k2' c2 c2';simp only[Op.eqFields,hn,ne_eq,not_false_eq_true,lU,Sem.run_bind,ho,ha,hb,he,Result.andThen_ok];have key:kS (s=s')=(kS (s.take ks1.length=s'.take ks1.length)&&kS (s.drop ks1.length=s'.drop ks1.length)):=Qjc ⟨fun h=>by rw[h];exact⟨rfl,rfl⟩,fun h=>by rw[←A5 ks1.length s,h.1,h.2,A5]⟩;rw[key]
 cases kS (s.take ks1.length=s'.take ks1.length) with
 | true=>simpa using hr
 | false=>simp
theorem Xf {m off:Nat}{zs:Array Value}{r:List Value}{w:World}(ha:gG P t m)(hz:(zs.toList.drop off).take m=r):(part t zs off).run P w=.ok (.agg r.toArray) w:=by
 have e:zs.extract off (off+m)=r.toArray:=by
  rw[←hz];apply Array.toList_inj.1;simp[Array.toList_extract,List.extract_eq_take_drop]
 simp[part,(ha w).1,(ha w).2,e]
theorem Qda {fs:Array Field}(hu:P.underlying t=some (.struct fs))(hst:P.stoodInHeld t=false)(ha:gG P t ks.length)(h:J7 P n fs.toList 0 ks):mV P (n+1) t ks:=by
 intro d hd xs ys off w s s' hs hs' hx hy;refine⟨_,_,Xf ha hx,Xf ha hy,?_⟩;obtain⟨d,rfl⟩:∃ d',d=d'+1:=⟨d-1,aQ⟩;have hf:P.fieldsOf t=fs:=by simp[Program.fieldsOf,hu]
 rw[run_equalIn_struct w d t _ _ (by rw[hf];exact hu) hst,hf];refine h d aQ _ _ w s s' hs hs' ?_ ?_
 · rw[kA,kI (by simp[rZ hs])]
 · rw[kA,kI (by simp[rZ hs'])]
theorem Qye (c off:Nat):EqI P n e c [] off []:=by
 intro d _ xs ys w s s' hs hs' _ _
 match s,s',hs,hs' with
 | [],[],_,_=>simp[Op.eqItems,Qw]
theorem Qkk {c:Nat}(hc:c=ks.length)(h:mV P n e ks):∀ (m i:Nat),EqI P n e c (List.range' i m) (i*c) (List.replicate m ks).flatten
 | 0,i=>Qye c _
 | m+1,i=>by
  have ih:=Qkk hc h m (i+1);have e2:i*c+ks.length=(i+1)*c:=by rw[iN];omega
  intro d hd xs ys w s s' hs hs' hx hy
  have ff:(Op.eqItems d e c xs ys (List.range' i (m+1))).run P w=.ok (kS (s=s')) w:=by
   rw[Qax,pL] at hs hs' hx hy;rw[nJ,Qpo] at hx hy;obtain⟨k1,k2⟩:=Xr hs;obtain⟨k1',k2'⟩:=Xr hs';obtain⟨c1,c2⟩:=Aa _ s _ _ _ (by rw[rZ hs,nJ]) hx;obtain⟨c1',c2'⟩:=Aa _ s' _ _ _ (by rw[rZ hs',nJ]) hy;obtain⟨a,b,ha,hb,he⟩:=h d hd xs ys (i*c) w _ _ k1 k1' c1 c1';rw[e2] at c2 c2';have hr:=ih d hd xs ys w _ _ k2 k2' c2 c2';rw[List.range'_succ];simp only[Op.eqItems,Sem.run_bind,ha,hb,he,Result.andThen_ok];have key:kS (s=s')=(kS (s.take ks.length=s'.take ks.length)&&kS (s.drop ks.length=s'.drop ks.length)):=Qjc ⟨fun h=>by rw[h];exact⟨rfl,rfl⟩,fun h=>by rw[←A5 ks.length s,h.1,h.2,A5]⟩;rw[key]
   cases kS (s.take ks.length=s'.take ks.length) with
   | true=>simpa using hr
   | false=>simp
  exact ff
theorem Qyc {m:Nat}{i:TypeInfo}(hu:P.underlying t=some (.array m e))(hi:P.info? e=some i)(hc:P.cellsOf e=ks.length)(ha:gG P t (List.replicate m ks).flatten.length)(h:mV P n e ks):mV P (n+1) t (List.replicate m ks).flatten:=by
 intro d hd xs ys off w s s' hs hs' hx hy;refine⟨_,_,Xf ha hx,Xf ha hy,?_⟩;obtain⟨d,rfl⟩:∃ d',d=d'+1:=⟨d-1,aQ⟩;rw[run_equalIn_array w d _ _ hu hi,Qaw];refine Qkk hc h m 0 d aQ _ _ w s s' hs hs' ?_ ?_
 · rw[vZ,kA,kI (by simp[rZ hs])]
 · rw[vZ,kA,kI (by simp[rZ hs'])]
theorem mV.up {m:Nat}(h:mV P n t ks)(hm:n≤m):mV P m t ks:=fun d hd=>h d (eK hm hd)
theorem Qzy (h:(P.info? e).isSome=true):∃ i,P.info? e=some i:=Option.isSome_iff_exists.1 h
structure wP (P:Program)(t:TypeId)(ks:List Ck):Prop where
 guard:P.eqGuardType P.depth t=false
 agg:gG P t ks.length
 eq:∃ n,n≤10000∧mV P n t ks
variable {L:Slots} {w:World} {dst:Option Nat} {ty u:TypeId} {pos:String} {af:Array Edge} {gu:Option (Nat × Bool)} {x y:Operand} {cs ds:List Value}
theorem wP.run (h:wP P t ks)(hc:kn ks cs=true)(hd:kn ks ds=true):(Op.equalIn 10000 t (.agg cs.toArray) (.agg ds.toArray)).run P w=.ok (kS (cs=ds)) w:=by
 obtain⟨n,hn,he⟩:=h.eq;have t1:∀ (l:List Value),kn ks l=true→(l.toArray.toList.drop 0).take ks.length=l:=fun l hl=>by rw[kA,kI (by simp[rZ hl])]
 obtain⟨a,b,ha,hb,hr⟩:=he 10000 hn cs.toArray ds.toArray 0 w cs ds hc hd (t1 cs hc) (t1 ds hd);rw[Xf h.agg (t1 cs hc)] at ha;rw[Xf h.agg (t1 ds hd)] at hb;cases ha;cases hb;exact hr
theorem Xig (h:wP P t ks)(hx:ev L x=some (.agg cs.toArray))(hy:ev L y=some (.agg ds.toArray))(hc:kn ks cs=true)(hd:kn ks ds=true):VV P L ⟨dst,.binOp .eql t x y u,ty,pos,af,gu⟩ w (.bool (kS (cs=ds))):=fun ρ hρ=>by
 simp[execOp,hρ _ _ hx,hρ _ _ hy,run_eqGuard_agg _ _ _ _ _ _ _ h.guard,run_eql_struct,h.run hc hd]
theorem Xis (h:wP P t ks)(hx:ev L x=some (.agg cs.toArray))(hy:ev L y=some (.agg ds.toArray))(hc:kn ks cs=true)(hd:kn ks ds=true):VV P L ⟨dst,.binOp .neq t x y u,ty,pos,af,gu⟩ w (.bool (!kS (cs=ds))):=fun ρ hρ=>by
 simp[execOp,hρ _ _ hx,hρ _ _ hy,run_eqGuard_agg _ _ _ _ _ _ _ h.guard,run_neq_struct,h.run hc hd]
end
end Go.Sx

end
section
namespace Go.Sx
open Go Go.RowKit
def un (x:BitVec 64):Int:=(x.toNat:Int)
abbrev wv (x:BitVec 64):Value:=.int .u64 (un x)
def wd (n:Int):BitVec 64:=BitVec.ofInt 64 n
theorem M0 (x:BitVec 64):0≤un x:=by unfold un;omega
theorem Xhx (x:BitVec 64):un x<18446744073709551616:=by unfold un;have:=x.isLt;omega
theorem Qgv (x:BitVec 64):un x≤18446744073709551615:=by have:=Xhx x;omega
theorem Az (n:Int)(h0:0≤n)(h1:n≤18446744073709551615):un (wd n)=n:=by
 unfold un wd;rw[Yd];have:(n%((2^64:Nat):Int))=n:=E4 h0 (by show n<18446744073709551616;omega);rw[this];omega
theorem Vk (x:BitVec 64):wd (un x)=x:=by
 apply jW;have:=Az (un x) (M0 x) (Qgv x);unfold un at *;omega
theorem Ay {x y:BitVec 64}(h:un x=un y):x=y:=by rw[←Vk x,←Vk y,h]
theorem Qnb (n:Nat):((n%2^64:Nat):Int)=(n:Int)%18446744073709551616:=by rw[Qad];rfl
theorem Xhi (x y:BitVec 64):IntKind.u64.wrap (un x+un y)=un (x+y):=by
 unfold un;rw[IntKind.wrap_u64,E1];omega
theorem Xho (x y:BitVec 64):IntKind.u64.wrap (un x-un y)=un (x-y):=by
 unfold un;rw[IntKind.wrap_u64,E2];have:=y.isLt;have:=x.isLt;omega
theorem Xhk (x y:BitVec 64):IntKind.u64.wrap (un x*un y)=un (x*y):=by
 unfold un;rw[IntKind.wrap_u64,Lp,Qnb,Lx]
theorem Xhp (x y:BitVec 64):bits .xor .u64 (un x) (un y)=un (x ^^^ y):=by
 unfold un;rw[bits_xor_u64_nat _ _ x.isLt y.isLt,BitVec.toNat_xor]
theorem Xhj (x y:BitVec 64):bits .and .u64 (un x) (un y)=un (x &&& y):=by
 unfold un;rw[bits_and_u64_nat _ _ x.isLt y.isLt,Qa9]
theorem Xhl (x y:BitVec 64):bits .or .u64 (un x) (un y)=un (x ||| y):=by
 unfold un;rw[bits_or_u64_nat _ _ x.isLt y.isLt,Lq]
theorem Xhm (x:BitVec 64)(n:Nat):IntKind.u64.wrap (un x*2^n)=un (x <<< n):=by
 unfold un;rw[IntKind.wrap_u64,V5,vQ];rw[Qnb,Lx,E6];rfl
theorem Xhn (x:BitVec 64)(n:Nat):un x / 2^n=un (x >>> n):=by
 unfold un;rw[uC,vX];norm_cast
end Go.Sx

end
section
namespace Go.Sx
open Go Go.RowKit
section
variable {P:Program} {L:Slots} {w:World} {dst:Option Nat} {ty:TypeId} {pos:String} {af:Array Edge} {gu:Option (Nat × Bool)}
variable {x y:Operand} {t u:TypeId} {a b:BitVec 64} {n:Int}
theorem dL {o:Oper}{v v':Value}(h:VV P L o w v)(e:v=v'):VV P L o w v':=e ▸ h
theorem oL (hx:ev L x=some (wv a))(hy:ev L y=some (wv b)):VV P L ⟨dst,.binOp .add t x y u,ty,pos,af,gu⟩ w (wv (a+b)):=dL (cZ hx hy) (by rw[Xhi])
theorem Vi (hx:ev L x=some (wv a))(hy:ev L y=some (wv b)):VV P L ⟨dst,.binOp .sub t x y u,ty,pos,af,gu⟩ w (wv (a-b)):=dL (fL hx hy) (by rw[Xho])
theorem J5 (hx:ev L x=some (wv a))(hy:ev L y=some (wv b)):VV P L ⟨dst,.binOp .mul t x y u,ty,pos,af,gu⟩ w (wv (a*b)):=dL (qG hx hy) (by rw[Xhk])
theorem It (hx:ev L x=some (wv a))(hy:ev L y=some (wv b)):VV P L ⟨dst,.binOp .xor t x y u,ty,pos,af,gu⟩ w (wv (a ^^^ b)):=dL (yK bW hx hy) (by rw[Xhp])
theorem Xj7 (hx:ev L x=some (wv a))(hy:ev L y=some (wv b)):VV P L ⟨dst,.binOp .and t x y u,ty,pos,af,gu⟩ w (wv (a &&& b)):=dL (yK bW hx hy) (by rw[Xhj])
theorem wW (hx:ev L x=some (wv a))(hy:ev L y=some (wv b)):VV P L ⟨dst,.binOp .or t x y u,ty,pos,af,gu⟩ w (wv (a ||| b)):=dL (yK bW hx hy) (by rw[Xhl])
theorem Lc {yk:IntKind}(hx:ev L x=some (wv a))(hy:ev L y=some (.int yk n))(h0:0≤n):VV P L ⟨dst,.binOp .shl t x y u,ty,pos,af,gu⟩ w (wv (a <<< n.toNat)):=by
 refine dL (Qh6 hx hy h0) ?_;show Value.int .u64 (IntKind.u64.wrap (un a*2^min n.toNat 64))=_;rw[Xhm];congr 2;rcases A7 n.toNat 64 with h|h
 · rw[oB h]
 · rw[Yt h,BitVec.shiftLeft_eq_zero h,BitVec.shiftLeft_eq_zero (eO _)]
theorem Io {yk:IntKind}(hx:ev L x=some (wv a))(hy:ev L y=some (.int yk n))(h0:0≤n):VV P L ⟨dst,.binOp .shr t x y u,ty,pos,af,gu⟩ w (wv (a >>> n.toNat)):=by
 refine dL (La hx hy h0) ?_;show Value.int .u64 (un a / 2^min n.toNat 64)=_;rw[Xhn];congr 2;rcases A7 n.toNat 64 with h|h
 · rw[oB h]
 · rw[Yt h,Qab h,Qab (eO _)]
theorem Ig {s d:TypeId}{q:IntKind}(hc:CV P s d .u64)(hx:ev L x=some (.int q n))(h0:0≤n)(h1:n≤18446744073709551615):VV P L ⟨dst,.convert s d x,ty,pos,af,gu⟩ w (wv (wd n)):=by
 refine dL (wV hc hx) ?_;show _=Value.int .u64 (un (wd n));rw[IntKind.wrap_u64,E4 h0 aQ,Az n h0 h1]
theorem Qqt {s d:TypeId}(hc:CV P s d .u8)(hx:ev L x=some (wv a)):VV P L ⟨dst,.convert s d x,ty,pos,af,gu⟩ w (.int .u8 (un a%256)):=by
 refine dL (wV hc hx) ?_;simp[IntKind.wrap,IntKind.bits,IntKind.signed]
theorem Xiz {k:IntKind}{c d:Int}(hx:ev L x=some (.int k c))(hy:ev L y=some (.int k d))(h0:0≤c)(h1:0<d)(hw:k.wrap (c / d)=c / d):VV P L ⟨dst,.binOp .quo t x y u,ty,pos,af,gu⟩ w (.int k (c / d)):=fun ρ hρ=>by
 have hd:d≠0:=by omega
 simp[execOp,hρ _ _ hx,hρ _ _ hy,go_sem,Op.intDiv,hd,Qae h0,hw]
theorem Xj0 {k:IntKind}{c d:Int}(hx:ev L x=some (.int k c))(hy:ev L y=some (.int k d))(h0:0≤c)(h1:0<d):VV P L ⟨dst,.binOp .rem t x y u,ty,pos,af,gu⟩ w (.int k (c%d)):=fun ρ hρ=>by
 have hd:d≠0:=by omega
 simp[execOp,hρ _ _ hx,hρ _ _ hy,go_sem,Op.intDiv,hd,Int.tmod_eq_emod_of_nonneg h0]
end
section
variable {P:Program} {L:Slots} {w:World} {dst:Option Nat} {ty:TypeId} {pos:String} {af:Array Edge} {gu:Option (Nat × Bool)} {x y:Operand} {t:TypeId}
theorem sM {s:ByteArray}{k:IntKind}{i:Int}{c:UInt8}(hu:P.underlying t=some .string)(hx:ev L x=some (.string s))(hy:ev L y=some (.int k i))(h0:0≤i)(hc:s[i.toNat]? = some c):VV P L ⟨dst,.index t x y,ty,pos,af,gu⟩ w (.int .u8 c.toNat):=fun ρ hρ=>by
 simp[execOp,hρ _ _ hx,hρ _ _ hy,Instr.index,run_underlying hu,asIntOf,h0,hc,go_sem]
theorem sC {s d:TypeId}{q:IntKind}{a:Int}(hc:CV P s d .u8)(hx:ev L x=some (.int q a))(h0:0≤a)(h1:a<256):VV P L ⟨dst,.convert s d x,ty,pos,af,gu⟩ w (.int .u8 a):=by
 refine dL (wV hc hx) ?_;have:IntKind.u8.wrap a=a%256:=by simp[IntKind.wrap,IntKind.bits,IntKind.signed]
 rw[this,E4 h0 h1]
theorem wY {k yk:IntKind}{a m:Int}{n:Nat}(hx:ev L x=some (.int k a))(hy:ev L y=some (.int yk (n:Int)))(hm:((2^n:Nat):Int)=m)(hn:n≤k.bits){u:TypeId}:VV P L ⟨dst,.binOp .shr t x y u,ty,pos,af,gu⟩ w (.int k (a / m)):=by
 refine dL (La hx hy aQ) ?_;rw[show(n:Int).toNat=n from by omega,oB hn,←hm]
 norm_cast
end
def Qfb (P:Program):List Field→List (Nat × Nat)→Prop
 | [],[]=>True
 | f::fs,p::ps=>f.offset=p.1∧iY P f.type p.2∧Qfb P fs ps
 | _,_=>False
theorem Qpc {P:Program}:∀ (fs:List Field) (ps:List (Nat × Nat)) (w:World),Qfb P fs ps→
 (fs.mapM fun f=>(Functor.map (Prod.mk f.offset) (sizeOf f.type):Sem (Nat × Nat))).run P w=.ok ps w
 | [],[],w,_=>rfl
 | f::fs,p::ps,w,⟨h1,h2,h3⟩=>by
  have:=Qpc fs ps w h3;simp[List.mapM_cons,h2 w,this,h1]
 | [],_::_,_,h=>h.elim
 | _::_,[],_,h=>h.elim
theorem lP {P:Program}{t:TypeId}{fs:Array Field}{ps:List (Nat × Nat)}{z:List Value}(hu:P.underlying t=some (.struct fs))(hz:ZV P t (.agg z.toArray))(hp:Qfb P fs.toList ps):BS P t (fun i=>ps[i]?) z:=fun parts w cells hc=>by
 have h:=Qpc fs.toList ps w hp
 have e:(fs.mapM fun f=>(do pure (f.offset,←sizeOf f.type):Sem (Nat × Nat))).run P w=.ok ps.toArray w:=by
  rw[Array.mapM_eq_mapM_toList];simp[h]
 simp only[Instr.build,Sem.run_bind,hz w,Result.andThen,run_underlying hu,e,Value.cells];simp only[List.getElem?_toArray];rw [hc]
theorem Xc2 {c:Bool}(h:(!c)=true):c=false:=by cases c<;>simp_all
theorem Xc1 {c:Bool}(h:(!c)=false):c=true:=by cases c<;>simp_all
theorem Qyv {P:Program}{s f k:Nat}(h:∀ (cs:Array Value) w,(Instr.field s (.agg cs) f).run P w=(match cs[k]? with|some v=>(pure v:Sem Value)|none=>match (Instr.field s (.agg #[]) f).run P w with|.halt h _=>.halt h|.ok v _=>pure v).run P w):F1 P s f k:=fun cs w v hv=>by
 rw[h cs w,hv];rfl
end Go.Sx

end
section
namespace Go.Sx
open Go Go.RowKit
abbrev W2:=BitVec 64 × BitVec 64
def bt (x:BitVec 64)(i:Nat):Int:=un (x >>> (56-8*i))%256
def kb (p:W2):List Value:=[.int .u8 (bt p.1 0),.int .u8 (bt p.1 1),.int .u8 (bt p.1 2),.int .u8 (bt p.1 3),.int .u8 (bt p.1 4),.int .u8 (bt p.1 5),.int .u8 (bt p.1 6),.int .u8 (bt p.1 7),
 .int .u8 (bt p.2 0),.int .u8 (bt p.2 1),.int .u8 (bt p.2 2),.int .u8 (bt p.2 3),.int .u8 (bt p.2 4),.int .u8 (bt p.2 5),.int .u8 (bt p.2 6),.int .u8 (bt p.2 7)]
abbrev kv (p:W2):Value:=.agg (kb p).toArray
theorem Qin (x:BitVec 64)(i:Nat):0≤bt x i:=by unfold bt;omega
theorem Qim (x:BitVec 64)(i:Nat):bt x i≤255:=by unfold bt;omega
theorem Xhw (a:BitVec 64):un (a &&& 255#64)=un a%256:=by
 unfold un;rw[Qa9];have:(255#64:BitVec 64).toNat=2^8-1:=rfl;rw[this,Nat.and_two_pow_sub_one_eq_mod];omega
theorem Xja (x:BitVec 64)(i:Nat):wd (bt x i)=(x >>> (56-8*i)) &&& 255#64:=by
 unfold bt;rw[←Xhw,Vk]
theorem Qsh (j:Nat):(255#64:BitVec 64).getLsbD j=decide (j<8):=by
 rcases jG j 64 with h|h
 · have:∀ j:Fin 64,(255#64:BitVec 64).getLsbD j.1=decide (j.1<8):=by decide
   exact this ⟨j,h⟩
 · rw[V4 _ _ h];simp;omega
theorem Ab (x:BitVec 64)(k:Nat)(hk:k<8):(x >>> (64-8*k)) <<< 8 ||| wd (bt x k)=x >>> (64-8*(k+1)):=by
 rw[Xja];apply V3;intro j hj;simp only[Lm,Yc,E0,BitVec.getLsbD_and,Qsh];by_cases h:j<8
 · have e:56-8*k+j=64-8*(k+1)+j:=by omega
   simp[h,e]
 · have e:64-8*k+(j-8)=64-8*(k+1)+j:=by omega
   simp[h,hj,e]
theorem Qgg (x:BitVec 64):x >>> 64=0#64:=Qab (eO _)
theorem Qe9 (p:W2)(k:Nat)(h:k<8):(kb p)[k]? = some (.int .u8 (bt p.1 k)):=by
 match k,h with
 | 0,_|1,_|2,_|3,_|4,_|5,_|6,_|7,_=>rfl
theorem Qe8 (p:W2)(k:Nat)(h:k<8):(kb p)[8+k]? = some (.int .u8 (bt p.2 k)):=by
 match k,h with
 | 0,_|1,_|2,_|3,_|4,_|5,_|6,_|7,_=>rfl
theorem Xa9 (p:W2)(k:Nat)(h:k<8):(kb p)[0+(k:Int).toNat*1]? = some (.int .u8 (bt p.1 k)):=by simpa using Qe9 p k h
theorem Xa8 (p:W2)(k:Nat)(h:k<8):(kb p)[0+(8+(k:Int)).toNat*1]? = some (.int .u8 (bt p.2 k)):=by
 have e:(8+(k:Int)).toNat=8+k:=by omega
 rw[kN,tW,e];exact Qe8 p k h
theorem Qil {x y:BitVec 64}(h:∀ i,i<8→bt x i=bt y i):x=y:=by
 have key:∀ k,k≤8→x >>> (64-8*k)=y >>> (64-8*k):=by
  intro k
  induction k with
  | zero=>intro _;simp[Qgg]
  | succ k ih=>
   intro hk;rw[←Ab x k aQ,←Ab y k aQ,ih aQ,h k aQ]
 simpa using key 8 (eO _)
theorem Mg {p q:W2}(h:kb p=kb q):p=q:=by
 have e:∀ k:Nat,(kb p)[k]? = (kb q)[k]? := fun k=>by rw[h]
 refine Prod.ext (Qil fun i hi=>?_) (Qil fun i hi=>?_)
 · have:=e i;rw[Qe9 p i hi,Qe9 q i hi] at this;simpa using this
 · have:=e (8+i);rw[Qe8 p i hi,Qe8 q i hi] at this;simpa using this
def xD (p:W2)(k:Nat):List Value:=(List.range 16).map fun i=>if i<8 then(if i<k then .int .u8 (bt p.1 i) else .int .u8 0) else(if i-8<k then .int .u8 (bt p.2 (i-8)) else .int .u8 0)
theorem Xak (p:W2):xD p 0=List.replicate 16 (.int .u8 0):=by simp[xD,List.range,List.range.loop]
theorem Qmq (p:W2)(k:Nat):(xD p k).length=16:=by simp[xD]
theorem Xam (p:W2)(k:Nat)(h:k<8):((xD p k).set k (.int .u8 (bt p.1 k))).set (8+k) (.int .u8 (bt p.2 k))=xD p (k+1):=by
 match k,h with
 | 0,_|1,_|2,_|3,_|4,_|5,_|6,_|7,_=>rfl
theorem Xal (p:W2)(k:Nat)(h:k<8):((xD p k).set (0+(k:Int).toNat*1) (.int .u8 (un (p.1 >>> (56-8*(k:Int)).toNat)%256))).set (0+(8+(k:Int)).toNat*1) (.int .u8 (un (p.2 >>> (56-8*(k:Int)).toNat)%256))=xD p (k+1):=by
 have e1:0+(k:Int).toNat*1=k:=by omega
 have e2:0+(8+(k:Int)).toNat*1=8+k:=by omega
 have e3:(56-8*(k:Int)).toNat=56-8*k:=by omega
 rw[e1,e2,e3];exact Xam p k h
end Go.Sx

end
