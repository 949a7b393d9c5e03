/- Several texts in one: Sx SxDraw SxMem SxW SxOps SxIter SxSl SxMark SxEq U64 SxU Key. -/
import Derived.WalkKit
import Derived.OrdersIn
import Derived.TacticsIn
import Derived.RangeFuncLeaves
import Derived.Laws.Rows
import Derived.RangeFuncRecord
import Derived.Laws.Cells
import Derived.RangeFuncIn
import Derived.Laws.AppendOwn
import Derived.Laws.StructEq
import Derived.Laws.Small
import Derived.ChangeKeysEq
import Derived.Laws.Bits64b
set_option linter.unusedVariables false
set_option linter.unusedSimpArgs false
set_option maxRecDepth 100000
section
namespace Go.Sx
open Go
abbrev Slots:=List (Nat × Value)
def lk (i:Nat):Slots→Option Value
 | []=>none
 | (j,v)::r=>bif Nat.beq j i then some v else lk i r
theorem tZ {i j:Nat}(h:¬ i=j):Nat.beq i j=false:=by
 cases e:Nat.beq i j with
 | true=>exact absurd (Nat.eq_of_beq_eq_true e) h
 | false=>rfl
def ev (L:Slots):Operand→Option Value
 | .tmp t=>lk t L
 | .const v=>some v
 | .global g=>some (.pointer (some ⟨g,0,none⟩))
 | .func f=>some (.func (.func f) #[] #[])
def lO (L:Slots):List Operand→Option (List Value)
 | []=>some []
 | x::r=>match ev L x,lO L r with
  | some v,some vs=>some (v::vs)
  | _,_=>none
def cA:Option Nat→Value→Slots→Slots
 | some d,v,L=>(d,v)::L
 | none,_,L=>L
def fL (n:Nat):Option Nat→Bool
 | some d=>Nat.blt d n
 | none=>true
def lF (L:Slots)(ρ:Operand→Value):Prop:=∀ x v,ev L x=some v→ρ x=v
theorem lF.map {L:Slots}{ρ:Operand→Value}(h:lF L ρ):∀ {l:List Operand} {vs:List Value},lO L l=some vs→l.map ρ=vs
 | [],vs,e=>by cases e;rfl
 | x::r,vs,e=>by
  unfold lO at e
  split at e
  · rename_i v vs' h1 h2;cases e;rw[List.map_cons,h _ _ h1,h.map h2]
  · cases e
theorem lF.mapA {L:Slots}{ρ:Operand→Value}(h:lF L ρ){aas:Array Operand}{vs:List Value}(e:lO L aas.toList=some vs):aas.map ρ=vs.toArray:=by
 rw[←h.map e,←Array.toList_map]
structure dB (n:Nat)(D:List Deferred)(L:Slots)(a:Act):Prop where
 size:a.tmps.size=n
 defers:a.defers=D
 get:∀ i v,lk i L=some v→a.tmps[i]? = some v
theorem dB.cons {n:Nat}{D:List Deferred}{L:Slots}{a:Act}(h:dB n D L a):lF L a.eval:=by
 intro x v e
 cases x with
 | tmp t=>
  have:=h.get t v e;simp only[Act.eval,Array.getD_eq_getD_getElem?,this,Option.getD_some]
 | const u=>cases e;rfl
 | global g=>cases e;rfl
 | func f=>cases e;rfl
theorem dB.put {n:Nat}{D:List Deferred}{L:Slots}{a:Act}(h:dB n D L a){d:Option Nat}{v:Value}(hd:fL n d=true):dB n D (cA d v L) (a.put d v):=by
 cases d with
 | none=>exact h
 | some d=>
  have hd':d<n:=by simpa[fL] using hd
  refine⟨by simp[Act.put,h.size],h.defers,fun i u e=>?_⟩;simp only[cA,lk] at e;by_cases hdi:d=i
  · subst hdi;simp at e;subst e;simp[Act.put,h.size,hd']
  · have:=tZ hdi;rw[this] at e;simp only[Act.put];rw[Array.getElem?_setIfInBounds_ne hdi];exact h.get i u e
def iA:Slots→Slots→Prop
 | [],_=>True
 | (i,v)::r,L=>lk i L=some v∧iA r L
theorem iA.get {L:Slots}:∀ {L':Slots},iA L' L→∀ i v,lk i L'=some v→lk i L=some v
 | [],_,i,v,e=>by cases e
 | (j,u)::r,h,i,v,e=>by
  simp only[lk] at e;by_cases hji:j=i
  · subst hji;simp at e;subst e;exact h.1
  · have:=tZ hji;rw[this] at e;exact iA.get h.2 i v e
theorem dB.sub {n:Nat}{D:List Deferred}{L L':Slots}{a:Act}(h:dB n D L a)(hs:iA L' L):dB n D L' a:=⟨h.size,h.defers,fun i v e=>h.get i v (hs.get i v e)⟩
def gd (ops:Array Oper)(L:Slots)(o:Oper):Option Bool:=
 match o.guard with
 | none=>some true
 | some (j,b)=>match (ops[j]?).bind (·.dst) with
  | none=>some false
  | some d=>match lk d L with
   | some (.bool c)=>some (c == b)
   | some _=>some false
   | none=>none
theorem lW {n:Nat}{D:List Deferred}{L:Slots}{a:Act}(h:dB n D L a){ops:Array Oper}{o:Oper}{b:Bool}(hg:gd ops L o=some b):
 Region.wanted o (yielded ops a.tmps)=b:=by
 unfold gd at hg;unfold Region.wanted
 split at hg
 · rename_i e;rw[e];cases hg;rfl
 · rename_i j c e;rw[e];simp only[yielded]
   split at hg
   · rename_i e2;rw[e2];cases hg;simp
   · rename_i d e2;rw[e2]
     split at hg
     · rename_i u e3;have:=h.get d _ e3;simp only[Option.bind_some,this];cases hg;cases u<;>cases c<;>rfl
     · rename_i v hne e3;have:=h.get d _ e3;simp only[Option.bind_some,this];cases hg;cases v<;>simp_all
     · cases hg
def uR:Op→Bool
 | .defer _=>false
 | _=>true
theorem P6 {o:Op}(h:uR o=true):∀ c,o≠.defer c:=by intro c e;subst e;cases h
def Fw (r:Option Nat):Fence:={ Fence.wide with round:=r }
theorem Vh {r:Option Nat}{m:Nat}{P:Program}{f:FuncId}{args:Array Value}{w:World}{R:Ending→World→Prop}(h:Calls P f args w R):CallsIn (Fw r) m P f args w R:=
 (callsIn_wide (n:=m)).2 h
def VV (P:Program)(L:Slots)(o:Oper)(w:World)(v:Value):Prop:=∀ ρ,lF L ρ→(execOp ρ o).run P w=.ok (.value v) w
def PV (P:Program)(L:Slots)(o:Oper)(v:Value):Prop:=∀ w,VV P L o w v
def HV (P:Program)(S:World→Prop)(L:Slots)(o:Oper)(v:Value):Prop:=∀ w,S w→VV P L o w v
inductive sU (P:Program) (ρ:Operand→Value) (o:Oper) (w:World) (R:Value→World→Prop):Prop
 | val (v:Value) (w':World) (h:(execOp ρ o).run P w=.ok (.value v) w') (hR:R v w')
 | skip (w':World) (h:(execOp ρ o).run P w=.ok .skip w') (hR:R undef w')
 | call (f:FuncId) (args:Array Value) (w':World) (h:(execOp ρ o).run P w=.ok (.enter f args) w') (hR:Calls P f args w' fun e w''=>∃ v,e=.returned v∧R v w'')
 | round (l:Nat) (f:FuncId) (tmps:Array Value) (assign body:Code) (w':World) (h:(execOp ρ o).run P w=.ok (.round l f tmps assign body) w')
  (hR:RoundIn Fence.wide 0 P l f tmps assign body w' fun e w''=>∃ v,e=.returned v∧R v w'')
def EV (P:Program)(L:Slots)(o:Oper)(w:World)(R:Value→World→Prop):Prop:=∀ ρ,lF L ρ→sU P ρ o w R
theorem PV.hv {P:Program}{L:Slots}{o:Oper}{v:Value}{S:World→Prop}(h:PV P L o v):HV P S L o v:=fun w _=>h w
theorem VV.ev {P:Program}{L:Slots}{o:Oper}{v:Value}{w:World}(h:VV P L o w v):EV P L o w fun v' w'=>v'=v∧w'=w:=fun ρ hρ=>.val v w (h ρ hρ) ⟨rfl,rfl⟩
theorem sU.mono {P:Program}{ρ:Operand→Value}{o:Oper}{w:World}{R R':Value→World→Prop}(h:sU P ρ o w R)(hr:∀ v w',R v w'→R' v w'):sU P ρ o w R':=by
 cases h with
 | val v w' h hR=>exact .val v w' h (hr _ _ hR)
 | skip w' h hR=>exact .skip w' h (hr _ _ hR)
 | call f args w' h hR=>exact .call f args w' h (hR.mono fun e w'' ⟨v,he,hv⟩=>⟨v,he,hr _ _ hv⟩)
 | round l f tmps assign body w' h hR=>exact .round l f tmps assign body w' h (hR.mono fun e w'' ⟨v,he,hv⟩=>⟨v,he,hr _ _ hv⟩)
theorem EV.mono {P:Program}{L:Slots}{o:Oper}{w:World}{R R':Value→World→Prop}(h:EV P L o w R)(hr:∀ v w',R v w'→R' v w'):EV P L o w R':=fun ρ hρ=>(h ρ hρ).mono hr
theorem sU.uponIn {P:Program}{r:Option Nat}{o:Oper}{a:Act}{w:World}{R:Value→World→Prop}{K:Act→World→Prop}{Q:Exit→Act→World→Prop}(hn:uR o.op=true)
 (h:sU P a.eval o w R) (hk:∀ v w',R v w'→K (a.put o.dst v) w'):o.wpIn (Fw r) 0 P a w K Q:=by
 refine⟨fun _ _=>trivial,?_⟩;rw[Oper.semAt_eq _ _ _ (P6 hn)]
 cases h with
 | val v w' h hR=>rw[h];exact hk _ _ hR
 | skip w' h hR=>rw[h];exact hk _ _ hR
 | call f args w' h hR=>
  rw[h];refine⟨fun h=>(by cases h),Vh (hR.mono ?_)⟩;rintro e w'' ⟨v,rfl,hv⟩;exact hk _ _ hv
 | round l f tmps assign body w' h hR=>
  rw[h];refine⟨fun h=>(by cases h),RoundIn.mono (F:=Fw r) hR ?_⟩;rintro e w'' ⟨v,rfl,hv⟩;exact hk _ _ hv
end Go.Sx

end
section
namespace Go.Sx
open Go
section
variable {P:Program} {r:Option Nat} {ops:Array Oper} {Q:Exit→Act→World→Prop} {S:World→Prop}
def YI (P:Program)(ops:Array Oper)(S:World→Prop)(o:Oper)(v:Value)(a:Act):Prop:=
 (Region.wanted o (yielded ops a.tmps)=true∧∀ w,S w→(execOp a.eval o).run P w=.ok (.value v) w)∨(Region.wanted o (yielded ops a.tmps)=false∧v=undef)
theorem YI.same {o:Oper}{v:Value}{a a':Act}(hy:YI P ops S o v a)(he:execOp a'.eval o=execOp a.eval o)
 (hw:Region.wanted o (yielded ops a'.tmps)=Region.wanted o (yielded ops a.tmps)):YI P ops S o v a':=by
 unfold YI at *;rw[he,hw];exact hy
theorem YI.wp {i:Nat}{o:Oper}{v:Value}{a:Act}(hn:uR o.op=true)(hi:ops[i]? = some o)(hy:YI P ops S o v a)
 {K:Act→World→Prop} {w:World} (hS:S w) (h:K (a.put o.dst v) w):wpOpIn (Fw r) 0 P ops Q i K a w:=by
 unfold wpOpIn;simp only[hi];rcases hy with⟨hw,hv⟩|⟨hw,rfl⟩
 · simp only[hw,if_true];refine⟨fun _ _=>trivial,?_⟩;rw[Oper.semAt_eq _ _ _ (P6 hn),hv w hS];exact h
 · simp only[hw,Bool.false_eq_true,if_false];exact⟨fun _ _=>trivial,h⟩
theorem Ef {j:Nat}{oi oj:Oper}{v:Value}(hj:ops[j]? = some oj)(hap:oi.apart ops oj=true)(hn:uR oj.op=true)
 (hsi:∀ cs b,oi.op≠.select cs b) (hsj:∀ cs b,oj.op≠.select cs b)
 (hQ:∀ c a w,¬ Q (.panic c) a w) (hO:¬ LetsOut Q) {K:Act→World→Prop} {a:Act} {w:World}
 (hy:YI P ops S oi v a) (h:wpOpIn (Fw r) 0 P ops Q j K (a.put oi.dst v) w):
 wpOpIn (Fw r) 0 P ops Q j (fun a' w'=>YI P ops S oi v a'∧K (a'.put oi.dst v) w') a w:=by
 obtain⟨h1,h2,h3⟩:=Oper.apart_spec hap;have keep:∀ u,YI P ops S oi v (a.put oj.dst u):=fun u=>hy.same (execOp_put oi hsi a oj.dst u h3) (wanted_put oi a oj.dst u h3);have turn:∀ u,(a.put oi.dst v).put oj.dst u=(a.put oj.dst u).put oi.dst v:=fun u=>Act.put_comm a v u h2;unfold wpOpIn at *;simp only[hj] at *;rw[wanted_put oj a oi.dst v h1] at h;by_cases hw:Region.wanted oj (yielded ops a.tmps)=true
 · simp only[hw,if_true] at h ⊢;refine⟨fun _ _=>trivial,?_⟩;have h:=h.2;rw[Oper.semAt_eq _ _ _ (P6 hn),execOp_put oj hsj a oi.dst v h1] at h;rw[Oper.semAt_eq _ _ _ (P6 hn)];generalize (execOp a.eval oj).run P w=res at *
   cases res with
   | ok x w'=>
    cases x<;>simp only[Oper.uponIn] at h ⊢
    case value u=>exact⟨keep u,by rw[←turn];exact h⟩
    case skip=>exact⟨keep _,by rw[←turn];exact h⟩
    case defer d=>
     refine⟨?_,?_⟩
     · have:=keep undef;exact(hy.same (a':={ a with defers:=d::a.defers }) rfl rfl).same (execOp_put oi hsi _ oj.dst undef h3) (wanted_put oi _ oj.dst undef h3)
     · rw[←Act.put_comm _ v undef h2,←Act.put_defers];exact h
    case enter f args=>
     refine⟨h.1,CallsIn.mono h.2 fun e w'' he=>?_⟩
     cases e with
     | returned u=>exact⟨keep u,by rw[←turn];exact he⟩
     | panicked c=>exact(hQ _ _ _ he).elim
     | outgrown=>exact(hO he).elim
    case row row args=>exact⟨h.1,RowsIn.mono h.2 fun u w'' he=>⟨keep u,by rw[←turn];exact he⟩⟩
    case round l f tmps assign body=>
     refine⟨h.1,RoundIn.mono h.2 fun e w'' he=>?_⟩
     cases e with
     | returned u=>exact⟨keep u,by rw[←turn];exact he⟩
     | panicked c=>exact(hQ _ _ _ he).elim
     | outgrown=>exact(hO he).elim
   | halt x w'=>
    cases x<;>simp only[Oper.uponIn] at h ⊢
    case panic u=>exact(hQ _ _ _ h).elim
 · simp only[hw,Bool.false_eq_true,if_false] at h ⊢;exact⟨fun _ _=>trivial,keep _,by rw[←turn];exact h.2⟩
def anyH (P:Program)(r:Option Nat)(ops:Array Oper)(Q:Exit→Act→World→Prop)(S:Nat→World→Prop)(kp:Nat→Nat→Bool):Nat→Array Bool→Act→World→Prop
 | 0,listed,a,w=>Region.ready .any ops listed=[]∧Q .normal a w
 | fuel+1,listed,a,w=>(Region.ready .any ops listed=[]→Q .normal a w)∧
  ∀ i∈Region.ready .any ops listed,wpOpIn (Fw r) 0 P ops Q i (fun a' w'=>(∀ v,kp v i=true→S v w→S v w')∧anyH P r ops Q S kp fuel (listed.setIfInBounds i true) a' w') a w
theorem anyH.any {S:Nat→World→Prop}{kp:Nat→Nat→Bool}:∀ (fuel:Nat) (listed:Array Bool) (a:Act) (w:World),anyH P r ops Q S kp fuel listed a w→wpAnyIn (Fw r) 0 P .any ops Q fuel listed a w
 | 0,_,_,_,h=>h
 | fuel+1,_,_,_,h=>⟨h.1,fun i hi=>wpOpIn_mono (fun a' w' h'=>anyH.any fuel _ a' w' h'.2) (h.2 i hi)⟩
def fP (ops:Array Oper):Bool:=ops.toList.all fun o=>uR o.op&&(match o.op with|.select .. => false|_=>true)
theorem fP.nd (h:fP ops=true){j:Nat}{o:Oper}(hj:ops[j]? = some o):uR o.op=true:=by
 have:=List.all_eq_true.1 h o (Array.mem_toList_iff.2 (Array.mem_of_getElem? hj));exact(Bool.and_eq_true_iff.1 this).1
theorem fP.ns (h:fP ops=true){j:Nat}{o:Oper}(hj:ops[j]? = some o):∀ cs b,o.op≠.select cs b:=by
 have:=List.all_eq_true.1 h o (Array.mem_toList_iff.2 (Array.mem_of_getElem? hj));intro cs b e;have:=(Bool.and_eq_true_iff.1 this).2;rw[e] at this;cases this
theorem Kq (hnd:fP ops=true){i:Nat}{oi:Oper}{v:Value}(hi:ops[i]? = some oi)(hQ:∀ c a w,¬ Q (.panic c) a w)(hO:¬ LetsOut Q){S:Nat→World→Prop}{kp:Nat→Nat→Bool}{lv:Nat}:
 ∀ (fuel:Nat) (listed:Array Bool) (a:Act) (w:World),
  (∀ j oj,ops[j]? = some oj→j≠i→listed.getD j true=false→(∀ e∈oj.after,Region.binds .any e=true→e.on≠i)→oi.apart ops oj=true∧kp lv j=true)→
  i∈Region.ready .any ops listed→YI P ops (S lv) oi v a→S lv w→
  anyH P r ops Q S kp fuel (listed.setIfInBounds i true) (a.put oi.dst v) w→anyH P r ops Q S kp (fuel+1) listed a w:=by
 intro fuel
 induction fuel with
 | zero=>
  intro listed a w _ hr hy hS H;refine⟨fun h=>(by rw[h] at hr;cases hr),fun j hj=>?_⟩;by_cases hji:j=i
  · subst hji;exact hy.wp (fP.nd hnd hi) hi hS ⟨fun _ _ h=>h,H⟩
  · have:=ready_mono hj hji;rw[H.1] at this;cases this
 | succ fuel ih=>
  intro listed a w hfree hr hy hS H;refine⟨fun h=>(by rw[h] at hr;cases hr),fun j hj=>?_⟩;by_cases hji:j=i
  · subst hji;exact hy.wp (fP.nd hnd hi) hi hS ⟨fun _ _ h=>h,H⟩
  · have h1:=H.2 j (ready_mono hj hji);obtain⟨hjun,oj,hoj,hall⟩:=mem_ready.1 hj
    have hnot:∀ e∈oj.after,Region.binds .any e=true→e.on≠i:=by
     intro e he hb heq;have q1:=hall e he hb;have q0:=(mem_ready.1 hr).1;rw[heq] at q1;rcases Nat.lt_or_ge i listed.size with q|q
     · simp[q] at q0 q1;rw[q0] at q1;cases q1
     · simp[Array.getElem?_eq_none q] at q1
    obtain⟨hap,hkj⟩:=hfree j oj hoj hji hjun hnot;have h2:=Ef hoj hap (fP.nd hnd hoj) (fP.ns hnd hi) (fP.ns hnd hoj) hQ hO hy h1;refine wpOpIn_mono (fun a' w' h3=>⟨h3.2.1,ih (listed.setIfInBounds j true) a' w' ?_ (ready_mono hr (Ne.symm hji)) h3.1 (h3.2.1 lv hkj hS) ?_⟩) h2
    · intro k ok hk hki hun hno;refine hfree k ok hk hki ?_ hno;by_cases hjk:j=k
      · subst hjk;exact hjun
      · rw[getD_set_ne true hjk] at hun;exact hun
    · rw[Array.setIfInBounds_comm _ _ hji];exact h3.2.2
end
def H9 (ops:Array Oper)(kp:Nat→Bool)(listed:Array Bool)(i:Nat):Bool:=
 (List.range ops.size).all fun j=>j == i||listed.getD j true||kp j||match ops[j]? with
  | some oj=>oj.after.any (fun e=>Region.binds .any e&&e.on == i)
  | none=>true
theorem Pb {ops:Array Oper}{kp:Nat→Bool}{listed:Array Bool}{i:Nat}(h:H9 ops kp listed i=true)(j:Nat)(oj:Oper)
 (hj:ops[j]? = some oj) (hne:j≠i) (hun:listed.getD j true=false) (hno:∀ e∈oj.after,Region.binds .any e=true→e.on≠i):kp j=true:=by
 simp only[H9,List.all_eq_true,List.mem_range] at h;have h1:=h j (Array.getElem?_eq_some_iff.1 hj).1;simp only[hj,Bool.or_eq_true,beq_iff_eq,hne,false_or,hun,Bool.false_eq_true] at h1;rcases h1 with h1|h1
 · exact h1
 · obtain⟨e,he,hb⟩:=Array.any_eq_true'.1 h1;simp only[Bool.and_eq_true,beq_iff_eq] at hb;exact absurd hb.2 (hno e he hb.1)
def Pj (l:List (Nat × Nat))(lv j:Nat):Bool := !(Nat.beq lv 0&&l.any fun x=>x.1 == j&&x.2 == 2)
def kE (c:Nat):Option Nat:=bif Nat.beq c 1 then some 0 else bif Nat.beq c 3 then some 1 else bif Nat.ble 10 c then some (c-10) else none
def sX (ops:Array Oper)(kp:Nat→Nat→Bool):List (Nat × Nat)→Array Bool→Bool
 | [],listed=>(Region.ready .any ops listed).isEmpty
 | (i,c)::rest,listed=>match kE c with
  | some lv=>(Region.ready .any ops listed).contains i&&Region.free .any ops listed i&&H9 ops (kp lv) listed i&&sX ops kp rest (listed.setIfInBounds i true)
  | none=>(Region.ready .any ops listed == [i])&&sX ops kp rest (listed.setIfInBounds i true)
def SD (P:Program)(n:Nat)(ops:Array Oper)(Q:Slots→World→Prop)(S:Nat→World→Prop)(kp:Nat→Nat→Bool):List (Nat × Nat)→Slots→World→Prop
 | [],L,w=>Q L w
 | (i,c)::rest,L,w=>match kE c with
  | some lv=>∃ o v,ops[i]? = some o∧fL n o.dst=true∧S lv w∧((gd ops L o=some true∧HV P (S lv) L o v)∨(gd ops L o=some false∧v=undef))∧SD P n ops Q S kp rest (cA o.dst v L) w
  | none=>∃ o,ops[i]? = some o∧fL n o.dst=true∧
   ((gd ops L o=some true∧∃ R,EV P L o w R∧∀ v w',R v w'→(∀ lv,kp lv i=true→S lv w→S lv w')∧SD P n ops Q S kp rest (cA o.dst v L) w')∨
    (gd ops L o=some false∧SD P n ops Q S kp rest (cA o.dst undef L) w))
section
variable {P:Program} {r:Option Nat} {n:Nat} {ops:Array Oper} {Q:Slots→World→Prop} {S:Nat→World→Prop} {kp:Nat→Nat→Bool} {D:List Deferred} {QA:Exit→Act→World→Prop}
theorem SD.anyH (hnd:fP ops=true)(hQ:∀ c a w,¬ QA (.panic c) a w)(hO:¬ LetsOut QA)(hq:∀ L a w,dB n D L a→Q L w→QA .normal a w):
 ∀ (l:List (Nat × Nat)) (listed:Array Bool) (L:Slots) (a:Act) (w:World),sX ops kp l listed=true→dB n D L a→SD P n ops Q S kp l L w→
  anyH P r ops QA S kp l.length listed a w
 | [],listed,L,a,w,ho,hf,h=>⟨by simpa[sX] using ho,hq L a w hf h⟩
 | (i,c)::rest,listed,L,a,w,ho,hf,h=>by
  unfold SD at h;unfold sX at ho
  cases hc:kE c with
  | some lv=>
   rw[hc] at h ho;obtain⟨o,v,hi,hd,hS,hv,hrest⟩:=h;simp only[Bool.and_eq_true] at ho
   refine Kq hnd hi hQ hO rest.length listed a w (fun j oj h1 h2 h3 h4=>⟨Region.free_spec hi ho.1.1.2 j oj h1 h2 h3 h4,Pb ho.1.2 j oj h1 h2 h3 h4⟩) (by simpa using ho.1.1.1) ?_ hS
    (SD.anyH hnd hQ hO hq rest _ _ _ w ho.2 (hf.put hd) hrest)
   rcases hv with⟨hg,hv⟩|⟨hg,rfl⟩
   · exact .inl ⟨lW hf hg,fun w' hw'=>hv w' hw' _ hf.cons⟩
   · exact .inr ⟨lW hf hg,rfl⟩
  | none=>
   rw[hc] at h ho;obtain⟨o,hi,hd,h⟩:=h;simp only[Bool.and_eq_true,beq_iff_eq] at ho;refine⟨fun h0=>(by rw[ho.1] at h0;cases h0),fun j hj=>?_⟩;rw[ho.1] at hj;simp only[List.mem_singleton] at hj;subst hj;unfold wpOpIn;simp only[hi];rcases h with⟨hg,R,hev,hk⟩|⟨hg,hrest⟩
   · rw[lW hf hg,if_pos rfl];exact(hev _ hf.cons).uponIn (fP.nd hnd hi) fun v w' hR=>⟨(hk v w' hR).1,SD.anyH hnd hQ hO hq rest _ _ _ w' ho.2 (hf.put hd) (hk v w' hR).2⟩
   · rw[lW hf hg];simp only[Bool.false_eq_true,if_false];exact⟨fun _ _=>trivial,fun _ _ h=>h,SD.anyH hnd hQ hO hq rest _ _ _ w ho.2 (hf.put hd) hrest⟩
theorem SD.drawn {id:Nat}{l:List (Nat × Nat)}{L:Slots}{a:Act}{w:World}(hm:P.follows .mixedOrders=true)(hnd:fP ops=true)(hlen:l.length=ops.size)
 (ho:sX ops kp l (Array.replicate ops.size false)=true) (hQ:∀ c a w,¬ QA (.panic c) a w) (hO:¬ LetsOut QA) (hq:∀ L a w,dB n D L a→Q L w→QA .normal a w)
 (hf:dB n D L a) (h:SD P n ops Q S kp l L w.drew):(Code.region id ops true).wpIn (Fw r) 0 P QA a w:=
 wpIn_region_any hm (by have:=(SD.anyH (r:=r) hnd hQ hO hq l _ L a w.drew ho hf h).any;rw[hlen] at this;exact this)
theorem SD.text (hnd:fP ops=true)(hq:∀ L a w,dB n D L a→Q L w→QA .normal a w):
 ∀ (l:List (Nat × Nat)) (L:Slots) (a:Act) (w:World),(l.all fun x=>(kE x.2).isNone)=true→dB n D L a→SD P n ops Q S kp l L w→wpOpsIn (Fw r) 0 P ops QA (l.map (·.1)) a w
 | [],L,a,w,_,hf,h=>hq L a w hf h
 | (i,c)::rest,L,a,w,hl,hf,h=>by
  simp only[List.all_cons,Bool.and_eq_true] at hl;unfold SD at h;rw[Option.isNone_iff_eq_none.1 hl.1] at h;obtain⟨o,hi,hd,h⟩:=h;simp only[List.map_cons];rw[wpOpsIn_cons];unfold wpOpIn;simp only[hi];rcases h with⟨hg,R,hev,hk⟩|⟨hg,hrest⟩
  · rw[lW hf hg,if_pos rfl];exact(hev _ hf.cons).uponIn (fP.nd hnd hi) fun v w' hR=>SD.text hnd hq rest _ _ w' hl.2 (hf.put hd) (hk v w' hR).2
  · rw[lW hf hg];simp only[Bool.false_eq_true,if_false];exact⟨fun _ _=>trivial,SD.text hnd hq rest _ _ w hl.2 (hf.put hd) hrest⟩
end
end Go.Sx

end
section
namespace Go.Sx
open Go Go.RowKit
structure bJ (p:Prop):Prop where
 o:p
def zf (z g:Nat):List Nat:=if z=0 then[] else[g]
theorem Xx {z g x:Nat}:x∈zf z g↔(z≠0∧x=g):=by unfold zf;split<;>simp_all
theorem dX:(∀ (a b:Nat) (l:List Nat),(a∈b::l)=(a=b∨a∈l))∧(∀ (a:Nat) (l m:List Nat),(a∈l++m)=(a∈l∨a∈m))∧(∀ (z g x:Nat),(x∈zf z g)=(z≠0∧x=g))∧(∀ a:Nat,(a∈([]:List Nat))=False)∧(∀ p:Prop,(p∨False)=p)∧(∀ p:Prop,(False∨p)=p)∧(∀ p q:Prop,(¬ (p∨q))=(¬ p∧¬ q))∧(∀ a b:Nat,(a≠b)=¬ (a=b))∧(∀ l:List Nat,[]++l=l)∧(∀ (a:Nat) (l m:List Nat),(a::l)++m=a::(l++m))∧(∀ p:Prop,(True∧p)=p)∧(∀ p:Prop,(p∧True)=p)∧(∀ p:Prop,(False∧p)=False)∧(∀ p:Prop,(p∧False)=False)∧((¬ True)=False)∧((¬ False)=True)∧(∀ p:Prop,(p∨True)=True)∧(∀ p:Prop,(True∨p)=True):=by
 refine⟨?_,?_,?_,?_,?_,?_,?_,?_,?_,?_,?_,?_,?_,?_,?_,?_,?_,?_⟩<;>intros<;>simp[Xx]
def Bx (w:World)(b:Nat)(t:TypeId)(cs:List Value):Prop:=w.heap[b]? = some (.cells cs.toArray t (0,0))
structure Md (b:Nat)(w w':World):Prop where
 os:w'.os=w.os
 tape:w'.tape=w.tape
 output:w'.output=w.output
 size:w'.heap.size=w.heap.size
 block:∀ k,k≠b→w'.heap[k]? = w.heap[k]?
abbrev Gr (w w':World):Prop:=Below w.heap.size w w'
section
variable {w w':World} {b c:Nat} {t:TypeId} {cs:List Value}
theorem Bx.lt (h:Bx w b t cs):b<w.heap.size:=(Array.getElem?_eq_some_iff.1 h).1
theorem Bx.gr (h:Bx w b t cs)(g:Gr w w'):Bx w' b t cs:=(g.block b h.lt).trans h
theorem Bx.below {B:Nat}(h:Bx w b t cs)(g:Below B w w')(hb:b<B):Bx w' b t cs:=(g.block b hb).trans h
theorem Bx.md (h:Bx w c t cs)(m:Md b w w')(ne:c≠b:=by omega):Bx w' c t cs:=(m.block c ne).trans h
theorem Bx.cell (h:Bx w b t cs)(off:Nat):w.cell? ⟨b,off,none⟩=cs[off]? := by rw[cell_of_row w b off _ t _ h];simp
theorem Bx.drew (h:Bx w b t cs):Bx w.drew b t cs:=h
theorem Gr.refl (w:World):Gr w w:=Below.refl _ _
theorem Gr.drew (w:World):Gr w w.drew:=(Below.refl _ _).drew
theorem Gr.trans {w₁ w₂ w₃:World}(h:Gr w₁ w₂)(k:Gr w₂ w₃):Gr w₁ w₃:=Below.trans h (k.mono h.size)
theorem Gr.below {B:Nat}{w₁ w₂ w₃:World}(h:Below B w₁ w₂)(hB:B≤w₂.heap.size)(k:Gr w₂ w₃):Below B w₁ w₃:=Below.trans h (k.mono hB)
theorem Md.refl (b:Nat)(w:World):Md b w w:=⟨rfl,rfl,rfl,rfl,fun _ _=>rfl⟩
theorem Md.trans {w₁ w₂ w₃:World}(h:Md b w₁ w₂)(k:Md b w₂ w₃):Md b w₁ w₃:=⟨k.os.trans h.os,k.tape.trans h.tape,k.output.trans h.output,k.size.trans h.size,fun i hi=>(k.block i hi).trans (h.block i hi)⟩
theorem Md.below {B:Nat}{w₀:World}(h:Below B w₀ w)(m:Md b w w')(hb:B≤b):Below B w₀ w':=
 ⟨m.os.trans h.os,m.tape.trans h.tape,m.output.trans h.output,by rw[m.size];exact h.size,fun k hk=>(m.block k (by omega)).trans (h.block k hk)⟩
theorem Md.of_setCell (hb:Bx w b t cs)(off:Nat)(v:Value):Md b w (w.setCell ⟨b,off,none⟩ v)∧Bx (w.setCell ⟨b,off,none⟩ v) b t (cs.set off v):=by
 refine⟨⟨rfl,rfl,rfl,by simp[World.setCell],fun k hk=>heap_setCell_other w ⟨b,off,none⟩ k v hk⟩,?_⟩;unfold Bx at *;rw[heap_setCell_same w b off _ t v hb];simp
end
theorem Gr.md {w w₁ w₂:World}{b:Nat}(h:Gr w w₁)(m:Md b w₁ w₂)(hb:w.heap.size≤b:=by omega):Gr w w₂:=Md.below h m hb
structure Kp (ms:List Nat)(w w':World):Prop where
 os:w'.os=w.os
 tape:w'.tape=w.tape
 output:w'.output=w.output
 size:w.heap.size≤w'.heap.size
 block:∀ k,k<w.heap.size→k∉ms→w'.heap[k]? = w.heap[k]?
theorem Kp.refl (ms:List Nat)(w:World):Kp ms w w:=⟨rfl,rfl,rfl,Nat.le_refl _,fun _ _ _=>rfl⟩
theorem Kp.gr {ms:List Nat}{w w₁ w₂:World}(h:Kp ms w w₁)(g:Gr w₁ w₂):Kp ms w w₂:=⟨g.os.trans h.os,g.tape.trans h.tape,g.output.trans h.output,Nat.le_trans h.size g.size,fun k hk hm=>(g.block k (Nat.lt_of_lt_of_le hk h.size)).trans (h.block k hk hm)⟩
theorem Kp.md {ms:List Nat}{w w₁ w₂:World}{b:Nat}(h:Kp ms w w₁)(m:Md b w₁ w₂)(hb:b∈ms∨w.heap.size≤b:=by(try simp only[dX])<;>omega):Kp ms w w₂:=⟨m.os.trans h.os,m.tape.trans h.tape,m.output.trans h.output,by rw[m.size];exact h.size,fun k hk hm=>(m.block k (by rintro rfl;rcases hb with hb|hb;exact hm hb;omega)).trans (h.block k hk hm)⟩
theorem Bx.kp {ms:List Nat}{w w':World}{b:Nat}{t:TypeId}{cs:List Value}(h:Bx w b t cs)(g:Kp ms w w')(hn:b∉ms:=by(try simp only[dX])<;>omega):Bx w' b t cs:=(g.block b h.lt hn).trans h
theorem Gr.kp {ms:List Nat}{w w₁ w₂:World}(h:Gr w w₁)(g:Kp ms w₁ w₂)(hm:∀ b∈ms,w.heap.size≤b):Gr w w₂:=
 ⟨g.os.trans h.os,g.tape.trans h.tape,g.output.trans h.output,Nat.le_trans h.size g.size,fun k hk=>(g.block k (Nat.lt_of_lt_of_le hk h.size) (fun hb=>by have:=hm k hb;omega)).trans (h.block k hk)⟩
def nD (ms:List Nat)(w₀:World):Nat→World→Prop
 | 0,w=>Gr w₀ w
 | _,w=>Kp ms w₀ w
end Go.Sx

end
section
namespace Go.Sx
open Go
def P4 (n:Nat)(Q:Exit→List Deferred→Slots→World→Prop):Exit→Act→World→Prop
 | .panic _,_,_=>False
 | .outgrown,_,_=>False
 | e,a,w=>∃ D L,dB n D L a∧Q e D L w
def SW (P:Program)(r:Option Nat)(n:Nat)(c:Code)(Q:Exit→List Deferred→Slots→World→Prop)(D:List Deferred)(L:Slots)(w:World):Prop:=
 ∀ a,dB n D L a→c.wpIn (Fw r) 0 P (P4 n Q) a w
section
variable {P:Program} {r:Option Nat} {n:Nat} {Q:Exit→List Deferred→Slots→World→Prop} {D:List Deferred} {L:Slots} {w:World}
theorem SW.mono {c:Code}{Q':Exit→List Deferred→Slots→World→Prop}(h:SW P r n c Q D L w)(hq:∀ e D L w,Q e D L w→Q' e D L w):SW P r n c Q' D L w:=
 fun a ha=>wpIn_mono (h a ha) fun e a' w' hh=>by
  cases e<;>first|exact hh|(obtain⟨D',L',h1,h2⟩:=hh;exact⟨D',L',h1,hq _ _ _ _ h2⟩)
theorem SW.forget {c:Code}{L':Slots}(h:SW P r n c Q D L' w)(hs:iA L' L):SW P r n c Q D L w:=fun a ha=>h a (ha.sub hs)
def iG (K:List Deferred→Slots→World→Prop)(Q:Exit→List Deferred→Slots→World→Prop):Exit→List Deferred→Slots→World→Prop
 | .normal,D,L,w=>K D L w
 | e,D,L,w=>Q e D L w
theorem aP {x y:Code}(h:SW P r n x (iG (fun D L w=>SW P r n y Q D L w) Q) D L w):SW P r n (.seq x y) Q D L w:=
 fun a ha=>wpIn_seq (wpIn_mono (h a ha) fun e a' w' hh=>by
  cases e with
  | normal=>obtain⟨D',L',h1,h2⟩:=hh;exact h2 a' h1
  | exit id=>exact hh
  | goto l=>exact hh
  | ret=>exact hh
  | panic c=>exact hh
  | outgrown=>exact hh)
theorem fJ (h:Q .normal D L w):SW P r n .skip Q D L w:=fun _ ha=>wpIn_skip ⟨D,L,ha,h⟩
theorem aB (h:Q .ret D L w):SW P r n .ret Q D L w:=fun _ ha=>wpIn_ret ⟨D,L,ha,h⟩
theorem dK {id:Nat}(h:Q (.exit id) D L w):SW P r n (.exit id) Q D L w:=fun _ ha=>wpIn_exit ⟨D,L,ha,h⟩
theorem Iy {l:Nat}(h:Q .normal D L w):SW P r n (.label l) Q D L w:=fun _ ha=>wpIn_label ⟨D,L,ha,h⟩
theorem iD {c:Operand}{x y:Code}{t:Bool}(hc:ev L c=some (.bool t))(ht:t=true→SW P r n x Q D L w)(hf:t=false→SW P r n y Q D L w):SW P r n (.cond c x y) Q D L w:=
 fun a ha=>wpIn_cond_split (ha.cons _ _ hc) (fun h=>ht h a ha) (fun h=>hf h a ha)
theorem lG {c:Operand}{x y:Code}(hc:ev L c=some (.bool true))(h:SW P r n x Q D L w):SW P r n (.cond c x y) Q D L w:=iD hc (fun _=>h) (fun h=>by cases h)
theorem mD {c:Operand}{x y:Code}(hc:ev L c=some (.bool false))(h:SW P r n y Q D L w):SW P r n (.cond c x y) Q D L w:=iD hc (fun h=>by cases h) (fun _=>h)
def nG (id:Nat)(Q:Exit→List Deferred→Slots→World→Prop):Exit→List Deferred→Slots→World→Prop
 | .exit id',D,L,w=>bif Nat.beq id' id then Q .normal D L w else Q (.exit id') D L w
 | e,D,L,w=>Q e D L w
theorem bB {id:Nat}{c:Code}(h:SW P r n c (nG id Q) D L w):SW P r n (.block id c) Q D L w:=
 fun a ha=>wpIn_block (wpIn_mono (h a ha) fun e a' w' hh=>by
  cases e with
  | exit id'=>
   obtain⟨D',L',h1,h2⟩:=hh;simp only[Exit.inBlock];by_cases e:id'=id
   · subst e;rw[if_pos rfl];exact⟨D',L',h1,by simpa[nG] using h2⟩
   · rw[if_neg e];exact⟨D',L',h1,by simpa[nG,tZ e] using h2⟩
  | normal=>exact hh
  | goto l=>exact hh
  | ret=>exact hh
  | panic c=>exact hh
  | outgrown=>exact hh)
theorem Xs {p:Nat→Prop}(h:∃ m,p m):∃ m,p m∧∀ k,p k→m≤k:=by
 obtain⟨m,hm⟩:=h
 induction m using Nat.strongRecOn with
 | _ m ih=>
  by_cases h:∃ k,k<m∧p k
  · obtain⟨k,hk,hp⟩:=h;exact ih k hk hp
  · exact⟨m,hm,fun k hk=>Nat.le_of_not_lt fun eD=>h ⟨k,eD,hk⟩⟩
open Classical in
noncomputable def uL (p:Nat→Prop):Nat:=if h:∃ m,p m then Classical.choose (Xs h) else 0
theorem Po {p:Nat→Prop}(h:∃ m,p m):p (uL p):=by unfold uL;rw[dif_pos h];exact(Classical.choose_spec (Xs h)).1
theorem Pn {p:Nat→Prop}{k:Nat}(h:p k):uL p≤k:=by unfold uL;rw[dif_pos ⟨k,h⟩];exact(Classical.choose_spec (Xs ⟨k,h⟩)).2 k h
theorem Iz {c:Code}{α:Type}(st:α→Slots)(J:α→World→Prop)(μ:α→Nat)(x₀:α)(hs:iA (st x₀) L)(h₀:J x₀ w)
 (round:∀ x w,J x w→SW P r n c (iG (fun D' L' w'=>D'=D∧∃ x',iA (st x') L'∧J x' w'∧μ x'<μ x) Q) D (st x) w):SW P r n (.loop c) Q D L w:=by
 intro a ha;refine wpIn_loop (fun a w=>∃ x,dB n D (st x) a∧J x w) (fun a w=>uL fun m=>∃ x,dB n D (st x) a∧J x w∧μ x=m) ⟨x₀,ha.sub hs,h₀⟩ ?_;intro a w ⟨x1,hx1,hJ1⟩;obtain⟨x,hx,hJ,hm⟩:=Po (p:=fun m=>∃ x,dB n D (st x) a∧J x w∧μ x=m) ⟨μ x1,x1,hx1,hJ1,rfl⟩;refine wpIn_mono (round x w hJ a hx) fun e a' w' hh=>?_
 cases e with
 | normal=>
  obtain⟨D',L',h1,rfl,x',h2,h3,h4⟩:=hh;refine⟨⟨x',h1.sub h2,h3⟩,?_⟩;have:=Pn (p:=fun m=>∃ x,dB n D' (st x) a'∧J x w'∧μ x=m) ⟨x',h1.sub h2,h3,rfl⟩;omega
 | exit id=>exact hh
 | goto l=>exact hh
 | ret=>exact hh
 | panic c=>exact hh
 | outgrown=>exact hh
def Pw (i:Nat):List Nat→Bool
 | []=>false
 | j::r=>bif Nat.beq i j then true else Pw i r
def iB (ds:List Nat):Slots→Slots
 | []=>[]
 | (i,v)::r=>bif Pw i ds then iB ds r else(i,v)::iB ds r
theorem dR {c:Code}{α:Type}(dead:List Nat)(dyn:α→Slots)(J:α→World→Prop)(μ:α→Nat)(x₀:α)(hs:iA (dyn x₀++iB dead L) L)(h₀:J x₀ w)
 (round:∀ x w,J x w→SW P r n c (iG (fun D' L' w'=>D'=D∧∃ x',iA (dyn x'++iB dead L) L'∧J x' w'∧μ x'<μ x) Q) D (dyn x++iB dead L) w):SW P r n (.loop c) Q D L w:=
 Iz (fun x=>dyn x++iB dead L) J μ x₀ hs h₀ round
theorem Pq {c:List PanicEntry}{a:Act}{w:World}:¬ P4 n Q (.panic c) a w:=fun h=>h
theorem Pp:¬ LetsOut (P4 n Q):=fun⟨_,_,h⟩=>h
theorem Ob {id:Nat}{ops:Array Oper}(l:List (Nat × Nat))(hnd:fP ops=true)(hl:(l.all fun x=>(kE x.2).isNone)=true)(ho:l.map (·.1)=List.range ops.size)
 (h:SD P n ops (fun L w=>Q .normal D L w) (fun _ _=>True) (fun _ _=>false) l L w):SW P r n (.region id ops false) Q D L w:=
 fun a ha=>wpIn_region (by rw[←ho];exact SD.text (D:=D) hnd (fun L _ _ hf hq=>⟨D,L,hf,hq⟩) l L a w hl ha h)
theorem xO {id:Nat}{ops:Array Oper}(ms:List Nat)(l:List (Nat × Nat))(hm:P.follows .mixedOrders=true)(hnd:fP ops=true)(hlen:l.length=ops.size)
 (ho:sX ops (Pj l) l (Array.replicate ops.size false)=true) (h:∀ w1,RowKit.Below w.heap.size w w1→w1.heap.size=w.heap.size→SD P n ops (fun L w=>Q .normal D L w) (nD ms w1) (Pj l) l L w1):SW P r n (.region id ops true) Q D L w:=
 fun _ ha=>SD.drawn (D:=D) hm hnd hlen ho (fun _ _ _=>Pq) Pp (fun L _ _ hf hq=>⟨D,L,hf,hq⟩) ha (h w.drew (RowKit.Below.refl _ _).drew rfl)
end
section
variable {P:Program} {n:Nat} {ops:Array Oper} {Q:Slots→World→Prop} {rest:List (Nat × Nat)} {i:Nat} {dst:Option Nat} {op:Op} {ty:TypeId} {pos:String} {af:Array Edge} {gu:Option (Nat × Bool)} {L:Slots} {w:World}
theorem L2 {v:Value}(hi:ops[i]? = some ⟨dst,op,ty,pos,af,gu⟩)(hg:gd ops L ⟨dst,op,ty,pos,af,gu⟩=some true)(hd:fL n dst=true)(hv:VV P L ⟨dst,op,ty,pos,af,gu⟩ w v)
 (h:SD P n ops Q (fun _ _=>True) (fun _ _=>false) rest (cA dst v L) w):SD P n ops Q (fun _ _=>True) (fun _ _=>false) ((i,0)::rest) L w:=
 ⟨_,hi,hd,.inl ⟨hg,_,hv.ev,fun v' w' ⟨h1,h2⟩=>by subst h1;subst h2;exact⟨fun _ _ _=>trivial,h⟩⟩⟩
theorem Te {R:Value→World→Prop}(hi:ops[i]? = some ⟨dst,op,ty,pos,af,gu⟩)(hg:gd ops L ⟨dst,op,ty,pos,af,gu⟩=some true)(hd:fL n dst=true)(hv:EV P L ⟨dst,op,ty,pos,af,gu⟩ w R)
 (h:∀ v w',R v w'→SD P n ops Q (fun _ _=>True) (fun _ _=>false) rest (cA dst v L) w'):SD P n ops Q (fun _ _=>True) (fun _ _=>false) ((i,0)::rest) L w:=⟨_,hi,hd,.inl ⟨hg,R,hv,fun v w' hR=>⟨fun _ _ _=>trivial,h v w' hR⟩⟩⟩
theorem Aj (hi:ops[i]? = some ⟨dst,op,ty,pos,af,gu⟩)(hg:gd ops L ⟨dst,op,ty,pos,af,gu⟩=some false)(hd:fL n dst=true)
 (h:SD P n ops Q (fun _ _=>True) (fun _ _=>false) rest (cA dst undef L) w):SD P n ops Q (fun _ _=>True) (fun _ _=>false) ((i,0)::rest) L w:=⟨_,hi,hd,.inr ⟨hg,h⟩⟩
theorem Ak {t:Bool}(hi:ops[i]? = some ⟨dst,op,ty,pos,af,gu⟩)(hg:gd ops L ⟨dst,op,ty,pos,af,gu⟩=some true)(hd:fL n dst=true)(hv:VV P L ⟨dst,op,ty,pos,af,gu⟩ w (.bool t))
 (ht:t=true→SD P n ops Q (fun _ _=>True) (fun _ _=>false) rest (cA dst (.bool true) L) w) (hf:t=false→SD P n ops Q (fun _ _=>True) (fun _ _=>false) rest (cA dst (.bool false) L) w):SD P n ops Q (fun _ _=>True) (fun _ _=>false) ((i,0)::rest) L w:=by
 cases t with
 | true=>exact L2 hi hg hd hv (ht rfl)
 | false=>exact L2 hi hg hd hv (hf rfl)
theorem aH {S:Nat→World→Prop}{kp:Nat→Nat→Bool}(h:Q L w):SD P n ops Q S kp [] L w:=h
variable {ms:List Nat} {w₀:World} {kp:Nat→Nat→Bool}
theorem E9 {v:Value}(hi:ops[i]? = some ⟨dst,op,ty,pos,af,gu⟩)(hg:gd ops L ⟨dst,op,ty,pos,af,gu⟩=some true)(hd:fL n dst=true)(hS:Gr w₀ w)(hv:∀ w,Gr w₀ w→VV P L ⟨dst,op,ty,pos,af,gu⟩ w v)
 (h:SD P n ops Q (nD ms w₀) kp rest (cA dst v L) w):SD P n ops Q (nD ms w₀) kp ((i,1)::rest) L w:=⟨_,v,hi,hd,hS,.inl ⟨hg,hv⟩,h⟩
theorem dN {v:Value}(hi:ops[i]? = some ⟨dst,op,ty,pos,af,gu⟩)(hg:gd ops L ⟨dst,op,ty,pos,af,gu⟩=some true)(hd:fL n dst=true)(hS:Kp ms w₀ w)(hv:∀ w,Kp ms w₀ w→VV P L ⟨dst,op,ty,pos,af,gu⟩ w v)
 (h:SD P n ops Q (nD ms w₀) kp rest (cA dst v L) w):SD P n ops Q (nD ms w₀) kp ((i,3)::rest) L w:=⟨_,v,hi,hd,hS,.inl ⟨hg,hv⟩,h⟩
theorem zO {R:Value→World→Prop}(hi:ops[i]? = some ⟨dst,op,ty,pos,af,gu⟩)(hg:gd ops L ⟨dst,op,ty,pos,af,gu⟩=some true)(hd:fL n dst=true)(hv:EV P L ⟨dst,op,ty,pos,af,gu⟩ w R)
 (h:∀ v w',R v w'→Gr w w'∧SD P n ops Q (nD ms w₀) kp rest (cA dst v L) w'):SD P n ops Q (nD ms w₀) kp ((i,0)::rest) L w:=
 ⟨_,hi,hd,.inl ⟨hg,R,hv,fun v w' hR=>⟨fun lv _ hS=>by
  cases lv with
  | zero=>exact Gr.trans hS (h v w' hR).1
  | succ k=>exact Kp.gr hS (h v w' hR).1,(h v w' hR).2⟩⟩⟩
theorem tF {R:Value→World→Prop}{b:Nat}(hi:ops[i]? = some ⟨dst,op,ty,pos,af,gu⟩)(hk:kp 0 i=false)(hg:gd ops L ⟨dst,op,ty,pos,af,gu⟩=some true)(hd:fL n dst=true)(hv:EV P L ⟨dst,op,ty,pos,af,gu⟩ w R)(hb:b∈ms∨w₀.heap.size≤b)
 (h:∀ v w',R v w'→Md b w w'∧SD P n ops Q (nD ms w₀) kp rest (cA dst v L) w'):SD P n ops Q (nD ms w₀) kp ((i,2)::rest) L w:=
 ⟨_,hi,hd,.inl ⟨hg,R,hv,fun v w' hR=>⟨fun lv hk' hS=>by
  cases lv with
  | zero=>rw[hk] at hk';cases hk'
  | succ k=>exact Kp.md hS (h v w' hR).1 hb,(h v w' hR).2⟩⟩⟩
end
section
variable {P:Program} {r:Option Nat} {n:Nat} {Q:Exit→List Deferred→Slots→World→Prop} {K:List Deferred→Slots→World→Prop} {D:List Deferred} {L:Slots} {w:World} {id id':Nat}
theorem aQ {y:Code}{ops:Array Oper}{S:Nat→World→Prop}{kp:Nat→Nat→Bool}(h:SW P r n y Q D L w):SD P n ops (fun L w=>iG (fun D L w=>SW P r n y Q D L w) Q .normal D L w) S kp [] L w:=h
theorem bO {y:Code}(h:SW P r n y Q D L w):iG (fun D L w=>SW P r n y Q D L w) Q .normal D L w:=h
theorem bE (h:Q (.exit id) D L w):iG K Q (.exit id) D L w:=h
theorem bM (h:Q .ret D L w):iG K Q .ret D L w:=h
theorem cH (h:Q .normal D L w):nG id Q .normal D L w:=h
theorem cE (h:Q .ret D L w):nG id Q .ret D L w:=h
theorem dJ (h:Q .normal D L w):nG id Q (.exit id) D L w:=by simpa[nG] using h
theorem Kw (e:Nat.beq id' id=false)(h:Q (.exit id') D L w):nG id Q (.exit id') D L w:=by simpa[nG,e] using h
end
def vT:List Deferred→World→World→Prop
 | [],w,w'=>w'=w
 | d::ds,w,w'=>∃ k,d.target=.collected k∧w.heap[k]? = some (.deferred (some []))∧vT ds (w.putObj k (.deferred none)) w'
def qD (P:Program)(fn:Func)(L:Slots)(w:World)(v:Value):Prop:=∀ n D a,dB n D L a→(results fn a.tmps).run P w=.ok v w
def Dw (P:Program)(fn:Func)(R:Value→World→Prop):Exit→List Deferred→Slots→World→Prop
 | .normal,D,L,w|.ret,D,L,w=>∃ w' v,vT D w w'∧qD P fn L w' v∧R v w'
 | _,_,_,_=>False
theorem Xt {P:Program}{fn:Func}{tmps:Array Value}{R:Value→World→Prop}:∀ (D:List Deferred) (w w':World) (v:Value),vT D w w'→(results fn tmps).run P w'=.ok v w'→R v w'→
 LeavesInM Fence.wide 0 P fn tmps (fun e w''=>∃ v,e=.returned v∧R v w'') D .returning w
 | [],w,w',v,hl,hr,hR=>by cases hl;exact⟨v,hr,v,rfl,hR⟩
 | d::ds,w,w',v,⟨k,hk,hb,hl⟩,hr,hR=>⟨by simp,.inl ⟨k,_,hk,run_takeDeferred hb,Xt ds _ w' v hl hr hR⟩⟩
def tX:Nat→List Value→Slots
 | _,[]=>[]
 | i,v::r=>(i,v)::tX (i+1) r
theorem Pr:∀ (vs:List Value) (k i:Nat) (v:Value),lk i (tX k vs)=some v→k≤i∧vs[i-k]? = some v
 | [],k,i,v,h=>by cases h
 | u::r,k,i,v,h=>by
  simp only[tX,lk] at h;by_cases e:k=i
  · subst e;simp at h;subst h;exact⟨Nat.le_refl _,by simp⟩
  · rw[tZ e] at h;obtain⟨h1,h2⟩:=Pr r (k+1) i v h;refine⟨by omega,?_⟩;have:i-k=(i-(k+1))+1:=by omega
    rw[this];simpa using h2
theorem bN {P:Program}{f:FuncId}{fn:Func}{c:Code}{vs:List Value}{w:World}{R:Value→World→Prop}(n:Nat)(hf:P.funcs[f]? = some fn)(hb:fn.body=some c)(hn:fn.ntmps=n)(hl:Nat.ble vs.length n=true)
 (h:SW P none n c (Dw P fn R) [] (tX 0 vs) w):Calls P f vs.toArray w fun e w'=>∃ v,e=.returned v∧R v w':=by
 refine(callsIn_wide (n:=0)).1 (callsIn_of_wp_marks hf hb trivial ?_);have hl':vs.length≤n:=Nat.le_of_ble_eq_true hl
 have hfo:dB n [] (tX 0 vs) { tmps:=vs.toArray++Array.replicate (fn.ntmps-vs.toArray.size) undef,defers:=[] }:=by
  refine⟨by simp[hn];omega,rfl,fun i v e=>?_⟩;have:=(Pr vs 0 i v e).2;simp only[Nat.sub_zero] at this;have hi:=(List.getElem?_eq_some_iff.1 this).1;rw[Array.getElem?_append_left (by simpa using hi)];simpa using this
 refine wpIn_mono (h _ hfo) fun e a' w' hh=>?_
 cases e with
 | normal=>obtain⟨D,L,h1,w'',v,h2,h3,h4⟩:=hh;show LeavesInM _ _ _ _ _ _ a'.defers _ _;rw[h1.defers];exact Xt D w' w'' v h2 (h3 _ _ _ h1) h4
 | ret=>obtain⟨D,L,h1,w'',v,h2,h3,h4⟩:=hh;show LeavesInM _ _ _ _ _ _ a'.defers _ _;rw[h1.defers];exact Xt D w' w'' v h2 (h3 _ _ _ h1) h4
 | exit id=>obtain⟨_,_,_,h⟩:=hh;exact h.elim
 | goto l=>obtain⟨_,_,_,h⟩:=hh;exact h.elim
 | panic c=>exact hh.elim
 | outgrown=>exact hh.elim
end Go.Sx

end
section
namespace Go.Sx
open Go Go.RowKit
def fV (P:Program)(t:TypeId):Prop:=∀ w,(isAgg t).run P w=.ok false w∧(sizeOf t).run P w=.ok 1 w
def eG (P:Program)(t:TypeId)(n:Nat):Prop:=∀ w,(isAgg t).run P w=.ok true w∧(sizeOf t).run P w=.ok n w
def fO (P:Program)(t:TypeId)(n:Nat):Prop:=∀ w,(sizeOf t).run P w=.ok n w
theorem fV.siz {P:Program}{t:TypeId}(h:fV P t):fO P t 1:=fun w=>(h w).2
theorem eG.siz {P:Program}{t:TypeId}{n:Nat}(h:eG P t n):fO P t n:=fun w=>(h w).2
def ZV (P:Program)(t:TypeId)(v:Value):Prop:=∀ w,(zeroValue t).run P w=.ok v w
def FA (P:Program)(s f k:Nat):Prop:=∀ b off w,(Instr.fieldAt s (.pointer (some ⟨b,off,none⟩)) f).run P w=.ok (.pointer (some ⟨b,off+k,none⟩)) w
def En (P:Program)(f:Nat):Prop:=∀ args w,(callFunc f args).run P w=.ok (.enter f args) w
def F1 (P:Program)(s f k:Nat):Prop:=∀ (cs:Array Value) w v,cs[k]? = some v→(Instr.field s (.agg cs) f).run P w=.ok v w
section
variable {P:Program} {L:Slots} {w:World} {dst:Option Nat} {ty:TypeId} {pos:String} {af:Array Edge} {gu:Option (Nat × Bool)}
theorem iH {s:Sem Value}{w':World}{v:Value}(h:s.run P w=.ok v w'):(do pure (Next.value (← s)):Sem Next).run P w=.ok (.value v) w':=by
 show(s.bind _).run P w=_;rw[Sem.run_bind',h];rfl
theorem Ai {s:Sem Unit}{w':World}(h:s.run P w=.ok () w'):(do s;pure Next.skip:Sem Next).run P w=.ok .skip w':=by
 show(s.bind _).run P w=_;rw[Sem.run_bind',h];rfl
theorem aA {x:Operand}{v:Value}(hx:ev L x=some v):VV P L ⟨dst,.move x,ty,pos,af,gu⟩ w v:=fun ρ hρ=>by simp[execOp,hρ _ _ hx]
theorem eQ {x:Operand}{v:Value}(hx:ev L x=some v):VV P L ⟨dst,.assign x,ty,pos,af,gu⟩ w v:=fun ρ hρ=>by simp[execOp,hρ _ _ hx]
theorem Qam {c a b:Operand}{v:Value}(hc:ev L c=some (.bool true))(ha:ev L a=some v):VV P L ⟨dst,.pick c a b,ty,pos,af,gu⟩ w v:=fun ρ hρ=>by
 simp[execOp,hρ _ _ hc,hρ _ _ ha,asBool]
theorem Qal {c a b:Operand}{v:Value}(hc:ev L c=some (.bool false))(hb:ev L b=some v):VV P L ⟨dst,.pick c a b,ty,pos,af,gu⟩ w v:=fun ρ hρ=>by
 simp[execOp,hρ _ _ hc,hρ _ _ hb,asBool]
variable {x y:Operand} {t u:TypeId} {k:IntKind} {a b:Int}
theorem cC (hx:ev L x=some (.int k a))(hy:ev L y=some (.int k b)):VV P L ⟨dst,.binOp .add t x y u,ty,pos,af,gu⟩ w (.int k (k.wrap (a+b))):=fun ρ hρ=>by
 simp[execOp,hρ _ _ hx,hρ _ _ hy,go_sem,Op.intArith]
theorem gT (hx:ev L x=some (.int k a))(hy:ev L y=some (.int k b)):VV P L ⟨dst,.binOp .sub t x y u,ty,pos,af,gu⟩ w (.int k (k.wrap (a-b))):=fun ρ hρ=>by
 simp[execOp,hρ _ _ hx,hρ _ _ hy,go_sem,Op.intArith]
theorem hX (hx:ev L x=some (.int k a))(hy:ev L y=some (.int k b)):VV P L ⟨dst,.binOp .mul t x y u,ty,pos,af,gu⟩ w (.int k (k.wrap (a*b))):=fun ρ hρ=>by
 simp[execOp,hρ _ _ hx,hρ _ _ hy,go_sem,Op.intArith]
theorem R0 {n:Int}(h1 : -9223372036854775808≤n)(h2:n≤9223372036854775807):IntKind.i64.wrap n=n:=IntWalk.i64_in n (by omega)
theorem iX (hx:ev L x=some (.int .i64 a))(hy:ev L y=some (.int .i64 b))(h1 : -9223372036854775808≤a+b)(h2:a+b≤9223372036854775807):VV P L ⟨dst,.binOp .add t x y u,ty,pos,af,gu⟩ w (.int .i64 (a+b)):=by
 have:=cC (P:=P) (w:=w) (dst:=dst) (ty:=ty) (pos:=pos) (af:=af) (gu:=gu) (t:=t) (u:=u) hx hy;rwa[R0 h1 h2] at this
theorem Ke (hx:ev L x=some (.int .i64 a))(hy:ev L y=some (.int .i64 b))(h1 : -9223372036854775808≤a-b)(h2:a-b≤9223372036854775807):VV P L ⟨dst,.binOp .sub t x y u,ty,pos,af,gu⟩ w (.int .i64 (a-b)):=by
 have:=gT (P:=P) (w:=w) (dst:=dst) (ty:=ty) (pos:=pos) (af:=af) (gu:=gu) (t:=t) (u:=u) hx hy;rwa[R0 h1 h2] at this
theorem Gm (hx:ev L x=some (.int .i64 a))(hy:ev L y=some (.int .i64 b))(h1 : -9223372036854775808≤a*b)(h2:a*b≤9223372036854775807):VV P L ⟨dst,.binOp .mul t x y u,ty,pos,af,gu⟩ w (.int .i64 (a*b)):=by
 have:=hX (P:=P) (w:=w) (dst:=dst) (ty:=ty) (pos:=pos) (af:=af) (gu:=gu) (t:=t) (u:=u) hx hy;rwa[R0 h1 h2] at this
theorem vX {op:BinOp}(hop:op=.and∨op=.or∨op=.xor∨op=.andNot)(hx:ev L x=some (.int k a))(hy:ev L y=some (.int k b)):VV P L ⟨dst,.binOp op t x y u,ty,pos,af,gu⟩ w (.int k (bits op k a b)):=fun ρ hρ=>by
 rcases hop with rfl|rfl|rfl|rfl<;>simp[execOp,hρ _ _ hx,hρ _ _ hy,go_sem]
theorem Gp {yk:IntKind}(hx:ev L x=some (.int k a))(hy:ev L y=some (.int yk b))(h0:0≤b):VV P L ⟨dst,.binOp .shl t x y u,ty,pos,af,gu⟩ w (.int k (k.wrap (a*2^min b.toNat k.bits))):=fun ρ hρ=>by
 simp[execOp,hρ _ _ hx,hρ _ _ hy,go_sem,h0]
theorem Kc {yk:IntKind}(hx:ev L x=some (.int k a))(hy:ev L y=some (.int yk b))(h0:0≤b):VV P L ⟨dst,.binOp .shr t x y u,ty,pos,af,gu⟩ w (.int k (a / 2^min b.toNat k.bits)):=fun ρ hρ=>by
 simp[execOp,hρ _ _ hx,hρ _ _ hy,go_sem,h0]
theorem eT (hx:ev L x=some (.int k a))(hy:ev L y=some (.int k b)):VV P L ⟨dst,.binOp .eql t x y u,ty,pos,af,gu⟩ w (.bool (decide (a=b))):=fun ρ hρ=>by
 simp[execOp,hρ _ _ hx,hρ _ _ hy,go_sem];rfl
theorem cP (hx:ev L x=some (.int k a))(hy:ev L y=some (.int k b)):VV P L ⟨dst,.binOp .neq t x y u,ty,pos,af,gu⟩ w (.bool (decide (a≠b))):=fun ρ hρ=>by
 simp[execOp,hρ _ _ hx,hρ _ _ hy,go_sem];rfl
theorem cU (hx:ev L x=some (.int k a))(hy:ev L y=some (.int k b)):VV P L ⟨dst,.binOp .lss t x y u,ty,pos,af,gu⟩ w (.bool (decide (a<b))):=fun ρ hρ=>by
 simp[execOp,hρ _ _ hx,hρ _ _ hy,go_sem]
theorem lQ (hx:ev L x=some (.int k a))(hy:ev L y=some (.int k b)):VV P L ⟨dst,.binOp .leq t x y u,ty,pos,af,gu⟩ w (.bool (decide (a≤b))):=fun ρ hρ=>by
 simp[execOp,hρ _ _ hx,hρ _ _ hy,go_sem]
theorem eA (hx:ev L x=some (.int k a))(hy:ev L y=some (.int k b)):VV P L ⟨dst,.binOp .gtr t x y u,ty,pos,af,gu⟩ w (.bool (decide (b<a))):=fun ρ hρ=>by
 simp[execOp,hρ _ _ hx,hρ _ _ hy,go_sem]
theorem eU (hx:ev L x=some (.int k a))(hy:ev L y=some (.int k b)):VV P L ⟨dst,.binOp .geq t x y u,ty,pos,af,gu⟩ w (.bool (decide (b≤a))):=fun ρ hρ=>by
 simp[execOp,hρ _ _ hx,hρ _ _ hy,go_sem]
theorem dZ {c:Bool}(hx:ev L x=some (.bool c)):VV P L ⟨dst,.unOp .not t x,ty,pos,af,gu⟩ w (.bool (!c)):=fun ρ hρ=>by
 simp[execOp,hρ _ _ hx,go_sem]
def CV (P:Program)(s d:TypeId)(k:IntKind):Prop:=∀ q n w,(convert s d (.int q n)).run P w=.ok (.int k (k.wrap n)) w
theorem oF {s d:TypeId}{q:IntKind}(hc:CV P s d k)(hx:ev L x=some (.int q a)):VV P L ⟨dst,.convert s d x,ty,pos,af,gu⟩ w (.int k (k.wrap a)):=fun ρ hρ=>by
 simp[execOp,hρ _ _ hx,hc q a w,go_sem]
theorem oR {s d:TypeId}{q:IntKind}(hc:CV P s d .i64)(hx:ev L x=some (.int q a))(h1 : -9223372036854775808≤a)(h2:a≤9223372036854775807):VV P L ⟨dst,.convert s d x,ty,pos,af,gu⟩ w (.int .i64 a):=by
 have:=oF (P:=P) (w:=w) (dst:=dst) (ty:=ty) (pos:=pos) (af:=af) (gu:=gu) hc hx;rwa[R0 h1 h2] at this
theorem aY {s f q b' off:Nat}(hf:FA P s f q)(hx:ev L x=some (.pointer (some ⟨b',off,none⟩))):VV P L ⟨dst,.fieldAddr s x f,ty,pos,af,gu⟩ w (.pointer (some ⟨b',off+q,none⟩)):=fun ρ hρ=>iH (by rw[hρ _ _ hx];exact hf b' off w)
theorem oB {len b' off sz:Nat}{e:TypeId}{i:Int}(hu:P.underlying t=some (.array len e))(hs:fO P e sz)(hx:ev L x=some (.pointer (some ⟨b',off,none⟩)))(hy:ev L y=some (.int k i))(h0:0≤i)(h1:i<len):
 VV P L ⟨dst,.indexAddr t x y,ty,pos,af,gu⟩ w (.pointer (some ⟨b',off+i.toNat*sz,none⟩)):=fun ρ hρ=>by
 simp[execOp,hρ _ _ hx,hρ _ _ hy,Instr.indexAt,run_underlying hu,Instr.sureAddr,asIntOf,hs w,h0,h1,go_sem]
theorem Qab {len cap b' off sz:Nat}{e:TypeId}{i:Int}(hu:P.underlying t=some (.slice e))(hs:fO P e sz)(hx:ev L x=some (.slice (some ⟨b',off,none⟩) len cap))(hy:ev L y=some (.int k i))(h0:0≤i)(h1:i<len):
 VV P L ⟨dst,.indexAddr t x y,ty,pos,af,gu⟩ w (.pointer (some ⟨b',off+i.toNat*sz,none⟩)):=fun ρ hρ=>by
 simp[execOp,hρ _ _ hx,hρ _ _ hy,Instr.indexAt,run_underlying hu,asIntOf,hs w,h0,h1,go_sem]
theorem Qa9 {vs:List Value}{q:Nat}{v:Value}(hx:ev L x=some (.tuple vs.toArray))(hq:vs[q]? = some v):VV P L ⟨dst,.extract x q,ty,pos,af,gu⟩ w v:=fun ρ hρ=>by
 simp[execOp,hρ _ _ hx,Instr.extract,hq,go_sem]
theorem Qaa {s f q:Nat}{cs:List Value}{v:Value}(hf:F1 P s f q)(hx:ev L x=some (.agg cs.toArray))(hv:cs[q]? = some v):VV P L ⟨dst,.field s x f,ty,pos,af,gu⟩ w v:=fun ρ hρ=>by
 have:=hf cs.toArray w v (by simpa using hv);simp[execOp,hρ _ _ hx,this,go_sem]
theorem kH {f:Nat}{fs cap:Array Operand}{vf vc:List Value}(h1:lO L fs.toList=some vf)(h2:lO L cap.toList=some vc):VV P L ⟨dst,.makeFunc (.func f) fs cap,ty,pos,af,gu⟩ w (.func (.func f) vf.toArray vc.toArray):=fun ρ hρ=>by
 simp[execOp,hρ.mapA h1,hρ.mapA h2,Instr.makeFunc,go_sem]
theorem aT {b' off:Nat}{tb:TypeId}{cs:List Value}{v:Value}(h1:fV P t)(hx:ev L x=some (.pointer (some ⟨b',off,none⟩)))(hb:Bx w b' tb cs)(hv:cs[off]? = some v):VV P L ⟨dst,.load t x,ty,pos,af,gu⟩ w v:=fun ρ hρ=>by
 have hc:w.cell? ⟨b',off,none⟩=some v:=by rw[hb.cell];exact hv
 simp[execOp,hρ _ _ hx,Instr.loadAt,Instr.sureAddr,loadVar,(h1 w).1,hc,go_sem]
theorem dV {b' off m:Nat}{tb:TypeId}{cs vs:List Value}(h1:eG P t m)(hx:ev L x=some (.pointer (some ⟨b',off,none⟩)))(hb:Bx w b' tb cs)(hv:(cs.drop off).take m=vs)(hl:vs.length=m):VV P L ⟨dst,.load t x,ty,pos,af,gu⟩ w (.agg vs.toArray):=fun ρ hρ=>by
 have hc:(loadCells ⟨b',off,none⟩ vs.length).run P w=.ok vs.toArray w:=run_loadCells_list w _ _ (fun j v hj=>by
  rw[Addr.add_lit,hb.cell];have hjm:j<m:=by rw[←hl];exact(List.getElem?_eq_some_iff.1 hj).1
  rw[←hv,List.getElem?_take_of_lt hjm,List.getElem?_drop] at hj
  exact hj)
 rw[hl] at hc;refine iH ?_;rw[hρ _ _ hx];simp[Instr.loadAt,Instr.sureAddr,loadVar,(h1 w).1,(h1 w).2,hc]
theorem aM {b' m:Nat}{tb:TypeId}{cs:List Value}(h1:eG P t m)(hx:ev L x=some (.pointer (some ⟨b',0,none⟩)))(hb:Bx w b' tb cs)(hl:cs.length=m):VV P L ⟨dst,.load t x,ty,pos,af,gu⟩ w (.agg cs.toArray):=
 dV h1 hx hb (by rw[List.drop_zero,List.take_of_length_le (by omega)]) hl
theorem Hf {o:Oper}{v:Value}{cs:List Value}(hrun:∀ ρ,lF L ρ→(execOp ρ o).run P w=.ok (.value (.pointer (some ⟨w.heap.size,0,none⟩))) (w.alloc (.cells v.cells t)))(hc:v.cells=cs.toArray):
 EV P L o w fun v' w'=>∃ b,v'=.pointer (some ⟨b,0,none⟩)∧w.heap.size≤b∧Bx w' b t cs∧Gr w w':=fun ρ hρ=>
 .val _ _ (hrun ρ hρ) ⟨w.heap.size,rfl,Nat.le_refl _,by unfold Bx;rw[hc];exact heap_alloc_new w _,(Below.refl _ _).alloc (Nat.le_refl _) _⟩
theorem bH {v:Value}{cs:List Value}(hx:ev L x=some v)(hc:v.cells=cs.toArray):
 EV P L ⟨dst,.box t x,ty,pos,af,gu⟩ w fun v' w'=>∃ b,v'=.pointer (some ⟨b,0,none⟩)∧w.heap.size≤b∧Bx w' b t cs∧Gr w w':=
 Hf (v:=v) (fun ρ hρ=>by simp[execOp,hρ _ _ hx,Instr.box,newVar,newRow,go_sem]) hc
theorem bQ {v:Value}{cs:List Value}(hz:ZV P t v)(hc:v.cells=cs.toArray):
 EV P L ⟨dst,.alloc t,ty,pos,af,gu⟩ w fun v' w'=>∃ b,v'=.pointer (some ⟨b,0,none⟩)∧w.heap.size≤b∧Bx w' b t cs∧Gr w w':=
 Hf (v:=v) (fun ρ _=>by simp[execOp,Instr.alloc,hz w,newVar,newRow,go_sem]) hc
def eF (cs:List Value)(off:Nat)(vs:List Value):List Value:=cs.take off++vs++cs.drop (off+vs.length)
theorem S0 (cs:List Value)(off:Nat):eF cs off []=cs:=by simp[eF]
theorem Jr (cs:List Value)(off:Nat)(v:Value)(vs:List Value)(h:off+(v::vs).length≤cs.length):eF (cs.set off v) (off+1) vs=eF cs off (v::vs):=by
 simp only[List.length_cons] at h;unfold eF
 have e1:(cs.set off v).take (off+1)=cs.take off++[v]:=by
  rw[List.take_set,List.take_succ_eq_append_getElem (by omega),List.set_append_right _ _ (by simp;omega)];have:off-(cs.take off).length=0:=by simp;omega
  rw[this];rfl
 have e2:(cs.set off v).drop (off+1+vs.length)=cs.drop (off+(v::vs).length):=by
  rw[List.drop_set_of_lt (by omega)];congr 1;simp;omega
 rw[e1,e2];simp
theorem Jc {b' off:Nat}{tb:TypeId}:∀ (vs:List Value) (i:Nat) (w:World) (cs:List Value),(∀ v∈vs,v.oneCell'=true)→Bx w b' tb cs→off+i+vs.length≤cs.length→
 ∃ w',(storeCells ⟨b',off,none⟩ vs i).run P w=.ok () w'∧Bx w' b' tb (eF cs (off+i) vs)∧Md b' w w'
 | [],i,w,cs,_,hb,_=>⟨w,rfl,by rw[S0];exact hb,Md.refl _ _⟩
 | v::vs,i,w,cs,h1,hb,hl=>by
  obtain⟨hm,hb'⟩:=Md.of_setCell hb (off+i) v;obtain⟨w',hr,hb2,hm2⟩:=Jc (off:=off) vs (i+1) _ _ (fun u hu=>h1 u (List.mem_cons_of_mem _ hu)) hb' (by simp at hl ⊢;omega);refine⟨w',?_,?_,hm.trans hm2⟩
  · unfold storeCells;have eD:off+i<cs.length:=by simp at hl;omega
    have hc:w.cell? ⟨b',off+i,none⟩=some cs[off+i]:=by rw[hb.cell];simp[eD]
    have hfz:w.frozen? ⟨b',off+i,none⟩=false:=frozen_of_row w b' (off+i) _ tb hb;have hs:=run_store P w ⟨b',off+i,none⟩ v .plain (h1 v (by simp));rw[Addr.add_lit];simp only[Sem.run_bind,hs,hc,hfz];simpa[Result.andThen] using hr
  · have e:off+i+1=off+(i+1):=by omega
    rw[←Jr cs (off+i) v vs (by simpa[Nat.add_assoc] using hl),e];exact hb2
def oneB:Value→Bool
 | .agg _=>false
 | .tuple _=>false
 | _=>true
def cZ:List Value→Bool
 | []=>true
 | v::r=>bif oneB v then cZ r else false
theorem Zg:∀ {vs:List Value},cZ vs=true→∀ v∈vs,v.oneCell'=true
 | [],_,v,hv=>by cases hv
 | u::r,h,v,hv=>by
  unfold cZ at h
  cases e:oneB u with
  | false=>rw[e] at h;cases h
  | true=>
   rw[e] at h;rcases List.mem_cons.1 hv with rfl|hv
   · cases v<;>first|rfl|(cases e)
   · exact Zg h v hv
theorem W9 {b' off m:Nat}{tb:TypeId}{v:Value}{cs vs:List Value}(hs:fO P t m)(hx:ev L x=some (.pointer (some ⟨b',off,none⟩)))(hy:ev L y=some v)(hc:v.cells=vs.toArray)(hm:vs.length=m)(h1:cZ vs=true)(hb:Bx w b' tb cs)(hl:Nat.ble (off+m) cs.length=true):
 EV P L ⟨dst,.store t x y,ty,pos,af,gu⟩ w fun _ w'=>Bx w' b' tb (eF cs off vs)∧Md b' w w':=fun ρ hρ=>by
 have hl':=Nat.le_of_ble_eq_true hl;obtain⟨w',hr,h2,h3⟩:=Jc (P:=P) (off:=off) vs 0 w cs (Zg h1) hb (by simp;omega);refine .skip w' (Ai ?_) ⟨h2,h3⟩;rw[hρ _ _ hx,hρ _ _ hy];simp[Instr.storeAt,Instr.sureAddr,storeVar,hs w,hc,hm,hr]
theorem kQ {b' m:Nat}{tb:TypeId}{v:Value}{cs vs:List Value}(hs:fO P t m)(hx:ev L x=some (.pointer (some ⟨b',0,none⟩)))(hy:ev L y=some v)(hc:v.cells=vs.toArray)(hm:vs.length=m)(h1:cZ vs=true)(hb:Bx w b' tb cs)(hl:cs.length=m):
 EV P L ⟨dst,.store t x y,ty,pos,af,gu⟩ w fun _ w'=>Bx w' b' tb vs∧Md b' w w':=by
 refine(W9 hs hx hy hc hm h1 hb (by simp[hl])).mono ?_;rintro _ w' ⟨h2,h3⟩;have:eF cs 0 vs=vs:=by simp[eF,hm,hl]
 rw[this] at h2;exact⟨h2,h3⟩
theorem uY {b' off:Nat}{tb:TypeId}{v:Value}{cs:List Value}(hs:fO P t 1)(hx:ev L x=some (.pointer (some ⟨b',off,none⟩)))(hy:ev L y=some v)(h1:oneB v=true)(hb:Bx w b' tb cs)(hl:off<cs.length):
 EV P L ⟨dst,.store t x y,ty,pos,af,gu⟩ w fun _ w'=>Bx w' b' tb (cs.set off v)∧Md b' w w':=by
 have hc:v.cells=[v].toArray:=by cases v<;>first|rfl|(cases h1)
 refine(W9 (vs:=[v]) hs hx hy hc rfl (by simp[cZ,h1]) hb (by simp;omega)).mono ?_;rintro _ w' ⟨h2,h3⟩;refine⟨?_,h3⟩;have:=Jr cs off v [] (by simp;omega);rw[S0] at this;rw[this];exact h2
def kZ (pl:Nat→Option (Nat × Nat)):List Value→List (Nat × Value)→Option (List Value)
 | z,[]=>some z
 | z,(i,v)::r=>match pl i with
  | none=>none
  | some (off,size)=>if v.cells.size=size∧off+size≤z.length then kZ pl (eF z off v.cells.toList) r else none
theorem Hq (off:Nat):∀ (vs:List Value) (k:Nat) (z:List Value),off+k+vs.length≤z.length→
 (vs.zipIdx k).foldl (fun(cs:Array Value) (x:Value × Nat)=>cs.setIfInBounds (off+x.2) x.1) z.toArray=(eF z (off+k) vs).toArray
 | [],k,z,_=>by simp[S0]
 | v::vs,k,z,h=>by
  simp only[List.zipIdx_cons,List.foldl_cons];have e:z.toArray.setIfInBounds (off+k) v=(z.set (off+k) v).toArray:=by simp
  rw[e,Hq off vs (k+1) (z.set (off+k) v) (by simp at h ⊢;omega)];have:=Jr z (off+k) v vs (by simpa[Nat.add_assoc] using h);rw[←this,Nat.add_assoc]
theorem H6 {pl:Nat→Option (Nat × Nat)}:∀ (parts:List (Nat × Value)) (z cs:List Value),kZ pl z parts=some cs→Instr.fill pl z.toArray parts=some cs.toArray
 | [],z,cs,h=>by simp[kZ] at h;subst h;rfl
 | (i,v)::r,z,cs,h=>by
  unfold kZ at h;unfold Instr.fill
  split at h
  · cases h
  · rename_i off size e;rw[e];by_cases hc:v.cells.size=size∧off+size≤z.length
    · rw[if_pos hc] at h;have h1:(v.cells.size≠size||off+v.cells.size>z.toArray.size)=false:=by simp;omega
      simp only[h1,Bool.false_eq_true,if_false]
      have h2:v.cells.zipIdx.foldl (fun(cs:Array Value) (x:Value × Nat)=>cs.setIfInBounds (off+x.2) x.1) z.toArray=(eF z off v.cells.toList).toArray:=by
       have:=Hq off v.cells.toList 0 z (by simp;omega);rw[←Array.foldl_toList,Array.toList_zipIdx];simpa using this
      rw[h2];exact H6 r _ cs h
    · rw[if_neg hc] at h;cases h
def BS (P:Program)(t:TypeId)(pl:Nat→Option (Nat × Nat))(z:List Value):Prop:=∀ (parts:Array (Nat × Value)) w cells, Instr.fill pl z.toArray parts.toList=some cells→(Instr.build t parts).run P w=
 (pure (.agg cells) : Sem Value).run P w
def rS (L:Slots):List (Nat × Operand)→Option (List (Nat × Value))
 | []=>some []
 | (i,x)::r=>match ev L x,rS L r with
  | some v,some vs=>some ((i,v)::vs)
  | _,_=>none
theorem lF.mapP {ρ:Operand→Value}(h:lF L ρ):∀ {l:List (Nat × Operand)} {vs:List (Nat × Value)},rS L l=some vs→l.map (fun x=>(x.1,ρ x.2))=vs
 | [],vs,e=>by cases e;rfl
 | (i,x)::r,vs,e=>by
  unfold rS at e
  split at e
  · rename_i v vs' h1 h2;cases e;rw[List.map_cons,h _ _ h1,h.mapP h2]
  · cases e
theorem cK {pl:Nat→Option (Nat × Nat)}{z cs:List Value}{parts:Array (Nat × Operand)}{vs:List (Nat × Value)}(hb:BS P t pl z)(hp:rS L parts.toList=some vs)(hf:kZ pl z vs=some cs):
 VV P L ⟨dst,.build t parts,ty,pos,af,gu⟩ w (.agg cs.toArray):=fun ρ hρ=>by
 have e:(parts.map fun(x:Nat × Operand)=>(x.1,ρ x.2))=vs.toArray:=by rw[←hρ.mapP hp,←Array.toList_map]
 refine iH ?_;show(Instr.build t (parts.map fun(x:Nat × Operand)=>(x.1,ρ x.2))).run P w=_;rw [e,hb _ _ _ (H6 vs z cs hf)];rfl
theorem hM {f:Nat}{aas:Array Operand}{at_:Array TypeId}{vs:List Value}{R:Value→World→Prop}(hen:En P f)(hargs:lO L aas.toList=some vs)
 (hc:Calls P f vs.toArray w fun e w'=>∃ v,e=.returned v∧R v w'):EV P L ⟨dst,.call { callee:=.value (.func f),args:=aas,argTypes:=at_ },ty,pos,af,gu⟩ w R:=fun ρ hρ=>by
 refine .call f vs.toArray w ?_ hc;have h0:ρ (.func f)=.func (.func f) #[] #[]:=hρ _ _ rfl;simp[execOp,resolve,hρ.mapA hargs,h0,Deferred.ofValue,invoke,go_sem];exact hen _ _
theorem fZ {f:Nat}{fs cap:List Value}{aas:Array Operand}{at_:Array TypeId}{vs:List Value}{R:Value→World→Prop}(hen:En P f)(hx:ev L x=some (.func (.func f) fs.toArray cap.toArray))(hargs:lO L aas.toList=some vs)
 (hc:Calls P f (fs++vs++cap).toArray w fun e w'=>∃ v,e=.returned v∧R v w'):EV P L ⟨dst,.call { callee:=.value x,args:=aas,argTypes:=at_ },ty,pos,af,gu⟩ w R:=fun ρ hρ=>by
 refine .call f (fs++vs++cap).toArray w ?_ hc;simp[execOp,resolve,hρ.mapA hargs,hρ _ _ hx,Deferred.ofValue,invoke,go_sem];simpa[List.append_assoc] using hen (fs++vs++cap).toArray w
theorem Gk {o':Option Addr}{len cap:Nat}{e:TypeId}(hu:P.underlying t=some (.slice e))(hx:ev L x=some (.slice o' len cap)):VV P L ⟨dst,.call { callee:=.builtin .len,args := #[x],argTypes := #[t] },ty,pos,af,gu⟩ w (.int .i64 len):=fun ρ hρ=>by
 simp[hρ _ _ hx,Builtin.len_,run_underlying hu,goInt,go_sem]
end
section
variable {P:Program} {fn:Func} {L:Slots} {w:World}
theorem mH {t:Nat}{v:Value}(h:fn.results = #[.tmp t])(hv:lk t L=some v):qD P fn L w v:=fun n D a ha=>by
 have:=ha.get t v hv;rw[results_tmp h,Array.getD_eq_getD_getElem?,this];rfl
theorem pO {t b m:Nat}{ty tb:TypeId}{cs:List Value}(h:fn.results = #[.cell t ty])(h1:eG P ty m)(hv:lk t L=some (.pointer (some ⟨b,0,none⟩)))(hb:Bx w b tb cs)(hl:cs.length=m):qD P fn L w (.agg cs.toArray):=fun n D a ha=>by
 have hc:(loadCells ⟨b,0,none⟩ cs.length).run P w=.ok cs.toArray w:=run_loadCells_list w _ _ (fun j v hj=>by rw[Addr.add_lit,hb.cell,Nat.zero_add];exact hj);rw[hl] at hc;have:=ha.get t _ hv;simp[results,h,this,asAddr,loadVar,(h1 w).1,(h1 w).2,hc]
theorem jT (h:fn.results = #[]):qD P fn L w (.tuple #[]):=fun _ _ _ _=>results_none h _ _ _
end
end Go.Sx

end
section
namespace Go.Sx
open Go Go.RowKit
structure qH (w w':World):Prop where
 os:w'.os=w.os
 tape:w'.tape=w.tape
 output:w'.output=w.output
 size:w.heap.size≤w'.heap.size
theorem Kp.env {ms:List Nat}{w w':World}(h:Kp ms w w'):qH w w':=⟨h.os,h.tape,h.output,h.size⟩
theorem Kp.trans {ms ms':List Nat}{w w₁ w₂:World}(h:Kp ms w w₁)(k:Kp ms' w₁ w₂)(hm:∀ b∈ms',b∈ms∨w.heap.size≤b):Kp ms w w₂:=
 ⟨k.os.trans h.os,k.tape.trans h.tape,k.output.trans h.output,Nat.le_trans h.size k.size,fun b hb hn=>(k.block b (Nat.lt_of_lt_of_le hb h.size) (fun hb'=>by
  rcases hm b hb' with h1|h1
  · exact hn h1
  · omega)).trans (h.block b hb hn)⟩
theorem Kp.mono {ms ms':List Nat}{w w':World}(h:Kp ms w w')(hs:∀ b∈ms,b∈ms'):Kp ms' w w':=⟨h.os,h.tape,h.output,h.size,fun k hk hn=>h.block k hk fun hm=>hn (hs k hm)⟩
theorem Gr.toKp {ms:List Nat}{w w':World}(h:Gr w w'):Kp ms w w':=⟨h.os,h.tape,h.output,h.size,fun k hk _=>h.block k hk⟩
theorem Md.put {w:World}(l:Nat)(o:Obj):Md l w (w.putObj l o):=⟨rfl,rfl,rfl,by simp,fun _ hk=>World.putObj_heap_other hk⟩
structure iE (J:Nat→List Nat→World→Prop):Prop where
 lt:∀ {k fp W},J k fp W→∀ b∈fp,b<W.heap.size
 keep:∀ {k fp W W'},J k fp W→qH W W'→(∀ b∈fp,W'.heap[b]? = W.heap[b]?)→J k fp W'
theorem iE.gr {J:Nat→List Nat→World→Prop}(hJ:iE J){k:Nat}{f:List Nat}{W W':World}(h:J k f W)(g:Gr W W'):J k f W':=hJ.keep h ⟨g.os,g.tape,g.output,g.size⟩ fun b hb=>g.block b (hJ.lt h b hb)
theorem iE.md {J:Nat→List Nat→World→Prop}(hJ:iE J){k b:Nat}{f:List Nat}{W W':World}(h:J k f W)(m:Md b W W')(hb:b∉f):J k f W':=hJ.keep h ⟨m.os,m.tape,m.output,by rw[m.size];exact Nat.le_refl _⟩ fun c hc=>m.block c (by rintro rfl;exact hb hc)
theorem eH {f f':List Nat}{s b:Nat}(hF:∀ c∈f',c∈f∨s≤c)(h:b∉f)(eD:b<s):b∉f':=fun hb=>by
 rcases hF b hb with h1|h1
 · exact h h1
 · omega
theorem nY {fp f f':List Nat}{s0 s1:Nat}(hf:∀ c∈f,c∈fp∨s0≤c)(hF:∀ c∈f',c∈f∨s1≤c)(hs:s0≤s1):∀ c∈f',c∈fp∨s0≤c:=fun c hc=>by
 rcases hF c hc with h|h
 · exact hf c h
 · exact .inr (by omega)
theorem Tq (b:Nat)(t:TypeId)(f:Nat→List Value):iE fun k fp W=>fp=[b]∧Bx W b t (f k):=
 ⟨fun⟨h1,h2⟩ c hc=>by subst h1;simp at hc;subst hc;exact h2.lt,fun⟨h1,h2⟩ _ hs=>⟨h1,(hs _ (by rw[h1];simp)).trans h2⟩⟩
theorem map_some {α β:Type}{l:List α}{c:α→β}{k:Nat}{y:β}(h:(l.map c)[k]? = some y):∃ x,l[k]? = some x∧c x=y:=by simpa using h
theorem xI:iE fun _ _ _=>False:=⟨fun h=>h.elim,fun h=>h.elim⟩
def Df (w:World)(b:Nat):Prop:=w.heap[b]? = some (.deferred (some []))
theorem Df.lt {w:World}{b:Nat}(h:Df w b):b<w.heap.size:=(Array.getElem?_eq_some_iff.1 h).1
theorem Df.gr {w w':World}{b:Nat}(h:Df w b)(g:Gr w w'):Df w' b:=(g.block b h.lt).trans h
theorem Df.md {w w':World}{b c:Nat}(h:Df w c)(m:Md b w w')(ne:c≠b:=by omega):Df w' c:=(m.block c ne).trans h
theorem Df.kp {ms:List Nat}{w w':World}{b:Nat}(h:Df w b)(g:Kp ms w w')(hn:b∉ms):Df w' b:=(g.block b h.lt hn).trans h
def YD (P:Program)(l:Nat)(vs:List Value)(W:World)(R:Bool→World→Prop):Prop:=
 ∃ f tmps assign body,(Instr.yield l vs.toArray).run P W=.ok (.round l f tmps assign body) W∧RoundIn Fence.wide 0 P l f tmps assign body W fun e W'=>∃ b,e=.returned (.bool b)∧R b W'
def Kl (J Jx:Nat→List Nat→World→Prop)(k:Nat)(fp:List Nat)(W:World)(b:Bool)(W':World):Prop:=
 Kp fp W W'∧∃ fp',(∀ c∈fp',c∈fp∨W.heap.size≤c)∧(bif b then J (k+1) fp' W' else Jx (k+1) fp' W')
def IT (P:Program)(g:Nat)(lb:List Value)(xs:List (List Value))(cap:List Nat)(w:World):Prop:=
 ∀ (l:Nat) (J Jx:Nat→List Nat→World→Prop) (W:World) (fp:List Nat),Gr w W→iE J→iE Jx→(∀ b∈cap,b∉fp)→J 0 fp W→
  (∀ k x fp' W1,xs[k]? = some x→J k fp' W1→Kp fp W W1→(∀ c∈fp',c∈fp∨W.heap.size≤c)→YD P l x W1 (Kl J Jx k fp' W1))→
  Calls P g (Value.func (.yield l) #[] #[]::lb).toArray W fun e W'=>∃ v,e=.returned v∧Kp fp W W'∧((∃ fp',(∀ c∈fp',c∈fp∨W.heap.size≤c)∧J xs.length fp' W')∨(∃ k fp',(∀ c∈fp',c∈fp∨W.heap.size≤c)∧k≤xs.length∧Jx k fp' W'))
section
variable {P:Program} {L:Slots} {w:World} {dst:Option Nat} {ty:TypeId} {pos:String} {af:Array Edge} {gu:Option (Nat × Bool)}
theorem uW {x:Operand}{l:Nat}{aas:Array Operand}{at_:Array TypeId}{vs:List Value}{R:Bool→World→Prop}(hx:ev L x=some (.func (.yield l) #[] #[]))(hargs:lO L aas.toList=some vs)
 (hy:YD P l vs w R):EV P L ⟨dst,.call { callee:=.value x,args:=aas,argTypes:=at_ },ty,pos,af,gu⟩ w fun v w'=>∃ b,v=.bool b∧R b w':=fun ρ hρ=>by
 obtain⟨f,tmps,assign,body,hrun,hR⟩:=hy;refine .round l f tmps assign body w ?_ (hR.mono ?_)
 · simp only[execOp,resolve,hρ.mapA hargs,hρ _ _ hx,Deferred.ofValue,Sem.run_bind,Sem.run_pure,Result.andThen,invoke];simpa using hrun
 · rintro e w' ⟨b,rfl,hb⟩;exact⟨_,rfl,b,rfl,hb⟩
end
def sW:List Nat→List Value→Slots→Slots
 | p::ps,v::vs,L=>sW ps vs ((p,v)::L)
 | _,_,L=>L
theorem dB.ps {n:Nat}:∀ (ps:List Nat) (vs:List Value) (D:List Deferred) (L:Slots) (a:Act),dB n D L a→(∀ p∈ps,p<n)→
 dB n [] (sW ps vs L) { tmps:=(ps.zip vs).foldl (fun t (x:Nat × Value)=>t.setIfInBounds x.1 x.2) a.tmps,defers:=[] }
 | [],vs,D,L,a,h,_=>⟨by simpa using h.size,rfl,by simpa[sW] using h.get⟩
 | p::ps,[],D,L,a,h,_=>⟨by simpa using h.size,rfl,by simpa[sW] using h.get⟩
 | p::ps,v::vs,D,L,a,h,hp=>by
  have h1:=h.put (d:=some p) (v:=v) (by simpa[fL] using hp p (by simp));have:=dB.ps ps vs D _ _ h1 (fun q hq=>hp q (by simp[hq]));simpa[sW,cA,Act.put] using this
def Ac (I:Nat→List Nat→World→Prop)(Ix:Code→Nat→List Nat→World→Prop)(k:Nat)(fp:List Nat)(W:World):Exit→List Deferred→Slots→World→Prop
 | .normal,_,_,W'=>Kp fp W W'∧∃ fp',(∀ c∈fp',c∈fp∨W.heap.size≤c)∧I (k+1) fp' W'
 | .ret,_,_,W'=>Kp fp W W'∧∃ fp',(∀ c∈fp',c∈fp∨W.heap.size≤c)∧Ix .ret (k+1) fp' W'
 | .exit id,_,_,W'=>Kp fp W W'∧∃ fp',(∀ c∈fp',c∈fp∨W.heap.size≤c)∧Ix (.exit id) (k+1) fp' W'
 | _,_,_,_=>False
def Ni (P:Program)(n l:Nat)(body:Code)(I:Nat→List Nat→World→Prop)(Ix:Code→Nat→List Nat→World→Prop)(k:Nat)(fp:List Nat)(W:World):Exit→List Deferred→Slots→World→Prop
 | .normal,D1,L1,W1=>D1=[]∧Gr W W1∧∀ W2,Md l W1 W2→I k fp W2→SW P (some l) n body (Ac I Ix k fp W2) [] L1 W2
 | _,_,_,_=>False
theorem sF {P:Program}{n:Nat}{g:Operand}{ps:Array Tmp}{assign body:Code}{Q:Exit→List Deferred→Slots→World→Prop}{D:List Deferred}{L:Slots}{w:World}
 {gf:Nat} {lb:List Value} (hg:ev L g=some (.func (.func gf) #[] lb.toArray)) (hen:En P gf) {xs:List (List Value)} {cap:List Nat} (hit:IT P gf lb xs cap w)
 (hps:∀ x∈xs,x.length=ps.toList.length) (hpn:ps.toList.all (fun p=>Nat.blt p n)=true)
 (I:Nat→List Nat→World→Prop) (Ix:Code→Nat→List Nat→World→Prop) (fp0:List Nat) (hI:iE I) (hIx:∀ c,iE (Ix c)) (hcap:∀ b∈cap,b∉fp0∧b<w.heap.size) (h0:I 0 fp0 w)
 (hround:∀ (l k:Nat) (x:List Value) (fp:List Nat) (W:World),w.heap.size≤l→xs[k]? = some x→I k fp W→Kp fp0 w W→(∀ b∈fp,b∈fp0∨w.heap.size≤b)→l∉fp→l<W.heap.size→
  SW P (some l) n assign (Ni P n l body I Ix k fp W) [] (sW ps.toList x L) W)
 (hdone:∀ (D0:Nat) (fp:List Nat) (W:World),w.heap.size≤D0→W.heap[D0]? = some (.deferred (some []))→D0∉fp→I xs.length fp W→Kp fp0 w W→Q .normal (⟨.collected D0,#[]⟩::D) L W)
 (hstop:∀ (D0:Nat) (c:Code) (k:Nat) (fp:List Nat) (W:World),w.heap.size≤D0→W.heap[D0]? = some (.deferred (some []))→D0∉fp→k≤xs.length→Ix c k fp W→Kp fp0 w W→SW P none n c Q (⟨.collected D0,#[]⟩::D) L W):
 SW P none n (.rangeFunc g ps assign body) Q D L w:=by
 intro a ha;refine wpIn_rangeFunc ?_;intro fn _;have hgv:a.eval g=.func (.func gf) #[] lb.toArray:=ha.cons _ _ hg;obtain⟨rec,hrec⟩:∃ rec:LoopState→Option Code→Loop,rec=fun st pe=>{ state:=st,pending:=pe,fn,tmps:=a.tmps,params:=ps,assign,body,defers:=w.heap.size }:=⟨_,rfl⟩;obtain⟨W1,hW1⟩:∃ W1,(w.alloc (.deferred (some []))).alloc (.loop (rec .ready none))=W1:=⟨_,rfl⟩
 have hL1:W1.heap[w.heap.size+1]? = some (.loop (rec .ready none)):=by
  rw[←hW1];have:=World.alloc_heap_new (w.alloc (.deferred (some []))) (.loop (rec .ready none));rwa[World.size_alloc] at this
 have hK1:W1.heap[w.heap.size]? = some (.deferred (some [])):=by
  rw[←hW1];exact(Below.heap_alloc _ _ _ (by simp)).trans (World.alloc_heap_new w _)
 have hG1:Gr w W1:=by rw[←hW1];exact((Below.refl _ w).alloc (Nat.le_refl _) _).alloc (by simp) _
 have hI1:I 0 fp0 W1:=hI.keep h0 ⟨hG1.os,hG1.tape,hG1.output,hG1.size⟩ (fun b hb=>hG1.block b (hI.lt h0 b hb));have hfl:∀ b∈fp0,b<w.heap.size:=hI.lt h0;have hWs:W1.heap.size=w.heap.size+2:=by rw[←hW1];simp
 refine⟨w.heap.size+1,[{ target:=.collected w.heap.size,args := #[] }],W1,{ target:=.fn (.func gf) lb.toArray,args := #[.func (.yield (w.heap.size+1)) #[] #[]] },W1,gf,
  #[.func (.yield (w.heap.size+1)) #[] #[]]++lb.toArray,W1,?_,?_,?_,?_,fun h=>(by cases h),?_⟩
 · rw[←hW1,hrec];exact run_enterLoop_outer _ _ _ _ _
 · simp only[resolve,hgv];simp[go_sem]
 · intro f' _;trivial
 · simp only[invoke];exact hen _ _
 have hE:∀ (l:Nat) (o:Obj) (W:World),qH W (W.putObj l o):=fun l o W=>⟨rfl,rfl,rfl,by simp⟩;refine Vh ?_;have hargs : #[Value.func (.yield (w.heap.size+1)) #[] #[]]++lb.toArray=(Value.func (.yield (w.heap.size+1)) #[] #[]::lb).toArray:=by simp
 rw[hargs];have hfw:∀ b∈fp0,b≠w.heap.size∧b≠w.heap.size+1:=fun b hb=>by have:=hfl b hb;omega
 have hw1:∀ {W:World},Kp (w.heap.size::(w.heap.size+1)::fp0) W1 W→Kp fp0 w W:=fun {W} h=>by
  refine⟨h.os.trans hG1.os,h.tape.trans hG1.tape,h.output.trans hG1.output,Nat.le_trans hG1.size h.size,fun b hb hn=>?_⟩;refine(h.block b (Nat.lt_of_lt_of_le hb hG1.size) ?_).trans (hG1.block b hb);simp only[List.mem_cons,not_or];exact⟨by omega,by omega,hn⟩
 refine(hit (w.heap.size+1)
  (fun k fp W=>∃ fi,fp=w.heap.size::(w.heap.size+1)::fi∧I k fi W∧w.heap.size∉fi∧w.heap.size+1∉fi∧W.heap[w.heap.size+1]? = some (.loop (rec .ready none))∧W.heap[w.heap.size]? = some (.deferred (some [])))
  (fun k fp W=>∃ fi,fp=w.heap.size::(w.heap.size+1)::fi∧∃ c,Ix c k fi W∧w.heap.size∉fi∧w.heap.size+1∉fi∧W.heap[w.heap.size+1]? = some (.loop (rec .done (some c)))∧W.heap[w.heap.size]? = some (.deferred (some [])))
  W1 (w.heap.size::(w.heap.size+1)::fp0) hG1 ?_ ?_ ?_ ⟨fp0,rfl,hI1,fun h=>(hfw _ h).1 rfl,fun h=>(hfw _ h).2 rfl,hL1,hK1⟩ ?_).mono ?_
 · constructor
   · rintro k fp W ⟨fi,rfl,hi,_,_,hl,hd⟩ b hb;simp only[List.mem_cons] at hb;rcases hb with rfl|rfl|hb
     · exact(Array.getElem?_eq_some_iff.1 hd).1
     · exact(Array.getElem?_eq_some_iff.1 hl).1
     · exact hI.lt hi b hb
   · rintro k fp W W' ⟨fi,rfl,hi,h1,h2,hl,hd⟩ he hs;exact⟨fi,rfl,hI.keep hi he (fun b hb=>hs b (by simp[hb])),h1,h2,(hs _ (by simp)).trans hl,(hs _ (by simp)).trans hd⟩
 · constructor
   · rintro k fp W ⟨fi,rfl,c,hi,_,_,hl,hd⟩ b hb;simp only[List.mem_cons] at hb;rcases hb with rfl|rfl|hb
     · exact(Array.getElem?_eq_some_iff.1 hd).1
     · exact(Array.getElem?_eq_some_iff.1 hl).1
     · exact(hIx c).lt hi b hb
   · rintro k fp W W' ⟨fi,rfl,c,hi,h1,h2,hl,hd⟩ he hs;exact⟨fi,rfl,c,(hIx c).keep hi he (fun b hb=>hs b (by simp[hb])),h1,h2,(hs _ (by simp)).trans hl,(hs _ (by simp)).trans hd⟩
 · intro b hb;simp only[List.mem_cons,not_or];have:=(hcap b hb).2;exact⟨by omega,by omega,(hcap b hb).1⟩
 · rintro k x fp' W2 hx ⟨fi,rfl,hi,hn1,hn2,hl,hd⟩ hkp hfp;have hkw:=hw1 hkp;have hlt2:w.heap.size+1<W2.heap.size:=(Array.getElem?_eq_some_iff.1 hl).1;have hxl:x.length=ps.toList.length:=hps x (List.mem_of_getElem? hx);refine⟨fn,(ps.zip x.toArray).foldl (fun tmps (t,a)=>tmps.setIfInBounds t a) a.tmps,assign,body,?_,?_⟩
   · have:=run_yield (P:=P) (w:=W2) (l:=w.heap.size+1) (r:=rec .ready none) (args:=x.toArray) hl (by rw[hrec];simpa using hxl);rw[this,hrec]
   · have hf0:dB n [] (sW ps.toList x L) { tmps:=((ps.zip x.toArray).foldl (fun tmps (t,a)=>tmps.setIfInBounds t a) a.tmps),defers:=[] }:=by
      have:=dB.ps ps.toList x D L a ha (fun p hp=>by have:=List.all_eq_true.1 hpn p hp;simpa using this)
      have e:(ps.zip x.toArray).foldl (fun tmps (t,a)=>tmps.setIfInBounds t a) a.tmps=(ps.toList.zip x).foldl (fun t (x:Nat × Value)=>t.setIfInBounds x.1 x.2) a.tmps:=by
       rw[←Array.foldl_toList,Array.toList_zip]
      rw[e];exact this
     have hr:=hround (w.heap.size+1) k x fi W2 (by omega) hx hi hkw (fun b hb=>by
      rcases hfp b (by simp[hb]) with h|h
      · simp only[List.mem_cons] at h;rcases h with rfl|rfl|h
        · exact(hn1 hb).elim
        · exact(hn2 hb).elim
        · exact .inl h
      · exact .inr (Nat.le_trans hG1.size h)) hn2 hlt2
     refine roundIn_of_wpIn (F:=Fence.wide) trivial ?_;refine wpIn_mono (hr _ hf0) fun e a1 W3 hh=>?_
     cases e with
     | normal=>
      obtain⟨D1,L1,hf1,rfl,hg3,hb⟩:=hh;have hl3:W3.heap[w.heap.size+1]? = some (.loop (rec .ready none)):=(hg3.block _ hlt2).trans hl;refine⟨_,run_beginRound hl3 (by rw[hrec]),?_⟩;have hl4:(W3.putObj (w.heap.size+1) (.loop { rec .ready none with state:=.busy })).heap[w.heap.size+1]? = some (.loop { rec .ready none with state:=.busy }):=World.putObj_heap_same (Array.getElem?_eq_some_iff.1 hl3).1;have hd4:(W3.putObj (w.heap.size+1) (.loop { rec .ready none with state:=.busy })).heap[w.heap.size]? = some (.deferred (some [])):=(World.putObj_heap_other (by omega)).trans ((hg3.block _ (by omega)).trans hd);have hk4:Kp (w.heap.size::(w.heap.size+1)::fi) W2 (W3.putObj (w.heap.size+1) (.loop { rec .ready none with state:=.busy })):=(Gr.toKp hg3).md (Md.put _ _) (.inl (by simp));have hi4:I k fi (W3.putObj (w.heap.size+1) (.loop { rec .ready none with state:=.busy })):=hI.keep hi ⟨hg3.os,hg3.tape,hg3.output,by simpa using hg3.size⟩ (fun b hb=>(World.putObj_heap_other (show b≠w.heap.size+1 from by rintro rfl;exact hn2 hb)).trans (hg3.block b (hI.lt hi b hb)));have hsz4:W2.heap.size≤(W3.putObj (w.heap.size+1) (.loop { rec .ready none with state:=.busy })).heap.size:=hk4.size;have hrb:=hb _ (Md.put _ _) hi4 a1 hf1;generalize W3.putObj (w.heap.size+1) (.loop { rec .ready none with state:=.busy })=W4 at *;refine wpIn_mono hrb fun e a5 W5 hh=>?_
      have fin:∀ (j:Option Code) (fp':List Nat),Kp fi W4 W5→(∀ c∈fp',c∈fi∨W4.heap.size≤c)→
       (∀ W6,qH W5 W6→(∀ b∈fp',W6.heap[b]? = W5.heap[b]?)→W6.heap[w.heap.size+1]? = some (.loop { rec .ready none with state:=if j.isNone then .ready else .done,pending:=j })→W6.heap[w.heap.size]? = some (.deferred (some []))→
        (bif j.isNone then(∃ fi',w.heap.size::(w.heap.size+1)::fp'=w.heap.size::(w.heap.size+1)::fi'∧I (k+1) fi' W6∧w.heap.size∉fi'∧w.heap.size+1∉fi'∧W6.heap[w.heap.size+1]? = some (.loop (rec .ready none))∧W6.heap[w.heap.size]? = some (.deferred (some [])))
         else ∃ fi',w.heap.size::(w.heap.size+1)::fp'=w.heap.size::(w.heap.size+1)::fi'∧∃ c,Ix c (k+1) fi' W6∧w.heap.size∉fi'∧w.heap.size+1∉fi'∧W6.heap[w.heap.size+1]? = some (.loop (rec .done (some c)))∧W6.heap[w.heap.size]? = some (.deferred (some []))))→
       ∃ v w',(Instr.endRound (w.heap.size+1) j).run P W5=.ok v w'∧∃ b,Ending.returned v=.returned (.bool b)∧
        Kl (fun k fp W=>∃ fi,fp=w.heap.size::(w.heap.size+1)::fi∧I k fi W∧w.heap.size∉fi∧w.heap.size+1∉fi∧W.heap[w.heap.size+1]? = some (.loop (rec .ready none))∧W.heap[w.heap.size]? = some (.deferred (some [])))
         (fun k fp W=>∃ fi,fp=w.heap.size::(w.heap.size+1)::fi∧∃ c,Ix c k fi W∧w.heap.size∉fi∧w.heap.size+1∉fi∧W.heap[w.heap.size+1]? = some (.loop (rec .done (some c)))∧W.heap[w.heap.size]? = some (.deferred (some [])))
         k (w.heap.size::(w.heap.size+1)::fi) W2 b w':=by
       intro j fp' hk5 hfp' hcl;have hl5:W5.heap[w.heap.size+1]? = some (.loop { rec .ready none with state:=.busy }):=(hk5.block _ (Array.getElem?_eq_some_iff.1 hl4).1 hn2).trans hl4;have hd5:W5.heap[w.heap.size]? = some (.deferred (some [])):=(hk5.block _ (Array.getElem?_eq_some_iff.1 hd4).1 hn1).trans hd4
       have hnf:∀ c∈fp',c≠w.heap.size∧c≠w.heap.size+1:=fun c hc=>by
        rcases hfp' c hc with h|h
        · exact⟨fun e=>hn1 (e ▸ h),fun e=>hn2 (e ▸ h)⟩
        · omega
       refine⟨_,_,run_endRound j hl5,j.isNone,rfl,?_,w.heap.size::(w.heap.size+1)::fp',?_,?_⟩
       · refine Kp.md (Kp.trans hk4 (hk5.mono fun b hb=>by simp[hb]) (fun b hb=>.inl hb)) (Md.put _ _) (.inl (by simp))
       · intro c hc;simp only[List.mem_cons] at hc ⊢;rcases hc with rfl|rfl|hc
         · exact .inl (.inl rfl)
         · exact .inl (.inr (.inl rfl))
         · rcases hfp' c hc with h|h
           · exact .inl (.inr (.inr h))
           · exact .inr (Nat.le_trans hsz4 h)
       · exact hcl _ (hE _ _ _) (fun b hb=>World.putObj_heap_other (hnf b hb).2) (by rw[World.putObj_heap_same (Array.getElem?_eq_some_iff.1 hl5).1]) ((World.putObj_heap_other (by omega)).trans hd5)
      have nofp:∀ fp':List Nat,(∀ c∈fp',c∈fi∨W4.heap.size≤c)→w.heap.size∉fp'∧w.heap.size+1∉fp':=fun fp' h=>
       ⟨fun hc=>by rcases h _ hc with h|h;exact hn1 h;omega,fun hc=>by rcases h _ hc with h|h;exact hn2 h;omega⟩
      cases e with
      | normal=>
       obtain⟨_,_,_,hk5,fp',hfp',hI5⟩:=hh;exact fin none fp' hk5 hfp' fun W6 he hs hl6 hd6=>⟨fp',rfl,hI.keep hI5 he hs,(nofp fp' hfp').1,(nofp fp' hfp').2,by rw[hl6,hrec];rfl,hd6⟩
      | ret=>
       obtain⟨_,_,_,hk5,fp',hfp',hI5⟩:=hh;exact fin (some .ret) fp' hk5 hfp' fun W6 he hs hl6 hd6=>⟨fp',rfl,.ret,(hIx _).keep hI5 he hs,(nofp fp' hfp').1,(nofp fp' hfp').2,by rw[hl6,hrec];rfl,hd6⟩
      | exit id=>
       obtain⟨_,_,_,hk5,fp',hfp',hI5⟩:=hh;exact fin (some (.exit id)) fp' hk5 hfp' fun W6 he hs hl6 hd6=>⟨fp',rfl,.exit id,(hIx _).keep hI5 he hs,(nofp fp' hfp').1,(nofp fp' hfp').2,by rw[hl6,hrec];rfl,hd6⟩
      | goto t=>obtain⟨_,_,_,h⟩:=hh;exact h.elim
      | panic c=>exact hh.elim
      | outgrown=>exact hh.elim
     | exit id=>obtain⟨_,_,_,h⟩:=hh;exact h.elim
     | goto t=>obtain⟨_,_,_,h⟩:=hh;exact h.elim
     | ret=>obtain⟨_,_,_,h⟩:=hh;exact h.elim
     | panic c=>exact hh.elim
     | outgrown=>exact hh.elim
 · rintro e W' ⟨v,rfl,hkp,hh⟩;have hkw:=hw1 hkp;have hmk:∀ (W:World),dB n ({ target:=.collected w.heap.size,args := #[] }::D) L { a with defers:=[{ target:=.collected w.heap.size,args := #[] }]++a.defers }:=fun _=>⟨ha.size,by rw[ha.defers];rfl,ha.get⟩;rcases hh with⟨fp',_,fi,rfl,hi,hn1,hn2,hl,hd⟩|⟨k,fp',_,hk,fi,rfl,c,hi,hn1,hn2,hl,hd⟩
   · refine⟨_,_,run_endLoop hl (by rw[hrec];simp),?_⟩;rw[hrec];refine⟨_,L,hmk W',hdone w.heap.size fi _ (Nat.le_refl _) ((World.putObj_heap_other (by omega)).trans hd) hn1 (hI.keep hi (hE _ _ _) (fun b hb=>World.putObj_heap_other (show b≠w.heap.size+1 from by rintro rfl;exact hn2 hb))) (hkw.md (Md.put _ _) (.inr (by omega)))⟩
   · refine⟨_,_,run_endLoop hl (by rw[hrec];simp),?_⟩;rw[hrec];exact hstop w.heap.size c k fi _ (Nat.le_refl _) ((World.putObj_heap_other (by omega)).trans hd) hn1 hk ((hIx c).keep hi (hE _ _ _) (fun b hb=>World.putObj_heap_other (show b≠w.heap.size+1 from by rintro rfl;exact hn2 hb))) (hkw.md (Md.put _ _) (.inr (by omega))) _ (hmk W')
end Go.Sx

end
section
namespace Go.Sx
open Go Go.RowKit
structure Ka (z g:Nat)(w w':World):Prop where
 os:w'.os=w.os
 tape:w'.tape=w.tape
 output:w'.output=w.output
 size:w.heap.size≤w'.heap.size
 block:∀ k,k<w.heap.size→(z=0∨k≠g)→w'.heap[k]? = w.heap[k]?
section
variable {w w' w₁ w₂:World} {z g b:Nat} {t:TypeId} {cs:List Value} {ms:List Nat}
theorem Bx.ka (h:Bx w b t cs)(a:Ka z g w w')(hn:z=0∨b≠g:=by omega):Bx w' b t cs:=(a.block b h.lt hn).trans h
theorem Gr.ka (h:Gr w w₁)(a:Ka z g w₁ w₂)(hg:z=0∨w.heap.size≤g:=by omega):Gr w w₂:=
 ⟨a.os.trans h.os,a.tape.trans h.tape,a.output.trans h.output,Nat.le_trans h.size a.size,fun k hk=>(a.block k (Nat.lt_of_lt_of_le hk h.size) (by omega)).trans (h.block k hk)⟩
theorem Kp.ka (h:Kp ms w w₁)(a:Ka z g w₁ w₂)(hg:z=0∨g∈ms∨w.heap.size≤g:=by(try simp only[dX])<;>omega):Kp ms w w₂:=
 ⟨a.os.trans h.os,a.tape.trans h.tape,a.output.trans h.output,Nat.le_trans h.size a.size,fun k hk hm=>(a.block k (Nat.lt_of_lt_of_le hk h.size) (by
  rcases hg with h0|h0|h0
  · exact .inl h0
  · exact .inr fun e=>hm (e ▸ h0)
  · exact .inr (by omega))).trans (h.block k hk hm)⟩
theorem Ka.env (a:Ka z g w w'):qH w w':=⟨a.os,a.tape,a.output,a.size⟩
theorem Df.ka {D:Nat}(h:w.heap[D]? = some (.deferred (some [])))(a:Ka z g w w')(hn:z=0∨D≠g:=by omega):w'.heap[D]? = some (.deferred (some [])):=(a.block D (Array.getElem?_eq_some_iff.1 h).1 hn).trans h
theorem Ka.refl (z g:Nat)(w:World):Ka z g w w:=⟨rfl,rfl,rfl,Nat.le_refl _,fun _ _ _=>rfl⟩
end
def Ws (sz:Nat)(xs:List (List Value)):Prop:=∀ x∈xs,x.length=sz∧cZ x=true
theorem Gv (sz:Nat):Ws sz []:=fun _ h=>by cases h
theorem Qav {sz:Nat}{x:List Value}{xs:List (List Value)}(h1:x.length=sz)(h2:cZ x=true)(h:Ws sz xs):Ws sz (x::xs):=fun y hy=>by
 rcases List.mem_cons.1 hy with rfl|hy
 · exact⟨h1,h2⟩
 · exact h y hy
theorem R1 {sz:Nat}{xs ys:List (List Value)}(h:Ws sz xs)(k:Ws sz ys):Ws sz (xs++ys):=fun y hy=>by
 rcases List.mem_append.1 hy with hy|hy
 · exact h y hy
 · exact k y hy
theorem fT {sz:Nat}{α:Type}{c:α→List Value}(l:List α)(h1:∀ x,(c x).length=sz)(h2:∀ x,cZ (c x)=true):Ws sz (l.map c):=fun y hy=>by
 obtain⟨x,_,rfl⟩:=List.mem_map.1 hy;exact⟨h1 x,h2 x⟩
theorem Ws.flat {sz:Nat}:∀ {xs:List (List Value)},Ws sz xs→xs.flatten.length=xs.length*sz
 | [],_=>by simp
 | x::xs,h=>by
  rw[List.flatten_cons,List.length_append,(h x (by simp)).1,Ws.flat (fun y hy=>h y (List.mem_cons_of_mem _ hy)),List.length_cons,Nat.add_mul];omega
theorem Ws.one {sz:Nat}{xs:List (List Value)}(h:Ws sz xs):∀ u∈xs.flatten,u.oneCell'=true:=fun u hu=>by
 obtain⟨x,hx,hux⟩:=List.mem_flatten.1 hu;exact Zg (h x hx).2 u hux
theorem Ws.at {sz:Nat}:∀ {xs:List (List Value)} (i q:Nat) (c:List Value),Ws sz xs→xs[i]? = some c→q<sz→xs.flatten[i*sz+q]? = c[q]?
 | [],i,q,c,_,hi,_=>by simp at hi
 | x::xs,0,q,c,h,hi,hq=>by
  simp at hi;subst hi;rw[List.flatten_cons,Nat.zero_mul,Nat.zero_add,List.getElem?_append_left (by rw[(h x (by simp)).1];exact hq)]
 | x::xs,i+1,q,c,h,hi,hq=>by
  simp at hi;have hx:=(h x (by simp)).1;rw[List.flatten_cons,List.getElem?_append_right (by rw[hx,Nat.add_mul];omega)];have e:(i+1)*sz+q-x.length=i*sz+q:=by rw[hx,Nat.add_mul];omega
  rw[e];exact Ws.at i q c (fun y hy=>h y (List.mem_cons_of_mem _ hy)) hi hq
theorem mY {α β:Type}{l:List α}{k:Nat}{x:α}{c:α→β}(h:l[k]? = some x):(l.map c)[k]? = some (c x):=by simp[h]
def aK (w:World)(z g:Nat)(e:TypeId)(sz:Nat)(v:Value)(xs:List (List Value)):Prop:=
 Ws sz xs∧((z=0∧v=.slice none 0 0∧xs=[])∨
  (z=1∧∃ cap cur,v=.slice (some ⟨g,0,none⟩) xs.length cap∧w.heap[g]? = some (.cells cur e (0,0))∧xs.length≤cap∧cap≤maxLen∧cur.size=cap*sz∧cur.toList.take (xs.length*sz)=xs.flatten))
def Rd (w:World)(z g o sz:Nat)(v:Value)(xs:List (List Value)):Prop:=
 Ws sz xs∧((z=0∧xs=[]∧∃ a cap,v=.slice a 0 cap)∨
  (z=1∧∃ cap,v=.slice (some ⟨g,o,none⟩) xs.length cap∧(g<w.heap.size∧xs.length≤cap)∧∀ j u,xs.flatten[j]? = some u→w.cell? ⟨g,o+j,none⟩=some u))
section
variable {w w':World} {z g o sz b z' g':Nat} {e:TypeId} {v:Value} {xs:List (List Value)} {ms:List Nat}
theorem aK.keep (h:aK w z g e sz v xs)(hb:z=0∨(g<w.heap.size→w'.heap[g]? = w.heap[g]?)):aK w' z g e sz v xs:=by
 refine⟨h.1,?_⟩;rcases h.2 with h0|⟨rfl,cap,cur,h1,h2,h3⟩
 · exact .inl h0
 · refine .inr ⟨rfl,cap,cur,h1,?_,h3⟩;rcases hb with hb|hb
   · cases hb
   · rw[hb (Array.getElem?_eq_some_iff.1 h2).1];exact h2
theorem aK.gr (h:aK w z g e sz v xs)(k:Gr w w'):aK w' z g e sz v xs:=h.keep (.inr fun hl=>k.block g hl)
theorem aK.md (h:aK w z g e sz v xs)(k:Md b w w')(hn:z=0∨g≠b:=by omega):aK w' z g e sz v xs:=h.keep (hn.imp id fun hn _=>k.block g hn)
theorem aK.kp (h:aK w z g e sz v xs)(k:Kp ms w w')(hn:z=0∨g∉ms:=by(try simp only[dX])<;>omega):aK w' z g e sz v xs:=h.keep (hn.imp id fun hn hl=>k.block g hl hn)
theorem aK.ka (h:aK w z g e sz v xs)(k:Ka z' g' w w')(hn:z=0∨z'=0∨g≠g':=by omega):aK w' z g e sz v xs:=h.keep (hn.imp id fun hn hl=>k.block g hl hn)
theorem aK.lt (h:aK w z g e sz v xs):z=0∨(z=1∧g<w.heap.size):=by
 rcases h.2 with h0|⟨rfl,cap,cur,h1,h2,h3⟩
 · exact .inl h0.1
 · exact .inr ⟨rfl,(Array.getElem?_eq_some_iff.1 h2).1⟩
theorem aK.oneB (h:aK w z g e sz v xs):oneB v=true:=by
 rcases h.2 with⟨_,rfl,_⟩|⟨_,cap,cur,rfl,_⟩<;>rfl
theorem bC (w:World)(g:Nat)(e:TypeId)(sz:Nat):aK w 0 g e sz (.slice none 0 0) []:=⟨Gv _,.inl ⟨rfl,rfl,rfl⟩⟩
theorem Rd.keep (h:Rd w z g o sz v xs)(hb:z=0∨(g<w.heap.size→w'.heap[g]? = w.heap[g]?))(hs:w.heap.size≤w'.heap.size):Rd w' z g o sz v xs:=by
 refine⟨h.1,?_⟩;rcases h.2 with h0|⟨rfl,cap,h1,h2,h3⟩
 · exact .inl h0
 · refine .inr ⟨rfl,cap,h1,⟨Nat.lt_of_lt_of_le h2.1 hs,h2.2⟩,fun j u hj=>?_⟩;rcases hb with hb|hb
   · cases hb
   · rw[World.cell?_of_block (hb h2.1)];exact h3 j u hj
theorem Rd.gr (h:Rd w z g o sz v xs)(k:Gr w w'):Rd w' z g o sz v xs:=h.keep (.inr fun hl=>k.block g hl) k.size
theorem Rd.md (h:Rd w z g o sz v xs)(k:Md b w w')(hn:z=0∨g≠b:=by omega):Rd w' z g o sz v xs:=h.keep (hn.imp id fun hn _=>k.block g hn) (by rw[k.size];exact Nat.le_refl _)
theorem Rd.kp (h:Rd w z g o sz v xs)(k:Kp ms w w')(hn:z=0∨g∉ms:=by(try simp only[dX])<;>omega):Rd w' z g o sz v xs:=h.keep (hn.imp id fun hn hl=>k.block g hl hn) k.size
theorem Rd.ka (h:Rd w z g o sz v xs)(k:Ka z' g' w w')(hn:z=0∨z'=0∨g≠g':=by omega):Rd w' z g o sz v xs:=h.keep (hn.imp id fun hn hl=>k.block g hl hn) k.size
theorem Rd.lt (h:Rd w z g o sz v xs):z=0∨(z=1∧g<w.heap.size):=by
 rcases h.2 with h0|⟨rfl,cap,h1,h2,h3⟩
 · exact .inl h0.1
 · exact .inr ⟨rfl,h2.1⟩
theorem aK.lth (h:aK w z g e sz v xs):bJ (z=0∨(z=1∧g<w.heap.size)):=⟨h.lt⟩
theorem Rd.lth (h:Rd w z g o sz v xs):bJ (z=0∨(z=1∧g<w.heap.size)):=⟨h.lt⟩
theorem aK.rd (h:aK w z g e sz v xs):Rd w z g 0 sz v xs:=by
 refine⟨h.1,?_⟩;rcases h.2 with⟨h0,h1,h2⟩|⟨rfl,cap,cur,h1,h2,h3,h4,h5,h6⟩
 · exact .inl ⟨h0,h2,none,0,h1⟩
 · refine .inr ⟨rfl,cap,h1,⟨(Array.getElem?_eq_some_iff.1 h2).1,h3⟩,fun j u hj=>?_⟩;rw[Nat.zero_add,cell_of_row w g j cur e (0,0) h2];rw[←h6,List.getElem?_take] at hj
   split at hj
   · simpa using hj
   · cases hj
theorem aK.row (h:aK w z g e sz v xs)(hz:z=1):w.ownsRow g e sz v xs.length xs.flatten:=by
 rcases h.2 with⟨h0,h1,h2⟩|⟨_,cap,cur,h1,h2,h3,h4,h5,h6⟩
 · omega
 · exact⟨h.1.flat,.inr ⟨g,cap,cur,h1,Nat.le_refl _,h2,h3,h4,h5,h6⟩⟩
theorem aK.rowN (h:aK w z g e sz v xs)(hz:z=0)(base:Nat):w.ownsRow base e sz v xs.length xs.flatten:=by
 rcases h.2 with⟨h0,rfl,rfl⟩|⟨h0,_⟩
 · exact World.ownsRow_nil _ _ _ _
 · omega
theorem Eh {base n:Nat}(h:w.ownsRow base e sz v n xs.flatten)(hn:n=xs.length)(hw:Ws sz xs):∃ z g,aK w z g e sz v xs∧v.ownBlock=(if z=0 then none else some g)∧(z=0∨base≤g):=by
 subst hn;rcases h.2 with⟨h0,h1⟩|⟨g,cap,cur,h1,hb,h2⟩
 · have:xs=[]:=List.eq_nil_of_length_eq_zero h1;subst this;exact⟨0,0,⟨hw,.inl ⟨rfl,h0,rfl⟩⟩,by rw[h0];rfl,.inl rfl⟩
 · exact⟨1,g,⟨hw,.inr ⟨rfl,cap,cur,h1,h2⟩⟩,by rw[h1];rfl,.inr hb⟩
end
section
variable {P:Program} {L:Slots} {w:World} {dst:Option Nat} {ty:TypeId} {pos:String} {af:Array Edge} {gu:Option (Nat × Bool)}
variable {x y:Operand} {t:TypeId} {z g o sz:Nat} {e:TypeId} {v:Value} {xs:List (List Value)} {k:IntKind}
theorem Qae (hu:P.underlying t=some (.slice e))(hx:ev L x=some v)(hr:Rd w z g o sz v xs):VV P L ⟨dst,.call { callee:=.builtin .len,args := #[x],argTypes := #[t] },ty,pos,af,gu⟩ w (.int .i64 xs.length):=by
 rcases hr.2 with⟨_,rfl,a,cap,rfl⟩|⟨_,cap,rfl,_⟩
 · exact Gk hu hx
 · exact Gk hu hx
theorem Qaf {n:Nat}(hu:P.underlying t=some (.slice e))(hx:ev L x=some v)(hr:Rd w z g o sz v xs)(hn:xs.length=n):VV P L ⟨dst,.call { callee:=.builtin .len,args := #[x],argTypes := #[t] },ty,pos,af,gu⟩ w (.int .i64 (n:Int)):=hn ▸ Qae hu hx hr
theorem Qac {i:Int}{n:Nat}(hu:P.underlying t=some (.slice e))(hs:fO P e sz)(hx:ev L x=some v)(hr:Rd w z g o sz v xs)(hn:xs.length=n)(hy:ev L y=some (.int k i))(h0:0≤i)(h1:i<(n:Int)):
 VV P L ⟨dst,.indexAddr t x y,ty,pos,af,gu⟩ w (.pointer (some ⟨g,o+i.toNat*sz,none⟩)):=by
 rcases hr.2 with⟨_,rfl,a,cap,rfl⟩|⟨_,cap,rfl,_⟩
 · simp at hn;omega
 · exact Qab hu hs hx hy h0 (by omega)
theorem Qa3 {p i q:Nat}{c:List Value}{u:Value}(h1:fV P t)(hx:ev L x=some (.pointer (some ⟨g,p,none⟩)))(hr:Rd w z g o sz v xs)(hi:xs[i]? = some c)(hp:p=o+(i*sz+q))(hc:c[q]? = some u):VV P L ⟨dst,.load t x,ty,pos,af,gu⟩ w u:=fun ρ hρ=>by
 rcases hr.2 with⟨_,rfl,_⟩|⟨_,cap,rfl,_,hcell⟩
 · simp at hi
 · have hq:q<sz:=by
    have h2:=(List.getElem?_eq_some_iff.1 hc).1;have h3:=(hr.1 c (List.mem_of_getElem? hi)).1;omega
   have hc':w.cell? ⟨g,p,none⟩=some u:=by rw[hp];exact hcell _ _ (by rw[hr.1.at i q c hi hq];exact hc)
   simp[execOp,hρ _ _ hx,Instr.loadAt,Instr.sureAddr,loadVar,(h1 w).1,hc',go_sem]
theorem Qa4 {p i q m:Nat}{c vs:List Value}(h1:eG P t m)(hx:ev L x=some (.pointer (some ⟨g,p,none⟩)))(hr:Rd w z g o sz v xs)(hi:xs[i]? = some c)(hp:p=o+(i*sz+q))(hc:(c.drop q).take m=vs)(hl:vs.length=m):VV P L ⟨dst,.load t x,ty,pos,af,gu⟩ w (.agg vs.toArray):=fun ρ hρ=>by
 rcases hr.2 with⟨_,rfl,_⟩|⟨_,cap,rfl,_,hcell⟩
 · simp at hi
 · have h3:=(hr.1 c (List.mem_of_getElem? hi)).1
   have hld:(loadCells ⟨g,p,none⟩ vs.length).run P w=.ok vs.toArray w:=run_loadCells_list w _ _ (fun j u hj=>by
    rw[Addr.add_lit,hp];have hjm:j<m:=by rw[←hl];exact(List.getElem?_eq_some_iff.1 hj).1
    rw[←hc,List.getElem?_take_of_lt hjm,List.getElem?_drop] at hj;have hq:q+j<sz:=by rw[←h3];exact(List.getElem?_eq_some_iff.1 hj).1
    have:=hcell (i*sz+(q+j)) u (by rw[hr.1.at i (q+j) c hi hq];exact hj)
    rw[←this];congr 2;omega)
   rw[hl] at hld;refine iH ?_;rw[hρ _ _ hx];simp[Instr.loadAt,Instr.sureAddr,loadVar,(h1 w).1,(h1 w).2,hld]
theorem Qa5 {p i:Nat}{c:List Value}(h1:eG P t sz)(hx:ev L x=some (.pointer (some ⟨g,p,none⟩)))(hr:Rd w z g o sz v xs)(hi:xs[i]? = some c)(hp:p=o+i*sz):VV P L ⟨dst,.load t x,ty,pos,af,gu⟩ w (.agg c.toArray):=by
 have hl:=(hr.1 c (List.mem_of_getElem? hi)).1;exact Qa4 (q:=0) h1 hx hr hi (by omega) (by rw[List.drop_zero,List.take_of_length_le (by omega)]) hl
def iL (P:Program)(t:TypeId)(len:Nat)(e:TypeId)(sz:Nat)(zs:List Value):Prop:=∀ (parts:Array (Nat × Value)) (cs:Array Value) w,Instr.fill (fun i=>some (i*sz,sz)) zs.toArray parts.toList=some cs→
 (Instr.buildSlice t len parts).run P w=.ok (.slice (some ⟨w.heap.size,0,none⟩) len len) (w.alloc (.cells cs e))
theorem mF {len:Nat}{zv:Value}{zs:List Value}(hu:P.underlying t=some (.slice e))(hs:fO P e sz)(hz:ZV P e zv)(hlen:Nat.ble (len*sz) 16777216=true)(hpos:Nat.ble 1 (len*sz)=true)
 (hzs:(Array.range (len*sz)).map (fun i=>zv.cells[i%zv.cells.size]!)=zs.toArray):iL P t len e sz zs:=fun parts cs w hf=>by
 have h1:¬ (len*sz>2^24):=by have:=Nat.le_of_ble_eq_true hlen;omega
 have h2:¬ (len*sz=0):=by have:=Nat.le_of_ble_eq_true hpos;omega
 simp only[Instr.buildSlice,Sem.run_bind,run_underlying hu,Result.andThen_ok,hs w,h1,h2,if_false,Sem.run_pure,hz w,hzs,hf];simp[newRow,go_sem]
theorem C1 (hu:P.underlying t=some (.slice e))(hs:fO P e sz):iL P t 0 e sz []:=fun parts cs w hf=>by
 simp only[Instr.buildSlice,Sem.run_bind,run_underlying hu,Result.andThen_ok,hs w,Nat.zero_mul,if_true,Sem.run_pure,show ¬ (0>2^24) from by omega,if_false];have:∀ f:Nat→Value,(Array.range 0).map f = #[]:=fun f=>by simp
 rw[this];have hf':Instr.fill (fun i=>some (i*sz,sz)) #[] parts.toList=some cs:=hf;simp[hf',newRow,go_sem]
theorem Ci {len:Nat}{zs cs:List Value}{parts:Array (Nat × Operand)}{vs:List (Nat × Value)}{xs:List (List Value)}(hb:iL P t len e sz zs)(hp:rS L parts.toList=some vs)(hf:kZ (fun i=>some (i*sz,sz)) zs vs=some cs)
 (hw:Ws sz xs) (hx:cs=xs.flatten) (hl:xs.length=len) (hm:Nat.ble len 1000000=true):
 EV P L ⟨dst,.buildSlice t len parts,ty,pos,af,gu⟩ w fun v' w'=>∃ g',w.heap.size≤g'∧aK w' 1 g' e sz v' xs∧Gr w w':=fun ρ hρ=>by
 have e1:(parts.map fun(x:Nat × Operand)=>(x.1,ρ x.2))=vs.toArray:=by rw[←hρ.mapP hp,←Array.toList_map]
 have hr:=hb vs.toArray cs.toArray w (H6 vs zs cs hf);have hm':=Nat.le_of_ble_eq_true hm;refine .val _ _ (iH ?_) ⟨w.heap.size,Nat.le_refl _,⟨hw,.inr ⟨rfl,len,cs.toArray,by rw[hl],heap_alloc_new w _,by omega,by simp only[maxLen];omega,?_,?_⟩⟩,(Below.refl _ _).alloc (Nat.le_refl _) _⟩
 · show(Instr.buildSlice t len (parts.map fun(x:Nat × Operand)=>(x.1,ρ x.2))).run P w=_;rw[e1];exact hr
 · subst hx;rw[←hl];simpa using hw.flat
 · subst hx;rw[←hw.flat];simp only[List.take_length]
structure jL (P:Program)(t e:TypeId)(sz bytes:Nat):Prop where
 und:P.underlying t=some (.slice e)
 info:∃ i zv,P.info? e=some i∧i.zero=some zv∧i.size=sz∧i.bytes=bytes∧zv.cells.size=sz
 pos:0<sz
theorem Af {bytes:Nat}(ha:jL P t e sz bytes)(h:aK w z g e sz v xs){a:Option Addr}{c:Nat}:(Builtin.append_ #[t,t] ty #[v,.slice a 0 c]).run P w=.ok v w:=by
 obtain⟨i,zv,hi,_,hsz,_⟩:=ha.info;have hf:(Builtin.firstCells i.size 0 (.slice a 0 c)).run P w=.ok #[] w:=by cases a<;>simp[Builtin.firstCells,loadCells,loadCellsFrom]
 rcases h.2 with⟨_,rfl,rfl⟩|⟨_,cap,cur,rfl,h2,h3,_⟩
 · simp[Builtin.append_,run_underlying ha.und,sizeOf,typeInfo,hi,Builtin.lenOf,hf]
 · simp[Builtin.append_,run_underlying ha.und,sizeOf,typeInfo,hi,Builtin.lenOf,hf,h3,storeCells]
theorem Ch {bytes z2 g2 o2:Nat}{u:Value}{ys:List (List Value)}(ha:jL P t e sz bytes)(hx:ev L x=some v)(hy:ev L y=some u)(h:aK w z g e sz v xs)(hr:Rd w z2 g2 o2 sz u ys)
 (hb:(xs.length+ys.length)*bytes≤140737488355328) (hl:xs.length+ys.length≤9223372036854775807):
 EV P L ⟨dst,.call { callee:=.builtin .append,args := #[x,y],argTypes := #[t,t] },ty,pos,af,gu⟩ w fun v' w'=>∃ z' g',aK w' z' g' e sz v' (xs++ys)∧Ka z g w w'∧(z'=0∨(z'=1∧g'<w'.heap.size))∧((g'=g∧z=1)∨w.heap.size≤g'∨z'=0)∧(z'=0→z=0∧ys.length=0):=fun ρ hρ=>by
 rcases hr.2 with⟨hz2,rfl,a,cap,rfl⟩|⟨hz2,cap,rfl,eD,hcell⟩
 · refine .val v w ?_ ⟨z,g,by simpa using h,Ka.refl _ _ _,?_,?_,fun h0=>⟨h0,rfl⟩⟩
   · have:=Af (ty:=ty) ha h (a:=a) (c:=cap);simp[execOp,resolve,invoke,builtin,hρ _ _ hx,hρ _ _ hy,this]
   · rcases h.lt with h1|h1<;>omega
   · rcases h.lt with h1|h1<;>omega
 · obtain⟨i,zv,hi,hzv,hsz,hby,hzs⟩:=ha.info;have hsrc:∀ j u,ys.flatten[j]? = some u→w.cell? ((⟨g2,o2,none⟩:Addr).add j)=some u:=fun j u hj=>by rw[Addr.add_lit];exact hcell j u hj
   have hml:maxLen=9223372036854775807:=rfl
   have main:∀ base,w.ownsRow base e sz v xs.length xs.flatten→base≤w.heap.size→∃ v' w',(Builtin.append_ #[t,t] ty #[v,.slice (some ⟨g2,o2,none⟩) ys.length cap]).run P w=.ok v' w'∧w'.ownsRow base e sz v' (xs.length+ys.length) (xs++ys).flatten∧w.grownBy w' v.ownBlock∧(v'=.slice none 0 0↔v=.slice none 0 0∧ys.length=0):=fun base hrow hbase=>by
    obtain⟨v',w',h1,h2,h3,h4⟩:=run_append_own w base t ty e i zv sz bytes ha.und hi hzv hsz hby hzs ha.pos v xs.length xs.flatten hrow ⟨g2,o2,none⟩ ys.length cap ys.flatten hr.1.flat hsrc hr.1.one (by omega) hb hbase;exact⟨v',w',h1,by rw[List.flatten_append];exact h2,h3,h4⟩
   have fin:∀ v' w',(Builtin.append_ #[t,t] ty #[v,.slice (some ⟨g2,o2,none⟩) ys.length cap]).run P w=.ok v' w'→(execOp ρ ⟨dst,.call { callee:=.builtin .append,args := #[x,y],argTypes := #[t,t] },ty,pos,af,gu⟩).run P w=.ok (.value v') w':=fun v' w' h1=>by
    simp[execOp,resolve,invoke,builtin,hρ _ _ hx,hρ _ _ hy,h1]
   rcases h.2 with⟨hz,rfl,rfl⟩|⟨hz,cap1,cur,hv,hg,hn1,hc1,hcs,htk⟩
   · obtain⟨v',w',h1,h2,h3,h4⟩:=main w.heap.size (h.rowN hz _) (Nat.le_refl _);obtain⟨z',g',h5,h6,h7⟩:=Eh h2 (by simp) (R1 h.1 hr.1);refine .val v' w' (fin v' w' h1) ⟨z',g',h5,⟨h3.os,h3.tape,h3.output,h3.size,fun k hk _=>h3.block k hk (by simp[Value.ownBlock])⟩,h5.lt,by omega,fun h0=>⟨hz,?_⟩⟩;rcases h5.2 with⟨_,e1,e2⟩|⟨e1,_⟩
     · exact(h4.1 e1).2
     · omega
   · have hlt1:=(Array.getElem?_eq_some_iff.1 hg).1;subst hv;subst hsz hby;have hflx:=h.1.flat;have hfly:=hr.1.flat;have hlen:(xs++ys).flatten.length=(xs++ys).length*i.size:=(R1 h.1 hr.1).flat;by_cases hroom:xs.length+ys.length≤cap1
     · have hfit:xs.length*i.size+ys.flatten.length≤cur.size:=by rw[hfly,hcs,←Nat.add_mul];exact Nat.mul_le_mul_right _ hroom
       have hrun:=run_append_room (P:=P) w t ty e i ha.und hi g xs.length cap1 cur hg ⟨g2,o2,none⟩ ys.length cap ys.flatten hfly hsrc hr.1.one hroom hfit
       refine .val _ _ (fin _ _ hrun) ⟨1,g,⟨R1 h.1 hr.1,.inr ⟨rfl,cap1,_,by rw[List.length_append],setRow_heap w g cur _ e _ hg,by rw[List.length_append];exact hroom,hc1,?_,?_⟩⟩,
        ⟨rfl,rfl,rfl,by simp,fun k _ hk=>setRow_other w g k _ (by omega)⟩,.inr ⟨rfl,by simpa using hlt1⟩,.inl ⟨rfl,hz⟩,fun h0=>by omega⟩
       · simp only[List.size_toArray,List.length_append,List.length_take,List.length_drop,Array.length_toList];omega
       · rw[htk,←hlen,List.flatten_append];exact List.take_left
     · have holds:∀ j u,xs.flatten[j]? = some u→w.cell? ((⟨g,0,none⟩:Addr).add j)=some u:=(h.row hz).cells (g:=g) rfl;have hrun:=run_append_grow (P:=P) w t ty e i zv ha.und hi hzv ⟨g,0,none⟩ xs.length cap1 xs.flatten hflx holds ⟨g2,o2,none⟩ ys.length cap ys.flatten hfly hsrc (by omega) (by omega) (growslice_fits (by omega) hb);have hge:=grownCap_ge w (xs.length+ys.length) cap1 e;have hcm:grownCap w (xs.length+ys.length) cap1 e≤maxLen:=grownCap_le_maxLen w _ cap1 e (by omega)
       refine .val _ _ (fin _ _ hrun) ⟨1,w.heap.size,⟨R1 h.1 hr.1,.inr ⟨rfl,_,_,by rw[List.length_append],heap_alloc_new w.drew _,by rw[List.length_append];exact hge,hcm,?_,?_⟩⟩,
        ⟨rfl,rfl,rfl,by simp,fun k hk _=>heap_alloc_old w.drew _ hk⟩,.inr ⟨rfl,by simp⟩,.inr (.inl (Nat.le_refl _)),fun h0=>by omega⟩
       · simp only[Array.size_append,List.size_toArray,size_zeroCells,hzs,hflx,hfly,←Nat.add_mul];congr 1;omega
       · simp only[Array.toList_append,List.append_assoc];rw[←hlen,List.flatten_append,←List.append_assoc];exact List.take_left
def Hy (P:Program)(e:TypeId)(sz bytes:Nat):Bool:=match P.info? e with
 | some i=>(match i.zero with|some zv=>i.size == sz&&i.bytes == bytes&&zv.cells.size == sz|none=>false)
 | none=>false
theorem oU {bytes:Nat}(hu:P.underlying t=some (.slice e))(hpos:Nat.ble 1 sz=true)(h:Hy P e sz bytes=true):jL P t e sz bytes:=by
 refine⟨hu,?_,Nat.le_of_ble_eq_true hpos⟩;unfold Hy at h
 split at h
 · rename_i i hi
   split at h
   · rename_i zv hz;simp only[Bool.and_eq_true,beq_iff_eq] at h;exact⟨i,zv,hi,hz,h.1.1,h.1.2,h.2⟩
   · cases h
 · cases h
def Kh (sz:Nat):List (List Value)→Bool
 | []=>true
 | x::xs=>bif Nat.beq x.length sz then(bif cZ x then Kh sz xs else false) else false
theorem eW {xs:List (List Value)}:Kh sz xs=true→Ws sz xs:=by
 induction xs with
 | nil=>exact fun _=>Gv _
 | cons x xs ih=>
  intro h;unfold Kh at h
  cases h1:Nat.beq x.length sz with
  | false=>rw[h1] at h;cases h
  | true=>
   rw[h1] at h
   cases h2:cZ x with
   | false=>rw[h2] at h;cases h
   | true=>rw[h2] at h;exact Qav (Nat.eq_of_beq_eq_true h1) h2 (ih h)
end
section
variable {P:Program} {L:Slots} {w:World} {dst:Option Nat} {ty:TypeId} {pos:String} {af:Array Edge} {gu:Option (Nat × Bool)} {x:Operand} {t e:TypeId} {sz:Nat}
def OB (L:Slots)(o:Option Operand)(d v:Nat):Prop:=match o with
 | none=>v=d
 | some x=>∃ k,ev L x=some (.int k (v:Int))
theorem Kd {n l h b' off:Nat}{lo hi:Option Operand}(hu:P.underlying t=some (.array n e))(hs:fO P e sz)(hx:ev L x=some (.pointer (some ⟨b',off,none⟩)))(hlo:OB L lo 0 l)(hhi:OB L hi n h)(h1:l≤h)(h2:h≤n)(h3:l<n):
 VV P L ⟨dst,.slice t x lo hi none,ty,pos,af,gu⟩ w (.slice (some ⟨b',off+l*sz,none⟩) (h-l) (n-l)):=fun ρ hρ=>by
 have hne:¬ (n=l):=by omega
 refine iH ?_;show(Instr.sliceAt t (ρ x) (lo.map ρ) (hi.map ρ) none).run P w=_;rw[hρ _ _ hx]
 cases lo with
 | none=>
  simp[OB] at hlo;subst hlo
  cases hi with
  | none=>simp[OB] at hhi;subst hhi;simp[Instr.sliceAt,run_underlying hu,Instr.sureAddr,Instr.sliceBounds,hs w,hne,Addr.add]
  | some o=>
   obtain⟨k,ho⟩:=hhi;simp[Instr.sliceAt,run_underlying hu,Instr.sureAddr,Instr.sliceBounds,hρ _ _ ho,Instr.sliceBound,asIntOf,h2,hs w,hne,Addr.add]
 | some o1=>
  obtain⟨k1,ho1⟩:=hlo
  cases hi with
  | none=>simp[OB] at hhi;subst hhi;simp[Instr.sliceAt,run_underlying hu,Instr.sureAddr,Instr.sliceBounds,hρ _ _ ho1,Instr.sliceBound,asIntOf,h1,hs w,hne,Addr.add_lit]
  | some o=>
   obtain⟨k,ho⟩:=hhi;simp[Instr.sliceAt,run_underlying hu,Instr.sureAddr,Instr.sliceBounds,hρ _ _ ho,hρ _ _ ho1,Instr.sliceBound,asIntOf,h1,h2,hs w,hne,Addr.add_lit]
theorem N7 {b o m cap:Nat}{cs:List Value}{xs:List (List Value)}(hb:Bx w b t cs)(hw:Ws sz xs)(hl:xs.length=m)(hs:(cs.drop o).take xs.flatten.length=xs.flatten)(hcap:Nat.ble m cap=true:=by rfl):Rd w 1 b o sz (.slice (some ⟨b,o,none⟩) m cap) xs:=by
 refine⟨hw,.inr ⟨rfl,cap,by rw[hl],⟨hb.lt,by rw[hl];exact Nat.le_of_ble_eq_true hcap⟩,fun j u hj=>?_⟩⟩;have hjl:=(List.getElem?_eq_some_iff.1 hj).1;rw[←hs,List.getElem?_take_of_lt hjl,List.getElem?_drop] at hj;rw[hb.cell];exact hj
end
section
variable {P:Program} {fn:Func} {L:Slots} {w:World}
def sT (tmps:Array Value):ResultVar→Sem Value
 | .tmp t=>pure (tmps.getD t undef)
 | .cell a t=>do loadVar t (← asAddr (tmps.getD a undef))
def RV (P:Program)(r:ResultVar)(L:Slots)(w:World)(v:Value):Prop:=∀ n D a,dB n D L a→(sT a.tmps r).run P w=.ok v w
theorem aN {t:Nat}{v:Value}(hv:lk t L=some v):RV P (.tmp t) L w v:=fun n D a ha=>by
 have:=ha.get t v hv;simp[sT,Array.getD_eq_getD_getElem?,this]
theorem bI {t b m:Nat}{ty tb:TypeId}{cs:List Value}(h1:eG P ty m)(hv:lk t L=some (.pointer (some ⟨b,0,none⟩)))(hb:Bx w b tb cs)(hl:cs.length=m):RV P (.cell t ty) L w (.agg cs.toArray):=fun n D a ha=>by
 have hc:(loadCells ⟨b,0,none⟩ cs.length).run P w=.ok cs.toArray w:=run_loadCells_list w _ _ (fun j v hj=>by rw[Addr.add_lit,hb.cell,Nat.zero_add];exact hj);rw[hl] at hc;have:=ha.get t _ hv;simp[sT,this,asAddr,loadVar,(h1 w).1,(h1 w).2,hc]
theorem Tb {t b:Nat}{ty tb:TypeId}{v:Value}(h1:fV P ty)(hv:lk t L=some (.pointer (some ⟨b,0,none⟩)))(hb:Bx w b tb [v]):RV P (.cell t ty) L w v:=fun n D a ha=>by
 have hc:w.cell? ⟨b,0,none⟩=some v:=by rw[hb.cell];rfl
 have:=ha.get t _ hv;simp[sT,this,asAddr,loadVar,(h1 w).1,hc]
theorem bZ {r:ResultVar}{v:Value}(h:fn.results = #[r])(h1:RV P r L w v):qD P fn L w v:=fun n D a ha=>by
 have e:=h1 n D a ha
 have:(results fn a.tmps)=(do let vs ← fn.results.mapM (sT a.tmps);pure (if h:vs.size=1 then vs[0] else .tuple vs)):=by
  unfold results;congr 2
 rw[this,h];simp[e]
theorem bR {r1 r2:ResultVar}{v1 v2:Value}(h:fn.results = #[r1,r2])(h1:RV P r1 L w v1)(h2:RV P r2 L w v2):qD P fn L w (.tuple [v1,v2].toArray):=fun n D a ha=>by
 have e1:=h1 n D a ha;have e2:=h2 n D a ha
 have:(results fn a.tmps)=(do let vs ← fn.results.mapM (sT a.tmps);pure (if h:vs.size=1 then vs[0] else .tuple vs)):=by
  unfold results;congr 2
 rw[this,h];simp[e1,e2]
theorem Zz {r1 r2 r3:ResultVar}{v1 v2 v3:Value}(h:fn.results = #[r1,r2,r3])(h1:RV P r1 L w v1)(h2:RV P r2 L w v2)(h3:RV P r3 L w v3):qD P fn L w (.tuple [v1,v2,v3].toArray):=fun n D a ha=>by
 have e1:=h1 n D a ha;have e2:=h2 n D a ha;have e3:=h3 n D a ha
 have:(results fn a.tmps)=(do let vs ← fn.results.mapM (sT a.tmps);pure (if h:vs.size=1 then vs[0] else .tuple vs)):=by
  unfold results;congr 2
 rw[this,h];simp[e1,e2,e3]
end
end Go.Sx

end
section
namespace Go.Sx
open Go Go.RowKit
def gB (base:Nat)(ks:List Nat)(w:World):Prop:=ks.Nodup∧∀ k∈ks,base≤k∧Df w k
def oP (ks:List Nat):List Deferred:=ks.map fun k=>⟨.collected k,#[]⟩
theorem Ut (base:Nat)(w:World):gB base [] w:=⟨List.nodup_nil,fun _ h=>by cases h⟩
section
variable {base:Nat} {ks:List Nat} {w w':World}
theorem gB.keep (h:gB base ks w)(hk:∀ k∈ks,w'.heap[k]? = w.heap[k]?):gB base ks w':=⟨h.1,fun k hk'=>⟨(h.2 k hk').1,(hk k hk').trans (h.2 k hk').2⟩⟩
theorem gB.gr (h:gB base ks w)(g:Gr w w'):gB base ks w':=h.keep fun k hk=>g.block k (h.2 k hk).2.lt
theorem gB.md {b:Nat}(h:gB base ks w)(m:Md b w w')(hb:b∉ks):gB base ks w':=h.keep fun k hk=>m.block k (by rintro rfl;exact hb hk)
theorem gB.kp {ms:List Nat}(h:gB base ks w)(g:Kp ms w w')(hd:∀ k∈ks,k∉ms):gB base ks w':=h.keep fun k hk=>g.block k (h.2 k hk).2.lt (hd k hk)
theorem gB.cons {k:Nat}(h:gB base ks w)(hb:base≤k)(hd:Df w k)(hn:k∉ks):gB base (k::ks) w:=⟨List.nodup_cons.2 ⟨hn,h.1⟩,fun j hj=>by
 rcases List.mem_cons.1 hj with rfl|hj
 · exact⟨hb,hd⟩
 · exact h.2 j hj⟩
theorem gB.leave:∀ {ks:List Nat} {w:World},gB base ks w→∃ wl,vT (oP ks) w wl∧Kp ks w wl
 | [],w,_=>⟨w,rfl,Kp.refl _ _⟩
 | k::ks,w,h=>by
  have hn:=(List.nodup_cons.1 h.1).1;have hm:Md k w (w.putObj k (.deferred none)):=Md.put k _;have ht:gB base ks w:=⟨(List.nodup_cons.1 h.1).2,fun j hj=>h.2 j (List.mem_cons_of_mem _ hj)⟩;obtain⟨wl,h1,h2⟩:=gB.leave (ht.md hm hn);refine⟨wl,⟨k,rfl,(h.2 k (by simp)).2,h1⟩,?_⟩;exact Kp.trans ((Kp.refl (k::ks) w).md hm (.inl (by simp))) h2 fun b hb=>.inl (List.mem_cons_of_mem _ hb)
end
theorem Oa {P:Program}{r:Option Nat}{n:Nat}{Q:Exit→List Deferred→Slots→World→Prop}{D:List Deferred}{L:Slots}{w:World}{c:Code}{α:Type}(dead:List Nat)(dyn:α→Slots)(J:α→List Nat→World→Prop)(μ:α→Nat)(x₀:α)(ks₀:List Nat)(hD:D=oP ks₀)
 (hs:iA (dyn x₀++iB dead L) L) (h₀:J x₀ ks₀ w)
 (round:∀ x ks w,J x ks w→SW P r n c (iG (fun D' L' w'=>∃ x' ks',D'=oP ks'∧iA (dyn x'++iB dead L) L'∧J x' ks' w'∧μ x'<μ x) Q) (oP ks) (dyn x++iB dead L) w):SW P r n (.loop c) Q D L w:=by
 subst hD;intro a ha;refine wpIn_loop (fun a w=>∃ x ks,dB n (oP ks) (dyn x++iB dead L) a∧J x ks w) (fun a w=>uL fun m=>∃ x ks,dB n (oP ks) (dyn x++iB dead L) a∧J x ks w∧μ x=m) ⟨x₀,ks₀,ha.sub hs,h₀⟩ ?_;intro a w ⟨x1,ks1,hx1,hJ1⟩;obtain⟨x,ks,hx,hJ,hm⟩:=Po (p:=fun m=>∃ x ks,dB n (oP ks) (dyn x++iB dead L) a∧J x ks w∧μ x=m) ⟨μ x1,x1,ks1,hx1,hJ1,rfl⟩;refine wpIn_mono (round x ks w hJ a hx) fun e a' w' hh=>?_
 cases e with
 | normal=>
  obtain⟨D',L',h1,x',ks',rfl,h2,h3,h4⟩:=hh;refine⟨⟨x',ks',h1.sub h2,h3⟩,?_⟩;have:=Pn (p:=fun m=>∃ x ks,dB n (oP ks) (dyn x++iB dead L) a'∧J x ks w'∧μ x=m) ⟨x',ks',h1.sub h2,h3,rfl⟩;omega
 | exit id=>exact hh
 | goto l=>exact hh
 | ret=>exact hh
 | panic c=>exact hh
 | outgrown=>exact hh
end Go.Sx

end
section
namespace Go.Sx
open Go Go.RowKit
noncomputable def gV (p:Prop):Bool:=@decide p (Classical.propDecidable p)
section
open Classical
theorem Yc {p:Prop}(h:gV p=true):p:=of_decide_eq_true h
theorem tS {p:Prop}(h:p):gV p=true:=decide_eq_true h
theorem Yb {p:Prop}(h:¬ p):gV p=false:=decide_eq_false h
end
theorem E8 {p:Prop}{b:Bool}(h:b=true↔p):b=gV p:=by
 by_cases hp:p
 · rw[tS hp];exact h.2 hp
 · rw[Yb hp];cases b with
   | false=>rfl
   | true=>exact absurd (h.1 rfl) hp
theorem Vz {p q r:Prop}(h:r↔p∧q):gV r=(gV p&&gV q):=by
 symm;apply E8
 rw[h,Bool.and_eq_true];exact⟨fun h=>⟨Yc h.1,Yc h.2⟩,fun h=>⟨tS h.1,tS h.2⟩⟩
inductive Ck|i (k:IntKind)|b
def kn:List Ck→List Value→Bool
 | [],[]=>true
 | .i k::ks,.int k' _::vs=>k == k'&&kn ks vs
 | .b::ks,.bool _::vs=>kn ks vs
 | _,_=>false
theorem kC:∀ {ks:List Ck} {vs:List Value},kn ks vs=true→vs.length=ks.length
 | [],[],_=>rfl
 | .i k::ks,.int k' _::vs,h=>by simp[kn] at h;simp[kC h.2]
 | .b::ks,.bool _::vs,h=>by simp[kn] at h;simp[kC h]
theorem uG:∀ {ks ks':List Ck} {vs:List Value},kn (ks++ks') vs=true→kn ks (vs.take ks.length)=true∧kn ks' (vs.drop ks.length)=true
 | [],ks',vs,h=>by simpa[kn] using h
 | .i k::ks,ks',.int k' n::vs,h=>by
  simp[kn] at h;obtain⟨h1,h2⟩:=uG h.2;exact⟨by simp[kn,h.1,h1],by simpa using h2⟩
 | .b::ks,ks',.bool n::vs,h=>by
  simp[kn] at h;obtain⟨h1,h2⟩:=uG h;exact⟨by simp[kn,h1],by simpa using h2⟩
def gG (P:Program)(n:Nat)(t:TypeId)(ks:List Ck):Prop:=∀ d,n≤d→∀ (xs ys:Array Value) (off:Nat) (w:World) (s s':List Value),kn ks s=true→kn ks s'=true→(xs.toList.drop off).take ks.length=s→(ys.toList.drop off).take ks.length=s'→
 ∃ a b,(part t xs off).run P w=.ok a w∧(part t ys off).run P w=.ok b w∧(Op.equalIn d t a b).run P w=.ok (gV (s=s')) w
def mL (P:Program)(n:Nat)(fs:List Field)(off:Nat)(ks:List Ck):Prop:=∀ d,n≤d→∀ (xs ys:Array Value) (w:World) (s s':List Value),kn ks s=true→kn ks s'=true→(xs.toList.drop off).take ks.length=s→(ys.toList.drop off).take ks.length=s'→
 (Op.eqFields d xs ys fs).run P w=.ok (gV (s=s')) w
def Kk (P:Program)(n:Nat)(e:TypeId)(c:Nat)(is:List Nat)(off:Nat)(ks:List Ck):Prop:=∀ d,n≤d→∀ (xs ys:Array Value) (w:World) (s s':List Value),kn ks s=true→kn ks s'=true→(xs.toList.drop off).take ks.length=s→(ys.toList.drop off).take ks.length=s'→
 (Op.eqItems d e c xs ys is).run P w=.ok (gV (s=s')) w
theorem L3 (l r:List Value)(off a b:Nat)(hr:r.length=a+b)(hz:(l.drop off).take a++(l.drop (off+a)).take b=r):(l.drop off).take a=r.take a∧(l.drop (off+a)).take b=r.drop a:=by
 have hl1:((l.drop off).take a).length=a:=by
  have:=congrArg List.length hz;simp only[List.length_append,List.length_take,List.length_drop,hr] at this ⊢;omega
 subst hz;exact⟨by rw[List.take_append_of_le_length (Nat.le_of_eq hl1.symm),List.take_of_length_le (Nat.le_of_eq hl1)],by rw[List.drop_append_of_le_length (Nat.le_of_eq hl1.symm),List.drop_of_length_le (Nat.le_of_eq hl1)];simp⟩
theorem Tf (l:List Value)(off a b:Nat):(l.drop off).take (a+b)=(l.drop off).take a++(l.drop (off+a)).take b:=by
 rw[List.take_add,List.drop_drop]
section
variable {P:Program} {n:Nat} {t e:TypeId} {ks:List Ck}
theorem Cc (hu:P.underlying t=some .bool)(h1:fV P t):gG P 1 t [.b]:=by
 intro d hd xs ys off w s s' hs hs' hx hy
 have get:∀ (zs:Array Value) (r:List Value),kn [.b] r=true→(zs.toList.drop off).take 1=r→∃ m,r=[.bool m]∧(part t zs off).run P w=.ok (.bool m) w:=by
  intro zs r hr hz
  match r,hr,kC hr with
  | [.bool m],hr,_=>
   refine⟨m,rfl,?_⟩
   have hg:zs[off]? = some (.bool m):=by
    have:=congrArg (fun l=>l[0]?) hz;simp[List.getElem?_take] at this;exact this
   simp[part,(h1 w).1,hg]
 obtain⟨a,rfl,ha⟩:=get xs s hs hx;obtain⟨b,rfl,hb⟩:=get ys s' hs' hy;refine⟨_,_,ha,hb,?_⟩;obtain⟨d,rfl⟩:∃ d',d=d'+1:=⟨d-1,by omega⟩;rw[run_equalIn_bool' w d t a b hu];congr 1;exact E8 (by simp)
theorem Qj {k:IntKind}(hu:P.underlying t=some (.int k))(h1:fV P t):gG P 1 t [.i k]:=by
 intro d hd xs ys off w s s' hs hs' hx hy
 have get:∀ (zs:Array Value) (r:List Value),kn [.i k] r=true→(zs.toList.drop off).take 1=r→∃ m,r=[.int k m]∧(part t zs off).run P w=.ok (.int k m) w:=by
  intro zs r hr hz
  match r,hr,kC hr with
  | [.int k' m],hr,_=>
   simp[kn] at hr;subst hr;refine⟨m,rfl,?_⟩
   have hg:zs[off]? = some (.int k m):=by
    have:=congrArg (fun l=>l[0]?) hz;simp[List.getElem?_take] at this;exact this
   simp[part,(h1 w).1,hg]
 obtain⟨a,rfl,ha⟩:=get xs s hs hx;obtain⟨b,rfl,hb⟩:=get ys s' hs' hy;refine⟨_,_,ha,hb,?_⟩;obtain⟨d,rfl⟩:∃ d',d=d'+1:=⟨d-1,by omega⟩;rw[run_equalIn_int w d t k k a b hu];congr 1;exact E8 (by simp)
theorem uV (off:Nat):mL P n [] off []:=by
 intro d _ xs ys w s s' hs hs' _ _
 match s,s',hs,hs' with
 | [],[],_,_=>simp[Op.eqFields,tS]
theorem jQ {f:Field}{fs:List Field}{off:Nat}{ks1 ks2:List Ck}(ho:f.offset=off)(hn:f.name ≠ "_")(h1:gG P n f.type ks1)(h2:mL P n fs (off+ks1.length) ks2):mL P n (f::fs) off (ks1++ks2):=by
 intro d hd xs ys w s s' hs hs' hx hy;rw[List.length_append,Tf] at hx hy;obtain⟨k1,k2⟩:=uG hs;obtain⟨k1',k2'⟩:=uG hs';obtain⟨c1,c2⟩:=L3 _ s _ _ _ (by rw[kC hs,List.length_append]) hx;obtain⟨c1',c2'⟩:=L3 _ s' _ _ _ (by rw[kC hs',List.length_append]) hy;obtain⟨a,b,ha,hb,he⟩:=h1 d hd xs ys off w _ _ k1 k1' c1 c1';have hr:=h2 d hd xs ys w _ _ k2 k2' c2 c2';simp only[Op.eqFields,hn,ne_eq,not_false_eq_true,if_true,Sem.run_bind,ho,ha,hb,he,Result.andThen_ok];have key:gV (s=s')=(gV (s.take ks1.length=s'.take ks1.length)&&gV (s.drop ks1.length=s'.drop ks1.length)):=Vz ⟨fun h=>by rw[h];exact⟨rfl,rfl⟩,fun h=>by rw[←List.take_append_drop ks1.length s,h.1,h.2,List.take_append_drop]⟩;rw[key]
 cases gV (s.take ks1.length=s'.take ks1.length) with
 | true=>simpa using hr
 | false=>simp
theorem rL {m off:Nat}{zs:Array Value}{r:List Value}{w:World}(ha:eG P t m)(hz:(zs.toList.drop off).take m=r):(part t zs off).run P w=.ok (.agg r.toArray) w:=by
 have e:zs.extract off (off+m)=r.toArray:=by
  rw[←hz];apply Array.toList_inj.1;simp[Array.toList_extract,List.extract_eq_take_drop]
 simp[part,(ha w).1,(ha w).2,e]
theorem uK {fs:Array Field}(hu:P.underlying t=some (.struct fs))(hst:P.stoodInHeld t=false)(ha:eG P t ks.length)(h:mL P n fs.toList 0 ks):gG P (n+1) t ks:=by
 intro d hd xs ys off w s s' hs hs' hx hy;refine⟨_,_,rL ha hx,rL ha hy,?_⟩;obtain⟨d,rfl⟩:∃ d',d=d'+1:=⟨d-1,by omega⟩;have hf:P.fieldsOf t=fs:=by simp[Program.fieldsOf,hu]
 rw[run_equalIn_struct w d t _ _ (by rw[hf];exact hu) hst,hf];refine h d (by omega) _ _ w s s' hs hs' ?_ ?_
 · rw[List.drop_zero,List.take_of_length_le (by simp[kC hs])]
 · rw[List.drop_zero,List.take_of_length_le (by simp[kC hs'])]
theorem Cd (c off:Nat):Kk P n e c [] off []:=by
 intro d _ xs ys w s s' hs hs' _ _
 match s,s',hs,hs' with
 | [],[],_,_=>simp[Op.eqItems,tS]
theorem Hd {c:Nat}(hc:c=ks.length)(h:gG P n e ks):∀ (m i:Nat),Kk P n e c (List.range' i m) (i*c) (List.replicate m ks).flatten
 | 0,i=>Cd c _
 | m+1,i=>by
  have ih:=Hd hc h m (i+1);have e2:i*c+ks.length=(i+1)*c:=by rw[Nat.add_mul];omega
  intro d hd xs ys w s s' hs hs' hx hy
  have ff:(Op.eqItems d e c xs ys (List.range' i (m+1))).run P w=.ok (gV (s=s')) w:=by
   rw[List.replicate_succ,List.flatten_cons] at hs hs' hx hy;rw[List.length_append,Tf] at hx hy;obtain⟨k1,k2⟩:=uG hs;obtain⟨k1',k2'⟩:=uG hs';obtain⟨c1,c2⟩:=L3 _ s _ _ _ (by rw[kC hs,List.length_append]) hx;obtain⟨c1',c2'⟩:=L3 _ s' _ _ _ (by rw[kC hs',List.length_append]) hy;obtain⟨a,b,ha,hb,he⟩:=h d hd xs ys (i*c) w _ _ k1 k1' c1 c1';rw[e2] at c2 c2';have hr:=ih d hd xs ys w _ _ k2 k2' c2 c2';rw[List.range'_succ];simp only[Op.eqItems,Sem.run_bind,ha,hb,he,Result.andThen_ok];have key:gV (s=s')=(gV (s.take ks.length=s'.take ks.length)&&gV (s.drop ks.length=s'.drop ks.length)):=Vz ⟨fun h=>by rw[h];exact⟨rfl,rfl⟩,fun h=>by rw[←List.take_append_drop ks.length s,h.1,h.2,List.take_append_drop]⟩;rw[key]
   cases gV (s.take ks.length=s'.take ks.length) with
   | true=>simpa using hr
   | false=>simp
  exact ff
theorem Cb {m:Nat}{i:TypeInfo}(hu:P.underlying t=some (.array m e))(hi:P.info? e=some i)(hc:P.cellsOf e=ks.length)(ha:eG P t (List.replicate m ks).flatten.length)(h:gG P n e ks):gG P (n+1) t (List.replicate m ks).flatten:=by
 intro d hd xs ys off w s s' hs hs' hx hy;refine⟨_,_,rL ha hx,rL ha hy,?_⟩;obtain⟨d,rfl⟩:∃ d',d=d'+1:=⟨d-1,by omega⟩;rw[run_equalIn_array w d _ _ hu hi,List.range_eq_range'];refine Hd hc h m 0 d (by omega) _ _ w s s' hs hs' ?_ ?_
 · rw[Nat.zero_mul,List.drop_zero,List.take_of_length_le (by simp[kC hs])]
 · rw[Nat.zero_mul,List.drop_zero,List.take_of_length_le (by simp[kC hs'])]
theorem gG.up {m:Nat}(h:gG P n t ks)(hm:n≤m):gG P m t ks:=fun d hd=>h d (Nat.le_trans hm hd)
theorem Mh (h:(P.info? e).isSome=true):∃ i,P.info? e=some i:=Option.isSome_iff_exists.1 h
structure lR (P:Program)(t:TypeId)(ks:List Ck):Prop where
 guard:P.eqGuardType P.depth t=false
 agg:eG P t ks.length
 eq:∃ n,n≤10000∧gG P n t ks
variable {L:Slots} {w:World} {dst:Option Nat} {ty u:TypeId} {pos:String} {af:Array Edge} {gu:Option (Nat × Bool)} {x y:Operand} {cs ds:List Value}
theorem lR.run (h:lR P t ks)(hc:kn ks cs=true)(hd:kn ks ds=true):(Op.equalIn 10000 t (.agg cs.toArray) (.agg ds.toArray)).run P w=.ok (gV (cs=ds)) w:=by
 obtain⟨n,hn,he⟩:=h.eq;have t1:∀ (l:List Value),kn ks l=true→(l.toArray.toList.drop 0).take ks.length=l:=fun l hl=>by rw[List.drop_zero,List.take_of_length_le (by simp[kC hl])]
 obtain⟨a,b,ha,hb,hr⟩:=he 10000 hn cs.toArray ds.toArray 0 w cs ds hc hd (t1 cs hc) (t1 ds hd);rw[rL h.agg (t1 cs hc)] at ha;rw[rL h.agg (t1 ds hd)] at hb;cases ha;cases hb;exact hr
theorem Qa7 (h:lR P t ks)(hx:ev L x=some (.agg cs.toArray))(hy:ev L y=some (.agg ds.toArray))(hc:kn ks cs=true)(hd:kn ks ds=true):VV P L ⟨dst,.binOp .eql t x y u,ty,pos,af,gu⟩ w (.bool (gV (cs=ds))):=fun ρ hρ=>by
 simp[execOp,hρ _ _ hx,hρ _ _ hy,run_eqGuard_agg _ _ _ _ _ _ _ h.guard,run_eql_struct,h.run hc hd]
theorem Qaj (h:lR P t ks)(hx:ev L x=some (.agg cs.toArray))(hy:ev L y=some (.agg ds.toArray))(hc:kn ks cs=true)(hd:kn ks ds=true):VV P L ⟨dst,.binOp .neq t x y u,ty,pos,af,gu⟩ w (.bool (!gV (cs=ds))):=fun ρ hρ=>by
 simp[execOp,hρ _ _ hx,hρ _ _ hy,run_eqGuard_agg _ _ _ _ _ _ _ h.guard,run_neq_struct,h.run hc hd]
end
end Go.Sx

end
section
namespace Go.Sx
open Go Go.RowKit
def un (x:BitVec 64):Int:=(x.toNat:Int)
abbrev wv (x:BitVec 64):Value:=.int .u64 (un x)
def wd (n:Int):BitVec 64:=BitVec.ofInt 64 n
theorem S2 (x:BitVec 64):0≤un x:=by unfold un;omega
theorem Oy (x:BitVec 64):un x<18446744073709551616:=by unfold un;have:=x.isLt;omega
theorem Ty (x:BitVec 64):un x≤18446744073709551615:=by have:=Oy x;omega
theorem Jv (n:Int)(h0:0≤n)(h1:n≤18446744073709551615):un (wd n)=n:=by
 unfold un wd;rw[BitVec.toNat_ofInt];have:(n%((2^64:Nat):Int))=n:=Int.emod_eq_of_lt h0 (by show n<18446744073709551616;omega);rw[this];omega
theorem Kf (x:BitVec 64):wd (un x)=x:=by
 apply BitVec.eq_of_toNat_eq;have:=Jv (un x) (S2 x) (Ty x);unfold un at *;omega
theorem Ju {x y:BitVec 64}(h:un x=un y):x=y:=by rw[←Kf x,←Kf y,h]
theorem Px (n:Nat):((n%2^64:Nat):Int)=(n:Int)%18446744073709551616:=by rw[Int.natCast_emod];rfl
theorem Oj (x y:BitVec 64):IntKind.u64.wrap (un x+un y)=un (x+y):=by
 unfold un;rw[IntKind.wrap_u64,BitVec.toNat_add];omega
theorem Ot (x y:BitVec 64):IntKind.u64.wrap (un x-un y)=un (x-y):=by
 unfold un;rw[IntKind.wrap_u64,BitVec.toNat_sub];have:=y.isLt;have:=x.isLt;omega
theorem Ol (x y:BitVec 64):IntKind.u64.wrap (un x*un y)=un (x*y):=by
 unfold un;rw[IntKind.wrap_u64,BitVec.toNat_mul,Px,Int.natCast_mul]
theorem Ou (x y:BitVec 64):bits .xor .u64 (un x) (un y)=un (x ^^^ y):=by
 unfold un;rw[bits_xor_u64_nat _ _ x.isLt y.isLt,BitVec.toNat_xor]
theorem Ok (x y:BitVec 64):bits .and .u64 (un x) (un y)=un (x &&& y):=by
 unfold un;rw[bits_and_u64_nat _ _ x.isLt y.isLt,BitVec.toNat_and]
theorem Om (x y:BitVec 64):bits .or .u64 (un x) (un y)=un (x ||| y):=by
 unfold un;rw[bits_or_u64_nat _ _ x.isLt y.isLt,BitVec.toNat_or]
theorem Oo (x:BitVec 64)(n:Nat):IntKind.u64.wrap (un x*2^n)=un (x <<< n):=by
 unfold un;rw[IntKind.wrap_u64,BitVec.toNat_shiftLeft,Nat.shiftLeft_eq];rw[Px,Int.natCast_mul,Int.natCast_pow];rfl
theorem Oq (x:BitVec 64)(n:Nat):un x / 2^n=un (x >>> n):=by
 unfold un;rw[BitVec.toNat_ushiftRight,Nat.shiftRight_eq_div_pow];norm_cast
end Go.Sx

end
section
namespace Go.Sx
open Go Go.RowKit
section
variable {P:Program} {L:Slots} {w:World} {dst:Option Nat} {ty:TypeId} {pos:String} {af:Array Edge} {gu:Option (Nat × Bool)}
variable {x y:Operand} {t u:TypeId} {a b:BitVec 64} {n:Int}
theorem eX {o:Oper}{v v':Value}(h:VV P L o w v)(e:v=v'):VV P L o w v':=e ▸ h
theorem vH (hx:ev L x=some (wv a))(hy:ev L y=some (wv b)):VV P L ⟨dst,.binOp .add t x y u,ty,pos,af,gu⟩ w (wv (a+b)):=eX (cC hx hy) (by rw[Oj])
theorem F8 (hx:ev L x=some (wv a))(hy:ev L y=some (wv b)):VV P L ⟨dst,.binOp .sub t x y u,ty,pos,af,gu⟩ w (wv (a-b)):=eX (gT hx hy) (by rw[Ot])
theorem yK (hx:ev L x=some (wv a))(hy:ev L y=some (wv b)):VV P L ⟨dst,.binOp .mul t x y u,ty,pos,af,gu⟩ w (wv (a*b)):=eX (hX hx hy) (by rw[Ol])
theorem F9 (hx:ev L x=some (wv a))(hy:ev L y=some (wv b)):VV P L ⟨dst,.binOp .xor t x y u,ty,pos,af,gu⟩ w (wv (a ^^^ b)):=eX (vX (by simp) hx hy) (by rw[Ou])
theorem Qaq (hx:ev L x=some (wv a))(hy:ev L y=some (wv b)):VV P L ⟨dst,.binOp .and t x y u,ty,pos,af,gu⟩ w (wv (a &&& b)):=eX (vX (by simp) hx hy) (by rw[Ok])
theorem qV (hx:ev L x=some (wv a))(hy:ev L y=some (wv b)):VV P L ⟨dst,.binOp .or t x y u,ty,pos,af,gu⟩ w (wv (a ||| b)):=eX (vX (by simp) hx hy) (by rw[Om])
theorem yV {yk:IntKind}(hx:ev L x=some (wv a))(hy:ev L y=some (.int yk n))(h0:0≤n):VV P L ⟨dst,.binOp .shl t x y u,ty,pos,af,gu⟩ w (wv (a <<< n.toNat)):=by
 refine eX (Gp hx hy h0) ?_;show Value.int .u64 (IntKind.u64.wrap (un a*2^min n.toNat 64))=_;rw[Oo];congr 2;rcases Nat.le_total n.toNat 64 with h|h
 · rw[Nat.min_eq_left h]
 · rw[Nat.min_eq_right h,BitVec.shiftLeft_eq_zero h,BitVec.shiftLeft_eq_zero (Nat.le_refl _)]
theorem F7 {yk:IntKind}(hx:ev L x=some (wv a))(hy:ev L y=some (.int yk n))(h0:0≤n):VV P L ⟨dst,.binOp .shr t x y u,ty,pos,af,gu⟩ w (wv (a >>> n.toNat)):=by
 refine eX (Kc hx hy h0) ?_;show Value.int .u64 (un a / 2^min n.toNat 64)=_;rw[Oq];congr 2;rcases Nat.le_total n.toNat 64 with h|h
 · rw[Nat.min_eq_left h]
 · rw[Nat.min_eq_right h,BitVec.ushiftRight_eq_zero h,BitVec.ushiftRight_eq_zero (Nat.le_refl _)]
theorem S3 {s d:TypeId}{q:IntKind}(hc:CV P s d .u64)(hx:ev L x=some (.int q n))(h0:0≤n)(h1:n≤18446744073709551615):VV P L ⟨dst,.convert s d x,ty,pos,af,gu⟩ w (wv (wd n)):=by
 refine eX (oF hc hx) ?_;show _=Value.int .u64 (un (wd n));rw[IntKind.wrap_u64,Int.emod_eq_of_lt h0 (by omega),Jv n h0 h1]
theorem Jw {s d:TypeId}(hc:CV P s d .u8)(hx:ev L x=some (wv a)):VV P L ⟨dst,.convert s d x,ty,pos,af,gu⟩ w (.int .u8 (un a%256)):=by
 refine eX (oF hc hx) ?_;simp[IntKind.wrap,IntKind.bits,IntKind.signed]
theorem Qan {k:IntKind}{c d:Int}(hx:ev L x=some (.int k c))(hy:ev L y=some (.int k d))(h0:0≤c)(h1:0<d):VV P L ⟨dst,.binOp .rem t x y u,ty,pos,af,gu⟩ w (.int k (c%d)):=fun ρ hρ=>by
 have hd:d≠0:=by omega
 simp[execOp,hρ _ _ hx,hρ _ _ hy,go_sem,Op.intDiv,hd,Int.tmod_eq_emod_of_nonneg h0]
end
section
variable {P:Program} {L:Slots} {w:World} {dst:Option Nat} {ty:TypeId} {pos:String} {af:Array Edge} {gu:Option (Nat × Bool)} {x y:Operand} {t:TypeId}
theorem qK {s:ByteArray}{k:IntKind}{i:Int}{c:UInt8}(hu:P.underlying t=some .string)(hx:ev L x=some (.string s))(hy:ev L y=some (.int k i))(h0:0≤i)(hc:s[i.toNat]? = some c):VV P L ⟨dst,.index t x y,ty,pos,af,gu⟩ w (.int .u8 c.toNat):=fun ρ hρ=>by
 simp[execOp,hρ _ _ hx,hρ _ _ hy,Instr.index,run_underlying hu,asIntOf,h0,hc,go_sem]
theorem qX {s d:TypeId}{q:IntKind}{a:Int}(hc:CV P s d .u8)(hx:ev L x=some (.int q a))(h0:0≤a)(h1:a<256):VV P L ⟨dst,.convert s d x,ty,pos,af,gu⟩ w (.int .u8 a):=by
 refine eX (oF hc hx) ?_;have:IntKind.u8.wrap a=a%256:=by simp[IntKind.wrap,IntKind.bits,IntKind.signed]
 rw[this,Int.emod_eq_of_lt h0 h1]
theorem sC {k yk:IntKind}{a m:Int}{n:Nat}(hx:ev L x=some (.int k a))(hy:ev L y=some (.int yk (n:Int)))(hm:((2^n:Nat):Int)=m)(hn:n≤k.bits){u:TypeId}:VV P L ⟨dst,.binOp .shr t x y u,ty,pos,af,gu⟩ w (.int k (a / m)):=by
 refine eX (Kc hx hy (by omega)) ?_;rw[show(n:Int).toNat=n from by omega,Nat.min_eq_left hn,←hm]
 norm_cast
end
def Zh (P:Program):List Field→List (Nat × Nat)→Prop
 | [],[]=>True
 | f::fs,p::ps=>f.offset=p.1∧fO P f.type p.2∧Zh P fs ps
 | _,_=>False
theorem Dz {P:Program}:∀ (fs:List Field) (ps:List (Nat × Nat)) (w:World),Zh P fs ps→
 (fs.mapM fun f=>(Functor.map (Prod.mk f.offset) (sizeOf f.type):Sem (Nat × Nat))).run P w=.ok ps w
 | [],[],w,_=>rfl
 | f::fs,p::ps,w,⟨h1,h2,h3⟩=>by
  have:=Dz fs ps w h3;simp[List.mapM_cons,h2 w,this,h1]
 | [],_::_,_,h=>h.elim
 | _::_,[],_,h=>h.elim
theorem iS {P:Program}{t:TypeId}{fs:Array Field}{ps:List (Nat × Nat)}{z:List Value}(hu:P.underlying t=some (.struct fs))(hz:ZV P t (.agg z.toArray))(hp:Zh P fs.toList ps):BS P t (fun i=>ps[i]?) z:=fun parts w cells hc=>by
 have h:=Dz fs.toList ps w hp
 have e:(fs.mapM fun f=>(do pure (f.offset,←sizeOf f.type):Sem (Nat × Nat))).run P w=.ok ps.toArray w:=by
  rw[Array.mapM_eq_mapM_toList];simp[h]
 simp only[Instr.build,Sem.run_bind,hz w,Result.andThen,run_underlying hu,e,Value.cells];simp only[List.getElem?_toArray];rw [hc]
theorem Uy {c:Bool}(h:(!c)=true):c=false:=by cases c<;>simp_all
theorem Ux {c:Bool}(h:(!c)=false):c=true:=by cases c<;>simp_all
theorem Cs {P:Program}{s f k:Nat}(h:∀ (cs:Array Value) w,(Instr.field s (.agg cs) f).run P w=(match cs[k]? with|some v=>(pure v:Sem Value)|none=>match (Instr.field s (.agg #[]) f).run P w with|.halt h _=>.halt h|.ok v _=>pure v).run P w):F1 P s f k:=fun cs w v hv=>by
 rw[h cs w,hv];rfl
end Go.Sx

end
section
namespace Go.Sx
open Go Go.RowKit
abbrev W2:=BitVec 64 × BitVec 64
def bt (x:BitVec 64)(i:Nat):Int:=un (x >>> (56-8*i))%256
def kb (p:W2):List Value:=[.int .u8 (bt p.1 0),.int .u8 (bt p.1 1),.int .u8 (bt p.1 2),.int .u8 (bt p.1 3),.int .u8 (bt p.1 4),.int .u8 (bt p.1 5),.int .u8 (bt p.1 6),.int .u8 (bt p.1 7),
 .int .u8 (bt p.2 0),.int .u8 (bt p.2 1),.int .u8 (bt p.2 2),.int .u8 (bt p.2 3),.int .u8 (bt p.2 4),.int .u8 (bt p.2 5),.int .u8 (bt p.2 6),.int .u8 (bt p.2 7)]
abbrev kv (p:W2):Value:=.agg (kb p).toArray
theorem Vf (x:BitVec 64)(i:Nat):0≤bt x i:=by unfold bt;omega
theorem Ve (x:BitVec 64)(i:Nat):bt x i≤255:=by unfold bt;omega
theorem Ox (a:BitVec 64):un (a &&& 255#64)=un a%256:=by
 unfold un;rw[BitVec.toNat_and];have:(255#64:BitVec 64).toNat=2^8-1:=rfl;rw[this,Nat.and_two_pow_sub_one_eq_mod];omega
theorem Qas (x:BitVec 64)(i:Nat):wd (bt x i)=(x >>> (56-8*i)) &&& 255#64:=by
 unfold bt;rw[←Ox,Kf]
theorem Nn (j:Nat):(255#64:BitVec 64).getLsbD j=decide (j<8):=by
 rcases Nat.lt_or_ge j 64 with h|h
 · have:∀ j:Fin 64,(255#64:BitVec 64).getLsbD j.1=decide (j.1<8):=by decide
   exact this ⟨j,h⟩
 · rw[BitVec.getLsbD_of_ge _ _ h];simp;omega
theorem L5 (x:BitVec 64)(k:Nat)(hk:k<8):(x >>> (64-8*k)) <<< 8 ||| wd (bt x k)=x >>> (64-8*(k+1)):=by
 rw[Qas];apply BitVec.eq_of_getLsbD_eq;intro j hj;simp only[BitVec.getLsbD_or,BitVec.getLsbD_shiftLeft,BitVec.getLsbD_ushiftRight,BitVec.getLsbD_and,Nn];by_cases h:j<8
 · have e:56-8*k+j=64-8*(k+1)+j:=by omega
   simp[h,e]
 · have e:64-8*k+(j-8)=64-8*(k+1)+j:=by omega
   simp[h,hj,e]
theorem Je (x:BitVec 64):x >>> 64=0#64:=BitVec.ushiftRight_eq_zero (Nat.le_refl _)
theorem Qx (p:W2)(k:Nat)(h:k<8):(kb p)[k]? = some (.int .u8 (bt p.1 k)):=by
 match k,h with
 | 0,_|1,_|2,_|3,_|4,_|5,_|6,_|7,_=>rfl
theorem Qw (p:W2)(k:Nat)(h:k<8):(kb p)[8+k]? = some (.int .u8 (bt p.2 k)):=by
 match k,h with
 | 0,_|1,_|2,_|3,_|4,_|5,_|6,_|7,_=>rfl
theorem Mp (p:W2)(k:Nat)(h:k<8):(kb p)[0+(k:Int).toNat*1]? = some (.int .u8 (bt p.1 k)):=by simpa using Qx p k h
theorem Mn (p:W2)(k:Nat)(h:k<8):(kb p)[0+(8+(k:Int)).toNat*1]? = some (.int .u8 (bt p.2 k)):=by
 have e:(8+(k:Int)).toNat=8+k:=by omega
 rw[Nat.zero_add,Nat.mul_one,e];exact Qw p k h
theorem Vd {x y:BitVec 64}(h:∀ i,i<8→bt x i=bt y i):x=y:=by
 have key:∀ k,k≤8→x >>> (64-8*k)=y >>> (64-8*k):=by
  intro k
  induction k with
  | zero=>intro _;simp[Je]
  | succ k ih=>
   intro hk;rw[←L5 x k (by omega),←L5 y k (by omega),ih (by omega),h k (by omega)]
 simpa using key 8 (Nat.le_refl _)
theorem kB {p q:W2}(h:kb p=kb q):p=q:=by
 have e:∀ k:Nat,(kb p)[k]? = (kb q)[k]? := fun k=>by rw[h]
 refine Prod.ext (Vd fun i hi=>?_) (Vd fun i hi=>?_)
 · have:=e i;rw[Qx p i hi,Qx q i hi] at this;simpa using this
 · have:=e (8+i);rw[Qw p i hi,Qw q i hi] at this;simpa using this
def oV (p:W2)(k:Nat):List Value:=(List.range 16).map fun i=>if i<8 then(if i<k then .int .u8 (bt p.1 i) else .int .u8 0) else(if i-8<k then .int .u8 (bt p.2 (i-8)) else .int .u8 0)
theorem Mr (p:W2):oV p 0=List.replicate 16 (.int .u8 0):=by simp[oV,List.range,List.range.loop]
theorem Pk (p:W2)(k:Nat):(oV p k).length=16:=by simp[oV]
theorem Mt (p:W2)(k:Nat)(h:k<8):((oV p k).set k (.int .u8 (bt p.1 k))).set (8+k) (.int .u8 (bt p.2 k))=oV p (k+1):=by
 match k,h with
 | 0,_|1,_|2,_|3,_|4,_|5,_|6,_|7,_=>rfl
theorem Ms (p:W2)(k:Nat)(h:k<8):((oV p k).set (0+(k:Int).toNat*1) (.int .u8 (un (p.1 >>> (56-8*(k:Int)).toNat)%256))).set (0+(8+(k:Int)).toNat*1) (.int .u8 (un (p.2 >>> (56-8*(k:Int)).toNat)%256))=oV p (k+1):=by
 have e1:0+(k:Int).toNat*1=k:=by omega
 have e2:0+(8+(k:Int)).toNat*1=8+k:=by omega
 have e3:(56-8*(k:Int)).toNat=56-8*k:=by omega
 rw[e1,e2,e3];exact Mt p k h
end Go.Sx

end
