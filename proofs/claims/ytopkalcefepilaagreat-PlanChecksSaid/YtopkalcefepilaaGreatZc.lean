/- Several texts in one: MirB MirC MirD MirE MirF MirG Wd MirH MirI We MirJ MirK MirL Sq Row Opn OpnD Pln Wf. -/
import Derived.Test.YtopkalcefepilaaGreatZb
import Derived.Laws.IdiomStrings
import Derived.Laws.Strings
import Derived.Laws.IdiomCopy
import Derived.Laws.IdiomRangeMap
import Derived.ControlIn
import Derived.Laws.CopyRow
import Derived.Laws.Slices
import Derived.Test.YtopkalcefepilaaGreatRows
import Derived.ProofKit
import Derived.OpenShut
import Derived.ShutString
import Derived.ChangeOld
import Derived.Below
import Derived.Carry
import Derived.SizedLaws
set_option linter.unusedVariables false
set_option linter.unusedSimpArgs false
section
set_option linter.unusedVariables false
set_option linter.unusedSimpArgs false
namespace Go.Sx
open Go Go.RowKit
def Ze:List (Nat × Nat)→Nat→Prop
 | [],_=>True
 | (z,g)::r,k=>(z=0∨k≠g)∧Ze r k
def Mz:List (Nat × Nat)→Nat→Prop
 | [],_=>False
 | (z,g)::r,k=>(k=g∧z≠0)∨Mz r k
def Ko (l:List (Nat × Nat))(z g base:Nat):Prop:=z=0∨base≤g∨Mz l g
def Kg:List (Nat × Nat)→List (Nat × Nat)→Nat→Prop
 | [],_,_=>True
 | (z,g)::r,l,base=>Ko l z g base∧Kg r l base
theorem Vr {g:Nat}:∀ {ms:List Nat},Mz (ms.map fun b=>(1,b)) g↔g∈ms
 | []=>by simp[Mz]
 | a::r=>by simp[Mz,Vr]
theorem Qk9:∀ {l:List (Nat × Nat)} {k g:Nat},Ze l k→Mz l g→k≠g
 | [],k,g,_,h=>h.elim
 | (z,b)::r,k,g,hn,h=>by
  rcases h with⟨h1,h2⟩|h
  · subst h1;rcases hn.1 with h0|h0
    · exact absurd h0 h2
    · exact h0
  · exact Qk9 hn.2 h
theorem Qeu {l:List (Nat × Nat)}{z g base k:Nat}(h:Ko l z g base)(hk:k<base)(hn:Ze l k):z=0∨k≠g:=by
 rcases h with h|h|h
 · exact .inl h
 · exact .inr (by omega)
 · exact .inr (Qk9 hn h)
theorem Ak {l:List (Nat × Nat)}{base k:Nat}(hk:k<base)(hn:Ze l k):∀ {m:List (Nat × Nat)},Kg m l base→Ze m k
 | [],_=>trivial
 | (z,g)::r,h=>⟨Qeu h.1 hk hn,Ak hk hn h.2⟩
structure Kz (l:List (Nat × Nat))(w w':World):Prop where
 os:w'.os=w.os
 tape:w'.tape=w.tape
 output:w'.output=w.output
 size:w.heap.size≤w'.heap.size
 block:∀ k,k<w.heap.size→Ze l k→w'.heap[k]? = w.heap[k]?
section
variable {l m:List (Nat × Nat)} {w w₁ w₂ w':World} {z g b o sz:Nat} {t e:TypeId} {cs:List Value} {v:Value} {xs:List (List Value)}
theorem Kz.refl (l:List (Nat × Nat))(w:World):Kz l w w:=⟨rfl,rfl,rfl,Nat.le_refl _,fun _ _ _=>rfl⟩
theorem Kz.gr (h:Kz l w w₁)(k:Gr w₁ w₂):Kz l w w₂:=⟨k.os.trans h.os,k.tape.trans h.tape,k.output.trans h.output,Nat.le_trans h.size k.size,fun i hi hn=>(k.block i (Nat.lt_of_lt_of_le hi h.size)).trans (h.block i hi hn)⟩
theorem Kz.md (h:Kz l w w₁)(k:Md b w₁ w₂)(hb:Ko l 1 b w.heap.size:=by simp only[Ze,Kg,Ko,Vr,Mz,or_true,true_or,and_true,List.mem_cons,List.mem_append,Xt,List.not_mem_nil,or_false,false_or,not_or,ne_eq,List.nil_append,List.cons_append,true_and,and_true,false_and,and_false,not_true_eq_false,not_false_eq_true,or_true,true_or]<;>omega):Kz l w w₂:=⟨k.os.trans h.os,k.tape.trans h.tape,k.output.trans h.output,by rw[k.size];exact h.size,fun i hi hn=>(k.block i (by have:=Qeu hb hi hn;omega)).trans (h.block i hi hn)⟩
theorem Kz.ka (h:Kz l w w₁)(k:Ka z g w₁ w₂)(hb:Ko l z g w.heap.size:=by simp only[Ze,Kg,Ko,Vr,Mz,or_true,true_or,and_true,List.mem_cons,List.mem_append,Xt,List.not_mem_nil,or_false,false_or,not_or,ne_eq,List.nil_append,List.cons_append,true_and,and_true,false_and,and_false,not_true_eq_false,not_false_eq_true,or_true,true_or]<;>omega):Kz l w w₂:=⟨k.os.trans h.os,k.tape.trans h.tape,k.output.trans h.output,Nat.le_trans h.size k.size,fun i hi hn=>(k.block i (Nat.lt_of_lt_of_le hi h.size) (Qeu hb hi hn)).trans (h.block i hi hn)⟩
theorem Kz.kz (h:Kz l w w₁)(k:Kz m w₁ w₂)(hb:Kg m l w.heap.size:=by simp only[Ze,Kg,Ko,Vr,Mz,or_true,true_or,and_true,List.mem_cons,List.mem_append,Xt,List.not_mem_nil,or_false,false_or,not_or,ne_eq,List.nil_append,List.cons_append,true_and,and_true,false_and,and_false,not_true_eq_false,not_false_eq_true,or_true,true_or]<;>omega):Kz l w w₂:=⟨k.os.trans h.os,k.tape.trans h.tape,k.output.trans h.output,Nat.le_trans h.size k.size,fun i hi hn=>(k.block i (Nat.lt_of_lt_of_le hi h.size) (Ak hi hn hb)).trans (h.block i hi hn)⟩
theorem Kz.kp {ms:List Nat}(h:Kz l w w₁)(k:Kp ms w₁ w₂)(hb:Kg (ms.map fun b=>(1,b)) l w.heap.size):Kz l w w₂:=⟨k.os.trans h.os,k.tape.trans h.tape,k.output.trans h.output,Nat.le_trans h.size k.size,fun i hi hn=>(k.block i (Nat.lt_of_lt_of_le hi h.size) (fun hm=>by
 have h1:=Ak hi hn hb
 have key:∀ (ms:List Nat),i∈ms→Ze (ms.map fun b=>(1,b)) i→False:=by
  intro ms
  induction ms with
  | nil=>intro h;cases h
  | cons a r ih=>
   intro h h2
   rcases List.mem_cons.1 h with rfl|h
   · have:=h2.1;omega
   · exact ih h h2.2
 exact key ms hm h1)).trans (h.block i hi hn)⟩
theorem Gr.kz (h:Gr w w₁)(k:Kz m w₁ w₂)(hb:Kg m [] w.heap.size:=by simp only[Ze,Kg,Ko,Vr,Mz,or_true,true_or,and_true,List.mem_cons,List.mem_append,Xt,List.not_mem_nil,or_false,false_or,not_or,ne_eq,List.nil_append,List.cons_append,true_and,and_true,false_and,and_false,not_true_eq_false,not_false_eq_true,or_true,true_or]<;>omega):Gr w w₂:=⟨k.os.trans h.os,k.tape.trans h.tape,k.output.trans h.output,Nat.le_trans h.size k.size,fun i hi=>(k.block i (Nat.lt_of_lt_of_le hi h.size) (Ak (l:=[]) hi trivial hb)).trans (h.block i hi)⟩
theorem Kp.kz {ms:List Nat}(h:Kp ms w w₁)(k:Kz m w₁ w₂)(hb:Kg m (ms.map fun b=>(1,b)) w.heap.size:=by simp only[Ze,Kg,Ko,Vr,Mz,or_true,true_or,and_true,List.mem_cons,List.mem_append,Xt,List.not_mem_nil,or_false,false_or,not_or,ne_eq,List.nil_append,List.cons_append,true_and,and_true,false_and,and_false,not_true_eq_false,not_false_eq_true,or_true,true_or]<;>omega):Kp ms w w₂:=⟨k.os.trans h.os,k.tape.trans h.tape,k.output.trans h.output,Nat.le_trans h.size k.size,fun i hi hn=>(k.block i (Nat.lt_of_lt_of_le hi h.size) (Ak hi (by
 have key:∀ (ms:List Nat),i∉ms→Ze (ms.map fun b=>(1,b)) i:=by
  intro ms
  induction ms with
  | nil=>intro _;trivial
  | cons a r ih=>intro h;exact⟨.inr (fun e=>h (by rw[e];simp)),ih (fun h2=>h (by simp[h2]))⟩
 exact key ms hn) hb)).trans (h.block i hi hn)⟩
theorem Bx.kz (h:Bx w b t cs)(k:Kz l w w')(hn:Ze l b:=by simp only[Ze,Kg,Ko,Vr,Mz,or_true,true_or,and_true,List.mem_cons,List.mem_append,Xt,List.not_mem_nil,or_false,false_or,not_or,ne_eq,List.nil_append,List.cons_append,true_and,and_true,false_and,and_false,not_true_eq_false,not_false_eq_true,or_true,true_or]<;>omega):Bx w' b t cs:=(k.block b h.lt hn).trans h
theorem Qk.kz (h:Qk w z g e sz v xs)(k:Kz l w w')(hn:z=0∨Ze l g:=by simp only[Ze,Kg,Ko,Vr,Mz,or_true,true_or,and_true,List.mem_cons,List.mem_append,Xt,List.not_mem_nil,or_false,false_or,not_or,ne_eq,List.nil_append,List.cons_append,true_and,and_true,false_and,and_false,not_true_eq_false,not_false_eq_true,or_true,true_or]<;>omega):Qk w' z g e sz v xs:=h.keep (hn.imp id fun hn hl=>k.block g hl hn)
theorem Rd.kz (h:Rd w z g o sz v xs)(k:Kz l w w')(hn:z=0∨Ze l g:=by simp only[Ze,Kg,Ko,Vr,Mz,or_true,true_or,and_true,List.mem_cons,List.mem_append,Xt,List.not_mem_nil,or_false,false_or,not_or,ne_eq,List.nil_append,List.cons_append,true_and,and_true,false_and,and_false,not_true_eq_false,not_false_eq_true,or_true,true_or]<;>omega):Rd w' z g o sz v xs:=h.keep (hn.imp id fun hn hl=>k.block g hl hn) k.size
theorem Df.kz {D:Nat}(h:Df w D)(k:Kz l w w')(hn:Ze l D:=by simp only[Ze,Kg,Ko,Vr,Mz,or_true,true_or,and_true,List.mem_cons,List.mem_append,Xt,List.not_mem_nil,or_false,false_or,not_or,ne_eq,List.nil_append,List.cons_append,true_and,and_true,false_and,and_false,not_true_eq_false,not_false_eq_true,or_true,true_or]<;>omega):Df w' D:=(k.block D h.lt hn).trans h
theorem Rd.oneB (h:Rd w z g o sz v xs):oneB v=true:=by
 rcases h.2 with⟨_,_,a,c,rfl⟩|⟨_,c,rfl,_⟩<;>rfl
end
theorem Qnr {sz:Nat}{α:Type}{c:α→List Value}{l:List α}(h:∀ x∈l,(c x).length=sz∧Zx (c x)=true):Ws sz (l.map c):=fun y hy=>by
 obtain⟨x,hx,rfl⟩:=List.mem_map.1 hy
 exact h x hx
theorem Dx (k:IntKind)(n:Int):oneB (.int k n)=true:=rfl
theorem Dw (b:Bool):oneB (.bool b)=true:=rfl
theorem Dy (b:ByteArray):oneB (.string b)=true:=rfl
theorem Qwh {P:Program}{r:Option Nat}{n:Nat}{Q:Exit→List Deferred→Qv→World→Prop}{D:List Deferred}{L:Qv}{w:World}{x y:Code}{β:Type}(dead:List Nat)(dyn:β→Qv)(J:β→World→Prop)
 (hk:∀ b w1,J b w1→SW P r n y Q D (dyn b++Wi dead L) w1)
 (h:SW P r n x (Wh (fun D1 L1 w1=>D1=D∧∃ b,Wm (dyn b++Wi dead L) L1∧J b w1) Q) D L w):SW P r n (.seq x y) Q D L w:=
 Qh (h.mono fun e D1 L1 w1 hh=>by
  cases e with
  | normal=>obtain⟨rfl,b,h1,h2⟩:=hh;exact(hk b w1 h2).forget h1
  | exit id=>exact hh
  | goto l=>exact hh
  | ret=>exact hh
  | panic c=>exact hh
  | outgrown=>exact hh)
section
variable {P:Program} {L:Qv} {w:World} {dst:Option Nat} {ty:TypeId} {pos:String} {af:Array Edge} {gu:Option (Nat × Bool)} {x y:Operand} {t u:TypeId}
theorem Qgu {p:Prop}[Decidable p](hx:ev L x=some (.bool (decide p))):VV P L ⟨dst,.unOp .not t x,ty,pos,af,gu⟩ w (.bool (decide (¬ p))):=Jw (Zr hx) (by by_cases h:p<;>simp[h])
def Qm9:Value→Bool
 | .pointer (some _)=>true
 | .func (.func _) _ _=>true
 | _=>false
theorem Dl {v:Value}(hx:ev L x=some v)(hs:Qm9 v=true):VV P L ⟨dst,.nilCheck x,ty,pos,af,gu⟩ w v:=fun ρ hρ=>by
 simp only[execOp,hρ _ _ hx]
 unfold Qm9 at hs
 split at hs<;>first|rfl|cases hs
theorem Qn9 {a b:Bool}(hu:P.underlying t=some .bool)(hx:ev L x=some (.bool a))(hy:ev L y=some (.bool b)):VV P L ⟨dst,.binOp .eql t x y u,ty,pos,af,gu⟩ w (.bool (a == b)):=fun ρ hρ=>by
 simp[execOp,hρ _ _ hx,hρ _ _ hy,go_sem,run_eql_bool _ _ _ _ hu]
theorem Qni {a b:Bool}(hu:P.underlying t=some .bool)(hx:ev L x=some (.bool a))(hy:ev L y=some (.bool b)):VV P L ⟨dst,.binOp .neq t x y u,ty,pos,af,gu⟩ w (.bool (a != b)):=fun ρ hρ=>by
 simp[execOp,hρ _ _ hx,hρ _ _ hy,go_sem,run_neq_bool _ _ _ _ hu];cases a<;>cases b<;>rfl
theorem Qhx {p:Prop}[Decidable p]{q:Prop}(h:q↔p):Vw q=decide p:=by
 by_cases hp:p
 · rw[Ct (h.2 hp)];simp[hp]
 · rw[Qhz (fun hq=>hp (h.1 hq))];simp[hp]
theorem Qna {α:Type}[DecidableEq α]{cf:α→List Value}{a b:α}{ks:List Ck}(h:Ty P t ks)(hx:ev L x=some (.agg (cf a).toArray))(hy:ev L y=some (.agg (cf b).toArray))(hc:kn ks (cf a)=true)(hd:kn ks (cf b)=true)(inj:cf a=cf b→a=b):
 VV P L ⟨dst,.binOp .eql t x y u,ty,pos,af,gu⟩ w (.bool (decide (a=b))):=Jw (Qx0 h hx hy hc hd) (by rw[Qhx ⟨inj,fun h=>by rw[h]⟩])
theorem Qx7 {α:Type}[DecidableEq α]{cf:α→List Value}{a b:α}{ks:List Ck}(h:Ty P t ks)(hx:ev L x=some (.agg (cf a).toArray))(hy:ev L y=some (.agg (cf b).toArray))(hc:kn ks (cf a)=true)(hd:kn ks (cf b)=true)(inj:cf a=cf b→a=b):
 VV P L ⟨dst,.binOp .neq t x y u,ty,pos,af,gu⟩ w (.bool (decide (a≠b))):=Jw (Qx6 h hx hy hc hd) (by rw[Qhx (p:=a=b) ⟨inj,fun h=>by rw[h]⟩];by_cases h:a=b<;>simp[h])
theorem Vv {a b:Int}{k:IntKind}(h:some (Value.int k a)=some (.int k b)):a=b:=by simpa using h
theorem Qdw {a b:BitVec 64}(h:some (wv a)=some (wv b)):a=b:=Qd7 (Vv h)
theorem Qha {a b:BitVec 8}(h:some (bv a)=some (bv b)):a=b:=Qmy (Vv h)
theorem Zs {b' off:Nat}{tb:TypeId}{v:Value}{cs cs':List Value}(hs:Vn P t 1)(hx:ev L x=some (.pointer (some ⟨b',off,none⟩)))(hy:ev L y=some v)(h1:oneB v=true)(hb:Bx w b' tb cs)(hl:Nat.blt off cs.length=true)(he:cs.set off v=cs'):
 EV P L ⟨dst,.store t x y,ty,pos,af,gu⟩ w fun _ w'=>Bx w' b' tb cs'∧Md b' w w':=by
 subst he;exact Qr3 hs hx hy h1 hb (by simpa using hl)
theorem Qj7 {b' off m:Nat}{tb:TypeId}{v:Value}{cs vs cs':List Value}(hs:Vn P t m)(hx:ev L x=some (.pointer (some ⟨b',off,none⟩)))(hy:ev L y=some v)(hc:v.cells=vs.toArray)(hm:vs.length=m)(h1:Zx vs=true)(hb:Bx w b' tb cs)(hl:Nat.ble (off+m) cs.length=true)(he:Vg cs off vs=cs'):
 EV P L ⟨dst,.store t x y,ty,pos,af,gu⟩ w fun _ w'=>Bx w' b' tb cs'∧Md b' w w':=by
 subst he;exact Qei hs hx hy hc hm h1 hb hl
end
section
variable {P:Program} {L:Qv} {w:World} {dst:Option Nat} {ty:TypeId} {pos:String} {af:Array Edge} {gu:Option (Nat × Bool)} {x y:Operand} {t e:TypeId} {z g sz:Nat} {v:Value}
theorem Qwb (cs:List Value)(off:Nat)(vs:List Value)(h:off+vs.length≤cs.length):(Vg cs off vs).length=cs.length:=by simp[Vg];omega
theorem Qwk (cs:List Value)(off n:Nat)(vs:List Value)(h:off+vs.length≤n)(hn:n≤cs.length):(Vg cs off vs).take n=Vg (cs.take n) off vs:=by
 have e1:(cs.take off).length=off:=by simp;omega
 unfold Vg
 rw[List.take_append,List.take_append,List.length_append,e1,List.take_of_length_le (l:=cs.take off) (by omega),List.take_of_length_le (l:=vs) (by omega),List.take_take,Nat.min_eq_left (by omega),List.drop_take]
theorem Qjf:∀ (xs:List (List Value)) (i q:Nat) (c vs:List Value),Ws sz xs→xs[i]? = some c→q+vs.length≤sz→(xs.set i (Vg c q vs)).flatten=Vg xs.flatten (i*sz+q) vs
 | [],i,q,c,vs,_,hi,_=>by simp at hi
 | a::xs,0,q,c,vs,h,hi,hq=>by
  simp at hi;subst hi
  have ha:=(h a (by simp)).1
  simp only[List.set_cons_zero,List.flatten_cons,Nat.zero_mul,Nat.zero_add,Vg]
  rw[List.take_append_of_le_length (by omega),List.drop_append_of_le_length (by omega)]
  simp
 | a::xs,i+1,q,c,vs,h,hi,hq=>by
  simp at hi
  have ha:=(h a (by simp)).1
  have ih:=Qjf xs i q c vs (fun y hy=>h y (List.mem_cons_of_mem _ hy)) hi hq
  rw[List.set_cons_succ,List.flatten_cons,ih,List.flatten_cons];simp only[Vg]
  have e1:(i+1)*sz+q=a.length+(i*sz+q):=by rw[ha,Nat.add_mul];omega
  rw[e1,List.take_append,List.take_of_length_le (l:=a) (by omega),show a.length+(i*sz+q)-a.length=i*sz+q from by omega,List.drop_append,@List.drop_eq_nil_of_le _ a _ (by omega),show a.length+(i*sz+q)+vs.length-a.length=i*sz+q+vs.length from by omega]
  simp
theorem Yt {α:Type}{l:List α}{c:α→List Value}{a a':α}{i:Int}{p q m:Nat}{u:Value}{vs:List Value}(hs:Vn P t m)(hx:ev L x=some (.pointer (some ⟨g,p,none⟩)))(hy:ev L y=some u)(hc:u.cells=vs.toArray)(hm:vs.length=m)(h1:Zx vs=true)
 (h:Qk w z g e sz v (l.map c)) (hg:Xd l i=some a) (hp:p=i.toNat*sz+q) (hq:Nat.ble (q+m) sz=true) (he:Vg (c a) q vs=c a') (hw:(c a').length=sz∧Zx (c a')=true):
 EV P L ⟨dst,.store t x y,ty,pos,af,gu⟩ w fun _ w'=>Qk w' z g e sz v ((l.set i.toNat a').map c)∧Md g w w':=by
 have hq':=Nat.le_of_ble_eq_true hq
 have hi:=Tn hg
 have hxi:(l.map c)[i.toNat]? = some (c a):=Tp hi
 have hil:=(List.getElem?_eq_some_iff.1 hxi).1
 rcases h.2 with⟨_,_,h0⟩|⟨hz,cap,cur,hv,hb,hn,hcap,hsz,htk⟩
 · rw[h0] at hxi;simp at hxi
 · have hbx:Bx w g e cur.toList:=by unfold Bx;simpa using hb
   have hfl:=h.1.flat
   have hle:(l.map c).length*sz≤cur.toList.length:=by rw[show cur.toList.length=cap*sz from hsz];exact Nat.mul_le_mul_right _ hn
   have hin:i.toNat*sz+sz≤(l.map c).length*sz:=by rw[←Nat.succ_mul];exact Nat.mul_le_mul_right _ hil
   have hbd:i.toNat*sz+q+vs.length≤cur.toList.length:=by omega
   refine(Qei (off:=p) hs hx hy hc hm h1 hbx (by rw[Nat.ble_eq_true_of_le];omega)).mono ?_
   rintro _ w' ⟨h2,h3⟩
   have hset:(l.set i.toNat a').map c=(l.map c).set i.toNat (Vg (c a) q vs):=by rw[List.map_set,he]
   refine⟨⟨?_,.inr ⟨hz,cap,(Vg cur.toList p vs).toArray,?_,h2,?_,hcap,?_,?_⟩⟩,h3⟩
   · rw[hset];intro y hy
     rcases List.mem_or_eq_of_mem_set hy with hy|hy
     · exact h.1 y hy
     · subst hy;rw[he];exact hw
   · rw[hv];simp
   · simpa using hn
   · rw[List.size_toArray,hp,Qwb _ _ _ (by omega),Array.length_toList];exact hsz
   · rw[hset,Qjf _ _ _ _ _ h.1 hxi (by omega),←htk,hp,List.length_set]
     exact Qwk _ _ _ _ (by omega) hle
theorem Qk5 (z:List Value)(h:0<z.length):∀ n,((List.range (n*z.length)).map fun i=>z.toArray[i%z.toArray.size]!)=(List.replicate n z).flatten
 | 0=>by simp
 | n+1=>by
  rw[Nat.add_mul,Nat.one_mul,List.range_add,List.map_append,Qk5 z h n,List.map_map,List.replicate_succ',List.flatten_append]
  congr 1
  apply List.ext_getElem (by simp)
  intro i h1 h2
  have hi:i<z.length:=by simpa using h1
  have e1:(n*z.length+i)%z.length=i:=by rw[Nat.mul_comm,Nat.mul_add_mod,Nat.mod_eq_of_lt hi]
  simp[e1,hi]
theorem Qeh {bytes:Nat}{zv:Value}{α:Type}{c:α→List Value}{a:α}{n:Int}{l:List α}(ha:Ph P t e sz bytes)(hz:ZV P e zv)(hc:zv.cells=(c a).toArray)(hs:(c a).length=sz∧Zx (c a)=true)(hx:ev L x=some (.int .i64 n))(hl:Nb bytes n a=some l)(hpos:1≤bytes):
 EV P L ⟨dst,.makeSlice t x x,ty,pos,af,gu⟩ w fun v' w'=>∃ g',w.heap.size≤g'∧Qk w' 1 g' e sz v' (l.map c)∧Gr w w':=fun ρ hρ=>by
 obtain⟨rfl,h0,hb⟩:=Qk6 hl
 obtain⟨i,zv',hi,hzv,hsz,hby,hzs⟩:=ha.info
 have hzz:zv'=zv:=by
  have h1:=hz w
  simp[zeroValue,typeInfo,hi,hzv] at h1
  exact h1
 subst hzz hsz hby
 have hle:n≤n*i.bytes:=by have:=Int.mul_le_mul_of_nonneg_left (show(1:Int)≤i.bytes by omega) h0;omega
 have hbc:(i.bytes:Int)*n=n*i.bytes:=Int.mul_comm _ _
 have hrun:=run_make (P:=P) w t e i zv' ha.und hi hzv .i64 .i64 n n h0 (Int.le_refl _) (by omega) (by omega)
 have hmade:(madeCells zv'.cells (n.toNat*i.size)).toList=(List.replicate n.toNat (c a)).flatten:=by
  rw[hc];unfold madeCells
  rw[Array.toList_map,Array.toList_range,←hs.1]
  exact Qk5 (c a) (by rw[hs.1];exact ha.pos) n.toNat
 have hws:Ws i.size ((List.replicate n.toNat a).map c):=Qnr (fun y hy=>by rw[List.eq_of_mem_replicate hy];exact hs)
 refine .val _ _ (Wp ?_) ⟨w.heap.size,Nat.le_refl _,⟨hws,.inr ⟨rfl,n.toNat,madeCells zv'.cells (n.toNat*i.size),by rw[List.length_map,List.length_replicate],heap_alloc_new w _,by rw[List.length_map,List.length_replicate];exact Nat.le_refl _,by simp only[maxLen];omega,size_madeCells _ _,?_⟩⟩,(Below.refl _ _).alloc (Nat.le_refl _) _⟩
 · rw[hρ _ _ hx];exact hrun
 · rw[List.length_map,List.length_replicate,List.map_replicate,←hmade,List.take_of_length_le (by rw[Array.length_toList,size_madeCells];exact Nat.le_refl _)]
def Fh (L:Qv)(o:Option Operand)(d v:Int):Prop:=match o with
 | none=>v=d
 | some x=>∃ k,ev L x=some (.int k v)
theorem Qlu {a:Option Addr}{len cap:Nat}{lo hi:Int}{ol oh:Option Operand}{ρ:Operand→Value}(hρ:Pk L ρ)(hu:P.underlying t=some (.slice e))(hs:Vn P e sz)(h1:Fh L ol 0 lo)(h2:Fh L oh (len:Int) hi)(h0:0≤lo)(hlh:lo≤hi)(hh:hi≤len)(hcap:len≤cap):
 (Instr.sliceAt t (.slice a len cap) (ol.map ρ) (oh.map ρ) none).run P w=.ok (sliced a lo.toNat hi.toNat cap sz) w:=by
 have he:P.elem t=e:=by simp[Program.elem,hu]
 have hu':P.underlying t=some (.slice (P.elem t)):=by rw[he];exact hu
 rw[run_sliceAt_slice _ _ _ _ _ _ hu']
 cases ol with
 | none=>
  simp only[Fh] at h1;subst h1
  cases oh with
  | none=>simp only[Fh] at h2;subst h2;rw[Option.map_none,run_slice_all _ _ _ _ _ hu',he,hs w];simp[Result.andThen]
  | some q=>obtain⟨k,hq⟩:=h2;rw[Option.map_none,Option.map_some,hρ _ _ hq,run_slice_h _ _ _ _ _ hu' _ _ (by omega) (by omega),he,hs w];simp[Result.andThen]
 | some p=>
  obtain⟨k1,hp⟩:=h1
  cases oh with
  | none=>simp only[Fh] at h2;subst h2;rw[Option.map_none,Option.map_some,hρ _ _ hp,run_slice_l _ _ _ _ _ hu' _ _ h0 (by omega),he,hs w];simp[Result.andThen]
  | some q=>obtain⟨k,hq⟩:=h2;rw[Option.map_some,Option.map_some,hρ _ _ hp,hρ _ _ hq,run_slice_lh _ _ _ _ _ hu' _ _ _ _ h0 hlh (by omega),he,hs w];simp[Result.andThen]
theorem Qnk {α:Type}{c:α→List Value}{l m:List α}{lo hi:Int}{ol oh:Option Operand}{o:Nat}(hu:P.underlying t=some (.slice e))(hs:Vn P e sz)(hx:ev L x=some v)(hr:Rd w z g o sz v (l.map c))(h1:Fh L ol 0 lo)(h2:Fh L oh (l.length:Int) hi)(hl:Wg l lo hi=some m):
 ∃ v' o',(∀ w1,VV P L ⟨dst,.slice t x ol oh none,ty,pos,af,gu⟩ w1 v')∧Rd w z g o' sz v' (m.map c):=by
 obtain⟨rfl,h3,h4,h5⟩:=Qm3 hl
 rcases hr.2 with⟨hz,hnil,a,cap,rfl⟩|⟨hz,cap,rfl,⟨hg,hcap⟩,hcell⟩
 · have hl0:l=[]:=by simpa using hnil
   subst hl0
   simp only[List.length_nil] at h2 h5
   have e1:lo=0:=by omega
   have e2:hi=0:=by omega
   subst e1 e2
   refine⟨_,0,fun w1 ρ hρ=>Wp (by rw[hρ _ _ hx];exact Qlu hρ hu hs h1 h2 (by omega) (by omega) (by omega) (Nat.zero_le _)),by simpa using hr.1,.inl ⟨hz,by simp,?_⟩⟩
   exact⟨_,_,rfl⟩
 · rw[List.length_map] at hcap hx
   have hlen:((l.map c).take hi.toNat).length=hi.toNat:=by rw[List.length_take,List.length_map];omega
   have hm:(((l.take hi.toNat).drop lo.toNat).map c)=((l.map c).take hi.toNat).drop lo.toNat:=by rw[List.map_drop,List.map_take]
   have hml:(((l.take hi.toNat).drop lo.toNat).map c).length=hi.toNat-lo.toNat:=by rw[hm,List.length_drop,hlen]
   refine⟨_,if cap=lo.toNat then o else o+lo.toNat*sz,fun w1 ρ hρ=>Wp (by rw[hρ _ _ hx];exact Qlu hρ hu hs h1 h2 h3 h4 h5 hcap),by rw[hm];exact hr.1.take.drop,.inr ⟨hz,cap-lo.toNat,?_,⟨hg,by rw[hml];omega⟩,fun j u hj=>?_⟩⟩
   · simp only[sliced,hml]
     by_cases e:cap=lo.toNat
     · rw[if_pos e,if_pos e]
     · rw[if_neg e,if_neg e];simp[Addr.add_lit]
   · rw[hm,Qen _ _ hr.1.take,Qeo _ _ hr.1,List.getElem?_drop] at hj
     have hj2:(l.map c).flatten[lo.toNat*sz+j]? = some u:=by
      rw[List.getElem?_take] at hj
      split at hj
      · exact hj
      · cases hj
     by_cases e:cap=lo.toNat
     · exfalso
       have e2:hi.toNat=lo.toNat:=by omega
       rw[List.getElem?_take,e2] at hj
       split at hj
       · omega
       · cases hj
     · rw[if_neg e,Nat.add_assoc];exact hcell _ _ hj2
end
end Go.Sx
namespace Go.Sx
open Go
section
variable {P:Program} {n:Nat} {ops:Array Oper} {Q:Qv→World→Prop} {rest:List (Nat × Nat)} {i:Nat} {dst:Option Nat} {op:Op} {ty:TypeId} {pos:String} {af:Array Edge} {gu:Option (Nat × Bool)} {L:Qv} {w w₀:World} {ms:List Nat} {kp:Nat→Nat→Bool} {B:Value→Nat→Prop}
end
end Go.Sx

end
section
set_option linter.unusedVariables false
set_option linter.unusedSimpArgs false
namespace Go.Sx
open Go Go.RowKit
def Lc (x:BitVec 64)(i:Nat):BitVec 8:=(x >>> (56-8*i)).setWidth 8
section
variable {P:Program} {L:Qv} {w:World} {dst:Option Nat} {ty:TypeId} {pos:String} {af:Array Edge} {gu:Option (Nat × Bool)} {x y:Operand} {t e:TypeId} {z g o sz:Nat} {v:Value}
end
section
variable {P:Program} {L:Qv} {w:World} {dst:Option Nat} {ty:TypeId} {pos:String} {af:Array Edge} {gu:Option (Nat × Bool)} {x y:Operand} {t e:TypeId} {z g:Nat} {v:Value}
end
end Go.Sx

end
section
set_option linter.unusedVariables false
set_option linter.unusedSimpArgs false
namespace Go.Sx
open Go Go.RowKit
def Ku {α σ R:Type}(F:α→(σ→Option R)→σ→Option R)(d:σ→Option R)(l:List α):σ→Option R:=l.foldr F d
theorem Mg {α σ R:Type}(F:α→(σ→Option R)→σ→Option R)(d:σ→Option R)(a:α)(l:List α):Ku F d (a::l)=F a (Ku F d l):=rfl
theorem Am {α σ R:Type}{F:α→(σ→Option R)→σ→Option R}{d:σ→Option R}{l:List α}{k:Nat}{s:σ}{r:R}{a:α}(h:Ku F d (l.drop k) s=some r)(ha:l[k]? = some a):F a (Ku F d (l.drop (k+1))) s=some r:=by
 obtain⟨hk,rfl⟩:=List.getElem?_eq_some_iff.1 ha
 rw[List.drop_eq_getElem_cons hk,Mg] at h;exact h
theorem An {α β σ R:Type}{F:α→(σ→Option R)→σ→Option R}{d:σ→Option R}{l:List α}{c:α→β}{s:σ}{r:R}(h:Ku F d (l.drop (l.map c).length) s=some r):d s=some r:=by
 rw[List.length_map,List.drop_length] at h;exact h
theorem Qk.z1 {w:World}{z g sz:Nat}{e:TypeId}{v:Value}{α:Type}{l:List α}{c:α→List Value}{i:Int}{a:α}(h:Qk w z g e sz v (l.map c))(hg:Xd l i=some a):z=1:=by
 rcases h.2 with⟨_,_,h0⟩|⟨h1,_⟩
 · have:l=[]:=by simpa using h0
   subst this;have:=Qav hg;have:=Lv hg;simp at *;omega
 · exact h1
theorem Gv {l:List (Nat × Nat)}{ms:List Nat}{w w':World}(h:Kp ms w w')(hn:∀ k,Ze l k→k∉ms):Kz l w w':=⟨h.os,h.tape,h.output,h.size,fun k hk hl=>h.block k hk (hn k hl)⟩
theorem Rj {l:List (Nat × Nat)}{ms:List Nat}{w w':World}(h:Kz l w w')(hn:∀ k,k∉ms→Ze l k):Kp ms w w':=⟨h.os,h.tape,h.output,h.size,fun k hk hl=>h.block k hk (hn k hl)⟩
theorem Qk.hs {w w':World}{z g sz:Nat}{e:TypeId}{v:Value}{xs:List (List Value)}{ms:List Nat}(h:Qk w z g e sz v xs)(hs:∀ b∈ms,w'.heap[b]? = w.heap[b]?)(hm:z≠0→g∈ms):Qk w' z g e sz v xs:=
 h.keep (by by_cases hz:z=0;exact .inl hz;exact .inr fun _=>hs g (hm hz))
theorem Rd.hs {w w':World}{z g o sz:Nat}{v:Value}{xs:List (List Value)}{ms:List Nat}(h:Rd w z g o sz v xs)(he:Fg w w')(hs:∀ b∈ms,w'.heap[b]? = w.heap[b]?)(hm:z≠0→g∈ms):Rd w' z g o sz v xs:=
 h.keep (by by_cases hz:z=0;exact .inl hz;exact .inr fun _=>hs g (hm hz)) he.size
theorem Bk {α:Type}(p:α→Nat→Prop)(FP:α→List Nat)(F:α→World→Prop)(h1:∀ a W,F a W→∀ b∈FP a,b<W.heap.size)
 (h2:∀ a W W',F a W→Fg W W'→(∀ b∈FP a,W'.heap[b]? = W.heap[b]?)→F a W'):Wv fun k fp W=>∃ a,p a k∧fp=FP a∧F a W:=
 ⟨fun⟨a,_,h,hF⟩ b hb=>h1 a _ hF b (h ▸ hb),fun⟨a,hp,h,hF⟩ he hs=>⟨a,hp,h,h2 a _ _ hF he (h ▸ hs)⟩⟩
theorem Qm6 {J:Nat→List Nat→World→Prop}(p:Prop)(h:Wv J):Wv fun i fp W=>p∧J i fp W:=⟨fun h0 b hb=>h.lt h0.2 b hb,fun h0 he hs=>⟨h0.1,h.keep h0.2 he hs⟩⟩
def yl {α:Type}(x:α)(m:Option (List α)):Option (List α):=m.map (x :: ·)
theorem Ei {α:Type}{x:α}{m:Option (List α)}{r:List α}(h:yl x m=some r):∃ t,m=some t∧r=x::t:=by
 cases m with
 | none=>cases h
 | some t=>exact⟨t,rfl,(Option.some.inj h).symm⟩
def Dr {α:Type}(xs:List α)(k:Nat)(rr:List α):Prop:=k≤xs.length∧xs.drop k=rr
theorem Qam {α:Type}(xs:List α):Dr xs 0 xs:=⟨Nat.zero_le _,rfl⟩
theorem Dr.at {α:Type}{xs rr t:List α}{k:Nat}{x:α}(h:Dr xs k rr)(e:rr=x::t):xs[k]? = some x:=by
 have h1:=h.2;rw[e] at h1
 have:(xs.drop k)[0]? = some x:=by rw[h1];rfl
 rwa[List.getElem?_drop,Nat.add_zero] at this
theorem Dr.next {α:Type}{xs rr t:List α}{k:Nat}{x:α}(h:Dr xs k rr)(e:rr=x::t):Dr xs (k+1) t:=by
 have h0:=h.at e
 have hk:=(List.getElem?_eq_some_iff.1 h0).1
 refine⟨hk,?_⟩
 have h1:=h.2;rw[e,List.drop_eq_getElem_cons hk] at h1
 exact(List.cons.inj h1).2
theorem Dr.last {α β:Type}{xs rr:List α}{k:Nat}{c:α→β}(h:Dr xs k rr)(e:rr=[]):k=(xs.map c).length:=by
 have h1:=h.2;rw[e,List.drop_eq_nil_iff] at h1
 have:=h.1;rw[List.length_map];omega
theorem Wv.ka {J:Nat→List Nat→World→Prop}(hJ:Wv J){k z g:Nat}{f:List Nat}{W W':World}(h:J k f W)(a:Ka z g W W')(hb:z=0∨g∉f):J k f W':=hJ.keep h a.env fun c hc=>a.block c (hJ.lt h c hc) (by
 rcases hb with h0|h0
 · exact .inl h0
 · exact .inr (by rintro rfl;exact h0 hc))
end Go.Sx

end
section
set_option linter.unusedVariables false
set_option linter.unusedSimpArgs false
namespace Go.Sx
open Go Go.RowKit
inductive Tz
 | leaf (seg:List (Nat × Nat))
 | fork (seg:List (Nat × Nat)) (a b:Tz)
def Tz.heads:Tz→List Nat
 | .leaf []=>[]
 | .leaf ((i,_)::_)=>[i]
 | .fork [] a b=>a.heads++b.heads
 | .fork ((i,_)::_) _ _=>[i]
def Tz.len:Tz→Nat
 | .leaf s=>s.length
 | .fork s a _=>s.length+a.len
def Gx (l:List (Nat × Nat))(listed:Array Bool):Array Bool:=l.foldl (fun s x=>s.setIfInBounds x.1 true) listed
def Rr (ops:Array Oper)(kp:Nat→Nat→Bool):List (Nat × Nat)→Array Bool→Bool
 | [],_=>true
 | (i,c)::rest,listed=>(match Hy c with
  | some lv=>(Region.ready .any ops listed).contains i&&Region.free .any ops listed i&&Qaz ops (kp lv) listed i
  | none=>(Region.ready .any ops listed == [i]))&&Rr ops kp rest (listed.setIfInBounds i true)
def Ym (ops:Array Oper)(kp:Nat→Nat→Bool):Tz→Array Bool→Bool
 | .leaf [],_=>false
 | .leaf ((i,c)::s),listed=>(Hy c).isNone&&Rr ops kp s (listed.setIfInBounds i true)&&(Region.ready .any ops (Gx s (listed.setIfInBounds i true))).isEmpty
 | .fork [] a b,listed=>Ym ops kp a listed&&Ym ops kp b listed&&(a.len == b.len)
 | .fork ((i,c)::s) a b,listed=>(Hy c).isNone&&Rr ops kp s (listed.setIfInBounds i true)&&(Region.ready .any ops (Gx s (listed.setIfInBounds i true)) == a.heads++b.heads)
  && Ym ops kp a (Gx s (listed.setIfInBounds i true))&&Ym ops kp b (Gx s (listed.setIfInBounds i true))&&(a.len == b.len)
def Ar (ops:Array Oper)(kp:Nat→Nat→Bool):Tz→Array Bool→Bool
 | .leaf s,listed=>Rr ops kp s listed&&(Region.ready .any ops (Gx s listed)).isEmpty
 | .fork s a b,listed=>Rr ops kp s listed&&(Region.ready .any ops (Gx s listed) == a.heads++b.heads)&&Ym ops kp a (Gx s listed)&&Ym ops kp b (Gx s listed)&&(a.len == b.len)
def Vk (P:Program)(n:Nat)(ops:Array Oper)(Q:Qv→World→Prop)(S:Nat→World→Prop)(kp:Nat→Nat→Bool):Tz→Qv→World→Prop
 | .leaf s,L,w=>SD P n ops Q S kp s L w
 | .fork s a b,L,w=>SD P n ops (fun L w=>Vk P n ops Q S kp a L w∧Vk P n ops Q S kp b L w) S kp s L w
section
variable {P:Program} {r:Option Nat} {n:Nat} {ops:Array Oper} {Q:Qv→World→Prop} {S:Nat→World→Prop} {kp:Nat→Nat→Bool} {D:List Deferred} {QA:Exit→Act→World→Prop}
theorem SD.seg (hnd:Kr ops=true)(hQ:∀ c a w,¬ QA (.panic c) a w)(hO:¬ LetsOut QA){fuel:Nat}:
 ∀ (l:List (Nat × Nat)) (listed:Array Bool) (L:Qv) (a:Act) (w:World),Rr ops kp l listed=true→Jf n D L a→SD P n ops Q S kp l L w→
  (∀ L a w,Jf n D L a→Q L w→Go.Sx.anyH P r ops QA S kp fuel (Gx l listed) a w)→Go.Sx.anyH P r ops QA S kp (l.length+fuel) listed a w
 | [],listed,L,a,w,ho,hf,h,hk=>by rw[List.length_nil,Nat.zero_add];exact hk L a w hf h
 | (i,c)::rest,listed,L,a,w,ho,hf,h,hk=>by
  have hlen:((i,c)::rest).length+fuel=rest.length+fuel+1:=by simp;omega
  rw[hlen]
  unfold SD at h
  unfold Rr at ho
  cases hc:Hy c with
  | some lv=>
   rw[hc] at h ho
   obtain⟨o,v,hi,hd,hS,hv,hrest⟩:=h
   simp only[Bool.and_eq_true] at ho
   refine Go.Sx.Qgy hnd hi hQ hO (rest.length+fuel) listed a w (fun j oj h1 h2 h3 h4=>⟨Region.free_spec hi ho.1.1.2 j oj h1 h2 h3 h4,Qju ho.1.2 j oj h1 h2 h3 h4⟩) (by simpa using ho.1.1.1) ?_ hS
    (SD.seg hnd hQ hO rest _ _ _ w ho.2 (hf.put hd) hrest hk)
   rcases hv with⟨hg,hv⟩|⟨hg,rfl⟩
   · exact .inl ⟨Da hf hg,fun w' hw'=>hv w' hw' _ hf.cons⟩
   · exact .inr ⟨Da hf hg,rfl⟩
  | none=>
   rw[hc] at h ho
   obtain⟨o,hi,hd,h⟩:=h
   simp only[Bool.and_eq_true,beq_iff_eq] at ho
   refine⟨fun h0=>(by rw[ho.1] at h0;cases h0),fun j hj=>?_⟩
   rw[ho.1] at hj
   simp only[List.mem_singleton] at hj
   subst hj
   unfold wpOpIn
   simp only[hi]
   rcases h with⟨hg,R,hev,hk2⟩|⟨hg,hrest⟩
   · rw[Da hf hg,if_pos rfl]
     exact(hev _ hf.cons).uponIn (Kr.nd hnd hi) fun v w' hR=>⟨(hk2 v w' hR).1,SD.seg hnd hQ hO rest _ _ _ w' ho.2 (hf.put hd) (hk2 v w' hR).2 hk⟩
   · rw[Da hf hg]
     simp only[Bool.false_eq_true,if_false]
     exact⟨fun _ _=>trivial,fun _ _ h=>h,SD.seg hnd hQ hO rest _ _ _ w ho.2 (hf.put hd) hrest hk⟩
theorem SD.stepAny (hnd:Kr ops=true){i c:Nat}{s:List (Nat × Nat)}{listed:Array Bool}{L:Qv}{a:Act}{w:World}{fuel:Nat}(hc:(Hy c).isNone=true)(hf:Jf n D L a)(h:SD P n ops Q S kp ((i,c)::s) L w)
 (hk:∀ L a w,Jf n D L a→SD P n ops Q S kp s L w→Go.Sx.anyH P r ops QA S kp fuel (listed.setIfInBounds i true) a w):
 wpOpIn (Fw r) 0 P ops QA i (fun a' w'=>(∀ v,kp v i=true→S v w→S v w')∧Go.Sx.anyH P r ops QA S kp fuel (listed.setIfInBounds i true) a' w') a w:=by
 unfold SD at h
 rw[Option.isNone_iff_eq_none.1 hc] at h
 obtain⟨o,hi,hd,h⟩:=h
 unfold wpOpIn
 simp only[hi]
 rcases h with⟨hg,R,hev,hk2⟩|⟨hg,hrest⟩
 · rw[Da hf hg,if_pos rfl]
   exact(hev _ hf.cons).uponIn (Kr.nd hnd hi) fun v w' hR=>⟨(hk2 v w' hR).1,hk _ _ _ (hf.put hd) (hk2 v w' hR).2⟩
 · rw[Da hf hg]
   simp only[Bool.false_eq_true,if_false]
   exact⟨fun _ _=>trivial,fun _ _ h=>h,hk _ _ _ (hf.put hd) hrest⟩
theorem Qex:∀ (t:Tz) (listed:Array Bool),Ym ops kp t listed=true→∃ m,t.len=m+1
 | .leaf [],_,h=>by simp[Ym] at h
 | .leaf ((i,c)::s),_,_=>⟨s.length,by simp[Tz.len]⟩
 | .fork [] a b,listed,h=>by
  simp only[Ym,Bool.and_eq_true] at h
  obtain⟨m,hm⟩:=Qex a listed h.1.1
  exact⟨m,by simp[Tz.len,hm]⟩
 | .fork ((i,c)::s) a b,_,_=>⟨s.length+a.len,by simp[Tz.len];omega⟩
theorem Vk.kid (hnd:Kr ops=true)(hQ:∀ c a w,¬ QA (.panic c) a w)(hO:¬ LetsOut QA)(hq:∀ L a w,Jf n D L a→Q L w→QA .normal a w):
 ∀ (t:Tz) (listed:Array Bool) (L:Qv) (a:Act) (w:World) (m:Nat),Ym ops kp t listed=true→t.len=m+1→Jf n D L a→Vk P n ops Q S kp t L w→∀ i∈t.heads,
  wpOpIn (Fw r) 0 P ops QA i (fun a' w'=>(∀ v,kp v i=true→S v w→S v w')∧Go.Sx.anyH P r ops QA S kp m (listed.setIfInBounds i true) a' w') a w
 | .leaf [],_,_,_,_,_,ho,_,_,_,_,_=>by simp[Ym] at ho
 | .leaf ((i,c)::s),listed,L,a,w,m,ho,hl,hf,h,j,hj=>by
  simp only[Tz.heads,List.mem_singleton] at hj;subst hj
  simp only[Ym,Bool.and_eq_true] at ho
  have hm:m=s.length+0:=by simp[Tz.len] at hl;omega
  subst hm
  refine SD.stepAny hnd ho.1.1 hf h fun L a w hf h=>SD.seg hnd hQ hO s _ L a w ho.1.2 hf h fun L a w hf h=>⟨by simpa using ho.2,hq L a w hf h⟩
 | .fork [] x y,listed,L,a,w,m,ho,hl,hf,h,j,hj=>by
  simp only[Ym,Bool.and_eq_true,beq_iff_eq] at ho
  simp only[Tz.len,List.length_nil,Nat.zero_add] at hl
  simp only[Tz.heads,List.mem_append] at hj
  have h':Vk P n ops Q S kp x L w∧Vk P n ops Q S kp y L w:=h
  rcases hj with hj|hj
  · exact Vk.kid hnd hQ hO hq x listed L a w m ho.1.1 hl hf h'.1 j hj
  · exact Vk.kid hnd hQ hO hq y listed L a w m ho.1.2 (by rw[←ho.2];exact hl) hf h'.2 j hj
 | .fork ((i,c)::s) x y,listed,L,a,w,m,ho,hl,hf,h,j,hj=>by
  simp only[Tz.heads,List.mem_singleton] at hj;subst hj
  simp only[Ym,Bool.and_eq_true,beq_iff_eq] at ho
  have hm:m=s.length+x.len:=by simp[Tz.len] at hl;omega
  subst hm
  refine SD.stepAny hnd ho.1.1.1.1.1 hf h fun L a w hf h=>SD.seg hnd hQ hO s _ L a w ho.1.1.1.1.2 hf h fun L a w hf h=>?_
  obtain⟨mx,hx⟩:=Qex x _ ho.1.1.2
  have hy:y.len=mx+1:=by rw[←ho.2];exact hx
  rw[hx]
  refine⟨fun h0=>?_,fun k hk=>?_⟩
  · obtain⟨z,hz⟩:∃ z,z∈x.heads:=by
     have:∀ (t:Tz) (l:Array Bool),Ym ops kp t l=true→∃ z,z∈t.heads:=by
      intro t
      induction t with
      | leaf s=>intro l h;cases s with
       | nil=>simp[Ym] at h
       | cons a s=>exact⟨a.1,by simp[Tz.heads]⟩
      | fork s a b iha ihb=>intro l h;cases s with
       | nil=>
        simp only[Ym,Bool.and_eq_true] at h
        obtain⟨z,hz⟩:=iha l h.1.1
        exact⟨z,by simp[Tz.heads,hz]⟩
       | cons a s=>exact⟨a.1,by simp[Tz.heads]⟩
     exact this x _ ho.1.1.2
    rw[ho.1.1.1.2] at h0
    have:z∈x.heads++y.heads:=List.mem_append_left _ hz
    rw[h0] at this;cases this
  · rw[ho.1.1.1.2] at hk
    rcases List.mem_append.1 hk with hk|hk
    · exact Vk.kid hnd hQ hO hq x _ L a w mx ho.1.1.2 hx hf h.1 k hk
    · exact Vk.kid hnd hQ hO hq y _ L a w mx ho.1.2 hy hf h.2 k hk
theorem Qr8:∀ (t:Tz) (l:Array Bool),Ym ops kp t l=true→∃ z,z∈t.heads:=by
 intro t
 induction t with
 | leaf s=>intro l h;cases s with
  | nil=>simp[Ym] at h
  | cons a s=>exact⟨a.1,by simp[Tz.heads]⟩
 | fork s a b iha ihb=>intro l h;cases s with
  | nil=>
   simp only[Ym,Bool.and_eq_true] at h
   obtain⟨z,hz⟩:=iha l h.1.1
   exact⟨z,by simp[Tz.heads,hz]⟩
  | cons a s=>exact⟨a.1,by simp[Tz.heads]⟩
theorem Vk.anyH (hnd:Kr ops=true)(hQ:∀ c a w,¬ QA (.panic c) a w)(hO:¬ LetsOut QA)(hq:∀ L a w,Jf n D L a→Q L w→QA .normal a w)(t:Tz)(listed:Array Bool)(L:Qv)(a:Act)(w:World)(ho:Ar ops kp t listed=true)(hf:Jf n D L a)(h:Vk P n ops Q S kp t L w):
 Go.Sx.anyH P r ops QA S kp t.len listed a w:=by
 cases t with
 | leaf s=>
  simp only[Ar,Bool.and_eq_true] at ho
  exact SD.seg (fuel:=0) hnd hQ hO s listed L a w ho.1 hf h fun L a w hf h=>⟨by simpa using ho.2,hq L a w hf h⟩
 | fork s x y=>
  simp only[Ar,Bool.and_eq_true,beq_iff_eq] at ho
  obtain⟨mx,hx⟩:=Qex x _ ho.1.1.2
  have hy:y.len=mx+1:=by rw[←ho.2];exact hx
  refine SD.seg (fuel:=x.len) hnd hQ hO s listed L a w ho.1.1.1.1 hf h fun L a w hf h=>?_
  rw[hx]
  refine⟨fun h0=>?_,fun k hk=>?_⟩
  · obtain⟨z,hz⟩:=Qr8 (ops:=ops) (kp:=kp) x _ ho.1.1.2
    rw[ho.1.1.1.2] at h0
    have:z∈x.heads++y.heads:=List.mem_append_left _ hz
    rw[h0] at this;cases this
  · rw[ho.1.1.1.2] at hk
    rcases List.mem_append.1 hk with hk|hk
    · exact Vk.kid hnd hQ hO hq x _ L a w mx ho.1.1.2 hx hf h.1 k hk
    · exact Vk.kid hnd hQ hO hq y _ L a w mx ho.1.2 hy hf h.2 k hk
end
theorem Qlx {P:Program}{n:Nat}{ops:Array Oper}{Q:Qv→World→Prop}{S:Nat→World→Prop}{kp:Nat→Nat→Bool}{a b:Tz}{L:Qv}{w:World}(h1:Vk P n ops Q S kp a L w)(h2:Vk P n ops Q S kp b L w):SD P n ops (fun L w=>Vk P n ops Q S kp a L w∧Vk P n ops Q S kp b L w) S kp [] L w:=⟨h1,h2⟩
theorem Jp {P:Program}{n:Nat}{ops:Array Oper}{Q:Qv→World→Prop}{S:Nat→World→Prop}{kp:Nat→Nat→Bool}{s:List (Nat × Nat)}{L:Qv}{w:World}(h:SD P n ops Q S kp s L w):Vk P n ops Q S kp (.leaf s) L w:=h
theorem Qly {P:Program}{n:Nat}{ops:Array Oper}{Q:Qv→World→Prop}{S:Nat→World→Prop}{kp:Nat→Nat→Bool}{s:List (Nat × Nat)}{a b:Tz}{L:Qv}{w:World}(h:SD P n ops (fun L w=>Vk P n ops Q S kp a L w∧Vk P n ops Q S kp b L w) S kp s L w):Vk P n ops Q S kp (.fork s a b) L w:=h
end Go.Sx

end
section
set_option linter.unusedVariables false
set_option linter.unusedSimpArgs false
namespace Go.Sx
open Go Go.RowKit
def Zw (mss:List (List Nat))(w₀:World)(k:Nat)(w:World):Prop:=∀ ms,mss[k]? = some ms→Kp ms w₀ w
def kpN (tab:List (Nat × List Nat))(lv j:Nat):Bool:=tab.all fun x => !(Nat.beq x.1 j&&x.2.any (Nat.beq lv))
def Bu (p:Nat→List Nat→Prop):Nat→List (List Nat)→Prop
 | _,[]=>True
 | k,ms::r=>p k ms∧Bu p (k+1) r
theorem Bu.get {p:Nat→List Nat→Prop}:∀ {l:List (List Nat)} {o:Nat},Bu p o l→∀ k ms,l[k]? = some ms→p (o+k) ms
 | [],o,_,k,ms,h=>by simp at h
 | a::r,o,h,0,ms,hk=>by simp at hk;subst hk;exact h.1
 | a::r,o,h,k+1,ms,hk=>by
  have:=Bu.get h.2 k ms (by simpa using hk)
  rw[show o+(k+1)=o+1+k from by omega];exact this
theorem Kz.ofGr {w w':World}(h:Gr w w'):Kz [] w w':=(Kz.refl [] w).gr h
theorem Kz.ofMd {w w':World}{b:Nat}(h:Md b w w'):Kz [(1,b)] w w':=(Kz.refl _ w).md h (by simp[Ko,Mz])
theorem Kz.ofKa {w w':World}{z g:Nat}(h:Ka z g w w'):Kz [(z,g)] w w':=(Kz.refl _ w).ka h (by by_cases hz:z=0<;>simp[Ko,Mz,hz])
theorem Qk4 (k:Nat):Hy (k+10)=some k:=by
 have h1:Nat.beq (k+10) 1=false:=Cc (by omega)
 have h2:Nat.beq (k+10) 3=false:=Cc (by omega)
 have h3:Nat.ble 10 (k+10)=true:=Nat.ble_eq_true_of_le (by omega)
 unfold Hy
 rw[h1,h2,h3];simp
section
variable {P:Program} {n:Nat} {ops:Array Oper} {Q:Qv→World→Prop} {rest:List (Nat × Nat)} {i:Nat} {dst:Option Nat} {op:Op} {ty:TypeId} {pos:String} {af:Array Edge} {gu:Option (Nat × Bool)} {L:Qv} {w w₀:World} {mss:List (List Nat)} {kp:Nat→Nat→Bool} {ms:List Nat}
theorem Qal {v:Value}(k:Nat)(hi:ops[i]? = some ⟨dst,op,ty,pos,af,gu⟩)(hg:gd ops L ⟨dst,op,ty,pos,af,gu⟩=some true)(hd:Vy n dst=true)(hm:mss[k]? = some ms)(hS:Kp ms w₀ w)(hv:∀ w,Kp ms w₀ w→VV P L ⟨dst,op,ty,pos,af,gu⟩ w v)
 (h:SD P n ops Q (Zw mss w₀) kp rest (Zn dst v L) w):SD P n ops Q (Zw mss w₀) kp ((i,k+10)::rest) L w:=by
 have hl:=Qk4 k
 unfold SD
 rw[hl]
 exact⟨_,v,hi,hd,fun ms' h'=>by rw[hm] at h';cases h';exact hS,.inl ⟨hg,fun w hw=>hv w (hw ms hm)⟩,h⟩
theorem Qoy (k:Nat)(hi:ops[i]? = some ⟨dst,op,ty,pos,af,gu⟩)(hg:gd ops L ⟨dst,op,ty,pos,af,gu⟩=some false)(hd:Vy n dst=true)(hm:mss[k]? = some ms)(hS:Kp ms w₀ w)
 (h:SD P n ops Q (Zw mss w₀) kp rest (Zn dst undef L) w):SD P n ops Q (Zw mss w₀) kp ((i,k+10)::rest) L w:=by
 have hl:=Qk4 k
 unfold SD
 rw[hl]
 exact⟨_,undef,hi,hd,fun ms' h'=>by rw[hm] at h';cases h';exact hS,.inr ⟨hg,rfl⟩,h⟩
theorem Qox {t:Bool}(k:Nat)(hi:ops[i]? = some ⟨dst,op,ty,pos,af,gu⟩)(hg:gd ops L ⟨dst,op,ty,pos,af,gu⟩=some true)(hd:Vy n dst=true)(hm:mss[k]? = some ms)(hS:Kp ms w₀ w)(hv:∀ w,Kp ms w₀ w→VV P L ⟨dst,op,ty,pos,af,gu⟩ w (.bool t))
 (ht:t=true→SD P n ops Q (Zw mss w₀) kp rest (Zn dst (.bool true) L) w) (hf:t=false→SD P n ops Q (Zw mss w₀) kp rest (Zn dst (.bool false) L) w):SD P n ops Q (Zw mss w₀) kp ((i,k+10)::rest) L w:=by
 cases t with
 | true=>exact Qal k hi hg hd hm hS hv (ht rfl)
 | false=>exact Qal k hi hg hd hm hS hv (hf rfl)
theorem Qp2 {R:Value→World→Prop}(l:List (Nat × Nat))(hi:ops[i]? = some ⟨dst,op,ty,pos,af,gu⟩)(hg:gd ops L ⟨dst,op,ty,pos,af,gu⟩=some true)(hd:Vy n dst=true)(hv:EV P L ⟨dst,op,ty,pos,af,gu⟩ w R)
 (hb:Bu (fun k ms=>kp k i=true→Kg l (ms.map fun b=>(1,b)) w₀.heap.size) 0 mss)
 (h:∀ v w',R v w'→Kz l w w'∧SD P n ops Q (Zw mss w₀) kp rest (Zn dst v L) w'):SD P n ops Q (Zw mss w₀) kp ((i,0)::rest) L w:=
 ⟨_,hi,hd,.inl ⟨hg,R,hv,fun v w' hR=>⟨fun lv hk hS ms hm=>Kp.kz (hS ms hm) (h v w' hR).1 (by have:=hb.get lv ms hm;rw[Nat.zero_add] at this;exact this hk),(h v w' hR).2⟩⟩⟩
theorem Qp0 {v:Value}(hi:ops[i]? = some ⟨dst,op,ty,pos,af,gu⟩)(hg:gd ops L ⟨dst,op,ty,pos,af,gu⟩=some true)(hd:Vy n dst=true)(hv:VV P L ⟨dst,op,ty,pos,af,gu⟩ w v)
 (h:SD P n ops Q (Zw mss w₀) kp rest (Zn dst v L) w):SD P n ops Q (Zw mss w₀) kp ((i,0)::rest) L w:=
 ⟨_,hi,hd,.inl ⟨hg,_,hv.ev,fun v' w' ⟨h1,h2⟩=>by subst h1;subst h2;exact⟨fun _ _ h=>h,h⟩⟩⟩
theorem Qoz (hi:ops[i]? = some ⟨dst,op,ty,pos,af,gu⟩)(hg:gd ops L ⟨dst,op,ty,pos,af,gu⟩=some false)(hd:Vy n dst=true)
 (h:SD P n ops Q (Zw mss w₀) kp rest (Zn dst undef L) w):SD P n ops Q (Zw mss w₀) kp ((i,0)::rest) L w:=⟨_,hi,hd,.inr ⟨hg,h⟩⟩
end
theorem Qn {q:Prop}(f:q:=by(try simp only[Ze,Kg,Ko,Vr,Mz,List.mem_cons,List.mem_append,Xt,List.not_mem_nil,or_false,false_or,not_or,ne_eq,List.nil_append,List.cons_append,true_and,and_true,false_and,and_false,not_true_eq_false,not_false_eq_true,or_true,true_or])<;>omega):q:=f
theorem Qd {p q:Prop}(h:p)(f:p→q:=by intro;(try simp only[Ze,Kg,Ko,Vr,Mz,List.mem_cons,List.mem_append,Xt,List.not_mem_nil,or_false,false_or,not_or,ne_eq,List.nil_append,List.cons_append,true_and,and_true,false_and,and_false,not_true_eq_false,not_false_eq_true,or_true,true_or])<;>omega):q:=f h
theorem Jq {p1 p2 q:Prop}(h1:p1)(h2:p2)(f:p1→p2→q:=by intro _ _;(try simp only[Ze,Kg,Ko,Vr,Mz,List.mem_cons,List.mem_append,Xt,List.not_mem_nil,or_false,false_or,not_or,ne_eq,List.nil_append,List.cons_append,true_and,and_true,false_and,and_false,not_true_eq_false,not_false_eq_true,or_true,true_or])<;>omega):q:=f h1 h2
theorem Sv {p1 p2 p3 q:Prop}(h1:p1)(h2:p2)(h3:p3)(f:p1→p2→p3→q:=by intro _ _ _;(try simp only[Ze,Kg,Ko,Vr,Mz,List.mem_cons,List.mem_append,Xt,List.not_mem_nil,or_false,false_or,not_or,ne_eq,List.nil_append,List.cons_append,true_and,and_true,false_and,and_false,not_true_eq_false,not_false_eq_true,or_true,true_or])<;>omega):q:=f h1 h2 h3
theorem Vt {p1 p2 p3 p4 q:Prop}(h1:p1)(h2:p2)(h3:p3)(h4:p4)(f:p1→p2→p3→p4→q:=by intro _ _ _ _;(try simp only[Ze,Kg,Ko,Vr,Mz,List.mem_cons,List.mem_append,Xt,List.not_mem_nil,or_false,false_or,not_or,ne_eq,List.nil_append,List.cons_append,true_and,and_true,false_and,and_false,not_true_eq_false,not_false_eq_true,or_true,true_or])<;>omega):q:=f h1 h2 h3 h4
section
variable {A:Nat→Prop} {z g z' g' s z1 g1 z2 g2 z3 g3:Nat}
theorem Kc (r:Xb ((g'=g∧z=1)∨s≤g'∨z'=0))(h:z=0∨A g)(f:∀ x,s≤x→A x:=by intro x hx;(try simp only[Ze,Kg,Ko,Vr,Mz,List.mem_cons,List.mem_append,Xt,List.not_mem_nil,or_false,false_or,not_or,ne_eq,List.nil_append,List.cons_append,true_and,and_true,false_and,and_false,not_true_eq_false,not_false_eq_true,or_true,true_or])<;>omega):z'=0∨A g':=by
 rcases r.o with⟨h1,h2⟩|h1|h1
 · rcases h with h|h
   · omega
   · exact .inr (h1 ▸ h)
 · exact .inr (f _ h1)
 · exact .inl h1
theorem Xe (r:Xb (z=0∨s≤g))(f:∀ x,s≤x→A x:=by intro x hx;(try simp only[Ze,Kg,Ko,Vr,Mz,List.mem_cons,List.mem_append,Xt,List.not_mem_nil,or_false,false_or,not_or,ne_eq,List.nil_append,List.cons_append,true_and,and_true,false_and,and_false,not_true_eq_false,not_false_eq_true,or_true,true_or])<;>omega):z=0∨A g:=r.o.imp id (f g)
theorem Xu (r:Xb (z=0∨(g=g1∧z1≠0)∨s≤g))(h1:z1=0∨A g1)(f:∀ x,s≤x→A x:=by intro x hx;(try simp only[Ze,Kg,Ko,Vr,Mz,List.mem_cons,List.mem_append,Xt,List.not_mem_nil,or_false,false_or,not_or,ne_eq,List.nil_append,List.cons_append,true_and,and_true,false_and,and_false,not_true_eq_false,not_false_eq_true,or_true,true_or])<;>omega):z=0∨A g:=by
 rcases r.o with h|⟨h,hz⟩|h
 · exact .inl h
 · exact .inr (h ▸ h1.resolve_left hz)
 · exact .inr (f _ h)
theorem Qu0 (r:Xb (z=0∨(z=1∧g<s)))(f:∀ x,x<s→A x:=by intro x hx;(try simp only[Ze,Kg,Ko,Vr,Mz,List.mem_cons,List.mem_append,Xt,List.not_mem_nil,or_false,false_or,not_or,ne_eq,List.nil_append,List.cons_append,true_and,and_true,false_and,and_false,not_true_eq_false,not_false_eq_true,or_true,true_or])<;>omega):z=0∨A g:=r.o.imp id fun h=>f _ h.2
theorem Ki (h:z=0∨z1=0∨g≠g1):z1=0∨z=0∨g1≠g:=by omega
end
theorem Qhb {v:Value}(h:oneB v=true):v.cells=[v].toArray:=by cases v<;>first|rfl|cases h
theorem Qjb {pl:Nat→Option (Nat × Nat)}{z cs:List Value}{i off:Nat}{v:Value}{r:List (Nat × Value)}(hp:pl i=some (off,1))(h1:oneB v=true)(hl:Nat.ble (off+1) z.length=true)(hr:Hc pl (Vg z off [v]) r=some cs):Hc pl z ((i,v)::r)=some cs:=by
 unfold Hc
 rw[hp]
 simp only[Qhb h1]
 rw[if_pos ⟨rfl,Nat.le_of_ble_eq_true hl⟩];exact hr
theorem Hu {pl:Nat→Option (Nat × Nat)}{z cs:List Value}{i off size:Nat}{v:Value}{r:List (Nat × Value)}(hp:pl i=some (off,size))(h1:v.cells.size=size)(hl:Nat.ble (off+size) z.length=true)(hr:Hc pl (Vg z off v.cells.toList) r=some cs):Hc pl z ((i,v)::r)=some cs:=by
 unfold Hc
 rw[hp]
 simp only[h1]
 rw[if_pos ⟨trivial,Nat.le_of_ble_eq_true hl⟩];exact hr
theorem Qwg {P:Program}{r:Option Nat}{n:Nat}{Q:Exit→List Deferred→Qv→World→Prop}{D:List Deferred}{L:Qv}{w:World}{id:Nat}{ops:Array Oper}(mss:List (List Nat))(tab:List (Nat × List Nat))(t:Tz)(hm:P.follows .mixedOrders=true)(hnd:Kr ops=true)(hlen:t.len=ops.size)
 (ho:Ar ops (kpN tab) t (Array.replicate ops.size false)=true) (h:∀ w1,RowKit.Below w.heap.size w w1→w1.heap.size=w.heap.size→Vk P n ops (fun L w=>Q .normal D L w) (Zw mss w1) (kpN tab) t L w1):SW P r n (.region id ops true) Q D L w:=
 fun _ ha=>wpIn_region_any hm (by
  have:=(Vk.anyH (r:=r) (D:=D) (QA:=Qb7 n Q) hnd (fun _ _ _=>Qrw) Qrv (fun L _ _ hf hq=>⟨D,L,hf,hq⟩) t _ L _ w.drew ho ha (h w.drew (RowKit.Below.refl _ _).drew rfl)).any
  rw[hlen] at this;exact this)
end Go.Sx

end
section
set_option linter.unusedVariables false
set_option linter.unusedSimpArgs false
namespace Go.Sx
open Go Go.RowKit
def Jg (base:Nat)(ks fp:List Nat)(W:World):Prop:=Yd base ks W∧∀ k∈ks,k∉fp
section
variable {base b:Nat} {ks fp fp':List Nat} {W W':World}
theorem Qs4 (base:Nat)(fp:List Nat)(W:World):Jg base [] fp W:=⟨Qs5 base W,fun _ h=>by cases h⟩
theorem Jg.gr (h:Jg base ks fp W)(g:Gr W W'):Jg base ks fp W':=⟨h.1.gr g,h.2⟩
theorem Jg.md {t:TypeId}{cs:List Value}(h:Jg base ks fp W)(m:Md b W W')(hb:Bx W b t cs):Jg base ks fp W':=⟨h.1.md m (fun hk=>by
 have h1:=(h.1.2 b hk).2
 unfold Df at h1;unfold Bx at hb;rw[hb] at h1;simp at h1),h.2⟩
theorem Jg.mdl {W0:World}{fp0:List Nat}(h:Jg base ks fp W)(m:Md b W W')(h0:Jg base ks fp0 W0)(hb:W0.heap.size≤b):Jg base ks fp W':=⟨h.1.md m (fun hk=>by
 have h1:=(h0.1.2 b hk).2.lt
 omega),h.2⟩
theorem Jg.kp (h:Jg base ks fp W)(k:Kp fp W W')(hg:∀ c∈fp',c∈fp∨W.heap.size≤c):Jg base ks fp' W':=
 ⟨h.1.kp k h.2,fun j hj=>Jt hg (h.2 j hj) (h.1.2 j hj).2.lt⟩
theorem Jg.cons {W0:World}{fp0:List Nat}{D:Nat}(h:Jg base ks fp W)(h0:Jg base ks fp0 W0)(hD:W0.heap.size≤D)(hb:base≤W0.heap.size)(hd:Df W D)(hn:D∉fp):Jg base (D::ks) fp W:=
 ⟨h.1.cons (by omega) hd fun hk=>by have:=(h0.1.2 D hk).2.lt;omega,fun j hj=>by
  rcases List.mem_cons.1 hj with rfl|hj
  · exact hn
  · exact h.2 j hj⟩
theorem Jg.leave (h:Jg base ks fp W):∃ wl,El (Na ks) W wl∧Kp ks W wl:=h.1.leave
theorem Jg.stb {J:Nat→List Nat→World→Prop}{k:Nat}(hJ:Wv J)(h:Jg base ks fp W)(j:J k fp W)(kl:Kp ks W W'):J k fp W':=
 hJ.keep j kl.env fun c hc=>kl.block c (hJ.lt j c hc) fun hk=>h.2 c hk hc
theorem Jg.trans {w:World}{f:List Nat}(h:Jg w.heap.size ks fp W)(K:Kp f w W)(kl:Kp ks W W'):Kp f w W':=K.trans kl fun c hc=>.inr (h.1.2 c hc).1
end
end Go.Sx
namespace Go.Sx
open Go Go.RowKit
theorem Qp1 {P:Program}{n:Nat}{ops:Array Oper}{Q:Qv→World→Prop}{rest:List (Nat × Nat)}{i:Nat}{dst:Option Nat}{op:Op}{ty:TypeId}{pos:String}{af:Array Edge}{gu:Option (Nat × Bool)}{L:Qv}{w w₀:World}{ms:List Nat}{kp:Nat→Nat→Bool}{R:Value→World→Prop}
 (hi:ops[i]? = some ⟨dst,op,ty,pos,af,gu⟩) (hg:gd ops L ⟨dst,op,ty,pos,af,gu⟩=some true) (hd:Vy n dst=true) (hv:EV P L ⟨dst,op,ty,pos,af,gu⟩ w R)
 (h:∀ v w',R v w'→(Kp ms w₀ w→Kp ms w₀ w')∧SD P n ops Q (Zw [ms] w₀) kp rest (Zn dst v L) w'):SD P n ops Q (Zw [ms] w₀) kp ((i,0)::rest) L w:=
 ⟨_,hi,hd,.inl ⟨hg,R,hv,fun v w' hR=>⟨fun lv _ hS ms' hm=>by
  cases lv with
  | zero=>simp at hm;subst hm;exact(h v w' hR).1 (hS _ rfl)
  | succ k=>simp at hm,(h v w' hR).2⟩⟩⟩
end Go.Sx

end
section
set_option linter.unusedVariables false
set_option linter.unusedSimpArgs false
namespace Go.Sx
open Go
def Hd (ks:List Int)(k:Int):List Int:=if k∈ks then ks else ks++[k]
theorem Qre {ks:List Int}{k:Int}(h:ks.Nodup):(Hd ks k).Nodup:=by
 unfold Hd;split
 · exact h
 · rename_i hn;rw[List.nodup_append];exact⟨h,by simp,fun a ha b hb=>by simp at hb;subst hb;rintro rfl;exact hn ha⟩
open Classical in
noncomputable def Hg {σ R:Type}(F:Int→(σ→Option R)→σ→Option R)(d:σ→Option R):Nat→List Int→σ→Option R
 | 0,_,_=>none
 | n+1,rem,s=>if rem=[] then d s else if h:∃ r,∀ k∈rem,F k (Hg F d n (rem.filter (· ≠ k))) s=some r then some (Classical.choose h) else none
theorem Qvb {σ R:Type}{F:Int→(σ→Option R)→σ→Option R}{d:σ→Option R}{n:Nat}{rem:List Int}{s:σ}{r:R}(h:Hg F d n rem s=some r)(hr:rem=[]):d s=some r:=by
 cases n with
 | zero=>cases h
 | succ n=>unfold Hg at h;rw[if_pos hr] at h;exact h
theorem Qva {σ R:Type}{F:Int→(σ→Option R)→σ→Option R}{d:σ→Option R}{n:Nat}{rem:List Int}{s:σ}{r:R}{k:Int}(h:Hg F d n rem s=some r)(hk:k∈rem):∃ m,n=m+1∧F k (Hg F d m (rem.filter (· ≠ k))) s=some r:=by
 cases n with
 | zero=>cases h
 | succ n=>
  refine⟨n,rfl,?_⟩
  unfold Hg at h
  rw[if_neg (by rintro rfl;cases hk)] at h
  split at h
  · rename_i hx
    have:=Classical.choose_spec hx k hk
    rw[this,h]
  · cases h
theorem Qlo {σ R:Type}{F:Int→(σ→Option R)→σ→Option R}{d:σ→Option R}{r:R}(I:List Int→σ→Prop)(hd:∀ s,I [] s→d s=some r)(hs:∀ rem s k,k∈rem→I rem s→∃ s',I (rem.filter (· ≠ k)) s'∧∀ nx,F k nx s=nx s'):
 ∀ (n:Nat) (rem:List Int) (s:σ),rem.length<n→I rem s→Hg F d n rem s=some r
 | 0,rem,s,h,_=>by omega
 | n+1,rem,s,h,hi=>by
  unfold Hg
  by_cases h0:rem=[]
  · rw[if_pos h0];subst h0;exact hd s hi
  · rw[if_neg h0]
    have hx:∀ k∈rem,F k (Hg F d n (rem.filter (· ≠ k))) s=some r:=fun k hk=>by
     obtain⟨s',h1,h2⟩:=hs rem s k hk hi
     rw[h2]
     refine Qlo I hd hs n _ s' ?_ h1
     have:(rem.filter (· ≠ k)).length<rem.length:=by
      exact List.length_filter_lt_length_iff_exists.2 ⟨k,hk,by simp⟩
     omega
    have hex:∃ r,∀ k∈rem,F k (Hg F d n (rem.filter (· ≠ k))) s=some r:=⟨r,hx⟩
    rw[dif_pos hex]
    obtain⟨k,hk⟩:=List.exists_mem_of_ne_nil rem h0
    have h1:=Classical.choose_spec hex k hk
    rw[hx k hk] at h1
    exact h1.symm
def Bj {α:Type}(key:α→Int)(l:List α):Option (List α):=if(∀ x∈l,0≤key x∧key x<4611686018427387904)∧(l.map key).Nodup∧l.length<4611686018427387904 then some (l.mergeSort fun a b=>decide (key a≤key b)) else none
theorem Qwc {α:Type}{key:α→Int}{l m:List α}(h:Bj key l=some m):m=l.mergeSort (fun a b=>decide (key a≤key b))∧(∀ x∈l,0≤key x∧key x<4611686018427387904)∧(l.map key).Nodup∧l.length<4611686018427387904:=by
 unfold Bj at h;split at h
 · rename_i h1;exact⟨(Option.some.inj h).symm,h1⟩
 · cases h
end Go.Sx

end
section
set_option linter.unusedVariables false
set_option linter.unusedSimpArgs false
namespace Go.Sx
open Go Go.RowKit
def Wo (ks:List Int):List MapEntry:=ks.zipIdx.map fun x=>⟨.int .i64 x.1,.bool true,x.2⟩
structure Mo (w:World)(b:Nat)(ks:List Int):Prop where
 nd:ks.Nodup
 row:w.heap[b]? = some (.map (Wo ks).toArray ks.length)
def Su (ks:List Int)(seen:List Nat):List Int:=(ks.zipIdx.filter fun x => !seen.contains x.2).map (·.1)
def Mi (w:World)(b m:Nat)(ks rem:List Int):Prop:=∃ seen:List Nat,w.heap[b]? = some (.mapIter (some m) ks.length seen.toArray ks.length)∧rem=Su ks seen
def Mk (w:World)(b m:Nat)(ks rem:List Int)(k:Int):Prop:=∃ (seen:List Nat) (i:Nat),w.heap[b]? = some (.mapIter (some m) ks.length (seen++[i]).toArray ks.length)∧rem=Su ks (seen++[i])∧ks[i]? = some k
section
variable {w w':World} {b m c z g:Nat} {ks rem:List Int} {k:Int} {l:List (Nat × Nat)}
theorem Xy {o:Obj}(h:w.heap[b]? = some o):b<w.heap.size:=(Array.getElem?_eq_some_iff.1 h).1
theorem Mo.lt (h:Mo w b ks):b<w.heap.size:=Xy h.row
theorem Mo.gr (h:Mo w b ks)(G:Gr w w'):Mo w' b ks:=⟨h.nd,(G.block b h.lt).trans h.row⟩
theorem Mo.md (h:Mo w b ks)(M:Md c w w')(ne:b≠c:=by omega):Mo w' b ks:=⟨h.nd,(M.block b ne).trans h.row⟩
theorem Mo.ka (h:Mo w b ks)(A:Ka z g w w')(hn:z=0∨g≠b:=by omega):Mo w' b ks:=⟨h.nd,(A.block b h.lt (by omega)).trans h.row⟩
theorem Mo.kz (h:Mo w b ks)(K:Kz l w w')(hn:Ze l b:=by simp only[Ze,Kg,Ko,Vr,Mz,or_true,true_or,and_true,List.mem_cons,List.mem_append,Xt,List.not_mem_nil,or_false,false_or,not_or,ne_eq,List.nil_append,List.cons_append,true_and,and_true,false_and,and_false,not_true_eq_false,not_false_eq_true,or_true,true_or]<;>omega):Mo w' b ks:=⟨h.nd,(K.block b h.lt hn).trans h.row⟩
theorem Mi.lt (h:Mi w b m ks rem):b<w.heap.size:=by obtain⟨s,h,_⟩:=h;exact Xy h
theorem Mi.gr (h:Mi w b m ks rem)(G:Gr w w'):Mi w' b m ks rem:=by obtain⟨s,h1,h2⟩:=h;exact⟨s,(G.block b (Xy h1)).trans h1,h2⟩
theorem Mi.md (h:Mi w b m ks rem)(M:Md c w w')(ne:b≠c:=by omega):Mi w' b m ks rem:=by obtain⟨s,h1,h2⟩:=h;exact⟨s,(M.block b ne).trans h1,h2⟩
theorem Mi.ka (h:Mi w b m ks rem)(A:Ka z g w w')(hn:z=0∨g≠b:=by omega):Mi w' b m ks rem:=by obtain⟨s,h1,h2⟩:=h;exact⟨s,(A.block b (Xy h1) (by omega)).trans h1,h2⟩
theorem Mi.kz (h:Mi w b m ks rem)(K:Kz l w w')(hn:Ze l b:=by simp only[Ze,Kg,Ko,Vr,Mz,or_true,true_or,and_true,List.mem_cons,List.mem_append,Xt,List.not_mem_nil,or_false,false_or,not_or,ne_eq,List.nil_append,List.cons_append,true_and,and_true,false_and,and_false,not_true_eq_false,not_false_eq_true,or_true,true_or]<;>omega):Mi w' b m ks rem:=by obtain⟨s,h1,h2⟩:=h;exact⟨s,(K.block b (Xy h1) hn).trans h1,h2⟩
theorem Mk.mi (h:Mk w b m ks rem k):Mi w b m ks rem:=by obtain⟨s,i,h1,h2,_⟩:=h;exact⟨_,h1,h2⟩
end
theorem Qv1 (ks:List Int):Su ks []=ks:=by
 unfold Su
 have:(ks.zipIdx.filter fun x => !([]:List Nat).contains x.2)=ks.zipIdx:=List.filter_eq_self.2 (by simp)
 rw[this];simp
theorem Qv2 {ks:List Int}{seen:List Nat}{i:Nat}{k:Int}(hn:ks.Nodup)(hi:ks[i]? = some k):Su ks (seen++[i])=(Su ks seen).filter (· ≠ k):=by
 unfold Su
 rw[List.filter_map,List.filter_filter]
 congr 1
 apply List.filter_congr
 rintro⟨x,j⟩ hx
 have hj:ks[j]? = some x:=by simpa using List.mem_zipIdx_iff_getElem?.1 hx
 have:decide (x≠k) = !decide (j=i):=by
  by_cases e:j=i
  · subst e;rw[hi] at hj;cases hj;simp
  · have:x≠k:=by
     rintro rfl
     obtain⟨p1,e1⟩:=List.getElem?_eq_some_iff.1 hi
     obtain⟨p2,e2⟩:=List.getElem?_eq_some_iff.1 hj
     exact e ((List.getElem_inj hn).1 (by rw[e1,e2]))
    simp[e,this]
 simp only[Function.comp,List.contains_append,Bool.not_or,this]
 rw[Bool.and_comm]
 congr 1
 simp only[List.contains_cons,List.contains_nil,Bool.or_false]
 by_cases e:j=i<;>simp[e]
section
variable {P:Program} {L:Qv} {w:World} {dst:Option Nat} {ty:TypeId} {pos:String} {af:Array Edge} {gu:Option (Nat × Bool)} {x y:Operand} {t K E:TypeId} {b m:Nat} {ks rem:List Int} {k:Int}
structure MpT (P:Program)(t K E:TypeId):Prop where
 und:P.underlying t=some (.map K E)
 key:P.underlying K=some (.int .i64)
 zero:∀ w,(zeroValue E).run P w=.ok (.bool false) w
theorem Qqy:EV P L ⟨dst,.makeMap t none,ty,pos,af,gu⟩ w fun v' w'=>∃ b,v'=.map (some b)∧w.heap.size≤b∧Mo w' b []∧Gr w w':=fun ρ hρ=>by
 refine .val (.map (some w.heap.size)) (w.alloc (.map #[] 0)) (by simp[execOp,Instr.makeMap,go_sem]) ⟨_,rfl,Nat.le_refl _,⟨List.nodup_nil,heap_alloc_new w _⟩,(Below.refl _ _).alloc (Nat.le_refl _) _⟩
theorem Qek (k:Int):∀ (ks:List Int) (o i:Nat),Instr.findNow (.int .i64) (.int .i64 k) ((ks.zipIdx o).map fun x=>(⟨.int .i64 x.1,.bool true,x.2⟩:MapEntry)) i=some (if k∈ks then some (i+ks.idxOf k,.bool true) else none)
 | [],o,i=>by simp[Instr.findNow]
 | a::ks,o,i=>by
  rw[List.zipIdx_cons,List.map_cons]
  simp only[Instr.findNow,Instr.sameNow,if_true]
  by_cases h:k=a
  · subst h;simp
  · have hb:(k == a)=false:=by simpa using h
    have hb2:(a == k)=false:=by simpa using fun e=>h e.symm
    rw[hb]
    simp only
    rw[Qek k ks (o+1) (i+1)]
    simp only[List.mem_cons,h,false_or,List.idxOf_cons,hb2,cond_false]
    congr 1
    split
    · congr 2;omega
    · rfl
theorem Qhe (e:Bool)(n:Nat)(hk:P.underlying K=some (.int .i64)):(Instr.checkKey e (n+1) K (.int .i64 k)).run P w=.ok () w:=by
 unfold Instr.checkKey
 simp only[Sem.run_bind,run_underlying hk,Result.andThen]
 rfl
theorem Qa0 (hm:MpT P t K E)(hx:ev L x=some (.map (some b)))(hy:ev L y=some (.int .i64 k))(hb:Mo w b ks):VV P L ⟨dst,.lookup t x y false,ty,pos,af,gu⟩ w (.bool (decide (k∈ks))):=fun ρ hρ=>by
 refine Wp ?_
 rw[hρ _ _ hx,hρ _ _ hy]
 have hck:∀ e,(Instr.checkKey e 10000 K (.int .i64 k)).run P w=.ok () w:=fun e=>Qhe e 9999 hm.key
 have hf:Instr.findNow (.int .i64) (.int .i64 k) (Wo ks) 0=_:=Qek k ks 0 0
 unfold Instr.lookup
 simp only[Sem.run_bind,run_underlying hm.und,Result.andThen,MapKept.run_getObj_map hb.row,Sem.run_pure,hck]
 unfold Instr.findKey
 simp only[Sem.run_bind,run_underlying hm.key,Result.andThen]
 rw[hf]
 by_cases h:k∈ks
 · simp[h]
 · simp[h,hm.zero w]
theorem Qs6 (ks:List Int)(k:Int):Wo (ks++[k])=Wo ks++[⟨.int .i64 k,.bool true,ks.length⟩]:=by
 unfold Wo;rw[List.zipIdx_append,List.map_append];simp
theorem Qqz (hm:MpT P t K E){z:Operand}(hx:ev L x=some (.map (some b)))(hy:ev L y=some (.int .i64 k))(hz:ev L z=some (.bool true))(hb:Mo w b ks):EV P L ⟨dst,.mapUpdate t x y z,ty,pos,af,gu⟩ w fun _ w'=>Mo w' b (Hd ks k)∧Md b w w':=fun ρ hρ=>by
 have hck:(Instr.checkKey false 10000 K (.int .i64 k)).run P w=.ok () w:=Qhe false 9999 hm.key
 have hf:Instr.findNow (.int .i64) (.int .i64 k) (Wo ks) 0=_:=Qek k ks 0 0
 have hset:∀ o:Obj,(setObj b o).run P w=.ok () (w.putObj b o):=fun o=>by
  simp only[setObj,Sem.run,hb.row];rfl
 have key:∃ o:Obj,(Instr.mapUpdate t (.map (some b)) (.int .i64 k) (.bool true)).run P w=.ok () (w.putObj b o)∧o=.map (Wo (Hd ks k)).toArray (Hd ks k).length:=by
  unfold Instr.mapUpdate
  simp only[Sem.run_bind,run_underlying hm.und,Result.andThen,MapKept.run_getObj_map hb.row,hck]
  unfold Instr.findKey
  simp only[Sem.run_bind,run_underlying hm.key,Result.andThen]
  rw[hf]
  by_cases h:k∈ks
  · rw[if_pos h]
    simp only[Sem.run_pure,Nat.zero_add,Instr.keyThatStays]
    have hi:ks.idxOf k<ks.length:=List.idxOf_lt_length_of_mem h
    have hg:(Wo ks).toArray[ks.idxOf k]? = some ⟨.int .i64 k,.bool true,ks.idxOf k⟩:=by
     simp[Wo,hi]
    rw[hg]
    simp only[Option.map_some,Option.getD_some,Instr.sameBits,beq_self_eq_true,Bool.and_self,if_true,Sem.run_bind,Sem.run_pure,Result.andThen,hset,Hd,if_pos h]
    refine⟨_,rfl,?_⟩
    congr 1
    apply Array.ext_getElem?
    intro j
    rw[Array.getElem?_modify]
    by_cases hj:ks.idxOf k=j
    · subst hj;rw[if_pos rfl,hg];rfl
    · rw[if_neg hj]
  · rw[if_neg h]
    simp only[Sem.run_pure,hset,Hd,if_neg h]
    refine⟨_,rfl,?_⟩
    rw[Qs6];simp
 obtain⟨o,h1,rfl⟩:=key
 refine .skip _ ?_ ⟨⟨Qre hb.nd,World.putObj_heap_same hb.lt⟩,Md.put b _⟩
 simp[execOp,hρ _ _ hx,hρ _ _ hy,hρ _ _ hz,h1]
theorem Qr2 (hm:MpT P t K E)(hx:ev L x=some (.map (some m)))(hb:Mo w m ks):EV P L ⟨dst,.range t x,ty,pos,af,gu⟩ w fun v' w'=>∃ b,v'=.pointer (some ⟨b,0,none⟩)∧w.heap.size≤b∧Mi w' b m ks ks∧Gr w w':=fun ρ hρ=>by
 have h:=run_range_map (P:=P) w t K E m _ _ hm.und hb.row
 refine .val _ _ (Wp (by rw[hρ _ _ hx];exact h)) ⟨_,rfl,Nat.le_refl _,⟨[],heap_alloc_new w _,(Qv1 ks).symm⟩,(Below.refl _ _).alloc (Nat.le_refl _) _⟩
theorem Qr1 (hx:ev L x=some (.pointer (some ⟨b,0,none⟩)))(hb:Mo w m ks)(hi:Mi w b m ks rem):EV P L ⟨dst,.next x false,ty,pos,af,gu⟩ w fun v' w'=>
 (v'=.tuple [.bool false].toArray∧rem=[]∧Gr w w')∨(∃ k,k∈rem∧v'=.tuple [.bool true,.int .i64 k,.bool true].toArray∧Mk w' b m ks (rem.filter (· ≠ k)) k∧Md b w w'):=fun ρ hρ=>by
 obtain⟨seen,h1,rfl⟩:=hi
 have hold:∀ e∈(Wo ks).toArray.toList,e.born<ks.length:=by
  intro e he
  obtain⟨⟨a,j⟩,hj,rfl⟩:=List.mem_map.1 he
  have:=List.mem_zipIdx_iff_getElem?.1 hj
  exact(List.getElem?_eq_some_iff.1 (by simpa using this)).1
 have hrun:∀ (r:Result Value),(Instr.next (.pointer (some ⟨b,0,none⟩)) false ty).run P w=r→(execOp ρ ⟨dst,.next x false,ty,pos,af,gu⟩).run P w=r.andThen fun v w'=>.ok (.value v) w':=fun r hr=>by
  simp only[execOp,hρ _ _ hx]
  rw[←hr]
  simp[Sem.run_bind]
 have hL:(Array.filter (fun e => !seen.toArray.contains e.born) (Wo ks).toArray).toList=(ks.zipIdx.filter fun x => !seen.contains x.2).map fun x=>(⟨.int .i64 x.1,.bool true,x.2⟩:MapEntry):=by
  simp[Wo,List.filter_map,Function.comp_def]
 have hmem:∀ e∈(Array.filter (fun e => !seen.toArray.contains e.born) (Wo ks).toArray).toList,e.born<ks.length:=fun e he=>hold e (by simp at he ⊢;exact he.1)
 have hn:(Instr.next (.pointer (some ⟨b,0,none⟩)) false ty).run P w=(Instr.next (.pointer (some ⟨b,0,none⟩)) false ty).run P w:=rfl
 conv at hn=>rhs;simp only[Instr.next,getObj,Sem.run_bind,Sem.run,h1,hb.row,Result.andThen,next_test_false seen.toArray (Wo ks).toArray ks.length ks.length hold (Nat.le_refl _),Bool.false_eq_true,if_false]
 generalize Array.filter (fun e => !seen.toArray.contains e.born) (Wo ks).toArray=A at hL hmem hn
 have e1:A.filter (fun x=>decide (x.born<ks.length))=A:=Array.filter_eq_self.2 (fun x hx=>by simpa using hmem x (by simpa using hx))
 have e2:A.filter (fun x=>decide (x.born≥ks.length)) = #[]:=by
  rw[Array.filter_eq_empty_iff]
  intro x hx
  have:=hmem x (by simpa using hx)
  simp;omega
 simp only[e1,e2,Array.append_empty] at hn
 by_cases h0:A.size=0
 · have hA:A = #[]:=Array.eq_empty_of_size_eq_zero h0
   subst hA
   have h2:=hrun _ hn
   refine .val (.tuple [.bool false].toArray) w ?_ (.inl ⟨rfl,?_,Gr.refl w⟩)
   · rw[h2];simp[choose,Sem.run,Question.forced,Result.andThen]
   · have:(ks.zipIdx.filter fun x => !seen.contains x.2)=[]:=by simpa using hL.symm
     unfold Su;rw[this];rfl
 · have hne:A.isEmpty=false:=by simp[Array.isEmpty,h0]
   simp only[hne,Bool.false_eq_true,if_false,Array.empty_append,Array.size_map] at hn
   have hch:∃ (j:Nat) (w1:World),j<A.size∧(w1=w∨w1=w.drew)∧(choose (Question.mapNext A.size)).run P w=.ok j w1:=by
    by_cases hf:A.size≤1
    · exact⟨0,w,by omega,.inl rfl,by simp[choose,Sem.run,Question.forced,hf]⟩
    · exact⟨_,w.drew,Nat.mod_lt _ (by omega),.inr rfl,by
       simp only[choose,Sem.run,Question.forced,decide_eq_true_eq,hf,if_false,Question.cut];rfl⟩
   obtain⟨j,w1,hj,hw1,hc⟩:=hch
   have hw1h:w1.heap=w.heap:=by rcases hw1 with rfl|rfl<;>rfl
   have hset:∀ o:Obj,(setObj b o).run P w1=.ok () (w1.putObj b o):=fun o=>by
    have:w1.heap[b]? = some (.mapIter (some m) ks.length seen.toArray ks.length):=by rw[hw1h];exact h1
    simp only[setObj,Sem.run,this];rfl
   simp only[hc,Array.getElem?_map,Array.getElem?_eq_getElem hj,Option.map_some,hset,Sem.run_bind,Result.andThen] at hn
   have hAj:A[j]∈A.toList:=by simp
   rw[hL] at hAj
   obtain⟨⟨k,i⟩,hki,hkj⟩:=List.mem_map.1 hAj
   have hki':=List.mem_filter.1 hki
   have hi:ks[i]? = some k:=by simpa using List.mem_zipIdx_iff_getElem?.1 hki'.1
   rw[←hkj] at hn
   have h2:=hrun _ hn
   have hmd:Md b w (w1.putObj b (.mapIter (some m) ks.length (seen.toArray.push i) ks.length)):=by
    have:Md b w1 (w1.putObj b (.mapIter (some m) ks.length (seen.toArray.push i) ks.length)):=Md.put b _
    rcases hw1 with rfl|rfl
    · exact this
    · exact⟨this.os,this.tape,this.output,this.size,this.block⟩
   refine .val (.tuple [.bool true,.int .i64 k,.bool true].toArray) _ (by rw[h2];rfl) (.inr ⟨k,?_,rfl,⟨seen,i,?_,?_,hi⟩,hmd⟩)
   · exact List.mem_map.2 ⟨(k,i),hki,rfl⟩
   · have hbs:b<w1.heap.size:=by rw[hw1h];exact Xy h1
     have:=World.putObj_heap_same (w:=w1) (o:=.mapIter (some m) ks.length (seen.toArray.push i) ks.length) hbs
     rw[this];simp
   · exact(Qv2 hb.nd hi).symm
theorem Qwz (hx:ev L x=some (.pointer (some ⟨b,0,none⟩)))(hb:Mo w m ks)(hi:Mk w b m ks rem k):VV P L ⟨dst,.entry x,ty,pos,af,gu⟩ w (.tuple [.int .i64 k,.bool true].toArray):=fun ρ hρ=>by
 obtain⟨seen,i,h1,_,h3⟩:=hi
 refine Wp ?_
 rw[hρ _ _ hx]
 have hf:(Wo ks).toArray.find? (fun e=>e.born == i)=some ⟨.int .i64 k,.bool true,i⟩:=by
  rw[←Array.find?_toList]
  have hgen:∀ (ks:List Int) (o i:Nat),ks[i]? = some k→((ks.zipIdx o).map fun x=>(⟨.int .i64 x.1,.bool true,x.2⟩:MapEntry)).find? (fun e=>e.born == o+i)=some ⟨.int .i64 k,.bool true,o+i⟩:=by
   intro ks
   induction ks with
   | nil=>intro o i h;simp at h
   | cons a ks ih=>
    intro o i h
    rw[List.zipIdx_cons,List.map_cons,List.find?_cons]
    cases i with
    | zero=>simp at h;subst h;simp
    | succ i=>
     have hne:(o == o+(i+1))=false:=by simp
     rw[hne]
     have:=ih (o+1) i (by simpa using h)
     rw[show o+1+i=o+(i+1) from by omega] at this
     exact this
  have:=hgen ks 0 i h3
  rw[Nat.zero_add] at this;exact this
 simp[Instr.entry,getObj,Sem.run,h1,hb.row,hf]
end
end Go.Sx

end
section
set_option linter.unusedVariables false
namespace Go.Sx
open Go Go.RowKit
theorem Qg8 {P:Program}{n:Nat}{ops:Array Oper}{Q:Qv→World→Prop}{rest:List (Nat × Nat)}{i:Nat}{dst:Option Nat}{ty:TypeId}{pos:String}{af:Array Edge}{gu:Option (Nat × Bool)}{L:Qv}{w:World}
 {f:Nat} {fs cap:List Value} {x:Operand} {aas:Array Operand} {at_:Array TypeId} {vs:List Value} {fn:Func} {c:Code} (n':Nat) (hf:P.funcs[f]? = some fn) (hi:ops[i]? = some ⟨dst,.call { callee:=.value x,args:=aas,argTypes:=at_ },ty,pos,af,gu⟩)
 (hg:gd ops L ⟨dst,.call { callee:=.value x,args:=aas,argTypes:=at_ },ty,pos,af,gu⟩=some true) (hd:Vy n dst=true) (hen:En P f) (hx:ev L x=some (.func (.func f) fs.toArray cap.toArray)) (hargs:Dt L aas.toList=some vs)
 (hb:fn.body=some c) (hn:fn.ntmps=n') (hl:Nat.ble (fs++vs++cap).length n'=true)
 (h:SW P none n' c (Qlj P fn (fun v w'=>SD P n ops Q (fun _ _=>True) (fun _ _=>false) rest (Zn dst v L) w')) [] (Bz 0 (fs++vs++cap)) w):SD P n ops Q (fun _ _=>True) (fun _ _=>false) ((i,0)::rest) L w:=
 Qg7 hi hg hd (Gp hen hx hargs (Xj n' hf hb hn hl h)) fun v w' hR=>hR
end Go.Sx

end
section
set_option linter.unusedVariables false
namespace Go.Sx
open Go
def Vp (a b:Int):Int:=if a<b then b else a
def Mn (a b:Int):Int:=if b<a then b else a
end Go.Sx

end
section
set_option linter.unusedVariables false
set_option linter.unusedSimpArgs false
namespace Go.Sx
open Go Go.RowKit
section
variable {F:Fence} {n:Nat} {P:Program} {a:Act} {w:World} {Q:Exit→Act→World→Prop}
end
section
variable {P:Program} {r:Option Nat} {n:Nat} {Q:Exit→List Deferred→Qv→World→Prop} {D:List Deferred} {L:Qv} {w:World}
end
section
variable {P:Program} {L:Qv} {w:World} {dst:Option Nat} {ty:TypeId} {pos:String} {af:Array Edge} {gu:Option (Nat × Bool)} {x y q:Operand} {t t2 t3:TypeId} {a b c:Int} {k k2 k3:IntKind}
theorem Qa1 (hx:ev L x=some (.int k a))(hy:ev L y=some (.int k2 b)):VV P L ⟨dst,.call { callee:=.builtin .max,args := #[x,y],argTypes := #[t,t2] },ty,pos,af,gu⟩ w (.int k (Vp a b)):=fun ρ hρ=>by
 simp[execOp,resolve,invoke,builtin,hρ _ _ hx,hρ _ _ hy,Builtin.max_,Builtin.max2,Vp]
theorem Qnh (hx:ev L x=some (.int k a))(hy:ev L y=some (.int k2 b)):VV P L ⟨dst,.call { callee:=.builtin .min,args := #[x,y],argTypes := #[t,t2] },ty,pos,af,gu⟩ w (.int k (Mn a b)):=fun ρ hρ=>by
 simp[execOp,resolve,invoke,builtin,hρ _ _ hx,hρ _ _ hy,Builtin.min_,Builtin.min2,Mn]
variable {d e:BitVec 64}
end
def BA (P:Program)(t:TypeId)(sz:Nat)(z:List Value):Prop:=∃ n e,P.underlying t=some (.array n e)∧Vn P e sz∧ZV P t (.agg z.toArray)
theorem Qgo {P:Program}{L:Qv}{w:World}{dst:Option Nat}{ty:TypeId}{pos:String}{af:Array Edge}{gu:Option (Nat × Bool)}{t:TypeId}{sz:Nat}{z cs:List Value}{parts:Array (Nat × Operand)}{vs:List (Nat × Value)}(hb:BA P t sz z)(hp:Ln L parts.toList=some vs)(hf:Hc (fun i=>some (i*sz,sz)) z vs=some cs):
 VV P L ⟨dst,.build t parts,ty,pos,af,gu⟩ w (.agg cs.toArray):=fun ρ hρ=>by
 obtain⟨n,e,hu,hs,hz⟩:=hb
 have e1:(parts.map fun(x:Nat × Operand)=>(x.1,ρ x.2))=vs.toArray:=by rw[←hρ.mapP hp,←Array.toList_map]
 refine Wp ?_
 show(Instr.build t (parts.map fun(x:Nat × Operand)=>(x.1,ρ x.2))).run P w=_
 rw[e1]
 simp only[Instr.build,Sem.run_bind,hz w,Result.andThen,run_underlying hu,hs w,Value.cells,Qau vs z cs hf];rfl
section
variable {P:Program} {L:Qv} {w:World} {dst:Option Nat} {ty:TypeId} {pos:String} {af:Array Edge} {gu:Option (Nat × Bool)} {x:Operand} {t u e:TypeId} {v:Value} {z g o sz:Nat} {α:Type} {l:List α} {c:α→List Value}
end
section
variable {P:Program} {L:Qv} {w:World} {dst:Option Nat} {ty:TypeId} {pos:String} {af:Array Edge} {gu:Option (Nat × Bool)} {x y p q r:Operand} {t e:TypeId} {v:Value} {z g o sz N:Nat} {α:Type} {l m k:List α} {c:α→List Value} {lo hi:Int} {kl kh km:IntKind}
end
end Go.Sx

end
section
set_option linter.unusedVariables false
set_option linter.unusedSimpArgs false
namespace Go.Sx
open Go Go.RowKit
section
variable {P:Program} {L:Qv} {w:World} {dst:Option Nat} {ty:TypeId} {pos:String} {af:Array Edge} {gu:Option (Nat × Bool)} {x y:Operand} {t u e:TypeId} {a b:BitVec 8}
end
section
variable {P:Program} {L:Qv} {w:World} {dst:Option Nat} {ty:TypeId} {pos:String} {af:Array Edge} {gu:Option (Nat × Bool)} {x y:Operand} {t u e:TypeId}
end
end Go.Sx

end
section
set_option linter.unusedVariables false
set_option linter.unusedSimpArgs false
namespace Go.Sx
open Go Go.RowKit
structure Rp (α:Type) where
 γ:Type
 sz:Nat
 c:α × γ→List Value
 S:World→List Nat→α × γ→Prop
 ws:∀ {w F p},S w F p→(c p).length=sz∧Zx (c p)=true
 keep:∀ {w w' F p},S w F p→w.heap.size≤w'.heap.size→(∀ b∈F,b<w.heap.size→w'.heap[b]? = w.heap[b]?)→S w' F p
 mono:∀ {w F F' p},S w F p→(∀ b∈F,b∈F')→S w F' p
def Xw {α:Type}(R:Rp α)(w:World)(z g:Nat)(e:TypeId)(v:Value)(F:List Nat)(l:List α):Prop:=
 ∃ lg:List (α × R.γ),lg.map Prod.fst=l∧Qk w z g e R.sz v (lg.map R.c)∧(∀ p∈lg,R.S w F p)∧(∀ b∈F,b<w.heap.size)∧(z=0∨∀ b∈F,b≠g)
def Xx {α:Type}(R:Rp α)(w:World)(z g o:Nat)(v:Value)(F:List Nat)(l:List α):Prop:=
 ∃ lg:List (α × R.γ),lg.map Prod.fst=l∧Rd w z g o R.sz v (lg.map R.c)∧(∀ p∈lg,R.S w F p)∧(∀ b∈F,b<w.heap.size)
section
variable {α:Type} {R:Rp α} {w w' w₁:World} {z g o b z' g':Nat} {e:TypeId} {v:Value} {F F':List Nat} {l:List α} {lz:List (Nat × Nat)} {ms:List Nat}
theorem Xw.rd (h:Xw R w z g e v F l):Xx R w z g 0 v F l:=by
 obtain⟨lg,h1,h2,h3,h4,h5⟩:=h;exact⟨lg,h1,h2.rd,h3,h4⟩
theorem Xw.keep (h:Xw R w z g e v F l)(hs:w.heap.size≤w'.heap.size)(hg:z=0∨(g<w.heap.size→w'.heap[g]? = w.heap[g]?))(hF:∀ b∈F,b<w.heap.size→w'.heap[b]? = w.heap[b]?):Xw R w' z g e v F l:=by
 obtain⟨lg,h1,h2,h3,h4,h5⟩:=h
 exact⟨lg,h1,h2.keep hg,fun p hp=>R.keep (h3 p hp) hs hF,fun b hb=>Nat.lt_of_lt_of_le (h4 b hb) hs,h5⟩
theorem Xx.keep (h:Xx R w z g o v F l)(hs:w.heap.size≤w'.heap.size)(hg:z=0∨(g<w.heap.size→w'.heap[g]? = w.heap[g]?))(hF:∀ b∈F,b<w.heap.size→w'.heap[b]? = w.heap[b]?):Xx R w' z g o v F l:=by
 obtain⟨lg,h1,h2,h3,h4⟩:=h
 exact⟨lg,h1,h2.keep hg hs,fun p hp=>R.keep (h3 p hp) hs hF,fun b hb=>Nat.lt_of_lt_of_le (h4 b hb) hs⟩
theorem Xw.gr (h:Xw R w z g e v F l)(k:Gr w w'):Xw R w' z g e v F l:=h.keep k.size (.inr fun hl=>k.block g hl) (fun b _ hl=>k.block b hl)
theorem Xx.gr (h:Xx R w z g o v F l)(k:Gr w w'):Xx R w' z g o v F l:=h.keep k.size (.inr fun hl=>k.block g hl) (fun b _ hl=>k.block b hl)
theorem Xw.md (h:Xw R w z g e v F l)(k:Md b w w')(hn:z=0∨g≠b)(hF:∀ x∈F,1=0∨x≠b):Xw R w' z g e v F l:=h.keep (Nat.le_of_eq k.size.symm) (hn.imp id fun hn _=>k.block g hn) (fun x hx _=>k.block x ((hF x hx).resolve_left (by decide)))
theorem Xx.md (h:Xx R w z g o v F l)(k:Md b w w')(hn:z=0∨g≠b)(hF:∀ x∈F,1=0∨x≠b):Xx R w' z g o v F l:=h.keep (Nat.le_of_eq k.size.symm) (hn.imp id fun hn _=>k.block g hn) (fun x hx _=>k.block x ((hF x hx).resolve_left (by decide)))
theorem Xw.ka (h:Xw R w z g e v F l)(k:Ka z' g' w w')(hn:z=0∨z'=0∨g≠g')(hF:∀ x∈F,z'=0∨x≠g'):Xw R w' z g e v F l:=h.keep k.size (hn.imp id fun hn hl=>k.block g hl hn) (fun x hx hl=>k.block x hl (hF x hx))
theorem Xx.ka (h:Xx R w z g o v F l)(k:Ka z' g' w w')(hn:z=0∨z'=0∨g≠g')(hF:∀ x∈F,z'=0∨x≠g'):Xx R w' z g o v F l:=h.keep k.size (hn.imp id fun hn hl=>k.block g hl hn) (fun x hx hl=>k.block x hl (hF x hx))
theorem Xw.kz (h:Xw R w z g e v F l)(k:Kz lz w w')(hn:z=0∨Ze lz g)(hF:∀ x∈F,Ze lz x):Xw R w' z g e v F l:=h.keep k.size (hn.imp id fun hn hl=>k.block g hl hn) (fun x hx hl=>k.block x hl (hF x hx))
theorem Xx.kz (h:Xx R w z g o v F l)(k:Kz lz w w')(hn:z=0∨Ze lz g)(hF:∀ x∈F,Ze lz x):Xx R w' z g o v F l:=h.keep k.size (hn.imp id fun hn hl=>k.block g hl hn) (fun x hx hl=>k.block x hl (hF x hx))
theorem Xw.kp (h:Xw R w z g e v F l)(k:Kp ms w w')(hn:z=0∨g∉ms)(hF:∀ x∈F,x∉ms):Xw R w' z g e v F l:=h.keep k.size (hn.imp id fun hn hl=>k.block g hl hn) (fun x hx hl=>k.block x hl (hF x hx))
theorem Xx.kp (h:Xx R w z g o v F l)(k:Kp ms w w')(hn:z=0∨g∉ms)(hF:∀ x∈F,x∉ms):Xx R w' z g o v F l:=h.keep k.size (hn.imp id fun hn hl=>k.block g hl hn) (fun x hx hl=>k.block x hl (hF x hx))
theorem Xw.lth (h:Xw R w z g e v F l):Xb (z=0∨(z=1∧g<w.heap.size)):=by obtain⟨lg,h1,h2,_⟩:=h;exact h2.lth
theorem Xx.lth (h:Xx R w z g o v F l):Xb (z=0∨(z=1∧g<w.heap.size)):=by obtain⟨lg,h1,h2,_⟩:=h;exact h2.lth
theorem Xw.flt (h:Xw R w z g e v F l):∀ b∈F,b<w.heap.size:=by obtain⟨lg,h1,h2,h3,h4,_⟩:=h;exact h4
theorem Xx.flt (h:Xx R w z g o v F l):∀ b∈F,b<w.heap.size:=by obtain⟨lg,h1,h2,h3,h4⟩:=h;exact h4
theorem Xw.oneB (h:Xw R w z g e v F l):Sx.oneB v=true:=by obtain⟨lg,h1,h2,_⟩:=h;exact h2.oneB
theorem Xx.oneB (h:Xx R w z g o v F l):Sx.oneB v=true:=by obtain⟨lg,h1,h2,_⟩:=h;exact h2.oneB
theorem Qbc (R:Rp α)(w:World)(g:Nat)(e:TypeId):Xw R w 0 g e (.slice none 0 0) [] []:=⟨[],rfl,Kx w g e R.sz,nofun,nofun,.inl rfl⟩
theorem Xw.z1 {i:Int}{a:α}(h:Xw R w z g e v F l)(hg:Xd l i=some a):z=1:=by
 obtain⟨lg,h1,h2,_⟩:=h
 rcases h2.2 with⟨_,_,h0⟩|⟨h0,_⟩
 · have:=Tn hg
   rw[←h1,List.map_eq_nil_iff.1 h0] at this;simp at this
 · exact h0
theorem Qb6 {β:Type}{lg:List (α × β)}(h:lg.map Prod.fst=l):lg.length=l.length:=by rw[←h,List.length_map]
theorem Qr6 {β:Type}{lg:List (α × β)}{i:Int}{a:α}(h:lg.map Prod.fst=l)(hg:Xd l i=some a):∃ x,Xd lg i=some (a,x):=by
 have h0:=Lv hg
 have h1:=Tn hg
 rw[←h,List.getElem?_map] at h1
 cases hx:lg[i.toNat]? with
 | none=>rw[hx] at h1;cases h1
 | some p=>
  rw[hx] at h1
  have:p.1=a:=Option.some.inj h1
  exact⟨p.2,by unfold Xd;rw[if_pos h0,hx,←this]⟩
theorem Xx.at {i:Int}{a:α}(h:Xx R w z g o v F l)(hg:Xd l i=some a):∃ (lg:List (α × R.γ)) (x:R.γ),Rd w z g o R.sz v (lg.map R.c)∧Xd lg i=some (a,x)∧R.S w F (a,x):=by
 obtain⟨lg,h1,h2,h3,h4⟩:=h
 obtain⟨x,hx⟩:=Qr6 h1 hg
 exact⟨lg,x,h2,hx,h3 _ (List.mem_of_getElem? (Tn hx))⟩
variable {P:Program} {L:Qv} {dst:Option Nat} {ty:TypeId} {pos:String} {af:Array Edge} {gu:Option (Nat × Bool)} {x y:Operand} {t:TypeId}
theorem Hq (hu:P.underlying t=some (.slice e))(hx:ev L x=some v)(hr:Xx R w z g o v F l):VV P L ⟨dst,.call { callee:=.builtin .len,args := #[x],argTypes := #[t] },ty,pos,af,gu⟩ w (.int .i64 (l.length:Int)):=by
 obtain⟨lg,h1,h2,_⟩:=hr
 exact Qne hu hx h2 (by rw[List.length_map,Qb6 h1])
theorem Vu {i:Int}{a:α}{kd:IntKind}(hu:P.underlying t=some (.slice e))(hs:Vn P e R.sz)(hx:ev L x=some v)(hr:Xx R w z g o v F l)(hy:ev L y=some (.int kd i))(hg:Xd l i=some a):
 VV P L ⟨dst,.indexAddr t x y,ty,pos,af,gu⟩ w (.pointer (some ⟨g,o+i.toNat*R.sz,none⟩)):=by
 obtain⟨lg,h1,h2,_⟩:=hr
 exact Qnd hu hs hx h2 (by rw[List.length_map,Qb6 h1]) hy (Lv hg) (Qav hg)
theorem Qef {bytes z2 g2 o2:Nat}{u:Value}{m k:List α}{F2:List Nat}(ha:Ph P t e R.sz bytes)(hx:ev L x=some v)(hy:ev L y=some u)(h:Xw R w z g e v F l)(hr:Xx R w z2 g2 o2 u F2 m)(hb:Vb bytes l m=some k)(hpos:1≤bytes)(hF:∀ b∈F2,z=0∨b≠g):
 EV P L ⟨dst,.call { callee:=.builtin .append,args := #[x,y],argTypes := #[t,t] },ty,pos,af,gu⟩ w fun v' w'=>∃ z' g',Xw R w' z' g' e v' (F++F2) k∧Ka z g w w'∧Xb (z'=0∨(z'=1∧g'<w'.heap.size))∧Xb ((g'=g∧z=1)∨w.heap.size≤g'∨z'=0):=by
 obtain⟨lg,h1,h2,h3,h4,h5⟩:=h
 obtain⟨mg,m1,m2,m3,m4⟩:=hr
 obtain⟨rfl,hb2⟩:=Qdl hb
 have e1:Vb bytes lg mg=some (lg++mg):=by unfold Vb;rw[Qb6 h1,Qb6 m1,if_pos hb2]
 refine(Ha ha hx hy h2 m2 e1 hpos).mono ?_
 rintro v' w' ⟨z',g',q1,q2,q3,q4⟩
 refine⟨z',g',⟨lg++mg,by rw[List.map_append,h1,m1],q1,?_,?_,?_⟩,q2,q3,q4⟩
 · have kF:∀ b∈F++F2,b<w.heap.size→w'.heap[b]? = w.heap[b]? := fun b hb hl=>q2.block b hl (by
    rcases List.mem_append.1 hb with hb|hb
    · exact h5.imp id fun h5=>h5 b hb
    · exact hF b hb)
   intro p hp
   rcases List.mem_append.1 hp with hp|hp
   · exact R.keep (R.mono (h3 p hp) fun b hb=>List.mem_append_left _ hb) q2.size kF
   · exact R.keep (R.mono (m3 p hp) fun b hb=>List.mem_append_right _ hb) q2.size kF
 · intro b hb
   rcases List.mem_append.1 hb with hb|hb
   · exact Nat.lt_of_lt_of_le (h4 b hb) q2.size
   · exact Nat.lt_of_lt_of_le (m4 b hb) q2.size
 · rcases q4.o with⟨rfl,hz⟩|hn|h0
   · refine .inr fun b hb=>?_
     rcases List.mem_append.1 hb with hb|hb
     · exact(h5.resolve_left (by omega)) b hb
     · exact(hF b hb).resolve_left (by omega)
   · refine .inr fun b hb=>?_
     rcases List.mem_append.1 hb with hb|hb
     · have:=h4 b hb;omega
     · have:=m4 b hb;omega
   · exact .inl h0
theorem Qeg {len:Nat}{zs cs:List Value}{parts:Array (Nat × Operand)}{vs:List (Nat × Value)}(lg:List (α × R.γ))(hb:Wt P t len e R.sz zs)(hp:Ln L parts.toList=some vs)(hf:Hc (fun i=>some (i*R.sz,R.sz)) zs vs=some cs)
 (hx:cs=(lg.map R.c).flatten) (hl:lg.length=len) (hm:Nat.ble len 1000000=true) (hS:∀ p∈lg,R.S w F p) (hF:∀ b∈F,b<w.heap.size):
 EV P L ⟨dst,.buildSlice t len parts,ty,pos,af,gu⟩ w fun v' w'=>∃ g',w.heap.size≤g'∧Xw R w' 1 g' e v' F (lg.map Prod.fst)∧Gr w w':=by
 refine(Kt lg R.c hb hp hf (fun y hy=>?_) hx hl hm).mono ?_
 · obtain⟨p,hp,rfl⟩:=List.mem_map.1 hy
   exact R.ws (hS p hp)
 · rintro v' w' ⟨g',h1,h2,h3⟩
   exact⟨g',h1,⟨lg,rfl,h2,fun p hp=>R.keep (hS p hp) h3.size (fun b _ hl=>h3.block b hl),fun b hb=>Nat.lt_of_lt_of_le (hF b hb) h3.size,.inr fun b hb=>by have:=hF b hb;omega⟩,h3⟩
end
def Pb {α:Type}(sz:Nat)(c:α→List Value):Rp (List α) where
 γ:=Value
 sz:=1
 c p:=[p.2]
 S w F p:=∃ z g o,Rd w z g o sz p.2 (p.1.map c)∧(z=0∨g∈F)
 ws:=fun⟨z,g,o,h,_⟩=>⟨rfl,by simp[Zx,h.oneB]⟩
 keep:=fun⟨z,g,o,h,hg⟩ hs hF=>⟨z,g,o,h.keep (hg.imp id fun hg hl=>hF g hg hl) hs,hg⟩
 mono:=fun⟨z,g,o,h,hg⟩ hF=>⟨z,g,o,h,hg.imp id fun hg=>hF g hg⟩
def Hn {α:Type}(R:Rp α):Rp (List α) where
 γ:=Value
 sz:=1
 c p:=[p.2]
 S w F p:=∃ (z g o:Nat) (lg:List (α × R.γ)),Rd w z g o R.sz p.2 (lg.map R.c)∧lg.map Prod.fst=p.1∧(∀ q∈lg,R.S w F q)∧(z=0∨g∈F)
 ws:=fun⟨z,g,o,lg,h,_⟩=>⟨rfl,by simp[Zx,h.oneB]⟩
 keep:=fun⟨z,g,o,lg,h,h1,h2,hg⟩ hs hF=>⟨z,g,o,lg,h.keep (hg.imp id fun hg hl=>hF g hg hl) hs,h1,fun q hq=>R.keep (h2 q hq) hs hF,hg⟩
 mono:=fun⟨z,g,o,lg,h,h1,h2,hg⟩ hF=>⟨z,g,o,lg,h,h1,fun q hq=>R.mono (h2 q hq) hF,hg.imp id fun hg=>hF g hg⟩
def Qd2 {α β:Type}(sz:Nat)(cs:α→Value→List Value)(f:α→List β)(k:Nat)(c:β→List Value)(hcs:∀ a v,oneB v=true→(cs a v).length=sz∧Zx (cs a v)=true):Rp α where
 γ:=Value
 sz:=sz
 c p:=cs p.1 p.2
 S w F p:=∃ z g o,Rd w z g o k p.2 ((f p.1).map c)∧(z=0∨g∈F)
 ws:=fun⟨z,g,o,h,_⟩=>hcs _ _ h.oneB
 keep:=fun⟨z,g,o,h,hg⟩ hs hF=>⟨z,g,o,h.keep (hg.imp id fun hg hl=>hF g hg hl) hs,hg⟩
 mono:=fun⟨z,g,o,h,hg⟩ hF=>⟨z,g,o,h,hg.imp id fun hg=>hF g hg⟩
section
variable {α:Type} {R:Rp α} {w:World} {F F':List Nat} {l:List α} {v:Value}
theorem Qve {x:(Hn R).γ}(h:(Hn R).S w F (l,x))(hF:∀ b∈F,b<w.heap.size):∃ z g o,Xx R w z g o x F l∧(z=0∨g∈F):=by
 obtain⟨z,g,o,lg,h1,h2,h3,h4⟩:=h
 exact⟨z,g,o,⟨lg,h2,h1,h3,hF⟩,h4⟩
theorem Qvd {z g o:Nat}(h:Xx R w z g o v F l)(hg:z=0∨g∈F')(hF:∀ b∈F,b∈F'):(Hn R).S w F' (l,v):=by
 obtain⟨lg,h1,h2,h3,h4⟩:=h
 exact⟨z,g,o,lg,h2,h1,fun q hq=>R.mono (h3 q hq) hF,hg⟩
end
section
variable {α β:Type} {w:World} {z g o k sz:Nat} {F:List Nat} {v:Value} {i:Int}
theorem Cb {c:α→List Value}{l:List (List α)}{a:List α}(h:Xx (Pb sz c) w z g o v F l)(hg:Xd l i=some a):∃ (lg:List (List α × Value)) (x:Value) (z' g' o':Nat),Rd w z g o 1 v (lg.map fun p=>[p.2])∧Xd lg i=some (a,x)∧Rd w z' g' o' sz x (a.map c)∧Xb (z'=0∨g'∈F):=by
 obtain⟨lg,x,h1,h2,z',g',o',h3,h4⟩:=h.at hg
 exact⟨lg,x,z',g',o',h1,h2,h3,⟨h4⟩⟩
theorem Ca {R:Rp α}{l:List (List α)}{a:List α}(h:Xx (Hn R) w z g o v F l)(hg:Xd l i=some a):∃ (lg:List (List α × Value)) (x:Value) (z' g' o':Nat),Rd w z g o 1 v (lg.map fun p=>[p.2])∧Xd lg i=some (a,x)∧Xx R w z' g' o' x F a∧Xb (z'=0∨g'∈F):=by
 have hF:=h.flt
 obtain⟨lg,x,h1,h2,h3⟩:=h.at hg
 obtain⟨z',g',o',h3,h4⟩:=Qve h3 hF
 exact⟨lg,x,z',g',o',h1,h2,h3,⟨h4⟩⟩
theorem Hk {cs:α→Value→List Value}{f:α→List β}{c:β→List Value}{hcs:∀ a v,oneB v=true→(cs a v).length=sz∧Zx (cs a v)=true}{l:List α}{a:α}(h:Xx (Qd2 sz cs f k c hcs) w z g o v F l)(hg:Xd l i=some a):∃ (lg:List (α × Value)) (x:Value) (z' g' o':Nat),Rd w z g o sz v (lg.map fun p=>cs p.1 p.2)∧Xd lg i=some (a,x)∧Rd w z' g' o' k x ((f a).map c)∧Xb (z'=0∨g'∈F):=by
 obtain⟨lg,x,h1,h2,z',g',o',h3,h4⟩:=h.at hg
 exact⟨lg,x,z',g',o',h1,h2,h3,⟨h4⟩⟩
variable {R:Rp α} {l:List α} {a:α} {P:Program} {L:Qv} {dst:Option Nat} {ty:TypeId} {pos:String} {af:Array Edge} {gu:Option (Nat × Bool)} {x y:Operand} {t e:TypeId}
theorem Qn8 {p q:Nat}{u:Value}(h1:Ya P t)(hx:ev L x=some (.pointer (some ⟨g,p,none⟩)))(hr:Xx R w z g o v F l)(hg:Xd l i=some a)(hp:p=o+(i.toNat*R.sz+q))(hc:∀ x,(R.c (a,x))[q]? = some u):VV P L ⟨dst,.load t x,ty,pos,af,gu⟩ w u:=by
 obtain⟨lg,x,h2,h3,_⟩:=hr.at hg
 exact Zt h1 hx h2 h3 hp (hc x)
end
section
variable {A:Nat→Prop} {F F2 F3:List Nat} {z g n n2 x:Nat}
theorem Vo:∀ x∈([]:List Nat),A x:=nofun
theorem Hl (h1:∀ x∈F,A x)(h2:∀ x∈F2,A x):∀ x∈F++F2,A x:=fun x hx=>(List.mem_append.1 hx).elim (h1 x) (h2 x)
theorem Yz (h:z=0∨A g):∀ x∈zf z g,A x:=fun x hx=>by
 obtain⟨h1,rfl⟩:=Xt.1 hx
 exact h.resolve_left h1
def Pv (F:List Nat)(zs:List (Nat × Nat))(n x:Nat):Prop:=x∈F∨Mz zs x∨n≤x
theorem Yj {zs:List (Nat × Nat)}(h:∀ x∈F,Pv F2 zs n x)(h1:∀ x∈F2,A x)(h2:∀ x,Mz zs x→A x)(h3:∀ x,n≤x→A x):∀ x∈F,A x:=fun x hx=>(h x hx).elim (h1 x) fun h=>h.elim (h2 x) (h3 x)
theorem Yl:∀ x,Mz [] x→A x:=nofun
theorem Qgw {w:World}(h:z=0∨(z=1∧g<w.heap.size)):∀ b∈zf z g,b<w.heap.size:=Yz (h.imp id And.right)
theorem Qat {b:Nat}(h:Xb (z=0∨g∈F))(hF:∀ x∈F,1=0∨x≠b):z=0∨g≠b:=h.o.imp id fun h=>(hF g h).resolve_left (by decide)
theorem Nc {b:Nat}(h:z=0∨g≠b):z=0∨1=0∨g≠b:=h.imp id .inr
theorem Ik {zs:List (Nat × Nat)}{F':List Nat}(h:z=0∨Mz zs g∨n≤g):z=0∨Pv F' zs n g:=h.imp id .inr
theorem Qes (z g:Nat):z=0∨g∈zf z g:=by
 by_cases h:z=0
 · exact .inl h
 · exact .inr (Xt.2 ⟨h,rfl⟩)
end
end Go.Sx

end
section
set_option linter.unusedVariables false
set_option linter.unusedSimpArgs false
namespace Go.Sx
open Go Go.RowKit
def Vs (b:Bool)(n:Nat)(ops:Array Oper)(L:Qv)(i:Nat):Option Oper:=
 match ops[i]? with
 | some o=>match gd ops L o with
  | some g=>bif (g == b)&&Vy n o.dst then some o else none
  | none=>none
 | none=>none
theorem Kk {b:Bool}{n:Nat}{ops:Array Oper}{L:Qv}{i:Nat}{o:Oper}(h:Vs b n ops L i=some o):ops[i]? = some o∧gd ops L o=some b∧Vy n o.dst=true:=by
 unfold Vs at h
 split at h
 · rename_i o' ho
   split at h
   · rename_i g hg
     cases hc:(g == b)&&Vy n o'.dst with
     | false=>rw[hc] at h;cases h
     | true=>
      rw[hc] at h;cases h
      rw[Bool.and_eq_true] at hc
      exact⟨ho,by rw[hg,beq_iff_eq.1 hc.1],hc.2⟩
   · cases h
 · cases h
def od:Nat→Nat→List (Nat × Nat)
 | 0,_=>[]
 | n+1,i=>(i,0)::od n (i+1)
theorem Qkf:∀ n i,(od n i).map (·.1)=List.range' i n
 | 0,_=>rfl
 | n+1,i=>by rw[od,List.map_cons,Qkf n (i+1)];rfl
theorem Qkg:∀ n i,((od n i).all fun x=>(Hy x.2).isNone)=true
 | 0,_=>rfl
 | n+1,i=>by rw[od,List.all_cons,Qkg n (i+1)];rfl
section
variable {P:Program} {r:Option Nat} {n:Nat} {Q:Exit→List Deferred→Qv→World→Prop} {D:List Deferred} {L:Qv} {w:World}
theorem qr {id:Nat}{ops:Array Oper}(k:Nat)(hk:ops.size=k)(hnd:Kr ops=true)(h:SD P n ops (fun L w=>Q .normal D L w) (fun _ _=>True) (fun _ _=>false) (od k 0) L w):SW P r n (.region id ops false) Q D L w:=
 Kd (od k 0) hnd (Qkg k 0) (by rw[Qkf,hk,List.range_eq_range']) h
theorem qsr {id:Nat}{ops:Array Oper}{y:Code}(k:Nat)(hk:ops.size=k)(hnd:Kr ops=true)(h:SD P n ops (fun L w=>Wh (fun D L w=>SW P r n y Q D L w) Q .normal D L w) (fun _ _=>True) (fun _ _=>false) (od k 0) L w):SW P r n (.seq (.region id ops false) y) Q D L w:=
 Qh (qr k hk hnd h)
theorem qj {x y:Code}{β:Type}(dead:List Nat)(dyn:β→Qv)(J:β→World→Prop)(h:SW P r n x (Wh (fun D1 L1 w1=>D1=D∧∃ b,Wm (dyn b++Wi dead L) L1∧J b w1) Q) D L w)(hk:∀ b w1,J b w1→SW P r n y Q D (dyn b++Wi dead L) w1):SW P r n (.seq x y) Q D L w:=Qwh dead dyn J hk h
end
theorem Qi {A B:Qv}(h:Wm A B:=by repeat' first|exact trivial|refine⟨rfl,?_⟩):Wm A B:=h
section
variable {P:Program} {n:Nat} {ops:Array Oper} {Q:Qv→World→Prop} {rest:List (Nat × Nat)} {i:Nat} {dst:Option Nat} {op:Op} {ty:TypeId} {pos:String} {af:Array Edge} {gu:Option (Nat × Bool)} {L:Qv} {w:World}
theorem qv {v:Value}(hi:Vs true n ops L i=some ⟨dst,op,ty,pos,af,gu⟩)(hv:VV P L ⟨dst,op,ty,pos,af,gu⟩ w v)(h:SD P n ops Q (fun _ _=>True) (fun _ _=>false) rest (Zn dst v L) w):SD P n ops Q (fun _ _=>True) (fun _ _=>false) ((i,0)::rest) L w:=
 Xf (Kk hi).1 (Kk hi).2.1 (Kk hi).2.2 hv h
theorem qe {R:Value→World→Prop}(hi:Vs true n ops L i=some ⟨dst,op,ty,pos,af,gu⟩)(hv:EV P L ⟨dst,op,ty,pos,af,gu⟩ w R)(h:∀ v w',R v w'→SD P n ops Q (fun _ _=>True) (fun _ _=>false) rest (Zn dst v L) w'):SD P n ops Q (fun _ _=>True) (fun _ _=>false) ((i,0)::rest) L w:=
 Qg7 (Kk hi).1 (Kk hi).2.1 (Kk hi).2.2 hv h
theorem qk (hi:Vs false n ops L i=some ⟨dst,op,ty,pos,af,gu⟩)(h:SD P n ops Q (fun _ _=>True) (fun _ _=>false) rest (Zn dst undef L) w):SD P n ops Q (fun _ _=>True) (fun _ _=>false) ((i,0)::rest) L w:=
 Qvw (Kk hi).1 (Kk hi).2.1 (Kk hi).2.2 h
theorem qp {t:Bool}(hi:Vs true n ops L i=some ⟨dst,op,ty,pos,af,gu⟩)(hv:VV P L ⟨dst,op,ty,pos,af,gu⟩ w (.bool t))(ht:t=true→SD P n ops Q (fun _ _=>True) (fun _ _=>false) rest (Zn dst (.bool true) L) w)(hf:t=false→SD P n ops Q (fun _ _=>True) (fun _ _=>false) rest (Zn dst (.bool false) L) w):SD P n ops Q (fun _ _=>True) (fun _ _=>false) ((i,0)::rest) L w:=
 Qvx (Kk hi).1 (Kk hi).2.1 (Kk hi).2.2 hv ht hf
theorem qt {R:Value→Nat→Prop}(hi:Vs true n ops L i=some ⟨dst,op,ty,pos,af,gu⟩)(hv:∃ v o,(∀ w1,VV P L ⟨dst,op,ty,pos,af,gu⟩ w1 v)∧R v o)(h:∀ v o,R v o→SD P n ops Q (fun _ _=>True) (fun _ _=>false) rest (Zn dst v L) w):SD P n ops Q (fun _ _=>True) (fun _ _=>false) ((i,0)::rest) L w:=by
 obtain⟨v,o,h1,h2⟩:=hv
 exact qv hi (h1 w) (h v o h2)
variable {w₀:World} {mss:List (List Nat)} {ms:List Nat} {kp:Nat→Nat→Bool}
theorem qh {v:Value}(k:Nat)(hi:Vs true n ops L i=some ⟨dst,op,ty,pos,af,gu⟩)(hm:mss[k]? = some ms)(hS:Kp ms w₀ w)(hv:∀ w,Kp ms w₀ w→VV P L ⟨dst,op,ty,pos,af,gu⟩ w v)(h:SD P n ops Q (Zw mss w₀) kp rest (Zn dst v L) w):SD P n ops Q (Zw mss w₀) kp ((i,k+10)::rest) L w:=
 Qal k (Kk hi).1 (Kk hi).2.1 (Kk hi).2.2 hm hS hv h
theorem qx (k:Nat)(hi:Vs false n ops L i=some ⟨dst,op,ty,pos,af,gu⟩)(hm:mss[k]? = some ms)(hS:Kp ms w₀ w)(h:SD P n ops Q (Zw mss w₀) kp rest (Zn dst undef L) w):SD P n ops Q (Zw mss w₀) kp ((i,k+10)::rest) L w:=
 Qoy k (Kk hi).1 (Kk hi).2.1 (Kk hi).2.2 hm hS h
theorem qq {t:Bool}(k:Nat)(hi:Vs true n ops L i=some ⟨dst,op,ty,pos,af,gu⟩)(hm:mss[k]? = some ms)(hS:Kp ms w₀ w)(hv:∀ w,Kp ms w₀ w→VV P L ⟨dst,op,ty,pos,af,gu⟩ w (.bool t))(ht:t=true→SD P n ops Q (Zw mss w₀) kp rest (Zn dst (.bool true) L) w)(hf:t=false→SD P n ops Q (Zw mss w₀) kp rest (Zn dst (.bool false) L) w):SD P n ops Q (Zw mss w₀) kp ((i,k+10)::rest) L w:=
 Qox k (Kk hi).1 (Kk hi).2.1 (Kk hi).2.2 hm hS hv ht hf
theorem qz {R:Value→World→Prop}(l:List (Nat × Nat))(hi:Vs true n ops L i=some ⟨dst,op,ty,pos,af,gu⟩)(hv:EV P L ⟨dst,op,ty,pos,af,gu⟩ w R)(hb:Bu (fun k ms=>kp k i=true→Kg l (ms.map fun b=>(1,b)) w₀.heap.size) 0 mss)(h:∀ v w',R v w'→Kz l w w'∧SD P n ops Q (Zw mss w₀) kp rest (Zn dst v L) w'):SD P n ops Q (Zw mss w₀) kp ((i,0)::rest) L w:=
 Qp2 l (Kk hi).1 (Kk hi).2.1 (Kk hi).2.2 hv hb h
theorem qw {v:Value}(hi:Vs true n ops L i=some ⟨dst,op,ty,pos,af,gu⟩)(hv:VV P L ⟨dst,op,ty,pos,af,gu⟩ w v)(h:SD P n ops Q (Zw mss w₀) kp rest (Zn dst v L) w):SD P n ops Q (Zw mss w₀) kp ((i,0)::rest) L w:=
 Qp0 (Kk hi).1 (Kk hi).2.1 (Kk hi).2.2 hv h
theorem qy (hi:Vs false n ops L i=some ⟨dst,op,ty,pos,af,gu⟩)(h:SD P n ops Q (Zw mss w₀) kp rest (Zn dst undef L) w):SD P n ops Q (Zw mss w₀) kp ((i,0)::rest) L w:=
 Qoz (Kk hi).1 (Kk hi).2.1 (Kk hi).2.2 h
end
theorem iT {p:Prop}[Decidable p]{α:Type}{a b:Option α}{r:α}(h:decide p=true)(hm:(if p then a else b)=some r):a=some r:=Hw (of_decide_eq_true h) hm
theorem iF {p:Prop}[Decidable p]{α:Type}{a b:Option α}{r:α}(h:decide p=false)(hm:(if p then a else b)=some r):b=some r:=Hv (of_decide_eq_false h) hm
def Qf3:List Value→Nat→Option Value
 | [],_=>none
 | v::_,0=>some v
 | _::r,k+1=>Qf3 r k
theorem Qkd:∀ {l:List Value} {k:Nat} {v:Value},Qf3 l k=some v→l[k]? = some v
 | [],_,_,h=>by cases h
 | a::r,0,v,h=>h
 | a::r,k+1,v,h=>by rw[List.getElem?_cons_succ];exact Qkd h
def Qcd (L:Qv):Op→Option Value
 | .move x=>ev L x
 | .assign x=>ev L x
 | .extract x q=>match ev L x with
  | some (.tuple vs)=>Qf3 vs.toList q
  | _=>none
 | .pick c a b=>match ev L c with
  | some (.bool t)=>bif t then ev L a else ev L b
  | _=>none
 | _=>none
theorem Qkw {P:Program}{L:Qv}{dst:Option Nat}{op:Op}{ty:TypeId}{pos:String}{af:Array Edge}{gu:Option (Nat × Bool)}{v:Value}(h:Qcd L op=some v)(w:World):VV P L ⟨dst,op,ty,pos,af,gu⟩ w v:=by
 unfold Qcd at h
 split at h
 · exact Qt h
 · exact Vi h
 · split at h
   · rename_i x q _ vs hx
     exact Qx1 (vs:=vs.toList) (by rw[hx]) (Qkd h)
   · cases h
 · split at h
   · rename_i c a b _ t hc
     cases t with
     | true=>exact Qx9 hc h
     | false=>exact Qx8 hc h
   · cases h
 · cases h
def Ed (n:Nat)(ops:Array Oper)(L:Qv)(i:Nat):Option (Option Nat × Value):=
 match ops[i]? with
 | some o=>match gd ops L o with
  | some true=>match Qcd L o.op with
   | some v=>bif Vy n o.dst then some (o.dst,v) else none
   | none=>none
  | _=>none
 | none=>none
theorem Qm5 {n:Nat}{ops:Array Oper}{L:Qv}{i:Nat}{dst:Option Nat}{v:Value}(h:Ed n ops L i=some (dst,v)):∃ op ty pos af gu,ops[i]? = some ⟨dst,op,ty,pos,af,gu⟩∧gd ops L ⟨dst,op,ty,pos,af,gu⟩=some true∧Vy n dst=true∧Qcd L op=some v:=by
 unfold Ed at h
 split at h
 · rename_i o ho
   split at h
   · rename_i hg
     split at h
     · rename_i v' hv
       cases hc:Vy n o.dst with
       | false=>rw[hc] at h;cases h
       | true=>
        rw[hc] at h;cases h
        exact⟨_,_,_,_,_,ho,hg,hc,hv⟩
     · cases h
   · cases h
 · cases h
def Ov (ops:Array Oper)(k:Nat):Bool:=Nat.beq ops.size k&&Kr ops
theorem Uw {ops:Array Oper}{k:Nat}(h:Ov ops k=true):ops.size=k∧Kr ops=true:=by
 unfold Ov at h;rw[Bool.and_eq_true] at h;exact⟨Nat.eq_of_beq_eq_true h.1,h.2⟩
section
variable {P:Program} {r:Option Nat} {n:Nat} {Q:Exit→List Deferred→Qv→World→Prop} {K:List Deferred→Qv→World→Prop} {D:List Deferred} {L:Qv} {w:World} {S:Nat→World→Prop} {kp:Nat→Nat→Bool}
theorem qd {id:Nat}{ops ops':Array Oper}{y:Code}(k:Nat)(hk:Ov ops k=true)(h:SD P n ops (fun L w=>Wh (fun D L w=>SW P r n y Q D L w) Q .normal D L w) (fun _ _=>True) (fun _ _=>false) (od k 0) L w):
 SD P n ops' (fun L w=>Wh (fun D L w=>SW P r n (.seq (.region id ops false) y) Q D L w) Q .normal D L w) S kp [] L w:=Qa (qsr k (Uw hk).1 (Uw hk).2 h)
theorem qs {id:Nat}{ops:Array Oper}{y:Code}(k:Nat)(hk:Ov ops k=true)(h:SD P n ops (fun L w=>Wh (fun D L w=>SW P r n y Q D L w) Q .normal D L w) (fun _ _=>True) (fun _ _=>false) (od k 0) L w):SW P r n (.seq (.region id ops false) y) Q D L w:=
 qsr k (Uw hk).1 (Uw hk).2 h
theorem qg {id:Nat}{ops:Array Oper}(k:Nat)(hk:Ov ops k=true)(h:SD P n ops (fun L w=>Q .normal D L w) (fun _ _=>True) (fun _ _=>false) (od k 0) L w):SW P r n (.region id ops false) Q D L w:=
 qr k (Uw hk).1 (Uw hk).2 h
theorem qb {ops:Array Oper}{K:List Deferred→Qv→World→Prop}(h:Q .ret D L w):SD P n ops (fun L w=>Wh (fun D L w=>SW P r n .ret (Wh K Q) D L w) (Wh K Q) .normal D L w) S kp [] L w:=Qa (Qp (Xp h))
theorem qu {y:Code}(h:SW P r n y Q D L w):SW P r n .skip (Wh (fun D L w=>SW P r n y Q D L w) Q) D L w:=Jb (Xa h)
end
section
variable {P:Program} {n:Nat} {ops:Array Oper} {Q:Qv→World→Prop} {rest:List (Nat × Nat)} {i:Nat} {dst:Option Nat} {op:Op} {ty:TypeId} {pos:String} {af:Array Edge} {gu:Option (Nat × Bool)} {L:Qv} {w w₀:World} {v:Value} {mss:List (List Nat)} {ms:List Nat} {kp:Nat→Nat→Bool}
theorem qm (h0:Ed n ops L i=some (dst,v))(h:SD P n ops Q (fun _ _=>True) (fun _ _=>false) rest (Zn dst v L) w):SD P n ops Q (fun _ _=>True) (fun _ _=>false) ((i,0)::rest) L w:=by
 obtain⟨op,ty,pos,af,gu,h1,h2,h3,h4⟩:=Qm5 h0
 exact Xf h1 h2 h3 (Qkw h4 w) h
theorem dn (k:Nat)(h0:Ed n ops L i=some (dst,v))(hm:mss[k]? = some ms)(hS:Kp ms w₀ w)(h:SD P n ops Q (Zw mss w₀) kp rest (Zn dst v L) w):SD P n ops Q (Zw mss w₀) kp ((i,k+10)::rest) L w:=by
 obtain⟨op,ty,pos,af,gu,h1,h2,h3,h4⟩:=Qm5 h0
 exact Qal k h1 h2 h3 hm hS (fun w _=>Qkw h4 w) h
theorem dm (k:Nat)(h0:Ed n ops L i=some (dst,v))(hm:mss[k]? = some ms)(h:SD P n ops Q (Zw mss w₀) kp rest (Zn dst v L) w₀):SD P n ops Q (Zw mss w₀) kp ((i,k+10)::rest) L w₀:=dn k h0 hm (Kp.refl _ _) h
theorem dh {v:Value}(k:Nat)(hi:Vs true n ops L i=some ⟨dst,op,ty,pos,af,gu⟩)(hm:mss[k]? = some ms)(hv:∀ w,Kp ms w₀ w→VV P L ⟨dst,op,ty,pos,af,gu⟩ w v)(h:SD P n ops Q (Zw mss w₀) kp rest (Zn dst v L) w₀):SD P n ops Q (Zw mss w₀) kp ((i,k+10)::rest) L w₀:=
 qh k hi hm (Kp.refl _ _) hv h
theorem dx (k:Nat)(hi:Vs false n ops L i=some ⟨dst,op,ty,pos,af,gu⟩)(hm:mss[k]? = some ms)(h:SD P n ops Q (Zw mss w₀) kp rest (Zn dst undef L) w₀):SD P n ops Q (Zw mss w₀) kp ((i,k+10)::rest) L w₀:=
 qx k hi hm (Kp.refl _ _) h
end
section
variable {P:Program} {L:Qv} {w:World} {dst:Option Nat} {ty:TypeId} {pos:String} {af:Array Edge} {gu:Option (Nat × Bool)} {x y:Operand} {t:TypeId}
theorem Jh {b' m:Nat}{tb:TypeId}{cs vs:List Value}(hs:Vz P t m)(hx:ev L x=some (.pointer (some ⟨b',0,none⟩)))(hy:ev L y=some (.agg vs.toArray))(h1:Zx vs=true)(hb:Bx w b' tb cs)(hm:vs.length=m)(hl:cs.length=m):
 EV P L ⟨dst,.store t x y,ty,pos,af,gu⟩ w fun _ w'=>Bx w' b' tb vs∧Md b' w w':=
 Qj7 hs.siz hx hy rfl hm h1 hb (by rw[hl,Nat.zero_add];exact Nat.ble_eq_true_of_le (Nat.le_refl _)) (by unfold Vg;rw[List.take_zero,List.nil_append,Nat.zero_add,List.drop_eq_nil_of_le (by omega),List.append_nil])
end
theorem Qw {w:World}:Kz [] w w:=Kz.refl _ _
section
variable {b z g z' g' s z1 g1 z2 g2 z3 g3:Nat}
theorem Hz (r:Xb ((g'=g∧z=1)∨s≤g'∨z'=0))(h:z=0∨g≠b)(f:s≤b→False:=by omega):z'=0∨g'≠b:=Kc (A:=(· ≠ b)) r h (fun x hx e=>f (e ▸ hx))
theorem Qu (r:Xb (z=0∨s≤g))(f:s≤b→False:=by omega):z=0∨g≠b:=Xe (A:=(· ≠ b)) r (fun x hx e=>f (e ▸ hx))
theorem Xo (r:Xb (z=0∨(g=g1∧z1≠0)∨s≤g))(h1:z1=0∨g1≠b)(f:s≤b→False:=by omega):z=0∨g≠b:=Xu (A:=(· ≠ b)) r h1 (fun x hx e=>f (e ▸ hx))
theorem Xs (r:Xb (z=0∨(z=1∧g<s)))(f:b<s→False:=by omega):z=0∨g≠b:=Qu0 (A:=(· ≠ b)) r (fun x hx e=>f (e ▸ hx))
end
def rg:Nat→Nat→List Nat
 | _,0=>[]
 | a,n+1=>a::rg (a+1) n
theorem kG {w w':World}{p:Prop}(h:Gr w w')(k:p):Kz [] w w'∧p:=⟨Kz.ofGr h,k⟩
theorem kM {w w':World}{b:Nat}{p:Prop}(h:Md b w w')(k:p):Kz [(1,b)] w w'∧p:=⟨Kz.ofMd h,k⟩
theorem dw {P:Program}{r:Option Nat}{n:Nat}{Q:Exit→List Deferred→Qv→World→Prop}{D:List Deferred}{L:Qv}{w:World}{id:Nat}{ops:Array Oper}(mss:List (List Nat))(tab:List (Nat × List Nat))(t:Tz)
 (h:∀ w1,RowKit.Below w.heap.size w w1→w1.heap.size=w.heap.size→Vk P n ops (fun L w=>Q .normal D L w) (Zw mss w1) (kpN tab) t L w1) (hm:P.follows .mixedOrders=true:=by kernel_rfl) (hnd:Kr ops=true:=by kernel_rfl) (hlen:t.len=ops.size:=by exact rfl)
 (ho:Ar ops (kpN tab) t (Array.replicate ops.size false)=true:=by kernel_rfl):SW P r n (.region id ops true) Q D L w:=Qwg mss tab t hm hnd hlen ho h
theorem eC {P:Program}{L:Qv}{w:World}{dst:Option Nat}{ty:TypeId}{pos:String}{af:Array Edge}{gu:Option (Nat × Bool)}{f:Nat}{aas:Array Operand}{at_:Array TypeId}{vs:List Value}{R:Value→World→Prop}(hen:En P f)(hargs:Dt L aas.toList=some vs)
 (hc:Calls P f vs.toArray w fun e w'=>∃ v,e=.returned v∧R v w'):EV P L ⟨dst,.call { callee:=.value (.func f),args:=aas,argTypes:=at_ },ty,pos,af,gu⟩ w R:=Qj5 hen hargs hc
theorem Zm {P:Program}{n:Nat}{ops:Array Oper}{Q:Qv→World→Prop}{rest:List (Nat × Nat)}{i:Nat}{dst:Option Nat}{op:Op}{ty:TypeId}{pos:String}{af:Array Edge}{gu:Option (Nat × Bool)}{L:Qv}{w:World}{p:Prop}[Decidable p]{α:Type}{x₁ x₂:Option α}{r₁:α}(hm:(if p then x₁ else x₂)=some r₁)(hi:Vs true n ops L i=some ⟨dst,op,ty,pos,af,gu⟩)(hv:VV P L ⟨dst,op,ty,pos,af,gu⟩ w (.bool (decide p)))(h1:decide p=true→x₁=some r₁→SD P n ops Q (fun _ _=>True) (fun _ _=>false) rest (Zn dst (.bool true) L) w)(h2:decide p=false→x₂=some r₁→SD P n ops Q (fun _ _=>True) (fun _ _=>false) rest (Zn dst (.bool false) L) w):SD P n ops Q (fun _ _=>True) (fun _ _=>false) ((i,0)::rest) L w:=qp hi hv (fun c=>h1 c (iT c hm)) (fun c=>h2 c (iF c hm))
theorem Jo {P:Program}{n:Nat}{ops:Array Oper}{Q:Qv→World→Prop}{rest:List (Nat × Nat)}{i:Nat}{dst:Option Nat}{op:Op}{ty:TypeId}{pos:String}{af:Array Edge}{gu:Option (Nat × Bool)}{L:Qv}{w:World}{p:Prop}[Decidable p]{α:Type}{x₁ x₂:Option α}{r₁:α}(hm:(if p then x₁ else x₂)=some r₁)(hi:Vs true n ops L i=some ⟨dst,op,ty,pos,af,gu⟩)(hv:VV P L ⟨dst,op,ty,pos,af,gu⟩ w (.bool (decide p)))(h2:decide p=false→x₂=some r₁→SD P n ops Q (fun _ _=>True) (fun _ _=>false) rest (Zn dst (.bool false) L) w)(h1:decide p=true→x₁=some r₁→SD P n ops Q (fun _ _=>True) (fun _ _=>false) rest (Zn dst (.bool true) L) w):SD P n ops Q (fun _ _=>True) (fun _ _=>false) ((i,0)::rest) L w:=qp hi hv (fun c=>h1 c (iT c hm)) (fun c=>h2 c (iF c hm))
theorem Ni {P:Program}{n:Nat}{ops:Array Oper}{Q:Qv→World→Prop}{rest:List (Nat × Nat)}{i:Nat}{dst:Option Nat}{op:Op}{ty:TypeId}{pos:String}{af:Array Edge}{gu:Option (Nat × Bool)}{L:Qv}{w:World}{w₀:World}{mss:List (List Nat)}{ms:List Nat}{kp:Nat→Nat→Bool}{p:Prop}[Decidable p]{α:Type}{x₁ x₂:Option α}{r₁:α}(hm:(if p then x₁ else x₂)=some r₁)(k:Nat)(hi:Vs true n ops L i=some ⟨dst,op,ty,pos,af,gu⟩)(hk:mss[k]? = some ms)(hS:Kp ms w₀ w)(hv:∀ w,Kp ms w₀ w→VV P L ⟨dst,op,ty,pos,af,gu⟩ w (.bool (decide p)))(h1:decide p=true→x₁=some r₁→SD P n ops Q (Zw mss w₀) kp rest (Zn dst (.bool true) L) w)(h2:decide p=false→x₂=some r₁→SD P n ops Q (Zw mss w₀) kp rest (Zn dst (.bool false) L) w):SD P n ops Q (Zw mss w₀) kp ((i,k+10)::rest) L w:=qq k hi hk hS hv (fun c=>h1 c (iT c hm)) (fun c=>h2 c (iF c hm))
theorem Nh {P:Program}{n:Nat}{ops:Array Oper}{Q:Qv→World→Prop}{rest:List (Nat × Nat)}{i:Nat}{dst:Option Nat}{op:Op}{ty:TypeId}{pos:String}{af:Array Edge}{gu:Option (Nat × Bool)}{L:Qv}{w:World}{w₀:World}{mss:List (List Nat)}{ms:List Nat}{kp:Nat→Nat→Bool}{p:Prop}[Decidable p]{α:Type}{x₁ x₂:Option α}{r₁:α}(hm:(if p then x₁ else x₂)=some r₁)(k:Nat)(hi:Vs true n ops L i=some ⟨dst,op,ty,pos,af,gu⟩)(hk:mss[k]? = some ms)(hS:Kp ms w₀ w)(hv:∀ w,Kp ms w₀ w→VV P L ⟨dst,op,ty,pos,af,gu⟩ w (.bool (decide p)))(h2:decide p=false→x₂=some r₁→SD P n ops Q (Zw mss w₀) kp rest (Zn dst (.bool false) L) w)(h1:decide p=true→x₁=some r₁→SD P n ops Q (Zw mss w₀) kp rest (Zn dst (.bool true) L) w):SD P n ops Q (Zw mss w₀) kp ((i,k+10)::rest) L w:=qq k hi hk hS hv (fun c=>h1 c (iT c hm)) (fun c=>h2 c (iF c hm))
theorem Zq {P:Program}{r:Option Nat}{n:Nat}{Q:Exit→List Deferred→Qv→World→Prop}{D:List Deferred}{L:Qv}{w:World}{c:Operand}{x y:Code}{p:Prop}[Decidable p]{α:Type}{x₁ x₂:Option α}{r₁:α}(hm:(if p then x₁ else x₂)=some r₁)(hc:ev L c=some (.bool (decide p)))(h1:decide p=true→x₁=some r₁→SW P r n x Q D L w)(h2:decide p=false→x₂=some r₁→SW P r n y Q D L w):SW P r n (.cond c x y) Q D L w:=Pe hc (fun c=>h1 c (iT c hm)) (fun c=>h2 c (iF c hm))
theorem Zy {P:Program}{r:Option Nat}{n:Nat}{Q:Exit→List Deferred→Qv→World→Prop}{D:List Deferred}{L:Qv}{w:World}{c:Operand}{x y:Code}{p:Prop}[Decidable p]{α:Type}{x₁ x₂:Option α}{r₁:α}(hm:(if p then x₁ else x₂)=some r₁)(hc:ev L c=some (.bool (decide p)))(h2:decide p=false→x₂=some r₁→SW P r n y Q D L w)(h1:decide p=true→x₁=some r₁→SW P r n x Q D L w):SW P r n (.cond c x y) Q D L w:=Pe hc (fun c=>h1 c (iT c hm)) (fun c=>h2 c (iF c hm))
theorem Hm {P:Program}{n:Nat}{ops:Array Oper}{Q:Qv→World→Prop}{rest:List (Nat × Nat)}{i:Nat}{dst:Option Nat}{op:Op}{ty:TypeId}{pos:String}{af:Array Edge}{gu:Option (Nat × Bool)}{L:Qv}{w:World}{c₁:Bool}{α:Type}{x₁ x₂:Option α}{r₁:α}(hm:(bif c₁ then x₁ else x₂)=some r₁)(hi:Vs true n ops L i=some ⟨dst,op,ty,pos,af,gu⟩)(hv:VV P L ⟨dst,op,ty,pos,af,gu⟩ w (.bool c₁))(h1:c₁=true→x₁=some r₁→SD P n ops Q (fun _ _=>True) (fun _ _=>false) rest (Zn dst (.bool true) L) w)(h2:c₁=false→x₂=some r₁→SD P n ops Q (fun _ _=>True) (fun _ _=>false) rest (Zn dst (.bool false) L) w):SD P n ops Q (fun _ _=>True) (fun _ _=>false) ((i,0)::rest) L w:=qp hi hv (fun c=>h1 c (Ci c hm)) (fun c=>h2 c (Ch c hm))
theorem Ng {P:Program}{n:Nat}{ops:Array Oper}{Q:Qv→World→Prop}{rest:List (Nat × Nat)}{i:Nat}{dst:Option Nat}{op:Op}{ty:TypeId}{pos:String}{af:Array Edge}{gu:Option (Nat × Bool)}{L:Qv}{w:World}{c₁:Bool}{α:Type}{x₁ x₂:Option α}{r₁:α}(hm:(bif c₁ then x₁ else x₂)=some r₁)(hi:Vs true n ops L i=some ⟨dst,op,ty,pos,af,gu⟩)(hv:VV P L ⟨dst,op,ty,pos,af,gu⟩ w (.bool c₁))(h2:c₁=false→x₂=some r₁→SD P n ops Q (fun _ _=>True) (fun _ _=>false) rest (Zn dst (.bool false) L) w)(h1:c₁=true→x₁=some r₁→SD P n ops Q (fun _ _=>True) (fun _ _=>false) rest (Zn dst (.bool true) L) w):SD P n ops Q (fun _ _=>True) (fun _ _=>false) ((i,0)::rest) L w:=qp hi hv (fun c=>h1 c (Ci c hm)) (fun c=>h2 c (Ch c hm))
theorem Il {P:Program}{n:Nat}{ops:Array Oper}{Q:Qv→World→Prop}{rest:List (Nat × Nat)}{i:Nat}{dst:Option Nat}{op:Op}{ty:TypeId}{pos:String}{af:Array Edge}{gu:Option (Nat × Bool)}{L:Qv}{w:World}{w₀:World}{mss:List (List Nat)}{ms:List Nat}{kp:Nat→Nat→Bool}{c₁:Bool}{α:Type}{x₁ x₂:Option α}{r₁:α}(hm:(bif c₁ then x₁ else x₂)=some r₁)(k:Nat)(hi:Vs true n ops L i=some ⟨dst,op,ty,pos,af,gu⟩)(hk:mss[k]? = some ms)(hS:Kp ms w₀ w)(hv:∀ w,Kp ms w₀ w→VV P L ⟨dst,op,ty,pos,af,gu⟩ w (.bool c₁))(h1:c₁=true→x₁=some r₁→SD P n ops Q (Zw mss w₀) kp rest (Zn dst (.bool true) L) w)(h2:c₁=false→x₂=some r₁→SD P n ops Q (Zw mss w₀) kp rest (Zn dst (.bool false) L) w):SD P n ops Q (Zw mss w₀) kp ((i,k+10)::rest) L w:=qq k hi hk hS hv (fun c=>h1 c (Ci c hm)) (fun c=>h2 c (Ch c hm))
theorem Qky {P:Program}{n:Nat}{ops:Array Oper}{Q:Qv→World→Prop}{rest:List (Nat × Nat)}{i:Nat}{dst:Option Nat}{op:Op}{ty:TypeId}{pos:String}{af:Array Edge}{gu:Option (Nat × Bool)}{L:Qv}{w:World}{w₀:World}{mss:List (List Nat)}{ms:List Nat}{kp:Nat→Nat→Bool}{c₁:Bool}{α:Type}{x₁ x₂:Option α}{r₁:α}(hm:(bif c₁ then x₁ else x₂)=some r₁)(k:Nat)(hi:Vs true n ops L i=some ⟨dst,op,ty,pos,af,gu⟩)(hk:mss[k]? = some ms)(hS:Kp ms w₀ w)(hv:∀ w,Kp ms w₀ w→VV P L ⟨dst,op,ty,pos,af,gu⟩ w (.bool c₁))(h2:c₁=false→x₂=some r₁→SD P n ops Q (Zw mss w₀) kp rest (Zn dst (.bool false) L) w)(h1:c₁=true→x₁=some r₁→SD P n ops Q (Zw mss w₀) kp rest (Zn dst (.bool true) L) w):SD P n ops Q (Zw mss w₀) kp ((i,k+10)::rest) L w:=qq k hi hk hS hv (fun c=>h1 c (Ci c hm)) (fun c=>h2 c (Ch c hm))
theorem Zh {P:Program}{r:Option Nat}{n:Nat}{Q:Exit→List Deferred→Qv→World→Prop}{D:List Deferred}{L:Qv}{w:World}{c:Operand}{x y:Code}{c₁:Bool}{α:Type}{x₁ x₂:Option α}{r₁:α}(hm:(bif c₁ then x₁ else x₂)=some r₁)(hc:ev L c=some (.bool c₁))(h1:c₁=true→x₁=some r₁→SW P r n x Q D L w)(h2:c₁=false→x₂=some r₁→SW P r n y Q D L w):SW P r n (.cond c x y) Q D L w:=Pe hc (fun c=>h1 c (Ci c hm)) (fun c=>h2 c (Ch c hm))
theorem Wz {P:Program}{r:Option Nat}{n:Nat}{Q:Exit→List Deferred→Qv→World→Prop}{D:List Deferred}{L:Qv}{w:World}{c:Operand}{x y:Code}{c₁:Bool}{α:Type}{x₁ x₂:Option α}{r₁:α}(hm:(bif c₁ then x₁ else x₂)=some r₁)(hc:ev L c=some (.bool c₁))(h2:c₁=false→x₂=some r₁→SW P r n y Q D L w)(h1:c₁=true→x₁=some r₁→SW P r n x Q D L w):SW P r n (.cond c x y) Q D L w:=Pe hc (fun c=>h1 c (Ci c hm)) (fun c=>h2 c (Ch c hm))
def adv (n:Nat)(ops:Array Oper):Nat→List (Nat × Nat)→Qv→Option (List (Nat × Nat) × Qv)
 | 0,l,L=>some (l,L)
 | _+1,[],_=>none
 | _+1,(_,_+1)::_,_=>none
 | k+1,(i,0)::rest,L=>match Vs false n ops L i with
  | some ⟨dst,_,_,_,_,_⟩=>adv n ops k rest (Zn dst undef L)
  | none=>match Ed n ops L i with
   | some (dst,v)=>adv n ops k rest (Zn dst v L)
   | none=>none
theorem qn {P:Program}{n:Nat}{ops:Array Oper}{Q:Qv→World→Prop}{w:World}:∀ {l l':List (Nat × Nat)} {L L':Qv} (k:Nat),adv n ops k l L=some (l',L')→SD P n ops Q (fun _ _=>True) (fun _ _=>false) l' L' w→SD P n ops Q (fun _ _=>True) (fun _ _=>false) l L w
 | _,_,_,_,0,h,hh=>by cases h;exact hh
 | [],_,_,_,k+1,h,_=>by cases h
 | (_,_+1)::_,_,_,_,k+1,h,_=>by cases h
 | (i,0)::rest,_,L,_,k+1,h,hh=>by
  unfold adv at h
  split at h
  · rename_i ho;exact qk ho (qn k h hh)
  · split at h
    · rename_i hm;exact qm hm (qn k h hh)
    · cases h
end Go.Sx

end
section
set_option linter.unusedVariables false
set_option linter.unusedSimpArgs false
namespace Go.Sx
open Go Go.RowKit
theorem Kh {a b:Bool}(ha:a=true)(hb:b=true):(a&&b)=true:=by rw[ha,hb];rfl
end Go.Sx

end
section
set_option linter.unusedVariables false
set_option linter.unusedSimpArgs false
namespace Go.Sx
open Go Go.RowKit
def Wu (n:Int):Prop := -9223372036854775808≤n∧n≤9223372036854775807
section
variable {H:Type} {enc:TypeId × Value→H} {P:Program} {W:World} {fuel:Nat} {t e:TypeId} {cs:List Value} {x:DataW H × List MemPlace}
def Sz (P:Program)(t:TypeId)(d:DataW H):Prop:=∀ n∈d.weights P t,n≤reachBytes
abbrev Tr (enc:TypeId × Value→H)(P:Program)(W:World)(fuel:Nat)(t:TypeId)(cs:List Value)(x:DataW H × List MemPlace):Prop:=DataW.trod enc P W 0 (fun _=>true) true fuel t cs=some x
theorem Dg (hu:P.underlying t=some (.int .i64))(h:Tr enc P W fuel t cs x):∃ n:Int,cs=[.int .i64 n]∧Wu n:=by
 obtain⟨n,rfl,_,hw⟩:=DataW.trod_int hu h
 simp[Lit.wf,IntKind.min,IntKind.max,IntKind.signed,IntKind.bits] at hw
 exact⟨n,rfl,by unfold Wu;omega⟩
theorem Qf6 (hu:P.underlying t=some (.int .u64))(h:Tr enc P W fuel t cs x):∃ n:BitVec 64,cs=[wv n]:=by
 obtain⟨n,rfl,_,hw⟩:=DataW.trod_int hu h
 simp[Lit.wf,IntKind.min,IntKind.max,IntKind.signed,IntKind.bits] at hw
 refine⟨wd n,?_⟩
 show[Value.int .u64 n]=[Value.int .u64 (un (wd n))]
 rw[Qgk n (by omega) (by omega)]
theorem Qkj (hu:P.underlying t=some (.int .u8))(h:Tr enc P W fuel t cs x):∃ n:BitVec 8,cs=[bv n]:=by
 obtain⟨n,rfl,_,hw⟩:=DataW.trod_int hu h
 simp[Lit.wf,IntKind.min,IntKind.max,IntKind.signed,IntKind.bits] at hw
 refine⟨wd8 n,?_⟩
 show[Value.int .u8 n]=[Value.int .u8 (Jn (wd8 n))]
 have:Jn (wd8 n)=n:=by unfold Jn wd8;rw[BitVec.toNat_ofInt];omega
 rw[this]
theorem Qt3 (hu:P.underlying t=some .bool)(h:Tr enc P W fuel t cs x):∃ b:Bool,cs=[.bool b]:=by
 obtain⟨b,rfl,_⟩:=DataW.trod_bool hu h
 exact⟨b,rfl⟩
theorem Qma {fs:Array Field}{parts:List (DataW H)}(hu:P.underlying t=some (.struct fs))(h:Sz P t (.agg parts)){i:Nat}{u:TypeId}{d:DataW H}(ht:(fs.toList.map (·.type))[i]? = some u)(hd:parts[i]? = some d):Sz P u d:=fun n hn=>
 h n (by simp only[DataW.weights,hu];exact DataW.weights_mem_each ht hd n hn)
theorem Yk {fs:Array Field}{n:Nat}{xs:List (DataW H × List MemPlace)}(hf:∀ (i:Nat) (f:Field),fs[i]? = some f→DataW.trod enc P W 0 (fun _=>true) true n f.type ((cs.drop f.offset).take (P.cellsOf f.type))=xs[i]?){i o k:Nat}{u:TypeId}{f:Field}{y:DataW H × List MemPlace}
 (hi:fs[i]? = some f) (h1:f.type=u) (h2:f.offset=o) (h3:P.cellsOf u=k) (e:xs[i]? = some y):Tr enc P W n u ((cs.drop o).take k) y:=by
 subst h1;subst h2;subst h3
 exact(hf i f hi).trans e
theorem Yi {cs a r:List Value}{o k:Nat}(h:(cs.drop o).take k=a)(hr:cs.drop (o+k)=r):cs.drop o=a++r:=by rw[←h,←hr,←List.drop_drop,List.take_append_drop]
theorem Qa6 {cs:List Value}{n:Nat}(h:cs.length=n):cs.drop n=[]:=List.drop_eq_nil_of_le (by omega)
theorem Yp {α:Type}{xs:List α}{n i:Nat}(h:xs.length=n)(hi:Nat.blt i n=true):∃ y,xs[i]? = some y:=⟨xs[i]'(by rw[h];exact Nat.le_of_ble_eq_true hi),by simp⟩
theorem Qhd {w:World}{a:Addr}{n:Nat}{cs:List Value}(h:w.cells? 0 a n=some cs):cs.length=n∧∀ q u,cs[q]? = some u→w.cell? (a.add q)=some u:=by
 unfold World.cells? at h
 rw[if_pos (Nat.zero_le _)] at h
 have hl:=mapM_some_length h
 rw[List.length_range] at hl
 refine⟨hl,fun q u hq=>?_⟩
 have hqn:q<n:=by rw[←hl];exact(List.getElem?_eq_some_iff.1 hq).1
 have:=mapM_some_get h q q (by simp[hqn])
 rw[this];exact hq
theorem Qkh {r:Reach}{base:Nat}{v:Value}(hu:(∃ fs,P.underlying t=some (.struct fs))∨∃ n e,P.underlying t=some (.array n e))(h:Value.okWide P W r base t v):∃ cs:List Value,v=.agg cs.toArray:=by
 unfold Value.okWide at h
 split at h
 · obtain⟨cs,rfl,_⟩:=h;exact⟨cs.toList,rfl⟩
 · obtain⟨cs,rfl,_⟩:=h;exact⟨cs.toList,rfl⟩
 · rename_i h1 h2
   rcases hu with⟨fs,hu⟩|⟨n,e,hu⟩
   · exact absurd hu (h1 fs)
   · exact absurd hu (h2 n e)
theorem Qhc (cs:List Value):(Value.agg cs.toArray).cells.toList=cs:=rfl
theorem Qt4 {α:Type}{c:α→List Value}{ok:α→Prop}{sz bytes:Nat}(hu:P.underlying t=some (.slice e))(hc:P.cellsOf e=sz)(hb:P.bytesOf e=bytes)(hpos:1≤sz)(hcs:∀ a,(c a).length=sz∧Zx (c a)=true)
 (hel:∀ (fuel:Nat) (cs:List Value) (x:DataW H × List MemPlace),Tr enc P W fuel e cs x→∃ m:α,cs=c m∧ok m) (h:Tr enc P W fuel t cs x) (hw:Sz P t x.1):
 ∃ (l:List α) (v:Value) (z g o:Nat),cs=[v]∧Rd W z g o sz v (l.map c)∧(∀ a∈l,ok a)∧l.length*bytes≤140737488351232:=by
 rcases DataW.trod_slice hu h with⟨rfl,rfl⟩|⟨a,len,cap,elems,rest,n,rfl,rfl,rfl,_,hlc,hcm,hel2,hget,_,_⟩
 · exact⟨[],_,0,0,0,rfl,⟨Qdh _,.inl ⟨rfl,rfl,none,0,rfl⟩⟩,by simp,by simp⟩
 · have key:∀ i,i<len→∃ m:α,W.cells? 0 (a.add (i*sz)) sz=some (c m)∧ok m:=fun i hi=>by
    have h1:=hget i hi
    rw[hc] at h1
    have hy:elems[i]? = some elems[i]:=by simp
    rw[hy] at h1
    rw[Option.bind_eq_some_iff] at h1
    obtain⟨cs',h2,h3⟩:=h1
    obtain⟨m,rfl,hm⟩:=hel _ _ _ h3
    exact⟨m,h2,hm⟩
   let f:Fin len→α:=fun i=>Classical.choose (key i.1 i.2)
   have hf:∀ i (hi:i<len),W.cells? 0 (a.add (i*sz)) sz=some (c (f ⟨i,hi⟩))∧ok (f ⟨i,hi⟩):=fun i hi=>Classical.choose_spec (key i hi)
   have hws:Ws sz ((List.ofFn f).map c):=fun y hy=>by
    obtain⟨b,_,rfl⟩:=List.mem_map.1 hy;exact hcs b
   have hbd:(List.ofFn f).length*bytes≤140737488351232:=by
    have:=hw ((elems.length+rest.length)*P.bytesOf e) (by simp[DataW.weights,hu])
    rw[hb] at this
    have h2:elems.length*bytes≤(elems.length+rest.length)*bytes:=Nat.mul_le_mul_right _ (by omega)
    have h3:reachBytes=140737488351232:=by decide
    rw[List.length_ofFn,←hel2];omega
   rcases Nat.eq_zero_or_pos len with h0|hp
   · refine⟨List.ofFn f,_,0,0,0,rfl,⟨hws,.inl ⟨rfl,?_,some a,cap,by rw[h0]⟩⟩,?_,hbd⟩
     · apply List.eq_nil_of_length_eq_zero;simp[h0]
     · intro b hb';obtain⟨i,rfl⟩:=List.mem_ofFn.1 hb';exact(hf i.1 i.2).2
   · have hcell:∀ j u,((List.ofFn f).map c).flatten[j]? = some u→W.cell? (a.add j)=some u:=fun j u hj=>by
      have hjl:j<len*sz:=by
       have h1:=(List.getElem?_eq_some_iff.1 hj).1
       rw[hws.flat] at h1;simpa using h1
      have hq:j%sz<sz:=Nat.mod_lt _ (by omega)
      have hi:j / sz<len:=(Nat.div_lt_iff_lt_mul (by omega)).2 hjl
      obtain⟨h1,_⟩:=hf (j / sz) hi
      have h2:=hws.at (j / sz) (j%sz) (c (f ⟨j / sz,hi⟩)) (by simp[hi]) hq
      have hdm:j / sz*sz+j%sz=j:=by rw[Nat.mul_comm];exact Nat.div_add_mod j sz
      rw[hdm,hj] at h2
      have h3:=(Qhd h1).2 (j%sz) u h2.symm
      rw[Addr.add_add,hdm] at h3;exact h3
     have hsp:a.spot=none:=by
      have h0:∃ u,((List.ofFn f).map c).flatten[0]? = some u:=by
       have:0<((List.ofFn f).map c).flatten.length:=by rw[hws.flat];simp;exact Nat.mul_pos hp (by omega)
       exact⟨_,List.getElem?_eq_getElem this⟩
      obtain⟨u,hu0⟩:=h0
      simpa[Addr.add] using World.cell?_spot (hcell 0 u hu0)
     obtain⟨g,o,spot⟩:=a
     simp only at hsp;subst hsp
     have Xy:g<W.heap.size:=by
      have h0:∃ u,((List.ofFn f).map c).flatten[0]? = some u:=by
       have:0<((List.ofFn f).map c).flatten.length:=by rw[hws.flat];simp;exact Nat.mul_pos hp (by omega)
       exact⟨_,List.getElem?_eq_getElem this⟩
      obtain⟨u,hu0⟩:=h0
      have h1:=hcell 0 u hu0
      rcases Nat.lt_or_ge g W.heap.size with h|h
      · exact h
      · simp[World.cell?,Addr.add,Array.getElem?_eq_none h] at h1
     refine⟨List.ofFn f,_,1,g,o,rfl,⟨hws,.inr ⟨rfl,cap,by simp,⟨Xy,by simpa using hlc⟩,fun j u hj=>?_⟩⟩,?_,hbd⟩
     · have:=hcell j u hj;rw[Addr.add_lit] at this;exact this
     · intro b hb';obtain⟨i,rfl⟩:=List.mem_ofFn.1 hb';exact(hf i.1 i.2).2
end
end Go.Sx

end
section
set_option linter.unusedVariables false
set_option linter.unusedSimpArgs false
namespace Go.Sx
open Go Go.RowKit
section
variable {H:Type} {enc:TypeId × Value→H} {P:Program} {W:World} {fuel:Nat} {t e:TypeId} {cs:List Value} {x:DataW H × List MemPlace}
theorem Qno {d:DataW H}:∀ {ds:List (DataW H)},d∈ds→∀ n∈d.weights P e,n∈DataW.weightsAll P e ds
 | [],h,_,_=>by cases h
 | d0::ds,h,n,hn=>by
  simp only[DataW.weightsAll,List.mem_append]
  rcases List.mem_cons.1 h with rfl|h
  · exact .inl hn
  · exact .inr (Qno h n hn)
theorem Qt6 {α:Type}{c:α→List Value}{ok:α→Prop}{sz bytes:Nat}(hu:P.underlying t=some (.slice e))(hc:P.cellsOf e=sz)(hb:P.bytesOf e=bytes)(hpos:1≤sz)(hcs:∀ a,(c a).length=sz∧Zx (c a)=true)
 (hel:∀ (fuel:Nat) (cs:List Value) (x:DataW H × List MemPlace),Tr enc P W fuel e cs x→Sz P e x.1→∃ m:α,cs=c m∧ok m) (h:Tr enc P W fuel t cs x) (hw:Sz P t x.1):
 ∃ (l:List α) (v:Value) (z g o:Nat),cs=[v]∧Rd W z g o sz v (l.map c)∧(∀ a∈l,ok a)∧l.length*bytes≤140737488351232:=by
 rcases DataW.trod_slice hu h with⟨rfl,rfl⟩|⟨a,len,cap,elems,rest,n,rfl,rfl,rfl,_,hlc,hcm,hel2,hget,_,_⟩
 · exact⟨[],_,0,0,0,rfl,⟨Qdh _,.inl ⟨rfl,rfl,none,0,rfl⟩⟩,by simp,by simp⟩
 · have key:∀ i,i<len→∃ m:α,W.cells? 0 (a.add (i*sz)) sz=some (c m)∧ok m:=fun i hi=>by
    have h1:=hget i hi
    rw[hc] at h1
    have hy:elems[i]? = some elems[i]:=by simp
    rw[hy] at h1
    rw[Option.bind_eq_some_iff] at h1
    obtain⟨cs',h2,h3⟩:=h1
    obtain⟨m,rfl,hm⟩:=hel _ _ _ h3 (fun n hn=>hw n (by
     simp only[DataW.weights,hu]
     exact List.mem_cons_of_mem _ (List.mem_append_left _ (Qno (List.mem_map.2 ⟨elems[i],List.getElem_mem _,rfl⟩) n hn))))
    exact⟨m,h2,hm⟩
   let f:Fin len→α:=fun i=>Classical.choose (key i.1 i.2)
   have hf:∀ i (hi:i<len),W.cells? 0 (a.add (i*sz)) sz=some (c (f ⟨i,hi⟩))∧ok (f ⟨i,hi⟩):=fun i hi=>Classical.choose_spec (key i hi)
   have hws:Ws sz ((List.ofFn f).map c):=fun y hy=>by
    obtain⟨b,_,rfl⟩:=List.mem_map.1 hy;exact hcs b
   have hbd:(List.ofFn f).length*bytes≤140737488351232:=by
    have:=hw ((elems.length+rest.length)*P.bytesOf e) (by simp[DataW.weights,hu])
    rw[hb] at this
    have h2:elems.length*bytes≤(elems.length+rest.length)*bytes:=Nat.mul_le_mul_right _ (by omega)
    have h3:reachBytes=140737488351232:=by decide
    rw[List.length_ofFn,←hel2];omega
   rcases Nat.eq_zero_or_pos len with h0|hp
   · refine⟨List.ofFn f,_,0,0,0,rfl,⟨hws,.inl ⟨rfl,?_,some a,cap,by rw[h0]⟩⟩,?_,hbd⟩
     · apply List.eq_nil_of_length_eq_zero;simp[h0]
     · intro b hb';obtain⟨i,rfl⟩:=List.mem_ofFn.1 hb';exact(hf i.1 i.2).2
   · have hcell:∀ j u,((List.ofFn f).map c).flatten[j]? = some u→W.cell? (a.add j)=some u:=fun j u hj=>by
      have hjl:j<len*sz:=by
       have h1:=(List.getElem?_eq_some_iff.1 hj).1
       rw[hws.flat] at h1;simpa using h1
      have hq:j%sz<sz:=Nat.mod_lt _ (by omega)
      have hi:j / sz<len:=(Nat.div_lt_iff_lt_mul (by omega)).2 hjl
      obtain⟨h1,_⟩:=hf (j / sz) hi
      have h2:=hws.at (j / sz) (j%sz) (c (f ⟨j / sz,hi⟩)) (by simp[hi]) hq
      have hdm:j / sz*sz+j%sz=j:=by rw[Nat.mul_comm];exact Nat.div_add_mod j sz
      rw[hdm,hj] at h2
      have h3:=(Qhd h1).2 (j%sz) u h2.symm
      rw[Addr.add_add,hdm] at h3;exact h3
     have hsp:a.spot=none:=by
      have h0:∃ u,((List.ofFn f).map c).flatten[0]? = some u:=by
       have:0<((List.ofFn f).map c).flatten.length:=by rw[hws.flat];simp;exact Nat.mul_pos hp (by omega)
       exact⟨_,List.getElem?_eq_getElem this⟩
      obtain⟨u,hu0⟩:=h0
      simpa[Addr.add] using World.cell?_spot (hcell 0 u hu0)
     obtain⟨g,o,spot⟩:=a
     simp only at hsp;subst hsp
     have Xy:g<W.heap.size:=by
      have h0:∃ u,((List.ofFn f).map c).flatten[0]? = some u:=by
       have:0<((List.ofFn f).map c).flatten.length:=by rw[hws.flat];simp;exact Nat.mul_pos hp (by omega)
       exact⟨_,List.getElem?_eq_getElem this⟩
      obtain⟨u,hu0⟩:=h0
      have h1:=hcell 0 u hu0
      rcases Nat.lt_or_ge g W.heap.size with h|h
      · exact h
      · simp[World.cell?,Addr.add,Array.getElem?_eq_none h] at h1
     refine⟨List.ofFn f,_,1,g,o,rfl,⟨hws,.inr ⟨rfl,cap,by simp,⟨Xy,by simpa using hlc⟩,fun j u hj=>?_⟩⟩,?_,hbd⟩
     · have:=hcell j u hj;rw[Addr.add_lit] at this;exact this
     · intro b hb';obtain⟨i,rfl⟩:=List.mem_ofFn.1 hb';exact(hf i.1 i.2).2
abbrev Eo (W:World):List Nat:=List.range W.heap.size
theorem Qra {z g:Nat}(h:Xb (z=0∨(z=1∧g<W.heap.size))):z=0∨g∈Eo W:=h.o.imp id fun h=>List.mem_range.2 h.2
theorem Qt5 {α:Type}{R:Rp α}{ok:α→Prop}{bytes:Nat}(hu:P.underlying t=some (.slice e))(hc:P.cellsOf e=R.sz)(hb:P.bytesOf e=bytes)(hpos:1≤R.sz)
 (hel:∀ (fuel:Nat) (cs:List Value) (x:DataW H × List MemPlace),Tr enc P W fuel e cs x→Sz P e x.1→∃ (m:α) (x0:R.γ),cs=R.c (m,x0)∧R.S W (Eo W) (m,x0)∧ok m) (h:Tr enc P W fuel t cs x) (hw:Sz P t x.1):
 ∃ (l:List α) (v:Value) (z g o:Nat),cs=[v]∧Xx R W z g o v (Eo W) l∧(∀ a∈l,ok a)∧l.length*bytes≤140737488351232:=by
 obtain⟨l,v,z,g,o,h1,h2,h3,h4⟩:=Qt6 (α:={p:α × R.γ // R.S W (Eo W) p}) (c:=fun p=>R.c p.1) (ok:=fun p=>ok p.1.1) hu hc hb hpos (fun p=>R.ws p.2) (fun fuel cs x a b=>by
  obtain⟨m,x0,q1,q2,q3⟩:=hel fuel cs x a b
  exact⟨⟨(m,x0),q2⟩,q1,q3⟩) h hw
 refine⟨l.map fun p=>p.1.1,v,z,g,o,h1,⟨l.map Subtype.val,by rw[List.map_map];rfl,by rw[List.map_map];exact h2,fun p hp=>?_,fun b hb=>List.mem_range.1 hb⟩,fun a ha=>?_,by rw[List.length_map];exact h4⟩
 · obtain⟨q,_,rfl⟩:=List.mem_map.1 hp;exact q.2
 · obtain⟨q,hq,rfl⟩:=List.mem_map.1 ha;exact h3 q hq
end
end Go.Sx

end
section
set_option linter.unusedVariables false
namespace Go.Sx
open Go
def Qg3 (x:BitVec 64)(s:Nat):BitVec 64:=x <<< s ||| x >>> (64-s)
def rnd (p:W2)(k:BitVec 64):W2:=((Qg3 p.1 56+p.2) ^^^ k,Qg3 p.2 3 ^^^ ((Qg3 p.1 56+p.2) ^^^ k))
def ks (k:W2):Nat→W2
 | 0=>k
 | i+1=>rnd (ks k i) (wd (i:Int))
def lg (a:Int):Int:=if a.toNat=0 then 0 else(Nat.log2 a.toNat:Int)+1
end Go.Sx

end
section
set_option linter.unusedVariables false
namespace Go.Sx
open Go
def Sw {α:Type}(l:List α)(lo hi:Int):Option Nat:=if 0≤lo∧lo<hi∧hi≤l.length then some (hi-lo).toNat else none
def Wa (lo:Int)(n:Nat)(i:Int):Option Int:=if 0≤i∧i<(n:Int) then some (lo+i) else none
end Go.Sx

end
