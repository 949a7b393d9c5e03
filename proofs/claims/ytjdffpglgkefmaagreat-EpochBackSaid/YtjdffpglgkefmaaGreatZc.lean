/- Several texts in one: Mir MirB MirC MirD MirE MirF MirG Wd MirH MirI We MirJ MirK MirL Sq Row Opn Pln. -/
import Derived.Test.YtjdffpglgkefmaaGreatZb
import Derived.Laws.MakeOwn
import Derived.Laws.Slices
import Derived.Laws.IdiomStrings
import Derived.Laws.Strings
import Derived.Laws.IdiomCopy
import Derived.Laws.IdiomRangeMap
import Derived.ControlIn
import Derived.Laws.CopyRow
import Derived.Test.YtjdffpglgkefmaaGreatRows
import Derived.ProofKit
import Derived.OpenShut
import Derived.ShutString
import Derived.ChangeOld
import Derived.Below
import Derived.Carry
import Derived.SizedLaws
set_option linter.unusedVariables false
set_option linter.unusedSimpArgs false
section
set_option linter.unusedVariables false
set_option linter.unusedSimpArgs false
namespace Go.Sx
open Go Go.RowKit
abbrev w64 (n : Int) : Int := IntKind.i64.wrap n
def Qdn : Nat := 18446744073709551616
def Qcr {σ R : Type} (F : (σ → Option R) → σ → Option R) (n : Nat) : σ → Option R := Nat.rec (fun _ => none) (fun _ ih s => F ih s) n
theorem Qdw {σ R : Type} (F : (σ → Option R) → σ → Option R) (n : Nat) (s : σ) : Qcr F (n + 1) s = F (Qcr F n) s := rfl
theorem Qbt {σ R : Type} {F : (σ → Option R) → σ → Option R} {n : Nat} {s : σ} {r : R} (h : Qcr F n s = some r) : ∃ m, n = m + 1 ∧ F (Qcr F m) s = some r := by
  cases n with
  | zero => cases h
  | succ m => exact ⟨m, rfl, h⟩
theorem bnd {α β : Type} {o : Option α} {f : α → Option β} {r : β} (h : Option.bind o f = some r) : ∃ a, o = some a ∧ f a = some r := by
  cases o with
  | none => cases h
  | some a => exact ⟨a, rfl, h⟩
theorem Qv0 {β : Type} {c : Prop} [Decidable c] {a b : Option β} {r : β} (hc : c) (h : (if c then a else b) = some r) : a = some r := by rwa [if_pos hc] at h
theorem Qvq {β : Type} {c : Prop} [Decidable c] {a b : Option β} {r : β} (hc : ¬ c) (h : (if c then a else b) = some r) : b = some r := by rwa [if_neg hc] at h
theorem Qc0 {β : Type} {c : Bool} {a b : Option β} {r : β} (hc : c = true) (h : (bif c then a else b) = some r) : a = some r := by rw [hc] at h; exact h
theorem Qc1 {β : Type} {c : Bool} {a b : Option β} {r : β} (hc : c = false) (h : (bif c then a else b) = some r) : b = some r := by rw [hc] at h; exact h
def Qi2 {α : Type} (l : List α) (i : Int) : Option α := if 0 ≤ i then l[i.toNat]? else none
theorem Qny {α : Type} {l : List α} {i : Int} {a : α} (h : Qi2 l i = some a) : 0 ≤ i := by unfold Qi2 at h; split at h <;> first | assumption | cases h
theorem Qmq {α : Type} {l : List α} {i : Int} {a : α} (h : Qi2 l i = some a) : l[i.toNat]? = some a := by unfold Qi2 at h; split at h <;> first | assumption | cases h
theorem Qqw {α : Type} {l : List α} {i : Int} {a : α} (h : Qi2 l i = some a) : i < l.length := by
  have := (List.getElem?_eq_some_iff.1 (Qmq h)).1; have := Qny h; omega
def Qst {α : Type} (b : Nat) (l m : List α) : Option (List α) := if (l.length + m.length) * b ≤ 140737488355328 then some (l ++ m) else none
theorem Xiv {α : Type} {b : Nat} {l m k : List α} (h : Qst b l m = some k) : k = l ++ m ∧ (l.length + m.length) * b ≤ 140737488355328 := by
  unfold Qst at h; split at h
  · exact ⟨(Option.some.inj h).symm, ‹_›⟩
  · cases h
def mkL {α : Type} (b : Nat) (n : Int) (z : α) : Option (List α) := if 0 ≤ n ∧ n * b ≤ 140737488355328 then some (List.replicate n.toNat z) else none
theorem Xl7 {α : Type} {b : Nat} {n : Int} {z : α} {k : List α} (h : mkL b n z = some k) : k = List.replicate n.toNat z ∧ 0 ≤ n ∧ n * b ≤ 140737488355328 := by
  unfold mkL at h; split at h
  · rename_i h1; exact ⟨(Option.some.inj h).symm, h1⟩
  · cases h
def Xa9 {α : Type} (l : List α) (lo hi : Int) : Option (List α) := if 0 ≤ lo ∧ lo ≤ hi ∧ hi ≤ l.length then some ((l.take hi.toNat).drop lo.toNat) else none
theorem Xi3 {α : Type} {l k : List α} {lo hi : Int} (h : Xa9 l lo hi = some k) : k = (l.take hi.toNat).drop lo.toNat ∧ 0 ≤ lo ∧ lo ≤ hi ∧ hi ≤ l.length := by
  unfold Xa9 at h; split at h
  · rename_i h1; exact ⟨(Option.some.inj h).symm, h1⟩
  · cases h
def Xav (a b : Int) : Option Int := if b = 0 then none else some (w64 (a.tdiv b))
def Qvx (a b : Int) : Option Int := if b = 0 then none else some (a.tmod b)
def Qyy {n : Nat} (a b : BitVec n) : Option (BitVec n) := if b=BitVec.ofNat n 0 then none else some (a % b)
def shG (n : Int) : Option Nat := if 0 ≤ n then some n.toNat else none
theorem Qzs {n : Int} {k : Nat} (h : shG n = some k) : 0 ≤ n ∧ n.toNat = k := by
  unfold shG at h; split at h
  · rename_i h1; exact ⟨h1, Option.some.inj h⟩
  · cases h
def Qvz (a : Int) (n : Nat) : Int := w64 (a * 2 ^ min n 64)
def Xdy (a : Int) (n : Nat) : Int := a / 2 ^ min n 64
def Xmi (op : BinOp) (a b : Int) : Int := bits op .i64 a b
def un8 (x : BitVec 8) : Int := (x.toNat : Int)
abbrev bv (x : BitVec 8) : Value := .int .u8 (un8 x)
theorem Qhb (x : BitVec 8) : 0 ≤ un8 x := by unfold un8; omega
theorem Qhf (x : BitVec 8) : un8 x ≤ 255 := by unfold un8; have := x.isLt; omega
theorem Qyi {x y : BitVec 8} (h : un8 x = un8 y) : x = y := by apply BitVec.eq_of_toNat_eq; unfold un8 at h; omega
def wd8 (n : Int) : BitVec 8 := BitVec.ofInt 8 n
abbrev ic (n : Int) : List Value := [.int .i64 n]
abbrev uwc (x : BitVec 64) : List Value := [wv x]
abbrev bvc (x : BitVec 8) : List Value := [bv x]
abbrev k0 : W2 := (0#64, 0#64)
section
variable {P : Program} {L : Slots} {w : World} {dst : Option Nat} {ty : TypeId} {pos : String} {af : Array Edge} {gu : Option (Nat × Bool)} {x y : Operand} {t u : TypeId} {a b : Int}
theorem Qmr {c : Int} (hx : ev L x = some (.int .i64 a)) (hy : ev L y = some (.int .i64 b)) (h : Xav a b = some c) : VV P L ⟨dst, .binOp .quo t x y u, ty, pos, af, gu⟩ w (.int .i64 c) := fun ρ hρ => by
  unfold Xav at h
  split at h
  · cases h
  · rename_i hd; cases h
    simp [execOp, hρ _ _ hx, hρ _ _ hy, go_sem, Op.intDiv, hd]
theorem Qj5 {c : Int} (hx : ev L x = some (.int .i64 a)) (hy : ev L y = some (.int .i64 b)) (h : Qvx a b = some c) : VV P L ⟨dst, .binOp .rem t x y u, ty, pos, af, gu⟩ w (.int .i64 c) := fun ρ hρ => by
  unfold Qvx at h
  split at h
  · cases h
  · rename_i hd; cases h
    simp [execOp, hρ _ _ hx, hρ _ _ hy, go_sem, Op.intDiv, hd]
theorem Qrz {yk : IntKind} {n : Nat} (hx : ev L x = some (.int .i64 a)) (hy : ev L y = some (.int yk b)) (h : shG b = some n) : VV P L ⟨dst, .binOp .shl t x y u, ty, pos, af, gu⟩ w (.int .i64 (Qvz a n)) := by
  obtain ⟨h1, rfl⟩ := Qzs h
  exact Xh5 hx hy h1
theorem Qvh {yk : IntKind} {n : Nat} (hx : ev L x = some (.int .i64 a)) (hy : ev L y = some (.int yk b)) (h : shG b = some n) : VV P L ⟨dst, .binOp .shr t x y u, ty, pos, af, gu⟩ w (.int .i64 (Xdy a n)) := by
  obtain ⟨h1, rfl⟩ := Qzs h
  exact Xdo hx hy h1
theorem Qv6 {yk : IntKind} {n : Nat} {c : BitVec 64} (hx : ev L x = some (wv c)) (hy : ev L y = some (.int yk b)) (h : shG b = some n) : VV P L ⟨dst, .binOp .shl t x y u, ty, pos, af, gu⟩ w (wv (c <<< n)) := by
  obtain ⟨h1, rfl⟩ := Qzs h
  exact Qtt hx hy h1
theorem Qt1 {yk : IntKind} {n : Nat} {c : BitVec 64} (hx : ev L x = some (wv c)) (hy : ev L y = some (.int yk b)) (h : shG b = some n) : VV P L ⟨dst, .binOp .shr t x y u, ty, pos, af, gu⟩ w (wv (c >>> n)) := by
  obtain ⟨h1, rfl⟩ := Qzs h
  exact Quz hx hy h1
theorem Xia {op : BinOp} (hop : op = .and ∨ op = .or ∨ op = .xor ∨ op = .andNot) (hx : ev L x = some (.int .i64 a)) (hy : ev L y = some (.int .i64 b)) : VV P L ⟨dst, .binOp op t x y u, ty, pos, af, gu⟩ w (.int .i64 (Xmi op a b)) := Qrt hop hx hy
variable {c d : BitVec 64} {p q : BitVec 8}
theorem Qwq : un c = un d ↔ c = d := ⟨Xcn, fun h => by rw [h]⟩
theorem Xab : un8 p = un8 q ↔ p = q := ⟨Qyi, fun h => by rw [h]⟩
theorem Qns {p q : Prop} [Decidable p] [Decidable q] (h : p ↔ q) : Value.bool (decide p) = .bool (decide q) := by simp [h]
theorem Qxe : un c < un d ↔ c < d := by unfold un; rw [BitVec.lt_def]; omega
theorem Qwy : un c ≤ un d ↔ c ≤ d := by unfold un; rw [BitVec.le_def]; omega
theorem Qun : un8 p < un8 q ↔ p < q := by unfold un8; rw [BitVec.lt_def]; omega
theorem Qqt (hx : ev L x = some (wv c)) (hy : ev L y = some (wv d)) : VV P L ⟨dst, .binOp .eql t x y u, ty, pos, af, gu⟩ w (.bool (decide (c = d))) := Qg1 (Qdj hx hy) (Qns Qwq)
theorem Qv4 (hx : ev L x = some (wv c)) (hy : ev L y = some (wv d)) : VV P L ⟨dst, .binOp .neq t x y u, ty, pos, af, gu⟩ w (.bool (decide (c ≠ d))) := Qg1 (Qby hx hy) (Qns (not_congr Qwq))
theorem Qqs (hx : ev L x = some (wv c)) (hy : ev L y = some (wv d)) : VV P L ⟨dst, .binOp .lss t x y u, ty, pos, af, gu⟩ w (.bool (decide (c < d))) := Qg1 (Qc9 hx hy) (Qns Qxe)
theorem Xir (hx : ev L x = some (wv c)) (hy : ev L y = some (wv d)) : VV P L ⟨dst, .binOp .leq t x y u, ty, pos, af, gu⟩ w (.bool (decide (c ≤ d))) := Qg1 (Qn9 hx hy) (Qns Qwy)
theorem Qvr (hx : ev L x = some (wv c)) (hy : ev L y = some (wv d)) : VV P L ⟨dst, .binOp .gtr t x y u, ty, pos, af, gu⟩ w (.bool (decide (d < c))) := Qg1 (Qe8 hx hy) (Qns Qxe)
theorem Qty (hx : ev L x = some (wv c)) (hy : ev L y = some (wv d)) : VV P L ⟨dst, .binOp .geq t x y u, ty, pos, af, gu⟩ w (.bool (decide (d ≤ c))) := Qg1 (Qdy hx hy) (Qns Qwy)
theorem Qga (hx : ev L x = some (bv p)) (hy : ev L y = some (bv q)) : VV P L ⟨dst, .binOp .eql t x y u, ty, pos, af, gu⟩ w (.bool (decide (p = q))) := Qg1 (Qdj hx hy) (Qns Xab)
theorem Qro (hx : ev L x = some (bv p)) (hy : ev L y = some (bv q)) : VV P L ⟨dst, .binOp .lss t x y u, ty, pos, af, gu⟩ w (.bool (decide (p < q))) := Qg1 (Qc9 hx hy) (Qns Qun)
theorem Xdm (hx : ev L x = some (bv p)) (hy : ev L y = some (bv q)) : VV P L ⟨dst, .binOp .gtr t x y u, ty, pos, af, gu⟩ w (.bool (decide (q < p))) := Qg1 (Qe8 hx hy) (Qns Qun)
theorem Qkh {e : BitVec 64} (hx : ev L x = some (wv c)) (hy : ev L y = some (wv d)) (h : Qyy c d = some e) : VV P L ⟨dst, .binOp .rem t x y u, ty, pos, af, gu⟩ w (wv e) := by
  unfold Qyy at h
  split at h
  · cases h
  · rename_i hd; cases h
    have h0 : 0 < un d := by
      have := Qr7 d
      rcases Int.lt_or_eq_of_le this with h | h
      · exact h
      · exact absurd (Xcn (show un d = un 0#64 from by rw [← h]; rfl)) hd
    exact Qg1 (Xjp hx hy (Qr7 c) h0) (congrArg (Value.int .u64) (by unfold un; rw [BitVec.toNat_umod]; exact (Int.natCast_emod _ _).symm))
theorem Qp8 {s d : TypeId} (hc : CV P s d .i64) (hx : ev L x = some (wv c)) : VV P L ⟨dst, .convert s d x, ty, pos, af, gu⟩ w (.int .i64 (w64 (un c))) := Qnm hc hx
theorem Qte {s d : TypeId} (hc : CV P s d .i64) (hx : ev L x = some (bv p)) : VV P L ⟨dst, .convert s d x, ty, pos, af, gu⟩ w (.int .i64 (un8 p)) := Qje hc hx (by have := Qhb p; omega) (by have := Qhf p; omega)
theorem Qer {s d : TypeId} (hc : CV P s d .u64) (hx : ev L x = some (.int .i64 a)) : VV P L ⟨dst, .convert s d x, ty, pos, af, gu⟩ w (wv (wd a)) := Qg1 (Qnm hc hx) (by
  rw [IntKind.wrap_u64]; show Value.int .u64 _ = Value.int .u64 (un (wd a)); refine congrArg (Value.int .u64) ?_; unfold un wd; rw [BitVec.toNat_ofInt]; omega)
theorem Qru {s d : TypeId} (hc : CV P s d .u64) (hx : ev L x = some (bv p)) : VV P L ⟨dst, .convert s d x, ty, pos, af, gu⟩ w (wv (p.setWidth 64)) := Qg1 (Qnm hc hx) (by
  have := Qhb p; have := Qhf p
  rw [IntKind.wrap_u64, Int.emod_eq_of_lt (by omega) (by omega)]; show Value.int .u64 _ = Value.int .u64 (un (p.setWidth 64)); refine congrArg (Value.int .u64) ?_; unfold un8 un; rw [BitVec.toNat_setWidth, Nat.mod_eq_of_lt (by have := p.isLt; omega)])
theorem Qyh {s d : TypeId} (hc : CV P s d .u8) (hx : ev L x = some (wv c)) : VV P L ⟨dst, .convert s d x, ty, pos, af, gu⟩ w (bv (c.setWidth 8)) := Qg1 (Qtr hc hx) (by
  show Value.int .u8 _ = Value.int .u8 (un8 (c.setWidth 8)); refine congrArg (Value.int .u8) ?_; unfold un8 un; rw [BitVec.toNat_setWidth]; omega)
theorem Qyf {s d : TypeId} (hc : CV P s d .u8) (hx : ev L x = some (.int .i64 a)) : VV P L ⟨dst, .convert s d x, ty, pos, af, gu⟩ w (bv (wd8 a)) := Qg1 (Qnm hc hx) (by
  have : IntKind.u8.wrap a = a % 256 := by simp [IntKind.wrap, IntKind.bits, IntKind.signed]
  rw [this]; show Value.int .u8 _ = Value.int .u8 (un8 (wd8 a)); refine congrArg (Value.int .u8) ?_; unfold un8 wd8; rw [BitVec.toNat_ofInt]; omega)
end
section
variable {P : Program} {L : Slots} {w : World} {dst : Option Nat} {ty : TypeId} {pos : String} {af : Array Edge} {gu : Option (Nat × Bool)}
variable {x y : Operand} {t : TypeId} {z g o sz : Nat} {e : TypeId} {v : Value} {k : IntKind} {α : Type} {l : List α} {c : α → List Value} {a : α} {i : Int}
theorem Qba (hu : P.underlying t = some (.slice e)) (hx : ev L x = some v) (hr : Rd w z g o sz v (l.map c)) : VV P L ⟨dst, .call { callee := .builtin .len, args := #[x], argTypes := #[t] }, ty, pos, af, gu⟩ w (.int .i64 (l.length : Int)) := Xj2 hu hx hr (List.length_map ..)
theorem Qex (hu : P.underlying t = some (.slice e)) (hs : Siz P e sz) (hx : ev L x = some v) (hr : Rd w z g o sz v (l.map c)) (hy : ev L y = some (.int k i)) (hg : Qi2 l i = some a) :
    VV P L ⟨dst, .indexAddr t x y, ty, pos, af, gu⟩ w (.pointer (some ⟨g, o + i.toNat * sz, none⟩)) := Xlc hu hs hx hr (List.length_map ..) hy (Qny hg) (Qqw hg)
theorem Qj8 {p q : Nat} {u : Value} (h1 : One P t) (hx : ev L x = some (.pointer (some ⟨g, p, none⟩))) (hr : Rd w z g o sz v (l.map c)) (hg : Qi2 l i = some a) (hp : p = o + (i.toNat * sz + q)) (hc : (c a)[q]? = some u) : VV P L ⟨dst, .load t x, ty, pos, af, gu⟩ w u :=
  Xkz h1 hx hr (Xbh (Qmq hg)) hp hc
theorem Qgy {p : Nat} (h1 : Agg P t sz) (hx : ev L x = some (.pointer (some ⟨g, p, none⟩))) (hr : Rd w z g o sz v (l.map c)) (hg : Qi2 l i = some a) (hp : p = o + i.toNat * sz) : VV P L ⟨dst, .load t x, ty, pos, af, gu⟩ w (.agg (c a).toArray) :=
  Xlw h1 hx hr (Xbh (Qmq hg)) hp
theorem Qfn {bytes z2 g2 o2 : Nat} {u : Value} {m k : List α} (ha : ApT P t e sz bytes) (hx : ev L x = some v) (hy : ev L y = some u) (h : Own w z g e sz v (l.map c)) (hr : Rd w z2 g2 o2 sz u (m.map c)) (hb : Qst bytes l m = some k) (hpos : 1 ≤ bytes) :
    EV P L ⟨dst, .call { callee := .builtin .append, args := #[x, y], argTypes := #[t, t] }, ty, pos, af, gu⟩ w fun v' w' => ∃ z' g', Own w' z' g' e sz v' (k.map c) ∧ Ka z g w w' ∧ Hdn (z' = 0 ∨ (z' = 1 ∧ g' < w'.heap.size)) ∧ Hdn ((g' = g ∧ z = 1) ∨ w.heap.size ≤ g' ∨ z' = 0) := by
  obtain ⟨rfl, hb2⟩ := Xiv hb
  have hle : l.length + m.length ≤ (l.length + m.length) * bytes := Nat.le_mul_of_pos_right _ hpos
  refine (Xk6 ha hx hy h hr (by rw [List.length_map, List.length_map]; exact hb2) (by rw [List.length_map, List.length_map]; omega)).mono ?_
  rintro v' w' ⟨z', g', h1, h2, h3, h4, h5⟩
  exact ⟨z', g', by rw [List.map_append]; exact h1, h2, ⟨h3⟩, ⟨h4⟩⟩
theorem Qcx {len : Nat} {zs cs : List Value} {parts : Array (Nat × Operand)} {vs : List (Nat × Value)} (l : List α) (c : α → List Value) (hb : BSl P t len e sz zs) (hp : evp L parts.toList = some vs) (hf : Qrh (fun i => some (i * sz, sz)) zs vs = some cs)
    (hw : Ws sz (l.map c)) (hx : cs = (l.map c).flatten) (hl : l.length = len) (hm : Nat.ble len 1000000 = true) :
    EV P L ⟨dst, .buildSlice t len parts, ty, pos, af, gu⟩ w fun v' w' => ∃ g', w.heap.size ≤ g' ∧ Own w' 1 g' e sz v' (l.map c) ∧ Gr w w' := Xk7 hb hp hf hw hx (by rw [List.length_map]; exact hl) hm
theorem Ws.take {sz n : Nat} {xs : List (List Value)} (h : Ws sz xs) : Ws sz (xs.take n) := fun y hy => h y (List.mem_of_mem_take hy)
theorem Ws.drop {sz n : Nat} {xs : List (List Value)} (h : Ws sz xs) : Ws sz (xs.drop n) := fun y hy => h y (List.mem_of_mem_drop hy)
theorem Qts {sz : Nat} : ∀ (n : Nat) (xs : List (List Value)), Ws sz xs → (xs.drop n).flatten = xs.flatten.drop (n * sz)
  | 0, xs, _ => by simp
  | n + 1, [], _ => by simp
  | n + 1, x :: xs, h => by
    have hx := (h x (by simp)).1
    rw [List.drop_succ_cons, Qts n xs (fun y hy => h y (List.mem_cons_of_mem _ hy)), List.flatten_cons, List.drop_append]
    have e : (n + 1) * sz - x.length = n * sz := by rw [hx, Nat.add_mul]; omega
    have e2 : x.drop ((n + 1) * sz) = [] := List.drop_eq_nil_of_le (by rw [hx, Nat.add_mul]; omega)
    rw [e, e2, List.nil_append]
theorem Qr1 {sz : Nat} : ∀ (n : Nat) (xs : List (List Value)), Ws sz xs → (xs.take n).flatten = xs.flatten.take (n * sz)
  | 0, xs, _ => by simp
  | n + 1, [], _ => by simp
  | n + 1, x :: xs, h => by
    have hx := (h x (by simp)).1
    rw [List.take_succ_cons, List.flatten_cons, Qr1 n xs (fun y hy => h y (List.mem_cons_of_mem _ hy)), List.flatten_cons, List.take_append]
    have e : (n + 1) * sz - x.length = n * sz := by rw [hx, Nat.add_mul]; omega
    have e2 : x.take ((n + 1) * sz) = x := List.take_of_length_le (by rw [hx, Nat.add_mul]; omega)
    rw [e, e2]
end
end Go.Sx

end
section
set_option linter.unusedVariables false
set_option linter.unusedSimpArgs false
namespace Go.Sx
open Go Go.RowKit
def Nin : List (Nat × Nat) → Nat → Prop
  | [], _ => True
  | (z, g) :: r, k => (z = 0 ∨ k ≠ g) ∧ Nin r k
def Mz : List (Nat × Nat) → Nat → Prop
  | [], _ => False
  | (z, g) :: r, k => (k = g ∧ z ≠ 0) ∨ Mz r k
def InZ (l : List (Nat × Nat)) (z g base : Nat) : Prop := z = 0 ∨ base ≤ g ∨ Mz l g
def InA : List (Nat × Nat) → List (Nat × Nat) → Nat → Prop
  | [], _, _ => True
  | (z, g) :: r, l, base => InZ l z g base ∧ InA r l base
theorem Qj1 {g : Nat} : ∀ {ms : List Nat}, Mz (ms.map fun b => (1, b)) g ↔ g ∈ ms
  | [] => by simp [Mz]
  | a :: r => by simp [Mz, Qj1]
theorem Xgg : ∀ {l : List (Nat × Nat)} {k g : Nat}, Nin l k → Mz l g → k ≠ g
  | [], k, g, _, h => h.elim
  | (z, b) :: r, k, g, hn, h => by
    rcases h with ⟨h1, h2⟩ | h
    · subst h1; rcases hn.1 with h0 | h0
      · exact absurd h0 h2
      · exact h0
    · exact Xgg hn.2 h
theorem Xb7 {l : List (Nat × Nat)} {z g base k : Nat} (h : InZ l z g base) (hk : k < base) (hn : Nin l k) : z = 0 ∨ k ≠ g := by
  rcases h with h | h | h
  · exact .inl h
  · exact .inr (by omega)
  · exact .inr (Xgg hn h)
theorem Qsz {l : List (Nat × Nat)} {base k : Nat} (hk : k < base) (hn : Nin l k) : ∀ {m : List (Nat × Nat)}, InA m l base → Nin m k
  | [], _ => trivial
  | (z, g) :: r, h => ⟨Xb7 h.1 hk hn, Qsz hk hn h.2⟩
structure Kz (l : List (Nat × Nat)) (w w' : World) : Prop where
  os : w'.os = w.os
  tape : w'.tape = w.tape
  output : w'.output = w.output
  size : w.heap.size ≤ w'.heap.size
  block : ∀ k, k < w.heap.size → Nin l k → w'.heap[k]? = w.heap[k]?
section
variable {l m : List (Nat × Nat)} {w w₁ w₂ w' : World} {z g b o sz : Nat} {t e : TypeId} {cs : List Value} {v : Value} {xs : List (List Value)}
theorem Kz.refl (l : List (Nat × Nat)) (w : World) : Kz l w w := ⟨rfl, rfl, rfl, Nat.le_refl _, fun _ _ _ => rfl⟩
theorem Kz.gr (h : Kz l w w₁) (k : Gr w₁ w₂) : Kz l w w₂ := ⟨k.os.trans h.os, k.tape.trans h.tape, k.output.trans h.output, Nat.le_trans h.size k.size, fun i hi hn => (k.block i (Nat.lt_of_lt_of_le hi h.size)).trans (h.block i hi hn)⟩
theorem Kz.md (h : Kz l w w₁) (k : Md b w₁ w₂) (hb : InZ l 1 b w.heap.size := by simp only [Nin, InA, InZ, Qj1, Mz, or_true, true_or, and_true, List.mem_cons, List.mem_append, Qce, List.not_mem_nil, or_false, false_or, not_or, ne_eq, List.nil_append, List.cons_append, true_and, and_true, false_and, and_false, not_true_eq_false, not_false_eq_true, or_true, true_or] <;> omega) : Kz l w w₂ := ⟨k.os.trans h.os, k.tape.trans h.tape, k.output.trans h.output, by rw [k.size]; exact h.size, fun i hi hn => (k.block i (by have := Xb7 hb hi hn; omega)).trans (h.block i hi hn)⟩
theorem Kz.ka (h : Kz l w w₁) (k : Ka z g w₁ w₂) (hb : InZ l z g w.heap.size := by simp only [Nin, InA, InZ, Qj1, Mz, or_true, true_or, and_true, List.mem_cons, List.mem_append, Qce, List.not_mem_nil, or_false, false_or, not_or, ne_eq, List.nil_append, List.cons_append, true_and, and_true, false_and, and_false, not_true_eq_false, not_false_eq_true, or_true, true_or] <;> omega) : Kz l w w₂ := ⟨k.os.trans h.os, k.tape.trans h.tape, k.output.trans h.output, Nat.le_trans h.size k.size, fun i hi hn => (k.block i (Nat.lt_of_lt_of_le hi h.size) (Xb7 hb hi hn)).trans (h.block i hi hn)⟩
theorem Kz.kz (h : Kz l w w₁) (k : Kz m w₁ w₂) (hb : InA m l w.heap.size := by simp only [Nin, InA, InZ, Qj1, Mz, or_true, true_or, and_true, List.mem_cons, List.mem_append, Qce, List.not_mem_nil, or_false, false_or, not_or, ne_eq, List.nil_append, List.cons_append, true_and, and_true, false_and, and_false, not_true_eq_false, not_false_eq_true, or_true, true_or] <;> omega) : Kz l w w₂ := ⟨k.os.trans h.os, k.tape.trans h.tape, k.output.trans h.output, Nat.le_trans h.size k.size, fun i hi hn => (k.block i (Nat.lt_of_lt_of_le hi h.size) (Qsz hi hn hb)).trans (h.block i hi hn)⟩
theorem Kz.kp {ms : List Nat} (h : Kz l w w₁) (k : Kp ms w₁ w₂) (hb : InA (ms.map fun b => (1, b)) l w.heap.size) : Kz l w w₂ := ⟨k.os.trans h.os, k.tape.trans h.tape, k.output.trans h.output, Nat.le_trans h.size k.size, fun i hi hn => (k.block i (Nat.lt_of_lt_of_le hi h.size) (fun hm => by
  have h1 := Qsz hi hn hb
  have key : ∀ (ms : List Nat), i ∈ ms → Nin (ms.map fun b => (1, b)) i → False := by
    intro ms
    induction ms with
    | nil => intro h; cases h
    | cons a r ih =>
      intro h h2
      rcases List.mem_cons.1 h with rfl | h
      · have := h2.1; omega
      · exact ih h h2.2
  exact key ms hm h1)).trans (h.block i hi hn)⟩
theorem Gr.kz (h : Gr w w₁) (k : Kz m w₁ w₂) (hb : InA m [] w.heap.size := by simp only [Nin, InA, InZ, Qj1, Mz, or_true, true_or, and_true, List.mem_cons, List.mem_append, Qce, List.not_mem_nil, or_false, false_or, not_or, ne_eq, List.nil_append, List.cons_append, true_and, and_true, false_and, and_false, not_true_eq_false, not_false_eq_true, or_true, true_or] <;> omega) : Gr w w₂ := ⟨k.os.trans h.os, k.tape.trans h.tape, k.output.trans h.output, Nat.le_trans h.size k.size, fun i hi => (k.block i (Nat.lt_of_lt_of_le hi h.size) (Qsz (l := []) hi trivial hb)).trans (h.block i hi)⟩
theorem Kp.kz {ms : List Nat} (h : Kp ms w w₁) (k : Kz m w₁ w₂) (hb : InA m (ms.map fun b => (1, b)) w.heap.size := by simp only [Nin, InA, InZ, Qj1, Mz, or_true, true_or, and_true, List.mem_cons, List.mem_append, Qce, List.not_mem_nil, or_false, false_or, not_or, ne_eq, List.nil_append, List.cons_append, true_and, and_true, false_and, and_false, not_true_eq_false, not_false_eq_true, or_true, true_or] <;> omega) : Kp ms w w₂ := ⟨k.os.trans h.os, k.tape.trans h.tape, k.output.trans h.output, Nat.le_trans h.size k.size, fun i hi hn => (k.block i (Nat.lt_of_lt_of_le hi h.size) (Qsz hi (by
  have key : ∀ (ms : List Nat), i ∉ ms → Nin (ms.map fun b => (1, b)) i := by
    intro ms
    induction ms with
    | nil => intro _; trivial
    | cons a r ih => intro h; exact ⟨.inr (fun e => h (by rw [e]; simp)), ih (fun h2 => h (by simp [h2]))⟩
  exact key ms hn) hb)).trans (h.block i hi hn)⟩
theorem Bx.kz (h : Bx w b t cs) (k : Kz l w w') (hn : Nin l b := by simp only [Nin, InA, InZ, Qj1, Mz, or_true, true_or, and_true, List.mem_cons, List.mem_append, Qce, List.not_mem_nil, or_false, false_or, not_or, ne_eq, List.nil_append, List.cons_append, true_and, and_true, false_and, and_false, not_true_eq_false, not_false_eq_true, or_true, true_or] <;> omega) : Bx w' b t cs := (k.block b h.lt hn).trans h
theorem Own.kz (h : Own w z g e sz v xs) (k : Kz l w w') (hn : z = 0 ∨ Nin l g := by simp only [Nin, InA, InZ, Qj1, Mz, or_true, true_or, and_true, List.mem_cons, List.mem_append, Qce, List.not_mem_nil, or_false, false_or, not_or, ne_eq, List.nil_append, List.cons_append, true_and, and_true, false_and, and_false, not_true_eq_false, not_false_eq_true, or_true, true_or] <;> omega) : Own w' z g e sz v xs := h.keep (hn.imp id fun hn hl => k.block g hl hn)
theorem Rd.kz (h : Rd w z g o sz v xs) (k : Kz l w w') (hn : z = 0 ∨ Nin l g := by simp only [Nin, InA, InZ, Qj1, Mz, or_true, true_or, and_true, List.mem_cons, List.mem_append, Qce, List.not_mem_nil, or_false, false_or, not_or, ne_eq, List.nil_append, List.cons_append, true_and, and_true, false_and, and_false, not_true_eq_false, not_false_eq_true, or_true, true_or] <;> omega) : Rd w' z g o sz v xs := h.keep (hn.imp id fun hn hl => k.block g hl hn) k.size
theorem Df.kz {D : Nat} (h : Df w D) (k : Kz l w w') (hn : Nin l D := by simp only [Nin, InA, InZ, Qj1, Mz, or_true, true_or, and_true, List.mem_cons, List.mem_append, Qce, List.not_mem_nil, or_false, false_or, not_or, ne_eq, List.nil_append, List.cons_append, true_and, and_true, false_and, and_false, not_true_eq_false, not_false_eq_true, or_true, true_or] <;> omega) : Df w' D := (k.block D h.lt hn).trans h
theorem Rd.oneB (h : Rd w z g o sz v xs) : oneB v = true := by
  rcases h.2 with ⟨_, _, a, c, rfl⟩ | ⟨_, c, rfl, _⟩ <;> rfl
end
theorem Xbg {sz : Nat} {α : Type} {c : α → List Value} {l : List α} (h : ∀ x ∈ l, (c x).length = sz ∧ Qjr (c x) = true) : Ws sz (l.map c) := fun y hy => by
  obtain ⟨x, hx, rfl⟩ := List.mem_map.1 hy
  exact h x hx
theorem Qhk (k : IntKind) (n : Int) : oneB (.int k n) = true := rfl
theorem Qfd (b : Bool) : oneB (.bool b) = true := rfl
theorem Qhc (b : ByteArray) : oneB (.string b) = true := rfl
theorem Xfm {P : Program} {r : Option Nat} {n : Nat} {Q : Exit → List Deferred → Slots → World → Prop} {D : List Deferred} {L : Slots} {w : World} {x y : Code} {β : Type} (dead : List Nat) (dyn : β → Slots) (J : β → World → Prop)
    (hk : ∀ b w1, J b w1 → SW P r n y Q D (dyn b ++ drp dead L) w1)
    (h : SW P r n x (Qoe (fun D1 L1 w1 => D1 = D ∧ ∃ b, Qxf (dyn b ++ drp dead L) L1 ∧ J b w1) Q) D L w) : SW P r n (.seq x y) Q D L w :=
  Qa3 (h.mono fun e D1 L1 w1 hh => by
    cases e with
    | normal => obtain ⟨rfl, b, h1, h2⟩ := hh; exact (hk b w1 h2).forget h1
    | exit id => exact hh
    | goto l => exact hh
    | ret => exact hh
    | panic c => exact hh
    | outgrown => exact hh)
section
variable {P : Program} {L : Slots} {w : World} {dst : Option Nat} {ty : TypeId} {pos : String} {af : Array Edge} {gu : Option (Nat × Bool)} {x y : Operand} {t u : TypeId}
theorem Qy5 {p : Prop} [Decidable p] (hx : ev L x = some (.bool (decide p))) : VV P L ⟨dst, .unOp .not t x, ty, pos, af, gu⟩ w (.bool (decide (¬ p))) := Qg1 (Qci hx) (by by_cases h : p <;> simp [h])
def BZ (P : Program) (t : TypeId) (v : Value) : Prop := ∀ w, (Instr.build t #[]).run P w = .ok v w
theorem Qe1 {v : Value} (h : BZ P t v) : VV P L ⟨dst, .build t #[], ty, pos, af, gu⟩ w v := fun ρ hρ => Qoh (by simpa using h w)
def Xo8 : Value → Bool
  | .pointer (some _) => true
  | .func (.func _) _ _ => true
  | _ => false
theorem Qcc {v : Value} (hx : ev L x = some v) (hs : Xo8 v = true) : VV P L ⟨dst, .nilCheck x, ty, pos, af, gu⟩ w v := fun ρ hρ => by
  simp only [execOp, hρ _ _ hx]
  unfold Xo8 at hs
  split at hs <;> first | rfl | cases hs
theorem Xil {a b : Bool} (hu : P.underlying t = some .bool) (hx : ev L x = some (.bool a)) (hy : ev L y = some (.bool b)) : VV P L ⟨dst, .binOp .neq t x y u, ty, pos, af, gu⟩ w (.bool (a != b)) := fun ρ hρ => by
  simp [execOp, hρ _ _ hx, hρ _ _ hy, go_sem, run_neq_bool _ _ _ _ hu]; cases a <;> cases b <;> rfl
theorem Xaz {p : Prop} [Decidable p] {q : Prop} (h : q ↔ p) : dcd q = decide p := by
  by_cases hp : p
  · rw [Qpk (h.2 hp)]; simp [hp]
  · rw [Qwx (fun hq => hp (h.1 hq))]; simp [hp]
theorem Qtf {α : Type} [DecidableEq α] {cf : α → List Value} {a b : α} {ks : List Ck} (h : EqT P t ks) (hx : ev L x = some (.agg (cf a).toArray)) (hy : ev L y = some (.agg (cf b).toArray)) (hc : kn ks (cf a) = true) (hd : kn ks (cf b) = true) (inj : cf a = cf b → a = b) :
    VV P L ⟨dst, .binOp .eql t x y u, ty, pos, af, gu⟩ w (.bool (decide (a = b))) := Qg1 (Xiu h hx hy hc hd) (by rw [Xaz ⟨inj, fun h => by rw [h]⟩])
theorem Qlu {α : Type} [DecidableEq α] {cf : α → List Value} {a b : α} {ks : List Ck} (h : EqT P t ks) (hx : ev L x = some (.agg (cf a).toArray)) (hy : ev L y = some (.agg (cf b).toArray)) (hc : kn ks (cf a) = true) (hd : kn ks (cf b) = true) (inj : cf a = cf b → a = b) :
    VV P L ⟨dst, .binOp .neq t x y u, ty, pos, af, gu⟩ w (.bool (decide (a ≠ b))) := Qg1 (Xha h hx hy hc hd) (by rw [Xaz (p := a = b) ⟨inj, fun h => by rw [h]⟩]; by_cases h : a = b <;> simp [h])
theorem Qkq {a b : Int} {k : IntKind} (h : some (Value.int k a) = some (.int k b)) : a = b := by simpa using h
theorem Qt9 {a b : BitVec 64} (h : some (wv a) = some (wv b)) : a = b := Xcn (Qkq h)
theorem Xfw {a b : BitVec 8} (h : some (bv a) = some (bv b)) : a = b := Qyi (Qkq h)
theorem Xm9 {a b : Bool} (h : some (Value.bool a) = some (.bool b)) : a = b := by simpa using h
theorem Qct {b' off : Nat} {tb : TypeId} {v : Value} {cs cs' : List Value} (hs : Siz P t 1) (hx : ev L x = some (.pointer (some ⟨b', off, none⟩))) (hy : ev L y = some v) (h1 : oneB v = true) (hb : Bx w b' tb cs) (hl : Nat.blt off cs.length = true) (he : cs.set off v = cs') :
    EV P L ⟨dst, .store t x y, ty, pos, af, gu⟩ w fun _ w' => Bx w' b' tb cs' ∧ Md b' w w' := by
  subst he; exact Qn8 hs hx hy h1 hb (by simpa using hl)
theorem Qkp {b' off m : Nat} {tb : TypeId} {v : Value} {cs vs cs' : List Value} (hs : Siz P t m) (hx : ev L x = some (.pointer (some ⟨b', off, none⟩))) (hy : ev L y = some v) (hc : v.cells = vs.toArray) (hm : vs.length = m) (h1 : Qjr vs = true) (hb : Bx w b' tb cs) (hl : Nat.ble (off + m) cs.length = true) (he : spl cs off vs = cs') :
    EV P L ⟨dst, .store t x y, ty, pos, af, gu⟩ w fun _ w' => Bx w' b' tb cs' ∧ Md b' w w' := by
  subst he; exact Qrf hs hx hy hc hm h1 hb hl
end
section
variable {P : Program} {L : Slots} {w : World} {dst : Option Nat} {ty : TypeId} {pos : String} {af : Array Edge} {gu : Option (Nat × Bool)} {x y : Operand} {t e : TypeId} {z g sz : Nat} {v : Value}
theorem Xii (cs : List Value) (off : Nat) (vs : List Value) (h : off + vs.length ≤ cs.length) : (spl cs off vs).length = cs.length := by simp [spl]; omega
theorem Xfj (cs : List Value) (off n : Nat) (vs : List Value) (h : off + vs.length ≤ n) (hn : n ≤ cs.length) : (spl cs off vs).take n = spl (cs.take n) off vs := by
  have e1 : (cs.take off).length = off := by simp; omega
  unfold spl
  rw [List.take_append, List.take_append, List.length_append, e1, List.take_of_length_le (l := cs.take off) (by omega), List.take_of_length_le (l := vs) (by omega), List.take_take, Nat.min_eq_left (by omega), List.drop_take]
theorem Quq : ∀ (xs : List (List Value)) (i q : Nat) (c vs : List Value), Ws sz xs → xs[i]? = some c → q + vs.length ≤ sz → (xs.set i (spl c q vs)).flatten = spl xs.flatten (i * sz + q) vs
  | [], i, q, c, vs, _, hi, _ => by simp at hi
  | a :: xs, 0, q, c, vs, h, hi, hq => by
    simp at hi; subst hi
    have ha := (h a (by simp)).1
    simp only [List.set_cons_zero, List.flatten_cons, Nat.zero_mul, Nat.zero_add, spl]
    rw [List.take_append_of_le_length (by omega), List.drop_append_of_le_length (by omega)]
    simp
  | a :: xs, i + 1, q, c, vs, h, hi, hq => by
    simp at hi
    have ha := (h a (by simp)).1
    have ih := Quq xs i q c vs (fun y hy => h y (List.mem_cons_of_mem _ hy)) hi hq
    rw [List.set_cons_succ, List.flatten_cons, ih, List.flatten_cons]; simp only [spl]
    have e1 : (i + 1) * sz + q = a.length + (i * sz + q) := by rw [ha, Nat.add_mul]; omega
    rw [e1, List.take_append, List.take_of_length_le (l := a) (by omega), show a.length + (i * sz + q) - a.length = i * sz + q from by omega, List.drop_append, @List.drop_eq_nil_of_le _ a _ (by omega), show a.length + (i * sz + q) + vs.length - a.length = i * sz + q + vs.length from by omega]
    simp
theorem Xdg {α : Type} {l : List α} {c : α → List Value} {a a' : α} {i : Int} {p q m : Nat} {u : Value} {vs : List Value} (hs : Siz P t m) (hx : ev L x = some (.pointer (some ⟨g, p, none⟩))) (hy : ev L y = some u) (hc : u.cells = vs.toArray) (hm : vs.length = m) (h1 : Qjr vs = true)
    (h : Own w z g e sz v (l.map c)) (hg : Qi2 l i = some a) (hp : p = i.toNat * sz + q) (hq : Nat.ble (q + m) sz = true) (he : spl (c a) q vs = c a') (hw : (c a').length = sz ∧ Qjr (c a') = true) :
    EV P L ⟨dst, .store t x y, ty, pos, af, gu⟩ w fun _ w' => Own w' z g e sz v ((l.set i.toNat a').map c) ∧ Md g w w' := by
  have hq' := Nat.le_of_ble_eq_true hq
  have hi := Qmq hg
  have hxi : (l.map c)[i.toNat]? = some (c a) := Xbh hi
  have hil := (List.getElem?_eq_some_iff.1 hxi).1
  rcases h.2 with ⟨_, _, h0⟩ | ⟨hz, cap, cur, hv, hb, hn, hcap, hsz, htk⟩
  · rw [h0] at hxi; simp at hxi
  · have hbx : Bx w g e cur.toList := by unfold Bx; simpa using hb
    have hfl := h.1.flat
    have hle : (l.map c).length * sz ≤ cur.toList.length := by rw [show cur.toList.length = cap * sz from hsz]; exact Nat.mul_le_mul_right _ hn
    have hin : i.toNat * sz + sz ≤ (l.map c).length * sz := by rw [← Nat.succ_mul]; exact Nat.mul_le_mul_right _ hil
    have hbd : i.toNat * sz + q + vs.length ≤ cur.toList.length := by omega
    refine (Qrf (off := p) hs hx hy hc hm h1 hbx (by rw [Nat.ble_eq_true_of_le]; omega)).mono ?_
    rintro _ w' ⟨h2, h3⟩
    have hset : (l.set i.toNat a').map c = (l.map c).set i.toNat (spl (c a) q vs) := by rw [List.map_set, he]
    refine ⟨⟨?_, .inr ⟨hz, cap, (spl cur.toList p vs).toArray, ?_, h2, ?_, hcap, ?_, ?_⟩⟩, h3⟩
    · rw [hset]; intro y hy
      rcases List.mem_or_eq_of_mem_set hy with hy | hy
      · exact h.1 y hy
      · subst hy; rw [he]; exact hw
    · rw [hv]; simp
    · simpa using hn
    · rw [List.size_toArray, hp, Xii _ _ _ (by omega), Array.length_toList]; exact hsz
    · rw [hset, Quq _ _ _ _ _ h.1 hxi (by omega), ← htk, hp, List.length_set]
      exact Xfj _ _ _ _ (by omega) hle
theorem Qwo (z : List Value) (h : 0 < z.length) : ∀ n, ((List.range (n * z.length)).map fun i => z.toArray[i % z.toArray.size]!) = (List.replicate n z).flatten
  | 0 => by simp
  | n + 1 => by
    rw [Nat.add_mul, Nat.one_mul, List.range_add, List.map_append, Qwo z h n, List.map_map, List.replicate_succ', List.flatten_append]
    congr 1
    apply List.ext_getElem (by simp)
    intro i h1 h2
    have hi : i < z.length := by simpa using h1
    have e1 : (n * z.length + i) % z.length = i := by rw [Nat.mul_comm, Nat.mul_add_mod, Nat.mod_eq_of_lt hi]
    simp [e1, hi]
theorem Xcq {bytes : Nat} {zv : Value} {α : Type} {c : α → List Value} {a : α} {n : Int} {l : List α} (ha : ApT P t e sz bytes) (hz : ZV P e zv) (hc : zv.cells = (c a).toArray) (hs : (c a).length = sz ∧ Qjr (c a) = true) (hx : ev L x = some (.int .i64 n)) (hl : mkL bytes n a = some l) (hpos : 1 ≤ bytes) :
    EV P L ⟨dst, .makeSlice t x x, ty, pos, af, gu⟩ w fun v' w' => ∃ g', w.heap.size ≤ g' ∧ Own w' 1 g' e sz v' (l.map c) ∧ Gr w w' := fun ρ hρ => by
  obtain ⟨rfl, h0, hb⟩ := Xl7 hl
  obtain ⟨i, zv', hi, hzv, hsz, hby, hzs⟩ := ha.info
  have hzz : zv' = zv := by
    have h1 := hz w
    simp [zeroValue, typeInfo, hi, hzv] at h1
    exact h1
  subst hzz hsz hby
  have hle : n ≤ n * i.bytes := by have := Int.mul_le_mul_of_nonneg_left (show (1 : Int) ≤ i.bytes by omega) h0; omega
  have hbc : (i.bytes : Int) * n = n * i.bytes := Int.mul_comm _ _
  have hrun := run_make (P := P) w t e i zv' ha.und hi hzv .i64 .i64 n n h0 (Int.le_refl _) (by omega) (by omega)
  have hmade : (madeCells zv'.cells (n.toNat * i.size)).toList = (List.replicate n.toNat (c a)).flatten := by
    rw [hc]; unfold madeCells
    rw [Array.toList_map, Array.toList_range, ← hs.1]
    exact Qwo (c a) (by rw [hs.1]; exact ha.pos) n.toNat
  have hws : Ws i.size ((List.replicate n.toNat a).map c) := Xbg (fun y hy => by rw [List.eq_of_mem_replicate hy]; exact hs)
  refine .val _ _ (Qoh ?_) ⟨w.heap.size, Nat.le_refl _, ⟨hws, .inr ⟨rfl, n.toNat, madeCells zv'.cells (n.toNat * i.size), by rw [List.length_map, List.length_replicate], heap_alloc_new w _, by rw [List.length_map, List.length_replicate]; exact Nat.le_refl _, by simp only [maxLen]; omega, size_madeCells _ _, ?_⟩⟩, (Below.refl _ _).alloc (Nat.le_refl _) _⟩
  · rw [hρ _ _ hx]; exact hrun
  · rw [List.length_map, List.length_replicate, List.map_replicate, ← hmade, List.take_of_length_le (by rw [Array.length_toList, size_madeCells]; exact Nat.le_refl _)]
def OBI (L : Slots) (o : Option Operand) (d v : Int) : Prop := match o with
  | none => v = d
  | some x => ∃ k, ev L x = some (.int k v)
theorem Xcw {a : Option Addr} {len cap : Nat} {lo hi : Int} {ol oh : Option Operand} {ρ : Operand → Value} (hρ : Xb0 L ρ) (hu : P.underlying t = some (.slice e)) (hs : Siz P e sz) (h1 : OBI L ol 0 lo) (h2 : OBI L oh (len : Int) hi) (h0 : 0 ≤ lo) (hlh : lo ≤ hi) (hh : hi ≤ len) (hcap : len ≤ cap) :
    (Instr.sliceAt t (.slice a len cap) (ol.map ρ) (oh.map ρ) none).run P w = .ok (sliced a lo.toNat hi.toNat cap sz) w := by
  have he : P.elem t = e := by simp [Program.elem, hu]
  have hu' : P.underlying t = some (.slice (P.elem t)) := by rw [he]; exact hu
  rw [run_sliceAt_slice _ _ _ _ _ _ hu']
  cases ol with
  | none =>
    simp only [OBI] at h1; subst h1
    cases oh with
    | none => simp only [OBI] at h2; subst h2; rw [Option.map_none, run_slice_all _ _ _ _ _ hu', he, hs w]; simp [Result.andThen]
    | some q => obtain ⟨k, hq⟩ := h2; rw [Option.map_none, Option.map_some, hρ _ _ hq, run_slice_h _ _ _ _ _ hu' _ _ (by omega) (by omega), he, hs w]; simp [Result.andThen]
  | some p =>
    obtain ⟨k1, hp⟩ := h1
    cases oh with
    | none => simp only [OBI] at h2; subst h2; rw [Option.map_none, Option.map_some, hρ _ _ hp, run_slice_l _ _ _ _ _ hu' _ _ h0 (by omega), he, hs w]; simp [Result.andThen]
    | some q => obtain ⟨k, hq⟩ := h2; rw [Option.map_some, Option.map_some, hρ _ _ hp, hρ _ _ hq, run_slice_lh _ _ _ _ _ hu' _ _ _ _ h0 hlh (by omega), he, hs w]; simp [Result.andThen]
theorem Qsw {α : Type} {c : α → List Value} {l m : List α} {lo hi : Int} {ol oh : Option Operand} {o : Nat} (hu : P.underlying t = some (.slice e)) (hs : Siz P e sz) (hx : ev L x = some v) (hr : Rd w z g o sz v (l.map c)) (h1 : OBI L ol 0 lo) (h2 : OBI L oh (l.length : Int) hi) (hl : Xa9 l lo hi = some m) :
    ∃ v' o', (∀ w1, VV P L ⟨dst, .slice t x ol oh none, ty, pos, af, gu⟩ w1 v') ∧ Rd w z g o' sz v' (m.map c) := by
  obtain ⟨rfl, h3, h4, h5⟩ := Xi3 hl
  rcases hr.2 with ⟨hz, hnil, a, cap, rfl⟩ | ⟨hz, cap, rfl, ⟨hg, hcap⟩, hcell⟩
  · have hl0 : l = [] := by simpa using hnil
    subst hl0
    simp only [List.length_nil] at h2 h5
    have e1 : lo = 0 := by omega
    have e2 : hi = 0 := by omega
    subst e1 e2
    refine ⟨_, 0, fun w1 ρ hρ => Qoh (by rw [hρ _ _ hx]; exact Xcw hρ hu hs h1 h2 (by omega) (by omega) (by omega) (Nat.zero_le _)), by simpa using hr.1, .inl ⟨hz, by simp, ?_⟩⟩
    exact ⟨_, _, rfl⟩
  · rw [List.length_map] at hcap hx
    have hlen : ((l.map c).take hi.toNat).length = hi.toNat := by rw [List.length_take, List.length_map]; omega
    have hm : (((l.take hi.toNat).drop lo.toNat).map c) = ((l.map c).take hi.toNat).drop lo.toNat := by rw [List.map_drop, List.map_take]
    have hml : (((l.take hi.toNat).drop lo.toNat).map c).length = hi.toNat - lo.toNat := by rw [hm, List.length_drop, hlen]
    refine ⟨_, if cap = lo.toNat then o else o + lo.toNat * sz, fun w1 ρ hρ => Qoh (by rw [hρ _ _ hx]; exact Xcw hρ hu hs h1 h2 h3 h4 h5 hcap), by rw [hm]; exact hr.1.take.drop, .inr ⟨hz, cap - lo.toNat, ?_, ⟨hg, by rw [hml]; omega⟩, fun j u hj => ?_⟩⟩
    · simp only [sliced, hml]
      by_cases e : cap = lo.toNat
      · rw [if_pos e, if_pos e]
      · rw [if_neg e, if_neg e]; simp [Addr.add_lit]
    · rw [hm, Qts _ _ hr.1.take, Qr1 _ _ hr.1, List.getElem?_drop] at hj
      have hj2 : (l.map c).flatten[lo.toNat * sz + j]? = some u := by
        rw [List.getElem?_take] at hj
        split at hj
        · exact hj
        · cases hj
      by_cases e : cap = lo.toNat
      · exfalso
        have e2 : hi.toNat = lo.toNat := by omega
        rw [List.getElem?_take, e2] at hj
        split at hj
        · omega
        · cases hj
      · rw [if_neg e, Nat.add_assoc]; exact hcell _ _ hj2
end
end Go.Sx
namespace Go.Sx
open Go
section
variable {P : Program} {n : Nat} {ops : Array Oper} {Q : Slots → World → Prop} {rest : List (Nat × Nat)} {i : Nat} {dst : Option Nat} {op : Op} {ty : TypeId} {pos : String} {af : Array Edge} {gu : Option (Nat × Bool)} {L : Slots} {w w₀ : World} {ms : List Nat} {kp : Nat → Nat → Bool} {B : Value → Nat → Prop}
end
end Go.Sx

end
section
set_option linter.unusedVariables false
set_option linter.unusedSimpArgs false
namespace Go.Sx
open Go Go.RowKit
def byt (x : BitVec 64) (i : Nat) : BitVec 8 := (x >>> (56 - 8 * i)).setWidth 8
def kby (p : W2) : List (BitVec 8) := [byt p.1 0, byt p.1 1, byt p.1 2, byt p.1 3, byt p.1 4, byt p.1 5, byt p.1 6, byt p.1 7, byt p.2 0, byt p.2 1, byt p.2 2, byt p.2 3, byt p.2 4, byt p.2 5, byt p.2 6, byt p.2 7]
theorem Qgj (p : W2) : (kby p).length = 16 := rfl
theorem Xhm (x : BitVec 64) (i : Nat) : un8 (byt x i) = bt x i := by
  unfold un8 byt bt un; rw [BitVec.toNat_setWidth]; omega
theorem Qq6 (p : W2) : kb p = ((kby p).map bvc).flatten := by
  simp only [kb, kby, List.map_cons, List.map_nil, List.flatten_cons, List.flatten_nil, List.cons_append, List.nil_append, bv, Xhm]
def wrd (b0 b1 b2 b3 b4 b5 b6 b7 : BitVec 8) : BitVec 64 := b0 ++ b1 ++ b2 ++ b3 ++ b4 ++ b5 ++ b6 ++ b7
theorem Xcv (b0 b1 b2 b3 b4 b5 b6 b7 : BitVec 8) : byt (wrd b0 b1 b2 b3 b4 b5 b6 b7) 0 = b0 ∧ byt (wrd b0 b1 b2 b3 b4 b5 b6 b7) 1 = b1 ∧ byt (wrd b0 b1 b2 b3 b4 b5 b6 b7) 2 = b2 ∧ byt (wrd b0 b1 b2 b3 b4 b5 b6 b7) 3 = b3 ∧ byt (wrd b0 b1 b2 b3 b4 b5 b6 b7) 4 = b4 ∧ byt (wrd b0 b1 b2 b3 b4 b5 b6 b7) 5 = b5 ∧ byt (wrd b0 b1 b2 b3 b4 b5 b6 b7) 6 = b6 ∧ byt (wrd b0 b1 b2 b3 b4 b5 b6 b7) 7 = b7 := by
  have key : ∀ (x y : BitVec 8), (∀ i, i < 8 → x.getLsbD i = y.getLsbD i) → x = y := fun x y h => BitVec.eq_of_getLsbD_eq (fun i hi => h i hi)
  refine ⟨?_, ?_, ?_, ?_, ?_, ?_, ?_, ?_⟩ <;>
  · apply key
    intro i hi
    simp only [byt, wrd, BitVec.getLsbD_setWidth, BitVec.getLsbD_ushiftRight, BitVec.getLsbD_append, hi, decide_true, Bool.true_and]
    repeat' split
    all_goals first | omega | (congr 1; omega)
def ofB : List (BitVec 8) → W2
  | b0 :: b1 :: b2 :: b3 :: b4 :: b5 :: b6 :: b7 :: c0 :: c1 :: c2 :: c3 :: c4 :: c5 :: c6 :: c7 :: _ => (wrd b0 b1 b2 b3 b4 b5 b6 b7, wrd c0 c1 c2 c3 c4 c5 c6 c7)
  | _ => k0
theorem Qs7 {l : List (BitVec 8)} (h : 16 ≤ l.length) : kby (ofB l) = l.take 16 := by
  match l, h with
  | b0 :: b1 :: b2 :: b3 :: b4 :: b5 :: b6 :: b7 :: c0 :: c1 :: c2 :: c3 :: c4 :: c5 :: c6 :: c7 :: r, _ =>
    obtain ⟨h0, h1, h2, h3, h4, h5, h6, h7⟩ := Xcv b0 b1 b2 b3 b4 b5 b6 b7
    obtain ⟨g0, g1, g2, g3, g4, g5, g6, g7⟩ := Xcv c0 c1 c2 c3 c4 c5 c6 c7
    simp only [ofB, kby, h0, h1, h2, h3, h4, h5, h6, h7, g0, g1, g2, g3, g4, g5, g6, g7]
    rfl
theorem Xj5 {p q : W2} (h : kby p = kby q) : p = q := Qlj (by rw [Qq6, Qq6, h])
theorem Xig (p : W2) (r : List (BitVec 8)) : ofB (kby p ++ r) = p := Xj5 (by rw [Qs7 (by simp [kby])]; rfl)
def Xj1 (l : List (BitVec 8)) : Option W2 := if 16 ≤ l.length then some (ofB l) else none
theorem Xcl {l : List (BitVec 8)} {p : W2} (h : Xj1 l = some p) : 16 ≤ l.length ∧ p = ofB l := by
  unfold Xj1 at h; split at h
  · exact ⟨‹_›, (Option.some.inj h).symm⟩
  · cases h
def Xje (p : W2) (i : Int) (b : BitVec 8) : Option W2 := if 0 ≤ i ∧ i < 16 then some (ofB ((kby p).set i.toNat b)) else none
theorem Xhd {p q : W2} {i : Int} {b : BitVec 8} (h : Xje p i b = some q) : (0 ≤ i ∧ i < 16) ∧ kby q = (kby p).set i.toNat b := by
  unfold Xje at h; split at h
  · refine ⟨‹_›, ?_⟩
    cases h
    rw [Qs7 (by simp [kby]), List.take_of_length_le (by simp [kby])]
  · cases h
section
variable {P : Program} {L : Slots} {w : World} {dst : Option Nat} {ty : TypeId} {pos : String} {af : Array Edge} {gu : Option (Nat × Bool)} {x y : Operand} {t e : TypeId} {z g o sz : Nat} {v : Value}
theorem Xbq {b : Nat} {cs : List Value} {p : W2} (hb : Bx w b t cs) (h : (cs.drop o).take 16 = kb p) : Rd w 1 b o 1 (.slice (some ⟨b, o, none⟩) 16 16) ((kby p).map bvc) :=
  Qyx hb (Qil _ (fun _ => rfl) (fun _ => rfl)) rfl (by rw [← Qq6]; exact h)
theorem Xlf {l : List (BitVec 8)} {p : W2} {n : Nat} (hu : P.underlying t = some (.array 16 e)) (hx : ev L x = some v) (hr : Rd w z g o 1 v (l.map bvc)) (hk : Xj1 l = some p) : VV P L ⟨dst, .sliceToArrayPointer t x, ty, pos, af, gu⟩ w (.pointer (some ⟨g, o, none⟩)) := fun ρ hρ => by
  obtain ⟨h16, _⟩ := Xcl hk
  rcases hr.2 with ⟨_, h0, _⟩ | ⟨_, cap, rfl, _⟩
  · have : l = [] := by simpa using h0
    subst this; simp at h16
  · have hlt : ¬ (l.length < 16) := by omega
    refine Qoh ?_
    rw [hρ _ _ hx]
    simp [Instr.arrayAt, run_underlying hu, hlt]
theorem Xi9 {l : List (BitVec 8)} {p : W2} (h1 : Agg P t 16) (hx : ev L x = some (.pointer (some ⟨g, o, none⟩))) (hr : Rd w z g o 1 v (l.map bvc)) (hk : Xj1 l = some p) : VV P L ⟨dst, .load t x, ty, pos, af, gu⟩ w (kv p) := fun ρ hρ => by
  obtain ⟨h16, rfl⟩ := Xcl hk
  rcases hr.2 with ⟨_, h0, _⟩ | ⟨_, cap, rfl, _, hcell⟩
  · have : l = [] := by simpa using h0
    subst this; simp at h16
  · have hkb : kb (ofB l) = ((l.take 16).map bvc).flatten := by rw [Qq6, Qs7 h16]
    have hld : (loadCells ⟨g, o, none⟩ (kb (ofB l)).length).run P w = .ok (kb (ofB l)).toArray w := run_loadCells_list w _ _ (fun j u hj => by
      rw [Addr.add_lit]
      refine hcell j u ?_
      rw [hkb, List.map_take, Qr1 (sz := 1) _ _ hr.1, List.getElem?_take] at hj
      split at hj
      · exact hj
      · cases hj)
    have hl : (kb (ofB l)).length = 16 := rfl
    rw [hl] at hld
    refine Qoh ?_
    rw [hρ _ _ hx]
    simp [Instr.loadAt, Instr.sureAddr, loadVar, (h1 w).1, (h1 w).2, hld]
theorem Qsf {b' off : Nat} {k : IntKind} {i : Int} {p : W2} {c : BitVec 8} (hu : P.underlying t = some (.array 16 e)) (hs : Siz P e 1) (hx : ev L x = some (.pointer (some ⟨b', off, none⟩))) (hy : ev L y = some (.int k i)) (hg : Qi2 (kby p) i = some c) : VV P L ⟨dst, .indexAddr t x y, ty, pos, af, gu⟩ w (.pointer (some ⟨b', off + i.toNat * 1, none⟩)) :=
  Qf9 hu hs hx hy (Qny hg) (by have := Qqw hg; rw [Qgj] at this; omega)
theorem Qw9 {b off q : Nat} {tb : TypeId} {cs : List Value} {p : W2} {i : Int} {c : BitVec 8} (h1 : One P t) (hx : ev L x = some (.pointer (some ⟨b, q, none⟩))) (hb : Bx w b tb cs) (h : (cs.drop off).take 16 = kb p) (hg : Qi2 (kby p) i = some c) (hq : q = off + i.toNat) : VV P L ⟨dst, .load t x, ty, pos, af, gu⟩ w (bv c) := by
  refine Qa2 h1 hx hb ?_
  have hi := Qmq hg
  have hlt : i.toNat < 16 := by have := Qqw hg; have := Qny hg; rw [Qgj] at *; omega
  have e1 : (kb p)[i.toNat]? = some (bv c) := by
    have hw : Ws 1 ((kby p).map bvc) := Qil _ (fun _ => rfl) (fun _ => rfl)
    have := hw.at (i.toNat) 0 (bvc c) (Xbh hi) (by omega)
    rw [Qq6]
    simpa using this
  rw [← h, List.getElem?_take, if_pos hlt, List.getElem?_drop] at e1
  rw [hq]; exact e1
theorem Xks {cs : List Value} {off : Nat} {p q : W2} {i : Nat} {c : BitVec 8} (h : (cs.drop off).take 16 = kb p) (hi : i < 16) (hq : kby q = (kby p).set i c) (hl : off + 16 ≤ cs.length) : cs.set (off + i) (bv c) = spl cs off (kb q) := by
  have hkq : kb q = (kb p).set i (bv c) := by
    rw [Qq6, Qq6, hq]
    have e1 : ∀ (l : List (BitVec 8)) (i : Nat), ((l.set i c).map bvc).flatten = ((l.map bvc).flatten).set i (bv c) := by
      intro l
      induction l with
      | nil => intro i; simp
      | cons a l ih =>
        intro i
        cases i with
        | zero => simp
        | succ i => rw [List.set_cons_succ, List.map_cons, List.flatten_cons, ih, List.map_cons, List.flatten_cons]; rfl
    exact e1 _ _
  have hkl : (kb q).length = 16 := rfl
  apply List.ext_getElem?
  intro j
  rw [List.getElem?_set]
  unfold spl
  rw [hkl]
  by_cases h1 : j < off
  · rw [if_neg (by omega), List.append_assoc, List.getElem?_append_left (by simp; omega), List.getElem?_take_of_lt h1]
  · by_cases h2 : j < off + 16
    · rw [List.append_assoc, List.getElem?_append_right (by simp; omega), List.getElem?_append_left (by simp [hkl]; omega)]
      have e2 : j - (cs.take off).length = j - off := by simp; omega
      rw [e2, hkq, List.getElem?_set, ← h]
      by_cases h3 : i = j - off
      · rw [if_pos (by omega), if_pos h3]
        have : i < ((cs.drop off).take 16).length := by simp; omega
        rw [if_pos (by omega), if_pos this]
      · rw [if_neg (by omega), if_neg h3, List.getElem?_take_of_lt (by omega), List.getElem?_drop]
        congr 1; omega
    · rw [if_neg (by omega), List.append_assoc, List.getElem?_append_right (by simp; omega), List.getElem?_append_right (by simp [hkl]; omega), List.getElem?_drop]
      congr 1; simp [hkl]; omega
theorem Xb1 {b off qq : Nat} {tb : TypeId} {cs cs' : List Value} {p q : W2} {i : Int} {c : BitVec 8} (hs : Siz P t 1) (hx : ev L x = some (.pointer (some ⟨b, qq, none⟩))) (hy : ev L y = some (bv c)) (hb : Bx w b tb cs) (h : (cs.drop off).take 16 = kb p) (hk : Xje p i c = some q) (hq : qq = off + i.toNat * 1) (hl : Nat.ble (off + 16) cs.length = true) (he : spl cs off (kb q) = cs') :
    EV P L ⟨dst, .store t x y, ty, pos, af, gu⟩ w fun _ w' => Bx w' b tb cs' ∧ Md b w w' := by
  obtain ⟨hi, hkq⟩ := Xhd hk
  have hl' := Nat.le_of_ble_eq_true hl
  refine Qct hs hx hy rfl hb (by simp; omega) ?_
  rw [← he, ← Xks h (by omega) hkq hl']
  congr 1; omega
def Xmm (l : List (BitVec 8)) : ByteArray := ⟨(l.map UInt8.ofBitVec).toArray⟩
abbrev stv (l : List (BitVec 8)) : Value := .string (Xmm l)
theorem Qwk {l : List (BitVec 8)} {s d : TypeId} (hs : P.underlying s = some (.slice e)) (he : P.underlying e = some (.int .u8)) (hd : P.underlying d = some .string) (hx : ev L x = some v) (hr : Rd w z g o 1 v (l.map bvc)) : VV P L ⟨dst, .convert s d x, ty, pos, af, gu⟩ w (stv l) := fun ρ hρ => by
  refine Qoh ?_
  rw [hρ _ _ hx]
  rcases hr.2 with ⟨_, h0, a, cap, rfl⟩ | ⟨_, cap, rfl, _, hcell⟩
  · have : l = [] := by simpa using h0
    subst this
    rw [run_convert_bytes_string _ _ _ _ _ _ _ hs he hd]
    cases a with
    | none => simp [Conv.bytesToString, Xmm]; rfl
    | some a =>
      have := run_bytesToString (P := P) w a 0 cap [] (by simpa using run_loadCells_list (P := P) w a [] (by simp))
      rw [this]; rfl
  · have := run_convert_bytes_back (P := P) w s d e ⟨g, o, none⟩ cap (l.map UInt8.ofBitVec) hs he hd (fun j hj => by
      rw [Addr.add_lit]
      refine hcell j _ ?_
      have hj' : j < l.length := by simpa using hj
      have hw := hr.1.at j 0 (bvc l[j]) (by simp [hj']) (by omega)
      simp only [Nat.mul_one, Nat.add_zero] at hw
      rw [hw]
      simp [un8])
    rw [List.length_map] at this
    rw [List.length_map]; exact this
theorem Qx3 (l : List (BitVec 8)) : (Xmm l).toList = l.map UInt8.ofBitVec := by rw [ByteArray.toList_eq]; simp [Xmm]
theorem Qzj {l m : List (BitVec 8)} (h : l.map UInt8.ofBitVec = m.map UInt8.ofBitVec) : l = m := by
  have : Function.Injective UInt8.ofBitVec := fun a b h => by cases h; rfl
  exact (List.map_inj_right (fun _ _ h => this h)).1 h
theorem Xcg {l m : List (BitVec 8)} {u : TypeId} (hx : ev L x = some (stv l)) (hy : ev L y = some (stv m)) : VV P L ⟨dst, .binOp .eql t x y u, ty, pos, af, gu⟩ w (.bool (decide (l = m))) := fun ρ hρ => by
  have : (l.map UInt8.ofBitVec == m.map UInt8.ofBitVec) = decide (l = m) := by
    by_cases h : l = m
    · subst h; simp
    · have : ¬ (l.map UInt8.ofBitVec = m.map UInt8.ofBitVec) := fun e => h (Qzj e)
      simp [h, this]
  simp [execOp, hρ _ _ hx, hρ _ _ hy, go_sem, eqGuard, binOp, Op.stringOp, Qx3, this]
theorem Xhf {l m : List (BitVec 8)} {u : TypeId} (hx : ev L x = some (stv l)) (hy : ev L y = some (stv m)) : VV P L ⟨dst, .binOp .neq t x y u, ty, pos, af, gu⟩ w (.bool (decide (l ≠ m))) := fun ρ hρ => by
  have : (l.map UInt8.ofBitVec == m.map UInt8.ofBitVec) = decide (l = m) := by
    by_cases h : l = m
    · subst h; simp
    · have : ¬ (l.map UInt8.ofBitVec = m.map UInt8.ofBitVec) := fun e => h (Qzj e)
      simp [h, this]
  simp [execOp, hρ _ _ hx, hρ _ _ hy, go_sem, eqGuard, binOp, Op.stringOp, Qx3, this]
end
def Qu6 {α : Type} (d s : List α) : List α := s.take d.length ++ d.drop s.length
def Xb9 {α : Type} (d s : List α) : Int := ((min s.length d.length : Nat) : Int)
section
variable {P : Program} {L : Slots} {w : World} {dst : Option Nat} {ty : TypeId} {pos : String} {af : Array Edge} {gu : Option (Nat × Bool)} {x y : Operand} {t e : TypeId} {z g : Nat} {v : Value}
end
end Go.Sx

end
section
set_option linter.unusedVariables false
set_option linter.unusedSimpArgs false
namespace Go.Sx
open Go Go.RowKit
def itL {α σ R : Type} (F : α → (σ → Option R) → σ → Option R) (d : σ → Option R) (l : List α) : σ → Option R := l.foldr F d
theorem Qrk {α σ R : Type} (F : α → (σ → Option R) → σ → Option R) (d : σ → Option R) (a : α) (l : List α) : itL F d (a :: l) = F a (itL F d l) := rfl
theorem Qwj {α σ R : Type} {F : α → (σ → Option R) → σ → Option R} {d : σ → Option R} {l : List α} {k : Nat} {s : σ} {r : R} {a : α} (h : itL F d (l.drop k) s = some r) (ha : l[k]? = some a) : F a (itL F d (l.drop (k + 1))) s = some r := by
  obtain ⟨hk, rfl⟩ := List.getElem?_eq_some_iff.1 ha
  rw [List.drop_eq_getElem_cons hk, Qrk] at h; exact h
theorem Qu0 {α β σ R : Type} {F : α → (σ → Option R) → σ → Option R} {d : σ → Option R} {l : List α} {c : α → β} {s : σ} {r : R} (h : itL F d (l.drop (l.map c).length) s = some r) : d s = some r := by
  rw [List.length_map, List.drop_length] at h; exact h
theorem Own.z1 {w : World} {z g sz : Nat} {e : TypeId} {v : Value} {α : Type} {l : List α} {c : α → List Value} {i : Int} {a : α} (h : Own w z g e sz v (l.map c)) (hg : Qi2 l i = some a) : z = 1 := by
  rcases h.2 with ⟨_, _, h0⟩ | ⟨h1, _⟩
  · have : l = [] := by simpa using h0
    subst this; have := Qqw hg; have := Qny hg; simp at *; omega
  · exact h1
theorem Qky {l : List (Nat × Nat)} {ms : List Nat} {w w' : World} (h : Kp ms w w') (hn : ∀ k, Nin l k → k ∉ ms) : Kz l w w' := ⟨h.os, h.tape, h.output, h.size, fun k hk hl => h.block k hk (hn k hl)⟩
theorem Qri {l : List (Nat × Nat)} {ms : List Nat} {w w' : World} (h : Kz l w w') (hn : ∀ k, k ∉ ms → Nin l k) : Kp ms w w' := ⟨h.os, h.tape, h.output, h.size, fun k hk hl => h.block k hk (hn k hl)⟩
theorem Own.hs {w w' : World} {z g sz : Nat} {e : TypeId} {v : Value} {xs : List (List Value)} {ms : List Nat} (h : Own w z g e sz v xs) (hs : ∀ b ∈ ms, w'.heap[b]? = w.heap[b]?) (hm : z ≠ 0 → g ∈ ms) : Own w' z g e sz v xs :=
  h.keep (by by_cases hz : z = 0; exact .inl hz; exact .inr fun _ => hs g (hm hz))
theorem Rd.hs {w w' : World} {z g o sz : Nat} {v : Value} {xs : List (List Value)} {ms : List Nat} (h : Rd w z g o sz v xs) (he : Env w w') (hs : ∀ b ∈ ms, w'.heap[b]? = w.heap[b]?) (hm : z ≠ 0 → g ∈ ms) : Rd w' z g o sz v xs :=
  h.keep (by by_cases hz : z = 0; exact .inl hz; exact .inr fun _ => hs g (hm hz)) he.size
theorem Qtw {α : Type} (p : α → Nat → Prop) (FP : α → List Nat) (F : α → World → Prop) (h1 : ∀ a W, F a W → ∀ b ∈ FP a, b < W.heap.size)
    (h2 : ∀ a W W', F a W → Env W W' → (∀ b ∈ FP a, W'.heap[b]? = W.heap[b]?) → F a W') : Stb fun k fp W => ∃ a, p a k ∧ fp = FP a ∧ F a W :=
  ⟨fun ⟨a, _, h, hF⟩ b hb => h1 a _ hF b (h ▸ hb), fun ⟨a, hp, h, hF⟩ he hs => ⟨a, hp, h, h2 a _ _ hF he (h ▸ hs)⟩⟩
theorem Xmb {J : Nat → List Nat → World → Prop} (p : Prop) (h : Stb J) : Stb fun i fp W => p ∧ J i fp W := ⟨fun h0 b hb => h.lt h0.2 b hb, fun h0 he hs => ⟨h0.1, h.keep h0.2 he hs⟩⟩
def yl {α : Type} (x : α) (m : Option (List α)) : Option (List α) := m.map (x :: ·)
theorem Qt8 {α : Type} {x : α} {m : Option (List α)} {r : List α} (h : yl x m = some r) : ∃ t, m = some t ∧ r = x :: t := by
  cases m with
  | none => cases h
  | some t => exact ⟨t, rfl, (Option.some.inj h).symm⟩
def Dr {α : Type} (xs : List α) (k : Nat) (rr : List α) : Prop := k ≤ xs.length ∧ xs.drop k = rr
theorem Xns {α : Type} (xs : List α) : Dr xs 0 xs := ⟨Nat.zero_le _, rfl⟩
theorem Dr.at {α : Type} {xs rr t : List α} {k : Nat} {x : α} (h : Dr xs k rr) (e : rr = x :: t) : xs[k]? = some x := by
  have h1 := h.2; rw [e] at h1
  have : (xs.drop k)[0]? = some x := by rw [h1]; rfl
  rwa [List.getElem?_drop, Nat.add_zero] at this
theorem Dr.next {α : Type} {xs rr t : List α} {k : Nat} {x : α} (h : Dr xs k rr) (e : rr = x :: t) : Dr xs (k + 1) t := by
  have h0 := h.at e
  have hk := (List.getElem?_eq_some_iff.1 h0).1
  refine ⟨hk, ?_⟩
  have h1 := h.2; rw [e, List.drop_eq_getElem_cons hk] at h1
  exact (List.cons.inj h1).2
theorem Dr.last {α β : Type} {xs rr : List α} {k : Nat} {c : α → β} (h : Dr xs k rr) (e : rr = []) : k = (xs.map c).length := by
  have h1 := h.2; rw [e, List.drop_eq_nil_iff] at h1
  have := h.1; rw [List.length_map]; omega
theorem Qxv {f f' : List Nat} {s z b : Nat} (hF : ∀ c ∈ f', c ∈ f ∨ s ≤ c) (h : z = 0 ∨ b ∉ f) (hlt : z = 0 ∨ b < s) : z = 0 ∨ b ∉ f' := by
  rcases h with h | h
  · exact .inl h
  · rcases hlt with h1 | h1
    · exact .inl h1
    · exact .inr (Qbb hF h h1)
theorem Stb.ka {J : Nat → List Nat → World → Prop} (hJ : Stb J) {k z g : Nat} {f : List Nat} {W W' : World} (h : J k f W) (a : Ka z g W W') (hb : z = 0 ∨ g ∉ f) : J k f W' := hJ.keep h a.env fun c hc => a.block c (hJ.lt h c hc) (by
  rcases hb with h0 | h0
  · exact .inl h0
  · exact .inr (by rintro rfl; exact h0 hc))
end Go.Sx

end
section
set_option linter.unusedVariables false
set_option linter.unusedSimpArgs false
namespace Go.Sx
open Go Go.RowKit
inductive Tz
  | leaf (seg : List (Nat × Nat))
  | fork (seg : List (Nat × Nat)) (a b : Tz)
def Tz.heads : Tz → List Nat
  | .leaf [] => []
  | .leaf ((i, _) :: _) => [i]
  | .fork [] a b => a.heads ++ b.heads
  | .fork ((i, _) :: _) _ _ => [i]
def Tz.len : Tz → Nat
  | .leaf s => s.length
  | .fork s a _ => s.length + a.len
def lsd (l : List (Nat × Nat)) (listed : Array Bool) : Array Bool := l.foldl (fun s x => s.setIfInBounds x.1 true) listed
def Qyd (ops : Array Oper) (kp : Nat → Nat → Bool) : List (Nat × Nat) → Array Bool → Bool
  | [], _ => true
  | (i, c) :: rest, listed => (match lvl c with
    | some lv => (Region.ready .any ops listed).contains i && Region.free .any ops listed i && Qur ops (kp lv) listed i
    | none => (Region.ready .any ops listed == [i])) && Qyd ops kp rest (listed.setIfInBounds i true)
def Qng (ops : Array Oper) (kp : Nat → Nat → Bool) : Tz → Array Bool → Bool
  | .leaf [], _ => false
  | .leaf ((i, c) :: s), listed => (lvl c).isNone && Qyd ops kp s (listed.setIfInBounds i true) && (Region.ready .any ops (lsd s (listed.setIfInBounds i true))).isEmpty
  | .fork [] a b, listed => Qng ops kp a listed && Qng ops kp b listed && (a.len == b.len)
  | .fork ((i, c) :: s) a b, listed => (lvl c).isNone && Qyd ops kp s (listed.setIfInBounds i true) && (Region.ready .any ops (lsd s (listed.setIfInBounds i true)) == a.heads ++ b.heads)
      && Qng ops kp a (lsd s (listed.setIfInBounds i true)) && Qng ops kp b (lsd s (listed.setIfInBounds i true)) && (a.len == b.len)
def Xlz (ops : Array Oper) (kp : Nat → Nat → Bool) : Tz → Array Bool → Bool
  | .leaf s, listed => Qyd ops kp s listed && (Region.ready .any ops (lsd s listed)).isEmpty
  | .fork s a b, listed => Qyd ops kp s listed && (Region.ready .any ops (lsd s listed) == a.heads ++ b.heads) && Qng ops kp a (lsd s listed) && Qng ops kp b (lsd s listed) && (a.len == b.len)
def SDZ (P : Program) (n : Nat) (ops : Array Oper) (Q : Slots → World → Prop) (S : Nat → World → Prop) (kp : Nat → Nat → Bool) : Tz → Slots → World → Prop
  | .leaf s, L, w => SD P n ops Q S kp s L w
  | .fork s a b, L, w => SD P n ops (fun L w => SDZ P n ops Q S kp a L w ∧ SDZ P n ops Q S kp b L w) S kp s L w
section
variable {P : Program} {r : Option Nat} {n : Nat} {ops : Array Oper} {Q : Slots → World → Prop} {S : Nat → World → Prop} {kp : Nat → Nat → Bool} {D : List Deferred} {QA : Exit → Act → World → Prop}
theorem SD.seg (hnd : Qcv ops = true) (hQ : ∀ c a w, ¬ QA (.panic c) a w) (hO : ¬ LetsOut QA) {fuel : Nat} :
    ∀ (l : List (Nat × Nat)) (listed : Array Bool) (L : Slots) (a : Act) (w : World), Qyd ops kp l listed = true → FOk n D L a → SD P n ops Q S kp l L w →
      (∀ L a w, FOk n D L a → Q L w → Go.Sx.anyH P r ops QA S kp fuel (lsd l listed) a w) → Go.Sx.anyH P r ops QA S kp (l.length + fuel) listed a w
  | [], listed, L, a, w, ho, hf, h, hk => by rw [List.length_nil, Nat.zero_add]; exact hk L a w hf h
  | (i, c) :: rest, listed, L, a, w, ho, hf, h, hk => by
    have hlen : ((i, c) :: rest).length + fuel = rest.length + fuel + 1 := by simp; omega
    rw [hlen]
    unfold SD at h
    unfold Qyd at ho
    cases hc : lvl c with
    | some lv =>
      rw [hc] at h ho
      obtain ⟨o, v, hi, hd, hS, hv, hrest⟩ := h
      simp only [Bool.and_eq_true] at ho
      refine Go.Sx.Qud hnd hi hQ hO (rest.length + fuel) listed a w (fun j oj h1 h2 h3 h4 => ⟨Region.free_spec hi ho.1.1.2 j oj h1 h2 h3 h4, Qsm ho.1.2 j oj h1 h2 h3 h4⟩) (by simpa using ho.1.1.1) ?_ hS
        (SD.seg hnd hQ hO rest _ _ _ w ho.2 (hf.put hd) hrest hk)
      rcases hv with ⟨hg, hv⟩ | ⟨hg, rfl⟩
      · exact .inl ⟨Qkk hf hg, fun w' hw' => hv w' hw' _ hf.cons⟩
      · exact .inr ⟨Qkk hf hg, rfl⟩
    | none =>
      rw [hc] at h ho
      obtain ⟨o, hi, hd, h⟩ := h
      simp only [Bool.and_eq_true, beq_iff_eq] at ho
      refine ⟨fun h0 => (by rw [ho.1] at h0; cases h0), fun j hj => ?_⟩
      rw [ho.1] at hj
      simp only [List.mem_singleton] at hj
      subst hj
      unfold wpOpIn
      simp only [hi]
      rcases h with ⟨hg, R, hev, hk2⟩ | ⟨hg, hrest⟩
      · rw [Qkk hf hg, if_pos rfl]
        exact (hev _ hf.cons).uponIn (Qcv.nd hnd hi) fun v w' hR => ⟨(hk2 v w' hR).1, SD.seg hnd hQ hO rest _ _ _ w' ho.2 (hf.put hd) (hk2 v w' hR).2 hk⟩
      · rw [Qkk hf hg]
        simp only [Bool.false_eq_true, if_false]
        exact ⟨fun _ _ => trivial, fun _ _ h => h, SD.seg hnd hQ hO rest _ _ _ w ho.2 (hf.put hd) hrest hk⟩
theorem SD.stepAny (hnd : Qcv ops = true) {i c : Nat} {s : List (Nat × Nat)} {listed : Array Bool} {L : Slots} {a : Act} {w : World} {fuel : Nat} (hc : (lvl c).isNone = true) (hf : FOk n D L a) (h : SD P n ops Q S kp ((i, c) :: s) L w)
    (hk : ∀ L a w, FOk n D L a → SD P n ops Q S kp s L w → Go.Sx.anyH P r ops QA S kp fuel (listed.setIfInBounds i true) a w) :
    wpOpIn (Fw r) 0 P ops QA i (fun a' w' => (∀ v, kp v i = true → S v w → S v w') ∧ Go.Sx.anyH P r ops QA S kp fuel (listed.setIfInBounds i true) a' w') a w := by
  unfold SD at h
  rw [Option.isNone_iff_eq_none.1 hc] at h
  obtain ⟨o, hi, hd, h⟩ := h
  unfold wpOpIn
  simp only [hi]
  rcases h with ⟨hg, R, hev, hk2⟩ | ⟨hg, hrest⟩
  · rw [Qkk hf hg, if_pos rfl]
    exact (hev _ hf.cons).uponIn (Qcv.nd hnd hi) fun v w' hR => ⟨(hk2 v w' hR).1, hk _ _ _ (hf.put hd) (hk2 v w' hR).2⟩
  · rw [Qkk hf hg]
    simp only [Bool.false_eq_true, if_false]
    exact ⟨fun _ _ => trivial, fun _ _ h => h, hk _ _ _ (hf.put hd) hrest⟩
theorem Qyk : ∀ (t : Tz) (listed : Array Bool), Qng ops kp t listed = true → ∃ m, t.len = m + 1
  | .leaf [], _, h => by simp [Qng] at h
  | .leaf ((i, c) :: s), _, _ => ⟨s.length, by simp [Tz.len]⟩
  | .fork [] a b, listed, h => by
    simp only [Qng, Bool.and_eq_true] at h
    obtain ⟨m, hm⟩ := Qyk a listed h.1.1
    exact ⟨m, by simp [Tz.len, hm]⟩
  | .fork ((i, c) :: s) a b, _, _ => ⟨s.length + a.len, by simp [Tz.len]; omega⟩
theorem SDZ.kid (hnd : Qcv ops = true) (hQ : ∀ c a w, ¬ QA (.panic c) a w) (hO : ¬ LetsOut QA) (hq : ∀ L a w, FOk n D L a → Q L w → QA .normal a w) :
    ∀ (t : Tz) (listed : Array Bool) (L : Slots) (a : Act) (w : World) (m : Nat), Qng ops kp t listed = true → t.len = m + 1 → FOk n D L a → SDZ P n ops Q S kp t L w → ∀ i ∈ t.heads,
      wpOpIn (Fw r) 0 P ops QA i (fun a' w' => (∀ v, kp v i = true → S v w → S v w') ∧ Go.Sx.anyH P r ops QA S kp m (listed.setIfInBounds i true) a' w') a w
  | .leaf [], _, _, _, _, _, ho, _, _, _, _, _ => by simp [Qng] at ho
  | .leaf ((i, c) :: s), listed, L, a, w, m, ho, hl, hf, h, j, hj => by
    simp only [Tz.heads, List.mem_singleton] at hj; subst hj
    simp only [Qng, Bool.and_eq_true] at ho
    have hm : m = s.length + 0 := by simp [Tz.len] at hl; omega
    subst hm
    refine SD.stepAny hnd ho.1.1 hf h fun L a w hf h => SD.seg hnd hQ hO s _ L a w ho.1.2 hf h fun L a w hf h => ⟨by simpa using ho.2, hq L a w hf h⟩
  | .fork [] x y, listed, L, a, w, m, ho, hl, hf, h, j, hj => by
    simp only [Qng, Bool.and_eq_true, beq_iff_eq] at ho
    simp only [Tz.len, List.length_nil, Nat.zero_add] at hl
    simp only [Tz.heads, List.mem_append] at hj
    have h' : SDZ P n ops Q S kp x L w ∧ SDZ P n ops Q S kp y L w := h
    rcases hj with hj | hj
    · exact SDZ.kid hnd hQ hO hq x listed L a w m ho.1.1 hl hf h'.1 j hj
    · exact SDZ.kid hnd hQ hO hq y listed L a w m ho.1.2 (by rw [← ho.2]; exact hl) hf h'.2 j hj
  | .fork ((i, c) :: s) x y, listed, L, a, w, m, ho, hl, hf, h, j, hj => by
    simp only [Tz.heads, List.mem_singleton] at hj; subst hj
    simp only [Qng, Bool.and_eq_true, beq_iff_eq] at ho
    have hm : m = s.length + x.len := by simp [Tz.len] at hl; omega
    subst hm
    refine SD.stepAny hnd ho.1.1.1.1.1 hf h fun L a w hf h => SD.seg hnd hQ hO s _ L a w ho.1.1.1.1.2 hf h fun L a w hf h => ?_
    obtain ⟨mx, hx⟩ := Qyk x _ ho.1.1.2
    have hy : y.len = mx + 1 := by rw [← ho.2]; exact hx
    rw [hx]
    refine ⟨fun h0 => ?_, fun k hk => ?_⟩
    · obtain ⟨z, hz⟩ : ∃ z, z ∈ x.heads := by
        have : ∀ (t : Tz) (l : Array Bool), Qng ops kp t l = true → ∃ z, z ∈ t.heads := by
          intro t
          induction t with
          | leaf s => intro l h; cases s with
            | nil => simp [Qng] at h
            | cons a s => exact ⟨a.1, by simp [Tz.heads]⟩
          | fork s a b iha ihb => intro l h; cases s with
            | nil =>
              simp only [Qng, Bool.and_eq_true] at h
              obtain ⟨z, hz⟩ := iha l h.1.1
              exact ⟨z, by simp [Tz.heads, hz]⟩
            | cons a s => exact ⟨a.1, by simp [Tz.heads]⟩
        exact this x _ ho.1.1.2
      rw [ho.1.1.1.2] at h0
      have : z ∈ x.heads ++ y.heads := List.mem_append_left _ hz
      rw [h0] at this; cases this
    · rw [ho.1.1.1.2] at hk
      rcases List.mem_append.1 hk with hk | hk
      · exact SDZ.kid hnd hQ hO hq x _ L a w mx ho.1.1.2 hx hf h.1 k hk
      · exact SDZ.kid hnd hQ hO hq y _ L a w mx ho.1.2 hy hf h.2 k hk
theorem Xfo : ∀ (t : Tz) (l : Array Bool), Qng ops kp t l = true → ∃ z, z ∈ t.heads := by
  intro t
  induction t with
  | leaf s => intro l h; cases s with
    | nil => simp [Qng] at h
    | cons a s => exact ⟨a.1, by simp [Tz.heads]⟩
  | fork s a b iha ihb => intro l h; cases s with
    | nil =>
      simp only [Qng, Bool.and_eq_true] at h
      obtain ⟨z, hz⟩ := iha l h.1.1
      exact ⟨z, by simp [Tz.heads, hz]⟩
    | cons a s => exact ⟨a.1, by simp [Tz.heads]⟩
theorem SDZ.anyH (hnd : Qcv ops = true) (hQ : ∀ c a w, ¬ QA (.panic c) a w) (hO : ¬ LetsOut QA) (hq : ∀ L a w, FOk n D L a → Q L w → QA .normal a w) (t : Tz) (listed : Array Bool) (L : Slots) (a : Act) (w : World) (ho : Xlz ops kp t listed = true) (hf : FOk n D L a) (h : SDZ P n ops Q S kp t L w) :
    Go.Sx.anyH P r ops QA S kp t.len listed a w := by
  cases t with
  | leaf s =>
    simp only [Xlz, Bool.and_eq_true] at ho
    exact SD.seg (fuel := 0) hnd hQ hO s listed L a w ho.1 hf h fun L a w hf h => ⟨by simpa using ho.2, hq L a w hf h⟩
  | fork s x y =>
    simp only [Xlz, Bool.and_eq_true, beq_iff_eq] at ho
    obtain ⟨mx, hx⟩ := Qyk x _ ho.1.1.2
    have hy : y.len = mx + 1 := by rw [← ho.2]; exact hx
    refine SD.seg (fuel := x.len) hnd hQ hO s listed L a w ho.1.1.1.1 hf h fun L a w hf h => ?_
    rw [hx]
    refine ⟨fun h0 => ?_, fun k hk => ?_⟩
    · obtain ⟨z, hz⟩ := Xfo (ops := ops) (kp := kp) x _ ho.1.1.2
      rw [ho.1.1.1.2] at h0
      have : z ∈ x.heads ++ y.heads := List.mem_append_left _ hz
      rw [h0] at this; cases this
    · rw [ho.1.1.1.2] at hk
      rcases List.mem_append.1 hk with hk | hk
      · exact SDZ.kid hnd hQ hO hq x _ L a w mx ho.1.1.2 hx hf h.1 k hk
      · exact SDZ.kid hnd hQ hO hq y _ L a w mx ho.1.2 hy hf h.2 k hk
end
theorem Qbx {P : Program} {n : Nat} {ops : Array Oper} {Q : Slots → World → Prop} {S : Nat → World → Prop} {kp : Nat → Nat → Bool} {a b : Tz} {L : Slots} {w : World} (h1 : SDZ P n ops Q S kp a L w) (h2 : SDZ P n ops Q S kp b L w) : SD P n ops (fun L w => SDZ P n ops Q S kp a L w ∧ SDZ P n ops Q S kp b L w) S kp [] L w := ⟨h1, h2⟩
theorem Qam {P : Program} {n : Nat} {ops : Array Oper} {Q : Slots → World → Prop} {S : Nat → World → Prop} {kp : Nat → Nat → Bool} {s : List (Nat × Nat)} {L : Slots} {w : World} (h : SD P n ops Q S kp s L w) : SDZ P n ops Q S kp (.leaf s) L w := h
theorem Qbf {P : Program} {n : Nat} {ops : Array Oper} {Q : Slots → World → Prop} {S : Nat → World → Prop} {kp : Nat → Nat → Bool} {s : List (Nat × Nat)} {a b : Tz} {L : Slots} {w : World} (h : SD P n ops (fun L w => SDZ P n ops Q S kp a L w ∧ SDZ P n ops Q S kp b L w) S kp s L w) : SDZ P n ops Q S kp (.fork s a b) L w := h
end Go.Sx

end
section
set_option linter.unusedVariables false
set_option linter.unusedSimpArgs false
namespace Go.Sx
open Go Go.RowKit
def Qni (mss : List (List Nat)) (w₀ : World) (k : Nat) (w : World) : Prop := ∀ ms, mss[k]? = some ms → Kp ms w₀ w
def kpN (tab : List (Nat × List Nat)) (lv j : Nat) : Bool := tab.all fun x => !(Nat.beq x.1 j && x.2.any (Nat.beq lv))
def Xjb (p : Nat → List Nat → Prop) : Nat → List (List Nat) → Prop
  | _, [] => True
  | k, ms :: r => p k ms ∧ Xjb p (k + 1) r
theorem Xjb.get {p : Nat → List Nat → Prop} : ∀ {l : List (List Nat)} {o : Nat}, Xjb p o l → ∀ k ms, l[k]? = some ms → p (o + k) ms
  | [], o, _, k, ms, h => by simp at h
  | a :: r, o, h, 0, ms, hk => by simp at hk; subst hk; exact h.1
  | a :: r, o, h, k + 1, ms, hk => by
    have := Xjb.get h.2 k ms (by simpa using hk)
    rw [show o + (k + 1) = o + 1 + k from by omega]; exact this
theorem Kz.ofGr {w w' : World} (h : Gr w w') : Kz [] w w' := (Kz.refl [] w).gr h
theorem Kz.ofMd {w w' : World} {b : Nat} (h : Md b w w') : Kz [(1, b)] w w' := (Kz.refl _ w).md h (by simp [InZ, Mz])
theorem Kz.ofKa {w w' : World} {z g : Nat} (h : Ka z g w w') : Kz [(z, g)] w w' := (Kz.refl _ w).ka h (by by_cases hz : z = 0 <;> simp [InZ, Mz, hz])
theorem Xg4 (k : Nat) : lvl (k + 10) = some k := by
  have h1 : Nat.beq (k + 10) 1 = false := Quf (by omega)
  have h2 : Nat.beq (k + 10) 3 = false := Quf (by omega)
  have h3 : Nat.ble 10 (k + 10) = true := Nat.ble_eq_true_of_le (by omega)
  unfold lvl
  rw [h1, h2, h3]; simp
section
variable {P : Program} {n : Nat} {ops : Array Oper} {Q : Slots → World → Prop} {rest : List (Nat × Nat)} {i : Nat} {dst : Option Nat} {op : Op} {ty : TypeId} {pos : String} {af : Array Edge} {gu : Option (Nat × Bool)} {L : Slots} {w w₀ : World} {mss : List (List Nat)} {kp : Nat → Nat → Bool} {ms : List Nat}
theorem Xfl {v : Value} (k : Nat) (hi : ops[i]? = some ⟨dst, op, ty, pos, af, gu⟩) (hg : gd ops L ⟨dst, op, ty, pos, af, gu⟩ = some true) (hd : inN n dst = true) (hm : mss[k]? = some ms) (hS : Kp ms w₀ w) (hv : ∀ w, Kp ms w₀ w → VV P L ⟨dst, op, ty, pos, af, gu⟩ w v)
    (h : SD P n ops Q (Qni mss w₀) kp rest (Qm1 dst v L) w) : SD P n ops Q (Qni mss w₀) kp ((i, k + 10) :: rest) L w := by
  have hl := Xg4 k
  unfold SD
  rw [hl]
  exact ⟨_, v, hi, hd, fun ms' h' => by rw [hm] at h'; cases h'; exact hS, .inl ⟨hg, fun w hw => hv w (hw ms hm)⟩, h⟩
theorem Xmr (k : Nat) (hi : ops[i]? = some ⟨dst, op, ty, pos, af, gu⟩) (hg : gd ops L ⟨dst, op, ty, pos, af, gu⟩ = some false) (hd : inN n dst = true) (hm : mss[k]? = some ms) (hS : Kp ms w₀ w)
    (h : SD P n ops Q (Qni mss w₀) kp rest (Qm1 dst undef L) w) : SD P n ops Q (Qni mss w₀) kp ((i, k + 10) :: rest) L w := by
  have hl := Xg4 k
  unfold SD
  rw [hl]
  exact ⟨_, undef, hi, hd, fun ms' h' => by rw [hm] at h'; cases h'; exact hS, .inr ⟨hg, rfl⟩, h⟩
theorem Xn5 {t : Bool} (k : Nat) (hi : ops[i]? = some ⟨dst, op, ty, pos, af, gu⟩) (hg : gd ops L ⟨dst, op, ty, pos, af, gu⟩ = some true) (hd : inN n dst = true) (hm : mss[k]? = some ms) (hS : Kp ms w₀ w) (hv : ∀ w, Kp ms w₀ w → VV P L ⟨dst, op, ty, pos, af, gu⟩ w (.bool t))
    (ht : t = true → SD P n ops Q (Qni mss w₀) kp rest (Qm1 dst (.bool true) L) w) (hf : t = false → SD P n ops Q (Qni mss w₀) kp rest (Qm1 dst (.bool false) L) w) : SD P n ops Q (Qni mss w₀) kp ((i, k + 10) :: rest) L w := by
  cases t with
  | true => exact Xfl k hi hg hd hm hS hv (ht rfl)
  | false => exact Xfl k hi hg hd hm hS hv (hf rfl)
theorem Xog {R : Value → World → Prop} (l : List (Nat × Nat)) (hi : ops[i]? = some ⟨dst, op, ty, pos, af, gu⟩) (hg : gd ops L ⟨dst, op, ty, pos, af, gu⟩ = some true) (hd : inN n dst = true) (hv : EV P L ⟨dst, op, ty, pos, af, gu⟩ w R)
    (hb : Xjb (fun k ms => kp k i = true → InA l (ms.map fun b => (1, b)) w₀.heap.size) 0 mss)
    (h : ∀ v w', R v w' → Kz l w w' ∧ SD P n ops Q (Qni mss w₀) kp rest (Qm1 dst v L) w') : SD P n ops Q (Qni mss w₀) kp ((i, 0) :: rest) L w :=
  ⟨_, hi, hd, .inl ⟨hg, R, hv, fun v w' hR => ⟨fun lv hk hS ms hm => Kp.kz (hS ms hm) (h v w' hR).1 (by have := hb.get lv ms hm; rw [Nat.zero_add] at this; exact this hk), (h v w' hR).2⟩⟩⟩
theorem Xn6 {v : Value} (hi : ops[i]? = some ⟨dst, op, ty, pos, af, gu⟩) (hg : gd ops L ⟨dst, op, ty, pos, af, gu⟩ = some true) (hd : inN n dst = true) (hv : VV P L ⟨dst, op, ty, pos, af, gu⟩ w v)
    (h : SD P n ops Q (Qni mss w₀) kp rest (Qm1 dst v L) w) : SD P n ops Q (Qni mss w₀) kp ((i, 0) :: rest) L w :=
  ⟨_, hi, hd, .inl ⟨hg, _, hv.ev, fun v' w' ⟨h1, h2⟩ => by subst h1; subst h2; exact ⟨fun _ _ h => h, h⟩⟩⟩
theorem Xmp (hi : ops[i]? = some ⟨dst, op, ty, pos, af, gu⟩) (hg : gd ops L ⟨dst, op, ty, pos, af, gu⟩ = some false) (hd : inN n dst = true)
    (h : SD P n ops Q (Qni mss w₀) kp rest (Qm1 dst undef L) w) : SD P n ops Q (Qni mss w₀) kp ((i, 0) :: rest) L w := ⟨_, hi, hd, .inr ⟨hg, h⟩⟩
end
theorem tk0 {q : Prop} (f : q := by (try simp only [Nin, InA, InZ, Qj1, Mz, List.mem_cons, List.mem_append, Qce, List.not_mem_nil, or_false, false_or, not_or, ne_eq, List.nil_append, List.cons_append, true_and, and_true, false_and, and_false, not_true_eq_false, not_false_eq_true, or_true, true_or]) <;> omega) : q := f
theorem tk1 {p q : Prop} (h : p) (f : p → q := by intro; (try simp only [Nin, InA, InZ, Qj1, Mz, List.mem_cons, List.mem_append, Qce, List.not_mem_nil, or_false, false_or, not_or, ne_eq, List.nil_append, List.cons_append, true_and, and_true, false_and, and_false, not_true_eq_false, not_false_eq_true, or_true, true_or]) <;> omega) : q := f h
theorem tk2 {p1 p2 q : Prop} (h1 : p1) (h2 : p2) (f : p1 → p2 → q := by intro _ _; (try simp only [Nin, InA, InZ, Qj1, Mz, List.mem_cons, List.mem_append, Qce, List.not_mem_nil, or_false, false_or, not_or, ne_eq, List.nil_append, List.cons_append, true_and, and_true, false_and, and_false, not_true_eq_false, not_false_eq_true, or_true, true_or]) <;> omega) : q := f h1 h2
section
variable {A : Nat → Prop} {z g z' g' s z1 g1 z2 g2 z3 g3 : Nat}
theorem Qg4 (r : Hdn ((g' = g ∧ z = 1) ∨ s ≤ g' ∨ z' = 0)) (h : z = 0 ∨ A g) (f : ∀ x, s ≤ x → A x := by intro x hx; (try simp only [Nin, InA, InZ, Qj1, Mz, List.mem_cons, List.mem_append, Qce, List.not_mem_nil, or_false, false_or, not_or, ne_eq, List.nil_append, List.cons_append, true_and, and_true, false_and, and_false, not_true_eq_false, not_false_eq_true, or_true, true_or]) <;> omega) : z' = 0 ∨ A g' := by
  rcases r.o with ⟨h1, h2⟩ | h1 | h1
  · rcases h with h | h
    · omega
    · exact .inr (h1 ▸ h)
  · exact .inr (f _ h1)
  · exact .inl h1
theorem Qbn (r : Hdn (z = 0 ∨ s ≤ g)) (f : ∀ x, s ≤ x → A x := by intro x hx; (try simp only [Nin, InA, InZ, Qj1, Mz, List.mem_cons, List.mem_append, Qce, List.not_mem_nil, or_false, false_or, not_or, ne_eq, List.nil_append, List.cons_append, true_and, and_true, false_and, and_false, not_true_eq_false, not_false_eq_true, or_true, true_or]) <;> omega) : z = 0 ∨ A g := r.o.imp id (f g)
theorem Qbw (r : Hdn (z = 0 ∨ (g = g1 ∧ z1 ≠ 0) ∨ s ≤ g)) (h1 : z1 = 0 ∨ A g1) (f : ∀ x, s ≤ x → A x := by intro x hx; (try simp only [Nin, InA, InZ, Qj1, Mz, List.mem_cons, List.mem_append, Qce, List.not_mem_nil, or_false, false_or, not_or, ne_eq, List.nil_append, List.cons_append, true_and, and_true, false_and, and_false, not_true_eq_false, not_false_eq_true, or_true, true_or]) <;> omega) : z = 0 ∨ A g := by
  rcases r.o with h | ⟨h, hz⟩ | h
  · exact .inl h
  · exact .inr (h ▸ h1.resolve_left hz)
  · exact .inr (f _ h)
theorem Qki (r : Hdn (z = 0 ∨ (z = 1 ∧ g < s))) (f : ∀ x, x < s → A x := by intro x hx; (try simp only [Nin, InA, InZ, Qj1, Mz, List.mem_cons, List.mem_append, Qce, List.not_mem_nil, or_false, false_or, not_or, ne_eq, List.nil_append, List.cons_append, true_and, and_true, false_and, and_false, not_true_eq_false, not_false_eq_true, or_true, true_or]) <;> omega) : z = 0 ∨ A g := r.o.imp id fun h => f _ h.2
theorem Qgb (h : z = 0 ∨ z1 = 0 ∨ g ≠ g1) : z1 = 0 ∨ z = 0 ∨ g1 ≠ g := by omega
end
theorem Xg5 {v : Value} (h : oneB v = true) : v.cells = [v].toArray := by cases v <;> first | rfl | cases h
theorem Xkv {pl : Nat → Option (Nat × Nat)} {z cs : List Value} {i off : Nat} {v : Value} {r : List (Nat × Value)} (hp : pl i = some (off, 1)) (h1 : oneB v = true) (hl : Nat.ble (off + 1) z.length = true) (hr : Qrh pl (spl z off [v]) r = some cs) : Qrh pl z ((i, v) :: r) = some cs := by
  unfold Qrh
  rw [hp]
  simp only [Xg5 h1]
  rw [if_pos ⟨rfl, Nat.le_of_ble_eq_true hl⟩]; exact hr
theorem Qi4 {pl : Nat → Option (Nat × Nat)} {z cs : List Value} {i off size : Nat} {v : Value} {r : List (Nat × Value)} (hp : pl i = some (off, size)) (h1 : v.cells.size = size) (hl : Nat.ble (off + size) z.length = true) (hr : Qrh pl (spl z off v.cells.toList) r = some cs) : Qrh pl z ((i, v) :: r) = some cs := by
  unfold Qrh
  rw [hp]
  simp only [h1]
  rw [if_pos ⟨trivial, Nat.le_of_ble_eq_true hl⟩]; exact hr
theorem Xeo {P : Program} {r : Option Nat} {n : Nat} {Q : Exit → List Deferred → Slots → World → Prop} {D : List Deferred} {L : Slots} {w : World} {id : Nat} {ops : Array Oper} (mss : List (List Nat)) (tab : List (Nat × List Nat)) (t : Tz) (hm : P.follows .mixedOrders = true) (hnd : Qcv ops = true) (hlen : t.len = ops.size)
    (ho : Xlz ops (kpN tab) t (Array.replicate ops.size false) = true) (h : ∀ w1, RowKit.Below w.heap.size w w1 → w1.heap.size = w.heap.size → SDZ P n ops (fun L w => Q .normal D L w) (Qni mss w1) (kpN tab) t L w1) : SW P r n (.region id ops true) Q D L w :=
  fun _ ha => wpIn_region_any hm (by
    have := (SDZ.anyH (r := r) (D := D) (QA := Xff n Q) hnd (fun _ _ _ => Qum) Qyz (fun L _ _ hf hq => ⟨D, L, hf, hq⟩) t _ L _ w.drew ho ha (h w.drew (RowKit.Below.refl _ _).drew rfl)).any
    rw [hlen] at this; exact this)
end Go.Sx

end
section
set_option linter.unusedVariables false
set_option linter.unusedSimpArgs false
namespace Go.Sx
open Go Go.RowKit
def MkI (base : Nat) (ks fp : List Nat) (W : World) : Prop := Mks base ks W ∧ ∀ k ∈ ks, k ∉ fp
section
variable {base b : Nat} {ks fp fp' : List Nat} {W W' : World}
theorem Xi8 (base : Nat) (fp : List Nat) (W : World) : MkI base [] fp W := ⟨Xhc base W, fun _ h => by cases h⟩
theorem MkI.gr (h : MkI base ks fp W) (g : Gr W W') : MkI base ks fp W' := ⟨h.1.gr g, h.2⟩
theorem MkI.md {t : TypeId} {cs : List Value} (h : MkI base ks fp W) (m : Md b W W') (hb : Bx W b t cs) : MkI base ks fp W' := ⟨h.1.md m (fun hk => by
  have h1 := (h.1.2 b hk).2
  unfold Df at h1; unfold Bx at hb; rw [hb] at h1; simp at h1), h.2⟩
theorem MkI.mdl {W0 : World} {fp0 : List Nat} (h : MkI base ks fp W) (m : Md b W W') (h0 : MkI base ks fp0 W0) (hb : W0.heap.size ≤ b) : MkI base ks fp W' := ⟨h.1.md m (fun hk => by
  have h1 := (h0.1.2 b hk).2.lt
  omega), h.2⟩
theorem MkI.kp (h : MkI base ks fp W) (k : Kp fp W W') (hg : ∀ c ∈ fp', c ∈ fp ∨ W.heap.size ≤ c) : MkI base ks fp' W' :=
  ⟨h.1.kp k h.2, fun j hj => Qbb hg (h.2 j hj) (h.1.2 j hj).2.lt⟩
theorem MkI.cons {W0 : World} {fp0 : List Nat} {D : Nat} (h : MkI base ks fp W) (h0 : MkI base ks fp0 W0) (hD : W0.heap.size ≤ D) (hb : base ≤ W0.heap.size) (hd : Df W D) (hn : D ∉ fp) : MkI base (D :: ks) fp W :=
  ⟨h.1.cons (by omega) hd fun hk => by have := (h0.1.2 D hk).2.lt; omega, fun j hj => by
    rcases List.mem_cons.1 hj with rfl | hj
    · exact hn
    · exact h.2 j hj⟩
theorem MkI.leave (h : MkI base ks fp W) : ∃ wl, Xdl (mkD ks) W wl ∧ Kp ks W wl := h.1.leave
theorem MkI.stb {J : Nat → List Nat → World → Prop} {k : Nat} (hJ : Stb J) (h : MkI base ks fp W) (j : J k fp W) (kl : Kp ks W W') : J k fp W' :=
  hJ.keep j kl.env fun c hc => kl.block c (hJ.lt j c hc) fun hk => h.2 c hk hc
theorem MkI.trans {w : World} {f : List Nat} (h : MkI w.heap.size ks fp W) (K : Kp f w W) (kl : Kp ks W W') : Kp f w W' := K.trans kl fun c hc => .inr (h.1.2 c hc).1
end
end Go.Sx
namespace Go.Sx
open Go Go.RowKit
theorem Xoo {P : Program} {n : Nat} {ops : Array Oper} {Q : Slots → World → Prop} {rest : List (Nat × Nat)} {i : Nat} {dst : Option Nat} {op : Op} {ty : TypeId} {pos : String} {af : Array Edge} {gu : Option (Nat × Bool)} {L : Slots} {w w₀ : World} {ms : List Nat} {kp : Nat → Nat → Bool} {R : Value → World → Prop}
    (hi : ops[i]? = some ⟨dst, op, ty, pos, af, gu⟩) (hg : gd ops L ⟨dst, op, ty, pos, af, gu⟩ = some true) (hd : inN n dst = true) (hv : EV P L ⟨dst, op, ty, pos, af, gu⟩ w R)
    (h : ∀ v w', R v w' → (Kp ms w₀ w → Kp ms w₀ w') ∧ SD P n ops Q (Qni [ms] w₀) kp rest (Qm1 dst v L) w') : SD P n ops Q (Qni [ms] w₀) kp ((i, 0) :: rest) L w :=
  ⟨_, hi, hd, .inl ⟨hg, R, hv, fun v w' hR => ⟨fun lv _ hS ms' hm => by
    cases lv with
    | zero => simp at hm; subst hm; exact (h v w' hR).1 (hS _ rfl)
    | succ k => simp at hm, (h v w' hR).2⟩⟩⟩
end Go.Sx

end
section
set_option linter.unusedVariables false
set_option linter.unusedSimpArgs false
namespace Go.Sx
open Go
def Qxw (ks : List Int) (k : Int) : List Int := if k ∈ ks then ks else ks ++ [k]
theorem Xhw {ks : List Int} {k : Int} (h : ks.Nodup) : (Qxw ks k).Nodup := by
  unfold Qxw; split
  · exact h
  · rename_i hn; rw [List.nodup_append]; exact ⟨h, by simp, fun a ha b hb => by simp at hb; subst hb; rintro rfl; exact hn ha⟩
open Classical in
noncomputable def Qxt {σ R : Type} (F : Int → (σ → Option R) → σ → Option R) (d : σ → Option R) : Nat → List Int → σ → Option R
  | 0, _, _ => none
  | n + 1, rem, s => if rem = [] then d s else if h : ∃ r, ∀ k ∈ rem, F k (Qxt F d n (rem.filter (· ≠ k))) s = some r then some (Classical.choose h) else none
theorem Xf9 {σ R : Type} {F : Int → (σ → Option R) → σ → Option R} {d : σ → Option R} {n : Nat} {rem : List Int} {s : σ} {r : R} (h : Qxt F d n rem s = some r) (hr : rem = []) : d s = some r := by
  cases n with
  | zero => cases h
  | succ n => unfold Qxt at h; rw [if_pos hr] at h; exact h
theorem Xj3 {σ R : Type} {F : Int → (σ → Option R) → σ → Option R} {d : σ → Option R} {n : Nat} {rem : List Int} {s : σ} {r : R} {k : Int} (h : Qxt F d n rem s = some r) (hk : k ∈ rem) : ∃ m, n = m + 1 ∧ F k (Qxt F d m (rem.filter (· ≠ k))) s = some r := by
  cases n with
  | zero => cases h
  | succ n =>
    refine ⟨n, rfl, ?_⟩
    unfold Qxt at h
    rw [if_neg (by rintro rfl; cases hk)] at h
    split at h
    · rename_i hx
      have := Classical.choose_spec hx k hk
      rw [this, h]
    · cases h
theorem Qzz {σ R : Type} {F : Int → (σ → Option R) → σ → Option R} {d : σ → Option R} {r : R} (I : List Int → σ → Prop) (hd : ∀ s, I [] s → d s = some r) (hs : ∀ rem s k, k ∈ rem → I rem s → ∃ s', I (rem.filter (· ≠ k)) s' ∧ ∀ nx, F k nx s = nx s') :
    ∀ (n : Nat) (rem : List Int) (s : σ), rem.length < n → I rem s → Qxt F d n rem s = some r
  | 0, rem, s, h, _ => by omega
  | n + 1, rem, s, h, hi => by
    unfold Qxt
    by_cases h0 : rem = []
    · rw [if_pos h0]; subst h0; exact hd s hi
    · rw [if_neg h0]
      have hx : ∀ k ∈ rem, F k (Qxt F d n (rem.filter (· ≠ k))) s = some r := fun k hk => by
        obtain ⟨s', h1, h2⟩ := hs rem s k hk hi
        rw [h2]
        refine Qzz I hd hs n _ s' ?_ h1
        have : (rem.filter (· ≠ k)).length < rem.length := by
          exact List.length_filter_lt_length_iff_exists.2 ⟨k, hk, by simp⟩
        omega
      have hex : ∃ r, ∀ k ∈ rem, F k (Qxt F d n (rem.filter (· ≠ k))) s = some r := ⟨r, hx⟩
      rw [dif_pos hex]
      obtain ⟨k, hk⟩ := List.exists_mem_of_ne_nil rem h0
      have h1 := Classical.choose_spec hex k hk
      rw [hx k hk] at h1
      exact h1.symm
def Qya {α : Type} (key : α → Int) (l : List α) : Option (List α) := if (∀ x ∈ l, 0 ≤ key x ∧ key x < 4611686018427387904) ∧ (l.map key).Nodup ∧ l.length < 4611686018427387904 then some (l.mergeSort fun a b => decide (key a ≤ key b)) else none
theorem Xev {α : Type} {key : α → Int} {l m : List α} (h : Qya key l = some m) : m = l.mergeSort (fun a b => decide (key a ≤ key b)) ∧ (∀ x ∈ l, 0 ≤ key x ∧ key x < 4611686018427387904) ∧ (l.map key).Nodup ∧ l.length < 4611686018427387904 := by
  unfold Qya at h; split at h
  · rename_i h1; exact ⟨(Option.some.inj h).symm, h1⟩
  · cases h
end Go.Sx

end
section
set_option linter.unusedVariables false
set_option linter.unusedSimpArgs false
namespace Go.Sx
open Go Go.RowKit
def mpE (ks : List Int) : List MapEntry := ks.zipIdx.map fun x => ⟨.int .i64 x.1, .bool true, x.2⟩
structure Mo (w : World) (b : Nat) (ks : List Int) : Prop where
  nd : ks.Nodup
  row : w.heap[b]? = some (.map (mpE ks).toArray ks.length)
def Xg3 (ks : List Int) (seen : List Nat) : List Int := (ks.zipIdx.filter fun x => !seen.contains x.2).map (·.1)
def Mi (w : World) (b m : Nat) (ks rem : List Int) : Prop := ∃ seen : List Nat, w.heap[b]? = some (.mapIter (some m) ks.length seen.toArray ks.length) ∧ rem = Xg3 ks seen
def Mk (w : World) (b m : Nat) (ks rem : List Int) (k : Int) : Prop := ∃ (seen : List Nat) (i : Nat), w.heap[b]? = some (.mapIter (some m) ks.length (seen ++ [i]).toArray ks.length) ∧ rem = Xg3 ks (seen ++ [i]) ∧ ks[i]? = some k
section
variable {w w' : World} {b m c z g : Nat} {ks rem : List Int} {k : Int} {l : List (Nat × Nat)}
theorem hlt {o : Obj} (h : w.heap[b]? = some o) : b < w.heap.size := (Array.getElem?_eq_some_iff.1 h).1
theorem Mo.lt (h : Mo w b ks) : b < w.heap.size := hlt h.row
theorem Mo.gr (h : Mo w b ks) (G : Gr w w') : Mo w' b ks := ⟨h.nd, (G.block b h.lt).trans h.row⟩
theorem Mo.md (h : Mo w b ks) (M : Md c w w') (ne : b ≠ c := by omega) : Mo w' b ks := ⟨h.nd, (M.block b ne).trans h.row⟩
theorem Mo.ka (h : Mo w b ks) (A : Ka z g w w') (hn : z = 0 ∨ g ≠ b := by omega) : Mo w' b ks := ⟨h.nd, (A.block b h.lt (by omega)).trans h.row⟩
theorem Mo.kz (h : Mo w b ks) (K : Kz l w w') (hn : Nin l b := by simp only [Nin, InA, InZ, Qj1, Mz, or_true, true_or, and_true, List.mem_cons, List.mem_append, Qce, List.not_mem_nil, or_false, false_or, not_or, ne_eq, List.nil_append, List.cons_append, true_and, and_true, false_and, and_false, not_true_eq_false, not_false_eq_true, or_true, true_or] <;> omega) : Mo w' b ks := ⟨h.nd, (K.block b h.lt hn).trans h.row⟩
theorem Mi.lt (h : Mi w b m ks rem) : b < w.heap.size := by obtain ⟨s, h, _⟩ := h; exact hlt h
theorem Mi.gr (h : Mi w b m ks rem) (G : Gr w w') : Mi w' b m ks rem := by obtain ⟨s, h1, h2⟩ := h; exact ⟨s, (G.block b (hlt h1)).trans h1, h2⟩
theorem Mi.md (h : Mi w b m ks rem) (M : Md c w w') (ne : b ≠ c := by omega) : Mi w' b m ks rem := by obtain ⟨s, h1, h2⟩ := h; exact ⟨s, (M.block b ne).trans h1, h2⟩
theorem Mi.ka (h : Mi w b m ks rem) (A : Ka z g w w') (hn : z = 0 ∨ g ≠ b := by omega) : Mi w' b m ks rem := by obtain ⟨s, h1, h2⟩ := h; exact ⟨s, (A.block b (hlt h1) (by omega)).trans h1, h2⟩
theorem Mi.kz (h : Mi w b m ks rem) (K : Kz l w w') (hn : Nin l b := by simp only [Nin, InA, InZ, Qj1, Mz, or_true, true_or, and_true, List.mem_cons, List.mem_append, Qce, List.not_mem_nil, or_false, false_or, not_or, ne_eq, List.nil_append, List.cons_append, true_and, and_true, false_and, and_false, not_true_eq_false, not_false_eq_true, or_true, true_or] <;> omega) : Mi w' b m ks rem := by obtain ⟨s, h1, h2⟩ := h; exact ⟨s, (K.block b (hlt h1) hn).trans h1, h2⟩
theorem Mk.mi (h : Mk w b m ks rem k) : Mi w b m ks rem := by obtain ⟨s, i, h1, h2, _⟩ := h; exact ⟨_, h1, h2⟩
end
theorem Xfa (ks : List Int) : Xg3 ks [] = ks := by
  unfold Xg3
  have : (ks.zipIdx.filter fun x => !([] : List Nat).contains x.2) = ks.zipIdx := List.filter_eq_self.2 (by simp)
  rw [this]; simp
theorem Xc6 {ks : List Int} {seen : List Nat} {i : Nat} {k : Int} (hn : ks.Nodup) (hi : ks[i]? = some k) : Xg3 ks (seen ++ [i]) = (Xg3 ks seen).filter (· ≠ k) := by
  unfold Xg3
  rw [List.filter_map, List.filter_filter]
  congr 1
  apply List.filter_congr
  rintro ⟨x, j⟩ hx
  have hj : ks[j]? = some x := by simpa using List.mem_zipIdx_iff_getElem?.1 hx
  have : decide (x ≠ k) = !decide (j = i) := by
    by_cases e : j = i
    · subst e; rw [hi] at hj; cases hj; simp
    · have : x ≠ k := by
        rintro rfl
        obtain ⟨p1, e1⟩ := List.getElem?_eq_some_iff.1 hi
        obtain ⟨p2, e2⟩ := List.getElem?_eq_some_iff.1 hj
        exact e ((List.getElem_inj hn).1 (by rw [e1, e2]))
      simp [e, this]
  simp only [Function.comp, List.contains_append, Bool.not_or, this]
  rw [Bool.and_comm]
  congr 1
  simp only [List.contains_cons, List.contains_nil, Bool.or_false]
  by_cases e : j = i <;> simp [e]
section
variable {P : Program} {L : Slots} {w : World} {dst : Option Nat} {ty : TypeId} {pos : String} {af : Array Edge} {gu : Option (Nat × Bool)} {x y : Operand} {t K E : TypeId} {b m : Nat} {ks rem : List Int} {k : Int}
structure MpT (P : Program) (t K E : TypeId) : Prop where
  und : P.underlying t = some (.map K E)
  key : P.underlying K = some (.int .i64)
  zero : ∀ w, (zeroValue E).run P w = .ok (.bool false) w
theorem Xaf : EV P L ⟨dst, .makeMap t none, ty, pos, af, gu⟩ w fun v' w' => ∃ b, v' = .map (some b) ∧ w.heap.size ≤ b ∧ Mo w' b [] ∧ Gr w w' := fun ρ hρ => by
  refine .val (.map (some w.heap.size)) (w.alloc (.map #[] 0)) (by simp [execOp, Instr.makeMap, go_sem]) ⟨_, rfl, Nat.le_refl _, ⟨List.nodup_nil, heap_alloc_new w _⟩, (Below.refl _ _).alloc (Nat.le_refl _) _⟩
theorem Qrp (k : Int) : ∀ (ks : List Int) (o i : Nat), Instr.findNow (.int .i64) (.int .i64 k) ((ks.zipIdx o).map fun x => (⟨.int .i64 x.1, .bool true, x.2⟩ : MapEntry)) i = some (if k ∈ ks then some (i + ks.idxOf k, .bool true) else none)
  | [], o, i => by simp [Instr.findNow]
  | a :: ks, o, i => by
    rw [List.zipIdx_cons, List.map_cons]
    simp only [Instr.findNow, Instr.sameNow, if_true]
    by_cases h : k = a
    · subst h; simp
    · have hb : (k == a) = false := by simpa using h
      have hb2 : (a == k) = false := by simpa using fun e => h e.symm
      rw [hb]
      simp only
      rw [Qrp k ks (o + 1) (i + 1)]
      simp only [List.mem_cons, h, false_or, List.idxOf_cons, hb2, cond_false]
      congr 1
      split
      · congr 2; omega
      · rfl
theorem Qse (e : Bool) (n : Nat) (hk : P.underlying K = some (.int .i64)) : (Instr.checkKey e (n + 1) K (.int .i64 k)).run P w = .ok () w := by
  unfold Instr.checkKey
  simp only [Sem.run_bind, run_underlying hk, Result.andThen]
  rfl
theorem Qow (hm : MpT P t K E) (hx : ev L x = some (.map (some b))) (hy : ev L y = some (.int .i64 k)) (hb : Mo w b ks) : VV P L ⟨dst, .lookup t x y false, ty, pos, af, gu⟩ w (.bool (decide (k ∈ ks))) := fun ρ hρ => by
  refine Qoh ?_
  rw [hρ _ _ hx, hρ _ _ hy]
  have hck : ∀ e, (Instr.checkKey e 10000 K (.int .i64 k)).run P w = .ok () w := fun e => Qse e 9999 hm.key
  have hf : Instr.findNow (.int .i64) (.int .i64 k) (mpE ks) 0 = _ := Qrp k ks 0 0
  unfold Instr.lookup
  simp only [Sem.run_bind, run_underlying hm.und, Result.andThen, MapKept.run_getObj_map hb.row, Sem.run_pure, hck]
  unfold Instr.findKey
  simp only [Sem.run_bind, run_underlying hm.key, Result.andThen]
  rw [hf]
  by_cases h : k ∈ ks
  · simp [h]
  · simp [h, hm.zero w]
theorem Xfn (ks : List Int) (k : Int) : mpE (ks ++ [k]) = mpE ks ++ [⟨.int .i64 k, .bool true, ks.length⟩] := by
  unfold mpE; rw [List.zipIdx_append, List.map_append]; simp
theorem Xda (hm : MpT P t K E) {z : Operand} (hx : ev L x = some (.map (some b))) (hy : ev L y = some (.int .i64 k)) (hz : ev L z = some (.bool true)) (hb : Mo w b ks) : EV P L ⟨dst, .mapUpdate t x y z, ty, pos, af, gu⟩ w fun _ w' => Mo w' b (Qxw ks k) ∧ Md b w w' := fun ρ hρ => by
  have hck : (Instr.checkKey false 10000 K (.int .i64 k)).run P w = .ok () w := Qse false 9999 hm.key
  have hf : Instr.findNow (.int .i64) (.int .i64 k) (mpE ks) 0 = _ := Qrp k ks 0 0
  have hset : ∀ o : Obj, (setObj b o).run P w = .ok () (w.putObj b o) := fun o => by
    simp only [setObj, Sem.run, hb.row]; rfl
  have key : ∃ o : Obj, (Instr.mapUpdate t (.map (some b)) (.int .i64 k) (.bool true)).run P w = .ok () (w.putObj b o) ∧ o = .map (mpE (Qxw ks k)).toArray (Qxw ks k).length := by
    unfold Instr.mapUpdate
    simp only [Sem.run_bind, run_underlying hm.und, Result.andThen, MapKept.run_getObj_map hb.row, hck]
    unfold Instr.findKey
    simp only [Sem.run_bind, run_underlying hm.key, Result.andThen]
    rw [hf]
    by_cases h : k ∈ ks
    · rw [if_pos h]
      simp only [Sem.run_pure, Nat.zero_add, Instr.keyThatStays]
      have hi : ks.idxOf k < ks.length := List.idxOf_lt_length_of_mem h
      have hg : (mpE ks).toArray[ks.idxOf k]? = some ⟨.int .i64 k, .bool true, ks.idxOf k⟩ := by
        simp [mpE, hi]
      rw [hg]
      simp only [Option.map_some, Option.getD_some, Instr.sameBits, beq_self_eq_true, Bool.and_self, if_true, Sem.run_bind, Sem.run_pure, Result.andThen, hset, Qxw, if_pos h]
      refine ⟨_, rfl, ?_⟩
      congr 1
      apply Array.ext_getElem?
      intro j
      rw [Array.getElem?_modify]
      by_cases hj : ks.idxOf k = j
      · subst hj; rw [if_pos rfl, hg]; rfl
      · rw [if_neg hj]
    · rw [if_neg h]
      simp only [Sem.run_pure, hset, Qxw, if_neg h]
      refine ⟨_, rfl, ?_⟩
      rw [Xfn]; simp
  obtain ⟨o, h1, rfl⟩ := key
  refine .skip _ ?_ ⟨⟨Xhw hb.nd, World.putObj_heap_same hb.lt⟩, Md.put b _⟩
  simp [execOp, hρ _ _ hx, hρ _ _ hy, hρ _ _ hz, h1]
theorem Xcd (hm : MpT P t K E) (hx : ev L x = some (.map (some m))) (hb : Mo w m ks) : EV P L ⟨dst, .range t x, ty, pos, af, gu⟩ w fun v' w' => ∃ b, v' = .pointer (some ⟨b, 0, none⟩) ∧ w.heap.size ≤ b ∧ Mi w' b m ks ks ∧ Gr w w' := fun ρ hρ => by
  have h := run_range_map (P := P) w t K E m _ _ hm.und hb.row
  refine .val _ _ (Qoh (by rw [hρ _ _ hx]; exact h)) ⟨_, rfl, Nat.le_refl _, ⟨[], heap_alloc_new w _, (Xfa ks).symm⟩, (Below.refl _ _).alloc (Nat.le_refl _) _⟩
theorem Xe3 (hx : ev L x = some (.pointer (some ⟨b, 0, none⟩))) (hb : Mo w m ks) (hi : Mi w b m ks rem) : EV P L ⟨dst, .next x false, ty, pos, af, gu⟩ w fun v' w' =>
    (v' = .tuple [.bool false].toArray ∧ rem = [] ∧ Gr w w') ∨ (∃ k, k ∈ rem ∧ v' = .tuple [.bool true, .int .i64 k, .bool true].toArray ∧ Mk w' b m ks (rem.filter (· ≠ k)) k ∧ Md b w w') := fun ρ hρ => by
  obtain ⟨seen, h1, rfl⟩ := hi
  have hold : ∀ e ∈ (mpE ks).toArray.toList, e.born < ks.length := by
    intro e he
    obtain ⟨⟨a, j⟩, hj, rfl⟩ := List.mem_map.1 he
    have := List.mem_zipIdx_iff_getElem?.1 hj
    exact (List.getElem?_eq_some_iff.1 (by simpa using this)).1
  have hrun : ∀ (r : Result Value), (Instr.next (.pointer (some ⟨b, 0, none⟩)) false ty).run P w = r → (execOp ρ ⟨dst, .next x false, ty, pos, af, gu⟩).run P w = r.andThen fun v w' => .ok (.value v) w' := fun r hr => by
    simp only [execOp, hρ _ _ hx]
    rw [← hr]
    simp [Sem.run_bind]
  have hL : (Array.filter (fun e => !seen.toArray.contains e.born) (mpE ks).toArray).toList = (ks.zipIdx.filter fun x => !seen.contains x.2).map fun x => (⟨.int .i64 x.1, .bool true, x.2⟩ : MapEntry) := by
    simp [mpE, List.filter_map, Function.comp_def]
  have hmem : ∀ e ∈ (Array.filter (fun e => !seen.toArray.contains e.born) (mpE ks).toArray).toList, e.born < ks.length := fun e he => hold e (by simp at he ⊢; exact he.1)
  have hn : (Instr.next (.pointer (some ⟨b, 0, none⟩)) false ty).run P w = (Instr.next (.pointer (some ⟨b, 0, none⟩)) false ty).run P w := rfl
  conv at hn => rhs; simp only [Instr.next, getObj, Sem.run_bind, Sem.run, h1, hb.row, Result.andThen, next_test_false seen.toArray (mpE ks).toArray ks.length ks.length hold (Nat.le_refl _), Bool.false_eq_true, if_false]
  generalize Array.filter (fun e => !seen.toArray.contains e.born) (mpE ks).toArray = A at hL hmem hn
  have e1 : A.filter (fun x => decide (x.born < ks.length)) = A := Array.filter_eq_self.2 (fun x hx => by simpa using hmem x (by simpa using hx))
  have e2 : A.filter (fun x => decide (x.born ≥ ks.length)) = #[] := by
    rw [Array.filter_eq_empty_iff]
    intro x hx
    have := hmem x (by simpa using hx)
    simp; omega
  simp only [e1, e2, Array.append_empty] at hn
  by_cases h0 : A.size = 0
  · have hA : A = #[] := Array.eq_empty_of_size_eq_zero h0
    subst hA
    have h2 := hrun _ hn
    refine .val (.tuple [.bool false].toArray) w ?_ (.inl ⟨rfl, ?_, Gr.refl w⟩)
    · rw [h2]; simp [choose, Sem.run, Question.forced, Result.andThen]
    · have : (ks.zipIdx.filter fun x => !seen.contains x.2) = [] := by simpa using hL.symm
      unfold Xg3; rw [this]; rfl
  · have hne : A.isEmpty = false := by simp [Array.isEmpty, h0]
    simp only [hne, Bool.false_eq_true, if_false, Array.empty_append, Array.size_map] at hn
    have hch : ∃ (j : Nat) (w1 : World), j < A.size ∧ (w1 = w ∨ w1 = w.drew) ∧ (choose (Question.mapNext A.size)).run P w = .ok j w1 := by
      by_cases hf : A.size ≤ 1
      · exact ⟨0, w, by omega, .inl rfl, by simp [choose, Sem.run, Question.forced, hf]⟩
      · exact ⟨_, w.drew, Nat.mod_lt _ (by omega), .inr rfl, by
          simp only [choose, Sem.run, Question.forced, decide_eq_true_eq, hf, if_false, Question.cut]; rfl⟩
    obtain ⟨j, w1, hj, hw1, hc⟩ := hch
    have hw1h : w1.heap = w.heap := by rcases hw1 with rfl | rfl <;> rfl
    have hset : ∀ o : Obj, (setObj b o).run P w1 = .ok () (w1.putObj b o) := fun o => by
      have : w1.heap[b]? = some (.mapIter (some m) ks.length seen.toArray ks.length) := by rw [hw1h]; exact h1
      simp only [setObj, Sem.run, this]; rfl
    simp only [hc, Array.getElem?_map, Array.getElem?_eq_getElem hj, Option.map_some, hset, Sem.run_bind, Result.andThen] at hn
    have hAj : A[j] ∈ A.toList := by simp
    rw [hL] at hAj
    obtain ⟨⟨k, i⟩, hki, hkj⟩ := List.mem_map.1 hAj
    have hki' := List.mem_filter.1 hki
    have hi : ks[i]? = some k := by simpa using List.mem_zipIdx_iff_getElem?.1 hki'.1
    rw [← hkj] at hn
    have h2 := hrun _ hn
    have hmd : Md b w (w1.putObj b (.mapIter (some m) ks.length (seen.toArray.push i) ks.length)) := by
      have : Md b w1 (w1.putObj b (.mapIter (some m) ks.length (seen.toArray.push i) ks.length)) := Md.put b _
      rcases hw1 with rfl | rfl
      · exact this
      · exact ⟨this.os, this.tape, this.output, this.size, this.block⟩
    refine .val (.tuple [.bool true, .int .i64 k, .bool true].toArray) _ (by rw [h2]; rfl) (.inr ⟨k, ?_, rfl, ⟨seen, i, ?_, ?_, hi⟩, hmd⟩)
    · exact List.mem_map.2 ⟨(k, i), hki, rfl⟩
    · have hbs : b < w1.heap.size := by rw [hw1h]; exact hlt h1
      have := World.putObj_heap_same (w := w1) (o := .mapIter (some m) ks.length (seen.toArray.push i) ks.length) hbs
      rw [this]; simp
    · exact (Xc6 hb.nd hi).symm
theorem Xba (hx : ev L x = some (.pointer (some ⟨b, 0, none⟩))) (hb : Mo w m ks) (hi : Mk w b m ks rem k) : VV P L ⟨dst, .entry x, ty, pos, af, gu⟩ w (.tuple [.int .i64 k, .bool true].toArray) := fun ρ hρ => by
  obtain ⟨seen, i, h1, _, h3⟩ := hi
  refine Qoh ?_
  rw [hρ _ _ hx]
  have hf : (mpE ks).toArray.find? (fun e => e.born == i) = some ⟨.int .i64 k, .bool true, i⟩ := by
    rw [← Array.find?_toList]
    have hgen : ∀ (ks : List Int) (o i : Nat), ks[i]? = some k → ((ks.zipIdx o).map fun x => (⟨.int .i64 x.1, .bool true, x.2⟩ : MapEntry)).find? (fun e => e.born == o + i) = some ⟨.int .i64 k, .bool true, o + i⟩ := by
      intro ks
      induction ks with
      | nil => intro o i h; simp at h
      | cons a ks ih =>
        intro o i h
        rw [List.zipIdx_cons, List.map_cons, List.find?_cons]
        cases i with
        | zero => simp at h; subst h; simp
        | succ i =>
          have hne : (o == o + (i + 1)) = false := by simp
          rw [hne]
          have := ih (o + 1) i (by simpa using h)
          rw [show o + 1 + i = o + (i + 1) from by omega] at this
          exact this
    have := hgen ks 0 i h3
    rw [Nat.zero_add] at this; exact this
  simp [Instr.entry, getObj, Sem.run, h1, hb.row, hf]
end
end Go.Sx

end
section
set_option linter.unusedVariables false
namespace Go.Sx
open Go Go.RowKit
theorem Qr3 {P : Program} {n : Nat} {ops : Array Oper} {Q : Slots → World → Prop} {rest : List (Nat × Nat)} {i : Nat} {dst : Option Nat} {ty : TypeId} {pos : String} {af : Array Edge} {gu : Option (Nat × Bool)} {L : Slots} {w : World}
    {f : Nat} {fs cap : List Value} {x : Operand} {aas : Array Operand} {at_ : Array TypeId} {vs : List Value} {fn : Func} {c : Code} (n' : Nat) (hf : P.funcs[f]? = some fn) (hi : ops[i]? = some ⟨dst, .call { callee := .value x, args := aas, argTypes := at_ }, ty, pos, af, gu⟩)
    (hg : gd ops L ⟨dst, .call { callee := .value x, args := aas, argTypes := at_ }, ty, pos, af, gu⟩ = some true) (hd : inN n dst = true) (hen : En P f) (hx : ev L x = some (.func (.func f) fs.toArray cap.toArray)) (hargs : evs L aas.toList = some vs)
    (hb : fn.body = some c) (hn : fn.ntmps = n') (hl : Nat.ble (fs ++ vs ++ cap).length n' = true)
    (h : SW P none n' c (Xoa P fn (fun v w' => SD P n ops Q (fun _ _ => True) (fun _ _ => false) rest (Qm1 dst v L) w')) [] (Qph 0 (fs ++ vs ++ cap)) w) : SD P n ops Q (fun _ _ => True) (fun _ _ => false) ((i, 0) :: rest) L w :=
  Qdx hi hg hd (Qcn hen hx hargs (Qa5 n' hf hb hn hl h)) fun v w' hR => hR
end Go.Sx

end
section
set_option linter.unusedVariables false
namespace Go.Sx
open Go
def mxI (a b : Int) : Int := if a < b then b else a
def mnI (a b : Int) : Int := if b < a then b else a
end Go.Sx

end
section
set_option linter.unusedVariables false
set_option linter.unusedSimpArgs false
namespace Go.Sx
open Go Go.RowKit
theorem Qyg {α : Type} (a : α) : ∃ x, x = a := ⟨a, rfl⟩
section
variable {F : Fence} {n : Nat} {P : Program} {a : Act} {w : World} {Q : Exit → Act → World → Prop}
theorem Qjn {b : Frame} {k : List Item} {cs : List Frame} {c : Code} : step P (lone (b.atR a (.code (.scope c) :: k)) cs w) = .next (lone (b.atR a (.code c :: .inScope c :: k)) cs w) := step_lone_go (by simp [stepG, stepG.exec, Frame.atR])
theorem Qv5 {b : Frame} {k : List Item} {cs : List Frame} {c : Code} : step P (lone (b.atR a (.inScope c :: k)) cs w) = .next (lone (b.atR a k) cs w) := step_lone_go (by simp [stepG, stepG.exec, Frame.atR])
def Xoh (Q : Exit → Act → World → Prop) : Exit → Act → World → Prop
  | .goto _, _, _ => False
  | e, a, w => Q e a w
theorem Xal {c : Code} (h : c.wpIn F n P (Xoh Q) a w) : (Code.scope c).wpIn F n P Q a w := by
  intro b k cs hro hb hr
  have h0 : (lone (b.atR a (.code (.scope c) :: k)) cs w).fenced P F := fenced_calm hb hr rfl
  obtain ⟨e, a₁, w₁, hq, harr⟩ := h b (.inScope c :: k) cs hro hb hr
  cases e with
  | normal => exact ⟨.normal, a₁, w₁, hq, .head h0 Qjn (StepsIn.trans harr (.one (fenced_calm hb hr rfl) Qv5))⟩
  | exit id' =>
    have hx : exitTo id' (.inScope c :: k) = exitTo id' k := by simp [exitTo]
    exact ⟨.exit id', a₁, w₁, hq, fun k' hk => .head h0 Qjn (harr.1 k' (by rw [hx]; exact hk)),
      fun hr' hk => let ⟨k₁, h1, h2⟩ := harr.2 hr' (by rw [hx]; exact hk); ⟨k₁, h1, .head h0 Qjn h2⟩⟩
  | goto l => exact hq.elim
  | ret => exact ⟨_, a₁, w₁, hq, .of_steps (.one h0 Qjn) harr⟩
  | panic ch => exact ⟨_, a₁, w₁, hq, .of_steps (.one h0 Qjn) harr⟩
  | outgrown => exact ⟨_, a₁, w₁, hq, .of_steps (.one h0 Qjn) harr⟩
end
def Xfs (Q : Exit → List Deferred → Slots → World → Prop) : Exit → List Deferred → Slots → World → Prop
  | .goto _, _, _, _ => False
  | e, D, L, w => Q e D L w
section
variable {P : Program} {r : Option Nat} {n : Nat} {Q : Exit → List Deferred → Slots → World → Prop} {D : List Deferred} {L : Slots} {w : World}
theorem Xez {c : Code} (h : SW P r n c (Xfs Q) D L w) : SW P r n (.scope c) Q D L w := fun a ha => Xal (wpIn_mono (h a ha) fun e a' w' hh => by
  cases e with
  | goto l => obtain ⟨_, _, _, h⟩ := hh; exact h.elim
  | normal => exact hh
  | exit id => exact hh
  | ret => exact hh
  | panic c => exact hh
  | outgrown => exact hh)
theorem Xdu (h : Q .ret D L w) : Xfs Q .ret D L w := h
end
section
variable {P : Program} {L : Slots} {w : World} {dst : Option Nat} {ty : TypeId} {pos : String} {af : Array Edge} {gu : Option (Nat × Bool)} {x y q : Operand} {t t2 t3 : TypeId} {a b c : Int} {k k2 k3 : IntKind}
theorem Xb4 (hx : ev L x = some (.int k a)) (hy : ev L y = some (.int k2 b)) : VV P L ⟨dst, .call { callee := .builtin .max, args := #[x, y], argTypes := #[t, t2] }, ty, pos, af, gu⟩ w (.int k (mxI a b)) := fun ρ hρ => by
  simp [execOp, resolve, invoke, builtin, hρ _ _ hx, hρ _ _ hy, Builtin.max_, Builtin.max2, mxI]
theorem Xhp (hx : ev L x = some (.int k a)) (hy : ev L y = some (.int k2 b)) : VV P L ⟨dst, .call { callee := .builtin .min, args := #[x, y], argTypes := #[t, t2] }, ty, pos, af, gu⟩ w (.int k (mnI a b)) := fun ρ hρ => by
  simp [execOp, resolve, invoke, builtin, hρ _ _ hx, hρ _ _ hy, Builtin.min_, Builtin.min2, mnI]
theorem Xer (hx : ev L x = some (.int k a)) (hy : ev L y = some (.int k2 b)) (hq : ev L q = some (.int k3 c)) : VV P L ⟨dst, .call { callee := .builtin .min, args := #[x, y, q], argTypes := #[t, t2, t3] }, ty, pos, af, gu⟩ w (.int k (mnI (mnI a b) c)) := fun ρ hρ => by
  simp [execOp, resolve, invoke, builtin, hρ _ _ hx, hρ _ _ hy, hρ _ _ hq, Builtin.min_, Builtin.min2]; unfold mnI; congr 3
variable {d e : BitVec 64}
end
def BA (P : Program) (t : TypeId) (sz : Nat) (z : List Value) : Prop := ∃ n e, P.underlying t = some (.array n e) ∧ Siz P e sz ∧ ZV P t (.agg z.toArray)
theorem Qp1 {P : Program} {L : Slots} {w : World} {dst : Option Nat} {ty : TypeId} {pos : String} {af : Array Edge} {gu : Option (Nat × Bool)} {t : TypeId} {sz : Nat} {z cs : List Value} {parts : Array (Nat × Operand)} {vs : List (Nat × Value)} (hb : BA P t sz z) (hp : evp L parts.toList = some vs) (hf : Qrh (fun i => some (i * sz, sz)) z vs = some cs) :
    VV P L ⟨dst, .build t parts, ty, pos, af, gu⟩ w (.agg cs.toArray) := fun ρ hρ => by
  obtain ⟨n, e, hu, hs, hz⟩ := hb
  have e1 : (parts.map fun (x : Nat × Operand) => (x.1, ρ x.2)) = vs.toArray := by rw [← hρ.mapP hp, ← Array.toList_map]
  refine Qoh ?_
  show (Instr.build t (parts.map fun (x : Nat × Operand) => (x.1, ρ x.2))).run P w = _
  rw [e1]
  simp only [Instr.build, Sem.run_bind, hz w, Result.andThen, run_underlying hu, hs w, Value.cells, Qvs vs z cs hf]; rfl
section
variable {P : Program} {L : Slots} {w : World} {dst : Option Nat} {ty : TypeId} {pos : String} {af : Array Edge} {gu : Option (Nat × Bool)} {x : Operand} {t u e : TypeId} {v : Value} {z g o sz : Nat} {α : Type} {l : List α} {c : α → List Value}
theorem Qvo (hr : Rd w z g o sz v (l.map c)) : (∃ cap, v = .slice none 0 cap ∧ l = []) ∨ ∃ a k cap, v = .slice (some a) k cap := by
  rcases hr.2 with ⟨_, h, a, cap, rfl⟩ | ⟨_, cap, rfl, _⟩
  · cases a with
    | none => exact .inl ⟨cap, rfl, by simpa using h⟩
    | some a => exact .inr ⟨a, 0, cap, rfl⟩
  · exact .inr ⟨_, _, _, rfl⟩
theorem Qxs {P : Program} {a : Option Addr} {k cap : Nat} {w : World} (d : Nat) (hu : P.underlying t = some (.slice e)) : (Op.equalIn (d + 1) t (.slice a k cap) (.slice none 0 0)).run P w = .ok a.isNone w := by
  cases a <;> simp [Op.equalIn, run_underlying hu]
theorem Xaj {P : Program} {a : Option Addr} {k cap : Nat} {w : World} (hu : P.underlying t = some (.slice e)) : (Op.equal t (.slice a k cap) (.slice none 0 0)).run P w = .ok a.isNone w := by
  exact Qxs 9999 hu
theorem Qnc {k cap : Nat} {a : Option Addr} (hu : P.underlying t = some (.slice e)) (hx : ev L x = some v) (hv : v = .slice a k cap) : VV P L ⟨dst, .binOp .eql t x (.const (.slice none 0 0)) u, ty, pos, af, gu⟩ w (.bool a.isNone) := fun ρ hρ => by
  subst hv
  simp [execOp, hρ _ _ hx, hρ (.const (.slice none 0 0)) _ rfl, go_sem, binOp, Xaj hu]
end
section
variable {P : Program} {L : Slots} {w : World} {dst : Option Nat} {ty : TypeId} {pos : String} {af : Array Edge} {gu : Option (Nat × Bool)} {x y p q r : Operand} {t e : TypeId} {v : Value} {z g o sz N : Nat} {α : Type} {l m k : List α} {c : α → List Value} {lo hi : Int} {kl kh km : IntKind}
end
end Go.Sx

end
section
set_option linter.unusedVariables false
set_option linter.unusedSimpArgs false
namespace Go.Sx
open Go Go.RowKit
theorem Xhg (n : Int) : IntKind.u8.wrap n = n % 256 := by simp [IntKind.wrap, IntKind.bits, IntKind.signed]
theorem Xob (x : BitVec 8) : BitVec.ofInt 8 (un8 x) = x := by unfold un8; rw [BitVec.ofInt_natCast, BitVec.ofNat_toNat, BitVec.setWidth_eq]
theorem wr8 (x : BitVec 8) : IntKind.u8.wrap (x.toNat : Int) = un8 x := by rw [Xhg]; unfold un8; have := x.isLt; omega
theorem Xnc (x y : BitVec 8) : bits .xor .u8 (un8 x) (un8 y) = un8 (x ^^^ y) := by
  show IntKind.u8.wrap ((BitVec.ofInt 8 (un8 x) ^^^ BitVec.ofInt 8 (un8 y)).toNat : Int) = _
  rw [Xob, Xob, wr8]
section
variable {P : Program} {L : Slots} {w : World} {dst : Option Nat} {ty : TypeId} {pos : String} {af : Array Edge} {gu : Option (Nat × Bool)} {x y : Operand} {t u e : TypeId} {a b : BitVec 8}
theorem Xcb (hx : ev L x = some (bv a)) (hy : ev L y = some (bv b)) : VV P L ⟨dst, .binOp .xor t x y u, ty, pos, af, gu⟩ w (bv (a ^^^ b)) := Qg1 (Qrt (by simp) hx hy) (by rw [Xnc])
theorem Xfg {bt off cp z2 g2 o2 : Nat} {tb : TypeId} {cs cs' : List Value} {p : W2} {v : Value} {s : List (BitVec 8)} (ha : ApT P t e 1 1) (hx : ev L x = some (.slice (some ⟨bt, off, none⟩) 16 cp)) (hy : ev L y = some v) (hb : Bx w bt tb cs) (h : (cs.drop off).take 16 = kb p) (hr : Rd w z2 g2 o2 1 v (s.map bvc))
    (hl : Nat.ble (off + 16) cs.length = true) (he : spl cs off (kb (ofB (Qu6 (kby p) s))) = cs') :
    EV P L ⟨dst, .call { callee := .builtin .copy, args := #[x, y], argTypes := #[t, t] }, ty, pos, af, gu⟩ w fun v' w' => v' = .int .i64 (Xb9 (kby p) s) ∧ Bx w' bt tb cs' ∧ Md bt w w' := fun ρ hρ => by
  obtain ⟨i, zv, hi, hzv, hsz, hby, hzs⟩ := ha.info
  have hl' := Nat.le_of_ble_eq_true hl
  have hs1 : (P.info? e).map (·.size) = some 1 := by rw [hi]; simp [hsz]
  have hkl : (Qu6 (kby p) s).length = 16 := by simp [Qu6, Qgj]; omega
  have hkb : kby (ofB (Qu6 (kby p) s)) = Qu6 (kby p) s := by rw [Qs7 (by omega), List.take_of_length_le (by omega)]
  have fin : ∀ v' w', (Builtin.copy_ #[t, t] ty #[.slice (some ⟨bt, off, none⟩) 16 cp, v]).run P w = .ok v' w' → (execOp ρ ⟨dst, .call { callee := .builtin .copy, args := #[x, y], argTypes := #[t, t] }, ty, pos, af, gu⟩).run P w = .ok (.value v') w' := fun v' w' h1 => by
    simp [execOp, resolve, invoke, builtin, hρ _ _ hx, hρ _ _ hy, h1]
  have hkey : ∀ m : List Value, (∃ k, k ≤ 16 ∧ m = (((s.map bvc).flatten).take k) ∧ Qu6 (kby p) s = s.take k ++ (kby p).drop k ∧ m.length = k) → spl cs off m = cs' := by
    rintro m ⟨k, hk, rfl, hc, hml⟩
    rw [← he, Qq6, hkb, hc]
    have e0 : ((s.take k ++ (kby p).drop k).map bvc).flatten = ((s.map bvc).flatten).take k ++ (kb p).drop k := by
      have w1 : Ws 1 (s.map bvc) := Qil _ (fun _ => rfl) (fun _ => rfl)
      have w2 : Ws 1 ((kby p).map bvc) := Qil _ (fun _ => rfl) (fun _ => rfl)
      rw [List.map_append, List.flatten_append, List.map_take, List.map_drop, Qr1 _ _ w1, Qts _ _ w2, ← Qq6, Nat.mul_one]
    have hkbl : (kb p).length = 16 := rfl
    have hlen : (((s.map bvc).flatten).take k ++ (kb p).drop k).length = 16 := by rw [List.length_append, hml, List.length_drop, hkbl]; omega
    unfold spl
    rw [e0, hlen, hml, ← h]
    simp only [List.append_assoc]
    congr 2
    rw [List.drop_take, List.drop_drop]
    have e1 : off + 16 = off + k + (16 - k) := by omega
    rw [e1, ← List.drop_drop (i := 16 - k) (j := off + k), List.take_append_drop]
  rcases hr.2 with ⟨hz2, hs0, a, cap, rfl⟩ | ⟨hz2, cap, rfl, hlt, hcell⟩
  · have hs0' : s = [] := by simpa using hs0
    subst hs0'
    refine .val _ _ (fin _ _ (run_copy_none w t t ty e (some ⟨bt, off, none⟩) a 16 cp 0 cap ha.und hs1 (by simp))) ⟨by simp [Xb9, goInt], ?_, Md.refl _ _⟩
    rw [← hkey [] ⟨0, by omega, by simp, by simp [Qu6], rfl⟩, Qvv]; exact hb
  · have hfs : (s.map bvc).flatten.length = s.length := by rw [hr.1.flat, List.length_map]; omega
    have hvl : ((s.map bvc).flatten.take (min s.length 16)).length = min s.length 16 := by rw [List.length_take, hfs]; omega
    have hld : (loadCells ⟨g2, o2, none⟩ (min s.length 16)).run P w = .ok ((s.map bvc).flatten.take (min s.length 16)).toArray w := by
      have := run_loadCells_list (P := P) w ⟨g2, o2, none⟩ ((s.map bvc).flatten.take (min s.length 16)) (fun j u hj => by
        rw [Addr.add_lit]
        refine hcell j u ?_
        rw [List.getElem?_take] at hj
        split at hj
        · exact hj
        · cases hj)
      rw [hvl] at this; exact this
    have hone : ∀ u ∈ (s.map bvc).flatten.take (min s.length 16), u.oneCell' = true := fun u hu => hr.1.one u (List.mem_of_mem_take hu)
    obtain ⟨w', hrun, hb', hmd⟩ := Qmy (P := P) (off := off) _ 0 w cs hone hb (by rw [hvl]; omega)
    refine .val _ w' (fin _ _ ?_) ⟨rfl, ?_, hmd⟩
    · have e1 : Nat.min (s.map bvc).length 16 = min s.length 16 := by rw [List.length_map]
      have e2 : min s.length (kby p).length = min s.length 16 := by rw [Qgj]
      simp [Builtin.copy_, run_underlying ha.und, Builtin.lenOf, Builtin.firstCells, sizeOf, typeInfo, hi, hsz, hld, hrun, goInt, Xb9, e2]
    · rw [Nat.add_zero] at hb'
      rw [← hkey _ ⟨min s.length 16, by omega, rfl, ?_, hvl⟩]; exact hb'
      unfold Qu6
      rw [Qgj]
      by_cases hle : s.length ≤ 16
      · rw [Nat.min_eq_left hle, List.take_of_length_le (by omega), List.take_of_length_le (by omega)]
      · rw [Nat.min_eq_right (by omega), List.drop_eq_nil_of_le (by rw [Qgj]; omega), List.drop_eq_nil_of_le (by rw [Qgj]; omega)]
end
section
variable {P : Program} {L : Slots} {w : World} {dst : Option Nat} {ty : TypeId} {pos : String} {af : Array Edge} {gu : Option (Nat × Bool)} {x y : Operand} {t u e : TypeId}
theorem Xcx {a : Int} (hx : ev L x = some (.int .i64 a)) : VV P L ⟨dst, .unOp .neg t x, ty, pos, af, gu⟩ w (.int .i64 (w64 (-a))) := fun ρ hρ => by
  simp [execOp, hρ _ _ hx, go_sem]
theorem Xm6 {sz : Nat} {xs : List (List Value)} (hw : Ws sz xs) {i : Nat} {c : List Value} (hi : xs[i]? = some c) : (xs.flatten.drop (i * sz)).take sz = c := by
  have hc := (hw c (List.mem_of_getElem? hi)).1
  apply List.ext_getElem?
  intro q
  by_cases hq : q < sz
  · rw [List.getElem?_take_of_lt hq, List.getElem?_drop]
    exact hw.at i q c hi hq
  · rw [List.getElem?_eq_none (by simp; omega), List.getElem?_eq_none (by omega)]
theorem Xmg {len sz : Nat} {i : Int} {k : IntKind} {α : Type} {l : List α} {c : α → List Value} {a : α} {cs : List Value} (hu : P.underlying t = some (.array len e)) (hs : Siz P e sz) (ha : Agg P e sz) (hx : ev L x = some (.agg cs.toArray)) (hcs : cs = (l.map c).flatten) (hl : l.length = len) (hw : Ws sz (l.map c)) (hy : ev L y = some (.int k i)) (hg : Qi2 l i = some a) :
    VV P L ⟨dst, .index t x y, ty, pos, af, gu⟩ w (.agg (c a).toArray) := fun ρ hρ => by
  have h0 := Qny hg
  have h1 := Qqw hg
  have h1' : i < (len : Int) := by omega
  have hp : (part e cs.toArray (i.toNat * sz)).run P w = .ok (.agg (c a).toArray) w := Qhn ha (by rw [hcs]; simpa using Xm6 hw (Xbh (Qmq hg)))
  refine Qoh ?_
  rw [hρ _ _ hx, hρ _ _ hy]
  simp [Instr.index, run_underlying hu, asIntOf, h0, h1', hs w, hp]
theorem Xfr {len b' off sz off' : Nat} {i : Int} {k : IntKind} {α : Type} {l : List α} {a : α} (hu : P.underlying t = some (.array len e)) (hs : Siz P e sz) (hx : ev L x = some (.pointer (some ⟨b', off, none⟩))) (hy : ev L y = some (.int k i)) (hg : Qi2 l i = some a) (hl : l.length = len) (ho : off' = off + i.toNat * sz := by rfl) :
    VV P L ⟨dst, .indexAddr t x y, ty, pos, af, gu⟩ w (.pointer (some ⟨b', off', none⟩)) := by
  subst ho; exact Qf9 hu hs hx hy (Qny hg) (by have := Qqw hg; omega)
theorem Qsb {len b' off sz : Nat} {i : Int} {k : IntKind} (hu : P.underlying t = some (.array len e)) (hs : Siz P e sz) (hx : ev L x = some (.pointer (some ⟨b', off, none⟩))) (hy : ev L y = some (.int k i)) (h0 : 0 ≤ i ∧ i < len) :
    VV P L ⟨dst, .indexAddr t x y, ty, pos, af, gu⟩ w (.pointer (some ⟨b', off + i.toNat * sz, none⟩)) := Qf9 hu hs hx hy h0.1 h0.2
theorem Xhb {b' o p q m sz : Nat} {tb : TypeId} {α : Type} {l l' : List α} {c : α → List Value} {a a' : α} {i : Int} {v : Value} {cs cs' vs : List Value} (hs : Siz P t m) (hx : ev L x = some (.pointer (some ⟨b', p, none⟩))) (hy : ev L y = some v) (hc : v.cells = vs.toArray) (hm : vs.length = m) (h1 : Qjr vs = true)
    (hb : Bx w b' tb cs) (hw : Ws sz (l.map c)) (ha : cs = cs.take o ++ ((l.map c).flatten ++ cs.drop (o + l.length * sz))) (hol : Nat.ble (o + l.length * sz) cs.length = true) (hg : Qi2 l i = some a) (hp : p = o + (i.toNat * sz + q)) (hq : Nat.ble (q + m) sz = true) (he : spl (c a) q vs = c a') (hset : l.set i.toNat a' = l') (he' : cs.take o ++ ((l'.map c).flatten ++ cs.drop (o + l.length * sz)) = cs') :
    EV P L ⟨dst, .store t x y, ty, pos, af, gu⟩ w fun _ w' => Bx w' b' tb cs' ∧ Md b' w w' := by
  have hq' := Nat.le_of_ble_eq_true hq
  have hol' := Nat.le_of_ble_eq_true hol
  have hi := Qmq hg
  have hil := (List.getElem?_eq_some_iff.1 hi).1
  have hfl : (l.map c).flatten.length = l.length * sz := by rw [hw.flat, List.length_map]
  have hin : i.toNat * sz + sz ≤ l.length * sz := by rw [← Nat.succ_mul]; exact Nat.mul_le_mul_right _ hil
  refine Qkp (off := p) hs hx hy hc hm h1 hb (Nat.ble_eq_true_of_le (by omega)) ?_
  rw [← he', ← hset, List.map_set, ← he, Quq _ _ _ _ _ hw (Xbh hi) (by omega)]
  have e1 : (cs.take o).length = o := by rw [List.length_take]; omega
  generalize hF : (l.map c).flatten = F at *
  generalize hT : cs.drop (o + l.length * sz) = T at *
  generalize hH : cs.take o = H at *
  rw [ha]
  unfold spl
  rw [hp, show o + (i.toNat * sz + q) = H.length + (i.toNat * sz + q) from by rw [e1], List.take_length_add_append, List.take_append_of_le_length (by omega), Nat.add_assoc H.length, List.drop_length_add_append, List.drop_append_of_le_length (by omega)]
  simp only [List.append_assoc]
theorem Xol {α : Type} {a b y y' : α} {i : Int} (h : Qi2 [a, b] i = some y) : [a, b].set i.toNat y' = [if i = 0 then y' else a, if i = 0 then b else y'] := by
  have h0 := Qny h
  have h1 := Qqw h
  simp at h1
  by_cases hi : i = 0
  · subst hi; rfl
  · have : i = 1 := by omega
    subst this; rfl
end
end Go.Sx

end
section
set_option linter.unusedVariables false
set_option linter.unusedSimpArgs false
namespace Go.Sx
open Go Go.RowKit
structure Rp (α : Type) where
  γ : Type
  sz : Nat
  c : α × γ → List Value
  S : World → List Nat → α × γ → Prop
  ws : ∀ {w F p}, S w F p → (c p).length = sz ∧ Qjr (c p) = true
  keep : ∀ {w w' F p}, S w F p → w.heap.size ≤ w'.heap.size → (∀ b ∈ F, b < w.heap.size → w'.heap[b]? = w.heap[b]?) → S w' F p
  mono : ∀ {w F F' p}, S w F p → (∀ b ∈ F, b ∈ F') → S w F' p
def Qtm {α : Type} (R : Rp α) (w : World) (z g : Nat) (e : TypeId) (v : Value) (F : List Nat) (l : List α) : Prop :=
  ∃ lg : List (α × R.γ), lg.map Prod.fst = l ∧ Own w z g e R.sz v (lg.map R.c) ∧ (∀ p ∈ lg, R.S w F p) ∧ (∀ b ∈ F, b < w.heap.size) ∧ (z = 0 ∨ ∀ b ∈ F, b ≠ g)
def RdD {α : Type} (R : Rp α) (w : World) (z g o : Nat) (v : Value) (F : List Nat) (l : List α) : Prop :=
  ∃ lg : List (α × R.γ), lg.map Prod.fst = l ∧ Rd w z g o R.sz v (lg.map R.c) ∧ (∀ p ∈ lg, R.S w F p) ∧ (∀ b ∈ F, b < w.heap.size)
section
variable {α : Type} {R : Rp α} {w w' w₁ : World} {z g o b z' g' : Nat} {e : TypeId} {v : Value} {F F' : List Nat} {l : List α} {lz : List (Nat × Nat)} {ms : List Nat}
theorem Qtm.rd (h : Qtm R w z g e v F l) : RdD R w z g 0 v F l := by
  obtain ⟨lg, h1, h2, h3, h4, h5⟩ := h; exact ⟨lg, h1, h2.rd, h3, h4⟩
theorem Qtm.keep (h : Qtm R w z g e v F l) (hs : w.heap.size ≤ w'.heap.size) (hg : z = 0 ∨ (g < w.heap.size → w'.heap[g]? = w.heap[g]?)) (hF : ∀ b ∈ F, b < w.heap.size → w'.heap[b]? = w.heap[b]?) : Qtm R w' z g e v F l := by
  obtain ⟨lg, h1, h2, h3, h4, h5⟩ := h
  exact ⟨lg, h1, h2.keep hg, fun p hp => R.keep (h3 p hp) hs hF, fun b hb => Nat.lt_of_lt_of_le (h4 b hb) hs, h5⟩
theorem RdD.keep (h : RdD R w z g o v F l) (hs : w.heap.size ≤ w'.heap.size) (hg : z = 0 ∨ (g < w.heap.size → w'.heap[g]? = w.heap[g]?)) (hF : ∀ b ∈ F, b < w.heap.size → w'.heap[b]? = w.heap[b]?) : RdD R w' z g o v F l := by
  obtain ⟨lg, h1, h2, h3, h4⟩ := h
  exact ⟨lg, h1, h2.keep hg hs, fun p hp => R.keep (h3 p hp) hs hF, fun b hb => Nat.lt_of_lt_of_le (h4 b hb) hs⟩
theorem Qtm.gr (h : Qtm R w z g e v F l) (k : Gr w w') : Qtm R w' z g e v F l := h.keep k.size (.inr fun hl => k.block g hl) (fun b _ hl => k.block b hl)
theorem RdD.gr (h : RdD R w z g o v F l) (k : Gr w w') : RdD R w' z g o v F l := h.keep k.size (.inr fun hl => k.block g hl) (fun b _ hl => k.block b hl)
theorem Qtm.md (h : Qtm R w z g e v F l) (k : Md b w w') (hn : z = 0 ∨ g ≠ b) (hF : ∀ x ∈ F, 1 = 0 ∨ x ≠ b) : Qtm R w' z g e v F l := h.keep (Nat.le_of_eq k.size.symm) (hn.imp id fun hn _ => k.block g hn) (fun x hx _ => k.block x ((hF x hx).resolve_left (by decide)))
theorem RdD.md (h : RdD R w z g o v F l) (k : Md b w w') (hn : z = 0 ∨ g ≠ b) (hF : ∀ x ∈ F, 1 = 0 ∨ x ≠ b) : RdD R w' z g o v F l := h.keep (Nat.le_of_eq k.size.symm) (hn.imp id fun hn _ => k.block g hn) (fun x hx _ => k.block x ((hF x hx).resolve_left (by decide)))
theorem Qtm.ka (h : Qtm R w z g e v F l) (k : Ka z' g' w w') (hn : z = 0 ∨ z' = 0 ∨ g ≠ g') (hF : ∀ x ∈ F, z' = 0 ∨ x ≠ g') : Qtm R w' z g e v F l := h.keep k.size (hn.imp id fun hn hl => k.block g hl hn) (fun x hx hl => k.block x hl (hF x hx))
theorem RdD.ka (h : RdD R w z g o v F l) (k : Ka z' g' w w') (hn : z = 0 ∨ z' = 0 ∨ g ≠ g') (hF : ∀ x ∈ F, z' = 0 ∨ x ≠ g') : RdD R w' z g o v F l := h.keep k.size (hn.imp id fun hn hl => k.block g hl hn) (fun x hx hl => k.block x hl (hF x hx))
theorem Qtm.kz (h : Qtm R w z g e v F l) (k : Kz lz w w') (hn : z = 0 ∨ Nin lz g) (hF : ∀ x ∈ F, Nin lz x) : Qtm R w' z g e v F l := h.keep k.size (hn.imp id fun hn hl => k.block g hl hn) (fun x hx hl => k.block x hl (hF x hx))
theorem RdD.kz (h : RdD R w z g o v F l) (k : Kz lz w w') (hn : z = 0 ∨ Nin lz g) (hF : ∀ x ∈ F, Nin lz x) : RdD R w' z g o v F l := h.keep k.size (hn.imp id fun hn hl => k.block g hl hn) (fun x hx hl => k.block x hl (hF x hx))
theorem Qtm.lth (h : Qtm R w z g e v F l) : Hdn (z = 0 ∨ (z = 1 ∧ g < w.heap.size)) := by obtain ⟨lg, h1, h2, _⟩ := h; exact h2.lth
theorem RdD.lth (h : RdD R w z g o v F l) : Hdn (z = 0 ∨ (z = 1 ∧ g < w.heap.size)) := by obtain ⟨lg, h1, h2, _⟩ := h; exact h2.lth
theorem Qtm.oneB (h : Qtm R w z g e v F l) : Sx.oneB v = true := by obtain ⟨lg, h1, h2, _⟩ := h; exact h2.oneB
theorem RdD.oneB (h : RdD R w z g o v F l) : Sx.oneB v = true := by obtain ⟨lg, h1, h2, _⟩ := h; exact h2.oneB
theorem Qtm.z1 {i : Int} {a : α} (h : Qtm R w z g e v F l) (hg : Qi2 l i = some a) : z = 1 := by
  obtain ⟨lg, h1, h2, _⟩ := h
  rcases h2.2 with ⟨_, _, h0⟩ | ⟨h0, _⟩
  · have := Qmq hg
    rw [← h1, List.map_eq_nil_iff.1 h0] at this; simp at this
  · exact h0
theorem Xib {β : Type} {lg : List (α × β)} {i : Int} {a : α} (h : lg.map Prod.fst = l) (hg : Qi2 l i = some a) : ∃ x, Qi2 lg i = some (a, x) := by
  have h0 := Qny hg
  have h1 := Qmq hg
  rw [← h, List.getElem?_map] at h1
  cases hx : lg[i.toNat]? with
  | none => rw [hx] at h1; cases h1
  | some p =>
    rw [hx] at h1
    have : p.1 = a := Option.some.inj h1
    exact ⟨p.2, by unfold Qi2; rw [if_pos h0, hx, ← this]⟩
theorem RdD.at {i : Int} {a : α} (h : RdD R w z g o v F l) (hg : Qi2 l i = some a) : ∃ (lg : List (α × R.γ)) (x : R.γ), Rd w z g o R.sz v (lg.map R.c) ∧ Qi2 lg i = some (a, x) ∧ R.S w F (a, x) := by
  obtain ⟨lg, h1, h2, h3, h4⟩ := h
  obtain ⟨x, hx⟩ := Xib h1 hg
  exact ⟨lg, x, h2, hx, h3 _ (List.mem_of_getElem? (Qmq hx))⟩
variable {P : Program} {L : Slots} {dst : Option Nat} {ty : TypeId} {pos : String} {af : Array Edge} {gu : Option (Nat × Bool)} {x y : Operand} {t : TypeId}
end
section
variable {α : Type} {R : Rp α} {w : World} {F F' : List Nat} {l : List α} {v : Value}
end
section
variable {α β : Type} {w : World} {z g o k sz : Nat} {F : List Nat} {v : Value} {i : Int}
variable {R : Rp α} {l : List α} {a : α} {P : Program} {L : Slots} {dst : Option Nat} {ty : TypeId} {pos : String} {af : Array Edge} {gu : Option (Nat × Bool)} {x y : Operand} {t e : TypeId}
end
section
variable {A : Nat → Prop} {F F2 F3 : List Nat} {z g n n2 x : Nat}
end
end Go.Sx

end
section
set_option linter.unusedVariables false
set_option linter.unusedSimpArgs false
namespace Go.Sx
open Go Go.RowKit
def sqp (b : Bool) (n : Nat) (ops : Array Oper) (L : Slots) (i : Nat) : Option Oper :=
  match ops[i]? with
  | some o => match gd ops L o with
    | some g => bif (g == b) && inN n o.dst then some o else none
    | none => none
  | none => none
theorem Qf4 {b : Bool} {n : Nat} {ops : Array Oper} {L : Slots} {i : Nat} {o : Oper} (h : sqp b n ops L i = some o) : ops[i]? = some o ∧ gd ops L o = some b ∧ inN n o.dst = true := by
  unfold sqp at h
  split at h
  · rename_i o' ho
    split at h
    · rename_i g hg
      cases hc : (g == b) && inN n o'.dst with
      | false => rw [hc] at h; cases h
      | true =>
        rw [hc] at h; cases h
        rw [Bool.and_eq_true] at hc
        exact ⟨ho, by rw [hg, beq_iff_eq.1 hc.1], hc.2⟩
    · cases h
  · cases h
def od : Nat → Nat → List (Nat × Nat)
  | 0, _ => []
  | n + 1, i => (i, 0) :: od n (i + 1)
theorem Xg7 : ∀ n i, (od n i).map (·.1) = List.range' i n
  | 0, _ => rfl
  | n + 1, i => by rw [od, List.map_cons, Xg7 n (i + 1)]; rfl
theorem Xfu : ∀ n i, ((od n i).all fun x => (lvl x.2).isNone) = true
  | 0, _ => rfl
  | n + 1, i => by rw [od, List.all_cons, Xfu n (i + 1)]; rfl
section
variable {P : Program} {r : Option Nat} {n : Nat} {Q : Exit → List Deferred → Slots → World → Prop} {D : List Deferred} {L : Slots} {w : World}
theorem qr {id : Nat} {ops : Array Oper} (k : Nat) (hk : ops.size = k) (hnd : Qcv ops = true) (h : SD P n ops (fun L w => Q .normal D L w) (fun _ _ => True) (fun _ _ => false) (od k 0) L w) : SW P r n (.region id ops false) Q D L w :=
  Qar (od k 0) hnd (Xfu k 0) (by rw [Xg7, hk, List.range_eq_range']) h
theorem qsr {id : Nat} {ops : Array Oper} {y : Code} (k : Nat) (hk : ops.size = k) (hnd : Qcv ops = true) (h : SD P n ops (fun L w => Qoe (fun D L w => SW P r n y Q D L w) Q .normal D L w) (fun _ _ => True) (fun _ _ => false) (od k 0) L w) : SW P r n (.seq (.region id ops false) y) Q D L w :=
  Qa3 (qr k hk hnd h)
theorem cnF {c : Operand} {x y : Code} {t : Bool} (hc : ev L c = some (.bool t)) (hf : t = false → SW P r n y Q D L w) (ht : t = true → SW P r n x Q D L w) : SW P r n (.cond c x y) Q D L w := Qal hc ht hf
theorem qj {x y : Code} {β : Type} (dead : List Nat) (dyn : β → Slots) (J : β → World → Prop) (h : SW P r n x (Qoe (fun D1 L1 w1 => D1 = D ∧ ∃ b, Qxf (dyn b ++ drp dead L) L1 ∧ J b w1) Q) D L w) (hk : ∀ b w1, J b w1 → SW P r n y Q D (dyn b ++ drp dead L) w1) : SW P r n (.seq x y) Q D L w := Xfm dead dyn J hk h
end
theorem sbq {A B : Slots} (h : Qxf A B := by repeat' first | exact trivial | refine ⟨rfl, ?_⟩) : Qxf A B := h
section
variable {P : Program} {n : Nat} {ops : Array Oper} {Q : Slots → World → Prop} {rest : List (Nat × Nat)} {i : Nat} {dst : Option Nat} {op : Op} {ty : TypeId} {pos : String} {af : Array Edge} {gu : Option (Nat × Bool)} {L : Slots} {w : World}
theorem qv {v : Value} (hi : sqp true n ops L i = some ⟨dst, op, ty, pos, af, gu⟩) (hv : VV P L ⟨dst, op, ty, pos, af, gu⟩ w v) (h : SD P n ops Q (fun _ _ => True) (fun _ _ => false) rest (Qm1 dst v L) w) : SD P n ops Q (fun _ _ => True) (fun _ _ => false) ((i, 0) :: rest) L w :=
  Qav (Qf4 hi).1 (Qf4 hi).2.1 (Qf4 hi).2.2 hv h
theorem qe {R : Value → World → Prop} (hi : sqp true n ops L i = some ⟨dst, op, ty, pos, af, gu⟩) (hv : EV P L ⟨dst, op, ty, pos, af, gu⟩ w R) (h : ∀ v w', R v w' → SD P n ops Q (fun _ _ => True) (fun _ _ => false) rest (Qm1 dst v L) w') : SD P n ops Q (fun _ _ => True) (fun _ _ => false) ((i, 0) :: rest) L w :=
  Qdx (Qf4 hi).1 (Qf4 hi).2.1 (Qf4 hi).2.2 hv h
theorem qk (hi : sqp false n ops L i = some ⟨dst, op, ty, pos, af, gu⟩) (h : SD P n ops Q (fun _ _ => True) (fun _ _ => false) rest (Qm1 dst undef L) w) : SD P n ops Q (fun _ _ => True) (fun _ _ => false) ((i, 0) :: rest) L w :=
  Xit (Qf4 hi).1 (Qf4 hi).2.1 (Qf4 hi).2.2 h
theorem qp {t : Bool} (hi : sqp true n ops L i = some ⟨dst, op, ty, pos, af, gu⟩) (hv : VV P L ⟨dst, op, ty, pos, af, gu⟩ w (.bool t)) (ht : t = true → SD P n ops Q (fun _ _ => True) (fun _ _ => false) rest (Qm1 dst (.bool true) L) w) (hf : t = false → SD P n ops Q (fun _ _ => True) (fun _ _ => false) rest (Qm1 dst (.bool false) L) w) : SD P n ops Q (fun _ _ => True) (fun _ _ => false) ((i, 0) :: rest) L w :=
  Xef (Qf4 hi).1 (Qf4 hi).2.1 (Qf4 hi).2.2 hv ht hf
theorem qpF {t : Bool} (hi : sqp true n ops L i = some ⟨dst, op, ty, pos, af, gu⟩) (hv : VV P L ⟨dst, op, ty, pos, af, gu⟩ w (.bool t)) (hf : t = false → SD P n ops Q (fun _ _ => True) (fun _ _ => false) rest (Qm1 dst (.bool false) L) w) (ht : t = true → SD P n ops Q (fun _ _ => True) (fun _ _ => false) rest (Qm1 dst (.bool true) L) w) : SD P n ops Q (fun _ _ => True) (fun _ _ => false) ((i, 0) :: rest) L w := qp hi hv ht hf
theorem qt {R : Value → Nat → Prop} (hi : sqp true n ops L i = some ⟨dst, op, ty, pos, af, gu⟩) (hv : ∃ v o, (∀ w1, VV P L ⟨dst, op, ty, pos, af, gu⟩ w1 v) ∧ R v o) (h : ∀ v o, R v o → SD P n ops Q (fun _ _ => True) (fun _ _ => false) rest (Qm1 dst v L) w) : SD P n ops Q (fun _ _ => True) (fun _ _ => false) ((i, 0) :: rest) L w := by
  obtain ⟨v, o, h1, h2⟩ := hv
  exact qv hi (h1 w) (h v o h2)
variable {w₀ : World} {mss : List (List Nat)} {ms : List Nat} {kp : Nat → Nat → Bool}
theorem qh {v : Value} (k : Nat) (hi : sqp true n ops L i = some ⟨dst, op, ty, pos, af, gu⟩) (hm : mss[k]? = some ms) (hS : Kp ms w₀ w) (hv : ∀ w, Kp ms w₀ w → VV P L ⟨dst, op, ty, pos, af, gu⟩ w v) (h : SD P n ops Q (Qni mss w₀) kp rest (Qm1 dst v L) w) : SD P n ops Q (Qni mss w₀) kp ((i, k + 10) :: rest) L w :=
  Xfl k (Qf4 hi).1 (Qf4 hi).2.1 (Qf4 hi).2.2 hm hS hv h
theorem qx (k : Nat) (hi : sqp false n ops L i = some ⟨dst, op, ty, pos, af, gu⟩) (hm : mss[k]? = some ms) (hS : Kp ms w₀ w) (h : SD P n ops Q (Qni mss w₀) kp rest (Qm1 dst undef L) w) : SD P n ops Q (Qni mss w₀) kp ((i, k + 10) :: rest) L w :=
  Xmr k (Qf4 hi).1 (Qf4 hi).2.1 (Qf4 hi).2.2 hm hS h
theorem qq {t : Bool} (k : Nat) (hi : sqp true n ops L i = some ⟨dst, op, ty, pos, af, gu⟩) (hm : mss[k]? = some ms) (hS : Kp ms w₀ w) (hv : ∀ w, Kp ms w₀ w → VV P L ⟨dst, op, ty, pos, af, gu⟩ w (.bool t)) (ht : t = true → SD P n ops Q (Qni mss w₀) kp rest (Qm1 dst (.bool true) L) w) (hf : t = false → SD P n ops Q (Qni mss w₀) kp rest (Qm1 dst (.bool false) L) w) : SD P n ops Q (Qni mss w₀) kp ((i, k + 10) :: rest) L w :=
  Xn5 k (Qf4 hi).1 (Qf4 hi).2.1 (Qf4 hi).2.2 hm hS hv ht hf
theorem qqF {t : Bool} (k : Nat) (hi : sqp true n ops L i = some ⟨dst, op, ty, pos, af, gu⟩) (hm : mss[k]? = some ms) (hS : Kp ms w₀ w) (hv : ∀ w, Kp ms w₀ w → VV P L ⟨dst, op, ty, pos, af, gu⟩ w (.bool t)) (hf : t = false → SD P n ops Q (Qni mss w₀) kp rest (Qm1 dst (.bool false) L) w) (ht : t = true → SD P n ops Q (Qni mss w₀) kp rest (Qm1 dst (.bool true) L) w) : SD P n ops Q (Qni mss w₀) kp ((i, k + 10) :: rest) L w := qq k hi hm hS hv ht hf
theorem qz {R : Value → World → Prop} (l : List (Nat × Nat)) (hi : sqp true n ops L i = some ⟨dst, op, ty, pos, af, gu⟩) (hv : EV P L ⟨dst, op, ty, pos, af, gu⟩ w R) (hb : Xjb (fun k ms => kp k i = true → InA l (ms.map fun b => (1, b)) w₀.heap.size) 0 mss) (h : ∀ v w', R v w' → Kz l w w' ∧ SD P n ops Q (Qni mss w₀) kp rest (Qm1 dst v L) w') : SD P n ops Q (Qni mss w₀) kp ((i, 0) :: rest) L w :=
  Xog l (Qf4 hi).1 (Qf4 hi).2.1 (Qf4 hi).2.2 hv hb h
theorem qw {v : Value} (hi : sqp true n ops L i = some ⟨dst, op, ty, pos, af, gu⟩) (hv : VV P L ⟨dst, op, ty, pos, af, gu⟩ w v) (h : SD P n ops Q (Qni mss w₀) kp rest (Qm1 dst v L) w) : SD P n ops Q (Qni mss w₀) kp ((i, 0) :: rest) L w :=
  Xn6 (Qf4 hi).1 (Qf4 hi).2.1 (Qf4 hi).2.2 hv h
theorem qy (hi : sqp false n ops L i = some ⟨dst, op, ty, pos, af, gu⟩) (h : SD P n ops Q (Qni mss w₀) kp rest (Qm1 dst undef L) w) : SD P n ops Q (Qni mss w₀) kp ((i, 0) :: rest) L w :=
  Xmp (Qf4 hi).1 (Qf4 hi).2.1 (Qf4 hi).2.2 h
end
theorem iT {p : Prop} [Decidable p] {α : Type} {a b : Option α} {r : α} (h : decide p = true) (hm : (if p then a else b) = some r) : a = some r := Qv0 (of_decide_eq_true h) hm
theorem iF {p : Prop} [Decidable p] {α : Type} {a b : Option α} {r : α} (h : decide p = false) (hm : (if p then a else b) = some r) : b = some r := Qvq (of_decide_eq_false h) hm
def Xnq : List Value → Nat → Option Value
  | [], _ => none
  | v :: _, 0 => some v
  | _ :: r, k + 1 => Xnq r k
theorem Xbk : ∀ {l : List Value} {k : Nat} {v : Value}, Xnq l k = some v → l[k]? = some v
  | [], _, _, h => by cases h
  | a :: r, 0, v, h => h
  | a :: r, k + 1, v, h => by rw [List.getElem?_cons_succ]; exact Xbk h
def Xfb (L : Slots) : Op → Option Value
  | .move x => ev L x
  | .assign x => ev L x
  | .extract x q => match ev L x with
    | some (.tuple vs) => Xnq vs.toList q
    | _ => none
  | .pick c a b => match ev L c with
    | some (.bool t) => bif t then ev L a else ev L b
    | _ => none
  | _ => none
theorem Qyt {P : Program} {L : Slots} {dst : Option Nat} {op : Op} {ty : TypeId} {pos : String} {af : Array Edge} {gu : Option (Nat × Bool)} {v : Value} (h : Xfb L op = some v) (w : World) : VV P L ⟨dst, op, ty, pos, af, gu⟩ w v := by
  unfold Xfb at h
  split at h
  · exact Qad h
  · exact Qbh h
  · split at h
    · rename_i x q _ vs hx
      exact Xa6 (vs := vs.toList) (by rw [hx]) (Xbk h)
    · cases h
  · split at h
    · rename_i c a b _ t hc
      cases t with
      | true => exact Xf0 hc h
      | false => exact Xei hc h
    · cases h
  · cases h
def sqm (n : Nat) (ops : Array Oper) (L : Slots) (i : Nat) : Option (Option Nat × Value) :=
  match ops[i]? with
  | some o => match gd ops L o with
    | some true => match Xfb L o.op with
      | some v => bif inN n o.dst then some (o.dst, v) else none
      | none => none
    | _ => none
  | none => none
theorem Xh3 {n : Nat} {ops : Array Oper} {L : Slots} {i : Nat} {dst : Option Nat} {v : Value} (h : sqm n ops L i = some (dst, v)) : ∃ op ty pos af gu, ops[i]? = some ⟨dst, op, ty, pos, af, gu⟩ ∧ gd ops L ⟨dst, op, ty, pos, af, gu⟩ = some true ∧ inN n dst = true ∧ Xfb L op = some v := by
  unfold sqm at h
  split at h
  · rename_i o ho
    split at h
    · rename_i hg
      split at h
      · rename_i v' hv
        cases hc : inN n o.dst with
        | false => rw [hc] at h; cases h
        | true =>
          rw [hc] at h; cases h
          exact ⟨_, _, _, _, _, ho, hg, hc, hv⟩
      · cases h
    · cases h
  · cases h
def rgn (ops : Array Oper) (k : Nat) : Bool := Nat.beq ops.size k && Qcv ops
theorem Quj {ops : Array Oper} {k : Nat} (h : rgn ops k = true) : ops.size = k ∧ Qcv ops = true := by
  unfold rgn at h; rw [Bool.and_eq_true] at h; exact ⟨Nat.eq_of_beq_eq_true h.1, h.2⟩
section
variable {P : Program} {r : Option Nat} {n : Nat} {Q : Exit → List Deferred → Slots → World → Prop} {K : List Deferred → Slots → World → Prop} {D : List Deferred} {L : Slots} {w : World} {S : Nat → World → Prop} {kp : Nat → Nat → Bool}
theorem qd {id : Nat} {ops ops' : Array Oper} {y : Code} (k : Nat) (hk : rgn ops k = true) (h : SD P n ops (fun L w => Qoe (fun D L w => SW P r n y Q D L w) Q .normal D L w) (fun _ _ => True) (fun _ _ => false) (od k 0) L w) :
    SD P n ops' (fun L w => Qoe (fun D L w => SW P r n (.seq (.region id ops false) y) Q D L w) Q .normal D L w) S kp [] L w := Qa1 (qsr k (Quj hk).1 (Quj hk).2 h)
theorem qs {id : Nat} {ops : Array Oper} {y : Code} (k : Nat) (hk : rgn ops k = true) (h : SD P n ops (fun L w => Qoe (fun D L w => SW P r n y Q D L w) Q .normal D L w) (fun _ _ => True) (fun _ _ => false) (od k 0) L w) : SW P r n (.seq (.region id ops false) y) Q D L w :=
  qsr k (Quj hk).1 (Quj hk).2 h
theorem qg {id : Nat} {ops : Array Oper} (k : Nat) (hk : rgn ops k = true) (h : SD P n ops (fun L w => Q .normal D L w) (fun _ _ => True) (fun _ _ => false) (od k 0) L w) : SW P r n (.region id ops false) Q D L w :=
  qr k (Quj hk).1 (Quj hk).2 h
theorem qb {ops : Array Oper} {K : List Deferred → Slots → World → Prop} (h : Q .ret D L w) : SD P n ops (fun L w => Qoe (fun D L w => SW P r n .ret (Qoe K Q) D L w) (Qoe K Q) .normal D L w) S kp [] L w := Qa1 (Qaf (Qb2 h))
theorem qu {y : Code} (h : SW P r n y Q D L w) : SW P r n .skip (Qoe (fun D L w => SW P r n y Q D L w) Q) D L w := Qc5 (Qaz h)
end
section
variable {P : Program} {n : Nat} {ops : Array Oper} {Q : Slots → World → Prop} {rest : List (Nat × Nat)} {i : Nat} {dst : Option Nat} {op : Op} {ty : TypeId} {pos : String} {af : Array Edge} {gu : Option (Nat × Bool)} {L : Slots} {w w₀ : World} {v : Value} {mss : List (List Nat)} {ms : List Nat} {kp : Nat → Nat → Bool}
theorem qm (h0 : sqm n ops L i = some (dst, v)) (h : SD P n ops Q (fun _ _ => True) (fun _ _ => false) rest (Qm1 dst v L) w) : SD P n ops Q (fun _ _ => True) (fun _ _ => false) ((i, 0) :: rest) L w := by
  obtain ⟨op, ty, pos, af, gu, h1, h2, h3, h4⟩ := Xh3 h0
  exact Qav h1 h2 h3 (Qyt h4 w) h
theorem dn (k : Nat) (h0 : sqm n ops L i = some (dst, v)) (hm : mss[k]? = some ms) (hS : Kp ms w₀ w) (h : SD P n ops Q (Qni mss w₀) kp rest (Qm1 dst v L) w) : SD P n ops Q (Qni mss w₀) kp ((i, k + 10) :: rest) L w := by
  obtain ⟨op, ty, pos, af, gu, h1, h2, h3, h4⟩ := Xh3 h0
  exact Xfl k h1 h2 h3 hm hS (fun w _ => Qyt h4 w) h
theorem dm (k : Nat) (h0 : sqm n ops L i = some (dst, v)) (hm : mss[k]? = some ms) (h : SD P n ops Q (Qni mss w₀) kp rest (Qm1 dst v L) w₀) : SD P n ops Q (Qni mss w₀) kp ((i, k + 10) :: rest) L w₀ := dn k h0 hm (Kp.refl _ _) h
theorem dh {v : Value} (k : Nat) (hi : sqp true n ops L i = some ⟨dst, op, ty, pos, af, gu⟩) (hm : mss[k]? = some ms) (hv : ∀ w, Kp ms w₀ w → VV P L ⟨dst, op, ty, pos, af, gu⟩ w v) (h : SD P n ops Q (Qni mss w₀) kp rest (Qm1 dst v L) w₀) : SD P n ops Q (Qni mss w₀) kp ((i, k + 10) :: rest) L w₀ :=
  qh k hi hm (Kp.refl _ _) hv h
theorem dx (k : Nat) (hi : sqp false n ops L i = some ⟨dst, op, ty, pos, af, gu⟩) (hm : mss[k]? = some ms) (h : SD P n ops Q (Qni mss w₀) kp rest (Qm1 dst undef L) w₀) : SD P n ops Q (Qni mss w₀) kp ((i, k + 10) :: rest) L w₀ :=
  qx k hi hm (Kp.refl _ _) h
end
section
variable {P : Program} {L : Slots} {w : World} {dst : Option Nat} {ty : TypeId} {pos : String} {af : Array Edge} {gu : Option (Nat × Bool)} {x y : Operand} {t : TypeId}
theorem Qah {b' m : Nat} {tb : TypeId} {cs vs : List Value} (hs : Agg P t m) (hx : ev L x = some (.pointer (some ⟨b', 0, none⟩))) (hy : ev L y = some (.agg vs.toArray)) (h1 : Qjr vs = true) (hb : Bx w b' tb cs) (hm : vs.length = m) (hl : cs.length = m) :
    EV P L ⟨dst, .store t x y, ty, pos, af, gu⟩ w fun _ w' => Bx w' b' tb vs ∧ Md b' w w' :=
  Qkp hs.siz hx hy rfl hm h1 hb (by rw [hl, Nat.zero_add]; exact Nat.ble_eq_true_of_le (Nat.le_refl _)) (by unfold spl; rw [List.take_zero, List.nil_append, Nat.zero_add, List.drop_eq_nil_of_le (by omega), List.append_nil])
end
theorem kz0 {w : World} : Kz [] w w := Kz.refl _ _
section
variable {b z g z' g' s z1 g1 z2 g2 z3 g3 : Nat}
theorem Qtz (r : Hdn ((g' = g ∧ z = 1) ∨ s ≤ g' ∨ z' = 0)) (h : z = 0 ∨ g ≠ b) (f : s ≤ b → False := by omega) : z' = 0 ∨ g' ≠ b := Qg4 (A := (· ≠ b)) r h (fun x hx e => f (e ▸ hx))
theorem Qca (r : Hdn (z = 0 ∨ s ≤ g)) (f : s ≤ b → False := by omega) : z = 0 ∨ g ≠ b := Qbn (A := (· ≠ b)) r (fun x hx e => f (e ▸ hx))
theorem Qas (r : Hdn (z = 0 ∨ (g = g1 ∧ z1 ≠ 0) ∨ s ≤ g)) (h1 : z1 = 0 ∨ g1 ≠ b) (f : s ≤ b → False := by omega) : z = 0 ∨ g ≠ b := Qbw (A := (· ≠ b)) r h1 (fun x hx e => f (e ▸ hx))
theorem Qan (r : Hdn (z = 0 ∨ (z = 1 ∧ g < s))) (f : b < s → False := by omega) : z = 0 ∨ g ≠ b := Qki (A := (· ≠ b)) r (fun x hx e => f (e ▸ hx))
end
def rg : Nat → Nat → List Nat
  | _, 0 => []
  | a, n + 1 => a :: rg (a + 1) n
theorem kG {w w' : World} {p : Prop} (h : Gr w w') (k : p) : Kz [] w w' ∧ p := ⟨Kz.ofGr h, k⟩
theorem kM {w w' : World} {b : Nat} {p : Prop} (h : Md b w w') (k : p) : Kz [(1, b)] w w' ∧ p := ⟨Kz.ofMd h, k⟩
theorem dw {P : Program} {r : Option Nat} {n : Nat} {Q : Exit → List Deferred → Slots → World → Prop} {D : List Deferred} {L : Slots} {w : World} {id : Nat} {ops : Array Oper} (mss : List (List Nat)) (tab : List (Nat × List Nat)) (t : Tz)
    (h : ∀ w1, RowKit.Below w.heap.size w w1 → w1.heap.size = w.heap.size → SDZ P n ops (fun L w => Q .normal D L w) (Qni mss w1) (kpN tab) t L w1) (hm : P.follows .mixedOrders = true := by kernel_rfl) (hnd : Qcv ops = true := by kernel_rfl) (hlen : t.len = ops.size := by exact rfl)
    (ho : Xlz ops (kpN tab) t (Array.replicate ops.size false) = true := by kernel_rfl) : SW P r n (.region id ops true) Q D L w := Xeo mss tab t hm hnd hlen ho h
theorem eC {P : Program} {L : Slots} {w : World} {dst : Option Nat} {ty : TypeId} {pos : String} {af : Array Edge} {gu : Option (Nat × Bool)} {f : Nat} {aas : Array Operand} {at_ : Array TypeId} {vs : List Value} {R : Value → World → Prop} (hen : En P f) (hargs : evs L aas.toList = some vs)
    (hc : Calls P f vs.toArray w fun e w' => ∃ v, e = .returned v ∧ R v w') : EV P L ⟨dst, .call { callee := .value (.func f), args := aas, argTypes := at_ }, ty, pos, af, gu⟩ w R := Qgh hen hargs hc
theorem Xjq {w : World} {g k : Nat} {cur : Array Value} {e : TypeId} {fr : Nat × Nat} (h : w.heap[g]? = some (.cells cur e fr)) : ∃ fr', (w.freeze ⟨g, k, none⟩ 1).heap[g]? = some (.cells cur e fr') := by
  unfold World.freeze
  rw [if_neg (by decide)]
  show ∃ fr', (w.heap.modify g _)[g]? = _
  rw [Array.getElem?_modify, if_pos rfl, h]
  exact ⟨_, rfl⟩
theorem Xmo {w : World} {g k : Nat} : Ka 1 g w (w.freeze ⟨g, k, none⟩ 1) := by
  unfold World.freeze
  rw [if_neg (by decide)]
  refine ⟨rfl, rfl, rfl, ?_, ?_⟩
  · show w.heap.size ≤ (w.heap.modify g _).size
    rw [Array.size_modify]; exact Nat.le_refl _
  · intro i hi hn
    show (w.heap.modify g _)[i]? = _
    rw [Array.getElem?_modify, if_neg (by rcases hn with h | h; cases h; exact fun e => h e.symm)]
theorem Qot {P : Program} {L : Slots} {w : World} {dst : Option Nat} {ty : TypeId} {pos : String} {af : Array Edge} {gu : Option (Nat × Bool)} {x : Operand} {t e : TypeId} {v : Value} {g : Nat} {xs : List (List Value)} (ht : P.underlying t = some (.slice e)) (he : P.underlying e = some (.int .u8)) (hx : ev L x = some v) (h : Own w 1 g e 1 v xs) :
    EV P L ⟨dst, .convert t t x, ty, pos, af, gu⟩ w fun v' w' => Rd w' 1 g 0 1 v' xs ∧ Ka 1 g w w' := fun ρ hρ => by
  have hr := h.rd
  obtain ⟨hw, h0 | ⟨_, cap, cur, rfl, hrow, h1, h2, h3, h4⟩⟩ := h
  · cases h0.1
  obtain ⟨fr', hf⟩ := Xjq (k := cur.size) hrow
  refine .val (.slice (some ⟨g, 0, none⟩) xs.length cap) (w.freeze ⟨g, cur.size, none⟩ 1) ?_ ⟨?_, Xmo⟩
  · have hsh : w.shape? g = some (e, cur.size) := by unfold World.shape?; rw [hrow]
    simp [execOp, hρ _ _ hx, convert, run_underlying ht, run_underlying he, markStringish, hsh, go_sem]
  · have hc : ∀ j, (w.freeze ⟨g, cur.size, none⟩ 1).cell? ⟨g, j, none⟩ = w.cell? ⟨g, j, none⟩ := fun j => by unfold World.cell?; simp only; rw [hf, hrow]
    refine ⟨hw, .inr ⟨rfl, cap, rfl, ⟨?_, h1⟩, fun j u hj => ?_⟩⟩
    · exact (Array.getElem?_eq_some_iff.1 hf).1
    · rw [hc, Nat.zero_add, cell_of_row w g j cur e (0, 0) hrow]
      rcases hr.2 with ⟨h0, _⟩ | ⟨_, cap', hv, _, hu⟩
      · cases h0
      · have := hu j u hj
        rw [Nat.zero_add, cell_of_row w g j cur e (0, 0) hrow] at this; exact this
end Go.Sx

end
section
set_option linter.unusedVariables false
set_option linter.unusedSimpArgs false
namespace Go.Sx
open Go Go.RowKit
theorem Qew {a b : Bool} (ha : a = true) (hb : b = true) : (a && b) = true := by rw [ha, hb]; rfl
theorem Xlh {P : Program} {W : World} {r : Reach} {base : Nat} {t : TypeId} {v : Value} {k : IntKind} (hu : P.underlying t = some (.int k)) (h : Cell.okWide P W r base t v) : ∃ n, v = .int k n ∧ k.has n := by
  simp only [Cell.okWide, hu, Cell.ok] at h
  split at h <;> try (exact h.elim)
  all_goals first | (obtain ⟨rfl, h⟩ := h; rename_i e; cases e; exact ⟨_, rfl, h⟩) | simp_all
theorem Xkp {P : Program} {W : World} {r : Reach} {base : Nat} {t : TypeId} {v : Value} (hu : P.underlying t = some (.int .i64)) (h : Cell.okWide P W r base t v) : ∃ n : Int, v = .int .i64 n ∧ -9223372036854775808 ≤ n ∧ n ≤ 9223372036854775807 := by
  obtain ⟨n, h1, h2⟩ := Xlh hu h
  simp only [IntKind.has, IntKind.min, IntKind.max, IntKind.bits, IntKind.signed] at h2
  exact ⟨n, h1, by simpa using h2.1, by simpa using h2.2⟩
end Go.Sx

end
section
set_option linter.unusedVariables false
set_option linter.unusedSimpArgs false
namespace Go.Sx
open Go Go.RowKit
def I64 (n : Int) : Prop := -9223372036854775808 ≤ n ∧ n ≤ 9223372036854775807
section
variable {H : Type} {enc : TypeId × Value → H} {P : Program} {W : World} {fuel : Nat} {t e : TypeId} {cs : List Value} {x : DataW H × List MemPlace}
def Sz (P : Program) (t : TypeId) (d : DataW H) : Prop := ∀ n ∈ d.weights P t, n ≤ reachBytes
abbrev Tr (enc : TypeId × Value → H) (P : Program) (W : World) (fuel : Nat) (t : TypeId) (cs : List Value) (x : DataW H × List MemPlace) : Prop := DataW.trod enc P W 0 (fun _ => true) true fuel t cs = some x
theorem Xbt (hu : P.underlying t = some (.int .i64)) (h : Tr enc P W fuel t cs x) : ∃ n : Int, cs = [.int .i64 n] ∧ I64 n := by
  obtain ⟨n, rfl, _, hw⟩ := DataW.trod_int hu h
  simp [Lit.wf, IntKind.min, IntKind.max, IntKind.signed, IntKind.bits] at hw
  exact ⟨n, rfl, by unfold I64; omega⟩
theorem Qz6 (hu : P.underlying t = some (.int .u64)) (h : Tr enc P W fuel t cs x) : ∃ n : BitVec 64, cs = [wv n] := by
  obtain ⟨n, rfl, _, hw⟩ := DataW.trod_int hu h
  simp [Lit.wf, IntKind.min, IntKind.max, IntKind.signed, IntKind.bits] at hw
  refine ⟨wd n, ?_⟩
  show [Value.int .u64 n] = [Value.int .u64 (un (wd n))]
  rw [Xfc n (by omega) (by omega)]
theorem Xbl (hu : P.underlying t = some (.int .u8)) (h : Tr enc P W fuel t cs x) : ∃ n : BitVec 8, cs = [bv n] := by
  obtain ⟨n, rfl, _, hw⟩ := DataW.trod_int hu h
  simp [Lit.wf, IntKind.min, IntKind.max, IntKind.signed, IntKind.bits] at hw
  refine ⟨wd8 n, ?_⟩
  show [Value.int .u8 n] = [Value.int .u8 (un8 (wd8 n))]
  have : un8 (wd8 n) = n := by unfold un8 wd8; rw [BitVec.toNat_ofInt]; omega
  rw [this]
theorem Xon {cs : List Value} {i : Nat} {v : Value} (h : (cs.drop (i * 1)).take 1 = [v]) : cs[i]? = some v := by
  have : ((cs.drop (i * 1)).take 1)[0]? = some v := by rw [h]; rfl
  simpa [List.getElem?_take, List.getElem?_drop] using this
theorem Xe6 (he : P.underlying e = some (.int .u8)) (hc : P.cellsOf e = 1) {m n : Nat} {xs : List (DataW H × List MemPlace)} (hl : cs.length = n) (hx : xs.length = n)
    (h : ∀ i, i < n → DataW.trod enc P W 0 (fun _ => true) true m e ((cs.drop (i * P.cellsOf e)).take (P.cellsOf e)) = xs[i]?) : ∃ l : List (BitVec 8), l.length = n ∧ cs = (l.map bvc).flatten := by
  have key : ∀ i, i < n → ∃ b : BitVec 8, cs[i]? = some (bv b) := fun i hi => by
    have h1 := h i hi
    rw [hc] at h1
    have : ∃ y, xs[i]? = some y := ⟨xs[i], by simp [hx, hi]⟩
    obtain ⟨y, hy⟩ := this
    rw [hy] at h1
    obtain ⟨b, hb⟩ := Xbl he h1
    exact ⟨b, Xon hb⟩
  refine ⟨List.ofFn fun i : Fin n => Classical.choose (key i.1 i.2), by simp, ?_⟩
  have hf : ∀ (l : List (BitVec 8)), (l.map bvc).flatten = l.map bv := by
    intro l
    induction l with
    | nil => rfl
    | cons a l ih => simp only [List.map_cons, List.flatten_cons, ih]; rfl
  rw [hf]
  apply List.ext_getElem?
  intro i
  by_cases hi : i < n
  · rw [Classical.choose_spec (key i hi)]
    simp [hi]
  · rw [List.getElem?_eq_none (by omega), List.getElem?_eq_none (by simp; omega)]
theorem Qzk (hu : P.underlying t = some (.array 16 e)) (he : P.underlying e = some (.int .u8)) (hc : P.cellsOf e = 1) (ht : P.cellsOf t = 16) (h : Tr enc P W fuel t cs x) : ∃ p : W2, cs = kb p := by
  obtain ⟨xs, m, rfl, rfl, hl, hx, hf⟩ := DataW.trod_array hu h
  obtain ⟨l, h1, h2⟩ := Xe6 he hc (hl.trans ht) hx hf
  refine ⟨ofB l, ?_⟩
  rw [Qq6, Qs7 (by omega), List.take_of_length_le (by omega)]; exact h2
theorem Qsv {fs : Array Field} {parts : List (DataW H)} (hu : P.underlying t = some (.struct fs)) (h : Sz P t (.agg parts)) {i : Nat} {u : TypeId} {d : DataW H} (ht : (fs.toList.map (·.type))[i]? = some u) (hd : parts[i]? = some d) : Sz P u d := fun n hn =>
  h n (by simp only [DataW.weights, hu]; exact DataW.weights_mem_each ht hd n hn)
theorem fld {fs : Array Field} {n : Nat} {xs : List (DataW H × List MemPlace)} (hf : ∀ (i : Nat) (f : Field), fs[i]? = some f → DataW.trod enc P W 0 (fun _ => true) true n f.type ((cs.drop f.offset).take (P.cellsOf f.type)) = xs[i]?) {i o k : Nat} {u : TypeId} {f : Field} {y : DataW H × List MemPlace}
    (hi : fs[i]? = some f) (h1 : f.type = u) (h2 : f.offset = o) (h3 : P.cellsOf u = k) (e : xs[i]? = some y) : Tr enc P W n u ((cs.drop o).take k) y := by
  subst h1; subst h2; subst h3
  exact (hf i f hi).trans e
theorem Qf3 {cs a r : List Value} {o k : Nat} (h : (cs.drop o).take k = a) (hr : cs.drop (o + k) = r) : cs.drop o = a ++ r := by rw [← h, ← hr, ← List.drop_drop, List.take_append_drop]
theorem Qtq {cs : List Value} {n : Nat} (h : cs.length = n) : cs.drop n = [] := List.drop_eq_nil_of_le (by omega)
theorem Qgz {α : Type} {xs : List α} {n i : Nat} (h : xs.length = n) (hi : Nat.blt i n = true) : ∃ y, xs[i]? = some y := ⟨xs[i]'(by rw [h]; exact Nat.le_of_ble_eq_true hi), by simp⟩
theorem Xbw {w : World} {a : Addr} {n : Nat} {cs : List Value} (h : w.cells? 0 a n = some cs) : cs.length = n ∧ ∀ q u, cs[q]? = some u → w.cell? (a.add q) = some u := by
  unfold World.cells? at h
  rw [if_pos (Nat.zero_le _)] at h
  have hl := mapM_some_length h
  rw [List.length_range] at hl
  refine ⟨hl, fun q u hq => ?_⟩
  have hqn : q < n := by rw [← hl]; exact (List.getElem?_eq_some_iff.1 hq).1
  have := mapM_some_get h q q (by simp [hqn])
  rw [this]; exact hq
theorem Xik {r : Reach} {base : Nat} {v : Value} (hu : (∃ fs, P.underlying t = some (.struct fs)) ∨ ∃ n e, P.underlying t = some (.array n e)) (h : Value.okWide P W r base t v) : ∃ cs : List Value, v = .agg cs.toArray := by
  unfold Value.okWide at h
  split at h
  · obtain ⟨cs, rfl, _⟩ := h; exact ⟨cs.toList, rfl⟩
  · obtain ⟨cs, rfl, _⟩ := h; exact ⟨cs.toList, rfl⟩
  · rename_i h1 h2
    rcases hu with ⟨fs, hu⟩ | ⟨n, e, hu⟩
    · exact absurd hu (h1 fs)
    · exact absurd hu (h2 n e)
theorem Xf5 {r : Reach} {base : Nat} {v : Value} (h1 : ∀ fs, P.underlying t ≠ some (.struct fs)) (h2 : ∀ n e, P.underlying t ≠ some (.array n e)) (h : Value.okWide P W r base t v) : Cell.okWide P W r base t v := by
  unfold Value.okWide at h
  split at h
  · rename_i h3; exact absurd h3 (h1 _)
  · rename_i h3; exact absurd h3 (h2 _ _)
  · exact h
theorem Xhs {r : Reach} {base : Nat} {v : Value} (hu : P.underlying t = some (.int .i64)) (h : Value.okWide P W r base t v) : ∃ n : Int, v = .int .i64 n ∧ I64 n := Xkp hu (Xf5 (by simp [hu]) (by simp [hu]) h)
theorem Xbf (cs : List Value) : (Value.agg cs.toArray).cells.toList = cs := rfl
theorem Xfq (a : Option Addr) (l c : Nat) : (Value.slice a l c).cells.toList = [.slice a l c] := rfl
theorem Xew {α : Type} {c : α → List Value} {ok : α → Prop} {sz bytes : Nat} (hu : P.underlying t = some (.slice e)) (hc : P.cellsOf e = sz) (hb : P.bytesOf e = bytes) (hpos : 1 ≤ sz) (hcs : ∀ a, (c a).length = sz ∧ Qjr (c a) = true)
    (hel : ∀ (fuel : Nat) (cs : List Value) (x : DataW H × List MemPlace), Tr enc P W fuel e cs x → ∃ m : α, cs = c m ∧ ok m) (h : Tr enc P W fuel t cs x) (hw : Sz P t x.1) :
    ∃ (l : List α) (v : Value) (z g o : Nat), cs = [v] ∧ Rd W z g o sz v (l.map c) ∧ (∀ a ∈ l, ok a) ∧ l.length * bytes ≤ 140737488351232 := by
  rcases DataW.trod_slice hu h with ⟨rfl, rfl⟩ | ⟨a, len, cap, elems, rest, n, rfl, rfl, rfl, _, hlc, hcm, hel2, hget, _, _⟩
  · exact ⟨[], _, 0, 0, 0, rfl, ⟨Xcp _, .inl ⟨rfl, rfl, none, 0, rfl⟩⟩, by simp, by simp⟩
  · have key : ∀ i, i < len → ∃ m : α, W.cells? 0 (a.add (i * sz)) sz = some (c m) ∧ ok m := fun i hi => by
      have h1 := hget i hi
      rw [hc] at h1
      have hy : elems[i]? = some elems[i] := by simp
      rw [hy] at h1
      rw [Option.bind_eq_some_iff] at h1
      obtain ⟨cs', h2, h3⟩ := h1
      obtain ⟨m, rfl, hm⟩ := hel _ _ _ h3
      exact ⟨m, h2, hm⟩
    let f : Fin len → α := fun i => Classical.choose (key i.1 i.2)
    have hf : ∀ i (hi : i < len), W.cells? 0 (a.add (i * sz)) sz = some (c (f ⟨i, hi⟩)) ∧ ok (f ⟨i, hi⟩) := fun i hi => Classical.choose_spec (key i hi)
    have hws : Ws sz ((List.ofFn f).map c) := fun y hy => by
      obtain ⟨b, _, rfl⟩ := List.mem_map.1 hy; exact hcs b
    have hbd : (List.ofFn f).length * bytes ≤ 140737488351232 := by
      have := hw ((elems.length + rest.length) * P.bytesOf e) (by simp [DataW.weights, hu])
      rw [hb] at this
      have h2 : elems.length * bytes ≤ (elems.length + rest.length) * bytes := Nat.mul_le_mul_right _ (by omega)
      have h3 : reachBytes = 140737488351232 := by decide
      rw [List.length_ofFn, ← hel2]; omega
    rcases Nat.eq_zero_or_pos len with h0 | hp
    · refine ⟨List.ofFn f, _, 0, 0, 0, rfl, ⟨hws, .inl ⟨rfl, ?_, some a, cap, by rw [h0]⟩⟩, ?_, hbd⟩
      · apply List.eq_nil_of_length_eq_zero; simp [h0]
      · intro b hb'; obtain ⟨i, rfl⟩ := List.mem_ofFn.1 hb'; exact (hf i.1 i.2).2
    · have hcell : ∀ j u, ((List.ofFn f).map c).flatten[j]? = some u → W.cell? (a.add j) = some u := fun j u hj => by
        have hjl : j < len * sz := by
          have h1 := (List.getElem?_eq_some_iff.1 hj).1
          rw [hws.flat] at h1; simpa using h1
        have hq : j % sz < sz := Nat.mod_lt _ (by omega)
        have hi : j / sz < len := (Nat.div_lt_iff_lt_mul (by omega)).2 hjl
        obtain ⟨h1, _⟩ := hf (j / sz) hi
        have h2 := hws.at (j / sz) (j % sz) (c (f ⟨j / sz, hi⟩)) (by simp [hi]) hq
        have hdm : j / sz * sz + j % sz = j := by rw [Nat.mul_comm]; exact Nat.div_add_mod j sz
        rw [hdm, hj] at h2
        have h3 := (Xbw h1).2 (j % sz) u h2.symm
        rw [Addr.add_add, hdm] at h3; exact h3
      have hsp : a.spot = none := by
        have h0 : ∃ u, ((List.ofFn f).map c).flatten[0]? = some u := by
          have : 0 < ((List.ofFn f).map c).flatten.length := by rw [hws.flat]; simp; exact Nat.mul_pos hp (by omega)
          exact ⟨_, List.getElem?_eq_getElem this⟩
        obtain ⟨u, hu0⟩ := h0
        simpa [Addr.add] using World.cell?_spot (hcell 0 u hu0)
      obtain ⟨g, o, spot⟩ := a
      simp only at hsp; subst hsp
      have hlt : g < W.heap.size := by
        have h0 : ∃ u, ((List.ofFn f).map c).flatten[0]? = some u := by
          have : 0 < ((List.ofFn f).map c).flatten.length := by rw [hws.flat]; simp; exact Nat.mul_pos hp (by omega)
          exact ⟨_, List.getElem?_eq_getElem this⟩
        obtain ⟨u, hu0⟩ := h0
        have h1 := hcell 0 u hu0
        rcases Nat.lt_or_ge g W.heap.size with h | h
        · exact h
        · simp [World.cell?, Addr.add, Array.getElem?_eq_none h] at h1
      refine ⟨List.ofFn f, _, 1, g, o, rfl, ⟨hws, .inr ⟨rfl, cap, by simp, ⟨hlt, by simpa using hlc⟩, fun j u hj => ?_⟩⟩, ?_, hbd⟩
      · have := hcell j u hj; rw [Addr.add_lit] at this; exact this
      · intro b hb'; obtain ⟨i, rfl⟩ := List.mem_ofFn.1 hb'; exact (hf i.1 i.2).2
end
end Go.Sx

end
section
set_option linter.unusedVariables false
namespace Go.Sx
open Go
def Xe9 (x : BitVec 64) (s : Nat) : BitVec 64 := x <<< s ||| x >>> (64 - s)
def rnd (p : W2) (k : BitVec 64) : W2 := ((Xe9 p.1 56 + p.2) ^^^ k, Xe9 p.2 3 ^^^ ((Xe9 p.1 56 + p.2) ^^^ k))
def Xmk (p : W2) (k : BitVec 64) : W2 := (Xe9 ((p.1 ^^^ k) - Xe9 (p.1 ^^^ p.2) 61) 8, Xe9 (p.1 ^^^ p.2) 61)
def ks (k : W2) : Nat → W2
  | 0 => k
  | i + 1 => rnd (ks k i) (wd (i : Int))
def Qy8 (k b : W2) : W2 := (List.range 32).foldl (fun p i => rnd p (ks k i).2) b
def blk (tag : Int) (c n : BitVec 64) : W2 := (wd tag <<< 56 ||| c, n)
def drv (k : W2) (tag : Int) (n : BitVec 64) : W2 := Qy8 k (blk tag 0#64 n)
def Xan (k b : W2) (j : Nat) : W2 := (List.range (32 - j)).foldl (fun p i => Xmk p (ks k (31 - i)).2) b
def Xdv (k b : W2) : W2 := Xan k b 0
def lg (a : Int) : Int := if a.toNat = 0 then 0 else (Nat.log2 a.toNat : Int) + 1
end Go.Sx

end
