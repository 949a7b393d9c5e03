/- Several texts in one: Mir MirB MirC MirD MirE MirF MirG Wd MirH MirI We MirJ MirK MirL Sq Row Opn Pln CaM CrM. -/
import Derived.Test.YtgdojjniakpadaaGreatZb
import Derived.Laws.MakeOwn
import Derived.Laws.Slices
import Derived.Laws.IdiomStrings
import Derived.Laws.Strings
import Derived.Laws.IdiomCopy
import Derived.Laws.IdiomRangeMap
import Derived.ControlIn
import Derived.Laws.CopyRow
import Derived.Test.YtgdojjniakpadaaGreatRows
import Derived.ProofKit
import Derived.OpenShut
import Derived.ShutString
import Derived.ChangeOld
import Derived.Below
import Derived.Carry
import Derived.SizedLaws
set_option linter.unusedVariables false
set_option linter.unusedSimpArgs false
section
set_option linter.unusedVariables false
set_option linter.unusedSimpArgs false
namespace Go.Sx
open Go Go.RowKit
abbrev Qi (n : Int) : Int := IntKind.i64.wrap n
def Xb : Nat := 18446744073709551616
def Qr {σ R : Type} (F : (σ → Option R) → σ → Option R) (n : Nat) : σ → Option R := Nat.rec (fun _ => none) (fun _ ih s => F ih s) n
theorem Zt {σ R : Type} (F : (σ → Option R) → σ → Option R) (n : Nat) (s : σ) : Qr F (n + 1) s = F (Qr F n) s := rfl
theorem Zx {σ R : Type} {F : (σ → Option R) → σ → Option R} {n : Nat} {s : σ} {r : R} (h : Qr F n s = some r) : ∃ m, n = m + 1 ∧ F (Qr F m) s = some r := by
  cases n with
  | zero => cases h
  | succ m => exact ⟨m, rfl, h⟩
theorem Qc {α β : Type} {o : Option α} {f : α → Option β} {r : β} (h : Option.bind o f = some r) : ∃ a, o = some a ∧ f a = some r := by
  cases o with
  | none => cases h
  | some a => exact ⟨a, rfl, h⟩
theorem Ez {β : Type} {c : Prop} [Decidable c] {a b : Option β} {r : β} (hc : c) (h : (if c then a else b) = some r) : a = some r := by rwa [if_pos hc] at h
theorem Ey {β : Type} {c : Prop} [Decidable c] {a b : Option β} {r : β} (hc : ¬ c) (h : (if c then a else b) = some r) : b = some r := by rwa [if_neg hc] at h
theorem Xx {β : Type} {c : Bool} {a b : Option β} {r : β} (hc : c = true) (h : (bif c then a else b) = some r) : a = some r := by rw [hc] at h; exact h
theorem Xw {β : Type} {c : Bool} {a b : Option β} {r : β} (hc : c = false) (h : (bif c then a else b) = some r) : b = some r := by rw [hc] at h; exact h
def Xt {α : Type} (l : List α) (i : Int) : Option α := if 0 ≤ i then l[i.toNat]? else none
theorem Fo {α : Type} {l : List α} {i : Int} {a : α} (h : Xt l i = some a) : 0 ≤ i := by unfold Xt at h; split at h <;> first | assumption | cases h
theorem Lf {α : Type} {l : List α} {i : Int} {a : α} (h : Xt l i = some a) : l[i.toNat]? = some a := by unfold Xt at h; split at h <;> first | assumption | cases h
theorem Ew {α : Type} {l : List α} {i : Int} {a : α} (h : Xt l i = some a) : i < l.length := by
  have := (List.getElem?_eq_some_iff.1 (Lf h)).1; have := Fo h; omega
def Ks {α : Type} (b : Nat) (l m : List α) : Option (List α) := if (l.length + m.length) * b ≤ 140737488355328 then some (l ++ m) else none
theorem Qvw {α : Type} {b : Nat} {l m k : List α} (h : Ks b l m = some k) : k = l ++ m ∧ (l.length + m.length) * b ≤ 140737488355328 := by
  unfold Ks at h; split at h
  · exact ⟨(Option.some.inj h).symm, ‹_›⟩
  · cases h
def Co {α : Type} (b : Nat) (n : Int) (z : α) : Option (List α) := if 0 ≤ n ∧ n * b ≤ 140737488355328 then some (List.replicate n.toNat z) else none
theorem Xcn {α : Type} {b : Nat} {n : Int} {z : α} {k : List α} (h : Co b n z = some k) : k = List.replicate n.toNat z ∧ 0 ≤ n ∧ n * b ≤ 140737488355328 := by
  unfold Co at h; split at h
  · rename_i h1; exact ⟨(Option.some.inj h).symm, h1⟩
  · cases h
def Nn {α : Type} (l : List α) (lo hi : Int) : Option (List α) := if 0 ≤ lo ∧ lo ≤ hi ∧ hi ≤ l.length then some ((l.take hi.toNat).drop lo.toNat) else none
theorem Xgg {α : Type} {l k : List α} {lo hi : Int} (h : Nn l lo hi = some k) : k = (l.take hi.toNat).drop lo.toNat ∧ 0 ≤ lo ∧ lo ≤ hi ∧ hi ≤ l.length := by
  unfold Nn at h; split at h
  · rename_i h1; exact ⟨(Option.some.inj h).symm, h1⟩
  · cases h
def Yy (a b : Int) : Option Int := if b = 0 then none else some (Qi (a.tdiv b))
def Kv (a b : Int) : Option Int := if b = 0 then none else some (a.tmod b)
def Rk {n : Nat} (a b : BitVec n) : Option (BitVec n) := if b=BitVec.ofNat n 0 then none else some (a / b)
def Kk {n : Nat} (a b : BitVec n) : Option (BitVec n) := if b=BitVec.ofNat n 0 then none else some (a % b)
def Jq (n : Int) : Option Nat := if 0 ≤ n then some n.toNat else none
theorem Qjr {n : Int} {k : Nat} (h : Jq n = some k) : 0 ≤ n ∧ n.toNat = k := by
  unfold Jq at h; split at h
  · rename_i h1; exact ⟨h1, Option.some.inj h⟩
  · cases h
def Pc (a : Int) (n : Nat) : Int := Qi (a * 2 ^ min n 64)
def Oa (a : Int) (n : Nat) : Int := a / 2 ^ min n 64
def Um (op : BinOp) (a b : Int) : Int := bits op .i64 a b
def Xf (x : BitVec 8) : Int := (x.toNat : Int)
abbrev bv (x : BitVec 8) : Value := .int .u8 (Xf x)
theorem Vy (x : BitVec 8) : 0 ≤ Xf x := by unfold Xf; omega
theorem Vx (x : BitVec 8) : Xf x ≤ 255 := by unfold Xf; have := x.isLt; omega
theorem Qk3 {x y : BitVec 8} (h : Xf x = Xf y) : x = y := by apply BitVec.eq_of_toNat_eq; unfold Xf at h; omega
def Vr (n : Int) : BitVec 8 := BitVec.ofInt 8 n
abbrev ic (n : Int) : List Value := [.int .i64 n]
abbrev Kr (x : BitVec 64) : List Value := [wv x]
abbrev Xq (x : BitVec 8) : List Value := [bv x]
abbrev k0 : W2 := (0#64, 0#64)
section
variable {P : Program} {L : Slots} {w : World} {dst : Option Nat} {ty : TypeId} {pos : String} {af : Array Edge} {gu : Option (Nat × Bool)} {x y : Operand} {t u : TypeId} {a b : Int}
theorem Tq {c : Int} (hx : ev L x = some (.int .i64 a)) (hy : ev L y = some (.int .i64 b)) (h : Yy a b = some c) : VV P L ⟨dst, .binOp .quo t x y u, ty, pos, af, gu⟩ w (.int .i64 c) := fun ρ hρ => by
  unfold Yy at h
  split at h
  · cases h
  · rename_i hd; cases h
    simp [execOp, hρ _ _ hx, hρ _ _ hy, go_sem, Op.intDiv, hd]
theorem Hm {c : Int} (hx : ev L x = some (.int .i64 a)) (hy : ev L y = some (.int .i64 b)) (h : Kv a b = some c) : VV P L ⟨dst, .binOp .rem t x y u, ty, pos, af, gu⟩ w (.int .i64 c) := fun ρ hρ => by
  unfold Kv at h
  split at h
  · cases h
  · rename_i hd; cases h
    simp [execOp, hρ _ _ hx, hρ _ _ hy, go_sem, Op.intDiv, hd]
theorem Qh7 {yk : IntKind} {n : Nat} (hx : ev L x = some (.int .i64 a)) (hy : ev L y = some (.int yk b)) (h : Jq b = some n) : VV P L ⟨dst, .binOp .shl t x y u, ty, pos, af, gu⟩ w (.int .i64 (Pc a n)) := by
  obtain ⟨h1, rfl⟩ := Qjr h
  exact Qvo hx hy h1
theorem Qor {yk : IntKind} {n : Nat} (hx : ev L x = some (.int .i64 a)) (hy : ev L y = some (.int yk b)) (h : Jq b = some n) : VV P L ⟨dst, .binOp .shr t x y u, ty, pos, af, gu⟩ w (.int .i64 (Oa a n)) := by
  obtain ⟨h1, rfl⟩ := Qjr h
  exact Qoq hx hy h1
theorem Qkf {yk : IntKind} {n : Nat} {c : BitVec 64} (hx : ev L x = some (wv c)) (hy : ev L y = some (.int yk b)) (h : Jq b = some n) : VV P L ⟨dst, .binOp .shl t x y u, ty, pos, af, gu⟩ w (wv (c <<< n)) := by
  obtain ⟨h1, rfl⟩ := Qjr h
  exact Qd4 hx hy h1
theorem Om {yk : IntKind} {n : Nat} {c : BitVec 64} (hx : ev L x = some (wv c)) (hy : ev L y = some (.int yk b)) (h : Jq b = some n) : VV P L ⟨dst, .binOp .shr t x y u, ty, pos, af, gu⟩ w (wv (c >>> n)) := by
  obtain ⟨h1, rfl⟩ := Qjr h
  exact Qh9 hx hy h1
theorem Qvd {op : BinOp} (hop : op = .and ∨ op = .or ∨ op = .xor ∨ op = .andNot) (hx : ev L x = some (.int .i64 a)) (hy : ev L y = some (.int .i64 b)) : VV P L ⟨dst, .binOp op t x y u, ty, pos, af, gu⟩ w (.int .i64 (Um op a b)) := Qd0 hop hx hy
variable {c d : BitVec 64} {p q : BitVec 8}
theorem Qv7 : un c = un d ↔ c = d := ⟨Qk4, fun h => by rw [h]⟩
theorem Qv4 : Xf p = Xf q ↔ p = q := ⟨Qk3, fun h => by rw [h]⟩
theorem Gv {p q : Prop} [Decidable p] [Decidable q] (h : p ↔ q) : Value.bool (decide p) = .bool (decide q) := by simp [h]
theorem Qv9 : un c < un d ↔ c < d := by unfold un; rw [BitVec.lt_def]; omega
theorem Qv8 : un c ≤ un d ↔ c ≤ d := by unfold un; rw [BitVec.le_def]; omega
theorem Qv6 : Xf p < Xf q ↔ p < q := by unfold Xf; rw [BitVec.lt_def]; omega
theorem Qv5 : Xf p ≤ Xf q ↔ p ≤ q := by unfold Xf; rw [BitVec.le_def]; omega
theorem Tp (hx : ev L x = some (wv c)) (hy : ev L y = some (wv d)) : VV P L ⟨dst, .binOp .eql t x y u, ty, pos, af, gu⟩ w (.bool (decide (c = d))) := Js (Jr hx hy) (Gv Qv7)
theorem Ok (hx : ev L x = some (wv c)) (hy : ev L y = some (wv d)) : VV P L ⟨dst, .binOp .neq t x y u, ty, pos, af, gu⟩ w (.bool (decide (c ≠ d))) := Js (Jw hx hy) (Gv (not_congr Qv7))
theorem Nr (hx : ev L x = some (wv c)) (hy : ev L y = some (wv d)) : VV P L ⟨dst, .binOp .lss t x y u, ty, pos, af, gu⟩ w (.bool (decide (c < d))) := Js (Zc hx hy) (Gv Qv9)
theorem Qvi (hx : ev L x = some (wv c)) (hy : ev L y = some (wv d)) : VV P L ⟨dst, .binOp .leq t x y u, ty, pos, af, gu⟩ w (.bool (decide (c ≤ d))) := Js (Pf hx hy) (Gv Qv8)
theorem Oj (hx : ev L x = some (wv c)) (hy : ev L y = some (wv d)) : VV P L ⟨dst, .binOp .gtr t x y u, ty, pos, af, gu⟩ w (.bool (decide (d < c))) := Js (Va hx hy) (Gv Qv9)
theorem Np (hx : ev L x = some (wv c)) (hy : ev L y = some (wv d)) : VV P L ⟨dst, .binOp .geq t x y u, ty, pos, af, gu⟩ w (.bool (decide (d ≤ c))) := Js (Kl hx hy) (Gv Qv8)
theorem Yz (hx : ev L x = some (bv p)) (hy : ev L y = some (bv q)) : VV P L ⟨dst, .binOp .eql t x y u, ty, pos, af, gu⟩ w (.bool (decide (p = q))) := Js (Jr hx hy) (Gv Qv4)
theorem Qoo (hx : ev L x = some (bv p)) (hy : ev L y = some (bv q)) : VV P L ⟨dst, .binOp .neq t x y u, ty, pos, af, gu⟩ w (.bool (decide (p ≠ q))) := Js (Jw hx hy) (Gv (not_congr Qv4))
theorem Qh6 (hx : ev L x = some (bv p)) (hy : ev L y = some (bv q)) : VV P L ⟨dst, .binOp .lss t x y u, ty, pos, af, gu⟩ w (.bool (decide (p < q))) := Js (Zc hx hy) (Gv Qv6)
theorem Qon (hx : ev L x = some (bv p)) (hy : ev L y = some (bv q)) : VV P L ⟨dst, .binOp .leq t x y u, ty, pos, af, gu⟩ w (.bool (decide (p ≤ q))) := Js (Pf hx hy) (Gv Qv5)
theorem Xi0 (hx : ev L x = some (bv p)) (hy : ev L y = some (bv q)) : VV P L ⟨dst, .binOp .gtr t x y u, ty, pos, af, gu⟩ w (.bool (decide (q < p))) := Js (Va hx hy) (Gv Qv6)
theorem Qvg (hx : ev L x = some (bv p)) (hy : ev L y = some (bv q)) : VV P L ⟨dst, .binOp .geq t x y u, ty, pos, af, gu⟩ w (.bool (decide (q ≤ p))) := Js (Kl hx hy) (Gv Qv5)
theorem Xhw (hx : ev L x = some (bv p)) (hy : ev L y = some (bv q)) : VV P L ⟨dst, .binOp .add t x y u, ty, pos, af, gu⟩ w (bv (p + q)) := Js (Zg hx hy) (by
  have : IntKind.u8.wrap (Xf p + Xf q) = (Xf p + Xf q) % 256 := by simp [IntKind.wrap, IntKind.bits, IntKind.signed]
  rw [this]; show Value.int .u8 _ = Value.int .u8 (Xf (p + q)); refine congrArg (Value.int .u8) ?_; unfold Xf; rw [BitVec.toNat_add]; omega)
theorem Qop {e : BitVec 64} (hx : ev L x = some (wv c)) (hy : ev L y = some (wv d)) (h : Rk c d = some e) : VV P L ⟨dst, .binOp .quo t x y u, ty, pos, af, gu⟩ w (wv e) := by
  unfold Rk at h
  split at h
  · cases h
  · rename_i hd; cases h
    have h0 : 0 < un d := by
      have := Ba d
      rcases Int.lt_or_eq_of_le this with h | h
      · exact h
      · exact absurd (Qk4 (show un d = un 0#64 from by rw [← h]; rfl)) hd
    have e1 : un c / un d = un (c / d) := by unfold un; rw [BitVec.toNat_udiv]; norm_cast
    have hl := Qk5 (c / d); have hn := Ba (c / d)
    exact Js (Qvm hx hy (Ba c) h0 (by rw [e1, IntKind.wrap_u64]; omega)) (by rw [e1])
theorem Vm {e : BitVec 64} (hx : ev L x = some (wv c)) (hy : ev L y = some (wv d)) (h : Kk c d = some e) : VV P L ⟨dst, .binOp .rem t x y u, ty, pos, af, gu⟩ w (wv e) := by
  unfold Kk at h
  split at h
  · cases h
  · rename_i hd; cases h
    have h0 : 0 < un d := by
      have := Ba d
      rcases Int.lt_or_eq_of_le this with h | h
      · exact h
      · exact absurd (Qk4 (show un d = un 0#64 from by rw [← h]; rfl)) hd
    exact Js (Qvn hx hy (Ba c) h0) (congrArg (Value.int .u64) (by unfold un; rw [BitVec.toNat_umod]; exact (Int.natCast_emod _ _).symm))
theorem Qh3 {s d : TypeId} (hc : CV P s d .i64) (hx : ev L x = some (wv c)) : VV P L ⟨dst, .convert s d x, ty, pos, af, gu⟩ w (.int .i64 (Qi (un c))) := Bc hc hx
theorem Qh1 {s d : TypeId} (hc : CV P s d .i64) (hx : ev L x = some (bv p)) : VV P L ⟨dst, .convert s d x, ty, pos, af, gu⟩ w (.int .i64 (Xf p)) := Bd hc hx (by have := Vy p; omega) (by have := Vx p; omega)
theorem Yb {s d : TypeId} (hc : CV P s d .u64) (hx : ev L x = some (.int .i64 a)) : VV P L ⟨dst, .convert s d x, ty, pos, af, gu⟩ w (wv (wd a)) := Js (Bc hc hx) (by
  rw [IntKind.wrap_u64]; show Value.int .u64 _ = Value.int .u64 (un (wd a)); refine congrArg (Value.int .u64) ?_; unfold un wd; rw [BitVec.toNat_ofInt]; omega)
theorem Qd2 {s d : TypeId} (hc : CV P s d .u64) (hx : ev L x = some (bv p)) : VV P L ⟨dst, .convert s d x, ty, pos, af, gu⟩ w (wv (p.setWidth 64)) := Js (Bc hc hx) (by
  have := Vy p; have := Vx p
  rw [IntKind.wrap_u64, Int.emod_eq_of_lt (by omega) (by omega)]; show Value.int .u64 _ = Value.int .u64 (un (p.setWidth 64)); refine congrArg (Value.int .u64) ?_; unfold Xf un; rw [BitVec.toNat_setWidth, Nat.mod_eq_of_lt (by have := p.isLt; omega)])
theorem Qh2 {s d : TypeId} (hc : CV P s d .u8) (hx : ev L x = some (wv c)) : VV P L ⟨dst, .convert s d x, ty, pos, af, gu⟩ w (bv (c.setWidth 8)) := Js (Qol hc hx) (by
  show Value.int .u8 _ = Value.int .u8 (Xf (c.setWidth 8)); refine congrArg (Value.int .u8) ?_; unfold Xf un; rw [BitVec.toNat_setWidth]; omega)
theorem Qk8 {s d : TypeId} (hc : CV P s d .u8) (hx : ev L x = some (.int .i64 a)) : VV P L ⟨dst, .convert s d x, ty, pos, af, gu⟩ w (bv (Vr a)) := Js (Bc hc hx) (by
  have : IntKind.u8.wrap a = a % 256 := by simp [IntKind.wrap, IntKind.bits, IntKind.signed]
  rw [this]; show Value.int .u8 _ = Value.int .u8 (Xf (Vr a)); refine congrArg (Value.int .u8) ?_; unfold Xf Vr; rw [BitVec.toNat_ofInt]; omega)
end
section
variable {P : Program} {L : Slots} {w : World} {dst : Option Nat} {ty : TypeId} {pos : String} {af : Array Edge} {gu : Option (Nat × Bool)}
variable {x y : Operand} {t : TypeId} {z g o sz : Nat} {e : TypeId} {v : Value} {k : IntKind} {α : Type} {l : List α} {c : α → List Value} {a : α} {i : Int}
theorem Zo (hu : P.underlying t = some (.slice e)) (hx : ev L x = some v) (hr : Rd w z g o sz v (l.map c)) : VV P L ⟨dst, .call { callee := .builtin .len, args := #[x], argTypes := #[t] }, ty, pos, af, gu⟩ w (.int .i64 (l.length : Int)) := Qom hu hx hr (List.length_map ..)
theorem Jm (hu : P.underlying t = some (.slice e)) (hs : Ys P e sz) (hx : ev L x = some v) (hr : Rd w z g o sz v (l.map c)) (hy : ev L y = some (.int k i)) (hg : Xt l i = some a) :
    VV P L ⟨dst, .indexAddr t x y, ty, pos, af, gu⟩ w (.pointer (some ⟨g, o + i.toNat * sz, none⟩)) := Qkc hu hs hx hr (List.length_map ..) hy (Fo hg) (Ew hg)
theorem Vq {p q : Nat} {u : Value} (h1 : Yd P t) (hx : ev L x = some (.pointer (some ⟨g, p, none⟩))) (hr : Rd w z g o sz v (l.map c)) (hg : Xt l i = some a) (hp : p = o + (i.toNat * sz + q)) (hc : (c a)[q]? = some u) : VV P L ⟨dst, .load t x, ty, pos, af, gu⟩ w u :=
  Qk9 h1 hx hr (Dy (Lf hg)) hp hc
theorem Qka {p q m : Nat} {vs : List Value} (h1 : Ky P t m) (hx : ev L x = some (.pointer (some ⟨g, p, none⟩))) (hr : Rd w z g o sz v (l.map c)) (hg : Xt l i = some a) (hp : p = o + (i.toNat * sz + q)) (hc : ((c a).drop q).take m = vs) (hl : vs.length = m) : VV P L ⟨dst, .load t x, ty, pos, af, gu⟩ w (.agg vs.toArray) :=
  Qve h1 hx hr (Dy (Lf hg)) hp hc hl
theorem Hc {p : Nat} (h1 : Ky P t sz) (hx : ev L x = some (.pointer (some ⟨g, p, none⟩))) (hr : Rd w z g o sz v (l.map c)) (hg : Xt l i = some a) (hp : p = o + i.toNat * sz) : VV P L ⟨dst, .load t x, ty, pos, af, gu⟩ w (.agg (c a).toArray) :=
  Xhx h1 hx hr (Dy (Lf hg)) hp
theorem Vl {bytes z2 g2 o2 : Nat} {u : Value} {m k : List α} (ha : Dk P t e sz bytes) (hx : ev L x = some v) (hy : ev L y = some u) (h : Qn w z g e sz v (l.map c)) (hr : Rd w z2 g2 o2 sz u (m.map c)) (hb : Ks bytes l m = some k) (hpos : 1 ≤ bytes) :
    EV P L ⟨dst, .call { callee := .builtin .append, args := #[x, y], argTypes := #[t, t] }, ty, pos, af, gu⟩ w fun v' w' => ∃ z' g', Qn w' z' g' e sz v' (k.map c) ∧ Ka z g w w' ∧ Zm (z' = 0 ∨ (z' = 1 ∧ g' < w'.heap.size)) ∧ Zm ((g' = g ∧ z = 1) ∨ w.heap.size ≤ g' ∨ z' = 0) := by
  obtain ⟨rfl, hb2⟩ := Qvw hb
  have hle : l.length + m.length ≤ (l.length + m.length) * bytes := Nat.le_mul_of_pos_right _ hpos
  refine (Qb2 ha hx hy h hr (by rw [List.length_map, List.length_map]; exact hb2) (by rw [List.length_map, List.length_map]; omega)).mono ?_
  rintro v' w' ⟨z', g', h1, h2, h3, h4, h5⟩
  exact ⟨z', g', by rw [List.map_append]; exact h1, h2, ⟨h3⟩, ⟨h4⟩⟩
theorem Ve {len : Nat} {zs cs : List Value} {parts : Array (Nat × Operand)} {vs : List (Nat × Value)} (l : List α) (c : α → List Value) (hb : Pg P t len e sz zs) (hp : Bv L parts.toList = some vs) (hf : Nc (fun i => some (i * sz, sz)) zs vs = some cs)
    (hw : Ws sz (l.map c)) (hx : cs = (l.map c).flatten) (hl : l.length = len) (hm : Nat.ble len 1000000 = true) :
    EV P L ⟨dst, .buildSlice t len parts, ty, pos, af, gu⟩ w fun v' w' => ∃ g', w.heap.size ≤ g' ∧ Qn w' 1 g' e sz v' (l.map c) ∧ Gr w w' := Qrc hb hp hf hw hx (by rw [List.length_map]; exact hl) hm
theorem Ws.take {sz n : Nat} {xs : List (List Value)} (h : Ws sz xs) : Ws sz (xs.take n) := fun y hy => h y (List.mem_of_mem_take hy)
theorem Ws.drop {sz n : Nat} {xs : List (List Value)} (h : Ws sz xs) : Ws sz (xs.drop n) := fun y hy => h y (List.mem_of_mem_drop hy)
theorem Qij {sz : Nat} : ∀ (n : Nat) (xs : List (List Value)), Ws sz xs → (xs.drop n).flatten = xs.flatten.drop (n * sz)
  | 0, xs, _ => by simp
  | n + 1, [], _ => by simp
  | n + 1, x :: xs, h => by
    have hx := (h x (by simp)).1
    rw [List.drop_succ_cons, Qij n xs (fun y hy => h y (List.mem_cons_of_mem _ hy)), List.flatten_cons, List.drop_append]
    have e : (n + 1) * sz - x.length = n * sz := by rw [hx, Nat.add_mul]; omega
    have e2 : x.drop ((n + 1) * sz) = [] := List.drop_eq_nil_of_le (by rw [hx, Nat.add_mul]; omega)
    rw [e, e2, List.nil_append]
theorem Qil {sz : Nat} : ∀ (n : Nat) (xs : List (List Value)), Ws sz xs → (xs.take n).flatten = xs.flatten.take (n * sz)
  | 0, xs, _ => by simp
  | n + 1, [], _ => by simp
  | n + 1, x :: xs, h => by
    have hx := (h x (by simp)).1
    rw [List.take_succ_cons, List.flatten_cons, Qil n xs (fun y hy => h y (List.mem_cons_of_mem _ hy)), List.flatten_cons, List.take_append]
    have e : (n + 1) * sz - x.length = n * sz := by rw [hx, Nat.add_mul]; omega
    have e2 : x.take ((n + 1) * sz) = x := List.take_of_length_le (by rw [hx, Nat.add_mul]; omega)
    rw [e, e2]
end
end Go.Sx

end
section
set_option linter.unusedVariables false
set_option linter.unusedSimpArgs false
namespace Go.Sx
open Go Go.RowKit
def Jp : List (Nat × Nat) → Nat → Prop
  | [], _ => True
  | (z, g) :: r, k => (z = 0 ∨ k ≠ g) ∧ Jp r k
def Mz : List (Nat × Nat) → Nat → Prop
  | [], _ => False
  | (z, g) :: r, k => (k = g ∧ z ≠ 0) ∨ Mz r k
def Wc (l : List (Nat × Nat)) (z g base : Nat) : Prop := z = 0 ∨ base ≤ g ∨ Mz l g
def Yn : List (Nat × Nat) → List (Nat × Nat) → Nat → Prop
  | [], _, _ => True
  | (z, g) :: r, l, base => Wc l z g base ∧ Yn r l base
theorem Hr {g : Nat} : ∀ {ms : List Nat}, Mz (ms.map fun b => (1, b)) g ↔ g ∈ ms
  | [] => by simp [Mz]
  | a :: r => by simp [Mz, Hr]
theorem Qsq : ∀ {l : List (Nat × Nat)} {k g : Nat}, Jp l k → Mz l g → k ≠ g
  | [], k, g, _, h => h.elim
  | (z, b) :: r, k, g, hn, h => by
    rcases h with ⟨h1, h2⟩ | h
    · subst h1; rcases hn.1 with h0 | h0
      · exact absurd h0 h2
      · exact h0
    · exact Qsq hn.2 h
theorem Qml {l : List (Nat × Nat)} {z g base k : Nat} (h : Wc l z g base) (hk : k < base) (hn : Jp l k) : z = 0 ∨ k ≠ g := by
  rcases h with h | h | h
  · exact .inl h
  · exact .inr (by omega)
  · exact .inr (Qsq hn h)
theorem Qev {l : List (Nat × Nat)} {base k : Nat} (hk : k < base) (hn : Jp l k) : ∀ {m : List (Nat × Nat)}, Yn m l base → Jp m k
  | [], _ => trivial
  | (z, g) :: r, h => ⟨Qml h.1 hk hn, Qev hk hn h.2⟩
structure Kz (l : List (Nat × Nat)) (w w' : World) : Prop where
  os : w'.os = w.os
  tape : w'.tape = w.tape
  output : w'.output = w.output
  size : w.heap.size ≤ w'.heap.size
  block : ∀ k, k < w.heap.size → Jp l k → w'.heap[k]? = w.heap[k]?
section
variable {l m : List (Nat × Nat)} {w w₁ w₂ w' : World} {z g b o sz : Nat} {t e : TypeId} {cs : List Value} {v : Value} {xs : List (List Value)}
theorem Kz.refl (l : List (Nat × Nat)) (w : World) : Kz l w w := ⟨rfl, rfl, rfl, Nat.le_refl _, fun _ _ _ => rfl⟩
theorem Kz.gr (h : Kz l w w₁) (k : Gr w₁ w₂) : Kz l w w₂ := ⟨k.os.trans h.os, k.tape.trans h.tape, k.output.trans h.output, Nat.le_trans h.size k.size, fun i hi hn => (k.block i (Nat.lt_of_lt_of_le hi h.size)).trans (h.block i hi hn)⟩
theorem Kz.md (h : Kz l w w₁) (k : Md b w₁ w₂) (hb : Wc l 1 b w.heap.size := by simp only [Jp, Yn, Wc, Hr, Mz, or_true, true_or, and_true, List.mem_cons, List.mem_append, Jj, List.not_mem_nil, or_false, false_or, not_or, ne_eq, List.nil_append, List.cons_append, true_and, and_true, false_and, and_false, not_true_eq_false, not_false_eq_true, or_true, true_or] <;> omega) : Kz l w w₂ := ⟨k.os.trans h.os, k.tape.trans h.tape, k.output.trans h.output, by rw [k.size]; exact h.size, fun i hi hn => (k.block i (by have := Qml hb hi hn; omega)).trans (h.block i hi hn)⟩
theorem Kz.ka (h : Kz l w w₁) (k : Ka z g w₁ w₂) (hb : Wc l z g w.heap.size := by simp only [Jp, Yn, Wc, Hr, Mz, or_true, true_or, and_true, List.mem_cons, List.mem_append, Jj, List.not_mem_nil, or_false, false_or, not_or, ne_eq, List.nil_append, List.cons_append, true_and, and_true, false_and, and_false, not_true_eq_false, not_false_eq_true, or_true, true_or] <;> omega) : Kz l w w₂ := ⟨k.os.trans h.os, k.tape.trans h.tape, k.output.trans h.output, Nat.le_trans h.size k.size, fun i hi hn => (k.block i (Nat.lt_of_lt_of_le hi h.size) (Qml hb hi hn)).trans (h.block i hi hn)⟩
theorem Kz.kz (h : Kz l w w₁) (k : Kz m w₁ w₂) (hb : Yn m l w.heap.size := by simp only [Jp, Yn, Wc, Hr, Mz, or_true, true_or, and_true, List.mem_cons, List.mem_append, Jj, List.not_mem_nil, or_false, false_or, not_or, ne_eq, List.nil_append, List.cons_append, true_and, and_true, false_and, and_false, not_true_eq_false, not_false_eq_true, or_true, true_or] <;> omega) : Kz l w w₂ := ⟨k.os.trans h.os, k.tape.trans h.tape, k.output.trans h.output, Nat.le_trans h.size k.size, fun i hi hn => (k.block i (Nat.lt_of_lt_of_le hi h.size) (Qev hi hn hb)).trans (h.block i hi hn)⟩
theorem Kz.kp {ms : List Nat} (h : Kz l w w₁) (k : Kp ms w₁ w₂) (hb : Yn (ms.map fun b => (1, b)) l w.heap.size) : Kz l w w₂ := ⟨k.os.trans h.os, k.tape.trans h.tape, k.output.trans h.output, Nat.le_trans h.size k.size, fun i hi hn => (k.block i (Nat.lt_of_lt_of_le hi h.size) (fun hm => by
  have h1 := Qev hi hn hb
  have key : ∀ (ms : List Nat), i ∈ ms → Jp (ms.map fun b => (1, b)) i → False := by
    intro ms
    induction ms with
    | nil => intro h; cases h
    | cons a r ih =>
      intro h h2
      rcases List.mem_cons.1 h with rfl | h
      · have := h2.1; omega
      · exact ih h h2.2
  exact key ms hm h1)).trans (h.block i hi hn)⟩
theorem Gr.kz (h : Gr w w₁) (k : Kz m w₁ w₂) (hb : Yn m [] w.heap.size := by simp only [Jp, Yn, Wc, Hr, Mz, or_true, true_or, and_true, List.mem_cons, List.mem_append, Jj, List.not_mem_nil, or_false, false_or, not_or, ne_eq, List.nil_append, List.cons_append, true_and, and_true, false_and, and_false, not_true_eq_false, not_false_eq_true, or_true, true_or] <;> omega) : Gr w w₂ := ⟨k.os.trans h.os, k.tape.trans h.tape, k.output.trans h.output, Nat.le_trans h.size k.size, fun i hi => (k.block i (Nat.lt_of_lt_of_le hi h.size) (Qev (l := []) hi trivial hb)).trans (h.block i hi)⟩
theorem Kp.kz {ms : List Nat} (h : Kp ms w w₁) (k : Kz m w₁ w₂) (hb : Yn m (ms.map fun b => (1, b)) w.heap.size := by simp only [Jp, Yn, Wc, Hr, Mz, or_true, true_or, and_true, List.mem_cons, List.mem_append, Jj, List.not_mem_nil, or_false, false_or, not_or, ne_eq, List.nil_append, List.cons_append, true_and, and_true, false_and, and_false, not_true_eq_false, not_false_eq_true, or_true, true_or] <;> omega) : Kp ms w w₂ := ⟨k.os.trans h.os, k.tape.trans h.tape, k.output.trans h.output, Nat.le_trans h.size k.size, fun i hi hn => (k.block i (Nat.lt_of_lt_of_le hi h.size) (Qev hi (by
  have key : ∀ (ms : List Nat), i ∉ ms → Jp (ms.map fun b => (1, b)) i := by
    intro ms
    induction ms with
    | nil => intro _; trivial
    | cons a r ih => intro h; exact ⟨.inr (fun e => h (by rw [e]; simp)), ih (fun h2 => h (by simp [h2]))⟩
  exact key ms hn) hb)).trans (h.block i hi hn)⟩
theorem Bx.kz (h : Bx w b t cs) (k : Kz l w w') (hn : Jp l b := by simp only [Jp, Yn, Wc, Hr, Mz, or_true, true_or, and_true, List.mem_cons, List.mem_append, Jj, List.not_mem_nil, or_false, false_or, not_or, ne_eq, List.nil_append, List.cons_append, true_and, and_true, false_and, and_false, not_true_eq_false, not_false_eq_true, or_true, true_or] <;> omega) : Bx w' b t cs := (k.block b h.lt hn).trans h
theorem Qn.kz (h : Qn w z g e sz v xs) (k : Kz l w w') (hn : z = 0 ∨ Jp l g := by simp only [Jp, Yn, Wc, Hr, Mz, or_true, true_or, and_true, List.mem_cons, List.mem_append, Jj, List.not_mem_nil, or_false, false_or, not_or, ne_eq, List.nil_append, List.cons_append, true_and, and_true, false_and, and_false, not_true_eq_false, not_false_eq_true, or_true, true_or] <;> omega) : Qn w' z g e sz v xs := h.keep (hn.imp id fun hn hl => k.block g hl hn)
theorem Rd.kz (h : Rd w z g o sz v xs) (k : Kz l w w') (hn : z = 0 ∨ Jp l g := by simp only [Jp, Yn, Wc, Hr, Mz, or_true, true_or, and_true, List.mem_cons, List.mem_append, Jj, List.not_mem_nil, or_false, false_or, not_or, ne_eq, List.nil_append, List.cons_append, true_and, and_true, false_and, and_false, not_true_eq_false, not_false_eq_true, or_true, true_or] <;> omega) : Rd w' z g o sz v xs := h.keep (hn.imp id fun hn hl => k.block g hl hn) k.size
theorem Df.kz {D : Nat} (h : Df w D) (k : Kz l w w') (hn : Jp l D := by simp only [Jp, Yn, Wc, Hr, Mz, or_true, true_or, and_true, List.mem_cons, List.mem_append, Jj, List.not_mem_nil, or_false, false_or, not_or, ne_eq, List.nil_append, List.cons_append, true_and, and_true, false_and, and_false, not_true_eq_false, not_false_eq_true, or_true, true_or] <;> omega) : Df w' D := (k.block D h.lt hn).trans h
theorem Rd.oneB (h : Rd w z g o sz v xs) : oneB v = true := by
  rcases h.2 with ⟨_, _, a, c, rfl⟩ | ⟨_, c, rfl, _⟩ <;> rfl
end
theorem Xid {sz : Nat} {α : Type} {c : α → List Value} {l : List α} (h : ∀ x ∈ l, (c x).length = sz ∧ Jn (c x) = true) : Ws sz (l.map c) := fun y hy => by
  obtain ⟨x, hx, rfl⟩ := List.mem_map.1 hy
  exact h x hx
theorem Ps (k : IntKind) (n : Int) : oneB (.int k n) = true := rfl
theorem Pr (b : Bool) : oneB (.bool b) = true := rfl
theorem Pt (b : ByteArray) : oneB (.string b) = true := rfl
theorem Xh1 {P : Program} {r : Option Nat} {n : Nat} {Q : Exit → List Deferred → Slots → World → Prop} {D : List Deferred} {L : Slots} {w : World} {x y : Code} {β : Type} (dead : List Nat) (dyn : β → Slots) (J : β → World → Prop)
    (hk : ∀ b w1, J b w1 → SW P r n y Q D (dyn b ++ Pm dead L) w1)
    (h : SW P r n x (Pe (fun D1 L1 w1 => D1 = D ∧ ∃ b, Py (dyn b ++ Pm dead L) L1 ∧ J b w1) Q) D L w) : SW P r n (.seq x y) Q D L w :=
  Qe (h.mono fun e D1 L1 w1 hh => by
    cases e with
    | normal => obtain ⟨rfl, b, h1, h2⟩ := hh; exact (hk b w1 h2).forget h1
    | exit id => exact hh
    | goto l => exact hh
    | ret => exact hh
    | panic c => exact hh
    | outgrown => exact hh)
section
variable {P : Program} {L : Slots} {w : World} {dst : Option Nat} {ty : TypeId} {pos : String} {af : Array Edge} {gu : Option (Nat × Bool)} {x y : Operand} {t u : TypeId}
def BZ (P : Program) (t : TypeId) (v : Value) : Prop := ∀ w, (Instr.build t #[]).run P w = .ok v w
theorem Vz {v : Value} (h : BZ P t v) : VV P L ⟨dst, .build t #[], ty, pos, af, gu⟩ w v := fun ρ hρ => Gh (by simpa using h w)
def Qv1 : Value → Bool
  | .pointer (some _) => true
  | .func (.func _) _ _ => true
  | _ => false
theorem Lm {v : Value} (hx : ev L x = some v) (hs : Qv1 v = true) : VV P L ⟨dst, .nilCheck x, ty, pos, af, gu⟩ w v := fun ρ hρ => by
  simp only [execOp, hρ _ _ hx]
  unfold Qv1 at hs
  split at hs <;> first | rfl | cases hs
theorem Qpv {p : Prop} [Decidable p] {q : Prop} (h : q ↔ p) : Wm q = decide p := by
  by_cases hp : p
  · rw [Qaj (h.2 hp)]; simp [hp]
  · rw [Qpw (fun hq => hp (h.1 hq))]; simp [hp]
theorem Ss {α : Type} [DecidableEq α] {cf : α → List Value} {a b : α} {ks : List Ck} (h : Tt P t ks) (hx : ev L x = some (.agg (cf a).toArray)) (hy : ev L y = some (.agg (cf b).toArray)) (hc : kn ks (cf a) = true) (hd : kn ks (cf b) = true) (inj : cf a = cf b → a = b) :
    VV P L ⟨dst, .binOp .eql t x y u, ty, pos, af, gu⟩ w (.bool (decide (a = b))) := Js (Xhy h hx hy hc hd) (by rw [Qpv ⟨inj, fun h => by rw [h]⟩])
theorem Gk {α : Type} [DecidableEq α] {cf : α → List Value} {a b : α} {ks : List Ck} (h : Tt P t ks) (hx : ev L x = some (.agg (cf a).toArray)) (hy : ev L y = some (.agg (cf b).toArray)) (hc : kn ks (cf a) = true) (hd : kn ks (cf b) = true) (inj : cf a = cf b → a = b) :
    VV P L ⟨dst, .binOp .neq t x y u, ty, pos, af, gu⟩ w (.bool (decide (a ≠ b))) := Js (Xi6 h hx hy hc hd) (by rw [Qpv (p := a = b) ⟨inj, fun h => by rw [h]⟩]; by_cases h : a = b <;> simp [h])
theorem Db {a b : Int} {k : IntKind} (h : some (Value.int k a) = some (.int k b)) : a = b := by simpa using h
theorem Ef {a b : BitVec 64} (h : some (wv a) = some (wv b)) : a = b := Qk4 (Db h)
theorem Qpk {a b : BitVec 8} (h : some (bv a) = some (bv b)) : a = b := Qk3 (Db h)
theorem Qww {a b : Bool} (h : some (Value.bool a) = some (.bool b)) : a = b := by simpa using h
theorem Hn {b' off : Nat} {tb : TypeId} {v : Value} {cs cs' : List Value} (hs : Ys P t 1) (hx : ev L x = some (.pointer (some ⟨b', off, none⟩))) (hy : ev L y = some v) (h1 : oneB v = true) (hb : Bx w b' tb cs) (hl : Nat.blt off cs.length = true) (he : cs.set off v = cs') :
    EV P L ⟨dst, .store t x y, ty, pos, af, gu⟩ w fun _ w' => Bx w' b' tb cs' ∧ Md b' w w' := by
  subst he; exact Es hs hx hy h1 hb (by simpa using hl)
theorem Qib {b' off m : Nat} {tb : TypeId} {v : Value} {cs vs cs' : List Value} (hs : Ys P t m) (hx : ev L x = some (.pointer (some ⟨b', off, none⟩))) (hy : ev L y = some v) (hc : v.cells = vs.toArray) (hm : vs.length = m) (h1 : Jn vs = true) (hb : Bx w b' tb cs) (hl : Nat.ble (off + m) cs.length = true) (he : Vh cs off vs = cs') :
    EV P L ⟨dst, .store t x y, ty, pos, af, gu⟩ w fun _ w' => Bx w' b' tb cs' ∧ Md b' w w' := by
  subst he; exact Qic hs hx hy hc hm h1 hb hl
end
section
variable {P : Program} {L : Slots} {w : World} {dst : Option Nat} {ty : TypeId} {pos : String} {af : Array Edge} {gu : Option (Nat × Bool)} {x y : Operand} {t e : TypeId} {z g sz : Nat} {v : Value}
theorem Xgr (cs : List Value) (off : Nat) (vs : List Value) (h : off + vs.length ≤ cs.length) : (Vh cs off vs).length = cs.length := by simp [Vh]; omega
theorem Xh8 (cs : List Value) (off n : Nat) (vs : List Value) (h : off + vs.length ≤ n) (hn : n ≤ cs.length) : (Vh cs off vs).take n = Vh (cs.take n) off vs := by
  have e1 : (cs.take off).length = off := by simp; omega
  unfold Vh
  rw [List.take_append, List.take_append, List.length_append, e1, List.take_of_length_le (l := cs.take off) (by omega), List.take_of_length_le (l := vs) (by omega), List.take_take, Nat.min_eq_left (by omega), List.drop_take]
theorem Qmj : ∀ (xs : List (List Value)) (i q : Nat) (c vs : List Value), Ws sz xs → xs[i]? = some c → q + vs.length ≤ sz → (xs.set i (Vh c q vs)).flatten = Vh xs.flatten (i * sz + q) vs
  | [], i, q, c, vs, _, hi, _ => by simp at hi
  | a :: xs, 0, q, c, vs, h, hi, hq => by
    simp at hi; subst hi
    have ha := (h a (by simp)).1
    simp only [List.set_cons_zero, List.flatten_cons, Nat.zero_mul, Nat.zero_add, Vh]
    rw [List.take_append_of_le_length (by omega), List.drop_append_of_le_length (by omega)]
    simp
  | a :: xs, i + 1, q, c, vs, h, hi, hq => by
    simp at hi
    have ha := (h a (by simp)).1
    have ih := Qmj xs i q c vs (fun y hy => h y (List.mem_cons_of_mem _ hy)) hi hq
    rw [List.set_cons_succ, List.flatten_cons, ih, List.flatten_cons]; simp only [Vh]
    have e1 : (i + 1) * sz + q = a.length + (i * sz + q) := by rw [ha, Nat.add_mul]; omega
    rw [e1, List.take_append, List.take_of_length_le (l := a) (by omega), show a.length + (i * sz + q) - a.length = i * sz + q from by omega, List.drop_append, @List.drop_eq_nil_of_le _ a _ (by omega), show a.length + (i * sz + q) + vs.length - a.length = i * sz + q + vs.length from by omega]
    simp
theorem Qia {α : Type} {l : List α} {c : α → List Value} {a a' : α} {i : Int} {p q m : Nat} {u : Value} {vs : List Value} (hs : Ys P t m) (hx : ev L x = some (.pointer (some ⟨g, p, none⟩))) (hy : ev L y = some u) (hc : u.cells = vs.toArray) (hm : vs.length = m) (h1 : Jn vs = true)
    (h : Qn w z g e sz v (l.map c)) (hg : Xt l i = some a) (hp : p = i.toNat * sz + q) (hq : Nat.ble (q + m) sz = true) (he : Vh (c a) q vs = c a') (hw : (c a').length = sz ∧ Jn (c a') = true) :
    EV P L ⟨dst, .store t x y, ty, pos, af, gu⟩ w fun _ w' => Qn w' z g e sz v ((l.set i.toNat a').map c) ∧ Md g w w' := by
  have hq' := Nat.le_of_ble_eq_true hq
  have hi := Lf hg
  have hxi : (l.map c)[i.toNat]? = some (c a) := Dy hi
  have hil := (List.getElem?_eq_some_iff.1 hxi).1
  rcases h.2 with ⟨_, _, h0⟩ | ⟨hz, cap, cur, hv, hb, hn, hcap, hsz, htk⟩
  · rw [h0] at hxi; simp at hxi
  · have hbx : Bx w g e cur.toList := by unfold Bx; simpa using hb
    have hfl := h.1.flat
    have hle : (l.map c).length * sz ≤ cur.toList.length := by rw [show cur.toList.length = cap * sz from hsz]; exact Nat.mul_le_mul_right _ hn
    have hin : i.toNat * sz + sz ≤ (l.map c).length * sz := by rw [← Nat.succ_mul]; exact Nat.mul_le_mul_right _ hil
    have hbd : i.toNat * sz + q + vs.length ≤ cur.toList.length := by omega
    refine (Qic (off := p) hs hx hy hc hm h1 hbx (by rw [Nat.ble_eq_true_of_le]; omega)).mono ?_
    rintro _ w' ⟨h2, h3⟩
    have hset : (l.set i.toNat a').map c = (l.map c).set i.toNat (Vh (c a) q vs) := by rw [List.map_set, he]
    refine ⟨⟨?_, .inr ⟨hz, cap, (Vh cur.toList p vs).toArray, ?_, h2, ?_, hcap, ?_, ?_⟩⟩, h3⟩
    · rw [hset]; intro y hy
      rcases List.mem_or_eq_of_mem_set hy with hy | hy
      · exact h.1 y hy
      · subst hy; rw [he]; exact hw
    · rw [hv]; simp
    · simpa using hn
    · rw [List.size_toArray, hp, Xgr _ _ _ (by omega), Array.length_toList]; exact hsz
    · rw [hset, Qmj _ _ _ _ _ h.1 hxi (by omega), ← htk, hp, List.length_set]
      exact Xh8 _ _ _ _ (by omega) hle
theorem Qsj (z : List Value) (h : 0 < z.length) : ∀ n, ((List.range (n * z.length)).map fun i => z.toArray[i % z.toArray.size]!) = (List.replicate n z).flatten
  | 0 => by simp
  | n + 1 => by
    rw [Nat.add_mul, Nat.one_mul, List.range_add, List.map_append, Qsj z h n, List.map_map, List.replicate_succ', List.flatten_append]
    congr 1
    apply List.ext_getElem (by simp)
    intro i h1 h2
    have hi : i < z.length := by simpa using h1
    have e1 : (n * z.length + i) % z.length = i := by rw [Nat.mul_comm, Nat.mul_add_mod, Nat.mod_eq_of_lt hi]
    simp [e1, hi]
theorem Qrd {bytes : Nat} {zv : Value} {α : Type} {c : α → List Value} {a : α} {n : Int} {l : List α} (ha : Dk P t e sz bytes) (hz : ZV P e zv) (hc : zv.cells = (c a).toArray) (hs : (c a).length = sz ∧ Jn (c a) = true) (hx : ev L x = some (.int .i64 n)) (hl : Co bytes n a = some l) (hpos : 1 ≤ bytes) :
    EV P L ⟨dst, .makeSlice t x x, ty, pos, af, gu⟩ w fun v' w' => ∃ g', w.heap.size ≤ g' ∧ Qn w' 1 g' e sz v' (l.map c) ∧ Gr w w' := fun ρ hρ => by
  obtain ⟨rfl, h0, hb⟩ := Xcn hl
  obtain ⟨i, zv', hi, hzv, hsz, hby, hzs⟩ := ha.info
  have hzz : zv' = zv := by
    have h1 := hz w
    simp [zeroValue, typeInfo, hi, hzv] at h1
    exact h1
  subst hzz hsz hby
  have hle : n ≤ n * i.bytes := by have := Int.mul_le_mul_of_nonneg_left (show (1 : Int) ≤ i.bytes by omega) h0; omega
  have hbc : (i.bytes : Int) * n = n * i.bytes := Int.mul_comm _ _
  have hrun := run_make (P := P) w t e i zv' ha.und hi hzv .i64 .i64 n n h0 (Int.le_refl _) (by omega) (by omega)
  have hmade : (madeCells zv'.cells (n.toNat * i.size)).toList = (List.replicate n.toNat (c a)).flatten := by
    rw [hc]; unfold madeCells
    rw [Array.toList_map, Array.toList_range, ← hs.1]
    exact Qsj (c a) (by rw [hs.1]; exact ha.pos) n.toNat
  have hws : Ws i.size ((List.replicate n.toNat a).map c) := Xid (fun y hy => by rw [List.eq_of_mem_replicate hy]; exact hs)
  refine .val _ _ (Gh ?_) ⟨w.heap.size, Nat.le_refl _, ⟨hws, .inr ⟨rfl, n.toNat, madeCells zv'.cells (n.toNat * i.size), by rw [List.length_map, List.length_replicate], heap_alloc_new w _, by rw [List.length_map, List.length_replicate]; exact Nat.le_refl _, by simp only [maxLen]; omega, size_madeCells _ _, ?_⟩⟩, (Below.refl _ _).alloc (Nat.le_refl _) _⟩
  · rw [hρ _ _ hx]; exact hrun
  · rw [List.length_map, List.length_replicate, List.map_replicate, ← hmade, List.take_of_length_le (by rw [Array.length_toList, size_madeCells]; exact Nat.le_refl _)]
def Ui (L : Slots) (o : Option Operand) (d v : Int) : Prop := match o with
  | none => v = d
  | some x => ∃ k, ev L x = some (.int k v)
theorem Quj {a : Option Addr} {len cap : Nat} {lo hi : Int} {ol oh : Option Operand} {ρ : Operand → Value} (hρ : Nu L ρ) (hu : P.underlying t = some (.slice e)) (hs : Ys P e sz) (h1 : Ui L ol 0 lo) (h2 : Ui L oh (len : Int) hi) (h0 : 0 ≤ lo) (hlh : lo ≤ hi) (hh : hi ≤ len) (hcap : len ≤ cap) :
    (Instr.sliceAt t (.slice a len cap) (ol.map ρ) (oh.map ρ) none).run P w = .ok (sliced a lo.toNat hi.toNat cap sz) w := by
  have he : P.elem t = e := by simp [Program.elem, hu]
  have hu' : P.underlying t = some (.slice (P.elem t)) := by rw [he]; exact hu
  rw [run_sliceAt_slice _ _ _ _ _ _ hu']
  cases ol with
  | none =>
    simp only [Ui] at h1; subst h1
    cases oh with
    | none => simp only [Ui] at h2; subst h2; rw [Option.map_none, run_slice_all _ _ _ _ _ hu', he, hs w]; simp [Result.andThen]
    | some q => obtain ⟨k, hq⟩ := h2; rw [Option.map_none, Option.map_some, hρ _ _ hq, run_slice_h _ _ _ _ _ hu' _ _ (by omega) (by omega), he, hs w]; simp [Result.andThen]
  | some p =>
    obtain ⟨k1, hp⟩ := h1
    cases oh with
    | none => simp only [Ui] at h2; subst h2; rw [Option.map_none, Option.map_some, hρ _ _ hp, run_slice_l _ _ _ _ _ hu' _ _ h0 (by omega), he, hs w]; simp [Result.andThen]
    | some q => obtain ⟨k, hq⟩ := h2; rw [Option.map_some, Option.map_some, hρ _ _ hp, hρ _ _ hq, run_slice_lh _ _ _ _ _ hu' _ _ _ _ h0 hlh (by omega), he, hs w]; simp [Result.andThen]
theorem Qos {α : Type} {c : α → List Value} {l m : List α} {lo hi : Int} {ol oh : Option Operand} {o : Nat} (hu : P.underlying t = some (.slice e)) (hs : Ys P e sz) (hx : ev L x = some v) (hr : Rd w z g o sz v (l.map c)) (h1 : Ui L ol 0 lo) (h2 : Ui L oh (l.length : Int) hi) (hl : Nn l lo hi = some m) :
    ∃ v' o', (∀ w1, VV P L ⟨dst, .slice t x ol oh none, ty, pos, af, gu⟩ w1 v') ∧ Rd w z g o' sz v' (m.map c) := by
  obtain ⟨rfl, h3, h4, h5⟩ := Xgg hl
  rcases hr.2 with ⟨hz, hnil, a, cap, rfl⟩ | ⟨hz, cap, rfl, ⟨hg, hcap⟩, hcell⟩
  · have hl0 : l = [] := by simpa using hnil
    subst hl0
    simp only [List.length_nil] at h2 h5
    have e1 : lo = 0 := by omega
    have e2 : hi = 0 := by omega
    subst e1 e2
    refine ⟨_, 0, fun w1 ρ hρ => Gh (by rw [hρ _ _ hx]; exact Quj hρ hu hs h1 h2 (by omega) (by omega) (by omega) (Nat.zero_le _)), by simpa using hr.1, .inl ⟨hz, by simp, ?_⟩⟩
    exact ⟨_, _, rfl⟩
  · rw [List.length_map] at hcap hx
    have hlen : ((l.map c).take hi.toNat).length = hi.toNat := by rw [List.length_take, List.length_map]; omega
    have hm : (((l.take hi.toNat).drop lo.toNat).map c) = ((l.map c).take hi.toNat).drop lo.toNat := by rw [List.map_drop, List.map_take]
    have hml : (((l.take hi.toNat).drop lo.toNat).map c).length = hi.toNat - lo.toNat := by rw [hm, List.length_drop, hlen]
    refine ⟨_, if cap = lo.toNat then o else o + lo.toNat * sz, fun w1 ρ hρ => Gh (by rw [hρ _ _ hx]; exact Quj hρ hu hs h1 h2 h3 h4 h5 hcap), by rw [hm]; exact hr.1.take.drop, .inr ⟨hz, cap - lo.toNat, ?_, ⟨hg, by rw [hml]; omega⟩, fun j u hj => ?_⟩⟩
    · simp only [sliced, hml]
      by_cases e : cap = lo.toNat
      · rw [if_pos e, if_pos e]
      · rw [if_neg e, if_neg e]; simp [Addr.add_lit]
    · rw [hm, Qij _ _ hr.1.take, Qil _ _ hr.1, List.getElem?_drop] at hj
      have hj2 : (l.map c).flatten[lo.toNat * sz + j]? = some u := by
        rw [List.getElem?_take] at hj
        split at hj
        · exact hj
        · cases hj
      by_cases e : cap = lo.toNat
      · exfalso
        have e2 : hi.toNat = lo.toNat := by omega
        rw [List.getElem?_take, e2] at hj
        split at hj
        · omega
        · cases hj
      · rw [if_neg e, Nat.add_assoc]; exact hcell _ _ hj2
end
end Go.Sx
namespace Go.Sx
open Go
section
variable {P : Program} {n : Nat} {ops : Array Oper} {Q : Slots → World → Prop} {rest : List (Nat × Nat)} {i : Nat} {dst : Option Nat} {op : Op} {ty : TypeId} {pos : String} {af : Array Edge} {gu : Option (Nat × Bool)} {L : Slots} {w w₀ : World} {ms : List Nat} {kp : Nat → Nat → Bool} {B : Value → Nat → Prop}
end
end Go.Sx

end
section
set_option linter.unusedVariables false
set_option linter.unusedSimpArgs false
namespace Go.Sx
open Go Go.RowKit
def Kg (x : BitVec 64) (i : Nat) : BitVec 8 := (x >>> (56 - 8 * i)).setWidth 8
def Xz (p : W2) : List (BitVec 8) := [Kg p.1 0, Kg p.1 1, Kg p.1 2, Kg p.1 3, Kg p.1 4, Kg p.1 5, Kg p.1 6, Kg p.1 7, Kg p.2 0, Kg p.2 1, Kg p.2 2, Kg p.2 3, Kg p.2 4, Kg p.2 5, Kg p.2 6, Kg p.2 7]
theorem Kj (p : W2) : (Xz p).length = 16 := rfl
theorem Xhm (x : BitVec 64) (i : Nat) : Xf (Kg x i) = bt x i := by
  unfold Xf Kg bt un; rw [BitVec.toNat_setWidth]; omega
theorem Sc (p : W2) : kb p = ((Xz p).map Xq).flatten := by
  simp only [kb, Xz, List.map_cons, List.map_nil, List.flatten_cons, List.flatten_nil, List.cons_append, List.nil_append, bv, Xhm]
def Ln (b0 b1 b2 b3 b4 b5 b6 b7 : BitVec 8) : BitVec 64 := b0 ++ b1 ++ b2 ++ b3 ++ b4 ++ b5 ++ b6 ++ b7
theorem Qpi (b0 b1 b2 b3 b4 b5 b6 b7 : BitVec 8) : Kg (Ln b0 b1 b2 b3 b4 b5 b6 b7) 0 = b0 ∧ Kg (Ln b0 b1 b2 b3 b4 b5 b6 b7) 1 = b1 ∧ Kg (Ln b0 b1 b2 b3 b4 b5 b6 b7) 2 = b2 ∧ Kg (Ln b0 b1 b2 b3 b4 b5 b6 b7) 3 = b3 ∧ Kg (Ln b0 b1 b2 b3 b4 b5 b6 b7) 4 = b4 ∧ Kg (Ln b0 b1 b2 b3 b4 b5 b6 b7) 5 = b5 ∧ Kg (Ln b0 b1 b2 b3 b4 b5 b6 b7) 6 = b6 ∧ Kg (Ln b0 b1 b2 b3 b4 b5 b6 b7) 7 = b7 := by
  have key : ∀ (x y : BitVec 8), (∀ i, i < 8 → x.getLsbD i = y.getLsbD i) → x = y := fun x y h => BitVec.eq_of_getLsbD_eq (fun i hi => h i hi)
  refine ⟨?_, ?_, ?_, ?_, ?_, ?_, ?_, ?_⟩ <;>
  · apply key
    intro i hi
    simp only [Kg, Ln, BitVec.getLsbD_setWidth, BitVec.getLsbD_ushiftRight, BitVec.getLsbD_append, hi, decide_true, Bool.true_and]
    repeat' split
    all_goals first | omega | (congr 1; omega)
def Yh : List (BitVec 8) → W2
  | b0 :: b1 :: b2 :: b3 :: b4 :: b5 :: b6 :: b7 :: c0 :: c1 :: c2 :: c3 :: c4 :: c5 :: c6 :: c7 :: _ => (Ln b0 b1 b2 b3 b4 b5 b6 b7, Ln c0 c1 c2 c3 c4 c5 c6 c7)
  | _ => k0
theorem Aa {l : List (BitVec 8)} (h : 16 ≤ l.length) : Xz (Yh l) = l.take 16 := by
  match l, h with
  | b0 :: b1 :: b2 :: b3 :: b4 :: b5 :: b6 :: b7 :: c0 :: c1 :: c2 :: c3 :: c4 :: c5 :: c6 :: c7 :: r, _ =>
    obtain ⟨h0, h1, h2, h3, h4, h5, h6, h7⟩ := Qpi b0 b1 b2 b3 b4 b5 b6 b7
    obtain ⟨g0, g1, g2, g3, g4, g5, g6, g7⟩ := Qpi c0 c1 c2 c3 c4 c5 c6 c7
    simp only [Yh, Xz, h0, h1, h2, h3, h4, h5, h6, h7, g0, g1, g2, g3, g4, g5, g6, g7]
    rfl
theorem Qmp {p q : W2} (h : Xz p = Xz q) : p = q := Hq (by rw [Sc, Sc, h])
theorem Qn2 (p : W2) (r : List (BitVec 8)) : Yh (Xz p ++ r) = p := Qmp (by rw [Aa (by simp [Xz])]; rfl)
def Ti (p : W2) (i : Int) (b : BitVec 8) : Option W2 := if 0 ≤ i ∧ i < 16 then some (Yh ((Xz p).set i.toNat b)) else none
theorem Qms {p q : W2} {i : Int} {b : BitVec 8} (h : Ti p i b = some q) : (0 ≤ i ∧ i < 16) ∧ Xz q = (Xz p).set i.toNat b := by
  unfold Ti at h; split at h
  · refine ⟨‹_›, ?_⟩
    cases h
    rw [Aa (by simp [Xz]), List.take_of_length_le (by simp [Xz])]
  · cases h
section
variable {P : Program} {L : Slots} {w : World} {dst : Option Nat} {ty : TypeId} {pos : String} {af : Array Edge} {gu : Option (Nat × Bool)} {x y : Operand} {t e : TypeId} {z g o sz : Nat} {v : Value}
theorem Qfj {b : Nat} {cs : List Value} {p : W2} (hb : Bx w b t cs) (h : (cs.drop o).take 16 = kb p) : Rd w 1 b o 1 (.slice (some ⟨b, o, none⟩) 16 16) ((Xz p).map Xq) :=
  Rl hb (Wb _ (fun _ => rfl) (fun _ => rfl)) rfl (by rw [← Sc]; exact h)
theorem Qnj {b lo hi : Nat} {cs : List Value} {p : W2} (hb : Bx w b t cs) (h : (cs.drop o).take 16 = kb p) (h1 : Nat.ble lo hi = true) (h2 : Nat.ble hi 16 = true) : Rd w 1 b (o + lo) 1 (.slice (some ⟨b, o + lo, none⟩) (hi - lo) (16 - lo)) ((((Xz p).take hi).drop lo).map Xq) := by
  have h1' := Nat.le_of_ble_eq_true h1
  have h2' := Nat.le_of_ble_eq_true h2
  have hw : Ws 1 ((Xz p).map Xq) := Wb _ (fun _ => rfl) (fun _ => rfl)
  have hf : ((((Xz p).take hi).drop lo).map Xq).flatten = ((kb p).take hi).drop lo := by
    rw [List.map_drop, List.map_take, Qij _ _ hw.take, Qil _ _ hw, ← Sc, Nat.mul_one, Nat.mul_one]
  have hk : (kb p).length = 16 := rfl
  have hl : (((Xz p).take hi).drop lo).length = hi - lo := by rw [List.length_drop, List.length_take, Kj]; omega
  refine Rl hb (Wb _ (fun _ => rfl) (fun _ => rfl)) (by rw [List.length_map, hl]) ?_ (Nat.ble_eq_true_of_le (by omega))
  rw [hf, ← h, List.length_drop, List.length_take, ← List.drop_drop]
  apply List.ext_getElem?
  intro j
  simp only [List.getElem?_take, List.getElem?_drop]
  have hc : ((cs.drop o).take 16).length = 16 := by rw [h]; rfl
  simp only [List.length_take, List.length_drop] at hc ⊢
  by_cases hj : j < hi - lo
  · rw [if_pos (by omega), if_pos (by omega), if_pos (by omega)]
  · rw [if_neg (by omega), if_neg (by omega)]
theorem Gj {b' off : Nat} {k : IntKind} {i : Int} {p : W2} {c : BitVec 8} (hu : P.underlying t = some (.array 16 e)) (hs : Ys P e 1) (hx : ev L x = some (.pointer (some ⟨b', off, none⟩))) (hy : ev L y = some (.int k i)) (hg : Xt (Xz p) i = some c) : VV P L ⟨dst, .indexAddr t x y, ty, pos, af, gu⟩ w (.pointer (some ⟨b', off + i.toNat * 1, none⟩)) :=
  Nq hu hs hx hy (Fo hg) (by have := Ew hg; rw [Kj] at this; omega)
theorem Mu {b off q : Nat} {tb : TypeId} {cs : List Value} {p : W2} {i : Int} {c : BitVec 8} (h1 : Yd P t) (hx : ev L x = some (.pointer (some ⟨b, q, none⟩))) (hb : Bx w b tb cs) (h : (cs.drop off).take 16 = kb p) (hg : Xt (Xz p) i = some c) (hq : q = off + i.toNat) : VV P L ⟨dst, .load t x, ty, pos, af, gu⟩ w (bv c) := by
  refine Qd h1 hx hb ?_
  have hi := Lf hg
  have Jt : i.toNat < 16 := by have := Ew hg; have := Fo hg; rw [Kj] at *; omega
  have e1 : (kb p)[i.toNat]? = some (bv c) := by
    have hw : Ws 1 ((Xz p).map Xq) := Wb _ (fun _ => rfl) (fun _ => rfl)
    have := hw.at (i.toNat) 0 (Xq c) (Dy hi) (by omega)
    rw [Sc]
    simpa using this
  rw [← h, List.getElem?_take, if_pos Jt, List.getElem?_drop] at e1
  rw [hq]; exact e1
theorem Xgq {cs : List Value} {off : Nat} {p q : W2} {i : Nat} {c : BitVec 8} (h : (cs.drop off).take 16 = kb p) (hi : i < 16) (hq : Xz q = (Xz p).set i c) (hl : off + 16 ≤ cs.length) : cs.set (off + i) (bv c) = Vh cs off (kb q) := by
  have hkq : kb q = (kb p).set i (bv c) := by
    rw [Sc, Sc, hq]
    have e1 : ∀ (l : List (BitVec 8)) (i : Nat), ((l.set i c).map Xq).flatten = ((l.map Xq).flatten).set i (bv c) := by
      intro l
      induction l with
      | nil => intro i; simp
      | cons a l ih =>
        intro i
        cases i with
        | zero => simp
        | succ i => rw [List.set_cons_succ, List.map_cons, List.flatten_cons, ih, List.map_cons, List.flatten_cons]; rfl
    exact e1 _ _
  have hkl : (kb q).length = 16 := rfl
  apply List.ext_getElem?
  intro j
  rw [List.getElem?_set]
  unfold Vh
  rw [hkl]
  by_cases h1 : j < off
  · rw [if_neg (by omega), List.append_assoc, List.getElem?_append_left (by simp; omega), List.getElem?_take_of_lt h1]
  · by_cases h2 : j < off + 16
    · rw [List.append_assoc, List.getElem?_append_right (by simp; omega), List.getElem?_append_left (by simp [hkl]; omega)]
      have e2 : j - (cs.take off).length = j - off := by simp; omega
      rw [e2, hkq, List.getElem?_set, ← h]
      by_cases h3 : i = j - off
      · rw [if_pos (by omega), if_pos h3]
        have : i < ((cs.drop off).take 16).length := by simp; omega
        rw [if_pos (by omega), if_pos this]
      · rw [if_neg (by omega), if_neg h3, List.getElem?_take_of_lt (by omega), List.getElem?_drop]
        congr 1; omega
    · rw [if_neg (by omega), List.append_assoc, List.getElem?_append_right (by simp; omega), List.getElem?_append_right (by simp [hkl]; omega), List.getElem?_drop]
      congr 1; simp [hkl]; omega
theorem Qep {b off qq : Nat} {tb : TypeId} {cs cs' : List Value} {p q : W2} {i : Int} {c : BitVec 8} (hs : Ys P t 1) (hx : ev L x = some (.pointer (some ⟨b, qq, none⟩))) (hy : ev L y = some (bv c)) (hb : Bx w b tb cs) (h : (cs.drop off).take 16 = kb p) (hk : Ti p i c = some q) (hq : qq = off + i.toNat * 1) (hl : Nat.ble (off + 16) cs.length = true) (he : Vh cs off (kb q) = cs') :
    EV P L ⟨dst, .store t x y, ty, pos, af, gu⟩ w fun _ w' => Bx w' b tb cs' ∧ Md b w w' := by
  obtain ⟨hi, hkq⟩ := Qms hk
  have hl' := Nat.le_of_ble_eq_true hl
  refine Hn hs hx hy rfl hb (by simp; omega) ?_
  rw [← he, ← Xgq h (by omega) hkq hl']
  congr 1; omega
def Qk2 (l : List (BitVec 8)) : ByteArray := ⟨(l.map UInt8.ofBitVec).toArray⟩
abbrev stv (l : List (BitVec 8)) : Value := .string (Qk2 l)
theorem Qk7 {l : List (BitVec 8)} {s d : TypeId} (hs : P.underlying s = some (.slice e)) (he : P.underlying e = some (.int .u8)) (hd : P.underlying d = some .string) (hx : ev L x = some v) (hr : Rd w z g o 1 v (l.map Xq)) : VV P L ⟨dst, .convert s d x, ty, pos, af, gu⟩ w (stv l) := fun ρ hρ => by
  refine Gh ?_
  rw [hρ _ _ hx]
  rcases hr.2 with ⟨_, h0, a, cap, rfl⟩ | ⟨_, cap, rfl, _, hcell⟩
  · have : l = [] := by simpa using h0
    subst this
    rw [run_convert_bytes_string _ _ _ _ _ _ _ hs he hd]
    cases a with
    | none => simp [Conv.bytesToString, Qk2]; rfl
    | some a =>
      have := run_bytesToString (P := P) w a 0 cap [] (by simpa using run_loadCells_list (P := P) w a [] (by simp))
      rw [this]; rfl
  · have := run_convert_bytes_back (P := P) w s d e ⟨g, o, none⟩ cap (l.map UInt8.ofBitVec) hs he hd (fun j hj => by
      rw [Addr.add_lit]
      refine hcell j _ ?_
      have hj' : j < l.length := by simpa using hj
      have hw := hr.1.at j 0 (Xq l[j]) (by simp [hj']) (by omega)
      simp only [Nat.mul_one, Nat.add_zero] at hw
      rw [hw]
      simp [Xf])
    rw [List.length_map] at this
    rw [List.length_map]; exact this
theorem Xgu (l : List (BitVec 8)) : (Qk2 l).toList = l.map UInt8.ofBitVec := by rw [ByteArray.toList_eq]; simp [Qk2]
theorem Xd1 {l m : List (BitVec 8)} (h : l.map UInt8.ofBitVec = m.map UInt8.ofBitVec) : l = m := by
  have : Function.Injective UInt8.ofBitVec := fun a b h => by cases h; rfl
  exact (List.map_inj_right (fun _ _ h => this h)).1 h
theorem Qvf {l m : List (BitVec 8)} {u : TypeId} (hx : ev L x = some (stv l)) (hy : ev L y = some (stv m)) : VV P L ⟨dst, .binOp .eql t x y u, ty, pos, af, gu⟩ w (.bool (decide (l = m))) := fun ρ hρ => by
  have : (l.map UInt8.ofBitVec == m.map UInt8.ofBitVec) = decide (l = m) := by
    by_cases h : l = m
    · subst h; simp
    · have : ¬ (l.map UInt8.ofBitVec = m.map UInt8.ofBitVec) := fun e => h (Xd1 e)
      simp [h, this]
  simp [execOp, hρ _ _ hx, hρ _ _ hy, go_sem, eqGuard, binOp, Op.stringOp, Xgu, this]
end
def Gs {α : Type} (d s : List α) : List α := s.take d.length ++ d.drop s.length
def Bm {α : Type} (d s : List α) : Int := ((min s.length d.length : Nat) : Int)
section
variable {P : Program} {L : Slots} {w : World} {dst : Option Nat} {ty : TypeId} {pos : String} {af : Array Edge} {gu : Option (Nat × Bool)} {x y : Operand} {t e : TypeId} {z g : Nat} {v : Value}
end
end Go.Sx

end
section
set_option linter.unusedVariables false
set_option linter.unusedSimpArgs false
namespace Go.Sx
open Go Go.RowKit
def Vf {α σ R : Type} (F : α → (σ → Option R) → σ → Option R) (d : σ → Option R) (l : List α) : σ → Option R := l.foldr F d
theorem Xbp {α σ R : Type} (F : α → (σ → Option R) → σ → Option R) (d : σ → Option R) : Vf F d [] = d := rfl
theorem Cf {α σ R : Type} (F : α → (σ → Option R) → σ → Option R) (d : σ → Option R) (a : α) (l : List α) : Vf F d (a :: l) = F a (Vf F d l) := rfl
theorem Qew {α σ R : Type} {F : α → (σ → Option R) → σ → Option R} {d : σ → Option R} {l : List α} {k : Nat} {s : σ} {r : R} {a : α} (h : Vf F d (l.drop k) s = some r) (ha : l[k]? = some a) : F a (Vf F d (l.drop (k + 1))) s = some r := by
  obtain ⟨hk, rfl⟩ := List.getElem?_eq_some_iff.1 ha
  rw [List.drop_eq_getElem_cons hk, Cf] at h; exact h
theorem Qex {α β σ R : Type} {F : α → (σ → Option R) → σ → Option R} {d : σ → Option R} {l : List α} {c : α → β} {s : σ} {r : R} (h : Vf F d (l.drop (l.map c).length) s = some r) : d s = some r := by
  rw [List.length_map, List.drop_length] at h; exact h
theorem Qn.z1 {w : World} {z g sz : Nat} {e : TypeId} {v : Value} {α : Type} {l : List α} {c : α → List Value} {i : Int} {a : α} (h : Qn w z g e sz v (l.map c)) (hg : Xt l i = some a) : z = 1 := by
  rcases h.2 with ⟨_, _, h0⟩ | ⟨h1, _⟩
  · have : l = [] := by simpa using h0
    subst this; have := Ew hg; have := Fo hg; simp at *; omega
  · exact h1
theorem Fv {l : List (Nat × Nat)} {ms : List Nat} {w w' : World} (h : Kp ms w w') (hn : ∀ k, Jp l k → k ∉ ms) : Kz l w w' := ⟨h.os, h.tape, h.output, h.size, fun k hk hl => h.block k hk (hn k hl)⟩
theorem Qez {l : List (Nat × Nat)} {ms : List Nat} {w w' : World} (h : Kz l w w') (hn : ∀ k, k ∉ ms → Jp l k) : Kp ms w w' := ⟨h.os, h.tape, h.output, h.size, fun k hk hl => h.block k hk (hn k hl)⟩
theorem Qn.hs {w w' : World} {z g sz : Nat} {e : TypeId} {v : Value} {xs : List (List Value)} {ms : List Nat} (h : Qn w z g e sz v xs) (hs : ∀ b ∈ ms, w'.heap[b]? = w.heap[b]?) (hm : z ≠ 0 → g ∈ ms) : Qn w' z g e sz v xs :=
  h.keep (by by_cases hz : z = 0; exact .inl hz; exact .inr fun _ => hs g (hm hz))
theorem Rd.hs {w w' : World} {z g o sz : Nat} {v : Value} {xs : List (List Value)} {ms : List Nat} (h : Rd w z g o sz v xs) (he : Uh w w') (hs : ∀ b ∈ ms, w'.heap[b]? = w.heap[b]?) (hm : z ≠ 0 → g ∈ ms) : Rd w' z g o sz v xs :=
  h.keep (by by_cases hz : z = 0; exact .inl hz; exact .inr fun _ => hs g (hm hz)) he.size
theorem Od {α : Type} (p : α → Nat → Prop) (FP : α → List Nat) (F : α → World → Prop) (h1 : ∀ a W, F a W → ∀ b ∈ FP a, b < W.heap.size)
    (h2 : ∀ a W W', F a W → Uh W W' → (∀ b ∈ FP a, W'.heap[b]? = W.heap[b]?) → F a W') : Px fun k fp W => ∃ a, p a k ∧ fp = FP a ∧ F a W :=
  ⟨fun ⟨a, _, h, hF⟩ b hb => h1 a _ hF b (h ▸ hb), fun ⟨a, hp, h, hF⟩ he hs => ⟨a, hp, h, h2 a _ _ hF he (h ▸ hs)⟩⟩
theorem Quz {J : Nat → List Nat → World → Prop} (p : Prop) (h : Px J) : Px fun i fp W => p ∧ J i fp W := ⟨fun h0 b hb => h.lt h0.2 b hb, fun h0 he hs => ⟨h0.1, h.keep h0.2 he hs⟩⟩
def yl {α : Type} (x : α) (m : Option (List α)) : Option (List α) := m.map (x :: ·)
theorem Qha {α : Type} {x : α} {m : Option (List α)} {r : List α} (h : yl x m = some r) : ∃ t, m = some t ∧ r = x :: t := by
  cases m with
  | none => cases h
  | some t => exact ⟨t, rfl, (Option.some.inj h).symm⟩
def Dr {α : Type} (xs : List α) (k : Nat) (rr : List α) : Prop := k ≤ xs.length ∧ xs.drop k = rr
theorem Qle {α : Type} (xs : List α) : Dr xs 0 xs := ⟨Nat.zero_le _, rfl⟩
theorem Dr.at {α : Type} {xs rr t : List α} {k : Nat} {x : α} (h : Dr xs k rr) (e : rr = x :: t) : xs[k]? = some x := by
  have h1 := h.2; rw [e] at h1
  have : (xs.drop k)[0]? = some x := by rw [h1]; rfl
  rwa [List.getElem?_drop, Nat.add_zero] at this
theorem Dr.next {α : Type} {xs rr t : List α} {k : Nat} {x : α} (h : Dr xs k rr) (e : rr = x :: t) : Dr xs (k + 1) t := by
  have h0 := h.at e
  have hk := (List.getElem?_eq_some_iff.1 h0).1
  refine ⟨hk, ?_⟩
  have h1 := h.2; rw [e, List.drop_eq_getElem_cons hk] at h1
  exact (List.cons.inj h1).2
theorem Dr.last {α β : Type} {xs rr : List α} {k : Nat} {c : α → β} (h : Dr xs k rr) (e : rr = []) : k = (xs.map c).length := by
  have h1 := h.2; rw [e, List.drop_eq_nil_iff] at h1
  have := h.1; rw [List.length_map]; omega
theorem Xcw {f f' : List Nat} {s z b : Nat} (hF : ∀ c ∈ f', c ∈ f ∨ s ≤ c) (h : z = 0 ∨ b ∉ f) (Jt : z = 0 ∨ b < s) : z = 0 ∨ b ∉ f' := by
  rcases h with h | h
  · exact .inl h
  · rcases Jt with h1 | h1
    · exact .inl h1
    · exact .inr (Ku hF h h1)
theorem Px.ka {J : Nat → List Nat → World → Prop} (hJ : Px J) {k z g : Nat} {f : List Nat} {W W' : World} (h : J k f W) (a : Ka z g W W') (hb : z = 0 ∨ g ∉ f) : J k f W' := hJ.keep h a.env fun c hc => a.block c (hJ.lt h c hc) (by
  rcases hb with h0 | h0
  · exact .inl h0
  · exact .inr (by rintro rfl; exact h0 hc))
end Go.Sx

end
section
set_option linter.unusedVariables false
set_option linter.unusedSimpArgs false
namespace Go.Sx
open Go Go.RowKit
inductive Tz
  | leaf (seg : List (Nat × Nat))
  | fork (seg : List (Nat × Nat)) (a b : Tz)
def Tz.heads : Tz → List Nat
  | .leaf [] => []
  | .leaf ((i, _) :: _) => [i]
  | .fork [] a b => a.heads ++ b.heads
  | .fork ((i, _) :: _) _ _ => [i]
def Tz.len : Tz → Nat
  | .leaf s => s.length
  | .fork s a _ => s.length + a.len
def Ra (l : List (Nat × Nat)) (listed : Array Bool) : Array Bool := l.foldl (fun s x => s.setIfInBounds x.1 true) listed
def Af (ops : Array Oper) (kp : Nat → Nat → Bool) : List (Nat × Nat) → Array Bool → Bool
  | [], _ => true
  | (i, c) :: rest, listed => (match Gf c with
    | some lv => (Region.ready .any ops listed).contains i && Region.free .any ops listed i && Qip ops (kp lv) listed i
    | none => (Region.ready .any ops listed == [i])) && Af ops kp rest (listed.setIfInBounds i true)
def Hi (ops : Array Oper) (kp : Nat → Nat → Bool) : Tz → Array Bool → Bool
  | .leaf [], _ => false
  | .leaf ((i, c) :: s), listed => (Gf c).isNone && Af ops kp s (listed.setIfInBounds i true) && (Region.ready .any ops (Ra s (listed.setIfInBounds i true))).isEmpty
  | .fork [] a b, listed => Hi ops kp a listed && Hi ops kp b listed && (a.len == b.len)
  | .fork ((i, c) :: s) a b, listed => (Gf c).isNone && Af ops kp s (listed.setIfInBounds i true) && (Region.ready .any ops (Ra s (listed.setIfInBounds i true)) == a.heads ++ b.heads)
      && Hi ops kp a (Ra s (listed.setIfInBounds i true)) && Hi ops kp b (Ra s (listed.setIfInBounds i true)) && (a.len == b.len)
def Qf5 (ops : Array Oper) (kp : Nat → Nat → Bool) : Tz → Array Bool → Bool
  | .leaf s, listed => Af ops kp s listed && (Region.ready .any ops (Ra s listed)).isEmpty
  | .fork s a b, listed => Af ops kp s listed && (Region.ready .any ops (Ra s listed) == a.heads ++ b.heads) && Hi ops kp a (Ra s listed) && Hi ops kp b (Ra s listed) && (a.len == b.len)
def Yr (P : Program) (n : Nat) (ops : Array Oper) (Q : Slots → World → Prop) (S : Nat → World → Prop) (kp : Nat → Nat → Bool) : Tz → Slots → World → Prop
  | .leaf s, L, w => SD P n ops Q S kp s L w
  | .fork s a b, L, w => SD P n ops (fun L w => Yr P n ops Q S kp a L w ∧ Yr P n ops Q S kp b L w) S kp s L w
section
variable {P : Program} {r : Option Nat} {n : Nat} {ops : Array Oper} {Q : Slots → World → Prop} {S : Nat → World → Prop} {kp : Nat → Nat → Bool} {D : List Deferred} {QA : Exit → Act → World → Prop}
theorem SD.seg (hnd : Yc ops = true) (hQ : ∀ c a w, ¬ QA (.panic c) a w) (hO : ¬ LetsOut QA) {fuel : Nat} :
    ∀ (l : List (Nat × Nat)) (listed : Array Bool) (L : Slots) (a : Act) (w : World), Af ops kp l listed = true → Kc n D L a → SD P n ops Q S kp l L w →
      (∀ L a w, Kc n D L a → Q L w → Go.Sx.anyH P r ops QA S kp fuel (Ra l listed) a w) → Go.Sx.anyH P r ops QA S kp (l.length + fuel) listed a w
  | [], listed, L, a, w, ho, hf, h, hk => by rw [List.length_nil, Nat.zero_add]; exact hk L a w hf h
  | (i, c) :: rest, listed, L, a, w, ho, hf, h, hk => by
    have hlen : ((i, c) :: rest).length + fuel = rest.length + fuel + 1 := by simp; omega
    rw [hlen]
    unfold SD at h
    unfold Af at ho
    cases hc : Gf c with
    | some lv =>
      rw [hc] at h ho
      obtain ⟨o, v, hi, hd, hS, hv, hrest⟩ := h
      simp only [Bool.and_eq_true] at ho
      refine Go.Sx.Qp0 hnd hi hQ hO (rest.length + fuel) listed a w (fun j oj h1 h2 h3 h4 => ⟨Region.free_spec hi ho.1.1.2 j oj h1 h2 h3 h4, Qrz ho.1.2 j oj h1 h2 h3 h4⟩) (by simpa using ho.1.1.1) ?_ hS
        (SD.seg hnd hQ hO rest _ _ _ w ho.2 (hf.put hd) hrest hk)
      rcases hv with ⟨hg, hv⟩ | ⟨hg, rfl⟩
      · exact .inl ⟨Nd hf hg, fun w' hw' => hv w' hw' _ hf.cons⟩
      · exact .inr ⟨Nd hf hg, rfl⟩
    | none =>
      rw [hc] at h ho
      obtain ⟨o, hi, hd, h⟩ := h
      simp only [Bool.and_eq_true, beq_iff_eq] at ho
      refine ⟨fun h0 => (by rw [ho.1] at h0; cases h0), fun j hj => ?_⟩
      rw [ho.1] at hj
      simp only [List.mem_singleton] at hj
      subst hj
      unfold wpOpIn
      simp only [hi]
      rcases h with ⟨hg, R, hev, hk2⟩ | ⟨hg, hrest⟩
      · rw [Nd hf hg, if_pos rfl]
        exact (hev _ hf.cons).uponIn (Yc.nd hnd hi) fun v w' hR => ⟨(hk2 v w' hR).1, SD.seg hnd hQ hO rest _ _ _ w' ho.2 (hf.put hd) (hk2 v w' hR).2 hk⟩
      · rw [Nd hf hg]
        simp only [Bool.false_eq_true, if_false]
        exact ⟨fun _ _ => trivial, fun _ _ h => h, SD.seg hnd hQ hO rest _ _ _ w ho.2 (hf.put hd) hrest hk⟩
theorem SD.stepAny (hnd : Yc ops = true) {i c : Nat} {s : List (Nat × Nat)} {listed : Array Bool} {L : Slots} {a : Act} {w : World} {fuel : Nat} (hc : (Gf c).isNone = true) (hf : Kc n D L a) (h : SD P n ops Q S kp ((i, c) :: s) L w)
    (hk : ∀ L a w, Kc n D L a → SD P n ops Q S kp s L w → Go.Sx.anyH P r ops QA S kp fuel (listed.setIfInBounds i true) a w) :
    wpOpIn (Fw r) 0 P ops QA i (fun a' w' => (∀ v, kp v i = true → S v w → S v w') ∧ Go.Sx.anyH P r ops QA S kp fuel (listed.setIfInBounds i true) a' w') a w := by
  unfold SD at h
  rw [Option.isNone_iff_eq_none.1 hc] at h
  obtain ⟨o, hi, hd, h⟩ := h
  unfold wpOpIn
  simp only [hi]
  rcases h with ⟨hg, R, hev, hk2⟩ | ⟨hg, hrest⟩
  · rw [Nd hf hg, if_pos rfl]
    exact (hev _ hf.cons).uponIn (Yc.nd hnd hi) fun v w' hR => ⟨(hk2 v w' hR).1, hk _ _ _ (hf.put hd) (hk2 v w' hR).2⟩
  · rw [Nd hf hg]
    simp only [Bool.false_eq_true, if_false]
    exact ⟨fun _ _ => trivial, fun _ _ h => h, hk _ _ _ (hf.put hd) hrest⟩
theorem Qmx : ∀ (t : Tz) (listed : Array Bool), Hi ops kp t listed = true → ∃ m, t.len = m + 1
  | .leaf [], _, h => by simp [Hi] at h
  | .leaf ((i, c) :: s), _, _ => ⟨s.length, by simp [Tz.len]⟩
  | .fork [] a b, listed, h => by
    simp only [Hi, Bool.and_eq_true] at h
    obtain ⟨m, hm⟩ := Qmx a listed h.1.1
    exact ⟨m, by simp [Tz.len, hm]⟩
  | .fork ((i, c) :: s) a b, _, _ => ⟨s.length + a.len, by simp [Tz.len]; omega⟩
theorem Yr.kid (hnd : Yc ops = true) (hQ : ∀ c a w, ¬ QA (.panic c) a w) (hO : ¬ LetsOut QA) (hq : ∀ L a w, Kc n D L a → Q L w → QA .normal a w) :
    ∀ (t : Tz) (listed : Array Bool) (L : Slots) (a : Act) (w : World) (m : Nat), Hi ops kp t listed = true → t.len = m + 1 → Kc n D L a → Yr P n ops Q S kp t L w → ∀ i ∈ t.heads,
      wpOpIn (Fw r) 0 P ops QA i (fun a' w' => (∀ v, kp v i = true → S v w → S v w') ∧ Go.Sx.anyH P r ops QA S kp m (listed.setIfInBounds i true) a' w') a w
  | .leaf [], _, _, _, _, _, ho, _, _, _, _, _ => by simp [Hi] at ho
  | .leaf ((i, c) :: s), listed, L, a, w, m, ho, hl, hf, h, j, hj => by
    simp only [Tz.heads, List.mem_singleton] at hj; subst hj
    simp only [Hi, Bool.and_eq_true] at ho
    have hm : m = s.length + 0 := by simp [Tz.len] at hl; omega
    subst hm
    refine SD.stepAny hnd ho.1.1 hf h fun L a w hf h => SD.seg hnd hQ hO s _ L a w ho.1.2 hf h fun L a w hf h => ⟨by simpa using ho.2, hq L a w hf h⟩
  | .fork [] x y, listed, L, a, w, m, ho, hl, hf, h, j, hj => by
    simp only [Hi, Bool.and_eq_true, beq_iff_eq] at ho
    simp only [Tz.len, List.length_nil, Nat.zero_add] at hl
    simp only [Tz.heads, List.mem_append] at hj
    have h' : Yr P n ops Q S kp x L w ∧ Yr P n ops Q S kp y L w := h
    rcases hj with hj | hj
    · exact Yr.kid hnd hQ hO hq x listed L a w m ho.1.1 hl hf h'.1 j hj
    · exact Yr.kid hnd hQ hO hq y listed L a w m ho.1.2 (by rw [← ho.2]; exact hl) hf h'.2 j hj
  | .fork ((i, c) :: s) x y, listed, L, a, w, m, ho, hl, hf, h, j, hj => by
    simp only [Tz.heads, List.mem_singleton] at hj; subst hj
    simp only [Hi, Bool.and_eq_true, beq_iff_eq] at ho
    have hm : m = s.length + x.len := by simp [Tz.len] at hl; omega
    subst hm
    refine SD.stepAny hnd ho.1.1.1.1.1 hf h fun L a w hf h => SD.seg hnd hQ hO s _ L a w ho.1.1.1.1.2 hf h fun L a w hf h => ?_
    obtain ⟨mx, hx⟩ := Qmx x _ ho.1.1.2
    have hy : y.len = mx + 1 := by rw [← ho.2]; exact hx
    rw [hx]
    refine ⟨fun h0 => ?_, fun k hk => ?_⟩
    · obtain ⟨z, hz⟩ : ∃ z, z ∈ x.heads := by
        have : ∀ (t : Tz) (l : Array Bool), Hi ops kp t l = true → ∃ z, z ∈ t.heads := by
          intro t
          induction t with
          | leaf s => intro l h; cases s with
            | nil => simp [Hi] at h
            | cons a s => exact ⟨a.1, by simp [Tz.heads]⟩
          | fork s a b iha ihb => intro l h; cases s with
            | nil =>
              simp only [Hi, Bool.and_eq_true] at h
              obtain ⟨z, hz⟩ := iha l h.1.1
              exact ⟨z, by simp [Tz.heads, hz]⟩
            | cons a s => exact ⟨a.1, by simp [Tz.heads]⟩
        exact this x _ ho.1.1.2
      rw [ho.1.1.1.2] at h0
      have : z ∈ x.heads ++ y.heads := List.mem_append_left _ hz
      rw [h0] at this; cases this
    · rw [ho.1.1.1.2] at hk
      rcases List.mem_append.1 hk with hk | hk
      · exact Yr.kid hnd hQ hO hq x _ L a w mx ho.1.1.2 hx hf h.1 k hk
      · exact Yr.kid hnd hQ hO hq y _ L a w mx ho.1.2 hy hf h.2 k hk
theorem Xbi : ∀ (t : Tz) (l : Array Bool), Hi ops kp t l = true → ∃ z, z ∈ t.heads := by
  intro t
  induction t with
  | leaf s => intro l h; cases s with
    | nil => simp [Hi] at h
    | cons a s => exact ⟨a.1, by simp [Tz.heads]⟩
  | fork s a b iha ihb => intro l h; cases s with
    | nil =>
      simp only [Hi, Bool.and_eq_true] at h
      obtain ⟨z, hz⟩ := iha l h.1.1
      exact ⟨z, by simp [Tz.heads, hz]⟩
    | cons a s => exact ⟨a.1, by simp [Tz.heads]⟩
theorem Yr.anyH (hnd : Yc ops = true) (hQ : ∀ c a w, ¬ QA (.panic c) a w) (hO : ¬ LetsOut QA) (hq : ∀ L a w, Kc n D L a → Q L w → QA .normal a w) (t : Tz) (listed : Array Bool) (L : Slots) (a : Act) (w : World) (ho : Qf5 ops kp t listed = true) (hf : Kc n D L a) (h : Yr P n ops Q S kp t L w) :
    Go.Sx.anyH P r ops QA S kp t.len listed a w := by
  cases t with
  | leaf s =>
    simp only [Qf5, Bool.and_eq_true] at ho
    exact SD.seg (fuel := 0) hnd hQ hO s listed L a w ho.1 hf h fun L a w hf h => ⟨by simpa using ho.2, hq L a w hf h⟩
  | fork s x y =>
    simp only [Qf5, Bool.and_eq_true, beq_iff_eq] at ho
    obtain ⟨mx, hx⟩ := Qmx x _ ho.1.1.2
    have hy : y.len = mx + 1 := by rw [← ho.2]; exact hx
    refine SD.seg (fuel := x.len) hnd hQ hO s listed L a w ho.1.1.1.1 hf h fun L a w hf h => ?_
    rw [hx]
    refine ⟨fun h0 => ?_, fun k hk => ?_⟩
    · obtain ⟨z, hz⟩ := Xbi (ops := ops) (kp := kp) x _ ho.1.1.2
      rw [ho.1.1.1.2] at h0
      have : z ∈ x.heads ++ y.heads := List.mem_append_left _ hz
      rw [h0] at this; cases this
    · rw [ho.1.1.1.2] at hk
      rcases List.mem_append.1 hk with hk | hk
      · exact Yr.kid hnd hQ hO hq x _ L a w mx ho.1.1.2 hx hf h.1 k hk
      · exact Yr.kid hnd hQ hO hq y _ L a w mx ho.1.2 hy hf h.2 k hk
end
theorem Hz {P : Program} {n : Nat} {ops : Array Oper} {Q : Slots → World → Prop} {S : Nat → World → Prop} {kp : Nat → Nat → Bool} {a b : Tz} {L : Slots} {w : World} (h1 : Yr P n ops Q S kp a L w) (h2 : Yr P n ops Q S kp b L w) : SD P n ops (fun L w => Yr P n ops Q S kp a L w ∧ Yr P n ops Q S kp b L w) S kp [] L w := ⟨h1, h2⟩
theorem Zj {P : Program} {n : Nat} {ops : Array Oper} {Q : Slots → World → Prop} {S : Nat → World → Prop} {kp : Nat → Nat → Bool} {s : List (Nat × Nat)} {L : Slots} {w : World} (h : SD P n ops Q S kp s L w) : Yr P n ops Q S kp (.leaf s) L w := h
theorem Pb {P : Program} {n : Nat} {ops : Array Oper} {Q : Slots → World → Prop} {S : Nat → World → Prop} {kp : Nat → Nat → Bool} {s : List (Nat × Nat)} {a b : Tz} {L : Slots} {w : World} (h : SD P n ops (fun L w => Yr P n ops Q S kp a L w ∧ Yr P n ops Q S kp b L w) S kp s L w) : Yr P n ops Q S kp (.fork s a b) L w := h
end Go.Sx

end
section
set_option linter.unusedVariables false
set_option linter.unusedSimpArgs false
namespace Go.Sx
open Go Go.RowKit
def Km (mss : List (List Nat)) (w₀ : World) (k : Nat) (w : World) : Prop := ∀ ms, mss[k]? = some ms → Kp ms w₀ w
def kpN (tab : List (Nat × List Nat)) (lv j : Nat) : Bool := tab.all fun x => !(Nat.beq x.1 j && x.2.any (Nat.beq lv))
def Oq (p : Nat → List Nat → Prop) : Nat → List (List Nat) → Prop
  | _, [] => True
  | k, ms :: r => p k ms ∧ Oq p (k + 1) r
theorem Oq.get {p : Nat → List Nat → Prop} : ∀ {l : List (List Nat)} {o : Nat}, Oq p o l → ∀ k ms, l[k]? = some ms → p (o + k) ms
  | [], o, _, k, ms, h => by simp at h
  | a :: r, o, h, 0, ms, hk => by simp at hk; subst hk; exact h.1
  | a :: r, o, h, k + 1, ms, hk => by
    have := Oq.get h.2 k ms (by simpa using hk)
    rw [show o + (k + 1) = o + 1 + k from by omega]; exact this
theorem Kz.ofGr {w w' : World} (h : Gr w w') : Kz [] w w' := (Kz.refl [] w).gr h
theorem Kz.ofMd {w w' : World} {b : Nat} (h : Md b w w') : Kz [(1, b)] w w' := (Kz.refl _ w).md h (by simp [Wc, Mz])
theorem Kz.ofKa {w w' : World} {z g : Nat} (h : Ka z g w w') : Kz [(z, g)] w w' := (Kz.refl _ w).ka h (by by_cases hz : z = 0 <;> simp [Wc, Mz, hz])
theorem Qsh (k : Nat) : Gf (k + 10) = some k := by
  have h1 : Nat.beq (k + 10) 1 = false := Oy (by omega)
  have h2 : Nat.beq (k + 10) 3 = false := Oy (by omega)
  have h3 : Nat.ble 10 (k + 10) = true := Nat.ble_eq_true_of_le (by omega)
  unfold Gf
  rw [h1, h2, h3]; simp
section
variable {P : Program} {n : Nat} {ops : Array Oper} {Q : Slots → World → Prop} {rest : List (Nat × Nat)} {i : Nat} {dst : Option Nat} {op : Op} {ty : TypeId} {pos : String} {af : Array Edge} {gu : Option (Nat × Bool)} {L : Slots} {w w₀ : World} {mss : List (List Nat)} {kp : Nat → Nat → Bool} {ms : List Nat}
theorem Qi0 {v : Value} (k : Nat) (hi : ops[i]? = some ⟨dst, op, ty, pos, af, gu⟩) (hg : gd ops L ⟨dst, op, ty, pos, af, gu⟩ = some true) (hd : Ym n dst = true) (hm : mss[k]? = some ms) (hS : Kp ms w₀ w) (hv : ∀ w, Kp ms w₀ w → VV P L ⟨dst, op, ty, pos, af, gu⟩ w v)
    (h : SD P n ops Q (Km mss w₀) kp rest (Ju dst v L) w) : SD P n ops Q (Km mss w₀) kp ((i, k + 10) :: rest) L w := by
  have hl := Qsh k
  unfold SD
  rw [hl]
  exact ⟨_, v, hi, hd, fun ms' h' => by rw [hm] at h'; cases h'; exact hS, .inl ⟨hg, fun w hw => hv w (hw ms hm)⟩, h⟩
theorem Qxg (k : Nat) (hi : ops[i]? = some ⟨dst, op, ty, pos, af, gu⟩) (hg : gd ops L ⟨dst, op, ty, pos, af, gu⟩ = some false) (hd : Ym n dst = true) (hm : mss[k]? = some ms) (hS : Kp ms w₀ w)
    (h : SD P n ops Q (Km mss w₀) kp rest (Ju dst undef L) w) : SD P n ops Q (Km mss w₀) kp ((i, k + 10) :: rest) L w := by
  have hl := Qsh k
  unfold SD
  rw [hl]
  exact ⟨_, undef, hi, hd, fun ms' h' => by rw [hm] at h'; cases h'; exact hS, .inr ⟨hg, rfl⟩, h⟩
theorem Qxf {t : Bool} (k : Nat) (hi : ops[i]? = some ⟨dst, op, ty, pos, af, gu⟩) (hg : gd ops L ⟨dst, op, ty, pos, af, gu⟩ = some true) (hd : Ym n dst = true) (hm : mss[k]? = some ms) (hS : Kp ms w₀ w) (hv : ∀ w, Kp ms w₀ w → VV P L ⟨dst, op, ty, pos, af, gu⟩ w (.bool t))
    (ht : t = true → SD P n ops Q (Km mss w₀) kp rest (Ju dst (.bool true) L) w) (hf : t = false → SD P n ops Q (Km mss w₀) kp rest (Ju dst (.bool false) L) w) : SD P n ops Q (Km mss w₀) kp ((i, k + 10) :: rest) L w := by
  cases t with
  | true => exact Qi0 k hi hg hd hm hS hv (ht rfl)
  | false => exact Qi0 k hi hg hd hm hS hv (hf rfl)
theorem Qxk {R : Value → World → Prop} (l : List (Nat × Nat)) (hi : ops[i]? = some ⟨dst, op, ty, pos, af, gu⟩) (hg : gd ops L ⟨dst, op, ty, pos, af, gu⟩ = some true) (hd : Ym n dst = true) (hv : EV P L ⟨dst, op, ty, pos, af, gu⟩ w R)
    (hb : Oq (fun k ms => kp k i = true → Yn l (ms.map fun b => (1, b)) w₀.heap.size) 0 mss)
    (h : ∀ v w', R v w' → Kz l w w' ∧ SD P n ops Q (Km mss w₀) kp rest (Ju dst v L) w') : SD P n ops Q (Km mss w₀) kp ((i, 0) :: rest) L w :=
  ⟨_, hi, hd, .inl ⟨hg, R, hv, fun v w' hR => ⟨fun lv hk hS ms hm => Kp.kz (hS ms hm) (h v w' hR).1 (by have := hb.get lv ms hm; rw [Nat.zero_add] at this; exact this hk), (h v w' hR).2⟩⟩⟩
theorem Qxi {v : Value} (hi : ops[i]? = some ⟨dst, op, ty, pos, af, gu⟩) (hg : gd ops L ⟨dst, op, ty, pos, af, gu⟩ = some true) (hd : Ym n dst = true) (hv : VV P L ⟨dst, op, ty, pos, af, gu⟩ w v)
    (h : SD P n ops Q (Km mss w₀) kp rest (Ju dst v L) w) : SD P n ops Q (Km mss w₀) kp ((i, 0) :: rest) L w :=
  ⟨_, hi, hd, .inl ⟨hg, _, hv.ev, fun v' w' ⟨h1, h2⟩ => by subst h1; subst h2; exact ⟨fun _ _ h => h, h⟩⟩⟩
theorem Qxh (hi : ops[i]? = some ⟨dst, op, ty, pos, af, gu⟩) (hg : gd ops L ⟨dst, op, ty, pos, af, gu⟩ = some false) (hd : Ym n dst = true)
    (h : SD P n ops Q (Km mss w₀) kp rest (Ju dst undef L) w) : SD P n ops Q (Km mss w₀) kp ((i, 0) :: rest) L w := ⟨_, hi, hd, .inr ⟨hg, h⟩⟩
end
theorem Qj {q : Prop} (f : q := by (try simp only [Jp, Yn, Wc, Hr, Mz, List.mem_cons, List.mem_append, Jj, List.not_mem_nil, or_false, false_or, not_or, ne_eq, List.nil_append, List.cons_append, true_and, and_true, false_and, and_false, not_true_eq_false, not_false_eq_true, or_true, true_or]) <;> omega) : q := f
theorem Qk {p q : Prop} (h : p) (f : p → q := by intro; (try simp only [Jp, Yn, Wc, Hr, Mz, List.mem_cons, List.mem_append, Jj, List.not_mem_nil, or_false, false_or, not_or, ne_eq, List.nil_append, List.cons_append, true_and, and_true, false_and, and_false, not_true_eq_false, not_false_eq_true, or_true, true_or]) <;> omega) : q := f h
theorem Ke {p1 p2 q : Prop} (h1 : p1) (h2 : p2) (f : p1 → p2 → q := by intro _ _; (try simp only [Jp, Yn, Wc, Hr, Mz, List.mem_cons, List.mem_append, Jj, List.not_mem_nil, or_false, false_or, not_or, ne_eq, List.nil_append, List.cons_append, true_and, and_true, false_and, and_false, not_true_eq_false, not_false_eq_true, or_true, true_or]) <;> omega) : q := f h1 h2
section
variable {A : Nat → Prop} {z g z' g' s z1 g1 z2 g2 z3 g3 : Nat}
theorem Jg (r : Zm ((g' = g ∧ z = 1) ∨ s ≤ g' ∨ z' = 0)) (h : z = 0 ∨ A g) (f : ∀ x, s ≤ x → A x := by intro x hx; (try simp only [Jp, Yn, Wc, Hr, Mz, List.mem_cons, List.mem_append, Jj, List.not_mem_nil, or_false, false_or, not_or, ne_eq, List.nil_append, List.cons_append, true_and, and_true, false_and, and_false, not_true_eq_false, not_false_eq_true, or_true, true_or]) <;> omega) : z' = 0 ∨ A g' := by
  rcases r.o with ⟨h1, h2⟩ | h1 | h1
  · rcases h with h | h
    · omega
    · exact .inr (h1 ▸ h)
  · exact .inr (f _ h1)
  · exact .inl h1
theorem Jf (r : Zm (z = 0 ∨ s ≤ g)) (f : ∀ x, s ≤ x → A x := by intro x hx; (try simp only [Jp, Yn, Wc, Hr, Mz, List.mem_cons, List.mem_append, Jj, List.not_mem_nil, or_false, false_or, not_or, ne_eq, List.nil_append, List.cons_append, true_and, and_true, false_and, and_false, not_true_eq_false, not_false_eq_true, or_true, true_or]) <;> omega) : z = 0 ∨ A g := r.o.imp id (f g)
theorem Xc (r : Zm (z = 0 ∨ (g = g1 ∧ z1 ≠ 0) ∨ s ≤ g)) (h1 : z1 = 0 ∨ A g1) (f : ∀ x, s ≤ x → A x := by intro x hx; (try simp only [Jp, Yn, Wc, Hr, Mz, List.mem_cons, List.mem_append, Jj, List.not_mem_nil, or_false, false_or, not_or, ne_eq, List.nil_append, List.cons_append, true_and, and_true, false_and, and_false, not_true_eq_false, not_false_eq_true, or_true, true_or]) <;> omega) : z = 0 ∨ A g := by
  rcases r.o with h | ⟨h, hz⟩ | h
  · exact .inl h
  · exact .inr (h ▸ h1.resolve_left hz)
  · exact .inr (f _ h)
theorem Xe5 (r : Zm (z = 0 ∨ (z = 1 ∧ g < s))) (f : ∀ x, x < s → A x := by intro x hx; (try simp only [Jp, Yn, Wc, Hr, Mz, List.mem_cons, List.mem_append, Jj, List.not_mem_nil, or_false, false_or, not_or, ne_eq, List.nil_append, List.cons_append, true_and, and_true, false_and, and_false, not_true_eq_false, not_false_eq_true, or_true, true_or]) <;> omega) : z = 0 ∨ A g := r.o.imp id fun h => f _ h.2
theorem Jl (h : z = 0 ∨ z1 = 0 ∨ g ≠ g1) : z1 = 0 ∨ z = 0 ∨ g1 ≠ g := by omega
end
theorem Qwl {v : Value} (h : oneB v = true) : v.cells = [v].toArray := by cases v <;> first | rfl | cases h
theorem Pq {pl : Nat → Option (Nat × Nat)} {z cs : List Value} {i off size : Nat} {v : Value} {r : List (Nat × Value)} (hp : pl i = some (off, size)) (h1 : v.cells.size = size) (hl : Nat.ble (off + size) z.length = true) (hr : Nc pl (Vh z off v.cells.toList) r = some cs) : Nc pl z ((i, v) :: r) = some cs := by
  unfold Nc
  rw [hp]
  simp only [h1]
  rw [if_pos ⟨trivial, Nat.le_of_ble_eq_true hl⟩]; exact hr
theorem Xh0 {P : Program} {r : Option Nat} {n : Nat} {Q : Exit → List Deferred → Slots → World → Prop} {D : List Deferred} {L : Slots} {w : World} {id : Nat} {ops : Array Oper} (mss : List (List Nat)) (tab : List (Nat × List Nat)) (t : Tz) (hm : P.follows .mixedOrders = true) (hnd : Yc ops = true) (hlen : t.len = ops.size)
    (ho : Qf5 ops (kpN tab) t (Array.replicate ops.size false) = true) (h : ∀ w1, RowKit.Below w.heap.size w w1 → w1.heap.size = w.heap.size → Yr P n ops (fun L w => Q .normal D L w) (Km mss w1) (kpN tab) t L w1) : SW P r n (.region id ops true) Q D L w :=
  fun _ ha => wpIn_region_any hm (by
    have := (Yr.anyH (r := r) (D := D) (QA := Qiu n Q) hnd (fun _ _ _ => Qsd) Qsc (fun L _ _ hf hq => ⟨D, L, hf, hq⟩) t _ L _ w.drew ho ha (h w.drew (RowKit.Below.refl _ _).drew rfl)).any
    rw [hlen] at this; exact this)
end Go.Sx

end
section
set_option linter.unusedVariables false
set_option linter.unusedSimpArgs false
namespace Go.Sx
open Go Go.RowKit
def Kf (base : Nat) (ks fp : List Nat) (W : World) : Prop := Wx base ks W ∧ ∀ k ∈ ks, k ∉ fp
section
variable {base b : Nat} {ks fp fp' : List Nat} {W W' : World}
theorem Xco (base : Nat) (fp : List Nat) (W : World) : Kf base [] fp W := ⟨Xcp base W, fun _ h => by cases h⟩
theorem Kf.gr (h : Kf base ks fp W) (g : Gr W W') : Kf base ks fp W' := ⟨h.1.gr g, h.2⟩
theorem Kf.md {t : TypeId} {cs : List Value} (h : Kf base ks fp W) (m : Md b W W') (hb : Bx W b t cs) : Kf base ks fp W' := ⟨h.1.md m (fun hk => by
  have h1 := (h.1.2 b hk).2
  unfold Df at h1; unfold Bx at hb; rw [hb] at h1; simp at h1), h.2⟩
theorem Kf.mdl {W0 : World} {fp0 : List Nat} (h : Kf base ks fp W) (m : Md b W W') (h0 : Kf base ks fp0 W0) (hb : W0.heap.size ≤ b) : Kf base ks fp W' := ⟨h.1.md m (fun hk => by
  have h1 := (h0.1.2 b hk).2.lt
  omega), h.2⟩
theorem Kf.kp (h : Kf base ks fp W) (k : Kp fp W W') (hg : ∀ c ∈ fp', c ∈ fp ∨ W.heap.size ≤ c) : Kf base ks fp' W' :=
  ⟨h.1.kp k h.2, fun j hj => Ku hg (h.2 j hj) (h.1.2 j hj).2.lt⟩
theorem Kf.cons {W0 : World} {fp0 : List Nat} {D : Nat} (h : Kf base ks fp W) (h0 : Kf base ks fp0 W0) (hD : W0.heap.size ≤ D) (hb : base ≤ W0.heap.size) (hd : Df W D) (hn : D ∉ fp) : Kf base (D :: ks) fp W :=
  ⟨h.1.cons (by omega) hd fun hk => by have := (h0.1.2 D hk).2.lt; omega, fun j hj => by
    rcases List.mem_cons.1 hj with rfl | hj
    · exact hn
    · exact h.2 j hj⟩
theorem Kf.leave (h : Kf base ks fp W) : ∃ wl, Qd9 (Rb ks) W wl ∧ Kp ks W wl := h.1.leave
theorem Kf.stb {J : Nat → List Nat → World → Prop} {k : Nat} (hJ : Px J) (h : Kf base ks fp W) (j : J k fp W) (kl : Kp ks W W') : J k fp W' :=
  hJ.keep j kl.env fun c hc => kl.block c (hJ.lt j c hc) fun hk => h.2 c hk hc
theorem Kf.trans {w : World} {f : List Nat} (h : Kf w.heap.size ks fp W) (K : Kp f w W) (kl : Kp ks W W') : Kp f w W' := K.trans kl fun c hc => .inr (h.1.2 c hc).1
end
end Go.Sx
namespace Go.Sx
open Go Go.RowKit
theorem Qxj {P : Program} {n : Nat} {ops : Array Oper} {Q : Slots → World → Prop} {rest : List (Nat × Nat)} {i : Nat} {dst : Option Nat} {op : Op} {ty : TypeId} {pos : String} {af : Array Edge} {gu : Option (Nat × Bool)} {L : Slots} {w w₀ : World} {ms : List Nat} {kp : Nat → Nat → Bool} {R : Value → World → Prop}
    (hi : ops[i]? = some ⟨dst, op, ty, pos, af, gu⟩) (hg : gd ops L ⟨dst, op, ty, pos, af, gu⟩ = some true) (hd : Ym n dst = true) (hv : EV P L ⟨dst, op, ty, pos, af, gu⟩ w R)
    (h : ∀ v w', R v w' → (Kp ms w₀ w → Kp ms w₀ w') ∧ SD P n ops Q (Km [ms] w₀) kp rest (Ju dst v L) w') : SD P n ops Q (Km [ms] w₀) kp ((i, 0) :: rest) L w :=
  ⟨_, hi, hd, .inl ⟨hg, R, hv, fun v w' hR => ⟨fun lv _ hS ms' hm => by
    cases lv with
    | zero => simp at hm; subst hm; exact (h v w' hR).1 (hS _ rfl)
    | succ k => simp at hm, (h v w' hR).2⟩⟩⟩
end Go.Sx

end
section
set_option linter.unusedVariables false
set_option linter.unusedSimpArgs false
namespace Go.Sx
open Go
end Go.Sx

end
section
set_option linter.unusedVariables false
set_option linter.unusedSimpArgs false
namespace Go.Sx
open Go Go.RowKit
def mpE (ks : List Int) : List MapEntry := ks.zipIdx.map fun x => ⟨.int .i64 x.1, .bool true, x.2⟩
structure Mo (w : World) (b : Nat) (ks : List Int) : Prop where
  nd : ks.Nodup
  row : w.heap[b]? = some (.map (mpE ks).toArray ks.length)
def Xfm (ks : List Int) (seen : List Nat) : List Int := (ks.zipIdx.filter fun x => !seen.contains x.2).map (·.1)
def Mi (w : World) (b m : Nat) (ks rem : List Int) : Prop := ∃ seen : List Nat, w.heap[b]? = some (.mapIter (some m) ks.length seen.toArray ks.length) ∧ rem = Xfm ks seen
section
variable {w w' : World} {b m c z g : Nat} {ks rem : List Int} {k : Int} {l : List (Nat × Nat)}
theorem Jt {o : Obj} (h : w.heap[b]? = some o) : b < w.heap.size := (Array.getElem?_eq_some_iff.1 h).1
theorem Mo.lt (h : Mo w b ks) : b < w.heap.size := Jt h.row
theorem Mo.gr (h : Mo w b ks) (G : Gr w w') : Mo w' b ks := ⟨h.nd, (G.block b h.lt).trans h.row⟩
theorem Mo.md (h : Mo w b ks) (M : Md c w w') (ne : b ≠ c := by omega) : Mo w' b ks := ⟨h.nd, (M.block b ne).trans h.row⟩
theorem Mo.ka (h : Mo w b ks) (A : Ka z g w w') (hn : z = 0 ∨ g ≠ b := by omega) : Mo w' b ks := ⟨h.nd, (A.block b h.lt (by omega)).trans h.row⟩
theorem Mo.kz (h : Mo w b ks) (K : Kz l w w') (hn : Jp l b := by simp only [Jp, Yn, Wc, Hr, Mz, or_true, true_or, and_true, List.mem_cons, List.mem_append, Jj, List.not_mem_nil, or_false, false_or, not_or, ne_eq, List.nil_append, List.cons_append, true_and, and_true, false_and, and_false, not_true_eq_false, not_false_eq_true, or_true, true_or] <;> omega) : Mo w' b ks := ⟨h.nd, (K.block b h.lt hn).trans h.row⟩
theorem Mi.lt (h : Mi w b m ks rem) : b < w.heap.size := by obtain ⟨s, h, _⟩ := h; exact Jt h
theorem Mi.gr (h : Mi w b m ks rem) (G : Gr w w') : Mi w' b m ks rem := by obtain ⟨s, h1, h2⟩ := h; exact ⟨s, (G.block b (Jt h1)).trans h1, h2⟩
theorem Mi.md (h : Mi w b m ks rem) (M : Md c w w') (ne : b ≠ c := by omega) : Mi w' b m ks rem := by obtain ⟨s, h1, h2⟩ := h; exact ⟨s, (M.block b ne).trans h1, h2⟩
theorem Mi.ka (h : Mi w b m ks rem) (A : Ka z g w w') (hn : z = 0 ∨ g ≠ b := by omega) : Mi w' b m ks rem := by obtain ⟨s, h1, h2⟩ := h; exact ⟨s, (A.block b (Jt h1) (by omega)).trans h1, h2⟩
theorem Mi.kz (h : Mi w b m ks rem) (K : Kz l w w') (hn : Jp l b := by simp only [Jp, Yn, Wc, Hr, Mz, or_true, true_or, and_true, List.mem_cons, List.mem_append, Jj, List.not_mem_nil, or_false, false_or, not_or, ne_eq, List.nil_append, List.cons_append, true_and, and_true, false_and, and_false, not_true_eq_false, not_false_eq_true, or_true, true_or] <;> omega) : Mi w' b m ks rem := by obtain ⟨s, h1, h2⟩ := h; exact ⟨s, (K.block b (Jt h1) hn).trans h1, h2⟩
end
section
variable {P : Program} {L : Slots} {w : World} {dst : Option Nat} {ty : TypeId} {pos : String} {af : Array Edge} {gu : Option (Nat × Bool)} {x y : Operand} {t K E : TypeId} {b m : Nat} {ks rem : List Int} {k : Int}
structure MpT (P : Program) (t K E : TypeId) : Prop where
  und : P.underlying t = some (.map K E)
  key : P.underlying K = some (.int .i64)
  zero : ∀ w, (zeroValue E).run P w = .ok (.bool false) w
end
end Go.Sx

end
section
set_option linter.unusedVariables false
namespace Go.Sx
open Go Go.RowKit
theorem Qob {P : Program} {n : Nat} {ops : Array Oper} {Q : Slots → World → Prop} {rest : List (Nat × Nat)} {i : Nat} {dst : Option Nat} {ty : TypeId} {pos : String} {af : Array Edge} {gu : Option (Nat × Bool)} {L : Slots} {w : World}
    {f : Nat} {fs cap : List Value} {x : Operand} {aas : Array Operand} {at_ : Array TypeId} {vs : List Value} {fn : Func} {c : Code} (n' : Nat) (hf : P.funcs[f]? = some fn) (hi : ops[i]? = some ⟨dst, .call { callee := .value x, args := aas, argTypes := at_ }, ty, pos, af, gu⟩)
    (hg : gd ops L ⟨dst, .call { callee := .value x, args := aas, argTypes := at_ }, ty, pos, af, gu⟩ = some true) (hd : Ym n dst = true) (hen : En P f) (hx : ev L x = some (.func (.func f) fs.toArray cap.toArray)) (hargs : Ny L aas.toList = some vs)
    (hb : fn.body = some c) (hn : fn.ntmps = n') (hl : Nat.ble (fs ++ vs ++ cap).length n' = true)
    (h : SW P none n' c (Qu8 P fn (fun v w' => SD P n ops Q (fun _ _ => True) (fun _ _ => false) rest (Ju dst v L) w')) [] (Ox 0 (fs ++ vs ++ cap)) w) : SD P n ops Q (fun _ _ => True) (fun _ _ => false) ((i, 0) :: rest) L w :=
  Qup hi hg hd (Dg hen hx hargs (Xe n' hf hb hn hl h)) fun v w' hR => hR
end Go.Sx

end
section
set_option linter.unusedVariables false
namespace Go.Sx
open Go
def Di (a b : Int) : Int := if a < b then b else a
def Hh (a b : Int) : Int := if b < a then b else a
end Go.Sx

end
section
set_option linter.unusedVariables false
set_option linter.unusedSimpArgs false
namespace Go.Sx
open Go Go.RowKit
section
variable {F : Fence} {n : Nat} {P : Program} {a : Act} {w : World} {Q : Exit → Act → World → Prop}
theorem Qcx {b : Frame} {k : List Item} {cs : List Frame} {c : Code} : step P (lone (b.atR a (.code (.scope c) :: k)) cs w) = .next (lone (b.atR a (.code c :: .inScope c :: k)) cs w) := step_lone_go (by simp [stepG, stepG.exec, Frame.atR])
theorem Xgs {b : Frame} {k : List Item} {cs : List Frame} {c : Code} : step P (lone (b.atR a (.inScope c :: k)) cs w) = .next (lone (b.atR a k) cs w) := step_lone_go (by simp [stepG, stepG.exec, Frame.atR])
def Xct (Q : Exit → Act → World → Prop) : Exit → Act → World → Prop
  | .goto _, _, _ => False
  | e, a, w => Q e a w
theorem Xia {c : Code} (h : c.wpIn F n P (Xct Q) a w) : (Code.scope c).wpIn F n P Q a w := by
  intro b k cs hro hb hr
  have h0 : (lone (b.atR a (.code (.scope c) :: k)) cs w).fenced P F := fenced_calm hb hr rfl
  obtain ⟨e, a₁, w₁, hq, harr⟩ := h b (.inScope c :: k) cs hro hb hr
  cases e with
  | normal => exact ⟨.normal, a₁, w₁, hq, .head h0 Qcx (StepsIn.trans harr (.one (fenced_calm hb hr rfl) Xgs))⟩
  | exit id' =>
    have hx : exitTo id' (.inScope c :: k) = exitTo id' k := by simp [exitTo]
    exact ⟨.exit id', a₁, w₁, hq, fun k' hk => .head h0 Qcx (harr.1 k' (by rw [hx]; exact hk)),
      fun hr' hk => let ⟨k₁, h1, h2⟩ := harr.2 hr' (by rw [hx]; exact hk); ⟨k₁, h1, .head h0 Qcx h2⟩⟩
  | goto l => exact hq.elim
  | ret => exact ⟨_, a₁, w₁, hq, .of_steps (.one h0 Qcx) harr⟩
  | panic ch => exact ⟨_, a₁, w₁, hq, .of_steps (.one h0 Qcx) harr⟩
  | outgrown => exact ⟨_, a₁, w₁, hq, .of_steps (.one h0 Qcx) harr⟩
end
def Qun (Q : Exit → List Deferred → Slots → World → Prop) : Exit → List Deferred → Slots → World → Prop
  | .goto _, _, _, _ => False
  | e, D, L, w => Q e D L w
section
variable {P : Program} {r : Option Nat} {n : Nat} {Q : Exit → List Deferred → Slots → World → Prop} {D : List Deferred} {L : Slots} {w : World}
theorem Xh6 {c : Code} (h : SW P r n c (Qun Q) D L w) : SW P r n (.scope c) Q D L w := fun a ha => Xia (wpIn_mono (h a ha) fun e a' w' hh => by
  cases e with
  | goto l => obtain ⟨_, _, _, h⟩ := hh; exact h.elim
  | normal => exact hh
  | exit id => exact hh
  | ret => exact hh
  | panic c => exact hh
  | outgrown => exact hh)
theorem Quo (h : Q .ret D L w) : Qun Q .ret D L w := h
end
section
variable {P : Program} {L : Slots} {w : World} {dst : Option Nat} {ty : TypeId} {pos : String} {af : Array Edge} {gu : Option (Nat × Bool)} {x y q : Operand} {t t2 t3 : TypeId} {a b c : Int} {k k2 k3 : IntKind}
theorem Qkd (hx : ev L x = some (.int k a)) (hy : ev L y = some (.int k2 b)) : VV P L ⟨dst, .call { callee := .builtin .max, args := #[x, y], argTypes := #[t, t2] }, ty, pos, af, gu⟩ w (.int k (Di a b)) := fun ρ hρ => by
  simp [execOp, resolve, invoke, builtin, hρ _ _ hx, hρ _ _ hy, Builtin.max_, Builtin.max2, Di]
theorem Xi4 (hx : ev L x = some (.int k a)) (hy : ev L y = some (.int k2 b)) : VV P L ⟨dst, .call { callee := .builtin .min, args := #[x, y], argTypes := #[t, t2] }, ty, pos, af, gu⟩ w (.int k (Hh a b)) := fun ρ hρ => by
  simp [execOp, resolve, invoke, builtin, hρ _ _ hx, hρ _ _ hy, Builtin.min_, Builtin.min2, Hh]
theorem Xi5 (hx : ev L x = some (.int k a)) (hy : ev L y = some (.int k2 b)) (hq : ev L q = some (.int k3 c)) : VV P L ⟨dst, .call { callee := .builtin .min, args := #[x, y, q], argTypes := #[t, t2, t3] }, ty, pos, af, gu⟩ w (.int k (Hh (Hh a b) c)) := fun ρ hρ => by
  simp [execOp, resolve, invoke, builtin, hρ _ _ hx, hρ _ _ hy, hρ _ _ hq, Builtin.min_, Builtin.min2]; unfold Hh; congr 3
variable {d e : BitVec 64}
end
def BA (P : Program) (t : TypeId) (sz : Nat) (z : List Value) : Prop := ∃ n e, P.underlying t = some (.array n e) ∧ Ys P e sz ∧ ZV P t (.agg z.toArray)
theorem Qok {P : Program} {L : Slots} {w : World} {dst : Option Nat} {ty : TypeId} {pos : String} {af : Array Edge} {gu : Option (Nat × Bool)} {t : TypeId} {sz : Nat} {z cs : List Value} {parts : Array (Nat × Operand)} {vs : List (Nat × Value)} (hb : BA P t sz z) (hp : Bv L parts.toList = some vs) (hf : Nc (fun i => some (i * sz, sz)) z vs = some cs) :
    VV P L ⟨dst, .build t parts, ty, pos, af, gu⟩ w (.agg cs.toArray) := fun ρ hρ => by
  obtain ⟨n, e, hu, hs, hz⟩ := hb
  have e1 : (parts.map fun (x : Nat × Operand) => (x.1, ρ x.2)) = vs.toArray := by rw [← hρ.mapP hp, ← Array.toList_map]
  refine Gh ?_
  show (Instr.build t (parts.map fun (x : Nat × Operand) => (x.1, ρ x.2))).run P w = _
  rw [e1]
  simp only [Instr.build, Sem.run_bind, hz w, Result.andThen, run_underlying hu, hs w, Value.cells, Qig vs z cs hf]; rfl
section
variable {P : Program} {L : Slots} {w : World} {dst : Option Nat} {ty : TypeId} {pos : String} {af : Array Edge} {gu : Option (Nat × Bool)} {x : Operand} {t u e : TypeId} {v : Value} {z g o sz : Nat} {α : Type} {l : List α} {c : α → List Value}
theorem Qtq (hr : Rd w z g o sz v (l.map c)) : (∃ cap, v = .slice none 0 cap ∧ l = []) ∨ ∃ a k cap, v = .slice (some a) k cap := by
  rcases hr.2 with ⟨_, h, a, cap, rfl⟩ | ⟨_, cap, rfl, _⟩
  · cases a with
    | none => exact .inl ⟨cap, rfl, by simpa using h⟩
    | some a => exact .inr ⟨a, 0, cap, rfl⟩
  · exact .inr ⟨_, _, _, rfl⟩
theorem Xg3 {P : Program} {a : Option Addr} {k cap : Nat} {w : World} (d : Nat) (hu : P.underlying t = some (.slice e)) : (Op.equalIn (d + 1) t (.slice a k cap) (.slice none 0 0)).run P w = .ok a.isNone w := by
  cases a <;> simp [Op.equalIn, run_underlying hu]
theorem Xg2 {P : Program} {a : Option Addr} {k cap : Nat} {w : World} (hu : P.underlying t = some (.slice e)) : (Op.equal t (.slice a k cap) (.slice none 0 0)).run P w = .ok a.isNone w := by
  exact Xg3 9999 hu
theorem Qkb {k cap : Nat} {a : Option Addr} (hu : P.underlying t = some (.slice e)) (hx : ev L x = some v) (hv : v = .slice a k cap) : VV P L ⟨dst, .binOp .eql t x (.const (.slice none 0 0)) u, ty, pos, af, gu⟩ w (.bool a.isNone) := fun ρ hρ => by
  subst hv
  simp [execOp, hρ _ _ hx, hρ (.const (.slice none 0 0)) _ rfl, go_sem, binOp, Xg2 hu]
end
section
variable {P : Program} {L : Slots} {w : World} {dst : Option Nat} {ty : TypeId} {pos : String} {af : Array Edge} {gu : Option (Nat × Bool)} {x y p q r : Operand} {t e : TypeId} {v : Value} {z g o sz N : Nat} {α : Type} {l m k : List α} {c : α → List Value} {lo hi : Int} {kl kh km : IntKind}
end
end Go.Sx

end
section
set_option linter.unusedVariables false
set_option linter.unusedSimpArgs false
namespace Go.Sx
open Go Go.RowKit
theorem Xib (n : Int) : IntKind.u8.wrap n = n % 256 := by simp [IntKind.wrap, IntKind.bits, IntKind.signed]
theorem Qt0 (x : BitVec 8) : BitVec.ofInt 8 (Xf x) = x := by unfold Xf; rw [BitVec.ofInt_natCast, BitVec.ofNat_toNat, BitVec.setWidth_eq]
theorem wr8 (x : BitVec 8) : IntKind.u8.wrap (x.toNat : Int) = Xf x := by rw [Xib]; unfold Xf; have := x.isLt; omega
theorem Qw0 (x y : BitVec 8) : bits .xor .u8 (Xf x) (Xf y) = Xf (x ^^^ y) := by
  show IntKind.u8.wrap ((BitVec.ofInt 8 (Xf x) ^^^ BitVec.ofInt 8 (Xf y)).toNat : Int) = _
  rw [Qt0, Qt0, wr8]
section
variable {P : Program} {L : Slots} {w : World} {dst : Option Nat} {ty : TypeId} {pos : String} {af : Array Edge} {gu : Option (Nat × Bool)} {x y : Operand} {t u e : TypeId} {a b : BitVec 8}
theorem Qot (hx : ev L x = some (bv a)) (hy : ev L y = some (bv b)) : VV P L ⟨dst, .binOp .xor t x y u, ty, pos, af, gu⟩ w (bv (a ^^^ b)) := Js (Qd0 (by simp) hx hy) (by rw [Qw0])
theorem Xb0 {bt off cp z2 g2 o2 : Nat} {tb : TypeId} {cs cs' : List Value} {p : W2} {v : Value} {s : List (BitVec 8)} (ha : Dk P t e 1 1) (hx : ev L x = some (.slice (some ⟨bt, off, none⟩) 16 cp)) (hy : ev L y = some v) (hb : Bx w bt tb cs) (h : (cs.drop off).take 16 = kb p) (hr : Rd w z2 g2 o2 1 v (s.map Xq))
    (hl : Nat.ble (off + 16) cs.length = true) (he : Vh cs off (kb (Yh (Gs (Xz p) s))) = cs') :
    EV P L ⟨dst, .call { callee := .builtin .copy, args := #[x, y], argTypes := #[t, t] }, ty, pos, af, gu⟩ w fun v' w' => v' = .int .i64 (Bm (Xz p) s) ∧ Bx w' bt tb cs' ∧ Md bt w w' := fun ρ hρ => by
  obtain ⟨i, zv, hi, hzv, hsz, hby, hzs⟩ := ha.info
  have hl' := Nat.le_of_ble_eq_true hl
  have hs1 : (P.info? e).map (·.size) = some 1 := by rw [hi]; simp [hsz]
  have hkl : (Gs (Xz p) s).length = 16 := by simp [Gs, Kj]; omega
  have hkb : Xz (Yh (Gs (Xz p) s)) = Gs (Xz p) s := by rw [Aa (by omega), List.take_of_length_le (by omega)]
  have Ld : ∀ v' w', (Builtin.copy_ #[t, t] ty #[.slice (some ⟨bt, off, none⟩) 16 cp, v]).run P w = .ok v' w' → (execOp ρ ⟨dst, .call { callee := .builtin .copy, args := #[x, y], argTypes := #[t, t] }, ty, pos, af, gu⟩).run P w = .ok (.value v') w' := fun v' w' h1 => by
    simp [execOp, resolve, invoke, builtin, hρ _ _ hx, hρ _ _ hy, h1]
  have hkey : ∀ m : List Value, (∃ k, k ≤ 16 ∧ m = (((s.map Xq).flatten).take k) ∧ Gs (Xz p) s = s.take k ++ (Xz p).drop k ∧ m.length = k) → Vh cs off m = cs' := by
    rintro m ⟨k, hk, rfl, hc, hml⟩
    rw [← he, Sc, hkb, hc]
    have e0 : ((s.take k ++ (Xz p).drop k).map Xq).flatten = ((s.map Xq).flatten).take k ++ (kb p).drop k := by
      have w1 : Ws 1 (s.map Xq) := Wb _ (fun _ => rfl) (fun _ => rfl)
      have w2 : Ws 1 ((Xz p).map Xq) := Wb _ (fun _ => rfl) (fun _ => rfl)
      rw [List.map_append, List.flatten_append, List.map_take, List.map_drop, Qil _ _ w1, Qij _ _ w2, ← Sc, Nat.mul_one]
    have hkbl : (kb p).length = 16 := rfl
    have hlen : (((s.map Xq).flatten).take k ++ (kb p).drop k).length = 16 := by rw [List.length_append, hml, List.length_drop, hkbl]; omega
    unfold Vh
    rw [e0, hlen, hml, ← h]
    simp only [List.append_assoc]
    congr 2
    rw [List.drop_take, List.drop_drop]
    have e1 : off + 16 = off + k + (16 - k) := by omega
    rw [e1, ← List.drop_drop (i := 16 - k) (j := off + k), List.take_append_drop]
  rcases hr.2 with ⟨hz2, hs0, a, cap, rfl⟩ | ⟨hz2, cap, rfl, Jt, hcell⟩
  · have hs0' : s = [] := by simpa using hs0
    subst hs0'
    refine .val _ _ (Ld _ _ (run_copy_none w t t ty e (some ⟨bt, off, none⟩) a 16 cp 0 cap ha.und hs1 (by simp))) ⟨by simp [Bm, goInt], ?_, Md.refl _ _⟩
    rw [← hkey [] ⟨0, by omega, by simp, by simp [Gs], rfl⟩, Qk1]; exact hb
  · have hfs : (s.map Xq).flatten.length = s.length := by rw [hr.1.flat, List.length_map]; omega
    have hvl : ((s.map Xq).flatten.take (min s.length 16)).length = min s.length 16 := by rw [List.length_take, hfs]; omega
    have hld : (loadCells ⟨g2, o2, none⟩ (min s.length 16)).run P w = .ok ((s.map Xq).flatten.take (min s.length 16)).toArray w := by
      have := run_loadCells_list (P := P) w ⟨g2, o2, none⟩ ((s.map Xq).flatten.take (min s.length 16)) (fun j u hj => by
        rw [Addr.add_lit]
        refine hcell j u ?_
        rw [List.getElem?_take] at hj
        split at hj
        · exact hj
        · cases hj)
      rw [hvl] at this; exact this
    have hone : ∀ u ∈ (s.map Xq).flatten.take (min s.length 16), u.oneCell' = true := fun u hu => hr.1.one u (List.mem_of_mem_take hu)
    obtain ⟨w', hrun, hb', hmd⟩ := Qo9 (P := P) (off := off) _ 0 w cs hone hb (by rw [hvl]; omega)
    refine .val _ w' (Ld _ _ ?_) ⟨rfl, ?_, hmd⟩
    · have e1 : Nat.min (s.map Xq).length 16 = min s.length 16 := by rw [List.length_map]
      have e2 : min s.length (Xz p).length = min s.length 16 := by rw [Kj]
      simp [Builtin.copy_, run_underlying ha.und, Builtin.lenOf, Builtin.firstCells, sizeOf, typeInfo, hi, hsz, hld, hrun, goInt, Bm, e2]
    · rw [Nat.add_zero] at hb'
      rw [← hkey _ ⟨min s.length 16, by omega, rfl, ?_, hvl⟩]; exact hb'
      unfold Gs
      rw [Kj]
      by_cases hle : s.length ≤ 16
      · rw [Nat.min_eq_left hle, List.take_of_length_le (by omega), List.take_of_length_le (by omega)]
      · rw [Nat.min_eq_right (by omega), List.drop_eq_nil_of_le (by rw [Kj]; omega), List.drop_eq_nil_of_le (by rw [Kj]; omega)]
end
section
variable {P : Program} {L : Slots} {w : World} {dst : Option Nat} {ty : TypeId} {pos : String} {af : Array Edge} {gu : Option (Nat × Bool)} {x y : Operand} {t u e : TypeId}
theorem Qke {a : Int} (hx : ev L x = some (.int .i64 a)) : VV P L ⟨dst, .unOp .neg t x, ty, pos, af, gu⟩ w (.int .i64 (Qi (-a))) := fun ρ hρ => by
  simp [execOp, hρ _ _ hx, go_sem]
theorem Xgc {sz : Nat} {xs : List (List Value)} (hw : Ws sz xs) {i : Nat} {c : List Value} (hi : xs[i]? = some c) : (xs.flatten.drop (i * sz)).take sz = c := by
  have hc := (hw c (List.mem_of_getElem? hi)).1
  apply List.ext_getElem?
  intro q
  by_cases hq : q < sz
  · rw [List.getElem?_take_of_lt hq, List.getElem?_drop]
    exact hw.at i q c hi hq
  · rw [List.getElem?_eq_none (by simp; omega), List.getElem?_eq_none (by omega)]
theorem Xi2 {len sz : Nat} {i : Int} {k : IntKind} {α : Type} {l : List α} {c : α → List Value} {a : α} {cs : List Value} (hu : P.underlying t = some (.array len e)) (hs : Ys P e sz) (ha : Ky P e sz) (hx : ev L x = some (.agg cs.toArray)) (hcs : cs = (l.map c).flatten) (hl : l.length = len) (hw : Ws sz (l.map c)) (hy : ev L y = some (.int k i)) (hg : Xt l i = some a) :
    VV P L ⟨dst, .index t x y, ty, pos, af, gu⟩ w (.agg (c a).toArray) := fun ρ hρ => by
  have h0 := Fo hg
  have h1 := Ew hg
  have h1' : i < (len : Int) := by omega
  have hp : (part e cs.toArray (i.toNat * sz)).run P w = .ok (.agg (c a).toArray) w := Er ha (by rw [hcs]; simpa using Xgc hw (Dy (Lf hg)))
  refine Gh ?_
  rw [hρ _ _ hx, hρ _ _ hy]
  simp [Instr.index, run_underlying hu, asIntOf, h0, h1', hs w, hp]
theorem Qh5 {len b' off sz off' : Nat} {i : Int} {k : IntKind} {α : Type} {l : List α} {a : α} (hu : P.underlying t = some (.array len e)) (hs : Ys P e sz) (hx : ev L x = some (.pointer (some ⟨b', off, none⟩))) (hy : ev L y = some (.int k i)) (hg : Xt l i = some a) (hl : l.length = len) (ho : off' = off + i.toNat * sz := by rfl) :
    VV P L ⟨dst, .indexAddr t x y, ty, pos, af, gu⟩ w (.pointer (some ⟨b', off', none⟩)) := by
  subst ho; exact Nq hu hs hx hy (Fo hg) (by have := Ew hg; omega)
theorem Qd3 {len b' off sz : Nat} {i : Int} {k : IntKind} (hu : P.underlying t = some (.array len e)) (hs : Ys P e sz) (hx : ev L x = some (.pointer (some ⟨b', off, none⟩))) (hy : ev L y = some (.int k i)) (h0 : 0 ≤ i ∧ i < len) :
    VV P L ⟨dst, .indexAddr t x y, ty, pos, af, gu⟩ w (.pointer (some ⟨b', off + i.toNat * sz, none⟩)) := Nq hu hs hx hy h0.1 h0.2
theorem Qrf {b' o p q m sz : Nat} {tb : TypeId} {α : Type} {l l' : List α} {c : α → List Value} {a a' : α} {i : Int} {v : Value} {cs cs' vs : List Value} (hs : Ys P t m) (hx : ev L x = some (.pointer (some ⟨b', p, none⟩))) (hy : ev L y = some v) (hc : v.cells = vs.toArray) (hm : vs.length = m) (h1 : Jn vs = true)
    (hb : Bx w b' tb cs) (hw : Ws sz (l.map c)) (ha : cs = cs.take o ++ ((l.map c).flatten ++ cs.drop (o + l.length * sz))) (hol : Nat.ble (o + l.length * sz) cs.length = true) (hg : Xt l i = some a) (hp : p = o + (i.toNat * sz + q)) (hq : Nat.ble (q + m) sz = true) (he : Vh (c a) q vs = c a') (hset : l.set i.toNat a' = l') (he' : cs.take o ++ ((l'.map c).flatten ++ cs.drop (o + l.length * sz)) = cs') :
    EV P L ⟨dst, .store t x y, ty, pos, af, gu⟩ w fun _ w' => Bx w' b' tb cs' ∧ Md b' w w' := by
  have hq' := Nat.le_of_ble_eq_true hq
  have hol' := Nat.le_of_ble_eq_true hol
  have hi := Lf hg
  have hil := (List.getElem?_eq_some_iff.1 hi).1
  have hfl : (l.map c).flatten.length = l.length * sz := by rw [hw.flat, List.length_map]
  have hin : i.toNat * sz + sz ≤ l.length * sz := by rw [← Nat.succ_mul]; exact Nat.mul_le_mul_right _ hil
  refine Qib (off := p) hs hx hy hc hm h1 hb (Nat.ble_eq_true_of_le (by omega)) ?_
  rw [← he', ← hset, List.map_set, ← he, Qmj _ _ _ _ _ hw (Dy hi) (by omega)]
  have e1 : (cs.take o).length = o := by rw [List.length_take]; omega
  generalize hF : (l.map c).flatten = F at *
  generalize hT : cs.drop (o + l.length * sz) = T at *
  generalize hH : cs.take o = H at *
  rw [ha]
  unfold Vh
  rw [hp, show o + (i.toNat * sz + q) = H.length + (i.toNat * sz + q) from by rw [e1], List.take_length_add_append, List.take_append_of_le_length (by omega), Nat.add_assoc H.length, List.drop_length_add_append, List.drop_append_of_le_length (by omega)]
  simp only [List.append_assoc]
theorem Qur {α : Type} {a b y y' : α} {i : Int} (h : Xt [a, b] i = some y) : [a, b].set i.toNat y' = [if i = 0 then y' else a, if i = 0 then b else y'] := by
  have h0 := Fo h
  have h1 := Ew h
  simp at h1
  by_cases hi : i = 0
  · subst hi; rfl
  · have : i = 1 := by omega
    subst this; rfl
end
end Go.Sx

end
section
set_option linter.unusedVariables false
set_option linter.unusedSimpArgs false
namespace Go.Sx
open Go Go.RowKit
structure Rp (α : Type) where
  γ : Type
  sz : Nat
  c : α × γ → List Value
  S : World → List Nat → α × γ → Prop
  ws : ∀ {w F p}, S w F p → (c p).length = sz ∧ Jn (c p) = true
  keep : ∀ {w w' F p}, S w F p → w.heap.size ≤ w'.heap.size → (∀ b ∈ F, b < w.heap.size → w'.heap[b]? = w.heap[b]?) → S w' F p
  mono : ∀ {w F F' p}, S w F p → (∀ b ∈ F, b ∈ F') → S w F' p
def Yo {α : Type} (R : Rp α) (w : World) (z g : Nat) (e : TypeId) (v : Value) (F : List Nat) (l : List α) : Prop :=
  ∃ lg : List (α × R.γ), lg.map Prod.fst = l ∧ Qn w z g e R.sz v (lg.map R.c) ∧ (∀ p ∈ lg, R.S w F p) ∧ (∀ b ∈ F, b < w.heap.size) ∧ (z = 0 ∨ ∀ b ∈ F, b ≠ g)
def Yq {α : Type} (R : Rp α) (w : World) (z g o : Nat) (v : Value) (F : List Nat) (l : List α) : Prop :=
  ∃ lg : List (α × R.γ), lg.map Prod.fst = l ∧ Rd w z g o R.sz v (lg.map R.c) ∧ (∀ p ∈ lg, R.S w F p) ∧ (∀ b ∈ F, b < w.heap.size)
section
variable {α : Type} {R : Rp α} {w w' w₁ : World} {z g o b z' g' : Nat} {e : TypeId} {v : Value} {F F' : List Nat} {l : List α} {lz : List (Nat × Nat)} {ms : List Nat}
theorem Yo.rd (h : Yo R w z g e v F l) : Yq R w z g 0 v F l := by
  obtain ⟨lg, h1, h2, h3, h4, h5⟩ := h; exact ⟨lg, h1, h2.rd, h3, h4⟩
theorem Yo.keep (h : Yo R w z g e v F l) (hs : w.heap.size ≤ w'.heap.size) (hg : z = 0 ∨ (g < w.heap.size → w'.heap[g]? = w.heap[g]?)) (hF : ∀ b ∈ F, b < w.heap.size → w'.heap[b]? = w.heap[b]?) : Yo R w' z g e v F l := by
  obtain ⟨lg, h1, h2, h3, h4, h5⟩ := h
  exact ⟨lg, h1, h2.keep hg, fun p hp => R.keep (h3 p hp) hs hF, fun b hb => Nat.lt_of_lt_of_le (h4 b hb) hs, h5⟩
theorem Yq.keep (h : Yq R w z g o v F l) (hs : w.heap.size ≤ w'.heap.size) (hg : z = 0 ∨ (g < w.heap.size → w'.heap[g]? = w.heap[g]?)) (hF : ∀ b ∈ F, b < w.heap.size → w'.heap[b]? = w.heap[b]?) : Yq R w' z g o v F l := by
  obtain ⟨lg, h1, h2, h3, h4⟩ := h
  exact ⟨lg, h1, h2.keep hg hs, fun p hp => R.keep (h3 p hp) hs hF, fun b hb => Nat.lt_of_lt_of_le (h4 b hb) hs⟩
theorem Yo.gr (h : Yo R w z g e v F l) (k : Gr w w') : Yo R w' z g e v F l := h.keep k.size (.inr fun hl => k.block g hl) (fun b _ hl => k.block b hl)
theorem Yq.gr (h : Yq R w z g o v F l) (k : Gr w w') : Yq R w' z g o v F l := h.keep k.size (.inr fun hl => k.block g hl) (fun b _ hl => k.block b hl)
theorem Yo.md (h : Yo R w z g e v F l) (k : Md b w w') (hn : z = 0 ∨ g ≠ b) (hF : ∀ x ∈ F, 1 = 0 ∨ x ≠ b) : Yo R w' z g e v F l := h.keep (Nat.le_of_eq k.size.symm) (hn.imp id fun hn _ => k.block g hn) (fun x hx _ => k.block x ((hF x hx).resolve_left (by decide)))
theorem Yq.md (h : Yq R w z g o v F l) (k : Md b w w') (hn : z = 0 ∨ g ≠ b) (hF : ∀ x ∈ F, 1 = 0 ∨ x ≠ b) : Yq R w' z g o v F l := h.keep (Nat.le_of_eq k.size.symm) (hn.imp id fun hn _ => k.block g hn) (fun x hx _ => k.block x ((hF x hx).resolve_left (by decide)))
theorem Yo.ka (h : Yo R w z g e v F l) (k : Ka z' g' w w') (hn : z = 0 ∨ z' = 0 ∨ g ≠ g') (hF : ∀ x ∈ F, z' = 0 ∨ x ≠ g') : Yo R w' z g e v F l := h.keep k.size (hn.imp id fun hn hl => k.block g hl hn) (fun x hx hl => k.block x hl (hF x hx))
theorem Yq.ka (h : Yq R w z g o v F l) (k : Ka z' g' w w') (hn : z = 0 ∨ z' = 0 ∨ g ≠ g') (hF : ∀ x ∈ F, z' = 0 ∨ x ≠ g') : Yq R w' z g o v F l := h.keep k.size (hn.imp id fun hn hl => k.block g hl hn) (fun x hx hl => k.block x hl (hF x hx))
theorem Yo.kz (h : Yo R w z g e v F l) (k : Kz lz w w') (hn : z = 0 ∨ Jp lz g) (hF : ∀ x ∈ F, Jp lz x) : Yo R w' z g e v F l := h.keep k.size (hn.imp id fun hn hl => k.block g hl hn) (fun x hx hl => k.block x hl (hF x hx))
theorem Yq.kz (h : Yq R w z g o v F l) (k : Kz lz w w') (hn : z = 0 ∨ Jp lz g) (hF : ∀ x ∈ F, Jp lz x) : Yq R w' z g o v F l := h.keep k.size (hn.imp id fun hn hl => k.block g hl hn) (fun x hx hl => k.block x hl (hF x hx))
theorem Yo.kp (h : Yo R w z g e v F l) (k : Kp ms w w') (hn : z = 0 ∨ g ∉ ms) (hF : ∀ x ∈ F, x ∉ ms) : Yo R w' z g e v F l := h.keep k.size (hn.imp id fun hn hl => k.block g hl hn) (fun x hx hl => k.block x hl (hF x hx))
theorem Yq.kp (h : Yq R w z g o v F l) (k : Kp ms w w') (hn : z = 0 ∨ g ∉ ms) (hF : ∀ x ∈ F, x ∉ ms) : Yq R w' z g o v F l := h.keep k.size (hn.imp id fun hn hl => k.block g hl hn) (fun x hx hl => k.block x hl (hF x hx))
theorem Yo.lth (h : Yo R w z g e v F l) : Zm (z = 0 ∨ (z = 1 ∧ g < w.heap.size)) := by obtain ⟨lg, h1, h2, _⟩ := h; exact h2.lth
theorem Yq.lth (h : Yq R w z g o v F l) : Zm (z = 0 ∨ (z = 1 ∧ g < w.heap.size)) := by obtain ⟨lg, h1, h2, _⟩ := h; exact h2.lth
theorem Yo.oneB (h : Yo R w z g e v F l) : Sx.oneB v = true := by obtain ⟨lg, h1, h2, _⟩ := h; exact h2.oneB
theorem Yq.oneB (h : Yq R w z g o v F l) : Sx.oneB v = true := by obtain ⟨lg, h1, h2, _⟩ := h; exact h2.oneB
theorem Yo.z1 {i : Int} {a : α} (h : Yo R w z g e v F l) (hg : Xt l i = some a) : z = 1 := by
  obtain ⟨lg, h1, h2, _⟩ := h
  rcases h2.2 with ⟨_, _, h0⟩ | ⟨h0, _⟩
  · have := Lf hg
    rw [← h1, List.map_eq_nil_iff.1 h0] at this; simp at this
  · exact h0
theorem Xbg {β : Type} {lg : List (α × β)} {i : Int} {a : α} (h : lg.map Prod.fst = l) (hg : Xt l i = some a) : ∃ x, Xt lg i = some (a, x) := by
  have h0 := Fo hg
  have h1 := Lf hg
  rw [← h, List.getElem?_map] at h1
  cases hx : lg[i.toNat]? with
  | none => rw [hx] at h1; cases h1
  | some p =>
    rw [hx] at h1
    have : p.1 = a := Option.some.inj h1
    exact ⟨p.2, by unfold Xt; rw [if_pos h0, hx, ← this]⟩
theorem Yq.at {i : Int} {a : α} (h : Yq R w z g o v F l) (hg : Xt l i = some a) : ∃ (lg : List (α × R.γ)) (x : R.γ), Rd w z g o R.sz v (lg.map R.c) ∧ Xt lg i = some (a, x) ∧ R.S w F (a, x) := by
  obtain ⟨lg, h1, h2, h3, h4⟩ := h
  obtain ⟨x, hx⟩ := Xbg h1 hg
  exact ⟨lg, x, h2, hx, h3 _ (List.mem_of_getElem? (Lf hx))⟩
variable {P : Program} {L : Slots} {dst : Option Nat} {ty : TypeId} {pos : String} {af : Array Edge} {gu : Option (Nat × Bool)} {x y : Operand} {t : TypeId}
end
section
variable {α : Type} {R : Rp α} {w : World} {F F' : List Nat} {l : List α} {v : Value}
end
section
variable {α β : Type} {w : World} {z g o k sz : Nat} {F : List Nat} {v : Value} {i : Int}
variable {R : Rp α} {l : List α} {a : α} {P : Program} {L : Slots} {dst : Option Nat} {ty : TypeId} {pos : String} {af : Array Edge} {gu : Option (Nat × Bool)} {x y : Operand} {t e : TypeId}
end
section
variable {A : Nat → Prop} {F F2 F3 : List Nat} {z g n n2 x : Nat}
end
end Go.Sx

end
section
set_option linter.unusedVariables false
set_option linter.unusedSimpArgs false
namespace Go.Sx
open Go Go.RowKit
def Pu (b : Bool) (n : Nat) (ops : Array Oper) (L : Slots) (i : Nat) : Option Oper :=
  match ops[i]? with
  | some o => match gd ops L o with
    | some g => bif (g == b) && Ym n o.dst then some o else none
    | none => none
  | none => none
theorem Vw {b : Bool} {n : Nat} {ops : Array Oper} {L : Slots} {i : Nat} {o : Oper} (h : Pu b n ops L i = some o) : ops[i]? = some o ∧ gd ops L o = some b ∧ Ym n o.dst = true := by
  unfold Pu at h
  split at h
  · rename_i o' ho
    split at h
    · rename_i g hg
      cases hc : (g == b) && Ym n o'.dst with
      | false => rw [hc] at h; cases h
      | true =>
        rw [hc] at h; cases h
        rw [Bool.and_eq_true] at hc
        exact ⟨ho, by rw [hg, beq_iff_eq.1 hc.1], hc.2⟩
    · cases h
  · cases h
def od : Nat → Nat → List (Nat × Nat)
  | 0, _ => []
  | n + 1, i => (i, 0) :: od n (i + 1)
theorem Qsy : ∀ n i, (od n i).map (·.1) = List.range' i n
  | 0, _ => rfl
  | n + 1, i => by rw [od, List.map_cons, Qsy n (i + 1)]; rfl
theorem Qsz : ∀ n i, ((od n i).all fun x => (Gf x.2).isNone) = true
  | 0, _ => rfl
  | n + 1, i => by rw [od, List.all_cons, Qsz n (i + 1)]; rfl
section
variable {P : Program} {r : Option Nat} {n : Nat} {Q : Exit → List Deferred → Slots → World → Prop} {D : List Deferred} {L : Slots} {w : World}
theorem qr {id : Nat} {ops : Array Oper} (k : Nat) (hk : ops.size = k) (hnd : Yc ops = true) (h : SD P n ops (fun L w => Q .normal D L w) (fun _ _ => True) (fun _ _ => false) (od k 0) L w) : SW P r n (.region id ops false) Q D L w :=
  Xh5 (od k 0) hnd (Qsz k 0) (by rw [Qsy, hk, List.range_eq_range']) h
theorem qsr {id : Nat} {ops : Array Oper} {y : Code} (k : Nat) (hk : ops.size = k) (hnd : Yc ops = true) (h : SD P n ops (fun L w => Pe (fun D L w => SW P r n y Q D L w) Q .normal D L w) (fun _ _ => True) (fun _ _ => false) (od k 0) L w) : SW P r n (.seq (.region id ops false) y) Q D L w :=
  Qe (qr k hk hnd h)
theorem Zu {c : Operand} {x y : Code} {t : Bool} (hc : ev L c = some (.bool t)) (hf : t = false → SW P r n y Q D L w) (ht : t = true → SW P r n x Q D L w) : SW P r n (.cond c x y) Q D L w := Xj hc ht hf
theorem qj {x y : Code} {β : Type} (dead : List Nat) (dyn : β → Slots) (J : β → World → Prop) (h : SW P r n x (Pe (fun D1 L1 w1 => D1 = D ∧ ∃ b, Py (dyn b ++ Pm dead L) L1 ∧ J b w1) Q) D L w) (hk : ∀ b w1, J b w1 → SW P r n y Q D (dyn b ++ Pm dead L) w1) : SW P r n (.seq x y) Q D L w := Xh1 dead dyn J hk h
end
theorem Qf {A B : Slots} (h : Py A B := by repeat' first | exact trivial | refine ⟨rfl, ?_⟩) : Py A B := h
section
variable {P : Program} {n : Nat} {ops : Array Oper} {Q : Slots → World → Prop} {rest : List (Nat × Nat)} {i : Nat} {dst : Option Nat} {op : Op} {ty : TypeId} {pos : String} {af : Array Edge} {gu : Option (Nat × Bool)} {L : Slots} {w : World}
theorem qv {v : Value} (hi : Pu true n ops L i = some ⟨dst, op, ty, pos, af, gu⟩) (hv : VV P L ⟨dst, op, ty, pos, af, gu⟩ w v) (h : SD P n ops Q (fun _ _ => True) (fun _ _ => false) rest (Ju dst v L) w) : SD P n ops Q (fun _ _ => True) (fun _ _ => false) ((i, 0) :: rest) L w :=
  Qjn (Vw hi).1 (Vw hi).2.1 (Vw hi).2.2 hv h
theorem qe {R : Value → World → Prop} (hi : Pu true n ops L i = some ⟨dst, op, ty, pos, af, gu⟩) (hv : EV P L ⟨dst, op, ty, pos, af, gu⟩ w R) (h : ∀ v w', R v w' → SD P n ops Q (fun _ _ => True) (fun _ _ => false) rest (Ju dst v L) w') : SD P n ops Q (fun _ _ => True) (fun _ _ => false) ((i, 0) :: rest) L w :=
  Qup (Vw hi).1 (Vw hi).2.1 (Vw hi).2.2 hv h
theorem qk (hi : Pu false n ops L i = some ⟨dst, op, ty, pos, af, gu⟩) (h : SD P n ops Q (fun _ _ => True) (fun _ _ => false) rest (Ju dst undef L) w) : SD P n ops Q (fun _ _ => True) (fun _ _ => false) ((i, 0) :: rest) L w :=
  Xg8 (Vw hi).1 (Vw hi).2.1 (Vw hi).2.2 h
theorem qp {t : Bool} (hi : Pu true n ops L i = some ⟨dst, op, ty, pos, af, gu⟩) (hv : VV P L ⟨dst, op, ty, pos, af, gu⟩ w (.bool t)) (ht : t = true → SD P n ops Q (fun _ _ => True) (fun _ _ => false) rest (Ju dst (.bool true) L) w) (hf : t = false → SD P n ops Q (fun _ _ => True) (fun _ _ => false) rest (Ju dst (.bool false) L) w) : SD P n ops Q (fun _ _ => True) (fun _ _ => false) ((i, 0) :: rest) L w :=
  Xg9 (Vw hi).1 (Vw hi).2.1 (Vw hi).2.2 hv ht hf
theorem Jh {t : Bool} (hi : Pu true n ops L i = some ⟨dst, op, ty, pos, af, gu⟩) (hv : VV P L ⟨dst, op, ty, pos, af, gu⟩ w (.bool t)) (hf : t = false → SD P n ops Q (fun _ _ => True) (fun _ _ => false) rest (Ju dst (.bool false) L) w) (ht : t = true → SD P n ops Q (fun _ _ => True) (fun _ _ => false) rest (Ju dst (.bool true) L) w) : SD P n ops Q (fun _ _ => True) (fun _ _ => false) ((i, 0) :: rest) L w := qp hi hv ht hf
theorem qt {R : Value → Nat → Prop} (hi : Pu true n ops L i = some ⟨dst, op, ty, pos, af, gu⟩) (hv : ∃ v o, (∀ w1, VV P L ⟨dst, op, ty, pos, af, gu⟩ w1 v) ∧ R v o) (h : ∀ v o, R v o → SD P n ops Q (fun _ _ => True) (fun _ _ => false) rest (Ju dst v L) w) : SD P n ops Q (fun _ _ => True) (fun _ _ => false) ((i, 0) :: rest) L w := by
  obtain ⟨v, o, h1, h2⟩ := hv
  exact qv hi (h1 w) (h v o h2)
variable {w₀ : World} {mss : List (List Nat)} {ms : List Nat} {kp : Nat → Nat → Bool}
theorem qh {v : Value} (k : Nat) (hi : Pu true n ops L i = some ⟨dst, op, ty, pos, af, gu⟩) (hm : mss[k]? = some ms) (hS : Kp ms w₀ w) (hv : ∀ w, Kp ms w₀ w → VV P L ⟨dst, op, ty, pos, af, gu⟩ w v) (h : SD P n ops Q (Km mss w₀) kp rest (Ju dst v L) w) : SD P n ops Q (Km mss w₀) kp ((i, k + 10) :: rest) L w :=
  Qi0 k (Vw hi).1 (Vw hi).2.1 (Vw hi).2.2 hm hS hv h
theorem qx (k : Nat) (hi : Pu false n ops L i = some ⟨dst, op, ty, pos, af, gu⟩) (hm : mss[k]? = some ms) (hS : Kp ms w₀ w) (h : SD P n ops Q (Km mss w₀) kp rest (Ju dst undef L) w) : SD P n ops Q (Km mss w₀) kp ((i, k + 10) :: rest) L w :=
  Qxg k (Vw hi).1 (Vw hi).2.1 (Vw hi).2.2 hm hS h
theorem qq {t : Bool} (k : Nat) (hi : Pu true n ops L i = some ⟨dst, op, ty, pos, af, gu⟩) (hm : mss[k]? = some ms) (hS : Kp ms w₀ w) (hv : ∀ w, Kp ms w₀ w → VV P L ⟨dst, op, ty, pos, af, gu⟩ w (.bool t)) (ht : t = true → SD P n ops Q (Km mss w₀) kp rest (Ju dst (.bool true) L) w) (hf : t = false → SD P n ops Q (Km mss w₀) kp rest (Ju dst (.bool false) L) w) : SD P n ops Q (Km mss w₀) kp ((i, k + 10) :: rest) L w :=
  Qxf k (Vw hi).1 (Vw hi).2.1 (Vw hi).2.2 hm hS hv ht hf
theorem Nh {t : Bool} (k : Nat) (hi : Pu true n ops L i = some ⟨dst, op, ty, pos, af, gu⟩) (hm : mss[k]? = some ms) (hS : Kp ms w₀ w) (hv : ∀ w, Kp ms w₀ w → VV P L ⟨dst, op, ty, pos, af, gu⟩ w (.bool t)) (hf : t = false → SD P n ops Q (Km mss w₀) kp rest (Ju dst (.bool false) L) w) (ht : t = true → SD P n ops Q (Km mss w₀) kp rest (Ju dst (.bool true) L) w) : SD P n ops Q (Km mss w₀) kp ((i, k + 10) :: rest) L w := qq k hi hm hS hv ht hf
theorem qz {R : Value → World → Prop} (l : List (Nat × Nat)) (hi : Pu true n ops L i = some ⟨dst, op, ty, pos, af, gu⟩) (hv : EV P L ⟨dst, op, ty, pos, af, gu⟩ w R) (hb : Oq (fun k ms => kp k i = true → Yn l (ms.map fun b => (1, b)) w₀.heap.size) 0 mss) (h : ∀ v w', R v w' → Kz l w w' ∧ SD P n ops Q (Km mss w₀) kp rest (Ju dst v L) w') : SD P n ops Q (Km mss w₀) kp ((i, 0) :: rest) L w :=
  Qxk l (Vw hi).1 (Vw hi).2.1 (Vw hi).2.2 hv hb h
theorem qw {v : Value} (hi : Pu true n ops L i = some ⟨dst, op, ty, pos, af, gu⟩) (hv : VV P L ⟨dst, op, ty, pos, af, gu⟩ w v) (h : SD P n ops Q (Km mss w₀) kp rest (Ju dst v L) w) : SD P n ops Q (Km mss w₀) kp ((i, 0) :: rest) L w :=
  Qxi (Vw hi).1 (Vw hi).2.1 (Vw hi).2.2 hv h
theorem qy (hi : Pu false n ops L i = some ⟨dst, op, ty, pos, af, gu⟩) (h : SD P n ops Q (Km mss w₀) kp rest (Ju dst undef L) w) : SD P n ops Q (Km mss w₀) kp ((i, 0) :: rest) L w :=
  Qxh (Vw hi).1 (Vw hi).2.1 (Vw hi).2.2 h
end
theorem iT {p : Prop} [Decidable p] {α : Type} {a b : Option α} {r : α} (h : decide p = true) (hm : (if p then a else b) = some r) : a = some r := Ez (of_decide_eq_true h) hm
theorem iF {p : Prop} [Decidable p] {α : Type} {a b : Option α} {r : α} (h : decide p = false) (hm : (if p then a else b) = some r) : b = some r := Ey (of_decide_eq_false h) hm
def Qn1 : List Value → Nat → Option Value
  | [], _ => none
  | v :: _, 0 => some v
  | _ :: r, k + 1 => Qn1 r k
theorem Qst : ∀ {l : List Value} {k : Nat} {v : Value}, Qn1 l k = some v → l[k]? = some v
  | [], _, _, h => by cases h
  | a :: r, 0, v, h => h
  | a :: r, k + 1, v, h => by rw [List.getElem?_cons_succ]; exact Qst h
def Qj3 (L : Slots) : Op → Option Value
  | .move x => ev L x
  | .assign x => ev L x
  | .extract x q => match ev L x with
    | some (.tuple vs) => Qn1 vs.toList q
    | _ => none
  | .pick c a b => match ev L c with
    | some (.bool t) => bif t then ev L a else ev L b
    | _ => none
  | _ => none
theorem Qtj {P : Program} {L : Slots} {dst : Option Nat} {op : Op} {ty : TypeId} {pos : String} {af : Array Edge} {gu : Option (Nat × Bool)} {v : Value} (h : Qj3 L op = some v) (w : World) : VV P L ⟨dst, op, ty, pos, af, gu⟩ w v := by
  unfold Qj3 at h
  split at h
  · exact Qm h
  · exact Zn h
  · split at h
    · rename_i x q _ vs hx
      exact Qh4 (vs := vs.toList) (by rw [hx]) (Qst h)
    · cases h
  · split at h
    · rename_i c a b _ t hc
      cases t with
      | true => exact Qvl hc h
      | false => exact Qvk hc h
    · cases h
  · cases h
def sqm (n : Nat) (ops : Array Oper) (L : Slots) (i : Nat) : Option (Option Nat × Value) :=
  match ops[i]? with
  | some o => match gd ops L o with
    | some true => match Qj3 L o.op with
      | some v => bif Ym n o.dst then some (o.dst, v) else none
      | none => none
    | _ => none
  | none => none
theorem Qux {n : Nat} {ops : Array Oper} {L : Slots} {i : Nat} {dst : Option Nat} {v : Value} (h : sqm n ops L i = some (dst, v)) : ∃ op ty pos af gu, ops[i]? = some ⟨dst, op, ty, pos, af, gu⟩ ∧ gd ops L ⟨dst, op, ty, pos, af, gu⟩ = some true ∧ Ym n dst = true ∧ Qj3 L op = some v := by
  unfold sqm at h
  split at h
  · rename_i o ho
    split at h
    · rename_i hg
      split at h
      · rename_i v' hv
        cases hc : Ym n o.dst with
        | false => rw [hc] at h; cases h
        | true =>
          rw [hc] at h; cases h
          exact ⟨_, _, _, _, _, ho, hg, hc, hv⟩
      · cases h
    · cases h
  · cases h
def rgn (ops : Array Oper) (k : Nat) : Bool := Nat.beq ops.size k && Yc ops
theorem Qcu {ops : Array Oper} {k : Nat} (h : rgn ops k = true) : ops.size = k ∧ Yc ops = true := by
  unfold rgn at h; rw [Bool.and_eq_true] at h; exact ⟨Nat.eq_of_beq_eq_true h.1, h.2⟩
section
variable {P : Program} {r : Option Nat} {n : Nat} {Q : Exit → List Deferred → Slots → World → Prop} {K : List Deferred → Slots → World → Prop} {D : List Deferred} {L : Slots} {w : World} {S : Nat → World → Prop} {kp : Nat → Nat → Bool}
theorem qd {id : Nat} {ops ops' : Array Oper} {y : Code} (k : Nat) (hk : rgn ops k = true) (h : SD P n ops (fun L w => Pe (fun D L w => SW P r n y Q D L w) Q .normal D L w) (fun _ _ => True) (fun _ _ => false) (od k 0) L w) :
    SD P n ops' (fun L w => Pe (fun D L w => SW P r n (.seq (.region id ops false) y) Q D L w) Q .normal D L w) S kp [] L w := Qa (qsr k (Qcu hk).1 (Qcu hk).2 h)
theorem qs {id : Nat} {ops : Array Oper} {y : Code} (k : Nat) (hk : rgn ops k = true) (h : SD P n ops (fun L w => Pe (fun D L w => SW P r n y Q D L w) Q .normal D L w) (fun _ _ => True) (fun _ _ => false) (od k 0) L w) : SW P r n (.seq (.region id ops false) y) Q D L w :=
  qsr k (Qcu hk).1 (Qcu hk).2 h
theorem qg {id : Nat} {ops : Array Oper} (k : Nat) (hk : rgn ops k = true) (h : SD P n ops (fun L w => Q .normal D L w) (fun _ _ => True) (fun _ _ => false) (od k 0) L w) : SW P r n (.region id ops false) Q D L w :=
  qr k (Qcu hk).1 (Qcu hk).2 h
theorem qb {ops : Array Oper} {K : List Deferred → Slots → World → Prop} (h : Q .ret D L w) : SD P n ops (fun L w => Pe (fun D L w => SW P r n .ret (Pe K Q) D L w) (Pe K Q) .normal D L w) S kp [] L w := Qa (Qo (Zf h))
theorem qu {y : Code} (h : SW P r n y Q D L w) : SW P r n .skip (Pe (fun D L w => SW P r n y Q D L w) Q) D L w := Vi (Xl h)
end
section
variable {P : Program} {n : Nat} {ops : Array Oper} {Q : Slots → World → Prop} {rest : List (Nat × Nat)} {i : Nat} {dst : Option Nat} {op : Op} {ty : TypeId} {pos : String} {af : Array Edge} {gu : Option (Nat × Bool)} {L : Slots} {w w₀ : World} {v : Value} {mss : List (List Nat)} {ms : List Nat} {kp : Nat → Nat → Bool}
theorem qm (h0 : sqm n ops L i = some (dst, v)) (h : SD P n ops Q (fun _ _ => True) (fun _ _ => false) rest (Ju dst v L) w) : SD P n ops Q (fun _ _ => True) (fun _ _ => false) ((i, 0) :: rest) L w := by
  obtain ⟨op, ty, pos, af, gu, h1, h2, h3, h4⟩ := Qux h0
  exact Qjn h1 h2 h3 (Qtj h4 w) h
theorem dn (k : Nat) (h0 : sqm n ops L i = some (dst, v)) (hm : mss[k]? = some ms) (hS : Kp ms w₀ w) (h : SD P n ops Q (Km mss w₀) kp rest (Ju dst v L) w) : SD P n ops Q (Km mss w₀) kp ((i, k + 10) :: rest) L w := by
  obtain ⟨op, ty, pos, af, gu, h1, h2, h3, h4⟩ := Qux h0
  exact Qi0 k h1 h2 h3 hm hS (fun w _ => Qtj h4 w) h
theorem dm (k : Nat) (h0 : sqm n ops L i = some (dst, v)) (hm : mss[k]? = some ms) (h : SD P n ops Q (Km mss w₀) kp rest (Ju dst v L) w₀) : SD P n ops Q (Km mss w₀) kp ((i, k + 10) :: rest) L w₀ := dn k h0 hm (Kp.refl _ _) h
theorem dh {v : Value} (k : Nat) (hi : Pu true n ops L i = some ⟨dst, op, ty, pos, af, gu⟩) (hm : mss[k]? = some ms) (hv : ∀ w, Kp ms w₀ w → VV P L ⟨dst, op, ty, pos, af, gu⟩ w v) (h : SD P n ops Q (Km mss w₀) kp rest (Ju dst v L) w₀) : SD P n ops Q (Km mss w₀) kp ((i, k + 10) :: rest) L w₀ :=
  qh k hi hm (Kp.refl _ _) hv h
theorem dx (k : Nat) (hi : Pu false n ops L i = some ⟨dst, op, ty, pos, af, gu⟩) (hm : mss[k]? = some ms) (h : SD P n ops Q (Km mss w₀) kp rest (Ju dst undef L) w₀) : SD P n ops Q (Km mss w₀) kp ((i, k + 10) :: rest) L w₀ :=
  qx k hi hm (Kp.refl _ _) h
end
section
variable {P : Program} {L : Slots} {w : World} {dst : Option Nat} {ty : TypeId} {pos : String} {af : Array Edge} {gu : Option (Nat × Bool)} {x y : Operand} {t : TypeId}
theorem Qx {b' m : Nat} {tb : TypeId} {cs vs : List Value} (hs : Ky P t m) (hx : ev L x = some (.pointer (some ⟨b', 0, none⟩))) (hy : ev L y = some (.agg vs.toArray)) (h1 : Jn vs = true) (hb : Bx w b' tb cs) (hm : vs.length = m) (hl : cs.length = m) :
    EV P L ⟨dst, .store t x y, ty, pos, af, gu⟩ w fun _ w' => Bx w' b' tb vs ∧ Md b' w w' :=
  Qib hs.siz hx hy rfl hm h1 hb (by rw [hl, Nat.zero_add]; exact Nat.ble_eq_true_of_le (Nat.le_refl _)) (by unfold Vh; rw [List.take_zero, List.nil_append, Nat.zero_add, List.drop_eq_nil_of_le (by omega), List.append_nil])
end
theorem Qz {w : World} : Kz [] w w := Kz.refl _ _
section
variable {b z g z' g' s z1 g1 z2 g2 z3 g3 : Nat}
theorem Hl (r : Zm ((g' = g ∧ z = 1) ∨ s ≤ g' ∨ z' = 0)) (h : z = 0 ∨ g ≠ b) (f : s ≤ b → False := by omega) : z' = 0 ∨ g' ≠ b := Jg (A := (· ≠ b)) r h (fun x hx e => f (e ▸ hx))
theorem Jv (r : Zm (z = 0 ∨ s ≤ g)) (f : s ≤ b → False := by omega) : z = 0 ∨ g ≠ b := Jf (A := (· ≠ b)) r (fun x hx e => f (e ▸ hx))
theorem Xp (r : Zm (z = 0 ∨ (g = g1 ∧ z1 ≠ 0) ∨ s ≤ g)) (h1 : z1 = 0 ∨ g1 ≠ b) (f : s ≤ b → False := by omega) : z = 0 ∨ g ≠ b := Xc (A := (· ≠ b)) r h1 (fun x hx e => f (e ▸ hx))
theorem Xd (r : Zm (z = 0 ∨ (z = 1 ∧ g < s))) (f : b < s → False := by omega) : z = 0 ∨ g ≠ b := Xe5 (A := (· ≠ b)) r (fun x hx e => f (e ▸ hx))
end
def rg : Nat → Nat → List Nat
  | _, 0 => []
  | a, n + 1 => a :: rg (a + 1) n
theorem kG {w w' : World} {p : Prop} (h : Gr w w') (k : p) : Kz [] w w' ∧ p := ⟨Kz.ofGr h, k⟩
theorem kM {w w' : World} {b : Nat} {p : Prop} (h : Md b w w') (k : p) : Kz [(1, b)] w w' ∧ p := ⟨Kz.ofMd h, k⟩
theorem dw {P : Program} {r : Option Nat} {n : Nat} {Q : Exit → List Deferred → Slots → World → Prop} {D : List Deferred} {L : Slots} {w : World} {id : Nat} {ops : Array Oper} (mss : List (List Nat)) (tab : List (Nat × List Nat)) (t : Tz)
    (h : ∀ w1, RowKit.Below w.heap.size w w1 → w1.heap.size = w.heap.size → Yr P n ops (fun L w => Q .normal D L w) (Km mss w1) (kpN tab) t L w1) (hm : P.follows .mixedOrders = true := by kernel_rfl) (hnd : Yc ops = true := by kernel_rfl) (hlen : t.len = ops.size := by exact rfl)
    (ho : Qf5 ops (kpN tab) t (Array.replicate ops.size false) = true := by kernel_rfl) : SW P r n (.region id ops true) Q D L w := Xh0 mss tab t hm hnd hlen ho h
theorem eC {P : Program} {L : Slots} {w : World} {dst : Option Nat} {ty : TypeId} {pos : String} {af : Array Edge} {gu : Option (Nat × Bool)} {f : Nat} {aas : Array Operand} {at_ : Array TypeId} {vs : List Value} {R : Value → World → Prop} (hen : En P f) (hargs : Ny L aas.toList = some vs)
    (hc : Calls P f vs.toArray w fun e w' => ∃ v, e = .returned v ∧ R v w') : EV P L ⟨dst, .call { callee := .value (.func f), args := aas, argTypes := at_ }, ty, pos, af, gu⟩ w R := Kt hen hargs hc
end Go.Sx

end
section
set_option linter.unusedVariables false
set_option linter.unusedSimpArgs false
namespace Go.Sx
open Go Go.RowKit
theorem Vo {a b : Bool} (ha : a = true) (hb : b = true) : (a && b) = true := by rw [ha, hb]; rfl
theorem Xd3 {P : Program} {W : World} {r : Reach} {base : Nat} {t : TypeId} {v : Value} {k : IntKind} (hu : P.underlying t = some (.int k)) (h : Cell.okWide P W r base t v) : ∃ n, v = .int k n ∧ k.has n := by
  simp only [Cell.okWide, hu, Cell.ok] at h
  split at h <;> try (exact h.elim)
  all_goals first | (obtain ⟨rfl, h⟩ := h; rename_i e; cases e; exact ⟨_, rfl, h⟩) | simp_all
theorem Xd2 {P : Program} {W : World} {r : Reach} {base : Nat} {t : TypeId} {v : Value} (hu : P.underlying t = some (.int .i64)) (h : Cell.okWide P W r base t v) : ∃ n : Int, v = .int .i64 n ∧ -9223372036854775808 ≤ n ∧ n ≤ 9223372036854775807 := by
  obtain ⟨n, h1, h2⟩ := Xd3 hu h
  simp only [IntKind.has, IntKind.min, IntKind.max, IntKind.bits, IntKind.signed] at h2
  exact ⟨n, h1, by simpa using h2.1, by simpa using h2.2⟩
end Go.Sx

end
section
set_option linter.unusedVariables false
set_option linter.unusedSimpArgs false
namespace Go.Sx
open Go Go.RowKit
def Jo (n : Int) : Prop := -9223372036854775808 ≤ n ∧ n ≤ 9223372036854775807
section
variable {H : Type} {enc : TypeId × Value → H} {P : Program} {W : World} {fuel : Nat} {t e : TypeId} {cs : List Value} {x : DataW H × List MemPlace}
def Sz (P : Program) (t : TypeId) (d : DataW H) : Prop := ∀ n ∈ d.weights P t, n ≤ reachBytes
abbrev Tr (enc : TypeId × Value → H) (P : Program) (W : World) (fuel : Nat) (t : TypeId) (cs : List Value) (x : DataW H × List MemPlace) : Prop := DataW.trod enc P W 0 (fun _ => true) true fuel t cs = some x
theorem Tb (hu : P.underlying t = some (.int .i64)) (h : Tr enc P W fuel t cs x) : ∃ n : Int, cs = [.int .i64 n] ∧ Jo n := by
  obtain ⟨n, rfl, _, hw⟩ := DataW.trod_int hu h
  simp [Lit.wf, IntKind.min, IntKind.max, IntKind.signed, IntKind.bits] at hw
  exact ⟨n, rfl, by unfold Jo; omega⟩
theorem Ai (hu : P.underlying t = some (.int .u64)) (h : Tr enc P W fuel t cs x) : ∃ n : BitVec 64, cs = [wv n] := by
  obtain ⟨n, rfl, _, hw⟩ := DataW.trod_int hu h
  simp [Lit.wf, IntKind.min, IntKind.max, IntKind.signed, IntKind.bits] at hw
  refine ⟨wd n, ?_⟩
  show [Value.int .u64 n] = [Value.int .u64 (un (wd n))]
  rw [Og n (by omega) (by omega)]
theorem Qf7 (hu : P.underlying t = some (.int .u8)) (h : Tr enc P W fuel t cs x) : ∃ n : BitVec 8, cs = [bv n] := by
  obtain ⟨n, rfl, _, hw⟩ := DataW.trod_int hu h
  simp [Lit.wf, IntKind.min, IntKind.max, IntKind.signed, IntKind.bits] at hw
  refine ⟨Vr n, ?_⟩
  show [Value.int .u8 n] = [Value.int .u8 (Xf (Vr n))]
  have : Xf (Vr n) = n := by unfold Xf Vr; rw [BitVec.toNat_ofInt]; omega
  rw [this]
theorem Xdk (hu : P.underlying t = some .bool) (h : Tr enc P W fuel t cs x) : ∃ b : Bool, cs = [.bool b] := by
  obtain ⟨b, rfl, _⟩ := DataW.trod_bool hu h
  exact ⟨b, rfl⟩
theorem Xbf {cs : List Value} {i : Nat} {v : Value} (h : (cs.drop (i * 1)).take 1 = [v]) : cs[i]? = some v := by
  have : ((cs.drop (i * 1)).take 1)[0]? = some v := by rw [h]; rfl
  simpa [List.getElem?_take, List.getElem?_drop] using this
theorem Xdl (he : P.underlying e = some (.int .u8)) (hc : P.cellsOf e = 1) {m n : Nat} {xs : List (DataW H × List MemPlace)} (hl : cs.length = n) (hx : xs.length = n)
    (h : ∀ i, i < n → DataW.trod enc P W 0 (fun _ => true) true m e ((cs.drop (i * P.cellsOf e)).take (P.cellsOf e)) = xs[i]?) : ∃ l : List (BitVec 8), l.length = n ∧ cs = (l.map Xq).flatten := by
  have key : ∀ i, i < n → ∃ b : BitVec 8, cs[i]? = some (bv b) := fun i hi => by
    have h1 := h i hi
    rw [hc] at h1
    have : ∃ y, xs[i]? = some y := ⟨xs[i], by simp [hx, hi]⟩
    obtain ⟨y, hy⟩ := this
    rw [hy] at h1
    obtain ⟨b, hb⟩ := Qf7 he h1
    exact ⟨b, Xbf hb⟩
  refine ⟨List.ofFn fun i : Fin n => Classical.choose (key i.1 i.2), by simp, ?_⟩
  have hf : ∀ (l : List (BitVec 8)), (l.map Xq).flatten = l.map bv := by
    intro l
    induction l with
    | nil => rfl
    | cons a l ih => simp only [List.map_cons, List.flatten_cons, ih]; rfl
  rw [hf]
  apply List.ext_getElem?
  intro i
  by_cases hi : i < n
  · rw [Classical.choose_spec (key i hi)]
    simp [hi]
  · rw [List.getElem?_eq_none (by omega), List.getElem?_eq_none (by simp; omega)]
theorem Ah (hu : P.underlying t = some (.array 16 e)) (he : P.underlying e = some (.int .u8)) (hc : P.cellsOf e = 1) (ht : P.cellsOf t = 16) (h : Tr enc P W fuel t cs x) : ∃ p : W2, cs = kb p := by
  obtain ⟨xs, m, rfl, rfl, hl, hx, hf⟩ := DataW.trod_array hu h
  obtain ⟨l, h1, h2⟩ := Xdl he hc (hl.trans ht) hx hf
  refine ⟨Yh l, ?_⟩
  rw [Sc, Aa (by omega), List.take_of_length_le (by omega)]; exact h2
theorem Qcz {fs : Array Field} {parts : List (DataW H)} (hu : P.underlying t = some (.struct fs)) (h : Sz P t (.agg parts)) {i : Nat} {u : TypeId} {d : DataW H} (ht : (fs.toList.map (·.type))[i]? = some u) (hd : parts[i]? = some d) : Sz P u d := fun n hn =>
  h n (by simp only [DataW.weights, hu]; exact DataW.weights_mem_each ht hd n hn)
theorem Kh {fs : Array Field} {n : Nat} {xs : List (DataW H × List MemPlace)} (hf : ∀ (i : Nat) (f : Field), fs[i]? = some f → DataW.trod enc P W 0 (fun _ => true) true n f.type ((cs.drop f.offset).take (P.cellsOf f.type)) = xs[i]?) {i o k : Nat} {u : TypeId} {f : Field} {y : DataW H × List MemPlace}
    (hi : fs[i]? = some f) (h1 : f.type = u) (h2 : f.offset = o) (h3 : P.cellsOf u = k) (e : xs[i]? = some y) : Tr enc P W n u ((cs.drop o).take k) y := by
  subst h1; subst h2; subst h3
  exact (hf i f hi).trans e
theorem elA {n m k o i : Nat} {xs : List (DataW H × List MemPlace)} (hf : ∀ i, i < n → DataW.trod enc P W 0 (fun _ => true) true m e ((cs.drop (i * P.cellsOf e)).take (P.cellsOf e)) = xs[i]?) {y : DataW H × List MemPlace} (hi : i < n) (hk : P.cellsOf e = k) (ho : i * k = o) (ey : xs[i]? = some y) : Tr enc P W m e ((cs.drop o).take k) y := by
  subst hk; subst ho
  exact (hf i hi).trans ey
theorem Jz {cs a r : List Value} {o k : Nat} (h : (cs.drop o).take k = a) (hr : cs.drop (o + k) = r) : cs.drop o = a ++ r := by rw [← h, ← hr, ← List.drop_drop, List.take_append_drop]
theorem Tw {cs : List Value} {n : Nat} (h : cs.length = n) : cs.drop n = [] := List.drop_eq_nil_of_le (by omega)
theorem Kb {α : Type} {xs : List α} {n i : Nat} (h : xs.length = n) (hi : Nat.blt i n = true) : ∃ y, xs[i]? = some y := ⟨xs[i]'(by rw [h]; exact Nat.le_of_ble_eq_true hi), by simp⟩
theorem Qwm {w : World} {a : Addr} {n : Nat} {cs : List Value} (h : w.cells? 0 a n = some cs) : cs.length = n ∧ ∀ q u, cs[q]? = some u → w.cell? (a.add q) = some u := by
  unfold World.cells? at h
  rw [if_pos (Nat.zero_le _)] at h
  have hl := mapM_some_length h
  rw [List.length_range] at hl
  refine ⟨hl, fun q u hq => ?_⟩
  have hqn : q < n := by rw [← hl]; exact (List.getElem?_eq_some_iff.1 hq).1
  have := mapM_some_get h q q (by simp [hqn])
  rw [this]; exact hq
theorem Qf6 {r : Reach} {base : Nat} {v : Value} (hu : (∃ fs, P.underlying t = some (.struct fs)) ∨ ∃ n e, P.underlying t = some (.array n e)) (h : Value.okWide P W r base t v) : ∃ cs : List Value, v = .agg cs.toArray := by
  unfold Value.okWide at h
  split at h
  · obtain ⟨cs, rfl, _⟩ := h; exact ⟨cs.toList, rfl⟩
  · obtain ⟨cs, rfl, _⟩ := h; exact ⟨cs.toList, rfl⟩
  · rename_i h1 h2
    rcases hu with ⟨fs, hu⟩ | ⟨n, e, hu⟩
    · exact absurd hu (h1 fs)
    · exact absurd hu (h2 n e)
theorem Xd4 {r : Reach} {base : Nat} {v : Value} (h1 : ∀ fs, P.underlying t ≠ some (.struct fs)) (h2 : ∀ n e, P.underlying t ≠ some (.array n e)) (h : Value.okWide P W r base t v) : Cell.okWide P W r base t v := by
  unfold Value.okWide at h
  split at h
  · rename_i h3; exact absurd h3 (h1 _)
  · rename_i h3; exact absurd h3 (h2 _ _)
  · exact h
theorem Xd5 {r : Reach} {base : Nat} {v : Value} (hu : P.underlying t = some (.int .i64)) (h : Value.okWide P W r base t v) : ∃ n : Int, v = .int .i64 n ∧ Jo n := Xd2 hu (Xd4 (by simp [hu]) (by simp [hu]) h)
theorem Qdh (cs : List Value) : (Value.agg cs.toArray).cells.toList = cs := rfl
theorem Qix {α : Type} {c : α → List Value} {ok : α → Prop} {sz bytes : Nat} (hu : P.underlying t = some (.slice e)) (hc : P.cellsOf e = sz) (hb : P.bytesOf e = bytes) (hpos : 1 ≤ sz) (hcs : ∀ a, (c a).length = sz ∧ Jn (c a) = true)
    (hel : ∀ (fuel : Nat) (cs : List Value) (x : DataW H × List MemPlace), Tr enc P W fuel e cs x → ∃ m : α, cs = c m ∧ ok m) (h : Tr enc P W fuel t cs x) (hw : Sz P t x.1) :
    ∃ (l : List α) (v : Value) (z g o : Nat), cs = [v] ∧ Rd W z g o sz v (l.map c) ∧ (∀ a ∈ l, ok a) ∧ l.length * bytes ≤ 140737488351232 := by
  rcases DataW.trod_slice hu h with ⟨rfl, rfl⟩ | ⟨a, len, cap, elems, rest, n, rfl, rfl, rfl, _, hlc, hcm, hel2, hget, _, _⟩
  · exact ⟨[], _, 0, 0, 0, rfl, ⟨Qox _, .inl ⟨rfl, rfl, none, 0, rfl⟩⟩, by simp, by simp⟩
  · have key : ∀ i, i < len → ∃ m : α, W.cells? 0 (a.add (i * sz)) sz = some (c m) ∧ ok m := fun i hi => by
      have h1 := hget i hi
      rw [hc] at h1
      have hy : elems[i]? = some elems[i] := by simp
      rw [hy] at h1
      rw [Option.bind_eq_some_iff] at h1
      obtain ⟨cs', h2, h3⟩ := h1
      obtain ⟨m, rfl, hm⟩ := hel _ _ _ h3
      exact ⟨m, h2, hm⟩
    let f : Fin len → α := fun i => Classical.choose (key i.1 i.2)
    have hf : ∀ i (hi : i < len), W.cells? 0 (a.add (i * sz)) sz = some (c (f ⟨i, hi⟩)) ∧ ok (f ⟨i, hi⟩) := fun i hi => Classical.choose_spec (key i hi)
    have hws : Ws sz ((List.ofFn f).map c) := fun y hy => by
      obtain ⟨b, _, rfl⟩ := List.mem_map.1 hy; exact hcs b
    have hbd : (List.ofFn f).length * bytes ≤ 140737488351232 := by
      have := hw ((elems.length + rest.length) * P.bytesOf e) (by simp [DataW.weights, hu])
      rw [hb] at this
      have h2 : elems.length * bytes ≤ (elems.length + rest.length) * bytes := Nat.mul_le_mul_right _ (by omega)
      have h3 : reachBytes = 140737488351232 := by decide
      rw [List.length_ofFn, ← hel2]; omega
    rcases Nat.eq_zero_or_pos len with h0 | hp
    · refine ⟨List.ofFn f, _, 0, 0, 0, rfl, ⟨hws, .inl ⟨rfl, ?_, some a, cap, by rw [h0]⟩⟩, ?_, hbd⟩
      · apply List.eq_nil_of_length_eq_zero; simp [h0]
      · intro b hb'; obtain ⟨i, rfl⟩ := List.mem_ofFn.1 hb'; exact (hf i.1 i.2).2
    · have hcell : ∀ j u, ((List.ofFn f).map c).flatten[j]? = some u → W.cell? (a.add j) = some u := fun j u hj => by
        have hjl : j < len * sz := by
          have h1 := (List.getElem?_eq_some_iff.1 hj).1
          rw [hws.flat] at h1; simpa using h1
        have hq : j % sz < sz := Nat.mod_lt _ (by omega)
        have hi : j / sz < len := (Nat.div_lt_iff_lt_mul (by omega)).2 hjl
        obtain ⟨h1, _⟩ := hf (j / sz) hi
        have h2 := hws.at (j / sz) (j % sz) (c (f ⟨j / sz, hi⟩)) (by simp [hi]) hq
        have hdm : j / sz * sz + j % sz = j := by rw [Nat.mul_comm]; exact Nat.div_add_mod j sz
        rw [hdm, hj] at h2
        have h3 := (Qwm h1).2 (j % sz) u h2.symm
        rw [Addr.add_add, hdm] at h3; exact h3
      have hsp : a.spot = none := by
        have h0 : ∃ u, ((List.ofFn f).map c).flatten[0]? = some u := by
          have : 0 < ((List.ofFn f).map c).flatten.length := by rw [hws.flat]; simp; exact Nat.mul_pos hp (by omega)
          exact ⟨_, List.getElem?_eq_getElem this⟩
        obtain ⟨u, hu0⟩ := h0
        simpa [Addr.add] using World.cell?_spot (hcell 0 u hu0)
      obtain ⟨g, o, spot⟩ := a
      simp only at hsp; subst hsp
      have Jt : g < W.heap.size := by
        have h0 : ∃ u, ((List.ofFn f).map c).flatten[0]? = some u := by
          have : 0 < ((List.ofFn f).map c).flatten.length := by rw [hws.flat]; simp; exact Nat.mul_pos hp (by omega)
          exact ⟨_, List.getElem?_eq_getElem this⟩
        obtain ⟨u, hu0⟩ := h0
        have h1 := hcell 0 u hu0
        rcases Nat.lt_or_ge g W.heap.size with h | h
        · exact h
        · simp [World.cell?, Addr.add, Array.getElem?_eq_none h] at h1
      refine ⟨List.ofFn f, _, 1, g, o, rfl, ⟨hws, .inr ⟨rfl, cap, by simp, ⟨Jt, by simpa using hlc⟩, fun j u hj => ?_⟩⟩, ?_, hbd⟩
      · have := hcell j u hj; rw [Addr.add_lit] at this; exact this
      · intro b hb'; obtain ⟨i, rfl⟩ := List.mem_ofFn.1 hb'; exact (hf i.1 i.2).2
end
end Go.Sx

end
section
set_option linter.unusedVariables false
namespace Go.Sx
open Go
def Yj (x : BitVec 64) (s : Nat) : BitVec 64 := x <<< s ||| x >>> (64 - s)
def Lk (p : W2) (k : BitVec 64) : W2 := ((Yj p.1 56 + p.2) ^^^ k, Yj p.2 3 ^^^ ((Yj p.1 56 + p.2) ^^^ k))
def Iv (p : W2) (k : BitVec 64) : W2 := (Yj ((p.1 ^^^ k) - Yj (p.1 ^^^ p.2) 61) 8, Yj (p.1 ^^^ p.2) 61)
def ks (k : W2) : Nat → W2
  | 0 => k
  | i + 1 => Lk (ks k i) (wd (i : Int))
def Wn (k b : W2) : W2 := (List.range 32).foldl (fun p i => Lk p (ks k i).2) b
def Fc (tag : Int) (c n : BitVec 64) : W2 := (wd tag <<< 56 ||| c, n)
def Jk (k : W2) (tag : Int) (n : BitVec 64) : W2 := Wn k (Fc tag 0#64 n)
def Yf (k b : W2) (j : Nat) : W2 := (List.range (32 - j)).foldl (fun p i => Iv p (ks k (31 - i)).2) b
def Dc (k b : W2) : W2 := Yf k b 0
def lg (a : Int) : Int := if a.toNat = 0 then 0 else (Nat.log2 a.toNat : Int) + 1
end Go.Sx

end
section
set_option linter.unusedVariables false
set_option maxRecDepth 100000
namespace Go.Sx
open Go Go.RowKit
structure Ko where
  P : BitVec 64
  Q : BitVec 64
  G : BitVec 64
deriving DecidableEq, Inhabited
def Ko.cs (x : Ko)  : List Value := [wv x.P, wv x.Q, wv x.G]
theorem Ko.cs_ones (x : Ko)   : Jn (Ko.cs x ) = true := by simp only [Ko.cs, List.cons_append, List.nil_append, kb, Jn, Ps, Pr, Pt, cond_true]
theorem Ko.cs_inj {x y : Ko} (h : Ko.cs x = Ko.cs y) : x = y := by
  have h0 : x.P = y.P := Ef (congrArg (fun l => l[0]?) h)
  have h1 : x.Q = y.Q := Ef (congrArg (fun l => l[1]?) h)
  have h2 : x.G = y.G := Ef (congrArg (fun l => l[2]?) h)
  cases x; cases y; simp only at *; subst h0; subst h1; subst h2; rfl
theorem Ko.ws (l : List Ko) : Ws 3 (l.map Ko.cs) := Wb l (fun _ => rfl) (fun _ => rfl)
structure Qs where
  Kind : BitVec 8
  Depth : Int
  Degree : Int
  Group : Ko
deriving DecidableEq, Inhabited
def Qs.cs (x : Qs)  : List Value := [bv x.Kind, .int .i64 x.Depth, .int .i64 x.Degree, wv x.Group.P, wv x.Group.Q, wv x.Group.G]
theorem Qs.cs_ones (x : Qs)   : Jn (Qs.cs x ) = true := by simp only [Qs.cs, List.cons_append, List.nil_append, kb, Jn, Ps, Pr, Pt, cond_true]
theorem Qs.cs_inj {x y : Qs} (h : Qs.cs x = Qs.cs y) : x = y := by
  have h0 : x.Kind = y.Kind := Qpk (congrArg (fun l => l[0]?) h)
  have h1 : x.Depth = y.Depth := Db (congrArg (fun l => l[1]?) h)
  have h2 : x.Degree = y.Degree := Db (congrArg (fun l => l[2]?) h)
  have h3 : x.Group = y.Group := Ko.cs_inj (congrArg (fun l => (l.drop 3).take 3) h)
  cases x; cases y; simp only at *; subst h0; subst h1; subst h2; subst h3; rfl
theorem Qs.ws (l : List Qs) : Ws 6 (l.map Qs.cs) := Wb l (fun _ => rfl) (fun _ => rfl)
structure Xo where
  Node : Int
  Minus : Int
deriving DecidableEq, Inhabited
def Xo.cs (x : Xo)  : List Value := [.int .i64 x.Node, .int .i64 x.Minus]
theorem Xo.cs_ones (x : Xo)   : Jn (Xo.cs x ) = true := by simp only [Xo.cs, List.cons_append, List.nil_append, kb, Jn, Ps, Pr, Pt, cond_true]
theorem Xo.cs_inj {x y : Xo} (h : Xo.cs x = Xo.cs y) : x = y := by
  have h0 : x.Node = y.Node := Db (congrArg (fun l => l[0]?) h)
  have h1 : x.Minus = y.Minus := Db (congrArg (fun l => l[1]?) h)
  cases x; cases y; simp only at *; subst h0; subst h1; rfl
theorem Xo.ws (l : List Xo) : Ws 2 (l.map Xo.cs) := Wb l (fun _ => rfl) (fun _ => rfl)
structure Xn where
  Node : Int
  Minus : Int
  Key : W2
deriving DecidableEq, Inhabited
def Xn.cs (x : Xn)  : List Value := [.int .i64 x.Node, .int .i64 x.Minus] ++ (kb x.Key)
theorem Xn.cs_ones (x : Xn)   : Jn (Xn.cs x ) = true := by simp only [Xn.cs, List.cons_append, List.nil_append, kb, Jn, Ps, Pr, Pt, cond_true]
theorem Xn.cs_inj {x y : Xn} (h : Xn.cs x = Xn.cs y) : x = y := by
  have h0 : x.Node = y.Node := Db (congrArg (fun l => l[0]?) h)
  have h1 : x.Minus = y.Minus := Db (congrArg (fun l => l[1]?) h)
  have h2 : x.Key = y.Key := Hq (congrArg (fun l => (l.drop 2).take 16) h)
  cases x; cases y; simp only at *; subst h0; subst h1; subst h2; rfl
theorem Xn.ws (l : List Xn) : Ws 18 (l.map Xn.cs) := Wb l (fun _ => rfl) (fun _ => rfl)
structure Qu where
  X : BitVec 64
  Y : BitVec 64
deriving DecidableEq, Inhabited
def Qu.cs (x : Qu)  : List Value := [wv x.X, wv x.Y]
theorem Qu.cs_ones (x : Qu)   : Jn (Qu.cs x ) = true := by simp only [Qu.cs, List.cons_append, List.nil_append, kb, Jn, Ps, Pr, Pt, cond_true]
theorem Qu.cs_inj {x y : Qu} (h : Qu.cs x = Qu.cs y) : x = y := by
  have h0 : x.X = y.X := Ef (congrArg (fun l => l[0]?) h)
  have h1 : x.Y = y.Y := Ef (congrArg (fun l => l[1]?) h)
  cases x; cases y; simp only at *; subst h0; subst h1; rfl
theorem Qu.ws (l : List Qu) : Ws 2 (l.map Qu.cs) := Wb l (fun _ => rfl) (fun _ => rfl)
structure Qq where
  Receiver : Int
  Labels : List Xn
  Share : Qu
deriving DecidableEq, Inhabited
def Qq.cs (x : Qq) (v0 : Value) : List Value := [.int .i64 x.Receiver, v0, wv x.Share.X, wv x.Share.Y]
theorem Qq.cs_ones (x : Qq) (v0 : Value) (h0 : oneB v0 = true) : Jn (Qq.cs x v0) = true := by simp only [Qq.cs, List.cons_append, List.nil_append, kb, Jn, Ps, Pr, Pt, cond_true, h0]
structure Zd where
  Subset : Xo
  Box : W2
deriving DecidableEq, Inhabited
def Zd.cs (x : Zd)  : List Value := [.int .i64 x.Subset.Node, .int .i64 x.Subset.Minus] ++ (kb x.Box)
theorem Zd.cs_ones (x : Zd)   : Jn (Zd.cs x ) = true := by simp only [Zd.cs, List.cons_append, List.nil_append, kb, Jn, Ps, Pr, Pt, cond_true]
theorem Zd.cs_inj {x y : Zd} (h : Zd.cs x = Zd.cs y) : x = y := by
  have h0 : x.Subset = y.Subset := Xo.cs_inj (congrArg (fun l => (l.drop 0).take 2) h)
  have h1 : x.Box = y.Box := Hq (congrArg (fun l => (l.drop 2).take 16) h)
  cases x; cases y; simp only at *; subst h0; subst h1; rfl
theorem Zd.ws (l : List Zd) : Ws 18 (l.map Zd.cs) := Wb l (fun _ => rfl) (fun _ => rfl)
structure Zi where
  Items : List Zd
  Base : BitVec 64
  Points : List Qu
  Box : W2
  Check : W2
deriving DecidableEq, Inhabited
def Zi.cs (x : Zi) (v0 : Value) (v1 : Value) : List Value := [v0, wv x.Base, v1] ++ (kb x.Box ++ (kb x.Check))
theorem Zi.cs_ones (x : Zi) (v0 : Value) (v1 : Value) (h0 : oneB v0 = true) (h1 : oneB v1 = true) : Jn (Zi.cs x v0 v1) = true := by simp only [Zi.cs, List.cons_append, List.nil_append, kb, Jn, Ps, Pr, Pt, cond_true, h0, h1]
structure Xv where
  kind : BitVec 8
  depth : Int
  stride : Int
deriving DecidableEq, Inhabited
def Xv.cs (x : Xv)  : List Value := [bv x.kind, .int .i64 x.depth, .int .i64 x.stride]
theorem Xv.cs_ones (x : Xv)   : Jn (Xv.cs x ) = true := by simp only [Xv.cs, List.cons_append, List.nil_append, kb, Jn, Ps, Pr, Pt, cond_true]
theorem Xv.cs_inj {x y : Xv} (h : Xv.cs x = Xv.cs y) : x = y := by
  have h0 : x.kind = y.kind := Qpk (congrArg (fun l => l[0]?) h)
  have h1 : x.depth = y.depth := Db (congrArg (fun l => l[1]?) h)
  have h2 : x.stride = y.stride := Db (congrArg (fun l => l[2]?) h)
  cases x; cases y; simp only at *; subst h0; subst h1; subst h2; rfl
theorem Xv.ws (l : List Xv) : Ws 3 (l.map Xv.cs) := Wb l (fun _ => rfl) (fun _ => rfl)
def Uz (p0 : Qs) (rec2 : (Int) → Option (Xv × Bool)) (a3 : Int) : Option (Xv × Bool) := (if Qi (a3 * a3) < p0.Depth then (rec2 (Qi (a3 + 1))) else (some ((Xv.mk p0.Kind p0.Depth a3), true)))
def Bq (p0 : Qs) (a1 : Bool) : Option (Xv × Bool) := (bif a1 then (some ((Xv.mk 0#8 0 0), false)) else (Qr (Uz p0) Xb 1))
def Qad (p0 : Qs) : Option (Xv × Bool) := (if p0.Kind < 1#8 then (Bq p0 true) else (if 3#8 < p0.Kind then (Bq p0 true) else (if p0.Depth < 0 then (Bq p0 true) else (if (6 : Int) < p0.Depth then (Bq p0 true) else (Bq p0 (decide (p0 ≠ (Qs.mk p0.Kind p0.Depth 0 (Ko.mk 0#64 0#64 0#64)))))))))
def Bn (p0 : Qs) : Option (Int) := Option.bind (Qad p0) fun x1 => ((bif (!x1.2) then (some 30) else (some 0)))
end Go.Sx

end
section
set_option linter.unusedVariables false
set_option maxRecDepth 100000
namespace Go.Sx
open Go Go.RowKit
def Ib (p0 : Qs) : Option (Bool) := (if 1#8 ≤ p0.Kind then (if p0.Kind ≤ 3#8 then (if (0 : Int) ≤ p0.Depth then (if p0.Depth ≤ 6 then (if p0.Degree = 0 then (some (decide (p0.Group = (Ko.mk 0#64 0#64 0#64)))) else (some false)) else (some false)) else (some false)) else (some false)) else (some false))
def Qft (p0 : Qs) : Option (Int) := Option.bind (Ib p0) fun x1 => ((bif (!x1) then (some 30) else (some 0)))
end Go.Sx

end
