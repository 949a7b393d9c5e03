/- Several texts in one: Mir MirB MirC MirD MirE MirF MirG Wd MirH MirI We MirJ MirK MirL Sq Row Opn Pln CaM CrM. -/
import Derived.Test.YtgdojjniakpadaaGreatZb
import Derived.Laws.MakeOwn
import Derived.Laws.Slices
import Derived.Laws.IdiomStrings
import Derived.Laws.Strings
import Derived.Laws.IdiomCopy
import Derived.Laws.IdiomRangeMap
import Derived.ControlIn
import Derived.Laws.CopyRow
import Derived.Test.YtgdojjniakpadaaGreatRows
import Derived.ProofKit
import Derived.OpenShut
import Derived.ShutString
import Derived.ChangeOld
import Derived.Below
import Derived.Carry
import Derived.SizedLaws
set_option linter.unusedVariables false
set_option linter.unusedSimpArgs false
section
set_option linter.unusedVariables false
set_option linter.unusedSimpArgs false
namespace Go.Sx
open Go Go.RowKit
/-! ### words -/
abbrev w64 (n : Int) : Int := IntKind.i64.wrap n
def FUEL : Nat := 18446744073709551616
def fixN {σ R : Type} (F : (σ → Option R) → σ → Option R) (n : Nat) : σ → Option R := Nat.rec (fun _ => none) (fun _ ih s => F ih s) n
theorem fix_step {σ R : Type} (F : (σ → Option R) → σ → Option R) (n : Nat) (s : σ) : fixN F (n + 1) s = F (fixN F n) s := rfl
theorem fix_succ {σ R : Type} {F : (σ → Option R) → σ → Option R} {n : Nat} {s : σ} {r : R} (h : fixN F n s = some r) : ∃ m, n = m + 1 ∧ F (fixN F m) s = some r := by
  cases n with
  | zero => cases h
  | succ m => exact ⟨m, rfl, h⟩
theorem bnd {α β : Type} {o : Option α} {f : α → Option β} {r : β} (h : Option.bind o f = some r) : ∃ a, o = some a ∧ f a = some r := by
  cases o with
  | none => cases h
  | some a => exact ⟨a, rfl, h⟩
theorem ite_t {β : Type} {c : Prop} [Decidable c] {a b : Option β} {r : β} (hc : c) (h : (if c then a else b) = some r) : a = some r := by rwa [if_pos hc] at h
theorem ite_f {β : Type} {c : Prop} [Decidable c] {a b : Option β} {r : β} (hc : ¬ c) (h : (if c then a else b) = some r) : b = some r := by rwa [if_neg hc] at h
theorem cnd_t {β : Type} {c : Bool} {a b : Option β} {r : β} (hc : c = true) (h : (bif c then a else b) = some r) : a = some r := by rw [hc] at h; exact h
theorem cnd_f {β : Type} {c : Bool} {a b : Option β} {r : β} (hc : c = false) (h : (bif c then a else b) = some r) : b = some r := by rw [hc] at h; exact h
/-- element i of a list -/
def getI {α : Type} (l : List α) (i : Int) : Option α := if 0 ≤ i then l[i.toNat]? else none
theorem getI_nn {α : Type} {l : List α} {i : Int} {a : α} (h : getI l i = some a) : 0 ≤ i := by unfold getI at h; split at h <;> first | assumption | cases h
theorem getI_at {α : Type} {l : List α} {i : Int} {a : α} (h : getI l i = some a) : l[i.toNat]? = some a := by unfold getI at h; split at h <;> first | assumption | cases h
theorem getI_lt {α : Type} {l : List α} {i : Int} {a : α} (h : getI l i = some a) : i < l.length := by
  have := (List.getElem?_eq_some_iff.1 (getI_at h)).1; have := getI_nn h; omega
/-- a list with another one behind it, b bytes an element: no more than memory can hold -/
def appG {α : Type} (b : Nat) (l m : List α) : Option (List α) := if (l.length + m.length) * b ≤ 140737488355328 then some (l ++ m) else none
theorem appG_eq {α : Type} {b : Nat} {l m k : List α} (h : appG b l m = some k) : k = l ++ m ∧ (l.length + m.length) * b ≤ 140737488355328 := by
  unfold appG at h; split at h
  · exact ⟨(Option.some.inj h).symm, ‹_›⟩
  · cases h
/-- n elements z -/
def mkL {α : Type} (b : Nat) (n : Int) (z : α) : Option (List α) := if 0 ≤ n ∧ n * b ≤ 140737488355328 then some (List.replicate n.toNat z) else none
theorem mkL_eq {α : Type} {b : Nat} {n : Int} {z : α} {k : List α} (h : mkL b n z = some k) : k = List.replicate n.toNat z ∧ 0 ≤ n ∧ n * b ≤ 140737488355328 := by
  unfold mkL at h; split at h
  · rename_i h1; exact ⟨(Option.some.inj h).symm, h1⟩
  · cases h
/-- a part of a list -/
def sliG {α : Type} (l : List α) (lo hi : Int) : Option (List α) := if 0 ≤ lo ∧ lo ≤ hi ∧ hi ≤ l.length then some ((l.take hi.toNat).drop lo.toNat) else none
theorem sliG_eq {α : Type} {l k : List α} {lo hi : Int} (h : sliG l lo hi = some k) : k = (l.take hi.toNat).drop lo.toNat ∧ 0 ≤ lo ∧ lo ≤ hi ∧ hi ≤ l.length := by
  unfold sliG at h; split at h
  · rename_i h1; exact ⟨(Option.some.inj h).symm, h1⟩
  · cases h
def quoI (a b : Int) : Option Int := if b = 0 then none else some (w64 (a.tdiv b))
def remI (a b : Int) : Option Int := if b = 0 then none else some (a.tmod b)
def quoU {n : Nat} (a b : BitVec n) : Option (BitVec n) := if b=BitVec.ofNat n 0 then none else some (a / b)
def remU {n : Nat} (a b : BitVec n) : Option (BitVec n) := if b=BitVec.ofNat n 0 then none else some (a % b)
/-- a number by which one may shift -/
def shG (n : Int) : Option Nat := if 0 ≤ n then some n.toNat else none
theorem shG_eq {n : Int} {k : Nat} (h : shG n = some k) : 0 ≤ n ∧ n.toNat = k := by
  unfold shG at h; split at h
  · rename_i h1; exact ⟨h1, Option.some.inj h⟩
  · cases h
def shlI (a : Int) (n : Nat) : Int := w64 (a * 2 ^ min n 64)
def shrI (a : Int) (n : Nat) : Int := a / 2 ^ min n 64
def bitI (op : BinOp) (a b : Int) : Int := bits op .i64 a b
/-- a number of one byte -/
def un8 (x : BitVec 8) : Int := (x.toNat : Int)
abbrev bv (x : BitVec 8) : Value := .int .u8 (un8 x)
theorem un8_nn (x : BitVec 8) : 0 ≤ un8 x := by unfold un8; omega
theorem un8_le (x : BitVec 8) : un8 x ≤ 255 := by unfold un8; have := x.isLt; omega
theorem un8_inj {x y : BitVec 8} (h : un8 x = un8 y) : x = y := by apply BitVec.eq_of_toNat_eq; unfold un8 at h; omega
def wd8 (n : Int) : BitVec 8 := BitVec.ofInt 8 n
/-- cells of an element -/
abbrev ic (n : Int) : List Value := [.int .i64 n]
abbrev uwc (x : BitVec 64) : List Value := [wv x]
abbrev bvc (x : BitVec 8) : List Value := [bv x]
/-- a key made of nothing -/
abbrev k0 : W2 := (0#64, 0#64)
/-! ### integers -/
section
variable {P : Program} {L : Slots} {w : World} {dst : Option Nat} {ty : TypeId} {pos : String} {af : Array Edge} {gu : Option (Nat × Bool)} {x y : Operand} {t u : TypeId} {a b : Int}
theorem vv_quoI {c : Int} (hx : ev L x = some (.int .i64 a)) (hy : ev L y = some (.int .i64 b)) (h : quoI a b = some c) : VV P L ⟨dst, .binOp .quo t x y u, ty, pos, af, gu⟩ w (.int .i64 c) := fun ρ hρ => by
  unfold quoI at h
  split at h
  · cases h
  · rename_i hd; cases h
    simp [execOp, hρ _ _ hx, hρ _ _ hy, go_sem, Op.intDiv, hd]
theorem vv_remI {c : Int} (hx : ev L x = some (.int .i64 a)) (hy : ev L y = some (.int .i64 b)) (h : remI a b = some c) : VV P L ⟨dst, .binOp .rem t x y u, ty, pos, af, gu⟩ w (.int .i64 c) := fun ρ hρ => by
  unfold remI at h
  split at h
  · cases h
  · rename_i hd; cases h
    simp [execOp, hρ _ _ hx, hρ _ _ hy, go_sem, Op.intDiv, hd]
theorem vv_shlI {yk : IntKind} {n : Nat} (hx : ev L x = some (.int .i64 a)) (hy : ev L y = some (.int yk b)) (h : shG b = some n) : VV P L ⟨dst, .binOp .shl t x y u, ty, pos, af, gu⟩ w (.int .i64 (shlI a n)) := by
  obtain ⟨h1, rfl⟩ := shG_eq h
  exact vv_shl hx hy h1
theorem vv_shrI {yk : IntKind} {n : Nat} (hx : ev L x = some (.int .i64 a)) (hy : ev L y = some (.int yk b)) (h : shG b = some n) : VV P L ⟨dst, .binOp .shr t x y u, ty, pos, af, gu⟩ w (.int .i64 (shrI a n)) := by
  obtain ⟨h1, rfl⟩ := shG_eq h
  exact vv_shr hx hy h1
theorem vv_shlU {yk : IntKind} {n : Nat} {c : BitVec 64} (hx : ev L x = some (wv c)) (hy : ev L y = some (.int yk b)) (h : shG b = some n) : VV P L ⟨dst, .binOp .shl t x y u, ty, pos, af, gu⟩ w (wv (c <<< n)) := by
  obtain ⟨h1, rfl⟩ := shG_eq h
  exact vv_ushl hx hy h1
theorem vv_shrU {yk : IntKind} {n : Nat} {c : BitVec 64} (hx : ev L x = some (wv c)) (hy : ev L y = some (.int yk b)) (h : shG b = some n) : VV P L ⟨dst, .binOp .shr t x y u, ty, pos, af, gu⟩ w (wv (c >>> n)) := by
  obtain ⟨h1, rfl⟩ := shG_eq h
  exact vv_ushr hx hy h1
theorem vv_bitI {op : BinOp} (hop : op = .and ∨ op = .or ∨ op = .xor ∨ op = .andNot) (hx : ev L x = some (.int .i64 a)) (hy : ev L y = some (.int .i64 b)) : VV P L ⟨dst, .binOp op t x y u, ty, pos, af, gu⟩ w (.int .i64 (bitI op a b)) := vv_bits hop hx hy
variable {c d : BitVec 64} {p q : BitVec 8}
theorem un_eq_iff : un c = un d ↔ c = d := ⟨un_inj, fun h => by rw [h]⟩
theorem un8_eq_iff : un8 p = un8 q ↔ p = q := ⟨un8_inj, fun h => by rw [h]⟩
theorem dec_iff {p q : Prop} [Decidable p] [Decidable q] (h : p ↔ q) : Value.bool (decide p) = .bool (decide q) := by simp [h]
theorem un_lt_iff : un c < un d ↔ c < d := by unfold un; rw [BitVec.lt_def]; omega
theorem un_le_iff : un c ≤ un d ↔ c ≤ d := by unfold un; rw [BitVec.le_def]; omega
theorem un8_lt_iff : un8 p < un8 q ↔ p < q := by unfold un8; rw [BitVec.lt_def]; omega
theorem un8_le_iff : un8 p ≤ un8 q ↔ p ≤ q := by unfold un8; rw [BitVec.le_def]; omega
theorem vv_eqlU (hx : ev L x = some (wv c)) (hy : ev L y = some (wv d)) : VV P L ⟨dst, .binOp .eql t x y u, ty, pos, af, gu⟩ w (.bool (decide (c = d))) := vv_eq (vv_eql hx hy) (dec_iff un_eq_iff)
theorem vv_neqU (hx : ev L x = some (wv c)) (hy : ev L y = some (wv d)) : VV P L ⟨dst, .binOp .neq t x y u, ty, pos, af, gu⟩ w (.bool (decide (c ≠ d))) := vv_eq (vv_neq hx hy) (dec_iff (not_congr un_eq_iff))
theorem vv_lssU (hx : ev L x = some (wv c)) (hy : ev L y = some (wv d)) : VV P L ⟨dst, .binOp .lss t x y u, ty, pos, af, gu⟩ w (.bool (decide (c < d))) := vv_eq (vv_lss hx hy) (dec_iff un_lt_iff)
theorem vv_leqU (hx : ev L x = some (wv c)) (hy : ev L y = some (wv d)) : VV P L ⟨dst, .binOp .leq t x y u, ty, pos, af, gu⟩ w (.bool (decide (c ≤ d))) := vv_eq (vv_leq hx hy) (dec_iff un_le_iff)
theorem vv_gtrU (hx : ev L x = some (wv c)) (hy : ev L y = some (wv d)) : VV P L ⟨dst, .binOp .gtr t x y u, ty, pos, af, gu⟩ w (.bool (decide (d < c))) := vv_eq (vv_gtr hx hy) (dec_iff un_lt_iff)
theorem vv_geqU (hx : ev L x = some (wv c)) (hy : ev L y = some (wv d)) : VV P L ⟨dst, .binOp .geq t x y u, ty, pos, af, gu⟩ w (.bool (decide (d ≤ c))) := vv_eq (vv_geq hx hy) (dec_iff un_le_iff)
theorem vv_eqlB (hx : ev L x = some (bv p)) (hy : ev L y = some (bv q)) : VV P L ⟨dst, .binOp .eql t x y u, ty, pos, af, gu⟩ w (.bool (decide (p = q))) := vv_eq (vv_eql hx hy) (dec_iff un8_eq_iff)
theorem vv_neqB (hx : ev L x = some (bv p)) (hy : ev L y = some (bv q)) : VV P L ⟨dst, .binOp .neq t x y u, ty, pos, af, gu⟩ w (.bool (decide (p ≠ q))) := vv_eq (vv_neq hx hy) (dec_iff (not_congr un8_eq_iff))
theorem vv_lssB (hx : ev L x = some (bv p)) (hy : ev L y = some (bv q)) : VV P L ⟨dst, .binOp .lss t x y u, ty, pos, af, gu⟩ w (.bool (decide (p < q))) := vv_eq (vv_lss hx hy) (dec_iff un8_lt_iff)
theorem vv_leqB (hx : ev L x = some (bv p)) (hy : ev L y = some (bv q)) : VV P L ⟨dst, .binOp .leq t x y u, ty, pos, af, gu⟩ w (.bool (decide (p ≤ q))) := vv_eq (vv_leq hx hy) (dec_iff un8_le_iff)
theorem vv_gtrB (hx : ev L x = some (bv p)) (hy : ev L y = some (bv q)) : VV P L ⟨dst, .binOp .gtr t x y u, ty, pos, af, gu⟩ w (.bool (decide (q < p))) := vv_eq (vv_gtr hx hy) (dec_iff un8_lt_iff)
theorem vv_geqB (hx : ev L x = some (bv p)) (hy : ev L y = some (bv q)) : VV P L ⟨dst, .binOp .geq t x y u, ty, pos, af, gu⟩ w (.bool (decide (q ≤ p))) := vv_eq (vv_geq hx hy) (dec_iff un8_le_iff)
theorem vv_addB (hx : ev L x = some (bv p)) (hy : ev L y = some (bv q)) : VV P L ⟨dst, .binOp .add t x y u, ty, pos, af, gu⟩ w (bv (p + q)) := vv_eq (vv_add hx hy) (by
  have : IntKind.u8.wrap (un8 p + un8 q) = (un8 p + un8 q) % 256 := by simp [IntKind.wrap, IntKind.bits, IntKind.signed]
  rw [this]; show Value.int .u8 _ = Value.int .u8 (un8 (p + q)); refine congrArg (Value.int .u8) ?_; unfold un8; rw [BitVec.toNat_add]; omega)
theorem vv_quoU {e : BitVec 64} (hx : ev L x = some (wv c)) (hy : ev L y = some (wv d)) (h : quoU c d = some e) : VV P L ⟨dst, .binOp .quo t x y u, ty, pos, af, gu⟩ w (wv e) := by
  unfold quoU at h
  split at h
  · cases h
  · rename_i hd; cases h
    have h0 : 0 < un d := by
      have := un_nonneg d
      rcases Int.lt_or_eq_of_le this with h | h
      · exact h
      · exact absurd (un_inj (show un d = un 0#64 from by rw [← h]; rfl)) hd
    have e1 : un c / un d = un (c / d) := by unfold un; rw [BitVec.toNat_udiv]; norm_cast
    have hl := un_le (c / d); have hn := un_nonneg (c / d)
    exact vv_eq (vv_quo hx hy (un_nonneg c) h0 (by rw [e1, IntKind.wrap_u64]; omega)) (by rw [e1])
theorem vv_remU {e : BitVec 64} (hx : ev L x = some (wv c)) (hy : ev L y = some (wv d)) (h : remU c d = some e) : VV P L ⟨dst, .binOp .rem t x y u, ty, pos, af, gu⟩ w (wv e) := by
  unfold remU at h
  split at h
  · cases h
  · rename_i hd; cases h
    have h0 : 0 < un d := by
      have := un_nonneg d
      rcases Int.lt_or_eq_of_le this with h | h
      · exact h
      · exact absurd (un_inj (show un d = un 0#64 from by rw [← h]; rfl)) hd
    exact vv_eq (vv_rem hx hy (un_nonneg c) h0) (congrArg (Value.int .u64) (by unfold un; rw [BitVec.toNat_umod]; exact (Int.natCast_emod _ _).symm))
/-! conversions -/
theorem vv_cvBI {s d : TypeId} (hc : CV P s d .i64) (hx : ev L x = some (bv p)) : VV P L ⟨dst, .convert s d x, ty, pos, af, gu⟩ w (.int .i64 (un8 p)) := vv_conv64 hc hx (by have := un8_nn p; omega) (by have := un8_le p; omega)
theorem vv_cvIU {s d : TypeId} (hc : CV P s d .u64) (hx : ev L x = some (.int .i64 a)) : VV P L ⟨dst, .convert s d x, ty, pos, af, gu⟩ w (wv (wd a)) := vv_eq (vv_conv hc hx) (by
  rw [IntKind.wrap_u64]; show Value.int .u64 _ = Value.int .u64 (un (wd a)); refine congrArg (Value.int .u64) ?_; unfold un wd; rw [BitVec.toNat_ofInt]; omega)
theorem vv_cvBU {s d : TypeId} (hc : CV P s d .u64) (hx : ev L x = some (bv p)) : VV P L ⟨dst, .convert s d x, ty, pos, af, gu⟩ w (wv (p.setWidth 64)) := vv_eq (vv_conv hc hx) (by
  have := un8_nn p; have := un8_le p
  rw [IntKind.wrap_u64, Int.emod_eq_of_lt (by omega) (by omega)]; show Value.int .u64 _ = Value.int .u64 (un (p.setWidth 64)); refine congrArg (Value.int .u64) ?_; unfold un8 un; rw [BitVec.toNat_setWidth, Nat.mod_eq_of_lt (by have := p.isLt; omega)])
theorem vv_cvUB {s d : TypeId} (hc : CV P s d .u8) (hx : ev L x = some (wv c)) : VV P L ⟨dst, .convert s d x, ty, pos, af, gu⟩ w (bv (c.setWidth 8)) := vv_eq (vv_convUB hc hx) (by
  show Value.int .u8 _ = Value.int .u8 (un8 (c.setWidth 8)); refine congrArg (Value.int .u8) ?_; unfold un8 un; rw [BitVec.toNat_setWidth]; omega)
theorem vv_cvIB {s d : TypeId} (hc : CV P s d .u8) (hx : ev L x = some (.int .i64 a)) : VV P L ⟨dst, .convert s d x, ty, pos, af, gu⟩ w (bv (wd8 a)) := vv_eq (vv_conv hc hx) (by
  have : IntKind.u8.wrap a = a % 256 := by simp [IntKind.wrap, IntKind.bits, IntKind.signed]
  rw [this]; show Value.int .u8 _ = Value.int .u8 (un8 (wd8 a)); refine congrArg (Value.int .u8) ?_; unfold un8 wd8; rw [BitVec.toNat_ofInt]; omega)
end
/-! ### lists -/
section
variable {P : Program} {L : Slots} {w : World} {dst : Option Nat} {ty : TypeId} {pos : String} {af : Array Edge} {gu : Option (Nat × Bool)}
variable {x y : Operand} {t : TypeId} {z g o sz : Nat} {e : TypeId} {v : Value} {k : IntKind} {α : Type} {l : List α} {c : α → List Value} {a : α} {i : Int}
theorem vv_lenT (hu : P.underlying t = some (.slice e)) (hx : ev L x = some v) (hr : Rd w z g o sz v (l.map c)) : VV P L ⟨dst, .call { callee := .builtin .len, args := #[x], argTypes := #[t] }, ty, pos, af, gu⟩ w (.int .i64 (l.length : Int)) := vv_lenN hu hx hr (List.length_map ..)
theorem vv_ixT (hu : P.underlying t = some (.slice e)) (hs : Siz P e sz) (hx : ev L x = some v) (hr : Rd w z g o sz v (l.map c)) (hy : ev L y = some (.int k i)) (hg : getI l i = some a) :
    VV P L ⟨dst, .indexAddr t x y, ty, pos, af, gu⟩ w (.pointer (some ⟨g, o + i.toNat * sz, none⟩)) := vv_ixN hu hs hx hr (List.length_map ..) hy (getI_nn hg) (getI_lt hg)
theorem vv_el1T {p q : Nat} {u : Value} (h1 : One P t) (hx : ev L x = some (.pointer (some ⟨g, p, none⟩))) (hr : Rd w z g o sz v (l.map c)) (hg : getI l i = some a) (hp : p = o + (i.toNat * sz + q)) (hc : (c a)[q]? = some u) : VV P L ⟨dst, .load t x, ty, pos, af, gu⟩ w u :=
  vv_el1 h1 hx hr (getm (getI_at hg)) hp hc
theorem vv_elWT {p : Nat} (h1 : Agg P t sz) (hx : ev L x = some (.pointer (some ⟨g, p, none⟩))) (hr : Rd w z g o sz v (l.map c)) (hg : getI l i = some a) (hp : p = o + i.toNat * sz) : VV P L ⟨dst, .load t x, ty, pos, af, gu⟩ w (.agg (c a).toArray) :=
  vv_elW h1 hx hr (getm (getI_at hg)) hp
theorem ev_appT {bytes z2 g2 o2 : Nat} {u : Value} {m k : List α} (ha : ApT P t e sz bytes) (hx : ev L x = some v) (hy : ev L y = some u) (h : Own w z g e sz v (l.map c)) (hr : Rd w z2 g2 o2 sz u (m.map c)) (hb : appG bytes l m = some k) (hpos : 1 ≤ bytes) :
    EV P L ⟨dst, .call { callee := .builtin .append, args := #[x, y], argTypes := #[t, t] }, ty, pos, af, gu⟩ w fun v' w' => ∃ z' g', Own w' z' g' e sz v' (k.map c) ∧ Ka z g w w' ∧ Hdn (z' = 0 ∨ (z' = 1 ∧ g' < w'.heap.size)) ∧ Hdn ((g' = g ∧ z = 1) ∨ w.heap.size ≤ g' ∨ z' = 0) := by
  obtain ⟨rfl, hb2⟩ := appG_eq hb
  have hle : l.length + m.length ≤ (l.length + m.length) * bytes := Nat.le_mul_of_pos_right _ hpos
  refine (ev_app ha hx hy h hr (by rw [List.length_map, List.length_map]; exact hb2) (by rw [List.length_map, List.length_map]; omega)).mono ?_
  rintro v' w' ⟨z', g', h1, h2, h3, h4, h5⟩
  exact ⟨z', g', by rw [List.map_append]; exact h1, h2, ⟨h3⟩, ⟨h4⟩⟩
theorem ev_litT {len : Nat} {zs cs : List Value} {parts : Array (Nat × Operand)} {vs : List (Nat × Value)} (l : List α) (c : α → List Value) (hb : BSl P t len e sz zs) (hp : evp L parts.toList = some vs) (hf : fillL (fun i => some (i * sz, sz)) zs vs = some cs)
    (hw : Ws sz (l.map c)) (hx : cs = (l.map c).flatten) (hl : l.length = len) (hm : Nat.ble len 1000000 = true) :
    EV P L ⟨dst, .buildSlice t len parts, ty, pos, af, gu⟩ w fun v' w' => ∃ g', w.heap.size ≤ g' ∧ Own w' 1 g' e sz v' (l.map c) ∧ Gr w w' := ev_bsl hb hp hf hw hx (by rw [List.length_map]; exact hl) hm
/-! a part of a slice -/
theorem Ws.take {sz n : Nat} {xs : List (List Value)} (h : Ws sz xs) : Ws sz (xs.take n) := fun y hy => h y (List.mem_of_mem_take hy)
theorem Ws.drop {sz n : Nat} {xs : List (List Value)} (h : Ws sz xs) : Ws sz (xs.drop n) := fun y hy => h y (List.mem_of_mem_drop hy)
theorem flat_drop {sz : Nat} : ∀ (n : Nat) (xs : List (List Value)), Ws sz xs → (xs.drop n).flatten = xs.flatten.drop (n * sz)
  | 0, xs, _ => by simp
  | n + 1, [], _ => by simp
  | n + 1, x :: xs, h => by
    have hx := (h x (by simp)).1
    rw [List.drop_succ_cons, flat_drop n xs (fun y hy => h y (List.mem_cons_of_mem _ hy)), List.flatten_cons, List.drop_append]
    have e : (n + 1) * sz - x.length = n * sz := by rw [hx, Nat.add_mul]; omega
    have e2 : x.drop ((n + 1) * sz) = [] := List.drop_eq_nil_of_le (by rw [hx, Nat.add_mul]; omega)
    rw [e, e2, List.nil_append]
theorem flat_take {sz : Nat} : ∀ (n : Nat) (xs : List (List Value)), Ws sz xs → (xs.take n).flatten = xs.flatten.take (n * sz)
  | 0, xs, _ => by simp
  | n + 1, [], _ => by simp
  | n + 1, x :: xs, h => by
    have hx := (h x (by simp)).1
    rw [List.take_succ_cons, List.flatten_cons, flat_take n xs (fun y hy => h y (List.mem_cons_of_mem _ hy)), List.flatten_cons, List.take_append]
    have e : (n + 1) * sz - x.length = n * sz := by rw [hx, Nat.add_mul]; omega
    have e2 : x.take ((n + 1) * sz) = x := List.take_of_length_le (by rw [hx, Nat.add_mul]; omega)
    rw [e, e2]
end
end Go.Sx

end
section
set_option linter.unusedVariables false
set_option linter.unusedSimpArgs false
namespace Go.Sx
open Go Go.RowKit
/-- block k is none of these (an entry with 0 counts for nothing) -/
def Nin : List (Nat × Nat) → Nat → Prop
  | [], _ => True
  | (z, g) :: r, k => (z = 0 ∨ k ≠ g) ∧ Nin r k
def Mz : List (Nat × Nat) → Nat → Prop
  | [], _ => False
  | (z, g) :: r, k => (k = g ∧ z ≠ 0) ∨ Mz r k
def InZ (l : List (Nat × Nat)) (z g base : Nat) : Prop := z = 0 ∨ base ≤ g ∨ Mz l g
def InA : List (Nat × Nat) → List (Nat × Nat) → Nat → Prop
  | [], _, _ => True
  | (z, g) :: r, l, base => InZ l z g base ∧ InA r l base
theorem mz_map {g : Nat} : ∀ {ms : List Nat}, Mz (ms.map fun b => (1, b)) g ↔ g ∈ ms
  | [] => by simp [Mz]
  | a :: r => by simp [Mz, mz_map]
theorem nin_ne : ∀ {l : List (Nat × Nat)} {k g : Nat}, Nin l k → Mz l g → k ≠ g
  | [], k, g, _, h => h.elim
  | (z, b) :: r, k, g, hn, h => by
    rcases h with ⟨h1, h2⟩ | h
    · subst h1; rcases hn.1 with h0 | h0
      · exact absurd h0 h2
      · exact h0
    · exact nin_ne hn.2 h
theorem inz_ne {l : List (Nat × Nat)} {z g base k : Nat} (h : InZ l z g base) (hk : k < base) (hn : Nin l k) : z = 0 ∨ k ≠ g := by
  rcases h with h | h | h
  · exact .inl h
  · exact .inr (by omega)
  · exact .inr (nin_ne hn h)
theorem ina_nin {l : List (Nat × Nat)} {base k : Nat} (hk : k < base) (hn : Nin l k) : ∀ {m : List (Nat × Nat)}, InA m l base → Nin m k
  | [], _ => trivial
  | (z, g) :: r, h => ⟨inz_ne h.1 hk hn, ina_nin hk hn h.2⟩
/-- of the old blocks only those of l may have turned -/
structure Kz (l : List (Nat × Nat)) (w w' : World) : Prop where
  os : w'.os = w.os
  tape : w'.tape = w.tape
  output : w'.output = w.output
  size : w.heap.size ≤ w'.heap.size
  block : ∀ k, k < w.heap.size → Nin l k → w'.heap[k]? = w.heap[k]?
section
variable {l m : List (Nat × Nat)} {w w₁ w₂ w' : World} {z g b o sz : Nat} {t e : TypeId} {cs : List Value} {v : Value} {xs : List (List Value)}
theorem Kz.refl (l : List (Nat × Nat)) (w : World) : Kz l w w := ⟨rfl, rfl, rfl, Nat.le_refl _, fun _ _ _ => rfl⟩
theorem Kz.gr (h : Kz l w w₁) (k : Gr w₁ w₂) : Kz l w w₂ := ⟨k.os.trans h.os, k.tape.trans h.tape, k.output.trans h.output, Nat.le_trans h.size k.size, fun i hi hn => (k.block i (Nat.lt_of_lt_of_le hi h.size)).trans (h.block i hi hn)⟩
theorem Kz.md (h : Kz l w w₁) (k : Md b w₁ w₂) (hb : InZ l 1 b w.heap.size := by simp only [Nin, InA, InZ, mz_map, Mz, or_true, true_or, and_true, List.mem_cons, List.mem_append, mem_zf, List.not_mem_nil, or_false, false_or, not_or, ne_eq, List.nil_append, List.cons_append, true_and, and_true, false_and, and_false, not_true_eq_false, not_false_eq_true, or_true, true_or] <;> omega) : Kz l w w₂ := ⟨k.os.trans h.os, k.tape.trans h.tape, k.output.trans h.output, by rw [k.size]; exact h.size, fun i hi hn => (k.block i (by have := inz_ne hb hi hn; omega)).trans (h.block i hi hn)⟩
theorem Kz.ka (h : Kz l w w₁) (k : Ka z g w₁ w₂) (hb : InZ l z g w.heap.size := by simp only [Nin, InA, InZ, mz_map, Mz, or_true, true_or, and_true, List.mem_cons, List.mem_append, mem_zf, List.not_mem_nil, or_false, false_or, not_or, ne_eq, List.nil_append, List.cons_append, true_and, and_true, false_and, and_false, not_true_eq_false, not_false_eq_true, or_true, true_or] <;> omega) : Kz l w w₂ := ⟨k.os.trans h.os, k.tape.trans h.tape, k.output.trans h.output, Nat.le_trans h.size k.size, fun i hi hn => (k.block i (Nat.lt_of_lt_of_le hi h.size) (inz_ne hb hi hn)).trans (h.block i hi hn)⟩
theorem Kz.kz (h : Kz l w w₁) (k : Kz m w₁ w₂) (hb : InA m l w.heap.size := by simp only [Nin, InA, InZ, mz_map, Mz, or_true, true_or, and_true, List.mem_cons, List.mem_append, mem_zf, List.not_mem_nil, or_false, false_or, not_or, ne_eq, List.nil_append, List.cons_append, true_and, and_true, false_and, and_false, not_true_eq_false, not_false_eq_true, or_true, true_or] <;> omega) : Kz l w w₂ := ⟨k.os.trans h.os, k.tape.trans h.tape, k.output.trans h.output, Nat.le_trans h.size k.size, fun i hi hn => (k.block i (Nat.lt_of_lt_of_le hi h.size) (ina_nin hi hn hb)).trans (h.block i hi hn)⟩
theorem Kz.kp {ms : List Nat} (h : Kz l w w₁) (k : Kp ms w₁ w₂) (hb : InA (ms.map fun b => (1, b)) l w.heap.size) : Kz l w w₂ := ⟨k.os.trans h.os, k.tape.trans h.tape, k.output.trans h.output, Nat.le_trans h.size k.size, fun i hi hn => (k.block i (Nat.lt_of_lt_of_le hi h.size) (fun hm => by
  have h1 := ina_nin hi hn hb
  have key : ∀ (ms : List Nat), i ∈ ms → Nin (ms.map fun b => (1, b)) i → False := by
    intro ms
    induction ms with
    | nil => intro h; cases h
    | cons a r ih =>
      intro h h2
      rcases List.mem_cons.1 h with rfl | h
      · have := h2.1; omega
      · exact ih h h2.2
  exact key ms hm h1)).trans (h.block i hi hn)⟩
theorem Gr.kz (h : Gr w w₁) (k : Kz m w₁ w₂) (hb : InA m [] w.heap.size := by simp only [Nin, InA, InZ, mz_map, Mz, or_true, true_or, and_true, List.mem_cons, List.mem_append, mem_zf, List.not_mem_nil, or_false, false_or, not_or, ne_eq, List.nil_append, List.cons_append, true_and, and_true, false_and, and_false, not_true_eq_false, not_false_eq_true, or_true, true_or] <;> omega) : Gr w w₂ := ⟨k.os.trans h.os, k.tape.trans h.tape, k.output.trans h.output, Nat.le_trans h.size k.size, fun i hi => (k.block i (Nat.lt_of_lt_of_le hi h.size) (ina_nin (l := []) hi trivial hb)).trans (h.block i hi)⟩
theorem Kp.kz {ms : List Nat} (h : Kp ms w w₁) (k : Kz m w₁ w₂) (hb : InA m (ms.map fun b => (1, b)) w.heap.size := by simp only [Nin, InA, InZ, mz_map, Mz, or_true, true_or, and_true, List.mem_cons, List.mem_append, mem_zf, List.not_mem_nil, or_false, false_or, not_or, ne_eq, List.nil_append, List.cons_append, true_and, and_true, false_and, and_false, not_true_eq_false, not_false_eq_true, or_true, true_or] <;> omega) : Kp ms w w₂ := ⟨k.os.trans h.os, k.tape.trans h.tape, k.output.trans h.output, Nat.le_trans h.size k.size, fun i hi hn => (k.block i (Nat.lt_of_lt_of_le hi h.size) (ina_nin hi (by
  have key : ∀ (ms : List Nat), i ∉ ms → Nin (ms.map fun b => (1, b)) i := by
    intro ms
    induction ms with
    | nil => intro _; trivial
    | cons a r ih => intro h; exact ⟨.inr (fun e => h (by rw [e]; simp)), ih (fun h2 => h (by simp [h2]))⟩
  exact key ms hn) hb)).trans (h.block i hi hn)⟩
theorem Bx.kz (h : Bx w b t cs) (k : Kz l w w') (hn : Nin l b := by simp only [Nin, InA, InZ, mz_map, Mz, or_true, true_or, and_true, List.mem_cons, List.mem_append, mem_zf, List.not_mem_nil, or_false, false_or, not_or, ne_eq, List.nil_append, List.cons_append, true_and, and_true, false_and, and_false, not_true_eq_false, not_false_eq_true, or_true, true_or] <;> omega) : Bx w' b t cs := (k.block b h.lt hn).trans h
theorem Own.kz (h : Own w z g e sz v xs) (k : Kz l w w') (hn : z = 0 ∨ Nin l g := by simp only [Nin, InA, InZ, mz_map, Mz, or_true, true_or, and_true, List.mem_cons, List.mem_append, mem_zf, List.not_mem_nil, or_false, false_or, not_or, ne_eq, List.nil_append, List.cons_append, true_and, and_true, false_and, and_false, not_true_eq_false, not_false_eq_true, or_true, true_or] <;> omega) : Own w' z g e sz v xs := h.keep (hn.imp id fun hn hl => k.block g hl hn)
theorem Rd.kz (h : Rd w z g o sz v xs) (k : Kz l w w') (hn : z = 0 ∨ Nin l g := by simp only [Nin, InA, InZ, mz_map, Mz, or_true, true_or, and_true, List.mem_cons, List.mem_append, mem_zf, List.not_mem_nil, or_false, false_or, not_or, ne_eq, List.nil_append, List.cons_append, true_and, and_true, false_and, and_false, not_true_eq_false, not_false_eq_true, or_true, true_or] <;> omega) : Rd w' z g o sz v xs := h.keep (hn.imp id fun hn hl => k.block g hl hn) k.size
theorem Df.kz {D : Nat} (h : Df w D) (k : Kz l w w') (hn : Nin l D := by simp only [Nin, InA, InZ, mz_map, Mz, or_true, true_or, and_true, List.mem_cons, List.mem_append, mem_zf, List.not_mem_nil, or_false, false_or, not_or, ne_eq, List.nil_append, List.cons_append, true_and, and_true, false_and, and_false, not_true_eq_false, not_false_eq_true, or_true, true_or] <;> omega) : Df w' D := (k.block D h.lt hn).trans h
theorem Rd.oneB (h : Rd w z g o sz v xs) : oneB v = true := by
  rcases h.2 with ⟨_, _, a, c, rfl⟩ | ⟨_, c, rfl, _⟩ <;> rfl
end
theorem ws_map' {sz : Nat} {α : Type} {c : α → List Value} {l : List α} (h : ∀ x ∈ l, (c x).length = sz ∧ ones (c x) = true) : Ws sz (l.map c) := fun y hy => by
  obtain ⟨x, hx, rfl⟩ := List.mem_map.1 hy
  exact h x hx
theorem one_int (k : IntKind) (n : Int) : oneB (.int k n) = true := rfl
theorem one_bool (b : Bool) : oneB (.bool b) = true := rfl
theorem one_str (b : ByteArray) : oneB (.string b) = true := rfl
/-- ways that meet again -/
theorem sw_joinD {P : Program} {r : Option Nat} {n : Nat} {Q : Exit → List Deferred → Slots → World → Prop} {D : List Deferred} {L : Slots} {w : World} {x y : Code} {β : Type} (dead : List Nat) (dyn : β → Slots) (J : β → World → Prop)
    (hk : ∀ b w1, J b w1 → SW P r n y Q D (dyn b ++ drp dead L) w1)
    (h : SW P r n x (thenQ (fun D1 L1 w1 => D1 = D ∧ ∃ b, SubP (dyn b ++ drp dead L) L1 ∧ J b w1) Q) D L w) : SW P r n (.seq x y) Q D L w :=
  sw_seq (h.mono fun e D1 L1 w1 hh => by
    cases e with
    | normal => obtain ⟨rfl, b, h1, h2⟩ := hh; exact (hk b w1 h2).forget h1
    | exit id => exact hh
    | goto l => exact hh
    | ret => exact hh
    | panic c => exact hh
    | outgrown => exact hh)
section
variable {P : Program} {L : Slots} {w : World} {dst : Option Nat} {ty : TypeId} {pos : String} {af : Array Edge} {gu : Option (Nat × Bool)} {x y : Operand} {t u : TypeId}
theorem vv_notD {p : Prop} [Decidable p] (hx : ev L x = some (.bool (decide p))) : VV P L ⟨dst, .unOp .not t x, ty, pos, af, gu⟩ w (.bool (decide (¬ p))) := vv_eq (vv_not hx) (by by_cases h : p <;> simp [h])
def BZ (P : Program) (t : TypeId) (v : Value) : Prop := ∀ w, (Instr.build t #[]).run P w = .ok v w
theorem vv_buildZ {v : Value} (h : BZ P t v) : VV P L ⟨dst, .build t #[], ty, pos, af, gu⟩ w v := fun ρ hρ => run_v (by simpa using h w)
def sure : Value → Bool
  | .pointer (some _) => true
  | .func (.func _) _ _ => true
  | _ => false
theorem vv_nilCheck {v : Value} (hx : ev L x = some v) (hs : sure v = true) : VV P L ⟨dst, .nilCheck x, ty, pos, af, gu⟩ w v := fun ρ hρ => by
  simp only [execOp, hρ _ _ hx]
  unfold sure at hs
  split at hs <;> first | rfl | cases hs
theorem vv_neqL {a b : Bool} (hu : P.underlying t = some .bool) (hx : ev L x = some (.bool a)) (hy : ev L y = some (.bool b)) : VV P L ⟨dst, .binOp .neq t x y u, ty, pos, af, gu⟩ w (.bool (a != b)) := fun ρ hρ => by
  simp [execOp, hρ _ _ hx, hρ _ _ hy, go_sem, run_neq_bool _ _ _ _ hu]; cases a <;> cases b <;> rfl
theorem dcd_dec {p : Prop} [Decidable p] {q : Prop} (h : q ↔ p) : dcd q = decide p := by
  by_cases hp : p
  · rw [dcd_true (h.2 hp)]; simp [hp]
  · rw [dcd_false (fun hq => hp (h.1 hq))]; simp [hp]
theorem vv_eqlS {α : Type} [DecidableEq α] {cf : α → List Value} {a b : α} {ks : List Ck} (h : EqT P t ks) (hx : ev L x = some (.agg (cf a).toArray)) (hy : ev L y = some (.agg (cf b).toArray)) (hc : kn ks (cf a) = true) (hd : kn ks (cf b) = true) (inj : cf a = cf b → a = b) :
    VV P L ⟨dst, .binOp .eql t x y u, ty, pos, af, gu⟩ w (.bool (decide (a = b))) := vv_eq (vv_eqlA h hx hy hc hd) (by rw [dcd_dec ⟨inj, fun h => by rw [h]⟩])
theorem vv_neqS {α : Type} [DecidableEq α] {cf : α → List Value} {a b : α} {ks : List Ck} (h : EqT P t ks) (hx : ev L x = some (.agg (cf a).toArray)) (hy : ev L y = some (.agg (cf b).toArray)) (hc : kn ks (cf a) = true) (hd : kn ks (cf b) = true) (inj : cf a = cf b → a = b) :
    VV P L ⟨dst, .binOp .neq t x y u, ty, pos, af, gu⟩ w (.bool (decide (a ≠ b))) := vv_eq (vv_neqA h hx hy hc hd) (by rw [dcd_dec (p := a = b) ⟨inj, fun h => by rw [h]⟩]; by_cases h : a = b <;> simp [h])
theorem ci_inj {a b : Int} {k : IntKind} (h : some (Value.int k a) = some (.int k b)) : a = b := by simpa using h
theorem cu_inj {a b : BitVec 64} (h : some (wv a) = some (wv b)) : a = b := un_inj (ci_inj h)
theorem cb_inj {a b : BitVec 8} (h : some (bv a) = some (bv b)) : a = b := un8_inj (ci_inj h)
theorem cl_inj {a b : Bool} (h : some (Value.bool a) = some (.bool b)) : a = b := by simpa using h
theorem ev_st1 {b' off : Nat} {tb : TypeId} {v : Value} {cs cs' : List Value} (hs : Siz P t 1) (hx : ev L x = some (.pointer (some ⟨b', off, none⟩))) (hy : ev L y = some v) (h1 : oneB v = true) (hb : Bx w b' tb cs) (hl : Nat.blt off cs.length = true) (he : cs.set off v = cs') :
    EV P L ⟨dst, .store t x y, ty, pos, af, gu⟩ w fun _ w' => Bx w' b' tb cs' ∧ Md b' w w' := by
  subst he; exact ev_store1 hs hx hy h1 hb (by simpa using hl)
theorem ev_stM {b' off m : Nat} {tb : TypeId} {v : Value} {cs vs cs' : List Value} (hs : Siz P t m) (hx : ev L x = some (.pointer (some ⟨b', off, none⟩))) (hy : ev L y = some v) (hc : v.cells = vs.toArray) (hm : vs.length = m) (h1 : ones vs = true) (hb : Bx w b' tb cs) (hl : Nat.ble (off + m) cs.length = true) (he : spl cs off vs = cs') :
    EV P L ⟨dst, .store t x y, ty, pos, af, gu⟩ w fun _ w' => Bx w' b' tb cs' ∧ Md b' w w' := by
  subst he; exact ev_storeM hs hx hy hc hm h1 hb hl
end
/-! ### elements that are stored into -/
section
variable {P : Program} {L : Slots} {w : World} {dst : Option Nat} {ty : TypeId} {pos : String} {af : Array Edge} {gu : Option (Nat × Bool)} {x y : Operand} {t e : TypeId} {z g sz : Nat} {v : Value}
theorem spl_len (cs : List Value) (off : Nat) (vs : List Value) (h : off + vs.length ≤ cs.length) : (spl cs off vs).length = cs.length := by simp [spl]; omega
theorem take_spl (cs : List Value) (off n : Nat) (vs : List Value) (h : off + vs.length ≤ n) (hn : n ≤ cs.length) : (spl cs off vs).take n = spl (cs.take n) off vs := by
  have e1 : (cs.take off).length = off := by simp; omega
  unfold spl
  rw [List.take_append, List.take_append, List.length_append, e1, List.take_of_length_le (l := cs.take off) (by omega), List.take_of_length_le (l := vs) (by omega), List.take_take, Nat.min_eq_left (by omega), List.drop_take]
theorem flat_spl : ∀ (xs : List (List Value)) (i q : Nat) (c vs : List Value), Ws sz xs → xs[i]? = some c → q + vs.length ≤ sz → (xs.set i (spl c q vs)).flatten = spl xs.flatten (i * sz + q) vs
  | [], i, q, c, vs, _, hi, _ => by simp at hi
  | a :: xs, 0, q, c, vs, h, hi, hq => by
    simp at hi; subst hi
    have ha := (h a (by simp)).1
    simp only [List.set_cons_zero, List.flatten_cons, Nat.zero_mul, Nat.zero_add, spl]
    rw [List.take_append_of_le_length (by omega), List.drop_append_of_le_length (by omega)]
    simp
  | a :: xs, i + 1, q, c, vs, h, hi, hq => by
    simp at hi
    have ha := (h a (by simp)).1
    have ih := flat_spl xs i q c vs (fun y hy => h y (List.mem_cons_of_mem _ hy)) hi hq
    rw [List.set_cons_succ, List.flatten_cons, ih, List.flatten_cons]; simp only [spl]
    have e1 : (i + 1) * sz + q = a.length + (i * sz + q) := by rw [ha, Nat.add_mul]; omega
    rw [e1, List.take_append, List.take_of_length_le (l := a) (by omega), show a.length + (i * sz + q) - a.length = i * sz + q from by omega, List.drop_append, @List.drop_eq_nil_of_le _ a _ (by omega), show a.length + (i * sz + q) + vs.length - a.length = i * sz + q + vs.length from by omega]
    simp
theorem ev_stEl {α : Type} {l : List α} {c : α → List Value} {a a' : α} {i : Int} {p q m : Nat} {u : Value} {vs : List Value} (hs : Siz P t m) (hx : ev L x = some (.pointer (some ⟨g, p, none⟩))) (hy : ev L y = some u) (hc : u.cells = vs.toArray) (hm : vs.length = m) (h1 : ones vs = true)
    (h : Own w z g e sz v (l.map c)) (hg : getI l i = some a) (hp : p = i.toNat * sz + q) (hq : Nat.ble (q + m) sz = true) (he : spl (c a) q vs = c a') (hw : (c a').length = sz ∧ ones (c a') = true) :
    EV P L ⟨dst, .store t x y, ty, pos, af, gu⟩ w fun _ w' => Own w' z g e sz v ((l.set i.toNat a').map c) ∧ Md g w w' := by
  have hq' := Nat.le_of_ble_eq_true hq
  have hi := getI_at hg
  have hxi : (l.map c)[i.toNat]? = some (c a) := getm hi
  have hil := (List.getElem?_eq_some_iff.1 hxi).1
  rcases h.2 with ⟨_, _, h0⟩ | ⟨hz, cap, cur, hv, hb, hn, hcap, hsz, htk⟩
  · rw [h0] at hxi; simp at hxi
  · have hbx : Bx w g e cur.toList := by unfold Bx; simpa using hb
    have hfl := h.1.flat
    have hle : (l.map c).length * sz ≤ cur.toList.length := by rw [show cur.toList.length = cap * sz from hsz]; exact Nat.mul_le_mul_right _ hn
    have hin : i.toNat * sz + sz ≤ (l.map c).length * sz := by rw [← Nat.succ_mul]; exact Nat.mul_le_mul_right _ hil
    have hbd : i.toNat * sz + q + vs.length ≤ cur.toList.length := by omega
    refine (ev_storeM (off := p) hs hx hy hc hm h1 hbx (by rw [Nat.ble_eq_true_of_le]; omega)).mono ?_
    rintro _ w' ⟨h2, h3⟩
    have hset : (l.set i.toNat a').map c = (l.map c).set i.toNat (spl (c a) q vs) := by rw [List.map_set, he]
    refine ⟨⟨?_, .inr ⟨hz, cap, (spl cur.toList p vs).toArray, ?_, h2, ?_, hcap, ?_, ?_⟩⟩, h3⟩
    · rw [hset]; intro y hy
      rcases List.mem_or_eq_of_mem_set hy with hy | hy
      · exact h.1 y hy
      · subst hy; rw [he]; exact hw
    · rw [hv]; simp
    · simpa using hn
    · rw [List.size_toArray, hp, spl_len _ _ _ (by omega), Array.length_toList]; exact hsz
    · rw [hset, flat_spl _ _ _ _ _ h.1 hxi (by omega), ← htk, hp, List.length_set]
      exact take_spl _ _ _ _ (by omega) hle
/-- make -/
theorem made_list (z : List Value) (h : 0 < z.length) : ∀ n, ((List.range (n * z.length)).map fun i => z.toArray[i % z.toArray.size]!) = (List.replicate n z).flatten
  | 0 => by simp
  | n + 1 => by
    rw [Nat.add_mul, Nat.one_mul, List.range_add, List.map_append, made_list z h n, List.map_map, List.replicate_succ', List.flatten_append]
    congr 1
    apply List.ext_getElem (by simp)
    intro i h1 h2
    have hi : i < z.length := by simpa using h1
    have e1 : (n * z.length + i) % z.length = i := by rw [Nat.mul_comm, Nat.mul_add_mod, Nat.mod_eq_of_lt hi]
    simp [e1, hi]
theorem ev_mkT {bytes : Nat} {zv : Value} {α : Type} {c : α → List Value} {a : α} {n : Int} {l : List α} (ha : ApT P t e sz bytes) (hz : ZV P e zv) (hc : zv.cells = (c a).toArray) (hs : (c a).length = sz ∧ ones (c a) = true) (hx : ev L x = some (.int .i64 n)) (hl : mkL bytes n a = some l) (hpos : 1 ≤ bytes) :
    EV P L ⟨dst, .makeSlice t x x, ty, pos, af, gu⟩ w fun v' w' => ∃ g', w.heap.size ≤ g' ∧ Own w' 1 g' e sz v' (l.map c) ∧ Gr w w' := fun ρ hρ => by
  obtain ⟨rfl, h0, hb⟩ := mkL_eq hl
  obtain ⟨i, zv', hi, hzv, hsz, hby, hzs⟩ := ha.info
  have hzz : zv' = zv := by
    have h1 := hz w
    simp [zeroValue, typeInfo, hi, hzv] at h1
    exact h1
  subst hzz hsz hby
  have hle : n ≤ n * i.bytes := by have := Int.mul_le_mul_of_nonneg_left (show (1 : Int) ≤ i.bytes by omega) h0; omega
  have hbc : (i.bytes : Int) * n = n * i.bytes := Int.mul_comm _ _
  have hrun := run_make (P := P) w t e i zv' ha.und hi hzv .i64 .i64 n n h0 (Int.le_refl _) (by omega) (by omega)
  have hmade : (madeCells zv'.cells (n.toNat * i.size)).toList = (List.replicate n.toNat (c a)).flatten := by
    rw [hc]; unfold madeCells
    rw [Array.toList_map, Array.toList_range, ← hs.1]
    exact made_list (c a) (by rw [hs.1]; exact ha.pos) n.toNat
  have hws : Ws i.size ((List.replicate n.toNat a).map c) := ws_map' (fun y hy => by rw [List.eq_of_mem_replicate hy]; exact hs)
  refine .val _ _ (run_v ?_) ⟨w.heap.size, Nat.le_refl _, ⟨hws, .inr ⟨rfl, n.toNat, madeCells zv'.cells (n.toNat * i.size), by rw [List.length_map, List.length_replicate], heap_alloc_new w _, by rw [List.length_map, List.length_replicate]; exact Nat.le_refl _, by simp only [maxLen]; omega, size_madeCells _ _, ?_⟩⟩, (Below.refl _ _).alloc (Nat.le_refl _) _⟩
  · rw [hρ _ _ hx]; exact hrun
  · rw [List.length_map, List.length_replicate, List.map_replicate, ← hmade, List.take_of_length_le (by rw [Array.length_toList, size_madeCells]; exact Nat.le_refl _)]
/-! a part of a slice -/
/-- the bounds of a slice expression -/
def OBI (L : Slots) (o : Option Operand) (d v : Int) : Prop := match o with
  | none => v = d
  | some x => ∃ k, ev L x = some (.int k v)
theorem run_sli {a : Option Addr} {len cap : Nat} {lo hi : Int} {ol oh : Option Operand} {ρ : Operand → Value} (hρ : Cons L ρ) (hu : P.underlying t = some (.slice e)) (hs : Siz P e sz) (h1 : OBI L ol 0 lo) (h2 : OBI L oh (len : Int) hi) (h0 : 0 ≤ lo) (hlh : lo ≤ hi) (hh : hi ≤ len) (hcap : len ≤ cap) :
    (Instr.sliceAt t (.slice a len cap) (ol.map ρ) (oh.map ρ) none).run P w = .ok (sliced a lo.toNat hi.toNat cap sz) w := by
  have he : P.elem t = e := by simp [Program.elem, hu]
  have hu' : P.underlying t = some (.slice (P.elem t)) := by rw [he]; exact hu
  rw [run_sliceAt_slice _ _ _ _ _ _ hu']
  cases ol with
  | none =>
    simp only [OBI] at h1; subst h1
    cases oh with
    | none => simp only [OBI] at h2; subst h2; rw [Option.map_none, run_slice_all _ _ _ _ _ hu', he, hs w]; simp [Result.andThen]
    | some q => obtain ⟨k, hq⟩ := h2; rw [Option.map_none, Option.map_some, hρ _ _ hq, run_slice_h _ _ _ _ _ hu' _ _ (by omega) (by omega), he, hs w]; simp [Result.andThen]
  | some p =>
    obtain ⟨k1, hp⟩ := h1
    cases oh with
    | none => simp only [OBI] at h2; subst h2; rw [Option.map_none, Option.map_some, hρ _ _ hp, run_slice_l _ _ _ _ _ hu' _ _ h0 (by omega), he, hs w]; simp [Result.andThen]
    | some q => obtain ⟨k, hq⟩ := h2; rw [Option.map_some, Option.map_some, hρ _ _ hp, hρ _ _ hq, run_slice_lh _ _ _ _ _ hu' _ _ _ _ h0 hlh (by omega), he, hs w]; simp [Result.andThen]
theorem vv_sliT {α : Type} {c : α → List Value} {l m : List α} {lo hi : Int} {ol oh : Option Operand} {o : Nat} (hu : P.underlying t = some (.slice e)) (hs : Siz P e sz) (hx : ev L x = some v) (hr : Rd w z g o sz v (l.map c)) (h1 : OBI L ol 0 lo) (h2 : OBI L oh (l.length : Int) hi) (hl : sliG l lo hi = some m) :
    ∃ v' o', (∀ w1, VV P L ⟨dst, .slice t x ol oh none, ty, pos, af, gu⟩ w1 v') ∧ Rd w z g o' sz v' (m.map c) := by
  obtain ⟨rfl, h3, h4, h5⟩ := sliG_eq hl
  rcases hr.2 with ⟨hz, hnil, a, cap, rfl⟩ | ⟨hz, cap, rfl, ⟨hg, hcap⟩, hcell⟩
  · have hl0 : l = [] := by simpa using hnil
    subst hl0
    simp only [List.length_nil] at h2 h5
    have e1 : lo = 0 := by omega
    have e2 : hi = 0 := by omega
    subst e1 e2
    refine ⟨_, 0, fun w1 ρ hρ => run_v (by rw [hρ _ _ hx]; exact run_sli hρ hu hs h1 h2 (by omega) (by omega) (by omega) (Nat.zero_le _)), by simpa using hr.1, .inl ⟨hz, by simp, ?_⟩⟩
    exact ⟨_, _, rfl⟩
  · rw [List.length_map] at hcap hx
    have hlen : ((l.map c).take hi.toNat).length = hi.toNat := by rw [List.length_take, List.length_map]; omega
    have hm : (((l.take hi.toNat).drop lo.toNat).map c) = ((l.map c).take hi.toNat).drop lo.toNat := by rw [List.map_drop, List.map_take]
    have hml : (((l.take hi.toNat).drop lo.toNat).map c).length = hi.toNat - lo.toNat := by rw [hm, List.length_drop, hlen]
    refine ⟨_, if cap = lo.toNat then o else o + lo.toNat * sz, fun w1 ρ hρ => run_v (by rw [hρ _ _ hx]; exact run_sli hρ hu hs h1 h2 h3 h4 h5 hcap), by rw [hm]; exact hr.1.take.drop, .inr ⟨hz, cap - lo.toNat, ?_, ⟨hg, by rw [hml]; omega⟩, fun j u hj => ?_⟩⟩
    · simp only [sliced, hml]
      by_cases e : cap = lo.toNat
      · rw [if_pos e, if_pos e]
      · rw [if_neg e, if_neg e]; simp [Addr.add_lit]
    · rw [hm, flat_drop _ _ hr.1.take, flat_take _ _ hr.1, List.getElem?_drop] at hj
      have hj2 : (l.map c).flatten[lo.toNat * sz + j]? = some u := by
        rw [List.getElem?_take] at hj
        split at hj
        · exact hj
        · cases hj
      by_cases e : cap = lo.toNat
      · exfalso
        have e2 : hi.toNat = lo.toNat := by omega
        rw [List.getElem?_take, e2] at hj
        split at hj
        · omega
        · cases hj
      · rw [if_neg e, Nat.add_assoc]; exact hcell _ _ hj2
end
end Go.Sx
namespace Go.Sx
open Go
section
variable {P : Program} {n : Nat} {ops : Array Oper} {Q : Slots → World → Prop} {rest : List (Nat × Nat)} {i : Nat} {dst : Option Nat} {op : Op} {ty : TypeId} {pos : String} {af : Array Edge} {gu : Option (Nat × Bool)} {L : Slots} {w w₀ : World} {ms : List Nat} {kp : Nat → Nat → Bool} {B : Value → Nat → Prop}
end
end Go.Sx

end
section
set_option linter.unusedVariables false
set_option linter.unusedSimpArgs false
namespace Go.Sx
open Go Go.RowKit
/-! ### keys aas bytes -/
def byt (x : BitVec 64) (i : Nat) : BitVec 8 := (x >>> (56 - 8 * i)).setWidth 8
/-- the bytes of a key -/
def kby (p : W2) : List (BitVec 8) := [byt p.1 0, byt p.1 1, byt p.1 2, byt p.1 3, byt p.1 4, byt p.1 5, byt p.1 6, byt p.1 7, byt p.2 0, byt p.2 1, byt p.2 2, byt p.2 3, byt p.2 4, byt p.2 5, byt p.2 6, byt p.2 7]
theorem kby_len (p : W2) : (kby p).length = 16 := rfl
theorem un8_byt (x : BitVec 64) (i : Nat) : un8 (byt x i) = bt x i := by
  unfold un8 byt bt un; rw [BitVec.toNat_setWidth]; omega
theorem kb_kby (p : W2) : kb p = ((kby p).map bvc).flatten := by
  simp only [kb, kby, List.map_cons, List.map_nil, List.flatten_cons, List.flatten_nil, List.cons_append, List.nil_append, bv, un8_byt]
/-- eight bytes aas a word, the highest first -/
def wrd (b0 b1 b2 b3 b4 b5 b6 b7 : BitVec 8) : BitVec 64 := b0 ++ b1 ++ b2 ++ b3 ++ b4 ++ b5 ++ b6 ++ b7
theorem byt_wrd (b0 b1 b2 b3 b4 b5 b6 b7 : BitVec 8) : byt (wrd b0 b1 b2 b3 b4 b5 b6 b7) 0 = b0 ∧ byt (wrd b0 b1 b2 b3 b4 b5 b6 b7) 1 = b1 ∧ byt (wrd b0 b1 b2 b3 b4 b5 b6 b7) 2 = b2 ∧ byt (wrd b0 b1 b2 b3 b4 b5 b6 b7) 3 = b3 ∧ byt (wrd b0 b1 b2 b3 b4 b5 b6 b7) 4 = b4 ∧ byt (wrd b0 b1 b2 b3 b4 b5 b6 b7) 5 = b5 ∧ byt (wrd b0 b1 b2 b3 b4 b5 b6 b7) 6 = b6 ∧ byt (wrd b0 b1 b2 b3 b4 b5 b6 b7) 7 = b7 := by
  have key : ∀ (x y : BitVec 8), (∀ i, i < 8 → x.getLsbD i = y.getLsbD i) → x = y := fun x y h => BitVec.eq_of_getLsbD_eq (fun i hi => h i hi)
  refine ⟨?_, ?_, ?_, ?_, ?_, ?_, ?_, ?_⟩ <;>
  · apply key
    intro i hi
    simp only [byt, wrd, BitVec.getLsbD_setWidth, BitVec.getLsbD_ushiftRight, BitVec.getLsbD_append, hi, decide_true, Bool.true_and]
    repeat' split
    all_goals first | omega | (congr 1; omega)
/-- the key of sixteen bytes -/
def ofB : List (BitVec 8) → W2
  | b0 :: b1 :: b2 :: b3 :: b4 :: b5 :: b6 :: b7 :: c0 :: c1 :: c2 :: c3 :: c4 :: c5 :: c6 :: c7 :: _ => (wrd b0 b1 b2 b3 b4 b5 b6 b7, wrd c0 c1 c2 c3 c4 c5 c6 c7)
  | _ => k0
theorem kby_ofB {l : List (BitVec 8)} (h : 16 ≤ l.length) : kby (ofB l) = l.take 16 := by
  match l, h with
  | b0 :: b1 :: b2 :: b3 :: b4 :: b5 :: b6 :: b7 :: c0 :: c1 :: c2 :: c3 :: c4 :: c5 :: c6 :: c7 :: r, _ =>
    obtain ⟨h0, h1, h2, h3, h4, h5, h6, h7⟩ := byt_wrd b0 b1 b2 b3 b4 b5 b6 b7
    obtain ⟨g0, g1, g2, g3, g4, g5, g6, g7⟩ := byt_wrd c0 c1 c2 c3 c4 c5 c6 c7
    simp only [ofB, kby, h0, h1, h2, h3, h4, h5, h6, h7, g0, g1, g2, g3, g4, g5, g6, g7]
    rfl
theorem kby_inj {p q : W2} (h : kby p = kby q) : p = q := kb_inj (by rw [kb_kby, kb_kby, h])
theorem ofB_kby (p : W2) (r : List (BitVec 8)) : ofB (kby p ++ r) = p := kby_inj (by rw [kby_ofB (by simp [kby])]; rfl)
/-- a byte of a key that is put -/
def kset (p : W2) (i : Int) (b : BitVec 8) : Option W2 := if 0 ≤ i ∧ i < 16 then some (ofB ((kby p).set i.toNat b)) else none
theorem kset_eq {p q : W2} {i : Int} {b : BitVec 8} (h : kset p i b = some q) : (0 ≤ i ∧ i < 16) ∧ kby q = (kby p).set i.toNat b := by
  unfold kset at h; split at h
  · refine ⟨‹_›, ?_⟩
    cases h
    rw [kby_ofB (by simp [kby]), List.take_of_length_le (by simp [kby])]
  · cases h
section
variable {P : Program} {L : Slots} {w : World} {dst : Option Nat} {ty : TypeId} {pos : String} {af : Array Edge} {gu : Option (Nat × Bool)} {x y : Operand} {t e : TypeId} {z g o sz : Nat} {v : Value}
theorem rd_key {b : Nat} {cs : List Value} {p : W2} (hb : Bx w b t cs) (h : (cs.drop o).take 16 = kb p) : Rd w 1 b o 1 (.slice (some ⟨b, o, none⟩) 16 16) ((kby p).map bvc) :=
  rd_seg hb (ws_map _ (fun _ => rfl) (fun _ => rfl)) rfl (by rw [← kb_kby]; exact h)
theorem rd_keyP {b lo hi : Nat} {cs : List Value} {p : W2} (hb : Bx w b t cs) (h : (cs.drop o).take 16 = kb p) (h1 : Nat.ble lo hi = true) (h2 : Nat.ble hi 16 = true) : Rd w 1 b (o + lo) 1 (.slice (some ⟨b, o + lo, none⟩) (hi - lo) (16 - lo)) ((((kby p).take hi).drop lo).map bvc) := by
  have h1' := Nat.le_of_ble_eq_true h1
  have h2' := Nat.le_of_ble_eq_true h2
  have hw : Ws 1 ((kby p).map bvc) := ws_map _ (fun _ => rfl) (fun _ => rfl)
  have hf : ((((kby p).take hi).drop lo).map bvc).flatten = ((kb p).take hi).drop lo := by
    rw [List.map_drop, List.map_take, flat_drop _ _ hw.take, flat_take _ _ hw, ← kb_kby, Nat.mul_one, Nat.mul_one]
  have hk : (kb p).length = 16 := rfl
  have hl : (((kby p).take hi).drop lo).length = hi - lo := by rw [List.length_drop, List.length_take, kby_len]; omega
  refine rd_seg hb (ws_map _ (fun _ => rfl) (fun _ => rfl)) (by rw [List.length_map, hl]) ?_ (Nat.ble_eq_true_of_le (by omega))
  rw [hf, ← h, List.length_drop, List.length_take, ← List.drop_drop]
  apply List.ext_getElem?
  intro j
  simp only [List.getElem?_take, List.getElem?_drop]
  have hc : ((cs.drop o).take 16).length = 16 := by rw [h]; rfl
  simp only [List.length_take, List.length_drop] at hc ⊢
  by_cases hj : j < hi - lo
  · rw [if_pos (by omega), if_pos (by omega), if_pos (by omega)]
  · rw [if_neg (by omega), if_neg (by omega)]
/-! a key's bytes, one by one -/
theorem vv_ixK {b' off : Nat} {k : IntKind} {i : Int} {p : W2} {c : BitVec 8} (hu : P.underlying t = some (.array 16 e)) (hs : Siz P e 1) (hx : ev L x = some (.pointer (some ⟨b', off, none⟩))) (hy : ev L y = some (.int k i)) (hg : getI (kby p) i = some c) : VV P L ⟨dst, .indexAddr t x y, ty, pos, af, gu⟩ w (.pointer (some ⟨b', off + i.toNat * 1, none⟩)) :=
  vv_indexAddr hu hs hx hy (getI_nn hg) (by have := getI_lt hg; rw [kby_len] at this; omega)
theorem vv_ldK {b off q : Nat} {tb : TypeId} {cs : List Value} {p : W2} {i : Int} {c : BitVec 8} (h1 : One P t) (hx : ev L x = some (.pointer (some ⟨b, q, none⟩))) (hb : Bx w b tb cs) (h : (cs.drop off).take 16 = kb p) (hg : getI (kby p) i = some c) (hq : q = off + i.toNat) : VV P L ⟨dst, .load t x, ty, pos, af, gu⟩ w (bv c) := by
  refine vv_load1 h1 hx hb ?_
  have hi := getI_at hg
  have hlt : i.toNat < 16 := by have := getI_lt hg; have := getI_nn hg; rw [kby_len] at *; omega
  have e1 : (kb p)[i.toNat]? = some (bv c) := by
    have hw : Ws 1 ((kby p).map bvc) := ws_map _ (fun _ => rfl) (fun _ => rfl)
    have := hw.at (i.toNat) 0 (bvc c) (getm hi) (by omega)
    rw [kb_kby]
    simpa using this
  rw [← h, List.getElem?_take, if_pos hlt, List.getElem?_drop] at e1
  rw [hq]; exact e1
theorem spl_kb {cs : List Value} {off : Nat} {p q : W2} {i : Nat} {c : BitVec 8} (h : (cs.drop off).take 16 = kb p) (hi : i < 16) (hq : kby q = (kby p).set i c) (hl : off + 16 ≤ cs.length) : cs.set (off + i) (bv c) = spl cs off (kb q) := by
  have hkq : kb q = (kb p).set i (bv c) := by
    rw [kb_kby, kb_kby, hq]
    have e1 : ∀ (l : List (BitVec 8)) (i : Nat), ((l.set i c).map bvc).flatten = ((l.map bvc).flatten).set i (bv c) := by
      intro l
      induction l with
      | nil => intro i; simp
      | cons a l ih =>
        intro i
        cases i with
        | zero => simp
        | succ i => rw [List.set_cons_succ, List.map_cons, List.flatten_cons, ih, List.map_cons, List.flatten_cons]; rfl
    exact e1 _ _
  have hkl : (kb q).length = 16 := rfl
  apply List.ext_getElem?
  intro j
  rw [List.getElem?_set]
  unfold spl
  rw [hkl]
  by_cases h1 : j < off
  · rw [if_neg (by omega), List.append_assoc, List.getElem?_append_left (by simp; omega), List.getElem?_take_of_lt h1]
  · by_cases h2 : j < off + 16
    · rw [List.append_assoc, List.getElem?_append_right (by simp; omega), List.getElem?_append_left (by simp [hkl]; omega)]
      have e2 : j - (cs.take off).length = j - off := by simp; omega
      rw [e2, hkq, List.getElem?_set, ← h]
      by_cases h3 : i = j - off
      · rw [if_pos (by omega), if_pos h3]
        have : i < ((cs.drop off).take 16).length := by simp; omega
        rw [if_pos (by omega), if_pos this]
      · rw [if_neg (by omega), if_neg h3, List.getElem?_take_of_lt (by omega), List.getElem?_drop]
        congr 1; omega
    · rw [if_neg (by omega), List.append_assoc, List.getElem?_append_right (by simp; omega), List.getElem?_append_right (by simp [hkl]; omega), List.getElem?_drop]
      congr 1; simp [hkl]; omega
theorem ev_stK {b off qq : Nat} {tb : TypeId} {cs cs' : List Value} {p q : W2} {i : Int} {c : BitVec 8} (hs : Siz P t 1) (hx : ev L x = some (.pointer (some ⟨b, qq, none⟩))) (hy : ev L y = some (bv c)) (hb : Bx w b tb cs) (h : (cs.drop off).take 16 = kb p) (hk : kset p i c = some q) (hq : qq = off + i.toNat * 1) (hl : Nat.ble (off + 16) cs.length = true) (he : spl cs off (kb q) = cs') :
    EV P L ⟨dst, .store t x y, ty, pos, af, gu⟩ w fun _ w' => Bx w' b tb cs' ∧ Md b w w' := by
  obtain ⟨hi, hkq⟩ := kset_eq hk
  have hl' := Nat.le_of_ble_eq_true hl
  refine ev_st1 hs hx hy rfl hb (by simp; omega) ?_
  rw [← he, ← spl_kb h (by omega) hkq hl']
  congr 1; omega
/-! ### strings of bytes -/
def strB (l : List (BitVec 8)) : ByteArray := ⟨(l.map UInt8.ofBitVec).toArray⟩
abbrev stv (l : List (BitVec 8)) : Value := .string (strB l)
theorem vv_b2s {l : List (BitVec 8)} {s d : TypeId} (hs : P.underlying s = some (.slice e)) (he : P.underlying e = some (.int .u8)) (hd : P.underlying d = some .string) (hx : ev L x = some v) (hr : Rd w z g o 1 v (l.map bvc)) : VV P L ⟨dst, .convert s d x, ty, pos, af, gu⟩ w (stv l) := fun ρ hρ => by
  refine run_v ?_
  rw [hρ _ _ hx]
  rcases hr.2 with ⟨_, h0, a, cap, rfl⟩ | ⟨_, cap, rfl, _, hcell⟩
  · have : l = [] := by simpa using h0
    subst this
    rw [run_convert_bytes_string _ _ _ _ _ _ _ hs he hd]
    cases a with
    | none => simp [Conv.bytesToString, strB]; rfl
    | some a =>
      have := run_bytesToString (P := P) w a 0 cap [] (by simpa using run_loadCells_list (P := P) w a [] (by simp))
      rw [this]; rfl
  · have := run_convert_bytes_back (P := P) w s d e ⟨g, o, none⟩ cap (l.map UInt8.ofBitVec) hs he hd (fun j hj => by
      rw [Addr.add_lit]
      refine hcell j _ ?_
      have hj' : j < l.length := by simpa using hj
      have hw := hr.1.at j 0 (bvc l[j]) (by simp [hj']) (by omega)
      simp only [Nat.mul_one, Nat.add_zero] at hw
      rw [hw]
      simp [un8])
    rw [List.length_map] at this
    rw [List.length_map]; exact this
theorem strB_list (l : List (BitVec 8)) : (strB l).toList = l.map UInt8.ofBitVec := by rw [ByteArray.toList_eq]; simp [strB]
theorem ofbv_inj {l m : List (BitVec 8)} (h : l.map UInt8.ofBitVec = m.map UInt8.ofBitVec) : l = m := by
  have : Function.Injective UInt8.ofBitVec := fun a b h => by cases h; rfl
  exact (List.map_inj_right (fun _ _ h => this h)).1 h
theorem vv_eqlT {l m : List (BitVec 8)} {u : TypeId} (hx : ev L x = some (stv l)) (hy : ev L y = some (stv m)) : VV P L ⟨dst, .binOp .eql t x y u, ty, pos, af, gu⟩ w (.bool (decide (l = m))) := fun ρ hρ => by
  have : (l.map UInt8.ofBitVec == m.map UInt8.ofBitVec) = decide (l = m) := by
    by_cases h : l = m
    · subst h; simp
    · have : ¬ (l.map UInt8.ofBitVec = m.map UInt8.ofBitVec) := fun e => h (ofbv_inj e)
      simp [h, this]
  simp [execOp, hρ _ _ hx, hρ _ _ hy, go_sem, eqGuard, binOp, Op.stringOp, strB_list, this]
end
/-! ### copy -/
/-- what is copied over the beginning of d -/
def copyL {α : Type} (d s : List α) : List α := s.take d.length ++ d.drop s.length
def copyN {α : Type} (d s : List α) : Int := ((min s.length d.length : Nat) : Int)
section
variable {P : Program} {L : Slots} {w : World} {dst : Option Nat} {ty : TypeId} {pos : String} {af : Array Edge} {gu : Option (Nat × Bool)} {x y : Operand} {t e : TypeId} {z g : Nat} {v : Value}
end
/-! ### drawn: a call that turns memory -/
end Go.Sx

end
section
set_option linter.unusedVariables false
set_option linter.unusedSimpArgs false
namespace Go.Sx
open Go Go.RowKit
/-- a loop over a list: F: a round (the element, what follows, the state); d: what comes behind -/
def itL {α σ R : Type} (F : α → (σ → Option R) → σ → Option R) (d : σ → Option R) (l : List α) : σ → Option R := l.foldr F d
theorem itL_nil {α σ R : Type} (F : α → (σ → Option R) → σ → Option R) (d : σ → Option R) : itL F d [] = d := rfl
theorem itL_cons {α σ R : Type} (F : α → (σ → Option R) → σ → Option R) (d : σ → Option R) (a : α) (l : List α) : itL F d (a :: l) = F a (itL F d l) := rfl
theorem itL_at {α σ R : Type} {F : α → (σ → Option R) → σ → Option R} {d : σ → Option R} {l : List α} {k : Nat} {s : σ} {r : R} {a : α} (h : itL F d (l.drop k) s = some r) (ha : l[k]? = some a) : F a (itL F d (l.drop (k + 1))) s = some r := by
  obtain ⟨hk, rfl⟩ := List.getElem?_eq_some_iff.1 ha
  rw [List.drop_eq_getElem_cons hk, itL_cons] at h; exact h
theorem itL_end {α β σ R : Type} {F : α → (σ → Option R) → σ → Option R} {d : σ → Option R} {l : List α} {c : α → β} {s : σ} {r : R} (h : itL F d (l.drop (l.map c).length) s = some r) : d s = some r := by
  rw [List.length_map, List.drop_length] at h; exact h
theorem Own.z1 {w : World} {z g sz : Nat} {e : TypeId} {v : Value} {α : Type} {l : List α} {c : α → List Value} {i : Int} {a : α} (h : Own w z g e sz v (l.map c)) (hg : getI l i = some a) : z = 1 := by
  rcases h.2 with ⟨_, _, h0⟩ | ⟨h1, _⟩
  · have : l = [] := by simpa using h0
    subst this; have := getI_lt hg; have := getI_nn hg; simp at *; omega
  · exact h1
theorem kz_of_kp {l : List (Nat × Nat)} {ms : List Nat} {w w' : World} (h : Kp ms w w') (hn : ∀ k, Nin l k → k ∉ ms) : Kz l w w' := ⟨h.os, h.tape, h.output, h.size, fun k hk hl => h.block k hk (hn k hl)⟩
theorem kp_of_kz {l : List (Nat × Nat)} {ms : List Nat} {w w' : World} (h : Kz l w w') (hn : ∀ k, k ∉ ms → Nin l k) : Kp ms w w' := ⟨h.os, h.tape, h.output, h.size, fun k hk hl => h.block k hk (hn k hl)⟩
theorem Own.hs {w w' : World} {z g sz : Nat} {e : TypeId} {v : Value} {xs : List (List Value)} {ms : List Nat} (h : Own w z g e sz v xs) (hs : ∀ b ∈ ms, w'.heap[b]? = w.heap[b]?) (hm : z ≠ 0 → g ∈ ms) : Own w' z g e sz v xs :=
  h.keep (by by_cases hz : z = 0; exact .inl hz; exact .inr fun _ => hs g (hm hz))
theorem Rd.hs {w w' : World} {z g o sz : Nat} {v : Value} {xs : List (List Value)} {ms : List Nat} (h : Rd w z g o sz v xs) (he : Env w w') (hs : ∀ b ∈ ms, w'.heap[b]? = w.heap[b]?) (hm : z ≠ 0 → g ∈ ms) : Rd w' z g o sz v xs :=
  h.keep (by by_cases hz : z = 0; exact .inl hz; exact .inr fun _ => hs g (hm hz)) he.size
theorem stb_mk {α : Type} (p : α → Nat → Prop) (FP : α → List Nat) (F : α → World → Prop) (h1 : ∀ a W, F a W → ∀ b ∈ FP a, b < W.heap.size)
    (h2 : ∀ a W W', F a W → Env W W' → (∀ b ∈ FP a, W'.heap[b]? = W.heap[b]?) → F a W') : Stb fun k fp W => ∃ a, p a k ∧ fp = FP a ∧ F a W :=
  ⟨fun ⟨a, _, h, hF⟩ b hb => h1 a _ hF b (h ▸ hb), fun ⟨a, hp, h, hF⟩ he hs => ⟨a, hp, h, h2 a _ _ hF he (h ▸ hs)⟩⟩
theorem stb_c {J : Nat → List Nat → World → Prop} (p : Prop) (h : Stb J) : Stb fun i fp W => p ∧ J i fp W := ⟨fun h0 b hb => h.lt h0.2 b hb, fun h0 he hs => ⟨h0.1, h.keep h0.2 he hs⟩⟩
/-! ### iterators -/
/-- an element, and those behind it -/
def yl {α : Type} (x : α) (m : Option (List α)) : Option (List α) := m.map (x :: ·)
theorem yl_some {α : Type} {x : α} {m : Option (List α)} {r : List α} (h : yl x m = some r) : ∃ t, m = some t ∧ r = x :: t := by
  cases m with
  | none => cases h
  | some t => exact ⟨t, rfl, (Option.some.inj h).symm⟩
/-- k elements are done; those left -/
def Dr {α : Type} (xs : List α) (k : Nat) (rr : List α) : Prop := k ≤ xs.length ∧ xs.drop k = rr
theorem dr_0 {α : Type} (xs : List α) : Dr xs 0 xs := ⟨Nat.zero_le _, rfl⟩
theorem Dr.at {α : Type} {xs rr t : List α} {k : Nat} {x : α} (h : Dr xs k rr) (e : rr = x :: t) : xs[k]? = some x := by
  have h1 := h.2; rw [e] at h1
  have : (xs.drop k)[0]? = some x := by rw [h1]; rfl
  rwa [List.getElem?_drop, Nat.add_zero] at this
theorem Dr.next {α : Type} {xs rr t : List α} {k : Nat} {x : α} (h : Dr xs k rr) (e : rr = x :: t) : Dr xs (k + 1) t := by
  have h0 := h.at e
  have hk := (List.getElem?_eq_some_iff.1 h0).1
  refine ⟨hk, ?_⟩
  have h1 := h.2; rw [e, List.drop_eq_getElem_cons hk] at h1
  exact (List.cons.inj h1).2
theorem Dr.last {α β : Type} {xs rr : List α} {k : Nat} {c : α → β} (h : Dr xs k rr) (e : rr = []) : k = (xs.map c).length := by
  have h1 := h.2; rw [e, List.drop_eq_nil_iff] at h1
  have := h.1; rw [List.length_map]; omega
theorem notin_growz {f f' : List Nat} {s z b : Nat} (hF : ∀ c ∈ f', c ∈ f ∨ s ≤ c) (h : z = 0 ∨ b ∉ f) (hlt : z = 0 ∨ b < s) : z = 0 ∨ b ∉ f' := by
  rcases h with h | h
  · exact .inl h
  · rcases hlt with h1 | h1
    · exact .inl h1
    · exact .inr (notin_grow hF h h1)
theorem Stb.ka {J : Nat → List Nat → World → Prop} (hJ : Stb J) {k z g : Nat} {f : List Nat} {W W' : World} (h : J k f W) (a : Ka z g W W') (hb : z = 0 ∨ g ∉ f) : J k f W' := hJ.keep h a.env fun c hc => a.block c (hJ.lt h c hc) (by
  rcases hb with h0 | h0
  · exact .inl h0
  · exact .inr (by rintro rfl; exact h0 hc))
end Go.Sx

end
section
set_option linter.unusedVariables false
set_option linter.unusedSimpArgs false
namespace Go.Sx
open Go Go.RowKit
/-- ways through a region: a piece in a fixed order; then it ends, or the ways part (which operation comes next is each way's first) -/
inductive Tz
  | leaf (seg : List (Nat × Nat))
  | fork (seg : List (Nat × Nat)) (a b : Tz)
def Tz.heads : Tz → List Nat
  | .leaf [] => []
  | .leaf ((i, _) :: _) => [i]
  | .fork [] a b => a.heads ++ b.heads
  | .fork ((i, _) :: _) _ _ => [i]
def Tz.len : Tz → Nat
  | .leaf s => s.length
  | .fork s a _ => s.length + a.len
def lsd (l : List (Nat × Nat)) (listed : Array Bool) : Array Bool := l.foldl (fun s x => s.setIfInBounds x.1 true) listed
def okSeg (ops : Array Oper) (kp : Nat → Nat → Bool) : List (Nat × Nat) → Array Bool → Bool
  | [], _ => true
  | (i, c) :: rest, listed => (match lvl c with
    | some lv => (Region.ready .any ops listed).contains i && Region.free .any ops listed i && keepers ops (kp lv) listed i
    | none => (Region.ready .any ops listed == [i])) && okSeg ops kp rest (listed.setIfInBounds i true)
/-- a way, whose first operation (an effect) is one of several -/
def okKid (ops : Array Oper) (kp : Nat → Nat → Bool) : Tz → Array Bool → Bool
  | .leaf [], _ => false
  | .leaf ((i, c) :: s), listed => (lvl c).isNone && okSeg ops kp s (listed.setIfInBounds i true) && (Region.ready .any ops (lsd s (listed.setIfInBounds i true))).isEmpty
  | .fork [] a b, listed => okKid ops kp a listed && okKid ops kp b listed && (a.len == b.len)
  | .fork ((i, c) :: s) a b, listed => (lvl c).isNone && okSeg ops kp s (listed.setIfInBounds i true) && (Region.ready .any ops (lsd s (listed.setIfInBounds i true)) == a.heads ++ b.heads)
      && okKid ops kp a (lsd s (listed.setIfInBounds i true)) && okKid ops kp b (lsd s (listed.setIfInBounds i true)) && (a.len == b.len)
def okTz (ops : Array Oper) (kp : Nat → Nat → Bool) : Tz → Array Bool → Bool
  | .leaf s, listed => okSeg ops kp s listed && (Region.ready .any ops (lsd s listed)).isEmpty
  | .fork s a b, listed => okSeg ops kp s listed && (Region.ready .any ops (lsd s listed) == a.heads ++ b.heads) && okKid ops kp a (lsd s listed) && okKid ops kp b (lsd s listed) && (a.len == b.len)
def SDZ (P : Program) (n : Nat) (ops : Array Oper) (Q : Slots → World → Prop) (S : Nat → World → Prop) (kp : Nat → Nat → Bool) : Tz → Slots → World → Prop
  | .leaf s, L, w => SD P n ops Q S kp s L w
  | .fork s a b, L, w => SD P n ops (fun L w => SDZ P n ops Q S kp a L w ∧ SDZ P n ops Q S kp b L w) S kp s L w
section
variable {P : Program} {r : Option Nat} {n : Nat} {ops : Array Oper} {Q : Slots → World → Prop} {S : Nat → World → Prop} {kp : Nat → Nat → Bool} {D : List Deferred} {QA : Exit → Act → World → Prop}
theorem SD.seg (hnd : allNodef ops = true) (hQ : ∀ c a w, ¬ QA (.panic c) a w) (hO : ¬ LetsOut QA) {fuel : Nat} :
    ∀ (l : List (Nat × Nat)) (listed : Array Bool) (L : Slots) (a : Act) (w : World), okSeg ops kp l listed = true → FOk n D L a → SD P n ops Q S kp l L w →
      (∀ L a w, FOk n D L a → Q L w → Go.Sx.anyH P r ops QA S kp fuel (lsd l listed) a w) → Go.Sx.anyH P r ops QA S kp (l.length + fuel) listed a w
  | [], listed, L, a, w, ho, hf, h, hk => by rw [List.length_nil, Nat.zero_add]; exact hk L a w hf h
  | (i, c) :: rest, listed, L, a, w, ho, hf, h, hk => by
    have hlen : ((i, c) :: rest).length + fuel = rest.length + fuel + 1 := by simp; omega
    rw [hlen]
    unfold SD at h
    unfold okSeg at ho
    cases hc : lvl c with
    | some lv =>
      rw [hc] at h ho
      obtain ⟨o, v, hi, hd, hS, hv, hrest⟩ := h
      simp only [Bool.and_eq_true] at ho
      refine Go.Sx.anyH_first hnd hi hQ hO (rest.length + fuel) listed a w (fun j oj h1 h2 h3 h4 => ⟨Region.free_spec hi ho.1.1.2 j oj h1 h2 h3 h4, keepers_spec ho.1.2 j oj h1 h2 h3 h4⟩) (by simpa using ho.1.1.1) ?_ hS
        (SD.seg hnd hQ hO rest _ _ _ w ho.2 (hf.put hd) hrest hk)
      rcases hv with ⟨hg, hv⟩ | ⟨hg, rfl⟩
      · exact .inl ⟨gd_spec hf hg, fun w' hw' => hv w' hw' _ hf.cons⟩
      · exact .inr ⟨gd_spec hf hg, rfl⟩
    | none =>
      rw [hc] at h ho
      obtain ⟨o, hi, hd, h⟩ := h
      simp only [Bool.and_eq_true, beq_iff_eq] at ho
      refine ⟨fun h0 => (by rw [ho.1] at h0; cases h0), fun j hj => ?_⟩
      rw [ho.1] at hj
      simp only [List.mem_singleton] at hj
      subst hj
      unfold wpOpIn
      simp only [hi]
      rcases h with ⟨hg, R, hev, hk2⟩ | ⟨hg, hrest⟩
      · rw [gd_spec hf hg, if_pos rfl]
        exact (hev _ hf.cons).uponIn (allNodef.nd hnd hi) fun v w' hR => ⟨(hk2 v w' hR).1, SD.seg hnd hQ hO rest _ _ _ w' ho.2 (hf.put hd) (hk2 v w' hR).2 hk⟩
      · rw [gd_spec hf hg]
        simp only [Bool.false_eq_true, if_false]
        exact ⟨fun _ _ => trivial, fun _ _ h => h, SD.seg hnd hQ hO rest _ _ _ w ho.2 (hf.put hd) hrest hk⟩
/-- one step, whatever else is ready -/
theorem SD.stepAny (hnd : allNodef ops = true) {i c : Nat} {s : List (Nat × Nat)} {listed : Array Bool} {L : Slots} {a : Act} {w : World} {fuel : Nat} (hc : (lvl c).isNone = true) (hf : FOk n D L a) (h : SD P n ops Q S kp ((i, c) :: s) L w)
    (hk : ∀ L a w, FOk n D L a → SD P n ops Q S kp s L w → Go.Sx.anyH P r ops QA S kp fuel (listed.setIfInBounds i true) a w) :
    wpOpIn (Fw r) 0 P ops QA i (fun a' w' => (∀ v, kp v i = true → S v w → S v w') ∧ Go.Sx.anyH P r ops QA S kp fuel (listed.setIfInBounds i true) a' w') a w := by
  unfold SD at h
  rw [Option.isNone_iff_eq_none.1 hc] at h
  obtain ⟨o, hi, hd, h⟩ := h
  unfold wpOpIn
  simp only [hi]
  rcases h with ⟨hg, R, hev, hk2⟩ | ⟨hg, hrest⟩
  · rw [gd_spec hf hg, if_pos rfl]
    exact (hev _ hf.cons).uponIn (allNodef.nd hnd hi) fun v w' hR => ⟨(hk2 v w' hR).1, hk _ _ _ (hf.put hd) (hk2 v w' hR).2⟩
  · rw [gd_spec hf hg]
    simp only [Bool.false_eq_true, if_false]
    exact ⟨fun _ _ => trivial, fun _ _ h => h, hk _ _ _ (hf.put hd) hrest⟩
theorem len_pos : ∀ (t : Tz) (listed : Array Bool), okKid ops kp t listed = true → ∃ m, t.len = m + 1
  | .leaf [], _, h => by simp [okKid] at h
  | .leaf ((i, c) :: s), _, _ => ⟨s.length, by simp [Tz.len]⟩
  | .fork [] a b, listed, h => by
    simp only [okKid, Bool.and_eq_true] at h
    obtain ⟨m, hm⟩ := len_pos a listed h.1.1
    exact ⟨m, by simp [Tz.len, hm]⟩
  | .fork ((i, c) :: s) a b, _, _ => ⟨s.length + a.len, by simp [Tz.len]; omega⟩
theorem SDZ.kid (hnd : allNodef ops = true) (hQ : ∀ c a w, ¬ QA (.panic c) a w) (hO : ¬ LetsOut QA) (hq : ∀ L a w, FOk n D L a → Q L w → QA .normal a w) :
    ∀ (t : Tz) (listed : Array Bool) (L : Slots) (a : Act) (w : World) (m : Nat), okKid ops kp t listed = true → t.len = m + 1 → FOk n D L a → SDZ P n ops Q S kp t L w → ∀ i ∈ t.heads,
      wpOpIn (Fw r) 0 P ops QA i (fun a' w' => (∀ v, kp v i = true → S v w → S v w') ∧ Go.Sx.anyH P r ops QA S kp m (listed.setIfInBounds i true) a' w') a w
  | .leaf [], _, _, _, _, _, ho, _, _, _, _, _ => by simp [okKid] at ho
  | .leaf ((i, c) :: s), listed, L, a, w, m, ho, hl, hf, h, j, hj => by
    simp only [Tz.heads, List.mem_singleton] at hj; subst hj
    simp only [okKid, Bool.and_eq_true] at ho
    have hm : m = s.length + 0 := by simp [Tz.len] at hl; omega
    subst hm
    refine SD.stepAny hnd ho.1.1 hf h fun L a w hf h => SD.seg hnd hQ hO s _ L a w ho.1.2 hf h fun L a w hf h => ⟨by simpa using ho.2, hq L a w hf h⟩
  | .fork [] x y, listed, L, a, w, m, ho, hl, hf, h, j, hj => by
    simp only [okKid, Bool.and_eq_true, beq_iff_eq] at ho
    simp only [Tz.len, List.length_nil, Nat.zero_add] at hl
    simp only [Tz.heads, List.mem_append] at hj
    have h' : SDZ P n ops Q S kp x L w ∧ SDZ P n ops Q S kp y L w := h
    rcases hj with hj | hj
    · exact SDZ.kid hnd hQ hO hq x listed L a w m ho.1.1 hl hf h'.1 j hj
    · exact SDZ.kid hnd hQ hO hq y listed L a w m ho.1.2 (by rw [← ho.2]; exact hl) hf h'.2 j hj
  | .fork ((i, c) :: s) x y, listed, L, a, w, m, ho, hl, hf, h, j, hj => by
    simp only [Tz.heads, List.mem_singleton] at hj; subst hj
    simp only [okKid, Bool.and_eq_true, beq_iff_eq] at ho
    have hm : m = s.length + x.len := by simp [Tz.len] at hl; omega
    subst hm
    refine SD.stepAny hnd ho.1.1.1.1.1 hf h fun L a w hf h => SD.seg hnd hQ hO s _ L a w ho.1.1.1.1.2 hf h fun L a w hf h => ?_
    obtain ⟨mx, hx⟩ := len_pos x _ ho.1.1.2
    have hy : y.len = mx + 1 := by rw [← ho.2]; exact hx
    rw [hx]
    refine ⟨fun h0 => ?_, fun k hk => ?_⟩
    · obtain ⟨z, hz⟩ : ∃ z, z ∈ x.heads := by
        have : ∀ (t : Tz) (l : Array Bool), okKid ops kp t l = true → ∃ z, z ∈ t.heads := by
          intro t
          induction t with
          | leaf s => intro l h; cases s with
            | nil => simp [okKid] at h
            | cons a s => exact ⟨a.1, by simp [Tz.heads]⟩
          | fork s a b iha ihb => intro l h; cases s with
            | nil =>
              simp only [okKid, Bool.and_eq_true] at h
              obtain ⟨z, hz⟩ := iha l h.1.1
              exact ⟨z, by simp [Tz.heads, hz]⟩
            | cons a s => exact ⟨a.1, by simp [Tz.heads]⟩
        exact this x _ ho.1.1.2
      rw [ho.1.1.1.2] at h0
      have : z ∈ x.heads ++ y.heads := List.mem_append_left _ hz
      rw [h0] at this; cases this
    · rw [ho.1.1.1.2] at hk
      rcases List.mem_append.1 hk with hk | hk
      · exact SDZ.kid hnd hQ hO hq x _ L a w mx ho.1.1.2 hx hf h.1 k hk
      · exact SDZ.kid hnd hQ hO hq y _ L a w mx ho.1.2 hy hf h.2 k hk
theorem heads_ne : ∀ (t : Tz) (l : Array Bool), okKid ops kp t l = true → ∃ z, z ∈ t.heads := by
  intro t
  induction t with
  | leaf s => intro l h; cases s with
    | nil => simp [okKid] at h
    | cons a s => exact ⟨a.1, by simp [Tz.heads]⟩
  | fork s a b iha ihb => intro l h; cases s with
    | nil =>
      simp only [okKid, Bool.and_eq_true] at h
      obtain ⟨z, hz⟩ := iha l h.1.1
      exact ⟨z, by simp [Tz.heads, hz]⟩
    | cons a s => exact ⟨a.1, by simp [Tz.heads]⟩
theorem SDZ.anyH (hnd : allNodef ops = true) (hQ : ∀ c a w, ¬ QA (.panic c) a w) (hO : ¬ LetsOut QA) (hq : ∀ L a w, FOk n D L a → Q L w → QA .normal a w) (t : Tz) (listed : Array Bool) (L : Slots) (a : Act) (w : World) (ho : okTz ops kp t listed = true) (hf : FOk n D L a) (h : SDZ P n ops Q S kp t L w) :
    Go.Sx.anyH P r ops QA S kp t.len listed a w := by
  cases t with
  | leaf s =>
    simp only [okTz, Bool.and_eq_true] at ho
    exact SD.seg (fuel := 0) hnd hQ hO s listed L a w ho.1 hf h fun L a w hf h => ⟨by simpa using ho.2, hq L a w hf h⟩
  | fork s x y =>
    simp only [okTz, Bool.and_eq_true, beq_iff_eq] at ho
    obtain ⟨mx, hx⟩ := len_pos x _ ho.1.1.2
    have hy : y.len = mx + 1 := by rw [← ho.2]; exact hx
    refine SD.seg (fuel := x.len) hnd hQ hO s listed L a w ho.1.1.1.1 hf h fun L a w hf h => ?_
    rw [hx]
    refine ⟨fun h0 => ?_, fun k hk => ?_⟩
    · obtain ⟨z, hz⟩ := heads_ne (ops := ops) (kp := kp) x _ ho.1.1.2
      rw [ho.1.1.1.2] at h0
      have : z ∈ x.heads ++ y.heads := List.mem_append_left _ hz
      rw [h0] at this; cases this
    · rw [ho.1.1.1.2] at hk
      rcases List.mem_append.1 hk with hk | hk
      · exact SDZ.kid hnd hQ hO hq x _ L a w mx ho.1.1.2 hx hf h.1 k hk
      · exact SDZ.kid hnd hQ hO hq y _ L a w mx ho.1.2 hy hf h.2 k hk
end
theorem sd_fork {P : Program} {n : Nat} {ops : Array Oper} {Q : Slots → World → Prop} {S : Nat → World → Prop} {kp : Nat → Nat → Bool} {a b : Tz} {L : Slots} {w : World} (h1 : SDZ P n ops Q S kp a L w) (h2 : SDZ P n ops Q S kp b L w) : SD P n ops (fun L w => SDZ P n ops Q S kp a L w ∧ SDZ P n ops Q S kp b L w) S kp [] L w := ⟨h1, h2⟩
theorem sdz_leaf {P : Program} {n : Nat} {ops : Array Oper} {Q : Slots → World → Prop} {S : Nat → World → Prop} {kp : Nat → Nat → Bool} {s : List (Nat × Nat)} {L : Slots} {w : World} (h : SD P n ops Q S kp s L w) : SDZ P n ops Q S kp (.leaf s) L w := h
theorem sdz_fork {P : Program} {n : Nat} {ops : Array Oper} {Q : Slots → World → Prop} {S : Nat → World → Prop} {kp : Nat → Nat → Bool} {s : List (Nat × Nat)} {a b : Tz} {L : Slots} {w : World} (h : SD P n ops (fun L w => SDZ P n ops Q S kp a L w ∧ SDZ P n ops Q S kp b L w) S kp s L w) : SDZ P n ops Q S kp (.fork s a b) L w := h
end Go.Sx

end
section
set_option linter.unusedVariables false
set_option linter.unusedSimpArgs false
namespace Go.Sx
open Go Go.RowKit
def HldN (mss : List (List Nat)) (w₀ : World) (k : Nat) (w : World) : Prop := ∀ ms, mss[k]? = some ms → Kp ms w₀ w
/-- which effects break which levels -/
def kpN (tab : List (Nat × List Nat)) (lv j : Nat) : Bool := tab.all fun x => !(Nat.beq x.1 j && x.2.any (Nat.beq lv))
def AllL (p : Nat → List Nat → Prop) : Nat → List (List Nat) → Prop
  | _, [] => True
  | k, ms :: r => p k ms ∧ AllL p (k + 1) r
theorem AllL.get {p : Nat → List Nat → Prop} : ∀ {l : List (List Nat)} {o : Nat}, AllL p o l → ∀ k ms, l[k]? = some ms → p (o + k) ms
  | [], o, _, k, ms, h => by simp at h
  | a :: r, o, h, 0, ms, hk => by simp at hk; subst hk; exact h.1
  | a :: r, o, h, k + 1, ms, hk => by
    have := AllL.get h.2 k ms (by simpa using hk)
    rw [show o + (k + 1) = o + 1 + k from by omega]; exact this
theorem Kz.ofGr {w w' : World} (h : Gr w w') : Kz [] w w' := (Kz.refl [] w).gr h
theorem Kz.ofMd {w w' : World} {b : Nat} (h : Md b w w') : Kz [(1, b)] w w' := (Kz.refl _ w).md h (by simp [InZ, Mz])
theorem Kz.ofKa {w w' : World} {z g : Nat} (h : Ka z g w w') : Kz [(z, g)] w w' := (Kz.refl _ w).ka h (by by_cases hz : z = 0 <;> simp [InZ, Mz, hz])
theorem lvl_10 (k : Nat) : lvl (k + 10) = some k := by
  have h1 : Nat.beq (k + 10) 1 = false := beq_ne (by omega)
  have h2 : Nat.beq (k + 10) 3 = false := beq_ne (by omega)
  have h3 : Nat.ble 10 (k + 10) = true := Nat.ble_eq_true_of_le (by omega)
  unfold lvl
  rw [h1, h2, h3]; simp
section
variable {P : Program} {n : Nat} {ops : Array Oper} {Q : Slots → World → Prop} {rest : List (Nat × Nat)} {i : Nat} {dst : Option Nat} {op : Op} {ty : TypeId} {pos : String} {af : Array Edge} {gu : Option (Nat × Bool)} {L : Slots} {w w₀ : World} {mss : List (List Nat)} {kp : Nat → Nat → Bool} {ms : List Nat}
/-- held -/
theorem dd_hn {v : Value} (k : Nat) (hi : ops[i]? = some ⟨dst, op, ty, pos, af, gu⟩) (hg : gd ops L ⟨dst, op, ty, pos, af, gu⟩ = some true) (hd : inN n dst = true) (hm : mss[k]? = some ms) (hS : Kp ms w₀ w) (hv : ∀ w, Kp ms w₀ w → VV P L ⟨dst, op, ty, pos, af, gu⟩ w v)
    (h : SD P n ops Q (HldN mss w₀) kp rest (putL dst v L) w) : SD P n ops Q (HldN mss w₀) kp ((i, k + 10) :: rest) L w := by
  have hl := lvl_10 k
  unfold SD
  rw [hl]
  exact ⟨_, v, hi, hd, fun ms' h' => by rw [hm] at h'; cases h'; exact hS, .inl ⟨hg, fun w hw => hv w (hw ms hm)⟩, h⟩
theorem dd_sn (k : Nat) (hi : ops[i]? = some ⟨dst, op, ty, pos, af, gu⟩) (hg : gd ops L ⟨dst, op, ty, pos, af, gu⟩ = some false) (hd : inN n dst = true) (hm : mss[k]? = some ms) (hS : Kp ms w₀ w)
    (h : SD P n ops Q (HldN mss w₀) kp rest (putL dst undef L) w) : SD P n ops Q (HldN mss w₀) kp ((i, k + 10) :: rest) L w := by
  have hl := lvl_10 k
  unfold SD
  rw [hl]
  exact ⟨_, undef, hi, hd, fun ms' h' => by rw [hm] at h'; cases h'; exact hS, .inr ⟨hg, rfl⟩, h⟩
theorem dd_pn {t : Bool} (k : Nat) (hi : ops[i]? = some ⟨dst, op, ty, pos, af, gu⟩) (hg : gd ops L ⟨dst, op, ty, pos, af, gu⟩ = some true) (hd : inN n dst = true) (hm : mss[k]? = some ms) (hS : Kp ms w₀ w) (hv : ∀ w, Kp ms w₀ w → VV P L ⟨dst, op, ty, pos, af, gu⟩ w (.bool t))
    (ht : t = true → SD P n ops Q (HldN mss w₀) kp rest (putL dst (.bool true) L) w) (hf : t = false → SD P n ops Q (HldN mss w₀) kp rest (putL dst (.bool false) L) w) : SD P n ops Q (HldN mss w₀) kp ((i, k + 10) :: rest) L w := by
  cases t with
  | true => exact dd_hn k hi hg hd hm hS hv (ht rfl)
  | false => exact dd_hn k hi hg hd hm hS hv (hf rfl)
/-- an effect: the blocks l may turn -/
theorem dd_z {R : Value → World → Prop} (l : List (Nat × Nat)) (hi : ops[i]? = some ⟨dst, op, ty, pos, af, gu⟩) (hg : gd ops L ⟨dst, op, ty, pos, af, gu⟩ = some true) (hd : inN n dst = true) (hv : EV P L ⟨dst, op, ty, pos, af, gu⟩ w R)
    (hb : AllL (fun k ms => kp k i = true → InA l (ms.map fun b => (1, b)) w₀.heap.size) 0 mss)
    (h : ∀ v w', R v w' → Kz l w w' ∧ SD P n ops Q (HldN mss w₀) kp rest (putL dst v L) w') : SD P n ops Q (HldN mss w₀) kp ((i, 0) :: rest) L w :=
  ⟨_, hi, hd, .inl ⟨hg, R, hv, fun v w' hR => ⟨fun lv hk hS ms hm => Kp.kz (hS ms hm) (h v w' hR).1 (by have := hb.get lv ms hm; rw [Nat.zero_add] at this; exact this hk), (h v w' hR).2⟩⟩⟩
theorem dd_sz (hi : ops[i]? = some ⟨dst, op, ty, pos, af, gu⟩) (hg : gd ops L ⟨dst, op, ty, pos, af, gu⟩ = some false) (hd : inN n dst = true)
    (h : SD P n ops Q (HldN mss w₀) kp rest (putL dst undef L) w) : SD P n ops Q (HldN mss w₀) kp ((i, 0) :: rest) L w := ⟨_, hi, hd, .inr ⟨hg, h⟩⟩
end
/-! small facts on blocks -/
theorem tk0 {q : Prop} (f : q := by (try simp only [Nin, InA, InZ, mz_map, Mz, List.mem_cons, List.mem_append, mem_zf, List.not_mem_nil, or_false, false_or, not_or, ne_eq, List.nil_append, List.cons_append, true_and, and_true, false_and, and_false, not_true_eq_false, not_false_eq_true, or_true, true_or]) <;> omega) : q := f
theorem tk1 {p q : Prop} (h : p) (f : p → q := by intro; (try simp only [Nin, InA, InZ, mz_map, Mz, List.mem_cons, List.mem_append, mem_zf, List.not_mem_nil, or_false, false_or, not_or, ne_eq, List.nil_append, List.cons_append, true_and, and_true, false_and, and_false, not_true_eq_false, not_false_eq_true, or_true, true_or]) <;> omega) : q := f h
theorem tk2 {p1 p2 q : Prop} (h1 : p1) (h2 : p2) (f : p1 → p2 → q := by intro _ _; (try simp only [Nin, InA, InZ, mz_map, Mz, List.mem_cons, List.mem_append, mem_zf, List.not_mem_nil, or_false, false_or, not_or, ne_eq, List.nil_append, List.cons_append, true_and, and_true, false_and, and_false, not_true_eq_false, not_false_eq_true, or_true, true_or]) <;> omega) : q := f h1 h2
/-! where a slice's block comes from -/
section
variable {A : Nat → Prop} {z g z' g' s z1 g1 z2 g2 z3 g3 : Nat}
theorem pv_app (r : Hdn ((g' = g ∧ z = 1) ∨ s ≤ g' ∨ z' = 0)) (h : z = 0 ∨ A g) (f : ∀ x, s ≤ x → A x := by intro x hx; (try simp only [Nin, InA, InZ, mz_map, Mz, List.mem_cons, List.mem_append, mem_zf, List.not_mem_nil, or_false, false_or, not_or, ne_eq, List.nil_append, List.cons_append, true_and, and_true, false_and, and_false, not_true_eq_false, not_false_eq_true, or_true, true_or]) <;> omega) : z' = 0 ∨ A g' := by
  rcases r.o with ⟨h1, h2⟩ | h1 | h1
  · rcases h with h | h
    · omega
    · exact .inr (h1 ▸ h)
  · exact .inr (f _ h1)
  · exact .inl h1
theorem pv_0 (r : Hdn (z = 0 ∨ s ≤ g)) (f : ∀ x, s ≤ x → A x := by intro x hx; (try simp only [Nin, InA, InZ, mz_map, Mz, List.mem_cons, List.mem_append, mem_zf, List.not_mem_nil, or_false, false_or, not_or, ne_eq, List.nil_append, List.cons_append, true_and, and_true, false_and, and_false, not_true_eq_false, not_false_eq_true, or_true, true_or]) <;> omega) : z = 0 ∨ A g := r.o.imp id (f g)
theorem pv_1 (r : Hdn (z = 0 ∨ (g = g1 ∧ z1 ≠ 0) ∨ s ≤ g)) (h1 : z1 = 0 ∨ A g1) (f : ∀ x, s ≤ x → A x := by intro x hx; (try simp only [Nin, InA, InZ, mz_map, Mz, List.mem_cons, List.mem_append, mem_zf, List.not_mem_nil, or_false, false_or, not_or, ne_eq, List.nil_append, List.cons_append, true_and, and_true, false_and, and_false, not_true_eq_false, not_false_eq_true, or_true, true_or]) <;> omega) : z = 0 ∨ A g := by
  rcases r.o with h | ⟨h, hz⟩ | h
  · exact .inl h
  · exact .inr (h ▸ h1.resolve_left hz)
  · exact .inr (f _ h)
theorem pv_lt (r : Hdn (z = 0 ∨ (z = 1 ∧ g < s))) (f : ∀ x, x < s → A x := by intro x hx; (try simp only [Nin, InA, InZ, mz_map, Mz, List.mem_cons, List.mem_append, mem_zf, List.not_mem_nil, or_false, false_or, not_or, ne_eq, List.nil_append, List.cons_append, true_and, and_true, false_and, and_false, not_true_eq_false, not_false_eq_true, or_true, true_or]) <;> omega) : z = 0 ∨ A g := r.o.imp id fun h => f _ h.2
theorem pv_sw (h : z = 0 ∨ z1 = 0 ∨ g ≠ g1) : z1 = 0 ∨ z = 0 ∨ g1 ≠ g := by omega
end
theorem cells1 {v : Value} (h : oneB v = true) : v.cells = [v].toArray := by cases v <;> first | rfl | cases h
theorem fill_1 {pl : Nat → Option (Nat × Nat)} {z cs : List Value} {i off : Nat} {v : Value} {r : List (Nat × Value)} (hp : pl i = some (off, 1)) (h1 : oneB v = true) (hl : Nat.ble (off + 1) z.length = true) (hr : fillL pl (spl z off [v]) r = some cs) : fillL pl z ((i, v) :: r) = some cs := by
  unfold fillL
  rw [hp]
  simp only [cells1 h1]
  rw [if_pos ⟨rfl, Nat.le_of_ble_eq_true hl⟩]; exact hr
theorem fill_M {pl : Nat → Option (Nat × Nat)} {z cs : List Value} {i off size : Nat} {v : Value} {r : List (Nat × Value)} (hp : pl i = some (off, size)) (h1 : v.cells.size = size) (hl : Nat.ble (off + size) z.length = true) (hr : fillL pl (spl z off v.cells.toList) r = some cs) : fillL pl z ((i, v) :: r) = some cs := by
  unfold fillL
  rw [hp]
  simp only [h1]
  rw [if_pos ⟨trivial, Nat.le_of_ble_eq_true hl⟩]; exact hr
/-- a region that draws its order -/
theorem sw_drawN {P : Program} {r : Option Nat} {n : Nat} {Q : Exit → List Deferred → Slots → World → Prop} {D : List Deferred} {L : Slots} {w : World} {id : Nat} {ops : Array Oper} (mss : List (List Nat)) (tab : List (Nat × List Nat)) (t : Tz) (hm : P.follows .mixedOrders = true) (hnd : allNodef ops = true) (hlen : t.len = ops.size)
    (ho : okTz ops (kpN tab) t (Array.replicate ops.size false) = true) (h : ∀ w1, RowKit.Below w.heap.size w w1 → w1.heap.size = w.heap.size → SDZ P n ops (fun L w => Q .normal D L w) (HldN mss w1) (kpN tab) t L w1) : SW P r n (.region id ops true) Q D L w :=
  fun _ ha => wpIn_region_any hm (by
    have := (SDZ.anyH (r := r) (D := D) (QA := liftQ n Q) hnd (fun _ _ _ => lift_panic) lift_out (fun L _ _ hf hq => ⟨D, L, hf, hq⟩) t _ L _ w.drew ho ha (h w.drew (RowKit.Below.refl _ _).drew rfl)).any
    rw [hlen] at this; exact this)
end Go.Sx

end
section
set_option linter.unusedVariables false
set_option linter.unusedSimpArgs false
namespace Go.Sx
open Go Go.RowKit
/-- the marks that an iterator has gathered, apart from its caller's blocks fp -/
def MkI (base : Nat) (ks fp : List Nat) (W : World) : Prop := Mks base ks W ∧ ∀ k ∈ ks, k ∉ fp
section
variable {base b : Nat} {ks fp fp' : List Nat} {W W' : World}
theorem MkI.gr (h : MkI base ks fp W) (g : Gr W W') : MkI base ks fp W' := ⟨h.1.gr g, h.2⟩
theorem MkI.md {t : TypeId} {cs : List Value} (h : MkI base ks fp W) (m : Md b W W') (hb : Bx W b t cs) : MkI base ks fp W' := ⟨h.1.md m (fun hk => by
  have h1 := (h.1.2 b hk).2
  unfold Df at h1; unfold Bx at hb; rw [hb] at h1; simp at h1), h.2⟩
theorem MkI.kp (h : MkI base ks fp W) (k : Kp fp W W') (hg : ∀ c ∈ fp', c ∈ fp ∨ W.heap.size ≤ c) : MkI base ks fp' W' :=
  ⟨h.1.kp k h.2, fun j hj => notin_grow hg (h.2 j hj) (h.1.2 j hj).2.lt⟩
theorem MkI.cons {W0 : World} {fp0 : List Nat} {D : Nat} (h : MkI base ks fp W) (h0 : MkI base ks fp0 W0) (hD : W0.heap.size ≤ D) (hb : base ≤ W0.heap.size) (hd : Df W D) (hn : D ∉ fp) : MkI base (D :: ks) fp W :=
  ⟨h.1.cons (by omega) hd fun hk => by have := (h0.1.2 D hk).2.lt; omega, fun j hj => by
    rcases List.mem_cons.1 hj with rfl | hj
    · exact hn
    · exact h.2 j hj⟩
theorem MkI.trans {w : World} {f : List Nat} (h : MkI w.heap.size ks fp W) (K : Kp f w W) (kl : Kp ks W W') : Kp f w W' := K.trans kl fun c hc => .inr (h.1.2 c hc).1
end
end Go.Sx
namespace Go.Sx
open Go Go.RowKit
end Go.Sx

end
section
set_option linter.unusedVariables false
set_option linter.unusedSimpArgs false
namespace Go.Sx
open Go
/-! ### words -/
/-- a key is put into a set -/
def insS (ks : List Int) (k : Int) : List Int := if k ∈ ks then ks else ks ++ [k]
theorem insS_nd {ks : List Int} {k : Int} (h : ks.Nodup) : (insS ks k).Nodup := by
  unfold insS; split
  · exact h
  · rename_i hn; rw [List.nodup_append]; exact ⟨h, by simp, fun a ha b hb => by simp at hb; subst hb; rintro rfl; exact hn ha⟩
open Classical in
/-- a loop over a set in any order: something only if every order comes to the same -/
noncomputable def rngM {σ R : Type} (F : Int → (σ → Option R) → σ → Option R) (d : σ → Option R) : Nat → List Int → σ → Option R
  | 0, _, _ => none
  | n + 1, rem, s => if rem = [] then d s else if h : ∃ r, ∀ k ∈ rem, F k (rngM F d n (rem.filter (· ≠ k))) s = some r then some (Classical.choose h) else none
theorem rngM_nil {σ R : Type} {F : Int → (σ → Option R) → σ → Option R} {d : σ → Option R} {n : Nat} {rem : List Int} {s : σ} {r : R} (h : rngM F d n rem s = some r) (hr : rem = []) : d s = some r := by
  cases n with
  | zero => cases h
  | succ n => unfold rngM at h; rw [if_pos hr] at h; exact h
theorem rngM_at {σ R : Type} {F : Int → (σ → Option R) → σ → Option R} {d : σ → Option R} {n : Nat} {rem : List Int} {s : σ} {r : R} {k : Int} (h : rngM F d n rem s = some r) (hk : k ∈ rem) : ∃ m, n = m + 1 ∧ F k (rngM F d m (rem.filter (· ≠ k))) s = some r := by
  cases n with
  | zero => cases h
  | succ n =>
    refine ⟨n, rfl, ?_⟩
    unfold rngM at h
    rw [if_neg (by rintro rfl; cases hk)] at h
    split at h
    · rename_i hx
      have := Classical.choose_spec hx k hk
      rw [this, h]
    · cases h
/-- every order comes to r -/
theorem rngM_run {σ R : Type} {F : Int → (σ → Option R) → σ → Option R} {d : σ → Option R} {r : R} (I : List Int → σ → Prop) (hd : ∀ s, I [] s → d s = some r) (hs : ∀ rem s k, k ∈ rem → I rem s → ∃ s', I (rem.filter (· ≠ k)) s' ∧ ∀ nx, F k nx s = nx s') :
    ∀ (n : Nat) (rem : List Int) (s : σ), rem.length < n → I rem s → rngM F d n rem s = some r
  | 0, rem, s, h, _ => by omega
  | n + 1, rem, s, h, hi => by
    unfold rngM
    by_cases h0 : rem = []
    · rw [if_pos h0]; subst h0; exact hd s hi
    · rw [if_neg h0]
      have hx : ∀ k ∈ rem, F k (rngM F d n (rem.filter (· ≠ k))) s = some r := fun k hk => by
        obtain ⟨s', h1, h2⟩ := hs rem s k hk hi
        rw [h2]
        refine rngM_run I hd hs n _ s' ?_ h1
        have : (rem.filter (· ≠ k)).length < rem.length := by
          exact List.length_filter_lt_length_iff_exists.2 ⟨k, hk, by simp⟩
        omega
      have hex : ∃ r, ∀ k ∈ rem, F k (rngM F d n (rem.filter (· ≠ k))) s = some r := ⟨r, hx⟩
      rw [dif_pos hex]
      obtain ⟨k, hk⟩ := List.exists_mem_of_ne_nil rem h0
      have h1 := Classical.choose_spec hex k hk
      rw [hx k hk] at h1
      exact h1.symm
/-- sorted by a number; none unless the numbers are fit, and different -/
def srtBy {α : Type} (key : α → Int) (l : List α) : Option (List α) := if (∀ x ∈ l, 0 ≤ key x ∧ key x < 4611686018427387904) ∧ (l.map key).Nodup ∧ l.length < 4611686018427387904 then some (l.mergeSort fun a b => decide (key a ≤ key b)) else none
theorem srtBy_eq {α : Type} {key : α → Int} {l m : List α} (h : srtBy key l = some m) : m = l.mergeSort (fun a b => decide (key a ≤ key b)) ∧ (∀ x ∈ l, 0 ≤ key x ∧ key x < 4611686018427387904) ∧ (l.map key).Nodup ∧ l.length < 4611686018427387904 := by
  unfold srtBy at h; split at h
  · rename_i h1; exact ⟨(Option.some.inj h).symm, h1⟩
  · cases h
end Go.Sx

end
section
set_option linter.unusedVariables false
set_option linter.unusedSimpArgs false
namespace Go.Sx
open Go Go.RowKit
/-! ### memory -/
def mpE (ks : List Int) : List MapEntry := ks.zipIdx.map fun x => ⟨.int .i64 x.1, .bool true, x.2⟩
structure Mo (w : World) (b : Nat) (ks : List Int) : Prop where
  nd : ks.Nodup
  row : w.heap[b]? = some (.map (mpE ks).toArray ks.length)
def remK (ks : List Int) (seen : List Nat) : List Int := (ks.zipIdx.filter fun x => !seen.contains x.2).map (·.1)
def Mi (w : World) (b m : Nat) (ks rem : List Int) : Prop := ∃ seen : List Nat, w.heap[b]? = some (.mapIter (some m) ks.length seen.toArray ks.length) ∧ rem = remK ks seen
def Mk (w : World) (b m : Nat) (ks rem : List Int) (k : Int) : Prop := ∃ (seen : List Nat) (i : Nat), w.heap[b]? = some (.mapIter (some m) ks.length (seen ++ [i]).toArray ks.length) ∧ rem = remK ks (seen ++ [i]) ∧ ks[i]? = some k
section
variable {w w' : World} {b m c z g : Nat} {ks rem : List Int} {k : Int} {l : List (Nat × Nat)}
theorem hlt {o : Obj} (h : w.heap[b]? = some o) : b < w.heap.size := (Array.getElem?_eq_some_iff.1 h).1
theorem Mo.lt (h : Mo w b ks) : b < w.heap.size := hlt h.row
theorem Mo.gr (h : Mo w b ks) (G : Gr w w') : Mo w' b ks := ⟨h.nd, (G.block b h.lt).trans h.row⟩
theorem Mo.md (h : Mo w b ks) (M : Md c w w') (ne : b ≠ c := by omega) : Mo w' b ks := ⟨h.nd, (M.block b ne).trans h.row⟩
theorem Mo.ka (h : Mo w b ks) (A : Ka z g w w') (hn : z = 0 ∨ g ≠ b := by omega) : Mo w' b ks := ⟨h.nd, (A.block b h.lt (by omega)).trans h.row⟩
theorem Mo.kz (h : Mo w b ks) (K : Kz l w w') (hn : Nin l b := by simp only [Nin, InA, InZ, mz_map, Mz, or_true, true_or, and_true, List.mem_cons, List.mem_append, mem_zf, List.not_mem_nil, or_false, false_or, not_or, ne_eq, List.nil_append, List.cons_append, true_and, and_true, false_and, and_false, not_true_eq_false, not_false_eq_true, or_true, true_or] <;> omega) : Mo w' b ks := ⟨h.nd, (K.block b h.lt hn).trans h.row⟩
theorem Mi.lt (h : Mi w b m ks rem) : b < w.heap.size := by obtain ⟨s, h, _⟩ := h; exact hlt h
theorem Mi.gr (h : Mi w b m ks rem) (G : Gr w w') : Mi w' b m ks rem := by obtain ⟨s, h1, h2⟩ := h; exact ⟨s, (G.block b (hlt h1)).trans h1, h2⟩
theorem Mi.md (h : Mi w b m ks rem) (M : Md c w w') (ne : b ≠ c := by omega) : Mi w' b m ks rem := by obtain ⟨s, h1, h2⟩ := h; exact ⟨s, (M.block b ne).trans h1, h2⟩
theorem Mi.ka (h : Mi w b m ks rem) (A : Ka z g w w') (hn : z = 0 ∨ g ≠ b := by omega) : Mi w' b m ks rem := by obtain ⟨s, h1, h2⟩ := h; exact ⟨s, (A.block b (hlt h1) (by omega)).trans h1, h2⟩
theorem Mi.kz (h : Mi w b m ks rem) (K : Kz l w w') (hn : Nin l b := by simp only [Nin, InA, InZ, mz_map, Mz, or_true, true_or, and_true, List.mem_cons, List.mem_append, mem_zf, List.not_mem_nil, or_false, false_or, not_or, ne_eq, List.nil_append, List.cons_append, true_and, and_true, false_and, and_false, not_true_eq_false, not_false_eq_true, or_true, true_or] <;> omega) : Mi w' b m ks rem := by obtain ⟨s, h1, h2⟩ := h; exact ⟨s, (K.block b (hlt h1) hn).trans h1, h2⟩
theorem Mk.mi (h : Mk w b m ks rem k) : Mi w b m ks rem := by obtain ⟨s, i, h1, h2, _⟩ := h; exact ⟨_, h1, h2⟩
end
theorem remK_nil (ks : List Int) : remK ks [] = ks := by
  unfold remK
  have : (ks.zipIdx.filter fun x => !([] : List Nat).contains x.2) = ks.zipIdx := List.filter_eq_self.2 (by simp)
  rw [this]; simp
theorem remK_snoc {ks : List Int} {seen : List Nat} {i : Nat} {k : Int} (hn : ks.Nodup) (hi : ks[i]? = some k) : remK ks (seen ++ [i]) = (remK ks seen).filter (· ≠ k) := by
  unfold remK
  rw [List.filter_map, List.filter_filter]
  congr 1
  apply List.filter_congr
  rintro ⟨x, j⟩ hx
  have hj : ks[j]? = some x := by simpa using List.mem_zipIdx_iff_getElem?.1 hx
  have : decide (x ≠ k) = !decide (j = i) := by
    by_cases e : j = i
    · subst e; rw [hi] at hj; cases hj; simp
    · have : x ≠ k := by
        rintro rfl
        obtain ⟨p1, e1⟩ := List.getElem?_eq_some_iff.1 hi
        obtain ⟨p2, e2⟩ := List.getElem?_eq_some_iff.1 hj
        exact e ((List.getElem_inj hn).1 (by rw [e1, e2]))
      simp [e, this]
  simp only [Function.comp, List.contains_append, Bool.not_or, this]
  rw [Bool.and_comm]
  congr 1
  simp only [List.contains_cons, List.contains_nil, Bool.or_false]
  by_cases e : j = i <;> simp [e]
section
variable {P : Program} {L : Slots} {w : World} {dst : Option Nat} {ty : TypeId} {pos : String} {af : Array Edge} {gu : Option (Nat × Bool)} {x y : Operand} {t K E : TypeId} {b m : Nat} {ks rem : List Int} {k : Int}
/-- a map type's facts: map[K]bool, K an int -/
structure MpT (P : Program) (t K E : TypeId) : Prop where
  und : P.underlying t = some (.map K E)
  key : P.underlying K = some (.int .i64)
  zero : ∀ w, (zeroValue E).run P w = .ok (.bool false) w
theorem ev_makeMap : EV P L ⟨dst, .makeMap t none, ty, pos, af, gu⟩ w fun v' w' => ∃ b, v' = .map (some b) ∧ w.heap.size ≤ b ∧ Mo w' b [] ∧ Gr w w' := fun ρ hρ => by
  refine .val (.map (some w.heap.size)) (w.alloc (.map #[] 0)) (by simp [execOp, Instr.makeMap, go_sem]) ⟨_, rfl, Nat.le_refl _, ⟨List.nodup_nil, heap_alloc_new w _⟩, (Below.refl _ _).alloc (Nat.le_refl _) _⟩
theorem findNow_ks (k : Int) : ∀ (ks : List Int) (o i : Nat), Instr.findNow (.int .i64) (.int .i64 k) ((ks.zipIdx o).map fun x => (⟨.int .i64 x.1, .bool true, x.2⟩ : MapEntry)) i = some (if k ∈ ks then some (i + ks.idxOf k, .bool true) else none)
  | [], o, i => by simp [Instr.findNow]
  | a :: ks, o, i => by
    rw [List.zipIdx_cons, List.map_cons]
    simp only [Instr.findNow, Instr.sameNow, if_true]
    by_cases h : k = a
    · subst h; simp
    · have hb : (k == a) = false := by simpa using h
      have hb2 : (a == k) = false := by simpa using fun e => h e.symm
      rw [hb]
      simp only
      rw [findNow_ks k ks (o + 1) (i + 1)]
      simp only [List.mem_cons, h, false_or, List.idxOf_cons, hb2, cond_false]
      congr 1
      split
      · congr 2; omega
      · rfl
theorem checkKey_int (e : Bool) (n : Nat) (hk : P.underlying K = some (.int .i64)) : (Instr.checkKey e (n + 1) K (.int .i64 k)).run P w = .ok () w := by
  unfold Instr.checkKey
  simp only [Sem.run_bind, run_underlying hk, Result.andThen]
  rfl
theorem vv_lookup (hm : MpT P t K E) (hx : ev L x = some (.map (some b))) (hy : ev L y = some (.int .i64 k)) (hb : Mo w b ks) : VV P L ⟨dst, .lookup t x y false, ty, pos, af, gu⟩ w (.bool (decide (k ∈ ks))) := fun ρ hρ => by
  refine run_v ?_
  rw [hρ _ _ hx, hρ _ _ hy]
  have hck : ∀ e, (Instr.checkKey e 10000 K (.int .i64 k)).run P w = .ok () w := fun e => checkKey_int e 9999 hm.key
  have hf : Instr.findNow (.int .i64) (.int .i64 k) (mpE ks) 0 = _ := findNow_ks k ks 0 0
  unfold Instr.lookup
  simp only [Sem.run_bind, run_underlying hm.und, Result.andThen, MapKept.run_getObj_map hb.row, Sem.run_pure, hck]
  unfold Instr.findKey
  simp only [Sem.run_bind, run_underlying hm.key, Result.andThen]
  rw [hf]
  by_cases h : k ∈ ks
  · simp [h]
  · simp [h, hm.zero w]
theorem mpE_snoc (ks : List Int) (k : Int) : mpE (ks ++ [k]) = mpE ks ++ [⟨.int .i64 k, .bool true, ks.length⟩] := by
  unfold mpE; rw [List.zipIdx_append, List.map_append]; simp
theorem ev_mapUpd (hm : MpT P t K E) {z : Operand} (hx : ev L x = some (.map (some b))) (hy : ev L y = some (.int .i64 k)) (hz : ev L z = some (.bool true)) (hb : Mo w b ks) : EV P L ⟨dst, .mapUpdate t x y z, ty, pos, af, gu⟩ w fun _ w' => Mo w' b (insS ks k) ∧ Md b w w' := fun ρ hρ => by
  have hck : (Instr.checkKey false 10000 K (.int .i64 k)).run P w = .ok () w := checkKey_int false 9999 hm.key
  have hf : Instr.findNow (.int .i64) (.int .i64 k) (mpE ks) 0 = _ := findNow_ks k ks 0 0
  have hset : ∀ o : Obj, (setObj b o).run P w = .ok () (w.putObj b o) := fun o => by
    simp only [setObj, Sem.run, hb.row]; rfl
  have key : ∃ o : Obj, (Instr.mapUpdate t (.map (some b)) (.int .i64 k) (.bool true)).run P w = .ok () (w.putObj b o) ∧ o = .map (mpE (insS ks k)).toArray (insS ks k).length := by
    unfold Instr.mapUpdate
    simp only [Sem.run_bind, run_underlying hm.und, Result.andThen, MapKept.run_getObj_map hb.row, hck]
    unfold Instr.findKey
    simp only [Sem.run_bind, run_underlying hm.key, Result.andThen]
    rw [hf]
    by_cases h : k ∈ ks
    · rw [if_pos h]
      simp only [Sem.run_pure, Nat.zero_add, Instr.keyThatStays]
      have hi : ks.idxOf k < ks.length := List.idxOf_lt_length_of_mem h
      have hg : (mpE ks).toArray[ks.idxOf k]? = some ⟨.int .i64 k, .bool true, ks.idxOf k⟩ := by
        simp [mpE, hi]
      rw [hg]
      simp only [Option.map_some, Option.getD_some, Instr.sameBits, beq_self_eq_true, Bool.and_self, if_true, Sem.run_bind, Sem.run_pure, Result.andThen, hset, insS, if_pos h]
      refine ⟨_, rfl, ?_⟩
      congr 1
      apply Array.ext_getElem?
      intro j
      rw [Array.getElem?_modify]
      by_cases hj : ks.idxOf k = j
      · subst hj; rw [if_pos rfl, hg]; rfl
      · rw [if_neg hj]
    · rw [if_neg h]
      simp only [Sem.run_pure, hset, insS, if_neg h]
      refine ⟨_, rfl, ?_⟩
      rw [mpE_snoc]; simp
  obtain ⟨o, h1, rfl⟩ := key
  refine .skip _ ?_ ⟨⟨insS_nd hb.nd, World.putObj_heap_same hb.lt⟩, Md.put b _⟩
  simp [execOp, hρ _ _ hx, hρ _ _ hy, hρ _ _ hz, h1]
theorem ev_rangeM (hm : MpT P t K E) (hx : ev L x = some (.map (some m))) (hb : Mo w m ks) : EV P L ⟨dst, .range t x, ty, pos, af, gu⟩ w fun v' w' => ∃ b, v' = .pointer (some ⟨b, 0, none⟩) ∧ w.heap.size ≤ b ∧ Mi w' b m ks ks ∧ Gr w w' := fun ρ hρ => by
  have h := run_range_map (P := P) w t K E m _ _ hm.und hb.row
  refine .val _ _ (run_v (by rw [hρ _ _ hx]; exact h)) ⟨_, rfl, Nat.le_refl _, ⟨[], heap_alloc_new w _, (remK_nil ks).symm⟩, (Below.refl _ _).alloc (Nat.le_refl _) _⟩
theorem ev_nextM (hx : ev L x = some (.pointer (some ⟨b, 0, none⟩))) (hb : Mo w m ks) (hi : Mi w b m ks rem) : EV P L ⟨dst, .next x false, ty, pos, af, gu⟩ w fun v' w' =>
    (v' = .tuple [.bool false].toArray ∧ rem = [] ∧ Gr w w') ∨ (∃ k, k ∈ rem ∧ v' = .tuple [.bool true, .int .i64 k, .bool true].toArray ∧ Mk w' b m ks (rem.filter (· ≠ k)) k ∧ Md b w w') := fun ρ hρ => by
  obtain ⟨seen, h1, rfl⟩ := hi
  have hold : ∀ e ∈ (mpE ks).toArray.toList, e.born < ks.length := by
    intro e he
    obtain ⟨⟨a, j⟩, hj, rfl⟩ := List.mem_map.1 he
    have := List.mem_zipIdx_iff_getElem?.1 hj
    exact (List.getElem?_eq_some_iff.1 (by simpa using this)).1
  have hrun : ∀ (r : Result Value), (Instr.next (.pointer (some ⟨b, 0, none⟩)) false ty).run P w = r → (execOp ρ ⟨dst, .next x false, ty, pos, af, gu⟩).run P w = r.andThen fun v w' => .ok (.value v) w' := fun r hr => by
    simp only [execOp, hρ _ _ hx]
    rw [← hr]
    simp [Sem.run_bind]
  have hL : (Array.filter (fun e => !seen.toArray.contains e.born) (mpE ks).toArray).toList = (ks.zipIdx.filter fun x => !seen.contains x.2).map fun x => (⟨.int .i64 x.1, .bool true, x.2⟩ : MapEntry) := by
    simp [mpE, List.filter_map, Function.comp_def]
  have hmem : ∀ e ∈ (Array.filter (fun e => !seen.toArray.contains e.born) (mpE ks).toArray).toList, e.born < ks.length := fun e he => hold e (by simp at he ⊢; exact he.1)
  have hn : (Instr.next (.pointer (some ⟨b, 0, none⟩)) false ty).run P w = (Instr.next (.pointer (some ⟨b, 0, none⟩)) false ty).run P w := rfl
  conv at hn => rhs; simp only [Instr.next, getObj, Sem.run_bind, Sem.run, h1, hb.row, Result.andThen, next_test_false seen.toArray (mpE ks).toArray ks.length ks.length hold (Nat.le_refl _), Bool.false_eq_true, if_false]
  generalize Array.filter (fun e => !seen.toArray.contains e.born) (mpE ks).toArray = A at hL hmem hn
  have e1 : A.filter (fun x => decide (x.born < ks.length)) = A := Array.filter_eq_self.2 (fun x hx => by simpa using hmem x (by simpa using hx))
  have e2 : A.filter (fun x => decide (x.born ≥ ks.length)) = #[] := by
    rw [Array.filter_eq_empty_iff]
    intro x hx
    have := hmem x (by simpa using hx)
    simp; omega
  simp only [e1, e2, Array.append_empty] at hn
  by_cases h0 : A.size = 0
  · have hA : A = #[] := Array.eq_empty_of_size_eq_zero h0
    subst hA
    have h2 := hrun _ hn
    refine .val (.tuple [.bool false].toArray) w ?_ (.inl ⟨rfl, ?_, Gr.refl w⟩)
    · rw [h2]; simp [choose, Sem.run, Question.forced, Result.andThen]
    · have : (ks.zipIdx.filter fun x => !seen.contains x.2) = [] := by simpa using hL.symm
      unfold remK; rw [this]; rfl
  · have hne : A.isEmpty = false := by simp [Array.isEmpty, h0]
    simp only [hne, Bool.false_eq_true, if_false, Array.empty_append, Array.size_map] at hn
    have hch : ∃ (j : Nat) (w1 : World), j < A.size ∧ (w1 = w ∨ w1 = w.drew) ∧ (choose (Question.mapNext A.size)).run P w = .ok j w1 := by
      by_cases hf : A.size ≤ 1
      · exact ⟨0, w, by omega, .inl rfl, by simp [choose, Sem.run, Question.forced, hf]⟩
      · exact ⟨_, w.drew, Nat.mod_lt _ (by omega), .inr rfl, by
          simp only [choose, Sem.run, Question.forced, decide_eq_true_eq, hf, if_false, Question.cut]; rfl⟩
    obtain ⟨j, w1, hj, hw1, hc⟩ := hch
    have hw1h : w1.heap = w.heap := by rcases hw1 with rfl | rfl <;> rfl
    have hset : ∀ o : Obj, (setObj b o).run P w1 = .ok () (w1.putObj b o) := fun o => by
      have : w1.heap[b]? = some (.mapIter (some m) ks.length seen.toArray ks.length) := by rw [hw1h]; exact h1
      simp only [setObj, Sem.run, this]; rfl
    simp only [hc, Array.getElem?_map, Array.getElem?_eq_getElem hj, Option.map_some, hset, Sem.run_bind, Result.andThen] at hn
    have hAj : A[j] ∈ A.toList := by simp
    rw [hL] at hAj
    obtain ⟨⟨k, i⟩, hki, hkj⟩ := List.mem_map.1 hAj
    have hki' := List.mem_filter.1 hki
    have hi : ks[i]? = some k := by simpa using List.mem_zipIdx_iff_getElem?.1 hki'.1
    rw [← hkj] at hn
    have h2 := hrun _ hn
    have hmd : Md b w (w1.putObj b (.mapIter (some m) ks.length (seen.toArray.push i) ks.length)) := by
      have : Md b w1 (w1.putObj b (.mapIter (some m) ks.length (seen.toArray.push i) ks.length)) := Md.put b _
      rcases hw1 with rfl | rfl
      · exact this
      · exact ⟨this.os, this.tape, this.output, this.size, this.block⟩
    refine .val (.tuple [.bool true, .int .i64 k, .bool true].toArray) _ (by rw [h2]; rfl) (.inr ⟨k, ?_, rfl, ⟨seen, i, ?_, ?_, hi⟩, hmd⟩)
    · exact List.mem_map.2 ⟨(k, i), hki, rfl⟩
    · have hbs : b < w1.heap.size := by rw [hw1h]; exact hlt h1
      have := World.putObj_heap_same (w := w1) (o := .mapIter (some m) ks.length (seen.toArray.push i) ks.length) hbs
      rw [this]; simp
    · exact (remK_snoc hb.nd hi).symm
theorem vv_entryM (hx : ev L x = some (.pointer (some ⟨b, 0, none⟩))) (hb : Mo w m ks) (hi : Mk w b m ks rem k) : VV P L ⟨dst, .entry x, ty, pos, af, gu⟩ w (.tuple [.int .i64 k, .bool true].toArray) := fun ρ hρ => by
  obtain ⟨seen, i, h1, _, h3⟩ := hi
  refine run_v ?_
  rw [hρ _ _ hx]
  have hf : (mpE ks).toArray.find? (fun e => e.born == i) = some ⟨.int .i64 k, .bool true, i⟩ := by
    rw [← Array.find?_toList]
    have hgen : ∀ (ks : List Int) (o i : Nat), ks[i]? = some k → ((ks.zipIdx o).map fun x => (⟨.int .i64 x.1, .bool true, x.2⟩ : MapEntry)).find? (fun e => e.born == o + i) = some ⟨.int .i64 k, .bool true, o + i⟩ := by
      intro ks
      induction ks with
      | nil => intro o i h; simp at h
      | cons a ks ih =>
        intro o i h
        rw [List.zipIdx_cons, List.map_cons, List.find?_cons]
        cases i with
        | zero => simp at h; subst h; simp
        | succ i =>
          have hne : (o == o + (i + 1)) = false := by simp
          rw [hne]
          have := ih (o + 1) i (by simpa using h)
          rw [show o + 1 + i = o + (i + 1) from by omega] at this
          exact this
    have := hgen ks 0 i h3
    rw [Nat.zero_add] at this; exact this
  simp [Instr.entry, getObj, Sem.run, h1, hb.row, hf]
end
end Go.Sx

end
section
set_option linter.unusedVariables false
namespace Go.Sx
open Go Go.RowKit
theorem sd_inl {P : Program} {n : Nat} {ops : Array Oper} {Q : Slots → World → Prop} {rest : List (Nat × Nat)} {i : Nat} {dst : Option Nat} {ty : TypeId} {pos : String} {af : Array Edge} {gu : Option (Nat × Bool)} {L : Slots} {w : World}
    {f : Nat} {fs cap : List Value} {x : Operand} {aas : Array Operand} {at_ : Array TypeId} {vs : List Value} {fn : Func} {c : Code} (n' : Nat) (hf : P.funcs[f]? = some fn) (hi : ops[i]? = some ⟨dst, .call { callee := .value x, args := aas, argTypes := at_ }, ty, pos, af, gu⟩)
    (hg : gd ops L ⟨dst, .call { callee := .value x, args := aas, argTypes := at_ }, ty, pos, af, gu⟩ = some true) (hd : inN n dst = true) (hen : En P f) (hx : ev L x = some (.func (.func f) fs.toArray cap.toArray)) (hargs : evs L aas.toList = some vs)
    (hb : fn.body = some c) (hn : fn.ntmps = n') (hl : Nat.ble (fs ++ vs ++ cap).length n' = true)
    (h : SW P none n' c (retQ P fn (fun v w' => SD P n ops Q (fun _ _ => True) (fun _ _ => false) rest (putL dst v L) w')) [] (argSlots 0 (fs ++ vs ++ cap)) w) : SD P n ops Q (fun _ _ => True) (fun _ _ => false) ((i, 0) :: rest) L w :=
  sd_ev hi hg hd (ev_callV hen hx hargs (calls_of_sw n' hf hb hn hl h)) fun v w' hR => hR
end Go.Sx

end
section
set_option linter.unusedVariables false
namespace Go.Sx
open Go
def mxI (a b : Int) : Int := if a < b then b else a
def mnI (a b : Int) : Int := if b < a then b else a
end Go.Sx

end
section
set_option linter.unusedVariables false
set_option linter.unusedSimpArgs false
namespace Go.Sx
open Go Go.RowKit
theorem ex_of {α : Type} (a : α) : ∃ x, x = a := ⟨a, rfl⟩
/-! ### scopes -/
section
variable {F : Fence} {n : Nat} {P : Program} {a : Act} {w : World} {Q : Exit → Act → World → Prop}
end
section
variable {P : Program} {r : Option Nat} {n : Nat} {Q : Exit → List Deferred → Slots → World → Prop} {D : List Deferred} {L : Slots} {w : World}
end
/-! ### the greater, the lesser -/
section
variable {P : Program} {L : Slots} {w : World} {dst : Option Nat} {ty : TypeId} {pos : String} {af : Array Edge} {gu : Option (Nat × Bool)} {x y q : Operand} {t t2 t3 : TypeId} {a b c : Int} {k k2 k3 : IntKind}
theorem vv_minK3 (hx : ev L x = some (.int k a)) (hy : ev L y = some (.int k2 b)) (hq : ev L q = some (.int k3 c)) : VV P L ⟨dst, .call { callee := .builtin .min, args := #[x, y, q], argTypes := #[t, t2, t3] }, ty, pos, af, gu⟩ w (.int k (mnI (mnI a b) c)) := fun ρ hρ => by
  simp [execOp, resolve, invoke, builtin, hρ _ _ hx, hρ _ _ hy, hρ _ _ hq, Builtin.min_, Builtin.min2]; unfold mnI; congr 3
variable {d e : BitVec 64}
end
/-! ### arrays -/
/-- what building an array wants to know -/
def BA (P : Program) (t : TypeId) (sz : Nat) (z : List Value) : Prop := ∃ n e, P.underlying t = some (.array n e) ∧ Siz P e sz ∧ ZV P t (.agg z.toArray)
theorem vv_buildA {P : Program} {L : Slots} {w : World} {dst : Option Nat} {ty : TypeId} {pos : String} {af : Array Edge} {gu : Option (Nat × Bool)} {t : TypeId} {sz : Nat} {z cs : List Value} {parts : Array (Nat × Operand)} {vs : List (Nat × Value)} (hb : BA P t sz z) (hp : evp L parts.toList = some vs) (hf : fillL (fun i => some (i * sz, sz)) z vs = some cs) :
    VV P L ⟨dst, .build t parts, ty, pos, af, gu⟩ w (.agg cs.toArray) := fun ρ hρ => by
  obtain ⟨n, e, hu, hs, hz⟩ := hb
  have e1 : (parts.map fun (x : Nat × Operand) => (x.1, ρ x.2)) = vs.toArray := by rw [← hρ.mapP hp, ← Array.toList_map]
  refine run_v ?_
  show (Instr.build t (parts.map fun (x : Nat × Operand) => (x.1, ρ x.2))).run P w = _
  rw [e1]
  simp only [Instr.build, Sem.run_bind, hz w, Result.andThen, run_underlying hu, hs w, Value.cells, fill_of vs z cs hf]; rfl
/-! ### nil -/
section
variable {P : Program} {L : Slots} {w : World} {dst : Option Nat} {ty : TypeId} {pos : String} {af : Array Edge} {gu : Option (Nat × Bool)} {x : Operand} {t u e : TypeId} {v : Value} {z g o sz : Nat} {α : Type} {l : List α} {c : α → List Value}
end
/-! ### a part taken out in place -/
section
variable {P : Program} {L : Slots} {w : World} {dst : Option Nat} {ty : TypeId} {pos : String} {af : Array Edge} {gu : Option (Nat × Bool)} {x y p q r : Operand} {t e : TypeId} {v : Value} {z g o sz N : Nat} {α : Type} {l m k : List α} {c : α → List Value} {lo hi : Int} {kl kh km : IntKind}
end
end Go.Sx

end
section
set_option linter.unusedVariables false
set_option linter.unusedSimpArgs false
namespace Go.Sx
open Go Go.RowKit
theorem wrap_u8 (n : Int) : IntKind.u8.wrap n = n % 256 := by simp [IntKind.wrap, IntKind.bits, IntKind.signed]
theorem ofI8 (x : BitVec 8) : BitVec.ofInt 8 (un8 x) = x := by unfold un8; rw [BitVec.ofInt_natCast, BitVec.ofNat_toNat, BitVec.setWidth_eq]
theorem wr8 (x : BitVec 8) : IntKind.u8.wrap (x.toNat : Int) = un8 x := by rw [wrap_u8]; unfold un8; have := x.isLt; omega
theorem b_xor (x y : BitVec 8) : bits .xor .u8 (un8 x) (un8 y) = un8 (x ^^^ y) := by
  show IntKind.u8.wrap ((BitVec.ofInt 8 (un8 x) ^^^ BitVec.ofInt 8 (un8 y)).toNat : Int) = _
  rw [ofI8, ofI8, wr8]
section
variable {P : Program} {L : Slots} {w : World} {dst : Option Nat} {ty : TypeId} {pos : String} {af : Array Edge} {gu : Option (Nat × Bool)} {x y : Operand} {t u e : TypeId} {a b : BitVec 8}
theorem vv_xorB (hx : ev L x = some (bv a)) (hy : ev L y = some (bv b)) : VV P L ⟨dst, .binOp .xor t x y u, ty, pos, af, gu⟩ w (bv (a ^^^ b)) := vv_eq (vv_bits (by simp) hx hy) (by rw [b_xor])
/-- copy into a key -/
theorem ev_copyK {bt off cp z2 g2 o2 : Nat} {tb : TypeId} {cs cs' : List Value} {p : W2} {v : Value} {s : List (BitVec 8)} (ha : ApT P t e 1 1) (hx : ev L x = some (.slice (some ⟨bt, off, none⟩) 16 cp)) (hy : ev L y = some v) (hb : Bx w bt tb cs) (h : (cs.drop off).take 16 = kb p) (hr : Rd w z2 g2 o2 1 v (s.map bvc))
    (hl : Nat.ble (off + 16) cs.length = true) (he : spl cs off (kb (ofB (copyL (kby p) s))) = cs') :
    EV P L ⟨dst, .call { callee := .builtin .copy, args := #[x, y], argTypes := #[t, t] }, ty, pos, af, gu⟩ w fun v' w' => v' = .int .i64 (copyN (kby p) s) ∧ Bx w' bt tb cs' ∧ Md bt w w' := fun ρ hρ => by
  obtain ⟨i, zv, hi, hzv, hsz, hby, hzs⟩ := ha.info
  have hl' := Nat.le_of_ble_eq_true hl
  have hs1 : (P.info? e).map (·.size) = some 1 := by rw [hi]; simp [hsz]
  have hkl : (copyL (kby p) s).length = 16 := by simp [copyL, kby_len]; omega
  have hkb : kby (ofB (copyL (kby p) s)) = copyL (kby p) s := by rw [kby_ofB (by omega), List.take_of_length_le (by omega)]
  have fin : ∀ v' w', (Builtin.copy_ #[t, t] ty #[.slice (some ⟨bt, off, none⟩) 16 cp, v]).run P w = .ok v' w' → (execOp ρ ⟨dst, .call { callee := .builtin .copy, args := #[x, y], argTypes := #[t, t] }, ty, pos, af, gu⟩).run P w = .ok (.value v') w' := fun v' w' h1 => by
    simp [execOp, resolve, invoke, builtin, hρ _ _ hx, hρ _ _ hy, h1]
  have hkey : ∀ m : List Value, (∃ k, k ≤ 16 ∧ m = (((s.map bvc).flatten).take k) ∧ copyL (kby p) s = s.take k ++ (kby p).drop k ∧ m.length = k) → spl cs off m = cs' := by
    rintro m ⟨k, hk, rfl, hc, hml⟩
    rw [← he, kb_kby, hkb, hc]
    have e0 : ((s.take k ++ (kby p).drop k).map bvc).flatten = ((s.map bvc).flatten).take k ++ (kb p).drop k := by
      have w1 : Ws 1 (s.map bvc) := ws_map _ (fun _ => rfl) (fun _ => rfl)
      have w2 : Ws 1 ((kby p).map bvc) := ws_map _ (fun _ => rfl) (fun _ => rfl)
      rw [List.map_append, List.flatten_append, List.map_take, List.map_drop, flat_take _ _ w1, flat_drop _ _ w2, ← kb_kby, Nat.mul_one]
    have hkbl : (kb p).length = 16 := rfl
    have hlen : (((s.map bvc).flatten).take k ++ (kb p).drop k).length = 16 := by rw [List.length_append, hml, List.length_drop, hkbl]; omega
    unfold spl
    rw [e0, hlen, hml, ← h]
    simp only [List.append_assoc]
    congr 2
    rw [List.drop_take, List.drop_drop]
    have e1 : off + 16 = off + k + (16 - k) := by omega
    rw [e1, ← List.drop_drop (i := 16 - k) (j := off + k), List.take_append_drop]
  rcases hr.2 with ⟨hz2, hs0, a, cap, rfl⟩ | ⟨hz2, cap, rfl, hlt, hcell⟩
  · have hs0' : s = [] := by simpa using hs0
    subst hs0'
    refine .val _ _ (fin _ _ (run_copy_none w t t ty e (some ⟨bt, off, none⟩) a 16 cp 0 cap ha.und hs1 (by simp))) ⟨by simp [copyN, goInt], ?_, Md.refl _ _⟩
    rw [← hkey [] ⟨0, by omega, by simp, by simp [copyL], rfl⟩, spl_nil]; exact hb
  · have hfs : (s.map bvc).flatten.length = s.length := by rw [hr.1.flat, List.length_map]; omega
    have hvl : ((s.map bvc).flatten.take (min s.length 16)).length = min s.length 16 := by rw [List.length_take, hfs]; omega
    have hld : (loadCells ⟨g2, o2, none⟩ (min s.length 16)).run P w = .ok ((s.map bvc).flatten.take (min s.length 16)).toArray w := by
      have := run_loadCells_list (P := P) w ⟨g2, o2, none⟩ ((s.map bvc).flatten.take (min s.length 16)) (fun j u hj => by
        rw [Addr.add_lit]
        refine hcell j u ?_
        rw [List.getElem?_take] at hj
        split at hj
        · exact hj
        · cases hj)
      rw [hvl] at this; exact this
    have hone : ∀ u ∈ (s.map bvc).flatten.take (min s.length 16), u.oneCell' = true := fun u hu => hr.1.one u (List.mem_of_mem_take hu)
    obtain ⟨w', hrun, hb', hmd⟩ := run_storeCells (P := P) (off := off) _ 0 w cs hone hb (by rw [hvl]; omega)
    refine .val _ w' (fin _ _ ?_) ⟨rfl, ?_, hmd⟩
    · have e1 : Nat.min (s.map bvc).length 16 = min s.length 16 := by rw [List.length_map]
      have e2 : min s.length (kby p).length = min s.length 16 := by rw [kby_len]
      simp [Builtin.copy_, run_underlying ha.und, Builtin.lenOf, Builtin.firstCells, sizeOf, typeInfo, hi, hsz, hld, hrun, goInt, copyN, e2]
    · rw [Nat.add_zero] at hb'
      rw [← hkey _ ⟨min s.length 16, by omega, rfl, ?_, hvl⟩]; exact hb'
      unfold copyL
      rw [kby_len]
      by_cases hle : s.length ≤ 16
      · rw [Nat.min_eq_left hle, List.take_of_length_le (by omega), List.take_of_length_le (by omega)]
      · rw [Nat.min_eq_right (by omega), List.drop_eq_nil_of_le (by rw [kby_len]; omega), List.drop_eq_nil_of_le (by rw [kby_len]; omega)]
end
/-! ### arrays -/
section
variable {P : Program} {L : Slots} {w : World} {dst : Option Nat} {ty : TypeId} {pos : String} {af : Array Edge} {gu : Option (Nat × Bool)} {x y : Operand} {t u e : TypeId}
theorem vv_ixJ {len b' off sz : Nat} {i : Int} {k : IntKind} (hu : P.underlying t = some (.array len e)) (hs : Siz P e sz) (hx : ev L x = some (.pointer (some ⟨b', off, none⟩))) (hy : ev L y = some (.int k i)) (h0 : 0 ≤ i ∧ i < len) :
    VV P L ⟨dst, .indexAddr t x y, ty, pos, af, gu⟩ w (.pointer (some ⟨b', off + i.toNat * sz, none⟩)) := vv_indexAddr hu hs hx hy h0.1 h0.2
end
end Go.Sx

end
section
set_option linter.unusedVariables false
set_option linter.unusedSimpArgs false
namespace Go.Sx
open Go Go.RowKit
/-- how an element's mirror and headers lie in memory -/
structure Rp (α : Type) where
  γ : Type
  sz : Nat
  c : α × γ → List Value
  S : World → List Nat → α × γ → Prop
  ws : ∀ {w F p}, S w F p → (c p).length = sz ∧ ones (c p) = true
  keep : ∀ {w w' F p}, S w F p → w.heap.size ≤ w'.heap.size → (∀ b ∈ F, b < w.heap.size → w'.heap[b]? = w.heap[b]?) → S w' F p
  mono : ∀ {w F F' p}, S w F p → (∀ b ∈ F, b ∈ F') → S w F' p
/-- an owned slice of such -/
def OwnD {α : Type} (R : Rp α) (w : World) (z g : Nat) (e : TypeId) (v : Value) (F : List Nat) (l : List α) : Prop :=
  ∃ lg : List (α × R.γ), lg.map Prod.fst = l ∧ Own w z g e R.sz v (lg.map R.c) ∧ (∀ p ∈ lg, R.S w F p) ∧ (∀ b ∈ F, b < w.heap.size) ∧ (z = 0 ∨ ∀ b ∈ F, b ≠ g)
/-- one that is read -/
def RdD {α : Type} (R : Rp α) (w : World) (z g o : Nat) (v : Value) (F : List Nat) (l : List α) : Prop :=
  ∃ lg : List (α × R.γ), lg.map Prod.fst = l ∧ Rd w z g o R.sz v (lg.map R.c) ∧ (∀ p ∈ lg, R.S w F p) ∧ (∀ b ∈ F, b < w.heap.size)
section
variable {α : Type} {R : Rp α} {w w' w₁ : World} {z g o b z' g' : Nat} {e : TypeId} {v : Value} {F F' : List Nat} {l : List α} {lz : List (Nat × Nat)} {ms : List Nat}
theorem OwnD.rd (h : OwnD R w z g e v F l) : RdD R w z g 0 v F l := by
  obtain ⟨lg, h1, h2, h3, h4, h5⟩ := h; exact ⟨lg, h1, h2.rd, h3, h4⟩
theorem OwnD.keep (h : OwnD R w z g e v F l) (hs : w.heap.size ≤ w'.heap.size) (hg : z = 0 ∨ (g < w.heap.size → w'.heap[g]? = w.heap[g]?)) (hF : ∀ b ∈ F, b < w.heap.size → w'.heap[b]? = w.heap[b]?) : OwnD R w' z g e v F l := by
  obtain ⟨lg, h1, h2, h3, h4, h5⟩ := h
  exact ⟨lg, h1, h2.keep hg, fun p hp => R.keep (h3 p hp) hs hF, fun b hb => Nat.lt_of_lt_of_le (h4 b hb) hs, h5⟩
theorem RdD.keep (h : RdD R w z g o v F l) (hs : w.heap.size ≤ w'.heap.size) (hg : z = 0 ∨ (g < w.heap.size → w'.heap[g]? = w.heap[g]?)) (hF : ∀ b ∈ F, b < w.heap.size → w'.heap[b]? = w.heap[b]?) : RdD R w' z g o v F l := by
  obtain ⟨lg, h1, h2, h3, h4⟩ := h
  exact ⟨lg, h1, h2.keep hg hs, fun p hp => R.keep (h3 p hp) hs hF, fun b hb => Nat.lt_of_lt_of_le (h4 b hb) hs⟩
theorem OwnD.gr (h : OwnD R w z g e v F l) (k : Gr w w') : OwnD R w' z g e v F l := h.keep k.size (.inr fun hl => k.block g hl) (fun b _ hl => k.block b hl)
theorem RdD.gr (h : RdD R w z g o v F l) (k : Gr w w') : RdD R w' z g o v F l := h.keep k.size (.inr fun hl => k.block g hl) (fun b _ hl => k.block b hl)
theorem OwnD.md (h : OwnD R w z g e v F l) (k : Md b w w') (hn : z = 0 ∨ g ≠ b) (hF : ∀ x ∈ F, 1 = 0 ∨ x ≠ b) : OwnD R w' z g e v F l := h.keep (Nat.le_of_eq k.size.symm) (hn.imp id fun hn _ => k.block g hn) (fun x hx _ => k.block x ((hF x hx).resolve_left (by decide)))
theorem RdD.md (h : RdD R w z g o v F l) (k : Md b w w') (hn : z = 0 ∨ g ≠ b) (hF : ∀ x ∈ F, 1 = 0 ∨ x ≠ b) : RdD R w' z g o v F l := h.keep (Nat.le_of_eq k.size.symm) (hn.imp id fun hn _ => k.block g hn) (fun x hx _ => k.block x ((hF x hx).resolve_left (by decide)))
theorem OwnD.ka (h : OwnD R w z g e v F l) (k : Ka z' g' w w') (hn : z = 0 ∨ z' = 0 ∨ g ≠ g') (hF : ∀ x ∈ F, z' = 0 ∨ x ≠ g') : OwnD R w' z g e v F l := h.keep k.size (hn.imp id fun hn hl => k.block g hl hn) (fun x hx hl => k.block x hl (hF x hx))
theorem RdD.ka (h : RdD R w z g o v F l) (k : Ka z' g' w w') (hn : z = 0 ∨ z' = 0 ∨ g ≠ g') (hF : ∀ x ∈ F, z' = 0 ∨ x ≠ g') : RdD R w' z g o v F l := h.keep k.size (hn.imp id fun hn hl => k.block g hl hn) (fun x hx hl => k.block x hl (hF x hx))
theorem OwnD.kz (h : OwnD R w z g e v F l) (k : Kz lz w w') (hn : z = 0 ∨ Nin lz g) (hF : ∀ x ∈ F, Nin lz x) : OwnD R w' z g e v F l := h.keep k.size (hn.imp id fun hn hl => k.block g hl hn) (fun x hx hl => k.block x hl (hF x hx))
theorem RdD.kz (h : RdD R w z g o v F l) (k : Kz lz w w') (hn : z = 0 ∨ Nin lz g) (hF : ∀ x ∈ F, Nin lz x) : RdD R w' z g o v F l := h.keep k.size (hn.imp id fun hn hl => k.block g hl hn) (fun x hx hl => k.block x hl (hF x hx))
theorem OwnD.kp (h : OwnD R w z g e v F l) (k : Kp ms w w') (hn : z = 0 ∨ g ∉ ms) (hF : ∀ x ∈ F, x ∉ ms) : OwnD R w' z g e v F l := h.keep k.size (hn.imp id fun hn hl => k.block g hl hn) (fun x hx hl => k.block x hl (hF x hx))
theorem RdD.kp (h : RdD R w z g o v F l) (k : Kp ms w w') (hn : z = 0 ∨ g ∉ ms) (hF : ∀ x ∈ F, x ∉ ms) : RdD R w' z g o v F l := h.keep k.size (hn.imp id fun hn hl => k.block g hl hn) (fun x hx hl => k.block x hl (hF x hx))
theorem OwnD.lth (h : OwnD R w z g e v F l) : Hdn (z = 0 ∨ (z = 1 ∧ g < w.heap.size)) := by obtain ⟨lg, h1, h2, _⟩ := h; exact h2.lth
theorem RdD.lth (h : RdD R w z g o v F l) : Hdn (z = 0 ∨ (z = 1 ∧ g < w.heap.size)) := by obtain ⟨lg, h1, h2, _⟩ := h; exact h2.lth
theorem OwnD.oneB (h : OwnD R w z g e v F l) : Sx.oneB v = true := by obtain ⟨lg, h1, h2, _⟩ := h; exact h2.oneB
theorem RdD.oneB (h : RdD R w z g o v F l) : Sx.oneB v = true := by obtain ⟨lg, h1, h2, _⟩ := h; exact h2.oneB
theorem OwnD.z1 {i : Int} {a : α} (h : OwnD R w z g e v F l) (hg : getI l i = some a) : z = 1 := by
  obtain ⟨lg, h1, h2, _⟩ := h
  rcases h2.2 with ⟨_, _, h0⟩ | ⟨h0, _⟩
  · have := getI_at hg
    rw [← h1, List.map_eq_nil_iff.1 h0] at this; simp at this
  · exact h0
theorem get_fst {β : Type} {lg : List (α × β)} {i : Int} {a : α} (h : lg.map Prod.fst = l) (hg : getI l i = some a) : ∃ x, getI lg i = some (a, x) := by
  have h0 := getI_nn hg
  have h1 := getI_at hg
  rw [← h, List.getElem?_map] at h1
  cases hx : lg[i.toNat]? with
  | none => rw [hx] at h1; cases h1
  | some p =>
    rw [hx] at h1
    have : p.1 = a := Option.some.inj h1
    exact ⟨p.2, by unfold getI; rw [if_pos h0, hx, ← this]⟩
/-- an element that is read -/
theorem RdD.at {i : Int} {a : α} (h : RdD R w z g o v F l) (hg : getI l i = some a) : ∃ (lg : List (α × R.γ)) (x : R.γ), Rd w z g o R.sz v (lg.map R.c) ∧ getI lg i = some (a, x) ∧ R.S w F (a, x) := by
  obtain ⟨lg, h1, h2, h3, h4⟩ := h
  obtain ⟨x, hx⟩ := get_fst h1 hg
  exact ⟨lg, x, h2, hx, h3 _ (List.mem_of_getElem? (getI_at hx))⟩
variable {P : Program} {L : Slots} {dst : Option Nat} {ty : TypeId} {pos : String} {af : Array Edge} {gu : Option (Nat × Bool)} {x y : Operand} {t : TypeId}
end
/-! ### representations -/
section
variable {α : Type} {R : Rp α} {w : World} {F F' : List Nat} {l : List α} {v : Value}
end
section
variable {α β : Type} {w : World} {z g o k sz : Nat} {F : List Nat} {v : Value} {i : Int}
variable {R : Rp α} {l : List α} {a : α} {P : Program} {L : Slots} {dst : Option Nat} {ty : TypeId} {pos : String} {af : Array Edge} {gu : Option (Nat × Bool)} {x y : Operand} {t e : TypeId}
end
/-! ### what is known of the blocks F -/
section
variable {A : Nat → Prop} {F F2 F3 : List Nat} {z g n n2 x : Nat}
end
end Go.Sx

end
section
set_option linter.unusedVariables false
set_option linter.unusedSimpArgs false
namespace Go.Sx
open Go Go.RowKit
/-- the operation at a place, if it is to be run ¦ to be left -/
def sqp (b : Bool) (n : Nat) (ops : Array Oper) (L : Slots) (i : Nat) : Option Oper :=
  match ops[i]? with
  | some o => match gd ops L o with
    | some g => bif (g == b) && inN n o.dst then some o else none
    | none => none
  | none => none
theorem sqp_eq {b : Bool} {n : Nat} {ops : Array Oper} {L : Slots} {i : Nat} {o : Oper} (h : sqp b n ops L i = some o) : ops[i]? = some o ∧ gd ops L o = some b ∧ inN n o.dst = true := by
  unfold sqp at h
  split at h
  · rename_i o' ho
    split at h
    · rename_i g hg
      cases hc : (g == b) && inN n o'.dst with
      | false => rw [hc] at h; cases h
      | true =>
        rw [hc] at h; cases h
        rw [Bool.and_eq_true] at hc
        exact ⟨ho, by rw [hg, beq_iff_eq.1 hc.1], hc.2⟩
    · cases h
  · cases h
/-- a region in the order of the text -/
def od : Nat → Nat → List (Nat × Nat)
  | 0, _ => []
  | n + 1, i => (i, 0) :: od n (i + 1)
theorem od_fst : ∀ n i, (od n i).map (·.1) = List.range' i n
  | 0, _ => rfl
  | n + 1, i => by rw [od, List.map_cons, od_fst n (i + 1)]; rfl
theorem od_lvl : ∀ n i, ((od n i).all fun x => (lvl x.2).isNone) = true
  | 0, _ => rfl
  | n + 1, i => by rw [od, List.all_cons, od_lvl n (i + 1)]; rfl
section
variable {P : Program} {r : Option Nat} {n : Nat} {Q : Exit → List Deferred → Slots → World → Prop} {D : List Deferred} {L : Slots} {w : World}
theorem qr {id : Nat} {ops : Array Oper} (k : Nat) (hk : ops.size = k) (hnd : allNodef ops = true) (h : SD P n ops (fun L w => Q .normal D L w) (fun _ _ => True) (fun _ _ => false) (od k 0) L w) : SW P r n (.region id ops false) Q D L w :=
  sw_region (od k 0) hnd (od_lvl k 0) (by rw [od_fst, hk, List.range_eq_range']) h
theorem qsr {id : Nat} {ops : Array Oper} {y : Code} (k : Nat) (hk : ops.size = k) (hnd : allNodef ops = true) (h : SD P n ops (fun L w => thenQ (fun D L w => SW P r n y Q D L w) Q .normal D L w) (fun _ _ => True) (fun _ _ => false) (od k 0) L w) : SW P r n (.seq (.region id ops false) y) Q D L w :=
  sw_seq (qr k hk hnd h)
theorem cnF {c : Operand} {x y : Code} {t : Bool} (hc : ev L c = some (.bool t)) (hf : t = false → SW P r n y Q D L w) (ht : t = true → SW P r n x Q D L w) : SW P r n (.cond c x y) Q D L w := sw_cond hc ht hf
theorem qj {x y : Code} {β : Type} (dead : List Nat) (dyn : β → Slots) (J : β → World → Prop) (h : SW P r n x (thenQ (fun D1 L1 w1 => D1 = D ∧ ∃ b, SubP (dyn b ++ drp dead L) L1 ∧ J b w1) Q) D L w) (hk : ∀ b w1, J b w1 → SW P r n y Q D (dyn b ++ drp dead L) w1) : SW P r n (.seq x y) Q D L w := sw_joinD dead dyn J hk h
end
theorem sbq {A B : Slots} (h : SubP A B := by repeat' first | exact trivial | refine ⟨rfl, ?_⟩) : SubP A B := h
section
variable {P : Program} {n : Nat} {ops : Array Oper} {Q : Slots → World → Prop} {rest : List (Nat × Nat)} {i : Nat} {dst : Option Nat} {op : Op} {ty : TypeId} {pos : String} {af : Array Edge} {gu : Option (Nat × Bool)} {L : Slots} {w : World}
theorem qv {v : Value} (hi : sqp true n ops L i = some ⟨dst, op, ty, pos, af, gu⟩) (hv : VV P L ⟨dst, op, ty, pos, af, gu⟩ w v) (h : SD P n ops Q (fun _ _ => True) (fun _ _ => false) rest (putL dst v L) w) : SD P n ops Q (fun _ _ => True) (fun _ _ => false) ((i, 0) :: rest) L w :=
  sd_vv (sqp_eq hi).1 (sqp_eq hi).2.1 (sqp_eq hi).2.2 hv h
theorem qe {R : Value → World → Prop} (hi : sqp true n ops L i = some ⟨dst, op, ty, pos, af, gu⟩) (hv : EV P L ⟨dst, op, ty, pos, af, gu⟩ w R) (h : ∀ v w', R v w' → SD P n ops Q (fun _ _ => True) (fun _ _ => false) rest (putL dst v L) w') : SD P n ops Q (fun _ _ => True) (fun _ _ => false) ((i, 0) :: rest) L w :=
  sd_ev (sqp_eq hi).1 (sqp_eq hi).2.1 (sqp_eq hi).2.2 hv h
theorem qk (hi : sqp false n ops L i = some ⟨dst, op, ty, pos, af, gu⟩) (h : SD P n ops Q (fun _ _ => True) (fun _ _ => false) rest (putL dst undef L) w) : SD P n ops Q (fun _ _ => True) (fun _ _ => false) ((i, 0) :: rest) L w :=
  sd_skip (sqp_eq hi).1 (sqp_eq hi).2.1 (sqp_eq hi).2.2 h
theorem qp {t : Bool} (hi : sqp true n ops L i = some ⟨dst, op, ty, pos, af, gu⟩) (hv : VV P L ⟨dst, op, ty, pos, af, gu⟩ w (.bool t)) (ht : t = true → SD P n ops Q (fun _ _ => True) (fun _ _ => false) rest (putL dst (.bool true) L) w) (hf : t = false → SD P n ops Q (fun _ _ => True) (fun _ _ => false) rest (putL dst (.bool false) L) w) : SD P n ops Q (fun _ _ => True) (fun _ _ => false) ((i, 0) :: rest) L w :=
  sd_split (sqp_eq hi).1 (sqp_eq hi).2.1 (sqp_eq hi).2.2 hv ht hf
theorem qpF {t : Bool} (hi : sqp true n ops L i = some ⟨dst, op, ty, pos, af, gu⟩) (hv : VV P L ⟨dst, op, ty, pos, af, gu⟩ w (.bool t)) (hf : t = false → SD P n ops Q (fun _ _ => True) (fun _ _ => false) rest (putL dst (.bool false) L) w) (ht : t = true → SD P n ops Q (fun _ _ => True) (fun _ _ => false) rest (putL dst (.bool true) L) w) : SD P n ops Q (fun _ _ => True) (fun _ _ => false) ((i, 0) :: rest) L w := qp hi hv ht hf
theorem qt {R : Value → Nat → Prop} (hi : sqp true n ops L i = some ⟨dst, op, ty, pos, af, gu⟩) (hv : ∃ v o, (∀ w1, VV P L ⟨dst, op, ty, pos, af, gu⟩ w1 v) ∧ R v o) (h : ∀ v o, R v o → SD P n ops Q (fun _ _ => True) (fun _ _ => false) rest (putL dst v L) w) : SD P n ops Q (fun _ _ => True) (fun _ _ => false) ((i, 0) :: rest) L w := by
  obtain ⟨v, o, h1, h2⟩ := hv
  exact qv hi (h1 w) (h v o h2)
variable {w₀ : World} {mss : List (List Nat)} {ms : List Nat} {kp : Nat → Nat → Bool}
theorem qh {v : Value} (k : Nat) (hi : sqp true n ops L i = some ⟨dst, op, ty, pos, af, gu⟩) (hm : mss[k]? = some ms) (hS : Kp ms w₀ w) (hv : ∀ w, Kp ms w₀ w → VV P L ⟨dst, op, ty, pos, af, gu⟩ w v) (h : SD P n ops Q (HldN mss w₀) kp rest (putL dst v L) w) : SD P n ops Q (HldN mss w₀) kp ((i, k + 10) :: rest) L w :=
  dd_hn k (sqp_eq hi).1 (sqp_eq hi).2.1 (sqp_eq hi).2.2 hm hS hv h
theorem qx (k : Nat) (hi : sqp false n ops L i = some ⟨dst, op, ty, pos, af, gu⟩) (hm : mss[k]? = some ms) (hS : Kp ms w₀ w) (h : SD P n ops Q (HldN mss w₀) kp rest (putL dst undef L) w) : SD P n ops Q (HldN mss w₀) kp ((i, k + 10) :: rest) L w :=
  dd_sn k (sqp_eq hi).1 (sqp_eq hi).2.1 (sqp_eq hi).2.2 hm hS h
theorem qq {t : Bool} (k : Nat) (hi : sqp true n ops L i = some ⟨dst, op, ty, pos, af, gu⟩) (hm : mss[k]? = some ms) (hS : Kp ms w₀ w) (hv : ∀ w, Kp ms w₀ w → VV P L ⟨dst, op, ty, pos, af, gu⟩ w (.bool t)) (ht : t = true → SD P n ops Q (HldN mss w₀) kp rest (putL dst (.bool true) L) w) (hf : t = false → SD P n ops Q (HldN mss w₀) kp rest (putL dst (.bool false) L) w) : SD P n ops Q (HldN mss w₀) kp ((i, k + 10) :: rest) L w :=
  dd_pn k (sqp_eq hi).1 (sqp_eq hi).2.1 (sqp_eq hi).2.2 hm hS hv ht hf
theorem qqF {t : Bool} (k : Nat) (hi : sqp true n ops L i = some ⟨dst, op, ty, pos, af, gu⟩) (hm : mss[k]? = some ms) (hS : Kp ms w₀ w) (hv : ∀ w, Kp ms w₀ w → VV P L ⟨dst, op, ty, pos, af, gu⟩ w (.bool t)) (hf : t = false → SD P n ops Q (HldN mss w₀) kp rest (putL dst (.bool false) L) w) (ht : t = true → SD P n ops Q (HldN mss w₀) kp rest (putL dst (.bool true) L) w) : SD P n ops Q (HldN mss w₀) kp ((i, k + 10) :: rest) L w := qq k hi hm hS hv ht hf
theorem qz {R : Value → World → Prop} (l : List (Nat × Nat)) (hi : sqp true n ops L i = some ⟨dst, op, ty, pos, af, gu⟩) (hv : EV P L ⟨dst, op, ty, pos, af, gu⟩ w R) (hb : AllL (fun k ms => kp k i = true → InA l (ms.map fun b => (1, b)) w₀.heap.size) 0 mss) (h : ∀ v w', R v w' → Kz l w w' ∧ SD P n ops Q (HldN mss w₀) kp rest (putL dst v L) w') : SD P n ops Q (HldN mss w₀) kp ((i, 0) :: rest) L w :=
  dd_z l (sqp_eq hi).1 (sqp_eq hi).2.1 (sqp_eq hi).2.2 hv hb h
theorem qy (hi : sqp false n ops L i = some ⟨dst, op, ty, pos, af, gu⟩) (h : SD P n ops Q (HldN mss w₀) kp rest (putL dst undef L) w) : SD P n ops Q (HldN mss w₀) kp ((i, 0) :: rest) L w :=
  dd_sz (sqp_eq hi).1 (sqp_eq hi).2.1 (sqp_eq hi).2.2 h
end
theorem iT {p : Prop} [Decidable p] {α : Type} {a b : Option α} {r : α} (h : decide p = true) (hm : (if p then a else b) = some r) : a = some r := ite_t (of_decide_eq_true h) hm
theorem iF {p : Prop} [Decidable p] {α : Type} {a b : Option α} {r : α} (h : decide p = false) (hm : (if p then a else b) = some r) : b = some r := ite_f (of_decide_eq_false h) hm
/-! ### what needs nothing but the slots -/
def nthV : List Value → Nat → Option Value
  | [], _ => none
  | v :: _, 0 => some v
  | _ :: r, k + 1 => nthV r k
theorem nthV_eq : ∀ {l : List Value} {k : Nat} {v : Value}, nthV l k = some v → l[k]? = some v
  | [], _, _, h => by cases h
  | a :: r, 0, v, h => h
  | a :: r, k + 1, v, h => by rw [List.getElem?_cons_succ]; exact nthV_eq h
def pureV (L : Slots) : Op → Option Value
  | .move x => ev L x
  | .assign x => ev L x
  | .extract x q => match ev L x with
    | some (.tuple vs) => nthV vs.toList q
    | _ => none
  | .pick c a b => match ev L c with
    | some (.bool t) => bif t then ev L a else ev L b
    | _ => none
  | _ => none
theorem pureV_vv {P : Program} {L : Slots} {dst : Option Nat} {op : Op} {ty : TypeId} {pos : String} {af : Array Edge} {gu : Option (Nat × Bool)} {v : Value} (h : pureV L op = some v) (w : World) : VV P L ⟨dst, op, ty, pos, af, gu⟩ w v := by
  unfold pureV at h
  split at h
  · exact vv_move h
  · exact vv_assign h
  · split at h
    · rename_i x q _ vs hx
      exact vv_extract (vs := vs.toList) (by rw [hx]) (nthV_eq h)
    · cases h
  · split at h
    · rename_i c a b _ t hc
      cases t with
      | true => exact vv_pickT hc h
      | false => exact vv_pickF hc h
    · cases h
  · cases h
def sqm (n : Nat) (ops : Array Oper) (L : Slots) (i : Nat) : Option (Option Nat × Value) :=
  match ops[i]? with
  | some o => match gd ops L o with
    | some true => match pureV L o.op with
      | some v => bif inN n o.dst then some (o.dst, v) else none
      | none => none
    | _ => none
  | none => none
theorem sqm_eq {n : Nat} {ops : Array Oper} {L : Slots} {i : Nat} {dst : Option Nat} {v : Value} (h : sqm n ops L i = some (dst, v)) : ∃ op ty pos af gu, ops[i]? = some ⟨dst, op, ty, pos, af, gu⟩ ∧ gd ops L ⟨dst, op, ty, pos, af, gu⟩ = some true ∧ inN n dst = true ∧ pureV L op = some v := by
  unfold sqm at h
  split at h
  · rename_i o ho
    split at h
    · rename_i hg
      split at h
      · rename_i v' hv
        cases hc : inN n o.dst with
        | false => rw [hc] at h; cases h
        | true =>
          rw [hc] at h; cases h
          exact ⟨_, _, _, _, _, ho, hg, hc, hv⟩
      · cases h
    · cases h
  · cases h
/-- a region's size, and that it defers nothing -/
def rgn (ops : Array Oper) (k : Nat) : Bool := Nat.beq ops.size k && allNodef ops
theorem rgn_eq {ops : Array Oper} {k : Nat} (h : rgn ops k = true) : ops.size = k ∧ allNodef ops = true := by
  unfold rgn at h; rw [Bool.and_eq_true] at h; exact ⟨Nat.eq_of_beq_eq_true h.1, h.2⟩
section
variable {P : Program} {r : Option Nat} {n : Nat} {Q : Exit → List Deferred → Slots → World → Prop} {K : List Deferred → Slots → World → Prop} {D : List Deferred} {L : Slots} {w : World} {S : Nat → World → Prop} {kp : Nat → Nat → Bool}
/-- the region's end, and the next region -/
theorem qd {id : Nat} {ops ops' : Array Oper} {y : Code} (k : Nat) (hk : rgn ops k = true) (h : SD P n ops (fun L w => thenQ (fun D L w => SW P r n y Q D L w) Q .normal D L w) (fun _ _ => True) (fun _ _ => false) (od k 0) L w) :
    SD P n ops' (fun L w => thenQ (fun D L w => SW P r n (.seq (.region id ops false) y) Q D L w) Q .normal D L w) S kp [] L w := sd_done (qsr k (rgn_eq hk).1 (rgn_eq hk).2 h)
theorem qs {id : Nat} {ops : Array Oper} {y : Code} (k : Nat) (hk : rgn ops k = true) (h : SD P n ops (fun L w => thenQ (fun D L w => SW P r n y Q D L w) Q .normal D L w) (fun _ _ => True) (fun _ _ => false) (od k 0) L w) : SW P r n (.seq (.region id ops false) y) Q D L w :=
  qsr k (rgn_eq hk).1 (rgn_eq hk).2 h
theorem qg {id : Nat} {ops : Array Oper} (k : Nat) (hk : rgn ops k = true) (h : SD P n ops (fun L w => Q .normal D L w) (fun _ _ => True) (fun _ _ => false) (od k 0) L w) : SW P r n (.region id ops false) Q D L w :=
  qr k (rgn_eq hk).1 (rgn_eq hk).2 h
/-- the region's end, and the way back -/
theorem qb {ops : Array Oper} {K : List Deferred → Slots → World → Prop} (h : Q .ret D L w) : SD P n ops (fun L w => thenQ (fun D L w => SW P r n .ret (thenQ K Q) D L w) (thenQ K Q) .normal D L w) S kp [] L w := sd_done (sw_ret (then_r h))
theorem qu {y : Code} (h : SW P r n y Q D L w) : SW P r n .skip (thenQ (fun D L w => SW P r n y Q D L w) Q) D L w := sw_skip (then_n h)
end
section
variable {P : Program} {n : Nat} {ops : Array Oper} {Q : Slots → World → Prop} {rest : List (Nat × Nat)} {i : Nat} {dst : Option Nat} {op : Op} {ty : TypeId} {pos : String} {af : Array Edge} {gu : Option (Nat × Bool)} {L : Slots} {w w₀ : World} {v : Value} {mss : List (List Nat)} {ms : List Nat} {kp : Nat → Nat → Bool}
theorem qm (h0 : sqm n ops L i = some (dst, v)) (h : SD P n ops Q (fun _ _ => True) (fun _ _ => false) rest (putL dst v L) w) : SD P n ops Q (fun _ _ => True) (fun _ _ => false) ((i, 0) :: rest) L w := by
  obtain ⟨op, ty, pos, af, gu, h1, h2, h3, h4⟩ := sqm_eq h0
  exact sd_vv h1 h2 h3 (pureV_vv h4 w) h
theorem dn (k : Nat) (h0 : sqm n ops L i = some (dst, v)) (hm : mss[k]? = some ms) (hS : Kp ms w₀ w) (h : SD P n ops Q (HldN mss w₀) kp rest (putL dst v L) w) : SD P n ops Q (HldN mss w₀) kp ((i, k + 10) :: rest) L w := by
  obtain ⟨op, ty, pos, af, gu, h1, h2, h3, h4⟩ := sqm_eq h0
  exact dd_hn k h1 h2 h3 hm hS (fun w _ => pureV_vv h4 w) h
/-- held, at the region's begin -/
theorem dm (k : Nat) (h0 : sqm n ops L i = some (dst, v)) (hm : mss[k]? = some ms) (h : SD P n ops Q (HldN mss w₀) kp rest (putL dst v L) w₀) : SD P n ops Q (HldN mss w₀) kp ((i, k + 10) :: rest) L w₀ := dn k h0 hm (Kp.refl _ _) h
theorem dh {v : Value} (k : Nat) (hi : sqp true n ops L i = some ⟨dst, op, ty, pos, af, gu⟩) (hm : mss[k]? = some ms) (hv : ∀ w, Kp ms w₀ w → VV P L ⟨dst, op, ty, pos, af, gu⟩ w v) (h : SD P n ops Q (HldN mss w₀) kp rest (putL dst v L) w₀) : SD P n ops Q (HldN mss w₀) kp ((i, k + 10) :: rest) L w₀ :=
  qh k hi hm (Kp.refl _ _) hv h
theorem dx (k : Nat) (hi : sqp false n ops L i = some ⟨dst, op, ty, pos, af, gu⟩) (hm : mss[k]? = some ms) (h : SD P n ops Q (HldN mss w₀) kp rest (putL dst undef L) w₀) : SD P n ops Q (HldN mss w₀) kp ((i, k + 10) :: rest) L w₀ :=
  qx k hi hm (Kp.refl _ _) h
end
section
variable {P : Program} {L : Slots} {w : World} {dst : Option Nat} {ty : TypeId} {pos : String} {af : Array Edge} {gu : Option (Nat × Bool)} {x y : Operand} {t : TypeId}
/-- a box gets a new content aas a whole -/
theorem ev_stW {b' m : Nat} {tb : TypeId} {cs vs : List Value} (hs : Agg P t m) (hx : ev L x = some (.pointer (some ⟨b', 0, none⟩))) (hy : ev L y = some (.agg vs.toArray)) (h1 : ones vs = true) (hb : Bx w b' tb cs) (hm : vs.length = m) (hl : cs.length = m) :
    EV P L ⟨dst, .store t x y, ty, pos, af, gu⟩ w fun _ w' => Bx w' b' tb vs ∧ Md b' w w' :=
  ev_stM hs.siz hx hy rfl hm h1 hb (by rw [hl, Nat.zero_add]; exact Nat.ble_eq_true_of_le (Nat.le_refl _)) (by unfold spl; rw [List.take_zero, List.nil_append, Nat.zero_add, List.drop_eq_nil_of_le (by omega), List.append_nil])
end
theorem kz0 {w : World} : Kz [] w w := Kz.refl _ _
/-! a slice's block is not b -/
section
variable {b z g z' g' s z1 g1 z2 g2 z3 g3 : Nat}
theorem pb_app (r : Hdn ((g' = g ∧ z = 1) ∨ s ≤ g' ∨ z' = 0)) (h : z = 0 ∨ g ≠ b) (f : s ≤ b → False := by omega) : z' = 0 ∨ g' ≠ b := pv_app (A := (· ≠ b)) r h (fun x hx e => f (e ▸ hx))
theorem pb_0 (r : Hdn (z = 0 ∨ s ≤ g)) (f : s ≤ b → False := by omega) : z = 0 ∨ g ≠ b := pv_0 (A := (· ≠ b)) r (fun x hx e => f (e ▸ hx))
theorem pb_1 (r : Hdn (z = 0 ∨ (g = g1 ∧ z1 ≠ 0) ∨ s ≤ g)) (h1 : z1 = 0 ∨ g1 ≠ b) (f : s ≤ b → False := by omega) : z = 0 ∨ g ≠ b := pv_1 (A := (· ≠ b)) r h1 (fun x hx e => f (e ▸ hx))
theorem pb_lt (r : Hdn (z = 0 ∨ (z = 1 ∧ g < s))) (f : b < s → False := by omega) : z = 0 ∨ g ≠ b := pv_lt (A := (· ≠ b)) r (fun x hx e => f (e ▸ hx))
end
/-- the numbers from a on -/
def rg : Nat → Nat → List Nat
  | _, 0 => []
  | a, n + 1 => a :: rg (a + 1) n
theorem kG {w w' : World} {p : Prop} (h : Gr w w') (k : p) : Kz [] w w' ∧ p := ⟨Kz.ofGr h, k⟩
theorem kM {w w' : World} {b : Nat} {p : Prop} (h : Md b w w') (k : p) : Kz [(1, b)] w w' ∧ p := ⟨Kz.ofMd h, k⟩
theorem dw {P : Program} {r : Option Nat} {n : Nat} {Q : Exit → List Deferred → Slots → World → Prop} {D : List Deferred} {L : Slots} {w : World} {id : Nat} {ops : Array Oper} (mss : List (List Nat)) (tab : List (Nat × List Nat)) (t : Tz)
    (h : ∀ w1, RowKit.Below w.heap.size w w1 → w1.heap.size = w.heap.size → SDZ P n ops (fun L w => Q .normal D L w) (HldN mss w1) (kpN tab) t L w1) (hm : P.follows .mixedOrders = true := by kernel_rfl) (hnd : allNodef ops = true := by kernel_rfl) (hlen : t.len = ops.size := by exact rfl)
    (ho : okTz ops (kpN tab) t (Array.replicate ops.size false) = true := by kernel_rfl) : SW P r n (.region id ops true) Q D L w := sw_drawN mss tab t hm hnd hlen ho h
/-- a call -/
theorem eC {P : Program} {L : Slots} {w : World} {dst : Option Nat} {ty : TypeId} {pos : String} {af : Array Edge} {gu : Option (Nat × Bool)} {f : Nat} {aas : Array Operand} {at_ : Array TypeId} {vs : List Value} {R : Value → World → Prop} (hen : En P f) (hargs : evs L aas.toList = some vs)
    (hc : Calls P f vs.toArray w fun e w' => ∃ v, e = .returned v ∧ R v w') : EV P L ⟨dst, .call { callee := .value (.func f), args := aas, argTypes := at_ }, ty, pos, af, gu⟩ w R := ev_call hen hargs hc
/-! bytes of a constant: its row gets a mark -/
end Go.Sx

end
section
set_option linter.unusedVariables false
set_option linter.unusedSimpArgs false
namespace Go.Sx
open Go Go.RowKit
theorem bt_and {a b : Bool} (ha : a = true) (hb : b = true) : (a && b) = true := by rw [ha, hb]; rfl
theorem ok_int {P : Program} {W : World} {r : Reach} {base : Nat} {t : TypeId} {v : Value} {k : IntKind} (hu : P.underlying t = some (.int k)) (h : Cell.okWide P W r base t v) : ∃ n, v = .int k n ∧ k.has n := by
  simp only [Cell.okWide, hu, Cell.ok] at h
  split at h <;> try (exact h.elim)
  all_goals first | (obtain ⟨rfl, h⟩ := h; rename_i e; cases e; exact ⟨_, rfl, h⟩) | simp_all
theorem ok_i64 {P : Program} {W : World} {r : Reach} {base : Nat} {t : TypeId} {v : Value} (hu : P.underlying t = some (.int .i64)) (h : Cell.okWide P W r base t v) : ∃ n : Int, v = .int .i64 n ∧ -9223372036854775808 ≤ n ∧ n ≤ 9223372036854775807 := by
  obtain ⟨n, h1, h2⟩ := ok_int hu h
  simp only [IntKind.has, IntKind.min, IntKind.max, IntKind.bits, IntKind.signed] at h2
  exact ⟨n, h1, by simpa using h2.1, by simpa using h2.2⟩
theorem ok_u64 {P : Program} {W : World} {r : Reach} {base : Nat} {t : TypeId} {v : Value} (hu : P.underlying t = some (.int .u64)) (h : Cell.okWide P W r base t v) : ∃ n : BitVec 64, v = wv n := by
  obtain ⟨n, h1, h2⟩ := ok_int hu h
  simp only [IntKind.has, IntKind.min, IntKind.max, IntKind.bits, IntKind.signed] at h2
  exact ⟨wd n, by rw [h1]; show _ = Value.int .u64 (un (wd n)); rw [un_wd n (by simpa using h2.1) (by simpa using h2.2)]⟩
end Go.Sx

end
section
set_option linter.unusedVariables false
set_option linter.unusedSimpArgs false
namespace Go.Sx
open Go Go.RowKit
def I64 (n : Int) : Prop := -9223372036854775808 ≤ n ∧ n ≤ 9223372036854775807
section
variable {H : Type} {enc : TypeId × Value → H} {P : Program} {W : World} {fuel : Nat} {t e : TypeId} {cs : List Value} {x : DataW H × List MemPlace}
/-- what is read takes no more than the form's reach -/
def Sz (P : Program) (t : TypeId) (d : DataW H) : Prop := ∀ n ∈ d.weights P t, n ≤ reachBytes
abbrev Tr (enc : TypeId × Value → H) (P : Program) (W : World) (fuel : Nat) (t : TypeId) (cs : List Value) (x : DataW H × List MemPlace) : Prop := DataW.trod enc P W 0 (fun _ => true) true fuel t cs = some x
theorem op_i64 (hu : P.underlying t = some (.int .i64)) (h : Tr enc P W fuel t cs x) : ∃ n : Int, cs = [.int .i64 n] ∧ I64 n := by
  obtain ⟨n, rfl, _, hw⟩ := DataW.trod_int hu h
  simp [Lit.wf, IntKind.min, IntKind.max, IntKind.signed, IntKind.bits] at hw
  exact ⟨n, rfl, by unfold I64; omega⟩
theorem op_u64 (hu : P.underlying t = some (.int .u64)) (h : Tr enc P W fuel t cs x) : ∃ n : BitVec 64, cs = [wv n] := by
  obtain ⟨n, rfl, _, hw⟩ := DataW.trod_int hu h
  simp [Lit.wf, IntKind.min, IntKind.max, IntKind.signed, IntKind.bits] at hw
  refine ⟨wd n, ?_⟩
  show [Value.int .u64 n] = [Value.int .u64 (un (wd n))]
  rw [un_wd n (by omega) (by omega)]
theorem op_u8 (hu : P.underlying t = some (.int .u8)) (h : Tr enc P W fuel t cs x) : ∃ n : BitVec 8, cs = [bv n] := by
  obtain ⟨n, rfl, _, hw⟩ := DataW.trod_int hu h
  simp [Lit.wf, IntKind.min, IntKind.max, IntKind.signed, IntKind.bits] at hw
  refine ⟨wd8 n, ?_⟩
  show [Value.int .u8 n] = [Value.int .u8 (un8 (wd8 n))]
  have : un8 (wd8 n) = n := by unfold un8 wd8; rw [BitVec.toNat_ofInt]; omega
  rw [this]
theorem get1 {cs : List Value} {i : Nat} {v : Value} (h : (cs.drop (i * 1)).take 1 = [v]) : cs[i]? = some v := by
  have : ((cs.drop (i * 1)).take 1)[0]? = some v := by rw [h]; rfl
  simpa [List.getElem?_take, List.getElem?_drop] using this
theorem op_bytes (he : P.underlying e = some (.int .u8)) (hc : P.cellsOf e = 1) {m n : Nat} {xs : List (DataW H × List MemPlace)} (hl : cs.length = n) (hx : xs.length = n)
    (h : ∀ i, i < n → DataW.trod enc P W 0 (fun _ => true) true m e ((cs.drop (i * P.cellsOf e)).take (P.cellsOf e)) = xs[i]?) : ∃ l : List (BitVec 8), l.length = n ∧ cs = (l.map bvc).flatten := by
  have key : ∀ i, i < n → ∃ b : BitVec 8, cs[i]? = some (bv b) := fun i hi => by
    have h1 := h i hi
    rw [hc] at h1
    have : ∃ y, xs[i]? = some y := ⟨xs[i], by simp [hx, hi]⟩
    obtain ⟨y, hy⟩ := this
    rw [hy] at h1
    obtain ⟨b, hb⟩ := op_u8 he h1
    exact ⟨b, get1 hb⟩
  refine ⟨List.ofFn fun i : Fin n => Classical.choose (key i.1 i.2), by simp, ?_⟩
  have hf : ∀ (l : List (BitVec 8)), (l.map bvc).flatten = l.map bv := by
    intro l
    induction l with
    | nil => rfl
    | cons a l ih => simp only [List.map_cons, List.flatten_cons, ih]; rfl
  rw [hf]
  apply List.ext_getElem?
  intro i
  by_cases hi : i < n
  · rw [Classical.choose_spec (key i hi)]
    simp [hi]
  · rw [List.getElem?_eq_none (by omega), List.getElem?_eq_none (by simp; omega)]
theorem op_key (hu : P.underlying t = some (.array 16 e)) (he : P.underlying e = some (.int .u8)) (hc : P.cellsOf e = 1) (ht : P.cellsOf t = 16) (h : Tr enc P W fuel t cs x) : ∃ p : W2, cs = kb p := by
  obtain ⟨xs, m, rfl, rfl, hl, hx, hf⟩ := DataW.trod_array hu h
  obtain ⟨l, h1, h2⟩ := op_bytes he hc (hl.trans ht) hx hf
  refine ⟨ofB l, ?_⟩
  rw [kb_kby, kby_ofB (by omega), List.take_of_length_le (by omega)]; exact h2
theorem fld {fs : Array Field} {n : Nat} {xs : List (DataW H × List MemPlace)} (hf : ∀ (i : Nat) (f : Field), fs[i]? = some f → DataW.trod enc P W 0 (fun _ => true) true n f.type ((cs.drop f.offset).take (P.cellsOf f.type)) = xs[i]?) {i o k : Nat} {u : TypeId} {f : Field} {y : DataW H × List MemPlace}
    (hi : fs[i]? = some f) (h1 : f.type = u) (h2 : f.offset = o) (h3 : P.cellsOf u = k) (e : xs[i]? = some y) : Tr enc P W n u ((cs.drop o).take k) y := by
  subst h1; subst h2; subst h3
  exact (hf i f hi).trans e
theorem cat_step {cs a r : List Value} {o k : Nat} (h : (cs.drop o).take k = a) (hr : cs.drop (o + k) = r) : cs.drop o = a ++ r := by rw [← h, ← hr, ← List.drop_drop, List.take_append_drop]
theorem cat_end {cs : List Value} {n : Nat} (h : cs.length = n) : cs.drop n = [] := List.drop_eq_nil_of_le (by omega)
theorem some_at {α : Type} {xs : List α} {n i : Nat} (h : xs.length = n) (hi : Nat.blt i n = true) : ∃ y, xs[i]? = some y := ⟨xs[i]'(by rw [h]; exact Nat.le_of_ble_eq_true hi), by simp⟩
theorem cells_get {w : World} {a : Addr} {n : Nat} {cs : List Value} (h : w.cells? 0 a n = some cs) : cs.length = n ∧ ∀ q u, cs[q]? = some u → w.cell? (a.add q) = some u := by
  unfold World.cells? at h
  rw [if_pos (Nat.zero_le _)] at h
  have hl := mapM_some_length h
  rw [List.length_range] at hl
  refine ⟨hl, fun q u hq => ?_⟩
  have hqn : q < n := by rw [← hl]; exact (List.getElem?_eq_some_iff.1 hq).1
  have := mapM_some_get h q q (by simp [hqn])
  rw [this]; exact hq
/-! the arguments' own shapes -/
theorem okv_agg {r : Reach} {base : Nat} {v : Value} (hu : (∃ fs, P.underlying t = some (.struct fs)) ∨ ∃ n e, P.underlying t = some (.array n e)) (h : Value.okWide P W r base t v) : ∃ cs : List Value, v = .agg cs.toArray := by
  unfold Value.okWide at h
  split at h
  · obtain ⟨cs, rfl, _⟩ := h; exact ⟨cs.toList, rfl⟩
  · obtain ⟨cs, rfl, _⟩ := h; exact ⟨cs.toList, rfl⟩
  · rename_i h1 h2
    rcases hu with ⟨fs, hu⟩ | ⟨n, e, hu⟩
    · exact absurd hu (h1 fs)
    · exact absurd hu (h2 n e)
theorem okv_cell {r : Reach} {base : Nat} {v : Value} (h1 : ∀ fs, P.underlying t ≠ some (.struct fs)) (h2 : ∀ n e, P.underlying t ≠ some (.array n e)) (h : Value.okWide P W r base t v) : Cell.okWide P W r base t v := by
  unfold Value.okWide at h
  split at h
  · rename_i h3; exact absurd h3 (h1 _)
  · rename_i h3; exact absurd h3 (h2 _ _)
  · exact h
theorem okv_i64 {r : Reach} {base : Nat} {v : Value} (hu : P.underlying t = some (.int .i64)) (h : Value.okWide P W r base t v) : ∃ n : Int, v = .int .i64 n ∧ I64 n := ok_i64 hu (okv_cell (by simp [hu]) (by simp [hu]) h)
theorem okv_u64 {r : Reach} {base : Nat} {v : Value} (hu : P.underlying t = some (.int .u64)) (h : Value.okWide P W r base t v) : ∃ n : BitVec 64, v = wv n := ok_u64 hu (okv_cell (by simp [hu]) (by simp [hu]) h)
theorem cells_agg (cs : List Value) : (Value.agg cs.toArray).cells.toList = cs := rfl
theorem cells_sl (a : Option Addr) (l c : Nat) : (Value.slice a l c).cells.toList = [.slice a l c] := rfl
/-- a slice -/
theorem op_sl {α : Type} {c : α → List Value} {ok : α → Prop} {sz bytes : Nat} (hu : P.underlying t = some (.slice e)) (hc : P.cellsOf e = sz) (hb : P.bytesOf e = bytes) (hpos : 1 ≤ sz) (hcs : ∀ a, (c a).length = sz ∧ ones (c a) = true)
    (hel : ∀ (fuel : Nat) (cs : List Value) (x : DataW H × List MemPlace), Tr enc P W fuel e cs x → ∃ m : α, cs = c m ∧ ok m) (h : Tr enc P W fuel t cs x) (hw : Sz P t x.1) :
    ∃ (l : List α) (v : Value) (z g o : Nat), cs = [v] ∧ Rd W z g o sz v (l.map c) ∧ (∀ a ∈ l, ok a) ∧ l.length * bytes ≤ 140737488351232 := by
  rcases DataW.trod_slice hu h with ⟨rfl, rfl⟩ | ⟨a, len, cap, elems, rest, n, rfl, rfl, rfl, _, hlc, hcm, hel2, hget, _, _⟩
  · exact ⟨[], _, 0, 0, 0, rfl, ⟨ws_nil _, .inl ⟨rfl, rfl, none, 0, rfl⟩⟩, by simp, by simp⟩
  · have key : ∀ i, i < len → ∃ m : α, W.cells? 0 (a.add (i * sz)) sz = some (c m) ∧ ok m := fun i hi => by
      have h1 := hget i hi
      rw [hc] at h1
      have hy : elems[i]? = some elems[i] := by simp
      rw [hy] at h1
      rw [Option.bind_eq_some_iff] at h1
      obtain ⟨cs', h2, h3⟩ := h1
      obtain ⟨m, rfl, hm⟩ := hel _ _ _ h3
      exact ⟨m, h2, hm⟩
    let f : Fin len → α := fun i => Classical.choose (key i.1 i.2)
    have hf : ∀ i (hi : i < len), W.cells? 0 (a.add (i * sz)) sz = some (c (f ⟨i, hi⟩)) ∧ ok (f ⟨i, hi⟩) := fun i hi => Classical.choose_spec (key i hi)
    have hws : Ws sz ((List.ofFn f).map c) := fun y hy => by
      obtain ⟨b, _, rfl⟩ := List.mem_map.1 hy; exact hcs b
    have hbd : (List.ofFn f).length * bytes ≤ 140737488351232 := by
      have := hw ((elems.length + rest.length) * P.bytesOf e) (by simp [DataW.weights, hu])
      rw [hb] at this
      have h2 : elems.length * bytes ≤ (elems.length + rest.length) * bytes := Nat.mul_le_mul_right _ (by omega)
      have h3 : reachBytes = 140737488351232 := by decide
      rw [List.length_ofFn, ← hel2]; omega
    rcases Nat.eq_zero_or_pos len with h0 | hp
    · refine ⟨List.ofFn f, _, 0, 0, 0, rfl, ⟨hws, .inl ⟨rfl, ?_, some a, cap, by rw [h0]⟩⟩, ?_, hbd⟩
      · apply List.eq_nil_of_length_eq_zero; simp [h0]
      · intro b hb'; obtain ⟨i, rfl⟩ := List.mem_ofFn.1 hb'; exact (hf i.1 i.2).2
    · have hcell : ∀ j u, ((List.ofFn f).map c).flatten[j]? = some u → W.cell? (a.add j) = some u := fun j u hj => by
        have hjl : j < len * sz := by
          have h1 := (List.getElem?_eq_some_iff.1 hj).1
          rw [hws.flat] at h1; simpa using h1
        have hq : j % sz < sz := Nat.mod_lt _ (by omega)
        have hi : j / sz < len := (Nat.div_lt_iff_lt_mul (by omega)).2 hjl
        obtain ⟨h1, _⟩ := hf (j / sz) hi
        have h2 := hws.at (j / sz) (j % sz) (c (f ⟨j / sz, hi⟩)) (by simp [hi]) hq
        have hdm : j / sz * sz + j % sz = j := by rw [Nat.mul_comm]; exact Nat.div_add_mod j sz
        rw [hdm, hj] at h2
        have h3 := (cells_get h1).2 (j % sz) u h2.symm
        rw [Addr.add_add, hdm] at h3; exact h3
      have hsp : a.spot = none := by
        have h0 : ∃ u, ((List.ofFn f).map c).flatten[0]? = some u := by
          have : 0 < ((List.ofFn f).map c).flatten.length := by rw [hws.flat]; simp; exact Nat.mul_pos hp (by omega)
          exact ⟨_, List.getElem?_eq_getElem this⟩
        obtain ⟨u, hu0⟩ := h0
        simpa [Addr.add] using World.cell?_spot (hcell 0 u hu0)
      obtain ⟨g, o, spot⟩ := a
      simp only at hsp; subst hsp
      have hlt : g < W.heap.size := by
        have h0 : ∃ u, ((List.ofFn f).map c).flatten[0]? = some u := by
          have : 0 < ((List.ofFn f).map c).flatten.length := by rw [hws.flat]; simp; exact Nat.mul_pos hp (by omega)
          exact ⟨_, List.getElem?_eq_getElem this⟩
        obtain ⟨u, hu0⟩ := h0
        have h1 := hcell 0 u hu0
        rcases Nat.lt_or_ge g W.heap.size with h | h
        · exact h
        · simp [World.cell?, Addr.add, Array.getElem?_eq_none h] at h1
      refine ⟨List.ofFn f, _, 1, g, o, rfl, ⟨hws, .inr ⟨rfl, cap, by simp, ⟨hlt, by simpa using hlc⟩, fun j u hj => ?_⟩⟩, ?_, hbd⟩
      · have := hcell j u hj; rw [Addr.add_lit] at this; exact this
      · intro b hb'; obtain ⟨i, rfl⟩ := List.mem_ofFn.1 hb'; exact (hf i.1 i.2).2
end
end Go.Sx

end
section
set_option linter.unusedVariables false
namespace Go.Sx
open Go
def rotl (x : BitVec 64) (s : Nat) : BitVec 64 := x <<< s ||| x >>> (64 - s)
/-- one round of the cipher, on the two words; and back -/
def rnd (p : W2) (k : BitVec 64) : W2 := ((rotl p.1 56 + p.2) ^^^ k, rotl p.2 3 ^^^ ((rotl p.1 56 + p.2) ^^^ k))
/-- what makes the round keys -/
def ks (k : W2) : Nat → W2
  | 0 => k
  | i + 1 => rnd (ks k i) (wd (i : Int))
/-- a block, encrypted under a key -/
def encr (k b : W2) : W2 := (List.range 32).foldl (fun p i => rnd p (ks k i).2) b
/-- the block of a tag, a counter and a number -/
def blk (tag : Int) (c n : BitVec 64) : W2 := (wd tag <<< 56 ||| c, n)
/-- what is derived from a key -/
def drv (k : W2) (tag : Int) (n : BitVec 64) : W2 := encr k (blk tag 0#64 n)
/-- the number of bits of a number -/
def lg (a : Int) : Int := if a.toNat = 0 then 0 else (Nat.log2 a.toNat : Int) + 1
end Go.Sx

end
section
set_option linter.unusedVariables false
set_option maxRecDepth 100000
namespace Go.Sx
open Go Go.RowKit
structure TGroup where
  P : BitVec 64
  Q : BitVec 64
  G : BitVec 64
deriving DecidableEq, Inhabited
def TGroup.cs (x : TGroup)  : List Value := [wv x.P, wv x.Q, wv x.G]
theorem TGroup.cs_ones (x : TGroup)   : ones (TGroup.cs x ) = true := by simp only [TGroup.cs, List.cons_append, List.nil_append, kb, ones, one_int, one_bool, one_str, cond_true]
theorem TGroup.cs_inj {x y : TGroup} (h : TGroup.cs x = TGroup.cs y) : x = y := by
  have h0 : x.P = y.P := cu_inj (congrArg (fun l => l[0]?) h)
  have h1 : x.Q = y.Q := cu_inj (congrArg (fun l => l[1]?) h)
  have h2 : x.G = y.G := cu_inj (congrArg (fun l => l[2]?) h)
  cases x; cases y; simp only at *; subst h0; subst h1; subst h2; rfl
theorem TGroup.ws (l : List TGroup) : Ws 3 (l.map TGroup.cs) := ws_map l (fun _ => rfl) (fun _ => rfl)
structure TScheme where
  Kind : BitVec 8
  Depth : Int
  Degree : Int
  Group : TGroup
deriving DecidableEq, Inhabited
def TScheme.cs (x : TScheme)  : List Value := [bv x.Kind, .int .i64 x.Depth, .int .i64 x.Degree, wv x.Group.P, wv x.Group.Q, wv x.Group.G]
theorem TScheme.cs_ones (x : TScheme)   : ones (TScheme.cs x ) = true := by simp only [TScheme.cs, List.cons_append, List.nil_append, kb, ones, one_int, one_bool, one_str, cond_true]
theorem TScheme.cs_inj {x y : TScheme} (h : TScheme.cs x = TScheme.cs y) : x = y := by
  have h0 : x.Kind = y.Kind := cb_inj (congrArg (fun l => l[0]?) h)
  have h1 : x.Depth = y.Depth := ci_inj (congrArg (fun l => l[1]?) h)
  have h2 : x.Degree = y.Degree := ci_inj (congrArg (fun l => l[2]?) h)
  have h3 : x.Group = y.Group := TGroup.cs_inj (congrArg (fun l => (l.drop 3).take 3) h)
  cases x; cases y; simp only at *; subst h0; subst h1; subst h2; subst h3; rfl
theorem TScheme.ws (l : List TScheme) : Ws 6 (l.map TScheme.cs) := ws_map l (fun _ => rfl) (fun _ => rfl)
structure TSubset where
  Node : Int
  Minus : Int
deriving DecidableEq, Inhabited
def TSubset.cs (x : TSubset)  : List Value := [.int .i64 x.Node, .int .i64 x.Minus]
theorem TSubset.cs_ones (x : TSubset)   : ones (TSubset.cs x ) = true := by simp only [TSubset.cs, List.cons_append, List.nil_append, kb, ones, one_int, one_bool, one_str, cond_true]
theorem TSubset.cs_inj {x y : TSubset} (h : TSubset.cs x = TSubset.cs y) : x = y := by
  have h0 : x.Node = y.Node := ci_inj (congrArg (fun l => l[0]?) h)
  have h1 : x.Minus = y.Minus := ci_inj (congrArg (fun l => l[1]?) h)
  cases x; cases y; simp only at *; subst h0; subst h1; rfl
theorem TSubset.ws (l : List TSubset) : Ws 2 (l.map TSubset.cs) := ws_map l (fun _ => rfl) (fun _ => rfl)
structure TLabel where
  Node : Int
  Minus : Int
  Key : W2
deriving DecidableEq, Inhabited
def TLabel.cs (x : TLabel)  : List Value := [.int .i64 x.Node, .int .i64 x.Minus] ++ (kb x.Key)
theorem TLabel.cs_ones (x : TLabel)   : ones (TLabel.cs x ) = true := by simp only [TLabel.cs, List.cons_append, List.nil_append, kb, ones, one_int, one_bool, one_str, cond_true]
theorem TLabel.cs_inj {x y : TLabel} (h : TLabel.cs x = TLabel.cs y) : x = y := by
  have h0 : x.Node = y.Node := ci_inj (congrArg (fun l => l[0]?) h)
  have h1 : x.Minus = y.Minus := ci_inj (congrArg (fun l => l[1]?) h)
  have h2 : x.Key = y.Key := kb_inj (congrArg (fun l => (l.drop 2).take 16) h)
  cases x; cases y; simp only at *; subst h0; subst h1; subst h2; rfl
theorem TLabel.ws (l : List TLabel) : Ws 18 (l.map TLabel.cs) := ws_map l (fun _ => rfl) (fun _ => rfl)
structure TPoint where
  X : BitVec 64
  Y : BitVec 64
deriving DecidableEq, Inhabited
def TPoint.cs (x : TPoint)  : List Value := [wv x.X, wv x.Y]
theorem TPoint.cs_ones (x : TPoint)   : ones (TPoint.cs x ) = true := by simp only [TPoint.cs, List.cons_append, List.nil_append, kb, ones, one_int, one_bool, one_str, cond_true]
theorem TPoint.cs_inj {x y : TPoint} (h : TPoint.cs x = TPoint.cs y) : x = y := by
  have h0 : x.X = y.X := cu_inj (congrArg (fun l => l[0]?) h)
  have h1 : x.Y = y.Y := cu_inj (congrArg (fun l => l[1]?) h)
  cases x; cases y; simp only at *; subst h0; subst h1; rfl
theorem TPoint.ws (l : List TPoint) : Ws 2 (l.map TPoint.cs) := ws_map l (fun _ => rfl) (fun _ => rfl)
structure TSecret where
  Receiver : Int
  Labels : List TLabel
  Share : TPoint
deriving DecidableEq, Inhabited
def TSecret.cs (x : TSecret) (v0 : Value) : List Value := [.int .i64 x.Receiver, v0, wv x.Share.X, wv x.Share.Y]
theorem TSecret.cs_ones (x : TSecret) (v0 : Value) (h0 : oneB v0 = true) : ones (TSecret.cs x v0) = true := by simp only [TSecret.cs, List.cons_append, List.nil_append, kb, ones, one_int, one_bool, one_str, cond_true, h0]
structure TItem where
  Subset : TSubset
  Box : W2
deriving DecidableEq, Inhabited
def TItem.cs (x : TItem)  : List Value := [.int .i64 x.Subset.Node, .int .i64 x.Subset.Minus] ++ (kb x.Box)
theorem TItem.cs_ones (x : TItem)   : ones (TItem.cs x ) = true := by simp only [TItem.cs, List.cons_append, List.nil_append, kb, ones, one_int, one_bool, one_str, cond_true]
theorem TItem.cs_inj {x y : TItem} (h : TItem.cs x = TItem.cs y) : x = y := by
  have h0 : x.Subset = y.Subset := TSubset.cs_inj (congrArg (fun l => (l.drop 0).take 2) h)
  have h1 : x.Box = y.Box := kb_inj (congrArg (fun l => (l.drop 2).take 16) h)
  cases x; cases y; simp only at *; subst h0; subst h1; rfl
theorem TItem.ws (l : List TItem) : Ws 18 (l.map TItem.cs) := ws_map l (fun _ => rfl) (fun _ => rfl)
structure THeader where
  Items : List TItem
  Base : BitVec 64
  Points : List TPoint
  Box : W2
  Check : W2
deriving DecidableEq, Inhabited
def THeader.cs (x : THeader) (v0 : Value) (v1 : Value) : List Value := [v0, wv x.Base, v1] ++ (kb x.Box ++ (kb x.Check))
theorem THeader.cs_ones (x : THeader) (v0 : Value) (v1 : Value) (h0 : oneB v0 = true) (h1 : oneB v1 = true) : ones (THeader.cs x v0 v1) = true := by simp only [THeader.cs, List.cons_append, List.nil_append, kb, ones, one_int, one_bool, one_str, cond_true, h0, h1]
structure Tcover_tree where
  kind : BitVec 8
  depth : Int
  stride : Int
deriving DecidableEq, Inhabited
def Tcover_tree.cs (x : Tcover_tree)  : List Value := [bv x.kind, .int .i64 x.depth, .int .i64 x.stride]
theorem Tcover_tree.cs_ones (x : Tcover_tree)   : ones (Tcover_tree.cs x ) = true := by simp only [Tcover_tree.cs, List.cons_append, List.nil_append, kb, ones, one_int, one_bool, one_str, cond_true]
theorem Tcover_tree.cs_inj {x y : Tcover_tree} (h : Tcover_tree.cs x = Tcover_tree.cs y) : x = y := by
  have h0 : x.kind = y.kind := cb_inj (congrArg (fun l => l[0]?) h)
  have h1 : x.depth = y.depth := ci_inj (congrArg (fun l => l[1]?) h)
  have h2 : x.stride = y.stride := ci_inj (congrArg (fun l => l[2]?) h)
  cases x; cases y; simp only at *; subst h0; subst h1; subst h2; rfl
theorem Tcover_tree.ws (l : List Tcover_tree) : Ws 3 (l.map Tcover_tree.cs) := ws_map l (fun _ => rfl) (fun _ => rfl)
def cover_treeOf_L2 (p0 : TScheme) (rec2 : (Int) → Option (Tcover_tree × Bool)) (a3 : Int) : Option (Tcover_tree × Bool) := (if w64 (a3 * a3) < p0.Depth then (rec2 (w64 (a3 + 1))) else (some ((Tcover_tree.mk p0.Kind p0.Depth a3), true)))
def cover_treeOf_J1 (p0 : TScheme) (a1 : Bool) : Option (Tcover_tree × Bool) := (bif a1 then (some ((Tcover_tree.mk 0#8 0 0), false)) else (fixN (cover_treeOf_L2 p0) FUEL 1))
/-- headend/cover.treeOf -/
def cover_treeOf (p0 : TScheme) : Option (Tcover_tree × Bool) := (if p0.Kind < 1#8 then (cover_treeOf_J1 p0 true) else (if 3#8 < p0.Kind then (cover_treeOf_J1 p0 true) else (if p0.Depth < 0 then (cover_treeOf_J1 p0 true) else (if (6 : Int) < p0.Depth then (cover_treeOf_J1 p0 true) else (cover_treeOf_J1 p0 (decide (p0 ≠ (TScheme.mk p0.Kind p0.Depth 0 (TGroup.mk 0#64 0#64 0#64)))))))))
/-- headend/cover.Check -/
def cover_Check (p0 : TScheme) : Option (Int) := Option.bind (cover_treeOf p0) fun x1 => ((bif (!x1.2) then (some 30) else (some 0)))
end Go.Sx

end
section
set_option linter.unusedVariables false
set_option maxRecDepth 100000
namespace Go.Sx
open Go Go.RowKit
/-- headend/headendref03.Valid -/
def ref03_Valid (p0 : TScheme) : Option (Bool) := (if 1#8 ≤ p0.Kind then (if p0.Kind ≤ 3#8 then (if (0 : Int) ≤ p0.Depth then (if p0.Depth ≤ 6 then (if p0.Degree = 0 then (some (decide (p0.Group = (TGroup.mk 0#64 0#64 0#64)))) else (some false)) else (some false)) else (some false)) else (some false)) else (some false))
/-- headend/headendref03.Check -/
def ref03_Check (p0 : TScheme) : Option (Int) := Option.bind (ref03_Valid p0) fun x1 => ((bif (!x1) then (some 30) else (some 0)))
end Go.Sx

end
