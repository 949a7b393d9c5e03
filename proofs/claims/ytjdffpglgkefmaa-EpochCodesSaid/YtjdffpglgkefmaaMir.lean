/- MX: the words of the mirrors (plain functions that a walk follows step by step), and the laws of the operations over them. -/
import Derived.Test.YtjdffpglgkefmaaSxMark
import Derived.Test.YtjdffpglgkefmaaSxEq
import Derived.Test.YtjdffpglgkefmaaKey
import Derived.Laws.MakeOwn
import Derived.Laws.Slices
set_option linter.unusedVariables false
set_option linter.unusedSimpArgs false
namespace Go.Sx
open Go Go.RowKit

/-! ### words -/
abbrev w64 (n : Int) : Int := IntKind.i64.wrap n
def FUEL : Nat := 18446744073709551616
def fixN {σ R : Type} (F : (σ → Option R) → σ → Option R) (n : Nat) : σ → Option R := Nat.rec (fun _ => none) (fun _ ih s => F ih s) n
theorem fix_zero {σ R : Type} (F : (σ → Option R) → σ → Option R) (s : σ) : fixN F 0 s = none := rfl
theorem fix_step {σ R : Type} (F : (σ → Option R) → σ → Option R) (n : Nat) (s : σ) : fixN F (n + 1) s = F (fixN F n) s := rfl
theorem fix_succ {σ R : Type} {F : (σ → Option R) → σ → Option R} {n : Nat} {s : σ} {r : R} (h : fixN F n s = some r) : ∃ m, n = m + 1 ∧ F (fixN F m) s = some r := by
  cases n with
  | zero => cases h
  | succ m => exact ⟨m, rfl, h⟩
theorem bnd {α β : Type} {o : Option α} {f : α → Option β} {r : β} (h : Option.bind o f = some r) : ∃ a, o = some a ∧ f a = some r := by
  cases o with
  | none => cases h
  | some a => exact ⟨a, rfl, h⟩
theorem ite_t {β : Type} {c : Prop} [Decidable c] {a b : Option β} {r : β} (hc : c) (h : (if c then a else b) = some r) : a = some r := by rwa [if_pos hc] at h
theorem ite_f {β : Type} {c : Prop} [Decidable c] {a b : Option β} {r : β} (hc : ¬ c) (h : (if c then a else b) = some r) : b = some r := by rwa [if_neg hc] at h
theorem cnd_t {β : Type} {c : Bool} {a b : Option β} {r : β} (hc : c = true) (h : (bif c then a else b) = some r) : a = some r := by rw [hc] at h; exact h
theorem cnd_f {β : Type} {c : Bool} {a b : Option β} {r : β} (hc : c = false) (h : (bif c then a else b) = some r) : b = some r := by rw [hc] at h; exact h
/-- element i of a list -/
def getI {α : Type} (l : List α) (i : Int) : Option α := if 0 ≤ i then l[i.toNat]? else none
theorem getI_nn {α : Type} {l : List α} {i : Int} {a : α} (h : getI l i = some a) : 0 ≤ i := by unfold getI at h; split at h <;> first | assumption | cases h
theorem getI_at {α : Type} {l : List α} {i : Int} {a : α} (h : getI l i = some a) : l[i.toNat]? = some a := by unfold getI at h; split at h <;> first | assumption | cases h
theorem getI_lt {α : Type} {l : List α} {i : Int} {a : α} (h : getI l i = some a) : i < l.length := by
  have := (List.getElem?_eq_some_iff.1 (getI_at h)).1; have := getI_nn h; omega
/-- a list with another one behind it, b bytes an element: no more than memory can hold -/
def appG {α : Type} (b : Nat) (l m : List α) : Option (List α) := if (l.length + m.length) * b ≤ 140737488355328 then some (l ++ m) else none
theorem appG_eq {α : Type} {b : Nat} {l m k : List α} (h : appG b l m = some k) : k = l ++ m ∧ (l.length + m.length) * b ≤ 140737488355328 := by
  unfold appG at h; split at h
  · exact ⟨(Option.some.inj h).symm, ‹_›⟩
  · cases h
/-- n elements z -/
def mkL {α : Type} (b : Nat) (n : Int) (z : α) : Option (List α) := if 0 ≤ n ∧ n * b ≤ 140737488355328 then some (List.replicate n.toNat z) else none
theorem mkL_eq {α : Type} {b : Nat} {n : Int} {z : α} {k : List α} (h : mkL b n z = some k) : k = List.replicate n.toNat z ∧ 0 ≤ n ∧ n * b ≤ 140737488355328 := by
  unfold mkL at h; split at h
  · rename_i h1; exact ⟨(Option.some.inj h).symm, h1⟩
  · cases h
/-- a part of a list -/
def sliG {α : Type} (l : List α) (lo hi : Int) : Option (List α) := if 0 ≤ lo ∧ lo ≤ hi ∧ hi ≤ l.length then some ((l.take hi.toNat).drop lo.toNat) else none
theorem sliG_eq {α : Type} {l k : List α} {lo hi : Int} (h : sliG l lo hi = some k) : k = (l.take hi.toNat).drop lo.toNat ∧ 0 ≤ lo ∧ lo ≤ hi ∧ hi ≤ l.length := by
  unfold sliG at h; split at h
  · rename_i h1; exact ⟨(Option.some.inj h).symm, h1⟩
  · cases h
def quoI (a b : Int) : Option Int := if b = 0 then none else some (w64 (a.tdiv b))
def remI (a b : Int) : Option Int := if b = 0 then none else some (a.tmod b)
def quoU {n : Nat} (a b : BitVec n) : Option (BitVec n) := if b=BitVec.ofNat n 0 then none else some (a / b)
def remU {n : Nat} (a b : BitVec n) : Option (BitVec n) := if b=BitVec.ofNat n 0 then none else some (a % b)
/-- a number by which one may shift -/
def shG (n : Int) : Option Nat := if 0 ≤ n then some n.toNat else none
theorem shG_eq {n : Int} {k : Nat} (h : shG n = some k) : 0 ≤ n ∧ n.toNat = k := by
  unfold shG at h; split at h
  · rename_i h1; exact ⟨h1, Option.some.inj h⟩
  · cases h
def shlI (a : Int) (n : Nat) : Int := w64 (a * 2 ^ min n 64)
def shrI (a : Int) (n : Nat) : Int := a / 2 ^ min n 64
def bitI (op : BinOp) (a b : Int) : Int := bits op .i64 a b
/-- a number of one byte -/
def un8 (x : BitVec 8) : Int := (x.toNat : Int)
abbrev bv (x : BitVec 8) : Value := .int .u8 (un8 x)
theorem un8_nn (x : BitVec 8) : 0 ≤ un8 x := by unfold un8; omega
theorem un8_le (x : BitVec 8) : un8 x ≤ 255 := by unfold un8; have := x.isLt; omega
theorem un8_inj {x y : BitVec 8} (h : un8 x = un8 y) : x = y := by apply BitVec.eq_of_toNat_eq; unfold un8 at h; omega
def wd8 (n : Int) : BitVec 8 := BitVec.ofInt 8 n
/-- cells of an element -/
abbrev ic (n : Int) : List Value := [.int .i64 n]
abbrev uwc (x : BitVec 64) : List Value := [wv x]
abbrev bvc (x : BitVec 8) : List Value := [bv x]
abbrev blc (b : Bool) : List Value := [.bool b]
/-- a key made of nothing -/
abbrev k0 : W2 := (0#64, 0#64)

/-! ### integers -/
section
variable {P : Program} {L : Slots} {w : World} {dst : Option Nat} {ty : TypeId} {pos : String} {af : Array Edge} {gu : Option (Nat × Bool)} {x y : Operand} {t u : TypeId} {a b : Int}
theorem vv_quoI {c : Int} (hx : ev L x = some (.int .i64 a)) (hy : ev L y = some (.int .i64 b)) (h : quoI a b = some c) : VV P L ⟨dst, .binOp .quo t x y u, ty, pos, af, gu⟩ w (.int .i64 c) := fun ρ hρ => by
  unfold quoI at h
  split at h
  · cases h
  · rename_i hd; cases h
    simp [execOp, hρ _ _ hx, hρ _ _ hy, go_sem, Op.intDiv, hd]
theorem vv_remI {c : Int} (hx : ev L x = some (.int .i64 a)) (hy : ev L y = some (.int .i64 b)) (h : remI a b = some c) : VV P L ⟨dst, .binOp .rem t x y u, ty, pos, af, gu⟩ w (.int .i64 c) := fun ρ hρ => by
  unfold remI at h
  split at h
  · cases h
  · rename_i hd; cases h
    simp [execOp, hρ _ _ hx, hρ _ _ hy, go_sem, Op.intDiv, hd]
theorem vv_shlI {yk : IntKind} {n : Nat} (hx : ev L x = some (.int .i64 a)) (hy : ev L y = some (.int yk b)) (h : shG b = some n) : VV P L ⟨dst, .binOp .shl t x y u, ty, pos, af, gu⟩ w (.int .i64 (shlI a n)) := by
  obtain ⟨h1, rfl⟩ := shG_eq h
  exact vv_shl hx hy h1
theorem vv_shrI {yk : IntKind} {n : Nat} (hx : ev L x = some (.int .i64 a)) (hy : ev L y = some (.int yk b)) (h : shG b = some n) : VV P L ⟨dst, .binOp .shr t x y u, ty, pos, af, gu⟩ w (.int .i64 (shrI a n)) := by
  obtain ⟨h1, rfl⟩ := shG_eq h
  exact vv_shr hx hy h1
theorem vv_shlU {yk : IntKind} {n : Nat} {c : BitVec 64} (hx : ev L x = some (wv c)) (hy : ev L y = some (.int yk b)) (h : shG b = some n) : VV P L ⟨dst, .binOp .shl t x y u, ty, pos, af, gu⟩ w (wv (c <<< n)) := by
  obtain ⟨h1, rfl⟩ := shG_eq h
  exact vv_ushl hx hy h1
theorem vv_shrU {yk : IntKind} {n : Nat} {c : BitVec 64} (hx : ev L x = some (wv c)) (hy : ev L y = some (.int yk b)) (h : shG b = some n) : VV P L ⟨dst, .binOp .shr t x y u, ty, pos, af, gu⟩ w (wv (c >>> n)) := by
  obtain ⟨h1, rfl⟩ := shG_eq h
  exact vv_ushr hx hy h1
theorem vv_bitI {op : BinOp} (hop : op = .and ∨ op = .or ∨ op = .xor ∨ op = .andNot) (hx : ev L x = some (.int .i64 a)) (hy : ev L y = some (.int .i64 b)) : VV P L ⟨dst, .binOp op t x y u, ty, pos, af, gu⟩ w (.int .i64 (bitI op a b)) := vv_bits hop hx hy
variable {c d : BitVec 64} {p q : BitVec 8}
theorem un_eq_iff : un c = un d ↔ c = d := ⟨un_inj, fun h => by rw [h]⟩
theorem un8_eq_iff : un8 p = un8 q ↔ p = q := ⟨un8_inj, fun h => by rw [h]⟩
theorem dec_iff {p q : Prop} [Decidable p] [Decidable q] (h : p ↔ q) : Value.bool (decide p) = .bool (decide q) := by simp [h]
theorem un_lt_iff : un c < un d ↔ c < d := by unfold un; rw [BitVec.lt_def]; omega
theorem un_le_iff : un c ≤ un d ↔ c ≤ d := by unfold un; rw [BitVec.le_def]; omega
theorem un8_lt_iff : un8 p < un8 q ↔ p < q := by unfold un8; rw [BitVec.lt_def]; omega
theorem un8_le_iff : un8 p ≤ un8 q ↔ p ≤ q := by unfold un8; rw [BitVec.le_def]; omega
theorem vv_eqlU (hx : ev L x = some (wv c)) (hy : ev L y = some (wv d)) : VV P L ⟨dst, .binOp .eql t x y u, ty, pos, af, gu⟩ w (.bool (decide (c = d))) := vv_eq (vv_eql hx hy) (dec_iff un_eq_iff)
theorem vv_neqU (hx : ev L x = some (wv c)) (hy : ev L y = some (wv d)) : VV P L ⟨dst, .binOp .neq t x y u, ty, pos, af, gu⟩ w (.bool (decide (c ≠ d))) := vv_eq (vv_neq hx hy) (dec_iff (not_congr un_eq_iff))
theorem vv_lssU (hx : ev L x = some (wv c)) (hy : ev L y = some (wv d)) : VV P L ⟨dst, .binOp .lss t x y u, ty, pos, af, gu⟩ w (.bool (decide (c < d))) := vv_eq (vv_lss hx hy) (dec_iff un_lt_iff)
theorem vv_leqU (hx : ev L x = some (wv c)) (hy : ev L y = some (wv d)) : VV P L ⟨dst, .binOp .leq t x y u, ty, pos, af, gu⟩ w (.bool (decide (c ≤ d))) := vv_eq (vv_leq hx hy) (dec_iff un_le_iff)
theorem vv_gtrU (hx : ev L x = some (wv c)) (hy : ev L y = some (wv d)) : VV P L ⟨dst, .binOp .gtr t x y u, ty, pos, af, gu⟩ w (.bool (decide (d < c))) := vv_eq (vv_gtr hx hy) (dec_iff un_lt_iff)
theorem vv_geqU (hx : ev L x = some (wv c)) (hy : ev L y = some (wv d)) : VV P L ⟨dst, .binOp .geq t x y u, ty, pos, af, gu⟩ w (.bool (decide (d ≤ c))) := vv_eq (vv_geq hx hy) (dec_iff un_le_iff)
theorem vv_eqlB (hx : ev L x = some (bv p)) (hy : ev L y = some (bv q)) : VV P L ⟨dst, .binOp .eql t x y u, ty, pos, af, gu⟩ w (.bool (decide (p = q))) := vv_eq (vv_eql hx hy) (dec_iff un8_eq_iff)
theorem vv_neqB (hx : ev L x = some (bv p)) (hy : ev L y = some (bv q)) : VV P L ⟨dst, .binOp .neq t x y u, ty, pos, af, gu⟩ w (.bool (decide (p ≠ q))) := vv_eq (vv_neq hx hy) (dec_iff (not_congr un8_eq_iff))
theorem vv_lssB (hx : ev L x = some (bv p)) (hy : ev L y = some (bv q)) : VV P L ⟨dst, .binOp .lss t x y u, ty, pos, af, gu⟩ w (.bool (decide (p < q))) := vv_eq (vv_lss hx hy) (dec_iff un8_lt_iff)
theorem vv_leqB (hx : ev L x = some (bv p)) (hy : ev L y = some (bv q)) : VV P L ⟨dst, .binOp .leq t x y u, ty, pos, af, gu⟩ w (.bool (decide (p ≤ q))) := vv_eq (vv_leq hx hy) (dec_iff un8_le_iff)
theorem vv_gtrB (hx : ev L x = some (bv p)) (hy : ev L y = some (bv q)) : VV P L ⟨dst, .binOp .gtr t x y u, ty, pos, af, gu⟩ w (.bool (decide (q < p))) := vv_eq (vv_gtr hx hy) (dec_iff un8_lt_iff)
theorem vv_geqB (hx : ev L x = some (bv p)) (hy : ev L y = some (bv q)) : VV P L ⟨dst, .binOp .geq t x y u, ty, pos, af, gu⟩ w (.bool (decide (q ≤ p))) := vv_eq (vv_geq hx hy) (dec_iff un8_le_iff)
theorem vv_addB (hx : ev L x = some (bv p)) (hy : ev L y = some (bv q)) : VV P L ⟨dst, .binOp .add t x y u, ty, pos, af, gu⟩ w (bv (p + q)) := vv_eq (vv_add hx hy) (by
  have : IntKind.u8.wrap (un8 p + un8 q) = (un8 p + un8 q) % 256 := by simp [IntKind.wrap, IntKind.bits, IntKind.signed]
  rw [this]; show Value.int .u8 _ = Value.int .u8 (un8 (p + q)); refine congrArg (Value.int .u8) ?_; unfold un8; rw [BitVec.toNat_add]; omega)
theorem vv_subB (hx : ev L x = some (bv p)) (hy : ev L y = some (bv q)) : VV P L ⟨dst, .binOp .sub t x y u, ty, pos, af, gu⟩ w (bv (p - q)) := vv_eq (vv_sub hx hy) (by
  have : IntKind.u8.wrap (un8 p - un8 q) = (un8 p - un8 q) % 256 := by simp [IntKind.wrap, IntKind.bits, IntKind.signed]
  rw [this]; show Value.int .u8 _ = Value.int .u8 (un8 (p - q)); refine congrArg (Value.int .u8) ?_; unfold un8; rw [BitVec.toNat_sub]; have := p.isLt; have := q.isLt; omega)
theorem vv_quoU {e : BitVec 64} (hx : ev L x = some (wv c)) (hy : ev L y = some (wv d)) (h : quoU c d = some e) : VV P L ⟨dst, .binOp .quo t x y u, ty, pos, af, gu⟩ w (wv e) := by
  unfold quoU at h
  split at h
  · cases h
  · rename_i hd; cases h
    have h0 : 0 < un d := by
      have := un_nonneg d
      rcases Int.lt_or_eq_of_le this with h | h
      · exact h
      · exact absurd (un_inj (show un d = un 0#64 from by rw [← h]; rfl)) hd
    have e1 : un c / un d = un (c / d) := by unfold un; rw [BitVec.toNat_udiv]; norm_cast
    have hl := un_le (c / d); have hn := un_nonneg (c / d)
    exact vv_eq (vv_quo hx hy (un_nonneg c) h0 (by rw [e1, IntKind.wrap_u64]; omega)) (by rw [e1])
theorem vv_remU {e : BitVec 64} (hx : ev L x = some (wv c)) (hy : ev L y = some (wv d)) (h : remU c d = some e) : VV P L ⟨dst, .binOp .rem t x y u, ty, pos, af, gu⟩ w (wv e) := by
  unfold remU at h
  split at h
  · cases h
  · rename_i hd; cases h
    have h0 : 0 < un d := by
      have := un_nonneg d
      rcases Int.lt_or_eq_of_le this with h | h
      · exact h
      · exact absurd (un_inj (show un d = un 0#64 from by rw [← h]; rfl)) hd
    exact vv_eq (vv_rem hx hy (un_nonneg c) h0) (congrArg (Value.int .u64) (by unfold un; rw [BitVec.toNat_umod]; exact (Int.natCast_emod _ _).symm))
/-! conversions -/
theorem vv_cvII {s d : TypeId} (hc : CV P s d .i64) (hx : ev L x = some (.int .i64 a)) : VV P L ⟨dst, .convert s d x, ty, pos, af, gu⟩ w (.int .i64 (w64 a)) := vv_conv hc hx
theorem vv_cvUI {s d : TypeId} (hc : CV P s d .i64) (hx : ev L x = some (wv c)) : VV P L ⟨dst, .convert s d x, ty, pos, af, gu⟩ w (.int .i64 (w64 (un c))) := vv_conv hc hx
theorem vv_cvBI {s d : TypeId} (hc : CV P s d .i64) (hx : ev L x = some (bv p)) : VV P L ⟨dst, .convert s d x, ty, pos, af, gu⟩ w (.int .i64 (un8 p)) := vv_conv64 hc hx (by have := un8_nn p; omega) (by have := un8_le p; omega)
theorem vv_cvIU {s d : TypeId} (hc : CV P s d .u64) (hx : ev L x = some (.int .i64 a)) : VV P L ⟨dst, .convert s d x, ty, pos, af, gu⟩ w (wv (wd a)) := vv_eq (vv_conv hc hx) (by
  rw [IntKind.wrap_u64]; show Value.int .u64 _ = Value.int .u64 (un (wd a)); refine congrArg (Value.int .u64) ?_; unfold un wd; rw [BitVec.toNat_ofInt]; omega)
theorem vv_cvBU {s d : TypeId} (hc : CV P s d .u64) (hx : ev L x = some (bv p)) : VV P L ⟨dst, .convert s d x, ty, pos, af, gu⟩ w (wv (p.setWidth 64)) := vv_eq (vv_conv hc hx) (by
  have := un8_nn p; have := un8_le p
  rw [IntKind.wrap_u64, Int.emod_eq_of_lt (by omega) (by omega)]; show Value.int .u64 _ = Value.int .u64 (un (p.setWidth 64)); refine congrArg (Value.int .u64) ?_; unfold un8 un; rw [BitVec.toNat_setWidth, Nat.mod_eq_of_lt (by have := p.isLt; omega)])
theorem vv_cvBB {s d : TypeId} (hc : CV P s d .u8) (hx : ev L x = some (bv p)) : VV P L ⟨dst, .convert s d x, ty, pos, af, gu⟩ w (bv p) := vv_convB hc hx (un8_nn p) (by have := un8_le p; omega)
theorem vv_cvUB {s d : TypeId} (hc : CV P s d .u8) (hx : ev L x = some (wv c)) : VV P L ⟨dst, .convert s d x, ty, pos, af, gu⟩ w (bv (c.setWidth 8)) := vv_eq (vv_convUB hc hx) (by
  show Value.int .u8 _ = Value.int .u8 (un8 (c.setWidth 8)); refine congrArg (Value.int .u8) ?_; unfold un8 un; rw [BitVec.toNat_setWidth]; omega)
theorem vv_cvIB {s d : TypeId} (hc : CV P s d .u8) (hx : ev L x = some (.int .i64 a)) : VV P L ⟨dst, .convert s d x, ty, pos, af, gu⟩ w (bv (wd8 a)) := vv_eq (vv_conv hc hx) (by
  have : IntKind.u8.wrap a = a % 256 := by simp [IntKind.wrap, IntKind.bits, IntKind.signed]
  rw [this]; show Value.int .u8 _ = Value.int .u8 (un8 (wd8 a)); refine congrArg (Value.int .u8) ?_; unfold un8 wd8; rw [BitVec.toNat_ofInt]; omega)
end

/-! ### lists -/
section
variable {P : Program} {L : Slots} {w : World} {dst : Option Nat} {ty : TypeId} {pos : String} {af : Array Edge} {gu : Option (Nat × Bool)}
variable {x y : Operand} {t : TypeId} {z g o sz : Nat} {e : TypeId} {v : Value} {k : IntKind} {α : Type} {l : List α} {c : α → List Value} {a : α} {i : Int}
theorem vv_lenT (hu : P.underlying t = some (.slice e)) (hx : ev L x = some v) (hr : Rd w z g o sz v (l.map c)) : VV P L ⟨dst, .call { callee := .builtin .len, args := #[x], argTypes := #[t] }, ty, pos, af, gu⟩ w (.int .i64 (l.length : Int)) := vv_lenN hu hx hr (List.length_map ..)
theorem vv_ixT (hu : P.underlying t = some (.slice e)) (hs : Siz P e sz) (hx : ev L x = some v) (hr : Rd w z g o sz v (l.map c)) (hy : ev L y = some (.int k i)) (hg : getI l i = some a) :
    VV P L ⟨dst, .indexAddr t x y, ty, pos, af, gu⟩ w (.pointer (some ⟨g, o + i.toNat * sz, none⟩)) := vv_ixN hu hs hx hr (List.length_map ..) hy (getI_nn hg) (getI_lt hg)
theorem vv_el1T {p q : Nat} {u : Value} (h1 : One P t) (hx : ev L x = some (.pointer (some ⟨g, p, none⟩))) (hr : Rd w z g o sz v (l.map c)) (hg : getI l i = some a) (hp : p = o + (i.toNat * sz + q)) (hc : (c a)[q]? = some u) : VV P L ⟨dst, .load t x, ty, pos, af, gu⟩ w u :=
  vv_el1 h1 hx hr (getm (getI_at hg)) hp hc
theorem vv_elMT {p q m : Nat} {vs : List Value} (h1 : Agg P t m) (hx : ev L x = some (.pointer (some ⟨g, p, none⟩))) (hr : Rd w z g o sz v (l.map c)) (hg : getI l i = some a) (hp : p = o + (i.toNat * sz + q)) (hc : ((c a).drop q).take m = vs) (hl : vs.length = m) : VV P L ⟨dst, .load t x, ty, pos, af, gu⟩ w (.agg vs.toArray) :=
  vv_elM h1 hx hr (getm (getI_at hg)) hp hc hl
theorem vv_elWT {p : Nat} (h1 : Agg P t sz) (hx : ev L x = some (.pointer (some ⟨g, p, none⟩))) (hr : Rd w z g o sz v (l.map c)) (hg : getI l i = some a) (hp : p = o + i.toNat * sz) : VV P L ⟨dst, .load t x, ty, pos, af, gu⟩ w (.agg (c a).toArray) :=
  vv_elW h1 hx hr (getm (getI_at hg)) hp
theorem ev_appT {bytes z2 g2 o2 : Nat} {u : Value} {m k : List α} (ha : ApT P t e sz bytes) (hx : ev L x = some v) (hy : ev L y = some u) (h : Own w z g e sz v (l.map c)) (hr : Rd w z2 g2 o2 sz u (m.map c)) (hb : appG bytes l m = some k) (hpos : 1 ≤ bytes) :
    EV P L ⟨dst, .call { callee := .builtin .append, args := #[x, y], argTypes := #[t, t] }, ty, pos, af, gu⟩ w fun v' w' => ∃ z' g', Own w' z' g' e sz v' (k.map c) ∧ Ka z g w w' ∧ Hdn (z' = 0 ∨ (z' = 1 ∧ g' < w'.heap.size)) ∧ Hdn ((g' = g ∧ z = 1) ∨ w.heap.size ≤ g' ∨ z' = 0) := by
  obtain ⟨rfl, hb2⟩ := appG_eq hb
  have hle : l.length + m.length ≤ (l.length + m.length) * bytes := Nat.le_mul_of_pos_right _ hpos
  refine (ev_app ha hx hy h hr (by rw [List.length_map, List.length_map]; exact hb2) (by rw [List.length_map, List.length_map]; omega)).mono ?_
  rintro v' w' ⟨z', g', h1, h2, h3, h4, h5⟩
  exact ⟨z', g', by rw [List.map_append]; exact h1, h2, ⟨h3⟩, ⟨h4⟩⟩
theorem ev_litT {len : Nat} {zs cs : List Value} {parts : Array (Nat × Operand)} {vs : List (Nat × Value)} (l : List α) (c : α → List Value) (hb : BSl P t len e sz zs) (hp : evp L parts.toList = some vs) (hf : fillL (fun i => some (i * sz, sz)) zs vs = some cs)
    (hw : Ws sz (l.map c)) (hx : cs = (l.map c).flatten) (hl : l.length = len) (hm : Nat.ble len 1000000 = true) :
    EV P L ⟨dst, .buildSlice t len parts, ty, pos, af, gu⟩ w fun v' w' => ∃ g', w.heap.size ≤ g' ∧ Own w' 1 g' e sz v' (l.map c) ∧ Gr w w' := ev_bsl hb hp hf hw hx (by rw [List.length_map]; exact hl) hm
/-! a part of a slice -/
theorem Ws.take {sz n : Nat} {xs : List (List Value)} (h : Ws sz xs) : Ws sz (xs.take n) := fun y hy => h y (List.mem_of_mem_take hy)
theorem Ws.drop {sz n : Nat} {xs : List (List Value)} (h : Ws sz xs) : Ws sz (xs.drop n) := fun y hy => h y (List.mem_of_mem_drop hy)
theorem flat_drop {sz : Nat} : ∀ (n : Nat) (xs : List (List Value)), Ws sz xs → (xs.drop n).flatten = xs.flatten.drop (n * sz)
  | 0, xs, _ => by simp
  | n + 1, [], _ => by simp
  | n + 1, x :: xs, h => by
    have hx := (h x (by simp)).1
    rw [List.drop_succ_cons, flat_drop n xs (fun y hy => h y (List.mem_cons_of_mem _ hy)), List.flatten_cons, List.drop_append]
    have e : (n + 1) * sz - x.length = n * sz := by rw [hx, Nat.add_mul]; omega
    have e2 : x.drop ((n + 1) * sz) = [] := List.drop_eq_nil_of_le (by rw [hx, Nat.add_mul]; omega)
    rw [e, e2, List.nil_append]
theorem flat_take {sz : Nat} : ∀ (n : Nat) (xs : List (List Value)), Ws sz xs → (xs.take n).flatten = xs.flatten.take (n * sz)
  | 0, xs, _ => by simp
  | n + 1, [], _ => by simp
  | n + 1, x :: xs, h => by
    have hx := (h x (by simp)).1
    rw [List.take_succ_cons, List.flatten_cons, flat_take n xs (fun y hy => h y (List.mem_cons_of_mem _ hy)), List.flatten_cons, List.take_append]
    have e : (n + 1) * sz - x.length = n * sz := by rw [hx, Nat.add_mul]; omega
    have e2 : x.take ((n + 1) * sz) = x := List.take_of_length_le (by rw [hx, Nat.add_mul]; omega)
    rw [e, e2]
end
end Go.Sx
