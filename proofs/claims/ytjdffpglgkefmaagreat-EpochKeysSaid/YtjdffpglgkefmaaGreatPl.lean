/- Plain laws on the mirrors' words: lists, loops, bytes. -/
import Derived.Test.YtjdffpglgkefmaaGreatMirF
import Derived.Test.YtjdffpglgkefmaaGreatOpn
set_option linter.unusedVariables false
set_option linter.unusedSimpArgs false
namespace Go.Sx
open Go

theorem FUEL_eq : FUEL = 18446744073709551615 + 1 := rfl
theorem fuel_lt {n : Nat} (h : n < 9223372036854775808) : n < FUEL := by unfold FUEL; omega
theorem w64_id {n : Int} (h0 : -9223372036854775808 ≤ n) (h1 : n ≤ 9223372036854775807) : w64 n = n := by
  have := IntKind.wrap_i64 n
  unfold w64; rw [this]; omega
theorem bind_some {α β : Type} (a : α) (f : α → Option β) : Option.bind (some a) f = f a := rfl
theorem appG_some {α : Type} {b : Nat} {l m : List α} (h : (l.length + m.length) * b ≤ 140737488355328) : appG b l m = some (l ++ m) := if_pos h
theorem appG_none {α : Type} {b : Nat} {l m : List α} (h : ¬ (l.length + m.length) * b ≤ 140737488355328) : appG b l m = none := if_neg h
theorem getI_some {α : Type} {l : List α} {i : Nat} (h : i < l.length) : getI l (i : Int) = some l[i] := by unfold getI; rw [if_pos (by omega)]; simp [h]
theorem getI_mem {α : Type} {l : List α} {i : Int} {a : α} (h : getI l i = some a) : a ∈ l := List.mem_of_getElem? (getI_at h)
theorem take_snoc {α : Type} (l : List α) (i : Nat) (h : i < l.length) : l.take (i + 1) = l.take i ++ [l[i]] := by rw [List.take_add_one]; simp [h]
/-- two loops whose rounds agree -/
theorem fix_eq {σ R : Type} {F G : (σ → Option R) → σ → Option R} (h : ∀ rec s, F rec s = G rec s) (n : Nat) (s : σ) : fixN F n s = fixN G n s := by
  have : F = G := funext fun rec => funext fun s => h rec s
  rw [this]
theorem fix_unfold {σ R : Type} (F : (σ → Option R) → σ → Option R) {n : Nat} (h : 0 < n) (s : σ) : fixN F n s = F (fixN F (n - 1)) s := by
  cases n with
  | zero => omega
  | succ m => rfl
/-- the bytes of a word, the highest first -/
def w8 (x : BitVec 64) : List (BitVec 8) := [byt x 0, byt x 1, byt x 2, byt x 3, byt x 4, byt x 5, byt x 6, byt x 7]
theorem w8_len (x : BitVec 64) : (w8 x).length = 8 := rfl
theorem div256 (x : BitVec 64) : x / 256#64 = x >>> 8 := by
  apply BitVec.eq_of_toNat_eq
  rw [BitVec.toNat_udiv, BitVec.toNat_ushiftRight, Nat.shiftRight_eq_div_pow]; rfl
theorem rem256 (x : BitVec 64) : (x % 256#64).setWidth 8 = x.setWidth 8 := by
  apply BitVec.eq_of_toNat_eq
  rw [BitVec.toNat_setWidth, BitVec.toNat_setWidth, BitVec.toNat_umod]
  have : (256#64 : BitVec 64).toNat = 256 := rfl
  rw [this]; omega
theorem quo256 (x : BitVec 64) : quoU x 256#64 = some (x >>> 8) := by unfold quoU; rw [if_neg (by decide), div256]
theorem remU256 (x : BitVec 64) : remU x 256#64 = some (x % 256#64) := by unfold remU; rw [if_neg (by decide)]
theorem app_app {α : Type} (l m k : List α) : Option.bind (appG 1 l m) (fun x => appG 1 x k) = appG 1 l (m ++ k) := by
  by_cases h : l.length + m.length ≤ 140737488355328
  · rw [appG_some (by omega), bind_some]
    unfold appG
    rw [List.length_append, List.length_append, List.append_assoc]
    by_cases h2 : l.length + m.length + k.length ≤ 140737488355328
    · rw [if_pos (by omega), if_pos (by omega)]
    · rw [if_neg (by omega), if_neg (by omega)]
  · rw [appG_none (by omega), appG_none (by rw [List.length_append]; omega)]; rfl
theorem bind_bind {α β γ : Type} (o : Option α) (f : α → Option β) (g : β → Option γ) : Option.bind (Option.bind o f) g = Option.bind o fun a => Option.bind (f a) g := by cases o <;> rfl
/-- n bytes, filled up with zeros -/
def pad (n : Nat) (s : List (BitVec 8)) : List (BitVec 8) := s.take n ++ List.replicate (n - s.length) 0#8
theorem pad_len (n : Nat) (s : List (BitVec 8)) : (pad n s).length = n := by simp [pad]; omega
theorem pad_add (m n : Nat) (s : List (BitVec 8)) : pad (m + n) s = pad m s ++ pad n (s.drop m) := by
  apply List.ext_getElem?
  intro i
  unfold pad
  simp only [List.getElem?_append, List.length_take, List.getElem?_take, List.getElem?_replicate, List.length_append, List.length_replicate, List.length_drop, List.getElem?_drop]
  by_cases h1 : i < s.length
  · by_cases h2 : i < m
    · simp only [show i < min (m + n) s.length from by omega, show i < m + n from by omega, show i < min m s.length + (m - s.length) from by omega, show i < min m s.length from by omega, h2, if_true]
    · by_cases h3 : i < m + n
      · have e : m + (i - (min m s.length + (m - s.length))) = i := by omega
        simp only [show i < min (m + n) s.length from by omega, h3, if_true, show ¬ i < min m s.length + (m - s.length) from by omega, if_false, show i - (min m s.length + (m - s.length)) < min n (s.length - m) from by omega, show i - (min m s.length + (m - s.length)) < n from by omega, e]
      · simp only [show ¬ i < min (m + n) s.length from by omega, if_false, show ¬ i - min (m + n) s.length < m + n - s.length from by omega, show ¬ i < min m s.length + (m - s.length) from by omega, show ¬ i - (min m s.length + (m - s.length)) < min n (s.length - m) from by omega, show ¬ i - (min m s.length + (m - s.length)) - min n (s.length - m) < n - (s.length - m) from by omega]
  · by_cases h3 : i < m + n
    · by_cases h2 : i < m
      · simp only [show ¬ i < min (m + n) s.length from by omega, if_false, show i - min (m + n) s.length < m + n - s.length from by omega, if_true, show i < min m s.length + (m - s.length) from by omega, show ¬ i < min m s.length from by omega, show i - min m s.length < m - s.length from by omega]
      · simp only [show ¬ i < min (m + n) s.length from by omega, if_false, show i - min (m + n) s.length < m + n - s.length from by omega, if_true, show ¬ i < min m s.length + (m - s.length) from by omega, show ¬ i - (min m s.length + (m - s.length)) < min n (s.length - m) from by omega, show i - (min m s.length + (m - s.length)) - min n (s.length - m) < n - (s.length - m) from by omega]
    · simp only [show ¬ i < min (m + n) s.length from by omega, if_false, show ¬ i - min (m + n) s.length < m + n - s.length from by omega, show ¬ i < min m s.length + (m - s.length) from by omega, show ¬ i - (min m s.length + (m - s.length)) < min n (s.length - m) from by omega, show ¬ i - (min m s.length + (m - s.length)) - min n (s.length - m) < n - (s.length - m) from by omega]
end Go.Sx
