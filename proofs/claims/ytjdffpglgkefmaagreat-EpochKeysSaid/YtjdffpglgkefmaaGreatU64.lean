/- Plain facts: uint64 arithmetic of the walk, said over BitVec 64. -/
import Derived.WalkKit
import Derived.Laws.Bits64b
set_option linter.unusedVariables false
set_option linter.unusedSimpArgs false
namespace Go.Sx
open Go Go.RowKit

/-- a word as an integer (a plain definition, closed to the walk) -/
def un (x : BitVec 64) : Int := (x.toNat : Int)
/-- a word as a Go value -/
abbrev wv (x : BitVec 64) : Value := .int .u64 (un x)
/-- an integer as a word -/
def wd (n : Int) : BitVec 64 := BitVec.ofInt 64 n

theorem un_nonneg (x : BitVec 64) : 0 ≤ un x := by unfold un; omega
theorem un_lt (x : BitVec 64) : un x < 18446744073709551616 := by unfold un; have := x.isLt; omega
theorem un_le (x : BitVec 64) : un x ≤ 18446744073709551615 := by have := un_lt x; omega
theorem un_wd (n : Int) (h0 : 0 ≤ n) (h1 : n ≤ 18446744073709551615) : un (wd n) = n := by
  unfold un wd
  rw [BitVec.toNat_ofInt]
  have : (n % ((2 ^ 64 : Nat) : Int)) = n := Int.emod_eq_of_lt h0 (by show n < 18446744073709551616; omega)
  rw [this]; omega
theorem wd_un (x : BitVec 64) : wd (un x) = x := by
  apply BitVec.eq_of_toNat_eq
  have := un_wd (un x) (un_nonneg x) (un_le x)
  unfold un at *; omega
theorem un_inj {x y : BitVec 64} (h : un x = un y) : x = y := by rw [← wd_un x, ← wd_un y, h]

theorem nat_mod64 (n : Nat) : ((n % 2 ^ 64 : Nat) : Int) = (n : Int) % 18446744073709551616 := by rw [Int.natCast_emod]; rfl
theorem u_add (x y : BitVec 64) : IntKind.u64.wrap (un x + un y) = un (x + y) := by
  unfold un; rw [IntKind.wrap_u64, BitVec.toNat_add]; omega
theorem u_sub (x y : BitVec 64) : IntKind.u64.wrap (un x - un y) = un (x - y) := by
  unfold un; rw [IntKind.wrap_u64, BitVec.toNat_sub]; have := y.isLt; have := x.isLt; omega
theorem u_mul (x y : BitVec 64) : IntKind.u64.wrap (un x * un y) = un (x * y) := by
  unfold un; rw [IntKind.wrap_u64, BitVec.toNat_mul, nat_mod64, Int.natCast_mul]
theorem u_xor (x y : BitVec 64) : bits .xor .u64 (un x) (un y) = un (x ^^^ y) := by
  unfold un; rw [bits_xor_u64_nat _ _ x.isLt y.isLt, BitVec.toNat_xor]
theorem u_and (x y : BitVec 64) : bits .and .u64 (un x) (un y) = un (x &&& y) := by
  unfold un; rw [bits_and_u64_nat _ _ x.isLt y.isLt, BitVec.toNat_and]
theorem u_or (x y : BitVec 64) : bits .or .u64 (un x) (un y) = un (x ||| y) := by
  unfold un; rw [bits_or_u64_nat _ _ x.isLt y.isLt, BitVec.toNat_or]
theorem u_shl (x : BitVec 64) (n : Nat) : IntKind.u64.wrap (un x * 2 ^ n) = un (x <<< n) := by
  unfold un; rw [IntKind.wrap_u64, BitVec.toNat_shiftLeft, Nat.shiftLeft_eq]
  rw [nat_mod64, Int.natCast_mul, Int.natCast_pow]; rfl
theorem u_shr (x : BitVec 64) (n : Nat) : un x / 2 ^ n = un (x >>> n) := by
  unfold un; rw [BitVec.toNat_ushiftRight, Nat.shiftRight_eq_div_pow]; norm_cast
end Go.Sx
