/- Several texts in one: BitL GhM GcM GeM GfM GdM GkM GbM Row Opn Pl Pt Tr Ts Fx Mb Lb Tm Cv Tk Fy SecN Fd Kn Cp Pu. -/
import Derived.Test.YtopkalcefepilaaRows
import Derived.Test.YtopkalcefepilaaZc
import Derived.KernelRfl
import Derived.Test.YtopkalcefepilaaZb
import Derived.ProofKit
import Derived.OpenShut
import Derived.ShutString
import Derived.ChangeOld
import Derived.Below
import Derived.Carry
import Derived.SizedLaws
set_option linter.unusedVariables false
set_option linter.unusedSimpArgs false
section
set_option linter.unusedVariables false
set_option linter.unusedSimpArgs false
namespace Go.Proofs.Ytopkalcefepilaa
open Go Go.RowKit Go.Sx
theorem cv_22_5 : CV Try.prog 22 5 .u8 := fun _ _ _ => by kernel_rfl
theorem cv_5_3 : CV Try.prog 5 3 .i64 := fun _ _ _ => by kernel_rfl
theorem en_130 : En Try.prog 130 := fun _ _ => by kernel_rfl
theorem log2_shift (n k : Nat) (h : 2 ^ k ≤ n) : Nat.log2 n = Nat.log2 (n / 2 ^ k) + k := by
  induction k generalizing n with
  | zero => simp
  | succ k ih =>
    have h2 : 2 ^ k ≤ n / 2 := by rw [Nat.le_div_iff_mul_le (by omega)]; rw [Nat.pow_succ] at h; omega
    have h1 : 2 ≤ n := by have : 0 < 2 ^ k := Nat.two_pow_pos k; rw [Nat.pow_succ] at h; omega
    rw [Nat.log2_def, if_pos h1, ih (n / 2) h2, Nat.div_div_eq_div_mul, Nat.pow_succ, Nat.mul_comm 2]; omega
theorem lg_shift (a : Int) (k m : Nat) (hm : 2 ^ k = m) (h : (m : Int) ≤ a) : lg a = lg (a / (m : Int)) + k := by
  obtain ⟨n, rfl⟩ := Int.eq_ofNat_of_zero_le (show 0 ≤ a by omega)
  subst hm
  have hp : 0 < 2 ^ k := Nat.two_pow_pos k
  have h' : 2 ^ k ≤ n := by omega
  have e : ((n : Int) / ((2 ^ k : Nat) : Int)).toNat = n / 2 ^ k := by rw [← Int.natCast_ediv]; rfl
  have h1 : ¬ (n / 2 ^ k = 0) := by rw [Nat.div_eq_zero_iff]; omega
  unfold lg
  rw [e, Int.toNat_natCast, if_neg h1, if_neg (by omega), log2_shift n k h']
  omega
def lenTab : ByteArray := ⟨#[0, 1, 2, 2, 3, 3, 3, 3, 4, 4, 4, 4, 4, 4, 4, 4, 5, 5, 5, 5, 5, 5, 5, 5, 5, 5, 5, 5, 5, 5, 5, 5, 6, 6, 6, 6, 6, 6, 6, 6, 6, 6, 6, 6, 6, 6, 6, 6, 6, 6, 6, 6, 6, 6, 6, 6, 6, 6, 6, 6, 6, 6, 6, 6, 7, 7, 7, 7, 7, 7, 7, 7, 7, 7, 7, 7, 7, 7, 7, 7, 7, 7, 7, 7, 7, 7, 7, 7, 7, 7, 7, 7, 7, 7, 7, 7, 7, 7, 7, 7, 7, 7, 7, 7, 7, 7, 7, 7, 7, 7, 7, 7, 7, 7, 7, 7, 7, 7, 7, 7, 7, 7, 7, 7, 7, 7, 7, 7, 8, 8, 8, 8, 8, 8, 8, 8, 8, 8, 8, 8, 8, 8, 8, 8, 8, 8, 8, 8, 8, 8, 8, 8, 8, 8, 8, 8, 8, 8, 8, 8, 8, 8, 8, 8, 8, 8, 8, 8, 8, 8, 8, 8, 8, 8, 8, 8, 8, 8, 8, 8, 8, 8, 8, 8, 8, 8, 8, 8, 8, 8, 8, 8, 8, 8, 8, 8, 8, 8, 8, 8, 8, 8, 8, 8, 8, 8, 8, 8, 8, 8, 8, 8, 8, 8, 8, 8, 8, 8, 8, 8, 8, 8, 8, 8, 8, 8, 8, 8, 8, 8, 8, 8, 8, 8, 8, 8, 8, 8, 8, 8, 8, 8, 8, 8, 8, 8, 8, 8, 8, 8, 8, 8, 8, 8, 8, 8]⟩
theorem lenTab_fin : ∀ k : Fin 256, lenTab[k.1]? = some (UInt8.ofNat (lg (k.1 : Int)).toNat) ∧ lg (k.1 : Int) = ((UInt8.ofNat (lg (k.1 : Int)).toNat).toNat : Int) := by decide +kernel
theorem lenTab_at {a : Int} (h0 : 0 ≤ a) (h1 : a < 256) : lenTab[a.toNat]? = some (UInt8.ofNat (lg a).toNat) ∧ lg a = ((UInt8.ofNat (lg a).toNat).toNat : Int) := by
  obtain ⟨n, rfl⟩ := Int.eq_ofNat_of_zero_le h0
  exact lenTab_fin ⟨n, by omega⟩
theorem lg_lo (a : Int) : -9223372036854775808 ≤ lg a := by unfold lg; split <;> omega
theorem lg_hi {a : Int} (h0 : 0 ≤ a) (h1 : a < 256) : lg a ≤ 9223372036854775807 := by have := (lenTab_at h0 h1).2; have := (UInt8.ofNat (lg a).toNat).toNat_lt; omega
theorem lg_add {b : Int} (a : Int) (h : 0 ≤ b) : -9223372036854775808 ≤ b + lg a := by unfold lg; split <;> omega
theorem lg_add2 {a b : Int} (h0 : 0 ≤ a) (h1 : a < 256) (hb : b ≤ 1000) : b + lg a ≤ 9223372036854775807 := by have := (lenTab_at h0 h1).2; have := (UInt8.ofNat (lg a).toNat).toNat_lt; omega
set_option maxRecDepth 20000 in
set_option maxHeartbeats 1000000 in
theorem len64_c (a : Int) (ha1 : 0 ≤ a) (ha2 : a < 18446744073709551616) (w : World) :
    Calls Try.prog 130 [.int .u64 a].toArray w fun e w' => ∃ v, e = .returned v ∧ (v = .int .i64 (lg a) ∧ Gr w w') := by
  refine calls_of_sw (R := fun v w' => v = .int .i64 (lg a) ∧ Gr w w') 25 Try.func130 rfl rfl rfl ?_
  refine sw_seq ?_
  -- region 0 bits.go:337
  refine sw_region [(0, 0)] rfl rfl rfl ?_
  refine sd_vv rfl rfl rfl (vv_assign rfl) ?_
  refine sd_done ?_
  refine sw_seq ?_
  refine sw_seq ?_
  -- region 1 bits.go:338
  refine sw_region [(0, 0), (1, 0)] rfl rfl rfl ?_
  refine sd_vv rfl rfl rfl (vv_move rfl) ?_
  refine sd_vv rfl rfl rfl (vv_geq rfl rfl) ?_
  refine sd_done ?_
  refine sw_cond rfl (fun h1 => ?_) (fun h1 => ?_)
  · -- h1 True
    replace h1 := of_decide_eq_true h1
    refine sw_seq ?_
    -- region 2 bits.go:339
    refine sw_region [(0, 0), (1, 0), (2, 0)] rfl rfl rfl ?_
    refine sd_vv rfl rfl rfl (vv_move rfl) ?_
    refine sd_vv rfl rfl rfl (vv_shrN (n := 32) (m := 4294967296) rfl rfl rfl (by decide)) ?_
    refine sd_vv rfl rfl rfl (vv_assign rfl) ?_
    refine sd_done ?_
    -- region 3 bits.go:340
    refine sw_region [(0, 0)] rfl rfl rfl ?_
    refine sd_vv rfl rfl rfl (vv_assign rfl) ?_
    refine sd_done ?_
    refine sw_seq ?_
    refine sw_seq ?_
    -- region 4 bits.go:342
    refine sw_region [(0, 0), (1, 0)] rfl rfl rfl ?_
    refine sd_vv rfl rfl rfl (vv_move rfl) ?_
    refine sd_vv rfl rfl rfl (vv_geq rfl rfl) ?_
    refine sd_done ?_
    refine sw_cond rfl (fun h2 => ?_) (fun h2 => ?_)
    · -- h2 True
      replace h2 := of_decide_eq_true h2
      refine sw_seq ?_
      -- region 5 bits.go:343
      refine sw_region [(0, 0), (1, 0), (2, 0)] rfl rfl rfl ?_
      refine sd_vv rfl rfl rfl (vv_move rfl) ?_
      refine sd_vv rfl rfl rfl (vv_shrN (n := 16) (m := 65536) rfl rfl rfl (by decide)) ?_
      refine sd_vv rfl rfl rfl (vv_assign rfl) ?_
      refine sd_done ?_
      -- region 6 bits.go:344
      refine sw_region [(0, 0), (1, 0), (2, 0)] rfl rfl rfl ?_
      refine sd_vv rfl rfl rfl (vv_move rfl) ?_
      refine sd_vv rfl rfl rfl (vv_add64 rfl rfl (by omega) (by omega)) ?_
      refine sd_vv rfl rfl rfl (vv_assign rfl) ?_
      refine sd_done ?_
      refine sw_seq ?_
      refine sw_seq ?_
      -- region 7 bits.go:346
      refine sw_region [(0, 0), (1, 0)] rfl rfl rfl ?_
      refine sd_vv rfl rfl rfl (vv_move rfl) ?_
      refine sd_vv rfl rfl rfl (vv_geq rfl rfl) ?_
      refine sd_done ?_
      refine sw_cond rfl (fun h3 => ?_) (fun h3 => ?_)
      · -- h3 True
        replace h3 := of_decide_eq_true h3
        refine sw_seq ?_
        -- region 8 bits.go:347
        refine sw_region [(0, 0), (1, 0), (2, 0)] rfl rfl rfl ?_
        refine sd_vv rfl rfl rfl (vv_move rfl) ?_
        refine sd_vv rfl rfl rfl (vv_shrN (n := 8) (m := 256) rfl rfl rfl (by decide)) ?_
        refine sd_vv rfl rfl rfl (vv_assign rfl) ?_
        refine sd_done ?_
        -- region 9 bits.go:348
        refine sw_region [(0, 0), (1, 0), (2, 0)] rfl rfl rfl ?_
        refine sd_vv rfl rfl rfl (vv_move rfl) ?_
        refine sd_vv rfl rfl rfl (vv_add64 rfl rfl (by omega) (by omega)) ?_
        refine sd_vv rfl rfl rfl (vv_assign rfl) ?_
        refine sd_done ?_
        refine sw_seq ?_
        -- region 10 bits.go:350
        refine sw_region [(0, 0), (1, 0), (2, 0), (3, 0), (4, 0), (5, 0), (6, 0)] rfl rfl rfl ?_
        refine sd_vv rfl rfl rfl (vv_move rfl) ?_
        refine sd_vv rfl rfl rfl (vv_move rfl) ?_
        refine sd_vv rfl rfl rfl (vv_convB cv_22_5 rfl (by omega) (by omega)) ?_
        refine sd_vv rfl rfl rfl (vv_eq (vv_ixStr Try.underlying9 rfl rfl (by omega) (show lenTab[_]? = _ from (lenTab_at (by omega) (by omega)).1)) (congrArg (Value.int .u8) (lenTab_at (by omega) (by omega)).2.symm)) ?_
        refine sd_vv rfl rfl rfl (vv_conv64 cv_5_3 rfl (lg_lo _) (lg_hi (by omega) (by omega))) ?_
        refine sd_vv rfl rfl rfl (vv_add64 rfl rfl (lg_add _ (by decide)) (lg_add2 (by omega) (by omega) (by decide))) ?_
        refine sd_vv rfl rfl rfl (vv_assign rfl) ?_
        refine sd_done ?_
        refine sw_ret ?_
        refine ⟨_, _, rfl, res_tmp rfl rfl, ?_⟩
        refine ⟨congrArg (Value.int .i64) ?_, (Gr.refl w)⟩
        have e0 : lg (a : Int) = lg ((a : Int) / 4294967296) + 32 := lg_shift (a : Int) 32 4294967296 (by decide) (by omega)
        have e1 : lg ((a : Int) / 4294967296) = lg (((a : Int) / 4294967296) / 65536) + 16 := lg_shift ((a : Int) / 4294967296) 16 65536 (by decide) (by omega)
        have e2 : lg (((a : Int) / 4294967296) / 65536) = lg ((((a : Int) / 4294967296) / 65536) / 256) + 8 := lg_shift (((a : Int) / 4294967296) / 65536) 8 256 (by decide) (by omega)
        omega
      · -- h3 False
        replace h3 := of_decide_eq_false h3
        refine sw_skip ?_
        refine then_n ?_
        refine sw_seq ?_
        -- region 10 bits.go:350
        refine sw_region [(0, 0), (1, 0), (2, 0), (3, 0), (4, 0), (5, 0), (6, 0)] rfl rfl rfl ?_
        refine sd_vv rfl rfl rfl (vv_move rfl) ?_
        refine sd_vv rfl rfl rfl (vv_move rfl) ?_
        refine sd_vv rfl rfl rfl (vv_convB cv_22_5 rfl (by omega) (by omega)) ?_
        refine sd_vv rfl rfl rfl (vv_eq (vv_ixStr Try.underlying9 rfl rfl (by omega) (show lenTab[_]? = _ from (lenTab_at (by omega) (by omega)).1)) (congrArg (Value.int .u8) (lenTab_at (by omega) (by omega)).2.symm)) ?_
        refine sd_vv rfl rfl rfl (vv_conv64 cv_5_3 rfl (lg_lo _) (lg_hi (by omega) (by omega))) ?_
        refine sd_vv rfl rfl rfl (vv_add64 rfl rfl (lg_add _ (by decide)) (lg_add2 (by omega) (by omega) (by decide))) ?_
        refine sd_vv rfl rfl rfl (vv_assign rfl) ?_
        refine sd_done ?_
        refine sw_ret ?_
        refine ⟨_, _, rfl, res_tmp rfl rfl, ?_⟩
        refine ⟨congrArg (Value.int .i64) ?_, (Gr.refl w)⟩
        have e0 : lg (a : Int) = lg ((a : Int) / 4294967296) + 32 := lg_shift (a : Int) 32 4294967296 (by decide) (by omega)
        have e1 : lg ((a : Int) / 4294967296) = lg (((a : Int) / 4294967296) / 65536) + 16 := lg_shift ((a : Int) / 4294967296) 16 65536 (by decide) (by omega)
        omega
    · -- h2 False
      replace h2 := of_decide_eq_false h2
      refine sw_skip ?_
      refine then_n ?_
      refine sw_seq ?_
      refine sw_seq ?_
      -- region 7 bits.go:346
      refine sw_region [(0, 0), (1, 0)] rfl rfl rfl ?_
      refine sd_vv rfl rfl rfl (vv_move rfl) ?_
      refine sd_vv rfl rfl rfl (vv_geq rfl rfl) ?_
      refine sd_done ?_
      refine sw_cond rfl (fun h4 => ?_) (fun h4 => ?_)
      · -- h4 True
        replace h4 := of_decide_eq_true h4
        refine sw_seq ?_
        -- region 8 bits.go:347
        refine sw_region [(0, 0), (1, 0), (2, 0)] rfl rfl rfl ?_
        refine sd_vv rfl rfl rfl (vv_move rfl) ?_
        refine sd_vv rfl rfl rfl (vv_shrN (n := 8) (m := 256) rfl rfl rfl (by decide)) ?_
        refine sd_vv rfl rfl rfl (vv_assign rfl) ?_
        refine sd_done ?_
        -- region 9 bits.go:348
        refine sw_region [(0, 0), (1, 0), (2, 0)] rfl rfl rfl ?_
        refine sd_vv rfl rfl rfl (vv_move rfl) ?_
        refine sd_vv rfl rfl rfl (vv_add64 rfl rfl (by omega) (by omega)) ?_
        refine sd_vv rfl rfl rfl (vv_assign rfl) ?_
        refine sd_done ?_
        refine sw_seq ?_
        -- region 10 bits.go:350
        refine sw_region [(0, 0), (1, 0), (2, 0), (3, 0), (4, 0), (5, 0), (6, 0)] rfl rfl rfl ?_
        refine sd_vv rfl rfl rfl (vv_move rfl) ?_
        refine sd_vv rfl rfl rfl (vv_move rfl) ?_
        refine sd_vv rfl rfl rfl (vv_convB cv_22_5 rfl (by omega) (by omega)) ?_
        refine sd_vv rfl rfl rfl (vv_eq (vv_ixStr Try.underlying9 rfl rfl (by omega) (show lenTab[_]? = _ from (lenTab_at (by omega) (by omega)).1)) (congrArg (Value.int .u8) (lenTab_at (by omega) (by omega)).2.symm)) ?_
        refine sd_vv rfl rfl rfl (vv_conv64 cv_5_3 rfl (lg_lo _) (lg_hi (by omega) (by omega))) ?_
        refine sd_vv rfl rfl rfl (vv_add64 rfl rfl (lg_add _ (by decide)) (lg_add2 (by omega) (by omega) (by decide))) ?_
        refine sd_vv rfl rfl rfl (vv_assign rfl) ?_
        refine sd_done ?_
        refine sw_ret ?_
        refine ⟨_, _, rfl, res_tmp rfl rfl, ?_⟩
        refine ⟨congrArg (Value.int .i64) ?_, (Gr.refl w)⟩
        have e0 : lg (a : Int) = lg ((a : Int) / 4294967296) + 32 := lg_shift (a : Int) 32 4294967296 (by decide) (by omega)
        have e1 : lg ((a : Int) / 4294967296) = lg (((a : Int) / 4294967296) / 256) + 8 := lg_shift ((a : Int) / 4294967296) 8 256 (by decide) (by omega)
        omega
      · -- h4 False
        replace h4 := of_decide_eq_false h4
        refine sw_skip ?_
        refine then_n ?_
        refine sw_seq ?_
        -- region 10 bits.go:350
        refine sw_region [(0, 0), (1, 0), (2, 0), (3, 0), (4, 0), (5, 0), (6, 0)] rfl rfl rfl ?_
        refine sd_vv rfl rfl rfl (vv_move rfl) ?_
        refine sd_vv rfl rfl rfl (vv_move rfl) ?_
        refine sd_vv rfl rfl rfl (vv_convB cv_22_5 rfl (by omega) (by omega)) ?_
        refine sd_vv rfl rfl rfl (vv_eq (vv_ixStr Try.underlying9 rfl rfl (by omega) (show lenTab[_]? = _ from (lenTab_at (by omega) (by omega)).1)) (congrArg (Value.int .u8) (lenTab_at (by omega) (by omega)).2.symm)) ?_
        refine sd_vv rfl rfl rfl (vv_conv64 cv_5_3 rfl (lg_lo _) (lg_hi (by omega) (by omega))) ?_
        refine sd_vv rfl rfl rfl (vv_add64 rfl rfl (lg_add _ (by decide)) (lg_add2 (by omega) (by omega) (by decide))) ?_
        refine sd_vv rfl rfl rfl (vv_assign rfl) ?_
        refine sd_done ?_
        refine sw_ret ?_
        refine ⟨_, _, rfl, res_tmp rfl rfl, ?_⟩
        refine ⟨congrArg (Value.int .i64) ?_, (Gr.refl w)⟩
        have e0 : lg (a : Int) = lg ((a : Int) / 4294967296) + 32 := lg_shift (a : Int) 32 4294967296 (by decide) (by omega)
        omega
  · -- h1 False
    replace h1 := of_decide_eq_false h1
    refine sw_skip ?_
    refine then_n ?_
    refine sw_seq ?_
    refine sw_seq ?_
    -- region 4 bits.go:342
    refine sw_region [(0, 0), (1, 0)] rfl rfl rfl ?_
    refine sd_vv rfl rfl rfl (vv_move rfl) ?_
    refine sd_vv rfl rfl rfl (vv_geq rfl rfl) ?_
    refine sd_done ?_
    refine sw_cond rfl (fun h5 => ?_) (fun h5 => ?_)
    · -- h5 True
      replace h5 := of_decide_eq_true h5
      refine sw_seq ?_
      -- region 5 bits.go:343
      refine sw_region [(0, 0), (1, 0), (2, 0)] rfl rfl rfl ?_
      refine sd_vv rfl rfl rfl (vv_move rfl) ?_
      refine sd_vv rfl rfl rfl (vv_shrN (n := 16) (m := 65536) rfl rfl rfl (by decide)) ?_
      refine sd_vv rfl rfl rfl (vv_assign rfl) ?_
      refine sd_done ?_
      -- region 6 bits.go:344
      refine sw_region [(0, 0), (1, 0), (2, 0)] rfl rfl rfl ?_
      refine sd_vv rfl rfl rfl (vv_move rfl) ?_
      refine sd_vv rfl rfl rfl (vv_add64 rfl rfl (by omega) (by omega)) ?_
      refine sd_vv rfl rfl rfl (vv_assign rfl) ?_
      refine sd_done ?_
      refine sw_seq ?_
      refine sw_seq ?_
      -- region 7 bits.go:346
      refine sw_region [(0, 0), (1, 0)] rfl rfl rfl ?_
      refine sd_vv rfl rfl rfl (vv_move rfl) ?_
      refine sd_vv rfl rfl rfl (vv_geq rfl rfl) ?_
      refine sd_done ?_
      refine sw_cond rfl (fun h6 => ?_) (fun h6 => ?_)
      · -- h6 True
        replace h6 := of_decide_eq_true h6
        refine sw_seq ?_
        -- region 8 bits.go:347
        refine sw_region [(0, 0), (1, 0), (2, 0)] rfl rfl rfl ?_
        refine sd_vv rfl rfl rfl (vv_move rfl) ?_
        refine sd_vv rfl rfl rfl (vv_shrN (n := 8) (m := 256) rfl rfl rfl (by decide)) ?_
        refine sd_vv rfl rfl rfl (vv_assign rfl) ?_
        refine sd_done ?_
        -- region 9 bits.go:348
        refine sw_region [(0, 0), (1, 0), (2, 0)] rfl rfl rfl ?_
        refine sd_vv rfl rfl rfl (vv_move rfl) ?_
        refine sd_vv rfl rfl rfl (vv_add64 rfl rfl (by omega) (by omega)) ?_
        refine sd_vv rfl rfl rfl (vv_assign rfl) ?_
        refine sd_done ?_
        refine sw_seq ?_
        -- region 10 bits.go:350
        refine sw_region [(0, 0), (1, 0), (2, 0), (3, 0), (4, 0), (5, 0), (6, 0)] rfl rfl rfl ?_
        refine sd_vv rfl rfl rfl (vv_move rfl) ?_
        refine sd_vv rfl rfl rfl (vv_move rfl) ?_
        refine sd_vv rfl rfl rfl (vv_convB cv_22_5 rfl (by omega) (by omega)) ?_
        refine sd_vv rfl rfl rfl (vv_eq (vv_ixStr Try.underlying9 rfl rfl (by omega) (show lenTab[_]? = _ from (lenTab_at (by omega) (by omega)).1)) (congrArg (Value.int .u8) (lenTab_at (by omega) (by omega)).2.symm)) ?_
        refine sd_vv rfl rfl rfl (vv_conv64 cv_5_3 rfl (lg_lo _) (lg_hi (by omega) (by omega))) ?_
        refine sd_vv rfl rfl rfl (vv_add64 rfl rfl (lg_add _ (by decide)) (lg_add2 (by omega) (by omega) (by decide))) ?_
        refine sd_vv rfl rfl rfl (vv_assign rfl) ?_
        refine sd_done ?_
        refine sw_ret ?_
        refine ⟨_, _, rfl, res_tmp rfl rfl, ?_⟩
        refine ⟨congrArg (Value.int .i64) ?_, (Gr.refl w)⟩
        have e0 : lg (a : Int) = lg ((a : Int) / 65536) + 16 := lg_shift (a : Int) 16 65536 (by decide) (by omega)
        have e1 : lg ((a : Int) / 65536) = lg (((a : Int) / 65536) / 256) + 8 := lg_shift ((a : Int) / 65536) 8 256 (by decide) (by omega)
        omega
      · -- h6 False
        replace h6 := of_decide_eq_false h6
        refine sw_skip ?_
        refine then_n ?_
        refine sw_seq ?_
        -- region 10 bits.go:350
        refine sw_region [(0, 0), (1, 0), (2, 0), (3, 0), (4, 0), (5, 0), (6, 0)] rfl rfl rfl ?_
        refine sd_vv rfl rfl rfl (vv_move rfl) ?_
        refine sd_vv rfl rfl rfl (vv_move rfl) ?_
        refine sd_vv rfl rfl rfl (vv_convB cv_22_5 rfl (by omega) (by omega)) ?_
        refine sd_vv rfl rfl rfl (vv_eq (vv_ixStr Try.underlying9 rfl rfl (by omega) (show lenTab[_]? = _ from (lenTab_at (by omega) (by omega)).1)) (congrArg (Value.int .u8) (lenTab_at (by omega) (by omega)).2.symm)) ?_
        refine sd_vv rfl rfl rfl (vv_conv64 cv_5_3 rfl (lg_lo _) (lg_hi (by omega) (by omega))) ?_
        refine sd_vv rfl rfl rfl (vv_add64 rfl rfl (lg_add _ (by decide)) (lg_add2 (by omega) (by omega) (by decide))) ?_
        refine sd_vv rfl rfl rfl (vv_assign rfl) ?_
        refine sd_done ?_
        refine sw_ret ?_
        refine ⟨_, _, rfl, res_tmp rfl rfl, ?_⟩
        refine ⟨congrArg (Value.int .i64) ?_, (Gr.refl w)⟩
        have e0 : lg (a : Int) = lg ((a : Int) / 65536) + 16 := lg_shift (a : Int) 16 65536 (by decide) (by omega)
        omega
    · -- h5 False
      replace h5 := of_decide_eq_false h5
      refine sw_skip ?_
      refine then_n ?_
      refine sw_seq ?_
      refine sw_seq ?_
      -- region 7 bits.go:346
      refine sw_region [(0, 0), (1, 0)] rfl rfl rfl ?_
      refine sd_vv rfl rfl rfl (vv_move rfl) ?_
      refine sd_vv rfl rfl rfl (vv_geq rfl rfl) ?_
      refine sd_done ?_
      refine sw_cond rfl (fun h7 => ?_) (fun h7 => ?_)
      · -- h7 True
        replace h7 := of_decide_eq_true h7
        refine sw_seq ?_
        -- region 8 bits.go:347
        refine sw_region [(0, 0), (1, 0), (2, 0)] rfl rfl rfl ?_
        refine sd_vv rfl rfl rfl (vv_move rfl) ?_
        refine sd_vv rfl rfl rfl (vv_shrN (n := 8) (m := 256) rfl rfl rfl (by decide)) ?_
        refine sd_vv rfl rfl rfl (vv_assign rfl) ?_
        refine sd_done ?_
        -- region 9 bits.go:348
        refine sw_region [(0, 0), (1, 0), (2, 0)] rfl rfl rfl ?_
        refine sd_vv rfl rfl rfl (vv_move rfl) ?_
        refine sd_vv rfl rfl rfl (vv_add64 rfl rfl (by omega) (by omega)) ?_
        refine sd_vv rfl rfl rfl (vv_assign rfl) ?_
        refine sd_done ?_
        refine sw_seq ?_
        -- region 10 bits.go:350
        refine sw_region [(0, 0), (1, 0), (2, 0), (3, 0), (4, 0), (5, 0), (6, 0)] rfl rfl rfl ?_
        refine sd_vv rfl rfl rfl (vv_move rfl) ?_
        refine sd_vv rfl rfl rfl (vv_move rfl) ?_
        refine sd_vv rfl rfl rfl (vv_convB cv_22_5 rfl (by omega) (by omega)) ?_
        refine sd_vv rfl rfl rfl (vv_eq (vv_ixStr Try.underlying9 rfl rfl (by omega) (show lenTab[_]? = _ from (lenTab_at (by omega) (by omega)).1)) (congrArg (Value.int .u8) (lenTab_at (by omega) (by omega)).2.symm)) ?_
        refine sd_vv rfl rfl rfl (vv_conv64 cv_5_3 rfl (lg_lo _) (lg_hi (by omega) (by omega))) ?_
        refine sd_vv rfl rfl rfl (vv_add64 rfl rfl (lg_add _ (by decide)) (lg_add2 (by omega) (by omega) (by decide))) ?_
        refine sd_vv rfl rfl rfl (vv_assign rfl) ?_
        refine sd_done ?_
        refine sw_ret ?_
        refine ⟨_, _, rfl, res_tmp rfl rfl, ?_⟩
        refine ⟨congrArg (Value.int .i64) ?_, (Gr.refl w)⟩
        have e0 : lg (a : Int) = lg ((a : Int) / 256) + 8 := lg_shift (a : Int) 8 256 (by decide) (by omega)
        omega
      · -- h7 False
        replace h7 := of_decide_eq_false h7
        refine sw_skip ?_
        refine then_n ?_
        refine sw_seq ?_
        -- region 10 bits.go:350
        refine sw_region [(0, 0), (1, 0), (2, 0), (3, 0), (4, 0), (5, 0), (6, 0)] rfl rfl rfl ?_
        refine sd_vv rfl rfl rfl (vv_move rfl) ?_
        refine sd_vv rfl rfl rfl (vv_move rfl) ?_
        refine sd_vv rfl rfl rfl (vv_convB cv_22_5 rfl (by omega) (by omega)) ?_
        refine sd_vv rfl rfl rfl (vv_eq (vv_ixStr Try.underlying9 rfl rfl (by omega) (show lenTab[_]? = _ from (lenTab_at (by omega) (by omega)).1)) (congrArg (Value.int .u8) (lenTab_at (by omega) (by omega)).2.symm)) ?_
        refine sd_vv rfl rfl rfl (vv_conv64 cv_5_3 rfl (lg_lo _) (lg_hi (by omega) (by omega))) ?_
        refine sd_vv rfl rfl rfl (vv_add64 rfl rfl (lg_add _ (by decide)) (lg_add2 (by omega) (by omega) (by decide))) ?_
        refine sd_vv rfl rfl rfl (vv_assign rfl) ?_
        refine sd_done ?_
        refine sw_ret ?_
        refine ⟨_, _, rfl, res_tmp rfl rfl, ?_⟩
        refine ⟨congrArg (Value.int .i64) ?_, (Gr.refl w)⟩
        omega
set_option maxHeartbeats 1000000 in
theorem len_c (a : Int) (ha1 : 0 ≤ a) (ha2 : a < 18446744073709551616) (w : World) :
    Calls Try.prog 104 [.int .u64 a].toArray w fun e w' => ∃ v, e = .returned v ∧ (v = .int .i64 (lg a) ∧ Gr w w') := by
  refine calls_of_sw (R := fun v w' => v = .int .i64 (lg a) ∧ Gr w w') 8 Try.func104 rfl rfl rfl ?_
  refine sw_seq ?_
  -- region 0 bits.go:302
  refine sw_region [(0, 0)] rfl rfl rfl ?_
  refine sd_vv rfl rfl rfl (vv_assign rfl) ?_
  refine sd_done ?_
  refine sw_seq ?_
  refine sw_condF rfl ?_
  refine sw_skip ?_
  refine then_n ?_
  refine sw_seq ?_
  -- region 2 bits.go:306
  refine sw_region [(0, 0), (1, 0), (2, 0)] rfl rfl rfl ?_
  refine sd_vv rfl rfl rfl (vv_move rfl) ?_
  refine sd_ev rfl rfl rfl (ev_call en_130 rfl (len64_c _ (by omega) (by omega) _)) ?_
  rintro _ w1 ⟨rfl, Gw1⟩
  have z1 := Gw1.size
  refine sd_vv rfl rfl rfl (vv_assign rfl) ?_
  refine sd_done ?_
  refine sw_ret ?_
  have X2 : Gr w w1 := (Gr.trans (Gr.refl w) Gw1)
  refine ⟨_, _, rfl, res_tmp rfl rfl, ?_⟩
  exact ⟨rfl, X2⟩
end Go.Proofs.Ytopkalcefepilaa

end
section
set_option linter.unusedVariables false
set_option maxRecDepth 100000
namespace Go.Sx
open Go Go.RowKit
/-- headend/plan.upTo -/
def plan_upTo (p0 : Int) : Option (Int) := (some p0)
def plan_upTo_1_L1 (p1 : Int) (rec1 : (Int) → Option (List Int)) (a2 : Int) : Option (List Int) := (if a2 ≤ p1 then (yl a2 ((rec1 (w64 (a2 + 1))))) else (some []))
/-- headend/plan.upTo$1: what it yields -/
def plan_upTo_1 (p1 : Int) : Option (List Int) := (fixN (plan_upTo_1_L1 p1) FUEL 0)
/-- (*headend/plan.tables).count -/
def plan_tables_count (p0 : Tplan_tables) (p1 : Int) : Option (Int) := (if p1 = 0 then (some 1) else Option.bind (plan_tables_at p0 0 p0.s.Depth) fun x1 => (Option.bind (getI x1 p1) fun y2 => ((some y2))))
def plan_greatest_cbc1_plan_upTo_1_plan_tables_count_J2 (a5 : Int) (a6 : Int) (a7 : Bool) (nx1 : (Int × Int × Bool) → Option (Int × Int)) (e8 : Int) (x9 : Int) (a10 : Bool) : Option (Int × Int) := (bif a10 then (nx1 (x9, e8, false)) else (nx1 (a5, a6, a7)))
def plan_greatest_cbc1_plan_upTo_1_plan_tables_count_D1  (s : Int × Int × Bool) : Option (Int × Int) := match s with | (a5, a6, a7) => (some (a5, a6))
def plan_greatest_cbc1_plan_upTo_1_plan_tables_count_R1 (p1_0 : Tplan_tables) (e8 : Int) (nx1 : (Int × Int × Bool) → Option (Int × Int)) (s : Int × Int × Bool) : Option (Int × Int) := match s with | (a5, a6, a7) => Option.bind (plan_tables_count p1_0 e8) fun x9 => ((bif a7 then (plan_greatest_cbc1_plan_upTo_1_plan_tables_count_J2 a5 a6 a7 nx1 e8 x9 true) else (plan_greatest_cbc1_plan_upTo_1_plan_tables_count_J2 a5 a6 a7 nx1 e8 x9 (decide (a5 < x9)))))
/-- headend/plan.greatest[int] -/
def plan_greatest_cbc1_plan_upTo_1_plan_tables_count (p0_0 : Int) (p1_0 : Tplan_tables) : Option (Int × Int) := Option.bind (plan_upTo_1 p0_0) fun l1 => ((itL (plan_greatest_cbc1_plan_upTo_1_plan_tables_count_R1 p1_0) plan_greatest_cbc1_plan_upTo_1_plan_tables_count_D1 l1 (0, 0, true)))
/-- (*headend/plan.tables).worst -/
def plan_tables_worst (p0 : Tplan_tables) (p1 : Int) : Option (Int × Int) := Option.bind (plan_upTo p1) fun x1 => (Option.bind (plan_greatest_cbc1_plan_upTo_1_plan_tables_count x1 p0) fun x2 => ((some (x2.1, x2.2))))
def plan_Worst_J1 (p0 : TScheme) (p1 : Int) (a2 : Bool) : Option (Int × Int) := (bif a2 then (some (0, 2)) else Option.bind (plan_newTables p0) fun x3 => (Option.bind (plan_tables_worst x3 p1) fun x4 => ((some (x4.1, 0)))))
/-- headend/plan.Worst -/
def plan_Worst (p0 : TScheme) (p1 : Int) : Option (Int × Int) := Option.bind (cover_Check p0) fun x1 => ((if x1 ≠ 0 then (if x1 ≠ 0 then (some (0, x1)) else none) else (if p1 < 0 then (plan_Worst_J1 p0 p1 true) else Option.bind (shG p0.Depth) fun nn5 => ((plan_Worst_J1 p0 p1 (decide (shlI 1 nn5 < p1)))))))
def plan_tables_list_J1 (p0 : Tplan_tables) (p1 : List Int) (p2 : Int) (p4 : Int) (p5 : Int) (rec0 : (Tplan_tables × List Int × Int × Int × Int × Int) → Option (List Int)) (x3 : Int × Int) (a4 : Int) : Option (List Int) := Option.bind (rec0 (p0, p1, w64 (2 * p2), a4, w64 (p4 - 1), x3.2)) fun x5 => (Option.bind (rec0 (p0, x5, w64 ((w64 (2 * p2)) + 1), a4, w64 (p4 - 1), w64 (p5 - x3.2))) fun x6 => ((some x6)))
def plan_tables_list_J2 (p0 : Tplan_tables) (p1 : List Int) (p2 : Int) (p3 : Int) (p4 : Int) (p5 : Int) (rec0 : (Tplan_tables × List Int × Int × Int × Int × Int) → Option (List Int)) (x3 : Int × Int) (a7 : Bool) : Option (List Int) := (bif a7 then Option.bind (plan_tables_below p0 p3 p4) fun x8 => ((plan_tables_list_J1 p0 p1 p2 p4 p5 rec0 x3 x8)) else (plan_tables_list_J1 p0 p1 p2 p4 p5 rec0 x3 0))
def plan_tables_list_R (rec0 : ((Tplan_tables × List Int × Int × Int × Int × Int) → Option (List Int))) (p0 : Tplan_tables) (p1 : List Int) (p2 : Int) (p3 : Int) (p4 : Int) (p5 : Int) : Option (List Int) := (if p5 = 0 then (some p1) else (if p4 = 0 then Option.bind (shG p0.s.Depth) fun nn1 => (Option.bind (appG 8 p1 [w64 (p2 - (shlI 1 nn1))]) fun l2 => ((some l2))) else Option.bind (plan_tables_best p0 p3 p4 p5) fun x3 => ((if p0.s.Kind ≠ 1#8 then (if x3.2 = 0 then (plan_tables_list_J2 p0 p1 p2 p3 p4 p5 rec0 x3 true) else (plan_tables_list_J2 p0 p1 p2 p3 p4 p5 rec0 x3 (decide (x3.2 = p5)))) else (plan_tables_list_J2 p0 p1 p2 p3 p4 p5 rec0 x3 false)))))
def plan_tables_list_F (rec0 : ((Tplan_tables × List Int × Int × Int × Int × Int) → Option (List Int))) (s : Tplan_tables × List Int × Int × Int × Int × Int) : Option (List Int) := match s with | (p0, p1, p2, p3, p4, p5) => plan_tables_list_R rec0 p0 p1 p2 p3 p4 p5
/-- (*headend/plan.tables).list -/
def plan_tables_list (p0 : Tplan_tables) (p1 : List Int) (p2 : Int) (p3 : Int) (p4 : Int) (p5 : Int) : Option (List Int) := fixN plan_tables_list_F FUEL (p0, p1, p2, p3, p4, p5)
def plan_Witness_J1 (p0 : TScheme) (p1 : Int) (a2 : Bool) : Option (List Int × Int) := (bif a2 then (some ([], 2)) else Option.bind (plan_newTables p0) fun x3 => (Option.bind (plan_tables_worst x3 p1) fun x4 => (Option.bind (plan_tables_list x3 ([] : List Int) 1 0 p0.Depth x4.2) fun x5 => ((some (x5, 0))))))
/-- headend/plan.Witness -/
def plan_Witness (p0 : TScheme) (p1 : Int) : Option (List Int × Int) := Option.bind (cover_Check p0) fun x1 => ((if x1 ≠ 0 then (if x1 ≠ 0 then (some ([], x1)) else none) else (if p1 < 0 then (plan_Witness_J1 p0 p1 true) else Option.bind (shG p0.Depth) fun nn6 => ((plan_Witness_J1 p0 p1 (decide (shlI 1 nn6 < p1)))))))
end Go.Sx

end
section
set_option linter.unusedVariables false
set_option maxRecDepth 100000
namespace Go.Sx
open Go Go.RowKit
structure TNeed where
  Depth : Int
  Revoked : Int
  Storage : Int
  Headers : Int
  HeaderPrice : Int
  StoragePrice : Int
  Group : TGroup
deriving DecidableEq, Inhabited
def TNeed.cs (x : TNeed)  : List Value := [.int .i64 x.Depth, .int .i64 x.Revoked, .int .i64 x.Storage, .int .i64 x.Headers, .int .i64 x.HeaderPrice, .int .i64 x.StoragePrice, wv x.Group.P, wv x.Group.Q, wv x.Group.G]
theorem TNeed.cs_ones (x : TNeed)   : ones (TNeed.cs x ) = true := by simp only [TNeed.cs, List.cons_append, List.nil_append, kb, ones, one_int, one_bool, one_str, cond_true]
theorem TNeed.cs_inj {x y : TNeed} (h : TNeed.cs x = TNeed.cs y) : x = y := by
  have h0 : x.Depth = y.Depth := ci_inj (congrArg (fun l => l[0]?) h)
  have h1 : x.Revoked = y.Revoked := ci_inj (congrArg (fun l => l[1]?) h)
  have h2 : x.Storage = y.Storage := ci_inj (congrArg (fun l => l[2]?) h)
  have h3 : x.Headers = y.Headers := ci_inj (congrArg (fun l => l[3]?) h)
  have h4 : x.HeaderPrice = y.HeaderPrice := ci_inj (congrArg (fun l => l[4]?) h)
  have h5 : x.StoragePrice = y.StoragePrice := ci_inj (congrArg (fun l => l[5]?) h)
  have h6 : x.Group = y.Group := TGroup.cs_inj (congrArg (fun l => (l.drop 6).take 3) h)
  cases x; cases y; simp only at *; subst h0; subst h1; subst h2; subst h3; subst h4; subst h5; subst h6; rfl
theorem TNeed.ws (l : List TNeed) : Ws 9 (l.map TNeed.cs) := ws_map l (fun _ => rfl) (fun _ => rfl)
structure TChoice where
  Kind : BitVec 8
  Fits : Bool
  Items : Int
  Points : Int
  Header : Int
  Storage : Int
  Cost : Int
  Witness : List Int
deriving DecidableEq, Inhabited
def TChoice.cs (x : TChoice) (v0 : Value) : List Value := [bv x.Kind, .bool x.Fits, .int .i64 x.Items, .int .i64 x.Points, .int .i64 x.Header, .int .i64 x.Storage, .int .i64 x.Cost, v0]
theorem TChoice.cs_ones (x : TChoice) (v0 : Value) (h0 : oneB v0 = true) : ones (TChoice.cs x v0) = true := by simp only [TChoice.cs, List.cons_append, List.nil_append, kb, ones, one_int, one_bool, one_str, cond_true, h0]
structure TPlan where
  Choices : List TChoice
  Best : BitVec 8
deriving DecidableEq, Inhabited
def TPlan.cs (x : TPlan) (v0 : Value) : List Value := [v0, bv x.Best]
theorem TPlan.cs_ones (x : TPlan) (v0 : Value) (h0 : oneB v0 = true) : ones (TPlan.cs x v0) = true := by simp only [TPlan.cs, List.cons_append, List.nil_append, kb, ones, one_int, one_bool, one_str, cond_true, h0]
/-- headend/plan.within$1 -/
def plan_within_1 (p0 : Int) (p1 : Int) : Option (Bool) := (if p0 < 0 then (some true) else (some (decide (p1 < p0))))
def slices_IndexFunc_7bbb_plan_within_1_L1 (p0 : List Int) (p1_0 : Int) (rec1 : (Int) → Option (Int)) (a2 : Int) : Option (Int) := (if a2 < (p0.length : Int) then Option.bind (getI p0 a2) fun y3 => (Option.bind (plan_within_1 y3 p1_0) fun x4 => ((bif x4 then (some a2) else (rec1 (w64 (a2 + 1)))))) else (some (-1)))
/-- slices.IndexFunc[[]int,int] -/
def slices_IndexFunc_7bbb_plan_within_1 (p0 : List Int) (p1_0 : Int) : Option (Int) := (fixN (slices_IndexFunc_7bbb_plan_within_1_L1 p0 p1_0) FUEL 0)
/-- slices.ContainsFunc[[]int,int] -/
def slices_ContainsFunc_5954_plan_within_1 (p0 : List Int) (p1_0 : Int) : Option (Bool) := Option.bind (slices_IndexFunc_7bbb_plan_within_1 p0 p1_0) fun x1 => ((some (decide ((0 : Int) ≤ x1))))
/-- headend/plan.within -/
def plan_within (p0 : Int) (p1 : List Int) : Option (Bool) := Option.bind (slices_ContainsFunc_5954_plan_within_1 p1 p0) fun x1 => ((some (!x1)))
def plan_CheckNeed_J1 (a1 : Bool) : Option (Int) := (bif a1 then (some 2) else (some 0))
/-- headend/plan.CheckNeed -/
def plan_CheckNeed (p0 : TNeed) : Option (Int) := Option.bind (plan_within 6 [p0.Depth]) fun x2 => ((bif (!x2) then (plan_CheckNeed_J1 true) else Option.bind (shG p0.Depth) fun nn3 => (Option.bind (plan_within (shlI 1 nn3) [p0.Revoked]) fun x4 => ((bif (!x4) then (plan_CheckNeed_J1 true) else Option.bind (plan_within 10000 [p0.Storage]) fun x5 => ((bif (!x5) then (plan_CheckNeed_J1 true) else Option.bind (plan_within 1000 [p0.Headers, p0.HeaderPrice, p0.StoragePrice]) fun x6 => ((plan_CheckNeed_J1 (!x6))))))))))
def number_prime_L2 (p0 : BitVec 64) (rec2 : (BitVec 64) → Option (Bool)) (a3 : BitVec 64) : Option (Bool) := (if a3 * a3 ≤ p0 then Option.bind (remU p0 a3) fun x4 => ((if x4 = 0#64 then (some false) else (rec2 (a3 + 1#64)))) else (some true))
def number_prime_J1 (p0 : BitVec 64) (a1 : Bool) : Option (Bool) := (bif a1 then (some false) else (fixN (number_prime_L2 p0) FUEL 2#64))
/-- headend/number.prime -/
def number_prime (p0 : BitVec 64) : Option (Bool) := (if p0 < 2#64 then (number_prime_J1 p0 true) else (number_prime_J1 p0 (decide (1048575#64 < p0))))
def number_power_L1 (p2 : BitVec 64) (rec1 : (BitVec 64 × BitVec 64 × BitVec 64) → Option (BitVec 64)) (s1 : BitVec 64 × BitVec 64 × BitVec 64) : Option (BitVec 64) := match s1 with | (a6, a7, a8) => (if 0#64 < a7 then (if a7 &&& 1#64 = 1#64 then Option.bind (remU (a8 * a6) p2) fun x9 => (Option.bind (remU (a6 * a6) p2) fun x10 => (Option.bind (shG (un 1#64)) fun nn11 => ((rec1 (x10, a7 >>> nn11, x9))))) else Option.bind (remU (a6 * a6) p2) fun x12 => (Option.bind (shG (un 1#64)) fun nn13 => ((rec1 (x12, a7 >>> nn13, a8))))) else (some a8))
/-- headend/number.power -/
def number_power (p0 : BitVec 64) (p1 : BitVec 64) (p2 : BitVec 64) : Option (BitVec 64) := Option.bind (remU 1#64 p2) fun x1 => (Option.bind (remU p0 p2) fun x2 => ((fixN (number_power_L1 p2) FUEL (x2, p1, x1))))
def number_CheckGroup_J1 (a1 : Bool) : Option (Int) := (bif a1 then (some 13) else (some 0))
/-- headend/number.CheckGroup -/
def number_CheckGroup (p0 : TGroup) : Option (Int) := Option.bind (number_prime p0.P) fun x2 => ((bif (!x2) then (number_CheckGroup_J1 true) else Option.bind (number_prime p0.Q) fun x3 => ((bif (!x3) then (number_CheckGroup_J1 true) else Option.bind (remU (p0.P - 1#64) p0.Q) fun x4 => ((if x4 ≠ 0#64 then (number_CheckGroup_J1 true) else (if p0.G < 2#64 then (number_CheckGroup_J1 true) else (if p0.P ≤ p0.G then (number_CheckGroup_J1 true) else Option.bind (number_power p0.G p0.Q p0.P) fun x5 => ((number_CheckGroup_J1 (decide (x5 ≠ 1#64))))))))))))
/-- headend/poly.valid -/
def poly_valid (p0 : TScheme) : Option (Bool) := (if p0.Kind = 4#8 then (if (0 : Int) ≤ p0.Depth then (if p0.Depth ≤ 6 then (if (1 : Int) ≤ p0.Degree then (if p0.Degree ≤ 8 then Option.bind (number_CheckGroup p0.Group) fun x1 => ((if x1 = 0 then Option.bind (shG p0.Depth) fun nn2 => ((some (decide (wd (w64 ((shlI 1 nn2) + p0.Degree)) < p0.Group.Q)))) else (some false))) else (some false)) else (some false)) else (some false)) else (some false)) else (some false))
/-- headend/poly.Check -/
def poly_Check (p0 : TScheme) : Option (Int) := Option.bind (poly_valid p0) fun x1 => ((bif (!x1) then (some 30) else (some 0)))
/-- (headend/cover.tree).size -/
def cover_tree_size (p0 : Tcover_tree) : Option (Int) := Option.bind (shG p0.depth) fun nn1 => ((some (shlI 1 nn1)))
/-- (headend/cover.tree).has -/
def cover_tree_has (p0 : Tcover_tree) (p1 : Int) : Option (Bool) := (if (1 : Int) ≤ p1 then Option.bind (cover_tree_size p0) fun x1 => ((some (decide (p1 < w64 (2 * x1))))) else (some false))
/-- (headend/cover.node).level -/
def cover_node_level (p0 : Int) : Option (Int) := (some (w64 ((lg (un (wd p0))) - 1)))
def cover_node_below_J1 (p0 : Int) (p1 : Int) (a1 : Bool) : Option (Bool) := (bif a1 then (some false) else Option.bind (cover_node_level p0) fun x2 => (Option.bind (cover_node_level p1) fun x3 => (Option.bind (shG (w64 (x2 - x3))) fun nn4 => ((some (decide (shrI p0 nn4 = p1)))))))
/-- (headend/cover.node).below -/
def cover_node_below (p0 : Int) (p1 : Int) : Option (Bool) := (if p0 < 1 then (cover_node_below_J1 p0 p1 true) else (if p1 < 1 then (cover_node_below_J1 p0 p1 true) else Option.bind (cover_node_level p0) fun x5 => (Option.bind (cover_node_level p1) fun x6 => ((cover_node_below_J1 p0 p1 (decide (x5 < x6)))))))
/-- (headend/cover.tree).special -/
def cover_tree_special (p0 : Tcover_tree) (p1 : Int) : Option (Bool) := Option.bind (cover_node_level p1) fun x1 => (Option.bind (remI x1 p0.stride) fun x2 => ((some (decide (x2 = 0)))))
/-- headend/cover.path -/
def cover_path (p0 : Int) (p1 : Int) : Option (Int × Int) := (some (p0, p1))
/-- (headend/cover.node).toward -/
def cover_node_toward (p0 : Int) (p1 : Int) : Option (Int) := Option.bind (cover_node_level p1) fun x1 => (Option.bind (cover_node_level p0) fun x2 => (Option.bind (shG (w64 ((w64 (x1 - x2)) - 1))) fun nn3 => ((some (shrI p1 nn3)))))
def cover_path_1_L1 (p2 : Int) (rec1 : (Int) → Option (List Int)) (a2 : Int) : Option (List Int) := (if a2 ≠ p2 then Option.bind (cover_node_toward a2 p2) fun x3 => ((yl x3 ((rec1 x3)))) else (some []))
/-- headend/cover.path$1: what it yields -/
def cover_path_1 (p1 : Int) (p2 : Int) : Option (List Int) := (fixN (cover_path_1_L1 p2) FUEL p1)
def cover_first_cover_path_1_cover_tree_special_D1  (s : Int) : Option (Int) := match s with | a3 => (some 0)
def cover_first_cover_path_1_cover_tree_special_X1_0  (s : Int) : Option (Int) := match s with | a3 => (some a3)
def cover_first_cover_path_1_cover_tree_special_R1 (p1_0 : Tcover_tree) (e4 : Int) (nx1 : (Int) → Option (Int)) (s : Int) : Option (Int) := match s with | a3 => Option.bind (cover_tree_special p1_0 e4) fun x5 => ((bif x5 then (cover_first_cover_path_1_cover_tree_special_X1_0 e4) else (nx1 a3)))
/-- headend/cover.first -/
def cover_first_cover_path_1_cover_tree_special (p0_0 : Int) (p0_1 : Int) (p1_0 : Tcover_tree) : Option (Int) := Option.bind (cover_path_1 p0_0 p0_1) fun l1 => ((itL (cover_first_cover_path_1_cover_tree_special_R1 p1_0) cover_first_cover_path_1_cover_tree_special_D1 l1 0))
/-- (headend/cover.tree).cut -/
def cover_tree_cut (p0 : Tcover_tree) (p1 : Int) (p2 : Int) : Option (Int) := Option.bind (shG (un 1#64)) fun nn1 => (Option.bind (cover_path p1 (shrI p2 nn1)) fun x2 => (Option.bind (cover_first_cover_path_1_cover_tree_special x2.1 x2.2 p0) fun x3 => ((some x3))))
def cover_tree_subset_J2 (p0 : Tcover_tree) (p1 : TSubset) (a3 : Bool) : Option (Bool) := (bif a3 then (some false) else (if p0.kind = 2#8 then (some true) else Option.bind (cover_tree_special p0 p1.Node) fun x4 => ((bif x4 then (some true) else Option.bind (cover_tree_cut p0 p1.Node p1.Minus) fun x5 => ((some (decide (x5 = 0))))))))
def cover_tree_subset_J1 (p0 : Tcover_tree) (p1 : TSubset) (a2 : Bool) : Option (Bool) := (bif a2 then (if p1.Minus = 0 then (if p0.kind = 1#8 then (some true) else (some (decide (p1.Node = 1)))) else (some false)) else Option.bind (cover_tree_has p0 p1.Minus) fun x6 => ((bif (!x6) then (cover_tree_subset_J2 p0 p1 true) else (if p1.Minus = p1.Node then (cover_tree_subset_J2 p0 p1 true) else Option.bind (cover_node_below p1.Minus p1.Node) fun x7 => ((cover_tree_subset_J2 p0 p1 (!x7)))))))
/-- (headend/cover.tree).subset -/
def cover_tree_subset (p0 : Tcover_tree) (p1 : TSubset) : Option (Bool) := Option.bind (cover_tree_has p0 p1.Node) fun x1 => ((bif (!x1) then (some false) else (if p0.kind = 1#8 then (cover_tree_subset_J1 p0 p1 true) else (cover_tree_subset_J1 p0 p1 (decide (p1.Minus = 0))))))
def cover_enter_L1 (p1 : List TSubset) (x1 : Tcover_tree × Bool) (rec1 : (Int) → Option (Tcover_tree × Int)) (a3 : Int) : Option (Tcover_tree × Int) := (if a3 < (p1.length : Int) then Option.bind (getI p1 a3) fun y4 => (Option.bind (cover_tree_subset x1.1 y4) fun x5 => ((bif (!x5) then (some ((Tcover_tree.mk 0#8 0 0), 31)) else (rec1 (w64 (a3 + 1)))))) else (some (x1.1, 0)))
/-- headend/cover.enter -/
def cover_enter (p0 : TScheme) (p1 : List TSubset) : Option (Tcover_tree × Int) := Option.bind (cover_treeOf p0) fun x1 => ((bif (!x1.2) then (some ((Tcover_tree.mk 0#8 0 0), 30)) else (fixN (cover_enter_L1 p1 x1) FUEL 0)))
/-- (headend/cover.tree).labels -/
def cover_tree_labels (p0 : Tcover_tree) (p1 : Int) : Option (Tcover_tree × Int) := (some (p0, p1))
/-- (headend/cover.tree).leaf -/
def cover_tree_leaf (p0 : Tcover_tree) (p1 : Int) : Option (Int) := Option.bind (cover_tree_size p0) fun x1 => ((some (w64 (x1 + p1))))
/-- (headend/cover.node).sibling -/
def cover_node_sibling (p0 : Int) : Option (Int) := (some (bitI .xor p0 1))
def cover_tree_labels_1_D2 (x1 : Int) (a2 : Int) (rec1 : (Int) → Option (List (Int × Int))) (s : Unit) : Option (List (Int × Int)) := Option.bind (cover_node_toward a2 x1) fun x10 => ((rec1 x10))
def cover_tree_labels_1_R2 (p1 : Tcover_tree) (a2 : Int) (e7 : Int) (nx2 : Unit → Option (List (Int × Int))) (s : Unit) : Option (List (Int × Int)) := Option.bind (cover_node_sibling e7) fun x8 => (Option.bind (cover_tree_subset p1 (TSubset.mk a2 x8)) fun x9 => ((bif x9 then (yl (a2, x8) ((nx2 ()))) else (nx2 ()))))
def cover_tree_labels_1_L1 (p1 : Tcover_tree) (x1 : Int) (rec1 : (Int) → Option (List (Int × Int))) (a2 : Int) : Option (List (Int × Int)) := (if a2 ≠ x1 then (if p1.kind = 1#8 then Option.bind (cover_node_toward a2 x1) fun x3 => ((yl (x3, 0) (Option.bind (cover_node_toward a2 x1) fun x4 => ((rec1 x4))))) else Option.bind (cover_path a2 x1) fun x5 => (Option.bind (cover_path_1 x5.1 x5.2) fun l6 => ((itL (cover_tree_labels_1_R2 p1 a2) (cover_tree_labels_1_D2 x1 a2 rec1) l6 ())))) else (some []))
/-- (headend/cover.tree).labels$1: what it yields -/
def cover_tree_labels_1 (p1 : Tcover_tree) (p2 : Int) : Option (List (Int × Int)) := Option.bind (cover_tree_leaf p1 p2) fun x1 => ((yl (1, 0) ((fixN (cover_tree_labels_1_L1 p1 x1) FUEL 1))))
def cover_Storage_D1  (s : Int) : Option (Int × Int) := match s with | a5 => (some (a5, 0))
def cover_Storage_R1  (ee : Int × Int) (nx1 : (Int) → Option (Int × Int)) (s : Int) : Option (Int × Int) := match ee with | (e6, e7) => match s with | a5 => (nx1 (w64 (a5 + 1)))
/-- headend/cover.Storage -/
def cover_Storage (p0 : TScheme) : Option (Int × Int) := Option.bind (cover_enter p0 ([] : List TSubset)) fun x1 => ((if x1.2 ≠ 0 then (some (0, x1.2)) else Option.bind (cover_tree_labels x1.1 0) fun x2 => (Option.bind (cover_tree_labels_1 x2.1 x2.2) fun l3 => ((itL cover_Storage_R1 cover_Storage_D1 l3 0)))))
def plan_Choose_J1 (p0 : TNeed) (p1 : BitVec 8) (a2 : Int) (a3 : Int) (a4 : Int) (a5 : List Int) : Option (TChoice × Int) := Option.bind (shG p0.Depth) fun nn7 => ((some ((TChoice.mk p1 (decide (a4 ≤ p0.Storage)) a2 a3 (w64 ((w64 (67 + (w64 (18 * a2)))) + (w64 (16 * a3)))) a4 (w64 ((w64 ((w64 (p0.Headers * p0.HeaderPrice)) * (w64 ((w64 (67 + (w64 (18 * a2)))) + (w64 (16 * a3)))))) + (shlI (w64 (p0.StoragePrice * a4)) nn7))) a5), 0)))
def plan_Choose_J2 (p0 : TNeed) (p1 : BitVec 8) (a8 : Bool) : Option (TChoice × Int) := (bif a8 then (some ((TChoice.mk 0#8 false 0 0 0 0 0 []), 2)) else (if p1 = 4#8 then Option.bind (poly_Check (TScheme.mk p1 p0.Depth (mxI p0.Revoked 1) p0.Group)) fun x9 => ((if x9 ≠ 0 then (some ((TChoice.mk p1 false 0 0 0 0 0 []), 0)) else (plan_Choose_J1 p0 p1 0 (mxI p0.Revoked 1) 8 []))) else Option.bind (plan_newTables (TScheme.mk p1 p0.Depth 0 (TGroup.mk 0#64 0#64 0#64))) fun x10 => (Option.bind (cover_Storage (TScheme.mk p1 p0.Depth 0 (TGroup.mk 0#64 0#64 0#64))) fun x11 => (Option.bind (plan_tables_worst x10 p0.Revoked) fun x12 => (Option.bind (plan_tables_list x10 ([] : List Int) 1 0 p0.Depth x12.2) fun x13 => ((plan_Choose_J1 p0 p1 x12.1 0 (w64 (16 * x11.1)) x13)))))))
/-- headend/plan.Choose -/
def plan_Choose (p0 : TNeed) (p1 : BitVec 8) : Option (TChoice × Int) := Option.bind (plan_CheckNeed p0) fun x1 => ((if x1 ≠ 0 then (some ((TChoice.mk 0#8 false 0 0 0 0 0 []), x1)) else (if p1 < 1#8 then (plan_Choose_J2 p0 p1 true) else (plan_Choose_J2 p0 p1 (decide (4#8 < p1))))))
def plan_Make_J2 (a5 : BitVec 8) (a7 : BitVec 8) (rec1 : (BitVec 8 × List TChoice × BitVec 8) → Option (TPlan × Int)) (l10 : List TChoice) (a11 : Bool) : Option (TPlan × Int) := (bif a11 then (rec1 (a5 + 1#8, l10, a5)) else (rec1 (a5 + 1#8, l10, a7)))
def plan_Make_L1 (p0 : TNeed) (rec1 : (BitVec 8 × List TChoice × BitVec 8) → Option (TPlan × Int)) (s1 : BitVec 8 × List TChoice × BitVec 8) : Option (TPlan × Int) := match s1 with | (a5, a6, a7) => (if a5 ≤ 4#8 then Option.bind (plan_Choose p0 a5) fun x9 => ((if x9.2 ≠ 0 then (some ((TPlan.mk [] 0#8), x9.2)) else Option.bind (appG 72 a6 [x9.1]) fun l10 => ((bif x9.1.Fits then (if a7 = 0#8 then (plan_Make_J2 a5 a7 rec1 l10 true) else Option.bind (getI l10 (un8 (a7 - 1#8))) fun y12 => ((plan_Make_J2 a5 a7 rec1 l10 (decide (x9.1.Cost < y12.Cost))))) else (plan_Make_J2 a5 a7 rec1 l10 false))))) else (some ((TPlan.mk a6 a7), 0)))
/-- headend/plan.Make -/
def plan_Make (p0 : TNeed) : Option (TPlan × Int) := (fixN (plan_Make_L1 p0) FUEL (1#8, [], 0#8))
end Go.Sx

end
section
set_option linter.unusedVariables false
set_option maxRecDepth 100000
namespace Go.Sx
open Go Go.RowKit
def ref03_SameInts_L1 (p0 : List Int) (p1 : List Int) (rec1 : (Int) → Option (Bool)) (a2 : Int) : Option (Bool) := (if a2 < (p0.length : Int) then Option.bind (getI p0 a2) fun y3 => (Option.bind (getI p1 a2) fun y4 => ((if y3 ≠ y4 then (some false) else (rec1 (w64 (a2 + 1)))))) else (some true))
/-- headend/headendref03.SameInts -/
def ref03_SameInts (p0 : List Int) (p1 : List Int) : Option (Bool) := (if (p0.length : Int) ≠ (p1.length : Int) then (some false) else (fixN (ref03_SameInts_L1 p0 p1) FUEL 0))
/-- headend/headendref10.SameNumbers -/
def ref10_SameNumbers (p0 : TChoice) (p1 : TChoice) : Option (Bool) := (if p0.Kind = p1.Kind then (bif (p0.Fits == p1.Fits) then (if p0.Items = p1.Items then (if p0.Points = p1.Points then (if p0.Header = p1.Header then (if p0.Storage = p1.Storage then (some (decide (p0.Cost = p1.Cost))) else (some false)) else (some false)) else (some false)) else (some false)) else (some false)) else (some false))
/-- headend/headendref10.SameChoice -/
def ref10_SameChoice (p0 : TChoice) (p1 : TChoice) : Option (Bool) := Option.bind (ref10_SameNumbers p0 p1) fun x1 => ((bif x1 then Option.bind (ref03_SameInts p0.Witness p1.Witness) fun x2 => ((some x2)) else (some false)))
end Go.Sx

end
section
set_option linter.unusedVariables false
set_option maxRecDepth 100000
namespace Go.Sx
open Go Go.RowKit
/-- headend/headendlaw10.tree -/
def law10_tree (p0 : BitVec 8) (p1 : Int) : Option (TScheme) := (some (TScheme.mk p0 p1 0 (TGroup.mk 0#64 0#64 0#64)))
/-- headend/headendlaw10.small -/
def law10_small  : Option (TNeed) := (some (TNeed.mk 2 1 48 10 1 2 (TGroup.mk 0#64 0#64 0#64)))
def law10_worsts_J2 (a2 : Int) (rec1 : (Int) → Option (Bool)) (a4 : Bool) : Option (Bool) := (bif a4 then (some false) else (rec1 (w64 (a2 + 1))))
def law10_worsts_L1 (p0 : TScheme) (p1 : List Int) (rec1 : (Int) → Option (Bool)) (a2 : Int) : Option (Bool) := (if a2 < (p1.length : Int) then Option.bind (plan_Worst p0 a2) fun x3 => ((if x3.2 ≠ 0 then (law10_worsts_J2 a2 rec1 true) else Option.bind (getI p1 a2) fun y5 => ((law10_worsts_J2 a2 rec1 (decide (x3.1 ≠ y5)))))) else (some true))
/-- headend/headendlaw10.worsts -/
def law10_worsts (p0 : TScheme) (p1 : List Int) : Option (Bool) := (fixN (law10_worsts_L1 p0 p1) FUEL 0)
def law10_alive_J1 (x6 : TChoice × Int) (x8 : TPlan × Int) (a9 : Bool) : Option (Bool) := (bif a9 then (some false) else Option.bind (law10_tree 1#8 2) fun x10 => (Option.bind (law10_worsts x10 [1, 2, 2, 2, 2]) fun x11 => ((bif x11 then Option.bind (law10_tree 2#8 2) fun x12 => (Option.bind (law10_worsts x12 [1, 1, 2, 2, 2]) fun x13 => ((bif x13 then Option.bind (ref10_SameChoice x6.1 (TChoice.mk 1#8 true 2 0 103 48 1414 [3])) fun x14 => ((bif x14 then (if x8.1.Best = 1#8 then (some (decide ((x8.1.Choices.length : Int) = 4))) else (some false)) else (some false))) else (some false)))) else (some false)))))
/-- headend/headendlaw10.alive -/
def law10_alive  : Option (Bool) := Option.bind (law10_tree 1#8 2) fun x1 => (Option.bind (plan_Witness x1 2) fun x2 => (Option.bind (law10_tree 2#8 2) fun x3 => (Option.bind (plan_Witness x3 2) fun x4 => (Option.bind (law10_small) fun x5 => (Option.bind (plan_Choose x5 1#8) fun x6 => (Option.bind (law10_small) fun x7 => (Option.bind (plan_Make x7) fun x8 => ((if x2.2 ≠ 0 then (law10_alive_J1 x6 x8 true) else (if x4.2 ≠ 0 then (law10_alive_J1 x6 x8 true) else (if x6.2 ≠ 0 then (law10_alive_J1 x6 x8 true) else (if x8.2 ≠ 0 then (law10_alive_J1 x6 x8 true) else Option.bind (ref03_SameInts x2.1 [3]) fun x15 => ((bif (!x15) then (law10_alive_J1 x6 x8 true) else Option.bind (ref03_SameInts x4.1 [1, 3]) fun x16 => ((law10_alive_J1 x6 x8 (!x16)))))))))))))))))
end Go.Sx

end
section
set_option linter.unusedVariables false
set_option maxRecDepth 100000
namespace Go.Sx
open Go Go.RowKit
noncomputable section
/-- (headend/cover.tree).receiver -/
def cover_tree_receiver (p0 : Tcover_tree) (p1 : Int) : Option (Bool) := (if (0 : Int) ≤ p1 then Option.bind (cover_tree_size p0) fun x1 => ((some (decide (p1 < x1)))) else (some false))
def cover_tree_list_J2 (a2 : Int) (rec1 : (Int) → Option (Bool)) (a4 : Bool) : Option (Bool) := (bif a4 then (some false) else (rec1 (w64 (a2 + 1))))
def cover_tree_list_L1 (p0 : Tcover_tree) (p1 : List Int) (rec1 : (Int) → Option (Bool)) (a2 : Int) : Option (Bool) := (if a2 < (p1.length : Int) then Option.bind (getI p1 a2) fun y3 => (Option.bind (cover_tree_receiver p0 y3) fun x5 => ((bif (!x5) then (cover_tree_list_J2 a2 rec1 true) else (if (0 : Int) < a2 then Option.bind (getI p1 (w64 (a2 - 1))) fun y6 => ((cover_tree_list_J2 a2 rec1 (decide (y3 ≤ y6)))) else (cover_tree_list_J2 a2 rec1 false))))) else (some true))
/-- (headend/cover.tree).list -/
def cover_tree_list (p0 : Tcover_tree) (p1 : List Int) : Option (Bool) := (fixN (cover_tree_list_L1 p0 p1) FUEL 0)
/-- headend/cover.Cover$1 -/
def cover_Cover_1 (p0 : Int) (p1 : Int) (p2 : List TSubset) : Option (List TSubset) := Option.bind (appG 16 p2 [(TSubset.mk p0 p1)]) fun l1 => ((some l1))
def cover_Cover_L2 (a5 : Int) (rec1 : (Int × List Int) → Option (List TSubset × Int)) (rec2 : (Int × List Int) → Option (List TSubset × Int)) (s2 : Int × List Int) : Option (List TSubset × Int) := match s2 with | (a11, a12) => (if (0 : Int) < a11 then Option.bind (shG (un 1#64)) fun nn13 => ((rec2 (shrI a11 nn13, insS a12 a11))) else (rec1 (w64 (a5 + 1), a12)))
def cover_Cover_J4 (a16 : List TSubset) (nx3 : (List TSubset) → Option (List TSubset × Int)) (k18 : Int) (a20 : Bool) : Option (List TSubset × Int) := (bif a20 then Option.bind (cover_node_sibling k18) fun x21 => (Option.bind (cover_Cover_1 x21 0 a16) fun x22 => ((nx3 x22))) else (nx3 a16))
def cover_Cover_J7 (nx3 : (List TSubset) → Option (List TSubset × Int)) (a26 : Int) (a27 : Int) (a28 : List TSubset) : Option (List TSubset × Int) := Option.bind (cover_Cover_1 a27 a26 a28) fun x30 => ((nx3 x30))
def cover_Cover_J8 (a16 : List TSubset) (nx3 : (List TSubset) → Option (List TSubset × Int)) (k18 : Int) (a26 : Int) (x31 : Int) (a32 : Bool) : Option (List TSubset × Int) := (bif a32 then Option.bind (cover_Cover_1 k18 x31 a16) fun x33 => ((cover_Cover_J7 nx3 a26 x31 x33)) else (cover_Cover_J7 nx3 a26 k18 a16))
def cover_Cover_L6 (x1 : Tcover_tree × Int) (a6 : List Int) (a16 : List TSubset) (nx3 : (List TSubset) → Option (List TSubset × Int)) (k18 : Int) (rec6 : (Int) → Option (List TSubset × Int)) (a26 : Int) : Option (List TSubset × Int) := (bif ((decide ((w64 (2 * a26)) ∈ a6)) != (decide ((w64 ((w64 (2 * a26)) + 1)) ∈ a6))) then (if ¬ ((w64 (a26 * 2)) ∈ a6) then (rec6 (w64 ((w64 (a26 * 2)) + 1))) else (rec6 (w64 (a26 * 2)))) else (if a26 = k18 then (nx3 a16) else Option.bind (cover_tree_cut x1.1 k18 a26) fun x31 => ((if x31 ≠ 0 then (if x1.1.kind = 3#8 then Option.bind (cover_tree_special x1.1 k18) fun x34 => ((cover_Cover_J8 a16 nx3 k18 a26 x31 (!x34))) else (cover_Cover_J8 a16 nx3 k18 a26 x31 false)) else (cover_Cover_J8 a16 nx3 k18 a26 x31 false)))))
def cover_Cover_J5 (x1 : Tcover_tree × Int) (a6 : List Int) (a16 : List TSubset) (nx3 : (List TSubset) → Option (List TSubset × Int)) (k18 : Int) (a24 : Bool) : Option (List TSubset × Int) := (bif a24 then (nx3 a16) else (fixN (cover_Cover_L6 x1 a6 a16 nx3 k18) FUEL k18))
def cover_Cover_E3  (a16 : List TSubset) : Option (List TSubset × Int) := Option.bind (srtBy TSubset.Node a16) fun l19 => ((some (l19, 0)))
def cover_Cover_S3 (x1 : Tcover_tree × Int) (a6 : List Int) (k18 : Int) (nx3 : (List TSubset) → Option (List TSubset × Int)) (a16 : List TSubset) : Option (List TSubset × Int) := (if x1.1.kind = 1#8 then (if (1 : Int) < k18 then Option.bind (cover_node_sibling k18) fun x23 => ((cover_Cover_J4 a16 nx3 k18 (decide (¬ (x23 ∈ a6))))) else (cover_Cover_J4 a16 nx3 k18 false)) else (if (1 : Int) < k18 then Option.bind (cover_node_sibling k18) fun x35 => ((cover_Cover_J5 x1 a6 a16 nx3 k18 (decide (¬ (x35 ∈ a6))))) else (cover_Cover_J5 x1 a6 a16 nx3 k18 false)))
def cover_Cover_L1 (p1 : List Int) (x1 : Tcover_tree × Int) (rec1 : (Int × List Int) → Option (List TSubset × Int)) (s1 : Int × List Int) : Option (List TSubset × Int) := match s1 with | (a5, a6) => (if a5 < (p1.length : Int) then Option.bind (getI p1 a5) fun y7 => (Option.bind (cover_tree_leaf x1.1 y7) fun x8 => ((fixN (cover_Cover_L2 a5 rec1) FUEL (x8, a6)))) else (rngM (cover_Cover_S3 x1 a6) cover_Cover_E3 FUEL a6 []))
/-- headend/cover.Cover -/
def cover_Cover (p0 : TScheme) (p1 : List Int) : Option (List TSubset × Int) := Option.bind (cover_enter p0 ([] : List TSubset)) fun x1 => ((if x1.2 ≠ 0 then (some ([], x1.2)) else Option.bind (cover_tree_list x1.1 p1) fun x2 => ((bif (!x2) then (some ([], 2)) else (if (p1.length : Int) = 0 then (some ([(TSubset.mk 1 0)], 0)) else (fixN (cover_Cover_L1 p1 x1) FUEL (0, [])))))))
end
end Go.Sx

end
section
set_option linter.unusedVariables false
set_option maxRecDepth 100000
namespace Go.Sx
open Go Go.RowKit
noncomputable section
structure TA5_i64 where
  a0 : Int
  a1 : Int
  a2 : Int
  a3 : Int
  a4 : Int
deriving DecidableEq, Inhabited
def TA5_i64.cs (x : TA5_i64)  : List Value := [.int .i64 x.a0, .int .i64 x.a1, .int .i64 x.a2, .int .i64 x.a3, .int .i64 x.a4]
theorem TA5_i64.cs_ones (x : TA5_i64)   : ones (TA5_i64.cs x ) = true := by simp only [TA5_i64.cs, List.cons_append, List.nil_append, kb, ones, one_int, one_bool, one_str, cond_true]
theorem TA5_i64.cs_inj {x y : TA5_i64} (h : TA5_i64.cs x = TA5_i64.cs y) : x = y := by
  have h0 : x.a0 = y.a0 := ci_inj (congrArg (fun l => l[0]?) h)
  have h1 : x.a1 = y.a1 := ci_inj (congrArg (fun l => l[1]?) h)
  have h2 : x.a2 = y.a2 := ci_inj (congrArg (fun l => l[2]?) h)
  have h3 : x.a3 = y.a3 := ci_inj (congrArg (fun l => l[3]?) h)
  have h4 : x.a4 = y.a4 := ci_inj (congrArg (fun l => l[4]?) h)
  cases x; cases y; simp only at *; subst h0; subst h1; subst h2; subst h3; subst h4; rfl
theorem TA5_i64.ws (l : List TA5_i64) : Ws 5 (l.map TA5_i64.cs) := ws_map l (fun _ => rfl) (fun _ => rfl)
def plan_agrees_J2 (p0 : TNeed) (p1 : TChoice) (a1 : Bool) (a2 : Bool) : Option (Bool) := (bif a2 then (bif a1 then (some (decide ((p1.Witness.length : Int) = 0))) else (some false)) else Option.bind (cover_Cover (TScheme.mk p1.Kind p0.Depth 0 (TGroup.mk 0#64 0#64 0#64)) p1.Witness) fun x3 => ((if x3.2 = 0 then (if (p1.Witness.length : Int) ≤ p0.Revoked then (some (decide ((x3.1.length : Int) = p1.Items))) else (some false)) else (some false))))
def plan_agrees_J1 (p0 : TNeed) (p1 : TChoice) (a1 : Bool) : Option (Bool) := (bif (!a1) then (plan_agrees_J2 p0 p1 a1 true) else (plan_agrees_J2 p0 p1 a1 (decide (p1.Kind = 4#8))))
/-- headend/plan.agrees -/
def plan_agrees (p0 : TNeed) (p1 : TChoice) (p2 : TChoice) : Option (Bool) := (if p1.Kind = p2.Kind then (bif (p1.Fits == p2.Fits) then (plan_agrees_J1 p0 p1 (decide ((TA5_i64.mk p1.Items p1.Points p1.Header p1.Storage p1.Cost) = (TA5_i64.mk p2.Items p2.Points p2.Header p2.Storage p2.Cost)))) else (plan_agrees_J1 p0 p1 false)) else (plan_agrees_J1 p0 p1 false))
/-- headend/plan.Check$1 -/
def plan_Check_1 (p0 : TChoice) (p1 : TChoice) (p2 : TNeed) : Option (Bool) := Option.bind (plan_agrees p2 p0 p1) fun x1 => ((some x1))
def slices_EqualFunc_ff82_plan_Check_1_L1 (p0 : List TChoice) (p1 : List TChoice) (p2_0 : TNeed) (rec1 : (Int) → Option (Bool)) (a2 : Int) : Option (Bool) := (if a2 < (p0.length : Int) then Option.bind (getI p0 a2) fun y3 => (Option.bind (getI p1 a2) fun y4 => (Option.bind (plan_Check_1 y3 y4 p2_0) fun x5 => ((bif (!x5) then (some false) else (rec1 (w64 (a2 + 1))))))) else (some true))
/-- slices.EqualFunc[[]headend/api.Choice,[]headend/api.Choice,headend/api.Choice,headend/api.Choice] -/
def slices_EqualFunc_ff82_plan_Check_1 (p0 : List TChoice) (p1 : List TChoice) (p2_0 : TNeed) : Option (Bool) := (if (p0.length : Int) ≠ (p1.length : Int) then (some false) else (fixN (slices_EqualFunc_ff82_plan_Check_1_L1 p0 p1 p2_0) FUEL 0))
def plan_Check_J1 (a2 : Bool) : Option (Int) := (bif a2 then (some 100) else (some 0))
/-- headend/plan.Check -/
def plan_Check (p0 : TNeed) (p1 : TPlan) : Option (Int) := Option.bind (plan_Make p0) fun x1 => ((if x1.2 ≠ 0 then (some x1.2) else (if p1.Best ≠ x1.1.Best then (plan_Check_J1 true) else Option.bind (slices_EqualFunc_ff82_plan_Check_1 p1.Choices x1.1.Choices p0) fun x3 => ((plan_Check_J1 (!x3))))))
end
end Go.Sx

end
section
set_option linter.unusedVariables false
set_option maxRecDepth 100000
namespace Go.Sx
open Go Go.RowKit
noncomputable section
/-- slices.Clone[[]int,int] -/
def slices_Clone_8a9f (p0 : List Int) : Option (List Int) := Option.bind (appG 8 [] p0) fun l1 => ((some l1))
def plan_Tables_L2 (p0 : TScheme) (x2 : Tplan_tables) (a6 : List (List (List Int))) (a8 : Int) (rec1 : (List (List (List Int)) × Int) → Option (List (List (List Int)) × Int)) (rec2 : (List (List Int) × Int) → Option (List (List (List Int)) × Int)) (s2 : List (List Int) × Int) : Option (List (List (List Int)) × Int) := match s2 with | (a12, a14) => (if a14 < w64 (p0.Depth + 1) then Option.bind (plan_tables_at x2 a8 a14) fun x15 => (Option.bind (slices_Clone_8a9f x15) fun x16 => (Option.bind (appG 24 a12 [x16]) fun l17 => ((rec2 (l17, w64 (a14 + 1)))))) else Option.bind (appG 24 a6 [a12]) fun l18 => ((rec1 (l18, w64 (a8 + 1)))))
def plan_Tables_L1 (p0 : TScheme) (x2 : Tplan_tables) (rec1 : (List (List (List Int)) × Int) → Option (List (List (List Int)) × Int)) (s1 : List (List (List Int)) × Int) : Option (List (List (List Int)) × Int) := match s1 with | (a6, a8) => (if a8 < x2.states then (fixN (plan_Tables_L2 p0 x2 a6 a8 rec1) FUEL ([], 0)) else (some (a6, 0)))
/-- headend/plan.Tables -/
def plan_Tables (p0 : TScheme) : Option (List (List (List Int)) × Int) := Option.bind (cover_Check p0) fun x1 => ((if x1 ≠ 0 then (some ([], x1)) else Option.bind (plan_newTables p0) fun x2 => ((fixN (plan_Tables_L1 p0 x2) FUEL ([], 0)))))
def slices_Equal_dd32_L1 (p0 : List Int) (p1 : List Int) (rec1 : (Int) → Option (Bool)) (a2 : Int) : Option (Bool) := (if a2 < (p0.length : Int) then Option.bind (getI p0 a2) fun y3 => (Option.bind (getI p1 a2) fun y4 => ((if y3 ≠ y4 then (some false) else (rec1 (w64 (a2 + 1)))))) else (some true))
/-- slices.Equal[[]int,int] -/
def slices_Equal_dd32 (p0 : List Int) (p1 : List Int) : Option (Bool) := (if (p0.length : Int) ≠ (p1.length : Int) then (some false) else (fixN (slices_Equal_dd32_L1 p0 p1) FUEL 0))
def slices_EqualFunc_2be1_slices_Equal_dd32_L1 (p0 : List (List Int)) (p1 : List (List Int)) (rec1 : (Int) → Option (Bool)) (a2 : Int) : Option (Bool) := (if a2 < (p0.length : Int) then Option.bind (getI p0 a2) fun y3 => (Option.bind (getI p1 a2) fun y4 => (Option.bind (slices_Equal_dd32 y3 y4) fun x5 => ((bif (!x5) then (some false) else (rec1 (w64 (a2 + 1))))))) else (some true))
/-- slices.EqualFunc[[][]int,[][]int,[]int,[]int] -/
def slices_EqualFunc_2be1_slices_Equal_dd32 (p0 : List (List Int)) (p1 : List (List Int)) : Option (Bool) := (if (p0.length : Int) ≠ (p1.length : Int) then (some false) else (fixN (slices_EqualFunc_2be1_slices_Equal_dd32_L1 p0 p1) FUEL 0))
/-- headend/plan.CheckTables$1 -/
def plan_CheckTables_1 (p0 : List (List Int)) (p1 : List (List Int)) : Option (Bool) := Option.bind (slices_EqualFunc_2be1_slices_Equal_dd32 p0 p1) fun x1 => ((some x1))
def slices_EqualFunc_83f6_plan_CheckTables_1_L1 (p0 : List (List (List Int))) (p1 : List (List (List Int))) (rec1 : (Int) → Option (Bool)) (a2 : Int) : Option (Bool) := (if a2 < (p0.length : Int) then Option.bind (getI p0 a2) fun y3 => (Option.bind (getI p1 a2) fun y4 => (Option.bind (plan_CheckTables_1 y3 y4) fun x5 => ((bif (!x5) then (some false) else (rec1 (w64 (a2 + 1))))))) else (some true))
/-- slices.EqualFunc[[][][]int,[][][]int,[][]int,[][]int] -/
def slices_EqualFunc_83f6_plan_CheckTables_1 (p0 : List (List (List Int))) (p1 : List (List (List Int))) : Option (Bool) := (if (p0.length : Int) ≠ (p1.length : Int) then (some false) else (fixN (slices_EqualFunc_83f6_plan_CheckTables_1_L1 p0 p1) FUEL 0))
/-- headend/plan.CheckTables -/
def plan_CheckTables (p0 : TScheme) (p1 : List (List (List Int))) : Option (Int) := Option.bind (plan_Tables p0) fun x1 => ((if x1.2 ≠ 0 then (some x1.2) else Option.bind (slices_EqualFunc_83f6_plan_CheckTables_1 x1.1 p1) fun x2 => ((bif (!x2) then (some 100) else (some 0)))))
end
end Go.Sx

end
section
set_option linter.unusedVariables false
set_option linter.unusedSimpArgs false
namespace Go.Sx
open Go Go.RowKit
theorem bt_and {a b : Bool} (ha : a = true) (hb : b = true) : (a && b) = true := by rw [ha, hb]; rfl
theorem ok_int {P : Program} {W : World} {r : Reach} {base : Nat} {t : TypeId} {v : Value} {k : IntKind} (hu : P.underlying t = some (.int k)) (h : Cell.okWide P W r base t v) : ∃ n, v = .int k n ∧ k.has n := by
  simp only [Cell.okWide, hu, Cell.ok] at h
  split at h <;> try (exact h.elim)
  all_goals first | (obtain ⟨rfl, h⟩ := h; rename_i e; cases e; exact ⟨_, rfl, h⟩) | simp_all
theorem ok_i64 {P : Program} {W : World} {r : Reach} {base : Nat} {t : TypeId} {v : Value} (hu : P.underlying t = some (.int .i64)) (h : Cell.okWide P W r base t v) : ∃ n : Int, v = .int .i64 n ∧ -9223372036854775808 ≤ n ∧ n ≤ 9223372036854775807 := by
  obtain ⟨n, h1, h2⟩ := ok_int hu h
  simp only [IntKind.has, IntKind.min, IntKind.max, IntKind.bits, IntKind.signed] at h2
  exact ⟨n, h1, by simpa using h2.1, by simpa using h2.2⟩
theorem ok_u8 {P : Program} {W : World} {r : Reach} {base : Nat} {t : TypeId} {v : Value} (hu : P.underlying t = some (.int .u8)) (h : Cell.okWide P W r base t v) : ∃ n : Int, v = .int .u8 n ∧ 0 ≤ n ∧ n ≤ 255 := by
  obtain ⟨n, h1, h2⟩ := ok_int hu h
  simp only [IntKind.has, IntKind.min, IntKind.max, IntKind.bits, IntKind.signed] at h2
  exact ⟨n, h1, by simpa using h2.1, by simpa using h2.2⟩
end Go.Sx

end
section
set_option linter.unusedVariables false
set_option linter.unusedSimpArgs false
namespace Go.Sx
open Go Go.RowKit
def I64 (n : Int) : Prop := -9223372036854775808 ≤ n ∧ n ≤ 9223372036854775807
section
variable {H : Type} {enc : TypeId × Value → H} {P : Program} {W : World} {fuel : Nat} {t e : TypeId} {cs : List Value} {x : DataW H × List MemPlace}
/-- what is read takes no more than the form's reach -/
def Sz (P : Program) (t : TypeId) (d : DataW H) : Prop := ∀ n ∈ d.weights P t, n ≤ reachBytes
abbrev Tr (enc : TypeId × Value → H) (P : Program) (W : World) (fuel : Nat) (t : TypeId) (cs : List Value) (x : DataW H × List MemPlace) : Prop := DataW.trod enc P W 0 (fun _ => true) true fuel t cs = some x
theorem op_i64 (hu : P.underlying t = some (.int .i64)) (h : Tr enc P W fuel t cs x) : ∃ n : Int, cs = [.int .i64 n] ∧ I64 n := by
  obtain ⟨n, rfl, _, hw⟩ := DataW.trod_int hu h
  simp [Lit.wf, IntKind.min, IntKind.max, IntKind.signed, IntKind.bits] at hw
  exact ⟨n, rfl, by unfold I64; omega⟩
theorem op_u64 (hu : P.underlying t = some (.int .u64)) (h : Tr enc P W fuel t cs x) : ∃ n : BitVec 64, cs = [wv n] := by
  obtain ⟨n, rfl, _, hw⟩ := DataW.trod_int hu h
  simp [Lit.wf, IntKind.min, IntKind.max, IntKind.signed, IntKind.bits] at hw
  refine ⟨wd n, ?_⟩
  show [Value.int .u64 n] = [Value.int .u64 (un (wd n))]
  rw [un_wd n (by omega) (by omega)]
theorem fld {fs : Array Field} {n : Nat} {xs : List (DataW H × List MemPlace)} (hf : ∀ (i : Nat) (f : Field), fs[i]? = some f → DataW.trod enc P W 0 (fun _ => true) true n f.type ((cs.drop f.offset).take (P.cellsOf f.type)) = xs[i]?) {i o k : Nat} {u : TypeId} {f : Field} {y : DataW H × List MemPlace}
    (hi : fs[i]? = some f) (h1 : f.type = u) (h2 : f.offset = o) (h3 : P.cellsOf u = k) (e : xs[i]? = some y) : Tr enc P W n u ((cs.drop o).take k) y := by
  subst h1; subst h2; subst h3
  exact (hf i f hi).trans e
theorem cat_step {cs a r : List Value} {o k : Nat} (h : (cs.drop o).take k = a) (hr : cs.drop (o + k) = r) : cs.drop o = a ++ r := by rw [← h, ← hr, ← List.drop_drop, List.take_append_drop]
theorem cat_end {cs : List Value} {n : Nat} (h : cs.length = n) : cs.drop n = [] := List.drop_eq_nil_of_le (by omega)
theorem some_at {α : Type} {xs : List α} {n i : Nat} (h : xs.length = n) (hi : Nat.blt i n = true) : ∃ y, xs[i]? = some y := ⟨xs[i]'(by rw [h]; exact Nat.le_of_ble_eq_true hi), by simp⟩
theorem cells_get {w : World} {a : Addr} {n : Nat} {cs : List Value} (h : w.cells? 0 a n = some cs) : cs.length = n ∧ ∀ q u, cs[q]? = some u → w.cell? (a.add q) = some u := by
  unfold World.cells? at h
  rw [if_pos (Nat.zero_le _)] at h
  have hl := mapM_some_length h
  rw [List.length_range] at hl
  refine ⟨hl, fun q u hq => ?_⟩
  have hqn : q < n := by rw [← hl]; exact (List.getElem?_eq_some_iff.1 hq).1
  have := mapM_some_get h q q (by simp [hqn])
  rw [this]; exact hq
/-! the arguments' own shapes -/
theorem okv_agg {r : Reach} {base : Nat} {v : Value} (hu : (∃ fs, P.underlying t = some (.struct fs)) ∨ ∃ n e, P.underlying t = some (.array n e)) (h : Value.okWide P W r base t v) : ∃ cs : List Value, v = .agg cs.toArray := by
  unfold Value.okWide at h
  split at h
  · obtain ⟨cs, rfl, _⟩ := h; exact ⟨cs.toList, rfl⟩
  · obtain ⟨cs, rfl, _⟩ := h; exact ⟨cs.toList, rfl⟩
  · rename_i h1 h2
    rcases hu with ⟨fs, hu⟩ | ⟨n, e, hu⟩
    · exact absurd hu (h1 fs)
    · exact absurd hu (h2 n e)
theorem okv_cell {r : Reach} {base : Nat} {v : Value} (h1 : ∀ fs, P.underlying t ≠ some (.struct fs)) (h2 : ∀ n e, P.underlying t ≠ some (.array n e)) (h : Value.okWide P W r base t v) : Cell.okWide P W r base t v := by
  unfold Value.okWide at h
  split at h
  · rename_i h3; exact absurd h3 (h1 _)
  · rename_i h3; exact absurd h3 (h2 _ _)
  · exact h
theorem okv_i64 {r : Reach} {base : Nat} {v : Value} (hu : P.underlying t = some (.int .i64)) (h : Value.okWide P W r base t v) : ∃ n : Int, v = .int .i64 n ∧ I64 n := ok_i64 hu (okv_cell (by simp [hu]) (by simp [hu]) h)
theorem okv_u8 {r : Reach} {base : Nat} {v : Value} (hu : P.underlying t = some (.int .u8)) (h : Value.okWide P W r base t v) : ∃ n : BitVec 8, v = bv n := by
  obtain ⟨n, rfl, h1, h2⟩ := ok_u8 hu (okv_cell (by simp [hu]) (by simp [hu]) h)
  refine ⟨wd8 n, ?_⟩
  have : un8 (wd8 n) = n := by unfold un8 wd8; rw [BitVec.toNat_ofInt]; omega
  show Value.int .u8 n = Value.int .u8 (un8 (wd8 n))
  rw [this]
theorem cells_agg (cs : List Value) : (Value.agg cs.toArray).cells.toList = cs := rfl
theorem cells_sl (a : Option Addr) (l c : Nat) : (Value.slice a l c).cells.toList = [.slice a l c] := rfl
/-- a slice -/
theorem op_sl {α : Type} {c : α → List Value} {ok : α → Prop} {sz bytes : Nat} (hu : P.underlying t = some (.slice e)) (hc : P.cellsOf e = sz) (hb : P.bytesOf e = bytes) (hpos : 1 ≤ sz) (hcs : ∀ a, (c a).length = sz ∧ ones (c a) = true)
    (hel : ∀ (fuel : Nat) (cs : List Value) (x : DataW H × List MemPlace), Tr enc P W fuel e cs x → ∃ m : α, cs = c m ∧ ok m) (h : Tr enc P W fuel t cs x) (hw : Sz P t x.1) :
    ∃ (l : List α) (v : Value) (z g o : Nat), cs = [v] ∧ Rd W z g o sz v (l.map c) ∧ (∀ a ∈ l, ok a) ∧ l.length * bytes ≤ 140737488351232 := by
  rcases DataW.trod_slice hu h with ⟨rfl, rfl⟩ | ⟨a, len, cap, elems, rest, n, rfl, rfl, rfl, _, hlc, hcm, hel2, hget, _, _⟩
  · exact ⟨[], _, 0, 0, 0, rfl, ⟨ws_nil _, .inl ⟨rfl, rfl, none, 0, rfl⟩⟩, by simp, by simp⟩
  · have key : ∀ i, i < len → ∃ m : α, W.cells? 0 (a.add (i * sz)) sz = some (c m) ∧ ok m := fun i hi => by
      have h1 := hget i hi
      rw [hc] at h1
      have hy : elems[i]? = some elems[i] := by simp
      rw [hy] at h1
      rw [Option.bind_eq_some_iff] at h1
      obtain ⟨cs', h2, h3⟩ := h1
      obtain ⟨m, rfl, hm⟩ := hel _ _ _ h3
      exact ⟨m, h2, hm⟩
    let f : Fin len → α := fun i => Classical.choose (key i.1 i.2)
    have hf : ∀ i (hi : i < len), W.cells? 0 (a.add (i * sz)) sz = some (c (f ⟨i, hi⟩)) ∧ ok (f ⟨i, hi⟩) := fun i hi => Classical.choose_spec (key i hi)
    have hws : Ws sz ((List.ofFn f).map c) := fun y hy => by
      obtain ⟨b, _, rfl⟩ := List.mem_map.1 hy; exact hcs b
    have hbd : (List.ofFn f).length * bytes ≤ 140737488351232 := by
      have := hw ((elems.length + rest.length) * P.bytesOf e) (by simp [DataW.weights, hu])
      rw [hb] at this
      have h2 : elems.length * bytes ≤ (elems.length + rest.length) * bytes := Nat.mul_le_mul_right _ (by omega)
      have h3 : reachBytes = 140737488351232 := by decide
      rw [List.length_ofFn, ← hel2]; omega
    rcases Nat.eq_zero_or_pos len with h0 | hp
    · refine ⟨List.ofFn f, _, 0, 0, 0, rfl, ⟨hws, .inl ⟨rfl, ?_, some a, cap, by rw [h0]⟩⟩, ?_, hbd⟩
      · apply List.eq_nil_of_length_eq_zero; simp [h0]
      · intro b hb'; obtain ⟨i, rfl⟩ := List.mem_ofFn.1 hb'; exact (hf i.1 i.2).2
    · have hcell : ∀ j u, ((List.ofFn f).map c).flatten[j]? = some u → W.cell? (a.add j) = some u := fun j u hj => by
        have hjl : j < len * sz := by
          have h1 := (List.getElem?_eq_some_iff.1 hj).1
          rw [hws.flat] at h1; simpa using h1
        have hq : j % sz < sz := Nat.mod_lt _ (by omega)
        have hi : j / sz < len := (Nat.div_lt_iff_lt_mul (by omega)).2 hjl
        obtain ⟨h1, _⟩ := hf (j / sz) hi
        have h2 := hws.at (j / sz) (j % sz) (c (f ⟨j / sz, hi⟩)) (by simp [hi]) hq
        have hdm : j / sz * sz + j % sz = j := by rw [Nat.mul_comm]; exact Nat.div_add_mod j sz
        rw [hdm, hj] at h2
        have h3 := (cells_get h1).2 (j % sz) u h2.symm
        rw [Addr.add_add, hdm] at h3; exact h3
      have hsp : a.spot = none := by
        have h0 : ∃ u, ((List.ofFn f).map c).flatten[0]? = some u := by
          have : 0 < ((List.ofFn f).map c).flatten.length := by rw [hws.flat]; simp; exact Nat.mul_pos hp (by omega)
          exact ⟨_, List.getElem?_eq_getElem this⟩
        obtain ⟨u, hu0⟩ := h0
        simpa [Addr.add] using World.cell?_spot (hcell 0 u hu0)
      obtain ⟨g, o, spot⟩ := a
      simp only at hsp; subst hsp
      have hlt : g < W.heap.size := by
        have h0 : ∃ u, ((List.ofFn f).map c).flatten[0]? = some u := by
          have : 0 < ((List.ofFn f).map c).flatten.length := by rw [hws.flat]; simp; exact Nat.mul_pos hp (by omega)
          exact ⟨_, List.getElem?_eq_getElem this⟩
        obtain ⟨u, hu0⟩ := h0
        have h1 := hcell 0 u hu0
        rcases Nat.lt_or_ge g W.heap.size with h | h
        · exact h
        · simp [World.cell?, Addr.add, Array.getElem?_eq_none h] at h1
      refine ⟨List.ofFn f, _, 1, g, o, rfl, ⟨hws, .inr ⟨rfl, cap, by simp, ⟨hlt, by simpa using hlc⟩, fun j u hj => ?_⟩⟩, ?_, hbd⟩
      · have := hcell j u hj; rw [Addr.add_lit] at this; exact this
      · intro b hb'; obtain ⟨i, rfl⟩ := List.mem_ofFn.1 hb'; exact (hf i.1 i.2).2
end
end Go.Sx

end
section
set_option linter.unusedVariables false
set_option linter.unusedSimpArgs false
namespace Go.Sx
open Go
theorem fuel_lt {n : Nat} (h : n < 9223372036854775808) : n < FUEL := by unfold FUEL; omega
theorem w64_id {n : Int} (h0 : -9223372036854775808 ≤ n) (h1 : n ≤ 9223372036854775807) : w64 n = n := by
  have := IntKind.wrap_i64 n
  unfold w64; rw [this]; omega
theorem bind_some {α β : Type} (a : α) (f : α → Option β) : Option.bind (some a) f = f a := rfl
theorem appG_some {α : Type} {b : Nat} {l m : List α} (h : (l.length + m.length) * b ≤ 140737488355328) : appG b l m = some (l ++ m) := if_pos h
theorem getI_some {α : Type} {l : List α} {i : Nat} (h : i < l.length) : getI l (i : Int) = some l[i] := by unfold getI; rw [if_pos (by omega)]; simp [h]
/-- the bytes of a word, the highest first -/
def w8 (x : BitVec 64) : List (BitVec 8) := [byt x 0, byt x 1, byt x 2, byt x 3, byt x 4, byt x 5, byt x 6, byt x 7]
end Go.Sx

end
section
set_option linter.unusedVariables false
set_option linter.unusedSimpArgs false
set_option maxRecDepth 100000
namespace Go.Sx.Pn
open Go Go.Sx
def sch (k d : Nat) : TScheme := ⟨BitVec.ofNat 8 k, (d : Int), 0, ⟨0#64, 0#64, 0#64⟩⟩
def tb_1_0 : Tplan_tables := ⟨sch 1 0, 1, ⟨[1, 0], [], [], []⟩, 1⟩
theorem nt_1_0 : plan_newTables (sch 1 0) = some tb_1_0 := by kernel_rfl
def tb_1_1 : Tplan_tables := ⟨sch 1 1, 1, ⟨[1, 0, 1, 1, 0], [], [], []⟩, 1⟩
theorem nt_1_1 : plan_newTables (sch 1 1) = some tb_1_1 := by kernel_rfl
def tb_1_2 : Tplan_tables := ⟨sch 1 2, 2, ⟨[1, 0, 1, 1, 0, 1, 2, 2, 1, 0], [], [], []⟩, 1⟩
theorem nt_1_2 : plan_newTables (sch 1 2) = some tb_1_2 := by kernel_rfl
def tb_1_3 : Tplan_tables := ⟨sch 1 3, 2, ⟨[1, 0, 1, 1, 0, 1, 2, 2, 1, 0, 1, 3, 4, 4, 4, 3, 2, 1, 0], [], [], []⟩, 1⟩
theorem nt_1_3 : plan_newTables (sch 1 3) = some tb_1_3 := by kernel_rfl
def tb_1_4 : Tplan_tables := ⟨sch 1 4, 2, ⟨[1, 0, 1, 1, 0, 1, 2, 2, 1, 0, 1, 3, 4, 4, 4, 3, 2, 1, 0, 1, 4, 6, 7, 8, 8, 8, 8, 8, 7, 6, 5, 4, 3, 2, 1, 0], [], [], []⟩, 1⟩
theorem nt_1_4 : plan_newTables (sch 1 4) = some tb_1_4 := by kernel_rfl
def tb_1_5 : Tplan_tables := ⟨sch 1 5, 3, ⟨[1, 0, 1, 1, 0, 1, 2, 2, 1, 0, 1, 3, 4, 4, 4, 3, 2, 1, 0, 1, 4, 6, 7, 8, 8, 8, 8, 8, 7, 6, 5, 4, 3, 2, 1, 0, 1, 5, 8, 10, 12, 13, 14, 15, 16, 16, 16, 16, 16, 16, 16, 16, 16, 15, 14, 13, 12, 11, 10, 9, 8, 7, 6, 5, 4, 3, 2, 1, 0], [], [], []⟩, 1⟩
theorem nt_1_5 : plan_newTables (sch 1 5) = some tb_1_5 := by kernel_rfl
def tb_1_6 : Tplan_tables := ⟨sch 1 6, 3, ⟨[1, 0, 1, 1, 0, 1, 2, 2, 1, 0, 1, 3, 4, 4, 4, 3, 2, 1, 0, 1, 4, 6, 7, 8, 8, 8, 8, 8, 7, 6, 5, 4, 3, 2, 1, 0, 1, 5, 8, 10, 12, 13, 14, 15, 16, 16, 16, 16, 16, 16, 16, 16, 16, 15, 14, 13, 12, 11, 10, 9, 8, 7, 6, 5, 4, 3, 2, 1, 0, 1, 6, 10, 13, 16, 18, 20, 22, 24, 25, 26, 27, 28, 29, 30, 31, 32, 32, 32, 32, 32, 32, 32, 32, 32, 32, 32, 32, 32, 32, 32, 32, 32, 31, 30, 29, 28, 27, 26, 25, 24, 23, 22, 21, 20, 19, 18, 17, 16, 15, 14, 13, 12, 11, 10, 9, 8, 7, 6, 5, 4, 3, 2, 1, 0], [], [], []⟩, 1⟩
theorem nt_1_6 : plan_newTables (sch 1 6) = some tb_1_6 := by kernel_rfl
def tb_2_0 : Tplan_tables := ⟨sch 2 0, 1, ⟨[0, 0], [0, 1], [], []⟩, 2⟩
theorem nt_2_0 : plan_newTables (sch 2 0) = some tb_2_0 := by kernel_rfl
def tb_2_1 : Tplan_tables := ⟨sch 2 1, 1, ⟨[0, 0, 0, 1, 0], [0, 1, 0, 1, 1], [], []⟩, 2⟩
theorem nt_2_1 : plan_newTables (sch 2 1) = some tb_2_1 := by kernel_rfl
def tb_2_2 : Tplan_tables := ⟨sch 2 2, 2, ⟨[0, 0, 0, 1, 0, 0, 1, 2, 1, 0], [0, 1, 0, 1, 1, 0, 1, 3, 2, 1], [], []⟩, 2⟩
theorem nt_2_2 : plan_newTables (sch 2 2) = some tb_2_2 := by kernel_rfl
def tb_2_3 : Tplan_tables := ⟨sch 2 3, 2, ⟨[0, 0, 0, 1, 0, 0, 1, 2, 1, 0, 0, 1, 3, 3, 4, 3, 2, 1, 0], [0, 1, 0, 1, 1, 0, 1, 3, 2, 1, 0, 1, 3, 4, 5, 4, 3, 2, 1], [], []⟩, 2⟩
theorem nt_2_3 : plan_newTables (sch 2 3) = some tb_2_3 := by kernel_rfl
def tb_2_4 : Tplan_tables := ⟨sch 2 4, 2, ⟨[0, 0, 0, 1, 0, 0, 1, 2, 1, 0, 0, 1, 3, 3, 4, 3, 2, 1, 0, 0, 1, 3, 4, 6, 6, 7, 7, 8, 7, 6, 5, 4, 3, 2, 1, 0], [0, 1, 0, 1, 1, 0, 1, 3, 2, 1, 0, 1, 3, 4, 5, 4, 3, 2, 1, 0, 1, 3, 5, 7, 7, 8, 8, 9, 8, 7, 6, 5, 4, 3, 2, 1], [], []⟩, 2⟩
theorem nt_2_4 : plan_newTables (sch 2 4) = some tb_2_4 := by kernel_rfl
def tb_2_5 : Tplan_tables := ⟨sch 2 5, 3, ⟨[0, 0, 0, 1, 0, 0, 1, 2, 1, 0, 0, 1, 3, 3, 4, 3, 2, 1, 0, 0, 1, 3, 4, 6, 6, 7, 7, 8, 7, 6, 5, 4, 3, 2, 1, 0, 0, 1, 3, 5, 7, 7, 9, 10, 12, 12, 13, 13, 14, 14, 15, 15, 16, 15, 14, 13, 12, 11, 10, 9, 8, 7, 6, 5, 4, 3, 2, 1, 0], [0, 1, 0, 1, 1, 0, 1, 3, 2, 1, 0, 1, 3, 4, 5, 4, 3, 2, 1, 0, 1, 3, 5, 7, 7, 8, 8, 9, 8, 7, 6, 5, 4, 3, 2, 1, 0, 1, 3, 5, 7, 8, 10, 11, 13, 13, 14, 14, 15, 15, 16, 16, 17, 16, 15, 14, 13, 12, 11, 10, 9, 8, 7, 6, 5, 4, 3, 2, 1], [], []⟩, 2⟩
theorem nt_2_5 : plan_newTables (sch 2 5) = some tb_2_5 := by kernel_rfl
def tb_2_6 : Tplan_tables := ⟨sch 2 6, 3, ⟨[0, 0, 0, 1, 0, 0, 1, 2, 1, 0, 0, 1, 3, 3, 4, 3, 2, 1, 0, 0, 1, 3, 4, 6, 6, 7, 7, 8, 7, 6, 5, 4, 3, 2, 1, 0, 0, 1, 3, 5, 7, 7, 9, 10, 12, 12, 13, 13, 14, 14, 15, 15, 16, 15, 14, 13, 12, 11, 10, 9, 8, 7, 6, 5, 4, 3, 2, 1, 0, 0, 1, 3, 5, 7, 8, 10, 12, 14, 14, 16, 17, 19, 19, 21, 22, 24, 24, 25, 25, 26, 26, 27, 27, 28, 28, 29, 29, 30, 30, 31, 31, 32, 31, 30, 29, 28, 27, 26, 25, 24, 23, 22, 21, 20, 19, 18, 17, 16, 15, 14, 13, 12, 11, 10, 9, 8, 7, 6, 5, 4, 3, 2, 1, 0], [0, 1, 0, 1, 1, 0, 1, 3, 2, 1, 0, 1, 3, 4, 5, 4, 3, 2, 1, 0, 1, 3, 5, 7, 7, 8, 8, 9, 8, 7, 6, 5, 4, 3, 2, 1, 0, 1, 3, 5, 7, 8, 10, 11, 13, 13, 14, 14, 15, 15, 16, 16, 17, 16, 15, 14, 13, 12, 11, 10, 9, 8, 7, 6, 5, 4, 3, 2, 1, 0, 1, 3, 5, 7, 9, 11, 13, 15, 15, 17, 18, 20, 20, 22, 23, 25, 25, 26, 26, 27, 27, 28, 28, 29, 29, 30, 30, 31, 31, 32, 32, 33, 32, 31, 30, 29, 28, 27, 26, 25, 24, 23, 22, 21, 20, 19, 18, 17, 16, 15, 14, 13, 12, 11, 10, 9, 8, 7, 6, 5, 4, 3, 2, 1], [], []⟩, 2⟩
theorem nt_2_6 : plan_newTables (sch 2 6) = some tb_2_6 := by kernel_rfl
def tb_3_0 : Tplan_tables := ⟨sch 3 0, 1, ⟨[0, 0], [0, 1], [0, 1], [0, 2]⟩, 4⟩
theorem nt_3_0 : plan_newTables (sch 3 0) = some tb_3_0 := by kernel_rfl
def tb_3_1 : Tplan_tables := ⟨sch 3 1, 1, ⟨[0, 0, 0, 1, 0], [0, 1, 0, 1, 1], [0, 1, 0, 2, 1], [0, 2, 0, 2, 2]⟩, 4⟩
theorem nt_3_1 : plan_newTables (sch 3 1) = some tb_3_1 := by kernel_rfl
def tb_3_2 : Tplan_tables := ⟨sch 3 2, 2, ⟨[0, 0, 0, 1, 0, 0, 1, 2, 1, 0], [0, 1, 0, 1, 1, 0, 1, 3, 2, 1], [0, 1, 0, 1, 1, 0, 2, 3, 2, 1], [0, 2, 0, 2, 2, 0, 2, 4, 3, 2]⟩, 4⟩
theorem nt_3_2 : plan_newTables (sch 3 2) = some tb_3_2 := by kernel_rfl
def tb_3_3 : Tplan_tables := ⟨sch 3 3, 2, ⟨[0, 0, 0, 1, 0, 0, 2, 2, 1, 0, 0, 1, 4, 4, 4, 3, 2, 1, 0], [0, 1, 0, 1, 1, 0, 1, 3, 2, 1, 0, 1, 5, 5, 5, 4, 3, 2, 1], [0, 1, 0, 2, 1, 0, 2, 3, 2, 1, 0, 2, 5, 5, 5, 4, 3, 2, 1], [0, 2, 0, 2, 2, 0, 2, 4, 3, 2, 0, 2, 6, 6, 6, 5, 4, 3, 2]⟩, 4⟩
theorem nt_3_3 : plan_newTables (sch 3 3) = some tb_3_3 := by kernel_rfl
def tb_3_4 : Tplan_tables := ⟨sch 3 4, 2, ⟨[0, 0, 0, 1, 0, 0, 1, 2, 1, 0, 0, 2, 3, 3, 4, 3, 2, 1, 0, 0, 1, 4, 5, 6, 6, 7, 7, 8, 7, 6, 5, 4, 3, 2, 1, 0], [0, 1, 0, 1, 1, 0, 1, 3, 2, 1, 0, 1, 3, 4, 5, 4, 3, 2, 1, 0, 1, 5, 6, 7, 7, 8, 8, 9, 8, 7, 6, 5, 4, 3, 2, 1], [0, 1, 0, 1, 1, 0, 2, 3, 2, 1, 0, 2, 3, 4, 5, 4, 3, 2, 1, 0, 2, 5, 6, 7, 7, 8, 8, 9, 8, 7, 6, 5, 4, 3, 2, 1], [0, 2, 0, 2, 2, 0, 2, 4, 3, 2, 0, 2, 4, 5, 6, 5, 4, 3, 2, 0, 2, 6, 7, 8, 8, 9, 9, 10, 9, 8, 7, 6, 5, 4, 3, 2]⟩, 4⟩
theorem nt_3_4 : plan_newTables (sch 3 4) = some tb_3_4 := by kernel_rfl
def tb_3_5 : Tplan_tables := ⟨sch 3 5, 3, ⟨[0, 0, 0, 1, 0, 0, 1, 2, 1, 0, 0, 2, 3, 3, 4, 3, 2, 1, 0, 0, 2, 4, 5, 6, 6, 7, 7, 8, 7, 6, 5, 4, 3, 2, 1, 0, 0, 1, 5, 6, 8, 9, 10, 11, 12, 12, 13, 13, 14, 14, 15, 15, 16, 15, 14, 13, 12, 11, 10, 9, 8, 7, 6, 5, 4, 3, 2, 1, 0], [0, 1, 0, 1, 1, 0, 1, 3, 2, 1, 0, 1, 3, 4, 5, 4, 3, 2, 1, 0, 1, 5, 6, 7, 7, 8, 8, 9, 8, 7, 6, 5, 4, 3, 2, 1, 0, 1, 5, 7, 9, 10, 11, 12, 13, 13, 14, 14, 15, 15, 16, 16, 17, 16, 15, 14, 13, 12, 11, 10, 9, 8, 7, 6, 5, 4, 3, 2, 1], [0, 1, 0, 1, 1, 0, 2, 3, 2, 1, 0, 2, 3, 4, 5, 4, 3, 2, 1, 0, 2, 5, 6, 7, 7, 8, 8, 9, 8, 7, 6, 5, 4, 3, 2, 1, 0, 2, 6, 7, 9, 10, 11, 12, 13, 13, 14, 14, 15, 15, 16, 16, 17, 16, 15, 14, 13, 12, 11, 10, 9, 8, 7, 6, 5, 4, 3, 2, 1], [0, 2, 0, 2, 2, 0, 2, 4, 3, 2, 0, 2, 4, 5, 6, 5, 4, 3, 2, 0, 2, 6, 7, 8, 8, 9, 9, 10, 9, 8, 7, 6, 5, 4, 3, 2, 0, 2, 6, 8, 10, 11, 12, 13, 14, 14, 15, 15, 16, 16, 17, 17, 18, 17, 16, 15, 14, 13, 12, 11, 10, 9, 8, 7, 6, 5, 4, 3, 2]⟩, 4⟩
theorem nt_3_5 : plan_newTables (sch 3 5) = some tb_3_5 := by kernel_rfl
def tb_3_6 : Tplan_tables := ⟨sch 3 6, 3, ⟨[0, 0, 0, 1, 0, 0, 1, 2, 1, 0, 0, 1, 3, 3, 4, 3, 2, 1, 0, 0, 2, 4, 4, 6, 6, 7, 7, 8, 7, 6, 5, 4, 3, 2, 1, 0, 0, 2, 4, 6, 8, 8, 10, 10, 12, 12, 13, 13, 14, 14, 15, 15, 16, 15, 14, 13, 12, 11, 10, 9, 8, 7, 6, 5, 4, 3, 2, 1, 0, 0, 1, 5, 7, 9, 10, 12, 14, 16, 16, 18, 18, 20, 20, 22, 22, 24, 24, 25, 25, 26, 26, 27, 27, 28, 28, 29, 29, 30, 30, 31, 31, 32, 31, 30, 29, 28, 27, 26, 25, 24, 23, 22, 21, 20, 19, 18, 17, 16, 15, 14, 13, 12, 11, 10, 9, 8, 7, 6, 5, 4, 3, 2, 1, 0], [0, 1, 0, 1, 1, 0, 1, 3, 2, 1, 0, 1, 3, 4, 5, 4, 3, 2, 1, 0, 1, 3, 5, 7, 7, 8, 8, 9, 8, 7, 6, 5, 4, 3, 2, 1, 0, 1, 5, 7, 9, 9, 11, 11, 13, 13, 14, 14, 15, 15, 16, 16, 17, 16, 15, 14, 13, 12, 11, 10, 9, 8, 7, 6, 5, 4, 3, 2, 1, 0, 1, 5, 7, 9, 11, 13, 15, 17, 17, 19, 19, 21, 21, 23, 23, 25, 25, 26, 26, 27, 27, 28, 28, 29, 29, 30, 30, 31, 31, 32, 32, 33, 32, 31, 30, 29, 28, 27, 26, 25, 24, 23, 22, 21, 20, 19, 18, 17, 16, 15, 14, 13, 12, 11, 10, 9, 8, 7, 6, 5, 4, 3, 2, 1], [0, 1, 0, 1, 1, 0, 1, 3, 2, 1, 0, 2, 4, 4, 5, 4, 3, 2, 1, 0, 2, 4, 5, 7, 7, 8, 8, 9, 8, 7, 6, 5, 4, 3, 2, 1, 0, 2, 5, 7, 9, 9, 11, 11, 13, 13, 14, 14, 15, 15, 16, 16, 17, 16, 15, 14, 13, 12, 11, 10, 9, 8, 7, 6, 5, 4, 3, 2, 1, 0, 2, 6, 8, 10, 11, 13, 15, 17, 17, 19, 19, 21, 21, 23, 23, 25, 25, 26, 26, 27, 27, 28, 28, 29, 29, 30, 30, 31, 31, 32, 32, 33, 32, 31, 30, 29, 28, 27, 26, 25, 24, 23, 22, 21, 20, 19, 18, 17, 16, 15, 14, 13, 12, 11, 10, 9, 8, 7, 6, 5, 4, 3, 2, 1], [0, 2, 0, 2, 2, 0, 2, 4, 3, 2, 0, 2, 4, 5, 6, 5, 4, 3, 2, 0, 2, 4, 6, 8, 8, 9, 9, 10, 9, 8, 7, 6, 5, 4, 3, 2, 0, 2, 6, 8, 10, 10, 12, 12, 14, 14, 15, 15, 16, 16, 17, 17, 18, 17, 16, 15, 14, 13, 12, 11, 10, 9, 8, 7, 6, 5, 4, 3, 2, 0, 2, 6, 8, 10, 12, 14, 16, 18, 18, 20, 20, 22, 22, 24, 24, 26, 26, 27, 27, 28, 28, 29, 29, 30, 30, 31, 31, 32, 32, 33, 33, 34, 33, 32, 31, 30, 29, 28, 27, 26, 25, 24, 23, 22, 21, 20, 19, 18, 17, 16, 15, 14, 13, 12, 11, 10, 9, 8, 7, 6, 5, 4, 3, 2]⟩, 4⟩
theorem nt_3_6 : plan_newTables (sch 3 6) = some tb_3_6 := by kernel_rfl
def tb (k d : Nat) : Tplan_tables := match k, d with
  | 1, 0 => tb_1_0
  | 1, 1 => tb_1_1
  | 1, 2 => tb_1_2
  | 1, 3 => tb_1_3
  | 1, 4 => tb_1_4
  | 1, 5 => tb_1_5
  | 1, 6 => tb_1_6
  | 2, 0 => tb_2_0
  | 2, 1 => tb_2_1
  | 2, 2 => tb_2_2
  | 2, 3 => tb_2_3
  | 2, 4 => tb_2_4
  | 2, 5 => tb_2_5
  | 2, 6 => tb_2_6
  | 3, 0 => tb_3_0
  | 3, 1 => tb_3_1
  | 3, 2 => tb_3_2
  | 3, 3 => tb_3_3
  | 3, 4 => tb_3_4
  | 3, 5 => tb_3_5
  | 3, 6 => tb_3_6
  | _, _ => tb_1_0
theorem nt {k d : Nat} (hk : 1 ≤ k ∧ k ≤ 3) (hd : d ≤ 6) : plan_newTables (sch k d) = some (tb k d) := by
  rcases (show k = 1 ∨ k = 2 ∨ k = 3 by omega) with rfl | rfl | rfl <;> rcases (show d = 0 ∨ d = 1 ∨ d = 2 ∨ d = 3 ∨ d = 4 ∨ d = 5 ∨ d = 6 by omega) with rfl | rfl | rfl | rfl | rfl | rfl | rfl
  · exact nt_1_0
  · exact nt_1_1
  · exact nt_1_2
  · exact nt_1_3
  · exact nt_1_4
  · exact nt_1_5
  · exact nt_1_6
  · exact nt_2_0
  · exact nt_2_1
  · exact nt_2_2
  · exact nt_2_3
  · exact nt_2_4
  · exact nt_2_5
  · exact nt_2_6
  · exact nt_3_0
  · exact nt_3_1
  · exact nt_3_2
  · exact nt_3_3
  · exact nt_3_4
  · exact nt_3_5
  · exact nt_3_6
/-- the worst numbers, and the least numbers of revoked receivers that have them -/
def wl (k d : Nat) : List (Int × Int) := match k, d with
  | 1, 0 => [(1, 0), (1, 0)]
  | 1, 1 => [(1, 0), (1, 0), (1, 0)]
  | 1, 2 => [(1, 0), (2, 1), (2, 1), (2, 1), (2, 1)]
  | 1, 3 => [(1, 0), (3, 1), (4, 2), (4, 2), (4, 2), (4, 2), (4, 2), (4, 2), (4, 2)]
  | 1, 4 => [(1, 0), (4, 1), (6, 2), (7, 3), (8, 4), (8, 4), (8, 4), (8, 4), (8, 4), (8, 4), (8, 4), (8, 4), (8, 4), (8, 4), (8, 4), (8, 4), (8, 4)]
  | 1, 5 => [(1, 0), (5, 1), (8, 2), (10, 3), (12, 4), (13, 5), (14, 6), (15, 7), (16, 8), (16, 8), (16, 8), (16, 8), (16, 8), (16, 8), (16, 8), (16, 8), (16, 8), (16, 8), (16, 8), (16, 8), (16, 8), (16, 8), (16, 8), (16, 8), (16, 8), (16, 8), (16, 8), (16, 8), (16, 8), (16, 8), (16, 8), (16, 8), (16, 8)]
  | 1, 6 => [(1, 0), (6, 1), (10, 2), (13, 3), (16, 4), (18, 5), (20, 6), (22, 7), (24, 8), (25, 9), (26, 10), (27, 11), (28, 12), (29, 13), (30, 14), (31, 15), (32, 16), (32, 16), (32, 16), (32, 16), (32, 16), (32, 16), (32, 16), (32, 16), (32, 16), (32, 16), (32, 16), (32, 16), (32, 16), (32, 16), (32, 16), (32, 16), (32, 16), (32, 16), (32, 16), (32, 16), (32, 16), (32, 16), (32, 16), (32, 16), (32, 16), (32, 16), (32, 16), (32, 16), (32, 16), (32, 16), (32, 16), (32, 16), (32, 16), (32, 16), (32, 16), (32, 16), (32, 16), (32, 16), (32, 16), (32, 16), (32, 16), (32, 16), (32, 16), (32, 16), (32, 16), (32, 16), (32, 16), (32, 16), (32, 16)]
  | 2, 0 => [(1, 0), (1, 0)]
  | 2, 1 => [(1, 0), (1, 0), (1, 0)]
  | 2, 2 => [(1, 0), (1, 0), (2, 2), (2, 2), (2, 2)]
  | 2, 3 => [(1, 0), (1, 0), (3, 2), (3, 2), (4, 4), (4, 4), (4, 4), (4, 4), (4, 4)]
  | 2, 4 => [(1, 0), (1, 0), (3, 2), (4, 3), (6, 4), (6, 4), (7, 6), (7, 6), (8, 8), (8, 8), (8, 8), (8, 8), (8, 8), (8, 8), (8, 8), (8, 8), (8, 8)]
  | 2, 5 => [(1, 0), (1, 0), (3, 2), (5, 3), (7, 4), (7, 4), (9, 6), (10, 7), (12, 8), (12, 8), (13, 10), (13, 10), (14, 12), (14, 12), (15, 14), (15, 14), (16, 16), (16, 16), (16, 16), (16, 16), (16, 16), (16, 16), (16, 16), (16, 16), (16, 16), (16, 16), (16, 16), (16, 16), (16, 16), (16, 16), (16, 16), (16, 16), (16, 16)]
  | 2, 6 => [(1, 0), (1, 0), (3, 2), (5, 3), (7, 4), (8, 5), (10, 6), (12, 7), (14, 8), (14, 8), (16, 10), (17, 11), (19, 12), (19, 12), (21, 14), (22, 15), (24, 16), (24, 16), (25, 18), (25, 18), (26, 20), (26, 20), (27, 22), (27, 22), (28, 24), (28, 24), (29, 26), (29, 26), (30, 28), (30, 28), (31, 30), (31, 30), (32, 32), (32, 32), (32, 32), (32, 32), (32, 32), (32, 32), (32, 32), (32, 32), (32, 32), (32, 32), (32, 32), (32, 32), (32, 32), (32, 32), (32, 32), (32, 32), (32, 32), (32, 32), (32, 32), (32, 32), (32, 32), (32, 32), (32, 32), (32, 32), (32, 32), (32, 32), (32, 32), (32, 32), (32, 32), (32, 32), (32, 32), (32, 32), (32, 32)]
  | 3, 0 => [(1, 0), (1, 0)]
  | 3, 1 => [(1, 0), (1, 0), (1, 0)]
  | 3, 2 => [(1, 0), (1, 0), (2, 2), (2, 2), (2, 2)]
  | 3, 3 => [(1, 0), (1, 0), (4, 2), (4, 2), (4, 2), (4, 2), (4, 2), (4, 2), (4, 2)]
  | 3, 4 => [(1, 0), (1, 0), (4, 2), (5, 3), (6, 4), (6, 4), (7, 6), (7, 6), (8, 8), (8, 8), (8, 8), (8, 8), (8, 8), (8, 8), (8, 8), (8, 8), (8, 8)]
  | 3, 5 => [(1, 0), (1, 0), (5, 2), (6, 3), (8, 4), (9, 5), (10, 6), (11, 7), (12, 8), (12, 8), (13, 10), (13, 10), (14, 12), (14, 12), (15, 14), (15, 14), (16, 16), (16, 16), (16, 16), (16, 16), (16, 16), (16, 16), (16, 16), (16, 16), (16, 16), (16, 16), (16, 16), (16, 16), (16, 16), (16, 16), (16, 16), (16, 16), (16, 16)]
  | 3, 6 => [(1, 0), (1, 0), (5, 2), (7, 3), (9, 4), (10, 5), (12, 6), (14, 7), (16, 8), (16, 8), (18, 10), (18, 10), (20, 12), (20, 12), (22, 14), (22, 14), (24, 16), (24, 16), (25, 18), (25, 18), (26, 20), (26, 20), (27, 22), (27, 22), (28, 24), (28, 24), (29, 26), (29, 26), (30, 28), (30, 28), (31, 30), (31, 30), (32, 32), (32, 32), (32, 32), (32, 32), (32, 32), (32, 32), (32, 32), (32, 32), (32, 32), (32, 32), (32, 32), (32, 32), (32, 32), (32, 32), (32, 32), (32, 32), (32, 32), (32, 32), (32, 32), (32, 32), (32, 32), (32, 32), (32, 32), (32, 32), (32, 32), (32, 32), (32, 32), (32, 32), (32, 32), (32, 32), (32, 32), (32, 32), (32, 32)]
  | _, _ => []
def wst (k d r : Nat) : Int × Int := (wl k d).getD r (0, 0)
theorem worst_all : ∀ k ∈ [1, 2, 3], ∀ d ∈ List.range 7, ∀ r ∈ List.range (2 ^ d + 1), plan_tables_worst (tb k d) (r : Int) = some (wst k d r) := by decide +kernel
/-- the worst lists -/
def ll (k d : Nat) : List (Int × List Int × Int) := match k, d with
  | 1, 0 => [(0, [], 1)]
  | 1, 1 => [(0, [], 1)]
  | 1, 2 => [(0, [], 1), (1, [3], 2)]
  | 1, 3 => [(0, [], 1), (1, [7], 3), (2, [3, 7], 4)]
  | 1, 4 => [(0, [], 1), (1, [15], 4), (2, [7, 15], 6), (3, [7, 11, 15], 7), (4, [3, 7, 11, 15], 8)]
  | 1, 5 => [(0, [], 1), (1, [31], 5), (2, [15, 31], 8), (3, [15, 23, 31], 10), (4, [7, 15, 23, 31], 12), (5, [7, 15, 23, 27, 31], 13), (6, [7, 15, 19, 23, 27, 31], 14), (7, [7, 11, 15, 19, 23, 27, 31], 15), (8, [3, 7, 11, 15, 19, 23, 27, 31], 16)]
  | 1, 6 => [(0, [], 1), (1, [63], 6), (2, [31, 63], 10), (3, [31, 47, 63], 13), (4, [15, 31, 47, 63], 16), (5, [15, 31, 47, 55, 63], 18), (6, [15, 31, 39, 47, 55, 63], 20), (7, [15, 23, 31, 39, 47, 55, 63], 22), (8, [7, 15, 23, 31, 39, 47, 55, 63], 24), (9, [7, 15, 23, 31, 39, 47, 55, 59, 63], 25), (10, [7, 15, 23, 31, 39, 47, 51, 55, 59, 63], 26), (11, [7, 15, 23, 31, 39, 43, 47, 51, 55, 59, 63], 27), (12, [7, 15, 23, 31, 35, 39, 43, 47, 51, 55, 59, 63], 28), (13, [7, 15, 23, 27, 31, 35, 39, 43, 47, 51, 55, 59, 63], 29), (14, [7, 15, 19, 23, 27, 31, 35, 39, 43, 47, 51, 55, 59, 63], 30), (15, [7, 11, 15, 19, 23, 27, 31, 35, 39, 43, 47, 51, 55, 59, 63], 31), (16, [3, 7, 11, 15, 19, 23, 27, 31, 35, 39, 43, 47, 51, 55, 59, 63], 32)]
  | 2, 0 => [(0, [], 1)]
  | 2, 1 => [(0, [], 1)]
  | 2, 2 => [(0, [], 1), (2, [1, 3], 2)]
  | 2, 3 => [(0, [], 1), (2, [5, 7], 3), (4, [1, 3, 5, 7], 4)]
  | 2, 4 => [(0, [], 1), (2, [13, 15], 3), (3, [11, 13, 15], 4), (4, [5, 7, 13, 15], 6), (6, [5, 7, 9, 11, 13, 15], 7), (8, [1, 3, 5, 7, 9, 11, 13, 15], 8)]
  | 2, 5 => [(0, [], 1), (2, [29, 31], 3), (3, [23, 29, 31], 5), (4, [21, 23, 29, 31], 7), (6, [13, 15, 21, 23, 29, 31], 9), (7, [11, 13, 15, 21, 23, 29, 31], 10), (8, [5, 7, 13, 15, 21, 23, 29, 31], 12), (10, [5, 7, 13, 15, 21, 23, 25, 27, 29, 31], 13), (12, [5, 7, 13, 15, 17, 19, 21, 23, 25, 27, 29, 31], 14), (14, [5, 7, 9, 11, 13, 15, 17, 19, 21, 23, 25, 27, 29, 31], 15), (16, [1, 3, 5, 7, 9, 11, 13, 15, 17, 19, 21, 23, 25, 27, 29, 31], 16)]
  | 2, 6 => [(0, [], 1), (2, [61, 63], 3), (3, [55, 61, 63], 5), (4, [53, 55, 61, 63], 7), (5, [47, 53, 55, 61, 63], 8), (6, [45, 47, 53, 55, 61, 63], 10), (7, [23, 29, 31, 53, 55, 61, 63], 12), (8, [21, 23, 29, 31, 53, 55, 61, 63], 14), (10, [21, 23, 29, 31, 45, 47, 53, 55, 61, 63], 16), (11, [23, 29, 31, 37, 39, 45, 47, 53, 55, 61, 63], 17), (12, [21, 23, 29, 31, 37, 39, 45, 47, 53, 55, 61, 63], 19), (14, [13, 15, 21, 23, 29, 31, 37, 39, 45, 47, 53, 55, 61, 63], 21), (15, [11, 13, 15, 21, 23, 29, 31, 37, 39, 45, 47, 53, 55, 61, 63], 22), (16, [5, 7, 13, 15, 21, 23, 29, 31, 37, 39, 45, 47, 53, 55, 61, 63], 24), (18, [5, 7, 13, 15, 21, 23, 29, 31, 37, 39, 45, 47, 53, 55, 57, 59, 61, 63], 25), (20, [5, 7, 13, 15, 21, 23, 29, 31, 37, 39, 45, 47, 49, 51, 53, 55, 57, 59, 61, 63], 26), (22, [5, 7, 13, 15, 21, 23, 29, 31, 37, 39, 41, 43, 45, 47, 49, 51, 53, 55, 57, 59, 61, 63], 27), (24, [5, 7, 13, 15, 21, 23, 29, 31, 33, 35, 37, 39, 41, 43, 45, 47, 49, 51, 53, 55, 57, 59, 61, 63], 28), (26, [5, 7, 13, 15, 21, 23, 25, 27, 29, 31, 33, 35, 37, 39, 41, 43, 45, 47, 49, 51, 53, 55, 57, 59, 61, 63], 29), (28, [5, 7, 13, 15, 17, 19, 21, 23, 25, 27, 29, 31, 33, 35, 37, 39, 41, 43, 45, 47, 49, 51, 53, 55, 57, 59, 61, 63], 30), (30, [5, 7, 9, 11, 13, 15, 17, 19, 21, 23, 25, 27, 29, 31, 33, 35, 37, 39, 41, 43, 45, 47, 49, 51, 53, 55, 57, 59, 61, 63], 31), (32, [1, 3, 5, 7, 9, 11, 13, 15, 17, 19, 21, 23, 25, 27, 29, 31, 33, 35, 37, 39, 41, 43, 45, 47, 49, 51, 53, 55, 57, 59, 61, 63], 32)]
  | 3, 0 => [(0, [], 1)]
  | 3, 1 => [(0, [], 1)]
  | 3, 2 => [(0, [], 1), (2, [1, 3], 2)]
  | 3, 3 => [(0, [], 1), (2, [3, 7], 4)]
  | 3, 4 => [(0, [], 1), (2, [7, 15], 4), (3, [7, 13, 15], 5), (4, [5, 7, 13, 15], 6), (6, [5, 7, 9, 11, 13, 15], 7), (8, [1, 3, 5, 7, 9, 11, 13, 15], 8)]
  | 3, 5 => [(0, [], 1), (2, [23, 31], 5), (3, [23, 29, 31], 6), (4, [7, 15, 23, 31], 8), (5, [7, 15, 23, 29, 31], 9), (6, [7, 15, 21, 23, 29, 31], 10), (7, [7, 13, 15, 21, 23, 29, 31], 11), (8, [5, 7, 13, 15, 21, 23, 29, 31], 12), (10, [5, 7, 13, 15, 21, 23, 25, 27, 29, 31], 13), (12, [5, 7, 13, 15, 17, 19, 21, 23, 25, 27, 29, 31], 14), (14, [5, 7, 9, 11, 13, 15, 17, 19, 21, 23, 25, 27, 29, 31], 15), (16, [1, 3, 5, 7, 9, 11, 13, 15, 17, 19, 21, 23, 25, 27, 29, 31], 16)]
  | 3, 6 => [(0, [], 1), (2, [47, 63], 5), (3, [47, 61, 63], 7), (4, [45, 47, 61, 63], 9), (5, [31, 45, 47, 61, 63], 10), (6, [29, 31, 45, 47, 61, 63], 12), (7, [15, 29, 31, 45, 47, 61, 63], 14), (8, [13, 15, 29, 31, 45, 47, 61, 63], 16), (10, [13, 15, 29, 31, 45, 47, 53, 55, 61, 63], 18), (12, [13, 15, 29, 31, 37, 39, 45, 47, 53, 55, 61, 63], 20), (14, [13, 15, 21, 23, 29, 31, 37, 39, 45, 47, 53, 55, 61, 63], 22), (16, [5, 7, 13, 15, 21, 23, 29, 31, 37, 39, 45, 47, 53, 55, 61, 63], 24), (18, [5, 7, 13, 15, 21, 23, 29, 31, 37, 39, 45, 47, 53, 55, 57, 59, 61, 63], 25), (20, [5, 7, 13, 15, 21, 23, 29, 31, 37, 39, 45, 47, 49, 51, 53, 55, 57, 59, 61, 63], 26), (22, [5, 7, 13, 15, 21, 23, 29, 31, 37, 39, 41, 43, 45, 47, 49, 51, 53, 55, 57, 59, 61, 63], 27), (24, [5, 7, 13, 15, 21, 23, 29, 31, 33, 35, 37, 39, 41, 43, 45, 47, 49, 51, 53, 55, 57, 59, 61, 63], 28), (26, [5, 7, 13, 15, 21, 23, 25, 27, 29, 31, 33, 35, 37, 39, 41, 43, 45, 47, 49, 51, 53, 55, 57, 59, 61, 63], 29), (28, [5, 7, 13, 15, 17, 19, 21, 23, 25, 27, 29, 31, 33, 35, 37, 39, 41, 43, 45, 47, 49, 51, 53, 55, 57, 59, 61, 63], 30), (30, [5, 7, 9, 11, 13, 15, 17, 19, 21, 23, 25, 27, 29, 31, 33, 35, 37, 39, 41, 43, 45, 47, 49, 51, 53, 55, 57, 59, 61, 63], 31), (32, [1, 3, 5, 7, 9, 11, 13, 15, 17, 19, 21, 23, 25, 27, 29, 31, 33, 35, 37, 39, 41, 43, 45, 47, 49, 51, 53, 55, 57, 59, 61, 63], 32)]
  | _, _ => []
def lst (k d r : Nat) : List Int := ((ll k d).find? fun x => decide (x.1 = (wst k d r).2)).elim [] (·.2.1)
theorem list_ll : ∀ k ∈ [1, 2, 3], ∀ d ∈ List.range 7, ∀ x ∈ ll k d, plan_tables_list (tb k d) [] 1 0 (d : Int) x.1 = some x.2.1 ∧ x.2.1.length = x.1.toNat := by decide +kernel
theorem list_has : ∀ k ∈ [1, 2, 3], ∀ d ∈ List.range 7, ∀ r ∈ List.range (2 ^ d + 1), ∃ x ∈ (ll k d).find? (fun x => decide (x.1 = (wst k d r).2)), x.2.2 = (wst k d r).1 ∧ 0 ≤ x.1 ∧ x.1 ≤ (r : Int) := by decide +kernel
end Go.Sx.Pn

end
section
set_option linter.unusedVariables false
set_option linter.unusedSimpArgs false
namespace Go.Sx
open Go
theorem log2_div (n k : Nat) (h : 2 ^ k ≤ n) : Nat.log2 n = Nat.log2 (n / 2 ^ k) + k := by
  induction k generalizing n with
  | zero => simp
  | succ k ih =>
    have h2 : 2 ^ k ≤ n / 2 := by rw [Nat.le_div_iff_mul_le (by omega)]; rw [Nat.pow_succ] at h; omega
    have h1 : 2 ≤ n := by have : 0 < 2 ^ k := Nat.two_pow_pos k; rw [Nat.pow_succ] at h; omega
    rw [Nat.log2_def, if_pos h1, ih (n / 2) h2, Nat.div_div_eq_div_mul, Nat.pow_succ, Nat.mul_comm 2]; omega
theorem log2_half {n : Nat} (h : 2 ≤ n) : Nat.log2 n = Nat.log2 (n / 2) + 1 := by rw [Nat.log2_def, if_pos h]
theorem log2_mono {m n : Nat} (h : m ≤ n) : Nat.log2 m ≤ Nat.log2 n := by
  rcases Nat.eq_zero_or_pos m with h0 | h0
  · subst h0; rw [Nat.log2_zero]; omega
  · exact (Nat.le_log2 (by omega)).2 (Nat.le_trans (Nat.log2_self_le (by omega)) h)
theorem log2_le62 {n : Nat} (h : n < 9223372036854775808) : Nat.log2 n ≤ 62 := by
  rcases Nat.eq_zero_or_pos n with h0 | h0
  · subst h0; rw [Nat.log2_zero]; omega
  · have : Nat.log2 n < 63 := (Nat.log2_lt (by omega)).2 (by omega)
    omega
theorem un_wdn {n : Nat} (h : n < 9223372036854775808) : un (wd (n : Int)) = (n : Int) := un_wd _ (by omega) (by omega)
theorem lg_nat {n : Nat} (h : 1 ≤ n) : lg (n : Int) = (Nat.log2 n : Int) + 1 := by unfold lg; rw [Int.toNat_natCast, if_neg (by omega)]
theorem level_eq {n : Nat} (h1 : 1 ≤ n) (h : n < 9223372036854775808) : cover_node_level (n : Int) = some (Nat.log2 n : Int) := by
  have := log2_le62 h
  unfold cover_node_level
  rw [un_wdn h, lg_nat h1, w64_id (by omega) (by omega), Int.add_sub_cancel]
/-- whether a node is below another one -/
def belowB (w v : Nat) : Bool := decide (Nat.log2 v ≤ Nat.log2 w ∧ w / 2 ^ (Nat.log2 w - Nat.log2 v) = v)
theorem shr_nat (n k : Nat) (hk : k ≤ 64) : shrI (n : Int) k = ((n / 2 ^ k : Nat) : Int) := by
  unfold shrI
  rw [Nat.min_eq_left hk, Int.natCast_ediv, Int.natCast_pow]; rfl
/-! sizes -/
def strd (d : Nat) : Nat := if d ≤ 1 then 1 else if d ≤ 4 then 2 else 3
theorem strd_pos (d : Nat) : 1 ≤ strd d := by unfold strd; split; omega; split <;> omega
theorem pow_le64 {d : Nat} (h : d ≤ 6) : 2 ^ d ≤ 64 := Nat.le_trans (Nat.pow_le_pow_right (by omega) h) (by decide)
theorem shl1 {d : Nat} (h : d ≤ 6) : shlI 1 d = ((2 ^ d : Nat) : Int) := by
  have := pow_le64 h
  unfold shlI
  rw [Nat.min_eq_left (by omega), Int.one_mul, show (2 : Int) ^ d = ((2 ^ d : Nat) : Int) from by rw [Int.natCast_pow]; rfl]
  generalize 2 ^ d = m at *
  exact w64_id (by omega) (by omega)
theorem shG_nat (n : Nat) : shG (n : Int) = some n := by unfold shG; rw [if_pos (by omega)]; rfl
theorem size_eq {k : BitVec 8} {d : Nat} {st : Int} (h : d ≤ 6) : cover_tree_size ⟨k, (d : Int), st⟩ = some ((2 ^ d : Nat) : Int) := by
  unfold cover_tree_size
  rw [shG_nat, bind_some, shl1 h]
/-! special nodes -/
def spcl (d v : Nat) : Bool := decide (Nat.log2 v % strd d = 0)
theorem rem_nat (a b : Nat) (hb : 1 ≤ b) : remI (a : Int) (b : Int) = some ((a % b : Nat) : Int) := by
  unfold remI
  rw [if_neg (by omega), Int.tmod_eq_emod_of_nonneg (by omega), Int.natCast_emod]
theorem special_eq {k : BitVec 8} {d v : Nat} (hv : 1 ≤ v) (hv2 : v < 9223372036854775808) : cover_tree_special ⟨k, (d : Int), (strd d : Int)⟩ (v : Int) = some (spcl d v) := by
  unfold cover_tree_special spcl
  rw [level_eq hv hv2, bind_some, rem_nat _ _ (strd_pos d), bind_some]
  congr 1; apply decide_eq_decide.2; omega
/-! paths -/
/-- the k nodes down to w -/
def pathN (w : Nat) : Nat → List Nat
  | 0 => []
  | k + 1 => w / 2 ^ k :: pathN w k
theorem pathN_bd {w k n : Nat} (hk : 2 ^ k ≤ w) (h : n ∈ pathN w k) : 1 ≤ n ∧ n ≤ w := by
  induction k with
  | zero => cases h
  | succ k ih =>
    have hk' : 2 ^ k ≤ w := by rw [Nat.pow_succ] at hk; omega
    rcases List.mem_cons.1 h with rfl | h
    · exact ⟨(Nat.le_div_iff_mul_le (Nat.two_pow_pos k)).2 (by omega), Nat.div_le_self _ _⟩
    · exact ih hk' h
theorem log2_divk {w k : Nat} (hk : 2 ^ k ≤ w) : Nat.log2 (w / 2 ^ k) = Nat.log2 w - k := by have := log2_div w k hk; omega
theorem div_pos' {w k : Nat} (hk : 2 ^ k ≤ w) : 1 ≤ w / 2 ^ k := (Nat.le_div_iff_mul_le (Nat.two_pow_pos k)).2 (by omega)
theorem toward_eq {w k : Nat} (hk : 2 ^ (k + 1) ≤ w) (hw : w < 9223372036854775808) : cover_node_toward ((w / 2 ^ (k + 1) : Nat) : Int) (w : Int) = some ((w / 2 ^ k : Nat) : Int) := by
  have hp := Nat.two_pow_pos (k + 1)
  have l1 := log2_le62 hw
  have hl := log2_div w (k + 1) hk
  unfold cover_node_toward
  rw [level_eq (by omega) hw, bind_some, level_eq (div_pos' hk) (Nat.lt_of_le_of_lt (Nat.div_le_self _ _) hw), bind_some, w64_id (n := (Nat.log2 w : Int) - (Nat.log2 (w / 2 ^ (k + 1)) : Int)) (by omega) (by omega), w64_id (by omega) (by omega)]
  rw [show (Nat.log2 w : Int) - (Nat.log2 (w / 2 ^ (k + 1)) : Int) - 1 = ((k : Nat) : Int) from by omega, shG_nat, bind_some, shr_nat _ _ (by omega)]
theorem path_loop {w : Nat} (hw : w < 9223372036854775808) : ∀ (k f : Nat), k < f → 2 ^ k ≤ w → fixN (cover_path_1_L1 (w : Int)) f ((w / 2 ^ k : Nat) : Int) = some ((pathN w k).map Int.ofNat)
  | k, 0, h, _ => by omega
  | 0, f + 1, _, _ => by
    rw [fix_step]; simp only [cover_path_1_L1]
    rw [if_neg (by simp)]; rfl
  | k + 1, f + 1, h, hk => by
    rw [fix_step]; simp only [cover_path_1_L1]
    have h1 : w / 2 ^ (k + 1) < w := Nat.div_lt_self (by have := Nat.two_pow_pos (k + 1); omega) (Nat.one_lt_two_pow (by omega))
    rw [if_pos (by omega), toward_eq hk hw, bind_some, path_loop hw k f (by omega) (by rw [Nat.pow_succ] at hk; omega)]
    rfl
theorem path_eq {w k : Nat} (hw : w < 9223372036854775808) (hk : 2 ^ k ≤ w) (hk2 : k ≤ 64) : cover_path_1 ((w / 2 ^ k : Nat) : Int) (w : Int) = some ((pathN w k).map Int.ofNat) := path_loop hw k FUEL (fuel_lt (by omega)) hk
theorem divk_ne {w j k : Nat} (hk : 2 ^ k ≤ w) (hj : j < k) : w / 2 ^ j ≠ w / 2 ^ k := fun e => by
  have h1 := log2_divk hk
  have h2 := log2_divk (w := w) (k := j) (Nat.le_trans (Nat.pow_le_pow_right (by omega) (by omega)) hk)
  have h3 := log2_div w k hk
  rw [e] at h2; omega
end Go.Sx

end
section
set_option linter.unusedVariables false
set_option linter.unusedSimpArgs false
namespace Go.Sx
open Go
def zG : TGroup := TGroup.mk 0#64 0#64 0#64
def vldB (s : TScheme) : Bool := decide (1#8 ≤ s.Kind ∧ s.Kind ≤ 3#8 ∧ 0 ≤ s.Depth ∧ s.Depth ≤ 6 ∧ s.Degree = 0 ∧ s.Group = zG)
theorem vld_depth {s : TScheme} (h : vldB s = true) : ∃ d : Nat, s.Depth = (d : Int) ∧ d ≤ 6 := by
  unfold vldB at h
  have := of_decide_eq_true h
  exact ⟨s.Depth.toNat, by omega, by omega⟩
theorem treeOf_step (s : TScheme) (n : Nat) (a : Int) : fixN (cover_treeOf_L2 s) (n + 1) a = if w64 (a * a) < s.Depth then fixN (cover_treeOf_L2 s) n (w64 (a + 1)) else some (Tcover_tree.mk s.Kind s.Depth a, true) := rfl
theorem treeOf_loop (s : TScheme) {d : Nat} (hd : s.Depth = (d : Int)) (h : d ≤ 6) : fixN (cover_treeOf_L2 s) FUEL 1 = some (Tcover_tree.mk s.Kind (d : Int) (strd d : Int), true) := by
  have e1 : w64 (1 * 1) = 1 := by decide
  have e2 : w64 (1 + 1) = 2 := by decide
  have e3 : w64 (2 * 2) = 4 := by decide
  have e4 : w64 (2 + 1) = 3 := by decide
  have e5 : w64 (3 * 3) = 9 := by decide
  rw [show FUEL = 18446744073709551613 + 3 from rfl, treeOf_step, e1, e2, hd]
  unfold strd
  by_cases h1 : d ≤ 1
  · rw [if_neg (by omega), if_pos h1, ← hd]; rfl
  · rw [if_pos (by omega), if_neg h1, show 18446744073709551613 + 2 = 18446744073709551614 + 1 from rfl, treeOf_step, e3, e4, hd]
    by_cases h2 : d ≤ 4
    · rw [if_neg (by omega), if_pos h2, ← hd]; rfl
    · rw [if_pos (by omega), if_neg h2, show 18446744073709551614 = 18446744073709551613 + 1 from rfl, treeOf_step, e5, hd, if_neg (by omega), ← hd]; rfl
def treeI (s : TScheme) : Tcover_tree := Tcover_tree.mk s.Kind s.Depth (strd s.Depth.toNat : Int)
theorem treeOf_eq (s : TScheme) : cover_treeOf s = some (if vldB s then (treeI s, true) else (Tcover_tree.mk 0#8 0 0, false)) := by
  unfold cover_treeOf cover_treeOf_J1
  by_cases hv : vldB s = true
  · rw [if_pos hv]
    obtain ⟨d, hd, h6⟩ := vld_depth hv
    unfold vldB at hv
    obtain ⟨h1, h2, h3, h4, h5, h7⟩ := of_decide_eq_true hv
    have hs : s = TScheme.mk s.Kind s.Depth 0 (TGroup.mk 0#64 0#64 0#64) := by cases s; simp only at *; rw [h5, h7]; rfl
    rw [if_neg (by rw [BitVec.not_lt]; exact h1), if_neg (by rw [BitVec.not_lt]; exact h2), if_neg (by omega), if_neg (by omega), decide_eq_false (by simpa using hs)]
    simp only [cond_false]
    rw [treeOf_loop s hd h6]
    unfold treeI
    rw [hd, Int.toNat_natCast]
  · rw [if_neg hv]
    have hn : ¬ (1#8 ≤ s.Kind ∧ s.Kind ≤ 3#8 ∧ 0 ≤ s.Depth ∧ s.Depth ≤ 6 ∧ s.Degree = 0 ∧ s.Group = zG) := fun h => hv (by unfold vldB; exact decide_eq_true h)
    by_cases h1 : s.Kind < 1#8
    · rw [if_pos h1]; rfl
    · rw [if_neg h1]
      by_cases h2 : 3#8 < s.Kind
      · rw [if_pos h2]; rfl
      · rw [if_neg h2]
        by_cases h3 : s.Depth < 0
        · rw [if_pos h3]; rfl
        · rw [if_neg h3]
          by_cases h4 : (6 : Int) < s.Depth
          · rw [if_pos h4]; rfl
          · rw [if_neg h4, decide_eq_true (p := s ≠ _)]
            · rfl
            · intro hs
              refine hn ⟨BitVec.not_lt.1 h1, BitVec.not_lt.1 h2, by omega, by omega, ?_, ?_⟩
              · rw [hs]
              · rw [hs]; rfl
/-! the first special node -/
def fstS (d : Nat) (l : List Nat) : Nat := (l.find? (spcl d)).getD 0
theorem first_eq {k : BitVec 8} {d : Nat} : ∀ (l : List Nat), (∀ n ∈ l, 1 ≤ n ∧ n < 9223372036854775808) →
    itL (cover_first_cover_path_1_cover_tree_special_R1 ⟨k, (d : Int), (strd d : Int)⟩) cover_first_cover_path_1_cover_tree_special_D1 (l.map Int.ofNat) 0 = some ((fstS d l : Nat) : Int)
  | [], _ => rfl
  | a :: l, h => by
    rw [List.map_cons, itL_cons]
    simp only [cover_first_cover_path_1_cover_tree_special_R1]
    have ha := h a (by simp)
    rw [show (Int.ofNat a) = (a : Int) from rfl, special_eq ha.1 ha.2, bind_some]
    unfold fstS
    rw [List.find?_cons]
    cases hs : spcl d a with
    | true => rfl
    | false => exact first_eq l (fun n hn => h n (by simp [hn]))
theorem half_pow {m k : Nat} (h : 2 ^ (k + 1) ≤ m) : 2 ^ k ≤ m / 2 := by rw [Nat.le_div_iff_mul_le (by omega)]; rw [Nat.pow_succ] at h; omega
theorem cut_eq {kd : BitVec 8} {d m k : Nat} (hm : m < 128) (hk : 2 ^ (k + 1) ≤ m) (hk2 : k ≤ 60) : cover_tree_cut ⟨kd, (d : Int), (strd d : Int)⟩ ((m / 2 ^ (k + 1) : Nat) : Int) (m : Int) = some ((fstS d (pathN (m / 2) k) : Nat) : Int) := by
  unfold cover_tree_cut cover_path cover_first_cover_path_1_cover_tree_special
  rw [show shG (un 1#64) = some 1 from by decide, bind_some, bind_some, shr_nat _ _ (by omega), Nat.pow_one]
  simp only
  have e : m / 2 ^ (k + 1) = m / 2 / 2 ^ k := by rw [Nat.div_div_eq_div_mul, Nat.pow_succ, Nat.mul_comm 2]
  have hp := half_pow hk
  rw [e, path_eq (by omega) hp (by omega), bind_some, first_eq _ (fun n hn => by have := pathN_bd hp hn; omega), bind_some]
end Go.Sx

end
section
set_option linter.unusedVariables false
set_option linter.unusedSimpArgs false
namespace Go.Sx
open Go
theorem fix_from {α σ τ R : Type} (l : List α) (F : (τ → Option R) → τ → Option R) (pk : Nat → σ → τ) (B : α → (σ → Option R) → σ → Option R) (D : σ → Option R)
    (h1 : ∀ rec (j : Nat) (hj : j < l.length) s, F rec (pk j s) = B l[j] (fun s' => rec (pk (j + 1) s')) s) (h2 : ∀ rec s, F rec (pk l.length s) = D s) :
    ∀ (m j f : Nat) (s : σ), j + m = l.length → m < f → fixN F f (pk j s) = itL B D (l.drop j) s
  | m, j, 0, s, _, h => by omega
  | 0, j, f + 1, s, hj, _ => by
    have : j = l.length := by omega
    subst this
    rw [fix_step, h2, List.drop_length]; rfl
  | m + 1, j, f + 1, s, hj, hf => by
    have hjl : j < l.length := by omega
    rw [fix_step, h1 _ j hjl, List.drop_eq_getElem_cons hjl, itL_cons]
    have : (fun s' => fixN F f (pk (j + 1) s')) = itL B D (l.drop (j + 1)) := funext fun s' => fix_from l F pk B D h1 h2 m (j + 1) f s' (by omega) (by omega)
    rw [this]
/-- a loop over the indexes of a list -/
theorem fix_itL {α σ τ R : Type} (l : List α) (F : (τ → Option R) → τ → Option R) (pk : Nat → σ → τ) (B : α → (σ → Option R) → σ → Option R) (D : σ → Option R)
    (h1 : ∀ rec (j : Nat) (hj : j < l.length) s, F rec (pk j s) = B l[j] (fun s' => rec (pk (j + 1) s')) s) (h2 : ∀ rec s, F rec (pk l.length s) = D s) {f : Nat} (hf : l.length < f) (s : σ) : fixN F f (pk 0 s) = itL B D l s := by
  have := fix_from l F pk B D h1 h2 l.length 0 f s (by omega) hf
  rwa [List.drop_zero] at this
/-- a loop over numbers below n -/
theorem fix_range {σ τ R : Type} (n : Nat) (F : (τ → Option R) → τ → Option R) (pk : Nat → σ → τ) (B : Nat → (σ → Option R) → σ → Option R) (D : σ → Option R)
    (h1 : ∀ rec (j : Nat) (hj : j < n) s, F rec (pk j s) = B j (fun s' => rec (pk (j + 1) s')) s) (h2 : ∀ rec s, F rec (pk n s) = D s) {f : Nat} (hf : n < f) (s : σ) : fixN F f (pk 0 s) = itL B D (List.range n) s :=
  fix_itL (List.range n) F pk B D (fun rec j hj s => by rw [List.length_range] at hj; rw [h1 rec j hj, List.getElem_range]) (fun rec s => by rw [List.length_range]; exact h2 rec s) (by rw [List.length_range]; exact hf) s
/-- a state that turns, with no way out -/
theorem itL_fold {α σ R : Type} (g : σ → α → σ) (F : α → (σ → Option R) → σ → Option R) (d : σ → Option R) (I : Nat → σ → Prop) : ∀ (l : List α) (k : Nat) (s : σ), (∀ j (a : α) s nx, a ∈ l → I j s → F a nx s = nx (g s a)) → (∀ j (a : α) s, a ∈ l → I j s → I (j + 1) (g s a)) → I k s → itL F d l s = d (l.foldl g s)
  | [], k, s, _, _, _ => rfl
  | a :: l, k, s, h, hi, hs => by
    rw [itL_cons, h k a s _ (by simp) hs, List.foldl_cons]
    exact itL_fold g F d I l (k + 1) (g s a) (fun j b s nx hb => h j b s nx (by simp [hb])) (fun j b s hb => hi j b s (by simp [hb])) (hi k a s (by simp) hs)
theorem w64_nat {n : Nat} (h : n < 9223372036854775807) : w64 ((n : Int) + 1) = ((n + 1 : Nat) : Int) := by rw [w64_id (by omega) (by omega)]; omega
end Go.Sx

end
section
set_option linter.unusedVariables false
set_option linter.unusedSimpArgs false
namespace Go.Sx
open Go
theorem leaf_eq {k : BitVec 8} {d u : Nat} {st : Int} (h : d ≤ 6) (hu : u < 128) : cover_tree_leaf ⟨k, (d : Int), st⟩ (u : Int) = some ((2 ^ d + u : Nat) : Int) := by
  have := pow_le64 h
  unfold cover_tree_leaf
  rw [size_eq h, bind_some]
  generalize 2 ^ d = m at *
  rw [w64_id (by omega) (by omega)]; congr 1
/-! both sides' way in -/
theorem enter0 (s : TScheme) : cover_enter s ([] : List TSubset) = some (if vldB s then (treeI s, 0) else (Tcover_tree.mk 0#8 0 0, 30)) := by
  unfold cover_enter
  rw [treeOf_eq, bind_some]
  cases hv : vldB s with
  | false => rfl
  | true => rfl
end Go.Sx

end
section
set_option linter.unusedVariables false
set_option linter.unusedSimpArgs false
set_option maxRecDepth 100000
namespace Go.Sx
open Go
/-- whether a node v and a node w strictly below it are a subset, in the kinds 2 and 3 -/
def subN (k : BitVec 8) (d v w : Nat) : Bool := decide (k = 2#8) || spcl d v || decide (fstS d (pathN (w / 2) (Nat.log2 w - Nat.log2 v - 1)) = 0)
theorem kind_cases {k : BitVec 8} (h1 : 1#8 ≤ k) (h3 : k ≤ 3#8) : k = 1#8 ∨ k = 2#8 ∨ k = 3#8 := by
  have a : 1 ≤ k.toNat := h1
  have b : k.toNat ≤ 3 := h3
  rcases (show k.toNat = 1 ∨ k.toNat = 2 ∨ k.toNat = 3 by omega) with h | h | h
  · exact .inl (BitVec.eq_of_toNat_eq h)
  · exact .inr (.inl (BitVec.eq_of_toNat_eq h))
  · exact .inr (.inr (BitVec.eq_of_toNat_eq h))
theorem vld_kind {s : TScheme} (h : vldB s = true) : 1#8 ≤ s.Kind ∧ s.Kind ≤ 3#8 := by
  unfold vldB at h
  have := of_decide_eq_true h
  exact ⟨this.1, this.2.1⟩
end Go.Sx

end
section
set_option linter.unusedVariables false
set_option linter.unusedSimpArgs false
set_option maxRecDepth 100000
namespace Go.Sx
open Go
theorem below_iff {w v : Nat} (hw : 1 ≤ w) : belowB w v = true ↔ ∃ k, 2 ^ k ≤ w ∧ v = w / 2 ^ k := by
  constructor
  · intro h
    unfold belowB at h
    obtain ⟨h1, h2⟩ := of_decide_eq_true h
    exact ⟨_, Nat.le_trans (Nat.pow_le_pow_right (by omega) (by omega)) (Nat.log2_self_le (by omega)), h2.symm⟩
  · rintro ⟨k, h1, rfl⟩
    unfold belowB
    have h2 := log2_divk h1
    have h3 := log2_div w k h1
    apply decide_eq_true
    refine ⟨by omega, ?_⟩
    rw [h2, show Nat.log2 w - (Nat.log2 w - k) = k from by omega]
theorem below_pos {w v : Nat} (hw : 1 ≤ w) (h : belowB w v = true) : 1 ≤ v := by
  obtain ⟨k, h1, rfl⟩ := (below_iff hw).1 h
  exact div_pos' h1
theorem pow_div_le {w i j : Nat} (h : 2 ^ (i + j) ≤ w) : 2 ^ j ≤ w / 2 ^ i := by
  rw [Nat.le_div_iff_mul_le (Nat.two_pow_pos i), ← Nat.pow_add, Nat.add_comm]; exact h
theorem pow_div_le' {w i j : Nat} (h : 2 ^ j ≤ w / 2 ^ i) : 2 ^ (i + j) ≤ w := by
  rw [Nat.le_div_iff_mul_le (Nat.two_pow_pos i), ← Nat.pow_add, Nat.add_comm] at h; exact h
theorem below_log {w v : Nat} (hw : 1 ≤ w) (h : belowB w v = true) : Nat.log2 v ≤ Nat.log2 w := by
  unfold belowB at h
  exact (of_decide_eq_true h).1
/-! siblings -/
theorem sib_fin : ∀ n : Fin 128, (n.1 ^^^ 1) / 2 = n.1 / 2 ∧ n.1 ^^^ 1 ≠ n.1 ∧ n.1 ^^^ 1 < 128 ∧ (2 ≤ n.1 → Nat.log2 (n.1 ^^^ 1) = Nat.log2 n.1 ∧ 2 ≤ n.1 ^^^ 1) ∧ n.1 ^^^ 1 ^^^ 1 = n.1 := by decide +kernel
theorem sib_half {n : Nat} (h : n < 128) : (n ^^^ 1) / 2 = n / 2 := (sib_fin ⟨n, h⟩).1
theorem sib_lt {n : Nat} (h : n < 128) : n ^^^ 1 < 128 := (sib_fin ⟨n, h⟩).2.2.1
theorem sib_log {n : Nat} (h : n < 128) (h2 : 2 ≤ n) : Nat.log2 (n ^^^ 1) = Nat.log2 n := ((sib_fin ⟨n, h⟩).2.2.2.1 h2).1
theorem sib_two_le {n : Nat} (h : n < 128) (h2 : 2 ≤ n) : 2 ≤ n ^^^ 1 := ((sib_fin ⟨n, h⟩).2.2.2.1 h2).2
theorem sib_sib {n : Nat} (h : n < 128) : n ^^^ 1 ^^^ 1 = n := (sib_fin ⟨n, h⟩).2.2.2.2
theorem bit_xor {n : Nat} (h : n < 128) : bitI .xor (n : Int) 1 = ((n ^^^ 1 : Nat) : Int) := by
  have : ∀ n : Fin 128, bitI .xor (n.1 : Int) 1 = ((n.1 ^^^ 1 : Nat) : Int) := by decide +kernel
  exact this ⟨n, h⟩
/-! paths -/
theorem pathN_mem {w k n : Nat} : n ∈ pathN w k ↔ ∃ j, j < k ∧ n = w / 2 ^ j := by
  induction k with
  | zero => simp [pathN]
  | succ k ih =>
    rw [pathN, List.mem_cons, ih]
    constructor
    · rintro (rfl | ⟨j, hj, rfl⟩)
      · exact ⟨k, by omega, rfl⟩
      · exact ⟨j, by omega, rfl⟩
    · rintro ⟨j, hj, rfl⟩
      rcases Nat.lt_or_ge j k with h | h
      · exact .inr ⟨j, h, rfl⟩
      · obtain rfl : j = k := by omega
        exact .inl rfl
theorem leaf_log {d u : Nat} (hu : u < 2 ^ d) : Nat.log2 (2 ^ d + u) = d := by
  rw [Nat.log2_eq_iff (by have := Nat.two_pow_pos d; omega), Nat.pow_succ]; omega
theorem node_log {d n : Nat} (h1 : 1 ≤ n) (h : n < 2 ^ (d + 1)) : Nat.log2 n ≤ d := by
  have := (Nat.log2_lt (n := n) (k := d + 1) (by omega)).2 h; omega
end Go.Sx

end
section
set_option linter.unusedVariables false
set_option linter.unusedSimpArgs false
set_option maxRecDepth 100000
namespace Go.Sx
open Go
/-- whether a revoked receiver is below a node -/
def hotB (d : Nat) (R : List Nat) (v : Nat) : Bool := R.any fun u => belowB (2 ^ d + u) v
theorem hot_iff {d : Nat} {R : List Nat} {v : Nat} : hotB d R v = true ↔ ∃ u ∈ R, belowB (2 ^ d + u) v = true := by unfold hotB; rw [List.any_eq_true]
theorem dbl_fin : ∀ n : Fin 64, (2 * n.1) ^^^ 1 = 2 * n.1 + 1 ∧ (2 * n.1 + 1) ^^^ 1 = 2 * n.1 := by decide +kernel
theorem dbl0 {n : Nat} (h : n < 64) : (2 * n) ^^^ 1 = 2 * n + 1 := (dbl_fin ⟨n, h⟩).1
theorem dbl1 {n : Nat} (h : n < 64) : (2 * n + 1) ^^^ 1 = 2 * n := (dbl_fin ⟨n, h⟩).2
theorem div_succ (a b : Nat) : a / 2 ^ (b + 1) = a / 2 ^ b / 2 := by rw [Nat.pow_succ, Nat.div_div_eq_div_mul]
theorem below_kids {L v : Nat} (hL : 1 ≤ L) (hlt : Nat.log2 v < Nat.log2 L) (hv : 1 ≤ v) : belowB L v = (belowB L (2 * v) || belowB L (2 * v + 1)) := by
  rw [Bool.eq_iff_iff, Bool.or_eq_true, below_iff hL, below_iff hL, below_iff hL]
  constructor
  · rintro ⟨k, h1, h2⟩
    have hl := log2_div L k h1
    rw [← h2] at hl
    obtain ⟨j, rfl⟩ : ∃ j, k = j + 1 := ⟨k - 1, by omega⟩
    have h3 : 2 ^ j ≤ L := Nat.le_trans (Nat.pow_le_pow_right (by omega) (by omega)) h1
    rw [div_succ] at h2
    rcases (show L / 2 ^ j = 2 * v ∨ L / 2 ^ j = 2 * v + 1 by omega) with e | e
    · exact .inl ⟨j, h3, e.symm⟩
    · exact .inr ⟨j, h3, e.symm⟩
  · rintro (⟨j, h1, h2⟩ | ⟨j, h1, h2⟩)
    · exact ⟨j + 1, pow_div_le' (j := 1) (by rw [← h2]; omega), by rw [div_succ, ← h2]; omega⟩
    · exact ⟨j + 1, pow_div_le' (j := 1) (by rw [← h2]; omega), by rw [div_succ, ← h2]; omega⟩
theorem log2_dbl {v b : Nat} (hv : 1 ≤ v) (hb : b < 2) : Nat.log2 (2 * v + b) = Nat.log2 v + 1 := by
  rw [log2_half (by omega), show (2 * v + b) / 2 = v from by omega]
section
variable {d : Nat} {R : List Nat}
/-- receivers -/
def Rcv (d : Nat) (R : List Nat) : Prop := d ≤ 6 ∧ ∀ u ∈ R, u < 2 ^ d
theorem Rcv.leaf (h : Rcv d R) {u : Nat} (hu : u ∈ R) : 1 ≤ 2 ^ d + u ∧ 2 ^ d + u < 128 ∧ Nat.log2 (2 ^ d + u) = d := by
  have := pow_le64 h.1
  have := h.2 u hu
  have := Nat.two_pow_pos d
  exact ⟨by omega, by omega, leaf_log (h.2 u hu)⟩
theorem node_lt {v : Nat} (hv : 1 ≤ v) : v < 2 ^ d ↔ Nat.log2 v < d := by rw [Nat.log2_lt (by omega)]
/-- an inner node is hot just if a child is -/
theorem hot_kids (h : Rcv d R) {v : Nat} (hv : 1 ≤ v) (hl : Nat.log2 v < d) : hotB d R v = (hotB d R (2 * v) || hotB d R (2 * v + 1)) := by
  rw [Bool.eq_iff_iff, Bool.or_eq_true, hot_iff, hot_iff, hot_iff]
  constructor
  · rintro ⟨u, hu, hb⟩
    obtain ⟨h1, h2, h3⟩ := h.leaf hu
    rw [below_kids h1 (by omega) hv, Bool.or_eq_true] at hb
    rcases hb with hb | hb
    · exact .inl ⟨u, hu, hb⟩
    · exact .inr ⟨u, hu, hb⟩
  · rintro (⟨u, hu, hb⟩ | ⟨u, hu, hb⟩) <;>
    · obtain ⟨h1, h2, h3⟩ := h.leaf hu
      refine ⟨u, hu, ?_⟩
      rw [below_kids h1 (by omega) hv, hb]; simp
theorem hot_log (h : Rcv d R) {v : Nat} (hv : hotB d R v = true) : 1 ≤ v ∧ Nat.log2 v ≤ d ∧ v < 2 ^ (d + 1) := by
  obtain ⟨u, hu, hb⟩ := hot_iff.1 hv
  obtain ⟨h1, h2, h3⟩ := h.leaf hu
  have hp := below_pos h1 hb
  have hl := below_log h1 hb
  rw [h3] at hl
  exact ⟨hp, hl, (Nat.log2_lt (by omega)).1 (by omega)⟩
theorem hot_up (h : Rcv d R) {v : Nat} (hv : hotB d R v = true) (h2 : 2 ≤ v) : hotB d R (v / 2) = true := by
  obtain ⟨h1, hl, _⟩ := hot_log h hv
  have hh := log2_half h2
  rw [hot_kids h (by omega) (by omega)]
  rcases (show 2 * (v / 2) = v ∨ 2 * (v / 2) + 1 = v by omega) with e | e
  · rw [e, hv]; simp
  · rw [e, hv]; simp
theorem hot_ups (h : Rcv d R) {v : Nat} (hv : hotB d R v = true) : ∀ k, 2 ^ k ≤ v → hotB d R (v / 2 ^ k) = true
  | 0, _ => by simpa using hv
  | k + 1, hk => by
    rw [div_succ]
    have h1 : 2 ^ k ≤ v := Nat.le_trans (Nat.pow_le_pow_right (by omega) (by omega)) hk
    refine hot_up h (hot_ups h hv k h1) ?_
    have := pow_div_le (i := k) (j := 1) hk
    simpa using this
/-- exactly one child is hot -/
def brN (d : Nat) (R : List Nat) (v : Nat) : Bool := hotB d R (2 * v) != hotB d R (2 * v + 1)
def nxN (d : Nat) (R : List Nat) (v : Nat) : Nat := if hotB d R (2 * v) then 2 * v else 2 * v + 1
def footN (d : Nat) (R : List Nat) : Nat → Nat → Nat
  | 0, v => v
  | f + 1, v => if brN d R v then footN d R f (nxN d R v) else v
theorem br_inner (h : Rcv d R) {v : Nat} (hv : 1 ≤ v) (hb : brN d R v = true) : Nat.log2 v < d ∧ hotB d R v = true := by
  unfold brN at hb
  have hx : hotB d R (2 * v) = true ∨ hotB d R (2 * v + 1) = true := by
    cases h1 : hotB d R (2 * v) <;> cases h2 : hotB d R (2 * v + 1) <;> simp_all
  have hl : Nat.log2 v < d := by
    rcases hx with hx | hx
    · have := (hot_log h hx).2.1; have := log2_dbl hv (b := 0) (by omega); simp at this; omega
    · have := (hot_log h hx).2.1; have := log2_dbl hv (b := 1) (by omega); omega
  refine ⟨hl, ?_⟩
  rw [hot_kids h hv hl]
  rcases hx with hx | hx <;> simp [hx]
/-- the nodes from below v down to w are hot, and their siblings are not -/
def Chn (d : Nat) (R : List Nat) (v w : Nat) : Prop := ∃ k, 2 ^ k ≤ w ∧ v = w / 2 ^ k ∧ ∀ j, j < k → hotB d R (w / 2 ^ j) = true ∧ hotB d R ((w / 2 ^ j) ^^^ 1) = false
theorem foot_spec (h : Rcv d R) : ∀ (f v : Nat), 1 ≤ v → Nat.log2 v ≤ d → d - Nat.log2 v < f → 1 ≤ footN d R f v ∧ Nat.log2 (footN d R f v) ≤ d ∧ brN d R (footN d R f v) = false ∧ Chn d R v (footN d R f v)
  | 0, v, _, _, hf => by omega
  | f + 1, v, hv, hl, hf => by
    unfold footN
    cases hb : brN d R v with
    | false => exact ⟨by simpa using hv, by simpa using hl, by simpa using hb, ⟨0, by simpa using hv, by simp, fun j hj => by omega⟩⟩
    | true =>
      rw [if_pos rfl]
      obtain ⟨hl2, _⟩ := br_inner h hv hb
      have h64 := pow_le64 h.1
      have hv64 : v < 64 := by have := (node_lt (d := d) hv).2 hl2; omega
      have hc : (nxN d R v) / 2 = v ∧ 2 ≤ nxN d R v ∧ Nat.log2 (nxN d R v) = Nat.log2 v + 1 ∧ hotB d R (nxN d R v) = true ∧ hotB d R (nxN d R v ^^^ 1) = false := by
        unfold nxN
        unfold brN at hb
        cases h1 : hotB d R (2 * v) with
        | true =>
          rw [h1] at hb
          rw [if_pos rfl]
          refine ⟨by omega, by omega, log2_dbl hv (b := 0) (by omega), h1, ?_⟩
          rw [dbl0 hv64]; simpa using hb
        | false =>
          rw [h1] at hb
          rw [if_neg (by simp)]
          refine ⟨by omega, by omega, log2_dbl hv (b := 1) (by omega), by simpa using hb, ?_⟩
          rw [dbl1 hv64]; exact h1
      obtain ⟨c1, c2, c3, c4, c5⟩ := hc
      obtain ⟨g1, g2, g3, k, g4, g5, g6⟩ := foot_spec h f (nxN d R v) (by omega) (by omega) (by omega)
      refine ⟨g1, g2, g3, k + 1, ?_, ?_, ?_⟩
      · exact pow_div_le' (j := 1) (by rw [← g5]; omega)
      · rw [div_succ, ← g5]; exact c1.symm
      · intro j hj
        rcases Nat.lt_or_ge j k with hjk | hjk
        · exact g6 j hjk
        · obtain rfl : j = k := by omega
          rw [← g5]; exact ⟨c4, c5⟩
/-- the head of a node: from it on upwards, the first with a hot sibling, or the root -/
def hdN (d : Nat) (R : List Nat) : Nat → Nat → Nat
  | 0, x => x
  | f + 1, x => if x = 1 ∨ hotB d R (x ^^^ 1) = true then x else hdN d R f (x / 2)
def isHd (d : Nat) (R : List Nat) (v : Nat) : Bool := decide (v = 1) || hotB d R (v ^^^ 1)
theorem hd_self {f x : Nat} (h : isHd d R x = true) : hdN d R f x = x := by
  cases f with
  | zero => rfl
  | succ f =>
    unfold hdN
    unfold isHd at h
    rw [Bool.or_eq_true, decide_eq_true_eq] at h
    rw [if_pos h]
theorem hd_chain {v w : Nat} (hv : isHd d R v = true) (hv1 : 1 ≤ v) : ∀ (j k f : Nat), 2 ^ (j + k) ≤ w → v = w / 2 ^ (j + k) → (∀ i, j ≤ i → i < j + k → hotB d R ((w / 2 ^ i) ^^^ 1) = false) → k ≤ f → hdN d R f (w / 2 ^ j) = v
  | j, 0, f, h1, h2, _, _ => by rw [Nat.add_zero] at h2; rw [← h2]; exact hd_self hv
  | j, k + 1, 0, h1, h2, h3, hf => by omega
  | j, k + 1, f + 1, h1, h2, h3, hf => by
    unfold hdN
    have h4 := h3 j (by omega) (by omega)
    have h5 : w / 2 ^ j ≠ 1 := by
      have := pow_div_le (w := w) (i := j) (j := 1) (Nat.le_trans (Nat.pow_le_pow_right (by omega) (by omega)) h1)
      simp at this; omega
    rw [if_neg (by rw [h4]; simp [h5]), ← div_succ]
    exact hd_chain hv hv1 (j + 1) k f (by rw [show j + 1 + k = j + (k + 1) from by omega]; exact h1) (by rw [show j + 1 + k = j + (k + 1) from by omega]; exact h2) (fun i h6 h7 => h3 i (by omega) (by omega)) (by omega)
theorem hd_spec : ∀ (f x : Nat), 1 ≤ x → Nat.log2 x < f → isHd d R (hdN d R f x) = true ∧ ∃ i, 2 ^ i ≤ x ∧ hdN d R f x = x / 2 ^ i ∧ ∀ t, t < i → isHd d R (x / 2 ^ t) = false
  | 0, x, _, h => by omega
  | f + 1, x, hx, hf => by
    unfold hdN
    by_cases hc : x = 1 ∨ hotB d R (x ^^^ 1) = true
    · rw [if_pos hc]; exact ⟨by unfold isHd; simpa using hc, 0, by simpa using hx, by simp, fun t ht => by omega⟩
    · rw [if_neg hc]
      have hx2 : 2 ≤ x := by rw [not_or] at hc; omega
      have hh := log2_half hx2
      obtain ⟨h1, i, h2, h3, h4⟩ := hd_spec f (x / 2) (by omega) (by omega)
      refine ⟨h1, i + 1, ?_, ?_, ?_⟩
      · rw [Nat.pow_succ]; omega
      · rw [h3, Nat.div_div_eq_div_mul, Nat.pow_succ, Nat.mul_comm 2]
      · intro t ht
        cases t with
        | zero => simp only [Nat.pow_zero, Nat.div_one]; unfold isHd; simpa [not_or] using hc
        | succ t =>
          have := h4 t (by omega)
          rw [Nat.div_div_eq_div_mul, show 2 * 2 ^ t = 2 ^ (t + 1) from by rw [Nat.pow_succ, Nat.mul_comm]] at this; exact this
/-- the first special node strictly between -/
def cutN (d v w : Nat) : Nat := fstS d (pathN (w / 2) (Nat.log2 w - Nat.log2 v - 1))
/-- Minus of the cover's subset with a Node, if there is one -/
def minN (k : BitVec 8) (d : Nat) (R : List Nat) (x : Nat) : Option Nat :=
  if k = 1#8 then (if !hotB d R x && (decide (x = 1) || hotB d R (x / 2)) then some 0 else none)
  else if hotB d R x then
    (if footN d R 7 (hdN d R 7 x) = hdN d R 7 x then none
    else if x = hdN d R 7 x then some (if subN k d (hdN d R 7 x) (footN d R 7 (hdN d R 7 x)) then footN d R 7 (hdN d R 7 x) else cutN d (hdN d R 7 x) (footN d R 7 (hdN d R 7 x)))
    else if !subN k d (hdN d R 7 x) (footN d R 7 (hdN d R 7 x)) && decide (x = cutN d (hdN d R 7 x) (footN d R 7 (hdN d R 7 x))) then some (footN d R 7 (hdN d R 7 x)) else none)
  else none
def nodN (d : Nat) : List Nat := (List.range (2 ^ (d + 1) - 1)).map (· + 1)
/-- the cover -/
def covN (k : BitVec 8) (d : Nat) (R : List Nat) : List (Nat × Nat) := (nodN d).filterMap fun x => (minN k d R x).map fun m => (x, m)
theorem nod_mem {x : Nat} : x ∈ nodN d ↔ 1 ≤ x ∧ x < 2 ^ (d + 1) := by
  unfold nodN
  rw [List.mem_map]
  constructor
  · rintro ⟨a, ha, rfl⟩; have := List.mem_range.1 ha; omega
  · rintro ⟨h1, h2⟩; exact ⟨x - 1, List.mem_range.2 (by omega), by omega⟩
theorem cov_mem {k : BitVec 8} {y : Nat × Nat} : y ∈ covN k d R ↔ (1 ≤ y.1 ∧ y.1 < 2 ^ (d + 1)) ∧ minN k d R y.1 = some y.2 := by
  unfold covN
  rw [List.mem_filterMap]
  constructor
  · rintro ⟨x, hx, he⟩
    obtain ⟨m, hm, rfl⟩ := Option.map_eq_some_iff.1 he
    exact ⟨nod_mem.1 hx, hm⟩
  · rintro ⟨h1, h2⟩; exact ⟨y.1, nod_mem.2 h1, by rw [h2]; rfl⟩
/-- strictly ascending -/
def Asc (l : List (Nat × Nat)) : Prop := l.Pairwise fun a b => a.1 < b.1
theorem cov_asc {k : BitVec 8} : Asc (covN k d R) := by
  unfold Asc covN
  rw [List.pairwise_filterMap]
  have : (nodN d).Pairwise fun a b => a < b := by
    unfold nodN
    rw [List.pairwise_map]
    exact List.pairwise_lt_range.imp (by omega)
  refine this.imp ?_
  intro a b hab y hy z hz
  obtain ⟨_, _, rfl⟩ := Option.map_eq_some_iff.1 hy
  obtain ⟨_, _, rfl⟩ := Option.map_eq_some_iff.1 hz
  exact hab
theorem asc_ext : ∀ {l m : List (Nat × Nat)}, Asc l → Asc m → (∀ y, y ∈ l ↔ y ∈ m) → l = m
  | [], [], _, _, _ => rfl
  | [], b :: m, _, _, h => absurd ((h b).2 (by simp)) (by simp)
  | a :: l, [], _, _, h => absurd ((h a).1 (by simp)) (by simp)
  | a :: l, b :: m, hl, hm, h => by
    have ha := List.pairwise_cons.1 hl
    have hb := List.pairwise_cons.1 hm
    have hab : a = b := by
      rcases List.mem_cons.1 ((h a).1 (by simp)) with e | e
      · exact e
      · rcases List.mem_cons.1 ((h b).2 (by simp)) with e2 | e2
        · exact e2.symm
        · have := ha.1 b e2; have := hb.1 a e; omega
    subst hab
    congr 1
    refine asc_ext ha.2 hb.2 fun y => ?_
    constructor
    · intro hy
      rcases List.mem_cons.1 ((h y).1 (by simp [hy])) with e | e
      · subst e; have := ha.1 y hy; omega
      · exact e
    · intro hy
      rcases List.mem_cons.1 ((h y).2 (by simp [hy])) with e | e
      · subst e; have := hb.1 y hy; omega
      · exact e
/-- what comes of a hot node: the program's way -/
def outP (k : BitVec 8) (d : Nat) (R : List Nat) (v : Nat) : List (Nat × Nat) :=
  if k = 1#8 then (if v ≠ 1 ∧ hotB d R (v ^^^ 1) = false then [(v ^^^ 1, 0)] else [])
  else if isHd d R v then (if footN d R 7 v = v then [] else if subN k d v (footN d R 7 v) then [(v, footN d R 7 v)] else [(v, cutN d v (footN d R 7 v)), (cutN d v (footN d R 7 v), footN d R 7 v)])
  else []
/-- from which hot node a subset of the cover comes -/
def ownN (k : BitVec 8) (d : Nat) (R : List Nat) (y : Nat × Nat) : Nat := if k = 1#8 then y.1 ^^^ 1 else hdN d R 7 y.1
theorem cut_chain {k : BitVec 8} {v w : Nat} (hK : 2 ^ k.toNat ≤ w ∨ True) {K : Nat} (h1 : 2 ^ K ≤ w) (h2 : v = w / 2 ^ K) (hv : 1 ≤ v) (hs : subN k d v w = false) : ∃ j, 1 ≤ j ∧ j < K ∧ cutN d v w = w / 2 ^ j := by
  have hl := log2_div w K h1
  rw [← h2] at hl
  unfold subN at hs
  simp only [Bool.or_eq_false_iff, decide_eq_false_iff_not] at hs
  have h0 : cutN d v w ≠ 0 := hs.2
  unfold cutN at h0 ⊢
  unfold fstS at h0 ⊢
  cases hf : (pathN (w / 2) (Nat.log2 w - Nat.log2 v - 1)).find? (spcl d) with
  | none => rw [hf] at h0; simp at h0
  | some c =>
    obtain ⟨j, hj, rfl⟩ := pathN_mem.1 (List.mem_of_find?_eq_some hf)
    refine ⟨j + 1, by omega, by omega, ?_⟩
    rw [Option.getD_some, Nat.div_div_eq_div_mul, show 2 * 2 ^ j = 2 ^ (j + 1) from by rw [Nat.pow_succ, Nat.mul_comm]]
theorem cov_own (h : Rcv d R) {k : BitVec 8} (hne : R ≠ []) {v : Nat} (hv : hotB d R v = true) (y : Nat × Nat) : (y ∈ covN k d R ∧ ownN k d R y = v) ↔ y ∈ outP k d R v := by
  have h64 := pow_le64 h.1
  have hpow : 2 ^ (d + 1) = 2 * 2 ^ d := by rw [Nat.pow_succ, Nat.mul_comm]
  obtain ⟨v1, vl, v2⟩ := hot_log h hv
  rw [cov_mem]
  by_cases hk : k = 1#8
  · unfold minN ownN outP
    rw [if_pos hk, if_pos hk, if_pos hk]
    have hroot : hotB d R 1 = true := by
      obtain ⟨u, hu⟩ := List.exists_mem_of_ne_nil R hne
      obtain ⟨l1, l2, l3⟩ := h.leaf hu
      exact hot_iff.2 ⟨u, hu, (below_iff l1).2 ⟨d, by omega, by rw [Nat.add_div_left _ (Nat.two_pow_pos d), Nat.div_eq_of_lt (h.2 u hu)]⟩⟩
    constructor
    · rintro ⟨⟨⟨y1, y2⟩, hm⟩, rfl⟩
      split at hm
      · rename_i hc
        simp only [Bool.and_eq_true, Bool.not_eq_true', Bool.or_eq_true, decide_eq_true_eq] at hc
        have hy0 : y.2 = 0 := (Option.some.inj hm).symm
        have hyn : y.1 ≠ 1 := fun e => by rw [e] at hc; rw [hroot] at hc; simp at hc
        have hss := sib_sib (n := y.1) (by omega)
        rw [hss]
        have hs1 : y.1 ^^^ 1 ≠ 1 := by have := sib_two_le (n := y.1) (by omega) (by omega); omega
        rw [if_pos ⟨hs1, hc.1⟩]
        simp only [List.mem_singleton]
        cases y; simp only at *; rw [hy0]
      · cases hm
    · intro hy
      split at hy
      · rename_i hc
        simp only [List.mem_singleton] at hy
        subst hy
        simp only
        have hv2 : 2 ≤ v := by omega
        have e1 := sib_lt (n := v) (by omega)
        have e2 := sib_two_le (n := v) (by omega) hv2
        have e3 := sib_log (n := v) (by omega) hv2
        refine ⟨⟨⟨by omega, ?_⟩, ?_⟩, sib_sib (by omega)⟩
        · exact (Nat.log2_lt (by omega)).1 (by omega)
        · rw [if_pos]
          simp only [Bool.and_eq_true, Bool.not_eq_true', Bool.or_eq_true, decide_eq_true_eq]
          refine ⟨hc.2, .inr ?_⟩
          rw [sib_half (by omega)]; exact hot_up h hv hv2
      · cases hy
  · unfold minN ownN outP
    rw [if_neg hk, if_neg hk, if_neg hk]
    constructor
    · rintro ⟨⟨⟨y1, y2⟩, hm⟩, rfl⟩
      have hl7 : Nat.log2 y.1 < 7 := by have := (Nat.log2_lt (n := y.1) (k := d + 1) (by omega)).2 y2; have := h.1; omega
      rw [if_pos (hd_spec 7 y.1 y1 hl7).1]
      generalize hdN d R 7 y.1 = v at *
      generalize footN d R 7 v = w at *
      split at hm
      · split at hm
        · cases hm
        · rename_i h1 h2
          rw [if_neg h2]
          split at hm
          · rename_i h3
            have hm' := Option.some.inj hm
            split
            · rename_i h4
              rw [if_pos h4] at hm'
              simp only [List.mem_singleton]; cases y; simp only at *; rw [h3, hm']
            · rename_i h4
              rw [if_neg h4] at hm'
              simp only [List.mem_cons, List.not_mem_nil, or_false]; left; cases y; simp only at *; rw [h3, hm']
          · split at hm
            · rename_i h3 h4
              simp only [Bool.and_eq_true, Bool.not_eq_true', decide_eq_true_eq] at h4
              rw [if_neg (by rw [h4.1]; simp)]
              simp only [List.mem_cons, List.not_mem_nil, or_false]; right
              have hm' := Option.some.inj hm
              cases y; simp only at *; rw [← h4.2, hm']
            · cases hm
      · cases hm
    · intro hy
      split at hy
      · rename_i hh
        obtain ⟨w1, w2, w3, K, w4, w5, w6⟩ := foot_spec h 7 v v1 vl (by have := h.1; omega)
        generalize hw : footN d R 7 v = w at *
        have hs : hdN d R 7 v = v := hd_self hh
        split at hy
        · cases hy
        · rename_i hne2
          split at hy
          · rename_i h4
            simp only [List.mem_singleton] at hy
            subst hy
            simp only [hs, hw, hv, if_true, if_neg hne2, h4]
            exact ⟨⟨⟨v1, v2⟩, trivial⟩, trivial⟩
          · rename_i h4
            have h4' : subN k d v w = false := by simpa using h4
            simp only [List.mem_cons, List.not_mem_nil, or_false] at hy
            rcases hy with rfl | rfl
            · simp only [hs, hw, hv, if_true, if_neg hne2, h4', Bool.false_eq_true, if_false]
              exact ⟨⟨⟨v1, v2⟩, trivial⟩, trivial⟩
            · obtain ⟨j, j1, j2, j3⟩ := cut_chain (k := k) (d := d) (.inr trivial) w4 w5 v1 h4'
              have hlw := log2_div w K w4
              have hKd : K ≤ 6 := by have := h.1; omega
              have hc : hdN d R 7 (cutN d v w) = v := by
                rw [j3]
                exact hd_chain hh v1 j (K - j) 7 (by rw [show j + (K - j) = K from by omega]; exact w4) (by rw [show j + (K - j) = K from by omega]; exact w5) (fun i _ hi => (w6 i (by omega)).2) (by omega)
              have hj2 : 2 ^ j ≤ w := Nat.le_trans (Nat.pow_le_pow_right (by omega) (by omega)) w4
              have hch : hotB d R (cutN d v w) = true := by rw [j3]; exact (w6 j j2).1
              have hcv : cutN d v w ≠ v := by
                rw [j3, w5]; exact divk_ne w4 j2
              obtain ⟨c1, _, c3⟩ := hot_log h hch
              simp only [hc, hw, hch, if_true, if_neg hne2, if_neg hcv, h4']
              simp only [Bool.not_false, Bool.true_and, decide_true, if_true]
              exact ⟨⟨⟨c1, c3⟩, trivial⟩, trivial⟩
      · cases hy
theorem own_hot (h : Rcv d R) {k : BitVec 8} (hne : R ≠ []) {y : Nat × Nat} (hy : y ∈ covN k d R) : hotB d R (ownN k d R y) = true := by
  have h64 := pow_le64 h.1
  have hpow : 2 ^ (d + 1) = 2 * 2 ^ d := by rw [Nat.pow_succ, Nat.mul_comm]
  obtain ⟨⟨y1, y2⟩, hm⟩ := cov_mem.1 hy
  unfold minN at hm
  unfold ownN
  by_cases hk : k = 1#8
  · rw [if_pos hk] at hm ⊢
    split at hm
    · rename_i hc
      simp only [Bool.and_eq_true, Bool.not_eq_true', Bool.or_eq_true, decide_eq_true_eq] at hc
      have hroot : hotB d R 1 = true := by
        obtain ⟨u, hu⟩ := List.exists_mem_of_ne_nil R hne
        obtain ⟨l1, l2, l3⟩ := h.leaf hu
        exact hot_iff.2 ⟨u, hu, (below_iff l1).2 ⟨d, by omega, by rw [Nat.add_div_left _ (Nat.two_pow_pos d), Nat.div_eq_of_lt (h.2 u hu)]⟩⟩
      have hyn : y.1 ≠ 1 := fun e => by rw [e] at hc; rw [hroot] at hc; simp at hc
      have hp : hotB d R (y.1 / 2) = true := by
        rcases hc.2 with e | e
        · exact absurd e hyn
        · exact e
      have hlg := log2_half (n := y.1) (by omega)
      have hyl : Nat.log2 y.1 ≤ d := node_log y1 y2
      rw [hot_kids h (by omega) (by omega), Bool.or_eq_true] at hp
      have hz : y.1 / 2 < 64 := by omega
      rcases (show y.1 = 2 * (y.1 / 2) ∨ y.1 = 2 * (y.1 / 2) + 1 by omega) with e | e
      · have h2 : hotB d R (2 * (y.1 / 2)) = false := by rw [← e]; exact hc.1
        have : y.1 ^^^ 1 = 2 * (y.1 / 2) + 1 := by rw [← dbl0 hz, ← e]
        rw [this]; rw [h2] at hp; simpa using hp
      · have h2 : hotB d R (2 * (y.1 / 2) + 1) = false := by rw [← e]; exact hc.1
        have : y.1 ^^^ 1 = 2 * (y.1 / 2) := by rw [← dbl1 hz, ← e]
        rw [this]; rw [h2] at hp; simpa using hp
    · cases hm
  · rw [if_neg hk] at hm ⊢
    split at hm
    · rename_i hx
      have hl7 : Nat.log2 y.1 < 7 := by have := node_log y1 y2; have := h.1; omega
      obtain ⟨_, i, i1, i2, _⟩ := hd_spec (d := d) (R := R) 7 y.1 y1 hl7
      rw [i2]; exact hot_ups h hx i i1
    · cases hm
end
end Go.Sx

end
section
set_option linter.unusedVariables false
set_option linter.unusedSimpArgs false
namespace Go.Sx
open Go
end Go.Sx

end
section
set_option linter.unusedVariables false
set_option linter.unusedSimpArgs false
namespace Go.Sx
open Go
end Go.Sx

end
section
set_option linter.unusedVariables false
set_option linter.unusedSimpArgs false
namespace Go.Sx
open Go
theorem receiver_eq {k : BitVec 8} {d : Nat} {st u : Int} (h : d ≤ 6) : cover_tree_receiver ⟨k, (d : Int), st⟩ u = some (decide (0 ≤ u ∧ u < ((2 ^ d : Nat) : Int))) := by
  unfold cover_tree_receiver
  by_cases h0 : (0 : Int) ≤ u
  · rw [if_pos h0, size_eq h, bind_some]; congr 1; apply decide_eq_decide.2; omega
  · rw [if_neg h0]; congr 1; symm; apply decide_eq_false; omega
end Go.Sx

end
section
set_option linter.unusedVariables false
set_option linter.unusedSimpArgs false
namespace Go.Sx
open Go
/-! subsets, plainly -/
end Go.Sx

end
section
set_option linter.unusedVariables false
set_option linter.unusedSimpArgs false
namespace Go.Sx
open Go
section
variable {s : TScheme} {d u n m : Nat}
end
/-! lists of receivers -/
/-- whether numbers are receivers, in ascending order -/
def lstB (d : Nat) (l : List Int) : Bool := (List.range l.length).all fun j => decide (0 ≤ l.getD j 0 ∧ l.getD j 0 < ((2 ^ d : Nat) : Int)) && (decide (j = 0) || decide (l.getD (j - 1) 0 < l.getD j 0))
theorem getD_some {l : List Int} {j : Nat} (h : j < l.length) : l.getD j 0 = l[j] := by simp [List.getD, h]
theorem all_itL {σ : Type} (p : Nat → Bool) : ∀ (l : List Nat) (F : Nat → (σ → Option Bool) → σ → Option Bool) (s : σ), (∀ a ∈ l, ∀ nx s, F a nx s = bif p a then nx s else some false) → itL F (fun _ => some true) l s = some (l.all p)
  | [], F, s, _ => rfl
  | a :: l, F, s, h => by
    rw [itL_cons, h a (by simp), List.all_cons]
    cases p a with
    | false => rfl
    | true => rw [cond_true, Bool.true_and]; exact all_itL p l F s (fun b hb => h b (by simp [hb]))
theorem list_eq {kd : BitVec 8} {d : Nat} {st : Int} (h6 : d ≤ 6) (l : List Int) (hl : l.length < 4611686018427387904) : cover_tree_list ⟨kd, (d : Int), st⟩ l = some (lstB d l) := by
  unfold cover_tree_list lstB
  have := fix_range l.length (cover_tree_list_L1 ⟨kd, (d : Int), st⟩ l) (fun j (_ : Unit) => (j : Int)) (fun j nx s => bif decide (0 ≤ l.getD j 0 ∧ l.getD j 0 < ((2 ^ d : Nat) : Int)) && (decide (j = 0) || decide (l.getD (j - 1) 0 < l.getD j 0)) then nx s else some false) (fun _ => some true)
    (fun rec j hj _ => by
      simp only [cover_tree_list_L1, cover_tree_list_J2]
      rw [if_pos (by omega), getI_some hj, bind_some, receiver_eq h6, bind_some, getD_some hj, w64_nat (by omega)]
      by_cases h : 0 ≤ l[j] ∧ l[j] < ((2 ^ d : Nat) : Int)
      · rw [decide_eq_true h]
        simp only [Bool.not_true, cond_false, Bool.true_and]
        by_cases h0 : j = 0
        · rw [if_neg (by omega), decide_eq_true h0]; rfl
        · have hj1 : j - 1 < l.length := by omega
          rw [if_pos (by omega), w64_id (by omega) (by omega), show (j : Int) - 1 = ((j - 1 : Nat) : Int) from by omega, getI_some hj1, bind_some, decide_eq_false h0, Bool.false_or, getD_some hj1]
          by_cases h1 : l[j] ≤ l[j - 1]
          · rw [decide_eq_true h1, decide_eq_false (by omega)]; rfl
          · rw [decide_eq_false h1, decide_eq_true (by omega)]; rfl
      · rw [decide_eq_false h]; rfl)
    (fun rec _ => by simp only [cover_tree_list_L1]; rw [if_neg (by omega)]) (f := FUEL) (fuel_lt (by omega)) ()
  rw [show ((0 : Nat) : Int) = 0 from rfl] at this
  rw [this]
  exact all_itL _ _ _ _ (fun a _ nx s => rfl)
theorem lst_mem {d : Nat} {l : List Int} (h : lstB d l = true) {a : Int} (ha : a ∈ l) : ∃ u : Nat, a = (u : Int) ∧ u < 2 ^ d := by
  obtain ⟨j, hj, rfl⟩ := List.mem_iff_getElem.1 ha
  have := List.all_eq_true.1 h j (by simpa using hj)
  rw [Bool.and_eq_true, decide_eq_true_eq, getD_some hj] at this
  exact ⟨l[j].toNat, by omega, by omega⟩
end Go.Sx

end
section
set_option linter.unusedVariables false
set_option linter.unusedSimpArgs false
set_option maxRecDepth 100000
namespace Go.Sx
open Go
def mkS (y : Nat × Nat) : TSubset := ⟨(y.1 : Int), (y.2 : Int)⟩
/-! the hot nodes -/
def upF : Nat → Nat → List Int → List Int
  | 0, _, ks => ks
  | f + 1, n, ks => if n = 0 then ks else upF f (n / 2) (insS ks (n : Int))
theorem up_loop (a5 : Int) (rec1 : Int × List Int → Option (List TSubset × Int)) : ∀ (f fuel n : Nat) (ks : List Int), n < 2 ^ f → f < fuel → fixN (cover_Cover_L2 a5 rec1) fuel ((n : Int), ks) = rec1 (w64 (a5 + 1), upF f n ks)
  | f, 0, n, ks, _, h => by omega
  | 0, fuel + 1, n, ks, hn, _ => by
    rw [fix_step]; simp only [cover_Cover_L2]
    rw [if_neg (by simp at hn; omega)]; rfl
  | f + 1, fuel + 1, n, ks, hn, hf => by
    rw [fix_step]; simp only [cover_Cover_L2]
    unfold upF
    by_cases h0 : n = 0
    · rw [if_neg (by omega), if_pos h0]
    · rw [if_pos (by omega), if_neg h0, show shG (un 1#64) = some 1 from by decide, bind_some, shr_nat _ _ (by omega), Nat.pow_one]
      exact up_loop a5 rec1 f fuel (n / 2) _ (by rw [Nat.pow_succ] at hn; omega) (by omega)
theorem insS_mem {ks : List Int} {k z : Int} : z ∈ insS ks k ↔ z ∈ ks ∨ z = k := by
  unfold insS; split
  · rename_i h; exact ⟨.inl, fun h' => h'.elim id (fun e => e ▸ h)⟩
  · simp
theorem insS_len {ks : List Int} {k : Int} : (insS ks k).length ≤ ks.length + 1 := by unfold insS; split <;> simp
theorem up_mem : ∀ (f n : Nat) (ks : List Int) (z : Int), n < 2 ^ f → (z ∈ upF f n ks ↔ z ∈ ks ∨ ∃ j, 2 ^ j ≤ n ∧ z = ((n / 2 ^ j : Nat) : Int))
  | 0, n, ks, z, hn => by
    unfold upF
    constructor
    · exact .inl
    · rintro (h | ⟨j, hj, _⟩)
      · exact h
      · have := Nat.two_pow_pos j; simp at hn; omega
  | f + 1, n, ks, z, hn => by
    unfold upF
    by_cases h0 : n = 0
    · rw [if_pos h0]
      constructor
      · exact .inl
      · rintro (h | ⟨j, hj, _⟩)
        · exact h
        · have := Nat.two_pow_pos j; omega
    · rw [if_neg h0, up_mem f (n / 2) _ z (by rw [Nat.pow_succ] at hn; omega), insS_mem]
      have hd2 : ∀ j, n / 2 / 2 ^ j = n / 2 ^ (j + 1) := fun j => by rw [Nat.div_div_eq_div_mul, Nat.pow_succ, Nat.mul_comm 2]
      constructor
      · rintro ((h | h) | ⟨j, h1, h2⟩)
        · exact .inl h
        · exact .inr ⟨0, by simp; omega, by simpa using h⟩
        · exact .inr ⟨j + 1, by rw [Nat.pow_succ]; omega, by rw [h2, hd2]⟩
      · rintro (h | ⟨j, h1, h2⟩)
        · exact .inl (.inl h)
        · cases j with
          | zero => exact .inl (.inr (by simpa using h2))
          | succ j => exact .inr ⟨j, by rw [Nat.pow_succ] at h1; omega, by rw [h2, hd2]⟩
theorem up_len : ∀ (f n : Nat) (ks : List Int), (upF f n ks).length ≤ ks.length + f
  | 0, n, ks => by simp [upF]
  | f + 1, n, ks => by
    unfold upF; split
    · omega
    · have := up_len f (n / 2) (insS ks (n : Int)); have := insS_len (ks := ks) (k := (n : Int)); omega
/-- all hot nodes -/
def hotL (d : Nat) (l : List Int) : List Int := l.foldl (fun ks u => upF 8 (2 ^ d + u.toNat) ks) []
theorem hotL_mem {d : Nat} (h6 : d ≤ 6) : ∀ (l : List Int) (ks : List Int) (z : Int), (∀ u ∈ l, u.toNat < 2 ^ d) → (z ∈ l.foldl (fun ks u => upF 8 (2 ^ d + u.toNat) ks) ks ↔ z ∈ ks ∨ ∃ u ∈ l, ∃ j, 2 ^ j ≤ 2 ^ d + u.toNat ∧ z = (((2 ^ d + u.toNat) / 2 ^ j : Nat) : Int))
  | [], ks, z, _ => by simp
  | a :: l, ks, z, h => by
    have h64 := pow_le64 h6
    have ha := h a (by simp)
    rw [List.foldl_cons, hotL_mem h6 l _ z (fun u hu => h u (by simp [hu])), up_mem 8 _ _ _ (by omega)]
    constructor
    · rintro ((h1 | h1) | ⟨u, hu, h1⟩)
      · exact .inl h1
      · exact .inr ⟨a, by simp, h1⟩
      · exact .inr ⟨u, by simp [hu], h1⟩
    · rintro (h1 | ⟨u, hu, h1⟩)
      · exact .inl (.inl h1)
      · rcases List.mem_cons.1 hu with rfl | hu
        · exact .inl (.inr h1)
        · exact .inr ⟨u, hu, h1⟩
theorem hotL_len {d : Nat} : ∀ (l : List Int) (ks : List Int), (l.foldl (fun ks u => upF 8 (2 ^ d + u.toNat) ks) ks).length ≤ ks.length + 8 * l.length
  | [], ks => by simp
  | a :: l, ks => by
    rw [List.foldl_cons, List.length_cons]
    have := hotL_len (d := d) l (upF 8 (2 ^ d + a.toNat) ks)
    have := up_len 8 (2 ^ d + a.toNat) ks
    omega
def rcvL (l : List Int) : List Nat := l.map Int.toNat
theorem rcv_of {d : Nat} {l : List Int} (h6 : d ≤ 6) (h : lstB d l = true) : Rcv d (rcvL l) := ⟨h6, fun u hu => by
  obtain ⟨a, ha, rfl⟩ := List.mem_map.1 hu
  obtain ⟨w, hw, hw2⟩ := lst_mem h ha
  rw [hw]; simpa using hw2⟩
theorem hotL_hot {d : Nat} {l : List Int} (h6 : d ≤ 6) (h : lstB d l = true) (n : Nat) : ((n : Int) ∈ hotL d l) ↔ hotB d (rcvL l) n = true := by
  have hr := rcv_of h6 h
  unfold hotL
  rw [hotL_mem h6 l [] _ (fun u hu => hr.2 _ (List.mem_map.2 ⟨u, hu, rfl⟩)), hot_iff]
  simp only [List.not_mem_nil, false_or]
  constructor
  · rintro ⟨u, hu, j, h1, h2⟩
    refine ⟨u.toNat, List.mem_map.2 ⟨u, hu, rfl⟩, (below_iff (hr.leaf (List.mem_map.2 ⟨u, hu, rfl⟩)).1).2 ⟨j, h1, by omega⟩⟩
  · rintro ⟨u, hu, hb⟩
    obtain ⟨a, ha, rfl⟩ := List.mem_map.1 hu
    obtain ⟨j, h1, h2⟩ := (below_iff (hr.leaf hu).1).1 hb
    exact ⟨a, ha, j, h1, by rw [h2]⟩
theorem hotL_nat {d : Nat} {l : List Int} (h6 : d ≤ 6) (h : lstB d l = true) {k : Int} (hk : k ∈ hotL d l) : ∃ n : Nat, k = (n : Int) ∧ hotB d (rcvL l) n = true := by
  have hr := rcv_of h6 h
  unfold hotL at hk
  rw [hotL_mem h6 l [] _ (fun u hu => hr.2 _ (List.mem_map.2 ⟨u, hu, rfl⟩))] at hk
  simp only [List.not_mem_nil, false_or] at hk
  obtain ⟨u, hu, j, h1, h2⟩ := hk
  exact ⟨_, h2, hot_iff.2 ⟨u.toNat, List.mem_map.2 ⟨u, hu, rfl⟩, (below_iff (hr.leaf (List.mem_map.2 ⟨u, hu, rfl⟩)).1).2 ⟨j, h1, rfl⟩⟩⟩
/-! a round -/
theorem dec_mem {d : Nat} {l : List Int} (h6 : d ≤ 6) (h : lstB d l = true) (n : Nat) : decide ((n : Int) ∈ hotL d l) = hotB d (rcvL l) n := by
  cases hb : hotB d (rcvL l) n with
  | true => exact decide_eq_true ((hotL_hot h6 h n).2 hb)
  | false => exact decide_eq_false fun hm => by rw [(hotL_hot h6 h n).1 hm] at hb; cases hb
theorem foot_loop {s : TScheme} {d : Nat} {l : List Int} (h6 : d ≤ 6) (h : lstB d l = true) (acc : List TSubset) (nx : List TSubset → Option (List TSubset × Int)) (k : Int) : ∀ (f fuel v : Nat), 1 ≤ v → Nat.log2 v ≤ d → d - Nat.log2 v < f → f ≤ fuel →
    fixN (cover_Cover_L6 (treeI s, 0) (hotL d l) acc nx k) fuel (v : Int) = (if (footN d (rcvL l) f v : Int) = k then nx acc else Option.bind (cover_tree_cut (treeI s) k (footN d (rcvL l) f v : Int)) fun x31 => (if x31 ≠ 0 then (if (treeI s).kind = 3#8 then Option.bind (cover_tree_special (treeI s) k) fun x34 => (cover_Cover_J8 acc nx k (footN d (rcvL l) f v : Int) x31 (!x34)) else cover_Cover_J8 acc nx k (footN d (rcvL l) f v : Int) x31 false) else cover_Cover_J8 acc nx k (footN d (rcvL l) f v : Int) x31 false))
  | 0, fuel, v, _, _, hf, _ => by omega
  | f + 1, 0, v, _, _, _, hf => by omega
  | f + 1, fuel + 1, v, hv, hl, hf, hff => by
    have hr := rcv_of h6 h
    have h64 := pow_le64 h6
    have hv128 : v < 128 := by
      have := (Nat.log2_lt (n := v) (k := d + 1) (by omega)).1 (by omega)
      rw [Nat.pow_succ] at this; omega
    rw [fix_step]; simp only [cover_Cover_L6]
    have e0 : w64 (2 * (v : Int)) = ((2 * v : Nat) : Int) := by rw [w64_id (by omega) (by omega)]; omega
    have e1 : w64 (((2 * v : Nat) : Int) + 1) = ((2 * v + 1 : Nat) : Int) := by rw [w64_id (by omega) (by omega)]; omega
    have e2 : w64 ((v : Int) * 2) = ((2 * v : Nat) : Int) := by rw [w64_id (by omega) (by omega)]; omega
    rw [e0, e1, e2, e1, dec_mem h6 h, dec_mem h6 h]
    rw [show (hotB d (rcvL l) (2 * v) != hotB d (rcvL l) (2 * v + 1)) = brN d (rcvL l) v from rfl]
    cases hb : brN d (rcvL l) v with
    | false =>
      have hfv : footN d (rcvL l) (f + 1) v = v := by unfold footN; rw [hb]; rfl
      rw [cond_false, hfv]
    | true =>
      have hfv : footN d (rcvL l) (f + 1) v = footN d (rcvL l) f (nxN d (rcvL l) v) := by
        show (if brN d (rcvL l) v = true then footN d (rcvL l) f (nxN d (rcvL l) v) else v) = _
        rw [hb]; rfl
      rw [cond_true, hfv]
      obtain ⟨hl2, _⟩ := br_inner hr hv hb
      have key : (if ¬ (((2 * v : Nat) : Int) ∈ hotL d l) then fixN (cover_Cover_L6 (treeI s, 0) (hotL d l) acc nx k) fuel ((2 * v + 1 : Nat) : Int) else fixN (cover_Cover_L6 (treeI s, 0) (hotL d l) acc nx k) fuel ((2 * v : Nat) : Int)) = fixN (cover_Cover_L6 (treeI s, 0) (hotL d l) acc nx k) fuel (nxN d (rcvL l) v : Int) := by
        unfold nxN
        cases hh : hotB d (rcvL l) (2 * v) with
        | true => rw [if_neg (fun hn => hn ((hotL_hot h6 h _).2 hh)), if_pos rfl]
        | false => rw [if_pos (fun hm => by rw [(hotL_hot h6 h _).1 hm] at hh; cases hh), if_neg (by simp)]
      rw [key]
      have hn : 1 ≤ nxN d (rcvL l) v ∧ Nat.log2 (nxN d (rcvL l) v) = Nat.log2 v + 1 := by
        unfold nxN; split
        · exact ⟨by omega, log2_dbl hv (b := 0) (by omega)⟩
        · exact ⟨by omega, log2_dbl hv (b := 1) (by omega)⟩
      exact foot_loop h6 h acc nx k f fuel _ hn.1 (by omega) (by omega) (by omega)
theorem step_eq' {s : TScheme} {d : Nat} {l : List Int} (hv : vldB s = true) (hd : s.Depth = (d : Int)) (h6 : d ≤ 6) (h : lstB d l = true) {v : Nat} (hh : hotB d (rcvL l) v = true) (acc : List TSubset) (ha : acc.length ≤ 1000) (nx : List TSubset → Option (List TSubset × Int)) :
    cover_Cover_S3 (treeI s, 0) (hotL d l) (v : Int) nx acc = nx (acc ++ (outP s.Kind d (rcvL l) v).map mkS) := by
  have hr := rcv_of h6 h
  have h64 := pow_le64 h6
  obtain ⟨v1, vl, v2⟩ := hot_log hr hh
  have hpow : 2 ^ (d + 1) = 2 * 2 ^ d := by rw [Nat.pow_succ, Nat.mul_comm]
  have hv128 : v < 128 := by omega
  have ht : treeI s = ⟨s.Kind, (d : Int), (strd d : Int)⟩ := by unfold treeI; rw [hd, Int.toNat_natCast]
  have hkd : (treeI s).kind = s.Kind := rfl
  have hsib : cover_node_sibling (v : Int) = some ((v ^^^ 1 : Nat) : Int) := by unfold cover_node_sibling; rw [bit_xor hv128]
  have hadd : ∀ (a b : Int) (acc : List TSubset), acc.length ≤ 2000 → cover_Cover_1 a b acc = some (acc ++ [⟨a, b⟩]) := fun a b acc hl => by
    unfold cover_Cover_1; rw [appG_some (by simp; omega), bind_some]
  unfold cover_Cover_S3
  simp only [hkd]
  by_cases hk : s.Kind = 1#8
  · rw [if_pos hk]
    unfold outP
    rw [if_pos hk]
    by_cases hv1 : v = 1
    · rw [if_neg (by omega), if_neg (by simp [hv1])]
      unfold cover_Cover_J4; simp
    · rw [if_pos (by omega), hsib, bind_some]
      unfold cover_Cover_J4
      have hdm := dec_mem h6 h (v ^^^ 1)
      by_cases hs : hotB d (rcvL l) (v ^^^ 1) = true
      · rw [decide_eq_false (p := ¬ (((v ^^^ 1 : Nat) : Int) ∈ hotL d l)) (fun hn => hn ((hotL_hot h6 h _).2 hs)), cond_false, if_neg (by simp [hs])]; simp
      · have hs' : hotB d (rcvL l) (v ^^^ 1) = false := by simpa using hs
        rw [decide_eq_true (p := ¬ (((v ^^^ 1 : Nat) : Int) ∈ hotL d l)) (fun hm => hs ((hotL_hot h6 h _).1 hm)), cond_true, hsib, bind_some, hadd _ _ _ (by omega), bind_some, if_pos ⟨hv1, hs'⟩]
        rfl
  · rw [if_neg hk]
    -- the way on for heads
    have go : isHd d (rcvL l) v = true → cover_Cover_J5 (treeI s, 0) (hotL d l) acc nx (v : Int) false = nx (acc ++ (outP s.Kind d (rcvL l) v).map mkS) := by
      intro hhd
      unfold cover_Cover_J5
      rw [cond_false, foot_loop h6 h acc nx (v : Int) 7 FUEL v v1 vl (by omega) (by unfold FUEL; omega)]
      unfold outP
      rw [if_neg hk, if_pos hhd]
      obtain ⟨w1, w2, w3, K, w4, w5, w6⟩ := foot_spec hr 7 v v1 vl (by omega)
      generalize footN d (rcvL l) 7 v = w at *
      by_cases hw : w = v
      · rw [if_pos (by omega), if_pos hw]; simp
      · rw [if_neg (by omega), if_neg hw]
        have hlw := log2_div w K w4
        rw [← w5] at hlw
        have hK : 1 ≤ K := by
          rcases Nat.eq_zero_or_pos K with h0 | h0
          · subst h0; simp at w5; exact absurd w5.symm hw
          · exact h0
        have hw128 : w < 128 := by
          have := (Nat.log2_lt (n := w) (k := d + 1) (by omega)).1 (by omega)
          omega
        have hcut : cover_tree_cut (treeI s) (v : Int) (w : Int) = some ((cutN d v w : Nat) : Int) := by
          obtain ⟨K', rfl⟩ : ∃ K', K = K' + 1 := ⟨K - 1, by omega⟩
          have := cut_eq (kd := s.Kind) (d := d) (m := w) (k := K') hw128 w4 (by omega)
          rw [← w5] at this
          rw [ht, this]
          unfold cutN
          rw [show Nat.log2 w - Nat.log2 v - 1 = K' from by omega]
        have hspc : cover_tree_special (treeI s) (v : Int) = some (spcl d v) := by rw [ht]; exact special_eq v1 (by omega)
        rw [hcut, bind_some]
        have one : cover_Cover_J8 acc nx (v : Int) (w : Int) ((cutN d v w : Nat) : Int) false = nx (acc ++ [(v, w)].map mkS) := by
          unfold cover_Cover_J8 cover_Cover_J7
          rw [cond_false, hadd _ _ _ (by omega), bind_some]; rfl
        have two : cover_Cover_J8 acc nx (v : Int) (w : Int) ((cutN d v w : Nat) : Int) true = nx (acc ++ [(v, cutN d v w), (cutN d v w, w)].map mkS) := by
          unfold cover_Cover_J8 cover_Cover_J7
          rw [cond_true, hadd _ _ _ (by omega), bind_some, hadd _ _ _ (by simp; omega), bind_some, List.append_assoc]; rfl
        have hk3 : s.Kind = 2#8 ∨ s.Kind = 3#8 := by
          obtain ⟨a, b⟩ := vld_kind hv
          rcases kind_cases a b with e | e | e
          · exact absurd e hk
          · exact .inl e
          · exact .inr e
        unfold subN
        by_cases hc0 : cutN d v w = 0
        · rw [if_neg (by omega), one]
          have : (decide (s.Kind = 2#8) || spcl d v || decide (fstS d (pathN (w / 2) (Nat.log2 w - Nat.log2 v - 1)) = 0)) = true := by
            rw [decide_eq_true (p := fstS _ _ = 0) hc0]; simp
          rw [if_pos this]
        · have hc0' : decide (fstS d (pathN (w / 2) (Nat.log2 w - Nat.log2 v - 1)) = 0) = false := decide_eq_false hc0
          rw [if_pos (by omega), hc0', Bool.or_false]
          rcases hk3 with hk3 | hk3
          · rw [if_neg (by rw [hkd, hk3]; decide), one, if_pos (by simp [hk3])]
          · rw [if_pos (show (treeI s).kind = 3#8 from hk3), hspc, bind_some]
            have : decide (s.Kind = 2#8) = false := by rw [hk3]; decide
            rw [this, Bool.false_or]
            cases spcl d v with
            | true => rw [Bool.not_true, one, if_pos rfl]
            | false => rw [Bool.not_false, two, if_neg (by simp)]
    have no : isHd d (rcvL l) v = false → cover_Cover_J5 (treeI s, 0) (hotL d l) acc nx (v : Int) true = nx (acc ++ (outP s.Kind d (rcvL l) v).map mkS) := by
      intro hhd
      unfold cover_Cover_J5 outP
      rw [cond_true, if_neg hk, if_neg (by rw [hhd]; simp)]; simp
    by_cases hv1 : v = 1
    · rw [if_neg (by omega)]; exact go (by unfold isHd; simp [hv1])
    · rw [if_pos (by omega), hsib, bind_some]
      by_cases hs : hotB d (rcvL l) (v ^^^ 1) = true
      · rw [decide_eq_false (p := ¬ (((v ^^^ 1 : Nat) : Int) ∈ hotL d l)) (fun hn => hn ((hotL_hot h6 h _).2 hs))]; exact go (by unfold isHd; simp [hs])
      · have hs' : hotB d (rcvL l) (v ^^^ 1) = false := by simpa using hs
        rw [decide_eq_true (p := ¬ (((v ^^^ 1 : Nat) : Int) ∈ hotL d l)) (fun hm => hs ((hotL_hot h6 h _).1 hm))]; exact no (by unfold isHd; simp [hs', hv1])
/-! any order -/
theorem cov_filter {d : Nat} {R : List Nat} (h : Rcv d R) {k : BitVec 8} (hne : R ≠ []) {v : Nat} (hv : hotB d R v = true) : (covN k d R).filter (fun y => decide (ownN k d R y = v)) = outP k d R v := by
  refine asc_ext ?_ ?_ fun y => ?_
  · exact List.Pairwise.filter _ cov_asc
  · unfold outP Asc
    split
    · split <;> simp
    · split
      · split
        · simp
        · split
          · simp
          · rename_i h2 h3 h4 h5
            obtain ⟨v1, vl, v2⟩ := hot_log h hv
            obtain ⟨w1, w2, w3, K, w4, w5, w6⟩ := foot_spec h 7 v v1 vl (by have := h.1; omega)
            obtain ⟨j, j1, j2, j3⟩ := cut_chain (k := k) (d := d) (.inr trivial) w4 w5 v1 (by simpa using h5)
            simp only [List.pairwise_cons, List.mem_singleton, List.not_mem_nil, false_imp_iff, implies_true, List.Pairwise.nil, and_true, forall_eq]
            have hj2 : 2 ^ j ≤ footN d R 7 v := Nat.le_trans (Nat.pow_le_pow_right (by omega) (by omega)) w4
            have hl1 := log2_div _ _ w4
            have hl2 := log2_div _ _ hj2
            rw [← w5] at hl1
            rw [← j3] at hl2
            rcases Nat.lt_or_ge v (cutN d v (footN d R 7 v)) with hlt | hge
            · exact hlt
            · have := log2_mono hge; omega
      · simp
  · rw [List.mem_filter, decide_eq_true_eq]; exact cov_own h hne hv y
theorem cov_len {k : BitVec 8} {d : Nat} {R : List Nat} (h6 : d ≤ 6) : (covN k d R).length ≤ 127 := by
  have h64 := pow_le64 h6
  have hpow : 2 ^ (d + 1) = 2 * 2 ^ d := by rw [Nat.pow_succ, Nat.mul_comm]
  refine Nat.le_trans (List.length_filterMap_le _ _) ?_
  simp [nodN]; omega
theorem filter_split {α : Type} (p q : α → Bool) (hpq : ∀ a, p a = true → q a = false) (l : List α) : (l.filter fun a => p a || q a).Perm (l.filter p ++ l.filter q) := by
  induction l with
  | nil => simp
  | cons a l ih =>
    cases hp : p a with
    | true =>
      have hq := hpq a hp
      simp only [List.filter_cons, hp, hq, Bool.true_or, if_true, Bool.false_eq_true, if_false, List.cons_append]
      exact ih.cons a
    | false =>
      cases hq : q a with
      | true =>
        simp only [List.filter_cons, hp, hq, Bool.or_true, if_true, Bool.false_eq_true, if_false]
        exact (ih.cons a).trans List.perm_middle.symm
      | false =>
        simp only [List.filter_cons, hp, hq, Bool.or_false, Bool.false_eq_true, if_false]
        exact ih
theorem srt_cov {k : BitVec 8} {d : Nat} {R : List Nat} (h6 : d ≤ 6) {acc : List TSubset} (h : acc.Perm ((covN k d R).map mkS)) : srtBy TSubset.Node acc = some ((covN k d R).map mkS) := by
  have h64 := pow_le64 h6
  have hpow : 2 ^ (d + 1) = 2 * 2 ^ d := by rw [Nat.pow_succ, Nat.mul_comm]
  have hasc : ((covN k d R).map mkS).Pairwise fun a b => a.Node < b.Node := by
    rw [List.pairwise_map]
    exact (cov_asc (k := k) (d := d) (R := R)).imp (fun {a b} hab => by unfold mkS; simp only; omega)
  have hnd : (((covN k d R).map mkS).map TSubset.Node).Nodup := by
    unfold List.Nodup
    rw [List.pairwise_map]
    exact hasc.imp (by omega)
  unfold srtBy
  rw [if_pos]
  · congr 1
    have hs := List.pairwise_mergeSort (le := fun a b : TSubset => decide (a.Node ≤ b.Node)) (fun a b c h1 h2 => by simp at *; omega) (fun a b => by simp; omega) acc
    have hp : (acc.mergeSort fun a b => decide (a.Node ≤ b.Node)).Perm ((covN k d R).map mkS) := (List.mergeSort_perm acc _).trans h
    -- both ascend, and are permutations of one another
    have key : ∀ (l m : List TSubset), l.Perm m → (l.Pairwise fun a b => decide (a.Node ≤ b.Node) = true) → (m.Pairwise fun a b => a.Node < b.Node) → l = m := by
      intro l m hlm hl hm
      have hlnd : (l.map TSubset.Node).Nodup := by
        have : (m.map TSubset.Node).Nodup := by unfold List.Nodup; rw [List.pairwise_map]; exact hm.imp (by omega)
        exact (hlm.map _).nodup_iff.2 this
      have hl' : l.Pairwise fun a b => a.Node < b.Node := by
        unfold List.Nodup at hlnd
        rw [List.pairwise_map] at hlnd
        exact (hl.and hlnd).imp (fun {a b} hab => by have := of_decide_eq_true hab.1; have := hab.2; omega)
      clear hl hlnd
      induction m generalizing l with
      | nil => exact hlm.eq_nil
      | cons b m ih =>
        cases l with
        | nil => exact absurd hlm.symm.eq_nil (by simp)
        | cons a l =>
          have ha := List.pairwise_cons.1 hl'
          have hb := List.pairwise_cons.1 hm
          have hab : a = b := by
            rcases List.mem_cons.1 (hlm.subset (List.mem_cons_self)) with e | e
            · exact e
            · rcases List.mem_cons.1 (hlm.symm.subset (List.mem_cons_self)) with e2 | e2
              · exact e2.symm
              · have := ha.1 b e2; have := hb.1 a e; omega
          subst hab
          rw [ih l (List.Perm.cons_inv hlm) hb.2 ha.2]
    exact key _ _ hp hs hasc
  · refine ⟨fun x hx => ?_, (h.map _).nodup_iff.2 hnd, ?_⟩
    · obtain ⟨y, hy, rfl⟩ := List.mem_map.1 (h.subset hx)
      have := (cov_mem.1 hy).1
      unfold mkS; simp only; omega
    · rw [h.length_eq, List.length_map]; have := cov_len (k := k) (R := R) h6; omega
theorem range_cov {s : TScheme} {d : Nat} {l : List Int} (hv : vldB s = true) (hd : s.Depth = (d : Int)) (h6 : d ≤ 6) (h : lstB d l = true) (hne : l ≠ []) (hl : l.length * 8 ≤ 140737488355328) :
    rngM (cover_Cover_S3 (treeI s, 0) (hotL d l)) cover_Cover_E3 FUEL (hotL d l) [] = some ((covN s.Kind d (rcvL l)).map mkS, 0) := by
  have hr := rcv_of h6 h
  have hne' : rcvL l ≠ [] := by unfold rcvL; simpa using hne
  refine rngM_run (fun rem acc => (∀ k ∈ rem, k ∈ hotL d l) ∧ acc.Perm (((covN s.Kind d (rcvL l)).filter fun y => decide (((ownN s.Kind d (rcvL l) y : Nat) : Int) ∉ rem)).map mkS)) ?_ ?_ FUEL (hotL d l) [] ?_ ⟨fun _ hk => hk, ?_⟩
  · rintro acc ⟨_, hp⟩
    have : ((covN s.Kind d (rcvL l)).filter fun y => decide (((ownN s.Kind d (rcvL l) y : Nat) : Int) ∉ ([] : List Int))) = covN s.Kind d (rcvL l) := List.filter_eq_self.2 (by simp)
    rw [this] at hp
    unfold cover_Cover_E3
    rw [srt_cov h6 hp, bind_some]
  · rintro rem acc k hk ⟨hsub, hp⟩
    obtain ⟨v, rfl, hvh⟩ := hotL_nat h6 h (hsub k hk)
    have hal : acc.length ≤ 1000 := by
      rw [hp.length_eq, List.length_map]
      have := cov_len (k := s.Kind) (R := rcvL l) h6
      have := List.length_filter_le (fun y => decide (((ownN s.Kind d (rcvL l) y : Nat) : Int) ∉ rem)) (covN s.Kind d (rcvL l))
      omega
    refine ⟨acc ++ (outP s.Kind d (rcvL l) v).map mkS, ⟨fun j hj => hsub j (List.mem_filter.1 hj).1, ?_⟩, fun nx => step_eq' hv hd h6 h hvh acc hal nx⟩
    have hsp := filter_split (fun y => decide (((ownN s.Kind d (rcvL l) y : Nat) : Int) ∉ rem)) (fun y => decide (ownN s.Kind d (rcvL l) y = v)) (fun y hy => by
      simp only [decide_eq_true_eq, decide_eq_false_iff_not] at hy ⊢
      rintro rfl; exact hy hk) (covN s.Kind d (rcvL l))
    rw [cov_filter hr hne' hvh] at hsp
    have hcg : ((covN s.Kind d (rcvL l)).filter fun y => decide (((ownN s.Kind d (rcvL l) y : Nat) : Int) ∉ rem.filter (· ≠ (v : Int)))) = ((covN s.Kind d (rcvL l)).filter fun y => decide (((ownN s.Kind d (rcvL l) y : Nat) : Int) ∉ rem) || decide (ownN s.Kind d (rcvL l) y = v)) := by
      apply List.filter_congr
      intro y _
      rw [Bool.eq_iff_iff]
      simp only [Bool.or_eq_true, decide_eq_true_eq, List.mem_filter, not_and, ne_eq, Decidable.not_not, decide_not, Bool.not_eq_true', decide_eq_false_iff_not]
      constructor
      · intro hh
        by_cases hm : ((ownN s.Kind d (rcvL l) y : Nat) : Int) ∈ rem
        · have := hh hm; right; omega
        · exact .inl hm
      · rintro (hh | hh) hm
        · exact absurd hm hh
        · rw [hh]
    rw [hcg]
    refine List.Perm.trans ?_ (hsp.map mkS).symm
    rw [List.map_append]
    exact hp.append_right _
  · have := hotL_len (d := d) l []
    unfold hotL FUEL
    simp only [List.length_nil, Nat.zero_add] at this
    omega
  · have : ((covN s.Kind d (rcvL l)).filter fun y => decide (((ownN s.Kind d (rcvL l) y : Nat) : Int) ∉ hotL d l)) = [] := by
      rw [List.filter_eq_nil_iff]
      intro y hy
      simp only [decide_eq_true_eq]
      exact fun hn => hn ((hotL_hot h6 h _).2 (own_hot hr hne' hy))
    rw [this]; simp
/-- the cover, with its errors -/
def covP (s : TScheme) (l : List Int) : List TSubset × Int :=
  if vldB s then (if lstB s.Depth.toNat l then ((if l = [] then [⟨1, 0⟩] else (covN s.Kind s.Depth.toNat (rcvL l)).map mkS), 0) else ([], 2)) else ([], 30)
theorem pcover_eq (s : TScheme) (l : List Int) (hl : l.length * 8 ≤ 140737488355328) : cover_Cover s l = some (covP s l) := by
  unfold cover_Cover covP
  rw [enter0, bind_some]
  cases hv : vldB s with
  | false => rfl
  | true =>
    obtain ⟨d, hd, h6⟩ := vld_depth hv
    have ht : treeI s = ⟨s.Kind, (d : Int), (strd d : Int)⟩ := by unfold treeI; rw [hd, Int.toNat_natCast]
    simp only [if_true]
    rw [if_neg (by simp), hd, Int.toNat_natCast]
    have e0 : cover_tree_list (treeI s) l = some (lstB d l) := by rw [ht]; exact list_eq h6 l (by omega)
    rw [e0, bind_some]
    cases hb : lstB d l with
    | false => rfl
    | true =>
      simp only [Bool.not_true, cond_false, if_true]
      by_cases hne : l = []
      · subst hne; rfl
      · rw [if_neg (by intro h0; apply hne; exact List.eq_nil_of_length_eq_zero (by omega)), if_neg hne]
        have := fix_itL l (cover_Cover_L1 l (treeI s, 0)) (fun j (ks : List Int) => ((j : Int), ks)) (fun u nx ks => nx (upF 8 (2 ^ d + u.toNat) ks)) (fun ks => rngM (cover_Cover_S3 (treeI s, 0) ks) cover_Cover_E3 FUEL ks [])
          (fun rec j hj ks => by
            obtain ⟨u, hu, hu2⟩ := lst_mem hb (List.getElem_mem hj)
            have h64 := pow_le64 h6
            simp only [cover_Cover_L1]
            have hlf : cover_tree_leaf (treeI s) (u : Int) = some ((2 ^ d + u : Nat) : Int) := by rw [ht]; exact leaf_eq h6 (by omega)
            rw [if_pos (by omega), getI_some hj, bind_some, hu, hlf, bind_some, up_loop _ _ 8 FUEL _ _ (by omega) (by unfold FUEL; omega), w64_nat (by omega), Int.toNat_natCast])
          (fun rec ks => by simp only [cover_Cover_L1]; rw [if_neg (by omega)]) (f := FUEL) (fuel_lt (by omega)) ([] : List Int)
        rw [show ((0 : Nat) : Int) = 0 from rfl] at this
        rw [this, itL_fold (fun ks u => upF 8 (2 ^ d + u.toNat) ks) _ _ (fun _ _ => True) l 0 [] (fun _ _ _ _ _ _ => rfl) (fun _ _ _ _ _ => trivial) trivial]
        exact range_cov hv hd h6 hb hne hl
end Go.Sx

end
section
set_option linter.unusedVariables false
set_option linter.unusedSimpArgs false
set_option maxRecDepth 100000
namespace Go.Sx.Pn
open Go Go.Sx
theorem kd_mem {k d : Nat} (hk : 1 ≤ k ∧ k ≤ 3) (hd : d ≤ 6) : k ∈ [1, 2, 3] ∧ d ∈ List.range 7 := by
  refine ⟨?_, List.mem_range.2 (by omega)⟩
  rcases (show k = 1 ∨ k = 2 ∨ k = 3 by omega) with rfl | rfl | rfl <;> simp
theorem pow64 {d : Nat} (h : d ≤ 6) : 2 ^ d ≤ 64 := Nat.le_trans (Nat.pow_le_pow_right (by omega) h) (by decide)
theorem shlD {d : Nat} (h : d ≤ 6) : shlI 1 d = ((2 ^ d : Nat) : Int) := by
  have := pow64 h
  unfold shlI
  rw [Nat.min_eq_left (by omega), Int.one_mul, show (2 : Int) ^ d = ((2 ^ d : Nat) : Int) from by rw [Int.natCast_pow]; rfl]
  generalize 2 ^ d = m at *
  exact w64_id (by omega) (by omega)
theorem shGn (n : Nat) : shG (n : Int) = some n := by unfold shG; rw [if_pos (by omega)]; rfl
section
variable {k d r : Nat}
theorem worst_tb (hk : 1 ≤ k ∧ k ≤ 3) (hd : d ≤ 6) (hr : r ≤ 2 ^ d) : plan_tables_worst (tb k d) (r : Int) = some (wst k d r) := by
  obtain ⟨h1, h2⟩ := kd_mem hk hd
  exact worst_all k h1 d h2 r (List.mem_range.2 (by omega))
theorem list_tb (hk : 1 ≤ k ∧ k ≤ 3) (hd : d ≤ 6) (hr : r ≤ 2 ^ d) : plan_tables_list (tb k d) [] 1 0 (d : Int) (wst k d r).2 = some (lst k d r) ∧ ((wst k d r).2, lst k d r, (wst k d r).1) ∈ ll k d ∧ (lst k d r).length ≤ r := by
  obtain ⟨h1, h2⟩ := kd_mem hk hd
  obtain ⟨x, hx, e1, e2, e3⟩ := list_has k h1 d h2 r (List.mem_range.2 (by omega))
  have hf : (ll k d).find? (fun x => decide (x.1 = (wst k d r).2)) = some x := hx
  have h5 := List.mem_of_find?_eq_some hf
  have h6 : x.1 = (wst k d r).2 := by have := List.find?_some hf; simpa using this
  obtain ⟨h7, h8⟩ := list_ll k h1 d h2 x h5
  have hl : lst k d r = x.2.1 := by unfold lst; rw [hf]; rfl
  refine ⟨by rw [← h6, hl]; exact h7, by rw [hl, ← h6, ← e1]; exact h5, by rw [hl, h8]; omega⟩
end
end Go.Sx.Pn

end
