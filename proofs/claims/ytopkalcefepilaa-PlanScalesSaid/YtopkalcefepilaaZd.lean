/- Several texts in one: BitL Srt SrtSub Pl Pt GdM Tr Ts Fx Mb Lb Tm Cv Tk Fy SecN Fd Kn Cp Pu Nm Pg Pv5 Pw GkM Pk5 Ala LawSca. -/
import Derived.Test.YtopkalcefepilaaRows
import Derived.Test.YtopkalcefepilaaZc
import Derived.KernelRfl
import Derived.Test.YtopkalcefepilaaZb
import Derived.Shelf.SlSortCmp.NoneTotal
import Derived.Shelf.SlGeneric
import Derived.Test.YtopkalcefepilaaProg
set_option linter.unusedVariables false
set_option linter.unusedSimpArgs false
section
set_option linter.unusedVariables false
set_option linter.unusedSimpArgs false
namespace Go.Proofs.Ytopkalcefepilaa
open Go Go.RowKit Go.Sx
theorem cv_22_5 : CV Try.prog 22 5 .u8 := fun _ _ _ => by kernel_rfl
theorem cv_5_3 : CV Try.prog 5 3 .i64 := fun _ _ _ => by kernel_rfl
theorem en_130 : En Try.prog 130 := fun _ _ => by kernel_rfl
theorem log2_shift (n k : Nat) (h : 2 ^ k ≤ n) : Nat.log2 n = Nat.log2 (n / 2 ^ k) + k := by
  induction k generalizing n with
  | zero => simp
  | succ k ih =>
    have h2 : 2 ^ k ≤ n / 2 := by rw [Nat.le_div_iff_mul_le (by omega)]; rw [Nat.pow_succ] at h; omega
    have h1 : 2 ≤ n := by have : 0 < 2 ^ k := Nat.two_pow_pos k; rw [Nat.pow_succ] at h; omega
    rw [Nat.log2_def, if_pos h1, ih (n / 2) h2, Nat.div_div_eq_div_mul, Nat.pow_succ, Nat.mul_comm 2]; omega
theorem lg_shift (a : Int) (k m : Nat) (hm : 2 ^ k = m) (h : (m : Int) ≤ a) : lg a = lg (a / (m : Int)) + k := by
  obtain ⟨n, rfl⟩ := Int.eq_ofNat_of_zero_le (show 0 ≤ a by omega)
  subst hm
  have hp : 0 < 2 ^ k := Nat.two_pow_pos k
  have h' : 2 ^ k ≤ n := by omega
  have e : ((n : Int) / ((2 ^ k : Nat) : Int)).toNat = n / 2 ^ k := by rw [← Int.natCast_ediv]; rfl
  have h1 : ¬ (n / 2 ^ k = 0) := by rw [Nat.div_eq_zero_iff]; omega
  unfold lg
  rw [e, Int.toNat_natCast, if_neg h1, if_neg (by omega), log2_shift n k h']
  omega
def lenTab : ByteArray := ⟨#[0, 1, 2, 2, 3, 3, 3, 3, 4, 4, 4, 4, 4, 4, 4, 4, 5, 5, 5, 5, 5, 5, 5, 5, 5, 5, 5, 5, 5, 5, 5, 5, 6, 6, 6, 6, 6, 6, 6, 6, 6, 6, 6, 6, 6, 6, 6, 6, 6, 6, 6, 6, 6, 6, 6, 6, 6, 6, 6, 6, 6, 6, 6, 6, 7, 7, 7, 7, 7, 7, 7, 7, 7, 7, 7, 7, 7, 7, 7, 7, 7, 7, 7, 7, 7, 7, 7, 7, 7, 7, 7, 7, 7, 7, 7, 7, 7, 7, 7, 7, 7, 7, 7, 7, 7, 7, 7, 7, 7, 7, 7, 7, 7, 7, 7, 7, 7, 7, 7, 7, 7, 7, 7, 7, 7, 7, 7, 7, 8, 8, 8, 8, 8, 8, 8, 8, 8, 8, 8, 8, 8, 8, 8, 8, 8, 8, 8, 8, 8, 8, 8, 8, 8, 8, 8, 8, 8, 8, 8, 8, 8, 8, 8, 8, 8, 8, 8, 8, 8, 8, 8, 8, 8, 8, 8, 8, 8, 8, 8, 8, 8, 8, 8, 8, 8, 8, 8, 8, 8, 8, 8, 8, 8, 8, 8, 8, 8, 8, 8, 8, 8, 8, 8, 8, 8, 8, 8, 8, 8, 8, 8, 8, 8, 8, 8, 8, 8, 8, 8, 8, 8, 8, 8, 8, 8, 8, 8, 8, 8, 8, 8, 8, 8, 8, 8, 8, 8, 8, 8, 8, 8, 8, 8, 8, 8, 8, 8, 8, 8, 8, 8, 8, 8, 8, 8, 8]⟩
theorem lenTab_fin : ∀ k : Fin 256, lenTab[k.1]? = some (UInt8.ofNat (lg (k.1 : Int)).toNat) ∧ lg (k.1 : Int) = ((UInt8.ofNat (lg (k.1 : Int)).toNat).toNat : Int) := by decide +kernel
theorem lenTab_at {a : Int} (h0 : 0 ≤ a) (h1 : a < 256) : lenTab[a.toNat]? = some (UInt8.ofNat (lg a).toNat) ∧ lg a = ((UInt8.ofNat (lg a).toNat).toNat : Int) := by
  obtain ⟨n, rfl⟩ := Int.eq_ofNat_of_zero_le h0
  exact lenTab_fin ⟨n, by omega⟩
theorem lg_lo (a : Int) : -9223372036854775808 ≤ lg a := by unfold lg; split <;> omega
theorem lg_hi {a : Int} (h0 : 0 ≤ a) (h1 : a < 256) : lg a ≤ 9223372036854775807 := by have := (lenTab_at h0 h1).2; have := (UInt8.ofNat (lg a).toNat).toNat_lt; omega
theorem lg_add {b : Int} (a : Int) (h : 0 ≤ b) : -9223372036854775808 ≤ b + lg a := by unfold lg; split <;> omega
theorem lg_add2 {a b : Int} (h0 : 0 ≤ a) (h1 : a < 256) (hb : b ≤ 1000) : b + lg a ≤ 9223372036854775807 := by have := (lenTab_at h0 h1).2; have := (UInt8.ofNat (lg a).toNat).toNat_lt; omega
set_option maxRecDepth 20000 in
set_option maxHeartbeats 1000000 in
theorem len64_c (a : Int) (ha1 : 0 ≤ a) (ha2 : a < 18446744073709551616) (w : World) :
    Calls Try.prog 130 [.int .u64 a].toArray w fun e w' => ∃ v, e = .returned v ∧ (v = .int .i64 (lg a) ∧ Gr w w') := by
  refine calls_of_sw (R := fun v w' => v = .int .i64 (lg a) ∧ Gr w w') 25 Try.func130 rfl rfl rfl ?_
  refine sw_seq ?_
  -- region 0 bits.go:337
  refine sw_region [(0, 0)] rfl rfl rfl ?_
  refine sd_vv rfl rfl rfl (vv_assign rfl) ?_
  refine sd_done ?_
  refine sw_seq ?_
  refine sw_seq ?_
  -- region 1 bits.go:338
  refine sw_region [(0, 0), (1, 0)] rfl rfl rfl ?_
  refine sd_vv rfl rfl rfl (vv_move rfl) ?_
  refine sd_vv rfl rfl rfl (vv_geq rfl rfl) ?_
  refine sd_done ?_
  refine sw_cond rfl (fun h1 => ?_) (fun h1 => ?_)
  · -- h1 True
    replace h1 := of_decide_eq_true h1
    refine sw_seq ?_
    -- region 2 bits.go:339
    refine sw_region [(0, 0), (1, 0), (2, 0)] rfl rfl rfl ?_
    refine sd_vv rfl rfl rfl (vv_move rfl) ?_
    refine sd_vv rfl rfl rfl (vv_shrN (n := 32) (m := 4294967296) rfl rfl rfl (by decide)) ?_
    refine sd_vv rfl rfl rfl (vv_assign rfl) ?_
    refine sd_done ?_
    -- region 3 bits.go:340
    refine sw_region [(0, 0)] rfl rfl rfl ?_
    refine sd_vv rfl rfl rfl (vv_assign rfl) ?_
    refine sd_done ?_
    refine sw_seq ?_
    refine sw_seq ?_
    -- region 4 bits.go:342
    refine sw_region [(0, 0), (1, 0)] rfl rfl rfl ?_
    refine sd_vv rfl rfl rfl (vv_move rfl) ?_
    refine sd_vv rfl rfl rfl (vv_geq rfl rfl) ?_
    refine sd_done ?_
    refine sw_cond rfl (fun h2 => ?_) (fun h2 => ?_)
    · -- h2 True
      replace h2 := of_decide_eq_true h2
      refine sw_seq ?_
      -- region 5 bits.go:343
      refine sw_region [(0, 0), (1, 0), (2, 0)] rfl rfl rfl ?_
      refine sd_vv rfl rfl rfl (vv_move rfl) ?_
      refine sd_vv rfl rfl rfl (vv_shrN (n := 16) (m := 65536) rfl rfl rfl (by decide)) ?_
      refine sd_vv rfl rfl rfl (vv_assign rfl) ?_
      refine sd_done ?_
      -- region 6 bits.go:344
      refine sw_region [(0, 0), (1, 0), (2, 0)] rfl rfl rfl ?_
      refine sd_vv rfl rfl rfl (vv_move rfl) ?_
      refine sd_vv rfl rfl rfl (vv_add64 rfl rfl (by omega) (by omega)) ?_
      refine sd_vv rfl rfl rfl (vv_assign rfl) ?_
      refine sd_done ?_
      refine sw_seq ?_
      refine sw_seq ?_
      -- region 7 bits.go:346
      refine sw_region [(0, 0), (1, 0)] rfl rfl rfl ?_
      refine sd_vv rfl rfl rfl (vv_move rfl) ?_
      refine sd_vv rfl rfl rfl (vv_geq rfl rfl) ?_
      refine sd_done ?_
      refine sw_cond rfl (fun h3 => ?_) (fun h3 => ?_)
      · -- h3 True
        replace h3 := of_decide_eq_true h3
        refine sw_seq ?_
        -- region 8 bits.go:347
        refine sw_region [(0, 0), (1, 0), (2, 0)] rfl rfl rfl ?_
        refine sd_vv rfl rfl rfl (vv_move rfl) ?_
        refine sd_vv rfl rfl rfl (vv_shrN (n := 8) (m := 256) rfl rfl rfl (by decide)) ?_
        refine sd_vv rfl rfl rfl (vv_assign rfl) ?_
        refine sd_done ?_
        -- region 9 bits.go:348
        refine sw_region [(0, 0), (1, 0), (2, 0)] rfl rfl rfl ?_
        refine sd_vv rfl rfl rfl (vv_move rfl) ?_
        refine sd_vv rfl rfl rfl (vv_add64 rfl rfl (by omega) (by omega)) ?_
        refine sd_vv rfl rfl rfl (vv_assign rfl) ?_
        refine sd_done ?_
        refine sw_seq ?_
        -- region 10 bits.go:350
        refine sw_region [(0, 0), (1, 0), (2, 0), (3, 0), (4, 0), (5, 0), (6, 0)] rfl rfl rfl ?_
        refine sd_vv rfl rfl rfl (vv_move rfl) ?_
        refine sd_vv rfl rfl rfl (vv_move rfl) ?_
        refine sd_vv rfl rfl rfl (vv_convB cv_22_5 rfl (by omega) (by omega)) ?_
        refine sd_vv rfl rfl rfl (vv_eq (vv_ixStr Try.underlying9 rfl rfl (by omega) (show lenTab[_]? = _ from (lenTab_at (by omega) (by omega)).1)) (congrArg (Value.int .u8) (lenTab_at (by omega) (by omega)).2.symm)) ?_
        refine sd_vv rfl rfl rfl (vv_conv64 cv_5_3 rfl (lg_lo _) (lg_hi (by omega) (by omega))) ?_
        refine sd_vv rfl rfl rfl (vv_add64 rfl rfl (lg_add _ (by decide)) (lg_add2 (by omega) (by omega) (by decide))) ?_
        refine sd_vv rfl rfl rfl (vv_assign rfl) ?_
        refine sd_done ?_
        refine sw_ret ?_
        refine ⟨_, _, rfl, res_tmp rfl rfl, ?_⟩
        refine ⟨congrArg (Value.int .i64) ?_, (Gr.refl w)⟩
        have e0 : lg (a : Int) = lg ((a : Int) / 4294967296) + 32 := lg_shift (a : Int) 32 4294967296 (by decide) (by omega)
        have e1 : lg ((a : Int) / 4294967296) = lg (((a : Int) / 4294967296) / 65536) + 16 := lg_shift ((a : Int) / 4294967296) 16 65536 (by decide) (by omega)
        have e2 : lg (((a : Int) / 4294967296) / 65536) = lg ((((a : Int) / 4294967296) / 65536) / 256) + 8 := lg_shift (((a : Int) / 4294967296) / 65536) 8 256 (by decide) (by omega)
        omega
      · -- h3 False
        replace h3 := of_decide_eq_false h3
        refine sw_skip ?_
        refine then_n ?_
        refine sw_seq ?_
        -- region 10 bits.go:350
        refine sw_region [(0, 0), (1, 0), (2, 0), (3, 0), (4, 0), (5, 0), (6, 0)] rfl rfl rfl ?_
        refine sd_vv rfl rfl rfl (vv_move rfl) ?_
        refine sd_vv rfl rfl rfl (vv_move rfl) ?_
        refine sd_vv rfl rfl rfl (vv_convB cv_22_5 rfl (by omega) (by omega)) ?_
        refine sd_vv rfl rfl rfl (vv_eq (vv_ixStr Try.underlying9 rfl rfl (by omega) (show lenTab[_]? = _ from (lenTab_at (by omega) (by omega)).1)) (congrArg (Value.int .u8) (lenTab_at (by omega) (by omega)).2.symm)) ?_
        refine sd_vv rfl rfl rfl (vv_conv64 cv_5_3 rfl (lg_lo _) (lg_hi (by omega) (by omega))) ?_
        refine sd_vv rfl rfl rfl (vv_add64 rfl rfl (lg_add _ (by decide)) (lg_add2 (by omega) (by omega) (by decide))) ?_
        refine sd_vv rfl rfl rfl (vv_assign rfl) ?_
        refine sd_done ?_
        refine sw_ret ?_
        refine ⟨_, _, rfl, res_tmp rfl rfl, ?_⟩
        refine ⟨congrArg (Value.int .i64) ?_, (Gr.refl w)⟩
        have e0 : lg (a : Int) = lg ((a : Int) / 4294967296) + 32 := lg_shift (a : Int) 32 4294967296 (by decide) (by omega)
        have e1 : lg ((a : Int) / 4294967296) = lg (((a : Int) / 4294967296) / 65536) + 16 := lg_shift ((a : Int) / 4294967296) 16 65536 (by decide) (by omega)
        omega
    · -- h2 False
      replace h2 := of_decide_eq_false h2
      refine sw_skip ?_
      refine then_n ?_
      refine sw_seq ?_
      refine sw_seq ?_
      -- region 7 bits.go:346
      refine sw_region [(0, 0), (1, 0)] rfl rfl rfl ?_
      refine sd_vv rfl rfl rfl (vv_move rfl) ?_
      refine sd_vv rfl rfl rfl (vv_geq rfl rfl) ?_
      refine sd_done ?_
      refine sw_cond rfl (fun h4 => ?_) (fun h4 => ?_)
      · -- h4 True
        replace h4 := of_decide_eq_true h4
        refine sw_seq ?_
        -- region 8 bits.go:347
        refine sw_region [(0, 0), (1, 0), (2, 0)] rfl rfl rfl ?_
        refine sd_vv rfl rfl rfl (vv_move rfl) ?_
        refine sd_vv rfl rfl rfl (vv_shrN (n := 8) (m := 256) rfl rfl rfl (by decide)) ?_
        refine sd_vv rfl rfl rfl (vv_assign rfl) ?_
        refine sd_done ?_
        -- region 9 bits.go:348
        refine sw_region [(0, 0), (1, 0), (2, 0)] rfl rfl rfl ?_
        refine sd_vv rfl rfl rfl (vv_move rfl) ?_
        refine sd_vv rfl rfl rfl (vv_add64 rfl rfl (by omega) (by omega)) ?_
        refine sd_vv rfl rfl rfl (vv_assign rfl) ?_
        refine sd_done ?_
        refine sw_seq ?_
        -- region 10 bits.go:350
        refine sw_region [(0, 0), (1, 0), (2, 0), (3, 0), (4, 0), (5, 0), (6, 0)] rfl rfl rfl ?_
        refine sd_vv rfl rfl rfl (vv_move rfl) ?_
        refine sd_vv rfl rfl rfl (vv_move rfl) ?_
        refine sd_vv rfl rfl rfl (vv_convB cv_22_5 rfl (by omega) (by omega)) ?_
        refine sd_vv rfl rfl rfl (vv_eq (vv_ixStr Try.underlying9 rfl rfl (by omega) (show lenTab[_]? = _ from (lenTab_at (by omega) (by omega)).1)) (congrArg (Value.int .u8) (lenTab_at (by omega) (by omega)).2.symm)) ?_
        refine sd_vv rfl rfl rfl (vv_conv64 cv_5_3 rfl (lg_lo _) (lg_hi (by omega) (by omega))) ?_
        refine sd_vv rfl rfl rfl (vv_add64 rfl rfl (lg_add _ (by decide)) (lg_add2 (by omega) (by omega) (by decide))) ?_
        refine sd_vv rfl rfl rfl (vv_assign rfl) ?_
        refine sd_done ?_
        refine sw_ret ?_
        refine ⟨_, _, rfl, res_tmp rfl rfl, ?_⟩
        refine ⟨congrArg (Value.int .i64) ?_, (Gr.refl w)⟩
        have e0 : lg (a : Int) = lg ((a : Int) / 4294967296) + 32 := lg_shift (a : Int) 32 4294967296 (by decide) (by omega)
        have e1 : lg ((a : Int) / 4294967296) = lg (((a : Int) / 4294967296) / 256) + 8 := lg_shift ((a : Int) / 4294967296) 8 256 (by decide) (by omega)
        omega
      · -- h4 False
        replace h4 := of_decide_eq_false h4
        refine sw_skip ?_
        refine then_n ?_
        refine sw_seq ?_
        -- region 10 bits.go:350
        refine sw_region [(0, 0), (1, 0), (2, 0), (3, 0), (4, 0), (5, 0), (6, 0)] rfl rfl rfl ?_
        refine sd_vv rfl rfl rfl (vv_move rfl) ?_
        refine sd_vv rfl rfl rfl (vv_move rfl) ?_
        refine sd_vv rfl rfl rfl (vv_convB cv_22_5 rfl (by omega) (by omega)) ?_
        refine sd_vv rfl rfl rfl (vv_eq (vv_ixStr Try.underlying9 rfl rfl (by omega) (show lenTab[_]? = _ from (lenTab_at (by omega) (by omega)).1)) (congrArg (Value.int .u8) (lenTab_at (by omega) (by omega)).2.symm)) ?_
        refine sd_vv rfl rfl rfl (vv_conv64 cv_5_3 rfl (lg_lo _) (lg_hi (by omega) (by omega))) ?_
        refine sd_vv rfl rfl rfl (vv_add64 rfl rfl (lg_add _ (by decide)) (lg_add2 (by omega) (by omega) (by decide))) ?_
        refine sd_vv rfl rfl rfl (vv_assign rfl) ?_
        refine sd_done ?_
        refine sw_ret ?_
        refine ⟨_, _, rfl, res_tmp rfl rfl, ?_⟩
        refine ⟨congrArg (Value.int .i64) ?_, (Gr.refl w)⟩
        have e0 : lg (a : Int) = lg ((a : Int) / 4294967296) + 32 := lg_shift (a : Int) 32 4294967296 (by decide) (by omega)
        omega
  · -- h1 False
    replace h1 := of_decide_eq_false h1
    refine sw_skip ?_
    refine then_n ?_
    refine sw_seq ?_
    refine sw_seq ?_
    -- region 4 bits.go:342
    refine sw_region [(0, 0), (1, 0)] rfl rfl rfl ?_
    refine sd_vv rfl rfl rfl (vv_move rfl) ?_
    refine sd_vv rfl rfl rfl (vv_geq rfl rfl) ?_
    refine sd_done ?_
    refine sw_cond rfl (fun h5 => ?_) (fun h5 => ?_)
    · -- h5 True
      replace h5 := of_decide_eq_true h5
      refine sw_seq ?_
      -- region 5 bits.go:343
      refine sw_region [(0, 0), (1, 0), (2, 0)] rfl rfl rfl ?_
      refine sd_vv rfl rfl rfl (vv_move rfl) ?_
      refine sd_vv rfl rfl rfl (vv_shrN (n := 16) (m := 65536) rfl rfl rfl (by decide)) ?_
      refine sd_vv rfl rfl rfl (vv_assign rfl) ?_
      refine sd_done ?_
      -- region 6 bits.go:344
      refine sw_region [(0, 0), (1, 0), (2, 0)] rfl rfl rfl ?_
      refine sd_vv rfl rfl rfl (vv_move rfl) ?_
      refine sd_vv rfl rfl rfl (vv_add64 rfl rfl (by omega) (by omega)) ?_
      refine sd_vv rfl rfl rfl (vv_assign rfl) ?_
      refine sd_done ?_
      refine sw_seq ?_
      refine sw_seq ?_
      -- region 7 bits.go:346
      refine sw_region [(0, 0), (1, 0)] rfl rfl rfl ?_
      refine sd_vv rfl rfl rfl (vv_move rfl) ?_
      refine sd_vv rfl rfl rfl (vv_geq rfl rfl) ?_
      refine sd_done ?_
      refine sw_cond rfl (fun h6 => ?_) (fun h6 => ?_)
      · -- h6 True
        replace h6 := of_decide_eq_true h6
        refine sw_seq ?_
        -- region 8 bits.go:347
        refine sw_region [(0, 0), (1, 0), (2, 0)] rfl rfl rfl ?_
        refine sd_vv rfl rfl rfl (vv_move rfl) ?_
        refine sd_vv rfl rfl rfl (vv_shrN (n := 8) (m := 256) rfl rfl rfl (by decide)) ?_
        refine sd_vv rfl rfl rfl (vv_assign rfl) ?_
        refine sd_done ?_
        -- region 9 bits.go:348
        refine sw_region [(0, 0), (1, 0), (2, 0)] rfl rfl rfl ?_
        refine sd_vv rfl rfl rfl (vv_move rfl) ?_
        refine sd_vv rfl rfl rfl (vv_add64 rfl rfl (by omega) (by omega)) ?_
        refine sd_vv rfl rfl rfl (vv_assign rfl) ?_
        refine sd_done ?_
        refine sw_seq ?_
        -- region 10 bits.go:350
        refine sw_region [(0, 0), (1, 0), (2, 0), (3, 0), (4, 0), (5, 0), (6, 0)] rfl rfl rfl ?_
        refine sd_vv rfl rfl rfl (vv_move rfl) ?_
        refine sd_vv rfl rfl rfl (vv_move rfl) ?_
        refine sd_vv rfl rfl rfl (vv_convB cv_22_5 rfl (by omega) (by omega)) ?_
        refine sd_vv rfl rfl rfl (vv_eq (vv_ixStr Try.underlying9 rfl rfl (by omega) (show lenTab[_]? = _ from (lenTab_at (by omega) (by omega)).1)) (congrArg (Value.int .u8) (lenTab_at (by omega) (by omega)).2.symm)) ?_
        refine sd_vv rfl rfl rfl (vv_conv64 cv_5_3 rfl (lg_lo _) (lg_hi (by omega) (by omega))) ?_
        refine sd_vv rfl rfl rfl (vv_add64 rfl rfl (lg_add _ (by decide)) (lg_add2 (by omega) (by omega) (by decide))) ?_
        refine sd_vv rfl rfl rfl (vv_assign rfl) ?_
        refine sd_done ?_
        refine sw_ret ?_
        refine ⟨_, _, rfl, res_tmp rfl rfl, ?_⟩
        refine ⟨congrArg (Value.int .i64) ?_, (Gr.refl w)⟩
        have e0 : lg (a : Int) = lg ((a : Int) / 65536) + 16 := lg_shift (a : Int) 16 65536 (by decide) (by omega)
        have e1 : lg ((a : Int) / 65536) = lg (((a : Int) / 65536) / 256) + 8 := lg_shift ((a : Int) / 65536) 8 256 (by decide) (by omega)
        omega
      · -- h6 False
        replace h6 := of_decide_eq_false h6
        refine sw_skip ?_
        refine then_n ?_
        refine sw_seq ?_
        -- region 10 bits.go:350
        refine sw_region [(0, 0), (1, 0), (2, 0), (3, 0), (4, 0), (5, 0), (6, 0)] rfl rfl rfl ?_
        refine sd_vv rfl rfl rfl (vv_move rfl) ?_
        refine sd_vv rfl rfl rfl (vv_move rfl) ?_
        refine sd_vv rfl rfl rfl (vv_convB cv_22_5 rfl (by omega) (by omega)) ?_
        refine sd_vv rfl rfl rfl (vv_eq (vv_ixStr Try.underlying9 rfl rfl (by omega) (show lenTab[_]? = _ from (lenTab_at (by omega) (by omega)).1)) (congrArg (Value.int .u8) (lenTab_at (by omega) (by omega)).2.symm)) ?_
        refine sd_vv rfl rfl rfl (vv_conv64 cv_5_3 rfl (lg_lo _) (lg_hi (by omega) (by omega))) ?_
        refine sd_vv rfl rfl rfl (vv_add64 rfl rfl (lg_add _ (by decide)) (lg_add2 (by omega) (by omega) (by decide))) ?_
        refine sd_vv rfl rfl rfl (vv_assign rfl) ?_
        refine sd_done ?_
        refine sw_ret ?_
        refine ⟨_, _, rfl, res_tmp rfl rfl, ?_⟩
        refine ⟨congrArg (Value.int .i64) ?_, (Gr.refl w)⟩
        have e0 : lg (a : Int) = lg ((a : Int) / 65536) + 16 := lg_shift (a : Int) 16 65536 (by decide) (by omega)
        omega
    · -- h5 False
      replace h5 := of_decide_eq_false h5
      refine sw_skip ?_
      refine then_n ?_
      refine sw_seq ?_
      refine sw_seq ?_
      -- region 7 bits.go:346
      refine sw_region [(0, 0), (1, 0)] rfl rfl rfl ?_
      refine sd_vv rfl rfl rfl (vv_move rfl) ?_
      refine sd_vv rfl rfl rfl (vv_geq rfl rfl) ?_
      refine sd_done ?_
      refine sw_cond rfl (fun h7 => ?_) (fun h7 => ?_)
      · -- h7 True
        replace h7 := of_decide_eq_true h7
        refine sw_seq ?_
        -- region 8 bits.go:347
        refine sw_region [(0, 0), (1, 0), (2, 0)] rfl rfl rfl ?_
        refine sd_vv rfl rfl rfl (vv_move rfl) ?_
        refine sd_vv rfl rfl rfl (vv_shrN (n := 8) (m := 256) rfl rfl rfl (by decide)) ?_
        refine sd_vv rfl rfl rfl (vv_assign rfl) ?_
        refine sd_done ?_
        -- region 9 bits.go:348
        refine sw_region [(0, 0), (1, 0), (2, 0)] rfl rfl rfl ?_
        refine sd_vv rfl rfl rfl (vv_move rfl) ?_
        refine sd_vv rfl rfl rfl (vv_add64 rfl rfl (by omega) (by omega)) ?_
        refine sd_vv rfl rfl rfl (vv_assign rfl) ?_
        refine sd_done ?_
        refine sw_seq ?_
        -- region 10 bits.go:350
        refine sw_region [(0, 0), (1, 0), (2, 0), (3, 0), (4, 0), (5, 0), (6, 0)] rfl rfl rfl ?_
        refine sd_vv rfl rfl rfl (vv_move rfl) ?_
        refine sd_vv rfl rfl rfl (vv_move rfl) ?_
        refine sd_vv rfl rfl rfl (vv_convB cv_22_5 rfl (by omega) (by omega)) ?_
        refine sd_vv rfl rfl rfl (vv_eq (vv_ixStr Try.underlying9 rfl rfl (by omega) (show lenTab[_]? = _ from (lenTab_at (by omega) (by omega)).1)) (congrArg (Value.int .u8) (lenTab_at (by omega) (by omega)).2.symm)) ?_
        refine sd_vv rfl rfl rfl (vv_conv64 cv_5_3 rfl (lg_lo _) (lg_hi (by omega) (by omega))) ?_
        refine sd_vv rfl rfl rfl (vv_add64 rfl rfl (lg_add _ (by decide)) (lg_add2 (by omega) (by omega) (by decide))) ?_
        refine sd_vv rfl rfl rfl (vv_assign rfl) ?_
        refine sd_done ?_
        refine sw_ret ?_
        refine ⟨_, _, rfl, res_tmp rfl rfl, ?_⟩
        refine ⟨congrArg (Value.int .i64) ?_, (Gr.refl w)⟩
        have e0 : lg (a : Int) = lg ((a : Int) / 256) + 8 := lg_shift (a : Int) 8 256 (by decide) (by omega)
        omega
      · -- h7 False
        replace h7 := of_decide_eq_false h7
        refine sw_skip ?_
        refine then_n ?_
        refine sw_seq ?_
        -- region 10 bits.go:350
        refine sw_region [(0, 0), (1, 0), (2, 0), (3, 0), (4, 0), (5, 0), (6, 0)] rfl rfl rfl ?_
        refine sd_vv rfl rfl rfl (vv_move rfl) ?_
        refine sd_vv rfl rfl rfl (vv_move rfl) ?_
        refine sd_vv rfl rfl rfl (vv_convB cv_22_5 rfl (by omega) (by omega)) ?_
        refine sd_vv rfl rfl rfl (vv_eq (vv_ixStr Try.underlying9 rfl rfl (by omega) (show lenTab[_]? = _ from (lenTab_at (by omega) (by omega)).1)) (congrArg (Value.int .u8) (lenTab_at (by omega) (by omega)).2.symm)) ?_
        refine sd_vv rfl rfl rfl (vv_conv64 cv_5_3 rfl (lg_lo _) (lg_hi (by omega) (by omega))) ?_
        refine sd_vv rfl rfl rfl (vv_add64 rfl rfl (lg_add _ (by decide)) (lg_add2 (by omega) (by omega) (by decide))) ?_
        refine sd_vv rfl rfl rfl (vv_assign rfl) ?_
        refine sd_done ?_
        refine sw_ret ?_
        refine ⟨_, _, rfl, res_tmp rfl rfl, ?_⟩
        refine ⟨congrArg (Value.int .i64) ?_, (Gr.refl w)⟩
        omega
set_option maxHeartbeats 1000000 in
theorem len_c (a : Int) (ha1 : 0 ≤ a) (ha2 : a < 18446744073709551616) (w : World) :
    Calls Try.prog 104 [.int .u64 a].toArray w fun e w' => ∃ v, e = .returned v ∧ (v = .int .i64 (lg a) ∧ Gr w w') := by
  refine calls_of_sw (R := fun v w' => v = .int .i64 (lg a) ∧ Gr w w') 8 Try.func104 rfl rfl rfl ?_
  refine sw_seq ?_
  -- region 0 bits.go:302
  refine sw_region [(0, 0)] rfl rfl rfl ?_
  refine sd_vv rfl rfl rfl (vv_assign rfl) ?_
  refine sd_done ?_
  refine sw_seq ?_
  refine sw_condF rfl ?_
  refine sw_skip ?_
  refine then_n ?_
  refine sw_seq ?_
  -- region 2 bits.go:306
  refine sw_region [(0, 0), (1, 0), (2, 0)] rfl rfl rfl ?_
  refine sd_vv rfl rfl rfl (vv_move rfl) ?_
  refine sd_ev rfl rfl rfl (ev_call en_130 rfl (len64_c _ (by omega) (by omega) _)) ?_
  rintro _ w1 ⟨rfl, Gw1⟩
  have z1 := Gw1.size
  refine sd_vv rfl rfl rfl (vv_assign rfl) ?_
  refine sd_done ?_
  refine sw_ret ?_
  have X2 : Gr w w1 := (Gr.trans (Gr.refl w) Gw1)
  refine ⟨_, _, rfl, res_tmp rfl rfl, ?_⟩
  exact ⟨rfl, X2⟩
end Go.Proofs.Ytopkalcefepilaa

end
section
set_option linter.unusedVariables false
set_option linter.unusedSimpArgs false
namespace Go.Sx
open Go Go.RowKit Go.Proofs Go.Sort Go.Shelf
section
variable {P : Program} {ρ : Ren}
end
end Go.Sx

end
section
set_option linter.unusedVariables false
set_option linter.unusedSimpArgs false
set_option maxRecDepth 100000
namespace Go.Proofs.Ytopkalcefepilaa.Mx
open Go Go.RowKit Go.Sx Go.Proofs Go.Shelf Go.Lib Go.Sort
end Go.Proofs.Ytopkalcefepilaa.Mx

end
section
set_option linter.unusedVariables false
set_option linter.unusedSimpArgs false
namespace Go.Sx
open Go
theorem fuel_lt {n : Nat} (h : n < 9223372036854775808) : n < FUEL := by unfold FUEL; omega
theorem w64_id {n : Int} (h0 : -9223372036854775808 ≤ n) (h1 : n ≤ 9223372036854775807) : w64 n = n := by
  have := IntKind.wrap_i64 n
  unfold w64; rw [this]; omega
theorem bind_some {α β : Type} (a : α) (f : α → Option β) : Option.bind (some a) f = f a := rfl
theorem appG_some {α : Type} {b : Nat} {l m : List α} (h : (l.length + m.length) * b ≤ 140737488355328) : appG b l m = some (l ++ m) := if_pos h
theorem getI_some {α : Type} {l : List α} {i : Nat} (h : i < l.length) : getI l (i : Int) = some l[i] := by unfold getI; rw [if_pos (by omega)]; simp [h]
/-- the bytes of a word, the highest first -/
def w8 (x : BitVec 64) : List (BitVec 8) := [byt x 0, byt x 1, byt x 2, byt x 3, byt x 4, byt x 5, byt x 6, byt x 7]
end Go.Sx

end
section
set_option linter.unusedVariables false
set_option linter.unusedSimpArgs false
set_option maxRecDepth 100000
namespace Go.Sx.Pn
open Go Go.Sx
def sch (k d : Nat) : TScheme := ⟨BitVec.ofNat 8 k, (d : Int), 0, ⟨0#64, 0#64, 0#64⟩⟩
def tb_1_0 : Tplan_tables := ⟨sch 1 0, 1, ⟨[1, 0], [], [], []⟩, 1⟩
theorem nt_1_0 : plan_newTables (sch 1 0) = some tb_1_0 := by kernel_rfl
def tb_1_1 : Tplan_tables := ⟨sch 1 1, 1, ⟨[1, 0, 1, 1, 0], [], [], []⟩, 1⟩
theorem nt_1_1 : plan_newTables (sch 1 1) = some tb_1_1 := by kernel_rfl
def tb_1_2 : Tplan_tables := ⟨sch 1 2, 2, ⟨[1, 0, 1, 1, 0, 1, 2, 2, 1, 0], [], [], []⟩, 1⟩
theorem nt_1_2 : plan_newTables (sch 1 2) = some tb_1_2 := by kernel_rfl
def tb_1_3 : Tplan_tables := ⟨sch 1 3, 2, ⟨[1, 0, 1, 1, 0, 1, 2, 2, 1, 0, 1, 3, 4, 4, 4, 3, 2, 1, 0], [], [], []⟩, 1⟩
theorem nt_1_3 : plan_newTables (sch 1 3) = some tb_1_3 := by kernel_rfl
def tb_1_4 : Tplan_tables := ⟨sch 1 4, 2, ⟨[1, 0, 1, 1, 0, 1, 2, 2, 1, 0, 1, 3, 4, 4, 4, 3, 2, 1, 0, 1, 4, 6, 7, 8, 8, 8, 8, 8, 7, 6, 5, 4, 3, 2, 1, 0], [], [], []⟩, 1⟩
theorem nt_1_4 : plan_newTables (sch 1 4) = some tb_1_4 := by kernel_rfl
def tb_1_5 : Tplan_tables := ⟨sch 1 5, 3, ⟨[1, 0, 1, 1, 0, 1, 2, 2, 1, 0, 1, 3, 4, 4, 4, 3, 2, 1, 0, 1, 4, 6, 7, 8, 8, 8, 8, 8, 7, 6, 5, 4, 3, 2, 1, 0, 1, 5, 8, 10, 12, 13, 14, 15, 16, 16, 16, 16, 16, 16, 16, 16, 16, 15, 14, 13, 12, 11, 10, 9, 8, 7, 6, 5, 4, 3, 2, 1, 0], [], [], []⟩, 1⟩
theorem nt_1_5 : plan_newTables (sch 1 5) = some tb_1_5 := by kernel_rfl
def tb_1_6 : Tplan_tables := ⟨sch 1 6, 3, ⟨[1, 0, 1, 1, 0, 1, 2, 2, 1, 0, 1, 3, 4, 4, 4, 3, 2, 1, 0, 1, 4, 6, 7, 8, 8, 8, 8, 8, 7, 6, 5, 4, 3, 2, 1, 0, 1, 5, 8, 10, 12, 13, 14, 15, 16, 16, 16, 16, 16, 16, 16, 16, 16, 15, 14, 13, 12, 11, 10, 9, 8, 7, 6, 5, 4, 3, 2, 1, 0, 1, 6, 10, 13, 16, 18, 20, 22, 24, 25, 26, 27, 28, 29, 30, 31, 32, 32, 32, 32, 32, 32, 32, 32, 32, 32, 32, 32, 32, 32, 32, 32, 32, 31, 30, 29, 28, 27, 26, 25, 24, 23, 22, 21, 20, 19, 18, 17, 16, 15, 14, 13, 12, 11, 10, 9, 8, 7, 6, 5, 4, 3, 2, 1, 0], [], [], []⟩, 1⟩
theorem nt_1_6 : plan_newTables (sch 1 6) = some tb_1_6 := by kernel_rfl
def tb_2_0 : Tplan_tables := ⟨sch 2 0, 1, ⟨[0, 0], [0, 1], [], []⟩, 2⟩
theorem nt_2_0 : plan_newTables (sch 2 0) = some tb_2_0 := by kernel_rfl
def tb_2_1 : Tplan_tables := ⟨sch 2 1, 1, ⟨[0, 0, 0, 1, 0], [0, 1, 0, 1, 1], [], []⟩, 2⟩
theorem nt_2_1 : plan_newTables (sch 2 1) = some tb_2_1 := by kernel_rfl
def tb_2_2 : Tplan_tables := ⟨sch 2 2, 2, ⟨[0, 0, 0, 1, 0, 0, 1, 2, 1, 0], [0, 1, 0, 1, 1, 0, 1, 3, 2, 1], [], []⟩, 2⟩
theorem nt_2_2 : plan_newTables (sch 2 2) = some tb_2_2 := by kernel_rfl
def tb_2_3 : Tplan_tables := ⟨sch 2 3, 2, ⟨[0, 0, 0, 1, 0, 0, 1, 2, 1, 0, 0, 1, 3, 3, 4, 3, 2, 1, 0], [0, 1, 0, 1, 1, 0, 1, 3, 2, 1, 0, 1, 3, 4, 5, 4, 3, 2, 1], [], []⟩, 2⟩
theorem nt_2_3 : plan_newTables (sch 2 3) = some tb_2_3 := by kernel_rfl
def tb_2_4 : Tplan_tables := ⟨sch 2 4, 2, ⟨[0, 0, 0, 1, 0, 0, 1, 2, 1, 0, 0, 1, 3, 3, 4, 3, 2, 1, 0, 0, 1, 3, 4, 6, 6, 7, 7, 8, 7, 6, 5, 4, 3, 2, 1, 0], [0, 1, 0, 1, 1, 0, 1, 3, 2, 1, 0, 1, 3, 4, 5, 4, 3, 2, 1, 0, 1, 3, 5, 7, 7, 8, 8, 9, 8, 7, 6, 5, 4, 3, 2, 1], [], []⟩, 2⟩
theorem nt_2_4 : plan_newTables (sch 2 4) = some tb_2_4 := by kernel_rfl
def tb_2_5 : Tplan_tables := ⟨sch 2 5, 3, ⟨[0, 0, 0, 1, 0, 0, 1, 2, 1, 0, 0, 1, 3, 3, 4, 3, 2, 1, 0, 0, 1, 3, 4, 6, 6, 7, 7, 8, 7, 6, 5, 4, 3, 2, 1, 0, 0, 1, 3, 5, 7, 7, 9, 10, 12, 12, 13, 13, 14, 14, 15, 15, 16, 15, 14, 13, 12, 11, 10, 9, 8, 7, 6, 5, 4, 3, 2, 1, 0], [0, 1, 0, 1, 1, 0, 1, 3, 2, 1, 0, 1, 3, 4, 5, 4, 3, 2, 1, 0, 1, 3, 5, 7, 7, 8, 8, 9, 8, 7, 6, 5, 4, 3, 2, 1, 0, 1, 3, 5, 7, 8, 10, 11, 13, 13, 14, 14, 15, 15, 16, 16, 17, 16, 15, 14, 13, 12, 11, 10, 9, 8, 7, 6, 5, 4, 3, 2, 1], [], []⟩, 2⟩
theorem nt_2_5 : plan_newTables (sch 2 5) = some tb_2_5 := by kernel_rfl
def tb_2_6 : Tplan_tables := ⟨sch 2 6, 3, ⟨[0, 0, 0, 1, 0, 0, 1, 2, 1, 0, 0, 1, 3, 3, 4, 3, 2, 1, 0, 0, 1, 3, 4, 6, 6, 7, 7, 8, 7, 6, 5, 4, 3, 2, 1, 0, 0, 1, 3, 5, 7, 7, 9, 10, 12, 12, 13, 13, 14, 14, 15, 15, 16, 15, 14, 13, 12, 11, 10, 9, 8, 7, 6, 5, 4, 3, 2, 1, 0, 0, 1, 3, 5, 7, 8, 10, 12, 14, 14, 16, 17, 19, 19, 21, 22, 24, 24, 25, 25, 26, 26, 27, 27, 28, 28, 29, 29, 30, 30, 31, 31, 32, 31, 30, 29, 28, 27, 26, 25, 24, 23, 22, 21, 20, 19, 18, 17, 16, 15, 14, 13, 12, 11, 10, 9, 8, 7, 6, 5, 4, 3, 2, 1, 0], [0, 1, 0, 1, 1, 0, 1, 3, 2, 1, 0, 1, 3, 4, 5, 4, 3, 2, 1, 0, 1, 3, 5, 7, 7, 8, 8, 9, 8, 7, 6, 5, 4, 3, 2, 1, 0, 1, 3, 5, 7, 8, 10, 11, 13, 13, 14, 14, 15, 15, 16, 16, 17, 16, 15, 14, 13, 12, 11, 10, 9, 8, 7, 6, 5, 4, 3, 2, 1, 0, 1, 3, 5, 7, 9, 11, 13, 15, 15, 17, 18, 20, 20, 22, 23, 25, 25, 26, 26, 27, 27, 28, 28, 29, 29, 30, 30, 31, 31, 32, 32, 33, 32, 31, 30, 29, 28, 27, 26, 25, 24, 23, 22, 21, 20, 19, 18, 17, 16, 15, 14, 13, 12, 11, 10, 9, 8, 7, 6, 5, 4, 3, 2, 1], [], []⟩, 2⟩
theorem nt_2_6 : plan_newTables (sch 2 6) = some tb_2_6 := by kernel_rfl
def tb_3_0 : Tplan_tables := ⟨sch 3 0, 1, ⟨[0, 0], [0, 1], [0, 1], [0, 2]⟩, 4⟩
theorem nt_3_0 : plan_newTables (sch 3 0) = some tb_3_0 := by kernel_rfl
def tb_3_1 : Tplan_tables := ⟨sch 3 1, 1, ⟨[0, 0, 0, 1, 0], [0, 1, 0, 1, 1], [0, 1, 0, 2, 1], [0, 2, 0, 2, 2]⟩, 4⟩
theorem nt_3_1 : plan_newTables (sch 3 1) = some tb_3_1 := by kernel_rfl
def tb_3_2 : Tplan_tables := ⟨sch 3 2, 2, ⟨[0, 0, 0, 1, 0, 0, 1, 2, 1, 0], [0, 1, 0, 1, 1, 0, 1, 3, 2, 1], [0, 1, 0, 1, 1, 0, 2, 3, 2, 1], [0, 2, 0, 2, 2, 0, 2, 4, 3, 2]⟩, 4⟩
theorem nt_3_2 : plan_newTables (sch 3 2) = some tb_3_2 := by kernel_rfl
def tb_3_3 : Tplan_tables := ⟨sch 3 3, 2, ⟨[0, 0, 0, 1, 0, 0, 2, 2, 1, 0, 0, 1, 4, 4, 4, 3, 2, 1, 0], [0, 1, 0, 1, 1, 0, 1, 3, 2, 1, 0, 1, 5, 5, 5, 4, 3, 2, 1], [0, 1, 0, 2, 1, 0, 2, 3, 2, 1, 0, 2, 5, 5, 5, 4, 3, 2, 1], [0, 2, 0, 2, 2, 0, 2, 4, 3, 2, 0, 2, 6, 6, 6, 5, 4, 3, 2]⟩, 4⟩
theorem nt_3_3 : plan_newTables (sch 3 3) = some tb_3_3 := by kernel_rfl
def tb_3_4 : Tplan_tables := ⟨sch 3 4, 2, ⟨[0, 0, 0, 1, 0, 0, 1, 2, 1, 0, 0, 2, 3, 3, 4, 3, 2, 1, 0, 0, 1, 4, 5, 6, 6, 7, 7, 8, 7, 6, 5, 4, 3, 2, 1, 0], [0, 1, 0, 1, 1, 0, 1, 3, 2, 1, 0, 1, 3, 4, 5, 4, 3, 2, 1, 0, 1, 5, 6, 7, 7, 8, 8, 9, 8, 7, 6, 5, 4, 3, 2, 1], [0, 1, 0, 1, 1, 0, 2, 3, 2, 1, 0, 2, 3, 4, 5, 4, 3, 2, 1, 0, 2, 5, 6, 7, 7, 8, 8, 9, 8, 7, 6, 5, 4, 3, 2, 1], [0, 2, 0, 2, 2, 0, 2, 4, 3, 2, 0, 2, 4, 5, 6, 5, 4, 3, 2, 0, 2, 6, 7, 8, 8, 9, 9, 10, 9, 8, 7, 6, 5, 4, 3, 2]⟩, 4⟩
theorem nt_3_4 : plan_newTables (sch 3 4) = some tb_3_4 := by kernel_rfl
def tb_3_5 : Tplan_tables := ⟨sch 3 5, 3, ⟨[0, 0, 0, 1, 0, 0, 1, 2, 1, 0, 0, 2, 3, 3, 4, 3, 2, 1, 0, 0, 2, 4, 5, 6, 6, 7, 7, 8, 7, 6, 5, 4, 3, 2, 1, 0, 0, 1, 5, 6, 8, 9, 10, 11, 12, 12, 13, 13, 14, 14, 15, 15, 16, 15, 14, 13, 12, 11, 10, 9, 8, 7, 6, 5, 4, 3, 2, 1, 0], [0, 1, 0, 1, 1, 0, 1, 3, 2, 1, 0, 1, 3, 4, 5, 4, 3, 2, 1, 0, 1, 5, 6, 7, 7, 8, 8, 9, 8, 7, 6, 5, 4, 3, 2, 1, 0, 1, 5, 7, 9, 10, 11, 12, 13, 13, 14, 14, 15, 15, 16, 16, 17, 16, 15, 14, 13, 12, 11, 10, 9, 8, 7, 6, 5, 4, 3, 2, 1], [0, 1, 0, 1, 1, 0, 2, 3, 2, 1, 0, 2, 3, 4, 5, 4, 3, 2, 1, 0, 2, 5, 6, 7, 7, 8, 8, 9, 8, 7, 6, 5, 4, 3, 2, 1, 0, 2, 6, 7, 9, 10, 11, 12, 13, 13, 14, 14, 15, 15, 16, 16, 17, 16, 15, 14, 13, 12, 11, 10, 9, 8, 7, 6, 5, 4, 3, 2, 1], [0, 2, 0, 2, 2, 0, 2, 4, 3, 2, 0, 2, 4, 5, 6, 5, 4, 3, 2, 0, 2, 6, 7, 8, 8, 9, 9, 10, 9, 8, 7, 6, 5, 4, 3, 2, 0, 2, 6, 8, 10, 11, 12, 13, 14, 14, 15, 15, 16, 16, 17, 17, 18, 17, 16, 15, 14, 13, 12, 11, 10, 9, 8, 7, 6, 5, 4, 3, 2]⟩, 4⟩
theorem nt_3_5 : plan_newTables (sch 3 5) = some tb_3_5 := by kernel_rfl
def tb_3_6 : Tplan_tables := ⟨sch 3 6, 3, ⟨[0, 0, 0, 1, 0, 0, 1, 2, 1, 0, 0, 1, 3, 3, 4, 3, 2, 1, 0, 0, 2, 4, 4, 6, 6, 7, 7, 8, 7, 6, 5, 4, 3, 2, 1, 0, 0, 2, 4, 6, 8, 8, 10, 10, 12, 12, 13, 13, 14, 14, 15, 15, 16, 15, 14, 13, 12, 11, 10, 9, 8, 7, 6, 5, 4, 3, 2, 1, 0, 0, 1, 5, 7, 9, 10, 12, 14, 16, 16, 18, 18, 20, 20, 22, 22, 24, 24, 25, 25, 26, 26, 27, 27, 28, 28, 29, 29, 30, 30, 31, 31, 32, 31, 30, 29, 28, 27, 26, 25, 24, 23, 22, 21, 20, 19, 18, 17, 16, 15, 14, 13, 12, 11, 10, 9, 8, 7, 6, 5, 4, 3, 2, 1, 0], [0, 1, 0, 1, 1, 0, 1, 3, 2, 1, 0, 1, 3, 4, 5, 4, 3, 2, 1, 0, 1, 3, 5, 7, 7, 8, 8, 9, 8, 7, 6, 5, 4, 3, 2, 1, 0, 1, 5, 7, 9, 9, 11, 11, 13, 13, 14, 14, 15, 15, 16, 16, 17, 16, 15, 14, 13, 12, 11, 10, 9, 8, 7, 6, 5, 4, 3, 2, 1, 0, 1, 5, 7, 9, 11, 13, 15, 17, 17, 19, 19, 21, 21, 23, 23, 25, 25, 26, 26, 27, 27, 28, 28, 29, 29, 30, 30, 31, 31, 32, 32, 33, 32, 31, 30, 29, 28, 27, 26, 25, 24, 23, 22, 21, 20, 19, 18, 17, 16, 15, 14, 13, 12, 11, 10, 9, 8, 7, 6, 5, 4, 3, 2, 1], [0, 1, 0, 1, 1, 0, 1, 3, 2, 1, 0, 2, 4, 4, 5, 4, 3, 2, 1, 0, 2, 4, 5, 7, 7, 8, 8, 9, 8, 7, 6, 5, 4, 3, 2, 1, 0, 2, 5, 7, 9, 9, 11, 11, 13, 13, 14, 14, 15, 15, 16, 16, 17, 16, 15, 14, 13, 12, 11, 10, 9, 8, 7, 6, 5, 4, 3, 2, 1, 0, 2, 6, 8, 10, 11, 13, 15, 17, 17, 19, 19, 21, 21, 23, 23, 25, 25, 26, 26, 27, 27, 28, 28, 29, 29, 30, 30, 31, 31, 32, 32, 33, 32, 31, 30, 29, 28, 27, 26, 25, 24, 23, 22, 21, 20, 19, 18, 17, 16, 15, 14, 13, 12, 11, 10, 9, 8, 7, 6, 5, 4, 3, 2, 1], [0, 2, 0, 2, 2, 0, 2, 4, 3, 2, 0, 2, 4, 5, 6, 5, 4, 3, 2, 0, 2, 4, 6, 8, 8, 9, 9, 10, 9, 8, 7, 6, 5, 4, 3, 2, 0, 2, 6, 8, 10, 10, 12, 12, 14, 14, 15, 15, 16, 16, 17, 17, 18, 17, 16, 15, 14, 13, 12, 11, 10, 9, 8, 7, 6, 5, 4, 3, 2, 0, 2, 6, 8, 10, 12, 14, 16, 18, 18, 20, 20, 22, 22, 24, 24, 26, 26, 27, 27, 28, 28, 29, 29, 30, 30, 31, 31, 32, 32, 33, 33, 34, 33, 32, 31, 30, 29, 28, 27, 26, 25, 24, 23, 22, 21, 20, 19, 18, 17, 16, 15, 14, 13, 12, 11, 10, 9, 8, 7, 6, 5, 4, 3, 2]⟩, 4⟩
theorem nt_3_6 : plan_newTables (sch 3 6) = some tb_3_6 := by kernel_rfl
def tb (k d : Nat) : Tplan_tables := match k, d with
  | 1, 0 => tb_1_0
  | 1, 1 => tb_1_1
  | 1, 2 => tb_1_2
  | 1, 3 => tb_1_3
  | 1, 4 => tb_1_4
  | 1, 5 => tb_1_5
  | 1, 6 => tb_1_6
  | 2, 0 => tb_2_0
  | 2, 1 => tb_2_1
  | 2, 2 => tb_2_2
  | 2, 3 => tb_2_3
  | 2, 4 => tb_2_4
  | 2, 5 => tb_2_5
  | 2, 6 => tb_2_6
  | 3, 0 => tb_3_0
  | 3, 1 => tb_3_1
  | 3, 2 => tb_3_2
  | 3, 3 => tb_3_3
  | 3, 4 => tb_3_4
  | 3, 5 => tb_3_5
  | 3, 6 => tb_3_6
  | _, _ => tb_1_0
theorem nt {k d : Nat} (hk : 1 ≤ k ∧ k ≤ 3) (hd : d ≤ 6) : plan_newTables (sch k d) = some (tb k d) := by
  rcases (show k = 1 ∨ k = 2 ∨ k = 3 by omega) with rfl | rfl | rfl <;> rcases (show d = 0 ∨ d = 1 ∨ d = 2 ∨ d = 3 ∨ d = 4 ∨ d = 5 ∨ d = 6 by omega) with rfl | rfl | rfl | rfl | rfl | rfl | rfl
  · exact nt_1_0
  · exact nt_1_1
  · exact nt_1_2
  · exact nt_1_3
  · exact nt_1_4
  · exact nt_1_5
  · exact nt_1_6
  · exact nt_2_0
  · exact nt_2_1
  · exact nt_2_2
  · exact nt_2_3
  · exact nt_2_4
  · exact nt_2_5
  · exact nt_2_6
  · exact nt_3_0
  · exact nt_3_1
  · exact nt_3_2
  · exact nt_3_3
  · exact nt_3_4
  · exact nt_3_5
  · exact nt_3_6
/-- the worst numbers, and the least numbers of revoked receivers that have them -/
def wl (k d : Nat) : List (Int × Int) := match k, d with
  | 1, 0 => [(1, 0), (1, 0)]
  | 1, 1 => [(1, 0), (1, 0), (1, 0)]
  | 1, 2 => [(1, 0), (2, 1), (2, 1), (2, 1), (2, 1)]
  | 1, 3 => [(1, 0), (3, 1), (4, 2), (4, 2), (4, 2), (4, 2), (4, 2), (4, 2), (4, 2)]
  | 1, 4 => [(1, 0), (4, 1), (6, 2), (7, 3), (8, 4), (8, 4), (8, 4), (8, 4), (8, 4), (8, 4), (8, 4), (8, 4), (8, 4), (8, 4), (8, 4), (8, 4), (8, 4)]
  | 1, 5 => [(1, 0), (5, 1), (8, 2), (10, 3), (12, 4), (13, 5), (14, 6), (15, 7), (16, 8), (16, 8), (16, 8), (16, 8), (16, 8), (16, 8), (16, 8), (16, 8), (16, 8), (16, 8), (16, 8), (16, 8), (16, 8), (16, 8), (16, 8), (16, 8), (16, 8), (16, 8), (16, 8), (16, 8), (16, 8), (16, 8), (16, 8), (16, 8), (16, 8)]
  | 1, 6 => [(1, 0), (6, 1), (10, 2), (13, 3), (16, 4), (18, 5), (20, 6), (22, 7), (24, 8), (25, 9), (26, 10), (27, 11), (28, 12), (29, 13), (30, 14), (31, 15), (32, 16), (32, 16), (32, 16), (32, 16), (32, 16), (32, 16), (32, 16), (32, 16), (32, 16), (32, 16), (32, 16), (32, 16), (32, 16), (32, 16), (32, 16), (32, 16), (32, 16), (32, 16), (32, 16), (32, 16), (32, 16), (32, 16), (32, 16), (32, 16), (32, 16), (32, 16), (32, 16), (32, 16), (32, 16), (32, 16), (32, 16), (32, 16), (32, 16), (32, 16), (32, 16), (32, 16), (32, 16), (32, 16), (32, 16), (32, 16), (32, 16), (32, 16), (32, 16), (32, 16), (32, 16), (32, 16), (32, 16), (32, 16), (32, 16)]
  | 2, 0 => [(1, 0), (1, 0)]
  | 2, 1 => [(1, 0), (1, 0), (1, 0)]
  | 2, 2 => [(1, 0), (1, 0), (2, 2), (2, 2), (2, 2)]
  | 2, 3 => [(1, 0), (1, 0), (3, 2), (3, 2), (4, 4), (4, 4), (4, 4), (4, 4), (4, 4)]
  | 2, 4 => [(1, 0), (1, 0), (3, 2), (4, 3), (6, 4), (6, 4), (7, 6), (7, 6), (8, 8), (8, 8), (8, 8), (8, 8), (8, 8), (8, 8), (8, 8), (8, 8), (8, 8)]
  | 2, 5 => [(1, 0), (1, 0), (3, 2), (5, 3), (7, 4), (7, 4), (9, 6), (10, 7), (12, 8), (12, 8), (13, 10), (13, 10), (14, 12), (14, 12), (15, 14), (15, 14), (16, 16), (16, 16), (16, 16), (16, 16), (16, 16), (16, 16), (16, 16), (16, 16), (16, 16), (16, 16), (16, 16), (16, 16), (16, 16), (16, 16), (16, 16), (16, 16), (16, 16)]
  | 2, 6 => [(1, 0), (1, 0), (3, 2), (5, 3), (7, 4), (8, 5), (10, 6), (12, 7), (14, 8), (14, 8), (16, 10), (17, 11), (19, 12), (19, 12), (21, 14), (22, 15), (24, 16), (24, 16), (25, 18), (25, 18), (26, 20), (26, 20), (27, 22), (27, 22), (28, 24), (28, 24), (29, 26), (29, 26), (30, 28), (30, 28), (31, 30), (31, 30), (32, 32), (32, 32), (32, 32), (32, 32), (32, 32), (32, 32), (32, 32), (32, 32), (32, 32), (32, 32), (32, 32), (32, 32), (32, 32), (32, 32), (32, 32), (32, 32), (32, 32), (32, 32), (32, 32), (32, 32), (32, 32), (32, 32), (32, 32), (32, 32), (32, 32), (32, 32), (32, 32), (32, 32), (32, 32), (32, 32), (32, 32), (32, 32), (32, 32)]
  | 3, 0 => [(1, 0), (1, 0)]
  | 3, 1 => [(1, 0), (1, 0), (1, 0)]
  | 3, 2 => [(1, 0), (1, 0), (2, 2), (2, 2), (2, 2)]
  | 3, 3 => [(1, 0), (1, 0), (4, 2), (4, 2), (4, 2), (4, 2), (4, 2), (4, 2), (4, 2)]
  | 3, 4 => [(1, 0), (1, 0), (4, 2), (5, 3), (6, 4), (6, 4), (7, 6), (7, 6), (8, 8), (8, 8), (8, 8), (8, 8), (8, 8), (8, 8), (8, 8), (8, 8), (8, 8)]
  | 3, 5 => [(1, 0), (1, 0), (5, 2), (6, 3), (8, 4), (9, 5), (10, 6), (11, 7), (12, 8), (12, 8), (13, 10), (13, 10), (14, 12), (14, 12), (15, 14), (15, 14), (16, 16), (16, 16), (16, 16), (16, 16), (16, 16), (16, 16), (16, 16), (16, 16), (16, 16), (16, 16), (16, 16), (16, 16), (16, 16), (16, 16), (16, 16), (16, 16), (16, 16)]
  | 3, 6 => [(1, 0), (1, 0), (5, 2), (7, 3), (9, 4), (10, 5), (12, 6), (14, 7), (16, 8), (16, 8), (18, 10), (18, 10), (20, 12), (20, 12), (22, 14), (22, 14), (24, 16), (24, 16), (25, 18), (25, 18), (26, 20), (26, 20), (27, 22), (27, 22), (28, 24), (28, 24), (29, 26), (29, 26), (30, 28), (30, 28), (31, 30), (31, 30), (32, 32), (32, 32), (32, 32), (32, 32), (32, 32), (32, 32), (32, 32), (32, 32), (32, 32), (32, 32), (32, 32), (32, 32), (32, 32), (32, 32), (32, 32), (32, 32), (32, 32), (32, 32), (32, 32), (32, 32), (32, 32), (32, 32), (32, 32), (32, 32), (32, 32), (32, 32), (32, 32), (32, 32), (32, 32), (32, 32), (32, 32), (32, 32), (32, 32)]
  | _, _ => []
def wst (k d r : Nat) : Int × Int := (wl k d).getD r (0, 0)
theorem worst_all : ∀ k ∈ [1, 2, 3], ∀ d ∈ List.range 7, ∀ r ∈ List.range (2 ^ d + 1), plan_tables_worst (tb k d) (r : Int) = some (wst k d r) := by decide +kernel
/-- the worst lists -/
def ll (k d : Nat) : List (Int × List Int × Int) := match k, d with
  | 1, 0 => [(0, [], 1)]
  | 1, 1 => [(0, [], 1)]
  | 1, 2 => [(0, [], 1), (1, [3], 2)]
  | 1, 3 => [(0, [], 1), (1, [7], 3), (2, [3, 7], 4)]
  | 1, 4 => [(0, [], 1), (1, [15], 4), (2, [7, 15], 6), (3, [7, 11, 15], 7), (4, [3, 7, 11, 15], 8)]
  | 1, 5 => [(0, [], 1), (1, [31], 5), (2, [15, 31], 8), (3, [15, 23, 31], 10), (4, [7, 15, 23, 31], 12), (5, [7, 15, 23, 27, 31], 13), (6, [7, 15, 19, 23, 27, 31], 14), (7, [7, 11, 15, 19, 23, 27, 31], 15), (8, [3, 7, 11, 15, 19, 23, 27, 31], 16)]
  | 1, 6 => [(0, [], 1), (1, [63], 6), (2, [31, 63], 10), (3, [31, 47, 63], 13), (4, [15, 31, 47, 63], 16), (5, [15, 31, 47, 55, 63], 18), (6, [15, 31, 39, 47, 55, 63], 20), (7, [15, 23, 31, 39, 47, 55, 63], 22), (8, [7, 15, 23, 31, 39, 47, 55, 63], 24), (9, [7, 15, 23, 31, 39, 47, 55, 59, 63], 25), (10, [7, 15, 23, 31, 39, 47, 51, 55, 59, 63], 26), (11, [7, 15, 23, 31, 39, 43, 47, 51, 55, 59, 63], 27), (12, [7, 15, 23, 31, 35, 39, 43, 47, 51, 55, 59, 63], 28), (13, [7, 15, 23, 27, 31, 35, 39, 43, 47, 51, 55, 59, 63], 29), (14, [7, 15, 19, 23, 27, 31, 35, 39, 43, 47, 51, 55, 59, 63], 30), (15, [7, 11, 15, 19, 23, 27, 31, 35, 39, 43, 47, 51, 55, 59, 63], 31), (16, [3, 7, 11, 15, 19, 23, 27, 31, 35, 39, 43, 47, 51, 55, 59, 63], 32)]
  | 2, 0 => [(0, [], 1)]
  | 2, 1 => [(0, [], 1)]
  | 2, 2 => [(0, [], 1), (2, [1, 3], 2)]
  | 2, 3 => [(0, [], 1), (2, [5, 7], 3), (4, [1, 3, 5, 7], 4)]
  | 2, 4 => [(0, [], 1), (2, [13, 15], 3), (3, [11, 13, 15], 4), (4, [5, 7, 13, 15], 6), (6, [5, 7, 9, 11, 13, 15], 7), (8, [1, 3, 5, 7, 9, 11, 13, 15], 8)]
  | 2, 5 => [(0, [], 1), (2, [29, 31], 3), (3, [23, 29, 31], 5), (4, [21, 23, 29, 31], 7), (6, [13, 15, 21, 23, 29, 31], 9), (7, [11, 13, 15, 21, 23, 29, 31], 10), (8, [5, 7, 13, 15, 21, 23, 29, 31], 12), (10, [5, 7, 13, 15, 21, 23, 25, 27, 29, 31], 13), (12, [5, 7, 13, 15, 17, 19, 21, 23, 25, 27, 29, 31], 14), (14, [5, 7, 9, 11, 13, 15, 17, 19, 21, 23, 25, 27, 29, 31], 15), (16, [1, 3, 5, 7, 9, 11, 13, 15, 17, 19, 21, 23, 25, 27, 29, 31], 16)]
  | 2, 6 => [(0, [], 1), (2, [61, 63], 3), (3, [55, 61, 63], 5), (4, [53, 55, 61, 63], 7), (5, [47, 53, 55, 61, 63], 8), (6, [45, 47, 53, 55, 61, 63], 10), (7, [23, 29, 31, 53, 55, 61, 63], 12), (8, [21, 23, 29, 31, 53, 55, 61, 63], 14), (10, [21, 23, 29, 31, 45, 47, 53, 55, 61, 63], 16), (11, [23, 29, 31, 37, 39, 45, 47, 53, 55, 61, 63], 17), (12, [21, 23, 29, 31, 37, 39, 45, 47, 53, 55, 61, 63], 19), (14, [13, 15, 21, 23, 29, 31, 37, 39, 45, 47, 53, 55, 61, 63], 21), (15, [11, 13, 15, 21, 23, 29, 31, 37, 39, 45, 47, 53, 55, 61, 63], 22), (16, [5, 7, 13, 15, 21, 23, 29, 31, 37, 39, 45, 47, 53, 55, 61, 63], 24), (18, [5, 7, 13, 15, 21, 23, 29, 31, 37, 39, 45, 47, 53, 55, 57, 59, 61, 63], 25), (20, [5, 7, 13, 15, 21, 23, 29, 31, 37, 39, 45, 47, 49, 51, 53, 55, 57, 59, 61, 63], 26), (22, [5, 7, 13, 15, 21, 23, 29, 31, 37, 39, 41, 43, 45, 47, 49, 51, 53, 55, 57, 59, 61, 63], 27), (24, [5, 7, 13, 15, 21, 23, 29, 31, 33, 35, 37, 39, 41, 43, 45, 47, 49, 51, 53, 55, 57, 59, 61, 63], 28), (26, [5, 7, 13, 15, 21, 23, 25, 27, 29, 31, 33, 35, 37, 39, 41, 43, 45, 47, 49, 51, 53, 55, 57, 59, 61, 63], 29), (28, [5, 7, 13, 15, 17, 19, 21, 23, 25, 27, 29, 31, 33, 35, 37, 39, 41, 43, 45, 47, 49, 51, 53, 55, 57, 59, 61, 63], 30), (30, [5, 7, 9, 11, 13, 15, 17, 19, 21, 23, 25, 27, 29, 31, 33, 35, 37, 39, 41, 43, 45, 47, 49, 51, 53, 55, 57, 59, 61, 63], 31), (32, [1, 3, 5, 7, 9, 11, 13, 15, 17, 19, 21, 23, 25, 27, 29, 31, 33, 35, 37, 39, 41, 43, 45, 47, 49, 51, 53, 55, 57, 59, 61, 63], 32)]
  | 3, 0 => [(0, [], 1)]
  | 3, 1 => [(0, [], 1)]
  | 3, 2 => [(0, [], 1), (2, [1, 3], 2)]
  | 3, 3 => [(0, [], 1), (2, [3, 7], 4)]
  | 3, 4 => [(0, [], 1), (2, [7, 15], 4), (3, [7, 13, 15], 5), (4, [5, 7, 13, 15], 6), (6, [5, 7, 9, 11, 13, 15], 7), (8, [1, 3, 5, 7, 9, 11, 13, 15], 8)]
  | 3, 5 => [(0, [], 1), (2, [23, 31], 5), (3, [23, 29, 31], 6), (4, [7, 15, 23, 31], 8), (5, [7, 15, 23, 29, 31], 9), (6, [7, 15, 21, 23, 29, 31], 10), (7, [7, 13, 15, 21, 23, 29, 31], 11), (8, [5, 7, 13, 15, 21, 23, 29, 31], 12), (10, [5, 7, 13, 15, 21, 23, 25, 27, 29, 31], 13), (12, [5, 7, 13, 15, 17, 19, 21, 23, 25, 27, 29, 31], 14), (14, [5, 7, 9, 11, 13, 15, 17, 19, 21, 23, 25, 27, 29, 31], 15), (16, [1, 3, 5, 7, 9, 11, 13, 15, 17, 19, 21, 23, 25, 27, 29, 31], 16)]
  | 3, 6 => [(0, [], 1), (2, [47, 63], 5), (3, [47, 61, 63], 7), (4, [45, 47, 61, 63], 9), (5, [31, 45, 47, 61, 63], 10), (6, [29, 31, 45, 47, 61, 63], 12), (7, [15, 29, 31, 45, 47, 61, 63], 14), (8, [13, 15, 29, 31, 45, 47, 61, 63], 16), (10, [13, 15, 29, 31, 45, 47, 53, 55, 61, 63], 18), (12, [13, 15, 29, 31, 37, 39, 45, 47, 53, 55, 61, 63], 20), (14, [13, 15, 21, 23, 29, 31, 37, 39, 45, 47, 53, 55, 61, 63], 22), (16, [5, 7, 13, 15, 21, 23, 29, 31, 37, 39, 45, 47, 53, 55, 61, 63], 24), (18, [5, 7, 13, 15, 21, 23, 29, 31, 37, 39, 45, 47, 53, 55, 57, 59, 61, 63], 25), (20, [5, 7, 13, 15, 21, 23, 29, 31, 37, 39, 45, 47, 49, 51, 53, 55, 57, 59, 61, 63], 26), (22, [5, 7, 13, 15, 21, 23, 29, 31, 37, 39, 41, 43, 45, 47, 49, 51, 53, 55, 57, 59, 61, 63], 27), (24, [5, 7, 13, 15, 21, 23, 29, 31, 33, 35, 37, 39, 41, 43, 45, 47, 49, 51, 53, 55, 57, 59, 61, 63], 28), (26, [5, 7, 13, 15, 21, 23, 25, 27, 29, 31, 33, 35, 37, 39, 41, 43, 45, 47, 49, 51, 53, 55, 57, 59, 61, 63], 29), (28, [5, 7, 13, 15, 17, 19, 21, 23, 25, 27, 29, 31, 33, 35, 37, 39, 41, 43, 45, 47, 49, 51, 53, 55, 57, 59, 61, 63], 30), (30, [5, 7, 9, 11, 13, 15, 17, 19, 21, 23, 25, 27, 29, 31, 33, 35, 37, 39, 41, 43, 45, 47, 49, 51, 53, 55, 57, 59, 61, 63], 31), (32, [1, 3, 5, 7, 9, 11, 13, 15, 17, 19, 21, 23, 25, 27, 29, 31, 33, 35, 37, 39, 41, 43, 45, 47, 49, 51, 53, 55, 57, 59, 61, 63], 32)]
  | _, _ => []
def lst (k d r : Nat) : List Int := ((ll k d).find? fun x => decide (x.1 = (wst k d r).2)).elim [] (·.2.1)
theorem list_ll : ∀ k ∈ [1, 2, 3], ∀ d ∈ List.range 7, ∀ x ∈ ll k d, plan_tables_list (tb k d) [] 1 0 (d : Int) x.1 = some x.2.1 ∧ x.2.1.length = x.1.toNat := by decide +kernel
theorem list_has : ∀ k ∈ [1, 2, 3], ∀ d ∈ List.range 7, ∀ r ∈ List.range (2 ^ d + 1), ∃ x ∈ (ll k d).find? (fun x => decide (x.1 = (wst k d r).2)), x.2.2 = (wst k d r).1 ∧ 0 ≤ x.1 ∧ x.1 ≤ (r : Int) := by decide +kernel
end Go.Sx.Pn

end
section
set_option linter.unusedVariables false
set_option maxRecDepth 100000
namespace Go.Sx
open Go Go.RowKit
noncomputable section
end
end Go.Sx

end
section
set_option linter.unusedVariables false
set_option linter.unusedSimpArgs false
namespace Go.Sx
open Go
/-! sizes -/
theorem pow_le64 {d : Nat} (h : d ≤ 6) : 2 ^ d ≤ 64 := Nat.le_trans (Nat.pow_le_pow_right (by omega) h) (by decide)
/-! special nodes -/
/-! paths -/
end Go.Sx

end
section
set_option linter.unusedVariables false
set_option linter.unusedSimpArgs false
namespace Go.Sx
open Go
/-! the first special node -/
end Go.Sx

end
section
set_option linter.unusedVariables false
set_option linter.unusedSimpArgs false
namespace Go.Sx
open Go
end Go.Sx

end
section
set_option linter.unusedVariables false
set_option linter.unusedSimpArgs false
namespace Go.Sx
open Go
/-! both sides' way in -/
end Go.Sx

end
section
set_option linter.unusedVariables false
set_option linter.unusedSimpArgs false
set_option maxRecDepth 100000
namespace Go.Sx
open Go
end Go.Sx

end
section
set_option linter.unusedVariables false
set_option linter.unusedSimpArgs false
set_option maxRecDepth 100000
namespace Go.Sx
open Go
/-! siblings -/
/-! paths -/
theorem leaf_log {d u : Nat} (hu : u < 2 ^ d) : Nat.log2 (2 ^ d + u) = d := by
  rw [Nat.log2_eq_iff (by have := Nat.two_pow_pos d; omega), Nat.pow_succ]; omega
end Go.Sx

end
section
set_option linter.unusedVariables false
set_option linter.unusedSimpArgs false
set_option maxRecDepth 100000
namespace Go.Sx
open Go
section
variable {d : Nat} {R : List Nat}
/-- receivers -/
def Rcv (d : Nat) (R : List Nat) : Prop := d ≤ 6 ∧ ∀ u ∈ R, u < 2 ^ d
theorem Rcv.leaf (h : Rcv d R) {u : Nat} (hu : u ∈ R) : 1 ≤ 2 ^ d + u ∧ 2 ^ d + u < 128 ∧ Nat.log2 (2 ^ d + u) = d := by
  have := pow_le64 h.1
  have := h.2 u hu
  have := Nat.two_pow_pos d
  exact ⟨by omega, by omega, leaf_log (h.2 u hu)⟩
end
end Go.Sx

end
section
set_option linter.unusedVariables false
set_option linter.unusedSimpArgs false
namespace Go.Sx
open Go
end Go.Sx

end
section
set_option linter.unusedVariables false
set_option linter.unusedSimpArgs false
namespace Go.Sx
open Go
end Go.Sx

end
section
set_option linter.unusedVariables false
set_option linter.unusedSimpArgs false
namespace Go.Sx
open Go
end Go.Sx

end
section
set_option linter.unusedVariables false
set_option linter.unusedSimpArgs false
namespace Go.Sx
open Go
/-! subsets, plainly -/
end Go.Sx

end
section
set_option linter.unusedVariables false
set_option linter.unusedSimpArgs false
namespace Go.Sx
open Go
section
variable {s : TScheme} {d u n m : Nat}
end
/-! lists of receivers -/
theorem getD_some {l : List Int} {j : Nat} (h : j < l.length) : l.getD j 0 = l[j] := by simp [List.getD, h]
end Go.Sx

end
section
set_option linter.unusedVariables false
set_option linter.unusedSimpArgs false
set_option maxRecDepth 100000
namespace Go.Sx
open Go
/-! the hot nodes -/
/-! a round -/
/-! any order -/
end Go.Sx

end
section
set_option linter.unusedVariables false
set_option linter.unusedSimpArgs false
set_option maxRecDepth 100000
namespace Go.Sx.Pn
open Go Go.Sx
theorem kd_mem {k d : Nat} (hk : 1 ≤ k ∧ k ≤ 3) (hd : d ≤ 6) : k ∈ [1, 2, 3] ∧ d ∈ List.range 7 := by
  refine ⟨?_, List.mem_range.2 (by omega)⟩
  rcases (show k = 1 ∨ k = 2 ∨ k = 3 by omega) with rfl | rfl | rfl <;> simp
theorem pow64 {d : Nat} (h : d ≤ 6) : 2 ^ d ≤ 64 := Nat.le_trans (Nat.pow_le_pow_right (by omega) h) (by decide)
theorem shlD {d : Nat} (h : d ≤ 6) : shlI 1 d = ((2 ^ d : Nat) : Int) := by
  have := pow64 h
  unfold shlI
  rw [Nat.min_eq_left (by omega), Int.one_mul, show (2 : Int) ^ d = ((2 ^ d : Nat) : Int) from by rw [Int.natCast_pow]; rfl]
  generalize 2 ^ d = m at *
  exact w64_id (by omega) (by omega)
theorem shGn (n : Nat) : shG (n : Int) = some n := by unfold shG; rw [if_pos (by omega)]; rfl
section
variable {k d r : Nat}
theorem worst_tb (hk : 1 ≤ k ∧ k ≤ 3) (hd : d ≤ 6) (hr : r ≤ 2 ^ d) : plan_tables_worst (tb k d) (r : Int) = some (wst k d r) := by
  obtain ⟨h1, h2⟩ := kd_mem hk hd
  exact worst_all k h1 d h2 r (List.mem_range.2 (by omega))
theorem list_tb (hk : 1 ≤ k ∧ k ≤ 3) (hd : d ≤ 6) (hr : r ≤ 2 ^ d) : plan_tables_list (tb k d) [] 1 0 (d : Int) (wst k d r).2 = some (lst k d r) ∧ ((wst k d r).2, lst k d r, (wst k d r).1) ∈ ll k d ∧ (lst k d r).length ≤ r := by
  obtain ⟨h1, h2⟩ := kd_mem hk hd
  obtain ⟨x, hx, e1, e2, e3⟩ := list_has k h1 d h2 r (List.mem_range.2 (by omega))
  have hf : (ll k d).find? (fun x => decide (x.1 = (wst k d r).2)) = some x := hx
  have h5 := List.mem_of_find?_eq_some hf
  have h6 : x.1 = (wst k d r).2 := by have := List.find?_some hf; simpa using this
  obtain ⟨h7, h8⟩ := list_ll k h1 d h2 x h5
  have hl : lst k d r = x.2.1 := by unfold lst; rw [hf]; rfl
  refine ⟨by rw [← h6, hl]; exact h7, by rw [hl, ← h6, ← e1]; exact h5, by rw [hl, h8]; omega⟩
end
end Go.Sx.Pn

end
section
set_option linter.unusedVariables false
set_option linter.unusedSimpArgs false
set_option maxRecDepth 100000
namespace Go.Sx.Po
open Go
abbrev bn (n : Nat) : BitVec 64 := BitVec.ofNat 64 n
theorem bn_of (x : BitVec 64) : ∃ n, n < 18446744073709551616 ∧ x = bn n := ⟨x.toNat, x.isLt, by simp [bn]⟩
theorem bn_nat {n : Nat} (h : n < 18446744073709551616) : (bn n).toNat = n := by rw [bn, BitVec.toNat_ofNat]; exact Nat.mod_eq_of_lt h
theorem bn_inj {a b : Nat} (ha : a < 18446744073709551616) (hb : b < 18446744073709551616) : bn a = bn b ↔ a = b := by
  constructor
  · intro h; rw [← bn_nat ha, ← bn_nat hb, h]
  · intro h; rw [h]
theorem bn_lt {a b : Nat} (ha : a < 18446744073709551616) (hb : b < 18446744073709551616) : bn a < bn b ↔ a < b := by rw [BitVec.lt_def, bn_nat ha, bn_nat hb]
theorem bn_le {a b : Nat} (ha : a < 18446744073709551616) (hb : b < 18446744073709551616) : bn a ≤ bn b ↔ a ≤ b := by rw [BitVec.le_def, bn_nat ha, bn_nat hb]
theorem bn_mul (a b : Nat) : bn a * bn b = bn (a * b) := by apply BitVec.eq_of_toNat_eq; simp [bn]
theorem bn_add (a b : Nat) : bn a + bn b = bn (a + b) := by apply BitVec.eq_of_toNat_eq; simp [bn]
theorem bn_sub {a b : Nat} (ha : a < 18446744073709551616) (h : b ≤ a) : bn a - bn b = bn (a - b) := by
  apply BitVec.eq_of_toNat_eq
  rw [BitVec.toNat_sub, bn_nat ha, bn_nat (by omega), bn_nat (by omega)]; omega
theorem bn_shr (n : Nat) (h : n < 18446744073709551616) : bn n >>> 1 = bn (n / 2) := by
  apply BitVec.eq_of_toNat_eq
  rw [BitVec.toNat_ushiftRight, bn_nat h, bn_nat (by omega), Nat.shiftRight_eq_div_pow]
theorem bn_and1 (n : Nat) (h : n < 18446744073709551616) : bn n &&& 1#64 = bn (n % 2) := by
  apply BitVec.eq_of_toNat_eq
  rw [BitVec.toNat_and, bn_nat h, bn_nat (n := n % 2) (by omega)]
  exact Nat.and_one_is_mod n
theorem remU_bn {a m : Nat} (ha : a < 18446744073709551616) (hm : 0 < m) (hm2 : m < 18446744073709551616) : remU (bn a) (bn m) = some (bn (a % m)) := by
  have := Nat.mod_lt a hm
  unfold remU
  rw [if_neg (fun h => by have := (bn_inj (b := 0) hm2 (by omega)).1 h; omega)]
  congr 1
  apply BitVec.eq_of_toNat_eq
  rw [BitVec.toNat_umod, bn_nat ha, bn_nat hm2, bn_nat (by omega)]
/-! primes -/
def Prm (n : Nat) : Prop := 2 ≤ n ∧ ∀ e, 2 ≤ e → e * e ≤ n → n % e ≠ 0
theorem prime_loop {n : Nat} (hn : n ≤ 1048575) (T : Bool) (F : (BitVec 64 → Option Bool) → BitVec 64 → Option Bool) (hF : ∀ rec a, F rec a = if a * a ≤ bn n then Option.bind (remU (bn n) a) fun x4 => if x4 = 0#64 then some false else rec (a + 1#64) else some T) :
    ∀ (m d f : Nat), d + m = 1025 → m < f → 2 ≤ d → ∃ b, fixN F f (bn d) = some b ∧ (b = true ↔ T = true ∧ ∀ e, d ≤ e → e * e ≤ n → n % e ≠ 0)
  | m, d, 0, _, h, _ => by omega
  | 0, d, f + 1, hd, _, h2 => by
    obtain rfl : d = 1025 := by omega
    rw [fix_step, hF, bn_mul, if_neg (by rw [bn_le (by omega) (by omega)]; omega)]
    refine ⟨T, rfl, fun h => ⟨h, fun e he hen => ?_⟩, fun h => h.1⟩
    have := Nat.mul_le_mul he he
    omega
  | m + 1, d, f + 1, hd, hf, h2 => by
    have hdd : d * d ≤ 1025 * 1025 := Nat.mul_le_mul (by omega) (by omega)
    rw [fix_step, hF, bn_mul]
    by_cases hle : d * d ≤ n
    · rw [if_pos ((bn_le (by omega) (by omega)).2 hle), remU_bn (by omega) (by omega) (by omega), bind_some]
      by_cases hz : n % d = 0
      · rw [hz, if_pos rfl]
        exact ⟨false, rfl, (fun h => by cases h), fun h => absurd hz (h.2 d (Nat.le_refl _) hle)⟩
      · have hzn : ¬ bn (n % d) = 0#64 := fun h => hz ((bn_inj (b := 0) (by have := Nat.mod_lt n (show 0 < d by omega); omega) (by omega)).1 h)
        rw [if_neg hzn, show (1#64) = bn 1 from rfl, bn_add]
        obtain ⟨b, e1, e2⟩ := prime_loop hn T F hF m (d + 1) f (by omega) (by omega) (by omega)
        refine ⟨b, e1, ?_⟩
        rw [e2]
        refine and_congr_right fun _ => ⟨fun h e he hen => ?_, fun h e he => h e (by omega)⟩
        rcases Nat.lt_or_ge d e with h' | h'
        · exact h e (by omega) hen
        · obtain rfl : e = d := by omega
          exact hz
    · rw [if_neg (fun h => hle ((bn_le (by omega) (by omega)).1 h))]
      refine ⟨T, rfl, fun h => ⟨h, fun e he hen => ?_⟩, fun h => h.1⟩
      have := Nat.mul_le_mul he he
      omega
theorem prime_eq {n : Nat} (h64 : n < 18446744073709551616) : ∃ b, number_prime (bn n) = some b ∧ (b = true ↔ n ≤ 1048575 ∧ Prm n) := by
  unfold number_prime number_prime_J1
  by_cases h2 : n < 2
  · rw [if_pos ((bn_lt h64 (b := 2) (by omega)).2 h2)]
    exact ⟨false, rfl, (fun h => by cases h), fun h => by have := h.2.1; omega⟩
  · rw [if_neg (fun h => h2 ((bn_lt h64 (b := 2) (by omega)).1 h))]
    by_cases hg : 1048575 < n
    · rw [decide_eq_true ((bn_lt (a := 1048575) (by omega) h64).2 hg)]
      exact ⟨false, rfl, (fun h => by cases h), fun h => by omega⟩
    · rw [decide_eq_false (fun h => hg ((bn_lt (a := 1048575) (by omega) h64).1 h)), cond_false]
      obtain ⟨b, e1, e2⟩ := prime_loop (n := n) (by omega) true (number_prime_L2 (bn n)) (fun rec a => rfl) 1023 2 FUEL (by omega) (fuel_lt (by omega)) (by omega)
      refine ⟨b, e1, ?_⟩
      rw [e2]; unfold Prm
      exact ⟨fun h => ⟨by omega, by omega, h.2⟩, fun h => ⟨rfl, h.2.2⟩⟩
/-! powers -/
theorem pow_half (x n : Nat) : x ^ n = x ^ (n % 2) * (x * x) ^ (n / 2) := by
  have : x ^ n = x ^ (n % 2 + 2 * (n / 2)) := by congr 1; omega
  rw [this, Nat.pow_add, Nat.pow_mul, Nat.pow_two]
theorem pow_step {m x n o : Nat} : o * x ^ n % m = (if n % 2 = 1 then o * x % m else o) * (x * x % m) ^ (n / 2) % m := by
  rw [pow_half x n]
  rcases Nat.mod_two_eq_zero_or_one n with h | h
  · rw [h, if_neg (by omega), Nat.pow_zero, Nat.one_mul, Nat.mul_mod o ((x * x % m) ^ (n / 2)), ← Nat.pow_mod, ← Nat.mul_mod]
  · rw [h, if_pos rfl, Nat.pow_one, Nat.mul_mod (o * x % m), Nat.mod_mod, ← Nat.pow_mod, ← Nat.mul_mod, Nat.mul_assoc]
theorem power_loop {m : Nat} (hm : 0 < m) (hm2 : m < 4294967296) : ∀ (k n x o f : Nat), n < 2 ^ k → k ≤ 64 → k < f → x < m → o < m → fixN (number_power_L1 (bn m)) f (bn x, bn n, bn o) = some (bn (o * x ^ n % m))
  | k, n, x, o, 0, _, _, h, _, _ => by omega
  | 0, n, x, o, f + 1, hn, _, _, hx, ho => by
    obtain rfl : n = 0 := by simp at hn; exact hn
    rw [fix_step]; simp only [number_power_L1]
    rw [if_neg (by decide), Nat.pow_zero, Nat.mul_one, Nat.mod_eq_of_lt ho]
  | k + 1, n, x, o, f + 1, hn, hk, hf, hx, ho => by
    have hn64 : n < 18446744073709551616 := Nat.lt_of_lt_of_le hn (Nat.le_trans (Nat.pow_le_pow_right (by omega) hk) (by decide))
    have hxx : x * x < 18446744073709551616 := Nat.lt_of_le_of_lt (Nat.mul_le_mul (Nat.le_of_lt hx) (Nat.le_of_lt hx)) (by have := Nat.mul_lt_mul'' hm2 hm2; omega)
    have hox : o * x < 18446744073709551616 := Nat.lt_of_le_of_lt (Nat.mul_le_mul (Nat.le_of_lt ho) (Nat.le_of_lt hx)) (by have := Nat.mul_lt_mul'' hm2 hm2; omega)
    rw [fix_step]; simp only [number_power_L1]
    by_cases h0 : n = 0
    · subst h0
      rw [if_neg (by decide), Nat.pow_zero, Nat.mul_one, Nat.mod_eq_of_lt ho]
    · rw [if_pos ((bn_lt (a := 0) (by omega) hn64).2 (by omega)), bn_and1 n hn64, show shG (un 1#64) = some 1 from by decide, bn_mul, bn_mul, remU_bn hxx hm (by omega), remU_bn hox hm (by omega), pow_step]
      simp only [bind_some]
      rw [bn_shr n hn64]
      have hlt : n / 2 < 2 ^ k := by rw [Nat.pow_succ] at hn; omega
      have h1 := Nat.mod_lt (x * x) hm
      have h2 := Nat.mod_lt (o * x) hm
      by_cases hodd : n % 2 = 1
      · rw [if_pos (by rw [hodd]), if_pos hodd]
        exact power_loop hm hm2 k (n / 2) _ _ f hlt (by omega) (by omega) h1 h2
      · rw [if_neg (fun h => hodd ((bn_inj (b := 1) (by omega) (by omega)).1 h)), if_neg hodd]
        exact power_loop hm hm2 k (n / 2) _ _ f hlt (by omega) (by omega) h1 ho
theorem power_eq {b n m : Nat} (hb : b < 18446744073709551616) (hn : n < 18446744073709551616) (hm : 0 < m) (hm2 : m < 4294967296) : number_power (bn b) (bn n) (bn m) = some (bn (b ^ n % m)) := by
  unfold number_power
  rw [show (1#64) = bn 1 from rfl, remU_bn (by omega) hm (by omega), bind_some, remU_bn hb hm (by omega), bind_some, power_loop hm hm2 64 n _ _ FUEL (by omega) (by omega) (fuel_lt (by omega)) (Nat.mod_lt _ hm) (Nat.mod_lt _ hm), Nat.mod_mul_mod, Nat.one_mul, ← Nat.pow_mod]
end Go.Sx.Po

end
section
set_option linter.unusedVariables false
set_option linter.unusedSimpArgs false
set_option maxRecDepth 100000
namespace Go.Sx.Po
open Go
theorem pgroup_tot {p q g : Nat} (hp : p < 18446744073709551616) (hq : q < 18446744073709551616) (hg : g < 18446744073709551616) : ∃ b : Bool, number_CheckGroup ⟨bn p, bn q, bn g⟩ = some (if b = true then 0 else 13) := by
  obtain ⟨b1, e1, i1⟩ := prime_eq hp
  obtain ⟨b2, e2, i2⟩ := prime_eq hq
  unfold number_CheckGroup
  simp only
  rw [e1, bind_some]
  cases b1 with
  | false => exact ⟨false, rfl⟩
  | true =>
    have hP := i1.1 rfl
    simp only [Bool.not_true, cond_false]
    rw [e2, bind_some]
    cases b2 with
    | false => exact ⟨false, rfl⟩
    | true =>
      have hQ := i2.1 rfl
      simp only [Bool.not_true, cond_false]
      have hp2 := hP.2.1
      have hq2 := hQ.2.1
      rw [show (1#64) = bn 1 from rfl, bn_sub hp (by omega), remU_bn (by omega) (by omega) hq, bind_some]
      by_cases hz : bn ((p - 1) % q) ≠ 0#64
      · rw [if_pos hz]; exact ⟨false, rfl⟩
      · rw [if_neg hz]
        by_cases c3 : bn g < 2#64
        · rw [if_pos c3]; exact ⟨false, rfl⟩
        · rw [if_neg c3]
          by_cases c5 : bn p ≤ bn g
          · rw [if_pos c5]; exact ⟨false, rfl⟩
          · rw [if_neg c5, power_eq hg hq (by omega) (by omega), bind_some]
            unfold number_CheckGroup_J1
            by_cases h4 : bn (g ^ q % p) = bn 1
            · rw [decide_eq_false (by simpa using h4)]; exact ⟨true, rfl⟩
            · rw [decide_eq_true h4]; exact ⟨false, rfl⟩
theorem pvalid_tot (s : TScheme) : ∃ b : Bool, poly_valid s = some b ∧ (b = true → s.Kind = 4#8 ∧ 0 ≤ s.Depth ∧ s.Depth ≤ 6 ∧ 1 ≤ s.Degree ∧ s.Degree ≤ 8) := by
  obtain ⟨kd, dp, dg, ⟨P, Q, G⟩⟩ := s
  obtain ⟨p, hp, rfl⟩ := bn_of P
  obtain ⟨q, hq, rfl⟩ := bn_of Q
  obtain ⟨g, hg, rfl⟩ := bn_of G
  unfold poly_valid
  simp only
  by_cases h1 : kd = 4#8
  · rw [if_pos h1]
    by_cases h2 : 0 ≤ dp
    · rw [if_pos h2]
      by_cases h3 : dp ≤ 6
      · rw [if_pos h3]
        by_cases h4 : 1 ≤ dg
        · rw [if_pos h4]
          by_cases h5 : dg ≤ 8
          · rw [if_pos h5]
            obtain ⟨b, e1⟩ := pgroup_tot hp hq hg
            rw [e1, bind_some]
            split
            · have : shG dp = some dp.toNat := by unfold shG; rw [if_pos h2]
              rw [this, bind_some]
              exact ⟨_, rfl, fun _ => ⟨h1, h2, h3, h4, h5⟩⟩
            · exact ⟨false, rfl, nofun⟩
          · rw [if_neg h5]; exact ⟨false, rfl, nofun⟩
        · rw [if_neg h4]; exact ⟨false, rfl, nofun⟩
      · rw [if_neg h3]; exact ⟨false, rfl, nofun⟩
    · rw [if_neg h2]; exact ⟨false, rfl, nofun⟩
  · rw [if_neg h1]; exact ⟨false, rfl, nofun⟩
/-- a scheme with a polynomial is valid -/
def plV (s : TScheme) : Bool := (poly_valid s).getD false
theorem pcheck_eq (s : TScheme) : poly_Check s = some (if plV s = true then 0 else 30) := by
  obtain ⟨b, e, _⟩ := pvalid_tot s
  unfold poly_Check plV
  rw [e, bind_some]
  cases b <;> rfl
theorem plV_deg {s : TScheme} (h : plV s = true) : s.Kind = 4#8 ∧ 0 ≤ s.Depth ∧ s.Depth ≤ 6 ∧ 1 ≤ s.Degree ∧ s.Degree ≤ 8 := by
  obtain ⟨b, e, i⟩ := pvalid_tot s
  unfold plV at h
  rw [e] at h
  exact i h
end Go.Sx.Po

end
section
set_option linter.unusedVariables false
set_option linter.unusedSimpArgs false
set_option maxRecDepth 100000
namespace Go.Sx.Pn
open Go Go.Sx Go.Sx.Po
theorem F5 : FUEL = 18446744073709551611 + 1 + 1 + 1 + 1 + 1 := rfl
theorem idx_all (m : Int) (l : List Int) (hl : l.length < 1000) : ∀ (k i f : Nat), l.length - i = k → i ≤ l.length → k < f → ∃ j : Int, fixN (slices_IndexFunc_7bbb_plan_within_1_L1 l m) f (i : Int) = some j ∧ (0 ≤ j ↔ ∃ x ∈ l.drop i, ¬ (0 ≤ x ∧ x ≤ m))
  | k, i, 0, _, _, hf => by omega
  | k, i, f + 1, hk, hi, hf => by
    rw [fix_step]
    unfold slices_IndexFunc_7bbb_plan_within_1_L1
    by_cases h : i < l.length
    · rw [if_pos (by omega), getI_some h, bind_some]
      unfold plan_within_1
      rw [List.drop_eq_getElem_cons h]
      by_cases h0 : l[i] < 0
      · rw [if_pos h0, bind_some, cond_true]
        exact ⟨_, rfl, ⟨fun _ => ⟨l[i], List.mem_cons_self, by omega⟩, fun _ => by omega⟩⟩
      · rw [if_neg h0, bind_some]
        by_cases h1 : m < l[i]
        · rw [decide_eq_true h1, cond_true]
          exact ⟨_, rfl, ⟨fun _ => ⟨l[i], List.mem_cons_self, by omega⟩, fun _ => by omega⟩⟩
        · rw [decide_eq_false h1, cond_false, w64_id (by omega) (by omega)]
          obtain ⟨j, e, q⟩ := idx_all m l hl (k - 1) (i + 1) f (by omega) (by omega) (by omega)
          refine ⟨j, e, q.trans ?_⟩
          constructor
          · rintro ⟨x, hx, hn⟩
            exact ⟨x, List.mem_cons_of_mem _ hx, hn⟩
          · rintro ⟨x, hx, hn⟩
            rcases List.mem_cons.1 hx with rfl | hx
            · exact absurd ⟨by omega, by omega⟩ hn
            · exact ⟨x, hx, hn⟩
    · rw [if_neg (by omega)]
      refine ⟨-1, rfl, ?_⟩
      rw [List.drop_eq_nil_of_le (by omega)]; simp
theorem within_eq (m : Int) (l : List Int) (hl : l.length < 1000) : plan_within m l = some (l.all fun x => decide (0 ≤ x ∧ x ≤ m)) := by
  unfold plan_within slices_ContainsFunc_5954_plan_within_1 slices_IndexFunc_7bbb_plan_within_1
  obtain ⟨j, e, q⟩ := idx_all m l hl _ 0 FUEL rfl (by omega) (fuel_lt (by omega))
  rw [show ((0 : Nat) : Int) = 0 from rfl] at e
  rw [e, bind_some, bind_some]
  congr 1
  rw [List.drop_zero] at q
  by_cases h : 0 ≤ j
  · rw [decide_eq_true h, Bool.not_true]
    obtain ⟨x, hx, hn⟩ := q.1 h
    symm
    rw [List.all_eq_false]
    exact ⟨x, hx, by simpa using hn⟩
  · rw [decide_eq_false h, Bool.not_false]
    symm
    rw [List.all_eq_true]
    intro x hx
    refine decide_eq_true ?_
    by_cases hc : 0 ≤ x ∧ x ≤ m
    · exact hc
    · exact absurd (q.2 ⟨x, hx, hc⟩) h
/-- a valid need -/
def vnB (n : TNeed) : Bool := decide ((0 ≤ n.Depth ∧ n.Depth ≤ 6) ∧ (0 ≤ n.Revoked ∧ n.Revoked ≤ ((2 ^ n.Depth.toNat : Nat) : Int)) ∧ (0 ≤ n.Storage ∧ n.Storage ≤ 10000) ∧ (0 ≤ n.Headers ∧ n.Headers ≤ 1000) ∧ (0 ≤ n.HeaderPrice ∧ n.HeaderPrice ≤ 1000) ∧ (0 ≤ n.StoragePrice ∧ n.StoragePrice ≤ 1000))
theorem need_eq (n : TNeed) : plan_CheckNeed n = some (if vnB n = true then 0 else 2) := by
  unfold plan_CheckNeed vnB
  rw [within_eq _ _ (by simp), bind_some]
  simp only [List.all_cons, List.all_nil, Bool.and_true]
  by_cases h1 : 0 ≤ n.Depth ∧ n.Depth ≤ 6
  · rw [decide_eq_true h1, Bool.not_true, cond_false]
    obtain ⟨d, hd⟩ : ∃ d : Nat, n.Depth = (d : Int) := ⟨n.Depth.toNat, by omega⟩
    rw [hd, shGn, bind_some, shlD (by omega), within_eq _ _ (by simp), bind_some, Int.toNat_natCast]
    simp only [List.all_cons, List.all_nil, Bool.and_true]
    by_cases h2 : 0 ≤ n.Revoked ∧ n.Revoked ≤ ((2 ^ d : Nat) : Int)
    · rw [decide_eq_true h2, Bool.not_true, cond_false, within_eq _ _ (by simp), bind_some]
      simp only [List.all_cons, List.all_nil, Bool.and_true]
      by_cases h3 : 0 ≤ n.Storage ∧ n.Storage ≤ 10000
      · rw [decide_eq_true h3, Bool.not_true, cond_false, within_eq _ _ (by simp), bind_some]
        simp only [List.all_cons, List.all_nil, Bool.and_true]
        unfold plan_CheckNeed_J1
        rw [← Bool.decide_and, ← Bool.decide_and]
        by_cases h4 : (0 ≤ n.Headers ∧ n.Headers ≤ 1000) ∧ (0 ≤ n.HeaderPrice ∧ n.HeaderPrice ≤ 1000) ∧ (0 ≤ n.StoragePrice ∧ n.StoragePrice ≤ 1000)
        · rw [decide_eq_true h4, decide_eq_true ⟨by omega, h2, h3, h4⟩]; rfl
        · rw [decide_eq_false h4, decide_eq_false fun h => h4 h.2.2.2]; rfl
      · rw [decide_eq_false h3, decide_eq_false fun h => h3 h.2.2.1]; rfl
    · rw [decide_eq_false h2, decide_eq_false fun h => h2 h.2.1]; rfl
  · rw [decide_eq_false h1, decide_eq_false fun h => h1 h.1]; rfl
/-- the numbers of labels -/
def stoN (k d : Nat) : Int := ((cover_Storage (sch k d)).getD (0, 0)).1
theorem sto_all : ∀ k ∈ [1, 2, 3], ∀ d ∈ List.range 7, cover_Storage (sch k d) = some (stoN k d, 0) ∧ 1 ≤ stoN k d ∧ stoN k d ≤ 22 := by decide +kernel
theorem wst_le : ∀ k ∈ [1, 2, 3], ∀ d ∈ List.range 7, ∀ r ∈ List.range (2 ^ d + 1), 1 ≤ (wst k d r).1 ∧ (wst k d r).1 ≤ 32 := by decide +kernel
/-- a choice of these numbers -/
def mkC (n : TNeed) (k : BitVec 8) (a b c : Int) (l : List Int) : TChoice := ⟨k, decide (c ≤ n.Storage), a, b, 67 + 18 * a + 16 * b, c, n.Headers * n.HeaderPrice * (67 + 18 * a + 16 * b) + n.StoragePrice * c * ((2 ^ n.Depth.toNat : Nat) : Int), l⟩
theorem cost_le {n : TNeed} (h : vnB n = true) {hd c : Int} (h1 : 0 ≤ hd ∧ hd ≤ 1000) (h2 : 0 ≤ c ∧ c ≤ 400) : (0 ≤ n.Headers * n.HeaderPrice ∧ n.Headers * n.HeaderPrice ≤ 1000000) ∧ (0 ≤ n.Headers * n.HeaderPrice * hd ∧ n.Headers * n.HeaderPrice * hd ≤ 1000000000) ∧ (0 ≤ n.StoragePrice * c ∧ n.StoragePrice * c ≤ 400000) ∧ (0 ≤ n.StoragePrice * c * ((2 ^ n.Depth.toNat : Nat) : Int) ∧ n.StoragePrice * c * ((2 ^ n.Depth.toNat : Nat) : Int) ≤ 25600000) := by
  obtain ⟨⟨a1, a2⟩, _, _, ⟨b1, b2⟩, ⟨c1, c2⟩, ⟨d1, d2⟩⟩ := of_decide_eq_true h
  have h64 := pow64 (d := n.Depth.toNat) (by omega)
  have e1 := Int.mul_nonneg b1 c1
  have e2 : n.Headers * n.HeaderPrice ≤ 1000 * 1000 := Int.mul_le_mul b2 c2 c1 (by omega)
  have e3 := Int.mul_nonneg e1 h1.1
  have e4 : n.Headers * n.HeaderPrice * hd ≤ 1000000 * 1000 := Int.mul_le_mul (by omega) h1.2 h1.1 (by omega)
  have e5 := Int.mul_nonneg d1 h2.1
  have e6 : n.StoragePrice * c ≤ 1000 * 400 := Int.mul_le_mul d2 h2.2 h2.1 (by omega)
  have e7 : 0 ≤ n.StoragePrice * c * ((2 ^ n.Depth.toNat : Nat) : Int) := Int.mul_nonneg e5 (by omega)
  have e8 : n.StoragePrice * c * ((2 ^ n.Depth.toNat : Nat) : Int) ≤ 400000 * 64 := Int.mul_le_mul (by omega) (by omega) (by omega) (by omega)
  omega
theorem choose_J1 {n : TNeed} (h : vnB n = true) (k : BitVec 8) {a b c : Int} (ha : 0 ≤ a ∧ a ≤ 32) (hb : 0 ≤ b ∧ b ≤ 8) (hc : 0 ≤ c ∧ c ≤ 400) (l : List Int) : plan_Choose_J1 n k a b c l = some (mkC n k a b c l, 0) := by
  obtain ⟨q1, q2, q3, q4⟩ := cost_le h (hd := 67 + 18 * a + 16 * b) (by omega) hc
  have hd := (of_decide_eq_true h).1
  obtain ⟨d, hd2⟩ : ∃ d : Nat, n.Depth = (d : Int) := ⟨n.Depth.toNat, by omega⟩
  have e1 : w64 (67 + w64 (18 * a)) = 67 + 18 * a := by rw [w64_id (n := 18 * a) (by omega) (by omega), w64_id (by omega) (by omega)]
  have e2 : w64 (w64 (67 + w64 (18 * a)) + w64 (16 * b)) = 67 + 18 * a + 16 * b := by rw [e1, w64_id (n := 16 * b) (by omega) (by omega), w64_id (by omega) (by omega)]
  unfold plan_Choose_J1 mkC
  rw [e2, w64_id (n := n.Headers * n.HeaderPrice) (by omega) (by omega), w64_id (n := n.Headers * n.HeaderPrice * (67 + 18 * a + 16 * b)) (by omega) (by omega), w64_id (n := n.StoragePrice * c) (by omega) (by omega)]
  rw [hd2] at q4 ⊢
  rw [shGn, bind_some]
  unfold shlI
  rw [Int.toNat_natCast] at q4 ⊢
  rw [Nat.min_eq_left (by omega), show (2 : Int) ^ d = ((2 ^ d : Nat) : Int) from by rw [Int.natCast_pow]; rfl, w64_id (n := n.StoragePrice * c * ((2 ^ d : Nat) : Int)) (by omega) (by omega), w64_id (by omega) (by omega)]
/-- the scheme with a polynomial of a need -/
def sch4 (n : TNeed) : TScheme := ⟨4#8, n.Depth, mxI n.Revoked 1, n.Group⟩
/-- the choice for a kind from 1 to 3 -/
def ch3 (n : TNeed) (k : Nat) : TChoice := mkC n (BitVec.ofNat 8 k) (wst k n.Depth.toNat n.Revoked.toNat).1 0 (16 * stoN k n.Depth.toNat) (lst k n.Depth.toNat n.Revoked.toNat)
def ch4 (n : TNeed) : TChoice := if plV (sch4 n) = true then mkC n 4#8 0 (mxI n.Revoked 1) 8 [] else ⟨4#8, false, 0, 0, 0, 0, 0, []⟩
def chN (n : TNeed) (k : Nat) : TChoice := if k = 4 then ch4 n else ch3 n k
def zC : TChoice := ⟨0#8, false, 0, 0, 0, 0, 0, []⟩
theorem choose_no {n : TNeed} (h : vnB n = false) (k : BitVec 8) : plan_Choose n k = some (zC, 2) := by
  unfold plan_Choose
  rw [need_eq, bind_some, h]; rfl
theorem of8_lt {k : Nat} (hk : k ≤ 4) : (BitVec.ofNat 8 k).toNat = k := by rw [BitVec.toNat_ofNat]; omega
theorem need_nat {n : TNeed} (h : vnB n = true) : ∃ d r : Nat, n.Depth = (d : Int) ∧ n.Revoked = (r : Int) ∧ d ≤ 6 ∧ r ≤ 2 ^ d := by
  obtain ⟨⟨a1, a2⟩, ⟨b1, b2⟩, _⟩ := of_decide_eq_true h
  exact ⟨n.Depth.toNat, n.Revoked.toNat, by omega, by omega, by omega, by omega⟩
theorem ch_bounds {n : TNeed} (h : vnB n = true) {k : Nat} (hk : 1 ≤ k ∧ k ≤ 3) : (0 ≤ (wst k n.Depth.toNat n.Revoked.toNat).1 ∧ (wst k n.Depth.toNat n.Revoked.toNat).1 ≤ 32) ∧ (0 ≤ 16 * stoN k n.Depth.toNat ∧ 16 * stoN k n.Depth.toNat ≤ 400) := by
  obtain ⟨d, r, hd, hr, h6, hr2⟩ := need_nat h
  rw [hd, hr, Int.toNat_natCast, Int.toNat_natCast]
  obtain ⟨hkm, hdm⟩ := kd_mem hk h6
  obtain ⟨_, s1, s2⟩ := sto_all k hkm d hdm
  obtain ⟨w1, w2⟩ := wst_le k hkm d hdm r (List.mem_range.2 (by omega))
  omega
theorem choose_ok {n : TNeed} (h : vnB n = true) {k : Nat} (hk : 1 ≤ k ∧ k ≤ 4) : plan_Choose n (BitVec.ofNat 8 k) = some (chN n k, 0) := by
  obtain ⟨d, r, hd, hr, h6, hr2⟩ := need_nat h
  have h64 := pow64 h6
  unfold plan_Choose
  rw [need_eq, bind_some, h, if_pos rfl, if_neg (by decide), if_neg (fun hc => by rw [BitVec.lt_def, of8_lt hk.2] at hc; simp at hc; omega), decide_eq_false (fun hc => by rw [BitVec.lt_def, of8_lt hk.2] at hc; simp at hc; omega)]
  unfold plan_Choose_J2
  rw [cond_false]
  by_cases h4 : k = 4
  · subst h4
    rw [if_pos rfl]
    unfold chN
    rw [if_pos rfl]
    show Option.bind (poly_Check (sch4 n)) _ = _
    rw [pcheck_eq, bind_some]
    unfold ch4
    cases hp : plV (sch4 n) with
    | false => rw [if_neg (show ¬ false = true by simp), if_pos (show (30 : Int) ≠ 0 by decide), if_neg (show ¬ false = true by simp)]
    | true =>
      have hg := plV_deg hp
      have hm : 1 ≤ mxI n.Revoked 1 ∧ mxI n.Revoked 1 ≤ 8 := hg.2.2.2
      rw [if_pos (show true = true from rfl), if_neg (show ¬ (0 : Int) ≠ 0 by decide), if_pos (show true = true from rfl)]
      exact choose_J1 h _ (by omega) (by omega) (by omega) _
  · have hk3 : 1 ≤ k ∧ k ≤ 3 := by omega
    rw [if_neg (fun hc => by have := congrArg BitVec.toNat hc; rw [of8_lt hk.2] at this; simp at this; omega)]
    unfold chN
    rw [if_neg h4]
    have hs : (TScheme.mk (BitVec.ofNat 8 k) n.Depth 0 (TGroup.mk 0#64 0#64 0#64)) = sch k d := by rw [hd]; rfl
    obtain ⟨hkm, hdm⟩ := kd_mem hk3 h6
    obtain ⟨s0, s1, s2⟩ := sto_all k hkm d hdm
    obtain ⟨w1, w2⟩ := wst_le k hkm d hdm r (List.mem_range.2 (by omega))
    rw [hs, nt hk3 h6, bind_some, s0, bind_some, hr, worst_tb hk3 h6 hr2, bind_some]
    rw [show n.Depth = (d : Int) from hd, (list_tb hk3 h6 hr2).1, bind_some]
    simp only
    rw [w64_id (n := 16 * stoN k d) (by omega) (by omega), choose_J1 h _ (by omega) (by omega) (by omega)]
    unfold ch3
    rw [hd, hr, Int.toNat_natCast, Int.toNat_natCast]
/-- the best one so far, and its cost -/
def bs2 (b : BitVec 8 × Int) (k : BitVec 8) (c : TChoice) : BitVec 8 × Int := if c.Fits = true ∧ (b.1 = 0#8 ∨ c.Cost < b.2) then (k, c.Cost) else b
/-- of a list of choices, one is the best so far -/
def BsI (l : List TChoice) (b : BitVec 8 × Int) : Prop := (b.1 = 0#8 ∧ ∀ c ∈ l, c.Fits = false) ∨ ∃ i, ∃ h : i < l.length, b.1 = BitVec.ofNat 8 (i + 1) ∧ l[i].Fits = true ∧ l[i].Cost = b.2 ∧ ∀ j (hj : j < l.length), l[j].Fits = true → b.2 ≤ l[j].Cost ∧ (l[j].Cost = b.2 → i ≤ j)
theorem bs_nil : BsI [] (0#8, 0) := .inl ⟨rfl, nofun⟩
theorem bs_snoc {l : List TChoice} {b : BitVec 8 × Int} (h : BsI l b) (hl : l.length < 100) (c : TChoice) : BsI (l ++ [c]) (bs2 b (BitVec.ofNat 8 (l.length + 1)) c) := by
  unfold bs2
  rcases h with ⟨h1, h2⟩ | ⟨i, hi, h1, h2, h3, h4⟩
  · cases hf : c.Fits with
    | false =>
      rw [if_neg (by simp)]
      refine .inl ⟨h1, fun x hx => ?_⟩
      rcases List.mem_append.1 hx with hx | hx
      · exact h2 x hx
      · rw [List.mem_singleton.1 hx]; exact hf
    | true =>
      rw [if_pos ⟨rfl, .inl h1⟩]
      refine .inr ⟨l.length, by simp, rfl, by simpa using hf, by simp, fun j hj hjf => ?_⟩
      rw [List.length_append, List.length_singleton] at hj
      by_cases hjl : j < l.length
      · rw [List.getElem_append_left hjl, h2 _ (List.getElem_mem hjl)] at hjf; cases hjf
      · obtain rfl : j = l.length := by omega
        simp
  · have hb0 : b.1 ≠ 0#8 := by rw [h1]; intro hc; have := congrArg BitVec.toNat hc; rw [BitVec.toNat_ofNat] at this; simp at this; omega
    by_cases hc : c.Fits = true ∧ (b.1 = 0#8 ∨ c.Cost < b.2)
    · rw [if_pos hc]
      have hlt := hc.2.resolve_left hb0
      refine .inr ⟨l.length, by simp, rfl, by simpa using hc.1, by simp, fun j hj hjf => ?_⟩
      rw [List.length_append, List.length_singleton] at hj
      by_cases hjl : j < l.length
      · rw [List.getElem_append_left hjl] at hjf ⊢
        have := (h4 j hjl hjf).1
        simp only
        exact ⟨by omega, fun he => by omega⟩
      · obtain rfl : j = l.length := by omega
        simp
    · rw [if_neg hc]
      refine .inr ⟨i, by rw [List.length_append]; omega, h1, by rw [List.getElem_append_left hi]; exact h2, by rw [List.getElem_append_left hi]; exact h3, fun j hj hjf => ?_⟩
      rw [List.length_append, List.length_singleton] at hj
      by_cases hjl : j < l.length
      · rw [List.getElem_append_left hjl] at hjf ⊢; exact h4 j hjl hjf
      · obtain rfl : j = l.length := by omega
        rw [List.getElem_append_right (by omega)] at hjf ⊢
        simp only [Nat.sub_self, List.getElem_singleton] at hjf ⊢
        have : ¬ c.Cost < b.2 := fun hx => hc ⟨hjf, .inr hx⟩
        exact ⟨by omega, fun _ => by omega⟩
theorem make_step {n : TNeed} (h : vnB n = true) (rec : BitVec 8 × List TChoice × BitVec 8 → Option (TPlan × Int)) {l : List TChoice} {b : BitVec 8 × Int} (hb : BsI l b) (hl : l.length < 4) : plan_Make_L1 n rec (BitVec.ofNat 8 (l.length + 1), l, b.1) = rec (BitVec.ofNat 8 (l.length + 2), l ++ [chN n (l.length + 1)], (bs2 b (BitVec.ofNat 8 (l.length + 1)) (chN n (l.length + 1))).1) := by
  unfold plan_Make_L1
  simp only
  rw [if_pos (by rw [BitVec.le_def, of8_lt (by omega)]; simp; omega), choose_ok h (by omega), bind_some, if_neg (by simp), appG_some (by simp; omega), bind_some]
  generalize chN n (l.length + 1) = c
  have hk : BitVec.ofNat 8 (l.length + 1) + 1#8 = BitVec.ofNat 8 (l.length + 2) := by apply BitVec.eq_of_toNat_eq; simp
  unfold plan_Make_J2 bs2
  rw [hk]
  simp only
  cases hf : c.Fits with
  | false => rw [cond_false, cond_false, if_neg (by simp)]
  | true =>
    rw [cond_true]
    rcases hb with ⟨h1, h2⟩ | ⟨i, hi, h1, h2, h3, h4⟩
    · rw [if_pos h1, if_pos ⟨rfl, .inl h1⟩, cond_true]
    · have hb0 : b.1 ≠ 0#8 := by rw [h1]; intro hc; have := congrArg BitVec.toNat hc; rw [BitVec.toNat_ofNat] at this; simp at this; omega
      rw [if_neg hb0]
      have hg : getI (l ++ [c]) (un8 (b.1 - 1#8)) = some l[i] := by
        have : un8 (b.1 - 1#8) = (i : Int) := by
          unfold un8; rw [h1, BitVec.toNat_sub, BitVec.toNat_ofNat]; simp; omega
        rw [this, getI_some (by rw [List.length_append]; omega), List.getElem_append_left hi]
      rw [hg, bind_some, h3]
      by_cases hlt : c.Cost < b.2
      · rw [decide_eq_true hlt, cond_true, if_pos ⟨rfl, .inr hlt⟩]
      · rw [decide_eq_false hlt, cond_false, if_neg fun hc => hlt (hc.2.resolve_left hb0)]
def bestP (n : TNeed) : BitVec 8 × Int := bs2 (bs2 (bs2 (bs2 (0#8, 0) 1#8 (chN n 1)) 2#8 (chN n 2)) 3#8 (chN n 3)) 4#8 (chN n 4)
def chs (n : TNeed) : List TChoice := [chN n 1, chN n 2, chN n 3, chN n 4]
def plP (n : TNeed) : TPlan := ⟨chs n, (bestP n).1⟩
theorem best_spec (n : TNeed) : BsI (chs n) (bestP n) := by
  have h1 := bs_snoc bs_nil (by simp) (chN n 1)
  have h2 := bs_snoc h1 (by simp) (chN n 2)
  have h3 := bs_snoc h2 (by simp) (chN n 3)
  exact bs_snoc h3 (by simp) (chN n 4)
theorem make_ok {n : TNeed} (h : vnB n = true) : plan_Make n = some (plP n, 0) := by
  unfold plan_Make
  have h1 := bs_snoc bs_nil (by simp) (chN n 1)
  have h2 := bs_snoc h1 (by simp) (chN n 2)
  have h3 := bs_snoc h2 (by simp) (chN n 3)
  rw [F5, fix_step, show (1#8, ([] : List TChoice), 0#8) = (BitVec.ofNat 8 (([] : List TChoice).length + 1), [], (0#8, (0 : Int)).1) from rfl, make_step h _ bs_nil (by simp)]
  rw [fix_step]
  refine (make_step h _ h1 (by simp)).trans ?_
  rw [fix_step]
  refine (make_step h _ h2 (by simp)).trans ?_
  rw [fix_step]
  refine (make_step h _ h3 (by simp)).trans ?_
  rw [fix_step]
  rfl
theorem make_no {n : TNeed} (h : vnB n = false) : plan_Make n = some (⟨[], 0#8⟩, 2) := by
  unfold plan_Make
  rw [F5, fix_step]
  unfold plan_Make_L1
  simp only
  rw [if_pos (by decide), choose_no h, bind_some]; rfl
end Go.Sx.Pn

end
section
set_option linter.unusedVariables false
set_option linter.unusedSimpArgs false
set_option maxRecDepth 100000
namespace Go.Sx.Pn
open Go Go.Sx
end Go.Sx.Pn

end
section
set_option linter.unusedVariables false
set_option maxRecDepth 100000
namespace Go.Sx
open Go Go.RowKit
noncomputable section
structure TA5_i64 where
  a0 : Int
  a1 : Int
  a2 : Int
  a3 : Int
  a4 : Int
deriving DecidableEq, Inhabited
def TA5_i64.cs (x : TA5_i64)  : List Value := [.int .i64 x.a0, .int .i64 x.a1, .int .i64 x.a2, .int .i64 x.a3, .int .i64 x.a4]
theorem TA5_i64.cs_ones (x : TA5_i64)   : ones (TA5_i64.cs x ) = true := by simp only [TA5_i64.cs, List.cons_append, List.nil_append, kb, ones, one_int, one_bool, one_str, cond_true]
theorem TA5_i64.cs_inj {x y : TA5_i64} (h : TA5_i64.cs x = TA5_i64.cs y) : x = y := by
  have h0 : x.a0 = y.a0 := ci_inj (congrArg (fun l => l[0]?) h)
  have h1 : x.a1 = y.a1 := ci_inj (congrArg (fun l => l[1]?) h)
  have h2 : x.a2 = y.a2 := ci_inj (congrArg (fun l => l[2]?) h)
  have h3 : x.a3 = y.a3 := ci_inj (congrArg (fun l => l[3]?) h)
  have h4 : x.a4 = y.a4 := ci_inj (congrArg (fun l => l[4]?) h)
  cases x; cases y; simp only at *; subst h0; subst h1; subst h2; subst h3; subst h4; rfl
theorem TA5_i64.ws (l : List TA5_i64) : Ws 5 (l.map TA5_i64.cs) := ws_map l (fun _ => rfl) (fun _ => rfl)
end
end Go.Sx

end
section
set_option linter.unusedVariables false
set_option linter.unusedSimpArgs false
set_option maxRecDepth 100000
namespace Go.Sx.Pn
open Go Go.Sx Go.Sx.Po
/-- the same numbers -/
def numE (c w : TChoice) : Prop := c.Kind = w.Kind ∧ c.Fits = w.Fits ∧ c.Items = w.Items ∧ c.Points = w.Points ∧ c.Header = w.Header ∧ c.Storage = w.Storage ∧ c.Cost = w.Cost
instance (c w : TChoice) : Decidable (numE c w) := inferInstanceAs (Decidable (_ ∧ _))
theorem chs_at {n : TNeed} {i : Nat} (hi : i < 4) : (chs n)[i]'(by unfold chs; simpa using hi) = chN n (i + 1) := by
  rcases (show i = 0 ∨ i = 1 ∨ i = 2 ∨ i = 3 by omega) with rfl | rfl | rfl | rfl <;> rfl
theorem chs_get {n : TNeed} {i : Nat} (hi : i < 4) : getI (chs n) (i : Int) = some (chN n (i + 1)) := by
  rw [getI_some (show i < (chs n).length by unfold chs; simpa using hi), chs_at hi]
/-- what the best kind is -/
theorem best_cases (n : TNeed) : ((bestP n).1 = 0#8 ∧ ∀ j, j < 4 → (chN n (j + 1)).Fits = false) ∨ ∃ i, i < 4 ∧ (bestP n).1 = BitVec.ofNat 8 (i + 1) ∧ (chN n (i + 1)).Fits = true ∧ (∀ j, j < 4 → (chN n (j + 1)).Fits = true → (chN n (i + 1)).Cost ≤ (chN n (j + 1)).Cost ∧ ((chN n (j + 1)).Cost = (chN n (i + 1)).Cost → i ≤ j)) := by
  have hlen : (chs n).length = 4 := rfl
  rcases best_spec n with ⟨h1, h2⟩ | ⟨i, hi, h1, h2, h3, h4⟩
  · refine .inl ⟨h1, fun j hj => ?_⟩
    rw [← chs_at hj]; exact h2 _ (List.getElem_mem _)
  · have hi4 : i < 4 := hi
    rw [chs_at hi4] at h2 h3
    refine .inr ⟨i, hi, h1, h2, fun j hj hf => ?_⟩
    have := h4 j (by omega) (by rw [chs_at hj]; exact hf)
    rw [chs_at hj] at this
    rw [h3]; exact this
theorem best_ix (n : TNeed) {i : Nat} (hi : i < 4) (h : (bestP n).1 = BitVec.ofNat 8 (i + 1)) : (bestP n).1 ≠ 0#8 ∧ getI (chs n) (un8 ((bestP n).1 - 1#8)) = some (chN n (i + 1)) ∧ ¬ 4#8 < (bestP n).1 ∧ 0#8 < (bestP n).1 := by
  rw [h]
  refine ⟨?_, ?_, ?_, ?_⟩
  · intro hc; have := congrArg BitVec.toNat hc; rw [of8_lt (by omega)] at this; simp at this
  · have : un8 (BitVec.ofNat 8 (i + 1) - 1#8) = (i : Int) := by
      unfold un8; rw [BitVec.toNat_sub, of8_lt (by omega)]; simp; omega
    rw [this]; exact chs_get hi
  · rw [BitVec.lt_def, of8_lt (by omega)]; simp; omega
  · rw [BitVec.lt_def, of8_lt (by omega)]; simp; omega
end Go.Sx.Pn

end
section
set_option linter.unusedVariables false
set_option maxRecDepth 100000
namespace Go.Sx.Pn
open Go Go.Sx
theorem alive10 : law10_alive = some true := by kernel_rfl
end Go.Sx.Pn

end
section
set_option linter.unusedVariables false
set_option linter.unusedSimpArgs false
set_option maxRecDepth 100000
namespace Go.Sx
open Go Go.Sx.Pn Go.Sx.Po
/-- with other prices -/
def upN (n : TNeed) (b : Int) : TNeed := ⟨n.Depth, n.Revoked, n.Storage, n.Headers, n.HeaderPrice * b, n.StoragePrice * b, n.Group⟩
/-- with more storage -/
def stN (n : TNeed) (s : Int) : TNeed := ⟨n.Depth, n.Revoked, s, n.Headers, n.HeaderPrice, n.StoragePrice, n.Group⟩
theorem up_mk (n : TNeed) (b : Int) (k : BitVec 8) (x y c : Int) (l : List Int) : (mkC (upN n b) k x y c l).Fits = (mkC n k x y c l).Fits ∧ (mkC (upN n b) k x y c l).Cost = b * (mkC n k x y c l).Cost ∧ (mkC (upN n b) k x y c l).Header = (mkC n k x y c l).Header := by
  refine ⟨rfl, ?_, rfl⟩
  show n.Headers * (n.HeaderPrice * b) * (67 + 18 * x + 16 * y) + n.StoragePrice * b * c * ((2 ^ n.Depth.toNat : Nat) : Int) = b * (n.Headers * n.HeaderPrice * (67 + 18 * x + 16 * y) + n.StoragePrice * c * ((2 ^ n.Depth.toNat : Nat) : Int))
  grind
theorem up_ch (n : TNeed) (b : Int) (k : Nat) : (chN (upN n b) k).Fits = (chN n k).Fits ∧ (chN (upN n b) k).Cost = b * (chN n k).Cost ∧ (chN (upN n b) k).Header = (chN n k).Header := by
  by_cases h4 : k = 4
  · subst h4
    have e : ∀ m, chN m 4 = ch4 m := fun m => if_pos rfl
    rw [e, e]
    unfold ch4
    rw [show sch4 (upN n b) = sch4 n from rfl]
    by_cases hp : plV (sch4 n) = true
    · rw [if_pos hp, if_pos hp]; exact up_mk n b _ _ _ _ _
    · rw [if_neg hp, if_neg hp]; exact ⟨rfl, (Int.mul_zero b).symm, rfl⟩
  · have e : ∀ m, chN m k = ch3 m k := fun m => if_neg h4
    rw [e, e]; exact up_mk n b _ _ _ _ _
theorem bs2_up {b : Int} (hb : 1 ≤ b) {x y : BitVec 8 × Int} (h1 : x.1 = y.1) (h2 : x.2 = b * y.2) {c c' : TChoice} (hf : c'.Fits = c.Fits) (hc : c'.Cost = b * c.Cost) (k : BitVec 8) : (bs2 x k c').1 = (bs2 y k c).1 ∧ (bs2 x k c').2 = b * (bs2 y k c).2 := by
  unfold bs2
  have hlt : c'.Cost < x.2 ↔ c.Cost < y.2 := by
    rw [hc, h2]
    exact ⟨fun h => Int.lt_of_mul_lt_mul_left h (by omega), fun h => Int.mul_lt_mul_of_pos_left h (by omega)⟩
  rw [hf, h1]
  by_cases hx : c.Fits = true ∧ (y.1 = 0#8 ∨ c.Cost < y.2)
  · rw [if_pos hx, if_pos ⟨hx.1, hx.2.imp id hlt.2⟩]; exact ⟨rfl, hc⟩
  · rw [if_neg hx, if_neg fun h => hx ⟨h.1, h.2.imp id hlt.1⟩]; exact ⟨h1, h2⟩
theorem up_best (n : TNeed) {b : Int} (hb : 1 ≤ b) : (bestP (upN n b)).1 = (bestP n).1 := by
  obtain ⟨f1, c1, _⟩ := up_ch n b 1
  obtain ⟨f2, c2, _⟩ := up_ch n b 2
  obtain ⟨f3, c3, _⟩ := up_ch n b 3
  obtain ⟨f4, c4, _⟩ := up_ch n b 4
  obtain ⟨a1, a2⟩ := bs2_up hb (x := (0#8, 0)) (y := (0#8, 0)) rfl (Int.mul_zero b).symm f1 c1 1#8
  obtain ⟨b1, b2⟩ := bs2_up hb a1 a2 f2 c2 2#8
  obtain ⟨d1, d2⟩ := bs2_up hb b1 b2 f3 c3 3#8
  exact (bs2_up hb d1 d2 f4 c4 4#8).1
theorem st_ch (n : TNeed) (s : Int) (hs : n.Storage ≤ s) (k : Nat) : ((chN n k).Fits = true → (chN (stN n s) k).Fits = true) ∧ (chN (stN n s) k).Cost = (chN n k).Cost := by
  have hm : ∀ (k : BitVec 8) (x y c : Int) (l : List Int), ((mkC n k x y c l).Fits = true → (mkC (stN n s) k x y c l).Fits = true) ∧ (mkC (stN n s) k x y c l).Cost = (mkC n k x y c l).Cost := fun k x y c l => ⟨fun h => decide_eq_true (by have : c ≤ n.Storage := of_decide_eq_true h; show c ≤ s; omega), rfl⟩
  by_cases h4 : k = 4
  · subst h4
    have e : ∀ m, chN m 4 = ch4 m := fun m => if_pos rfl
    rw [e, e]
    unfold ch4
    rw [show sch4 (stN n s) = sch4 n from rfl]
    by_cases hp : plV (sch4 n) = true
    · rw [if_pos hp, if_pos hp]; exact hm _ _ _ _ _
    · rw [if_neg hp, if_neg hp]; exact ⟨id, rfl⟩
  · have e : ∀ m, chN m k = ch3 m k := fun m => if_neg h4
    rw [e, e]; exact hm _ _ _ _ _
theorem ch_cost {n : TNeed} (h : vnB n = true) {k : Nat} (hk : 1 ≤ k ∧ k ≤ 4) : 0 ≤ (chN n k).Cost ∧ (chN n k).Cost ≤ 2000000000 := by
  by_cases h4 : k = 4
  · subst h4
    rw [show chN n 4 = ch4 n from if_pos rfl]
    unfold ch4
    by_cases hp : plV (sch4 n) = true
    · rw [if_pos hp]
      have hg : 1 ≤ mxI n.Revoked 1 ∧ mxI n.Revoked 1 ≤ 8 := (plV_deg hp).2.2.2
      obtain ⟨_, q1, _, q2⟩ := cost_le h (hd := 67 + 18 * 0 + 16 * mxI n.Revoked 1) (c := 8) (by omega) (by omega)
      unfold mkC; simp only at *; omega
    · rw [if_neg hp]; simp
  · rw [show chN n k = ch3 n k from if_neg h4]
    obtain ⟨b1, b2⟩ := ch_bounds h (k := k) (by omega)
    obtain ⟨_, q1, _, q2⟩ := cost_le h (hd := 67 + 18 * (wst k n.Depth.toNat n.Revoked.toNat).1 + 16 * 0) (c := 16 * stoN k n.Depth.toNat) (by omega) (by omega)
    unfold ch3 mkC; simp only at *; omega
theorem best_le (n : TNeed) : ¬ 4#8 < (bestP n).1 := by
  rcases best_cases n with ⟨b1, b2⟩ | ⟨j, hj, b1, b2, b3⟩
  · rw [b1]; decide
  · exact (best_ix n hj b1).2.2.1
theorem scales_round {n : TNeed} (h : vnB n = true) {b q : Int} (hb : 1 ≤ b ∧ b ≤ 1000) (rec : Int → Option Bool) {i : Nat} (hi : i < 4) : law10_PlanScales_L4 n b q true (plP n, 0) (plP (upN n b), 0) rec (i : Int) = rec ((i + 1 : Nat) : Int) := by
  have hw : w64 ((i : Int) + 1) = ((i + 1 : Nat) : Int) := by rw [w64_id (by omega) (by omega)]; omega
  have hlen : ((chs n).length : Int) = 4 := rfl
  obtain ⟨u1, u2, u3⟩ := up_ch n b (i + 1)
  obtain ⟨c1, c2⟩ := ch_cost h (k := i + 1) (by omega)
  have c3 : 0 ≤ b * (chN n (i + 1)).Cost := Int.mul_nonneg (by omega) c1
  have c4 : b * (chN n (i + 1)).Cost ≤ 1000 * 2000000000 := Int.mul_le_mul hb.2 c2 c1 (by omega)
  unfold law10_PlanScales_L4
  show (if (i : Int) < ((chs n).length : Int) then Option.bind (getI (chs (upN n b)) (i : Int)) fun y10 => Option.bind (getI (chs n) (i : Int)) _ else _) = _
  rw [if_pos (by omega), chs_get hi, bind_some, chs_get hi, bind_some, w64_id (by omega) (by omega), if_neg (by rw [u2]; simp)]
  show Option.bind (getI (chs (upN n b)) (i : Int)) (fun y12 => Option.bind (getI (chs n) (i : Int)) _) = _
  rw [chs_get hi, bind_some, chs_get hi, bind_some, decide_eq_false (by rw [u3]; simp)]
  unfold law10_PlanScales_J5
  rw [cond_false, hw]
theorem vn_up {n : TNeed} (h : vnB n = true) {b : Int} (hb : 1 ≤ b) (h1 : n.HeaderPrice * b ≤ 1000) (h2 : n.StoragePrice * b ≤ 1000) : vnB (upN n b) = true := by
  obtain ⟨a, c, d, e, f, g⟩ := of_decide_eq_true h
  exact decide_eq_true ⟨a, c, d, e, ⟨Int.mul_nonneg f.1 (by omega), h1⟩, ⟨Int.mul_nonneg g.1 (by omega), h2⟩⟩
theorem vn_st {n : TNeed} (h : vnB n = true) {s : Int} (hs : 0 ≤ s ∧ s ≤ 10000) : vnB (stN n s) = true := by
  obtain ⟨a, c, d, e, f, g⟩ := of_decide_eq_true h
  exact decide_eq_true ⟨a, c, hs, e, f, g⟩
theorem law10_PlanScales_ok (n : TNeed) (b q : Int) (hn : n.ok) (hb : I64 b) (hq : I64 q) : law10_PlanScales n b q = some true := by
  unfold law10_PlanScales
  rw [alive10, bind_some]
  by_cases h1 : b < 1
  · rw [if_pos h1]; rfl
  rw [if_neg h1]
  by_cases h2 : 1000 < b
  · rw [if_pos h2]; rfl
  rw [if_neg h2]
  by_cases h3 : q < 0
  · rw [if_pos h3]; rfl
  rw [if_neg h3]
  by_cases h4 : 10000 < q
  · rw [decide_eq_true h4]; rfl
  rw [decide_eq_false h4]
  unfold law10_PlanScales_J1
  rw [cond_false]
  cases h : vnB n with
  | false => rw [make_no h, bind_some, if_pos (by simp)]; rfl
  | true =>
    obtain ⟨_, _, ⟨s1, s2⟩, _, ⟨f1, f2⟩, ⟨g1, g2⟩⟩ := of_decide_eq_true h
    have m1 : n.HeaderPrice * b ≤ 1000 * 1000 := Int.mul_le_mul f2 (by omega) (by omega) (by omega)
    have m2 : n.StoragePrice * b ≤ 1000 * 1000 := Int.mul_le_mul g2 (by omega) (by omega) (by omega)
    have m3 : 0 ≤ n.HeaderPrice * b := Int.mul_nonneg f1 (by omega)
    have m4 : 0 ≤ n.StoragePrice * b := Int.mul_nonneg g1 (by omega)
    rw [make_ok h, bind_some, if_neg (by simp), if_neg (by omega), if_neg (by omega), w64_id (n := n.HeaderPrice * b) (by omega) (by omega), w64_id (n := n.StoragePrice * b) (by omega) (by omega)]
    by_cases k1 : 1000 < n.HeaderPrice * b
    · rw [if_pos k1]; rfl
    rw [if_neg k1]
    by_cases k2 : 1000 < n.StoragePrice * b
    · rw [decide_eq_true k2]; rfl
    rw [decide_eq_false k2]
    unfold law10_PlanScales_J2
    rw [cond_false, w64_id (n := n.HeaderPrice * b) (by omega) (by omega), w64_id (n := n.StoragePrice * b) (by omega) (by omega)]
    have hu := vn_up h (b := b) (by omega) (by omega) (by omega)
    show Option.bind (plan_Make (upN n b)) _ = _
    rw [make_ok hu, bind_some, if_neg (by simp)]
    show (if ((chs n).length : Int) ≠ 4 then _ else if ((chs (upN n b)).length : Int) ≠ 4 then _ else if (bestP (upN n b)).1 ≠ (bestP n).1 then _ else law10_PlanScales_J3 n b q true (plP n, 0) (plP (upN n b), 0) (decide (4#8 < (bestP n).1))) = _
    rw [if_neg (by simp [chs]), if_neg (by simp [chs]), if_neg (by rw [up_best n (by omega)]; simp), decide_eq_false (best_le n)]
    unfold law10_PlanScales_J3
    have r := fun (f i : Nat) (hi : i < 4) => (fix_step (law10_PlanScales_L4 n b q true (plP n, 0) (plP (upN n b), 0)) f ((i : Nat) : Int)).trans (scales_round h (q := q) ⟨by omega, by omega⟩ _ hi)
    have e : fixN (law10_PlanScales_L4 n b q true (plP n, 0) (plP (upN n b), 0)) FUEL 0 = law10_PlanScales_L4 n b q true (plP n, 0) (plP (upN n b), 0) (fixN (law10_PlanScales_L4 n b q true (plP n, 0) (plP (upN n b), 0)) 18446744073709551611) ((4 : Nat) : Int) := (r 18446744073709551615 0 (by omega)).trans ((r 18446744073709551614 1 (by omega)).trans ((r 18446744073709551613 2 (by omega)).trans ((r 18446744073709551612 3 (by omega)).trans (fix_step _ 18446744073709551611 _))))
    rw [cond_false, e]
    unfold law10_PlanScales_L4
    show (if ((4 : Nat) : Int) < ((chs n).length : Int) then _ else _) = _
    rw [if_neg (by simp [chs])]
    have hmn : mnI (w64 (n.Storage + q)) 10000 = if 10000 < n.Storage + q then 10000 else n.Storage + q := by
      rw [w64_id (by omega) (by omega)]; rfl
    have hs : n.Storage ≤ mnI (w64 (n.Storage + q)) 10000 ∧ mnI (w64 (n.Storage + q)) 10000 ≤ 10000 := by rw [hmn]; split <;> omega
    generalize mnI (w64 (n.Storage + q)) 10000 = s at hs
    have hv := vn_st h (s := s) (by omega)
    show Option.bind (plan_Make (stN n s)) _ = _
    rw [make_ok hv, bind_some, if_neg (by simp)]
    show (if ((chs (stN n s)).length : Int) ≠ 4 then _ else law10_PlanScales_J6 true (plP n, 0) (plP (stN n s), 0) (decide (4#8 < (bestP (stN n s)).1))) = _
    rw [if_neg (by simp [chs]), decide_eq_false (best_le _)]
    unfold law10_PlanScales_J6
    rw [cond_false, cond_true]
    show (if (bestP n).1 = 0#8 then _ else if 0#8 < (bestP (stN n s)).1 then Option.bind (getI (chs (stN n s)) (un8 ((bestP (stN n s)).1 - 1#8))) fun y16 => Option.bind (getI (chs n) (un8 ((bestP n).1 - 1#8))) _ else _) = _
    rcases best_cases n with ⟨b1, b2⟩ | ⟨j, hj, b1, b2, b3⟩
    · rw [if_pos b1]
    · obtain ⟨x1, x2, x3, x4⟩ := best_ix n hj b1
      obtain ⟨t1, t2⟩ := st_ch n s hs.1 (j + 1)
      rw [if_neg x1]
      rcases best_cases (stN n s) with ⟨d1, d2⟩ | ⟨i, hi, d1, d2, d3⟩
      · rw [d2 j hj] at t1; cases t1 b2
      · obtain ⟨y1, y2, y3, y4⟩ := best_ix (stN n s) hi d1
        have := (d3 j hj (t1 b2)).1
        rw [if_pos y4, y2, bind_some, x2, bind_some, decide_eq_true (by rw [← t2]; exact this)]
end Go.Sx

end
