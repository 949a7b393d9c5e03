/- Walks by the laws of SX: TreeA. Printed by sx.py. -/
import Derived.Test.YtecempahccgijaaRows
import Derived.Test.YtecempahccgijaaKey
import Derived.KernelRfl
import Derived.Test.YtecempahccgijaaSxSl
import Derived.Test.YtecempahccgijaaSxEq
namespace Go.Proofs.Ytecempahccgijaa
open Go Go.RowKit Go.Sx
theorem cv_23_5 : CV Try.prog 23 5 .u8 := fun _ _ _ => by kernel_rfl
theorem cv_5_3 : CV Try.prog 5 3 .i64 := fun _ _ _ => by kernel_rfl
theorem en_161 : En Try.prog 161 := fun _ _ => by kernel_rfl
theorem cv_139_174 : CV Try.prog 139 174 .u64 := fun _ _ _ => by kernel_rfl
theorem en_147 : En Try.prog 147 := fun _ _ => by kernel_rfl
theorem en_105 : En Try.prog 105 := fun _ _ => by kernel_rfl
theorem fa_134_1 : FA Try.prog 134 1 1 := fun _ _ _ => by kernel_rfl
theorem one_3 : One Try.prog 3 := fun _ => ⟨by kernel_rfl, by kernel_rfl⟩
theorem agg_134 : Agg Try.prog 134 3 := fun _ => ⟨by kernel_rfl, by kernel_rfl⟩
theorem en_123 : En Try.prog 123 := fun _ _ => by kernel_rfl
theorem fa_134_2 : FA Try.prog 134 2 2 := fun _ _ _ => by kernel_rfl
theorem en_112 : En Try.prog 112 := fun _ _ => by kernel_rfl
theorem fa_47_0 : FA Try.prog 47 0 0 := fun _ _ _ => by kernel_rfl
theorem en_126 : En Try.prog 126 := fun _ _ => by kernel_rfl
theorem fa_47_1 : FA Try.prog 47 1 1 := fun _ _ _ => by kernel_rfl
theorem zv_134 : ZV Try.prog 134 (.agg [.int .u8 0, .int .i64 0, .int .i64 0].toArray) := fun _ => by kernel_rfl
theorem fa_45_0 : FA Try.prog 45 0 0 := fun _ _ _ => by kernel_rfl
theorem one_5 : One Try.prog 5 := fun _ => ⟨by kernel_rfl, by kernel_rfl⟩
theorem bs_134 : BS Try.prog 134 (fun i => [(0, 1), (1, 1), (2, 1)][i]?) [.int .u8 0, .int .i64 0, .int .i64 0] := bs_mk Try.underlying134 zv_134 ⟨rfl, (one_5).siz, rfl, (one_3).siz, rfl, (one_3).siz, trivial⟩
theorem fa_45_1 : FA Try.prog 45 1 1 := fun _ _ _ => by kernel_rfl
theorem agg_45 : Agg Try.prog 45 6 := fun _ => ⟨by kernel_rfl, by kernel_rfl⟩
theorem zv_45 : ZV Try.prog 45 (.agg [.int .u8 0, .int .i64 0, .int .i64 0, .int .u64 0, .int .u64 0, .int .u64 0].toArray) := fun _ => by kernel_rfl
theorem agg_43 : Agg Try.prog 43 3 := fun _ => ⟨by kernel_rfl, by kernel_rfl⟩
theorem bs_45 : BS Try.prog 45 (fun i => [(0, 1), (1, 1), (2, 1), (3, 3)][i]?) [.int .u8 0, .int .i64 0, .int .i64 0, .int .u64 0, .int .u64 0, .int .u64 0] := bs_mk Try.underlying45 zv_45 ⟨rfl, (one_5).siz, rfl, (one_3).siz, rfl, (one_3).siz, rfl, (agg_43).siz, trivial⟩
theorem one_23 : One Try.prog 23 := fun _ => ⟨by kernel_rfl, by kernel_rfl⟩
theorem eqc_23 : EqC Try.prog 1 23 [.u64] := eqc_int Try.underlying23 one_23
theorem eqc_43 : EqC Try.prog 2 43 [.u64, .u64, .u64] := eqc_struct Try.underlying43 (by kernel_rfl) agg_43 (show EqF _ 1 _ _ _ from (eqf_cons (ks1 := [.u64]) (ks2 := [.u64, .u64]) rfl (by simp) (eqc_23.up (by decide)) (eqf_cons (ks1 := [.u64]) (ks2 := [.u64]) rfl (by simp) (eqc_23.up (by decide)) (eqf_cons (ks1 := [.u64]) (ks2 := []) rfl (by simp) (eqc_23.up (by decide)) (eqf_nil _)))))
theorem eqc_3 : EqC Try.prog 1 3 [.i64] := eqc_int Try.underlying3 one_3
theorem eqc_5 : EqC Try.prog 1 5 [.u8] := eqc_int Try.underlying5 one_5
theorem eqc_45 : EqC Try.prog 3 45 [.u8, .i64, .i64, .u64, .u64, .u64] := eqc_struct Try.underlying45 (by kernel_rfl) agg_45 (show EqF _ 2 _ _ _ from (eqf_cons (ks1 := [.u8]) (ks2 := [.i64, .i64, .u64, .u64, .u64]) rfl (by simp) (eqc_5.up (by decide)) (eqf_cons (ks1 := [.i64]) (ks2 := [.i64, .u64, .u64, .u64]) rfl (by simp) (eqc_3.up (by decide)) (eqf_cons (ks1 := [.i64]) (ks2 := [.u64, .u64, .u64]) rfl (by simp) (eqc_3.up (by decide)) (eqf_cons (ks1 := [.u64, .u64, .u64]) (ks2 := []) rfl (by simp) (eqc_43.up (by decide)) (eqf_nil _))))))
theorem eqt_45 : EqT Try.prog 45 [.u8, .i64, .i64, .u64, .u64, .u64] := ⟨by kernel_rfl, agg_45, 3, by decide, eqc_45⟩

/-- the number of bits of a number -/
def lg (a : Int) : Int := if a.toNat = 0 then 0 else (Nat.log2 a.toNat : Int) + 1
theorem log2_shift (n k : Nat) (h : 2 ^ k ≤ n) : Nat.log2 n = Nat.log2 (n / 2 ^ k) + k := by
  induction k generalizing n with
  | zero => simp
  | succ k ih =>
    have h2 : 2 ^ k ≤ n / 2 := by rw [Nat.le_div_iff_mul_le (by omega)]; rw [Nat.pow_succ] at h; omega
    have h1 : 2 ≤ n := by have : 0 < 2 ^ k := Nat.two_pow_pos k; rw [Nat.pow_succ] at h; omega
    rw [Nat.log2_def, if_pos h1, ih (n / 2) h2, Nat.div_div_eq_div_mul, Nat.pow_succ, Nat.mul_comm 2]; omega
theorem lg_shift (a : Int) (k m : Nat) (hm : 2 ^ k = m) (h : (m : Int) ≤ a) : lg a = lg (a / (m : Int)) + k := by
  obtain ⟨n, rfl⟩ := Int.eq_ofNat_of_zero_le (show 0 ≤ a by omega)
  subst hm
  have hp : 0 < 2 ^ k := Nat.two_pow_pos k
  have h' : 2 ^ k ≤ n := by omega
  have e : ((n : Int) / ((2 ^ k : Nat) : Int)).toNat = n / 2 ^ k := by rw [← Int.natCast_ediv]; rfl
  have h1 : ¬ (n / 2 ^ k = 0) := by rw [Nat.div_eq_zero_iff]; omega
  unfold lg
  rw [e, Int.toNat_natCast, if_neg h1, if_neg (by omega), log2_shift n k h']
  omega
def lenTab : ByteArray := ⟨#[0, 1, 2, 2, 3, 3, 3, 3, 4, 4, 4, 4, 4, 4, 4, 4, 5, 5, 5, 5, 5, 5, 5, 5, 5, 5, 5, 5, 5, 5, 5, 5, 6, 6, 6, 6, 6, 6, 6, 6, 6, 6, 6, 6, 6, 6, 6, 6, 6, 6, 6, 6, 6, 6, 6, 6, 6, 6, 6, 6, 6, 6, 6, 6, 7, 7, 7, 7, 7, 7, 7, 7, 7, 7, 7, 7, 7, 7, 7, 7, 7, 7, 7, 7, 7, 7, 7, 7, 7, 7, 7, 7, 7, 7, 7, 7, 7, 7, 7, 7, 7, 7, 7, 7, 7, 7, 7, 7, 7, 7, 7, 7, 7, 7, 7, 7, 7, 7, 7, 7, 7, 7, 7, 7, 7, 7, 7, 7, 8, 8, 8, 8, 8, 8, 8, 8, 8, 8, 8, 8, 8, 8, 8, 8, 8, 8, 8, 8, 8, 8, 8, 8, 8, 8, 8, 8, 8, 8, 8, 8, 8, 8, 8, 8, 8, 8, 8, 8, 8, 8, 8, 8, 8, 8, 8, 8, 8, 8, 8, 8, 8, 8, 8, 8, 8, 8, 8, 8, 8, 8, 8, 8, 8, 8, 8, 8, 8, 8, 8, 8, 8, 8, 8, 8, 8, 8, 8, 8, 8, 8, 8, 8, 8, 8, 8, 8, 8, 8, 8, 8, 8, 8, 8, 8, 8, 8, 8, 8, 8, 8, 8, 8, 8, 8, 8, 8, 8, 8, 8, 8, 8, 8, 8, 8, 8, 8, 8, 8, 8, 8, 8, 8, 8, 8, 8, 8]⟩
theorem lenTab_fin : ∀ k : Fin 256, lenTab[k.1]? = some (UInt8.ofNat (lg (k.1 : Int)).toNat) ∧ lg (k.1 : Int) = ((UInt8.ofNat (lg (k.1 : Int)).toNat).toNat : Int) := by decide +kernel
theorem lenTab_at {a : Int} (h0 : 0 ≤ a) (h1 : a < 256) : lenTab[a.toNat]? = some (UInt8.ofNat (lg a).toNat) ∧ lg a = ((UInt8.ofNat (lg a).toNat).toNat : Int) := by
  obtain ⟨n, rfl⟩ := Int.eq_ofNat_of_zero_le h0
  exact lenTab_fin ⟨n, by omega⟩

theorem lg_lo (a : Int) : -9223372036854775808 ≤ lg a := by unfold lg; split <;> omega
theorem lg_hi {a : Int} (h0 : 0 ≤ a) (h1 : a < 256) : lg a ≤ 9223372036854775807 := by have := (lenTab_at h0 h1).2; have := (UInt8.ofNat (lg a).toNat).toNat_lt; omega
theorem lg_add {b : Int} (a : Int) (h : 0 ≤ b) : -9223372036854775808 ≤ b + lg a := by unfold lg; split <;> omega
theorem lg_add2 {a b : Int} (h0 : 0 ≤ a) (h1 : a < 256) (hb : b ≤ 1000) : b + lg a ≤ 9223372036854775807 := by have := (lenTab_at h0 h1).2; have := (UInt8.ofNat (lg a).toNat).toNat_lt; omega

set_option maxRecDepth 20000 in
set_option maxHeartbeats 1000000 in
theorem len64_c (a : Int) (ha1 : 0 ≤ a) (ha2 : a < 18446744073709551616) (w : World) :
    Calls Try.prog 161 [.int .u64 a].toArray w fun e w' => ∃ v, e = .returned v ∧ (v = .int .i64 (lg a) ∧ Gr w w') := by
  refine calls_of_sw (R := fun v w' => v = .int .i64 (lg a) ∧ Gr w w') 25 Try.func161 rfl rfl rfl ?_
  refine sw_seq ?_
  -- region 0 bits.go:337
  refine sw_region [(0, 0)] rfl rfl rfl ?_
  refine sd_vv rfl rfl rfl (vv_assign rfl) ?_
  refine sd_done ?_
  refine sw_seq ?_
  refine sw_seq ?_
  -- region 1 bits.go:338
  refine sw_region [(0, 0), (1, 0)] rfl rfl rfl ?_
  refine sd_vv rfl rfl rfl (vv_move rfl) ?_
  refine sd_vv rfl rfl rfl (vv_geq rfl rfl) ?_
  refine sd_done ?_
  refine sw_cond rfl (fun h1 => ?_) (fun h1 => ?_)
  · -- h1 True
    replace h1 := of_decide_eq_true h1
    refine sw_seq ?_
    -- region 2 bits.go:339
    refine sw_region [(0, 0), (1, 0), (2, 0)] rfl rfl rfl ?_
    refine sd_vv rfl rfl rfl (vv_move rfl) ?_
    refine sd_vv rfl rfl rfl (vv_shrN (n := 32) (m := 4294967296) rfl rfl rfl (by decide)) ?_
    refine sd_vv rfl rfl rfl (vv_assign rfl) ?_
    refine sd_done ?_
    -- region 3 bits.go:340
    refine sw_region [(0, 0)] rfl rfl rfl ?_
    refine sd_vv rfl rfl rfl (vv_assign rfl) ?_
    refine sd_done ?_
    refine sw_seq ?_
    refine sw_seq ?_
    -- region 4 bits.go:342
    refine sw_region [(0, 0), (1, 0)] rfl rfl rfl ?_
    refine sd_vv rfl rfl rfl (vv_move rfl) ?_
    refine sd_vv rfl rfl rfl (vv_geq rfl rfl) ?_
    refine sd_done ?_
    refine sw_cond rfl (fun h2 => ?_) (fun h2 => ?_)
    · -- h2 True
      replace h2 := of_decide_eq_true h2
      refine sw_seq ?_
      -- region 5 bits.go:343
      refine sw_region [(0, 0), (1, 0), (2, 0)] rfl rfl rfl ?_
      refine sd_vv rfl rfl rfl (vv_move rfl) ?_
      refine sd_vv rfl rfl rfl (vv_shrN (n := 16) (m := 65536) rfl rfl rfl (by decide)) ?_
      refine sd_vv rfl rfl rfl (vv_assign rfl) ?_
      refine sd_done ?_
      -- region 6 bits.go:344
      refine sw_region [(0, 0), (1, 0), (2, 0)] rfl rfl rfl ?_
      refine sd_vv rfl rfl rfl (vv_move rfl) ?_
      refine sd_vv rfl rfl rfl (vv_add64 rfl rfl (by omega) (by omega)) ?_
      refine sd_vv rfl rfl rfl (vv_assign rfl) ?_
      refine sd_done ?_
      refine sw_seq ?_
      refine sw_seq ?_
      -- region 7 bits.go:346
      refine sw_region [(0, 0), (1, 0)] rfl rfl rfl ?_
      refine sd_vv rfl rfl rfl (vv_move rfl) ?_
      refine sd_vv rfl rfl rfl (vv_geq rfl rfl) ?_
      refine sd_done ?_
      refine sw_cond rfl (fun h3 => ?_) (fun h3 => ?_)
      · -- h3 True
        replace h3 := of_decide_eq_true h3
        refine sw_seq ?_
        -- region 8 bits.go:347
        refine sw_region [(0, 0), (1, 0), (2, 0)] rfl rfl rfl ?_
        refine sd_vv rfl rfl rfl (vv_move rfl) ?_
        refine sd_vv rfl rfl rfl (vv_shrN (n := 8) (m := 256) rfl rfl rfl (by decide)) ?_
        refine sd_vv rfl rfl rfl (vv_assign rfl) ?_
        refine sd_done ?_
        -- region 9 bits.go:348
        refine sw_region [(0, 0), (1, 0), (2, 0)] rfl rfl rfl ?_
        refine sd_vv rfl rfl rfl (vv_move rfl) ?_
        refine sd_vv rfl rfl rfl (vv_add64 rfl rfl (by omega) (by omega)) ?_
        refine sd_vv rfl rfl rfl (vv_assign rfl) ?_
        refine sd_done ?_
        refine sw_seq ?_
        -- region 10 bits.go:350
        refine sw_region [(0, 0), (1, 0), (2, 0), (3, 0), (4, 0), (5, 0), (6, 0)] rfl rfl rfl ?_
        refine sd_vv rfl rfl rfl (vv_move rfl) ?_
        refine sd_vv rfl rfl rfl (vv_move rfl) ?_
        refine sd_vv rfl rfl rfl (vv_convB cv_23_5 rfl (by omega) (by omega)) ?_
        refine sd_vv rfl rfl rfl (vv_eq (vv_ixStr Try.underlying9 rfl rfl (by omega) (show lenTab[_]? = _ from (lenTab_at (by omega) (by omega)).1)) (congrArg (Value.int .u8) (lenTab_at (by omega) (by omega)).2.symm)) ?_
        refine sd_vv rfl rfl rfl (vv_conv64 cv_5_3 rfl (lg_lo _) (lg_hi (by omega) (by omega))) ?_
        refine sd_vv rfl rfl rfl (vv_add64 rfl rfl (lg_add _ (by decide)) (lg_add2 (by omega) (by omega) (by decide))) ?_
        refine sd_vv rfl rfl rfl (vv_assign rfl) ?_
        refine sd_done ?_
        refine sw_ret ?_
        refine ⟨_, _, rfl, res_tmp rfl rfl, ?_⟩
        refine ⟨congrArg (Value.int .i64) ?_, (Gr.refl w)⟩
        have e0 : lg (a : Int) = lg ((a : Int) / 4294967296) + 32 := lg_shift (a : Int) 32 4294967296 (by decide) (by omega)
        have e1 : lg ((a : Int) / 4294967296) = lg (((a : Int) / 4294967296) / 65536) + 16 := lg_shift ((a : Int) / 4294967296) 16 65536 (by decide) (by omega)
        have e2 : lg (((a : Int) / 4294967296) / 65536) = lg ((((a : Int) / 4294967296) / 65536) / 256) + 8 := lg_shift (((a : Int) / 4294967296) / 65536) 8 256 (by decide) (by omega)
        omega
      · -- h3 False
        replace h3 := of_decide_eq_false h3
        refine sw_skip ?_
        refine then_n ?_
        refine sw_seq ?_
        -- region 10 bits.go:350
        refine sw_region [(0, 0), (1, 0), (2, 0), (3, 0), (4, 0), (5, 0), (6, 0)] rfl rfl rfl ?_
        refine sd_vv rfl rfl rfl (vv_move rfl) ?_
        refine sd_vv rfl rfl rfl (vv_move rfl) ?_
        refine sd_vv rfl rfl rfl (vv_convB cv_23_5 rfl (by omega) (by omega)) ?_
        refine sd_vv rfl rfl rfl (vv_eq (vv_ixStr Try.underlying9 rfl rfl (by omega) (show lenTab[_]? = _ from (lenTab_at (by omega) (by omega)).1)) (congrArg (Value.int .u8) (lenTab_at (by omega) (by omega)).2.symm)) ?_
        refine sd_vv rfl rfl rfl (vv_conv64 cv_5_3 rfl (lg_lo _) (lg_hi (by omega) (by omega))) ?_
        refine sd_vv rfl rfl rfl (vv_add64 rfl rfl (lg_add _ (by decide)) (lg_add2 (by omega) (by omega) (by decide))) ?_
        refine sd_vv rfl rfl rfl (vv_assign rfl) ?_
        refine sd_done ?_
        refine sw_ret ?_
        refine ⟨_, _, rfl, res_tmp rfl rfl, ?_⟩
        refine ⟨congrArg (Value.int .i64) ?_, (Gr.refl w)⟩
        have e0 : lg (a : Int) = lg ((a : Int) / 4294967296) + 32 := lg_shift (a : Int) 32 4294967296 (by decide) (by omega)
        have e1 : lg ((a : Int) / 4294967296) = lg (((a : Int) / 4294967296) / 65536) + 16 := lg_shift ((a : Int) / 4294967296) 16 65536 (by decide) (by omega)
        omega
    · -- h2 False
      replace h2 := of_decide_eq_false h2
      refine sw_skip ?_
      refine then_n ?_
      refine sw_seq ?_
      refine sw_seq ?_
      -- region 7 bits.go:346
      refine sw_region [(0, 0), (1, 0)] rfl rfl rfl ?_
      refine sd_vv rfl rfl rfl (vv_move rfl) ?_
      refine sd_vv rfl rfl rfl (vv_geq rfl rfl) ?_
      refine sd_done ?_
      refine sw_cond rfl (fun h4 => ?_) (fun h4 => ?_)
      · -- h4 True
        replace h4 := of_decide_eq_true h4
        refine sw_seq ?_
        -- region 8 bits.go:347
        refine sw_region [(0, 0), (1, 0), (2, 0)] rfl rfl rfl ?_
        refine sd_vv rfl rfl rfl (vv_move rfl) ?_
        refine sd_vv rfl rfl rfl (vv_shrN (n := 8) (m := 256) rfl rfl rfl (by decide)) ?_
        refine sd_vv rfl rfl rfl (vv_assign rfl) ?_
        refine sd_done ?_
        -- region 9 bits.go:348
        refine sw_region [(0, 0), (1, 0), (2, 0)] rfl rfl rfl ?_
        refine sd_vv rfl rfl rfl (vv_move rfl) ?_
        refine sd_vv rfl rfl rfl (vv_add64 rfl rfl (by omega) (by omega)) ?_
        refine sd_vv rfl rfl rfl (vv_assign rfl) ?_
        refine sd_done ?_
        refine sw_seq ?_
        -- region 10 bits.go:350
        refine sw_region [(0, 0), (1, 0), (2, 0), (3, 0), (4, 0), (5, 0), (6, 0)] rfl rfl rfl ?_
        refine sd_vv rfl rfl rfl (vv_move rfl) ?_
        refine sd_vv rfl rfl rfl (vv_move rfl) ?_
        refine sd_vv rfl rfl rfl (vv_convB cv_23_5 rfl (by omega) (by omega)) ?_
        refine sd_vv rfl rfl rfl (vv_eq (vv_ixStr Try.underlying9 rfl rfl (by omega) (show lenTab[_]? = _ from (lenTab_at (by omega) (by omega)).1)) (congrArg (Value.int .u8) (lenTab_at (by omega) (by omega)).2.symm)) ?_
        refine sd_vv rfl rfl rfl (vv_conv64 cv_5_3 rfl (lg_lo _) (lg_hi (by omega) (by omega))) ?_
        refine sd_vv rfl rfl rfl (vv_add64 rfl rfl (lg_add _ (by decide)) (lg_add2 (by omega) (by omega) (by decide))) ?_
        refine sd_vv rfl rfl rfl (vv_assign rfl) ?_
        refine sd_done ?_
        refine sw_ret ?_
        refine ⟨_, _, rfl, res_tmp rfl rfl, ?_⟩
        refine ⟨congrArg (Value.int .i64) ?_, (Gr.refl w)⟩
        have e0 : lg (a : Int) = lg ((a : Int) / 4294967296) + 32 := lg_shift (a : Int) 32 4294967296 (by decide) (by omega)
        have e1 : lg ((a : Int) / 4294967296) = lg (((a : Int) / 4294967296) / 256) + 8 := lg_shift ((a : Int) / 4294967296) 8 256 (by decide) (by omega)
        omega
      · -- h4 False
        replace h4 := of_decide_eq_false h4
        refine sw_skip ?_
        refine then_n ?_
        refine sw_seq ?_
        -- region 10 bits.go:350
        refine sw_region [(0, 0), (1, 0), (2, 0), (3, 0), (4, 0), (5, 0), (6, 0)] rfl rfl rfl ?_
        refine sd_vv rfl rfl rfl (vv_move rfl) ?_
        refine sd_vv rfl rfl rfl (vv_move rfl) ?_
        refine sd_vv rfl rfl rfl (vv_convB cv_23_5 rfl (by omega) (by omega)) ?_
        refine sd_vv rfl rfl rfl (vv_eq (vv_ixStr Try.underlying9 rfl rfl (by omega) (show lenTab[_]? = _ from (lenTab_at (by omega) (by omega)).1)) (congrArg (Value.int .u8) (lenTab_at (by omega) (by omega)).2.symm)) ?_
        refine sd_vv rfl rfl rfl (vv_conv64 cv_5_3 rfl (lg_lo _) (lg_hi (by omega) (by omega))) ?_
        refine sd_vv rfl rfl rfl (vv_add64 rfl rfl (lg_add _ (by decide)) (lg_add2 (by omega) (by omega) (by decide))) ?_
        refine sd_vv rfl rfl rfl (vv_assign rfl) ?_
        refine sd_done ?_
        refine sw_ret ?_
        refine ⟨_, _, rfl, res_tmp rfl rfl, ?_⟩
        refine ⟨congrArg (Value.int .i64) ?_, (Gr.refl w)⟩
        have e0 : lg (a : Int) = lg ((a : Int) / 4294967296) + 32 := lg_shift (a : Int) 32 4294967296 (by decide) (by omega)
        omega
  · -- h1 False
    replace h1 := of_decide_eq_false h1
    refine sw_skip ?_
    refine then_n ?_
    refine sw_seq ?_
    refine sw_seq ?_
    -- region 4 bits.go:342
    refine sw_region [(0, 0), (1, 0)] rfl rfl rfl ?_
    refine sd_vv rfl rfl rfl (vv_move rfl) ?_
    refine sd_vv rfl rfl rfl (vv_geq rfl rfl) ?_
    refine sd_done ?_
    refine sw_cond rfl (fun h5 => ?_) (fun h5 => ?_)
    · -- h5 True
      replace h5 := of_decide_eq_true h5
      refine sw_seq ?_
      -- region 5 bits.go:343
      refine sw_region [(0, 0), (1, 0), (2, 0)] rfl rfl rfl ?_
      refine sd_vv rfl rfl rfl (vv_move rfl) ?_
      refine sd_vv rfl rfl rfl (vv_shrN (n := 16) (m := 65536) rfl rfl rfl (by decide)) ?_
      refine sd_vv rfl rfl rfl (vv_assign rfl) ?_
      refine sd_done ?_
      -- region 6 bits.go:344
      refine sw_region [(0, 0), (1, 0), (2, 0)] rfl rfl rfl ?_
      refine sd_vv rfl rfl rfl (vv_move rfl) ?_
      refine sd_vv rfl rfl rfl (vv_add64 rfl rfl (by omega) (by omega)) ?_
      refine sd_vv rfl rfl rfl (vv_assign rfl) ?_
      refine sd_done ?_
      refine sw_seq ?_
      refine sw_seq ?_
      -- region 7 bits.go:346
      refine sw_region [(0, 0), (1, 0)] rfl rfl rfl ?_
      refine sd_vv rfl rfl rfl (vv_move rfl) ?_
      refine sd_vv rfl rfl rfl (vv_geq rfl rfl) ?_
      refine sd_done ?_
      refine sw_cond rfl (fun h6 => ?_) (fun h6 => ?_)
      · -- h6 True
        replace h6 := of_decide_eq_true h6
        refine sw_seq ?_
        -- region 8 bits.go:347
        refine sw_region [(0, 0), (1, 0), (2, 0)] rfl rfl rfl ?_
        refine sd_vv rfl rfl rfl (vv_move rfl) ?_
        refine sd_vv rfl rfl rfl (vv_shrN (n := 8) (m := 256) rfl rfl rfl (by decide)) ?_
        refine sd_vv rfl rfl rfl (vv_assign rfl) ?_
        refine sd_done ?_
        -- region 9 bits.go:348
        refine sw_region [(0, 0), (1, 0), (2, 0)] rfl rfl rfl ?_
        refine sd_vv rfl rfl rfl (vv_move rfl) ?_
        refine sd_vv rfl rfl rfl (vv_add64 rfl rfl (by omega) (by omega)) ?_
        refine sd_vv rfl rfl rfl (vv_assign rfl) ?_
        refine sd_done ?_
        refine sw_seq ?_
        -- region 10 bits.go:350
        refine sw_region [(0, 0), (1, 0), (2, 0), (3, 0), (4, 0), (5, 0), (6, 0)] rfl rfl rfl ?_
        refine sd_vv rfl rfl rfl (vv_move rfl) ?_
        refine sd_vv rfl rfl rfl (vv_move rfl) ?_
        refine sd_vv rfl rfl rfl (vv_convB cv_23_5 rfl (by omega) (by omega)) ?_
        refine sd_vv rfl rfl rfl (vv_eq (vv_ixStr Try.underlying9 rfl rfl (by omega) (show lenTab[_]? = _ from (lenTab_at (by omega) (by omega)).1)) (congrArg (Value.int .u8) (lenTab_at (by omega) (by omega)).2.symm)) ?_
        refine sd_vv rfl rfl rfl (vv_conv64 cv_5_3 rfl (lg_lo _) (lg_hi (by omega) (by omega))) ?_
        refine sd_vv rfl rfl rfl (vv_add64 rfl rfl (lg_add _ (by decide)) (lg_add2 (by omega) (by omega) (by decide))) ?_
        refine sd_vv rfl rfl rfl (vv_assign rfl) ?_
        refine sd_done ?_
        refine sw_ret ?_
        refine ⟨_, _, rfl, res_tmp rfl rfl, ?_⟩
        refine ⟨congrArg (Value.int .i64) ?_, (Gr.refl w)⟩
        have e0 : lg (a : Int) = lg ((a : Int) / 65536) + 16 := lg_shift (a : Int) 16 65536 (by decide) (by omega)
        have e1 : lg ((a : Int) / 65536) = lg (((a : Int) / 65536) / 256) + 8 := lg_shift ((a : Int) / 65536) 8 256 (by decide) (by omega)
        omega
      · -- h6 False
        replace h6 := of_decide_eq_false h6
        refine sw_skip ?_
        refine then_n ?_
        refine sw_seq ?_
        -- region 10 bits.go:350
        refine sw_region [(0, 0), (1, 0), (2, 0), (3, 0), (4, 0), (5, 0), (6, 0)] rfl rfl rfl ?_
        refine sd_vv rfl rfl rfl (vv_move rfl) ?_
        refine sd_vv rfl rfl rfl (vv_move rfl) ?_
        refine sd_vv rfl rfl rfl (vv_convB cv_23_5 rfl (by omega) (by omega)) ?_
        refine sd_vv rfl rfl rfl (vv_eq (vv_ixStr Try.underlying9 rfl rfl (by omega) (show lenTab[_]? = _ from (lenTab_at (by omega) (by omega)).1)) (congrArg (Value.int .u8) (lenTab_at (by omega) (by omega)).2.symm)) ?_
        refine sd_vv rfl rfl rfl (vv_conv64 cv_5_3 rfl (lg_lo _) (lg_hi (by omega) (by omega))) ?_
        refine sd_vv rfl rfl rfl (vv_add64 rfl rfl (lg_add _ (by decide)) (lg_add2 (by omega) (by omega) (by decide))) ?_
        refine sd_vv rfl rfl rfl (vv_assign rfl) ?_
        refine sd_done ?_
        refine sw_ret ?_
        refine ⟨_, _, rfl, res_tmp rfl rfl, ?_⟩
        refine ⟨congrArg (Value.int .i64) ?_, (Gr.refl w)⟩
        have e0 : lg (a : Int) = lg ((a : Int) / 65536) + 16 := lg_shift (a : Int) 16 65536 (by decide) (by omega)
        omega
    · -- h5 False
      replace h5 := of_decide_eq_false h5
      refine sw_skip ?_
      refine then_n ?_
      refine sw_seq ?_
      refine sw_seq ?_
      -- region 7 bits.go:346
      refine sw_region [(0, 0), (1, 0)] rfl rfl rfl ?_
      refine sd_vv rfl rfl rfl (vv_move rfl) ?_
      refine sd_vv rfl rfl rfl (vv_geq rfl rfl) ?_
      refine sd_done ?_
      refine sw_cond rfl (fun h7 => ?_) (fun h7 => ?_)
      · -- h7 True
        replace h7 := of_decide_eq_true h7
        refine sw_seq ?_
        -- region 8 bits.go:347
        refine sw_region [(0, 0), (1, 0), (2, 0)] rfl rfl rfl ?_
        refine sd_vv rfl rfl rfl (vv_move rfl) ?_
        refine sd_vv rfl rfl rfl (vv_shrN (n := 8) (m := 256) rfl rfl rfl (by decide)) ?_
        refine sd_vv rfl rfl rfl (vv_assign rfl) ?_
        refine sd_done ?_
        -- region 9 bits.go:348
        refine sw_region [(0, 0), (1, 0), (2, 0)] rfl rfl rfl ?_
        refine sd_vv rfl rfl rfl (vv_move rfl) ?_
        refine sd_vv rfl rfl rfl (vv_add64 rfl rfl (by omega) (by omega)) ?_
        refine sd_vv rfl rfl rfl (vv_assign rfl) ?_
        refine sd_done ?_
        refine sw_seq ?_
        -- region 10 bits.go:350
        refine sw_region [(0, 0), (1, 0), (2, 0), (3, 0), (4, 0), (5, 0), (6, 0)] rfl rfl rfl ?_
        refine sd_vv rfl rfl rfl (vv_move rfl) ?_
        refine sd_vv rfl rfl rfl (vv_move rfl) ?_
        refine sd_vv rfl rfl rfl (vv_convB cv_23_5 rfl (by omega) (by omega)) ?_
        refine sd_vv rfl rfl rfl (vv_eq (vv_ixStr Try.underlying9 rfl rfl (by omega) (show lenTab[_]? = _ from (lenTab_at (by omega) (by omega)).1)) (congrArg (Value.int .u8) (lenTab_at (by omega) (by omega)).2.symm)) ?_
        refine sd_vv rfl rfl rfl (vv_conv64 cv_5_3 rfl (lg_lo _) (lg_hi (by omega) (by omega))) ?_
        refine sd_vv rfl rfl rfl (vv_add64 rfl rfl (lg_add _ (by decide)) (lg_add2 (by omega) (by omega) (by decide))) ?_
        refine sd_vv rfl rfl rfl (vv_assign rfl) ?_
        refine sd_done ?_
        refine sw_ret ?_
        refine ⟨_, _, rfl, res_tmp rfl rfl, ?_⟩
        refine ⟨congrArg (Value.int .i64) ?_, (Gr.refl w)⟩
        have e0 : lg (a : Int) = lg ((a : Int) / 256) + 8 := lg_shift (a : Int) 8 256 (by decide) (by omega)
        omega
      · -- h7 False
        replace h7 := of_decide_eq_false h7
        refine sw_skip ?_
        refine then_n ?_
        refine sw_seq ?_
        -- region 10 bits.go:350
        refine sw_region [(0, 0), (1, 0), (2, 0), (3, 0), (4, 0), (5, 0), (6, 0)] rfl rfl rfl ?_
        refine sd_vv rfl rfl rfl (vv_move rfl) ?_
        refine sd_vv rfl rfl rfl (vv_move rfl) ?_
        refine sd_vv rfl rfl rfl (vv_convB cv_23_5 rfl (by omega) (by omega)) ?_
        refine sd_vv rfl rfl rfl (vv_eq (vv_ixStr Try.underlying9 rfl rfl (by omega) (show lenTab[_]? = _ from (lenTab_at (by omega) (by omega)).1)) (congrArg (Value.int .u8) (lenTab_at (by omega) (by omega)).2.symm)) ?_
        refine sd_vv rfl rfl rfl (vv_conv64 cv_5_3 rfl (lg_lo _) (lg_hi (by omega) (by omega))) ?_
        refine sd_vv rfl rfl rfl (vv_add64 rfl rfl (lg_add _ (by decide)) (lg_add2 (by omega) (by omega) (by decide))) ?_
        refine sd_vv rfl rfl rfl (vv_assign rfl) ?_
        refine sd_done ?_
        refine sw_ret ?_
        refine ⟨_, _, rfl, res_tmp rfl rfl, ?_⟩
        refine ⟨congrArg (Value.int .i64) ?_, (Gr.refl w)⟩
        omega

set_option maxHeartbeats 1000000 in
theorem len_c (a : Int) (ha1 : 0 ≤ a) (ha2 : a < 18446744073709551616) (w : World) :
    Calls Try.prog 147 [.int .u64 a].toArray w fun e w' => ∃ v, e = .returned v ∧ (v = .int .i64 (lg a) ∧ Gr w w') := by
  refine calls_of_sw (R := fun v w' => v = .int .i64 (lg a) ∧ Gr w w') 8 Try.func147 rfl rfl rfl ?_
  refine sw_seq ?_
  -- region 0 bits.go:302
  refine sw_region [(0, 0)] rfl rfl rfl ?_
  refine sd_vv rfl rfl rfl (vv_assign rfl) ?_
  refine sd_done ?_
  refine sw_seq ?_
  refine sw_condF rfl ?_
  refine sw_skip ?_
  refine then_n ?_
  refine sw_seq ?_
  -- region 2 bits.go:306
  refine sw_region [(0, 0), (1, 0), (2, 0)] rfl rfl rfl ?_
  refine sd_vv rfl rfl rfl (vv_move rfl) ?_
  refine sd_ev rfl rfl rfl (ev_call en_161 rfl (len64_c _ (by omega) (by omega) _)) ?_
  rintro _ w1 ⟨rfl, Gw1⟩
  have z1 := Gw1.size
  refine sd_vv rfl rfl rfl (vv_assign rfl) ?_
  refine sd_done ?_
  refine sw_ret ?_
  have X2 : Gr w w1 := (Gr.trans (Gr.refl w) Gw1)
  refine ⟨_, _, rfl, res_tmp rfl rfl, ?_⟩
  exact ⟨rfl, X2⟩

/-- the level of a node -/
def lvl (a : Int) : Int := lg a - 1
theorem lg_pos {a : Int} (h : 1 ≤ a) : 1 ≤ lg a := by unfold lg; rw [if_neg (by omega)]; omega
theorem lg_le {a : Int} {k : Nat} (h0 : 0 ≤ a) (h : a < ((2 ^ k : Nat) : Int)) : lg a ≤ k := by
  unfold lg
  split
  · omega
  · rename_i h1
    have : Nat.log2 a.toNat < k := (Nat.log2_lt h1).2 (by omega)
    omega
theorem lvl_nn {a : Int} (h : 1 ≤ a) : 0 ≤ lvl a := by have := lg_pos h; unfold lvl; omega
theorem lvl_le {a : Int} (h : 1 ≤ a) (h2 : a < 9223372036854775808) : lvl a ≤ 62 := by have := lg_le (k := 63) (show 0 ≤ a by omega) (by simpa using h2); unfold lvl; omega
/-- whether a node is below another one -/
def blw (a b : Int) : Bool := decide (1 ≤ a ∧ 1 ≤ b ∧ lvl b ≤ lvl a ∧ a / 2 ^ min (lvl a - lvl b).toNat 64 = b)
theorem blw_i {a b : Int} (h1 : 1 ≤ a) (h2 : 1 ≤ b) (h3 : lvl b ≤ lvl a) : blw a b = decide (a / 2 ^ min (lvl a - lvl b).toNat 64 = b) := by
  unfold blw; congr 1; exact propext ⟨fun h => h.2.2.2, fun h => ⟨h1, h2, h3, h⟩⟩

set_option maxHeartbeats 1000000 in
theorem level_c (a : Int) (ha1 : 1 ≤ a) (ha2 : a < 9223372036854775808) (w : World) :
    Calls Try.prog 105 [.int .i64 a].toArray w fun e w' => ∃ v, e = .returned v ∧ (v = .int .i64 (lvl a) ∧ Gr w w') := by
  refine calls_of_sw (R := fun v w' => v = .int .i64 (lvl a) ∧ Gr w w') 7 Try.func105 rfl rfl rfl ?_
  refine sw_seq ?_
  -- region 0 tree.go:14
  refine sw_region [(0, 0)] rfl rfl rfl ?_
  refine sd_vv rfl rfl rfl (vv_assign rfl) ?_
  refine sd_done ?_
  refine sw_seq ?_
  -- region 1 tree.go:14
  refine sw_region [(0, 0), (1, 0), (2, 0), (3, 0), (4, 0)] rfl rfl rfl ?_
  refine sd_vv rfl rfl rfl (vv_move rfl) ?_
  refine sd_vv rfl rfl rfl (vv_eq (vv_conv cv_139_174 rfl) (congrArg (Value.int .u64) (show IntKind.u64.wrap a = a from by rw [IntKind.wrap_u64]; omega))) ?_
  refine sd_ev rfl rfl rfl (ev_call en_147 rfl (len_c _ (by omega) (by omega) _)) ?_
  rintro _ w1 ⟨rfl, Gw1⟩
  have z1 := Gw1.size
  have hlg := lvl_nn ha1
  have hlg2 := lvl_le ha1 ha2
  unfold lvl at hlg hlg2
  refine sd_vv rfl rfl rfl (vv_sub64 rfl rfl (by omega) (by omega)) ?_
  refine sd_vv rfl rfl rfl (vv_assign rfl) ?_
  refine sd_done ?_
  refine sw_ret ?_
  have X2 : Gr w w1 := (Gr.trans (Gr.refl w) Gw1)
  refine ⟨_, _, rfl, res_tmp rfl rfl, ?_⟩
  exact ⟨rfl, X2⟩

set_option maxHeartbeats 1000000 in
theorem below_c (a b : Int) (ha2 : a ≤ 9223372036854775807) (hb2 : b ≤ 9223372036854775807) (w : World) :
    Calls Try.prog 126 [.int .i64 a, .int .i64 b].toArray w fun e w' => ∃ v, e = .returned v ∧ (v = .bool (blw a b) ∧ Gr w w') := by
  refine calls_of_sw (R := fun v w' => v = .bool (blw a b) ∧ Gr w w') 27 Try.func126 rfl rfl rfl ?_
  refine sw_seq ?_
  -- region 0 tree.go:17
  refine sw_region [(0, 0)] rfl rfl rfl ?_
  refine sd_vv rfl rfl rfl (vv_assign rfl) ?_
  refine sd_done ?_
  refine sw_seq ?_
  refine sw_seq ?_
  -- region 1 tree.go:18
  refine sw_region [(0, 0), (1, 0), (2, 0), (3, 0), (4, 0), (5, 0), (6, 0), (7, 0), (8, 0), (9, 0), (10, 0), (11, 0), (12, 0)] rfl rfl rfl ?_
  refine sd_vv rfl rfl rfl (vv_move rfl) ?_
  refine sd_vv rfl rfl rfl (vv_lss rfl rfl) ?_
  refine sd_split rfl rfl rfl (vv_move rfl) (fun h1 => ?_) (fun h1 => ?_)
  · -- h1 True
    replace h1 := of_decide_eq_true h1
    refine sd_skip rfl rfl rfl ?_
    refine sd_skip rfl rfl rfl ?_
    refine sd_vv rfl rfl rfl (vv_pickT rfl rfl) ?_
    refine sd_vv rfl rfl rfl (vv_move rfl) ?_
    refine sd_skip rfl rfl rfl ?_
    refine sd_skip rfl rfl rfl ?_
    refine sd_skip rfl rfl rfl ?_
    refine sd_skip rfl rfl rfl ?_
    refine sd_skip rfl rfl rfl ?_
    refine sd_vv rfl rfl rfl (vv_pickT rfl rfl) ?_
    refine sd_done ?_
    refine sw_condT rfl ?_
    refine sw_seq ?_
    -- region 2 tree.go:19
    refine sw_region [(0, 0)] rfl rfl rfl ?_
    refine sd_vv rfl rfl rfl (vv_assign rfl) ?_
    refine sd_done ?_
    refine sw_ret ?_
    refine then_r ?_
    refine ⟨_, _, rfl, res_tmp rfl rfl, ?_⟩
    exact ⟨congrArg Value.bool (Eq.symm (by first | (unfold blw; apply decide_eq_false; omega) | exact blw_i (by omega) (by omega) (by omega))), (Gr.refl w)⟩
  · -- h1 False
    replace h1 := of_decide_eq_false h1
    refine sd_vv rfl rfl rfl (vv_move rfl) ?_
    refine sd_vv rfl rfl rfl (vv_lss rfl rfl) ?_
    refine sd_vv rfl rfl rfl (vv_pickF rfl rfl) ?_
    refine sd_split rfl rfl rfl (vv_move rfl) (fun h2 => ?_) (fun h2 => ?_)
    · -- h2 True
      replace h2 := of_decide_eq_true h2
      refine sd_skip rfl rfl rfl ?_
      refine sd_skip rfl rfl rfl ?_
      refine sd_skip rfl rfl rfl ?_
      refine sd_skip rfl rfl rfl ?_
      refine sd_skip rfl rfl rfl ?_
      refine sd_vv rfl rfl rfl (vv_pickT rfl rfl) ?_
      refine sd_done ?_
      refine sw_condT rfl ?_
      refine sw_seq ?_
      -- region 2 tree.go:19
      refine sw_region [(0, 0)] rfl rfl rfl ?_
      refine sd_vv rfl rfl rfl (vv_assign rfl) ?_
      refine sd_done ?_
      refine sw_ret ?_
      refine then_r ?_
      refine ⟨_, _, rfl, res_tmp rfl rfl, ?_⟩
      exact ⟨congrArg Value.bool (Eq.symm (by first | (unfold blw; apply decide_eq_false; omega) | exact blw_i (by omega) (by omega) (by omega))), (Gr.refl w)⟩
    · -- h2 False
      replace h2 := of_decide_eq_false h2
      refine sd_vv rfl rfl rfl (vv_move rfl) ?_
      refine sd_ev rfl rfl rfl (ev_call en_105 rfl (level_c _ (by omega) (by omega) _)) ?_
      rintro _ w1 ⟨rfl, Gw1⟩
      have z1 := Gw1.size
      refine sd_vv rfl rfl rfl (vv_move rfl) ?_
      refine sd_ev rfl rfl rfl (ev_call en_105 rfl (level_c _ (by omega) (by omega) _)) ?_
      rintro _ w2 ⟨rfl, Gw2⟩
      have z2 := Gw2.size
      have l1 := lvl_nn (show 1 ≤ a by omega)
      have l2 := lvl_le (show 1 ≤ a by omega) (by omega)
      have l3 := lvl_nn (show 1 ≤ b by omega)
      have l4 := lvl_le (show 1 ≤ b by omega) (by omega)
      refine sd_vv rfl rfl rfl (vv_lss rfl rfl) ?_
      refine sd_vv rfl rfl rfl (vv_pickF rfl rfl) ?_
      refine sd_done ?_
      refine sw_cond rfl (fun h3 => ?_) (fun h3 => ?_)
      · -- h3 True
        replace h3 := of_decide_eq_true h3
        refine sw_seq ?_
        -- region 2 tree.go:19
        refine sw_region [(0, 0)] rfl rfl rfl ?_
        refine sd_vv rfl rfl rfl (vv_assign rfl) ?_
        refine sd_done ?_
        refine sw_ret ?_
        refine then_r ?_
        have X3 : Gr w w2 := (Gr.trans (Gr.trans (Gr.refl w) Gw1) Gw2)
        refine ⟨_, _, rfl, res_tmp rfl rfl, ?_⟩
        exact ⟨congrArg Value.bool (Eq.symm (by first | (unfold blw; apply decide_eq_false; omega) | exact blw_i (by omega) (by omega) (by omega))), X3⟩
      · -- h3 False
        replace h3 := of_decide_eq_false h3
        refine sw_skip ?_
        refine then_n ?_
        refine sw_seq ?_
        -- region 3 tree.go:21
        refine sw_region [(0, 0), (1, 0), (2, 0), (3, 0), (4, 0), (5, 0), (6, 0), (7, 0), (8, 0), (9, 0)] rfl rfl rfl ?_
        refine sd_vv rfl rfl rfl (vv_move rfl) ?_
        refine sd_vv rfl rfl rfl (vv_move rfl) ?_
        refine sd_ev rfl rfl rfl (ev_call en_105 rfl (level_c _ (by omega) (by omega) _)) ?_
        rintro _ w3 ⟨rfl, Gw3⟩
        have z4 := Gw3.size
        refine sd_vv rfl rfl rfl (vv_move rfl) ?_
        refine sd_ev rfl rfl rfl (ev_call en_105 rfl (level_c _ (by omega) (by omega) _)) ?_
        rintro _ w4 ⟨rfl, Gw4⟩
        have z5 := Gw4.size
        refine sd_vv rfl rfl rfl (vv_sub64 rfl rfl (by omega) (by omega)) ?_
        refine sd_vv rfl rfl rfl (vv_shr rfl rfl (by omega)) ?_
        refine sd_vv rfl rfl rfl (vv_move rfl) ?_
        refine sd_vv rfl rfl rfl (vv_eql rfl rfl) ?_
        refine sd_vv rfl rfl rfl (vv_assign rfl) ?_
        refine sd_done ?_
        refine sw_ret ?_
        have X6 : Gr w w4 := (Gr.trans (Gr.trans (Gr.trans (Gr.trans (Gr.refl w) Gw1) Gw2) Gw3) Gw4)
        refine ⟨_, _, rfl, res_tmp rfl rfl, ?_⟩
        exact ⟨congrArg Value.bool (Eq.symm (by first | (unfold blw; apply decide_eq_false; omega) | exact blw_i (by omega) (by omega) (by omega))), X6⟩

set_option maxHeartbeats 1000000 in
theorem sibling_c (a : Int) (w : World) :
    Calls Try.prog 78 [.int .i64 a].toArray w fun e w' => ∃ v, e = .returned v ∧ (v = .int .i64 (bits .xor .i64 a 1) ∧ Gr w w') := by
  refine calls_of_sw (R := fun v w' => v = .int .i64 (bits .xor .i64 a 1) ∧ Gr w w') 5 Try.func78 rfl rfl rfl ?_
  refine sw_seq ?_
  -- region 0 tree.go:25
  refine sw_region [(0, 0)] rfl rfl rfl ?_
  refine sd_vv rfl rfl rfl (vv_assign rfl) ?_
  refine sd_done ?_
  refine sw_seq ?_
  -- region 1 tree.go:25
  refine sw_region [(0, 0), (1, 0), (2, 0)] rfl rfl rfl ?_
  refine sd_vv rfl rfl rfl (vv_move rfl) ?_
  refine sd_vv rfl rfl rfl (vv_bits (by simp) rfl rfl) ?_
  refine sd_vv rfl rfl rfl (vv_assign rfl) ?_
  refine sd_done ?_
  refine sw_ret ?_
  refine ⟨_, _, rfl, res_tmp rfl rfl, ?_⟩
  exact ⟨rfl, (Gr.refl w)⟩

/-- a tree's value; a scheme's; a subset's -/
abbrev tv (k d st : Int) : Value := .agg [.int .u8 k, .int .i64 d, .int .i64 st].toArray
structure Sch where
  k : Int
  d : Int
  e : Int
  p : BitVec 64
  q : BitVec 64
  g : BitVec 64
abbrev sv (s : Sch) : Value := .agg [.int .u8 s.k, .int .i64 s.d, .int .i64 s.e, wv s.p, wv s.q, wv s.g].toArray
abbrev xv (x : Int × Int) : Value := .agg [.int .i64 x.1, .int .i64 x.2].toArray
def vld (s : Sch) : Bool := decide (1 ≤ s.k ∧ s.k ≤ 3 ∧ 0 ≤ s.d ∧ s.d ≤ 6 ∧ s.e = 0 ∧ un s.p = 0 ∧ un s.q = 0 ∧ un s.g = 0)
/-- the stride of a depth -/
def strd (d : Int) : Int := if d ≤ 1 then 1 else if d ≤ 4 then 2 else 3
def tk (s : Sch) : Int := if vld s then s.k else 0
def td (s : Sch) : Int := if vld s then s.d else 0
def ts (s : Sch) : Int := if vld s then strd s.d else 0
/-- how many receivers there are -/
def sz (d : Int) : Int := 2 ^ d.toNat
theorem small {d : Int} (h0 : 0 ≤ d) (h1 : d ≤ 6) : d = 0 ∨ d = 1 ∨ d = 2 ∨ d = 3 ∨ d = 4 ∨ d = 5 ∨ d = 6 := by omega
theorem sz_bd {d : Int} (h0 : 0 ≤ d) (h1 : d ≤ 6) : 1 ≤ sz d ∧ sz d ≤ 64 := by
  rcases small h0 h1 with rfl | rfl | rfl | rfl | rfl | rfl | rfl <;> decide
theorem shl1 {d : Int} (h0 : 0 ≤ d) (h1 : d ≤ 6) : IntKind.i64.wrap (1 * 2 ^ min d.toNat IntKind.i64.bits) = sz d := by
  rcases small h0 h1 with rfl | rfl | rfl | rfl | rfl | rfl | rfl <;> decide
def hasN (d v : Int) : Bool := decide (1 ≤ v ∧ v < 2 * sz d)

set_option maxHeartbeats 1000000 in
theorem size_c (k d st : Int) (hd0 : 0 ≤ d) (hd6 : d ≤ 6)  (w : World) :
    Calls Try.prog 123 [tv k d st].toArray w fun e w' => ∃ v, e = .returned v ∧ (v = .int .i64 (sz d) ∧ Gr w w') := by
  refine calls_of_sw (R := fun v w' => v = .int .i64 (sz d) ∧ Gr w w') 6 Try.func123 rfl rfl rfl ?_
  refine sw_seq ?_
  -- region 0 tree.go:62
  refine sw_region [(0, 0), (1, 0)] rfl rfl rfl ?_
  refine sd_ev rfl rfl rfl (ev_box rfl (by rfl)) ?_
  rintro _ w1 ⟨b1, rfl, hbw1, Bw1, Gw1⟩
  have z1 := Gw1.size
  have lt2 := Bw1.lt
  refine sd_vv rfl rfl rfl (vv_assign rfl) ?_
  refine sd_done ?_
  refine sw_seq ?_
  -- region 1 tree.go:62
  refine sw_region [(0, 0), (1, 0), (2, 0), (3, 0)] rfl rfl rfl ?_
  refine sd_vv rfl rfl rfl (vv_fieldAddr fa_134_1 rfl) ?_
  refine sd_vv rfl rfl rfl (vv_load1 one_3 rfl Bw1 (by rfl)) ?_
  refine sd_vv rfl rfl rfl (vv_eq (vv_shl rfl rfl (by omega)) (congrArg (Value.int .i64) (shl1 hd0 hd6))) ?_
  refine sd_vv rfl rfl rfl (vv_assign rfl) ?_
  refine sd_done ?_
  refine sw_ret ?_
  have X3 : Gr w w1 := (Gr.trans (Gr.refl w) Gw1)
  refine ⟨_, _, rfl, res_tmp rfl rfl, ?_⟩
  exact ⟨rfl, X3⟩

set_option maxHeartbeats 1000000 in
theorem leaf_c (k d st : Int) (hd0 : 0 ≤ d) (hd6 : d ≤ 6) (u : Int) (hu0 : 0 ≤ u) (hu1 : u ≤ 1000) (w : World) :
    Calls Try.prog 112 [tv k d st, .int .i64 u].toArray w fun e w' => ∃ v, e = .returned v ∧ (v = .int .i64 (sz d + u) ∧ Gr w w') := by
  refine calls_of_sw (R := fun v w' => v = .int .i64 (sz d + u) ∧ Gr w w') 9 Try.func112 rfl rfl rfl ?_
  refine sw_seq ?_
  -- region 0 tree.go:65
  refine sw_region [(0, 0), (1, 0)] rfl rfl rfl ?_
  refine sd_ev rfl rfl rfl (ev_box rfl (by rfl)) ?_
  rintro _ w1 ⟨b1, rfl, hbw1, Bw1, Gw1⟩
  have z1 := Gw1.size
  have lt2 := Bw1.lt
  refine sd_vv rfl rfl rfl (vv_assign rfl) ?_
  refine sd_done ?_
  refine sw_seq ?_
  -- region 1 tree.go:65
  refine sw_region [(0, 0), (1, 0), (2, 0), (3, 0), (4, 0)] rfl rfl rfl ?_
  refine sd_vv rfl rfl rfl (vv_loadW agg_134 rfl Bw1 (by rfl)) ?_
  refine sd_ev rfl rfl rfl (ev_call en_123 rfl (size_c _ _ _ (by omega) (by omega) _)) ?_
  rintro _ w2 ⟨rfl, Gw2⟩
  have z3 := Gw2.size
  have hsz := sz_bd hd0 hd6
  refine sd_vv rfl rfl rfl (vv_move rfl) ?_
  refine sd_vv rfl rfl rfl (vv_add64 rfl rfl (by omega) (by omega)) ?_
  refine sd_vv rfl rfl rfl (vv_assign rfl) ?_
  refine sd_done ?_
  refine sw_ret ?_
  have X4 : Gr w w2 := (Gr.trans (Gr.trans (Gr.refl w) Gw1) Gw2)
  refine ⟨_, _, rfl, res_tmp rfl rfl, ?_⟩
  exact ⟨rfl, X4⟩

set_option maxHeartbeats 1000000 in
theorem has_c (k d st : Int) (hd0 : 0 ≤ d) (hd6 : d ≤ 6) (u : Int) (w : World) :
    Calls Try.prog 125 [tv k d st, .int .i64 u].toArray w fun e w' => ∃ v, e = .returned v ∧ (v = .bool (hasN d u) ∧ Gr w w') := by
  refine calls_of_sw (R := fun v w' => v = .bool (hasN d u) ∧ Gr w w') 14 Try.func125 rfl rfl rfl ?_
  refine sw_seq ?_
  -- region 0 tree.go:68
  refine sw_region [(0, 0), (1, 0)] rfl rfl rfl ?_
  refine sd_ev rfl rfl rfl (ev_box rfl (by rfl)) ?_
  rintro _ w1 ⟨b1, rfl, hbw1, Bw1, Gw1⟩
  have z1 := Gw1.size
  have lt2 := Bw1.lt
  refine sd_vv rfl rfl rfl (vv_assign rfl) ?_
  refine sd_done ?_
  refine sw_seq ?_
  -- region 1 tree.go:68
  refine sw_region [(0, 0), (1, 0), (2, 0), (3, 0), (4, 0), (5, 0), (6, 0), (7, 0), (8, 0), (9, 0)] rfl rfl rfl ?_
  refine sd_vv rfl rfl rfl (vv_move rfl) ?_
  refine sd_vv rfl rfl rfl (vv_geq rfl rfl) ?_
  refine sd_split rfl rfl rfl (vv_move rfl) (fun h1 => ?_) (fun h1 => ?_)
  · -- h1 True
    replace h1 := of_decide_eq_true h1
    refine sd_vv rfl rfl rfl (vv_move rfl) ?_
    refine sd_vv rfl rfl rfl (vv_loadW agg_134 rfl Bw1 (by rfl)) ?_
    refine sd_ev rfl rfl rfl (ev_call en_123 rfl (size_c _ _ _ (by omega) (by omega) _)) ?_
    rintro _ w2 ⟨rfl, Gw2⟩
    have z3 := Gw2.size
    have hsz := sz_bd hd0 hd6
    refine sd_vv rfl rfl rfl (vv_mul64 rfl rfl (by omega) (by omega)) ?_
    refine sd_vv rfl rfl rfl (vv_lss rfl rfl) ?_
    refine sd_vv rfl rfl rfl (vv_pickT rfl rfl) ?_
    refine sd_vv rfl rfl rfl (vv_assign rfl) ?_
    refine sd_done ?_
    refine sw_ret ?_
    have X4 : Gr w w2 := (Gr.trans (Gr.trans (Gr.refl w) Gw1) Gw2)
    refine ⟨_, _, rfl, res_tmp rfl rfl, ?_⟩
    exact ⟨congrArg Value.bool (Eq.symm (by first | (unfold hasN; apply decide_eq_false; omega) | (unfold hasN; congr 1; exact propext ⟨fun h => h.2, fun h => ⟨by omega, h⟩⟩))), X4⟩
  · -- h1 False
    replace h1 := of_decide_eq_false h1
    refine sd_skip rfl rfl rfl ?_
    refine sd_skip rfl rfl rfl ?_
    refine sd_skip rfl rfl rfl ?_
    refine sd_skip rfl rfl rfl ?_
    refine sd_skip rfl rfl rfl ?_
    refine sd_vv rfl rfl rfl (vv_pickF rfl rfl) ?_
    refine sd_vv rfl rfl rfl (vv_assign rfl) ?_
    refine sd_done ?_
    refine sw_ret ?_
    have X5 : Gr w w1 := (Gr.trans (Gr.refl w) Gw1)
    refine ⟨_, _, rfl, res_tmp rfl rfl, ?_⟩
    exact ⟨congrArg Value.bool (Eq.symm (by first | (unfold hasN; apply decide_eq_false; omega) | (unfold hasN; congr 1; exact propext ⟨fun h => h.2, fun h => ⟨by omega, h⟩⟩))), X5⟩

set_option maxHeartbeats 1000000 in
theorem receiver_c (k d st : Int) (hd0 : 0 ≤ d) (hd6 : d ≤ 6) (u : Int) (w : World) :
    Calls Try.prog 92 [tv k d st, .int .i64 u].toArray w fun e w' => ∃ v, e = .returned v ∧ (v = .bool (decide (0 ≤ u ∧ u < sz d)) ∧ Gr w w') := by
  refine calls_of_sw (R := fun v w' => v = .bool (decide (0 ≤ u ∧ u < sz d)) ∧ Gr w w') 13 Try.func92 rfl rfl rfl ?_
  refine sw_seq ?_
  -- region 0 tree.go:71
  refine sw_region [(0, 0), (1, 0)] rfl rfl rfl ?_
  refine sd_ev rfl rfl rfl (ev_box rfl (by rfl)) ?_
  rintro _ w1 ⟨b1, rfl, hbw1, Bw1, Gw1⟩
  have z1 := Gw1.size
  have lt2 := Bw1.lt
  refine sd_vv rfl rfl rfl (vv_assign rfl) ?_
  refine sd_done ?_
  refine sw_seq ?_
  -- region 1 tree.go:71
  refine sw_region [(0, 0), (1, 0), (2, 0), (3, 0), (4, 0), (5, 0), (6, 0), (7, 0), (8, 0)] rfl rfl rfl ?_
  refine sd_vv rfl rfl rfl (vv_move rfl) ?_
  refine sd_vv rfl rfl rfl (vv_geq rfl rfl) ?_
  refine sd_split rfl rfl rfl (vv_move rfl) (fun h1 => ?_) (fun h1 => ?_)
  · -- h1 True
    replace h1 := of_decide_eq_true h1
    refine sd_vv rfl rfl rfl (vv_move rfl) ?_
    refine sd_vv rfl rfl rfl (vv_loadW agg_134 rfl Bw1 (by rfl)) ?_
    refine sd_ev rfl rfl rfl (ev_call en_123 rfl (size_c _ _ _ (by omega) (by omega) _)) ?_
    rintro _ w2 ⟨rfl, Gw2⟩
    have z3 := Gw2.size
    refine sd_vv rfl rfl rfl (vv_lss rfl rfl) ?_
    refine sd_vv rfl rfl rfl (vv_pickT rfl rfl) ?_
    refine sd_vv rfl rfl rfl (vv_assign rfl) ?_
    refine sd_done ?_
    refine sw_ret ?_
    have X4 : Gr w w2 := (Gr.trans (Gr.trans (Gr.refl w) Gw1) Gw2)
    refine ⟨_, _, rfl, res_tmp rfl rfl, ?_⟩
    exact ⟨congrArg Value.bool (Eq.symm (by first | (apply decide_eq_false; omega) | (congr 1; exact propext ⟨fun h => h.2, fun h => ⟨by omega, h⟩⟩))), X4⟩
  · -- h1 False
    replace h1 := of_decide_eq_false h1
    refine sd_skip rfl rfl rfl ?_
    refine sd_skip rfl rfl rfl ?_
    refine sd_skip rfl rfl rfl ?_
    refine sd_skip rfl rfl rfl ?_
    refine sd_vv rfl rfl rfl (vv_pickF rfl rfl) ?_
    refine sd_vv rfl rfl rfl (vv_assign rfl) ?_
    refine sd_done ?_
    refine sw_ret ?_
    have X5 : Gr w w1 := (Gr.trans (Gr.refl w) Gw1)
    refine ⟨_, _, rfl, res_tmp rfl rfl, ?_⟩
    exact ⟨congrArg Value.bool (Eq.symm (by first | (apply decide_eq_false; omega) | (congr 1; exact propext ⟨fun h => h.2, fun h => ⟨by omega, h⟩⟩))), X5⟩

set_option maxHeartbeats 1000000 in
theorem special_c (k d st : Int) (hs1 : 1 ≤ st) (a : Int) (ha1 : 1 ≤ a) (ha2 : a < 9223372036854775808) (w : World) :
    Calls Try.prog 114 [tv k d st, .int .i64 a].toArray w fun e w' => ∃ v, e = .returned v ∧ (v = .bool (decide (lvl a % st = 0)) ∧ Gr w w') := by
  refine calls_of_sw (R := fun v w' => v = .bool (decide (lvl a % st = 0)) ∧ Gr w w') 11 Try.func114 rfl rfl rfl ?_
  refine sw_seq ?_
  -- region 0 tree.go:84
  refine sw_region [(0, 0), (1, 0)] rfl rfl rfl ?_
  refine sd_ev rfl rfl rfl (ev_box rfl (by rfl)) ?_
  rintro _ w1 ⟨b1, rfl, hbw1, Bw1, Gw1⟩
  have z1 := Gw1.size
  have lt2 := Bw1.lt
  refine sd_vv rfl rfl rfl (vv_assign rfl) ?_
  refine sd_done ?_
  refine sw_seq ?_
  -- region 1 tree.go:84 DRAWS
  refine sw_draw [] [(0, 3), (2, 3), (3, 3), (1, 0), (4, 3), (5, 3), (6, 3)] (by kernel_rfl) (by kernel_rfl) rfl (by kernel_rfl) ?_
  intro w2 Gw2 zw2
  refine dd_h3 rfl rfl rfl (Kp.refl [] w2) (fun w hS => vv_move rfl) ?_
  refine dd_h3 rfl rfl rfl (Kp.refl [] w2) (fun w hS => vv_fieldAddr fa_134_2 rfl) ?_
  have B3 := (Bx.gr Bw1 Gw2)
  refine dd_h3 rfl rfl rfl (Kp.refl [] w2) (fun w hS => vv_load1 one_3 rfl (Bx.kp B3 hS (by simp <;> omega)) (by rfl)) ?_
  refine dd_ev rfl rfl rfl (ev_call en_105 rfl (level_c _ (by omega) (by omega) _)) ?_
  rintro _ w3 ⟨rfl, Gw3⟩
  have z4 := Gw3.size
  refine ⟨Gw3, ?_⟩
  have S5 := (Kp.gr (Kp.refl [] w2) Gw3)
  refine dd_h3 rfl rfl rfl S5 (fun w hS => vv_rem rfl rfl (lvl_nn ha1) (by omega)) ?_
  refine dd_h3 rfl rfl rfl S5 (fun w hS => vv_eql rfl rfl) ?_
  refine dd_h3 rfl rfl rfl S5 (fun w hS => vv_assign rfl) ?_
  refine sd_done ?_
  refine sw_ret ?_
  have X6 : Gr w w3 := (Gr.trans (Gr.trans (Gr.trans (Gr.refl w) Gw1) Gw2) Gw3)
  refine ⟨_, _, rfl, res_tmp rfl rfl, ?_⟩
  exact ⟨rfl, X6⟩

set_option maxHeartbeats 1000000 in
theorem member_c (k d st : Int) (hd0 : 0 ≤ d) (hd6 : d ≤ 6) (x : Int × Int) (hx1 : x.1 ≤ 9223372036854775807) (hx2 : x.2 ≤ 9223372036854775807) (u : Int) (hu0 : 0 ≤ u) (hu1 : u ≤ 1000) (w : World) :
    Calls Try.prog 124 [tv k d st, xv x, .int .i64 u].toArray w fun e w' => ∃ v, e = .returned v ∧ (v = .bool (blw (sz d + u) x.1 && !blw (sz d + u) x.2) ∧ Gr w w') := by
  refine calls_of_sw (R := fun v w' => v = .bool (blw (sz d + u) x.1 && !blw (sz d + u) x.2) ∧ Gr w w') 22 Try.func124 rfl rfl rfl ?_
  refine sw_seq ?_
  -- region 0 tree.go:114
  refine sw_region [(0, 0), (1, 0), (2, 0)] rfl rfl rfl ?_
  refine sd_ev rfl rfl rfl (ev_box rfl (by rfl)) ?_
  rintro _ w1 ⟨b1, rfl, hbw1, Bw1, Gw1⟩
  have z1 := Gw1.size
  have lt2 := Bw1.lt
  refine sd_ev rfl rfl rfl (ev_box rfl (by rfl)) ?_
  rintro _ w2 ⟨b2, rfl, hbw2, Bw2, Gw2⟩
  have z3 := Gw2.size
  have lt4 := Bw2.lt
  refine sd_vv rfl rfl rfl (vv_assign rfl) ?_
  refine sd_done ?_
  refine sw_seq ?_
  -- region 1 tree.go:115
  refine sw_region [(0, 0), (1, 0), (2, 0), (3, 0)] rfl rfl rfl ?_
  have B5 := (Bx.gr Bw1 Gw2)
  refine sd_vv rfl rfl rfl (vv_loadW agg_134 rfl B5 (by rfl)) ?_
  refine sd_vv rfl rfl rfl (vv_move rfl) ?_
  refine sd_ev rfl rfl rfl (ev_call en_112 rfl (leaf_c _ _ _ (by omega) (by omega) _ (by omega) (by omega) _)) ?_
  rintro _ w3 ⟨rfl, Gw3⟩
  have z6 := Gw3.size
  have hsz := sz_bd hd0 hd6
  refine sd_vv rfl rfl rfl (vv_assign rfl) ?_
  refine sd_done ?_
  refine sw_seq ?_
  -- region 2 tree.go:116
  refine sw_region [(0, 0), (1, 0), (2, 0), (3, 0), (4, 0), (5, 0), (6, 0), (7, 0), (8, 0), (9, 0), (10, 0), (11, 0)] rfl rfl rfl ?_
  refine sd_vv rfl rfl rfl (vv_move rfl) ?_
  refine sd_vv rfl rfl rfl (vv_fieldAddr fa_47_0 rfl) ?_
  have B7 := (Bx.gr Bw2 Gw3)
  refine sd_vv rfl rfl rfl (vv_load1 one_3 rfl B7 (by rfl)) ?_
  refine sd_ev rfl rfl rfl (ev_call en_126 rfl (below_c _ _ (by omega) (by omega) _)) ?_
  rintro _ w4 ⟨rfl, Gw4⟩
  have z8 := Gw4.size
  refine sd_split rfl rfl rfl (vv_move rfl) (fun h1 => ?_) (fun h1 => ?_)
  · -- h1 True
    refine sd_vv rfl rfl rfl (vv_move rfl) ?_
    refine sd_vv rfl rfl rfl (vv_fieldAddr fa_47_1 rfl) ?_
    have B9 := (Bx.gr B7 Gw4)
    refine sd_vv rfl rfl rfl (vv_load1 one_3 rfl B9 (by rfl)) ?_
    refine sd_ev rfl rfl rfl (ev_call en_126 rfl (below_c _ _ (by omega) (by omega) _)) ?_
    rintro _ w5 ⟨rfl, Gw5⟩
    have z10 := Gw5.size
    refine sd_vv rfl rfl rfl (vv_not rfl) ?_
    refine sd_vv rfl rfl rfl (vv_pickT rfl rfl) ?_
    refine sd_vv rfl rfl rfl (vv_assign rfl) ?_
    refine sd_done ?_
    refine sw_ret ?_
    have X11 : Gr w w5 := (Gr.trans (Gr.trans (Gr.trans (Gr.trans (Gr.trans (Gr.refl w) Gw1) Gw2) Gw3) Gw4) Gw5)
    refine ⟨_, _, rfl, res_tmp rfl rfl, ?_⟩
    exact ⟨by simp [*], X11⟩
  · -- h1 False
    refine sd_skip rfl rfl rfl ?_
    refine sd_skip rfl rfl rfl ?_
    refine sd_skip rfl rfl rfl ?_
    refine sd_skip rfl rfl rfl ?_
    refine sd_skip rfl rfl rfl ?_
    refine sd_vv rfl rfl rfl (vv_pickF rfl rfl) ?_
    refine sd_vv rfl rfl rfl (vv_assign rfl) ?_
    refine sd_done ?_
    refine sw_ret ?_
    have X12 : Gr w w4 := (Gr.trans (Gr.trans (Gr.trans (Gr.trans (Gr.refl w) Gw1) Gw2) Gw3) Gw4)
    refine ⟨_, _, rfl, res_tmp rfl rfl, ?_⟩
    exact ⟨by simp [*], X12⟩

theorem vld_f1 {s : Sch} (h : s.k < 1 ∨ 3 < s.k ∨ s.d < 0 ∨ 6 < s.d) : vld s = false := by unfold vld; apply decide_eq_false; omega
theorem vld_f2 {s : Sch} (h : ¬ ([.int .u8 s.k, .int .i64 s.d, .int .i64 s.e, wv s.p, wv s.q, wv s.g] : List Value) = [.int .u8 s.k, .int .i64 s.d, .int .i64 0, .int .u64 0, .int .u64 0, .int .u64 0]) : vld s = false := by
  unfold vld; apply decide_eq_false
  intro hh
  exact h (by simp [hh.2.2.2.2])
theorem vld_t {s : Sch} (h1 : 1 ≤ s.k) (h2 : s.k ≤ 3) (h3 : 0 ≤ s.d) (h4 : s.d ≤ 6) (h : ([.int .u8 s.k, .int .i64 s.d, .int .i64 s.e, wv s.p, wv s.q, wv s.g] : List Value) = [.int .u8 s.k, .int .i64 s.d, .int .i64 0, .int .u64 0, .int .u64 0, .int .u64 0]) : vld s = true := by
  simp at h
  unfold vld; apply decide_eq_true
  exact ⟨h1, h2, h3, h4, h⟩
theorem tree_no {s : Sch} (h : vld s = false) : tk s = 0 ∧ td s = 0 ∧ ts s = 0 := by simp [tk, td, ts, h]
theorem hr9 (r : Int) {d : Int} (h : d ≤ 6) (h1 : 1 ≤ r) (h2 : r ≤ 3) (h3 : r * r < d) : r + 1 ≤ 3 := by rcases (by omega : r = 1 ∨ r = 2 ∨ r = 3) with rfl | rfl | rfl <;> omega
theorem strd_of {d r : Int} (h0 : 0 ≤ d) (h1 : d ≤ 6) (h2 : 1 ≤ r) (h3 : r ≤ 3) (h4 : r = 1 ∨ (r - 1) * (r - 1) < d) (h5 : ¬ r * r < d) : r = strd d := by
  unfold strd
  rcases (by omega : r = 1 ∨ r = 2 ∨ r = 3) with rfl | rfl | rfl <;> simp at h4 h5 <;> (repeat' split) <;> omega

set_option maxHeartbeats 1000000 in
theorem treeOf_c (s : Sch) (w : World) :
    Calls Try.prog 84 [sv s].toArray w fun e w' => ∃ v, e = .returned v ∧ (v = .tuple [tv (tk s) (td s) (ts s), .bool (vld s)].toArray ∧ Gr w w') := by
  refine calls_of_sw (R := fun v w' => v = .tuple [tv (tk s) (td s) (ts s), .bool (vld s)].toArray ∧ Gr w w') 51 Try.func84 rfl rfl rfl ?_
  refine sw_seq ?_
  -- region 0 tree.go:50
  refine sw_region [(0, 0), (1, 0), (2, 0)] rfl rfl rfl ?_
  refine sd_ev rfl rfl rfl (ev_box rfl (by rfl)) ?_
  rintro _ w1 ⟨b1, rfl, hbw1, Bw1, Gw1⟩
  have z1 := Gw1.size
  have lt2 := Bw1.lt
  refine sd_ev rfl rfl rfl (ev_alloc zv_134 (by rfl)) ?_
  rintro _ w2 ⟨b2, rfl, hbw2, Bw2, Gw2⟩
  have z3 := Gw2.size
  have lt4 := Bw2.lt
  refine sd_vv rfl rfl rfl (vv_assign rfl) ?_
  refine sd_done ?_
  refine sw_seq ?_
  refine sw_seq ?_
  -- region 1 tree.go:51
  refine sw_region [(0, 0), (1, 0), (2, 0), (3, 0), (4, 0), (5, 0), (6, 0), (7, 0), (8, 0), (9, 0), (10, 0), (11, 0), (12, 0), (13, 0), (14, 0), (15, 0), (16, 0), (17, 0), (18, 0), (19, 0), (20, 0), (21, 0), (22, 0), (23, 0), (24, 0), (25, 0), (26, 0)] rfl rfl rfl ?_
  refine sd_vv rfl rfl rfl (vv_fieldAddr fa_45_0 rfl) ?_
  have B5 := (Bx.gr Bw1 Gw2)
  refine sd_vv rfl rfl rfl (vv_load1 one_5 rfl B5 (by rfl)) ?_
  refine sd_vv rfl rfl rfl (vv_lss rfl rfl) ?_
  refine sd_split rfl rfl rfl (vv_move rfl) (fun h1 => ?_) (fun h1 => ?_)
  · -- h1 True
    replace h1 := of_decide_eq_true h1
    refine sd_skip rfl rfl rfl ?_
    refine sd_skip rfl rfl rfl ?_
    refine sd_skip rfl rfl rfl ?_
    refine sd_vv rfl rfl rfl (vv_pickT rfl rfl) ?_
    refine sd_vv rfl rfl rfl (vv_move rfl) ?_
    refine sd_skip rfl rfl rfl ?_
    refine sd_skip rfl rfl rfl ?_
    refine sd_skip rfl rfl rfl ?_
    refine sd_vv rfl rfl rfl (vv_pickT rfl rfl) ?_
    refine sd_vv rfl rfl rfl (vv_move rfl) ?_
    refine sd_skip rfl rfl rfl ?_
    refine sd_skip rfl rfl rfl ?_
    refine sd_skip rfl rfl rfl ?_
    refine sd_vv rfl rfl rfl (vv_pickT rfl rfl) ?_
    refine sd_vv rfl rfl rfl (vv_move rfl) ?_
    refine sd_skip rfl rfl rfl ?_
    refine sd_skip rfl rfl rfl ?_
    refine sd_skip rfl rfl rfl ?_
    refine sd_skip rfl rfl rfl ?_
    refine sd_skip rfl rfl rfl ?_
    refine sd_skip rfl rfl rfl ?_
    refine sd_skip rfl rfl rfl ?_
    refine sd_vv rfl rfl rfl (vv_pickT rfl rfl) ?_
    refine sd_done ?_
    refine sw_condT rfl ?_
    refine sw_seq ?_
    -- region 2 tree.go:52
    refine sw_region [(0, 0), (1, 0), (2, 0)] rfl rfl rfl ?_
    refine sd_vv rfl rfl rfl (vv_build bs_134 rfl rfl) ?_
    refine sd_ev rfl rfl rfl (ev_storeW (agg_134).siz rfl rfl (by rfl) (by rfl) (by rfl) Bw2 (by rfl)) ?_
    rintro _ w3 ⟨Bw3, Mw3⟩
    have z6 := Mw3.size
    refine sd_vv rfl rfl rfl (vv_assign rfl) ?_
    refine sd_done ?_
    refine sw_ret ?_
    refine then_r ?_
    have X7 : Gr w w3 := (Gr.md (Gr.trans (Gr.trans (Gr.refl w) Gw1) Gw2) Mw3 (by omega))
    refine ⟨_, _, rfl, res_2 rfl (rv_cellW agg_134 rfl Bw3 (by rfl)) (rv_tmp rfl), ?_⟩
    first
    | (obtain ⟨e1, e2, e3⟩ := tree_no (s := s) (by first | exact vld_f1 (by omega) | exact vld_f2 ‹_›); exact ⟨by rw [e1, e2, e3, (by first | exact vld_f1 (by omega) | exact vld_f2 ‹_› : vld s = false)], X7⟩)
    | (have hv : vld s = true := vld_t (by omega) (by omega) (by omega) (by omega) ‹_›; have hr := strd_of (d := s.d) (by omega) (by omega) hr1 hr2 hr3 ‹_›; exact ⟨by simp [tk, td, ts, hv, ← hr], X7⟩)
  · -- h1 False
    replace h1 := of_decide_eq_false h1
    refine sd_vv rfl rfl rfl (vv_fieldAddr fa_45_0 rfl) ?_
    refine sd_vv rfl rfl rfl (vv_load1 one_5 rfl B5 (by rfl)) ?_
    refine sd_vv rfl rfl rfl (vv_gtr rfl rfl) ?_
    refine sd_vv rfl rfl rfl (vv_pickF rfl rfl) ?_
    refine sd_split rfl rfl rfl (vv_move rfl) (fun h2 => ?_) (fun h2 => ?_)
    · -- h2 True
      replace h2 := of_decide_eq_true h2
      refine sd_skip rfl rfl rfl ?_
      refine sd_skip rfl rfl rfl ?_
      refine sd_skip rfl rfl rfl ?_
      refine sd_vv rfl rfl rfl (vv_pickT rfl rfl) ?_
      refine sd_vv rfl rfl rfl (vv_move rfl) ?_
      refine sd_skip rfl rfl rfl ?_
      refine sd_skip rfl rfl rfl ?_
      refine sd_skip rfl rfl rfl ?_
      refine sd_vv rfl rfl rfl (vv_pickT rfl rfl) ?_
      refine sd_vv rfl rfl rfl (vv_move rfl) ?_
      refine sd_skip rfl rfl rfl ?_
      refine sd_skip rfl rfl rfl ?_
      refine sd_skip rfl rfl rfl ?_
      refine sd_skip rfl rfl rfl ?_
      refine sd_skip rfl rfl rfl ?_
      refine sd_skip rfl rfl rfl ?_
      refine sd_skip rfl rfl rfl ?_
      refine sd_vv rfl rfl rfl (vv_pickT rfl rfl) ?_
      refine sd_done ?_
      refine sw_condT rfl ?_
      refine sw_seq ?_
      -- region 2 tree.go:52
      refine sw_region [(0, 0), (1, 0), (2, 0)] rfl rfl rfl ?_
      refine sd_vv rfl rfl rfl (vv_build bs_134 rfl rfl) ?_
      refine sd_ev rfl rfl rfl (ev_storeW (agg_134).siz rfl rfl (by rfl) (by rfl) (by rfl) Bw2 (by rfl)) ?_
      rintro _ w4 ⟨Bw4, Mw4⟩
      have z8 := Mw4.size
      refine sd_vv rfl rfl rfl (vv_assign rfl) ?_
      refine sd_done ?_
      refine sw_ret ?_
      refine then_r ?_
      have X9 : Gr w w4 := (Gr.md (Gr.trans (Gr.trans (Gr.refl w) Gw1) Gw2) Mw4 (by omega))
      refine ⟨_, _, rfl, res_2 rfl (rv_cellW agg_134 rfl Bw4 (by rfl)) (rv_tmp rfl), ?_⟩
      first
      | (obtain ⟨e1, e2, e3⟩ := tree_no (s := s) (by first | exact vld_f1 (by omega) | exact vld_f2 ‹_›); exact ⟨by rw [e1, e2, e3, (by first | exact vld_f1 (by omega) | exact vld_f2 ‹_› : vld s = false)], X9⟩)
      | (have hv : vld s = true := vld_t (by omega) (by omega) (by omega) (by omega) ‹_›; have hr := strd_of (d := s.d) (by omega) (by omega) hr1 hr2 hr3 ‹_›; exact ⟨by simp [tk, td, ts, hv, ← hr], X9⟩)
    · -- h2 False
      replace h2 := of_decide_eq_false h2
      refine sd_vv rfl rfl rfl (vv_fieldAddr fa_45_1 rfl) ?_
      refine sd_vv rfl rfl rfl (vv_load1 one_3 rfl B5 (by rfl)) ?_
      refine sd_vv rfl rfl rfl (vv_lss rfl rfl) ?_
      refine sd_vv rfl rfl rfl (vv_pickF rfl rfl) ?_
      refine sd_split rfl rfl rfl (vv_move rfl) (fun h3 => ?_) (fun h3 => ?_)
      · -- h3 True
        replace h3 := of_decide_eq_true h3
        refine sd_skip rfl rfl rfl ?_
        refine sd_skip rfl rfl rfl ?_
        refine sd_skip rfl rfl rfl ?_
        refine sd_vv rfl rfl rfl (vv_pickT rfl rfl) ?_
        refine sd_vv rfl rfl rfl (vv_move rfl) ?_
        refine sd_skip rfl rfl rfl ?_
        refine sd_skip rfl rfl rfl ?_
        refine sd_skip rfl rfl rfl ?_
        refine sd_skip rfl rfl rfl ?_
        refine sd_skip rfl rfl rfl ?_
        refine sd_skip rfl rfl rfl ?_
        refine sd_skip rfl rfl rfl ?_
        refine sd_vv rfl rfl rfl (vv_pickT rfl rfl) ?_
        refine sd_done ?_
        refine sw_condT rfl ?_
        refine sw_seq ?_
        -- region 2 tree.go:52
        refine sw_region [(0, 0), (1, 0), (2, 0)] rfl rfl rfl ?_
        refine sd_vv rfl rfl rfl (vv_build bs_134 rfl rfl) ?_
        refine sd_ev rfl rfl rfl (ev_storeW (agg_134).siz rfl rfl (by rfl) (by rfl) (by rfl) Bw2 (by rfl)) ?_
        rintro _ w5 ⟨Bw5, Mw5⟩
        have z10 := Mw5.size
        refine sd_vv rfl rfl rfl (vv_assign rfl) ?_
        refine sd_done ?_
        refine sw_ret ?_
        refine then_r ?_
        have X11 : Gr w w5 := (Gr.md (Gr.trans (Gr.trans (Gr.refl w) Gw1) Gw2) Mw5 (by omega))
        refine ⟨_, _, rfl, res_2 rfl (rv_cellW agg_134 rfl Bw5 (by rfl)) (rv_tmp rfl), ?_⟩
        first
        | (obtain ⟨e1, e2, e3⟩ := tree_no (s := s) (by first | exact vld_f1 (by omega) | exact vld_f2 ‹_›); exact ⟨by rw [e1, e2, e3, (by first | exact vld_f1 (by omega) | exact vld_f2 ‹_› : vld s = false)], X11⟩)
        | (have hv : vld s = true := vld_t (by omega) (by omega) (by omega) (by omega) ‹_›; have hr := strd_of (d := s.d) (by omega) (by omega) hr1 hr2 hr3 ‹_›; exact ⟨by simp [tk, td, ts, hv, ← hr], X11⟩)
      · -- h3 False
        replace h3 := of_decide_eq_false h3
        refine sd_vv rfl rfl rfl (vv_fieldAddr fa_45_1 rfl) ?_
        refine sd_vv rfl rfl rfl (vv_load1 one_3 rfl B5 (by rfl)) ?_
        refine sd_vv rfl rfl rfl (vv_gtr rfl rfl) ?_
        refine sd_vv rfl rfl rfl (vv_pickF rfl rfl) ?_
        refine sd_split rfl rfl rfl (vv_move rfl) (fun h4 => ?_) (fun h4 => ?_)
        · -- h4 True
          replace h4 := of_decide_eq_true h4
          refine sd_skip rfl rfl rfl ?_
          refine sd_skip rfl rfl rfl ?_
          refine sd_skip rfl rfl rfl ?_
          refine sd_skip rfl rfl rfl ?_
          refine sd_skip rfl rfl rfl ?_
          refine sd_skip rfl rfl rfl ?_
          refine sd_skip rfl rfl rfl ?_
          refine sd_vv rfl rfl rfl (vv_pickT rfl rfl) ?_
          refine sd_done ?_
          refine sw_condT rfl ?_
          refine sw_seq ?_
          -- region 2 tree.go:52
          refine sw_region [(0, 0), (1, 0), (2, 0)] rfl rfl rfl ?_
          refine sd_vv rfl rfl rfl (vv_build bs_134 rfl rfl) ?_
          refine sd_ev rfl rfl rfl (ev_storeW (agg_134).siz rfl rfl (by rfl) (by rfl) (by rfl) Bw2 (by rfl)) ?_
          rintro _ w6 ⟨Bw6, Mw6⟩
          have z12 := Mw6.size
          refine sd_vv rfl rfl rfl (vv_assign rfl) ?_
          refine sd_done ?_
          refine sw_ret ?_
          refine then_r ?_
          have X13 : Gr w w6 := (Gr.md (Gr.trans (Gr.trans (Gr.refl w) Gw1) Gw2) Mw6 (by omega))
          refine ⟨_, _, rfl, res_2 rfl (rv_cellW agg_134 rfl Bw6 (by rfl)) (rv_tmp rfl), ?_⟩
          first
          | (obtain ⟨e1, e2, e3⟩ := tree_no (s := s) (by first | exact vld_f1 (by omega) | exact vld_f2 ‹_›); exact ⟨by rw [e1, e2, e3, (by first | exact vld_f1 (by omega) | exact vld_f2 ‹_› : vld s = false)], X13⟩)
          | (have hv : vld s = true := vld_t (by omega) (by omega) (by omega) (by omega) ‹_›; have hr := strd_of (d := s.d) (by omega) (by omega) hr1 hr2 hr3 ‹_›; exact ⟨by simp [tk, td, ts, hv, ← hr], X13⟩)
        · -- h4 False
          replace h4 := of_decide_eq_false h4
          refine sd_vv rfl rfl rfl (vv_loadW agg_45 rfl B5 (by rfl)) ?_
          refine sd_vv rfl rfl rfl (vv_fieldAddr fa_45_0 rfl) ?_
          refine sd_vv rfl rfl rfl (vv_load1 one_5 rfl B5 (by rfl)) ?_
          refine sd_vv rfl rfl rfl (vv_fieldAddr fa_45_1 rfl) ?_
          refine sd_vv rfl rfl rfl (vv_load1 one_3 rfl B5 (by rfl)) ?_
          refine sd_vv rfl rfl rfl (vv_build bs_45 rfl rfl) ?_
          refine sd_vv rfl rfl rfl (vv_neqA eqt_45 rfl rfl rfl rfl) ?_
          refine sd_vv rfl rfl rfl (vv_pickF rfl rfl) ?_
          refine sd_done ?_
          refine sw_cond rfl (fun h5 => ?_) (fun h5 => ?_)
          · -- h5 True
            replace h5 := not_bt h5
            replace h5 := dcd_f h5
            refine sw_seq ?_
            -- region 2 tree.go:52
            refine sw_region [(0, 0), (1, 0), (2, 0)] rfl rfl rfl ?_
            refine sd_vv rfl rfl rfl (vv_build bs_134 rfl rfl) ?_
            refine sd_ev rfl rfl rfl (ev_storeW (agg_134).siz rfl rfl (by rfl) (by rfl) (by rfl) Bw2 (by rfl)) ?_
            rintro _ w7 ⟨Bw7, Mw7⟩
            have z14 := Mw7.size
            refine sd_vv rfl rfl rfl (vv_assign rfl) ?_
            refine sd_done ?_
            refine sw_ret ?_
            refine then_r ?_
            have X15 : Gr w w7 := (Gr.md (Gr.trans (Gr.trans (Gr.refl w) Gw1) Gw2) Mw7 (by omega))
            refine ⟨_, _, rfl, res_2 rfl (rv_cellW agg_134 rfl Bw7 (by rfl)) (rv_tmp rfl), ?_⟩
            first
            | (obtain ⟨e1, e2, e3⟩ := tree_no (s := s) (by first | exact vld_f1 (by omega) | exact vld_f2 ‹_›); exact ⟨by rw [e1, e2, e3, (by first | exact vld_f1 (by omega) | exact vld_f2 ‹_› : vld s = false)], X15⟩)
            | (have hv : vld s = true := vld_t (by omega) (by omega) (by omega) (by omega) ‹_›; have hr := strd_of (d := s.d) (by omega) (by omega) hr1 hr2 hr3 ‹_›; exact ⟨by simp [tk, td, ts, hv, ← hr], X15⟩)
          · -- h5 False
            replace h5 := not_bf h5
            replace h5 := dcd_t h5
            refine sw_skip ?_
            refine then_n ?_
            refine sw_seq ?_
            -- region 3 tree.go:54
            refine sw_region [(0, 0), (1, 0), (2, 0), (3, 0), (4, 0), (5, 0), (6, 0)] rfl rfl rfl ?_
            refine sd_vv rfl rfl rfl (vv_fieldAddr fa_45_0 rfl) ?_
            refine sd_vv rfl rfl rfl (vv_load1 one_5 rfl B5 (by rfl)) ?_
            refine sd_vv rfl rfl rfl (vv_fieldAddr fa_45_1 rfl) ?_
            refine sd_vv rfl rfl rfl (vv_load1 one_3 rfl B5 (by rfl)) ?_
            refine sd_vv rfl rfl rfl (vv_build bs_134 rfl rfl) ?_
            refine sd_ev rfl rfl rfl (ev_alloc zv_134 (by rfl)) ?_
            rintro _ w8 ⟨b8, rfl, hbw8, Bw8, Gw8⟩
            have z16 := Gw8.size
            have lt17 := Bw8.lt
            refine sd_ev rfl rfl rfl (ev_storeW (agg_134).siz rfl rfl (by rfl) (by rfl) (by rfl) Bw8 (by rfl)) ?_
            rintro _ w9 ⟨Bw9, Mw9⟩
            have z18 := Mw9.size
            refine sd_done ?_
            refine sw_seq ?_
            refine sw_block ?_
            have X19 : Gr w w9 := (Gr.md (Gr.trans (Gr.trans (Gr.trans (Gr.refl w) Gw1) Gw2) Gw8) Mw9 (by omega))
            refine sw_loopD (α := Int) [38, 39, 40, 41, 42, 43, 44, 45, 46, 47, 48, 49] (fun r => []) (fun r wr => (1 ≤ r ∧ r ≤ 3 ∧ (r = 1 ∨ (r - 1) * (r - 1) < s.d)) ∧ Bx wr b8 134 ([.int .u8 s.k, .int .i64 s.d, .int .i64 r]) ∧ Kp [b8] w9 wr) (fun r => (6 - r).toNat) (1) ?_ ?_ ?_
            · repeat' first | exact trivial | refine ⟨rfl, ?_⟩
            · exact ⟨⟨by omega, by omega, .inl rfl⟩, Bw9, Kp.refl _ _⟩
            rintro r w10 ⟨⟨hr1, hr2, hr3⟩, Bw10_b8, Kw10⟩
            have z20 := Kw10.size
            have hrr : 1 ≤ r * r ∧ r * r ≤ 9 := by rcases (by omega : r = 1 ∨ r = 2 ∨ r = 3) with rfl | rfl | rfl <;> decide
            refine sw_seq ?_
            refine sw_seq ?_
            -- region 4 tree.go:55
            refine sw_region [(0, 0), (1, 0), (2, 0), (3, 0), (4, 0), (5, 0), (6, 0), (7, 0)] rfl rfl rfl ?_
            refine sd_vv rfl rfl rfl (vv_fieldAddr fa_134_2 rfl) ?_
            refine sd_vv rfl rfl rfl (vv_load1 one_3 rfl Bw10_b8 (by rfl)) ?_
            refine sd_vv rfl rfl rfl (vv_fieldAddr fa_134_2 rfl) ?_
            refine sd_vv rfl rfl rfl (vv_load1 one_3 rfl Bw10_b8 (by rfl)) ?_
            refine sd_vv rfl rfl rfl (vv_mul64 rfl rfl (by omega) (by omega)) ?_
            refine sd_vv rfl rfl rfl (vv_fieldAddr fa_134_1 rfl) ?_
            refine sd_vv rfl rfl rfl (vv_load1 one_3 rfl Bw10_b8 (by rfl)) ?_
            refine sd_vv rfl rfl rfl (vv_lss rfl rfl) ?_
            refine sd_done ?_
            refine sw_cond rfl (fun h6 => ?_) (fun h6 => ?_)
            · -- h6 True
              replace h6 := of_decide_eq_true h6
              refine sw_skip ?_
              refine then_n ?_
              refine sw_block ?_
              -- region 5 tree.go:56
              refine sw_region [(0, 0), (1, 0), (2, 0), (3, 0), (4, 0)] rfl rfl rfl ?_
              refine sd_vv rfl rfl rfl (vv_fieldAddr fa_134_2 rfl) ?_
              refine sd_vv rfl rfl rfl (vv_load1 one_3 rfl Bw10_b8 (by rfl)) ?_
              refine sd_vv rfl rfl rfl (vv_add64 rfl rfl (by omega) (by omega)) ?_
              refine sd_vv rfl rfl rfl (vv_fieldAddr fa_134_2 rfl) ?_
              refine sd_ev rfl rfl rfl (ev_store1 (one_3).siz rfl rfl rfl Bw10_b8 (by simp)) ?_
              rintro _ w11 ⟨Bw11, Mw11⟩
              have z21 := Mw11.size
              refine sd_nil ?_
              refine block_n ?_
              have K_22 := (Kp.md Kw10 Mw11 (by simp <;> omega))
              refine ⟨rfl, r + 1, ?_, ⟨?_, ?_, K_22⟩, ?_⟩
              · repeat' first | exact trivial | refine ⟨rfl, ?_⟩
              · exact ⟨by omega, hr9 r (d := s.d) (by omega) hr1 hr2 ‹_›, .inr (by simpa using ‹r * r < s.d›)⟩
              · exact Bw11
              · first | omega | (dsimp only; omega)
            · -- h6 False
              replace h6 := of_decide_eq_false h6
              refine sw_exit ?_
              refine then_x ?_
              refine then_x ?_
              refine block_x ?_
              refine then_n ?_
              refine sw_seq ?_
              -- region 6 tree.go:58
              refine sw_region [(0, 0), (1, 0), (2, 0)] rfl rfl rfl ?_
              refine sd_vv rfl rfl rfl (vv_loadW agg_134 rfl Bw10_b8 (by rfl)) ?_
              have B23 := (Bx.kp (Bx.md (Bx.gr Bw2 Gw8) Mw9 (by omega)) Kw10 (by simp <;> omega))
              refine sd_ev rfl rfl rfl (ev_storeW (agg_134).siz rfl rfl (by rfl) (by rfl) (by rfl) B23 (by rfl)) ?_
              rintro _ w12 ⟨Bw12, Mw12⟩
              have z24 := Mw12.size
              refine sd_vv rfl rfl rfl (vv_assign rfl) ?_
              refine sd_done ?_
              refine sw_ret ?_
              have X25 : Gr w w12 := (Gr.md (Gr.kp X19 Kw10 (by simp <;> omega)) Mw12 (by omega))
              refine ⟨_, _, rfl, res_2 rfl (rv_cellW agg_134 rfl Bw12 (by rfl)) (rv_tmp rfl), ?_⟩
              first
              | (obtain ⟨e1, e2, e3⟩ := tree_no (s := s) (by first | exact vld_f1 (by omega) | exact vld_f2 ‹_›); exact ⟨by rw [e1, e2, e3, (by first | exact vld_f1 (by omega) | exact vld_f2 ‹_› : vld s = false)], X25⟩)
              | (have hv : vld s = true := vld_t (by omega) (by omega) (by omega) (by omega) ‹_›; have hr := strd_of (d := s.d) (by omega) (by omega) hr1 hr2 hr3 ‹_›; exact ⟨by simp [tk, td, ts, hv, ← hr], X25⟩)
end Go.Proofs.Ytecempahccgijaa
