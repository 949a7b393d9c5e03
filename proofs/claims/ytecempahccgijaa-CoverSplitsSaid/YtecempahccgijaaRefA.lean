/- Walks by the laws of SX: RefA. Printed by sx.py. -/
import Derived.Test.YtecempahccgijaaCovA
namespace Go.Proofs.Ytecempahccgijaa
open Go Go.RowKit Go.Sx
theorem en_153 : En Try.prog 153 := fun _ _ => by kernel_rfl
theorem en_154 : En Try.prog 154 := fun _ _ => by kernel_rfl
theorem en_118 : En Try.prog 118 := fun _ _ => by kernel_rfl
theorem fa_45_2 : FA Try.prog 45 2 2 := fun _ _ _ => by kernel_rfl
theorem fa_45_3 : FA Try.prog 45 3 3 := fun _ _ _ => by kernel_rfl
theorem zv_43 : ZV Try.prog 43 (.agg [.int .u64 0, .int .u64 0, .int .u64 0].toArray) := fun _ => by kernel_rfl
theorem bs_43 : BS Try.prog 43 (fun i => [(0, 1), (1, 1), (2, 1)][i]?) [.int .u64 0, .int .u64 0, .int .u64 0] := bs_mk Try.underlying43 zv_43 ⟨rfl, (one_23).siz, rfl, (one_23).siz, rfl, (one_23).siz, trivial⟩
theorem eqt_43 : EqT Try.prog 43 [.u64, .u64, .u64] := ⟨by kernel_rfl, agg_43, 2, by decide, eqc_43⟩
theorem en_108 : En Try.prog 108 := fun _ _ => by kernel_rfl
theorem en_120 : En Try.prog 120 := fun _ _ => by kernel_rfl
theorem en_119 : En Try.prog 119 := fun _ _ => by kernel_rfl
theorem en_60 : En Try.prog 60 := fun _ _ => by kernel_rfl
theorem en_121 : En Try.prog 121 := fun _ _ => by kernel_rfl
theorem en_106 : En Try.prog 106 := fun _ _ => by kernel_rfl
theorem en_85 : En Try.prog 85 := fun _ _ => by kernel_rfl
theorem en_62 : En Try.prog 62 := fun _ _ => by kernel_rfl
theorem en_59 : En Try.prog 59 := fun _ _ => by kernel_rfl
theorem en_81 : En Try.prog 81 := fun _ _ => by kernel_rfl
theorem eqc_47 : EqC Try.prog 2 47 [.i64, .i64] := eqc_struct Try.underlying47 (by kernel_rfl) agg_47 (show EqF _ 1 _ _ _ from (eqf_cons (ks1 := [.i64]) (ks2 := [.i64]) rfl (by simp) (eqc_3.up (by decide)) (eqf_cons (ks1 := [.i64]) (ks2 := []) rfl (by simp) (eqc_3.up (by decide)) (eqf_nil _))))
theorem eqt_47 : EqT Try.prog 47 [.i64, .i64] := ⟨by kernel_rfl, agg_47, 2, by decide, eqc_47⟩

theorem vld_f3 {s : Sch} (h : ¬ s.e = 0) : vld s = false := by unfold vld; apply decide_eq_false; omega
theorem vld_g {s : Sch} (h1 : 1 ≤ s.k) (h2 : s.k ≤ 3) (h3 : 0 ≤ s.d) (h4 : s.d ≤ 6) (h5 : s.e = 0) : vld s = dcd (([wv s.p, wv s.q, wv s.g] : List Value) = [.int .u64 0, .int .u64 0, .int .u64 0]) := by
  apply dcd_eq
  unfold vld
  rw [decide_eq_true_iff]
  simp [h1, h2, h3, h4, h5]
theorem pow2_succ (i : Nat) : ((2 ^ (i + 1) : Nat) : Int) = 2 * ((2 ^ i : Nat) : Int) := by rw [Nat.pow_succ]; omega
theorem pow2_bd {i : Nat} (h : i ≤ 6) : ((2 ^ i : Nat) : Int) ≤ 64 := by have : 2 ^ i ≤ 2 ^ 6 := Nat.pow_le_pow_right (by omega) h; omega
theorem sz_pow {d : Int} {i : Nat} (h : d.toNat = i) : sz d = ((2 ^ i : Nat) : Int) := by unfold sz; rw [h]; norm_cast

set_option maxHeartbeats 1000000 in
theorem recv_c (d : Int) (hd0 : 0 ≤ d) (hd6 : d ≤ 6) (w : World) :
    Calls Try.prog 118 [.int .i64 d].toArray w fun e w' => ∃ v, e = .returned v ∧ (v = .int .i64 (sz d) ∧ Gr w w') := by
  refine calls_of_sw (R := fun v w' => v = .int .i64 (sz d) ∧ Gr w w') 13 Try.func118 rfl rfl rfl ?_
  refine sw_seq ?_
  -- region 0 ref.go:42
  refine sw_region [(0, 0)] rfl rfl rfl ?_
  refine sd_vv rfl rfl rfl (vv_assign rfl) ?_
  refine sd_done ?_
  refine sw_seq ?_
  -- region 1 ref.go:43
  refine sw_region [(0, 0)] rfl rfl rfl ?_
  refine sd_vv rfl rfl rfl (vv_assign rfl) ?_
  refine sd_done ?_
  refine sw_seq ?_
  refine sw_seq ?_
  -- region 2 ref.go:44
  refine sw_region [(0, 0)] rfl rfl rfl ?_
  refine sd_vv rfl rfl rfl (vv_assign rfl) ?_
  refine sd_done ?_
  refine sw_block ?_
  refine sw_loopD (α := Nat) [3, 4, 5, 6, 7, 8, 9, 10, 11] (fun i => [(4, .int .i64 (i : Int)), (3, .int .i64 ((2 ^ i : Nat) : Int))]) (fun i wr => ((i : Int) ≤ d) ∧ Kp [] w wr) (fun i => d.toNat - i) (0) ?_ ?_ ?_
  · repeat' first | exact trivial | refine ⟨rfl, ?_⟩
  · exact ⟨by omega, Kp.refl _ _⟩
  rintro i w1 ⟨hi, Kw1⟩
  have z1 := Kw1.size
  have hp := pow2_bd (show i ≤ 6 by omega)
  have hp0 : (0 : Int) ≤ ((2 ^ i : Nat) : Int) := Int.natCast_nonneg _
  refine sw_seq ?_
  refine sw_seq ?_
  -- region 3 ref.go:44
  refine sw_region [(0, 0), (1, 0), (2, 0)] rfl rfl rfl ?_
  refine sd_vv rfl rfl rfl (vv_move rfl) ?_
  refine sd_vv rfl rfl rfl (vv_move rfl) ?_
  refine sd_vv rfl rfl rfl (vv_lss rfl rfl) ?_
  refine sd_done ?_
  refine sw_cond rfl (fun h1 => ?_) (fun h1 => ?_)
  · -- h1 True
    replace h1 := of_decide_eq_true h1
    refine sw_skip ?_
    refine then_n ?_
    refine sw_seq ?_
    refine sw_block ?_
    -- region 5 ref.go:45
    refine sw_region [(0, 0), (1, 0), (2, 0)] rfl rfl rfl ?_
    refine sd_vv rfl rfl rfl (vv_move rfl) ?_
    refine sd_vv rfl rfl rfl (vv_mul64 rfl rfl (by omega) (by omega)) ?_
    refine sd_vv rfl rfl rfl (vv_assign rfl) ?_
    refine sd_nil ?_
    refine block_n ?_
    refine then_n ?_
    -- region 4 ref.go:44
    refine sw_region [(0, 0), (1, 0), (2, 0)] rfl rfl rfl ?_
    refine sd_vv rfl rfl rfl (vv_move rfl) ?_
    refine sd_vv rfl rfl rfl (vv_add64 rfl rfl (by omega) (by omega)) ?_
    refine sd_vv rfl rfl rfl (vv_assign rfl) ?_
    refine sd_nil ?_
    have K_2 := Kw1
    refine ⟨rfl, i + 1, ?_, ⟨?_, K_2⟩, ?_⟩
    · repeat' first | exact trivial | refine ⟨by first | rfl | (rw [pow2_succ]; rfl), ?_⟩
    · omega
    · first | omega | (dsimp only; omega)
  · -- h1 False
    replace h1 := of_decide_eq_false h1
    refine sw_exit ?_
    refine then_x ?_
    refine then_x ?_
    refine block_x ?_
    refine then_n ?_
    refine sw_seq ?_
    -- region 6 ref.go:47
    refine sw_region [(0, 0), (1, 0)] rfl rfl rfl ?_
    refine sd_vv rfl rfl rfl (vv_move rfl) ?_
    refine sd_vv rfl rfl rfl (vv_assign rfl) ?_
    refine sd_done ?_
    refine sw_ret ?_
    have he := sz_pow (show d.toNat = i by omega)
    have X3 : Gr w w1 := (Gr.kp (Gr.refl w) Kw1 (by simp <;> omega))
    refine ⟨_, _, rfl, res_tmp rfl rfl, ?_⟩
    exact ⟨by rw [he], X3⟩

theorem lvl_half {a : Int} (h : 1 < a) : lvl (a / 2) = lvl a - 1 := by
  have := lg_shift a 1 2 rfl (by omega)
  unfold lvl; simp at this; omega
theorem lvl_1 : lvl 1 = 0 := by decide

set_option maxHeartbeats 1000000 in
theorem rlevel_c (a : Int) (ha1 : 1 ≤ a) (ha2 : a ≤ 9223372036854775807) (w : World) :
    Calls Try.prog 153 [.int .i64 a].toArray w fun e w' => ∃ v, e = .returned v ∧ (v = .int .i64 (lvl a) ∧ Gr w w') := by
  have hl0 := lvl_nn ha1
  have hl1 := lvl_le ha1 (by omega)
  refine calls_of_sw (R := fun v w' => v = .int .i64 (lvl a) ∧ Gr w w') 11 Try.func153 rfl rfl rfl ?_
  refine sw_seq ?_
  -- region 0 ref.go:54
  refine sw_region [(0, 0)] rfl rfl rfl ?_
  refine sd_vv rfl rfl rfl (vv_assign rfl) ?_
  refine sd_done ?_
  refine sw_seq ?_
  -- region 1 ref.go:55
  refine sw_region [(0, 0)] rfl rfl rfl ?_
  refine sd_vv rfl rfl rfl (vv_assign rfl) ?_
  refine sd_done ?_
  refine sw_seq ?_
  refine sw_block ?_
  refine sw_loopD (α := Int × Int) [0, 3, 4, 5, 6, 7, 8, 9] (fun ⟨b, n⟩ => [(0, .int .i64 b), (3, .int .i64 n)]) (fun ⟨b, n⟩ wr => (1 ≤ b ∧ b ≤ a ∧ 0 ≤ n ∧ lvl b + n = lvl a) ∧ Kp [] w wr) (fun ⟨b, n⟩ => b.toNat) (⟨a, 0⟩) ?_ ?_ ?_
  · repeat' first | exact trivial | refine ⟨rfl, ?_⟩
  · exact ⟨⟨ha1, Int.le_refl _, Int.le_refl _, by omega⟩, Kp.refl _ _⟩
  rintro ⟨b, n⟩ w1 ⟨⟨hb1, hb2, hn0, hbn⟩, Kw1⟩
  have z1 := Kw1.size
  have hlb := lvl_nn hb1
  refine sw_seq ?_
  refine sw_seq ?_
  -- region 2 ref.go:56
  refine sw_region [(0, 0), (1, 0)] rfl rfl rfl ?_
  refine sd_vv rfl rfl rfl (vv_move rfl) ?_
  refine sd_vv rfl rfl rfl (vv_gtr rfl rfl) ?_
  refine sd_done ?_
  refine sw_cond rfl (fun h1 => ?_) (fun h1 => ?_)
  · -- h1 True
    replace h1 := of_decide_eq_true h1
    refine sw_skip ?_
    refine then_n ?_
    refine sw_block ?_
    refine sw_seq ?_
    -- region 3 ref.go:57
    refine sw_region [(0, 0), (1, 0), (2, 0)] rfl rfl rfl ?_
    refine sd_vv rfl rfl rfl (vv_move rfl) ?_
    refine sd_vv rfl rfl rfl (vv_quo rfl rfl (by omega) (by omega) (wrap64_in (by omega) (by omega))) ?_
    refine sd_vv rfl rfl rfl (vv_assign rfl) ?_
    refine sd_done ?_
    -- region 4 ref.go:58
    refine sw_region [(0, 0), (1, 0), (2, 0)] rfl rfl rfl ?_
    refine sd_vv rfl rfl rfl (vv_move rfl) ?_
    refine sd_vv rfl rfl rfl (vv_add64 rfl rfl (by omega) (by omega)) ?_
    refine sd_vv rfl rfl rfl (vv_assign rfl) ?_
    refine sd_nil ?_
    refine block_n ?_
    have K_2 := Kw1
    refine ⟨rfl, ⟨b / 2, n + 1⟩, ?_, ⟨?_, K_2⟩, ?_⟩
    · repeat' first | exact trivial | refine ⟨rfl, ?_⟩
    · exact ⟨by omega, by omega, by omega, by rw [lvl_half (by omega)]; omega⟩
    · first | omega | (dsimp only; omega)
  · -- h1 False
    replace h1 := of_decide_eq_false h1
    refine sw_exit ?_
    refine then_x ?_
    refine then_x ?_
    refine block_x ?_
    refine then_n ?_
    refine sw_seq ?_
    -- region 5 ref.go:60
    refine sw_region [(0, 0), (1, 0)] rfl rfl rfl ?_
    refine sd_vv rfl rfl rfl (vv_move rfl) ?_
    refine sd_vv rfl rfl rfl (vv_assign rfl) ?_
    refine sd_done ?_
    refine sw_ret ?_
    obtain rfl : b = 1 := by omega
    rw [lvl_1] at hbn
    have X3 : Gr w w1 := (Gr.kp (Gr.refl w) Kw1 (by simp <;> omega))
    refine ⟨_, _, rfl, res_tmp rfl rfl, ?_⟩
    exact ⟨by rw [← hbn]; congr 1; omega, X3⟩

theorem blw_half {a b : Int} (h : b < a) (hb : 1 ≤ b) (ha : a ≤ 9223372036854775807) : blw (a / 2) b = blw a b := by
  have l1 := lvl_le (show 1 ≤ a by omega) (by omega)
  have l2 := lvl_nn hb
  have hh := lvl_half (show 1 < a by omega)
  have mono : ∀ x y : Int, 1 ≤ x → x ≤ y → lvl x ≤ lvl y := fun x y hx hxy => by
    unfold lvl lg
    rw [if_neg (by omega), if_neg (by omega)]
    have : Nat.log2 x.toNat ≤ Nat.log2 y.toNat := (Nat.le_log2 (by omega)).2 (Nat.le_trans (Nat.log2_self_le (by omega)) (by omega))
    omega
  unfold blw
  congr 1
  apply propext
  by_cases hlv : lvl b ≤ lvl a - 1
  · have e1 : min (lvl (a / 2) - lvl b).toNat 64 = (lvl a - 1 - lvl b).toNat := by rw [hh]; exact Nat.min_eq_left (by omega)
    have e2 : min (lvl a - lvl b).toNat 64 = (lvl a - 1 - lvl b).toNat + 1 := by rw [Nat.min_eq_left (by omega)]; omega
    rw [e1, e2, hh, Int.pow_succ, Int.mul_comm, ← Int.ediv_ediv_of_nonneg (by omega)]
    constructor
    · rintro ⟨q1, q2, q3, q4⟩; exact ⟨by omega, by omega, by omega, q4⟩
    · rintro ⟨q1, q2, q3, q4⟩; exact ⟨by omega, by omega, by omega, q4⟩
  · constructor
    · rintro ⟨q1, q2, q3, q4⟩; omega
    · rintro ⟨q1, q2, q3, q4⟩
      have e2 : min (lvl a - lvl b).toNat 64 = 0 := by have := mono b a hb (by omega); rw [Nat.min_eq_left (by omega)]; omega
      rw [e2] at q4; simp at q4; omega
theorem blw_end {a b : Int} (h : ¬ b < a) (hb : 1 ≤ b) (ha : a ≤ 9223372036854775807) : blw a b = decide (a = b) := by
  unfold blw
  congr 1
  apply propext
  constructor
  · rintro ⟨q1, q2, q3, q4⟩
    have : a / 2 ^ min (lvl a - lvl b).toNat 64 ≤ a := Int.ediv_le_self _ (by omega)
    omega
  · rintro rfl
    exact ⟨hb, hb, Int.le_refl _, by simp⟩

set_option maxHeartbeats 1000000 in
theorem rbelow_c (a b : Int) (hb : 1 ≤ b) (ha2 : a ≤ 9223372036854775807) (w : World) :
    Calls Try.prog 60 [.int .i64 a, .int .i64 b].toArray w fun e w' => ∃ v, e = .returned v ∧ (v = .bool (blw a b) ∧ Gr w w') := by
  refine calls_of_sw (R := fun v w' => v = .bool (blw a b) ∧ Gr w w') 13 Try.func60 rfl rfl rfl ?_
  refine sw_seq ?_
  -- region 0 ref.go:64
  refine sw_region [(0, 0)] rfl rfl rfl ?_
  refine sd_vv rfl rfl rfl (vv_assign rfl) ?_
  refine sd_done ?_
  refine sw_seq ?_
  refine sw_block ?_
  refine sw_loopD (α := Int) [0, 5, 6, 7, 8, 9] (fun c => [(0, .int .i64 c)]) (fun c wr => (c ≤ a ∧ blw c b = blw a b) ∧ Kp [] w wr) (fun c => c.toNat) (a) ?_ ?_ ?_
  · repeat' first | exact trivial | refine ⟨rfl, ?_⟩
  · exact ⟨⟨Int.le_refl _, rfl⟩, Kp.refl _ _⟩
  rintro c w1 ⟨⟨hc1, hc2⟩, Kw1⟩
  have z1 := Kw1.size
  refine sw_seq ?_
  refine sw_seq ?_
  -- region 1 ref.go:65
  refine sw_region [(0, 0), (1, 0), (2, 0)] rfl rfl rfl ?_
  refine sd_vv rfl rfl rfl (vv_move rfl) ?_
  refine sd_vv rfl rfl rfl (vv_move rfl) ?_
  refine sd_vv rfl rfl rfl (vv_gtr rfl rfl) ?_
  refine sd_done ?_
  refine sw_cond rfl (fun h1 => ?_) (fun h1 => ?_)
  · -- h1 True
    replace h1 := of_decide_eq_true h1
    refine sw_skip ?_
    refine then_n ?_
    refine sw_block ?_
    -- region 2 ref.go:66
    refine sw_region [(0, 0), (1, 0), (2, 0)] rfl rfl rfl ?_
    refine sd_vv rfl rfl rfl (vv_move rfl) ?_
    refine sd_vv rfl rfl rfl (vv_quo rfl rfl (by omega) (by omega) (wrap64_in (by omega) (by omega))) ?_
    refine sd_vv rfl rfl rfl (vv_assign rfl) ?_
    refine sd_nil ?_
    refine block_n ?_
    have K_2 := Kw1
    refine ⟨rfl, c / 2, ?_, ⟨?_, K_2⟩, ?_⟩
    · repeat' first | exact trivial | refine ⟨rfl, ?_⟩
    · exact ⟨by omega, by rw [blw_half (by omega) hb (by omega)]; exact hc2⟩
    · first | omega | (dsimp only; omega)
  · -- h1 False
    replace h1 := of_decide_eq_false h1
    have hend := blw_end (a := c) h1 hb (by omega)
    refine sw_exit ?_
    refine then_x ?_
    refine then_x ?_
    refine block_x ?_
    refine then_n ?_
    refine sw_seq ?_
    -- region 3 ref.go:68
    refine sw_region [(0, 0), (1, 0), (2, 0), (3, 0)] rfl rfl rfl ?_
    refine sd_vv rfl rfl rfl (vv_move rfl) ?_
    refine sd_vv rfl rfl rfl (vv_move rfl) ?_
    refine sd_vv rfl rfl rfl (vv_eql rfl rfl) ?_
    refine sd_vv rfl rfl rfl (vv_assign rfl) ?_
    refine sd_done ?_
    refine sw_ret ?_
    have X3 : Gr w w1 := (Gr.kp (Gr.refl w) Kw1 (by simp <;> omega))
    refine ⟨_, _, rfl, res_tmp rfl rfl, ?_⟩
    exact ⟨by rw [← hc2, hend], X3⟩

set_option maxHeartbeats 1000000 in
theorem rstride_c (d : Int) (hd0 : 0 ≤ d) (hd6 : d ≤ 6) (w : World) :
    Calls Try.prog 154 [.int .i64 d].toArray w fun e w' => ∃ v, e = .returned v ∧ (v = .int .i64 (strd d) ∧ Gr w w') := by
  refine calls_of_sw (R := fun v w' => v = .int .i64 (strd d) ∧ Gr w w') 12 Try.func154 rfl rfl rfl ?_
  refine sw_seq ?_
  -- region 0 ref.go:72
  refine sw_region [(0, 0)] rfl rfl rfl ?_
  refine sd_vv rfl rfl rfl (vv_assign rfl) ?_
  refine sd_done ?_
  refine sw_seq ?_
  -- region 1 ref.go:73
  refine sw_region [(0, 0)] rfl rfl rfl ?_
  refine sd_vv rfl rfl rfl (vv_assign rfl) ?_
  refine sd_done ?_
  refine sw_seq ?_
  refine sw_block ?_
  refine sw_loopD (α := Int) [3, 4, 5, 6, 7, 8, 9, 10] (fun r => [(3, .int .i64 r)]) (fun r wr => (1 ≤ r ∧ r ≤ 3 ∧ (r = 1 ∨ (r - 1) * (r - 1) < d)) ∧ Kp [] w wr) (fun r => (6 - r).toNat) (1) ?_ ?_ ?_
  · repeat' first | exact trivial | refine ⟨rfl, ?_⟩
  · exact ⟨⟨by omega, by omega, .inl rfl⟩, Kp.refl _ _⟩
  rintro r w1 ⟨⟨hr1, hr2, hr3⟩, Kw1⟩
  have z1 := Kw1.size
  have hrr : 1 ≤ r * r ∧ r * r ≤ 9 := by rcases (by omega : r = 1 ∨ r = 2 ∨ r = 3) with rfl | rfl | rfl <;> decide
  refine sw_seq ?_
  refine sw_seq ?_
  -- region 2 ref.go:74
  refine sw_region [(0, 0), (1, 0), (2, 0), (3, 0), (4, 0)] rfl rfl rfl ?_
  refine sd_vv rfl rfl rfl (vv_move rfl) ?_
  refine sd_vv rfl rfl rfl (vv_move rfl) ?_
  refine sd_vv rfl rfl rfl (vv_mul64 rfl rfl (by omega) (by omega)) ?_
  refine sd_vv rfl rfl rfl (vv_move rfl) ?_
  refine sd_vv rfl rfl rfl (vv_lss rfl rfl) ?_
  refine sd_done ?_
  refine sw_cond rfl (fun h1 => ?_) (fun h1 => ?_)
  · -- h1 True
    replace h1 := of_decide_eq_true h1
    refine sw_skip ?_
    refine then_n ?_
    refine sw_block ?_
    -- region 3 ref.go:75
    refine sw_region [(0, 0), (1, 0), (2, 0)] rfl rfl rfl ?_
    refine sd_vv rfl rfl rfl (vv_move rfl) ?_
    refine sd_vv rfl rfl rfl (vv_add64 rfl rfl (by omega) (by omega)) ?_
    refine sd_vv rfl rfl rfl (vv_assign rfl) ?_
    refine sd_nil ?_
    refine block_n ?_
    have K_2 := Kw1
    refine ⟨rfl, r + 1, ?_, ⟨?_, K_2⟩, ?_⟩
    · repeat' first | exact trivial | refine ⟨rfl, ?_⟩
    · exact ⟨by omega, hr9 r (d := d) (by omega) hr1 hr2 ‹_›, .inr (by simpa using ‹r * r < d›)⟩
    · first | omega | (dsimp only; omega)
  · -- h1 False
    replace h1 := of_decide_eq_false h1
    refine sw_exit ?_
    refine then_x ?_
    refine then_x ?_
    refine block_x ?_
    refine then_n ?_
    refine sw_seq ?_
    -- region 4 ref.go:77
    refine sw_region [(0, 0), (1, 0)] rfl rfl rfl ?_
    refine sd_vv rfl rfl rfl (vv_move rfl) ?_
    refine sd_vv rfl rfl rfl (vv_assign rfl) ?_
    refine sd_done ?_
    refine sw_ret ?_
    have X3 : Gr w w1 := (Gr.kp (Gr.refl w) Kw1 (by simp <;> omega))
    refine ⟨_, _, rfl, res_tmp rfl rfl, ?_⟩
    have hr := strd_of (d := d) (by omega) (by omega) hr1 hr2 hr3 ‹_›
    exact ⟨by rw [← hr], X3⟩

set_option maxHeartbeats 1000000 in
theorem rspecial_c (d a : Int) (hd0 : 0 ≤ d) (hd6 : d ≤ 6) (ha1 : 1 ≤ a) (ha2 : a ≤ 9223372036854775807) (w : World) :
    Calls Try.prog 120 [.int .i64 d, .int .i64 a].toArray w fun e w' => ∃ v, e = .returned v ∧ (v = .bool (decide (lvl a % strd d = 0)) ∧ Gr w w') := by
  have hst := strd_bd d
  have hlv := lvl_nn ha1
  refine calls_of_sw (R := fun v w' => v = .bool (decide (lvl a % strd d = 0)) ∧ Gr w w') 11 Try.func120 rfl rfl rfl ?_
  refine sw_seq ?_
  -- region 0 ref.go:81
  refine sw_region [(0, 0)] rfl rfl rfl ?_
  refine sd_vv rfl rfl rfl (vv_assign rfl) ?_
  refine sd_done ?_
  refine sw_seq ?_
  -- region 1 ref.go:81
  refine sw_region [(0, 0), (1, 0), (2, 0), (3, 0), (4, 0), (5, 0), (6, 0)] rfl rfl rfl ?_
  refine sd_vv rfl rfl rfl (vv_move rfl) ?_
  refine sd_ev rfl rfl rfl (ev_call en_153 rfl (rlevel_c _ (by omega) (by omega) _)) ?_
  rintro _ w1 ⟨rfl, Gw1⟩
  have z1 := Gw1.size
  refine sd_vv rfl rfl rfl (vv_move rfl) ?_
  refine sd_ev rfl rfl rfl (ev_call en_154 rfl (rstride_c _ (by omega) (by omega) _)) ?_
  rintro _ w2 ⟨rfl, Gw2⟩
  have z2 := Gw2.size
  refine sd_vv rfl rfl rfl (vv_rem rfl rfl (by omega) (by omega)) ?_
  refine sd_vv rfl rfl rfl (vv_eql rfl rfl) ?_
  refine sd_vv rfl rfl rfl (vv_assign rfl) ?_
  refine sd_done ?_
  refine sw_ret ?_
  have X3 : Gr w w2 := (Gr.trans (Gr.trans (Gr.refl w) Gw1) Gw2)
  refine ⟨_, _, rfl, res_tmp rfl rfl, ?_⟩
  exact ⟨rfl, X3⟩

set_option maxHeartbeats 1000000 in
theorem rnode_c (d u : Int) (hd0 : 0 ≤ d) (hd6 : d ≤ 6) (w : World) :
    Calls Try.prog 119 [.int .i64 d, .int .i64 u].toArray w fun e w' => ∃ v, e = .returned v ∧ (v = .bool (hasN d u) ∧ Gr w w') := by
  refine calls_of_sw (R := fun v w' => v = .bool (hasN d u) ∧ Gr w w') 14 Try.func119 rfl rfl rfl ?_
  refine sw_seq ?_
  -- region 0 ref.go:51
  refine sw_region [(0, 0)] rfl rfl rfl ?_
  refine sd_vv rfl rfl rfl (vv_assign rfl) ?_
  refine sd_done ?_
  refine sw_seq ?_
  -- region 1 ref.go:51
  refine sw_region [(0, 0), (1, 0), (2, 0), (3, 0), (4, 0), (5, 0), (6, 0), (7, 0), (8, 0), (9, 0)] rfl rfl rfl ?_
  refine sd_vv rfl rfl rfl (vv_move rfl) ?_
  refine sd_vv rfl rfl rfl (vv_geq rfl rfl) ?_
  refine sd_split rfl rfl rfl (vv_move rfl) (fun h1 => ?_) (fun h1 => ?_)
  · -- h1 True
    replace h1 := of_decide_eq_true h1
    refine sd_vv rfl rfl rfl (vv_move rfl) ?_
    refine sd_vv rfl rfl rfl (vv_move rfl) ?_
    refine sd_ev rfl rfl rfl (ev_call en_118 rfl (recv_c _ (by omega) (by omega) _)) ?_
    rintro _ w1 ⟨rfl, Gw1⟩
    have z1 := Gw1.size
    have hsz := sz_bd hd0 hd6
    refine sd_vv rfl rfl rfl (vv_mul64 rfl rfl (by omega) (by omega)) ?_
    refine sd_vv rfl rfl rfl (vv_lss rfl rfl) ?_
    refine sd_vv rfl rfl rfl (vv_pickT rfl rfl) ?_
    refine sd_vv rfl rfl rfl (vv_assign rfl) ?_
    refine sd_done ?_
    refine sw_ret ?_
    have X2 : Gr w w1 := (Gr.trans (Gr.refl w) Gw1)
    refine ⟨_, _, rfl, res_tmp rfl rfl, ?_⟩
    exact ⟨congrArg Value.bool (Eq.symm (by first | (unfold hasN; apply decide_eq_false; omega) | (unfold hasN; congr 1; exact propext ⟨fun h => h.2, fun h => ⟨by omega, h⟩⟩))), X2⟩
  · -- h1 False
    replace h1 := of_decide_eq_false h1
    refine sd_skip rfl rfl rfl ?_
    refine sd_skip rfl rfl rfl ?_
    refine sd_skip rfl rfl rfl ?_
    refine sd_skip rfl rfl rfl ?_
    refine sd_skip rfl rfl rfl ?_
    refine sd_vv rfl rfl rfl (vv_pickF rfl rfl) ?_
    refine sd_vv rfl rfl rfl (vv_assign rfl) ?_
    refine sd_done ?_
    refine sw_ret ?_
    refine ⟨_, _, rfl, res_tmp rfl rfl, ?_⟩
    exact ⟨congrArg Value.bool (Eq.symm (by first | (unfold hasN; apply decide_eq_false; omega) | (unfold hasN; congr 1; exact propext ⟨fun h => h.2, fun h => ⟨by omega, h⟩⟩))), (Gr.refl w)⟩

set_option maxHeartbeats 1000000 in
theorem valid_c (s : Sch) (w : World) :
    Calls Try.prog 59 [sv s].toArray w fun e w' => ∃ v, e = .returned v ∧ (v = .bool (vld s) ∧ Gr w w') := by
  refine calls_of_sw (R := fun v w' => v = .bool (vld s) ∧ Gr w w') 32 Try.func59 rfl rfl rfl ?_
  refine sw_seq ?_
  -- region 0 ref.go:29
  refine sw_region [(0, 0), (1, 0)] rfl rfl rfl ?_
  refine sd_ev rfl rfl rfl (ev_box rfl (by rfl)) ?_
  rintro _ w1 ⟨b1, rfl, hbw1, Bw1, Gw1⟩
  have z1 := Gw1.size
  have lt2 := Bw1.lt
  refine sd_vv rfl rfl rfl (vv_assign rfl) ?_
  refine sd_done ?_
  refine sw_seq ?_
  -- region 1 ref.go:30
  refine sw_region [(0, 0), (1, 0), (2, 0), (3, 0), (4, 0), (5, 0), (6, 0), (7, 0), (8, 0), (9, 0), (10, 0), (11, 0), (12, 0), (13, 0), (14, 0), (15, 0), (16, 0), (17, 0), (18, 0), (19, 0), (20, 0), (21, 0), (22, 0), (23, 0), (24, 0), (25, 0), (26, 0), (27, 0), (28, 0), (29, 0)] rfl rfl rfl ?_
  refine sd_vv rfl rfl rfl (vv_fieldAddr fa_45_0 rfl) ?_
  refine sd_vv rfl rfl rfl (vv_load1 one_5 rfl Bw1 (by rfl)) ?_
  refine sd_vv rfl rfl rfl (vv_geq rfl rfl) ?_
  refine sd_split rfl rfl rfl (vv_move rfl) (fun h1 => ?_) (fun h1 => ?_)
  · -- h1 True
    replace h1 := of_decide_eq_true h1
    refine sd_vv rfl rfl rfl (vv_fieldAddr fa_45_0 rfl) ?_
    refine sd_vv rfl rfl rfl (vv_load1 one_5 rfl Bw1 (by rfl)) ?_
    refine sd_vv rfl rfl rfl (vv_leq rfl rfl) ?_
    refine sd_vv rfl rfl rfl (vv_pickT rfl rfl) ?_
    refine sd_split rfl rfl rfl (vv_move rfl) (fun h2 => ?_) (fun h2 => ?_)
    · -- h2 True
      replace h2 := of_decide_eq_true h2
      refine sd_vv rfl rfl rfl (vv_fieldAddr fa_45_1 rfl) ?_
      refine sd_vv rfl rfl rfl (vv_load1 one_3 rfl Bw1 (by rfl)) ?_
      refine sd_vv rfl rfl rfl (vv_geq rfl rfl) ?_
      refine sd_vv rfl rfl rfl (vv_pickT rfl rfl) ?_
      refine sd_split rfl rfl rfl (vv_move rfl) (fun h3 => ?_) (fun h3 => ?_)
      · -- h3 True
        replace h3 := of_decide_eq_true h3
        refine sd_vv rfl rfl rfl (vv_fieldAddr fa_45_1 rfl) ?_
        refine sd_vv rfl rfl rfl (vv_load1 one_3 rfl Bw1 (by rfl)) ?_
        refine sd_vv rfl rfl rfl (vv_leq rfl rfl) ?_
        refine sd_vv rfl rfl rfl (vv_pickT rfl rfl) ?_
        refine sd_split rfl rfl rfl (vv_move rfl) (fun h4 => ?_) (fun h4 => ?_)
        · -- h4 True
          replace h4 := of_decide_eq_true h4
          refine sd_vv rfl rfl rfl (vv_fieldAddr fa_45_2 rfl) ?_
          refine sd_vv rfl rfl rfl (vv_load1 one_3 rfl Bw1 (by rfl)) ?_
          refine sd_vv rfl rfl rfl (vv_eql rfl rfl) ?_
          refine sd_vv rfl rfl rfl (vv_pickT rfl rfl) ?_
          refine sd_split rfl rfl rfl (vv_move rfl) (fun h5 => ?_) (fun h5 => ?_)
          · -- h5 True
            replace h5 := of_decide_eq_true h5
            refine sd_vv rfl rfl rfl (vv_fieldAddr fa_45_3 rfl) ?_
            refine sd_vv rfl rfl rfl (vv_loadM agg_43 rfl Bw1 (by rfl) (by rfl)) ?_
            refine sd_vv rfl rfl rfl (vv_build bs_43 rfl rfl) ?_
            refine sd_vv rfl rfl rfl (vv_eqlA eqt_43 rfl rfl rfl rfl) ?_
            refine sd_vv rfl rfl rfl (vv_pickT rfl rfl) ?_
            refine sd_vv rfl rfl rfl (vv_assign rfl) ?_
            refine sd_done ?_
            refine sw_ret ?_
            have X3 : Gr w w1 := (Gr.trans (Gr.refl w) Gw1)
            refine ⟨_, _, rfl, res_tmp rfl rfl, ?_⟩
            exact ⟨congrArg Value.bool (Eq.symm (by first | exact vld_f1 (by omega) | exact vld_f3 ‹_› | exact vld_g (by omega) (by omega) (by omega) (by omega) (by omega))), X3⟩
          · -- h5 False
            replace h5 := of_decide_eq_false h5
            refine sd_skip rfl rfl rfl ?_
            refine sd_skip rfl rfl rfl ?_
            refine sd_skip rfl rfl rfl ?_
            refine sd_skip rfl rfl rfl ?_
            refine sd_vv rfl rfl rfl (vv_pickF rfl rfl) ?_
            refine sd_vv rfl rfl rfl (vv_assign rfl) ?_
            refine sd_done ?_
            refine sw_ret ?_
            have X4 : Gr w w1 := (Gr.trans (Gr.refl w) Gw1)
            refine ⟨_, _, rfl, res_tmp rfl rfl, ?_⟩
            exact ⟨congrArg Value.bool (Eq.symm (by first | exact vld_f1 (by omega) | exact vld_f3 ‹_› | exact vld_g (by omega) (by omega) (by omega) (by omega) (by omega))), X4⟩
        · -- h4 False
          replace h4 := of_decide_eq_false h4
          refine sd_skip rfl rfl rfl ?_
          refine sd_skip rfl rfl rfl ?_
          refine sd_skip rfl rfl rfl ?_
          refine sd_vv rfl rfl rfl (vv_pickF rfl rfl) ?_
          refine sd_vv rfl rfl rfl (vv_move rfl) ?_
          refine sd_skip rfl rfl rfl ?_
          refine sd_skip rfl rfl rfl ?_
          refine sd_skip rfl rfl rfl ?_
          refine sd_skip rfl rfl rfl ?_
          refine sd_vv rfl rfl rfl (vv_pickF rfl rfl) ?_
          refine sd_vv rfl rfl rfl (vv_assign rfl) ?_
          refine sd_done ?_
          refine sw_ret ?_
          have X5 : Gr w w1 := (Gr.trans (Gr.refl w) Gw1)
          refine ⟨_, _, rfl, res_tmp rfl rfl, ?_⟩
          exact ⟨congrArg Value.bool (Eq.symm (by first | exact vld_f1 (by omega) | exact vld_f3 ‹_› | exact vld_g (by omega) (by omega) (by omega) (by omega) (by omega))), X5⟩
      · -- h3 False
        replace h3 := of_decide_eq_false h3
        refine sd_skip rfl rfl rfl ?_
        refine sd_skip rfl rfl rfl ?_
        refine sd_skip rfl rfl rfl ?_
        refine sd_vv rfl rfl rfl (vv_pickF rfl rfl) ?_
        refine sd_vv rfl rfl rfl (vv_move rfl) ?_
        refine sd_skip rfl rfl rfl ?_
        refine sd_skip rfl rfl rfl ?_
        refine sd_skip rfl rfl rfl ?_
        refine sd_vv rfl rfl rfl (vv_pickF rfl rfl) ?_
        refine sd_vv rfl rfl rfl (vv_move rfl) ?_
        refine sd_skip rfl rfl rfl ?_
        refine sd_skip rfl rfl rfl ?_
        refine sd_skip rfl rfl rfl ?_
        refine sd_skip rfl rfl rfl ?_
        refine sd_vv rfl rfl rfl (vv_pickF rfl rfl) ?_
        refine sd_vv rfl rfl rfl (vv_assign rfl) ?_
        refine sd_done ?_
        refine sw_ret ?_
        have X6 : Gr w w1 := (Gr.trans (Gr.refl w) Gw1)
        refine ⟨_, _, rfl, res_tmp rfl rfl, ?_⟩
        exact ⟨congrArg Value.bool (Eq.symm (by first | exact vld_f1 (by omega) | exact vld_f3 ‹_› | exact vld_g (by omega) (by omega) (by omega) (by omega) (by omega))), X6⟩
    · -- h2 False
      replace h2 := of_decide_eq_false h2
      refine sd_skip rfl rfl rfl ?_
      refine sd_skip rfl rfl rfl ?_
      refine sd_skip rfl rfl rfl ?_
      refine sd_vv rfl rfl rfl (vv_pickF rfl rfl) ?_
      refine sd_vv rfl rfl rfl (vv_move rfl) ?_
      refine sd_skip rfl rfl rfl ?_
      refine sd_skip rfl rfl rfl ?_
      refine sd_skip rfl rfl rfl ?_
      refine sd_vv rfl rfl rfl (vv_pickF rfl rfl) ?_
      refine sd_vv rfl rfl rfl (vv_move rfl) ?_
      refine sd_skip rfl rfl rfl ?_
      refine sd_skip rfl rfl rfl ?_
      refine sd_skip rfl rfl rfl ?_
      refine sd_vv rfl rfl rfl (vv_pickF rfl rfl) ?_
      refine sd_vv rfl rfl rfl (vv_move rfl) ?_
      refine sd_skip rfl rfl rfl ?_
      refine sd_skip rfl rfl rfl ?_
      refine sd_skip rfl rfl rfl ?_
      refine sd_skip rfl rfl rfl ?_
      refine sd_vv rfl rfl rfl (vv_pickF rfl rfl) ?_
      refine sd_vv rfl rfl rfl (vv_assign rfl) ?_
      refine sd_done ?_
      refine sw_ret ?_
      have X7 : Gr w w1 := (Gr.trans (Gr.refl w) Gw1)
      refine ⟨_, _, rfl, res_tmp rfl rfl, ?_⟩
      exact ⟨congrArg Value.bool (Eq.symm (by first | exact vld_f1 (by omega) | exact vld_f3 ‹_› | exact vld_g (by omega) (by omega) (by omega) (by omega) (by omega))), X7⟩
  · -- h1 False
    replace h1 := of_decide_eq_false h1
    refine sd_skip rfl rfl rfl ?_
    refine sd_skip rfl rfl rfl ?_
    refine sd_skip rfl rfl rfl ?_
    refine sd_vv rfl rfl rfl (vv_pickF rfl rfl) ?_
    refine sd_vv rfl rfl rfl (vv_move rfl) ?_
    refine sd_skip rfl rfl rfl ?_
    refine sd_skip rfl rfl rfl ?_
    refine sd_skip rfl rfl rfl ?_
    refine sd_vv rfl rfl rfl (vv_pickF rfl rfl) ?_
    refine sd_vv rfl rfl rfl (vv_move rfl) ?_
    refine sd_skip rfl rfl rfl ?_
    refine sd_skip rfl rfl rfl ?_
    refine sd_skip rfl rfl rfl ?_
    refine sd_vv rfl rfl rfl (vv_pickF rfl rfl) ?_
    refine sd_vv rfl rfl rfl (vv_move rfl) ?_
    refine sd_skip rfl rfl rfl ?_
    refine sd_skip rfl rfl rfl ?_
    refine sd_skip rfl rfl rfl ?_
    refine sd_vv rfl rfl rfl (vv_pickF rfl rfl) ?_
    refine sd_vv rfl rfl rfl (vv_move rfl) ?_
    refine sd_skip rfl rfl rfl ?_
    refine sd_skip rfl rfl rfl ?_
    refine sd_skip rfl rfl rfl ?_
    refine sd_skip rfl rfl rfl ?_
    refine sd_vv rfl rfl rfl (vv_pickF rfl rfl) ?_
    refine sd_vv rfl rfl rfl (vv_assign rfl) ?_
    refine sd_done ?_
    refine sw_ret ?_
    have X8 : Gr w w1 := (Gr.trans (Gr.refl w) Gw1)
    refine ⟨_, _, rfl, res_tmp rfl rfl, ?_⟩
    exact ⟨congrArg Value.bool (Eq.symm (by first | exact vld_f1 (by omega) | exact vld_f3 ‹_› | exact vld_g (by omega) (by omega) (by omega) (by omega) (by omega))), X8⟩

/-- a node and one below it, or the same -/
theorem pathN_succ (n j : Nat) : pathN n (j + 1) = n / 2 ^ j :: pathN n j := by
  unfold pathN
  rw [List.range_succ_eq_map, List.map_cons, List.map_map]
  congr 1
  apply List.map_congr_left
  intro i hi
  simp only [Function.comp, List.mem_range] at hi ⊢
  congr 2; omega
theorem pathN_last (n k : Nat) : pathN n (k + 1) = pathN (n / 2) k ++ [n] := by
  unfold pathN
  rw [List.range_succ, List.map_append]
  congr 1
  · apply List.map_congr_left
    intro i hi
    simp only [List.mem_range] at hi
    rw [Nat.div_div_eq_div_mul, ← Nat.pow_succ']
    congr 2; omega
  · simp
theorem div_inj {n j k : Nat} (hj : j ≤ k) (hk : 2 ^ k ≤ n) (h : ¬ ((n / 2 ^ j : Nat) : Int) ≠ ((n / 2 ^ k : Nat) : Int)) : j = k := by
  rcases Nat.lt_or_ge j k with hlt | hge
  · have h1 : 2 ^ j ≤ n := Nat.le_trans (Nat.pow_le_pow_right (by omega) hj) hk
    have h2 := lvl_div n j h1
    have h3 := lvl_div n k hk
    have h4 : n / 2 ^ j = n / 2 ^ k := by omega
    rw [h4] at h2; omega
  · omega
theorem div_ne2 {n j k : Nat} (h : ((n / 2 ^ j : Nat) : Int) ≠ ((n / 2 ^ k : Nat) : Int)) : j ≠ k := by rintro rfl; exact h rfl
theorem div_nx (n j : Nat) : ((n / 2 ^ j : Nat) : Int) / 2 = ((n / 2 ^ (j + 1) : Nat) : Int) := by
  rw [Nat.pow_succ, ← Nat.div_div_eq_div_mul]; norm_cast

set_option maxHeartbeats 1000000 in
theorem rpath_c (v_ w_ : Int) (n k : Nat) (hv_ : v_ = ((n / 2 ^ k : Nat) : Int)) (hw_ : w_ = (n : Int)) (hk2 : 2 ^ k ≤ n) (ht : n ≤ 4611686018427387904) (w : World) :
    Calls Try.prog 108 [.int .i64 v_, .int .i64 w_].toArray w fun e w' => ∃ v, e = .returned v ∧ (∃ z g, Own w' z g 3 1 v (((n / 2 ^ k :: pathN n k).map (Nat.cast : Nat → Int)).map ic) ∧ (z = 0 ∨ w.heap.size ≤ g) ∧ Gr w w') := by
  subst hv_ hw_
  have hk62 := pow_le62 hk2 ht
  refine calls_of_sw (R := fun v w' => ∃ z g, Own w' z g 3 1 v (((n / 2 ^ k :: pathN n k).map (Nat.cast : Nat → Int)).map ic) ∧ (z = 0 ∨ w.heap.size ≤ g) ∧ Gr w w') 19 Try.func108 rfl rfl rfl ?_
  refine sw_seq ?_
  -- region 0 ref.go:84
  refine sw_region [(0, 0)] rfl rfl rfl ?_
  refine sd_vv rfl rfl rfl (vv_assign rfl) ?_
  refine sd_done ?_
  refine sw_seq ?_
  -- region 1 ref.go:85
  refine sw_region [(0, 0)] rfl rfl rfl ?_
  refine sd_vv rfl rfl rfl (vv_assign rfl) ?_
  refine sd_done ?_
  refine sw_seq ?_
  refine sw_block ?_
  refine sw_loopD (α := Nat × Value × Nat × Nat) [1, 5, 6, 7, 8, 9, 10, 11, 12, 13, 14] (fun ⟨j, v, z, g⟩ => [(1, .int .i64 ((n / 2 ^ j : Nat) : Int)), (5, v)]) (fun ⟨j, v, z, g⟩ wr => (j ≤ k) ∧ (Own wr z g 3 1 v (((pathN n j).map (Nat.cast : Nat → Int)).map ic) ∧ (z = 0 ∨ w.heap.size ≤ g)) ∧ Kp [] w wr) (fun ⟨j, v, z, g⟩ => k - j) (⟨0, .slice none 0 0, 0, 0⟩) ?_ ?_ ?_
  · repeat' first | exact trivial | refine ⟨by first | rfl | (rw [Nat.pow_zero, Nat.div_one]; rfl), ?_⟩
  · exact ⟨Nat.zero_le _, ⟨(own_nil _ 0 _ _), .inl rfl⟩, Kp.refl _ _⟩
  rintro ⟨j, v, z, g⟩ w1 ⟨hj, ⟨Ow1_5, hOw1_5⟩, Kw1⟩
  have z1 := Kw1.size
  have lt2 := Ow1_5.lt
  refine sw_seq ?_
  refine sw_seq ?_
  -- region 2 ref.go:86
  refine sw_region [(0, 0), (1, 0), (2, 0)] rfl rfl rfl ?_
  refine sd_vv rfl rfl rfl (vv_move rfl) ?_
  refine sd_vv rfl rfl rfl (vv_move rfl) ?_
  refine sd_vv rfl rfl rfl (vv_neq rfl rfl) ?_
  refine sd_done ?_
  refine sw_cond rfl (fun h1 => ?_) (fun h1 => ?_)
  · -- h1 True
    replace h1 := of_decide_eq_true h1
    have hne := div_ne2 h1
    have hle : n / 2 ^ j ≤ n := Nat.div_le_self _ _
    have hge : (0 : Int) ≤ ((n / 2 ^ j : Nat) : Int) := Int.natCast_nonneg _
    refine sw_skip ?_
    refine then_n ?_
    refine sw_block ?_
    refine sw_seq ?_
    -- region 3 ref.go:87
    refine sw_region [(0, 0), (1, 0), (2, 0), (3, 0), (4, 0)] rfl rfl rfl ?_
    refine sd_vv rfl rfl rfl (vv_move rfl) ?_
    refine sd_ev rfl rfl rfl (ev_lit bsl_61_1 rfl rfl rfl rfl rfl) ?_
    rintro vw2 w2 ⟨gw2, hbw2, Ow2, Gw2⟩
    have z3 := Gw2.size
    have lt4 := Ow2.lt
    refine sd_vv rfl rfl rfl (vv_move rfl) ?_
    have B5 := (Own.gr Ow1_5 Gw2)
    refine sd_ev rfl rfl rfl (ev_app apt_61 rfl rfl Ow2 (Own.rd B5) (by simp [chunk, pathN_len]; omega) (by simp [chunk, pathN_len]; omega)) ?_
    rintro vw3 w3 ⟨zw3, gw3, Ow3, Aw3, qw3, rw3, sw3⟩
    have z6 := Aw3.size
    have lt7 := Ow3.lt
    refine sd_vv rfl rfl rfl (vv_assign rfl) ?_
    refine sd_done ?_
    -- region 4 ref.go:88
    refine sw_region [(0, 0), (1, 0), (2, 0)] rfl rfl rfl ?_
    refine sd_vv rfl rfl rfl (vv_move rfl) ?_
    refine sd_vv rfl rfl rfl (vv_quo rfl rfl (by omega) (by omega) (wrap64_in (by omega) (by omega))) ?_
    refine sd_vv rfl rfl rfl (vv_assign rfl) ?_
    refine sd_nil ?_
    refine block_n ?_
    have K_8 := (Kp.ka (Kp.gr Kw1 Gw2) Aw3 (by simp <;> omega))
    refine ⟨rfl, ⟨j + 1, vw3, zw3, gw3⟩, ?_, ⟨?_, ⟨?_, by omega⟩, K_8⟩, ?_⟩
    · repeat' first | exact trivial | refine ⟨by first | rfl | (rw [div_nx]; rfl), ?_⟩
    · omega
    · rw [pathN_succ]; exact Ow3
    · first | omega | (dsimp only; omega)
  · -- h1 False
    replace h1 := of_decide_eq_false h1
    obtain rfl := div_inj hj hk2 h1
    have hle : n / 2 ^ j ≤ n := Nat.div_le_self _ _
    have hge : (0 : Int) ≤ ((n / 2 ^ j : Nat) : Int) := Int.natCast_nonneg _
    refine sw_exit ?_
    refine then_x ?_
    refine then_x ?_
    refine block_x ?_
    refine then_n ?_
    refine sw_seq ?_
    -- region 5 ref.go:90
    refine sw_region [(0, 0), (1, 0), (2, 0), (3, 0), (4, 0)] rfl rfl rfl ?_
    refine sd_vv rfl rfl rfl (vv_move rfl) ?_
    refine sd_ev rfl rfl rfl (ev_lit bsl_61_1 rfl rfl rfl rfl rfl) ?_
    rintro vw4 w4 ⟨gw4, hbw4, Ow4, Gw4⟩
    have z9 := Gw4.size
    have lt10 := Ow4.lt
    refine sd_vv rfl rfl rfl (vv_move rfl) ?_
    have B11 := (Own.gr Ow1_5 Gw4)
    refine sd_ev rfl rfl rfl (ev_app apt_61 rfl rfl Ow4 (Own.rd B11) (by simp [chunk, pathN_len]; omega) (by simp [chunk, pathN_len]; omega)) ?_
    rintro vw5 w5 ⟨zw5, gw5, Ow5, Aw5, qw5, rw5, sw5⟩
    have z12 := Aw5.size
    have lt13 := Ow5.lt
    refine sd_vv rfl rfl rfl (vv_assign rfl) ?_
    refine sd_done ?_
    refine sw_ret ?_
    have X14 : Gr w w5 := (Gr.ka (Gr.trans (Gr.kp (Gr.refl w) Kw1 (by simp <;> omega)) Gw4) Aw5 (by omega))
    refine ⟨_, _, rfl, res_tmp rfl rfl, ?_⟩
    exact ⟨zw5, gw5, Ow5, by omega, X14⟩

theorem btw_get {n k i m a : Nat} (h : (pathN (n / 2) k)[i]? = some m) : (((a :: pathN n (k + 1)).map (Nat.cast : Nat → Int)).map ic)[i + 1]? = some (ic (m : Int)) := by
  have hi := (List.getElem?_eq_some_iff.1 h).1
  rw [pathN_last, List.map_cons, List.map_cons, List.getElem?_cons_succ, List.map_append, List.map_append, List.getElem?_append_left (by simpa using hi)]
  simp [h]
theorem half_pow {n k : Nat} (hk : 2 ^ k ≤ n / 2) : 2 ^ (k + 1) ≤ n ∧ n / 2 / 2 ^ k = n / 2 ^ (k + 1) :=
  ⟨by rw [Nat.pow_succ]; rw [Nat.le_div_iff_mul_le (by omega)] at hk; exact hk, by rw [Nat.div_div_eq_div_mul, Nat.pow_succ, Nat.mul_comm 2]⟩

set_option maxHeartbeats 1000000 in
theorem between_c (d v_ w_ : Int) (hd0 : 0 ≤ d) (hd6 : d ≤ 6) (n k : Nat) (hv_ : v_ = ((n / 2 / 2 ^ k : Nat) : Int)) (hw_ : w_ = (n : Int)) (hk : 2 ^ k ≤ n / 2) (ht : n ≤ 4611686018427387904) (w : World) :
    Calls Try.prog 121 [.int .i64 d, .int .i64 v_, .int .i64 w_].toArray w fun e w' => ∃ v, e = .returned v ∧ (v = .int .i64 (cutN d v_ w_) ∧ Gr w w') := by
  have hcut := cutN_e (d := d) hv_ hw_ hk
  obtain ⟨hk1, hk2⟩ := half_pow hk
  rw [hk2] at hv_
  have hk62 := pow_le62 hk1 ht
  refine calls_of_sw (R := fun v w' => v = .int .i64 (cutN d v_ w_) ∧ Gr w w') 29 Try.func121 rfl rfl rfl ?_
  refine sw_seq ?_
  -- region 0 ref.go:94
  refine sw_region [(0, 0)] rfl rfl rfl ?_
  refine sd_vv rfl rfl rfl (vv_assign rfl) ?_
  refine sd_done ?_
  refine sw_seq ?_
  -- region 1 ref.go:95
  refine sw_region [(0, 0), (1, 0), (2, 0), (3, 0)] rfl rfl rfl ?_
  refine sd_vv rfl rfl rfl (vv_move rfl) ?_
  refine sd_vv rfl rfl rfl (vv_move rfl) ?_
  refine sd_ev rfl rfl rfl (ev_call en_108 rfl (rpath_c v_ w_ n (k + 1) hv_ hw_ hk1 ht _)) ?_
  rintro v1 w1 ⟨z1_, g1_, O1, hg1, Gw1⟩
  have z1 := Gw1.size
  have lt2 := O1.lt
  refine sd_vv rfl rfl rfl (vv_assign rfl) ?_
  refine sd_done ?_
  refine sw_seq ?_
  refine sw_seq ?_
  -- region 2 ref.go:96
  refine sw_region [(0, 0)] rfl rfl rfl ?_
  refine sd_vv rfl rfl rfl (vv_assign rfl) ?_
  refine sd_done ?_
  refine sw_block ?_
  have X3 : Gr w w1 := (Gr.trans (Gr.refl w) Gw1)
  refine sw_loopD (α := Nat) [6, 8, 12, 13, 14, 15, 16, 17, 18, 19, 20, 21, 22, 23, 24, 25, 26, 27, 28] (fun i => [(8, .int .i64 ((i : Int) + 1))]) (fun i wr => (i ≤ k ∧ ∀ m ∈ (pathN (n / 2) k).take i, spc (strd d) m = false) ∧ Kp [] w1 wr) (fun i => k - i) (0) ?_ ?_ ?_
  · repeat' first | exact trivial | refine ⟨rfl, ?_⟩
  · exact ⟨⟨Nat.zero_le _, by simp⟩, Kp.refl _ _⟩
  rintro i w2 ⟨⟨hi, hno⟩, Kw2⟩
  have z4 := Kw2.size
  refine sw_seq ?_
  refine sw_seq ?_
  -- region 3 ref.go:96
  refine sw_region [(0, 0), (1, 0), (2, 0), (3, 0), (4, 0)] rfl rfl rfl ?_
  refine sd_vv rfl rfl rfl (vv_move rfl) ?_
  refine sd_vv rfl rfl rfl (vv_move rfl) ?_
  have B5 := (Own.kp O1 Kw2 (by simp <;> omega))
  refine sd_vv rfl rfl rfl (vv_lenN (n := k + 2) Try.underlying61 rfl (Own.rd B5) (by simp [pathN_len])) ?_
  refine sd_vv rfl rfl rfl (vv_sub64 rfl rfl (by omega) (by omega)) ?_
  refine sd_vv rfl rfl rfl (vv_lss rfl rfl) ?_
  refine sd_done ?_
  refine sw_cond rfl (fun h1 => ?_) (fun h1 => ?_)
  · -- h1 True
    replace h1 := of_decide_eq_true h1
    obtain ⟨m, hy, _⟩ := get_ex (l := pathN (n / 2) k) (i := i) (by rw [pathN_len]; omega)
    have hm := pathN_bd hk hy
    refine sw_skip ?_
    refine then_n ?_
    refine sw_seq ?_
    refine sw_block ?_
    refine sw_seq ?_
    -- region 5 ref.go:97
    refine sw_region [(0, 0), (1, 0), (2, 0), (3, 0), (4, 0), (5, 0)] rfl rfl rfl ?_
    refine sd_vv rfl rfl rfl (vv_move rfl) ?_
    refine sd_vv rfl rfl rfl (vv_move rfl) ?_
    refine sd_vv rfl rfl rfl (vv_move rfl) ?_
    refine sd_vv rfl rfl rfl (vv_ixN (n := k + 2) Try.underlying61 (one_3).siz rfl (Own.rd B5) (by simp [pathN_len]) rfl (by omega) (by omega)) ?_
    refine sd_vv rfl rfl rfl (vv_el1 (q := 0) one_3 rfl (Own.rd B5) (btw_get hy) (by omega) (show _ = some _ from by rfl)) ?_
    refine sd_ev rfl rfl rfl (ev_call en_120 rfl (rspecial_c _ _ (by omega) (by omega) (by omega) (by omega) _)) ?_
    rintro _ w3 ⟨rfl, Gw3⟩
    have z6 := Gw3.size
    refine sd_done ?_
    refine sw_cond rfl (fun h2 => ?_) (fun h2 => ?_)
    · -- h2 True
      replace h2 := of_decide_eq_true h2
      refine sw_seq ?_
      -- region 6 ref.go:98
      refine sw_region [(0, 0), (1, 0), (2, 0), (3, 0), (4, 0)] rfl rfl rfl ?_
      refine sd_vv rfl rfl rfl (vv_move rfl) ?_
      refine sd_vv rfl rfl rfl (vv_move rfl) ?_
      have B7 := (Own.gr B5 Gw3)
      refine sd_vv rfl rfl rfl (vv_ixN (n := k + 2) Try.underlying61 (one_3).siz rfl (Own.rd B7) (by simp [pathN_len]) rfl (by omega) (by omega)) ?_
      refine sd_vv rfl rfl rfl (vv_el1 (q := 0) one_3 rfl (Own.rd B7) (btw_get hy) (by omega) (show _ = some _ from by rfl)) ?_
      refine sd_vv rfl rfl rfl (vv_assign rfl) ?_
      refine sd_done ?_
      refine sw_ret ?_
      refine block_r ?_
      refine then_r ?_
      refine then_r ?_
      refine block_r ?_
      refine then_r ?_
      have X8 : Gr w w3 := (Gr.trans (Gr.kp X3 Kw2 (by simp <;> omega)) Gw3)
      refine ⟨_, _, rfl, res_tmp rfl rfl, ?_⟩
      exact ⟨by rw [hcut, fstN, find_at hy (spc_t ‹_›) hno]; rfl, X8⟩
    · -- h2 False
      replace h2 := of_decide_eq_false h2
      refine sw_skip ?_
      refine block_n ?_
      refine then_n ?_
      -- region 4 ref.go:96
      refine sw_region [(0, 0), (1, 0), (2, 0)] rfl rfl rfl ?_
      refine sd_vv rfl rfl rfl (vv_move rfl) ?_
      refine sd_vv rfl rfl rfl (vv_add64 rfl rfl (by omega) (by omega)) ?_
      refine sd_vv rfl rfl rfl (vv_assign rfl) ?_
      refine sd_nil ?_
      have K_9 := (Kp.gr Kw2 Gw3)
      refine ⟨rfl, i + 1, ?_, ⟨?_, K_9⟩, ?_⟩
      · repeat' first | exact trivial | refine ⟨rfl, ?_⟩
      · exact ⟨by omega, take_step hno hy (spc_f ‹_›)⟩
      · first | omega | (dsimp only; omega)
  · -- h1 False
    replace h1 := of_decide_eq_false h1
    obtain rfl : i = k := by omega
    refine sw_exit ?_
    refine then_x ?_
    refine then_x ?_
    refine block_x ?_
    refine then_n ?_
    refine sw_seq ?_
    -- region 7 ref.go:101
    refine sw_region [(0, 0)] rfl rfl rfl ?_
    refine sd_vv rfl rfl rfl (vv_assign rfl) ?_
    refine sd_done ?_
    refine sw_ret ?_
    have X10 : Gr w w2 := (Gr.kp X3 Kw2 (by simp <;> omega))
    refine ⟨_, _, rfl, res_tmp rfl rfl, ?_⟩
    exact ⟨by rw [hcut, fstN, find_no (by rw [pathN_len]; exact hno)]; rfl, X10⟩

set_option maxHeartbeats 1000000 in
theorem isSub_c (s : Sch) (hd0 : 0 ≤ s.d) (hd6 : s.d ≤ 6) (x : Int × Int) (hx1 : -9223372036854775808 ≤ x.1) (hx2 : x.1 ≤ 9223372036854775807) (hx3 : -9223372036854775808 ≤ x.2) (hx4 : x.2 ≤ 9223372036854775807)  (w : World) :
    Calls Try.prog 62 [sv s, xv x].toArray w fun e w' => ∃ v, e = .returned v ∧ (v = .bool (subB s.k s.d x) ∧ Gr w w') := by
  refine calls_of_sw (R := fun v w' => v = .bool (subB s.k s.d x) ∧ Gr w w') 64 Try.func62 rfl rfl rfl ?_
  refine sw_seq ?_
  -- region 0 ref.go:105
  refine sw_region [(0, 0), (1, 0), (2, 0)] rfl rfl rfl ?_
  refine sd_ev rfl rfl rfl (ev_box rfl (by rfl)) ?_
  rintro _ w1 ⟨b1, rfl, hbw1, Bw1, Gw1⟩
  have z1 := Gw1.size
  have lt2 := Bw1.lt
  refine sd_ev rfl rfl rfl (ev_box rfl (by rfl)) ?_
  rintro _ w2 ⟨b2, rfl, hbw2, Bw2, Gw2⟩
  have z3 := Gw2.size
  have lt4 := Bw2.lt
  refine sd_vv rfl rfl rfl (vv_assign rfl) ?_
  refine sd_done ?_
  refine sw_seq ?_
  refine sw_seq ?_
  -- region 1 ref.go:106
  refine sw_region [(0, 0), (1, 0), (2, 0), (3, 0), (4, 0), (5, 0)] rfl rfl rfl ?_
  refine sd_vv rfl rfl rfl (vv_fieldAddr fa_45_1 rfl) ?_
  have B5 := (Bx.gr Bw1 Gw2)
  refine sd_vv rfl rfl rfl (vv_load1 one_3 rfl B5 (by rfl)) ?_
  refine sd_vv rfl rfl rfl (vv_fieldAddr fa_47_0 rfl) ?_
  refine sd_vv rfl rfl rfl (vv_load1 one_3 rfl Bw2 (by rfl)) ?_
  refine sd_ev rfl rfl rfl (ev_call en_119 rfl (rnode_c _ _ (by omega) (by omega) _)) ?_
  rintro _ w3 ⟨rfl, Gw3⟩
  have z6 := Gw3.size
  refine sd_vv rfl rfl rfl (vv_not rfl) ?_
  refine sd_done ?_
  refine sw_cond rfl (fun h1 => ?_) (fun h1 => ?_)
  · -- h1 True
    replace h1 := not_bt h1
    refine sw_seq ?_
    -- region 2 ref.go:107
    refine sw_region [(0, 0)] rfl rfl rfl ?_
    refine sd_vv rfl rfl rfl (vv_assign rfl) ?_
    refine sd_done ?_
    refine sw_ret ?_
    refine then_r ?_
    have X7 : Gr w w3 := (Gr.trans (Gr.trans (Gr.trans (Gr.refl w) Gw1) Gw2) Gw3)
    refine ⟨_, _, rfl, res_tmp rfl rfl, ?_⟩
    exact ⟨congrArg Value.bool (by first | (exfalso; omega) | (simp [subB, *]; done) | (simp [subB, *]; omega)), X7⟩
  · -- h1 False
    replace h1 := not_bf h1
    refine sw_skip ?_
    refine then_n ?_
    refine sw_seq ?_
    refine sw_seq ?_
    -- region 3 ref.go:109
    refine sw_region [(0, 0), (1, 0), (2, 0)] rfl rfl rfl ?_
    refine sd_vv rfl rfl rfl (vv_fieldAddr fa_45_0 rfl) ?_
    have B8 := (Bx.gr B5 Gw3)
    refine sd_vv rfl rfl rfl (vv_load1 one_5 rfl B8 (by rfl)) ?_
    refine sd_vv rfl rfl rfl (vv_eql rfl rfl) ?_
    refine sd_done ?_
    refine sw_cond rfl (fun h2 => ?_) (fun h2 => ?_)
    · -- h2 True
      replace h2 := of_decide_eq_true h2
      refine sw_seq ?_
      -- region 4 ref.go:110
      refine sw_region [(0, 0), (1, 0), (2, 0), (3, 0)] rfl rfl rfl ?_
      refine sd_vv rfl rfl rfl (vv_fieldAddr fa_47_1 rfl) ?_
      have B9 := (Bx.gr Bw2 Gw3)
      refine sd_vv rfl rfl rfl (vv_load1 one_3 rfl B9 (by rfl)) ?_
      refine sd_vv rfl rfl rfl (vv_eql rfl rfl) ?_
      refine sd_vv rfl rfl rfl (vv_assign rfl) ?_
      refine sd_done ?_
      refine sw_ret ?_
      refine then_r ?_
      have X10 : Gr w w3 := (Gr.trans (Gr.trans (Gr.trans (Gr.refl w) Gw1) Gw2) Gw3)
      refine ⟨_, _, rfl, res_tmp rfl rfl, ?_⟩
      exact ⟨congrArg Value.bool (by first | (exfalso; omega) | (simp [subB, *]; done) | (simp [subB, *]; omega)), X10⟩
    · -- h2 False
      replace h2 := of_decide_eq_false h2
      refine sw_skip ?_
      refine then_n ?_
      refine sw_seq ?_
      refine sw_seq ?_
      -- region 5 ref.go:112
      refine sw_region [(0, 0), (1, 0), (2, 0)] rfl rfl rfl ?_
      refine sd_vv rfl rfl rfl (vv_fieldAddr fa_47_1 rfl) ?_
      have B11 := (Bx.gr Bw2 Gw3)
      refine sd_vv rfl rfl rfl (vv_load1 one_3 rfl B11 (by rfl)) ?_
      refine sd_vv rfl rfl rfl (vv_eql rfl rfl) ?_
      refine sd_done ?_
      refine sw_cond rfl (fun h3 => ?_) (fun h3 => ?_)
      · -- h3 True
        replace h3 := of_decide_eq_true h3
        refine sw_seq ?_
        -- region 6 ref.go:113
        refine sw_region [(0, 0), (1, 0), (2, 0), (3, 0)] rfl rfl rfl ?_
        refine sd_vv rfl rfl rfl (vv_fieldAddr fa_47_0 rfl) ?_
        refine sd_vv rfl rfl rfl (vv_load1 one_3 rfl B11 (by rfl)) ?_
        refine sd_vv rfl rfl rfl (vv_eql rfl rfl) ?_
        refine sd_vv rfl rfl rfl (vv_assign rfl) ?_
        refine sd_done ?_
        refine sw_ret ?_
        refine then_r ?_
        have X12 : Gr w w3 := (Gr.trans (Gr.trans (Gr.trans (Gr.refl w) Gw1) Gw2) Gw3)
        refine ⟨_, _, rfl, res_tmp rfl rfl, ?_⟩
        exact ⟨congrArg Value.bool (by first | (exfalso; omega) | (simp [subB, *]; done) | (simp [subB, *]; omega)), X12⟩
      · -- h3 False
        replace h3 := of_decide_eq_false h3
        refine sw_skip ?_
        refine then_n ?_
        refine sw_seq ?_
        refine sw_seq ?_
        -- region 7 ref.go:115
        refine sw_region [(0, 0), (1, 0), (2, 0), (3, 0), (4, 0), (5, 0), (6, 0), (7, 0), (8, 0), (9, 0), (10, 0), (11, 0), (12, 0), (13, 0), (14, 0), (15, 0), (16, 0), (17, 0), (18, 0), (19, 0), (20, 0)] rfl rfl rfl ?_
        refine sd_vv rfl rfl rfl (vv_fieldAddr fa_45_1 rfl) ?_
        refine sd_vv rfl rfl rfl (vv_load1 one_3 rfl B8 (by rfl)) ?_
        refine sd_vv rfl rfl rfl (vv_fieldAddr fa_47_1 rfl) ?_
        refine sd_vv rfl rfl rfl (vv_load1 one_3 rfl B11 (by rfl)) ?_
        refine sd_ev rfl rfl rfl (ev_call en_119 rfl (rnode_c _ _ (by omega) (by omega) _)) ?_
        rintro _ w4 ⟨rfl, Gw4⟩
        have z13 := Gw4.size
        refine sd_vv rfl rfl rfl (vv_not rfl) ?_
        refine sd_split rfl rfl rfl (vv_move rfl) (fun h4 => ?_) (fun h4 => ?_)
        · -- h4 True
          replace h4 := not_bt h4
          refine sd_skip rfl rfl rfl ?_
          refine sd_skip rfl rfl rfl ?_
          refine sd_skip rfl rfl rfl ?_
          refine sd_skip rfl rfl rfl ?_
          refine sd_skip rfl rfl rfl ?_
          refine sd_vv rfl rfl rfl (vv_pickT rfl rfl) ?_
          refine sd_vv rfl rfl rfl (vv_move rfl) ?_
          refine sd_skip rfl rfl rfl ?_
          refine sd_skip rfl rfl rfl ?_
          refine sd_skip rfl rfl rfl ?_
          refine sd_skip rfl rfl rfl ?_
          have hn1 := hasN_bd (d := s.d) (v := x.1) ‹_› hd0 hd6
          refine sd_skip rfl rfl rfl ?_
          refine sd_skip rfl rfl rfl ?_
          refine sd_vv rfl rfl rfl (vv_pickT rfl rfl) ?_
          refine sd_done ?_
          refine sw_condT rfl ?_
          refine sw_seq ?_
          -- region 8 ref.go:116
          refine sw_region [(0, 0)] rfl rfl rfl ?_
          refine sd_vv rfl rfl rfl (vv_assign rfl) ?_
          refine sd_done ?_
          refine sw_ret ?_
          refine then_r ?_
          have X14 : Gr w w4 := (Gr.trans (Gr.trans (Gr.trans (Gr.trans (Gr.refl w) Gw1) Gw2) Gw3) Gw4)
          refine ⟨_, _, rfl, res_tmp rfl rfl, ?_⟩
          exact ⟨congrArg Value.bool (by first | (exfalso; omega) | (simp [subB, *]; done) | (simp [subB, *]; omega)), X14⟩
        · -- h4 False
          replace h4 := not_bf h4
          refine sd_vv rfl rfl rfl (vv_fieldAddr fa_47_1 rfl) ?_
          have B15 := (Bx.gr B11 Gw4)
          refine sd_vv rfl rfl rfl (vv_load1 one_3 rfl B15 (by rfl)) ?_
          refine sd_vv rfl rfl rfl (vv_fieldAddr fa_47_0 rfl) ?_
          refine sd_vv rfl rfl rfl (vv_load1 one_3 rfl B15 (by rfl)) ?_
          refine sd_vv rfl rfl rfl (vv_eql rfl rfl) ?_
          refine sd_vv rfl rfl rfl (vv_pickF rfl rfl) ?_
          refine sd_split rfl rfl rfl (vv_move rfl) (fun h5 => ?_) (fun h5 => ?_)
          · -- h5 True
            replace h5 := of_decide_eq_true h5
            refine sd_skip rfl rfl rfl ?_
            refine sd_skip rfl rfl rfl ?_
            refine sd_skip rfl rfl rfl ?_
            refine sd_skip rfl rfl rfl ?_
            have hn1 := hasN_bd (d := s.d) (v := x.1) ‹_› hd0 hd6
            refine sd_skip rfl rfl rfl ?_
            refine sd_skip rfl rfl rfl ?_
            refine sd_vv rfl rfl rfl (vv_pickT rfl rfl) ?_
            refine sd_done ?_
            refine sw_condT rfl ?_
            refine sw_seq ?_
            -- region 8 ref.go:116
            refine sw_region [(0, 0)] rfl rfl rfl ?_
            refine sd_vv rfl rfl rfl (vv_assign rfl) ?_
            refine sd_done ?_
            refine sw_ret ?_
            refine then_r ?_
            have X16 : Gr w w4 := (Gr.trans (Gr.trans (Gr.trans (Gr.trans (Gr.refl w) Gw1) Gw2) Gw3) Gw4)
            refine ⟨_, _, rfl, res_tmp rfl rfl, ?_⟩
            exact ⟨congrArg Value.bool (by first | (exfalso; omega) | (simp [subB, *]; done) | (simp [subB, *]; omega)), X16⟩
          · -- h5 False
            replace h5 := of_decide_eq_false h5
            refine sd_vv rfl rfl rfl (vv_fieldAddr fa_47_1 rfl) ?_
            refine sd_vv rfl rfl rfl (vv_load1 one_3 rfl B15 (by rfl)) ?_
            refine sd_vv rfl rfl rfl (vv_fieldAddr fa_47_0 rfl) ?_
            refine sd_vv rfl rfl rfl (vv_load1 one_3 rfl B15 (by rfl)) ?_
            have hn1 := hasN_bd (d := s.d) (v := x.1) ‹_› hd0 hd6
            refine sd_ev rfl rfl rfl (ev_call en_60 rfl (rbelow_c _ _ (by omega) (by omega) _)) ?_
            rintro _ w5 ⟨rfl, Gw5⟩
            have z17 := Gw5.size
            refine sd_vv rfl rfl rfl (vv_not rfl) ?_
            refine sd_vv rfl rfl rfl (vv_pickF rfl rfl) ?_
            refine sd_done ?_
            refine sw_cond rfl (fun h6 => ?_) (fun h6 => ?_)
            · -- h6 True
              replace h6 := not_bt h6
              refine sw_seq ?_
              -- region 8 ref.go:116
              refine sw_region [(0, 0)] rfl rfl rfl ?_
              refine sd_vv rfl rfl rfl (vv_assign rfl) ?_
              refine sd_done ?_
              refine sw_ret ?_
              refine then_r ?_
              have X18 : Gr w w5 := (Gr.trans (Gr.trans (Gr.trans (Gr.trans (Gr.trans (Gr.refl w) Gw1) Gw2) Gw3) Gw4) Gw5)
              refine ⟨_, _, rfl, res_tmp rfl rfl, ?_⟩
              exact ⟨congrArg Value.bool (by first | (exfalso; omega) | (simp [subB, *]; done) | (simp [subB, *]; omega)), X18⟩
            · -- h6 False
              replace h6 := not_bf h6
              refine sw_skip ?_
              refine then_n ?_
              refine sw_seq ?_
              -- region 9 ref.go:118
              refine sw_region [(0, 0), (1, 0), (2, 0), (3, 0), (4, 0), (5, 0), (6, 0), (7, 0), (8, 0), (9, 0), (10, 0), (11, 0), (12, 0), (13, 0), (14, 0), (15, 0), (16, 0), (17, 0), (18, 0), (19, 0), (20, 0)] rfl rfl rfl ?_
              refine sd_vv rfl rfl rfl (vv_fieldAddr fa_45_0 rfl) ?_
              have B19 := (Bx.gr (Bx.gr B8 Gw4) Gw5)
              refine sd_vv rfl rfl rfl (vv_load1 one_5 rfl B19 (by rfl)) ?_
              refine sd_vv rfl rfl rfl (vv_eql rfl rfl) ?_
              refine sd_split rfl rfl rfl (vv_move rfl) (fun h7 => ?_) (fun h7 => ?_)
              · -- h7 True
                replace h7 := of_decide_eq_true h7
                refine sd_skip rfl rfl rfl ?_
                refine sd_skip rfl rfl rfl ?_
                refine sd_skip rfl rfl rfl ?_
                refine sd_skip rfl rfl rfl ?_
                have hn1 := hasN_bd (d := s.d) (v := x.1) ‹_› hd0 hd6
                refine sd_skip rfl rfl rfl ?_
                refine sd_vv rfl rfl rfl (vv_pickT rfl rfl) ?_
                refine sd_vv rfl rfl rfl (vv_move rfl) ?_
                refine sd_skip rfl rfl rfl ?_
                refine sd_skip rfl rfl rfl ?_
                refine sd_skip rfl rfl rfl ?_
                refine sd_skip rfl rfl rfl ?_
                refine sd_skip rfl rfl rfl ?_
                refine sd_skip rfl rfl rfl ?_
                have hn2 := hasN_bd (d := s.d) (v := x.2) ‹_› hd0 hd6
                obtain ⟨n, q, en1, en2, hk2, ht⟩ := blw_split (a := x.2) (b := x.1) ‹_› ‹_› (by omega)
                refine sd_skip rfl rfl rfl ?_
                try clear en1 en2
                refine sd_skip rfl rfl rfl ?_
                refine sd_vv rfl rfl rfl (vv_pickT rfl rfl) ?_
                refine sd_vv rfl rfl rfl (vv_assign rfl) ?_
                refine sd_done ?_
                refine sw_ret ?_
                have X20 : Gr w w5 := (Gr.trans (Gr.trans (Gr.trans (Gr.trans (Gr.trans (Gr.refl w) Gw1) Gw2) Gw3) Gw4) Gw5)
                refine ⟨_, _, rfl, res_tmp rfl rfl, ?_⟩
                exact ⟨congrArg Value.bool (by first | (exfalso; omega) | (simp [subB, *]; done) | (simp [subB, *]; omega)), X20⟩
              · -- h7 False
                replace h7 := of_decide_eq_false h7
                refine sd_vv rfl rfl rfl (vv_fieldAddr fa_45_1 rfl) ?_
                refine sd_vv rfl rfl rfl (vv_load1 one_3 rfl B19 (by rfl)) ?_
                refine sd_vv rfl rfl rfl (vv_fieldAddr fa_47_0 rfl) ?_
                have B21 := (Bx.gr B15 Gw5)
                refine sd_vv rfl rfl rfl (vv_load1 one_3 rfl B21 (by rfl)) ?_
                have hn1 := hasN_bd (d := s.d) (v := x.1) ‹_› hd0 hd6
                refine sd_ev rfl rfl rfl (ev_call en_120 rfl (rspecial_c _ _ (by omega) (by omega) (by omega) (by omega) _)) ?_
                rintro _ w6 ⟨rfl, Gw6⟩
                have z22 := Gw6.size
                refine sd_vv rfl rfl rfl (vv_pickF rfl rfl) ?_
                refine sd_split rfl rfl rfl (vv_move rfl) (fun h8 => ?_) (fun h8 => ?_)
                · -- h8 True
                  replace h8 := of_decide_eq_true h8
                  refine sd_skip rfl rfl rfl ?_
                  refine sd_skip rfl rfl rfl ?_
                  refine sd_skip rfl rfl rfl ?_
                  refine sd_skip rfl rfl rfl ?_
                  refine sd_skip rfl rfl rfl ?_
                  refine sd_skip rfl rfl rfl ?_
                  have hn2 := hasN_bd (d := s.d) (v := x.2) ‹_› hd0 hd6
                  obtain ⟨n, q, en1, en2, hk2, ht⟩ := blw_split (a := x.2) (b := x.1) ‹_› ‹_› (by omega)
                  refine sd_skip rfl rfl rfl ?_
                  try clear en1 en2
                  refine sd_skip rfl rfl rfl ?_
                  refine sd_vv rfl rfl rfl (vv_pickT rfl rfl) ?_
                  refine sd_vv rfl rfl rfl (vv_assign rfl) ?_
                  refine sd_done ?_
                  refine sw_ret ?_
                  have X23 : Gr w w6 := (Gr.trans (Gr.trans (Gr.trans (Gr.trans (Gr.trans (Gr.trans (Gr.refl w) Gw1) Gw2) Gw3) Gw4) Gw5) Gw6)
                  refine ⟨_, _, rfl, res_tmp rfl rfl, ?_⟩
                  exact ⟨congrArg Value.bool (by first | (exfalso; omega) | (simp [subB, *]; done) | (simp [subB, *]; omega)), X23⟩
                · -- h8 False
                  replace h8 := of_decide_eq_false h8
                  refine sd_vv rfl rfl rfl (vv_fieldAddr fa_45_1 rfl) ?_
                  have B24 := (Bx.gr B19 Gw6)
                  refine sd_vv rfl rfl rfl (vv_load1 one_3 rfl B24 (by rfl)) ?_
                  refine sd_vv rfl rfl rfl (vv_fieldAddr fa_47_0 rfl) ?_
                  have B25 := (Bx.gr B21 Gw6)
                  refine sd_vv rfl rfl rfl (vv_load1 one_3 rfl B25 (by rfl)) ?_
                  refine sd_vv rfl rfl rfl (vv_fieldAddr fa_47_1 rfl) ?_
                  refine sd_vv rfl rfl rfl (vv_load1 one_3 rfl B25 (by rfl)) ?_
                  have hn2 := hasN_bd (d := s.d) (v := x.2) ‹_› hd0 hd6
                  obtain ⟨n, q, en1, en2, hk2, ht⟩ := blw_split (a := x.2) (b := x.1) ‹_› ‹_› (by omega)
                  refine sd_ev rfl rfl rfl (ev_call en_121 rfl (between_c _ _ _ hd0 hd6 n q en1 en2 hk2 (by omega) _)) ?_
                  rintro _ w7 ⟨rfl, Gw7⟩
                  have z26 := Gw7.size
                  try clear en1 en2
                  refine sd_vv rfl rfl rfl (vv_eql rfl rfl) ?_
                  refine sd_vv rfl rfl rfl (vv_pickF rfl rfl) ?_
                  refine sd_vv rfl rfl rfl (vv_assign rfl) ?_
                  refine sd_done ?_
                  refine sw_ret ?_
                  have X27 : Gr w w7 := (Gr.trans (Gr.trans (Gr.trans (Gr.trans (Gr.trans (Gr.trans (Gr.trans (Gr.refl w) Gw1) Gw2) Gw3) Gw4) Gw5) Gw6) Gw7)
                  refine ⟨_, _, rfl, res_tmp rfl rfl, ?_⟩
                  exact ⟨congrArg Value.bool (by first | (exfalso; omega) | (simp [subB, *]; done) | (simp [subB, *]; omega)), X27⟩

theorem blw_0 (a : Int) : blw a 0 = false := by unfold blw; apply decide_eq_false; omega

set_option maxHeartbeats 1000000 in
theorem rhas_c (s : Sch) (hd0 : 0 ≤ s.d) (hd6 : s.d ≤ 6) (x : Int × Int) (hx1 : 1 ≤ x.1) (hx2 : 0 ≤ x.2) (u : Nat) (hu : u ≤ 1000) (w : World) :
    Calls Try.prog 106 [sv s, xv x, .int .i64 (u : Int)].toArray w fun e w' => ∃ v, e = .returned v ∧ (v = .bool (memB s.d x u) ∧ Gr w w') := by
  refine calls_of_sw (R := fun v w' => v = .bool (memB s.d x u) ∧ Gr w w') 29 Try.func106 rfl rfl rfl ?_
  refine sw_seq ?_
  -- region 0 ref.go:122
  refine sw_region [(0, 0), (1, 0), (2, 0)] rfl rfl rfl ?_
  refine sd_ev rfl rfl rfl (ev_box rfl (by rfl)) ?_
  rintro _ w1 ⟨b1, rfl, hbw1, Bw1, Gw1⟩
  have z1 := Gw1.size
  have lt2 := Bw1.lt
  refine sd_ev rfl rfl rfl (ev_box rfl (by rfl)) ?_
  rintro _ w2 ⟨b2, rfl, hbw2, Bw2, Gw2⟩
  have z3 := Gw2.size
  have lt4 := Bw2.lt
  refine sd_vv rfl rfl rfl (vv_assign rfl) ?_
  refine sd_done ?_
  refine sw_seq ?_
  -- region 1 ref.go:123
  refine sw_region [(0, 0), (1, 0), (2, 0), (3, 0), (4, 0), (5, 0)] rfl rfl rfl ?_
  refine sd_vv rfl rfl rfl (vv_fieldAddr fa_45_1 rfl) ?_
  have B5 := (Bx.gr Bw1 Gw2)
  refine sd_vv rfl rfl rfl (vv_load1 one_3 rfl B5 (by rfl)) ?_
  refine sd_ev rfl rfl rfl (ev_call en_118 rfl (recv_c _ (by omega) (by omega) _)) ?_
  rintro _ w3 ⟨rfl, Gw3⟩
  have z6 := Gw3.size
  have hsz := sz_bd hd0 hd6
  refine sd_vv rfl rfl rfl (vv_move rfl) ?_
  refine sd_vv rfl rfl rfl (vv_add64 rfl rfl (by omega) (by omega)) ?_
  refine sd_vv rfl rfl rfl (vv_assign rfl) ?_
  refine sd_done ?_
  refine sw_seq ?_
  -- region 2 ref.go:124
  refine sw_region [(0, 0), (1, 0), (2, 0), (3, 0), (4, 0), (5, 0), (6, 0), (7, 0), (8, 0), (9, 0), (10, 0), (11, 0), (12, 0), (13, 0), (14, 0), (15, 0), (16, 0)] rfl rfl rfl ?_
  refine sd_vv rfl rfl rfl (vv_move rfl) ?_
  refine sd_vv rfl rfl rfl (vv_fieldAddr fa_47_0 rfl) ?_
  have B7 := (Bx.gr Bw2 Gw3)
  refine sd_vv rfl rfl rfl (vv_load1 one_3 rfl B7 (by rfl)) ?_
  refine sd_ev rfl rfl rfl (ev_call en_60 rfl (rbelow_c _ _ (by omega) (by omega) _)) ?_
  rintro _ w4 ⟨rfl, Gw4⟩
  have z8 := Gw4.size
  refine sd_split rfl rfl rfl (vv_move rfl) (fun h1 => ?_) (fun h1 => ?_)
  · -- h1 True
    refine sd_vv rfl rfl rfl (vv_fieldAddr fa_47_1 rfl) ?_
    have B9 := (Bx.gr B7 Gw4)
    refine sd_vv rfl rfl rfl (vv_load1 one_3 rfl B9 (by rfl)) ?_
    refine sd_vv rfl rfl rfl (vv_eql rfl rfl) ?_
    refine sd_split rfl rfl rfl (vv_move rfl) (fun h2 => ?_) (fun h2 => ?_)
    · -- h2 True
      replace h2 := of_decide_eq_true h2
      refine sd_skip rfl rfl rfl ?_
      refine sd_skip rfl rfl rfl ?_
      refine sd_skip rfl rfl rfl ?_
      refine sd_skip rfl rfl rfl ?_
      refine sd_skip rfl rfl rfl ?_
      refine sd_vv rfl rfl rfl (vv_pickT rfl rfl) ?_
      refine sd_vv rfl rfl rfl (vv_pickT rfl rfl) ?_
      refine sd_vv rfl rfl rfl (vv_assign rfl) ?_
      refine sd_done ?_
      refine sw_ret ?_
      have X10 : Gr w w4 := (Gr.trans (Gr.trans (Gr.trans (Gr.trans (Gr.refl w) Gw1) Gw2) Gw3) Gw4)
      refine ⟨_, _, rfl, res_tmp rfl rfl, ?_⟩
      exact ⟨congrArg Value.bool (by first | (simp [memB, *]; done) | (simp [memB, blw_0, *]; done)), X10⟩
    · -- h2 False
      replace h2 := of_decide_eq_false h2
      refine sd_vv rfl rfl rfl (vv_move rfl) ?_
      refine sd_vv rfl rfl rfl (vv_fieldAddr fa_47_1 rfl) ?_
      refine sd_vv rfl rfl rfl (vv_load1 one_3 rfl B9 (by rfl)) ?_
      refine sd_ev rfl rfl rfl (ev_call en_60 rfl (rbelow_c _ _ (by omega) (by omega) _)) ?_
      rintro _ w5 ⟨rfl, Gw5⟩
      have z11 := Gw5.size
      refine sd_vv rfl rfl rfl (vv_not rfl) ?_
      refine sd_vv rfl rfl rfl (vv_pickF rfl rfl) ?_
      refine sd_vv rfl rfl rfl (vv_pickT rfl rfl) ?_
      refine sd_vv rfl rfl rfl (vv_assign rfl) ?_
      refine sd_done ?_
      refine sw_ret ?_
      have X12 : Gr w w5 := (Gr.trans (Gr.trans (Gr.trans (Gr.trans (Gr.trans (Gr.refl w) Gw1) Gw2) Gw3) Gw4) Gw5)
      refine ⟨_, _, rfl, res_tmp rfl rfl, ?_⟩
      exact ⟨congrArg Value.bool (by first | (simp [memB, *]; done) | (simp [memB, blw_0, *]; done)), X12⟩
  · -- h1 False
    refine sd_skip rfl rfl rfl ?_
    refine sd_skip rfl rfl rfl ?_
    refine sd_skip rfl rfl rfl ?_
    refine sd_skip rfl rfl rfl ?_
    refine sd_skip rfl rfl rfl ?_
    refine sd_skip rfl rfl rfl ?_
    refine sd_skip rfl rfl rfl ?_
    refine sd_skip rfl rfl rfl ?_
    refine sd_skip rfl rfl rfl ?_
    refine sd_skip rfl rfl rfl ?_
    refine sd_vv rfl rfl rfl (vv_pickF rfl rfl) ?_
    refine sd_vv rfl rfl rfl (vv_assign rfl) ?_
    refine sd_done ?_
    refine sw_ret ?_
    have X13 : Gr w w4 := (Gr.trans (Gr.trans (Gr.trans (Gr.trans (Gr.refl w) Gw1) Gw2) Gw3) Gw4)
    refine ⟨_, _, rfl, res_tmp rfl rfl, ?_⟩
    exact ⟨congrArg Value.bool (by first | (simp [memB, *]; done) | (simp [memB, blw_0, *]; done)), X13⟩

set_option maxHeartbeats 1000000 in
theorem membersOf_c (s : Sch) (hd0 : 0 ≤ s.d) (hd6 : s.d ≤ 6) (x : Int × Int) (hx1 : 1 ≤ x.1) (hx2 : 0 ≤ x.2) (w : World) :
    Calls Try.prog 85 [sv s, xv x].toArray w fun e w' => ∃ v, e = .returned v ∧ (∃ z g, Own w' z g 3 1 v ((mem s.d x).map ic) ∧ (z = 0 ∨ w.heap.size ≤ g) ∧ Gr w w') := by
  have hsz := sz_bd hd0 hd6
  refine calls_of_sw (R := fun v w' => ∃ z g, Own w' z g 3 1 v ((mem s.d x).map ic) ∧ (z = 0 ∨ w.heap.size ≤ g) ∧ Gr w w') 23 Try.func85 rfl rfl rfl ?_
  refine sw_seq ?_
  -- region 0 ref.go:128
  refine sw_region [(0, 0), (1, 0), (2, 0)] rfl rfl rfl ?_
  refine sd_ev rfl rfl rfl (ev_box rfl (by rfl)) ?_
  rintro _ w1 ⟨b1, rfl, hbw1, Bw1, Gw1⟩
  have z1 := Gw1.size
  have lt2 := Bw1.lt
  refine sd_ev rfl rfl rfl (ev_box rfl (by rfl)) ?_
  rintro _ w2 ⟨b2, rfl, hbw2, Bw2, Gw2⟩
  have z3 := Gw2.size
  have lt4 := Bw2.lt
  refine sd_vv rfl rfl rfl (vv_assign rfl) ?_
  refine sd_done ?_
  refine sw_seq ?_
  -- region 1 ref.go:129
  refine sw_region [(0, 0)] rfl rfl rfl ?_
  refine sd_vv rfl rfl rfl (vv_assign rfl) ?_
  refine sd_done ?_
  refine sw_seq ?_
  refine sw_seq ?_
  -- region 2 ref.go:130
  refine sw_region [(0, 0)] rfl rfl rfl ?_
  refine sd_vv rfl rfl rfl (vv_assign rfl) ?_
  refine sd_done ?_
  refine sw_block ?_
  have X5 : Gr w w2 := (Gr.trans (Gr.trans (Gr.refl w) Gw1) Gw2)
  refine sw_loopD (α := Nat × Value × Nat × Nat) [5, 6, 7, 8, 9, 10, 11, 12, 13, 14, 15, 16, 17, 18, 19, 20, 21] (fun ⟨i, v, z, g⟩ => [(6, .int .i64 (i : Int)), (5, v)]) (fun ⟨i, v, z, g⟩ wr => (i ≤ (sz s.d).toNat) ∧ (Own wr z g 3 1 v ((memTo s.d x i).map ic) ∧ (z = 0 ∨ w2.heap.size ≤ g)) ∧ Kp [] w2 wr) (fun ⟨i, v, z, g⟩ => (sz s.d).toNat - i) (⟨0, .slice none 0 0, 0, 0⟩) ?_ ?_ ?_
  · repeat' first | exact trivial | refine ⟨rfl, ?_⟩
  · exact ⟨Nat.zero_le _, ⟨(own_nil _ 0 _ _), .inl rfl⟩, Kp.refl _ _⟩
  rintro ⟨i, v, z, g⟩ w3 ⟨hi, ⟨Ow3_5, hOw3_5⟩, Kw3⟩
  have z6 := Kw3.size
  have lt7 := Ow3_5.lt
  refine sw_seq ?_
  refine sw_seq ?_
  -- region 3 ref.go:130
  refine sw_region [(0, 0), (1, 0), (2, 0), (3, 0), (4, 0)] rfl rfl rfl ?_
  refine sd_vv rfl rfl rfl (vv_move rfl) ?_
  refine sd_vv rfl rfl rfl (vv_fieldAddr fa_45_1 rfl) ?_
  have B8 := (Bx.kp (Bx.gr Bw1 Gw2) Kw3 (by simp <;> omega))
  refine sd_vv rfl rfl rfl (vv_load1 one_3 rfl B8 (by rfl)) ?_
  refine sd_ev rfl rfl rfl (ev_call en_118 rfl (recv_c _ (by omega) (by omega) _)) ?_
  rintro _ w4 ⟨rfl, Gw4⟩
  have z9 := Gw4.size
  refine sd_vv rfl rfl rfl (vv_lss rfl rfl) ?_
  refine sd_done ?_
  refine sw_cond rfl (fun h1 => ?_) (fun h1 => ?_)
  · -- h1 True
    replace h1 := of_decide_eq_true h1
    refine sw_skip ?_
    refine then_n ?_
    refine sw_seq ?_
    refine sw_block ?_
    refine sw_seq ?_
    -- region 5 ref.go:131
    refine sw_region [(0, 0), (1, 0), (2, 0), (3, 0)] rfl rfl rfl ?_
    have B10 := (Bx.gr B8 Gw4)
    refine sd_vv rfl rfl rfl (vv_loadW agg_45 rfl B10 (by rfl)) ?_
    have B11 := (Bx.gr (Bx.kp Bw2 Kw3 (by simp <;> omega)) Gw4)
    refine sd_vv rfl rfl rfl (vv_loadW agg_47 rfl B11 (by rfl)) ?_
    refine sd_vv rfl rfl rfl (vv_move rfl) ?_
    refine sd_ev rfl rfl rfl (ev_call en_106 rfl (rhas_c _ (by omega) (by omega) _ (by omega) (by omega) _ (by omega) _)) ?_
    rintro _ w5 ⟨rfl, Gw5⟩
    have z12 := Gw5.size
    refine sd_done ?_
    refine sw_cond rfl (fun h2 => ?_) (fun h2 => ?_)
    · -- h2 True
      -- region 6 ref.go:132
      refine sw_region [(0, 0), (1, 0), (2, 0), (3, 0), (4, 0)] rfl rfl rfl ?_
      refine sd_vv rfl rfl rfl (vv_move rfl) ?_
      refine sd_vv rfl rfl rfl (vv_move rfl) ?_
      refine sd_ev rfl rfl rfl (ev_lit bsl_61_1 rfl rfl rfl rfl rfl) ?_
      rintro vw6 w6 ⟨gw6, hbw6, Ow6, Gw6⟩
      have z13 := Gw6.size
      have lt14 := Ow6.lt
      have B15 := (Own.gr (Own.gr (Own.gr Ow3_5 Gw4) Gw5) Gw6)
      refine sd_ev rfl rfl rfl (ev_app apt_61 rfl rfl B15 (Own.rd Ow6) (by have := memTo_len s.d x i; simp [chunk]; omega) (by have := memTo_len s.d x i; simp [chunk]; omega)) ?_
      rintro vw7 w7 ⟨zw7, gw7, Ow7, Aw7, qw7, rw7, sw7⟩
      have z16 := Aw7.size
      have lt17 := Ow7.lt
      refine sd_vv rfl rfl rfl (vv_assign rfl) ?_
      refine sd_nil ?_
      refine block_n ?_
      refine then_n ?_
      -- region 4 ref.go:130
      refine sw_region [(0, 0), (1, 0), (2, 0)] rfl rfl rfl ?_
      refine sd_vv rfl rfl rfl (vv_move rfl) ?_
      refine sd_vv rfl rfl rfl (vv_add64 rfl rfl (by omega) (by omega)) ?_
      refine sd_vv rfl rfl rfl (vv_assign rfl) ?_
      refine sd_nil ?_
      have K_18 := (Kp.ka (Kp.gr (Kp.gr (Kp.gr Kw3 Gw4) Gw5) Gw6) Aw7 (by simp <;> omega))
      refine ⟨rfl, ⟨i + 1, vw7, zw7, gw7⟩, ?_, ⟨?_, ⟨?_, by omega⟩, K_18⟩, ?_⟩
      · repeat' first | exact trivial | refine ⟨rfl, ?_⟩
      · omega
      · first | (rw [memTo_t ‹_›, List.map_append]; exact Ow7) | (rw [memTo_f ‹_›]; exact Ow7)
      · first | omega | (dsimp only; omega)
    · -- h2 False
      refine sw_skip ?_
      refine block_n ?_
      refine then_n ?_
      -- region 4 ref.go:130
      refine sw_region [(0, 0), (1, 0), (2, 0)] rfl rfl rfl ?_
      refine sd_vv rfl rfl rfl (vv_move rfl) ?_
      refine sd_vv rfl rfl rfl (vv_add64 rfl rfl (by omega) (by omega)) ?_
      refine sd_vv rfl rfl rfl (vv_assign rfl) ?_
      refine sd_nil ?_
      have K_19 := (Kp.gr (Kp.gr Kw3 Gw4) Gw5)
      have B20 := (Own.gr (Own.gr Ow3_5 Gw4) Gw5)
      refine ⟨rfl, ⟨i + 1, v, z, g⟩, ?_, ⟨?_, ⟨?_, by omega⟩, K_19⟩, ?_⟩
      · repeat' first | exact trivial | refine ⟨rfl, ?_⟩
      · omega
      · first | (rw [memTo_t ‹_›, List.map_append]; exact B20) | (rw [memTo_f ‹_›]; exact B20)
      · first | omega | (dsimp only; omega)
  · -- h1 False
    replace h1 := of_decide_eq_false h1
    refine sw_exit ?_
    refine then_x ?_
    refine then_x ?_
    refine block_x ?_
    refine then_n ?_
    refine sw_seq ?_
    -- region 7 ref.go:135
    refine sw_region [(0, 0), (1, 0)] rfl rfl rfl ?_
    refine sd_vv rfl rfl rfl (vv_move rfl) ?_
    refine sd_vv rfl rfl rfl (vv_assign rfl) ?_
    refine sd_done ?_
    refine sw_ret ?_
    obtain rfl : i = (sz s.d).toNat := by omega
    have X21 : Gr w w4 := (Gr.trans (Gr.kp X5 Kw3 (by simp <;> omega)) Gw4)
    refine ⟨_, _, rfl, res_tmp rfl rfl, ?_⟩
    have B22 := (Own.gr Ow3_5 Gw4)
    exact ⟨z, g, B22, by omega, X21⟩

noncomputable def splO (s : Sch) (x : Int × Int) : List (Int × Int) := if (mem s.d x).length = 1 then [] else splB s.k s.d x
theorem splO_1 {s : Sch} {x : Int × Int} (h : ((mem s.d x).map ic).length = 1) : splO s x = [] := by simp at h; simp [splO, h]
theorem splO_0 {s : Sch} {x : Int × Int} (h : ¬ ((mem s.d x).map ic).length = 1) : splO s x = splB s.k s.d x := by simp at h; simp [splO, h]
theorem splB_len (k d : Int) (x : Int × Int) : (splB k d x).length = 2 := by unfold splB; (repeat' split) <;> rfl
theorem sub_snd {k d : Int} {x : Int × Int} (h : subB k d x = true) : 0 ≤ x.2 := by
  unfold subB at h
  have h2 := (Bool.and_eq_true_iff.1 h).2
  split at h2
  · have := of_decide_eq_true h2; omega
  · simp only [Bool.and_eq_true] at h2
    have := of_decide_eq_true h2.1.1.1
    omega
theorem path1 {n q : Nat} (hk : 2 ^ q ≤ n / 2) : (((n / 2 ^ (q + 1) :: pathN n (q + 1)).map (Nat.cast : Nat → Int)).map ic)[1]? = some (ic ((n / 2 ^ q : Nat) : Int)) := by
  rw [pathN_succ]; rfl
theorem rspl {s : Sch} {x : Int × Int} (hv : vld s = true) (hs : subB s.k s.d x = true) : entE s [x] = 0 ∧ ek s [x] = s.k ∧ ed s [x] = s.d := by
  obtain ⟨e1, e2, _⟩ := tree_yes hv
  have h0 : entE s [x] = 0 := ent_0 hv (by intro y hy; simp at hy; subst hy; rw [e1, e2]; exact hs)
  obtain ⟨_, _, q1, q2, _⟩ := ent_yes h0
  exact ⟨h0, by rw [q1, e1], by rw [q2, e2]⟩
theorem rspl_30 {s : Sch} {x : Int × Int} (hv : vld s = false) : splE s x = 30 ∧ splL s x = [] := by
  have := ent_30 (xs := [x]) hv
  obtain ⟨r1, r2⟩ := spl_e (s := s) (x := x) (by rw [this]; decide)
  exact ⟨by rw [r1, this], r2⟩
theorem rspl_31 {s : Sch} {x : Int × Int} (hv : vld s = true) (hs : subB s.k s.d x = false) : splE s x = 31 ∧ splL s x = [] := by
  obtain ⟨e1, e2, _⟩ := tree_yes hv
  have := ent_31 (xs := [x]) (i := 0) (y := x) hv rfl (by rw [e1, e2]; exact hs)
  obtain ⟨r1, r2⟩ := spl_e (s := s) (x := x) (by rw [this]; decide)
  exact ⟨by rw [r1, this], r2⟩
theorem rspl_6 {s : Sch} {x : Int × Int} (hv : vld s = true) (hs : subB s.k s.d x = true) (hl : (splO s x).length = 0) : splE s x = 6 ∧ splL s x = [] := by
  obtain ⟨h0, h1, h2⟩ := rspl hv hs
  refine spl_6 (by simp [h0]) ?_
  rw [h2]
  unfold splO at hl
  split at hl
  · rename_i h; simpa using h
  · rw [splB_len] at hl; omega
theorem rspl_0 {s : Sch} {x : Int × Int} (hv : vld s = true) (hs : subB s.k s.d x = true) (hl : ¬ (splO s x).length = 0) : splE s x = 0 ∧ splL s x = splO s x := by
  obtain ⟨h0, h1, h2⟩ := rspl hv hs
  have hm : ¬ (mem s.d x).length = 1 := by
    intro h
    simp [splO, h] at hl
  obtain ⟨r1, r2⟩ := spl_0 (s := s) (x := x) (by simp [h0]) (by rw [h2]; simpa using hm)
  exact ⟨r1, by rw [r2, h1, h2, splO, if_neg hm]⟩

set_option maxHeartbeats 1000000 in
theorem splitOf_c (s : Sch) (hd0 : 0 ≤ s.d) (hd6 : s.d ≤ 6) (x : Int × Int) (hx1 : -9223372036854775808 ≤ x.1) (hx2 : x.1 ≤ 9223372036854775807) (hx3 : -9223372036854775808 ≤ x.2) (hx4 : x.2 ≤ 9223372036854775807) (hsx : subB s.k s.d x = true) (w : World) :
    Calls Try.prog 81 [sv s, xv x].toArray w fun e w' => ∃ v, e = .returned v ∧ (∃ z g, Own w' z g 47 2 v ((splO s x).map xc) ∧ (z = 0 ∨ w.heap.size ≤ g) ∧ Gr w w') := by
  have hbx := hasN_bd (sub_has hsx) hd0 hd6
  have hx20 := sub_snd hsx
  refine calls_of_sw (R := fun v w' => ∃ z g, Own w' z g 47 2 v ((splO s x).map xc) ∧ (z = 0 ∨ w.heap.size ≤ g) ∧ Gr w w') 72 Try.func81 rfl rfl rfl ?_
  refine sw_seq ?_
  -- region 0 ref.go:237
  refine sw_region [(0, 0), (1, 0), (2, 0)] rfl rfl rfl ?_
  refine sd_ev rfl rfl rfl (ev_box rfl (by rfl)) ?_
  rintro _ w1 ⟨b1, rfl, hbw1, Bw1, Gw1⟩
  have z1 := Gw1.size
  have lt2 := Bw1.lt
  refine sd_ev rfl rfl rfl (ev_box rfl (by rfl)) ?_
  rintro _ w2 ⟨b2, rfl, hbw2, Bw2, Gw2⟩
  have z3 := Gw2.size
  have lt4 := Bw2.lt
  refine sd_vv rfl rfl rfl (vv_assign rfl) ?_
  refine sd_done ?_
  refine sw_seq ?_
  -- region 1 ref.go:238 DRAWS
  refine sw_draw [] [(0, 3), (1, 3), (2, 3), (3, 3), (4, 3), (5, 3)] (by kernel_rfl) (by kernel_rfl) rfl (by kernel_rfl) ?_
  intro w3 Gw3 zw3
  refine dd_h3 rfl rfl rfl (Kp.refl [] w3) (fun w hS => vv_fieldAddr fa_47_0 rfl) ?_
  have B5 := (Bx.gr Bw2 Gw3)
  refine dd_h3 rfl rfl rfl (Kp.refl [] w3) (fun w hS => vv_load1 one_3 rfl (Bx.kp B5 hS (by simp <;> omega)) (by rfl)) ?_
  refine dd_h3 rfl rfl rfl (Kp.refl [] w3) (fun w hS => vv_fieldAddr fa_47_1 rfl) ?_
  refine dd_h3 rfl rfl rfl (Kp.refl [] w3) (fun w hS => vv_load1 one_3 rfl (Bx.kp B5 hS (by simp <;> omega)) (by rfl)) ?_
  refine dd_h3 rfl rfl rfl (Kp.refl [] w3) (fun w hS => vv_assign rfl) ?_
  refine dd_h3 rfl rfl rfl (Kp.refl [] w3) (fun w hS => vv_assign rfl) ?_
  refine sd_done ?_
  refine sw_seq ?_
  refine sw_seq ?_
  -- region 2 ref.go:239
  refine sw_region [(0, 0), (1, 0), (2, 0), (3, 0), (4, 0)] rfl rfl rfl ?_
  have B6 := (Bx.gr (Bx.gr Bw1 Gw2) Gw3)
  refine sd_vv rfl rfl rfl (vv_loadW agg_45 rfl B6 (by rfl)) ?_
  refine sd_vv rfl rfl rfl (vv_loadW agg_47 rfl B5 (by rfl)) ?_
  refine sd_ev rfl rfl rfl (ev_call en_85 rfl (membersOf_c _ (by omega) (by omega) _ (by omega) (by omega) _)) ?_
  rintro v4 w4 ⟨z4_, g4_, O4, hg4, Gw4⟩
  have z7 := Gw4.size
  have lt8 := O4.lt
  refine sd_vv rfl rfl rfl (vv_len Try.underlying61 rfl (Own.rd O4)) ?_
  refine sd_vv rfl rfl rfl (vv_eql rfl rfl) ?_
  refine sd_done ?_
  refine sw_cond rfl (fun h1 => ?_) (fun h1 => ?_)
  · -- h1 True
    replace h1 := of_decide_eq_true h1
    replace h1 : ((mem s.d x).map ic).length = 1 := by omega
    refine sw_seq ?_
    -- region 3 ref.go:240
    refine sw_region [(0, 0)] rfl rfl rfl ?_
    refine sd_vv rfl rfl rfl (vv_assign rfl) ?_
    refine sd_done ?_
    refine sw_ret ?_
    refine then_r ?_
    have X9 : Gr w w4 := (Gr.trans (Gr.trans (Gr.trans (Gr.trans (Gr.refl w) Gw1) Gw2) Gw3) Gw4)
    refine ⟨_, _, rfl, res_tmp rfl rfl, ?_⟩
    exact ⟨0, 0, by rw [splO_1 h1]; exact (own_nil _ 0 _ _), by omega, X9⟩
  · -- h1 False
    replace h1 := of_decide_eq_false h1
    replace h1 : ¬ ((mem s.d x).map ic).length = 1 := by omega
    refine sw_skip ?_
    refine then_n ?_
    refine sw_seq ?_
    refine sw_seq ?_
    -- region 4 ref.go:242
    refine sw_region [(0, 0), (1, 0), (2, 0)] rfl rfl rfl ?_
    refine sd_vv rfl rfl rfl (vv_fieldAddr fa_45_0 rfl) ?_
    have B10 := (Bx.gr B6 Gw4)
    refine sd_vv rfl rfl rfl (vv_load1 one_5 rfl B10 (by rfl)) ?_
    refine sd_vv rfl rfl rfl (vv_eql rfl rfl) ?_
    refine sd_done ?_
    refine sw_cond rfl (fun h2 => ?_) (fun h2 => ?_)
    · -- h2 True
      replace h2 := of_decide_eq_true h2
      refine sw_seq ?_
      -- region 5 ref.go:243
      refine sw_region [(0, 0), (1, 0), (2, 0), (3, 0), (4, 0), (5, 0), (6, 0), (7, 0), (8, 0)] rfl rfl rfl ?_
      refine sd_vv rfl rfl rfl (vv_move rfl) ?_
      refine sd_vv rfl rfl rfl (vv_mul64 rfl rfl (by omega) (by omega)) ?_
      refine sd_vv rfl rfl rfl (vv_build bs_47 rfl rfl) ?_
      refine sd_vv rfl rfl rfl (vv_move rfl) ?_
      refine sd_vv rfl rfl rfl (vv_mul64 rfl rfl (by omega) (by omega)) ?_
      refine sd_vv rfl rfl rfl (vv_add64 rfl rfl (by omega) (by omega)) ?_
      refine sd_vv rfl rfl rfl (vv_build bs_47 rfl rfl) ?_
      refine sd_ev rfl rfl rfl (ev_lit bsl_48_2 rfl rfl rfl rfl rfl) ?_
      rintro vw5 w5 ⟨gw5, hbw5, Ow5, Gw5⟩
      have z11 := Gw5.size
      have lt12 := Ow5.lt
      refine sd_vv rfl rfl rfl (vv_assign rfl) ?_
      refine sd_done ?_
      refine sw_ret ?_
      refine then_r ?_
      have X13 : Gr w w5 := (Gr.trans (Gr.trans (Gr.trans (Gr.trans (Gr.trans (Gr.refl w) Gw1) Gw2) Gw3) Gw4) Gw5)
      refine ⟨_, _, rfl, res_tmp rfl rfl, ?_⟩
      exact ⟨1, gw5, by rw [splO_0 h1, splB, if_pos h2]; exact Ow5, by omega, X13⟩
    · -- h2 False
      replace h2 := of_decide_eq_false h2
      refine sw_skip ?_
      refine then_n ?_
      refine sw_seq ?_
      refine sw_seq ?_
      -- region 6 ref.go:245
      refine sw_region [(0, 0), (1, 0)] rfl rfl rfl ?_
      refine sd_vv rfl rfl rfl (vv_move rfl) ?_
      refine sd_vv rfl rfl rfl (vv_eql rfl rfl) ?_
      refine sd_done ?_
      refine sw_cond rfl (fun h3 => ?_) (fun h3 => ?_)
      · -- h3 True
        replace h3 := of_decide_eq_true h3
        refine sw_seq ?_
        -- region 7 ref.go:246
        refine sw_region [(0, 0), (1, 0), (2, 0), (3, 0)] rfl rfl rfl ?_
        refine sd_vv rfl rfl rfl (vv_build bs_47 rfl rfl) ?_
        refine sd_vv rfl rfl rfl (vv_build bs_47 rfl rfl) ?_
        refine sd_ev rfl rfl rfl (ev_lit bsl_48_2 rfl rfl rfl rfl rfl) ?_
        rintro vw6 w6 ⟨gw6, hbw6, Ow6, Gw6⟩
        have z14 := Gw6.size
        have lt15 := Ow6.lt
        refine sd_vv rfl rfl rfl (vv_assign rfl) ?_
        refine sd_done ?_
        refine sw_ret ?_
        refine then_r ?_
        have X16 : Gr w w6 := (Gr.trans (Gr.trans (Gr.trans (Gr.trans (Gr.trans (Gr.refl w) Gw1) Gw2) Gw3) Gw4) Gw6)
        refine ⟨_, _, rfl, res_tmp rfl rfl, ?_⟩
        exact ⟨1, gw6, by rw [splO_0 h1, splB, if_neg h2, if_pos h3]; exact Ow6, by omega, X16⟩
      · -- h3 False
        replace h3 := of_decide_eq_false h3
        refine sw_skip ?_
        refine then_n ?_
        refine sw_seq ?_
        obtain ⟨hh2, hne, hbl⟩ := sub_blw hsx ‹_› ‹_›
        have hbx2 := hasN_bd hh2 (by omega) (by omega)
        obtain ⟨n, q, en1, en2, hk2, ht⟩ := blw_split hbl hne (by omega)
        have htb := towN_bd en1 en2 hk2
        have hxb := xor1_bd (c := towN x.1 x.2) (by omega) (by omega)
        obtain ⟨hk1, hk3⟩ := half_pow hk2
        have hte := towN_e en1 en2 hk2
        -- region 8 ref.go:248
        refine sw_region [(0, 0), (1, 0), (2, 0), (3, 0), (4, 0), (5, 0)] rfl rfl rfl ?_
        refine sd_vv rfl rfl rfl (vv_move rfl) ?_
        refine sd_vv rfl rfl rfl (vv_move rfl) ?_
        refine sd_ev rfl rfl rfl (ev_call en_108 rfl (rpath_c _ _ n (q + 1) (by rw [en1, hk3]) en2 hk1 (by omega) _)) ?_
        rintro v7 w7 ⟨z7_, g7_, O7, hg7, Gw7⟩
        have z17 := Gw7.size
        have lt18 := O7.lt
        refine sd_vv rfl rfl rfl (vv_ixN (n := q + 2) Try.underlying61 (one_3).siz rfl (Own.rd O7) (by simp [pathN_len]) rfl (by omega) (by omega)) ?_
        refine sd_vv rfl rfl rfl (vv_el1 (q := 0) one_3 rfl (Own.rd O7) (path1 hk2) (by omega) (show _ = some (Value.int .i64 (towN x.1 x.2)) from by rw [hte]; rfl)) ?_
        refine sd_vv rfl rfl rfl (vv_assign rfl) ?_
        refine sd_done ?_
        refine sw_seq ?_
        refine sw_seq ?_
        -- region 9 ref.go:249
        refine sw_region [(0, 0), (1, 0), (2, 0)] rfl rfl rfl ?_
        refine sd_vv rfl rfl rfl (vv_move rfl) ?_
        refine sd_vv rfl rfl rfl (vv_move rfl) ?_
        refine sd_vv rfl rfl rfl (vv_eql rfl rfl) ?_
        refine sd_done ?_
        refine sw_cond rfl (fun h4 => ?_) (fun h4 => ?_)
        · -- h4 True
          replace h4 := of_decide_eq_true h4
          refine sw_seq ?_
          -- region 10 ref.go:250
          refine sw_region [(0, 0), (1, 0), (2, 0)] rfl rfl rfl ?_
          refine sd_vv rfl rfl rfl (vv_move rfl) ?_
          refine sd_vv rfl rfl rfl (vv_bits (by simp) rfl rfl) ?_
          refine sd_vv rfl rfl rfl (vv_assign rfl) ?_
          refine sd_done ?_
          refine sw_seq ?_
          -- region 11 ref.go:251
          refine sw_region [(0, 0), (1, 0), (2, 0), (3, 0), (4, 0), (5, 0), (6, 0), (7, 0), (8, 0), (9, 0), (10, 0)] rfl rfl rfl ?_
          refine sd_vv rfl rfl rfl (vv_move rfl) ?_
          refine sd_vv rfl rfl rfl (vv_move rfl) ?_
          refine sd_vv rfl rfl rfl (vv_mul64 rfl rfl (by omega) (by omega)) ?_
          refine sd_vv rfl rfl rfl (vv_build bs_47 rfl rfl) ?_
          refine sd_vv rfl rfl rfl (vv_move rfl) ?_
          refine sd_vv rfl rfl rfl (vv_move rfl) ?_
          refine sd_vv rfl rfl rfl (vv_mul64 rfl rfl (by omega) (by omega)) ?_
          refine sd_vv rfl rfl rfl (vv_add64 rfl rfl (by omega) (by omega)) ?_
          refine sd_vv rfl rfl rfl (vv_build bs_47 rfl rfl) ?_
          refine sd_ev rfl rfl rfl (ev_lit bsl_48_2 rfl rfl rfl rfl rfl) ?_
          rintro vw8 w8 ⟨gw8, hbw8, Ow8, Gw8⟩
          have z19 := Gw8.size
          have lt20 := Ow8.lt
          refine sd_vv rfl rfl rfl (vv_assign rfl) ?_
          refine sd_done ?_
          refine sw_ret ?_
          refine then_r ?_
          have X21 : Gr w w8 := (Gr.trans (Gr.trans (Gr.trans (Gr.trans (Gr.trans (Gr.trans (Gr.refl w) Gw1) Gw2) Gw3) Gw4) Gw7) Gw8)
          refine ⟨_, _, rfl, res_tmp rfl rfl, ?_⟩
          exact ⟨1, gw8, by rw [splO_0 h1, splB, if_neg h2, if_neg h3, if_pos h4]; exact Ow8, by omega, X21⟩
        · -- h4 False
          replace h4 := of_decide_eq_false h4
          refine sw_skip ?_
          refine then_n ?_
          refine sw_seq ?_
          refine sw_seq ?_
          -- region 12 ref.go:253
          refine sw_region [(0, 0), (1, 0), (2, 0), (3, 0), (4, 0), (5, 0)] rfl rfl rfl ?_
          have B22 := (Bx.gr B10 Gw7)
          refine sd_vv rfl rfl rfl (vv_loadW agg_45 rfl B22 (by rfl)) ?_
          refine sd_vv rfl rfl rfl (vv_move rfl) ?_
          refine sd_vv rfl rfl rfl (vv_move rfl) ?_
          refine sd_vv rfl rfl rfl (vv_build bs_47 rfl rfl) ?_
          refine sd_ev rfl rfl rfl (ev_call en_62 rfl (isSub_c _ hd0 hd6 (towN x.1 x.2, x.2) (by dsimp only; omega) (by dsimp only; omega) (by dsimp only; omega) (by dsimp only; omega) _)) ?_
          rintro _ w9 ⟨rfl, Gw9⟩
          have z23 := Gw9.size
          refine sd_vv rfl rfl rfl (vv_not rfl) ?_
          refine sd_done ?_
          refine sw_cond rfl (fun h5 => ?_) (fun h5 => ?_)
          · -- h5 True
            replace h5 := not_bt h5
            -- region 13 ref.go:254
            refine sw_region [(0, 0), (1, 0), (2, 0), (3, 0), (4, 0), (5, 0)] rfl rfl rfl ?_
            refine sd_vv rfl rfl rfl (vv_fieldAddr fa_45_1 rfl) ?_
            have B24 := (Bx.gr B22 Gw9)
            refine sd_vv rfl rfl rfl (vv_load1 one_3 rfl B24 (by rfl)) ?_
            refine sd_vv rfl rfl rfl (vv_move rfl) ?_
            refine sd_vv rfl rfl rfl (vv_move rfl) ?_
            refine sd_ev rfl rfl rfl (ev_call en_121 rfl (between_c _ _ _ hd0 hd6 n q en1 en2 hk2 (by omega) _)) ?_
            rintro _ w10 ⟨rfl, Gw10⟩
            have z25 := Gw10.size
            refine sd_vv rfl rfl rfl (vv_assign rfl) ?_
            refine sd_done ?_
            refine sw_seq ?_
            -- region 14 ref.go:256
            refine sw_region [(0, 0), (1, 0), (2, 0), (3, 0), (4, 0), (5, 0), (6, 0), (7, 0)] rfl rfl rfl ?_
            refine sd_vv rfl rfl rfl (vv_move rfl) ?_
            refine sd_vv rfl rfl rfl (vv_move rfl) ?_
            refine sd_vv rfl rfl rfl (vv_build bs_47 rfl rfl) ?_
            refine sd_vv rfl rfl rfl (vv_move rfl) ?_
            refine sd_vv rfl rfl rfl (vv_move rfl) ?_
            refine sd_vv rfl rfl rfl (vv_build bs_47 rfl rfl) ?_
            refine sd_ev rfl rfl rfl (ev_lit bsl_48_2 rfl rfl rfl rfl rfl) ?_
            rintro vw11 w11 ⟨gw11, hbw11, Ow11, Gw11⟩
            have z26 := Gw11.size
            have lt27 := Ow11.lt
            refine sd_vv rfl rfl rfl (vv_assign rfl) ?_
            refine sd_done ?_
            refine sw_ret ?_
            have X28 : Gr w w11 := (Gr.trans (Gr.trans (Gr.trans (Gr.trans (Gr.trans (Gr.trans (Gr.trans (Gr.trans (Gr.refl w) Gw1) Gw2) Gw3) Gw4) Gw7) Gw9) Gw10) Gw11)
            refine ⟨_, _, rfl, res_tmp rfl rfl, ?_⟩
            exact ⟨1, gw11, by rw [splO_0 h1, splB, if_neg h2, if_neg h3, if_neg h4, if_neg (by rw [h5]; decide)]; exact Ow11, by omega, X28⟩
          · -- h5 False
            replace h5 := not_bf h5
            refine sw_skip ?_
            refine then_n ?_
            refine sw_seq ?_
            -- region 14 ref.go:256
            refine sw_region [(0, 0), (1, 0), (2, 0), (3, 0), (4, 0), (5, 0), (6, 0), (7, 0)] rfl rfl rfl ?_
            refine sd_vv rfl rfl rfl (vv_move rfl) ?_
            refine sd_vv rfl rfl rfl (vv_move rfl) ?_
            refine sd_vv rfl rfl rfl (vv_build bs_47 rfl rfl) ?_
            refine sd_vv rfl rfl rfl (vv_move rfl) ?_
            refine sd_vv rfl rfl rfl (vv_move rfl) ?_
            refine sd_vv rfl rfl rfl (vv_build bs_47 rfl rfl) ?_
            refine sd_ev rfl rfl rfl (ev_lit bsl_48_2 rfl rfl rfl rfl rfl) ?_
            rintro vw12 w12 ⟨gw12, hbw12, Ow12, Gw12⟩
            have z29 := Gw12.size
            have lt30 := Ow12.lt
            refine sd_vv rfl rfl rfl (vv_assign rfl) ?_
            refine sd_done ?_
            refine sw_ret ?_
            have X31 : Gr w w12 := (Gr.trans (Gr.trans (Gr.trans (Gr.trans (Gr.trans (Gr.trans (Gr.trans (Gr.refl w) Gw1) Gw2) Gw3) Gw4) Gw7) Gw9) Gw12)
            refine ⟨_, _, rfl, res_tmp rfl rfl, ?_⟩
            exact ⟨1, gw12, by rw [splO_0 h1, splB, if_neg h2, if_neg h3, if_neg h4, if_pos h5]; exact Ow12, by omega, X31⟩

set_option maxHeartbeats 1000000 in
theorem rsplit_c (s : Sch) (x : Int × Int) (hx1 : -9223372036854775808 ≤ x.1) (hx2 : x.1 ≤ 9223372036854775807) (hx3 : -9223372036854775808 ≤ x.2) (hx4 : x.2 ≤ 9223372036854775807)  (w : World) :
    Calls Try.prog 29 [sv s, xv x].toArray w fun e w' => ∃ v, e = .returned v ∧ (∃ u z g, v = .tuple [u, .int .i64 (splE s x)].toArray ∧ Own w' z g 47 2 u ((splL s x).map xc) ∧ (z = 0 ∨ w.heap.size ≤ g) ∧ Gr w w') := by
  refine calls_of_sw (R := fun v w' => ∃ u z g, v = .tuple [u, .int .i64 (splE s x)].toArray ∧ Own w' z g 47 2 u ((splL s x).map xc) ∧ (z = 0 ∨ w.heap.size ≤ g) ∧ Gr w w') 21 Try.func29 rfl rfl rfl ?_
  refine sw_seq ?_
  -- region 0 ref.go:260
  refine sw_region [(0, 0), (1, 0), (2, 0), (3, 0)] rfl rfl rfl ?_
  refine sd_ev rfl rfl rfl (ev_box rfl (by rfl)) ?_
  rintro _ w1 ⟨b1, rfl, hbw1, Bw1, Gw1⟩
  have z1 := Gw1.size
  have lt2 := Bw1.lt
  refine sd_ev rfl rfl rfl (ev_box rfl (by rfl)) ?_
  rintro _ w2 ⟨b2, rfl, hbw2, Bw2, Gw2⟩
  have z3 := Gw2.size
  have lt4 := Bw2.lt
  refine sd_vv rfl rfl rfl (vv_assign rfl) ?_
  refine sd_vv rfl rfl rfl (vv_assign rfl) ?_
  refine sd_done ?_
  refine sw_seq ?_
  refine sw_seq ?_
  -- region 1 ref.go:261
  refine sw_region [(0, 0), (1, 0), (2, 0)] rfl rfl rfl ?_
  have B5 := (Bx.gr Bw1 Gw2)
  refine sd_vv rfl rfl rfl (vv_loadW agg_45 rfl B5 (by rfl)) ?_
  refine sd_ev rfl rfl rfl (ev_call en_59 rfl (valid_c _ _)) ?_
  rintro _ w3 ⟨rfl, Gw3⟩
  have z6 := Gw3.size
  refine sd_vv rfl rfl rfl (vv_not rfl) ?_
  refine sd_done ?_
  refine sw_cond rfl (fun h1 => ?_) (fun h1 => ?_)
  · -- h1 True
    replace h1 := not_bt h1
    refine sw_seq ?_
    -- region 2 ref.go:262
    refine sw_region [(0, 0), (1, 0)] rfl rfl rfl ?_
    refine sd_vv rfl rfl rfl (vv_assign rfl) ?_
    refine sd_vv rfl rfl rfl (vv_assign rfl) ?_
    refine sd_done ?_
    refine sw_ret ?_
    refine then_r ?_
    have X7 : Gr w w3 := (Gr.trans (Gr.trans (Gr.trans (Gr.refl w) Gw1) Gw2) Gw3)
    refine ⟨_, _, rfl, res_2 rfl (rv_tmp rfl) (rv_tmp rfl), ?_⟩
    obtain ⟨r1, r2⟩ := rspl_30 h1
    exact ⟨_, 0, 0, by rw [r1], by rw [r2]; exact (own_nil _ 0 _ _), by omega, X7⟩
  · -- h1 False
    replace h1 := not_bf h1
    obtain ⟨e1, e2, e3, e4, e5, e6, e7⟩ := tree_yes h1
    rw [e2] at e4 e5
    refine sw_skip ?_
    refine then_n ?_
    refine sw_seq ?_
    refine sw_seq ?_
    -- region 3 ref.go:264
    refine sw_region [(0, 0), (1, 0), (2, 0), (3, 0)] rfl rfl rfl ?_
    have B8 := (Bx.gr B5 Gw3)
    refine sd_vv rfl rfl rfl (vv_loadW agg_45 rfl B8 (by rfl)) ?_
    have B9 := (Bx.gr Bw2 Gw3)
    refine sd_vv rfl rfl rfl (vv_loadW agg_47 rfl B9 (by rfl)) ?_
    refine sd_ev rfl rfl rfl (ev_call en_62 rfl (isSub_c _ (by omega) (by omega) _ (by omega) (by omega) (by omega) (by omega) _)) ?_
    rintro _ w4 ⟨rfl, Gw4⟩
    have z10 := Gw4.size
    refine sd_vv rfl rfl rfl (vv_not rfl) ?_
    refine sd_done ?_
    refine sw_cond rfl (fun h2 => ?_) (fun h2 => ?_)
    · -- h2 True
      replace h2 := not_bt h2
      refine sw_seq ?_
      -- region 4 ref.go:265
      refine sw_region [(0, 0), (1, 0)] rfl rfl rfl ?_
      refine sd_vv rfl rfl rfl (vv_assign rfl) ?_
      refine sd_vv rfl rfl rfl (vv_assign rfl) ?_
      refine sd_done ?_
      refine sw_ret ?_
      refine then_r ?_
      have X11 : Gr w w4 := (Gr.trans (Gr.trans (Gr.trans (Gr.trans (Gr.refl w) Gw1) Gw2) Gw3) Gw4)
      refine ⟨_, _, rfl, res_2 rfl (rv_tmp rfl) (rv_tmp rfl), ?_⟩
      obtain ⟨r1, r2⟩ := rspl_31 h1 h2
      exact ⟨_, 0, 0, by rw [r1], by rw [r2]; exact (own_nil _ 0 _ _), by omega, X11⟩
    · -- h2 False
      replace h2 := not_bf h2
      refine sw_skip ?_
      refine then_n ?_
      refine sw_seq ?_
      -- region 5 ref.go:267
      refine sw_region [(0, 0), (1, 0), (2, 0), (3, 0)] rfl rfl rfl ?_
      have B12 := (Bx.gr B8 Gw4)
      refine sd_vv rfl rfl rfl (vv_loadW agg_45 rfl B12 (by rfl)) ?_
      have B13 := (Bx.gr B9 Gw4)
      refine sd_vv rfl rfl rfl (vv_loadW agg_47 rfl B13 (by rfl)) ?_
      refine sd_ev rfl rfl rfl (ev_call en_81 rfl (splitOf_c _ (by omega) (by omega) _ (by omega) (by omega) (by omega) (by omega) (by assumption) _)) ?_
      rintro v5 w5 ⟨z5_, g5_, O5, hg5, Gw5⟩
      have z14 := Gw5.size
      have lt15 := O5.lt
      refine sd_vv rfl rfl rfl (vv_assign rfl) ?_
      refine sd_done ?_
      refine sw_seq ?_
      refine sw_seq ?_
      -- region 6 ref.go:268
      refine sw_region [(0, 0), (1, 0), (2, 0)] rfl rfl rfl ?_
      refine sd_vv rfl rfl rfl (vv_move rfl) ?_
      refine sd_vv rfl rfl rfl (vv_lenN (n := (splO s x).length) Try.underlying48 rfl (Own.rd O5) (by simp)) ?_
      refine sd_vv rfl rfl rfl (vv_eql rfl rfl) ?_
      refine sd_done ?_
      refine sw_cond rfl (fun h3 => ?_) (fun h3 => ?_)
      · -- h3 True
        replace h3 := of_decide_eq_true h3
        refine sw_seq ?_
        -- region 7 ref.go:269
        refine sw_region [(0, 0), (1, 0)] rfl rfl rfl ?_
        refine sd_vv rfl rfl rfl (vv_assign rfl) ?_
        refine sd_vv rfl rfl rfl (vv_assign rfl) ?_
        refine sd_done ?_
        refine sw_ret ?_
        refine then_r ?_
        have X16 : Gr w w5 := (Gr.trans (Gr.trans (Gr.trans (Gr.trans (Gr.trans (Gr.refl w) Gw1) Gw2) Gw3) Gw4) Gw5)
        refine ⟨_, _, rfl, res_2 rfl (rv_tmp rfl) (rv_tmp rfl), ?_⟩
        obtain ⟨r1, r2⟩ := rspl_6 h1 h2 (by omega)
        exact ⟨_, 0, 0, by rw [r1], by rw [r2]; exact (own_nil _ 0 _ _), by omega, X16⟩
      · -- h3 False
        replace h3 := of_decide_eq_false h3
        refine sw_skip ?_
        refine then_n ?_
        refine sw_seq ?_
        -- region 8 ref.go:271
        refine sw_region [(0, 0), (1, 0), (2, 0)] rfl rfl rfl ?_
        refine sd_vv rfl rfl rfl (vv_move rfl) ?_
        refine sd_vv rfl rfl rfl (vv_assign rfl) ?_
        refine sd_vv rfl rfl rfl (vv_assign rfl) ?_
        refine sd_done ?_
        refine sw_ret ?_
        have X17 : Gr w w5 := (Gr.trans (Gr.trans (Gr.trans (Gr.trans (Gr.trans (Gr.refl w) Gw1) Gw2) Gw3) Gw4) Gw5)
        refine ⟨_, _, rfl, res_2 rfl (rv_tmp rfl) (rv_tmp rfl), ?_⟩
        obtain ⟨r1, r2⟩ := rspl_0 h1 h2 (by omega)
        exact ⟨_, z5_, g5_, by rw [r1], by rw [r2]; exact O5, by omega, X17⟩

theorem same_no {α : Type} [DecidableEq α] {xs ys : List α} {i : Nat} {a b : α} (ha : xs[i]? = some a) (hb : ys[i]? = some b) (h : a ≠ b) : decide (xs = ys) = false := by
  apply decide_eq_false; rintro rfl; rw [ha] at hb; exact h (by simpa using hb)
theorem same_len {α : Type} [DecidableEq α] {xs ys : List α} (h : xs.length ≠ ys.length) : decide (xs = ys) = false := by apply decide_eq_false; rintro rfl; exact h rfl
theorem same_step {α : Type} {xs ys : List α} {i : Nat} {a b : α} (h : xs.take i = ys.take i) (ha : xs[i]? = some a) (hb : ys[i]? = some b) (e : a = b) : xs.take (i + 1) = ys.take (i + 1) := by rw [List.take_add_one, List.take_add_one, ha, hb, h, e]
theorem same_all {α : Type} [DecidableEq α] {xs ys : List α} (hl : xs.length = ys.length) (h : xs.take xs.length = ys.take xs.length) : decide (xs = ys) = true := by
  apply decide_eq_true; rw [List.take_length] at h; rw [hl, List.take_length] at h; exact h
theorem xc_inj {a b : Int × Int} (h : xc a = xc b) : a = b := by simp at h; exact Prod.ext h.1 h.2

set_option maxHeartbeats 1000000 in
theorem sameSub_c (a b : Value) (z g o z2 g2 o2 : Nat) (xs ys : List (Int × Int)) (hl1 : xs.length ≤ 9223372036854775807) (w : World) (ha : Rd w z g o 2 a (xs.map xc)) (hb : Rd w z2 g2 o2 2 b (ys.map xc)) :
    Calls Try.prog 30 [a, b].toArray w fun e w' => ∃ v, e = .returned v ∧ (v = .bool (decide (xs = ys)) ∧ Gr w w') := by
  have lt1 := ha.lt
  have lt2 := hb.lt
  refine calls_of_sw (R := fun v w' => v = .bool (decide (xs = ys)) ∧ Gr w w') 26 Try.func30 rfl rfl rfl ?_
  refine sw_seq ?_
  -- region 0 ref.go:591
  refine sw_region [(0, 0)] rfl rfl rfl ?_
  refine sd_vv rfl rfl rfl (vv_assign rfl) ?_
  refine sd_done ?_
  refine sw_seq ?_
  refine sw_seq ?_
  -- region 1 ref.go:592
  refine sw_region [(0, 0), (1, 0), (2, 0), (3, 0), (4, 0)] rfl rfl rfl ?_
  refine sd_vv rfl rfl rfl (vv_move rfl) ?_
  refine sd_vv rfl rfl rfl (vv_lenN (n := xs.length) Try.underlying48 rfl ha (by simp)) ?_
  refine sd_vv rfl rfl rfl (vv_move rfl) ?_
  refine sd_vv rfl rfl rfl (vv_lenN (n := ys.length) Try.underlying48 rfl hb (by simp)) ?_
  refine sd_vv rfl rfl rfl (vv_neq rfl rfl) ?_
  refine sd_done ?_
  refine sw_cond rfl (fun h1 => ?_) (fun h1 => ?_)
  · -- h1 True
    replace h1 := of_decide_eq_true h1
    replace h1 : xs.length ≠ ys.length := by omega
    refine sw_seq ?_
    -- region 2 ref.go:593
    refine sw_region [(0, 0)] rfl rfl rfl ?_
    refine sd_vv rfl rfl rfl (vv_assign rfl) ?_
    refine sd_done ?_
    refine sw_ret ?_
    refine then_r ?_
    refine ⟨_, _, rfl, res_tmp rfl rfl, ?_⟩
    exact ⟨by rw [same_len h1], (Gr.refl w)⟩
  · -- h1 False
    replace h1 := of_decide_eq_false h1
    replace h1 : xs.length = ys.length := by omega
    refine sw_skip ?_
    refine then_n ?_
    refine sw_seq ?_
    refine sw_seq ?_
    -- region 3 ref.go:595
    refine sw_region [(0, 0)] rfl rfl rfl ?_
    refine sd_vv rfl rfl rfl (vv_assign rfl) ?_
    refine sd_done ?_
    refine sw_block ?_
    refine sw_loopD (α := Nat) [4, 5, 11, 12, 13, 14, 15, 16, 17, 18, 19, 20, 21, 22, 23, 24, 25] (fun i => [(5, .int .i64 (i : Int))]) (fun i wr => (i ≤ xs.length ∧ xs.take i = ys.take i) ∧ Kp [] w wr) (fun i => xs.length - i) (0) ?_ ?_ ?_
    · repeat' first | exact trivial | refine ⟨rfl, ?_⟩
    · exact ⟨⟨Nat.zero_le _, by simp⟩, Kp.refl _ _⟩
    rintro i w1 ⟨⟨hi, hsame⟩, Kw1⟩
    have z3 := Kw1.size
    refine sw_seq ?_
    refine sw_seq ?_
    -- region 4 ref.go:595
    refine sw_region [(0, 0), (1, 0), (2, 0), (3, 0)] rfl rfl rfl ?_
    refine sd_vv rfl rfl rfl (vv_move rfl) ?_
    refine sd_vv rfl rfl rfl (vv_move rfl) ?_
    have B4 := (Rd.kp ha Kw1 (by simp <;> omega))
    refine sd_vv rfl rfl rfl (vv_lenN (n := xs.length) Try.underlying48 rfl B4 (by simp)) ?_
    refine sd_vv rfl rfl rfl (vv_lss rfl rfl) ?_
    refine sd_done ?_
    refine sw_cond rfl (fun h2 => ?_) (fun h2 => ?_)
    · -- h2 True
      replace h2 := of_decide_eq_true h2
      obtain ⟨y, hy, _⟩ := get_ex (show i < xs.length by omega)
      obtain ⟨y2, hy2, _⟩ := get_ex (show i < ys.length by omega)
      refine sw_skip ?_
      refine then_n ?_
      refine sw_seq ?_
      refine sw_block ?_
      refine sw_seq ?_
      -- region 6 ref.go:596 DRAWS
      refine sw_draw [] [(0, 3), (1, 3), (2, 3), (3, 3), (4, 3), (5, 3), (6, 3), (7, 3), (8, 3)] (by kernel_rfl) (by kernel_rfl) rfl (by kernel_rfl) ?_
      intro w2 Gw2 zw2
      refine dd_h3 rfl rfl rfl (Kp.refl [] w2) (fun w hS => vv_move rfl) ?_
      refine dd_h3 rfl rfl rfl (Kp.refl [] w2) (fun w hS => vv_move rfl) ?_
      have B5 := (Rd.gr B4 Gw2)
      refine dd_h3 rfl rfl rfl (Kp.refl [] w2) (fun w hS => vv_ixN (n := xs.length) Try.underlying48 (agg_47).siz rfl (Rd.kp B5 hS (by simp <;> omega)) (by simp) rfl (by omega) (by omega)) ?_
      refine dd_h3 rfl rfl rfl (Kp.refl [] w2) (fun w hS => vv_elW agg_47 rfl (Rd.kp B5 hS (by simp <;> omega)) (getm hy) (by omega)) ?_
      refine dd_h3 rfl rfl rfl (Kp.refl [] w2) (fun w hS => vv_move rfl) ?_
      refine dd_h3 rfl rfl rfl (Kp.refl [] w2) (fun w hS => vv_move rfl) ?_
      have B6 := (Rd.gr (Rd.kp hb Kw1 (by simp <;> omega)) Gw2)
      refine dd_h3 rfl rfl rfl (Kp.refl [] w2) (fun w hS => vv_ixN (n := ys.length) Try.underlying48 (agg_47).siz rfl (Rd.kp B6 hS (by simp <;> omega)) (by simp) rfl (by omega) (by omega)) ?_
      refine dd_h3 rfl rfl rfl (Kp.refl [] w2) (fun w hS => vv_elW agg_47 rfl (Rd.kp B6 hS (by simp <;> omega)) (getm hy2) (by omega)) ?_
      refine dd_h3 rfl rfl rfl (Kp.refl [] w2) (fun w hS => vv_neqA eqt_47 rfl rfl rfl rfl) ?_
      refine sd_done ?_
      refine sw_cond rfl (fun h3 => ?_) (fun h3 => ?_)
      · -- h3 True
        replace h3 := not_bt h3
        replace h3 := dcd_f h3
        refine sw_seq ?_
        -- region 7 ref.go:597
        refine sw_region [(0, 0)] rfl rfl rfl ?_
        refine sd_vv rfl rfl rfl (vv_assign rfl) ?_
        refine sd_done ?_
        refine sw_ret ?_
        refine block_r ?_
        refine then_r ?_
        refine then_r ?_
        refine block_r ?_
        refine then_r ?_
        have X7 : Gr w w2 := (Gr.trans (Gr.kp (Gr.refl w) Kw1 (by simp <;> omega)) Gw2)
        refine ⟨_, _, rfl, res_tmp rfl rfl, ?_⟩
        exact ⟨by rw [same_no hy hy2 (fun e => h3 (by rw [e]))], X7⟩
      · -- h3 False
        replace h3 := not_bf h3
        replace h3 := dcd_t h3
        refine sw_skip ?_
        refine block_n ?_
        refine then_n ?_
        -- region 5 ref.go:595
        refine sw_region [(0, 0), (1, 0), (2, 0)] rfl rfl rfl ?_
        refine sd_vv rfl rfl rfl (vv_move rfl) ?_
        refine sd_vv rfl rfl rfl (vv_add64 rfl rfl (by omega) (by omega)) ?_
        refine sd_vv rfl rfl rfl (vv_assign rfl) ?_
        refine sd_nil ?_
        have K_8 := (Kp.gr Kw1 Gw2)
        refine ⟨rfl, i + 1, ?_, ⟨?_, K_8⟩, ?_⟩
        · repeat' first | exact trivial | refine ⟨rfl, ?_⟩
        · exact ⟨by omega, same_step hsame hy hy2 (xc_inj ‹_›)⟩
        · first | omega | (dsimp only; omega)
    · -- h2 False
      replace h2 := of_decide_eq_false h2
      obtain rfl : i = xs.length := by omega
      refine sw_exit ?_
      refine then_x ?_
      refine then_x ?_
      refine block_x ?_
      refine then_n ?_
      refine sw_seq ?_
      -- region 8 ref.go:600
      refine sw_region [(0, 0)] rfl rfl rfl ?_
      refine sd_vv rfl rfl rfl (vv_assign rfl) ?_
      refine sd_done ?_
      refine sw_ret ?_
      have X9 : Gr w w1 := (Gr.kp (Gr.refl w) Kw1 (by simp <;> omega))
      refine ⟨_, _, rfl, res_tmp rfl rfl, ?_⟩
      exact ⟨by rw [same_all h1 hsame], X9⟩
end Go.Proofs.Ytecempahccgijaa
