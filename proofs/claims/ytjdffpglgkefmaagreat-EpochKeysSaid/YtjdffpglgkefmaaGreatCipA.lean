/- Walks by the laws of SX: CipA. Printed by sx.py. -/
import Derived.Test.YtjdffpglgkefmaaGreatRows
import Derived.Test.YtjdffpglgkefmaaGreatPln
import Derived.KernelRfl
set_option linter.unusedVariables false
set_option linter.unusedSimpArgs false
namespace Go.Proofs.YtjdffpglgkefmaaGreat
open Go Go.RowKit Go.Sx
theorem cv_3_150 : CV Tryz.prog 3 150 .u64 := fun _ _ _ => by kernel_rfl
theorem zv_233 : ZV Tryz.prog 233 (.agg [.int .u64 0, .int .u64 0].toArray) := fun _ => by kernel_rfl
theorem fa_233_0 : FA Tryz.prog 233 0 0 := fun _ _ _ => by kernel_rfl
theorem one_24 : One Tryz.prog 24 := fun _ => ⟨by kernel_rfl, by kernel_rfl⟩
theorem fa_233_1 : FA Tryz.prog 233 1 1 := fun _ _ _ => by kernel_rfl
theorem en_233 : En Tryz.prog 233 := fun _ _ => by kernel_rfl
theorem bs_233 : BS Tryz.prog 233 (fun i => [(0, 1), (1, 1)][i]?) [.int .u64 0, .int .u64 0] := bs_mk Tryz.underlying233 zv_233 ⟨rfl, (one_24).siz, rfl, (one_24).siz, trivial⟩
theorem agg_233 : Agg Tryz.prog 233 2 := fun _ => ⟨by kernel_rfl, by kernel_rfl⟩
theorem cv_5_24 : CV Tryz.prog 5 24 .u64 := fun _ _ _ => by kernel_rfl
theorem one_5 : One Tryz.prog 5 := fun _ => ⟨by kernel_rfl, by kernel_rfl⟩
theorem cv_24_5 : CV Tryz.prog 24 5 .u8 := fun _ _ _ => by kernel_rfl
theorem zv_23 : ZV Tryz.prog 23 (.agg [.int .u8 0, .int .u8 0, .int .u8 0, .int .u8 0, .int .u8 0, .int .u8 0, .int .u8 0, .int .u8 0, .int .u8 0, .int .u8 0, .int .u8 0, .int .u8 0, .int .u8 0, .int .u8 0, .int .u8 0, .int .u8 0].toArray) := fun _ => by kernel_rfl
theorem agg_23 : Agg Tryz.prog 23 16 := fun _ => ⟨by kernel_rfl, by kernel_rfl⟩

/-- two words as a Go value of type pair -/
abbrev pv (p : W2) : Value := .agg [wv p.1, wv p.2].toArray
theorem and63 (k : Int) (s : Nat) (h : bits .and .u64 (IntKind.u64.wrap k) 63 = (s : Int)) (hs : s < 64) : bits .and .u64 (un (wd (IntKind.u64.wrap k))) 63 = (s : Int) ∧ s < 64 := by
  refine ⟨?_, hs⟩
  rw [un_wd _ (by rw [IntKind.wrap_u64]; omega) (by rw [IntKind.wrap_u64]; omega)]; exact h

set_option maxHeartbeats 1000000 in
theorem rot_c (x : BitVec 64) (k : Int) (s : Nat) (hs : s < 64) (hk : bits .and .u64 (IntKind.u64.wrap k) 63 = (s : Int)) (w : World) :
    Calls Tryz.prog 233 [wv x, .int .i64 k].toArray w fun e w' => ∃ v, e = .returned v ∧ (v = wv (rotl x s) ∧ Gr w w') := by
  refine calls_of_sw (R := fun v w' => v = wv (rotl x s) ∧ Gr w w') 17 Tryz.func233 rfl rfl rfl ?_
  refine sw_seq ?_
  -- region 0 bits.go:217
  refine sw_region [(0, 0)] rfl rfl rfl ?_
  refine sd_vv rfl rfl rfl (vv_assign rfl) ?_
  refine sd_done ?_
  refine sw_seq ?_
  -- region 1 bits.go:219
  refine sw_region [(0, 0), (1, 0), (2, 0), (3, 0)] rfl rfl rfl ?_
  refine sd_vv rfl rfl rfl (vv_move rfl) ?_
  refine sd_vv rfl rfl rfl (vv_conv cv_3_150 rfl) ?_
  refine sd_vv rfl rfl rfl (vv_eq (vv_bits (by simp) rfl rfl) (show _ = Value.int .u64 (s : Int) from by rw [hk])) ?_
  refine sd_vv rfl rfl rfl (vv_assign rfl) ?_
  refine sd_done ?_
  refine sw_seq ?_
  -- region 2 bits.go:220
  refine sw_region [(0, 0), (1, 0), (2, 0), (3, 0), (4, 0), (5, 0), (6, 0), (7, 0), (8, 0)] rfl rfl rfl ?_
  refine sd_vv rfl rfl rfl (vv_move rfl) ?_
  refine sd_vv rfl rfl rfl (vv_move rfl) ?_
  refine sd_vv rfl rfl rfl (vv_ushl rfl rfl (by omega)) ?_
  refine sd_vv rfl rfl rfl (vv_move rfl) ?_
  refine sd_vv rfl rfl rfl (vv_move rfl) ?_
  refine sd_vv rfl rfl rfl (vv_eq (vv_sub rfl rfl) (show _ = Value.int .u64 ((64 - s : Nat) : Int) from by rw [IntKind.wrap_u64]; congr 1; omega)) ?_
  refine sd_vv rfl rfl rfl (vv_ushr rfl rfl (by omega)) ?_
  refine sd_vv rfl rfl rfl (vv_uor rfl rfl) ?_
  refine sd_vv rfl rfl rfl (vv_assign rfl) ?_
  refine sd_done ?_
  refine sw_ret ?_
  refine ⟨_, _, rfl, res_tmp rfl rfl, ?_⟩
  exact ⟨by simp [rotl], (Gr.refl w)⟩

set_option maxHeartbeats 1000000 in
theorem round_c (p : W2) (k : BitVec 64) (w : World) :
    Calls Tryz.prog 177 [pv p, wv k].toArray w fun e w' => ∃ v, e = .returned v ∧ (v = pv (rnd p k) ∧ Gr w w') := by
  refine calls_of_sw (R := fun v w' => v = pv (rnd p k) ∧ Gr w w') 21 Tryz.func177 rfl rfl rfl ?_
  refine sw_seq ?_
  -- region 0 cipher.go:36
  refine sw_region [(0, 0), (1, 0)] rfl rfl rfl ?_
  refine sd_ev rfl rfl rfl (ev_box rfl (by rfl)) ?_
  rintro _ w1 ⟨b1, rfl, hbw1, Bw1, Gw1⟩
  have z1 := Gw1.size
  have lt2 := Bw1.lt
  refine sd_ev rfl rfl rfl (ev_alloc zv_233 (by rfl)) ?_
  rintro _ w2 ⟨b2, rfl, hbw2, Bw2, Gw2⟩
  have z3 := Gw2.size
  have lt4 := Bw2.lt
  refine sd_done ?_
  refine sw_seq ?_
  -- region 1 cipher.go:37 DRAWS
  refine sw_draw [] [(0, 3), (1, 3), (3, 3), (4, 3), (6, 3), (2, 0), (5, 3), (7, 3), (8, 3)] (by kernel_rfl) (by kernel_rfl) rfl (by kernel_rfl) ?_
  intro w3 Gw3 zw3
  refine dd_h3 rfl rfl rfl (Kp.refl [] w3) (fun w hS => vv_fieldAddr fa_233_0 rfl) ?_
  have B5 := (Bx.gr (Bx.gr Bw1 Gw2) Gw3)
  refine dd_h3 rfl rfl rfl (Kp.refl [] w3) (fun w hS => vv_load1 one_24 rfl (Bx.kp B5 hS (by simp <;> first | omega | (split <;> omega))) (by rfl)) ?_
  refine dd_h3 rfl rfl rfl (Kp.refl [] w3) (fun w hS => vv_fieldAddr fa_233_1 rfl) ?_
  refine dd_h3 rfl rfl rfl (Kp.refl [] w3) (fun w hS => vv_load1 one_24 rfl (Bx.kp B5 hS (by simp <;> first | omega | (split <;> omega))) (by rfl)) ?_
  refine dd_h3 rfl rfl rfl (Kp.refl [] w3) (fun w hS => vv_move rfl) ?_
  refine dd_ev rfl rfl rfl (ev_call en_233 rfl (rot_c _ (-8) 56 (by decide) (by decide) _)) ?_
  rintro _ w4 ⟨rfl, Gw4⟩
  have z6 := Gw4.size
  refine ⟨Gw4, ?_⟩
  have S7 := (Kp.gr (Kp.refl [] w3) Gw4)
  refine dd_h3 rfl rfl rfl S7 (fun w hS => vv_uadd rfl rfl) ?_
  refine dd_h3 rfl rfl rfl S7 (fun w hS => vv_uxor rfl rfl) ?_
  refine dd_h3 rfl rfl rfl S7 (fun w hS => vv_assign rfl) ?_
  refine sd_done ?_
  refine sw_seq ?_
  -- region 2 cipher.go:38
  refine sw_region [(0, 0), (1, 0), (2, 0), (3, 0), (4, 0), (5, 0), (6, 0), (7, 0)] rfl rfl rfl ?_
  refine sd_vv rfl rfl rfl (vv_move rfl) ?_
  refine sd_vv rfl rfl rfl (vv_fieldAddr fa_233_1 rfl) ?_
  have B8 := (Bx.gr B5 Gw4)
  refine sd_vv rfl rfl rfl (vv_load1 one_24 rfl B8 (by rfl)) ?_
  refine sd_ev rfl rfl rfl (ev_call en_233 rfl (rot_c _ (3) 3 (by decide) (by decide) _)) ?_
  rintro _ w5 ⟨rfl, Gw5⟩
  have z9 := Gw5.size
  refine sd_vv rfl rfl rfl (vv_move rfl) ?_
  refine sd_vv rfl rfl rfl (vv_uxor rfl rfl) ?_
  refine sd_vv rfl rfl rfl (vv_build bs_233 rfl rfl) ?_
  have B10 := (Bx.gr (Bx.gr (Bx.gr Bw2 Gw3) Gw4) Gw5)
  refine sd_ev rfl rfl rfl (ev_storeW (agg_233).siz rfl rfl (by rfl) (by rfl) (by rfl) B10 (by rfl)) ?_
  rintro _ w6 ⟨Bw6, Mw6⟩
  have z11 := Mw6.size
  refine sd_done ?_
  refine sw_ret ?_
  have X12 : Gr w w6 := (Gr.md (Gr.trans (Gr.trans (Gr.trans (Gr.trans (Gr.trans (Gr.refl w) Gw1) Gw2) Gw3) Gw4) Gw5) Mw6 (by omega))
  refine ⟨_, _, rfl, res_cellW rfl agg_233 rfl Bw6 (by rfl), ?_⟩
  exact ⟨rfl, X12⟩

set_option maxHeartbeats 1000000 in
theorem back_c (p : W2) (k : BitVec 64) (w : World) :
    Calls Tryz.prog 186 [pv p, wv k].toArray w fun e w' => ∃ v, e = .returned v ∧ (v = pv (rndB p k) ∧ Gr w w') := by
  refine calls_of_sw (R := fun v w' => v = pv (rndB p k) ∧ Gr w w') 21 Tryz.func186 rfl rfl rfl ?_
  refine sw_seq ?_
  -- region 0 cipher.go:42
  refine sw_region [(0, 0), (1, 0)] rfl rfl rfl ?_
  refine sd_ev rfl rfl rfl (ev_box rfl (by rfl)) ?_
  rintro _ w1 ⟨b1, rfl, hbw1, Bw1, Gw1⟩
  have z1 := Gw1.size
  have lt2 := Bw1.lt
  refine sd_ev rfl rfl rfl (ev_alloc zv_233 (by rfl)) ?_
  rintro _ w2 ⟨b2, rfl, hbw2, Bw2, Gw2⟩
  have z3 := Gw2.size
  have lt4 := Bw2.lt
  refine sd_done ?_
  refine sw_seq ?_
  -- region 1 cipher.go:43
  refine sw_region [(0, 0), (1, 0), (2, 0), (3, 0), (4, 0), (5, 0), (6, 0)] rfl rfl rfl ?_
  refine sd_vv rfl rfl rfl (vv_fieldAddr fa_233_0 rfl) ?_
  have B5 := (Bx.gr Bw1 Gw2)
  refine sd_vv rfl rfl rfl (vv_load1 one_24 rfl B5 (by rfl)) ?_
  refine sd_vv rfl rfl rfl (vv_fieldAddr fa_233_1 rfl) ?_
  refine sd_vv rfl rfl rfl (vv_load1 one_24 rfl B5 (by rfl)) ?_
  refine sd_vv rfl rfl rfl (vv_uxor rfl rfl) ?_
  refine sd_ev rfl rfl rfl (ev_call en_233 rfl (rot_c _ (-3) 61 (by decide) (by decide) _)) ?_
  rintro _ w3 ⟨rfl, Gw3⟩
  have z6 := Gw3.size
  refine sd_vv rfl rfl rfl (vv_assign rfl) ?_
  refine sd_done ?_
  refine sw_seq ?_
  -- region 2 cipher.go:44
  refine sw_region [(0, 0), (1, 0), (2, 0), (3, 0), (4, 0), (5, 0), (6, 0), (7, 0), (8, 0), (9, 0)] rfl rfl rfl ?_
  refine sd_vv rfl rfl rfl (vv_fieldAddr fa_233_0 rfl) ?_
  have B7 := (Bx.gr B5 Gw3)
  refine sd_vv rfl rfl rfl (vv_load1 one_24 rfl B7 (by rfl)) ?_
  refine sd_vv rfl rfl rfl (vv_move rfl) ?_
  refine sd_vv rfl rfl rfl (vv_uxor rfl rfl) ?_
  refine sd_vv rfl rfl rfl (vv_move rfl) ?_
  refine sd_vv rfl rfl rfl (vv_usub rfl rfl) ?_
  refine sd_ev rfl rfl rfl (ev_call en_233 rfl (rot_c _ (8) 8 (by decide) (by decide) _)) ?_
  rintro _ w4 ⟨rfl, Gw4⟩
  have z8 := Gw4.size
  refine sd_vv rfl rfl rfl (vv_move rfl) ?_
  refine sd_vv rfl rfl rfl (vv_build bs_233 rfl rfl) ?_
  have B9 := (Bx.gr (Bx.gr Bw2 Gw3) Gw4)
  refine sd_ev rfl rfl rfl (ev_storeW (agg_233).siz rfl rfl (by rfl) (by rfl) (by rfl) B9 (by rfl)) ?_
  rintro _ w5 ⟨Bw5, Mw5⟩
  have z10 := Mw5.size
  refine sd_done ?_
  refine sw_ret ?_
  have X11 : Gr w w5 := (Gr.md (Gr.trans (Gr.trans (Gr.trans (Gr.trans (Gr.refl w) Gw1) Gw2) Gw3) Gw4) Mw5 (by omega))
  refine ⟨_, _, rfl, res_cellW rfl agg_233 rfl Bw5 (by rfl), ?_⟩
  exact ⟨rfl, X11⟩

set_option maxHeartbeats 1000000 in
theorem words_c (p : W2) (w : World) :
    Calls Tryz.prog 175 [kv p].toArray w fun e w' => ∃ v, e = .returned v ∧ (v = pv p ∧ Gr w w') := by
  refine calls_of_sw (R := fun v w' => v = pv p ∧ Gr w w') 29 Tryz.func175 rfl rfl rfl ?_
  refine sw_seq ?_
  -- region 0 cipher.go:18
  refine sw_region [(0, 0), (1, 0)] rfl rfl rfl ?_
  refine sd_ev rfl rfl rfl (ev_box rfl (by rfl)) ?_
  rintro _ w1 ⟨b1, rfl, hbw1, Bw1, Gw1⟩
  have z1 := Gw1.size
  have lt2 := Bw1.lt
  refine sd_ev rfl rfl rfl (ev_alloc zv_233 (by rfl)) ?_
  rintro _ w2 ⟨b2, rfl, hbw2, Bw2, Gw2⟩
  have z3 := Gw2.size
  have lt4 := Bw2.lt
  refine sd_done ?_
  refine sw_seq ?_
  -- region 1 cipher.go:19
  refine sw_region [(0, 0)] rfl rfl rfl ?_
  refine sd_ev rfl rfl rfl (ev_alloc zv_233 (by rfl)) ?_
  rintro _ w3 ⟨b3, rfl, hbw3, Bw3, Gw3⟩
  have z5 := Gw3.size
  have lt6 := Bw3.lt
  refine sd_done ?_
  refine sw_seq ?_
  refine sw_seq ?_
  -- region 2 cipher.go:20
  refine sw_region [(0, 0)] rfl rfl rfl ?_
  refine sd_vv rfl rfl rfl (vv_move rfl) ?_
  refine sd_done ?_
  refine sw_block ?_
  have X7 : Gr w w3 := (Gr.trans (Gr.trans (Gr.trans (Gr.refl w) Gw1) Gw2) Gw3)
  refine sw_loopD (α := Nat) [4, 5, 6, 7, 8, 9, 10, 11, 12, 13, 14, 15, 16, 17, 18, 19, 20, 21, 22, 23, 24, 25, 26, 27] (fun k => [(5, .int .i64 (k : Int))]) (fun k wr => (k ≤ 8) ∧ Bx wr b3 233 ([wv (p.1 >>> (64 - 8 * k)), wv (p.2 >>> (64 - 8 * k))]) ∧ Kp [b3] w3 wr) (fun k => 8 - k) (0) ?_ ?_ ?_
  · repeat' first | exact trivial | refine ⟨rfl, ?_⟩
  · exact ⟨by omega, (by rw [Nat.mul_zero, Nat.sub_zero, shr_64, shr_64]; exact Bw3), Kp.refl _ _⟩
  rintro k w4 ⟨hk, Bw4_b3, Kw4⟩
  have z8 := Kw4.size
  refine sw_seq ?_
  -- region 3 cipher.go:20
  refine sw_region [(0, 0)] rfl rfl rfl ?_
  refine sd_vv rfl rfl rfl (vv_lss rfl rfl) ?_
  refine sd_done ?_
  refine sw_seq ?_
  refine sw_cond rfl (fun h1 => ?_) (fun h1 => ?_)
  · -- h1 True
    replace h1 := of_decide_eq_true h1
    refine sw_skip ?_
    refine then_n ?_
    refine sw_seq ?_
    refine sw_block ?_
    refine sw_seq ?_
    -- region 4 cipher.go:20
    refine sw_region [(0, 0), (1, 0)] rfl rfl rfl ?_
    refine sd_vv rfl rfl rfl (vv_move rfl) ?_
    refine sd_vv rfl rfl rfl (vv_assign rfl) ?_
    refine sd_done ?_
    -- region 5 cipher.go:21 DRAWS
    refine sw_draw [b3] [(0, 3), (1, 1), (2, 3), (3, 3), (4, 3), (5, 3), (6, 3), (7, 3), (8, 3), (9, 1), (10, 3), (11, 3), (12, 3), (13, 3), (14, 3), (15, 3), (16, 3), (17, 3), (18, 2), (19, 3), (20, 2)] (by kernel_rfl) (by kernel_rfl) rfl (by kernel_rfl) ?_
    intro w5 Gw5 zw5
    refine dd_h3 rfl rfl rfl (Kp.refl [b3] w5) (fun w hS => vv_fieldAddr fa_233_0 rfl) ?_
    have B9 := (Bx.gr Bw4_b3 Gw5)
    refine dd_h1 rfl rfl rfl (Gr.refl w5) (fun w hS => vv_load1 one_24 rfl (Bx.gr B9 hS) (by rfl)) ?_
    refine dd_h3 rfl rfl rfl (Kp.refl [b3] w5) (fun w hS => vv_ushl rfl rfl (by omega)) ?_
    refine dd_h3 rfl rfl rfl (Kp.refl [b3] w5) (fun w hS => vv_move rfl) ?_
    refine dd_h3 rfl rfl rfl (Kp.refl [b3] w5) (fun w hS => vv_indexAddr Tryz.underlying23 (one_5).siz rfl rfl (by omega) (by omega)) ?_
    have B10 := (Bx.gr (Bx.kp (Bx.gr (Bx.gr Bw1 Gw2) Gw3) Kw4 (by simp <;> first | omega | (split <;> omega))) Gw5)
    refine dd_h3 rfl rfl rfl (Kp.refl [b3] w5) (fun w hS => vv_load1 one_5 rfl (Bx.kp B10 hS (by simp <;> first | omega | (split <;> omega))) (by exact kb_ixlo p k (by omega))) ?_
    refine dd_h3 rfl rfl rfl (Kp.refl [b3] w5) (fun w hS => vv_convIU cv_5_24 rfl (bt_nonneg _ _) (by have := bt_le p.1 k; omega)) ?_
    refine dd_h3 rfl rfl rfl (Kp.refl [b3] w5) (fun w hS => vv_uor rfl rfl) ?_
    refine dd_h3 rfl rfl rfl (Kp.refl [b3] w5) (fun w hS => vv_fieldAddr fa_233_1 rfl) ?_
    refine dd_h1 rfl rfl rfl (Gr.refl w5) (fun w hS => vv_load1 one_24 rfl (Bx.gr B9 hS) (by rfl)) ?_
    refine dd_h3 rfl rfl rfl (Kp.refl [b3] w5) (fun w hS => vv_ushl rfl rfl (by omega)) ?_
    refine dd_h3 rfl rfl rfl (Kp.refl [b3] w5) (fun w hS => vv_move rfl) ?_
    refine dd_h3 rfl rfl rfl (Kp.refl [b3] w5) (fun w hS => vv_add64 rfl rfl (by omega) (by omega)) ?_
    refine dd_h3 rfl rfl rfl (Kp.refl [b3] w5) (fun w hS => vv_indexAddr Tryz.underlying23 (one_5).siz rfl rfl (by omega) (by omega)) ?_
    refine dd_h3 rfl rfl rfl (Kp.refl [b3] w5) (fun w hS => vv_load1 one_5 rfl (Bx.kp B10 hS (by simp <;> first | omega | (split <;> omega))) (by exact kb_ixhi p k (by omega))) ?_
    refine dd_h3 rfl rfl rfl (Kp.refl [b3] w5) (fun w hS => vv_convIU cv_5_24 rfl (bt_nonneg _ _) (by have := bt_le p.2 k; omega)) ?_
    refine dd_h3 rfl rfl rfl (Kp.refl [b3] w5) (fun w hS => vv_uor rfl rfl) ?_
    refine dd_h3 rfl rfl rfl (Kp.refl [b3] w5) (fun w hS => vv_fieldAddr fa_233_0 rfl) ?_
    refine dd_st (b := b3) rfl rfl rfl rfl (ev_store1 (one_24).siz rfl rfl rfl B9 (by simp)) (by first | exact Or.inl (by simp) | exact Or.inr (by omega)) ?_
    rintro _ w6 ⟨Bw6, Mw6⟩
    have z11 := Mw6.size
    refine ⟨Mw6, ?_⟩
    have S12 := (Kp.md (Kp.refl [b3] w5) Mw6 (by first | exact Or.inl (by simp) | exact Or.inr (by omega)))
    refine dd_h3 rfl rfl rfl S12 (fun w hS => vv_fieldAddr fa_233_1 rfl) ?_
    refine dd_st (b := b3) rfl rfl rfl rfl (ev_store1 (one_24).siz rfl rfl rfl Bw6 (by simp)) (by first | exact Or.inl (by simp) | exact Or.inr (by omega)) ?_
    rintro _ w7 ⟨Bw7, Mw7⟩
    have z13 := Mw7.size
    refine ⟨Mw7, ?_⟩
    refine sd_nil ?_
    refine block_n ?_
    refine then_n ?_
    -- region 6 cipher.go:20
    refine sw_region [(0, 0), (1, 0)] rfl rfl rfl ?_
    refine sd_vv rfl rfl rfl (vv_add64 rfl rfl (by omega) (by omega)) ?_
    refine sd_vv rfl rfl rfl (vv_move rfl) ?_
    refine sd_nil ?_
    have K_14 := (Kp.md (Kp.md (Kp.gr Kw4 Gw5) Mw6 (by simp <;> first | omega | (split <;> omega))) Mw7 (by simp <;> first | omega | (split <;> omega)))
    refine ⟨rfl, k + 1, ?_, ⟨?_, ?_, K_14⟩, ?_⟩
    · repeat' first | exact trivial | refine ⟨rfl, ?_⟩
    · omega
    · rw [← shl_step _ k (by omega), ← shl_step _ k (by omega)]; exact Bw7
    · first | omega | (dsimp only; omega)
  · -- h1 False
    replace h1 := of_decide_eq_false h1
    refine sw_exit ?_
    refine then_x ?_
    refine then_x ?_
    refine block_x ?_
    refine then_n ?_
    refine sw_seq ?_
    -- region 7 cipher.go:23
    refine sw_region [(0, 0), (1, 0)] rfl rfl rfl ?_
    refine sd_vv rfl rfl rfl (vv_loadW agg_233 rfl Bw4_b3 (by rfl)) ?_
    have B15 := (Bx.kp (Bx.gr Bw2 Gw3) Kw4 (by simp <;> first | omega | (split <;> omega)))
    refine sd_ev rfl rfl rfl (ev_storeW (agg_233).siz rfl rfl (by rfl) (by rfl) (by rfl) B15 (by rfl)) ?_
    rintro _ w8 ⟨Bw8, Mw8⟩
    have z16 := Mw8.size
    refine sd_done ?_
    refine sw_ret ?_
    obtain rfl : k = 8 := by omega
    have X17 : Gr w w8 := (Gr.md (Gr.kp X7 Kw4 (by simp <;> first | omega | (split <;> omega))) Mw8 (by omega))
    refine ⟨_, _, rfl, res_cellW rfl agg_233 rfl Bw8 (by rfl), ?_⟩
    exact ⟨rfl, X17⟩

set_option maxHeartbeats 1000000 in
theorem block_c (p : W2) (w : World) :
    Calls Tryz.prog 178 [pv p].toArray w fun e w' => ∃ v, e = .returned v ∧ (v = kv p ∧ Gr w w') := by
  refine calls_of_sw (R := fun v w' => v = kv p ∧ Gr w w') 29 Tryz.func178 rfl rfl rfl ?_
  refine sw_seq ?_
  -- region 0 cipher.go:27
  refine sw_region [(0, 0), (1, 0)] rfl rfl rfl ?_
  refine sd_ev rfl rfl rfl (ev_box rfl (by rfl)) ?_
  rintro _ w1 ⟨b1, rfl, hbw1, Bw1, Gw1⟩
  have z1 := Gw1.size
  have lt2 := Bw1.lt
  refine sd_ev rfl rfl rfl (ev_alloc zv_23 (by rfl)) ?_
  rintro _ w2 ⟨b2, rfl, hbw2, Bw2, Gw2⟩
  have z3 := Gw2.size
  have lt4 := Bw2.lt
  refine sd_done ?_
  refine sw_seq ?_
  -- region 1 cipher.go:28
  refine sw_region [(0, 0)] rfl rfl rfl ?_
  refine sd_ev rfl rfl rfl (ev_alloc zv_23 (by rfl)) ?_
  rintro _ w3 ⟨b3, rfl, hbw3, Bw3, Gw3⟩
  have z5 := Gw3.size
  have lt6 := Bw3.lt
  refine sd_done ?_
  refine sw_seq ?_
  refine sw_seq ?_
  -- region 2 cipher.go:29
  refine sw_region [(0, 0)] rfl rfl rfl ?_
  refine sd_vv rfl rfl rfl (vv_move rfl) ?_
  refine sd_done ?_
  refine sw_block ?_
  have X7 : Gr w w3 := (Gr.trans (Gr.trans (Gr.trans (Gr.refl w) Gw1) Gw2) Gw3)
  refine sw_loopD (α := Nat) [4, 5, 6, 7, 8, 9, 10, 11, 12, 13, 14, 15, 16, 17, 18, 19, 20, 21, 22, 23, 24, 25, 26, 27] (fun k => [(5, .int .i64 (k : Int))]) (fun k wr => (k ≤ 8) ∧ Bx wr b3 23 (kpart p k) ∧ Kp [b3] w3 wr) (fun k => 8 - k) (0) ?_ ?_ ?_
  · repeat' first | exact trivial | refine ⟨rfl, ?_⟩
  · exact ⟨by omega, (by rw [kpart_0]; exact Bw3), Kp.refl _ _⟩
  rintro k w4 ⟨hk, Bw4_b3, Kw4⟩
  have z8 := Kw4.size
  refine sw_seq ?_
  -- region 3 cipher.go:29
  refine sw_region [(0, 0)] rfl rfl rfl ?_
  refine sd_vv rfl rfl rfl (vv_lss rfl rfl) ?_
  refine sd_done ?_
  refine sw_seq ?_
  refine sw_cond rfl (fun h1 => ?_) (fun h1 => ?_)
  · -- h1 True
    replace h1 := of_decide_eq_true h1
    refine sw_skip ?_
    refine then_n ?_
    refine sw_seq ?_
    refine sw_block ?_
    refine sw_seq ?_
    -- region 4 cipher.go:29
    refine sw_region [(0, 0), (1, 0)] rfl rfl rfl ?_
    refine sd_vv rfl rfl rfl (vv_move rfl) ?_
    refine sd_vv rfl rfl rfl (vv_assign rfl) ?_
    refine sd_done ?_
    -- region 5 cipher.go:30 DRAWS
    refine sw_draw [b3] [(0, 3), (1, 3), (2, 3), (3, 3), (4, 3), (5, 3), (6, 3), (7, 3), (8, 3), (9, 3), (10, 3), (11, 3), (12, 3), (13, 3), (14, 3), (15, 3), (16, 3), (17, 3), (18, 2), (19, 3), (20, 2)] (by kernel_rfl) (by kernel_rfl) rfl (by kernel_rfl) ?_
    intro w5 Gw5 zw5
    refine dd_h3 rfl rfl rfl (Kp.refl [b3] w5) (fun w hS => vv_move rfl) ?_
    refine dd_h3 rfl rfl rfl (Kp.refl [b3] w5) (fun w hS => vv_move rfl) ?_
    refine dd_h3 rfl rfl rfl (Kp.refl [b3] w5) (fun w hS => vv_add64 rfl rfl (by omega) (by omega)) ?_
    refine dd_h3 rfl rfl rfl (Kp.refl [b3] w5) (fun w hS => vv_fieldAddr fa_233_0 rfl) ?_
    have B9 := (Bx.gr (Bx.kp (Bx.gr (Bx.gr Bw1 Gw2) Gw3) Kw4 (by simp <;> first | omega | (split <;> omega))) Gw5)
    refine dd_h3 rfl rfl rfl (Kp.refl [b3] w5) (fun w hS => vv_load1 one_24 rfl (Bx.kp B9 hS (by simp <;> first | omega | (split <;> omega))) (by rfl)) ?_
    refine dd_h3 rfl rfl rfl (Kp.refl [b3] w5) (fun w hS => vv_move rfl) ?_
    refine dd_h3 rfl rfl rfl (Kp.refl [b3] w5) (fun w hS => vv_mul64 rfl rfl (by omega) (by omega)) ?_
    refine dd_h3 rfl rfl rfl (Kp.refl [b3] w5) (fun w hS => vv_sub64 rfl rfl (by omega) (by omega)) ?_
    refine dd_h3 rfl rfl rfl (Kp.refl [b3] w5) (fun w hS => vv_ushr rfl rfl (by omega)) ?_
    refine dd_h3 rfl rfl rfl (Kp.refl [b3] w5) (fun w hS => vv_convUB cv_24_5 rfl) ?_
    refine dd_h3 rfl rfl rfl (Kp.refl [b3] w5) (fun w hS => vv_fieldAddr fa_233_1 rfl) ?_
    refine dd_h3 rfl rfl rfl (Kp.refl [b3] w5) (fun w hS => vv_load1 one_24 rfl (Bx.kp B9 hS (by simp <;> first | omega | (split <;> omega))) (by rfl)) ?_
    refine dd_h3 rfl rfl rfl (Kp.refl [b3] w5) (fun w hS => vv_move rfl) ?_
    refine dd_h3 rfl rfl rfl (Kp.refl [b3] w5) (fun w hS => vv_mul64 rfl rfl (by omega) (by omega)) ?_
    refine dd_h3 rfl rfl rfl (Kp.refl [b3] w5) (fun w hS => vv_sub64 rfl rfl (by omega) (by omega)) ?_
    refine dd_h3 rfl rfl rfl (Kp.refl [b3] w5) (fun w hS => vv_ushr rfl rfl (by omega)) ?_
    refine dd_h3 rfl rfl rfl (Kp.refl [b3] w5) (fun w hS => vv_convUB cv_24_5 rfl) ?_
    refine dd_h3 rfl rfl rfl (Kp.refl [b3] w5) (fun w hS => vv_indexAddr Tryz.underlying23 (one_5).siz rfl rfl (by omega) (by omega)) ?_
    have B10 := (Bx.gr Bw4_b3 Gw5)
    refine dd_st (b := b3) rfl rfl rfl rfl (ev_store1 (one_5).siz rfl rfl rfl B10 (by rw [kpart_length]; omega)) (by first | exact Or.inl (by simp) | exact Or.inr (by omega)) ?_
    rintro _ w6 ⟨Bw6, Mw6⟩
    have z11 := Mw6.size
    refine ⟨Mw6, ?_⟩
    have S12 := (Kp.md (Kp.refl [b3] w5) Mw6 (by first | exact Or.inl (by simp) | exact Or.inr (by omega)))
    refine dd_h3 rfl rfl rfl S12 (fun w hS => vv_indexAddr Tryz.underlying23 (one_5).siz rfl rfl (by omega) (by omega)) ?_
    refine dd_st (b := b3) rfl rfl rfl rfl (ev_store1 (one_5).siz rfl rfl rfl Bw6 (by rw [List.length_set, kpart_length]; omega)) (by first | exact Or.inl (by simp) | exact Or.inr (by omega)) ?_
    rintro _ w7 ⟨Bw7, Mw7⟩
    have z13 := Mw7.size
    refine ⟨Mw7, ?_⟩
    refine sd_nil ?_
    refine block_n ?_
    refine then_n ?_
    -- region 6 cipher.go:29
    refine sw_region [(0, 0), (1, 0)] rfl rfl rfl ?_
    refine sd_vv rfl rfl rfl (vv_add64 rfl rfl (by omega) (by omega)) ?_
    refine sd_vv rfl rfl rfl (vv_move rfl) ?_
    refine sd_nil ?_
    have K_14 := (Kp.md (Kp.md (Kp.gr Kw4 Gw5) Mw6 (by simp <;> first | omega | (split <;> omega))) Mw7 (by simp <;> first | omega | (split <;> omega)))
    refine ⟨rfl, k + 1, ?_, ⟨?_, ?_, K_14⟩, ?_⟩
    · repeat' first | exact trivial | refine ⟨rfl, ?_⟩
    · omega
    · rw [← kpart_set p k (by omega)]; exact Bw7
    · first | omega | (dsimp only; omega)
  · -- h1 False
    replace h1 := of_decide_eq_false h1
    refine sw_exit ?_
    refine then_x ?_
    refine then_x ?_
    refine block_x ?_
    refine then_n ?_
    refine sw_seq ?_
    obtain rfl : k = 8 := by omega
    -- region 7 cipher.go:32
    refine sw_region [(0, 0), (1, 0)] rfl rfl rfl ?_
    refine sd_vv rfl rfl rfl (vv_loadW agg_23 rfl Bw4_b3 (by rfl)) ?_
    have B15 := (Bx.kp (Bx.gr Bw2 Gw3) Kw4 (by simp <;> first | omega | (split <;> omega)))
    refine sd_ev rfl rfl rfl (ev_storeW (agg_23).siz rfl rfl (by rfl) (by rfl) (by rfl) B15 (by rfl)) ?_
    rintro _ w8 ⟨Bw8, Mw8⟩
    have z16 := Mw8.size
    refine sd_done ?_
    refine sw_ret ?_
    have X17 : Gr w w8 := (Gr.md (Gr.kp X7 Kw4 (by simp <;> first | omega | (split <;> omega))) Mw8 (by omega))
    refine ⟨_, _, rfl, res_cellW rfl agg_23 rfl Bw8 (by rfl), ?_⟩
    exact ⟨rfl, X17⟩
end Go.Proofs.YtjdffpglgkefmaaGreat
