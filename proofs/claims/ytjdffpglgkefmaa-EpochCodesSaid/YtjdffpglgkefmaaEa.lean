/- Walks that follow mirrors: Ea. Printed by mx.py. -/
import Derived.Test.YtjdffpglgkefmaaMirL
import Derived.Test.YtjdffpglgkefmaaChecked
import Derived.Test.YtjdffpglgkefmaaRows
import Derived.Test.YtjdffpglgkefmaaEaM
set_option linter.unusedVariables false
set_option linter.unusedSimpArgs false
set_option maxRecDepth 100000
namespace Go.Proofs.Ytjdffpglgkefmaa.Mx
open Go Go.RowKit Go.Sx
theorem agg_31 : Agg Try.prog 31 56 := fun _ => ⟨by kernel_rfl, by kernel_rfl⟩
theorem fa_31_2 : FA Try.prog 31 2 2 := fun _ _ _ => by kernel_rfl
theorem agg_28 : Agg Try.prog 28 35 := fun _ => ⟨by kernel_rfl, by kernel_rfl⟩
theorem zv_28 : ZV Try.prog 28 (.agg [.slice none 0 0, .int .u64 0, .slice none 0 0, .int .u8 0, .int .u8 0, .int .u8 0, .int .u8 0, .int .u8 0, .int .u8 0, .int .u8 0, .int .u8 0, .int .u8 0, .int .u8 0, .int .u8 0, .int .u8 0, .int .u8 0, .int .u8 0, .int .u8 0, .int .u8 0, .int .u8 0, .int .u8 0, .int .u8 0, .int .u8 0, .int .u8 0, .int .u8 0, .int .u8 0, .int .u8 0, .int .u8 0, .int .u8 0, .int .u8 0, .int .u8 0, .int .u8 0, .int .u8 0, .int .u8 0, .int .u8 0].toArray) := fun _ => by kernel_rfl
theorem fa_28_0 : FA Try.prog 28 0 0 := fun _ _ _ => by kernel_rfl
theorem one_22 : One Try.prog 22 := fun _ => ⟨by kernel_rfl, by kernel_rfl⟩
theorem fa_28_2 : FA Try.prog 28 2 2 := fun _ _ _ => by kernel_rfl
theorem one_24 : One Try.prog 24 := fun _ => ⟨by kernel_rfl, by kernel_rfl⟩
theorem fa_28_1 : FA Try.prog 28 1 1 := fun _ _ _ => by kernel_rfl
theorem one_23 : One Try.prog 23 := fun _ => ⟨by kernel_rfl, by kernel_rfl⟩
theorem fa_28_3 : FA Try.prog 28 3 3 := fun _ _ _ => by kernel_rfl
theorem agg_26 : Agg Try.prog 26 16 := fun _ => ⟨by kernel_rfl, by kernel_rfl⟩
theorem bz_26 : BZ Try.prog 26 (kv k0) := fun _ => by kernel_rfl
theorem one_5 : One Try.prog 5 := fun _ => ⟨by kernel_rfl, by kernel_rfl⟩
theorem eqc_5 : EqC Try.prog 1 5 [.i .u8] := eqc_int Try.underlying5 one_5
theorem eqc_26 : EqC Try.prog 2 26 [.i .u8, .i .u8, .i .u8, .i .u8, .i .u8, .i .u8, .i .u8, .i .u8, .i .u8, .i .u8, .i .u8, .i .u8, .i .u8, .i .u8, .i .u8, .i .u8] := eqc_array (ks := [.i .u8]) Try.underlying26 (infoE (by kernel_rfl)).choose_spec (by kernel_rfl) agg_26 eqc_5
theorem eqt_26 : EqT Try.prog 26 [.i .u8, .i .u8, .i .u8, .i .u8, .i .u8, .i .u8, .i .u8, .i .u8, .i .u8, .i .u8, .i .u8, .i .u8, .i .u8, .i .u8, .i .u8, .i .u8] := ⟨by kernel_rfl, agg_26, 2, by decide, eqc_26⟩
theorem fa_28_4 : FA Try.prog 28 4 19 := fun _ _ _ => by kernel_rfl
theorem fa_31_0 : FA Try.prog 31 0 0 := fun _ _ _ => by kernel_rfl
theorem fa_31_1 : FA Try.prog 31 1 1 := fun _ _ _ => by kernel_rfl
theorem one_3 : One Try.prog 3 := fun _ => ⟨by kernel_rfl, by kernel_rfl⟩
theorem en_26 : En Try.prog 26 := fun _ _ => by kernel_rfl
theorem fa_31_3 : FA Try.prog 31 3 37 := fun _ _ _ => by kernel_rfl
theorem fa_31_4 : FA Try.prog 31 4 38 := fun _ _ _ => by kernel_rfl
theorem fa_31_5 : FA Try.prog 31 5 39 := fun _ _ _ => by kernel_rfl
theorem one_29 : One Try.prog 29 := fun _ => ⟨by kernel_rfl, by kernel_rfl⟩
theorem agg_64 : Agg Try.prog 64 18 := fun _ => ⟨by kernel_rfl, by kernel_rfl⟩
theorem fa_64_0 : FA Try.prog 64 0 0 := fun _ _ _ => by kernel_rfl
theorem fa_62_0 : FA Try.prog 62 0 0 := fun _ _ _ => by kernel_rfl
theorem fa_62_1 : FA Try.prog 62 1 1 := fun _ _ _ => by kernel_rfl
theorem en_25 : En Try.prog 25 := fun _ _ => by kernel_rfl
theorem en_36 : En Try.prog 36 := fun _ _ => by kernel_rfl
theorem en_27 : En Try.prog 27 := fun _ _ => by kernel_rfl
theorem en_9 : En Try.prog 9 := fun _ _ => by kernel_rfl
theorem zv_76 : ZV Try.prog 76 (.agg [.slice none 0 0].toArray) := fun _ => by kernel_rfl
theorem bs_76 : BS Try.prog 76 (fun i => [(0, 1)][i]?) [.slice none 0 0] := bs_mk Try.underlying76 zv_76 ⟨rfl, (one_29).siz, trivial⟩
theorem cv_5_23 : CV Try.prog 5 23 .u64 := fun _ _ _ => by kernel_rfl
theorem fa_76_0 : FA Try.prog 76 0 0 := fun _ _ _ => by kernel_rfl
theorem cv_23_5 : CV Try.prog 23 5 .u8 := fun _ _ _ => by kernel_rfl
theorem zv_5 : ZV Try.prog 5 (.int .u8 0) := fun _ => by kernel_rfl
theorem bsl_29_1 : BSl Try.prog 29 1 5 1 [.int .u8 0] := bsl_mk Try.underlying29 (one_5).siz zv_5 rfl rfl (by kernel_rfl)
theorem apt_29 : ApT Try.prog 29 5 1 1 := apt_mk Try.underlying29 rfl (by kernel_rfl)
theorem en_29 : En Try.prog 29 := fun _ _ => by kernel_rfl
theorem cv_3_23 : CV Try.prog 3 23 .u64 := fun _ _ _ => by kernel_rfl
theorem zv_64 : ZV Try.prog 64 (.agg [.int .i64 0, .int .i64 0, .int .u8 0, .int .u8 0, .int .u8 0, .int .u8 0, .int .u8 0, .int .u8 0, .int .u8 0, .int .u8 0, .int .u8 0, .int .u8 0, .int .u8 0, .int .u8 0, .int .u8 0, .int .u8 0, .int .u8 0, .int .u8 0].toArray) := fun _ => by kernel_rfl
theorem fa_64_1 : FA Try.prog 64 1 2 := fun _ _ _ => by kernel_rfl
theorem en_30 : En Try.prog 30 := fun _ _ => by kernel_rfl
theorem agg_35 : Agg Try.prog 35 2 := fun _ => ⟨by kernel_rfl, by kernel_rfl⟩
theorem zv_35 : ZV Try.prog 35 (.agg [.int .u64 0, .int .u64 0].toArray) := fun _ => by kernel_rfl
theorem fa_35_0 : FA Try.prog 35 0 0 := fun _ _ _ => by kernel_rfl
theorem fa_35_1 : FA Try.prog 35 1 1 := fun _ _ _ => by kernel_rfl
theorem fa_31_6 : FA Try.prog 31 6 40 := fun _ _ _ => by kernel_rfl
theorem en_12 : En Try.prog 12 := fun _ _ => by kernel_rfl

set_option maxHeartbeats 2000000 in
theorem epoch_isTick_w (p0 : Int)  (r : Bool) (hm : epoch_isTick p0 = some r) (w : World)   :
    Calls Try.prog 26 [.int .i64 p0].toArray w fun e w' => ∃ v, e = .returned v ∧ (v = .bool r ∧ Gr w w') := by
  unfold epoch_isTick at hm
  refine calls_of_sw (R := fun v w' => v = .bool r ∧ Gr w w') 9 Try.func26 rfl rfl rfl ?_
  refine sw_seq ?_
  -- region 0 epoch.go:26
  refine sw_region [(0, 0)] rfl rfl rfl ?_
  refine sd_vv rfl rfl rfl (vv_assign rfl) ?_
  refine sd_done ?_
  refine sw_seq ?_
  -- region 1 epoch.go:26
  refine sw_region [(0, 0), (1, 0), (2, 0), (3, 0), (4, 0), (5, 0), (6, 0)] rfl rfl rfl ?_
  refine sd_vv rfl rfl rfl (vv_move rfl) ?_
  refine sd_vv rfl rfl rfl (vv_geq (a := p0) (b := 0) rfl rfl) ?_
  refine sd_split rfl rfl rfl (vv_move rfl) (fun c1 => ?_) (fun c1 => ?_)
  ·
    replace hm := ite_t (of_decide_eq_true c1) hm
    refine sd_vv rfl rfl rfl (vv_move rfl) ?_
    refine sd_vv rfl rfl rfl (vv_leq (a := p0) (b := 1099511627776) rfl rfl) ?_
    refine sd_vv rfl rfl rfl (vv_pickT rfl rfl) ?_
    refine sd_vv rfl rfl rfl (vv_assign rfl) ?_
    refine sd_done ?_
    refine sw_ret ?_
    have hr := Option.some.inj hm
    subst hr
    refine ⟨_, _, rfl, res_1 rfl (rv_tmp rfl), ?_⟩
    exact ⟨rfl, (Gr.refl w)⟩
  ·
    replace hm := ite_f (of_decide_eq_false c1) hm
    refine sd_skip rfl rfl rfl ?_
    refine sd_skip rfl rfl rfl ?_
    refine sd_vv rfl rfl rfl (vv_pickF rfl rfl) ?_
    refine sd_vv rfl rfl rfl (vv_assign rfl) ?_
    refine sd_done ?_
    refine sw_ret ?_
    have hr := Option.some.inj hm
    subst hr
    refine ⟨_, _, rfl, res_1 rfl (rv_tmp rfl), ?_⟩
    exact ⟨rfl, (Gr.refl w)⟩

set_option maxHeartbeats 2000000 in
theorem epoch_CheckPacket_1_w (p0 : TItem)  (r : Bool) (hm : epoch_CheckPacket_1 p0 = some r) (w : World)   :
    Calls Try.prog 25 [.agg (TItem.cs p0).toArray].toArray w fun e w' => ∃ v, e = .returned v ∧ (v = .bool r ∧ Gr w w') := by
  unfold epoch_CheckPacket_1 at hm
  refine calls_of_sw (R := fun v w' => v = .bool r ∧ Gr w w') 21 Try.func25 rfl rfl rfl ?_
  refine sw_seq ?_
  -- region 0 bytes.go:13
  refine sw_region [(0, 0), (1, 0)] rfl rfl rfl ?_
  refine sd_ev rfl rfl rfl (ev_box (cs := TItem.cs p0) rfl rfl) ?_
  rintro _ w1 ⟨b1, rfl, hbw1, Bw1, Gw1⟩
  have z1 := Gw1.size
  have lt2 := Bw1.lt
  refine sd_vv rfl rfl rfl (vv_assign rfl) ?_
  refine sd_done ?_
  refine sw_seq ?_
  -- region 1 bytes.go:14
  refine sw_region [(0, 0), (1, 0), (2, 0), (3, 0), (4, 0), (5, 0), (6, 0), (7, 0), (8, 0), (9, 0), (10, 0), (11, 0), (12, 0), (13, 0), (14, 0), (15, 0), (16, 0), (17, 0), (18, 0)] rfl rfl rfl ?_
  refine sd_vv rfl rfl rfl (vv_fieldAddr fa_64_0 rfl) ?_
  refine sd_vv rfl rfl rfl (vv_fieldAddr fa_62_0 rfl) ?_
  refine sd_vv rfl rfl rfl (vv_load1 (v := .int .i64 p0.Subset.Node) one_3 rfl Bw1 rfl) ?_
  refine sd_vv rfl rfl rfl (vv_fieldAddr fa_64_0 rfl) ?_
  refine sd_vv rfl rfl rfl (vv_fieldAddr fa_62_1 rfl) ?_
  refine sd_vv rfl rfl rfl (vv_load1 (v := .int .i64 p0.Subset.Minus) one_3 rfl Bw1 rfl) ?_
  refine sd_vv rfl rfl rfl (vv_minK rfl rfl) ?_
  refine sd_vv rfl rfl rfl (vv_lss (a := mnI p0.Subset.Node p0.Subset.Minus) (b := 0) rfl rfl) ?_
  refine sd_split rfl rfl rfl (vv_move rfl) (fun c1 => ?_) (fun c1 => ?_)
  ·
    replace hm := ite_t (of_decide_eq_true c1) hm
    refine sd_skip rfl rfl rfl ?_
    refine sd_skip rfl rfl rfl ?_
    refine sd_skip rfl rfl rfl ?_
    refine sd_skip rfl rfl rfl ?_
    refine sd_skip rfl rfl rfl ?_
    refine sd_skip rfl rfl rfl ?_
    refine sd_skip rfl rfl rfl ?_
    refine sd_skip rfl rfl rfl ?_
    refine sd_vv rfl rfl rfl (vv_pickT rfl rfl) ?_
    refine sd_vv rfl rfl rfl (vv_assign rfl) ?_
    refine sd_done ?_
    refine sw_ret ?_
    have X3 : Gr w w1 := (Gr.trans (Gr.refl w) Gw1)
    have hr := Option.some.inj hm
    subst hr
    refine ⟨_, _, rfl, res_1 rfl (rv_tmp rfl), ?_⟩
    exact ⟨rfl, X3⟩
  ·
    replace hm := ite_f (of_decide_eq_false c1) hm
    refine sd_vv rfl rfl rfl (vv_fieldAddr fa_64_0 rfl) ?_
    refine sd_vv rfl rfl rfl (vv_fieldAddr fa_62_0 rfl) ?_
    refine sd_vv rfl rfl rfl (vv_load1 (v := .int .i64 p0.Subset.Node) one_3 rfl Bw1 rfl) ?_
    refine sd_vv rfl rfl rfl (vv_fieldAddr fa_64_0 rfl) ?_
    refine sd_vv rfl rfl rfl (vv_fieldAddr fa_62_1 rfl) ?_
    refine sd_vv rfl rfl rfl (vv_load1 (v := .int .i64 p0.Subset.Minus) one_3 rfl Bw1 rfl) ?_
    refine sd_vv rfl rfl rfl (vv_maxK rfl rfl) ?_
    refine sd_vv rfl rfl rfl (vv_gtr (a := mxI p0.Subset.Node p0.Subset.Minus) (b := 127) rfl rfl) ?_
    refine sd_vv rfl rfl rfl (vv_pickF rfl rfl) ?_
    refine sd_vv rfl rfl rfl (vv_assign rfl) ?_
    refine sd_done ?_
    refine sw_ret ?_
    have X4 : Gr w w1 := (Gr.trans (Gr.refl w) Gw1)
    have hr := Option.some.inj hm
    subst hr
    refine ⟨_, _, rfl, res_1 rfl (rv_tmp rfl), ?_⟩
    exact ⟨rfl, X4⟩

set_option maxHeartbeats 2000000 in
theorem slices_IndexFunc_c205_epoch_CheckPacket_1_w (p0 : List TItem) (vp0 : Value) (zp0 gp0 op0 : Nat) (r : Int) (hm : slices_IndexFunc_c205_epoch_CheckPacket_1 p0 = some r) (w : World) (hp0 : Rd w zp0 gp0 op0 18 vp0 (p0.map TItem.cs))  :
    Calls Try.prog 36 [vp0, .func (.func 25) [].toArray [].toArray].toArray w fun e w' => ∃ v, e = .returned v ∧ (v = .int .i64 r ∧ Gr w w') := by
  have lt1 := hp0.lth
  unfold slices_IndexFunc_c205_epoch_CheckPacket_1 at hm
  refine calls_of_sw (R := fun v w' => v = .int .i64 r ∧ Gr w w') 19 Try.func36 rfl rfl rfl ?_
  refine sw_seq ?_
  -- region 0 slices.go:107
  refine sw_region [(0, 0)] rfl rfl rfl ?_
  refine sd_vv rfl rfl rfl (vv_assign rfl) ?_
  refine sd_done ?_
  refine sw_seq ?_
  refine sw_seq ?_
  -- region 1 slices.go:108
  refine sw_region [(0, 0), (1, 0), (2, 0)] rfl rfl rfl ?_
  refine sd_vv rfl rfl rfl (vv_move rfl) ?_
  refine sd_vv rfl rfl rfl (vv_lenT (l := p0) (c := TItem.cs) Try.underlying22 rfl hp0) ?_
  refine sd_vv rfl rfl rfl (vv_move rfl) ?_
  refine sd_done ?_
  refine sw_block ?_
  refine sw_loopD (α := Nat × Int) [4, 5, 8, 9, 10, 11, 12, 13, 14, 15, 16, 17, 18] (fun ⟨n1, a2⟩ => [(4, .int .i64 0), (8, .int .i64 a2)]) (fun ⟨n1, a2⟩ wr => (fixN (slices_IndexFunc_c205_epoch_CheckPacket_1_L1 p0) n1 a2 = some r) ∧ Kz [] w wr) (fun ⟨n1, a2⟩ => n1) ⟨FUEL, 0⟩ ?_ ?_ ?_
  · repeat' first | exact trivial | refine ⟨rfl, ?_⟩
  · exact ⟨hm, Kz.refl _ _⟩
  · clear hm; rintro ⟨n1, a2⟩ w1 ⟨hm, Kw1⟩
    have z2 := Kw1.size
    have hb := fix_succ hm; clear hm; obtain ⟨n1, rfl, hm⟩ := hb
    generalize hrec1 : fixN (slices_IndexFunc_c205_epoch_CheckPacket_1_L1 p0) n1 = rec1 at hm
    unfold slices_IndexFunc_c205_epoch_CheckPacket_1_L1 at hm
    try dsimp only at hm
    refine sw_seq ?_
    -- region 2 slices.go:108
    refine sw_region [(0, 0)] rfl rfl rfl ?_
    refine sd_vv rfl rfl rfl (vv_lss (a := a2) (b := (p0.length : Int)) rfl rfl) ?_
    refine sd_done ?_
    refine sw_seq ?_
    refine sw_cond rfl (fun c1 => ?_) (fun c1 => ?_)
    ·
      replace hm := ite_t (of_decide_eq_true c1) hm
      refine sw_skip ?_
      refine then_n ?_
      refine sw_seq ?_
      refine sw_block ?_
      refine sw_seq ?_
      -- region 3 slices.go:108
      refine sw_region [(0, 0), (1, 0)] rfl rfl rfl ?_
      refine sd_vv rfl rfl rfl (vv_move rfl) ?_
      refine sd_vv rfl rfl rfl (vv_assign rfl) ?_
      refine sd_done ?_
      refine sw_seq ?_
      -- region 4 slices.go:109
      refine sw_region [(0, 0), (1, 0), (2, 0), (3, 0), (4, 0), (5, 0)] rfl rfl rfl ?_
      refine sd_vv rfl rfl rfl (vv_move rfl) ?_
      refine sd_vv rfl rfl rfl (vv_move rfl) ?_
      refine sd_vv rfl rfl rfl (vv_move rfl) ?_
      have hb := bnd hm; clear hm; obtain ⟨y3, hy3, hm⟩ := hb
      have B3 := (Rd.kz hp0 Kw1)
      refine sd_vv rfl rfl rfl (vv_ixT (i := a2) Try.underlying22 (agg_64).siz rfl B3 rfl hy3) ?_
      refine sd_vv rfl rfl rfl (vv_elWT agg_64 rfl B3 hy3 (by first | rfl | omega)) ?_
      have hb := bnd hm; clear hm; obtain ⟨x4, hx4, hm⟩ := hb
      refine sd_ev rfl rfl rfl (ev_callV en_25 rfl rfl (epoch_CheckPacket_1_w y3 _ hx4 _)) ?_
      rintro _ w2 ⟨rfl, Gw2⟩
      have z4 := Gw2.size
      refine sd_done ?_
      refine sw_cond rfl (fun c2 => ?_) (fun c2 => ?_)
      ·
        replace hm := cnd_t c2 hm
        refine sw_seq ?_
        -- region 5 slices.go:110
        refine sw_region [(0, 0), (1, 0)] rfl rfl rfl ?_
        refine sd_vv rfl rfl rfl (vv_move rfl) ?_
        refine sd_vv rfl rfl rfl (vv_assign rfl) ?_
        refine sd_done ?_
        refine sw_ret ?_
        refine block_r ?_
        refine then_r ?_
        refine then_r ?_
        refine block_r ?_
        refine then_r ?_
        have X5 : Gr w w2 := (Gr.trans (Gr.kz (Gr.refl w) Kw1) Gw2)
        have hr := Option.some.inj hm
        subst hr
        refine ⟨_, _, rfl, res_1 rfl (rv_tmp rfl), ?_⟩
        exact ⟨rfl, X5⟩
      ·
        replace hm := cnd_f c2 hm
        refine sw_skip ?_
        refine block_n ?_
        refine then_n ?_
        -- region 6 slices.go:108
        refine sw_region [(0, 0), (1, 0)] rfl rfl rfl ?_
        refine sd_vv rfl rfl rfl (vv_add (k := .i64) (a := a2) (b := 1) rfl rfl) ?_
        refine sd_vv rfl rfl rfl (vv_move rfl) ?_
        refine sd_nil ?_
        have K_6 : Kz [] w w2 := (Kz.gr Kw1 Gw2)
        subst hrec1
        refine ⟨rfl, ⟨n1, w64 (a2 + 1)⟩, ?_, ⟨hm, K_6⟩, Nat.lt_succ_self _⟩
        repeat' first | exact trivial | refine ⟨rfl, ?_⟩
    ·
      replace hm := ite_f (of_decide_eq_false c1) hm
      refine sw_exit ?_
      refine then_x ?_
      refine then_x ?_
      refine block_x ?_
      refine then_n ?_
      refine sw_seq ?_
      -- region 7 slices.go:113
      refine sw_region [(0, 0)] rfl rfl rfl ?_
      refine sd_vv rfl rfl rfl (vv_assign rfl) ?_
      refine sd_done ?_
      refine sw_ret ?_
      have X7 : Gr w w1 := (Gr.kz (Gr.refl w) Kw1)
      have hr := Option.some.inj hm
      subst hr
      refine ⟨_, _, rfl, res_1 rfl (rv_tmp rfl), ?_⟩
      exact ⟨rfl, X7⟩

set_option maxHeartbeats 2000000 in
theorem slices_ContainsFunc_9968_epoch_CheckPacket_1_w (p0 : List TItem) (vp0 : Value) (zp0 gp0 op0 : Nat) (r : Bool) (hm : slices_ContainsFunc_9968_epoch_CheckPacket_1 p0 = some r) (w : World) (hp0 : Rd w zp0 gp0 op0 18 vp0 (p0.map TItem.cs))  :
    Calls Try.prog 27 [vp0, .func (.func 25) [].toArray [].toArray].toArray w fun e w' => ∃ v, e = .returned v ∧ (v = .bool r ∧ Gr w w') := by
  have lt1 := hp0.lth
  unfold slices_ContainsFunc_9968_epoch_CheckPacket_1 at hm
  refine calls_of_sw (R := fun v w' => v = .bool r ∧ Gr w w') 9 Try.func27 rfl rfl rfl ?_
  refine sw_seq ?_
  -- region 0 slices.go:124
  refine sw_region [(0, 0)] rfl rfl rfl ?_
  refine sd_vv rfl rfl rfl (vv_assign rfl) ?_
  refine sd_done ?_
  refine sw_seq ?_
  -- region 1 slices.go:125
  refine sw_region [(0, 0), (1, 0), (2, 0), (3, 0), (4, 0)] rfl rfl rfl ?_
  refine sd_vv rfl rfl rfl (vv_move rfl) ?_
  refine sd_vv rfl rfl rfl (vv_move rfl) ?_
  have hb := bnd hm; clear hm; obtain ⟨x1, hx1, hm⟩ := hb
  refine sd_ev rfl rfl rfl (ev_call en_36 rfl (slices_IndexFunc_c205_epoch_CheckPacket_1_w p0 _ _ _ _ _ hx1 _ hp0)) ?_
  rintro _ w1 ⟨rfl, Gw1⟩
  have z2 := Gw1.size
  refine sd_vv rfl rfl rfl (vv_geq (a := x1) (b := 0) rfl rfl) ?_
  refine sd_vv rfl rfl rfl (vv_assign rfl) ?_
  refine sd_done ?_
  refine sw_ret ?_
  have X3 : Gr w w1 := (Gr.trans (Gr.refl w) Gw1)
  have hr := Option.some.inj hm
  subst hr
  refine ⟨_, _, rfl, res_1 rfl (rv_tmp rfl), ?_⟩
  exact ⟨rfl, X3⟩

set_option maxHeartbeats 2000000 in
theorem epoch_CheckPacket_w (p0 : TPacket) (vp0_2 : Value) (zp0_2 gp0_2 op0_2 : Nat) (vp0_4 : Value) (zp0_4 gp0_4 op0_4 : Nat) (vp0_39 : Value) (zp0_39 gp0_39 op0_39 : Nat) (r : Int) (hm : epoch_CheckPacket p0 = some r) (w : World) (hp0_2 : Rd w zp0_2 gp0_2 op0_2 18 vp0_2 (p0.Head.Items.map TItem.cs)) (hp0_4 : Rd w zp0_4 gp0_4 op0_4 2 vp0_4 (p0.Head.Points.map TPoint.cs)) (hp0_39 : Rd w zp0_39 gp0_39 op0_39 1 vp0_39 (p0.Data.map bvc))  :
    Calls Try.prog 9 [.agg (TPacket.cs p0 vp0_2 vp0_4 vp0_39).toArray].toArray w fun e w' => ∃ v, e = .returned v ∧ (v = .int .i64 r ∧ Gr w w') := by
  have lt1 := hp0_2.lth
  have lt2 := hp0_4.lth
  have lt3 := hp0_39.lth
  unfold epoch_CheckPacket at hm
  refine calls_of_sw (R := fun v w' => v = .int .i64 r ∧ Gr w w') 99 Try.func9 rfl rfl rfl ?_
  refine sw_seq ?_
  -- region 0 bytes.go:10
  refine sw_region [(0, 0), (1, 0)] rfl rfl rfl ?_
  refine sd_ev rfl rfl rfl (ev_box (cs := TPacket.cs p0 vp0_2 vp0_4 vp0_39) rfl rfl) ?_
  rintro _ w1 ⟨b1, rfl, hbw1, Bw1, Gw1⟩
  have z4 := Gw1.size
  have lt5 := Bw1.lt
  refine sd_vv rfl rfl rfl (vv_assign rfl) ?_
  refine sd_done ?_
  refine sw_seq ?_
  -- region 1 bytes.go:11
  refine sw_region [(0, 0), (1, 0), (2, 0), (3, 0)] rfl rfl rfl ?_
  refine sd_vv rfl rfl rfl (vv_fieldAddr fa_31_2 rfl) ?_
  refine sd_vv rfl rfl rfl (vv_loadM (vs := THeader.cs p0.Head vp0_2 vp0_4) agg_28 rfl Bw1 rfl rfl) ?_
  refine sd_ev rfl rfl rfl (ev_alloc (cs := THeader.cs (THeader.mk [] 0#64 [] k0 k0) (.slice none 0 0) (.slice none 0 0)) zv_28 rfl) ?_
  rintro _ w2 ⟨b2, rfl, hbw2, Bw2, Gw2⟩
  have z6 := Gw2.size
  have lt7 := Bw2.lt
  have B8 := (Rd.gr (Rd.gr hp0_2 Gw1) Gw2)
  have B9 := (Rd.gr (Rd.gr hp0_4 Gw1) Gw2)
  refine sd_ev rfl rfl rfl (ev_stM (cs' := THeader.cs p0.Head vp0_2 vp0_4) (vs := THeader.cs p0.Head vp0_2 vp0_4) (agg_28).siz rfl rfl rfl rfl (THeader.cs_ones _ _ _ (Rd.oneB B8) (Rd.oneB B9)) Bw2 rfl rfl) ?_
  rintro _ w3 ⟨Bw3, Mw3⟩
  have z10 := Mw3.size
  refine sd_done ?_
  have X11 : Gr w w3 := (Gr.md (Gr.trans (Gr.trans (Gr.refl w) Gw1) Gw2) Mw3)
  refine sw_joinD (β := Bool) [4, 9, 10, 11, 12, 13, 14, 15, 16, 17, 18, 19, 20, 21, 22, 23, 24, 25, 26, 27, 28, 29, 30, 31, 32, 33, 34, 35] (fun a1 => [(4, .bool a1)]) (fun a1 wr => (epoch_CheckPacket_J1 p0 a1 = some r) ∧ Kz [] w3 wr) ?_ ?_
  · clear hm; rintro a1 w4 ⟨hm, Kw4⟩
    have z12 := Kw4.size
    unfold epoch_CheckPacket_J1 at hm
    refine sw_seq ?_
    -- region 3 bytes.go:13
    refine sw_region [(0, 0)] rfl rfl rfl ?_
    refine sd_vv rfl rfl rfl (vv_assign rfl) ?_
    refine sd_done ?_
    refine sw_seq ?_
    -- region 4 bytes.go:16
    refine sw_region [(0, 0)] rfl rfl rfl ?_
    refine sd_vv rfl rfl rfl (vv_assign rfl) ?_
    refine sd_done ?_
    have X13 : Gr w w4 := (Gr.kz X11 Kw4)
    refine sw_joinD (β := Bool) [6, 36, 37, 38, 39, 40, 41, 42, 43, 44, 45, 46, 47, 48, 49, 50, 51, 52, 53, 54, 55, 56, 57, 58, 59, 60, 61, 62, 63, 64, 65, 66, 67, 68, 69, 70, 71, 72, 73, 74, 75, 76, 77, 78, 79, 80, 81, 82, 83, 84, 85, 86, 87, 88, 89, 90, 91, 92, 93, 94, 95, 96] (fun a2 => [(6, .bool a2)]) (fun a2 wr => (epoch_CheckPacket_J2 a2 = some r) ∧ Kz [] w4 wr) ?_ ?_
    · clear hm; rintro a2 w5 ⟨hm, Kw5⟩
      have z14 := Kw5.size
      unfold epoch_CheckPacket_J2 at hm
      refine sw_seq ?_
      refine sw_seq ?_
      -- region 10 bytes.go:23
      refine sw_region [(0, 0), (1, 0)] rfl rfl rfl ?_
      refine sd_vv rfl rfl rfl (vv_move rfl) ?_
      refine sd_vv rfl rfl rfl (vv_not rfl) ?_
      refine sd_done ?_
      refine sw_cond rfl (fun c1 => ?_) (fun c1 => ?_)
      ·
        replace hm := cnd_t c1 hm
        refine sw_seq ?_
        -- region 11 bytes.go:24
        refine sw_region [(0, 0)] rfl rfl rfl ?_
        refine sd_vv rfl rfl rfl (vv_assign rfl) ?_
        refine sd_done ?_
        refine sw_ret ?_
        refine then_r ?_
        have X15 : Gr w w5 := (Gr.kz X13 Kw5)
        have hr := Option.some.inj hm
        subst hr
        refine ⟨_, _, rfl, res_1 rfl (rv_tmp rfl), ?_⟩
        exact ⟨rfl, X15⟩
      ·
        replace hm := cnd_f c1 hm
        refine sw_skip ?_
        refine then_n ?_
        refine sw_seq ?_
        -- region 12 bytes.go:26
        refine sw_region [(0, 0)] rfl rfl rfl ?_
        refine sd_vv rfl rfl rfl (vv_assign rfl) ?_
        refine sd_done ?_
        refine sw_ret ?_
        have X16 : Gr w w5 := (Gr.kz X13 Kw5)
        have hr := Option.some.inj hm
        subst hr
        refine ⟨_, _, rfl, res_1 rfl (rv_tmp rfl), ?_⟩
        exact ⟨rfl, X16⟩
    ·
      refine sw_seq ?_
      -- region 5 bytes.go:17
      refine sw_region [(0, 0), (1, 0)] rfl rfl rfl ?_
      refine sd_vv rfl rfl rfl (vv_fieldAddr fa_31_0 rfl) ?_
      have B17 := (Bx.kz (Bx.md (Bx.gr Bw1 Gw2) Mw3) Kw4)
      refine sd_vv rfl rfl rfl (vv_load1 (v := bv p0.Kind) one_5 rfl B17 rfl) ?_
      refine sd_done ?_
      refine sw_block ?_
      refine sw_seq ?_
      -- region 6 bytes.go:18
      refine sw_region [(0, 0), (1, 0)] rfl rfl rfl ?_
      refine sd_vv rfl rfl rfl (vv_eqlB (p := p0.Kind) (q := 1#8) rfl rfl) ?_
      refine sd_vv rfl rfl rfl (vv_assign rfl) ?_
      refine sd_done ?_
      refine sw_cond rfl (fun c2 => ?_) (fun c2 => ?_)
      ·
        replace hm := ite_t (of_decide_eq_true c2) hm
        -- region 7 bytes.go:19
        refine sw_region [(0, 0), (1, 0), (2, 0), (3, 0), (4, 0), (5, 0), (6, 0), (7, 0), (8, 0), (9, 0), (10, 0), (11, 0), (12, 0), (13, 0), (14, 0), (15, 0), (16, 0), (17, 0), (18, 0), (19, 0), (20, 0), (21, 0), (22, 0), (23, 0), (24, 0), (25, 0), (26, 0), (27, 0), (28, 0), (29, 0), (30, 0), (31, 0), (32, 0), (33, 0), (34, 0), (35, 0), (36, 0), (37, 0), (38, 0)] rfl rfl rfl ?_
        refine sd_vv rfl rfl rfl (vv_fieldAddr fa_31_1 rfl) ?_
        refine sd_vv rfl rfl rfl (vv_load1 (v := .int .i64 p0.Epoch) one_3 rfl B17 rfl) ?_
        have hb := bnd hm; clear hm; obtain ⟨x3, hx3, hm⟩ := hb
        refine sd_ev rfl rfl rfl (ev_call en_26 rfl (epoch_isTick_w p0.Epoch _ hx3 _)) ?_
        rintro _ w6 ⟨rfl, Gw6⟩
        have z18 := Gw6.size
        refine sd_split rfl rfl rfl (vv_move rfl) (fun c3 => ?_) (fun c3 => ?_)
        ·
          replace hm := cnd_t c3 hm
          refine sd_vv rfl rfl rfl (vv_fieldAddr fa_31_3 rfl) ?_
          have B19 := (Bx.gr B17 Gw6)
          refine sd_vv rfl rfl rfl (vv_load1 (v := bv p0.Low) one_5 rfl B19 rfl) ?_
          refine sd_vv rfl rfl rfl (vv_eqlB (p := p0.Low) (q := 0#8) rfl rfl) ?_
          refine sd_vv rfl rfl rfl (vv_pickT rfl rfl) ?_
          refine sd_split rfl rfl rfl (vv_move rfl) (fun c4 => ?_) (fun c4 => ?_)
          ·
            replace hm := ite_t (of_decide_eq_true c4) hm
            refine sd_vv rfl rfl rfl (vv_fieldAddr fa_31_4 rfl) ?_
            refine sd_vv rfl rfl rfl (vv_load1 (v := wv p0.Number) one_23 rfl B19 rfl) ?_
            refine sd_vv rfl rfl rfl (vv_eqlU (c := p0.Number) (d := 0#64) rfl rfl) ?_
            refine sd_vv rfl rfl rfl (vv_pickT rfl rfl) ?_
            refine sd_split rfl rfl rfl (vv_move rfl) (fun c5 => ?_) (fun c5 => ?_)
            ·
              replace hm := ite_t (of_decide_eq_true c5) hm
              refine sd_vv rfl rfl rfl (vv_fieldAddr fa_31_5 rfl) ?_
              refine sd_vv rfl rfl rfl (vv_load1 (v := vp0_39) one_29 rfl B19 rfl) ?_
              have B20 := (Rd.gr (Rd.kz (Rd.md (Rd.gr (Rd.gr hp0_39 Gw1) Gw2) Mw3 (tk1 ((pv_lt (A := (fun x => x ≠ b2)) lt3) : zp0_39 = 0 ∨ gp0_39 ≠ b2))) Kw4) Gw6)
              refine sd_vv rfl rfl rfl (vv_lenT (l := p0.Data) (c := bvc) Try.underlying29 rfl B20) ?_
              refine sd_vv rfl rfl rfl (vv_eql (a := (p0.Data.length : Int)) (b := 0) rfl rfl) ?_
              refine sd_vv rfl rfl rfl (vv_pickT rfl rfl) ?_
              refine sd_split rfl rfl rfl (vv_move rfl) (fun c6 => ?_) (fun c6 => ?_)
              ·
                replace hm := ite_t (of_decide_eq_true c6) hm
                refine sd_vv rfl rfl rfl (vv_fieldAddr fa_28_0 rfl) ?_
                have B21 := (Bx.gr (Bx.kz Bw3 Kw4) Gw6)
                refine sd_vv rfl rfl rfl (vv_load1 (v := vp0_2) one_22 rfl B21 rfl) ?_
                have B22 := (Rd.gr (Rd.kz (Rd.md B8 Mw3 (tk1 ((pv_lt (A := (fun x => x ≠ b2)) lt1) : zp0_2 = 0 ∨ gp0_2 ≠ b2))) Kw4) Gw6)
                refine sd_vv rfl rfl rfl (vv_lenT (l := p0.Head.Items) (c := TItem.cs) Try.underlying22 rfl B22) ?_
                refine sd_vv rfl rfl rfl (vv_leq (a := (p0.Head.Items.length : Int)) (b := 64) rfl rfl) ?_
                refine sd_vv rfl rfl rfl (vv_pickT rfl rfl) ?_
                refine sd_split rfl rfl rfl (vv_move rfl) (fun c7 => ?_) (fun c7 => ?_)
                ·
                  replace hm := ite_t (of_decide_eq_true c7) hm
                  refine sd_vv rfl rfl rfl (vv_fieldAddr fa_28_2 rfl) ?_
                  refine sd_vv rfl rfl rfl (vv_load1 (v := vp0_4) one_24 rfl B21 rfl) ?_
                  have B23 := (Rd.gr (Rd.kz (Rd.md B9 Mw3 (tk1 ((pv_lt (A := (fun x => x ≠ b2)) lt2) : zp0_4 = 0 ∨ gp0_4 ≠ b2))) Kw4) Gw6)
                  refine sd_vv rfl rfl rfl (vv_lenT (l := p0.Head.Points) (c := TPoint.cs) Try.underlying24 rfl B23) ?_
                  refine sd_vv rfl rfl rfl (vv_leq (a := (p0.Head.Points.length : Int)) (b := 8) rfl rfl) ?_
                  refine sd_vv rfl rfl rfl (vv_pickT rfl rfl) ?_
                  refine sd_split rfl rfl rfl (vv_move rfl) (fun c8 => ?_) (fun c8 => ?_)
                  ·
                    replace hm := ite_t (of_decide_eq_true c8) hm
                    refine sd_vv rfl rfl rfl (vv_fieldAddr fa_28_0 rfl) ?_
                    refine sd_vv rfl rfl rfl (vv_load1 (v := vp0_2) one_22 rfl B21 rfl) ?_
                    refine sd_vv rfl rfl rfl (vv_move rfl) ?_
                    have hb := bnd hm; clear hm; obtain ⟨x4, hx4, hm⟩ := hb
                    refine sd_ev rfl rfl rfl (ev_call en_27 rfl (slices_ContainsFunc_9968_epoch_CheckPacket_1_w p0.Head.Items _ _ _ _ _ hx4 _ B22)) ?_
                    rintro _ w7 ⟨rfl, Gw7⟩
                    have z24 := Gw7.size
                    refine sd_vv rfl rfl rfl (vv_not rfl) ?_
                    refine sd_vv rfl rfl rfl (vv_pickT rfl rfl) ?_
                    refine sd_vv rfl rfl rfl (vv_assign rfl) ?_
                    refine sd_nil ?_
                    refine block_n ?_
                    have K_25 : Kz [] w4 w7 := (Kz.gr (Kz.gr (Kz.refl _ _) Gw6) Gw7)
                    refine ⟨rfl, (!x4), ?_, hm, K_25⟩
                    repeat' first | exact trivial | refine ⟨rfl, ?_⟩
                  ·
                    replace hm := ite_f (of_decide_eq_false c8) hm
                    refine sd_skip rfl rfl rfl ?_
                    refine sd_skip rfl rfl rfl ?_
                    refine sd_skip rfl rfl rfl ?_
                    refine sd_skip rfl rfl rfl ?_
                    refine sd_skip rfl rfl rfl ?_
                    refine sd_vv rfl rfl rfl (vv_pickF rfl rfl) ?_
                    refine sd_vv rfl rfl rfl (vv_assign rfl) ?_
                    refine sd_nil ?_
                    refine block_n ?_
                    have K_26 : Kz [] w4 w6 := (Kz.gr (Kz.refl _ _) Gw6)
                    refine ⟨rfl, false, ?_, hm, K_26⟩
                    repeat' first | exact trivial | refine ⟨rfl, ?_⟩
                ·
                  replace hm := ite_f (of_decide_eq_false c7) hm
                  refine sd_skip rfl rfl rfl ?_
                  refine sd_skip rfl rfl rfl ?_
                  refine sd_skip rfl rfl rfl ?_
                  refine sd_skip rfl rfl rfl ?_
                  refine sd_vv rfl rfl rfl (vv_pickF rfl rfl) ?_
                  refine sd_vv rfl rfl rfl (vv_move rfl) ?_
                  refine sd_skip rfl rfl rfl ?_
                  refine sd_skip rfl rfl rfl ?_
                  refine sd_skip rfl rfl rfl ?_
                  refine sd_skip rfl rfl rfl ?_
                  refine sd_skip rfl rfl rfl ?_
                  refine sd_vv rfl rfl rfl (vv_pickF rfl rfl) ?_
                  refine sd_vv rfl rfl rfl (vv_assign rfl) ?_
                  refine sd_nil ?_
                  refine block_n ?_
                  have K_27 : Kz [] w4 w6 := (Kz.gr (Kz.refl _ _) Gw6)
                  refine ⟨rfl, false, ?_, hm, K_27⟩
                  repeat' first | exact trivial | refine ⟨rfl, ?_⟩
              ·
                replace hm := ite_f (of_decide_eq_false c6) hm
                refine sd_skip rfl rfl rfl ?_
                refine sd_skip rfl rfl rfl ?_
                refine sd_skip rfl rfl rfl ?_
                refine sd_skip rfl rfl rfl ?_
                refine sd_vv rfl rfl rfl (vv_pickF rfl rfl) ?_
                refine sd_vv rfl rfl rfl (vv_move rfl) ?_
                refine sd_skip rfl rfl rfl ?_
                refine sd_skip rfl rfl rfl ?_
                refine sd_skip rfl rfl rfl ?_
                refine sd_skip rfl rfl rfl ?_
                refine sd_vv rfl rfl rfl (vv_pickF rfl rfl) ?_
                refine sd_vv rfl rfl rfl (vv_move rfl) ?_
                refine sd_skip rfl rfl rfl ?_
                refine sd_skip rfl rfl rfl ?_
                refine sd_skip rfl rfl rfl ?_
                refine sd_skip rfl rfl rfl ?_
                refine sd_skip rfl rfl rfl ?_
                refine sd_vv rfl rfl rfl (vv_pickF rfl rfl) ?_
                refine sd_vv rfl rfl rfl (vv_assign rfl) ?_
                refine sd_nil ?_
                refine block_n ?_
                have K_28 : Kz [] w4 w6 := (Kz.gr (Kz.refl _ _) Gw6)
                refine ⟨rfl, false, ?_, hm, K_28⟩
                repeat' first | exact trivial | refine ⟨rfl, ?_⟩
            ·
              replace hm := ite_f (of_decide_eq_false c5) hm
              refine sd_skip rfl rfl rfl ?_
              refine sd_skip rfl rfl rfl ?_
              refine sd_skip rfl rfl rfl ?_
              refine sd_skip rfl rfl rfl ?_
              refine sd_vv rfl rfl rfl (vv_pickF rfl rfl) ?_
              refine sd_vv rfl rfl rfl (vv_move rfl) ?_
              refine sd_skip rfl rfl rfl ?_
              refine sd_skip rfl rfl rfl ?_
              refine sd_skip rfl rfl rfl ?_
              refine sd_skip rfl rfl rfl ?_
              refine sd_vv rfl rfl rfl (vv_pickF rfl rfl) ?_
              refine sd_vv rfl rfl rfl (vv_move rfl) ?_
              refine sd_skip rfl rfl rfl ?_
              refine sd_skip rfl rfl rfl ?_
              refine sd_skip rfl rfl rfl ?_
              refine sd_skip rfl rfl rfl ?_
              refine sd_vv rfl rfl rfl (vv_pickF rfl rfl) ?_
              refine sd_vv rfl rfl rfl (vv_move rfl) ?_
              refine sd_skip rfl rfl rfl ?_
              refine sd_skip rfl rfl rfl ?_
              refine sd_skip rfl rfl rfl ?_
              refine sd_skip rfl rfl rfl ?_
              refine sd_skip rfl rfl rfl ?_
              refine sd_vv rfl rfl rfl (vv_pickF rfl rfl) ?_
              refine sd_vv rfl rfl rfl (vv_assign rfl) ?_
              refine sd_nil ?_
              refine block_n ?_
              have K_29 : Kz [] w4 w6 := (Kz.gr (Kz.refl _ _) Gw6)
              refine ⟨rfl, false, ?_, hm, K_29⟩
              repeat' first | exact trivial | refine ⟨rfl, ?_⟩
          ·
            replace hm := ite_f (of_decide_eq_false c4) hm
            refine sd_skip rfl rfl rfl ?_
            refine sd_skip rfl rfl rfl ?_
            refine sd_skip rfl rfl rfl ?_
            refine sd_vv rfl rfl rfl (vv_pickF rfl rfl) ?_
            refine sd_vv rfl rfl rfl (vv_move rfl) ?_
            refine sd_skip rfl rfl rfl ?_
            refine sd_skip rfl rfl rfl ?_
            refine sd_skip rfl rfl rfl ?_
            refine sd_skip rfl rfl rfl ?_
            refine sd_vv rfl rfl rfl (vv_pickF rfl rfl) ?_
            refine sd_vv rfl rfl rfl (vv_move rfl) ?_
            refine sd_skip rfl rfl rfl ?_
            refine sd_skip rfl rfl rfl ?_
            refine sd_skip rfl rfl rfl ?_
            refine sd_skip rfl rfl rfl ?_
            refine sd_vv rfl rfl rfl (vv_pickF rfl rfl) ?_
            refine sd_vv rfl rfl rfl (vv_move rfl) ?_
            refine sd_skip rfl rfl rfl ?_
            refine sd_skip rfl rfl rfl ?_
            refine sd_skip rfl rfl rfl ?_
            refine sd_skip rfl rfl rfl ?_
            refine sd_vv rfl rfl rfl (vv_pickF rfl rfl) ?_
            refine sd_vv rfl rfl rfl (vv_move rfl) ?_
            refine sd_skip rfl rfl rfl ?_
            refine sd_skip rfl rfl rfl ?_
            refine sd_skip rfl rfl rfl ?_
            refine sd_skip rfl rfl rfl ?_
            refine sd_skip rfl rfl rfl ?_
            refine sd_vv rfl rfl rfl (vv_pickF rfl rfl) ?_
            refine sd_vv rfl rfl rfl (vv_assign rfl) ?_
            refine sd_nil ?_
            refine block_n ?_
            have K_30 : Kz [] w4 w6 := (Kz.gr (Kz.refl _ _) Gw6)
            refine ⟨rfl, false, ?_, hm, K_30⟩
            repeat' first | exact trivial | refine ⟨rfl, ?_⟩
        ·
          replace hm := cnd_f c3 hm
          refine sd_skip rfl rfl rfl ?_
          refine sd_skip rfl rfl rfl ?_
          refine sd_skip rfl rfl rfl ?_
          refine sd_vv rfl rfl rfl (vv_pickF rfl rfl) ?_
          refine sd_vv rfl rfl rfl (vv_move rfl) ?_
          refine sd_skip rfl rfl rfl ?_
          refine sd_skip rfl rfl rfl ?_
          refine sd_skip rfl rfl rfl ?_
          refine sd_vv rfl rfl rfl (vv_pickF rfl rfl) ?_
          refine sd_vv rfl rfl rfl (vv_move rfl) ?_
          refine sd_skip rfl rfl rfl ?_
          refine sd_skip rfl rfl rfl ?_
          refine sd_skip rfl rfl rfl ?_
          refine sd_skip rfl rfl rfl ?_
          refine sd_vv rfl rfl rfl (vv_pickF rfl rfl) ?_
          refine sd_vv rfl rfl rfl (vv_move rfl) ?_
          refine sd_skip rfl rfl rfl ?_
          refine sd_skip rfl rfl rfl ?_
          refine sd_skip rfl rfl rfl ?_
          refine sd_skip rfl rfl rfl ?_
          refine sd_vv rfl rfl rfl (vv_pickF rfl rfl) ?_
          refine sd_vv rfl rfl rfl (vv_move rfl) ?_
          refine sd_skip rfl rfl rfl ?_
          refine sd_skip rfl rfl rfl ?_
          refine sd_skip rfl rfl rfl ?_
          refine sd_skip rfl rfl rfl ?_
          refine sd_vv rfl rfl rfl (vv_pickF rfl rfl) ?_
          refine sd_vv rfl rfl rfl (vv_move rfl) ?_
          refine sd_skip rfl rfl rfl ?_
          refine sd_skip rfl rfl rfl ?_
          refine sd_skip rfl rfl rfl ?_
          refine sd_skip rfl rfl rfl ?_
          refine sd_skip rfl rfl rfl ?_
          refine sd_vv rfl rfl rfl (vv_pickF rfl rfl) ?_
          refine sd_vv rfl rfl rfl (vv_assign rfl) ?_
          refine sd_nil ?_
          refine block_n ?_
          have K_31 : Kz [] w4 w6 := (Kz.gr (Kz.refl _ _) Gw6)
          refine ⟨rfl, false, ?_, hm, K_31⟩
          repeat' first | exact trivial | refine ⟨rfl, ?_⟩
      ·
        replace hm := ite_f (of_decide_eq_false c2) hm
        refine sw_seq ?_
        -- region 8 bytes.go:20
        refine sw_region [(0, 0), (1, 0)] rfl rfl rfl ?_
        refine sd_vv rfl rfl rfl (vv_eqlB (p := p0.Kind) (q := 2#8) rfl rfl) ?_
        refine sd_vv rfl rfl rfl (vv_assign rfl) ?_
        refine sd_done ?_
        refine sw_cond rfl (fun c9 => ?_) (fun c9 => ?_)
        ·
          replace hm := ite_t (of_decide_eq_true c9) hm
          -- region 9 bytes.go:21
          refine sw_region [(0, 0), (1, 0), (2, 0), (3, 0), (4, 0), (5, 0), (6, 0), (7, 0), (8, 0), (9, 0), (10, 0), (11, 0), (12, 0), (13, 0), (14, 0), (15, 0), (16, 0), (17, 0)] rfl rfl rfl ?_
          refine sd_vv rfl rfl rfl (vv_fieldAddr fa_31_1 rfl) ?_
          refine sd_vv rfl rfl rfl (vv_load1 (v := .int .i64 p0.Epoch) one_3 rfl B17 rfl) ?_
          refine sd_vv rfl rfl rfl (vv_eql (a := p0.Epoch) (b := 0) rfl rfl) ?_
          refine sd_split rfl rfl rfl (vv_move rfl) (fun c10 => ?_) (fun c10 => ?_)
          ·
            replace hm := ite_t (of_decide_eq_true c10) hm
            refine sd_vv rfl rfl rfl (vv_fieldAddr fa_31_3 rfl) ?_
            refine sd_vv rfl rfl rfl (vv_load1 (v := bv p0.Low) one_5 rfl B17 rfl) ?_
            refine sd_vv rfl rfl rfl (vv_lssB (p := p0.Low) (q := 4#8) rfl rfl) ?_
            refine sd_vv rfl rfl rfl (vv_pickT rfl rfl) ?_
            refine sd_split rfl rfl rfl (vv_move rfl) (fun c11 => ?_) (fun c11 => ?_)
            ·
              replace hm := ite_t (of_decide_eq_true c11) hm
              refine sd_vv rfl rfl rfl (vv_fieldAddr fa_31_5 rfl) ?_
              refine sd_vv rfl rfl rfl (vv_load1 (v := vp0_39) one_29 rfl B17 rfl) ?_
              have B32 := (Rd.kz (Rd.md (Rd.gr (Rd.gr hp0_39 Gw1) Gw2) Mw3 (tk1 ((pv_lt (A := (fun x => x ≠ b2)) lt3) : zp0_39 = 0 ∨ gp0_39 ≠ b2))) Kw4)
              refine sd_vv rfl rfl rfl (vv_lenT (l := p0.Data) (c := bvc) Try.underlying29 rfl B32) ?_
              refine sd_vv rfl rfl rfl (vv_leq (a := (p0.Data.length : Int)) (b := 256) rfl rfl) ?_
              refine sd_vv rfl rfl rfl (vv_pickT rfl rfl) ?_
              refine sd_split rfl rfl rfl (vv_move rfl) (fun c12 => ?_) (fun c12 => ?_)
              ·
                replace hm := ite_t (of_decide_eq_true c12) hm
                refine sd_vv rfl rfl rfl (vv_move rfl) ?_
                refine sd_vv rfl rfl rfl (vv_pickT rfl rfl) ?_
                refine sd_vv rfl rfl rfl (vv_assign rfl) ?_
                refine sd_nil ?_
                refine block_n ?_
                have K_33 : Kz [] w4 w4 := (Kz.refl _ _)
                refine ⟨rfl, a1, ?_, hm, K_33⟩
                repeat' first | exact trivial | refine ⟨rfl, ?_⟩
              ·
                replace hm := ite_f (of_decide_eq_false c12) hm
                refine sd_skip rfl rfl rfl ?_
                refine sd_vv rfl rfl rfl (vv_pickF rfl rfl) ?_
                refine sd_vv rfl rfl rfl (vv_assign rfl) ?_
                refine sd_nil ?_
                refine block_n ?_
                have K_34 : Kz [] w4 w4 := (Kz.refl _ _)
                refine ⟨rfl, false, ?_, hm, K_34⟩
                repeat' first | exact trivial | refine ⟨rfl, ?_⟩
            ·
              replace hm := ite_f (of_decide_eq_false c11) hm
              refine sd_skip rfl rfl rfl ?_
              refine sd_skip rfl rfl rfl ?_
              refine sd_skip rfl rfl rfl ?_
              refine sd_skip rfl rfl rfl ?_
              refine sd_vv rfl rfl rfl (vv_pickF rfl rfl) ?_
              refine sd_vv rfl rfl rfl (vv_move rfl) ?_
              refine sd_skip rfl rfl rfl ?_
              refine sd_vv rfl rfl rfl (vv_pickF rfl rfl) ?_
              refine sd_vv rfl rfl rfl (vv_assign rfl) ?_
              refine sd_nil ?_
              refine block_n ?_
              have K_35 : Kz [] w4 w4 := (Kz.refl _ _)
              refine ⟨rfl, false, ?_, hm, K_35⟩
              repeat' first | exact trivial | refine ⟨rfl, ?_⟩
          ·
            replace hm := ite_f (of_decide_eq_false c10) hm
            refine sd_skip rfl rfl rfl ?_
            refine sd_skip rfl rfl rfl ?_
            refine sd_skip rfl rfl rfl ?_
            refine sd_vv rfl rfl rfl (vv_pickF rfl rfl) ?_
            refine sd_vv rfl rfl rfl (vv_move rfl) ?_
            refine sd_skip rfl rfl rfl ?_
            refine sd_skip rfl rfl rfl ?_
            refine sd_skip rfl rfl rfl ?_
            refine sd_skip rfl rfl rfl ?_
            refine sd_vv rfl rfl rfl (vv_pickF rfl rfl) ?_
            refine sd_vv rfl rfl rfl (vv_move rfl) ?_
            refine sd_skip rfl rfl rfl ?_
            refine sd_vv rfl rfl rfl (vv_pickF rfl rfl) ?_
            refine sd_vv rfl rfl rfl (vv_assign rfl) ?_
            refine sd_nil ?_
            refine block_n ?_
            have K_36 : Kz [] w4 w4 := (Kz.refl _ _)
            refine ⟨rfl, false, ?_, hm, K_36⟩
            repeat' first | exact trivial | refine ⟨rfl, ?_⟩
        ·
          replace hm := ite_f (of_decide_eq_false c9) hm
          refine sw_skip ?_
          refine block_n ?_
          have K_37 : Kz [] w4 w4 := (Kz.refl _ _)
          refine ⟨rfl, false, ?_, hm, K_37⟩
          repeat' first | exact trivial | refine ⟨rfl, ?_⟩
  ·
    -- region 2 bytes.go:12
    refine sw_region [(0, 0), (1, 0), (2, 0), (3, 0), (4, 0), (5, 0), (6, 0), (7, 0), (8, 0), (9, 0), (10, 0), (11, 0), (12, 0), (13, 0), (14, 0), (15, 0), (16, 0), (17, 0), (18, 0), (19, 0), (20, 0), (21, 0), (22, 0), (23, 0), (24, 0), (25, 0), (26, 0), (27, 0)] rfl rfl rfl ?_
    refine sd_vv rfl rfl rfl (vv_fieldAddr fa_28_0 rfl) ?_
    refine sd_vv rfl rfl rfl (vv_load1 (v := vp0_2) one_22 rfl Bw3 rfl) ?_
    have B38 := (Rd.md B8 Mw3 (tk1 ((pv_lt (A := (fun x => x ≠ b2)) lt1) : zp0_2 = 0 ∨ gp0_2 ≠ b2)))
    refine sd_vv rfl rfl rfl (vv_lenT (l := p0.Head.Items) (c := TItem.cs) Try.underlying22 rfl B38) ?_
    refine sd_vv rfl rfl rfl (vv_eql (a := (p0.Head.Items.length : Int)) (b := 0) rfl rfl) ?_
    refine sd_split rfl rfl rfl (vv_move rfl) (fun c13 => ?_) (fun c13 => ?_)
    ·
      replace hm := ite_t (of_decide_eq_true c13) hm
      refine sd_vv rfl rfl rfl (vv_fieldAddr fa_28_2 rfl) ?_
      refine sd_vv rfl rfl rfl (vv_load1 (v := vp0_4) one_24 rfl Bw3 rfl) ?_
      have B39 := (Rd.md B9 Mw3 (tk1 ((pv_lt (A := (fun x => x ≠ b2)) lt2) : zp0_4 = 0 ∨ gp0_4 ≠ b2)))
      refine sd_vv rfl rfl rfl (vv_lenT (l := p0.Head.Points) (c := TPoint.cs) Try.underlying24 rfl B39) ?_
      refine sd_vv rfl rfl rfl (vv_eql (a := (p0.Head.Points.length : Int)) (b := 0) rfl rfl) ?_
      refine sd_vv rfl rfl rfl (vv_pickT rfl rfl) ?_
      refine sd_split rfl rfl rfl (vv_move rfl) (fun c14 => ?_) (fun c14 => ?_)
      ·
        replace hm := ite_t (of_decide_eq_true c14) hm
        refine sd_vv rfl rfl rfl (vv_fieldAddr fa_28_1 rfl) ?_
        refine sd_vv rfl rfl rfl (vv_load1 (v := wv p0.Head.Base) one_23 rfl Bw3 rfl) ?_
        refine sd_vv rfl rfl rfl (vv_eqlU (c := p0.Head.Base) (d := 0#64) rfl rfl) ?_
        refine sd_vv rfl rfl rfl (vv_pickT rfl rfl) ?_
        refine sd_split rfl rfl rfl (vv_move rfl) (fun c15 => ?_) (fun c15 => ?_)
        ·
          replace hm := ite_t (of_decide_eq_true c15) hm
          refine sd_vv rfl rfl rfl (vv_fieldAddr fa_28_3 rfl) ?_
          refine sd_vv rfl rfl rfl (vv_loadM (vs := kb p0.Head.Box) agg_26 rfl Bw3 rfl rfl) ?_
          refine sd_vv rfl rfl rfl (vv_buildZ bz_26) ?_
          refine sd_vv rfl rfl rfl (vv_eqlS (cf := kb) (a := p0.Head.Box) (b := k0) eqt_26 rfl rfl rfl rfl (fun h => kb_inj h)) ?_
          refine sd_vv rfl rfl rfl (vv_pickT rfl rfl) ?_
          refine sd_split rfl rfl rfl (vv_move rfl) (fun c16 => ?_) (fun c16 => ?_)
          ·
            replace hm := ite_t (of_decide_eq_true c16) hm
            refine sd_vv rfl rfl rfl (vv_fieldAddr fa_28_4 rfl) ?_
            refine sd_vv rfl rfl rfl (vv_loadM (vs := kb p0.Head.Check) agg_26 rfl Bw3 rfl rfl) ?_
            refine sd_vv rfl rfl rfl (vv_buildZ bz_26) ?_
            refine sd_vv rfl rfl rfl (vv_eqlS (cf := kb) (a := p0.Head.Check) (b := k0) eqt_26 rfl rfl rfl rfl (fun h => kb_inj h)) ?_
            refine sd_vv rfl rfl rfl (vv_pickT rfl rfl) ?_
            refine sd_vv rfl rfl rfl (vv_assign rfl) ?_
            refine sd_nil ?_
            have K_40 : Kz [] w3 w3 := (Kz.refl _ _)
            refine ⟨rfl, (decide (p0.Head.Check = k0)), ?_, hm, K_40⟩
            repeat' first | exact trivial | refine ⟨rfl, ?_⟩
          ·
            replace hm := ite_f (of_decide_eq_false c16) hm
            refine sd_skip rfl rfl rfl ?_
            refine sd_skip rfl rfl rfl ?_
            refine sd_skip rfl rfl rfl ?_
            refine sd_skip rfl rfl rfl ?_
            refine sd_vv rfl rfl rfl (vv_pickF rfl rfl) ?_
            refine sd_vv rfl rfl rfl (vv_assign rfl) ?_
            refine sd_nil ?_
            have K_41 : Kz [] w3 w3 := (Kz.refl _ _)
            refine ⟨rfl, false, ?_, hm, K_41⟩
            repeat' first | exact trivial | refine ⟨rfl, ?_⟩
        ·
          replace hm := ite_f (of_decide_eq_false c15) hm
          refine sd_skip rfl rfl rfl ?_
          refine sd_skip rfl rfl rfl ?_
          refine sd_skip rfl rfl rfl ?_
          refine sd_skip rfl rfl rfl ?_
          refine sd_vv rfl rfl rfl (vv_pickF rfl rfl) ?_
          refine sd_vv rfl rfl rfl (vv_move rfl) ?_
          refine sd_skip rfl rfl rfl ?_
          refine sd_skip rfl rfl rfl ?_
          refine sd_skip rfl rfl rfl ?_
          refine sd_skip rfl rfl rfl ?_
          refine sd_vv rfl rfl rfl (vv_pickF rfl rfl) ?_
          refine sd_vv rfl rfl rfl (vv_assign rfl) ?_
          refine sd_nil ?_
          have K_42 : Kz [] w3 w3 := (Kz.refl _ _)
          refine ⟨rfl, false, ?_, hm, K_42⟩
          repeat' first | exact trivial | refine ⟨rfl, ?_⟩
      ·
        replace hm := ite_f (of_decide_eq_false c14) hm
        refine sd_skip rfl rfl rfl ?_
        refine sd_skip rfl rfl rfl ?_
        refine sd_skip rfl rfl rfl ?_
        refine sd_vv rfl rfl rfl (vv_pickF rfl rfl) ?_
        refine sd_vv rfl rfl rfl (vv_move rfl) ?_
        refine sd_skip rfl rfl rfl ?_
        refine sd_skip rfl rfl rfl ?_
        refine sd_skip rfl rfl rfl ?_
        refine sd_skip rfl rfl rfl ?_
        refine sd_vv rfl rfl rfl (vv_pickF rfl rfl) ?_
        refine sd_vv rfl rfl rfl (vv_move rfl) ?_
        refine sd_skip rfl rfl rfl ?_
        refine sd_skip rfl rfl rfl ?_
        refine sd_skip rfl rfl rfl ?_
        refine sd_skip rfl rfl rfl ?_
        refine sd_vv rfl rfl rfl (vv_pickF rfl rfl) ?_
        refine sd_vv rfl rfl rfl (vv_assign rfl) ?_
        refine sd_nil ?_
        have K_43 : Kz [] w3 w3 := (Kz.refl _ _)
        refine ⟨rfl, false, ?_, hm, K_43⟩
        repeat' first | exact trivial | refine ⟨rfl, ?_⟩
    ·
      replace hm := ite_f (of_decide_eq_false c13) hm
      refine sd_skip rfl rfl rfl ?_
      refine sd_skip rfl rfl rfl ?_
      refine sd_skip rfl rfl rfl ?_
      refine sd_skip rfl rfl rfl ?_
      refine sd_vv rfl rfl rfl (vv_pickF rfl rfl) ?_
      refine sd_vv rfl rfl rfl (vv_move rfl) ?_
      refine sd_skip rfl rfl rfl ?_
      refine sd_skip rfl rfl rfl ?_
      refine sd_skip rfl rfl rfl ?_
      refine sd_vv rfl rfl rfl (vv_pickF rfl rfl) ?_
      refine sd_vv rfl rfl rfl (vv_move rfl) ?_
      refine sd_skip rfl rfl rfl ?_
      refine sd_skip rfl rfl rfl ?_
      refine sd_skip rfl rfl rfl ?_
      refine sd_skip rfl rfl rfl ?_
      refine sd_vv rfl rfl rfl (vv_pickF rfl rfl) ?_
      refine sd_vv rfl rfl rfl (vv_move rfl) ?_
      refine sd_skip rfl rfl rfl ?_
      refine sd_skip rfl rfl rfl ?_
      refine sd_skip rfl rfl rfl ?_
      refine sd_skip rfl rfl rfl ?_
      refine sd_vv rfl rfl rfl (vv_pickF rfl rfl) ?_
      refine sd_vv rfl rfl rfl (vv_assign rfl) ?_
      refine sd_nil ?_
      have K_44 : Kz [] w3 w3 := (Kz.refl _ _)
      refine ⟨rfl, false, ?_, hm, K_44⟩
      repeat' first | exact trivial | refine ⟨rfl, ?_⟩

set_option maxHeartbeats 2000000 in
theorem epoch_writer_put_w (p0 : Tepoch_writer) (p1 : BitVec 64) (p2 : Int) (bp0 : Nat) (vp0_0 : Value) (zp0_0 gp0_0 : Nat) (r : Tepoch_writer) (hm : epoch_writer_put p0 p1 p2 = some r) (w : World) (hbp0 : Bx w bp0 76 (Tepoch_writer.cs p0 vp0_0)) (hp0_0 : Own w zp0_0 gp0_0 5 1 vp0_0 (p0.out.map bvc)) (ne0 : Hdn (zp0_0 = 0 ∨ gp0_0 ≠ bp0)) :
    Calls Try.prog 29 [.pointer (some ⟨bp0, 0, none⟩), wv p1, .int .i64 p2].toArray w fun e w' => ∃ v, e = .returned v ∧ (∃ (ub0_0 : Value) (zb0_0 : Nat) (gb0_0 : Nat), v = .tuple #[] ∧ Own w' zb0_0 gb0_0 5 1 ub0_0 (r.out.map bvc) ∧ Hdn (zb0_0 = 0 ∨ (gb0_0 = gp0_0 ∧ zp0_0 ≠ 0) ∨ w.heap.size ≤ gb0_0) ∧ Bx w' bp0 76 (Tepoch_writer.cs r ub0_0) ∧ Kz [(zp0_0, gp0_0), (1, bp0)] w w') := by
  have lt1 := hp0_0.lth
  have lt2 := hbp0.lt
  unfold epoch_writer_put at hm
  refine calls_of_sw (R := fun v w' => ∃ (ub0_0 : Value) (zb0_0 : Nat) (gb0_0 : Nat), v = .tuple #[] ∧ Own w' zb0_0 gb0_0 5 1 ub0_0 (r.out.map bvc) ∧ Hdn (zb0_0 = 0 ∨ (gb0_0 = gp0_0 ∧ zp0_0 ≠ 0) ∨ w.heap.size ≤ gb0_0) ∧ Bx w' bp0 76 (Tepoch_writer.cs r ub0_0) ∧ Kz [(zp0_0, gp0_0), (1, bp0)] w w') 26 Try.func29 rfl rfl rfl ?_
  refine sw_seq ?_
  -- region 0 bytes.go:34
  refine sw_region [(0, 0), (1, 0), (2, 0)] rfl rfl rfl ?_
  refine sd_vv rfl rfl rfl (vv_move rfl) ?_
  refine sd_vv rfl rfl rfl (vv_sub (k := .i64) (a := p2) (b := 1) rfl rfl) ?_
  refine sd_vv rfl rfl rfl (vv_assign rfl) ?_
  refine sd_done ?_
  refine sw_block ?_
  refine sw_loopD (α := Nat × Int × List (BitVec 8) × Value × Nat × Nat) [2, 8, 9, 10, 11, 12, 13, 14, 15, 16, 17, 18, 19, 20, 21, 22, 23, 24, 25] (fun ⟨n1, a4, a5, vy6, zy6, gy6⟩ => [(2, .int .i64 a4)]) (fun ⟨n1, a4, a5, vy6, zy6, gy6⟩ wr => (fixN (epoch_writer_put_L1 p1) n1 (a4, a5) = some r) ∧ Own wr zy6 gy6 5 1 vy6 (a5.map bvc) ∧ Hdn (zy6 = 0 ∨ (gy6 = gp0_0 ∧ zp0_0 ≠ 0) ∨ w.heap.size ≤ gy6) ∧ Bx wr bp0 76 (Tepoch_writer.cs (Tepoch_writer.mk a5) vy6) ∧ Kz [(1, bp0), (zp0_0, gp0_0)] w wr) (fun ⟨n1, a4, a5, vy6, zy6, gy6⟩ => n1) ⟨FUEL, w64 (p2 - 1), p0.out, vp0_0, zp0_0, gp0_0⟩ ?_ ?_ ?_
  · repeat' first | exact trivial | refine ⟨rfl, ?_⟩
  · exact ⟨hm, hp0_0, ⟨tk0⟩, hbp0, Kz.refl _ _⟩
  · clear hm; rintro ⟨n1, a4, a5, vy6, zy6, gy6⟩ w1 ⟨hm, Fw1_0, Fw1_1, Fw1_2, Kw1⟩
    have z3 := Kw1.size
    have lt4 := Fw1_0.lth
    have lt5 := Fw1_2.lt
    have hb := fix_succ hm; clear hm; obtain ⟨n1, rfl, hm⟩ := hb
    generalize hrec1 : fixN (epoch_writer_put_L1 p1) n1 = rec1 at hm
    unfold epoch_writer_put_L1 at hm
    try dsimp only at hm
    refine sw_seq ?_
    refine sw_seq ?_
    -- region 1 bytes.go:34
    refine sw_region [(0, 0), (1, 0)] rfl rfl rfl ?_
    refine sd_vv rfl rfl rfl (vv_move rfl) ?_
    refine sd_vv rfl rfl rfl (vv_geq (a := a4) (b := 0) rfl rfl) ?_
    refine sd_done ?_
    refine sw_cond rfl (fun c1 => ?_) (fun c1 => ?_)
    ·
      replace hm := ite_t (of_decide_eq_true c1) hm
      refine sw_skip ?_
      refine then_n ?_
      refine sw_seq ?_
      refine sw_block ?_
      -- region 3 bytes.go:35 DRAWS
      refine sw_drawN [([bp0] ++ zf zy6 gy6), ([] ++ zf zy6 gy6)] [(14, [1])] (.leaf [(0, 10), (1, 10), (2, 10), (3, 10), (4, 11), (5, 10), (6, 10), (7, 10), (8, 10), (9, 10), (10, 0), (11, 0), (12, 10), (13, 10), (14, 0)]) (by kernel_rfl) (by kernel_rfl) rfl (by kernel_rfl) ?_
      intro w2 Gw2 zw2
      refine sdz_leaf ?_
      refine dd_hn 0 rfl rfl rfl rfl (Kp.refl ([bp0] ++ zf zy6 gy6) w2) (fun w hS => vv_move rfl) ?_
      refine dd_hn 0 rfl rfl rfl rfl (Kp.refl ([bp0] ++ zf zy6 gy6) w2) (fun w hS => vv_move rfl) ?_
      refine dd_hn 0 rfl rfl rfl rfl (Kp.refl ([bp0] ++ zf zy6 gy6) w2) (fun w hS => vv_nilCheck rfl rfl) ?_
      refine dd_hn 0 rfl rfl rfl rfl (Kp.refl ([bp0] ++ zf zy6 gy6) w2) (fun w hS => vv_fieldAddr fa_76_0 rfl) ?_
      have B6 := (Bx.gr Fw1_2 Gw2)
      refine dd_hn 1 rfl rfl rfl rfl (Kp.refl ([] ++ zf zy6 gy6) w2) (fun w hS => vv_load1 (v := vy6) one_29 rfl (Bx.kp B6 hS (tk1 ((pv_1 (A := (fun x => x ≠ bp0)) Fw1_1 (tk2 lt1.o ne0.o)) : zy6 = 0 ∨ gy6 ≠ bp0))) rfl) ?_
      refine dd_hn 0 rfl rfl rfl rfl (Kp.refl ([bp0] ++ zf zy6 gy6) w2) (fun w hS => vv_move rfl) ?_
      refine dd_hn 0 rfl rfl rfl rfl (Kp.refl ([bp0] ++ zf zy6 gy6) w2) (fun w hS => vv_move rfl) ?_
      refine dd_hn 0 rfl rfl rfl rfl (Kp.refl ([bp0] ++ zf zy6 gy6) w2) (fun w hS => vv_mul (k := .i64) (a := 8) (b := a4) rfl rfl) ?_
      have hb := bnd hm; clear hm; obtain ⟨n7, hn7, hm⟩ := hb
      refine dd_hn 0 rfl rfl rfl rfl (Kp.refl ([bp0] ++ zf zy6 gy6) w2) (fun w hS => vv_shrU (c := p1) (b := (w64 (8 * a4))) rfl rfl hn7) ?_
      refine dd_hn 0 rfl rfl rfl rfl (Kp.refl ([bp0] ++ zf zy6 gy6) w2) (fun w hS => vv_cvUB cv_23_5 rfl) ?_
      refine dd_z [] rfl rfl rfl (ev_litT [(p1 >>> n7).setWidth 8] bvc bsl_29_1 rfl rfl (ws_of rfl) rfl rfl rfl) ⟨fun _ => tk0, fun _ => tk0, trivial⟩ ?_
      rintro vw3 w3 ⟨gw3, hbw3, Ow3, Gw3⟩
      have z7 := Gw3.size
      have lt8 := Ow3.lth
      refine ⟨Kz.ofGr Gw3, ?_⟩
      have B9 := (Own.gr (Own.gr Fw1_0 Gw2) Gw3)
      have hb := bnd hm; clear hm; obtain ⟨l8, hl8, hm⟩ := hb
      refine dd_z [(zy6, gy6)] rfl rfl rfl (ev_appT (l := a5) (m := [(p1 >>> n7).setWidth 8]) (c := bvc) apt_29 rfl rfl B9 (Own.rd Ow3) hl8 (by decide)) ⟨fun _ => (tk1 (tk0 : zy6 = 0 ∨ (gy6 = gy6 ∧ zy6 ≠ 0) ∨ w2.heap.size ≤ gy6)), fun _ => (tk1 (tk0 : zy6 = 0 ∨ (gy6 = gy6 ∧ zy6 ≠ 0) ∨ w2.heap.size ≤ gy6)), trivial⟩ ?_
      rintro vw4 w4 ⟨zw4, gw4, Ow4, Aw4, qw4, rw4⟩
      have z10 := Aw4.size
      refine ⟨Kz.ofKa Aw4, ?_⟩
      have S11 := (Kp.ka (Kp.gr (Kp.refl ([bp0] ++ zf zy6 gy6) w2) Gw3) Aw4 (tk1 (tk0 : zy6 = 0 ∨ (gy6 = gy6 ∧ zy6 ≠ 0) ∨ w2.heap.size ≤ gy6)))
      refine dd_hn 0 rfl rfl rfl rfl S11 (fun w hS => vv_nilCheck rfl rfl) ?_
      refine dd_hn 0 rfl rfl rfl rfl S11 (fun w hS => vv_fieldAddr fa_76_0 rfl) ?_
      have B12 := (Bx.ka (Bx.gr B6 Gw3) Aw4 (tk1 ((pv_1 (A := (fun x => x ≠ bp0)) Fw1_1 (tk2 lt1.o ne0.o)) : zy6 = 0 ∨ gy6 ≠ bp0)))
      refine dd_z [(1, bp0)] rfl rfl rfl (ev_st1 (cs' := Tepoch_writer.cs (Tepoch_writer.mk l8) vw4) (one_29).siz rfl rfl (Own.oneB Ow4) B12 rfl rfl) ⟨fun _ => tk0, nofun, trivial⟩ ?_
      rintro _ w5 ⟨Bw5, Mw5⟩
      have z13 := Mw5.size
      refine ⟨Kz.ofMd Mw5, ?_⟩
      refine sd_nil ?_
      refine block_n ?_
      refine then_n ?_
      -- region 2 bytes.go:34
      refine sw_region [(0, 0), (1, 0), (2, 0)] rfl rfl rfl ?_
      refine sd_vv rfl rfl rfl (vv_move rfl) ?_
      refine sd_vv rfl rfl rfl (vv_sub (k := .i64) (a := a4) (b := 1) rfl rfl) ?_
      refine sd_vv rfl rfl rfl (vv_assign rfl) ?_
      refine sd_nil ?_
      have K_14 : Kz [(1, bp0), (zp0_0, gp0_0)] w w5 := (Kz.md (Kz.ka (Kz.gr (Kz.gr Kw1 Gw2) Gw3) Aw4 (tk1 ((pv_1 (A := (fun x => (x = gp0_0 ∧ zp0_0 ≠ 0) ∨ w.heap.size ≤ x)) Fw1_1 tk0) : zy6 = 0 ∨ (gy6 = gp0_0 ∧ zp0_0 ≠ 0) ∨ w.heap.size ≤ gy6))) Mw5)
      have B15 := (Own.md Ow4 Mw5 (tk1 ((pv_app (A := (fun x => x ≠ bp0)) rw4 (pv_1 (A := (fun x => x ≠ bp0)) Fw1_1 (tk2 lt1.o ne0.o))) : zw4 = 0 ∨ gw4 ≠ bp0)))
      subst hrec1
      refine ⟨rfl, ⟨n1, w64 (a4 - 1), l8, vw4, zw4, gw4⟩, ?_, ⟨hm, B15, ⟨(pv_app (A := (fun x => (x = gp0_0 ∧ zp0_0 ≠ 0) ∨ w.heap.size ≤ x)) rw4 (pv_1 (A := (fun x => (x = gp0_0 ∧ zp0_0 ≠ 0) ∨ w.heap.size ≤ x)) Fw1_1 tk0))⟩, Bw5, K_14⟩, Nat.lt_succ_self _⟩
      repeat' first | exact trivial | refine ⟨rfl, ?_⟩
    ·
      replace hm := ite_f (of_decide_eq_false c1) hm
      refine sw_exit ?_
      refine then_x ?_
      refine then_x ?_
      refine block_x ?_
      have X16 : Kz [(zp0_0, gp0_0), (1, bp0)] w w1 := (Kz.kz (Kz.refl _ w) Kw1 (tk1 (tk0 : zp0_0 = 0 ∨ (gp0_0 = gp0_0 ∧ zp0_0 ≠ 0) ∨ w.heap.size ≤ gp0_0)))
      have hr := Option.some.inj hm
      subst hr
      refine ⟨_, _, rfl, res_none rfl, ?_⟩
      exact ⟨vy6, zy6, gy6, rfl, Fw1_0, ⟨(pv_1 (A := (fun x => (x = gp0_0 ∧ zp0_0 ≠ 0) ∨ w.heap.size ≤ x)) Fw1_1 tk0)⟩, Fw1_2, X16⟩

set_option maxHeartbeats 2000000 in
theorem epoch_writer_key_w (p0 : Tepoch_writer) (p1 : W2) (bp0 : Nat) (vp0_0 : Value) (zp0_0 gp0_0 : Nat) (r : Tepoch_writer) (hm : epoch_writer_key p0 p1 = some r) (w : World) (hbp0 : Bx w bp0 76 (Tepoch_writer.cs p0 vp0_0)) (hp0_0 : Own w zp0_0 gp0_0 5 1 vp0_0 (p0.out.map bvc)) (ne0 : Hdn (zp0_0 = 0 ∨ gp0_0 ≠ bp0)) :
    Calls Try.prog 30 [.pointer (some ⟨bp0, 0, none⟩), kv p1].toArray w fun e w' => ∃ v, e = .returned v ∧ (∃ (ub0_0 : Value) (zb0_0 : Nat) (gb0_0 : Nat), v = .tuple #[] ∧ Own w' zb0_0 gb0_0 5 1 ub0_0 (r.out.map bvc) ∧ Hdn (zb0_0 = 0 ∨ (gb0_0 = gp0_0 ∧ zp0_0 ≠ 0) ∨ w.heap.size ≤ gb0_0) ∧ Bx w' bp0 76 (Tepoch_writer.cs r ub0_0) ∧ Kz [(zp0_0, gp0_0), (1, bp0)] w w') := by
  have lt1 := hp0_0.lth
  have lt2 := hbp0.lt
  unfold epoch_writer_key at hm
  refine calls_of_sw (R := fun v w' => ∃ (ub0_0 : Value) (zb0_0 : Nat) (gb0_0 : Nat), v = .tuple #[] ∧ Own w' zb0_0 gb0_0 5 1 ub0_0 (r.out.map bvc) ∧ Hdn (zb0_0 = 0 ∨ (gb0_0 = gp0_0 ∧ zp0_0 ≠ 0) ∨ w.heap.size ≤ gb0_0) ∧ Bx w' bp0 76 (Tepoch_writer.cs r ub0_0) ∧ Kz [(zp0_0, gp0_0), (1, bp0)] w w') 13 Try.func30 rfl rfl rfl ?_
  refine sw_seq ?_
  -- region 0 bytes.go:40
  refine sw_region [(0, 0)] rfl rfl rfl ?_
  refine sd_ev rfl rfl rfl (ev_box (cs := kb p1) rfl rfl) ?_
  rintro _ w1 ⟨b1, rfl, hbw1, Bw1, Gw1⟩
  have z3 := Gw1.size
  have lt4 := Bw1.lt
  refine sd_done ?_
  -- region 1 bytes.go:40 DRAWS
  refine sw_drawN [([bp0] ++ zf zp0_0 gp0_0), ([] ++ zf zp0_0 gp0_0)] [(9, [1])] (.leaf [(0, 10), (1, 10), (2, 10), (3, 10), (4, 11), (5, 10), (6, 0), (7, 10), (8, 10), (9, 0)]) (by kernel_rfl) (by kernel_rfl) rfl (by kernel_rfl) ?_
  intro w2 Gw2 zw2
  refine sdz_leaf ?_
  refine dd_hn 0 rfl rfl rfl rfl (Kp.refl ([bp0] ++ zf zp0_0 gp0_0) w2) (fun w hS => vv_move rfl) ?_
  refine dd_hn 0 rfl rfl rfl rfl (Kp.refl ([bp0] ++ zf zp0_0 gp0_0) w2) (fun w hS => vv_move rfl) ?_
  refine dd_hn 0 rfl rfl rfl rfl (Kp.refl ([bp0] ++ zf zp0_0 gp0_0) w2) (fun w hS => vv_nilCheck rfl rfl) ?_
  refine dd_hn 0 rfl rfl rfl rfl (Kp.refl ([bp0] ++ zf zp0_0 gp0_0) w2) (fun w hS => vv_fieldAddr fa_76_0 rfl) ?_
  have B5 := (Bx.gr (Bx.gr hbp0 Gw1) Gw2)
  refine dd_hn 1 rfl rfl rfl rfl (Kp.refl ([] ++ zf zp0_0 gp0_0) w2) (fun w hS => vv_load1 (v := vp0_0) one_29 rfl (Bx.kp B5 hS (tk1 ((tk2 lt1.o ne0.o) : zp0_0 = 0 ∨ gp0_0 ≠ bp0))) rfl) ?_
  have B6 := (Bx.gr Bw1 Gw2)
  have Rk7 := rd_key (o := 0) (p := p1) B6 rfl
  have lt8 := Rk7.lth
  refine dd_hn 0 rfl rfl rfl rfl (Kp.refl ([bp0] ++ zf zp0_0 gp0_0) w2) (fun w hS => vv_sliceA (n := 16) (l := 0) (h := 16) Try.underlying26 (one_5).siz rfl rfl rfl (by decide) (by decide) (by decide)) ?_
  have B9 := (Own.gr (Own.gr hp0_0 Gw1) Gw2)
  have hb := bnd hm; clear hm; obtain ⟨l1, hl1, hm⟩ := hb
  refine dd_z [(zp0_0, gp0_0)] rfl rfl rfl (ev_appT (l := p0.out) (m := kby p1) (c := bvc) apt_29 rfl rfl B9 Rk7 hl1 (by decide)) ⟨fun _ => (tk1 (tk0 : zp0_0 = 0 ∨ (gp0_0 = gp0_0 ∧ zp0_0 ≠ 0) ∨ w2.heap.size ≤ gp0_0)), fun _ => (tk1 (tk0 : zp0_0 = 0 ∨ (gp0_0 = gp0_0 ∧ zp0_0 ≠ 0) ∨ w2.heap.size ≤ gp0_0)), trivial⟩ ?_
  rintro vw3 w3 ⟨zw3, gw3, Ow3, Aw3, qw3, rw3⟩
  have z10 := Aw3.size
  refine ⟨Kz.ofKa Aw3, ?_⟩
  have S11 := (Kp.ka (Kp.refl ([bp0] ++ zf zp0_0 gp0_0) w2) Aw3 (tk1 (tk0 : zp0_0 = 0 ∨ (gp0_0 = gp0_0 ∧ zp0_0 ≠ 0) ∨ w2.heap.size ≤ gp0_0)))
  refine dd_hn 0 rfl rfl rfl rfl S11 (fun w hS => vv_nilCheck rfl rfl) ?_
  refine dd_hn 0 rfl rfl rfl rfl S11 (fun w hS => vv_fieldAddr fa_76_0 rfl) ?_
  have B12 := (Bx.ka B5 Aw3 (tk1 ((tk2 lt1.o ne0.o) : zp0_0 = 0 ∨ gp0_0 ≠ bp0)))
  refine dd_z [(1, bp0)] rfl rfl rfl (ev_st1 (cs' := Tepoch_writer.cs (Tepoch_writer.mk l1) vw3) (one_29).siz rfl rfl (Own.oneB Ow3) B12 rfl rfl) ⟨fun _ => tk0, nofun, trivial⟩ ?_
  rintro _ w4 ⟨Bw4, Mw4⟩
  have z13 := Mw4.size
  refine ⟨Kz.ofMd Mw4, ?_⟩
  refine sd_nil ?_
  have B14 := (Own.md Ow3 Mw4 (tk1 ((pv_app (A := (fun x => x ≠ bp0)) rw3 (tk2 lt1.o ne0.o)) : zw3 = 0 ∨ gw3 ≠ bp0)))
  have X15 : Kz [(zp0_0, gp0_0), (1, bp0)] w w4 := (Kz.md (Kz.ka (Kz.gr (Kz.gr (Kz.refl _ w) Gw1) Gw2) Aw3 (tk1 (tk0 : zp0_0 = 0 ∨ (gp0_0 = gp0_0 ∧ zp0_0 ≠ 0) ∨ w.heap.size ≤ gp0_0))) Mw4)
  have hr := Option.some.inj hm
  subst hr
  refine ⟨_, _, rfl, res_none rfl, ?_⟩
  exact ⟨vw3, zw3, gw3, rfl, B14, ⟨(pv_app (A := (fun x => (x = gp0_0 ∧ zp0_0 ≠ 0) ∨ w.heap.size ≤ x)) rw3 tk0)⟩, Bw4, X15⟩

set_option maxHeartbeats 2000000 in
theorem epoch_body_w (p0 : TPacket) (vp0_2 : Value) (zp0_2 gp0_2 op0_2 : Nat) (vp0_4 : Value) (zp0_4 gp0_4 op0_4 : Nat) (vp0_39 : Value) (zp0_39 gp0_39 op0_39 : Nat) (r : List (BitVec 8)) (hm : epoch_body p0 = some r) (w : World) (hp0_2 : Rd w zp0_2 gp0_2 op0_2 18 vp0_2 (p0.Head.Items.map TItem.cs)) (hp0_4 : Rd w zp0_4 gp0_4 op0_4 2 vp0_4 (p0.Head.Points.map TPoint.cs)) (hp0_39 : Rd w zp0_39 gp0_39 op0_39 1 vp0_39 (p0.Data.map bvc))  :
    Calls Try.prog 12 [.agg (TPacket.cs p0 vp0_2 vp0_4 vp0_39).toArray].toArray w fun e w' => ∃ v, e = .returned v ∧ (∃ (ur0_s : Value) (zr0_s : Nat) (gr0_s : Nat), v = ur0_s ∧ Own w' zr0_s gr0_s 5 1 ur0_s (r.map bvc) ∧ Hdn (zr0_s = 0 ∨ w.heap.size ≤ gr0_s) ∧ Gr w w') := by
  have lt1 := hp0_2.lth
  have lt2 := hp0_4.lth
  have lt3 := hp0_39.lth
  unfold epoch_body at hm
  refine calls_of_sw (R := fun v w' => ∃ (ur0_s : Value) (zr0_s : Nat) (gr0_s : Nat), v = ur0_s ∧ Own w' zr0_s gr0_s 5 1 ur0_s (r.map bvc) ∧ Hdn (zr0_s = 0 ∨ w.heap.size ≤ gr0_s) ∧ Gr w w') 120 Try.func12 rfl rfl rfl ?_
  refine sw_seq ?_
  -- region 0 bytes.go:43
  refine sw_region [(0, 0), (1, 0)] rfl rfl rfl ?_
  refine sd_ev rfl rfl rfl (ev_box (cs := TPacket.cs p0 vp0_2 vp0_4 vp0_39) rfl rfl) ?_
  rintro _ w1 ⟨b1, rfl, hbw1, Bw1, Gw1⟩
  have z4 := Gw1.size
  have lt5 := Bw1.lt
  refine sd_vv rfl rfl rfl (vv_assign rfl) ?_
  refine sd_done ?_
  refine sw_seq ?_
  -- region 1 bytes.go:44
  refine sw_region [(0, 0), (1, 0), (2, 0)] rfl rfl rfl ?_
  refine sd_vv rfl rfl rfl (vv_build (cs := Tepoch_writer.cs (Tepoch_writer.mk []) (.slice none 0 0)) bs_76 rfl rfl) ?_
  refine sd_ev rfl rfl rfl (ev_box (cs := Tepoch_writer.cs (Tepoch_writer.mk []) (.slice none 0 0)) rfl rfl) ?_
  rintro _ w2 ⟨b2, rfl, hbw2, Bw2, Gw2⟩
  have z6 := Gw2.size
  have lt7 := Bw2.lt
  refine sd_vv rfl rfl rfl (vv_assign rfl) ?_
  refine sd_done ?_
  refine sw_seq ?_
  -- region 2 bytes.go:45
  refine sw_region [(0, 0), (1, 0), (2, 0), (3, 0), (4, 0)] rfl rfl rfl ?_
  refine sd_vv rfl rfl rfl (vv_move rfl) ?_
  refine sd_vv rfl rfl rfl (vv_fieldAddr fa_31_0 rfl) ?_
  have B8 := (Bx.gr Bw1 Gw2)
  refine sd_vv rfl rfl rfl (vv_load1 (v := bv p0.Kind) one_5 rfl B8 rfl) ?_
  refine sd_vv rfl rfl rfl (vv_cvBU cv_5_23 rfl) ?_
  have hb := bnd hm; clear hm; obtain ⟨x1, hx1, hm⟩ := hb
  refine sd_ev rfl rfl rfl (ev_call en_29 rfl (epoch_writer_put_w (Tepoch_writer.mk []) (p0.Kind.setWidth 64) 1 _ (.slice none 0 0) 0 0 _ hx1 _ Bw2 (own_nil _ 0 5 1) ⟨tk0⟩)) ?_
  rintro _ w3 ⟨u3_b0_0, z3_b0_0, g3_b0_0, rfl, O3_b0_0, f3_b0_0, Bk3_0, Kw3⟩
  have z9 := Kw3.size
  have lt10 := O3_b0_0.lth
  refine sd_done ?_
  refine sw_seq ?_
  refine sw_seq ?_
  -- region 3 bytes.go:46
  refine sw_region [(0, 0), (1, 0), (2, 0)] rfl rfl rfl ?_
  refine sd_vv rfl rfl rfl (vv_fieldAddr fa_31_0 rfl) ?_
  have B11 := (Bx.kz B8 Kw3)
  refine sd_vv rfl rfl rfl (vv_load1 (v := bv p0.Kind) one_5 rfl B11 rfl) ?_
  refine sd_vv rfl rfl rfl (vv_eqlB (p := p0.Kind) (q := 2#8) rfl rfl) ?_
  refine sd_done ?_
  refine sw_cond rfl (fun c1 => ?_) (fun c1 => ?_)
  ·
    replace hm := ite_t (of_decide_eq_true c1) hm
    refine sw_seq ?_
    -- region 4 bytes.go:47
    refine sw_region [(0, 0), (1, 0), (2, 0), (3, 0), (4, 0)] rfl rfl rfl ?_
    refine sd_vv rfl rfl rfl (vv_move rfl) ?_
    refine sd_vv rfl rfl rfl (vv_fieldAddr fa_31_3 rfl) ?_
    refine sd_vv rfl rfl rfl (vv_load1 (v := bv p0.Low) one_5 rfl B11 rfl) ?_
    refine sd_vv rfl rfl rfl (vv_cvBU cv_5_23 rfl) ?_
    have hb := bnd hm; clear hm; obtain ⟨x2, hx2, hm⟩ := hb
    refine sd_ev rfl rfl rfl (ev_call en_29 rfl (epoch_writer_put_w x1 (p0.Low.setWidth 64) 1 _ u3_b0_0 z3_b0_0 g3_b0_0 _ hx2 _ Bk3_0 O3_b0_0 ⟨(tk1 ((pv_1 (A := (fun x => x ≠ b2)) f3_b0_0 (.inl rfl)) : z3_b0_0 = 0 ∨ g3_b0_0 ≠ b2))⟩)) ?_
    rintro _ w4 ⟨u4_b0_0, z4_b0_0, g4_b0_0, rfl, O4_b0_0, f4_b0_0, Bk4_0, Kw4⟩
    have z12 := Kw4.size
    have lt13 := O4_b0_0.lth
    refine sd_done ?_
    refine sw_seq ?_
    -- region 5 bytes.go:48
    refine sw_region [(0, 0), (1, 0), (2, 0), (3, 0)] rfl rfl rfl ?_
    refine sd_vv rfl rfl rfl (vv_move rfl) ?_
    refine sd_vv rfl rfl rfl (vv_fieldAddr fa_31_4 rfl) ?_
    have B14 := (Bx.kz B11 Kw4 (tk1 ((pv_1 (A := (fun x => x ≠ b1)) f3_b0_0 (.inl rfl)) : z3_b0_0 = 0 ∨ g3_b0_0 ≠ b1)))
    refine sd_vv rfl rfl rfl (vv_load1 (v := wv p0.Number) one_23 rfl B14 rfl) ?_
    have hb := bnd hm; clear hm; obtain ⟨x3, hx3, hm⟩ := hb
    refine sd_ev rfl rfl rfl (ev_call en_29 rfl (epoch_writer_put_w x2 p0.Number 8 _ u4_b0_0 z4_b0_0 g4_b0_0 _ hx3 _ Bk4_0 O4_b0_0 ⟨(tk1 ((pv_1 (A := (fun x => x ≠ b2)) f4_b0_0 (pv_1 (A := (fun x => x ≠ b2)) f3_b0_0 (.inl rfl))) : z4_b0_0 = 0 ∨ g4_b0_0 ≠ b2))⟩)) ?_
    rintro _ w5 ⟨u5_b0_0, z5_b0_0, g5_b0_0, rfl, O5_b0_0, f5_b0_0, Bk5_0, Kw5⟩
    have z15 := Kw5.size
    have lt16 := O5_b0_0.lth
    refine sd_done ?_
    refine sw_seq ?_
    -- region 6 bytes.go:49
    refine sw_region [(0, 0), (1, 0), (2, 0), (3, 0), (4, 0), (5, 0)] rfl rfl rfl ?_
    refine sd_vv rfl rfl rfl (vv_move rfl) ?_
    refine sd_vv rfl rfl rfl (vv_fieldAddr fa_31_5 rfl) ?_
    have B17 := (Bx.kz B14 Kw5 (tk1 ((pv_1 (A := (fun x => x ≠ b1)) f4_b0_0 (pv_1 (A := (fun x => x ≠ b1)) f3_b0_0 (.inl rfl))) : z4_b0_0 = 0 ∨ g4_b0_0 ≠ b1)))
    refine sd_vv rfl rfl rfl (vv_load1 (v := vp0_39) one_29 rfl B17 rfl) ?_
    have B18 := (Rd.kz (Rd.kz (Rd.kz (Rd.gr (Rd.gr hp0_39 Gw1) Gw2) Kw3 (tk1 ((pv_lt (A := (fun x => x ≠ b2)) lt3) : zp0_39 = 0 ∨ gp0_39 ≠ b2))) Kw4 (tk2 ((pv_sw (pv_1 (A := (fun x => zp0_39 = 0 ∨ x ≠ gp0_39)) f3_b0_0 (.inl rfl) (fun x hx => (tk1 lt3.o)))) : zp0_39 = 0 ∨ z3_b0_0 = 0 ∨ gp0_39 ≠ g3_b0_0) ((pv_lt (A := (fun x => x ≠ b2)) lt3) : zp0_39 = 0 ∨ gp0_39 ≠ b2))) Kw5 (tk2 ((pv_sw (pv_1 (A := (fun x => zp0_39 = 0 ∨ x ≠ gp0_39)) f4_b0_0 (pv_1 (A := (fun x => zp0_39 = 0 ∨ x ≠ gp0_39)) f3_b0_0 (.inl rfl) (fun x hx => (tk1 lt3.o))) (fun x hx => (tk1 lt3.o)))) : zp0_39 = 0 ∨ z4_b0_0 = 0 ∨ gp0_39 ≠ g4_b0_0) ((pv_lt (A := (fun x => x ≠ b2)) lt3) : zp0_39 = 0 ∨ gp0_39 ≠ b2)))
    refine sd_vv rfl rfl rfl (vv_lenT (l := p0.Data) (c := bvc) Try.underlying29 rfl B18) ?_
    refine sd_vv rfl rfl rfl (vv_cvIU cv_3_23 rfl) ?_
    have hb := bnd hm; clear hm; obtain ⟨x4, hx4, hm⟩ := hb
    refine sd_ev rfl rfl rfl (ev_call en_29 rfl (epoch_writer_put_w x3 (wd (p0.Data.length : Int)) 2 _ u5_b0_0 z5_b0_0 g5_b0_0 _ hx4 _ Bk5_0 O5_b0_0 ⟨(tk1 ((pv_1 (A := (fun x => x ≠ b2)) f5_b0_0 (pv_1 (A := (fun x => x ≠ b2)) f4_b0_0 (pv_1 (A := (fun x => x ≠ b2)) f3_b0_0 (.inl rfl)))) : z5_b0_0 = 0 ∨ g5_b0_0 ≠ b2))⟩)) ?_
    rintro _ w6 ⟨u6_b0_0, z6_b0_0, g6_b0_0, rfl, O6_b0_0, f6_b0_0, Bk6_0, Kw6⟩
    have z19 := Kw6.size
    have lt20 := O6_b0_0.lth
    refine sd_done ?_
    refine sw_seq ?_
    -- region 7 bytes.go:50 DRAWS
    refine sw_drawN [([] ++ zf z6_b0_0 g6_b0_0)] [] (.leaf [(0, 10), (1, 10), (2, 10), (3, 10), (4, 10), (5, 10), (6, 0), (7, 10)]) (by kernel_rfl) (by kernel_rfl) rfl (by kernel_rfl) ?_
    intro w7 Gw7 zw7
    refine sdz_leaf ?_
    refine dd_hn 0 rfl rfl rfl rfl (Kp.refl ([] ++ zf z6_b0_0 g6_b0_0) w7) (fun w hS => vv_move rfl) ?_
    refine dd_hn 0 rfl rfl rfl rfl (Kp.refl ([] ++ zf z6_b0_0 g6_b0_0) w7) (fun w hS => vv_nilCheck rfl rfl) ?_
    refine dd_hn 0 rfl rfl rfl rfl (Kp.refl ([] ++ zf z6_b0_0 g6_b0_0) w7) (fun w hS => vv_fieldAddr fa_76_0 rfl) ?_
    have B21 := (Bx.gr Bk6_0 Gw7)
    refine dd_hn 0 rfl rfl rfl rfl (Kp.refl ([] ++ zf z6_b0_0 g6_b0_0) w7) (fun w hS => vv_load1 (v := u6_b0_0) one_29 rfl (Bx.kp B21 hS (tk1 ((pv_1 (A := (fun x => x ≠ b2)) f6_b0_0 (pv_1 (A := (fun x => x ≠ b2)) f5_b0_0 (pv_1 (A := (fun x => x ≠ b2)) f4_b0_0 (pv_1 (A := (fun x => x ≠ b2)) f3_b0_0 (.inl rfl))))) : z6_b0_0 = 0 ∨ g6_b0_0 ≠ b2))) rfl) ?_
    refine dd_hn 0 rfl rfl rfl rfl (Kp.refl ([] ++ zf z6_b0_0 g6_b0_0) w7) (fun w hS => vv_fieldAddr fa_31_5 rfl) ?_
    have B22 := (Bx.gr (Bx.kz B17 Kw6 (tk1 ((pv_1 (A := (fun x => x ≠ b1)) f5_b0_0 (pv_1 (A := (fun x => x ≠ b1)) f4_b0_0 (pv_1 (A := (fun x => x ≠ b1)) f3_b0_0 (.inl rfl)))) : z5_b0_0 = 0 ∨ g5_b0_0 ≠ b1))) Gw7)
    refine dd_hn 0 rfl rfl rfl rfl (Kp.refl ([] ++ zf z6_b0_0 g6_b0_0) w7) (fun w hS => vv_load1 (v := vp0_39) one_29 rfl (Bx.kp B22 hS (tk1 ((pv_1 (A := (fun x => x ≠ b1)) f6_b0_0 (pv_1 (A := (fun x => x ≠ b1)) f5_b0_0 (pv_1 (A := (fun x => x ≠ b1)) f4_b0_0 (pv_1 (A := (fun x => x ≠ b1)) f3_b0_0 (.inl rfl))))) : z6_b0_0 = 0 ∨ g6_b0_0 ≠ b1))) rfl) ?_
    have B23 := (Own.gr O6_b0_0 Gw7)
    have B24 := (Rd.gr (Rd.kz B18 Kw6 (tk2 ((pv_sw (pv_1 (A := (fun x => zp0_39 = 0 ∨ x ≠ gp0_39)) f5_b0_0 (pv_1 (A := (fun x => zp0_39 = 0 ∨ x ≠ gp0_39)) f4_b0_0 (pv_1 (A := (fun x => zp0_39 = 0 ∨ x ≠ gp0_39)) f3_b0_0 (.inl rfl) (fun x hx => (tk1 lt3.o))) (fun x hx => (tk1 lt3.o))) (fun x hx => (tk1 lt3.o)))) : zp0_39 = 0 ∨ z5_b0_0 = 0 ∨ gp0_39 ≠ g5_b0_0) ((pv_lt (A := (fun x => x ≠ b2)) lt3) : zp0_39 = 0 ∨ gp0_39 ≠ b2))) Gw7)
    have hb := bnd hm; clear hm; obtain ⟨l5, hl5, hm⟩ := hb
    refine dd_z [(z6_b0_0, g6_b0_0)] rfl rfl rfl (ev_appT (l := x4.out) (m := p0.Data) (c := bvc) apt_29 rfl rfl B23 B24 hl5 (by decide)) ⟨fun _ => (tk1 (tk0 : z6_b0_0 = 0 ∨ (g6_b0_0 = g6_b0_0 ∧ z6_b0_0 ≠ 0) ∨ w7.heap.size ≤ g6_b0_0)), trivial⟩ ?_
    rintro vw8 w8 ⟨zw8, gw8, Ow8, Aw8, qw8, rw8⟩
    have z25 := Aw8.size
    refine ⟨Kz.ofKa Aw8, ?_⟩
    have S26 := (Kp.ka (Kp.refl ([] ++ zf z6_b0_0 g6_b0_0) w7) Aw8 (tk1 (tk0 : z6_b0_0 = 0 ∨ (g6_b0_0 = g6_b0_0 ∧ z6_b0_0 ≠ 0) ∨ w7.heap.size ≤ g6_b0_0)))
    refine dd_hn 0 rfl rfl rfl rfl S26 (fun w hS => vv_assign rfl) ?_
    refine sd_done ?_
    refine sw_ret ?_
    refine then_r ?_
    have X27 : Gr w w8 := (Gr.ka (Gr.trans (Gr.kz (Gr.kz (Gr.kz (Gr.kz (Gr.trans (Gr.trans (Gr.refl w) Gw1) Gw2) Kw3) Kw4 (tk1 ((pv_1 (A := (fun x => w.heap.size ≤ x)) f3_b0_0 (.inl rfl)) : z3_b0_0 = 0 ∨ w.heap.size ≤ g3_b0_0))) Kw5 (tk1 ((pv_1 (A := (fun x => w.heap.size ≤ x)) f4_b0_0 (pv_1 (A := (fun x => w.heap.size ≤ x)) f3_b0_0 (.inl rfl))) : z4_b0_0 = 0 ∨ w.heap.size ≤ g4_b0_0))) Kw6 (tk1 ((pv_1 (A := (fun x => w.heap.size ≤ x)) f5_b0_0 (pv_1 (A := (fun x => w.heap.size ≤ x)) f4_b0_0 (pv_1 (A := (fun x => w.heap.size ≤ x)) f3_b0_0 (.inl rfl)))) : z5_b0_0 = 0 ∨ w.heap.size ≤ g5_b0_0))) Gw7) Aw8 (tk1 ((pv_1 (A := (fun x => w.heap.size ≤ x)) f6_b0_0 (pv_1 (A := (fun x => w.heap.size ≤ x)) f5_b0_0 (pv_1 (A := (fun x => w.heap.size ≤ x)) f4_b0_0 (pv_1 (A := (fun x => w.heap.size ≤ x)) f3_b0_0 (.inl rfl))))) : z6_b0_0 = 0 ∨ w.heap.size ≤ g6_b0_0)))
    have hr := Option.some.inj hm
    subst hr
    refine ⟨_, _, rfl, res_1 rfl (rv_tmp rfl), ?_⟩
    exact ⟨vw8, zw8, gw8, rfl, Ow8, ⟨(pv_app (A := (fun x => w.heap.size ≤ x)) rw8 (pv_1 (A := (fun x => w.heap.size ≤ x)) f6_b0_0 (pv_1 (A := (fun x => w.heap.size ≤ x)) f5_b0_0 (pv_1 (A := (fun x => w.heap.size ≤ x)) f4_b0_0 (pv_1 (A := (fun x => w.heap.size ≤ x)) f3_b0_0 (.inl rfl))))))⟩, X27⟩
  ·
    replace hm := ite_f (of_decide_eq_false c1) hm
    refine sw_skip ?_
    refine then_n ?_
    refine sw_seq ?_
    -- region 8 bytes.go:52
    refine sw_region [(0, 0), (1, 0), (2, 0), (3, 0), (4, 0)] rfl rfl rfl ?_
    refine sd_vv rfl rfl rfl (vv_move rfl) ?_
    refine sd_vv rfl rfl rfl (vv_fieldAddr fa_31_1 rfl) ?_
    refine sd_vv rfl rfl rfl (vv_load1 (v := .int .i64 p0.Epoch) one_3 rfl B11 rfl) ?_
    refine sd_vv rfl rfl rfl (vv_cvIU cv_3_23 rfl) ?_
    have hb := bnd hm; clear hm; obtain ⟨x6, hx6, hm⟩ := hb
    refine sd_ev rfl rfl rfl (ev_call en_29 rfl (epoch_writer_put_w x1 (wd p0.Epoch) 8 _ u3_b0_0 z3_b0_0 g3_b0_0 _ hx6 _ Bk3_0 O3_b0_0 ⟨(tk1 ((pv_1 (A := (fun x => x ≠ b2)) f3_b0_0 (.inl rfl)) : z3_b0_0 = 0 ∨ g3_b0_0 ≠ b2))⟩)) ?_
    rintro _ w9 ⟨u9_b0_0, z9_b0_0, g9_b0_0, rfl, O9_b0_0, f9_b0_0, Bk9_0, Kw9⟩
    have z28 := Kw9.size
    have lt29 := O9_b0_0.lth
    refine sd_done ?_
    refine sw_seq ?_
    -- region 9 bytes.go:53
    refine sw_region [(0, 0), (1, 0), (2, 0), (3, 0), (4, 0), (5, 0), (6, 0)] rfl rfl rfl ?_
    refine sd_vv rfl rfl rfl (vv_move rfl) ?_
    refine sd_vv rfl rfl rfl (vv_fieldAddr fa_31_2 rfl) ?_
    refine sd_vv rfl rfl rfl (vv_fieldAddr fa_28_0 rfl) ?_
    have B30 := (Bx.kz B11 Kw9 (tk1 ((pv_1 (A := (fun x => x ≠ b1)) f3_b0_0 (.inl rfl)) : z3_b0_0 = 0 ∨ g3_b0_0 ≠ b1)))
    refine sd_vv rfl rfl rfl (vv_load1 (v := vp0_2) one_22 rfl B30 rfl) ?_
    have B31 := (Rd.kz (Rd.kz (Rd.gr (Rd.gr hp0_2 Gw1) Gw2) Kw3 (tk1 ((pv_lt (A := (fun x => x ≠ b2)) lt1) : zp0_2 = 0 ∨ gp0_2 ≠ b2))) Kw9 (tk2 ((pv_sw (pv_1 (A := (fun x => zp0_2 = 0 ∨ x ≠ gp0_2)) f3_b0_0 (.inl rfl) (fun x hx => (tk1 lt1.o)))) : zp0_2 = 0 ∨ z3_b0_0 = 0 ∨ gp0_2 ≠ g3_b0_0) ((pv_lt (A := (fun x => x ≠ b2)) lt1) : zp0_2 = 0 ∨ gp0_2 ≠ b2)))
    refine sd_vv rfl rfl rfl (vv_lenT (l := p0.Head.Items) (c := TItem.cs) Try.underlying22 rfl B31) ?_
    refine sd_vv rfl rfl rfl (vv_cvIU cv_3_23 rfl) ?_
    have hb := bnd hm; clear hm; obtain ⟨x7, hx7, hm⟩ := hb
    refine sd_ev rfl rfl rfl (ev_call en_29 rfl (epoch_writer_put_w x6 (wd (p0.Head.Items.length : Int)) 1 _ u9_b0_0 z9_b0_0 g9_b0_0 _ hx7 _ Bk9_0 O9_b0_0 ⟨(tk1 ((pv_1 (A := (fun x => x ≠ b2)) f9_b0_0 (pv_1 (A := (fun x => x ≠ b2)) f3_b0_0 (.inl rfl))) : z9_b0_0 = 0 ∨ g9_b0_0 ≠ b2))⟩)) ?_
    rintro _ w10 ⟨u10_b0_0, z10_b0_0, g10_b0_0, rfl, O10_b0_0, f10_b0_0, Bk10_0, Kw10⟩
    have z32 := Kw10.size
    have lt33 := O10_b0_0.lth
    refine sd_done ?_
    refine sw_seq ?_
    refine sw_seq ?_
    -- region 10 bytes.go:54
    refine sw_region [(0, 0), (1, 0), (2, 0), (3, 0), (4, 0)] rfl rfl rfl ?_
    refine sd_vv rfl rfl rfl (vv_fieldAddr fa_31_2 rfl) ?_
    refine sd_vv rfl rfl rfl (vv_fieldAddr fa_28_0 rfl) ?_
    have B34 := (Bx.kz B30 Kw10 (tk1 ((pv_1 (A := (fun x => x ≠ b1)) f9_b0_0 (pv_1 (A := (fun x => x ≠ b1)) f3_b0_0 (.inl rfl))) : z9_b0_0 = 0 ∨ g9_b0_0 ≠ b1)))
    refine sd_vv rfl rfl rfl (vv_load1 (v := vp0_2) one_22 rfl B34 rfl) ?_
    have B35 := (Rd.kz B31 Kw10 (tk2 ((pv_sw (pv_1 (A := (fun x => zp0_2 = 0 ∨ x ≠ gp0_2)) f9_b0_0 (pv_1 (A := (fun x => zp0_2 = 0 ∨ x ≠ gp0_2)) f3_b0_0 (.inl rfl) (fun x hx => (tk1 lt1.o))) (fun x hx => (tk1 lt1.o)))) : zp0_2 = 0 ∨ z9_b0_0 = 0 ∨ gp0_2 ≠ g9_b0_0) ((pv_lt (A := (fun x => x ≠ b2)) lt1) : zp0_2 = 0 ∨ gp0_2 ≠ b2)))
    refine sd_vv rfl rfl rfl (vv_lenT (l := p0.Head.Items) (c := TItem.cs) Try.underlying22 rfl B35) ?_
    refine sd_vv rfl rfl rfl (vv_move rfl) ?_
    refine sd_done ?_
    refine sw_block ?_
    have X36 : Gr w w10 := (Gr.kz (Gr.kz (Gr.kz (Gr.trans (Gr.trans (Gr.refl w) Gw1) Gw2) Kw3) Kw9 (tk1 ((pv_1 (A := (fun x => w.heap.size ≤ x)) f3_b0_0 (.inl rfl)) : z3_b0_0 = 0 ∨ w.heap.size ≤ g3_b0_0))) Kw10 (tk1 ((pv_1 (A := (fun x => w.heap.size ≤ x)) f9_b0_0 (pv_1 (A := (fun x => w.heap.size ≤ x)) f3_b0_0 (.inl rfl))) : z9_b0_0 = 0 ∨ w.heap.size ≤ g9_b0_0)))
    have B37 := (Rd.kz (Rd.kz (Rd.kz (Rd.gr (Rd.gr hp0_4 Gw1) Gw2) Kw3 (tk1 ((pv_lt (A := (fun x => x ≠ b2)) lt2) : zp0_4 = 0 ∨ gp0_4 ≠ b2))) Kw9 (tk2 ((pv_sw (pv_1 (A := (fun x => zp0_4 = 0 ∨ x ≠ gp0_4)) f3_b0_0 (.inl rfl) (fun x hx => (tk1 lt2.o)))) : zp0_4 = 0 ∨ z3_b0_0 = 0 ∨ gp0_4 ≠ g3_b0_0) ((pv_lt (A := (fun x => x ≠ b2)) lt2) : zp0_4 = 0 ∨ gp0_4 ≠ b2))) Kw10 (tk2 ((pv_sw (pv_1 (A := (fun x => zp0_4 = 0 ∨ x ≠ gp0_4)) f9_b0_0 (pv_1 (A := (fun x => zp0_4 = 0 ∨ x ≠ gp0_4)) f3_b0_0 (.inl rfl) (fun x hx => (tk1 lt2.o))) (fun x hx => (tk1 lt2.o)))) : zp0_4 = 0 ∨ z9_b0_0 = 0 ∨ gp0_4 ≠ g9_b0_0) ((pv_lt (A := (fun x => x ≠ b2)) lt2) : zp0_4 = 0 ∨ gp0_4 ≠ b2)))
    have B38 := (Rd.kz (Rd.kz (Rd.kz (Rd.gr (Rd.gr hp0_39 Gw1) Gw2) Kw3 (tk1 ((pv_lt (A := (fun x => x ≠ b2)) lt3) : zp0_39 = 0 ∨ gp0_39 ≠ b2))) Kw9 (tk2 ((pv_sw (pv_1 (A := (fun x => zp0_39 = 0 ∨ x ≠ gp0_39)) f3_b0_0 (.inl rfl) (fun x hx => (tk1 lt3.o)))) : zp0_39 = 0 ∨ z3_b0_0 = 0 ∨ gp0_39 ≠ g3_b0_0) ((pv_lt (A := (fun x => x ≠ b2)) lt3) : zp0_39 = 0 ∨ gp0_39 ≠ b2))) Kw10 (tk2 ((pv_sw (pv_1 (A := (fun x => zp0_39 = 0 ∨ x ≠ gp0_39)) f9_b0_0 (pv_1 (A := (fun x => zp0_39 = 0 ∨ x ≠ gp0_39)) f3_b0_0 (.inl rfl) (fun x hx => (tk1 lt3.o))) (fun x hx => (tk1 lt3.o)))) : zp0_39 = 0 ∨ z9_b0_0 = 0 ∨ gp0_39 ≠ g9_b0_0) ((pv_lt (A := (fun x => x ≠ b2)) lt3) : zp0_39 = 0 ∨ gp0_39 ≠ b2)))
    refine sw_loopD (α := Nat × Int × Tepoch_writer × Value × Nat × Nat) [5, 56, 57, 58, 59, 60, 61, 62, 63, 64, 65, 66, 67, 68, 69, 70, 71, 72, 73, 74, 75, 76] (fun ⟨n1, a11, a12, vy13, zy13, gy13⟩ => [(56, .int .i64 a11)]) (fun ⟨n1, a11, a12, vy13, zy13, gy13⟩ wr => (fixN (epoch_body_L1 p0) n1 (a11, a12) = some r) ∧ Own wr zy13 gy13 5 1 vy13 (a12.out.map bvc) ∧ Hdn (zy13 = 0 ∨ (gy13 = g10_b0_0 ∧ z10_b0_0 ≠ 0) ∨ w10.heap.size ≤ gy13) ∧ Bx wr b2 76 (Tepoch_writer.cs a12 vy13) ∧ Kz [(1, b2), (z10_b0_0, g10_b0_0)] w10 wr) (fun ⟨n1, a11, a12, vy13, zy13, gy13⟩ => n1) ⟨FUEL, 0, x7, u10_b0_0, z10_b0_0, g10_b0_0⟩ ?_ ?_ ?_
    · repeat' first | exact trivial | refine ⟨rfl, ?_⟩
    · exact ⟨hm, O10_b0_0, ⟨tk0⟩, Bk10_0, Kz.refl _ _⟩
    · clear hm; rintro ⟨n1, a11, a12, vy13, zy13, gy13⟩ w11 ⟨hm, Fw11_0, Fw11_1, Fw11_2, Kw11⟩
      have z39 := Kw11.size
      have lt40 := Fw11_0.lth
      have lt41 := Fw11_2.lt
      have hb := fix_succ hm; clear hm; obtain ⟨n1, rfl, hm⟩ := hb
      generalize hrec1 : fixN (epoch_body_L1 p0) n1 = rec1 at hm
      unfold epoch_body_L1 at hm
      try dsimp only at hm
      refine sw_seq ?_
      -- region 11 bytes.go:54
      refine sw_region [(0, 0)] rfl rfl rfl ?_
      refine sd_vv rfl rfl rfl (vv_lss (a := a11) (b := (p0.Head.Items.length : Int)) rfl rfl) ?_
      refine sd_done ?_
      refine sw_seq ?_
      refine sw_cond rfl (fun c2 => ?_) (fun c2 => ?_)
      ·
        replace hm := ite_t (of_decide_eq_true c2) hm
        refine sw_skip ?_
        refine then_n ?_
        refine sw_seq ?_
        refine sw_block ?_
        refine sw_seq ?_
        -- region 12 bytes.go:54
        refine sw_region [(0, 0), (1, 0), (2, 0), (3, 0)] rfl rfl rfl ?_
        have hb := bnd hm; clear hm; obtain ⟨y14, hy14, hm⟩ := hb
        have B42 := (Rd.kz B35 Kw11 (tk2 ((pv_sw (pv_1 (A := (fun x => zp0_2 = 0 ∨ x ≠ gp0_2)) f10_b0_0 (pv_1 (A := (fun x => zp0_2 = 0 ∨ x ≠ gp0_2)) f9_b0_0 (pv_1 (A := (fun x => zp0_2 = 0 ∨ x ≠ gp0_2)) f3_b0_0 (.inl rfl) (fun x hx => (tk1 lt1.o))) (fun x hx => (tk1 lt1.o))) (fun x hx => (tk1 lt1.o)))) : zp0_2 = 0 ∨ z10_b0_0 = 0 ∨ gp0_2 ≠ g10_b0_0) ((pv_lt (A := (fun x => x ≠ b2)) lt1) : zp0_2 = 0 ∨ gp0_2 ≠ b2)))
        refine sd_vv rfl rfl rfl (vv_ixT (i := a11) Try.underlying22 (agg_64).siz rfl B42 rfl hy14) ?_
        refine sd_vv rfl rfl rfl (vv_elWT agg_64 rfl B42 hy14 (by first | rfl | omega)) ?_
        refine sd_ev rfl rfl rfl (ev_alloc (cs := TItem.cs (TItem.mk (TSubset.mk 0 0) k0)) zv_64 rfl) ?_
        rintro _ w12 ⟨b12, rfl, hbw12, Bw12, Gw12⟩
        have z43 := Gw12.size
        have lt44 := Bw12.lt
        refine sd_ev rfl rfl rfl (ev_stM (cs' := TItem.cs y14) (vs := TItem.cs y14) (agg_64).siz rfl rfl rfl rfl rfl Bw12 rfl rfl) ?_
        rintro _ w13 ⟨Bw13, Mw13⟩
        have z45 := Mw13.size
        refine sd_done ?_
        refine sw_seq ?_
        -- region 13 bytes.go:55
        refine sw_region [(0, 0), (1, 0), (2, 0), (3, 0), (4, 0), (5, 0)] rfl rfl rfl ?_
        refine sd_vv rfl rfl rfl (vv_move rfl) ?_
        refine sd_vv rfl rfl rfl (vv_fieldAddr fa_64_0 rfl) ?_
        refine sd_vv rfl rfl rfl (vv_fieldAddr fa_62_0 rfl) ?_
        refine sd_vv rfl rfl rfl (vv_load1 (v := .int .i64 y14.Subset.Node) one_3 rfl Bw13 rfl) ?_
        refine sd_vv rfl rfl rfl (vv_cvIU cv_3_23 rfl) ?_
        have B46 := (Bx.md (Bx.gr Fw11_2 Gw12) Mw13)
        have B47 := (Own.md (Own.gr Fw11_0 Gw12) Mw13 (tk1 ((pv_lt (A := (fun x => x ≠ b12)) lt40) : zy13 = 0 ∨ gy13 ≠ b12)))
        have hb := bnd hm; clear hm; obtain ⟨x15, hx15, hm⟩ := hb
        refine sd_ev rfl rfl rfl (ev_call en_29 rfl (epoch_writer_put_w a12 (wd y14.Subset.Node) 1 _ vy13 zy13 gy13 _ hx15 _ B46 B47 ⟨(tk1 ((pv_1 (A := (fun x => x ≠ b2)) Fw11_1 (pv_1 (A := (fun x => x ≠ b2)) f10_b0_0 (pv_1 (A := (fun x => x ≠ b2)) f9_b0_0 (pv_1 (A := (fun x => x ≠ b2)) f3_b0_0 (.inl rfl))))) : zy13 = 0 ∨ gy13 ≠ b2))⟩)) ?_
        rintro _ w14 ⟨u14_b0_0, z14_b0_0, g14_b0_0, rfl, O14_b0_0, f14_b0_0, Bk14_0, Kw14⟩
        have z48 := Kw14.size
        have lt49 := O14_b0_0.lth
        refine sd_done ?_
        refine sw_seq ?_
        -- region 14 bytes.go:56
        refine sw_region [(0, 0), (1, 0), (2, 0), (3, 0), (4, 0), (5, 0)] rfl rfl rfl ?_
        refine sd_vv rfl rfl rfl (vv_move rfl) ?_
        refine sd_vv rfl rfl rfl (vv_fieldAddr fa_64_0 rfl) ?_
        refine sd_vv rfl rfl rfl (vv_fieldAddr fa_62_1 rfl) ?_
        have B50 := (Bx.kz Bw13 Kw14 (tk1 ((pv_lt (A := (fun x => x ≠ b12)) lt40) : zy13 = 0 ∨ gy13 ≠ b12)))
        refine sd_vv rfl rfl rfl (vv_load1 (v := .int .i64 y14.Subset.Minus) one_3 rfl B50 rfl) ?_
        refine sd_vv rfl rfl rfl (vv_cvIU cv_3_23 rfl) ?_
        have hb := bnd hm; clear hm; obtain ⟨x16, hx16, hm⟩ := hb
        refine sd_ev rfl rfl rfl (ev_call en_29 rfl (epoch_writer_put_w x15 (wd y14.Subset.Minus) 1 _ u14_b0_0 z14_b0_0 g14_b0_0 _ hx16 _ Bk14_0 O14_b0_0 ⟨(tk1 ((pv_1 (A := (fun x => x ≠ b2)) f14_b0_0 (pv_1 (A := (fun x => x ≠ b2)) Fw11_1 (pv_1 (A := (fun x => x ≠ b2)) f10_b0_0 (pv_1 (A := (fun x => x ≠ b2)) f9_b0_0 (pv_1 (A := (fun x => x ≠ b2)) f3_b0_0 (.inl rfl)))))) : z14_b0_0 = 0 ∨ g14_b0_0 ≠ b2))⟩)) ?_
        rintro _ w15 ⟨u15_b0_0, z15_b0_0, g15_b0_0, rfl, O15_b0_0, f15_b0_0, Bk15_0, Kw15⟩
        have z51 := Kw15.size
        have lt52 := O15_b0_0.lth
        refine sd_done ?_
        -- region 15 bytes.go:57
        refine sw_region [(0, 0), (1, 0), (2, 0), (3, 0)] rfl rfl rfl ?_
        refine sd_vv rfl rfl rfl (vv_move rfl) ?_
        refine sd_vv rfl rfl rfl (vv_fieldAddr fa_64_1 rfl) ?_
        have B53 := (Bx.kz B50 Kw15 (tk1 ((pv_1 (A := (fun x => x ≠ b12)) f14_b0_0 (pv_lt (A := (fun x => x ≠ b12)) lt40)) : z14_b0_0 = 0 ∨ g14_b0_0 ≠ b12)))
        refine sd_vv rfl rfl rfl (vv_loadM (vs := kb y14.Box) agg_26 rfl B53 rfl rfl) ?_
        have hb := bnd hm; clear hm; obtain ⟨x17, hx17, hm⟩ := hb
        refine sd_ev rfl rfl rfl (ev_call en_30 rfl (epoch_writer_key_w x16 y14.Box _ u15_b0_0 z15_b0_0 g15_b0_0 _ hx17 _ Bk15_0 O15_b0_0 ⟨(tk1 ((pv_1 (A := (fun x => x ≠ b2)) f15_b0_0 (pv_1 (A := (fun x => x ≠ b2)) f14_b0_0 (pv_1 (A := (fun x => x ≠ b2)) Fw11_1 (pv_1 (A := (fun x => x ≠ b2)) f10_b0_0 (pv_1 (A := (fun x => x ≠ b2)) f9_b0_0 (pv_1 (A := (fun x => x ≠ b2)) f3_b0_0 (.inl rfl))))))) : z15_b0_0 = 0 ∨ g15_b0_0 ≠ b2))⟩)) ?_
        rintro _ w16 ⟨u16_b0_0, z16_b0_0, g16_b0_0, rfl, O16_b0_0, f16_b0_0, Bk16_0, Kw16⟩
        have z54 := Kw16.size
        have lt55 := O16_b0_0.lth
        refine sd_nil ?_
        refine block_n ?_
        refine then_n ?_
        -- region 16 bytes.go:54
        refine sw_region [(0, 0), (1, 0)] rfl rfl rfl ?_
        refine sd_vv rfl rfl rfl (vv_add (k := .i64) (a := a11) (b := 1) rfl rfl) ?_
        refine sd_vv rfl rfl rfl (vv_move rfl) ?_
        refine sd_nil ?_
        have K_56 : Kz [(1, b2), (z10_b0_0, g10_b0_0)] w10 w16 := (Kz.kz (Kz.kz (Kz.kz (Kz.md (Kz.gr Kw11 Gw12) Mw13) Kw14 (tk1 ((pv_1 (A := (fun x => (x = g10_b0_0 ∧ z10_b0_0 ≠ 0) ∨ w10.heap.size ≤ x)) Fw11_1 tk0) : zy13 = 0 ∨ (gy13 = g10_b0_0 ∧ z10_b0_0 ≠ 0) ∨ w10.heap.size ≤ gy13))) Kw15 (tk1 ((pv_1 (A := (fun x => (x = g10_b0_0 ∧ z10_b0_0 ≠ 0) ∨ w10.heap.size ≤ x)) f14_b0_0 (pv_1 (A := (fun x => (x = g10_b0_0 ∧ z10_b0_0 ≠ 0) ∨ w10.heap.size ≤ x)) Fw11_1 tk0)) : z14_b0_0 = 0 ∨ (g14_b0_0 = g10_b0_0 ∧ z10_b0_0 ≠ 0) ∨ w10.heap.size ≤ g14_b0_0))) Kw16 (tk1 ((pv_1 (A := (fun x => (x = g10_b0_0 ∧ z10_b0_0 ≠ 0) ∨ w10.heap.size ≤ x)) f15_b0_0 (pv_1 (A := (fun x => (x = g10_b0_0 ∧ z10_b0_0 ≠ 0) ∨ w10.heap.size ≤ x)) f14_b0_0 (pv_1 (A := (fun x => (x = g10_b0_0 ∧ z10_b0_0 ≠ 0) ∨ w10.heap.size ≤ x)) Fw11_1 tk0))) : z15_b0_0 = 0 ∨ (g15_b0_0 = g10_b0_0 ∧ z10_b0_0 ≠ 0) ∨ w10.heap.size ≤ g15_b0_0)))
        subst hrec1
        refine ⟨rfl, ⟨n1, w64 (a11 + 1), x17, u16_b0_0, z16_b0_0, g16_b0_0⟩, ?_, ⟨hm, O16_b0_0, ⟨(pv_1 (A := (fun x => (x = g10_b0_0 ∧ z10_b0_0 ≠ 0) ∨ w10.heap.size ≤ x)) f16_b0_0 (pv_1 (A := (fun x => (x = g10_b0_0 ∧ z10_b0_0 ≠ 0) ∨ w10.heap.size ≤ x)) f15_b0_0 (pv_1 (A := (fun x => (x = g10_b0_0 ∧ z10_b0_0 ≠ 0) ∨ w10.heap.size ≤ x)) f14_b0_0 (pv_1 (A := (fun x => (x = g10_b0_0 ∧ z10_b0_0 ≠ 0) ∨ w10.heap.size ≤ x)) Fw11_1 tk0))))⟩, Bk16_0, K_56⟩, Nat.lt_succ_self _⟩
        repeat' first | exact trivial | refine ⟨rfl, ?_⟩
      ·
        replace hm := ite_f (of_decide_eq_false c2) hm
        refine sw_exit ?_
        refine then_x ?_
        refine then_x ?_
        refine block_x ?_
        refine then_n ?_
        refine sw_seq ?_
        -- region 17 bytes.go:59
        refine sw_region [(0, 0), (1, 0), (2, 0), (3, 0), (4, 0)] rfl rfl rfl ?_
        refine sd_vv rfl rfl rfl (vv_move rfl) ?_
        refine sd_vv rfl rfl rfl (vv_fieldAddr fa_31_2 rfl) ?_
        refine sd_vv rfl rfl rfl (vv_fieldAddr fa_28_1 rfl) ?_
        have B57 := (Bx.kz B34 Kw11 (tk1 ((pv_1 (A := (fun x => x ≠ b1)) f10_b0_0 (pv_1 (A := (fun x => x ≠ b1)) f9_b0_0 (pv_1 (A := (fun x => x ≠ b1)) f3_b0_0 (.inl rfl)))) : z10_b0_0 = 0 ∨ g10_b0_0 ≠ b1)))
        refine sd_vv rfl rfl rfl (vv_load1 (v := wv p0.Head.Base) one_23 rfl B57 rfl) ?_
        have hb := bnd hm; clear hm; obtain ⟨x18, hx18, hm⟩ := hb
        refine sd_ev rfl rfl rfl (ev_call en_29 rfl (epoch_writer_put_w a12 p0.Head.Base 8 _ vy13 zy13 gy13 _ hx18 _ Fw11_2 Fw11_0 ⟨(tk1 ((pv_1 (A := (fun x => x ≠ b2)) Fw11_1 (pv_1 (A := (fun x => x ≠ b2)) f10_b0_0 (pv_1 (A := (fun x => x ≠ b2)) f9_b0_0 (pv_1 (A := (fun x => x ≠ b2)) f3_b0_0 (.inl rfl))))) : zy13 = 0 ∨ gy13 ≠ b2))⟩)) ?_
        rintro _ w17 ⟨u17_b0_0, z17_b0_0, g17_b0_0, rfl, O17_b0_0, f17_b0_0, Bk17_0, Kw17⟩
        have z58 := Kw17.size
        have lt59 := O17_b0_0.lth
        refine sd_done ?_
        refine sw_seq ?_
        -- region 18 bytes.go:60
        refine sw_region [(0, 0), (1, 0), (2, 0), (3, 0), (4, 0), (5, 0), (6, 0)] rfl rfl rfl ?_
        refine sd_vv rfl rfl rfl (vv_move rfl) ?_
        refine sd_vv rfl rfl rfl (vv_fieldAddr fa_31_2 rfl) ?_
        refine sd_vv rfl rfl rfl (vv_fieldAddr fa_28_2 rfl) ?_
        have B60 := (Bx.kz B57 Kw17 (tk1 ((pv_1 (A := (fun x => x ≠ b1)) Fw11_1 (pv_1 (A := (fun x => x ≠ b1)) f10_b0_0 (pv_1 (A := (fun x => x ≠ b1)) f9_b0_0 (pv_1 (A := (fun x => x ≠ b1)) f3_b0_0 (.inl rfl))))) : zy13 = 0 ∨ gy13 ≠ b1)))
        refine sd_vv rfl rfl rfl (vv_load1 (v := vp0_4) one_24 rfl B60 rfl) ?_
        have B61 := (Rd.kz (Rd.kz B37 Kw11 (tk2 ((pv_sw (pv_1 (A := (fun x => zp0_4 = 0 ∨ x ≠ gp0_4)) f10_b0_0 (pv_1 (A := (fun x => zp0_4 = 0 ∨ x ≠ gp0_4)) f9_b0_0 (pv_1 (A := (fun x => zp0_4 = 0 ∨ x ≠ gp0_4)) f3_b0_0 (.inl rfl) (fun x hx => (tk1 lt2.o))) (fun x hx => (tk1 lt2.o))) (fun x hx => (tk1 lt2.o)))) : zp0_4 = 0 ∨ z10_b0_0 = 0 ∨ gp0_4 ≠ g10_b0_0) ((pv_lt (A := (fun x => x ≠ b2)) lt2) : zp0_4 = 0 ∨ gp0_4 ≠ b2))) Kw17 (tk2 ((pv_sw (pv_1 (A := (fun x => zp0_4 = 0 ∨ x ≠ gp0_4)) Fw11_1 (pv_1 (A := (fun x => zp0_4 = 0 ∨ x ≠ gp0_4)) f10_b0_0 (pv_1 (A := (fun x => zp0_4 = 0 ∨ x ≠ gp0_4)) f9_b0_0 (pv_1 (A := (fun x => zp0_4 = 0 ∨ x ≠ gp0_4)) f3_b0_0 (.inl rfl) (fun x hx => (tk1 lt2.o))) (fun x hx => (tk1 lt2.o))) (fun x hx => (tk1 lt2.o))) (fun x hx => (tk1 lt2.o)))) : zp0_4 = 0 ∨ zy13 = 0 ∨ gp0_4 ≠ gy13) ((pv_lt (A := (fun x => x ≠ b2)) lt2) : zp0_4 = 0 ∨ gp0_4 ≠ b2)))
        refine sd_vv rfl rfl rfl (vv_lenT (l := p0.Head.Points) (c := TPoint.cs) Try.underlying24 rfl B61) ?_
        refine sd_vv rfl rfl rfl (vv_cvIU cv_3_23 rfl) ?_
        have hb := bnd hm; clear hm; obtain ⟨x19, hx19, hm⟩ := hb
        refine sd_ev rfl rfl rfl (ev_call en_29 rfl (epoch_writer_put_w x18 (wd (p0.Head.Points.length : Int)) 1 _ u17_b0_0 z17_b0_0 g17_b0_0 _ hx19 _ Bk17_0 O17_b0_0 ⟨(tk1 ((pv_1 (A := (fun x => x ≠ b2)) f17_b0_0 (pv_1 (A := (fun x => x ≠ b2)) Fw11_1 (pv_1 (A := (fun x => x ≠ b2)) f10_b0_0 (pv_1 (A := (fun x => x ≠ b2)) f9_b0_0 (pv_1 (A := (fun x => x ≠ b2)) f3_b0_0 (.inl rfl)))))) : z17_b0_0 = 0 ∨ g17_b0_0 ≠ b2))⟩)) ?_
        rintro _ w18 ⟨u18_b0_0, z18_b0_0, g18_b0_0, rfl, O18_b0_0, f18_b0_0, Bk18_0, Kw18⟩
        have z62 := Kw18.size
        have lt63 := O18_b0_0.lth
        refine sd_done ?_
        refine sw_seq ?_
        refine sw_seq ?_
        -- region 19 bytes.go:61
        refine sw_region [(0, 0), (1, 0), (2, 0), (3, 0), (4, 0)] rfl rfl rfl ?_
        refine sd_vv rfl rfl rfl (vv_fieldAddr fa_31_2 rfl) ?_
        refine sd_vv rfl rfl rfl (vv_fieldAddr fa_28_2 rfl) ?_
        have B64 := (Bx.kz B60 Kw18 (tk1 ((pv_1 (A := (fun x => x ≠ b1)) f17_b0_0 (pv_1 (A := (fun x => x ≠ b1)) Fw11_1 (pv_1 (A := (fun x => x ≠ b1)) f10_b0_0 (pv_1 (A := (fun x => x ≠ b1)) f9_b0_0 (pv_1 (A := (fun x => x ≠ b1)) f3_b0_0 (.inl rfl)))))) : z17_b0_0 = 0 ∨ g17_b0_0 ≠ b1)))
        refine sd_vv rfl rfl rfl (vv_load1 (v := vp0_4) one_24 rfl B64 rfl) ?_
        have B65 := (Rd.kz B61 Kw18 (tk2 ((pv_sw (pv_1 (A := (fun x => zp0_4 = 0 ∨ x ≠ gp0_4)) f17_b0_0 (pv_1 (A := (fun x => zp0_4 = 0 ∨ x ≠ gp0_4)) Fw11_1 (pv_1 (A := (fun x => zp0_4 = 0 ∨ x ≠ gp0_4)) f10_b0_0 (pv_1 (A := (fun x => zp0_4 = 0 ∨ x ≠ gp0_4)) f9_b0_0 (pv_1 (A := (fun x => zp0_4 = 0 ∨ x ≠ gp0_4)) f3_b0_0 (.inl rfl) (fun x hx => (tk1 lt2.o))) (fun x hx => (tk1 lt2.o))) (fun x hx => (tk1 lt2.o))) (fun x hx => (tk1 lt2.o))) (fun x hx => (tk1 lt2.o)))) : zp0_4 = 0 ∨ z17_b0_0 = 0 ∨ gp0_4 ≠ g17_b0_0) ((pv_lt (A := (fun x => x ≠ b2)) lt2) : zp0_4 = 0 ∨ gp0_4 ≠ b2)))
        refine sd_vv rfl rfl rfl (vv_lenT (l := p0.Head.Points) (c := TPoint.cs) Try.underlying24 rfl B65) ?_
        refine sd_vv rfl rfl rfl (vv_move rfl) ?_
        refine sd_done ?_
        refine sw_block ?_
        have X66 : Gr w w18 := (Gr.kz (Gr.kz (Gr.kz X36 Kw11 (tk1 ((pv_1 (A := (fun x => w.heap.size ≤ x)) f10_b0_0 (pv_1 (A := (fun x => w.heap.size ≤ x)) f9_b0_0 (pv_1 (A := (fun x => w.heap.size ≤ x)) f3_b0_0 (.inl rfl)))) : z10_b0_0 = 0 ∨ w.heap.size ≤ g10_b0_0))) Kw17 (tk1 ((pv_1 (A := (fun x => w.heap.size ≤ x)) Fw11_1 (pv_1 (A := (fun x => w.heap.size ≤ x)) f10_b0_0 (pv_1 (A := (fun x => w.heap.size ≤ x)) f9_b0_0 (pv_1 (A := (fun x => w.heap.size ≤ x)) f3_b0_0 (.inl rfl))))) : zy13 = 0 ∨ w.heap.size ≤ gy13))) Kw18 (tk1 ((pv_1 (A := (fun x => w.heap.size ≤ x)) f17_b0_0 (pv_1 (A := (fun x => w.heap.size ≤ x)) Fw11_1 (pv_1 (A := (fun x => w.heap.size ≤ x)) f10_b0_0 (pv_1 (A := (fun x => w.heap.size ≤ x)) f9_b0_0 (pv_1 (A := (fun x => w.heap.size ≤ x)) f3_b0_0 (.inl rfl)))))) : z17_b0_0 = 0 ∨ w.heap.size ≤ g17_b0_0)))
        have B67 := (Rd.kz (Rd.kz (Rd.kz B35 Kw11 (tk2 ((pv_sw (pv_1 (A := (fun x => zp0_2 = 0 ∨ x ≠ gp0_2)) f10_b0_0 (pv_1 (A := (fun x => zp0_2 = 0 ∨ x ≠ gp0_2)) f9_b0_0 (pv_1 (A := (fun x => zp0_2 = 0 ∨ x ≠ gp0_2)) f3_b0_0 (.inl rfl) (fun x hx => (tk1 lt1.o))) (fun x hx => (tk1 lt1.o))) (fun x hx => (tk1 lt1.o)))) : zp0_2 = 0 ∨ z10_b0_0 = 0 ∨ gp0_2 ≠ g10_b0_0) ((pv_lt (A := (fun x => x ≠ b2)) lt1) : zp0_2 = 0 ∨ gp0_2 ≠ b2))) Kw17 (tk2 ((pv_sw (pv_1 (A := (fun x => zp0_2 = 0 ∨ x ≠ gp0_2)) Fw11_1 (pv_1 (A := (fun x => zp0_2 = 0 ∨ x ≠ gp0_2)) f10_b0_0 (pv_1 (A := (fun x => zp0_2 = 0 ∨ x ≠ gp0_2)) f9_b0_0 (pv_1 (A := (fun x => zp0_2 = 0 ∨ x ≠ gp0_2)) f3_b0_0 (.inl rfl) (fun x hx => (tk1 lt1.o))) (fun x hx => (tk1 lt1.o))) (fun x hx => (tk1 lt1.o))) (fun x hx => (tk1 lt1.o)))) : zp0_2 = 0 ∨ zy13 = 0 ∨ gp0_2 ≠ gy13) ((pv_lt (A := (fun x => x ≠ b2)) lt1) : zp0_2 = 0 ∨ gp0_2 ≠ b2))) Kw18 (tk2 ((pv_sw (pv_1 (A := (fun x => zp0_2 = 0 ∨ x ≠ gp0_2)) f17_b0_0 (pv_1 (A := (fun x => zp0_2 = 0 ∨ x ≠ gp0_2)) Fw11_1 (pv_1 (A := (fun x => zp0_2 = 0 ∨ x ≠ gp0_2)) f10_b0_0 (pv_1 (A := (fun x => zp0_2 = 0 ∨ x ≠ gp0_2)) f9_b0_0 (pv_1 (A := (fun x => zp0_2 = 0 ∨ x ≠ gp0_2)) f3_b0_0 (.inl rfl) (fun x hx => (tk1 lt1.o))) (fun x hx => (tk1 lt1.o))) (fun x hx => (tk1 lt1.o))) (fun x hx => (tk1 lt1.o))) (fun x hx => (tk1 lt1.o)))) : zp0_2 = 0 ∨ z17_b0_0 = 0 ∨ gp0_2 ≠ g17_b0_0) ((pv_lt (A := (fun x => x ≠ b2)) lt1) : zp0_2 = 0 ∨ gp0_2 ≠ b2)))
        have B68 := (Rd.kz (Rd.kz (Rd.kz B38 Kw11 (tk2 ((pv_sw (pv_1 (A := (fun x => zp0_39 = 0 ∨ x ≠ gp0_39)) f10_b0_0 (pv_1 (A := (fun x => zp0_39 = 0 ∨ x ≠ gp0_39)) f9_b0_0 (pv_1 (A := (fun x => zp0_39 = 0 ∨ x ≠ gp0_39)) f3_b0_0 (.inl rfl) (fun x hx => (tk1 lt3.o))) (fun x hx => (tk1 lt3.o))) (fun x hx => (tk1 lt3.o)))) : zp0_39 = 0 ∨ z10_b0_0 = 0 ∨ gp0_39 ≠ g10_b0_0) ((pv_lt (A := (fun x => x ≠ b2)) lt3) : zp0_39 = 0 ∨ gp0_39 ≠ b2))) Kw17 (tk2 ((pv_sw (pv_1 (A := (fun x => zp0_39 = 0 ∨ x ≠ gp0_39)) Fw11_1 (pv_1 (A := (fun x => zp0_39 = 0 ∨ x ≠ gp0_39)) f10_b0_0 (pv_1 (A := (fun x => zp0_39 = 0 ∨ x ≠ gp0_39)) f9_b0_0 (pv_1 (A := (fun x => zp0_39 = 0 ∨ x ≠ gp0_39)) f3_b0_0 (.inl rfl) (fun x hx => (tk1 lt3.o))) (fun x hx => (tk1 lt3.o))) (fun x hx => (tk1 lt3.o))) (fun x hx => (tk1 lt3.o)))) : zp0_39 = 0 ∨ zy13 = 0 ∨ gp0_39 ≠ gy13) ((pv_lt (A := (fun x => x ≠ b2)) lt3) : zp0_39 = 0 ∨ gp0_39 ≠ b2))) Kw18 (tk2 ((pv_sw (pv_1 (A := (fun x => zp0_39 = 0 ∨ x ≠ gp0_39)) f17_b0_0 (pv_1 (A := (fun x => zp0_39 = 0 ∨ x ≠ gp0_39)) Fw11_1 (pv_1 (A := (fun x => zp0_39 = 0 ∨ x ≠ gp0_39)) f10_b0_0 (pv_1 (A := (fun x => zp0_39 = 0 ∨ x ≠ gp0_39)) f9_b0_0 (pv_1 (A := (fun x => zp0_39 = 0 ∨ x ≠ gp0_39)) f3_b0_0 (.inl rfl) (fun x hx => (tk1 lt3.o))) (fun x hx => (tk1 lt3.o))) (fun x hx => (tk1 lt3.o))) (fun x hx => (tk1 lt3.o))) (fun x hx => (tk1 lt3.o)))) : zp0_39 = 0 ∨ z17_b0_0 = 0 ∨ gp0_39 ≠ g17_b0_0) ((pv_lt (A := (fun x => x ≠ b2)) lt3) : zp0_39 = 0 ∨ gp0_39 ≠ b2)))
        refine sw_loopD (α := Nat × Int × Tepoch_writer × Value × Nat × Nat) [7, 93, 94, 95, 96, 97, 98, 99, 100, 101, 102, 103, 104, 105] (fun ⟨n2, a23, a24, vy25, zy25, gy25⟩ => [(93, .int .i64 a23)]) (fun ⟨n2, a23, a24, vy25, zy25, gy25⟩ wr => (fixN (epoch_body_L2 p0) n2 (a23, a24) = some r) ∧ Own wr zy25 gy25 5 1 vy25 (a24.out.map bvc) ∧ Hdn (zy25 = 0 ∨ (gy25 = g18_b0_0 ∧ z18_b0_0 ≠ 0) ∨ w18.heap.size ≤ gy25) ∧ Bx wr b2 76 (Tepoch_writer.cs a24 vy25) ∧ Kz [(1, b2), (z18_b0_0, g18_b0_0)] w18 wr) (fun ⟨n2, a23, a24, vy25, zy25, gy25⟩ => n2) ⟨FUEL, 0, x19, u18_b0_0, z18_b0_0, g18_b0_0⟩ ?_ ?_ ?_
        · repeat' first | exact trivial | refine ⟨rfl, ?_⟩
        · exact ⟨hm, O18_b0_0, ⟨tk0⟩, Bk18_0, Kz.refl _ _⟩
        · clear hm; rintro ⟨n2, a23, a24, vy25, zy25, gy25⟩ w19 ⟨hm, Fw19_0, Fw19_1, Fw19_2, Kw19⟩
          have z69 := Kw19.size
          have lt70 := Fw19_0.lth
          have lt71 := Fw19_2.lt
          have hb := fix_succ hm; clear hm; obtain ⟨n2, rfl, hm⟩ := hb
          generalize hrec2 : fixN (epoch_body_L2 p0) n2 = rec2 at hm
          unfold epoch_body_L2 at hm
          try dsimp only at hm
          refine sw_seq ?_
          -- region 20 bytes.go:61
          refine sw_region [(0, 0)] rfl rfl rfl ?_
          refine sd_vv rfl rfl rfl (vv_lss (a := a23) (b := (p0.Head.Points.length : Int)) rfl rfl) ?_
          refine sd_done ?_
          refine sw_seq ?_
          refine sw_cond rfl (fun c3 => ?_) (fun c3 => ?_)
          ·
            replace hm := ite_t (of_decide_eq_true c3) hm
            refine sw_skip ?_
            refine then_n ?_
            refine sw_seq ?_
            refine sw_block ?_
            refine sw_seq ?_
            -- region 21 bytes.go:61
            refine sw_region [(0, 0), (1, 0), (2, 0), (3, 0)] rfl rfl rfl ?_
            have hb := bnd hm; clear hm; obtain ⟨y26, hy26, hm⟩ := hb
            have B72 := (Rd.kz B65 Kw19 (tk2 ((pv_sw (pv_1 (A := (fun x => zp0_4 = 0 ∨ x ≠ gp0_4)) f18_b0_0 (pv_1 (A := (fun x => zp0_4 = 0 ∨ x ≠ gp0_4)) f17_b0_0 (pv_1 (A := (fun x => zp0_4 = 0 ∨ x ≠ gp0_4)) Fw11_1 (pv_1 (A := (fun x => zp0_4 = 0 ∨ x ≠ gp0_4)) f10_b0_0 (pv_1 (A := (fun x => zp0_4 = 0 ∨ x ≠ gp0_4)) f9_b0_0 (pv_1 (A := (fun x => zp0_4 = 0 ∨ x ≠ gp0_4)) f3_b0_0 (.inl rfl) (fun x hx => (tk1 lt2.o))) (fun x hx => (tk1 lt2.o))) (fun x hx => (tk1 lt2.o))) (fun x hx => (tk1 lt2.o))) (fun x hx => (tk1 lt2.o))) (fun x hx => (tk1 lt2.o)))) : zp0_4 = 0 ∨ z18_b0_0 = 0 ∨ gp0_4 ≠ g18_b0_0) ((pv_lt (A := (fun x => x ≠ b2)) lt2) : zp0_4 = 0 ∨ gp0_4 ≠ b2)))
            refine sd_vv rfl rfl rfl (vv_ixT (i := a23) Try.underlying24 (agg_35).siz rfl B72 rfl hy26) ?_
            refine sd_vv rfl rfl rfl (vv_elWT agg_35 rfl B72 hy26 (by first | rfl | omega)) ?_
            refine sd_ev rfl rfl rfl (ev_alloc (cs := TPoint.cs (TPoint.mk 0#64 0#64)) zv_35 rfl) ?_
            rintro _ w20 ⟨b20, rfl, hbw20, Bw20, Gw20⟩
            have z73 := Gw20.size
            have lt74 := Bw20.lt
            refine sd_ev rfl rfl rfl (ev_stM (cs' := TPoint.cs y26) (vs := TPoint.cs y26) (agg_35).siz rfl rfl rfl rfl rfl Bw20 rfl rfl) ?_
            rintro _ w21 ⟨Bw21, Mw21⟩
            have z75 := Mw21.size
            refine sd_done ?_
            refine sw_seq ?_
            -- region 22 bytes.go:62
            refine sw_region [(0, 0), (1, 0), (2, 0), (3, 0)] rfl rfl rfl ?_
            refine sd_vv rfl rfl rfl (vv_move rfl) ?_
            refine sd_vv rfl rfl rfl (vv_fieldAddr fa_35_0 rfl) ?_
            refine sd_vv rfl rfl rfl (vv_load1 (v := wv y26.X) one_23 rfl Bw21 rfl) ?_
            have B76 := (Bx.md (Bx.gr Fw19_2 Gw20) Mw21)
            have B77 := (Own.md (Own.gr Fw19_0 Gw20) Mw21 (tk1 ((pv_lt (A := (fun x => x ≠ b20)) lt70) : zy25 = 0 ∨ gy25 ≠ b20)))
            have hb := bnd hm; clear hm; obtain ⟨x27, hx27, hm⟩ := hb
            refine sd_ev rfl rfl rfl (ev_call en_29 rfl (epoch_writer_put_w a24 y26.X 8 _ vy25 zy25 gy25 _ hx27 _ B76 B77 ⟨(tk1 ((pv_1 (A := (fun x => x ≠ b2)) Fw19_1 (pv_1 (A := (fun x => x ≠ b2)) f18_b0_0 (pv_1 (A := (fun x => x ≠ b2)) f17_b0_0 (pv_1 (A := (fun x => x ≠ b2)) Fw11_1 (pv_1 (A := (fun x => x ≠ b2)) f10_b0_0 (pv_1 (A := (fun x => x ≠ b2)) f9_b0_0 (pv_1 (A := (fun x => x ≠ b2)) f3_b0_0 (.inl rfl)))))))) : zy25 = 0 ∨ gy25 ≠ b2))⟩)) ?_
            rintro _ w22 ⟨u22_b0_0, z22_b0_0, g22_b0_0, rfl, O22_b0_0, f22_b0_0, Bk22_0, Kw22⟩
            have z78 := Kw22.size
            have lt79 := O22_b0_0.lth
            refine sd_done ?_
            -- region 23 bytes.go:63
            refine sw_region [(0, 0), (1, 0), (2, 0), (3, 0)] rfl rfl rfl ?_
            refine sd_vv rfl rfl rfl (vv_move rfl) ?_
            refine sd_vv rfl rfl rfl (vv_fieldAddr fa_35_1 rfl) ?_
            have B80 := (Bx.kz Bw21 Kw22 (tk1 ((pv_lt (A := (fun x => x ≠ b20)) lt70) : zy25 = 0 ∨ gy25 ≠ b20)))
            refine sd_vv rfl rfl rfl (vv_load1 (v := wv y26.Y) one_23 rfl B80 rfl) ?_
            have hb := bnd hm; clear hm; obtain ⟨x28, hx28, hm⟩ := hb
            refine sd_ev rfl rfl rfl (ev_call en_29 rfl (epoch_writer_put_w x27 y26.Y 8 _ u22_b0_0 z22_b0_0 g22_b0_0 _ hx28 _ Bk22_0 O22_b0_0 ⟨(tk1 ((pv_1 (A := (fun x => x ≠ b2)) f22_b0_0 (pv_1 (A := (fun x => x ≠ b2)) Fw19_1 (pv_1 (A := (fun x => x ≠ b2)) f18_b0_0 (pv_1 (A := (fun x => x ≠ b2)) f17_b0_0 (pv_1 (A := (fun x => x ≠ b2)) Fw11_1 (pv_1 (A := (fun x => x ≠ b2)) f10_b0_0 (pv_1 (A := (fun x => x ≠ b2)) f9_b0_0 (pv_1 (A := (fun x => x ≠ b2)) f3_b0_0 (.inl rfl))))))))) : z22_b0_0 = 0 ∨ g22_b0_0 ≠ b2))⟩)) ?_
            rintro _ w23 ⟨u23_b0_0, z23_b0_0, g23_b0_0, rfl, O23_b0_0, f23_b0_0, Bk23_0, Kw23⟩
            have z81 := Kw23.size
            have lt82 := O23_b0_0.lth
            refine sd_nil ?_
            refine block_n ?_
            refine then_n ?_
            -- region 24 bytes.go:61
            refine sw_region [(0, 0), (1, 0)] rfl rfl rfl ?_
            refine sd_vv rfl rfl rfl (vv_add (k := .i64) (a := a23) (b := 1) rfl rfl) ?_
            refine sd_vv rfl rfl rfl (vv_move rfl) ?_
            refine sd_nil ?_
            have K_83 : Kz [(1, b2), (z18_b0_0, g18_b0_0)] w18 w23 := (Kz.kz (Kz.kz (Kz.md (Kz.gr Kw19 Gw20) Mw21) Kw22 (tk1 ((pv_1 (A := (fun x => (x = g18_b0_0 ∧ z18_b0_0 ≠ 0) ∨ w18.heap.size ≤ x)) Fw19_1 tk0) : zy25 = 0 ∨ (gy25 = g18_b0_0 ∧ z18_b0_0 ≠ 0) ∨ w18.heap.size ≤ gy25))) Kw23 (tk1 ((pv_1 (A := (fun x => (x = g18_b0_0 ∧ z18_b0_0 ≠ 0) ∨ w18.heap.size ≤ x)) f22_b0_0 (pv_1 (A := (fun x => (x = g18_b0_0 ∧ z18_b0_0 ≠ 0) ∨ w18.heap.size ≤ x)) Fw19_1 tk0)) : z22_b0_0 = 0 ∨ (g22_b0_0 = g18_b0_0 ∧ z18_b0_0 ≠ 0) ∨ w18.heap.size ≤ g22_b0_0)))
            subst hrec2
            refine ⟨rfl, ⟨n2, w64 (a23 + 1), x28, u23_b0_0, z23_b0_0, g23_b0_0⟩, ?_, ⟨hm, O23_b0_0, ⟨(pv_1 (A := (fun x => (x = g18_b0_0 ∧ z18_b0_0 ≠ 0) ∨ w18.heap.size ≤ x)) f23_b0_0 (pv_1 (A := (fun x => (x = g18_b0_0 ∧ z18_b0_0 ≠ 0) ∨ w18.heap.size ≤ x)) f22_b0_0 (pv_1 (A := (fun x => (x = g18_b0_0 ∧ z18_b0_0 ≠ 0) ∨ w18.heap.size ≤ x)) Fw19_1 tk0)))⟩, Bk23_0, K_83⟩, Nat.lt_succ_self _⟩
            repeat' first | exact trivial | refine ⟨rfl, ?_⟩
          ·
            replace hm := ite_f (of_decide_eq_false c3) hm
            refine sw_exit ?_
            refine then_x ?_
            refine then_x ?_
            refine block_x ?_
            refine then_n ?_
            refine sw_seq ?_
            -- region 25 bytes.go:65
            refine sw_region [(0, 0), (1, 0), (2, 0), (3, 0), (4, 0)] rfl rfl rfl ?_
            refine sd_vv rfl rfl rfl (vv_move rfl) ?_
            refine sd_vv rfl rfl rfl (vv_fieldAddr fa_31_2 rfl) ?_
            refine sd_vv rfl rfl rfl (vv_fieldAddr fa_28_3 rfl) ?_
            have B84 := (Bx.kz B64 Kw19 (tk1 ((pv_1 (A := (fun x => x ≠ b1)) f18_b0_0 (pv_1 (A := (fun x => x ≠ b1)) f17_b0_0 (pv_1 (A := (fun x => x ≠ b1)) Fw11_1 (pv_1 (A := (fun x => x ≠ b1)) f10_b0_0 (pv_1 (A := (fun x => x ≠ b1)) f9_b0_0 (pv_1 (A := (fun x => x ≠ b1)) f3_b0_0 (.inl rfl))))))) : z18_b0_0 = 0 ∨ g18_b0_0 ≠ b1)))
            refine sd_vv rfl rfl rfl (vv_loadM (vs := kb p0.Head.Box) agg_26 rfl B84 rfl rfl) ?_
            have hb := bnd hm; clear hm; obtain ⟨x29, hx29, hm⟩ := hb
            refine sd_ev rfl rfl rfl (ev_call en_30 rfl (epoch_writer_key_w a24 p0.Head.Box _ vy25 zy25 gy25 _ hx29 _ Fw19_2 Fw19_0 ⟨(tk1 ((pv_1 (A := (fun x => x ≠ b2)) Fw19_1 (pv_1 (A := (fun x => x ≠ b2)) f18_b0_0 (pv_1 (A := (fun x => x ≠ b2)) f17_b0_0 (pv_1 (A := (fun x => x ≠ b2)) Fw11_1 (pv_1 (A := (fun x => x ≠ b2)) f10_b0_0 (pv_1 (A := (fun x => x ≠ b2)) f9_b0_0 (pv_1 (A := (fun x => x ≠ b2)) f3_b0_0 (.inl rfl)))))))) : zy25 = 0 ∨ gy25 ≠ b2))⟩)) ?_
            rintro _ w24 ⟨u24_b0_0, z24_b0_0, g24_b0_0, rfl, O24_b0_0, f24_b0_0, Bk24_0, Kw24⟩
            have z85 := Kw24.size
            have lt86 := O24_b0_0.lth
            refine sd_done ?_
            refine sw_seq ?_
            -- region 26 bytes.go:66
            refine sw_region [(0, 0), (1, 0), (2, 0), (3, 0), (4, 0)] rfl rfl rfl ?_
            refine sd_vv rfl rfl rfl (vv_move rfl) ?_
            refine sd_vv rfl rfl rfl (vv_fieldAddr fa_31_2 rfl) ?_
            refine sd_vv rfl rfl rfl (vv_fieldAddr fa_28_4 rfl) ?_
            have B87 := (Bx.kz B84 Kw24 (tk1 ((pv_1 (A := (fun x => x ≠ b1)) Fw19_1 (pv_1 (A := (fun x => x ≠ b1)) f18_b0_0 (pv_1 (A := (fun x => x ≠ b1)) f17_b0_0 (pv_1 (A := (fun x => x ≠ b1)) Fw11_1 (pv_1 (A := (fun x => x ≠ b1)) f10_b0_0 (pv_1 (A := (fun x => x ≠ b1)) f9_b0_0 (pv_1 (A := (fun x => x ≠ b1)) f3_b0_0 (.inl rfl)))))))) : zy25 = 0 ∨ gy25 ≠ b1)))
            refine sd_vv rfl rfl rfl (vv_loadM (vs := kb p0.Head.Check) agg_26 rfl B87 rfl rfl) ?_
            have hb := bnd hm; clear hm; obtain ⟨x30, hx30, hm⟩ := hb
            refine sd_ev rfl rfl rfl (ev_call en_30 rfl (epoch_writer_key_w x29 p0.Head.Check _ u24_b0_0 z24_b0_0 g24_b0_0 _ hx30 _ Bk24_0 O24_b0_0 ⟨(tk1 ((pv_1 (A := (fun x => x ≠ b2)) f24_b0_0 (pv_1 (A := (fun x => x ≠ b2)) Fw19_1 (pv_1 (A := (fun x => x ≠ b2)) f18_b0_0 (pv_1 (A := (fun x => x ≠ b2)) f17_b0_0 (pv_1 (A := (fun x => x ≠ b2)) Fw11_1 (pv_1 (A := (fun x => x ≠ b2)) f10_b0_0 (pv_1 (A := (fun x => x ≠ b2)) f9_b0_0 (pv_1 (A := (fun x => x ≠ b2)) f3_b0_0 (.inl rfl))))))))) : z24_b0_0 = 0 ∨ g24_b0_0 ≠ b2))⟩)) ?_
            rintro _ w25 ⟨u25_b0_0, z25_b0_0, g25_b0_0, rfl, O25_b0_0, f25_b0_0, Bk25_0, Kw25⟩
            have z88 := Kw25.size
            have lt89 := O25_b0_0.lth
            refine sd_done ?_
            refine sw_seq ?_
            -- region 27 bytes.go:67
            refine sw_region [(0, 0), (1, 0), (2, 0), (3, 0), (4, 0)] rfl rfl rfl ?_
            refine sd_vv rfl rfl rfl (vv_move rfl) ?_
            refine sd_vv rfl rfl rfl (vv_nilCheck rfl rfl) ?_
            refine sd_vv rfl rfl rfl (vv_fieldAddr fa_76_0 rfl) ?_
            refine sd_vv rfl rfl rfl (vv_load1 (v := u25_b0_0) one_29 rfl Bk25_0 rfl) ?_
            refine sd_vv rfl rfl rfl (vv_assign rfl) ?_
            refine sd_done ?_
            refine sw_ret ?_
            have X90 : Gr w w25 := (Gr.kz (Gr.kz (Gr.kz X66 Kw19 (tk1 ((pv_1 (A := (fun x => w.heap.size ≤ x)) f18_b0_0 (pv_1 (A := (fun x => w.heap.size ≤ x)) f17_b0_0 (pv_1 (A := (fun x => w.heap.size ≤ x)) Fw11_1 (pv_1 (A := (fun x => w.heap.size ≤ x)) f10_b0_0 (pv_1 (A := (fun x => w.heap.size ≤ x)) f9_b0_0 (pv_1 (A := (fun x => w.heap.size ≤ x)) f3_b0_0 (.inl rfl))))))) : z18_b0_0 = 0 ∨ w.heap.size ≤ g18_b0_0))) Kw24 (tk1 ((pv_1 (A := (fun x => w.heap.size ≤ x)) Fw19_1 (pv_1 (A := (fun x => w.heap.size ≤ x)) f18_b0_0 (pv_1 (A := (fun x => w.heap.size ≤ x)) f17_b0_0 (pv_1 (A := (fun x => w.heap.size ≤ x)) Fw11_1 (pv_1 (A := (fun x => w.heap.size ≤ x)) f10_b0_0 (pv_1 (A := (fun x => w.heap.size ≤ x)) f9_b0_0 (pv_1 (A := (fun x => w.heap.size ≤ x)) f3_b0_0 (.inl rfl)))))))) : zy25 = 0 ∨ w.heap.size ≤ gy25))) Kw25 (tk1 ((pv_1 (A := (fun x => w.heap.size ≤ x)) f24_b0_0 (pv_1 (A := (fun x => w.heap.size ≤ x)) Fw19_1 (pv_1 (A := (fun x => w.heap.size ≤ x)) f18_b0_0 (pv_1 (A := (fun x => w.heap.size ≤ x)) f17_b0_0 (pv_1 (A := (fun x => w.heap.size ≤ x)) Fw11_1 (pv_1 (A := (fun x => w.heap.size ≤ x)) f10_b0_0 (pv_1 (A := (fun x => w.heap.size ≤ x)) f9_b0_0 (pv_1 (A := (fun x => w.heap.size ≤ x)) f3_b0_0 (.inl rfl))))))))) : z24_b0_0 = 0 ∨ w.heap.size ≤ g24_b0_0)))
            have hr := Option.some.inj hm
            subst hr
            refine ⟨_, _, rfl, res_1 rfl (rv_tmp rfl), ?_⟩
            exact ⟨u25_b0_0, z25_b0_0, g25_b0_0, rfl, O25_b0_0, ⟨(pv_1 (A := (fun x => w.heap.size ≤ x)) f25_b0_0 (pv_1 (A := (fun x => w.heap.size ≤ x)) f24_b0_0 (pv_1 (A := (fun x => w.heap.size ≤ x)) Fw19_1 (pv_1 (A := (fun x => w.heap.size ≤ x)) f18_b0_0 (pv_1 (A := (fun x => w.heap.size ≤ x)) f17_b0_0 (pv_1 (A := (fun x => w.heap.size ≤ x)) Fw11_1 (pv_1 (A := (fun x => w.heap.size ≤ x)) f10_b0_0 (pv_1 (A := (fun x => w.heap.size ≤ x)) f9_b0_0 (pv_1 (A := (fun x => w.heap.size ≤ x)) f3_b0_0 (.inl rfl))))))))))⟩, X90⟩

set_option maxHeartbeats 2000000 in
theorem epoch_Encode_w (p0 : TPacket) (vp0_2 : Value) (zp0_2 gp0_2 op0_2 : Nat) (vp0_4 : Value) (zp0_4 gp0_4 op0_4 : Nat) (vp0_39 : Value) (zp0_39 gp0_39 op0_39 : Nat) (r : List (BitVec 8) × Int) (hm : epoch_Encode p0 = some r) (w : World) (hp0_2 : Rd w zp0_2 gp0_2 op0_2 18 vp0_2 (p0.Head.Items.map TItem.cs)) (hp0_4 : Rd w zp0_4 gp0_4 op0_4 2 vp0_4 (p0.Head.Points.map TPoint.cs)) (hp0_39 : Rd w zp0_39 gp0_39 op0_39 1 vp0_39 (p0.Data.map bvc))  :
    Calls Try.prog 5 [.agg (TPacket.cs p0 vp0_2 vp0_4 vp0_39).toArray].toArray w fun e w' => ∃ v, e = .returned v ∧ (∃ (ur0_s : Value) (zr0_s : Nat) (gr0_s : Nat), v = .tuple [ur0_s, .int .i64 r.2].toArray ∧ Own w' zr0_s gr0_s 5 1 ur0_s (r.1.map bvc) ∧ Hdn (zr0_s = 0 ∨ w.heap.size ≤ gr0_s) ∧ Gr w w') := by
  have lt1 := hp0_2.lth
  have lt2 := hp0_4.lth
  have lt3 := hp0_39.lth
  unfold epoch_Encode at hm
  refine calls_of_sw (R := fun v w' => ∃ (ur0_s : Value) (zr0_s : Nat) (gr0_s : Nat), v = .tuple [ur0_s, .int .i64 r.2].toArray ∧ Own w' zr0_s gr0_s 5 1 ur0_s (r.1.map bvc) ∧ Hdn (zr0_s = 0 ∨ w.heap.size ≤ gr0_s) ∧ Gr w w') 15 Try.func5 rfl rfl rfl ?_
  refine sw_seq ?_
  -- region 0 bytes.go:71
  refine sw_region [(0, 0), (1, 0), (2, 0)] rfl rfl rfl ?_
  refine sd_ev rfl rfl rfl (ev_box (cs := TPacket.cs p0 vp0_2 vp0_4 vp0_39) rfl rfl) ?_
  rintro _ w1 ⟨b1, rfl, hbw1, Bw1, Gw1⟩
  have z4 := Gw1.size
  have lt5 := Bw1.lt
  refine sd_vv rfl rfl rfl (vv_assign rfl) ?_
  refine sd_vv rfl rfl rfl (vv_assign rfl) ?_
  refine sd_done ?_
  refine sw_seq ?_
  refine sw_seq ?_
  -- region 1 bytes.go:72
  refine sw_region [(0, 0), (1, 0), (2, 0)] rfl rfl rfl ?_
  refine sd_vv rfl rfl rfl (vv_loadW agg_31 rfl Bw1 rfl) ?_
  have B6 := (Rd.gr hp0_2 Gw1)
  have B7 := (Rd.gr hp0_4 Gw1)
  have B8 := (Rd.gr hp0_39 Gw1)
  have hb := bnd hm; clear hm; obtain ⟨x1, hx1, hm⟩ := hb
  refine sd_ev rfl rfl rfl (ev_call en_9 rfl (epoch_CheckPacket_w p0 _ _ _ _ _ _ _ _ _ _ _ _ _ hx1 _ B6 B7 B8)) ?_
  rintro _ w2 ⟨rfl, Gw2⟩
  have z9 := Gw2.size
  refine sd_vv rfl rfl rfl (vv_assign rfl) ?_
  refine sd_done ?_
  refine sw_seq ?_
  -- region 2 bytes.go:72
  refine sw_region [(0, 0), (1, 0)] rfl rfl rfl ?_
  refine sd_vv rfl rfl rfl (vv_move rfl) ?_
  refine sd_vv rfl rfl rfl (vv_neq (a := x1) (b := 0) rfl rfl) ?_
  refine sd_done ?_
  refine sw_cond rfl (fun c1 => ?_) (fun c1 => ?_)
  ·
    replace hm := ite_t (of_decide_eq_true c1) hm
    refine sw_seq ?_
    -- region 3 bytes.go:73
    refine sw_region [(0, 0), (1, 0), (2, 0)] rfl rfl rfl ?_
    refine sd_vv rfl rfl rfl (vv_move rfl) ?_
    refine sd_vv rfl rfl rfl (vv_assign rfl) ?_
    refine sd_vv rfl rfl rfl (vv_assign rfl) ?_
    refine sd_done ?_
    refine sw_ret ?_
    refine then_r ?_
    have X10 : Gr w w2 := (Gr.trans (Gr.trans (Gr.refl w) Gw1) Gw2)
    have hr := Option.some.inj hm
    subst hr
    refine ⟨_, _, rfl, res_2 rfl (rv_tmp rfl) (rv_tmp rfl), ?_⟩
    exact ⟨(.slice none 0 0), 0, 0, rfl, (own_nil _ 0 5 1), ⟨.inl rfl⟩, X10⟩
  ·
    replace hm := ite_f (of_decide_eq_false c1) hm
    refine sw_skip ?_
    refine then_n ?_
    refine sw_seq ?_
    -- region 4 bytes.go:75 DRAWS
    refine sw_drawN [([])] [] (.leaf [(0, 10), (2, 10), (3, 10), (1, 0), (4, 0), (5, 10), (6, 10)]) (by kernel_rfl) (by kernel_rfl) rfl (by kernel_rfl) ?_
    intro w3 Gw3 zw3
    refine sdz_leaf ?_
    have B11 := (Bx.gr (Bx.gr Bw1 Gw2) Gw3)
    refine dd_hn 0 rfl rfl rfl rfl (Kp.refl ([]) w3) (fun w hS => vv_loadW agg_31 rfl (Bx.kp B11 hS) rfl) ?_
    refine dd_hn 0 rfl rfl rfl rfl (Kp.refl ([]) w3) (fun w hS => vv_fieldAddr fa_31_6 rfl) ?_
    have Rk12 := rd_key (o := 40) (p := p0.Mac) B11 rfl
    have lt13 := Rk12.lth
    refine dd_hn 0 rfl rfl rfl rfl (Kp.refl ([]) w3) (fun w hS => vv_sliceA (n := 16) (l := 0) (h := 16) Try.underlying26 (one_5).siz rfl rfl rfl (by decide) (by decide) (by decide)) ?_
    have B14 := (Rd.gr (Rd.gr B6 Gw2) Gw3)
    have B15 := (Rd.gr (Rd.gr B7 Gw2) Gw3)
    have B16 := (Rd.gr (Rd.gr B8 Gw2) Gw3)
    have hb := bnd hm; clear hm; obtain ⟨x2, hx2, hm⟩ := hb
    refine dd_z [] rfl rfl rfl (ev_call en_12 rfl (epoch_body_w p0 _ _ _ _ _ _ _ _ _ _ _ _ _ hx2 _ B14 B15 B16)) ⟨fun _ => tk0, trivial⟩ ?_
    rintro u4_r0_s w4 ⟨_, z4_r0_s, g4_r0_s, rfl, O4_r0_s, f4_r0_s, Gw4⟩
    have z17 := Gw4.size
    have lt18 := O4_r0_s.lth
    refine ⟨Kz.ofGr Gw4, ?_⟩
    have B19 := (Rd.gr Rk12 Gw4)
    have hb := bnd hm; clear hm; obtain ⟨l3, hl3, hm⟩ := hb
    refine dd_z [(z4_r0_s, g4_r0_s)] rfl rfl rfl (ev_appT (l := x2) (m := kby p0.Mac) (c := bvc) apt_29 rfl rfl O4_r0_s B19 hl3 (by decide)) ⟨fun _ => (tk1 ((pv_0 (A := (fun x => w3.heap.size ≤ x)) f4_r0_s) : z4_r0_s = 0 ∨ w3.heap.size ≤ g4_r0_s)), trivial⟩ ?_
    rintro vw5 w5 ⟨zw5, gw5, Ow5, Aw5, qw5, rw5⟩
    have z20 := Aw5.size
    refine ⟨Kz.ofKa Aw5, ?_⟩
    have S21 := (Kp.ka (Kp.gr (Kp.refl ([]) w3) Gw4) Aw5 (tk1 ((pv_0 (A := (fun x => w3.heap.size ≤ x)) f4_r0_s) : z4_r0_s = 0 ∨ w3.heap.size ≤ g4_r0_s)))
    refine dd_hn 0 rfl rfl rfl rfl S21 (fun w hS => vv_assign rfl) ?_
    refine dd_hn 0 rfl rfl rfl rfl S21 (fun w hS => vv_assign rfl) ?_
    refine sd_done ?_
    refine sw_ret ?_
    have X22 : Gr w w5 := (Gr.ka (Gr.trans (Gr.trans (Gr.trans (Gr.trans (Gr.refl w) Gw1) Gw2) Gw3) Gw4) Aw5 (tk1 ((pv_0 (A := (fun x => w.heap.size ≤ x)) f4_r0_s) : z4_r0_s = 0 ∨ w.heap.size ≤ g4_r0_s)))
    have hr := Option.some.inj hm
    subst hr
    refine ⟨_, _, rfl, res_2 rfl (rv_tmp rfl) (rv_tmp rfl), ?_⟩
    exact ⟨vw5, zw5, gw5, rfl, Ow5, ⟨(pv_app (A := (fun x => w.heap.size ≤ x)) rw5 (pv_0 (A := (fun x => w.heap.size ≤ x)) f4_r0_s))⟩, X22⟩
end Go.Proofs.Ytjdffpglgkefmaa.Mx
