/- Walks that follow mirrors: Wz. Printed by mx.py. -/
import Derived.Test.YtecempahccgijaaMirG
import Derived.Test.YtecempahccgijaaCipC
import Derived.Test.YtecempahccgijaaRef2
import Derived.Test.YtecempahccgijaaBitL
import Derived.Test.YtecempahccgijaaWzM
set_option linter.unusedVariables false
set_option linter.unusedSimpArgs false
set_option maxRecDepth 100000
namespace Go.Proofs.Ytecempahccgijaa.Mx
open Go Go.RowKit Go.Sx
theorem agg_45 : Agg Try.prog 45 6 := fun _ => ⟨by kernel_rfl, by kernel_rfl⟩
theorem agg_47 : Agg Try.prog 47 2 := fun _ => ⟨by kernel_rfl, by kernel_rfl⟩
theorem zv_47 : ZV Try.prog 47 (.agg [.int .i64 0, .int .i64 0].toArray) := fun _ => by kernel_rfl
theorem bsl_48_1 : BSl Try.prog 48 1 47 2 [.int .i64 0, .int .i64 0] := bsl_mk Try.underlying48 (agg_47).siz zv_47 rfl rfl (by kernel_rfl)
theorem zv_134 : ZV Try.prog 134 (.agg [.int .u8 0, .int .i64 0, .int .i64 0].toArray) := fun _ => by kernel_rfl
theorem fa_45_0 : FA Try.prog 45 0 0 := fun _ _ _ => by kernel_rfl
theorem one_5 : One Try.prog 5 := fun _ => ⟨by kernel_rfl, by kernel_rfl⟩
theorem fa_45_1 : FA Try.prog 45 1 1 := fun _ _ _ => by kernel_rfl
theorem one_3 : One Try.prog 3 := fun _ => ⟨by kernel_rfl, by kernel_rfl⟩
theorem zv_45 : ZV Try.prog 45 (.agg [.int .u8 0, .int .i64 0, .int .i64 0, .int .u64 0, .int .u64 0, .int .u64 0].toArray) := fun _ => by kernel_rfl
theorem agg_43 : Agg Try.prog 43 3 := fun _ => ⟨by kernel_rfl, by kernel_rfl⟩
theorem bs_45 : BS Try.prog 45 (fun i => [(0, 1), (1, 1), (2, 1), (3, 3)][i]?) [.int .u8 0, .int .i64 0, .int .i64 0, .int .u64 0, .int .u64 0, .int .u64 0] := bs_mk Try.underlying45 zv_45 ⟨rfl, (one_5).siz, rfl, (one_3).siz, rfl, (one_3).siz, rfl, (agg_43).siz, trivial⟩
theorem one_23 : One Try.prog 23 := fun _ => ⟨by kernel_rfl, by kernel_rfl⟩
theorem eqc_23 : EqC Try.prog 1 23 [.u64] := eqc_int Try.underlying23 one_23
theorem eqc_43 : EqC Try.prog 2 43 [.u64, .u64, .u64] := eqc_struct Try.underlying43 (by kernel_rfl) agg_43 (show EqF _ 1 _ _ _ from (eqf_cons (ks1 := [.u64]) (ks2 := [.u64, .u64]) rfl (by simp) (eqc_23.up (by decide)) (eqf_cons (ks1 := [.u64]) (ks2 := [.u64]) rfl (by simp) (eqc_23.up (by decide)) (eqf_cons (ks1 := [.u64]) (ks2 := []) rfl (by simp) (eqc_23.up (by decide)) (eqf_nil _)))))
theorem eqc_3 : EqC Try.prog 1 3 [.i64] := eqc_int Try.underlying3 one_3
theorem eqc_5 : EqC Try.prog 1 5 [.u8] := eqc_int Try.underlying5 one_5
theorem eqc_45 : EqC Try.prog 3 45 [.u8, .i64, .i64, .u64, .u64, .u64] := eqc_struct Try.underlying45 (by kernel_rfl) agg_45 (show EqF _ 2 _ _ _ from (eqf_cons (ks1 := [.u8]) (ks2 := [.i64, .i64, .u64, .u64, .u64]) rfl (by simp) (eqc_5.up (by decide)) (eqf_cons (ks1 := [.i64]) (ks2 := [.i64, .u64, .u64, .u64]) rfl (by simp) (eqc_3.up (by decide)) (eqf_cons (ks1 := [.i64]) (ks2 := [.u64, .u64, .u64]) rfl (by simp) (eqc_3.up (by decide)) (eqf_cons (ks1 := [.u64, .u64, .u64]) (ks2 := []) rfl (by simp) (eqc_43.up (by decide)) (eqf_nil _))))))
theorem eqt_45 : EqT Try.prog 45 [.u8, .i64, .i64, .u64, .u64, .u64] := ⟨by kernel_rfl, agg_45, 3, by decide, eqc_45⟩
theorem bs_134 : BS Try.prog 134 (fun i => [(0, 1), (1, 1), (2, 1)][i]?) [.int .u8 0, .int .i64 0, .int .i64 0] := bs_mk Try.underlying134 zv_134 ⟨rfl, (one_5).siz, rfl, (one_3).siz, rfl, (one_3).siz, trivial⟩
theorem agg_134 : Agg Try.prog 134 3 := fun _ => ⟨by kernel_rfl, by kernel_rfl⟩
theorem fa_134_2 : FA Try.prog 134 2 2 := fun _ _ _ => by kernel_rfl
theorem fa_134_1 : FA Try.prog 134 1 1 := fun _ _ _ => by kernel_rfl
theorem en_84 : En Try.prog 84 := fun _ _ => by kernel_rfl
theorem fa_47_0 : FA Try.prog 47 0 0 := fun _ _ _ => by kernel_rfl
theorem fa_47_1 : FA Try.prog 47 1 1 := fun _ _ _ => by kernel_rfl
theorem en_123 : En Try.prog 123 := fun _ _ => by kernel_rfl
theorem en_125 : En Try.prog 125 := fun _ _ => by kernel_rfl
theorem fa_134_0 : FA Try.prog 134 0 0 := fun _ _ _ => by kernel_rfl
theorem cv_139_174 : CV Try.prog 139 174 .u64 := fun _ _ _ => by kernel_rfl
theorem en_147 : En Try.prog 147 := fun _ _ => by kernel_rfl
theorem en_105 : En Try.prog 105 := fun _ _ => by kernel_rfl
theorem en_126 : En Try.prog 126 := fun _ _ => by kernel_rfl
theorem en_114 : En Try.prog 114 := fun _ _ => by kernel_rfl
theorem en_128 : En Try.prog 128 := fun _ _ => by kernel_rfl
theorem zv_139 : ZV Try.prog 139 (.int .i64 0) := fun _ => by kernel_rfl
theorem one_139 : One Try.prog 139 := fun _ => ⟨by kernel_rfl, by kernel_rfl⟩
theorem en_77 : En Try.prog 77 := fun _ _ => by kernel_rfl
theorem one_176 : One Try.prog 176 := fun _ => ⟨by kernel_rfl, by kernel_rfl⟩
theorem en_155 : En Try.prog 155 := fun _ _ => by kernel_rfl
theorem en_127 : En Try.prog 127 := fun _ _ => by kernel_rfl
theorem en_80 : En Try.prog 80 := fun _ _ => by kernel_rfl
theorem en_79 : En Try.prog 79 := fun _ _ => by kernel_rfl
theorem en_74 : En Try.prog 74 := fun _ _ => by kernel_rfl
theorem en_112 : En Try.prog 112 := fun _ _ => by kernel_rfl
theorem en_124 : En Try.prog 124 := fun _ _ => by kernel_rfl
theorem zv_3 : ZV Try.prog 3 (.int .i64 0) := fun _ => by kernel_rfl
theorem bsl_61_1 : BSl Try.prog 61 1 3 1 [.int .i64 0] := bsl_mk Try.underlying61 (one_3).siz zv_3 rfl rfl (by kernel_rfl)
theorem apt_61 : ApT Try.prog 61 3 1 8 := apt_mk Try.underlying61 rfl (by kernel_rfl)
theorem en_75 : En Try.prog 75 := fun _ _ => by kernel_rfl
theorem zv_26 : ZV Try.prog 26 (.agg [.int .u8 0, .int .u8 0, .int .u8 0, .int .u8 0, .int .u8 0, .int .u8 0, .int .u8 0, .int .u8 0, .int .u8 0, .int .u8 0, .int .u8 0, .int .u8 0, .int .u8 0, .int .u8 0, .int .u8 0, .int .u8 0].toArray) := fun _ => by kernel_rfl
theorem bz_26 : BZ Try.prog 26 (kv k0) := fun _ => by kernel_rfl
theorem agg_26 : Agg Try.prog 26 16 := fun _ => ⟨by kernel_rfl, by kernel_rfl⟩
theorem cv_139_23 : CV Try.prog 139 23 .u64 := fun _ _ _ => by kernel_rfl
theorem en_86 : En Try.prog 86 := fun _ _ => by kernel_rfl
theorem en_94 : En Try.prog 94 := fun _ _ => by kernel_rfl
theorem en_93 : En Try.prog 93 := fun _ _ => by kernel_rfl
theorem en_135 : En Try.prog 135 := fun _ _ => by kernel_rfl
theorem en_88 : En Try.prog 88 := fun _ _ => by kernel_rfl
theorem agg_74 : Agg Try.prog 74 4 := fun _ => ⟨by kernel_rfl, by kernel_rfl⟩
theorem fa_74_1 : FA Try.prog 74 1 1 := fun _ _ _ => by kernel_rfl
theorem one_70 : One Try.prog 70 := fun _ => ⟨by kernel_rfl, by kernel_rfl⟩
theorem agg_81 : Agg Try.prog 81 18 := fun _ => ⟨by kernel_rfl, by kernel_rfl⟩
theorem zv_81 : ZV Try.prog 81 (.agg [.int .i64 0, .int .i64 0, .int .u8 0, .int .u8 0, .int .u8 0, .int .u8 0, .int .u8 0, .int .u8 0, .int .u8 0, .int .u8 0, .int .u8 0, .int .u8 0, .int .u8 0, .int .u8 0, .int .u8 0, .int .u8 0, .int .u8 0, .int .u8 0].toArray) := fun _ => by kernel_rfl
theorem fa_81_0 : FA Try.prog 81 0 0 := fun _ _ _ => by kernel_rfl
theorem fa_81_1 : FA Try.prog 81 1 1 := fun _ _ _ => by kernel_rfl
theorem en_104 : En Try.prog 104 := fun _ _ => by kernel_rfl
theorem fa_81_2 : FA Try.prog 81 2 2 := fun _ _ _ => by kernel_rfl
theorem en_99 : En Try.prog 99 := fun _ _ => by kernel_rfl

set_option maxHeartbeats 2000000 in
theorem cover_treeOf_w (p0 : TScheme)  (r : Tcover_tree × Bool) (hm : cover_treeOf p0 = some r) (w : World)   :
    Calls Try.prog 84 [.agg (TScheme.cs p0).toArray].toArray w fun e w' => ∃ v, e = .returned v ∧ (v = .tuple [.agg (Tcover_tree.cs r.1).toArray, .bool r.2].toArray ∧ Gr w w') := by
  unfold cover_treeOf at hm
  refine calls_of_sw (R := fun v w' => v = .tuple [.agg (Tcover_tree.cs r.1).toArray, .bool r.2].toArray ∧ Gr w w') 51 Try.func84 rfl rfl rfl ?_
  refine sw_seq ?_
  -- region 0 tree.go:50
  refine sw_region [(0, 0), (1, 0), (2, 0)] rfl rfl rfl ?_
  refine sd_ev rfl rfl rfl (ev_box (cs := TScheme.cs p0) rfl rfl) ?_
  rintro _ w1 ⟨b1, rfl, hbw1, Bw1, Gw1⟩
  have z1 := Gw1.size
  have lt2 := Bw1.lt
  refine sd_ev rfl rfl rfl (ev_alloc (cs := Tcover_tree.cs (Tcover_tree.mk 0#8 0 0)) zv_134 rfl) ?_
  rintro _ w2 ⟨b2, rfl, hbw2, Bw2, Gw2⟩
  have z3 := Gw2.size
  have lt4 := Bw2.lt
  refine sd_vv rfl rfl rfl (vv_assign rfl) ?_
  refine sd_done ?_
  refine sw_seq ?_
  have X5 : Gr w w2 := (Gr.trans (Gr.trans (Gr.refl w) Gw1) Gw2)
  refine sw_joinD (β := Bool) [5, 6, 7, 8, 9, 10, 11, 12, 13, 14, 15, 16, 17, 18, 19, 20, 21, 22, 23, 24, 25, 26, 27, 28, 29, 30, 31] (fun a1 => [(31, .bool a1)]) (fun a1 wr => (cover_treeOf_J1 p0 a1 = some r) ∧ Kz [] w2 wr) ?_ ?_
  · clear hm; rintro a1 w3 ⟨hm, Kw3⟩
    have z6 := Kw3.size
    unfold cover_treeOf_J1 at hm
    refine sw_cond rfl (fun c1 => ?_) (fun c1 => ?_)
    ·
      replace hm := cnd_t c1 hm
      refine sw_seq ?_
      -- region 2 tree.go:52
      refine sw_region [(0, 0), (1, 0), (2, 0)] rfl rfl rfl ?_
      refine sd_vv rfl rfl rfl (vv_build (cs := Tcover_tree.cs (Tcover_tree.mk 0#8 0 0)) bs_134 rfl rfl) ?_
      have B7 := (Bx.kz Bw2 Kw3)
      refine sd_ev rfl rfl rfl (ev_stM (cs' := Tcover_tree.cs (Tcover_tree.mk 0#8 0 0)) (vs := Tcover_tree.cs (Tcover_tree.mk 0#8 0 0)) (agg_134).siz rfl rfl rfl rfl rfl B7 rfl rfl) ?_
      rintro _ w4 ⟨Bw4, Mw4⟩
      have z8 := Mw4.size
      refine sd_vv rfl rfl rfl (vv_assign rfl) ?_
      refine sd_done ?_
      refine sw_ret ?_
      refine then_r ?_
      have X9 : Gr w w4 := (Gr.md (Gr.kz X5 Kw3) Mw4)
      have hr := Option.some.inj hm
      subst hr
      refine ⟨_, _, rfl, res_2 rfl (rv_cellW agg_134 rfl Bw4 rfl) (rv_tmp rfl), ?_⟩
      exact ⟨rfl, X9⟩
    ·
      replace hm := cnd_f c1 hm
      refine sw_skip ?_
      refine then_n ?_
      refine sw_seq ?_
      -- region 3 tree.go:54
      refine sw_region [(0, 0), (1, 0), (2, 0), (3, 0), (4, 0), (5, 0), (6, 0)] rfl rfl rfl ?_
      refine sd_vv rfl rfl rfl (vv_fieldAddr fa_45_0 rfl) ?_
      have B10 := (Bx.kz (Bx.gr Bw1 Gw2) Kw3)
      refine sd_vv rfl rfl rfl (vv_load1 (v := bv p0.Kind) one_5 rfl B10 rfl) ?_
      refine sd_vv rfl rfl rfl (vv_fieldAddr fa_45_1 rfl) ?_
      refine sd_vv rfl rfl rfl (vv_load1 (v := .int .i64 p0.Depth) one_3 rfl B10 rfl) ?_
      refine sd_vv rfl rfl rfl (vv_build (cs := Tcover_tree.cs (Tcover_tree.mk p0.Kind p0.Depth 1)) bs_134 rfl rfl) ?_
      refine sd_ev rfl rfl rfl (ev_alloc (cs := Tcover_tree.cs (Tcover_tree.mk 0#8 0 0)) zv_134 rfl) ?_
      rintro _ w5 ⟨b5, rfl, hbw5, Bw5, Gw5⟩
      have z11 := Gw5.size
      have lt12 := Bw5.lt
      refine sd_ev rfl rfl rfl (ev_stM (cs' := Tcover_tree.cs (Tcover_tree.mk p0.Kind p0.Depth 1)) (vs := Tcover_tree.cs (Tcover_tree.mk p0.Kind p0.Depth 1)) (agg_134).siz rfl rfl rfl rfl rfl Bw5 rfl rfl) ?_
      rintro _ w6 ⟨Bw6, Mw6⟩
      have z13 := Mw6.size
      refine sd_done ?_
      refine sw_seq ?_
      refine sw_block ?_
      have X14 : Gr w w6 := (Gr.md (Gr.trans (Gr.kz X5 Kw3) Gw5) Mw6)
      refine sw_loopD (α := Nat × Int) [38, 39, 40, 41, 42, 43, 44, 45, 46, 47, 48, 49] (fun ⟨n2, a3⟩ => []) (fun ⟨n2, a3⟩ wr => (fixN (cover_treeOf_L2 p0) n2 a3 = some r) ∧ Bx wr b5 134 (Tcover_tree.cs (Tcover_tree.mk p0.Kind p0.Depth a3)) ∧ Kz [(1, b5)] w6 wr) (fun ⟨n2, a3⟩ => n2) ⟨FUEL, 1⟩ ?_ ?_ ?_
      · repeat' first | exact trivial | refine ⟨rfl, ?_⟩
      · exact ⟨hm, Bw6, Kz.refl _ _⟩
      · clear hm; rintro ⟨n2, a3⟩ w7 ⟨hm, Fw7_0, Kw7⟩
        have z15 := Kw7.size
        have lt16 := Fw7_0.lt
        have hb := fix_succ hm; clear hm; obtain ⟨n2, rfl, hm⟩ := hb
        generalize hrec2 : fixN (cover_treeOf_L2 p0) n2 = rec2 at hm
        unfold cover_treeOf_L2 at hm
        try dsimp only at hm
        refine sw_seq ?_
        refine sw_seq ?_
        -- region 4 tree.go:55
        refine sw_region [(0, 0), (1, 0), (2, 0), (3, 0), (4, 0), (5, 0), (6, 0), (7, 0)] rfl rfl rfl ?_
        refine sd_vv rfl rfl rfl (vv_fieldAddr fa_134_2 rfl) ?_
        refine sd_vv rfl rfl rfl (vv_load1 (v := .int .i64 a3) one_3 rfl Fw7_0 rfl) ?_
        refine sd_vv rfl rfl rfl (vv_fieldAddr fa_134_2 rfl) ?_
        refine sd_vv rfl rfl rfl (vv_load1 (v := .int .i64 a3) one_3 rfl Fw7_0 rfl) ?_
        refine sd_vv rfl rfl rfl (vv_mul (k := .i64) (a := a3) (b := a3) rfl rfl) ?_
        refine sd_vv rfl rfl rfl (vv_fieldAddr fa_134_1 rfl) ?_
        refine sd_vv rfl rfl rfl (vv_load1 (v := .int .i64 p0.Depth) one_3 rfl Fw7_0 rfl) ?_
        refine sd_vv rfl rfl rfl (vv_lss (a := w64 (a3 * a3)) (b := p0.Depth) rfl rfl) ?_
        refine sd_done ?_
        refine sw_cond rfl (fun c2 => ?_) (fun c2 => ?_)
        ·
          replace hm := ite_t (of_decide_eq_true c2) hm
          refine sw_skip ?_
          refine then_n ?_
          refine sw_block ?_
          -- region 5 tree.go:56
          refine sw_region [(0, 0), (1, 0), (2, 0), (3, 0), (4, 0)] rfl rfl rfl ?_
          refine sd_vv rfl rfl rfl (vv_fieldAddr fa_134_2 rfl) ?_
          refine sd_vv rfl rfl rfl (vv_load1 (v := .int .i64 a3) one_3 rfl Fw7_0 rfl) ?_
          refine sd_vv rfl rfl rfl (vv_add (k := .i64) (a := a3) (b := 1) rfl rfl) ?_
          refine sd_vv rfl rfl rfl (vv_fieldAddr fa_134_2 rfl) ?_
          refine sd_ev rfl rfl rfl (ev_st1 (cs' := Tcover_tree.cs (Tcover_tree.mk p0.Kind p0.Depth (w64 (a3 + 1)))) (one_3).siz rfl rfl rfl Fw7_0 rfl rfl) ?_
          rintro _ w8 ⟨Bw8, Mw8⟩
          have z17 := Mw8.size
          refine sd_nil ?_
          refine block_n ?_
          have K_18 : Kz [(1, b5)] w6 w8 := (Kz.md Kw7 Mw8)
          subst hrec2
          refine ⟨rfl, ⟨n2, w64 (a3 + 1)⟩, ?_, ⟨hm, Bw8, K_18⟩, Nat.lt_succ_self _⟩
          repeat' first | exact trivial | refine ⟨rfl, ?_⟩
        ·
          replace hm := ite_f (of_decide_eq_false c2) hm
          refine sw_exit ?_
          refine then_x ?_
          refine then_x ?_
          refine block_x ?_
          refine then_n ?_
          refine sw_seq ?_
          -- region 6 tree.go:58
          refine sw_region [(0, 0), (1, 0), (2, 0)] rfl rfl rfl ?_
          refine sd_vv rfl rfl rfl (vv_loadW agg_134 rfl Fw7_0 rfl) ?_
          have B19 := (Bx.kz (Bx.md (Bx.gr (Bx.kz Bw2 Kw3) Gw5) Mw6) Kw7)
          refine sd_ev rfl rfl rfl (ev_stM (cs' := Tcover_tree.cs (Tcover_tree.mk p0.Kind p0.Depth a3)) (vs := Tcover_tree.cs (Tcover_tree.mk p0.Kind p0.Depth a3)) (agg_134).siz rfl rfl rfl rfl rfl B19 rfl rfl) ?_
          rintro _ w9 ⟨Bw9, Mw9⟩
          have z20 := Mw9.size
          refine sd_vv rfl rfl rfl (vv_assign rfl) ?_
          refine sd_done ?_
          refine sw_ret ?_
          have X21 : Gr w w9 := (Gr.md (Gr.kz X14 Kw7) Mw9)
          have hr := Option.some.inj hm
          subst hr
          refine ⟨_, _, rfl, res_2 rfl (rv_cellW agg_134 rfl Bw9 rfl) (rv_tmp rfl), ?_⟩
          exact ⟨rfl, X21⟩
  ·
    -- region 1 tree.go:51
    refine sw_region [(0, 0), (1, 0), (2, 0), (3, 0), (4, 0), (5, 0), (6, 0), (7, 0), (8, 0), (9, 0), (10, 0), (11, 0), (12, 0), (13, 0), (14, 0), (15, 0), (16, 0), (17, 0), (18, 0), (19, 0), (20, 0), (21, 0), (22, 0), (23, 0), (24, 0), (25, 0), (26, 0)] rfl rfl rfl ?_
    refine sd_vv rfl rfl rfl (vv_fieldAddr fa_45_0 rfl) ?_
    have B22 := (Bx.gr Bw1 Gw2)
    refine sd_vv rfl rfl rfl (vv_load1 (v := bv p0.Kind) one_5 rfl B22 rfl) ?_
    refine sd_vv rfl rfl rfl (vv_lssB (p := p0.Kind) (q := 1#8) rfl rfl) ?_
    refine sd_split rfl rfl rfl (vv_move rfl) (fun c3 => ?_) (fun c3 => ?_)
    ·
      replace hm := ite_t (of_decide_eq_true c3) hm
      refine sd_skip rfl rfl rfl ?_
      refine sd_skip rfl rfl rfl ?_
      refine sd_skip rfl rfl rfl ?_
      refine sd_vv rfl rfl rfl (vv_pickT rfl rfl) ?_
      refine sd_vv rfl rfl rfl (vv_move rfl) ?_
      refine sd_skip rfl rfl rfl ?_
      refine sd_skip rfl rfl rfl ?_
      refine sd_skip rfl rfl rfl ?_
      refine sd_vv rfl rfl rfl (vv_pickT rfl rfl) ?_
      refine sd_vv rfl rfl rfl (vv_move rfl) ?_
      refine sd_skip rfl rfl rfl ?_
      refine sd_skip rfl rfl rfl ?_
      refine sd_skip rfl rfl rfl ?_
      refine sd_vv rfl rfl rfl (vv_pickT rfl rfl) ?_
      refine sd_vv rfl rfl rfl (vv_move rfl) ?_
      refine sd_skip rfl rfl rfl ?_
      refine sd_skip rfl rfl rfl ?_
      refine sd_skip rfl rfl rfl ?_
      refine sd_skip rfl rfl rfl ?_
      refine sd_skip rfl rfl rfl ?_
      refine sd_skip rfl rfl rfl ?_
      refine sd_skip rfl rfl rfl ?_
      refine sd_vv rfl rfl rfl (vv_pickT rfl rfl) ?_
      refine sd_nil ?_
      have K_23 : Kz [] w2 w2 := (Kz.refl _ _)
      refine ⟨rfl, true, ?_, hm, K_23⟩
      repeat' first | exact trivial | refine ⟨rfl, ?_⟩
    ·
      replace hm := ite_f (of_decide_eq_false c3) hm
      refine sd_vv rfl rfl rfl (vv_fieldAddr fa_45_0 rfl) ?_
      refine sd_vv rfl rfl rfl (vv_load1 (v := bv p0.Kind) one_5 rfl B22 rfl) ?_
      refine sd_vv rfl rfl rfl (vv_gtrB (p := p0.Kind) (q := 3#8) rfl rfl) ?_
      refine sd_vv rfl rfl rfl (vv_pickF rfl rfl) ?_
      refine sd_split rfl rfl rfl (vv_move rfl) (fun c4 => ?_) (fun c4 => ?_)
      ·
        replace hm := ite_t (of_decide_eq_true c4) hm
        refine sd_skip rfl rfl rfl ?_
        refine sd_skip rfl rfl rfl ?_
        refine sd_skip rfl rfl rfl ?_
        refine sd_vv rfl rfl rfl (vv_pickT rfl rfl) ?_
        refine sd_vv rfl rfl rfl (vv_move rfl) ?_
        refine sd_skip rfl rfl rfl ?_
        refine sd_skip rfl rfl rfl ?_
        refine sd_skip rfl rfl rfl ?_
        refine sd_vv rfl rfl rfl (vv_pickT rfl rfl) ?_
        refine sd_vv rfl rfl rfl (vv_move rfl) ?_
        refine sd_skip rfl rfl rfl ?_
        refine sd_skip rfl rfl rfl ?_
        refine sd_skip rfl rfl rfl ?_
        refine sd_skip rfl rfl rfl ?_
        refine sd_skip rfl rfl rfl ?_
        refine sd_skip rfl rfl rfl ?_
        refine sd_skip rfl rfl rfl ?_
        refine sd_vv rfl rfl rfl (vv_pickT rfl rfl) ?_
        refine sd_nil ?_
        have K_24 : Kz [] w2 w2 := (Kz.refl _ _)
        refine ⟨rfl, true, ?_, hm, K_24⟩
        repeat' first | exact trivial | refine ⟨rfl, ?_⟩
      ·
        replace hm := ite_f (of_decide_eq_false c4) hm
        refine sd_vv rfl rfl rfl (vv_fieldAddr fa_45_1 rfl) ?_
        refine sd_vv rfl rfl rfl (vv_load1 (v := .int .i64 p0.Depth) one_3 rfl B22 rfl) ?_
        refine sd_vv rfl rfl rfl (vv_lss (a := p0.Depth) (b := 0) rfl rfl) ?_
        refine sd_vv rfl rfl rfl (vv_pickF rfl rfl) ?_
        refine sd_split rfl rfl rfl (vv_move rfl) (fun c5 => ?_) (fun c5 => ?_)
        ·
          replace hm := ite_t (of_decide_eq_true c5) hm
          refine sd_skip rfl rfl rfl ?_
          refine sd_skip rfl rfl rfl ?_
          refine sd_skip rfl rfl rfl ?_
          refine sd_vv rfl rfl rfl (vv_pickT rfl rfl) ?_
          refine sd_vv rfl rfl rfl (vv_move rfl) ?_
          refine sd_skip rfl rfl rfl ?_
          refine sd_skip rfl rfl rfl ?_
          refine sd_skip rfl rfl rfl ?_
          refine sd_skip rfl rfl rfl ?_
          refine sd_skip rfl rfl rfl ?_
          refine sd_skip rfl rfl rfl ?_
          refine sd_skip rfl rfl rfl ?_
          refine sd_vv rfl rfl rfl (vv_pickT rfl rfl) ?_
          refine sd_nil ?_
          have K_25 : Kz [] w2 w2 := (Kz.refl _ _)
          refine ⟨rfl, true, ?_, hm, K_25⟩
          repeat' first | exact trivial | refine ⟨rfl, ?_⟩
        ·
          replace hm := ite_f (of_decide_eq_false c5) hm
          refine sd_vv rfl rfl rfl (vv_fieldAddr fa_45_1 rfl) ?_
          refine sd_vv rfl rfl rfl (vv_load1 (v := .int .i64 p0.Depth) one_3 rfl B22 rfl) ?_
          refine sd_vv rfl rfl rfl (vv_gtr (a := p0.Depth) (b := 6) rfl rfl) ?_
          refine sd_vv rfl rfl rfl (vv_pickF rfl rfl) ?_
          refine sd_split rfl rfl rfl (vv_move rfl) (fun c6 => ?_) (fun c6 => ?_)
          ·
            replace hm := ite_t (of_decide_eq_true c6) hm
            refine sd_skip rfl rfl rfl ?_
            refine sd_skip rfl rfl rfl ?_
            refine sd_skip rfl rfl rfl ?_
            refine sd_skip rfl rfl rfl ?_
            refine sd_skip rfl rfl rfl ?_
            refine sd_skip rfl rfl rfl ?_
            refine sd_skip rfl rfl rfl ?_
            refine sd_vv rfl rfl rfl (vv_pickT rfl rfl) ?_
            refine sd_nil ?_
            have K_26 : Kz [] w2 w2 := (Kz.refl _ _)
            refine ⟨rfl, true, ?_, hm, K_26⟩
            repeat' first | exact trivial | refine ⟨rfl, ?_⟩
          ·
            replace hm := ite_f (of_decide_eq_false c6) hm
            refine sd_vv rfl rfl rfl (vv_loadW agg_45 rfl B22 rfl) ?_
            refine sd_vv rfl rfl rfl (vv_fieldAddr fa_45_0 rfl) ?_
            refine sd_vv rfl rfl rfl (vv_load1 (v := bv p0.Kind) one_5 rfl B22 rfl) ?_
            refine sd_vv rfl rfl rfl (vv_fieldAddr fa_45_1 rfl) ?_
            refine sd_vv rfl rfl rfl (vv_load1 (v := .int .i64 p0.Depth) one_3 rfl B22 rfl) ?_
            refine sd_vv rfl rfl rfl (vv_build (cs := TScheme.cs (TScheme.mk p0.Kind p0.Depth 0 (TGroup.mk 0#64 0#64 0#64))) bs_45 rfl rfl) ?_
            refine sd_vv rfl rfl rfl (vv_neqS (cf := TScheme.cs) (a := p0) (b := (TScheme.mk p0.Kind p0.Depth 0 (TGroup.mk 0#64 0#64 0#64))) eqt_45 rfl rfl rfl rfl (fun h => TScheme.cs_inj h)) ?_
            refine sd_vv rfl rfl rfl (vv_pickF rfl rfl) ?_
            refine sd_nil ?_
            have K_27 : Kz [] w2 w2 := (Kz.refl _ _)
            refine ⟨rfl, (decide (p0 ≠ (TScheme.mk p0.Kind p0.Depth 0 (TGroup.mk 0#64 0#64 0#64)))), ?_, hm, K_27⟩
            repeat' first | exact trivial | refine ⟨rfl, ?_⟩

set_option maxHeartbeats 2000000 in
theorem cover_tree_size_w (p0 : Tcover_tree)  (r : Int) (hm : cover_tree_size p0 = some r) (w : World)   :
    Calls Try.prog 123 [.agg (Tcover_tree.cs p0).toArray].toArray w fun e w' => ∃ v, e = .returned v ∧ (v = .int .i64 r ∧ Gr w w') := by
  unfold cover_tree_size at hm
  refine calls_of_sw (R := fun v w' => v = .int .i64 r ∧ Gr w w') 6 Try.func123 rfl rfl rfl ?_
  refine sw_seq ?_
  -- region 0 tree.go:62
  refine sw_region [(0, 0), (1, 0)] rfl rfl rfl ?_
  refine sd_ev rfl rfl rfl (ev_box (cs := Tcover_tree.cs p0) rfl rfl) ?_
  rintro _ w1 ⟨b1, rfl, hbw1, Bw1, Gw1⟩
  have z1 := Gw1.size
  have lt2 := Bw1.lt
  refine sd_vv rfl rfl rfl (vv_assign rfl) ?_
  refine sd_done ?_
  refine sw_seq ?_
  -- region 1 tree.go:62
  refine sw_region [(0, 0), (1, 0), (2, 0), (3, 0)] rfl rfl rfl ?_
  refine sd_vv rfl rfl rfl (vv_fieldAddr fa_134_1 rfl) ?_
  refine sd_vv rfl rfl rfl (vv_load1 (v := .int .i64 p0.depth) one_3 rfl Bw1 rfl) ?_
  have hb := bnd hm; clear hm; obtain ⟨n1, hn1, hm⟩ := hb
  refine sd_vv rfl rfl rfl (vv_shlI (a := 1) (b := p0.depth) rfl rfl hn1) ?_
  refine sd_vv rfl rfl rfl (vv_assign rfl) ?_
  refine sd_done ?_
  refine sw_ret ?_
  have X3 : Gr w w1 := (Gr.trans (Gr.refl w) Gw1)
  have hr := Option.some.inj hm
  subst hr
  refine ⟨_, _, rfl, res_1 rfl (rv_tmp rfl), ?_⟩
  exact ⟨rfl, X3⟩

set_option maxHeartbeats 2000000 in
theorem cover_tree_has_w (p0 : Tcover_tree) (p1 : Int)  (r : Bool) (hm : cover_tree_has p0 p1 = some r) (w : World)   :
    Calls Try.prog 125 [.agg (Tcover_tree.cs p0).toArray, .int .i64 p1].toArray w fun e w' => ∃ v, e = .returned v ∧ (v = .bool r ∧ Gr w w') := by
  unfold cover_tree_has at hm
  refine calls_of_sw (R := fun v w' => v = .bool r ∧ Gr w w') 14 Try.func125 rfl rfl rfl ?_
  refine sw_seq ?_
  -- region 0 tree.go:68
  refine sw_region [(0, 0), (1, 0)] rfl rfl rfl ?_
  refine sd_ev rfl rfl rfl (ev_box (cs := Tcover_tree.cs p0) rfl rfl) ?_
  rintro _ w1 ⟨b1, rfl, hbw1, Bw1, Gw1⟩
  have z1 := Gw1.size
  have lt2 := Bw1.lt
  refine sd_vv rfl rfl rfl (vv_assign rfl) ?_
  refine sd_done ?_
  refine sw_seq ?_
  -- region 1 tree.go:68
  refine sw_region [(0, 0), (1, 0), (2, 0), (3, 0), (4, 0), (5, 0), (6, 0), (7, 0), (8, 0), (9, 0)] rfl rfl rfl ?_
  refine sd_vv rfl rfl rfl (vv_move rfl) ?_
  refine sd_vv rfl rfl rfl (vv_geq (a := p1) (b := 1) rfl rfl) ?_
  refine sd_split rfl rfl rfl (vv_move rfl) (fun c1 => ?_) (fun c1 => ?_)
  ·
    replace hm := ite_t (of_decide_eq_true c1) hm
    refine sd_vv rfl rfl rfl (vv_move rfl) ?_
    refine sd_vv rfl rfl rfl (vv_loadW agg_134 rfl Bw1 rfl) ?_
    have hb := bnd hm; clear hm; obtain ⟨x1, hx1, hm⟩ := hb
    refine sd_ev rfl rfl rfl (ev_call en_123 rfl (cover_tree_size_w p0 _ hx1 _)) ?_
    rintro _ w2 ⟨rfl, Gw2⟩
    have z3 := Gw2.size
    refine sd_vv rfl rfl rfl (vv_mul (k := .i64) (a := 2) (b := x1) rfl rfl) ?_
    refine sd_vv rfl rfl rfl (vv_lss (a := p1) (b := w64 (2 * x1)) rfl rfl) ?_
    refine sd_vv rfl rfl rfl (vv_pickT rfl rfl) ?_
    refine sd_vv rfl rfl rfl (vv_assign rfl) ?_
    refine sd_done ?_
    refine sw_ret ?_
    have X4 : Gr w w2 := (Gr.trans (Gr.trans (Gr.refl w) Gw1) Gw2)
    have hr := Option.some.inj hm
    subst hr
    refine ⟨_, _, rfl, res_1 rfl (rv_tmp rfl), ?_⟩
    exact ⟨rfl, X4⟩
  ·
    replace hm := ite_f (of_decide_eq_false c1) hm
    refine sd_skip rfl rfl rfl ?_
    refine sd_skip rfl rfl rfl ?_
    refine sd_skip rfl rfl rfl ?_
    refine sd_skip rfl rfl rfl ?_
    refine sd_skip rfl rfl rfl ?_
    refine sd_vv rfl rfl rfl (vv_pickF rfl rfl) ?_
    refine sd_vv rfl rfl rfl (vv_assign rfl) ?_
    refine sd_done ?_
    refine sw_ret ?_
    have X5 : Gr w w1 := (Gr.trans (Gr.refl w) Gw1)
    have hr := Option.some.inj hm
    subst hr
    refine ⟨_, _, rfl, res_1 rfl (rv_tmp rfl), ?_⟩
    exact ⟨rfl, X5⟩

set_option maxHeartbeats 2000000 in
theorem cover_node_level_w (p0 : Int)  (r : Int) (hm : cover_node_level p0 = some r) (w : World)   :
    Calls Try.prog 105 [.int .i64 p0].toArray w fun e w' => ∃ v, e = .returned v ∧ (v = .int .i64 r ∧ Gr w w') := by
  unfold cover_node_level at hm
  refine calls_of_sw (R := fun v w' => v = .int .i64 r ∧ Gr w w') 7 Try.func105 rfl rfl rfl ?_
  refine sw_seq ?_
  -- region 0 tree.go:14
  refine sw_region [(0, 0)] rfl rfl rfl ?_
  refine sd_vv rfl rfl rfl (vv_assign rfl) ?_
  refine sd_done ?_
  refine sw_seq ?_
  -- region 1 tree.go:14
  refine sw_region [(0, 0), (1, 0), (2, 0), (3, 0), (4, 0)] rfl rfl rfl ?_
  refine sd_vv rfl rfl rfl (vv_move rfl) ?_
  refine sd_vv rfl rfl rfl (vv_cvIU cv_139_174 rfl) ?_
  refine sd_ev rfl rfl rfl (ev_call en_147 rfl (len_c (un (wd p0)) (un_nonneg _) (by have := un_le (wd p0); omega) _)) ?_
  rintro _ w1 ⟨rfl, Gw1⟩
  have z1 := Gw1.size
  refine sd_vv rfl rfl rfl (vv_sub (k := .i64) (a := lg (un (wd p0))) (b := 1) rfl rfl) ?_
  refine sd_vv rfl rfl rfl (vv_assign rfl) ?_
  refine sd_done ?_
  refine sw_ret ?_
  have X2 : Gr w w1 := (Gr.trans (Gr.refl w) Gw1)
  have hr := Option.some.inj hm
  subst hr
  refine ⟨_, _, rfl, res_1 rfl (rv_tmp rfl), ?_⟩
  exact ⟨rfl, X2⟩

set_option maxHeartbeats 2000000 in
theorem cover_node_below_w (p0 : Int) (p1 : Int)  (r : Bool) (hm : cover_node_below p0 p1 = some r) (w : World)   :
    Calls Try.prog 126 [.int .i64 p0, .int .i64 p1].toArray w fun e w' => ∃ v, e = .returned v ∧ (v = .bool r ∧ Gr w w') := by
  unfold cover_node_below at hm
  refine calls_of_sw (R := fun v w' => v = .bool r ∧ Gr w w') 27 Try.func126 rfl rfl rfl ?_
  refine sw_seq ?_
  -- region 0 tree.go:17
  refine sw_region [(0, 0)] rfl rfl rfl ?_
  refine sd_vv rfl rfl rfl (vv_assign rfl) ?_
  refine sd_done ?_
  refine sw_seq ?_
  refine sw_joinD (β := Bool) [5, 6, 7, 8, 9, 10, 11, 12, 13, 14, 15, 16, 17] (fun a1 => [(17, .bool a1)]) (fun a1 wr => (cover_node_below_J1 p0 p1 a1 = some r) ∧ Kz [] w wr) ?_ ?_
  · clear hm; rintro a1 w1 ⟨hm, Kw1⟩
    have z1 := Kw1.size
    unfold cover_node_below_J1 at hm
    refine sw_cond rfl (fun c1 => ?_) (fun c1 => ?_)
    ·
      replace hm := cnd_t c1 hm
      refine sw_seq ?_
      -- region 2 tree.go:19
      refine sw_region [(0, 0)] rfl rfl rfl ?_
      refine sd_vv rfl rfl rfl (vv_assign rfl) ?_
      refine sd_done ?_
      refine sw_ret ?_
      refine then_r ?_
      have X2 : Gr w w1 := (Gr.kz (Gr.refl w) Kw1)
      have hr := Option.some.inj hm
      subst hr
      refine ⟨_, _, rfl, res_1 rfl (rv_tmp rfl), ?_⟩
      exact ⟨rfl, X2⟩
    ·
      replace hm := cnd_f c1 hm
      refine sw_skip ?_
      refine then_n ?_
      refine sw_seq ?_
      -- region 3 tree.go:21
      refine sw_region [(0, 0), (1, 0), (2, 0), (3, 0), (4, 0), (5, 0), (6, 0), (7, 0), (8, 0), (9, 0)] rfl rfl rfl ?_
      refine sd_vv rfl rfl rfl (vv_move rfl) ?_
      refine sd_vv rfl rfl rfl (vv_move rfl) ?_
      have hb := bnd hm; clear hm; obtain ⟨x2, hx2, hm⟩ := hb
      refine sd_ev rfl rfl rfl (ev_call en_105 rfl (cover_node_level_w p0 _ hx2 _)) ?_
      rintro _ w2 ⟨rfl, Gw2⟩
      have z3 := Gw2.size
      refine sd_vv rfl rfl rfl (vv_move rfl) ?_
      have hb := bnd hm; clear hm; obtain ⟨x3, hx3, hm⟩ := hb
      refine sd_ev rfl rfl rfl (ev_call en_105 rfl (cover_node_level_w p1 _ hx3 _)) ?_
      rintro _ w3 ⟨rfl, Gw3⟩
      have z4 := Gw3.size
      refine sd_vv rfl rfl rfl (vv_sub (k := .i64) (a := x2) (b := x3) rfl rfl) ?_
      have hb := bnd hm; clear hm; obtain ⟨n4, hn4, hm⟩ := hb
      refine sd_vv rfl rfl rfl (vv_shrI (a := p0) (b := (w64 (x2 - x3))) rfl rfl hn4) ?_
      refine sd_vv rfl rfl rfl (vv_move rfl) ?_
      refine sd_vv rfl rfl rfl (vv_eql (a := shrI p0 n4) (b := p1) rfl rfl) ?_
      refine sd_vv rfl rfl rfl (vv_assign rfl) ?_
      refine sd_done ?_
      refine sw_ret ?_
      have X5 : Gr w w3 := (Gr.trans (Gr.trans (Gr.kz (Gr.refl w) Kw1) Gw2) Gw3)
      have hr := Option.some.inj hm
      subst hr
      refine ⟨_, _, rfl, res_1 rfl (rv_tmp rfl), ?_⟩
      exact ⟨rfl, X5⟩
  ·
    -- region 1 tree.go:18
    refine sw_region [(0, 0), (1, 0), (2, 0), (3, 0), (4, 0), (5, 0), (6, 0), (7, 0), (8, 0), (9, 0), (10, 0), (11, 0), (12, 0)] rfl rfl rfl ?_
    refine sd_vv rfl rfl rfl (vv_move rfl) ?_
    refine sd_vv rfl rfl rfl (vv_lss (a := p0) (b := 1) rfl rfl) ?_
    refine sd_split rfl rfl rfl (vv_move rfl) (fun c2 => ?_) (fun c2 => ?_)
    ·
      replace hm := ite_t (of_decide_eq_true c2) hm
      refine sd_skip rfl rfl rfl ?_
      refine sd_skip rfl rfl rfl ?_
      refine sd_vv rfl rfl rfl (vv_pickT rfl rfl) ?_
      refine sd_vv rfl rfl rfl (vv_move rfl) ?_
      refine sd_skip rfl rfl rfl ?_
      refine sd_skip rfl rfl rfl ?_
      refine sd_skip rfl rfl rfl ?_
      refine sd_skip rfl rfl rfl ?_
      refine sd_skip rfl rfl rfl ?_
      refine sd_vv rfl rfl rfl (vv_pickT rfl rfl) ?_
      refine sd_nil ?_
      have K_6 : Kz [] w w := (Kz.refl _ _)
      refine ⟨rfl, true, ?_, hm, K_6⟩
      repeat' first | exact trivial | refine ⟨rfl, ?_⟩
    ·
      replace hm := ite_f (of_decide_eq_false c2) hm
      refine sd_vv rfl rfl rfl (vv_move rfl) ?_
      refine sd_vv rfl rfl rfl (vv_lss (a := p1) (b := 1) rfl rfl) ?_
      refine sd_vv rfl rfl rfl (vv_pickF rfl rfl) ?_
      refine sd_split rfl rfl rfl (vv_move rfl) (fun c3 => ?_) (fun c3 => ?_)
      ·
        replace hm := ite_t (of_decide_eq_true c3) hm
        refine sd_skip rfl rfl rfl ?_
        refine sd_skip rfl rfl rfl ?_
        refine sd_skip rfl rfl rfl ?_
        refine sd_skip rfl rfl rfl ?_
        refine sd_skip rfl rfl rfl ?_
        refine sd_vv rfl rfl rfl (vv_pickT rfl rfl) ?_
        refine sd_nil ?_
        have K_7 : Kz [] w w := (Kz.refl _ _)
        refine ⟨rfl, true, ?_, hm, K_7⟩
        repeat' first | exact trivial | refine ⟨rfl, ?_⟩
      ·
        replace hm := ite_f (of_decide_eq_false c3) hm
        refine sd_vv rfl rfl rfl (vv_move rfl) ?_
        have hb := bnd hm; clear hm; obtain ⟨x5, hx5, hm⟩ := hb
        refine sd_ev rfl rfl rfl (ev_call en_105 rfl (cover_node_level_w p0 _ hx5 _)) ?_
        rintro _ w4 ⟨rfl, Gw4⟩
        have z8 := Gw4.size
        refine sd_vv rfl rfl rfl (vv_move rfl) ?_
        have hb := bnd hm; clear hm; obtain ⟨x6, hx6, hm⟩ := hb
        refine sd_ev rfl rfl rfl (ev_call en_105 rfl (cover_node_level_w p1 _ hx6 _)) ?_
        rintro _ w5 ⟨rfl, Gw5⟩
        have z9 := Gw5.size
        refine sd_vv rfl rfl rfl (vv_lss (a := x5) (b := x6) rfl rfl) ?_
        refine sd_vv rfl rfl rfl (vv_pickF rfl rfl) ?_
        refine sd_nil ?_
        have K_10 : Kz [] w w5 := (Kz.gr (Kz.gr (Kz.refl _ _) Gw4) Gw5)
        refine ⟨rfl, (decide (x5 < x6)), ?_, hm, K_10⟩
        repeat' first | exact trivial | refine ⟨rfl, ?_⟩

set_option maxHeartbeats 2000000 in
theorem cover_tree_special_w (p0 : Tcover_tree) (p1 : Int)  (r : Bool) (hm : cover_tree_special p0 p1 = some r) (w : World)   :
    Calls Try.prog 114 [.agg (Tcover_tree.cs p0).toArray, .int .i64 p1].toArray w fun e w' => ∃ v, e = .returned v ∧ (v = .bool r ∧ Gr w w') := by
  unfold cover_tree_special at hm
  refine calls_of_sw (R := fun v w' => v = .bool r ∧ Gr w w') 11 Try.func114 rfl rfl rfl ?_
  refine sw_seq ?_
  -- region 0 tree.go:84
  refine sw_region [(0, 0), (1, 0)] rfl rfl rfl ?_
  refine sd_ev rfl rfl rfl (ev_box (cs := Tcover_tree.cs p0) rfl rfl) ?_
  rintro _ w1 ⟨b1, rfl, hbw1, Bw1, Gw1⟩
  have z1 := Gw1.size
  have lt2 := Bw1.lt
  refine sd_vv rfl rfl rfl (vv_assign rfl) ?_
  refine sd_done ?_
  refine sw_seq ?_
  -- region 1 tree.go:84 DRAWS
  refine sw_drawN [([])] [] (.leaf [(0, 10), (2, 10), (3, 10), (1, 0), (4, 10), (5, 10), (6, 10)]) (by kernel_rfl) (by kernel_rfl) rfl (by kernel_rfl) ?_
  intro w2 Gw2 zw2
  refine sdz_leaf ?_
  refine dd_hn 0 rfl rfl rfl rfl (Kp.refl ([]) w2) (fun w hS => vv_move rfl) ?_
  refine dd_hn 0 rfl rfl rfl rfl (Kp.refl ([]) w2) (fun w hS => vv_fieldAddr fa_134_2 rfl) ?_
  have B3 := (Bx.gr Bw1 Gw2)
  refine dd_hn 0 rfl rfl rfl rfl (Kp.refl ([]) w2) (fun w hS => vv_load1 (v := .int .i64 p0.stride) one_3 rfl (Bx.kp B3 hS) rfl) ?_
  have hb := bnd hm; clear hm; obtain ⟨x1, hx1, hm⟩ := hb
  refine dd_z [] rfl rfl rfl (ev_call en_105 rfl (cover_node_level_w p1 _ hx1 _)) ⟨fun _ => tk0, trivial⟩ ?_
  rintro _ w3 ⟨rfl, Gw3⟩
  have z4 := Gw3.size
  refine ⟨Kz.ofGr Gw3, ?_⟩
  have hb := bnd hm; clear hm; obtain ⟨x2, hx2, hm⟩ := hb
  have S5 := (Kp.gr (Kp.refl ([]) w2) Gw3)
  refine dd_hn 0 rfl rfl rfl rfl S5 (fun w hS => vv_remI (a := x1) (b := p0.stride) rfl rfl hx2) ?_
  refine dd_hn 0 rfl rfl rfl rfl S5 (fun w hS => vv_eql (a := x2) (b := 0) rfl rfl) ?_
  refine dd_hn 0 rfl rfl rfl rfl S5 (fun w hS => vv_assign rfl) ?_
  refine sd_done ?_
  refine sw_ret ?_
  have X6 : Gr w w3 := (Gr.trans (Gr.trans (Gr.trans (Gr.refl w) Gw1) Gw2) Gw3)
  have hr := Option.some.inj hm
  subst hr
  refine ⟨_, _, rfl, res_1 rfl (rv_tmp rfl), ?_⟩
  exact ⟨rfl, X6⟩

set_option maxHeartbeats 2000000 in
theorem cover_path_w (p0 : Int) (p1 : Int)  (r : Int × Int) (hm : cover_path p0 p1 = some r) (w : World)   :
    Calls Try.prog 128 [.int .i64 p0, .int .i64 p1].toArray w fun e w' => ∃ v, e = .returned v ∧ (∃ (bc0 : Nat) (bc1 : Nat), v = .func (.func 155) #[] [.pointer (some ⟨bc0, 0, none⟩), .pointer (some ⟨bc1, 0, none⟩)].toArray ∧ Bx w' bc0 139 ([.int .i64 r.1]) ∧ (w.heap.size ≤ bc0) ∧ Bx w' bc1 139 ([.int .i64 r.2]) ∧ (w.heap.size ≤ bc1) ∧ Gr w w') := by
  unfold cover_path at hm
  refine calls_of_sw (R := fun v w' => ∃ (bc0 : Nat) (bc1 : Nat), v = .func (.func 155) #[] [.pointer (some ⟨bc0, 0, none⟩), .pointer (some ⟨bc1, 0, none⟩)].toArray ∧ Bx w' bc0 139 ([.int .i64 r.1]) ∧ (w.heap.size ≤ bc0) ∧ Bx w' bc1 139 ([.int .i64 r.2]) ∧ (w.heap.size ≤ bc1) ∧ Gr w w') 6 Try.func128 rfl rfl rfl ?_
  refine sw_seq ?_
  -- region 0 tree.go:31
  refine sw_region [(0, 0), (1, 0), (2, 0)] rfl rfl rfl ?_
  refine sd_ev rfl rfl rfl (ev_box (cs := [.int .i64 p0]) rfl rfl) ?_
  rintro _ w1 ⟨b1, rfl, hbw1, Bw1, Gw1⟩
  have z1 := Gw1.size
  have lt2 := Bw1.lt
  refine sd_ev rfl rfl rfl (ev_box (cs := [.int .i64 p1]) rfl rfl) ?_
  rintro _ w2 ⟨b2, rfl, hbw2, Bw2, Gw2⟩
  have z3 := Gw2.size
  have lt4 := Bw2.lt
  refine sd_vv rfl rfl rfl (vv_assign rfl) ?_
  refine sd_done ?_
  refine sw_seq ?_
  -- region 1 tree.go:32
  refine sw_region [(0, 0), (1, 0)] rfl rfl rfl ?_
  refine sd_vv rfl rfl rfl (vv_makeFunc rfl rfl) ?_
  refine sd_vv rfl rfl rfl (vv_assign rfl) ?_
  refine sd_done ?_
  refine sw_ret ?_
  have B5 := (Bx.gr Bw1 Gw2)
  have X6 : Gr w w2 := (Gr.trans (Gr.trans (Gr.refl w) Gw1) Gw2)
  have hr := Option.some.inj hm
  subst hr
  refine ⟨_, _, rfl, res_1 rfl (rv_tmp rfl), ?_⟩
  exact ⟨b1, b2, rfl, B5, by omega, Bw2, by omega, X6⟩

set_option maxHeartbeats 2000000 in
theorem cover_node_toward_w (p0 : Int) (p1 : Int)  (r : Int) (hm : cover_node_toward p0 p1 = some r) (w : World)   :
    Calls Try.prog 77 [.int .i64 p0, .int .i64 p1].toArray w fun e w' => ∃ v, e = .returned v ∧ (v = .int .i64 r ∧ Gr w w') := by
  unfold cover_node_toward at hm
  refine calls_of_sw (R := fun v w' => v = .int .i64 r ∧ Gr w w') 13 Try.func77 rfl rfl rfl ?_
  refine sw_seq ?_
  -- region 0 tree.go:28
  refine sw_region [(0, 0)] rfl rfl rfl ?_
  refine sd_vv rfl rfl rfl (vv_assign rfl) ?_
  refine sd_done ?_
  refine sw_seq ?_
  -- region 1 tree.go:28
  refine sw_region [(0, 0), (1, 0), (2, 0), (3, 0), (4, 0), (5, 0), (6, 0), (7, 0), (8, 0)] rfl rfl rfl ?_
  refine sd_vv rfl rfl rfl (vv_move rfl) ?_
  refine sd_vv rfl rfl rfl (vv_move rfl) ?_
  have hb := bnd hm; clear hm; obtain ⟨x1, hx1, hm⟩ := hb
  refine sd_ev rfl rfl rfl (ev_call en_105 rfl (cover_node_level_w p1 _ hx1 _)) ?_
  rintro _ w1 ⟨rfl, Gw1⟩
  have z1 := Gw1.size
  refine sd_vv rfl rfl rfl (vv_move rfl) ?_
  have hb := bnd hm; clear hm; obtain ⟨x2, hx2, hm⟩ := hb
  refine sd_ev rfl rfl rfl (ev_call en_105 rfl (cover_node_level_w p0 _ hx2 _)) ?_
  rintro _ w2 ⟨rfl, Gw2⟩
  have z2 := Gw2.size
  refine sd_vv rfl rfl rfl (vv_sub (k := .i64) (a := x1) (b := x2) rfl rfl) ?_
  refine sd_vv rfl rfl rfl (vv_sub (k := .i64) (a := w64 (x1 - x2)) (b := 1) rfl rfl) ?_
  have hb := bnd hm; clear hm; obtain ⟨n3, hn3, hm⟩ := hb
  refine sd_vv rfl rfl rfl (vv_shrI (a := p1) (b := (w64 ((w64 (x1 - x2)) - 1))) rfl rfl hn3) ?_
  refine sd_vv rfl rfl rfl (vv_assign rfl) ?_
  refine sd_done ?_
  refine sw_ret ?_
  have X3 : Gr w w2 := (Gr.trans (Gr.trans (Gr.refl w) Gw1) Gw2)
  have hr := Option.some.inj hm
  subst hr
  refine ⟨_, _, rfl, res_1 rfl (rv_tmp rfl), ?_⟩
  exact ⟨rfl, X3⟩

set_option maxHeartbeats 2000000 in
theorem cover_path_1_it (p1 : Int) (p2 : Int) (bp1 : Nat) (bp2 : Nat) (xs : List Int) (hm : cover_path_1 p1 p2 = some xs) (w0 : World) (hbp1 : Bx w0 bp1 139 ([.int .i64 p1])) (hbp2 : Bx w0 bp2 139 ([.int .i64 p2])) :
    IT Try.prog 155 [.pointer (some ⟨bp1, 0, none⟩), .pointer (some ⟨bp2, 0, none⟩)] (xs.map (fun (x : Int) => ([.int .i64 x] : List Value))) ([bp1] ++ [bp2]) w0 := by
  intro l J Jx w fp hG hJ hJx hcap h0 hY
  have c1 := Bx.gr hbp1 hG
  have lt2 := c1.lt
  have nb3 : bp1 ∉ fp := hcap _ (by simp)
  have c4 := Bx.gr hbp2 hG
  have lt5 := c4.lt
  have nb6 : bp2 ∉ fp := hcap _ (by simp)
  have hd := dr_0 xs
  unfold cover_path_1 at hm
  refine calls_of_sw (R := fun v w' => Kp fp w w' ∧ ((∃ fp', (∀ c ∈ fp', c ∈ fp ∨ w.heap.size ≤ c) ∧ J (xs.map (fun (x : Int) => ([.int .i64 x] : List Value))).length fp' w') ∨ (∃ j fp', (∀ c ∈ fp', c ∈ fp ∨ w.heap.size ≤ c) ∧ j ≤ (xs.map (fun (x : Int) => ([.int .i64 x] : List Value))).length ∧ Jx j fp' w'))) 16 Try.func155 rfl rfl rfl ?_
  refine sw_seq ?_
  -- region 0 tree.go:33
  refine sw_region [(0, 0), (1, 0)] rfl rfl rfl ?_
  refine sd_vv rfl rfl rfl (vv_load1 (v := .int .i64 p1) one_139 rfl c1 rfl) ?_
  refine sd_vv rfl rfl rfl (vv_assign rfl) ?_
  refine sd_done ?_
  refine sw_block ?_
  refine sw_loopD (α := Nat × Int × Nat × List Nat × List Int) [4, 6, 7, 8, 9, 10, 11, 12, 13, 14, 15] (fun ⟨n1, a2, kk, fpl, rl⟩ => [(4, .int .i64 a2)]) (fun ⟨n1, a2, kk, fpl, rl⟩ wr => (fixN (cover_path_1_L1 p2) n1 a2 = some rl) ∧ Dr xs kk rl ∧ J kk fpl wr ∧ (∀ c ∈ fpl, c ∈ fp ∨ w.heap.size ≤ c) ∧ Kp fp w wr ∧ Bx wr bp1 139 ([.int .i64 p1]) ∧ Bx wr bp2 139 ([.int .i64 p2]) ∧ bp1 ∉ fpl ∧ bp2 ∉ fpl ∧ True) (fun ⟨n1, a2, kk, fpl, rl⟩ => n1) ⟨FUEL, p1, 0, fp, xs⟩ ?_ ?_ ?_
  · repeat' first | exact trivial | refine ⟨rfl, ?_⟩
  · exact ⟨hm, hd, h0, (fun c hc => Or.inl hc), (Kp.refl fp w), c1, c4, nb3, nb6, trivial⟩
  · clear hm; rintro ⟨n1, a2, kk1, fpl1, rl1⟩ w1 ⟨hm, dl1, JLw1, sl1, KLw1, Sw1_0, Sw1_1, Nw1_0, Nw1_1, -⟩
    have z7 := KLw1.size
    have lt8 := Sw1_0.lt
    have lt9 := Sw1_1.lt
    have hb := fix_succ hm; clear hm; obtain ⟨n1, rfl, hm⟩ := hb
    generalize hrec1 : fixN (cover_path_1_L1 p2) n1 = rec1 at hm
    unfold cover_path_1_L1 at hm
    try dsimp only at hm
    refine sw_seq ?_
    refine sw_seq ?_
    -- region 1 tree.go:33
    refine sw_region [(0, 0), (1, 0), (2, 0)] rfl rfl rfl ?_
    refine sd_vv rfl rfl rfl (vv_move rfl) ?_
    refine sd_vv rfl rfl rfl (vv_load1 (v := .int .i64 p2) one_139 rfl Sw1_1 rfl) ?_
    refine sd_vv rfl rfl rfl (vv_neq (a := a2) (b := p2) rfl rfl) ?_
    refine sd_done ?_
    refine sw_cond rfl (fun c1 => ?_) (fun c1 => ?_)
    ·
      replace hm := ite_t (of_decide_eq_true c1) hm
      refine sw_skip ?_
      refine then_n ?_
      refine sw_block ?_
      refine sw_seq ?_
      -- region 2 tree.go:34
      refine sw_region [(0, 0), (1, 0), (2, 0), (3, 0)] rfl rfl rfl ?_
      refine sd_vv rfl rfl rfl (vv_move rfl) ?_
      refine sd_vv rfl rfl rfl (vv_load1 (v := .int .i64 p2) one_139 rfl Sw1_1 rfl) ?_
      have hb := bnd hm; clear hm; obtain ⟨x3, hx3, hm⟩ := hb
      refine sd_ev rfl rfl rfl (ev_call en_77 rfl (cover_node_toward_w a2 p2 _ hx3 _)) ?_
      rintro _ w2 ⟨rfl, Gw2⟩
      have z10 := Gw2.size
      refine sd_vv rfl rfl rfl (vv_assign rfl) ?_
      refine sd_done ?_
      refine sw_seq ?_
      -- region 3 tree.go:35
      refine sw_region [(0, 0), (1, 0), (2, 0), (3, 0)] rfl rfl rfl ?_
      refine sd_vv rfl rfl rfl (vv_move rfl) ?_
      refine sd_vv rfl rfl rfl (vv_move rfl) ?_
      have J12 := (hJ.gr JLw1 Gw2)
      have KI13 : Kp fp w w2 := (Kp.gr KLw1 Gw2)
      obtain ⟨rr11, hm, he11⟩ := yl_some hm
      have hx11 := Dr.at dl1 he11
      have hd11 := Dr.next dl1 he11
      have B14 := (Bx.gr Sw1_0 Gw2)
      have B15 := (Bx.gr Sw1_1 Gw2)
      refine sd_ev rfl rfl rfl (ev_yield rfl rfl (hY _ _ _ _ (getm hx11) J12 KI13 sl1)) ?_
      rintro _ w3 ⟨bb, rfl, KF11, fp11, hg11, hJb⟩
      have z16 := KF11.size
      have sub11 : ∀ c ∈ fp11, c ∈ fp ∨ w.heap.size ≤ c := sub_grow sl1 hg11 (by omega)
      have nb17 := notin_grow hg11 Nw1_0 (by omega)
      have nb18 := notin_grow hg11 Nw1_1 (by omega)
      cases bb
      ·
        have Jy11 : Jx (kk1 + 1) fp11 w3 := hJb
        refine sd_vv rfl rfl rfl (vv_not rfl) ?_
        refine sd_done ?_
        refine sw_condT rfl ?_
        refine sw_ret ?_
        refine block_r ?_
        refine then_r ?_
        refine block_r ?_
        have KI19 : Kp fp w w3 := (Kp.trans KI13 KF11 sl1)
        exact ⟨_, _, rfl, res_none rfl, KI19, .inr ⟨_, _, sub11, (by rw [List.length_map]; exact (List.getElem?_eq_some_iff.1 hx11).1), Jy11⟩⟩
      ·
        have Jy11 : J (kk1 + 1) fp11 w3 := hJb
        refine sd_vv rfl rfl rfl (vv_not rfl) ?_
        refine sd_done ?_
        refine sw_condF rfl ?_
        refine sw_skip ?_
        refine block_n ?_
        have KI20 : Kp fp w w3 := (Kp.trans KI13 KF11 sl1)
        have B21 := (Bx.kp B14 KF11 Nw1_0)
        have B22 := (Bx.kp B15 KF11 Nw1_1)
        subst hrec1
        refine ⟨rfl, ⟨n1, x3, (kk1 + 1), fp11, rr11⟩, ?_, ⟨hm, hd11, Jy11, sub11, KI20, B21, B22, nb17, nb18, trivial⟩, Nat.lt_succ_self _⟩
        repeat' first | exact trivial | refine ⟨rfl, ?_⟩
    ·
      replace hm := ite_f (of_decide_eq_false c1) hm
      refine sw_exit ?_
      refine then_x ?_
      refine then_x ?_
      refine block_x ?_
      have he := Option.some.inj hm
      have hl := Dr.last (c := (fun (x : Int) => ([.int .i64 x] : List Value))) dl1 he.symm
      refine ⟨_, _, rfl, res_none rfl, KLw1, .inl ⟨_, sl1, ?_⟩⟩
      rw [← hl]; exact JLw1

set_option maxHeartbeats 2000000 in
theorem cover_first_cover_path_1_cover_tree_special_w (p0_0 : Int) (p0_1 : Int) (p1_0 : Tcover_tree) (bp0_0 : Nat) (bp0_1 : Nat) (r : Int) (hm : cover_first_cover_path_1_cover_tree_special p0_0 p0_1 p1_0 = some r) (w : World) (hbp0_0 : Bx w bp0_0 139 ([.int .i64 p0_0])) (hbp0_1 : Bx w bp0_1 139 ([.int .i64 p0_1]))  :
    Calls Try.prog 127 [.func (.func 155) [].toArray [.pointer (some ⟨bp0_0, 0, none⟩), .pointer (some ⟨bp0_1, 0, none⟩)].toArray, .func (.func 114) [.agg (Tcover_tree.cs p1_0).toArray].toArray [].toArray].toArray w fun e w' => ∃ v, e = .returned v ∧ (v = .int .i64 r ∧ Gr w w') := by
  have lt1 := hbp0_0.lt
  have lt2 := hbp0_1.lt
  unfold cover_first_cover_path_1_cover_tree_special at hm
  refine calls_of_sw (R := fun v w' => v = .int .i64 r ∧ Gr w w') 12 Try.func127 rfl rfl rfl ?_
  refine sw_seq ?_
  -- region 0 tree.go:87
  refine sw_region [(0, 0), (1, 0)] rfl rfl rfl ?_
  refine sd_ev rfl rfl rfl (ev_box rfl rfl) ?_
  rintro _ w1 ⟨b1, rfl, hbw1, Bw1, Gw1⟩
  have z3 := Gw1.size
  have lt4 := Bw1.lt
  refine sd_ev rfl rfl rfl (ev_alloc (cs := [.int .i64 0]) zv_139 rfl) ?_
  rintro _ w2 ⟨b2, rfl, hbw2, Bw2, Gw2⟩
  have z5 := Gw2.size
  have lt6 := Bw2.lt
  refine sd_done ?_
  refine sw_seq ?_
  refine sw_seq ?_
  -- region 1 tree.go:88
  refine sw_region [(0, 0)] rfl rfl rfl ?_
  refine sd_vv rfl rfl rfl (vv_move rfl) ?_
  refine sd_done ?_
  refine sw_block ?_
  have B7 := (Bx.gr (Bx.gr hbp0_0 Gw1) Gw2)
  have B8 := (Bx.gr (Bx.gr hbp0_1 Gw1) Gw2)
  have hb := bnd hm; clear hm; obtain ⟨l1, hl1, hm⟩ := hb
  have X9 : Gr w w2 := (Gr.trans (Gr.trans (Gr.refl w) Gw1) Gw2)
  have B10 := (Bx.gr Bw1 Gw2)
  refine sw_rangeFunc (gf := 155) rfl en_155 (cover_path_1_it p0_0 p0_1 _ _ _ hl1 _ B7 B8) (by intro x hx; obtain ⟨a, _, rfl⟩ := List.mem_map.1 hx; rfl) rfl _ _ ([b2]) (stb_mk (α := Int) (fun a3 rk => itL (cover_first_cover_path_1_cover_tree_special_R1 p1_0) cover_first_cover_path_1_cover_tree_special_D1 (List.drop rk l1) a3 = some r) (fun a3 => ([b2])) (fun a3 W => Bx W b2 139 ([.int .i64 a3]) ∧ True) (by rintro a3 W ⟨F0, _⟩ b hb; have q0 := F0.lt; replace hb : b ∈ ([b2]) := hb; simp only [List.mem_cons, List.mem_append, mem_zf, List.not_mem_nil, or_false, false_or, not_or, ne_eq, List.nil_append, List.cons_append, true_and, and_true, false_and, and_false, not_true_eq_false, not_false_eq_true, or_true, true_or] at hb; omega) (by rintro a3 W W' ⟨F0, _⟩ E hs; replace hs : ∀ b ∈ ([b2]), W'.heap[b]? = W.heap[b]? := hs; exact ⟨(hs _ (by simp)).trans F0, trivial⟩)) (fun c => (stb_c (c = .ret) (stb_mk (α := Int) (fun a3 rk => cover_first_cover_path_1_cover_tree_special_X1_0 a3 = some r) (fun a3 => ([b2])) (fun a3 W => Bx W b2 139 ([.int .i64 a3]) ∧ True) (by rintro a3 W ⟨F0, _⟩ b hb; have q0 := F0.lt; replace hb : b ∈ ([b2]) := hb; simp only [List.mem_cons, List.mem_append, mem_zf, List.not_mem_nil, or_false, false_or, not_or, ne_eq, List.nil_append, List.cons_append, true_and, and_true, false_and, and_false, not_true_eq_false, not_false_eq_true, or_true, true_or] at hb; omega) (by rintro a3 W W' ⟨F0, _⟩ E hs; replace hs : ∀ b ∈ ([b2]), W'.heap[b]? = W.heap[b]? := hs; exact ⟨(hs _ (by simp)).trans F0, trivial⟩)))) (by intro b hb; simp only [List.mem_cons, List.mem_append, mem_zf, List.not_mem_nil, or_false, false_or, not_or, ne_eq, List.nil_append, List.cons_append, true_and, and_true, false_and, and_false, not_true_eq_false, not_false_eq_true, or_true, true_or] at hb ⊢; omega) ⟨0, hm, rfl, Bw2, trivial⟩ ?_ ?_ ?_
  · rintro l rk x fp w3 hl hx _ Kw3 hF hln hlt
    clear hm
    obtain ⟨e4, hxe, rfl⟩ := map_some hx
    have Zw3 : Kz [(1, b2)] w2 w3 := kz_of_kp Kw3 (by intro k hk; simp only [Nin, and_true, List.mem_cons, List.mem_append, mem_zf, List.not_mem_nil, or_false, false_or, not_or, ne_eq, List.nil_append, List.cons_append, true_and, and_true, false_and, and_false, not_true_eq_false, not_false_eq_true, or_true, true_or] at hk ⊢; omega)
    have z11 := Kw3.size
    -- region 2 tree.go:88
    refine sw_region [(0, 0)] rfl rfl rfl ?_
    refine sd_vv rfl rfl rfl (vv_assign rfl) ?_
    refine sd_nil ?_
    refine ⟨rfl, (Gr.refl _), ?_⟩
    rintro w4 Mw4 ⟨a3, hm, rfl, Fw4_0, -⟩
    have z12 := Mw4.size
    have lt13 := Fw4_0.lt
    replace hm := itL_at hm hxe
    generalize hnx1 : itL (cover_first_cover_path_1_cover_tree_special_R1 p1_0) cover_first_cover_path_1_cover_tree_special_D1 (List.drop (rk + 1) l1) = nx1 at hm
    unfold cover_first_cover_path_1_cover_tree_special_R1 at hm
    try dsimp only at hm
    refine sw_block ?_
    refine sw_seq ?_
    -- region 3 tree.go:89
    refine sw_region [(0, 0), (1, 0), (2, 0)] rfl rfl rfl ?_
    have B14 := (Bx.md (Bx.kz B10 Zw3) Mw4)
    refine sd_vv rfl rfl rfl (vv_load1 one_176 rfl B14 rfl) ?_
    refine sd_vv rfl rfl rfl (vv_move rfl) ?_
    have hb := bnd hm; clear hm; obtain ⟨x5, hx5, hm⟩ := hb
    refine sd_ev rfl rfl rfl (ev_callV en_114 rfl rfl (cover_tree_special_w p1_0 e4 _ hx5 _)) ?_
    rintro _ w5 ⟨rfl, Gw5⟩
    have z15 := Gw5.size
    refine sd_done ?_
    refine sw_cond rfl (fun c1 => ?_) (fun c1 => ?_)
    ·
      replace hm := cnd_t c1 hm
      refine sw_seq ?_
      -- region 4 tree.go:90
      refine sw_region [(0, 0), (1, 0)] rfl rfl rfl ?_
      refine sd_vv rfl rfl rfl (vv_move rfl) ?_
      have B16 := (Bx.gr Fw4_0 Gw5)
      refine sd_ev rfl rfl rfl (ev_st1 (cs' := [.int .i64 e4]) (one_139).siz rfl rfl rfl B16 rfl rfl) ?_
      rintro _ w6 ⟨Bw6, Mw6⟩
      have z17 := Mw6.size
      refine sd_done ?_
      refine sw_ret ?_
      refine block_r ?_
      have K_18 : Kz [(1, b2)] w4 w6 := (Kz.md (Kz.gr (Kz.refl _ _) Gw5) Mw6)
      have Kq18 : Kp ([b2]) w4 w6 := kp_of_kz K_18 (by intro k hk; simp only [Nin, and_true, List.mem_cons, List.mem_append, mem_zf, List.not_mem_nil, or_false, false_or, not_or, ne_eq, List.nil_append, List.cons_append, true_and, and_true, false_and, and_false, not_true_eq_false, not_false_eq_true, or_true, true_or] at hk ⊢; omega)
      exact ⟨Kq18, ([b2]), (by intro c hc; simp only [List.mem_cons, List.mem_append, mem_zf, List.not_mem_nil, or_false, false_or, not_or, ne_eq, List.nil_append, List.cons_append, true_and, and_true, false_and, and_false, not_true_eq_false, not_false_eq_true, or_true, true_or] at hc ⊢; omega), ⟨rfl, e4, hm, rfl, Bw6, trivial⟩⟩
    ·
      replace hm := cnd_f c1 hm
      refine sw_skip ?_
      refine block_n ?_
      have B20 := (Bx.gr Fw4_0 Gw5)
      have K_19 : Kz [(1, b2)] w4 w5 := (Kz.gr (Kz.refl _ _) Gw5)
      have Kq19 : Kp ([b2]) w4 w5 := kp_of_kz K_19 (by intro k hk; simp only [Nin, and_true, List.mem_cons, List.mem_append, mem_zf, List.not_mem_nil, or_false, false_or, not_or, ne_eq, List.nil_append, List.cons_append, true_and, and_true, false_and, and_false, not_true_eq_false, not_false_eq_true, or_true, true_or] at hk ⊢; omega)
      subst hnx1
      exact ⟨Kq19, ([b2]), (by intro c hc; simp only [List.mem_cons, List.mem_append, mem_zf, List.not_mem_nil, or_false, false_or, not_or, ne_eq, List.nil_append, List.cons_append, true_and, and_true, false_and, and_false, not_true_eq_false, not_false_eq_true, or_true, true_or] at hc ⊢; omega), ⟨a3, hm, rfl, B20, trivial⟩⟩
  · clear hm; rintro Dw7 fp w7 hDw7 Dfw7 nw7 ⟨a3, hm, rfl, Fw7_0, -⟩ Kw7
    replace hm := itL_end hm
    have Zw7 : Kz [(1, b2)] w2 w7 := kz_of_kp Kw7 (by intro k hk; simp only [Nin, and_true, List.mem_cons, List.mem_append, mem_zf, List.not_mem_nil, or_false, false_or, not_or, ne_eq, List.nil_append, List.cons_append, true_and, and_true, false_and, and_false, not_true_eq_false, not_false_eq_true, or_true, true_or] at hk ⊢; omega)
    have z21 := Kw7.size
    have lt22 := Df.lt (w := w7) Dfw7
    simp only [List.mem_cons, List.mem_append, mem_zf, List.not_mem_nil, or_false, false_or, not_or, ne_eq, List.nil_append, List.cons_append, true_and, and_true, false_and, and_false, not_true_eq_false, not_false_eq_true, or_true, true_or, not_and] at nw7
    have lt23 := Fw7_0.lt
    unfold cover_first_cover_path_1_cover_tree_special_D1 at hm
    try dsimp only at hm
    refine block_n ?_
    refine then_n ?_
    refine sw_seq ?_
    -- region 5 tree.go:93
    refine sw_region [(0, 0)] rfl rfl rfl ?_
    refine sd_ev rfl rfl rfl (ev_st1 (cs' := [.int .i64 0]) (one_139).siz rfl rfl rfl Fw7_0 rfl rfl) ?_
    rintro _ w8 ⟨Bw8, Mw8⟩
    have z24 := Mw8.size
    refine sd_done ?_
    refine sw_ret ?_
    have DL25 := (Df.md Dfw7 Mw8)
    have L25 := Md.put (w := w8) Dw7 (.deferred none)
    have zL25 := L25.size
    have B26 := (Bx.md Bw8 L25)
    have X27 : Gr w (w8.putObj Dw7 (.deferred none)) := (Gr.md (Gr.md (Gr.kz X9 Zw7) Mw8) L25)
    have hr := Option.some.inj hm
    subst hr
    refine ⟨_, _, ⟨Dw7, rfl, DL25, rfl⟩, res_1 rfl (rv_cell1 one_139 rfl B26), ?_⟩
    exact ⟨rfl, X27⟩
  · clear hm; rintro Dw9 c rk fp w9 hDw9 Dfw9 nw9 hle ⟨rfl, a3, hm, rfl, Fw9_0, -⟩ Kw9
    have Zw9 : Kz [(1, b2)] w2 w9 := kz_of_kp Kw9 (by intro k hk; simp only [Nin, and_true, List.mem_cons, List.mem_append, mem_zf, List.not_mem_nil, or_false, false_or, not_or, ne_eq, List.nil_append, List.cons_append, true_and, and_true, false_and, and_false, not_true_eq_false, not_false_eq_true, or_true, true_or] at hk ⊢; omega)
    have z28 := Kw9.size
    have lt29 := Df.lt (w := w9) Dfw9
    simp only [List.mem_cons, List.mem_append, mem_zf, List.not_mem_nil, or_false, false_or, not_or, ne_eq, List.nil_append, List.cons_append, true_and, and_true, false_and, and_false, not_true_eq_false, not_false_eq_true, or_true, true_or, not_and] at nw9
    have lt30 := Fw9_0.lt
    unfold cover_first_cover_path_1_cover_tree_special_X1_0 at hm
    try dsimp only at hm
    refine sw_ret ?_
    refine block_r ?_
    refine then_r ?_
    have DL31 := Dfw9
    have L31 := Md.put (w := w9) Dw9 (.deferred none)
    have zL31 := L31.size
    have B32 := (Bx.md Fw9_0 L31)
    have X33 : Gr w (w9.putObj Dw9 (.deferred none)) := (Gr.md (Gr.kz X9 Zw9) L31)
    have hr := Option.some.inj hm
    subst hr
    refine ⟨_, _, ⟨Dw9, rfl, DL31, rfl⟩, res_1 rfl (rv_cell1 one_139 rfl B32), ?_⟩
    exact ⟨rfl, X33⟩

set_option maxHeartbeats 2000000 in
theorem cover_tree_cut_w (p0 : Tcover_tree) (p1 : Int) (p2 : Int)  (r : Int) (hm : cover_tree_cut p0 p1 p2 = some r) (w : World)   :
    Calls Try.prog 80 [.agg (Tcover_tree.cs p0).toArray, .int .i64 p1, .int .i64 p2].toArray w fun e w' => ∃ v, e = .returned v ∧ (v = .int .i64 r ∧ Gr w w') := by
  unfold cover_tree_cut at hm
  refine calls_of_sw (R := fun v w' => v = .int .i64 r ∧ Gr w w') 14 Try.func80 rfl rfl rfl ?_
  refine sw_seq ?_
  -- region 0 tree.go:97
  refine sw_region [(0, 0), (1, 0)] rfl rfl rfl ?_
  refine sd_ev rfl rfl rfl (ev_box (cs := Tcover_tree.cs p0) rfl rfl) ?_
  rintro _ w1 ⟨b1, rfl, hbw1, Bw1, Gw1⟩
  have z1 := Gw1.size
  have lt2 := Bw1.lt
  refine sd_vv rfl rfl rfl (vv_assign rfl) ?_
  refine sd_done ?_
  refine sw_seq ?_
  -- region 1 tree.go:97 DRAWS
  refine sw_drawN [([])] [] (.leaf [(0, 10), (1, 10), (2, 10), (4, 10), (5, 10), (3, 0), (6, 0), (7, 10)]) (by kernel_rfl) (by kernel_rfl) rfl (by kernel_rfl) ?_
  intro w2 Gw2 zw2
  refine sdz_leaf ?_
  refine dd_hn 0 rfl rfl rfl rfl (Kp.refl ([]) w2) (fun w hS => vv_move rfl) ?_
  refine dd_hn 0 rfl rfl rfl rfl (Kp.refl ([]) w2) (fun w hS => vv_move rfl) ?_
  have hb := bnd hm; clear hm; obtain ⟨n1, hn1, hm⟩ := hb
  refine dd_hn 0 rfl rfl rfl rfl (Kp.refl ([]) w2) (fun w hS => vv_shrI (a := p2) (b := (un 1#64)) rfl rfl hn1) ?_
  have B3 := (Bx.gr Bw1 Gw2)
  refine dd_hn 0 rfl rfl rfl rfl (Kp.refl ([]) w2) (fun w hS => vv_loadW agg_134 rfl (Bx.kp B3 hS) rfl) ?_
  refine dd_hn 0 rfl rfl rfl rfl (Kp.refl ([]) w2) (fun w hS => vv_makeFunc rfl rfl) ?_
  have hb := bnd hm; clear hm; obtain ⟨x2, hx2, hm⟩ := hb
  refine dd_z [] rfl rfl rfl (ev_call en_128 rfl (cover_path_w p1 (shrI p2 n1) _ hx2 _)) ⟨fun _ => tk0, trivial⟩ ?_
  rintro _ w3 ⟨k3_c0_0, k3_c0_1, rfl, O3_c0_0, f3_c0_0, O3_c0_1, f3_c0_1, Gw3⟩
  have z4 := Gw3.size
  have lt5 := O3_c0_0.lt
  have lt6 := O3_c0_1.lt
  refine ⟨Kz.ofGr Gw3, ?_⟩
  have hb := bnd hm; clear hm; obtain ⟨x3, hx3, hm⟩ := hb
  refine dd_z [] rfl rfl rfl (ev_call en_127 rfl (cover_first_cover_path_1_cover_tree_special_w x2.1 x2.2 p0 _ _ _ hx3 _ O3_c0_0 O3_c0_1)) ⟨fun _ => tk0, trivial⟩ ?_
  rintro _ w4 ⟨rfl, Gw4⟩
  have z7 := Gw4.size
  refine ⟨Kz.ofGr Gw4, ?_⟩
  have S8 := (Kp.gr (Kp.gr (Kp.refl ([]) w2) Gw3) Gw4)
  refine dd_hn 0 rfl rfl rfl rfl S8 (fun w hS => vv_assign rfl) ?_
  refine sd_done ?_
  refine sw_ret ?_
  have X9 : Gr w w4 := (Gr.trans (Gr.trans (Gr.trans (Gr.trans (Gr.refl w) Gw1) Gw2) Gw3) Gw4)
  have hr := Option.some.inj hm
  subst hr
  refine ⟨_, _, rfl, res_1 rfl (rv_tmp rfl), ?_⟩
  exact ⟨rfl, X9⟩

set_option maxHeartbeats 2000000 in
theorem cover_tree_subset_w (p0 : Tcover_tree) (p1 : TSubset)  (r : Bool) (hm : cover_tree_subset p0 p1 = some r) (w : World)   :
    Calls Try.prog 79 [.agg (Tcover_tree.cs p0).toArray, .agg (TSubset.cs p1).toArray].toArray w fun e w' => ∃ v, e = .returned v ∧ (v = .bool r ∧ Gr w w') := by
  unfold cover_tree_subset at hm
  refine calls_of_sw (R := fun v w' => v = .bool r ∧ Gr w w') 68 Try.func79 rfl rfl rfl ?_
  refine sw_seq ?_
  -- region 0 tree.go:100
  refine sw_region [(0, 0), (1, 0), (2, 0)] rfl rfl rfl ?_
  refine sd_ev rfl rfl rfl (ev_box (cs := Tcover_tree.cs p0) rfl rfl) ?_
  rintro _ w1 ⟨b1, rfl, hbw1, Bw1, Gw1⟩
  have z1 := Gw1.size
  have lt2 := Bw1.lt
  refine sd_ev rfl rfl rfl (ev_box (cs := TSubset.cs p1) rfl rfl) ?_
  rintro _ w2 ⟨b2, rfl, hbw2, Bw2, Gw2⟩
  have z3 := Gw2.size
  have lt4 := Bw2.lt
  refine sd_vv rfl rfl rfl (vv_assign rfl) ?_
  refine sd_done ?_
  refine sw_seq ?_
  -- region 1 tree.go:101 DRAWS
  refine sw_drawN [([])] [] (.leaf [(0, 10), (1, 10), (2, 10), (3, 10), (4, 10), (5, 10)]) (by kernel_rfl) (by kernel_rfl) rfl (by kernel_rfl) ?_
  intro w3 Gw3 zw3
  refine sdz_leaf ?_
  refine dd_hn 0 rfl rfl rfl rfl (Kp.refl ([]) w3) (fun w hS => vv_fieldAddr fa_47_0 rfl) ?_
  have B5 := (Bx.gr Bw2 Gw3)
  refine dd_hn 0 rfl rfl rfl rfl (Kp.refl ([]) w3) (fun w hS => vv_load1 (v := .int .i64 p1.Node) one_3 rfl (Bx.kp B5 hS) rfl) ?_
  refine dd_hn 0 rfl rfl rfl rfl (Kp.refl ([]) w3) (fun w hS => vv_fieldAddr fa_47_1 rfl) ?_
  refine dd_hn 0 rfl rfl rfl rfl (Kp.refl ([]) w3) (fun w hS => vv_load1 (v := .int .i64 p1.Minus) one_3 rfl (Bx.kp B5 hS) rfl) ?_
  refine dd_hn 0 rfl rfl rfl rfl (Kp.refl ([]) w3) (fun w hS => vv_assign rfl) ?_
  refine dd_hn 0 rfl rfl rfl rfl (Kp.refl ([]) w3) (fun w hS => vv_assign rfl) ?_
  refine sd_done ?_
  refine sw_seq ?_
  refine sw_block ?_
  refine sw_seq ?_
  -- region 2 tree.go:103
  refine sw_region [(0, 0), (1, 0), (2, 0), (3, 0), (4, 0), (5, 0)] rfl rfl rfl ?_
  have B6 := (Bx.gr (Bx.gr Bw1 Gw2) Gw3)
  refine sd_vv rfl rfl rfl (vv_loadW agg_134 rfl B6 rfl) ?_
  refine sd_vv rfl rfl rfl (vv_fieldAddr fa_47_0 rfl) ?_
  refine sd_vv rfl rfl rfl (vv_load1 (v := .int .i64 p1.Node) one_3 rfl B5 rfl) ?_
  have hb := bnd hm; clear hm; obtain ⟨x1, hx1, hm⟩ := hb
  refine sd_ev rfl rfl rfl (ev_call en_125 rfl (cover_tree_has_w p0 p1.Node _ hx1 _)) ?_
  rintro _ w4 ⟨rfl, Gw4⟩
  have z7 := Gw4.size
  refine sd_vv rfl rfl rfl (vv_not rfl) ?_
  refine sd_vv rfl rfl rfl (vv_assign rfl) ?_
  refine sd_done ?_
  refine sw_cond rfl (fun c1 => ?_) (fun c1 => ?_)
  ·
    replace hm := cnd_t c1 hm
    refine sw_seq ?_
    -- region 3 tree.go:104
    refine sw_region [(0, 0)] rfl rfl rfl ?_
    refine sd_vv rfl rfl rfl (vv_assign rfl) ?_
    refine sd_done ?_
    refine sw_ret ?_
    refine block_r ?_
    refine then_r ?_
    have X8 : Gr w w4 := (Gr.trans (Gr.trans (Gr.trans (Gr.trans (Gr.refl w) Gw1) Gw2) Gw3) Gw4)
    have hr := Option.some.inj hm
    subst hr
    refine ⟨_, _, rfl, res_1 rfl (rv_tmp rfl), ?_⟩
    exact ⟨rfl, X8⟩
  ·
    replace hm := cnd_f c1 hm
    have X9 : Gr w w4 := (Gr.trans (Gr.trans (Gr.trans (Gr.trans (Gr.refl w) Gw1) Gw2) Gw3) Gw4)
    refine sw_joinD (β := Bool) [17, 18, 19, 20, 21, 22, 23, 24] (fun a2 => [(17, .bool a2)]) (fun a2 wr => (cover_tree_subset_J1 p0 p1 a2 = some r) ∧ Kz [] w4 wr) ?_ ?_
    · clear hm; rintro a2 w5 ⟨hm, Kw5⟩
      have z10 := Kw5.size
      unfold cover_tree_subset_J1 at hm
      refine sw_cond rfl (fun c2 => ?_) (fun c2 => ?_)
      ·
        replace hm := cnd_t c2 hm
        refine sw_seq ?_
        -- region 5 tree.go:106
        refine sw_region [(0, 0), (1, 0), (2, 0), (3, 0), (4, 0), (5, 0), (6, 0), (7, 0), (8, 0), (9, 0), (10, 0), (11, 0)] rfl rfl rfl ?_
        refine sd_vv rfl rfl rfl (vv_move rfl) ?_
        refine sd_vv rfl rfl rfl (vv_eql (a := p1.Minus) (b := 0) rfl rfl) ?_
        refine sd_split rfl rfl rfl (vv_move rfl) (fun c3 => ?_) (fun c3 => ?_)
        ·
          replace hm := ite_t (of_decide_eq_true c3) hm
          refine sd_vv rfl rfl rfl (vv_fieldAddr fa_134_0 rfl) ?_
          have B11 := (Bx.kz (Bx.gr B6 Gw4) Kw5)
          refine sd_vv rfl rfl rfl (vv_load1 (v := bv p0.kind) one_5 rfl B11 rfl) ?_
          refine sd_vv rfl rfl rfl (vv_eqlB (p := p0.kind) (q := 1#8) rfl rfl) ?_
          refine sd_split rfl rfl rfl (vv_move rfl) (fun c4 => ?_) (fun c4 => ?_)
          ·
            replace hm := ite_t (of_decide_eq_true c4) hm
            refine sd_skip rfl rfl rfl ?_
            refine sd_skip rfl rfl rfl ?_
            refine sd_vv rfl rfl rfl (vv_pickT rfl rfl) ?_
            refine sd_vv rfl rfl rfl (vv_pickT rfl rfl) ?_
            refine sd_vv rfl rfl rfl (vv_assign rfl) ?_
            refine sd_done ?_
            refine sw_ret ?_
            refine block_r ?_
            refine then_r ?_
            have X12 : Gr w w5 := (Gr.kz X9 Kw5)
            have hr := Option.some.inj hm
            subst hr
            refine ⟨_, _, rfl, res_1 rfl (rv_tmp rfl), ?_⟩
            exact ⟨rfl, X12⟩
          ·
            replace hm := ite_f (of_decide_eq_false c4) hm
            refine sd_vv rfl rfl rfl (vv_move rfl) ?_
            refine sd_vv rfl rfl rfl (vv_eql (a := p1.Node) (b := 1) rfl rfl) ?_
            refine sd_vv rfl rfl rfl (vv_pickF rfl rfl) ?_
            refine sd_vv rfl rfl rfl (vv_pickT rfl rfl) ?_
            refine sd_vv rfl rfl rfl (vv_assign rfl) ?_
            refine sd_done ?_
            refine sw_ret ?_
            refine block_r ?_
            refine then_r ?_
            have X13 : Gr w w5 := (Gr.kz X9 Kw5)
            have hr := Option.some.inj hm
            subst hr
            refine ⟨_, _, rfl, res_1 rfl (rv_tmp rfl), ?_⟩
            exact ⟨rfl, X13⟩
        ·
          replace hm := ite_f (of_decide_eq_false c3) hm
          refine sd_skip rfl rfl rfl ?_
          refine sd_skip rfl rfl rfl ?_
          refine sd_skip rfl rfl rfl ?_
          refine sd_skip rfl rfl rfl ?_
          refine sd_skip rfl rfl rfl ?_
          refine sd_skip rfl rfl rfl ?_
          refine sd_skip rfl rfl rfl ?_
          refine sd_vv rfl rfl rfl (vv_pickF rfl rfl) ?_
          refine sd_vv rfl rfl rfl (vv_assign rfl) ?_
          refine sd_done ?_
          refine sw_ret ?_
          refine block_r ?_
          refine then_r ?_
          have X14 : Gr w w5 := (Gr.kz X9 Kw5)
          have hr := Option.some.inj hm
          subst hr
          refine ⟨_, _, rfl, res_1 rfl (rv_tmp rfl), ?_⟩
          exact ⟨rfl, X14⟩
      ·
        replace hm := cnd_f c2 hm
        have X15 : Gr w w5 := (Gr.kz X9 Kw5)
        refine sw_joinD (β := Bool) [36, 37, 38, 39, 40, 41, 42, 43, 44, 45, 46, 47, 48, 49, 50, 51, 52] (fun a3 => [(36, .bool a3)]) (fun a3 wr => (cover_tree_subset_J2 p0 p1 a3 = some r) ∧ Kz [] w5 wr) ?_ ?_
        · clear hm; rintro a3 w6 ⟨hm, Kw6⟩
          have z16 := Kw6.size
          unfold cover_tree_subset_J2 at hm
          refine sw_cond rfl (fun c5 => ?_) (fun c5 => ?_)
          ·
            replace hm := cnd_t c5 hm
            refine sw_seq ?_
            -- region 7 tree.go:108
            refine sw_region [(0, 0)] rfl rfl rfl ?_
            refine sd_vv rfl rfl rfl (vv_assign rfl) ?_
            refine sd_done ?_
            refine sw_ret ?_
            refine block_r ?_
            refine then_r ?_
            have X17 : Gr w w6 := (Gr.kz X15 Kw6)
            have hr := Option.some.inj hm
            subst hr
            refine ⟨_, _, rfl, res_1 rfl (rv_tmp rfl), ?_⟩
            exact ⟨rfl, X17⟩
          ·
            replace hm := cnd_f c5 hm
            refine sw_skip ?_
            refine block_n ?_
            refine then_n ?_
            refine sw_seq ?_
            -- region 8 tree.go:110
            refine sw_region [(0, 0), (1, 0), (2, 0), (3, 0), (4, 0), (5, 0), (6, 0), (7, 0), (8, 0), (9, 0), (10, 0), (11, 0), (12, 0), (13, 0), (14, 0), (15, 0)] rfl rfl rfl ?_
            refine sd_vv rfl rfl rfl (vv_fieldAddr fa_134_0 rfl) ?_
            have B18 := (Bx.kz (Bx.kz (Bx.gr B6 Gw4) Kw5) Kw6)
            refine sd_vv rfl rfl rfl (vv_load1 (v := bv p0.kind) one_5 rfl B18 rfl) ?_
            refine sd_vv rfl rfl rfl (vv_eqlB (p := p0.kind) (q := 2#8) rfl rfl) ?_
            refine sd_split rfl rfl rfl (vv_move rfl) (fun c6 => ?_) (fun c6 => ?_)
            ·
              replace hm := ite_t (of_decide_eq_true c6) hm
              refine sd_skip rfl rfl rfl ?_
              refine sd_skip rfl rfl rfl ?_
              refine sd_skip rfl rfl rfl ?_
              refine sd_vv rfl rfl rfl (vv_pickT rfl rfl) ?_
              refine sd_vv rfl rfl rfl (vv_move rfl) ?_
              refine sd_skip rfl rfl rfl ?_
              refine sd_skip rfl rfl rfl ?_
              refine sd_skip rfl rfl rfl ?_
              refine sd_skip rfl rfl rfl ?_
              refine sd_skip rfl rfl rfl ?_
              refine sd_vv rfl rfl rfl (vv_pickT rfl rfl) ?_
              refine sd_vv rfl rfl rfl (vv_assign rfl) ?_
              refine sd_done ?_
              refine sw_ret ?_
              have X19 : Gr w w6 := (Gr.kz X15 Kw6)
              have hr := Option.some.inj hm
              subst hr
              refine ⟨_, _, rfl, res_1 rfl (rv_tmp rfl), ?_⟩
              exact ⟨rfl, X19⟩
            ·
              replace hm := ite_f (of_decide_eq_false c6) hm
              refine sd_vv rfl rfl rfl (vv_loadW agg_134 rfl B18 rfl) ?_
              refine sd_vv rfl rfl rfl (vv_move rfl) ?_
              have hb := bnd hm; clear hm; obtain ⟨x4, hx4, hm⟩ := hb
              refine sd_ev rfl rfl rfl (ev_call en_114 rfl (cover_tree_special_w p0 p1.Node _ hx4 _)) ?_
              rintro _ w7 ⟨rfl, Gw7⟩
              have z20 := Gw7.size
              refine sd_vv rfl rfl rfl (vv_pickF rfl rfl) ?_
              refine sd_split rfl rfl rfl (vv_move rfl) (fun c7 => ?_) (fun c7 => ?_)
              ·
                replace hm := cnd_t c7 hm
                refine sd_skip rfl rfl rfl ?_
                refine sd_skip rfl rfl rfl ?_
                refine sd_skip rfl rfl rfl ?_
                refine sd_skip rfl rfl rfl ?_
                refine sd_skip rfl rfl rfl ?_
                refine sd_vv rfl rfl rfl (vv_pickT rfl rfl) ?_
                refine sd_vv rfl rfl rfl (vv_assign rfl) ?_
                refine sd_done ?_
                refine sw_ret ?_
                have X21 : Gr w w7 := (Gr.trans (Gr.kz X15 Kw6) Gw7)
                have hr := Option.some.inj hm
                subst hr
                refine ⟨_, _, rfl, res_1 rfl (rv_tmp rfl), ?_⟩
                exact ⟨rfl, X21⟩
              ·
                replace hm := cnd_f c7 hm
                have B22 := (Bx.gr B18 Gw7)
                refine sd_vv rfl rfl rfl (vv_loadW agg_134 rfl B22 rfl) ?_
                refine sd_vv rfl rfl rfl (vv_move rfl) ?_
                refine sd_vv rfl rfl rfl (vv_move rfl) ?_
                have hb := bnd hm; clear hm; obtain ⟨x5, hx5, hm⟩ := hb
                refine sd_ev rfl rfl rfl (ev_call en_80 rfl (cover_tree_cut_w p0 p1.Node p1.Minus _ hx5 _)) ?_
                rintro _ w8 ⟨rfl, Gw8⟩
                have z23 := Gw8.size
                refine sd_vv rfl rfl rfl (vv_eql (a := x5) (b := 0) rfl rfl) ?_
                refine sd_vv rfl rfl rfl (vv_pickF rfl rfl) ?_
                refine sd_vv rfl rfl rfl (vv_assign rfl) ?_
                refine sd_done ?_
                refine sw_ret ?_
                have X24 : Gr w w8 := (Gr.trans (Gr.trans (Gr.kz X15 Kw6) Gw7) Gw8)
                have hr := Option.some.inj hm
                subst hr
                refine ⟨_, _, rfl, res_1 rfl (rv_tmp rfl), ?_⟩
                exact ⟨rfl, X24⟩
        ·
          -- region 6 tree.go:107
          refine sw_region [(0, 0), (1, 0), (2, 0), (3, 0), (4, 0), (5, 0), (6, 0), (7, 0), (8, 0), (9, 0), (10, 0), (11, 0), (12, 0), (13, 0), (14, 0), (15, 0), (16, 0)] rfl rfl rfl ?_
          have B25 := (Bx.kz (Bx.gr B6 Gw4) Kw5)
          refine sd_vv rfl rfl rfl (vv_loadW agg_134 rfl B25 rfl) ?_
          refine sd_vv rfl rfl rfl (vv_fieldAddr fa_47_1 rfl) ?_
          have B26 := (Bx.kz (Bx.gr B5 Gw4) Kw5)
          refine sd_vv rfl rfl rfl (vv_load1 (v := .int .i64 p1.Minus) one_3 rfl B26 rfl) ?_
          have hb := bnd hm; clear hm; obtain ⟨x6, hx6, hm⟩ := hb
          refine sd_ev rfl rfl rfl (ev_call en_125 rfl (cover_tree_has_w p0 p1.Minus _ hx6 _)) ?_
          rintro _ w9 ⟨rfl, Gw9⟩
          have z27 := Gw9.size
          refine sd_vv rfl rfl rfl (vv_not rfl) ?_
          refine sd_split rfl rfl rfl (vv_move rfl) (fun c8 => ?_) (fun c8 => ?_)
          ·
            replace hm := cnd_t c8 hm
            refine sd_skip rfl rfl rfl ?_
            refine sd_skip rfl rfl rfl ?_
            refine sd_skip rfl rfl rfl ?_
            refine sd_vv rfl rfl rfl (vv_pickT rfl rfl) ?_
            refine sd_vv rfl rfl rfl (vv_move rfl) ?_
            refine sd_skip rfl rfl rfl ?_
            refine sd_skip rfl rfl rfl ?_
            refine sd_skip rfl rfl rfl ?_
            refine sd_skip rfl rfl rfl ?_
            refine sd_vv rfl rfl rfl (vv_pickT rfl rfl) ?_
            refine sd_vv rfl rfl rfl (vv_assign rfl) ?_
            refine sd_nil ?_
            have K_28 : Kz [] w5 w9 := (Kz.gr (Kz.refl _ _) Gw9)
            refine ⟨rfl, true, ?_, hm, K_28⟩
            repeat' first | exact trivial | refine ⟨rfl, ?_⟩
          ·
            replace hm := cnd_f c8 hm
            refine sd_vv rfl rfl rfl (vv_move rfl) ?_
            refine sd_vv rfl rfl rfl (vv_move rfl) ?_
            refine sd_vv rfl rfl rfl (vv_eql (a := p1.Minus) (b := p1.Node) rfl rfl) ?_
            refine sd_vv rfl rfl rfl (vv_pickF rfl rfl) ?_
            refine sd_split rfl rfl rfl (vv_move rfl) (fun c9 => ?_) (fun c9 => ?_)
            ·
              replace hm := ite_t (of_decide_eq_true c9) hm
              refine sd_skip rfl rfl rfl ?_
              refine sd_skip rfl rfl rfl ?_
              refine sd_skip rfl rfl rfl ?_
              refine sd_skip rfl rfl rfl ?_
              refine sd_vv rfl rfl rfl (vv_pickT rfl rfl) ?_
              refine sd_vv rfl rfl rfl (vv_assign rfl) ?_
              refine sd_nil ?_
              have K_29 : Kz [] w5 w9 := (Kz.gr (Kz.refl _ _) Gw9)
              refine ⟨rfl, true, ?_, hm, K_29⟩
              repeat' first | exact trivial | refine ⟨rfl, ?_⟩
            ·
              replace hm := ite_f (of_decide_eq_false c9) hm
              refine sd_vv rfl rfl rfl (vv_move rfl) ?_
              refine sd_vv rfl rfl rfl (vv_move rfl) ?_
              have hb := bnd hm; clear hm; obtain ⟨x7, hx7, hm⟩ := hb
              refine sd_ev rfl rfl rfl (ev_call en_126 rfl (cover_node_below_w p1.Minus p1.Node _ hx7 _)) ?_
              rintro _ w10 ⟨rfl, Gw10⟩
              have z30 := Gw10.size
              refine sd_vv rfl rfl rfl (vv_not rfl) ?_
              refine sd_vv rfl rfl rfl (vv_pickF rfl rfl) ?_
              refine sd_vv rfl rfl rfl (vv_assign rfl) ?_
              refine sd_nil ?_
              have K_31 : Kz [] w5 w10 := (Kz.gr (Kz.gr (Kz.refl _ _) Gw9) Gw10)
              refine ⟨rfl, (!x7), ?_, hm, K_31⟩
              repeat' first | exact trivial | refine ⟨rfl, ?_⟩
    ·
      -- region 4 tree.go:105
      refine sw_region [(0, 0), (1, 0), (2, 0), (3, 0), (4, 0), (5, 0), (6, 0), (7, 0)] rfl rfl rfl ?_
      refine sd_vv rfl rfl rfl (vv_fieldAddr fa_134_0 rfl) ?_
      have B32 := (Bx.gr B6 Gw4)
      refine sd_vv rfl rfl rfl (vv_load1 (v := bv p0.kind) one_5 rfl B32 rfl) ?_
      refine sd_vv rfl rfl rfl (vv_eqlB (p := p0.kind) (q := 1#8) rfl rfl) ?_
      refine sd_split rfl rfl rfl (vv_move rfl) (fun c10 => ?_) (fun c10 => ?_)
      ·
        replace hm := ite_t (of_decide_eq_true c10) hm
        refine sd_skip rfl rfl rfl ?_
        refine sd_skip rfl rfl rfl ?_
        refine sd_vv rfl rfl rfl (vv_pickT rfl rfl) ?_
        refine sd_vv rfl rfl rfl (vv_assign rfl) ?_
        refine sd_nil ?_
        have K_33 : Kz [] w4 w4 := (Kz.refl _ _)
        refine ⟨rfl, true, ?_, hm, K_33⟩
        repeat' first | exact trivial | refine ⟨rfl, ?_⟩
      ·
        replace hm := ite_f (of_decide_eq_false c10) hm
        refine sd_vv rfl rfl rfl (vv_move rfl) ?_
        refine sd_vv rfl rfl rfl (vv_eql (a := p1.Minus) (b := 0) rfl rfl) ?_
        refine sd_vv rfl rfl rfl (vv_pickF rfl rfl) ?_
        refine sd_vv rfl rfl rfl (vv_assign rfl) ?_
        refine sd_nil ?_
        have K_34 : Kz [] w4 w4 := (Kz.refl _ _)
        refine ⟨rfl, (decide (p1.Minus = 0)), ?_, hm, K_34⟩
        repeat' first | exact trivial | refine ⟨rfl, ?_⟩

set_option maxHeartbeats 2000000 in
theorem cover_enter_w (p0 : TScheme) (p1 : List TSubset) (vp1 : Value) (zp1 gp1 op1 : Nat) (r : Tcover_tree × Int) (hm : cover_enter p0 p1 = some r) (w : World) (hp1 : Rd w zp1 gp1 op1 2 vp1 (p1.map TSubset.cs))  :
    Calls Try.prog 74 [.agg (TScheme.cs p0).toArray, vp1].toArray w fun e w' => ∃ v, e = .returned v ∧ (v = .tuple [.agg (Tcover_tree.cs r.1).toArray, .int .i64 r.2].toArray ∧ Gr w w') := by
  have lt1 := hp1.lth
  unfold cover_enter at hm
  refine calls_of_sw (R := fun v w' => v = .tuple [.agg (Tcover_tree.cs r.1).toArray, .int .i64 r.2].toArray ∧ Gr w w') 31 Try.func74 rfl rfl rfl ?_
  refine sw_seq ?_
  -- region 0 cover.go:20
  refine sw_region [(0, 0), (1, 0), (2, 0)] rfl rfl rfl ?_
  refine sd_ev rfl rfl rfl (ev_box (cs := TScheme.cs p0) rfl rfl) ?_
  rintro _ w1 ⟨b1, rfl, hbw1, Bw1, Gw1⟩
  have z2 := Gw1.size
  have lt3 := Bw1.lt
  refine sd_ev rfl rfl rfl (ev_alloc (cs := Tcover_tree.cs (Tcover_tree.mk 0#8 0 0)) zv_134 rfl) ?_
  rintro _ w2 ⟨b2, rfl, hbw2, Bw2, Gw2⟩
  have z4 := Gw2.size
  have lt5 := Bw2.lt
  refine sd_vv rfl rfl rfl (vv_assign rfl) ?_
  refine sd_done ?_
  refine sw_seq ?_
  -- region 1 cover.go:21
  refine sw_region [(0, 0), (1, 0), (2, 0), (3, 0), (4, 0), (5, 0), (6, 0), (7, 0)] rfl rfl rfl ?_
  have B6 := (Bx.gr Bw1 Gw2)
  refine sd_vv rfl rfl rfl (vv_loadW agg_45 rfl B6 rfl) ?_
  have hb := bnd hm; clear hm; obtain ⟨x1, hx1, hm⟩ := hb
  refine sd_ev rfl rfl rfl (ev_call en_84 rfl (cover_treeOf_w p0 _ hx1 _)) ?_
  rintro _ w3 ⟨rfl, Gw3⟩
  have z7 := Gw3.size
  refine sd_vv rfl rfl rfl (vv_move rfl) ?_
  refine sd_vv rfl rfl rfl (vv_extract rfl rfl) ?_
  refine sd_vv rfl rfl rfl (vv_extract rfl rfl) ?_
  refine sd_ev rfl rfl rfl (ev_alloc (cs := Tcover_tree.cs (Tcover_tree.mk 0#8 0 0)) zv_134 rfl) ?_
  rintro _ w4 ⟨b4, rfl, hbw4, Bw4, Gw4⟩
  have z8 := Gw4.size
  have lt9 := Bw4.lt
  refine sd_ev rfl rfl rfl (ev_stM (cs' := Tcover_tree.cs x1.1) (vs := Tcover_tree.cs x1.1) (agg_134).siz rfl rfl rfl rfl rfl Bw4 rfl rfl) ?_
  rintro _ w5 ⟨Bw5, Mw5⟩
  have z10 := Mw5.size
  refine sd_vv rfl rfl rfl (vv_assign rfl) ?_
  refine sd_done ?_
  refine sw_seq ?_
  refine sw_seq ?_
  -- region 2 cover.go:22
  refine sw_region [(0, 0), (1, 0)] rfl rfl rfl ?_
  refine sd_vv rfl rfl rfl (vv_move rfl) ?_
  refine sd_vv rfl rfl rfl (vv_not rfl) ?_
  refine sd_done ?_
  refine sw_cond rfl (fun c1 => ?_) (fun c1 => ?_)
  ·
    replace hm := cnd_t c1 hm
    refine sw_seq ?_
    -- region 3 cover.go:23
    refine sw_region [(0, 0), (1, 0), (2, 0)] rfl rfl rfl ?_
    refine sd_vv rfl rfl rfl (vv_build (cs := Tcover_tree.cs (Tcover_tree.mk 0#8 0 0)) bs_134 rfl rfl) ?_
    have B11 := (Bx.md (Bx.gr (Bx.gr Bw2 Gw3) Gw4) Mw5)
    refine sd_ev rfl rfl rfl (ev_stM (cs' := Tcover_tree.cs (Tcover_tree.mk 0#8 0 0)) (vs := Tcover_tree.cs (Tcover_tree.mk 0#8 0 0)) (agg_134).siz rfl rfl rfl rfl rfl B11 rfl rfl) ?_
    rintro _ w6 ⟨Bw6, Mw6⟩
    have z12 := Mw6.size
    refine sd_vv rfl rfl rfl (vv_assign rfl) ?_
    refine sd_done ?_
    refine sw_ret ?_
    refine then_r ?_
    have X13 : Gr w w6 := (Gr.md (Gr.md (Gr.trans (Gr.trans (Gr.trans (Gr.trans (Gr.refl w) Gw1) Gw2) Gw3) Gw4) Mw5) Mw6)
    have hr := Option.some.inj hm
    subst hr
    refine ⟨_, _, rfl, res_2 rfl (rv_cellW agg_134 rfl Bw6 rfl) (rv_tmp rfl), ?_⟩
    exact ⟨rfl, X13⟩
  ·
    replace hm := cnd_f c1 hm
    refine sw_skip ?_
    refine then_n ?_
    refine sw_seq ?_
    refine sw_seq ?_
    -- region 4 cover.go:25
    refine sw_region [(0, 0), (1, 0), (2, 0)] rfl rfl rfl ?_
    refine sd_vv rfl rfl rfl (vv_move rfl) ?_
    have B14 := (Rd.md (Rd.gr (Rd.gr (Rd.gr (Rd.gr hp1 Gw1) Gw2) Gw3) Gw4) Mw5 (tk1 ((pv_lt (A := (fun x => x ≠ b4)) lt1) : zp1 = 0 ∨ gp1 ≠ b4)))
    refine sd_vv rfl rfl rfl (vv_lenT (l := p1) (c := TSubset.cs) Try.underlying48 rfl B14) ?_
    refine sd_vv rfl rfl rfl (vv_move rfl) ?_
    refine sd_done ?_
    refine sw_block ?_
    have X15 : Gr w w5 := (Gr.md (Gr.trans (Gr.trans (Gr.trans (Gr.trans (Gr.refl w) Gw1) Gw2) Gw3) Gw4) Mw5)
    refine sw_loopD (α := Nat × Int) [5, 9, 20, 21, 22, 23, 24, 25, 26, 27, 28, 29] (fun ⟨n1, a3⟩ => [(5, .int .i64 0), (20, .int .i64 a3)]) (fun ⟨n1, a3⟩ wr => (fixN (cover_enter_L1 p1 x1) n1 a3 = some r) ∧ Kz [] w5 wr) (fun ⟨n1, a3⟩ => n1) ⟨FUEL, 0⟩ ?_ ?_ ?_
    · repeat' first | exact trivial | refine ⟨rfl, ?_⟩
    · exact ⟨hm, Kz.refl _ _⟩
    · clear hm; rintro ⟨n1, a3⟩ w7 ⟨hm, Kw7⟩
      have z16 := Kw7.size
      have hb := fix_succ hm; clear hm; obtain ⟨n1, rfl, hm⟩ := hb
      generalize hrec1 : fixN (cover_enter_L1 p1 x1) n1 = rec1 at hm
      unfold cover_enter_L1 at hm
      try dsimp only at hm
      refine sw_seq ?_
      -- region 5 cover.go:25
      refine sw_region [(0, 0)] rfl rfl rfl ?_
      refine sd_vv rfl rfl rfl (vv_lss (a := a3) (b := (p1.length : Int)) rfl rfl) ?_
      refine sd_done ?_
      refine sw_seq ?_
      refine sw_cond rfl (fun c2 => ?_) (fun c2 => ?_)
      ·
        replace hm := ite_t (of_decide_eq_true c2) hm
        refine sw_skip ?_
        refine then_n ?_
        refine sw_seq ?_
        refine sw_block ?_
        refine sw_seq ?_
        -- region 6 cover.go:25
        refine sw_region [(0, 0), (1, 0), (2, 0), (3, 0)] rfl rfl rfl ?_
        have hb := bnd hm; clear hm; obtain ⟨y4, hy4, hm⟩ := hb
        have B17 := (Rd.kz B14 Kw7)
        refine sd_vv rfl rfl rfl (vv_ixT (i := a3) Try.underlying48 (agg_47).siz rfl B17 rfl hy4) ?_
        refine sd_vv rfl rfl rfl (vv_elWT agg_47 rfl B17 hy4 (by first | rfl | omega)) ?_
        refine sd_ev rfl rfl rfl (ev_alloc (cs := TSubset.cs (TSubset.mk 0 0)) zv_47 rfl) ?_
        rintro _ w8 ⟨b8, rfl, hbw8, Bw8, Gw8⟩
        have z18 := Gw8.size
        have lt19 := Bw8.lt
        refine sd_ev rfl rfl rfl (ev_stM (cs' := TSubset.cs y4) (vs := TSubset.cs y4) (agg_47).siz rfl rfl rfl rfl rfl Bw8 rfl rfl) ?_
        rintro _ w9 ⟨Bw9, Mw9⟩
        have z20 := Mw9.size
        refine sd_done ?_
        refine sw_seq ?_
        -- region 7 cover.go:26
        refine sw_region [(0, 0), (1, 0), (2, 0), (3, 0)] rfl rfl rfl ?_
        have B21 := (Bx.md (Bx.gr (Bx.kz Bw5 Kw7) Gw8) Mw9)
        refine sd_vv rfl rfl rfl (vv_loadW agg_134 rfl B21 rfl) ?_
        refine sd_vv rfl rfl rfl (vv_loadW agg_47 rfl Bw9 rfl) ?_
        have hb := bnd hm; clear hm; obtain ⟨x5, hx5, hm⟩ := hb
        refine sd_ev rfl rfl rfl (ev_call en_79 rfl (cover_tree_subset_w x1.1 y4 _ hx5 _)) ?_
        rintro _ w10 ⟨rfl, Gw10⟩
        have z22 := Gw10.size
        refine sd_vv rfl rfl rfl (vv_not rfl) ?_
        refine sd_done ?_
        refine sw_cond rfl (fun c3 => ?_) (fun c3 => ?_)
        ·
          replace hm := cnd_t c3 hm
          refine sw_seq ?_
          -- region 8 cover.go:27
          refine sw_region [(0, 0), (1, 0), (2, 0)] rfl rfl rfl ?_
          refine sd_vv rfl rfl rfl (vv_build (cs := Tcover_tree.cs (Tcover_tree.mk 0#8 0 0)) bs_134 rfl rfl) ?_
          have B23 := (Bx.gr (Bx.md (Bx.gr (Bx.kz (Bx.md (Bx.gr (Bx.gr Bw2 Gw3) Gw4) Mw5) Kw7) Gw8) Mw9) Gw10)
          refine sd_ev rfl rfl rfl (ev_stM (cs' := Tcover_tree.cs (Tcover_tree.mk 0#8 0 0)) (vs := Tcover_tree.cs (Tcover_tree.mk 0#8 0 0)) (agg_134).siz rfl rfl rfl rfl rfl B23 rfl rfl) ?_
          rintro _ w11 ⟨Bw11, Mw11⟩
          have z24 := Mw11.size
          refine sd_vv rfl rfl rfl (vv_assign rfl) ?_
          refine sd_done ?_
          refine sw_ret ?_
          refine block_r ?_
          refine then_r ?_
          refine then_r ?_
          refine block_r ?_
          refine then_r ?_
          have X25 : Gr w w11 := (Gr.md (Gr.trans (Gr.md (Gr.trans (Gr.kz X15 Kw7) Gw8) Mw9) Gw10) Mw11)
          have hr := Option.some.inj hm
          subst hr
          refine ⟨_, _, rfl, res_2 rfl (rv_cellW agg_134 rfl Bw11 rfl) (rv_tmp rfl), ?_⟩
          exact ⟨rfl, X25⟩
        ·
          replace hm := cnd_f c3 hm
          refine sw_skip ?_
          refine block_n ?_
          refine then_n ?_
          -- region 9 cover.go:25
          refine sw_region [(0, 0), (1, 0)] rfl rfl rfl ?_
          refine sd_vv rfl rfl rfl (vv_add (k := .i64) (a := a3) (b := 1) rfl rfl) ?_
          refine sd_vv rfl rfl rfl (vv_move rfl) ?_
          refine sd_nil ?_
          have K_26 : Kz [] w5 w10 := (Kz.gr (Kz.md (Kz.gr Kw7 Gw8) Mw9) Gw10)
          subst hrec1
          refine ⟨rfl, ⟨n1, w64 (a3 + 1)⟩, ?_, ⟨hm, K_26⟩, Nat.lt_succ_self _⟩
          repeat' first | exact trivial | refine ⟨rfl, ?_⟩
      ·
        replace hm := ite_f (of_decide_eq_false c2) hm
        refine sw_exit ?_
        refine then_x ?_
        refine then_x ?_
        refine block_x ?_
        refine then_n ?_
        refine sw_seq ?_
        -- region 10 cover.go:30
        refine sw_region [(0, 0), (1, 0), (2, 0)] rfl rfl rfl ?_
        have B27 := (Bx.kz Bw5 Kw7)
        refine sd_vv rfl rfl rfl (vv_loadW agg_134 rfl B27 rfl) ?_
        have B28 := (Bx.kz (Bx.md (Bx.gr (Bx.gr Bw2 Gw3) Gw4) Mw5) Kw7)
        refine sd_ev rfl rfl rfl (ev_stM (cs' := Tcover_tree.cs x1.1) (vs := Tcover_tree.cs x1.1) (agg_134).siz rfl rfl rfl rfl rfl B28 rfl rfl) ?_
        rintro _ w12 ⟨Bw12, Mw12⟩
        have z29 := Mw12.size
        refine sd_vv rfl rfl rfl (vv_assign rfl) ?_
        refine sd_done ?_
        refine sw_ret ?_
        have X30 : Gr w w12 := (Gr.md (Gr.kz X15 Kw7) Mw12)
        have hr := Option.some.inj hm
        subst hr
        refine ⟨_, _, rfl, res_2 rfl (rv_cellW agg_134 rfl Bw12 rfl) (rv_tmp rfl), ?_⟩
        exact ⟨rfl, X30⟩

set_option maxHeartbeats 2000000 in
theorem cover_tree_leaf_w (p0 : Tcover_tree) (p1 : Int)  (r : Int) (hm : cover_tree_leaf p0 p1 = some r) (w : World)   :
    Calls Try.prog 112 [.agg (Tcover_tree.cs p0).toArray, .int .i64 p1].toArray w fun e w' => ∃ v, e = .returned v ∧ (v = .int .i64 r ∧ Gr w w') := by
  unfold cover_tree_leaf at hm
  refine calls_of_sw (R := fun v w' => v = .int .i64 r ∧ Gr w w') 9 Try.func112 rfl rfl rfl ?_
  refine sw_seq ?_
  -- region 0 tree.go:65
  refine sw_region [(0, 0), (1, 0)] rfl rfl rfl ?_
  refine sd_ev rfl rfl rfl (ev_box (cs := Tcover_tree.cs p0) rfl rfl) ?_
  rintro _ w1 ⟨b1, rfl, hbw1, Bw1, Gw1⟩
  have z1 := Gw1.size
  have lt2 := Bw1.lt
  refine sd_vv rfl rfl rfl (vv_assign rfl) ?_
  refine sd_done ?_
  refine sw_seq ?_
  -- region 1 tree.go:65
  refine sw_region [(0, 0), (1, 0), (2, 0), (3, 0), (4, 0)] rfl rfl rfl ?_
  refine sd_vv rfl rfl rfl (vv_loadW agg_134 rfl Bw1 rfl) ?_
  have hb := bnd hm; clear hm; obtain ⟨x1, hx1, hm⟩ := hb
  refine sd_ev rfl rfl rfl (ev_call en_123 rfl (cover_tree_size_w p0 _ hx1 _)) ?_
  rintro _ w2 ⟨rfl, Gw2⟩
  have z3 := Gw2.size
  refine sd_vv rfl rfl rfl (vv_move rfl) ?_
  refine sd_vv rfl rfl rfl (vv_add (k := .i64) (a := x1) (b := p1) rfl rfl) ?_
  refine sd_vv rfl rfl rfl (vv_assign rfl) ?_
  refine sd_done ?_
  refine sw_ret ?_
  have X4 : Gr w w2 := (Gr.trans (Gr.trans (Gr.refl w) Gw1) Gw2)
  have hr := Option.some.inj hm
  subst hr
  refine ⟨_, _, rfl, res_1 rfl (rv_tmp rfl), ?_⟩
  exact ⟨rfl, X4⟩

set_option maxHeartbeats 2000000 in
theorem cover_tree_member_w (p0 : Tcover_tree) (p1 : TSubset) (p2 : Int)  (r : Bool) (hm : cover_tree_member p0 p1 p2 = some r) (w : World)   :
    Calls Try.prog 124 [.agg (Tcover_tree.cs p0).toArray, .agg (TSubset.cs p1).toArray, .int .i64 p2].toArray w fun e w' => ∃ v, e = .returned v ∧ (v = .bool r ∧ Gr w w') := by
  unfold cover_tree_member at hm
  refine calls_of_sw (R := fun v w' => v = .bool r ∧ Gr w w') 22 Try.func124 rfl rfl rfl ?_
  refine sw_seq ?_
  -- region 0 tree.go:114
  refine sw_region [(0, 0), (1, 0), (2, 0)] rfl rfl rfl ?_
  refine sd_ev rfl rfl rfl (ev_box (cs := Tcover_tree.cs p0) rfl rfl) ?_
  rintro _ w1 ⟨b1, rfl, hbw1, Bw1, Gw1⟩
  have z1 := Gw1.size
  have lt2 := Bw1.lt
  refine sd_ev rfl rfl rfl (ev_box (cs := TSubset.cs p1) rfl rfl) ?_
  rintro _ w2 ⟨b2, rfl, hbw2, Bw2, Gw2⟩
  have z3 := Gw2.size
  have lt4 := Bw2.lt
  refine sd_vv rfl rfl rfl (vv_assign rfl) ?_
  refine sd_done ?_
  refine sw_seq ?_
  -- region 1 tree.go:115
  refine sw_region [(0, 0), (1, 0), (2, 0), (3, 0)] rfl rfl rfl ?_
  have B5 := (Bx.gr Bw1 Gw2)
  refine sd_vv rfl rfl rfl (vv_loadW agg_134 rfl B5 rfl) ?_
  refine sd_vv rfl rfl rfl (vv_move rfl) ?_
  have hb := bnd hm; clear hm; obtain ⟨x1, hx1, hm⟩ := hb
  refine sd_ev rfl rfl rfl (ev_call en_112 rfl (cover_tree_leaf_w p0 p2 _ hx1 _)) ?_
  rintro _ w3 ⟨rfl, Gw3⟩
  have z6 := Gw3.size
  refine sd_vv rfl rfl rfl (vv_assign rfl) ?_
  refine sd_done ?_
  refine sw_seq ?_
  -- region 2 tree.go:116
  refine sw_region [(0, 0), (1, 0), (2, 0), (3, 0), (4, 0), (5, 0), (6, 0), (7, 0), (8, 0), (9, 0), (10, 0), (11, 0)] rfl rfl rfl ?_
  refine sd_vv rfl rfl rfl (vv_move rfl) ?_
  refine sd_vv rfl rfl rfl (vv_fieldAddr fa_47_0 rfl) ?_
  have B7 := (Bx.gr Bw2 Gw3)
  refine sd_vv rfl rfl rfl (vv_load1 (v := .int .i64 p1.Node) one_3 rfl B7 rfl) ?_
  have hb := bnd hm; clear hm; obtain ⟨x2, hx2, hm⟩ := hb
  refine sd_ev rfl rfl rfl (ev_call en_126 rfl (cover_node_below_w x1 p1.Node _ hx2 _)) ?_
  rintro _ w4 ⟨rfl, Gw4⟩
  have z8 := Gw4.size
  refine sd_split rfl rfl rfl (vv_move rfl) (fun c1 => ?_) (fun c1 => ?_)
  ·
    replace hm := cnd_t c1 hm
    refine sd_vv rfl rfl rfl (vv_move rfl) ?_
    refine sd_vv rfl rfl rfl (vv_fieldAddr fa_47_1 rfl) ?_
    have B9 := (Bx.gr B7 Gw4)
    refine sd_vv rfl rfl rfl (vv_load1 (v := .int .i64 p1.Minus) one_3 rfl B9 rfl) ?_
    have hb := bnd hm; clear hm; obtain ⟨x3, hx3, hm⟩ := hb
    refine sd_ev rfl rfl rfl (ev_call en_126 rfl (cover_node_below_w x1 p1.Minus _ hx3 _)) ?_
    rintro _ w5 ⟨rfl, Gw5⟩
    have z10 := Gw5.size
    refine sd_vv rfl rfl rfl (vv_not rfl) ?_
    refine sd_vv rfl rfl rfl (vv_pickT rfl rfl) ?_
    refine sd_vv rfl rfl rfl (vv_assign rfl) ?_
    refine sd_done ?_
    refine sw_ret ?_
    have X11 : Gr w w5 := (Gr.trans (Gr.trans (Gr.trans (Gr.trans (Gr.trans (Gr.refl w) Gw1) Gw2) Gw3) Gw4) Gw5)
    have hr := Option.some.inj hm
    subst hr
    refine ⟨_, _, rfl, res_1 rfl (rv_tmp rfl), ?_⟩
    exact ⟨rfl, X11⟩
  ·
    replace hm := cnd_f c1 hm
    refine sd_skip rfl rfl rfl ?_
    refine sd_skip rfl rfl rfl ?_
    refine sd_skip rfl rfl rfl ?_
    refine sd_skip rfl rfl rfl ?_
    refine sd_skip rfl rfl rfl ?_
    refine sd_vv rfl rfl rfl (vv_pickF rfl rfl) ?_
    refine sd_vv rfl rfl rfl (vv_assign rfl) ?_
    refine sd_done ?_
    refine sw_ret ?_
    have X12 : Gr w w4 := (Gr.trans (Gr.trans (Gr.trans (Gr.trans (Gr.refl w) Gw1) Gw2) Gw3) Gw4)
    have hr := Option.some.inj hm
    subst hr
    refine ⟨_, _, rfl, res_1 rfl (rv_tmp rfl), ?_⟩
    exact ⟨rfl, X12⟩

set_option maxHeartbeats 2000000 in
theorem cover_tree_members_w (p0 : Tcover_tree) (p1 : TSubset)  (r : List Int) (hm : cover_tree_members p0 p1 = some r) (w : World)   :
    Calls Try.prog 75 [.agg (Tcover_tree.cs p0).toArray, .agg (TSubset.cs p1).toArray].toArray w fun e w' => ∃ v, e = .returned v ∧ (∃ (ur0_s : Value) (zr0_s : Nat) (gr0_s : Nat), v = ur0_s ∧ Own w' zr0_s gr0_s 3 1 ur0_s (r.map ic) ∧ Hdn (zr0_s = 0 ∨ w.heap.size ≤ gr0_s) ∧ Gr w w') := by
  unfold cover_tree_members at hm
  refine calls_of_sw (R := fun v w' => ∃ (ur0_s : Value) (zr0_s : Nat) (gr0_s : Nat), v = ur0_s ∧ Own w' zr0_s gr0_s 3 1 ur0_s (r.map ic) ∧ Hdn (zr0_s = 0 ∨ w.heap.size ≤ gr0_s) ∧ Gr w w') 22 Try.func75 rfl rfl rfl ?_
  refine sw_seq ?_
  -- region 0 cover.go:34
  refine sw_region [(0, 0), (1, 0), (2, 0)] rfl rfl rfl ?_
  refine sd_ev rfl rfl rfl (ev_box (cs := Tcover_tree.cs p0) rfl rfl) ?_
  rintro _ w1 ⟨b1, rfl, hbw1, Bw1, Gw1⟩
  have z1 := Gw1.size
  have lt2 := Bw1.lt
  refine sd_ev rfl rfl rfl (ev_box (cs := TSubset.cs p1) rfl rfl) ?_
  rintro _ w2 ⟨b2, rfl, hbw2, Bw2, Gw2⟩
  have z3 := Gw2.size
  have lt4 := Bw2.lt
  refine sd_vv rfl rfl rfl (vv_assign rfl) ?_
  refine sd_done ?_
  refine sw_seq ?_
  -- region 1 cover.go:35
  refine sw_region [(0, 0)] rfl rfl rfl ?_
  refine sd_vv rfl rfl rfl (vv_assign rfl) ?_
  refine sd_done ?_
  refine sw_seq ?_
  refine sw_seq ?_
  -- region 2 cover.go:36
  refine sw_region [(0, 0), (1, 0), (2, 0)] rfl rfl rfl ?_
  have B5 := (Bx.gr Bw1 Gw2)
  refine sd_vv rfl rfl rfl (vv_loadW agg_134 rfl B5 rfl) ?_
  have hb := bnd hm; clear hm; obtain ⟨x1, hx1, hm⟩ := hb
  refine sd_ev rfl rfl rfl (ev_call en_123 rfl (cover_tree_size_w p0 _ hx1 _)) ?_
  rintro _ w3 ⟨rfl, Gw3⟩
  have z6 := Gw3.size
  refine sd_vv rfl rfl rfl (vv_move rfl) ?_
  refine sd_done ?_
  refine sw_block ?_
  have X7 : Gr w w3 := (Gr.trans (Gr.trans (Gr.trans (Gr.refl w) Gw1) Gw2) Gw3)
  refine sw_loopD (α := Nat × List Int × Int × Value × Nat × Nat) [5, 6, 9, 10, 11, 12, 13, 14, 15, 16, 17, 18, 19, 20] (fun ⟨n1, a5, a7, vy6, zy6, gy6⟩ => [(5, vy6), (9, .int .i64 a7)]) (fun ⟨n1, a5, a7, vy6, zy6, gy6⟩ wr => (fixN (cover_tree_members_L1 p0 p1 x1) n1 (a5, a7) = some r) ∧ Own wr zy6 gy6 3 1 vy6 (a5.map ic) ∧ Hdn (zy6 = 0 ∨ w3.heap.size ≤ gy6) ∧ Kz [] w3 wr) (fun ⟨n1, a5, a7, vy6, zy6, gy6⟩ => n1) ⟨FUEL, [], 0, (.slice none 0 0), 0, 0⟩ ?_ ?_ ?_
  · repeat' first | exact trivial | refine ⟨rfl, ?_⟩
  · exact ⟨hm, (own_nil _ 0 3 1), ⟨(.inl rfl)⟩, Kz.refl _ _⟩
  · clear hm; rintro ⟨n1, a5, a7, vy6, zy6, gy6⟩ w4 ⟨hm, Fw4_0, Fw4_1, Kw4⟩
    have z8 := Kw4.size
    have lt9 := Fw4_0.lth
    have hb := fix_succ hm; clear hm; obtain ⟨n1, rfl, hm⟩ := hb
    generalize hrec1 : fixN (cover_tree_members_L1 p0 p1 x1) n1 = rec1 at hm
    unfold cover_tree_members_L1 at hm
    try dsimp only at hm
    refine sw_seq ?_
    -- region 3 cover.go:36
    refine sw_region [(0, 0)] rfl rfl rfl ?_
    refine sd_vv rfl rfl rfl (vv_lss (a := a7) (b := x1) rfl rfl) ?_
    refine sd_done ?_
    refine sw_seq ?_
    refine sw_cond rfl (fun c1 => ?_) (fun c1 => ?_)
    ·
      replace hm := ite_t (of_decide_eq_true c1) hm
      refine sw_skip ?_
      refine then_n ?_
      refine sw_seq ?_
      refine sw_block ?_
      refine sw_seq ?_
      -- region 4 cover.go:36
      refine sw_region [(0, 0), (1, 0)] rfl rfl rfl ?_
      refine sd_vv rfl rfl rfl (vv_move rfl) ?_
      refine sd_vv rfl rfl rfl (vv_assign rfl) ?_
      refine sd_done ?_
      refine sw_seq ?_
      -- region 5 cover.go:37
      refine sw_region [(0, 0), (1, 0), (2, 0), (3, 0)] rfl rfl rfl ?_
      have B10 := (Bx.kz (Bx.gr B5 Gw3) Kw4)
      refine sd_vv rfl rfl rfl (vv_loadW agg_134 rfl B10 rfl) ?_
      have B11 := (Bx.kz (Bx.gr Bw2 Gw3) Kw4)
      refine sd_vv rfl rfl rfl (vv_loadW agg_47 rfl B11 rfl) ?_
      refine sd_vv rfl rfl rfl (vv_move rfl) ?_
      have hb := bnd hm; clear hm; obtain ⟨x8, hx8, hm⟩ := hb
      refine sd_ev rfl rfl rfl (ev_call en_124 rfl (cover_tree_member_w p0 p1 a7 _ hx8 _)) ?_
      rintro _ w5 ⟨rfl, Gw5⟩
      have z12 := Gw5.size
      refine sd_done ?_
      refine sw_cond rfl (fun c2 => ?_) (fun c2 => ?_)
      ·
        replace hm := cnd_t c2 hm
        -- region 6 cover.go:38
        refine sw_region [(0, 0), (1, 0), (2, 0), (3, 0), (4, 0)] rfl rfl rfl ?_
        refine sd_vv rfl rfl rfl (vv_move rfl) ?_
        refine sd_vv rfl rfl rfl (vv_move rfl) ?_
        refine sd_ev rfl rfl rfl (ev_litT [a7] ic bsl_61_1 rfl rfl (ws_of rfl) rfl rfl rfl) ?_
        rintro vw6 w6 ⟨gw6, hbw6, Ow6, Gw6⟩
        have z13 := Gw6.size
        have lt14 := Ow6.lth
        have B15 := (Own.gr (Own.gr Fw4_0 Gw5) Gw6)
        have hb := bnd hm; clear hm; obtain ⟨l9, hl9, hm⟩ := hb
        refine sd_ev rfl rfl rfl (ev_appT (l := a5) (m := [a7]) (c := ic) apt_61 rfl rfl B15 (Own.rd Ow6) hl9 (by decide)) ?_
        rintro vw7 w7 ⟨zw7, gw7, Ow7, Aw7, qw7, rw7⟩
        have z16 := Aw7.size
        refine sd_vv rfl rfl rfl (vv_assign rfl) ?_
        refine sd_nil ?_
        refine block_n ?_
        refine then_n ?_
        -- region 7 cover.go:36
        refine sw_region [(0, 0), (1, 0)] rfl rfl rfl ?_
        refine sd_vv rfl rfl rfl (vv_add (k := .i64) (a := a7) (b := 1) rfl rfl) ?_
        refine sd_vv rfl rfl rfl (vv_move rfl) ?_
        refine sd_nil ?_
        have K_17 : Kz [] w3 w7 := (Kz.ka (Kz.gr (Kz.gr Kw4 Gw5) Gw6) Aw7 (tk1 ((pv_0 (A := (fun x => w3.heap.size ≤ x)) Fw4_1) : zy6 = 0 ∨ w3.heap.size ≤ gy6)))
        subst hrec1
        refine ⟨rfl, ⟨n1, l9, w64 (a7 + 1), vw7, zw7, gw7⟩, ?_, ⟨hm, Ow7, ⟨(pv_app (A := (fun x => w3.heap.size ≤ x)) rw7 (pv_0 (A := (fun x => w3.heap.size ≤ x)) Fw4_1))⟩, K_17⟩, Nat.lt_succ_self _⟩
        repeat' first | exact trivial | refine ⟨rfl, ?_⟩
      ·
        replace hm := cnd_f c2 hm
        refine sw_skip ?_
        refine block_n ?_
        refine then_n ?_
        -- region 7 cover.go:36
        refine sw_region [(0, 0), (1, 0)] rfl rfl rfl ?_
        refine sd_vv rfl rfl rfl (vv_add (k := .i64) (a := a7) (b := 1) rfl rfl) ?_
        refine sd_vv rfl rfl rfl (vv_move rfl) ?_
        refine sd_nil ?_
        have K_18 : Kz [] w3 w5 := (Kz.gr Kw4 Gw5)
        have B19 := (Own.gr Fw4_0 Gw5)
        subst hrec1
        refine ⟨rfl, ⟨n1, a5, w64 (a7 + 1), vy6, zy6, gy6⟩, ?_, ⟨hm, B19, ⟨(pv_0 (A := (fun x => w3.heap.size ≤ x)) Fw4_1)⟩, K_18⟩, Nat.lt_succ_self _⟩
        repeat' first | exact trivial | refine ⟨rfl, ?_⟩
    ·
      replace hm := ite_f (of_decide_eq_false c1) hm
      refine sw_exit ?_
      refine then_x ?_
      refine then_x ?_
      refine block_x ?_
      refine then_n ?_
      refine sw_seq ?_
      -- region 8 cover.go:41
      refine sw_region [(0, 0), (1, 0)] rfl rfl rfl ?_
      refine sd_vv rfl rfl rfl (vv_move rfl) ?_
      refine sd_vv rfl rfl rfl (vv_assign rfl) ?_
      refine sd_done ?_
      refine sw_ret ?_
      have X20 : Gr w w4 := (Gr.kz X7 Kw4)
      have hr := Option.some.inj hm
      subst hr
      refine ⟨_, _, rfl, res_1 rfl (rv_tmp rfl), ?_⟩
      exact ⟨vy6, zy6, gy6, rfl, Fw4_0, ⟨(pv_0 (A := (fun x => w.heap.size ≤ x)) Fw4_1)⟩, X20⟩

set_option maxHeartbeats 2000000 in
theorem cover_Members_w (p0 : TScheme) (p1 : TSubset)  (r : List Int × Int) (hm : cover_Members p0 p1 = some r) (w : World)   :
    Calls Try.prog 35 [.agg (TScheme.cs p0).toArray, .agg (TSubset.cs p1).toArray].toArray w fun e w' => ∃ v, e = .returned v ∧ (∃ (ur0_s : Value) (zr0_s : Nat) (gr0_s : Nat), v = .tuple [ur0_s, .int .i64 r.2].toArray ∧ Own w' zr0_s gr0_s 3 1 ur0_s (r.1.map ic) ∧ Hdn (zr0_s = 0 ∨ w.heap.size ≤ gr0_s) ∧ Gr w w') := by
  unfold cover_Members at hm
  refine calls_of_sw (R := fun v w' => ∃ (ur0_s : Value) (zr0_s : Nat) (gr0_s : Nat), v = .tuple [ur0_s, .int .i64 r.2].toArray ∧ Own w' zr0_s gr0_s 3 1 ur0_s (r.1.map ic) ∧ Hdn (zr0_s = 0 ∨ w.heap.size ≤ gr0_s) ∧ Gr w w') 21 Try.func35 rfl rfl rfl ?_
  refine sw_seq ?_
  -- region 0 cover.go:45
  refine sw_region [(0, 0), (1, 0), (2, 0), (3, 0)] rfl rfl rfl ?_
  refine sd_ev rfl rfl rfl (ev_box (cs := TScheme.cs p0) rfl rfl) ?_
  rintro _ w1 ⟨b1, rfl, hbw1, Bw1, Gw1⟩
  have z1 := Gw1.size
  have lt2 := Bw1.lt
  refine sd_ev rfl rfl rfl (ev_box (cs := TSubset.cs p1) rfl rfl) ?_
  rintro _ w2 ⟨b2, rfl, hbw2, Bw2, Gw2⟩
  have z3 := Gw2.size
  have lt4 := Bw2.lt
  refine sd_vv rfl rfl rfl (vv_assign rfl) ?_
  refine sd_vv rfl rfl rfl (vv_assign rfl) ?_
  refine sd_done ?_
  refine sw_seq ?_
  -- region 1 cover.go:46
  refine sw_region [(0, 0), (1, 0), (2, 0), (3, 0), (4, 0), (5, 0), (6, 0), (7, 0), (8, 0), (9, 0)] rfl rfl rfl ?_
  have B5 := (Bx.gr Bw1 Gw2)
  refine sd_vv rfl rfl rfl (vv_loadW agg_45 rfl B5 rfl) ?_
  refine sd_vv rfl rfl rfl (vv_loadW agg_47 rfl Bw2 rfl) ?_
  refine sd_ev rfl rfl rfl (ev_litT [p1] TSubset.cs bsl_48_1 rfl rfl (ws_of rfl) rfl rfl rfl) ?_
  rintro vw3 w3 ⟨gw3, hbw3, Ow3, Gw3⟩
  have z6 := Gw3.size
  have lt7 := Ow3.lth
  have hb := bnd hm; clear hm; obtain ⟨x1, hx1, hm⟩ := hb
  refine sd_ev rfl rfl rfl (ev_call en_74 rfl (cover_enter_w p0 [p1] _ _ _ _ _ hx1 _ (Own.rd Ow3))) ?_
  rintro _ w4 ⟨rfl, Gw4⟩
  have z8 := Gw4.size
  refine sd_vv rfl rfl rfl (vv_move rfl) ?_
  refine sd_vv rfl rfl rfl (vv_extract rfl rfl) ?_
  refine sd_vv rfl rfl rfl (vv_extract rfl rfl) ?_
  refine sd_ev rfl rfl rfl (ev_alloc (cs := Tcover_tree.cs (Tcover_tree.mk 0#8 0 0)) zv_134 rfl) ?_
  rintro _ w5 ⟨b5, rfl, hbw5, Bw5, Gw5⟩
  have z9 := Gw5.size
  have lt10 := Bw5.lt
  refine sd_ev rfl rfl rfl (ev_stM (cs' := Tcover_tree.cs x1.1) (vs := Tcover_tree.cs x1.1) (agg_134).siz rfl rfl rfl rfl rfl Bw5 rfl rfl) ?_
  rintro _ w6 ⟨Bw6, Mw6⟩
  have z11 := Mw6.size
  refine sd_vv rfl rfl rfl (vv_assign rfl) ?_
  refine sd_done ?_
  refine sw_seq ?_
  refine sw_seq ?_
  -- region 2 cover.go:47
  refine sw_region [(0, 0), (1, 0)] rfl rfl rfl ?_
  refine sd_vv rfl rfl rfl (vv_move rfl) ?_
  refine sd_vv rfl rfl rfl (vv_neq (a := x1.2) (b := 0) rfl rfl) ?_
  refine sd_done ?_
  refine sw_cond rfl (fun c1 => ?_) (fun c1 => ?_)
  ·
    replace hm := ite_t (of_decide_eq_true c1) hm
    refine sw_seq ?_
    -- region 3 cover.go:48
    refine sw_region [(0, 0), (1, 0), (2, 0)] rfl rfl rfl ?_
    refine sd_vv rfl rfl rfl (vv_move rfl) ?_
    refine sd_vv rfl rfl rfl (vv_assign rfl) ?_
    refine sd_vv rfl rfl rfl (vv_assign rfl) ?_
    refine sd_done ?_
    refine sw_ret ?_
    refine then_r ?_
    have X12 : Gr w w6 := (Gr.md (Gr.trans (Gr.trans (Gr.trans (Gr.trans (Gr.trans (Gr.refl w) Gw1) Gw2) Gw3) Gw4) Gw5) Mw6)
    have hr := Option.some.inj hm
    subst hr
    refine ⟨_, _, rfl, res_2 rfl (rv_tmp rfl) (rv_tmp rfl), ?_⟩
    exact ⟨(.slice none 0 0), 0, 0, rfl, (own_nil _ 0 3 1), ⟨.inl rfl⟩, X12⟩
  ·
    replace hm := ite_f (of_decide_eq_false c1) hm
    refine sw_skip ?_
    refine then_n ?_
    refine sw_seq ?_
    -- region 4 cover.go:50
    refine sw_region [(0, 0), (1, 0), (2, 0), (3, 0), (4, 0)] rfl rfl rfl ?_
    refine sd_vv rfl rfl rfl (vv_loadW agg_134 rfl Bw6 rfl) ?_
    have B13 := (Bx.md (Bx.gr (Bx.gr (Bx.gr Bw2 Gw3) Gw4) Gw5) Mw6)
    refine sd_vv rfl rfl rfl (vv_loadW agg_47 rfl B13 rfl) ?_
    have hb := bnd hm; clear hm; obtain ⟨x2, hx2, hm⟩ := hb
    refine sd_ev rfl rfl rfl (ev_call en_75 rfl (cover_tree_members_w x1.1 p1 _ hx2 _)) ?_
    rintro u7_r0_s w7 ⟨_, z7_r0_s, g7_r0_s, rfl, O7_r0_s, f7_r0_s, Gw7⟩
    have z14 := Gw7.size
    have lt15 := O7_r0_s.lth
    refine sd_vv rfl rfl rfl (vv_assign rfl) ?_
    refine sd_vv rfl rfl rfl (vv_assign rfl) ?_
    refine sd_done ?_
    refine sw_ret ?_
    have X16 : Gr w w7 := (Gr.trans (Gr.md (Gr.trans (Gr.trans (Gr.trans (Gr.trans (Gr.trans (Gr.refl w) Gw1) Gw2) Gw3) Gw4) Gw5) Mw6) Gw7)
    have hr := Option.some.inj hm
    subst hr
    refine ⟨_, _, rfl, res_2 rfl (rv_tmp rfl) (rv_tmp rfl), ?_⟩
    exact ⟨u7_r0_s, z7_r0_s, g7_r0_s, rfl, O7_r0_s, ⟨(pv_0 (A := (fun x => w.heap.size ≤ x)) f7_r0_s)⟩, X16⟩

set_option maxHeartbeats 2000000 in
theorem cover_nodeKey_w (p0 : W2) (p1 : Int)  (r : W2) (hm : cover_nodeKey p0 p1 = some r) (w : World)   :
    Calls Try.prog 94 [kv p0, .int .i64 p1].toArray w fun e w' => ∃ v, e = .returned v ∧ (v = kv r ∧ Gr w w') := by
  unfold cover_nodeKey at hm
  refine calls_of_sw (R := fun v w' => v = kv r ∧ Gr w w') 9 Try.func94 rfl rfl rfl ?_
  refine sw_seq ?_
  -- region 0 cover.go:162
  refine sw_region [(0, 0), (1, 0)] rfl rfl rfl ?_
  refine sd_ev rfl rfl rfl (ev_box (cs := kb p0) rfl rfl) ?_
  rintro _ w1 ⟨b1, rfl, hbw1, Bw1, Gw1⟩
  have z1 := Gw1.size
  have lt2 := Bw1.lt
  refine sd_ev rfl rfl rfl (ev_alloc (cs := kb k0) zv_26 rfl) ?_
  rintro _ w2 ⟨b2, rfl, hbw2, Bw2, Gw2⟩
  have z3 := Gw2.size
  have lt4 := Bw2.lt
  refine sd_done ?_
  refine sw_seq ?_
  -- region 1 cover.go:162
  refine sw_region [(0, 0), (1, 0), (2, 0), (3, 0), (4, 0)] rfl rfl rfl ?_
  have B5 := (Bx.gr Bw1 Gw2)
  refine sd_vv rfl rfl rfl (vv_loadW agg_26 rfl B5 rfl) ?_
  refine sd_vv rfl rfl rfl (vv_move rfl) ?_
  refine sd_vv rfl rfl rfl (vv_cvIU cv_139_23 rfl) ?_
  refine sd_ev rfl rfl rfl (ev_call en_86 rfl (derive_c p0 (un8 30#8) (un8_nn _) (un8_le _) (wd p1) _)) ?_
  rintro _ w3 ⟨rfl, Gw3⟩
  have z6 := Gw3.size
  have B7 := (Bx.gr Bw2 Gw3)
  refine sd_ev rfl rfl rfl (ev_stM (cs' := kb (drv p0 (un8 30#8) (wd p1))) (vs := kb (drv p0 (un8 30#8) (wd p1))) (agg_26).siz rfl rfl rfl rfl rfl B7 rfl rfl) ?_
  rintro _ w4 ⟨Bw4, Mw4⟩
  have z8 := Mw4.size
  refine sd_done ?_
  refine sw_ret ?_
  have X9 : Gr w w4 := (Gr.md (Gr.trans (Gr.trans (Gr.trans (Gr.refl w) Gw1) Gw2) Gw3) Mw4)
  have hr := Option.some.inj hm
  subst hr
  refine ⟨_, _, rfl, res_1 rfl (rv_cellW agg_26 rfl Bw4 rfl), ?_⟩
  exact ⟨rfl, X9⟩

set_option maxHeartbeats 2000000 in
theorem cover_descend_w (p0 : W2) (p1 : Int) (p2 : Int)  (r : W2) (hm : cover_descend p0 p1 p2 = some r) (w : World)   :
    Calls Try.prog 93 [kv p0, .int .i64 p1, .int .i64 p2].toArray w fun e w' => ∃ v, e = .returned v ∧ (v = kv r ∧ Gr w w') := by
  unfold cover_descend at hm
  refine calls_of_sw (R := fun v w' => v = kv r ∧ Gr w w') 20 Try.func93 rfl rfl rfl ?_
  refine sw_seq ?_
  -- region 0 cover.go:147
  refine sw_region [(0, 0), (1, 0)] rfl rfl rfl ?_
  refine sd_ev rfl rfl rfl (ev_box (cs := kb p0) rfl rfl) ?_
  rintro _ w1 ⟨b1, rfl, hbw1, Bw1, Gw1⟩
  have z1 := Gw1.size
  have lt2 := Bw1.lt
  refine sd_ev rfl rfl rfl (ev_alloc (cs := kb k0) zv_26 rfl) ?_
  rintro _ w2 ⟨b2, rfl, hbw2, Bw2, Gw2⟩
  have z3 := Gw2.size
  have lt4 := Bw2.lt
  refine sd_done ?_
  refine sw_seq ?_
  refine sw_seq ?_
  -- region 1 cover.go:148
  refine sw_region [(0, 0), (1, 0), (2, 0)] rfl rfl rfl ?_
  refine sd_vv rfl rfl rfl (vv_move rfl) ?_
  refine sd_vv rfl rfl rfl (vv_move rfl) ?_
  have hb := bnd hm; clear hm; obtain ⟨x1, hx1, hm⟩ := hb
  refine sd_ev rfl rfl rfl (ev_call en_128 rfl (cover_path_w p1 p2 _ hx1 _)) ?_
  rintro _ w3 ⟨k3_c0_0, k3_c0_1, rfl, O3_c0_0, f3_c0_0, O3_c0_1, f3_c0_1, Gw3⟩
  have z5 := Gw3.size
  have lt6 := O3_c0_0.lt
  have lt7 := O3_c0_1.lt
  refine sd_done ?_
  refine sw_block ?_
  have hb := bnd hm; clear hm; obtain ⟨l2, hl2, hm⟩ := hb
  have X8 : Gr w w3 := (Gr.trans (Gr.trans (Gr.trans (Gr.refl w) Gw1) Gw2) Gw3)
  have B9 := (Bx.gr (Bx.gr Bw1 Gw2) Gw3)
  have B10 := (Bx.gr Bw2 Gw3)
  refine sw_rangeFunc (gf := 155) rfl en_155 (cover_path_1_it x1.1 x1.2 _ _ _ hl2 _ O3_c0_0 O3_c0_1) (by intro x hx; obtain ⟨a, _, rfl⟩ := List.mem_map.1 hx; rfl) rfl _ (fun _ _ _ _ => False) ([b1]) (stb_mk (α := W2) (fun a4 rk => itL cover_descend_R1 cover_descend_D1 (List.drop rk l2) a4 = some r) (fun a4 => ([b1])) (fun a4 W => Bx W b1 26 (kb a4) ∧ True) (by rintro a4 W ⟨F0, _⟩ b hb; have q0 := F0.lt; replace hb : b ∈ ([b1]) := hb; simp only [List.mem_cons, List.mem_append, mem_zf, List.not_mem_nil, or_false, false_or, not_or, ne_eq, List.nil_append, List.cons_append, true_and, and_true, false_and, and_false, not_true_eq_false, not_false_eq_true, or_true, true_or] at hb; omega) (by rintro a4 W W' ⟨F0, _⟩ E hs; replace hs : ∀ b ∈ ([b1]), W'.heap[b]? = W.heap[b]? := hs; exact ⟨(hs _ (by simp)).trans F0, trivial⟩)) (fun _ => stb_false) (by intro b hb; simp only [List.mem_cons, List.mem_append, mem_zf, List.not_mem_nil, or_false, false_or, not_or, ne_eq, List.nil_append, List.cons_append, true_and, and_true, false_and, and_false, not_true_eq_false, not_false_eq_true, or_true, true_or] at hb ⊢; omega) ⟨p0, hm, rfl, B9, trivial⟩ ?_ ?_ ?_
  · rintro l rk x fp w4 hl hx _ Kw4 hF hln hlt
    clear hm
    obtain ⟨e5, hxe, rfl⟩ := map_some hx
    have Zw4 : Kz [(1, b1)] w3 w4 := kz_of_kp Kw4 (by intro k hk; simp only [Nin, and_true, List.mem_cons, List.mem_append, mem_zf, List.not_mem_nil, or_false, false_or, not_or, ne_eq, List.nil_append, List.cons_append, true_and, and_true, false_and, and_false, not_true_eq_false, not_false_eq_true, or_true, true_or] at hk ⊢; omega)
    have z11 := Kw4.size
    -- region 2 cover.go:148
    refine sw_region [(0, 0)] rfl rfl rfl ?_
    refine sd_vv rfl rfl rfl (vv_assign rfl) ?_
    refine sd_nil ?_
    refine ⟨rfl, (Gr.refl _), ?_⟩
    rintro w5 Mw5 ⟨a4, hm, rfl, Fw5_0, -⟩
    have z12 := Mw5.size
    have lt13 := Fw5_0.lt
    replace hm := itL_at hm hxe
    generalize hnx1 : itL cover_descend_R1 cover_descend_D1 (List.drop (rk + 1) l2) = nx1 at hm
    unfold cover_descend_R1 at hm
    try dsimp only at hm
    refine sw_block ?_
    refine sw_seq ?_
    -- region 3 cover.go:149
    refine sw_region [(0, 0)] rfl rfl rfl ?_
    refine sd_vv rfl rfl rfl (vv_assign rfl) ?_
    refine sd_done ?_
    have X14 : Gr w w5 := (Gr.md (Gr.kz X8 Zw4) Mw5)
    refine sw_joinD (β := BitVec 8) [8, 13, 14, 15] (fun a6 => [(8, bv a6)]) (fun a6 wr => (cover_descend_J2 a4 nx1 a6 = some r) ∧ Kz [] w5 wr) ?_ ?_
    · clear hm; rintro a6 w6 ⟨hm, Kw6⟩
      have z15 := Kw6.size
      unfold cover_descend_J2 at hm
      -- region 6 cover.go:153
      refine sw_region [(0, 0), (1, 0), (2, 0), (3, 0)] rfl rfl rfl ?_
      have B16 := (Bx.kz Fw5_0 Kw6)
      refine sd_vv rfl rfl rfl (vv_loadW agg_26 rfl B16 rfl) ?_
      refine sd_vv rfl rfl rfl (vv_move rfl) ?_
      refine sd_ev rfl rfl rfl (ev_call en_86 rfl (derive_c a4 (un8 a6) (un8_nn _) (un8_le _) 0#64 _)) ?_
      rintro _ w7 ⟨rfl, Gw7⟩
      have z17 := Gw7.size
      have B18 := (Bx.gr B16 Gw7)
      refine sd_ev rfl rfl rfl (ev_stM (cs' := kb (drv a4 (un8 a6) 0#64)) (vs := kb (drv a4 (un8 a6) 0#64)) (agg_26).siz rfl rfl rfl rfl rfl B18 rfl rfl) ?_
      rintro _ w8 ⟨Bw8, Mw8⟩
      have z19 := Mw8.size
      refine sd_nil ?_
      refine block_n ?_
      have K_20 : Kz [(1, b1)] w5 w8 := (Kz.md (Kz.gr (Kz.kz (Kz.refl _ _) Kw6) Gw7) Mw8)
      have Kq20 : Kp ([b1]) w5 w8 := kp_of_kz K_20 (by intro k hk; simp only [Nin, and_true, List.mem_cons, List.mem_append, mem_zf, List.not_mem_nil, or_false, false_or, not_or, ne_eq, List.nil_append, List.cons_append, true_and, and_true, false_and, and_false, not_true_eq_false, not_false_eq_true, or_true, true_or] at hk ⊢; omega)
      subst hnx1
      exact ⟨Kq20, ([b1]), (by intro c hc; simp only [List.mem_cons, List.mem_append, mem_zf, List.not_mem_nil, or_false, false_or, not_or, ne_eq, List.nil_append, List.cons_append, true_and, and_true, false_and, and_false, not_true_eq_false, not_false_eq_true, or_true, true_or] at hc ⊢; omega), ⟨drv a4 (un8 a6) 0#64, hm, rfl, Bw8, trivial⟩⟩
    ·
      refine sw_seq ?_
      -- region 4 cover.go:150
      refine sw_region [(0, 0), (1, 0), (2, 0)] rfl rfl rfl ?_
      refine sd_vv rfl rfl rfl (vv_move rfl) ?_
      have hb := bnd hm; clear hm; obtain ⟨x7, hx7, hm⟩ := hb
      refine sd_vv rfl rfl rfl (vv_remI (a := e5) (b := 2) rfl rfl hx7) ?_
      refine sd_vv rfl rfl rfl (vv_eql (a := x7) (b := 1) rfl rfl) ?_
      refine sd_done ?_
      refine sw_cond rfl (fun c1 => ?_) (fun c1 => ?_)
      ·
        replace hm := ite_t (of_decide_eq_true c1) hm
        -- region 5 cover.go:151
        refine sw_region [(0, 0)] rfl rfl rfl ?_
        refine sd_vv rfl rfl rfl (vv_assign rfl) ?_
        refine sd_nil ?_
        have K_21 : Kz [] w5 w5 := (Kz.refl _ _)
        refine ⟨rfl, 32#8, ?_, hm, K_21⟩
        repeat' first | exact trivial | refine ⟨rfl, ?_⟩
      ·
        replace hm := ite_f (of_decide_eq_false c1) hm
        refine sw_skip ?_
        have K_22 : Kz [] w5 w5 := (Kz.refl _ _)
        refine ⟨rfl, 31#8, ?_, hm, K_22⟩
        repeat' first | exact trivial | refine ⟨rfl, ?_⟩
  · clear hm; rintro Dw9 fp w9 hDw9 Dfw9 nw9 ⟨a4, hm, rfl, Fw9_0, -⟩ Kw9
    replace hm := itL_end hm
    have Zw9 : Kz [(1, b1)] w3 w9 := kz_of_kp Kw9 (by intro k hk; simp only [Nin, and_true, List.mem_cons, List.mem_append, mem_zf, List.not_mem_nil, or_false, false_or, not_or, ne_eq, List.nil_append, List.cons_append, true_and, and_true, false_and, and_false, not_true_eq_false, not_false_eq_true, or_true, true_or] at hk ⊢; omega)
    have z23 := Kw9.size
    have lt24 := Df.lt (w := w9) Dfw9
    simp only [List.mem_cons, List.mem_append, mem_zf, List.not_mem_nil, or_false, false_or, not_or, ne_eq, List.nil_append, List.cons_append, true_and, and_true, false_and, and_false, not_true_eq_false, not_false_eq_true, or_true, true_or, not_and] at nw9
    have lt25 := Fw9_0.lt
    unfold cover_descend_D1 at hm
    try dsimp only at hm
    refine block_n ?_
    refine then_n ?_
    refine sw_seq ?_
    -- region 7 cover.go:155
    refine sw_region [(0, 0), (1, 0)] rfl rfl rfl ?_
    refine sd_vv rfl rfl rfl (vv_loadW agg_26 rfl Fw9_0 rfl) ?_
    have B26 := (Bx.kz B10 Zw9)
    refine sd_ev rfl rfl rfl (ev_stM (cs' := kb a4) (vs := kb a4) (agg_26).siz rfl rfl rfl rfl rfl B26 rfl rfl) ?_
    rintro _ w10 ⟨Bw10, Mw10⟩
    have z27 := Mw10.size
    refine sd_done ?_
    refine sw_ret ?_
    have DL28 := (Df.md Dfw9 Mw10)
    have L28 := Md.put (w := w10) Dw9 (.deferred none)
    have zL28 := L28.size
    have B29 := (Bx.md Bw10 L28)
    have X30 : Gr w (w10.putObj Dw9 (.deferred none)) := (Gr.md (Gr.md (Gr.kz X8 Zw9) Mw10) L28)
    have hr := Option.some.inj hm
    subst hr
    refine ⟨_, _, ⟨Dw9, rfl, DL28, rfl⟩, res_1 rfl (rv_cellW agg_26 rfl B29 rfl), ?_⟩
    exact ⟨rfl, X30⟩
  · rintro _ _ _ _ _ _ _ _ _ h _
    exact h.elim

set_option maxHeartbeats 2000000 in
theorem cover_middle_w (p0 : W2)  (r : W2) (hm : cover_middle p0 = some r) (w : World)   :
    Calls Try.prog 135 [kv p0].toArray w fun e w' => ∃ v, e = .returned v ∧ (v = kv r ∧ Gr w w') := by
  unfold cover_middle at hm
  refine calls_of_sw (R := fun v w' => v = kv r ∧ Gr w w') 5 Try.func135 rfl rfl rfl ?_
  refine sw_seq ?_
  -- region 0 cover.go:159
  refine sw_region [(0, 0), (1, 0)] rfl rfl rfl ?_
  refine sd_ev rfl rfl rfl (ev_box (cs := kb p0) rfl rfl) ?_
  rintro _ w1 ⟨b1, rfl, hbw1, Bw1, Gw1⟩
  have z1 := Gw1.size
  have lt2 := Bw1.lt
  refine sd_ev rfl rfl rfl (ev_alloc (cs := kb k0) zv_26 rfl) ?_
  rintro _ w2 ⟨b2, rfl, hbw2, Bw2, Gw2⟩
  have z3 := Gw2.size
  have lt4 := Bw2.lt
  refine sd_done ?_
  refine sw_seq ?_
  -- region 1 cover.go:159
  refine sw_region [(0, 0), (1, 0), (2, 0)] rfl rfl rfl ?_
  have B5 := (Bx.gr Bw1 Gw2)
  refine sd_vv rfl rfl rfl (vv_loadW agg_26 rfl B5 rfl) ?_
  refine sd_ev rfl rfl rfl (ev_call en_86 rfl (derive_c p0 (un8 33#8) (un8_nn _) (un8_le _) 0#64 _)) ?_
  rintro _ w3 ⟨rfl, Gw3⟩
  have z6 := Gw3.size
  have B7 := (Bx.gr Bw2 Gw3)
  refine sd_ev rfl rfl rfl (ev_stM (cs' := kb (drv p0 (un8 33#8) 0#64)) (vs := kb (drv p0 (un8 33#8) 0#64)) (agg_26).siz rfl rfl rfl rfl rfl B7 rfl rfl) ?_
  rintro _ w4 ⟨Bw4, Mw4⟩
  have z8 := Mw4.size
  refine sd_done ?_
  refine sw_ret ?_
  have X9 : Gr w w4 := (Gr.md (Gr.trans (Gr.trans (Gr.trans (Gr.refl w) Gw1) Gw2) Gw3) Mw4)
  have hr := Option.some.inj hm
  subst hr
  refine ⟨_, _, rfl, res_1 rfl (rv_cellW agg_26 rfl Bw4 rfl), ?_⟩
  exact ⟨rfl, X9⟩

set_option maxHeartbeats 2000000 in
theorem cover_tree_key_w (p0 : Tcover_tree) (p1 : W2) (p2 : TSubset)  (r : W2) (hm : cover_tree_key p0 p1 p2 = some r) (w : World)   :
    Calls Try.prog 88 [.agg (Tcover_tree.cs p0).toArray, kv p1, .agg (TSubset.cs p2).toArray].toArray w fun e w' => ∃ v, e = .returned v ∧ (v = kv r ∧ Gr w w') := by
  unfold cover_tree_key at hm
  refine calls_of_sw (R := fun v w' => v = kv r ∧ Gr w w') 32 Try.func88 rfl rfl rfl ?_
  refine sw_seq ?_
  -- region 0 cover.go:165
  refine sw_region [(0, 0), (1, 0), (2, 0), (3, 0)] rfl rfl rfl ?_
  refine sd_ev rfl rfl rfl (ev_box (cs := Tcover_tree.cs p0) rfl rfl) ?_
  rintro _ w1 ⟨b1, rfl, hbw1, Bw1, Gw1⟩
  have z1 := Gw1.size
  have lt2 := Bw1.lt
  refine sd_ev rfl rfl rfl (ev_box (cs := kb p1) rfl rfl) ?_
  rintro _ w2 ⟨b2, rfl, hbw2, Bw2, Gw2⟩
  have z3 := Gw2.size
  have lt4 := Bw2.lt
  refine sd_ev rfl rfl rfl (ev_box (cs := TSubset.cs p2) rfl rfl) ?_
  rintro _ w3 ⟨b3, rfl, hbw3, Bw3, Gw3⟩
  have z5 := Gw3.size
  have lt6 := Bw3.lt
  refine sd_ev rfl rfl rfl (ev_alloc (cs := kb k0) zv_26 rfl) ?_
  rintro _ w4 ⟨b4, rfl, hbw4, Bw4, Gw4⟩
  have z7 := Gw4.size
  have lt8 := Bw4.lt
  refine sd_done ?_
  refine sw_seq ?_
  -- region 1 cover.go:166 DRAWS
  refine sw_drawN [([])] [] (.leaf [(0, 10), (1, 10), (2, 10), (3, 10), (4, 10), (5, 10)]) (by kernel_rfl) (by kernel_rfl) rfl (by kernel_rfl) ?_
  intro w5 Gw5 zw5
  refine sdz_leaf ?_
  refine dd_hn 0 rfl rfl rfl rfl (Kp.refl ([]) w5) (fun w hS => vv_fieldAddr fa_47_0 rfl) ?_
  have B9 := (Bx.gr (Bx.gr Bw3 Gw4) Gw5)
  refine dd_hn 0 rfl rfl rfl rfl (Kp.refl ([]) w5) (fun w hS => vv_load1 (v := .int .i64 p2.Node) one_3 rfl (Bx.kp B9 hS) rfl) ?_
  refine dd_hn 0 rfl rfl rfl rfl (Kp.refl ([]) w5) (fun w hS => vv_fieldAddr fa_47_1 rfl) ?_
  refine dd_hn 0 rfl rfl rfl rfl (Kp.refl ([]) w5) (fun w hS => vv_load1 (v := .int .i64 p2.Minus) one_3 rfl (Bx.kp B9 hS) rfl) ?_
  refine dd_hn 0 rfl rfl rfl rfl (Kp.refl ([]) w5) (fun w hS => vv_assign rfl) ?_
  refine dd_hn 0 rfl rfl rfl rfl (Kp.refl ([]) w5) (fun w hS => vv_assign rfl) ?_
  refine sd_done ?_
  refine sw_seq ?_
  refine sw_block ?_
  refine sw_seq ?_
  -- region 2 cover.go:168
  refine sw_region [(0, 0), (1, 0), (2, 0), (3, 0)] rfl rfl rfl ?_
  refine sd_vv rfl rfl rfl (vv_fieldAddr fa_134_0 rfl) ?_
  have B10 := (Bx.gr (Bx.gr (Bx.gr (Bx.gr Bw1 Gw2) Gw3) Gw4) Gw5)
  refine sd_vv rfl rfl rfl (vv_load1 (v := bv p0.kind) one_5 rfl B10 rfl) ?_
  refine sd_vv rfl rfl rfl (vv_eqlB (p := p0.kind) (q := 1#8) rfl rfl) ?_
  refine sd_vv rfl rfl rfl (vv_assign rfl) ?_
  refine sd_done ?_
  refine sw_cond rfl (fun c1 => ?_) (fun c1 => ?_)
  ·
    replace hm := ite_t (of_decide_eq_true c1) hm
    refine sw_seq ?_
    -- region 3 cover.go:169
    refine sw_region [(0, 0), (1, 0), (2, 0), (3, 0)] rfl rfl rfl ?_
    have B11 := (Bx.gr (Bx.gr (Bx.gr Bw2 Gw3) Gw4) Gw5)
    refine sd_vv rfl rfl rfl (vv_loadW agg_26 rfl B11 rfl) ?_
    refine sd_vv rfl rfl rfl (vv_move rfl) ?_
    have hb := bnd hm; clear hm; obtain ⟨x1, hx1, hm⟩ := hb
    refine sd_ev rfl rfl rfl (ev_call en_94 rfl (cover_nodeKey_w p1 p2.Node _ hx1 _)) ?_
    rintro _ w6 ⟨rfl, Gw6⟩
    have z12 := Gw6.size
    have B13 := (Bx.gr (Bx.gr Bw4 Gw5) Gw6)
    refine sd_ev rfl rfl rfl (ev_stM (cs' := kb x1) (vs := kb x1) (agg_26).siz rfl rfl rfl rfl rfl B13 rfl rfl) ?_
    rintro _ w7 ⟨Bw7, Mw7⟩
    have z14 := Mw7.size
    refine sd_done ?_
    refine sw_ret ?_
    refine block_r ?_
    refine then_r ?_
    have X15 : Gr w w7 := (Gr.md (Gr.trans (Gr.trans (Gr.trans (Gr.trans (Gr.trans (Gr.trans (Gr.refl w) Gw1) Gw2) Gw3) Gw4) Gw5) Gw6) Mw7)
    have hr := Option.some.inj hm
    subst hr
    refine ⟨_, _, rfl, res_1 rfl (rv_cellW agg_26 rfl Bw7 rfl), ?_⟩
    exact ⟨rfl, X15⟩
  ·
    replace hm := ite_f (of_decide_eq_false c1) hm
    refine sw_seq ?_
    -- region 4 cover.go:170
    refine sw_region [(0, 0), (1, 0), (2, 0)] rfl rfl rfl ?_
    refine sd_vv rfl rfl rfl (vv_move rfl) ?_
    refine sd_vv rfl rfl rfl (vv_eql (a := p2.Minus) (b := 0) rfl rfl) ?_
    refine sd_vv rfl rfl rfl (vv_assign rfl) ?_
    refine sd_done ?_
    refine sw_cond rfl (fun c2 => ?_) (fun c2 => ?_)
    ·
      replace hm := ite_t (of_decide_eq_true c2) hm
      refine sw_seq ?_
      -- region 5 cover.go:171
      refine sw_region [(0, 0), (1, 0), (2, 0)] rfl rfl rfl ?_
      have B16 := (Bx.gr (Bx.gr (Bx.gr Bw2 Gw3) Gw4) Gw5)
      refine sd_vv rfl rfl rfl (vv_loadW agg_26 rfl B16 rfl) ?_
      refine sd_ev rfl rfl rfl (ev_call en_86 rfl (derive_c p1 (un8 34#8) (un8_nn _) (un8_le _) 0#64 _)) ?_
      rintro _ w8 ⟨rfl, Gw8⟩
      have z17 := Gw8.size
      have B18 := (Bx.gr (Bx.gr Bw4 Gw5) Gw8)
      refine sd_ev rfl rfl rfl (ev_stM (cs' := kb (drv p1 (un8 34#8) 0#64)) (vs := kb (drv p1 (un8 34#8) 0#64)) (agg_26).siz rfl rfl rfl rfl rfl B18 rfl rfl) ?_
      rintro _ w9 ⟨Bw9, Mw9⟩
      have z19 := Mw9.size
      refine sd_done ?_
      refine sw_ret ?_
      refine block_r ?_
      refine then_r ?_
      have X20 : Gr w w9 := (Gr.md (Gr.trans (Gr.trans (Gr.trans (Gr.trans (Gr.trans (Gr.trans (Gr.refl w) Gw1) Gw2) Gw3) Gw4) Gw5) Gw8) Mw9)
      have hr := Option.some.inj hm
      subst hr
      refine ⟨_, _, rfl, res_1 rfl (rv_cellW agg_26 rfl Bw9 rfl), ?_⟩
      exact ⟨rfl, X20⟩
    ·
      replace hm := ite_f (of_decide_eq_false c2) hm
      refine sw_skip ?_
      refine block_n ?_
      refine then_n ?_
      refine sw_seq ?_
      -- region 6 cover.go:173
      refine sw_region [(0, 0), (1, 0), (2, 0), (3, 0), (4, 0), (5, 0), (6, 0), (7, 0)] rfl rfl rfl ?_
      have B21 := (Bx.gr (Bx.gr (Bx.gr Bw2 Gw3) Gw4) Gw5)
      refine sd_vv rfl rfl rfl (vv_loadW agg_26 rfl B21 rfl) ?_
      refine sd_vv rfl rfl rfl (vv_move rfl) ?_
      have hb := bnd hm; clear hm; obtain ⟨x2, hx2, hm⟩ := hb
      refine sd_ev rfl rfl rfl (ev_call en_94 rfl (cover_nodeKey_w p1 p2.Node _ hx2 _)) ?_
      rintro _ w10 ⟨rfl, Gw10⟩
      have z22 := Gw10.size
      refine sd_vv rfl rfl rfl (vv_move rfl) ?_
      refine sd_vv rfl rfl rfl (vv_move rfl) ?_
      have hb := bnd hm; clear hm; obtain ⟨x3, hx3, hm⟩ := hb
      refine sd_ev rfl rfl rfl (ev_call en_93 rfl (cover_descend_w x2 p2.Node p2.Minus _ hx3 _)) ?_
      rintro _ w11 ⟨rfl, Gw11⟩
      have z23 := Gw11.size
      have hb := bnd hm; clear hm; obtain ⟨x4, hx4, hm⟩ := hb
      refine sd_ev rfl rfl rfl (ev_call en_135 rfl (cover_middle_w x3 _ hx4 _)) ?_
      rintro _ w12 ⟨rfl, Gw12⟩
      have z24 := Gw12.size
      have B25 := (Bx.gr (Bx.gr (Bx.gr (Bx.gr Bw4 Gw5) Gw10) Gw11) Gw12)
      refine sd_ev rfl rfl rfl (ev_stM (cs' := kb x4) (vs := kb x4) (agg_26).siz rfl rfl rfl rfl rfl B25 rfl rfl) ?_
      rintro _ w13 ⟨Bw13, Mw13⟩
      have z26 := Mw13.size
      refine sd_done ?_
      refine sw_ret ?_
      have X27 : Gr w w13 := (Gr.md (Gr.trans (Gr.trans (Gr.trans (Gr.trans (Gr.trans (Gr.trans (Gr.trans (Gr.trans (Gr.refl w) Gw1) Gw2) Gw3) Gw4) Gw5) Gw10) Gw11) Gw12) Mw13)
      have hr := Option.some.inj hm
      subst hr
      refine ⟨_, _, rfl, res_1 rfl (rv_cellW agg_26 rfl Bw13 rfl), ?_⟩
      exact ⟨rfl, X27⟩

set_option maxHeartbeats 2000000 in
theorem cover_SubsetKey_w (p0 : W2) (p1 : TScheme) (p2 : TSubset)  (r : W2 × Int) (hm : cover_SubsetKey p0 p1 p2 = some r) (w : World)   :
    Calls Try.prog 46 [kv p0, .agg (TScheme.cs p1).toArray, .agg (TSubset.cs p2).toArray].toArray w fun e w' => ∃ v, e = .returned v ∧ (v = .tuple [kv r.1, .int .i64 r.2].toArray ∧ Gr w w') := by
  unfold cover_SubsetKey at hm
  refine calls_of_sw (R := fun v w' => v = .tuple [kv r.1, .int .i64 r.2].toArray ∧ Gr w w') 25 Try.func46 rfl rfl rfl ?_
  refine sw_seq ?_
  -- region 0 cover.go:199
  refine sw_region [(0, 0), (1, 0), (2, 0), (3, 0), (4, 0)] rfl rfl rfl ?_
  refine sd_ev rfl rfl rfl (ev_box (cs := kb p0) rfl rfl) ?_
  rintro _ w1 ⟨b1, rfl, hbw1, Bw1, Gw1⟩
  have z1 := Gw1.size
  have lt2 := Bw1.lt
  refine sd_ev rfl rfl rfl (ev_box (cs := TScheme.cs p1) rfl rfl) ?_
  rintro _ w2 ⟨b2, rfl, hbw2, Bw2, Gw2⟩
  have z3 := Gw2.size
  have lt4 := Bw2.lt
  refine sd_ev rfl rfl rfl (ev_box (cs := TSubset.cs p2) rfl rfl) ?_
  rintro _ w3 ⟨b3, rfl, hbw3, Bw3, Gw3⟩
  have z5 := Gw3.size
  have lt6 := Bw3.lt
  refine sd_ev rfl rfl rfl (ev_alloc (cs := kb k0) zv_26 rfl) ?_
  rintro _ w4 ⟨b4, rfl, hbw4, Bw4, Gw4⟩
  have z7 := Gw4.size
  have lt8 := Bw4.lt
  refine sd_vv rfl rfl rfl (vv_assign rfl) ?_
  refine sd_done ?_
  refine sw_seq ?_
  -- region 1 cover.go:200
  refine sw_region [(0, 0), (1, 0), (2, 0), (3, 0), (4, 0), (5, 0), (6, 0), (7, 0), (8, 0), (9, 0)] rfl rfl rfl ?_
  have B9 := (Bx.gr (Bx.gr Bw2 Gw3) Gw4)
  refine sd_vv rfl rfl rfl (vv_loadW agg_45 rfl B9 rfl) ?_
  have B10 := (Bx.gr Bw3 Gw4)
  refine sd_vv rfl rfl rfl (vv_loadW agg_47 rfl B10 rfl) ?_
  refine sd_ev rfl rfl rfl (ev_litT [p2] TSubset.cs bsl_48_1 rfl rfl (ws_of rfl) rfl rfl rfl) ?_
  rintro vw5 w5 ⟨gw5, hbw5, Ow5, Gw5⟩
  have z11 := Gw5.size
  have lt12 := Ow5.lth
  have hb := bnd hm; clear hm; obtain ⟨x1, hx1, hm⟩ := hb
  refine sd_ev rfl rfl rfl (ev_call en_74 rfl (cover_enter_w p1 [p2] _ _ _ _ _ hx1 _ (Own.rd Ow5))) ?_
  rintro _ w6 ⟨rfl, Gw6⟩
  have z13 := Gw6.size
  refine sd_vv rfl rfl rfl (vv_move rfl) ?_
  refine sd_vv rfl rfl rfl (vv_extract rfl rfl) ?_
  refine sd_vv rfl rfl rfl (vv_extract rfl rfl) ?_
  refine sd_ev rfl rfl rfl (ev_alloc (cs := Tcover_tree.cs (Tcover_tree.mk 0#8 0 0)) zv_134 rfl) ?_
  rintro _ w7 ⟨b7, rfl, hbw7, Bw7, Gw7⟩
  have z14 := Gw7.size
  have lt15 := Bw7.lt
  refine sd_ev rfl rfl rfl (ev_stM (cs' := Tcover_tree.cs x1.1) (vs := Tcover_tree.cs x1.1) (agg_134).siz rfl rfl rfl rfl rfl Bw7 rfl rfl) ?_
  rintro _ w8 ⟨Bw8, Mw8⟩
  have z16 := Mw8.size
  refine sd_vv rfl rfl rfl (vv_assign rfl) ?_
  refine sd_done ?_
  refine sw_seq ?_
  refine sw_seq ?_
  -- region 2 cover.go:201
  refine sw_region [(0, 0), (1, 0)] rfl rfl rfl ?_
  refine sd_vv rfl rfl rfl (vv_move rfl) ?_
  refine sd_vv rfl rfl rfl (vv_neq (a := x1.2) (b := 0) rfl rfl) ?_
  refine sd_done ?_
  refine sw_cond rfl (fun c1 => ?_) (fun c1 => ?_)
  ·
    replace hm := ite_t (of_decide_eq_true c1) hm
    refine sw_seq ?_
    -- region 3 cover.go:202
    refine sw_region [(0, 0), (1, 0), (2, 0), (3, 0)] rfl rfl rfl ?_
    refine sd_vv rfl rfl rfl (vv_buildZ bz_26) ?_
    refine sd_vv rfl rfl rfl (vv_move rfl) ?_
    have B17 := (Bx.md (Bx.gr (Bx.gr (Bx.gr Bw4 Gw5) Gw6) Gw7) Mw8)
    refine sd_ev rfl rfl rfl (ev_stM (cs' := kb k0) (vs := kb k0) (agg_26).siz rfl rfl rfl rfl rfl B17 rfl rfl) ?_
    rintro _ w9 ⟨Bw9, Mw9⟩
    have z18 := Mw9.size
    refine sd_vv rfl rfl rfl (vv_assign rfl) ?_
    refine sd_done ?_
    refine sw_ret ?_
    refine then_r ?_
    have X19 : Gr w w9 := (Gr.md (Gr.md (Gr.trans (Gr.trans (Gr.trans (Gr.trans (Gr.trans (Gr.trans (Gr.trans (Gr.refl w) Gw1) Gw2) Gw3) Gw4) Gw5) Gw6) Gw7) Mw8) Mw9)
    have hr := Option.some.inj hm
    subst hr
    refine ⟨_, _, rfl, res_2 rfl (rv_cellW agg_26 rfl Bw9 rfl) (rv_tmp rfl), ?_⟩
    exact ⟨rfl, X19⟩
  ·
    replace hm := ite_f (of_decide_eq_false c1) hm
    refine sw_skip ?_
    refine then_n ?_
    refine sw_seq ?_
    -- region 4 cover.go:204
    refine sw_region [(0, 0), (1, 0), (2, 0), (3, 0), (4, 0), (5, 0)] rfl rfl rfl ?_
    refine sd_vv rfl rfl rfl (vv_loadW agg_134 rfl Bw8 rfl) ?_
    have B20 := (Bx.md (Bx.gr (Bx.gr (Bx.gr (Bx.gr (Bx.gr (Bx.gr Bw1 Gw2) Gw3) Gw4) Gw5) Gw6) Gw7) Mw8)
    refine sd_vv rfl rfl rfl (vv_loadW agg_26 rfl B20 rfl) ?_
    have B21 := (Bx.md (Bx.gr (Bx.gr (Bx.gr B10 Gw5) Gw6) Gw7) Mw8)
    refine sd_vv rfl rfl rfl (vv_loadW agg_47 rfl B21 rfl) ?_
    have hb := bnd hm; clear hm; obtain ⟨x2, hx2, hm⟩ := hb
    refine sd_ev rfl rfl rfl (ev_call en_88 rfl (cover_tree_key_w x1.1 p0 p2 _ hx2 _)) ?_
    rintro _ w10 ⟨rfl, Gw10⟩
    have z22 := Gw10.size
    have B23 := (Bx.gr (Bx.md (Bx.gr (Bx.gr (Bx.gr Bw4 Gw5) Gw6) Gw7) Mw8) Gw10)
    refine sd_ev rfl rfl rfl (ev_stM (cs' := kb x2) (vs := kb x2) (agg_26).siz rfl rfl rfl rfl rfl B23 rfl rfl) ?_
    rintro _ w11 ⟨Bw11, Mw11⟩
    have z24 := Mw11.size
    refine sd_vv rfl rfl rfl (vv_assign rfl) ?_
    refine sd_done ?_
    refine sw_ret ?_
    have X25 : Gr w w11 := (Gr.md (Gr.trans (Gr.md (Gr.trans (Gr.trans (Gr.trans (Gr.trans (Gr.trans (Gr.trans (Gr.trans (Gr.refl w) Gw1) Gw2) Gw3) Gw4) Gw5) Gw6) Gw7) Mw8) Gw10) Mw11)
    have hr := Option.some.inj hm
    subst hr
    refine ⟨_, _, rfl, res_2 rfl (rv_cellW agg_26 rfl Bw11 rfl) (rv_tmp rfl), ?_⟩
    exact ⟨rfl, X25⟩

set_option maxHeartbeats 2000000 in
theorem cover_tree_leads_w (p0 : Tcover_tree) (p1 : TLabel) (p2 : TSubset)  (r : Bool) (hm : cover_tree_leads p0 p1 p2 = some r) (w : World)   :
    Calls Try.prog 104 [.agg (Tcover_tree.cs p0).toArray, .agg (TLabel.cs p1).toArray, .agg (TSubset.cs p2).toArray].toArray w fun e w' => ∃ v, e = .returned v ∧ (v = .bool r ∧ Gr w w') := by
  unfold cover_tree_leads at hm
  refine calls_of_sw (R := fun v w' => v = .bool r ∧ Gr w w') 38 Try.func104 rfl rfl rfl ?_
  refine sw_seq ?_
  -- region 0 tree.go:120
  refine sw_region [(0, 0), (1, 0), (2, 0), (3, 0)] rfl rfl rfl ?_
  refine sd_ev rfl rfl rfl (ev_box (cs := Tcover_tree.cs p0) rfl rfl) ?_
  rintro _ w1 ⟨b1, rfl, hbw1, Bw1, Gw1⟩
  have z1 := Gw1.size
  have lt2 := Bw1.lt
  refine sd_ev rfl rfl rfl (ev_box (cs := TLabel.cs p1) rfl rfl) ?_
  rintro _ w2 ⟨b2, rfl, hbw2, Bw2, Gw2⟩
  have z3 := Gw2.size
  have lt4 := Bw2.lt
  refine sd_ev rfl rfl rfl (ev_box (cs := TSubset.cs p2) rfl rfl) ?_
  rintro _ w3 ⟨b3, rfl, hbw3, Bw3, Gw3⟩
  have z5 := Gw3.size
  have lt6 := Bw3.lt
  refine sd_vv rfl rfl rfl (vv_assign rfl) ?_
  refine sd_done ?_
  refine sw_seq ?_
  refine sw_seq ?_
  -- region 1 tree.go:121
  refine sw_region [(0, 0), (1, 0), (2, 0), (3, 0), (4, 0)] rfl rfl rfl ?_
  refine sd_vv rfl rfl rfl (vv_fieldAddr fa_81_0 rfl) ?_
  have B7 := (Bx.gr Bw2 Gw3)
  refine sd_vv rfl rfl rfl (vv_load1 (v := .int .i64 p1.Node) one_3 rfl B7 rfl) ?_
  refine sd_vv rfl rfl rfl (vv_fieldAddr fa_47_0 rfl) ?_
  refine sd_vv rfl rfl rfl (vv_load1 (v := .int .i64 p2.Node) one_3 rfl Bw3 rfl) ?_
  refine sd_vv rfl rfl rfl (vv_neq (a := p1.Node) (b := p2.Node) rfl rfl) ?_
  refine sd_done ?_
  refine sw_cond rfl (fun c1 => ?_) (fun c1 => ?_)
  ·
    replace hm := ite_t (of_decide_eq_true c1) hm
    refine sw_seq ?_
    -- region 2 tree.go:122
    refine sw_region [(0, 0)] rfl rfl rfl ?_
    refine sd_vv rfl rfl rfl (vv_assign rfl) ?_
    refine sd_done ?_
    refine sw_ret ?_
    refine then_r ?_
    have X8 : Gr w w3 := (Gr.trans (Gr.trans (Gr.trans (Gr.refl w) Gw1) Gw2) Gw3)
    have hr := Option.some.inj hm
    subst hr
    refine ⟨_, _, rfl, res_1 rfl (rv_tmp rfl), ?_⟩
    exact ⟨rfl, X8⟩
  ·
    replace hm := ite_f (of_decide_eq_false c1) hm
    refine sw_skip ?_
    refine then_n ?_
    refine sw_seq ?_
    have X9 : Gr w w3 := (Gr.trans (Gr.trans (Gr.trans (Gr.refl w) Gw1) Gw2) Gw3)
    refine sw_joinD (β := Bool) [13, 14, 15, 16, 17, 18, 19, 20] (fun a1 => [(20, .bool a1)]) (fun a1 wr => (cover_tree_leads_J1 p1 p2 a1 = some r) ∧ Kz [] w3 wr) ?_ ?_
    · clear hm; rintro a1 w4 ⟨hm, Kw4⟩
      have z10 := Kw4.size
      unfold cover_tree_leads_J1 at hm
      refine sw_cond rfl (fun c2 => ?_) (fun c2 => ?_)
      ·
        replace hm := cnd_t c2 hm
        refine sw_seq ?_
        -- region 4 tree.go:125
        refine sw_region [(0, 0), (1, 0), (2, 0), (3, 0), (4, 0), (5, 0)] rfl rfl rfl ?_
        refine sd_vv rfl rfl rfl (vv_fieldAddr fa_81_1 rfl) ?_
        have B11 := (Bx.kz B7 Kw4)
        refine sd_vv rfl rfl rfl (vv_load1 (v := .int .i64 p1.Minus) one_3 rfl B11 rfl) ?_
        refine sd_vv rfl rfl rfl (vv_fieldAddr fa_47_1 rfl) ?_
        have B12 := (Bx.kz Bw3 Kw4)
        refine sd_vv rfl rfl rfl (vv_load1 (v := .int .i64 p2.Minus) one_3 rfl B12 rfl) ?_
        refine sd_vv rfl rfl rfl (vv_eql (a := p1.Minus) (b := p2.Minus) rfl rfl) ?_
        refine sd_vv rfl rfl rfl (vv_assign rfl) ?_
        refine sd_done ?_
        refine sw_ret ?_
        refine then_r ?_
        have X13 : Gr w w4 := (Gr.kz X9 Kw4)
        have hr := Option.some.inj hm
        subst hr
        refine ⟨_, _, rfl, res_1 rfl (rv_tmp rfl), ?_⟩
        exact ⟨rfl, X13⟩
      ·
        replace hm := cnd_f c2 hm
        refine sw_skip ?_
        refine then_n ?_
        refine sw_seq ?_
        -- region 5 tree.go:127
        refine sw_region [(0, 0), (1, 0), (2, 0)] rfl rfl rfl ?_
        refine sd_vv rfl rfl rfl (vv_fieldAddr fa_81_1 rfl) ?_
        have B14 := (Bx.kz B7 Kw4)
        refine sd_vv rfl rfl rfl (vv_load1 (v := .int .i64 p1.Minus) one_3 rfl B14 rfl) ?_
        refine sd_vv rfl rfl rfl (vv_assign rfl) ?_
        refine sd_done ?_
        refine sw_seq ?_
        -- region 6 tree.go:128
        refine sw_region [(0, 0), (1, 0), (2, 0), (3, 0), (4, 0), (5, 0), (6, 0), (7, 0), (8, 0), (9, 0), (10, 0)] rfl rfl rfl ?_
        refine sd_vv rfl rfl rfl (vv_move rfl) ?_
        refine sd_vv rfl rfl rfl (vv_fieldAddr fa_81_0 rfl) ?_
        refine sd_vv rfl rfl rfl (vv_load1 (v := .int .i64 p1.Node) one_3 rfl B14 rfl) ?_
        have hb := bnd hm; clear hm; obtain ⟨x2, hx2, hm⟩ := hb
        refine sd_ev rfl rfl rfl (ev_call en_126 rfl (cover_node_below_w p1.Minus p1.Node _ hx2 _)) ?_
        rintro _ w5 ⟨rfl, Gw5⟩
        have z15 := Gw5.size
        refine sd_split rfl rfl rfl (vv_move rfl) (fun c3 => ?_) (fun c3 => ?_)
        ·
          replace hm := cnd_t c3 hm
          refine sd_vv rfl rfl rfl (vv_fieldAddr fa_47_1 rfl) ?_
          have B16 := (Bx.gr (Bx.kz Bw3 Kw4) Gw5)
          refine sd_vv rfl rfl rfl (vv_load1 (v := .int .i64 p2.Minus) one_3 rfl B16 rfl) ?_
          refine sd_vv rfl rfl rfl (vv_move rfl) ?_
          have hb := bnd hm; clear hm; obtain ⟨x3, hx3, hm⟩ := hb
          refine sd_ev rfl rfl rfl (ev_call en_126 rfl (cover_node_below_w p2.Minus p1.Minus _ hx3 _)) ?_
          rintro _ w6 ⟨rfl, Gw6⟩
          have z17 := Gw6.size
          refine sd_vv rfl rfl rfl (vv_pickT rfl rfl) ?_
          refine sd_vv rfl rfl rfl (vv_assign rfl) ?_
          refine sd_done ?_
          refine sw_ret ?_
          have X18 : Gr w w6 := (Gr.trans (Gr.trans (Gr.kz X9 Kw4) Gw5) Gw6)
          have hr := Option.some.inj hm
          subst hr
          refine ⟨_, _, rfl, res_1 rfl (rv_tmp rfl), ?_⟩
          exact ⟨rfl, X18⟩
        ·
          replace hm := cnd_f c3 hm
          refine sd_skip rfl rfl rfl ?_
          refine sd_skip rfl rfl rfl ?_
          refine sd_skip rfl rfl rfl ?_
          refine sd_skip rfl rfl rfl ?_
          refine sd_vv rfl rfl rfl (vv_pickF rfl rfl) ?_
          refine sd_vv rfl rfl rfl (vv_assign rfl) ?_
          refine sd_done ?_
          refine sw_ret ?_
          have X19 : Gr w w5 := (Gr.trans (Gr.kz X9 Kw4) Gw5)
          have hr := Option.some.inj hm
          subst hr
          refine ⟨_, _, rfl, res_1 rfl (rv_tmp rfl), ?_⟩
          exact ⟨rfl, X19⟩
    ·
      -- region 3 tree.go:124
      refine sw_region [(0, 0), (1, 0), (2, 0), (3, 0), (4, 0), (5, 0), (6, 0), (7, 0)] rfl rfl rfl ?_
      refine sd_vv rfl rfl rfl (vv_fieldAddr fa_134_0 rfl) ?_
      have B20 := (Bx.gr (Bx.gr Bw1 Gw2) Gw3)
      refine sd_vv rfl rfl rfl (vv_load1 (v := bv p0.kind) one_5 rfl B20 rfl) ?_
      refine sd_vv rfl rfl rfl (vv_eqlB (p := p0.kind) (q := 1#8) rfl rfl) ?_
      refine sd_split rfl rfl rfl (vv_move rfl) (fun c4 => ?_) (fun c4 => ?_)
      ·
        replace hm := ite_t (of_decide_eq_true c4) hm
        refine sd_skip rfl rfl rfl ?_
        refine sd_skip rfl rfl rfl ?_
        refine sd_skip rfl rfl rfl ?_
        refine sd_vv rfl rfl rfl (vv_pickT rfl rfl) ?_
        refine sd_nil ?_
        have K_21 : Kz [] w3 w3 := (Kz.refl _ _)
        refine ⟨rfl, true, ?_, hm, K_21⟩
        repeat' first | exact trivial | refine ⟨rfl, ?_⟩
      ·
        replace hm := ite_f (of_decide_eq_false c4) hm
        refine sd_vv rfl rfl rfl (vv_fieldAddr fa_47_1 rfl) ?_
        refine sd_vv rfl rfl rfl (vv_load1 (v := .int .i64 p2.Minus) one_3 rfl Bw3 rfl) ?_
        refine sd_vv rfl rfl rfl (vv_eql (a := p2.Minus) (b := 0) rfl rfl) ?_
        refine sd_vv rfl rfl rfl (vv_pickF rfl rfl) ?_
        refine sd_nil ?_
        have K_22 : Kz [] w3 w3 := (Kz.refl _ _)
        refine ⟨rfl, (decide (p2.Minus = 0)), ?_, hm, K_22⟩
        repeat' first | exact trivial | refine ⟨rfl, ?_⟩

set_option maxHeartbeats 2000000 in
theorem cover_tree_find_w (p0 : Tcover_tree) (p1 : TSecret) (p2 : TSubset) (vp1_1 : Value) (zp1_1 gp1_1 op1_1 : Nat) (r : W2 × Bool) (hm : cover_tree_find p0 p1 p2 = some r) (w : World) (hp1_1 : Rd w zp1_1 gp1_1 op1_1 18 vp1_1 (p1.Labels.map TLabel.cs))  :
    Calls Try.prog 99 [.agg (Tcover_tree.cs p0).toArray, .agg (TSecret.cs p1 vp1_1).toArray, .agg (TSubset.cs p2).toArray].toArray w fun e w' => ∃ v, e = .returned v ∧ (v = .tuple [kv r.1, .bool r.2].toArray ∧ Gr w w') := by
  have lt1 := hp1_1.lth
  unfold cover_tree_find at hm
  refine calls_of_sw (R := fun v w' => v = .tuple [kv r.1, .bool r.2].toArray ∧ Gr w w') 44 Try.func99 rfl rfl rfl ?_
  refine sw_seq ?_
  -- region 0 cover.go:208
  refine sw_region [(0, 0), (1, 0), (2, 0), (3, 0), (4, 0)] rfl rfl rfl ?_
  refine sd_ev rfl rfl rfl (ev_box (cs := Tcover_tree.cs p0) rfl rfl) ?_
  rintro _ w1 ⟨b1, rfl, hbw1, Bw1, Gw1⟩
  have z2 := Gw1.size
  have lt3 := Bw1.lt
  refine sd_ev rfl rfl rfl (ev_box (cs := TSecret.cs p1 vp1_1) rfl rfl) ?_
  rintro _ w2 ⟨b2, rfl, hbw2, Bw2, Gw2⟩
  have z4 := Gw2.size
  have lt5 := Bw2.lt
  refine sd_ev rfl rfl rfl (ev_box (cs := TSubset.cs p2) rfl rfl) ?_
  rintro _ w3 ⟨b3, rfl, hbw3, Bw3, Gw3⟩
  have z6 := Gw3.size
  have lt7 := Bw3.lt
  refine sd_ev rfl rfl rfl (ev_alloc (cs := kb k0) zv_26 rfl) ?_
  rintro _ w4 ⟨b4, rfl, hbw4, Bw4, Gw4⟩
  have z8 := Gw4.size
  have lt9 := Bw4.lt
  refine sd_vv rfl rfl rfl (vv_assign rfl) ?_
  refine sd_done ?_
  refine sw_seq ?_
  refine sw_seq ?_
  -- region 1 cover.go:209
  refine sw_region [(0, 0), (1, 0), (2, 0), (3, 0)] rfl rfl rfl ?_
  refine sd_vv rfl rfl rfl (vv_fieldAddr fa_74_1 rfl) ?_
  have B10 := (Bx.gr (Bx.gr Bw2 Gw3) Gw4)
  refine sd_vv rfl rfl rfl (vv_load1 (v := vp1_1) one_70 rfl B10 rfl) ?_
  have B11 := (Rd.gr (Rd.gr (Rd.gr (Rd.gr hp1_1 Gw1) Gw2) Gw3) Gw4)
  refine sd_vv rfl rfl rfl (vv_lenT (l := p1.Labels) (c := TLabel.cs) Try.underlying70 rfl B11) ?_
  refine sd_vv rfl rfl rfl (vv_move rfl) ?_
  refine sd_done ?_
  refine sw_block ?_
  have X12 : Gr w w4 := (Gr.trans (Gr.trans (Gr.trans (Gr.trans (Gr.refl w) Gw1) Gw2) Gw3) Gw4)
  refine sw_loopD (α := Nat × Int) [7, 9, 13, 14, 15, 16, 17, 18, 19, 20, 21, 22, 23, 24, 25, 26, 27, 28, 29, 30, 31, 32, 33, 34, 35, 36, 37, 38, 39, 40, 41, 42] (fun ⟨n1, a2⟩ => [(7, .bool false), (13, .int .i64 a2)]) (fun ⟨n1, a2⟩ wr => (fixN (cover_tree_find_L1 p0 p1 p2) n1 a2 = some r) ∧ Kz [] w4 wr) (fun ⟨n1, a2⟩ => n1) ⟨FUEL, 0⟩ ?_ ?_ ?_
  · repeat' first | exact trivial | refine ⟨rfl, ?_⟩
  · exact ⟨hm, Kz.refl _ _⟩
  · clear hm; rintro ⟨n1, a2⟩ w5 ⟨hm, Kw5⟩
    have z13 := Kw5.size
    have hb := fix_succ hm; clear hm; obtain ⟨n1, rfl, hm⟩ := hb
    generalize hrec1 : fixN (cover_tree_find_L1 p0 p1 p2) n1 = rec1 at hm
    unfold cover_tree_find_L1 at hm
    try dsimp only at hm
    refine sw_seq ?_
    -- region 2 cover.go:209
    refine sw_region [(0, 0)] rfl rfl rfl ?_
    refine sd_vv rfl rfl rfl (vv_lss (a := a2) (b := (p1.Labels.length : Int)) rfl rfl) ?_
    refine sd_done ?_
    refine sw_seq ?_
    refine sw_cond rfl (fun c1 => ?_) (fun c1 => ?_)
    ·
      replace hm := ite_t (of_decide_eq_true c1) hm
      refine sw_skip ?_
      refine then_n ?_
      refine sw_seq ?_
      refine sw_block ?_
      refine sw_seq ?_
      -- region 3 cover.go:209
      refine sw_region [(0, 0), (1, 0), (2, 0), (3, 0)] rfl rfl rfl ?_
      have hb := bnd hm; clear hm; obtain ⟨y3, hy3, hm⟩ := hb
      have B14 := (Rd.kz B11 Kw5)
      refine sd_vv rfl rfl rfl (vv_ixT (i := a2) Try.underlying70 (agg_81).siz rfl B14 rfl hy3) ?_
      refine sd_vv rfl rfl rfl (vv_elWT agg_81 rfl B14 hy3 (by first | rfl | omega)) ?_
      refine sd_ev rfl rfl rfl (ev_alloc (cs := TLabel.cs (TLabel.mk 0 0 k0)) zv_81 rfl) ?_
      rintro _ w6 ⟨b6, rfl, hbw6, Bw6, Gw6⟩
      have z15 := Gw6.size
      have lt16 := Bw6.lt
      refine sd_ev rfl rfl rfl (ev_stM (cs' := TLabel.cs y3) (vs := TLabel.cs y3) (agg_81).siz rfl rfl rfl rfl rfl Bw6 rfl rfl) ?_
      rintro _ w7 ⟨Bw7, Mw7⟩
      have z17 := Mw7.size
      refine sd_done ?_
      refine sw_seq ?_
      refine sw_block ?_
      refine sw_seq ?_
      -- region 4 cover.go:211
      refine sw_region [(0, 0), (1, 0), (2, 0), (3, 0), (4, 0), (5, 0)] rfl rfl rfl ?_
      have B18 := (Bx.md (Bx.gr (Bx.kz (Bx.gr (Bx.gr (Bx.gr Bw1 Gw2) Gw3) Gw4) Kw5) Gw6) Mw7)
      refine sd_vv rfl rfl rfl (vv_loadW agg_134 rfl B18 rfl) ?_
      refine sd_vv rfl rfl rfl (vv_loadW agg_81 rfl Bw7 rfl) ?_
      have B19 := (Bx.md (Bx.gr (Bx.kz (Bx.gr Bw3 Gw4) Kw5) Gw6) Mw7)
      refine sd_vv rfl rfl rfl (vv_loadW agg_47 rfl B19 rfl) ?_
      have hb := bnd hm; clear hm; obtain ⟨x4, hx4, hm⟩ := hb
      refine sd_ev rfl rfl rfl (ev_call en_104 rfl (cover_tree_leads_w p0 y3 p2 _ hx4 _)) ?_
      rintro _ w8 ⟨rfl, Gw8⟩
      have z20 := Gw8.size
      refine sd_vv rfl rfl rfl (vv_not rfl) ?_
      refine sd_vv rfl rfl rfl (vv_assign rfl) ?_
      refine sd_done ?_
      refine sw_cond rfl (fun c2 => ?_) (fun c2 => ?_)
      ·
        replace hm := cnd_t c2 hm
        refine sw_exit ?_
        refine block_o rfl ?_
        refine then_x ?_
        refine block_x ?_
        refine then_n ?_
        -- region 8 cover.go:209
        refine sw_region [(0, 0), (1, 0)] rfl rfl rfl ?_
        refine sd_vv rfl rfl rfl (vv_add (k := .i64) (a := a2) (b := 1) rfl rfl) ?_
        refine sd_vv rfl rfl rfl (vv_move rfl) ?_
        refine sd_nil ?_
        have K_21 : Kz [] w4 w8 := (Kz.gr (Kz.md (Kz.gr Kw5 Gw6) Mw7) Gw8)
        subst hrec1
        refine ⟨rfl, ⟨n1, w64 (a2 + 1)⟩, ?_, ⟨hm, K_21⟩, Nat.lt_succ_self _⟩
        repeat' first | exact trivial | refine ⟨rfl, ?_⟩
      ·
        replace hm := cnd_f c2 hm
        have X22 : Gr w w8 := (Gr.trans (Gr.md (Gr.trans (Gr.kz X12 Kw5) Gw6) Mw7) Gw8)
        refine sw_joinD (β := Bool) [23, 24, 25, 26, 27, 28, 29, 30, 31] (fun a5 => [(23, .bool a5)]) (fun a5 wr => (cover_tree_find_J2 p2 y3 a5 = some r) ∧ Kz [] w8 wr) ?_ ?_
        · clear hm; rintro a5 w9 ⟨hm, Kw9⟩
          have z23 := Kw9.size
          unfold cover_tree_find_J2 at hm
          refine sw_cond rfl (fun c3 => ?_) (fun c3 => ?_)
          ·
            replace hm := cnd_t c3 hm
            refine sw_seq ?_
            -- region 6 cover.go:214
            refine sw_region [(0, 0), (1, 0), (2, 0), (3, 0)] rfl rfl rfl ?_
            refine sd_vv rfl rfl rfl (vv_fieldAddr fa_81_2 rfl) ?_
            have B24 := (Bx.kz (Bx.gr Bw7 Gw8) Kw9)
            refine sd_vv rfl rfl rfl (vv_loadM (vs := kb y3.Key) agg_26 rfl B24 rfl rfl) ?_
            have B25 := (Bx.kz (Bx.gr (Bx.md (Bx.gr (Bx.kz Bw4 Kw5) Gw6) Mw7) Gw8) Kw9)
            refine sd_ev rfl rfl rfl (ev_stM (cs' := kb y3.Key) (vs := kb y3.Key) (agg_26).siz rfl rfl rfl rfl rfl B25 rfl rfl) ?_
            rintro _ w10 ⟨Bw10, Mw10⟩
            have z26 := Mw10.size
            refine sd_vv rfl rfl rfl (vv_assign rfl) ?_
            refine sd_done ?_
            refine sw_ret ?_
            refine block_r ?_
            refine then_r ?_
            refine block_r ?_
            refine then_r ?_
            refine then_r ?_
            refine block_r ?_
            refine then_r ?_
            have X27 : Gr w w10 := (Gr.md (Gr.kz X22 Kw9) Mw10)
            have hr := Option.some.inj hm
            subst hr
            refine ⟨_, _, rfl, res_2 rfl (rv_cellW agg_26 rfl Bw10 rfl) (rv_tmp rfl), ?_⟩
            exact ⟨rfl, X27⟩
          ·
            replace hm := cnd_f c3 hm
            refine sw_skip ?_
            refine block_n ?_
            refine then_n ?_
            refine sw_seq ?_
            -- region 7 cover.go:216
            refine sw_region [(0, 0), (1, 0), (2, 0), (3, 0), (4, 0), (5, 0), (6, 0), (7, 0), (8, 0), (9, 0)] rfl rfl rfl ?_
            refine sd_vv rfl rfl rfl (vv_fieldAddr fa_81_2 rfl) ?_
            have B28 := (Bx.kz (Bx.gr Bw7 Gw8) Kw9)
            refine sd_vv rfl rfl rfl (vv_loadM (vs := kb y3.Key) agg_26 rfl B28 rfl rfl) ?_
            refine sd_vv rfl rfl rfl (vv_fieldAddr fa_81_1 rfl) ?_
            refine sd_vv rfl rfl rfl (vv_load1 (v := .int .i64 y3.Minus) one_3 rfl B28 rfl) ?_
            refine sd_vv rfl rfl rfl (vv_fieldAddr fa_47_1 rfl) ?_
            have B29 := (Bx.kz (Bx.gr B19 Gw8) Kw9)
            refine sd_vv rfl rfl rfl (vv_load1 (v := .int .i64 p2.Minus) one_3 rfl B29 rfl) ?_
            have hb := bnd hm; clear hm; obtain ⟨x6, hx6, hm⟩ := hb
            refine sd_ev rfl rfl rfl (ev_call en_93 rfl (cover_descend_w y3.Key y3.Minus p2.Minus _ hx6 _)) ?_
            rintro _ w11 ⟨rfl, Gw11⟩
            have z30 := Gw11.size
            have hb := bnd hm; clear hm; obtain ⟨x7, hx7, hm⟩ := hb
            refine sd_ev rfl rfl rfl (ev_call en_135 rfl (cover_middle_w x6 _ hx7 _)) ?_
            rintro _ w12 ⟨rfl, Gw12⟩
            have z31 := Gw12.size
            have B32 := (Bx.gr (Bx.gr (Bx.kz (Bx.gr (Bx.md (Bx.gr (Bx.kz Bw4 Kw5) Gw6) Mw7) Gw8) Kw9) Gw11) Gw12)
            refine sd_ev rfl rfl rfl (ev_stM (cs' := kb x7) (vs := kb x7) (agg_26).siz rfl rfl rfl rfl rfl B32 rfl rfl) ?_
            rintro _ w13 ⟨Bw13, Mw13⟩
            have z33 := Mw13.size
            refine sd_vv rfl rfl rfl (vv_assign rfl) ?_
            refine sd_done ?_
            refine sw_ret ?_
            refine block_r ?_
            refine then_r ?_
            refine then_r ?_
            refine block_r ?_
            refine then_r ?_
            have X34 : Gr w w13 := (Gr.md (Gr.trans (Gr.trans (Gr.kz X22 Kw9) Gw11) Gw12) Mw13)
            have hr := Option.some.inj hm
            subst hr
            refine ⟨_, _, rfl, res_2 rfl (rv_cellW agg_26 rfl Bw13 rfl) (rv_tmp rfl), ?_⟩
            exact ⟨rfl, X34⟩
        ·
          -- region 5 cover.go:213
          refine sw_region [(0, 0), (1, 0), (2, 0), (3, 0), (4, 0), (5, 0), (6, 0), (7, 0), (8, 0)] rfl rfl rfl ?_
          refine sd_vv rfl rfl rfl (vv_fieldAddr fa_134_0 rfl) ?_
          have B35 := (Bx.gr B18 Gw8)
          refine sd_vv rfl rfl rfl (vv_load1 (v := bv p0.kind) one_5 rfl B35 rfl) ?_
          refine sd_vv rfl rfl rfl (vv_eqlB (p := p0.kind) (q := 1#8) rfl rfl) ?_
          refine sd_split rfl rfl rfl (vv_move rfl) (fun c4 => ?_) (fun c4 => ?_)
          ·
            replace hm := ite_t (of_decide_eq_true c4) hm
            refine sd_skip rfl rfl rfl ?_
            refine sd_skip rfl rfl rfl ?_
            refine sd_skip rfl rfl rfl ?_
            refine sd_vv rfl rfl rfl (vv_pickT rfl rfl) ?_
            refine sd_vv rfl rfl rfl (vv_assign rfl) ?_
            refine sd_nil ?_
            have K_36 : Kz [] w8 w8 := (Kz.refl _ _)
            refine ⟨rfl, true, ?_, hm, K_36⟩
            repeat' first | exact trivial | refine ⟨rfl, ?_⟩
          ·
            replace hm := ite_f (of_decide_eq_false c4) hm
            refine sd_vv rfl rfl rfl (vv_fieldAddr fa_47_1 rfl) ?_
            have B37 := (Bx.gr B19 Gw8)
            refine sd_vv rfl rfl rfl (vv_load1 (v := .int .i64 p2.Minus) one_3 rfl B37 rfl) ?_
            refine sd_vv rfl rfl rfl (vv_eql (a := p2.Minus) (b := 0) rfl rfl) ?_
            refine sd_vv rfl rfl rfl (vv_pickF rfl rfl) ?_
            refine sd_vv rfl rfl rfl (vv_assign rfl) ?_
            refine sd_nil ?_
            have K_38 : Kz [] w8 w8 := (Kz.refl _ _)
            refine ⟨rfl, (decide (p2.Minus = 0)), ?_, hm, K_38⟩
            repeat' first | exact trivial | refine ⟨rfl, ?_⟩
    ·
      replace hm := ite_f (of_decide_eq_false c1) hm
      refine sw_exit ?_
      refine then_x ?_
      refine then_x ?_
      refine block_x ?_
      refine then_n ?_
      refine sw_seq ?_
      -- region 9 cover.go:218
      refine sw_region [(0, 0), (1, 0), (2, 0)] rfl rfl rfl ?_
      refine sd_vv rfl rfl rfl (vv_buildZ bz_26) ?_
      have B39 := (Bx.kz Bw4 Kw5)
      refine sd_ev rfl rfl rfl (ev_stM (cs' := kb k0) (vs := kb k0) (agg_26).siz rfl rfl rfl rfl rfl B39 rfl rfl) ?_
      rintro _ w14 ⟨Bw14, Mw14⟩
      have z40 := Mw14.size
      refine sd_vv rfl rfl rfl (vv_assign rfl) ?_
      refine sd_done ?_
      refine sw_ret ?_
      have X41 : Gr w w14 := (Gr.md (Gr.kz X12 Kw5) Mw14)
      have hr := Option.some.inj hm
      subst hr
      refine ⟨_, _, rfl, res_2 rfl (rv_cellW agg_26 rfl Bw14 rfl) (rv_tmp rfl), ?_⟩
      exact ⟨rfl, X41⟩

set_option maxHeartbeats 2000000 in
theorem cover_Find_w (p0 : TScheme) (p1 : TSecret) (p2 : TSubset) (vp1_1 : Value) (zp1_1 gp1_1 op1_1 : Nat) (r : W2 × Int) (hm : cover_Find p0 p1 p2 = some r) (w : World) (hp1_1 : Rd w zp1_1 gp1_1 op1_1 18 vp1_1 (p1.Labels.map TLabel.cs))  :
    Calls Try.prog 48 [.agg (TScheme.cs p0).toArray, .agg (TSecret.cs p1 vp1_1).toArray, .agg (TSubset.cs p2).toArray].toArray w fun e w' => ∃ v, e = .returned v ∧ (v = .tuple [kv r.1, .int .i64 r.2].toArray ∧ Gr w w') := by
  have lt1 := hp1_1.lth
  unfold cover_Find at hm
  refine calls_of_sw (R := fun v w' => v = .tuple [kv r.1, .int .i64 r.2].toArray ∧ Gr w w') 34 Try.func48 rfl rfl rfl ?_
  refine sw_seq ?_
  -- region 0 cover.go:222
  refine sw_region [(0, 0), (1, 0), (2, 0), (3, 0), (4, 0)] rfl rfl rfl ?_
  refine sd_ev rfl rfl rfl (ev_box (cs := TScheme.cs p0) rfl rfl) ?_
  rintro _ w1 ⟨b1, rfl, hbw1, Bw1, Gw1⟩
  have z2 := Gw1.size
  have lt3 := Bw1.lt
  refine sd_ev rfl rfl rfl (ev_box (cs := TSecret.cs p1 vp1_1) rfl rfl) ?_
  rintro _ w2 ⟨b2, rfl, hbw2, Bw2, Gw2⟩
  have z4 := Gw2.size
  have lt5 := Bw2.lt
  refine sd_ev rfl rfl rfl (ev_box (cs := TSubset.cs p2) rfl rfl) ?_
  rintro _ w3 ⟨b3, rfl, hbw3, Bw3, Gw3⟩
  have z6 := Gw3.size
  have lt7 := Bw3.lt
  refine sd_ev rfl rfl rfl (ev_alloc (cs := kb k0) zv_26 rfl) ?_
  rintro _ w4 ⟨b4, rfl, hbw4, Bw4, Gw4⟩
  have z8 := Gw4.size
  have lt9 := Bw4.lt
  refine sd_vv rfl rfl rfl (vv_assign rfl) ?_
  refine sd_done ?_
  refine sw_seq ?_
  -- region 1 cover.go:223
  refine sw_region [(0, 0), (1, 0), (2, 0), (3, 0), (4, 0), (5, 0), (6, 0), (7, 0), (8, 0), (9, 0)] rfl rfl rfl ?_
  have B10 := (Bx.gr (Bx.gr (Bx.gr Bw1 Gw2) Gw3) Gw4)
  refine sd_vv rfl rfl rfl (vv_loadW agg_45 rfl B10 rfl) ?_
  have B11 := (Bx.gr Bw3 Gw4)
  refine sd_vv rfl rfl rfl (vv_loadW agg_47 rfl B11 rfl) ?_
  refine sd_ev rfl rfl rfl (ev_litT [p2] TSubset.cs bsl_48_1 rfl rfl (ws_of rfl) rfl rfl rfl) ?_
  rintro vw5 w5 ⟨gw5, hbw5, Ow5, Gw5⟩
  have z12 := Gw5.size
  have lt13 := Ow5.lth
  have hb := bnd hm; clear hm; obtain ⟨x1, hx1, hm⟩ := hb
  refine sd_ev rfl rfl rfl (ev_call en_74 rfl (cover_enter_w p0 [p2] _ _ _ _ _ hx1 _ (Own.rd Ow5))) ?_
  rintro _ w6 ⟨rfl, Gw6⟩
  have z14 := Gw6.size
  refine sd_vv rfl rfl rfl (vv_move rfl) ?_
  refine sd_vv rfl rfl rfl (vv_extract rfl rfl) ?_
  refine sd_vv rfl rfl rfl (vv_extract rfl rfl) ?_
  refine sd_ev rfl rfl rfl (ev_alloc (cs := Tcover_tree.cs (Tcover_tree.mk 0#8 0 0)) zv_134 rfl) ?_
  rintro _ w7 ⟨b7, rfl, hbw7, Bw7, Gw7⟩
  have z15 := Gw7.size
  have lt16 := Bw7.lt
  refine sd_ev rfl rfl rfl (ev_stM (cs' := Tcover_tree.cs x1.1) (vs := Tcover_tree.cs x1.1) (agg_134).siz rfl rfl rfl rfl rfl Bw7 rfl rfl) ?_
  rintro _ w8 ⟨Bw8, Mw8⟩
  have z17 := Mw8.size
  refine sd_vv rfl rfl rfl (vv_assign rfl) ?_
  refine sd_done ?_
  refine sw_seq ?_
  refine sw_seq ?_
  -- region 2 cover.go:224
  refine sw_region [(0, 0), (1, 0)] rfl rfl rfl ?_
  refine sd_vv rfl rfl rfl (vv_move rfl) ?_
  refine sd_vv rfl rfl rfl (vv_neq (a := x1.2) (b := 0) rfl rfl) ?_
  refine sd_done ?_
  refine sw_cond rfl (fun c1 => ?_) (fun c1 => ?_)
  ·
    replace hm := ite_t (of_decide_eq_true c1) hm
    refine sw_seq ?_
    -- region 3 cover.go:225
    refine sw_region [(0, 0), (1, 0), (2, 0), (3, 0)] rfl rfl rfl ?_
    refine sd_vv rfl rfl rfl (vv_buildZ bz_26) ?_
    refine sd_vv rfl rfl rfl (vv_move rfl) ?_
    have B18 := (Bx.md (Bx.gr (Bx.gr (Bx.gr Bw4 Gw5) Gw6) Gw7) Mw8)
    refine sd_ev rfl rfl rfl (ev_stM (cs' := kb k0) (vs := kb k0) (agg_26).siz rfl rfl rfl rfl rfl B18 rfl rfl) ?_
    rintro _ w9 ⟨Bw9, Mw9⟩
    have z19 := Mw9.size
    refine sd_vv rfl rfl rfl (vv_assign rfl) ?_
    refine sd_done ?_
    refine sw_ret ?_
    refine then_r ?_
    have X20 : Gr w w9 := (Gr.md (Gr.md (Gr.trans (Gr.trans (Gr.trans (Gr.trans (Gr.trans (Gr.trans (Gr.trans (Gr.refl w) Gw1) Gw2) Gw3) Gw4) Gw5) Gw6) Gw7) Mw8) Mw9)
    have hr := Option.some.inj hm
    subst hr
    refine ⟨_, _, rfl, res_2 rfl (rv_cellW agg_26 rfl Bw9 rfl) (rv_tmp rfl), ?_⟩
    exact ⟨rfl, X20⟩
  ·
    replace hm := ite_f (of_decide_eq_false c1) hm
    refine sw_skip ?_
    refine then_n ?_
    refine sw_seq ?_
    -- region 4 cover.go:227
    refine sw_region [(0, 0), (1, 0), (2, 0), (3, 0), (4, 0), (5, 0), (6, 0), (7, 0), (8, 0), (9, 0)] rfl rfl rfl ?_
    refine sd_vv rfl rfl rfl (vv_loadW agg_134 rfl Bw8 rfl) ?_
    have B21 := (Bx.md (Bx.gr (Bx.gr (Bx.gr (Bx.gr (Bx.gr Bw2 Gw3) Gw4) Gw5) Gw6) Gw7) Mw8)
    refine sd_vv rfl rfl rfl (vv_loadW agg_74 rfl B21 rfl) ?_
    have B22 := (Bx.md (Bx.gr (Bx.gr (Bx.gr B11 Gw5) Gw6) Gw7) Mw8)
    refine sd_vv rfl rfl rfl (vv_loadW agg_47 rfl B22 rfl) ?_
    have B23 := (Rd.md (Rd.gr (Rd.gr (Rd.gr (Rd.gr (Rd.gr (Rd.gr (Rd.gr hp1_1 Gw1) Gw2) Gw3) Gw4) Gw5) Gw6) Gw7) Mw8 (tk1 ((pv_lt (A := (fun x => x ≠ b7)) lt1) : zp1_1 = 0 ∨ gp1_1 ≠ b7)))
    have hb := bnd hm; clear hm; obtain ⟨x2, hx2, hm⟩ := hb
    refine sd_ev rfl rfl rfl (ev_call en_99 rfl (cover_tree_find_w x1.1 p1 p2 _ _ _ _ _ hx2 _ B23)) ?_
    rintro _ w10 ⟨rfl, Gw10⟩
    have z24 := Gw10.size
    refine sd_vv rfl rfl rfl (vv_move rfl) ?_
    refine sd_vv rfl rfl rfl (vv_extract rfl rfl) ?_
    refine sd_vv rfl rfl rfl (vv_extract rfl rfl) ?_
    refine sd_ev rfl rfl rfl (ev_alloc (cs := kb k0) zv_26 rfl) ?_
    rintro _ w11 ⟨b11, rfl, hbw11, Bw11, Gw11⟩
    have z25 := Gw11.size
    have lt26 := Bw11.lt
    refine sd_ev rfl rfl rfl (ev_stM (cs' := kb x2.1) (vs := kb x2.1) (agg_26).siz rfl rfl rfl rfl rfl Bw11 rfl rfl) ?_
    rintro _ w12 ⟨Bw12, Mw12⟩
    have z27 := Mw12.size
    refine sd_vv rfl rfl rfl (vv_assign rfl) ?_
    refine sd_done ?_
    refine sw_seq ?_
    refine sw_seq ?_
    -- region 5 cover.go:228
    refine sw_region [(0, 0), (1, 0)] rfl rfl rfl ?_
    refine sd_vv rfl rfl rfl (vv_move rfl) ?_
    refine sd_vv rfl rfl rfl (vv_not rfl) ?_
    refine sd_done ?_
    refine sw_cond rfl (fun c2 => ?_) (fun c2 => ?_)
    ·
      replace hm := cnd_t c2 hm
      refine sw_seq ?_
      -- region 6 cover.go:229
      refine sw_region [(0, 0), (1, 0), (2, 0)] rfl rfl rfl ?_
      refine sd_vv rfl rfl rfl (vv_buildZ bz_26) ?_
      have B28 := (Bx.md (Bx.gr (Bx.gr (Bx.md (Bx.gr (Bx.gr (Bx.gr Bw4 Gw5) Gw6) Gw7) Mw8) Gw10) Gw11) Mw12)
      refine sd_ev rfl rfl rfl (ev_stM (cs' := kb k0) (vs := kb k0) (agg_26).siz rfl rfl rfl rfl rfl B28 rfl rfl) ?_
      rintro _ w13 ⟨Bw13, Mw13⟩
      have z29 := Mw13.size
      refine sd_vv rfl rfl rfl (vv_assign rfl) ?_
      refine sd_done ?_
      refine sw_ret ?_
      refine then_r ?_
      have X30 : Gr w w13 := (Gr.md (Gr.md (Gr.trans (Gr.trans (Gr.md (Gr.trans (Gr.trans (Gr.trans (Gr.trans (Gr.trans (Gr.trans (Gr.trans (Gr.refl w) Gw1) Gw2) Gw3) Gw4) Gw5) Gw6) Gw7) Mw8) Gw10) Gw11) Mw12) Mw13)
      have hr := Option.some.inj hm
      subst hr
      refine ⟨_, _, rfl, res_2 rfl (rv_cellW agg_26 rfl Bw13 rfl) (rv_tmp rfl), ?_⟩
      exact ⟨rfl, X30⟩
    ·
      replace hm := cnd_f c2 hm
      refine sw_skip ?_
      refine then_n ?_
      refine sw_seq ?_
      -- region 7 cover.go:231
      refine sw_region [(0, 0), (1, 0), (2, 0)] rfl rfl rfl ?_
      refine sd_vv rfl rfl rfl (vv_loadW agg_26 rfl Bw12 rfl) ?_
      have B31 := (Bx.md (Bx.gr (Bx.gr (Bx.md (Bx.gr (Bx.gr (Bx.gr Bw4 Gw5) Gw6) Gw7) Mw8) Gw10) Gw11) Mw12)
      refine sd_ev rfl rfl rfl (ev_stM (cs' := kb x2.1) (vs := kb x2.1) (agg_26).siz rfl rfl rfl rfl rfl B31 rfl rfl) ?_
      rintro _ w14 ⟨Bw14, Mw14⟩
      have z32 := Mw14.size
      refine sd_vv rfl rfl rfl (vv_assign rfl) ?_
      refine sd_done ?_
      refine sw_ret ?_
      have X33 : Gr w w14 := (Gr.md (Gr.md (Gr.trans (Gr.trans (Gr.md (Gr.trans (Gr.trans (Gr.trans (Gr.trans (Gr.trans (Gr.trans (Gr.trans (Gr.refl w) Gw1) Gw2) Gw3) Gw4) Gw5) Gw6) Gw7) Mw8) Gw10) Gw11) Mw12) Mw14)
      have hr := Option.some.inj hm
      subst hr
      refine ⟨_, _, rfl, res_2 rfl (rv_cellW agg_26 rfl Bw14 rfl) (rv_tmp rfl), ?_⟩
      exact ⟨rfl, X33⟩
end Go.Proofs.Ytecempahccgijaa.Mx
