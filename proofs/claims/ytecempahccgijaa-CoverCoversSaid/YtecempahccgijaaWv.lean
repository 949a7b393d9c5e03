/- Walks that follow mirrors: Wv. Printed by mx.py. -/
import Derived.Test.YtecempahccgijaaMirG
import Derived.Test.YtecempahccgijaaCipC
import Derived.Test.YtecempahccgijaaRef2
import Derived.Test.YtecempahccgijaaBitL
import Derived.Test.YtecempahccgijaaMirH
import Derived.Test.YtecempahccgijaaSrtSub
import Derived.Test.YtecempahccgijaaWvM
set_option linter.unusedVariables false
set_option linter.unusedSimpArgs false
set_option maxRecDepth 100000
namespace Go.Proofs.Ytecempahccgijaa.Mx
open Go Go.RowKit Go.Sx
theorem agg_45 : Agg Try.prog 45 6 := fun _ => ⟨by kernel_rfl, by kernel_rfl⟩
theorem zv_134 : ZV Try.prog 134 (.agg [.int .u8 0, .int .i64 0, .int .i64 0].toArray) := fun _ => by kernel_rfl
theorem fa_45_0 : FA Try.prog 45 0 0 := fun _ _ _ => by kernel_rfl
theorem one_5 : One Try.prog 5 := fun _ => ⟨by kernel_rfl, by kernel_rfl⟩
theorem fa_45_1 : FA Try.prog 45 1 1 := fun _ _ _ => by kernel_rfl
theorem one_3 : One Try.prog 3 := fun _ => ⟨by kernel_rfl, by kernel_rfl⟩
theorem zv_45 : ZV Try.prog 45 (.agg [.int .u8 0, .int .i64 0, .int .i64 0, .int .u64 0, .int .u64 0, .int .u64 0].toArray) := fun _ => by kernel_rfl
theorem agg_43 : Agg Try.prog 43 3 := fun _ => ⟨by kernel_rfl, by kernel_rfl⟩
theorem bs_45 : BS Try.prog 45 (fun i => [(0, 1), (1, 1), (2, 1), (3, 3)][i]?) [.int .u8 0, .int .i64 0, .int .i64 0, .int .u64 0, .int .u64 0, .int .u64 0] := bs_mk Try.underlying45 zv_45 ⟨rfl, (one_5).siz, rfl, (one_3).siz, rfl, (one_3).siz, rfl, (agg_43).siz, trivial⟩
theorem one_23 : One Try.prog 23 := fun _ => ⟨by kernel_rfl, by kernel_rfl⟩
theorem eqc_23 : EqC Try.prog 1 23 [.u64] := eqc_int Try.underlying23 one_23
theorem eqc_43 : EqC Try.prog 2 43 [.u64, .u64, .u64] := eqc_struct Try.underlying43 (by kernel_rfl) agg_43 (show EqF _ 1 _ _ _ from (eqf_cons (ks1 := [.u64]) (ks2 := [.u64, .u64]) rfl (by simp) (eqc_23.up (by decide)) (eqf_cons (ks1 := [.u64]) (ks2 := [.u64]) rfl (by simp) (eqc_23.up (by decide)) (eqf_cons (ks1 := [.u64]) (ks2 := []) rfl (by simp) (eqc_23.up (by decide)) (eqf_nil _)))))
theorem eqc_3 : EqC Try.prog 1 3 [.i64] := eqc_int Try.underlying3 one_3
theorem eqc_5 : EqC Try.prog 1 5 [.u8] := eqc_int Try.underlying5 one_5
theorem eqc_45 : EqC Try.prog 3 45 [.u8, .i64, .i64, .u64, .u64, .u64] := eqc_struct Try.underlying45 (by kernel_rfl) agg_45 (show EqF _ 2 _ _ _ from (eqf_cons (ks1 := [.u8]) (ks2 := [.i64, .i64, .u64, .u64, .u64]) rfl (by simp) (eqc_5.up (by decide)) (eqf_cons (ks1 := [.i64]) (ks2 := [.i64, .u64, .u64, .u64]) rfl (by simp) (eqc_3.up (by decide)) (eqf_cons (ks1 := [.i64]) (ks2 := [.u64, .u64, .u64]) rfl (by simp) (eqc_3.up (by decide)) (eqf_cons (ks1 := [.u64, .u64, .u64]) (ks2 := []) rfl (by simp) (eqc_43.up (by decide)) (eqf_nil _))))))
theorem eqt_45 : EqT Try.prog 45 [.u8, .i64, .i64, .u64, .u64, .u64] := ⟨by kernel_rfl, agg_45, 3, by decide, eqc_45⟩
theorem bs_134 : BS Try.prog 134 (fun i => [(0, 1), (1, 1), (2, 1)][i]?) [.int .u8 0, .int .i64 0, .int .i64 0] := bs_mk Try.underlying134 zv_134 ⟨rfl, (one_5).siz, rfl, (one_3).siz, rfl, (one_3).siz, trivial⟩
theorem agg_134 : Agg Try.prog 134 3 := fun _ => ⟨by kernel_rfl, by kernel_rfl⟩
theorem fa_134_2 : FA Try.prog 134 2 2 := fun _ _ _ => by kernel_rfl
theorem fa_134_1 : FA Try.prog 134 1 1 := fun _ _ _ => by kernel_rfl
theorem en_84 : En Try.prog 84 := fun _ _ => by kernel_rfl
theorem agg_47 : Agg Try.prog 47 2 := fun _ => ⟨by kernel_rfl, by kernel_rfl⟩
theorem zv_47 : ZV Try.prog 47 (.agg [.int .i64 0, .int .i64 0].toArray) := fun _ => by kernel_rfl
theorem fa_47_0 : FA Try.prog 47 0 0 := fun _ _ _ => by kernel_rfl
theorem fa_47_1 : FA Try.prog 47 1 1 := fun _ _ _ => by kernel_rfl
theorem en_123 : En Try.prog 123 := fun _ _ => by kernel_rfl
theorem en_125 : En Try.prog 125 := fun _ _ => by kernel_rfl
theorem fa_134_0 : FA Try.prog 134 0 0 := fun _ _ _ => by kernel_rfl
theorem cv_139_174 : CV Try.prog 139 174 .u64 := fun _ _ _ => by kernel_rfl
theorem en_147 : En Try.prog 147 := fun _ _ => by kernel_rfl
theorem en_105 : En Try.prog 105 := fun _ _ => by kernel_rfl
theorem en_126 : En Try.prog 126 := fun _ _ => by kernel_rfl
theorem en_114 : En Try.prog 114 := fun _ _ => by kernel_rfl
theorem en_128 : En Try.prog 128 := fun _ _ => by kernel_rfl
theorem zv_139 : ZV Try.prog 139 (.int .i64 0) := fun _ => by kernel_rfl
theorem one_139 : One Try.prog 139 := fun _ => ⟨by kernel_rfl, by kernel_rfl⟩
theorem en_77 : En Try.prog 77 := fun _ _ => by kernel_rfl
theorem one_176 : One Try.prog 176 := fun _ => ⟨by kernel_rfl, by kernel_rfl⟩
theorem en_155 : En Try.prog 155 := fun _ _ => by kernel_rfl
theorem en_127 : En Try.prog 127 := fun _ _ => by kernel_rfl
theorem en_80 : En Try.prog 80 := fun _ _ => by kernel_rfl
theorem en_79 : En Try.prog 79 := fun _ _ => by kernel_rfl
theorem en_74 : En Try.prog 74 := fun _ _ => by kernel_rfl
theorem en_92 : En Try.prog 92 := fun _ _ => by kernel_rfl
theorem en_109 : En Try.prog 109 := fun _ _ => by kernel_rfl
theorem bs_47 : BS Try.prog 47 (fun i => [(0, 1), (1, 1)][i]?) [.int .i64 0, .int .i64 0] := bs_mk Try.underlying47 zv_47 ⟨rfl, (one_3).siz, rfl, (one_3).siz, trivial⟩
theorem bsl_48_1 : BSl Try.prog 48 1 47 2 [.int .i64 0, .int .i64 0] := bsl_mk Try.underlying48 (agg_47).siz zv_47 rfl rfl (by kernel_rfl)
theorem en_112 : En Try.prog 112 := fun _ _ => by kernel_rfl
theorem mpt_172 : MpT Try.prog 172 139 4 := ⟨Try.underlying172, Try.underlying139, fun _ => by kernel_rfl⟩
theorem zv_48 : ZV Try.prog 48 (.slice none 0 0) := fun _ => by kernel_rfl
theorem en_78 : En Try.prog 78 := fun _ _ => by kernel_rfl
theorem one_48 : One Try.prog 48 := fun _ => ⟨by kernel_rfl, by kernel_rfl⟩
theorem apt_48 : ApT Try.prog 48 47 2 16 := apt_mk Try.underlying48 rfl (by kernel_rfl)
theorem en_113 : En Try.prog 113 := fun _ _ => by kernel_rfl
theorem en_115 : En Try.prog 115 := fun _ _ => by kernel_rfl
theorem fa_45_2 : FA Try.prog 45 2 2 := fun _ _ _ => by kernel_rfl
theorem fa_45_3 : FA Try.prog 45 3 3 := fun _ _ _ => by kernel_rfl
theorem zv_43 : ZV Try.prog 43 (.agg [.int .u64 0, .int .u64 0, .int .u64 0].toArray) := fun _ => by kernel_rfl
theorem bs_43 : BS Try.prog 43 (fun i => [(0, 1), (1, 1), (2, 1)][i]?) [.int .u64 0, .int .u64 0, .int .u64 0] := bs_mk Try.underlying43 zv_43 ⟨rfl, (one_23).siz, rfl, (one_23).siz, rfl, (one_23).siz, trivial⟩
theorem eqt_43 : EqT Try.prog 43 [.u64, .u64, .u64] := ⟨by kernel_rfl, agg_43, 2, by decide, eqc_43⟩
theorem en_59 : En Try.prog 59 := fun _ _ => by kernel_rfl
theorem en_118 : En Try.prog 118 := fun _ _ => by kernel_rfl
theorem en_57 : En Try.prog 57 := fun _ _ => by kernel_rfl
theorem en_60 : En Try.prog 60 := fun _ _ => by kernel_rfl
theorem en_150 : En Try.prog 150 := fun _ _ => by kernel_rfl
theorem en_151 : En Try.prog 151 := fun _ _ => by kernel_rfl
theorem en_119 : En Try.prog 119 := fun _ _ => by kernel_rfl
theorem en_153 : En Try.prog 153 := fun _ _ => by kernel_rfl
theorem en_154 : En Try.prog 154 := fun _ _ => by kernel_rfl
theorem en_120 : En Try.prog 120 := fun _ _ => by kernel_rfl
theorem zv_3 : ZV Try.prog 3 (.int .i64 0) := fun _ => by kernel_rfl
theorem bsl_61_1 : BSl Try.prog 61 1 3 1 [.int .i64 0] := bsl_mk Try.underlying61 (one_3).siz zv_3 rfl rfl (by kernel_rfl)
theorem apt_61 : ApT Try.prog 61 3 1 8 := apt_mk Try.underlying61 rfl (by kernel_rfl)
theorem en_108 : En Try.prog 108 := fun _ _ => by kernel_rfl
theorem en_121 : En Try.prog 121 := fun _ _ => by kernel_rfl
theorem en_62 : En Try.prog 62 := fun _ _ => by kernel_rfl
theorem bsl_48_0 : BSl Try.prog 48 0 47 2 [] := bsl_nil Try.underlying48 (agg_47).siz
theorem en_152 : En Try.prog 152 := fun _ _ => by kernel_rfl
theorem en_117 : En Try.prog 117 := fun _ _ => by kernel_rfl
theorem eqc_47 : EqC Try.prog 2 47 [.i64, .i64] := eqc_struct Try.underlying47 (by kernel_rfl) agg_47 (show EqF _ 1 _ _ _ from (eqf_cons (ks1 := [.i64]) (ks2 := [.i64]) rfl (by simp) (eqc_3.up (by decide)) (eqf_cons (ks1 := [.i64]) (ks2 := []) rfl (by simp) (eqc_3.up (by decide)) (eqf_nil _))))
theorem eqt_47 : EqT Try.prog 47 [.i64, .i64] := ⟨by kernel_rfl, agg_47, 2, by decide, eqc_47⟩

set_option maxHeartbeats 2000000 in
theorem cover_treeOf_w (p0 : TScheme)  (r : Tcover_tree × Bool) (hm : cover_treeOf p0 = some r) (w : World)   :
    Calls Try.prog 84 [.agg (TScheme.cs p0).toArray].toArray w fun e w' => ∃ v, e = .returned v ∧ (v = .tuple [.agg (Tcover_tree.cs r.1).toArray, .bool r.2].toArray ∧ Gr w w') := by
  unfold cover_treeOf at hm
  refine calls_of_sw (R := fun v w' => v = .tuple [.agg (Tcover_tree.cs r.1).toArray, .bool r.2].toArray ∧ Gr w w') 51 Try.func84 rfl rfl rfl ?_
  refine sw_seq ?_
  -- region 0 tree.go:50
  refine sw_region [(0, 0), (1, 0), (2, 0)] rfl rfl rfl ?_
  refine sd_ev rfl rfl rfl (ev_box (cs := TScheme.cs p0) rfl rfl) ?_
  rintro _ w1 ⟨b1, rfl, hbw1, Bw1, Gw1⟩
  have z1 := Gw1.size
  have lt2 := Bw1.lt
  refine sd_ev rfl rfl rfl (ev_alloc (cs := Tcover_tree.cs (Tcover_tree.mk 0#8 0 0)) zv_134 rfl) ?_
  rintro _ w2 ⟨b2, rfl, hbw2, Bw2, Gw2⟩
  have z3 := Gw2.size
  have lt4 := Bw2.lt
  refine sd_vv rfl rfl rfl (vv_assign rfl) ?_
  refine sd_done ?_
  refine sw_seq ?_
  have X5 : Gr w w2 := (Gr.trans (Gr.trans (Gr.refl w) Gw1) Gw2)
  refine sw_joinD (β := Bool) [5, 6, 7, 8, 9, 10, 11, 12, 13, 14, 15, 16, 17, 18, 19, 20, 21, 22, 23, 24, 25, 26, 27, 28, 29, 30, 31] (fun a1 => [(31, .bool a1)]) (fun a1 wr => (cover_treeOf_J1 p0 a1 = some r) ∧ Kz [] w2 wr) ?_ ?_
  · clear hm; rintro a1 w3 ⟨hm, Kw3⟩
    have z6 := Kw3.size
    unfold cover_treeOf_J1 at hm
    refine sw_cond rfl (fun c1 => ?_) (fun c1 => ?_)
    ·
      replace hm := cnd_t c1 hm
      refine sw_seq ?_
      -- region 2 tree.go:52
      refine sw_region [(0, 0), (1, 0), (2, 0)] rfl rfl rfl ?_
      refine sd_vv rfl rfl rfl (vv_build (cs := Tcover_tree.cs (Tcover_tree.mk 0#8 0 0)) bs_134 rfl rfl) ?_
      have B7 := (Bx.kz Bw2 Kw3)
      refine sd_ev rfl rfl rfl (ev_stM (cs' := Tcover_tree.cs (Tcover_tree.mk 0#8 0 0)) (vs := Tcover_tree.cs (Tcover_tree.mk 0#8 0 0)) (agg_134).siz rfl rfl rfl rfl rfl B7 rfl rfl) ?_
      rintro _ w4 ⟨Bw4, Mw4⟩
      have z8 := Mw4.size
      refine sd_vv rfl rfl rfl (vv_assign rfl) ?_
      refine sd_done ?_
      refine sw_ret ?_
      refine then_r ?_
      have X9 : Gr w w4 := (Gr.md (Gr.kz X5 Kw3) Mw4)
      have hr := Option.some.inj hm
      subst hr
      refine ⟨_, _, rfl, res_2 rfl (rv_cellW agg_134 rfl Bw4 rfl) (rv_tmp rfl), ?_⟩
      exact ⟨rfl, X9⟩
    ·
      replace hm := cnd_f c1 hm
      refine sw_skip ?_
      refine then_n ?_
      refine sw_seq ?_
      -- region 3 tree.go:54
      refine sw_region [(0, 0), (1, 0), (2, 0), (3, 0), (4, 0), (5, 0), (6, 0)] rfl rfl rfl ?_
      refine sd_vv rfl rfl rfl (vv_fieldAddr fa_45_0 rfl) ?_
      have B10 := (Bx.kz (Bx.gr Bw1 Gw2) Kw3)
      refine sd_vv rfl rfl rfl (vv_load1 (v := bv p0.Kind) one_5 rfl B10 rfl) ?_
      refine sd_vv rfl rfl rfl (vv_fieldAddr fa_45_1 rfl) ?_
      refine sd_vv rfl rfl rfl (vv_load1 (v := .int .i64 p0.Depth) one_3 rfl B10 rfl) ?_
      refine sd_vv rfl rfl rfl (vv_build (cs := Tcover_tree.cs (Tcover_tree.mk p0.Kind p0.Depth 1)) bs_134 rfl rfl) ?_
      refine sd_ev rfl rfl rfl (ev_alloc (cs := Tcover_tree.cs (Tcover_tree.mk 0#8 0 0)) zv_134 rfl) ?_
      rintro _ w5 ⟨b5, rfl, hbw5, Bw5, Gw5⟩
      have z11 := Gw5.size
      have lt12 := Bw5.lt
      refine sd_ev rfl rfl rfl (ev_stM (cs' := Tcover_tree.cs (Tcover_tree.mk p0.Kind p0.Depth 1)) (vs := Tcover_tree.cs (Tcover_tree.mk p0.Kind p0.Depth 1)) (agg_134).siz rfl rfl rfl rfl rfl Bw5 rfl rfl) ?_
      rintro _ w6 ⟨Bw6, Mw6⟩
      have z13 := Mw6.size
      refine sd_done ?_
      refine sw_seq ?_
      refine sw_block ?_
      have X14 : Gr w w6 := (Gr.md (Gr.trans (Gr.kz X5 Kw3) Gw5) Mw6)
      refine sw_loopD (α := Nat × Int) [38, 39, 40, 41, 42, 43, 44, 45, 46, 47, 48, 49] (fun ⟨n2, a3⟩ => []) (fun ⟨n2, a3⟩ wr => (fixN (cover_treeOf_L2 p0) n2 a3 = some r) ∧ Bx wr b5 134 (Tcover_tree.cs (Tcover_tree.mk p0.Kind p0.Depth a3)) ∧ Kz [(1, b5)] w6 wr) (fun ⟨n2, a3⟩ => n2) ⟨FUEL, 1⟩ ?_ ?_ ?_
      · repeat' first | exact trivial | refine ⟨rfl, ?_⟩
      · exact ⟨hm, Bw6, Kz.refl _ _⟩
      · clear hm; rintro ⟨n2, a3⟩ w7 ⟨hm, Fw7_0, Kw7⟩
        have z15 := Kw7.size
        have lt16 := Fw7_0.lt
        have hb := fix_succ hm; clear hm; obtain ⟨n2, rfl, hm⟩ := hb
        generalize hrec2 : fixN (cover_treeOf_L2 p0) n2 = rec2 at hm
        unfold cover_treeOf_L2 at hm
        try dsimp only at hm
        refine sw_seq ?_
        refine sw_seq ?_
        -- region 4 tree.go:55
        refine sw_region [(0, 0), (1, 0), (2, 0), (3, 0), (4, 0), (5, 0), (6, 0), (7, 0)] rfl rfl rfl ?_
        refine sd_vv rfl rfl rfl (vv_fieldAddr fa_134_2 rfl) ?_
        refine sd_vv rfl rfl rfl (vv_load1 (v := .int .i64 a3) one_3 rfl Fw7_0 rfl) ?_
        refine sd_vv rfl rfl rfl (vv_fieldAddr fa_134_2 rfl) ?_
        refine sd_vv rfl rfl rfl (vv_load1 (v := .int .i64 a3) one_3 rfl Fw7_0 rfl) ?_
        refine sd_vv rfl rfl rfl (vv_mul (k := .i64) (a := a3) (b := a3) rfl rfl) ?_
        refine sd_vv rfl rfl rfl (vv_fieldAddr fa_134_1 rfl) ?_
        refine sd_vv rfl rfl rfl (vv_load1 (v := .int .i64 p0.Depth) one_3 rfl Fw7_0 rfl) ?_
        refine sd_vv rfl rfl rfl (vv_lss (a := w64 (a3 * a3)) (b := p0.Depth) rfl rfl) ?_
        refine sd_done ?_
        refine sw_cond rfl (fun c2 => ?_) (fun c2 => ?_)
        ·
          replace hm := ite_t (of_decide_eq_true c2) hm
          refine sw_skip ?_
          refine then_n ?_
          refine sw_block ?_
          -- region 5 tree.go:56
          refine sw_region [(0, 0), (1, 0), (2, 0), (3, 0), (4, 0)] rfl rfl rfl ?_
          refine sd_vv rfl rfl rfl (vv_fieldAddr fa_134_2 rfl) ?_
          refine sd_vv rfl rfl rfl (vv_load1 (v := .int .i64 a3) one_3 rfl Fw7_0 rfl) ?_
          refine sd_vv rfl rfl rfl (vv_add (k := .i64) (a := a3) (b := 1) rfl rfl) ?_
          refine sd_vv rfl rfl rfl (vv_fieldAddr fa_134_2 rfl) ?_
          refine sd_ev rfl rfl rfl (ev_st1 (cs' := Tcover_tree.cs (Tcover_tree.mk p0.Kind p0.Depth (w64 (a3 + 1)))) (one_3).siz rfl rfl rfl Fw7_0 rfl rfl) ?_
          rintro _ w8 ⟨Bw8, Mw8⟩
          have z17 := Mw8.size
          refine sd_nil ?_
          refine block_n ?_
          have K_18 : Kz [(1, b5)] w6 w8 := (Kz.md Kw7 Mw8)
          subst hrec2
          refine ⟨rfl, ⟨n2, w64 (a3 + 1)⟩, ?_, ⟨hm, Bw8, K_18⟩, Nat.lt_succ_self _⟩
          repeat' first | exact trivial | refine ⟨rfl, ?_⟩
        ·
          replace hm := ite_f (of_decide_eq_false c2) hm
          refine sw_exit ?_
          refine then_x ?_
          refine then_x ?_
          refine block_x ?_
          refine then_n ?_
          refine sw_seq ?_
          -- region 6 tree.go:58
          refine sw_region [(0, 0), (1, 0), (2, 0)] rfl rfl rfl ?_
          refine sd_vv rfl rfl rfl (vv_loadW agg_134 rfl Fw7_0 rfl) ?_
          have B19 := (Bx.kz (Bx.md (Bx.gr (Bx.kz Bw2 Kw3) Gw5) Mw6) Kw7)
          refine sd_ev rfl rfl rfl (ev_stM (cs' := Tcover_tree.cs (Tcover_tree.mk p0.Kind p0.Depth a3)) (vs := Tcover_tree.cs (Tcover_tree.mk p0.Kind p0.Depth a3)) (agg_134).siz rfl rfl rfl rfl rfl B19 rfl rfl) ?_
          rintro _ w9 ⟨Bw9, Mw9⟩
          have z20 := Mw9.size
          refine sd_vv rfl rfl rfl (vv_assign rfl) ?_
          refine sd_done ?_
          refine sw_ret ?_
          have X21 : Gr w w9 := (Gr.md (Gr.kz X14 Kw7) Mw9)
          have hr := Option.some.inj hm
          subst hr
          refine ⟨_, _, rfl, res_2 rfl (rv_cellW agg_134 rfl Bw9 rfl) (rv_tmp rfl), ?_⟩
          exact ⟨rfl, X21⟩
  ·
    -- region 1 tree.go:51
    refine sw_region [(0, 0), (1, 0), (2, 0), (3, 0), (4, 0), (5, 0), (6, 0), (7, 0), (8, 0), (9, 0), (10, 0), (11, 0), (12, 0), (13, 0), (14, 0), (15, 0), (16, 0), (17, 0), (18, 0), (19, 0), (20, 0), (21, 0), (22, 0), (23, 0), (24, 0), (25, 0), (26, 0)] rfl rfl rfl ?_
    refine sd_vv rfl rfl rfl (vv_fieldAddr fa_45_0 rfl) ?_
    have B22 := (Bx.gr Bw1 Gw2)
    refine sd_vv rfl rfl rfl (vv_load1 (v := bv p0.Kind) one_5 rfl B22 rfl) ?_
    refine sd_vv rfl rfl rfl (vv_lssB (p := p0.Kind) (q := 1#8) rfl rfl) ?_
    refine sd_split rfl rfl rfl (vv_move rfl) (fun c3 => ?_) (fun c3 => ?_)
    ·
      replace hm := ite_t (of_decide_eq_true c3) hm
      refine sd_skip rfl rfl rfl ?_
      refine sd_skip rfl rfl rfl ?_
      refine sd_skip rfl rfl rfl ?_
      refine sd_vv rfl rfl rfl (vv_pickT rfl rfl) ?_
      refine sd_vv rfl rfl rfl (vv_move rfl) ?_
      refine sd_skip rfl rfl rfl ?_
      refine sd_skip rfl rfl rfl ?_
      refine sd_skip rfl rfl rfl ?_
      refine sd_vv rfl rfl rfl (vv_pickT rfl rfl) ?_
      refine sd_vv rfl rfl rfl (vv_move rfl) ?_
      refine sd_skip rfl rfl rfl ?_
      refine sd_skip rfl rfl rfl ?_
      refine sd_skip rfl rfl rfl ?_
      refine sd_vv rfl rfl rfl (vv_pickT rfl rfl) ?_
      refine sd_vv rfl rfl rfl (vv_move rfl) ?_
      refine sd_skip rfl rfl rfl ?_
      refine sd_skip rfl rfl rfl ?_
      refine sd_skip rfl rfl rfl ?_
      refine sd_skip rfl rfl rfl ?_
      refine sd_skip rfl rfl rfl ?_
      refine sd_skip rfl rfl rfl ?_
      refine sd_skip rfl rfl rfl ?_
      refine sd_vv rfl rfl rfl (vv_pickT rfl rfl) ?_
      refine sd_nil ?_
      have K_23 : Kz [] w2 w2 := (Kz.refl _ _)
      refine ⟨rfl, true, ?_, hm, K_23⟩
      repeat' first | exact trivial | refine ⟨rfl, ?_⟩
    ·
      replace hm := ite_f (of_decide_eq_false c3) hm
      refine sd_vv rfl rfl rfl (vv_fieldAddr fa_45_0 rfl) ?_
      refine sd_vv rfl rfl rfl (vv_load1 (v := bv p0.Kind) one_5 rfl B22 rfl) ?_
      refine sd_vv rfl rfl rfl (vv_gtrB (p := p0.Kind) (q := 3#8) rfl rfl) ?_
      refine sd_vv rfl rfl rfl (vv_pickF rfl rfl) ?_
      refine sd_split rfl rfl rfl (vv_move rfl) (fun c4 => ?_) (fun c4 => ?_)
      ·
        replace hm := ite_t (of_decide_eq_true c4) hm
        refine sd_skip rfl rfl rfl ?_
        refine sd_skip rfl rfl rfl ?_
        refine sd_skip rfl rfl rfl ?_
        refine sd_vv rfl rfl rfl (vv_pickT rfl rfl) ?_
        refine sd_vv rfl rfl rfl (vv_move rfl) ?_
        refine sd_skip rfl rfl rfl ?_
        refine sd_skip rfl rfl rfl ?_
        refine sd_skip rfl rfl rfl ?_
        refine sd_vv rfl rfl rfl (vv_pickT rfl rfl) ?_
        refine sd_vv rfl rfl rfl (vv_move rfl) ?_
        refine sd_skip rfl rfl rfl ?_
        refine sd_skip rfl rfl rfl ?_
        refine sd_skip rfl rfl rfl ?_
        refine sd_skip rfl rfl rfl ?_
        refine sd_skip rfl rfl rfl ?_
        refine sd_skip rfl rfl rfl ?_
        refine sd_skip rfl rfl rfl ?_
        refine sd_vv rfl rfl rfl (vv_pickT rfl rfl) ?_
        refine sd_nil ?_
        have K_24 : Kz [] w2 w2 := (Kz.refl _ _)
        refine ⟨rfl, true, ?_, hm, K_24⟩
        repeat' first | exact trivial | refine ⟨rfl, ?_⟩
      ·
        replace hm := ite_f (of_decide_eq_false c4) hm
        refine sd_vv rfl rfl rfl (vv_fieldAddr fa_45_1 rfl) ?_
        refine sd_vv rfl rfl rfl (vv_load1 (v := .int .i64 p0.Depth) one_3 rfl B22 rfl) ?_
        refine sd_vv rfl rfl rfl (vv_lss (a := p0.Depth) (b := 0) rfl rfl) ?_
        refine sd_vv rfl rfl rfl (vv_pickF rfl rfl) ?_
        refine sd_split rfl rfl rfl (vv_move rfl) (fun c5 => ?_) (fun c5 => ?_)
        ·
          replace hm := ite_t (of_decide_eq_true c5) hm
          refine sd_skip rfl rfl rfl ?_
          refine sd_skip rfl rfl rfl ?_
          refine sd_skip rfl rfl rfl ?_
          refine sd_vv rfl rfl rfl (vv_pickT rfl rfl) ?_
          refine sd_vv rfl rfl rfl (vv_move rfl) ?_
          refine sd_skip rfl rfl rfl ?_
          refine sd_skip rfl rfl rfl ?_
          refine sd_skip rfl rfl rfl ?_
          refine sd_skip rfl rfl rfl ?_
          refine sd_skip rfl rfl rfl ?_
          refine sd_skip rfl rfl rfl ?_
          refine sd_skip rfl rfl rfl ?_
          refine sd_vv rfl rfl rfl (vv_pickT rfl rfl) ?_
          refine sd_nil ?_
          have K_25 : Kz [] w2 w2 := (Kz.refl _ _)
          refine ⟨rfl, true, ?_, hm, K_25⟩
          repeat' first | exact trivial | refine ⟨rfl, ?_⟩
        ·
          replace hm := ite_f (of_decide_eq_false c5) hm
          refine sd_vv rfl rfl rfl (vv_fieldAddr fa_45_1 rfl) ?_
          refine sd_vv rfl rfl rfl (vv_load1 (v := .int .i64 p0.Depth) one_3 rfl B22 rfl) ?_
          refine sd_vv rfl rfl rfl (vv_gtr (a := p0.Depth) (b := 6) rfl rfl) ?_
          refine sd_vv rfl rfl rfl (vv_pickF rfl rfl) ?_
          refine sd_split rfl rfl rfl (vv_move rfl) (fun c6 => ?_) (fun c6 => ?_)
          ·
            replace hm := ite_t (of_decide_eq_true c6) hm
            refine sd_skip rfl rfl rfl ?_
            refine sd_skip rfl rfl rfl ?_
            refine sd_skip rfl rfl rfl ?_
            refine sd_skip rfl rfl rfl ?_
            refine sd_skip rfl rfl rfl ?_
            refine sd_skip rfl rfl rfl ?_
            refine sd_skip rfl rfl rfl ?_
            refine sd_vv rfl rfl rfl (vv_pickT rfl rfl) ?_
            refine sd_nil ?_
            have K_26 : Kz [] w2 w2 := (Kz.refl _ _)
            refine ⟨rfl, true, ?_, hm, K_26⟩
            repeat' first | exact trivial | refine ⟨rfl, ?_⟩
          ·
            replace hm := ite_f (of_decide_eq_false c6) hm
            refine sd_vv rfl rfl rfl (vv_loadW agg_45 rfl B22 rfl) ?_
            refine sd_vv rfl rfl rfl (vv_fieldAddr fa_45_0 rfl) ?_
            refine sd_vv rfl rfl rfl (vv_load1 (v := bv p0.Kind) one_5 rfl B22 rfl) ?_
            refine sd_vv rfl rfl rfl (vv_fieldAddr fa_45_1 rfl) ?_
            refine sd_vv rfl rfl rfl (vv_load1 (v := .int .i64 p0.Depth) one_3 rfl B22 rfl) ?_
            refine sd_vv rfl rfl rfl (vv_build (cs := TScheme.cs (TScheme.mk p0.Kind p0.Depth 0 (TGroup.mk 0#64 0#64 0#64))) bs_45 rfl rfl) ?_
            refine sd_vv rfl rfl rfl (vv_neqS (cf := TScheme.cs) (a := p0) (b := (TScheme.mk p0.Kind p0.Depth 0 (TGroup.mk 0#64 0#64 0#64))) eqt_45 rfl rfl rfl rfl (fun h => TScheme.cs_inj h)) ?_
            refine sd_vv rfl rfl rfl (vv_pickF rfl rfl) ?_
            refine sd_nil ?_
            have K_27 : Kz [] w2 w2 := (Kz.refl _ _)
            refine ⟨rfl, (decide (p0 ≠ (TScheme.mk p0.Kind p0.Depth 0 (TGroup.mk 0#64 0#64 0#64)))), ?_, hm, K_27⟩
            repeat' first | exact trivial | refine ⟨rfl, ?_⟩

set_option maxHeartbeats 2000000 in
theorem cover_tree_size_w (p0 : Tcover_tree)  (r : Int) (hm : cover_tree_size p0 = some r) (w : World)   :
    Calls Try.prog 123 [.agg (Tcover_tree.cs p0).toArray].toArray w fun e w' => ∃ v, e = .returned v ∧ (v = .int .i64 r ∧ Gr w w') := by
  unfold cover_tree_size at hm
  refine calls_of_sw (R := fun v w' => v = .int .i64 r ∧ Gr w w') 6 Try.func123 rfl rfl rfl ?_
  refine sw_seq ?_
  -- region 0 tree.go:62
  refine sw_region [(0, 0), (1, 0)] rfl rfl rfl ?_
  refine sd_ev rfl rfl rfl (ev_box (cs := Tcover_tree.cs p0) rfl rfl) ?_
  rintro _ w1 ⟨b1, rfl, hbw1, Bw1, Gw1⟩
  have z1 := Gw1.size
  have lt2 := Bw1.lt
  refine sd_vv rfl rfl rfl (vv_assign rfl) ?_
  refine sd_done ?_
  refine sw_seq ?_
  -- region 1 tree.go:62
  refine sw_region [(0, 0), (1, 0), (2, 0), (3, 0)] rfl rfl rfl ?_
  refine sd_vv rfl rfl rfl (vv_fieldAddr fa_134_1 rfl) ?_
  refine sd_vv rfl rfl rfl (vv_load1 (v := .int .i64 p0.depth) one_3 rfl Bw1 rfl) ?_
  have hb := bnd hm; clear hm; obtain ⟨n1, hn1, hm⟩ := hb
  refine sd_vv rfl rfl rfl (vv_shlI (a := 1) (b := p0.depth) rfl rfl hn1) ?_
  refine sd_vv rfl rfl rfl (vv_assign rfl) ?_
  refine sd_done ?_
  refine sw_ret ?_
  have X3 : Gr w w1 := (Gr.trans (Gr.refl w) Gw1)
  have hr := Option.some.inj hm
  subst hr
  refine ⟨_, _, rfl, res_1 rfl (rv_tmp rfl), ?_⟩
  exact ⟨rfl, X3⟩

set_option maxHeartbeats 2000000 in
theorem cover_tree_has_w (p0 : Tcover_tree) (p1 : Int)  (r : Bool) (hm : cover_tree_has p0 p1 = some r) (w : World)   :
    Calls Try.prog 125 [.agg (Tcover_tree.cs p0).toArray, .int .i64 p1].toArray w fun e w' => ∃ v, e = .returned v ∧ (v = .bool r ∧ Gr w w') := by
  unfold cover_tree_has at hm
  refine calls_of_sw (R := fun v w' => v = .bool r ∧ Gr w w') 14 Try.func125 rfl rfl rfl ?_
  refine sw_seq ?_
  -- region 0 tree.go:68
  refine sw_region [(0, 0), (1, 0)] rfl rfl rfl ?_
  refine sd_ev rfl rfl rfl (ev_box (cs := Tcover_tree.cs p0) rfl rfl) ?_
  rintro _ w1 ⟨b1, rfl, hbw1, Bw1, Gw1⟩
  have z1 := Gw1.size
  have lt2 := Bw1.lt
  refine sd_vv rfl rfl rfl (vv_assign rfl) ?_
  refine sd_done ?_
  refine sw_seq ?_
  -- region 1 tree.go:68
  refine sw_region [(0, 0), (1, 0), (2, 0), (3, 0), (4, 0), (5, 0), (6, 0), (7, 0), (8, 0), (9, 0)] rfl rfl rfl ?_
  refine sd_vv rfl rfl rfl (vv_move rfl) ?_
  refine sd_vv rfl rfl rfl (vv_geq (a := p1) (b := 1) rfl rfl) ?_
  refine sd_split rfl rfl rfl (vv_move rfl) (fun c1 => ?_) (fun c1 => ?_)
  ·
    replace hm := ite_t (of_decide_eq_true c1) hm
    refine sd_vv rfl rfl rfl (vv_move rfl) ?_
    refine sd_vv rfl rfl rfl (vv_loadW agg_134 rfl Bw1 rfl) ?_
    have hb := bnd hm; clear hm; obtain ⟨x1, hx1, hm⟩ := hb
    refine sd_ev rfl rfl rfl (ev_call en_123 rfl (cover_tree_size_w p0 _ hx1 _)) ?_
    rintro _ w2 ⟨rfl, Gw2⟩
    have z3 := Gw2.size
    refine sd_vv rfl rfl rfl (vv_mul (k := .i64) (a := 2) (b := x1) rfl rfl) ?_
    refine sd_vv rfl rfl rfl (vv_lss (a := p1) (b := w64 (2 * x1)) rfl rfl) ?_
    refine sd_vv rfl rfl rfl (vv_pickT rfl rfl) ?_
    refine sd_vv rfl rfl rfl (vv_assign rfl) ?_
    refine sd_done ?_
    refine sw_ret ?_
    have X4 : Gr w w2 := (Gr.trans (Gr.trans (Gr.refl w) Gw1) Gw2)
    have hr := Option.some.inj hm
    subst hr
    refine ⟨_, _, rfl, res_1 rfl (rv_tmp rfl), ?_⟩
    exact ⟨rfl, X4⟩
  ·
    replace hm := ite_f (of_decide_eq_false c1) hm
    refine sd_skip rfl rfl rfl ?_
    refine sd_skip rfl rfl rfl ?_
    refine sd_skip rfl rfl rfl ?_
    refine sd_skip rfl rfl rfl ?_
    refine sd_skip rfl rfl rfl ?_
    refine sd_vv rfl rfl rfl (vv_pickF rfl rfl) ?_
    refine sd_vv rfl rfl rfl (vv_assign rfl) ?_
    refine sd_done ?_
    refine sw_ret ?_
    have X5 : Gr w w1 := (Gr.trans (Gr.refl w) Gw1)
    have hr := Option.some.inj hm
    subst hr
    refine ⟨_, _, rfl, res_1 rfl (rv_tmp rfl), ?_⟩
    exact ⟨rfl, X5⟩

set_option maxHeartbeats 2000000 in
theorem cover_node_level_w (p0 : Int)  (r : Int) (hm : cover_node_level p0 = some r) (w : World)   :
    Calls Try.prog 105 [.int .i64 p0].toArray w fun e w' => ∃ v, e = .returned v ∧ (v = .int .i64 r ∧ Gr w w') := by
  unfold cover_node_level at hm
  refine calls_of_sw (R := fun v w' => v = .int .i64 r ∧ Gr w w') 7 Try.func105 rfl rfl rfl ?_
  refine sw_seq ?_
  -- region 0 tree.go:14
  refine sw_region [(0, 0)] rfl rfl rfl ?_
  refine sd_vv rfl rfl rfl (vv_assign rfl) ?_
  refine sd_done ?_
  refine sw_seq ?_
  -- region 1 tree.go:14
  refine sw_region [(0, 0), (1, 0), (2, 0), (3, 0), (4, 0)] rfl rfl rfl ?_
  refine sd_vv rfl rfl rfl (vv_move rfl) ?_
  refine sd_vv rfl rfl rfl (vv_cvIU cv_139_174 rfl) ?_
  refine sd_ev rfl rfl rfl (ev_call en_147 rfl (len_c (un (wd p0)) (un_nonneg _) (by have := un_le (wd p0); omega) _)) ?_
  rintro _ w1 ⟨rfl, Gw1⟩
  have z1 := Gw1.size
  refine sd_vv rfl rfl rfl (vv_sub (k := .i64) (a := lg (un (wd p0))) (b := 1) rfl rfl) ?_
  refine sd_vv rfl rfl rfl (vv_assign rfl) ?_
  refine sd_done ?_
  refine sw_ret ?_
  have X2 : Gr w w1 := (Gr.trans (Gr.refl w) Gw1)
  have hr := Option.some.inj hm
  subst hr
  refine ⟨_, _, rfl, res_1 rfl (rv_tmp rfl), ?_⟩
  exact ⟨rfl, X2⟩

set_option maxHeartbeats 2000000 in
theorem cover_node_below_w (p0 : Int) (p1 : Int)  (r : Bool) (hm : cover_node_below p0 p1 = some r) (w : World)   :
    Calls Try.prog 126 [.int .i64 p0, .int .i64 p1].toArray w fun e w' => ∃ v, e = .returned v ∧ (v = .bool r ∧ Gr w w') := by
  unfold cover_node_below at hm
  refine calls_of_sw (R := fun v w' => v = .bool r ∧ Gr w w') 27 Try.func126 rfl rfl rfl ?_
  refine sw_seq ?_
  -- region 0 tree.go:17
  refine sw_region [(0, 0)] rfl rfl rfl ?_
  refine sd_vv rfl rfl rfl (vv_assign rfl) ?_
  refine sd_done ?_
  refine sw_seq ?_
  refine sw_joinD (β := Bool) [5, 6, 7, 8, 9, 10, 11, 12, 13, 14, 15, 16, 17] (fun a1 => [(17, .bool a1)]) (fun a1 wr => (cover_node_below_J1 p0 p1 a1 = some r) ∧ Kz [] w wr) ?_ ?_
  · clear hm; rintro a1 w1 ⟨hm, Kw1⟩
    have z1 := Kw1.size
    unfold cover_node_below_J1 at hm
    refine sw_cond rfl (fun c1 => ?_) (fun c1 => ?_)
    ·
      replace hm := cnd_t c1 hm
      refine sw_seq ?_
      -- region 2 tree.go:19
      refine sw_region [(0, 0)] rfl rfl rfl ?_
      refine sd_vv rfl rfl rfl (vv_assign rfl) ?_
      refine sd_done ?_
      refine sw_ret ?_
      refine then_r ?_
      have X2 : Gr w w1 := (Gr.kz (Gr.refl w) Kw1)
      have hr := Option.some.inj hm
      subst hr
      refine ⟨_, _, rfl, res_1 rfl (rv_tmp rfl), ?_⟩
      exact ⟨rfl, X2⟩
    ·
      replace hm := cnd_f c1 hm
      refine sw_skip ?_
      refine then_n ?_
      refine sw_seq ?_
      -- region 3 tree.go:21
      refine sw_region [(0, 0), (1, 0), (2, 0), (3, 0), (4, 0), (5, 0), (6, 0), (7, 0), (8, 0), (9, 0)] rfl rfl rfl ?_
      refine sd_vv rfl rfl rfl (vv_move rfl) ?_
      refine sd_vv rfl rfl rfl (vv_move rfl) ?_
      have hb := bnd hm; clear hm; obtain ⟨x2, hx2, hm⟩ := hb
      refine sd_ev rfl rfl rfl (ev_call en_105 rfl (cover_node_level_w p0 _ hx2 _)) ?_
      rintro _ w2 ⟨rfl, Gw2⟩
      have z3 := Gw2.size
      refine sd_vv rfl rfl rfl (vv_move rfl) ?_
      have hb := bnd hm; clear hm; obtain ⟨x3, hx3, hm⟩ := hb
      refine sd_ev rfl rfl rfl (ev_call en_105 rfl (cover_node_level_w p1 _ hx3 _)) ?_
      rintro _ w3 ⟨rfl, Gw3⟩
      have z4 := Gw3.size
      refine sd_vv rfl rfl rfl (vv_sub (k := .i64) (a := x2) (b := x3) rfl rfl) ?_
      have hb := bnd hm; clear hm; obtain ⟨n4, hn4, hm⟩ := hb
      refine sd_vv rfl rfl rfl (vv_shrI (a := p0) (b := (w64 (x2 - x3))) rfl rfl hn4) ?_
      refine sd_vv rfl rfl rfl (vv_move rfl) ?_
      refine sd_vv rfl rfl rfl (vv_eql (a := shrI p0 n4) (b := p1) rfl rfl) ?_
      refine sd_vv rfl rfl rfl (vv_assign rfl) ?_
      refine sd_done ?_
      refine sw_ret ?_
      have X5 : Gr w w3 := (Gr.trans (Gr.trans (Gr.kz (Gr.refl w) Kw1) Gw2) Gw3)
      have hr := Option.some.inj hm
      subst hr
      refine ⟨_, _, rfl, res_1 rfl (rv_tmp rfl), ?_⟩
      exact ⟨rfl, X5⟩
  ·
    -- region 1 tree.go:18
    refine sw_region [(0, 0), (1, 0), (2, 0), (3, 0), (4, 0), (5, 0), (6, 0), (7, 0), (8, 0), (9, 0), (10, 0), (11, 0), (12, 0)] rfl rfl rfl ?_
    refine sd_vv rfl rfl rfl (vv_move rfl) ?_
    refine sd_vv rfl rfl rfl (vv_lss (a := p0) (b := 1) rfl rfl) ?_
    refine sd_split rfl rfl rfl (vv_move rfl) (fun c2 => ?_) (fun c2 => ?_)
    ·
      replace hm := ite_t (of_decide_eq_true c2) hm
      refine sd_skip rfl rfl rfl ?_
      refine sd_skip rfl rfl rfl ?_
      refine sd_vv rfl rfl rfl (vv_pickT rfl rfl) ?_
      refine sd_vv rfl rfl rfl (vv_move rfl) ?_
      refine sd_skip rfl rfl rfl ?_
      refine sd_skip rfl rfl rfl ?_
      refine sd_skip rfl rfl rfl ?_
      refine sd_skip rfl rfl rfl ?_
      refine sd_skip rfl rfl rfl ?_
      refine sd_vv rfl rfl rfl (vv_pickT rfl rfl) ?_
      refine sd_nil ?_
      have K_6 : Kz [] w w := (Kz.refl _ _)
      refine ⟨rfl, true, ?_, hm, K_6⟩
      repeat' first | exact trivial | refine ⟨rfl, ?_⟩
    ·
      replace hm := ite_f (of_decide_eq_false c2) hm
      refine sd_vv rfl rfl rfl (vv_move rfl) ?_
      refine sd_vv rfl rfl rfl (vv_lss (a := p1) (b := 1) rfl rfl) ?_
      refine sd_vv rfl rfl rfl (vv_pickF rfl rfl) ?_
      refine sd_split rfl rfl rfl (vv_move rfl) (fun c3 => ?_) (fun c3 => ?_)
      ·
        replace hm := ite_t (of_decide_eq_true c3) hm
        refine sd_skip rfl rfl rfl ?_
        refine sd_skip rfl rfl rfl ?_
        refine sd_skip rfl rfl rfl ?_
        refine sd_skip rfl rfl rfl ?_
        refine sd_skip rfl rfl rfl ?_
        refine sd_vv rfl rfl rfl (vv_pickT rfl rfl) ?_
        refine sd_nil ?_
        have K_7 : Kz [] w w := (Kz.refl _ _)
        refine ⟨rfl, true, ?_, hm, K_7⟩
        repeat' first | exact trivial | refine ⟨rfl, ?_⟩
      ·
        replace hm := ite_f (of_decide_eq_false c3) hm
        refine sd_vv rfl rfl rfl (vv_move rfl) ?_
        have hb := bnd hm; clear hm; obtain ⟨x5, hx5, hm⟩ := hb
        refine sd_ev rfl rfl rfl (ev_call en_105 rfl (cover_node_level_w p0 _ hx5 _)) ?_
        rintro _ w4 ⟨rfl, Gw4⟩
        have z8 := Gw4.size
        refine sd_vv rfl rfl rfl (vv_move rfl) ?_
        have hb := bnd hm; clear hm; obtain ⟨x6, hx6, hm⟩ := hb
        refine sd_ev rfl rfl rfl (ev_call en_105 rfl (cover_node_level_w p1 _ hx6 _)) ?_
        rintro _ w5 ⟨rfl, Gw5⟩
        have z9 := Gw5.size
        refine sd_vv rfl rfl rfl (vv_lss (a := x5) (b := x6) rfl rfl) ?_
        refine sd_vv rfl rfl rfl (vv_pickF rfl rfl) ?_
        refine sd_nil ?_
        have K_10 : Kz [] w w5 := (Kz.gr (Kz.gr (Kz.refl _ _) Gw4) Gw5)
        refine ⟨rfl, (decide (x5 < x6)), ?_, hm, K_10⟩
        repeat' first | exact trivial | refine ⟨rfl, ?_⟩

set_option maxHeartbeats 2000000 in
theorem cover_tree_special_w (p0 : Tcover_tree) (p1 : Int)  (r : Bool) (hm : cover_tree_special p0 p1 = some r) (w : World)   :
    Calls Try.prog 114 [.agg (Tcover_tree.cs p0).toArray, .int .i64 p1].toArray w fun e w' => ∃ v, e = .returned v ∧ (v = .bool r ∧ Gr w w') := by
  unfold cover_tree_special at hm
  refine calls_of_sw (R := fun v w' => v = .bool r ∧ Gr w w') 11 Try.func114 rfl rfl rfl ?_
  refine sw_seq ?_
  -- region 0 tree.go:84
  refine sw_region [(0, 0), (1, 0)] rfl rfl rfl ?_
  refine sd_ev rfl rfl rfl (ev_box (cs := Tcover_tree.cs p0) rfl rfl) ?_
  rintro _ w1 ⟨b1, rfl, hbw1, Bw1, Gw1⟩
  have z1 := Gw1.size
  have lt2 := Bw1.lt
  refine sd_vv rfl rfl rfl (vv_assign rfl) ?_
  refine sd_done ?_
  refine sw_seq ?_
  -- region 1 tree.go:84 DRAWS
  refine sw_drawN [([])] [] (.leaf [(0, 10), (2, 10), (3, 10), (1, 0), (4, 10), (5, 10), (6, 10)]) (by kernel_rfl) (by kernel_rfl) rfl (by kernel_rfl) ?_
  intro w2 Gw2 zw2
  refine sdz_leaf ?_
  refine dd_hn 0 rfl rfl rfl rfl (Kp.refl ([]) w2) (fun w hS => vv_move rfl) ?_
  refine dd_hn 0 rfl rfl rfl rfl (Kp.refl ([]) w2) (fun w hS => vv_fieldAddr fa_134_2 rfl) ?_
  have B3 := (Bx.gr Bw1 Gw2)
  refine dd_hn 0 rfl rfl rfl rfl (Kp.refl ([]) w2) (fun w hS => vv_load1 (v := .int .i64 p0.stride) one_3 rfl (Bx.kp B3 hS) rfl) ?_
  have hb := bnd hm; clear hm; obtain ⟨x1, hx1, hm⟩ := hb
  refine dd_z [] rfl rfl rfl (ev_call en_105 rfl (cover_node_level_w p1 _ hx1 _)) ⟨fun _ => tk0, trivial⟩ ?_
  rintro _ w3 ⟨rfl, Gw3⟩
  have z4 := Gw3.size
  refine ⟨Kz.ofGr Gw3, ?_⟩
  have hb := bnd hm; clear hm; obtain ⟨x2, hx2, hm⟩ := hb
  have S5 := (Kp.gr (Kp.refl ([]) w2) Gw3)
  refine dd_hn 0 rfl rfl rfl rfl S5 (fun w hS => vv_remI (a := x1) (b := p0.stride) rfl rfl hx2) ?_
  refine dd_hn 0 rfl rfl rfl rfl S5 (fun w hS => vv_eql (a := x2) (b := 0) rfl rfl) ?_
  refine dd_hn 0 rfl rfl rfl rfl S5 (fun w hS => vv_assign rfl) ?_
  refine sd_done ?_
  refine sw_ret ?_
  have X6 : Gr w w3 := (Gr.trans (Gr.trans (Gr.trans (Gr.refl w) Gw1) Gw2) Gw3)
  have hr := Option.some.inj hm
  subst hr
  refine ⟨_, _, rfl, res_1 rfl (rv_tmp rfl), ?_⟩
  exact ⟨rfl, X6⟩

set_option maxHeartbeats 2000000 in
theorem cover_path_w (p0 : Int) (p1 : Int)  (r : Int × Int) (hm : cover_path p0 p1 = some r) (w : World)   :
    Calls Try.prog 128 [.int .i64 p0, .int .i64 p1].toArray w fun e w' => ∃ v, e = .returned v ∧ (∃ (bc0 : Nat) (bc1 : Nat), v = .func (.func 155) #[] [.pointer (some ⟨bc0, 0, none⟩), .pointer (some ⟨bc1, 0, none⟩)].toArray ∧ Bx w' bc0 139 ([.int .i64 r.1]) ∧ (w.heap.size ≤ bc0) ∧ Bx w' bc1 139 ([.int .i64 r.2]) ∧ (w.heap.size ≤ bc1) ∧ Gr w w') := by
  unfold cover_path at hm
  refine calls_of_sw (R := fun v w' => ∃ (bc0 : Nat) (bc1 : Nat), v = .func (.func 155) #[] [.pointer (some ⟨bc0, 0, none⟩), .pointer (some ⟨bc1, 0, none⟩)].toArray ∧ Bx w' bc0 139 ([.int .i64 r.1]) ∧ (w.heap.size ≤ bc0) ∧ Bx w' bc1 139 ([.int .i64 r.2]) ∧ (w.heap.size ≤ bc1) ∧ Gr w w') 6 Try.func128 rfl rfl rfl ?_
  refine sw_seq ?_
  -- region 0 tree.go:31
  refine sw_region [(0, 0), (1, 0), (2, 0)] rfl rfl rfl ?_
  refine sd_ev rfl rfl rfl (ev_box (cs := [.int .i64 p0]) rfl rfl) ?_
  rintro _ w1 ⟨b1, rfl, hbw1, Bw1, Gw1⟩
  have z1 := Gw1.size
  have lt2 := Bw1.lt
  refine sd_ev rfl rfl rfl (ev_box (cs := [.int .i64 p1]) rfl rfl) ?_
  rintro _ w2 ⟨b2, rfl, hbw2, Bw2, Gw2⟩
  have z3 := Gw2.size
  have lt4 := Bw2.lt
  refine sd_vv rfl rfl rfl (vv_assign rfl) ?_
  refine sd_done ?_
  refine sw_seq ?_
  -- region 1 tree.go:32
  refine sw_region [(0, 0), (1, 0)] rfl rfl rfl ?_
  refine sd_vv rfl rfl rfl (vv_makeFunc rfl rfl) ?_
  refine sd_vv rfl rfl rfl (vv_assign rfl) ?_
  refine sd_done ?_
  refine sw_ret ?_
  have B5 := (Bx.gr Bw1 Gw2)
  have X6 : Gr w w2 := (Gr.trans (Gr.trans (Gr.refl w) Gw1) Gw2)
  have hr := Option.some.inj hm
  subst hr
  refine ⟨_, _, rfl, res_1 rfl (rv_tmp rfl), ?_⟩
  exact ⟨b1, b2, rfl, B5, by omega, Bw2, by omega, X6⟩

set_option maxHeartbeats 2000000 in
theorem cover_node_toward_w (p0 : Int) (p1 : Int)  (r : Int) (hm : cover_node_toward p0 p1 = some r) (w : World)   :
    Calls Try.prog 77 [.int .i64 p0, .int .i64 p1].toArray w fun e w' => ∃ v, e = .returned v ∧ (v = .int .i64 r ∧ Gr w w') := by
  unfold cover_node_toward at hm
  refine calls_of_sw (R := fun v w' => v = .int .i64 r ∧ Gr w w') 13 Try.func77 rfl rfl rfl ?_
  refine sw_seq ?_
  -- region 0 tree.go:28
  refine sw_region [(0, 0)] rfl rfl rfl ?_
  refine sd_vv rfl rfl rfl (vv_assign rfl) ?_
  refine sd_done ?_
  refine sw_seq ?_
  -- region 1 tree.go:28
  refine sw_region [(0, 0), (1, 0), (2, 0), (3, 0), (4, 0), (5, 0), (6, 0), (7, 0), (8, 0)] rfl rfl rfl ?_
  refine sd_vv rfl rfl rfl (vv_move rfl) ?_
  refine sd_vv rfl rfl rfl (vv_move rfl) ?_
  have hb := bnd hm; clear hm; obtain ⟨x1, hx1, hm⟩ := hb
  refine sd_ev rfl rfl rfl (ev_call en_105 rfl (cover_node_level_w p1 _ hx1 _)) ?_
  rintro _ w1 ⟨rfl, Gw1⟩
  have z1 := Gw1.size
  refine sd_vv rfl rfl rfl (vv_move rfl) ?_
  have hb := bnd hm; clear hm; obtain ⟨x2, hx2, hm⟩ := hb
  refine sd_ev rfl rfl rfl (ev_call en_105 rfl (cover_node_level_w p0 _ hx2 _)) ?_
  rintro _ w2 ⟨rfl, Gw2⟩
  have z2 := Gw2.size
  refine sd_vv rfl rfl rfl (vv_sub (k := .i64) (a := x1) (b := x2) rfl rfl) ?_
  refine sd_vv rfl rfl rfl (vv_sub (k := .i64) (a := w64 (x1 - x2)) (b := 1) rfl rfl) ?_
  have hb := bnd hm; clear hm; obtain ⟨n3, hn3, hm⟩ := hb
  refine sd_vv rfl rfl rfl (vv_shrI (a := p1) (b := (w64 ((w64 (x1 - x2)) - 1))) rfl rfl hn3) ?_
  refine sd_vv rfl rfl rfl (vv_assign rfl) ?_
  refine sd_done ?_
  refine sw_ret ?_
  have X3 : Gr w w2 := (Gr.trans (Gr.trans (Gr.refl w) Gw1) Gw2)
  have hr := Option.some.inj hm
  subst hr
  refine ⟨_, _, rfl, res_1 rfl (rv_tmp rfl), ?_⟩
  exact ⟨rfl, X3⟩

set_option maxHeartbeats 2000000 in
theorem cover_path_1_it (p1 : Int) (p2 : Int) (bp1 : Nat) (bp2 : Nat) (xs : List Int) (hm : cover_path_1 p1 p2 = some xs) (w0 : World) (hbp1 : Bx w0 bp1 139 ([.int .i64 p1])) (hbp2 : Bx w0 bp2 139 ([.int .i64 p2])) :
    IT Try.prog 155 [.pointer (some ⟨bp1, 0, none⟩), .pointer (some ⟨bp2, 0, none⟩)] (xs.map (fun (x : Int) => ([.int .i64 x] : List Value))) ([bp1] ++ [bp2]) w0 := by
  intro l J Jx w fp hG hJ hJx hcap h0 hY
  have c1 := Bx.gr hbp1 hG
  have lt2 := c1.lt
  have nb3 : bp1 ∉ fp := hcap _ (by simp)
  have c4 := Bx.gr hbp2 hG
  have lt5 := c4.lt
  have nb6 : bp2 ∉ fp := hcap _ (by simp)
  have hd := dr_0 xs
  unfold cover_path_1 at hm
  refine calls_of_sw (R := fun v w' => Kp fp w w' ∧ ((∃ fp', (∀ c ∈ fp', c ∈ fp ∨ w.heap.size ≤ c) ∧ J (xs.map (fun (x : Int) => ([.int .i64 x] : List Value))).length fp' w') ∨ (∃ j fp', (∀ c ∈ fp', c ∈ fp ∨ w.heap.size ≤ c) ∧ j ≤ (xs.map (fun (x : Int) => ([.int .i64 x] : List Value))).length ∧ Jx j fp' w'))) 16 Try.func155 rfl rfl rfl ?_
  refine sw_seq ?_
  -- region 0 tree.go:33
  refine sw_region [(0, 0), (1, 0)] rfl rfl rfl ?_
  refine sd_vv rfl rfl rfl (vv_load1 (v := .int .i64 p1) one_139 rfl c1 rfl) ?_
  refine sd_vv rfl rfl rfl (vv_assign rfl) ?_
  refine sd_done ?_
  refine sw_block ?_
  refine sw_loopD (α := Nat × Int × Nat × List Nat × List Int) [4, 6, 7, 8, 9, 10, 11, 12, 13, 14, 15] (fun ⟨n1, a2, kk, fpl, rl⟩ => [(4, .int .i64 a2)]) (fun ⟨n1, a2, kk, fpl, rl⟩ wr => (fixN (cover_path_1_L1 p2) n1 a2 = some rl) ∧ Dr xs kk rl ∧ J kk fpl wr ∧ (∀ c ∈ fpl, c ∈ fp ∨ w.heap.size ≤ c) ∧ Kp fp w wr ∧ Bx wr bp1 139 ([.int .i64 p1]) ∧ Bx wr bp2 139 ([.int .i64 p2]) ∧ bp1 ∉ fpl ∧ bp2 ∉ fpl ∧ True) (fun ⟨n1, a2, kk, fpl, rl⟩ => n1) ⟨FUEL, p1, 0, fp, xs⟩ ?_ ?_ ?_
  · repeat' first | exact trivial | refine ⟨rfl, ?_⟩
  · exact ⟨hm, hd, h0, (fun c hc => Or.inl hc), (Kp.refl fp w), c1, c4, nb3, nb6, trivial⟩
  · clear hm; rintro ⟨n1, a2, kk1, fpl1, rl1⟩ w1 ⟨hm, dl1, JLw1, sl1, KLw1, Sw1_0, Sw1_1, Nw1_0, Nw1_1, -⟩
    have z7 := KLw1.size
    have lt8 := Sw1_0.lt
    have lt9 := Sw1_1.lt
    have hb := fix_succ hm; clear hm; obtain ⟨n1, rfl, hm⟩ := hb
    generalize hrec1 : fixN (cover_path_1_L1 p2) n1 = rec1 at hm
    unfold cover_path_1_L1 at hm
    try dsimp only at hm
    refine sw_seq ?_
    refine sw_seq ?_
    -- region 1 tree.go:33
    refine sw_region [(0, 0), (1, 0), (2, 0)] rfl rfl rfl ?_
    refine sd_vv rfl rfl rfl (vv_move rfl) ?_
    refine sd_vv rfl rfl rfl (vv_load1 (v := .int .i64 p2) one_139 rfl Sw1_1 rfl) ?_
    refine sd_vv rfl rfl rfl (vv_neq (a := a2) (b := p2) rfl rfl) ?_
    refine sd_done ?_
    refine sw_cond rfl (fun c1 => ?_) (fun c1 => ?_)
    ·
      replace hm := ite_t (of_decide_eq_true c1) hm
      refine sw_skip ?_
      refine then_n ?_
      refine sw_block ?_
      refine sw_seq ?_
      -- region 2 tree.go:34
      refine sw_region [(0, 0), (1, 0), (2, 0), (3, 0)] rfl rfl rfl ?_
      refine sd_vv rfl rfl rfl (vv_move rfl) ?_
      refine sd_vv rfl rfl rfl (vv_load1 (v := .int .i64 p2) one_139 rfl Sw1_1 rfl) ?_
      have hb := bnd hm; clear hm; obtain ⟨x3, hx3, hm⟩ := hb
      refine sd_ev rfl rfl rfl (ev_call en_77 rfl (cover_node_toward_w a2 p2 _ hx3 _)) ?_
      rintro _ w2 ⟨rfl, Gw2⟩
      have z10 := Gw2.size
      refine sd_vv rfl rfl rfl (vv_assign rfl) ?_
      refine sd_done ?_
      refine sw_seq ?_
      -- region 3 tree.go:35
      refine sw_region [(0, 0), (1, 0), (2, 0), (3, 0)] rfl rfl rfl ?_
      refine sd_vv rfl rfl rfl (vv_move rfl) ?_
      refine sd_vv rfl rfl rfl (vv_move rfl) ?_
      have J12 := (hJ.gr JLw1 Gw2)
      have KI13 : Kp fp w w2 := (Kp.gr KLw1 Gw2)
      obtain ⟨rr11, hm, he11⟩ := yl_some hm
      have hx11 := Dr.at dl1 he11
      have hd11 := Dr.next dl1 he11
      have B14 := (Bx.gr Sw1_0 Gw2)
      have B15 := (Bx.gr Sw1_1 Gw2)
      refine sd_ev rfl rfl rfl (ev_yield rfl rfl (hY _ _ _ _ (getm hx11) J12 KI13 sl1)) ?_
      rintro _ w3 ⟨bb, rfl, KF11, fp11, hg11, hJb⟩
      have z16 := KF11.size
      have sub11 : ∀ c ∈ fp11, c ∈ fp ∨ w.heap.size ≤ c := sub_grow sl1 hg11 (by omega)
      have nb17 := notin_grow hg11 Nw1_0 (by omega)
      have nb18 := notin_grow hg11 Nw1_1 (by omega)
      cases bb
      ·
        have Jy11 : Jx (kk1 + 1) fp11 w3 := hJb
        refine sd_vv rfl rfl rfl (vv_not rfl) ?_
        refine sd_done ?_
        refine sw_condT rfl ?_
        refine sw_ret ?_
        refine block_r ?_
        refine then_r ?_
        refine block_r ?_
        have KI19 : Kp fp w w3 := (Kp.trans KI13 KF11 sl1)
        exact ⟨_, _, rfl, res_none rfl, KI19, .inr ⟨_, _, sub11, (by rw [List.length_map]; exact (List.getElem?_eq_some_iff.1 hx11).1), Jy11⟩⟩
      ·
        have Jy11 : J (kk1 + 1) fp11 w3 := hJb
        refine sd_vv rfl rfl rfl (vv_not rfl) ?_
        refine sd_done ?_
        refine sw_condF rfl ?_
        refine sw_skip ?_
        refine block_n ?_
        have KI20 : Kp fp w w3 := (Kp.trans KI13 KF11 sl1)
        have B21 := (Bx.kp B14 KF11 Nw1_0)
        have B22 := (Bx.kp B15 KF11 Nw1_1)
        subst hrec1
        refine ⟨rfl, ⟨n1, x3, (kk1 + 1), fp11, rr11⟩, ?_, ⟨hm, hd11, Jy11, sub11, KI20, B21, B22, nb17, nb18, trivial⟩, Nat.lt_succ_self _⟩
        repeat' first | exact trivial | refine ⟨rfl, ?_⟩
    ·
      replace hm := ite_f (of_decide_eq_false c1) hm
      refine sw_exit ?_
      refine then_x ?_
      refine then_x ?_
      refine block_x ?_
      have he := Option.some.inj hm
      have hl := Dr.last (c := (fun (x : Int) => ([.int .i64 x] : List Value))) dl1 he.symm
      refine ⟨_, _, rfl, res_none rfl, KLw1, .inl ⟨_, sl1, ?_⟩⟩
      rw [← hl]; exact JLw1

set_option maxHeartbeats 2000000 in
theorem cover_first_cover_path_1_cover_tree_special_w (p0_0 : Int) (p0_1 : Int) (p1_0 : Tcover_tree) (bp0_0 : Nat) (bp0_1 : Nat) (r : Int) (hm : cover_first_cover_path_1_cover_tree_special p0_0 p0_1 p1_0 = some r) (w : World) (hbp0_0 : Bx w bp0_0 139 ([.int .i64 p0_0])) (hbp0_1 : Bx w bp0_1 139 ([.int .i64 p0_1]))  :
    Calls Try.prog 127 [.func (.func 155) [].toArray [.pointer (some ⟨bp0_0, 0, none⟩), .pointer (some ⟨bp0_1, 0, none⟩)].toArray, .func (.func 114) [.agg (Tcover_tree.cs p1_0).toArray].toArray [].toArray].toArray w fun e w' => ∃ v, e = .returned v ∧ (v = .int .i64 r ∧ Gr w w') := by
  have lt1 := hbp0_0.lt
  have lt2 := hbp0_1.lt
  unfold cover_first_cover_path_1_cover_tree_special at hm
  refine calls_of_sw (R := fun v w' => v = .int .i64 r ∧ Gr w w') 12 Try.func127 rfl rfl rfl ?_
  refine sw_seq ?_
  -- region 0 tree.go:87
  refine sw_region [(0, 0), (1, 0)] rfl rfl rfl ?_
  refine sd_ev rfl rfl rfl (ev_box rfl rfl) ?_
  rintro _ w1 ⟨b1, rfl, hbw1, Bw1, Gw1⟩
  have z3 := Gw1.size
  have lt4 := Bw1.lt
  refine sd_ev rfl rfl rfl (ev_alloc (cs := [.int .i64 0]) zv_139 rfl) ?_
  rintro _ w2 ⟨b2, rfl, hbw2, Bw2, Gw2⟩
  have z5 := Gw2.size
  have lt6 := Bw2.lt
  refine sd_done ?_
  refine sw_seq ?_
  refine sw_seq ?_
  -- region 1 tree.go:88
  refine sw_region [(0, 0)] rfl rfl rfl ?_
  refine sd_vv rfl rfl rfl (vv_move rfl) ?_
  refine sd_done ?_
  refine sw_block ?_
  have B7 := (Bx.gr (Bx.gr hbp0_0 Gw1) Gw2)
  have B8 := (Bx.gr (Bx.gr hbp0_1 Gw1) Gw2)
  have hb := bnd hm; clear hm; obtain ⟨l1, hl1, hm⟩ := hb
  have X9 : Gr w w2 := (Gr.trans (Gr.trans (Gr.refl w) Gw1) Gw2)
  have B10 := (Bx.gr Bw1 Gw2)
  refine sw_rangeFunc (gf := 155) rfl en_155 (cover_path_1_it p0_0 p0_1 _ _ _ hl1 _ B7 B8) (by intro x hx; obtain ⟨a, _, rfl⟩ := List.mem_map.1 hx; rfl) rfl _ _ ([b2]) (stb_mk (α := Int) (fun a3 rk => itL (cover_first_cover_path_1_cover_tree_special_R1 p1_0) cover_first_cover_path_1_cover_tree_special_D1 (List.drop rk l1) a3 = some r) (fun a3 => ([b2])) (fun a3 W => Bx W b2 139 ([.int .i64 a3]) ∧ True) (by rintro a3 W ⟨F0, _⟩ b hb; have q0 := F0.lt; replace hb : b ∈ ([b2]) := hb; simp only [List.mem_cons, List.mem_append, mem_zf, List.not_mem_nil, or_false, false_or, not_or, ne_eq, List.nil_append, List.cons_append, true_and, and_true, false_and, and_false, not_true_eq_false, not_false_eq_true, or_true, true_or] at hb; omega) (by rintro a3 W W' ⟨F0, _⟩ E hs; replace hs : ∀ b ∈ ([b2]), W'.heap[b]? = W.heap[b]? := hs; exact ⟨(hs _ (by simp)).trans F0, trivial⟩)) (fun c => (stb_c (c = .ret) (stb_mk (α := Int) (fun a3 rk => cover_first_cover_path_1_cover_tree_special_X1_0 a3 = some r) (fun a3 => ([b2])) (fun a3 W => Bx W b2 139 ([.int .i64 a3]) ∧ True) (by rintro a3 W ⟨F0, _⟩ b hb; have q0 := F0.lt; replace hb : b ∈ ([b2]) := hb; simp only [List.mem_cons, List.mem_append, mem_zf, List.not_mem_nil, or_false, false_or, not_or, ne_eq, List.nil_append, List.cons_append, true_and, and_true, false_and, and_false, not_true_eq_false, not_false_eq_true, or_true, true_or] at hb; omega) (by rintro a3 W W' ⟨F0, _⟩ E hs; replace hs : ∀ b ∈ ([b2]), W'.heap[b]? = W.heap[b]? := hs; exact ⟨(hs _ (by simp)).trans F0, trivial⟩)))) (by intro b hb; simp only [List.mem_cons, List.mem_append, mem_zf, List.not_mem_nil, or_false, false_or, not_or, ne_eq, List.nil_append, List.cons_append, true_and, and_true, false_and, and_false, not_true_eq_false, not_false_eq_true, or_true, true_or] at hb ⊢; omega) ⟨0, hm, rfl, Bw2, trivial⟩ ?_ ?_ ?_
  · rintro l rk x fp w3 hl hx _ Kw3 hF hln hlt
    clear hm
    obtain ⟨e4, hxe, rfl⟩ := map_some hx
    have Zw3 : Kz [(1, b2)] w2 w3 := kz_of_kp Kw3 (by intro k hk; simp only [Nin, and_true, List.mem_cons, List.mem_append, mem_zf, List.not_mem_nil, or_false, false_or, not_or, ne_eq, List.nil_append, List.cons_append, true_and, and_true, false_and, and_false, not_true_eq_false, not_false_eq_true, or_true, true_or] at hk ⊢; omega)
    have z11 := Kw3.size
    -- region 2 tree.go:88
    refine sw_region [(0, 0)] rfl rfl rfl ?_
    refine sd_vv rfl rfl rfl (vv_assign rfl) ?_
    refine sd_nil ?_
    refine ⟨rfl, (Gr.refl _), ?_⟩
    rintro w4 Mw4 ⟨a3, hm, rfl, Fw4_0, -⟩
    have z12 := Mw4.size
    have lt13 := Fw4_0.lt
    replace hm := itL_at hm hxe
    generalize hnx1 : itL (cover_first_cover_path_1_cover_tree_special_R1 p1_0) cover_first_cover_path_1_cover_tree_special_D1 (List.drop (rk + 1) l1) = nx1 at hm
    unfold cover_first_cover_path_1_cover_tree_special_R1 at hm
    try dsimp only at hm
    refine sw_block ?_
    refine sw_seq ?_
    -- region 3 tree.go:89
    refine sw_region [(0, 0), (1, 0), (2, 0)] rfl rfl rfl ?_
    have B14 := (Bx.md (Bx.kz B10 Zw3) Mw4)
    refine sd_vv rfl rfl rfl (vv_load1 one_176 rfl B14 rfl) ?_
    refine sd_vv rfl rfl rfl (vv_move rfl) ?_
    have hb := bnd hm; clear hm; obtain ⟨x5, hx5, hm⟩ := hb
    refine sd_ev rfl rfl rfl (ev_callV en_114 rfl rfl (cover_tree_special_w p1_0 e4 _ hx5 _)) ?_
    rintro _ w5 ⟨rfl, Gw5⟩
    have z15 := Gw5.size
    refine sd_done ?_
    refine sw_cond rfl (fun c1 => ?_) (fun c1 => ?_)
    ·
      replace hm := cnd_t c1 hm
      refine sw_seq ?_
      -- region 4 tree.go:90
      refine sw_region [(0, 0), (1, 0)] rfl rfl rfl ?_
      refine sd_vv rfl rfl rfl (vv_move rfl) ?_
      have B16 := (Bx.gr Fw4_0 Gw5)
      refine sd_ev rfl rfl rfl (ev_st1 (cs' := [.int .i64 e4]) (one_139).siz rfl rfl rfl B16 rfl rfl) ?_
      rintro _ w6 ⟨Bw6, Mw6⟩
      have z17 := Mw6.size
      refine sd_done ?_
      refine sw_ret ?_
      refine block_r ?_
      have K_18 : Kz [(1, b2)] w4 w6 := (Kz.md (Kz.gr (Kz.refl _ _) Gw5) Mw6)
      have Kq18 : Kp ([b2]) w4 w6 := kp_of_kz K_18 (by intro k hk; simp only [Nin, and_true, List.mem_cons, List.mem_append, mem_zf, List.not_mem_nil, or_false, false_or, not_or, ne_eq, List.nil_append, List.cons_append, true_and, and_true, false_and, and_false, not_true_eq_false, not_false_eq_true, or_true, true_or] at hk ⊢; omega)
      exact ⟨Kq18, ([b2]), (by intro c hc; simp only [List.mem_cons, List.mem_append, mem_zf, List.not_mem_nil, or_false, false_or, not_or, ne_eq, List.nil_append, List.cons_append, true_and, and_true, false_and, and_false, not_true_eq_false, not_false_eq_true, or_true, true_or] at hc ⊢; omega), ⟨rfl, e4, hm, rfl, Bw6, trivial⟩⟩
    ·
      replace hm := cnd_f c1 hm
      refine sw_skip ?_
      refine block_n ?_
      have B20 := (Bx.gr Fw4_0 Gw5)
      have K_19 : Kz [(1, b2)] w4 w5 := (Kz.gr (Kz.refl _ _) Gw5)
      have Kq19 : Kp ([b2]) w4 w5 := kp_of_kz K_19 (by intro k hk; simp only [Nin, and_true, List.mem_cons, List.mem_append, mem_zf, List.not_mem_nil, or_false, false_or, not_or, ne_eq, List.nil_append, List.cons_append, true_and, and_true, false_and, and_false, not_true_eq_false, not_false_eq_true, or_true, true_or] at hk ⊢; omega)
      subst hnx1
      exact ⟨Kq19, ([b2]), (by intro c hc; simp only [List.mem_cons, List.mem_append, mem_zf, List.not_mem_nil, or_false, false_or, not_or, ne_eq, List.nil_append, List.cons_append, true_and, and_true, false_and, and_false, not_true_eq_false, not_false_eq_true, or_true, true_or] at hc ⊢; omega), ⟨a3, hm, rfl, B20, trivial⟩⟩
  · clear hm; rintro Dw7 fp w7 hDw7 Dfw7 nw7 ⟨a3, hm, rfl, Fw7_0, -⟩ Kw7
    replace hm := itL_end hm
    have Zw7 : Kz [(1, b2)] w2 w7 := kz_of_kp Kw7 (by intro k hk; simp only [Nin, and_true, List.mem_cons, List.mem_append, mem_zf, List.not_mem_nil, or_false, false_or, not_or, ne_eq, List.nil_append, List.cons_append, true_and, and_true, false_and, and_false, not_true_eq_false, not_false_eq_true, or_true, true_or] at hk ⊢; omega)
    have z21 := Kw7.size
    have lt22 := Df.lt (w := w7) Dfw7
    simp only [List.mem_cons, List.mem_append, mem_zf, List.not_mem_nil, or_false, false_or, not_or, ne_eq, List.nil_append, List.cons_append, true_and, and_true, false_and, and_false, not_true_eq_false, not_false_eq_true, or_true, true_or, not_and] at nw7
    have lt23 := Fw7_0.lt
    unfold cover_first_cover_path_1_cover_tree_special_D1 at hm
    try dsimp only at hm
    refine block_n ?_
    refine then_n ?_
    refine sw_seq ?_
    -- region 5 tree.go:93
    refine sw_region [(0, 0)] rfl rfl rfl ?_
    refine sd_ev rfl rfl rfl (ev_st1 (cs' := [.int .i64 0]) (one_139).siz rfl rfl rfl Fw7_0 rfl rfl) ?_
    rintro _ w8 ⟨Bw8, Mw8⟩
    have z24 := Mw8.size
    refine sd_done ?_
    refine sw_ret ?_
    have DL25 := (Df.md Dfw7 Mw8)
    have L25 := Md.put (w := w8) Dw7 (.deferred none)
    have zL25 := L25.size
    have B26 := (Bx.md Bw8 L25)
    have X27 : Gr w (w8.putObj Dw7 (.deferred none)) := (Gr.md (Gr.md (Gr.kz X9 Zw7) Mw8) L25)
    have hr := Option.some.inj hm
    subst hr
    refine ⟨_, _, ⟨Dw7, rfl, DL25, rfl⟩, res_1 rfl (rv_cell1 one_139 rfl B26), ?_⟩
    exact ⟨rfl, X27⟩
  · clear hm; rintro Dw9 c rk fp w9 hDw9 Dfw9 nw9 hle ⟨rfl, a3, hm, rfl, Fw9_0, -⟩ Kw9
    have Zw9 : Kz [(1, b2)] w2 w9 := kz_of_kp Kw9 (by intro k hk; simp only [Nin, and_true, List.mem_cons, List.mem_append, mem_zf, List.not_mem_nil, or_false, false_or, not_or, ne_eq, List.nil_append, List.cons_append, true_and, and_true, false_and, and_false, not_true_eq_false, not_false_eq_true, or_true, true_or] at hk ⊢; omega)
    have z28 := Kw9.size
    have lt29 := Df.lt (w := w9) Dfw9
    simp only [List.mem_cons, List.mem_append, mem_zf, List.not_mem_nil, or_false, false_or, not_or, ne_eq, List.nil_append, List.cons_append, true_and, and_true, false_and, and_false, not_true_eq_false, not_false_eq_true, or_true, true_or, not_and] at nw9
    have lt30 := Fw9_0.lt
    unfold cover_first_cover_path_1_cover_tree_special_X1_0 at hm
    try dsimp only at hm
    refine sw_ret ?_
    refine block_r ?_
    refine then_r ?_
    have DL31 := Dfw9
    have L31 := Md.put (w := w9) Dw9 (.deferred none)
    have zL31 := L31.size
    have B32 := (Bx.md Fw9_0 L31)
    have X33 : Gr w (w9.putObj Dw9 (.deferred none)) := (Gr.md (Gr.kz X9 Zw9) L31)
    have hr := Option.some.inj hm
    subst hr
    refine ⟨_, _, ⟨Dw9, rfl, DL31, rfl⟩, res_1 rfl (rv_cell1 one_139 rfl B32), ?_⟩
    exact ⟨rfl, X33⟩

set_option maxHeartbeats 2000000 in
theorem cover_tree_cut_w (p0 : Tcover_tree) (p1 : Int) (p2 : Int)  (r : Int) (hm : cover_tree_cut p0 p1 p2 = some r) (w : World)   :
    Calls Try.prog 80 [.agg (Tcover_tree.cs p0).toArray, .int .i64 p1, .int .i64 p2].toArray w fun e w' => ∃ v, e = .returned v ∧ (v = .int .i64 r ∧ Gr w w') := by
  unfold cover_tree_cut at hm
  refine calls_of_sw (R := fun v w' => v = .int .i64 r ∧ Gr w w') 14 Try.func80 rfl rfl rfl ?_
  refine sw_seq ?_
  -- region 0 tree.go:97
  refine sw_region [(0, 0), (1, 0)] rfl rfl rfl ?_
  refine sd_ev rfl rfl rfl (ev_box (cs := Tcover_tree.cs p0) rfl rfl) ?_
  rintro _ w1 ⟨b1, rfl, hbw1, Bw1, Gw1⟩
  have z1 := Gw1.size
  have lt2 := Bw1.lt
  refine sd_vv rfl rfl rfl (vv_assign rfl) ?_
  refine sd_done ?_
  refine sw_seq ?_
  -- region 1 tree.go:97 DRAWS
  refine sw_drawN [([])] [] (.leaf [(0, 10), (1, 10), (2, 10), (4, 10), (5, 10), (3, 0), (6, 0), (7, 10)]) (by kernel_rfl) (by kernel_rfl) rfl (by kernel_rfl) ?_
  intro w2 Gw2 zw2
  refine sdz_leaf ?_
  refine dd_hn 0 rfl rfl rfl rfl (Kp.refl ([]) w2) (fun w hS => vv_move rfl) ?_
  refine dd_hn 0 rfl rfl rfl rfl (Kp.refl ([]) w2) (fun w hS => vv_move rfl) ?_
  have hb := bnd hm; clear hm; obtain ⟨n1, hn1, hm⟩ := hb
  refine dd_hn 0 rfl rfl rfl rfl (Kp.refl ([]) w2) (fun w hS => vv_shrI (a := p2) (b := (un 1#64)) rfl rfl hn1) ?_
  have B3 := (Bx.gr Bw1 Gw2)
  refine dd_hn 0 rfl rfl rfl rfl (Kp.refl ([]) w2) (fun w hS => vv_loadW agg_134 rfl (Bx.kp B3 hS) rfl) ?_
  refine dd_hn 0 rfl rfl rfl rfl (Kp.refl ([]) w2) (fun w hS => vv_makeFunc rfl rfl) ?_
  have hb := bnd hm; clear hm; obtain ⟨x2, hx2, hm⟩ := hb
  refine dd_z [] rfl rfl rfl (ev_call en_128 rfl (cover_path_w p1 (shrI p2 n1) _ hx2 _)) ⟨fun _ => tk0, trivial⟩ ?_
  rintro _ w3 ⟨k3_c0_0, k3_c0_1, rfl, O3_c0_0, f3_c0_0, O3_c0_1, f3_c0_1, Gw3⟩
  have z4 := Gw3.size
  have lt5 := O3_c0_0.lt
  have lt6 := O3_c0_1.lt
  refine ⟨Kz.ofGr Gw3, ?_⟩
  have hb := bnd hm; clear hm; obtain ⟨x3, hx3, hm⟩ := hb
  refine dd_z [] rfl rfl rfl (ev_call en_127 rfl (cover_first_cover_path_1_cover_tree_special_w x2.1 x2.2 p0 _ _ _ hx3 _ O3_c0_0 O3_c0_1)) ⟨fun _ => tk0, trivial⟩ ?_
  rintro _ w4 ⟨rfl, Gw4⟩
  have z7 := Gw4.size
  refine ⟨Kz.ofGr Gw4, ?_⟩
  have S8 := (Kp.gr (Kp.gr (Kp.refl ([]) w2) Gw3) Gw4)
  refine dd_hn 0 rfl rfl rfl rfl S8 (fun w hS => vv_assign rfl) ?_
  refine sd_done ?_
  refine sw_ret ?_
  have X9 : Gr w w4 := (Gr.trans (Gr.trans (Gr.trans (Gr.trans (Gr.refl w) Gw1) Gw2) Gw3) Gw4)
  have hr := Option.some.inj hm
  subst hr
  refine ⟨_, _, rfl, res_1 rfl (rv_tmp rfl), ?_⟩
  exact ⟨rfl, X9⟩

set_option maxHeartbeats 2000000 in
theorem cover_tree_subset_w (p0 : Tcover_tree) (p1 : TSubset)  (r : Bool) (hm : cover_tree_subset p0 p1 = some r) (w : World)   :
    Calls Try.prog 79 [.agg (Tcover_tree.cs p0).toArray, .agg (TSubset.cs p1).toArray].toArray w fun e w' => ∃ v, e = .returned v ∧ (v = .bool r ∧ Gr w w') := by
  unfold cover_tree_subset at hm
  refine calls_of_sw (R := fun v w' => v = .bool r ∧ Gr w w') 68 Try.func79 rfl rfl rfl ?_
  refine sw_seq ?_
  -- region 0 tree.go:100
  refine sw_region [(0, 0), (1, 0), (2, 0)] rfl rfl rfl ?_
  refine sd_ev rfl rfl rfl (ev_box (cs := Tcover_tree.cs p0) rfl rfl) ?_
  rintro _ w1 ⟨b1, rfl, hbw1, Bw1, Gw1⟩
  have z1 := Gw1.size
  have lt2 := Bw1.lt
  refine sd_ev rfl rfl rfl (ev_box (cs := TSubset.cs p1) rfl rfl) ?_
  rintro _ w2 ⟨b2, rfl, hbw2, Bw2, Gw2⟩
  have z3 := Gw2.size
  have lt4 := Bw2.lt
  refine sd_vv rfl rfl rfl (vv_assign rfl) ?_
  refine sd_done ?_
  refine sw_seq ?_
  -- region 1 tree.go:101 DRAWS
  refine sw_drawN [([])] [] (.leaf [(0, 10), (1, 10), (2, 10), (3, 10), (4, 10), (5, 10)]) (by kernel_rfl) (by kernel_rfl) rfl (by kernel_rfl) ?_
  intro w3 Gw3 zw3
  refine sdz_leaf ?_
  refine dd_hn 0 rfl rfl rfl rfl (Kp.refl ([]) w3) (fun w hS => vv_fieldAddr fa_47_0 rfl) ?_
  have B5 := (Bx.gr Bw2 Gw3)
  refine dd_hn 0 rfl rfl rfl rfl (Kp.refl ([]) w3) (fun w hS => vv_load1 (v := .int .i64 p1.Node) one_3 rfl (Bx.kp B5 hS) rfl) ?_
  refine dd_hn 0 rfl rfl rfl rfl (Kp.refl ([]) w3) (fun w hS => vv_fieldAddr fa_47_1 rfl) ?_
  refine dd_hn 0 rfl rfl rfl rfl (Kp.refl ([]) w3) (fun w hS => vv_load1 (v := .int .i64 p1.Minus) one_3 rfl (Bx.kp B5 hS) rfl) ?_
  refine dd_hn 0 rfl rfl rfl rfl (Kp.refl ([]) w3) (fun w hS => vv_assign rfl) ?_
  refine dd_hn 0 rfl rfl rfl rfl (Kp.refl ([]) w3) (fun w hS => vv_assign rfl) ?_
  refine sd_done ?_
  refine sw_seq ?_
  refine sw_block ?_
  refine sw_seq ?_
  -- region 2 tree.go:103
  refine sw_region [(0, 0), (1, 0), (2, 0), (3, 0), (4, 0), (5, 0)] rfl rfl rfl ?_
  have B6 := (Bx.gr (Bx.gr Bw1 Gw2) Gw3)
  refine sd_vv rfl rfl rfl (vv_loadW agg_134 rfl B6 rfl) ?_
  refine sd_vv rfl rfl rfl (vv_fieldAddr fa_47_0 rfl) ?_
  refine sd_vv rfl rfl rfl (vv_load1 (v := .int .i64 p1.Node) one_3 rfl B5 rfl) ?_
  have hb := bnd hm; clear hm; obtain ⟨x1, hx1, hm⟩ := hb
  refine sd_ev rfl rfl rfl (ev_call en_125 rfl (cover_tree_has_w p0 p1.Node _ hx1 _)) ?_
  rintro _ w4 ⟨rfl, Gw4⟩
  have z7 := Gw4.size
  refine sd_vv rfl rfl rfl (vv_not rfl) ?_
  refine sd_vv rfl rfl rfl (vv_assign rfl) ?_
  refine sd_done ?_
  refine sw_cond rfl (fun c1 => ?_) (fun c1 => ?_)
  ·
    replace hm := cnd_t c1 hm
    refine sw_seq ?_
    -- region 3 tree.go:104
    refine sw_region [(0, 0)] rfl rfl rfl ?_
    refine sd_vv rfl rfl rfl (vv_assign rfl) ?_
    refine sd_done ?_
    refine sw_ret ?_
    refine block_r ?_
    refine then_r ?_
    have X8 : Gr w w4 := (Gr.trans (Gr.trans (Gr.trans (Gr.trans (Gr.refl w) Gw1) Gw2) Gw3) Gw4)
    have hr := Option.some.inj hm
    subst hr
    refine ⟨_, _, rfl, res_1 rfl (rv_tmp rfl), ?_⟩
    exact ⟨rfl, X8⟩
  ·
    replace hm := cnd_f c1 hm
    have X9 : Gr w w4 := (Gr.trans (Gr.trans (Gr.trans (Gr.trans (Gr.refl w) Gw1) Gw2) Gw3) Gw4)
    refine sw_joinD (β := Bool) [17, 18, 19, 20, 21, 22, 23, 24] (fun a2 => [(17, .bool a2)]) (fun a2 wr => (cover_tree_subset_J1 p0 p1 a2 = some r) ∧ Kz [] w4 wr) ?_ ?_
    · clear hm; rintro a2 w5 ⟨hm, Kw5⟩
      have z10 := Kw5.size
      unfold cover_tree_subset_J1 at hm
      refine sw_cond rfl (fun c2 => ?_) (fun c2 => ?_)
      ·
        replace hm := cnd_t c2 hm
        refine sw_seq ?_
        -- region 5 tree.go:106
        refine sw_region [(0, 0), (1, 0), (2, 0), (3, 0), (4, 0), (5, 0), (6, 0), (7, 0), (8, 0), (9, 0), (10, 0), (11, 0)] rfl rfl rfl ?_
        refine sd_vv rfl rfl rfl (vv_move rfl) ?_
        refine sd_vv rfl rfl rfl (vv_eql (a := p1.Minus) (b := 0) rfl rfl) ?_
        refine sd_split rfl rfl rfl (vv_move rfl) (fun c3 => ?_) (fun c3 => ?_)
        ·
          replace hm := ite_t (of_decide_eq_true c3) hm
          refine sd_vv rfl rfl rfl (vv_fieldAddr fa_134_0 rfl) ?_
          have B11 := (Bx.kz (Bx.gr B6 Gw4) Kw5)
          refine sd_vv rfl rfl rfl (vv_load1 (v := bv p0.kind) one_5 rfl B11 rfl) ?_
          refine sd_vv rfl rfl rfl (vv_eqlB (p := p0.kind) (q := 1#8) rfl rfl) ?_
          refine sd_split rfl rfl rfl (vv_move rfl) (fun c4 => ?_) (fun c4 => ?_)
          ·
            replace hm := ite_t (of_decide_eq_true c4) hm
            refine sd_skip rfl rfl rfl ?_
            refine sd_skip rfl rfl rfl ?_
            refine sd_vv rfl rfl rfl (vv_pickT rfl rfl) ?_
            refine sd_vv rfl rfl rfl (vv_pickT rfl rfl) ?_
            refine sd_vv rfl rfl rfl (vv_assign rfl) ?_
            refine sd_done ?_
            refine sw_ret ?_
            refine block_r ?_
            refine then_r ?_
            have X12 : Gr w w5 := (Gr.kz X9 Kw5)
            have hr := Option.some.inj hm
            subst hr
            refine ⟨_, _, rfl, res_1 rfl (rv_tmp rfl), ?_⟩
            exact ⟨rfl, X12⟩
          ·
            replace hm := ite_f (of_decide_eq_false c4) hm
            refine sd_vv rfl rfl rfl (vv_move rfl) ?_
            refine sd_vv rfl rfl rfl (vv_eql (a := p1.Node) (b := 1) rfl rfl) ?_
            refine sd_vv rfl rfl rfl (vv_pickF rfl rfl) ?_
            refine sd_vv rfl rfl rfl (vv_pickT rfl rfl) ?_
            refine sd_vv rfl rfl rfl (vv_assign rfl) ?_
            refine sd_done ?_
            refine sw_ret ?_
            refine block_r ?_
            refine then_r ?_
            have X13 : Gr w w5 := (Gr.kz X9 Kw5)
            have hr := Option.some.inj hm
            subst hr
            refine ⟨_, _, rfl, res_1 rfl (rv_tmp rfl), ?_⟩
            exact ⟨rfl, X13⟩
        ·
          replace hm := ite_f (of_decide_eq_false c3) hm
          refine sd_skip rfl rfl rfl ?_
          refine sd_skip rfl rfl rfl ?_
          refine sd_skip rfl rfl rfl ?_
          refine sd_skip rfl rfl rfl ?_
          refine sd_skip rfl rfl rfl ?_
          refine sd_skip rfl rfl rfl ?_
          refine sd_skip rfl rfl rfl ?_
          refine sd_vv rfl rfl rfl (vv_pickF rfl rfl) ?_
          refine sd_vv rfl rfl rfl (vv_assign rfl) ?_
          refine sd_done ?_
          refine sw_ret ?_
          refine block_r ?_
          refine then_r ?_
          have X14 : Gr w w5 := (Gr.kz X9 Kw5)
          have hr := Option.some.inj hm
          subst hr
          refine ⟨_, _, rfl, res_1 rfl (rv_tmp rfl), ?_⟩
          exact ⟨rfl, X14⟩
      ·
        replace hm := cnd_f c2 hm
        have X15 : Gr w w5 := (Gr.kz X9 Kw5)
        refine sw_joinD (β := Bool) [36, 37, 38, 39, 40, 41, 42, 43, 44, 45, 46, 47, 48, 49, 50, 51, 52] (fun a3 => [(36, .bool a3)]) (fun a3 wr => (cover_tree_subset_J2 p0 p1 a3 = some r) ∧ Kz [] w5 wr) ?_ ?_
        · clear hm; rintro a3 w6 ⟨hm, Kw6⟩
          have z16 := Kw6.size
          unfold cover_tree_subset_J2 at hm
          refine sw_cond rfl (fun c5 => ?_) (fun c5 => ?_)
          ·
            replace hm := cnd_t c5 hm
            refine sw_seq ?_
            -- region 7 tree.go:108
            refine sw_region [(0, 0)] rfl rfl rfl ?_
            refine sd_vv rfl rfl rfl (vv_assign rfl) ?_
            refine sd_done ?_
            refine sw_ret ?_
            refine block_r ?_
            refine then_r ?_
            have X17 : Gr w w6 := (Gr.kz X15 Kw6)
            have hr := Option.some.inj hm
            subst hr
            refine ⟨_, _, rfl, res_1 rfl (rv_tmp rfl), ?_⟩
            exact ⟨rfl, X17⟩
          ·
            replace hm := cnd_f c5 hm
            refine sw_skip ?_
            refine block_n ?_
            refine then_n ?_
            refine sw_seq ?_
            -- region 8 tree.go:110
            refine sw_region [(0, 0), (1, 0), (2, 0), (3, 0), (4, 0), (5, 0), (6, 0), (7, 0), (8, 0), (9, 0), (10, 0), (11, 0), (12, 0), (13, 0), (14, 0), (15, 0)] rfl rfl rfl ?_
            refine sd_vv rfl rfl rfl (vv_fieldAddr fa_134_0 rfl) ?_
            have B18 := (Bx.kz (Bx.kz (Bx.gr B6 Gw4) Kw5) Kw6)
            refine sd_vv rfl rfl rfl (vv_load1 (v := bv p0.kind) one_5 rfl B18 rfl) ?_
            refine sd_vv rfl rfl rfl (vv_eqlB (p := p0.kind) (q := 2#8) rfl rfl) ?_
            refine sd_split rfl rfl rfl (vv_move rfl) (fun c6 => ?_) (fun c6 => ?_)
            ·
              replace hm := ite_t (of_decide_eq_true c6) hm
              refine sd_skip rfl rfl rfl ?_
              refine sd_skip rfl rfl rfl ?_
              refine sd_skip rfl rfl rfl ?_
              refine sd_vv rfl rfl rfl (vv_pickT rfl rfl) ?_
              refine sd_vv rfl rfl rfl (vv_move rfl) ?_
              refine sd_skip rfl rfl rfl ?_
              refine sd_skip rfl rfl rfl ?_
              refine sd_skip rfl rfl rfl ?_
              refine sd_skip rfl rfl rfl ?_
              refine sd_skip rfl rfl rfl ?_
              refine sd_vv rfl rfl rfl (vv_pickT rfl rfl) ?_
              refine sd_vv rfl rfl rfl (vv_assign rfl) ?_
              refine sd_done ?_
              refine sw_ret ?_
              have X19 : Gr w w6 := (Gr.kz X15 Kw6)
              have hr := Option.some.inj hm
              subst hr
              refine ⟨_, _, rfl, res_1 rfl (rv_tmp rfl), ?_⟩
              exact ⟨rfl, X19⟩
            ·
              replace hm := ite_f (of_decide_eq_false c6) hm
              refine sd_vv rfl rfl rfl (vv_loadW agg_134 rfl B18 rfl) ?_
              refine sd_vv rfl rfl rfl (vv_move rfl) ?_
              have hb := bnd hm; clear hm; obtain ⟨x4, hx4, hm⟩ := hb
              refine sd_ev rfl rfl rfl (ev_call en_114 rfl (cover_tree_special_w p0 p1.Node _ hx4 _)) ?_
              rintro _ w7 ⟨rfl, Gw7⟩
              have z20 := Gw7.size
              refine sd_vv rfl rfl rfl (vv_pickF rfl rfl) ?_
              refine sd_split rfl rfl rfl (vv_move rfl) (fun c7 => ?_) (fun c7 => ?_)
              ·
                replace hm := cnd_t c7 hm
                refine sd_skip rfl rfl rfl ?_
                refine sd_skip rfl rfl rfl ?_
                refine sd_skip rfl rfl rfl ?_
                refine sd_skip rfl rfl rfl ?_
                refine sd_skip rfl rfl rfl ?_
                refine sd_vv rfl rfl rfl (vv_pickT rfl rfl) ?_
                refine sd_vv rfl rfl rfl (vv_assign rfl) ?_
                refine sd_done ?_
                refine sw_ret ?_
                have X21 : Gr w w7 := (Gr.trans (Gr.kz X15 Kw6) Gw7)
                have hr := Option.some.inj hm
                subst hr
                refine ⟨_, _, rfl, res_1 rfl (rv_tmp rfl), ?_⟩
                exact ⟨rfl, X21⟩
              ·
                replace hm := cnd_f c7 hm
                have B22 := (Bx.gr B18 Gw7)
                refine sd_vv rfl rfl rfl (vv_loadW agg_134 rfl B22 rfl) ?_
                refine sd_vv rfl rfl rfl (vv_move rfl) ?_
                refine sd_vv rfl rfl rfl (vv_move rfl) ?_
                have hb := bnd hm; clear hm; obtain ⟨x5, hx5, hm⟩ := hb
                refine sd_ev rfl rfl rfl (ev_call en_80 rfl (cover_tree_cut_w p0 p1.Node p1.Minus _ hx5 _)) ?_
                rintro _ w8 ⟨rfl, Gw8⟩
                have z23 := Gw8.size
                refine sd_vv rfl rfl rfl (vv_eql (a := x5) (b := 0) rfl rfl) ?_
                refine sd_vv rfl rfl rfl (vv_pickF rfl rfl) ?_
                refine sd_vv rfl rfl rfl (vv_assign rfl) ?_
                refine sd_done ?_
                refine sw_ret ?_
                have X24 : Gr w w8 := (Gr.trans (Gr.trans (Gr.kz X15 Kw6) Gw7) Gw8)
                have hr := Option.some.inj hm
                subst hr
                refine ⟨_, _, rfl, res_1 rfl (rv_tmp rfl), ?_⟩
                exact ⟨rfl, X24⟩
        ·
          -- region 6 tree.go:107
          refine sw_region [(0, 0), (1, 0), (2, 0), (3, 0), (4, 0), (5, 0), (6, 0), (7, 0), (8, 0), (9, 0), (10, 0), (11, 0), (12, 0), (13, 0), (14, 0), (15, 0), (16, 0)] rfl rfl rfl ?_
          have B25 := (Bx.kz (Bx.gr B6 Gw4) Kw5)
          refine sd_vv rfl rfl rfl (vv_loadW agg_134 rfl B25 rfl) ?_
          refine sd_vv rfl rfl rfl (vv_fieldAddr fa_47_1 rfl) ?_
          have B26 := (Bx.kz (Bx.gr B5 Gw4) Kw5)
          refine sd_vv rfl rfl rfl (vv_load1 (v := .int .i64 p1.Minus) one_3 rfl B26 rfl) ?_
          have hb := bnd hm; clear hm; obtain ⟨x6, hx6, hm⟩ := hb
          refine sd_ev rfl rfl rfl (ev_call en_125 rfl (cover_tree_has_w p0 p1.Minus _ hx6 _)) ?_
          rintro _ w9 ⟨rfl, Gw9⟩
          have z27 := Gw9.size
          refine sd_vv rfl rfl rfl (vv_not rfl) ?_
          refine sd_split rfl rfl rfl (vv_move rfl) (fun c8 => ?_) (fun c8 => ?_)
          ·
            replace hm := cnd_t c8 hm
            refine sd_skip rfl rfl rfl ?_
            refine sd_skip rfl rfl rfl ?_
            refine sd_skip rfl rfl rfl ?_
            refine sd_vv rfl rfl rfl (vv_pickT rfl rfl) ?_
            refine sd_vv rfl rfl rfl (vv_move rfl) ?_
            refine sd_skip rfl rfl rfl ?_
            refine sd_skip rfl rfl rfl ?_
            refine sd_skip rfl rfl rfl ?_
            refine sd_skip rfl rfl rfl ?_
            refine sd_vv rfl rfl rfl (vv_pickT rfl rfl) ?_
            refine sd_vv rfl rfl rfl (vv_assign rfl) ?_
            refine sd_nil ?_
            have K_28 : Kz [] w5 w9 := (Kz.gr (Kz.refl _ _) Gw9)
            refine ⟨rfl, true, ?_, hm, K_28⟩
            repeat' first | exact trivial | refine ⟨rfl, ?_⟩
          ·
            replace hm := cnd_f c8 hm
            refine sd_vv rfl rfl rfl (vv_move rfl) ?_
            refine sd_vv rfl rfl rfl (vv_move rfl) ?_
            refine sd_vv rfl rfl rfl (vv_eql (a := p1.Minus) (b := p1.Node) rfl rfl) ?_
            refine sd_vv rfl rfl rfl (vv_pickF rfl rfl) ?_
            refine sd_split rfl rfl rfl (vv_move rfl) (fun c9 => ?_) (fun c9 => ?_)
            ·
              replace hm := ite_t (of_decide_eq_true c9) hm
              refine sd_skip rfl rfl rfl ?_
              refine sd_skip rfl rfl rfl ?_
              refine sd_skip rfl rfl rfl ?_
              refine sd_skip rfl rfl rfl ?_
              refine sd_vv rfl rfl rfl (vv_pickT rfl rfl) ?_
              refine sd_vv rfl rfl rfl (vv_assign rfl) ?_
              refine sd_nil ?_
              have K_29 : Kz [] w5 w9 := (Kz.gr (Kz.refl _ _) Gw9)
              refine ⟨rfl, true, ?_, hm, K_29⟩
              repeat' first | exact trivial | refine ⟨rfl, ?_⟩
            ·
              replace hm := ite_f (of_decide_eq_false c9) hm
              refine sd_vv rfl rfl rfl (vv_move rfl) ?_
              refine sd_vv rfl rfl rfl (vv_move rfl) ?_
              have hb := bnd hm; clear hm; obtain ⟨x7, hx7, hm⟩ := hb
              refine sd_ev rfl rfl rfl (ev_call en_126 rfl (cover_node_below_w p1.Minus p1.Node _ hx7 _)) ?_
              rintro _ w10 ⟨rfl, Gw10⟩
              have z30 := Gw10.size
              refine sd_vv rfl rfl rfl (vv_not rfl) ?_
              refine sd_vv rfl rfl rfl (vv_pickF rfl rfl) ?_
              refine sd_vv rfl rfl rfl (vv_assign rfl) ?_
              refine sd_nil ?_
              have K_31 : Kz [] w5 w10 := (Kz.gr (Kz.gr (Kz.refl _ _) Gw9) Gw10)
              refine ⟨rfl, (!x7), ?_, hm, K_31⟩
              repeat' first | exact trivial | refine ⟨rfl, ?_⟩
    ·
      -- region 4 tree.go:105
      refine sw_region [(0, 0), (1, 0), (2, 0), (3, 0), (4, 0), (5, 0), (6, 0), (7, 0)] rfl rfl rfl ?_
      refine sd_vv rfl rfl rfl (vv_fieldAddr fa_134_0 rfl) ?_
      have B32 := (Bx.gr B6 Gw4)
      refine sd_vv rfl rfl rfl (vv_load1 (v := bv p0.kind) one_5 rfl B32 rfl) ?_
      refine sd_vv rfl rfl rfl (vv_eqlB (p := p0.kind) (q := 1#8) rfl rfl) ?_
      refine sd_split rfl rfl rfl (vv_move rfl) (fun c10 => ?_) (fun c10 => ?_)
      ·
        replace hm := ite_t (of_decide_eq_true c10) hm
        refine sd_skip rfl rfl rfl ?_
        refine sd_skip rfl rfl rfl ?_
        refine sd_vv rfl rfl rfl (vv_pickT rfl rfl) ?_
        refine sd_vv rfl rfl rfl (vv_assign rfl) ?_
        refine sd_nil ?_
        have K_33 : Kz [] w4 w4 := (Kz.refl _ _)
        refine ⟨rfl, true, ?_, hm, K_33⟩
        repeat' first | exact trivial | refine ⟨rfl, ?_⟩
      ·
        replace hm := ite_f (of_decide_eq_false c10) hm
        refine sd_vv rfl rfl rfl (vv_move rfl) ?_
        refine sd_vv rfl rfl rfl (vv_eql (a := p1.Minus) (b := 0) rfl rfl) ?_
        refine sd_vv rfl rfl rfl (vv_pickF rfl rfl) ?_
        refine sd_vv rfl rfl rfl (vv_assign rfl) ?_
        refine sd_nil ?_
        have K_34 : Kz [] w4 w4 := (Kz.refl _ _)
        refine ⟨rfl, (decide (p1.Minus = 0)), ?_, hm, K_34⟩
        repeat' first | exact trivial | refine ⟨rfl, ?_⟩

set_option maxHeartbeats 2000000 in
theorem cover_enter_w (p0 : TScheme) (p1 : List TSubset) (vp1 : Value) (zp1 gp1 op1 : Nat) (r : Tcover_tree × Int) (hm : cover_enter p0 p1 = some r) (w : World) (hp1 : Rd w zp1 gp1 op1 2 vp1 (p1.map TSubset.cs))  :
    Calls Try.prog 74 [.agg (TScheme.cs p0).toArray, vp1].toArray w fun e w' => ∃ v, e = .returned v ∧ (v = .tuple [.agg (Tcover_tree.cs r.1).toArray, .int .i64 r.2].toArray ∧ Gr w w') := by
  have lt1 := hp1.lth
  unfold cover_enter at hm
  refine calls_of_sw (R := fun v w' => v = .tuple [.agg (Tcover_tree.cs r.1).toArray, .int .i64 r.2].toArray ∧ Gr w w') 31 Try.func74 rfl rfl rfl ?_
  refine sw_seq ?_
  -- region 0 cover.go:20
  refine sw_region [(0, 0), (1, 0), (2, 0)] rfl rfl rfl ?_
  refine sd_ev rfl rfl rfl (ev_box (cs := TScheme.cs p0) rfl rfl) ?_
  rintro _ w1 ⟨b1, rfl, hbw1, Bw1, Gw1⟩
  have z2 := Gw1.size
  have lt3 := Bw1.lt
  refine sd_ev rfl rfl rfl (ev_alloc (cs := Tcover_tree.cs (Tcover_tree.mk 0#8 0 0)) zv_134 rfl) ?_
  rintro _ w2 ⟨b2, rfl, hbw2, Bw2, Gw2⟩
  have z4 := Gw2.size
  have lt5 := Bw2.lt
  refine sd_vv rfl rfl rfl (vv_assign rfl) ?_
  refine sd_done ?_
  refine sw_seq ?_
  -- region 1 cover.go:21
  refine sw_region [(0, 0), (1, 0), (2, 0), (3, 0), (4, 0), (5, 0), (6, 0), (7, 0)] rfl rfl rfl ?_
  have B6 := (Bx.gr Bw1 Gw2)
  refine sd_vv rfl rfl rfl (vv_loadW agg_45 rfl B6 rfl) ?_
  have hb := bnd hm; clear hm; obtain ⟨x1, hx1, hm⟩ := hb
  refine sd_ev rfl rfl rfl (ev_call en_84 rfl (cover_treeOf_w p0 _ hx1 _)) ?_
  rintro _ w3 ⟨rfl, Gw3⟩
  have z7 := Gw3.size
  refine sd_vv rfl rfl rfl (vv_move rfl) ?_
  refine sd_vv rfl rfl rfl (vv_extract rfl rfl) ?_
  refine sd_vv rfl rfl rfl (vv_extract rfl rfl) ?_
  refine sd_ev rfl rfl rfl (ev_alloc (cs := Tcover_tree.cs (Tcover_tree.mk 0#8 0 0)) zv_134 rfl) ?_
  rintro _ w4 ⟨b4, rfl, hbw4, Bw4, Gw4⟩
  have z8 := Gw4.size
  have lt9 := Bw4.lt
  refine sd_ev rfl rfl rfl (ev_stM (cs' := Tcover_tree.cs x1.1) (vs := Tcover_tree.cs x1.1) (agg_134).siz rfl rfl rfl rfl rfl Bw4 rfl rfl) ?_
  rintro _ w5 ⟨Bw5, Mw5⟩
  have z10 := Mw5.size
  refine sd_vv rfl rfl rfl (vv_assign rfl) ?_
  refine sd_done ?_
  refine sw_seq ?_
  refine sw_seq ?_
  -- region 2 cover.go:22
  refine sw_region [(0, 0), (1, 0)] rfl rfl rfl ?_
  refine sd_vv rfl rfl rfl (vv_move rfl) ?_
  refine sd_vv rfl rfl rfl (vv_not rfl) ?_
  refine sd_done ?_
  refine sw_cond rfl (fun c1 => ?_) (fun c1 => ?_)
  ·
    replace hm := cnd_t c1 hm
    refine sw_seq ?_
    -- region 3 cover.go:23
    refine sw_region [(0, 0), (1, 0), (2, 0)] rfl rfl rfl ?_
    refine sd_vv rfl rfl rfl (vv_build (cs := Tcover_tree.cs (Tcover_tree.mk 0#8 0 0)) bs_134 rfl rfl) ?_
    have B11 := (Bx.md (Bx.gr (Bx.gr Bw2 Gw3) Gw4) Mw5)
    refine sd_ev rfl rfl rfl (ev_stM (cs' := Tcover_tree.cs (Tcover_tree.mk 0#8 0 0)) (vs := Tcover_tree.cs (Tcover_tree.mk 0#8 0 0)) (agg_134).siz rfl rfl rfl rfl rfl B11 rfl rfl) ?_
    rintro _ w6 ⟨Bw6, Mw6⟩
    have z12 := Mw6.size
    refine sd_vv rfl rfl rfl (vv_assign rfl) ?_
    refine sd_done ?_
    refine sw_ret ?_
    refine then_r ?_
    have X13 : Gr w w6 := (Gr.md (Gr.md (Gr.trans (Gr.trans (Gr.trans (Gr.trans (Gr.refl w) Gw1) Gw2) Gw3) Gw4) Mw5) Mw6)
    have hr := Option.some.inj hm
    subst hr
    refine ⟨_, _, rfl, res_2 rfl (rv_cellW agg_134 rfl Bw6 rfl) (rv_tmp rfl), ?_⟩
    exact ⟨rfl, X13⟩
  ·
    replace hm := cnd_f c1 hm
    refine sw_skip ?_
    refine then_n ?_
    refine sw_seq ?_
    refine sw_seq ?_
    -- region 4 cover.go:25
    refine sw_region [(0, 0), (1, 0), (2, 0)] rfl rfl rfl ?_
    refine sd_vv rfl rfl rfl (vv_move rfl) ?_
    have B14 := (Rd.md (Rd.gr (Rd.gr (Rd.gr (Rd.gr hp1 Gw1) Gw2) Gw3) Gw4) Mw5 (tk1 ((pv_lt (A := (fun x => x ≠ b4)) lt1) : zp1 = 0 ∨ gp1 ≠ b4)))
    refine sd_vv rfl rfl rfl (vv_lenT (l := p1) (c := TSubset.cs) Try.underlying48 rfl B14) ?_
    refine sd_vv rfl rfl rfl (vv_move rfl) ?_
    refine sd_done ?_
    refine sw_block ?_
    have X15 : Gr w w5 := (Gr.md (Gr.trans (Gr.trans (Gr.trans (Gr.trans (Gr.refl w) Gw1) Gw2) Gw3) Gw4) Mw5)
    refine sw_loopD (α := Nat × Int) [5, 9, 20, 21, 22, 23, 24, 25, 26, 27, 28, 29] (fun ⟨n1, a3⟩ => [(5, .int .i64 0), (20, .int .i64 a3)]) (fun ⟨n1, a3⟩ wr => (fixN (cover_enter_L1 p1 x1) n1 a3 = some r) ∧ Kz [] w5 wr) (fun ⟨n1, a3⟩ => n1) ⟨FUEL, 0⟩ ?_ ?_ ?_
    · repeat' first | exact trivial | refine ⟨rfl, ?_⟩
    · exact ⟨hm, Kz.refl _ _⟩
    · clear hm; rintro ⟨n1, a3⟩ w7 ⟨hm, Kw7⟩
      have z16 := Kw7.size
      have hb := fix_succ hm; clear hm; obtain ⟨n1, rfl, hm⟩ := hb
      generalize hrec1 : fixN (cover_enter_L1 p1 x1) n1 = rec1 at hm
      unfold cover_enter_L1 at hm
      try dsimp only at hm
      refine sw_seq ?_
      -- region 5 cover.go:25
      refine sw_region [(0, 0)] rfl rfl rfl ?_
      refine sd_vv rfl rfl rfl (vv_lss (a := a3) (b := (p1.length : Int)) rfl rfl) ?_
      refine sd_done ?_
      refine sw_seq ?_
      refine sw_cond rfl (fun c2 => ?_) (fun c2 => ?_)
      ·
        replace hm := ite_t (of_decide_eq_true c2) hm
        refine sw_skip ?_
        refine then_n ?_
        refine sw_seq ?_
        refine sw_block ?_
        refine sw_seq ?_
        -- region 6 cover.go:25
        refine sw_region [(0, 0), (1, 0), (2, 0), (3, 0)] rfl rfl rfl ?_
        have hb := bnd hm; clear hm; obtain ⟨y4, hy4, hm⟩ := hb
        have B17 := (Rd.kz B14 Kw7)
        refine sd_vv rfl rfl rfl (vv_ixT (i := a3) Try.underlying48 (agg_47).siz rfl B17 rfl hy4) ?_
        refine sd_vv rfl rfl rfl (vv_elWT agg_47 rfl B17 hy4 (by first | rfl | omega)) ?_
        refine sd_ev rfl rfl rfl (ev_alloc (cs := TSubset.cs (TSubset.mk 0 0)) zv_47 rfl) ?_
        rintro _ w8 ⟨b8, rfl, hbw8, Bw8, Gw8⟩
        have z18 := Gw8.size
        have lt19 := Bw8.lt
        refine sd_ev rfl rfl rfl (ev_stM (cs' := TSubset.cs y4) (vs := TSubset.cs y4) (agg_47).siz rfl rfl rfl rfl rfl Bw8 rfl rfl) ?_
        rintro _ w9 ⟨Bw9, Mw9⟩
        have z20 := Mw9.size
        refine sd_done ?_
        refine sw_seq ?_
        -- region 7 cover.go:26
        refine sw_region [(0, 0), (1, 0), (2, 0), (3, 0)] rfl rfl rfl ?_
        have B21 := (Bx.md (Bx.gr (Bx.kz Bw5 Kw7) Gw8) Mw9)
        refine sd_vv rfl rfl rfl (vv_loadW agg_134 rfl B21 rfl) ?_
        refine sd_vv rfl rfl rfl (vv_loadW agg_47 rfl Bw9 rfl) ?_
        have hb := bnd hm; clear hm; obtain ⟨x5, hx5, hm⟩ := hb
        refine sd_ev rfl rfl rfl (ev_call en_79 rfl (cover_tree_subset_w x1.1 y4 _ hx5 _)) ?_
        rintro _ w10 ⟨rfl, Gw10⟩
        have z22 := Gw10.size
        refine sd_vv rfl rfl rfl (vv_not rfl) ?_
        refine sd_done ?_
        refine sw_cond rfl (fun c3 => ?_) (fun c3 => ?_)
        ·
          replace hm := cnd_t c3 hm
          refine sw_seq ?_
          -- region 8 cover.go:27
          refine sw_region [(0, 0), (1, 0), (2, 0)] rfl rfl rfl ?_
          refine sd_vv rfl rfl rfl (vv_build (cs := Tcover_tree.cs (Tcover_tree.mk 0#8 0 0)) bs_134 rfl rfl) ?_
          have B23 := (Bx.gr (Bx.md (Bx.gr (Bx.kz (Bx.md (Bx.gr (Bx.gr Bw2 Gw3) Gw4) Mw5) Kw7) Gw8) Mw9) Gw10)
          refine sd_ev rfl rfl rfl (ev_stM (cs' := Tcover_tree.cs (Tcover_tree.mk 0#8 0 0)) (vs := Tcover_tree.cs (Tcover_tree.mk 0#8 0 0)) (agg_134).siz rfl rfl rfl rfl rfl B23 rfl rfl) ?_
          rintro _ w11 ⟨Bw11, Mw11⟩
          have z24 := Mw11.size
          refine sd_vv rfl rfl rfl (vv_assign rfl) ?_
          refine sd_done ?_
          refine sw_ret ?_
          refine block_r ?_
          refine then_r ?_
          refine then_r ?_
          refine block_r ?_
          refine then_r ?_
          have X25 : Gr w w11 := (Gr.md (Gr.trans (Gr.md (Gr.trans (Gr.kz X15 Kw7) Gw8) Mw9) Gw10) Mw11)
          have hr := Option.some.inj hm
          subst hr
          refine ⟨_, _, rfl, res_2 rfl (rv_cellW agg_134 rfl Bw11 rfl) (rv_tmp rfl), ?_⟩
          exact ⟨rfl, X25⟩
        ·
          replace hm := cnd_f c3 hm
          refine sw_skip ?_
          refine block_n ?_
          refine then_n ?_
          -- region 9 cover.go:25
          refine sw_region [(0, 0), (1, 0)] rfl rfl rfl ?_
          refine sd_vv rfl rfl rfl (vv_add (k := .i64) (a := a3) (b := 1) rfl rfl) ?_
          refine sd_vv rfl rfl rfl (vv_move rfl) ?_
          refine sd_nil ?_
          have K_26 : Kz [] w5 w10 := (Kz.gr (Kz.md (Kz.gr Kw7 Gw8) Mw9) Gw10)
          subst hrec1
          refine ⟨rfl, ⟨n1, w64 (a3 + 1)⟩, ?_, ⟨hm, K_26⟩, Nat.lt_succ_self _⟩
          repeat' first | exact trivial | refine ⟨rfl, ?_⟩
      ·
        replace hm := ite_f (of_decide_eq_false c2) hm
        refine sw_exit ?_
        refine then_x ?_
        refine then_x ?_
        refine block_x ?_
        refine then_n ?_
        refine sw_seq ?_
        -- region 10 cover.go:30
        refine sw_region [(0, 0), (1, 0), (2, 0)] rfl rfl rfl ?_
        have B27 := (Bx.kz Bw5 Kw7)
        refine sd_vv rfl rfl rfl (vv_loadW agg_134 rfl B27 rfl) ?_
        have B28 := (Bx.kz (Bx.md (Bx.gr (Bx.gr Bw2 Gw3) Gw4) Mw5) Kw7)
        refine sd_ev rfl rfl rfl (ev_stM (cs' := Tcover_tree.cs x1.1) (vs := Tcover_tree.cs x1.1) (agg_134).siz rfl rfl rfl rfl rfl B28 rfl rfl) ?_
        rintro _ w12 ⟨Bw12, Mw12⟩
        have z29 := Mw12.size
        refine sd_vv rfl rfl rfl (vv_assign rfl) ?_
        refine sd_done ?_
        refine sw_ret ?_
        have X30 : Gr w w12 := (Gr.md (Gr.kz X15 Kw7) Mw12)
        have hr := Option.some.inj hm
        subst hr
        refine ⟨_, _, rfl, res_2 rfl (rv_cellW agg_134 rfl Bw12 rfl) (rv_tmp rfl), ?_⟩
        exact ⟨rfl, X30⟩

set_option maxHeartbeats 2000000 in
theorem cover_tree_receiver_w (p0 : Tcover_tree) (p1 : Int)  (r : Bool) (hm : cover_tree_receiver p0 p1 = some r) (w : World)   :
    Calls Try.prog 92 [.agg (Tcover_tree.cs p0).toArray, .int .i64 p1].toArray w fun e w' => ∃ v, e = .returned v ∧ (v = .bool r ∧ Gr w w') := by
  unfold cover_tree_receiver at hm
  refine calls_of_sw (R := fun v w' => v = .bool r ∧ Gr w w') 13 Try.func92 rfl rfl rfl ?_
  refine sw_seq ?_
  -- region 0 tree.go:71
  refine sw_region [(0, 0), (1, 0)] rfl rfl rfl ?_
  refine sd_ev rfl rfl rfl (ev_box (cs := Tcover_tree.cs p0) rfl rfl) ?_
  rintro _ w1 ⟨b1, rfl, hbw1, Bw1, Gw1⟩
  have z1 := Gw1.size
  have lt2 := Bw1.lt
  refine sd_vv rfl rfl rfl (vv_assign rfl) ?_
  refine sd_done ?_
  refine sw_seq ?_
  -- region 1 tree.go:71
  refine sw_region [(0, 0), (1, 0), (2, 0), (3, 0), (4, 0), (5, 0), (6, 0), (7, 0), (8, 0)] rfl rfl rfl ?_
  refine sd_vv rfl rfl rfl (vv_move rfl) ?_
  refine sd_vv rfl rfl rfl (vv_geq (a := p1) (b := 0) rfl rfl) ?_
  refine sd_split rfl rfl rfl (vv_move rfl) (fun c1 => ?_) (fun c1 => ?_)
  ·
    replace hm := ite_t (of_decide_eq_true c1) hm
    refine sd_vv rfl rfl rfl (vv_move rfl) ?_
    refine sd_vv rfl rfl rfl (vv_loadW agg_134 rfl Bw1 rfl) ?_
    have hb := bnd hm; clear hm; obtain ⟨x1, hx1, hm⟩ := hb
    refine sd_ev rfl rfl rfl (ev_call en_123 rfl (cover_tree_size_w p0 _ hx1 _)) ?_
    rintro _ w2 ⟨rfl, Gw2⟩
    have z3 := Gw2.size
    refine sd_vv rfl rfl rfl (vv_lss (a := p1) (b := x1) rfl rfl) ?_
    refine sd_vv rfl rfl rfl (vv_pickT rfl rfl) ?_
    refine sd_vv rfl rfl rfl (vv_assign rfl) ?_
    refine sd_done ?_
    refine sw_ret ?_
    have X4 : Gr w w2 := (Gr.trans (Gr.trans (Gr.refl w) Gw1) Gw2)
    have hr := Option.some.inj hm
    subst hr
    refine ⟨_, _, rfl, res_1 rfl (rv_tmp rfl), ?_⟩
    exact ⟨rfl, X4⟩
  ·
    replace hm := ite_f (of_decide_eq_false c1) hm
    refine sd_skip rfl rfl rfl ?_
    refine sd_skip rfl rfl rfl ?_
    refine sd_skip rfl rfl rfl ?_
    refine sd_skip rfl rfl rfl ?_
    refine sd_vv rfl rfl rfl (vv_pickF rfl rfl) ?_
    refine sd_vv rfl rfl rfl (vv_assign rfl) ?_
    refine sd_done ?_
    refine sw_ret ?_
    have X5 : Gr w w1 := (Gr.trans (Gr.refl w) Gw1)
    have hr := Option.some.inj hm
    subst hr
    refine ⟨_, _, rfl, res_1 rfl (rv_tmp rfl), ?_⟩
    exact ⟨rfl, X5⟩

set_option maxHeartbeats 2000000 in
theorem cover_tree_list_w (p0 : Tcover_tree) (p1 : List Int) (vp1 : Value) (zp1 gp1 op1 : Nat) (r : Bool) (hm : cover_tree_list p0 p1 = some r) (w : World) (hp1 : Rd w zp1 gp1 op1 1 vp1 (p1.map ic))  :
    Calls Try.prog 109 [.agg (Tcover_tree.cs p0).toArray, vp1].toArray w fun e w' => ∃ v, e = .returned v ∧ (v = .bool r ∧ Gr w w') := by
  have lt1 := hp1.lth
  unfold cover_tree_list at hm
  refine calls_of_sw (R := fun v w' => v = .bool r ∧ Gr w w') 32 Try.func109 rfl rfl rfl ?_
  refine sw_seq ?_
  -- region 0 tree.go:74
  refine sw_region [(0, 0), (1, 0)] rfl rfl rfl ?_
  refine sd_ev rfl rfl rfl (ev_box (cs := Tcover_tree.cs p0) rfl rfl) ?_
  rintro _ w1 ⟨b1, rfl, hbw1, Bw1, Gw1⟩
  have z2 := Gw1.size
  have lt3 := Bw1.lt
  refine sd_vv rfl rfl rfl (vv_assign rfl) ?_
  refine sd_done ?_
  refine sw_seq ?_
  refine sw_seq ?_
  -- region 1 tree.go:75
  refine sw_region [(0, 0), (1, 0), (2, 0)] rfl rfl rfl ?_
  refine sd_vv rfl rfl rfl (vv_move rfl) ?_
  have B4 := (Rd.gr hp1 Gw1)
  refine sd_vv rfl rfl rfl (vv_lenT (l := p1) (c := ic) Try.underlying61 rfl B4) ?_
  refine sd_vv rfl rfl rfl (vv_move rfl) ?_
  refine sd_done ?_
  refine sw_block ?_
  have X5 : Gr w w1 := (Gr.trans (Gr.refl w) Gw1)
  refine sw_loopD (α := Nat × Int) [4, 5, 6, 9, 10, 11, 12, 13, 14, 15, 16, 17, 18, 19, 20, 21, 22, 23, 24, 25, 26, 27, 28, 29, 30, 31] (fun ⟨n1, a2⟩ => [(4, .bool false), (9, .int .i64 a2)]) (fun ⟨n1, a2⟩ wr => (fixN (cover_tree_list_L1 p0 p1) n1 a2 = some r) ∧ Kz [] w1 wr) (fun ⟨n1, a2⟩ => n1) ⟨FUEL, 0⟩ ?_ ?_ ?_
  · repeat' first | exact trivial | refine ⟨rfl, ?_⟩
  · exact ⟨hm, Kz.refl _ _⟩
  · clear hm; rintro ⟨n1, a2⟩ w2 ⟨hm, Kw2⟩
    have z6 := Kw2.size
    have hb := fix_succ hm; clear hm; obtain ⟨n1, rfl, hm⟩ := hb
    generalize hrec1 : fixN (cover_tree_list_L1 p0 p1) n1 = rec1 at hm
    unfold cover_tree_list_L1 at hm
    try dsimp only at hm
    refine sw_seq ?_
    -- region 2 tree.go:75
    refine sw_region [(0, 0)] rfl rfl rfl ?_
    refine sd_vv rfl rfl rfl (vv_lss (a := a2) (b := (p1.length : Int)) rfl rfl) ?_
    refine sd_done ?_
    refine sw_seq ?_
    refine sw_cond rfl (fun c1 => ?_) (fun c1 => ?_)
    ·
      replace hm := ite_t (of_decide_eq_true c1) hm
      refine sw_skip ?_
      refine then_n ?_
      refine sw_seq ?_
      refine sw_block ?_
      refine sw_seq ?_
      -- region 3 tree.go:75
      refine sw_region [(0, 0), (1, 0), (2, 0), (3, 0), (4, 0)] rfl rfl rfl ?_
      refine sd_vv rfl rfl rfl (vv_move rfl) ?_
      have hb := bnd hm; clear hm; obtain ⟨y3, hy3, hm⟩ := hb
      have B7 := (Rd.kz B4 Kw2)
      refine sd_vv rfl rfl rfl (vv_ixT (i := a2) Try.underlying61 (one_3).siz rfl B7 rfl hy3) ?_
      refine sd_vv rfl rfl rfl (vv_el1T (q := 0) (u := .int .i64 y3) one_3 rfl B7 hy3 (by first | rfl | omega) rfl) ?_
      refine sd_vv rfl rfl rfl (vv_assign rfl) ?_
      refine sd_vv rfl rfl rfl (vv_assign rfl) ?_
      refine sd_done ?_
      have X8 : Gr w w2 := (Gr.kz X5 Kw2)
      refine sw_joinD (β := Bool) [14, 15, 16, 17, 18, 19, 20, 21, 22, 23, 24, 25, 26, 27, 28, 29, 30] (fun a4 => [(30, .bool a4)]) (fun a4 wr => (cover_tree_list_J2 a2 rec1 a4 = some r) ∧ Kz [] w2 wr) ?_ ?_
      · clear hm; rintro a4 w3 ⟨hm, Kw3⟩
        have z9 := Kw3.size
        unfold cover_tree_list_J2 at hm
        refine sw_cond rfl (fun c2 => ?_) (fun c2 => ?_)
        ·
          replace hm := cnd_t c2 hm
          refine sw_seq ?_
          -- region 5 tree.go:77
          refine sw_region [(0, 0)] rfl rfl rfl ?_
          refine sd_vv rfl rfl rfl (vv_assign rfl) ?_
          refine sd_done ?_
          refine sw_ret ?_
          refine block_r ?_
          refine then_r ?_
          refine then_r ?_
          refine block_r ?_
          refine then_r ?_
          have X10 : Gr w w3 := (Gr.kz X8 Kw3)
          have hr := Option.some.inj hm
          subst hr
          refine ⟨_, _, rfl, res_1 rfl (rv_tmp rfl), ?_⟩
          exact ⟨rfl, X10⟩
        ·
          replace hm := cnd_f c2 hm
          refine sw_skip ?_
          refine block_n ?_
          refine then_n ?_
          -- region 6 tree.go:75
          refine sw_region [(0, 0), (1, 0)] rfl rfl rfl ?_
          refine sd_vv rfl rfl rfl (vv_add (k := .i64) (a := a2) (b := 1) rfl rfl) ?_
          refine sd_vv rfl rfl rfl (vv_move rfl) ?_
          refine sd_nil ?_
          have K_11 : Kz [] w1 w3 := (Kz.kz Kw2 Kw3)
          subst hrec1
          refine ⟨rfl, ⟨n1, w64 (a2 + 1)⟩, ?_, ⟨hm, K_11⟩, Nat.lt_succ_self _⟩
          repeat' first | exact trivial | refine ⟨rfl, ?_⟩
      ·
        -- region 4 tree.go:76
        refine sw_region [(0, 0), (1, 0), (2, 0), (3, 0), (4, 0), (5, 0), (6, 0), (7, 0), (8, 0), (9, 0), (10, 0), (11, 0), (12, 0), (13, 0), (14, 0), (15, 0), (16, 0)] rfl rfl rfl ?_
        have B12 := (Bx.kz Bw1 Kw2)
        refine sd_vv rfl rfl rfl (vv_loadW agg_134 rfl B12 rfl) ?_
        refine sd_vv rfl rfl rfl (vv_move rfl) ?_
        have hb := bnd hm; clear hm; obtain ⟨x5, hx5, hm⟩ := hb
        refine sd_ev rfl rfl rfl (ev_call en_92 rfl (cover_tree_receiver_w p0 y3 _ hx5 _)) ?_
        rintro _ w4 ⟨rfl, Gw4⟩
        have z13 := Gw4.size
        refine sd_vv rfl rfl rfl (vv_not rfl) ?_
        refine sd_split rfl rfl rfl (vv_move rfl) (fun c3 => ?_) (fun c3 => ?_)
        ·
          replace hm := cnd_t c3 hm
          refine sd_skip rfl rfl rfl ?_
          refine sd_skip rfl rfl rfl ?_
          refine sd_skip rfl rfl rfl ?_
          refine sd_skip rfl rfl rfl ?_
          refine sd_skip rfl rfl rfl ?_
          refine sd_skip rfl rfl rfl ?_
          refine sd_skip rfl rfl rfl ?_
          refine sd_skip rfl rfl rfl ?_
          refine sd_skip rfl rfl rfl ?_
          refine sd_skip rfl rfl rfl ?_
          refine sd_skip rfl rfl rfl ?_
          refine sd_vv rfl rfl rfl (vv_pickT rfl rfl) ?_
          refine sd_nil ?_
          have K_14 : Kz [] w2 w4 := (Kz.gr (Kz.refl _ _) Gw4)
          refine ⟨rfl, true, ?_, hm, K_14⟩
          repeat' first | exact trivial | refine ⟨rfl, ?_⟩
        ·
          replace hm := cnd_f c3 hm
          refine sd_vv rfl rfl rfl (vv_move rfl) ?_
          refine sd_vv rfl rfl rfl (vv_gtr (a := a2) (b := 0) rfl rfl) ?_
          refine sd_split rfl rfl rfl (vv_move rfl) (fun c4 => ?_) (fun c4 => ?_)
          ·
            replace hm := ite_t (of_decide_eq_true c4) hm
            refine sd_vv rfl rfl rfl (vv_move rfl) ?_
            refine sd_vv rfl rfl rfl (vv_move rfl) ?_
            refine sd_vv rfl rfl rfl (vv_move rfl) ?_
            refine sd_vv rfl rfl rfl (vv_sub (k := .i64) (a := a2) (b := 1) rfl rfl) ?_
            have hb := bnd hm; clear hm; obtain ⟨y6, hy6, hm⟩ := hb
            have B15 := (Rd.gr B7 Gw4)
            refine sd_vv rfl rfl rfl (vv_ixT (i := w64 (a2 - 1)) Try.underlying61 (one_3).siz rfl B15 rfl hy6) ?_
            refine sd_vv rfl rfl rfl (vv_el1T (q := 0) (u := .int .i64 y6) one_3 rfl B15 hy6 (by first | rfl | omega) rfl) ?_
            refine sd_vv rfl rfl rfl (vv_leq (a := y3) (b := y6) rfl rfl) ?_
            refine sd_vv rfl rfl rfl (vv_pickT rfl rfl) ?_
            refine sd_vv rfl rfl rfl (vv_pickF rfl rfl) ?_
            refine sd_nil ?_
            have K_16 : Kz [] w2 w4 := (Kz.gr (Kz.refl _ _) Gw4)
            refine ⟨rfl, (decide (y3 ≤ y6)), ?_, hm, K_16⟩
            repeat' first | exact trivial | refine ⟨rfl, ?_⟩
          ·
            replace hm := ite_f (of_decide_eq_false c4) hm
            refine sd_skip rfl rfl rfl ?_
            refine sd_skip rfl rfl rfl ?_
            refine sd_skip rfl rfl rfl ?_
            refine sd_skip rfl rfl rfl ?_
            refine sd_skip rfl rfl rfl ?_
            refine sd_skip rfl rfl rfl ?_
            refine sd_skip rfl rfl rfl ?_
            refine sd_vv rfl rfl rfl (vv_pickF rfl rfl) ?_
            refine sd_vv rfl rfl rfl (vv_pickF rfl rfl) ?_
            refine sd_nil ?_
            have K_17 : Kz [] w2 w4 := (Kz.gr (Kz.refl _ _) Gw4)
            refine ⟨rfl, false, ?_, hm, K_17⟩
            repeat' first | exact trivial | refine ⟨rfl, ?_⟩
    ·
      replace hm := ite_f (of_decide_eq_false c1) hm
      refine sw_exit ?_
      refine then_x ?_
      refine then_x ?_
      refine block_x ?_
      refine then_n ?_
      refine sw_seq ?_
      -- region 7 tree.go:80
      refine sw_region [(0, 0)] rfl rfl rfl ?_
      refine sd_vv rfl rfl rfl (vv_assign rfl) ?_
      refine sd_done ?_
      refine sw_ret ?_
      have X18 : Gr w w2 := (Gr.kz X5 Kw2)
      have hr := Option.some.inj hm
      subst hr
      refine ⟨_, _, rfl, res_1 rfl (rv_tmp rfl), ?_⟩
      exact ⟨rfl, X18⟩

set_option maxHeartbeats 2000000 in
theorem cover_tree_leaf_w (p0 : Tcover_tree) (p1 : Int)  (r : Int) (hm : cover_tree_leaf p0 p1 = some r) (w : World)   :
    Calls Try.prog 112 [.agg (Tcover_tree.cs p0).toArray, .int .i64 p1].toArray w fun e w' => ∃ v, e = .returned v ∧ (v = .int .i64 r ∧ Gr w w') := by
  unfold cover_tree_leaf at hm
  refine calls_of_sw (R := fun v w' => v = .int .i64 r ∧ Gr w w') 9 Try.func112 rfl rfl rfl ?_
  refine sw_seq ?_
  -- region 0 tree.go:65
  refine sw_region [(0, 0), (1, 0)] rfl rfl rfl ?_
  refine sd_ev rfl rfl rfl (ev_box (cs := Tcover_tree.cs p0) rfl rfl) ?_
  rintro _ w1 ⟨b1, rfl, hbw1, Bw1, Gw1⟩
  have z1 := Gw1.size
  have lt2 := Bw1.lt
  refine sd_vv rfl rfl rfl (vv_assign rfl) ?_
  refine sd_done ?_
  refine sw_seq ?_
  -- region 1 tree.go:65
  refine sw_region [(0, 0), (1, 0), (2, 0), (3, 0), (4, 0)] rfl rfl rfl ?_
  refine sd_vv rfl rfl rfl (vv_loadW agg_134 rfl Bw1 rfl) ?_
  have hb := bnd hm; clear hm; obtain ⟨x1, hx1, hm⟩ := hb
  refine sd_ev rfl rfl rfl (ev_call en_123 rfl (cover_tree_size_w p0 _ hx1 _)) ?_
  rintro _ w2 ⟨rfl, Gw2⟩
  have z3 := Gw2.size
  refine sd_vv rfl rfl rfl (vv_move rfl) ?_
  refine sd_vv rfl rfl rfl (vv_add (k := .i64) (a := x1) (b := p1) rfl rfl) ?_
  refine sd_vv rfl rfl rfl (vv_assign rfl) ?_
  refine sd_done ?_
  refine sw_ret ?_
  have X4 : Gr w w2 := (Gr.trans (Gr.trans (Gr.refl w) Gw1) Gw2)
  have hr := Option.some.inj hm
  subst hr
  refine ⟨_, _, rfl, res_1 rfl (rv_tmp rfl), ?_⟩
  exact ⟨rfl, X4⟩

set_option maxHeartbeats 2000000 in
theorem cover_node_sibling_w (p0 : Int)  (r : Int) (hm : cover_node_sibling p0 = some r) (w : World)   :
    Calls Try.prog 78 [.int .i64 p0].toArray w fun e w' => ∃ v, e = .returned v ∧ (v = .int .i64 r ∧ Gr w w') := by
  unfold cover_node_sibling at hm
  refine calls_of_sw (R := fun v w' => v = .int .i64 r ∧ Gr w w') 5 Try.func78 rfl rfl rfl ?_
  refine sw_seq ?_
  -- region 0 tree.go:25
  refine sw_region [(0, 0)] rfl rfl rfl ?_
  refine sd_vv rfl rfl rfl (vv_assign rfl) ?_
  refine sd_done ?_
  refine sw_seq ?_
  -- region 1 tree.go:25
  refine sw_region [(0, 0), (1, 0), (2, 0)] rfl rfl rfl ?_
  refine sd_vv rfl rfl rfl (vv_move rfl) ?_
  refine sd_vv rfl rfl rfl (vv_bitI (a := p0) (b := 1) (by simp) rfl rfl) ?_
  refine sd_vv rfl rfl rfl (vv_assign rfl) ?_
  refine sd_done ?_
  refine sw_ret ?_
  have hr := Option.some.inj hm
  subst hr
  refine ⟨_, _, rfl, res_1 rfl (rv_tmp rfl), ?_⟩
  exact ⟨rfl, (Gr.refl w)⟩

set_option maxHeartbeats 2000000 in
theorem cover_Cover_1_w (p0 : Int) (p1 : Int) (p2 : List TSubset) (bp2 : Nat) (vp2_0 : Value) (zp2_0 gp2_0 : Nat) (r : List TSubset) (hm : cover_Cover_1 p0 p1 p2 = some r) (w : World) (hbp2 : Bx w bp2 48 ([vp2_0])) (hp2_0 : Own w zp2_0 gp2_0 47 2 vp2_0 (p2.map TSubset.cs)) (ne0 : Hdn (zp2_0 = 0 ∨ gp2_0 ≠ bp2)) :
    Calls Try.prog 113 [.int .i64 p0, .int .i64 p1, .pointer (some ⟨bp2, 0, none⟩)].toArray w fun e w' => ∃ v, e = .returned v ∧ (∃ (ub0_s : Value) (zb0_s : Nat) (gb0_s : Nat), v = .tuple #[] ∧ Own w' zb0_s gb0_s 47 2 ub0_s (r.map TSubset.cs) ∧ Hdn (zb0_s = 0 ∨ (gb0_s = gp2_0 ∧ zp2_0 ≠ 0) ∨ w.heap.size ≤ gb0_s) ∧ Bx w' bp2 48 ([ub0_s]) ∧ Kz [(zp2_0, gp2_0), (1, bp2)] w w') := by
  have lt1 := hp2_0.lth
  have lt2 := hbp2.lt
  unfold cover_Cover_1 at hm
  refine calls_of_sw (R := fun v w' => ∃ (ub0_s : Value) (zb0_s : Nat) (gb0_s : Nat), v = .tuple #[] ∧ Own w' zb0_s gb0_s 47 2 ub0_s (r.map TSubset.cs) ∧ Hdn (zb0_s = 0 ∨ (gb0_s = gp2_0 ∧ zp2_0 ≠ 0) ∨ w.heap.size ≤ gb0_s) ∧ Bx w' bp2 48 ([ub0_s]) ∧ Kz [(zp2_0, gp2_0), (1, bp2)] w w') 11 Try.func113 rfl rfl rfl ?_
  -- region 0 cover.go:72
  refine sw_region [(0, 0), (1, 0), (2, 0), (3, 0), (4, 0), (5, 0), (6, 0)] rfl rfl rfl ?_
  refine sd_vv rfl rfl rfl (vv_load1 (v := vp2_0) one_48 rfl hbp2 rfl) ?_
  refine sd_vv rfl rfl rfl (vv_move rfl) ?_
  refine sd_vv rfl rfl rfl (vv_move rfl) ?_
  refine sd_vv rfl rfl rfl (vv_build (cs := TSubset.cs (TSubset.mk p0 p1)) bs_47 rfl rfl) ?_
  refine sd_ev rfl rfl rfl (ev_litT [(TSubset.mk p0 p1)] TSubset.cs bsl_48_1 rfl rfl (ws_of rfl) rfl rfl rfl) ?_
  rintro vw1 w1 ⟨gw1, hbw1, Ow1, Gw1⟩
  have z3 := Gw1.size
  have lt4 := Ow1.lth
  have B5 := (Own.gr hp2_0 Gw1)
  have hb := bnd hm; clear hm; obtain ⟨l1, hl1, hm⟩ := hb
  refine sd_ev rfl rfl rfl (ev_appT (l := p2) (m := [(TSubset.mk p0 p1)]) (c := TSubset.cs) apt_48 rfl rfl B5 (Own.rd Ow1) hl1 (by decide)) ?_
  rintro vw2 w2 ⟨zw2, gw2, Ow2, Aw2, qw2, rw2⟩
  have z6 := Aw2.size
  have B7 := (Bx.ka (Bx.gr hbp2 Gw1) Aw2 (tk1 ((tk2 lt1.o ne0.o) : zp2_0 = 0 ∨ gp2_0 ≠ bp2)))
  refine sd_ev rfl rfl rfl (ev_st1 (cs' := [vw2]) (one_48).siz rfl rfl (Own.oneB Ow2) B7 rfl rfl) ?_
  rintro _ w3 ⟨Bw3, Mw3⟩
  have z8 := Mw3.size
  refine sd_nil ?_
  have B9 := (Own.md Ow2 Mw3 (tk1 ((pv_app (A := (fun x => x ≠ bp2)) rw2 (tk2 lt1.o ne0.o)) : zw2 = 0 ∨ gw2 ≠ bp2)))
  have X10 : Kz [(zp2_0, gp2_0), (1, bp2)] w w3 := (Kz.md (Kz.ka (Kz.gr (Kz.refl _ w) Gw1) Aw2 (tk1 (tk0 : zp2_0 = 0 ∨ (gp2_0 = gp2_0 ∧ zp2_0 ≠ 0) ∨ w.heap.size ≤ gp2_0))) Mw3)
  have hr := Option.some.inj hm
  subst hr
  refine ⟨_, _, rfl, res_none rfl, ?_⟩
  exact ⟨vw2, zw2, gw2, rfl, B9, ⟨(pv_app (A := (fun x => (x = gp2_0 ∧ zp2_0 ≠ 0) ∨ w.heap.size ≤ x)) rw2 tk0)⟩, Bw3, X10⟩

set_option maxHeartbeats 2000000 in
theorem cover_Cover_w (p0 : TScheme) (p1 : List Int) (vp1 : Value) (zp1 gp1 op1 : Nat) (r : List TSubset × Int) (hm : cover_Cover p0 p1 = some r) (w : World) (hp1 : Rd w zp1 gp1 op1 1 vp1 (p1.map ic))  :
    Calls Try.prog 54 [.agg (TScheme.cs p0).toArray, vp1].toArray w fun e w' => ∃ v, e = .returned v ∧ (∃ (ur0_s : Value) (zr0_s : Nat) (gr0_s : Nat), v = .tuple [ur0_s, .int .i64 r.2].toArray ∧ Own w' zr0_s gr0_s 47 2 ur0_s (r.1.map TSubset.cs) ∧ Hdn (zr0_s = 0 ∨ w.heap.size ≤ gr0_s) ∧ Gr w w') := by
  have lt1 := hp1.lth
  unfold cover_Cover at hm
  refine calls_of_sw (R := fun v w' => ∃ (ur0_s : Value) (zr0_s : Nat) (gr0_s : Nat), v = .tuple [ur0_s, .int .i64 r.2].toArray ∧ Own w' zr0_s gr0_s 47 2 ur0_s (r.1.map TSubset.cs) ∧ Hdn (zr0_s = 0 ∨ w.heap.size ≤ gr0_s) ∧ Gr w w') 134 Try.func54 rfl rfl rfl ?_
  refine sw_seq ?_
  -- region 0 cover.go:54
  refine sw_region [(0, 0), (1, 0), (2, 0)] rfl rfl rfl ?_
  refine sd_ev rfl rfl rfl (ev_box (cs := TScheme.cs p0) rfl rfl) ?_
  rintro _ w1 ⟨b1, rfl, hbw1, Bw1, Gw1⟩
  have z2 := Gw1.size
  have lt3 := Bw1.lt
  refine sd_vv rfl rfl rfl (vv_assign rfl) ?_
  refine sd_vv rfl rfl rfl (vv_assign rfl) ?_
  refine sd_done ?_
  refine sw_seq ?_
  -- region 1 cover.go:55
  refine sw_region [(0, 0), (1, 0), (2, 0), (3, 0), (4, 0), (5, 0), (6, 0), (7, 0)] rfl rfl rfl ?_
  refine sd_vv rfl rfl rfl (vv_loadW agg_45 rfl Bw1 rfl) ?_
  have hb := bnd hm; clear hm; obtain ⟨x1, hx1, hm⟩ := hb
  refine sd_ev rfl rfl rfl (ev_call en_74 rfl (cover_enter_w p0 ([] : List TSubset) _ _ _ _ _ hx1 _ (Own.rd (own_nil _ 0 47 2)))) ?_
  rintro _ w2 ⟨rfl, Gw2⟩
  have z4 := Gw2.size
  refine sd_vv rfl rfl rfl (vv_move rfl) ?_
  refine sd_vv rfl rfl rfl (vv_extract rfl rfl) ?_
  refine sd_vv rfl rfl rfl (vv_extract rfl rfl) ?_
  refine sd_ev rfl rfl rfl (ev_alloc (cs := Tcover_tree.cs (Tcover_tree.mk 0#8 0 0)) zv_134 rfl) ?_
  rintro _ w3 ⟨b3, rfl, hbw3, Bw3, Gw3⟩
  have z5 := Gw3.size
  have lt6 := Bw3.lt
  refine sd_ev rfl rfl rfl (ev_stM (cs' := Tcover_tree.cs x1.1) (vs := Tcover_tree.cs x1.1) (agg_134).siz rfl rfl rfl rfl rfl Bw3 rfl rfl) ?_
  rintro _ w4 ⟨Bw4, Mw4⟩
  have z7 := Mw4.size
  refine sd_vv rfl rfl rfl (vv_assign rfl) ?_
  refine sd_done ?_
  refine sw_seq ?_
  refine sw_seq ?_
  -- region 2 cover.go:56
  refine sw_region [(0, 0), (1, 0)] rfl rfl rfl ?_
  refine sd_vv rfl rfl rfl (vv_move rfl) ?_
  refine sd_vv rfl rfl rfl (vv_neq (a := x1.2) (b := 0) rfl rfl) ?_
  refine sd_done ?_
  refine sw_cond rfl (fun c1 => ?_) (fun c1 => ?_)
  ·
    replace hm := ite_t (of_decide_eq_true c1) hm
    refine sw_seq ?_
    -- region 3 cover.go:57
    refine sw_region [(0, 0), (1, 0), (2, 0)] rfl rfl rfl ?_
    refine sd_vv rfl rfl rfl (vv_move rfl) ?_
    refine sd_vv rfl rfl rfl (vv_assign rfl) ?_
    refine sd_vv rfl rfl rfl (vv_assign rfl) ?_
    refine sd_done ?_
    refine sw_ret ?_
    refine then_r ?_
    have X8 : Gr w w4 := (Gr.md (Gr.trans (Gr.trans (Gr.trans (Gr.refl w) Gw1) Gw2) Gw3) Mw4)
    have hr := Option.some.inj hm
    subst hr
    refine ⟨_, _, rfl, res_2 rfl (rv_tmp rfl) (rv_tmp rfl), ?_⟩
    exact ⟨(.slice none 0 0), 0, 0, rfl, (own_nil _ 0 47 2), ⟨.inl rfl⟩, X8⟩
  ·
    replace hm := ite_f (of_decide_eq_false c1) hm
    refine sw_skip ?_
    refine then_n ?_
    refine sw_seq ?_
    refine sw_seq ?_
    -- region 4 cover.go:59
    refine sw_region [(0, 0), (1, 0), (2, 0), (3, 0)] rfl rfl rfl ?_
    refine sd_vv rfl rfl rfl (vv_loadW agg_134 rfl Bw4 rfl) ?_
    refine sd_vv rfl rfl rfl (vv_move rfl) ?_
    have B9 := (Rd.md (Rd.gr (Rd.gr (Rd.gr hp1 Gw1) Gw2) Gw3) Mw4 (tk1 ((pv_lt (A := (fun x => x ≠ b3)) lt1) : zp1 = 0 ∨ gp1 ≠ b3)))
    have hb := bnd hm; clear hm; obtain ⟨x2, hx2, hm⟩ := hb
    refine sd_ev rfl rfl rfl (ev_call en_109 rfl (cover_tree_list_w x1.1 p1 _ _ _ _ _ hx2 _ B9)) ?_
    rintro _ w5 ⟨rfl, Gw5⟩
    have z10 := Gw5.size
    refine sd_vv rfl rfl rfl (vv_not rfl) ?_
    refine sd_done ?_
    refine sw_cond rfl (fun c2 => ?_) (fun c2 => ?_)
    ·
      replace hm := cnd_t c2 hm
      refine sw_seq ?_
      -- region 5 cover.go:60
      refine sw_region [(0, 0), (1, 0)] rfl rfl rfl ?_
      refine sd_vv rfl rfl rfl (vv_assign rfl) ?_
      refine sd_vv rfl rfl rfl (vv_assign rfl) ?_
      refine sd_done ?_
      refine sw_ret ?_
      refine then_r ?_
      have X11 : Gr w w5 := (Gr.trans (Gr.md (Gr.trans (Gr.trans (Gr.trans (Gr.refl w) Gw1) Gw2) Gw3) Mw4) Gw5)
      have hr := Option.some.inj hm
      subst hr
      refine ⟨_, _, rfl, res_2 rfl (rv_tmp rfl) (rv_tmp rfl), ?_⟩
      exact ⟨(.slice none 0 0), 0, 0, rfl, (own_nil _ 0 47 2), ⟨.inl rfl⟩, X11⟩
    ·
      replace hm := cnd_f c2 hm
      refine sw_skip ?_
      refine then_n ?_
      refine sw_seq ?_
      refine sw_seq ?_
      -- region 6 cover.go:62
      refine sw_region [(0, 0), (1, 0), (2, 0)] rfl rfl rfl ?_
      refine sd_vv rfl rfl rfl (vv_move rfl) ?_
      have B12 := (Rd.gr B9 Gw5)
      refine sd_vv rfl rfl rfl (vv_lenT (l := p1) (c := ic) Try.underlying61 rfl B12) ?_
      refine sd_vv rfl rfl rfl (vv_eql (a := (p1.length : Int)) (b := 0) rfl rfl) ?_
      refine sd_done ?_
      refine sw_cond rfl (fun c3 => ?_) (fun c3 => ?_)
      ·
        replace hm := ite_t (of_decide_eq_true c3) hm
        refine sw_seq ?_
        -- region 7 cover.go:63
        refine sw_region [(0, 0), (1, 0), (2, 0), (3, 0)] rfl rfl rfl ?_
        refine sd_vv rfl rfl rfl (vv_build (cs := TSubset.cs (TSubset.mk 1 0)) bs_47 rfl rfl) ?_
        refine sd_ev rfl rfl rfl (ev_litT [(TSubset.mk 1 0)] TSubset.cs bsl_48_1 rfl rfl (ws_of rfl) rfl rfl rfl) ?_
        rintro vw6 w6 ⟨gw6, hbw6, Ow6, Gw6⟩
        have z13 := Gw6.size
        have lt14 := Ow6.lth
        refine sd_vv rfl rfl rfl (vv_assign rfl) ?_
        refine sd_vv rfl rfl rfl (vv_assign rfl) ?_
        refine sd_done ?_
        refine sw_ret ?_
        refine then_r ?_
        have X15 : Gr w w6 := (Gr.trans (Gr.trans (Gr.md (Gr.trans (Gr.trans (Gr.trans (Gr.refl w) Gw1) Gw2) Gw3) Mw4) Gw5) Gw6)
        have hr := Option.some.inj hm
        subst hr
        refine ⟨_, _, rfl, res_2 rfl (rv_tmp rfl) (rv_tmp rfl), ?_⟩
        exact ⟨vw6, 1, gw6, rfl, Ow6, ⟨(.inr tk0)⟩, X15⟩
      ·
        replace hm := ite_f (of_decide_eq_false c3) hm
        refine sw_skip ?_
        refine then_n ?_
        refine sw_seq ?_
        -- region 8 cover.go:65
        refine sw_region [(0, 0), (1, 0)] rfl rfl rfl ?_
        refine sd_ev rfl rfl rfl (ev_makeMap) ?_
        rintro _ w7 ⟨b7, rfl, hbw7, Bw7, Gw7⟩
        have z16 := Gw7.size
        have lt17 := Bw7.lt
        refine sd_vv rfl rfl rfl (vv_assign rfl) ?_
        refine sd_done ?_
        refine sw_seq ?_
        refine sw_seq ?_
        -- region 9 cover.go:66
        refine sw_region [(0, 0), (1, 0), (2, 0)] rfl rfl rfl ?_
        refine sd_vv rfl rfl rfl (vv_move rfl) ?_
        have B18 := (Rd.gr B12 Gw7)
        refine sd_vv rfl rfl rfl (vv_lenT (l := p1) (c := ic) Try.underlying61 rfl B18) ?_
        refine sd_vv rfl rfl rfl (vv_move rfl) ?_
        refine sd_done ?_
        refine sw_block ?_
        have X19 : Gr w w7 := (Gr.trans (Gr.trans (Gr.md (Gr.trans (Gr.trans (Gr.trans (Gr.refl w) Gw1) Gw2) Gw3) Mw4) Gw5) Gw7)
        refine sw_loopD (α := Nat × Int × List Int) [10, 11, 37, 38, 39, 40, 41, 42, 43, 44, 45, 46, 47, 48, 49, 50] (fun ⟨n1, a5, a6⟩ => [(37, .int .i64 a5)]) (fun ⟨n1, a5, a6⟩ wr => (fixN (cover_Cover_L1 p1 x1) n1 (a5, a6) = some r) ∧ Mo wr b7 a6 ∧ Kz [(1, b7)] w7 wr) (fun ⟨n1, a5, a6⟩ => n1) ⟨FUEL, 0, []⟩ ?_ ?_ ?_
        · repeat' first | exact trivial | refine ⟨rfl, ?_⟩
        · exact ⟨hm, Bw7, Kz.refl _ _⟩
        · clear hm; rintro ⟨n1, a5, a6⟩ w8 ⟨hm, Fw8_0, Kw8⟩
          have z20 := Kw8.size
          have lt21 := Fw8_0.lt
          have hb := fix_succ hm; clear hm; obtain ⟨n1, rfl, hm⟩ := hb
          generalize hrec1 : fixN (cover_Cover_L1 p1 x1) n1 = rec1 at hm
          unfold cover_Cover_L1 at hm
          try dsimp only at hm
          refine sw_seq ?_
          -- region 10 cover.go:66
          refine sw_region [(0, 0)] rfl rfl rfl ?_
          refine sd_vv rfl rfl rfl (vv_lss (a := a5) (b := (p1.length : Int)) rfl rfl) ?_
          refine sd_done ?_
          refine sw_seq ?_
          refine sw_cond rfl (fun c4 => ?_) (fun c4 => ?_)
          ·
            replace hm := ite_t (of_decide_eq_true c4) hm
            refine sw_skip ?_
            refine then_n ?_
            refine sw_seq ?_
            refine sw_block ?_
            refine sw_seq ?_
            -- region 11 cover.go:66
            refine sw_region [(0, 0), (1, 0), (2, 0)] rfl rfl rfl ?_
            have hb := bnd hm; clear hm; obtain ⟨y7, hy7, hm⟩ := hb
            have B22 := (Rd.kz B18 Kw8 (tk1 ((pv_lt (A := (fun x => x ≠ b7)) lt1) : zp1 = 0 ∨ gp1 ≠ b7)))
            refine sd_vv rfl rfl rfl (vv_ixT (i := a5) Try.underlying61 (one_3).siz rfl B22 rfl hy7) ?_
            refine sd_vv rfl rfl rfl (vv_el1T (q := 0) (u := .int .i64 y7) one_3 rfl B22 hy7 (by first | rfl | omega) rfl) ?_
            refine sd_vv rfl rfl rfl (vv_assign rfl) ?_
            refine sd_done ?_
            refine sw_seq ?_
            -- region 12 cover.go:67
            refine sw_region [(0, 0), (1, 0), (2, 0), (3, 0)] rfl rfl rfl ?_
            have B23 := (Bx.kz (Bx.gr (Bx.gr Bw4 Gw5) Gw7) Kw8)
            refine sd_vv rfl rfl rfl (vv_loadW agg_134 rfl B23 rfl) ?_
            refine sd_vv rfl rfl rfl (vv_move rfl) ?_
            have hb := bnd hm; clear hm; obtain ⟨x8, hx8, hm⟩ := hb
            refine sd_ev rfl rfl rfl (ev_call en_112 rfl (cover_tree_leaf_w x1.1 y7 _ hx8 _)) ?_
            rintro _ w9 ⟨rfl, Gw9⟩
            have z24 := Gw9.size
            refine sd_vv rfl rfl rfl (vv_assign rfl) ?_
            refine sd_done ?_
            refine sw_block ?_
            have X25 : Gr w w9 := (Gr.trans (Gr.kz X19 Kw8) Gw9)
            have B26 := (Rd.gr B22 Gw9)
            have B27 := (Mo.gr Fw8_0 Gw9)
            refine sw_loopD (α := Nat × Int × List Int) [11, 44, 45, 46, 47, 48, 49] (fun ⟨n2, a11, a12⟩ => [(11, .int .i64 a11)]) (fun ⟨n2, a11, a12⟩ wr => (fixN (cover_Cover_L2 a5 rec1) n2 (a11, a12) = some r) ∧ Mo wr b7 a12 ∧ Kz [(1, b7)] w9 wr) (fun ⟨n2, a11, a12⟩ => n2) ⟨FUEL, x8, a6⟩ ?_ ?_ ?_
            · repeat' first | exact trivial | refine ⟨rfl, ?_⟩
            · exact ⟨hm, B27, Kz.refl _ _⟩
            · clear hm; rintro ⟨n2, a11, a12⟩ w10 ⟨hm, Fw10_0, Kw10⟩
              have z28 := Kw10.size
              have lt29 := Fw10_0.lt
              have hb := fix_succ hm; clear hm; obtain ⟨n2, rfl, hm⟩ := hb
              generalize hrec2 : fixN (cover_Cover_L2 a5 rec1) n2 = rec2 at hm
              unfold cover_Cover_L2 at hm
              try dsimp only at hm
              refine sw_seq ?_
              refine sw_seq ?_
              -- region 13 cover.go:67
              refine sw_region [(0, 0), (1, 0)] rfl rfl rfl ?_
              refine sd_vv rfl rfl rfl (vv_move rfl) ?_
              refine sd_vv rfl rfl rfl (vv_gtr (a := a11) (b := 0) rfl rfl) ?_
              refine sd_done ?_
              refine sw_cond rfl (fun c5 => ?_) (fun c5 => ?_)
              ·
                replace hm := ite_t (of_decide_eq_true c5) hm
                refine sw_skip ?_
                refine then_n ?_
                refine sw_seq ?_
                refine sw_block ?_
                -- region 15 cover.go:68
                refine sw_region [(0, 0), (1, 0), (2, 0)] rfl rfl rfl ?_
                refine sd_vv rfl rfl rfl (vv_move rfl) ?_
                refine sd_vv rfl rfl rfl (vv_move rfl) ?_
                refine sd_ev rfl rfl rfl (ev_mapUpd (k := a11) mpt_172 rfl rfl rfl Fw10_0) ?_
                rintro _ w11 ⟨Bw11, Mw11⟩
                have z30 := Mw11.size
                refine sd_nil ?_
                refine block_n ?_
                refine then_n ?_
                -- region 14 cover.go:67
                refine sw_region [(0, 0), (1, 0), (2, 0)] rfl rfl rfl ?_
                refine sd_vv rfl rfl rfl (vv_move rfl) ?_
                have hb := bnd hm; clear hm; obtain ⟨n13, hn13, hm⟩ := hb
                refine sd_vv rfl rfl rfl (vv_shrI (a := a11) (b := (un 1#64)) rfl rfl hn13) ?_
                refine sd_vv rfl rfl rfl (vv_assign rfl) ?_
                refine sd_nil ?_
                have K_31 : Kz [(1, b7)] w9 w11 := (Kz.md Kw10 Mw11)
                subst hrec2
                refine ⟨rfl, ⟨n2, shrI a11 n13, insS a12 a11⟩, ?_, ⟨hm, Bw11, K_31⟩, Nat.lt_succ_self _⟩
                repeat' first | exact trivial | refine ⟨rfl, ?_⟩
              ·
                replace hm := ite_f (of_decide_eq_false c5) hm
                refine sw_exit ?_
                refine then_x ?_
                refine then_x ?_
                refine block_x ?_
                refine block_n ?_
                refine then_n ?_
                -- region 16 cover.go:66
                refine sw_region [(0, 0), (1, 0)] rfl rfl rfl ?_
                refine sd_vv rfl rfl rfl (vv_add (k := .i64) (a := a5) (b := 1) rfl rfl) ?_
                refine sd_vv rfl rfl rfl (vv_move rfl) ?_
                refine sd_nil ?_
                have K_32 : Kz [(1, b7)] w7 w10 := (Kz.kz (Kz.gr Kw8 Gw9) Kw10)
                subst hrec1
                refine ⟨rfl, ⟨n1, w64 (a5 + 1), a12⟩, ?_, ⟨hm, Fw10_0, K_32⟩, Nat.lt_succ_self _⟩
                repeat' first | exact trivial | refine ⟨rfl, ?_⟩
          ·
            replace hm := ite_f (of_decide_eq_false c4) hm
            refine sw_exit ?_
            refine then_x ?_
            refine then_x ?_
            refine block_x ?_
            refine then_n ?_
            refine sw_seq ?_
            -- region 17 cover.go:71
            refine sw_region [(0, 0)] rfl rfl rfl ?_
            refine sd_ev rfl rfl rfl (ev_alloc (cs := [(.slice none 0 0)]) zv_48 rfl) ?_
            rintro _ w12 ⟨b12, rfl, hbw12, Bw12, Gw12⟩
            have z33 := Gw12.size
            have lt34 := Bw12.lt
            refine sd_done ?_
            refine sw_seq ?_
            -- region 18 cover.go:72
            refine sw_region [(0, 0), (1, 0)] rfl rfl rfl ?_
            refine sd_vv rfl rfl rfl (vv_makeFunc rfl rfl) ?_
            refine sd_vv rfl rfl rfl (vv_assign rfl) ?_
            refine sd_done ?_
            refine sw_seq ?_
            refine sw_seq ?_
            -- region 19 cover.go:73
            refine sw_region [(0, 0), (1, 0)] rfl rfl rfl ?_
            refine sd_vv rfl rfl rfl (vv_move rfl) ?_
            have B35 := (Mo.gr Fw8_0 Gw12)
            refine sd_ev rfl rfl rfl (ev_rangeM mpt_172 rfl B35) ?_
            rintro _ w13 ⟨b13, rfl, hbw13, Bw13, Gw13⟩
            have z36 := Gw13.size
            have lt37 := Bw13.lt
            refine sd_done ?_
            refine sw_block ?_
            have X38 : Gr w w13 := (Gr.trans (Gr.trans (Gr.kz X19 Kw8) Gw12) Gw13)
            have B39 := (Rd.gr (Rd.gr (Rd.kz B18 Kw8 (tk1 ((pv_lt (A := (fun x => x ≠ b7)) lt1) : zp1 = 0 ∨ gp1 ≠ b7))) Gw12) Gw13)
            have B40 := (Mo.gr B35 Gw13)
            have B41 := (Bx.gr Bw12 Gw13)
            refine sw_loopD (α := Nat × List TSubset × Value × Nat × Nat × List Int) [14, 15, 16, 54, 55, 56, 57, 58, 59, 60, 61, 62, 63, 64, 65, 66, 67, 68, 69, 70, 71, 72, 73, 74, 75, 76, 77, 78, 79, 80, 81, 82, 83, 84, 85, 86, 87, 88, 89, 90, 91, 92, 93, 94, 95, 96, 97, 98, 99, 100, 101, 102, 103, 104, 105, 106, 107, 108, 109, 110, 111, 112, 113, 114, 115, 116, 117, 118, 119, 120, 121, 122, 123, 124, 125, 126, 127, 128, 129, 130] (fun ⟨n3, a16, vy17, zy17, gy17, rem⟩ => []) (fun ⟨n3, a16, vy17, zy17, gy17, rem⟩ wr => (rngM (cover_Cover_S3 x1 a6) cover_Cover_E3 n3 rem a16 = some r) ∧ Own wr zy17 gy17 47 2 vy17 (a16.map TSubset.cs) ∧ Hdn (zy17 = 0 ∨ w13.heap.size ≤ gy17) ∧ Bx wr b12 48 [vy17] ∧ Mi wr b13 b7 a6 rem ∧ Kz [(1, b12), (1, b13)] w13 wr) (fun ⟨n3, a16, vy17, zy17, gy17, rem⟩ => n3) ⟨FUEL, [], (.slice none 0 0), 0, 0, a6⟩ ?_ ?_ ?_
            · repeat' first | exact trivial | refine ⟨rfl, ?_⟩
            · exact ⟨hm, (own_nil _ 0 47 2), ⟨(.inl rfl)⟩, B41, Bw13, Kz.refl _ _⟩
            · clear hm; rintro ⟨n3, a16, vy17, zy17, gy17, rem3⟩ w14 ⟨hm, Fw14_0, Fw14_1, Fw14_2, Iw14, Kw14⟩
              have z42 := Kw14.size
              have lt43 := Fw14_0.lth
              have lt44 := Fw14_2.lt
              have lt45 := Iw14.lt
              refine sw_seq ?_
              -- region 20 cover.go:73
              refine sw_region [(0, 0), (1, 0)] rfl rfl rfl ?_
              have B46 := (Mo.kz B40 Kw14)
              refine sd_ev rfl rfl rfl (ev_nextM rfl B46 Iw14) ?_
              rintro _ w15 (⟨rfl, hr, Gw15⟩ | ⟨k18, hk, rfl, MKw15, Mw15⟩)
              ·
                have z47 := Gw15.size
                replace hm := rngM_nil hm hr
                unfold cover_Cover_E3 at hm
                try dsimp only at hm
                refine sd_vv rfl rfl rfl (vv_extract rfl rfl) ?_
                refine sd_done ?_
                refine sw_seq ?_
                refine sw_condF rfl ?_
                refine sw_exit ?_
                refine then_x ?_
                refine then_x ?_
                refine block_x ?_
                refine then_n ?_
                refine sw_seq ?_
                -- region 37 cover.go:99
                refine sw_region [(0, 0), (1, 0)] rfl rfl rfl ?_
                have B48 := (Bx.gr Fw14_2 Gw15)
                refine sd_vv rfl rfl rfl (vv_load1 (v := vy17) one_48 rfl B48 rfl) ?_
                have B49 := (Own.gr Fw14_0 Gw15)
                have hb := bnd hm; clear hm; obtain ⟨l19, hl19, hm⟩ := hb
                refine sd_ev rfl rfl rfl (ev_call en_115 rfl (sortSub_c hl19 _ _ _ _ B49)) ?_
                rintro _ w16 ⟨Ow16, Kw16⟩
                have z50 := Kw16.size
                refine sd_done ?_
                refine sw_seq ?_
                -- region 38 cover.go:100
                refine sw_region [(0, 0), (1, 0), (2, 0)] rfl rfl rfl ?_
                have B51 := (Bx.kz B48 Kw16 (tk1 ((pv_0 (A := (fun x => x ≠ b12)) Fw14_1) : zy17 = 0 ∨ gy17 ≠ b12)))
                refine sd_vv rfl rfl rfl (vv_load1 (v := vy17) one_48 rfl B51 rfl) ?_
                refine sd_vv rfl rfl rfl (vv_assign rfl) ?_
                refine sd_vv rfl rfl rfl (vv_assign rfl) ?_
                refine sd_done ?_
                refine sw_ret ?_
                have X52 : Gr w w16 := (Gr.kz (Gr.trans (Gr.kz X38 Kw14) Gw15) Kw16 (tk1 ((pv_0 (A := (fun x => w.heap.size ≤ x)) Fw14_1) : zy17 = 0 ∨ w.heap.size ≤ gy17)))
                have hr := Option.some.inj hm
                subst hr
                refine ⟨_, _, rfl, res_2 rfl (rv_tmp rfl) (rv_tmp rfl), ?_⟩
                exact ⟨vy17, zy17, gy17, rfl, Ow16, ⟨(pv_0 (A := (fun x => w.heap.size ≤ x)) Fw14_1)⟩, X52⟩
              ·
                have z53 := Mw15.size
                have hb := rngM_at hm hk; clear hm; obtain ⟨n3, rfl, hm⟩ := hb
                generalize hnx3 : rngM (cover_Cover_S3 x1 a6) cover_Cover_E3 n3 (rem3.filter (· ≠ k18)) = nx3 at hm
                unfold cover_Cover_S3 at hm
                try dsimp only at hm
                refine sd_vv rfl rfl rfl (vv_extract rfl rfl) ?_
                refine sd_done ?_
                refine sw_seq ?_
                refine sw_condT rfl ?_
                refine sw_skip ?_
                refine then_n ?_
                refine sw_block ?_
                refine sw_seq ?_
                -- region 21 cover.go:73
                refine sw_region [(0, 0), (1, 0), (2, 0)] rfl rfl rfl ?_
                have B54 := (Mo.md B46 Mw15)
                refine sd_vv rfl rfl rfl (vv_entryM rfl B54 MKw15) ?_
                refine sd_vv rfl rfl rfl (vv_extract rfl rfl) ?_
                refine sd_vv rfl rfl rfl (vv_assign rfl) ?_
                refine sd_done ?_
                refine sw_seq ?_
                refine sw_seq ?_
                -- region 22 cover.go:74
                refine sw_region [(0, 0), (1, 0), (2, 0)] rfl rfl rfl ?_
                refine sd_vv rfl rfl rfl (vv_fieldAddr fa_134_0 rfl) ?_
                have B55 := (Bx.md (Bx.kz (Bx.gr (Bx.gr (Bx.kz (Bx.gr (Bx.gr Bw4 Gw5) Gw7) Kw8) Gw12) Gw13) Kw14) Mw15)
                refine sd_vv rfl rfl rfl (vv_load1 (v := bv x1.1.kind) one_5 rfl B55 rfl) ?_
                refine sd_vv rfl rfl rfl (vv_eqlB (p := x1.1.kind) (q := 1#8) rfl rfl) ?_
                refine sd_done ?_
                refine sw_cond rfl (fun c6 => ?_) (fun c6 => ?_)
                ·
                  replace hm := ite_t (of_decide_eq_true c6) hm
                  refine sw_seq ?_
                  have X56 : Gr w w15 := (Gr.md (Gr.kz X38 Kw14) Mw15)
                  refine sw_joinD (β := Bool) [61, 62, 63, 64, 65, 66, 67, 68, 69] (fun a20 => [(69, .bool a20)]) (fun a20 wr => (cover_Cover_J4 a16 nx3 k18 a20 = some r) ∧ Kz [] w15 wr) ?_ ?_
                  · clear hm; rintro a20 w17 ⟨hm, Kw17⟩
                    have z57 := Kw17.size
                    unfold cover_Cover_J4 at hm
                    refine sw_cond rfl (fun c7 => ?_) (fun c7 => ?_)
                    ·
                      replace hm := cnd_t c7 hm
                      -- region 24 cover.go:76
                      refine sw_region [(0, 0), (1, 0), (2, 0), (3, 0)] rfl rfl rfl ?_
                      refine sd_vv rfl rfl rfl (vv_move rfl) ?_
                      refine sd_vv rfl rfl rfl (vv_move rfl) ?_
                      have hb := bnd hm; clear hm; obtain ⟨x21, hx21, hm⟩ := hb
                      refine sd_ev rfl rfl rfl (ev_call en_78 rfl (cover_node_sibling_w k18 _ hx21 _)) ?_
                      rintro _ w18 ⟨rfl, Gw18⟩
                      have z58 := Gw18.size
                      have B59 := (Bx.gr (Bx.kz (Bx.md Fw14_2 Mw15) Kw17) Gw18)
                      have B60 := (Own.gr (Own.kz (Own.md Fw14_0 Mw15 (tk1 ((pv_0 (A := (fun x => x ≠ b13)) Fw14_1) : zy17 = 0 ∨ gy17 ≠ b13))) Kw17) Gw18)
                      have hb := bnd hm; clear hm; obtain ⟨x22, hx22, hm⟩ := hb
                      refine sd_ev rfl rfl rfl (ev_callV en_113 rfl rfl (cover_Cover_1_w x21 0 a16 _ vy17 zy17 gy17 _ hx22 _ B59 B60 ⟨(tk1 ((pv_0 (A := (fun x => x ≠ b12)) Fw14_1) : zy17 = 0 ∨ gy17 ≠ b12))⟩)) ?_
                      rintro _ w19 ⟨u19_b0_s, z19_b0_s, g19_b0_s, rfl, O19_b0_s, f19_b0_s, Bk19_0, Kw19⟩
                      have z61 := Kw19.size
                      have lt62 := O19_b0_s.lth
                      refine sd_done ?_
                      refine sw_exit ?_
                      refine then_x ?_
                      refine block_x ?_
                      have K_63 : Kz [(1, b12), (1, b13)] w13 w19 := (Kz.kz (Kz.gr (Kz.kz (Kz.md Kw14 Mw15) Kw17) Gw18) Kw19 (tk1 ((pv_0 (A := (fun x => w13.heap.size ≤ x)) Fw14_1) : zy17 = 0 ∨ w13.heap.size ≤ gy17)))
                      have B64 := (Mi.kz (Mi.gr (Mi.kz (Mk.mi MKw15) Kw17) Gw18) Kw19 (tk1 ((pv_0 (A := (fun x => x ≠ b13)) Fw14_1) : zy17 = 0 ∨ gy17 ≠ b13)))
                      subst hnx3
                      refine ⟨rfl, ⟨n3, x22, u19_b0_s, z19_b0_s, g19_b0_s, (rem3.filter (· ≠ k18))⟩, ?_, ⟨hm, O19_b0_s, ⟨(pv_1 (A := (fun x => w13.heap.size ≤ x)) f19_b0_s (pv_0 (A := (fun x => w13.heap.size ≤ x)) Fw14_1))⟩, Bk19_0, B64, K_63⟩, Nat.lt_succ_self _⟩
                      repeat' first | exact trivial | refine ⟨rfl, ?_⟩
                    ·
                      replace hm := cnd_f c7 hm
                      refine sw_skip ?_
                      refine then_n ?_
                      refine sw_exit ?_
                      refine then_x ?_
                      refine block_x ?_
                      have K_65 : Kz [(1, b12), (1, b13)] w13 w17 := (Kz.kz (Kz.md Kw14 Mw15) Kw17)
                      have B66 := (Own.kz (Own.md Fw14_0 Mw15 (tk1 ((pv_0 (A := (fun x => x ≠ b13)) Fw14_1) : zy17 = 0 ∨ gy17 ≠ b13))) Kw17)
                      have B67 := (Bx.kz (Bx.md Fw14_2 Mw15) Kw17)
                      have B68 := (Mi.kz (Mk.mi MKw15) Kw17)
                      subst hnx3
                      refine ⟨rfl, ⟨n3, a16, vy17, zy17, gy17, (rem3.filter (· ≠ k18))⟩, ?_, ⟨hm, B66, ⟨(pv_0 (A := (fun x => w13.heap.size ≤ x)) Fw14_1)⟩, B67, B68, K_65⟩, Nat.lt_succ_self _⟩
                      repeat' first | exact trivial | refine ⟨rfl, ?_⟩
                  ·
                    -- region 23 cover.go:75
                    refine sw_region [(0, 0), (1, 0), (2, 0), (3, 0), (4, 0), (5, 0), (6, 0), (7, 0), (8, 0)] rfl rfl rfl ?_
                    refine sd_vv rfl rfl rfl (vv_move rfl) ?_
                    refine sd_vv rfl rfl rfl (vv_gtr (a := k18) (b := 1) rfl rfl) ?_
                    refine sd_split rfl rfl rfl (vv_move rfl) (fun c8 => ?_) (fun c8 => ?_)
                    ·
                      replace hm := ite_t (of_decide_eq_true c8) hm
                      refine sd_vv rfl rfl rfl (vv_move rfl) ?_
                      refine sd_vv rfl rfl rfl (vv_move rfl) ?_
                      have hb := bnd hm; clear hm; obtain ⟨x23, hx23, hm⟩ := hb
                      refine sd_ev rfl rfl rfl (ev_call en_78 rfl (cover_node_sibling_w k18 _ hx23 _)) ?_
                      rintro _ w20 ⟨rfl, Gw20⟩
                      have z69 := Gw20.size
                      have B70 := (Mo.gr B54 Gw20)
                      refine sd_vv rfl rfl rfl (vv_lookup (k := x23) (ks := a6) mpt_172 rfl rfl B70) ?_
                      refine sd_vv rfl rfl rfl (vv_notD rfl) ?_
                      refine sd_vv rfl rfl rfl (vv_pickT rfl rfl) ?_
                      refine sd_nil ?_
                      have K_71 : Kz [] w15 w20 := (Kz.gr (Kz.refl _ _) Gw20)
                      refine ⟨rfl, (decide (¬ (x23 ∈ a6))), ?_, hm, K_71⟩
                      repeat' first | exact trivial | refine ⟨rfl, ?_⟩
                    ·
                      replace hm := ite_f (of_decide_eq_false c8) hm
                      refine sd_skip rfl rfl rfl ?_
                      refine sd_skip rfl rfl rfl ?_
                      refine sd_skip rfl rfl rfl ?_
                      refine sd_skip rfl rfl rfl ?_
                      refine sd_skip rfl rfl rfl ?_
                      refine sd_vv rfl rfl rfl (vv_pickF rfl rfl) ?_
                      refine sd_nil ?_
                      have K_72 : Kz [] w15 w15 := (Kz.refl _ _)
                      refine ⟨rfl, false, ?_, hm, K_72⟩
                      repeat' first | exact trivial | refine ⟨rfl, ?_⟩
                ·
                  replace hm := ite_f (of_decide_eq_false c6) hm
                  refine sw_skip ?_
                  refine then_n ?_
                  refine sw_seq ?_
                  have X73 : Gr w w15 := (Gr.md (Gr.kz X38 Kw14) Mw15)
                  refine sw_joinD (β := Bool) [74, 75, 76, 77, 78, 79, 80, 81, 82] (fun a24 => [(82, .bool a24)]) (fun a24 wr => (cover_Cover_J5 x1 a6 a16 nx3 k18 a24 = some r) ∧ Kz [] w15 wr) ?_ ?_
                  · clear hm; rintro a24 w21 ⟨hm, Kw21⟩
                    have z74 := Kw21.size
                    unfold cover_Cover_J5 at hm
                    refine sw_cond rfl (fun c9 => ?_) (fun c9 => ?_)
                    ·
                      replace hm := cnd_t c9 hm
                      refine sw_exit ?_
                      refine then_x ?_
                      refine block_x ?_
                      have K_75 : Kz [(1, b12), (1, b13)] w13 w21 := (Kz.kz (Kz.md Kw14 Mw15) Kw21)
                      have B76 := (Own.kz (Own.md Fw14_0 Mw15 (tk1 ((pv_0 (A := (fun x => x ≠ b13)) Fw14_1) : zy17 = 0 ∨ gy17 ≠ b13))) Kw21)
                      have B77 := (Bx.kz (Bx.md Fw14_2 Mw15) Kw21)
                      have B78 := (Mi.kz (Mk.mi MKw15) Kw21)
                      subst hnx3
                      refine ⟨rfl, ⟨n3, a16, vy17, zy17, gy17, (rem3.filter (· ≠ k18))⟩, ?_, ⟨hm, B76, ⟨(pv_0 (A := (fun x => w13.heap.size ≤ x)) Fw14_1)⟩, B77, B78, K_75⟩, Nat.lt_succ_self _⟩
                      repeat' first | exact trivial | refine ⟨rfl, ?_⟩
                    ·
                      replace hm := cnd_f c9 hm
                      refine sw_skip ?_
                      refine then_n ?_
                      refine sw_seq ?_
                      -- region 26 cover.go:83
                      refine sw_region [(0, 0), (1, 0)] rfl rfl rfl ?_
                      refine sd_vv rfl rfl rfl (vv_move rfl) ?_
                      refine sd_vv rfl rfl rfl (vv_assign rfl) ?_
                      refine sd_done ?_
                      refine sw_seq ?_
                      refine sw_block ?_
                      have X79 : Gr w w21 := (Gr.kz X73 Kw21)
                      have B80 := (Rd.kz (Rd.md (Rd.kz B39 Kw14 (tk2 ((pv_lt (A := (fun x => x ≠ b12)) lt1) : zp1 = 0 ∨ gp1 ≠ b12) ((pv_lt (A := (fun x => x ≠ b13)) lt1) : zp1 = 0 ∨ gp1 ≠ b13))) Mw15 (tk1 ((pv_lt (A := (fun x => x ≠ b13)) lt1) : zp1 = 0 ∨ gp1 ≠ b13))) Kw21)
                      have B81 := (Own.kz (Own.md Fw14_0 Mw15 (tk1 ((pv_0 (A := (fun x => x ≠ b13)) Fw14_1) : zy17 = 0 ∨ gy17 ≠ b13))) Kw21)
                      refine sw_loopD (α := Nat × Int) [15, 84, 85, 86, 87, 88, 89, 90, 91, 92, 93, 94, 95, 96, 97, 98, 99, 100, 101] (fun ⟨n6, a26⟩ => [(15, .int .i64 a26)]) (fun ⟨n6, a26⟩ wr => (fixN (cover_Cover_L6 x1 a6 a16 nx3 k18) n6 a26 = some r) ∧ Kz [] w21 wr) (fun ⟨n6, a26⟩ => n6) ⟨FUEL, k18⟩ ?_ ?_ ?_
                      · repeat' first | exact trivial | refine ⟨rfl, ?_⟩
                      · exact ⟨hm, Kz.refl _ _⟩
                      · clear hm; rintro ⟨n6, a26⟩ w22 ⟨hm, Kw22⟩
                        have z82 := Kw22.size
                        have hb := fix_succ hm; clear hm; obtain ⟨n6, rfl, hm⟩ := hb
                        generalize hrec6 : fixN (cover_Cover_L6 x1 a6 a16 nx3 k18) n6 = rec6 at hm
                        unfold cover_Cover_L6 at hm
                        try dsimp only at hm
                        refine sw_seq ?_
                        refine sw_seq ?_
                        -- region 27 cover.go:84
                        refine sw_region [(0, 0), (1, 0), (2, 0), (3, 0), (4, 0), (5, 0), (6, 0), (7, 0), (8, 0), (9, 0)] rfl rfl rfl ?_
                        refine sd_vv rfl rfl rfl (vv_move rfl) ?_
                        refine sd_vv rfl rfl rfl (vv_move rfl) ?_
                        refine sd_vv rfl rfl rfl (vv_mul (k := .i64) (a := 2) (b := a26) rfl rfl) ?_
                        have B83 := (Mo.kz (Mo.kz B54 Kw21) Kw22)
                        refine sd_vv rfl rfl rfl (vv_lookup (k := w64 (2 * a26)) (ks := a6) mpt_172 rfl rfl B83) ?_
                        refine sd_vv rfl rfl rfl (vv_move rfl) ?_
                        refine sd_vv rfl rfl rfl (vv_move rfl) ?_
                        refine sd_vv rfl rfl rfl (vv_mul (k := .i64) (a := 2) (b := a26) rfl rfl) ?_
                        refine sd_vv rfl rfl rfl (vv_add (k := .i64) (a := w64 (2 * a26)) (b := 1) rfl rfl) ?_
                        refine sd_vv rfl rfl rfl (vv_lookup (k := w64 ((w64 (2 * a26)) + 1)) (ks := a6) mpt_172 rfl rfl B83) ?_
                        refine sd_vv rfl rfl rfl (vv_neqL Try.underlying4 rfl rfl) ?_
                        refine sd_done ?_
                        refine sw_cond rfl (fun c10 => ?_) (fun c10 => ?_)
                        ·
                          replace hm := cnd_t c10 hm
                          refine sw_skip ?_
                          refine then_n ?_
                          refine sw_block ?_
                          refine sw_seq ?_
                          -- region 28 cover.go:85
                          refine sw_region [(0, 0), (1, 0), (2, 0)] rfl rfl rfl ?_
                          refine sd_vv rfl rfl rfl (vv_move rfl) ?_
                          refine sd_vv rfl rfl rfl (vv_mul (k := .i64) (a := a26) (b := 2) rfl rfl) ?_
                          refine sd_vv rfl rfl rfl (vv_assign rfl) ?_
                          refine sd_done ?_
                          refine sw_seq ?_
                          -- region 29 cover.go:86
                          refine sw_region [(0, 0), (1, 0), (2, 0), (3, 0)] rfl rfl rfl ?_
                          refine sd_vv rfl rfl rfl (vv_move rfl) ?_
                          refine sd_vv rfl rfl rfl (vv_move rfl) ?_
                          refine sd_vv rfl rfl rfl (vv_lookup (k := w64 (a26 * 2)) (ks := a6) mpt_172 rfl rfl B83) ?_
                          refine sd_vv rfl rfl rfl (vv_notD rfl) ?_
                          refine sd_done ?_
                          refine sw_cond rfl (fun c11 => ?_) (fun c11 => ?_)
                          ·
                            replace hm := ite_t (of_decide_eq_true c11) hm
                            -- region 30 cover.go:87
                            refine sw_region [(0, 0), (1, 0), (2, 0)] rfl rfl rfl ?_
                            refine sd_vv rfl rfl rfl (vv_move rfl) ?_
                            refine sd_vv rfl rfl rfl (vv_add (k := .i64) (a := w64 (a26 * 2)) (b := 1) rfl rfl) ?_
                            refine sd_vv rfl rfl rfl (vv_assign rfl) ?_
                            refine sd_nil ?_
                            refine block_n ?_
                            have K_84 : Kz [] w21 w22 := Kw22
                            subst hrec6
                            refine ⟨rfl, ⟨n6, w64 ((w64 (a26 * 2)) + 1)⟩, ?_, ⟨hm, K_84⟩, Nat.lt_succ_self _⟩
                            repeat' first | exact trivial | refine ⟨rfl, ?_⟩
                          ·
                            replace hm := ite_f (of_decide_eq_false c11) hm
                            refine sw_skip ?_
                            refine block_n ?_
                            have K_85 : Kz [] w21 w22 := Kw22
                            subst hrec6
                            refine ⟨rfl, ⟨n6, w64 (a26 * 2)⟩, ?_, ⟨hm, K_85⟩, Nat.lt_succ_self _⟩
                            repeat' first | exact trivial | refine ⟨rfl, ?_⟩
                        ·
                          replace hm := cnd_f c10 hm
                          refine sw_exit ?_
                          refine then_x ?_
                          refine then_x ?_
                          refine block_x ?_
                          refine then_n ?_
                          refine sw_seq ?_
                          refine sw_seq ?_
                          -- region 31 cover.go:90
                          refine sw_region [(0, 0), (1, 0), (2, 0)] rfl rfl rfl ?_
                          refine sd_vv rfl rfl rfl (vv_move rfl) ?_
                          refine sd_vv rfl rfl rfl (vv_move rfl) ?_
                          refine sd_vv rfl rfl rfl (vv_eql (a := a26) (b := k18) rfl rfl) ?_
                          refine sd_done ?_
                          refine sw_cond rfl (fun c12 => ?_) (fun c12 => ?_)
                          ·
                            replace hm := ite_t (of_decide_eq_true c12) hm
                            refine sw_exit ?_
                            refine then_x ?_
                            refine block_x ?_
                            have K_86 : Kz [(1, b12), (1, b13)] w13 w22 := (Kz.kz (Kz.kz (Kz.md Kw14 Mw15) Kw21) Kw22)
                            have B87 := (Own.kz B81 Kw22)
                            have B88 := (Bx.kz (Bx.kz (Bx.md Fw14_2 Mw15) Kw21) Kw22)
                            have B89 := (Mi.kz (Mi.kz (Mk.mi MKw15) Kw21) Kw22)
                            subst hnx3
                            refine ⟨rfl, ⟨n3, a16, vy17, zy17, gy17, (rem3.filter (· ≠ k18))⟩, ?_, ⟨hm, B87, ⟨(pv_0 (A := (fun x => w13.heap.size ≤ x)) Fw14_1)⟩, B88, B89, K_86⟩, Nat.lt_succ_self _⟩
                            repeat' first | exact trivial | refine ⟨rfl, ?_⟩
                          ·
                            replace hm := ite_f (of_decide_eq_false c12) hm
                            refine sw_skip ?_
                            refine then_n ?_
                            have X90 : Gr w w22 := (Gr.kz X79 Kw22)
                            refine sw_joinD (β := Int × List TSubset × Value × Nat × Nat) [14, 16, 105, 106, 107, 108, 109, 110, 111, 112, 113, 114, 115, 116, 117, 118, 119, 120, 121, 122, 123, 124, 125, 126] (fun ⟨a27, a28, vy29, zy29, gy29⟩ => [(14, .int .i64 a27)]) (fun ⟨a27, a28, vy29, zy29, gy29⟩ wr => (cover_Cover_J7 nx3 a26 a27 a28 = some r) ∧ Own wr zy29 gy29 47 2 vy29 (a28.map TSubset.cs) ∧ Hdn (zy29 = 0 ∨ (gy29 = gy17 ∧ zy17 ≠ 0) ∨ w22.heap.size ≤ gy29) ∧ Bx wr b12 48 [vy29] ∧ Kz [(1, b12), (zy17, gy17)] w22 wr) ?_ ?_
                            · clear hm; rintro ⟨a27, a28, vy29, zy29, gy29⟩ w23 ⟨hm, Fw23_0, Fw23_1, Fw23_2, Kw23⟩
                              have z91 := Kw23.size
                              have lt92 := Fw23_0.lth
                              have lt93 := Fw23_2.lt
                              unfold cover_Cover_J7 at hm
                              -- region 36 cover.go:97
                              refine sw_region [(0, 0), (1, 0), (2, 0), (3, 0)] rfl rfl rfl ?_
                              refine sd_vv rfl rfl rfl (vv_move rfl) ?_
                              refine sd_vv rfl rfl rfl (vv_move rfl) ?_
                              refine sd_vv rfl rfl rfl (vv_move rfl) ?_
                              have hb := bnd hm; clear hm; obtain ⟨x30, hx30, hm⟩ := hb
                              refine sd_ev rfl rfl rfl (ev_callV en_113 rfl rfl (cover_Cover_1_w a27 a26 a28 _ vy29 zy29 gy29 _ hx30 _ Fw23_2 Fw23_0 ⟨(tk1 ((pv_1 (A := (fun x => x ≠ b12)) Fw23_1 (pv_0 (A := (fun x => x ≠ b12)) Fw14_1)) : zy29 = 0 ∨ gy29 ≠ b12))⟩)) ?_
                              rintro _ w24 ⟨u24_b0_s, z24_b0_s, g24_b0_s, rfl, O24_b0_s, f24_b0_s, Bk24_0, Kw24⟩
                              have z94 := Kw24.size
                              have lt95 := O24_b0_s.lth
                              refine sd_nil ?_
                              refine block_n ?_
                              have K_96 : Kz [(1, b12), (1, b13)] w13 w24 := (Kz.kz (Kz.kz (Kz.kz (Kz.kz (Kz.md Kw14 Mw15) Kw21) Kw22) Kw23 (tk1 ((pv_0 (A := (fun x => w13.heap.size ≤ x)) Fw14_1) : zy17 = 0 ∨ w13.heap.size ≤ gy17))) Kw24 (tk1 ((pv_1 (A := (fun x => w13.heap.size ≤ x)) Fw23_1 (pv_0 (A := (fun x => w13.heap.size ≤ x)) Fw14_1)) : zy29 = 0 ∨ w13.heap.size ≤ gy29)))
                              have B97 := (Mi.kz (Mi.kz (Mi.kz (Mi.kz (Mk.mi MKw15) Kw21) Kw22) Kw23 (tk1 ((pv_0 (A := (fun x => x ≠ b13)) Fw14_1) : zy17 = 0 ∨ gy17 ≠ b13))) Kw24 (tk1 ((pv_1 (A := (fun x => x ≠ b13)) Fw23_1 (pv_0 (A := (fun x => x ≠ b13)) Fw14_1)) : zy29 = 0 ∨ gy29 ≠ b13)))
                              subst hnx3
                              refine ⟨rfl, ⟨n3, x30, u24_b0_s, z24_b0_s, g24_b0_s, (rem3.filter (· ≠ k18))⟩, ?_, ⟨hm, O24_b0_s, ⟨(pv_1 (A := (fun x => w13.heap.size ≤ x)) f24_b0_s (pv_1 (A := (fun x => w13.heap.size ≤ x)) Fw23_1 (pv_0 (A := (fun x => w13.heap.size ≤ x)) Fw14_1)))⟩, Bk24_0, B97, K_96⟩, Nat.lt_succ_self _⟩
                              repeat' first | exact trivial | refine ⟨rfl, ?_⟩
                            ·
                              refine sw_seq ?_
                              -- region 32 cover.go:93
                              refine sw_region [(0, 0), (1, 0), (2, 0), (3, 0), (4, 0)] rfl rfl rfl ?_
                              have B98 := (Bx.kz (Bx.kz B55 Kw21) Kw22)
                              refine sd_vv rfl rfl rfl (vv_loadW agg_134 rfl B98 rfl) ?_
                              refine sd_vv rfl rfl rfl (vv_move rfl) ?_
                              refine sd_vv rfl rfl rfl (vv_move rfl) ?_
                              have hb := bnd hm; clear hm; obtain ⟨x31, hx31, hm⟩ := hb
                              refine sd_ev rfl rfl rfl (ev_call en_80 rfl (cover_tree_cut_w x1.1 k18 a26 _ hx31 _)) ?_
                              rintro _ w25 ⟨rfl, Gw25⟩
                              have z99 := Gw25.size
                              refine sd_vv rfl rfl rfl (vv_assign rfl) ?_
                              refine sd_done ?_
                              have X100 : Gr w w25 := (Gr.trans X90 Gw25)
                              refine sw_joinD (β := Bool) [109, 110, 111, 112, 113, 114, 115, 116, 117, 118, 119, 120, 121] (fun a32 => [(121, .bool a32)]) (fun a32 wr => (cover_Cover_J8 a16 nx3 k18 a26 x31 a32 = some r) ∧ Kz [] w25 wr) ?_ ?_
                              · clear hm; rintro a32 w26 ⟨hm, Kw26⟩
                                have z101 := Kw26.size
                                unfold cover_Cover_J8 at hm
                                refine sw_cond rfl (fun c13 => ?_) (fun c13 => ?_)
                                ·
                                  replace hm := cnd_t c13 hm
                                  refine sw_seq ?_
                                  -- region 34 cover.go:94
                                  refine sw_region [(0, 0), (1, 0), (2, 0), (3, 0)] rfl rfl rfl ?_
                                  refine sd_vv rfl rfl rfl (vv_move rfl) ?_
                                  refine sd_vv rfl rfl rfl (vv_move rfl) ?_
                                  refine sd_vv rfl rfl rfl (vv_move rfl) ?_
                                  have B102 := (Bx.kz (Bx.gr (Bx.kz (Bx.kz (Bx.md Fw14_2 Mw15) Kw21) Kw22) Gw25) Kw26)
                                  have B103 := (Own.kz (Own.gr (Own.kz B81 Kw22) Gw25) Kw26)
                                  have hb := bnd hm; clear hm; obtain ⟨x33, hx33, hm⟩ := hb
                                  refine sd_ev rfl rfl rfl (ev_callV en_113 rfl rfl (cover_Cover_1_w k18 x31 a16 _ vy17 zy17 gy17 _ hx33 _ B102 B103 ⟨(tk1 ((pv_0 (A := (fun x => x ≠ b12)) Fw14_1) : zy17 = 0 ∨ gy17 ≠ b12))⟩)) ?_
                                  rintro _ w27 ⟨u27_b0_s, z27_b0_s, g27_b0_s, rfl, O27_b0_s, f27_b0_s, Bk27_0, Kw27⟩
                                  have z104 := Kw27.size
                                  have lt105 := O27_b0_s.lth
                                  refine sd_done ?_
                                  -- region 35 cover.go:95
                                  refine sw_region [(0, 0), (1, 0)] rfl rfl rfl ?_
                                  refine sd_vv rfl rfl rfl (vv_move rfl) ?_
                                  refine sd_vv rfl rfl rfl (vv_assign rfl) ?_
                                  refine sd_nil ?_
                                  have K_106 : Kz [(1, b12), (zy17, gy17)] w22 w27 := (Kz.kz (Kz.kz (Kz.gr (Kz.refl _ _) Gw25) Kw26) Kw27 (tk1 (tk0 : zy17 = 0 ∨ (gy17 = gy17 ∧ zy17 ≠ 0) ∨ w22.heap.size ≤ gy17)))
                                  refine ⟨rfl, ⟨x31, x33, u27_b0_s, z27_b0_s, g27_b0_s⟩, ?_, hm, O27_b0_s, ⟨(pv_1 (A := (fun x => (x = gy17 ∧ zy17 ≠ 0) ∨ w22.heap.size ≤ x)) f27_b0_s tk0)⟩, Bk27_0, K_106⟩
                                  repeat' first | exact trivial | refine ⟨rfl, ?_⟩
                                ·
                                  replace hm := cnd_f c13 hm
                                  refine sw_skip ?_
                                  have K_107 : Kz [(1, b12), (zy17, gy17)] w22 w26 := (Kz.kz (Kz.gr (Kz.refl _ _) Gw25) Kw26)
                                  have B108 := (Own.kz (Own.gr (Own.kz B81 Kw22) Gw25) Kw26)
                                  have B109 := (Bx.kz (Bx.gr (Bx.kz (Bx.kz (Bx.md Fw14_2 Mw15) Kw21) Kw22) Gw25) Kw26)
                                  refine ⟨rfl, ⟨k18, a16, vy17, zy17, gy17⟩, ?_, hm, B108, ⟨tk0⟩, B109, K_107⟩
                                  repeat' first | exact trivial | refine ⟨rfl, ?_⟩
                              ·
                                -- region 33 cover.go:93
                                refine sw_region [(0, 0), (1, 0), (2, 0), (3, 0), (4, 0), (5, 0), (6, 0), (7, 0), (8, 0), (9, 0), (10, 0), (11, 0), (12, 0)] rfl rfl rfl ?_
                                refine sd_vv rfl rfl rfl (vv_move rfl) ?_
                                refine sd_vv rfl rfl rfl (vv_neq (a := x31) (b := 0) rfl rfl) ?_
                                refine sd_split rfl rfl rfl (vv_move rfl) (fun c14 => ?_) (fun c14 => ?_)
                                ·
                                  replace hm := ite_t (of_decide_eq_true c14) hm
                                  refine sd_vv rfl rfl rfl (vv_fieldAddr fa_134_0 rfl) ?_
                                  have B110 := (Bx.gr B98 Gw25)
                                  refine sd_vv rfl rfl rfl (vv_load1 (v := bv x1.1.kind) one_5 rfl B110 rfl) ?_
                                  refine sd_vv rfl rfl rfl (vv_eqlB (p := x1.1.kind) (q := 3#8) rfl rfl) ?_
                                  refine sd_vv rfl rfl rfl (vv_pickT rfl rfl) ?_
                                  refine sd_split rfl rfl rfl (vv_move rfl) (fun c15 => ?_) (fun c15 => ?_)
                                  ·
                                    replace hm := ite_t (of_decide_eq_true c15) hm
                                    refine sd_vv rfl rfl rfl (vv_loadW agg_134 rfl B110 rfl) ?_
                                    refine sd_vv rfl rfl rfl (vv_move rfl) ?_
                                    have hb := bnd hm; clear hm; obtain ⟨x34, hx34, hm⟩ := hb
                                    refine sd_ev rfl rfl rfl (ev_call en_114 rfl (cover_tree_special_w x1.1 k18 _ hx34 _)) ?_
                                    rintro _ w28 ⟨rfl, Gw28⟩
                                    have z111 := Gw28.size
                                    refine sd_vv rfl rfl rfl (vv_not rfl) ?_
                                    refine sd_vv rfl rfl rfl (vv_pickT rfl rfl) ?_
                                    refine sd_nil ?_
                                    have K_112 : Kz [] w25 w28 := (Kz.gr (Kz.refl _ _) Gw28)
                                    refine ⟨rfl, (!x34), ?_, hm, K_112⟩
                                    repeat' first | exact trivial | refine ⟨rfl, ?_⟩
                                  ·
                                    replace hm := ite_f (of_decide_eq_false c15) hm
                                    refine sd_skip rfl rfl rfl ?_
                                    refine sd_skip rfl rfl rfl ?_
                                    refine sd_skip rfl rfl rfl ?_
                                    refine sd_skip rfl rfl rfl ?_
                                    refine sd_vv rfl rfl rfl (vv_pickF rfl rfl) ?_
                                    refine sd_nil ?_
                                    have K_113 : Kz [] w25 w25 := (Kz.refl _ _)
                                    refine ⟨rfl, false, ?_, hm, K_113⟩
                                    repeat' first | exact trivial | refine ⟨rfl, ?_⟩
                                ·
                                  replace hm := ite_f (of_decide_eq_false c14) hm
                                  refine sd_skip rfl rfl rfl ?_
                                  refine sd_skip rfl rfl rfl ?_
                                  refine sd_skip rfl rfl rfl ?_
                                  refine sd_vv rfl rfl rfl (vv_pickF rfl rfl) ?_
                                  refine sd_vv rfl rfl rfl (vv_move rfl) ?_
                                  refine sd_skip rfl rfl rfl ?_
                                  refine sd_skip rfl rfl rfl ?_
                                  refine sd_skip rfl rfl rfl ?_
                                  refine sd_skip rfl rfl rfl ?_
                                  refine sd_vv rfl rfl rfl (vv_pickF rfl rfl) ?_
                                  refine sd_nil ?_
                                  have K_114 : Kz [] w25 w25 := (Kz.refl _ _)
                                  refine ⟨rfl, false, ?_, hm, K_114⟩
                                  repeat' first | exact trivial | refine ⟨rfl, ?_⟩
                  ·
                    -- region 25 cover.go:80
                    refine sw_region [(0, 0), (1, 0), (2, 0), (3, 0), (4, 0), (5, 0), (6, 0), (7, 0), (8, 0)] rfl rfl rfl ?_
                    refine sd_vv rfl rfl rfl (vv_move rfl) ?_
                    refine sd_vv rfl rfl rfl (vv_gtr (a := k18) (b := 1) rfl rfl) ?_
                    refine sd_split rfl rfl rfl (vv_move rfl) (fun c16 => ?_) (fun c16 => ?_)
                    ·
                      replace hm := ite_t (of_decide_eq_true c16) hm
                      refine sd_vv rfl rfl rfl (vv_move rfl) ?_
                      refine sd_vv rfl rfl rfl (vv_move rfl) ?_
                      have hb := bnd hm; clear hm; obtain ⟨x35, hx35, hm⟩ := hb
                      refine sd_ev rfl rfl rfl (ev_call en_78 rfl (cover_node_sibling_w k18 _ hx35 _)) ?_
                      rintro _ w29 ⟨rfl, Gw29⟩
                      have z115 := Gw29.size
                      have B116 := (Mo.gr B54 Gw29)
                      refine sd_vv rfl rfl rfl (vv_lookup (k := x35) (ks := a6) mpt_172 rfl rfl B116) ?_
                      refine sd_vv rfl rfl rfl (vv_notD rfl) ?_
                      refine sd_vv rfl rfl rfl (vv_pickT rfl rfl) ?_
                      refine sd_nil ?_
                      have K_117 : Kz [] w15 w29 := (Kz.gr (Kz.refl _ _) Gw29)
                      refine ⟨rfl, (decide (¬ (x35 ∈ a6))), ?_, hm, K_117⟩
                      repeat' first | exact trivial | refine ⟨rfl, ?_⟩
                    ·
                      replace hm := ite_f (of_decide_eq_false c16) hm
                      refine sd_skip rfl rfl rfl ?_
                      refine sd_skip rfl rfl rfl ?_
                      refine sd_skip rfl rfl rfl ?_
                      refine sd_skip rfl rfl rfl ?_
                      refine sd_skip rfl rfl rfl ?_
                      refine sd_vv rfl rfl rfl (vv_pickF rfl rfl) ?_
                      refine sd_nil ?_
                      have K_118 : Kz [] w15 w15 := (Kz.refl _ _)
                      refine ⟨rfl, false, ?_, hm, K_118⟩
                      repeat' first | exact trivial | refine ⟨rfl, ?_⟩

set_option maxHeartbeats 2000000 in
theorem ref03_Valid_w (p0 : TScheme)  (r : Bool) (hm : ref03_Valid p0 = some r) (w : World)   :
    Calls Try.prog 59 [.agg (TScheme.cs p0).toArray].toArray w fun e w' => ∃ v, e = .returned v ∧ (v = .bool r ∧ Gr w w') := by
  unfold ref03_Valid at hm
  refine calls_of_sw (R := fun v w' => v = .bool r ∧ Gr w w') 32 Try.func59 rfl rfl rfl ?_
  refine sw_seq ?_
  -- region 0 ref.go:29
  refine sw_region [(0, 0), (1, 0)] rfl rfl rfl ?_
  refine sd_ev rfl rfl rfl (ev_box (cs := TScheme.cs p0) rfl rfl) ?_
  rintro _ w1 ⟨b1, rfl, hbw1, Bw1, Gw1⟩
  have z1 := Gw1.size
  have lt2 := Bw1.lt
  refine sd_vv rfl rfl rfl (vv_assign rfl) ?_
  refine sd_done ?_
  refine sw_seq ?_
  -- region 1 ref.go:30
  refine sw_region [(0, 0), (1, 0), (2, 0), (3, 0), (4, 0), (5, 0), (6, 0), (7, 0), (8, 0), (9, 0), (10, 0), (11, 0), (12, 0), (13, 0), (14, 0), (15, 0), (16, 0), (17, 0), (18, 0), (19, 0), (20, 0), (21, 0), (22, 0), (23, 0), (24, 0), (25, 0), (26, 0), (27, 0), (28, 0), (29, 0)] rfl rfl rfl ?_
  refine sd_vv rfl rfl rfl (vv_fieldAddr fa_45_0 rfl) ?_
  refine sd_vv rfl rfl rfl (vv_load1 (v := bv p0.Kind) one_5 rfl Bw1 rfl) ?_
  refine sd_vv rfl rfl rfl (vv_geqB (p := p0.Kind) (q := 1#8) rfl rfl) ?_
  refine sd_split rfl rfl rfl (vv_move rfl) (fun c1 => ?_) (fun c1 => ?_)
  ·
    replace hm := ite_t (of_decide_eq_true c1) hm
    refine sd_vv rfl rfl rfl (vv_fieldAddr fa_45_0 rfl) ?_
    refine sd_vv rfl rfl rfl (vv_load1 (v := bv p0.Kind) one_5 rfl Bw1 rfl) ?_
    refine sd_vv rfl rfl rfl (vv_leqB (p := p0.Kind) (q := 3#8) rfl rfl) ?_
    refine sd_vv rfl rfl rfl (vv_pickT rfl rfl) ?_
    refine sd_split rfl rfl rfl (vv_move rfl) (fun c2 => ?_) (fun c2 => ?_)
    ·
      replace hm := ite_t (of_decide_eq_true c2) hm
      refine sd_vv rfl rfl rfl (vv_fieldAddr fa_45_1 rfl) ?_
      refine sd_vv rfl rfl rfl (vv_load1 (v := .int .i64 p0.Depth) one_3 rfl Bw1 rfl) ?_
      refine sd_vv rfl rfl rfl (vv_geq (a := p0.Depth) (b := 0) rfl rfl) ?_
      refine sd_vv rfl rfl rfl (vv_pickT rfl rfl) ?_
      refine sd_split rfl rfl rfl (vv_move rfl) (fun c3 => ?_) (fun c3 => ?_)
      ·
        replace hm := ite_t (of_decide_eq_true c3) hm
        refine sd_vv rfl rfl rfl (vv_fieldAddr fa_45_1 rfl) ?_
        refine sd_vv rfl rfl rfl (vv_load1 (v := .int .i64 p0.Depth) one_3 rfl Bw1 rfl) ?_
        refine sd_vv rfl rfl rfl (vv_leq (a := p0.Depth) (b := 6) rfl rfl) ?_
        refine sd_vv rfl rfl rfl (vv_pickT rfl rfl) ?_
        refine sd_split rfl rfl rfl (vv_move rfl) (fun c4 => ?_) (fun c4 => ?_)
        ·
          replace hm := ite_t (of_decide_eq_true c4) hm
          refine sd_vv rfl rfl rfl (vv_fieldAddr fa_45_2 rfl) ?_
          refine sd_vv rfl rfl rfl (vv_load1 (v := .int .i64 p0.Degree) one_3 rfl Bw1 rfl) ?_
          refine sd_vv rfl rfl rfl (vv_eql (a := p0.Degree) (b := 0) rfl rfl) ?_
          refine sd_vv rfl rfl rfl (vv_pickT rfl rfl) ?_
          refine sd_split rfl rfl rfl (vv_move rfl) (fun c5 => ?_) (fun c5 => ?_)
          ·
            replace hm := ite_t (of_decide_eq_true c5) hm
            refine sd_vv rfl rfl rfl (vv_fieldAddr fa_45_3 rfl) ?_
            refine sd_vv rfl rfl rfl (vv_loadM (vs := TGroup.cs p0.Group) agg_43 rfl Bw1 rfl rfl) ?_
            refine sd_vv rfl rfl rfl (vv_build (cs := TGroup.cs (TGroup.mk 0#64 0#64 0#64)) bs_43 rfl rfl) ?_
            refine sd_vv rfl rfl rfl (vv_eqlS (cf := TGroup.cs) (a := p0.Group) (b := (TGroup.mk 0#64 0#64 0#64)) eqt_43 rfl rfl rfl rfl (fun h => TGroup.cs_inj h)) ?_
            refine sd_vv rfl rfl rfl (vv_pickT rfl rfl) ?_
            refine sd_vv rfl rfl rfl (vv_assign rfl) ?_
            refine sd_done ?_
            refine sw_ret ?_
            have X3 : Gr w w1 := (Gr.trans (Gr.refl w) Gw1)
            have hr := Option.some.inj hm
            subst hr
            refine ⟨_, _, rfl, res_1 rfl (rv_tmp rfl), ?_⟩
            exact ⟨rfl, X3⟩
          ·
            replace hm := ite_f (of_decide_eq_false c5) hm
            refine sd_skip rfl rfl rfl ?_
            refine sd_skip rfl rfl rfl ?_
            refine sd_skip rfl rfl rfl ?_
            refine sd_skip rfl rfl rfl ?_
            refine sd_vv rfl rfl rfl (vv_pickF rfl rfl) ?_
            refine sd_vv rfl rfl rfl (vv_assign rfl) ?_
            refine sd_done ?_
            refine sw_ret ?_
            have X4 : Gr w w1 := (Gr.trans (Gr.refl w) Gw1)
            have hr := Option.some.inj hm
            subst hr
            refine ⟨_, _, rfl, res_1 rfl (rv_tmp rfl), ?_⟩
            exact ⟨rfl, X4⟩
        ·
          replace hm := ite_f (of_decide_eq_false c4) hm
          refine sd_skip rfl rfl rfl ?_
          refine sd_skip rfl rfl rfl ?_
          refine sd_skip rfl rfl rfl ?_
          refine sd_vv rfl rfl rfl (vv_pickF rfl rfl) ?_
          refine sd_vv rfl rfl rfl (vv_move rfl) ?_
          refine sd_skip rfl rfl rfl ?_
          refine sd_skip rfl rfl rfl ?_
          refine sd_skip rfl rfl rfl ?_
          refine sd_skip rfl rfl rfl ?_
          refine sd_vv rfl rfl rfl (vv_pickF rfl rfl) ?_
          refine sd_vv rfl rfl rfl (vv_assign rfl) ?_
          refine sd_done ?_
          refine sw_ret ?_
          have X5 : Gr w w1 := (Gr.trans (Gr.refl w) Gw1)
          have hr := Option.some.inj hm
          subst hr
          refine ⟨_, _, rfl, res_1 rfl (rv_tmp rfl), ?_⟩
          exact ⟨rfl, X5⟩
      ·
        replace hm := ite_f (of_decide_eq_false c3) hm
        refine sd_skip rfl rfl rfl ?_
        refine sd_skip rfl rfl rfl ?_
        refine sd_skip rfl rfl rfl ?_
        refine sd_vv rfl rfl rfl (vv_pickF rfl rfl) ?_
        refine sd_vv rfl rfl rfl (vv_move rfl) ?_
        refine sd_skip rfl rfl rfl ?_
        refine sd_skip rfl rfl rfl ?_
        refine sd_skip rfl rfl rfl ?_
        refine sd_vv rfl rfl rfl (vv_pickF rfl rfl) ?_
        refine sd_vv rfl rfl rfl (vv_move rfl) ?_
        refine sd_skip rfl rfl rfl ?_
        refine sd_skip rfl rfl rfl ?_
        refine sd_skip rfl rfl rfl ?_
        refine sd_skip rfl rfl rfl ?_
        refine sd_vv rfl rfl rfl (vv_pickF rfl rfl) ?_
        refine sd_vv rfl rfl rfl (vv_assign rfl) ?_
        refine sd_done ?_
        refine sw_ret ?_
        have X6 : Gr w w1 := (Gr.trans (Gr.refl w) Gw1)
        have hr := Option.some.inj hm
        subst hr
        refine ⟨_, _, rfl, res_1 rfl (rv_tmp rfl), ?_⟩
        exact ⟨rfl, X6⟩
    ·
      replace hm := ite_f (of_decide_eq_false c2) hm
      refine sd_skip rfl rfl rfl ?_
      refine sd_skip rfl rfl rfl ?_
      refine sd_skip rfl rfl rfl ?_
      refine sd_vv rfl rfl rfl (vv_pickF rfl rfl) ?_
      refine sd_vv rfl rfl rfl (vv_move rfl) ?_
      refine sd_skip rfl rfl rfl ?_
      refine sd_skip rfl rfl rfl ?_
      refine sd_skip rfl rfl rfl ?_
      refine sd_vv rfl rfl rfl (vv_pickF rfl rfl) ?_
      refine sd_vv rfl rfl rfl (vv_move rfl) ?_
      refine sd_skip rfl rfl rfl ?_
      refine sd_skip rfl rfl rfl ?_
      refine sd_skip rfl rfl rfl ?_
      refine sd_vv rfl rfl rfl (vv_pickF rfl rfl) ?_
      refine sd_vv rfl rfl rfl (vv_move rfl) ?_
      refine sd_skip rfl rfl rfl ?_
      refine sd_skip rfl rfl rfl ?_
      refine sd_skip rfl rfl rfl ?_
      refine sd_skip rfl rfl rfl ?_
      refine sd_vv rfl rfl rfl (vv_pickF rfl rfl) ?_
      refine sd_vv rfl rfl rfl (vv_assign rfl) ?_
      refine sd_done ?_
      refine sw_ret ?_
      have X7 : Gr w w1 := (Gr.trans (Gr.refl w) Gw1)
      have hr := Option.some.inj hm
      subst hr
      refine ⟨_, _, rfl, res_1 rfl (rv_tmp rfl), ?_⟩
      exact ⟨rfl, X7⟩
  ·
    replace hm := ite_f (of_decide_eq_false c1) hm
    refine sd_skip rfl rfl rfl ?_
    refine sd_skip rfl rfl rfl ?_
    refine sd_skip rfl rfl rfl ?_
    refine sd_vv rfl rfl rfl (vv_pickF rfl rfl) ?_
    refine sd_vv rfl rfl rfl (vv_move rfl) ?_
    refine sd_skip rfl rfl rfl ?_
    refine sd_skip rfl rfl rfl ?_
    refine sd_skip rfl rfl rfl ?_
    refine sd_vv rfl rfl rfl (vv_pickF rfl rfl) ?_
    refine sd_vv rfl rfl rfl (vv_move rfl) ?_
    refine sd_skip rfl rfl rfl ?_
    refine sd_skip rfl rfl rfl ?_
    refine sd_skip rfl rfl rfl ?_
    refine sd_vv rfl rfl rfl (vv_pickF rfl rfl) ?_
    refine sd_vv rfl rfl rfl (vv_move rfl) ?_
    refine sd_skip rfl rfl rfl ?_
    refine sd_skip rfl rfl rfl ?_
    refine sd_skip rfl rfl rfl ?_
    refine sd_vv rfl rfl rfl (vv_pickF rfl rfl) ?_
    refine sd_vv rfl rfl rfl (vv_move rfl) ?_
    refine sd_skip rfl rfl rfl ?_
    refine sd_skip rfl rfl rfl ?_
    refine sd_skip rfl rfl rfl ?_
    refine sd_skip rfl rfl rfl ?_
    refine sd_vv rfl rfl rfl (vv_pickF rfl rfl) ?_
    refine sd_vv rfl rfl rfl (vv_assign rfl) ?_
    refine sd_done ?_
    refine sw_ret ?_
    have X8 : Gr w w1 := (Gr.trans (Gr.refl w) Gw1)
    have hr := Option.some.inj hm
    subst hr
    refine ⟨_, _, rfl, res_1 rfl (rv_tmp rfl), ?_⟩
    exact ⟨rfl, X8⟩

set_option maxHeartbeats 2000000 in
theorem ref03_Receivers_w (p0 : Int)  (r : Int) (hm : ref03_Receivers p0 = some r) (w : World)   :
    Calls Try.prog 118 [.int .i64 p0].toArray w fun e w' => ∃ v, e = .returned v ∧ (v = .int .i64 r ∧ Gr w w') := by
  unfold ref03_Receivers at hm
  refine calls_of_sw (R := fun v w' => v = .int .i64 r ∧ Gr w w') 13 Try.func118 rfl rfl rfl ?_
  refine sw_seq ?_
  -- region 0 ref.go:42
  refine sw_region [(0, 0)] rfl rfl rfl ?_
  refine sd_vv rfl rfl rfl (vv_assign rfl) ?_
  refine sd_done ?_
  refine sw_seq ?_
  -- region 1 ref.go:43
  refine sw_region [(0, 0)] rfl rfl rfl ?_
  refine sd_vv rfl rfl rfl (vv_assign rfl) ?_
  refine sd_done ?_
  refine sw_seq ?_
  refine sw_seq ?_
  -- region 2 ref.go:44
  refine sw_region [(0, 0)] rfl rfl rfl ?_
  refine sd_vv rfl rfl rfl (vv_assign rfl) ?_
  refine sd_done ?_
  refine sw_block ?_
  refine sw_loopD (α := Nat × Int × Int) [3, 4, 5, 6, 7, 8, 9, 10, 11] (fun ⟨n1, a3, a4⟩ => [(3, .int .i64 a3), (4, .int .i64 a4)]) (fun ⟨n1, a3, a4⟩ wr => (fixN (ref03_Receivers_L1 p0) n1 (a3, a4) = some r) ∧ Kz [] w wr) (fun ⟨n1, a3, a4⟩ => n1) ⟨FUEL, 1, 0⟩ ?_ ?_ ?_
  · repeat' first | exact trivial | refine ⟨rfl, ?_⟩
  · exact ⟨hm, Kz.refl _ _⟩
  · clear hm; rintro ⟨n1, a3, a4⟩ w1 ⟨hm, Kw1⟩
    have z1 := Kw1.size
    have hb := fix_succ hm; clear hm; obtain ⟨n1, rfl, hm⟩ := hb
    generalize hrec1 : fixN (ref03_Receivers_L1 p0) n1 = rec1 at hm
    unfold ref03_Receivers_L1 at hm
    try dsimp only at hm
    refine sw_seq ?_
    refine sw_seq ?_
    -- region 3 ref.go:44
    refine sw_region [(0, 0), (1, 0), (2, 0)] rfl rfl rfl ?_
    refine sd_vv rfl rfl rfl (vv_move rfl) ?_
    refine sd_vv rfl rfl rfl (vv_move rfl) ?_
    refine sd_vv rfl rfl rfl (vv_lss (a := a4) (b := p0) rfl rfl) ?_
    refine sd_done ?_
    refine sw_cond rfl (fun c1 => ?_) (fun c1 => ?_)
    ·
      replace hm := ite_t (of_decide_eq_true c1) hm
      refine sw_skip ?_
      refine then_n ?_
      refine sw_seq ?_
      refine sw_block ?_
      -- region 5 ref.go:45
      refine sw_region [(0, 0), (1, 0), (2, 0)] rfl rfl rfl ?_
      refine sd_vv rfl rfl rfl (vv_move rfl) ?_
      refine sd_vv rfl rfl rfl (vv_mul (k := .i64) (a := 2) (b := a3) rfl rfl) ?_
      refine sd_vv rfl rfl rfl (vv_assign rfl) ?_
      refine sd_nil ?_
      refine block_n ?_
      refine then_n ?_
      -- region 4 ref.go:44
      refine sw_region [(0, 0), (1, 0), (2, 0)] rfl rfl rfl ?_
      refine sd_vv rfl rfl rfl (vv_move rfl) ?_
      refine sd_vv rfl rfl rfl (vv_add (k := .i64) (a := a4) (b := 1) rfl rfl) ?_
      refine sd_vv rfl rfl rfl (vv_assign rfl) ?_
      refine sd_nil ?_
      have K_2 : Kz [] w w1 := Kw1
      subst hrec1
      refine ⟨rfl, ⟨n1, w64 (2 * a3), w64 (a4 + 1)⟩, ?_, ⟨hm, K_2⟩, Nat.lt_succ_self _⟩
      repeat' first | exact trivial | refine ⟨rfl, ?_⟩
    ·
      replace hm := ite_f (of_decide_eq_false c1) hm
      refine sw_exit ?_
      refine then_x ?_
      refine then_x ?_
      refine block_x ?_
      refine then_n ?_
      refine sw_seq ?_
      -- region 6 ref.go:47
      refine sw_region [(0, 0), (1, 0)] rfl rfl rfl ?_
      refine sd_vv rfl rfl rfl (vv_move rfl) ?_
      refine sd_vv rfl rfl rfl (vv_assign rfl) ?_
      refine sd_done ?_
      refine sw_ret ?_
      have X3 : Gr w w1 := (Gr.kz (Gr.refl w) Kw1)
      have hr := Option.some.inj hm
      subst hr
      refine ⟨_, _, rfl, res_1 rfl (rv_tmp rfl), ?_⟩
      exact ⟨rfl, X3⟩

set_option maxHeartbeats 2000000 in
theorem ref03_IsList_w (p0 : Int) (p1 : List Int) (vp1 : Value) (zp1 gp1 op1 : Nat) (r : Bool) (hm : ref03_IsList p0 p1 = some r) (w : World) (hp1 : Rd w zp1 gp1 op1 1 vp1 (p1.map ic))  :
    Calls Try.prog 57 [.int .i64 p0, vp1].toArray w fun e w' => ∃ v, e = .returned v ∧ (v = .bool r ∧ Gr w w') := by
  have lt1 := hp1.lth
  unfold ref03_IsList at hm
  refine calls_of_sw (R := fun v w' => v = .bool r ∧ Gr w w') 42 Try.func57 rfl rfl rfl ?_
  refine sw_seq ?_
  -- region 0 ref.go:150
  refine sw_region [(0, 0)] rfl rfl rfl ?_
  refine sd_vv rfl rfl rfl (vv_assign rfl) ?_
  refine sd_done ?_
  refine sw_seq ?_
  refine sw_seq ?_
  -- region 1 ref.go:151
  refine sw_region [(0, 0)] rfl rfl rfl ?_
  refine sd_vv rfl rfl rfl (vv_assign rfl) ?_
  refine sd_done ?_
  refine sw_block ?_
  refine sw_loopD (α := Nat × Int) [4, 5, 6, 7, 8, 9, 10, 11, 12, 13, 14, 15, 16, 17, 18, 19, 20, 21, 22, 23, 24, 25, 26, 27, 28, 29, 30, 31, 32, 33, 34, 35, 36, 37, 38, 39, 40, 41] (fun ⟨n1, a2⟩ => [(4, .bool false), (5, .int .i64 a2)]) (fun ⟨n1, a2⟩ wr => (fixN (ref03_IsList_L1 p0 p1) n1 a2 = some r) ∧ Kz [] w wr) (fun ⟨n1, a2⟩ => n1) ⟨FUEL, 0⟩ ?_ ?_ ?_
  · repeat' first | exact trivial | refine ⟨rfl, ?_⟩
  · exact ⟨hm, Kz.refl _ _⟩
  · clear hm; rintro ⟨n1, a2⟩ w1 ⟨hm, Kw1⟩
    have z2 := Kw1.size
    have hb := fix_succ hm; clear hm; obtain ⟨n1, rfl, hm⟩ := hb
    generalize hrec1 : fixN (ref03_IsList_L1 p0 p1) n1 = rec1 at hm
    unfold ref03_IsList_L1 at hm
    try dsimp only at hm
    refine sw_seq ?_
    refine sw_seq ?_
    -- region 2 ref.go:151
    refine sw_region [(0, 0), (1, 0), (2, 0), (3, 0)] rfl rfl rfl ?_
    refine sd_vv rfl rfl rfl (vv_move rfl) ?_
    refine sd_vv rfl rfl rfl (vv_move rfl) ?_
    have B3 := (Rd.kz hp1 Kw1)
    refine sd_vv rfl rfl rfl (vv_lenT (l := p1) (c := ic) Try.underlying61 rfl B3) ?_
    refine sd_vv rfl rfl rfl (vv_lss (a := a2) (b := (p1.length : Int)) rfl rfl) ?_
    refine sd_done ?_
    refine sw_cond rfl (fun c1 => ?_) (fun c1 => ?_)
    ·
      replace hm := ite_t (of_decide_eq_true c1) hm
      refine sw_skip ?_
      refine then_n ?_
      refine sw_seq ?_
      refine sw_block ?_
      have X4 : Gr w w1 := (Gr.kz (Gr.refl w) Kw1)
      refine sw_joinD (β := Bool) [12, 13, 14, 15, 16, 17, 18, 19, 20, 21, 22, 23, 24, 25, 26, 27, 28, 29, 30, 31, 32, 33, 34, 35, 36, 37, 38, 39, 40, 41] (fun a3 => [(41, .bool a3)]) (fun a3 wr => (ref03_IsList_J2 a2 rec1 a3 = some r) ∧ Kz [] w1 wr) ?_ ?_
      · clear hm; rintro a3 w2 ⟨hm, Kw2⟩
        have z5 := Kw2.size
        unfold ref03_IsList_J2 at hm
        refine sw_cond rfl (fun c2 => ?_) (fun c2 => ?_)
        ·
          replace hm := cnd_t c2 hm
          refine sw_seq ?_
          -- region 5 ref.go:153
          refine sw_region [(0, 0)] rfl rfl rfl ?_
          refine sd_vv rfl rfl rfl (vv_assign rfl) ?_
          refine sd_done ?_
          refine sw_ret ?_
          refine block_r ?_
          refine then_r ?_
          refine then_r ?_
          refine block_r ?_
          refine then_r ?_
          have X6 : Gr w w2 := (Gr.kz X4 Kw2)
          have hr := Option.some.inj hm
          subst hr
          refine ⟨_, _, rfl, res_1 rfl (rv_tmp rfl), ?_⟩
          exact ⟨rfl, X6⟩
        ·
          replace hm := cnd_f c2 hm
          refine sw_skip ?_
          refine block_n ?_
          refine then_n ?_
          -- region 3 ref.go:151
          refine sw_region [(0, 0), (1, 0), (2, 0)] rfl rfl rfl ?_
          refine sd_vv rfl rfl rfl (vv_move rfl) ?_
          refine sd_vv rfl rfl rfl (vv_add (k := .i64) (a := a2) (b := 1) rfl rfl) ?_
          refine sd_vv rfl rfl rfl (vv_assign rfl) ?_
          refine sd_nil ?_
          have K_7 : Kz [] w w2 := (Kz.kz Kw1 Kw2)
          subst hrec1
          refine ⟨rfl, ⟨n1, w64 (a2 + 1)⟩, ?_, ⟨hm, K_7⟩, Nat.lt_succ_self _⟩
          repeat' first | exact trivial | refine ⟨rfl, ?_⟩
      ·
        -- region 4 ref.go:152 DRAWS
        refine sw_drawN [([])] [] (.leaf [(0, 10), (1, 10), (2, 10), (3, 10), (4, 10), (5, 10), (6, 10), (7, 10), (8, 10), (9, 10), (10, 10), (11, 0), (12, 10), (13, 10), (14, 10), (15, 10), (16, 10), (17, 10), (18, 10), (19, 10), (20, 10), (21, 10), (22, 10), (23, 10), (24, 10), (25, 10), (26, 10), (27, 10), (28, 10), (29, 10)]) (by kernel_rfl) (by kernel_rfl) rfl (by kernel_rfl) ?_
        intro w3 Gw3 zw3
        refine sdz_leaf ?_
        refine dd_hn 0 rfl rfl rfl rfl (Kp.refl ([]) w3) (fun w hS => vv_move rfl) ?_
        refine dd_hn 0 rfl rfl rfl rfl (Kp.refl ([]) w3) (fun w hS => vv_move rfl) ?_
        have hb := bnd hm; clear hm; obtain ⟨y4, hy4, hm⟩ := hb
        have B8 := (Rd.gr B3 Gw3)
        refine dd_hn 0 rfl rfl rfl rfl (Kp.refl ([]) w3) (fun w hS => vv_ixT (i := a2) Try.underlying61 (one_3).siz rfl (Rd.kp B8 hS) rfl hy4) ?_
        refine dd_hn 0 rfl rfl rfl rfl (Kp.refl ([]) w3) (fun w hS => vv_el1T (q := 0) (u := .int .i64 y4) one_3 rfl (Rd.kp B8 hS) hy4 (by first | rfl | omega) rfl) ?_
        refine dd_hn 0 rfl rfl rfl rfl (Kp.refl ([]) w3) (fun w hS => vv_lss (a := y4) (b := 0) rfl rfl) ?_
        refine dd_pn 0 rfl rfl rfl rfl (Kp.refl ([]) w3) (fun w hS => vv_move rfl) (fun c3 => ?_) (fun c3 => ?_)
        ·
          replace hm := ite_t (of_decide_eq_true c3) hm
          refine dd_sn 0 rfl rfl rfl rfl (Kp.refl ([]) w3) ?_
          refine dd_sn 0 rfl rfl rfl rfl (Kp.refl ([]) w3) ?_
          refine dd_sn 0 rfl rfl rfl rfl (Kp.refl ([]) w3) ?_
          refine dd_sn 0 rfl rfl rfl rfl (Kp.refl ([]) w3) ?_
          refine dd_sn 0 rfl rfl rfl rfl (Kp.refl ([]) w3) ?_
          refine dd_sz rfl rfl rfl ?_
          refine dd_sn 0 rfl rfl rfl rfl (Kp.refl ([]) w3) ?_
          refine dd_hn 0 rfl rfl rfl rfl (Kp.refl ([]) w3) (fun w hS => vv_pickT rfl rfl) ?_
          refine dd_hn 0 rfl rfl rfl rfl (Kp.refl ([]) w3) (fun w hS => vv_move rfl) ?_
          refine dd_sn 0 rfl rfl rfl rfl (Kp.refl ([]) w3) ?_
          refine dd_sn 0 rfl rfl rfl rfl (Kp.refl ([]) w3) ?_
          refine dd_sn 0 rfl rfl rfl rfl (Kp.refl ([]) w3) ?_
          refine dd_sn 0 rfl rfl rfl rfl (Kp.refl ([]) w3) ?_
          refine dd_sn 0 rfl rfl rfl rfl (Kp.refl ([]) w3) ?_
          refine dd_sn 0 rfl rfl rfl rfl (Kp.refl ([]) w3) ?_
          refine dd_sn 0 rfl rfl rfl rfl (Kp.refl ([]) w3) ?_
          refine dd_sn 0 rfl rfl rfl rfl (Kp.refl ([]) w3) ?_
          refine dd_sn 0 rfl rfl rfl rfl (Kp.refl ([]) w3) ?_
          refine dd_sn 0 rfl rfl rfl rfl (Kp.refl ([]) w3) ?_
          refine dd_sn 0 rfl rfl rfl rfl (Kp.refl ([]) w3) ?_
          refine dd_sn 0 rfl rfl rfl rfl (Kp.refl ([]) w3) ?_
          refine dd_sn 0 rfl rfl rfl rfl (Kp.refl ([]) w3) ?_
          refine dd_sn 0 rfl rfl rfl rfl (Kp.refl ([]) w3) ?_
          refine dd_hn 0 rfl rfl rfl rfl (Kp.refl ([]) w3) (fun w hS => vv_pickT rfl rfl) ?_
          refine sd_nil ?_
          have K_9 : Kz [] w1 w3 := (Kz.gr (Kz.refl _ _) Gw3)
          refine ⟨rfl, true, ?_, hm, K_9⟩
          repeat' first | exact trivial | refine ⟨rfl, ?_⟩
        ·
          replace hm := ite_f (of_decide_eq_false c3) hm
          refine dd_hn 0 rfl rfl rfl rfl (Kp.refl ([]) w3) (fun w hS => vv_move rfl) ?_
          refine dd_hn 0 rfl rfl rfl rfl (Kp.refl ([]) w3) (fun w hS => vv_move rfl) ?_
          have hb := bnd hm; clear hm; obtain ⟨y5, hy5, hm⟩ := hb
          refine dd_hn 0 rfl rfl rfl rfl (Kp.refl ([]) w3) (fun w hS => vv_ixT (i := a2) Try.underlying61 (one_3).siz rfl (Rd.kp B8 hS) rfl hy5) ?_
          refine dd_hn 0 rfl rfl rfl rfl (Kp.refl ([]) w3) (fun w hS => vv_el1T (q := 0) (u := .int .i64 y5) one_3 rfl (Rd.kp B8 hS) hy5 (by first | rfl | omega) rfl) ?_
          refine dd_hn 0 rfl rfl rfl rfl (Kp.refl ([]) w3) (fun w hS => vv_move rfl) ?_
          have hb := bnd hm; clear hm; obtain ⟨x6, hx6, hm⟩ := hb
          refine dd_z [] rfl rfl rfl (ev_call en_118 rfl (ref03_Receivers_w p0 _ hx6 _)) ⟨fun _ => tk0, trivial⟩ ?_
          rintro _ w4 ⟨rfl, Gw4⟩
          have z10 := Gw4.size
          refine ⟨Kz.ofGr Gw4, ?_⟩
          have S11 := (Kp.gr (Kp.refl ([]) w3) Gw4)
          refine dd_hn 0 rfl rfl rfl rfl S11 (fun w hS => vv_geq (a := y5) (b := x6) rfl rfl) ?_
          refine dd_hn 0 rfl rfl rfl rfl S11 (fun w hS => vv_pickF rfl rfl) ?_
          refine dd_pn 0 rfl rfl rfl rfl S11 (fun w hS => vv_move rfl) (fun c4 => ?_) (fun c4 => ?_)
          ·
            replace hm := ite_t (of_decide_eq_true c4) hm
            refine dd_sn 0 rfl rfl rfl rfl S11 ?_
            refine dd_sn 0 rfl rfl rfl rfl S11 ?_
            refine dd_sn 0 rfl rfl rfl rfl S11 ?_
            refine dd_sn 0 rfl rfl rfl rfl S11 ?_
            refine dd_sn 0 rfl rfl rfl rfl S11 ?_
            refine dd_sn 0 rfl rfl rfl rfl S11 ?_
            refine dd_sn 0 rfl rfl rfl rfl S11 ?_
            refine dd_sn 0 rfl rfl rfl rfl S11 ?_
            refine dd_sn 0 rfl rfl rfl rfl S11 ?_
            refine dd_sn 0 rfl rfl rfl rfl S11 ?_
            refine dd_sn 0 rfl rfl rfl rfl S11 ?_
            refine dd_sn 0 rfl rfl rfl rfl S11 ?_
            refine dd_sn 0 rfl rfl rfl rfl S11 ?_
            refine dd_sn 0 rfl rfl rfl rfl S11 ?_
            refine dd_hn 0 rfl rfl rfl rfl S11 (fun w hS => vv_pickT rfl rfl) ?_
            refine sd_nil ?_
            have K_12 : Kz [] w1 w4 := (Kz.gr (Kz.gr (Kz.refl _ _) Gw3) Gw4)
            refine ⟨rfl, true, ?_, hm, K_12⟩
            repeat' first | exact trivial | refine ⟨rfl, ?_⟩
          ·
            replace hm := ite_f (of_decide_eq_false c4) hm
            refine dd_hn 0 rfl rfl rfl rfl S11 (fun w hS => vv_move rfl) ?_
            refine dd_hn 0 rfl rfl rfl rfl S11 (fun w hS => vv_gtr (a := a2) (b := 0) rfl rfl) ?_
            refine dd_pn 0 rfl rfl rfl rfl S11 (fun w hS => vv_move rfl) (fun c5 => ?_) (fun c5 => ?_)
            ·
              replace hm := ite_t (of_decide_eq_true c5) hm
              refine dd_hn 0 rfl rfl rfl rfl S11 (fun w hS => vv_move rfl) ?_
              refine dd_hn 0 rfl rfl rfl rfl S11 (fun w hS => vv_move rfl) ?_
              have hb := bnd hm; clear hm; obtain ⟨y7, hy7, hm⟩ := hb
              refine dd_hn 0 rfl rfl rfl rfl S11 (fun w hS => vv_ixT (i := a2) Try.underlying61 (one_3).siz rfl (Rd.kp B8 hS) rfl hy7) ?_
              refine dd_hn 0 rfl rfl rfl rfl S11 (fun w hS => vv_el1T (q := 0) (u := .int .i64 y7) one_3 rfl (Rd.kp B8 hS) hy7 (by first | rfl | omega) rfl) ?_
              refine dd_hn 0 rfl rfl rfl rfl S11 (fun w hS => vv_move rfl) ?_
              refine dd_hn 0 rfl rfl rfl rfl S11 (fun w hS => vv_move rfl) ?_
              refine dd_hn 0 rfl rfl rfl rfl S11 (fun w hS => vv_sub (k := .i64) (a := a2) (b := 1) rfl rfl) ?_
              have hb := bnd hm; clear hm; obtain ⟨y8, hy8, hm⟩ := hb
              refine dd_hn 0 rfl rfl rfl rfl S11 (fun w hS => vv_ixT (i := w64 (a2 - 1)) Try.underlying61 (one_3).siz rfl (Rd.kp B8 hS) rfl hy8) ?_
              refine dd_hn 0 rfl rfl rfl rfl S11 (fun w hS => vv_el1T (q := 0) (u := .int .i64 y8) one_3 rfl (Rd.kp B8 hS) hy8 (by first | rfl | omega) rfl) ?_
              refine dd_hn 0 rfl rfl rfl rfl S11 (fun w hS => vv_leq (a := y7) (b := y8) rfl rfl) ?_
              refine dd_hn 0 rfl rfl rfl rfl S11 (fun w hS => vv_pickT rfl rfl) ?_
              refine dd_hn 0 rfl rfl rfl rfl S11 (fun w hS => vv_pickF rfl rfl) ?_
              refine sd_nil ?_
              have K_13 : Kz [] w1 w4 := (Kz.gr (Kz.gr (Kz.refl _ _) Gw3) Gw4)
              refine ⟨rfl, (decide (y7 ≤ y8)), ?_, hm, K_13⟩
              repeat' first | exact trivial | refine ⟨rfl, ?_⟩
            ·
              replace hm := ite_f (of_decide_eq_false c5) hm
              refine dd_sn 0 rfl rfl rfl rfl S11 ?_
              refine dd_sn 0 rfl rfl rfl rfl S11 ?_
              refine dd_sn 0 rfl rfl rfl rfl S11 ?_
              refine dd_sn 0 rfl rfl rfl rfl S11 ?_
              refine dd_sn 0 rfl rfl rfl rfl S11 ?_
              refine dd_sn 0 rfl rfl rfl rfl S11 ?_
              refine dd_sn 0 rfl rfl rfl rfl S11 ?_
              refine dd_sn 0 rfl rfl rfl rfl S11 ?_
              refine dd_sn 0 rfl rfl rfl rfl S11 ?_
              refine dd_sn 0 rfl rfl rfl rfl S11 ?_
              refine dd_hn 0 rfl rfl rfl rfl S11 (fun w hS => vv_pickF rfl rfl) ?_
              refine dd_hn 0 rfl rfl rfl rfl S11 (fun w hS => vv_pickF rfl rfl) ?_
              refine sd_nil ?_
              have K_14 : Kz [] w1 w4 := (Kz.gr (Kz.gr (Kz.refl _ _) Gw3) Gw4)
              refine ⟨rfl, false, ?_, hm, K_14⟩
              repeat' first | exact trivial | refine ⟨rfl, ?_⟩
    ·
      replace hm := ite_f (of_decide_eq_false c1) hm
      refine sw_exit ?_
      refine then_x ?_
      refine then_x ?_
      refine block_x ?_
      refine then_n ?_
      refine sw_seq ?_
      -- region 6 ref.go:156
      refine sw_region [(0, 0)] rfl rfl rfl ?_
      refine sd_vv rfl rfl rfl (vv_assign rfl) ?_
      refine sd_done ?_
      refine sw_ret ?_
      have X15 : Gr w w1 := (Gr.kz (Gr.refl w) Kw1)
      have hr := Option.some.inj hm
      subst hr
      refine ⟨_, _, rfl, res_1 rfl (rv_tmp rfl), ?_⟩
      exact ⟨rfl, X15⟩

set_option maxHeartbeats 2000000 in
theorem ref03_Below_w (p0 : Int) (p1 : Int)  (r : Bool) (hm : ref03_Below p0 p1 = some r) (w : World)   :
    Calls Try.prog 60 [.int .i64 p0, .int .i64 p1].toArray w fun e w' => ∃ v, e = .returned v ∧ (v = .bool r ∧ Gr w w') := by
  unfold ref03_Below at hm
  refine calls_of_sw (R := fun v w' => v = .bool r ∧ Gr w w') 13 Try.func60 rfl rfl rfl ?_
  refine sw_seq ?_
  -- region 0 ref.go:64
  refine sw_region [(0, 0)] rfl rfl rfl ?_
  refine sd_vv rfl rfl rfl (vv_assign rfl) ?_
  refine sd_done ?_
  refine sw_seq ?_
  refine sw_block ?_
  refine sw_loopD (α := Nat × Int) [0, 5, 6, 7, 8, 9] (fun ⟨n1, a2⟩ => [(0, .int .i64 a2)]) (fun ⟨n1, a2⟩ wr => (fixN (ref03_Below_L1 p1) n1 a2 = some r) ∧ Kz [] w wr) (fun ⟨n1, a2⟩ => n1) ⟨FUEL, p0⟩ ?_ ?_ ?_
  · repeat' first | exact trivial | refine ⟨rfl, ?_⟩
  · exact ⟨hm, Kz.refl _ _⟩
  · clear hm; rintro ⟨n1, a2⟩ w1 ⟨hm, Kw1⟩
    have z1 := Kw1.size
    have hb := fix_succ hm; clear hm; obtain ⟨n1, rfl, hm⟩ := hb
    generalize hrec1 : fixN (ref03_Below_L1 p1) n1 = rec1 at hm
    unfold ref03_Below_L1 at hm
    try dsimp only at hm
    refine sw_seq ?_
    refine sw_seq ?_
    -- region 1 ref.go:65
    refine sw_region [(0, 0), (1, 0), (2, 0)] rfl rfl rfl ?_
    refine sd_vv rfl rfl rfl (vv_move rfl) ?_
    refine sd_vv rfl rfl rfl (vv_move rfl) ?_
    refine sd_vv rfl rfl rfl (vv_gtr (a := a2) (b := p1) rfl rfl) ?_
    refine sd_done ?_
    refine sw_cond rfl (fun c1 => ?_) (fun c1 => ?_)
    ·
      replace hm := ite_t (of_decide_eq_true c1) hm
      refine sw_skip ?_
      refine then_n ?_
      refine sw_block ?_
      -- region 2 ref.go:66
      refine sw_region [(0, 0), (1, 0), (2, 0)] rfl rfl rfl ?_
      refine sd_vv rfl rfl rfl (vv_move rfl) ?_
      have hb := bnd hm; clear hm; obtain ⟨x3, hx3, hm⟩ := hb
      refine sd_vv rfl rfl rfl (vv_quoI (a := a2) (b := 2) rfl rfl hx3) ?_
      refine sd_vv rfl rfl rfl (vv_assign rfl) ?_
      refine sd_nil ?_
      refine block_n ?_
      have K_2 : Kz [] w w1 := Kw1
      subst hrec1
      refine ⟨rfl, ⟨n1, x3⟩, ?_, ⟨hm, K_2⟩, Nat.lt_succ_self _⟩
      repeat' first | exact trivial | refine ⟨rfl, ?_⟩
    ·
      replace hm := ite_f (of_decide_eq_false c1) hm
      refine sw_exit ?_
      refine then_x ?_
      refine then_x ?_
      refine block_x ?_
      refine then_n ?_
      refine sw_seq ?_
      -- region 3 ref.go:68
      refine sw_region [(0, 0), (1, 0), (2, 0), (3, 0)] rfl rfl rfl ?_
      refine sd_vv rfl rfl rfl (vv_move rfl) ?_
      refine sd_vv rfl rfl rfl (vv_move rfl) ?_
      refine sd_vv rfl rfl rfl (vv_eql (a := a2) (b := p1) rfl rfl) ?_
      refine sd_vv rfl rfl rfl (vv_assign rfl) ?_
      refine sd_done ?_
      refine sw_ret ?_
      have X3 : Gr w w1 := (Gr.kz (Gr.refl w) Kw1)
      have hr := Option.some.inj hm
      subst hr
      refine ⟨_, _, rfl, res_1 rfl (rv_tmp rfl), ?_⟩
      exact ⟨rfl, X3⟩

set_option maxHeartbeats 2000000 in
theorem ref03_hot_w (p0 : Int) (p1 : List Int) (p2 : Int) (vp1 : Value) (zp1 gp1 op1 : Nat) (r : Bool) (hm : ref03_hot p0 p1 p2 = some r) (w : World) (hp1 : Rd w zp1 gp1 op1 1 vp1 (p1.map ic))  :
    Calls Try.prog 150 [.int .i64 p0, vp1, .int .i64 p2].toArray w fun e w' => ∃ v, e = .returned v ∧ (v = .bool r ∧ Gr w w') := by
  have lt1 := hp1.lth
  unfold ref03_hot at hm
  refine calls_of_sw (R := fun v w' => v = .bool r ∧ Gr w w') 23 Try.func150 rfl rfl rfl ?_
  refine sw_seq ?_
  -- region 0 ref.go:160
  refine sw_region [(0, 0)] rfl rfl rfl ?_
  refine sd_vv rfl rfl rfl (vv_assign rfl) ?_
  refine sd_done ?_
  refine sw_seq ?_
  refine sw_seq ?_
  -- region 1 ref.go:161
  refine sw_region [(0, 0)] rfl rfl rfl ?_
  refine sd_vv rfl rfl rfl (vv_assign rfl) ?_
  refine sd_done ?_
  refine sw_block ?_
  refine sw_loopD (α := Nat × Int) [6, 7, 8, 9, 10, 11, 12, 13, 14, 15, 16, 17, 18, 19, 20, 21, 22] (fun ⟨n1, a2⟩ => [(6, .bool false), (7, .int .i64 a2)]) (fun ⟨n1, a2⟩ wr => (fixN (ref03_hot_L1 p0 p1 p2) n1 a2 = some r) ∧ Kz [] w wr) (fun ⟨n1, a2⟩ => n1) ⟨FUEL, 0⟩ ?_ ?_ ?_
  · repeat' first | exact trivial | refine ⟨rfl, ?_⟩
  · exact ⟨hm, Kz.refl _ _⟩
  · clear hm; rintro ⟨n1, a2⟩ w1 ⟨hm, Kw1⟩
    have z2 := Kw1.size
    have hb := fix_succ hm; clear hm; obtain ⟨n1, rfl, hm⟩ := hb
    generalize hrec1 : fixN (ref03_hot_L1 p0 p1 p2) n1 = rec1 at hm
    unfold ref03_hot_L1 at hm
    try dsimp only at hm
    refine sw_seq ?_
    refine sw_seq ?_
    -- region 2 ref.go:161
    refine sw_region [(0, 0), (1, 0), (2, 0), (3, 0)] rfl rfl rfl ?_
    refine sd_vv rfl rfl rfl (vv_move rfl) ?_
    refine sd_vv rfl rfl rfl (vv_move rfl) ?_
    have B3 := (Rd.kz hp1 Kw1)
    refine sd_vv rfl rfl rfl (vv_lenT (l := p1) (c := ic) Try.underlying61 rfl B3) ?_
    refine sd_vv rfl rfl rfl (vv_lss (a := a2) (b := (p1.length : Int)) rfl rfl) ?_
    refine sd_done ?_
    refine sw_cond rfl (fun c1 => ?_) (fun c1 => ?_)
    ·
      replace hm := ite_t (of_decide_eq_true c1) hm
      refine sw_skip ?_
      refine then_n ?_
      refine sw_seq ?_
      refine sw_block ?_
      refine sw_seq ?_
      -- region 4 ref.go:162 DRAWS
      refine sw_drawN [([])] [] (.leaf [(0, 10), (2, 10), (3, 10), (4, 10), (5, 10), (7, 10), (1, 0), (6, 10), (8, 0)]) (by kernel_rfl) (by kernel_rfl) rfl (by kernel_rfl) ?_
      intro w2 Gw2 zw2
      refine sdz_leaf ?_
      refine dd_hn 0 rfl rfl rfl rfl (Kp.refl ([]) w2) (fun w hS => vv_move rfl) ?_
      refine dd_hn 0 rfl rfl rfl rfl (Kp.refl ([]) w2) (fun w hS => vv_move rfl) ?_
      refine dd_hn 0 rfl rfl rfl rfl (Kp.refl ([]) w2) (fun w hS => vv_move rfl) ?_
      have hb := bnd hm; clear hm; obtain ⟨y3, hy3, hm⟩ := hb
      have B4 := (Rd.gr B3 Gw2)
      refine dd_hn 0 rfl rfl rfl rfl (Kp.refl ([]) w2) (fun w hS => vv_ixT (i := a2) Try.underlying61 (one_3).siz rfl (Rd.kp B4 hS) rfl hy3) ?_
      refine dd_hn 0 rfl rfl rfl rfl (Kp.refl ([]) w2) (fun w hS => vv_el1T (q := 0) (u := .int .i64 y3) one_3 rfl (Rd.kp B4 hS) hy3 (by first | rfl | omega) rfl) ?_
      refine dd_hn 0 rfl rfl rfl rfl (Kp.refl ([]) w2) (fun w hS => vv_move rfl) ?_
      have hb := bnd hm; clear hm; obtain ⟨x4, hx4, hm⟩ := hb
      refine dd_z [] rfl rfl rfl (ev_call en_118 rfl (ref03_Receivers_w p0 _ hx4 _)) ⟨fun _ => tk0, trivial⟩ ?_
      rintro _ w3 ⟨rfl, Gw3⟩
      have z5 := Gw3.size
      refine ⟨Kz.ofGr Gw3, ?_⟩
      have S6 := (Kp.gr (Kp.refl ([]) w2) Gw3)
      refine dd_hn 0 rfl rfl rfl rfl S6 (fun w hS => vv_add (k := .i64) (a := x4) (b := y3) rfl rfl) ?_
      have hb := bnd hm; clear hm; obtain ⟨x5, hx5, hm⟩ := hb
      refine dd_z [] rfl rfl rfl (ev_call en_60 rfl (ref03_Below_w (w64 (x4 + y3)) p2 _ hx5 _)) ⟨fun _ => tk0, trivial⟩ ?_
      rintro _ w4 ⟨rfl, Gw4⟩
      have z7 := Gw4.size
      refine ⟨Kz.ofGr Gw4, ?_⟩
      refine sd_done ?_
      refine sw_cond rfl (fun c2 => ?_) (fun c2 => ?_)
      ·
        replace hm := cnd_t c2 hm
        refine sw_seq ?_
        -- region 5 ref.go:163
        refine sw_region [(0, 0)] rfl rfl rfl ?_
        refine sd_vv rfl rfl rfl (vv_assign rfl) ?_
        refine sd_done ?_
        refine sw_ret ?_
        refine block_r ?_
        refine then_r ?_
        refine then_r ?_
        refine block_r ?_
        refine then_r ?_
        have X8 : Gr w w4 := (Gr.trans (Gr.trans (Gr.trans (Gr.kz (Gr.refl w) Kw1) Gw2) Gw3) Gw4)
        have hr := Option.some.inj hm
        subst hr
        refine ⟨_, _, rfl, res_1 rfl (rv_tmp rfl), ?_⟩
        exact ⟨rfl, X8⟩
      ·
        replace hm := cnd_f c2 hm
        refine sw_skip ?_
        refine block_n ?_
        refine then_n ?_
        -- region 3 ref.go:161
        refine sw_region [(0, 0), (1, 0), (2, 0)] rfl rfl rfl ?_
        refine sd_vv rfl rfl rfl (vv_move rfl) ?_
        refine sd_vv rfl rfl rfl (vv_add (k := .i64) (a := a2) (b := 1) rfl rfl) ?_
        refine sd_vv rfl rfl rfl (vv_assign rfl) ?_
        refine sd_nil ?_
        have K_9 : Kz [] w w4 := (Kz.gr (Kz.gr (Kz.gr Kw1 Gw2) Gw3) Gw4)
        subst hrec1
        refine ⟨rfl, ⟨n1, w64 (a2 + 1)⟩, ?_, ⟨hm, K_9⟩, Nat.lt_succ_self _⟩
        repeat' first | exact trivial | refine ⟨rfl, ?_⟩
    ·
      replace hm := ite_f (of_decide_eq_false c1) hm
      refine sw_exit ?_
      refine then_x ?_
      refine then_x ?_
      refine block_x ?_
      refine then_n ?_
      refine sw_seq ?_
      -- region 6 ref.go:166
      refine sw_region [(0, 0)] rfl rfl rfl ?_
      refine sd_vv rfl rfl rfl (vv_assign rfl) ?_
      refine sd_done ?_
      refine sw_ret ?_
      have X10 : Gr w w1 := (Gr.kz (Gr.refl w) Kw1)
      have hr := Option.some.inj hm
      subst hr
      refine ⟨_, _, rfl, res_1 rfl (rv_tmp rfl), ?_⟩
      exact ⟨rfl, X10⟩

set_option maxHeartbeats 2000000 in
theorem ref03_foot_w (p0 : Int) (p1 : List Int) (p2 : Int) (vp1 : Value) (zp1 gp1 op1 : Nat) (r : Int) (hm : ref03_foot p0 p1 p2 = some r) (w : World) (hp1 : Rd w zp1 gp1 op1 1 vp1 (p1.map ic))  :
    Calls Try.prog 151 [.int .i64 p0, vp1, .int .i64 p2].toArray w fun e w' => ∃ v, e = .returned v ∧ (v = .int .i64 r ∧ Gr w w') := by
  have lt1 := hp1.lth
  unfold ref03_foot at hm
  refine calls_of_sw (R := fun v w' => v = .int .i64 r ∧ Gr w w') 36 Try.func151 rfl rfl rfl ?_
  refine sw_seq ?_
  -- region 0 ref.go:170
  refine sw_region [(0, 0)] rfl rfl rfl ?_
  refine sd_vv rfl rfl rfl (vv_assign rfl) ?_
  refine sd_done ?_
  refine sw_seq ?_
  refine sw_block ?_
  refine sw_loopD (α := Nat × Int) [2, 7, 8, 9, 10, 11, 12, 13, 14, 15, 16, 17, 18, 19, 20, 21, 22, 23, 24, 25, 26, 27, 28, 29, 30, 31, 32, 33, 34] (fun ⟨n1, a2⟩ => [(2, .int .i64 a2)]) (fun ⟨n1, a2⟩ wr => (fixN (ref03_foot_L1 p0 p1) n1 a2 = some r) ∧ Kz [] w wr) (fun ⟨n1, a2⟩ => n1) ⟨FUEL, p2⟩ ?_ ?_ ?_
  · repeat' first | exact trivial | refine ⟨rfl, ?_⟩
  · exact ⟨hm, Kz.refl _ _⟩
  · clear hm; rintro ⟨n1, a2⟩ w1 ⟨hm, Kw1⟩
    have z2 := Kw1.size
    have hb := fix_succ hm; clear hm; obtain ⟨n1, rfl, hm⟩ := hb
    generalize hrec1 : fixN (ref03_foot_L1 p0 p1) n1 = rec1 at hm
    unfold ref03_foot_L1 at hm
    try dsimp only at hm
    refine sw_seq ?_
    have X3 : Gr w w1 := (Gr.kz (Gr.refl w) Kw1)
    refine sw_joinD (β := Bool) [7, 8, 9, 10, 11, 12, 13, 14, 15, 16, 17, 18, 19, 20, 21, 22, 23, 24] (fun a3 => [(24, .bool a3)]) (fun a3 wr => (ref03_foot_J2 p0 p1 a2 rec1 a3 = some r) ∧ Kz [] w1 wr) ?_ ?_
    · clear hm; rintro a3 w2 ⟨hm, Kw2⟩
      have z4 := Kw2.size
      unfold ref03_foot_J2 at hm
      refine sw_cond rfl (fun c1 => ?_) (fun c1 => ?_)
      ·
        replace hm := cnd_t c1 hm
        refine sw_skip ?_
        refine then_n ?_
        refine sw_block ?_
        refine sw_seq ?_
        -- region 2 ref.go:172
        refine sw_region [(0, 0), (1, 0), (2, 0), (3, 0), (4, 0)] rfl rfl rfl ?_
        refine sd_vv rfl rfl rfl (vv_move rfl) ?_
        refine sd_vv rfl rfl rfl (vv_move rfl) ?_
        refine sd_vv rfl rfl rfl (vv_move rfl) ?_
        refine sd_vv rfl rfl rfl (vv_mul (k := .i64) (a := 2) (b := a2) rfl rfl) ?_
        have B5 := (Rd.kz (Rd.kz hp1 Kw1) Kw2)
        have hb := bnd hm; clear hm; obtain ⟨x4, hx4, hm⟩ := hb
        refine sd_ev rfl rfl rfl (ev_call en_150 rfl (ref03_hot_w p0 p1 (w64 (2 * a2)) _ _ _ _ _ hx4 _ B5)) ?_
        rintro _ w3 ⟨rfl, Gw3⟩
        have z6 := Gw3.size
        refine sd_done ?_
        refine sw_cond rfl (fun c2 => ?_) (fun c2 => ?_)
        ·
          replace hm := cnd_t c2 hm
          -- region 3 ref.go:173
          refine sw_region [(0, 0), (1, 0), (2, 0)] rfl rfl rfl ?_
          refine sd_vv rfl rfl rfl (vv_move rfl) ?_
          refine sd_vv rfl rfl rfl (vv_mul (k := .i64) (a := 2) (b := a2) rfl rfl) ?_
          refine sd_vv rfl rfl rfl (vv_assign rfl) ?_
          refine sd_nil ?_
          refine block_n ?_
          have K_7 : Kz [] w w3 := (Kz.gr (Kz.kz Kw1 Kw2) Gw3)
          subst hrec1
          refine ⟨rfl, ⟨n1, w64 (2 * a2)⟩, ?_, ⟨hm, K_7⟩, Nat.lt_succ_self _⟩
          repeat' first | exact trivial | refine ⟨rfl, ?_⟩
        ·
          replace hm := cnd_f c2 hm
          -- region 4 ref.go:175
          refine sw_region [(0, 0), (1, 0), (2, 0), (3, 0)] rfl rfl rfl ?_
          refine sd_vv rfl rfl rfl (vv_move rfl) ?_
          refine sd_vv rfl rfl rfl (vv_mul (k := .i64) (a := 2) (b := a2) rfl rfl) ?_
          refine sd_vv rfl rfl rfl (vv_add (k := .i64) (a := w64 (2 * a2)) (b := 1) rfl rfl) ?_
          refine sd_vv rfl rfl rfl (vv_assign rfl) ?_
          refine sd_nil ?_
          refine block_n ?_
          have K_8 : Kz [] w w3 := (Kz.gr (Kz.kz Kw1 Kw2) Gw3)
          subst hrec1
          refine ⟨rfl, ⟨n1, w64 ((w64 (2 * a2)) + 1)⟩, ?_, ⟨hm, K_8⟩, Nat.lt_succ_self _⟩
          repeat' first | exact trivial | refine ⟨rfl, ?_⟩
      ·
        replace hm := cnd_f c1 hm
        refine sw_exit ?_
        refine then_x ?_
        refine then_x ?_
        refine block_x ?_
        refine then_n ?_
        refine sw_seq ?_
        -- region 5 ref.go:178
        refine sw_region [(0, 0), (1, 0)] rfl rfl rfl ?_
        refine sd_vv rfl rfl rfl (vv_move rfl) ?_
        refine sd_vv rfl rfl rfl (vv_assign rfl) ?_
        refine sd_done ?_
        refine sw_ret ?_
        have X9 : Gr w w2 := (Gr.kz X3 Kw2)
        have hr := Option.some.inj hm
        subst hr
        refine ⟨_, _, rfl, res_1 rfl (rv_tmp rfl), ?_⟩
        exact ⟨rfl, X9⟩
    ·
      -- region 1 ref.go:171
      refine sw_region [(0, 0), (1, 0), (2, 0), (3, 0), (4, 0), (5, 0), (6, 0), (7, 0), (8, 0), (9, 0), (10, 0), (11, 0), (12, 0), (13, 0), (14, 0), (15, 0), (16, 0), (17, 0)] rfl rfl rfl ?_
      refine sd_vv rfl rfl rfl (vv_move rfl) ?_
      refine sd_vv rfl rfl rfl (vv_move rfl) ?_
      have hb := bnd hm; clear hm; obtain ⟨x5, hx5, hm⟩ := hb
      refine sd_ev rfl rfl rfl (ev_call en_118 rfl (ref03_Receivers_w p0 _ hx5 _)) ?_
      rintro _ w4 ⟨rfl, Gw4⟩
      have z10 := Gw4.size
      refine sd_vv rfl rfl rfl (vv_lss (a := a2) (b := x5) rfl rfl) ?_
      refine sd_split rfl rfl rfl (vv_move rfl) (fun c3 => ?_) (fun c3 => ?_)
      ·
        replace hm := ite_t (of_decide_eq_true c3) hm
        refine sd_vv rfl rfl rfl (vv_move rfl) ?_
        refine sd_vv rfl rfl rfl (vv_move rfl) ?_
        refine sd_vv rfl rfl rfl (vv_move rfl) ?_
        refine sd_vv rfl rfl rfl (vv_mul (k := .i64) (a := 2) (b := a2) rfl rfl) ?_
        have B11 := (Rd.gr (Rd.kz hp1 Kw1) Gw4)
        have hb := bnd hm; clear hm; obtain ⟨x6, hx6, hm⟩ := hb
        refine sd_ev rfl rfl rfl (ev_call en_150 rfl (ref03_hot_w p0 p1 (w64 (2 * a2)) _ _ _ _ _ hx6 _ B11)) ?_
        rintro _ w5 ⟨rfl, Gw5⟩
        have z12 := Gw5.size
        refine sd_vv rfl rfl rfl (vv_move rfl) ?_
        refine sd_vv rfl rfl rfl (vv_move rfl) ?_
        refine sd_vv rfl rfl rfl (vv_move rfl) ?_
        refine sd_vv rfl rfl rfl (vv_mul (k := .i64) (a := 2) (b := a2) rfl rfl) ?_
        refine sd_vv rfl rfl rfl (vv_add (k := .i64) (a := w64 (2 * a2)) (b := 1) rfl rfl) ?_
        have B13 := (Rd.gr B11 Gw5)
        have hb := bnd hm; clear hm; obtain ⟨x7, hx7, hm⟩ := hb
        refine sd_ev rfl rfl rfl (ev_call en_150 rfl (ref03_hot_w p0 p1 (w64 ((w64 (2 * a2)) + 1)) _ _ _ _ _ hx7 _ B13)) ?_
        rintro _ w6 ⟨rfl, Gw6⟩
        have z14 := Gw6.size
        refine sd_vv rfl rfl rfl (vv_neqL Try.underlying4 rfl rfl) ?_
        refine sd_vv rfl rfl rfl (vv_pickT rfl rfl) ?_
        refine sd_nil ?_
        have K_15 : Kz [] w1 w6 := (Kz.gr (Kz.gr (Kz.gr (Kz.refl _ _) Gw4) Gw5) Gw6)
        refine ⟨rfl, (x6 != x7), ?_, hm, K_15⟩
        repeat' first | exact trivial | refine ⟨rfl, ?_⟩
      ·
        replace hm := ite_f (of_decide_eq_false c3) hm
        refine sd_skip rfl rfl rfl ?_
        refine sd_skip rfl rfl rfl ?_
        refine sd_skip rfl rfl rfl ?_
        refine sd_skip rfl rfl rfl ?_
        refine sd_skip rfl rfl rfl ?_
        refine sd_skip rfl rfl rfl ?_
        refine sd_skip rfl rfl rfl ?_
        refine sd_skip rfl rfl rfl ?_
        refine sd_skip rfl rfl rfl ?_
        refine sd_skip rfl rfl rfl ?_
        refine sd_skip rfl rfl rfl ?_
        refine sd_skip rfl rfl rfl ?_
        refine sd_vv rfl rfl rfl (vv_pickF rfl rfl) ?_
        refine sd_nil ?_
        have K_16 : Kz [] w1 w4 := (Kz.gr (Kz.refl _ _) Gw4)
        refine ⟨rfl, false, ?_, hm, K_16⟩
        repeat' first | exact trivial | refine ⟨rfl, ?_⟩

set_option maxHeartbeats 2000000 in
theorem ref03_Node_w (p0 : Int) (p1 : Int)  (r : Bool) (hm : ref03_Node p0 p1 = some r) (w : World)   :
    Calls Try.prog 119 [.int .i64 p0, .int .i64 p1].toArray w fun e w' => ∃ v, e = .returned v ∧ (v = .bool r ∧ Gr w w') := by
  unfold ref03_Node at hm
  refine calls_of_sw (R := fun v w' => v = .bool r ∧ Gr w w') 14 Try.func119 rfl rfl rfl ?_
  refine sw_seq ?_
  -- region 0 ref.go:51
  refine sw_region [(0, 0)] rfl rfl rfl ?_
  refine sd_vv rfl rfl rfl (vv_assign rfl) ?_
  refine sd_done ?_
  refine sw_seq ?_
  -- region 1 ref.go:51
  refine sw_region [(0, 0), (1, 0), (2, 0), (3, 0), (4, 0), (5, 0), (6, 0), (7, 0), (8, 0), (9, 0)] rfl rfl rfl ?_
  refine sd_vv rfl rfl rfl (vv_move rfl) ?_
  refine sd_vv rfl rfl rfl (vv_geq (a := p1) (b := 1) rfl rfl) ?_
  refine sd_split rfl rfl rfl (vv_move rfl) (fun c1 => ?_) (fun c1 => ?_)
  ·
    replace hm := ite_t (of_decide_eq_true c1) hm
    refine sd_vv rfl rfl rfl (vv_move rfl) ?_
    refine sd_vv rfl rfl rfl (vv_move rfl) ?_
    have hb := bnd hm; clear hm; obtain ⟨x1, hx1, hm⟩ := hb
    refine sd_ev rfl rfl rfl (ev_call en_118 rfl (ref03_Receivers_w p0 _ hx1 _)) ?_
    rintro _ w1 ⟨rfl, Gw1⟩
    have z1 := Gw1.size
    refine sd_vv rfl rfl rfl (vv_mul (k := .i64) (a := 2) (b := x1) rfl rfl) ?_
    refine sd_vv rfl rfl rfl (vv_lss (a := p1) (b := w64 (2 * x1)) rfl rfl) ?_
    refine sd_vv rfl rfl rfl (vv_pickT rfl rfl) ?_
    refine sd_vv rfl rfl rfl (vv_assign rfl) ?_
    refine sd_done ?_
    refine sw_ret ?_
    have X2 : Gr w w1 := (Gr.trans (Gr.refl w) Gw1)
    have hr := Option.some.inj hm
    subst hr
    refine ⟨_, _, rfl, res_1 rfl (rv_tmp rfl), ?_⟩
    exact ⟨rfl, X2⟩
  ·
    replace hm := ite_f (of_decide_eq_false c1) hm
    refine sd_skip rfl rfl rfl ?_
    refine sd_skip rfl rfl rfl ?_
    refine sd_skip rfl rfl rfl ?_
    refine sd_skip rfl rfl rfl ?_
    refine sd_skip rfl rfl rfl ?_
    refine sd_vv rfl rfl rfl (vv_pickF rfl rfl) ?_
    refine sd_vv rfl rfl rfl (vv_assign rfl) ?_
    refine sd_done ?_
    refine sw_ret ?_
    have hr := Option.some.inj hm
    subst hr
    refine ⟨_, _, rfl, res_1 rfl (rv_tmp rfl), ?_⟩
    exact ⟨rfl, (Gr.refl w)⟩

set_option maxHeartbeats 2000000 in
theorem ref03_Level_w (p0 : Int)  (r : Int) (hm : ref03_Level p0 = some r) (w : World)   :
    Calls Try.prog 153 [.int .i64 p0].toArray w fun e w' => ∃ v, e = .returned v ∧ (v = .int .i64 r ∧ Gr w w') := by
  unfold ref03_Level at hm
  refine calls_of_sw (R := fun v w' => v = .int .i64 r ∧ Gr w w') 11 Try.func153 rfl rfl rfl ?_
  refine sw_seq ?_
  -- region 0 ref.go:54
  refine sw_region [(0, 0)] rfl rfl rfl ?_
  refine sd_vv rfl rfl rfl (vv_assign rfl) ?_
  refine sd_done ?_
  refine sw_seq ?_
  -- region 1 ref.go:55
  refine sw_region [(0, 0)] rfl rfl rfl ?_
  refine sd_vv rfl rfl rfl (vv_assign rfl) ?_
  refine sd_done ?_
  refine sw_seq ?_
  refine sw_block ?_
  refine sw_loopD (α := Nat × Int × Int) [0, 3, 4, 5, 6, 7, 8, 9] (fun ⟨n1, a3, a4⟩ => [(0, .int .i64 a3), (3, .int .i64 a4)]) (fun ⟨n1, a3, a4⟩ wr => (fixN (ref03_Level_L1) n1 (a3, a4) = some r) ∧ Kz [] w wr) (fun ⟨n1, a3, a4⟩ => n1) ⟨FUEL, p0, 0⟩ ?_ ?_ ?_
  · repeat' first | exact trivial | refine ⟨rfl, ?_⟩
  · exact ⟨hm, Kz.refl _ _⟩
  · clear hm; rintro ⟨n1, a3, a4⟩ w1 ⟨hm, Kw1⟩
    have z1 := Kw1.size
    have hb := fix_succ hm; clear hm; obtain ⟨n1, rfl, hm⟩ := hb
    generalize hrec1 : fixN (ref03_Level_L1) n1 = rec1 at hm
    unfold ref03_Level_L1 at hm
    try dsimp only at hm
    refine sw_seq ?_
    refine sw_seq ?_
    -- region 2 ref.go:56
    refine sw_region [(0, 0), (1, 0)] rfl rfl rfl ?_
    refine sd_vv rfl rfl rfl (vv_move rfl) ?_
    refine sd_vv rfl rfl rfl (vv_gtr (a := a3) (b := 1) rfl rfl) ?_
    refine sd_done ?_
    refine sw_cond rfl (fun c1 => ?_) (fun c1 => ?_)
    ·
      replace hm := ite_t (of_decide_eq_true c1) hm
      refine sw_skip ?_
      refine then_n ?_
      refine sw_block ?_
      refine sw_seq ?_
      -- region 3 ref.go:57
      refine sw_region [(0, 0), (1, 0), (2, 0)] rfl rfl rfl ?_
      refine sd_vv rfl rfl rfl (vv_move rfl) ?_
      have hb := bnd hm; clear hm; obtain ⟨x5, hx5, hm⟩ := hb
      refine sd_vv rfl rfl rfl (vv_quoI (a := a3) (b := 2) rfl rfl hx5) ?_
      refine sd_vv rfl rfl rfl (vv_assign rfl) ?_
      refine sd_done ?_
      -- region 4 ref.go:58
      refine sw_region [(0, 0), (1, 0), (2, 0)] rfl rfl rfl ?_
      refine sd_vv rfl rfl rfl (vv_move rfl) ?_
      refine sd_vv rfl rfl rfl (vv_add (k := .i64) (a := a4) (b := 1) rfl rfl) ?_
      refine sd_vv rfl rfl rfl (vv_assign rfl) ?_
      refine sd_nil ?_
      refine block_n ?_
      have K_2 : Kz [] w w1 := Kw1
      subst hrec1
      refine ⟨rfl, ⟨n1, x5, w64 (a4 + 1)⟩, ?_, ⟨hm, K_2⟩, Nat.lt_succ_self _⟩
      repeat' first | exact trivial | refine ⟨rfl, ?_⟩
    ·
      replace hm := ite_f (of_decide_eq_false c1) hm
      refine sw_exit ?_
      refine then_x ?_
      refine then_x ?_
      refine block_x ?_
      refine then_n ?_
      refine sw_seq ?_
      -- region 5 ref.go:60
      refine sw_region [(0, 0), (1, 0)] rfl rfl rfl ?_
      refine sd_vv rfl rfl rfl (vv_move rfl) ?_
      refine sd_vv rfl rfl rfl (vv_assign rfl) ?_
      refine sd_done ?_
      refine sw_ret ?_
      have X3 : Gr w w1 := (Gr.kz (Gr.refl w) Kw1)
      have hr := Option.some.inj hm
      subst hr
      refine ⟨_, _, rfl, res_1 rfl (rv_tmp rfl), ?_⟩
      exact ⟨rfl, X3⟩

set_option maxHeartbeats 2000000 in
theorem ref03_Stride_w (p0 : Int)  (r : Int) (hm : ref03_Stride p0 = some r) (w : World)   :
    Calls Try.prog 154 [.int .i64 p0].toArray w fun e w' => ∃ v, e = .returned v ∧ (v = .int .i64 r ∧ Gr w w') := by
  unfold ref03_Stride at hm
  refine calls_of_sw (R := fun v w' => v = .int .i64 r ∧ Gr w w') 12 Try.func154 rfl rfl rfl ?_
  refine sw_seq ?_
  -- region 0 ref.go:72
  refine sw_region [(0, 0)] rfl rfl rfl ?_
  refine sd_vv rfl rfl rfl (vv_assign rfl) ?_
  refine sd_done ?_
  refine sw_seq ?_
  -- region 1 ref.go:73
  refine sw_region [(0, 0)] rfl rfl rfl ?_
  refine sd_vv rfl rfl rfl (vv_assign rfl) ?_
  refine sd_done ?_
  refine sw_seq ?_
  refine sw_block ?_
  refine sw_loopD (α := Nat × Int) [3, 4, 5, 6, 7, 8, 9, 10] (fun ⟨n1, a2⟩ => [(3, .int .i64 a2)]) (fun ⟨n1, a2⟩ wr => (fixN (ref03_Stride_L1 p0) n1 a2 = some r) ∧ Kz [] w wr) (fun ⟨n1, a2⟩ => n1) ⟨FUEL, 1⟩ ?_ ?_ ?_
  · repeat' first | exact trivial | refine ⟨rfl, ?_⟩
  · exact ⟨hm, Kz.refl _ _⟩
  · clear hm; rintro ⟨n1, a2⟩ w1 ⟨hm, Kw1⟩
    have z1 := Kw1.size
    have hb := fix_succ hm; clear hm; obtain ⟨n1, rfl, hm⟩ := hb
    generalize hrec1 : fixN (ref03_Stride_L1 p0) n1 = rec1 at hm
    unfold ref03_Stride_L1 at hm
    try dsimp only at hm
    refine sw_seq ?_
    refine sw_seq ?_
    -- region 2 ref.go:74
    refine sw_region [(0, 0), (1, 0), (2, 0), (3, 0), (4, 0)] rfl rfl rfl ?_
    refine sd_vv rfl rfl rfl (vv_move rfl) ?_
    refine sd_vv rfl rfl rfl (vv_move rfl) ?_
    refine sd_vv rfl rfl rfl (vv_mul (k := .i64) (a := a2) (b := a2) rfl rfl) ?_
    refine sd_vv rfl rfl rfl (vv_move rfl) ?_
    refine sd_vv rfl rfl rfl (vv_lss (a := w64 (a2 * a2)) (b := p0) rfl rfl) ?_
    refine sd_done ?_
    refine sw_cond rfl (fun c1 => ?_) (fun c1 => ?_)
    ·
      replace hm := ite_t (of_decide_eq_true c1) hm
      refine sw_skip ?_
      refine then_n ?_
      refine sw_block ?_
      -- region 3 ref.go:75
      refine sw_region [(0, 0), (1, 0), (2, 0)] rfl rfl rfl ?_
      refine sd_vv rfl rfl rfl (vv_move rfl) ?_
      refine sd_vv rfl rfl rfl (vv_add (k := .i64) (a := a2) (b := 1) rfl rfl) ?_
      refine sd_vv rfl rfl rfl (vv_assign rfl) ?_
      refine sd_nil ?_
      refine block_n ?_
      have K_2 : Kz [] w w1 := Kw1
      subst hrec1
      refine ⟨rfl, ⟨n1, w64 (a2 + 1)⟩, ?_, ⟨hm, K_2⟩, Nat.lt_succ_self _⟩
      repeat' first | exact trivial | refine ⟨rfl, ?_⟩
    ·
      replace hm := ite_f (of_decide_eq_false c1) hm
      refine sw_exit ?_
      refine then_x ?_
      refine then_x ?_
      refine block_x ?_
      refine then_n ?_
      refine sw_seq ?_
      -- region 4 ref.go:77
      refine sw_region [(0, 0), (1, 0)] rfl rfl rfl ?_
      refine sd_vv rfl rfl rfl (vv_move rfl) ?_
      refine sd_vv rfl rfl rfl (vv_assign rfl) ?_
      refine sd_done ?_
      refine sw_ret ?_
      have X3 : Gr w w1 := (Gr.kz (Gr.refl w) Kw1)
      have hr := Option.some.inj hm
      subst hr
      refine ⟨_, _, rfl, res_1 rfl (rv_tmp rfl), ?_⟩
      exact ⟨rfl, X3⟩

set_option maxHeartbeats 2000000 in
theorem ref03_Special_w (p0 : Int) (p1 : Int)  (r : Bool) (hm : ref03_Special p0 p1 = some r) (w : World)   :
    Calls Try.prog 120 [.int .i64 p0, .int .i64 p1].toArray w fun e w' => ∃ v, e = .returned v ∧ (v = .bool r ∧ Gr w w') := by
  unfold ref03_Special at hm
  refine calls_of_sw (R := fun v w' => v = .bool r ∧ Gr w w') 11 Try.func120 rfl rfl rfl ?_
  refine sw_seq ?_
  -- region 0 ref.go:81
  refine sw_region [(0, 0)] rfl rfl rfl ?_
  refine sd_vv rfl rfl rfl (vv_assign rfl) ?_
  refine sd_done ?_
  refine sw_seq ?_
  -- region 1 ref.go:81
  refine sw_region [(0, 0), (1, 0), (2, 0), (3, 0), (4, 0), (5, 0), (6, 0)] rfl rfl rfl ?_
  refine sd_vv rfl rfl rfl (vv_move rfl) ?_
  have hb := bnd hm; clear hm; obtain ⟨x1, hx1, hm⟩ := hb
  refine sd_ev rfl rfl rfl (ev_call en_153 rfl (ref03_Level_w p1 _ hx1 _)) ?_
  rintro _ w1 ⟨rfl, Gw1⟩
  have z1 := Gw1.size
  refine sd_vv rfl rfl rfl (vv_move rfl) ?_
  have hb := bnd hm; clear hm; obtain ⟨x2, hx2, hm⟩ := hb
  refine sd_ev rfl rfl rfl (ev_call en_154 rfl (ref03_Stride_w p0 _ hx2 _)) ?_
  rintro _ w2 ⟨rfl, Gw2⟩
  have z2 := Gw2.size
  have hb := bnd hm; clear hm; obtain ⟨x3, hx3, hm⟩ := hb
  refine sd_vv rfl rfl rfl (vv_remI (a := x1) (b := x2) rfl rfl hx3) ?_
  refine sd_vv rfl rfl rfl (vv_eql (a := x3) (b := 0) rfl rfl) ?_
  refine sd_vv rfl rfl rfl (vv_assign rfl) ?_
  refine sd_done ?_
  refine sw_ret ?_
  have X3 : Gr w w2 := (Gr.trans (Gr.trans (Gr.refl w) Gw1) Gw2)
  have hr := Option.some.inj hm
  subst hr
  refine ⟨_, _, rfl, res_1 rfl (rv_tmp rfl), ?_⟩
  exact ⟨rfl, X3⟩

set_option maxHeartbeats 2000000 in
theorem ref03_Path_w (p0 : Int) (p1 : Int)  (r : List Int) (hm : ref03_Path p0 p1 = some r) (w : World)   :
    Calls Try.prog 108 [.int .i64 p0, .int .i64 p1].toArray w fun e w' => ∃ v, e = .returned v ∧ (∃ (ur0_s : Value) (zr0_s : Nat) (gr0_s : Nat), v = ur0_s ∧ Own w' zr0_s gr0_s 3 1 ur0_s (r.map ic) ∧ Hdn (zr0_s = 0 ∨ w.heap.size ≤ gr0_s) ∧ Gr w w') := by
  unfold ref03_Path at hm
  refine calls_of_sw (R := fun v w' => ∃ (ur0_s : Value) (zr0_s : Nat) (gr0_s : Nat), v = ur0_s ∧ Own w' zr0_s gr0_s 3 1 ur0_s (r.map ic) ∧ Hdn (zr0_s = 0 ∨ w.heap.size ≤ gr0_s) ∧ Gr w w') 19 Try.func108 rfl rfl rfl ?_
  refine sw_seq ?_
  -- region 0 ref.go:84
  refine sw_region [(0, 0)] rfl rfl rfl ?_
  refine sd_vv rfl rfl rfl (vv_assign rfl) ?_
  refine sd_done ?_
  refine sw_seq ?_
  -- region 1 ref.go:85
  refine sw_region [(0, 0)] rfl rfl rfl ?_
  refine sd_vv rfl rfl rfl (vv_assign rfl) ?_
  refine sd_done ?_
  refine sw_seq ?_
  refine sw_block ?_
  refine sw_loopD (α := Nat × Int × List Int × Value × Nat × Nat) [1, 5, 6, 7, 8, 9, 10, 11, 12, 13, 14] (fun ⟨n1, a4, a5, vy6, zy6, gy6⟩ => [(1, .int .i64 a4), (5, vy6)]) (fun ⟨n1, a4, a5, vy6, zy6, gy6⟩ wr => (fixN (ref03_Path_L1 p0) n1 (a4, a5) = some r) ∧ Own wr zy6 gy6 3 1 vy6 (a5.map ic) ∧ Hdn (zy6 = 0 ∨ w.heap.size ≤ gy6) ∧ Kz [] w wr) (fun ⟨n1, a4, a5, vy6, zy6, gy6⟩ => n1) ⟨FUEL, p1, [], (.slice none 0 0), 0, 0⟩ ?_ ?_ ?_
  · repeat' first | exact trivial | refine ⟨rfl, ?_⟩
  · exact ⟨hm, (own_nil _ 0 3 1), ⟨(.inl rfl)⟩, Kz.refl _ _⟩
  · clear hm; rintro ⟨n1, a4, a5, vy6, zy6, gy6⟩ w1 ⟨hm, Fw1_0, Fw1_1, Kw1⟩
    have z1 := Kw1.size
    have lt2 := Fw1_0.lth
    have hb := fix_succ hm; clear hm; obtain ⟨n1, rfl, hm⟩ := hb
    generalize hrec1 : fixN (ref03_Path_L1 p0) n1 = rec1 at hm
    unfold ref03_Path_L1 at hm
    try dsimp only at hm
    refine sw_seq ?_
    refine sw_seq ?_
    -- region 2 ref.go:86
    refine sw_region [(0, 0), (1, 0), (2, 0)] rfl rfl rfl ?_
    refine sd_vv rfl rfl rfl (vv_move rfl) ?_
    refine sd_vv rfl rfl rfl (vv_move rfl) ?_
    refine sd_vv rfl rfl rfl (vv_neq (a := a4) (b := p0) rfl rfl) ?_
    refine sd_done ?_
    refine sw_cond rfl (fun c1 => ?_) (fun c1 => ?_)
    ·
      replace hm := ite_t (of_decide_eq_true c1) hm
      refine sw_skip ?_
      refine then_n ?_
      refine sw_block ?_
      refine sw_seq ?_
      -- region 3 ref.go:87
      refine sw_region [(0, 0), (1, 0), (2, 0), (3, 0), (4, 0)] rfl rfl rfl ?_
      refine sd_vv rfl rfl rfl (vv_move rfl) ?_
      refine sd_ev rfl rfl rfl (ev_litT [a4] ic bsl_61_1 rfl rfl (ws_of rfl) rfl rfl rfl) ?_
      rintro vw2 w2 ⟨gw2, hbw2, Ow2, Gw2⟩
      have z3 := Gw2.size
      have lt4 := Ow2.lth
      refine sd_vv rfl rfl rfl (vv_move rfl) ?_
      have B5 := (Own.gr Fw1_0 Gw2)
      have hb := bnd hm; clear hm; obtain ⟨l7, hl7, hm⟩ := hb
      refine sd_ev rfl rfl rfl (ev_appT (l := [a4]) (m := a5) (c := ic) apt_61 rfl rfl Ow2 (Own.rd B5) hl7 (by decide)) ?_
      rintro vw3 w3 ⟨zw3, gw3, Ow3, Aw3, qw3, rw3⟩
      have z6 := Aw3.size
      refine sd_vv rfl rfl rfl (vv_assign rfl) ?_
      refine sd_done ?_
      -- region 4 ref.go:88
      refine sw_region [(0, 0), (1, 0), (2, 0)] rfl rfl rfl ?_
      refine sd_vv rfl rfl rfl (vv_move rfl) ?_
      have hb := bnd hm; clear hm; obtain ⟨x8, hx8, hm⟩ := hb
      refine sd_vv rfl rfl rfl (vv_quoI (a := a4) (b := 2) rfl rfl hx8) ?_
      refine sd_vv rfl rfl rfl (vv_assign rfl) ?_
      refine sd_nil ?_
      refine block_n ?_
      have K_7 : Kz [] w w3 := (Kz.ka (Kz.gr Kw1 Gw2) Aw3 (tk1 ((.inr tk0) : 1 = 0 ∨ w.heap.size ≤ gw2)))
      subst hrec1
      refine ⟨rfl, ⟨n1, x8, l7, vw3, zw3, gw3⟩, ?_, ⟨hm, Ow3, ⟨(pv_app (A := (fun x => w.heap.size ≤ x)) rw3 (.inr tk0))⟩, K_7⟩, Nat.lt_succ_self _⟩
      repeat' first | exact trivial | refine ⟨rfl, ?_⟩
    ·
      replace hm := ite_f (of_decide_eq_false c1) hm
      refine sw_exit ?_
      refine then_x ?_
      refine then_x ?_
      refine block_x ?_
      refine then_n ?_
      refine sw_seq ?_
      -- region 5 ref.go:90
      refine sw_region [(0, 0), (1, 0), (2, 0), (3, 0), (4, 0)] rfl rfl rfl ?_
      refine sd_vv rfl rfl rfl (vv_move rfl) ?_
      refine sd_ev rfl rfl rfl (ev_litT [p0] ic bsl_61_1 rfl rfl (ws_of rfl) rfl rfl rfl) ?_
      rintro vw4 w4 ⟨gw4, hbw4, Ow4, Gw4⟩
      have z8 := Gw4.size
      have lt9 := Ow4.lth
      refine sd_vv rfl rfl rfl (vv_move rfl) ?_
      have B10 := (Own.gr Fw1_0 Gw4)
      have hb := bnd hm; clear hm; obtain ⟨l9, hl9, hm⟩ := hb
      refine sd_ev rfl rfl rfl (ev_appT (l := [p0]) (m := a5) (c := ic) apt_61 rfl rfl Ow4 (Own.rd B10) hl9 (by decide)) ?_
      rintro vw5 w5 ⟨zw5, gw5, Ow5, Aw5, qw5, rw5⟩
      have z11 := Aw5.size
      refine sd_vv rfl rfl rfl (vv_assign rfl) ?_
      refine sd_done ?_
      refine sw_ret ?_
      have X12 : Gr w w5 := (Gr.ka (Gr.trans (Gr.kz (Gr.refl w) Kw1) Gw4) Aw5 (tk1 ((.inr tk0) : 1 = 0 ∨ w.heap.size ≤ gw4)))
      have hr := Option.some.inj hm
      subst hr
      refine ⟨_, _, rfl, res_1 rfl (rv_tmp rfl), ?_⟩
      exact ⟨vw5, zw5, gw5, rfl, Ow5, ⟨(pv_app (A := (fun x => w.heap.size ≤ x)) rw5 (.inr tk0))⟩, X12⟩

set_option maxHeartbeats 2000000 in
theorem ref03_between_w (p0 : Int) (p1 : Int) (p2 : Int)  (r : Int) (hm : ref03_between p0 p1 p2 = some r) (w : World)   :
    Calls Try.prog 121 [.int .i64 p0, .int .i64 p1, .int .i64 p2].toArray w fun e w' => ∃ v, e = .returned v ∧ (v = .int .i64 r ∧ Gr w w') := by
  unfold ref03_between at hm
  refine calls_of_sw (R := fun v w' => v = .int .i64 r ∧ Gr w w') 29 Try.func121 rfl rfl rfl ?_
  refine sw_seq ?_
  -- region 0 ref.go:94
  refine sw_region [(0, 0)] rfl rfl rfl ?_
  refine sd_vv rfl rfl rfl (vv_assign rfl) ?_
  refine sd_done ?_
  refine sw_seq ?_
  -- region 1 ref.go:95
  refine sw_region [(0, 0), (1, 0), (2, 0), (3, 0)] rfl rfl rfl ?_
  refine sd_vv rfl rfl rfl (vv_move rfl) ?_
  refine sd_vv rfl rfl rfl (vv_move rfl) ?_
  have hb := bnd hm; clear hm; obtain ⟨x1, hx1, hm⟩ := hb
  refine sd_ev rfl rfl rfl (ev_call en_108 rfl (ref03_Path_w p1 p2 _ hx1 _)) ?_
  rintro u1_r0_s w1 ⟨_, z1_r0_s, g1_r0_s, rfl, O1_r0_s, f1_r0_s, Gw1⟩
  have z1 := Gw1.size
  have lt2 := O1_r0_s.lth
  refine sd_vv rfl rfl rfl (vv_assign rfl) ?_
  refine sd_done ?_
  refine sw_seq ?_
  refine sw_seq ?_
  -- region 2 ref.go:96
  refine sw_region [(0, 0)] rfl rfl rfl ?_
  refine sd_vv rfl rfl rfl (vv_assign rfl) ?_
  refine sd_done ?_
  refine sw_block ?_
  have X3 : Gr w w1 := (Gr.trans (Gr.refl w) Gw1)
  refine sw_loopD (α := Nat × Int) [6, 8, 12, 13, 14, 15, 16, 17, 18, 19, 20, 21, 22, 23, 24, 25, 26, 27, 28] (fun ⟨n1, a3⟩ => [(6, .int .i64 0), (8, .int .i64 a3)]) (fun ⟨n1, a3⟩ wr => (fixN (ref03_between_L1 p0 x1) n1 a3 = some r) ∧ Kz [] w1 wr) (fun ⟨n1, a3⟩ => n1) ⟨FUEL, 1⟩ ?_ ?_ ?_
  · repeat' first | exact trivial | refine ⟨rfl, ?_⟩
  · exact ⟨hm, Kz.refl _ _⟩
  · clear hm; rintro ⟨n1, a3⟩ w2 ⟨hm, Kw2⟩
    have z4 := Kw2.size
    have hb := fix_succ hm; clear hm; obtain ⟨n1, rfl, hm⟩ := hb
    generalize hrec1 : fixN (ref03_between_L1 p0 x1) n1 = rec1 at hm
    unfold ref03_between_L1 at hm
    try dsimp only at hm
    refine sw_seq ?_
    refine sw_seq ?_
    -- region 3 ref.go:96
    refine sw_region [(0, 0), (1, 0), (2, 0), (3, 0), (4, 0)] rfl rfl rfl ?_
    refine sd_vv rfl rfl rfl (vv_move rfl) ?_
    refine sd_vv rfl rfl rfl (vv_move rfl) ?_
    have B5 := (Own.kz O1_r0_s Kw2)
    refine sd_vv rfl rfl rfl (vv_lenT (l := x1) (c := ic) Try.underlying61 rfl (Own.rd B5)) ?_
    refine sd_vv rfl rfl rfl (vv_sub (k := .i64) (a := (x1.length : Int)) (b := 1) rfl rfl) ?_
    refine sd_vv rfl rfl rfl (vv_lss (a := a3) (b := w64 ((x1.length : Int) - 1)) rfl rfl) ?_
    refine sd_done ?_
    refine sw_cond rfl (fun c1 => ?_) (fun c1 => ?_)
    ·
      replace hm := ite_t (of_decide_eq_true c1) hm
      refine sw_skip ?_
      refine then_n ?_
      refine sw_seq ?_
      refine sw_block ?_
      refine sw_seq ?_
      -- region 5 ref.go:97
      refine sw_region [(0, 0), (1, 0), (2, 0), (3, 0), (4, 0), (5, 0)] rfl rfl rfl ?_
      refine sd_vv rfl rfl rfl (vv_move rfl) ?_
      refine sd_vv rfl rfl rfl (vv_move rfl) ?_
      refine sd_vv rfl rfl rfl (vv_move rfl) ?_
      have hb := bnd hm; clear hm; obtain ⟨y4, hy4, hm⟩ := hb
      refine sd_vv rfl rfl rfl (vv_ixT (i := a3) Try.underlying61 (one_3).siz rfl (Own.rd B5) rfl hy4) ?_
      refine sd_vv rfl rfl rfl (vv_el1T (q := 0) (u := .int .i64 y4) one_3 rfl (Own.rd B5) hy4 (by first | rfl | omega) rfl) ?_
      have hb := bnd hm; clear hm; obtain ⟨x5, hx5, hm⟩ := hb
      refine sd_ev rfl rfl rfl (ev_call en_120 rfl (ref03_Special_w p0 y4 _ hx5 _)) ?_
      rintro _ w3 ⟨rfl, Gw3⟩
      have z6 := Gw3.size
      refine sd_done ?_
      refine sw_cond rfl (fun c2 => ?_) (fun c2 => ?_)
      ·
        replace hm := cnd_t c2 hm
        refine sw_seq ?_
        -- region 6 ref.go:98
        refine sw_region [(0, 0), (1, 0), (2, 0), (3, 0), (4, 0)] rfl rfl rfl ?_
        refine sd_vv rfl rfl rfl (vv_move rfl) ?_
        refine sd_vv rfl rfl rfl (vv_move rfl) ?_
        have hb := bnd hm; clear hm; obtain ⟨y6, hy6, hm⟩ := hb
        have B7 := (Own.gr B5 Gw3)
        refine sd_vv rfl rfl rfl (vv_ixT (i := a3) Try.underlying61 (one_3).siz rfl (Own.rd B7) rfl hy6) ?_
        refine sd_vv rfl rfl rfl (vv_el1T (q := 0) (u := .int .i64 y6) one_3 rfl (Own.rd B7) hy6 (by first | rfl | omega) rfl) ?_
        refine sd_vv rfl rfl rfl (vv_assign rfl) ?_
        refine sd_done ?_
        refine sw_ret ?_
        refine block_r ?_
        refine then_r ?_
        refine then_r ?_
        refine block_r ?_
        refine then_r ?_
        have X8 : Gr w w3 := (Gr.trans (Gr.kz X3 Kw2) Gw3)
        have hr := Option.some.inj hm
        subst hr
        refine ⟨_, _, rfl, res_1 rfl (rv_tmp rfl), ?_⟩
        exact ⟨rfl, X8⟩
      ·
        replace hm := cnd_f c2 hm
        refine sw_skip ?_
        refine block_n ?_
        refine then_n ?_
        -- region 4 ref.go:96
        refine sw_region [(0, 0), (1, 0), (2, 0)] rfl rfl rfl ?_
        refine sd_vv rfl rfl rfl (vv_move rfl) ?_
        refine sd_vv rfl rfl rfl (vv_add (k := .i64) (a := a3) (b := 1) rfl rfl) ?_
        refine sd_vv rfl rfl rfl (vv_assign rfl) ?_
        refine sd_nil ?_
        have K_9 : Kz [] w1 w3 := (Kz.gr Kw2 Gw3)
        subst hrec1
        refine ⟨rfl, ⟨n1, w64 (a3 + 1)⟩, ?_, ⟨hm, K_9⟩, Nat.lt_succ_self _⟩
        repeat' first | exact trivial | refine ⟨rfl, ?_⟩
    ·
      replace hm := ite_f (of_decide_eq_false c1) hm
      refine sw_exit ?_
      refine then_x ?_
      refine then_x ?_
      refine block_x ?_
      refine then_n ?_
      refine sw_seq ?_
      -- region 7 ref.go:101
      refine sw_region [(0, 0)] rfl rfl rfl ?_
      refine sd_vv rfl rfl rfl (vv_assign rfl) ?_
      refine sd_done ?_
      refine sw_ret ?_
      have X10 : Gr w w2 := (Gr.kz X3 Kw2)
      have hr := Option.some.inj hm
      subst hr
      refine ⟨_, _, rfl, res_1 rfl (rv_tmp rfl), ?_⟩
      exact ⟨rfl, X10⟩

set_option maxHeartbeats 2000000 in
theorem ref03_IsSubset_w (p0 : TScheme) (p1 : TSubset)  (r : Bool) (hm : ref03_IsSubset p0 p1 = some r) (w : World)   :
    Calls Try.prog 62 [.agg (TScheme.cs p0).toArray, .agg (TSubset.cs p1).toArray].toArray w fun e w' => ∃ v, e = .returned v ∧ (v = .bool r ∧ Gr w w') := by
  unfold ref03_IsSubset at hm
  refine calls_of_sw (R := fun v w' => v = .bool r ∧ Gr w w') 64 Try.func62 rfl rfl rfl ?_
  refine sw_seq ?_
  -- region 0 ref.go:105
  refine sw_region [(0, 0), (1, 0), (2, 0)] rfl rfl rfl ?_
  refine sd_ev rfl rfl rfl (ev_box (cs := TScheme.cs p0) rfl rfl) ?_
  rintro _ w1 ⟨b1, rfl, hbw1, Bw1, Gw1⟩
  have z1 := Gw1.size
  have lt2 := Bw1.lt
  refine sd_ev rfl rfl rfl (ev_box (cs := TSubset.cs p1) rfl rfl) ?_
  rintro _ w2 ⟨b2, rfl, hbw2, Bw2, Gw2⟩
  have z3 := Gw2.size
  have lt4 := Bw2.lt
  refine sd_vv rfl rfl rfl (vv_assign rfl) ?_
  refine sd_done ?_
  refine sw_seq ?_
  refine sw_seq ?_
  -- region 1 ref.go:106
  refine sw_region [(0, 0), (1, 0), (2, 0), (3, 0), (4, 0), (5, 0)] rfl rfl rfl ?_
  refine sd_vv rfl rfl rfl (vv_fieldAddr fa_45_1 rfl) ?_
  have B5 := (Bx.gr Bw1 Gw2)
  refine sd_vv rfl rfl rfl (vv_load1 (v := .int .i64 p0.Depth) one_3 rfl B5 rfl) ?_
  refine sd_vv rfl rfl rfl (vv_fieldAddr fa_47_0 rfl) ?_
  refine sd_vv rfl rfl rfl (vv_load1 (v := .int .i64 p1.Node) one_3 rfl Bw2 rfl) ?_
  have hb := bnd hm; clear hm; obtain ⟨x1, hx1, hm⟩ := hb
  refine sd_ev rfl rfl rfl (ev_call en_119 rfl (ref03_Node_w p0.Depth p1.Node _ hx1 _)) ?_
  rintro _ w3 ⟨rfl, Gw3⟩
  have z6 := Gw3.size
  refine sd_vv rfl rfl rfl (vv_not rfl) ?_
  refine sd_done ?_
  refine sw_cond rfl (fun c1 => ?_) (fun c1 => ?_)
  ·
    replace hm := cnd_t c1 hm
    refine sw_seq ?_
    -- region 2 ref.go:107
    refine sw_region [(0, 0)] rfl rfl rfl ?_
    refine sd_vv rfl rfl rfl (vv_assign rfl) ?_
    refine sd_done ?_
    refine sw_ret ?_
    refine then_r ?_
    have X7 : Gr w w3 := (Gr.trans (Gr.trans (Gr.trans (Gr.refl w) Gw1) Gw2) Gw3)
    have hr := Option.some.inj hm
    subst hr
    refine ⟨_, _, rfl, res_1 rfl (rv_tmp rfl), ?_⟩
    exact ⟨rfl, X7⟩
  ·
    replace hm := cnd_f c1 hm
    refine sw_skip ?_
    refine then_n ?_
    refine sw_seq ?_
    refine sw_seq ?_
    -- region 3 ref.go:109
    refine sw_region [(0, 0), (1, 0), (2, 0)] rfl rfl rfl ?_
    refine sd_vv rfl rfl rfl (vv_fieldAddr fa_45_0 rfl) ?_
    have B8 := (Bx.gr B5 Gw3)
    refine sd_vv rfl rfl rfl (vv_load1 (v := bv p0.Kind) one_5 rfl B8 rfl) ?_
    refine sd_vv rfl rfl rfl (vv_eqlB (p := p0.Kind) (q := 1#8) rfl rfl) ?_
    refine sd_done ?_
    refine sw_cond rfl (fun c2 => ?_) (fun c2 => ?_)
    ·
      replace hm := ite_t (of_decide_eq_true c2) hm
      refine sw_seq ?_
      -- region 4 ref.go:110
      refine sw_region [(0, 0), (1, 0), (2, 0), (3, 0)] rfl rfl rfl ?_
      refine sd_vv rfl rfl rfl (vv_fieldAddr fa_47_1 rfl) ?_
      have B9 := (Bx.gr Bw2 Gw3)
      refine sd_vv rfl rfl rfl (vv_load1 (v := .int .i64 p1.Minus) one_3 rfl B9 rfl) ?_
      refine sd_vv rfl rfl rfl (vv_eql (a := p1.Minus) (b := 0) rfl rfl) ?_
      refine sd_vv rfl rfl rfl (vv_assign rfl) ?_
      refine sd_done ?_
      refine sw_ret ?_
      refine then_r ?_
      have X10 : Gr w w3 := (Gr.trans (Gr.trans (Gr.trans (Gr.refl w) Gw1) Gw2) Gw3)
      have hr := Option.some.inj hm
      subst hr
      refine ⟨_, _, rfl, res_1 rfl (rv_tmp rfl), ?_⟩
      exact ⟨rfl, X10⟩
    ·
      replace hm := ite_f (of_decide_eq_false c2) hm
      refine sw_skip ?_
      refine then_n ?_
      refine sw_seq ?_
      refine sw_seq ?_
      -- region 5 ref.go:112
      refine sw_region [(0, 0), (1, 0), (2, 0)] rfl rfl rfl ?_
      refine sd_vv rfl rfl rfl (vv_fieldAddr fa_47_1 rfl) ?_
      have B11 := (Bx.gr Bw2 Gw3)
      refine sd_vv rfl rfl rfl (vv_load1 (v := .int .i64 p1.Minus) one_3 rfl B11 rfl) ?_
      refine sd_vv rfl rfl rfl (vv_eql (a := p1.Minus) (b := 0) rfl rfl) ?_
      refine sd_done ?_
      refine sw_cond rfl (fun c3 => ?_) (fun c3 => ?_)
      ·
        replace hm := ite_t (of_decide_eq_true c3) hm
        refine sw_seq ?_
        -- region 6 ref.go:113
        refine sw_region [(0, 0), (1, 0), (2, 0), (3, 0)] rfl rfl rfl ?_
        refine sd_vv rfl rfl rfl (vv_fieldAddr fa_47_0 rfl) ?_
        refine sd_vv rfl rfl rfl (vv_load1 (v := .int .i64 p1.Node) one_3 rfl B11 rfl) ?_
        refine sd_vv rfl rfl rfl (vv_eql (a := p1.Node) (b := 1) rfl rfl) ?_
        refine sd_vv rfl rfl rfl (vv_assign rfl) ?_
        refine sd_done ?_
        refine sw_ret ?_
        refine then_r ?_
        have X12 : Gr w w3 := (Gr.trans (Gr.trans (Gr.trans (Gr.refl w) Gw1) Gw2) Gw3)
        have hr := Option.some.inj hm
        subst hr
        refine ⟨_, _, rfl, res_1 rfl (rv_tmp rfl), ?_⟩
        exact ⟨rfl, X12⟩
      ·
        replace hm := ite_f (of_decide_eq_false c3) hm
        refine sw_skip ?_
        refine then_n ?_
        refine sw_seq ?_
        have X13 : Gr w w3 := (Gr.trans (Gr.trans (Gr.trans (Gr.refl w) Gw1) Gw2) Gw3)
        refine sw_joinD (β := Bool) [23, 24, 25, 26, 27, 28, 29, 30, 31, 32, 33, 34, 35, 36, 37, 38, 39, 40, 41, 42, 43] (fun a2 => [(43, .bool a2)]) (fun a2 wr => (ref03_IsSubset_J1 p0 p1 a2 = some r) ∧ Kz [] w3 wr) ?_ ?_
        · clear hm; rintro a2 w4 ⟨hm, Kw4⟩
          have z14 := Kw4.size
          unfold ref03_IsSubset_J1 at hm
          refine sw_cond rfl (fun c4 => ?_) (fun c4 => ?_)
          ·
            replace hm := cnd_t c4 hm
            refine sw_seq ?_
            -- region 8 ref.go:116
            refine sw_region [(0, 0)] rfl rfl rfl ?_
            refine sd_vv rfl rfl rfl (vv_assign rfl) ?_
            refine sd_done ?_
            refine sw_ret ?_
            refine then_r ?_
            have X15 : Gr w w4 := (Gr.kz X13 Kw4)
            have hr := Option.some.inj hm
            subst hr
            refine ⟨_, _, rfl, res_1 rfl (rv_tmp rfl), ?_⟩
            exact ⟨rfl, X15⟩
          ·
            replace hm := cnd_f c4 hm
            refine sw_skip ?_
            refine then_n ?_
            refine sw_seq ?_
            -- region 9 ref.go:118
            refine sw_region [(0, 0), (1, 0), (2, 0), (3, 0), (4, 0), (5, 0), (6, 0), (7, 0), (8, 0), (9, 0), (10, 0), (11, 0), (12, 0), (13, 0), (14, 0), (15, 0), (16, 0), (17, 0), (18, 0), (19, 0), (20, 0)] rfl rfl rfl ?_
            refine sd_vv rfl rfl rfl (vv_fieldAddr fa_45_0 rfl) ?_
            have B16 := (Bx.kz B8 Kw4)
            refine sd_vv rfl rfl rfl (vv_load1 (v := bv p0.Kind) one_5 rfl B16 rfl) ?_
            refine sd_vv rfl rfl rfl (vv_eqlB (p := p0.Kind) (q := 2#8) rfl rfl) ?_
            refine sd_split rfl rfl rfl (vv_move rfl) (fun c5 => ?_) (fun c5 => ?_)
            ·
              replace hm := ite_t (of_decide_eq_true c5) hm
              refine sd_skip rfl rfl rfl ?_
              refine sd_skip rfl rfl rfl ?_
              refine sd_skip rfl rfl rfl ?_
              refine sd_skip rfl rfl rfl ?_
              refine sd_skip rfl rfl rfl ?_
              refine sd_vv rfl rfl rfl (vv_pickT rfl rfl) ?_
              refine sd_vv rfl rfl rfl (vv_move rfl) ?_
              refine sd_skip rfl rfl rfl ?_
              refine sd_skip rfl rfl rfl ?_
              refine sd_skip rfl rfl rfl ?_
              refine sd_skip rfl rfl rfl ?_
              refine sd_skip rfl rfl rfl ?_
              refine sd_skip rfl rfl rfl ?_
              refine sd_skip rfl rfl rfl ?_
              refine sd_skip rfl rfl rfl ?_
              refine sd_vv rfl rfl rfl (vv_pickT rfl rfl) ?_
              refine sd_vv rfl rfl rfl (vv_assign rfl) ?_
              refine sd_done ?_
              refine sw_ret ?_
              have X17 : Gr w w4 := (Gr.kz X13 Kw4)
              have hr := Option.some.inj hm
              subst hr
              refine ⟨_, _, rfl, res_1 rfl (rv_tmp rfl), ?_⟩
              exact ⟨rfl, X17⟩
            ·
              replace hm := ite_f (of_decide_eq_false c5) hm
              refine sd_vv rfl rfl rfl (vv_fieldAddr fa_45_1 rfl) ?_
              refine sd_vv rfl rfl rfl (vv_load1 (v := .int .i64 p0.Depth) one_3 rfl B16 rfl) ?_
              refine sd_vv rfl rfl rfl (vv_fieldAddr fa_47_0 rfl) ?_
              have B18 := (Bx.kz B11 Kw4)
              refine sd_vv rfl rfl rfl (vv_load1 (v := .int .i64 p1.Node) one_3 rfl B18 rfl) ?_
              have hb := bnd hm; clear hm; obtain ⟨x3, hx3, hm⟩ := hb
              refine sd_ev rfl rfl rfl (ev_call en_120 rfl (ref03_Special_w p0.Depth p1.Node _ hx3 _)) ?_
              rintro _ w5 ⟨rfl, Gw5⟩
              have z19 := Gw5.size
              refine sd_vv rfl rfl rfl (vv_pickF rfl rfl) ?_
              refine sd_split rfl rfl rfl (vv_move rfl) (fun c6 => ?_) (fun c6 => ?_)
              ·
                replace hm := cnd_t c6 hm
                refine sd_skip rfl rfl rfl ?_
                refine sd_skip rfl rfl rfl ?_
                refine sd_skip rfl rfl rfl ?_
                refine sd_skip rfl rfl rfl ?_
                refine sd_skip rfl rfl rfl ?_
                refine sd_skip rfl rfl rfl ?_
                refine sd_skip rfl rfl rfl ?_
                refine sd_skip rfl rfl rfl ?_
                refine sd_vv rfl rfl rfl (vv_pickT rfl rfl) ?_
                refine sd_vv rfl rfl rfl (vv_assign rfl) ?_
                refine sd_done ?_
                refine sw_ret ?_
                have X20 : Gr w w5 := (Gr.trans (Gr.kz X13 Kw4) Gw5)
                have hr := Option.some.inj hm
                subst hr
                refine ⟨_, _, rfl, res_1 rfl (rv_tmp rfl), ?_⟩
                exact ⟨rfl, X20⟩
              ·
                replace hm := cnd_f c6 hm
                refine sd_vv rfl rfl rfl (vv_fieldAddr fa_45_1 rfl) ?_
                have B21 := (Bx.gr B16 Gw5)
                refine sd_vv rfl rfl rfl (vv_load1 (v := .int .i64 p0.Depth) one_3 rfl B21 rfl) ?_
                refine sd_vv rfl rfl rfl (vv_fieldAddr fa_47_0 rfl) ?_
                have B22 := (Bx.gr B18 Gw5)
                refine sd_vv rfl rfl rfl (vv_load1 (v := .int .i64 p1.Node) one_3 rfl B22 rfl) ?_
                refine sd_vv rfl rfl rfl (vv_fieldAddr fa_47_1 rfl) ?_
                refine sd_vv rfl rfl rfl (vv_load1 (v := .int .i64 p1.Minus) one_3 rfl B22 rfl) ?_
                have hb := bnd hm; clear hm; obtain ⟨x4, hx4, hm⟩ := hb
                refine sd_ev rfl rfl rfl (ev_call en_121 rfl (ref03_between_w p0.Depth p1.Node p1.Minus _ hx4 _)) ?_
                rintro _ w6 ⟨rfl, Gw6⟩
                have z23 := Gw6.size
                refine sd_vv rfl rfl rfl (vv_eql (a := x4) (b := 0) rfl rfl) ?_
                refine sd_vv rfl rfl rfl (vv_pickF rfl rfl) ?_
                refine sd_vv rfl rfl rfl (vv_assign rfl) ?_
                refine sd_done ?_
                refine sw_ret ?_
                have X24 : Gr w w6 := (Gr.trans (Gr.trans (Gr.kz X13 Kw4) Gw5) Gw6)
                have hr := Option.some.inj hm
                subst hr
                refine ⟨_, _, rfl, res_1 rfl (rv_tmp rfl), ?_⟩
                exact ⟨rfl, X24⟩
        ·
          -- region 7 ref.go:115
          refine sw_region [(0, 0), (1, 0), (2, 0), (3, 0), (4, 0), (5, 0), (6, 0), (7, 0), (8, 0), (9, 0), (10, 0), (11, 0), (12, 0), (13, 0), (14, 0), (15, 0), (16, 0), (17, 0), (18, 0), (19, 0), (20, 0)] rfl rfl rfl ?_
          refine sd_vv rfl rfl rfl (vv_fieldAddr fa_45_1 rfl) ?_
          refine sd_vv rfl rfl rfl (vv_load1 (v := .int .i64 p0.Depth) one_3 rfl B8 rfl) ?_
          refine sd_vv rfl rfl rfl (vv_fieldAddr fa_47_1 rfl) ?_
          refine sd_vv rfl rfl rfl (vv_load1 (v := .int .i64 p1.Minus) one_3 rfl B11 rfl) ?_
          have hb := bnd hm; clear hm; obtain ⟨x5, hx5, hm⟩ := hb
          refine sd_ev rfl rfl rfl (ev_call en_119 rfl (ref03_Node_w p0.Depth p1.Minus _ hx5 _)) ?_
          rintro _ w7 ⟨rfl, Gw7⟩
          have z25 := Gw7.size
          refine sd_vv rfl rfl rfl (vv_not rfl) ?_
          refine sd_split rfl rfl rfl (vv_move rfl) (fun c7 => ?_) (fun c7 => ?_)
          ·
            replace hm := cnd_t c7 hm
            refine sd_skip rfl rfl rfl ?_
            refine sd_skip rfl rfl rfl ?_
            refine sd_skip rfl rfl rfl ?_
            refine sd_skip rfl rfl rfl ?_
            refine sd_skip rfl rfl rfl ?_
            refine sd_vv rfl rfl rfl (vv_pickT rfl rfl) ?_
            refine sd_vv rfl rfl rfl (vv_move rfl) ?_
            refine sd_skip rfl rfl rfl ?_
            refine sd_skip rfl rfl rfl ?_
            refine sd_skip rfl rfl rfl ?_
            refine sd_skip rfl rfl rfl ?_
            refine sd_skip rfl rfl rfl ?_
            refine sd_skip rfl rfl rfl ?_
            refine sd_vv rfl rfl rfl (vv_pickT rfl rfl) ?_
            refine sd_nil ?_
            have K_26 : Kz [] w3 w7 := (Kz.gr (Kz.refl _ _) Gw7)
            refine ⟨rfl, true, ?_, hm, K_26⟩
            repeat' first | exact trivial | refine ⟨rfl, ?_⟩
          ·
            replace hm := cnd_f c7 hm
            refine sd_vv rfl rfl rfl (vv_fieldAddr fa_47_1 rfl) ?_
            have B27 := (Bx.gr B11 Gw7)
            refine sd_vv rfl rfl rfl (vv_load1 (v := .int .i64 p1.Minus) one_3 rfl B27 rfl) ?_
            refine sd_vv rfl rfl rfl (vv_fieldAddr fa_47_0 rfl) ?_
            refine sd_vv rfl rfl rfl (vv_load1 (v := .int .i64 p1.Node) one_3 rfl B27 rfl) ?_
            refine sd_vv rfl rfl rfl (vv_eql (a := p1.Minus) (b := p1.Node) rfl rfl) ?_
            refine sd_vv rfl rfl rfl (vv_pickF rfl rfl) ?_
            refine sd_split rfl rfl rfl (vv_move rfl) (fun c8 => ?_) (fun c8 => ?_)
            ·
              replace hm := ite_t (of_decide_eq_true c8) hm
              refine sd_skip rfl rfl rfl ?_
              refine sd_skip rfl rfl rfl ?_
              refine sd_skip rfl rfl rfl ?_
              refine sd_skip rfl rfl rfl ?_
              refine sd_skip rfl rfl rfl ?_
              refine sd_skip rfl rfl rfl ?_
              refine sd_vv rfl rfl rfl (vv_pickT rfl rfl) ?_
              refine sd_nil ?_
              have K_28 : Kz [] w3 w7 := (Kz.gr (Kz.refl _ _) Gw7)
              refine ⟨rfl, true, ?_, hm, K_28⟩
              repeat' first | exact trivial | refine ⟨rfl, ?_⟩
            ·
              replace hm := ite_f (of_decide_eq_false c8) hm
              refine sd_vv rfl rfl rfl (vv_fieldAddr fa_47_1 rfl) ?_
              refine sd_vv rfl rfl rfl (vv_load1 (v := .int .i64 p1.Minus) one_3 rfl B27 rfl) ?_
              refine sd_vv rfl rfl rfl (vv_fieldAddr fa_47_0 rfl) ?_
              refine sd_vv rfl rfl rfl (vv_load1 (v := .int .i64 p1.Node) one_3 rfl B27 rfl) ?_
              have hb := bnd hm; clear hm; obtain ⟨x6, hx6, hm⟩ := hb
              refine sd_ev rfl rfl rfl (ev_call en_60 rfl (ref03_Below_w p1.Minus p1.Node _ hx6 _)) ?_
              rintro _ w8 ⟨rfl, Gw8⟩
              have z29 := Gw8.size
              refine sd_vv rfl rfl rfl (vv_not rfl) ?_
              refine sd_vv rfl rfl rfl (vv_pickF rfl rfl) ?_
              refine sd_nil ?_
              have K_30 : Kz [] w3 w8 := (Kz.gr (Kz.gr (Kz.refl _ _) Gw7) Gw8)
              refine ⟨rfl, (!x6), ?_, hm, K_30⟩
              repeat' first | exact trivial | refine ⟨rfl, ?_⟩

set_option maxHeartbeats 2000000 in
theorem ref03_insert_w (p0 : List TSubset) (p1 : TSubset) (vp0 : Value) (zp0 gp0 op0 : Nat) (r : List TSubset) (hm : ref03_insert p0 p1 = some r) (w : World) (hp0 : Rd w zp0 gp0 op0 2 vp0 (p0.map TSubset.cs))  :
    Calls Try.prog 152 [vp0, .agg (TSubset.cs p1).toArray].toArray w fun e w' => ∃ v, e = .returned v ∧ (∃ (ur0_s : Value) (zr0_s : Nat) (gr0_s : Nat), v = ur0_s ∧ Own w' zr0_s gr0_s 47 2 ur0_s (r.map TSubset.cs) ∧ Hdn (zr0_s = 0 ∨ w.heap.size ≤ gr0_s) ∧ Gr w w') := by
  have lt1 := hp0.lth
  unfold ref03_insert at hm
  refine calls_of_sw (R := fun v w' => ∃ (ur0_s : Value) (zr0_s : Nat) (gr0_s : Nat), v = ur0_s ∧ Own w' zr0_s gr0_s 47 2 ur0_s (r.map TSubset.cs) ∧ Hdn (zr0_s = 0 ∨ w.heap.size ≤ gr0_s) ∧ Gr w w') 37 Try.func152 rfl rfl rfl ?_
  refine sw_seq ?_
  -- region 0 ref.go:182
  refine sw_region [(0, 0), (1, 0)] rfl rfl rfl ?_
  refine sd_ev rfl rfl rfl (ev_box (cs := TSubset.cs p1) rfl rfl) ?_
  rintro _ w1 ⟨b1, rfl, hbw1, Bw1, Gw1⟩
  have z2 := Gw1.size
  have lt3 := Bw1.lt
  refine sd_vv rfl rfl rfl (vv_assign rfl) ?_
  refine sd_done ?_
  refine sw_seq ?_
  -- region 1 ref.go:183
  refine sw_region [(0, 0)] rfl rfl rfl ?_
  refine sd_vv rfl rfl rfl (vv_assign rfl) ?_
  refine sd_done ?_
  refine sw_seq ?_
  refine sw_block ?_
  have X4 : Gr w w1 := (Gr.trans (Gr.refl w) Gw1)
  have B5 := (Rd.gr hp0 Gw1)
  refine sw_loopD (α := Nat × Int) [5, 7, 8, 9, 10, 11, 12, 13, 14, 15, 16, 17, 18, 19, 20, 21, 22] (fun ⟨n1, a2⟩ => [(5, .int .i64 a2)]) (fun ⟨n1, a2⟩ wr => (fixN (ref03_insert_L1 p0 p1) n1 a2 = some r) ∧ Kz [] w1 wr) (fun ⟨n1, a2⟩ => n1) ⟨FUEL, 0⟩ ?_ ?_ ?_
  · repeat' first | exact trivial | refine ⟨rfl, ?_⟩
  · exact ⟨hm, Kz.refl _ _⟩
  · clear hm; rintro ⟨n1, a2⟩ w2 ⟨hm, Kw2⟩
    have z6 := Kw2.size
    have hb := fix_succ hm; clear hm; obtain ⟨n1, rfl, hm⟩ := hb
    generalize hrec1 : fixN (ref03_insert_L1 p0 p1) n1 = rec1 at hm
    unfold ref03_insert_L1 at hm
    try dsimp only at hm
    refine sw_seq ?_
    have X7 : Gr w w2 := (Gr.kz X4 Kw2)
    refine sw_joinD (β := Bool) [7, 8, 9, 10, 11, 12, 13, 14, 15, 16, 17, 18, 19, 20] (fun a3 => [(20, .bool a3)]) (fun a3 wr => (ref03_insert_J2 p0 p1 a2 rec1 a3 = some r) ∧ Kz [] w2 wr) ?_ ?_
    · clear hm; rintro a3 w3 ⟨hm, Kw3⟩
      have z8 := Kw3.size
      unfold ref03_insert_J2 at hm
      refine sw_cond rfl (fun c1 => ?_) (fun c1 => ?_)
      ·
        replace hm := cnd_t c1 hm
        refine sw_skip ?_
        refine then_n ?_
        refine sw_block ?_
        -- region 3 ref.go:185
        refine sw_region [(0, 0), (1, 0), (2, 0)] rfl rfl rfl ?_
        refine sd_vv rfl rfl rfl (vv_move rfl) ?_
        refine sd_vv rfl rfl rfl (vv_add (k := .i64) (a := a2) (b := 1) rfl rfl) ?_
        refine sd_vv rfl rfl rfl (vv_assign rfl) ?_
        refine sd_nil ?_
        refine block_n ?_
        have K_9 : Kz [] w1 w3 := (Kz.kz Kw2 Kw3)
        subst hrec1
        refine ⟨rfl, ⟨n1, w64 (a2 + 1)⟩, ?_, ⟨hm, K_9⟩, Nat.lt_succ_self _⟩
        repeat' first | exact trivial | refine ⟨rfl, ?_⟩
      ·
        replace hm := cnd_f c1 hm
        refine sw_exit ?_
        refine then_x ?_
        refine then_x ?_
        refine block_x ?_
        refine then_n ?_
        refine sw_seq ?_
        -- region 4 ref.go:187
        refine sw_region [(0, 0), (1, 0), (2, 0), (3, 0), (4, 0), (5, 0)] rfl rfl rfl ?_
        refine sd_ev rfl rfl rfl (ev_litT ([] : List TSubset) TSubset.cs bsl_48_0 rfl rfl (ws_of rfl) rfl rfl rfl) ?_
        rintro vw4 w4 ⟨gw4, hbw4, Ow4, Gw4⟩
        have z10 := Gw4.size
        have lt11 := Ow4.lth
        refine sd_vv rfl rfl rfl (vv_move rfl) ?_
        refine sd_vv rfl rfl rfl (vv_move rfl) ?_
        have hb := bnd hm; clear hm; obtain ⟨l4, hl4, hm⟩ := hb
        have B12 := (Rd.gr (Rd.kz (Rd.kz B5 Kw2) Kw3) Gw4)
        refine sd_sli rfl rfl rfl (vv_sliT (P := Try.prog) (lo := 0) (hi := a2) (l := p0) (c := TSubset.cs) Try.underlying48 (agg_47).siz rfl B12 rfl ⟨_, rfl⟩ hl4) ?_
        rintro v13 o13 R13
        have lt14 := R13.lth
        have hb := bnd hm; clear hm; obtain ⟨l5, hl5, hm⟩ := hb
        refine sd_ev rfl rfl rfl (ev_appT (l := ([] : List TSubset)) (m := l4) (c := TSubset.cs) apt_48 rfl rfl Ow4 R13 hl5 (by decide)) ?_
        rintro vw5 w5 ⟨zw5, gw5, Ow5, Aw5, qw5, rw5⟩
        have z15 := Aw5.size
        refine sd_vv rfl rfl rfl (vv_assign rfl) ?_
        refine sd_done ?_
        refine sw_seq ?_
        -- region 5 ref.go:188
        refine sw_region [(0, 0), (1, 0), (2, 0), (3, 0), (4, 0)] rfl rfl rfl ?_
        refine sd_vv rfl rfl rfl (vv_move rfl) ?_
        have B16 := (Bx.ka (Bx.gr (Bx.kz (Bx.kz Bw1 Kw2) Kw3) Gw4) Aw5 (tk1 ((.inr tk0) : 1 = 0 ∨ gw4 ≠ b1)))
        refine sd_vv rfl rfl rfl (vv_loadW agg_47 rfl B16 rfl) ?_
        refine sd_ev rfl rfl rfl (ev_litT [p1] TSubset.cs bsl_48_1 rfl rfl (ws_of rfl) rfl rfl rfl) ?_
        rintro vw6 w6 ⟨gw6, hbw6, Ow6, Gw6⟩
        have z17 := Gw6.size
        have lt18 := Ow6.lth
        have B19 := (Own.gr Ow5 Gw6)
        have hb := bnd hm; clear hm; obtain ⟨l6, hl6, hm⟩ := hb
        refine sd_ev rfl rfl rfl (ev_appT (l := l5) (m := [p1]) (c := TSubset.cs) apt_48 rfl rfl B19 (Own.rd Ow6) hl6 (by decide)) ?_
        rintro vw7 w7 ⟨zw7, gw7, Ow7, Aw7, qw7, rw7⟩
        have z20 := Aw7.size
        refine sd_vv rfl rfl rfl (vv_assign rfl) ?_
        refine sd_done ?_
        refine sw_seq ?_
        -- region 6 ref.go:189
        refine sw_region [(0, 0), (1, 0), (2, 0), (3, 0), (4, 0), (5, 0)] rfl rfl rfl ?_
        refine sd_vv rfl rfl rfl (vv_move rfl) ?_
        refine sd_vv rfl rfl rfl (vv_move rfl) ?_
        refine sd_vv rfl rfl rfl (vv_move rfl) ?_
        have hb := bnd hm; clear hm; obtain ⟨l7, hl7, hm⟩ := hb
        have B21 := (Rd.ka (Rd.gr (Rd.ka B12 Aw5 (tk1 ((pv_sw (.inr (tk1 lt1.o))) : zp0 = 0 ∨ 1 = 0 ∨ gp0 ≠ gw4))) Gw6) Aw7 (tk1 ((pv_sw (pv_app (A := (fun x => zp0 = 0 ∨ x ≠ gp0)) rw5 (.inr (tk1 lt1.o)) (fun x hx => (tk1 lt1.o)))) : zp0 = 0 ∨ zw5 = 0 ∨ gp0 ≠ gw5)))
        refine sd_sli rfl rfl rfl (vv_sliT (P := Try.prog) (lo := a2) (hi := (p0.length : Int)) (l := p0) (c := TSubset.cs) Try.underlying48 (agg_47).siz rfl B21 ⟨_, rfl⟩ rfl hl7) ?_
        rintro v22 o22 R22
        have lt23 := R22.lth
        have hb := bnd hm; clear hm; obtain ⟨l8, hl8, hm⟩ := hb
        refine sd_ev rfl rfl rfl (ev_appT (l := l6) (m := l7) (c := TSubset.cs) apt_48 rfl rfl Ow7 R22 hl8 (by decide)) ?_
        rintro vw8 w8 ⟨zw8, gw8, Ow8, Aw8, qw8, rw8⟩
        have z24 := Aw8.size
        refine sd_vv rfl rfl rfl (vv_assign rfl) ?_
        refine sd_done ?_
        refine sw_ret ?_
        have X25 : Gr w w8 := (Gr.ka (Gr.ka (Gr.trans (Gr.ka (Gr.trans (Gr.kz X7 Kw3) Gw4) Aw5 (tk1 ((.inr tk0) : 1 = 0 ∨ w.heap.size ≤ gw4))) Gw6) Aw7 (tk1 ((pv_app (A := (fun x => w.heap.size ≤ x)) rw5 (.inr tk0)) : zw5 = 0 ∨ w.heap.size ≤ gw5))) Aw8 (tk1 ((pv_app (A := (fun x => w.heap.size ≤ x)) rw7 (pv_app (A := (fun x => w.heap.size ≤ x)) rw5 (.inr tk0))) : zw7 = 0 ∨ w.heap.size ≤ gw7)))
        have hr := Option.some.inj hm
        subst hr
        refine ⟨_, _, rfl, res_1 rfl (rv_tmp rfl), ?_⟩
        exact ⟨vw8, zw8, gw8, rfl, Ow8, ⟨(pv_app (A := (fun x => w.heap.size ≤ x)) rw8 (pv_app (A := (fun x => w.heap.size ≤ x)) rw7 (pv_app (A := (fun x => w.heap.size ≤ x)) rw5 (.inr tk0))))⟩, X25⟩
    ·
      -- region 2 ref.go:184 DRAWS
      refine sw_drawN [([])] [] (.leaf [(0, 10), (1, 10), (2, 10), (3, 10), (4, 10), (5, 10), (6, 10), (7, 10), (8, 10), (9, 10), (10, 10), (11, 10), (12, 10), (13, 10)]) (by kernel_rfl) (by kernel_rfl) rfl (by kernel_rfl) ?_
      intro w9 Gw9 zw9
      refine sdz_leaf ?_
      refine dd_hn 0 rfl rfl rfl rfl (Kp.refl ([]) w9) (fun w hS => vv_move rfl) ?_
      refine dd_hn 0 rfl rfl rfl rfl (Kp.refl ([]) w9) (fun w hS => vv_move rfl) ?_
      have B26 := (Rd.gr (Rd.kz B5 Kw2) Gw9)
      refine dd_hn 0 rfl rfl rfl rfl (Kp.refl ([]) w9) (fun w hS => vv_lenT (l := p0) (c := TSubset.cs) Try.underlying48 rfl (Rd.kp B26 hS)) ?_
      refine dd_hn 0 rfl rfl rfl rfl (Kp.refl ([]) w9) (fun w hS => vv_lss (a := a2) (b := (p0.length : Int)) rfl rfl) ?_
      refine dd_pn 0 rfl rfl rfl rfl (Kp.refl ([]) w9) (fun w hS => vv_move rfl) (fun c2 => ?_) (fun c2 => ?_)
      ·
        replace hm := ite_t (of_decide_eq_true c2) hm
        refine dd_hn 0 rfl rfl rfl rfl (Kp.refl ([]) w9) (fun w hS => vv_move rfl) ?_
        refine dd_hn 0 rfl rfl rfl rfl (Kp.refl ([]) w9) (fun w hS => vv_move rfl) ?_
        have hb := bnd hm; clear hm; obtain ⟨y9, hy9, hm⟩ := hb
        refine dd_hn 0 rfl rfl rfl rfl (Kp.refl ([]) w9) (fun w hS => vv_ixT (i := a2) Try.underlying48 (agg_47).siz rfl (Rd.kp B26 hS) rfl hy9) ?_
        refine dd_hn 0 rfl rfl rfl rfl (Kp.refl ([]) w9) (fun w hS => vv_fieldAddr fa_47_0 rfl) ?_
        refine dd_hn 0 rfl rfl rfl rfl (Kp.refl ([]) w9) (fun w hS => vv_el1T (q := 0) (u := .int .i64 y9.Node) one_3 rfl (Rd.kp B26 hS) hy9 (by first | rfl | omega) rfl) ?_
        refine dd_hn 0 rfl rfl rfl rfl (Kp.refl ([]) w9) (fun w hS => vv_fieldAddr fa_47_0 rfl) ?_
        have B27 := (Bx.gr (Bx.kz Bw1 Kw2) Gw9)
        refine dd_hn 0 rfl rfl rfl rfl (Kp.refl ([]) w9) (fun w hS => vv_load1 (v := .int .i64 p1.Node) one_3 rfl (Bx.kp B27 hS) rfl) ?_
        refine dd_hn 0 rfl rfl rfl rfl (Kp.refl ([]) w9) (fun w hS => vv_lss (a := y9.Node) (b := p1.Node) rfl rfl) ?_
        refine dd_hn 0 rfl rfl rfl rfl (Kp.refl ([]) w9) (fun w hS => vv_pickT rfl rfl) ?_
        refine sd_nil ?_
        have K_28 : Kz [] w2 w9 := (Kz.gr (Kz.refl _ _) Gw9)
        refine ⟨rfl, (decide (y9.Node < p1.Node)), ?_, hm, K_28⟩
        repeat' first | exact trivial | refine ⟨rfl, ?_⟩
      ·
        replace hm := ite_f (of_decide_eq_false c2) hm
        refine dd_sn 0 rfl rfl rfl rfl (Kp.refl ([]) w9) ?_
        refine dd_sn 0 rfl rfl rfl rfl (Kp.refl ([]) w9) ?_
        refine dd_sn 0 rfl rfl rfl rfl (Kp.refl ([]) w9) ?_
        refine dd_sn 0 rfl rfl rfl rfl (Kp.refl ([]) w9) ?_
        refine dd_sn 0 rfl rfl rfl rfl (Kp.refl ([]) w9) ?_
        refine dd_sn 0 rfl rfl rfl rfl (Kp.refl ([]) w9) ?_
        refine dd_sn 0 rfl rfl rfl rfl (Kp.refl ([]) w9) ?_
        refine dd_sn 0 rfl rfl rfl rfl (Kp.refl ([]) w9) ?_
        refine dd_hn 0 rfl rfl rfl rfl (Kp.refl ([]) w9) (fun w hS => vv_pickF rfl rfl) ?_
        refine sd_nil ?_
        have K_29 : Kz [] w2 w9 := (Kz.gr (Kz.refl _ _) Gw9)
        refine ⟨rfl, false, ?_, hm, K_29⟩
        repeat' first | exact trivial | refine ⟨rfl, ?_⟩

set_option maxHeartbeats 2000000 in
theorem ref03_CoverOf_w (p0 : TScheme) (p1 : List Int) (vp1 : Value) (zp1 gp1 op1 : Nat) (r : List TSubset) (hm : ref03_CoverOf p0 p1 = some r) (w : World) (hp1 : Rd w zp1 gp1 op1 1 vp1 (p1.map ic))  :
    Calls Try.prog 117 [.agg (TScheme.cs p0).toArray, vp1].toArray w fun e w' => ∃ v, e = .returned v ∧ (∃ (ur0_s : Value) (zr0_s : Nat) (gr0_s : Nat), v = ur0_s ∧ Own w' zr0_s gr0_s 47 2 ur0_s (r.map TSubset.cs) ∧ Hdn (zr0_s = 0 ∨ w.heap.size ≤ gr0_s) ∧ Gr w w') := by
  have lt1 := hp1.lth
  unfold ref03_CoverOf at hm
  refine calls_of_sw (R := fun v w' => ∃ (ur0_s : Value) (zr0_s : Nat) (gr0_s : Nat), v = ur0_s ∧ Own w' zr0_s gr0_s 47 2 ur0_s (r.map TSubset.cs) ∧ Hdn (zr0_s = 0 ∨ w.heap.size ≤ gr0_s) ∧ Gr w w') 104 Try.func117 rfl rfl rfl ?_
  refine sw_seq ?_
  -- region 0 ref.go:193
  refine sw_region [(0, 0), (1, 0)] rfl rfl rfl ?_
  refine sd_ev rfl rfl rfl (ev_box (cs := TScheme.cs p0) rfl rfl) ?_
  rintro _ w1 ⟨b1, rfl, hbw1, Bw1, Gw1⟩
  have z2 := Gw1.size
  have lt3 := Bw1.lt
  refine sd_vv rfl rfl rfl (vv_assign rfl) ?_
  refine sd_done ?_
  refine sw_seq ?_
  -- region 1 ref.go:194
  refine sw_region [(0, 0)] rfl rfl rfl ?_
  refine sd_vv rfl rfl rfl (vv_assign rfl) ?_
  refine sd_done ?_
  refine sw_seq ?_
  have X4 : Gr w w1 := (Gr.trans (Gr.refl w) Gw1)
  refine sw_joinD (β := Bool) [11, 12, 13, 14, 15, 16, 17, 18] (fun a1 => [(18, .bool a1)]) (fun a1 wr => (ref03_CoverOf_J1 p0 p1 a1 = some r) ∧ Kz [] w1 wr) ?_ ?_
  · clear hm; rintro a1 w2 ⟨hm, Kw2⟩
    have z5 := Kw2.size
    unfold ref03_CoverOf_J1 at hm
    refine sw_cond rfl (fun c1 => ?_) (fun c1 => ?_)
    ·
      replace hm := cnd_t c1 hm
      refine sw_seq ?_
      -- region 3 ref.go:196
      refine sw_region [(0, 0), (1, 0), (2, 0)] rfl rfl rfl ?_
      refine sd_vv rfl rfl rfl (vv_build (cs := TSubset.cs (TSubset.mk 1 0)) bs_47 rfl rfl) ?_
      refine sd_ev rfl rfl rfl (ev_litT [(TSubset.mk 1 0)] TSubset.cs bsl_48_1 rfl rfl (ws_of rfl) rfl rfl rfl) ?_
      rintro vw3 w3 ⟨gw3, hbw3, Ow3, Gw3⟩
      have z6 := Gw3.size
      have lt7 := Ow3.lth
      refine sd_vv rfl rfl rfl (vv_assign rfl) ?_
      refine sd_done ?_
      refine sw_ret ?_
      refine then_r ?_
      have X8 : Gr w w3 := (Gr.trans (Gr.kz X4 Kw2) Gw3)
      have hr := Option.some.inj hm
      subst hr
      refine ⟨_, _, rfl, res_1 rfl (rv_tmp rfl), ?_⟩
      exact ⟨vw3, 1, gw3, rfl, Ow3, ⟨(.inr tk0)⟩, X8⟩
    ·
      replace hm := cnd_f c1 hm
      refine sw_skip ?_
      refine then_n ?_
      refine sw_seq ?_
      refine sw_seq ?_
      -- region 4 ref.go:198
      refine sw_region [(0, 0)] rfl rfl rfl ?_
      refine sd_vv rfl rfl rfl (vv_assign rfl) ?_
      refine sd_done ?_
      refine sw_block ?_
      have X9 : Gr w w2 := (Gr.kz X4 Kw2)
      have B10 := (Rd.kz (Rd.gr hp1 Gw1) Kw2)
      refine sw_loopD (α := Nat × List TSubset × Int × Value × Nat × Nat) [5, 6, 7, 8, 9, 10, 21, 22, 23, 24, 25, 26, 27, 28, 29, 30, 31, 32, 33, 34, 35, 36, 37, 38, 39, 40, 41, 42, 43, 44, 45, 46, 47, 48, 49, 50, 51, 52, 53, 54, 55, 56, 57, 58, 59, 60, 61, 62, 63, 64, 65, 66, 67, 68, 69, 70, 71, 72, 73, 74, 75, 76, 77, 78, 79, 80, 81, 82, 83, 84, 85, 86, 87, 88, 89, 90, 91, 92, 93, 94, 95, 96, 97, 98, 99, 100, 101, 102] (fun ⟨n2, a5, a7, vy6, zy6, gy6⟩ => [(5, vy6), (6, .int .i64 a7)]) (fun ⟨n2, a5, a7, vy6, zy6, gy6⟩ wr => (fixN (ref03_CoverOf_L2 p0 p1) n2 (a5, a7) = some r) ∧ Own wr zy6 gy6 47 2 vy6 (a5.map TSubset.cs) ∧ Hdn (zy6 = 0 ∨ w2.heap.size ≤ gy6) ∧ Kz [] w2 wr) (fun ⟨n2, a5, a7, vy6, zy6, gy6⟩ => n2) ⟨FUEL, [], 1, (.slice none 0 0), 0, 0⟩ ?_ ?_ ?_
      · repeat' first | exact trivial | refine ⟨rfl, ?_⟩
      · exact ⟨hm, (own_nil _ 0 47 2), ⟨(.inl rfl)⟩, Kz.refl _ _⟩
      · clear hm; rintro ⟨n2, a5, a7, vy6, zy6, gy6⟩ w4 ⟨hm, Fw4_0, Fw4_1, Kw4⟩
        have z11 := Kw4.size
        have lt12 := Fw4_0.lth
        have hb := fix_succ hm; clear hm; obtain ⟨n2, rfl, hm⟩ := hb
        generalize hrec2 : fixN (ref03_CoverOf_L2 p0 p1) n2 = rec2 at hm
        unfold ref03_CoverOf_L2 at hm
        try dsimp only at hm
        refine sw_seq ?_
        refine sw_seq ?_
        -- region 5 ref.go:198
        refine sw_region [(0, 0), (1, 0), (2, 0), (3, 0), (4, 0), (5, 0)] rfl rfl rfl ?_
        refine sd_vv rfl rfl rfl (vv_move rfl) ?_
        refine sd_vv rfl rfl rfl (vv_fieldAddr fa_45_1 rfl) ?_
        have B13 := (Bx.kz (Bx.kz Bw1 Kw2) Kw4)
        refine sd_vv rfl rfl rfl (vv_load1 (v := .int .i64 p0.Depth) one_3 rfl B13 rfl) ?_
        have hb := bnd hm; clear hm; obtain ⟨x8, hx8, hm⟩ := hb
        refine sd_ev rfl rfl rfl (ev_call en_118 rfl (ref03_Receivers_w p0.Depth _ hx8 _)) ?_
        rintro _ w5 ⟨rfl, Gw5⟩
        have z14 := Gw5.size
        refine sd_vv rfl rfl rfl (vv_mul (k := .i64) (a := 2) (b := x8) rfl rfl) ?_
        refine sd_vv rfl rfl rfl (vv_lss (a := a7) (b := w64 (2 * x8)) rfl rfl) ?_
        refine sd_done ?_
        refine sw_cond rfl (fun c2 => ?_) (fun c2 => ?_)
        ·
          replace hm := ite_t (of_decide_eq_true c2) hm
          refine sw_skip ?_
          refine then_n ?_
          refine sw_seq ?_
          refine sw_block ?_
          refine sw_seq ?_
          -- region 7 ref.go:199
          refine sw_region [(0, 0), (1, 0), (2, 0), (3, 0), (4, 0), (5, 0)] rfl rfl rfl ?_
          refine sd_vv rfl rfl rfl (vv_fieldAddr fa_45_1 rfl) ?_
          have B15 := (Bx.gr B13 Gw5)
          refine sd_vv rfl rfl rfl (vv_load1 (v := .int .i64 p0.Depth) one_3 rfl B15 rfl) ?_
          refine sd_vv rfl rfl rfl (vv_move rfl) ?_
          refine sd_vv rfl rfl rfl (vv_move rfl) ?_
          have B16 := (Rd.gr (Rd.kz B10 Kw4) Gw5)
          have hb := bnd hm; clear hm; obtain ⟨x9, hx9, hm⟩ := hb
          refine sd_ev rfl rfl rfl (ev_call en_150 rfl (ref03_hot_w p0.Depth p1 a7 _ _ _ _ _ hx9 _ B16)) ?_
          rintro _ w6 ⟨rfl, Gw6⟩
          have z17 := Gw6.size
          refine sd_vv rfl rfl rfl (vv_assign rfl) ?_
          refine sd_done ?_
          refine sw_seq ?_
          refine sw_seq ?_
          -- region 8 ref.go:200
          refine sw_region [(0, 0), (1, 0), (2, 0)] rfl rfl rfl ?_
          refine sd_vv rfl rfl rfl (vv_fieldAddr fa_45_0 rfl) ?_
          have B18 := (Bx.gr B15 Gw6)
          refine sd_vv rfl rfl rfl (vv_load1 (v := bv p0.Kind) one_5 rfl B18 rfl) ?_
          refine sd_vv rfl rfl rfl (vv_eqlB (p := p0.Kind) (q := 1#8) rfl rfl) ?_
          refine sd_done ?_
          refine sw_cond rfl (fun c3 => ?_) (fun c3 => ?_)
          ·
            replace hm := ite_t (of_decide_eq_true c3) hm
            refine sw_seq ?_
            have X19 : Gr w w6 := (Gr.trans (Gr.trans (Gr.kz X9 Kw4) Gw5) Gw6)
            refine sw_joinD (β := Bool) [37, 38, 39, 40, 41, 42, 43, 44, 45, 46, 47, 48, 49, 50] (fun a10 => [(50, .bool a10)]) (fun a10 wr => (ref03_CoverOf_J3 a5 a7 rec2 a10 = some r) ∧ Kz [] w6 wr) ?_ ?_
            · clear hm; rintro a10 w7 ⟨hm, Kw7⟩
              have z20 := Kw7.size
              unfold ref03_CoverOf_J3 at hm
              refine sw_cond rfl (fun c4 => ?_) (fun c4 => ?_)
              ·
                replace hm := cnd_t c4 hm
                -- region 10 ref.go:202
                refine sw_region [(0, 0), (1, 0), (2, 0), (3, 0), (4, 0), (5, 0)] rfl rfl rfl ?_
                refine sd_vv rfl rfl rfl (vv_move rfl) ?_
                refine sd_vv rfl rfl rfl (vv_move rfl) ?_
                refine sd_vv rfl rfl rfl (vv_build (cs := TSubset.cs (TSubset.mk a7 0)) bs_47 rfl rfl) ?_
                refine sd_ev rfl rfl rfl (ev_litT [(TSubset.mk a7 0)] TSubset.cs bsl_48_1 rfl rfl (ws_of rfl) rfl rfl rfl) ?_
                rintro vw8 w8 ⟨gw8, hbw8, Ow8, Gw8⟩
                have z21 := Gw8.size
                have lt22 := Ow8.lth
                have B23 := (Own.gr (Own.kz (Own.gr (Own.gr Fw4_0 Gw5) Gw6) Kw7) Gw8)
                have hb := bnd hm; clear hm; obtain ⟨l11, hl11, hm⟩ := hb
                refine sd_ev rfl rfl rfl (ev_appT (l := a5) (m := [(TSubset.mk a7 0)]) (c := TSubset.cs) apt_48 rfl rfl B23 (Own.rd Ow8) hl11 (by decide)) ?_
                rintro vw9 w9 ⟨zw9, gw9, Ow9, Aw9, qw9, rw9⟩
                have z24 := Aw9.size
                refine sd_vv rfl rfl rfl (vv_assign rfl) ?_
                refine sd_done ?_
                refine sw_exit ?_
                refine then_x ?_
                refine block_x ?_
                refine then_n ?_
                -- region 6 ref.go:198
                refine sw_region [(0, 0), (1, 0), (2, 0)] rfl rfl rfl ?_
                refine sd_vv rfl rfl rfl (vv_move rfl) ?_
                refine sd_vv rfl rfl rfl (vv_add (k := .i64) (a := a7) (b := 1) rfl rfl) ?_
                refine sd_vv rfl rfl rfl (vv_assign rfl) ?_
                refine sd_nil ?_
                have K_25 : Kz [] w2 w9 := (Kz.ka (Kz.gr (Kz.kz (Kz.gr (Kz.gr Kw4 Gw5) Gw6) Kw7) Gw8) Aw9 (tk1 ((pv_0 (A := (fun x => w2.heap.size ≤ x)) Fw4_1) : zy6 = 0 ∨ w2.heap.size ≤ gy6)))
                subst hrec2
                refine ⟨rfl, ⟨n2, l11, w64 (a7 + 1), vw9, zw9, gw9⟩, ?_, ⟨hm, Ow9, ⟨(pv_app (A := (fun x => w2.heap.size ≤ x)) rw9 (pv_0 (A := (fun x => w2.heap.size ≤ x)) Fw4_1))⟩, K_25⟩, Nat.lt_succ_self _⟩
                repeat' first | exact trivial | refine ⟨rfl, ?_⟩
              ·
                replace hm := cnd_f c4 hm
                refine sw_skip ?_
                refine then_n ?_
                refine sw_exit ?_
                refine then_x ?_
                refine block_x ?_
                refine then_n ?_
                -- region 6 ref.go:198
                refine sw_region [(0, 0), (1, 0), (2, 0)] rfl rfl rfl ?_
                refine sd_vv rfl rfl rfl (vv_move rfl) ?_
                refine sd_vv rfl rfl rfl (vv_add (k := .i64) (a := a7) (b := 1) rfl rfl) ?_
                refine sd_vv rfl rfl rfl (vv_assign rfl) ?_
                refine sd_nil ?_
                have K_26 : Kz [] w2 w7 := (Kz.kz (Kz.gr (Kz.gr Kw4 Gw5) Gw6) Kw7)
                have B27 := (Own.kz (Own.gr (Own.gr Fw4_0 Gw5) Gw6) Kw7)
                subst hrec2
                refine ⟨rfl, ⟨n2, a5, w64 (a7 + 1), vy6, zy6, gy6⟩, ?_, ⟨hm, B27, ⟨(pv_0 (A := (fun x => w2.heap.size ≤ x)) Fw4_1)⟩, K_26⟩, Nat.lt_succ_self _⟩
                repeat' first | exact trivial | refine ⟨rfl, ?_⟩
            ·
              -- region 9 ref.go:201
              refine sw_region [(0, 0), (1, 0), (2, 0), (3, 0), (4, 0), (5, 0), (6, 0), (7, 0), (8, 0), (9, 0), (10, 0), (11, 0), (12, 0), (13, 0)] rfl rfl rfl ?_
              refine sd_vv rfl rfl rfl (vv_move rfl) ?_
              refine sd_vv rfl rfl rfl (vv_not rfl) ?_
              refine sd_split rfl rfl rfl (vv_move rfl) (fun c5 => ?_) (fun c5 => ?_)
              ·
                replace hm := cnd_t c5 hm
                refine sd_vv rfl rfl rfl (vv_move rfl) ?_
                refine sd_vv rfl rfl rfl (vv_eql (a := a7) (b := 1) rfl rfl) ?_
                refine sd_split rfl rfl rfl (vv_move rfl) (fun c6 => ?_) (fun c6 => ?_)
                ·
                  replace hm := ite_t (of_decide_eq_true c6) hm
                  refine sd_skip rfl rfl rfl ?_
                  refine sd_skip rfl rfl rfl ?_
                  refine sd_skip rfl rfl rfl ?_
                  refine sd_skip rfl rfl rfl ?_
                  refine sd_skip rfl rfl rfl ?_
                  refine sd_skip rfl rfl rfl ?_
                  refine sd_vv rfl rfl rfl (vv_pickT rfl rfl) ?_
                  refine sd_vv rfl rfl rfl (vv_pickT rfl rfl) ?_
                  refine sd_nil ?_
                  have K_28 : Kz [] w6 w6 := (Kz.refl _ _)
                  refine ⟨rfl, true, ?_, hm, K_28⟩
                  repeat' first | exact trivial | refine ⟨rfl, ?_⟩
                ·
                  replace hm := ite_f (of_decide_eq_false c6) hm
                  refine sd_vv rfl rfl rfl (vv_fieldAddr fa_45_1 rfl) ?_
                  refine sd_vv rfl rfl rfl (vv_load1 (v := .int .i64 p0.Depth) one_3 rfl B18 rfl) ?_
                  refine sd_vv rfl rfl rfl (vv_move rfl) ?_
                  refine sd_vv rfl rfl rfl (vv_move rfl) ?_
                  have hb := bnd hm; clear hm; obtain ⟨x12, hx12, hm⟩ := hb
                  refine sd_vv rfl rfl rfl (vv_quoI (a := a7) (b := 2) rfl rfl hx12) ?_
                  have B29 := (Rd.gr B16 Gw6)
                  have hb := bnd hm; clear hm; obtain ⟨x13, hx13, hm⟩ := hb
                  refine sd_ev rfl rfl rfl (ev_call en_150 rfl (ref03_hot_w p0.Depth p1 x12 _ _ _ _ _ hx13 _ B29)) ?_
                  rintro _ w10 ⟨rfl, Gw10⟩
                  have z30 := Gw10.size
                  refine sd_vv rfl rfl rfl (vv_pickF rfl rfl) ?_
                  refine sd_vv rfl rfl rfl (vv_pickT rfl rfl) ?_
                  refine sd_nil ?_
                  have K_31 : Kz [] w6 w10 := (Kz.gr (Kz.refl _ _) Gw10)
                  refine ⟨rfl, x13, ?_, hm, K_31⟩
                  repeat' first | exact trivial | refine ⟨rfl, ?_⟩
              ·
                replace hm := cnd_f c5 hm
                refine sd_skip rfl rfl rfl ?_
                refine sd_skip rfl rfl rfl ?_
                refine sd_skip rfl rfl rfl ?_
                refine sd_skip rfl rfl rfl ?_
                refine sd_skip rfl rfl rfl ?_
                refine sd_skip rfl rfl rfl ?_
                refine sd_skip rfl rfl rfl ?_
                refine sd_skip rfl rfl rfl ?_
                refine sd_skip rfl rfl rfl ?_
                refine sd_skip rfl rfl rfl ?_
                refine sd_vv rfl rfl rfl (vv_pickF rfl rfl) ?_
                refine sd_nil ?_
                have K_32 : Kz [] w6 w6 := (Kz.refl _ _)
                refine ⟨rfl, false, ?_, hm, K_32⟩
                repeat' first | exact trivial | refine ⟨rfl, ?_⟩
          ·
            replace hm := ite_f (of_decide_eq_false c3) hm
            refine sw_skip ?_
            refine then_n ?_
            refine sw_seq ?_
            have X33 : Gr w w6 := (Gr.trans (Gr.trans (Gr.kz X9 Kw4) Gw5) Gw6)
            refine sw_joinD (β := Bool) [56, 57, 58, 59, 60, 61, 62, 63, 64, 65, 66, 67, 68, 69, 70] (fun a14 => [(70, .bool a14)]) (fun a14 wr => (ref03_CoverOf_J4 p0 p1 a5 a7 rec2 a14 = some r) ∧ Kz [] w6 wr) ?_ ?_
            · clear hm; rintro a14 w11 ⟨hm, Kw11⟩
              have z34 := Kw11.size
              unfold ref03_CoverOf_J4 at hm
              refine sw_cond rfl (fun c7 => ?_) (fun c7 => ?_)
              ·
                replace hm := cnd_t c7 hm
                refine sw_exit ?_
                refine then_x ?_
                refine block_x ?_
                refine then_n ?_
                -- region 6 ref.go:198
                refine sw_region [(0, 0), (1, 0), (2, 0)] rfl rfl rfl ?_
                refine sd_vv rfl rfl rfl (vv_move rfl) ?_
                refine sd_vv rfl rfl rfl (vv_add (k := .i64) (a := a7) (b := 1) rfl rfl) ?_
                refine sd_vv rfl rfl rfl (vv_assign rfl) ?_
                refine sd_nil ?_
                have K_35 : Kz [] w2 w11 := (Kz.kz (Kz.gr (Kz.gr Kw4 Gw5) Gw6) Kw11)
                have B36 := (Own.kz (Own.gr (Own.gr Fw4_0 Gw5) Gw6) Kw11)
                subst hrec2
                refine ⟨rfl, ⟨n2, a5, w64 (a7 + 1), vy6, zy6, gy6⟩, ?_, ⟨hm, B36, ⟨(pv_0 (A := (fun x => w2.heap.size ≤ x)) Fw4_1)⟩, K_35⟩, Nat.lt_succ_self _⟩
                repeat' first | exact trivial | refine ⟨rfl, ?_⟩
              ·
                replace hm := cnd_f c7 hm
                refine sw_skip ?_
                refine then_n ?_
                refine sw_seq ?_
                -- region 12 ref.go:209
                refine sw_region [(0, 0), (1, 0), (2, 0), (3, 0), (4, 0), (5, 0)] rfl rfl rfl ?_
                refine sd_vv rfl rfl rfl (vv_fieldAddr fa_45_1 rfl) ?_
                have B37 := (Bx.kz B18 Kw11)
                refine sd_vv rfl rfl rfl (vv_load1 (v := .int .i64 p0.Depth) one_3 rfl B37 rfl) ?_
                refine sd_vv rfl rfl rfl (vv_move rfl) ?_
                refine sd_vv rfl rfl rfl (vv_move rfl) ?_
                have B38 := (Rd.kz (Rd.gr B16 Gw6) Kw11)
                have hb := bnd hm; clear hm; obtain ⟨x15, hx15, hm⟩ := hb
                refine sd_ev rfl rfl rfl (ev_call en_151 rfl (ref03_foot_w p0.Depth p1 a7 _ _ _ _ _ hx15 _ B38)) ?_
                rintro _ w12 ⟨rfl, Gw12⟩
                have z39 := Gw12.size
                refine sd_vv rfl rfl rfl (vv_assign rfl) ?_
                refine sd_done ?_
                refine sw_seq ?_
                refine sw_seq ?_
                -- region 13 ref.go:210
                refine sw_region [(0, 0), (1, 0), (2, 0)] rfl rfl rfl ?_
                refine sd_vv rfl rfl rfl (vv_move rfl) ?_
                refine sd_vv rfl rfl rfl (vv_move rfl) ?_
                refine sd_vv rfl rfl rfl (vv_eql (a := x15) (b := a7) rfl rfl) ?_
                refine sd_done ?_
                refine sw_cond rfl (fun c8 => ?_) (fun c8 => ?_)
                ·
                  replace hm := ite_t (of_decide_eq_true c8) hm
                  refine sw_exit ?_
                  refine then_x ?_
                  refine block_x ?_
                  refine then_n ?_
                  -- region 6 ref.go:198
                  refine sw_region [(0, 0), (1, 0), (2, 0)] rfl rfl rfl ?_
                  refine sd_vv rfl rfl rfl (vv_move rfl) ?_
                  refine sd_vv rfl rfl rfl (vv_add (k := .i64) (a := a7) (b := 1) rfl rfl) ?_
                  refine sd_vv rfl rfl rfl (vv_assign rfl) ?_
                  refine sd_nil ?_
                  have K_40 : Kz [] w2 w12 := (Kz.gr (Kz.kz (Kz.gr (Kz.gr Kw4 Gw5) Gw6) Kw11) Gw12)
                  have B41 := (Own.gr (Own.kz (Own.gr (Own.gr Fw4_0 Gw5) Gw6) Kw11) Gw12)
                  subst hrec2
                  refine ⟨rfl, ⟨n2, a5, w64 (a7 + 1), vy6, zy6, gy6⟩, ?_, ⟨hm, B41, ⟨(pv_0 (A := (fun x => w2.heap.size ≤ x)) Fw4_1)⟩, K_40⟩, Nat.lt_succ_self _⟩
                  repeat' first | exact trivial | refine ⟨rfl, ?_⟩
                ·
                  replace hm := ite_f (of_decide_eq_false c8) hm
                  refine sw_skip ?_
                  refine then_n ?_
                  refine sw_seq ?_
                  -- region 14 ref.go:213
                  refine sw_region [(0, 0), (1, 0), (2, 0), (3, 0), (4, 0)] rfl rfl rfl ?_
                  refine sd_vv rfl rfl rfl (vv_move rfl) ?_
                  refine sd_vv rfl rfl rfl (vv_move rfl) ?_
                  refine sd_vv rfl rfl rfl (vv_build (cs := TSubset.cs (TSubset.mk a7 x15)) bs_47 rfl rfl) ?_
                  refine sd_ev rfl rfl rfl (ev_alloc (cs := TSubset.cs (TSubset.mk 0 0)) zv_47 rfl) ?_
                  rintro _ w13 ⟨b13, rfl, hbw13, Bw13, Gw13⟩
                  have z42 := Gw13.size
                  have lt43 := Bw13.lt
                  refine sd_ev rfl rfl rfl (ev_stM (cs' := TSubset.cs (TSubset.mk a7 x15)) (vs := TSubset.cs (TSubset.mk a7 x15)) (agg_47).siz rfl rfl rfl rfl rfl Bw13 rfl rfl) ?_
                  rintro _ w14 ⟨Bw14, Mw14⟩
                  have z44 := Mw14.size
                  refine sd_done ?_
                  refine sw_seq ?_
                  refine sw_seq ?_
                  -- region 15 ref.go:214
                  refine sw_region [(0, 0), (1, 0), (2, 0)] rfl rfl rfl ?_
                  have B45 := (Bx.md (Bx.gr (Bx.gr B37 Gw12) Gw13) Mw14)
                  refine sd_vv rfl rfl rfl (vv_loadW agg_45 rfl B45 rfl) ?_
                  refine sd_vv rfl rfl rfl (vv_loadW agg_47 rfl Bw14 rfl) ?_
                  have hb := bnd hm; clear hm; obtain ⟨x16, hx16, hm⟩ := hb
                  refine sd_ev rfl rfl rfl (ev_call en_62 rfl (ref03_IsSubset_w p0 (TSubset.mk a7 x15) _ hx16 _)) ?_
                  rintro _ w15 ⟨rfl, Gw15⟩
                  have z46 := Gw15.size
                  refine sd_done ?_
                  refine sw_cond rfl (fun c9 => ?_) (fun c9 => ?_)
                  ·
                    replace hm := cnd_t c9 hm
                    refine sw_seq ?_
                    -- region 16 ref.go:215
                    refine sw_region [(0, 0), (1, 0), (2, 0), (3, 0)] rfl rfl rfl ?_
                    refine sd_vv rfl rfl rfl (vv_move rfl) ?_
                    have B47 := (Bx.gr Bw14 Gw15)
                    refine sd_vv rfl rfl rfl (vv_loadW agg_47 rfl B47 rfl) ?_
                    have B48 := (Own.gr (Own.md (Own.gr (Own.gr (Own.kz (Own.gr (Own.gr Fw4_0 Gw5) Gw6) Kw11) Gw12) Gw13) Mw14 (tk1 ((pv_lt (A := (fun x => x ≠ b13)) lt12) : zy6 = 0 ∨ gy6 ≠ b13))) Gw15)
                    have hb := bnd hm; clear hm; obtain ⟨x17, hx17, hm⟩ := hb
                    refine sd_ev rfl rfl rfl (ev_call en_152 rfl (ref03_insert_w a5 (TSubset.mk a7 x15) _ _ _ _ _ hx17 _ (Own.rd B48))) ?_
                    rintro u16_r0_s w16 ⟨_, z16_r0_s, g16_r0_s, rfl, O16_r0_s, f16_r0_s, Gw16⟩
                    have z49 := Gw16.size
                    have lt50 := O16_r0_s.lth
                    refine sd_vv rfl rfl rfl (vv_assign rfl) ?_
                    refine sd_done ?_
                    refine sw_exit ?_
                    refine then_x ?_
                    refine block_x ?_
                    refine then_n ?_
                    -- region 6 ref.go:198
                    refine sw_region [(0, 0), (1, 0), (2, 0)] rfl rfl rfl ?_
                    refine sd_vv rfl rfl rfl (vv_move rfl) ?_
                    refine sd_vv rfl rfl rfl (vv_add (k := .i64) (a := a7) (b := 1) rfl rfl) ?_
                    refine sd_vv rfl rfl rfl (vv_assign rfl) ?_
                    refine sd_nil ?_
                    have K_51 : Kz [] w2 w16 := (Kz.gr (Kz.gr (Kz.md (Kz.gr (Kz.gr (Kz.kz (Kz.gr (Kz.gr Kw4 Gw5) Gw6) Kw11) Gw12) Gw13) Mw14) Gw15) Gw16)
                    subst hrec2
                    refine ⟨rfl, ⟨n2, x17, w64 (a7 + 1), u16_r0_s, z16_r0_s, g16_r0_s⟩, ?_, ⟨hm, O16_r0_s, ⟨(pv_0 (A := (fun x => w2.heap.size ≤ x)) f16_r0_s)⟩, K_51⟩, Nat.lt_succ_self _⟩
                    repeat' first | exact trivial | refine ⟨rfl, ?_⟩
                  ·
                    replace hm := cnd_f c9 hm
                    refine sw_skip ?_
                    refine then_n ?_
                    refine sw_seq ?_
                    -- region 17 ref.go:218
                    refine sw_region [(0, 0), (1, 0), (2, 0), (3, 0), (4, 0), (5, 0)] rfl rfl rfl ?_
                    refine sd_vv rfl rfl rfl (vv_fieldAddr fa_45_1 rfl) ?_
                    have B52 := (Bx.gr B45 Gw15)
                    refine sd_vv rfl rfl rfl (vv_load1 (v := .int .i64 p0.Depth) one_3 rfl B52 rfl) ?_
                    refine sd_vv rfl rfl rfl (vv_move rfl) ?_
                    refine sd_vv rfl rfl rfl (vv_move rfl) ?_
                    have hb := bnd hm; clear hm; obtain ⟨x18, hx18, hm⟩ := hb
                    refine sd_ev rfl rfl rfl (ev_call en_121 rfl (ref03_between_w p0.Depth a7 x15 _ hx18 _)) ?_
                    rintro _ w17 ⟨rfl, Gw17⟩
                    have z53 := Gw17.size
                    refine sd_vv rfl rfl rfl (vv_assign rfl) ?_
                    refine sd_done ?_
                    refine sw_seq ?_
                    -- region 18 ref.go:219
                    refine sw_region [(0, 0), (1, 0), (2, 0), (3, 0), (4, 0), (5, 0)] rfl rfl rfl ?_
                    refine sd_vv rfl rfl rfl (vv_move rfl) ?_
                    refine sd_vv rfl rfl rfl (vv_move rfl) ?_
                    refine sd_vv rfl rfl rfl (vv_move rfl) ?_
                    refine sd_vv rfl rfl rfl (vv_build (cs := TSubset.cs (TSubset.mk a7 x18)) bs_47 rfl rfl) ?_
                    have B54 := (Own.gr (Own.gr (Own.md (Own.gr (Own.gr (Own.kz (Own.gr (Own.gr Fw4_0 Gw5) Gw6) Kw11) Gw12) Gw13) Mw14 (tk1 ((pv_lt (A := (fun x => x ≠ b13)) lt12) : zy6 = 0 ∨ gy6 ≠ b13))) Gw15) Gw17)
                    have hb := bnd hm; clear hm; obtain ⟨x19, hx19, hm⟩ := hb
                    refine sd_ev rfl rfl rfl (ev_call en_152 rfl (ref03_insert_w a5 (TSubset.mk a7 x18) _ _ _ _ _ hx19 _ (Own.rd B54))) ?_
                    rintro u18_r0_s w18 ⟨_, z18_r0_s, g18_r0_s, rfl, O18_r0_s, f18_r0_s, Gw18⟩
                    have z55 := Gw18.size
                    have lt56 := O18_r0_s.lth
                    refine sd_vv rfl rfl rfl (vv_assign rfl) ?_
                    refine sd_done ?_
                    -- region 19 ref.go:220
                    refine sw_region [(0, 0), (1, 0), (2, 0), (3, 0), (4, 0), (5, 0)] rfl rfl rfl ?_
                    refine sd_vv rfl rfl rfl (vv_move rfl) ?_
                    refine sd_vv rfl rfl rfl (vv_move rfl) ?_
                    refine sd_vv rfl rfl rfl (vv_move rfl) ?_
                    refine sd_vv rfl rfl rfl (vv_build (cs := TSubset.cs (TSubset.mk x18 x15)) bs_47 rfl rfl) ?_
                    have hb := bnd hm; clear hm; obtain ⟨x20, hx20, hm⟩ := hb
                    refine sd_ev rfl rfl rfl (ev_call en_152 rfl (ref03_insert_w x19 (TSubset.mk x18 x15) _ _ _ _ _ hx20 _ (Own.rd O18_r0_s))) ?_
                    rintro u19_r0_s w19 ⟨_, z19_r0_s, g19_r0_s, rfl, O19_r0_s, f19_r0_s, Gw19⟩
                    have z57 := Gw19.size
                    have lt58 := O19_r0_s.lth
                    refine sd_vv rfl rfl rfl (vv_assign rfl) ?_
                    refine sd_nil ?_
                    refine block_n ?_
                    refine then_n ?_
                    -- region 6 ref.go:198
                    refine sw_region [(0, 0), (1, 0), (2, 0)] rfl rfl rfl ?_
                    refine sd_vv rfl rfl rfl (vv_move rfl) ?_
                    refine sd_vv rfl rfl rfl (vv_add (k := .i64) (a := a7) (b := 1) rfl rfl) ?_
                    refine sd_vv rfl rfl rfl (vv_assign rfl) ?_
                    refine sd_nil ?_
                    have K_59 : Kz [] w2 w19 := (Kz.gr (Kz.gr (Kz.gr (Kz.gr (Kz.md (Kz.gr (Kz.gr (Kz.kz (Kz.gr (Kz.gr Kw4 Gw5) Gw6) Kw11) Gw12) Gw13) Mw14) Gw15) Gw17) Gw18) Gw19)
                    subst hrec2
                    refine ⟨rfl, ⟨n2, x20, w64 (a7 + 1), u19_r0_s, z19_r0_s, g19_r0_s⟩, ?_, ⟨hm, O19_r0_s, ⟨(pv_0 (A := (fun x => w2.heap.size ≤ x)) f19_r0_s)⟩, K_59⟩, Nat.lt_succ_self _⟩
                    repeat' first | exact trivial | refine ⟨rfl, ?_⟩
            ·
              -- region 11 ref.go:206
              refine sw_region [(0, 0), (1, 0), (2, 0), (3, 0), (4, 0), (5, 0), (6, 0), (7, 0), (8, 0), (9, 0), (10, 0), (11, 0), (12, 0), (13, 0), (14, 0)] rfl rfl rfl ?_
              refine sd_vv rfl rfl rfl (vv_move rfl) ?_
              refine sd_vv rfl rfl rfl (vv_not rfl) ?_
              refine sd_split rfl rfl rfl (vv_move rfl) (fun c10 => ?_) (fun c10 => ?_)
              ·
                replace hm := cnd_t c10 hm
                refine sd_skip rfl rfl rfl ?_
                refine sd_skip rfl rfl rfl ?_
                refine sd_skip rfl rfl rfl ?_
                refine sd_skip rfl rfl rfl ?_
                refine sd_skip rfl rfl rfl ?_
                refine sd_skip rfl rfl rfl ?_
                refine sd_skip rfl rfl rfl ?_
                refine sd_skip rfl rfl rfl ?_
                refine sd_skip rfl rfl rfl ?_
                refine sd_skip rfl rfl rfl ?_
                refine sd_skip rfl rfl rfl ?_
                refine sd_vv rfl rfl rfl (vv_pickT rfl rfl) ?_
                refine sd_nil ?_
                have K_60 : Kz [] w6 w6 := (Kz.refl _ _)
                refine ⟨rfl, true, ?_, hm, K_60⟩
                repeat' first | exact trivial | refine ⟨rfl, ?_⟩
              ·
                replace hm := cnd_f c10 hm
                refine sd_vv rfl rfl rfl (vv_move rfl) ?_
                refine sd_vv rfl rfl rfl (vv_gtr (a := a7) (b := 1) rfl rfl) ?_
                refine sd_split rfl rfl rfl (vv_move rfl) (fun c11 => ?_) (fun c11 => ?_)
                ·
                  replace hm := ite_t (of_decide_eq_true c11) hm
                  refine sd_vv rfl rfl rfl (vv_fieldAddr fa_45_1 rfl) ?_
                  refine sd_vv rfl rfl rfl (vv_load1 (v := .int .i64 p0.Depth) one_3 rfl B18 rfl) ?_
                  refine sd_vv rfl rfl rfl (vv_move rfl) ?_
                  refine sd_vv rfl rfl rfl (vv_move rfl) ?_
                  refine sd_vv rfl rfl rfl (vv_bitI (a := a7) (b := 1) (by simp) rfl rfl) ?_
                  have B61 := (Rd.gr B16 Gw6)
                  have hb := bnd hm; clear hm; obtain ⟨x21, hx21, hm⟩ := hb
                  refine sd_ev rfl rfl rfl (ev_call en_150 rfl (ref03_hot_w p0.Depth p1 (bitI .xor a7 1) _ _ _ _ _ hx21 _ B61)) ?_
                  rintro _ w20 ⟨rfl, Gw20⟩
                  have z62 := Gw20.size
                  refine sd_vv rfl rfl rfl (vv_not rfl) ?_
                  refine sd_vv rfl rfl rfl (vv_pickT rfl rfl) ?_
                  refine sd_vv rfl rfl rfl (vv_pickF rfl rfl) ?_
                  refine sd_nil ?_
                  have K_63 : Kz [] w6 w20 := (Kz.gr (Kz.refl _ _) Gw20)
                  refine ⟨rfl, (!x21), ?_, hm, K_63⟩
                  repeat' first | exact trivial | refine ⟨rfl, ?_⟩
                ·
                  replace hm := ite_f (of_decide_eq_false c11) hm
                  refine sd_skip rfl rfl rfl ?_
                  refine sd_skip rfl rfl rfl ?_
                  refine sd_skip rfl rfl rfl ?_
                  refine sd_skip rfl rfl rfl ?_
                  refine sd_skip rfl rfl rfl ?_
                  refine sd_skip rfl rfl rfl ?_
                  refine sd_skip rfl rfl rfl ?_
                  refine sd_vv rfl rfl rfl (vv_pickF rfl rfl) ?_
                  refine sd_vv rfl rfl rfl (vv_pickF rfl rfl) ?_
                  refine sd_nil ?_
                  have K_64 : Kz [] w6 w6 := (Kz.refl _ _)
                  refine ⟨rfl, false, ?_, hm, K_64⟩
                  repeat' first | exact trivial | refine ⟨rfl, ?_⟩
        ·
          replace hm := ite_f (of_decide_eq_false c2) hm
          refine sw_exit ?_
          refine then_x ?_
          refine then_x ?_
          refine block_x ?_
          refine then_n ?_
          refine sw_seq ?_
          -- region 20 ref.go:222
          refine sw_region [(0, 0), (1, 0)] rfl rfl rfl ?_
          refine sd_vv rfl rfl rfl (vv_move rfl) ?_
          refine sd_vv rfl rfl rfl (vv_assign rfl) ?_
          refine sd_done ?_
          refine sw_ret ?_
          have B65 := (Own.gr Fw4_0 Gw5)
          have X66 : Gr w w5 := (Gr.trans (Gr.kz X9 Kw4) Gw5)
          have hr := Option.some.inj hm
          subst hr
          refine ⟨_, _, rfl, res_1 rfl (rv_tmp rfl), ?_⟩
          exact ⟨vy6, zy6, gy6, rfl, B65, ⟨(pv_0 (A := (fun x => w.heap.size ≤ x)) Fw4_1)⟩, X66⟩
  ·
    -- region 2 ref.go:195
    refine sw_region [(0, 0), (1, 0), (2, 0), (3, 0), (4, 0), (5, 0), (6, 0), (7, 0)] rfl rfl rfl ?_
    refine sd_vv rfl rfl rfl (vv_fieldAddr fa_45_0 rfl) ?_
    refine sd_vv rfl rfl rfl (vv_load1 (v := bv p0.Kind) one_5 rfl Bw1 rfl) ?_
    refine sd_vv rfl rfl rfl (vv_neqB (p := p0.Kind) (q := 1#8) rfl rfl) ?_
    refine sd_split rfl rfl rfl (vv_move rfl) (fun c12 => ?_) (fun c12 => ?_)
    ·
      replace hm := ite_t (of_decide_eq_true c12) hm
      refine sd_vv rfl rfl rfl (vv_move rfl) ?_
      have B67 := (Rd.gr hp1 Gw1)
      refine sd_vv rfl rfl rfl (vv_lenT (l := p1) (c := ic) Try.underlying61 rfl B67) ?_
      refine sd_vv rfl rfl rfl (vv_eql (a := (p1.length : Int)) (b := 0) rfl rfl) ?_
      refine sd_vv rfl rfl rfl (vv_pickT rfl rfl) ?_
      refine sd_nil ?_
      have K_68 : Kz [] w1 w1 := (Kz.refl _ _)
      refine ⟨rfl, (decide ((p1.length : Int) = 0)), ?_, hm, K_68⟩
      repeat' first | exact trivial | refine ⟨rfl, ?_⟩
    ·
      replace hm := ite_f (of_decide_eq_false c12) hm
      refine sd_skip rfl rfl rfl ?_
      refine sd_skip rfl rfl rfl ?_
      refine sd_skip rfl rfl rfl ?_
      refine sd_vv rfl rfl rfl (vv_pickF rfl rfl) ?_
      refine sd_nil ?_
      have K_69 : Kz [] w1 w1 := (Kz.refl _ _)
      refine ⟨rfl, false, ?_, hm, K_69⟩
      repeat' first | exact trivial | refine ⟨rfl, ?_⟩

set_option maxHeartbeats 2000000 in
theorem ref03_Cover_w (p0 : TScheme) (p1 : List Int) (vp1 : Value) (zp1 gp1 op1 : Nat) (r : List TSubset × Int) (hm : ref03_Cover p0 p1 = some r) (w : World) (hp1 : Rd w zp1 gp1 op1 1 vp1 (p1.map ic))  :
    Calls Try.prog 55 [.agg (TScheme.cs p0).toArray, vp1].toArray w fun e w' => ∃ v, e = .returned v ∧ (∃ (ur0_s : Value) (zr0_s : Nat) (gr0_s : Nat), v = .tuple [ur0_s, .int .i64 r.2].toArray ∧ Own w' zr0_s gr0_s 47 2 ur0_s (r.1.map TSubset.cs) ∧ Hdn (zr0_s = 0 ∨ w.heap.size ≤ gr0_s) ∧ Gr w w') := by
  have lt1 := hp1.lth
  unfold ref03_Cover at hm
  refine calls_of_sw (R := fun v w' => ∃ (ur0_s : Value) (zr0_s : Nat) (gr0_s : Nat), v = .tuple [ur0_s, .int .i64 r.2].toArray ∧ Own w' zr0_s gr0_s 47 2 ur0_s (r.1.map TSubset.cs) ∧ Hdn (zr0_s = 0 ∨ w.heap.size ≤ gr0_s) ∧ Gr w w') 17 Try.func55 rfl rfl rfl ?_
  refine sw_seq ?_
  -- region 0 ref.go:226
  refine sw_region [(0, 0), (1, 0), (2, 0)] rfl rfl rfl ?_
  refine sd_ev rfl rfl rfl (ev_box (cs := TScheme.cs p0) rfl rfl) ?_
  rintro _ w1 ⟨b1, rfl, hbw1, Bw1, Gw1⟩
  have z2 := Gw1.size
  have lt3 := Bw1.lt
  refine sd_vv rfl rfl rfl (vv_assign rfl) ?_
  refine sd_vv rfl rfl rfl (vv_assign rfl) ?_
  refine sd_done ?_
  refine sw_seq ?_
  refine sw_seq ?_
  -- region 1 ref.go:227
  refine sw_region [(0, 0), (1, 0), (2, 0)] rfl rfl rfl ?_
  refine sd_vv rfl rfl rfl (vv_loadW agg_45 rfl Bw1 rfl) ?_
  have hb := bnd hm; clear hm; obtain ⟨x1, hx1, hm⟩ := hb
  refine sd_ev rfl rfl rfl (ev_call en_59 rfl (ref03_Valid_w p0 _ hx1 _)) ?_
  rintro _ w2 ⟨rfl, Gw2⟩
  have z4 := Gw2.size
  refine sd_vv rfl rfl rfl (vv_not rfl) ?_
  refine sd_done ?_
  refine sw_cond rfl (fun c1 => ?_) (fun c1 => ?_)
  ·
    replace hm := cnd_t c1 hm
    refine sw_seq ?_
    -- region 2 ref.go:228
    refine sw_region [(0, 0), (1, 0)] rfl rfl rfl ?_
    refine sd_vv rfl rfl rfl (vv_assign rfl) ?_
    refine sd_vv rfl rfl rfl (vv_assign rfl) ?_
    refine sd_done ?_
    refine sw_ret ?_
    refine then_r ?_
    have X5 : Gr w w2 := (Gr.trans (Gr.trans (Gr.refl w) Gw1) Gw2)
    have hr := Option.some.inj hm
    subst hr
    refine ⟨_, _, rfl, res_2 rfl (rv_tmp rfl) (rv_tmp rfl), ?_⟩
    exact ⟨(.slice none 0 0), 0, 0, rfl, (own_nil _ 0 47 2), ⟨.inl rfl⟩, X5⟩
  ·
    replace hm := cnd_f c1 hm
    refine sw_skip ?_
    refine then_n ?_
    refine sw_seq ?_
    refine sw_seq ?_
    -- region 3 ref.go:230
    refine sw_region [(0, 0), (1, 0), (2, 0), (3, 0), (4, 0)] rfl rfl rfl ?_
    refine sd_vv rfl rfl rfl (vv_fieldAddr fa_45_1 rfl) ?_
    have B6 := (Bx.gr Bw1 Gw2)
    refine sd_vv rfl rfl rfl (vv_load1 (v := .int .i64 p0.Depth) one_3 rfl B6 rfl) ?_
    refine sd_vv rfl rfl rfl (vv_move rfl) ?_
    have B7 := (Rd.gr (Rd.gr hp1 Gw1) Gw2)
    have hb := bnd hm; clear hm; obtain ⟨x2, hx2, hm⟩ := hb
    refine sd_ev rfl rfl rfl (ev_call en_57 rfl (ref03_IsList_w p0.Depth p1 _ _ _ _ _ hx2 _ B7)) ?_
    rintro _ w3 ⟨rfl, Gw3⟩
    have z8 := Gw3.size
    refine sd_vv rfl rfl rfl (vv_not rfl) ?_
    refine sd_done ?_
    refine sw_cond rfl (fun c2 => ?_) (fun c2 => ?_)
    ·
      replace hm := cnd_t c2 hm
      refine sw_seq ?_
      -- region 4 ref.go:231
      refine sw_region [(0, 0), (1, 0)] rfl rfl rfl ?_
      refine sd_vv rfl rfl rfl (vv_assign rfl) ?_
      refine sd_vv rfl rfl rfl (vv_assign rfl) ?_
      refine sd_done ?_
      refine sw_ret ?_
      refine then_r ?_
      have X9 : Gr w w3 := (Gr.trans (Gr.trans (Gr.trans (Gr.refl w) Gw1) Gw2) Gw3)
      have hr := Option.some.inj hm
      subst hr
      refine ⟨_, _, rfl, res_2 rfl (rv_tmp rfl) (rv_tmp rfl), ?_⟩
      exact ⟨(.slice none 0 0), 0, 0, rfl, (own_nil _ 0 47 2), ⟨.inl rfl⟩, X9⟩
    ·
      replace hm := cnd_f c2 hm
      refine sw_skip ?_
      refine then_n ?_
      refine sw_seq ?_
      -- region 5 ref.go:233
      refine sw_region [(0, 0), (1, 0), (2, 0), (3, 0), (4, 0)] rfl rfl rfl ?_
      have B10 := (Bx.gr B6 Gw3)
      refine sd_vv rfl rfl rfl (vv_loadW agg_45 rfl B10 rfl) ?_
      refine sd_vv rfl rfl rfl (vv_move rfl) ?_
      have B11 := (Rd.gr B7 Gw3)
      have hb := bnd hm; clear hm; obtain ⟨x3, hx3, hm⟩ := hb
      refine sd_ev rfl rfl rfl (ev_call en_117 rfl (ref03_CoverOf_w p0 p1 _ _ _ _ _ hx3 _ B11)) ?_
      rintro u4_r0_s w4 ⟨_, z4_r0_s, g4_r0_s, rfl, O4_r0_s, f4_r0_s, Gw4⟩
      have z12 := Gw4.size
      have lt13 := O4_r0_s.lth
      refine sd_vv rfl rfl rfl (vv_assign rfl) ?_
      refine sd_vv rfl rfl rfl (vv_assign rfl) ?_
      refine sd_done ?_
      refine sw_ret ?_
      have X14 : Gr w w4 := (Gr.trans (Gr.trans (Gr.trans (Gr.trans (Gr.refl w) Gw1) Gw2) Gw3) Gw4)
      have hr := Option.some.inj hm
      subst hr
      refine ⟨_, _, rfl, res_2 rfl (rv_tmp rfl) (rv_tmp rfl), ?_⟩
      exact ⟨u4_r0_s, z4_r0_s, g4_r0_s, rfl, O4_r0_s, ⟨(pv_0 (A := (fun x => w.heap.size ≤ x)) f4_r0_s)⟩, X14⟩

set_option maxHeartbeats 2000000 in
theorem ref03_SameSubsets_w (p0 : List TSubset) (p1 : List TSubset) (vp0 : Value) (zp0 gp0 op0 : Nat) (vp1 : Value) (zp1 gp1 op1 : Nat) (r : Bool) (hm : ref03_SameSubsets p0 p1 = some r) (w : World) (hp0 : Rd w zp0 gp0 op0 2 vp0 (p0.map TSubset.cs)) (hp1 : Rd w zp1 gp1 op1 2 vp1 (p1.map TSubset.cs))  :
    Calls Try.prog 30 [vp0, vp1].toArray w fun e w' => ∃ v, e = .returned v ∧ (v = .bool r ∧ Gr w w') := by
  have lt1 := hp0.lth
  have lt2 := hp1.lth
  unfold ref03_SameSubsets at hm
  refine calls_of_sw (R := fun v w' => v = .bool r ∧ Gr w w') 26 Try.func30 rfl rfl rfl ?_
  refine sw_seq ?_
  -- region 0 ref.go:591
  refine sw_region [(0, 0)] rfl rfl rfl ?_
  refine sd_vv rfl rfl rfl (vv_assign rfl) ?_
  refine sd_done ?_
  refine sw_seq ?_
  refine sw_seq ?_
  -- region 1 ref.go:592
  refine sw_region [(0, 0), (1, 0), (2, 0), (3, 0), (4, 0)] rfl rfl rfl ?_
  refine sd_vv rfl rfl rfl (vv_move rfl) ?_
  refine sd_vv rfl rfl rfl (vv_lenT (l := p0) (c := TSubset.cs) Try.underlying48 rfl hp0) ?_
  refine sd_vv rfl rfl rfl (vv_move rfl) ?_
  refine sd_vv rfl rfl rfl (vv_lenT (l := p1) (c := TSubset.cs) Try.underlying48 rfl hp1) ?_
  refine sd_vv rfl rfl rfl (vv_neq (a := (p0.length : Int)) (b := (p1.length : Int)) rfl rfl) ?_
  refine sd_done ?_
  refine sw_cond rfl (fun c1 => ?_) (fun c1 => ?_)
  ·
    replace hm := ite_t (of_decide_eq_true c1) hm
    refine sw_seq ?_
    -- region 2 ref.go:593
    refine sw_region [(0, 0)] rfl rfl rfl ?_
    refine sd_vv rfl rfl rfl (vv_assign rfl) ?_
    refine sd_done ?_
    refine sw_ret ?_
    refine then_r ?_
    have hr := Option.some.inj hm
    subst hr
    refine ⟨_, _, rfl, res_1 rfl (rv_tmp rfl), ?_⟩
    exact ⟨rfl, (Gr.refl w)⟩
  ·
    replace hm := ite_f (of_decide_eq_false c1) hm
    refine sw_skip ?_
    refine then_n ?_
    refine sw_seq ?_
    refine sw_seq ?_
    -- region 3 ref.go:595
    refine sw_region [(0, 0)] rfl rfl rfl ?_
    refine sd_vv rfl rfl rfl (vv_assign rfl) ?_
    refine sd_done ?_
    refine sw_block ?_
    refine sw_loopD (α := Nat × Int) [4, 5, 11, 12, 13, 14, 15, 16, 17, 18, 19, 20, 21, 22, 23, 24, 25] (fun ⟨n1, a2⟩ => [(4, .bool false), (5, .int .i64 a2)]) (fun ⟨n1, a2⟩ wr => (fixN (ref03_SameSubsets_L1 p0 p1) n1 a2 = some r) ∧ Kz [] w wr) (fun ⟨n1, a2⟩ => n1) ⟨FUEL, 0⟩ ?_ ?_ ?_
    · repeat' first | exact trivial | refine ⟨rfl, ?_⟩
    · exact ⟨hm, Kz.refl _ _⟩
    · clear hm; rintro ⟨n1, a2⟩ w1 ⟨hm, Kw1⟩
      have z3 := Kw1.size
      have hb := fix_succ hm; clear hm; obtain ⟨n1, rfl, hm⟩ := hb
      generalize hrec1 : fixN (ref03_SameSubsets_L1 p0 p1) n1 = rec1 at hm
      unfold ref03_SameSubsets_L1 at hm
      try dsimp only at hm
      refine sw_seq ?_
      refine sw_seq ?_
      -- region 4 ref.go:595
      refine sw_region [(0, 0), (1, 0), (2, 0), (3, 0)] rfl rfl rfl ?_
      refine sd_vv rfl rfl rfl (vv_move rfl) ?_
      refine sd_vv rfl rfl rfl (vv_move rfl) ?_
      have B4 := (Rd.kz hp0 Kw1)
      refine sd_vv rfl rfl rfl (vv_lenT (l := p0) (c := TSubset.cs) Try.underlying48 rfl B4) ?_
      refine sd_vv rfl rfl rfl (vv_lss (a := a2) (b := (p0.length : Int)) rfl rfl) ?_
      refine sd_done ?_
      refine sw_cond rfl (fun c2 => ?_) (fun c2 => ?_)
      ·
        replace hm := ite_t (of_decide_eq_true c2) hm
        refine sw_skip ?_
        refine then_n ?_
        refine sw_seq ?_
        refine sw_block ?_
        refine sw_seq ?_
        -- region 6 ref.go:596 DRAWS
        refine sw_drawN [([])] [] (.leaf [(0, 10), (1, 10), (2, 10), (3, 10), (4, 10), (5, 10), (6, 10), (7, 10), (8, 10)]) (by kernel_rfl) (by kernel_rfl) rfl (by kernel_rfl) ?_
        intro w2 Gw2 zw2
        refine sdz_leaf ?_
        refine dd_hn 0 rfl rfl rfl rfl (Kp.refl ([]) w2) (fun w hS => vv_move rfl) ?_
        refine dd_hn 0 rfl rfl rfl rfl (Kp.refl ([]) w2) (fun w hS => vv_move rfl) ?_
        have hb := bnd hm; clear hm; obtain ⟨y3, hy3, hm⟩ := hb
        have B5 := (Rd.gr B4 Gw2)
        refine dd_hn 0 rfl rfl rfl rfl (Kp.refl ([]) w2) (fun w hS => vv_ixT (i := a2) Try.underlying48 (agg_47).siz rfl (Rd.kp B5 hS) rfl hy3) ?_
        refine dd_hn 0 rfl rfl rfl rfl (Kp.refl ([]) w2) (fun w hS => vv_elWT agg_47 rfl (Rd.kp B5 hS) hy3 (by first | rfl | omega)) ?_
        refine dd_hn 0 rfl rfl rfl rfl (Kp.refl ([]) w2) (fun w hS => vv_move rfl) ?_
        refine dd_hn 0 rfl rfl rfl rfl (Kp.refl ([]) w2) (fun w hS => vv_move rfl) ?_
        have hb := bnd hm; clear hm; obtain ⟨y4, hy4, hm⟩ := hb
        have B6 := (Rd.gr (Rd.kz hp1 Kw1) Gw2)
        refine dd_hn 0 rfl rfl rfl rfl (Kp.refl ([]) w2) (fun w hS => vv_ixT (i := a2) Try.underlying48 (agg_47).siz rfl (Rd.kp B6 hS) rfl hy4) ?_
        refine dd_hn 0 rfl rfl rfl rfl (Kp.refl ([]) w2) (fun w hS => vv_elWT agg_47 rfl (Rd.kp B6 hS) hy4 (by first | rfl | omega)) ?_
        refine dd_hn 0 rfl rfl rfl rfl (Kp.refl ([]) w2) (fun w hS => vv_neqS (cf := TSubset.cs) (a := y3) (b := y4) eqt_47 rfl rfl rfl rfl (fun h => TSubset.cs_inj h)) ?_
        refine sd_done ?_
        refine sw_cond rfl (fun c3 => ?_) (fun c3 => ?_)
        ·
          replace hm := ite_t (of_decide_eq_true c3) hm
          refine sw_seq ?_
          -- region 7 ref.go:597
          refine sw_region [(0, 0)] rfl rfl rfl ?_
          refine sd_vv rfl rfl rfl (vv_assign rfl) ?_
          refine sd_done ?_
          refine sw_ret ?_
          refine block_r ?_
          refine then_r ?_
          refine then_r ?_
          refine block_r ?_
          refine then_r ?_
          have X7 : Gr w w2 := (Gr.trans (Gr.kz (Gr.refl w) Kw1) Gw2)
          have hr := Option.some.inj hm
          subst hr
          refine ⟨_, _, rfl, res_1 rfl (rv_tmp rfl), ?_⟩
          exact ⟨rfl, X7⟩
        ·
          replace hm := ite_f (of_decide_eq_false c3) hm
          refine sw_skip ?_
          refine block_n ?_
          refine then_n ?_
          -- region 5 ref.go:595
          refine sw_region [(0, 0), (1, 0), (2, 0)] rfl rfl rfl ?_
          refine sd_vv rfl rfl rfl (vv_move rfl) ?_
          refine sd_vv rfl rfl rfl (vv_add (k := .i64) (a := a2) (b := 1) rfl rfl) ?_
          refine sd_vv rfl rfl rfl (vv_assign rfl) ?_
          refine sd_nil ?_
          have K_8 : Kz [] w w2 := (Kz.gr Kw1 Gw2)
          subst hrec1
          refine ⟨rfl, ⟨n1, w64 (a2 + 1)⟩, ?_, ⟨hm, K_8⟩, Nat.lt_succ_self _⟩
          repeat' first | exact trivial | refine ⟨rfl, ?_⟩
      ·
        replace hm := ite_f (of_decide_eq_false c2) hm
        refine sw_exit ?_
        refine then_x ?_
        refine then_x ?_
        refine block_x ?_
        refine then_n ?_
        refine sw_seq ?_
        -- region 8 ref.go:600
        refine sw_region [(0, 0)] rfl rfl rfl ?_
        refine sd_vv rfl rfl rfl (vv_assign rfl) ?_
        refine sd_done ?_
        refine sw_ret ?_
        have X9 : Gr w w1 := (Gr.kz (Gr.refl w) Kw1)
        have hr := Option.some.inj hm
        subst hr
        refine ⟨_, _, rfl, res_1 rfl (rv_tmp rfl), ?_⟩
        exact ⟨rfl, X9⟩

set_option maxHeartbeats 2000000 in
theorem ref03_SameInts_w (p0 : List Int) (p1 : List Int) (vp0 : Value) (zp0 gp0 op0 : Nat) (vp1 : Value) (zp1 gp1 op1 : Nat) (r : Bool) (hm : ref03_SameInts p0 p1 = some r) (w : World) (hp0 : Rd w zp0 gp0 op0 1 vp0 (p0.map ic)) (hp1 : Rd w zp1 gp1 op1 1 vp1 (p1.map ic))  :
    Calls Try.prog 37 [vp0, vp1].toArray w fun e w' => ∃ v, e = .returned v ∧ (v = .bool r ∧ Gr w w') := by
  have lt1 := hp0.lth
  have lt2 := hp1.lth
  unfold ref03_SameInts at hm
  refine calls_of_sw (R := fun v w' => v = .bool r ∧ Gr w w') 26 Try.func37 rfl rfl rfl ?_
  refine sw_seq ?_
  -- region 0 ref.go:604
  refine sw_region [(0, 0)] rfl rfl rfl ?_
  refine sd_vv rfl rfl rfl (vv_assign rfl) ?_
  refine sd_done ?_
  refine sw_seq ?_
  refine sw_seq ?_
  -- region 1 ref.go:605
  refine sw_region [(0, 0), (1, 0), (2, 0), (3, 0), (4, 0)] rfl rfl rfl ?_
  refine sd_vv rfl rfl rfl (vv_move rfl) ?_
  refine sd_vv rfl rfl rfl (vv_lenT (l := p0) (c := ic) Try.underlying61 rfl hp0) ?_
  refine sd_vv rfl rfl rfl (vv_move rfl) ?_
  refine sd_vv rfl rfl rfl (vv_lenT (l := p1) (c := ic) Try.underlying61 rfl hp1) ?_
  refine sd_vv rfl rfl rfl (vv_neq (a := (p0.length : Int)) (b := (p1.length : Int)) rfl rfl) ?_
  refine sd_done ?_
  refine sw_cond rfl (fun c1 => ?_) (fun c1 => ?_)
  ·
    replace hm := ite_t (of_decide_eq_true c1) hm
    refine sw_seq ?_
    -- region 2 ref.go:606
    refine sw_region [(0, 0)] rfl rfl rfl ?_
    refine sd_vv rfl rfl rfl (vv_assign rfl) ?_
    refine sd_done ?_
    refine sw_ret ?_
    refine then_r ?_
    have hr := Option.some.inj hm
    subst hr
    refine ⟨_, _, rfl, res_1 rfl (rv_tmp rfl), ?_⟩
    exact ⟨rfl, (Gr.refl w)⟩
  ·
    replace hm := ite_f (of_decide_eq_false c1) hm
    refine sw_skip ?_
    refine then_n ?_
    refine sw_seq ?_
    refine sw_seq ?_
    -- region 3 ref.go:608
    refine sw_region [(0, 0)] rfl rfl rfl ?_
    refine sd_vv rfl rfl rfl (vv_assign rfl) ?_
    refine sd_done ?_
    refine sw_block ?_
    refine sw_loopD (α := Nat × Int) [4, 5, 11, 12, 13, 14, 15, 16, 17, 18, 19, 20, 21, 22, 23, 24, 25] (fun ⟨n1, a2⟩ => [(4, .bool false), (5, .int .i64 a2)]) (fun ⟨n1, a2⟩ wr => (fixN (ref03_SameInts_L1 p0 p1) n1 a2 = some r) ∧ Kz [] w wr) (fun ⟨n1, a2⟩ => n1) ⟨FUEL, 0⟩ ?_ ?_ ?_
    · repeat' first | exact trivial | refine ⟨rfl, ?_⟩
    · exact ⟨hm, Kz.refl _ _⟩
    · clear hm; rintro ⟨n1, a2⟩ w1 ⟨hm, Kw1⟩
      have z3 := Kw1.size
      have hb := fix_succ hm; clear hm; obtain ⟨n1, rfl, hm⟩ := hb
      generalize hrec1 : fixN (ref03_SameInts_L1 p0 p1) n1 = rec1 at hm
      unfold ref03_SameInts_L1 at hm
      try dsimp only at hm
      refine sw_seq ?_
      refine sw_seq ?_
      -- region 4 ref.go:608
      refine sw_region [(0, 0), (1, 0), (2, 0), (3, 0)] rfl rfl rfl ?_
      refine sd_vv rfl rfl rfl (vv_move rfl) ?_
      refine sd_vv rfl rfl rfl (vv_move rfl) ?_
      have B4 := (Rd.kz hp0 Kw1)
      refine sd_vv rfl rfl rfl (vv_lenT (l := p0) (c := ic) Try.underlying61 rfl B4) ?_
      refine sd_vv rfl rfl rfl (vv_lss (a := a2) (b := (p0.length : Int)) rfl rfl) ?_
      refine sd_done ?_
      refine sw_cond rfl (fun c2 => ?_) (fun c2 => ?_)
      ·
        replace hm := ite_t (of_decide_eq_true c2) hm
        refine sw_skip ?_
        refine then_n ?_
        refine sw_seq ?_
        refine sw_block ?_
        refine sw_seq ?_
        -- region 6 ref.go:609 DRAWS
        refine sw_drawN [([])] [] (.leaf [(0, 10), (1, 10), (2, 10), (3, 10), (4, 10), (5, 10), (6, 10), (7, 10), (8, 10)]) (by kernel_rfl) (by kernel_rfl) rfl (by kernel_rfl) ?_
        intro w2 Gw2 zw2
        refine sdz_leaf ?_
        refine dd_hn 0 rfl rfl rfl rfl (Kp.refl ([]) w2) (fun w hS => vv_move rfl) ?_
        refine dd_hn 0 rfl rfl rfl rfl (Kp.refl ([]) w2) (fun w hS => vv_move rfl) ?_
        have hb := bnd hm; clear hm; obtain ⟨y3, hy3, hm⟩ := hb
        have B5 := (Rd.gr B4 Gw2)
        refine dd_hn 0 rfl rfl rfl rfl (Kp.refl ([]) w2) (fun w hS => vv_ixT (i := a2) Try.underlying61 (one_3).siz rfl (Rd.kp B5 hS) rfl hy3) ?_
        refine dd_hn 0 rfl rfl rfl rfl (Kp.refl ([]) w2) (fun w hS => vv_el1T (q := 0) (u := .int .i64 y3) one_3 rfl (Rd.kp B5 hS) hy3 (by first | rfl | omega) rfl) ?_
        refine dd_hn 0 rfl rfl rfl rfl (Kp.refl ([]) w2) (fun w hS => vv_move rfl) ?_
        refine dd_hn 0 rfl rfl rfl rfl (Kp.refl ([]) w2) (fun w hS => vv_move rfl) ?_
        have hb := bnd hm; clear hm; obtain ⟨y4, hy4, hm⟩ := hb
        have B6 := (Rd.gr (Rd.kz hp1 Kw1) Gw2)
        refine dd_hn 0 rfl rfl rfl rfl (Kp.refl ([]) w2) (fun w hS => vv_ixT (i := a2) Try.underlying61 (one_3).siz rfl (Rd.kp B6 hS) rfl hy4) ?_
        refine dd_hn 0 rfl rfl rfl rfl (Kp.refl ([]) w2) (fun w hS => vv_el1T (q := 0) (u := .int .i64 y4) one_3 rfl (Rd.kp B6 hS) hy4 (by first | rfl | omega) rfl) ?_
        refine dd_hn 0 rfl rfl rfl rfl (Kp.refl ([]) w2) (fun w hS => vv_neq (a := y3) (b := y4) rfl rfl) ?_
        refine sd_done ?_
        refine sw_cond rfl (fun c3 => ?_) (fun c3 => ?_)
        ·
          replace hm := ite_t (of_decide_eq_true c3) hm
          refine sw_seq ?_
          -- region 7 ref.go:610
          refine sw_region [(0, 0)] rfl rfl rfl ?_
          refine sd_vv rfl rfl rfl (vv_assign rfl) ?_
          refine sd_done ?_
          refine sw_ret ?_
          refine block_r ?_
          refine then_r ?_
          refine then_r ?_
          refine block_r ?_
          refine then_r ?_
          have X7 : Gr w w2 := (Gr.trans (Gr.kz (Gr.refl w) Kw1) Gw2)
          have hr := Option.some.inj hm
          subst hr
          refine ⟨_, _, rfl, res_1 rfl (rv_tmp rfl), ?_⟩
          exact ⟨rfl, X7⟩
        ·
          replace hm := ite_f (of_decide_eq_false c3) hm
          refine sw_skip ?_
          refine block_n ?_
          refine then_n ?_
          -- region 5 ref.go:608
          refine sw_region [(0, 0), (1, 0), (2, 0)] rfl rfl rfl ?_
          refine sd_vv rfl rfl rfl (vv_move rfl) ?_
          refine sd_vv rfl rfl rfl (vv_add (k := .i64) (a := a2) (b := 1) rfl rfl) ?_
          refine sd_vv rfl rfl rfl (vv_assign rfl) ?_
          refine sd_nil ?_
          have K_8 : Kz [] w w2 := (Kz.gr Kw1 Gw2)
          subst hrec1
          refine ⟨rfl, ⟨n1, w64 (a2 + 1)⟩, ?_, ⟨hm, K_8⟩, Nat.lt_succ_self _⟩
          repeat' first | exact trivial | refine ⟨rfl, ?_⟩
      ·
        replace hm := ite_f (of_decide_eq_false c2) hm
        refine sw_exit ?_
        refine then_x ?_
        refine then_x ?_
        refine block_x ?_
        refine then_n ?_
        refine sw_seq ?_
        -- region 8 ref.go:613
        refine sw_region [(0, 0)] rfl rfl rfl ?_
        refine sd_vv rfl rfl rfl (vv_assign rfl) ?_
        refine sd_done ?_
        refine sw_ret ?_
        have X9 : Gr w w1 := (Gr.kz (Gr.refl w) Kw1)
        have hr := Option.some.inj hm
        subst hr
        refine ⟨_, _, rfl, res_1 rfl (rv_tmp rfl), ?_⟩
        exact ⟨rfl, X9⟩
end Go.Proofs.Ytecempahccgijaa.Mx
