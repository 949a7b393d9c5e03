/- Walks that follow mirrors: Cr. Printed by mx.py. -/
import Derived.Test.YtecempahccgijaaCa
import Derived.Test.YtecempahccgijaaCrM
set_option linter.unusedVariables false
set_option linter.unusedSimpArgs false
set_option maxRecDepth 100000
namespace Go.Proofs.Ytecempahccgijaa.Mx
open Go Go.RowKit Go.Sx
theorem fa_45_2 : FA Try.prog 45 2 2 := fun _ _ _ => by kernel_rfl
theorem fa_45_3 : FA Try.prog 45 3 3 := fun _ _ _ => by kernel_rfl
theorem zv_43 : ZV Try.prog 43 (.agg [.int .u64 0, .int .u64 0, .int .u64 0].toArray) := fun _ => by kernel_rfl
theorem bs_43 : BS Try.prog 43 (fun i => [(0, 1), (1, 1), (2, 1)][i]?) [.int .u64 0, .int .u64 0, .int .u64 0] := bs_mk Try.underlying43 zv_43 ⟨rfl, (one_23).siz, rfl, (one_23).siz, rfl, (one_23).siz, trivial⟩
theorem eqt_43 : EqT Try.prog 43 [.u64, .u64, .u64] := ⟨by kernel_rfl, agg_43, 2, by decide, eqc_43⟩
theorem en_59 : En Try.prog 59 := fun _ _ => by kernel_rfl
theorem en_118 : En Try.prog 118 := fun _ _ => by kernel_rfl
theorem en_119 : En Try.prog 119 := fun _ _ => by kernel_rfl
theorem en_60 : En Try.prog 60 := fun _ _ => by kernel_rfl
theorem en_153 : En Try.prog 153 := fun _ _ => by kernel_rfl
theorem en_154 : En Try.prog 154 := fun _ _ => by kernel_rfl
theorem en_120 : En Try.prog 120 := fun _ _ => by kernel_rfl
theorem en_108 : En Try.prog 108 := fun _ _ => by kernel_rfl
theorem en_121 : En Try.prog 121 := fun _ _ => by kernel_rfl
theorem en_62 : En Try.prog 62 := fun _ _ => by kernel_rfl
theorem en_106 : En Try.prog 106 := fun _ _ => by kernel_rfl
theorem en_85 : En Try.prog 85 := fun _ _ => by kernel_rfl
theorem eqc_47 : EqC Try.prog 2 47 [.i64, .i64] := eqc_struct Try.underlying47 (by kernel_rfl) agg_47 (show EqF _ 1 _ _ _ from (eqf_cons (ks1 := [.i64]) (ks2 := [.i64]) rfl (by simp) (eqc_3.up (by decide)) (eqf_cons (ks1 := [.i64]) (ks2 := []) rfl (by simp) (eqc_3.up (by decide)) (eqf_nil _))))
theorem eqt_47 : EqT Try.prog 47 [.i64, .i64] := ⟨by kernel_rfl, agg_47, 2, by decide, eqc_47⟩
theorem fa_74_0 : FA Try.prog 74 0 0 := fun _ _ _ => by kernel_rfl
theorem fa_74_2 : FA Try.prog 74 2 2 := fun _ _ _ => by kernel_rfl
theorem agg_72 : Agg Try.prog 72 2 := fun _ => ⟨by kernel_rfl, by kernel_rfl⟩
theorem eqc_72 : EqC Try.prog 2 72 [.u64, .u64] := eqc_struct Try.underlying72 (by kernel_rfl) agg_72 (show EqF _ 1 _ _ _ from (eqf_cons (ks1 := [.u64]) (ks2 := [.u64]) rfl (by simp) (eqc_23.up (by decide)) (eqf_cons (ks1 := [.u64]) (ks2 := []) rfl (by simp) (eqc_23.up (by decide)) (eqf_nil _))))
theorem eqt_72 : EqT Try.prog 72 [.u64, .u64] := ⟨by kernel_rfl, agg_72, 2, by decide, eqc_72⟩
theorem eqc_26 : EqC Try.prog 2 26 [.u8, .u8, .u8, .u8, .u8, .u8, .u8, .u8, .u8, .u8, .u8, .u8, .u8, .u8, .u8, .u8] := eqc_array (ks := [.u8]) Try.underlying26 (infoE (by kernel_rfl)).choose_spec (by kernel_rfl) agg_26 eqc_5
theorem eqc_81 : EqC Try.prog 3 81 [.i64, .i64, .u8, .u8, .u8, .u8, .u8, .u8, .u8, .u8, .u8, .u8, .u8, .u8, .u8, .u8, .u8, .u8] := eqc_struct Try.underlying81 (by kernel_rfl) agg_81 (show EqF _ 2 _ _ _ from (eqf_cons (ks1 := [.i64]) (ks2 := [.i64, .u8, .u8, .u8, .u8, .u8, .u8, .u8, .u8, .u8, .u8, .u8, .u8, .u8, .u8, .u8, .u8]) rfl (by simp) (eqc_3.up (by decide)) (eqf_cons (ks1 := [.i64]) (ks2 := [.u8, .u8, .u8, .u8, .u8, .u8, .u8, .u8, .u8, .u8, .u8, .u8, .u8, .u8, .u8, .u8]) rfl (by simp) (eqc_3.up (by decide)) (eqf_cons (ks1 := [.u8, .u8, .u8, .u8, .u8, .u8, .u8, .u8, .u8, .u8, .u8, .u8, .u8, .u8, .u8, .u8]) (ks2 := []) rfl (by simp) (eqc_26.up (by decide)) (eqf_nil _)))))
theorem eqt_81 : EqT Try.prog 81 [.i64, .i64, .u8, .u8, .u8, .u8, .u8, .u8, .u8, .u8, .u8, .u8, .u8, .u8, .u8, .u8, .u8, .u8] := ⟨by kernel_rfl, agg_81, 3, by decide, eqc_81⟩
theorem fa_28_0 : FA Try.prog 28 0 0 := fun _ _ _ => by kernel_rfl
theorem one_22 : One Try.prog 22 := fun _ => ⟨by kernel_rfl, by kernel_rfl⟩
theorem fa_28_2 : FA Try.prog 28 2 2 := fun _ _ _ => by kernel_rfl
theorem one_24 : One Try.prog 24 := fun _ => ⟨by kernel_rfl, by kernel_rfl⟩
theorem fa_28_1 : FA Try.prog 28 1 1 := fun _ _ _ => by kernel_rfl
theorem fa_28_3 : FA Try.prog 28 3 3 := fun _ _ _ => by kernel_rfl
theorem eqt_26 : EqT Try.prog 26 [.u8, .u8, .u8, .u8, .u8, .u8, .u8, .u8, .u8, .u8, .u8, .u8, .u8, .u8, .u8, .u8] := ⟨by kernel_rfl, agg_26, 2, by decide, eqc_26⟩
theorem fa_28_4 : FA Try.prog 28 4 19 := fun _ _ _ => by kernel_rfl
theorem agg_108 : Agg Try.prog 108 18 := fun _ => ⟨by kernel_rfl, by kernel_rfl⟩
theorem eqc_108 : EqC Try.prog 3 108 [.i64, .i64, .u8, .u8, .u8, .u8, .u8, .u8, .u8, .u8, .u8, .u8, .u8, .u8, .u8, .u8, .u8, .u8] := eqc_struct Try.underlying108 (by kernel_rfl) agg_108 (show EqF _ 2 _ _ _ from (eqf_cons (ks1 := [.i64, .i64]) (ks2 := [.u8, .u8, .u8, .u8, .u8, .u8, .u8, .u8, .u8, .u8, .u8, .u8, .u8, .u8, .u8, .u8]) rfl (by simp) (eqc_47.up (by decide)) (eqf_cons (ks1 := [.u8, .u8, .u8, .u8, .u8, .u8, .u8, .u8, .u8, .u8, .u8, .u8, .u8, .u8, .u8, .u8]) (ks2 := []) rfl (by simp) (eqc_26.up (by decide)) (eqf_nil _))))
theorem eqt_108 : EqT Try.prog 108 [.i64, .i64, .u8, .u8, .u8, .u8, .u8, .u8, .u8, .u8, .u8, .u8, .u8, .u8, .u8, .u8, .u8, .u8] := ⟨by kernel_rfl, agg_108, 3, by decide, eqc_108⟩
theorem zv_74 : ZV Try.prog 74 (.agg [.int .i64 0, .slice none 0 0, .int .u64 0, .int .u64 0].toArray) := fun _ => by kernel_rfl
theorem apt_70 : ApT Try.prog 70 81 18 32 := apt_mk Try.underlying70 rfl (by kernel_rfl)
theorem zv_28 : ZV Try.prog 28 (.agg [.slice none 0 0, .int .u64 0, .slice none 0 0, .int .u8 0, .int .u8 0, .int .u8 0, .int .u8 0, .int .u8 0, .int .u8 0, .int .u8 0, .int .u8 0, .int .u8 0, .int .u8 0, .int .u8 0, .int .u8 0, .int .u8 0, .int .u8 0, .int .u8 0, .int .u8 0, .int .u8 0, .int .u8 0, .int .u8 0, .int .u8 0, .int .u8 0, .int .u8 0, .int .u8 0, .int .u8 0, .int .u8 0, .int .u8 0, .int .u8 0, .int .u8 0, .int .u8 0, .int .u8 0, .int .u8 0, .int .u8 0].toArray) := fun _ => by kernel_rfl
theorem apt_22 : ApT Try.prog 22 108 18 32 := apt_mk Try.underlying22 rfl (by kernel_rfl)
theorem apt_24 : ApT Try.prog 24 72 2 16 := apt_mk Try.underlying24 rfl (by kernel_rfl)
theorem agg_28 : Agg Try.prog 28 35 := fun _ => ⟨by kernel_rfl, by kernel_rfl⟩
theorem en_81 : En Try.prog 81 := fun _ _ => by kernel_rfl
theorem cv_3_23 : CV Try.prog 3 23 .u64 := fun _ _ _ => by kernel_rfl
theorem en_89 : En Try.prog 89 := fun _ _ => by kernel_rfl
theorem en_159 : En Try.prog 159 := fun _ _ => by kernel_rfl
theorem en_146 : En Try.prog 146 := fun _ _ => by kernel_rfl
theorem en_142 : En Try.prog 142 := fun _ _ => by kernel_rfl
theorem en_91 : En Try.prog 91 := fun _ _ => by kernel_rfl
theorem en_145 : En Try.prog 145 := fun _ _ => by kernel_rfl
theorem en_102 : En Try.prog 102 := fun _ _ => by kernel_rfl

set_option maxHeartbeats 2000000 in
theorem ref03_Valid_w (p0 : TScheme)  (r : Bool) (hm : ref03_Valid p0 = some r) (w : World)   :
    Calls Try.prog 59 [.agg (TScheme.cs p0).toArray].toArray w fun e w' => ∃ v, e = .returned v ∧ (v = .bool r ∧ Gr w w') := by
  unfold ref03_Valid at hm
  refine calls_of_sw (R := fun v w' => v = .bool r ∧ Gr w w') 32 Try.func59 rfl rfl rfl ?_
  refine sw_seq ?_
  -- region 0 ref.go:29
  refine sw_region [(0, 0), (1, 0)] rfl rfl rfl ?_
  refine sd_ev rfl rfl rfl (ev_box (cs := TScheme.cs p0) rfl rfl) ?_
  rintro _ w1 ⟨b1, rfl, hbw1, Bw1, Gw1⟩
  have z1 := Gw1.size
  have lt2 := Bw1.lt
  refine sd_vv rfl rfl rfl (vv_assign rfl) ?_
  refine sd_done ?_
  refine sw_seq ?_
  -- region 1 ref.go:30
  refine sw_region [(0, 0), (1, 0), (2, 0), (3, 0), (4, 0), (5, 0), (6, 0), (7, 0), (8, 0), (9, 0), (10, 0), (11, 0), (12, 0), (13, 0), (14, 0), (15, 0), (16, 0), (17, 0), (18, 0), (19, 0), (20, 0), (21, 0), (22, 0), (23, 0), (24, 0), (25, 0), (26, 0), (27, 0), (28, 0), (29, 0)] rfl rfl rfl ?_
  refine sd_vv rfl rfl rfl (vv_fieldAddr fa_45_0 rfl) ?_
  refine sd_vv rfl rfl rfl (vv_load1 (v := bv p0.Kind) one_5 rfl Bw1 rfl) ?_
  refine sd_vv rfl rfl rfl (vv_geqB (p := p0.Kind) (q := 1#8) rfl rfl) ?_
  refine sd_split rfl rfl rfl (vv_move rfl) (fun c1 => ?_) (fun c1 => ?_)
  ·
    replace hm := ite_t (of_decide_eq_true c1) hm
    refine sd_vv rfl rfl rfl (vv_fieldAddr fa_45_0 rfl) ?_
    refine sd_vv rfl rfl rfl (vv_load1 (v := bv p0.Kind) one_5 rfl Bw1 rfl) ?_
    refine sd_vv rfl rfl rfl (vv_leqB (p := p0.Kind) (q := 3#8) rfl rfl) ?_
    refine sd_vv rfl rfl rfl (vv_pickT rfl rfl) ?_
    refine sd_split rfl rfl rfl (vv_move rfl) (fun c2 => ?_) (fun c2 => ?_)
    ·
      replace hm := ite_t (of_decide_eq_true c2) hm
      refine sd_vv rfl rfl rfl (vv_fieldAddr fa_45_1 rfl) ?_
      refine sd_vv rfl rfl rfl (vv_load1 (v := .int .i64 p0.Depth) one_3 rfl Bw1 rfl) ?_
      refine sd_vv rfl rfl rfl (vv_geq (a := p0.Depth) (b := 0) rfl rfl) ?_
      refine sd_vv rfl rfl rfl (vv_pickT rfl rfl) ?_
      refine sd_split rfl rfl rfl (vv_move rfl) (fun c3 => ?_) (fun c3 => ?_)
      ·
        replace hm := ite_t (of_decide_eq_true c3) hm
        refine sd_vv rfl rfl rfl (vv_fieldAddr fa_45_1 rfl) ?_
        refine sd_vv rfl rfl rfl (vv_load1 (v := .int .i64 p0.Depth) one_3 rfl Bw1 rfl) ?_
        refine sd_vv rfl rfl rfl (vv_leq (a := p0.Depth) (b := 6) rfl rfl) ?_
        refine sd_vv rfl rfl rfl (vv_pickT rfl rfl) ?_
        refine sd_split rfl rfl rfl (vv_move rfl) (fun c4 => ?_) (fun c4 => ?_)
        ·
          replace hm := ite_t (of_decide_eq_true c4) hm
          refine sd_vv rfl rfl rfl (vv_fieldAddr fa_45_2 rfl) ?_
          refine sd_vv rfl rfl rfl (vv_load1 (v := .int .i64 p0.Degree) one_3 rfl Bw1 rfl) ?_
          refine sd_vv rfl rfl rfl (vv_eql (a := p0.Degree) (b := 0) rfl rfl) ?_
          refine sd_vv rfl rfl rfl (vv_pickT rfl rfl) ?_
          refine sd_split rfl rfl rfl (vv_move rfl) (fun c5 => ?_) (fun c5 => ?_)
          ·
            replace hm := ite_t (of_decide_eq_true c5) hm
            refine sd_vv rfl rfl rfl (vv_fieldAddr fa_45_3 rfl) ?_
            refine sd_vv rfl rfl rfl (vv_loadM (vs := TGroup.cs p0.Group) agg_43 rfl Bw1 rfl rfl) ?_
            refine sd_vv rfl rfl rfl (vv_build (cs := TGroup.cs (TGroup.mk 0#64 0#64 0#64)) bs_43 rfl rfl) ?_
            refine sd_vv rfl rfl rfl (vv_eqlS (cf := TGroup.cs) (a := p0.Group) (b := (TGroup.mk 0#64 0#64 0#64)) eqt_43 rfl rfl rfl rfl (fun h => TGroup.cs_inj h)) ?_
            refine sd_vv rfl rfl rfl (vv_pickT rfl rfl) ?_
            refine sd_vv rfl rfl rfl (vv_assign rfl) ?_
            refine sd_done ?_
            refine sw_ret ?_
            have X3 : Gr w w1 := (Gr.trans (Gr.refl w) Gw1)
            have hr := Option.some.inj hm
            subst hr
            refine ⟨_, _, rfl, res_1 rfl (rv_tmp rfl), ?_⟩
            exact ⟨rfl, X3⟩
          ·
            replace hm := ite_f (of_decide_eq_false c5) hm
            refine sd_skip rfl rfl rfl ?_
            refine sd_skip rfl rfl rfl ?_
            refine sd_skip rfl rfl rfl ?_
            refine sd_skip rfl rfl rfl ?_
            refine sd_vv rfl rfl rfl (vv_pickF rfl rfl) ?_
            refine sd_vv rfl rfl rfl (vv_assign rfl) ?_
            refine sd_done ?_
            refine sw_ret ?_
            have X4 : Gr w w1 := (Gr.trans (Gr.refl w) Gw1)
            have hr := Option.some.inj hm
            subst hr
            refine ⟨_, _, rfl, res_1 rfl (rv_tmp rfl), ?_⟩
            exact ⟨rfl, X4⟩
        ·
          replace hm := ite_f (of_decide_eq_false c4) hm
          refine sd_skip rfl rfl rfl ?_
          refine sd_skip rfl rfl rfl ?_
          refine sd_skip rfl rfl rfl ?_
          refine sd_vv rfl rfl rfl (vv_pickF rfl rfl) ?_
          refine sd_vv rfl rfl rfl (vv_move rfl) ?_
          refine sd_skip rfl rfl rfl ?_
          refine sd_skip rfl rfl rfl ?_
          refine sd_skip rfl rfl rfl ?_
          refine sd_skip rfl rfl rfl ?_
          refine sd_vv rfl rfl rfl (vv_pickF rfl rfl) ?_
          refine sd_vv rfl rfl rfl (vv_assign rfl) ?_
          refine sd_done ?_
          refine sw_ret ?_
          have X5 : Gr w w1 := (Gr.trans (Gr.refl w) Gw1)
          have hr := Option.some.inj hm
          subst hr
          refine ⟨_, _, rfl, res_1 rfl (rv_tmp rfl), ?_⟩
          exact ⟨rfl, X5⟩
      ·
        replace hm := ite_f (of_decide_eq_false c3) hm
        refine sd_skip rfl rfl rfl ?_
        refine sd_skip rfl rfl rfl ?_
        refine sd_skip rfl rfl rfl ?_
        refine sd_vv rfl rfl rfl (vv_pickF rfl rfl) ?_
        refine sd_vv rfl rfl rfl (vv_move rfl) ?_
        refine sd_skip rfl rfl rfl ?_
        refine sd_skip rfl rfl rfl ?_
        refine sd_skip rfl rfl rfl ?_
        refine sd_vv rfl rfl rfl (vv_pickF rfl rfl) ?_
        refine sd_vv rfl rfl rfl (vv_move rfl) ?_
        refine sd_skip rfl rfl rfl ?_
        refine sd_skip rfl rfl rfl ?_
        refine sd_skip rfl rfl rfl ?_
        refine sd_skip rfl rfl rfl ?_
        refine sd_vv rfl rfl rfl (vv_pickF rfl rfl) ?_
        refine sd_vv rfl rfl rfl (vv_assign rfl) ?_
        refine sd_done ?_
        refine sw_ret ?_
        have X6 : Gr w w1 := (Gr.trans (Gr.refl w) Gw1)
        have hr := Option.some.inj hm
        subst hr
        refine ⟨_, _, rfl, res_1 rfl (rv_tmp rfl), ?_⟩
        exact ⟨rfl, X6⟩
    ·
      replace hm := ite_f (of_decide_eq_false c2) hm
      refine sd_skip rfl rfl rfl ?_
      refine sd_skip rfl rfl rfl ?_
      refine sd_skip rfl rfl rfl ?_
      refine sd_vv rfl rfl rfl (vv_pickF rfl rfl) ?_
      refine sd_vv rfl rfl rfl (vv_move rfl) ?_
      refine sd_skip rfl rfl rfl ?_
      refine sd_skip rfl rfl rfl ?_
      refine sd_skip rfl rfl rfl ?_
      refine sd_vv rfl rfl rfl (vv_pickF rfl rfl) ?_
      refine sd_vv rfl rfl rfl (vv_move rfl) ?_
      refine sd_skip rfl rfl rfl ?_
      refine sd_skip rfl rfl rfl ?_
      refine sd_skip rfl rfl rfl ?_
      refine sd_vv rfl rfl rfl (vv_pickF rfl rfl) ?_
      refine sd_vv rfl rfl rfl (vv_move rfl) ?_
      refine sd_skip rfl rfl rfl ?_
      refine sd_skip rfl rfl rfl ?_
      refine sd_skip rfl rfl rfl ?_
      refine sd_skip rfl rfl rfl ?_
      refine sd_vv rfl rfl rfl (vv_pickF rfl rfl) ?_
      refine sd_vv rfl rfl rfl (vv_assign rfl) ?_
      refine sd_done ?_
      refine sw_ret ?_
      have X7 : Gr w w1 := (Gr.trans (Gr.refl w) Gw1)
      have hr := Option.some.inj hm
      subst hr
      refine ⟨_, _, rfl, res_1 rfl (rv_tmp rfl), ?_⟩
      exact ⟨rfl, X7⟩
  ·
    replace hm := ite_f (of_decide_eq_false c1) hm
    refine sd_skip rfl rfl rfl ?_
    refine sd_skip rfl rfl rfl ?_
    refine sd_skip rfl rfl rfl ?_
    refine sd_vv rfl rfl rfl (vv_pickF rfl rfl) ?_
    refine sd_vv rfl rfl rfl (vv_move rfl) ?_
    refine sd_skip rfl rfl rfl ?_
    refine sd_skip rfl rfl rfl ?_
    refine sd_skip rfl rfl rfl ?_
    refine sd_vv rfl rfl rfl (vv_pickF rfl rfl) ?_
    refine sd_vv rfl rfl rfl (vv_move rfl) ?_
    refine sd_skip rfl rfl rfl ?_
    refine sd_skip rfl rfl rfl ?_
    refine sd_skip rfl rfl rfl ?_
    refine sd_vv rfl rfl rfl (vv_pickF rfl rfl) ?_
    refine sd_vv rfl rfl rfl (vv_move rfl) ?_
    refine sd_skip rfl rfl rfl ?_
    refine sd_skip rfl rfl rfl ?_
    refine sd_skip rfl rfl rfl ?_
    refine sd_vv rfl rfl rfl (vv_pickF rfl rfl) ?_
    refine sd_vv rfl rfl rfl (vv_move rfl) ?_
    refine sd_skip rfl rfl rfl ?_
    refine sd_skip rfl rfl rfl ?_
    refine sd_skip rfl rfl rfl ?_
    refine sd_skip rfl rfl rfl ?_
    refine sd_vv rfl rfl rfl (vv_pickF rfl rfl) ?_
    refine sd_vv rfl rfl rfl (vv_assign rfl) ?_
    refine sd_done ?_
    refine sw_ret ?_
    have X8 : Gr w w1 := (Gr.trans (Gr.refl w) Gw1)
    have hr := Option.some.inj hm
    subst hr
    refine ⟨_, _, rfl, res_1 rfl (rv_tmp rfl), ?_⟩
    exact ⟨rfl, X8⟩

set_option maxHeartbeats 2000000 in
theorem ref03_Check_w (p0 : TScheme)  (r : Int) (hm : ref03_Check p0 = some r) (w : World)   :
    Calls Try.prog 34 [.agg (TScheme.cs p0).toArray].toArray w fun e w' => ∃ v, e = .returned v ∧ (v = .int .i64 r ∧ Gr w w') := by
  unfold ref03_Check at hm
  refine calls_of_sw (R := fun v w' => v = .int .i64 r ∧ Gr w w') 6 Try.func34 rfl rfl rfl ?_
  refine sw_seq ?_
  -- region 0 ref.go:34
  refine sw_region [(0, 0), (1, 0)] rfl rfl rfl ?_
  refine sd_ev rfl rfl rfl (ev_box (cs := TScheme.cs p0) rfl rfl) ?_
  rintro _ w1 ⟨b1, rfl, hbw1, Bw1, Gw1⟩
  have z1 := Gw1.size
  have lt2 := Bw1.lt
  refine sd_vv rfl rfl rfl (vv_assign rfl) ?_
  refine sd_done ?_
  refine sw_seq ?_
  refine sw_seq ?_
  -- region 1 ref.go:35
  refine sw_region [(0, 0), (1, 0), (2, 0)] rfl rfl rfl ?_
  refine sd_vv rfl rfl rfl (vv_loadW agg_45 rfl Bw1 rfl) ?_
  have hb := bnd hm; clear hm; obtain ⟨x1, hx1, hm⟩ := hb
  refine sd_ev rfl rfl rfl (ev_call en_59 rfl (ref03_Valid_w p0 _ hx1 _)) ?_
  rintro _ w2 ⟨rfl, Gw2⟩
  have z3 := Gw2.size
  refine sd_vv rfl rfl rfl (vv_not rfl) ?_
  refine sd_done ?_
  refine sw_cond rfl (fun c1 => ?_) (fun c1 => ?_)
  ·
    replace hm := cnd_t c1 hm
    refine sw_seq ?_
    -- region 2 ref.go:36
    refine sw_region [(0, 0)] rfl rfl rfl ?_
    refine sd_vv rfl rfl rfl (vv_assign rfl) ?_
    refine sd_done ?_
    refine sw_ret ?_
    refine then_r ?_
    have X4 : Gr w w2 := (Gr.trans (Gr.trans (Gr.refl w) Gw1) Gw2)
    have hr := Option.some.inj hm
    subst hr
    refine ⟨_, _, rfl, res_1 rfl (rv_tmp rfl), ?_⟩
    exact ⟨rfl, X4⟩
  ·
    replace hm := cnd_f c1 hm
    refine sw_skip ?_
    refine then_n ?_
    refine sw_seq ?_
    -- region 3 ref.go:38
    refine sw_region [(0, 0)] rfl rfl rfl ?_
    refine sd_vv rfl rfl rfl (vv_assign rfl) ?_
    refine sd_done ?_
    refine sw_ret ?_
    have X5 : Gr w w2 := (Gr.trans (Gr.trans (Gr.refl w) Gw1) Gw2)
    have hr := Option.some.inj hm
    subst hr
    refine ⟨_, _, rfl, res_1 rfl (rv_tmp rfl), ?_⟩
    exact ⟨rfl, X5⟩

set_option maxHeartbeats 2000000 in
theorem ref03_Receivers_w (p0 : Int)  (r : Int) (hm : ref03_Receivers p0 = some r) (w : World)   :
    Calls Try.prog 118 [.int .i64 p0].toArray w fun e w' => ∃ v, e = .returned v ∧ (v = .int .i64 r ∧ Gr w w') := by
  unfold ref03_Receivers at hm
  refine calls_of_sw (R := fun v w' => v = .int .i64 r ∧ Gr w w') 13 Try.func118 rfl rfl rfl ?_
  refine sw_seq ?_
  -- region 0 ref.go:42
  refine sw_region [(0, 0)] rfl rfl rfl ?_
  refine sd_vv rfl rfl rfl (vv_assign rfl) ?_
  refine sd_done ?_
  refine sw_seq ?_
  -- region 1 ref.go:43
  refine sw_region [(0, 0)] rfl rfl rfl ?_
  refine sd_vv rfl rfl rfl (vv_assign rfl) ?_
  refine sd_done ?_
  refine sw_seq ?_
  refine sw_seq ?_
  -- region 2 ref.go:44
  refine sw_region [(0, 0)] rfl rfl rfl ?_
  refine sd_vv rfl rfl rfl (vv_assign rfl) ?_
  refine sd_done ?_
  refine sw_block ?_
  refine sw_loopD (α := Nat × Int × Int) [3, 4, 5, 6, 7, 8, 9, 10, 11] (fun ⟨n1, a3, a4⟩ => [(3, .int .i64 a3), (4, .int .i64 a4)]) (fun ⟨n1, a3, a4⟩ wr => (fixN (ref03_Receivers_L1 p0) n1 (a3, a4) = some r) ∧ Kz [] w wr) (fun ⟨n1, a3, a4⟩ => n1) ⟨FUEL, 1, 0⟩ ?_ ?_ ?_
  · repeat' first | exact trivial | refine ⟨rfl, ?_⟩
  · exact ⟨hm, Kz.refl _ _⟩
  · clear hm; rintro ⟨n1, a3, a4⟩ w1 ⟨hm, Kw1⟩
    have z1 := Kw1.size
    have hb := fix_succ hm; clear hm; obtain ⟨n1, rfl, hm⟩ := hb
    generalize hrec1 : fixN (ref03_Receivers_L1 p0) n1 = rec1 at hm
    unfold ref03_Receivers_L1 at hm
    try dsimp only at hm
    refine sw_seq ?_
    refine sw_seq ?_
    -- region 3 ref.go:44
    refine sw_region [(0, 0), (1, 0), (2, 0)] rfl rfl rfl ?_
    refine sd_vv rfl rfl rfl (vv_move rfl) ?_
    refine sd_vv rfl rfl rfl (vv_move rfl) ?_
    refine sd_vv rfl rfl rfl (vv_lss (a := a4) (b := p0) rfl rfl) ?_
    refine sd_done ?_
    refine sw_cond rfl (fun c1 => ?_) (fun c1 => ?_)
    ·
      replace hm := ite_t (of_decide_eq_true c1) hm
      refine sw_skip ?_
      refine then_n ?_
      refine sw_seq ?_
      refine sw_block ?_
      -- region 5 ref.go:45
      refine sw_region [(0, 0), (1, 0), (2, 0)] rfl rfl rfl ?_
      refine sd_vv rfl rfl rfl (vv_move rfl) ?_
      refine sd_vv rfl rfl rfl (vv_mul (k := .i64) (a := 2) (b := a3) rfl rfl) ?_
      refine sd_vv rfl rfl rfl (vv_assign rfl) ?_
      refine sd_nil ?_
      refine block_n ?_
      refine then_n ?_
      -- region 4 ref.go:44
      refine sw_region [(0, 0), (1, 0), (2, 0)] rfl rfl rfl ?_
      refine sd_vv rfl rfl rfl (vv_move rfl) ?_
      refine sd_vv rfl rfl rfl (vv_add (k := .i64) (a := a4) (b := 1) rfl rfl) ?_
      refine sd_vv rfl rfl rfl (vv_assign rfl) ?_
      refine sd_nil ?_
      have K_2 : Kz [] w w1 := Kw1
      subst hrec1
      refine ⟨rfl, ⟨n1, w64 (2 * a3), w64 (a4 + 1)⟩, ?_, ⟨hm, K_2⟩, Nat.lt_succ_self _⟩
      repeat' first | exact trivial | refine ⟨rfl, ?_⟩
    ·
      replace hm := ite_f (of_decide_eq_false c1) hm
      refine sw_exit ?_
      refine then_x ?_
      refine then_x ?_
      refine block_x ?_
      refine then_n ?_
      refine sw_seq ?_
      -- region 6 ref.go:47
      refine sw_region [(0, 0), (1, 0)] rfl rfl rfl ?_
      refine sd_vv rfl rfl rfl (vv_move rfl) ?_
      refine sd_vv rfl rfl rfl (vv_assign rfl) ?_
      refine sd_done ?_
      refine sw_ret ?_
      have X3 : Gr w w1 := (Gr.kz (Gr.refl w) Kw1)
      have hr := Option.some.inj hm
      subst hr
      refine ⟨_, _, rfl, res_1 rfl (rv_tmp rfl), ?_⟩
      exact ⟨rfl, X3⟩

set_option maxHeartbeats 2000000 in
theorem ref03_Node_w (p0 : Int) (p1 : Int)  (r : Bool) (hm : ref03_Node p0 p1 = some r) (w : World)   :
    Calls Try.prog 119 [.int .i64 p0, .int .i64 p1].toArray w fun e w' => ∃ v, e = .returned v ∧ (v = .bool r ∧ Gr w w') := by
  unfold ref03_Node at hm
  refine calls_of_sw (R := fun v w' => v = .bool r ∧ Gr w w') 14 Try.func119 rfl rfl rfl ?_
  refine sw_seq ?_
  -- region 0 ref.go:51
  refine sw_region [(0, 0)] rfl rfl rfl ?_
  refine sd_vv rfl rfl rfl (vv_assign rfl) ?_
  refine sd_done ?_
  refine sw_seq ?_
  -- region 1 ref.go:51
  refine sw_region [(0, 0), (1, 0), (2, 0), (3, 0), (4, 0), (5, 0), (6, 0), (7, 0), (8, 0), (9, 0)] rfl rfl rfl ?_
  refine sd_vv rfl rfl rfl (vv_move rfl) ?_
  refine sd_vv rfl rfl rfl (vv_geq (a := p1) (b := 1) rfl rfl) ?_
  refine sd_split rfl rfl rfl (vv_move rfl) (fun c1 => ?_) (fun c1 => ?_)
  ·
    replace hm := ite_t (of_decide_eq_true c1) hm
    refine sd_vv rfl rfl rfl (vv_move rfl) ?_
    refine sd_vv rfl rfl rfl (vv_move rfl) ?_
    have hb := bnd hm; clear hm; obtain ⟨x1, hx1, hm⟩ := hb
    refine sd_ev rfl rfl rfl (ev_call en_118 rfl (ref03_Receivers_w p0 _ hx1 _)) ?_
    rintro _ w1 ⟨rfl, Gw1⟩
    have z1 := Gw1.size
    refine sd_vv rfl rfl rfl (vv_mul (k := .i64) (a := 2) (b := x1) rfl rfl) ?_
    refine sd_vv rfl rfl rfl (vv_lss (a := p1) (b := w64 (2 * x1)) rfl rfl) ?_
    refine sd_vv rfl rfl rfl (vv_pickT rfl rfl) ?_
    refine sd_vv rfl rfl rfl (vv_assign rfl) ?_
    refine sd_done ?_
    refine sw_ret ?_
    have X2 : Gr w w1 := (Gr.trans (Gr.refl w) Gw1)
    have hr := Option.some.inj hm
    subst hr
    refine ⟨_, _, rfl, res_1 rfl (rv_tmp rfl), ?_⟩
    exact ⟨rfl, X2⟩
  ·
    replace hm := ite_f (of_decide_eq_false c1) hm
    refine sd_skip rfl rfl rfl ?_
    refine sd_skip rfl rfl rfl ?_
    refine sd_skip rfl rfl rfl ?_
    refine sd_skip rfl rfl rfl ?_
    refine sd_skip rfl rfl rfl ?_
    refine sd_vv rfl rfl rfl (vv_pickF rfl rfl) ?_
    refine sd_vv rfl rfl rfl (vv_assign rfl) ?_
    refine sd_done ?_
    refine sw_ret ?_
    have hr := Option.some.inj hm
    subst hr
    refine ⟨_, _, rfl, res_1 rfl (rv_tmp rfl), ?_⟩
    exact ⟨rfl, (Gr.refl w)⟩

set_option maxHeartbeats 2000000 in
theorem ref03_Below_w (p0 : Int) (p1 : Int)  (r : Bool) (hm : ref03_Below p0 p1 = some r) (w : World)   :
    Calls Try.prog 60 [.int .i64 p0, .int .i64 p1].toArray w fun e w' => ∃ v, e = .returned v ∧ (v = .bool r ∧ Gr w w') := by
  unfold ref03_Below at hm
  refine calls_of_sw (R := fun v w' => v = .bool r ∧ Gr w w') 13 Try.func60 rfl rfl rfl ?_
  refine sw_seq ?_
  -- region 0 ref.go:64
  refine sw_region [(0, 0)] rfl rfl rfl ?_
  refine sd_vv rfl rfl rfl (vv_assign rfl) ?_
  refine sd_done ?_
  refine sw_seq ?_
  refine sw_block ?_
  refine sw_loopD (α := Nat × Int) [0, 5, 6, 7, 8, 9] (fun ⟨n1, a2⟩ => [(0, .int .i64 a2)]) (fun ⟨n1, a2⟩ wr => (fixN (ref03_Below_L1 p1) n1 a2 = some r) ∧ Kz [] w wr) (fun ⟨n1, a2⟩ => n1) ⟨FUEL, p0⟩ ?_ ?_ ?_
  · repeat' first | exact trivial | refine ⟨rfl, ?_⟩
  · exact ⟨hm, Kz.refl _ _⟩
  · clear hm; rintro ⟨n1, a2⟩ w1 ⟨hm, Kw1⟩
    have z1 := Kw1.size
    have hb := fix_succ hm; clear hm; obtain ⟨n1, rfl, hm⟩ := hb
    generalize hrec1 : fixN (ref03_Below_L1 p1) n1 = rec1 at hm
    unfold ref03_Below_L1 at hm
    try dsimp only at hm
    refine sw_seq ?_
    refine sw_seq ?_
    -- region 1 ref.go:65
    refine sw_region [(0, 0), (1, 0), (2, 0)] rfl rfl rfl ?_
    refine sd_vv rfl rfl rfl (vv_move rfl) ?_
    refine sd_vv rfl rfl rfl (vv_move rfl) ?_
    refine sd_vv rfl rfl rfl (vv_gtr (a := a2) (b := p1) rfl rfl) ?_
    refine sd_done ?_
    refine sw_cond rfl (fun c1 => ?_) (fun c1 => ?_)
    ·
      replace hm := ite_t (of_decide_eq_true c1) hm
      refine sw_skip ?_
      refine then_n ?_
      refine sw_block ?_
      -- region 2 ref.go:66
      refine sw_region [(0, 0), (1, 0), (2, 0)] rfl rfl rfl ?_
      refine sd_vv rfl rfl rfl (vv_move rfl) ?_
      have hb := bnd hm; clear hm; obtain ⟨x3, hx3, hm⟩ := hb
      refine sd_vv rfl rfl rfl (vv_quoI (a := a2) (b := 2) rfl rfl hx3) ?_
      refine sd_vv rfl rfl rfl (vv_assign rfl) ?_
      refine sd_nil ?_
      refine block_n ?_
      have K_2 : Kz [] w w1 := Kw1
      subst hrec1
      refine ⟨rfl, ⟨n1, x3⟩, ?_, ⟨hm, K_2⟩, Nat.lt_succ_self _⟩
      repeat' first | exact trivial | refine ⟨rfl, ?_⟩
    ·
      replace hm := ite_f (of_decide_eq_false c1) hm
      refine sw_exit ?_
      refine then_x ?_
      refine then_x ?_
      refine block_x ?_
      refine then_n ?_
      refine sw_seq ?_
      -- region 3 ref.go:68
      refine sw_region [(0, 0), (1, 0), (2, 0), (3, 0)] rfl rfl rfl ?_
      refine sd_vv rfl rfl rfl (vv_move rfl) ?_
      refine sd_vv rfl rfl rfl (vv_move rfl) ?_
      refine sd_vv rfl rfl rfl (vv_eql (a := a2) (b := p1) rfl rfl) ?_
      refine sd_vv rfl rfl rfl (vv_assign rfl) ?_
      refine sd_done ?_
      refine sw_ret ?_
      have X3 : Gr w w1 := (Gr.kz (Gr.refl w) Kw1)
      have hr := Option.some.inj hm
      subst hr
      refine ⟨_, _, rfl, res_1 rfl (rv_tmp rfl), ?_⟩
      exact ⟨rfl, X3⟩

set_option maxHeartbeats 2000000 in
theorem ref03_Level_w (p0 : Int)  (r : Int) (hm : ref03_Level p0 = some r) (w : World)   :
    Calls Try.prog 153 [.int .i64 p0].toArray w fun e w' => ∃ v, e = .returned v ∧ (v = .int .i64 r ∧ Gr w w') := by
  unfold ref03_Level at hm
  refine calls_of_sw (R := fun v w' => v = .int .i64 r ∧ Gr w w') 11 Try.func153 rfl rfl rfl ?_
  refine sw_seq ?_
  -- region 0 ref.go:54
  refine sw_region [(0, 0)] rfl rfl rfl ?_
  refine sd_vv rfl rfl rfl (vv_assign rfl) ?_
  refine sd_done ?_
  refine sw_seq ?_
  -- region 1 ref.go:55
  refine sw_region [(0, 0)] rfl rfl rfl ?_
  refine sd_vv rfl rfl rfl (vv_assign rfl) ?_
  refine sd_done ?_
  refine sw_seq ?_
  refine sw_block ?_
  refine sw_loopD (α := Nat × Int × Int) [0, 3, 4, 5, 6, 7, 8, 9] (fun ⟨n1, a3, a4⟩ => [(0, .int .i64 a3), (3, .int .i64 a4)]) (fun ⟨n1, a3, a4⟩ wr => (fixN (ref03_Level_L1) n1 (a3, a4) = some r) ∧ Kz [] w wr) (fun ⟨n1, a3, a4⟩ => n1) ⟨FUEL, p0, 0⟩ ?_ ?_ ?_
  · repeat' first | exact trivial | refine ⟨rfl, ?_⟩
  · exact ⟨hm, Kz.refl _ _⟩
  · clear hm; rintro ⟨n1, a3, a4⟩ w1 ⟨hm, Kw1⟩
    have z1 := Kw1.size
    have hb := fix_succ hm; clear hm; obtain ⟨n1, rfl, hm⟩ := hb
    generalize hrec1 : fixN (ref03_Level_L1) n1 = rec1 at hm
    unfold ref03_Level_L1 at hm
    try dsimp only at hm
    refine sw_seq ?_
    refine sw_seq ?_
    -- region 2 ref.go:56
    refine sw_region [(0, 0), (1, 0)] rfl rfl rfl ?_
    refine sd_vv rfl rfl rfl (vv_move rfl) ?_
    refine sd_vv rfl rfl rfl (vv_gtr (a := a3) (b := 1) rfl rfl) ?_
    refine sd_done ?_
    refine sw_cond rfl (fun c1 => ?_) (fun c1 => ?_)
    ·
      replace hm := ite_t (of_decide_eq_true c1) hm
      refine sw_skip ?_
      refine then_n ?_
      refine sw_block ?_
      refine sw_seq ?_
      -- region 3 ref.go:57
      refine sw_region [(0, 0), (1, 0), (2, 0)] rfl rfl rfl ?_
      refine sd_vv rfl rfl rfl (vv_move rfl) ?_
      have hb := bnd hm; clear hm; obtain ⟨x5, hx5, hm⟩ := hb
      refine sd_vv rfl rfl rfl (vv_quoI (a := a3) (b := 2) rfl rfl hx5) ?_
      refine sd_vv rfl rfl rfl (vv_assign rfl) ?_
      refine sd_done ?_
      -- region 4 ref.go:58
      refine sw_region [(0, 0), (1, 0), (2, 0)] rfl rfl rfl ?_
      refine sd_vv rfl rfl rfl (vv_move rfl) ?_
      refine sd_vv rfl rfl rfl (vv_add (k := .i64) (a := a4) (b := 1) rfl rfl) ?_
      refine sd_vv rfl rfl rfl (vv_assign rfl) ?_
      refine sd_nil ?_
      refine block_n ?_
      have K_2 : Kz [] w w1 := Kw1
      subst hrec1
      refine ⟨rfl, ⟨n1, x5, w64 (a4 + 1)⟩, ?_, ⟨hm, K_2⟩, Nat.lt_succ_self _⟩
      repeat' first | exact trivial | refine ⟨rfl, ?_⟩
    ·
      replace hm := ite_f (of_decide_eq_false c1) hm
      refine sw_exit ?_
      refine then_x ?_
      refine then_x ?_
      refine block_x ?_
      refine then_n ?_
      refine sw_seq ?_
      -- region 5 ref.go:60
      refine sw_region [(0, 0), (1, 0)] rfl rfl rfl ?_
      refine sd_vv rfl rfl rfl (vv_move rfl) ?_
      refine sd_vv rfl rfl rfl (vv_assign rfl) ?_
      refine sd_done ?_
      refine sw_ret ?_
      have X3 : Gr w w1 := (Gr.kz (Gr.refl w) Kw1)
      have hr := Option.some.inj hm
      subst hr
      refine ⟨_, _, rfl, res_1 rfl (rv_tmp rfl), ?_⟩
      exact ⟨rfl, X3⟩

set_option maxHeartbeats 2000000 in
theorem ref03_Stride_w (p0 : Int)  (r : Int) (hm : ref03_Stride p0 = some r) (w : World)   :
    Calls Try.prog 154 [.int .i64 p0].toArray w fun e w' => ∃ v, e = .returned v ∧ (v = .int .i64 r ∧ Gr w w') := by
  unfold ref03_Stride at hm
  refine calls_of_sw (R := fun v w' => v = .int .i64 r ∧ Gr w w') 12 Try.func154 rfl rfl rfl ?_
  refine sw_seq ?_
  -- region 0 ref.go:72
  refine sw_region [(0, 0)] rfl rfl rfl ?_
  refine sd_vv rfl rfl rfl (vv_assign rfl) ?_
  refine sd_done ?_
  refine sw_seq ?_
  -- region 1 ref.go:73
  refine sw_region [(0, 0)] rfl rfl rfl ?_
  refine sd_vv rfl rfl rfl (vv_assign rfl) ?_
  refine sd_done ?_
  refine sw_seq ?_
  refine sw_block ?_
  refine sw_loopD (α := Nat × Int) [3, 4, 5, 6, 7, 8, 9, 10] (fun ⟨n1, a2⟩ => [(3, .int .i64 a2)]) (fun ⟨n1, a2⟩ wr => (fixN (ref03_Stride_L1 p0) n1 a2 = some r) ∧ Kz [] w wr) (fun ⟨n1, a2⟩ => n1) ⟨FUEL, 1⟩ ?_ ?_ ?_
  · repeat' first | exact trivial | refine ⟨rfl, ?_⟩
  · exact ⟨hm, Kz.refl _ _⟩
  · clear hm; rintro ⟨n1, a2⟩ w1 ⟨hm, Kw1⟩
    have z1 := Kw1.size
    have hb := fix_succ hm; clear hm; obtain ⟨n1, rfl, hm⟩ := hb
    generalize hrec1 : fixN (ref03_Stride_L1 p0) n1 = rec1 at hm
    unfold ref03_Stride_L1 at hm
    try dsimp only at hm
    refine sw_seq ?_
    refine sw_seq ?_
    -- region 2 ref.go:74
    refine sw_region [(0, 0), (1, 0), (2, 0), (3, 0), (4, 0)] rfl rfl rfl ?_
    refine sd_vv rfl rfl rfl (vv_move rfl) ?_
    refine sd_vv rfl rfl rfl (vv_move rfl) ?_
    refine sd_vv rfl rfl rfl (vv_mul (k := .i64) (a := a2) (b := a2) rfl rfl) ?_
    refine sd_vv rfl rfl rfl (vv_move rfl) ?_
    refine sd_vv rfl rfl rfl (vv_lss (a := w64 (a2 * a2)) (b := p0) rfl rfl) ?_
    refine sd_done ?_
    refine sw_cond rfl (fun c1 => ?_) (fun c1 => ?_)
    ·
      replace hm := ite_t (of_decide_eq_true c1) hm
      refine sw_skip ?_
      refine then_n ?_
      refine sw_block ?_
      -- region 3 ref.go:75
      refine sw_region [(0, 0), (1, 0), (2, 0)] rfl rfl rfl ?_
      refine sd_vv rfl rfl rfl (vv_move rfl) ?_
      refine sd_vv rfl rfl rfl (vv_add (k := .i64) (a := a2) (b := 1) rfl rfl) ?_
      refine sd_vv rfl rfl rfl (vv_assign rfl) ?_
      refine sd_nil ?_
      refine block_n ?_
      have K_2 : Kz [] w w1 := Kw1
      subst hrec1
      refine ⟨rfl, ⟨n1, w64 (a2 + 1)⟩, ?_, ⟨hm, K_2⟩, Nat.lt_succ_self _⟩
      repeat' first | exact trivial | refine ⟨rfl, ?_⟩
    ·
      replace hm := ite_f (of_decide_eq_false c1) hm
      refine sw_exit ?_
      refine then_x ?_
      refine then_x ?_
      refine block_x ?_
      refine then_n ?_
      refine sw_seq ?_
      -- region 4 ref.go:77
      refine sw_region [(0, 0), (1, 0)] rfl rfl rfl ?_
      refine sd_vv rfl rfl rfl (vv_move rfl) ?_
      refine sd_vv rfl rfl rfl (vv_assign rfl) ?_
      refine sd_done ?_
      refine sw_ret ?_
      have X3 : Gr w w1 := (Gr.kz (Gr.refl w) Kw1)
      have hr := Option.some.inj hm
      subst hr
      refine ⟨_, _, rfl, res_1 rfl (rv_tmp rfl), ?_⟩
      exact ⟨rfl, X3⟩

set_option maxHeartbeats 2000000 in
theorem ref03_Special_w (p0 : Int) (p1 : Int)  (r : Bool) (hm : ref03_Special p0 p1 = some r) (w : World)   :
    Calls Try.prog 120 [.int .i64 p0, .int .i64 p1].toArray w fun e w' => ∃ v, e = .returned v ∧ (v = .bool r ∧ Gr w w') := by
  unfold ref03_Special at hm
  refine calls_of_sw (R := fun v w' => v = .bool r ∧ Gr w w') 11 Try.func120 rfl rfl rfl ?_
  refine sw_seq ?_
  -- region 0 ref.go:81
  refine sw_region [(0, 0)] rfl rfl rfl ?_
  refine sd_vv rfl rfl rfl (vv_assign rfl) ?_
  refine sd_done ?_
  refine sw_seq ?_
  -- region 1 ref.go:81
  refine sw_region [(0, 0), (1, 0), (2, 0), (3, 0), (4, 0), (5, 0), (6, 0)] rfl rfl rfl ?_
  refine sd_vv rfl rfl rfl (vv_move rfl) ?_
  have hb := bnd hm; clear hm; obtain ⟨x1, hx1, hm⟩ := hb
  refine sd_ev rfl rfl rfl (ev_call en_153 rfl (ref03_Level_w p1 _ hx1 _)) ?_
  rintro _ w1 ⟨rfl, Gw1⟩
  have z1 := Gw1.size
  refine sd_vv rfl rfl rfl (vv_move rfl) ?_
  have hb := bnd hm; clear hm; obtain ⟨x2, hx2, hm⟩ := hb
  refine sd_ev rfl rfl rfl (ev_call en_154 rfl (ref03_Stride_w p0 _ hx2 _)) ?_
  rintro _ w2 ⟨rfl, Gw2⟩
  have z2 := Gw2.size
  have hb := bnd hm; clear hm; obtain ⟨x3, hx3, hm⟩ := hb
  refine sd_vv rfl rfl rfl (vv_remI (a := x1) (b := x2) rfl rfl hx3) ?_
  refine sd_vv rfl rfl rfl (vv_eql (a := x3) (b := 0) rfl rfl) ?_
  refine sd_vv rfl rfl rfl (vv_assign rfl) ?_
  refine sd_done ?_
  refine sw_ret ?_
  have X3 : Gr w w2 := (Gr.trans (Gr.trans (Gr.refl w) Gw1) Gw2)
  have hr := Option.some.inj hm
  subst hr
  refine ⟨_, _, rfl, res_1 rfl (rv_tmp rfl), ?_⟩
  exact ⟨rfl, X3⟩

set_option maxHeartbeats 2000000 in
theorem ref03_Path_w (p0 : Int) (p1 : Int)  (r : List Int) (hm : ref03_Path p0 p1 = some r) (w : World)   :
    Calls Try.prog 108 [.int .i64 p0, .int .i64 p1].toArray w fun e w' => ∃ v, e = .returned v ∧ (∃ (ur0_s : Value) (zr0_s : Nat) (gr0_s : Nat), v = ur0_s ∧ Own w' zr0_s gr0_s 3 1 ur0_s (r.map ic) ∧ Hdn (zr0_s = 0 ∨ w.heap.size ≤ gr0_s) ∧ Gr w w') := by
  unfold ref03_Path at hm
  refine calls_of_sw (R := fun v w' => ∃ (ur0_s : Value) (zr0_s : Nat) (gr0_s : Nat), v = ur0_s ∧ Own w' zr0_s gr0_s 3 1 ur0_s (r.map ic) ∧ Hdn (zr0_s = 0 ∨ w.heap.size ≤ gr0_s) ∧ Gr w w') 19 Try.func108 rfl rfl rfl ?_
  refine sw_seq ?_
  -- region 0 ref.go:84
  refine sw_region [(0, 0)] rfl rfl rfl ?_
  refine sd_vv rfl rfl rfl (vv_assign rfl) ?_
  refine sd_done ?_
  refine sw_seq ?_
  -- region 1 ref.go:85
  refine sw_region [(0, 0)] rfl rfl rfl ?_
  refine sd_vv rfl rfl rfl (vv_assign rfl) ?_
  refine sd_done ?_
  refine sw_seq ?_
  refine sw_block ?_
  refine sw_loopD (α := Nat × Int × List Int × Value × Nat × Nat) [1, 5, 6, 7, 8, 9, 10, 11, 12, 13, 14] (fun ⟨n1, a4, a5, vy6, zy6, gy6⟩ => [(1, .int .i64 a4), (5, vy6)]) (fun ⟨n1, a4, a5, vy6, zy6, gy6⟩ wr => (fixN (ref03_Path_L1 p0) n1 (a4, a5) = some r) ∧ Own wr zy6 gy6 3 1 vy6 (a5.map ic) ∧ Hdn (zy6 = 0 ∨ w.heap.size ≤ gy6) ∧ Kz [] w wr) (fun ⟨n1, a4, a5, vy6, zy6, gy6⟩ => n1) ⟨FUEL, p1, [], (.slice none 0 0), 0, 0⟩ ?_ ?_ ?_
  · repeat' first | exact trivial | refine ⟨rfl, ?_⟩
  · exact ⟨hm, (own_nil _ 0 3 1), ⟨(.inl rfl)⟩, Kz.refl _ _⟩
  · clear hm; rintro ⟨n1, a4, a5, vy6, zy6, gy6⟩ w1 ⟨hm, Fw1_0, Fw1_1, Kw1⟩
    have z1 := Kw1.size
    have lt2 := Fw1_0.lth
    have hb := fix_succ hm; clear hm; obtain ⟨n1, rfl, hm⟩ := hb
    generalize hrec1 : fixN (ref03_Path_L1 p0) n1 = rec1 at hm
    unfold ref03_Path_L1 at hm
    try dsimp only at hm
    refine sw_seq ?_
    refine sw_seq ?_
    -- region 2 ref.go:86
    refine sw_region [(0, 0), (1, 0), (2, 0)] rfl rfl rfl ?_
    refine sd_vv rfl rfl rfl (vv_move rfl) ?_
    refine sd_vv rfl rfl rfl (vv_move rfl) ?_
    refine sd_vv rfl rfl rfl (vv_neq (a := a4) (b := p0) rfl rfl) ?_
    refine sd_done ?_
    refine sw_cond rfl (fun c1 => ?_) (fun c1 => ?_)
    ·
      replace hm := ite_t (of_decide_eq_true c1) hm
      refine sw_skip ?_
      refine then_n ?_
      refine sw_block ?_
      refine sw_seq ?_
      -- region 3 ref.go:87
      refine sw_region [(0, 0), (1, 0), (2, 0), (3, 0), (4, 0)] rfl rfl rfl ?_
      refine sd_vv rfl rfl rfl (vv_move rfl) ?_
      refine sd_ev rfl rfl rfl (ev_litT [a4] ic bsl_61_1 rfl rfl (ws_of rfl) rfl rfl rfl) ?_
      rintro vw2 w2 ⟨gw2, hbw2, Ow2, Gw2⟩
      have z3 := Gw2.size
      have lt4 := Ow2.lth
      refine sd_vv rfl rfl rfl (vv_move rfl) ?_
      have B5 := (Own.gr Fw1_0 Gw2)
      have hb := bnd hm; clear hm; obtain ⟨l7, hl7, hm⟩ := hb
      refine sd_ev rfl rfl rfl (ev_appT (l := [a4]) (m := a5) (c := ic) apt_61 rfl rfl Ow2 (Own.rd B5) hl7 (by decide)) ?_
      rintro vw3 w3 ⟨zw3, gw3, Ow3, Aw3, qw3, rw3⟩
      have z6 := Aw3.size
      refine sd_vv rfl rfl rfl (vv_assign rfl) ?_
      refine sd_done ?_
      -- region 4 ref.go:88
      refine sw_region [(0, 0), (1, 0), (2, 0)] rfl rfl rfl ?_
      refine sd_vv rfl rfl rfl (vv_move rfl) ?_
      have hb := bnd hm; clear hm; obtain ⟨x8, hx8, hm⟩ := hb
      refine sd_vv rfl rfl rfl (vv_quoI (a := a4) (b := 2) rfl rfl hx8) ?_
      refine sd_vv rfl rfl rfl (vv_assign rfl) ?_
      refine sd_nil ?_
      refine block_n ?_
      have K_7 : Kz [] w w3 := (Kz.ka (Kz.gr Kw1 Gw2) Aw3 (tk1 ((.inr tk0) : 1 = 0 ∨ w.heap.size ≤ gw2)))
      subst hrec1
      refine ⟨rfl, ⟨n1, x8, l7, vw3, zw3, gw3⟩, ?_, ⟨hm, Ow3, ⟨(pv_app (A := (fun x => w.heap.size ≤ x)) rw3 (.inr tk0))⟩, K_7⟩, Nat.lt_succ_self _⟩
      repeat' first | exact trivial | refine ⟨rfl, ?_⟩
    ·
      replace hm := ite_f (of_decide_eq_false c1) hm
      refine sw_exit ?_
      refine then_x ?_
      refine then_x ?_
      refine block_x ?_
      refine then_n ?_
      refine sw_seq ?_
      -- region 5 ref.go:90
      refine sw_region [(0, 0), (1, 0), (2, 0), (3, 0), (4, 0)] rfl rfl rfl ?_
      refine sd_vv rfl rfl rfl (vv_move rfl) ?_
      refine sd_ev rfl rfl rfl (ev_litT [p0] ic bsl_61_1 rfl rfl (ws_of rfl) rfl rfl rfl) ?_
      rintro vw4 w4 ⟨gw4, hbw4, Ow4, Gw4⟩
      have z8 := Gw4.size
      have lt9 := Ow4.lth
      refine sd_vv rfl rfl rfl (vv_move rfl) ?_
      have B10 := (Own.gr Fw1_0 Gw4)
      have hb := bnd hm; clear hm; obtain ⟨l9, hl9, hm⟩ := hb
      refine sd_ev rfl rfl rfl (ev_appT (l := [p0]) (m := a5) (c := ic) apt_61 rfl rfl Ow4 (Own.rd B10) hl9 (by decide)) ?_
      rintro vw5 w5 ⟨zw5, gw5, Ow5, Aw5, qw5, rw5⟩
      have z11 := Aw5.size
      refine sd_vv rfl rfl rfl (vv_assign rfl) ?_
      refine sd_done ?_
      refine sw_ret ?_
      have X12 : Gr w w5 := (Gr.ka (Gr.trans (Gr.kz (Gr.refl w) Kw1) Gw4) Aw5 (tk1 ((.inr tk0) : 1 = 0 ∨ w.heap.size ≤ gw4)))
      have hr := Option.some.inj hm
      subst hr
      refine ⟨_, _, rfl, res_1 rfl (rv_tmp rfl), ?_⟩
      exact ⟨vw5, zw5, gw5, rfl, Ow5, ⟨(pv_app (A := (fun x => w.heap.size ≤ x)) rw5 (.inr tk0))⟩, X12⟩

set_option maxHeartbeats 2000000 in
theorem ref03_between_w (p0 : Int) (p1 : Int) (p2 : Int)  (r : Int) (hm : ref03_between p0 p1 p2 = some r) (w : World)   :
    Calls Try.prog 121 [.int .i64 p0, .int .i64 p1, .int .i64 p2].toArray w fun e w' => ∃ v, e = .returned v ∧ (v = .int .i64 r ∧ Gr w w') := by
  unfold ref03_between at hm
  refine calls_of_sw (R := fun v w' => v = .int .i64 r ∧ Gr w w') 29 Try.func121 rfl rfl rfl ?_
  refine sw_seq ?_
  -- region 0 ref.go:94
  refine sw_region [(0, 0)] rfl rfl rfl ?_
  refine sd_vv rfl rfl rfl (vv_assign rfl) ?_
  refine sd_done ?_
  refine sw_seq ?_
  -- region 1 ref.go:95
  refine sw_region [(0, 0), (1, 0), (2, 0), (3, 0)] rfl rfl rfl ?_
  refine sd_vv rfl rfl rfl (vv_move rfl) ?_
  refine sd_vv rfl rfl rfl (vv_move rfl) ?_
  have hb := bnd hm; clear hm; obtain ⟨x1, hx1, hm⟩ := hb
  refine sd_ev rfl rfl rfl (ev_call en_108 rfl (ref03_Path_w p1 p2 _ hx1 _)) ?_
  rintro u1_r0_s w1 ⟨_, z1_r0_s, g1_r0_s, rfl, O1_r0_s, f1_r0_s, Gw1⟩
  have z1 := Gw1.size
  have lt2 := O1_r0_s.lth
  refine sd_vv rfl rfl rfl (vv_assign rfl) ?_
  refine sd_done ?_
  refine sw_seq ?_
  refine sw_seq ?_
  -- region 2 ref.go:96
  refine sw_region [(0, 0)] rfl rfl rfl ?_
  refine sd_vv rfl rfl rfl (vv_assign rfl) ?_
  refine sd_done ?_
  refine sw_block ?_
  have X3 : Gr w w1 := (Gr.trans (Gr.refl w) Gw1)
  refine sw_loopD (α := Nat × Int) [6, 8, 12, 13, 14, 15, 16, 17, 18, 19, 20, 21, 22, 23, 24, 25, 26, 27, 28] (fun ⟨n1, a3⟩ => [(6, .int .i64 0), (8, .int .i64 a3)]) (fun ⟨n1, a3⟩ wr => (fixN (ref03_between_L1 p0 x1) n1 a3 = some r) ∧ Kz [] w1 wr) (fun ⟨n1, a3⟩ => n1) ⟨FUEL, 1⟩ ?_ ?_ ?_
  · repeat' first | exact trivial | refine ⟨rfl, ?_⟩
  · exact ⟨hm, Kz.refl _ _⟩
  · clear hm; rintro ⟨n1, a3⟩ w2 ⟨hm, Kw2⟩
    have z4 := Kw2.size
    have hb := fix_succ hm; clear hm; obtain ⟨n1, rfl, hm⟩ := hb
    generalize hrec1 : fixN (ref03_between_L1 p0 x1) n1 = rec1 at hm
    unfold ref03_between_L1 at hm
    try dsimp only at hm
    refine sw_seq ?_
    refine sw_seq ?_
    -- region 3 ref.go:96
    refine sw_region [(0, 0), (1, 0), (2, 0), (3, 0), (4, 0)] rfl rfl rfl ?_
    refine sd_vv rfl rfl rfl (vv_move rfl) ?_
    refine sd_vv rfl rfl rfl (vv_move rfl) ?_
    have B5 := (Own.kz O1_r0_s Kw2)
    refine sd_vv rfl rfl rfl (vv_lenT (l := x1) (c := ic) Try.underlying61 rfl (Own.rd B5)) ?_
    refine sd_vv rfl rfl rfl (vv_sub (k := .i64) (a := (x1.length : Int)) (b := 1) rfl rfl) ?_
    refine sd_vv rfl rfl rfl (vv_lss (a := a3) (b := w64 ((x1.length : Int) - 1)) rfl rfl) ?_
    refine sd_done ?_
    refine sw_cond rfl (fun c1 => ?_) (fun c1 => ?_)
    ·
      replace hm := ite_t (of_decide_eq_true c1) hm
      refine sw_skip ?_
      refine then_n ?_
      refine sw_seq ?_
      refine sw_block ?_
      refine sw_seq ?_
      -- region 5 ref.go:97
      refine sw_region [(0, 0), (1, 0), (2, 0), (3, 0), (4, 0), (5, 0)] rfl rfl rfl ?_
      refine sd_vv rfl rfl rfl (vv_move rfl) ?_
      refine sd_vv rfl rfl rfl (vv_move rfl) ?_
      refine sd_vv rfl rfl rfl (vv_move rfl) ?_
      have hb := bnd hm; clear hm; obtain ⟨y4, hy4, hm⟩ := hb
      refine sd_vv rfl rfl rfl (vv_ixT (i := a3) Try.underlying61 (one_3).siz rfl (Own.rd B5) rfl hy4) ?_
      refine sd_vv rfl rfl rfl (vv_el1T (q := 0) (u := .int .i64 y4) one_3 rfl (Own.rd B5) hy4 (by first | rfl | omega) rfl) ?_
      have hb := bnd hm; clear hm; obtain ⟨x5, hx5, hm⟩ := hb
      refine sd_ev rfl rfl rfl (ev_call en_120 rfl (ref03_Special_w p0 y4 _ hx5 _)) ?_
      rintro _ w3 ⟨rfl, Gw3⟩
      have z6 := Gw3.size
      refine sd_done ?_
      refine sw_cond rfl (fun c2 => ?_) (fun c2 => ?_)
      ·
        replace hm := cnd_t c2 hm
        refine sw_seq ?_
        -- region 6 ref.go:98
        refine sw_region [(0, 0), (1, 0), (2, 0), (3, 0), (4, 0)] rfl rfl rfl ?_
        refine sd_vv rfl rfl rfl (vv_move rfl) ?_
        refine sd_vv rfl rfl rfl (vv_move rfl) ?_
        have hb := bnd hm; clear hm; obtain ⟨y6, hy6, hm⟩ := hb
        have B7 := (Own.gr B5 Gw3)
        refine sd_vv rfl rfl rfl (vv_ixT (i := a3) Try.underlying61 (one_3).siz rfl (Own.rd B7) rfl hy6) ?_
        refine sd_vv rfl rfl rfl (vv_el1T (q := 0) (u := .int .i64 y6) one_3 rfl (Own.rd B7) hy6 (by first | rfl | omega) rfl) ?_
        refine sd_vv rfl rfl rfl (vv_assign rfl) ?_
        refine sd_done ?_
        refine sw_ret ?_
        refine block_r ?_
        refine then_r ?_
        refine then_r ?_
        refine block_r ?_
        refine then_r ?_
        have X8 : Gr w w3 := (Gr.trans (Gr.kz X3 Kw2) Gw3)
        have hr := Option.some.inj hm
        subst hr
        refine ⟨_, _, rfl, res_1 rfl (rv_tmp rfl), ?_⟩
        exact ⟨rfl, X8⟩
      ·
        replace hm := cnd_f c2 hm
        refine sw_skip ?_
        refine block_n ?_
        refine then_n ?_
        -- region 4 ref.go:96
        refine sw_region [(0, 0), (1, 0), (2, 0)] rfl rfl rfl ?_
        refine sd_vv rfl rfl rfl (vv_move rfl) ?_
        refine sd_vv rfl rfl rfl (vv_add (k := .i64) (a := a3) (b := 1) rfl rfl) ?_
        refine sd_vv rfl rfl rfl (vv_assign rfl) ?_
        refine sd_nil ?_
        have K_9 : Kz [] w1 w3 := (Kz.gr Kw2 Gw3)
        subst hrec1
        refine ⟨rfl, ⟨n1, w64 (a3 + 1)⟩, ?_, ⟨hm, K_9⟩, Nat.lt_succ_self _⟩
        repeat' first | exact trivial | refine ⟨rfl, ?_⟩
    ·
      replace hm := ite_f (of_decide_eq_false c1) hm
      refine sw_exit ?_
      refine then_x ?_
      refine then_x ?_
      refine block_x ?_
      refine then_n ?_
      refine sw_seq ?_
      -- region 7 ref.go:101
      refine sw_region [(0, 0)] rfl rfl rfl ?_
      refine sd_vv rfl rfl rfl (vv_assign rfl) ?_
      refine sd_done ?_
      refine sw_ret ?_
      have X10 : Gr w w2 := (Gr.kz X3 Kw2)
      have hr := Option.some.inj hm
      subst hr
      refine ⟨_, _, rfl, res_1 rfl (rv_tmp rfl), ?_⟩
      exact ⟨rfl, X10⟩

set_option maxHeartbeats 2000000 in
theorem ref03_IsSubset_w (p0 : TScheme) (p1 : TSubset)  (r : Bool) (hm : ref03_IsSubset p0 p1 = some r) (w : World)   :
    Calls Try.prog 62 [.agg (TScheme.cs p0).toArray, .agg (TSubset.cs p1).toArray].toArray w fun e w' => ∃ v, e = .returned v ∧ (v = .bool r ∧ Gr w w') := by
  unfold ref03_IsSubset at hm
  refine calls_of_sw (R := fun v w' => v = .bool r ∧ Gr w w') 64 Try.func62 rfl rfl rfl ?_
  refine sw_seq ?_
  -- region 0 ref.go:105
  refine sw_region [(0, 0), (1, 0), (2, 0)] rfl rfl rfl ?_
  refine sd_ev rfl rfl rfl (ev_box (cs := TScheme.cs p0) rfl rfl) ?_
  rintro _ w1 ⟨b1, rfl, hbw1, Bw1, Gw1⟩
  have z1 := Gw1.size
  have lt2 := Bw1.lt
  refine sd_ev rfl rfl rfl (ev_box (cs := TSubset.cs p1) rfl rfl) ?_
  rintro _ w2 ⟨b2, rfl, hbw2, Bw2, Gw2⟩
  have z3 := Gw2.size
  have lt4 := Bw2.lt
  refine sd_vv rfl rfl rfl (vv_assign rfl) ?_
  refine sd_done ?_
  refine sw_seq ?_
  refine sw_seq ?_
  -- region 1 ref.go:106
  refine sw_region [(0, 0), (1, 0), (2, 0), (3, 0), (4, 0), (5, 0)] rfl rfl rfl ?_
  refine sd_vv rfl rfl rfl (vv_fieldAddr fa_45_1 rfl) ?_
  have B5 := (Bx.gr Bw1 Gw2)
  refine sd_vv rfl rfl rfl (vv_load1 (v := .int .i64 p0.Depth) one_3 rfl B5 rfl) ?_
  refine sd_vv rfl rfl rfl (vv_fieldAddr fa_47_0 rfl) ?_
  refine sd_vv rfl rfl rfl (vv_load1 (v := .int .i64 p1.Node) one_3 rfl Bw2 rfl) ?_
  have hb := bnd hm; clear hm; obtain ⟨x1, hx1, hm⟩ := hb
  refine sd_ev rfl rfl rfl (ev_call en_119 rfl (ref03_Node_w p0.Depth p1.Node _ hx1 _)) ?_
  rintro _ w3 ⟨rfl, Gw3⟩
  have z6 := Gw3.size
  refine sd_vv rfl rfl rfl (vv_not rfl) ?_
  refine sd_done ?_
  refine sw_cond rfl (fun c1 => ?_) (fun c1 => ?_)
  ·
    replace hm := cnd_t c1 hm
    refine sw_seq ?_
    -- region 2 ref.go:107
    refine sw_region [(0, 0)] rfl rfl rfl ?_
    refine sd_vv rfl rfl rfl (vv_assign rfl) ?_
    refine sd_done ?_
    refine sw_ret ?_
    refine then_r ?_
    have X7 : Gr w w3 := (Gr.trans (Gr.trans (Gr.trans (Gr.refl w) Gw1) Gw2) Gw3)
    have hr := Option.some.inj hm
    subst hr
    refine ⟨_, _, rfl, res_1 rfl (rv_tmp rfl), ?_⟩
    exact ⟨rfl, X7⟩
  ·
    replace hm := cnd_f c1 hm
    refine sw_skip ?_
    refine then_n ?_
    refine sw_seq ?_
    refine sw_seq ?_
    -- region 3 ref.go:109
    refine sw_region [(0, 0), (1, 0), (2, 0)] rfl rfl rfl ?_
    refine sd_vv rfl rfl rfl (vv_fieldAddr fa_45_0 rfl) ?_
    have B8 := (Bx.gr B5 Gw3)
    refine sd_vv rfl rfl rfl (vv_load1 (v := bv p0.Kind) one_5 rfl B8 rfl) ?_
    refine sd_vv rfl rfl rfl (vv_eqlB (p := p0.Kind) (q := 1#8) rfl rfl) ?_
    refine sd_done ?_
    refine sw_cond rfl (fun c2 => ?_) (fun c2 => ?_)
    ·
      replace hm := ite_t (of_decide_eq_true c2) hm
      refine sw_seq ?_
      -- region 4 ref.go:110
      refine sw_region [(0, 0), (1, 0), (2, 0), (3, 0)] rfl rfl rfl ?_
      refine sd_vv rfl rfl rfl (vv_fieldAddr fa_47_1 rfl) ?_
      have B9 := (Bx.gr Bw2 Gw3)
      refine sd_vv rfl rfl rfl (vv_load1 (v := .int .i64 p1.Minus) one_3 rfl B9 rfl) ?_
      refine sd_vv rfl rfl rfl (vv_eql (a := p1.Minus) (b := 0) rfl rfl) ?_
      refine sd_vv rfl rfl rfl (vv_assign rfl) ?_
      refine sd_done ?_
      refine sw_ret ?_
      refine then_r ?_
      have X10 : Gr w w3 := (Gr.trans (Gr.trans (Gr.trans (Gr.refl w) Gw1) Gw2) Gw3)
      have hr := Option.some.inj hm
      subst hr
      refine ⟨_, _, rfl, res_1 rfl (rv_tmp rfl), ?_⟩
      exact ⟨rfl, X10⟩
    ·
      replace hm := ite_f (of_decide_eq_false c2) hm
      refine sw_skip ?_
      refine then_n ?_
      refine sw_seq ?_
      refine sw_seq ?_
      -- region 5 ref.go:112
      refine sw_region [(0, 0), (1, 0), (2, 0)] rfl rfl rfl ?_
      refine sd_vv rfl rfl rfl (vv_fieldAddr fa_47_1 rfl) ?_
      have B11 := (Bx.gr Bw2 Gw3)
      refine sd_vv rfl rfl rfl (vv_load1 (v := .int .i64 p1.Minus) one_3 rfl B11 rfl) ?_
      refine sd_vv rfl rfl rfl (vv_eql (a := p1.Minus) (b := 0) rfl rfl) ?_
      refine sd_done ?_
      refine sw_cond rfl (fun c3 => ?_) (fun c3 => ?_)
      ·
        replace hm := ite_t (of_decide_eq_true c3) hm
        refine sw_seq ?_
        -- region 6 ref.go:113
        refine sw_region [(0, 0), (1, 0), (2, 0), (3, 0)] rfl rfl rfl ?_
        refine sd_vv rfl rfl rfl (vv_fieldAddr fa_47_0 rfl) ?_
        refine sd_vv rfl rfl rfl (vv_load1 (v := .int .i64 p1.Node) one_3 rfl B11 rfl) ?_
        refine sd_vv rfl rfl rfl (vv_eql (a := p1.Node) (b := 1) rfl rfl) ?_
        refine sd_vv rfl rfl rfl (vv_assign rfl) ?_
        refine sd_done ?_
        refine sw_ret ?_
        refine then_r ?_
        have X12 : Gr w w3 := (Gr.trans (Gr.trans (Gr.trans (Gr.refl w) Gw1) Gw2) Gw3)
        have hr := Option.some.inj hm
        subst hr
        refine ⟨_, _, rfl, res_1 rfl (rv_tmp rfl), ?_⟩
        exact ⟨rfl, X12⟩
      ·
        replace hm := ite_f (of_decide_eq_false c3) hm
        refine sw_skip ?_
        refine then_n ?_
        refine sw_seq ?_
        have X13 : Gr w w3 := (Gr.trans (Gr.trans (Gr.trans (Gr.refl w) Gw1) Gw2) Gw3)
        refine sw_joinD (β := Bool) [23, 24, 25, 26, 27, 28, 29, 30, 31, 32, 33, 34, 35, 36, 37, 38, 39, 40, 41, 42, 43] (fun a2 => [(43, .bool a2)]) (fun a2 wr => (ref03_IsSubset_J1 p0 p1 a2 = some r) ∧ Kz [] w3 wr) ?_ ?_
        · clear hm; rintro a2 w4 ⟨hm, Kw4⟩
          have z14 := Kw4.size
          unfold ref03_IsSubset_J1 at hm
          refine sw_cond rfl (fun c4 => ?_) (fun c4 => ?_)
          ·
            replace hm := cnd_t c4 hm
            refine sw_seq ?_
            -- region 8 ref.go:116
            refine sw_region [(0, 0)] rfl rfl rfl ?_
            refine sd_vv rfl rfl rfl (vv_assign rfl) ?_
            refine sd_done ?_
            refine sw_ret ?_
            refine then_r ?_
            have X15 : Gr w w4 := (Gr.kz X13 Kw4)
            have hr := Option.some.inj hm
            subst hr
            refine ⟨_, _, rfl, res_1 rfl (rv_tmp rfl), ?_⟩
            exact ⟨rfl, X15⟩
          ·
            replace hm := cnd_f c4 hm
            refine sw_skip ?_
            refine then_n ?_
            refine sw_seq ?_
            -- region 9 ref.go:118
            refine sw_region [(0, 0), (1, 0), (2, 0), (3, 0), (4, 0), (5, 0), (6, 0), (7, 0), (8, 0), (9, 0), (10, 0), (11, 0), (12, 0), (13, 0), (14, 0), (15, 0), (16, 0), (17, 0), (18, 0), (19, 0), (20, 0)] rfl rfl rfl ?_
            refine sd_vv rfl rfl rfl (vv_fieldAddr fa_45_0 rfl) ?_
            have B16 := (Bx.kz B8 Kw4)
            refine sd_vv rfl rfl rfl (vv_load1 (v := bv p0.Kind) one_5 rfl B16 rfl) ?_
            refine sd_vv rfl rfl rfl (vv_eqlB (p := p0.Kind) (q := 2#8) rfl rfl) ?_
            refine sd_split rfl rfl rfl (vv_move rfl) (fun c5 => ?_) (fun c5 => ?_)
            ·
              replace hm := ite_t (of_decide_eq_true c5) hm
              refine sd_skip rfl rfl rfl ?_
              refine sd_skip rfl rfl rfl ?_
              refine sd_skip rfl rfl rfl ?_
              refine sd_skip rfl rfl rfl ?_
              refine sd_skip rfl rfl rfl ?_
              refine sd_vv rfl rfl rfl (vv_pickT rfl rfl) ?_
              refine sd_vv rfl rfl rfl (vv_move rfl) ?_
              refine sd_skip rfl rfl rfl ?_
              refine sd_skip rfl rfl rfl ?_
              refine sd_skip rfl rfl rfl ?_
              refine sd_skip rfl rfl rfl ?_
              refine sd_skip rfl rfl rfl ?_
              refine sd_skip rfl rfl rfl ?_
              refine sd_skip rfl rfl rfl ?_
              refine sd_skip rfl rfl rfl ?_
              refine sd_vv rfl rfl rfl (vv_pickT rfl rfl) ?_
              refine sd_vv rfl rfl rfl (vv_assign rfl) ?_
              refine sd_done ?_
              refine sw_ret ?_
              have X17 : Gr w w4 := (Gr.kz X13 Kw4)
              have hr := Option.some.inj hm
              subst hr
              refine ⟨_, _, rfl, res_1 rfl (rv_tmp rfl), ?_⟩
              exact ⟨rfl, X17⟩
            ·
              replace hm := ite_f (of_decide_eq_false c5) hm
              refine sd_vv rfl rfl rfl (vv_fieldAddr fa_45_1 rfl) ?_
              refine sd_vv rfl rfl rfl (vv_load1 (v := .int .i64 p0.Depth) one_3 rfl B16 rfl) ?_
              refine sd_vv rfl rfl rfl (vv_fieldAddr fa_47_0 rfl) ?_
              have B18 := (Bx.kz B11 Kw4)
              refine sd_vv rfl rfl rfl (vv_load1 (v := .int .i64 p1.Node) one_3 rfl B18 rfl) ?_
              have hb := bnd hm; clear hm; obtain ⟨x3, hx3, hm⟩ := hb
              refine sd_ev rfl rfl rfl (ev_call en_120 rfl (ref03_Special_w p0.Depth p1.Node _ hx3 _)) ?_
              rintro _ w5 ⟨rfl, Gw5⟩
              have z19 := Gw5.size
              refine sd_vv rfl rfl rfl (vv_pickF rfl rfl) ?_
              refine sd_split rfl rfl rfl (vv_move rfl) (fun c6 => ?_) (fun c6 => ?_)
              ·
                replace hm := cnd_t c6 hm
                refine sd_skip rfl rfl rfl ?_
                refine sd_skip rfl rfl rfl ?_
                refine sd_skip rfl rfl rfl ?_
                refine sd_skip rfl rfl rfl ?_
                refine sd_skip rfl rfl rfl ?_
                refine sd_skip rfl rfl rfl ?_
                refine sd_skip rfl rfl rfl ?_
                refine sd_skip rfl rfl rfl ?_
                refine sd_vv rfl rfl rfl (vv_pickT rfl rfl) ?_
                refine sd_vv rfl rfl rfl (vv_assign rfl) ?_
                refine sd_done ?_
                refine sw_ret ?_
                have X20 : Gr w w5 := (Gr.trans (Gr.kz X13 Kw4) Gw5)
                have hr := Option.some.inj hm
                subst hr
                refine ⟨_, _, rfl, res_1 rfl (rv_tmp rfl), ?_⟩
                exact ⟨rfl, X20⟩
              ·
                replace hm := cnd_f c6 hm
                refine sd_vv rfl rfl rfl (vv_fieldAddr fa_45_1 rfl) ?_
                have B21 := (Bx.gr B16 Gw5)
                refine sd_vv rfl rfl rfl (vv_load1 (v := .int .i64 p0.Depth) one_3 rfl B21 rfl) ?_
                refine sd_vv rfl rfl rfl (vv_fieldAddr fa_47_0 rfl) ?_
                have B22 := (Bx.gr B18 Gw5)
                refine sd_vv rfl rfl rfl (vv_load1 (v := .int .i64 p1.Node) one_3 rfl B22 rfl) ?_
                refine sd_vv rfl rfl rfl (vv_fieldAddr fa_47_1 rfl) ?_
                refine sd_vv rfl rfl rfl (vv_load1 (v := .int .i64 p1.Minus) one_3 rfl B22 rfl) ?_
                have hb := bnd hm; clear hm; obtain ⟨x4, hx4, hm⟩ := hb
                refine sd_ev rfl rfl rfl (ev_call en_121 rfl (ref03_between_w p0.Depth p1.Node p1.Minus _ hx4 _)) ?_
                rintro _ w6 ⟨rfl, Gw6⟩
                have z23 := Gw6.size
                refine sd_vv rfl rfl rfl (vv_eql (a := x4) (b := 0) rfl rfl) ?_
                refine sd_vv rfl rfl rfl (vv_pickF rfl rfl) ?_
                refine sd_vv rfl rfl rfl (vv_assign rfl) ?_
                refine sd_done ?_
                refine sw_ret ?_
                have X24 : Gr w w6 := (Gr.trans (Gr.trans (Gr.kz X13 Kw4) Gw5) Gw6)
                have hr := Option.some.inj hm
                subst hr
                refine ⟨_, _, rfl, res_1 rfl (rv_tmp rfl), ?_⟩
                exact ⟨rfl, X24⟩
        ·
          -- region 7 ref.go:115
          refine sw_region [(0, 0), (1, 0), (2, 0), (3, 0), (4, 0), (5, 0), (6, 0), (7, 0), (8, 0), (9, 0), (10, 0), (11, 0), (12, 0), (13, 0), (14, 0), (15, 0), (16, 0), (17, 0), (18, 0), (19, 0), (20, 0)] rfl rfl rfl ?_
          refine sd_vv rfl rfl rfl (vv_fieldAddr fa_45_1 rfl) ?_
          refine sd_vv rfl rfl rfl (vv_load1 (v := .int .i64 p0.Depth) one_3 rfl B8 rfl) ?_
          refine sd_vv rfl rfl rfl (vv_fieldAddr fa_47_1 rfl) ?_
          refine sd_vv rfl rfl rfl (vv_load1 (v := .int .i64 p1.Minus) one_3 rfl B11 rfl) ?_
          have hb := bnd hm; clear hm; obtain ⟨x5, hx5, hm⟩ := hb
          refine sd_ev rfl rfl rfl (ev_call en_119 rfl (ref03_Node_w p0.Depth p1.Minus _ hx5 _)) ?_
          rintro _ w7 ⟨rfl, Gw7⟩
          have z25 := Gw7.size
          refine sd_vv rfl rfl rfl (vv_not rfl) ?_
          refine sd_split rfl rfl rfl (vv_move rfl) (fun c7 => ?_) (fun c7 => ?_)
          ·
            replace hm := cnd_t c7 hm
            refine sd_skip rfl rfl rfl ?_
            refine sd_skip rfl rfl rfl ?_
            refine sd_skip rfl rfl rfl ?_
            refine sd_skip rfl rfl rfl ?_
            refine sd_skip rfl rfl rfl ?_
            refine sd_vv rfl rfl rfl (vv_pickT rfl rfl) ?_
            refine sd_vv rfl rfl rfl (vv_move rfl) ?_
            refine sd_skip rfl rfl rfl ?_
            refine sd_skip rfl rfl rfl ?_
            refine sd_skip rfl rfl rfl ?_
            refine sd_skip rfl rfl rfl ?_
            refine sd_skip rfl rfl rfl ?_
            refine sd_skip rfl rfl rfl ?_
            refine sd_vv rfl rfl rfl (vv_pickT rfl rfl) ?_
            refine sd_nil ?_
            have K_26 : Kz [] w3 w7 := (Kz.gr (Kz.refl _ _) Gw7)
            refine ⟨rfl, true, ?_, hm, K_26⟩
            repeat' first | exact trivial | refine ⟨rfl, ?_⟩
          ·
            replace hm := cnd_f c7 hm
            refine sd_vv rfl rfl rfl (vv_fieldAddr fa_47_1 rfl) ?_
            have B27 := (Bx.gr B11 Gw7)
            refine sd_vv rfl rfl rfl (vv_load1 (v := .int .i64 p1.Minus) one_3 rfl B27 rfl) ?_
            refine sd_vv rfl rfl rfl (vv_fieldAddr fa_47_0 rfl) ?_
            refine sd_vv rfl rfl rfl (vv_load1 (v := .int .i64 p1.Node) one_3 rfl B27 rfl) ?_
            refine sd_vv rfl rfl rfl (vv_eql (a := p1.Minus) (b := p1.Node) rfl rfl) ?_
            refine sd_vv rfl rfl rfl (vv_pickF rfl rfl) ?_
            refine sd_split rfl rfl rfl (vv_move rfl) (fun c8 => ?_) (fun c8 => ?_)
            ·
              replace hm := ite_t (of_decide_eq_true c8) hm
              refine sd_skip rfl rfl rfl ?_
              refine sd_skip rfl rfl rfl ?_
              refine sd_skip rfl rfl rfl ?_
              refine sd_skip rfl rfl rfl ?_
              refine sd_skip rfl rfl rfl ?_
              refine sd_skip rfl rfl rfl ?_
              refine sd_vv rfl rfl rfl (vv_pickT rfl rfl) ?_
              refine sd_nil ?_
              have K_28 : Kz [] w3 w7 := (Kz.gr (Kz.refl _ _) Gw7)
              refine ⟨rfl, true, ?_, hm, K_28⟩
              repeat' first | exact trivial | refine ⟨rfl, ?_⟩
            ·
              replace hm := ite_f (of_decide_eq_false c8) hm
              refine sd_vv rfl rfl rfl (vv_fieldAddr fa_47_1 rfl) ?_
              refine sd_vv rfl rfl rfl (vv_load1 (v := .int .i64 p1.Minus) one_3 rfl B27 rfl) ?_
              refine sd_vv rfl rfl rfl (vv_fieldAddr fa_47_0 rfl) ?_
              refine sd_vv rfl rfl rfl (vv_load1 (v := .int .i64 p1.Node) one_3 rfl B27 rfl) ?_
              have hb := bnd hm; clear hm; obtain ⟨x6, hx6, hm⟩ := hb
              refine sd_ev rfl rfl rfl (ev_call en_60 rfl (ref03_Below_w p1.Minus p1.Node _ hx6 _)) ?_
              rintro _ w8 ⟨rfl, Gw8⟩
              have z29 := Gw8.size
              refine sd_vv rfl rfl rfl (vv_not rfl) ?_
              refine sd_vv rfl rfl rfl (vv_pickF rfl rfl) ?_
              refine sd_nil ?_
              have K_30 : Kz [] w3 w8 := (Kz.gr (Kz.gr (Kz.refl _ _) Gw7) Gw8)
              refine ⟨rfl, (!x6), ?_, hm, K_30⟩
              repeat' first | exact trivial | refine ⟨rfl, ?_⟩

set_option maxHeartbeats 2000000 in
theorem ref03_Has_w (p0 : TScheme) (p1 : TSubset) (p2 : Int)  (r : Bool) (hm : ref03_Has p0 p1 p2 = some r) (w : World)   :
    Calls Try.prog 106 [.agg (TScheme.cs p0).toArray, .agg (TSubset.cs p1).toArray, .int .i64 p2].toArray w fun e w' => ∃ v, e = .returned v ∧ (v = .bool r ∧ Gr w w') := by
  unfold ref03_Has at hm
  refine calls_of_sw (R := fun v w' => v = .bool r ∧ Gr w w') 29 Try.func106 rfl rfl rfl ?_
  refine sw_seq ?_
  -- region 0 ref.go:122
  refine sw_region [(0, 0), (1, 0), (2, 0)] rfl rfl rfl ?_
  refine sd_ev rfl rfl rfl (ev_box (cs := TScheme.cs p0) rfl rfl) ?_
  rintro _ w1 ⟨b1, rfl, hbw1, Bw1, Gw1⟩
  have z1 := Gw1.size
  have lt2 := Bw1.lt
  refine sd_ev rfl rfl rfl (ev_box (cs := TSubset.cs p1) rfl rfl) ?_
  rintro _ w2 ⟨b2, rfl, hbw2, Bw2, Gw2⟩
  have z3 := Gw2.size
  have lt4 := Bw2.lt
  refine sd_vv rfl rfl rfl (vv_assign rfl) ?_
  refine sd_done ?_
  refine sw_seq ?_
  -- region 1 ref.go:123
  refine sw_region [(0, 0), (1, 0), (2, 0), (3, 0), (4, 0), (5, 0)] rfl rfl rfl ?_
  refine sd_vv rfl rfl rfl (vv_fieldAddr fa_45_1 rfl) ?_
  have B5 := (Bx.gr Bw1 Gw2)
  refine sd_vv rfl rfl rfl (vv_load1 (v := .int .i64 p0.Depth) one_3 rfl B5 rfl) ?_
  have hb := bnd hm; clear hm; obtain ⟨x1, hx1, hm⟩ := hb
  refine sd_ev rfl rfl rfl (ev_call en_118 rfl (ref03_Receivers_w p0.Depth _ hx1 _)) ?_
  rintro _ w3 ⟨rfl, Gw3⟩
  have z6 := Gw3.size
  refine sd_vv rfl rfl rfl (vv_move rfl) ?_
  refine sd_vv rfl rfl rfl (vv_add (k := .i64) (a := x1) (b := p2) rfl rfl) ?_
  refine sd_vv rfl rfl rfl (vv_assign rfl) ?_
  refine sd_done ?_
  refine sw_seq ?_
  -- region 2 ref.go:124
  refine sw_region [(0, 0), (1, 0), (2, 0), (3, 0), (4, 0), (5, 0), (6, 0), (7, 0), (8, 0), (9, 0), (10, 0), (11, 0), (12, 0), (13, 0), (14, 0), (15, 0), (16, 0)] rfl rfl rfl ?_
  refine sd_vv rfl rfl rfl (vv_move rfl) ?_
  refine sd_vv rfl rfl rfl (vv_fieldAddr fa_47_0 rfl) ?_
  have B7 := (Bx.gr Bw2 Gw3)
  refine sd_vv rfl rfl rfl (vv_load1 (v := .int .i64 p1.Node) one_3 rfl B7 rfl) ?_
  have hb := bnd hm; clear hm; obtain ⟨x2, hx2, hm⟩ := hb
  refine sd_ev rfl rfl rfl (ev_call en_60 rfl (ref03_Below_w (w64 (x1 + p2)) p1.Node _ hx2 _)) ?_
  rintro _ w4 ⟨rfl, Gw4⟩
  have z8 := Gw4.size
  refine sd_split rfl rfl rfl (vv_move rfl) (fun c1 => ?_) (fun c1 => ?_)
  ·
    replace hm := cnd_t c1 hm
    refine sd_vv rfl rfl rfl (vv_fieldAddr fa_47_1 rfl) ?_
    have B9 := (Bx.gr B7 Gw4)
    refine sd_vv rfl rfl rfl (vv_load1 (v := .int .i64 p1.Minus) one_3 rfl B9 rfl) ?_
    refine sd_vv rfl rfl rfl (vv_eql (a := p1.Minus) (b := 0) rfl rfl) ?_
    refine sd_split rfl rfl rfl (vv_move rfl) (fun c2 => ?_) (fun c2 => ?_)
    ·
      replace hm := ite_t (of_decide_eq_true c2) hm
      refine sd_skip rfl rfl rfl ?_
      refine sd_skip rfl rfl rfl ?_
      refine sd_skip rfl rfl rfl ?_
      refine sd_skip rfl rfl rfl ?_
      refine sd_skip rfl rfl rfl ?_
      refine sd_vv rfl rfl rfl (vv_pickT rfl rfl) ?_
      refine sd_vv rfl rfl rfl (vv_pickT rfl rfl) ?_
      refine sd_vv rfl rfl rfl (vv_assign rfl) ?_
      refine sd_done ?_
      refine sw_ret ?_
      have X10 : Gr w w4 := (Gr.trans (Gr.trans (Gr.trans (Gr.trans (Gr.refl w) Gw1) Gw2) Gw3) Gw4)
      have hr := Option.some.inj hm
      subst hr
      refine ⟨_, _, rfl, res_1 rfl (rv_tmp rfl), ?_⟩
      exact ⟨rfl, X10⟩
    ·
      replace hm := ite_f (of_decide_eq_false c2) hm
      refine sd_vv rfl rfl rfl (vv_move rfl) ?_
      refine sd_vv rfl rfl rfl (vv_fieldAddr fa_47_1 rfl) ?_
      refine sd_vv rfl rfl rfl (vv_load1 (v := .int .i64 p1.Minus) one_3 rfl B9 rfl) ?_
      have hb := bnd hm; clear hm; obtain ⟨x3, hx3, hm⟩ := hb
      refine sd_ev rfl rfl rfl (ev_call en_60 rfl (ref03_Below_w (w64 (x1 + p2)) p1.Minus _ hx3 _)) ?_
      rintro _ w5 ⟨rfl, Gw5⟩
      have z11 := Gw5.size
      refine sd_vv rfl rfl rfl (vv_not rfl) ?_
      refine sd_vv rfl rfl rfl (vv_pickF rfl rfl) ?_
      refine sd_vv rfl rfl rfl (vv_pickT rfl rfl) ?_
      refine sd_vv rfl rfl rfl (vv_assign rfl) ?_
      refine sd_done ?_
      refine sw_ret ?_
      have X12 : Gr w w5 := (Gr.trans (Gr.trans (Gr.trans (Gr.trans (Gr.trans (Gr.refl w) Gw1) Gw2) Gw3) Gw4) Gw5)
      have hr := Option.some.inj hm
      subst hr
      refine ⟨_, _, rfl, res_1 rfl (rv_tmp rfl), ?_⟩
      exact ⟨rfl, X12⟩
  ·
    replace hm := cnd_f c1 hm
    refine sd_skip rfl rfl rfl ?_
    refine sd_skip rfl rfl rfl ?_
    refine sd_skip rfl rfl rfl ?_
    refine sd_skip rfl rfl rfl ?_
    refine sd_skip rfl rfl rfl ?_
    refine sd_skip rfl rfl rfl ?_
    refine sd_skip rfl rfl rfl ?_
    refine sd_skip rfl rfl rfl ?_
    refine sd_skip rfl rfl rfl ?_
    refine sd_skip rfl rfl rfl ?_
    refine sd_vv rfl rfl rfl (vv_pickF rfl rfl) ?_
    refine sd_vv rfl rfl rfl (vv_assign rfl) ?_
    refine sd_done ?_
    refine sw_ret ?_
    have X13 : Gr w w4 := (Gr.trans (Gr.trans (Gr.trans (Gr.trans (Gr.refl w) Gw1) Gw2) Gw3) Gw4)
    have hr := Option.some.inj hm
    subst hr
    refine ⟨_, _, rfl, res_1 rfl (rv_tmp rfl), ?_⟩
    exact ⟨rfl, X13⟩

set_option maxHeartbeats 2000000 in
theorem ref03_MembersOf_w (p0 : TScheme) (p1 : TSubset)  (r : List Int) (hm : ref03_MembersOf p0 p1 = some r) (w : World)   :
    Calls Try.prog 85 [.agg (TScheme.cs p0).toArray, .agg (TSubset.cs p1).toArray].toArray w fun e w' => ∃ v, e = .returned v ∧ (∃ (ur0_s : Value) (zr0_s : Nat) (gr0_s : Nat), v = ur0_s ∧ Own w' zr0_s gr0_s 3 1 ur0_s (r.map ic) ∧ Hdn (zr0_s = 0 ∨ w.heap.size ≤ gr0_s) ∧ Gr w w') := by
  unfold ref03_MembersOf at hm
  refine calls_of_sw (R := fun v w' => ∃ (ur0_s : Value) (zr0_s : Nat) (gr0_s : Nat), v = ur0_s ∧ Own w' zr0_s gr0_s 3 1 ur0_s (r.map ic) ∧ Hdn (zr0_s = 0 ∨ w.heap.size ≤ gr0_s) ∧ Gr w w') 23 Try.func85 rfl rfl rfl ?_
  refine sw_seq ?_
  -- region 0 ref.go:128
  refine sw_region [(0, 0), (1, 0), (2, 0)] rfl rfl rfl ?_
  refine sd_ev rfl rfl rfl (ev_box (cs := TScheme.cs p0) rfl rfl) ?_
  rintro _ w1 ⟨b1, rfl, hbw1, Bw1, Gw1⟩
  have z1 := Gw1.size
  have lt2 := Bw1.lt
  refine sd_ev rfl rfl rfl (ev_box (cs := TSubset.cs p1) rfl rfl) ?_
  rintro _ w2 ⟨b2, rfl, hbw2, Bw2, Gw2⟩
  have z3 := Gw2.size
  have lt4 := Bw2.lt
  refine sd_vv rfl rfl rfl (vv_assign rfl) ?_
  refine sd_done ?_
  refine sw_seq ?_
  -- region 1 ref.go:129
  refine sw_region [(0, 0)] rfl rfl rfl ?_
  refine sd_vv rfl rfl rfl (vv_assign rfl) ?_
  refine sd_done ?_
  refine sw_seq ?_
  refine sw_seq ?_
  -- region 2 ref.go:130
  refine sw_region [(0, 0)] rfl rfl rfl ?_
  refine sd_vv rfl rfl rfl (vv_assign rfl) ?_
  refine sd_done ?_
  refine sw_block ?_
  have X5 : Gr w w2 := (Gr.trans (Gr.trans (Gr.refl w) Gw1) Gw2)
  refine sw_loopD (α := Nat × List Int × Int × Value × Nat × Nat) [5, 6, 7, 8, 9, 10, 11, 12, 13, 14, 15, 16, 17, 18, 19, 20, 21] (fun ⟨n1, a4, a6, vy5, zy5, gy5⟩ => [(5, vy5), (6, .int .i64 a6)]) (fun ⟨n1, a4, a6, vy5, zy5, gy5⟩ wr => (fixN (ref03_MembersOf_L1 p0 p1) n1 (a4, a6) = some r) ∧ Own wr zy5 gy5 3 1 vy5 (a4.map ic) ∧ Hdn (zy5 = 0 ∨ w2.heap.size ≤ gy5) ∧ Kz [] w2 wr) (fun ⟨n1, a4, a6, vy5, zy5, gy5⟩ => n1) ⟨FUEL, [], 0, (.slice none 0 0), 0, 0⟩ ?_ ?_ ?_
  · repeat' first | exact trivial | refine ⟨rfl, ?_⟩
  · exact ⟨hm, (own_nil _ 0 3 1), ⟨(.inl rfl)⟩, Kz.refl _ _⟩
  · clear hm; rintro ⟨n1, a4, a6, vy5, zy5, gy5⟩ w3 ⟨hm, Fw3_0, Fw3_1, Kw3⟩
    have z6 := Kw3.size
    have lt7 := Fw3_0.lth
    have hb := fix_succ hm; clear hm; obtain ⟨n1, rfl, hm⟩ := hb
    generalize hrec1 : fixN (ref03_MembersOf_L1 p0 p1) n1 = rec1 at hm
    unfold ref03_MembersOf_L1 at hm
    try dsimp only at hm
    refine sw_seq ?_
    refine sw_seq ?_
    -- region 3 ref.go:130
    refine sw_region [(0, 0), (1, 0), (2, 0), (3, 0), (4, 0)] rfl rfl rfl ?_
    refine sd_vv rfl rfl rfl (vv_move rfl) ?_
    refine sd_vv rfl rfl rfl (vv_fieldAddr fa_45_1 rfl) ?_
    have B8 := (Bx.kz (Bx.gr Bw1 Gw2) Kw3)
    refine sd_vv rfl rfl rfl (vv_load1 (v := .int .i64 p0.Depth) one_3 rfl B8 rfl) ?_
    have hb := bnd hm; clear hm; obtain ⟨x7, hx7, hm⟩ := hb
    refine sd_ev rfl rfl rfl (ev_call en_118 rfl (ref03_Receivers_w p0.Depth _ hx7 _)) ?_
    rintro _ w4 ⟨rfl, Gw4⟩
    have z9 := Gw4.size
    refine sd_vv rfl rfl rfl (vv_lss (a := a6) (b := x7) rfl rfl) ?_
    refine sd_done ?_
    refine sw_cond rfl (fun c1 => ?_) (fun c1 => ?_)
    ·
      replace hm := ite_t (of_decide_eq_true c1) hm
      refine sw_skip ?_
      refine then_n ?_
      refine sw_seq ?_
      refine sw_block ?_
      refine sw_seq ?_
      -- region 5 ref.go:131
      refine sw_region [(0, 0), (1, 0), (2, 0), (3, 0)] rfl rfl rfl ?_
      have B10 := (Bx.gr B8 Gw4)
      refine sd_vv rfl rfl rfl (vv_loadW agg_45 rfl B10 rfl) ?_
      have B11 := (Bx.gr (Bx.kz Bw2 Kw3) Gw4)
      refine sd_vv rfl rfl rfl (vv_loadW agg_47 rfl B11 rfl) ?_
      refine sd_vv rfl rfl rfl (vv_move rfl) ?_
      have hb := bnd hm; clear hm; obtain ⟨x8, hx8, hm⟩ := hb
      refine sd_ev rfl rfl rfl (ev_call en_106 rfl (ref03_Has_w p0 p1 a6 _ hx8 _)) ?_
      rintro _ w5 ⟨rfl, Gw5⟩
      have z12 := Gw5.size
      refine sd_done ?_
      refine sw_cond rfl (fun c2 => ?_) (fun c2 => ?_)
      ·
        replace hm := cnd_t c2 hm
        -- region 6 ref.go:132
        refine sw_region [(0, 0), (1, 0), (2, 0), (3, 0), (4, 0)] rfl rfl rfl ?_
        refine sd_vv rfl rfl rfl (vv_move rfl) ?_
        refine sd_vv rfl rfl rfl (vv_move rfl) ?_
        refine sd_ev rfl rfl rfl (ev_litT [a6] ic bsl_61_1 rfl rfl (ws_of rfl) rfl rfl rfl) ?_
        rintro vw6 w6 ⟨gw6, hbw6, Ow6, Gw6⟩
        have z13 := Gw6.size
        have lt14 := Ow6.lth
        have B15 := (Own.gr (Own.gr (Own.gr Fw3_0 Gw4) Gw5) Gw6)
        have hb := bnd hm; clear hm; obtain ⟨l9, hl9, hm⟩ := hb
        refine sd_ev rfl rfl rfl (ev_appT (l := a4) (m := [a6]) (c := ic) apt_61 rfl rfl B15 (Own.rd Ow6) hl9 (by decide)) ?_
        rintro vw7 w7 ⟨zw7, gw7, Ow7, Aw7, qw7, rw7⟩
        have z16 := Aw7.size
        refine sd_vv rfl rfl rfl (vv_assign rfl) ?_
        refine sd_nil ?_
        refine block_n ?_
        refine then_n ?_
        -- region 4 ref.go:130
        refine sw_region [(0, 0), (1, 0), (2, 0)] rfl rfl rfl ?_
        refine sd_vv rfl rfl rfl (vv_move rfl) ?_
        refine sd_vv rfl rfl rfl (vv_add (k := .i64) (a := a6) (b := 1) rfl rfl) ?_
        refine sd_vv rfl rfl rfl (vv_assign rfl) ?_
        refine sd_nil ?_
        have K_17 : Kz [] w2 w7 := (Kz.ka (Kz.gr (Kz.gr (Kz.gr Kw3 Gw4) Gw5) Gw6) Aw7 (tk1 ((pv_0 (A := (fun x => w2.heap.size ≤ x)) Fw3_1) : zy5 = 0 ∨ w2.heap.size ≤ gy5)))
        subst hrec1
        refine ⟨rfl, ⟨n1, l9, w64 (a6 + 1), vw7, zw7, gw7⟩, ?_, ⟨hm, Ow7, ⟨(pv_app (A := (fun x => w2.heap.size ≤ x)) rw7 (pv_0 (A := (fun x => w2.heap.size ≤ x)) Fw3_1))⟩, K_17⟩, Nat.lt_succ_self _⟩
        repeat' first | exact trivial | refine ⟨rfl, ?_⟩
      ·
        replace hm := cnd_f c2 hm
        refine sw_skip ?_
        refine block_n ?_
        refine then_n ?_
        -- region 4 ref.go:130
        refine sw_region [(0, 0), (1, 0), (2, 0)] rfl rfl rfl ?_
        refine sd_vv rfl rfl rfl (vv_move rfl) ?_
        refine sd_vv rfl rfl rfl (vv_add (k := .i64) (a := a6) (b := 1) rfl rfl) ?_
        refine sd_vv rfl rfl rfl (vv_assign rfl) ?_
        refine sd_nil ?_
        have K_18 : Kz [] w2 w5 := (Kz.gr (Kz.gr Kw3 Gw4) Gw5)
        have B19 := (Own.gr (Own.gr Fw3_0 Gw4) Gw5)
        subst hrec1
        refine ⟨rfl, ⟨n1, a4, w64 (a6 + 1), vy5, zy5, gy5⟩, ?_, ⟨hm, B19, ⟨(pv_0 (A := (fun x => w2.heap.size ≤ x)) Fw3_1)⟩, K_18⟩, Nat.lt_succ_self _⟩
        repeat' first | exact trivial | refine ⟨rfl, ?_⟩
    ·
      replace hm := ite_f (of_decide_eq_false c1) hm
      refine sw_exit ?_
      refine then_x ?_
      refine then_x ?_
      refine block_x ?_
      refine then_n ?_
      refine sw_seq ?_
      -- region 7 ref.go:135
      refine sw_region [(0, 0), (1, 0)] rfl rfl rfl ?_
      refine sd_vv rfl rfl rfl (vv_move rfl) ?_
      refine sd_vv rfl rfl rfl (vv_assign rfl) ?_
      refine sd_done ?_
      refine sw_ret ?_
      have B20 := (Own.gr Fw3_0 Gw4)
      have X21 : Gr w w4 := (Gr.trans (Gr.kz X5 Kw3) Gw4)
      have hr := Option.some.inj hm
      subst hr
      refine ⟨_, _, rfl, res_1 rfl (rv_tmp rfl), ?_⟩
      exact ⟨vy5, zy5, gy5, rfl, B20, ⟨(pv_0 (A := (fun x => w.heap.size ≤ x)) Fw3_1)⟩, X21⟩

set_option maxHeartbeats 2000000 in
theorem ref03_Members_w (p0 : TScheme) (p1 : TSubset)  (r : List Int × Int) (hm : ref03_Members p0 p1 = some r) (w : World)   :
    Calls Try.prog 36 [.agg (TScheme.cs p0).toArray, .agg (TSubset.cs p1).toArray].toArray w fun e w' => ∃ v, e = .returned v ∧ (∃ (ur0_s : Value) (zr0_s : Nat) (gr0_s : Nat), v = .tuple [ur0_s, .int .i64 r.2].toArray ∧ Own w' zr0_s gr0_s 3 1 ur0_s (r.1.map ic) ∧ Hdn (zr0_s = 0 ∨ w.heap.size ≤ gr0_s) ∧ Gr w w') := by
  unfold ref03_Members at hm
  refine calls_of_sw (R := fun v w' => ∃ (ur0_s : Value) (zr0_s : Nat) (gr0_s : Nat), v = .tuple [ur0_s, .int .i64 r.2].toArray ∧ Own w' zr0_s gr0_s 3 1 ur0_s (r.1.map ic) ∧ Hdn (zr0_s = 0 ∨ w.heap.size ≤ gr0_s) ∧ Gr w w') 16 Try.func36 rfl rfl rfl ?_
  refine sw_seq ?_
  -- region 0 ref.go:139
  refine sw_region [(0, 0), (1, 0), (2, 0), (3, 0)] rfl rfl rfl ?_
  refine sd_ev rfl rfl rfl (ev_box (cs := TScheme.cs p0) rfl rfl) ?_
  rintro _ w1 ⟨b1, rfl, hbw1, Bw1, Gw1⟩
  have z1 := Gw1.size
  have lt2 := Bw1.lt
  refine sd_ev rfl rfl rfl (ev_box (cs := TSubset.cs p1) rfl rfl) ?_
  rintro _ w2 ⟨b2, rfl, hbw2, Bw2, Gw2⟩
  have z3 := Gw2.size
  have lt4 := Bw2.lt
  refine sd_vv rfl rfl rfl (vv_assign rfl) ?_
  refine sd_vv rfl rfl rfl (vv_assign rfl) ?_
  refine sd_done ?_
  refine sw_seq ?_
  refine sw_seq ?_
  -- region 1 ref.go:140
  refine sw_region [(0, 0), (1, 0), (2, 0)] rfl rfl rfl ?_
  have B5 := (Bx.gr Bw1 Gw2)
  refine sd_vv rfl rfl rfl (vv_loadW agg_45 rfl B5 rfl) ?_
  have hb := bnd hm; clear hm; obtain ⟨x1, hx1, hm⟩ := hb
  refine sd_ev rfl rfl rfl (ev_call en_59 rfl (ref03_Valid_w p0 _ hx1 _)) ?_
  rintro _ w3 ⟨rfl, Gw3⟩
  have z6 := Gw3.size
  refine sd_vv rfl rfl rfl (vv_not rfl) ?_
  refine sd_done ?_
  refine sw_cond rfl (fun c1 => ?_) (fun c1 => ?_)
  ·
    replace hm := cnd_t c1 hm
    refine sw_seq ?_
    -- region 2 ref.go:141
    refine sw_region [(0, 0), (1, 0)] rfl rfl rfl ?_
    refine sd_vv rfl rfl rfl (vv_assign rfl) ?_
    refine sd_vv rfl rfl rfl (vv_assign rfl) ?_
    refine sd_done ?_
    refine sw_ret ?_
    refine then_r ?_
    have X7 : Gr w w3 := (Gr.trans (Gr.trans (Gr.trans (Gr.refl w) Gw1) Gw2) Gw3)
    have hr := Option.some.inj hm
    subst hr
    refine ⟨_, _, rfl, res_2 rfl (rv_tmp rfl) (rv_tmp rfl), ?_⟩
    exact ⟨(.slice none 0 0), 0, 0, rfl, (own_nil _ 0 3 1), ⟨.inl rfl⟩, X7⟩
  ·
    replace hm := cnd_f c1 hm
    refine sw_skip ?_
    refine then_n ?_
    refine sw_seq ?_
    refine sw_seq ?_
    -- region 3 ref.go:143
    refine sw_region [(0, 0), (1, 0), (2, 0), (3, 0)] rfl rfl rfl ?_
    have B8 := (Bx.gr B5 Gw3)
    refine sd_vv rfl rfl rfl (vv_loadW agg_45 rfl B8 rfl) ?_
    have B9 := (Bx.gr Bw2 Gw3)
    refine sd_vv rfl rfl rfl (vv_loadW agg_47 rfl B9 rfl) ?_
    have hb := bnd hm; clear hm; obtain ⟨x2, hx2, hm⟩ := hb
    refine sd_ev rfl rfl rfl (ev_call en_62 rfl (ref03_IsSubset_w p0 p1 _ hx2 _)) ?_
    rintro _ w4 ⟨rfl, Gw4⟩
    have z10 := Gw4.size
    refine sd_vv rfl rfl rfl (vv_not rfl) ?_
    refine sd_done ?_
    refine sw_cond rfl (fun c2 => ?_) (fun c2 => ?_)
    ·
      replace hm := cnd_t c2 hm
      refine sw_seq ?_
      -- region 4 ref.go:144
      refine sw_region [(0, 0), (1, 0)] rfl rfl rfl ?_
      refine sd_vv rfl rfl rfl (vv_assign rfl) ?_
      refine sd_vv rfl rfl rfl (vv_assign rfl) ?_
      refine sd_done ?_
      refine sw_ret ?_
      refine then_r ?_
      have X11 : Gr w w4 := (Gr.trans (Gr.trans (Gr.trans (Gr.trans (Gr.refl w) Gw1) Gw2) Gw3) Gw4)
      have hr := Option.some.inj hm
      subst hr
      refine ⟨_, _, rfl, res_2 rfl (rv_tmp rfl) (rv_tmp rfl), ?_⟩
      exact ⟨(.slice none 0 0), 0, 0, rfl, (own_nil _ 0 3 1), ⟨.inl rfl⟩, X11⟩
    ·
      replace hm := cnd_f c2 hm
      refine sw_skip ?_
      refine then_n ?_
      refine sw_seq ?_
      -- region 5 ref.go:146
      refine sw_region [(0, 0), (1, 0), (2, 0), (3, 0), (4, 0)] rfl rfl rfl ?_
      have B12 := (Bx.gr B8 Gw4)
      refine sd_vv rfl rfl rfl (vv_loadW agg_45 rfl B12 rfl) ?_
      have B13 := (Bx.gr B9 Gw4)
      refine sd_vv rfl rfl rfl (vv_loadW agg_47 rfl B13 rfl) ?_
      have hb := bnd hm; clear hm; obtain ⟨x3, hx3, hm⟩ := hb
      refine sd_ev rfl rfl rfl (ev_call en_85 rfl (ref03_MembersOf_w p0 p1 _ hx3 _)) ?_
      rintro u5_r0_s w5 ⟨_, z5_r0_s, g5_r0_s, rfl, O5_r0_s, f5_r0_s, Gw5⟩
      have z14 := Gw5.size
      have lt15 := O5_r0_s.lth
      refine sd_vv rfl rfl rfl (vv_assign rfl) ?_
      refine sd_vv rfl rfl rfl (vv_assign rfl) ?_
      refine sd_done ?_
      refine sw_ret ?_
      have X16 : Gr w w5 := (Gr.trans (Gr.trans (Gr.trans (Gr.trans (Gr.trans (Gr.refl w) Gw1) Gw2) Gw3) Gw4) Gw5)
      have hr := Option.some.inj hm
      subst hr
      refine ⟨_, _, rfl, res_2 rfl (rv_tmp rfl) (rv_tmp rfl), ?_⟩
      exact ⟨u5_r0_s, z5_r0_s, g5_r0_s, rfl, O5_r0_s, ⟨(pv_0 (A := (fun x => w.heap.size ≤ x)) f5_r0_s)⟩, X16⟩

set_option maxHeartbeats 2000000 in
theorem ref03_SameInts_w (p0 : List Int) (p1 : List Int) (vp0 : Value) (zp0 gp0 op0 : Nat) (vp1 : Value) (zp1 gp1 op1 : Nat) (r : Bool) (hm : ref03_SameInts p0 p1 = some r) (w : World) (hp0 : Rd w zp0 gp0 op0 1 vp0 (p0.map ic)) (hp1 : Rd w zp1 gp1 op1 1 vp1 (p1.map ic))  :
    Calls Try.prog 37 [vp0, vp1].toArray w fun e w' => ∃ v, e = .returned v ∧ (v = .bool r ∧ Gr w w') := by
  have lt1 := hp0.lth
  have lt2 := hp1.lth
  unfold ref03_SameInts at hm
  refine calls_of_sw (R := fun v w' => v = .bool r ∧ Gr w w') 26 Try.func37 rfl rfl rfl ?_
  refine sw_seq ?_
  -- region 0 ref.go:604
  refine sw_region [(0, 0)] rfl rfl rfl ?_
  refine sd_vv rfl rfl rfl (vv_assign rfl) ?_
  refine sd_done ?_
  refine sw_seq ?_
  refine sw_seq ?_
  -- region 1 ref.go:605
  refine sw_region [(0, 0), (1, 0), (2, 0), (3, 0), (4, 0)] rfl rfl rfl ?_
  refine sd_vv rfl rfl rfl (vv_move rfl) ?_
  refine sd_vv rfl rfl rfl (vv_lenT (l := p0) (c := ic) Try.underlying61 rfl hp0) ?_
  refine sd_vv rfl rfl rfl (vv_move rfl) ?_
  refine sd_vv rfl rfl rfl (vv_lenT (l := p1) (c := ic) Try.underlying61 rfl hp1) ?_
  refine sd_vv rfl rfl rfl (vv_neq (a := (p0.length : Int)) (b := (p1.length : Int)) rfl rfl) ?_
  refine sd_done ?_
  refine sw_cond rfl (fun c1 => ?_) (fun c1 => ?_)
  ·
    replace hm := ite_t (of_decide_eq_true c1) hm
    refine sw_seq ?_
    -- region 2 ref.go:606
    refine sw_region [(0, 0)] rfl rfl rfl ?_
    refine sd_vv rfl rfl rfl (vv_assign rfl) ?_
    refine sd_done ?_
    refine sw_ret ?_
    refine then_r ?_
    have hr := Option.some.inj hm
    subst hr
    refine ⟨_, _, rfl, res_1 rfl (rv_tmp rfl), ?_⟩
    exact ⟨rfl, (Gr.refl w)⟩
  ·
    replace hm := ite_f (of_decide_eq_false c1) hm
    refine sw_skip ?_
    refine then_n ?_
    refine sw_seq ?_
    refine sw_seq ?_
    -- region 3 ref.go:608
    refine sw_region [(0, 0)] rfl rfl rfl ?_
    refine sd_vv rfl rfl rfl (vv_assign rfl) ?_
    refine sd_done ?_
    refine sw_block ?_
    refine sw_loopD (α := Nat × Int) [4, 5, 11, 12, 13, 14, 15, 16, 17, 18, 19, 20, 21, 22, 23, 24, 25] (fun ⟨n1, a2⟩ => [(4, .bool false), (5, .int .i64 a2)]) (fun ⟨n1, a2⟩ wr => (fixN (ref03_SameInts_L1 p0 p1) n1 a2 = some r) ∧ Kz [] w wr) (fun ⟨n1, a2⟩ => n1) ⟨FUEL, 0⟩ ?_ ?_ ?_
    · repeat' first | exact trivial | refine ⟨rfl, ?_⟩
    · exact ⟨hm, Kz.refl _ _⟩
    · clear hm; rintro ⟨n1, a2⟩ w1 ⟨hm, Kw1⟩
      have z3 := Kw1.size
      have hb := fix_succ hm; clear hm; obtain ⟨n1, rfl, hm⟩ := hb
      generalize hrec1 : fixN (ref03_SameInts_L1 p0 p1) n1 = rec1 at hm
      unfold ref03_SameInts_L1 at hm
      try dsimp only at hm
      refine sw_seq ?_
      refine sw_seq ?_
      -- region 4 ref.go:608
      refine sw_region [(0, 0), (1, 0), (2, 0), (3, 0)] rfl rfl rfl ?_
      refine sd_vv rfl rfl rfl (vv_move rfl) ?_
      refine sd_vv rfl rfl rfl (vv_move rfl) ?_
      have B4 := (Rd.kz hp0 Kw1)
      refine sd_vv rfl rfl rfl (vv_lenT (l := p0) (c := ic) Try.underlying61 rfl B4) ?_
      refine sd_vv rfl rfl rfl (vv_lss (a := a2) (b := (p0.length : Int)) rfl rfl) ?_
      refine sd_done ?_
      refine sw_cond rfl (fun c2 => ?_) (fun c2 => ?_)
      ·
        replace hm := ite_t (of_decide_eq_true c2) hm
        refine sw_skip ?_
        refine then_n ?_
        refine sw_seq ?_
        refine sw_block ?_
        refine sw_seq ?_
        -- region 6 ref.go:609 DRAWS
        refine sw_drawN [([])] [] (.leaf [(0, 10), (1, 10), (2, 10), (3, 10), (4, 10), (5, 10), (6, 10), (7, 10), (8, 10)]) (by kernel_rfl) (by kernel_rfl) rfl (by kernel_rfl) ?_
        intro w2 Gw2 zw2
        refine sdz_leaf ?_
        refine dd_hn 0 rfl rfl rfl rfl (Kp.refl ([]) w2) (fun w hS => vv_move rfl) ?_
        refine dd_hn 0 rfl rfl rfl rfl (Kp.refl ([]) w2) (fun w hS => vv_move rfl) ?_
        have hb := bnd hm; clear hm; obtain ⟨y3, hy3, hm⟩ := hb
        have B5 := (Rd.gr B4 Gw2)
        refine dd_hn 0 rfl rfl rfl rfl (Kp.refl ([]) w2) (fun w hS => vv_ixT (i := a2) Try.underlying61 (one_3).siz rfl (Rd.kp B5 hS) rfl hy3) ?_
        refine dd_hn 0 rfl rfl rfl rfl (Kp.refl ([]) w2) (fun w hS => vv_el1T (q := 0) (u := .int .i64 y3) one_3 rfl (Rd.kp B5 hS) hy3 (by first | rfl | omega) rfl) ?_
        refine dd_hn 0 rfl rfl rfl rfl (Kp.refl ([]) w2) (fun w hS => vv_move rfl) ?_
        refine dd_hn 0 rfl rfl rfl rfl (Kp.refl ([]) w2) (fun w hS => vv_move rfl) ?_
        have hb := bnd hm; clear hm; obtain ⟨y4, hy4, hm⟩ := hb
        have B6 := (Rd.gr (Rd.kz hp1 Kw1) Gw2)
        refine dd_hn 0 rfl rfl rfl rfl (Kp.refl ([]) w2) (fun w hS => vv_ixT (i := a2) Try.underlying61 (one_3).siz rfl (Rd.kp B6 hS) rfl hy4) ?_
        refine dd_hn 0 rfl rfl rfl rfl (Kp.refl ([]) w2) (fun w hS => vv_el1T (q := 0) (u := .int .i64 y4) one_3 rfl (Rd.kp B6 hS) hy4 (by first | rfl | omega) rfl) ?_
        refine dd_hn 0 rfl rfl rfl rfl (Kp.refl ([]) w2) (fun w hS => vv_neq (a := y3) (b := y4) rfl rfl) ?_
        refine sd_done ?_
        refine sw_cond rfl (fun c3 => ?_) (fun c3 => ?_)
        ·
          replace hm := ite_t (of_decide_eq_true c3) hm
          refine sw_seq ?_
          -- region 7 ref.go:610
          refine sw_region [(0, 0)] rfl rfl rfl ?_
          refine sd_vv rfl rfl rfl (vv_assign rfl) ?_
          refine sd_done ?_
          refine sw_ret ?_
          refine block_r ?_
          refine then_r ?_
          refine then_r ?_
          refine block_r ?_
          refine then_r ?_
          have X7 : Gr w w2 := (Gr.trans (Gr.kz (Gr.refl w) Kw1) Gw2)
          have hr := Option.some.inj hm
          subst hr
          refine ⟨_, _, rfl, res_1 rfl (rv_tmp rfl), ?_⟩
          exact ⟨rfl, X7⟩
        ·
          replace hm := ite_f (of_decide_eq_false c3) hm
          refine sw_skip ?_
          refine block_n ?_
          refine then_n ?_
          -- region 5 ref.go:608
          refine sw_region [(0, 0), (1, 0), (2, 0)] rfl rfl rfl ?_
          refine sd_vv rfl rfl rfl (vv_move rfl) ?_
          refine sd_vv rfl rfl rfl (vv_add (k := .i64) (a := a2) (b := 1) rfl rfl) ?_
          refine sd_vv rfl rfl rfl (vv_assign rfl) ?_
          refine sd_nil ?_
          have K_8 : Kz [] w w2 := (Kz.gr Kw1 Gw2)
          subst hrec1
          refine ⟨rfl, ⟨n1, w64 (a2 + 1)⟩, ?_, ⟨hm, K_8⟩, Nat.lt_succ_self _⟩
          repeat' first | exact trivial | refine ⟨rfl, ?_⟩
      ·
        replace hm := ite_f (of_decide_eq_false c2) hm
        refine sw_exit ?_
        refine then_x ?_
        refine then_x ?_
        refine block_x ?_
        refine then_n ?_
        refine sw_seq ?_
        -- region 8 ref.go:613
        refine sw_region [(0, 0)] rfl rfl rfl ?_
        refine sd_vv rfl rfl rfl (vv_assign rfl) ?_
        refine sd_done ?_
        refine sw_ret ?_
        have X9 : Gr w w1 := (Gr.kz (Gr.refl w) Kw1)
        have hr := Option.some.inj hm
        subst hr
        refine ⟨_, _, rfl, res_1 rfl (rv_tmp rfl), ?_⟩
        exact ⟨rfl, X9⟩

set_option maxHeartbeats 2000000 in
theorem ref03_SameSubsets_w (p0 : List TSubset) (p1 : List TSubset) (vp0 : Value) (zp0 gp0 op0 : Nat) (vp1 : Value) (zp1 gp1 op1 : Nat) (r : Bool) (hm : ref03_SameSubsets p0 p1 = some r) (w : World) (hp0 : Rd w zp0 gp0 op0 2 vp0 (p0.map TSubset.cs)) (hp1 : Rd w zp1 gp1 op1 2 vp1 (p1.map TSubset.cs))  :
    Calls Try.prog 30 [vp0, vp1].toArray w fun e w' => ∃ v, e = .returned v ∧ (v = .bool r ∧ Gr w w') := by
  have lt1 := hp0.lth
  have lt2 := hp1.lth
  unfold ref03_SameSubsets at hm
  refine calls_of_sw (R := fun v w' => v = .bool r ∧ Gr w w') 26 Try.func30 rfl rfl rfl ?_
  refine sw_seq ?_
  -- region 0 ref.go:591
  refine sw_region [(0, 0)] rfl rfl rfl ?_
  refine sd_vv rfl rfl rfl (vv_assign rfl) ?_
  refine sd_done ?_
  refine sw_seq ?_
  refine sw_seq ?_
  -- region 1 ref.go:592
  refine sw_region [(0, 0), (1, 0), (2, 0), (3, 0), (4, 0)] rfl rfl rfl ?_
  refine sd_vv rfl rfl rfl (vv_move rfl) ?_
  refine sd_vv rfl rfl rfl (vv_lenT (l := p0) (c := TSubset.cs) Try.underlying48 rfl hp0) ?_
  refine sd_vv rfl rfl rfl (vv_move rfl) ?_
  refine sd_vv rfl rfl rfl (vv_lenT (l := p1) (c := TSubset.cs) Try.underlying48 rfl hp1) ?_
  refine sd_vv rfl rfl rfl (vv_neq (a := (p0.length : Int)) (b := (p1.length : Int)) rfl rfl) ?_
  refine sd_done ?_
  refine sw_cond rfl (fun c1 => ?_) (fun c1 => ?_)
  ·
    replace hm := ite_t (of_decide_eq_true c1) hm
    refine sw_seq ?_
    -- region 2 ref.go:593
    refine sw_region [(0, 0)] rfl rfl rfl ?_
    refine sd_vv rfl rfl rfl (vv_assign rfl) ?_
    refine sd_done ?_
    refine sw_ret ?_
    refine then_r ?_
    have hr := Option.some.inj hm
    subst hr
    refine ⟨_, _, rfl, res_1 rfl (rv_tmp rfl), ?_⟩
    exact ⟨rfl, (Gr.refl w)⟩
  ·
    replace hm := ite_f (of_decide_eq_false c1) hm
    refine sw_skip ?_
    refine then_n ?_
    refine sw_seq ?_
    refine sw_seq ?_
    -- region 3 ref.go:595
    refine sw_region [(0, 0)] rfl rfl rfl ?_
    refine sd_vv rfl rfl rfl (vv_assign rfl) ?_
    refine sd_done ?_
    refine sw_block ?_
    refine sw_loopD (α := Nat × Int) [4, 5, 11, 12, 13, 14, 15, 16, 17, 18, 19, 20, 21, 22, 23, 24, 25] (fun ⟨n1, a2⟩ => [(4, .bool false), (5, .int .i64 a2)]) (fun ⟨n1, a2⟩ wr => (fixN (ref03_SameSubsets_L1 p0 p1) n1 a2 = some r) ∧ Kz [] w wr) (fun ⟨n1, a2⟩ => n1) ⟨FUEL, 0⟩ ?_ ?_ ?_
    · repeat' first | exact trivial | refine ⟨rfl, ?_⟩
    · exact ⟨hm, Kz.refl _ _⟩
    · clear hm; rintro ⟨n1, a2⟩ w1 ⟨hm, Kw1⟩
      have z3 := Kw1.size
      have hb := fix_succ hm; clear hm; obtain ⟨n1, rfl, hm⟩ := hb
      generalize hrec1 : fixN (ref03_SameSubsets_L1 p0 p1) n1 = rec1 at hm
      unfold ref03_SameSubsets_L1 at hm
      try dsimp only at hm
      refine sw_seq ?_
      refine sw_seq ?_
      -- region 4 ref.go:595
      refine sw_region [(0, 0), (1, 0), (2, 0), (3, 0)] rfl rfl rfl ?_
      refine sd_vv rfl rfl rfl (vv_move rfl) ?_
      refine sd_vv rfl rfl rfl (vv_move rfl) ?_
      have B4 := (Rd.kz hp0 Kw1)
      refine sd_vv rfl rfl rfl (vv_lenT (l := p0) (c := TSubset.cs) Try.underlying48 rfl B4) ?_
      refine sd_vv rfl rfl rfl (vv_lss (a := a2) (b := (p0.length : Int)) rfl rfl) ?_
      refine sd_done ?_
      refine sw_cond rfl (fun c2 => ?_) (fun c2 => ?_)
      ·
        replace hm := ite_t (of_decide_eq_true c2) hm
        refine sw_skip ?_
        refine then_n ?_
        refine sw_seq ?_
        refine sw_block ?_
        refine sw_seq ?_
        -- region 6 ref.go:596 DRAWS
        refine sw_drawN [([])] [] (.leaf [(0, 10), (1, 10), (2, 10), (3, 10), (4, 10), (5, 10), (6, 10), (7, 10), (8, 10)]) (by kernel_rfl) (by kernel_rfl) rfl (by kernel_rfl) ?_
        intro w2 Gw2 zw2
        refine sdz_leaf ?_
        refine dd_hn 0 rfl rfl rfl rfl (Kp.refl ([]) w2) (fun w hS => vv_move rfl) ?_
        refine dd_hn 0 rfl rfl rfl rfl (Kp.refl ([]) w2) (fun w hS => vv_move rfl) ?_
        have hb := bnd hm; clear hm; obtain ⟨y3, hy3, hm⟩ := hb
        have B5 := (Rd.gr B4 Gw2)
        refine dd_hn 0 rfl rfl rfl rfl (Kp.refl ([]) w2) (fun w hS => vv_ixT (i := a2) Try.underlying48 (agg_47).siz rfl (Rd.kp B5 hS) rfl hy3) ?_
        refine dd_hn 0 rfl rfl rfl rfl (Kp.refl ([]) w2) (fun w hS => vv_elWT agg_47 rfl (Rd.kp B5 hS) hy3 (by first | rfl | omega)) ?_
        refine dd_hn 0 rfl rfl rfl rfl (Kp.refl ([]) w2) (fun w hS => vv_move rfl) ?_
        refine dd_hn 0 rfl rfl rfl rfl (Kp.refl ([]) w2) (fun w hS => vv_move rfl) ?_
        have hb := bnd hm; clear hm; obtain ⟨y4, hy4, hm⟩ := hb
        have B6 := (Rd.gr (Rd.kz hp1 Kw1) Gw2)
        refine dd_hn 0 rfl rfl rfl rfl (Kp.refl ([]) w2) (fun w hS => vv_ixT (i := a2) Try.underlying48 (agg_47).siz rfl (Rd.kp B6 hS) rfl hy4) ?_
        refine dd_hn 0 rfl rfl rfl rfl (Kp.refl ([]) w2) (fun w hS => vv_elWT agg_47 rfl (Rd.kp B6 hS) hy4 (by first | rfl | omega)) ?_
        refine dd_hn 0 rfl rfl rfl rfl (Kp.refl ([]) w2) (fun w hS => vv_neqS (cf := TSubset.cs) (a := y3) (b := y4) eqt_47 rfl rfl rfl rfl (fun h => TSubset.cs_inj h)) ?_
        refine sd_done ?_
        refine sw_cond rfl (fun c3 => ?_) (fun c3 => ?_)
        ·
          replace hm := ite_t (of_decide_eq_true c3) hm
          refine sw_seq ?_
          -- region 7 ref.go:597
          refine sw_region [(0, 0)] rfl rfl rfl ?_
          refine sd_vv rfl rfl rfl (vv_assign rfl) ?_
          refine sd_done ?_
          refine sw_ret ?_
          refine block_r ?_
          refine then_r ?_
          refine then_r ?_
          refine block_r ?_
          refine then_r ?_
          have X7 : Gr w w2 := (Gr.trans (Gr.kz (Gr.refl w) Kw1) Gw2)
          have hr := Option.some.inj hm
          subst hr
          refine ⟨_, _, rfl, res_1 rfl (rv_tmp rfl), ?_⟩
          exact ⟨rfl, X7⟩
        ·
          replace hm := ite_f (of_decide_eq_false c3) hm
          refine sw_skip ?_
          refine block_n ?_
          refine then_n ?_
          -- region 5 ref.go:595
          refine sw_region [(0, 0), (1, 0), (2, 0)] rfl rfl rfl ?_
          refine sd_vv rfl rfl rfl (vv_move rfl) ?_
          refine sd_vv rfl rfl rfl (vv_add (k := .i64) (a := a2) (b := 1) rfl rfl) ?_
          refine sd_vv rfl rfl rfl (vv_assign rfl) ?_
          refine sd_nil ?_
          have K_8 : Kz [] w w2 := (Kz.gr Kw1 Gw2)
          subst hrec1
          refine ⟨rfl, ⟨n1, w64 (a2 + 1)⟩, ?_, ⟨hm, K_8⟩, Nat.lt_succ_self _⟩
          repeat' first | exact trivial | refine ⟨rfl, ?_⟩
      ·
        replace hm := ite_f (of_decide_eq_false c2) hm
        refine sw_exit ?_
        refine then_x ?_
        refine then_x ?_
        refine block_x ?_
        refine then_n ?_
        refine sw_seq ?_
        -- region 8 ref.go:600
        refine sw_region [(0, 0)] rfl rfl rfl ?_
        refine sd_vv rfl rfl rfl (vv_assign rfl) ?_
        refine sd_done ?_
        refine sw_ret ?_
        have X9 : Gr w w1 := (Gr.kz (Gr.refl w) Kw1)
        have hr := Option.some.inj hm
        subst hr
        refine ⟨_, _, rfl, res_1 rfl (rv_tmp rfl), ?_⟩
        exact ⟨rfl, X9⟩

set_option maxHeartbeats 2000000 in
theorem ref03_SameSecret_w (p0 : TSecret) (p1 : TSecret) (vp0_1 : Value) (zp0_1 gp0_1 op0_1 : Nat) (vp1_1 : Value) (zp1_1 gp1_1 op1_1 : Nat) (r : Bool) (hm : ref03_SameSecret p0 p1 = some r) (w : World) (hp0_1 : Rd w zp0_1 gp0_1 op0_1 18 vp0_1 (p0.Labels.map TLabel.cs)) (hp1_1 : Rd w zp1_1 gp1_1 op1_1 18 vp1_1 (p1.Labels.map TLabel.cs))  :
    Calls Try.prog 42 [.agg (TSecret.cs p0 vp0_1).toArray, .agg (TSecret.cs p1 vp1_1).toArray].toArray w fun e w' => ∃ v, e = .returned v ∧ (v = .bool r ∧ Gr w w') := by
  have lt1 := hp0_1.lth
  have lt2 := hp1_1.lth
  unfold ref03_SameSecret at hm
  refine calls_of_sw (R := fun v w' => v = .bool r ∧ Gr w w') 45 Try.func42 rfl rfl rfl ?_
  refine sw_seq ?_
  -- region 0 ref.go:617
  refine sw_region [(0, 0), (1, 0), (2, 0)] rfl rfl rfl ?_
  refine sd_ev rfl rfl rfl (ev_box (cs := TSecret.cs p0 vp0_1) rfl rfl) ?_
  rintro _ w1 ⟨b1, rfl, hbw1, Bw1, Gw1⟩
  have z3 := Gw1.size
  have lt4 := Bw1.lt
  refine sd_ev rfl rfl rfl (ev_box (cs := TSecret.cs p1 vp1_1) rfl rfl) ?_
  rintro _ w2 ⟨b2, rfl, hbw2, Bw2, Gw2⟩
  have z5 := Gw2.size
  have lt6 := Bw2.lt
  refine sd_vv rfl rfl rfl (vv_assign rfl) ?_
  refine sd_done ?_
  refine sw_seq ?_
  have X7 : Gr w w2 := (Gr.trans (Gr.trans (Gr.refl w) Gw1) Gw2)
  refine sw_joinD (β := Bool) [6, 7, 8, 9, 10, 11, 12, 13, 14, 15, 16, 17, 18, 19, 20, 21, 22, 23, 24, 25, 26] (fun a1 => [(26, .bool a1)]) (fun a1 wr => (ref03_SameSecret_J1 p0 p1 a1 = some r) ∧ Kz [] w2 wr) ?_ ?_
  · clear hm; rintro a1 w3 ⟨hm, Kw3⟩
    have z8 := Kw3.size
    unfold ref03_SameSecret_J1 at hm
    refine sw_cond rfl (fun c1 => ?_) (fun c1 => ?_)
    ·
      replace hm := cnd_t c1 hm
      refine sw_seq ?_
      -- region 2 ref.go:619
      refine sw_region [(0, 0)] rfl rfl rfl ?_
      refine sd_vv rfl rfl rfl (vv_assign rfl) ?_
      refine sd_done ?_
      refine sw_ret ?_
      refine then_r ?_
      have X9 : Gr w w3 := (Gr.kz X7 Kw3)
      have hr := Option.some.inj hm
      subst hr
      refine ⟨_, _, rfl, res_1 rfl (rv_tmp rfl), ?_⟩
      exact ⟨rfl, X9⟩
    ·
      replace hm := cnd_f c1 hm
      refine sw_skip ?_
      refine then_n ?_
      refine sw_seq ?_
      refine sw_seq ?_
      -- region 3 ref.go:621
      refine sw_region [(0, 0)] rfl rfl rfl ?_
      refine sd_vv rfl rfl rfl (vv_assign rfl) ?_
      refine sd_done ?_
      refine sw_block ?_
      have X10 : Gr w w3 := (Gr.kz X7 Kw3)
      have B11 := (Rd.kz (Rd.gr (Rd.gr hp0_1 Gw1) Gw2) Kw3)
      have B12 := (Rd.kz (Rd.gr (Rd.gr hp1_1 Gw1) Gw2) Kw3)
      refine sw_loopD (α := Nat × Int) [4, 5, 27, 28, 29, 30, 31, 32, 33, 34, 35, 36, 37, 38, 39, 40, 41, 42, 43, 44] (fun ⟨n2, a3⟩ => [(4, .bool false), (5, .int .i64 a3)]) (fun ⟨n2, a3⟩ wr => (fixN (ref03_SameSecret_L2 p0 p1) n2 a3 = some r) ∧ Kz [] w3 wr) (fun ⟨n2, a3⟩ => n2) ⟨FUEL, 0⟩ ?_ ?_ ?_
      · repeat' first | exact trivial | refine ⟨rfl, ?_⟩
      · exact ⟨hm, Kz.refl _ _⟩
      · clear hm; rintro ⟨n2, a3⟩ w4 ⟨hm, Kw4⟩
        have z13 := Kw4.size
        have hb := fix_succ hm; clear hm; obtain ⟨n2, rfl, hm⟩ := hb
        generalize hrec2 : fixN (ref03_SameSecret_L2 p0 p1) n2 = rec2 at hm
        unfold ref03_SameSecret_L2 at hm
        try dsimp only at hm
        refine sw_seq ?_
        refine sw_seq ?_
        -- region 4 ref.go:621
        refine sw_region [(0, 0), (1, 0), (2, 0), (3, 0), (4, 0)] rfl rfl rfl ?_
        refine sd_vv rfl rfl rfl (vv_move rfl) ?_
        refine sd_vv rfl rfl rfl (vv_fieldAddr fa_74_1 rfl) ?_
        have B14 := (Bx.kz (Bx.kz (Bx.gr Bw1 Gw2) Kw3) Kw4)
        refine sd_vv rfl rfl rfl (vv_load1 (v := vp0_1) one_70 rfl B14 rfl) ?_
        have B15 := (Rd.kz B11 Kw4)
        refine sd_vv rfl rfl rfl (vv_lenT (l := p0.Labels) (c := TLabel.cs) Try.underlying70 rfl B15) ?_
        refine sd_vv rfl rfl rfl (vv_lss (a := a3) (b := (p0.Labels.length : Int)) rfl rfl) ?_
        refine sd_done ?_
        refine sw_cond rfl (fun c2 => ?_) (fun c2 => ?_)
        ·
          replace hm := ite_t (of_decide_eq_true c2) hm
          refine sw_skip ?_
          refine then_n ?_
          refine sw_seq ?_
          refine sw_block ?_
          refine sw_seq ?_
          -- region 6 ref.go:622 DRAWS
          refine sw_drawN [([])] [] (.leaf [(0, 10), (1, 10), (2, 10), (3, 10), (4, 10), (5, 10), (6, 10), (7, 10), (8, 10), (9, 10), (10, 10)]) (by kernel_rfl) (by kernel_rfl) rfl (by kernel_rfl) ?_
          intro w5 Gw5 zw5
          refine sdz_leaf ?_
          refine dd_hn 0 rfl rfl rfl rfl (Kp.refl ([]) w5) (fun w hS => vv_fieldAddr fa_74_1 rfl) ?_
          have B16 := (Bx.gr B14 Gw5)
          refine dd_hn 0 rfl rfl rfl rfl (Kp.refl ([]) w5) (fun w hS => vv_load1 (v := vp0_1) one_70 rfl (Bx.kp B16 hS) rfl) ?_
          refine dd_hn 0 rfl rfl rfl rfl (Kp.refl ([]) w5) (fun w hS => vv_move rfl) ?_
          have hb := bnd hm; clear hm; obtain ⟨y4, hy4, hm⟩ := hb
          have B17 := (Rd.gr B15 Gw5)
          refine dd_hn 0 rfl rfl rfl rfl (Kp.refl ([]) w5) (fun w hS => vv_ixT (i := a3) Try.underlying70 (agg_81).siz rfl (Rd.kp B17 hS) rfl hy4) ?_
          refine dd_hn 0 rfl rfl rfl rfl (Kp.refl ([]) w5) (fun w hS => vv_elWT agg_81 rfl (Rd.kp B17 hS) hy4 (by first | rfl | omega)) ?_
          refine dd_hn 0 rfl rfl rfl rfl (Kp.refl ([]) w5) (fun w hS => vv_fieldAddr fa_74_1 rfl) ?_
          have B18 := (Bx.gr (Bx.kz (Bx.kz Bw2 Kw3) Kw4) Gw5)
          refine dd_hn 0 rfl rfl rfl rfl (Kp.refl ([]) w5) (fun w hS => vv_load1 (v := vp1_1) one_70 rfl (Bx.kp B18 hS) rfl) ?_
          refine dd_hn 0 rfl rfl rfl rfl (Kp.refl ([]) w5) (fun w hS => vv_move rfl) ?_
          have hb := bnd hm; clear hm; obtain ⟨y5, hy5, hm⟩ := hb
          have B19 := (Rd.gr (Rd.kz B12 Kw4) Gw5)
          refine dd_hn 0 rfl rfl rfl rfl (Kp.refl ([]) w5) (fun w hS => vv_ixT (i := a3) Try.underlying70 (agg_81).siz rfl (Rd.kp B19 hS) rfl hy5) ?_
          refine dd_hn 0 rfl rfl rfl rfl (Kp.refl ([]) w5) (fun w hS => vv_elWT agg_81 rfl (Rd.kp B19 hS) hy5 (by first | rfl | omega)) ?_
          refine dd_hn 0 rfl rfl rfl rfl (Kp.refl ([]) w5) (fun w hS => vv_neqS (cf := TLabel.cs) (a := y4) (b := y5) eqt_81 rfl rfl rfl rfl (fun h => TLabel.cs_inj h)) ?_
          refine sd_done ?_
          refine sw_cond rfl (fun c3 => ?_) (fun c3 => ?_)
          ·
            replace hm := ite_t (of_decide_eq_true c3) hm
            refine sw_seq ?_
            -- region 7 ref.go:623
            refine sw_region [(0, 0)] rfl rfl rfl ?_
            refine sd_vv rfl rfl rfl (vv_assign rfl) ?_
            refine sd_done ?_
            refine sw_ret ?_
            refine block_r ?_
            refine then_r ?_
            refine then_r ?_
            refine block_r ?_
            refine then_r ?_
            have X20 : Gr w w5 := (Gr.trans (Gr.kz X10 Kw4) Gw5)
            have hr := Option.some.inj hm
            subst hr
            refine ⟨_, _, rfl, res_1 rfl (rv_tmp rfl), ?_⟩
            exact ⟨rfl, X20⟩
          ·
            replace hm := ite_f (of_decide_eq_false c3) hm
            refine sw_skip ?_
            refine block_n ?_
            refine then_n ?_
            -- region 5 ref.go:621
            refine sw_region [(0, 0), (1, 0), (2, 0)] rfl rfl rfl ?_
            refine sd_vv rfl rfl rfl (vv_move rfl) ?_
            refine sd_vv rfl rfl rfl (vv_add (k := .i64) (a := a3) (b := 1) rfl rfl) ?_
            refine sd_vv rfl rfl rfl (vv_assign rfl) ?_
            refine sd_nil ?_
            have K_21 : Kz [] w3 w5 := (Kz.gr Kw4 Gw5)
            subst hrec2
            refine ⟨rfl, ⟨n2, w64 (a3 + 1)⟩, ?_, ⟨hm, K_21⟩, Nat.lt_succ_self _⟩
            repeat' first | exact trivial | refine ⟨rfl, ?_⟩
        ·
          replace hm := ite_f (of_decide_eq_false c2) hm
          refine sw_exit ?_
          refine then_x ?_
          refine then_x ?_
          refine block_x ?_
          refine then_n ?_
          refine sw_seq ?_
          -- region 8 ref.go:626
          refine sw_region [(0, 0)] rfl rfl rfl ?_
          refine sd_vv rfl rfl rfl (vv_assign rfl) ?_
          refine sd_done ?_
          refine sw_ret ?_
          have X22 : Gr w w4 := (Gr.kz X10 Kw4)
          have hr := Option.some.inj hm
          subst hr
          refine ⟨_, _, rfl, res_1 rfl (rv_tmp rfl), ?_⟩
          exact ⟨rfl, X22⟩
  ·
    -- region 1 ref.go:618
    refine sw_region [(0, 0), (1, 0), (2, 0), (3, 0), (4, 0), (5, 0), (6, 0), (7, 0), (8, 0), (9, 0), (10, 0), (11, 0), (12, 0), (13, 0), (14, 0), (15, 0), (16, 0), (17, 0), (18, 0), (19, 0), (20, 0)] rfl rfl rfl ?_
    refine sd_vv rfl rfl rfl (vv_fieldAddr fa_74_0 rfl) ?_
    have B23 := (Bx.gr Bw1 Gw2)
    refine sd_vv rfl rfl rfl (vv_load1 (v := .int .i64 p0.Receiver) one_3 rfl B23 rfl) ?_
    refine sd_vv rfl rfl rfl (vv_fieldAddr fa_74_0 rfl) ?_
    refine sd_vv rfl rfl rfl (vv_load1 (v := .int .i64 p1.Receiver) one_3 rfl Bw2 rfl) ?_
    refine sd_vv rfl rfl rfl (vv_neq (a := p0.Receiver) (b := p1.Receiver) rfl rfl) ?_
    refine sd_split rfl rfl rfl (vv_move rfl) (fun c4 => ?_) (fun c4 => ?_)
    ·
      replace hm := ite_t (of_decide_eq_true c4) hm
      refine sd_skip rfl rfl rfl ?_
      refine sd_skip rfl rfl rfl ?_
      refine sd_skip rfl rfl rfl ?_
      refine sd_skip rfl rfl rfl ?_
      refine sd_skip rfl rfl rfl ?_
      refine sd_vv rfl rfl rfl (vv_pickT rfl rfl) ?_
      refine sd_vv rfl rfl rfl (vv_move rfl) ?_
      refine sd_skip rfl rfl rfl ?_
      refine sd_skip rfl rfl rfl ?_
      refine sd_skip rfl rfl rfl ?_
      refine sd_skip rfl rfl rfl ?_
      refine sd_skip rfl rfl rfl ?_
      refine sd_skip rfl rfl rfl ?_
      refine sd_skip rfl rfl rfl ?_
      refine sd_vv rfl rfl rfl (vv_pickT rfl rfl) ?_
      refine sd_nil ?_
      have K_24 : Kz [] w2 w2 := (Kz.refl _ _)
      refine ⟨rfl, true, ?_, hm, K_24⟩
      repeat' first | exact trivial | refine ⟨rfl, ?_⟩
    ·
      replace hm := ite_f (of_decide_eq_false c4) hm
      refine sd_vv rfl rfl rfl (vv_fieldAddr fa_74_2 rfl) ?_
      refine sd_vv rfl rfl rfl (vv_loadM (vs := TPoint.cs p0.Share) agg_72 rfl B23 rfl rfl) ?_
      refine sd_vv rfl rfl rfl (vv_fieldAddr fa_74_2 rfl) ?_
      refine sd_vv rfl rfl rfl (vv_loadM (vs := TPoint.cs p1.Share) agg_72 rfl Bw2 rfl rfl) ?_
      refine sd_vv rfl rfl rfl (vv_neqS (cf := TPoint.cs) (a := p0.Share) (b := p1.Share) eqt_72 rfl rfl rfl rfl (fun h => TPoint.cs_inj h)) ?_
      refine sd_vv rfl rfl rfl (vv_pickF rfl rfl) ?_
      refine sd_split rfl rfl rfl (vv_move rfl) (fun c5 => ?_) (fun c5 => ?_)
      ·
        replace hm := ite_t (of_decide_eq_true c5) hm
        refine sd_skip rfl rfl rfl ?_
        refine sd_skip rfl rfl rfl ?_
        refine sd_skip rfl rfl rfl ?_
        refine sd_skip rfl rfl rfl ?_
        refine sd_skip rfl rfl rfl ?_
        refine sd_skip rfl rfl rfl ?_
        refine sd_skip rfl rfl rfl ?_
        refine sd_vv rfl rfl rfl (vv_pickT rfl rfl) ?_
        refine sd_nil ?_
        have K_25 : Kz [] w2 w2 := (Kz.refl _ _)
        refine ⟨rfl, true, ?_, hm, K_25⟩
        repeat' first | exact trivial | refine ⟨rfl, ?_⟩
      ·
        replace hm := ite_f (of_decide_eq_false c5) hm
        refine sd_vv rfl rfl rfl (vv_fieldAddr fa_74_1 rfl) ?_
        refine sd_vv rfl rfl rfl (vv_load1 (v := vp0_1) one_70 rfl B23 rfl) ?_
        have B26 := (Rd.gr (Rd.gr hp0_1 Gw1) Gw2)
        refine sd_vv rfl rfl rfl (vv_lenT (l := p0.Labels) (c := TLabel.cs) Try.underlying70 rfl B26) ?_
        refine sd_vv rfl rfl rfl (vv_fieldAddr fa_74_1 rfl) ?_
        refine sd_vv rfl rfl rfl (vv_load1 (v := vp1_1) one_70 rfl Bw2 rfl) ?_
        have B27 := (Rd.gr (Rd.gr hp1_1 Gw1) Gw2)
        refine sd_vv rfl rfl rfl (vv_lenT (l := p1.Labels) (c := TLabel.cs) Try.underlying70 rfl B27) ?_
        refine sd_vv rfl rfl rfl (vv_neq (a := (p0.Labels.length : Int)) (b := (p1.Labels.length : Int)) rfl rfl) ?_
        refine sd_vv rfl rfl rfl (vv_pickF rfl rfl) ?_
        refine sd_nil ?_
        have K_28 : Kz [] w2 w2 := (Kz.refl _ _)
        refine ⟨rfl, (decide ((p0.Labels.length : Int) ≠ (p1.Labels.length : Int))), ?_, hm, K_28⟩
        repeat' first | exact trivial | refine ⟨rfl, ?_⟩

set_option maxHeartbeats 2000000 in
theorem ref03_SameHeader_w (p0 : THeader) (p1 : THeader) (vp0_0 : Value) (zp0_0 gp0_0 op0_0 : Nat) (vp0_2 : Value) (zp0_2 gp0_2 op0_2 : Nat) (vp1_0 : Value) (zp1_0 gp1_0 op1_0 : Nat) (vp1_2 : Value) (zp1_2 gp1_2 op1_2 : Nat) (r : Bool) (hm : ref03_SameHeader p0 p1 = some r) (w : World) (hp0_0 : Rd w zp0_0 gp0_0 op0_0 18 vp0_0 (p0.Items.map TItem.cs)) (hp0_2 : Rd w zp0_2 gp0_2 op0_2 2 vp0_2 (p0.Points.map TPoint.cs)) (hp1_0 : Rd w zp1_0 gp1_0 op1_0 18 vp1_0 (p1.Items.map TItem.cs)) (hp1_2 : Rd w zp1_2 gp1_2 op1_2 2 vp1_2 (p1.Points.map TPoint.cs))  :
    Calls Try.prog 25 [.agg (THeader.cs p0 vp0_0 vp0_2).toArray, .agg (THeader.cs p1 vp1_0 vp1_2).toArray].toArray w fun e w' => ∃ v, e = .returned v ∧ (v = .bool r ∧ Gr w w') := by
  have lt1 := hp0_0.lth
  have lt2 := hp0_2.lth
  have lt3 := hp1_0.lth
  have lt4 := hp1_2.lth
  unfold ref03_SameHeader at hm
  refine calls_of_sw (R := fun v w' => v = .bool r ∧ Gr w w') 80 Try.func25 rfl rfl rfl ?_
  refine sw_seq ?_
  -- region 0 ref.go:630
  refine sw_region [(0, 0), (1, 0), (2, 0)] rfl rfl rfl ?_
  refine sd_ev rfl rfl rfl (ev_box (cs := THeader.cs p0 vp0_0 vp0_2) rfl rfl) ?_
  rintro _ w1 ⟨b1, rfl, hbw1, Bw1, Gw1⟩
  have z5 := Gw1.size
  have lt6 := Bw1.lt
  refine sd_ev rfl rfl rfl (ev_box (cs := THeader.cs p1 vp1_0 vp1_2) rfl rfl) ?_
  rintro _ w2 ⟨b2, rfl, hbw2, Bw2, Gw2⟩
  have z7 := Gw2.size
  have lt8 := Bw2.lt
  refine sd_vv rfl rfl rfl (vv_assign rfl) ?_
  refine sd_done ?_
  refine sw_seq ?_
  have X9 : Gr w w2 := (Gr.trans (Gr.trans (Gr.refl w) Gw1) Gw2)
  refine sw_joinD (β := Bool) [7, 8, 9, 10, 11, 12, 13, 14, 15, 16, 17, 18, 19, 20, 21, 22, 23, 24, 25, 26, 27, 28, 29, 30, 31, 32, 33, 34, 35, 36, 37, 38, 39, 40, 41, 42, 43] (fun a1 => [(43, .bool a1)]) (fun a1 wr => (ref03_SameHeader_J1 p0 p1 a1 = some r) ∧ Kz [] w2 wr) ?_ ?_
  · clear hm; rintro a1 w3 ⟨hm, Kw3⟩
    have z10 := Kw3.size
    unfold ref03_SameHeader_J1 at hm
    refine sw_cond rfl (fun c1 => ?_) (fun c1 => ?_)
    ·
      replace hm := cnd_t c1 hm
      refine sw_seq ?_
      -- region 2 ref.go:632
      refine sw_region [(0, 0)] rfl rfl rfl ?_
      refine sd_vv rfl rfl rfl (vv_assign rfl) ?_
      refine sd_done ?_
      refine sw_ret ?_
      refine then_r ?_
      have X11 : Gr w w3 := (Gr.kz X9 Kw3)
      have hr := Option.some.inj hm
      subst hr
      refine ⟨_, _, rfl, res_1 rfl (rv_tmp rfl), ?_⟩
      exact ⟨rfl, X11⟩
    ·
      replace hm := cnd_f c1 hm
      refine sw_skip ?_
      refine then_n ?_
      refine sw_seq ?_
      refine sw_seq ?_
      -- region 3 ref.go:634
      refine sw_region [(0, 0)] rfl rfl rfl ?_
      refine sd_vv rfl rfl rfl (vv_assign rfl) ?_
      refine sd_done ?_
      refine sw_block ?_
      have X12 : Gr w w3 := (Gr.kz X9 Kw3)
      have B13 := (Rd.kz (Rd.gr (Rd.gr hp0_0 Gw1) Gw2) Kw3)
      have B14 := (Rd.kz (Rd.gr (Rd.gr hp0_2 Gw1) Gw2) Kw3)
      have B15 := (Rd.kz (Rd.gr (Rd.gr hp1_0 Gw1) Gw2) Kw3)
      have B16 := (Rd.kz (Rd.gr (Rd.gr hp1_2 Gw1) Gw2) Kw3)
      refine sw_loopD (α := Nat × Int) [4, 5, 44, 45, 46, 47, 48, 49, 50, 51, 52, 53, 54, 55, 56, 57, 58, 59, 60, 61] (fun ⟨n2, a3⟩ => [(4, .bool false), (5, .int .i64 a3)]) (fun ⟨n2, a3⟩ wr => (fixN (ref03_SameHeader_L2 p0 p1) n2 a3 = some r) ∧ Kz [] w3 wr) (fun ⟨n2, a3⟩ => n2) ⟨FUEL, 0⟩ ?_ ?_ ?_
      · repeat' first | exact trivial | refine ⟨rfl, ?_⟩
      · exact ⟨hm, Kz.refl _ _⟩
      · clear hm; rintro ⟨n2, a3⟩ w4 ⟨hm, Kw4⟩
        have z17 := Kw4.size
        have hb := fix_succ hm; clear hm; obtain ⟨n2, rfl, hm⟩ := hb
        generalize hrec2 : fixN (ref03_SameHeader_L2 p0 p1) n2 = rec2 at hm
        unfold ref03_SameHeader_L2 at hm
        try dsimp only at hm
        refine sw_seq ?_
        refine sw_seq ?_
        -- region 4 ref.go:634
        refine sw_region [(0, 0), (1, 0), (2, 0), (3, 0), (4, 0)] rfl rfl rfl ?_
        refine sd_vv rfl rfl rfl (vv_move rfl) ?_
        refine sd_vv rfl rfl rfl (vv_fieldAddr fa_28_0 rfl) ?_
        have B18 := (Bx.kz (Bx.kz (Bx.gr Bw1 Gw2) Kw3) Kw4)
        refine sd_vv rfl rfl rfl (vv_load1 (v := vp0_0) one_22 rfl B18 rfl) ?_
        have B19 := (Rd.kz B13 Kw4)
        refine sd_vv rfl rfl rfl (vv_lenT (l := p0.Items) (c := TItem.cs) Try.underlying22 rfl B19) ?_
        refine sd_vv rfl rfl rfl (vv_lss (a := a3) (b := (p0.Items.length : Int)) rfl rfl) ?_
        refine sd_done ?_
        refine sw_cond rfl (fun c2 => ?_) (fun c2 => ?_)
        ·
          replace hm := ite_t (of_decide_eq_true c2) hm
          refine sw_skip ?_
          refine then_n ?_
          refine sw_seq ?_
          refine sw_block ?_
          refine sw_seq ?_
          -- region 6 ref.go:635 DRAWS
          refine sw_drawN [([])] [] (.leaf [(0, 10), (1, 10), (2, 10), (3, 10), (4, 10), (5, 10), (6, 10), (7, 10), (8, 10), (9, 10), (10, 10)]) (by kernel_rfl) (by kernel_rfl) rfl (by kernel_rfl) ?_
          intro w5 Gw5 zw5
          refine sdz_leaf ?_
          refine dd_hn 0 rfl rfl rfl rfl (Kp.refl ([]) w5) (fun w hS => vv_fieldAddr fa_28_0 rfl) ?_
          have B20 := (Bx.gr B18 Gw5)
          refine dd_hn 0 rfl rfl rfl rfl (Kp.refl ([]) w5) (fun w hS => vv_load1 (v := vp0_0) one_22 rfl (Bx.kp B20 hS) rfl) ?_
          refine dd_hn 0 rfl rfl rfl rfl (Kp.refl ([]) w5) (fun w hS => vv_move rfl) ?_
          have hb := bnd hm; clear hm; obtain ⟨y4, hy4, hm⟩ := hb
          have B21 := (Rd.gr B19 Gw5)
          refine dd_hn 0 rfl rfl rfl rfl (Kp.refl ([]) w5) (fun w hS => vv_ixT (i := a3) Try.underlying22 (agg_108).siz rfl (Rd.kp B21 hS) rfl hy4) ?_
          refine dd_hn 0 rfl rfl rfl rfl (Kp.refl ([]) w5) (fun w hS => vv_elWT agg_108 rfl (Rd.kp B21 hS) hy4 (by first | rfl | omega)) ?_
          refine dd_hn 0 rfl rfl rfl rfl (Kp.refl ([]) w5) (fun w hS => vv_fieldAddr fa_28_0 rfl) ?_
          have B22 := (Bx.gr (Bx.kz (Bx.kz Bw2 Kw3) Kw4) Gw5)
          refine dd_hn 0 rfl rfl rfl rfl (Kp.refl ([]) w5) (fun w hS => vv_load1 (v := vp1_0) one_22 rfl (Bx.kp B22 hS) rfl) ?_
          refine dd_hn 0 rfl rfl rfl rfl (Kp.refl ([]) w5) (fun w hS => vv_move rfl) ?_
          have hb := bnd hm; clear hm; obtain ⟨y5, hy5, hm⟩ := hb
          have B23 := (Rd.gr (Rd.kz B15 Kw4) Gw5)
          refine dd_hn 0 rfl rfl rfl rfl (Kp.refl ([]) w5) (fun w hS => vv_ixT (i := a3) Try.underlying22 (agg_108).siz rfl (Rd.kp B23 hS) rfl hy5) ?_
          refine dd_hn 0 rfl rfl rfl rfl (Kp.refl ([]) w5) (fun w hS => vv_elWT agg_108 rfl (Rd.kp B23 hS) hy5 (by first | rfl | omega)) ?_
          refine dd_hn 0 rfl rfl rfl rfl (Kp.refl ([]) w5) (fun w hS => vv_neqS (cf := TItem.cs) (a := y4) (b := y5) eqt_108 rfl rfl rfl rfl (fun h => TItem.cs_inj h)) ?_
          refine sd_done ?_
          refine sw_cond rfl (fun c3 => ?_) (fun c3 => ?_)
          ·
            replace hm := ite_t (of_decide_eq_true c3) hm
            refine sw_seq ?_
            -- region 7 ref.go:636
            refine sw_region [(0, 0)] rfl rfl rfl ?_
            refine sd_vv rfl rfl rfl (vv_assign rfl) ?_
            refine sd_done ?_
            refine sw_ret ?_
            refine block_r ?_
            refine then_r ?_
            refine then_r ?_
            refine block_r ?_
            refine then_r ?_
            have X24 : Gr w w5 := (Gr.trans (Gr.kz X12 Kw4) Gw5)
            have hr := Option.some.inj hm
            subst hr
            refine ⟨_, _, rfl, res_1 rfl (rv_tmp rfl), ?_⟩
            exact ⟨rfl, X24⟩
          ·
            replace hm := ite_f (of_decide_eq_false c3) hm
            refine sw_skip ?_
            refine block_n ?_
            refine then_n ?_
            -- region 5 ref.go:634
            refine sw_region [(0, 0), (1, 0), (2, 0)] rfl rfl rfl ?_
            refine sd_vv rfl rfl rfl (vv_move rfl) ?_
            refine sd_vv rfl rfl rfl (vv_add (k := .i64) (a := a3) (b := 1) rfl rfl) ?_
            refine sd_vv rfl rfl rfl (vv_assign rfl) ?_
            refine sd_nil ?_
            have K_25 : Kz [] w3 w5 := (Kz.gr Kw4 Gw5)
            subst hrec2
            refine ⟨rfl, ⟨n2, w64 (a3 + 1)⟩, ?_, ⟨hm, K_25⟩, Nat.lt_succ_self _⟩
            repeat' first | exact trivial | refine ⟨rfl, ?_⟩
        ·
          replace hm := ite_f (of_decide_eq_false c2) hm
          refine sw_exit ?_
          refine then_x ?_
          refine then_x ?_
          refine block_x ?_
          refine then_n ?_
          refine sw_seq ?_
          refine sw_seq ?_
          -- region 8 ref.go:639
          refine sw_region [(0, 0)] rfl rfl rfl ?_
          refine sd_vv rfl rfl rfl (vv_assign rfl) ?_
          refine sd_done ?_
          refine sw_block ?_
          have X26 : Gr w w4 := (Gr.kz X12 Kw4)
          have B27 := (Rd.kz B14 Kw4)
          have B28 := (Rd.kz B15 Kw4)
          have B29 := (Rd.kz B16 Kw4)
          refine sw_loopD (α := Nat × Int) [4, 6, 62, 63, 64, 65, 66, 67, 68, 69, 70, 71, 72, 73, 74, 75, 76, 77, 78, 79] (fun ⟨n3, a7⟩ => [(4, .bool false), (6, .int .i64 a7)]) (fun ⟨n3, a7⟩ wr => (fixN (ref03_SameHeader_L3 p0 p1) n3 a7 = some r) ∧ Kz [] w4 wr) (fun ⟨n3, a7⟩ => n3) ⟨FUEL, 0⟩ ?_ ?_ ?_
          · repeat' first | exact trivial | refine ⟨rfl, ?_⟩
          · exact ⟨hm, Kz.refl _ _⟩
          · clear hm; rintro ⟨n3, a7⟩ w6 ⟨hm, Kw6⟩
            have z30 := Kw6.size
            have hb := fix_succ hm; clear hm; obtain ⟨n3, rfl, hm⟩ := hb
            generalize hrec3 : fixN (ref03_SameHeader_L3 p0 p1) n3 = rec3 at hm
            unfold ref03_SameHeader_L3 at hm
            try dsimp only at hm
            refine sw_seq ?_
            refine sw_seq ?_
            -- region 9 ref.go:639
            refine sw_region [(0, 0), (1, 0), (2, 0), (3, 0), (4, 0)] rfl rfl rfl ?_
            refine sd_vv rfl rfl rfl (vv_move rfl) ?_
            refine sd_vv rfl rfl rfl (vv_fieldAddr fa_28_2 rfl) ?_
            have B31 := (Bx.kz B18 Kw6)
            refine sd_vv rfl rfl rfl (vv_load1 (v := vp0_2) one_24 rfl B31 rfl) ?_
            have B32 := (Rd.kz B27 Kw6)
            refine sd_vv rfl rfl rfl (vv_lenT (l := p0.Points) (c := TPoint.cs) Try.underlying24 rfl B32) ?_
            refine sd_vv rfl rfl rfl (vv_lss (a := a7) (b := (p0.Points.length : Int)) rfl rfl) ?_
            refine sd_done ?_
            refine sw_cond rfl (fun c4 => ?_) (fun c4 => ?_)
            ·
              replace hm := ite_t (of_decide_eq_true c4) hm
              refine sw_skip ?_
              refine then_n ?_
              refine sw_seq ?_
              refine sw_block ?_
              refine sw_seq ?_
              -- region 11 ref.go:640 DRAWS
              refine sw_drawN [([])] [] (.leaf [(0, 10), (1, 10), (2, 10), (3, 10), (4, 10), (5, 10), (6, 10), (7, 10), (8, 10), (9, 10), (10, 10)]) (by kernel_rfl) (by kernel_rfl) rfl (by kernel_rfl) ?_
              intro w7 Gw7 zw7
              refine sdz_leaf ?_
              refine dd_hn 0 rfl rfl rfl rfl (Kp.refl ([]) w7) (fun w hS => vv_fieldAddr fa_28_2 rfl) ?_
              have B33 := (Bx.gr B31 Gw7)
              refine dd_hn 0 rfl rfl rfl rfl (Kp.refl ([]) w7) (fun w hS => vv_load1 (v := vp0_2) one_24 rfl (Bx.kp B33 hS) rfl) ?_
              refine dd_hn 0 rfl rfl rfl rfl (Kp.refl ([]) w7) (fun w hS => vv_move rfl) ?_
              have hb := bnd hm; clear hm; obtain ⟨y8, hy8, hm⟩ := hb
              have B34 := (Rd.gr B32 Gw7)
              refine dd_hn 0 rfl rfl rfl rfl (Kp.refl ([]) w7) (fun w hS => vv_ixT (i := a7) Try.underlying24 (agg_72).siz rfl (Rd.kp B34 hS) rfl hy8) ?_
              refine dd_hn 0 rfl rfl rfl rfl (Kp.refl ([]) w7) (fun w hS => vv_elWT agg_72 rfl (Rd.kp B34 hS) hy8 (by first | rfl | omega)) ?_
              refine dd_hn 0 rfl rfl rfl rfl (Kp.refl ([]) w7) (fun w hS => vv_fieldAddr fa_28_2 rfl) ?_
              have B35 := (Bx.gr (Bx.kz (Bx.kz (Bx.kz Bw2 Kw3) Kw4) Kw6) Gw7)
              refine dd_hn 0 rfl rfl rfl rfl (Kp.refl ([]) w7) (fun w hS => vv_load1 (v := vp1_2) one_24 rfl (Bx.kp B35 hS) rfl) ?_
              refine dd_hn 0 rfl rfl rfl rfl (Kp.refl ([]) w7) (fun w hS => vv_move rfl) ?_
              have hb := bnd hm; clear hm; obtain ⟨y9, hy9, hm⟩ := hb
              have B36 := (Rd.gr (Rd.kz B29 Kw6) Gw7)
              refine dd_hn 0 rfl rfl rfl rfl (Kp.refl ([]) w7) (fun w hS => vv_ixT (i := a7) Try.underlying24 (agg_72).siz rfl (Rd.kp B36 hS) rfl hy9) ?_
              refine dd_hn 0 rfl rfl rfl rfl (Kp.refl ([]) w7) (fun w hS => vv_elWT agg_72 rfl (Rd.kp B36 hS) hy9 (by first | rfl | omega)) ?_
              refine dd_hn 0 rfl rfl rfl rfl (Kp.refl ([]) w7) (fun w hS => vv_neqS (cf := TPoint.cs) (a := y8) (b := y9) eqt_72 rfl rfl rfl rfl (fun h => TPoint.cs_inj h)) ?_
              refine sd_done ?_
              refine sw_cond rfl (fun c5 => ?_) (fun c5 => ?_)
              ·
                replace hm := ite_t (of_decide_eq_true c5) hm
                refine sw_seq ?_
                -- region 12 ref.go:641
                refine sw_region [(0, 0)] rfl rfl rfl ?_
                refine sd_vv rfl rfl rfl (vv_assign rfl) ?_
                refine sd_done ?_
                refine sw_ret ?_
                refine block_r ?_
                refine then_r ?_
                refine then_r ?_
                refine block_r ?_
                refine then_r ?_
                have X37 : Gr w w7 := (Gr.trans (Gr.kz X26 Kw6) Gw7)
                have hr := Option.some.inj hm
                subst hr
                refine ⟨_, _, rfl, res_1 rfl (rv_tmp rfl), ?_⟩
                exact ⟨rfl, X37⟩
              ·
                replace hm := ite_f (of_decide_eq_false c5) hm
                refine sw_skip ?_
                refine block_n ?_
                refine then_n ?_
                -- region 10 ref.go:639
                refine sw_region [(0, 0), (1, 0), (2, 0)] rfl rfl rfl ?_
                refine sd_vv rfl rfl rfl (vv_move rfl) ?_
                refine sd_vv rfl rfl rfl (vv_add (k := .i64) (a := a7) (b := 1) rfl rfl) ?_
                refine sd_vv rfl rfl rfl (vv_assign rfl) ?_
                refine sd_nil ?_
                have K_38 : Kz [] w4 w7 := (Kz.gr Kw6 Gw7)
                subst hrec3
                refine ⟨rfl, ⟨n3, w64 (a7 + 1)⟩, ?_, ⟨hm, K_38⟩, Nat.lt_succ_self _⟩
                repeat' first | exact trivial | refine ⟨rfl, ?_⟩
            ·
              replace hm := ite_f (of_decide_eq_false c4) hm
              refine sw_exit ?_
              refine then_x ?_
              refine then_x ?_
              refine block_x ?_
              refine then_n ?_
              refine sw_seq ?_
              -- region 13 ref.go:644
              refine sw_region [(0, 0)] rfl rfl rfl ?_
              refine sd_vv rfl rfl rfl (vv_assign rfl) ?_
              refine sd_done ?_
              refine sw_ret ?_
              have X39 : Gr w w6 := (Gr.kz X26 Kw6)
              have hr := Option.some.inj hm
              subst hr
              refine ⟨_, _, rfl, res_1 rfl (rv_tmp rfl), ?_⟩
              exact ⟨rfl, X39⟩
  ·
    -- region 1 ref.go:631
    refine sw_region [(0, 0), (1, 0), (2, 0), (3, 0), (4, 0), (5, 0), (6, 0), (7, 0), (8, 0), (9, 0), (10, 0), (11, 0), (12, 0), (13, 0), (14, 0), (15, 0), (16, 0), (17, 0), (18, 0), (19, 0), (20, 0), (21, 0), (22, 0), (23, 0), (24, 0), (25, 0), (26, 0), (27, 0), (28, 0), (29, 0), (30, 0), (31, 0), (32, 0), (33, 0), (34, 0), (35, 0), (36, 0)] rfl rfl rfl ?_
    refine sd_vv rfl rfl rfl (vv_fieldAddr fa_28_0 rfl) ?_
    have B40 := (Bx.gr Bw1 Gw2)
    refine sd_vv rfl rfl rfl (vv_load1 (v := vp0_0) one_22 rfl B40 rfl) ?_
    have B41 := (Rd.gr (Rd.gr hp0_0 Gw1) Gw2)
    refine sd_vv rfl rfl rfl (vv_lenT (l := p0.Items) (c := TItem.cs) Try.underlying22 rfl B41) ?_
    refine sd_vv rfl rfl rfl (vv_fieldAddr fa_28_0 rfl) ?_
    refine sd_vv rfl rfl rfl (vv_load1 (v := vp1_0) one_22 rfl Bw2 rfl) ?_
    have B42 := (Rd.gr (Rd.gr hp1_0 Gw1) Gw2)
    refine sd_vv rfl rfl rfl (vv_lenT (l := p1.Items) (c := TItem.cs) Try.underlying22 rfl B42) ?_
    refine sd_vv rfl rfl rfl (vv_neq (a := (p0.Items.length : Int)) (b := (p1.Items.length : Int)) rfl rfl) ?_
    refine sd_split rfl rfl rfl (vv_move rfl) (fun c6 => ?_) (fun c6 => ?_)
    ·
      replace hm := ite_t (of_decide_eq_true c6) hm
      refine sd_skip rfl rfl rfl ?_
      refine sd_skip rfl rfl rfl ?_
      refine sd_skip rfl rfl rfl ?_
      refine sd_skip rfl rfl rfl ?_
      refine sd_skip rfl rfl rfl ?_
      refine sd_skip rfl rfl rfl ?_
      refine sd_skip rfl rfl rfl ?_
      refine sd_vv rfl rfl rfl (vv_pickT rfl rfl) ?_
      refine sd_vv rfl rfl rfl (vv_move rfl) ?_
      refine sd_skip rfl rfl rfl ?_
      refine sd_skip rfl rfl rfl ?_
      refine sd_skip rfl rfl rfl ?_
      refine sd_skip rfl rfl rfl ?_
      refine sd_skip rfl rfl rfl ?_
      refine sd_vv rfl rfl rfl (vv_pickT rfl rfl) ?_
      refine sd_vv rfl rfl rfl (vv_move rfl) ?_
      refine sd_skip rfl rfl rfl ?_
      refine sd_skip rfl rfl rfl ?_
      refine sd_skip rfl rfl rfl ?_
      refine sd_skip rfl rfl rfl ?_
      refine sd_skip rfl rfl rfl ?_
      refine sd_vv rfl rfl rfl (vv_pickT rfl rfl) ?_
      refine sd_vv rfl rfl rfl (vv_move rfl) ?_
      refine sd_skip rfl rfl rfl ?_
      refine sd_skip rfl rfl rfl ?_
      refine sd_skip rfl rfl rfl ?_
      refine sd_skip rfl rfl rfl ?_
      refine sd_skip rfl rfl rfl ?_
      refine sd_vv rfl rfl rfl (vv_pickT rfl rfl) ?_
      refine sd_nil ?_
      have K_43 : Kz [] w2 w2 := (Kz.refl _ _)
      refine ⟨rfl, true, ?_, hm, K_43⟩
      repeat' first | exact trivial | refine ⟨rfl, ?_⟩
    ·
      replace hm := ite_f (of_decide_eq_false c6) hm
      refine sd_vv rfl rfl rfl (vv_fieldAddr fa_28_2 rfl) ?_
      refine sd_vv rfl rfl rfl (vv_load1 (v := vp0_2) one_24 rfl B40 rfl) ?_
      have B44 := (Rd.gr (Rd.gr hp0_2 Gw1) Gw2)
      refine sd_vv rfl rfl rfl (vv_lenT (l := p0.Points) (c := TPoint.cs) Try.underlying24 rfl B44) ?_
      refine sd_vv rfl rfl rfl (vv_fieldAddr fa_28_2 rfl) ?_
      refine sd_vv rfl rfl rfl (vv_load1 (v := vp1_2) one_24 rfl Bw2 rfl) ?_
      have B45 := (Rd.gr (Rd.gr hp1_2 Gw1) Gw2)
      refine sd_vv rfl rfl rfl (vv_lenT (l := p1.Points) (c := TPoint.cs) Try.underlying24 rfl B45) ?_
      refine sd_vv rfl rfl rfl (vv_neq (a := (p0.Points.length : Int)) (b := (p1.Points.length : Int)) rfl rfl) ?_
      refine sd_vv rfl rfl rfl (vv_pickF rfl rfl) ?_
      refine sd_split rfl rfl rfl (vv_move rfl) (fun c7 => ?_) (fun c7 => ?_)
      ·
        replace hm := ite_t (of_decide_eq_true c7) hm
        refine sd_skip rfl rfl rfl ?_
        refine sd_skip rfl rfl rfl ?_
        refine sd_skip rfl rfl rfl ?_
        refine sd_skip rfl rfl rfl ?_
        refine sd_skip rfl rfl rfl ?_
        refine sd_vv rfl rfl rfl (vv_pickT rfl rfl) ?_
        refine sd_vv rfl rfl rfl (vv_move rfl) ?_
        refine sd_skip rfl rfl rfl ?_
        refine sd_skip rfl rfl rfl ?_
        refine sd_skip rfl rfl rfl ?_
        refine sd_skip rfl rfl rfl ?_
        refine sd_skip rfl rfl rfl ?_
        refine sd_vv rfl rfl rfl (vv_pickT rfl rfl) ?_
        refine sd_vv rfl rfl rfl (vv_move rfl) ?_
        refine sd_skip rfl rfl rfl ?_
        refine sd_skip rfl rfl rfl ?_
        refine sd_skip rfl rfl rfl ?_
        refine sd_skip rfl rfl rfl ?_
        refine sd_skip rfl rfl rfl ?_
        refine sd_vv rfl rfl rfl (vv_pickT rfl rfl) ?_
        refine sd_nil ?_
        have K_46 : Kz [] w2 w2 := (Kz.refl _ _)
        refine ⟨rfl, true, ?_, hm, K_46⟩
        repeat' first | exact trivial | refine ⟨rfl, ?_⟩
      ·
        replace hm := ite_f (of_decide_eq_false c7) hm
        refine sd_vv rfl rfl rfl (vv_fieldAddr fa_28_1 rfl) ?_
        refine sd_vv rfl rfl rfl (vv_load1 (v := wv p0.Base) one_23 rfl B40 rfl) ?_
        refine sd_vv rfl rfl rfl (vv_fieldAddr fa_28_1 rfl) ?_
        refine sd_vv rfl rfl rfl (vv_load1 (v := wv p1.Base) one_23 rfl Bw2 rfl) ?_
        refine sd_vv rfl rfl rfl (vv_neqU (c := p0.Base) (d := p1.Base) rfl rfl) ?_
        refine sd_vv rfl rfl rfl (vv_pickF rfl rfl) ?_
        refine sd_split rfl rfl rfl (vv_move rfl) (fun c8 => ?_) (fun c8 => ?_)
        ·
          replace hm := ite_t (of_decide_eq_true c8) hm
          refine sd_skip rfl rfl rfl ?_
          refine sd_skip rfl rfl rfl ?_
          refine sd_skip rfl rfl rfl ?_
          refine sd_skip rfl rfl rfl ?_
          refine sd_skip rfl rfl rfl ?_
          refine sd_vv rfl rfl rfl (vv_pickT rfl rfl) ?_
          refine sd_vv rfl rfl rfl (vv_move rfl) ?_
          refine sd_skip rfl rfl rfl ?_
          refine sd_skip rfl rfl rfl ?_
          refine sd_skip rfl rfl rfl ?_
          refine sd_skip rfl rfl rfl ?_
          refine sd_skip rfl rfl rfl ?_
          refine sd_vv rfl rfl rfl (vv_pickT rfl rfl) ?_
          refine sd_nil ?_
          have K_47 : Kz [] w2 w2 := (Kz.refl _ _)
          refine ⟨rfl, true, ?_, hm, K_47⟩
          repeat' first | exact trivial | refine ⟨rfl, ?_⟩
        ·
          replace hm := ite_f (of_decide_eq_false c8) hm
          refine sd_vv rfl rfl rfl (vv_fieldAddr fa_28_3 rfl) ?_
          refine sd_vv rfl rfl rfl (vv_loadM (vs := kb p0.Box) agg_26 rfl B40 rfl rfl) ?_
          refine sd_vv rfl rfl rfl (vv_fieldAddr fa_28_3 rfl) ?_
          refine sd_vv rfl rfl rfl (vv_loadM (vs := kb p1.Box) agg_26 rfl Bw2 rfl rfl) ?_
          refine sd_vv rfl rfl rfl (vv_neqS (cf := kb) (a := p0.Box) (b := p1.Box) eqt_26 rfl rfl rfl rfl (fun h => kb_inj h)) ?_
          refine sd_vv rfl rfl rfl (vv_pickF rfl rfl) ?_
          refine sd_split rfl rfl rfl (vv_move rfl) (fun c9 => ?_) (fun c9 => ?_)
          ·
            replace hm := ite_t (of_decide_eq_true c9) hm
            refine sd_skip rfl rfl rfl ?_
            refine sd_skip rfl rfl rfl ?_
            refine sd_skip rfl rfl rfl ?_
            refine sd_skip rfl rfl rfl ?_
            refine sd_skip rfl rfl rfl ?_
            refine sd_vv rfl rfl rfl (vv_pickT rfl rfl) ?_
            refine sd_nil ?_
            have K_48 : Kz [] w2 w2 := (Kz.refl _ _)
            refine ⟨rfl, true, ?_, hm, K_48⟩
            repeat' first | exact trivial | refine ⟨rfl, ?_⟩
          ·
            replace hm := ite_f (of_decide_eq_false c9) hm
            refine sd_vv rfl rfl rfl (vv_fieldAddr fa_28_4 rfl) ?_
            refine sd_vv rfl rfl rfl (vv_loadM (vs := kb p0.Check) agg_26 rfl B40 rfl rfl) ?_
            refine sd_vv rfl rfl rfl (vv_fieldAddr fa_28_4 rfl) ?_
            refine sd_vv rfl rfl rfl (vv_loadM (vs := kb p1.Check) agg_26 rfl Bw2 rfl rfl) ?_
            refine sd_vv rfl rfl rfl (vv_neqS (cf := kb) (a := p0.Check) (b := p1.Check) eqt_26 rfl rfl rfl rfl (fun h => kb_inj h)) ?_
            refine sd_vv rfl rfl rfl (vv_pickF rfl rfl) ?_
            refine sd_nil ?_
            have K_49 : Kz [] w2 w2 := (Kz.refl _ _)
            refine ⟨rfl, (decide (p0.Check ≠ p1.Check)), ?_, hm, K_49⟩
            repeat' first | exact trivial | refine ⟨rfl, ?_⟩

set_option maxHeartbeats 2000000 in
theorem ref03_TwinSecret_w (p0 : TSecret) (vp0_1 : Value) (zp0_1 gp0_1 op0_1 : Nat) (r : TSecret) (hm : ref03_TwinSecret p0 = some r) (w : World) (hp0_1 : Rd w zp0_1 gp0_1 op0_1 18 vp0_1 (p0.Labels.map TLabel.cs))  :
    Calls Try.prog 43 [.agg (TSecret.cs p0 vp0_1).toArray].toArray w fun e w' => ∃ v, e = .returned v ∧ (∃ (ur0_1 : Value) (zr0_1 : Nat) (gr0_1 : Nat), v = .agg (TSecret.cs r ur0_1).toArray ∧ Own w' zr0_1 gr0_1 81 18 ur0_1 (r.Labels.map TLabel.cs) ∧ Hdn (zr0_1 = 0 ∨ w.heap.size ≤ gr0_1) ∧ Gr w w') := by
  have lt1 := hp0_1.lth
  unfold ref03_TwinSecret at hm
  refine calls_of_sw (R := fun v w' => ∃ (ur0_1 : Value) (zr0_1 : Nat) (gr0_1 : Nat), v = .agg (TSecret.cs r ur0_1).toArray ∧ Own w' zr0_1 gr0_1 81 18 ur0_1 (r.Labels.map TLabel.cs) ∧ Hdn (zr0_1 = 0 ∨ w.heap.size ≤ gr0_1) ∧ Gr w w') 8 Try.func43 rfl rfl rfl ?_
  refine sw_seq ?_
  -- region 0 ref.go:655
  refine sw_region [(0, 0), (1, 0)] rfl rfl rfl ?_
  refine sd_ev rfl rfl rfl (ev_box (cs := TSecret.cs p0 vp0_1) rfl rfl) ?_
  rintro _ w1 ⟨b1, rfl, hbw1, Bw1, Gw1⟩
  have z2 := Gw1.size
  have lt3 := Bw1.lt
  refine sd_ev rfl rfl rfl (ev_alloc (cs := TSecret.cs (TSecret.mk 0 [] (TPoint.mk 0#64 0#64)) (.slice none 0 0)) zv_74 rfl) ?_
  rintro _ w2 ⟨b2, rfl, hbw2, Bw2, Gw2⟩
  have z4 := Gw2.size
  have lt5 := Bw2.lt
  refine sd_done ?_
  refine sw_seq ?_
  -- region 1 ref.go:656
  refine sw_region [(0, 0), (1, 0), (2, 0), (3, 0), (4, 0)] rfl rfl rfl ?_
  refine sd_vv rfl rfl rfl (vv_fieldAddr fa_74_1 rfl) ?_
  have B6 := (Bx.gr Bw1 Gw2)
  refine sd_vv rfl rfl rfl (vv_load1 (v := vp0_1) one_70 rfl B6 rfl) ?_
  have B7 := (Rd.gr (Rd.gr hp0_1 Gw1) Gw2)
  have hb := bnd hm; clear hm; obtain ⟨l1, hl1, hm⟩ := hb
  refine sd_ev rfl rfl rfl (ev_appT (l := ([] : List TLabel)) (m := p0.Labels) (c := TLabel.cs) apt_70 rfl rfl (own_nil _ 0 81 18) B7 hl1 (by decide)) ?_
  rintro vw3 w3 ⟨zw3, gw3, Ow3, Aw3, qw3, rw3⟩
  have z8 := Aw3.size
  refine sd_vv rfl rfl rfl (vv_fieldAddr fa_74_1 rfl) ?_
  have B9 := (Bx.ka B6 Aw3)
  refine sd_ev rfl rfl rfl (ev_st1 (cs' := TSecret.cs (TSecret.mk p0.Receiver l1 p0.Share) vw3) (one_70).siz rfl rfl (Own.oneB Ow3) B9 rfl rfl) ?_
  rintro _ w4 ⟨Bw4, Mw4⟩
  have z10 := Mw4.size
  refine sd_done ?_
  refine sw_seq ?_
  -- region 2 ref.go:657
  refine sw_region [(0, 0), (1, 0)] rfl rfl rfl ?_
  refine sd_vv rfl rfl rfl (vv_loadW agg_74 rfl Bw4 rfl) ?_
  have B11 := (Bx.md (Bx.ka Bw2 Aw3) Mw4)
  have B12 := (Own.md Ow3 Mw4 (tk1 ((pv_app (A := (fun x => x ≠ b1)) rw3 (.inl rfl)) : zw3 = 0 ∨ gw3 ≠ b1)))
  refine sd_ev rfl rfl rfl (ev_stM (cs' := TSecret.cs (TSecret.mk p0.Receiver l1 p0.Share) vw3) (vs := TSecret.cs (TSecret.mk p0.Receiver l1 p0.Share) vw3) (agg_74).siz rfl rfl rfl rfl (TSecret.cs_ones _ _ (Own.oneB B12)) B11 rfl rfl) ?_
  rintro _ w5 ⟨Bw5, Mw5⟩
  have z13 := Mw5.size
  refine sd_done ?_
  refine sw_ret ?_
  have B14 := (Own.md B12 Mw5 (tk1 ((pv_app (A := (fun x => x ≠ b2)) rw3 (.inl rfl)) : zw3 = 0 ∨ gw3 ≠ b2)))
  have X15 : Gr w w5 := (Gr.md (Gr.md (Gr.ka (Gr.trans (Gr.trans (Gr.refl w) Gw1) Gw2) Aw3) Mw4) Mw5)
  have hr := Option.some.inj hm
  subst hr
  refine ⟨_, _, rfl, res_1 rfl (rv_cellW agg_74 rfl Bw5 rfl), ?_⟩
  exact ⟨vw3, zw3, gw3, rfl, B14, ⟨(pv_app (A := (fun x => w.heap.size ≤ x)) rw3 (.inl rfl))⟩, X15⟩

set_option maxHeartbeats 2000000 in
theorem ref03_TwinHeader_w (p0 : THeader) (vp0_0 : Value) (zp0_0 gp0_0 op0_0 : Nat) (vp0_2 : Value) (zp0_2 gp0_2 op0_2 : Nat) (r : THeader) (hm : ref03_TwinHeader p0 = some r) (w : World) (hp0_0 : Rd w zp0_0 gp0_0 op0_0 18 vp0_0 (p0.Items.map TItem.cs)) (hp0_2 : Rd w zp0_2 gp0_2 op0_2 2 vp0_2 (p0.Points.map TPoint.cs))  :
    Calls Try.prog 22 [.agg (THeader.cs p0 vp0_0 vp0_2).toArray].toArray w fun e w' => ∃ v, e = .returned v ∧ (∃ (ur0_0 : Value) (zr0_0 : Nat) (gr0_0 : Nat) (ur0_2 : Value) (zr0_2 : Nat) (gr0_2 : Nat), v = .agg (THeader.cs r ur0_0 ur0_2).toArray ∧ Own w' zr0_0 gr0_0 108 18 ur0_0 (r.Items.map TItem.cs) ∧ Hdn (zr0_0 = 0 ∨ w.heap.size ≤ gr0_0) ∧ Own w' zr0_2 gr0_2 72 2 ur0_2 (r.Points.map TPoint.cs) ∧ Hdn (zr0_2 = 0 ∨ w.heap.size ≤ gr0_2) ∧ Hdn (zr0_2 = 0 ∨ zr0_0 = 0 ∨ gr0_2 ≠ gr0_0) ∧ Gr w w') := by
  have lt1 := hp0_0.lth
  have lt2 := hp0_2.lth
  unfold ref03_TwinHeader at hm
  refine calls_of_sw (R := fun v w' => ∃ (ur0_0 : Value) (zr0_0 : Nat) (gr0_0 : Nat) (ur0_2 : Value) (zr0_2 : Nat) (gr0_2 : Nat), v = .agg (THeader.cs r ur0_0 ur0_2).toArray ∧ Own w' zr0_0 gr0_0 108 18 ur0_0 (r.Items.map TItem.cs) ∧ Hdn (zr0_0 = 0 ∨ w.heap.size ≤ gr0_0) ∧ Own w' zr0_2 gr0_2 72 2 ur0_2 (r.Points.map TPoint.cs) ∧ Hdn (zr0_2 = 0 ∨ w.heap.size ≤ gr0_2) ∧ Hdn (zr0_2 = 0 ∨ zr0_0 = 0 ∨ gr0_2 ≠ gr0_0) ∧ Gr w w') 12 Try.func22 rfl rfl rfl ?_
  refine sw_seq ?_
  -- region 0 ref.go:648
  refine sw_region [(0, 0), (1, 0)] rfl rfl rfl ?_
  refine sd_ev rfl rfl rfl (ev_box (cs := THeader.cs p0 vp0_0 vp0_2) rfl rfl) ?_
  rintro _ w1 ⟨b1, rfl, hbw1, Bw1, Gw1⟩
  have z3 := Gw1.size
  have lt4 := Bw1.lt
  refine sd_ev rfl rfl rfl (ev_alloc (cs := THeader.cs (THeader.mk [] 0#64 [] k0 k0) (.slice none 0 0) (.slice none 0 0)) zv_28 rfl) ?_
  rintro _ w2 ⟨b2, rfl, hbw2, Bw2, Gw2⟩
  have z5 := Gw2.size
  have lt6 := Bw2.lt
  refine sd_done ?_
  refine sw_seq ?_
  -- region 1 ref.go:649
  refine sw_region [(0, 0), (1, 0), (2, 0), (3, 0), (4, 0)] rfl rfl rfl ?_
  refine sd_vv rfl rfl rfl (vv_fieldAddr fa_28_0 rfl) ?_
  have B7 := (Bx.gr Bw1 Gw2)
  refine sd_vv rfl rfl rfl (vv_load1 (v := vp0_0) one_22 rfl B7 rfl) ?_
  have B8 := (Rd.gr (Rd.gr hp0_0 Gw1) Gw2)
  have hb := bnd hm; clear hm; obtain ⟨l1, hl1, hm⟩ := hb
  refine sd_ev rfl rfl rfl (ev_appT (l := ([] : List TItem)) (m := p0.Items) (c := TItem.cs) apt_22 rfl rfl (own_nil _ 0 108 18) B8 hl1 (by decide)) ?_
  rintro vw3 w3 ⟨zw3, gw3, Ow3, Aw3, qw3, rw3⟩
  have z9 := Aw3.size
  refine sd_vv rfl rfl rfl (vv_fieldAddr fa_28_0 rfl) ?_
  have B10 := (Bx.ka B7 Aw3)
  refine sd_ev rfl rfl rfl (ev_st1 (cs' := THeader.cs (THeader.mk l1 p0.Base p0.Points p0.Box p0.Check) vw3 vp0_2) (one_22).siz rfl rfl (Own.oneB Ow3) B10 rfl rfl) ?_
  rintro _ w4 ⟨Bw4, Mw4⟩
  have z11 := Mw4.size
  refine sd_done ?_
  refine sw_seq ?_
  -- region 2 ref.go:650
  refine sw_region [(0, 0), (1, 0), (2, 0), (3, 0), (4, 0)] rfl rfl rfl ?_
  refine sd_vv rfl rfl rfl (vv_fieldAddr fa_28_2 rfl) ?_
  refine sd_vv rfl rfl rfl (vv_load1 (v := vp0_2) one_24 rfl Bw4 rfl) ?_
  have B12 := (Rd.md (Rd.ka (Rd.gr (Rd.gr hp0_2 Gw1) Gw2) Aw3) Mw4 (tk1 ((pv_lt (A := (fun x => x ≠ b1)) lt2) : zp0_2 = 0 ∨ gp0_2 ≠ b1)))
  have hb := bnd hm; clear hm; obtain ⟨l2, hl2, hm⟩ := hb
  refine sd_ev rfl rfl rfl (ev_appT (l := ([] : List TPoint)) (m := p0.Points) (c := TPoint.cs) apt_24 rfl rfl (own_nil _ 0 72 2) B12 hl2 (by decide)) ?_
  rintro vw5 w5 ⟨zw5, gw5, Ow5, Aw5, qw5, rw5⟩
  have z13 := Aw5.size
  refine sd_vv rfl rfl rfl (vv_fieldAddr fa_28_2 rfl) ?_
  have B14 := (Bx.ka Bw4 Aw5)
  refine sd_ev rfl rfl rfl (ev_st1 (cs' := THeader.cs (THeader.mk l1 p0.Base l2 p0.Box p0.Check) vw3 vw5) (one_24).siz rfl rfl (Own.oneB Ow5) B14 rfl rfl) ?_
  rintro _ w6 ⟨Bw6, Mw6⟩
  have z15 := Mw6.size
  refine sd_done ?_
  refine sw_seq ?_
  -- region 3 ref.go:651
  refine sw_region [(0, 0), (1, 0)] rfl rfl rfl ?_
  refine sd_vv rfl rfl rfl (vv_loadW agg_28 rfl Bw6 rfl) ?_
  have B16 := (Bx.md (Bx.ka (Bx.md (Bx.ka Bw2 Aw3) Mw4) Aw5) Mw6)
  have B17 := (Own.md (Own.ka (Own.md Ow3 Mw4 (tk1 ((pv_app (A := (fun x => x ≠ b1)) rw3 (.inl rfl)) : zw3 = 0 ∨ gw3 ≠ b1))) Aw5) Mw6 (tk1 ((pv_app (A := (fun x => x ≠ b1)) rw3 (.inl rfl)) : zw3 = 0 ∨ gw3 ≠ b1)))
  have B18 := (Own.md Ow5 Mw6 (tk1 ((pv_app (A := (fun x => x ≠ b1)) rw5 (.inl rfl)) : zw5 = 0 ∨ gw5 ≠ b1)))
  refine sd_ev rfl rfl rfl (ev_stM (cs' := THeader.cs (THeader.mk l1 p0.Base l2 p0.Box p0.Check) vw3 vw5) (vs := THeader.cs (THeader.mk l1 p0.Base l2 p0.Box p0.Check) vw3 vw5) (agg_28).siz rfl rfl rfl rfl (THeader.cs_ones _ _ _ (Own.oneB B17) (Own.oneB B18)) B16 rfl rfl) ?_
  rintro _ w7 ⟨Bw7, Mw7⟩
  have z19 := Mw7.size
  refine sd_done ?_
  refine sw_ret ?_
  have B20 := (Own.md B17 Mw7 (tk1 ((pv_app (A := (fun x => x ≠ b2)) rw3 (.inl rfl)) : zw3 = 0 ∨ gw3 ≠ b2)))
  have B21 := (Own.md B18 Mw7 (tk1 ((pv_app (A := (fun x => x ≠ b2)) rw5 (.inl rfl)) : zw5 = 0 ∨ gw5 ≠ b2)))
  have X22 : Gr w w7 := (Gr.md (Gr.md (Gr.ka (Gr.md (Gr.ka (Gr.trans (Gr.trans (Gr.refl w) Gw1) Gw2) Aw3) Mw4) Aw5) Mw6) Mw7)
  have hr := Option.some.inj hm
  subst hr
  refine ⟨_, _, rfl, res_1 rfl (rv_cellW agg_28 rfl Bw7 rfl), ?_⟩
  exact ⟨vw3, zw3, gw3, vw5, zw5, gw5, rfl, B20, ⟨(pv_app (A := (fun x => w.heap.size ≤ x)) rw3 (.inl rfl))⟩, B21, ⟨(pv_app (A := (fun x => w.heap.size ≤ x)) rw5 (.inl rfl))⟩, ⟨(pv_app (A := (fun x => zw3 = 0 ∨ x ≠ gw3)) rw5 (.inl rfl) (fun x hx => (tk1 qw3.o)))⟩, X22⟩

set_option maxHeartbeats 2000000 in
theorem ref03_SplitOf_w (p0 : TScheme) (p1 : TSubset)  (r : List TSubset) (hm : ref03_SplitOf p0 p1 = some r) (w : World)   :
    Calls Try.prog 81 [.agg (TScheme.cs p0).toArray, .agg (TSubset.cs p1).toArray].toArray w fun e w' => ∃ v, e = .returned v ∧ (∃ (ur0_s : Value) (zr0_s : Nat) (gr0_s : Nat), v = ur0_s ∧ Own w' zr0_s gr0_s 47 2 ur0_s (r.map TSubset.cs) ∧ Hdn (zr0_s = 0 ∨ w.heap.size ≤ gr0_s) ∧ Gr w w') := by
  unfold ref03_SplitOf at hm
  refine calls_of_sw (R := fun v w' => ∃ (ur0_s : Value) (zr0_s : Nat) (gr0_s : Nat), v = ur0_s ∧ Own w' zr0_s gr0_s 47 2 ur0_s (r.map TSubset.cs) ∧ Hdn (zr0_s = 0 ∨ w.heap.size ≤ gr0_s) ∧ Gr w w') 72 Try.func81 rfl rfl rfl ?_
  refine sw_seq ?_
  -- region 0 ref.go:237
  refine sw_region [(0, 0), (1, 0), (2, 0)] rfl rfl rfl ?_
  refine sd_ev rfl rfl rfl (ev_box (cs := TScheme.cs p0) rfl rfl) ?_
  rintro _ w1 ⟨b1, rfl, hbw1, Bw1, Gw1⟩
  have z1 := Gw1.size
  have lt2 := Bw1.lt
  refine sd_ev rfl rfl rfl (ev_box (cs := TSubset.cs p1) rfl rfl) ?_
  rintro _ w2 ⟨b2, rfl, hbw2, Bw2, Gw2⟩
  have z3 := Gw2.size
  have lt4 := Bw2.lt
  refine sd_vv rfl rfl rfl (vv_assign rfl) ?_
  refine sd_done ?_
  refine sw_seq ?_
  -- region 1 ref.go:238 DRAWS
  refine sw_drawN [([])] [] (.leaf [(0, 10), (1, 10), (2, 10), (3, 10), (4, 10), (5, 10)]) (by kernel_rfl) (by kernel_rfl) rfl (by kernel_rfl) ?_
  intro w3 Gw3 zw3
  refine sdz_leaf ?_
  refine dd_hn 0 rfl rfl rfl rfl (Kp.refl ([]) w3) (fun w hS => vv_fieldAddr fa_47_0 rfl) ?_
  have B5 := (Bx.gr Bw2 Gw3)
  refine dd_hn 0 rfl rfl rfl rfl (Kp.refl ([]) w3) (fun w hS => vv_load1 (v := .int .i64 p1.Node) one_3 rfl (Bx.kp B5 hS) rfl) ?_
  refine dd_hn 0 rfl rfl rfl rfl (Kp.refl ([]) w3) (fun w hS => vv_fieldAddr fa_47_1 rfl) ?_
  refine dd_hn 0 rfl rfl rfl rfl (Kp.refl ([]) w3) (fun w hS => vv_load1 (v := .int .i64 p1.Minus) one_3 rfl (Bx.kp B5 hS) rfl) ?_
  refine dd_hn 0 rfl rfl rfl rfl (Kp.refl ([]) w3) (fun w hS => vv_assign rfl) ?_
  refine dd_hn 0 rfl rfl rfl rfl (Kp.refl ([]) w3) (fun w hS => vv_assign rfl) ?_
  refine sd_done ?_
  refine sw_seq ?_
  refine sw_seq ?_
  -- region 2 ref.go:239
  refine sw_region [(0, 0), (1, 0), (2, 0), (3, 0), (4, 0)] rfl rfl rfl ?_
  have B6 := (Bx.gr (Bx.gr Bw1 Gw2) Gw3)
  refine sd_vv rfl rfl rfl (vv_loadW agg_45 rfl B6 rfl) ?_
  refine sd_vv rfl rfl rfl (vv_loadW agg_47 rfl B5 rfl) ?_
  have hb := bnd hm; clear hm; obtain ⟨x1, hx1, hm⟩ := hb
  refine sd_ev rfl rfl rfl (ev_call en_85 rfl (ref03_MembersOf_w p0 p1 _ hx1 _)) ?_
  rintro u4_r0_s w4 ⟨_, z4_r0_s, g4_r0_s, rfl, O4_r0_s, f4_r0_s, Gw4⟩
  have z7 := Gw4.size
  have lt8 := O4_r0_s.lth
  refine sd_vv rfl rfl rfl (vv_lenT (l := x1) (c := ic) Try.underlying61 rfl (Own.rd O4_r0_s)) ?_
  refine sd_vv rfl rfl rfl (vv_eql (a := (x1.length : Int)) (b := 1) rfl rfl) ?_
  refine sd_done ?_
  refine sw_cond rfl (fun c1 => ?_) (fun c1 => ?_)
  ·
    replace hm := ite_t (of_decide_eq_true c1) hm
    refine sw_seq ?_
    -- region 3 ref.go:240
    refine sw_region [(0, 0)] rfl rfl rfl ?_
    refine sd_vv rfl rfl rfl (vv_assign rfl) ?_
    refine sd_done ?_
    refine sw_ret ?_
    refine then_r ?_
    have X9 : Gr w w4 := (Gr.trans (Gr.trans (Gr.trans (Gr.trans (Gr.refl w) Gw1) Gw2) Gw3) Gw4)
    have hr := Option.some.inj hm
    subst hr
    refine ⟨_, _, rfl, res_1 rfl (rv_tmp rfl), ?_⟩
    exact ⟨(.slice none 0 0), 0, 0, rfl, (own_nil _ 0 47 2), ⟨.inl rfl⟩, X9⟩
  ·
    replace hm := ite_f (of_decide_eq_false c1) hm
    refine sw_skip ?_
    refine then_n ?_
    refine sw_seq ?_
    refine sw_seq ?_
    -- region 4 ref.go:242
    refine sw_region [(0, 0), (1, 0), (2, 0)] rfl rfl rfl ?_
    refine sd_vv rfl rfl rfl (vv_fieldAddr fa_45_0 rfl) ?_
    have B10 := (Bx.gr B6 Gw4)
    refine sd_vv rfl rfl rfl (vv_load1 (v := bv p0.Kind) one_5 rfl B10 rfl) ?_
    refine sd_vv rfl rfl rfl (vv_eqlB (p := p0.Kind) (q := 1#8) rfl rfl) ?_
    refine sd_done ?_
    refine sw_cond rfl (fun c2 => ?_) (fun c2 => ?_)
    ·
      replace hm := ite_t (of_decide_eq_true c2) hm
      refine sw_seq ?_
      -- region 5 ref.go:243
      refine sw_region [(0, 0), (1, 0), (2, 0), (3, 0), (4, 0), (5, 0), (6, 0), (7, 0), (8, 0)] rfl rfl rfl ?_
      refine sd_vv rfl rfl rfl (vv_move rfl) ?_
      refine sd_vv rfl rfl rfl (vv_mul (k := .i64) (a := 2) (b := p1.Node) rfl rfl) ?_
      refine sd_vv rfl rfl rfl (vv_build (cs := TSubset.cs (TSubset.mk (w64 (2 * p1.Node)) 0)) bs_47 rfl rfl) ?_
      refine sd_vv rfl rfl rfl (vv_move rfl) ?_
      refine sd_vv rfl rfl rfl (vv_mul (k := .i64) (a := 2) (b := p1.Node) rfl rfl) ?_
      refine sd_vv rfl rfl rfl (vv_add (k := .i64) (a := w64 (2 * p1.Node)) (b := 1) rfl rfl) ?_
      refine sd_vv rfl rfl rfl (vv_build (cs := TSubset.cs (TSubset.mk (w64 ((w64 (2 * p1.Node)) + 1)) 0)) bs_47 rfl rfl) ?_
      refine sd_ev rfl rfl rfl (ev_litT [(TSubset.mk (w64 (2 * p1.Node)) 0), (TSubset.mk (w64 ((w64 (2 * p1.Node)) + 1)) 0)] TSubset.cs bsl_48_2 rfl rfl (ws_of rfl) rfl rfl rfl) ?_
      rintro vw5 w5 ⟨gw5, hbw5, Ow5, Gw5⟩
      have z11 := Gw5.size
      have lt12 := Ow5.lth
      refine sd_vv rfl rfl rfl (vv_assign rfl) ?_
      refine sd_done ?_
      refine sw_ret ?_
      refine then_r ?_
      have X13 : Gr w w5 := (Gr.trans (Gr.trans (Gr.trans (Gr.trans (Gr.trans (Gr.refl w) Gw1) Gw2) Gw3) Gw4) Gw5)
      have hr := Option.some.inj hm
      subst hr
      refine ⟨_, _, rfl, res_1 rfl (rv_tmp rfl), ?_⟩
      exact ⟨vw5, 1, gw5, rfl, Ow5, ⟨(.inr tk0)⟩, X13⟩
    ·
      replace hm := ite_f (of_decide_eq_false c2) hm
      refine sw_skip ?_
      refine then_n ?_
      refine sw_seq ?_
      refine sw_seq ?_
      -- region 6 ref.go:245
      refine sw_region [(0, 0), (1, 0)] rfl rfl rfl ?_
      refine sd_vv rfl rfl rfl (vv_move rfl) ?_
      refine sd_vv rfl rfl rfl (vv_eql (a := p1.Minus) (b := 0) rfl rfl) ?_
      refine sd_done ?_
      refine sw_cond rfl (fun c3 => ?_) (fun c3 => ?_)
      ·
        replace hm := ite_t (of_decide_eq_true c3) hm
        refine sw_seq ?_
        -- region 7 ref.go:246
        refine sw_region [(0, 0), (1, 0), (2, 0), (3, 0)] rfl rfl rfl ?_
        refine sd_vv rfl rfl rfl (vv_build (cs := TSubset.cs (TSubset.mk 1 2)) bs_47 rfl rfl) ?_
        refine sd_vv rfl rfl rfl (vv_build (cs := TSubset.cs (TSubset.mk 1 3)) bs_47 rfl rfl) ?_
        refine sd_ev rfl rfl rfl (ev_litT [(TSubset.mk 1 2), (TSubset.mk 1 3)] TSubset.cs bsl_48_2 rfl rfl (ws_of rfl) rfl rfl rfl) ?_
        rintro vw6 w6 ⟨gw6, hbw6, Ow6, Gw6⟩
        have z14 := Gw6.size
        have lt15 := Ow6.lth
        refine sd_vv rfl rfl rfl (vv_assign rfl) ?_
        refine sd_done ?_
        refine sw_ret ?_
        refine then_r ?_
        have X16 : Gr w w6 := (Gr.trans (Gr.trans (Gr.trans (Gr.trans (Gr.trans (Gr.refl w) Gw1) Gw2) Gw3) Gw4) Gw6)
        have hr := Option.some.inj hm
        subst hr
        refine ⟨_, _, rfl, res_1 rfl (rv_tmp rfl), ?_⟩
        exact ⟨vw6, 1, gw6, rfl, Ow6, ⟨(.inr tk0)⟩, X16⟩
      ·
        replace hm := ite_f (of_decide_eq_false c3) hm
        refine sw_skip ?_
        refine then_n ?_
        refine sw_seq ?_
        -- region 8 ref.go:248
        refine sw_region [(0, 0), (1, 0), (2, 0), (3, 0), (4, 0), (5, 0)] rfl rfl rfl ?_
        refine sd_vv rfl rfl rfl (vv_move rfl) ?_
        refine sd_vv rfl rfl rfl (vv_move rfl) ?_
        have hb := bnd hm; clear hm; obtain ⟨x2, hx2, hm⟩ := hb
        refine sd_ev rfl rfl rfl (ev_call en_108 rfl (ref03_Path_w p1.Node p1.Minus _ hx2 _)) ?_
        rintro u7_r0_s w7 ⟨_, z7_r0_s, g7_r0_s, rfl, O7_r0_s, f7_r0_s, Gw7⟩
        have z17 := Gw7.size
        have lt18 := O7_r0_s.lth
        have hb := bnd hm; clear hm; obtain ⟨y3, hy3, hm⟩ := hb
        refine sd_vv rfl rfl rfl (vv_ixT (i := 1) Try.underlying61 (one_3).siz rfl (Own.rd O7_r0_s) rfl hy3) ?_
        refine sd_vv rfl rfl rfl (vv_el1T (q := 0) (u := .int .i64 y3) one_3 rfl (Own.rd O7_r0_s) hy3 (by first | rfl | omega) rfl) ?_
        refine sd_vv rfl rfl rfl (vv_assign rfl) ?_
        refine sd_done ?_
        refine sw_seq ?_
        refine sw_seq ?_
        -- region 9 ref.go:249
        refine sw_region [(0, 0), (1, 0), (2, 0)] rfl rfl rfl ?_
        refine sd_vv rfl rfl rfl (vv_move rfl) ?_
        refine sd_vv rfl rfl rfl (vv_move rfl) ?_
        refine sd_vv rfl rfl rfl (vv_eql (a := y3) (b := p1.Minus) rfl rfl) ?_
        refine sd_done ?_
        refine sw_cond rfl (fun c4 => ?_) (fun c4 => ?_)
        ·
          replace hm := ite_t (of_decide_eq_true c4) hm
          refine sw_seq ?_
          -- region 10 ref.go:250
          refine sw_region [(0, 0), (1, 0), (2, 0)] rfl rfl rfl ?_
          refine sd_vv rfl rfl rfl (vv_move rfl) ?_
          refine sd_vv rfl rfl rfl (vv_bitI (a := y3) (b := 1) (by simp) rfl rfl) ?_
          refine sd_vv rfl rfl rfl (vv_assign rfl) ?_
          refine sd_done ?_
          refine sw_seq ?_
          -- region 11 ref.go:251
          refine sw_region [(0, 0), (1, 0), (2, 0), (3, 0), (4, 0), (5, 0), (6, 0), (7, 0), (8, 0), (9, 0), (10, 0)] rfl rfl rfl ?_
          refine sd_vv rfl rfl rfl (vv_move rfl) ?_
          refine sd_vv rfl rfl rfl (vv_move rfl) ?_
          refine sd_vv rfl rfl rfl (vv_mul (k := .i64) (a := 2) (b := bitI .xor y3 1) rfl rfl) ?_
          refine sd_vv rfl rfl rfl (vv_build (cs := TSubset.cs (TSubset.mk (bitI .xor y3 1) (w64 (2 * (bitI .xor y3 1))))) bs_47 rfl rfl) ?_
          refine sd_vv rfl rfl rfl (vv_move rfl) ?_
          refine sd_vv rfl rfl rfl (vv_move rfl) ?_
          refine sd_vv rfl rfl rfl (vv_mul (k := .i64) (a := 2) (b := bitI .xor y3 1) rfl rfl) ?_
          refine sd_vv rfl rfl rfl (vv_add (k := .i64) (a := w64 (2 * (bitI .xor y3 1))) (b := 1) rfl rfl) ?_
          refine sd_vv rfl rfl rfl (vv_build (cs := TSubset.cs (TSubset.mk (bitI .xor y3 1) (w64 ((w64 (2 * (bitI .xor y3 1))) + 1)))) bs_47 rfl rfl) ?_
          refine sd_ev rfl rfl rfl (ev_litT [(TSubset.mk (bitI .xor y3 1) (w64 (2 * (bitI .xor y3 1)))), (TSubset.mk (bitI .xor y3 1) (w64 ((w64 (2 * (bitI .xor y3 1))) + 1)))] TSubset.cs bsl_48_2 rfl rfl (ws_of rfl) rfl rfl rfl) ?_
          rintro vw8 w8 ⟨gw8, hbw8, Ow8, Gw8⟩
          have z19 := Gw8.size
          have lt20 := Ow8.lth
          refine sd_vv rfl rfl rfl (vv_assign rfl) ?_
          refine sd_done ?_
          refine sw_ret ?_
          refine then_r ?_
          have X21 : Gr w w8 := (Gr.trans (Gr.trans (Gr.trans (Gr.trans (Gr.trans (Gr.trans (Gr.refl w) Gw1) Gw2) Gw3) Gw4) Gw7) Gw8)
          have hr := Option.some.inj hm
          subst hr
          refine ⟨_, _, rfl, res_1 rfl (rv_tmp rfl), ?_⟩
          exact ⟨vw8, 1, gw8, rfl, Ow8, ⟨(.inr tk0)⟩, X21⟩
        ·
          replace hm := ite_f (of_decide_eq_false c4) hm
          refine sw_skip ?_
          refine then_n ?_
          have X22 : Gr w w7 := (Gr.trans (Gr.trans (Gr.trans (Gr.trans (Gr.trans (Gr.refl w) Gw1) Gw2) Gw3) Gw4) Gw7)
          refine sw_joinD (β := Int) [7, 54, 55, 56, 57, 58, 59, 60, 61, 62, 63, 64] (fun a4 => [(7, .int .i64 a4)]) (fun a4 wr => (ref03_SplitOf_J1 p1 a4 = some r) ∧ Kz [] w7 wr) ?_ ?_
          · clear hm; rintro a4 w9 ⟨hm, Kw9⟩
            have z23 := Kw9.size
            unfold ref03_SplitOf_J1 at hm
            refine sw_seq ?_
            -- region 14 ref.go:256
            refine sw_region [(0, 0), (1, 0), (2, 0), (3, 0), (4, 0), (5, 0), (6, 0), (7, 0)] rfl rfl rfl ?_
            refine sd_vv rfl rfl rfl (vv_move rfl) ?_
            refine sd_vv rfl rfl rfl (vv_move rfl) ?_
            refine sd_vv rfl rfl rfl (vv_build (cs := TSubset.cs (TSubset.mk p1.Node a4)) bs_47 rfl rfl) ?_
            refine sd_vv rfl rfl rfl (vv_move rfl) ?_
            refine sd_vv rfl rfl rfl (vv_move rfl) ?_
            refine sd_vv rfl rfl rfl (vv_build (cs := TSubset.cs (TSubset.mk a4 p1.Minus)) bs_47 rfl rfl) ?_
            refine sd_ev rfl rfl rfl (ev_litT [(TSubset.mk p1.Node a4), (TSubset.mk a4 p1.Minus)] TSubset.cs bsl_48_2 rfl rfl (ws_of rfl) rfl rfl rfl) ?_
            rintro vw10 w10 ⟨gw10, hbw10, Ow10, Gw10⟩
            have z24 := Gw10.size
            have lt25 := Ow10.lth
            refine sd_vv rfl rfl rfl (vv_assign rfl) ?_
            refine sd_done ?_
            refine sw_ret ?_
            have X26 : Gr w w10 := (Gr.trans (Gr.kz X22 Kw9) Gw10)
            have hr := Option.some.inj hm
            subst hr
            refine ⟨_, _, rfl, res_1 rfl (rv_tmp rfl), ?_⟩
            exact ⟨vw10, 1, gw10, rfl, Ow10, ⟨(.inr tk0)⟩, X26⟩
          ·
            refine sw_seq ?_
            -- region 12 ref.go:253
            refine sw_region [(0, 0), (1, 0), (2, 0), (3, 0), (4, 0), (5, 0)] rfl rfl rfl ?_
            have B27 := (Bx.gr B10 Gw7)
            refine sd_vv rfl rfl rfl (vv_loadW agg_45 rfl B27 rfl) ?_
            refine sd_vv rfl rfl rfl (vv_move rfl) ?_
            refine sd_vv rfl rfl rfl (vv_move rfl) ?_
            refine sd_vv rfl rfl rfl (vv_build (cs := TSubset.cs (TSubset.mk y3 p1.Minus)) bs_47 rfl rfl) ?_
            have hb := bnd hm; clear hm; obtain ⟨x5, hx5, hm⟩ := hb
            refine sd_ev rfl rfl rfl (ev_call en_62 rfl (ref03_IsSubset_w p0 (TSubset.mk y3 p1.Minus) _ hx5 _)) ?_
            rintro _ w11 ⟨rfl, Gw11⟩
            have z28 := Gw11.size
            refine sd_vv rfl rfl rfl (vv_not rfl) ?_
            refine sd_done ?_
            refine sw_cond rfl (fun c5 => ?_) (fun c5 => ?_)
            ·
              replace hm := cnd_t c5 hm
              -- region 13 ref.go:254
              refine sw_region [(0, 0), (1, 0), (2, 0), (3, 0), (4, 0), (5, 0)] rfl rfl rfl ?_
              refine sd_vv rfl rfl rfl (vv_fieldAddr fa_45_1 rfl) ?_
              have B29 := (Bx.gr B27 Gw11)
              refine sd_vv rfl rfl rfl (vv_load1 (v := .int .i64 p0.Depth) one_3 rfl B29 rfl) ?_
              refine sd_vv rfl rfl rfl (vv_move rfl) ?_
              refine sd_vv rfl rfl rfl (vv_move rfl) ?_
              have hb := bnd hm; clear hm; obtain ⟨x6, hx6, hm⟩ := hb
              refine sd_ev rfl rfl rfl (ev_call en_121 rfl (ref03_between_w p0.Depth p1.Node p1.Minus _ hx6 _)) ?_
              rintro _ w12 ⟨rfl, Gw12⟩
              have z30 := Gw12.size
              refine sd_vv rfl rfl rfl (vv_assign rfl) ?_
              refine sd_nil ?_
              have K_31 : Kz [] w7 w12 := (Kz.gr (Kz.gr (Kz.refl _ _) Gw11) Gw12)
              refine ⟨rfl, x6, ?_, hm, K_31⟩
              repeat' first | exact trivial | refine ⟨rfl, ?_⟩
            ·
              replace hm := cnd_f c5 hm
              refine sw_skip ?_
              have K_32 : Kz [] w7 w11 := (Kz.gr (Kz.refl _ _) Gw11)
              refine ⟨rfl, y3, ?_, hm, K_32⟩
              repeat' first | exact trivial | refine ⟨rfl, ?_⟩

set_option maxHeartbeats 2000000 in
theorem ref03_Split_w (p0 : TScheme) (p1 : TSubset)  (r : List TSubset × Int) (hm : ref03_Split p0 p1 = some r) (w : World)   :
    Calls Try.prog 29 [.agg (TScheme.cs p0).toArray, .agg (TSubset.cs p1).toArray].toArray w fun e w' => ∃ v, e = .returned v ∧ (∃ (ur0_s : Value) (zr0_s : Nat) (gr0_s : Nat), v = .tuple [ur0_s, .int .i64 r.2].toArray ∧ Own w' zr0_s gr0_s 47 2 ur0_s (r.1.map TSubset.cs) ∧ Hdn (zr0_s = 0 ∨ w.heap.size ≤ gr0_s) ∧ Gr w w') := by
  unfold ref03_Split at hm
  refine calls_of_sw (R := fun v w' => ∃ (ur0_s : Value) (zr0_s : Nat) (gr0_s : Nat), v = .tuple [ur0_s, .int .i64 r.2].toArray ∧ Own w' zr0_s gr0_s 47 2 ur0_s (r.1.map TSubset.cs) ∧ Hdn (zr0_s = 0 ∨ w.heap.size ≤ gr0_s) ∧ Gr w w') 21 Try.func29 rfl rfl rfl ?_
  refine sw_seq ?_
  -- region 0 ref.go:260
  refine sw_region [(0, 0), (1, 0), (2, 0), (3, 0)] rfl rfl rfl ?_
  refine sd_ev rfl rfl rfl (ev_box (cs := TScheme.cs p0) rfl rfl) ?_
  rintro _ w1 ⟨b1, rfl, hbw1, Bw1, Gw1⟩
  have z1 := Gw1.size
  have lt2 := Bw1.lt
  refine sd_ev rfl rfl rfl (ev_box (cs := TSubset.cs p1) rfl rfl) ?_
  rintro _ w2 ⟨b2, rfl, hbw2, Bw2, Gw2⟩
  have z3 := Gw2.size
  have lt4 := Bw2.lt
  refine sd_vv rfl rfl rfl (vv_assign rfl) ?_
  refine sd_vv rfl rfl rfl (vv_assign rfl) ?_
  refine sd_done ?_
  refine sw_seq ?_
  refine sw_seq ?_
  -- region 1 ref.go:261
  refine sw_region [(0, 0), (1, 0), (2, 0)] rfl rfl rfl ?_
  have B5 := (Bx.gr Bw1 Gw2)
  refine sd_vv rfl rfl rfl (vv_loadW agg_45 rfl B5 rfl) ?_
  have hb := bnd hm; clear hm; obtain ⟨x1, hx1, hm⟩ := hb
  refine sd_ev rfl rfl rfl (ev_call en_59 rfl (ref03_Valid_w p0 _ hx1 _)) ?_
  rintro _ w3 ⟨rfl, Gw3⟩
  have z6 := Gw3.size
  refine sd_vv rfl rfl rfl (vv_not rfl) ?_
  refine sd_done ?_
  refine sw_cond rfl (fun c1 => ?_) (fun c1 => ?_)
  ·
    replace hm := cnd_t c1 hm
    refine sw_seq ?_
    -- region 2 ref.go:262
    refine sw_region [(0, 0), (1, 0)] rfl rfl rfl ?_
    refine sd_vv rfl rfl rfl (vv_assign rfl) ?_
    refine sd_vv rfl rfl rfl (vv_assign rfl) ?_
    refine sd_done ?_
    refine sw_ret ?_
    refine then_r ?_
    have X7 : Gr w w3 := (Gr.trans (Gr.trans (Gr.trans (Gr.refl w) Gw1) Gw2) Gw3)
    have hr := Option.some.inj hm
    subst hr
    refine ⟨_, _, rfl, res_2 rfl (rv_tmp rfl) (rv_tmp rfl), ?_⟩
    exact ⟨(.slice none 0 0), 0, 0, rfl, (own_nil _ 0 47 2), ⟨.inl rfl⟩, X7⟩
  ·
    replace hm := cnd_f c1 hm
    refine sw_skip ?_
    refine then_n ?_
    refine sw_seq ?_
    refine sw_seq ?_
    -- region 3 ref.go:264
    refine sw_region [(0, 0), (1, 0), (2, 0), (3, 0)] rfl rfl rfl ?_
    have B8 := (Bx.gr B5 Gw3)
    refine sd_vv rfl rfl rfl (vv_loadW agg_45 rfl B8 rfl) ?_
    have B9 := (Bx.gr Bw2 Gw3)
    refine sd_vv rfl rfl rfl (vv_loadW agg_47 rfl B9 rfl) ?_
    have hb := bnd hm; clear hm; obtain ⟨x2, hx2, hm⟩ := hb
    refine sd_ev rfl rfl rfl (ev_call en_62 rfl (ref03_IsSubset_w p0 p1 _ hx2 _)) ?_
    rintro _ w4 ⟨rfl, Gw4⟩
    have z10 := Gw4.size
    refine sd_vv rfl rfl rfl (vv_not rfl) ?_
    refine sd_done ?_
    refine sw_cond rfl (fun c2 => ?_) (fun c2 => ?_)
    ·
      replace hm := cnd_t c2 hm
      refine sw_seq ?_
      -- region 4 ref.go:265
      refine sw_region [(0, 0), (1, 0)] rfl rfl rfl ?_
      refine sd_vv rfl rfl rfl (vv_assign rfl) ?_
      refine sd_vv rfl rfl rfl (vv_assign rfl) ?_
      refine sd_done ?_
      refine sw_ret ?_
      refine then_r ?_
      have X11 : Gr w w4 := (Gr.trans (Gr.trans (Gr.trans (Gr.trans (Gr.refl w) Gw1) Gw2) Gw3) Gw4)
      have hr := Option.some.inj hm
      subst hr
      refine ⟨_, _, rfl, res_2 rfl (rv_tmp rfl) (rv_tmp rfl), ?_⟩
      exact ⟨(.slice none 0 0), 0, 0, rfl, (own_nil _ 0 47 2), ⟨.inl rfl⟩, X11⟩
    ·
      replace hm := cnd_f c2 hm
      refine sw_skip ?_
      refine then_n ?_
      refine sw_seq ?_
      -- region 5 ref.go:267
      refine sw_region [(0, 0), (1, 0), (2, 0), (3, 0)] rfl rfl rfl ?_
      have B12 := (Bx.gr B8 Gw4)
      refine sd_vv rfl rfl rfl (vv_loadW agg_45 rfl B12 rfl) ?_
      have B13 := (Bx.gr B9 Gw4)
      refine sd_vv rfl rfl rfl (vv_loadW agg_47 rfl B13 rfl) ?_
      have hb := bnd hm; clear hm; obtain ⟨x3, hx3, hm⟩ := hb
      refine sd_ev rfl rfl rfl (ev_call en_81 rfl (ref03_SplitOf_w p0 p1 _ hx3 _)) ?_
      rintro u5_r0_s w5 ⟨_, z5_r0_s, g5_r0_s, rfl, O5_r0_s, f5_r0_s, Gw5⟩
      have z14 := Gw5.size
      have lt15 := O5_r0_s.lth
      refine sd_vv rfl rfl rfl (vv_assign rfl) ?_
      refine sd_done ?_
      refine sw_seq ?_
      refine sw_seq ?_
      -- region 6 ref.go:268
      refine sw_region [(0, 0), (1, 0), (2, 0)] rfl rfl rfl ?_
      refine sd_vv rfl rfl rfl (vv_move rfl) ?_
      refine sd_vv rfl rfl rfl (vv_lenT (l := x3) (c := TSubset.cs) Try.underlying48 rfl (Own.rd O5_r0_s)) ?_
      refine sd_vv rfl rfl rfl (vv_eql (a := (x3.length : Int)) (b := 0) rfl rfl) ?_
      refine sd_done ?_
      refine sw_cond rfl (fun c3 => ?_) (fun c3 => ?_)
      ·
        replace hm := ite_t (of_decide_eq_true c3) hm
        refine sw_seq ?_
        -- region 7 ref.go:269
        refine sw_region [(0, 0), (1, 0)] rfl rfl rfl ?_
        refine sd_vv rfl rfl rfl (vv_assign rfl) ?_
        refine sd_vv rfl rfl rfl (vv_assign rfl) ?_
        refine sd_done ?_
        refine sw_ret ?_
        refine then_r ?_
        have X16 : Gr w w5 := (Gr.trans (Gr.trans (Gr.trans (Gr.trans (Gr.trans (Gr.refl w) Gw1) Gw2) Gw3) Gw4) Gw5)
        have hr := Option.some.inj hm
        subst hr
        refine ⟨_, _, rfl, res_2 rfl (rv_tmp rfl) (rv_tmp rfl), ?_⟩
        exact ⟨(.slice none 0 0), 0, 0, rfl, (own_nil _ 0 47 2), ⟨.inl rfl⟩, X16⟩
      ·
        replace hm := ite_f (of_decide_eq_false c3) hm
        refine sw_skip ?_
        refine then_n ?_
        refine sw_seq ?_
        -- region 8 ref.go:271
        refine sw_region [(0, 0), (1, 0), (2, 0)] rfl rfl rfl ?_
        refine sd_vv rfl rfl rfl (vv_move rfl) ?_
        refine sd_vv rfl rfl rfl (vv_assign rfl) ?_
        refine sd_vv rfl rfl rfl (vv_assign rfl) ?_
        refine sd_done ?_
        refine sw_ret ?_
        have X17 : Gr w w5 := (Gr.trans (Gr.trans (Gr.trans (Gr.trans (Gr.trans (Gr.refl w) Gw1) Gw2) Gw3) Gw4) Gw5)
        have hr := Option.some.inj hm
        subst hr
        refine ⟨_, _, rfl, res_2 rfl (rv_tmp rfl) (rv_tmp rfl), ?_⟩
        exact ⟨u5_r0_s, z5_r0_s, g5_r0_s, rfl, O5_r0_s, ⟨(pv_0 (A := (fun x => w.heap.size ≤ x)) f5_r0_s)⟩, X17⟩

set_option maxHeartbeats 2000000 in
theorem ref03_step_w (p0 : W2) (p1 : Int)  (r : W2) (hm : ref03_step p0 p1 = some r) (w : World)   :
    Calls Try.prog 159 [kv p0, .int .i64 p1].toArray w fun e w' => ∃ v, e = .returned v ∧ (v = kv r ∧ Gr w w') := by
  unfold ref03_step at hm
  refine calls_of_sw (R := fun v w' => v = kv r ∧ Gr w w') 12 Try.func159 rfl rfl rfl ?_
  refine sw_seq ?_
  -- region 0 ref.go:275
  refine sw_region [(0, 0), (1, 0)] rfl rfl rfl ?_
  refine sd_ev rfl rfl rfl (ev_box (cs := kb p0) rfl rfl) ?_
  rintro _ w1 ⟨b1, rfl, hbw1, Bw1, Gw1⟩
  have z1 := Gw1.size
  have lt2 := Bw1.lt
  refine sd_ev rfl rfl rfl (ev_alloc (cs := kb k0) zv_26 rfl) ?_
  rintro _ w2 ⟨b2, rfl, hbw2, Bw2, Gw2⟩
  have z3 := Gw2.size
  have lt4 := Bw2.lt
  refine sd_done ?_
  refine sw_seq ?_
  refine sw_seq ?_
  -- region 1 ref.go:276
  refine sw_region [(0, 0), (1, 0), (2, 0)] rfl rfl rfl ?_
  refine sd_vv rfl rfl rfl (vv_move rfl) ?_
  have hb := bnd hm; clear hm; obtain ⟨x1, hx1, hm⟩ := hb
  refine sd_vv rfl rfl rfl (vv_remI (a := p1) (b := 2) rfl rfl hx1) ?_
  refine sd_vv rfl rfl rfl (vv_eql (a := x1) (b := 0) rfl rfl) ?_
  refine sd_done ?_
  refine sw_cond rfl (fun c1 => ?_) (fun c1 => ?_)
  ·
    replace hm := ite_t (of_decide_eq_true c1) hm
    refine sw_seq ?_
    -- region 2 ref.go:277
    refine sw_region [(0, 0), (1, 0), (2, 0)] rfl rfl rfl ?_
    have B5 := (Bx.gr Bw1 Gw2)
    refine sd_vv rfl rfl rfl (vv_loadW agg_26 rfl B5 rfl) ?_
    refine sd_ev rfl rfl rfl (ev_call en_89 rfl (rderive_c p0 (un8 31#8) (un8_nn _) (un8_le _) 0#64 _)) ?_
    rintro _ w3 ⟨rfl, Gw3⟩
    have z6 := Gw3.size
    have B7 := (Bx.gr Bw2 Gw3)
    refine sd_ev rfl rfl rfl (ev_stM (cs' := kb (drv p0 (un8 31#8) 0#64)) (vs := kb (drv p0 (un8 31#8) 0#64)) (agg_26).siz rfl rfl rfl rfl rfl B7 rfl rfl) ?_
    rintro _ w4 ⟨Bw4, Mw4⟩
    have z8 := Mw4.size
    refine sd_done ?_
    refine sw_ret ?_
    refine then_r ?_
    have X9 : Gr w w4 := (Gr.md (Gr.trans (Gr.trans (Gr.trans (Gr.refl w) Gw1) Gw2) Gw3) Mw4)
    have hr := Option.some.inj hm
    subst hr
    refine ⟨_, _, rfl, res_1 rfl (rv_cellW agg_26 rfl Bw4 rfl), ?_⟩
    exact ⟨rfl, X9⟩
  ·
    replace hm := ite_f (of_decide_eq_false c1) hm
    refine sw_skip ?_
    refine then_n ?_
    refine sw_seq ?_
    -- region 3 ref.go:279
    refine sw_region [(0, 0), (1, 0), (2, 0)] rfl rfl rfl ?_
    have B10 := (Bx.gr Bw1 Gw2)
    refine sd_vv rfl rfl rfl (vv_loadW agg_26 rfl B10 rfl) ?_
    refine sd_ev rfl rfl rfl (ev_call en_89 rfl (rderive_c p0 (un8 32#8) (un8_nn _) (un8_le _) 0#64 _)) ?_
    rintro _ w5 ⟨rfl, Gw5⟩
    have z11 := Gw5.size
    have B12 := (Bx.gr Bw2 Gw5)
    refine sd_ev rfl rfl rfl (ev_stM (cs' := kb (drv p0 (un8 32#8) 0#64)) (vs := kb (drv p0 (un8 32#8) 0#64)) (agg_26).siz rfl rfl rfl rfl rfl B12 rfl rfl) ?_
    rintro _ w6 ⟨Bw6, Mw6⟩
    have z13 := Mw6.size
    refine sd_done ?_
    refine sw_ret ?_
    have X14 : Gr w w6 := (Gr.md (Gr.trans (Gr.trans (Gr.trans (Gr.refl w) Gw1) Gw2) Gw5) Mw6)
    have hr := Option.some.inj hm
    subst hr
    refine ⟨_, _, rfl, res_1 rfl (rv_cellW agg_26 rfl Bw6 rfl), ?_⟩
    exact ⟨rfl, X14⟩

set_option maxHeartbeats 2000000 in
theorem ref03_down_w (p0 : W2) (p1 : Int) (p2 : Int)  (r : W2) (hm : ref03_down p0 p1 p2 = some r) (w : World)   :
    Calls Try.prog 146 [kv p0, .int .i64 p1, .int .i64 p2].toArray w fun e w' => ∃ v, e = .returned v ∧ (v = kv r ∧ Gr w w') := by
  unfold ref03_down at hm
  refine calls_of_sw (R := fun v w' => v = kv r ∧ Gr w w') 25 Try.func146 rfl rfl rfl ?_
  refine sw_seq ?_
  -- region 0 ref.go:283
  refine sw_region [(0, 0), (1, 0)] rfl rfl rfl ?_
  refine sd_ev rfl rfl rfl (ev_box (cs := kb p0) rfl rfl) ?_
  rintro _ w1 ⟨b1, rfl, hbw1, Bw1, Gw1⟩
  have z1 := Gw1.size
  have lt2 := Bw1.lt
  refine sd_ev rfl rfl rfl (ev_alloc (cs := kb k0) zv_26 rfl) ?_
  rintro _ w2 ⟨b2, rfl, hbw2, Bw2, Gw2⟩
  have z3 := Gw2.size
  have lt4 := Bw2.lt
  refine sd_done ?_
  refine sw_seq ?_
  -- region 1 ref.go:284
  refine sw_region [(0, 0), (1, 0), (2, 0), (3, 0)] rfl rfl rfl ?_
  refine sd_vv rfl rfl rfl (vv_move rfl) ?_
  refine sd_vv rfl rfl rfl (vv_move rfl) ?_
  have hb := bnd hm; clear hm; obtain ⟨x1, hx1, hm⟩ := hb
  refine sd_ev rfl rfl rfl (ev_call en_108 rfl (ref03_Path_w p1 p2 _ hx1 _)) ?_
  rintro u3_r0_s w3 ⟨_, z3_r0_s, g3_r0_s, rfl, O3_r0_s, f3_r0_s, Gw3⟩
  have z5 := Gw3.size
  have lt6 := O3_r0_s.lth
  refine sd_vv rfl rfl rfl (vv_assign rfl) ?_
  refine sd_done ?_
  refine sw_seq ?_
  refine sw_seq ?_
  -- region 2 ref.go:285
  refine sw_region [(0, 0)] rfl rfl rfl ?_
  refine sd_vv rfl rfl rfl (vv_assign rfl) ?_
  refine sd_done ?_
  refine sw_block ?_
  have X7 : Gr w w3 := (Gr.trans (Gr.trans (Gr.trans (Gr.refl w) Gw1) Gw2) Gw3)
  have B8 := (Bx.gr (Bx.gr Bw1 Gw2) Gw3)
  refine sw_loopD (α := Nat × Int × W2) [8, 12, 13, 14, 15, 16, 17, 18, 19, 20, 21, 22, 23] (fun ⟨n1, a4, a5⟩ => [(8, .int .i64 a4)]) (fun ⟨n1, a4, a5⟩ wr => (fixN (ref03_down_L1 x1) n1 (a4, a5) = some r) ∧ Bx wr b1 26 (kb a5) ∧ Kz [(1, b1)] w3 wr) (fun ⟨n1, a4, a5⟩ => n1) ⟨FUEL, 1, p0⟩ ?_ ?_ ?_
  · repeat' first | exact trivial | refine ⟨rfl, ?_⟩
  · exact ⟨hm, B8, Kz.refl _ _⟩
  · clear hm; rintro ⟨n1, a4, a5⟩ w4 ⟨hm, Fw4_0, Kw4⟩
    have z9 := Kw4.size
    have lt10 := Fw4_0.lt
    have hb := fix_succ hm; clear hm; obtain ⟨n1, rfl, hm⟩ := hb
    generalize hrec1 : fixN (ref03_down_L1 x1) n1 = rec1 at hm
    unfold ref03_down_L1 at hm
    try dsimp only at hm
    refine sw_seq ?_
    refine sw_seq ?_
    -- region 3 ref.go:285
    refine sw_region [(0, 0), (1, 0), (2, 0), (3, 0)] rfl rfl rfl ?_
    refine sd_vv rfl rfl rfl (vv_move rfl) ?_
    refine sd_vv rfl rfl rfl (vv_move rfl) ?_
    have B11 := (Own.kz O3_r0_s Kw4 (tk1 ((pv_0 (A := (fun x => x ≠ b1)) f3_r0_s) : z3_r0_s = 0 ∨ g3_r0_s ≠ b1)))
    refine sd_vv rfl rfl rfl (vv_lenT (l := x1) (c := ic) Try.underlying61 rfl (Own.rd B11)) ?_
    refine sd_vv rfl rfl rfl (vv_lss (a := a4) (b := (x1.length : Int)) rfl rfl) ?_
    refine sd_done ?_
    refine sw_cond rfl (fun c1 => ?_) (fun c1 => ?_)
    ·
      replace hm := ite_t (of_decide_eq_true c1) hm
      refine sw_skip ?_
      refine then_n ?_
      refine sw_seq ?_
      refine sw_block ?_
      -- region 5 ref.go:286 DRAWS
      refine sw_drawN [([b1]), ([])] [(6, [1])] (.leaf [(0, 11), (1, 10), (2, 10), (3, 10), (4, 10), (5, 0), (6, 0)]) (by kernel_rfl) (by kernel_rfl) rfl (by kernel_rfl) ?_
      intro w5 Gw5 zw5
      refine sdz_leaf ?_
      have B12 := (Bx.gr Fw4_0 Gw5)
      refine dd_hn 1 rfl rfl rfl rfl (Kp.refl ([]) w5) (fun w hS => vv_loadW agg_26 rfl (Bx.kp B12 hS) rfl) ?_
      refine dd_hn 0 rfl rfl rfl rfl (Kp.refl ([b1]) w5) (fun w hS => vv_move rfl) ?_
      refine dd_hn 0 rfl rfl rfl rfl (Kp.refl ([b1]) w5) (fun w hS => vv_move rfl) ?_
      have hb := bnd hm; clear hm; obtain ⟨y6, hy6, hm⟩ := hb
      have B13 := (Own.gr B11 Gw5)
      refine dd_hn 0 rfl rfl rfl rfl (Kp.refl ([b1]) w5) (fun w hS => vv_ixT (i := a4) Try.underlying61 (one_3).siz rfl (Own.rd (Own.kp B13 hS (tk1 ((pv_0 (A := (fun x => x ≠ b1)) f3_r0_s) : z3_r0_s = 0 ∨ g3_r0_s ≠ b1)))) rfl hy6) ?_
      refine dd_hn 0 rfl rfl rfl rfl (Kp.refl ([b1]) w5) (fun w hS => vv_el1T (q := 0) (u := .int .i64 y6) one_3 rfl (Own.rd (Own.kp B13 hS (tk1 ((pv_0 (A := (fun x => x ≠ b1)) f3_r0_s) : z3_r0_s = 0 ∨ g3_r0_s ≠ b1)))) hy6 (by first | rfl | omega) rfl) ?_
      have hb := bnd hm; clear hm; obtain ⟨x7, hx7, hm⟩ := hb
      refine dd_z [] rfl rfl rfl (ev_call en_159 rfl (ref03_step_w a5 y6 _ hx7 _)) ⟨fun _ => tk0, fun _ => tk0, trivial⟩ ?_
      rintro _ w6 ⟨rfl, Gw6⟩
      have z14 := Gw6.size
      refine ⟨Kz.ofGr Gw6, ?_⟩
      have B15 := (Bx.gr B12 Gw6)
      refine dd_z [(1, b1)] rfl rfl rfl (ev_stM (cs' := kb x7) (vs := kb x7) (agg_26).siz rfl rfl rfl rfl rfl B15 rfl rfl) ⟨fun _ => tk0, nofun, trivial⟩ ?_
      rintro _ w7 ⟨Bw7, Mw7⟩
      have z16 := Mw7.size
      refine ⟨Kz.ofMd Mw7, ?_⟩
      refine sd_nil ?_
      refine block_n ?_
      refine then_n ?_
      -- region 4 ref.go:285
      refine sw_region [(0, 0), (1, 0), (2, 0)] rfl rfl rfl ?_
      refine sd_vv rfl rfl rfl (vv_move rfl) ?_
      refine sd_vv rfl rfl rfl (vv_add (k := .i64) (a := a4) (b := 1) rfl rfl) ?_
      refine sd_vv rfl rfl rfl (vv_assign rfl) ?_
      refine sd_nil ?_
      have K_17 : Kz [(1, b1)] w3 w7 := (Kz.md (Kz.gr (Kz.gr Kw4 Gw5) Gw6) Mw7)
      subst hrec1
      refine ⟨rfl, ⟨n1, w64 (a4 + 1), x7⟩, ?_, ⟨hm, Bw7, K_17⟩, Nat.lt_succ_self _⟩
      repeat' first | exact trivial | refine ⟨rfl, ?_⟩
    ·
      replace hm := ite_f (of_decide_eq_false c1) hm
      refine sw_exit ?_
      refine then_x ?_
      refine then_x ?_
      refine block_x ?_
      refine then_n ?_
      refine sw_seq ?_
      -- region 6 ref.go:288
      refine sw_region [(0, 0), (1, 0)] rfl rfl rfl ?_
      refine sd_vv rfl rfl rfl (vv_loadW agg_26 rfl Fw4_0 rfl) ?_
      have B18 := (Bx.kz (Bx.gr Bw2 Gw3) Kw4)
      refine sd_ev rfl rfl rfl (ev_stM (cs' := kb a5) (vs := kb a5) (agg_26).siz rfl rfl rfl rfl rfl B18 rfl rfl) ?_
      rintro _ w8 ⟨Bw8, Mw8⟩
      have z19 := Mw8.size
      refine sd_done ?_
      refine sw_ret ?_
      have X20 : Gr w w8 := (Gr.md (Gr.kz X7 Kw4) Mw8)
      have hr := Option.some.inj hm
      subst hr
      refine ⟨_, _, rfl, res_1 rfl (rv_cellW agg_26 rfl Bw8 rfl), ?_⟩
      exact ⟨rfl, X20⟩

set_option maxHeartbeats 2000000 in
theorem ref03_label_w (p0 : W2) (p1 : Int) (p2 : Int)  (r : W2) (hm : ref03_label p0 p1 p2 = some r) (w : World)   :
    Calls Try.prog 142 [kv p0, .int .i64 p1, .int .i64 p2].toArray w fun e w' => ∃ v, e = .returned v ∧ (v = kv r ∧ Gr w w') := by
  unfold ref03_label at hm
  refine calls_of_sw (R := fun v w' => v = kv r ∧ Gr w w') 14 Try.func142 rfl rfl rfl ?_
  refine sw_seq ?_
  -- region 0 ref.go:292
  refine sw_region [(0, 0), (1, 0)] rfl rfl rfl ?_
  refine sd_ev rfl rfl rfl (ev_box (cs := kb p0) rfl rfl) ?_
  rintro _ w1 ⟨b1, rfl, hbw1, Bw1, Gw1⟩
  have z1 := Gw1.size
  have lt2 := Bw1.lt
  refine sd_ev rfl rfl rfl (ev_alloc (cs := kb k0) zv_26 rfl) ?_
  rintro _ w2 ⟨b2, rfl, hbw2, Bw2, Gw2⟩
  have z3 := Gw2.size
  have lt4 := Bw2.lt
  refine sd_done ?_
  refine sw_seq ?_
  -- region 1 ref.go:293
  refine sw_region [(0, 0), (1, 0), (2, 0), (3, 0), (4, 0), (5, 0), (6, 0), (7, 0)] rfl rfl rfl ?_
  have B5 := (Bx.gr Bw1 Gw2)
  refine sd_vv rfl rfl rfl (vv_loadW agg_26 rfl B5 rfl) ?_
  refine sd_vv rfl rfl rfl (vv_move rfl) ?_
  refine sd_vv rfl rfl rfl (vv_cvIU cv_3_23 rfl) ?_
  refine sd_ev rfl rfl rfl (ev_call en_89 rfl (rderive_c p0 (un8 30#8) (un8_nn _) (un8_le _) (wd p1) _)) ?_
  rintro _ w3 ⟨rfl, Gw3⟩
  have z6 := Gw3.size
  refine sd_vv rfl rfl rfl (vv_move rfl) ?_
  refine sd_vv rfl rfl rfl (vv_move rfl) ?_
  have hb := bnd hm; clear hm; obtain ⟨x1, hx1, hm⟩ := hb
  refine sd_ev rfl rfl rfl (ev_call en_146 rfl (ref03_down_w (drv p0 (un8 30#8) (wd p1)) p1 p2 _ hx1 _)) ?_
  rintro _ w4 ⟨rfl, Gw4⟩
  have z7 := Gw4.size
  have B8 := (Bx.gr (Bx.gr Bw2 Gw3) Gw4)
  refine sd_ev rfl rfl rfl (ev_stM (cs' := kb x1) (vs := kb x1) (agg_26).siz rfl rfl rfl rfl rfl B8 rfl rfl) ?_
  rintro _ w5 ⟨Bw5, Mw5⟩
  have z9 := Mw5.size
  refine sd_done ?_
  refine sw_ret ?_
  have X10 : Gr w w5 := (Gr.md (Gr.trans (Gr.trans (Gr.trans (Gr.trans (Gr.refl w) Gw1) Gw2) Gw3) Gw4) Mw5)
  have hr := Option.some.inj hm
  subst hr
  refine ⟨_, _, rfl, res_1 rfl (rv_cellW agg_26 rfl Bw5 rfl), ?_⟩
  exact ⟨rfl, X10⟩

set_option maxHeartbeats 2000000 in
theorem ref03_KeyOf_w (p0 : W2) (p1 : TScheme) (p2 : TSubset)  (r : W2) (hm : ref03_KeyOf p0 p1 p2 = some r) (w : World)   :
    Calls Try.prog 91 [kv p0, .agg (TScheme.cs p1).toArray, .agg (TSubset.cs p2).toArray].toArray w fun e w' => ∃ v, e = .returned v ∧ (v = kv r ∧ Gr w w') := by
  unfold ref03_KeyOf at hm
  refine calls_of_sw (R := fun v w' => v = kv r ∧ Gr w w') 27 Try.func91 rfl rfl rfl ?_
  refine sw_seq ?_
  -- region 0 ref.go:297
  refine sw_region [(0, 0), (1, 0), (2, 0), (3, 0)] rfl rfl rfl ?_
  refine sd_ev rfl rfl rfl (ev_box (cs := kb p0) rfl rfl) ?_
  rintro _ w1 ⟨b1, rfl, hbw1, Bw1, Gw1⟩
  have z1 := Gw1.size
  have lt2 := Bw1.lt
  refine sd_ev rfl rfl rfl (ev_box (cs := TScheme.cs p1) rfl rfl) ?_
  rintro _ w2 ⟨b2, rfl, hbw2, Bw2, Gw2⟩
  have z3 := Gw2.size
  have lt4 := Bw2.lt
  refine sd_ev rfl rfl rfl (ev_box (cs := TSubset.cs p2) rfl rfl) ?_
  rintro _ w3 ⟨b3, rfl, hbw3, Bw3, Gw3⟩
  have z5 := Gw3.size
  have lt6 := Bw3.lt
  refine sd_ev rfl rfl rfl (ev_alloc (cs := kb k0) zv_26 rfl) ?_
  rintro _ w4 ⟨b4, rfl, hbw4, Bw4, Gw4⟩
  have z7 := Gw4.size
  have lt8 := Bw4.lt
  refine sd_done ?_
  refine sw_seq ?_
  refine sw_seq ?_
  -- region 1 ref.go:298
  refine sw_region [(0, 0), (1, 0), (2, 0)] rfl rfl rfl ?_
  refine sd_vv rfl rfl rfl (vv_fieldAddr fa_45_0 rfl) ?_
  have B9 := (Bx.gr (Bx.gr Bw2 Gw3) Gw4)
  refine sd_vv rfl rfl rfl (vv_load1 (v := bv p1.Kind) one_5 rfl B9 rfl) ?_
  refine sd_vv rfl rfl rfl (vv_eqlB (p := p1.Kind) (q := 1#8) rfl rfl) ?_
  refine sd_done ?_
  refine sw_cond rfl (fun c1 => ?_) (fun c1 => ?_)
  ·
    replace hm := ite_t (of_decide_eq_true c1) hm
    refine sw_seq ?_
    -- region 2 ref.go:299
    refine sw_region [(0, 0), (1, 0), (2, 0), (3, 0), (4, 0), (5, 0)] rfl rfl rfl ?_
    have B10 := (Bx.gr (Bx.gr (Bx.gr Bw1 Gw2) Gw3) Gw4)
    refine sd_vv rfl rfl rfl (vv_loadW agg_26 rfl B10 rfl) ?_
    refine sd_vv rfl rfl rfl (vv_fieldAddr fa_47_0 rfl) ?_
    have B11 := (Bx.gr Bw3 Gw4)
    refine sd_vv rfl rfl rfl (vv_load1 (v := .int .i64 p2.Node) one_3 rfl B11 rfl) ?_
    refine sd_vv rfl rfl rfl (vv_cvIU cv_3_23 rfl) ?_
    refine sd_ev rfl rfl rfl (ev_call en_89 rfl (rderive_c p0 (un8 30#8) (un8_nn _) (un8_le _) (wd p2.Node) _)) ?_
    rintro _ w5 ⟨rfl, Gw5⟩
    have z12 := Gw5.size
    have B13 := (Bx.gr Bw4 Gw5)
    refine sd_ev rfl rfl rfl (ev_stM (cs' := kb (drv p0 (un8 30#8) (wd p2.Node))) (vs := kb (drv p0 (un8 30#8) (wd p2.Node))) (agg_26).siz rfl rfl rfl rfl rfl B13 rfl rfl) ?_
    rintro _ w6 ⟨Bw6, Mw6⟩
    have z14 := Mw6.size
    refine sd_done ?_
    refine sw_ret ?_
    refine then_r ?_
    have X15 : Gr w w6 := (Gr.md (Gr.trans (Gr.trans (Gr.trans (Gr.trans (Gr.trans (Gr.refl w) Gw1) Gw2) Gw3) Gw4) Gw5) Mw6)
    have hr := Option.some.inj hm
    subst hr
    refine ⟨_, _, rfl, res_1 rfl (rv_cellW agg_26 rfl Bw6 rfl), ?_⟩
    exact ⟨rfl, X15⟩
  ·
    replace hm := ite_f (of_decide_eq_false c1) hm
    refine sw_skip ?_
    refine then_n ?_
    refine sw_seq ?_
    refine sw_seq ?_
    -- region 3 ref.go:301
    refine sw_region [(0, 0), (1, 0), (2, 0)] rfl rfl rfl ?_
    refine sd_vv rfl rfl rfl (vv_fieldAddr fa_47_1 rfl) ?_
    have B16 := (Bx.gr Bw3 Gw4)
    refine sd_vv rfl rfl rfl (vv_load1 (v := .int .i64 p2.Minus) one_3 rfl B16 rfl) ?_
    refine sd_vv rfl rfl rfl (vv_eql (a := p2.Minus) (b := 0) rfl rfl) ?_
    refine sd_done ?_
    refine sw_cond rfl (fun c2 => ?_) (fun c2 => ?_)
    ·
      replace hm := ite_t (of_decide_eq_true c2) hm
      refine sw_seq ?_
      -- region 4 ref.go:302
      refine sw_region [(0, 0), (1, 0), (2, 0)] rfl rfl rfl ?_
      have B17 := (Bx.gr (Bx.gr (Bx.gr Bw1 Gw2) Gw3) Gw4)
      refine sd_vv rfl rfl rfl (vv_loadW agg_26 rfl B17 rfl) ?_
      refine sd_ev rfl rfl rfl (ev_call en_89 rfl (rderive_c p0 (un8 34#8) (un8_nn _) (un8_le _) 0#64 _)) ?_
      rintro _ w7 ⟨rfl, Gw7⟩
      have z18 := Gw7.size
      have B19 := (Bx.gr Bw4 Gw7)
      refine sd_ev rfl rfl rfl (ev_stM (cs' := kb (drv p0 (un8 34#8) 0#64)) (vs := kb (drv p0 (un8 34#8) 0#64)) (agg_26).siz rfl rfl rfl rfl rfl B19 rfl rfl) ?_
      rintro _ w8 ⟨Bw8, Mw8⟩
      have z20 := Mw8.size
      refine sd_done ?_
      refine sw_ret ?_
      refine then_r ?_
      have X21 : Gr w w8 := (Gr.md (Gr.trans (Gr.trans (Gr.trans (Gr.trans (Gr.trans (Gr.refl w) Gw1) Gw2) Gw3) Gw4) Gw7) Mw8)
      have hr := Option.some.inj hm
      subst hr
      refine ⟨_, _, rfl, res_1 rfl (rv_cellW agg_26 rfl Bw8 rfl), ?_⟩
      exact ⟨rfl, X21⟩
    ·
      replace hm := ite_f (of_decide_eq_false c2) hm
      refine sw_skip ?_
      refine then_n ?_
      refine sw_seq ?_
      -- region 5 ref.go:304
      refine sw_region [(0, 0), (1, 0), (2, 0), (3, 0), (4, 0), (5, 0), (6, 0), (7, 0)] rfl rfl rfl ?_
      have B22 := (Bx.gr (Bx.gr (Bx.gr Bw1 Gw2) Gw3) Gw4)
      refine sd_vv rfl rfl rfl (vv_loadW agg_26 rfl B22 rfl) ?_
      refine sd_vv rfl rfl rfl (vv_fieldAddr fa_47_0 rfl) ?_
      refine sd_vv rfl rfl rfl (vv_load1 (v := .int .i64 p2.Node) one_3 rfl B16 rfl) ?_
      refine sd_vv rfl rfl rfl (vv_fieldAddr fa_47_1 rfl) ?_
      refine sd_vv rfl rfl rfl (vv_load1 (v := .int .i64 p2.Minus) one_3 rfl B16 rfl) ?_
      have hb := bnd hm; clear hm; obtain ⟨x1, hx1, hm⟩ := hb
      refine sd_ev rfl rfl rfl (ev_call en_142 rfl (ref03_label_w p0 p2.Node p2.Minus _ hx1 _)) ?_
      rintro _ w9 ⟨rfl, Gw9⟩
      have z23 := Gw9.size
      refine sd_ev rfl rfl rfl (ev_call en_89 rfl (rderive_c x1 (un8 33#8) (un8_nn _) (un8_le _) 0#64 _)) ?_
      rintro _ w10 ⟨rfl, Gw10⟩
      have z24 := Gw10.size
      have B25 := (Bx.gr (Bx.gr Bw4 Gw9) Gw10)
      refine sd_ev rfl rfl rfl (ev_stM (cs' := kb (drv x1 (un8 33#8) 0#64)) (vs := kb (drv x1 (un8 33#8) 0#64)) (agg_26).siz rfl rfl rfl rfl rfl B25 rfl rfl) ?_
      rintro _ w11 ⟨Bw11, Mw11⟩
      have z26 := Mw11.size
      refine sd_done ?_
      refine sw_ret ?_
      have X27 : Gr w w11 := (Gr.md (Gr.trans (Gr.trans (Gr.trans (Gr.trans (Gr.trans (Gr.trans (Gr.refl w) Gw1) Gw2) Gw3) Gw4) Gw9) Gw10) Mw11)
      have hr := Option.some.inj hm
      subst hr
      refine ⟨_, _, rfl, res_1 rfl (rv_cellW agg_26 rfl Bw11 rfl), ?_⟩
      exact ⟨rfl, X27⟩

set_option maxHeartbeats 2000000 in
theorem ref03_SubsetKey_w (p0 : W2) (p1 : TScheme) (p2 : TSubset)  (r : W2 × Int) (hm : ref03_SubsetKey p0 p1 p2 = some r) (w : World)   :
    Calls Try.prog 47 [kv p0, .agg (TScheme.cs p1).toArray, .agg (TSubset.cs p2).toArray].toArray w fun e w' => ∃ v, e = .returned v ∧ (v = .tuple [kv r.1, .int .i64 r.2].toArray ∧ Gr w w') := by
  unfold ref03_SubsetKey at hm
  refine calls_of_sw (R := fun v w' => v = .tuple [kv r.1, .int .i64 r.2].toArray ∧ Gr w w') 21 Try.func47 rfl rfl rfl ?_
  refine sw_seq ?_
  -- region 0 ref.go:366
  refine sw_region [(0, 0), (1, 0), (2, 0), (3, 0), (4, 0)] rfl rfl rfl ?_
  refine sd_ev rfl rfl rfl (ev_box (cs := kb p0) rfl rfl) ?_
  rintro _ w1 ⟨b1, rfl, hbw1, Bw1, Gw1⟩
  have z1 := Gw1.size
  have lt2 := Bw1.lt
  refine sd_ev rfl rfl rfl (ev_box (cs := TScheme.cs p1) rfl rfl) ?_
  rintro _ w2 ⟨b2, rfl, hbw2, Bw2, Gw2⟩
  have z3 := Gw2.size
  have lt4 := Bw2.lt
  refine sd_ev rfl rfl rfl (ev_box (cs := TSubset.cs p2) rfl rfl) ?_
  rintro _ w3 ⟨b3, rfl, hbw3, Bw3, Gw3⟩
  have z5 := Gw3.size
  have lt6 := Bw3.lt
  refine sd_ev rfl rfl rfl (ev_alloc (cs := kb k0) zv_26 rfl) ?_
  rintro _ w4 ⟨b4, rfl, hbw4, Bw4, Gw4⟩
  have z7 := Gw4.size
  have lt8 := Bw4.lt
  refine sd_vv rfl rfl rfl (vv_assign rfl) ?_
  refine sd_done ?_
  refine sw_seq ?_
  refine sw_seq ?_
  -- region 1 ref.go:367
  refine sw_region [(0, 0), (1, 0), (2, 0)] rfl rfl rfl ?_
  have B9 := (Bx.gr (Bx.gr Bw2 Gw3) Gw4)
  refine sd_vv rfl rfl rfl (vv_loadW agg_45 rfl B9 rfl) ?_
  have hb := bnd hm; clear hm; obtain ⟨x1, hx1, hm⟩ := hb
  refine sd_ev rfl rfl rfl (ev_call en_59 rfl (ref03_Valid_w p1 _ hx1 _)) ?_
  rintro _ w5 ⟨rfl, Gw5⟩
  have z10 := Gw5.size
  refine sd_vv rfl rfl rfl (vv_not rfl) ?_
  refine sd_done ?_
  refine sw_cond rfl (fun c1 => ?_) (fun c1 => ?_)
  ·
    replace hm := cnd_t c1 hm
    refine sw_seq ?_
    -- region 2 ref.go:368
    refine sw_region [(0, 0), (1, 0), (2, 0)] rfl rfl rfl ?_
    refine sd_vv rfl rfl rfl (vv_buildZ bz_26) ?_
    have B11 := (Bx.gr Bw4 Gw5)
    refine sd_ev rfl rfl rfl (ev_stM (cs' := kb k0) (vs := kb k0) (agg_26).siz rfl rfl rfl rfl rfl B11 rfl rfl) ?_
    rintro _ w6 ⟨Bw6, Mw6⟩
    have z12 := Mw6.size
    refine sd_vv rfl rfl rfl (vv_assign rfl) ?_
    refine sd_done ?_
    refine sw_ret ?_
    refine then_r ?_
    have X13 : Gr w w6 := (Gr.md (Gr.trans (Gr.trans (Gr.trans (Gr.trans (Gr.trans (Gr.refl w) Gw1) Gw2) Gw3) Gw4) Gw5) Mw6)
    have hr := Option.some.inj hm
    subst hr
    refine ⟨_, _, rfl, res_2 rfl (rv_cellW agg_26 rfl Bw6 rfl) (rv_tmp rfl), ?_⟩
    exact ⟨rfl, X13⟩
  ·
    replace hm := cnd_f c1 hm
    refine sw_skip ?_
    refine then_n ?_
    refine sw_seq ?_
    refine sw_seq ?_
    -- region 3 ref.go:370
    refine sw_region [(0, 0), (1, 0), (2, 0), (3, 0)] rfl rfl rfl ?_
    have B14 := (Bx.gr B9 Gw5)
    refine sd_vv rfl rfl rfl (vv_loadW agg_45 rfl B14 rfl) ?_
    have B15 := (Bx.gr (Bx.gr Bw3 Gw4) Gw5)
    refine sd_vv rfl rfl rfl (vv_loadW agg_47 rfl B15 rfl) ?_
    have hb := bnd hm; clear hm; obtain ⟨x2, hx2, hm⟩ := hb
    refine sd_ev rfl rfl rfl (ev_call en_62 rfl (ref03_IsSubset_w p1 p2 _ hx2 _)) ?_
    rintro _ w7 ⟨rfl, Gw7⟩
    have z16 := Gw7.size
    refine sd_vv rfl rfl rfl (vv_not rfl) ?_
    refine sd_done ?_
    refine sw_cond rfl (fun c2 => ?_) (fun c2 => ?_)
    ·
      replace hm := cnd_t c2 hm
      refine sw_seq ?_
      -- region 4 ref.go:371
      refine sw_region [(0, 0), (1, 0), (2, 0)] rfl rfl rfl ?_
      refine sd_vv rfl rfl rfl (vv_buildZ bz_26) ?_
      have B17 := (Bx.gr (Bx.gr Bw4 Gw5) Gw7)
      refine sd_ev rfl rfl rfl (ev_stM (cs' := kb k0) (vs := kb k0) (agg_26).siz rfl rfl rfl rfl rfl B17 rfl rfl) ?_
      rintro _ w8 ⟨Bw8, Mw8⟩
      have z18 := Mw8.size
      refine sd_vv rfl rfl rfl (vv_assign rfl) ?_
      refine sd_done ?_
      refine sw_ret ?_
      refine then_r ?_
      have X19 : Gr w w8 := (Gr.md (Gr.trans (Gr.trans (Gr.trans (Gr.trans (Gr.trans (Gr.trans (Gr.refl w) Gw1) Gw2) Gw3) Gw4) Gw5) Gw7) Mw8)
      have hr := Option.some.inj hm
      subst hr
      refine ⟨_, _, rfl, res_2 rfl (rv_cellW agg_26 rfl Bw8 rfl) (rv_tmp rfl), ?_⟩
      exact ⟨rfl, X19⟩
    ·
      replace hm := cnd_f c2 hm
      refine sw_skip ?_
      refine then_n ?_
      refine sw_seq ?_
      -- region 5 ref.go:373
      refine sw_region [(0, 0), (1, 0), (2, 0), (3, 0), (4, 0), (5, 0)] rfl rfl rfl ?_
      have B20 := (Bx.gr (Bx.gr (Bx.gr (Bx.gr (Bx.gr Bw1 Gw2) Gw3) Gw4) Gw5) Gw7)
      refine sd_vv rfl rfl rfl (vv_loadW agg_26 rfl B20 rfl) ?_
      have B21 := (Bx.gr B14 Gw7)
      refine sd_vv rfl rfl rfl (vv_loadW agg_45 rfl B21 rfl) ?_
      have B22 := (Bx.gr B15 Gw7)
      refine sd_vv rfl rfl rfl (vv_loadW agg_47 rfl B22 rfl) ?_
      have hb := bnd hm; clear hm; obtain ⟨x3, hx3, hm⟩ := hb
      refine sd_ev rfl rfl rfl (ev_call en_91 rfl (ref03_KeyOf_w p0 p1 p2 _ hx3 _)) ?_
      rintro _ w9 ⟨rfl, Gw9⟩
      have z23 := Gw9.size
      have B24 := (Bx.gr (Bx.gr (Bx.gr Bw4 Gw5) Gw7) Gw9)
      refine sd_ev rfl rfl rfl (ev_stM (cs' := kb x3) (vs := kb x3) (agg_26).siz rfl rfl rfl rfl rfl B24 rfl rfl) ?_
      rintro _ w10 ⟨Bw10, Mw10⟩
      have z25 := Mw10.size
      refine sd_vv rfl rfl rfl (vv_assign rfl) ?_
      refine sd_done ?_
      refine sw_ret ?_
      have X26 : Gr w w10 := (Gr.md (Gr.trans (Gr.trans (Gr.trans (Gr.trans (Gr.trans (Gr.trans (Gr.trans (Gr.refl w) Gw1) Gw2) Gw3) Gw4) Gw5) Gw7) Gw9) Mw10)
      have hr := Option.some.inj hm
      subst hr
      refine ⟨_, _, rfl, res_2 rfl (rv_cellW agg_26 rfl Bw10 rfl) (rv_tmp rfl), ?_⟩
      exact ⟨rfl, X26⟩

set_option maxHeartbeats 2000000 in
theorem ref03_leads_w (p0 : TScheme) (p1 : Int) (p2 : Int) (p3 : TSubset)  (r : Bool) (hm : ref03_leads p0 p1 p2 p3 = some r) (w : World)   :
    Calls Try.prog 145 [.agg (TScheme.cs p0).toArray, .int .i64 p1, .int .i64 p2, .agg (TSubset.cs p3).toArray].toArray w fun e w' => ∃ v, e = .returned v ∧ (v = .bool r ∧ Gr w w') := by
  unfold ref03_leads at hm
  refine calls_of_sw (R := fun v w' => v = .bool r ∧ Gr w w') 46 Try.func145 rfl rfl rfl ?_
  refine sw_seq ?_
  -- region 0 ref.go:377
  refine sw_region [(0, 0), (1, 0), (2, 0)] rfl rfl rfl ?_
  refine sd_ev rfl rfl rfl (ev_box (cs := TScheme.cs p0) rfl rfl) ?_
  rintro _ w1 ⟨b1, rfl, hbw1, Bw1, Gw1⟩
  have z1 := Gw1.size
  have lt2 := Bw1.lt
  refine sd_ev rfl rfl rfl (ev_box (cs := TSubset.cs p3) rfl rfl) ?_
  rintro _ w2 ⟨b2, rfl, hbw2, Bw2, Gw2⟩
  have z3 := Gw2.size
  have lt4 := Bw2.lt
  refine sd_vv rfl rfl rfl (vv_assign rfl) ?_
  refine sd_done ?_
  refine sw_seq ?_
  have X5 : Gr w w2 := (Gr.trans (Gr.trans (Gr.refl w) Gw1) Gw2)
  refine sw_joinD (β := Bool) [9, 10, 11, 12, 13, 14, 15, 16] (fun a1 => [(16, .bool a1)]) (fun a1 wr => (ref03_leads_J1 p1 p2 p3 a1 = some r) ∧ Kz [] w2 wr) ?_ ?_
  · clear hm; rintro a1 w3 ⟨hm, Kw3⟩
    have z6 := Kw3.size
    unfold ref03_leads_J1 at hm
    refine sw_cond rfl (fun c1 => ?_) (fun c1 => ?_)
    ·
      replace hm := cnd_t c1 hm
      refine sw_seq ?_
      -- region 2 ref.go:379
      refine sw_region [(0, 0), (1, 0), (2, 0), (3, 0), (4, 0), (5, 0), (6, 0), (7, 0), (8, 0), (9, 0), (10, 0)] rfl rfl rfl ?_
      refine sd_vv rfl rfl rfl (vv_move rfl) ?_
      refine sd_vv rfl rfl rfl (vv_fieldAddr fa_47_0 rfl) ?_
      have B7 := (Bx.kz Bw2 Kw3)
      refine sd_vv rfl rfl rfl (vv_load1 (v := .int .i64 p3.Node) one_3 rfl B7 rfl) ?_
      refine sd_vv rfl rfl rfl (vv_eql (a := p1) (b := p3.Node) rfl rfl) ?_
      refine sd_split rfl rfl rfl (vv_move rfl) (fun c2 => ?_) (fun c2 => ?_)
      ·
        replace hm := ite_t (of_decide_eq_true c2) hm
        refine sd_vv rfl rfl rfl (vv_move rfl) ?_
        refine sd_vv rfl rfl rfl (vv_fieldAddr fa_47_1 rfl) ?_
        refine sd_vv rfl rfl rfl (vv_load1 (v := .int .i64 p3.Minus) one_3 rfl B7 rfl) ?_
        refine sd_vv rfl rfl rfl (vv_eql (a := p2) (b := p3.Minus) rfl rfl) ?_
        refine sd_vv rfl rfl rfl (vv_pickT rfl rfl) ?_
        refine sd_vv rfl rfl rfl (vv_assign rfl) ?_
        refine sd_done ?_
        refine sw_ret ?_
        refine then_r ?_
        have X8 : Gr w w3 := (Gr.kz X5 Kw3)
        have hr := Option.some.inj hm
        subst hr
        refine ⟨_, _, rfl, res_1 rfl (rv_tmp rfl), ?_⟩
        exact ⟨rfl, X8⟩
      ·
        replace hm := ite_f (of_decide_eq_false c2) hm
        refine sd_skip rfl rfl rfl ?_
        refine sd_skip rfl rfl rfl ?_
        refine sd_skip rfl rfl rfl ?_
        refine sd_skip rfl rfl rfl ?_
        refine sd_vv rfl rfl rfl (vv_pickF rfl rfl) ?_
        refine sd_vv rfl rfl rfl (vv_assign rfl) ?_
        refine sd_done ?_
        refine sw_ret ?_
        refine then_r ?_
        have X9 : Gr w w3 := (Gr.kz X5 Kw3)
        have hr := Option.some.inj hm
        subst hr
        refine ⟨_, _, rfl, res_1 rfl (rv_tmp rfl), ?_⟩
        exact ⟨rfl, X9⟩
    ·
      replace hm := cnd_f c1 hm
      refine sw_skip ?_
      refine then_n ?_
      refine sw_seq ?_
      -- region 3 ref.go:381
      refine sw_region [(0, 0), (1, 0), (2, 0), (3, 0), (4, 0), (5, 0), (6, 0), (7, 0), (8, 0), (9, 0), (10, 0), (11, 0), (12, 0), (13, 0), (14, 0), (15, 0), (16, 0), (17, 0), (18, 0), (19, 0)] rfl rfl rfl ?_
      refine sd_vv rfl rfl rfl (vv_move rfl) ?_
      refine sd_vv rfl rfl rfl (vv_fieldAddr fa_47_0 rfl) ?_
      have B10 := (Bx.kz Bw2 Kw3)
      refine sd_vv rfl rfl rfl (vv_load1 (v := .int .i64 p3.Node) one_3 rfl B10 rfl) ?_
      refine sd_vv rfl rfl rfl (vv_eql (a := p1) (b := p3.Node) rfl rfl) ?_
      refine sd_split rfl rfl rfl (vv_move rfl) (fun c3 => ?_) (fun c3 => ?_)
      ·
        replace hm := ite_t (of_decide_eq_true c3) hm
        refine sd_vv rfl rfl rfl (vv_move rfl) ?_
        refine sd_vv rfl rfl rfl (vv_geq (a := p2) (b := 1) rfl rfl) ?_
        refine sd_vv rfl rfl rfl (vv_pickT rfl rfl) ?_
        refine sd_split rfl rfl rfl (vv_move rfl) (fun c4 => ?_) (fun c4 => ?_)
        ·
          replace hm := ite_t (of_decide_eq_true c4) hm
          refine sd_vv rfl rfl rfl (vv_move rfl) ?_
          refine sd_vv rfl rfl rfl (vv_move rfl) ?_
          have hb := bnd hm; clear hm; obtain ⟨x2, hx2, hm⟩ := hb
          refine sd_ev rfl rfl rfl (ev_call en_60 rfl (ref03_Below_w p2 p1 _ hx2 _)) ?_
          rintro _ w4 ⟨rfl, Gw4⟩
          have z11 := Gw4.size
          refine sd_vv rfl rfl rfl (vv_pickT rfl rfl) ?_
          refine sd_split rfl rfl rfl (vv_move rfl) (fun c5 => ?_) (fun c5 => ?_)
          ·
            replace hm := cnd_t c5 hm
            refine sd_vv rfl rfl rfl (vv_fieldAddr fa_47_1 rfl) ?_
            have B12 := (Bx.gr B10 Gw4)
            refine sd_vv rfl rfl rfl (vv_load1 (v := .int .i64 p3.Minus) one_3 rfl B12 rfl) ?_
            refine sd_vv rfl rfl rfl (vv_move rfl) ?_
            have hb := bnd hm; clear hm; obtain ⟨x3, hx3, hm⟩ := hb
            refine sd_ev rfl rfl rfl (ev_call en_60 rfl (ref03_Below_w p3.Minus p2 _ hx3 _)) ?_
            rintro _ w5 ⟨rfl, Gw5⟩
            have z13 := Gw5.size
            refine sd_vv rfl rfl rfl (vv_pickT rfl rfl) ?_
            refine sd_vv rfl rfl rfl (vv_assign rfl) ?_
            refine sd_done ?_
            refine sw_ret ?_
            have X14 : Gr w w5 := (Gr.trans (Gr.trans (Gr.kz X5 Kw3) Gw4) Gw5)
            have hr := Option.some.inj hm
            subst hr
            refine ⟨_, _, rfl, res_1 rfl (rv_tmp rfl), ?_⟩
            exact ⟨rfl, X14⟩
          ·
            replace hm := cnd_f c5 hm
            refine sd_skip rfl rfl rfl ?_
            refine sd_skip rfl rfl rfl ?_
            refine sd_skip rfl rfl rfl ?_
            refine sd_skip rfl rfl rfl ?_
            refine sd_vv rfl rfl rfl (vv_pickF rfl rfl) ?_
            refine sd_vv rfl rfl rfl (vv_assign rfl) ?_
            refine sd_done ?_
            refine sw_ret ?_
            have X15 : Gr w w4 := (Gr.trans (Gr.kz X5 Kw3) Gw4)
            have hr := Option.some.inj hm
            subst hr
            refine ⟨_, _, rfl, res_1 rfl (rv_tmp rfl), ?_⟩
            exact ⟨rfl, X15⟩
        ·
          replace hm := ite_f (of_decide_eq_false c4) hm
          refine sd_skip rfl rfl rfl ?_
          refine sd_skip rfl rfl rfl ?_
          refine sd_skip rfl rfl rfl ?_
          refine sd_vv rfl rfl rfl (vv_pickF rfl rfl) ?_
          refine sd_vv rfl rfl rfl (vv_move rfl) ?_
          refine sd_skip rfl rfl rfl ?_
          refine sd_skip rfl rfl rfl ?_
          refine sd_skip rfl rfl rfl ?_
          refine sd_skip rfl rfl rfl ?_
          refine sd_vv rfl rfl rfl (vv_pickF rfl rfl) ?_
          refine sd_vv rfl rfl rfl (vv_assign rfl) ?_
          refine sd_done ?_
          refine sw_ret ?_
          have X16 : Gr w w3 := (Gr.kz X5 Kw3)
          have hr := Option.some.inj hm
          subst hr
          refine ⟨_, _, rfl, res_1 rfl (rv_tmp rfl), ?_⟩
          exact ⟨rfl, X16⟩
      ·
        replace hm := ite_f (of_decide_eq_false c3) hm
        refine sd_skip rfl rfl rfl ?_
        refine sd_skip rfl rfl rfl ?_
        refine sd_vv rfl rfl rfl (vv_pickF rfl rfl) ?_
        refine sd_vv rfl rfl rfl (vv_move rfl) ?_
        refine sd_skip rfl rfl rfl ?_
        refine sd_skip rfl rfl rfl ?_
        refine sd_skip rfl rfl rfl ?_
        refine sd_vv rfl rfl rfl (vv_pickF rfl rfl) ?_
        refine sd_vv rfl rfl rfl (vv_move rfl) ?_
        refine sd_skip rfl rfl rfl ?_
        refine sd_skip rfl rfl rfl ?_
        refine sd_skip rfl rfl rfl ?_
        refine sd_skip rfl rfl rfl ?_
        refine sd_vv rfl rfl rfl (vv_pickF rfl rfl) ?_
        refine sd_vv rfl rfl rfl (vv_assign rfl) ?_
        refine sd_done ?_
        refine sw_ret ?_
        have X17 : Gr w w3 := (Gr.kz X5 Kw3)
        have hr := Option.some.inj hm
        subst hr
        refine ⟨_, _, rfl, res_1 rfl (rv_tmp rfl), ?_⟩
        exact ⟨rfl, X17⟩
  ·
    -- region 1 ref.go:378
    refine sw_region [(0, 0), (1, 0), (2, 0), (3, 0), (4, 0), (5, 0), (6, 0), (7, 0)] rfl rfl rfl ?_
    refine sd_vv rfl rfl rfl (vv_fieldAddr fa_45_0 rfl) ?_
    have B18 := (Bx.gr Bw1 Gw2)
    refine sd_vv rfl rfl rfl (vv_load1 (v := bv p0.Kind) one_5 rfl B18 rfl) ?_
    refine sd_vv rfl rfl rfl (vv_eqlB (p := p0.Kind) (q := 1#8) rfl rfl) ?_
    refine sd_split rfl rfl rfl (vv_move rfl) (fun c6 => ?_) (fun c6 => ?_)
    ·
      replace hm := ite_t (of_decide_eq_true c6) hm
      refine sd_skip rfl rfl rfl ?_
      refine sd_skip rfl rfl rfl ?_
      refine sd_skip rfl rfl rfl ?_
      refine sd_vv rfl rfl rfl (vv_pickT rfl rfl) ?_
      refine sd_nil ?_
      have K_19 : Kz [] w2 w2 := (Kz.refl _ _)
      refine ⟨rfl, true, ?_, hm, K_19⟩
      repeat' first | exact trivial | refine ⟨rfl, ?_⟩
    ·
      replace hm := ite_f (of_decide_eq_false c6) hm
      refine sd_vv rfl rfl rfl (vv_fieldAddr fa_47_1 rfl) ?_
      refine sd_vv rfl rfl rfl (vv_load1 (v := .int .i64 p3.Minus) one_3 rfl Bw2 rfl) ?_
      refine sd_vv rfl rfl rfl (vv_eql (a := p3.Minus) (b := 0) rfl rfl) ?_
      refine sd_vv rfl rfl rfl (vv_pickF rfl rfl) ?_
      refine sd_nil ?_
      have K_20 : Kz [] w2 w2 := (Kz.refl _ _)
      refine ⟨rfl, (decide (p3.Minus = 0)), ?_, hm, K_20⟩
      repeat' first | exact trivial | refine ⟨rfl, ?_⟩

set_option maxHeartbeats 2000000 in
theorem ref03_Leads_w (p0 : TScheme) (p1 : TSecret) (p2 : TSubset) (vp1_1 : Value) (zp1_1 gp1_1 op1_1 : Nat) (r : W2 × Bool) (hm : ref03_Leads p0 p1 p2 = some r) (w : World) (hp1_1 : Rd w zp1_1 gp1_1 op1_1 18 vp1_1 (p1.Labels.map TLabel.cs))  :
    Calls Try.prog 102 [.agg (TScheme.cs p0).toArray, .agg (TSecret.cs p1 vp1_1).toArray, .agg (TSubset.cs p2).toArray].toArray w fun e w' => ∃ v, e = .returned v ∧ (v = .tuple [kv r.1, .bool r.2].toArray ∧ Gr w w') := by
  have lt1 := hp1_1.lth
  unfold ref03_Leads at hm
  refine calls_of_sw (R := fun v w' => v = .tuple [kv r.1, .bool r.2].toArray ∧ Gr w w') 49 Try.func102 rfl rfl rfl ?_
  refine sw_seq ?_
  -- region 0 ref.go:385
  refine sw_region [(0, 0), (1, 0), (2, 0), (3, 0), (4, 0)] rfl rfl rfl ?_
  refine sd_ev rfl rfl rfl (ev_box (cs := TScheme.cs p0) rfl rfl) ?_
  rintro _ w1 ⟨b1, rfl, hbw1, Bw1, Gw1⟩
  have z2 := Gw1.size
  have lt3 := Bw1.lt
  refine sd_ev rfl rfl rfl (ev_box (cs := TSecret.cs p1 vp1_1) rfl rfl) ?_
  rintro _ w2 ⟨b2, rfl, hbw2, Bw2, Gw2⟩
  have z4 := Gw2.size
  have lt5 := Bw2.lt
  refine sd_ev rfl rfl rfl (ev_box (cs := TSubset.cs p2) rfl rfl) ?_
  rintro _ w3 ⟨b3, rfl, hbw3, Bw3, Gw3⟩
  have z6 := Gw3.size
  have lt7 := Bw3.lt
  refine sd_ev rfl rfl rfl (ev_alloc (cs := kb k0) zv_26 rfl) ?_
  rintro _ w4 ⟨b4, rfl, hbw4, Bw4, Gw4⟩
  have z8 := Gw4.size
  have lt9 := Bw4.lt
  refine sd_vv rfl rfl rfl (vv_assign rfl) ?_
  refine sd_done ?_
  refine sw_seq ?_
  refine sw_seq ?_
  -- region 1 ref.go:386
  refine sw_region [(0, 0)] rfl rfl rfl ?_
  refine sd_vv rfl rfl rfl (vv_assign rfl) ?_
  refine sd_done ?_
  refine sw_block ?_
  have X10 : Gr w w4 := (Gr.trans (Gr.trans (Gr.trans (Gr.trans (Gr.refl w) Gw1) Gw2) Gw3) Gw4)
  have B11 := (Rd.gr (Rd.gr (Rd.gr (Rd.gr hp1_1 Gw1) Gw2) Gw3) Gw4)
  refine sw_loopD (α := Nat × Int) [7, 8, 9, 10, 11, 12, 13, 14, 15, 16, 17, 18, 19, 20, 21, 22, 23, 24, 25, 26, 27, 28, 29, 30, 31, 32, 33, 34, 35, 36, 37, 38, 39, 40, 41, 42, 43, 44, 45, 46, 47] (fun ⟨n1, a2⟩ => [(7, .bool false), (8, .int .i64 a2)]) (fun ⟨n1, a2⟩ wr => (fixN (ref03_Leads_L1 p0 p1 p2) n1 a2 = some r) ∧ Kz [] w4 wr) (fun ⟨n1, a2⟩ => n1) ⟨FUEL, 0⟩ ?_ ?_ ?_
  · repeat' first | exact trivial | refine ⟨rfl, ?_⟩
  · exact ⟨hm, Kz.refl _ _⟩
  · clear hm; rintro ⟨n1, a2⟩ w5 ⟨hm, Kw5⟩
    have z12 := Kw5.size
    have hb := fix_succ hm; clear hm; obtain ⟨n1, rfl, hm⟩ := hb
    generalize hrec1 : fixN (ref03_Leads_L1 p0 p1 p2) n1 = rec1 at hm
    unfold ref03_Leads_L1 at hm
    try dsimp only at hm
    refine sw_seq ?_
    refine sw_seq ?_
    -- region 2 ref.go:386
    refine sw_region [(0, 0), (1, 0), (2, 0), (3, 0), (4, 0)] rfl rfl rfl ?_
    refine sd_vv rfl rfl rfl (vv_move rfl) ?_
    refine sd_vv rfl rfl rfl (vv_fieldAddr fa_74_1 rfl) ?_
    have B13 := (Bx.kz (Bx.gr (Bx.gr Bw2 Gw3) Gw4) Kw5)
    refine sd_vv rfl rfl rfl (vv_load1 (v := vp1_1) one_70 rfl B13 rfl) ?_
    have B14 := (Rd.kz B11 Kw5)
    refine sd_vv rfl rfl rfl (vv_lenT (l := p1.Labels) (c := TLabel.cs) Try.underlying70 rfl B14) ?_
    refine sd_vv rfl rfl rfl (vv_lss (a := a2) (b := (p1.Labels.length : Int)) rfl rfl) ?_
    refine sd_done ?_
    refine sw_cond rfl (fun c1 => ?_) (fun c1 => ?_)
    ·
      replace hm := ite_t (of_decide_eq_true c1) hm
      refine sw_skip ?_
      refine then_n ?_
      refine sw_seq ?_
      refine sw_block ?_
      refine sw_seq ?_
      -- region 4 ref.go:387
      refine sw_region [(0, 0), (1, 0), (2, 0), (3, 0), (4, 0), (5, 0), (6, 0)] rfl rfl rfl ?_
      refine sd_vv rfl rfl rfl (vv_fieldAddr fa_74_1 rfl) ?_
      refine sd_vv rfl rfl rfl (vv_load1 (v := vp1_1) one_70 rfl B13 rfl) ?_
      refine sd_vv rfl rfl rfl (vv_move rfl) ?_
      have hb := bnd hm; clear hm; obtain ⟨y3, hy3, hm⟩ := hb
      refine sd_vv rfl rfl rfl (vv_ixT (i := a2) Try.underlying70 (agg_81).siz rfl B14 rfl hy3) ?_
      refine sd_vv rfl rfl rfl (vv_elWT agg_81 rfl B14 hy3 (by first | rfl | omega)) ?_
      refine sd_ev rfl rfl rfl (ev_alloc (cs := TLabel.cs (TLabel.mk 0 0 k0)) zv_81 rfl) ?_
      rintro _ w6 ⟨b6, rfl, hbw6, Bw6, Gw6⟩
      have z15 := Gw6.size
      have lt16 := Bw6.lt
      refine sd_ev rfl rfl rfl (ev_stM (cs' := TLabel.cs y3) (vs := TLabel.cs y3) (agg_81).siz rfl rfl rfl rfl rfl Bw6 rfl rfl) ?_
      rintro _ w7 ⟨Bw7, Mw7⟩
      have z17 := Mw7.size
      refine sd_done ?_
      refine sw_seq ?_
      refine sw_seq ?_
      -- region 5 ref.go:388
      refine sw_region [(0, 0), (1, 0), (2, 0), (3, 0), (4, 0), (5, 0), (6, 0), (7, 0)] rfl rfl rfl ?_
      have B18 := (Bx.md (Bx.gr (Bx.kz (Bx.gr (Bx.gr (Bx.gr Bw1 Gw2) Gw3) Gw4) Kw5) Gw6) Mw7)
      refine sd_vv rfl rfl rfl (vv_loadW agg_45 rfl B18 rfl) ?_
      refine sd_vv rfl rfl rfl (vv_fieldAddr fa_81_0 rfl) ?_
      refine sd_vv rfl rfl rfl (vv_load1 (v := .int .i64 y3.Node) one_3 rfl Bw7 rfl) ?_
      refine sd_vv rfl rfl rfl (vv_fieldAddr fa_81_1 rfl) ?_
      refine sd_vv rfl rfl rfl (vv_load1 (v := .int .i64 y3.Minus) one_3 rfl Bw7 rfl) ?_
      have B19 := (Bx.md (Bx.gr (Bx.kz (Bx.gr Bw3 Gw4) Kw5) Gw6) Mw7)
      refine sd_vv rfl rfl rfl (vv_loadW agg_47 rfl B19 rfl) ?_
      have hb := bnd hm; clear hm; obtain ⟨x4, hx4, hm⟩ := hb
      refine sd_ev rfl rfl rfl (ev_call en_145 rfl (ref03_leads_w p0 y3.Node y3.Minus p2 _ hx4 _)) ?_
      rintro _ w8 ⟨rfl, Gw8⟩
      have z20 := Gw8.size
      refine sd_vv rfl rfl rfl (vv_not rfl) ?_
      refine sd_done ?_
      refine sw_cond rfl (fun c2 => ?_) (fun c2 => ?_)
      ·
        replace hm := cnd_t c2 hm
        refine sw_exit ?_
        refine then_x ?_
        refine block_x ?_
        refine then_n ?_
        -- region 3 ref.go:386
        refine sw_region [(0, 0), (1, 0), (2, 0)] rfl rfl rfl ?_
        refine sd_vv rfl rfl rfl (vv_move rfl) ?_
        refine sd_vv rfl rfl rfl (vv_add (k := .i64) (a := a2) (b := 1) rfl rfl) ?_
        refine sd_vv rfl rfl rfl (vv_assign rfl) ?_
        refine sd_nil ?_
        have K_21 : Kz [] w4 w8 := (Kz.gr (Kz.md (Kz.gr Kw5 Gw6) Mw7) Gw8)
        subst hrec1
        refine ⟨rfl, ⟨n1, w64 (a2 + 1)⟩, ?_, ⟨hm, K_21⟩, Nat.lt_succ_self _⟩
        repeat' first | exact trivial | refine ⟨rfl, ?_⟩
      ·
        replace hm := cnd_f c2 hm
        refine sw_skip ?_
        refine then_n ?_
        refine sw_seq ?_
        have X22 : Gr w w8 := (Gr.trans (Gr.md (Gr.trans (Gr.kz X10 Kw5) Gw6) Mw7) Gw8)
        refine sw_joinD (β := Bool) [30, 31, 32, 33, 34, 35, 36, 37] (fun a5 => [(37, .bool a5)]) (fun a5 wr => (ref03_Leads_J2 p2 y3 a5 = some r) ∧ Kz [] w8 wr) ?_ ?_
        · clear hm; rintro a5 w9 ⟨hm, Kw9⟩
          have z23 := Kw9.size
          unfold ref03_Leads_J2 at hm
          refine sw_cond rfl (fun c3 => ?_) (fun c3 => ?_)
          ·
            replace hm := cnd_t c3 hm
            refine sw_seq ?_
            -- region 7 ref.go:392
            refine sw_region [(0, 0), (1, 0), (2, 0), (3, 0)] rfl rfl rfl ?_
            refine sd_vv rfl rfl rfl (vv_fieldAddr fa_81_2 rfl) ?_
            have B24 := (Bx.kz (Bx.gr Bw7 Gw8) Kw9)
            refine sd_vv rfl rfl rfl (vv_loadM (vs := kb y3.Key) agg_26 rfl B24 rfl rfl) ?_
            have B25 := (Bx.kz (Bx.gr (Bx.md (Bx.gr (Bx.kz Bw4 Kw5) Gw6) Mw7) Gw8) Kw9)
            refine sd_ev rfl rfl rfl (ev_stM (cs' := kb y3.Key) (vs := kb y3.Key) (agg_26).siz rfl rfl rfl rfl rfl B25 rfl rfl) ?_
            rintro _ w10 ⟨Bw10, Mw10⟩
            have z26 := Mw10.size
            refine sd_vv rfl rfl rfl (vv_assign rfl) ?_
            refine sd_done ?_
            refine sw_ret ?_
            refine then_r ?_
            refine block_r ?_
            refine then_r ?_
            refine then_r ?_
            refine block_r ?_
            refine then_r ?_
            have X27 : Gr w w10 := (Gr.md (Gr.kz X22 Kw9) Mw10)
            have hr := Option.some.inj hm
            subst hr
            refine ⟨_, _, rfl, res_2 rfl (rv_cellW agg_26 rfl Bw10 rfl) (rv_tmp rfl), ?_⟩
            exact ⟨rfl, X27⟩
          ·
            replace hm := cnd_f c3 hm
            refine sw_skip ?_
            refine then_n ?_
            refine sw_seq ?_
            -- region 8 ref.go:394
            refine sw_region [(0, 0), (1, 0), (2, 0), (3, 0), (4, 0), (5, 0), (6, 0), (7, 0), (8, 0), (9, 0)] rfl rfl rfl ?_
            refine sd_vv rfl rfl rfl (vv_fieldAddr fa_81_2 rfl) ?_
            have B28 := (Bx.kz (Bx.gr Bw7 Gw8) Kw9)
            refine sd_vv rfl rfl rfl (vv_loadM (vs := kb y3.Key) agg_26 rfl B28 rfl rfl) ?_
            refine sd_vv rfl rfl rfl (vv_fieldAddr fa_81_1 rfl) ?_
            refine sd_vv rfl rfl rfl (vv_load1 (v := .int .i64 y3.Minus) one_3 rfl B28 rfl) ?_
            refine sd_vv rfl rfl rfl (vv_fieldAddr fa_47_1 rfl) ?_
            have B29 := (Bx.kz (Bx.gr B19 Gw8) Kw9)
            refine sd_vv rfl rfl rfl (vv_load1 (v := .int .i64 p2.Minus) one_3 rfl B29 rfl) ?_
            have hb := bnd hm; clear hm; obtain ⟨x6, hx6, hm⟩ := hb
            refine sd_ev rfl rfl rfl (ev_call en_146 rfl (ref03_down_w y3.Key y3.Minus p2.Minus _ hx6 _)) ?_
            rintro _ w11 ⟨rfl, Gw11⟩
            have z30 := Gw11.size
            refine sd_ev rfl rfl rfl (ev_call en_89 rfl (rderive_c x6 (un8 33#8) (un8_nn _) (un8_le _) 0#64 _)) ?_
            rintro _ w12 ⟨rfl, Gw12⟩
            have z31 := Gw12.size
            have B32 := (Bx.gr (Bx.gr (Bx.kz (Bx.gr (Bx.md (Bx.gr (Bx.kz Bw4 Kw5) Gw6) Mw7) Gw8) Kw9) Gw11) Gw12)
            refine sd_ev rfl rfl rfl (ev_stM (cs' := kb (drv x6 (un8 33#8) 0#64)) (vs := kb (drv x6 (un8 33#8) 0#64)) (agg_26).siz rfl rfl rfl rfl rfl B32 rfl rfl) ?_
            rintro _ w13 ⟨Bw13, Mw13⟩
            have z33 := Mw13.size
            refine sd_vv rfl rfl rfl (vv_assign rfl) ?_
            refine sd_done ?_
            refine sw_ret ?_
            refine block_r ?_
            refine then_r ?_
            refine then_r ?_
            refine block_r ?_
            refine then_r ?_
            have X34 : Gr w w13 := (Gr.md (Gr.trans (Gr.trans (Gr.kz X22 Kw9) Gw11) Gw12) Mw13)
            have hr := Option.some.inj hm
            subst hr
            refine ⟨_, _, rfl, res_2 rfl (rv_cellW agg_26 rfl Bw13 rfl) (rv_tmp rfl), ?_⟩
            exact ⟨rfl, X34⟩
        ·
          -- region 6 ref.go:391
          refine sw_region [(0, 0), (1, 0), (2, 0), (3, 0), (4, 0), (5, 0), (6, 0), (7, 0)] rfl rfl rfl ?_
          refine sd_vv rfl rfl rfl (vv_fieldAddr fa_45_0 rfl) ?_
          have B35 := (Bx.gr B18 Gw8)
          refine sd_vv rfl rfl rfl (vv_load1 (v := bv p0.Kind) one_5 rfl B35 rfl) ?_
          refine sd_vv rfl rfl rfl (vv_eqlB (p := p0.Kind) (q := 1#8) rfl rfl) ?_
          refine sd_split rfl rfl rfl (vv_move rfl) (fun c4 => ?_) (fun c4 => ?_)
          ·
            replace hm := ite_t (of_decide_eq_true c4) hm
            refine sd_skip rfl rfl rfl ?_
            refine sd_skip rfl rfl rfl ?_
            refine sd_skip rfl rfl rfl ?_
            refine sd_vv rfl rfl rfl (vv_pickT rfl rfl) ?_
            refine sd_nil ?_
            have K_36 : Kz [] w8 w8 := (Kz.refl _ _)
            refine ⟨rfl, true, ?_, hm, K_36⟩
            repeat' first | exact trivial | refine ⟨rfl, ?_⟩
          ·
            replace hm := ite_f (of_decide_eq_false c4) hm
            refine sd_vv rfl rfl rfl (vv_fieldAddr fa_47_1 rfl) ?_
            have B37 := (Bx.gr B19 Gw8)
            refine sd_vv rfl rfl rfl (vv_load1 (v := .int .i64 p2.Minus) one_3 rfl B37 rfl) ?_
            refine sd_vv rfl rfl rfl (vv_eql (a := p2.Minus) (b := 0) rfl rfl) ?_
            refine sd_vv rfl rfl rfl (vv_pickF rfl rfl) ?_
            refine sd_nil ?_
            have K_38 : Kz [] w8 w8 := (Kz.refl _ _)
            refine ⟨rfl, (decide (p2.Minus = 0)), ?_, hm, K_38⟩
            repeat' first | exact trivial | refine ⟨rfl, ?_⟩
    ·
      replace hm := ite_f (of_decide_eq_false c1) hm
      refine sw_exit ?_
      refine then_x ?_
      refine then_x ?_
      refine block_x ?_
      refine then_n ?_
      refine sw_seq ?_
      -- region 9 ref.go:396
      refine sw_region [(0, 0), (1, 0), (2, 0)] rfl rfl rfl ?_
      refine sd_vv rfl rfl rfl (vv_buildZ bz_26) ?_
      have B39 := (Bx.kz Bw4 Kw5)
      refine sd_ev rfl rfl rfl (ev_stM (cs' := kb k0) (vs := kb k0) (agg_26).siz rfl rfl rfl rfl rfl B39 rfl rfl) ?_
      rintro _ w14 ⟨Bw14, Mw14⟩
      have z40 := Mw14.size
      refine sd_vv rfl rfl rfl (vv_assign rfl) ?_
      refine sd_done ?_
      refine sw_ret ?_
      have X41 : Gr w w14 := (Gr.md (Gr.kz X10 Kw5) Mw14)
      have hr := Option.some.inj hm
      subst hr
      refine ⟨_, _, rfl, res_2 rfl (rv_cellW agg_26 rfl Bw14 rfl) (rv_tmp rfl), ?_⟩
      exact ⟨rfl, X41⟩

set_option maxHeartbeats 2000000 in
theorem ref03_Find_w (p0 : TScheme) (p1 : TSecret) (p2 : TSubset) (vp1_1 : Value) (zp1_1 gp1_1 op1_1 : Nat) (r : W2 × Int) (hm : ref03_Find p0 p1 p2 = some r) (w : World) (hp1_1 : Rd w zp1_1 gp1_1 op1_1 18 vp1_1 (p1.Labels.map TLabel.cs))  :
    Calls Try.prog 49 [.agg (TScheme.cs p0).toArray, .agg (TSecret.cs p1 vp1_1).toArray, .agg (TSubset.cs p2).toArray].toArray w fun e w' => ∃ v, e = .returned v ∧ (v = .tuple [kv r.1, .int .i64 r.2].toArray ∧ Gr w w') := by
  have lt1 := hp1_1.lth
  unfold ref03_Find at hm
  refine calls_of_sw (R := fun v w' => v = .tuple [kv r.1, .int .i64 r.2].toArray ∧ Gr w w') 30 Try.func49 rfl rfl rfl ?_
  refine sw_seq ?_
  -- region 0 ref.go:411
  refine sw_region [(0, 0), (1, 0), (2, 0), (3, 0), (4, 0)] rfl rfl rfl ?_
  refine sd_ev rfl rfl rfl (ev_box (cs := TScheme.cs p0) rfl rfl) ?_
  rintro _ w1 ⟨b1, rfl, hbw1, Bw1, Gw1⟩
  have z2 := Gw1.size
  have lt3 := Bw1.lt
  refine sd_ev rfl rfl rfl (ev_box (cs := TSecret.cs p1 vp1_1) rfl rfl) ?_
  rintro _ w2 ⟨b2, rfl, hbw2, Bw2, Gw2⟩
  have z4 := Gw2.size
  have lt5 := Bw2.lt
  refine sd_ev rfl rfl rfl (ev_box (cs := TSubset.cs p2) rfl rfl) ?_
  rintro _ w3 ⟨b3, rfl, hbw3, Bw3, Gw3⟩
  have z6 := Gw3.size
  have lt7 := Bw3.lt
  refine sd_ev rfl rfl rfl (ev_alloc (cs := kb k0) zv_26 rfl) ?_
  rintro _ w4 ⟨b4, rfl, hbw4, Bw4, Gw4⟩
  have z8 := Gw4.size
  have lt9 := Bw4.lt
  refine sd_vv rfl rfl rfl (vv_assign rfl) ?_
  refine sd_done ?_
  refine sw_seq ?_
  refine sw_seq ?_
  -- region 1 ref.go:412
  refine sw_region [(0, 0), (1, 0), (2, 0)] rfl rfl rfl ?_
  have B10 := (Bx.gr (Bx.gr (Bx.gr Bw1 Gw2) Gw3) Gw4)
  refine sd_vv rfl rfl rfl (vv_loadW agg_45 rfl B10 rfl) ?_
  have hb := bnd hm; clear hm; obtain ⟨x1, hx1, hm⟩ := hb
  refine sd_ev rfl rfl rfl (ev_call en_59 rfl (ref03_Valid_w p0 _ hx1 _)) ?_
  rintro _ w5 ⟨rfl, Gw5⟩
  have z11 := Gw5.size
  refine sd_vv rfl rfl rfl (vv_not rfl) ?_
  refine sd_done ?_
  refine sw_cond rfl (fun c1 => ?_) (fun c1 => ?_)
  ·
    replace hm := cnd_t c1 hm
    refine sw_seq ?_
    -- region 2 ref.go:413
    refine sw_region [(0, 0), (1, 0), (2, 0)] rfl rfl rfl ?_
    refine sd_vv rfl rfl rfl (vv_buildZ bz_26) ?_
    have B12 := (Bx.gr Bw4 Gw5)
    refine sd_ev rfl rfl rfl (ev_stM (cs' := kb k0) (vs := kb k0) (agg_26).siz rfl rfl rfl rfl rfl B12 rfl rfl) ?_
    rintro _ w6 ⟨Bw6, Mw6⟩
    have z13 := Mw6.size
    refine sd_vv rfl rfl rfl (vv_assign rfl) ?_
    refine sd_done ?_
    refine sw_ret ?_
    refine then_r ?_
    have X14 : Gr w w6 := (Gr.md (Gr.trans (Gr.trans (Gr.trans (Gr.trans (Gr.trans (Gr.refl w) Gw1) Gw2) Gw3) Gw4) Gw5) Mw6)
    have hr := Option.some.inj hm
    subst hr
    refine ⟨_, _, rfl, res_2 rfl (rv_cellW agg_26 rfl Bw6 rfl) (rv_tmp rfl), ?_⟩
    exact ⟨rfl, X14⟩
  ·
    replace hm := cnd_f c1 hm
    refine sw_skip ?_
    refine then_n ?_
    refine sw_seq ?_
    refine sw_seq ?_
    -- region 3 ref.go:415
    refine sw_region [(0, 0), (1, 0), (2, 0), (3, 0)] rfl rfl rfl ?_
    have B15 := (Bx.gr B10 Gw5)
    refine sd_vv rfl rfl rfl (vv_loadW agg_45 rfl B15 rfl) ?_
    have B16 := (Bx.gr (Bx.gr Bw3 Gw4) Gw5)
    refine sd_vv rfl rfl rfl (vv_loadW agg_47 rfl B16 rfl) ?_
    have hb := bnd hm; clear hm; obtain ⟨x2, hx2, hm⟩ := hb
    refine sd_ev rfl rfl rfl (ev_call en_62 rfl (ref03_IsSubset_w p0 p2 _ hx2 _)) ?_
    rintro _ w7 ⟨rfl, Gw7⟩
    have z17 := Gw7.size
    refine sd_vv rfl rfl rfl (vv_not rfl) ?_
    refine sd_done ?_
    refine sw_cond rfl (fun c2 => ?_) (fun c2 => ?_)
    ·
      replace hm := cnd_t c2 hm
      refine sw_seq ?_
      -- region 4 ref.go:416
      refine sw_region [(0, 0), (1, 0), (2, 0)] rfl rfl rfl ?_
      refine sd_vv rfl rfl rfl (vv_buildZ bz_26) ?_
      have B18 := (Bx.gr (Bx.gr Bw4 Gw5) Gw7)
      refine sd_ev rfl rfl rfl (ev_stM (cs' := kb k0) (vs := kb k0) (agg_26).siz rfl rfl rfl rfl rfl B18 rfl rfl) ?_
      rintro _ w8 ⟨Bw8, Mw8⟩
      have z19 := Mw8.size
      refine sd_vv rfl rfl rfl (vv_assign rfl) ?_
      refine sd_done ?_
      refine sw_ret ?_
      refine then_r ?_
      have X20 : Gr w w8 := (Gr.md (Gr.trans (Gr.trans (Gr.trans (Gr.trans (Gr.trans (Gr.trans (Gr.refl w) Gw1) Gw2) Gw3) Gw4) Gw5) Gw7) Mw8)
      have hr := Option.some.inj hm
      subst hr
      refine ⟨_, _, rfl, res_2 rfl (rv_cellW agg_26 rfl Bw8 rfl) (rv_tmp rfl), ?_⟩
      exact ⟨rfl, X20⟩
    ·
      replace hm := cnd_f c2 hm
      refine sw_skip ?_
      refine then_n ?_
      refine sw_seq ?_
      -- region 5 ref.go:418
      refine sw_region [(0, 0), (1, 0), (2, 0), (3, 0), (4, 0), (5, 0), (6, 0), (7, 0), (8, 0), (9, 0)] rfl rfl rfl ?_
      have B21 := (Bx.gr B15 Gw7)
      refine sd_vv rfl rfl rfl (vv_loadW agg_45 rfl B21 rfl) ?_
      have B22 := (Bx.gr (Bx.gr (Bx.gr (Bx.gr Bw2 Gw3) Gw4) Gw5) Gw7)
      refine sd_vv rfl rfl rfl (vv_loadW agg_74 rfl B22 rfl) ?_
      have B23 := (Bx.gr B16 Gw7)
      refine sd_vv rfl rfl rfl (vv_loadW agg_47 rfl B23 rfl) ?_
      have B24 := (Rd.gr (Rd.gr (Rd.gr (Rd.gr (Rd.gr (Rd.gr hp1_1 Gw1) Gw2) Gw3) Gw4) Gw5) Gw7)
      have hb := bnd hm; clear hm; obtain ⟨x3, hx3, hm⟩ := hb
      refine sd_ev rfl rfl rfl (ev_call en_102 rfl (ref03_Leads_w p0 p1 p2 _ _ _ _ _ hx3 _ B24)) ?_
      rintro _ w9 ⟨rfl, Gw9⟩
      have z25 := Gw9.size
      refine sd_vv rfl rfl rfl (vv_move rfl) ?_
      refine sd_vv rfl rfl rfl (vv_extract rfl rfl) ?_
      refine sd_vv rfl rfl rfl (vv_extract rfl rfl) ?_
      refine sd_ev rfl rfl rfl (ev_alloc (cs := kb k0) zv_26 rfl) ?_
      rintro _ w10 ⟨b10, rfl, hbw10, Bw10, Gw10⟩
      have z26 := Gw10.size
      have lt27 := Bw10.lt
      refine sd_ev rfl rfl rfl (ev_stM (cs' := kb x3.1) (vs := kb x3.1) (agg_26).siz rfl rfl rfl rfl rfl Bw10 rfl rfl) ?_
      rintro _ w11 ⟨Bw11, Mw11⟩
      have z28 := Mw11.size
      refine sd_vv rfl rfl rfl (vv_assign rfl) ?_
      refine sd_done ?_
      refine sw_seq ?_
      refine sw_seq ?_
      -- region 6 ref.go:419
      refine sw_region [(0, 0), (1, 0)] rfl rfl rfl ?_
      refine sd_vv rfl rfl rfl (vv_move rfl) ?_
      refine sd_vv rfl rfl rfl (vv_not rfl) ?_
      refine sd_done ?_
      refine sw_cond rfl (fun c3 => ?_) (fun c3 => ?_)
      ·
        replace hm := cnd_t c3 hm
        refine sw_seq ?_
        -- region 7 ref.go:420
        refine sw_region [(0, 0), (1, 0), (2, 0)] rfl rfl rfl ?_
        refine sd_vv rfl rfl rfl (vv_buildZ bz_26) ?_
        have B29 := (Bx.md (Bx.gr (Bx.gr (Bx.gr (Bx.gr Bw4 Gw5) Gw7) Gw9) Gw10) Mw11)
        refine sd_ev rfl rfl rfl (ev_stM (cs' := kb k0) (vs := kb k0) (agg_26).siz rfl rfl rfl rfl rfl B29 rfl rfl) ?_
        rintro _ w12 ⟨Bw12, Mw12⟩
        have z30 := Mw12.size
        refine sd_vv rfl rfl rfl (vv_assign rfl) ?_
        refine sd_done ?_
        refine sw_ret ?_
        refine then_r ?_
        have X31 : Gr w w12 := (Gr.md (Gr.md (Gr.trans (Gr.trans (Gr.trans (Gr.trans (Gr.trans (Gr.trans (Gr.trans (Gr.trans (Gr.refl w) Gw1) Gw2) Gw3) Gw4) Gw5) Gw7) Gw9) Gw10) Mw11) Mw12)
        have hr := Option.some.inj hm
        subst hr
        refine ⟨_, _, rfl, res_2 rfl (rv_cellW agg_26 rfl Bw12 rfl) (rv_tmp rfl), ?_⟩
        exact ⟨rfl, X31⟩
      ·
        replace hm := cnd_f c3 hm
        refine sw_skip ?_
        refine then_n ?_
        refine sw_seq ?_
        -- region 8 ref.go:422
        refine sw_region [(0, 0), (1, 0), (2, 0)] rfl rfl rfl ?_
        refine sd_vv rfl rfl rfl (vv_loadW agg_26 rfl Bw11 rfl) ?_
        have B32 := (Bx.md (Bx.gr (Bx.gr (Bx.gr (Bx.gr Bw4 Gw5) Gw7) Gw9) Gw10) Mw11)
        refine sd_ev rfl rfl rfl (ev_stM (cs' := kb x3.1) (vs := kb x3.1) (agg_26).siz rfl rfl rfl rfl rfl B32 rfl rfl) ?_
        rintro _ w13 ⟨Bw13, Mw13⟩
        have z33 := Mw13.size
        refine sd_vv rfl rfl rfl (vv_assign rfl) ?_
        refine sd_done ?_
        refine sw_ret ?_
        have X34 : Gr w w13 := (Gr.md (Gr.md (Gr.trans (Gr.trans (Gr.trans (Gr.trans (Gr.trans (Gr.trans (Gr.trans (Gr.trans (Gr.refl w) Gw1) Gw2) Gw3) Gw4) Gw5) Gw7) Gw9) Gw10) Mw11) Mw13)
        have hr := Option.some.inj hm
        subst hr
        refine ⟨_, _, rfl, res_2 rfl (rv_cellW agg_26 rfl Bw13 rfl) (rv_tmp rfl), ?_⟩
        exact ⟨rfl, X34⟩
end Go.Proofs.Ytecempahccgijaa.Mx
