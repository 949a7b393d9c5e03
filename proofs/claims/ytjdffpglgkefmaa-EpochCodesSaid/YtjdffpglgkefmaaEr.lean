/- Walks that follow mirrors: Er. Printed by mx.py. -/
import Derived.Test.YtjdffpglgkefmaaEd
import Derived.Test.YtjdffpglgkefmaaErM
set_option linter.unusedVariables false
set_option linter.unusedSimpArgs false
set_option maxRecDepth 100000
namespace Go.Proofs.Ytjdffpglgkefmaa.Mx
open Go Go.RowKit Go.Sx
theorem en_31 : En Try.prog 31 := fun _ _ => by kernel_rfl
theorem en_32 : En Try.prog 32 := fun _ _ => by kernel_rfl
theorem en_13 : En Try.prog 13 := fun _ _ => by kernel_rfl
theorem cv_3_80 : CV Try.prog 3 80 .u64 := fun _ _ _ => by kernel_rfl
theorem en_37 : En Try.prog 37 := fun _ _ => by kernel_rfl
theorem bsl_29_2 : BSl Try.prog 29 2 5 1 [.int .u8 0, .int .u8 0] := bsl_mk Try.underlying29 (one_5).siz zv_5 rfl rfl (by kernel_rfl)
theorem en_33 : En Try.prog 33 := fun _ _ => by kernel_rfl
theorem en_14 : En Try.prog 14 := fun _ _ => by kernel_rfl
theorem en_34 : En Try.prog 34 := fun _ _ => by kernel_rfl
theorem en_35 : En Try.prog 35 := fun _ _ => by kernel_rfl
theorem en_24 : En Try.prog 24 := fun _ _ => by kernel_rfl
theorem eqc_3 : EqC Try.prog 1 3 [.i .i64] := eqc_int Try.underlying3 one_3
theorem eqc_62 : EqC Try.prog 2 62 [.i .i64, .i .i64] := eqc_struct Try.underlying62 (by kernel_rfl) agg_62 (show EqF _ 1 _ _ _ from (eqf_cons (ks1 := [.i .i64]) (ks2 := [.i .i64]) rfl (by simp) (eqc_3.up (by decide)) (eqf_cons (ks1 := [.i .i64]) (ks2 := []) rfl (by simp) (eqc_3.up (by decide)) (eqf_nil _))))
theorem eqc_64 : EqC Try.prog 3 64 [.i .i64, .i .i64, .i .u8, .i .u8, .i .u8, .i .u8, .i .u8, .i .u8, .i .u8, .i .u8, .i .u8, .i .u8, .i .u8, .i .u8, .i .u8, .i .u8, .i .u8, .i .u8] := eqc_struct Try.underlying64 (by kernel_rfl) agg_64 (show EqF _ 2 _ _ _ from (eqf_cons (ks1 := [.i .i64, .i .i64]) (ks2 := [.i .u8, .i .u8, .i .u8, .i .u8, .i .u8, .i .u8, .i .u8, .i .u8, .i .u8, .i .u8, .i .u8, .i .u8, .i .u8, .i .u8, .i .u8, .i .u8]) rfl (by simp) (eqc_62.up (by decide)) (eqf_cons (ks1 := [.i .u8, .i .u8, .i .u8, .i .u8, .i .u8, .i .u8, .i .u8, .i .u8, .i .u8, .i .u8, .i .u8, .i .u8, .i .u8, .i .u8, .i .u8, .i .u8]) (ks2 := []) rfl (by simp) (eqc_26.up (by decide)) (eqf_nil _))))
theorem eqt_64 : EqT Try.prog 64 [.i .i64, .i .i64, .i .u8, .i .u8, .i .u8, .i .u8, .i .u8, .i .u8, .i .u8, .i .u8, .i .u8, .i .u8, .i .u8, .i .u8, .i .u8, .i .u8, .i .u8, .i .u8] := ⟨by kernel_rfl, agg_64, 3, by decide, eqc_64⟩
theorem eqc_23 : EqC Try.prog 1 23 [.i .u64] := eqc_int Try.underlying23 one_23
theorem eqc_35 : EqC Try.prog 2 35 [.i .u64, .i .u64] := eqc_struct Try.underlying35 (by kernel_rfl) agg_35 (show EqF _ 1 _ _ _ from (eqf_cons (ks1 := [.i .u64]) (ks2 := [.i .u64]) rfl (by simp) (eqc_23.up (by decide)) (eqf_cons (ks1 := [.i .u64]) (ks2 := []) rfl (by simp) (eqc_23.up (by decide)) (eqf_nil _))))
theorem eqt_35 : EqT Try.prog 35 [.i .u64, .i .u64] := ⟨by kernel_rfl, agg_35, 2, by decide, eqc_35⟩
theorem en_28 : En Try.prog 28 := fun _ _ => by kernel_rfl
theorem fa_37_1 : FA Try.prog 37 1 1 := fun _ _ _ => by kernel_rfl
theorem one_33 : One Try.prog 33 := fun _ => ⟨by kernel_rfl, by kernel_rfl⟩

set_option maxHeartbeats 2000000 in
theorem ref05_blank_w (p0 : THeader) (vp0_0 : Value) (zp0_0 gp0_0 op0_0 : Nat) (vp0_2 : Value) (zp0_2 gp0_2 op0_2 : Nat) (r : Bool) (hm : ref05_blank p0 = some r) (w : World) (hp0_0 : Rd w zp0_0 gp0_0 op0_0 18 vp0_0 (p0.Items.map TItem.cs)) (hp0_2 : Rd w zp0_2 gp0_2 op0_2 2 vp0_2 (p0.Points.map TPoint.cs))  :
    Calls Try.prog 31 [.agg (THeader.cs p0 vp0_0 vp0_2).toArray].toArray w fun e w' => ∃ v, e = .returned v ∧ (v = .bool r ∧ Gr w w') := by
  have lt1 := hp0_0.lth
  have lt2 := hp0_2.lth
  unfold ref05_blank at hm
  refine calls_of_sw (R := fun v w' => v = .bool r ∧ Gr w w') 30 Try.func31 rfl rfl rfl ?_
  refine sw_seq ?_
  -- region 0 ref.go:202
  refine sw_region [(0, 0), (1, 0)] rfl rfl rfl ?_
  refine sd_ev rfl rfl rfl (ev_box (cs := THeader.cs p0 vp0_0 vp0_2) rfl rfl) ?_
  rintro _ w1 ⟨b1, rfl, hbw1, Bw1, Gw1⟩
  have z3 := Gw1.size
  have lt4 := Bw1.lt
  refine sd_vv rfl rfl rfl (vv_assign rfl) ?_
  refine sd_done ?_
  refine sw_seq ?_
  -- region 1 ref.go:203
  refine sw_region [(0, 0), (1, 0), (2, 0), (3, 0), (4, 0), (5, 0), (6, 0), (7, 0), (8, 0), (9, 0), (10, 0), (11, 0), (12, 0), (13, 0), (14, 0), (15, 0), (16, 0), (17, 0), (18, 0), (19, 0), (20, 0), (21, 0), (22, 0), (23, 0), (24, 0), (25, 0), (26, 0), (27, 0)] rfl rfl rfl ?_
  refine sd_vv rfl rfl rfl (vv_fieldAddr fa_28_0 rfl) ?_
  refine sd_vv rfl rfl rfl (vv_load1 (v := vp0_0) one_22 rfl Bw1 rfl) ?_
  have B5 := (Rd.gr hp0_0 Gw1)
  refine sd_vv rfl rfl rfl (vv_lenT (l := p0.Items) (c := TItem.cs) Try.underlying22 rfl B5) ?_
  refine sd_vv rfl rfl rfl (vv_eql (a := (p0.Items.length : Int)) (b := 0) rfl rfl) ?_
  refine sd_split rfl rfl rfl (vv_move rfl) (fun c1 => ?_) (fun c1 => ?_)
  ·
    replace hm := ite_t (of_decide_eq_true c1) hm
    refine sd_vv rfl rfl rfl (vv_fieldAddr fa_28_2 rfl) ?_
    refine sd_vv rfl rfl rfl (vv_load1 (v := vp0_2) one_24 rfl Bw1 rfl) ?_
    have B6 := (Rd.gr hp0_2 Gw1)
    refine sd_vv rfl rfl rfl (vv_lenT (l := p0.Points) (c := TPoint.cs) Try.underlying24 rfl B6) ?_
    refine sd_vv rfl rfl rfl (vv_eql (a := (p0.Points.length : Int)) (b := 0) rfl rfl) ?_
    refine sd_vv rfl rfl rfl (vv_pickT rfl rfl) ?_
    refine sd_split rfl rfl rfl (vv_move rfl) (fun c2 => ?_) (fun c2 => ?_)
    ·
      replace hm := ite_t (of_decide_eq_true c2) hm
      refine sd_vv rfl rfl rfl (vv_fieldAddr fa_28_1 rfl) ?_
      refine sd_vv rfl rfl rfl (vv_load1 (v := wv p0.Base) one_23 rfl Bw1 rfl) ?_
      refine sd_vv rfl rfl rfl (vv_eqlU (c := p0.Base) (d := 0#64) rfl rfl) ?_
      refine sd_vv rfl rfl rfl (vv_pickT rfl rfl) ?_
      refine sd_split rfl rfl rfl (vv_move rfl) (fun c3 => ?_) (fun c3 => ?_)
      ·
        replace hm := ite_t (of_decide_eq_true c3) hm
        refine sd_vv rfl rfl rfl (vv_fieldAddr fa_28_3 rfl) ?_
        refine sd_vv rfl rfl rfl (vv_loadM (vs := kb p0.Box) agg_26 rfl Bw1 rfl rfl) ?_
        refine sd_vv rfl rfl rfl (vv_buildZ bz_26) ?_
        refine sd_vv rfl rfl rfl (vv_eqlS (cf := kb) (a := p0.Box) (b := k0) eqt_26 rfl rfl rfl rfl (fun h => kb_inj h)) ?_
        refine sd_vv rfl rfl rfl (vv_pickT rfl rfl) ?_
        refine sd_split rfl rfl rfl (vv_move rfl) (fun c4 => ?_) (fun c4 => ?_)
        ·
          replace hm := ite_t (of_decide_eq_true c4) hm
          refine sd_vv rfl rfl rfl (vv_fieldAddr fa_28_4 rfl) ?_
          refine sd_vv rfl rfl rfl (vv_loadM (vs := kb p0.Check) agg_26 rfl Bw1 rfl rfl) ?_
          refine sd_vv rfl rfl rfl (vv_buildZ bz_26) ?_
          refine sd_vv rfl rfl rfl (vv_eqlS (cf := kb) (a := p0.Check) (b := k0) eqt_26 rfl rfl rfl rfl (fun h => kb_inj h)) ?_
          refine sd_vv rfl rfl rfl (vv_pickT rfl rfl) ?_
          refine sd_vv rfl rfl rfl (vv_assign rfl) ?_
          refine sd_done ?_
          refine sw_ret ?_
          have X7 : Gr w w1 := (Gr.trans (Gr.refl w) Gw1)
          have hr := Option.some.inj hm
          subst hr
          refine ⟨_, _, rfl, res_1 rfl (rv_tmp rfl), ?_⟩
          exact ⟨rfl, X7⟩
        ·
          replace hm := ite_f (of_decide_eq_false c4) hm
          refine sd_skip rfl rfl rfl ?_
          refine sd_skip rfl rfl rfl ?_
          refine sd_skip rfl rfl rfl ?_
          refine sd_skip rfl rfl rfl ?_
          refine sd_vv rfl rfl rfl (vv_pickF rfl rfl) ?_
          refine sd_vv rfl rfl rfl (vv_assign rfl) ?_
          refine sd_done ?_
          refine sw_ret ?_
          have X8 : Gr w w1 := (Gr.trans (Gr.refl w) Gw1)
          have hr := Option.some.inj hm
          subst hr
          refine ⟨_, _, rfl, res_1 rfl (rv_tmp rfl), ?_⟩
          exact ⟨rfl, X8⟩
      ·
        replace hm := ite_f (of_decide_eq_false c3) hm
        refine sd_skip rfl rfl rfl ?_
        refine sd_skip rfl rfl rfl ?_
        refine sd_skip rfl rfl rfl ?_
        refine sd_skip rfl rfl rfl ?_
        refine sd_vv rfl rfl rfl (vv_pickF rfl rfl) ?_
        refine sd_vv rfl rfl rfl (vv_move rfl) ?_
        refine sd_skip rfl rfl rfl ?_
        refine sd_skip rfl rfl rfl ?_
        refine sd_skip rfl rfl rfl ?_
        refine sd_skip rfl rfl rfl ?_
        refine sd_vv rfl rfl rfl (vv_pickF rfl rfl) ?_
        refine sd_vv rfl rfl rfl (vv_assign rfl) ?_
        refine sd_done ?_
        refine sw_ret ?_
        have X9 : Gr w w1 := (Gr.trans (Gr.refl w) Gw1)
        have hr := Option.some.inj hm
        subst hr
        refine ⟨_, _, rfl, res_1 rfl (rv_tmp rfl), ?_⟩
        exact ⟨rfl, X9⟩
    ·
      replace hm := ite_f (of_decide_eq_false c2) hm
      refine sd_skip rfl rfl rfl ?_
      refine sd_skip rfl rfl rfl ?_
      refine sd_skip rfl rfl rfl ?_
      refine sd_vv rfl rfl rfl (vv_pickF rfl rfl) ?_
      refine sd_vv rfl rfl rfl (vv_move rfl) ?_
      refine sd_skip rfl rfl rfl ?_
      refine sd_skip rfl rfl rfl ?_
      refine sd_skip rfl rfl rfl ?_
      refine sd_skip rfl rfl rfl ?_
      refine sd_vv rfl rfl rfl (vv_pickF rfl rfl) ?_
      refine sd_vv rfl rfl rfl (vv_move rfl) ?_
      refine sd_skip rfl rfl rfl ?_
      refine sd_skip rfl rfl rfl ?_
      refine sd_skip rfl rfl rfl ?_
      refine sd_skip rfl rfl rfl ?_
      refine sd_vv rfl rfl rfl (vv_pickF rfl rfl) ?_
      refine sd_vv rfl rfl rfl (vv_assign rfl) ?_
      refine sd_done ?_
      refine sw_ret ?_
      have X10 : Gr w w1 := (Gr.trans (Gr.refl w) Gw1)
      have hr := Option.some.inj hm
      subst hr
      refine ⟨_, _, rfl, res_1 rfl (rv_tmp rfl), ?_⟩
      exact ⟨rfl, X10⟩
  ·
    replace hm := ite_f (of_decide_eq_false c1) hm
    refine sd_skip rfl rfl rfl ?_
    refine sd_skip rfl rfl rfl ?_
    refine sd_skip rfl rfl rfl ?_
    refine sd_skip rfl rfl rfl ?_
    refine sd_vv rfl rfl rfl (vv_pickF rfl rfl) ?_
    refine sd_vv rfl rfl rfl (vv_move rfl) ?_
    refine sd_skip rfl rfl rfl ?_
    refine sd_skip rfl rfl rfl ?_
    refine sd_skip rfl rfl rfl ?_
    refine sd_vv rfl rfl rfl (vv_pickF rfl rfl) ?_
    refine sd_vv rfl rfl rfl (vv_move rfl) ?_
    refine sd_skip rfl rfl rfl ?_
    refine sd_skip rfl rfl rfl ?_
    refine sd_skip rfl rfl rfl ?_
    refine sd_skip rfl rfl rfl ?_
    refine sd_vv rfl rfl rfl (vv_pickF rfl rfl) ?_
    refine sd_vv rfl rfl rfl (vv_move rfl) ?_
    refine sd_skip rfl rfl rfl ?_
    refine sd_skip rfl rfl rfl ?_
    refine sd_skip rfl rfl rfl ?_
    refine sd_skip rfl rfl rfl ?_
    refine sd_vv rfl rfl rfl (vv_pickF rfl rfl) ?_
    refine sd_vv rfl rfl rfl (vv_assign rfl) ?_
    refine sd_done ?_
    refine sw_ret ?_
    have X11 : Gr w w1 := (Gr.trans (Gr.refl w) Gw1)
    have hr := Option.some.inj hm
    subst hr
    refine ⟨_, _, rfl, res_1 rfl (rv_tmp rfl), ?_⟩
    exact ⟨rfl, X11⟩

set_option maxHeartbeats 2000000 in
theorem ref05_Tick_w (p0 : Int)  (r : Bool) (hm : ref05_Tick p0 = some r) (w : World)   :
    Calls Try.prog 32 [.int .i64 p0].toArray w fun e w' => ∃ v, e = .returned v ∧ (v = .bool r ∧ Gr w w') := by
  unfold ref05_Tick at hm
  refine calls_of_sw (R := fun v w' => v = .bool r ∧ Gr w w') 9 Try.func32 rfl rfl rfl ?_
  refine sw_seq ?_
  -- region 0 ref.go:45
  refine sw_region [(0, 0)] rfl rfl rfl ?_
  refine sd_vv rfl rfl rfl (vv_assign rfl) ?_
  refine sd_done ?_
  refine sw_seq ?_
  -- region 1 ref.go:45
  refine sw_region [(0, 0), (1, 0), (2, 0), (3, 0), (4, 0), (5, 0), (6, 0)] rfl rfl rfl ?_
  refine sd_vv rfl rfl rfl (vv_move rfl) ?_
  refine sd_vv rfl rfl rfl (vv_geq (a := p0) (b := 0) rfl rfl) ?_
  refine sd_split rfl rfl rfl (vv_move rfl) (fun c1 => ?_) (fun c1 => ?_)
  ·
    replace hm := ite_t (of_decide_eq_true c1) hm
    refine sd_vv rfl rfl rfl (vv_move rfl) ?_
    refine sd_vv rfl rfl rfl (vv_leq (a := p0) (b := 1099511627776) rfl rfl) ?_
    refine sd_vv rfl rfl rfl (vv_pickT rfl rfl) ?_
    refine sd_vv rfl rfl rfl (vv_assign rfl) ?_
    refine sd_done ?_
    refine sw_ret ?_
    have hr := Option.some.inj hm
    subst hr
    refine ⟨_, _, rfl, res_1 rfl (rv_tmp rfl), ?_⟩
    exact ⟨rfl, (Gr.refl w)⟩
  ·
    replace hm := ite_f (of_decide_eq_false c1) hm
    refine sd_skip rfl rfl rfl ?_
    refine sd_skip rfl rfl rfl ?_
    refine sd_vv rfl rfl rfl (vv_pickF rfl rfl) ?_
    refine sd_vv rfl rfl rfl (vv_assign rfl) ?_
    refine sd_done ?_
    refine sw_ret ?_
    have hr := Option.some.inj hm
    subst hr
    refine ⟨_, _, rfl, res_1 rfl (rv_tmp rfl), ?_⟩
    exact ⟨rfl, (Gr.refl w)⟩

set_option maxHeartbeats 2000000 in
theorem ref05_ValidPacket_w (p0 : TPacket) (vp0_2 : Value) (zp0_2 gp0_2 op0_2 : Nat) (vp0_4 : Value) (zp0_4 gp0_4 op0_4 : Nat) (vp0_39 : Value) (zp0_39 gp0_39 op0_39 : Nat) (r : Bool) (hm : ref05_ValidPacket p0 = some r) (w : World) (hp0_2 : Rd w zp0_2 gp0_2 op0_2 18 vp0_2 (p0.Head.Items.map TItem.cs)) (hp0_4 : Rd w zp0_4 gp0_4 op0_4 2 vp0_4 (p0.Head.Points.map TPoint.cs)) (hp0_39 : Rd w zp0_39 gp0_39 op0_39 1 vp0_39 (p0.Data.map bvc))  :
    Calls Try.prog 13 [.agg (TPacket.cs p0 vp0_2 vp0_4 vp0_39).toArray].toArray w fun e w' => ∃ v, e = .returned v ∧ (v = .bool r ∧ Gr w w') := by
  have lt1 := hp0_2.lth
  have lt2 := hp0_4.lth
  have lt3 := hp0_39.lth
  unfold ref05_ValidPacket at hm
  refine calls_of_sw (R := fun v w' => v = .bool r ∧ Gr w w') 99 Try.func13 rfl rfl rfl ?_
  refine sw_seq ?_
  -- region 0 ref.go:207
  refine sw_region [(0, 0), (1, 0)] rfl rfl rfl ?_
  refine sd_ev rfl rfl rfl (ev_box (cs := TPacket.cs p0 vp0_2 vp0_4 vp0_39) rfl rfl) ?_
  rintro _ w1 ⟨b1, rfl, hbw1, Bw1, Gw1⟩
  have z4 := Gw1.size
  have lt5 := Bw1.lt
  refine sd_vv rfl rfl rfl (vv_assign rfl) ?_
  refine sd_done ?_
  refine sw_seq ?_
  refine sw_seq ?_
  -- region 1 ref.go:208
  refine sw_region [(0, 0), (1, 0), (2, 0)] rfl rfl rfl ?_
  refine sd_vv rfl rfl rfl (vv_fieldAddr fa_31_0 rfl) ?_
  refine sd_vv rfl rfl rfl (vv_load1 (v := bv p0.Kind) one_5 rfl Bw1 rfl) ?_
  refine sd_vv rfl rfl rfl (vv_eqlB (p := p0.Kind) (q := 2#8) rfl rfl) ?_
  refine sd_done ?_
  refine sw_cond rfl (fun c1 => ?_) (fun c1 => ?_)
  ·
    replace hm := ite_t (of_decide_eq_true c1) hm
    refine sw_seq ?_
    -- region 2 ref.go:209
    refine sw_region [(0, 0), (1, 0), (2, 0), (3, 0), (4, 0), (5, 0), (6, 0), (7, 0), (8, 0), (9, 0), (10, 0), (11, 0), (12, 0), (13, 0), (14, 0), (15, 0), (16, 0), (17, 0), (18, 0), (19, 0)] rfl rfl rfl ?_
    refine sd_vv rfl rfl rfl (vv_fieldAddr fa_31_3 rfl) ?_
    refine sd_vv rfl rfl rfl (vv_load1 (v := bv p0.Low) one_5 rfl Bw1 rfl) ?_
    refine sd_vv rfl rfl rfl (vv_leqB (p := p0.Low) (q := 3#8) rfl rfl) ?_
    refine sd_split rfl rfl rfl (vv_move rfl) (fun c2 => ?_) (fun c2 => ?_)
    ·
      replace hm := ite_t (of_decide_eq_true c2) hm
      refine sd_vv rfl rfl rfl (vv_fieldAddr fa_31_5 rfl) ?_
      refine sd_vv rfl rfl rfl (vv_load1 (v := vp0_39) one_29 rfl Bw1 rfl) ?_
      have B6 := (Rd.gr hp0_39 Gw1)
      refine sd_vv rfl rfl rfl (vv_lenT (l := p0.Data) (c := bvc) Try.underlying29 rfl B6) ?_
      refine sd_vv rfl rfl rfl (vv_leq (a := (p0.Data.length : Int)) (b := 256) rfl rfl) ?_
      refine sd_vv rfl rfl rfl (vv_pickT rfl rfl) ?_
      refine sd_split rfl rfl rfl (vv_move rfl) (fun c3 => ?_) (fun c3 => ?_)
      ·
        replace hm := ite_t (of_decide_eq_true c3) hm
        refine sd_vv rfl rfl rfl (vv_fieldAddr fa_31_1 rfl) ?_
        refine sd_vv rfl rfl rfl (vv_load1 (v := .int .i64 p0.Epoch) one_3 rfl Bw1 rfl) ?_
        refine sd_vv rfl rfl rfl (vv_eql (a := p0.Epoch) (b := 0) rfl rfl) ?_
        refine sd_vv rfl rfl rfl (vv_pickT rfl rfl) ?_
        refine sd_split rfl rfl rfl (vv_move rfl) (fun c4 => ?_) (fun c4 => ?_)
        ·
          replace hm := ite_t (of_decide_eq_true c4) hm
          refine sd_vv rfl rfl rfl (vv_fieldAddr fa_31_2 rfl) ?_
          refine sd_vv rfl rfl rfl (vv_loadM (vs := THeader.cs p0.Head vp0_2 vp0_4) agg_28 rfl Bw1 rfl rfl) ?_
          have B7 := (Rd.gr hp0_2 Gw1)
          have B8 := (Rd.gr hp0_4 Gw1)
          have hb := bnd hm; clear hm; obtain ⟨x1, hx1, hm⟩ := hb
          refine sd_ev rfl rfl rfl (ev_call en_31 rfl (ref05_blank_w p0.Head _ _ _ _ _ _ _ _ _ hx1 _ B7 B8)) ?_
          rintro _ w2 ⟨rfl, Gw2⟩
          have z9 := Gw2.size
          refine sd_vv rfl rfl rfl (vv_pickT rfl rfl) ?_
          refine sd_vv rfl rfl rfl (vv_assign rfl) ?_
          refine sd_done ?_
          refine sw_ret ?_
          refine then_r ?_
          have X10 : Gr w w2 := (Gr.trans (Gr.trans (Gr.refl w) Gw1) Gw2)
          have hr := Option.some.inj hm
          subst hr
          refine ⟨_, _, rfl, res_1 rfl (rv_tmp rfl), ?_⟩
          exact ⟨rfl, X10⟩
        ·
          replace hm := ite_f (of_decide_eq_false c4) hm
          refine sd_skip rfl rfl rfl ?_
          refine sd_skip rfl rfl rfl ?_
          refine sd_skip rfl rfl rfl ?_
          refine sd_vv rfl rfl rfl (vv_pickF rfl rfl) ?_
          refine sd_vv rfl rfl rfl (vv_assign rfl) ?_
          refine sd_done ?_
          refine sw_ret ?_
          refine then_r ?_
          have X11 : Gr w w1 := (Gr.trans (Gr.refl w) Gw1)
          have hr := Option.some.inj hm
          subst hr
          refine ⟨_, _, rfl, res_1 rfl (rv_tmp rfl), ?_⟩
          exact ⟨rfl, X11⟩
      ·
        replace hm := ite_f (of_decide_eq_false c3) hm
        refine sd_skip rfl rfl rfl ?_
        refine sd_skip rfl rfl rfl ?_
        refine sd_skip rfl rfl rfl ?_
        refine sd_vv rfl rfl rfl (vv_pickF rfl rfl) ?_
        refine sd_vv rfl rfl rfl (vv_move rfl) ?_
        refine sd_skip rfl rfl rfl ?_
        refine sd_skip rfl rfl rfl ?_
        refine sd_skip rfl rfl rfl ?_
        refine sd_vv rfl rfl rfl (vv_pickF rfl rfl) ?_
        refine sd_vv rfl rfl rfl (vv_assign rfl) ?_
        refine sd_done ?_
        refine sw_ret ?_
        refine then_r ?_
        have X12 : Gr w w1 := (Gr.trans (Gr.refl w) Gw1)
        have hr := Option.some.inj hm
        subst hr
        refine ⟨_, _, rfl, res_1 rfl (rv_tmp rfl), ?_⟩
        exact ⟨rfl, X12⟩
    ·
      replace hm := ite_f (of_decide_eq_false c2) hm
      refine sd_skip rfl rfl rfl ?_
      refine sd_skip rfl rfl rfl ?_
      refine sd_skip rfl rfl rfl ?_
      refine sd_skip rfl rfl rfl ?_
      refine sd_vv rfl rfl rfl (vv_pickF rfl rfl) ?_
      refine sd_vv rfl rfl rfl (vv_move rfl) ?_
      refine sd_skip rfl rfl rfl ?_
      refine sd_skip rfl rfl rfl ?_
      refine sd_skip rfl rfl rfl ?_
      refine sd_vv rfl rfl rfl (vv_pickF rfl rfl) ?_
      refine sd_vv rfl rfl rfl (vv_move rfl) ?_
      refine sd_skip rfl rfl rfl ?_
      refine sd_skip rfl rfl rfl ?_
      refine sd_skip rfl rfl rfl ?_
      refine sd_vv rfl rfl rfl (vv_pickF rfl rfl) ?_
      refine sd_vv rfl rfl rfl (vv_assign rfl) ?_
      refine sd_done ?_
      refine sw_ret ?_
      refine then_r ?_
      have X13 : Gr w w1 := (Gr.trans (Gr.refl w) Gw1)
      have hr := Option.some.inj hm
      subst hr
      refine ⟨_, _, rfl, res_1 rfl (rv_tmp rfl), ?_⟩
      exact ⟨rfl, X13⟩
  ·
    replace hm := ite_f (of_decide_eq_false c1) hm
    refine sw_skip ?_
    refine then_n ?_
    refine sw_seq ?_
    have X14 : Gr w w1 := (Gr.trans (Gr.refl w) Gw1)
    refine sw_joinD (β := Bool) [27, 28, 29, 30, 31, 32, 33, 34, 35, 36, 37, 38, 39, 40, 41, 42, 43, 44, 45, 46, 47, 48, 49, 50, 51, 52, 53, 54, 55, 56, 57, 58, 59, 60, 61, 62, 63, 64, 65] (fun a2 => [(65, .bool a2)]) (fun a2 wr => (ref05_ValidPacket_J1 p0 a2 = some r) ∧ Kz [] w1 wr) ?_ ?_
    · clear hm; rintro a2 w3 ⟨hm, Kw3⟩
      have z15 := Kw3.size
      unfold ref05_ValidPacket_J1 at hm
      refine sw_cond rfl (fun c5 => ?_) (fun c5 => ?_)
      ·
        replace hm := cnd_t c5 hm
        refine sw_seq ?_
        -- region 4 ref.go:212
        refine sw_region [(0, 0)] rfl rfl rfl ?_
        refine sd_vv rfl rfl rfl (vv_assign rfl) ?_
        refine sd_done ?_
        refine sw_ret ?_
        refine then_r ?_
        have X16 : Gr w w3 := (Gr.kz X14 Kw3)
        have hr := Option.some.inj hm
        subst hr
        refine ⟨_, _, rfl, res_1 rfl (rv_tmp rfl), ?_⟩
        exact ⟨rfl, X16⟩
      ·
        replace hm := cnd_f c5 hm
        refine sw_skip ?_
        refine then_n ?_
        refine sw_seq ?_
        refine sw_seq ?_
        -- region 5 ref.go:214
        refine sw_region [(0, 0)] rfl rfl rfl ?_
        refine sd_vv rfl rfl rfl (vv_assign rfl) ?_
        refine sd_done ?_
        refine sw_block ?_
        have X17 : Gr w w3 := (Gr.kz X14 Kw3)
        have B18 := (Rd.kz (Rd.gr hp0_2 Gw1) Kw3)
        have B19 := (Rd.kz (Rd.gr hp0_4 Gw1) Kw3)
        have B20 := (Rd.kz (Rd.gr hp0_39 Gw1) Kw3)
        refine sw_loopD (α := Nat × Int) [2, 3, 4, 66, 67, 68, 69, 70, 71, 72, 73, 74, 75, 76, 77, 78, 79, 80, 81, 82, 83, 84, 85, 86, 87, 88, 89, 90, 91, 92, 93, 94, 95, 96, 97, 98] (fun ⟨n2, a4⟩ => [(2, .bool false), (3, .int .i64 a4)]) (fun ⟨n2, a4⟩ wr => (fixN (ref05_ValidPacket_L2 p0) n2 a4 = some r) ∧ Kz [] w3 wr) (fun ⟨n2, a4⟩ => n2) ⟨FUEL, 0⟩ ?_ ?_ ?_
        · repeat' first | exact trivial | refine ⟨rfl, ?_⟩
        · exact ⟨hm, Kz.refl _ _⟩
        · clear hm; rintro ⟨n2, a4⟩ w4 ⟨hm, Kw4⟩
          have z21 := Kw4.size
          have hb := fix_succ hm; clear hm; obtain ⟨n2, rfl, hm⟩ := hb
          generalize hrec2 : fixN (ref05_ValidPacket_L2 p0) n2 = rec2 at hm
          unfold ref05_ValidPacket_L2 at hm
          try dsimp only at hm
          refine sw_seq ?_
          refine sw_seq ?_
          -- region 6 ref.go:214
          refine sw_region [(0, 0), (1, 0), (2, 0), (3, 0), (4, 0), (5, 0)] rfl rfl rfl ?_
          refine sd_vv rfl rfl rfl (vv_move rfl) ?_
          refine sd_vv rfl rfl rfl (vv_fieldAddr fa_31_2 rfl) ?_
          refine sd_vv rfl rfl rfl (vv_fieldAddr fa_28_0 rfl) ?_
          have B22 := (Bx.kz (Bx.kz Bw1 Kw3) Kw4)
          refine sd_vv rfl rfl rfl (vv_load1 (v := vp0_2) one_22 rfl B22 rfl) ?_
          have B23 := (Rd.kz B18 Kw4)
          refine sd_vv rfl rfl rfl (vv_lenT (l := p0.Head.Items) (c := TItem.cs) Try.underlying22 rfl B23) ?_
          refine sd_vv rfl rfl rfl (vv_lss (a := a4) (b := (p0.Head.Items.length : Int)) rfl rfl) ?_
          refine sd_done ?_
          refine sw_cond rfl (fun c6 => ?_) (fun c6 => ?_)
          ·
            replace hm := ite_t (of_decide_eq_true c6) hm
            refine sw_skip ?_
            refine then_n ?_
            refine sw_seq ?_
            refine sw_block ?_
            refine sw_seq ?_
            -- region 8 ref.go:215
            refine sw_region [(0, 0), (1, 0), (2, 0), (3, 0), (4, 0), (5, 0), (6, 0), (7, 0), (8, 0)] rfl rfl rfl ?_
            refine sd_vv rfl rfl rfl (vv_fieldAddr fa_31_2 rfl) ?_
            refine sd_vv rfl rfl rfl (vv_fieldAddr fa_28_0 rfl) ?_
            refine sd_vv rfl rfl rfl (vv_load1 (v := vp0_2) one_22 rfl B22 rfl) ?_
            refine sd_vv rfl rfl rfl (vv_move rfl) ?_
            have hb := bnd hm; clear hm; obtain ⟨y5, hy5, hm⟩ := hb
            refine sd_vv rfl rfl rfl (vv_ixT (i := a4) Try.underlying22 (agg_64).siz rfl B23 rfl hy5) ?_
            refine sd_vv rfl rfl rfl (vv_fieldAddr fa_64_0 rfl) ?_
            refine sd_vv rfl rfl rfl (vv_elMT (q := 0) (vs := TSubset.cs y5.Subset) agg_62 rfl B23 hy5 (by first | rfl | omega) rfl rfl) ?_
            refine sd_ev rfl rfl rfl (ev_alloc (cs := TSubset.cs (TSubset.mk 0 0)) zv_62 rfl) ?_
            rintro _ w5 ⟨b5, rfl, hbw5, Bw5, Gw5⟩
            have z24 := Gw5.size
            have lt25 := Bw5.lt
            refine sd_ev rfl rfl rfl (ev_stM (cs' := TSubset.cs y5.Subset) (vs := TSubset.cs y5.Subset) (agg_62).siz rfl rfl rfl rfl rfl Bw5 rfl rfl) ?_
            rintro _ w6 ⟨Bw6, Mw6⟩
            have z26 := Mw6.size
            refine sd_done ?_
            have X27 : Gr w w6 := (Gr.md (Gr.trans (Gr.kz X17 Kw4) Gw5) Mw6)
            refine sw_joinD (β := Bool) [81, 82, 83, 84, 85, 86, 87, 88, 89, 90, 91, 92, 93, 94, 95, 96, 97, 98] (fun a6 => [(98, .bool a6)]) (fun a6 wr => (ref05_ValidPacket_J3 a4 rec2 a6 = some r) ∧ Kz [] w6 wr) ?_ ?_
            · clear hm; rintro a6 w7 ⟨hm, Kw7⟩
              have z28 := Kw7.size
              unfold ref05_ValidPacket_J3 at hm
              refine sw_cond rfl (fun c7 => ?_) (fun c7 => ?_)
              ·
                replace hm := cnd_t c7 hm
                refine sw_seq ?_
                -- region 10 ref.go:217
                refine sw_region [(0, 0)] rfl rfl rfl ?_
                refine sd_vv rfl rfl rfl (vv_assign rfl) ?_
                refine sd_done ?_
                refine sw_ret ?_
                refine block_r ?_
                refine then_r ?_
                refine then_r ?_
                refine block_r ?_
                refine then_r ?_
                have X29 : Gr w w7 := (Gr.kz X27 Kw7)
                have hr := Option.some.inj hm
                subst hr
                refine ⟨_, _, rfl, res_1 rfl (rv_tmp rfl), ?_⟩
                exact ⟨rfl, X29⟩
              ·
                replace hm := cnd_f c7 hm
                refine sw_skip ?_
                refine block_n ?_
                refine then_n ?_
                -- region 7 ref.go:214
                refine sw_region [(0, 0), (1, 0), (2, 0)] rfl rfl rfl ?_
                refine sd_vv rfl rfl rfl (vv_move rfl) ?_
                refine sd_vv rfl rfl rfl (vv_add (k := .i64) (a := a4) (b := 1) rfl rfl) ?_
                refine sd_vv rfl rfl rfl (vv_assign rfl) ?_
                refine sd_nil ?_
                have K_30 : Kz [] w3 w7 := (Kz.kz (Kz.md (Kz.gr Kw4 Gw5) Mw6) Kw7)
                subst hrec2
                refine ⟨rfl, ⟨n2, w64 (a4 + 1)⟩, ?_, ⟨hm, K_30⟩, Nat.lt_succ_self _⟩
                repeat' first | exact trivial | refine ⟨rfl, ?_⟩
            ·
              -- region 9 ref.go:216
              refine sw_region [(0, 0), (1, 0), (2, 0), (3, 0), (4, 0), (5, 0), (6, 0), (7, 0), (8, 0), (9, 0), (10, 0), (11, 0), (12, 0), (13, 0), (14, 0), (15, 0), (16, 0), (17, 0)] rfl rfl rfl ?_
              refine sd_vv rfl rfl rfl (vv_fieldAddr fa_62_0 rfl) ?_
              refine sd_vv rfl rfl rfl (vv_load1 (v := .int .i64 y5.Subset.Node) one_3 rfl Bw6 rfl) ?_
              refine sd_vv rfl rfl rfl (vv_lss (a := y5.Subset.Node) (b := 0) rfl rfl) ?_
              refine sd_split rfl rfl rfl (vv_move rfl) (fun c8 => ?_) (fun c8 => ?_)
              ·
                replace hm := ite_t (of_decide_eq_true c8) hm
                refine sd_skip rfl rfl rfl ?_
                refine sd_skip rfl rfl rfl ?_
                refine sd_skip rfl rfl rfl ?_
                refine sd_vv rfl rfl rfl (vv_pickT rfl rfl) ?_
                refine sd_vv rfl rfl rfl (vv_move rfl) ?_
                refine sd_skip rfl rfl rfl ?_
                refine sd_skip rfl rfl rfl ?_
                refine sd_skip rfl rfl rfl ?_
                refine sd_vv rfl rfl rfl (vv_pickT rfl rfl) ?_
                refine sd_vv rfl rfl rfl (vv_move rfl) ?_
                refine sd_skip rfl rfl rfl ?_
                refine sd_skip rfl rfl rfl ?_
                refine sd_skip rfl rfl rfl ?_
                refine sd_vv rfl rfl rfl (vv_pickT rfl rfl) ?_
                refine sd_nil ?_
                have K_31 : Kz [] w6 w6 := (Kz.refl _ _)
                refine ⟨rfl, true, ?_, hm, K_31⟩
                repeat' first | exact trivial | refine ⟨rfl, ?_⟩
              ·
                replace hm := ite_f (of_decide_eq_false c8) hm
                refine sd_vv rfl rfl rfl (vv_fieldAddr fa_62_0 rfl) ?_
                refine sd_vv rfl rfl rfl (vv_load1 (v := .int .i64 y5.Subset.Node) one_3 rfl Bw6 rfl) ?_
                refine sd_vv rfl rfl rfl (vv_gtr (a := y5.Subset.Node) (b := 127) rfl rfl) ?_
                refine sd_vv rfl rfl rfl (vv_pickF rfl rfl) ?_
                refine sd_split rfl rfl rfl (vv_move rfl) (fun c9 => ?_) (fun c9 => ?_)
                ·
                  replace hm := ite_t (of_decide_eq_true c9) hm
                  refine sd_skip rfl rfl rfl ?_
                  refine sd_skip rfl rfl rfl ?_
                  refine sd_skip rfl rfl rfl ?_
                  refine sd_vv rfl rfl rfl (vv_pickT rfl rfl) ?_
                  refine sd_vv rfl rfl rfl (vv_move rfl) ?_
                  refine sd_skip rfl rfl rfl ?_
                  refine sd_skip rfl rfl rfl ?_
                  refine sd_skip rfl rfl rfl ?_
                  refine sd_vv rfl rfl rfl (vv_pickT rfl rfl) ?_
                  refine sd_nil ?_
                  have K_32 : Kz [] w6 w6 := (Kz.refl _ _)
                  refine ⟨rfl, true, ?_, hm, K_32⟩
                  repeat' first | exact trivial | refine ⟨rfl, ?_⟩
                ·
                  replace hm := ite_f (of_decide_eq_false c9) hm
                  refine sd_vv rfl rfl rfl (vv_fieldAddr fa_62_1 rfl) ?_
                  refine sd_vv rfl rfl rfl (vv_load1 (v := .int .i64 y5.Subset.Minus) one_3 rfl Bw6 rfl) ?_
                  refine sd_vv rfl rfl rfl (vv_lss (a := y5.Subset.Minus) (b := 0) rfl rfl) ?_
                  refine sd_vv rfl rfl rfl (vv_pickF rfl rfl) ?_
                  refine sd_split rfl rfl rfl (vv_move rfl) (fun c10 => ?_) (fun c10 => ?_)
                  ·
                    replace hm := ite_t (of_decide_eq_true c10) hm
                    refine sd_skip rfl rfl rfl ?_
                    refine sd_skip rfl rfl rfl ?_
                    refine sd_skip rfl rfl rfl ?_
                    refine sd_vv rfl rfl rfl (vv_pickT rfl rfl) ?_
                    refine sd_nil ?_
                    have K_33 : Kz [] w6 w6 := (Kz.refl _ _)
                    refine ⟨rfl, true, ?_, hm, K_33⟩
                    repeat' first | exact trivial | refine ⟨rfl, ?_⟩
                  ·
                    replace hm := ite_f (of_decide_eq_false c10) hm
                    refine sd_vv rfl rfl rfl (vv_fieldAddr fa_62_1 rfl) ?_
                    refine sd_vv rfl rfl rfl (vv_load1 (v := .int .i64 y5.Subset.Minus) one_3 rfl Bw6 rfl) ?_
                    refine sd_vv rfl rfl rfl (vv_gtr (a := y5.Subset.Minus) (b := 127) rfl rfl) ?_
                    refine sd_vv rfl rfl rfl (vv_pickF rfl rfl) ?_
                    refine sd_nil ?_
                    have K_34 : Kz [] w6 w6 := (Kz.refl _ _)
                    refine ⟨rfl, (decide ((127 : Int) < y5.Subset.Minus)), ?_, hm, K_34⟩
                    repeat' first | exact trivial | refine ⟨rfl, ?_⟩
          ·
            replace hm := ite_f (of_decide_eq_false c6) hm
            refine sw_exit ?_
            refine then_x ?_
            refine then_x ?_
            refine block_x ?_
            refine then_n ?_
            refine sw_seq ?_
            -- region 11 ref.go:220
            refine sw_region [(0, 0)] rfl rfl rfl ?_
            refine sd_vv rfl rfl rfl (vv_assign rfl) ?_
            refine sd_done ?_
            refine sw_ret ?_
            have X35 : Gr w w4 := (Gr.kz X17 Kw4)
            have hr := Option.some.inj hm
            subst hr
            refine ⟨_, _, rfl, res_1 rfl (rv_tmp rfl), ?_⟩
            exact ⟨rfl, X35⟩
    ·
      -- region 3 ref.go:211
      refine sw_region [(0, 0), (1, 0), (2, 0), (3, 0), (4, 0), (5, 0), (6, 0), (7, 0), (8, 0), (9, 0), (10, 0), (11, 0), (12, 0), (13, 0), (14, 0), (15, 0), (16, 0), (17, 0), (18, 0), (19, 0), (20, 0), (21, 0), (22, 0), (23, 0), (24, 0), (25, 0), (26, 0), (27, 0), (28, 0), (29, 0), (30, 0), (31, 0), (32, 0), (33, 0), (34, 0), (35, 0), (36, 0), (37, 0), (38, 0)] rfl rfl rfl ?_
      refine sd_vv rfl rfl rfl (vv_fieldAddr fa_31_0 rfl) ?_
      refine sd_vv rfl rfl rfl (vv_load1 (v := bv p0.Kind) one_5 rfl Bw1 rfl) ?_
      refine sd_vv rfl rfl rfl (vv_neqB (p := p0.Kind) (q := 1#8) rfl rfl) ?_
      refine sd_split rfl rfl rfl (vv_move rfl) (fun c11 => ?_) (fun c11 => ?_)
      ·
        replace hm := ite_t (of_decide_eq_true c11) hm
        refine sd_skip rfl rfl rfl ?_
        refine sd_skip rfl rfl rfl ?_
        refine sd_skip rfl rfl rfl ?_
        refine sd_skip rfl rfl rfl ?_
        refine sd_vv rfl rfl rfl (vv_pickT rfl rfl) ?_
        refine sd_vv rfl rfl rfl (vv_move rfl) ?_
        refine sd_skip rfl rfl rfl ?_
        refine sd_skip rfl rfl rfl ?_
        refine sd_skip rfl rfl rfl ?_
        refine sd_vv rfl rfl rfl (vv_pickT rfl rfl) ?_
        refine sd_vv rfl rfl rfl (vv_move rfl) ?_
        refine sd_skip rfl rfl rfl ?_
        refine sd_skip rfl rfl rfl ?_
        refine sd_skip rfl rfl rfl ?_
        refine sd_vv rfl rfl rfl (vv_pickT rfl rfl) ?_
        refine sd_vv rfl rfl rfl (vv_move rfl) ?_
        refine sd_skip rfl rfl rfl ?_
        refine sd_skip rfl rfl rfl ?_
        refine sd_skip rfl rfl rfl ?_
        refine sd_skip rfl rfl rfl ?_
        refine sd_vv rfl rfl rfl (vv_pickT rfl rfl) ?_
        refine sd_vv rfl rfl rfl (vv_move rfl) ?_
        refine sd_skip rfl rfl rfl ?_
        refine sd_skip rfl rfl rfl ?_
        refine sd_skip rfl rfl rfl ?_
        refine sd_skip rfl rfl rfl ?_
        refine sd_skip rfl rfl rfl ?_
        refine sd_vv rfl rfl rfl (vv_pickT rfl rfl) ?_
        refine sd_vv rfl rfl rfl (vv_move rfl) ?_
        refine sd_skip rfl rfl rfl ?_
        refine sd_skip rfl rfl rfl ?_
        refine sd_skip rfl rfl rfl ?_
        refine sd_skip rfl rfl rfl ?_
        refine sd_skip rfl rfl rfl ?_
        refine sd_vv rfl rfl rfl (vv_pickT rfl rfl) ?_
        refine sd_nil ?_
        have K_36 : Kz [] w1 w1 := (Kz.refl _ _)
        refine ⟨rfl, true, ?_, hm, K_36⟩
        repeat' first | exact trivial | refine ⟨rfl, ?_⟩
      ·
        replace hm := ite_f (of_decide_eq_false c11) hm
        refine sd_vv rfl rfl rfl (vv_fieldAddr fa_31_1 rfl) ?_
        refine sd_vv rfl rfl rfl (vv_load1 (v := .int .i64 p0.Epoch) one_3 rfl Bw1 rfl) ?_
        have hb := bnd hm; clear hm; obtain ⟨x7, hx7, hm⟩ := hb
        refine sd_ev rfl rfl rfl (ev_call en_32 rfl (ref05_Tick_w p0.Epoch _ hx7 _)) ?_
        rintro _ w8 ⟨rfl, Gw8⟩
        have z37 := Gw8.size
        refine sd_vv rfl rfl rfl (vv_not rfl) ?_
        refine sd_vv rfl rfl rfl (vv_pickF rfl rfl) ?_
        refine sd_split rfl rfl rfl (vv_move rfl) (fun c12 => ?_) (fun c12 => ?_)
        ·
          replace hm := cnd_t c12 hm
          refine sd_skip rfl rfl rfl ?_
          refine sd_skip rfl rfl rfl ?_
          refine sd_skip rfl rfl rfl ?_
          refine sd_vv rfl rfl rfl (vv_pickT rfl rfl) ?_
          refine sd_vv rfl rfl rfl (vv_move rfl) ?_
          refine sd_skip rfl rfl rfl ?_
          refine sd_skip rfl rfl rfl ?_
          refine sd_skip rfl rfl rfl ?_
          refine sd_vv rfl rfl rfl (vv_pickT rfl rfl) ?_
          refine sd_vv rfl rfl rfl (vv_move rfl) ?_
          refine sd_skip rfl rfl rfl ?_
          refine sd_skip rfl rfl rfl ?_
          refine sd_skip rfl rfl rfl ?_
          refine sd_skip rfl rfl rfl ?_
          refine sd_vv rfl rfl rfl (vv_pickT rfl rfl) ?_
          refine sd_vv rfl rfl rfl (vv_move rfl) ?_
          refine sd_skip rfl rfl rfl ?_
          refine sd_skip rfl rfl rfl ?_
          refine sd_skip rfl rfl rfl ?_
          refine sd_skip rfl rfl rfl ?_
          refine sd_skip rfl rfl rfl ?_
          refine sd_vv rfl rfl rfl (vv_pickT rfl rfl) ?_
          refine sd_vv rfl rfl rfl (vv_move rfl) ?_
          refine sd_skip rfl rfl rfl ?_
          refine sd_skip rfl rfl rfl ?_
          refine sd_skip rfl rfl rfl ?_
          refine sd_skip rfl rfl rfl ?_
          refine sd_skip rfl rfl rfl ?_
          refine sd_vv rfl rfl rfl (vv_pickT rfl rfl) ?_
          refine sd_nil ?_
          have K_38 : Kz [] w1 w8 := (Kz.gr (Kz.refl _ _) Gw8)
          refine ⟨rfl, true, ?_, hm, K_38⟩
          repeat' first | exact trivial | refine ⟨rfl, ?_⟩
        ·
          replace hm := cnd_f c12 hm
          refine sd_vv rfl rfl rfl (vv_fieldAddr fa_31_3 rfl) ?_
          have B39 := (Bx.gr Bw1 Gw8)
          refine sd_vv rfl rfl rfl (vv_load1 (v := bv p0.Low) one_5 rfl B39 rfl) ?_
          refine sd_vv rfl rfl rfl (vv_neqB (p := p0.Low) (q := 0#8) rfl rfl) ?_
          refine sd_vv rfl rfl rfl (vv_pickF rfl rfl) ?_
          refine sd_split rfl rfl rfl (vv_move rfl) (fun c13 => ?_) (fun c13 => ?_)
          ·
            replace hm := ite_t (of_decide_eq_true c13) hm
            refine sd_skip rfl rfl rfl ?_
            refine sd_skip rfl rfl rfl ?_
            refine sd_skip rfl rfl rfl ?_
            refine sd_vv rfl rfl rfl (vv_pickT rfl rfl) ?_
            refine sd_vv rfl rfl rfl (vv_move rfl) ?_
            refine sd_skip rfl rfl rfl ?_
            refine sd_skip rfl rfl rfl ?_
            refine sd_skip rfl rfl rfl ?_
            refine sd_skip rfl rfl rfl ?_
            refine sd_vv rfl rfl rfl (vv_pickT rfl rfl) ?_
            refine sd_vv rfl rfl rfl (vv_move rfl) ?_
            refine sd_skip rfl rfl rfl ?_
            refine sd_skip rfl rfl rfl ?_
            refine sd_skip rfl rfl rfl ?_
            refine sd_skip rfl rfl rfl ?_
            refine sd_skip rfl rfl rfl ?_
            refine sd_vv rfl rfl rfl (vv_pickT rfl rfl) ?_
            refine sd_vv rfl rfl rfl (vv_move rfl) ?_
            refine sd_skip rfl rfl rfl ?_
            refine sd_skip rfl rfl rfl ?_
            refine sd_skip rfl rfl rfl ?_
            refine sd_skip rfl rfl rfl ?_
            refine sd_skip rfl rfl rfl ?_
            refine sd_vv rfl rfl rfl (vv_pickT rfl rfl) ?_
            refine sd_nil ?_
            have K_40 : Kz [] w1 w8 := (Kz.gr (Kz.refl _ _) Gw8)
            refine ⟨rfl, true, ?_, hm, K_40⟩
            repeat' first | exact trivial | refine ⟨rfl, ?_⟩
          ·
            replace hm := ite_f (of_decide_eq_false c13) hm
            refine sd_vv rfl rfl rfl (vv_fieldAddr fa_31_4 rfl) ?_
            refine sd_vv rfl rfl rfl (vv_load1 (v := wv p0.Number) one_23 rfl B39 rfl) ?_
            refine sd_vv rfl rfl rfl (vv_neqU (c := p0.Number) (d := 0#64) rfl rfl) ?_
            refine sd_vv rfl rfl rfl (vv_pickF rfl rfl) ?_
            refine sd_split rfl rfl rfl (vv_move rfl) (fun c14 => ?_) (fun c14 => ?_)
            ·
              replace hm := ite_t (of_decide_eq_true c14) hm
              refine sd_skip rfl rfl rfl ?_
              refine sd_skip rfl rfl rfl ?_
              refine sd_skip rfl rfl rfl ?_
              refine sd_skip rfl rfl rfl ?_
              refine sd_vv rfl rfl rfl (vv_pickT rfl rfl) ?_
              refine sd_vv rfl rfl rfl (vv_move rfl) ?_
              refine sd_skip rfl rfl rfl ?_
              refine sd_skip rfl rfl rfl ?_
              refine sd_skip rfl rfl rfl ?_
              refine sd_skip rfl rfl rfl ?_
              refine sd_skip rfl rfl rfl ?_
              refine sd_vv rfl rfl rfl (vv_pickT rfl rfl) ?_
              refine sd_vv rfl rfl rfl (vv_move rfl) ?_
              refine sd_skip rfl rfl rfl ?_
              refine sd_skip rfl rfl rfl ?_
              refine sd_skip rfl rfl rfl ?_
              refine sd_skip rfl rfl rfl ?_
              refine sd_skip rfl rfl rfl ?_
              refine sd_vv rfl rfl rfl (vv_pickT rfl rfl) ?_
              refine sd_nil ?_
              have K_41 : Kz [] w1 w8 := (Kz.gr (Kz.refl _ _) Gw8)
              refine ⟨rfl, true, ?_, hm, K_41⟩
              repeat' first | exact trivial | refine ⟨rfl, ?_⟩
            ·
              replace hm := ite_f (of_decide_eq_false c14) hm
              refine sd_vv rfl rfl rfl (vv_fieldAddr fa_31_5 rfl) ?_
              refine sd_vv rfl rfl rfl (vv_load1 (v := vp0_39) one_29 rfl B39 rfl) ?_
              have B42 := (Rd.gr (Rd.gr hp0_39 Gw1) Gw8)
              refine sd_vv rfl rfl rfl (vv_lenT (l := p0.Data) (c := bvc) Try.underlying29 rfl B42) ?_
              refine sd_vv rfl rfl rfl (vv_gtr (a := (p0.Data.length : Int)) (b := 0) rfl rfl) ?_
              refine sd_vv rfl rfl rfl (vv_pickF rfl rfl) ?_
              refine sd_split rfl rfl rfl (vv_move rfl) (fun c15 => ?_) (fun c15 => ?_)
              ·
                replace hm := ite_t (of_decide_eq_true c15) hm
                refine sd_skip rfl rfl rfl ?_
                refine sd_skip rfl rfl rfl ?_
                refine sd_skip rfl rfl rfl ?_
                refine sd_skip rfl rfl rfl ?_
                refine sd_skip rfl rfl rfl ?_
                refine sd_vv rfl rfl rfl (vv_pickT rfl rfl) ?_
                refine sd_vv rfl rfl rfl (vv_move rfl) ?_
                refine sd_skip rfl rfl rfl ?_
                refine sd_skip rfl rfl rfl ?_
                refine sd_skip rfl rfl rfl ?_
                refine sd_skip rfl rfl rfl ?_
                refine sd_skip rfl rfl rfl ?_
                refine sd_vv rfl rfl rfl (vv_pickT rfl rfl) ?_
                refine sd_nil ?_
                have K_43 : Kz [] w1 w8 := (Kz.gr (Kz.refl _ _) Gw8)
                refine ⟨rfl, true, ?_, hm, K_43⟩
                repeat' first | exact trivial | refine ⟨rfl, ?_⟩
              ·
                replace hm := ite_f (of_decide_eq_false c15) hm
                refine sd_vv rfl rfl rfl (vv_fieldAddr fa_31_2 rfl) ?_
                refine sd_vv rfl rfl rfl (vv_fieldAddr fa_28_0 rfl) ?_
                refine sd_vv rfl rfl rfl (vv_load1 (v := vp0_2) one_22 rfl B39 rfl) ?_
                have B44 := (Rd.gr (Rd.gr hp0_2 Gw1) Gw8)
                refine sd_vv rfl rfl rfl (vv_lenT (l := p0.Head.Items) (c := TItem.cs) Try.underlying22 rfl B44) ?_
                refine sd_vv rfl rfl rfl (vv_gtr (a := (p0.Head.Items.length : Int)) (b := 64) rfl rfl) ?_
                refine sd_vv rfl rfl rfl (vv_pickF rfl rfl) ?_
                refine sd_split rfl rfl rfl (vv_move rfl) (fun c16 => ?_) (fun c16 => ?_)
                ·
                  replace hm := ite_t (of_decide_eq_true c16) hm
                  refine sd_skip rfl rfl rfl ?_
                  refine sd_skip rfl rfl rfl ?_
                  refine sd_skip rfl rfl rfl ?_
                  refine sd_skip rfl rfl rfl ?_
                  refine sd_skip rfl rfl rfl ?_
                  refine sd_vv rfl rfl rfl (vv_pickT rfl rfl) ?_
                  refine sd_nil ?_
                  have K_45 : Kz [] w1 w8 := (Kz.gr (Kz.refl _ _) Gw8)
                  refine ⟨rfl, true, ?_, hm, K_45⟩
                  repeat' first | exact trivial | refine ⟨rfl, ?_⟩
                ·
                  replace hm := ite_f (of_decide_eq_false c16) hm
                  refine sd_vv rfl rfl rfl (vv_fieldAddr fa_31_2 rfl) ?_
                  refine sd_vv rfl rfl rfl (vv_fieldAddr fa_28_2 rfl) ?_
                  refine sd_vv rfl rfl rfl (vv_load1 (v := vp0_4) one_24 rfl B39 rfl) ?_
                  have B46 := (Rd.gr (Rd.gr hp0_4 Gw1) Gw8)
                  refine sd_vv rfl rfl rfl (vv_lenT (l := p0.Head.Points) (c := TPoint.cs) Try.underlying24 rfl B46) ?_
                  refine sd_vv rfl rfl rfl (vv_gtr (a := (p0.Head.Points.length : Int)) (b := 8) rfl rfl) ?_
                  refine sd_vv rfl rfl rfl (vv_pickF rfl rfl) ?_
                  refine sd_nil ?_
                  have K_47 : Kz [] w1 w8 := (Kz.gr (Kz.refl _ _) Gw8)
                  refine ⟨rfl, (decide ((8 : Int) < (p0.Head.Points.length : Int))), ?_, hm, K_47⟩
                  repeat' first | exact trivial | refine ⟨rfl, ?_⟩

set_option maxHeartbeats 2000000 in
theorem ref05_number_w (p0 : List (BitVec 8)) (p1 : BitVec 64) (p2 : Int) (vp0 : Value) (zp0 gp0 : Nat) (r : List (BitVec 8)) (hm : ref05_number p0 p1 p2 = some r) (w : World) (hp0 : Own w zp0 gp0 5 1 vp0 (p0.map bvc))  :
    Calls Try.prog 37 [vp0, wv p1, .int .i64 p2].toArray w fun e w' => ∃ v, e = .returned v ∧ (∃ (ur0_s : Value) (zr0_s : Nat) (gr0_s : Nat), v = ur0_s ∧ Own w' zr0_s gr0_s 5 1 ur0_s (r.map bvc) ∧ Hdn (zr0_s = 0 ∨ (gr0_s = gp0 ∧ zp0 ≠ 0) ∨ w.heap.size ≤ gr0_s) ∧ Kz [(zp0, gp0)] w w') := by
  have lt1 := hp0.lth
  unfold ref05_number at hm
  refine calls_of_sw (R := fun v w' => ∃ (ur0_s : Value) (zr0_s : Nat) (gr0_s : Nat), v = ur0_s ∧ Own w' zr0_s gr0_s 5 1 ur0_s (r.map bvc) ∧ Hdn (zr0_s = 0 ∨ (gr0_s = gp0 ∧ zp0 ≠ 0) ∨ w.heap.size ≤ gr0_s) ∧ Kz [(zp0, gp0)] w w') 24 Try.func37 rfl rfl rfl ?_
  refine sw_seq ?_
  -- region 0 ref.go:232
  refine sw_region [(0, 0)] rfl rfl rfl ?_
  refine sd_vv rfl rfl rfl (vv_assign rfl) ?_
  refine sd_done ?_
  refine sw_seq ?_
  refine sw_seq ?_
  -- region 1 ref.go:233
  refine sw_region [(0, 0), (1, 0), (2, 0)] rfl rfl rfl ?_
  refine sd_vv rfl rfl rfl (vv_move rfl) ?_
  refine sd_vv rfl rfl rfl (vv_sub (k := .i64) (a := p2) (b := 1) rfl rfl) ?_
  refine sd_vv rfl rfl rfl (vv_assign rfl) ?_
  refine sd_done ?_
  refine sw_block ?_
  refine sw_loopD (α := Nat × List (BitVec 8) × Int × Value × Nat × Nat) [0, 7, 10, 11, 12, 13, 14, 15, 16, 17, 18, 19, 20, 21, 22] (fun ⟨n1, a4, a6, vy5, zy5, gy5⟩ => [(0, vy5), (7, .int .i64 a6)]) (fun ⟨n1, a4, a6, vy5, zy5, gy5⟩ wr => (fixN (ref05_number_L1 p1) n1 (a4, a6) = some r) ∧ Own wr zy5 gy5 5 1 vy5 (a4.map bvc) ∧ Hdn (zy5 = 0 ∨ (gy5 = gp0 ∧ zp0 ≠ 0) ∨ w.heap.size ≤ gy5) ∧ Kz [(zp0, gp0)] w wr) (fun ⟨n1, a4, a6, vy5, zy5, gy5⟩ => n1) ⟨FUEL, p0, w64 (p2 - 1), vp0, zp0, gp0⟩ ?_ ?_ ?_
  · repeat' first | exact trivial | refine ⟨rfl, ?_⟩
  · exact ⟨hm, hp0, ⟨tk0⟩, Kz.refl _ _⟩
  · clear hm; rintro ⟨n1, a4, a6, vy5, zy5, gy5⟩ w1 ⟨hm, Fw1_0, Fw1_1, Kw1⟩
    have z2 := Kw1.size
    have lt3 := Fw1_0.lth
    have hb := fix_succ hm; clear hm; obtain ⟨n1, rfl, hm⟩ := hb
    generalize hrec1 : fixN (ref05_number_L1 p1) n1 = rec1 at hm
    unfold ref05_number_L1 at hm
    try dsimp only at hm
    refine sw_seq ?_
    refine sw_seq ?_
    -- region 2 ref.go:233
    refine sw_region [(0, 0), (1, 0)] rfl rfl rfl ?_
    refine sd_vv rfl rfl rfl (vv_move rfl) ?_
    refine sd_vv rfl rfl rfl (vv_geq (a := a6) (b := 0) rfl rfl) ?_
    refine sd_done ?_
    refine sw_cond rfl (fun c1 => ?_) (fun c1 => ?_)
    ·
      replace hm := ite_t (of_decide_eq_true c1) hm
      refine sw_skip ?_
      refine then_n ?_
      refine sw_seq ?_
      refine sw_block ?_
      -- region 4 ref.go:234
      refine sw_region [(0, 0), (1, 0), (2, 0), (3, 0), (4, 0), (5, 0), (6, 0), (7, 0), (8, 0), (9, 0)] rfl rfl rfl ?_
      refine sd_vv rfl rfl rfl (vv_move rfl) ?_
      refine sd_vv rfl rfl rfl (vv_move rfl) ?_
      refine sd_vv rfl rfl rfl (vv_move rfl) ?_
      refine sd_vv rfl rfl rfl (vv_mul (k := .i64) (a := 8) (b := a6) rfl rfl) ?_
      refine sd_vv rfl rfl rfl (vv_cvIU cv_3_80 rfl) ?_
      have hb := bnd hm; clear hm; obtain ⟨n7, hn7, hm⟩ := hb
      refine sd_vv rfl rfl rfl (vv_shrU (c := p1) (b := (un (wd (w64 (8 * a6))))) rfl rfl hn7) ?_
      refine sd_vv rfl rfl rfl (vv_cvUB cv_23_5 rfl) ?_
      refine sd_ev rfl rfl rfl (ev_litT [(p1 >>> n7).setWidth 8] bvc bsl_29_1 rfl rfl (ws_of rfl) rfl rfl rfl) ?_
      rintro vw2 w2 ⟨gw2, hbw2, Ow2, Gw2⟩
      have z4 := Gw2.size
      have lt5 := Ow2.lth
      have B6 := (Own.gr Fw1_0 Gw2)
      have hb := bnd hm; clear hm; obtain ⟨l8, hl8, hm⟩ := hb
      refine sd_ev rfl rfl rfl (ev_appT (l := a4) (m := [(p1 >>> n7).setWidth 8]) (c := bvc) apt_29 rfl rfl B6 (Own.rd Ow2) hl8 (by decide)) ?_
      rintro vw3 w3 ⟨zw3, gw3, Ow3, Aw3, qw3, rw3⟩
      have z7 := Aw3.size
      refine sd_vv rfl rfl rfl (vv_assign rfl) ?_
      refine sd_nil ?_
      refine block_n ?_
      refine then_n ?_
      -- region 3 ref.go:233
      refine sw_region [(0, 0), (1, 0), (2, 0)] rfl rfl rfl ?_
      refine sd_vv rfl rfl rfl (vv_move rfl) ?_
      refine sd_vv rfl rfl rfl (vv_sub (k := .i64) (a := a6) (b := 1) rfl rfl) ?_
      refine sd_vv rfl rfl rfl (vv_assign rfl) ?_
      refine sd_nil ?_
      have K_8 : Kz [(zp0, gp0)] w w3 := (Kz.ka (Kz.gr Kw1 Gw2) Aw3 (tk1 ((pv_1 (A := (fun x => (x = gp0 ∧ zp0 ≠ 0) ∨ w.heap.size ≤ x)) Fw1_1 tk0) : zy5 = 0 ∨ (gy5 = gp0 ∧ zp0 ≠ 0) ∨ w.heap.size ≤ gy5)))
      subst hrec1
      refine ⟨rfl, ⟨n1, l8, w64 (a6 - 1), vw3, zw3, gw3⟩, ?_, ⟨hm, Ow3, ⟨(pv_app (A := (fun x => (x = gp0 ∧ zp0 ≠ 0) ∨ w.heap.size ≤ x)) rw3 (pv_1 (A := (fun x => (x = gp0 ∧ zp0 ≠ 0) ∨ w.heap.size ≤ x)) Fw1_1 tk0))⟩, K_8⟩, Nat.lt_succ_self _⟩
      repeat' first | exact trivial | refine ⟨rfl, ?_⟩
    ·
      replace hm := ite_f (of_decide_eq_false c1) hm
      refine sw_exit ?_
      refine then_x ?_
      refine then_x ?_
      refine block_x ?_
      refine then_n ?_
      refine sw_seq ?_
      -- region 5 ref.go:236
      refine sw_region [(0, 0), (1, 0)] rfl rfl rfl ?_
      refine sd_vv rfl rfl rfl (vv_move rfl) ?_
      refine sd_vv rfl rfl rfl (vv_assign rfl) ?_
      refine sd_done ?_
      refine sw_ret ?_
      have X9 : Kz [(zp0, gp0)] w w1 := (Kz.kz (Kz.refl _ w) Kw1 (tk1 (tk0 : zp0 = 0 ∨ (gp0 = gp0 ∧ zp0 ≠ 0) ∨ w.heap.size ≤ gp0)))
      have hr := Option.some.inj hm
      subst hr
      refine ⟨_, _, rfl, res_1 rfl (rv_tmp rfl), ?_⟩
      exact ⟨vy5, zy5, gy5, rfl, Fw1_0, ⟨(pv_1 (A := (fun x => (x = gp0 ∧ zp0 ≠ 0) ∨ w.heap.size ≤ x)) Fw1_1 tk0)⟩, X9⟩

set_option maxHeartbeats 2000000 in
theorem ref05_Body_w (p0 : TPacket) (vp0_2 : Value) (zp0_2 gp0_2 op0_2 : Nat) (vp0_4 : Value) (zp0_4 gp0_4 op0_4 : Nat) (vp0_39 : Value) (zp0_39 gp0_39 op0_39 : Nat) (r : List (BitVec 8)) (hm : ref05_Body p0 = some r) (w : World) (hp0_2 : Rd w zp0_2 gp0_2 op0_2 18 vp0_2 (p0.Head.Items.map TItem.cs)) (hp0_4 : Rd w zp0_4 gp0_4 op0_4 2 vp0_4 (p0.Head.Points.map TPoint.cs)) (hp0_39 : Rd w zp0_39 gp0_39 op0_39 1 vp0_39 (p0.Data.map bvc))  :
    Calls Try.prog 33 [.agg (TPacket.cs p0 vp0_2 vp0_4 vp0_39).toArray].toArray w fun e w' => ∃ v, e = .returned v ∧ (∃ (ur0_s : Value) (zr0_s : Nat) (gr0_s : Nat), v = ur0_s ∧ Own w' zr0_s gr0_s 5 1 ur0_s (r.map bvc) ∧ Hdn (zr0_s = 0 ∨ w.heap.size ≤ gr0_s) ∧ Gr w w') := by
  have lt1 := hp0_2.lth
  have lt2 := hp0_4.lth
  have lt3 := hp0_39.lth
  unfold ref05_Body at hm
  refine calls_of_sw (R := fun v w' => ∃ (ur0_s : Value) (zr0_s : Nat) (gr0_s : Nat), v = ur0_s ∧ Own w' zr0_s gr0_s 5 1 ur0_s (r.map bvc) ∧ Hdn (zr0_s = 0 ∨ w.heap.size ≤ gr0_s) ∧ Gr w w') 123 Try.func33 rfl rfl rfl ?_
  refine sw_seq ?_
  -- region 0 ref.go:240
  refine sw_region [(0, 0), (1, 0)] rfl rfl rfl ?_
  refine sd_ev rfl rfl rfl (ev_box (cs := TPacket.cs p0 vp0_2 vp0_4 vp0_39) rfl rfl) ?_
  rintro _ w1 ⟨b1, rfl, hbw1, Bw1, Gw1⟩
  have z4 := Gw1.size
  have lt5 := Bw1.lt
  refine sd_vv rfl rfl rfl (vv_assign rfl) ?_
  refine sd_done ?_
  refine sw_seq ?_
  -- region 1 ref.go:241
  refine sw_region [(0, 0), (1, 0), (2, 0), (3, 0)] rfl rfl rfl ?_
  refine sd_vv rfl rfl rfl (vv_fieldAddr fa_31_0 rfl) ?_
  refine sd_vv rfl rfl rfl (vv_load1 (v := bv p0.Kind) one_5 rfl Bw1 rfl) ?_
  refine sd_ev rfl rfl rfl (ev_litT [p0.Kind] bvc bsl_29_1 rfl rfl (ws_of rfl) rfl rfl rfl) ?_
  rintro vw2 w2 ⟨gw2, hbw2, Ow2, Gw2⟩
  have z6 := Gw2.size
  have lt7 := Ow2.lth
  refine sd_vv rfl rfl rfl (vv_assign rfl) ?_
  refine sd_done ?_
  refine sw_seq ?_
  refine sw_seq ?_
  -- region 2 ref.go:242
  refine sw_region [(0, 0), (1, 0), (2, 0)] rfl rfl rfl ?_
  refine sd_vv rfl rfl rfl (vv_fieldAddr fa_31_0 rfl) ?_
  have B8 := (Bx.gr Bw1 Gw2)
  refine sd_vv rfl rfl rfl (vv_load1 (v := bv p0.Kind) one_5 rfl B8 rfl) ?_
  refine sd_vv rfl rfl rfl (vv_eqlB (p := p0.Kind) (q := 2#8) rfl rfl) ?_
  refine sd_done ?_
  refine sw_cond rfl (fun c1 => ?_) (fun c1 => ?_)
  ·
    replace hm := ite_t (of_decide_eq_true c1) hm
    refine sw_seq ?_
    -- region 3 ref.go:243
    refine sw_region [(0, 0), (1, 0), (2, 0), (3, 0), (4, 0), (5, 0)] rfl rfl rfl ?_
    refine sd_vv rfl rfl rfl (vv_move rfl) ?_
    refine sd_vv rfl rfl rfl (vv_fieldAddr fa_31_3 rfl) ?_
    refine sd_vv rfl rfl rfl (vv_load1 (v := bv p0.Low) one_5 rfl B8 rfl) ?_
    refine sd_ev rfl rfl rfl (ev_litT [p0.Low] bvc bsl_29_1 rfl rfl (ws_of rfl) rfl rfl rfl) ?_
    rintro vw3 w3 ⟨gw3, hbw3, Ow3, Gw3⟩
    have z9 := Gw3.size
    have lt10 := Ow3.lth
    have B11 := (Own.gr Ow2 Gw3)
    have hb := bnd hm; clear hm; obtain ⟨l1, hl1, hm⟩ := hb
    refine sd_ev rfl rfl rfl (ev_appT (l := [p0.Kind]) (m := [p0.Low]) (c := bvc) apt_29 rfl rfl B11 (Own.rd Ow3) hl1 (by decide)) ?_
    rintro vw4 w4 ⟨zw4, gw4, Ow4, Aw4, qw4, rw4⟩
    have z12 := Aw4.size
    refine sd_vv rfl rfl rfl (vv_assign rfl) ?_
    refine sd_done ?_
    refine sw_seq ?_
    -- region 4 ref.go:244
    refine sw_region [(0, 0), (1, 0), (2, 0), (3, 0), (4, 0)] rfl rfl rfl ?_
    refine sd_vv rfl rfl rfl (vv_move rfl) ?_
    refine sd_vv rfl rfl rfl (vv_fieldAddr fa_31_4 rfl) ?_
    have B13 := (Bx.ka (Bx.gr B8 Gw3) Aw4 (tk1 ((.inr tk0) : 1 = 0 ∨ gw2 ≠ b1)))
    refine sd_vv rfl rfl rfl (vv_load1 (v := wv p0.Number) one_23 rfl B13 rfl) ?_
    have hb := bnd hm; clear hm; obtain ⟨x2, hx2, hm⟩ := hb
    refine sd_ev rfl rfl rfl (ev_call en_37 rfl (ref05_number_w l1 p0.Number 8 vw4 zw4 gw4 _ hx2 _ Ow4)) ?_
    rintro u5_r0_s w5 ⟨_, z5_r0_s, g5_r0_s, rfl, O5_r0_s, f5_r0_s, Kw5⟩
    have z14 := Kw5.size
    have lt15 := O5_r0_s.lth
    refine sd_vv rfl rfl rfl (vv_assign rfl) ?_
    refine sd_done ?_
    refine sw_seq ?_
    -- region 5 ref.go:245
    refine sw_region [(0, 0), (1, 0), (2, 0), (3, 0), (4, 0), (5, 0), (6, 0)] rfl rfl rfl ?_
    refine sd_vv rfl rfl rfl (vv_move rfl) ?_
    refine sd_vv rfl rfl rfl (vv_fieldAddr fa_31_5 rfl) ?_
    have B16 := (Bx.kz B13 Kw5 (tk1 ((pv_app (A := (fun x => x ≠ b1)) rw4 (.inr tk0)) : zw4 = 0 ∨ gw4 ≠ b1)))
    refine sd_vv rfl rfl rfl (vv_load1 (v := vp0_39) one_29 rfl B16 rfl) ?_
    have B17 := (Rd.kz (Rd.ka (Rd.gr (Rd.gr (Rd.gr hp0_39 Gw1) Gw2) Gw3) Aw4 (tk1 ((pv_sw (.inr (tk1 lt3.o))) : zp0_39 = 0 ∨ 1 = 0 ∨ gp0_39 ≠ gw2))) Kw5 (tk1 ((pv_sw (pv_app (A := (fun x => zp0_39 = 0 ∨ x ≠ gp0_39)) rw4 (.inr (tk1 lt3.o)) (fun x hx => (tk1 lt3.o)))) : zp0_39 = 0 ∨ zw4 = 0 ∨ gp0_39 ≠ gw4)))
    refine sd_vv rfl rfl rfl (vv_lenT (l := p0.Data) (c := bvc) Try.underlying29 rfl B17) ?_
    refine sd_vv rfl rfl rfl (vv_cvIU cv_3_23 rfl) ?_
    have hb := bnd hm; clear hm; obtain ⟨x3, hx3, hm⟩ := hb
    refine sd_ev rfl rfl rfl (ev_call en_37 rfl (ref05_number_w x2 (wd (p0.Data.length : Int)) 2 u5_r0_s z5_r0_s g5_r0_s _ hx3 _ O5_r0_s)) ?_
    rintro u6_r0_s w6 ⟨_, z6_r0_s, g6_r0_s, rfl, O6_r0_s, f6_r0_s, Kw6⟩
    have z18 := Kw6.size
    have lt19 := O6_r0_s.lth
    refine sd_vv rfl rfl rfl (vv_assign rfl) ?_
    refine sd_done ?_
    refine sw_seq ?_
    -- region 6 ref.go:246
    refine sw_region [(0, 0), (1, 0), (2, 0), (3, 0), (4, 0)] rfl rfl rfl ?_
    refine sd_vv rfl rfl rfl (vv_move rfl) ?_
    refine sd_vv rfl rfl rfl (vv_fieldAddr fa_31_5 rfl) ?_
    have B20 := (Bx.kz B16 Kw6 (tk1 ((pv_1 (A := (fun x => x ≠ b1)) f5_r0_s (pv_app (A := (fun x => x ≠ b1)) rw4 (.inr tk0))) : z5_r0_s = 0 ∨ g5_r0_s ≠ b1)))
    refine sd_vv rfl rfl rfl (vv_load1 (v := vp0_39) one_29 rfl B20 rfl) ?_
    have B21 := (Rd.kz B17 Kw6 (tk1 ((pv_sw (pv_1 (A := (fun x => zp0_39 = 0 ∨ x ≠ gp0_39)) f5_r0_s (pv_app (A := (fun x => zp0_39 = 0 ∨ x ≠ gp0_39)) rw4 (.inr (tk1 lt3.o)) (fun x hx => (tk1 lt3.o))) (fun x hx => (tk1 lt3.o)))) : zp0_39 = 0 ∨ z5_r0_s = 0 ∨ gp0_39 ≠ g5_r0_s)))
    have hb := bnd hm; clear hm; obtain ⟨l4, hl4, hm⟩ := hb
    refine sd_ev rfl rfl rfl (ev_appT (l := x3) (m := p0.Data) (c := bvc) apt_29 rfl rfl O6_r0_s B21 hl4 (by decide)) ?_
    rintro vw7 w7 ⟨zw7, gw7, Ow7, Aw7, qw7, rw7⟩
    have z22 := Aw7.size
    refine sd_vv rfl rfl rfl (vv_assign rfl) ?_
    refine sd_done ?_
    refine sw_ret ?_
    refine then_r ?_
    have X23 : Gr w w7 := (Gr.ka (Gr.kz (Gr.kz (Gr.ka (Gr.trans (Gr.trans (Gr.trans (Gr.refl w) Gw1) Gw2) Gw3) Aw4 (tk1 ((.inr tk0) : 1 = 0 ∨ w.heap.size ≤ gw2))) Kw5 (tk1 ((pv_app (A := (fun x => w.heap.size ≤ x)) rw4 (.inr tk0)) : zw4 = 0 ∨ w.heap.size ≤ gw4))) Kw6 (tk1 ((pv_1 (A := (fun x => w.heap.size ≤ x)) f5_r0_s (pv_app (A := (fun x => w.heap.size ≤ x)) rw4 (.inr tk0))) : z5_r0_s = 0 ∨ w.heap.size ≤ g5_r0_s))) Aw7 (tk1 ((pv_1 (A := (fun x => w.heap.size ≤ x)) f6_r0_s (pv_1 (A := (fun x => w.heap.size ≤ x)) f5_r0_s (pv_app (A := (fun x => w.heap.size ≤ x)) rw4 (.inr tk0)))) : z6_r0_s = 0 ∨ w.heap.size ≤ g6_r0_s)))
    have hr := Option.some.inj hm
    subst hr
    refine ⟨_, _, rfl, res_1 rfl (rv_tmp rfl), ?_⟩
    exact ⟨vw7, zw7, gw7, rfl, Ow7, ⟨(pv_app (A := (fun x => w.heap.size ≤ x)) rw7 (pv_1 (A := (fun x => w.heap.size ≤ x)) f6_r0_s (pv_1 (A := (fun x => w.heap.size ≤ x)) f5_r0_s (pv_app (A := (fun x => w.heap.size ≤ x)) rw4 (.inr tk0)))))⟩, X23⟩
  ·
    replace hm := ite_f (of_decide_eq_false c1) hm
    refine sw_skip ?_
    refine then_n ?_
    refine sw_seq ?_
    -- region 7 ref.go:248
    refine sw_region [(0, 0), (1, 0), (2, 0), (3, 0), (4, 0), (5, 0)] rfl rfl rfl ?_
    refine sd_vv rfl rfl rfl (vv_move rfl) ?_
    refine sd_vv rfl rfl rfl (vv_fieldAddr fa_31_1 rfl) ?_
    refine sd_vv rfl rfl rfl (vv_load1 (v := .int .i64 p0.Epoch) one_3 rfl B8 rfl) ?_
    refine sd_vv rfl rfl rfl (vv_cvIU cv_3_23 rfl) ?_
    have hb := bnd hm; clear hm; obtain ⟨x5, hx5, hm⟩ := hb
    refine sd_ev rfl rfl rfl (ev_call en_37 rfl (ref05_number_w [p0.Kind] (wd p0.Epoch) 8 vw2 1 gw2 _ hx5 _ Ow2)) ?_
    rintro u8_r0_s w8 ⟨_, z8_r0_s, g8_r0_s, rfl, O8_r0_s, f8_r0_s, Kw8⟩
    have z24 := Kw8.size
    have lt25 := O8_r0_s.lth
    refine sd_vv rfl rfl rfl (vv_assign rfl) ?_
    refine sd_done ?_
    refine sw_seq ?_
    -- region 8 ref.go:249
    refine sw_region [(0, 0), (1, 0), (2, 0), (3, 0), (4, 0), (5, 0), (6, 0), (7, 0), (8, 0)] rfl rfl rfl ?_
    refine sd_vv rfl rfl rfl (vv_move rfl) ?_
    refine sd_vv rfl rfl rfl (vv_fieldAddr fa_31_2 rfl) ?_
    refine sd_vv rfl rfl rfl (vv_fieldAddr fa_28_0 rfl) ?_
    have B26 := (Bx.kz B8 Kw8 (tk1 ((.inr tk0) : 1 = 0 ∨ gw2 ≠ b1)))
    refine sd_vv rfl rfl rfl (vv_load1 (v := vp0_2) one_22 rfl B26 rfl) ?_
    have B27 := (Rd.kz (Rd.gr (Rd.gr hp0_2 Gw1) Gw2) Kw8 (tk1 ((pv_sw (.inr (tk1 lt1.o))) : zp0_2 = 0 ∨ 1 = 0 ∨ gp0_2 ≠ gw2)))
    refine sd_vv rfl rfl rfl (vv_lenT (l := p0.Head.Items) (c := TItem.cs) Try.underlying22 rfl B27) ?_
    refine sd_vv rfl rfl rfl (vv_cvIB cv_3_5 rfl) ?_
    refine sd_ev rfl rfl rfl (ev_litT [wd8 (p0.Head.Items.length : Int)] bvc bsl_29_1 rfl rfl (ws_of rfl) rfl rfl rfl) ?_
    rintro vw9 w9 ⟨gw9, hbw9, Ow9, Gw9⟩
    have z28 := Gw9.size
    have lt29 := Ow9.lth
    have B30 := (Own.gr O8_r0_s Gw9)
    have hb := bnd hm; clear hm; obtain ⟨l6, hl6, hm⟩ := hb
    refine sd_ev rfl rfl rfl (ev_appT (l := x5) (m := [wd8 (p0.Head.Items.length : Int)]) (c := bvc) apt_29 rfl rfl B30 (Own.rd Ow9) hl6 (by decide)) ?_
    rintro vw10 w10 ⟨zw10, gw10, Ow10, Aw10, qw10, rw10⟩
    have z31 := Aw10.size
    refine sd_vv rfl rfl rfl (vv_assign rfl) ?_
    refine sd_done ?_
    refine sw_seq ?_
    refine sw_seq ?_
    -- region 9 ref.go:250
    refine sw_region [(0, 0)] rfl rfl rfl ?_
    refine sd_vv rfl rfl rfl (vv_assign rfl) ?_
    refine sd_done ?_
    refine sw_block ?_
    have X32 : Gr w w10 := (Gr.ka (Gr.trans (Gr.kz (Gr.trans (Gr.trans (Gr.refl w) Gw1) Gw2) Kw8 (tk1 ((.inr tk0) : 1 = 0 ∨ w.heap.size ≤ gw2))) Gw9) Aw10 (tk1 ((pv_1 (A := (fun x => w.heap.size ≤ x)) f8_r0_s (.inr tk0)) : z8_r0_s = 0 ∨ w.heap.size ≤ g8_r0_s)))
    have B33 := (Rd.ka (Rd.gr B27 Gw9) Aw10 (tk1 ((pv_sw (pv_1 (A := (fun x => zp0_2 = 0 ∨ x ≠ gp0_2)) f8_r0_s (.inr (tk1 lt1.o)) (fun x hx => (tk1 lt1.o)))) : zp0_2 = 0 ∨ z8_r0_s = 0 ∨ gp0_2 ≠ g8_r0_s)))
    have B34 := (Rd.ka (Rd.gr (Rd.kz (Rd.gr (Rd.gr hp0_4 Gw1) Gw2) Kw8 (tk1 ((pv_sw (.inr (tk1 lt2.o))) : zp0_4 = 0 ∨ 1 = 0 ∨ gp0_4 ≠ gw2))) Gw9) Aw10 (tk1 ((pv_sw (pv_1 (A := (fun x => zp0_4 = 0 ∨ x ≠ gp0_4)) f8_r0_s (.inr (tk1 lt2.o)) (fun x hx => (tk1 lt2.o)))) : zp0_4 = 0 ∨ z8_r0_s = 0 ∨ gp0_4 ≠ g8_r0_s)))
    have B35 := (Rd.ka (Rd.gr (Rd.kz (Rd.gr (Rd.gr hp0_39 Gw1) Gw2) Kw8 (tk1 ((pv_sw (.inr (tk1 lt3.o))) : zp0_39 = 0 ∨ 1 = 0 ∨ gp0_39 ≠ gw2))) Gw9) Aw10 (tk1 ((pv_sw (pv_1 (A := (fun x => zp0_39 = 0 ∨ x ≠ gp0_39)) f8_r0_s (.inr (tk1 lt3.o)) (fun x hx => (tk1 lt3.o)))) : zp0_39 = 0 ∨ z8_r0_s = 0 ∨ gp0_39 ≠ g8_r0_s)))
    have B36 := (Own.ka Ow9 Aw10 (tk1 ((.inr (tk1 lt25.o)) : 1 = 0 ∨ z8_r0_s = 0 ∨ gw9 ≠ g8_r0_s)))
    refine sw_loopD (α := Nat × List (BitVec 8) × Int × Value × Nat × Nat) [3, 4, 5, 45, 46, 47, 48, 49, 50, 51, 52, 53, 54, 55, 56, 57, 58, 59, 60, 61, 62, 63, 64, 65, 66, 67, 68, 69, 70, 71, 72, 73] (fun ⟨n1, a10, a12, vy11, zy11, gy11⟩ => [(3, vy11), (4, .int .i64 a12)]) (fun ⟨n1, a10, a12, vy11, zy11, gy11⟩ wr => (fixN (ref05_Body_L1 p0) n1 (a10, a12) = some r) ∧ Own wr zy11 gy11 5 1 vy11 (a10.map bvc) ∧ Hdn (zy11 = 0 ∨ (gy11 = gw10 ∧ zw10 ≠ 0) ∨ w10.heap.size ≤ gy11) ∧ Kz [(zw10, gw10)] w10 wr) (fun ⟨n1, a10, a12, vy11, zy11, gy11⟩ => n1) ⟨FUEL, l6, 0, vw10, zw10, gw10⟩ ?_ ?_ ?_
    · repeat' first | exact trivial | refine ⟨rfl, ?_⟩
    · exact ⟨hm, Ow10, ⟨tk0⟩, Kz.refl _ _⟩
    · clear hm; rintro ⟨n1, a10, a12, vy11, zy11, gy11⟩ w11 ⟨hm, Fw11_0, Fw11_1, Kw11⟩
      have z37 := Kw11.size
      have lt38 := Fw11_0.lth
      have hb := fix_succ hm; clear hm; obtain ⟨n1, rfl, hm⟩ := hb
      generalize hrec1 : fixN (ref05_Body_L1 p0) n1 = rec1 at hm
      unfold ref05_Body_L1 at hm
      try dsimp only at hm
      refine sw_seq ?_
      refine sw_seq ?_
      -- region 10 ref.go:250
      refine sw_region [(0, 0), (1, 0), (2, 0), (3, 0), (4, 0), (5, 0)] rfl rfl rfl ?_
      refine sd_vv rfl rfl rfl (vv_move rfl) ?_
      refine sd_vv rfl rfl rfl (vv_fieldAddr fa_31_2 rfl) ?_
      refine sd_vv rfl rfl rfl (vv_fieldAddr fa_28_0 rfl) ?_
      have B39 := (Bx.kz (Bx.ka (Bx.gr B26 Gw9) Aw10 (tk1 ((pv_1 (A := (fun x => x ≠ b1)) f8_r0_s (.inr tk0)) : z8_r0_s = 0 ∨ g8_r0_s ≠ b1))) Kw11 (tk1 ((pv_app (A := (fun x => x ≠ b1)) rw10 (pv_1 (A := (fun x => x ≠ b1)) f8_r0_s (.inr tk0))) : zw10 = 0 ∨ gw10 ≠ b1)))
      refine sd_vv rfl rfl rfl (vv_load1 (v := vp0_2) one_22 rfl B39 rfl) ?_
      have B40 := (Rd.kz B33 Kw11 (tk1 ((pv_sw (pv_app (A := (fun x => zp0_2 = 0 ∨ x ≠ gp0_2)) rw10 (pv_1 (A := (fun x => zp0_2 = 0 ∨ x ≠ gp0_2)) f8_r0_s (.inr (tk1 lt1.o)) (fun x hx => (tk1 lt1.o))) (fun x hx => (tk1 lt1.o)))) : zp0_2 = 0 ∨ zw10 = 0 ∨ gp0_2 ≠ gw10)))
      refine sd_vv rfl rfl rfl (vv_lenT (l := p0.Head.Items) (c := TItem.cs) Try.underlying22 rfl B40) ?_
      refine sd_vv rfl rfl rfl (vv_lss (a := a12) (b := (p0.Head.Items.length : Int)) rfl rfl) ?_
      refine sd_done ?_
      refine sw_cond rfl (fun c2 => ?_) (fun c2 => ?_)
      ·
        replace hm := ite_t (of_decide_eq_true c2) hm
        refine sw_skip ?_
        refine then_n ?_
        refine sw_seq ?_
        refine sw_block ?_
        refine sw_seq ?_
        -- region 12 ref.go:251
        refine sw_region [(0, 0), (1, 0), (2, 0), (3, 0), (4, 0), (5, 0), (6, 0), (7, 0)] rfl rfl rfl ?_
        refine sd_vv rfl rfl rfl (vv_fieldAddr fa_31_2 rfl) ?_
        refine sd_vv rfl rfl rfl (vv_fieldAddr fa_28_0 rfl) ?_
        refine sd_vv rfl rfl rfl (vv_load1 (v := vp0_2) one_22 rfl B39 rfl) ?_
        refine sd_vv rfl rfl rfl (vv_move rfl) ?_
        have hb := bnd hm; clear hm; obtain ⟨y13, hy13, hm⟩ := hb
        refine sd_vv rfl rfl rfl (vv_ixT (i := a12) Try.underlying22 (agg_64).siz rfl B40 rfl hy13) ?_
        refine sd_vv rfl rfl rfl (vv_elWT agg_64 rfl B40 hy13 (by first | rfl | omega)) ?_
        refine sd_ev rfl rfl rfl (ev_alloc (cs := TItem.cs (TItem.mk (TSubset.mk 0 0) k0)) zv_64 rfl) ?_
        rintro _ w12 ⟨b12, rfl, hbw12, Bw12, Gw12⟩
        have z41 := Gw12.size
        have lt42 := Bw12.lt
        refine sd_ev rfl rfl rfl (ev_stM (cs' := TItem.cs y13) (vs := TItem.cs y13) (agg_64).siz rfl rfl rfl rfl rfl Bw12 rfl rfl) ?_
        rintro _ w13 ⟨Bw13, Mw13⟩
        have z43 := Mw13.size
        refine sd_done ?_
        refine sw_seq ?_
        -- region 13 ref.go:252
        refine sw_region [(0, 0), (1, 0), (2, 0), (3, 0), (4, 0), (5, 0), (6, 0), (7, 0), (8, 0), (9, 0), (10, 0), (11, 0)] rfl rfl rfl ?_
        refine sd_vv rfl rfl rfl (vv_move rfl) ?_
        refine sd_vv rfl rfl rfl (vv_fieldAddr fa_64_0 rfl) ?_
        refine sd_vv rfl rfl rfl (vv_fieldAddr fa_62_0 rfl) ?_
        refine sd_vv rfl rfl rfl (vv_load1 (v := .int .i64 y13.Subset.Node) one_3 rfl Bw13 rfl) ?_
        refine sd_vv rfl rfl rfl (vv_cvIB cv_3_5 rfl) ?_
        refine sd_vv rfl rfl rfl (vv_fieldAddr fa_64_0 rfl) ?_
        refine sd_vv rfl rfl rfl (vv_fieldAddr fa_62_1 rfl) ?_
        refine sd_vv rfl rfl rfl (vv_load1 (v := .int .i64 y13.Subset.Minus) one_3 rfl Bw13 rfl) ?_
        refine sd_vv rfl rfl rfl (vv_cvIB cv_3_5 rfl) ?_
        refine sd_ev rfl rfl rfl (ev_litT [wd8 y13.Subset.Node, wd8 y13.Subset.Minus] bvc bsl_29_2 rfl rfl (ws_of rfl) rfl rfl rfl) ?_
        rintro vw14 w14 ⟨gw14, hbw14, Ow14, Gw14⟩
        have z44 := Gw14.size
        have lt45 := Ow14.lth
        have B46 := (Own.gr (Own.md (Own.gr Fw11_0 Gw12) Mw13 (tk1 ((pv_lt (A := (fun x => x ≠ b12)) lt38) : zy11 = 0 ∨ gy11 ≠ b12))) Gw14)
        have hb := bnd hm; clear hm; obtain ⟨l14, hl14, hm⟩ := hb
        refine sd_ev rfl rfl rfl (ev_appT (l := a10) (m := [wd8 y13.Subset.Node, wd8 y13.Subset.Minus]) (c := bvc) apt_29 rfl rfl B46 (Own.rd Ow14) hl14 (by decide)) ?_
        rintro vw15 w15 ⟨zw15, gw15, Ow15, Aw15, qw15, rw15⟩
        have z47 := Aw15.size
        refine sd_vv rfl rfl rfl (vv_assign rfl) ?_
        refine sd_done ?_
        -- region 14 ref.go:253
        refine sw_region [(0, 0), (1, 0), (2, 0), (3, 0), (4, 0)] rfl rfl rfl ?_
        refine sd_vv rfl rfl rfl (vv_move rfl) ?_
        refine sd_vv rfl rfl rfl (vv_fieldAddr fa_64_1 rfl) ?_
        have B48 := (Bx.ka (Bx.gr Bw13 Gw14) Aw15 (tk1 ((pv_lt (A := (fun x => x ≠ b12)) lt38) : zy11 = 0 ∨ gy11 ≠ b12)))
        have Rk49 := rd_key (o := 2) (p := y13.Box) B48 rfl
        have lt50 := Rk49.lth
        refine sd_vv rfl rfl rfl (vv_sliceA (n := 16) (l := 0) (h := 16) Try.underlying26 (one_5).siz rfl rfl rfl (by decide) (by decide) (by decide)) ?_
        have hb := bnd hm; clear hm; obtain ⟨l15, hl15, hm⟩ := hb
        refine sd_ev rfl rfl rfl (ev_appT (l := l14) (m := kby y13.Box) (c := bvc) apt_29 rfl rfl Ow15 Rk49 hl15 (by decide)) ?_
        rintro vw16 w16 ⟨zw16, gw16, Ow16, Aw16, qw16, rw16⟩
        have z51 := Aw16.size
        refine sd_vv rfl rfl rfl (vv_assign rfl) ?_
        refine sd_nil ?_
        refine block_n ?_
        refine then_n ?_
        -- region 11 ref.go:250
        refine sw_region [(0, 0), (1, 0), (2, 0)] rfl rfl rfl ?_
        refine sd_vv rfl rfl rfl (vv_move rfl) ?_
        refine sd_vv rfl rfl rfl (vv_add (k := .i64) (a := a12) (b := 1) rfl rfl) ?_
        refine sd_vv rfl rfl rfl (vv_assign rfl) ?_
        refine sd_nil ?_
        have K_52 : Kz [(zw10, gw10)] w10 w16 := (Kz.ka (Kz.ka (Kz.gr (Kz.md (Kz.gr Kw11 Gw12) Mw13) Gw14) Aw15 (tk1 ((pv_1 (A := (fun x => (x = gw10 ∧ zw10 ≠ 0) ∨ w10.heap.size ≤ x)) Fw11_1 tk0) : zy11 = 0 ∨ (gy11 = gw10 ∧ zw10 ≠ 0) ∨ w10.heap.size ≤ gy11))) Aw16 (tk1 ((pv_app (A := (fun x => (x = gw10 ∧ zw10 ≠ 0) ∨ w10.heap.size ≤ x)) rw15 (pv_1 (A := (fun x => (x = gw10 ∧ zw10 ≠ 0) ∨ w10.heap.size ≤ x)) Fw11_1 tk0)) : zw15 = 0 ∨ (gw15 = gw10 ∧ zw10 ≠ 0) ∨ w10.heap.size ≤ gw15)))
        subst hrec1
        refine ⟨rfl, ⟨n1, l15, w64 (a12 + 1), vw16, zw16, gw16⟩, ?_, ⟨hm, Ow16, ⟨(pv_app (A := (fun x => (x = gw10 ∧ zw10 ≠ 0) ∨ w10.heap.size ≤ x)) rw16 (pv_app (A := (fun x => (x = gw10 ∧ zw10 ≠ 0) ∨ w10.heap.size ≤ x)) rw15 (pv_1 (A := (fun x => (x = gw10 ∧ zw10 ≠ 0) ∨ w10.heap.size ≤ x)) Fw11_1 tk0)))⟩, K_52⟩, Nat.lt_succ_self _⟩
        repeat' first | exact trivial | refine ⟨rfl, ?_⟩
      ·
        replace hm := ite_f (of_decide_eq_false c2) hm
        refine sw_exit ?_
        refine then_x ?_
        refine then_x ?_
        refine block_x ?_
        refine then_n ?_
        refine sw_seq ?_
        -- region 15 ref.go:255
        refine sw_region [(0, 0), (1, 0), (2, 0), (3, 0), (4, 0), (5, 0)] rfl rfl rfl ?_
        refine sd_vv rfl rfl rfl (vv_move rfl) ?_
        refine sd_vv rfl rfl rfl (vv_fieldAddr fa_31_2 rfl) ?_
        refine sd_vv rfl rfl rfl (vv_fieldAddr fa_28_1 rfl) ?_
        refine sd_vv rfl rfl rfl (vv_load1 (v := wv p0.Head.Base) one_23 rfl B39 rfl) ?_
        have hb := bnd hm; clear hm; obtain ⟨x16, hx16, hm⟩ := hb
        refine sd_ev rfl rfl rfl (ev_call en_37 rfl (ref05_number_w a10 p0.Head.Base 8 vy11 zy11 gy11 _ hx16 _ Fw11_0)) ?_
        rintro u17_r0_s w17 ⟨_, z17_r0_s, g17_r0_s, rfl, O17_r0_s, f17_r0_s, Kw17⟩
        have z53 := Kw17.size
        have lt54 := O17_r0_s.lth
        refine sd_vv rfl rfl rfl (vv_assign rfl) ?_
        refine sd_done ?_
        refine sw_seq ?_
        -- region 16 ref.go:256
        refine sw_region [(0, 0), (1, 0), (2, 0), (3, 0), (4, 0), (5, 0), (6, 0), (7, 0), (8, 0)] rfl rfl rfl ?_
        refine sd_vv rfl rfl rfl (vv_move rfl) ?_
        refine sd_vv rfl rfl rfl (vv_fieldAddr fa_31_2 rfl) ?_
        refine sd_vv rfl rfl rfl (vv_fieldAddr fa_28_2 rfl) ?_
        have B55 := (Bx.kz B39 Kw17 (tk1 ((pv_1 (A := (fun x => x ≠ b1)) Fw11_1 (pv_app (A := (fun x => x ≠ b1)) rw10 (pv_1 (A := (fun x => x ≠ b1)) f8_r0_s (.inr tk0)))) : zy11 = 0 ∨ gy11 ≠ b1)))
        refine sd_vv rfl rfl rfl (vv_load1 (v := vp0_4) one_24 rfl B55 rfl) ?_
        have B56 := (Rd.kz (Rd.kz B34 Kw11 (tk1 ((pv_sw (pv_app (A := (fun x => zp0_4 = 0 ∨ x ≠ gp0_4)) rw10 (pv_1 (A := (fun x => zp0_4 = 0 ∨ x ≠ gp0_4)) f8_r0_s (.inr (tk1 lt2.o)) (fun x hx => (tk1 lt2.o))) (fun x hx => (tk1 lt2.o)))) : zp0_4 = 0 ∨ zw10 = 0 ∨ gp0_4 ≠ gw10))) Kw17 (tk1 ((pv_sw (pv_1 (A := (fun x => zp0_4 = 0 ∨ x ≠ gp0_4)) Fw11_1 (pv_app (A := (fun x => zp0_4 = 0 ∨ x ≠ gp0_4)) rw10 (pv_1 (A := (fun x => zp0_4 = 0 ∨ x ≠ gp0_4)) f8_r0_s (.inr (tk1 lt2.o)) (fun x hx => (tk1 lt2.o))) (fun x hx => (tk1 lt2.o))) (fun x hx => (tk1 lt2.o)))) : zp0_4 = 0 ∨ zy11 = 0 ∨ gp0_4 ≠ gy11)))
        refine sd_vv rfl rfl rfl (vv_lenT (l := p0.Head.Points) (c := TPoint.cs) Try.underlying24 rfl B56) ?_
        refine sd_vv rfl rfl rfl (vv_cvIB cv_3_5 rfl) ?_
        refine sd_ev rfl rfl rfl (ev_litT [wd8 (p0.Head.Points.length : Int)] bvc bsl_29_1 rfl rfl (ws_of rfl) rfl rfl rfl) ?_
        rintro vw18 w18 ⟨gw18, hbw18, Ow18, Gw18⟩
        have z57 := Gw18.size
        have lt58 := Ow18.lth
        have B59 := (Own.gr O17_r0_s Gw18)
        have hb := bnd hm; clear hm; obtain ⟨l17, hl17, hm⟩ := hb
        refine sd_ev rfl rfl rfl (ev_appT (l := x16) (m := [wd8 (p0.Head.Points.length : Int)]) (c := bvc) apt_29 rfl rfl B59 (Own.rd Ow18) hl17 (by decide)) ?_
        rintro vw19 w19 ⟨zw19, gw19, Ow19, Aw19, qw19, rw19⟩
        have z60 := Aw19.size
        refine sd_vv rfl rfl rfl (vv_assign rfl) ?_
        refine sd_done ?_
        refine sw_seq ?_
        refine sw_seq ?_
        -- region 17 ref.go:257
        refine sw_region [(0, 0)] rfl rfl rfl ?_
        refine sd_vv rfl rfl rfl (vv_assign rfl) ?_
        refine sd_done ?_
        refine sw_block ?_
        have X61 : Gr w w19 := (Gr.ka (Gr.trans (Gr.kz (Gr.kz X32 Kw11 (tk1 ((pv_app (A := (fun x => w.heap.size ≤ x)) rw10 (pv_1 (A := (fun x => w.heap.size ≤ x)) f8_r0_s (.inr tk0))) : zw10 = 0 ∨ w.heap.size ≤ gw10))) Kw17 (tk1 ((pv_1 (A := (fun x => w.heap.size ≤ x)) Fw11_1 (pv_app (A := (fun x => w.heap.size ≤ x)) rw10 (pv_1 (A := (fun x => w.heap.size ≤ x)) f8_r0_s (.inr tk0)))) : zy11 = 0 ∨ w.heap.size ≤ gy11))) Gw18) Aw19 (tk1 ((pv_1 (A := (fun x => w.heap.size ≤ x)) f17_r0_s (pv_1 (A := (fun x => w.heap.size ≤ x)) Fw11_1 (pv_app (A := (fun x => w.heap.size ≤ x)) rw10 (pv_1 (A := (fun x => w.heap.size ≤ x)) f8_r0_s (.inr tk0))))) : z17_r0_s = 0 ∨ w.heap.size ≤ g17_r0_s)))
        have B62 := (Rd.ka (Rd.gr (Rd.kz B40 Kw17 (tk1 ((pv_sw (pv_1 (A := (fun x => zp0_2 = 0 ∨ x ≠ gp0_2)) Fw11_1 (pv_app (A := (fun x => zp0_2 = 0 ∨ x ≠ gp0_2)) rw10 (pv_1 (A := (fun x => zp0_2 = 0 ∨ x ≠ gp0_2)) f8_r0_s (.inr (tk1 lt1.o)) (fun x hx => (tk1 lt1.o))) (fun x hx => (tk1 lt1.o))) (fun x hx => (tk1 lt1.o)))) : zp0_2 = 0 ∨ zy11 = 0 ∨ gp0_2 ≠ gy11))) Gw18) Aw19 (tk1 ((pv_sw (pv_1 (A := (fun x => zp0_2 = 0 ∨ x ≠ gp0_2)) f17_r0_s (pv_1 (A := (fun x => zp0_2 = 0 ∨ x ≠ gp0_2)) Fw11_1 (pv_app (A := (fun x => zp0_2 = 0 ∨ x ≠ gp0_2)) rw10 (pv_1 (A := (fun x => zp0_2 = 0 ∨ x ≠ gp0_2)) f8_r0_s (.inr (tk1 lt1.o)) (fun x hx => (tk1 lt1.o))) (fun x hx => (tk1 lt1.o))) (fun x hx => (tk1 lt1.o))) (fun x hx => (tk1 lt1.o)))) : zp0_2 = 0 ∨ z17_r0_s = 0 ∨ gp0_2 ≠ g17_r0_s)))
        have B63 := (Rd.ka (Rd.gr B56 Gw18) Aw19 (tk1 ((pv_sw (pv_1 (A := (fun x => zp0_4 = 0 ∨ x ≠ gp0_4)) f17_r0_s (pv_1 (A := (fun x => zp0_4 = 0 ∨ x ≠ gp0_4)) Fw11_1 (pv_app (A := (fun x => zp0_4 = 0 ∨ x ≠ gp0_4)) rw10 (pv_1 (A := (fun x => zp0_4 = 0 ∨ x ≠ gp0_4)) f8_r0_s (.inr (tk1 lt2.o)) (fun x hx => (tk1 lt2.o))) (fun x hx => (tk1 lt2.o))) (fun x hx => (tk1 lt2.o))) (fun x hx => (tk1 lt2.o)))) : zp0_4 = 0 ∨ z17_r0_s = 0 ∨ gp0_4 ≠ g17_r0_s)))
        have B64 := (Rd.ka (Rd.gr (Rd.kz (Rd.kz B35 Kw11 (tk1 ((pv_sw (pv_app (A := (fun x => zp0_39 = 0 ∨ x ≠ gp0_39)) rw10 (pv_1 (A := (fun x => zp0_39 = 0 ∨ x ≠ gp0_39)) f8_r0_s (.inr (tk1 lt3.o)) (fun x hx => (tk1 lt3.o))) (fun x hx => (tk1 lt3.o)))) : zp0_39 = 0 ∨ zw10 = 0 ∨ gp0_39 ≠ gw10))) Kw17 (tk1 ((pv_sw (pv_1 (A := (fun x => zp0_39 = 0 ∨ x ≠ gp0_39)) Fw11_1 (pv_app (A := (fun x => zp0_39 = 0 ∨ x ≠ gp0_39)) rw10 (pv_1 (A := (fun x => zp0_39 = 0 ∨ x ≠ gp0_39)) f8_r0_s (.inr (tk1 lt3.o)) (fun x hx => (tk1 lt3.o))) (fun x hx => (tk1 lt3.o))) (fun x hx => (tk1 lt3.o)))) : zp0_39 = 0 ∨ zy11 = 0 ∨ gp0_39 ≠ gy11))) Gw18) Aw19 (tk1 ((pv_sw (pv_1 (A := (fun x => zp0_39 = 0 ∨ x ≠ gp0_39)) f17_r0_s (pv_1 (A := (fun x => zp0_39 = 0 ∨ x ≠ gp0_39)) Fw11_1 (pv_app (A := (fun x => zp0_39 = 0 ∨ x ≠ gp0_39)) rw10 (pv_1 (A := (fun x => zp0_39 = 0 ∨ x ≠ gp0_39)) f8_r0_s (.inr (tk1 lt3.o)) (fun x hx => (tk1 lt3.o))) (fun x hx => (tk1 lt3.o))) (fun x hx => (tk1 lt3.o))) (fun x hx => (tk1 lt3.o)))) : zp0_39 = 0 ∨ z17_r0_s = 0 ∨ gp0_39 ≠ g17_r0_s)))
        have B65 := (Own.ka (Own.gr (Own.kz (Own.kz B36 Kw11 (tk1 ((pv_sw (pv_app (A := (fun x => 1 = 0 ∨ x ≠ gw9)) rw10 (pv_sw (.inr (tk1 lt25.o))) (fun x hx => (tk1 lt29.o)))) : 1 = 0 ∨ zw10 = 0 ∨ gw9 ≠ gw10))) Kw17 (tk1 ((pv_sw (pv_1 (A := (fun x => 1 = 0 ∨ x ≠ gw9)) Fw11_1 (pv_app (A := (fun x => 1 = 0 ∨ x ≠ gw9)) rw10 (pv_sw (.inr (tk1 lt25.o))) (fun x hx => (tk1 lt29.o))) (fun x hx => (tk1 lt29.o)))) : 1 = 0 ∨ zy11 = 0 ∨ gw9 ≠ gy11))) Gw18) Aw19 (tk1 ((pv_sw (pv_1 (A := (fun x => 1 = 0 ∨ x ≠ gw9)) f17_r0_s (pv_1 (A := (fun x => 1 = 0 ∨ x ≠ gw9)) Fw11_1 (pv_app (A := (fun x => 1 = 0 ∨ x ≠ gw9)) rw10 (pv_sw (.inr (tk1 lt25.o))) (fun x hx => (tk1 lt29.o))) (fun x hx => (tk1 lt29.o))) (fun x hx => (tk1 lt29.o)))) : 1 = 0 ∨ z17_r0_s = 0 ∨ gw9 ≠ g17_r0_s)))
        have B66 := (Own.ka Ow18 Aw19 (tk1 ((.inr (tk1 lt54.o)) : 1 = 0 ∨ z17_r0_s = 0 ∨ gw18 ≠ g17_r0_s)))
        refine sw_loopD (α := Nat × List (BitVec 8) × Int × Value × Nat × Nat) [3, 6, 87, 88, 89, 90, 91, 92, 93, 94, 95, 96, 97, 98, 99, 100, 101, 102, 103, 104, 105, 106, 107, 108, 109, 110, 111, 112] (fun ⟨n2, a21, a23, vy22, zy22, gy22⟩ => [(3, vy22), (6, .int .i64 a23)]) (fun ⟨n2, a21, a23, vy22, zy22, gy22⟩ wr => (fixN (ref05_Body_L2 p0) n2 (a21, a23) = some r) ∧ Own wr zy22 gy22 5 1 vy22 (a21.map bvc) ∧ Hdn (zy22 = 0 ∨ (gy22 = gw19 ∧ zw19 ≠ 0) ∨ w19.heap.size ≤ gy22) ∧ Kz [(zw19, gw19)] w19 wr) (fun ⟨n2, a21, a23, vy22, zy22, gy22⟩ => n2) ⟨FUEL, l17, 0, vw19, zw19, gw19⟩ ?_ ?_ ?_
        · repeat' first | exact trivial | refine ⟨rfl, ?_⟩
        · exact ⟨hm, Ow19, ⟨tk0⟩, Kz.refl _ _⟩
        · clear hm; rintro ⟨n2, a21, a23, vy22, zy22, gy22⟩ w20 ⟨hm, Fw20_0, Fw20_1, Kw20⟩
          have z67 := Kw20.size
          have lt68 := Fw20_0.lth
          have hb := fix_succ hm; clear hm; obtain ⟨n2, rfl, hm⟩ := hb
          generalize hrec2 : fixN (ref05_Body_L2 p0) n2 = rec2 at hm
          unfold ref05_Body_L2 at hm
          try dsimp only at hm
          refine sw_seq ?_
          refine sw_seq ?_
          -- region 18 ref.go:257
          refine sw_region [(0, 0), (1, 0), (2, 0), (3, 0), (4, 0), (5, 0)] rfl rfl rfl ?_
          refine sd_vv rfl rfl rfl (vv_move rfl) ?_
          refine sd_vv rfl rfl rfl (vv_fieldAddr fa_31_2 rfl) ?_
          refine sd_vv rfl rfl rfl (vv_fieldAddr fa_28_2 rfl) ?_
          have B69 := (Bx.kz (Bx.ka (Bx.gr B55 Gw18) Aw19 (tk1 ((pv_1 (A := (fun x => x ≠ b1)) f17_r0_s (pv_1 (A := (fun x => x ≠ b1)) Fw11_1 (pv_app (A := (fun x => x ≠ b1)) rw10 (pv_1 (A := (fun x => x ≠ b1)) f8_r0_s (.inr tk0))))) : z17_r0_s = 0 ∨ g17_r0_s ≠ b1))) Kw20 (tk1 ((pv_app (A := (fun x => x ≠ b1)) rw19 (pv_1 (A := (fun x => x ≠ b1)) f17_r0_s (pv_1 (A := (fun x => x ≠ b1)) Fw11_1 (pv_app (A := (fun x => x ≠ b1)) rw10 (pv_1 (A := (fun x => x ≠ b1)) f8_r0_s (.inr tk0)))))) : zw19 = 0 ∨ gw19 ≠ b1)))
          refine sd_vv rfl rfl rfl (vv_load1 (v := vp0_4) one_24 rfl B69 rfl) ?_
          have B70 := (Rd.kz B63 Kw20 (tk1 ((pv_sw (pv_app (A := (fun x => zp0_4 = 0 ∨ x ≠ gp0_4)) rw19 (pv_1 (A := (fun x => zp0_4 = 0 ∨ x ≠ gp0_4)) f17_r0_s (pv_1 (A := (fun x => zp0_4 = 0 ∨ x ≠ gp0_4)) Fw11_1 (pv_app (A := (fun x => zp0_4 = 0 ∨ x ≠ gp0_4)) rw10 (pv_1 (A := (fun x => zp0_4 = 0 ∨ x ≠ gp0_4)) f8_r0_s (.inr (tk1 lt2.o)) (fun x hx => (tk1 lt2.o))) (fun x hx => (tk1 lt2.o))) (fun x hx => (tk1 lt2.o))) (fun x hx => (tk1 lt2.o))) (fun x hx => (tk1 lt2.o)))) : zp0_4 = 0 ∨ zw19 = 0 ∨ gp0_4 ≠ gw19)))
          refine sd_vv rfl rfl rfl (vv_lenT (l := p0.Head.Points) (c := TPoint.cs) Try.underlying24 rfl B70) ?_
          refine sd_vv rfl rfl rfl (vv_lss (a := a23) (b := (p0.Head.Points.length : Int)) rfl rfl) ?_
          refine sd_done ?_
          refine sw_cond rfl (fun c3 => ?_) (fun c3 => ?_)
          ·
            replace hm := ite_t (of_decide_eq_true c3) hm
            refine sw_skip ?_
            refine then_n ?_
            refine sw_seq ?_
            refine sw_block ?_
            refine sw_seq ?_
            -- region 20 ref.go:258
            refine sw_region [(0, 0), (1, 0), (2, 0), (3, 0), (4, 0), (5, 0), (6, 0), (7, 0), (8, 0), (9, 0)] rfl rfl rfl ?_
            refine sd_vv rfl rfl rfl (vv_move rfl) ?_
            refine sd_vv rfl rfl rfl (vv_fieldAddr fa_31_2 rfl) ?_
            refine sd_vv rfl rfl rfl (vv_fieldAddr fa_28_2 rfl) ?_
            refine sd_vv rfl rfl rfl (vv_load1 (v := vp0_4) one_24 rfl B69 rfl) ?_
            refine sd_vv rfl rfl rfl (vv_move rfl) ?_
            have hb := bnd hm; clear hm; obtain ⟨y24, hy24, hm⟩ := hb
            refine sd_vv rfl rfl rfl (vv_ixT (i := a23) Try.underlying24 (agg_35).siz rfl B70 rfl hy24) ?_
            refine sd_vv rfl rfl rfl (vv_fieldAddr fa_35_0 rfl) ?_
            refine sd_vv rfl rfl rfl (vv_el1T (q := 0) (u := wv y24.X) one_23 rfl B70 hy24 (by first | rfl | omega) rfl) ?_
            have hb := bnd hm; clear hm; obtain ⟨x25, hx25, hm⟩ := hb
            refine sd_ev rfl rfl rfl (ev_call en_37 rfl (ref05_number_w a21 y24.X 8 vy22 zy22 gy22 _ hx25 _ Fw20_0)) ?_
            rintro u21_r0_s w21 ⟨_, z21_r0_s, g21_r0_s, rfl, O21_r0_s, f21_r0_s, Kw21⟩
            have z71 := Kw21.size
            have lt72 := O21_r0_s.lth
            refine sd_vv rfl rfl rfl (vv_assign rfl) ?_
            refine sd_done ?_
            -- region 21 ref.go:259
            refine sw_region [(0, 0), (1, 0), (2, 0), (3, 0), (4, 0), (5, 0), (6, 0), (7, 0), (8, 0), (9, 0)] rfl rfl rfl ?_
            refine sd_vv rfl rfl rfl (vv_move rfl) ?_
            refine sd_vv rfl rfl rfl (vv_fieldAddr fa_31_2 rfl) ?_
            refine sd_vv rfl rfl rfl (vv_fieldAddr fa_28_2 rfl) ?_
            have B73 := (Bx.kz B69 Kw21 (tk1 ((pv_1 (A := (fun x => x ≠ b1)) Fw20_1 (pv_app (A := (fun x => x ≠ b1)) rw19 (pv_1 (A := (fun x => x ≠ b1)) f17_r0_s (pv_1 (A := (fun x => x ≠ b1)) Fw11_1 (pv_app (A := (fun x => x ≠ b1)) rw10 (pv_1 (A := (fun x => x ≠ b1)) f8_r0_s (.inr tk0))))))) : zy22 = 0 ∨ gy22 ≠ b1)))
            refine sd_vv rfl rfl rfl (vv_load1 (v := vp0_4) one_24 rfl B73 rfl) ?_
            refine sd_vv rfl rfl rfl (vv_move rfl) ?_
            have hb := bnd hm; clear hm; obtain ⟨y26, hy26, hm⟩ := hb
            have B74 := (Rd.kz B70 Kw21 (tk1 ((pv_sw (pv_1 (A := (fun x => zp0_4 = 0 ∨ x ≠ gp0_4)) Fw20_1 (pv_app (A := (fun x => zp0_4 = 0 ∨ x ≠ gp0_4)) rw19 (pv_1 (A := (fun x => zp0_4 = 0 ∨ x ≠ gp0_4)) f17_r0_s (pv_1 (A := (fun x => zp0_4 = 0 ∨ x ≠ gp0_4)) Fw11_1 (pv_app (A := (fun x => zp0_4 = 0 ∨ x ≠ gp0_4)) rw10 (pv_1 (A := (fun x => zp0_4 = 0 ∨ x ≠ gp0_4)) f8_r0_s (.inr (tk1 lt2.o)) (fun x hx => (tk1 lt2.o))) (fun x hx => (tk1 lt2.o))) (fun x hx => (tk1 lt2.o))) (fun x hx => (tk1 lt2.o))) (fun x hx => (tk1 lt2.o))) (fun x hx => (tk1 lt2.o)))) : zp0_4 = 0 ∨ zy22 = 0 ∨ gp0_4 ≠ gy22)))
            refine sd_vv rfl rfl rfl (vv_ixT (i := a23) Try.underlying24 (agg_35).siz rfl B74 rfl hy26) ?_
            refine sd_vv rfl rfl rfl (vv_fieldAddr fa_35_1 rfl) ?_
            refine sd_vv rfl rfl rfl (vv_el1T (q := 1) (u := wv y26.Y) one_23 rfl B74 hy26 (by first | rfl | omega) rfl) ?_
            have hb := bnd hm; clear hm; obtain ⟨x27, hx27, hm⟩ := hb
            refine sd_ev rfl rfl rfl (ev_call en_37 rfl (ref05_number_w x25 y26.Y 8 u21_r0_s z21_r0_s g21_r0_s _ hx27 _ O21_r0_s)) ?_
            rintro u22_r0_s w22 ⟨_, z22_r0_s, g22_r0_s, rfl, O22_r0_s, f22_r0_s, Kw22⟩
            have z75 := Kw22.size
            have lt76 := O22_r0_s.lth
            refine sd_vv rfl rfl rfl (vv_assign rfl) ?_
            refine sd_nil ?_
            refine block_n ?_
            refine then_n ?_
            -- region 19 ref.go:257
            refine sw_region [(0, 0), (1, 0), (2, 0)] rfl rfl rfl ?_
            refine sd_vv rfl rfl rfl (vv_move rfl) ?_
            refine sd_vv rfl rfl rfl (vv_add (k := .i64) (a := a23) (b := 1) rfl rfl) ?_
            refine sd_vv rfl rfl rfl (vv_assign rfl) ?_
            refine sd_nil ?_
            have K_77 : Kz [(zw19, gw19)] w19 w22 := (Kz.kz (Kz.kz Kw20 Kw21 (tk1 ((pv_1 (A := (fun x => (x = gw19 ∧ zw19 ≠ 0) ∨ w19.heap.size ≤ x)) Fw20_1 tk0) : zy22 = 0 ∨ (gy22 = gw19 ∧ zw19 ≠ 0) ∨ w19.heap.size ≤ gy22))) Kw22 (tk1 ((pv_1 (A := (fun x => (x = gw19 ∧ zw19 ≠ 0) ∨ w19.heap.size ≤ x)) f21_r0_s (pv_1 (A := (fun x => (x = gw19 ∧ zw19 ≠ 0) ∨ w19.heap.size ≤ x)) Fw20_1 tk0)) : z21_r0_s = 0 ∨ (g21_r0_s = gw19 ∧ zw19 ≠ 0) ∨ w19.heap.size ≤ g21_r0_s)))
            subst hrec2
            refine ⟨rfl, ⟨n2, x27, w64 (a23 + 1), u22_r0_s, z22_r0_s, g22_r0_s⟩, ?_, ⟨hm, O22_r0_s, ⟨(pv_1 (A := (fun x => (x = gw19 ∧ zw19 ≠ 0) ∨ w19.heap.size ≤ x)) f22_r0_s (pv_1 (A := (fun x => (x = gw19 ∧ zw19 ≠ 0) ∨ w19.heap.size ≤ x)) f21_r0_s (pv_1 (A := (fun x => (x = gw19 ∧ zw19 ≠ 0) ∨ w19.heap.size ≤ x)) Fw20_1 tk0)))⟩, K_77⟩, Nat.lt_succ_self _⟩
            repeat' first | exact trivial | refine ⟨rfl, ?_⟩
          ·
            replace hm := ite_f (of_decide_eq_false c3) hm
            refine sw_exit ?_
            refine then_x ?_
            refine then_x ?_
            refine block_x ?_
            refine then_n ?_
            refine sw_seq ?_
            -- region 22 ref.go:261
            refine sw_region [(0, 0), (1, 0), (2, 0), (3, 0), (4, 0), (5, 0)] rfl rfl rfl ?_
            refine sd_vv rfl rfl rfl (vv_move rfl) ?_
            refine sd_vv rfl rfl rfl (vv_fieldAddr fa_31_2 rfl) ?_
            refine sd_vv rfl rfl rfl (vv_fieldAddr fa_28_3 rfl) ?_
            have Rk78 := rd_key (o := 5) (p := p0.Head.Box) B69 rfl
            have lt79 := Rk78.lth
            refine sd_vv rfl rfl rfl (vv_sliceA (n := 16) (l := 0) (h := 16) Try.underlying26 (one_5).siz rfl rfl rfl (by decide) (by decide) (by decide)) ?_
            have hb := bnd hm; clear hm; obtain ⟨l28, hl28, hm⟩ := hb
            refine sd_ev rfl rfl rfl (ev_appT (l := a21) (m := kby p0.Head.Box) (c := bvc) apt_29 rfl rfl Fw20_0 Rk78 hl28 (by decide)) ?_
            rintro vw23 w23 ⟨zw23, gw23, Ow23, Aw23, qw23, rw23⟩
            have z80 := Aw23.size
            refine sd_vv rfl rfl rfl (vv_assign rfl) ?_
            refine sd_done ?_
            refine sw_seq ?_
            -- region 23 ref.go:262
            refine sw_region [(0, 0), (1, 0), (2, 0), (3, 0), (4, 0), (5, 0)] rfl rfl rfl ?_
            refine sd_vv rfl rfl rfl (vv_move rfl) ?_
            refine sd_vv rfl rfl rfl (vv_fieldAddr fa_31_2 rfl) ?_
            refine sd_vv rfl rfl rfl (vv_fieldAddr fa_28_4 rfl) ?_
            have B81 := (Bx.ka B69 Aw23 (tk1 ((pv_1 (A := (fun x => x ≠ b1)) Fw20_1 (pv_app (A := (fun x => x ≠ b1)) rw19 (pv_1 (A := (fun x => x ≠ b1)) f17_r0_s (pv_1 (A := (fun x => x ≠ b1)) Fw11_1 (pv_app (A := (fun x => x ≠ b1)) rw10 (pv_1 (A := (fun x => x ≠ b1)) f8_r0_s (.inr tk0))))))) : zy22 = 0 ∨ gy22 ≠ b1)))
            have Rk82 := rd_key (o := 21) (p := p0.Head.Check) B81 rfl
            have lt83 := Rk82.lth
            refine sd_vv rfl rfl rfl (vv_sliceA (n := 16) (l := 0) (h := 16) Try.underlying26 (one_5).siz rfl rfl rfl (by decide) (by decide) (by decide)) ?_
            have hb := bnd hm; clear hm; obtain ⟨l29, hl29, hm⟩ := hb
            refine sd_ev rfl rfl rfl (ev_appT (l := l28) (m := kby p0.Head.Check) (c := bvc) apt_29 rfl rfl Ow23 Rk82 hl29 (by decide)) ?_
            rintro vw24 w24 ⟨zw24, gw24, Ow24, Aw24, qw24, rw24⟩
            have z84 := Aw24.size
            refine sd_vv rfl rfl rfl (vv_assign rfl) ?_
            refine sd_done ?_
            refine sw_ret ?_
            have X85 : Gr w w24 := (Gr.ka (Gr.ka (Gr.kz X61 Kw20 (tk1 ((pv_app (A := (fun x => w.heap.size ≤ x)) rw19 (pv_1 (A := (fun x => w.heap.size ≤ x)) f17_r0_s (pv_1 (A := (fun x => w.heap.size ≤ x)) Fw11_1 (pv_app (A := (fun x => w.heap.size ≤ x)) rw10 (pv_1 (A := (fun x => w.heap.size ≤ x)) f8_r0_s (.inr tk0)))))) : zw19 = 0 ∨ w.heap.size ≤ gw19))) Aw23 (tk1 ((pv_1 (A := (fun x => w.heap.size ≤ x)) Fw20_1 (pv_app (A := (fun x => w.heap.size ≤ x)) rw19 (pv_1 (A := (fun x => w.heap.size ≤ x)) f17_r0_s (pv_1 (A := (fun x => w.heap.size ≤ x)) Fw11_1 (pv_app (A := (fun x => w.heap.size ≤ x)) rw10 (pv_1 (A := (fun x => w.heap.size ≤ x)) f8_r0_s (.inr tk0))))))) : zy22 = 0 ∨ w.heap.size ≤ gy22))) Aw24 (tk1 ((pv_app (A := (fun x => w.heap.size ≤ x)) rw23 (pv_1 (A := (fun x => w.heap.size ≤ x)) Fw20_1 (pv_app (A := (fun x => w.heap.size ≤ x)) rw19 (pv_1 (A := (fun x => w.heap.size ≤ x)) f17_r0_s (pv_1 (A := (fun x => w.heap.size ≤ x)) Fw11_1 (pv_app (A := (fun x => w.heap.size ≤ x)) rw10 (pv_1 (A := (fun x => w.heap.size ≤ x)) f8_r0_s (.inr tk0)))))))) : zw23 = 0 ∨ w.heap.size ≤ gw23)))
            have hr := Option.some.inj hm
            subst hr
            refine ⟨_, _, rfl, res_1 rfl (rv_tmp rfl), ?_⟩
            exact ⟨vw24, zw24, gw24, rfl, Ow24, ⟨(pv_app (A := (fun x => w.heap.size ≤ x)) rw24 (pv_app (A := (fun x => w.heap.size ≤ x)) rw23 (pv_1 (A := (fun x => w.heap.size ≤ x)) Fw20_1 (pv_app (A := (fun x => w.heap.size ≤ x)) rw19 (pv_1 (A := (fun x => w.heap.size ≤ x)) f17_r0_s (pv_1 (A := (fun x => w.heap.size ≤ x)) Fw11_1 (pv_app (A := (fun x => w.heap.size ≤ x)) rw10 (pv_1 (A := (fun x => w.heap.size ≤ x)) f8_r0_s (.inr tk0)))))))))⟩, X85⟩

set_option maxHeartbeats 2000000 in
theorem ref05_Bytes_w (p0 : TPacket) (vp0_2 : Value) (zp0_2 gp0_2 op0_2 : Nat) (vp0_4 : Value) (zp0_4 gp0_4 op0_4 : Nat) (vp0_39 : Value) (zp0_39 gp0_39 op0_39 : Nat) (r : List (BitVec 8)) (hm : ref05_Bytes p0 = some r) (w : World) (hp0_2 : Rd w zp0_2 gp0_2 op0_2 18 vp0_2 (p0.Head.Items.map TItem.cs)) (hp0_4 : Rd w zp0_4 gp0_4 op0_4 2 vp0_4 (p0.Head.Points.map TPoint.cs)) (hp0_39 : Rd w zp0_39 gp0_39 op0_39 1 vp0_39 (p0.Data.map bvc))  :
    Calls Try.prog 14 [.agg (TPacket.cs p0 vp0_2 vp0_4 vp0_39).toArray].toArray w fun e w' => ∃ v, e = .returned v ∧ (∃ (ur0_s : Value) (zr0_s : Nat) (gr0_s : Nat), v = ur0_s ∧ Own w' zr0_s gr0_s 5 1 ur0_s (r.map bvc) ∧ Hdn (zr0_s = 0 ∨ w.heap.size ≤ gr0_s) ∧ Gr w w') := by
  have lt1 := hp0_2.lth
  have lt2 := hp0_4.lth
  have lt3 := hp0_39.lth
  unfold ref05_Bytes at hm
  refine calls_of_sw (R := fun v w' => ∃ (ur0_s : Value) (zr0_s : Nat) (gr0_s : Nat), v = ur0_s ∧ Own w' zr0_s gr0_s 5 1 ur0_s (r.map bvc) ∧ Hdn (zr0_s = 0 ∨ w.heap.size ≤ gr0_s) ∧ Gr w w') 8 Try.func14 rfl rfl rfl ?_
  refine sw_seq ?_
  -- region 0 ref.go:266
  refine sw_region [(0, 0), (1, 0)] rfl rfl rfl ?_
  refine sd_ev rfl rfl rfl (ev_box (cs := TPacket.cs p0 vp0_2 vp0_4 vp0_39) rfl rfl) ?_
  rintro _ w1 ⟨b1, rfl, hbw1, Bw1, Gw1⟩
  have z4 := Gw1.size
  have lt5 := Bw1.lt
  refine sd_vv rfl rfl rfl (vv_assign rfl) ?_
  refine sd_done ?_
  refine sw_seq ?_
  -- region 1 ref.go:266 DRAWS
  refine sw_drawN [([])] [] (.leaf [(0, 10), (2, 10), (3, 10), (1, 0), (4, 0), (5, 10)]) (by kernel_rfl) (by kernel_rfl) rfl (by kernel_rfl) ?_
  intro w2 Gw2 zw2
  refine sdz_leaf ?_
  have B6 := (Bx.gr Bw1 Gw2)
  refine dd_hn 0 rfl rfl rfl rfl (Kp.refl ([]) w2) (fun w hS => vv_loadW agg_31 rfl (Bx.kp B6 hS) rfl) ?_
  refine dd_hn 0 rfl rfl rfl rfl (Kp.refl ([]) w2) (fun w hS => vv_fieldAddr fa_31_6 rfl) ?_
  have Rk7 := rd_key (o := 40) (p := p0.Mac) B6 rfl
  have lt8 := Rk7.lth
  refine dd_hn 0 rfl rfl rfl rfl (Kp.refl ([]) w2) (fun w hS => vv_sliceA (n := 16) (l := 0) (h := 16) Try.underlying26 (one_5).siz rfl rfl rfl (by decide) (by decide) (by decide)) ?_
  have B9 := (Rd.gr (Rd.gr hp0_2 Gw1) Gw2)
  have B10 := (Rd.gr (Rd.gr hp0_4 Gw1) Gw2)
  have B11 := (Rd.gr (Rd.gr hp0_39 Gw1) Gw2)
  have hb := bnd hm; clear hm; obtain ⟨x1, hx1, hm⟩ := hb
  refine dd_z [] rfl rfl rfl (ev_call en_33 rfl (ref05_Body_w p0 _ _ _ _ _ _ _ _ _ _ _ _ _ hx1 _ B9 B10 B11)) ⟨fun _ => tk0, trivial⟩ ?_
  rintro u3_r0_s w3 ⟨_, z3_r0_s, g3_r0_s, rfl, O3_r0_s, f3_r0_s, Gw3⟩
  have z12 := Gw3.size
  have lt13 := O3_r0_s.lth
  refine ⟨Kz.ofGr Gw3, ?_⟩
  have B14 := (Rd.gr Rk7 Gw3)
  have hb := bnd hm; clear hm; obtain ⟨l2, hl2, hm⟩ := hb
  refine dd_z [(z3_r0_s, g3_r0_s)] rfl rfl rfl (ev_appT (l := x1) (m := kby p0.Mac) (c := bvc) apt_29 rfl rfl O3_r0_s B14 hl2 (by decide)) ⟨fun _ => (tk1 ((pv_0 (A := (fun x => w2.heap.size ≤ x)) f3_r0_s) : z3_r0_s = 0 ∨ w2.heap.size ≤ g3_r0_s)), trivial⟩ ?_
  rintro vw4 w4 ⟨zw4, gw4, Ow4, Aw4, qw4, rw4⟩
  have z15 := Aw4.size
  refine ⟨Kz.ofKa Aw4, ?_⟩
  have S16 := (Kp.ka (Kp.gr (Kp.refl ([]) w2) Gw3) Aw4 (tk1 ((pv_0 (A := (fun x => w2.heap.size ≤ x)) f3_r0_s) : z3_r0_s = 0 ∨ w2.heap.size ≤ g3_r0_s)))
  refine dd_hn 0 rfl rfl rfl rfl S16 (fun w hS => vv_assign rfl) ?_
  refine sd_done ?_
  refine sw_ret ?_
  have X17 : Gr w w4 := (Gr.ka (Gr.trans (Gr.trans (Gr.trans (Gr.refl w) Gw1) Gw2) Gw3) Aw4 (tk1 ((pv_0 (A := (fun x => w.heap.size ≤ x)) f3_r0_s) : z3_r0_s = 0 ∨ w.heap.size ≤ g3_r0_s)))
  have hr := Option.some.inj hm
  subst hr
  refine ⟨_, _, rfl, res_1 rfl (rv_tmp rfl), ?_⟩
  exact ⟨vw4, zw4, gw4, rfl, Ow4, ⟨(pv_app (A := (fun x => w.heap.size ≤ x)) rw4 (pv_0 (A := (fun x => w.heap.size ≤ x)) f3_r0_s))⟩, X17⟩

set_option maxHeartbeats 2000000 in
theorem ref05_Encode_w (p0 : TPacket) (vp0_2 : Value) (zp0_2 gp0_2 op0_2 : Nat) (vp0_4 : Value) (zp0_4 gp0_4 op0_4 : Nat) (vp0_39 : Value) (zp0_39 gp0_39 op0_39 : Nat) (r : List (BitVec 8) × Int) (hm : ref05_Encode p0 = some r) (w : World) (hp0_2 : Rd w zp0_2 gp0_2 op0_2 18 vp0_2 (p0.Head.Items.map TItem.cs)) (hp0_4 : Rd w zp0_4 gp0_4 op0_4 2 vp0_4 (p0.Head.Points.map TPoint.cs)) (hp0_39 : Rd w zp0_39 gp0_39 op0_39 1 vp0_39 (p0.Data.map bvc))  :
    Calls Try.prog 6 [.agg (TPacket.cs p0 vp0_2 vp0_4 vp0_39).toArray].toArray w fun e w' => ∃ v, e = .returned v ∧ (∃ (ur0_s : Value) (zr0_s : Nat) (gr0_s : Nat), v = .tuple [ur0_s, .int .i64 r.2].toArray ∧ Own w' zr0_s gr0_s 5 1 ur0_s (r.1.map bvc) ∧ Hdn (zr0_s = 0 ∨ w.heap.size ≤ gr0_s) ∧ Gr w w') := by
  have lt1 := hp0_2.lth
  have lt2 := hp0_4.lth
  have lt3 := hp0_39.lth
  unfold ref05_Encode at hm
  refine calls_of_sw (R := fun v w' => ∃ (ur0_s : Value) (zr0_s : Nat) (gr0_s : Nat), v = .tuple [ur0_s, .int .i64 r.2].toArray ∧ Own w' zr0_s gr0_s 5 1 ur0_s (r.1.map bvc) ∧ Hdn (zr0_s = 0 ∨ w.heap.size ≤ gr0_s) ∧ Gr w w') 9 Try.func6 rfl rfl rfl ?_
  refine sw_seq ?_
  -- region 0 ref.go:269
  refine sw_region [(0, 0), (1, 0), (2, 0)] rfl rfl rfl ?_
  refine sd_ev rfl rfl rfl (ev_box (cs := TPacket.cs p0 vp0_2 vp0_4 vp0_39) rfl rfl) ?_
  rintro _ w1 ⟨b1, rfl, hbw1, Bw1, Gw1⟩
  have z4 := Gw1.size
  have lt5 := Bw1.lt
  refine sd_vv rfl rfl rfl (vv_assign rfl) ?_
  refine sd_vv rfl rfl rfl (vv_assign rfl) ?_
  refine sd_done ?_
  refine sw_seq ?_
  refine sw_seq ?_
  -- region 1 ref.go:270
  refine sw_region [(0, 0), (1, 0), (2, 0)] rfl rfl rfl ?_
  refine sd_vv rfl rfl rfl (vv_loadW agg_31 rfl Bw1 rfl) ?_
  have B6 := (Rd.gr hp0_2 Gw1)
  have B7 := (Rd.gr hp0_4 Gw1)
  have B8 := (Rd.gr hp0_39 Gw1)
  have hb := bnd hm; clear hm; obtain ⟨x1, hx1, hm⟩ := hb
  refine sd_ev rfl rfl rfl (ev_call en_13 rfl (ref05_ValidPacket_w p0 _ _ _ _ _ _ _ _ _ _ _ _ _ hx1 _ B6 B7 B8)) ?_
  rintro _ w2 ⟨rfl, Gw2⟩
  have z9 := Gw2.size
  refine sd_vv rfl rfl rfl (vv_not rfl) ?_
  refine sd_done ?_
  refine sw_cond rfl (fun c1 => ?_) (fun c1 => ?_)
  ·
    replace hm := cnd_t c1 hm
    refine sw_seq ?_
    -- region 2 ref.go:271
    refine sw_region [(0, 0), (1, 0)] rfl rfl rfl ?_
    refine sd_vv rfl rfl rfl (vv_assign rfl) ?_
    refine sd_vv rfl rfl rfl (vv_assign rfl) ?_
    refine sd_done ?_
    refine sw_ret ?_
    refine then_r ?_
    have X10 : Gr w w2 := (Gr.trans (Gr.trans (Gr.refl w) Gw1) Gw2)
    have hr := Option.some.inj hm
    subst hr
    refine ⟨_, _, rfl, res_2 rfl (rv_tmp rfl) (rv_tmp rfl), ?_⟩
    exact ⟨(.slice none 0 0), 0, 0, rfl, (own_nil _ 0 5 1), ⟨.inl rfl⟩, X10⟩
  ·
    replace hm := cnd_f c1 hm
    refine sw_skip ?_
    refine then_n ?_
    refine sw_seq ?_
    -- region 3 ref.go:273
    refine sw_region [(0, 0), (1, 0), (2, 0), (3, 0)] rfl rfl rfl ?_
    have B11 := (Bx.gr Bw1 Gw2)
    refine sd_vv rfl rfl rfl (vv_loadW agg_31 rfl B11 rfl) ?_
    have B12 := (Rd.gr B6 Gw2)
    have B13 := (Rd.gr B7 Gw2)
    have B14 := (Rd.gr B8 Gw2)
    have hb := bnd hm; clear hm; obtain ⟨x2, hx2, hm⟩ := hb
    refine sd_ev rfl rfl rfl (ev_call en_14 rfl (ref05_Bytes_w p0 _ _ _ _ _ _ _ _ _ _ _ _ _ hx2 _ B12 B13 B14)) ?_
    rintro u3_r0_s w3 ⟨_, z3_r0_s, g3_r0_s, rfl, O3_r0_s, f3_r0_s, Gw3⟩
    have z15 := Gw3.size
    have lt16 := O3_r0_s.lth
    refine sd_vv rfl rfl rfl (vv_assign rfl) ?_
    refine sd_vv rfl rfl rfl (vv_assign rfl) ?_
    refine sd_done ?_
    refine sw_ret ?_
    have X17 : Gr w w3 := (Gr.trans (Gr.trans (Gr.trans (Gr.refl w) Gw1) Gw2) Gw3)
    have hr := Option.some.inj hm
    subst hr
    refine ⟨_, _, rfl, res_2 rfl (rv_tmp rfl) (rv_tmp rfl), ?_⟩
    exact ⟨u3_r0_s, z3_r0_s, g3_r0_s, rfl, O3_r0_s, ⟨(pv_0 (A := (fun x => w.heap.size ≤ x)) f3_r0_s)⟩, X17⟩

set_option maxHeartbeats 2000000 in
theorem ref05_at_w (p0 : List (BitVec 8)) (p1 : Int) (p2 : Int) (vp0 : Value) (zp0 gp0 op0 : Nat) (r : BitVec 64) (hm : ref05_at p0 p1 p2 = some r) (w : World) (hp0 : Rd w zp0 gp0 op0 1 vp0 (p0.map bvc))  :
    Calls Try.prog 34 [vp0, .int .i64 p1, .int .i64 p2].toArray w fun e w' => ∃ v, e = .returned v ∧ (v = wv r ∧ Gr w w') := by
  have lt1 := hp0.lth
  unfold ref05_at at hm
  refine calls_of_sw (R := fun v w' => v = wv r ∧ Gr w w') 31 Try.func34 rfl rfl rfl ?_
  refine sw_seq ?_
  -- region 0 ref.go:277
  refine sw_region [(0, 0)] rfl rfl rfl ?_
  refine sd_vv rfl rfl rfl (vv_assign rfl) ?_
  refine sd_done ?_
  refine sw_seq ?_
  refine sw_seq ?_
  -- region 1 ref.go:278
  refine sw_region [(0, 0), (1, 0), (2, 0), (3, 0), (4, 0), (5, 0)] rfl rfl rfl ?_
  refine sd_vv rfl rfl rfl (vv_move rfl) ?_
  refine sd_vv rfl rfl rfl (vv_move rfl) ?_
  refine sd_vv rfl rfl rfl (vv_add (k := .i64) (a := p1) (b := p2) rfl rfl) ?_
  refine sd_vv rfl rfl rfl (vv_move rfl) ?_
  refine sd_vv rfl rfl rfl (vv_lenT (l := p0) (c := bvc) Try.underlying29 rfl hp0) ?_
  refine sd_vv rfl rfl rfl (vv_gtr (a := w64 (p1 + p2)) (b := (p0.length : Int)) rfl rfl) ?_
  refine sd_done ?_
  refine sw_cond rfl (fun c1 => ?_) (fun c1 => ?_)
  ·
    replace hm := ite_t (of_decide_eq_true c1) hm
    refine sw_seq ?_
    -- region 2 ref.go:279
    refine sw_region [(0, 0)] rfl rfl rfl ?_
    refine sd_vv rfl rfl rfl (vv_assign rfl) ?_
    refine sd_done ?_
    refine sw_ret ?_
    refine then_r ?_
    have hr := Option.some.inj hm
    subst hr
    refine ⟨_, _, rfl, res_1 rfl (rv_tmp rfl), ?_⟩
    exact ⟨rfl, (Gr.refl w)⟩
  ·
    replace hm := ite_f (of_decide_eq_false c1) hm
    refine sw_skip ?_
    refine then_n ?_
    refine sw_seq ?_
    -- region 3 ref.go:281
    refine sw_region [(0, 0)] rfl rfl rfl ?_
    refine sd_vv rfl rfl rfl (vv_assign rfl) ?_
    refine sd_done ?_
    refine sw_seq ?_
    refine sw_seq ?_
    -- region 4 ref.go:282
    refine sw_region [(0, 0)] rfl rfl rfl ?_
    refine sd_vv rfl rfl rfl (vv_assign rfl) ?_
    refine sd_done ?_
    refine sw_block ?_
    refine sw_loopD (α := Nat × BitVec 64 × Int) [7, 8, 15, 16, 17, 18, 19, 20, 21, 22, 23, 24, 25, 26, 27, 28, 29] (fun ⟨n1, a3, a4⟩ => [(7, wv a3), (8, .int .i64 a4)]) (fun ⟨n1, a3, a4⟩ wr => (fixN (ref05_at_L1 p0 p1 p2) n1 (a3, a4) = some r) ∧ Kz [] w wr) (fun ⟨n1, a3, a4⟩ => n1) ⟨FUEL, 0#64, 0⟩ ?_ ?_ ?_
    · repeat' first | exact trivial | refine ⟨rfl, ?_⟩
    · exact ⟨hm, Kz.refl _ _⟩
    · clear hm; rintro ⟨n1, a3, a4⟩ w1 ⟨hm, Kw1⟩
      have z2 := Kw1.size
      have hb := fix_succ hm; clear hm; obtain ⟨n1, rfl, hm⟩ := hb
      generalize hrec1 : fixN (ref05_at_L1 p0 p1 p2) n1 = rec1 at hm
      unfold ref05_at_L1 at hm
      try dsimp only at hm
      refine sw_seq ?_
      refine sw_seq ?_
      -- region 5 ref.go:282
      refine sw_region [(0, 0), (1, 0), (2, 0)] rfl rfl rfl ?_
      refine sd_vv rfl rfl rfl (vv_move rfl) ?_
      refine sd_vv rfl rfl rfl (vv_move rfl) ?_
      refine sd_vv rfl rfl rfl (vv_lss (a := a4) (b := p2) rfl rfl) ?_
      refine sd_done ?_
      refine sw_cond rfl (fun c2 => ?_) (fun c2 => ?_)
      ·
        replace hm := ite_t (of_decide_eq_true c2) hm
        refine sw_skip ?_
        refine then_n ?_
        refine sw_seq ?_
        refine sw_block ?_
        -- region 7 ref.go:283
        refine sw_region [(0, 0), (1, 0), (2, 0), (3, 0), (4, 0), (5, 0), (6, 0), (7, 0), (8, 0), (9, 0), (10, 0)] rfl rfl rfl ?_
        refine sd_vv rfl rfl rfl (vv_move rfl) ?_
        refine sd_vv rfl rfl rfl (vv_umul (a := 256#64) (b := a3) rfl rfl) ?_
        refine sd_vv rfl rfl rfl (vv_move rfl) ?_
        refine sd_vv rfl rfl rfl (vv_move rfl) ?_
        refine sd_vv rfl rfl rfl (vv_move rfl) ?_
        refine sd_vv rfl rfl rfl (vv_add (k := .i64) (a := p1) (b := a4) rfl rfl) ?_
        have hb := bnd hm; clear hm; obtain ⟨y5, hy5, hm⟩ := hb
        have B3 := (Rd.kz hp0 Kw1)
        refine sd_vv rfl rfl rfl (vv_ixT (i := w64 (p1 + a4)) Try.underlying29 (one_5).siz rfl B3 rfl hy5) ?_
        refine sd_vv rfl rfl rfl (vv_el1T (q := 0) (u := bv y5) one_5 rfl B3 hy5 (by first | rfl | omega) rfl) ?_
        refine sd_vv rfl rfl rfl (vv_cvBU cv_5_23 rfl) ?_
        refine sd_vv rfl rfl rfl (vv_uadd (a := 256#64 * a3) (b := y5.setWidth 64) rfl rfl) ?_
        refine sd_vv rfl rfl rfl (vv_assign rfl) ?_
        refine sd_nil ?_
        refine block_n ?_
        refine then_n ?_
        -- region 6 ref.go:282
        refine sw_region [(0, 0), (1, 0), (2, 0)] rfl rfl rfl ?_
        refine sd_vv rfl rfl rfl (vv_move rfl) ?_
        refine sd_vv rfl rfl rfl (vv_add (k := .i64) (a := a4) (b := 1) rfl rfl) ?_
        refine sd_vv rfl rfl rfl (vv_assign rfl) ?_
        refine sd_nil ?_
        have K_4 : Kz [] w w1 := Kw1
        subst hrec1
        refine ⟨rfl, ⟨n1, (256#64 * a3) + (y5.setWidth 64), w64 (a4 + 1)⟩, ?_, ⟨hm, K_4⟩, Nat.lt_succ_self _⟩
        repeat' first | exact trivial | refine ⟨rfl, ?_⟩
      ·
        replace hm := ite_f (of_decide_eq_false c2) hm
        refine sw_exit ?_
        refine then_x ?_
        refine then_x ?_
        refine block_x ?_
        refine then_n ?_
        refine sw_seq ?_
        -- region 8 ref.go:285
        refine sw_region [(0, 0), (1, 0)] rfl rfl rfl ?_
        refine sd_vv rfl rfl rfl (vv_move rfl) ?_
        refine sd_vv rfl rfl rfl (vv_assign rfl) ?_
        refine sd_done ?_
        refine sw_ret ?_
        have X5 : Gr w w1 := (Gr.kz (Gr.refl w) Kw1)
        have hr := Option.some.inj hm
        subst hr
        refine ⟨_, _, rfl, res_1 rfl (rv_tmp rfl), ?_⟩
        exact ⟨rfl, X5⟩

set_option maxHeartbeats 2000000 in
theorem ref05_key_w (p0 : List (BitVec 8)) (p1 : Int) (vp0 : Value) (zp0 gp0 op0 : Nat) (r : W2) (hm : ref05_key p0 p1 = some r) (w : World) (hp0 : Rd w zp0 gp0 op0 1 vp0 (p0.map bvc))  :
    Calls Try.prog 35 [vp0, .int .i64 p1].toArray w fun e w' => ∃ v, e = .returned v ∧ (v = kv r ∧ Gr w w') := by
  have lt1 := hp0.lth
  unfold ref05_key at hm
  refine calls_of_sw (R := fun v w' => v = kv r ∧ Gr w w') 27 Try.func35 rfl rfl rfl ?_
  refine sw_seq ?_
  -- region 0 ref.go:289
  refine sw_region [(0, 0)] rfl rfl rfl ?_
  refine sd_ev rfl rfl rfl (ev_alloc (cs := kb k0) zv_26 rfl) ?_
  rintro _ w1 ⟨b1, rfl, hbw1, Bw1, Gw1⟩
  have z2 := Gw1.size
  have lt3 := Bw1.lt
  refine sd_done ?_
  refine sw_seq ?_
  -- region 1 ref.go:290
  refine sw_region [(0, 0)] rfl rfl rfl ?_
  refine sd_ev rfl rfl rfl (ev_alloc (cs := kb k0) zv_26 rfl) ?_
  rintro _ w2 ⟨b2, rfl, hbw2, Bw2, Gw2⟩
  have z4 := Gw2.size
  have lt5 := Bw2.lt
  refine sd_done ?_
  refine sw_seq ?_
  refine sw_seq ?_
  -- region 2 ref.go:291
  refine sw_region [(0, 0)] rfl rfl rfl ?_
  refine sd_vv rfl rfl rfl (vv_assign rfl) ?_
  refine sd_done ?_
  refine sw_block ?_
  have X6 : Gr w w2 := (Gr.trans (Gr.trans (Gr.refl w) Gw1) Gw2)
  have B7 := (Rd.gr (Rd.gr hp0 Gw1) Gw2)
  refine sw_loopD (α := Nat × Int × W2) [6, 7, 8, 9, 10, 11, 12, 13, 14, 15, 16, 17, 18, 19, 20, 21, 22, 23, 24, 25] (fun ⟨n1, a3, a4⟩ => [(6, .int .i64 a3)]) (fun ⟨n1, a3, a4⟩ wr => (fixN (ref05_key_L1 p0 p1) n1 (a3, a4) = some r) ∧ Bx wr b2 26 (kb a4) ∧ Kz [(1, b2)] w2 wr) (fun ⟨n1, a3, a4⟩ => n1) ⟨FUEL, 0, k0⟩ ?_ ?_ ?_
  · repeat' first | exact trivial | refine ⟨rfl, ?_⟩
  · exact ⟨hm, Bw2, Kz.refl _ _⟩
  · clear hm; rintro ⟨n1, a3, a4⟩ w3 ⟨hm, Fw3_0, Kw3⟩
    have z8 := Kw3.size
    have lt9 := Fw3_0.lt
    have hb := fix_succ hm; clear hm; obtain ⟨n1, rfl, hm⟩ := hb
    generalize hrec1 : fixN (ref05_key_L1 p0 p1) n1 = rec1 at hm
    unfold ref05_key_L1 at hm
    try dsimp only at hm
    refine sw_seq ?_
    have X10 : Gr w w3 := (Gr.kz X6 Kw3)
    refine sw_joinD (β := Bool) [7, 8, 9, 10, 11, 12, 13, 14, 15] (fun a5 => [(15, .bool a5)]) (fun a5 wr => (ref05_key_J2 p0 p1 a3 a4 rec1 a5 = some r) ∧ Kz [] w3 wr) ?_ ?_
    · clear hm; rintro a5 w4 ⟨hm, Kw4⟩
      have z11 := Kw4.size
      unfold ref05_key_J2 at hm
      refine sw_cond rfl (fun c1 => ?_) (fun c1 => ?_)
      ·
        replace hm := cnd_t c1 hm
        refine sw_skip ?_
        refine then_n ?_
        refine sw_seq ?_
        refine sw_block ?_
        -- region 5 ref.go:292
        refine sw_region [(0, 0), (1, 0), (2, 0), (3, 0), (4, 0), (5, 0), (6, 0), (7, 0), (8, 0)] rfl rfl rfl ?_
        refine sd_vv rfl rfl rfl (vv_move rfl) ?_
        refine sd_vv rfl rfl rfl (vv_move rfl) ?_
        refine sd_vv rfl rfl rfl (vv_move rfl) ?_
        refine sd_vv rfl rfl rfl (vv_move rfl) ?_
        refine sd_vv rfl rfl rfl (vv_add (k := .i64) (a := p1) (b := a3) rfl rfl) ?_
        have hb := bnd hm; clear hm; obtain ⟨y6, hy6, hm⟩ := hb
        have B12 := (Rd.kz (Rd.kz B7 Kw3 (tk1 ((pv_lt (A := (fun x => x ≠ b2)) lt1) : zp0 = 0 ∨ gp0 ≠ b2))) Kw4)
        refine sd_vv rfl rfl rfl (vv_ixT (i := w64 (p1 + a3)) Try.underlying29 (one_5).siz rfl B12 rfl hy6) ?_
        refine sd_vv rfl rfl rfl (vv_el1T (q := 0) (u := bv y6) one_5 rfl B12 hy6 (by first | rfl | omega) rfl) ?_
        have hb := bnd hm; clear hm; obtain ⟨y7, hy7, hm⟩ := hb
        refine sd_vv rfl rfl rfl (vv_ixK (i := a3) (p := a4) Try.underlying26 (one_5).siz rfl rfl hy7) ?_
        have B13 := (Bx.kz Fw3_0 Kw4)
        have hb := bnd hm; clear hm; obtain ⟨x8, hx8, hm⟩ := hb
        refine sd_ev rfl rfl rfl (ev_stK (off := 0) (p := a4) (q := x8) (i := a3) (cs' := kb x8) (one_5).siz rfl rfl B13 rfl hx8 rfl rfl rfl) ?_
        rintro _ w5 ⟨Bw5, Mw5⟩
        have z14 := Mw5.size
        refine sd_nil ?_
        refine block_n ?_
        refine then_n ?_
        -- region 4 ref.go:291
        refine sw_region [(0, 0), (1, 0), (2, 0)] rfl rfl rfl ?_
        refine sd_vv rfl rfl rfl (vv_move rfl) ?_
        refine sd_vv rfl rfl rfl (vv_add (k := .i64) (a := a3) (b := 1) rfl rfl) ?_
        refine sd_vv rfl rfl rfl (vv_assign rfl) ?_
        refine sd_nil ?_
        have K_15 : Kz [(1, b2)] w2 w5 := (Kz.md (Kz.kz Kw3 Kw4) Mw5)
        subst hrec1
        refine ⟨rfl, ⟨n1, w64 (a3 + 1), x8⟩, ?_, ⟨hm, Bw5, K_15⟩, Nat.lt_succ_self _⟩
        repeat' first | exact trivial | refine ⟨rfl, ?_⟩
      ·
        replace hm := cnd_f c1 hm
        refine sw_exit ?_
        refine then_x ?_
        refine then_x ?_
        refine block_x ?_
        refine then_n ?_
        refine sw_seq ?_
        -- region 6 ref.go:294
        refine sw_region [(0, 0), (1, 0)] rfl rfl rfl ?_
        have B16 := (Bx.kz Fw3_0 Kw4)
        refine sd_vv rfl rfl rfl (vv_loadW agg_26 rfl B16 rfl) ?_
        have B17 := (Bx.kz (Bx.kz (Bx.gr Bw1 Gw2) Kw3) Kw4)
        refine sd_ev rfl rfl rfl (ev_stM (cs' := kb a4) (vs := kb a4) (agg_26).siz rfl rfl rfl rfl rfl B17 rfl rfl) ?_
        rintro _ w6 ⟨Bw6, Mw6⟩
        have z18 := Mw6.size
        refine sd_done ?_
        refine sw_ret ?_
        have X19 : Gr w w6 := (Gr.md (Gr.kz X10 Kw4) Mw6)
        have hr := Option.some.inj hm
        subst hr
        refine ⟨_, _, rfl, res_1 rfl (rv_cellW agg_26 rfl Bw6 rfl), ?_⟩
        exact ⟨rfl, X19⟩
    ·
      -- region 3 ref.go:291
      refine sw_region [(0, 0), (1, 0), (2, 0), (3, 0), (4, 0), (5, 0), (6, 0), (7, 0), (8, 0)] rfl rfl rfl ?_
      refine sd_vv rfl rfl rfl (vv_move rfl) ?_
      refine sd_vv rfl rfl rfl (vv_lss (a := a3) (b := 16) rfl rfl) ?_
      refine sd_split rfl rfl rfl (vv_move rfl) (fun c2 => ?_) (fun c2 => ?_)
      ·
        replace hm := ite_t (of_decide_eq_true c2) hm
        refine sd_vv rfl rfl rfl (vv_move rfl) ?_
        refine sd_vv rfl rfl rfl (vv_add (k := .i64) (a := p1) (b := 16) rfl rfl) ?_
        refine sd_vv rfl rfl rfl (vv_move rfl) ?_
        have B20 := (Rd.kz B7 Kw3 (tk1 ((pv_lt (A := (fun x => x ≠ b2)) lt1) : zp0 = 0 ∨ gp0 ≠ b2)))
        refine sd_vv rfl rfl rfl (vv_lenT (l := p0) (c := bvc) Try.underlying29 rfl B20) ?_
        refine sd_vv rfl rfl rfl (vv_leq (a := w64 (p1 + 16)) (b := (p0.length : Int)) rfl rfl) ?_
        refine sd_vv rfl rfl rfl (vv_pickT rfl rfl) ?_
        refine sd_nil ?_
        have K_21 : Kz [] w3 w3 := (Kz.refl _ _)
        refine ⟨rfl, (decide (w64 (p1 + 16) ≤ (p0.length : Int))), ?_, hm, K_21⟩
        repeat' first | exact trivial | refine ⟨rfl, ?_⟩
      ·
        replace hm := ite_f (of_decide_eq_false c2) hm
        refine sd_skip rfl rfl rfl ?_
        refine sd_skip rfl rfl rfl ?_
        refine sd_skip rfl rfl rfl ?_
        refine sd_skip rfl rfl rfl ?_
        refine sd_skip rfl rfl rfl ?_
        refine sd_vv rfl rfl rfl (vv_pickF rfl rfl) ?_
        refine sd_nil ?_
        have K_22 : Kz [] w3 w3 := (Kz.refl _ _)
        refine ⟨rfl, false, ?_, hm, K_22⟩
        repeat' first | exact trivial | refine ⟨rfl, ?_⟩

set_option maxHeartbeats 2000000 in
theorem ref05_read_w (p0 : List (BitVec 8)) (vp0 : Value) (zp0 gp0 op0 : Nat) (r : TPacket) (hm : ref05_read p0 = some r) (w : World) (hp0 : Rd w zp0 gp0 op0 1 vp0 (p0.map bvc))  :
    Calls Try.prog 24 [vp0].toArray w fun e w' => ∃ v, e = .returned v ∧ (∃ (ur0_2 : Value) (zr0_2 : Nat) (gr0_2 : Nat) (ur0_4 : Value) (zr0_4 : Nat) (gr0_4 : Nat) (ur0_39 : Value) (zr0_39 : Nat) (gr0_39 : Nat), v = .agg (TPacket.cs r ur0_2 ur0_4 ur0_39).toArray ∧ Own w' zr0_2 gr0_2 64 18 ur0_2 (r.Head.Items.map TItem.cs) ∧ Hdn (zr0_2 = 0 ∨ w.heap.size ≤ gr0_2) ∧ Own w' zr0_4 gr0_4 35 2 ur0_4 (r.Head.Points.map TPoint.cs) ∧ Hdn (zr0_4 = 0 ∨ w.heap.size ≤ gr0_4) ∧ Own w' zr0_39 gr0_39 5 1 ur0_39 (r.Data.map bvc) ∧ Hdn (zr0_39 = 0 ∨ w.heap.size ≤ gr0_39) ∧ Hdn (zr0_4 = 0 ∨ zr0_2 = 0 ∨ gr0_4 ≠ gr0_2) ∧ Hdn (zr0_39 = 0 ∨ zr0_2 = 0 ∨ gr0_39 ≠ gr0_2) ∧ Hdn (zr0_39 = 0 ∨ zr0_4 = 0 ∨ gr0_39 ≠ gr0_4) ∧ Gr w w') := by
  have lt1 := hp0.lth
  unfold ref05_read at hm
  refine calls_of_sw (R := fun v w' => ∃ (ur0_2 : Value) (zr0_2 : Nat) (gr0_2 : Nat) (ur0_4 : Value) (zr0_4 : Nat) (gr0_4 : Nat) (ur0_39 : Value) (zr0_39 : Nat) (gr0_39 : Nat), v = .agg (TPacket.cs r ur0_2 ur0_4 ur0_39).toArray ∧ Own w' zr0_2 gr0_2 64 18 ur0_2 (r.Head.Items.map TItem.cs) ∧ Hdn (zr0_2 = 0 ∨ w.heap.size ≤ gr0_2) ∧ Own w' zr0_4 gr0_4 35 2 ur0_4 (r.Head.Points.map TPoint.cs) ∧ Hdn (zr0_4 = 0 ∨ w.heap.size ≤ gr0_4) ∧ Own w' zr0_39 gr0_39 5 1 ur0_39 (r.Data.map bvc) ∧ Hdn (zr0_39 = 0 ∨ w.heap.size ≤ gr0_39) ∧ Hdn (zr0_4 = 0 ∨ zr0_2 = 0 ∨ gr0_4 ≠ gr0_2) ∧ Hdn (zr0_39 = 0 ∨ zr0_2 = 0 ∨ gr0_39 ≠ gr0_2) ∧ Hdn (zr0_39 = 0 ∨ zr0_4 = 0 ∨ gr0_39 ≠ gr0_4) ∧ Gr w w') 133 Try.func24 rfl rfl rfl ?_
  refine sw_seq ?_
  -- region 0 ref.go:298
  refine sw_region [(0, 0)] rfl rfl rfl ?_
  refine sd_ev rfl rfl rfl (ev_alloc (cs := TPacket.cs (TPacket.mk 0#8 0 (THeader.mk [] 0#64 [] k0 k0) 0#8 0#64 [] k0) (.slice none 0 0) (.slice none 0 0) (.slice none 0 0)) zv_31 rfl) ?_
  rintro _ w1 ⟨b1, rfl, hbw1, Bw1, Gw1⟩
  have z2 := Gw1.size
  have lt3 := Bw1.lt
  refine sd_done ?_
  refine sw_seq ?_
  -- region 1 ref.go:299
  refine sw_region [(0, 0), (1, 0), (2, 0), (3, 0), (4, 0), (5, 0)] rfl rfl rfl ?_
  refine sd_vv rfl rfl rfl (vv_move rfl) ?_
  have B4 := (Rd.gr hp0 Gw1)
  have hb := bnd hm; clear hm; obtain ⟨x1, hx1, hm⟩ := hb
  refine sd_ev rfl rfl rfl (ev_call en_34 rfl (ref05_at_w p0 0 1 _ _ _ _ _ hx1 _ B4)) ?_
  rintro _ w2 ⟨rfl, Gw2⟩
  have z5 := Gw2.size
  refine sd_vv rfl rfl rfl (vv_cvUB cv_23_5 rfl) ?_
  refine sd_vv rfl rfl rfl (vv_build (cs := TPacket.cs (TPacket.mk (x1.setWidth 8) 0 (THeader.mk [] 0#64 [] k0 k0) 0#8 0#64 [] k0) (.slice none 0 0) (.slice none 0 0) (.slice none 0 0)) bs_31 rfl (by kernel_rfl)) ?_
  refine sd_ev rfl rfl rfl (ev_alloc (cs := TPacket.cs (TPacket.mk 0#8 0 (THeader.mk [] 0#64 [] k0 k0) 0#8 0#64 [] k0) (.slice none 0 0) (.slice none 0 0) (.slice none 0 0)) zv_31 rfl) ?_
  rintro _ w3 ⟨b3, rfl, hbw3, Bw3, Gw3⟩
  have z6 := Gw3.size
  have lt7 := Bw3.lt
  refine sd_ev rfl rfl rfl (ev_stM (cs' := TPacket.cs (TPacket.mk (x1.setWidth 8) 0 (THeader.mk [] 0#64 [] k0 k0) 0#8 0#64 [] k0) (.slice none 0 0) (.slice none 0 0) (.slice none 0 0)) (vs := TPacket.cs (TPacket.mk (x1.setWidth 8) 0 (THeader.mk [] 0#64 [] k0 k0) 0#8 0#64 [] k0) (.slice none 0 0) (.slice none 0 0) (.slice none 0 0)) (agg_31).siz rfl rfl rfl rfl (TPacket.cs_ones _ _ _ _ rfl rfl rfl) Bw3 rfl rfl) ?_
  rintro _ w4 ⟨Bw4, Mw4⟩
  have z8 := Mw4.size
  refine sd_done ?_
  refine sw_seq ?_
  refine sw_seq ?_
  -- region 2 ref.go:300
  refine sw_region [(0, 0), (1, 0), (2, 0)] rfl rfl rfl ?_
  refine sd_vv rfl rfl rfl (vv_fieldAddr fa_31_0 rfl) ?_
  refine sd_vv rfl rfl rfl (vv_load1 (v := bv (x1.setWidth 8)) one_5 rfl Bw4 rfl) ?_
  refine sd_vv rfl rfl rfl (vv_eqlB (p := x1.setWidth 8) (q := 2#8) rfl rfl) ?_
  refine sd_done ?_
  refine sw_cond rfl (fun c1 => ?_) (fun c1 => ?_)
  ·
    replace hm := ite_t (of_decide_eq_true c1) hm
    refine sw_seq ?_
    -- region 3 ref.go:301
    refine sw_region [(0, 0), (1, 0), (2, 0), (3, 0), (4, 0)] rfl rfl rfl ?_
    refine sd_vv rfl rfl rfl (vv_move rfl) ?_
    have B9 := (Rd.md (Rd.gr (Rd.gr B4 Gw2) Gw3) Mw4 (tk1 ((pv_lt (A := (fun x => x ≠ b3)) lt1) : zp0 = 0 ∨ gp0 ≠ b3)))
    have hb := bnd hm; clear hm; obtain ⟨x2, hx2, hm⟩ := hb
    refine sd_ev rfl rfl rfl (ev_call en_34 rfl (ref05_at_w p0 1 1 _ _ _ _ _ hx2 _ B9)) ?_
    rintro _ w5 ⟨rfl, Gw5⟩
    have z10 := Gw5.size
    refine sd_vv rfl rfl rfl (vv_cvUB cv_23_5 rfl) ?_
    refine sd_vv rfl rfl rfl (vv_fieldAddr fa_31_3 rfl) ?_
    have B11 := (Bx.gr Bw4 Gw5)
    refine sd_ev rfl rfl rfl (ev_st1 (cs' := TPacket.cs (TPacket.mk (x1.setWidth 8) 0 (THeader.mk [] 0#64 [] k0 k0) (x2.setWidth 8) 0#64 [] k0) (.slice none 0 0) (.slice none 0 0) (.slice none 0 0)) (one_5).siz rfl rfl rfl B11 rfl rfl) ?_
    rintro _ w6 ⟨Bw6, Mw6⟩
    have z12 := Mw6.size
    refine sd_done ?_
    refine sw_seq ?_
    -- region 4 ref.go:302
    refine sw_region [(0, 0), (1, 0), (2, 0), (3, 0)] rfl rfl rfl ?_
    refine sd_vv rfl rfl rfl (vv_move rfl) ?_
    have B13 := (Rd.md (Rd.gr B9 Gw5) Mw6 (tk1 ((pv_lt (A := (fun x => x ≠ b3)) lt1) : zp0 = 0 ∨ gp0 ≠ b3)))
    have hb := bnd hm; clear hm; obtain ⟨x3, hx3, hm⟩ := hb
    refine sd_ev rfl rfl rfl (ev_call en_34 rfl (ref05_at_w p0 2 8 _ _ _ _ _ hx3 _ B13)) ?_
    rintro _ w7 ⟨rfl, Gw7⟩
    have z14 := Gw7.size
    refine sd_vv rfl rfl rfl (vv_fieldAddr fa_31_4 rfl) ?_
    have B15 := (Bx.gr Bw6 Gw7)
    refine sd_ev rfl rfl rfl (ev_st1 (cs' := TPacket.cs (TPacket.mk (x1.setWidth 8) 0 (THeader.mk [] 0#64 [] k0 k0) (x2.setWidth 8) x3 [] k0) (.slice none 0 0) (.slice none 0 0) (.slice none 0 0)) (one_23).siz rfl rfl rfl B15 rfl rfl) ?_
    rintro _ w8 ⟨Bw8, Mw8⟩
    have z16 := Mw8.size
    refine sd_done ?_
    refine sw_seq ?_
    -- region 5 ref.go:303
    refine sw_region [(0, 0), (1, 0), (2, 0), (3, 0)] rfl rfl rfl ?_
    refine sd_vv rfl rfl rfl (vv_move rfl) ?_
    have B17 := (Rd.md (Rd.gr B13 Gw7) Mw8 (tk1 ((pv_lt (A := (fun x => x ≠ b3)) lt1) : zp0 = 0 ∨ gp0 ≠ b3)))
    have hb := bnd hm; clear hm; obtain ⟨x4, hx4, hm⟩ := hb
    refine sd_ev rfl rfl rfl (ev_call en_34 rfl (ref05_at_w p0 10 2 _ _ _ _ _ hx4 _ B17)) ?_
    rintro _ w9 ⟨rfl, Gw9⟩
    have z18 := Gw9.size
    refine sd_vv rfl rfl rfl (vv_cvUI cv_23_3 rfl) ?_
    refine sd_vv rfl rfl rfl (vv_assign rfl) ?_
    refine sd_done ?_
    have X19 : Gr w w9 := (Gr.trans (Gr.md (Gr.trans (Gr.md (Gr.trans (Gr.md (Gr.trans (Gr.trans (Gr.trans (Gr.refl w) Gw1) Gw2) Gw3) Mw4) Gw5) Mw6) Gw7) Mw8) Gw9)
    refine sw_joinD (β := List (BitVec 8) × Value × Nat × Nat) [26, 27, 28, 29, 30, 31, 32, 33, 34, 35, 36, 37] (fun ⟨a5, vy6, zy6, gy6⟩ => []) (fun ⟨a5, vy6, zy6, gy6⟩ wr => (ref05_read_J1 p0 x1 x2 x3 x4 a5 = some r) ∧ Own wr zy6 gy6 5 1 vy6 (a5.map bvc) ∧ Hdn (zy6 = 0 ∨ w9.heap.size ≤ gy6) ∧ Bx wr b3 31 (TPacket.cs (TPacket.mk (x1.setWidth 8) 0 (THeader.mk [] 0#64 [] k0 k0) (x2.setWidth 8) x3 a5 k0) (.slice none 0 0) (.slice none 0 0) vy6) ∧ Kz [(1, b3)] w9 wr) ?_ ?_
    · clear hm; rintro ⟨a5, vy6, zy6, gy6⟩ w10 ⟨hm, Fw10_0, Fw10_1, Fw10_2, Kw10⟩
      have z20 := Kw10.size
      have lt21 := Fw10_0.lth
      have lt22 := Fw10_2.lt
      unfold ref05_read_J1 at hm
      refine sw_seq ?_
      -- region 8 ref.go:307
      refine sw_region [(0, 0), (1, 0), (2, 0), (3, 0), (4, 0), (5, 0)] rfl rfl rfl ?_
      refine sd_vv rfl rfl rfl (vv_move rfl) ?_
      refine sd_vv rfl rfl rfl (vv_move rfl) ?_
      refine sd_vv rfl rfl rfl (vv_add (k := .i64) (a := 12) (b := w64 (un x4)) rfl rfl) ?_
      have B23 := (Rd.kz (Rd.gr B17 Gw9) Kw10 (tk1 ((pv_lt (A := (fun x => x ≠ b3)) lt1) : zp0 = 0 ∨ gp0 ≠ b3)))
      have hb := bnd hm; clear hm; obtain ⟨x7, hx7, hm⟩ := hb
      refine sd_ev rfl rfl rfl (ev_call en_35 rfl (ref05_key_w p0 (w64 (12 + (w64 (un x4)))) _ _ _ _ _ hx7 _ B23)) ?_
      rintro _ w11 ⟨rfl, Gw11⟩
      have z24 := Gw11.size
      refine sd_vv rfl rfl rfl (vv_fieldAddr fa_31_6 rfl) ?_
      have B25 := (Bx.gr Fw10_2 Gw11)
      refine sd_ev rfl rfl rfl (ev_stM (cs' := TPacket.cs (TPacket.mk (x1.setWidth 8) 0 (THeader.mk [] 0#64 [] k0 k0) (x2.setWidth 8) x3 a5 x7) (.slice none 0 0) (.slice none 0 0) vy6) (vs := kb x7) (agg_26).siz rfl rfl rfl rfl rfl B25 rfl rfl) ?_
      rintro _ w12 ⟨Bw12, Mw12⟩
      have z26 := Mw12.size
      refine sd_done ?_
      refine sw_seq ?_
      -- region 9 ref.go:308
      refine sw_region [(0, 0), (1, 0)] rfl rfl rfl ?_
      refine sd_vv rfl rfl rfl (vv_loadW agg_31 rfl Bw12 rfl) ?_
      have B27 := (Bx.md (Bx.gr (Bx.kz (Bx.gr (Bx.md (Bx.gr (Bx.md (Bx.gr (Bx.md (Bx.gr (Bx.gr Bw1 Gw2) Gw3) Mw4) Gw5) Mw6) Gw7) Mw8) Gw9) Kw10) Gw11) Mw12)
      have B28 := (Own.md (Own.gr Fw10_0 Gw11) Mw12 (tk1 ((pv_0 (A := (fun x => x ≠ b3)) Fw10_1) : zy6 = 0 ∨ gy6 ≠ b3)))
      refine sd_ev rfl rfl rfl (ev_stM (cs' := TPacket.cs (TPacket.mk (x1.setWidth 8) 0 (THeader.mk [] 0#64 [] k0 k0) (x2.setWidth 8) x3 a5 x7) (.slice none 0 0) (.slice none 0 0) vy6) (vs := TPacket.cs (TPacket.mk (x1.setWidth 8) 0 (THeader.mk [] 0#64 [] k0 k0) (x2.setWidth 8) x3 a5 x7) (.slice none 0 0) (.slice none 0 0) vy6) (agg_31).siz rfl rfl rfl rfl (TPacket.cs_ones _ _ _ _ rfl rfl (Own.oneB B28)) B27 rfl rfl) ?_
      rintro _ w13 ⟨Bw13, Mw13⟩
      have z29 := Mw13.size
      refine sd_done ?_
      refine sw_ret ?_
      refine then_r ?_
      have B30 := (Own.md B28 Mw13 (tk1 ((pv_0 (A := (fun x => x ≠ b1)) Fw10_1) : zy6 = 0 ∨ gy6 ≠ b1)))
      have X31 : Gr w w13 := (Gr.md (Gr.md (Gr.trans (Gr.kz X19 Kw10) Gw11) Mw12) Mw13)
      have hr := Option.some.inj hm
      subst hr
      refine ⟨_, _, rfl, res_1 rfl (rv_cellW agg_31 rfl Bw13 rfl), ?_⟩
      exact ⟨(.slice none 0 0), 0, 0, (.slice none 0 0), 0, 0, vy6, zy6, gy6, rfl, (own_nil _ 0 64 18), ⟨.inl rfl⟩, (own_nil _ 0 35 2), ⟨.inl rfl⟩, B30, ⟨(pv_0 (A := (fun x => w.heap.size ≤ x)) Fw10_1)⟩, ⟨(.inl rfl)⟩, ⟨(.inr (.inl rfl))⟩, ⟨(.inr (.inl rfl))⟩, X31⟩
    ·
      refine sw_seq ?_
      -- region 6 ref.go:304
      refine sw_region [(0, 0), (1, 0), (2, 0), (3, 0), (4, 0)] rfl rfl rfl ?_
      refine sd_vv rfl rfl rfl (vv_move rfl) ?_
      refine sd_vv rfl rfl rfl (vv_add (k := .i64) (a := 12) (b := w64 (un x4)) rfl rfl) ?_
      refine sd_vv rfl rfl rfl (vv_move rfl) ?_
      have B32 := (Rd.gr B17 Gw9)
      refine sd_vv rfl rfl rfl (vv_lenT (l := p0) (c := bvc) Try.underlying29 rfl B32) ?_
      refine sd_vv rfl rfl rfl (vv_leq (a := w64 (12 + (w64 (un x4)))) (b := (p0.length : Int)) rfl rfl) ?_
      refine sd_done ?_
      refine sw_cond rfl (fun c2 => ?_) (fun c2 => ?_)
      ·
        replace hm := ite_t (of_decide_eq_true c2) hm
        -- region 7 ref.go:305
        refine sw_region [(0, 0), (1, 0), (2, 0), (3, 0), (4, 0), (5, 0), (6, 0), (7, 0)] rfl rfl rfl ?_
        refine sd_ev rfl rfl rfl (ev_litT ([] : List (BitVec 8)) bvc bsl_29_0 rfl rfl (ws_of rfl) rfl rfl rfl) ?_
        rintro vw14 w14 ⟨gw14, hbw14, Ow14, Gw14⟩
        have z33 := Gw14.size
        have lt34 := Ow14.lth
        refine sd_vv rfl rfl rfl (vv_move rfl) ?_
        refine sd_vv rfl rfl rfl (vv_move rfl) ?_
        refine sd_vv rfl rfl rfl (vv_add (k := .i64) (a := 12) (b := w64 (un x4)) rfl rfl) ?_
        have hb := bnd hm; clear hm; obtain ⟨l8, hl8, hm⟩ := hb
        have B35 := (Rd.gr B32 Gw14)
        refine sd_sli rfl rfl rfl (vv_sliT (P := Try.prog) (lo := 12) (hi := w64 (12 + (w64 (un x4)))) (l := p0) (c := bvc) Try.underlying29 (one_5).siz rfl B35 ⟨_, rfl⟩ ⟨_, rfl⟩ hl8) ?_
        rintro v36 o36 R36
        have lt37 := R36.lth
        have hb := bnd hm; clear hm; obtain ⟨l9, hl9, hm⟩ := hb
        refine sd_ev rfl rfl rfl (ev_appT (l := ([] : List (BitVec 8))) (m := l8) (c := bvc) apt_29 rfl rfl Ow14 R36 hl9 (by decide)) ?_
        rintro vw15 w15 ⟨zw15, gw15, Ow15, Aw15, qw15, rw15⟩
        have z38 := Aw15.size
        refine sd_vv rfl rfl rfl (vv_fieldAddr fa_31_5 rfl) ?_
        have B39 := (Bx.ka (Bx.gr (Bx.gr Bw8 Gw9) Gw14) Aw15 (tk1 ((.inr tk0) : 1 = 0 ∨ gw14 ≠ b3)))
        refine sd_ev rfl rfl rfl (ev_st1 (cs' := TPacket.cs (TPacket.mk (x1.setWidth 8) 0 (THeader.mk [] 0#64 [] k0 k0) (x2.setWidth 8) x3 l9 k0) (.slice none 0 0) (.slice none 0 0) vw15) (one_29).siz rfl rfl (Own.oneB Ow15) B39 rfl rfl) ?_
        rintro _ w16 ⟨Bw16, Mw16⟩
        have z40 := Mw16.size
        refine sd_nil ?_
        have K_41 : Kz [(1, b3)] w9 w16 := (Kz.md (Kz.ka (Kz.gr (Kz.refl _ _) Gw14) Aw15 (tk1 ((.inr tk0) : 1 = 0 ∨ w9.heap.size ≤ gw14))) Mw16)
        have B42 := (Own.md Ow15 Mw16 (tk1 ((pv_app (A := (fun x => x ≠ b3)) rw15 (.inr tk0)) : zw15 = 0 ∨ gw15 ≠ b3)))
        refine ⟨rfl, ⟨l9, vw15, zw15, gw15⟩, ?_, hm, B42, ⟨(pv_app (A := (fun x => w9.heap.size ≤ x)) rw15 (.inr tk0))⟩, Bw16, K_41⟩
        repeat' first | exact trivial | refine ⟨rfl, ?_⟩
      ·
        replace hm := ite_f (of_decide_eq_false c2) hm
        refine sw_skip ?_
        have K_43 : Kz [(1, b3)] w9 w9 := (Kz.refl _ _)
        have B44 := (Bx.gr Bw8 Gw9)
        refine ⟨rfl, ⟨[], (.slice none 0 0), 0, 0⟩, ?_, hm, (own_nil _ 0 5 1), ⟨(.inl rfl)⟩, B44, K_43⟩
        repeat' first | exact trivial | refine ⟨rfl, ?_⟩
  ·
    replace hm := ite_f (of_decide_eq_false c1) hm
    refine sw_skip ?_
    refine then_n ?_
    have X45 : Gr w w4 := (Gr.md (Gr.trans (Gr.trans (Gr.trans (Gr.refl w) Gw1) Gw2) Gw3) Mw4)
    refine sw_joinD (β := Int) [44, 45, 46, 47, 48, 49, 50] (fun a10 => []) (fun a10 wr => (ref05_read_J2 p0 x1 a10 = some r) ∧ Bx wr b3 31 (TPacket.cs (TPacket.mk (x1.setWidth 8) a10 (THeader.mk [] 0#64 [] k0 k0) 0#8 0#64 [] k0) (.slice none 0 0) (.slice none 0 0) (.slice none 0 0)) ∧ Kz [(1, b3)] w4 wr) ?_ ?_
    · clear hm; rintro a10 w17 ⟨hm, Fw17_0, Kw17⟩
      have z46 := Kw17.size
      have lt47 := Fw17_0.lt
      unfold ref05_read_J2 at hm
      refine sw_seq ?_
      -- region 12 ref.go:313
      refine sw_region [(0, 0)] rfl rfl rfl ?_
      refine sd_vv rfl rfl rfl (vv_assign rfl) ?_
      refine sd_done ?_
      refine sw_seq ?_
      refine sw_seq ?_
      -- region 13 ref.go:314
      refine sw_region [(0, 0)] rfl rfl rfl ?_
      refine sd_vv rfl rfl rfl (vv_assign rfl) ?_
      refine sd_done ?_
      refine sw_block ?_
      have X48 : Gr w w17 := (Gr.kz X45 Kw17)
      have B49 := (Rd.kz (Rd.md (Rd.gr (Rd.gr B4 Gw2) Gw3) Mw4 (tk1 ((pv_lt (A := (fun x => x ≠ b3)) lt1) : zp0 = 0 ∨ gp0 ≠ b3))) Kw17 (tk1 ((pv_lt (A := (fun x => x ≠ b3)) lt1) : zp0 = 0 ∨ gp0 ≠ b3)))
      refine sw_loopD (α := Nat × Int × Int × List TItem × Value × Nat × Nat) [5, 6, 51, 52, 53, 54, 55, 56, 57, 58, 59, 60, 61, 62, 63, 64, 65, 66, 67, 68, 69, 70, 71, 72, 73, 74, 75, 76, 77, 78, 79, 80, 81] (fun ⟨n3, a15, a16, a17, vy18, zy18, gy18⟩ => [(5, .int .i64 a15), (6, .int .i64 a16)]) (fun ⟨n3, a15, a16, a17, vy18, zy18, gy18⟩ wr => (fixN (ref05_read_L3 p0 x1 a10) n3 (a15, a16, a17) = some r) ∧ Own wr zy18 gy18 64 18 vy18 (a17.map TItem.cs) ∧ Hdn (zy18 = 0 ∨ w17.heap.size ≤ gy18) ∧ Bx wr b3 31 (TPacket.cs (TPacket.mk (x1.setWidth 8) a10 (THeader.mk a17 0#64 [] k0 k0) 0#8 0#64 [] k0) vy18 (.slice none 0 0) (.slice none 0 0)) ∧ Kz [(1, b3)] w17 wr) (fun ⟨n3, a15, a16, a17, vy18, zy18, gy18⟩ => n3) ⟨FUEL, 10, 0, [], (.slice none 0 0), 0, 0⟩ ?_ ?_ ?_
      · repeat' first | exact trivial | refine ⟨rfl, ?_⟩
      · exact ⟨hm, (own_nil _ 0 64 18), ⟨(.inl rfl)⟩, Fw17_0, Kz.refl _ _⟩
      · clear hm; rintro ⟨n3, a15, a16, a17, vy18, zy18, gy18⟩ w18 ⟨hm, Fw18_0, Fw18_1, Fw18_2, Kw18⟩
        have z50 := Kw18.size
        have lt51 := Fw18_0.lth
        have lt52 := Fw18_2.lt
        have hb := fix_succ hm; clear hm; obtain ⟨n3, rfl, hm⟩ := hb
        generalize hrec3 : fixN (ref05_read_L3 p0 x1 a10) n3 = rec3 at hm
        unfold ref05_read_L3 at hm
        try dsimp only at hm
        refine sw_seq ?_
        refine sw_seq ?_
        -- region 14 ref.go:314
        refine sw_region [(0, 0), (1, 0), (2, 0), (3, 0), (4, 0)] rfl rfl rfl ?_
        refine sd_vv rfl rfl rfl (vv_move rfl) ?_
        refine sd_vv rfl rfl rfl (vv_move rfl) ?_
        have B53 := (Rd.kz B49 Kw18 (tk1 ((pv_lt (A := (fun x => x ≠ b3)) lt1) : zp0 = 0 ∨ gp0 ≠ b3)))
        have hb := bnd hm; clear hm; obtain ⟨x19, hx19, hm⟩ := hb
        refine sd_ev rfl rfl rfl (ev_call en_34 rfl (ref05_at_w p0 9 1 _ _ _ _ _ hx19 _ B53)) ?_
        rintro _ w19 ⟨rfl, Gw19⟩
        have z54 := Gw19.size
        refine sd_vv rfl rfl rfl (vv_cvUI cv_23_3 rfl) ?_
        refine sd_vv rfl rfl rfl (vv_lss (a := a16) (b := w64 (un x19)) rfl rfl) ?_
        refine sd_done ?_
        refine sw_cond rfl (fun c3 => ?_) (fun c3 => ?_)
        ·
          replace hm := ite_t (of_decide_eq_true c3) hm
          refine sw_skip ?_
          refine then_n ?_
          refine sw_seq ?_
          refine sw_block ?_
          refine sw_seq ?_
          -- region 16 ref.go:315 DRAWS
          refine sw_drawN [([b3] ++ zf zy18 gy18), ([] ++ zf zy18 gy18)] [(22, [1])] (.leaf [(0, 10), (1, 10), (2, 11), (3, 10), (4, 10), (7, 10), (8, 10), (9, 10), (13, 10), (14, 10), (15, 10), (5, 0), (6, 10), (10, 0), (11, 10), (12, 10), (16, 0), (17, 10), (18, 0), (19, 0), (20, 10), (21, 10), (22, 0)]) (by kernel_rfl) (by kernel_rfl) rfl (by kernel_rfl) ?_
          intro w20 Gw20 zw20
          refine sdz_leaf ?_
          refine dd_hn 0 rfl rfl rfl rfl (Kp.refl ([b3] ++ zf zy18 gy18) w20) (fun w hS => vv_fieldAddr fa_31_2 rfl) ?_
          refine dd_hn 0 rfl rfl rfl rfl (Kp.refl ([b3] ++ zf zy18 gy18) w20) (fun w hS => vv_fieldAddr fa_28_0 rfl) ?_
          have B55 := (Bx.gr (Bx.gr Fw18_2 Gw19) Gw20)
          refine dd_hn 1 rfl rfl rfl rfl (Kp.refl ([] ++ zf zy18 gy18) w20) (fun w hS => vv_load1 (v := vy18) one_22 rfl (Bx.kp B55 hS (tk1 ((pv_0 (A := (fun x => x ≠ b3)) Fw18_1) : zy18 = 0 ∨ gy18 ≠ b3))) rfl) ?_
          refine dd_hn 0 rfl rfl rfl rfl (Kp.refl ([b3] ++ zf zy18 gy18) w20) (fun w hS => vv_move rfl) ?_
          refine dd_hn 0 rfl rfl rfl rfl (Kp.refl ([b3] ++ zf zy18 gy18) w20) (fun w hS => vv_move rfl) ?_
          refine dd_hn 0 rfl rfl rfl rfl (Kp.refl ([b3] ++ zf zy18 gy18) w20) (fun w hS => vv_move rfl) ?_
          refine dd_hn 0 rfl rfl rfl rfl (Kp.refl ([b3] ++ zf zy18 gy18) w20) (fun w hS => vv_move rfl) ?_
          refine dd_hn 0 rfl rfl rfl rfl (Kp.refl ([b3] ++ zf zy18 gy18) w20) (fun w hS => vv_add (k := .i64) (a := a15) (b := 1) rfl rfl) ?_
          refine dd_hn 0 rfl rfl rfl rfl (Kp.refl ([b3] ++ zf zy18 gy18) w20) (fun w hS => vv_move rfl) ?_
          refine dd_hn 0 rfl rfl rfl rfl (Kp.refl ([b3] ++ zf zy18 gy18) w20) (fun w hS => vv_move rfl) ?_
          refine dd_hn 0 rfl rfl rfl rfl (Kp.refl ([b3] ++ zf zy18 gy18) w20) (fun w hS => vv_add (k := .i64) (a := a15) (b := 2) rfl rfl) ?_
          have B56 := (Rd.gr (Rd.gr B53 Gw19) Gw20)
          have hb := bnd hm; clear hm; obtain ⟨x20, hx20, hm⟩ := hb
          refine dd_z [] rfl rfl rfl (ev_call en_34 rfl (ref05_at_w p0 a15 1 _ _ _ _ _ hx20 _ B56)) ⟨fun _ => tk0, fun _ => tk0, trivial⟩ ?_
          rintro _ w21 ⟨rfl, Gw21⟩
          have z57 := Gw21.size
          refine ⟨Kz.ofGr Gw21, ?_⟩
          have S58 := (Kp.gr (Kp.refl ([b3] ++ zf zy18 gy18) w20) Gw21)
          refine dd_hn 0 rfl rfl rfl rfl S58 (fun w hS => vv_cvUI cv_23_3 rfl) ?_
          have B59 := (Rd.gr B56 Gw21)
          have hb := bnd hm; clear hm; obtain ⟨x21, hx21, hm⟩ := hb
          refine dd_z [] rfl rfl rfl (ev_call en_34 rfl (ref05_at_w p0 (w64 (a15 + 1)) 1 _ _ _ _ _ hx21 _ B59)) ⟨fun _ => tk0, fun _ => tk0, trivial⟩ ?_
          rintro _ w22 ⟨rfl, Gw22⟩
          have z60 := Gw22.size
          refine ⟨Kz.ofGr Gw22, ?_⟩
          have S61 := (Kp.gr S58 Gw22)
          refine dd_hn 0 rfl rfl rfl rfl S61 (fun w hS => vv_cvUI cv_23_3 rfl) ?_
          refine dd_hn 0 rfl rfl rfl rfl S61 (fun w hS => vv_build (cs := TSubset.cs (TSubset.mk (w64 (un x20)) (w64 (un x21)))) bs_62 rfl rfl) ?_
          have B62 := (Rd.gr B59 Gw22)
          have hb := bnd hm; clear hm; obtain ⟨x22, hx22, hm⟩ := hb
          refine dd_z [] rfl rfl rfl (ev_call en_35 rfl (ref05_key_w p0 (w64 (a15 + 2)) _ _ _ _ _ hx22 _ B62)) ⟨fun _ => tk0, fun _ => tk0, trivial⟩ ?_
          rintro _ w23 ⟨rfl, Gw23⟩
          have z63 := Gw23.size
          refine ⟨Kz.ofGr Gw23, ?_⟩
          have S64 := (Kp.gr S61 Gw23)
          refine dd_hn 0 rfl rfl rfl rfl S64 (fun w hS => vv_build (cs := TItem.cs (TItem.mk (TSubset.mk (w64 (un x20)) (w64 (un x21))) x22)) bs_64 rfl (fill_M rfl rfl rfl (fill_M rfl rfl rfl (by kernel_rfl)))) ?_
          refine dd_z [] rfl rfl rfl (ev_litT [(TItem.mk (TSubset.mk (w64 (un x20)) (w64 (un x21))) x22)] TItem.cs bsl_22_1 rfl rfl (ws_of rfl) rfl rfl rfl) ⟨fun _ => tk0, fun _ => tk0, trivial⟩ ?_
          rintro vw24 w24 ⟨gw24, hbw24, Ow24, Gw24⟩
          have z65 := Gw24.size
          have lt66 := Ow24.lth
          refine ⟨Kz.ofGr Gw24, ?_⟩
          have B67 := (Own.gr (Own.gr (Own.gr (Own.gr (Own.gr (Own.gr Fw18_0 Gw19) Gw20) Gw21) Gw22) Gw23) Gw24)
          have hb := bnd hm; clear hm; obtain ⟨l23, hl23, hm⟩ := hb
          refine dd_z [(zy18, gy18)] rfl rfl rfl (ev_appT (l := a17) (m := [(TItem.mk (TSubset.mk (w64 (un x20)) (w64 (un x21))) x22)]) (c := TItem.cs) apt_22 rfl rfl B67 (Own.rd Ow24) hl23 (by decide)) ⟨fun _ => (tk1 (tk0 : zy18 = 0 ∨ (gy18 = gy18 ∧ zy18 ≠ 0) ∨ w20.heap.size ≤ gy18)), fun _ => (tk1 (tk0 : zy18 = 0 ∨ (gy18 = gy18 ∧ zy18 ≠ 0) ∨ w20.heap.size ≤ gy18)), trivial⟩ ?_
          rintro vw25 w25 ⟨zw25, gw25, Ow25, Aw25, qw25, rw25⟩
          have z68 := Aw25.size
          refine ⟨Kz.ofKa Aw25, ?_⟩
          have S69 := (Kp.ka (Kp.gr S64 Gw24) Aw25 (tk1 (tk0 : zy18 = 0 ∨ (gy18 = gy18 ∧ zy18 ≠ 0) ∨ w20.heap.size ≤ gy18)))
          refine dd_hn 0 rfl rfl rfl rfl S69 (fun w hS => vv_fieldAddr fa_31_2 rfl) ?_
          refine dd_hn 0 rfl rfl rfl rfl S69 (fun w hS => vv_fieldAddr fa_28_0 rfl) ?_
          have B70 := (Bx.ka (Bx.gr (Bx.gr (Bx.gr (Bx.gr B55 Gw21) Gw22) Gw23) Gw24) Aw25 (tk1 ((pv_0 (A := (fun x => x ≠ b3)) Fw18_1) : zy18 = 0 ∨ gy18 ≠ b3)))
          refine dd_z [(1, b3)] rfl rfl rfl (ev_st1 (cs' := TPacket.cs (TPacket.mk (x1.setWidth 8) a10 (THeader.mk l23 0#64 [] k0 k0) 0#8 0#64 [] k0) vw25 (.slice none 0 0) (.slice none 0 0)) (one_22).siz rfl rfl (Own.oneB Ow25) B70 rfl rfl) ⟨fun _ => tk0, nofun, trivial⟩ ?_
          rintro _ w26 ⟨Bw26, Mw26⟩
          have z71 := Mw26.size
          refine ⟨Kz.ofMd Mw26, ?_⟩
          refine sd_done ?_
          -- region 17 ref.go:316
          refine sw_region [(0, 0), (1, 0), (2, 0)] rfl rfl rfl ?_
          refine sd_vv rfl rfl rfl (vv_move rfl) ?_
          refine sd_vv rfl rfl rfl (vv_add (k := .i64) (a := a15) (b := 18) rfl rfl) ?_
          refine sd_vv rfl rfl rfl (vv_assign rfl) ?_
          refine sd_nil ?_
          refine block_n ?_
          refine then_n ?_
          -- region 15 ref.go:314
          refine sw_region [(0, 0), (1, 0), (2, 0)] rfl rfl rfl ?_
          refine sd_vv rfl rfl rfl (vv_move rfl) ?_
          refine sd_vv rfl rfl rfl (vv_add (k := .i64) (a := a16) (b := 1) rfl rfl) ?_
          refine sd_vv rfl rfl rfl (vv_assign rfl) ?_
          refine sd_nil ?_
          have K_72 : Kz [(1, b3)] w17 w26 := (Kz.md (Kz.ka (Kz.gr (Kz.gr (Kz.gr (Kz.gr (Kz.gr (Kz.gr Kw18 Gw19) Gw20) Gw21) Gw22) Gw23) Gw24) Aw25 (tk1 ((pv_0 (A := (fun x => w17.heap.size ≤ x)) Fw18_1) : zy18 = 0 ∨ w17.heap.size ≤ gy18))) Mw26)
          have B73 := (Own.md Ow25 Mw26 (tk1 ((pv_app (A := (fun x => x ≠ b3)) rw25 (pv_0 (A := (fun x => x ≠ b3)) Fw18_1)) : zw25 = 0 ∨ gw25 ≠ b3)))
          subst hrec3
          refine ⟨rfl, ⟨n3, w64 (a15 + 18), w64 (a16 + 1), l23, vw25, zw25, gw25⟩, ?_, ⟨hm, B73, ⟨(pv_app (A := (fun x => w17.heap.size ≤ x)) rw25 (pv_0 (A := (fun x => w17.heap.size ≤ x)) Fw18_1))⟩, Bw26, K_72⟩, Nat.lt_succ_self _⟩
          repeat' first | exact trivial | refine ⟨rfl, ?_⟩
        ·
          replace hm := ite_f (of_decide_eq_false c3) hm
          refine sw_exit ?_
          refine then_x ?_
          refine then_x ?_
          refine block_x ?_
          refine then_n ?_
          refine sw_seq ?_
          -- region 18 ref.go:318
          refine sw_region [(0, 0), (1, 0), (2, 0), (3, 0), (4, 0), (5, 0)] rfl rfl rfl ?_
          refine sd_vv rfl rfl rfl (vv_move rfl) ?_
          refine sd_vv rfl rfl rfl (vv_move rfl) ?_
          have B74 := (Rd.gr B53 Gw19)
          have hb := bnd hm; clear hm; obtain ⟨x24, hx24, hm⟩ := hb
          refine sd_ev rfl rfl rfl (ev_call en_34 rfl (ref05_at_w p0 a15 8 _ _ _ _ _ hx24 _ B74)) ?_
          rintro _ w27 ⟨rfl, Gw27⟩
          have z75 := Gw27.size
          refine sd_vv rfl rfl rfl (vv_fieldAddr fa_31_2 rfl) ?_
          refine sd_vv rfl rfl rfl (vv_fieldAddr fa_28_1 rfl) ?_
          have B76 := (Bx.gr (Bx.gr Fw18_2 Gw19) Gw27)
          refine sd_ev rfl rfl rfl (ev_st1 (cs' := TPacket.cs (TPacket.mk (x1.setWidth 8) a10 (THeader.mk a17 x24 [] k0 k0) 0#8 0#64 [] k0) vy18 (.slice none 0 0) (.slice none 0 0)) (one_23).siz rfl rfl rfl B76 rfl rfl) ?_
          rintro _ w28 ⟨Bw28, Mw28⟩
          have z77 := Mw28.size
          refine sd_done ?_
          refine sw_seq ?_
          -- region 19 ref.go:319
          refine sw_region [(0, 0), (1, 0), (2, 0), (3, 0), (4, 0), (5, 0)] rfl rfl rfl ?_
          refine sd_vv rfl rfl rfl (vv_move rfl) ?_
          refine sd_vv rfl rfl rfl (vv_move rfl) ?_
          refine sd_vv rfl rfl rfl (vv_add (k := .i64) (a := a15) (b := 8) rfl rfl) ?_
          have B78 := (Rd.md (Rd.gr B74 Gw27) Mw28 (tk1 ((pv_lt (A := (fun x => x ≠ b3)) lt1) : zp0 = 0 ∨ gp0 ≠ b3)))
          have hb := bnd hm; clear hm; obtain ⟨x25, hx25, hm⟩ := hb
          refine sd_ev rfl rfl rfl (ev_call en_34 rfl (ref05_at_w p0 (w64 (a15 + 8)) 1 _ _ _ _ _ hx25 _ B78)) ?_
          rintro _ w29 ⟨rfl, Gw29⟩
          have z79 := Gw29.size
          refine sd_vv rfl rfl rfl (vv_cvUI cv_23_3 rfl) ?_
          refine sd_vv rfl rfl rfl (vv_assign rfl) ?_
          refine sd_done ?_
          refine sw_seq ?_
          -- region 20 ref.go:320
          refine sw_region [(0, 0), (1, 0), (2, 0)] rfl rfl rfl ?_
          refine sd_vv rfl rfl rfl (vv_move rfl) ?_
          refine sd_vv rfl rfl rfl (vv_add (k := .i64) (a := a15) (b := 9) rfl rfl) ?_
          refine sd_vv rfl rfl rfl (vv_assign rfl) ?_
          refine sd_done ?_
          refine sw_seq ?_
          refine sw_seq ?_
          -- region 21 ref.go:321
          refine sw_region [(0, 0)] rfl rfl rfl ?_
          refine sd_vv rfl rfl rfl (vv_assign rfl) ?_
          refine sd_done ?_
          refine sw_block ?_
          have X80 : Gr w w29 := (Gr.trans (Gr.md (Gr.trans (Gr.trans (Gr.kz X48 Kw18) Gw19) Gw27) Mw28) Gw29)
          have B81 := (Rd.gr B78 Gw29)
          have B82 := (Bx.gr Bw28 Gw29)
          have B83 := (Own.gr (Own.md (Own.gr (Own.gr Fw18_0 Gw19) Gw27) Mw28 (tk1 ((pv_0 (A := (fun x => x ≠ b3)) Fw18_1) : zy18 = 0 ∨ gy18 ≠ b3))) Gw29)
          refine sw_loopD (α := Nat × Int × Int × List TPoint × Value × Nat × Nat) [5, 8, 94, 95, 96, 97, 98, 99, 100, 101, 102, 103, 104, 105, 106, 107, 108, 109, 110, 111, 112, 113, 114, 115] (fun ⟨n4, a30, a31, a32, vy33, zy33, gy33⟩ => [(5, .int .i64 a30), (8, .int .i64 a31)]) (fun ⟨n4, a30, a31, a32, vy33, zy33, gy33⟩ wr => (fixN (ref05_read_L4 p0 x1 a10 a17 x24 x25) n4 (a30, a31, a32) = some r) ∧ Own wr zy33 gy33 35 2 vy33 (a32.map TPoint.cs) ∧ Hdn (zy33 = 0 ∨ w29.heap.size ≤ gy33) ∧ Bx wr b3 31 (TPacket.cs (TPacket.mk (x1.setWidth 8) a10 (THeader.mk a17 x24 a32 k0 k0) 0#8 0#64 [] k0) vy18 vy33 (.slice none 0 0)) ∧ Kz [(1, b3)] w29 wr) (fun ⟨n4, a30, a31, a32, vy33, zy33, gy33⟩ => n4) ⟨FUEL, w64 (a15 + 9), 0, [], (.slice none 0 0), 0, 0⟩ ?_ ?_ ?_
          · repeat' first | exact trivial | refine ⟨rfl, ?_⟩
          · exact ⟨hm, (own_nil _ 0 35 2), ⟨(.inl rfl)⟩, B82, Kz.refl _ _⟩
          · clear hm; rintro ⟨n4, a30, a31, a32, vy33, zy33, gy33⟩ w30 ⟨hm, Fw30_0, Fw30_1, Fw30_2, Kw30⟩
            have z84 := Kw30.size
            have lt85 := Fw30_0.lth
            have lt86 := Fw30_2.lt
            have hb := fix_succ hm; clear hm; obtain ⟨n4, rfl, hm⟩ := hb
            generalize hrec4 : fixN (ref05_read_L4 p0 x1 a10 a17 x24 x25) n4 = rec4 at hm
            unfold ref05_read_L4 at hm
            try dsimp only at hm
            refine sw_seq ?_
            refine sw_seq ?_
            -- region 22 ref.go:321
            refine sw_region [(0, 0), (1, 0), (2, 0)] rfl rfl rfl ?_
            refine sd_vv rfl rfl rfl (vv_move rfl) ?_
            refine sd_vv rfl rfl rfl (vv_move rfl) ?_
            refine sd_vv rfl rfl rfl (vv_lss (a := a31) (b := w64 (un x25)) rfl rfl) ?_
            refine sd_done ?_
            refine sw_cond rfl (fun c4 => ?_) (fun c4 => ?_)
            ·
              replace hm := ite_t (of_decide_eq_true c4) hm
              refine sw_skip ?_
              refine then_n ?_
              refine sw_seq ?_
              refine sw_block ?_
              refine sw_seq ?_
              -- region 24 ref.go:322 DRAWS
              refine sw_drawN [([b3] ++ zf zy33 gy33), ([] ++ zf zy33 gy33)] [(15, [1])] (.leaf [(0, 10), (1, 10), (2, 11), (3, 10), (4, 10), (6, 10), (7, 10), (8, 10), (5, 0), (9, 0), (10, 10), (11, 0), (12, 0), (13, 10), (14, 10), (15, 0)]) (by kernel_rfl) (by kernel_rfl) rfl (by kernel_rfl) ?_
              intro w31 Gw31 zw31
              refine sdz_leaf ?_
              refine dd_hn 0 rfl rfl rfl rfl (Kp.refl ([b3] ++ zf zy33 gy33) w31) (fun w hS => vv_fieldAddr fa_31_2 rfl) ?_
              refine dd_hn 0 rfl rfl rfl rfl (Kp.refl ([b3] ++ zf zy33 gy33) w31) (fun w hS => vv_fieldAddr fa_28_2 rfl) ?_
              have B87 := (Bx.gr Fw30_2 Gw31)
              refine dd_hn 1 rfl rfl rfl rfl (Kp.refl ([] ++ zf zy33 gy33) w31) (fun w hS => vv_load1 (v := vy33) one_24 rfl (Bx.kp B87 hS (tk1 ((pv_0 (A := (fun x => x ≠ b3)) Fw30_1) : zy33 = 0 ∨ gy33 ≠ b3))) rfl) ?_
              refine dd_hn 0 rfl rfl rfl rfl (Kp.refl ([b3] ++ zf zy33 gy33) w31) (fun w hS => vv_move rfl) ?_
              refine dd_hn 0 rfl rfl rfl rfl (Kp.refl ([b3] ++ zf zy33 gy33) w31) (fun w hS => vv_move rfl) ?_
              refine dd_hn 0 rfl rfl rfl rfl (Kp.refl ([b3] ++ zf zy33 gy33) w31) (fun w hS => vv_move rfl) ?_
              refine dd_hn 0 rfl rfl rfl rfl (Kp.refl ([b3] ++ zf zy33 gy33) w31) (fun w hS => vv_move rfl) ?_
              refine dd_hn 0 rfl rfl rfl rfl (Kp.refl ([b3] ++ zf zy33 gy33) w31) (fun w hS => vv_add (k := .i64) (a := a30) (b := 8) rfl rfl) ?_
              have B88 := (Rd.gr (Rd.kz B81 Kw30 (tk1 ((pv_lt (A := (fun x => x ≠ b3)) lt1) : zp0 = 0 ∨ gp0 ≠ b3))) Gw31)
              have hb := bnd hm; clear hm; obtain ⟨x34, hx34, hm⟩ := hb
              refine dd_z [] rfl rfl rfl (ev_call en_34 rfl (ref05_at_w p0 a30 8 _ _ _ _ _ hx34 _ B88)) ⟨fun _ => tk0, fun _ => tk0, trivial⟩ ?_
              rintro _ w32 ⟨rfl, Gw32⟩
              have z89 := Gw32.size
              refine ⟨Kz.ofGr Gw32, ?_⟩
              have B90 := (Rd.gr B88 Gw32)
              have hb := bnd hm; clear hm; obtain ⟨x35, hx35, hm⟩ := hb
              refine dd_z [] rfl rfl rfl (ev_call en_34 rfl (ref05_at_w p0 (w64 (a30 + 8)) 8 _ _ _ _ _ hx35 _ B90)) ⟨fun _ => tk0, fun _ => tk0, trivial⟩ ?_
              rintro _ w33 ⟨rfl, Gw33⟩
              have z91 := Gw33.size
              refine ⟨Kz.ofGr Gw33, ?_⟩
              have S92 := (Kp.gr (Kp.gr (Kp.refl ([b3] ++ zf zy33 gy33) w31) Gw32) Gw33)
              refine dd_hn 0 rfl rfl rfl rfl S92 (fun w hS => vv_build (cs := TPoint.cs (TPoint.mk x34 x35)) bs_35 rfl rfl) ?_
              refine dd_z [] rfl rfl rfl (ev_litT [(TPoint.mk x34 x35)] TPoint.cs bsl_24_1 rfl rfl (ws_of rfl) rfl rfl rfl) ⟨fun _ => tk0, fun _ => tk0, trivial⟩ ?_
              rintro vw34 w34 ⟨gw34, hbw34, Ow34, Gw34⟩
              have z93 := Gw34.size
              have lt94 := Ow34.lth
              refine ⟨Kz.ofGr Gw34, ?_⟩
              have B95 := (Own.gr (Own.gr (Own.gr (Own.gr Fw30_0 Gw31) Gw32) Gw33) Gw34)
              have hb := bnd hm; clear hm; obtain ⟨l36, hl36, hm⟩ := hb
              refine dd_z [(zy33, gy33)] rfl rfl rfl (ev_appT (l := a32) (m := [(TPoint.mk x34 x35)]) (c := TPoint.cs) apt_24 rfl rfl B95 (Own.rd Ow34) hl36 (by decide)) ⟨fun _ => (tk1 (tk0 : zy33 = 0 ∨ (gy33 = gy33 ∧ zy33 ≠ 0) ∨ w31.heap.size ≤ gy33)), fun _ => (tk1 (tk0 : zy33 = 0 ∨ (gy33 = gy33 ∧ zy33 ≠ 0) ∨ w31.heap.size ≤ gy33)), trivial⟩ ?_
              rintro vw35 w35 ⟨zw35, gw35, Ow35, Aw35, qw35, rw35⟩
              have z96 := Aw35.size
              refine ⟨Kz.ofKa Aw35, ?_⟩
              have S97 := (Kp.ka (Kp.gr S92 Gw34) Aw35 (tk1 (tk0 : zy33 = 0 ∨ (gy33 = gy33 ∧ zy33 ≠ 0) ∨ w31.heap.size ≤ gy33)))
              refine dd_hn 0 rfl rfl rfl rfl S97 (fun w hS => vv_fieldAddr fa_31_2 rfl) ?_
              refine dd_hn 0 rfl rfl rfl rfl S97 (fun w hS => vv_fieldAddr fa_28_2 rfl) ?_
              have B98 := (Bx.ka (Bx.gr (Bx.gr (Bx.gr B87 Gw32) Gw33) Gw34) Aw35 (tk1 ((pv_0 (A := (fun x => x ≠ b3)) Fw30_1) : zy33 = 0 ∨ gy33 ≠ b3)))
              refine dd_z [(1, b3)] rfl rfl rfl (ev_st1 (cs' := TPacket.cs (TPacket.mk (x1.setWidth 8) a10 (THeader.mk a17 x24 l36 k0 k0) 0#8 0#64 [] k0) vy18 vw35 (.slice none 0 0)) (one_24).siz rfl rfl (Own.oneB Ow35) B98 rfl rfl) ⟨fun _ => tk0, nofun, trivial⟩ ?_
              rintro _ w36 ⟨Bw36, Mw36⟩
              have z99 := Mw36.size
              refine ⟨Kz.ofMd Mw36, ?_⟩
              refine sd_done ?_
              -- region 25 ref.go:323
              refine sw_region [(0, 0), (1, 0), (2, 0)] rfl rfl rfl ?_
              refine sd_vv rfl rfl rfl (vv_move rfl) ?_
              refine sd_vv rfl rfl rfl (vv_add (k := .i64) (a := a30) (b := 16) rfl rfl) ?_
              refine sd_vv rfl rfl rfl (vv_assign rfl) ?_
              refine sd_nil ?_
              refine block_n ?_
              refine then_n ?_
              -- region 23 ref.go:321
              refine sw_region [(0, 0), (1, 0), (2, 0)] rfl rfl rfl ?_
              refine sd_vv rfl rfl rfl (vv_move rfl) ?_
              refine sd_vv rfl rfl rfl (vv_add (k := .i64) (a := a31) (b := 1) rfl rfl) ?_
              refine sd_vv rfl rfl rfl (vv_assign rfl) ?_
              refine sd_nil ?_
              have K_100 : Kz [(1, b3)] w29 w36 := (Kz.md (Kz.ka (Kz.gr (Kz.gr (Kz.gr (Kz.gr Kw30 Gw31) Gw32) Gw33) Gw34) Aw35 (tk1 ((pv_0 (A := (fun x => w29.heap.size ≤ x)) Fw30_1) : zy33 = 0 ∨ w29.heap.size ≤ gy33))) Mw36)
              have B101 := (Own.md Ow35 Mw36 (tk1 ((pv_app (A := (fun x => x ≠ b3)) rw35 (pv_0 (A := (fun x => x ≠ b3)) Fw30_1)) : zw35 = 0 ∨ gw35 ≠ b3)))
              subst hrec4
              refine ⟨rfl, ⟨n4, w64 (a30 + 16), w64 (a31 + 1), l36, vw35, zw35, gw35⟩, ?_, ⟨hm, B101, ⟨(pv_app (A := (fun x => w29.heap.size ≤ x)) rw35 (pv_0 (A := (fun x => w29.heap.size ≤ x)) Fw30_1))⟩, Bw36, K_100⟩, Nat.lt_succ_self _⟩
              repeat' first | exact trivial | refine ⟨rfl, ?_⟩
            ·
              replace hm := ite_f (of_decide_eq_false c4) hm
              refine sw_exit ?_
              refine then_x ?_
              refine then_x ?_
              refine block_x ?_
              refine then_n ?_
              refine sw_seq ?_
              -- region 26 ref.go:325
              refine sw_region [(0, 0), (1, 0), (2, 0), (3, 0), (4, 0), (5, 0)] rfl rfl rfl ?_
              refine sd_vv rfl rfl rfl (vv_move rfl) ?_
              refine sd_vv rfl rfl rfl (vv_move rfl) ?_
              have B102 := (Rd.kz B81 Kw30 (tk1 ((pv_lt (A := (fun x => x ≠ b3)) lt1) : zp0 = 0 ∨ gp0 ≠ b3)))
              have hb := bnd hm; clear hm; obtain ⟨x37, hx37, hm⟩ := hb
              refine sd_ev rfl rfl rfl (ev_call en_35 rfl (ref05_key_w p0 a30 _ _ _ _ _ hx37 _ B102)) ?_
              rintro _ w37 ⟨rfl, Gw37⟩
              have z103 := Gw37.size
              refine sd_vv rfl rfl rfl (vv_fieldAddr fa_31_2 rfl) ?_
              refine sd_vv rfl rfl rfl (vv_fieldAddr fa_28_3 rfl) ?_
              have B104 := (Bx.gr Fw30_2 Gw37)
              refine sd_ev rfl rfl rfl (ev_stM (cs' := TPacket.cs (TPacket.mk (x1.setWidth 8) a10 (THeader.mk a17 x24 a32 x37 k0) 0#8 0#64 [] k0) vy18 vy33 (.slice none 0 0)) (vs := kb x37) (agg_26).siz rfl rfl rfl rfl rfl B104 rfl rfl) ?_
              rintro _ w38 ⟨Bw38, Mw38⟩
              have z105 := Mw38.size
              refine sd_done ?_
              refine sw_seq ?_
              -- region 27 ref.go:326
              refine sw_region [(0, 0), (1, 0), (2, 0), (3, 0), (4, 0), (5, 0), (6, 0)] rfl rfl rfl ?_
              refine sd_vv rfl rfl rfl (vv_move rfl) ?_
              refine sd_vv rfl rfl rfl (vv_move rfl) ?_
              refine sd_vv rfl rfl rfl (vv_add (k := .i64) (a := a30) (b := 16) rfl rfl) ?_
              have B106 := (Rd.md (Rd.gr B102 Gw37) Mw38 (tk1 ((pv_lt (A := (fun x => x ≠ b3)) lt1) : zp0 = 0 ∨ gp0 ≠ b3)))
              have hb := bnd hm; clear hm; obtain ⟨x38, hx38, hm⟩ := hb
              refine sd_ev rfl rfl rfl (ev_call en_35 rfl (ref05_key_w p0 (w64 (a30 + 16)) _ _ _ _ _ hx38 _ B106)) ?_
              rintro _ w39 ⟨rfl, Gw39⟩
              have z107 := Gw39.size
              refine sd_vv rfl rfl rfl (vv_fieldAddr fa_31_2 rfl) ?_
              refine sd_vv rfl rfl rfl (vv_fieldAddr fa_28_4 rfl) ?_
              have B108 := (Bx.gr Bw38 Gw39)
              refine sd_ev rfl rfl rfl (ev_stM (cs' := TPacket.cs (TPacket.mk (x1.setWidth 8) a10 (THeader.mk a17 x24 a32 x37 x38) 0#8 0#64 [] k0) vy18 vy33 (.slice none 0 0)) (vs := kb x38) (agg_26).siz rfl rfl rfl rfl rfl B108 rfl rfl) ?_
              rintro _ w40 ⟨Bw40, Mw40⟩
              have z109 := Mw40.size
              refine sd_done ?_
              refine sw_seq ?_
              -- region 28 ref.go:327
              refine sw_region [(0, 0), (1, 0), (2, 0), (3, 0), (4, 0), (5, 0)] rfl rfl rfl ?_
              refine sd_vv rfl rfl rfl (vv_move rfl) ?_
              refine sd_vv rfl rfl rfl (vv_move rfl) ?_
              refine sd_vv rfl rfl rfl (vv_add (k := .i64) (a := a30) (b := 32) rfl rfl) ?_
              have B110 := (Rd.md (Rd.gr B106 Gw39) Mw40 (tk1 ((pv_lt (A := (fun x => x ≠ b3)) lt1) : zp0 = 0 ∨ gp0 ≠ b3)))
              have hb := bnd hm; clear hm; obtain ⟨x39, hx39, hm⟩ := hb
              refine sd_ev rfl rfl rfl (ev_call en_35 rfl (ref05_key_w p0 (w64 (a30 + 32)) _ _ _ _ _ hx39 _ B110)) ?_
              rintro _ w41 ⟨rfl, Gw41⟩
              have z111 := Gw41.size
              refine sd_vv rfl rfl rfl (vv_fieldAddr fa_31_6 rfl) ?_
              have B112 := (Bx.gr Bw40 Gw41)
              refine sd_ev rfl rfl rfl (ev_stM (cs' := TPacket.cs (TPacket.mk (x1.setWidth 8) a10 (THeader.mk a17 x24 a32 x37 x38) 0#8 0#64 [] x39) vy18 vy33 (.slice none 0 0)) (vs := kb x39) (agg_26).siz rfl rfl rfl rfl rfl B112 rfl rfl) ?_
              rintro _ w42 ⟨Bw42, Mw42⟩
              have z113 := Mw42.size
              refine sd_done ?_
              refine sw_seq ?_
              -- region 29 ref.go:328
              refine sw_region [(0, 0), (1, 0)] rfl rfl rfl ?_
              refine sd_vv rfl rfl rfl (vv_loadW agg_31 rfl Bw42 rfl) ?_
              have B114 := (Bx.md (Bx.gr (Bx.md (Bx.gr (Bx.md (Bx.gr (Bx.kz (Bx.gr (Bx.md (Bx.gr (Bx.gr (Bx.kz (Bx.kz (Bx.md (Bx.gr (Bx.gr Bw1 Gw2) Gw3) Mw4) Kw17) Kw18) Gw19) Gw27) Mw28) Gw29) Kw30) Gw37) Mw38) Gw39) Mw40) Gw41) Mw42)
              have B115 := (Own.md (Own.gr (Own.md (Own.gr (Own.md (Own.gr (Own.kz B83 Kw30 (tk1 ((pv_0 (A := (fun x => x ≠ b3)) Fw18_1) : zy18 = 0 ∨ gy18 ≠ b3))) Gw37) Mw38 (tk1 ((pv_0 (A := (fun x => x ≠ b3)) Fw18_1) : zy18 = 0 ∨ gy18 ≠ b3))) Gw39) Mw40 (tk1 ((pv_0 (A := (fun x => x ≠ b3)) Fw18_1) : zy18 = 0 ∨ gy18 ≠ b3))) Gw41) Mw42 (tk1 ((pv_0 (A := (fun x => x ≠ b3)) Fw18_1) : zy18 = 0 ∨ gy18 ≠ b3)))
              have B116 := (Own.md (Own.gr (Own.md (Own.gr (Own.md (Own.gr Fw30_0 Gw37) Mw38 (tk1 ((pv_0 (A := (fun x => x ≠ b3)) Fw30_1) : zy33 = 0 ∨ gy33 ≠ b3))) Gw39) Mw40 (tk1 ((pv_0 (A := (fun x => x ≠ b3)) Fw30_1) : zy33 = 0 ∨ gy33 ≠ b3))) Gw41) Mw42 (tk1 ((pv_0 (A := (fun x => x ≠ b3)) Fw30_1) : zy33 = 0 ∨ gy33 ≠ b3)))
              refine sd_ev rfl rfl rfl (ev_stM (cs' := TPacket.cs (TPacket.mk (x1.setWidth 8) a10 (THeader.mk a17 x24 a32 x37 x38) 0#8 0#64 [] x39) vy18 vy33 (.slice none 0 0)) (vs := TPacket.cs (TPacket.mk (x1.setWidth 8) a10 (THeader.mk a17 x24 a32 x37 x38) 0#8 0#64 [] x39) vy18 vy33 (.slice none 0 0)) (agg_31).siz rfl rfl rfl rfl (TPacket.cs_ones _ _ _ _ (Own.oneB B115) (Own.oneB B116) rfl) B114 rfl rfl) ?_
              rintro _ w43 ⟨Bw43, Mw43⟩
              have z117 := Mw43.size
              refine sd_done ?_
              refine sw_ret ?_
              have B118 := (Own.md B115 Mw43 (tk1 ((pv_0 (A := (fun x => x ≠ b1)) Fw18_1) : zy18 = 0 ∨ gy18 ≠ b1)))
              have B119 := (Own.md B116 Mw43 (tk1 ((pv_0 (A := (fun x => x ≠ b1)) Fw30_1) : zy33 = 0 ∨ gy33 ≠ b1)))
              have X120 : Gr w w43 := (Gr.md (Gr.md (Gr.trans (Gr.md (Gr.trans (Gr.md (Gr.trans (Gr.kz X80 Kw30) Gw37) Mw38) Gw39) Mw40) Gw41) Mw42) Mw43)
              have hr := Option.some.inj hm
              subst hr
              refine ⟨_, _, rfl, res_1 rfl (rv_cellW agg_31 rfl Bw43 rfl), ?_⟩
              exact ⟨vy18, zy18, gy18, vy33, zy33, gy33, (.slice none 0 0), 0, 0, rfl, B118, ⟨(pv_0 (A := (fun x => w.heap.size ≤ x)) Fw18_1)⟩, B119, ⟨(pv_0 (A := (fun x => w.heap.size ≤ x)) Fw30_1)⟩, (own_nil _ 0 5 1), ⟨.inl rfl⟩, ⟨(pv_0 (A := (fun x => zy18 = 0 ∨ x ≠ gy18)) Fw30_1 (fun x hx => (tk1 lt51.o)))⟩, ⟨(.inl rfl)⟩, ⟨(.inl rfl)⟩, X120⟩
    ·
      refine sw_seq ?_
      -- region 10 ref.go:310
      refine sw_region [(0, 0), (1, 0), (2, 0)] rfl rfl rfl ?_
      refine sd_vv rfl rfl rfl (vv_move rfl) ?_
      have B121 := (Rd.md (Rd.gr (Rd.gr B4 Gw2) Gw3) Mw4 (tk1 ((pv_lt (A := (fun x => x ≠ b3)) lt1) : zp0 = 0 ∨ gp0 ≠ b3)))
      have hb := bnd hm; clear hm; obtain ⟨x40, hx40, hm⟩ := hb
      refine sd_ev rfl rfl rfl (ev_call en_34 rfl (ref05_at_w p0 1 8 _ _ _ _ _ hx40 _ B121)) ?_
      rintro _ w44 ⟨rfl, Gw44⟩
      have z122 := Gw44.size
      refine sd_vv rfl rfl rfl (vv_leqU (c := x40) (d := 1099511627776#64) rfl rfl) ?_
      refine sd_done ?_
      refine sw_cond rfl (fun c5 => ?_) (fun c5 => ?_)
      ·
        replace hm := ite_t (of_decide_eq_true c5) hm
        -- region 11 ref.go:311
        refine sw_region [(0, 0), (1, 0), (2, 0), (3, 0), (4, 0)] rfl rfl rfl ?_
        refine sd_vv rfl rfl rfl (vv_move rfl) ?_
        have B123 := (Rd.gr B121 Gw44)
        have hb := bnd hm; clear hm; obtain ⟨x41, hx41, hm⟩ := hb
        refine sd_ev rfl rfl rfl (ev_call en_34 rfl (ref05_at_w p0 1 8 _ _ _ _ _ hx41 _ B123)) ?_
        rintro _ w45 ⟨rfl, Gw45⟩
        have z124 := Gw45.size
        refine sd_vv rfl rfl rfl (vv_cvUI cv_23_3 rfl) ?_
        refine sd_vv rfl rfl rfl (vv_fieldAddr fa_31_1 rfl) ?_
        have B125 := (Bx.gr (Bx.gr Bw4 Gw44) Gw45)
        refine sd_ev rfl rfl rfl (ev_st1 (cs' := TPacket.cs (TPacket.mk (x1.setWidth 8) (w64 (un x41)) (THeader.mk [] 0#64 [] k0 k0) 0#8 0#64 [] k0) (.slice none 0 0) (.slice none 0 0) (.slice none 0 0)) (one_3).siz rfl rfl rfl B125 rfl rfl) ?_
        rintro _ w46 ⟨Bw46, Mw46⟩
        have z126 := Mw46.size
        refine sd_nil ?_
        have K_127 : Kz [(1, b3)] w4 w46 := (Kz.md (Kz.gr (Kz.gr (Kz.refl _ _) Gw44) Gw45) Mw46)
        refine ⟨rfl, (w64 (un x41)), ?_, hm, Bw46, K_127⟩
        repeat' first | exact trivial | refine ⟨rfl, ?_⟩
      ·
        replace hm := ite_f (of_decide_eq_false c5) hm
        refine sw_skip ?_
        have K_128 : Kz [(1, b3)] w4 w44 := (Kz.gr (Kz.refl _ _) Gw44)
        have B129 := (Bx.gr Bw4 Gw44)
        refine ⟨rfl, 0, ?_, hm, B129, K_128⟩
        repeat' first | exact trivial | refine ⟨rfl, ?_⟩

set_option maxHeartbeats 2000000 in
theorem ref05_Decode_w (p0 : List (BitVec 8)) (vp0 : Value) (zp0 gp0 op0 : Nat) (r : TPacket × Int) (hm : ref05_Decode p0 = some r) (w : World) (hp0 : Rd w zp0 gp0 op0 1 vp0 (p0.map bvc))  :
    Calls Try.prog 8 [vp0].toArray w fun e w' => ∃ v, e = .returned v ∧ (∃ (ur0_2 : Value) (zr0_2 : Nat) (gr0_2 : Nat) (ur0_4 : Value) (zr0_4 : Nat) (gr0_4 : Nat) (ur0_39 : Value) (zr0_39 : Nat) (gr0_39 : Nat), v = .tuple [.agg (TPacket.cs r.1 ur0_2 ur0_4 ur0_39).toArray, .int .i64 r.2].toArray ∧ Own w' zr0_2 gr0_2 64 18 ur0_2 (r.1.Head.Items.map TItem.cs) ∧ Hdn (zr0_2 = 0 ∨ w.heap.size ≤ gr0_2) ∧ Own w' zr0_4 gr0_4 35 2 ur0_4 (r.1.Head.Points.map TPoint.cs) ∧ Hdn (zr0_4 = 0 ∨ w.heap.size ≤ gr0_4) ∧ Own w' zr0_39 gr0_39 5 1 ur0_39 (r.1.Data.map bvc) ∧ Hdn (zr0_39 = 0 ∨ w.heap.size ≤ gr0_39) ∧ Hdn (zr0_4 = 0 ∨ zr0_2 = 0 ∨ gr0_4 ≠ gr0_2) ∧ Hdn (zr0_39 = 0 ∨ zr0_2 = 0 ∨ gr0_39 ≠ gr0_2) ∧ Hdn (zr0_39 = 0 ∨ zr0_4 = 0 ∨ gr0_39 ≠ gr0_4) ∧ Gr w w') := by
  have lt1 := hp0.lth
  unfold ref05_Decode at hm
  refine calls_of_sw (R := fun v w' => ∃ (ur0_2 : Value) (zr0_2 : Nat) (gr0_2 : Nat) (ur0_4 : Value) (zr0_4 : Nat) (gr0_4 : Nat) (ur0_39 : Value) (zr0_39 : Nat) (gr0_39 : Nat), v = .tuple [.agg (TPacket.cs r.1 ur0_2 ur0_4 ur0_39).toArray, .int .i64 r.2].toArray ∧ Own w' zr0_2 gr0_2 64 18 ur0_2 (r.1.Head.Items.map TItem.cs) ∧ Hdn (zr0_2 = 0 ∨ w.heap.size ≤ gr0_2) ∧ Own w' zr0_4 gr0_4 35 2 ur0_4 (r.1.Head.Points.map TPoint.cs) ∧ Hdn (zr0_4 = 0 ∨ w.heap.size ≤ gr0_4) ∧ Own w' zr0_39 gr0_39 5 1 ur0_39 (r.1.Data.map bvc) ∧ Hdn (zr0_39 = 0 ∨ w.heap.size ≤ gr0_39) ∧ Hdn (zr0_4 = 0 ∨ zr0_2 = 0 ∨ gr0_4 ≠ gr0_2) ∧ Hdn (zr0_39 = 0 ∨ zr0_2 = 0 ∨ gr0_39 ≠ gr0_2) ∧ Hdn (zr0_39 = 0 ∨ zr0_4 = 0 ∨ gr0_39 ≠ gr0_4) ∧ Gr w w') 20 Try.func8 rfl rfl rfl ?_
  refine sw_seq ?_
  -- region 0 ref.go:332
  refine sw_region [(0, 0), (1, 0)] rfl rfl rfl ?_
  refine sd_ev rfl rfl rfl (ev_alloc (cs := TPacket.cs (TPacket.mk 0#8 0 (THeader.mk [] 0#64 [] k0 k0) 0#8 0#64 [] k0) (.slice none 0 0) (.slice none 0 0) (.slice none 0 0)) zv_31 rfl) ?_
  rintro _ w1 ⟨b1, rfl, hbw1, Bw1, Gw1⟩
  have z2 := Gw1.size
  have lt3 := Bw1.lt
  refine sd_vv rfl rfl rfl (vv_assign rfl) ?_
  refine sd_done ?_
  refine sw_seq ?_
  -- region 1 ref.go:333
  refine sw_region [(0, 0), (1, 0), (2, 0), (3, 0)] rfl rfl rfl ?_
  refine sd_vv rfl rfl rfl (vv_move rfl) ?_
  have B4 := (Rd.gr hp0 Gw1)
  have hb := bnd hm; clear hm; obtain ⟨x1, hx1, hm⟩ := hb
  refine sd_ev rfl rfl rfl (ev_call en_24 rfl (ref05_read_w p0 _ _ _ _ _ hx1 _ B4)) ?_
  rintro _ w2 ⟨u2_r0_2, z2_r0_2, g2_r0_2, u2_r0_4, z2_r0_4, g2_r0_4, u2_r0_39, z2_r0_39, g2_r0_39, rfl, O2_r0_2, f2_r0_2, O2_r0_4, f2_r0_4, O2_r0_39, f2_r0_39, d2_0, d2_1, d2_2, Gw2⟩
  have z5 := Gw2.size
  have lt6 := O2_r0_2.lth
  have lt7 := O2_r0_4.lth
  have lt8 := O2_r0_39.lth
  refine sd_ev rfl rfl rfl (ev_alloc (cs := TPacket.cs (TPacket.mk 0#8 0 (THeader.mk [] 0#64 [] k0 k0) 0#8 0#64 [] k0) (.slice none 0 0) (.slice none 0 0) (.slice none 0 0)) zv_31 rfl) ?_
  rintro _ w3 ⟨b3, rfl, hbw3, Bw3, Gw3⟩
  have z9 := Gw3.size
  have lt10 := Bw3.lt
  have B11 := (Own.gr O2_r0_2 Gw3)
  have B12 := (Own.gr O2_r0_4 Gw3)
  have B13 := (Own.gr O2_r0_39 Gw3)
  refine sd_ev rfl rfl rfl (ev_stM (cs' := TPacket.cs x1 u2_r0_2 u2_r0_4 u2_r0_39) (vs := TPacket.cs x1 u2_r0_2 u2_r0_4 u2_r0_39) (agg_31).siz rfl rfl rfl rfl (TPacket.cs_ones _ _ _ _ (Own.oneB B11) (Own.oneB B12) (Own.oneB B13)) Bw3 rfl rfl) ?_
  rintro _ w4 ⟨Bw4, Mw4⟩
  have z14 := Mw4.size
  refine sd_done ?_
  refine sw_seq ?_
  have X15 : Gr w w4 := (Gr.md (Gr.trans (Gr.trans (Gr.trans (Gr.refl w) Gw1) Gw2) Gw3) Mw4)
  refine sw_joinD (β := Bool) [7, 8, 9, 10, 11, 12, 13, 14, 15, 16, 17] (fun a2 => [(17, .bool a2)]) (fun a2 wr => (ref05_Decode_J1 x1 a2 = some r) ∧ Kz [] w4 wr) ?_ ?_
  · clear hm; rintro a2 w5 ⟨hm, Kw5⟩
    have z16 := Kw5.size
    unfold ref05_Decode_J1 at hm
    refine sw_cond rfl (fun c1 => ?_) (fun c1 => ?_)
    ·
      replace hm := cnd_t c1 hm
      refine sw_seq ?_
      -- region 3 ref.go:335
      refine sw_region [(0, 0), (1, 0), (2, 0)] rfl rfl rfl ?_
      refine sd_vv rfl rfl rfl (vv_build (cs := TPacket.cs (TPacket.mk 0#8 0 (THeader.mk [] 0#64 [] k0 k0) 0#8 0#64 [] k0) (.slice none 0 0) (.slice none 0 0) (.slice none 0 0)) bs_31 rfl (by kernel_rfl)) ?_
      have B17 := (Bx.kz (Bx.md (Bx.gr (Bx.gr Bw1 Gw2) Gw3) Mw4) Kw5)
      refine sd_ev rfl rfl rfl (ev_stM (cs' := TPacket.cs (TPacket.mk 0#8 0 (THeader.mk [] 0#64 [] k0 k0) 0#8 0#64 [] k0) (.slice none 0 0) (.slice none 0 0) (.slice none 0 0)) (vs := TPacket.cs (TPacket.mk 0#8 0 (THeader.mk [] 0#64 [] k0 k0) 0#8 0#64 [] k0) (.slice none 0 0) (.slice none 0 0) (.slice none 0 0)) (agg_31).siz rfl rfl rfl rfl (TPacket.cs_ones _ _ _ _ rfl rfl rfl) B17 rfl rfl) ?_
      rintro _ w6 ⟨Bw6, Mw6⟩
      have z18 := Mw6.size
      refine sd_vv rfl rfl rfl (vv_assign rfl) ?_
      refine sd_done ?_
      refine sw_ret ?_
      refine then_r ?_
      have X19 : Gr w w6 := (Gr.md (Gr.kz X15 Kw5) Mw6)
      have hr := Option.some.inj hm
      subst hr
      refine ⟨_, _, rfl, res_2 rfl (rv_cellW agg_31 rfl Bw6 rfl) (rv_tmp rfl), ?_⟩
      exact ⟨(.slice none 0 0), 0, 0, (.slice none 0 0), 0, 0, (.slice none 0 0), 0, 0, rfl, (own_nil _ 0 64 18), ⟨.inl rfl⟩, (own_nil _ 0 35 2), ⟨.inl rfl⟩, (own_nil _ 0 5 1), ⟨.inl rfl⟩, ⟨(.inl rfl)⟩, ⟨(.inl rfl)⟩, ⟨(.inl rfl)⟩, X19⟩
    ·
      replace hm := cnd_f c1 hm
      refine sw_skip ?_
      refine then_n ?_
      refine sw_seq ?_
      -- region 4 ref.go:337
      refine sw_region [(0, 0), (1, 0), (2, 0)] rfl rfl rfl ?_
      have B20 := (Bx.kz Bw4 Kw5)
      refine sd_vv rfl rfl rfl (vv_loadW agg_31 rfl B20 rfl) ?_
      have B21 := (Bx.kz (Bx.md (Bx.gr (Bx.gr Bw1 Gw2) Gw3) Mw4) Kw5)
      have B22 := (Own.kz (Own.md B11 Mw4 (tk1 ((pv_lt (A := (fun x => x ≠ b3)) lt6) : z2_r0_2 = 0 ∨ g2_r0_2 ≠ b3))) Kw5)
      have B23 := (Own.kz (Own.md B12 Mw4 (tk1 ((pv_lt (A := (fun x => x ≠ b3)) lt7) : z2_r0_4 = 0 ∨ g2_r0_4 ≠ b3))) Kw5)
      have B24 := (Own.kz (Own.md B13 Mw4 (tk1 ((pv_lt (A := (fun x => x ≠ b3)) lt8) : z2_r0_39 = 0 ∨ g2_r0_39 ≠ b3))) Kw5)
      refine sd_ev rfl rfl rfl (ev_stM (cs' := TPacket.cs x1 u2_r0_2 u2_r0_4 u2_r0_39) (vs := TPacket.cs x1 u2_r0_2 u2_r0_4 u2_r0_39) (agg_31).siz rfl rfl rfl rfl (TPacket.cs_ones _ _ _ _ (Own.oneB B22) (Own.oneB B23) (Own.oneB B24)) B21 rfl rfl) ?_
      rintro _ w7 ⟨Bw7, Mw7⟩
      have z25 := Mw7.size
      refine sd_vv rfl rfl rfl (vv_assign rfl) ?_
      refine sd_done ?_
      refine sw_ret ?_
      have B26 := (Own.md B22 Mw7 (tk1 ((pv_0 (A := (fun x => x ≠ b1)) f2_r0_2) : z2_r0_2 = 0 ∨ g2_r0_2 ≠ b1)))
      have B27 := (Own.md B23 Mw7 (tk1 ((pv_0 (A := (fun x => x ≠ b1)) f2_r0_4) : z2_r0_4 = 0 ∨ g2_r0_4 ≠ b1)))
      have B28 := (Own.md B24 Mw7 (tk1 ((pv_0 (A := (fun x => x ≠ b1)) f2_r0_39) : z2_r0_39 = 0 ∨ g2_r0_39 ≠ b1)))
      have X29 : Gr w w7 := (Gr.md (Gr.kz X15 Kw5) Mw7)
      have hr := Option.some.inj hm
      subst hr
      refine ⟨_, _, rfl, res_2 rfl (rv_cellW agg_31 rfl Bw7 rfl) (rv_tmp rfl), ?_⟩
      exact ⟨u2_r0_2, z2_r0_2, g2_r0_2, u2_r0_4, z2_r0_4, g2_r0_4, u2_r0_39, z2_r0_39, g2_r0_39, rfl, B26, ⟨(pv_0 (A := (fun x => w.heap.size ≤ x)) f2_r0_2)⟩, B27, ⟨(pv_0 (A := (fun x => w.heap.size ≤ x)) f2_r0_4)⟩, B28, ⟨(pv_0 (A := (fun x => w.heap.size ≤ x)) f2_r0_39)⟩, ⟨(tk1 d2_0.o)⟩, ⟨(tk1 d2_1.o)⟩, ⟨(tk1 d2_2.o)⟩, X29⟩
  ·
    -- region 2 ref.go:334 DRAWS
    refine sw_drawN [([])] [] (.leaf [(0, 10), (1, 0), (2, 10), (3, 10), (4, 10), (7, 10), (8, 10), (5, 0), (6, 0), (9, 10), (10, 10)]) (by kernel_rfl) (by kernel_rfl) rfl (by kernel_rfl) ?_
    intro w8 Gw8 zw8
    refine sdz_leaf ?_
    have B30 := (Bx.gr Bw4 Gw8)
    refine dd_hn 0 rfl rfl rfl rfl (Kp.refl ([]) w8) (fun w hS => vv_loadW agg_31 rfl (Bx.kp B30 hS) rfl) ?_
    have B31 := (Own.gr (Own.md B11 Mw4 (tk1 ((pv_lt (A := (fun x => x ≠ b3)) lt6) : z2_r0_2 = 0 ∨ g2_r0_2 ≠ b3))) Gw8)
    have B32 := (Own.gr (Own.md B12 Mw4 (tk1 ((pv_lt (A := (fun x => x ≠ b3)) lt7) : z2_r0_4 = 0 ∨ g2_r0_4 ≠ b3))) Gw8)
    have B33 := (Own.gr (Own.md B13 Mw4 (tk1 ((pv_lt (A := (fun x => x ≠ b3)) lt8) : z2_r0_39 = 0 ∨ g2_r0_39 ≠ b3))) Gw8)
    have hb := bnd hm; clear hm; obtain ⟨x3, hx3, hm⟩ := hb
    refine dd_z [] rfl rfl rfl (ev_call en_13 rfl (ref05_ValidPacket_w x1 _ _ _ _ _ _ _ _ _ _ _ _ _ hx3 _ (Own.rd B31) (Own.rd B32) (Own.rd B33))) ⟨fun _ => tk0, trivial⟩ ?_
    rintro _ w9 ⟨rfl, Gw9⟩
    have z34 := Gw9.size
    refine ⟨Kz.ofGr Gw9, ?_⟩
    have S35 := (Kp.gr (Kp.refl ([]) w8) Gw9)
    refine dd_hn 0 rfl rfl rfl rfl S35 (fun w hS => vv_not rfl) ?_
    refine dd_pn 0 rfl rfl rfl rfl S35 (fun w hS => vv_move rfl) (fun c2 => ?_) (fun c2 => ?_)
    ·
      replace hm := cnd_t c2 hm
      refine dd_sn 0 rfl rfl rfl rfl S35 ?_
      refine dd_sn 0 rfl rfl rfl rfl S35 ?_
      refine dd_sn 0 rfl rfl rfl rfl S35 ?_
      refine dd_sz rfl rfl rfl ?_
      refine dd_sz rfl rfl rfl ?_
      refine dd_sn 0 rfl rfl rfl rfl S35 ?_
      refine dd_hn 0 rfl rfl rfl rfl S35 (fun w hS => vv_pickT rfl rfl) ?_
      refine sd_nil ?_
      have K_36 : Kz [] w4 w9 := (Kz.gr (Kz.gr (Kz.refl _ _) Gw8) Gw9)
      refine ⟨rfl, true, ?_, hm, K_36⟩
      repeat' first | exact trivial | refine ⟨rfl, ?_⟩
    ·
      replace hm := cnd_f c2 hm
      refine dd_hn 0 rfl rfl rfl rfl S35 (fun w hS => vv_loadW agg_31 rfl (Bx.kp B30 hS) rfl) ?_
      refine dd_hn 0 rfl rfl rfl rfl S35 (fun w hS => vv_move rfl) ?_
      have B37 := (Rd.gr (Rd.md (Rd.gr (Rd.gr B4 Gw2) Gw3) Mw4 (tk1 ((pv_lt (A := (fun x => x ≠ b3)) lt1) : zp0 = 0 ∨ gp0 ≠ b3))) Gw8)
      refine dd_hn 0 rfl rfl rfl rfl S35 (fun w hS => vv_b2s (l := p0) Try.underlying29 Try.underlying5 Try.underlying9 rfl (Rd.kp B37 hS)) ?_
      have B38 := (Own.gr B31 Gw9)
      have B39 := (Own.gr B32 Gw9)
      have B40 := (Own.gr B33 Gw9)
      have hb := bnd hm; clear hm; obtain ⟨x4, hx4, hm⟩ := hb
      refine dd_z [] rfl rfl rfl (ev_call en_14 rfl (ref05_Bytes_w x1 _ _ _ _ _ _ _ _ _ _ _ _ _ hx4 _ (Own.rd B38) (Own.rd B39) (Own.rd B40))) ⟨fun _ => tk0, trivial⟩ ?_
      rintro u10_r0_s w10 ⟨_, z10_r0_s, g10_r0_s, rfl, O10_r0_s, f10_r0_s, Gw10⟩
      have z41 := Gw10.size
      have lt42 := O10_r0_s.lth
      refine ⟨Kz.ofGr Gw10, ?_⟩
      refine dd_vz rfl rfl rfl (vv_b2s (l := x4) Try.underlying29 Try.underlying5 Try.underlying9 rfl (Own.rd O10_r0_s)) ?_
      have S43 := (Kp.gr S35 Gw10)
      refine dd_hn 0 rfl rfl rfl rfl S43 (fun w hS => vv_neqT (l := x4) (m := p0) rfl rfl) ?_
      refine dd_hn 0 rfl rfl rfl rfl S43 (fun w hS => vv_pickF rfl rfl) ?_
      refine sd_nil ?_
      have K_44 : Kz [] w4 w10 := (Kz.gr (Kz.gr (Kz.gr (Kz.refl _ _) Gw8) Gw9) Gw10)
      refine ⟨rfl, (decide (x4 ≠ p0)), ?_, hm, K_44⟩
      repeat' first | exact trivial | refine ⟨rfl, ?_⟩

set_option maxHeartbeats 2000000 in
theorem ref05_SameHeader_w (p0 : THeader) (p1 : THeader) (vp0_0 : Value) (zp0_0 gp0_0 op0_0 : Nat) (vp0_2 : Value) (zp0_2 gp0_2 op0_2 : Nat) (vp1_0 : Value) (zp1_0 gp1_0 op1_0 : Nat) (vp1_2 : Value) (zp1_2 gp1_2 op1_2 : Nat) (r : Bool) (hm : ref05_SameHeader p0 p1 = some r) (w : World) (hp0_0 : Rd w zp0_0 gp0_0 op0_0 18 vp0_0 (p0.Items.map TItem.cs)) (hp0_2 : Rd w zp0_2 gp0_2 op0_2 2 vp0_2 (p0.Points.map TPoint.cs)) (hp1_0 : Rd w zp1_0 gp1_0 op1_0 18 vp1_0 (p1.Items.map TItem.cs)) (hp1_2 : Rd w zp1_2 gp1_2 op1_2 2 vp1_2 (p1.Points.map TPoint.cs))  :
    Calls Try.prog 28 [.agg (THeader.cs p0 vp0_0 vp0_2).toArray, .agg (THeader.cs p1 vp1_0 vp1_2).toArray].toArray w fun e w' => ∃ v, e = .returned v ∧ (v = .bool r ∧ Gr w w') := by
  have lt1 := hp0_0.lth
  have lt2 := hp0_2.lth
  have lt3 := hp1_0.lth
  have lt4 := hp1_2.lth
  unfold ref05_SameHeader at hm
  refine calls_of_sw (R := fun v w' => v = .bool r ∧ Gr w w') 80 Try.func28 rfl rfl rfl ?_
  refine sw_seq ?_
  -- region 0 ref.go:509
  refine sw_region [(0, 0), (1, 0), (2, 0)] rfl rfl rfl ?_
  refine sd_ev rfl rfl rfl (ev_box (cs := THeader.cs p0 vp0_0 vp0_2) rfl rfl) ?_
  rintro _ w1 ⟨b1, rfl, hbw1, Bw1, Gw1⟩
  have z5 := Gw1.size
  have lt6 := Bw1.lt
  refine sd_ev rfl rfl rfl (ev_box (cs := THeader.cs p1 vp1_0 vp1_2) rfl rfl) ?_
  rintro _ w2 ⟨b2, rfl, hbw2, Bw2, Gw2⟩
  have z7 := Gw2.size
  have lt8 := Bw2.lt
  refine sd_vv rfl rfl rfl (vv_assign rfl) ?_
  refine sd_done ?_
  refine sw_seq ?_
  have X9 : Gr w w2 := (Gr.trans (Gr.trans (Gr.refl w) Gw1) Gw2)
  refine sw_joinD (β := Bool) [7, 8, 9, 10, 11, 12, 13, 14, 15, 16, 17, 18, 19, 20, 21, 22, 23, 24, 25, 26, 27, 28, 29, 30, 31, 32, 33, 34, 35, 36, 37, 38, 39, 40, 41, 42, 43] (fun a1 => [(43, .bool a1)]) (fun a1 wr => (ref05_SameHeader_J1 p0 p1 a1 = some r) ∧ Kz [] w2 wr) ?_ ?_
  · clear hm; rintro a1 w3 ⟨hm, Kw3⟩
    have z10 := Kw3.size
    unfold ref05_SameHeader_J1 at hm
    refine sw_cond rfl (fun c1 => ?_) (fun c1 => ?_)
    ·
      replace hm := cnd_t c1 hm
      refine sw_seq ?_
      -- region 2 ref.go:511
      refine sw_region [(0, 0)] rfl rfl rfl ?_
      refine sd_vv rfl rfl rfl (vv_assign rfl) ?_
      refine sd_done ?_
      refine sw_ret ?_
      refine then_r ?_
      have X11 : Gr w w3 := (Gr.kz X9 Kw3)
      have hr := Option.some.inj hm
      subst hr
      refine ⟨_, _, rfl, res_1 rfl (rv_tmp rfl), ?_⟩
      exact ⟨rfl, X11⟩
    ·
      replace hm := cnd_f c1 hm
      refine sw_skip ?_
      refine then_n ?_
      refine sw_seq ?_
      refine sw_seq ?_
      -- region 3 ref.go:513
      refine sw_region [(0, 0)] rfl rfl rfl ?_
      refine sd_vv rfl rfl rfl (vv_assign rfl) ?_
      refine sd_done ?_
      refine sw_block ?_
      have X12 : Gr w w3 := (Gr.kz X9 Kw3)
      have B13 := (Rd.kz (Rd.gr (Rd.gr hp0_0 Gw1) Gw2) Kw3)
      have B14 := (Rd.kz (Rd.gr (Rd.gr hp0_2 Gw1) Gw2) Kw3)
      have B15 := (Rd.kz (Rd.gr (Rd.gr hp1_0 Gw1) Gw2) Kw3)
      have B16 := (Rd.kz (Rd.gr (Rd.gr hp1_2 Gw1) Gw2) Kw3)
      refine sw_loopD (α := Nat × Int) [4, 5, 44, 45, 46, 47, 48, 49, 50, 51, 52, 53, 54, 55, 56, 57, 58, 59, 60, 61] (fun ⟨n2, a3⟩ => [(4, .bool false), (5, .int .i64 a3)]) (fun ⟨n2, a3⟩ wr => (fixN (ref05_SameHeader_L2 p0 p1) n2 a3 = some r) ∧ Kz [] w3 wr) (fun ⟨n2, a3⟩ => n2) ⟨FUEL, 0⟩ ?_ ?_ ?_
      · repeat' first | exact trivial | refine ⟨rfl, ?_⟩
      · exact ⟨hm, Kz.refl _ _⟩
      · clear hm; rintro ⟨n2, a3⟩ w4 ⟨hm, Kw4⟩
        have z17 := Kw4.size
        have hb := fix_succ hm; clear hm; obtain ⟨n2, rfl, hm⟩ := hb
        generalize hrec2 : fixN (ref05_SameHeader_L2 p0 p1) n2 = rec2 at hm
        unfold ref05_SameHeader_L2 at hm
        try dsimp only at hm
        refine sw_seq ?_
        refine sw_seq ?_
        -- region 4 ref.go:513
        refine sw_region [(0, 0), (1, 0), (2, 0), (3, 0), (4, 0)] rfl rfl rfl ?_
        refine sd_vv rfl rfl rfl (vv_move rfl) ?_
        refine sd_vv rfl rfl rfl (vv_fieldAddr fa_28_0 rfl) ?_
        have B18 := (Bx.kz (Bx.kz (Bx.gr Bw1 Gw2) Kw3) Kw4)
        refine sd_vv rfl rfl rfl (vv_load1 (v := vp0_0) one_22 rfl B18 rfl) ?_
        have B19 := (Rd.kz B13 Kw4)
        refine sd_vv rfl rfl rfl (vv_lenT (l := p0.Items) (c := TItem.cs) Try.underlying22 rfl B19) ?_
        refine sd_vv rfl rfl rfl (vv_lss (a := a3) (b := (p0.Items.length : Int)) rfl rfl) ?_
        refine sd_done ?_
        refine sw_cond rfl (fun c2 => ?_) (fun c2 => ?_)
        ·
          replace hm := ite_t (of_decide_eq_true c2) hm
          refine sw_skip ?_
          refine then_n ?_
          refine sw_seq ?_
          refine sw_block ?_
          refine sw_seq ?_
          -- region 6 ref.go:514 DRAWS
          refine sw_drawN [([])] [] (.leaf [(0, 10), (1, 10), (2, 10), (3, 10), (4, 10), (5, 10), (6, 10), (7, 10), (8, 10), (9, 10), (10, 10)]) (by kernel_rfl) (by kernel_rfl) rfl (by kernel_rfl) ?_
          intro w5 Gw5 zw5
          refine sdz_leaf ?_
          refine dd_hn 0 rfl rfl rfl rfl (Kp.refl ([]) w5) (fun w hS => vv_fieldAddr fa_28_0 rfl) ?_
          have B20 := (Bx.gr B18 Gw5)
          refine dd_hn 0 rfl rfl rfl rfl (Kp.refl ([]) w5) (fun w hS => vv_load1 (v := vp0_0) one_22 rfl (Bx.kp B20 hS) rfl) ?_
          refine dd_hn 0 rfl rfl rfl rfl (Kp.refl ([]) w5) (fun w hS => vv_move rfl) ?_
          have hb := bnd hm; clear hm; obtain ⟨y4, hy4, hm⟩ := hb
          have B21 := (Rd.gr B19 Gw5)
          refine dd_hn 0 rfl rfl rfl rfl (Kp.refl ([]) w5) (fun w hS => vv_ixT (i := a3) Try.underlying22 (agg_64).siz rfl (Rd.kp B21 hS) rfl hy4) ?_
          refine dd_hn 0 rfl rfl rfl rfl (Kp.refl ([]) w5) (fun w hS => vv_elWT agg_64 rfl (Rd.kp B21 hS) hy4 (by first | rfl | omega)) ?_
          refine dd_hn 0 rfl rfl rfl rfl (Kp.refl ([]) w5) (fun w hS => vv_fieldAddr fa_28_0 rfl) ?_
          have B22 := (Bx.gr (Bx.kz (Bx.kz Bw2 Kw3) Kw4) Gw5)
          refine dd_hn 0 rfl rfl rfl rfl (Kp.refl ([]) w5) (fun w hS => vv_load1 (v := vp1_0) one_22 rfl (Bx.kp B22 hS) rfl) ?_
          refine dd_hn 0 rfl rfl rfl rfl (Kp.refl ([]) w5) (fun w hS => vv_move rfl) ?_
          have hb := bnd hm; clear hm; obtain ⟨y5, hy5, hm⟩ := hb
          have B23 := (Rd.gr (Rd.kz B15 Kw4) Gw5)
          refine dd_hn 0 rfl rfl rfl rfl (Kp.refl ([]) w5) (fun w hS => vv_ixT (i := a3) Try.underlying22 (agg_64).siz rfl (Rd.kp B23 hS) rfl hy5) ?_
          refine dd_hn 0 rfl rfl rfl rfl (Kp.refl ([]) w5) (fun w hS => vv_elWT agg_64 rfl (Rd.kp B23 hS) hy5 (by first | rfl | omega)) ?_
          refine dd_hn 0 rfl rfl rfl rfl (Kp.refl ([]) w5) (fun w hS => vv_neqS (cf := TItem.cs) (a := y4) (b := y5) eqt_64 rfl rfl rfl rfl (fun h => TItem.cs_inj h)) ?_
          refine sd_done ?_
          refine sw_cond rfl (fun c3 => ?_) (fun c3 => ?_)
          ·
            replace hm := ite_t (of_decide_eq_true c3) hm
            refine sw_seq ?_
            -- region 7 ref.go:515
            refine sw_region [(0, 0)] rfl rfl rfl ?_
            refine sd_vv rfl rfl rfl (vv_assign rfl) ?_
            refine sd_done ?_
            refine sw_ret ?_
            refine block_r ?_
            refine then_r ?_
            refine then_r ?_
            refine block_r ?_
            refine then_r ?_
            have X24 : Gr w w5 := (Gr.trans (Gr.kz X12 Kw4) Gw5)
            have hr := Option.some.inj hm
            subst hr
            refine ⟨_, _, rfl, res_1 rfl (rv_tmp rfl), ?_⟩
            exact ⟨rfl, X24⟩
          ·
            replace hm := ite_f (of_decide_eq_false c3) hm
            refine sw_skip ?_
            refine block_n ?_
            refine then_n ?_
            -- region 5 ref.go:513
            refine sw_region [(0, 0), (1, 0), (2, 0)] rfl rfl rfl ?_
            refine sd_vv rfl rfl rfl (vv_move rfl) ?_
            refine sd_vv rfl rfl rfl (vv_add (k := .i64) (a := a3) (b := 1) rfl rfl) ?_
            refine sd_vv rfl rfl rfl (vv_assign rfl) ?_
            refine sd_nil ?_
            have K_25 : Kz [] w3 w5 := (Kz.gr Kw4 Gw5)
            subst hrec2
            refine ⟨rfl, ⟨n2, w64 (a3 + 1)⟩, ?_, ⟨hm, K_25⟩, Nat.lt_succ_self _⟩
            repeat' first | exact trivial | refine ⟨rfl, ?_⟩
        ·
          replace hm := ite_f (of_decide_eq_false c2) hm
          refine sw_exit ?_
          refine then_x ?_
          refine then_x ?_
          refine block_x ?_
          refine then_n ?_
          refine sw_seq ?_
          refine sw_seq ?_
          -- region 8 ref.go:518
          refine sw_region [(0, 0)] rfl rfl rfl ?_
          refine sd_vv rfl rfl rfl (vv_assign rfl) ?_
          refine sd_done ?_
          refine sw_block ?_
          have X26 : Gr w w4 := (Gr.kz X12 Kw4)
          have B27 := (Rd.kz B14 Kw4)
          have B28 := (Rd.kz B15 Kw4)
          have B29 := (Rd.kz B16 Kw4)
          refine sw_loopD (α := Nat × Int) [4, 6, 62, 63, 64, 65, 66, 67, 68, 69, 70, 71, 72, 73, 74, 75, 76, 77, 78, 79] (fun ⟨n3, a7⟩ => [(4, .bool false), (6, .int .i64 a7)]) (fun ⟨n3, a7⟩ wr => (fixN (ref05_SameHeader_L3 p0 p1) n3 a7 = some r) ∧ Kz [] w4 wr) (fun ⟨n3, a7⟩ => n3) ⟨FUEL, 0⟩ ?_ ?_ ?_
          · repeat' first | exact trivial | refine ⟨rfl, ?_⟩
          · exact ⟨hm, Kz.refl _ _⟩
          · clear hm; rintro ⟨n3, a7⟩ w6 ⟨hm, Kw6⟩
            have z30 := Kw6.size
            have hb := fix_succ hm; clear hm; obtain ⟨n3, rfl, hm⟩ := hb
            generalize hrec3 : fixN (ref05_SameHeader_L3 p0 p1) n3 = rec3 at hm
            unfold ref05_SameHeader_L3 at hm
            try dsimp only at hm
            refine sw_seq ?_
            refine sw_seq ?_
            -- region 9 ref.go:518
            refine sw_region [(0, 0), (1, 0), (2, 0), (3, 0), (4, 0)] rfl rfl rfl ?_
            refine sd_vv rfl rfl rfl (vv_move rfl) ?_
            refine sd_vv rfl rfl rfl (vv_fieldAddr fa_28_2 rfl) ?_
            have B31 := (Bx.kz B18 Kw6)
            refine sd_vv rfl rfl rfl (vv_load1 (v := vp0_2) one_24 rfl B31 rfl) ?_
            have B32 := (Rd.kz B27 Kw6)
            refine sd_vv rfl rfl rfl (vv_lenT (l := p0.Points) (c := TPoint.cs) Try.underlying24 rfl B32) ?_
            refine sd_vv rfl rfl rfl (vv_lss (a := a7) (b := (p0.Points.length : Int)) rfl rfl) ?_
            refine sd_done ?_
            refine sw_cond rfl (fun c4 => ?_) (fun c4 => ?_)
            ·
              replace hm := ite_t (of_decide_eq_true c4) hm
              refine sw_skip ?_
              refine then_n ?_
              refine sw_seq ?_
              refine sw_block ?_
              refine sw_seq ?_
              -- region 11 ref.go:519 DRAWS
              refine sw_drawN [([])] [] (.leaf [(0, 10), (1, 10), (2, 10), (3, 10), (4, 10), (5, 10), (6, 10), (7, 10), (8, 10), (9, 10), (10, 10)]) (by kernel_rfl) (by kernel_rfl) rfl (by kernel_rfl) ?_
              intro w7 Gw7 zw7
              refine sdz_leaf ?_
              refine dd_hn 0 rfl rfl rfl rfl (Kp.refl ([]) w7) (fun w hS => vv_fieldAddr fa_28_2 rfl) ?_
              have B33 := (Bx.gr B31 Gw7)
              refine dd_hn 0 rfl rfl rfl rfl (Kp.refl ([]) w7) (fun w hS => vv_load1 (v := vp0_2) one_24 rfl (Bx.kp B33 hS) rfl) ?_
              refine dd_hn 0 rfl rfl rfl rfl (Kp.refl ([]) w7) (fun w hS => vv_move rfl) ?_
              have hb := bnd hm; clear hm; obtain ⟨y8, hy8, hm⟩ := hb
              have B34 := (Rd.gr B32 Gw7)
              refine dd_hn 0 rfl rfl rfl rfl (Kp.refl ([]) w7) (fun w hS => vv_ixT (i := a7) Try.underlying24 (agg_35).siz rfl (Rd.kp B34 hS) rfl hy8) ?_
              refine dd_hn 0 rfl rfl rfl rfl (Kp.refl ([]) w7) (fun w hS => vv_elWT agg_35 rfl (Rd.kp B34 hS) hy8 (by first | rfl | omega)) ?_
              refine dd_hn 0 rfl rfl rfl rfl (Kp.refl ([]) w7) (fun w hS => vv_fieldAddr fa_28_2 rfl) ?_
              have B35 := (Bx.gr (Bx.kz (Bx.kz (Bx.kz Bw2 Kw3) Kw4) Kw6) Gw7)
              refine dd_hn 0 rfl rfl rfl rfl (Kp.refl ([]) w7) (fun w hS => vv_load1 (v := vp1_2) one_24 rfl (Bx.kp B35 hS) rfl) ?_
              refine dd_hn 0 rfl rfl rfl rfl (Kp.refl ([]) w7) (fun w hS => vv_move rfl) ?_
              have hb := bnd hm; clear hm; obtain ⟨y9, hy9, hm⟩ := hb
              have B36 := (Rd.gr (Rd.kz B29 Kw6) Gw7)
              refine dd_hn 0 rfl rfl rfl rfl (Kp.refl ([]) w7) (fun w hS => vv_ixT (i := a7) Try.underlying24 (agg_35).siz rfl (Rd.kp B36 hS) rfl hy9) ?_
              refine dd_hn 0 rfl rfl rfl rfl (Kp.refl ([]) w7) (fun w hS => vv_elWT agg_35 rfl (Rd.kp B36 hS) hy9 (by first | rfl | omega)) ?_
              refine dd_hn 0 rfl rfl rfl rfl (Kp.refl ([]) w7) (fun w hS => vv_neqS (cf := TPoint.cs) (a := y8) (b := y9) eqt_35 rfl rfl rfl rfl (fun h => TPoint.cs_inj h)) ?_
              refine sd_done ?_
              refine sw_cond rfl (fun c5 => ?_) (fun c5 => ?_)
              ·
                replace hm := ite_t (of_decide_eq_true c5) hm
                refine sw_seq ?_
                -- region 12 ref.go:520
                refine sw_region [(0, 0)] rfl rfl rfl ?_
                refine sd_vv rfl rfl rfl (vv_assign rfl) ?_
                refine sd_done ?_
                refine sw_ret ?_
                refine block_r ?_
                refine then_r ?_
                refine then_r ?_
                refine block_r ?_
                refine then_r ?_
                have X37 : Gr w w7 := (Gr.trans (Gr.kz X26 Kw6) Gw7)
                have hr := Option.some.inj hm
                subst hr
                refine ⟨_, _, rfl, res_1 rfl (rv_tmp rfl), ?_⟩
                exact ⟨rfl, X37⟩
              ·
                replace hm := ite_f (of_decide_eq_false c5) hm
                refine sw_skip ?_
                refine block_n ?_
                refine then_n ?_
                -- region 10 ref.go:518
                refine sw_region [(0, 0), (1, 0), (2, 0)] rfl rfl rfl ?_
                refine sd_vv rfl rfl rfl (vv_move rfl) ?_
                refine sd_vv rfl rfl rfl (vv_add (k := .i64) (a := a7) (b := 1) rfl rfl) ?_
                refine sd_vv rfl rfl rfl (vv_assign rfl) ?_
                refine sd_nil ?_
                have K_38 : Kz [] w4 w7 := (Kz.gr Kw6 Gw7)
                subst hrec3
                refine ⟨rfl, ⟨n3, w64 (a7 + 1)⟩, ?_, ⟨hm, K_38⟩, Nat.lt_succ_self _⟩
                repeat' first | exact trivial | refine ⟨rfl, ?_⟩
            ·
              replace hm := ite_f (of_decide_eq_false c4) hm
              refine sw_exit ?_
              refine then_x ?_
              refine then_x ?_
              refine block_x ?_
              refine then_n ?_
              refine sw_seq ?_
              -- region 13 ref.go:523
              refine sw_region [(0, 0)] rfl rfl rfl ?_
              refine sd_vv rfl rfl rfl (vv_assign rfl) ?_
              refine sd_done ?_
              refine sw_ret ?_
              have X39 : Gr w w6 := (Gr.kz X26 Kw6)
              have hr := Option.some.inj hm
              subst hr
              refine ⟨_, _, rfl, res_1 rfl (rv_tmp rfl), ?_⟩
              exact ⟨rfl, X39⟩
  ·
    -- region 1 ref.go:510
    refine sw_region [(0, 0), (1, 0), (2, 0), (3, 0), (4, 0), (5, 0), (6, 0), (7, 0), (8, 0), (9, 0), (10, 0), (11, 0), (12, 0), (13, 0), (14, 0), (15, 0), (16, 0), (17, 0), (18, 0), (19, 0), (20, 0), (21, 0), (22, 0), (23, 0), (24, 0), (25, 0), (26, 0), (27, 0), (28, 0), (29, 0), (30, 0), (31, 0), (32, 0), (33, 0), (34, 0), (35, 0), (36, 0)] rfl rfl rfl ?_
    refine sd_vv rfl rfl rfl (vv_fieldAddr fa_28_0 rfl) ?_
    have B40 := (Bx.gr Bw1 Gw2)
    refine sd_vv rfl rfl rfl (vv_load1 (v := vp0_0) one_22 rfl B40 rfl) ?_
    have B41 := (Rd.gr (Rd.gr hp0_0 Gw1) Gw2)
    refine sd_vv rfl rfl rfl (vv_lenT (l := p0.Items) (c := TItem.cs) Try.underlying22 rfl B41) ?_
    refine sd_vv rfl rfl rfl (vv_fieldAddr fa_28_0 rfl) ?_
    refine sd_vv rfl rfl rfl (vv_load1 (v := vp1_0) one_22 rfl Bw2 rfl) ?_
    have B42 := (Rd.gr (Rd.gr hp1_0 Gw1) Gw2)
    refine sd_vv rfl rfl rfl (vv_lenT (l := p1.Items) (c := TItem.cs) Try.underlying22 rfl B42) ?_
    refine sd_vv rfl rfl rfl (vv_neq (a := (p0.Items.length : Int)) (b := (p1.Items.length : Int)) rfl rfl) ?_
    refine sd_split rfl rfl rfl (vv_move rfl) (fun c6 => ?_) (fun c6 => ?_)
    ·
      replace hm := ite_t (of_decide_eq_true c6) hm
      refine sd_skip rfl rfl rfl ?_
      refine sd_skip rfl rfl rfl ?_
      refine sd_skip rfl rfl rfl ?_
      refine sd_skip rfl rfl rfl ?_
      refine sd_skip rfl rfl rfl ?_
      refine sd_skip rfl rfl rfl ?_
      refine sd_skip rfl rfl rfl ?_
      refine sd_vv rfl rfl rfl (vv_pickT rfl rfl) ?_
      refine sd_vv rfl rfl rfl (vv_move rfl) ?_
      refine sd_skip rfl rfl rfl ?_
      refine sd_skip rfl rfl rfl ?_
      refine sd_skip rfl rfl rfl ?_
      refine sd_skip rfl rfl rfl ?_
      refine sd_skip rfl rfl rfl ?_
      refine sd_vv rfl rfl rfl (vv_pickT rfl rfl) ?_
      refine sd_vv rfl rfl rfl (vv_move rfl) ?_
      refine sd_skip rfl rfl rfl ?_
      refine sd_skip rfl rfl rfl ?_
      refine sd_skip rfl rfl rfl ?_
      refine sd_skip rfl rfl rfl ?_
      refine sd_skip rfl rfl rfl ?_
      refine sd_vv rfl rfl rfl (vv_pickT rfl rfl) ?_
      refine sd_vv rfl rfl rfl (vv_move rfl) ?_
      refine sd_skip rfl rfl rfl ?_
      refine sd_skip rfl rfl rfl ?_
      refine sd_skip rfl rfl rfl ?_
      refine sd_skip rfl rfl rfl ?_
      refine sd_skip rfl rfl rfl ?_
      refine sd_vv rfl rfl rfl (vv_pickT rfl rfl) ?_
      refine sd_nil ?_
      have K_43 : Kz [] w2 w2 := (Kz.refl _ _)
      refine ⟨rfl, true, ?_, hm, K_43⟩
      repeat' first | exact trivial | refine ⟨rfl, ?_⟩
    ·
      replace hm := ite_f (of_decide_eq_false c6) hm
      refine sd_vv rfl rfl rfl (vv_fieldAddr fa_28_2 rfl) ?_
      refine sd_vv rfl rfl rfl (vv_load1 (v := vp0_2) one_24 rfl B40 rfl) ?_
      have B44 := (Rd.gr (Rd.gr hp0_2 Gw1) Gw2)
      refine sd_vv rfl rfl rfl (vv_lenT (l := p0.Points) (c := TPoint.cs) Try.underlying24 rfl B44) ?_
      refine sd_vv rfl rfl rfl (vv_fieldAddr fa_28_2 rfl) ?_
      refine sd_vv rfl rfl rfl (vv_load1 (v := vp1_2) one_24 rfl Bw2 rfl) ?_
      have B45 := (Rd.gr (Rd.gr hp1_2 Gw1) Gw2)
      refine sd_vv rfl rfl rfl (vv_lenT (l := p1.Points) (c := TPoint.cs) Try.underlying24 rfl B45) ?_
      refine sd_vv rfl rfl rfl (vv_neq (a := (p0.Points.length : Int)) (b := (p1.Points.length : Int)) rfl rfl) ?_
      refine sd_vv rfl rfl rfl (vv_pickF rfl rfl) ?_
      refine sd_split rfl rfl rfl (vv_move rfl) (fun c7 => ?_) (fun c7 => ?_)
      ·
        replace hm := ite_t (of_decide_eq_true c7) hm
        refine sd_skip rfl rfl rfl ?_
        refine sd_skip rfl rfl rfl ?_
        refine sd_skip rfl rfl rfl ?_
        refine sd_skip rfl rfl rfl ?_
        refine sd_skip rfl rfl rfl ?_
        refine sd_vv rfl rfl rfl (vv_pickT rfl rfl) ?_
        refine sd_vv rfl rfl rfl (vv_move rfl) ?_
        refine sd_skip rfl rfl rfl ?_
        refine sd_skip rfl rfl rfl ?_
        refine sd_skip rfl rfl rfl ?_
        refine sd_skip rfl rfl rfl ?_
        refine sd_skip rfl rfl rfl ?_
        refine sd_vv rfl rfl rfl (vv_pickT rfl rfl) ?_
        refine sd_vv rfl rfl rfl (vv_move rfl) ?_
        refine sd_skip rfl rfl rfl ?_
        refine sd_skip rfl rfl rfl ?_
        refine sd_skip rfl rfl rfl ?_
        refine sd_skip rfl rfl rfl ?_
        refine sd_skip rfl rfl rfl ?_
        refine sd_vv rfl rfl rfl (vv_pickT rfl rfl) ?_
        refine sd_nil ?_
        have K_46 : Kz [] w2 w2 := (Kz.refl _ _)
        refine ⟨rfl, true, ?_, hm, K_46⟩
        repeat' first | exact trivial | refine ⟨rfl, ?_⟩
      ·
        replace hm := ite_f (of_decide_eq_false c7) hm
        refine sd_vv rfl rfl rfl (vv_fieldAddr fa_28_1 rfl) ?_
        refine sd_vv rfl rfl rfl (vv_load1 (v := wv p0.Base) one_23 rfl B40 rfl) ?_
        refine sd_vv rfl rfl rfl (vv_fieldAddr fa_28_1 rfl) ?_
        refine sd_vv rfl rfl rfl (vv_load1 (v := wv p1.Base) one_23 rfl Bw2 rfl) ?_
        refine sd_vv rfl rfl rfl (vv_neqU (c := p0.Base) (d := p1.Base) rfl rfl) ?_
        refine sd_vv rfl rfl rfl (vv_pickF rfl rfl) ?_
        refine sd_split rfl rfl rfl (vv_move rfl) (fun c8 => ?_) (fun c8 => ?_)
        ·
          replace hm := ite_t (of_decide_eq_true c8) hm
          refine sd_skip rfl rfl rfl ?_
          refine sd_skip rfl rfl rfl ?_
          refine sd_skip rfl rfl rfl ?_
          refine sd_skip rfl rfl rfl ?_
          refine sd_skip rfl rfl rfl ?_
          refine sd_vv rfl rfl rfl (vv_pickT rfl rfl) ?_
          refine sd_vv rfl rfl rfl (vv_move rfl) ?_
          refine sd_skip rfl rfl rfl ?_
          refine sd_skip rfl rfl rfl ?_
          refine sd_skip rfl rfl rfl ?_
          refine sd_skip rfl rfl rfl ?_
          refine sd_skip rfl rfl rfl ?_
          refine sd_vv rfl rfl rfl (vv_pickT rfl rfl) ?_
          refine sd_nil ?_
          have K_47 : Kz [] w2 w2 := (Kz.refl _ _)
          refine ⟨rfl, true, ?_, hm, K_47⟩
          repeat' first | exact trivial | refine ⟨rfl, ?_⟩
        ·
          replace hm := ite_f (of_decide_eq_false c8) hm
          refine sd_vv rfl rfl rfl (vv_fieldAddr fa_28_3 rfl) ?_
          refine sd_vv rfl rfl rfl (vv_loadM (vs := kb p0.Box) agg_26 rfl B40 rfl rfl) ?_
          refine sd_vv rfl rfl rfl (vv_fieldAddr fa_28_3 rfl) ?_
          refine sd_vv rfl rfl rfl (vv_loadM (vs := kb p1.Box) agg_26 rfl Bw2 rfl rfl) ?_
          refine sd_vv rfl rfl rfl (vv_neqS (cf := kb) (a := p0.Box) (b := p1.Box) eqt_26 rfl rfl rfl rfl (fun h => kb_inj h)) ?_
          refine sd_vv rfl rfl rfl (vv_pickF rfl rfl) ?_
          refine sd_split rfl rfl rfl (vv_move rfl) (fun c9 => ?_) (fun c9 => ?_)
          ·
            replace hm := ite_t (of_decide_eq_true c9) hm
            refine sd_skip rfl rfl rfl ?_
            refine sd_skip rfl rfl rfl ?_
            refine sd_skip rfl rfl rfl ?_
            refine sd_skip rfl rfl rfl ?_
            refine sd_skip rfl rfl rfl ?_
            refine sd_vv rfl rfl rfl (vv_pickT rfl rfl) ?_
            refine sd_nil ?_
            have K_48 : Kz [] w2 w2 := (Kz.refl _ _)
            refine ⟨rfl, true, ?_, hm, K_48⟩
            repeat' first | exact trivial | refine ⟨rfl, ?_⟩
          ·
            replace hm := ite_f (of_decide_eq_false c9) hm
            refine sd_vv rfl rfl rfl (vv_fieldAddr fa_28_4 rfl) ?_
            refine sd_vv rfl rfl rfl (vv_loadM (vs := kb p0.Check) agg_26 rfl B40 rfl rfl) ?_
            refine sd_vv rfl rfl rfl (vv_fieldAddr fa_28_4 rfl) ?_
            refine sd_vv rfl rfl rfl (vv_loadM (vs := kb p1.Check) agg_26 rfl Bw2 rfl rfl) ?_
            refine sd_vv rfl rfl rfl (vv_neqS (cf := kb) (a := p0.Check) (b := p1.Check) eqt_26 rfl rfl rfl rfl (fun h => kb_inj h)) ?_
            refine sd_vv rfl rfl rfl (vv_pickF rfl rfl) ?_
            refine sd_nil ?_
            have K_49 : Kz [] w2 w2 := (Kz.refl _ _)
            refine ⟨rfl, (decide (p0.Check ≠ p1.Check)), ?_, hm, K_49⟩
            repeat' first | exact trivial | refine ⟨rfl, ?_⟩

set_option maxHeartbeats 2000000 in
theorem ref05_SamePacket_w (p0 : TPacket) (p1 : TPacket) (vp0_2 : Value) (zp0_2 gp0_2 op0_2 : Nat) (vp0_4 : Value) (zp0_4 gp0_4 op0_4 : Nat) (vp0_39 : Value) (zp0_39 gp0_39 op0_39 : Nat) (vp1_2 : Value) (zp1_2 gp1_2 op1_2 : Nat) (vp1_4 : Value) (zp1_4 gp1_4 op1_4 : Nat) (vp1_39 : Value) (zp1_39 gp1_39 op1_39 : Nat) (r : Bool) (hm : ref05_SamePacket p0 p1 = some r) (w : World) (hp0_2 : Rd w zp0_2 gp0_2 op0_2 18 vp0_2 (p0.Head.Items.map TItem.cs)) (hp0_4 : Rd w zp0_4 gp0_4 op0_4 2 vp0_4 (p0.Head.Points.map TPoint.cs)) (hp0_39 : Rd w zp0_39 gp0_39 op0_39 1 vp0_39 (p0.Data.map bvc)) (hp1_2 : Rd w zp1_2 gp1_2 op1_2 18 vp1_2 (p1.Head.Items.map TItem.cs)) (hp1_4 : Rd w zp1_4 gp1_4 op1_4 2 vp1_4 (p1.Head.Points.map TPoint.cs)) (hp1_39 : Rd w zp1_39 gp1_39 op1_39 1 vp1_39 (p1.Data.map bvc))  :
    Calls Try.prog 11 [.agg (TPacket.cs p0 vp0_2 vp0_4 vp0_39).toArray, .agg (TPacket.cs p1 vp1_2 vp1_4 vp1_39).toArray].toArray w fun e w' => ∃ v, e = .returned v ∧ (v = .bool r ∧ Gr w w') := by
  have lt1 := hp0_2.lth
  have lt2 := hp0_4.lth
  have lt3 := hp0_39.lth
  have lt4 := hp1_2.lth
  have lt5 := hp1_4.lth
  have lt6 := hp1_39.lth
  unfold ref05_SamePacket at hm
  refine calls_of_sw (R := fun v w' => v = .bool r ∧ Gr w w') 54 Try.func11 rfl rfl rfl ?_
  refine sw_seq ?_
  -- region 0 ref.go:527
  refine sw_region [(0, 0), (1, 0), (2, 0)] rfl rfl rfl ?_
  refine sd_ev rfl rfl rfl (ev_box (cs := TPacket.cs p0 vp0_2 vp0_4 vp0_39) rfl rfl) ?_
  rintro _ w1 ⟨b1, rfl, hbw1, Bw1, Gw1⟩
  have z7 := Gw1.size
  have lt8 := Bw1.lt
  refine sd_ev rfl rfl rfl (ev_box (cs := TPacket.cs p1 vp1_2 vp1_4 vp1_39) rfl rfl) ?_
  rintro _ w2 ⟨b2, rfl, hbw2, Bw2, Gw2⟩
  have z9 := Gw2.size
  have lt10 := Bw2.lt
  refine sd_vv rfl rfl rfl (vv_assign rfl) ?_
  refine sd_done ?_
  refine sw_seq ?_
  -- region 1 ref.go:528
  refine sw_region [(0, 0), (1, 0), (2, 0), (3, 0), (4, 0), (5, 0), (6, 0), (7, 0), (8, 0), (9, 0), (10, 0), (11, 0), (12, 0), (13, 0), (14, 0), (15, 0), (16, 0), (17, 0), (18, 0), (19, 0), (20, 0), (21, 0), (22, 0), (23, 0), (24, 0), (25, 0), (26, 0), (27, 0), (28, 0), (29, 0), (30, 0), (31, 0), (32, 0), (33, 0), (34, 0), (35, 0), (36, 0), (37, 0), (38, 0), (39, 0), (40, 0), (41, 0), (42, 0), (43, 0), (44, 0), (45, 0), (46, 0), (47, 0), (48, 0), (49, 0)] rfl rfl rfl ?_
  refine sd_vv rfl rfl rfl (vv_fieldAddr fa_31_0 rfl) ?_
  have B11 := (Bx.gr Bw1 Gw2)
  refine sd_vv rfl rfl rfl (vv_load1 (v := bv p0.Kind) one_5 rfl B11 rfl) ?_
  refine sd_vv rfl rfl rfl (vv_fieldAddr fa_31_0 rfl) ?_
  refine sd_vv rfl rfl rfl (vv_load1 (v := bv p1.Kind) one_5 rfl Bw2 rfl) ?_
  refine sd_vv rfl rfl rfl (vv_eqlB (p := p0.Kind) (q := p1.Kind) rfl rfl) ?_
  refine sd_split rfl rfl rfl (vv_move rfl) (fun c1 => ?_) (fun c1 => ?_)
  ·
    replace hm := ite_t (of_decide_eq_true c1) hm
    refine sd_vv rfl rfl rfl (vv_fieldAddr fa_31_1 rfl) ?_
    refine sd_vv rfl rfl rfl (vv_load1 (v := .int .i64 p0.Epoch) one_3 rfl B11 rfl) ?_
    refine sd_vv rfl rfl rfl (vv_fieldAddr fa_31_1 rfl) ?_
    refine sd_vv rfl rfl rfl (vv_load1 (v := .int .i64 p1.Epoch) one_3 rfl Bw2 rfl) ?_
    refine sd_vv rfl rfl rfl (vv_eql (a := p0.Epoch) (b := p1.Epoch) rfl rfl) ?_
    refine sd_vv rfl rfl rfl (vv_pickT rfl rfl) ?_
    refine sd_split rfl rfl rfl (vv_move rfl) (fun c2 => ?_) (fun c2 => ?_)
    ·
      replace hm := ite_t (of_decide_eq_true c2) hm
      refine sd_vv rfl rfl rfl (vv_fieldAddr fa_31_2 rfl) ?_
      refine sd_vv rfl rfl rfl (vv_loadM (vs := THeader.cs p0.Head vp0_2 vp0_4) agg_28 rfl B11 rfl rfl) ?_
      refine sd_vv rfl rfl rfl (vv_fieldAddr fa_31_2 rfl) ?_
      refine sd_vv rfl rfl rfl (vv_loadM (vs := THeader.cs p1.Head vp1_2 vp1_4) agg_28 rfl Bw2 rfl rfl) ?_
      have B12 := (Rd.gr (Rd.gr hp0_2 Gw1) Gw2)
      have B13 := (Rd.gr (Rd.gr hp0_4 Gw1) Gw2)
      have B14 := (Rd.gr (Rd.gr hp1_2 Gw1) Gw2)
      have B15 := (Rd.gr (Rd.gr hp1_4 Gw1) Gw2)
      have hb := bnd hm; clear hm; obtain ⟨x1, hx1, hm⟩ := hb
      refine sd_ev rfl rfl rfl (ev_call en_28 rfl (ref05_SameHeader_w p0.Head p1.Head _ _ _ _ _ _ _ _ _ _ _ _ _ _ _ _ _ hx1 _ B12 B13 B14 B15)) ?_
      rintro _ w3 ⟨rfl, Gw3⟩
      have z16 := Gw3.size
      refine sd_vv rfl rfl rfl (vv_pickT rfl rfl) ?_
      refine sd_split rfl rfl rfl (vv_move rfl) (fun c3 => ?_) (fun c3 => ?_)
      ·
        replace hm := cnd_t c3 hm
        refine sd_vv rfl rfl rfl (vv_fieldAddr fa_31_3 rfl) ?_
        have B17 := (Bx.gr B11 Gw3)
        refine sd_vv rfl rfl rfl (vv_load1 (v := bv p0.Low) one_5 rfl B17 rfl) ?_
        refine sd_vv rfl rfl rfl (vv_fieldAddr fa_31_3 rfl) ?_
        have B18 := (Bx.gr Bw2 Gw3)
        refine sd_vv rfl rfl rfl (vv_load1 (v := bv p1.Low) one_5 rfl B18 rfl) ?_
        refine sd_vv rfl rfl rfl (vv_eqlB (p := p0.Low) (q := p1.Low) rfl rfl) ?_
        refine sd_vv rfl rfl rfl (vv_pickT rfl rfl) ?_
        refine sd_split rfl rfl rfl (vv_move rfl) (fun c4 => ?_) (fun c4 => ?_)
        ·
          replace hm := ite_t (of_decide_eq_true c4) hm
          refine sd_vv rfl rfl rfl (vv_fieldAddr fa_31_4 rfl) ?_
          refine sd_vv rfl rfl rfl (vv_load1 (v := wv p0.Number) one_23 rfl B17 rfl) ?_
          refine sd_vv rfl rfl rfl (vv_fieldAddr fa_31_4 rfl) ?_
          refine sd_vv rfl rfl rfl (vv_load1 (v := wv p1.Number) one_23 rfl B18 rfl) ?_
          refine sd_vv rfl rfl rfl (vv_eqlU (c := p0.Number) (d := p1.Number) rfl rfl) ?_
          refine sd_vv rfl rfl rfl (vv_pickT rfl rfl) ?_
          refine sd_split rfl rfl rfl (vv_move rfl) (fun c5 => ?_) (fun c5 => ?_)
          ·
            replace hm := ite_t (of_decide_eq_true c5) hm
            refine sd_vv rfl rfl rfl (vv_fieldAddr fa_31_5 rfl) ?_
            refine sd_vv rfl rfl rfl (vv_load1 (v := vp0_39) one_29 rfl B17 rfl) ?_
            have B19 := (Rd.gr (Rd.gr (Rd.gr hp0_39 Gw1) Gw2) Gw3)
            refine sd_vv rfl rfl rfl (vv_b2s (l := p0.Data) Try.underlying29 Try.underlying5 Try.underlying9 rfl B19) ?_
            refine sd_vv rfl rfl rfl (vv_fieldAddr fa_31_5 rfl) ?_
            refine sd_vv rfl rfl rfl (vv_load1 (v := vp1_39) one_29 rfl B18 rfl) ?_
            have B20 := (Rd.gr (Rd.gr (Rd.gr hp1_39 Gw1) Gw2) Gw3)
            refine sd_vv rfl rfl rfl (vv_b2s (l := p1.Data) Try.underlying29 Try.underlying5 Try.underlying9 rfl B20) ?_
            refine sd_vv rfl rfl rfl (vv_eqlT (l := p0.Data) (m := p1.Data) rfl rfl) ?_
            refine sd_vv rfl rfl rfl (vv_pickT rfl rfl) ?_
            refine sd_split rfl rfl rfl (vv_move rfl) (fun c6 => ?_) (fun c6 => ?_)
            ·
              replace hm := ite_t (of_decide_eq_true c6) hm
              refine sd_vv rfl rfl rfl (vv_fieldAddr fa_31_6 rfl) ?_
              refine sd_vv rfl rfl rfl (vv_loadM (vs := kb p0.Mac) agg_26 rfl B17 rfl rfl) ?_
              refine sd_vv rfl rfl rfl (vv_fieldAddr fa_31_6 rfl) ?_
              refine sd_vv rfl rfl rfl (vv_loadM (vs := kb p1.Mac) agg_26 rfl B18 rfl rfl) ?_
              refine sd_vv rfl rfl rfl (vv_eqlS (cf := kb) (a := p0.Mac) (b := p1.Mac) eqt_26 rfl rfl rfl rfl (fun h => kb_inj h)) ?_
              refine sd_vv rfl rfl rfl (vv_pickT rfl rfl) ?_
              refine sd_vv rfl rfl rfl (vv_assign rfl) ?_
              refine sd_done ?_
              refine sw_ret ?_
              have X21 : Gr w w3 := (Gr.trans (Gr.trans (Gr.trans (Gr.refl w) Gw1) Gw2) Gw3)
              have hr := Option.some.inj hm
              subst hr
              refine ⟨_, _, rfl, res_1 rfl (rv_tmp rfl), ?_⟩
              exact ⟨rfl, X21⟩
            ·
              replace hm := ite_f (of_decide_eq_false c6) hm
              refine sd_skip rfl rfl rfl ?_
              refine sd_skip rfl rfl rfl ?_
              refine sd_skip rfl rfl rfl ?_
              refine sd_skip rfl rfl rfl ?_
              refine sd_skip rfl rfl rfl ?_
              refine sd_vv rfl rfl rfl (vv_pickF rfl rfl) ?_
              refine sd_vv rfl rfl rfl (vv_assign rfl) ?_
              refine sd_done ?_
              refine sw_ret ?_
              have X22 : Gr w w3 := (Gr.trans (Gr.trans (Gr.trans (Gr.refl w) Gw1) Gw2) Gw3)
              have hr := Option.some.inj hm
              subst hr
              refine ⟨_, _, rfl, res_1 rfl (rv_tmp rfl), ?_⟩
              exact ⟨rfl, X22⟩
          ·
            replace hm := ite_f (of_decide_eq_false c5) hm
            refine sd_skip rfl rfl rfl ?_
            refine sd_skip rfl rfl rfl ?_
            refine sd_skip rfl rfl rfl ?_
            refine sd_skip rfl rfl rfl ?_
            refine sd_skip rfl rfl rfl ?_
            refine sd_skip rfl rfl rfl ?_
            refine sd_skip rfl rfl rfl ?_
            refine sd_vv rfl rfl rfl (vv_pickF rfl rfl) ?_
            refine sd_vv rfl rfl rfl (vv_move rfl) ?_
            refine sd_skip rfl rfl rfl ?_
            refine sd_skip rfl rfl rfl ?_
            refine sd_skip rfl rfl rfl ?_
            refine sd_skip rfl rfl rfl ?_
            refine sd_skip rfl rfl rfl ?_
            refine sd_vv rfl rfl rfl (vv_pickF rfl rfl) ?_
            refine sd_vv rfl rfl rfl (vv_assign rfl) ?_
            refine sd_done ?_
            refine sw_ret ?_
            have X23 : Gr w w3 := (Gr.trans (Gr.trans (Gr.trans (Gr.refl w) Gw1) Gw2) Gw3)
            have hr := Option.some.inj hm
            subst hr
            refine ⟨_, _, rfl, res_1 rfl (rv_tmp rfl), ?_⟩
            exact ⟨rfl, X23⟩
        ·
          replace hm := ite_f (of_decide_eq_false c4) hm
          refine sd_skip rfl rfl rfl ?_
          refine sd_skip rfl rfl rfl ?_
          refine sd_skip rfl rfl rfl ?_
          refine sd_skip rfl rfl rfl ?_
          refine sd_skip rfl rfl rfl ?_
          refine sd_vv rfl rfl rfl (vv_pickF rfl rfl) ?_
          refine sd_vv rfl rfl rfl (vv_move rfl) ?_
          refine sd_skip rfl rfl rfl ?_
          refine sd_skip rfl rfl rfl ?_
          refine sd_skip rfl rfl rfl ?_
          refine sd_skip rfl rfl rfl ?_
          refine sd_skip rfl rfl rfl ?_
          refine sd_skip rfl rfl rfl ?_
          refine sd_skip rfl rfl rfl ?_
          refine sd_vv rfl rfl rfl (vv_pickF rfl rfl) ?_
          refine sd_vv rfl rfl rfl (vv_move rfl) ?_
          refine sd_skip rfl rfl rfl ?_
          refine sd_skip rfl rfl rfl ?_
          refine sd_skip rfl rfl rfl ?_
          refine sd_skip rfl rfl rfl ?_
          refine sd_skip rfl rfl rfl ?_
          refine sd_vv rfl rfl rfl (vv_pickF rfl rfl) ?_
          refine sd_vv rfl rfl rfl (vv_assign rfl) ?_
          refine sd_done ?_
          refine sw_ret ?_
          have X24 : Gr w w3 := (Gr.trans (Gr.trans (Gr.trans (Gr.refl w) Gw1) Gw2) Gw3)
          have hr := Option.some.inj hm
          subst hr
          refine ⟨_, _, rfl, res_1 rfl (rv_tmp rfl), ?_⟩
          exact ⟨rfl, X24⟩
      ·
        replace hm := cnd_f c3 hm
        refine sd_skip rfl rfl rfl ?_
        refine sd_skip rfl rfl rfl ?_
        refine sd_skip rfl rfl rfl ?_
        refine sd_skip rfl rfl rfl ?_
        refine sd_skip rfl rfl rfl ?_
        refine sd_vv rfl rfl rfl (vv_pickF rfl rfl) ?_
        refine sd_vv rfl rfl rfl (vv_move rfl) ?_
        refine sd_skip rfl rfl rfl ?_
        refine sd_skip rfl rfl rfl ?_
        refine sd_skip rfl rfl rfl ?_
        refine sd_skip rfl rfl rfl ?_
        refine sd_skip rfl rfl rfl ?_
        refine sd_vv rfl rfl rfl (vv_pickF rfl rfl) ?_
        refine sd_vv rfl rfl rfl (vv_move rfl) ?_
        refine sd_skip rfl rfl rfl ?_
        refine sd_skip rfl rfl rfl ?_
        refine sd_skip rfl rfl rfl ?_
        refine sd_skip rfl rfl rfl ?_
        refine sd_skip rfl rfl rfl ?_
        refine sd_skip rfl rfl rfl ?_
        refine sd_skip rfl rfl rfl ?_
        refine sd_vv rfl rfl rfl (vv_pickF rfl rfl) ?_
        refine sd_vv rfl rfl rfl (vv_move rfl) ?_
        refine sd_skip rfl rfl rfl ?_
        refine sd_skip rfl rfl rfl ?_
        refine sd_skip rfl rfl rfl ?_
        refine sd_skip rfl rfl rfl ?_
        refine sd_skip rfl rfl rfl ?_
        refine sd_vv rfl rfl rfl (vv_pickF rfl rfl) ?_
        refine sd_vv rfl rfl rfl (vv_assign rfl) ?_
        refine sd_done ?_
        refine sw_ret ?_
        have X25 : Gr w w3 := (Gr.trans (Gr.trans (Gr.trans (Gr.refl w) Gw1) Gw2) Gw3)
        have hr := Option.some.inj hm
        subst hr
        refine ⟨_, _, rfl, res_1 rfl (rv_tmp rfl), ?_⟩
        exact ⟨rfl, X25⟩
    ·
      replace hm := ite_f (of_decide_eq_false c2) hm
      refine sd_skip rfl rfl rfl ?_
      refine sd_skip rfl rfl rfl ?_
      refine sd_skip rfl rfl rfl ?_
      refine sd_skip rfl rfl rfl ?_
      refine sd_skip rfl rfl rfl ?_
      refine sd_vv rfl rfl rfl (vv_pickF rfl rfl) ?_
      refine sd_vv rfl rfl rfl (vv_move rfl) ?_
      refine sd_skip rfl rfl rfl ?_
      refine sd_skip rfl rfl rfl ?_
      refine sd_skip rfl rfl rfl ?_
      refine sd_skip rfl rfl rfl ?_
      refine sd_skip rfl rfl rfl ?_
      refine sd_vv rfl rfl rfl (vv_pickF rfl rfl) ?_
      refine sd_vv rfl rfl rfl (vv_move rfl) ?_
      refine sd_skip rfl rfl rfl ?_
      refine sd_skip rfl rfl rfl ?_
      refine sd_skip rfl rfl rfl ?_
      refine sd_skip rfl rfl rfl ?_
      refine sd_skip rfl rfl rfl ?_
      refine sd_vv rfl rfl rfl (vv_pickF rfl rfl) ?_
      refine sd_vv rfl rfl rfl (vv_move rfl) ?_
      refine sd_skip rfl rfl rfl ?_
      refine sd_skip rfl rfl rfl ?_
      refine sd_skip rfl rfl rfl ?_
      refine sd_skip rfl rfl rfl ?_
      refine sd_skip rfl rfl rfl ?_
      refine sd_skip rfl rfl rfl ?_
      refine sd_skip rfl rfl rfl ?_
      refine sd_vv rfl rfl rfl (vv_pickF rfl rfl) ?_
      refine sd_vv rfl rfl rfl (vv_move rfl) ?_
      refine sd_skip rfl rfl rfl ?_
      refine sd_skip rfl rfl rfl ?_
      refine sd_skip rfl rfl rfl ?_
      refine sd_skip rfl rfl rfl ?_
      refine sd_skip rfl rfl rfl ?_
      refine sd_vv rfl rfl rfl (vv_pickF rfl rfl) ?_
      refine sd_vv rfl rfl rfl (vv_assign rfl) ?_
      refine sd_done ?_
      refine sw_ret ?_
      have X26 : Gr w w2 := (Gr.trans (Gr.trans (Gr.refl w) Gw1) Gw2)
      have hr := Option.some.inj hm
      subst hr
      refine ⟨_, _, rfl, res_1 rfl (rv_tmp rfl), ?_⟩
      exact ⟨rfl, X26⟩
  ·
    replace hm := ite_f (of_decide_eq_false c1) hm
    refine sd_skip rfl rfl rfl ?_
    refine sd_skip rfl rfl rfl ?_
    refine sd_skip rfl rfl rfl ?_
    refine sd_skip rfl rfl rfl ?_
    refine sd_skip rfl rfl rfl ?_
    refine sd_vv rfl rfl rfl (vv_pickF rfl rfl) ?_
    refine sd_vv rfl rfl rfl (vv_move rfl) ?_
    refine sd_skip rfl rfl rfl ?_
    refine sd_skip rfl rfl rfl ?_
    refine sd_skip rfl rfl rfl ?_
    refine sd_skip rfl rfl rfl ?_
    refine sd_skip rfl rfl rfl ?_
    refine sd_vv rfl rfl rfl (vv_pickF rfl rfl) ?_
    refine sd_vv rfl rfl rfl (vv_move rfl) ?_
    refine sd_skip rfl rfl rfl ?_
    refine sd_skip rfl rfl rfl ?_
    refine sd_skip rfl rfl rfl ?_
    refine sd_skip rfl rfl rfl ?_
    refine sd_skip rfl rfl rfl ?_
    refine sd_vv rfl rfl rfl (vv_pickF rfl rfl) ?_
    refine sd_vv rfl rfl rfl (vv_move rfl) ?_
    refine sd_skip rfl rfl rfl ?_
    refine sd_skip rfl rfl rfl ?_
    refine sd_skip rfl rfl rfl ?_
    refine sd_skip rfl rfl rfl ?_
    refine sd_skip rfl rfl rfl ?_
    refine sd_vv rfl rfl rfl (vv_pickF rfl rfl) ?_
    refine sd_vv rfl rfl rfl (vv_move rfl) ?_
    refine sd_skip rfl rfl rfl ?_
    refine sd_skip rfl rfl rfl ?_
    refine sd_skip rfl rfl rfl ?_
    refine sd_skip rfl rfl rfl ?_
    refine sd_skip rfl rfl rfl ?_
    refine sd_skip rfl rfl rfl ?_
    refine sd_skip rfl rfl rfl ?_
    refine sd_vv rfl rfl rfl (vv_pickF rfl rfl) ?_
    refine sd_vv rfl rfl rfl (vv_move rfl) ?_
    refine sd_skip rfl rfl rfl ?_
    refine sd_skip rfl rfl rfl ?_
    refine sd_skip rfl rfl rfl ?_
    refine sd_skip rfl rfl rfl ?_
    refine sd_skip rfl rfl rfl ?_
    refine sd_vv rfl rfl rfl (vv_pickF rfl rfl) ?_
    refine sd_vv rfl rfl rfl (vv_assign rfl) ?_
    refine sd_done ?_
    refine sw_ret ?_
    have X27 : Gr w w2 := (Gr.trans (Gr.trans (Gr.refl w) Gw1) Gw2)
    have hr := Option.some.inj hm
    subst hr
    refine ⟨_, _, rfl, res_1 rfl (rv_tmp rfl), ?_⟩
    exact ⟨rfl, X27⟩

set_option maxHeartbeats 2000000 in
theorem ref05_Great_w (p0 : TSecret) (p1 : TPacket) (vp0_1 : Value) (zp0_1 gp0_1 op0_1 : Nat) (vp1_2 : Value) (zp1_2 gp1_2 op1_2 : Nat) (vp1_4 : Value) (zp1_4 gp1_4 op1_4 : Nat) (vp1_39 : Value) (zp1_39 gp1_39 op1_39 : Nat) (r : Bool) (hm : ref05_Great p0 p1 = some r) (w : World) (hp0_1 : Rd w zp0_1 gp0_1 op0_1 18 vp0_1 (p0.Labels.map TLabel.cs)) (hp1_2 : Rd w zp1_2 gp1_2 op1_2 18 vp1_2 (p1.Head.Items.map TItem.cs)) (hp1_4 : Rd w zp1_4 gp1_4 op1_4 2 vp1_4 (p1.Head.Points.map TPoint.cs)) (hp1_39 : Rd w zp1_39 gp1_39 op1_39 1 vp1_39 (p1.Data.map bvc))  :
    Calls Try.prog 4 [.agg (TSecret.cs p0 vp0_1).toArray, .agg (TPacket.cs p1 vp1_2 vp1_4 vp1_39).toArray].toArray w fun e w' => ∃ v, e = .returned v ∧ (v = .bool r ∧ Gr w w') := by
  have lt1 := hp0_1.lth
  have lt2 := hp1_2.lth
  have lt3 := hp1_4.lth
  have lt4 := hp1_39.lth
  unfold ref05_Great at hm
  refine calls_of_sw (R := fun v w' => v = .bool r ∧ Gr w w') 29 Try.func4 rfl rfl rfl ?_
  refine sw_seq ?_
  -- region 0 ref.go:532
  refine sw_region [(0, 0), (1, 0), (2, 0)] rfl rfl rfl ?_
  refine sd_ev rfl rfl rfl (ev_box (cs := TSecret.cs p0 vp0_1) rfl rfl) ?_
  rintro _ w1 ⟨b1, rfl, hbw1, Bw1, Gw1⟩
  have z5 := Gw1.size
  have lt6 := Bw1.lt
  refine sd_ev rfl rfl rfl (ev_box (cs := TPacket.cs p1 vp1_2 vp1_4 vp1_39) rfl rfl) ?_
  rintro _ w2 ⟨b2, rfl, hbw2, Bw2, Gw2⟩
  have z7 := Gw2.size
  have lt8 := Bw2.lt
  refine sd_vv rfl rfl rfl (vv_assign rfl) ?_
  refine sd_done ?_
  refine sw_seq ?_
  -- region 1 ref.go:533
  refine sw_region [(0, 0), (1, 0), (2, 0), (3, 0), (4, 0), (5, 0), (6, 0), (7, 0), (8, 0), (9, 0), (10, 0), (11, 0), (12, 0), (13, 0), (14, 0), (15, 0), (16, 0), (17, 0), (18, 0), (19, 0), (20, 0), (21, 0), (22, 0), (23, 0), (24, 0)] rfl rfl rfl ?_
  refine sd_vv rfl rfl rfl (vv_fieldAddr fa_37_1 rfl) ?_
  have B9 := (Bx.gr Bw1 Gw2)
  refine sd_vv rfl rfl rfl (vv_load1 (v := vp0_1) one_33 rfl B9 rfl) ?_
  have B10 := (Rd.gr (Rd.gr hp0_1 Gw1) Gw2)
  refine sd_vv rfl rfl rfl (vv_lenT (l := p0.Labels) (c := TLabel.cs) Try.underlying33 rfl B10) ?_
  refine sd_vv rfl rfl rfl (vv_gtr (a := (p0.Labels.length : Int)) (b := 100) rfl rfl) ?_
  refine sd_split rfl rfl rfl (vv_move rfl) (fun c1 => ?_) (fun c1 => ?_)
  ·
    replace hm := ite_t (of_decide_eq_true c1) hm
    refine sd_skip rfl rfl rfl ?_
    refine sd_skip rfl rfl rfl ?_
    refine sd_skip rfl rfl rfl ?_
    refine sd_skip rfl rfl rfl ?_
    refine sd_skip rfl rfl rfl ?_
    refine sd_vv rfl rfl rfl (vv_pickT rfl rfl) ?_
    refine sd_vv rfl rfl rfl (vv_move rfl) ?_
    refine sd_skip rfl rfl rfl ?_
    refine sd_skip rfl rfl rfl ?_
    refine sd_skip rfl rfl rfl ?_
    refine sd_skip rfl rfl rfl ?_
    refine sd_skip rfl rfl rfl ?_
    refine sd_vv rfl rfl rfl (vv_pickT rfl rfl) ?_
    refine sd_vv rfl rfl rfl (vv_move rfl) ?_
    refine sd_skip rfl rfl rfl ?_
    refine sd_skip rfl rfl rfl ?_
    refine sd_skip rfl rfl rfl ?_
    refine sd_skip rfl rfl rfl ?_
    refine sd_vv rfl rfl rfl (vv_pickT rfl rfl) ?_
    refine sd_vv rfl rfl rfl (vv_assign rfl) ?_
    refine sd_done ?_
    refine sw_ret ?_
    have X11 : Gr w w2 := (Gr.trans (Gr.trans (Gr.refl w) Gw1) Gw2)
    have hr := Option.some.inj hm
    subst hr
    refine ⟨_, _, rfl, res_1 rfl (rv_tmp rfl), ?_⟩
    exact ⟨rfl, X11⟩
  ·
    replace hm := ite_f (of_decide_eq_false c1) hm
    refine sd_vv rfl rfl rfl (vv_fieldAddr fa_31_2 rfl) ?_
    refine sd_vv rfl rfl rfl (vv_fieldAddr fa_28_0 rfl) ?_
    refine sd_vv rfl rfl rfl (vv_load1 (v := vp1_2) one_22 rfl Bw2 rfl) ?_
    have B12 := (Rd.gr (Rd.gr hp1_2 Gw1) Gw2)
    refine sd_vv rfl rfl rfl (vv_lenT (l := p1.Head.Items) (c := TItem.cs) Try.underlying22 rfl B12) ?_
    refine sd_vv rfl rfl rfl (vv_gtr (a := (p1.Head.Items.length : Int)) (b := 100) rfl rfl) ?_
    refine sd_vv rfl rfl rfl (vv_pickF rfl rfl) ?_
    refine sd_split rfl rfl rfl (vv_move rfl) (fun c2 => ?_) (fun c2 => ?_)
    ·
      replace hm := ite_t (of_decide_eq_true c2) hm
      refine sd_skip rfl rfl rfl ?_
      refine sd_skip rfl rfl rfl ?_
      refine sd_skip rfl rfl rfl ?_
      refine sd_skip rfl rfl rfl ?_
      refine sd_skip rfl rfl rfl ?_
      refine sd_vv rfl rfl rfl (vv_pickT rfl rfl) ?_
      refine sd_vv rfl rfl rfl (vv_move rfl) ?_
      refine sd_skip rfl rfl rfl ?_
      refine sd_skip rfl rfl rfl ?_
      refine sd_skip rfl rfl rfl ?_
      refine sd_skip rfl rfl rfl ?_
      refine sd_vv rfl rfl rfl (vv_pickT rfl rfl) ?_
      refine sd_vv rfl rfl rfl (vv_assign rfl) ?_
      refine sd_done ?_
      refine sw_ret ?_
      have X13 : Gr w w2 := (Gr.trans (Gr.trans (Gr.refl w) Gw1) Gw2)
      have hr := Option.some.inj hm
      subst hr
      refine ⟨_, _, rfl, res_1 rfl (rv_tmp rfl), ?_⟩
      exact ⟨rfl, X13⟩
    ·
      replace hm := ite_f (of_decide_eq_false c2) hm
      refine sd_vv rfl rfl rfl (vv_fieldAddr fa_31_2 rfl) ?_
      refine sd_vv rfl rfl rfl (vv_fieldAddr fa_28_2 rfl) ?_
      refine sd_vv rfl rfl rfl (vv_load1 (v := vp1_4) one_24 rfl Bw2 rfl) ?_
      have B14 := (Rd.gr (Rd.gr hp1_4 Gw1) Gw2)
      refine sd_vv rfl rfl rfl (vv_lenT (l := p1.Head.Points) (c := TPoint.cs) Try.underlying24 rfl B14) ?_
      refine sd_vv rfl rfl rfl (vv_gtr (a := (p1.Head.Points.length : Int)) (b := 50) rfl rfl) ?_
      refine sd_vv rfl rfl rfl (vv_pickF rfl rfl) ?_
      refine sd_split rfl rfl rfl (vv_move rfl) (fun c3 => ?_) (fun c3 => ?_)
      ·
        replace hm := ite_t (of_decide_eq_true c3) hm
        refine sd_skip rfl rfl rfl ?_
        refine sd_skip rfl rfl rfl ?_
        refine sd_skip rfl rfl rfl ?_
        refine sd_skip rfl rfl rfl ?_
        refine sd_vv rfl rfl rfl (vv_pickT rfl rfl) ?_
        refine sd_vv rfl rfl rfl (vv_assign rfl) ?_
        refine sd_done ?_
        refine sw_ret ?_
        have X15 : Gr w w2 := (Gr.trans (Gr.trans (Gr.refl w) Gw1) Gw2)
        have hr := Option.some.inj hm
        subst hr
        refine ⟨_, _, rfl, res_1 rfl (rv_tmp rfl), ?_⟩
        exact ⟨rfl, X15⟩
      ·
        replace hm := ite_f (of_decide_eq_false c3) hm
        refine sd_vv rfl rfl rfl (vv_fieldAddr fa_31_5 rfl) ?_
        refine sd_vv rfl rfl rfl (vv_load1 (v := vp1_39) one_29 rfl Bw2 rfl) ?_
        have B16 := (Rd.gr (Rd.gr hp1_39 Gw1) Gw2)
        refine sd_vv rfl rfl rfl (vv_lenT (l := p1.Data) (c := bvc) Try.underlying29 rfl B16) ?_
        refine sd_vv rfl rfl rfl (vv_gtr (a := (p1.Data.length : Int)) (b := 1000) rfl rfl) ?_
        refine sd_vv rfl rfl rfl (vv_pickF rfl rfl) ?_
        refine sd_vv rfl rfl rfl (vv_assign rfl) ?_
        refine sd_done ?_
        refine sw_ret ?_
        have X17 : Gr w w2 := (Gr.trans (Gr.trans (Gr.refl w) Gw1) Gw2)
        have hr := Option.some.inj hm
        subst hr
        refine ⟨_, _, rfl, res_1 rfl (rv_tmp rfl), ?_⟩
        exact ⟨rfl, X17⟩
end Go.Proofs.Ytjdffpglgkefmaa.Mx
