/- Walks that follow mirrors: Pk. Printed by mx.py. -/
import Derived.Test.YtkdghilkigojgaaMirJ
import Derived.Test.YtkdghilkigojgaaPa
import Derived.Test.YtkdghilkigojgaaPkM
set_option linter.unusedVariables false
set_option linter.unusedSimpArgs false
set_option maxRecDepth 100000
namespace Go.Proofs.Ytkdghilkigojgaa.Mx
open Go Go.RowKit Go.Sx
theorem en_111 : En Try.prog 111 := fun _ _ => by kernel_rfl
theorem en_61 : En Try.prog 61 := fun _ _ => by kernel_rfl
theorem bz_23 : BZ Try.prog 23 (kv k0) := fun _ => by kernel_rfl
theorem fa_45_0 : FA Try.prog 45 0 0 := fun _ _ _ => by kernel_rfl
theorem one_42 : One Try.prog 42 := fun _ => ⟨by kernel_rfl, by kernel_rfl⟩
theorem fa_45_2 : FA Try.prog 45 2 2 := fun _ _ _ => by kernel_rfl
theorem one_43 : One Try.prog 43 := fun _ => ⟨by kernel_rfl, by kernel_rfl⟩
theorem fa_45_1 : FA Try.prog 45 1 1 := fun _ _ _ => by kernel_rfl
theorem fa_45_3 : FA Try.prog 45 3 3 := fun _ _ _ => by kernel_rfl
theorem eqt_23 : EqT Try.prog 23 [.u8, .u8, .u8, .u8, .u8, .u8, .u8, .u8, .u8, .u8, .u8, .u8, .u8, .u8, .u8, .u8] := ⟨by kernel_rfl, agg_23, 2, by decide, eqc_23⟩
theorem fa_45_4 : FA Try.prog 45 4 19 := fun _ _ _ => by kernel_rfl
theorem agg_131 : Agg Try.prog 131 18 := fun _ => ⟨by kernel_rfl, by kernel_rfl⟩
theorem agg_129 : Agg Try.prog 129 2 := fun _ => ⟨by kernel_rfl, by kernel_rfl⟩
theorem eqc_129 : EqC Try.prog 2 129 [.i64, .i64] := eqc_struct Try.underlying129 (by kernel_rfl) agg_129 (show EqF _ 1 _ _ _ from (eqf_cons (ks1 := [.i64]) (ks2 := [.i64]) rfl (by simp) (eqc_3.up (by decide)) (eqf_cons (ks1 := [.i64]) (ks2 := []) rfl (by simp) (eqc_3.up (by decide)) (eqf_nil _))))
theorem eqc_131 : EqC Try.prog 3 131 [.i64, .i64, .u8, .u8, .u8, .u8, .u8, .u8, .u8, .u8, .u8, .u8, .u8, .u8, .u8, .u8, .u8, .u8] := eqc_struct Try.underlying131 (by kernel_rfl) agg_131 (show EqF _ 2 _ _ _ from (eqf_cons (ks1 := [.i64, .i64]) (ks2 := [.u8, .u8, .u8, .u8, .u8, .u8, .u8, .u8, .u8, .u8, .u8, .u8, .u8, .u8, .u8, .u8]) rfl (by simp) (eqc_129.up (by decide)) (eqf_cons (ks1 := [.u8, .u8, .u8, .u8, .u8, .u8, .u8, .u8, .u8, .u8, .u8, .u8, .u8, .u8, .u8, .u8]) (ks2 := []) rfl (by simp) (eqc_23.up (by decide)) (eqf_nil _))))
theorem eqt_131 : EqT Try.prog 131 [.i64, .i64, .u8, .u8, .u8, .u8, .u8, .u8, .u8, .u8, .u8, .u8, .u8, .u8, .u8, .u8, .u8, .u8] := ⟨by kernel_rfl, agg_131, 3, by decide, eqc_131⟩
theorem fa_31_0 : FA Try.prog 31 0 0 := fun _ _ _ => by kernel_rfl
theorem en_122 : En Try.prog 122 := fun _ _ => by kernel_rfl
theorem en_133 : En Try.prog 133 := fun _ _ => by kernel_rfl
theorem en_89 : En Try.prog 89 := fun _ _ => by kernel_rfl
theorem cv_24_2 : CV Try.prog 24 2 .i64 := fun _ _ _ => by kernel_rfl
theorem cv_2_24 : CV Try.prog 2 24 .u64 := fun _ _ _ => by kernel_rfl
theorem en_123 : En Try.prog 123 := fun _ _ => by kernel_rfl

set_option maxHeartbeats 2000000 in
theorem number_modulus_w (p0 : BitVec 64)  (r : Bool) (hm : number_modulus p0 = some r) (w : World)   :
    Calls Try.prog 111 [wv p0].toArray w fun e w' => ∃ v, e = .returned v ∧ (v = .bool r ∧ Gr w w') := by
  unfold number_modulus at hm
  refine calls_of_sw (R := fun v w' => v = .bool r ∧ Gr w w') 9 Try.func111 rfl rfl rfl ?_
  refine sw_seq ?_
  -- region 0 modular.go:6
  refine sw_region [(0, 0)] rfl rfl rfl ?_
  refine sd_vv rfl rfl rfl (vv_assign rfl) ?_
  refine sd_done ?_
  refine sw_seq ?_
  -- region 1 modular.go:6
  refine sw_region [(0, 0), (1, 0), (2, 0), (3, 0), (4, 0), (5, 0), (6, 0)] rfl rfl rfl ?_
  refine sd_vv rfl rfl rfl (vv_move rfl) ?_
  refine sd_vv rfl rfl rfl (vv_geqU (c := p0) (d := 1#64) rfl rfl) ?_
  refine sd_split rfl rfl rfl (vv_move rfl) (fun c1 => ?_) (fun c1 => ?_)
  ·
    replace hm := ite_t (of_decide_eq_true c1) hm
    refine sd_vv rfl rfl rfl (vv_move rfl) ?_
    refine sd_vv rfl rfl rfl (vv_lssU (c := p0) (d := 4294967296#64) rfl rfl) ?_
    refine sd_vv rfl rfl rfl (vv_pickT rfl rfl) ?_
    refine sd_vv rfl rfl rfl (vv_assign rfl) ?_
    refine sd_done ?_
    refine sw_ret ?_
    have hr := Option.some.inj hm
    subst hr
    refine ⟨_, _, rfl, res_1 rfl (rv_tmp rfl), ?_⟩
    exact ⟨rfl, (Gr.refl w)⟩
  ·
    replace hm := ite_f (of_decide_eq_false c1) hm
    refine sd_skip rfl rfl rfl ?_
    refine sd_skip rfl rfl rfl ?_
    refine sd_vv rfl rfl rfl (vv_pickF rfl rfl) ?_
    refine sd_vv rfl rfl rfl (vv_assign rfl) ?_
    refine sd_done ?_
    refine sw_ret ?_
    have hr := Option.some.inj hm
    subst hr
    refine ⟨_, _, rfl, res_1 rfl (rv_tmp rfl), ?_⟩
    exact ⟨rfl, (Gr.refl w)⟩

set_option maxHeartbeats 2000000 in
theorem number_PowMod_w (p0 : BitVec 64) (p1 : BitVec 64) (p2 : BitVec 64)  (r : BitVec 64 × Int) (hm : number_PowMod p0 p1 p2 = some r) (w : World)   :
    Calls Try.prog 61 [wv p0, wv p1, wv p2].toArray w fun e w' => ∃ v, e = .returned v ∧ (v = .tuple [wv r.1, .int .i64 r.2].toArray ∧ Gr w w') := by
  unfold number_PowMod at hm
  refine calls_of_sw (R := fun v w' => v = .tuple [wv r.1, .int .i64 r.2].toArray ∧ Gr w w') 15 Try.func61 rfl rfl rfl ?_
  refine sw_seq ?_
  -- region 0 modular.go:21
  refine sw_region [(0, 0), (1, 0)] rfl rfl rfl ?_
  refine sd_vv rfl rfl rfl (vv_assign rfl) ?_
  refine sd_vv rfl rfl rfl (vv_assign rfl) ?_
  refine sd_done ?_
  refine sw_seq ?_
  refine sw_seq ?_
  -- region 1 modular.go:22
  refine sw_region [(0, 0), (1, 0), (2, 0)] rfl rfl rfl ?_
  refine sd_vv rfl rfl rfl (vv_move rfl) ?_
  have hb := bnd hm; clear hm; obtain ⟨x1, hx1, hm⟩ := hb
  refine sd_ev rfl rfl rfl (ev_call en_111 rfl (number_modulus_w p2 _ hx1 _)) ?_
  rintro _ w1 ⟨rfl, Gw1⟩
  have z1 := Gw1.size
  refine sd_vv rfl rfl rfl (vv_not rfl) ?_
  refine sd_done ?_
  refine sw_cond rfl (fun c1 => ?_) (fun c1 => ?_)
  ·
    replace hm := cnd_t c1 hm
    refine sw_seq ?_
    -- region 2 modular.go:23
    refine sw_region [(0, 0), (1, 0)] rfl rfl rfl ?_
    refine sd_vv rfl rfl rfl (vv_assign rfl) ?_
    refine sd_vv rfl rfl rfl (vv_assign rfl) ?_
    refine sd_done ?_
    refine sw_ret ?_
    refine then_r ?_
    have X2 : Gr w w1 := (Gr.trans (Gr.refl w) Gw1)
    have hr := Option.some.inj hm
    subst hr
    refine ⟨_, _, rfl, res_2 rfl (rv_tmp rfl) (rv_tmp rfl), ?_⟩
    exact ⟨rfl, X2⟩
  ·
    replace hm := cnd_f c1 hm
    refine sw_skip ?_
    refine then_n ?_
    refine sw_seq ?_
    -- region 3 modular.go:25
    refine sw_region [(0, 0), (1, 0), (2, 0), (3, 0), (4, 0), (5, 0)] rfl rfl rfl ?_
    refine sd_vv rfl rfl rfl (vv_move rfl) ?_
    refine sd_vv rfl rfl rfl (vv_move rfl) ?_
    refine sd_vv rfl rfl rfl (vv_move rfl) ?_
    have hb := bnd hm; clear hm; obtain ⟨x2, hx2, hm⟩ := hb
    refine sd_ev rfl rfl rfl (ev_call en_112 rfl (number_power_w p0 p1 p2 _ hx2 _)) ?_
    rintro _ w2 ⟨rfl, Gw2⟩
    have z3 := Gw2.size
    refine sd_vv rfl rfl rfl (vv_assign rfl) ?_
    refine sd_vv rfl rfl rfl (vv_assign rfl) ?_
    refine sd_done ?_
    refine sw_ret ?_
    have X4 : Gr w w2 := (Gr.trans (Gr.trans (Gr.refl w) Gw1) Gw2)
    have hr := Option.some.inj hm
    subst hr
    refine ⟨_, _, rfl, res_2 rfl (rv_tmp rfl) (rv_tmp rfl), ?_⟩
    exact ⟨rfl, X4⟩

set_option maxHeartbeats 2000000 in
theorem poly_power_w (p0 : TScheme) (p1 : BitVec 64) (p2 : BitVec 64)  (r : BitVec 64) (hm : poly_power p0 p1 p2 = some r) (w : World)   :
    Calls Try.prog 69 [.agg (TScheme.cs p0).toArray, wv p1, wv p2].toArray w fun e w' => ∃ v, e = .returned v ∧ (v = wv r ∧ Gr w w') := by
  unfold poly_power at hm
  refine calls_of_sw (R := fun v w' => v = wv r ∧ Gr w w') 19 Try.func69 rfl rfl rfl ?_
  refine sw_seq ?_
  -- region 0 poly.go:139
  refine sw_region [(0, 0), (1, 0)] rfl rfl rfl ?_
  refine sd_ev rfl rfl rfl (ev_box (cs := TScheme.cs p0) rfl rfl) ?_
  rintro _ w1 ⟨b1, rfl, hbw1, Bw1, Gw1⟩
  have z1 := Gw1.size
  have lt2 := Bw1.lt
  refine sd_vv rfl rfl rfl (vv_assign rfl) ?_
  refine sd_done ?_
  refine sw_seq ?_
  -- region 1 poly.go:140
  refine sw_region [(0, 0), (1, 0), (2, 0), (3, 0), (4, 0), (5, 0), (6, 0), (7, 0), (8, 0), (9, 0), (10, 0)] rfl rfl rfl ?_
  refine sd_vv rfl rfl rfl (vv_move rfl) ?_
  refine sd_vv rfl rfl rfl (vv_move rfl) ?_
  refine sd_vv rfl rfl rfl (vv_fieldAddr fa_28_3 rfl) ?_
  refine sd_vv rfl rfl rfl (vv_fieldAddr fa_26_0 rfl) ?_
  refine sd_vv rfl rfl rfl (vv_load1 (v := wv p0.Group.P) one_24 rfl Bw1 rfl) ?_
  have hb := bnd hm; clear hm; obtain ⟨x1, hx1, hm⟩ := hb
  refine sd_ev rfl rfl rfl (ev_call en_61 rfl (number_PowMod_w p1 p2 p0.Group.P _ hx1 _)) ?_
  rintro _ w2 ⟨rfl, Gw2⟩
  have z3 := Gw2.size
  refine sd_vv rfl rfl rfl (vv_move rfl) ?_
  refine sd_vv rfl rfl rfl (vv_extract rfl rfl) ?_
  refine sd_vv rfl rfl rfl (vv_extract rfl rfl) ?_
  refine sd_vv rfl rfl rfl (vv_assign rfl) ?_
  refine sd_vv rfl rfl rfl (vv_assign rfl) ?_
  refine sd_done ?_
  refine sw_seq ?_
  -- region 2 poly.go:141
  refine sw_region [(0, 0), (1, 0)] rfl rfl rfl ?_
  refine sd_vv rfl rfl rfl (vv_move rfl) ?_
  refine sd_vv rfl rfl rfl (vv_assign rfl) ?_
  refine sd_done ?_
  refine sw_ret ?_
  have X4 : Gr w w2 := (Gr.trans (Gr.trans (Gr.refl w) Gw1) Gw2)
  have hr := Option.some.inj hm
  subst hr
  refine ⟨_, _, rfl, res_1 rfl (rv_tmp rfl), ?_⟩
  exact ⟨rfl, X4⟩

set_option maxHeartbeats 2000000 in
theorem poly_maskKey_w (p0 : BitVec 64)  (r : W2) (hm : poly_maskKey p0 = some r) (w : World)   :
    Calls Try.prog 72 [wv p0].toArray w fun e w' => ∃ v, e = .returned v ∧ (v = kv r ∧ Gr w w') := by
  unfold poly_maskKey at hm
  refine calls_of_sw (R := fun v w' => v = kv r ∧ Gr w w') 6 Try.func72 rfl rfl rfl ?_
  refine sw_seq ?_
  -- region 0 poly.go:145
  refine sw_region [(0, 0)] rfl rfl rfl ?_
  refine sd_ev rfl rfl rfl (ev_alloc (cs := kb k0) zv_23 rfl) ?_
  rintro _ w1 ⟨b1, rfl, hbw1, Bw1, Gw1⟩
  have z1 := Gw1.size
  have lt2 := Bw1.lt
  refine sd_done ?_
  refine sw_seq ?_
  -- region 1 poly.go:145
  refine sw_region [(0, 0), (1, 0), (2, 0), (3, 0)] rfl rfl rfl ?_
  refine sd_vv rfl rfl rfl (vv_buildZ bz_23) ?_
  refine sd_vv rfl rfl rfl (vv_move rfl) ?_
  refine sd_ev rfl rfl rfl (ev_call en_52 rfl (derive_c k0 (un8 42#8) (un8_nn _) (un8_le _) p0 _)) ?_
  rintro _ w2 ⟨rfl, Gw2⟩
  have z3 := Gw2.size
  have B4 := (Bx.gr Bw1 Gw2)
  refine sd_ev rfl rfl rfl (ev_stM (cs' := kb (drv k0 (un8 42#8) p0)) (vs := kb (drv k0 (un8 42#8) p0)) (agg_23).siz rfl rfl rfl rfl rfl B4 rfl (by obtain ⟨kk0, hk0⟩ := ex_of (drv k0 (un8 42#8) p0); rw [← hk0]; first | done | rfl)) ?_
  rintro _ w3 ⟨Bw3, Mw3⟩
  have z5 := Mw3.size
  refine sd_done ?_
  refine sw_ret ?_
  have X6 : Gr w w3 := (Gr.md (Gr.trans (Gr.trans (Gr.refl w) Gw1) Gw2) Mw3)
  have hr := Option.some.inj hm
  subst hr
  refine ⟨_, _, rfl, res_1 rfl (rv_cellW agg_23 rfl Bw3 rfl), ?_⟩
  exact ⟨rfl, X6⟩

set_option maxHeartbeats 2000000 in
theorem ref04_MaskKey_w (p0 : BitVec 64)  (r : W2) (hm : ref04_MaskKey p0 = some r) (w : World)   :
    Calls Try.prog 84 [wv p0].toArray w fun e w' => ∃ v, e = .returned v ∧ (v = kv r ∧ Gr w w') := by
  unfold ref04_MaskKey at hm
  refine calls_of_sw (R := fun v w' => v = kv r ∧ Gr w w') 6 Try.func84 rfl rfl rfl ?_
  refine sw_seq ?_
  -- region 0 ref.go:175
  refine sw_region [(0, 0)] rfl rfl rfl ?_
  refine sd_ev rfl rfl rfl (ev_alloc (cs := kb k0) zv_23 rfl) ?_
  rintro _ w1 ⟨b1, rfl, hbw1, Bw1, Gw1⟩
  have z1 := Gw1.size
  have lt2 := Bw1.lt
  refine sd_done ?_
  refine sw_seq ?_
  -- region 1 ref.go:175
  refine sw_region [(0, 0), (1, 0), (2, 0), (3, 0)] rfl rfl rfl ?_
  refine sd_vv rfl rfl rfl (vv_buildZ bz_23) ?_
  refine sd_vv rfl rfl rfl (vv_move rfl) ?_
  refine sd_ev rfl rfl rfl (ev_call en_85 rfl (rderive_c k0 (un8 42#8) (un8_nn _) (un8_le _) p0 _)) ?_
  rintro _ w2 ⟨rfl, Gw2⟩
  have z3 := Gw2.size
  have B4 := (Bx.gr Bw1 Gw2)
  refine sd_ev rfl rfl rfl (ev_stM (cs' := kb (drv k0 (un8 42#8) p0)) (vs := kb (drv k0 (un8 42#8) p0)) (agg_23).siz rfl rfl rfl rfl rfl B4 rfl (by obtain ⟨kk0, hk0⟩ := ex_of (drv k0 (un8 42#8) p0); rw [← hk0]; first | done | rfl)) ?_
  rintro _ w3 ⟨Bw3, Mw3⟩
  have z5 := Mw3.size
  refine sd_done ?_
  refine sw_ret ?_
  have X6 : Gr w w3 := (Gr.md (Gr.trans (Gr.trans (Gr.refl w) Gw1) Gw2) Mw3)
  have hr := Option.some.inj hm
  subst hr
  refine ⟨_, _, rfl, res_1 rfl (rv_cellW agg_23 rfl Bw3 rfl), ?_⟩
  exact ⟨rfl, X6⟩

set_option maxHeartbeats 2000000 in
theorem ref03_SameHeader_w (p0 : THeader) (p1 : THeader) (vp0_0 : Value) (zp0_0 gp0_0 op0_0 : Nat) (vp0_2 : Value) (zp0_2 gp0_2 op0_2 : Nat) (vp1_0 : Value) (zp1_0 gp1_0 op1_0 : Nat) (vp1_2 : Value) (zp1_2 gp1_2 op1_2 : Nat) (r : Bool) (hm : ref03_SameHeader p0 p1 = some r) (w : World) (hp0_0 : Rd w zp0_0 gp0_0 op0_0 18 vp0_0 (p0.Items.map TItem.cs)) (hp0_2 : Rd w zp0_2 gp0_2 op0_2 2 vp0_2 (p0.Points.map TPoint.cs)) (hp1_0 : Rd w zp1_0 gp1_0 op1_0 18 vp1_0 (p1.Items.map TItem.cs)) (hp1_2 : Rd w zp1_2 gp1_2 op1_2 2 vp1_2 (p1.Points.map TPoint.cs))  :
    Calls Try.prog 23 [.agg (THeader.cs p0 vp0_0 vp0_2).toArray, .agg (THeader.cs p1 vp1_0 vp1_2).toArray].toArray w fun e w' => ∃ v, e = .returned v ∧ (v = .bool r ∧ Gr w w') := by
  have lt1 := hp0_0.lth
  have lt2 := hp0_2.lth
  have lt3 := hp1_0.lth
  have lt4 := hp1_2.lth
  unfold ref03_SameHeader at hm
  refine calls_of_sw (R := fun v w' => v = .bool r ∧ Gr w w') 80 Try.func23 rfl rfl rfl ?_
  refine sw_seq ?_
  -- region 0 ref.go:630
  refine sw_region [(0, 0), (1, 0), (2, 0)] rfl rfl rfl ?_
  refine sd_ev rfl rfl rfl (ev_box (cs := THeader.cs p0 vp0_0 vp0_2) rfl rfl) ?_
  rintro _ w1 ⟨b1, rfl, hbw1, Bw1, Gw1⟩
  have z5 := Gw1.size
  have lt6 := Bw1.lt
  refine sd_ev rfl rfl rfl (ev_box (cs := THeader.cs p1 vp1_0 vp1_2) rfl rfl) ?_
  rintro _ w2 ⟨b2, rfl, hbw2, Bw2, Gw2⟩
  have z7 := Gw2.size
  have lt8 := Bw2.lt
  refine sd_vv rfl rfl rfl (vv_assign rfl) ?_
  refine sd_done ?_
  refine sw_seq ?_
  have X9 : Gr w w2 := (Gr.trans (Gr.trans (Gr.refl w) Gw1) Gw2)
  refine sw_joinD (β := Bool) [7, 8, 9, 10, 11, 12, 13, 14, 15, 16, 17, 18, 19, 20, 21, 22, 23, 24, 25, 26, 27, 28, 29, 30, 31, 32, 33, 34, 35, 36, 37, 38, 39, 40, 41, 42, 43] (fun a1 => [(43, .bool a1)]) (fun a1 wr => (ref03_SameHeader_J1 p0 p1 a1 = some r) ∧ Kz [] w2 wr) ?_ ?_
  · clear hm; rintro a1 w3 ⟨hm, Kw3⟩
    have z10 := Kw3.size
    unfold ref03_SameHeader_J1 at hm
    refine sw_cond rfl (fun c1 => ?_) (fun c1 => ?_)
    ·
      replace hm := cnd_t c1 hm
      refine sw_seq ?_
      -- region 2 ref.go:632
      refine sw_region [(0, 0)] rfl rfl rfl ?_
      refine sd_vv rfl rfl rfl (vv_assign rfl) ?_
      refine sd_done ?_
      refine sw_ret ?_
      refine then_r ?_
      have X11 : Gr w w3 := (Gr.kz X9 Kw3)
      have hr := Option.some.inj hm
      subst hr
      refine ⟨_, _, rfl, res_1 rfl (rv_tmp rfl), ?_⟩
      exact ⟨rfl, X11⟩
    ·
      replace hm := cnd_f c1 hm
      refine sw_skip ?_
      refine then_n ?_
      refine sw_seq ?_
      refine sw_seq ?_
      -- region 3 ref.go:634
      refine sw_region [(0, 0)] rfl rfl rfl ?_
      refine sd_vv rfl rfl rfl (vv_assign rfl) ?_
      refine sd_done ?_
      refine sw_block ?_
      have X12 : Gr w w3 := (Gr.kz X9 Kw3)
      have B13 := (Rd.kz (Rd.gr (Rd.gr hp0_0 Gw1) Gw2) Kw3)
      have B14 := (Rd.kz (Rd.gr (Rd.gr hp0_2 Gw1) Gw2) Kw3)
      have B15 := (Rd.kz (Rd.gr (Rd.gr hp1_0 Gw1) Gw2) Kw3)
      have B16 := (Rd.kz (Rd.gr (Rd.gr hp1_2 Gw1) Gw2) Kw3)
      refine sw_loopD (α := Nat × Int) [4, 5, 44, 45, 46, 47, 48, 49, 50, 51, 52, 53, 54, 55, 56, 57, 58, 59, 60, 61] (fun ⟨n2, a3⟩ => [(4, .bool false), (5, .int .i64 a3)]) (fun ⟨n2, a3⟩ wr => (fixN (ref03_SameHeader_L2 p0 p1) n2 a3 = some r) ∧ Kz [] w3 wr) (fun ⟨n2, a3⟩ => n2) ⟨FUEL, 0⟩ ?_ ?_ ?_
      · repeat' first | exact trivial | refine ⟨rfl, ?_⟩
      · exact ⟨hm, Kz.refl _ _⟩
      · clear hm; rintro ⟨n2, a3⟩ w4 ⟨hm, Kw4⟩
        have z17 := Kw4.size
        have hb := fix_succ hm; clear hm; obtain ⟨n2, rfl, hm⟩ := hb
        generalize hrec2 : fixN (ref03_SameHeader_L2 p0 p1) n2 = rec2 at hm
        unfold ref03_SameHeader_L2 at hm
        try dsimp only at hm
        refine sw_seq ?_
        refine sw_seq ?_
        -- region 4 ref.go:634
        refine sw_region [(0, 0), (1, 0), (2, 0), (3, 0), (4, 0)] rfl rfl rfl ?_
        refine sd_vv rfl rfl rfl (vv_move rfl) ?_
        refine sd_vv rfl rfl rfl (vv_fieldAddr fa_45_0 rfl) ?_
        have B18 := (Bx.kz (Bx.kz (Bx.gr Bw1 Gw2) Kw3) Kw4)
        refine sd_vv rfl rfl rfl (vv_load1 (v := vp0_0) one_42 rfl B18 rfl) ?_
        have B19 := (Rd.kz B13 Kw4)
        refine sd_vv rfl rfl rfl (vv_lenT (l := p0.Items) (c := TItem.cs) Try.underlying42 rfl B19) ?_
        refine sd_vv rfl rfl rfl (vv_lss (a := a3) (b := (p0.Items.length : Int)) rfl rfl) ?_
        refine sd_done ?_
        refine sw_cond rfl (fun c2 => ?_) (fun c2 => ?_)
        ·
          replace hm := ite_t (of_decide_eq_true c2) hm
          refine sw_skip ?_
          refine then_n ?_
          refine sw_seq ?_
          refine sw_block ?_
          refine sw_seq ?_
          -- region 6 ref.go:635 DRAWS
          refine sw_drawN [([])] [] (.leaf [(0, 10), (1, 10), (2, 10), (3, 10), (4, 10), (5, 10), (6, 10), (7, 10), (8, 10), (9, 10), (10, 10)]) (by kernel_rfl) (by kernel_rfl) rfl (by kernel_rfl) ?_
          intro w5 Gw5 zw5
          refine sdz_leaf ?_
          refine dd_hn 0 rfl rfl rfl rfl (Kp.refl ([]) w5) (fun w hS => vv_fieldAddr fa_45_0 rfl) ?_
          have B20 := (Bx.gr B18 Gw5)
          refine dd_hn 0 rfl rfl rfl rfl (Kp.refl ([]) w5) (fun w hS => vv_load1 (v := vp0_0) one_42 rfl (Bx.kp B20 hS) rfl) ?_
          refine dd_hn 0 rfl rfl rfl rfl (Kp.refl ([]) w5) (fun w hS => vv_move rfl) ?_
          have hb := bnd hm; clear hm; obtain ⟨y4, hy4, hm⟩ := hb
          have B21 := (Rd.gr B19 Gw5)
          refine dd_hn 0 rfl rfl rfl rfl (Kp.refl ([]) w5) (fun w hS => vv_ixT (i := a3) Try.underlying42 (agg_131).siz rfl (Rd.kp B21 hS) rfl hy4) ?_
          refine dd_hn 0 rfl rfl rfl rfl (Kp.refl ([]) w5) (fun w hS => vv_elWT agg_131 rfl (Rd.kp B21 hS) hy4 (by first | rfl | omega)) ?_
          refine dd_hn 0 rfl rfl rfl rfl (Kp.refl ([]) w5) (fun w hS => vv_fieldAddr fa_45_0 rfl) ?_
          have B22 := (Bx.gr (Bx.kz (Bx.kz Bw2 Kw3) Kw4) Gw5)
          refine dd_hn 0 rfl rfl rfl rfl (Kp.refl ([]) w5) (fun w hS => vv_load1 (v := vp1_0) one_42 rfl (Bx.kp B22 hS) rfl) ?_
          refine dd_hn 0 rfl rfl rfl rfl (Kp.refl ([]) w5) (fun w hS => vv_move rfl) ?_
          have hb := bnd hm; clear hm; obtain ⟨y5, hy5, hm⟩ := hb
          have B23 := (Rd.gr (Rd.kz B15 Kw4) Gw5)
          refine dd_hn 0 rfl rfl rfl rfl (Kp.refl ([]) w5) (fun w hS => vv_ixT (i := a3) Try.underlying42 (agg_131).siz rfl (Rd.kp B23 hS) rfl hy5) ?_
          refine dd_hn 0 rfl rfl rfl rfl (Kp.refl ([]) w5) (fun w hS => vv_elWT agg_131 rfl (Rd.kp B23 hS) hy5 (by first | rfl | omega)) ?_
          refine dd_hn 0 rfl rfl rfl rfl (Kp.refl ([]) w5) (fun w hS => vv_neqS (cf := TItem.cs) (a := y4) (b := y5) eqt_131 rfl rfl rfl rfl (fun h => TItem.cs_inj h)) ?_
          refine sd_done ?_
          refine sw_cond rfl (fun c3 => ?_) (fun c3 => ?_)
          ·
            replace hm := ite_t (of_decide_eq_true c3) hm
            refine sw_seq ?_
            -- region 7 ref.go:636
            refine sw_region [(0, 0)] rfl rfl rfl ?_
            refine sd_vv rfl rfl rfl (vv_assign rfl) ?_
            refine sd_done ?_
            refine sw_ret ?_
            refine block_r ?_
            refine then_r ?_
            refine then_r ?_
            refine block_r ?_
            refine then_r ?_
            have X24 : Gr w w5 := (Gr.trans (Gr.kz X12 Kw4) Gw5)
            have hr := Option.some.inj hm
            subst hr
            refine ⟨_, _, rfl, res_1 rfl (rv_tmp rfl), ?_⟩
            exact ⟨rfl, X24⟩
          ·
            replace hm := ite_f (of_decide_eq_false c3) hm
            refine sw_skip ?_
            refine block_n ?_
            refine then_n ?_
            -- region 5 ref.go:634
            refine sw_region [(0, 0), (1, 0), (2, 0)] rfl rfl rfl ?_
            refine sd_vv rfl rfl rfl (vv_move rfl) ?_
            refine sd_vv rfl rfl rfl (vv_add (k := .i64) (a := a3) (b := 1) rfl rfl) ?_
            refine sd_vv rfl rfl rfl (vv_assign rfl) ?_
            refine sd_nil ?_
            have K_25 : Kz [] w3 w5 := (Kz.gr Kw4 Gw5)
            subst hrec2
            refine ⟨rfl, ⟨n2, w64 (a3 + 1)⟩, ?_, ⟨hm, K_25⟩, Nat.lt_succ_self _⟩
            repeat' first | exact trivial | refine ⟨rfl, ?_⟩
        ·
          replace hm := ite_f (of_decide_eq_false c2) hm
          refine sw_exit ?_
          refine then_x ?_
          refine then_x ?_
          refine block_x ?_
          refine then_n ?_
          refine sw_seq ?_
          refine sw_seq ?_
          -- region 8 ref.go:639
          refine sw_region [(0, 0)] rfl rfl rfl ?_
          refine sd_vv rfl rfl rfl (vv_assign rfl) ?_
          refine sd_done ?_
          refine sw_block ?_
          have X26 : Gr w w4 := (Gr.kz X12 Kw4)
          have B27 := (Rd.kz B14 Kw4)
          have B28 := (Rd.kz B15 Kw4)
          have B29 := (Rd.kz B16 Kw4)
          refine sw_loopD (α := Nat × Int) [4, 6, 62, 63, 64, 65, 66, 67, 68, 69, 70, 71, 72, 73, 74, 75, 76, 77, 78, 79] (fun ⟨n3, a7⟩ => [(4, .bool false), (6, .int .i64 a7)]) (fun ⟨n3, a7⟩ wr => (fixN (ref03_SameHeader_L3 p0 p1) n3 a7 = some r) ∧ Kz [] w4 wr) (fun ⟨n3, a7⟩ => n3) ⟨FUEL, 0⟩ ?_ ?_ ?_
          · repeat' first | exact trivial | refine ⟨rfl, ?_⟩
          · exact ⟨hm, Kz.refl _ _⟩
          · clear hm; rintro ⟨n3, a7⟩ w6 ⟨hm, Kw6⟩
            have z30 := Kw6.size
            have hb := fix_succ hm; clear hm; obtain ⟨n3, rfl, hm⟩ := hb
            generalize hrec3 : fixN (ref03_SameHeader_L3 p0 p1) n3 = rec3 at hm
            unfold ref03_SameHeader_L3 at hm
            try dsimp only at hm
            refine sw_seq ?_
            refine sw_seq ?_
            -- region 9 ref.go:639
            refine sw_region [(0, 0), (1, 0), (2, 0), (3, 0), (4, 0)] rfl rfl rfl ?_
            refine sd_vv rfl rfl rfl (vv_move rfl) ?_
            refine sd_vv rfl rfl rfl (vv_fieldAddr fa_45_2 rfl) ?_
            have B31 := (Bx.kz B18 Kw6)
            refine sd_vv rfl rfl rfl (vv_load1 (v := vp0_2) one_43 rfl B31 rfl) ?_
            have B32 := (Rd.kz B27 Kw6)
            refine sd_vv rfl rfl rfl (vv_lenT (l := p0.Points) (c := TPoint.cs) Try.underlying43 rfl B32) ?_
            refine sd_vv rfl rfl rfl (vv_lss (a := a7) (b := (p0.Points.length : Int)) rfl rfl) ?_
            refine sd_done ?_
            refine sw_cond rfl (fun c4 => ?_) (fun c4 => ?_)
            ·
              replace hm := ite_t (of_decide_eq_true c4) hm
              refine sw_skip ?_
              refine then_n ?_
              refine sw_seq ?_
              refine sw_block ?_
              refine sw_seq ?_
              -- region 11 ref.go:640 DRAWS
              refine sw_drawN [([])] [] (.leaf [(0, 10), (1, 10), (2, 10), (3, 10), (4, 10), (5, 10), (6, 10), (7, 10), (8, 10), (9, 10), (10, 10)]) (by kernel_rfl) (by kernel_rfl) rfl (by kernel_rfl) ?_
              intro w7 Gw7 zw7
              refine sdz_leaf ?_
              refine dd_hn 0 rfl rfl rfl rfl (Kp.refl ([]) w7) (fun w hS => vv_fieldAddr fa_45_2 rfl) ?_
              have B33 := (Bx.gr B31 Gw7)
              refine dd_hn 0 rfl rfl rfl rfl (Kp.refl ([]) w7) (fun w hS => vv_load1 (v := vp0_2) one_43 rfl (Bx.kp B33 hS) rfl) ?_
              refine dd_hn 0 rfl rfl rfl rfl (Kp.refl ([]) w7) (fun w hS => vv_move rfl) ?_
              have hb := bnd hm; clear hm; obtain ⟨y8, hy8, hm⟩ := hb
              have B34 := (Rd.gr B32 Gw7)
              refine dd_hn 0 rfl rfl rfl rfl (Kp.refl ([]) w7) (fun w hS => vv_ixT (i := a7) Try.underlying43 (agg_31).siz rfl (Rd.kp B34 hS) rfl hy8) ?_
              refine dd_hn 0 rfl rfl rfl rfl (Kp.refl ([]) w7) (fun w hS => vv_elWT agg_31 rfl (Rd.kp B34 hS) hy8 (by first | rfl | omega)) ?_
              refine dd_hn 0 rfl rfl rfl rfl (Kp.refl ([]) w7) (fun w hS => vv_fieldAddr fa_45_2 rfl) ?_
              have B35 := (Bx.gr (Bx.kz (Bx.kz (Bx.kz Bw2 Kw3) Kw4) Kw6) Gw7)
              refine dd_hn 0 rfl rfl rfl rfl (Kp.refl ([]) w7) (fun w hS => vv_load1 (v := vp1_2) one_43 rfl (Bx.kp B35 hS) rfl) ?_
              refine dd_hn 0 rfl rfl rfl rfl (Kp.refl ([]) w7) (fun w hS => vv_move rfl) ?_
              have hb := bnd hm; clear hm; obtain ⟨y9, hy9, hm⟩ := hb
              have B36 := (Rd.gr (Rd.kz B29 Kw6) Gw7)
              refine dd_hn 0 rfl rfl rfl rfl (Kp.refl ([]) w7) (fun w hS => vv_ixT (i := a7) Try.underlying43 (agg_31).siz rfl (Rd.kp B36 hS) rfl hy9) ?_
              refine dd_hn 0 rfl rfl rfl rfl (Kp.refl ([]) w7) (fun w hS => vv_elWT agg_31 rfl (Rd.kp B36 hS) hy9 (by first | rfl | omega)) ?_
              refine dd_hn 0 rfl rfl rfl rfl (Kp.refl ([]) w7) (fun w hS => vv_neqS (cf := TPoint.cs) (a := y8) (b := y9) eqt_31 rfl rfl rfl rfl (fun h => TPoint.cs_inj h)) ?_
              refine sd_done ?_
              refine sw_cond rfl (fun c5 => ?_) (fun c5 => ?_)
              ·
                replace hm := ite_t (of_decide_eq_true c5) hm
                refine sw_seq ?_
                -- region 12 ref.go:641
                refine sw_region [(0, 0)] rfl rfl rfl ?_
                refine sd_vv rfl rfl rfl (vv_assign rfl) ?_
                refine sd_done ?_
                refine sw_ret ?_
                refine block_r ?_
                refine then_r ?_
                refine then_r ?_
                refine block_r ?_
                refine then_r ?_
                have X37 : Gr w w7 := (Gr.trans (Gr.kz X26 Kw6) Gw7)
                have hr := Option.some.inj hm
                subst hr
                refine ⟨_, _, rfl, res_1 rfl (rv_tmp rfl), ?_⟩
                exact ⟨rfl, X37⟩
              ·
                replace hm := ite_f (of_decide_eq_false c5) hm
                refine sw_skip ?_
                refine block_n ?_
                refine then_n ?_
                -- region 10 ref.go:639
                refine sw_region [(0, 0), (1, 0), (2, 0)] rfl rfl rfl ?_
                refine sd_vv rfl rfl rfl (vv_move rfl) ?_
                refine sd_vv rfl rfl rfl (vv_add (k := .i64) (a := a7) (b := 1) rfl rfl) ?_
                refine sd_vv rfl rfl rfl (vv_assign rfl) ?_
                refine sd_nil ?_
                have K_38 : Kz [] w4 w7 := (Kz.gr Kw6 Gw7)
                subst hrec3
                refine ⟨rfl, ⟨n3, w64 (a7 + 1)⟩, ?_, ⟨hm, K_38⟩, Nat.lt_succ_self _⟩
                repeat' first | exact trivial | refine ⟨rfl, ?_⟩
            ·
              replace hm := ite_f (of_decide_eq_false c4) hm
              refine sw_exit ?_
              refine then_x ?_
              refine then_x ?_
              refine block_x ?_
              refine then_n ?_
              refine sw_seq ?_
              -- region 13 ref.go:644
              refine sw_region [(0, 0)] rfl rfl rfl ?_
              refine sd_vv rfl rfl rfl (vv_assign rfl) ?_
              refine sd_done ?_
              refine sw_ret ?_
              have X39 : Gr w w6 := (Gr.kz X26 Kw6)
              have hr := Option.some.inj hm
              subst hr
              refine ⟨_, _, rfl, res_1 rfl (rv_tmp rfl), ?_⟩
              exact ⟨rfl, X39⟩
  ·
    -- region 1 ref.go:631
    refine sw_region [(0, 0), (1, 0), (2, 0), (3, 0), (4, 0), (5, 0), (6, 0), (7, 0), (8, 0), (9, 0), (10, 0), (11, 0), (12, 0), (13, 0), (14, 0), (15, 0), (16, 0), (17, 0), (18, 0), (19, 0), (20, 0), (21, 0), (22, 0), (23, 0), (24, 0), (25, 0), (26, 0), (27, 0), (28, 0), (29, 0), (30, 0), (31, 0), (32, 0), (33, 0), (34, 0), (35, 0), (36, 0)] rfl rfl rfl ?_
    refine sd_vv rfl rfl rfl (vv_fieldAddr fa_45_0 rfl) ?_
    have B40 := (Bx.gr Bw1 Gw2)
    refine sd_vv rfl rfl rfl (vv_load1 (v := vp0_0) one_42 rfl B40 rfl) ?_
    have B41 := (Rd.gr (Rd.gr hp0_0 Gw1) Gw2)
    refine sd_vv rfl rfl rfl (vv_lenT (l := p0.Items) (c := TItem.cs) Try.underlying42 rfl B41) ?_
    refine sd_vv rfl rfl rfl (vv_fieldAddr fa_45_0 rfl) ?_
    refine sd_vv rfl rfl rfl (vv_load1 (v := vp1_0) one_42 rfl Bw2 rfl) ?_
    have B42 := (Rd.gr (Rd.gr hp1_0 Gw1) Gw2)
    refine sd_vv rfl rfl rfl (vv_lenT (l := p1.Items) (c := TItem.cs) Try.underlying42 rfl B42) ?_
    refine sd_vv rfl rfl rfl (vv_neq (a := (p0.Items.length : Int)) (b := (p1.Items.length : Int)) rfl rfl) ?_
    refine sd_split rfl rfl rfl (vv_move rfl) (fun c6 => ?_) (fun c6 => ?_)
    ·
      replace hm := ite_t (of_decide_eq_true c6) hm
      refine sd_skip rfl rfl rfl ?_
      refine sd_skip rfl rfl rfl ?_
      refine sd_skip rfl rfl rfl ?_
      refine sd_skip rfl rfl rfl ?_
      refine sd_skip rfl rfl rfl ?_
      refine sd_skip rfl rfl rfl ?_
      refine sd_skip rfl rfl rfl ?_
      refine sd_vv rfl rfl rfl (vv_pickT rfl rfl) ?_
      refine sd_vv rfl rfl rfl (vv_move rfl) ?_
      refine sd_skip rfl rfl rfl ?_
      refine sd_skip rfl rfl rfl ?_
      refine sd_skip rfl rfl rfl ?_
      refine sd_skip rfl rfl rfl ?_
      refine sd_skip rfl rfl rfl ?_
      refine sd_vv rfl rfl rfl (vv_pickT rfl rfl) ?_
      refine sd_vv rfl rfl rfl (vv_move rfl) ?_
      refine sd_skip rfl rfl rfl ?_
      refine sd_skip rfl rfl rfl ?_
      refine sd_skip rfl rfl rfl ?_
      refine sd_skip rfl rfl rfl ?_
      refine sd_skip rfl rfl rfl ?_
      refine sd_vv rfl rfl rfl (vv_pickT rfl rfl) ?_
      refine sd_vv rfl rfl rfl (vv_move rfl) ?_
      refine sd_skip rfl rfl rfl ?_
      refine sd_skip rfl rfl rfl ?_
      refine sd_skip rfl rfl rfl ?_
      refine sd_skip rfl rfl rfl ?_
      refine sd_skip rfl rfl rfl ?_
      refine sd_vv rfl rfl rfl (vv_pickT rfl rfl) ?_
      refine sd_nil ?_
      have K_43 : Kz [] w2 w2 := (Kz.refl _ _)
      refine ⟨rfl, true, ?_, hm, K_43⟩
      repeat' first | exact trivial | refine ⟨rfl, ?_⟩
    ·
      replace hm := ite_f (of_decide_eq_false c6) hm
      refine sd_vv rfl rfl rfl (vv_fieldAddr fa_45_2 rfl) ?_
      refine sd_vv rfl rfl rfl (vv_load1 (v := vp0_2) one_43 rfl B40 rfl) ?_
      have B44 := (Rd.gr (Rd.gr hp0_2 Gw1) Gw2)
      refine sd_vv rfl rfl rfl (vv_lenT (l := p0.Points) (c := TPoint.cs) Try.underlying43 rfl B44) ?_
      refine sd_vv rfl rfl rfl (vv_fieldAddr fa_45_2 rfl) ?_
      refine sd_vv rfl rfl rfl (vv_load1 (v := vp1_2) one_43 rfl Bw2 rfl) ?_
      have B45 := (Rd.gr (Rd.gr hp1_2 Gw1) Gw2)
      refine sd_vv rfl rfl rfl (vv_lenT (l := p1.Points) (c := TPoint.cs) Try.underlying43 rfl B45) ?_
      refine sd_vv rfl rfl rfl (vv_neq (a := (p0.Points.length : Int)) (b := (p1.Points.length : Int)) rfl rfl) ?_
      refine sd_vv rfl rfl rfl (vv_pickF rfl rfl) ?_
      refine sd_split rfl rfl rfl (vv_move rfl) (fun c7 => ?_) (fun c7 => ?_)
      ·
        replace hm := ite_t (of_decide_eq_true c7) hm
        refine sd_skip rfl rfl rfl ?_
        refine sd_skip rfl rfl rfl ?_
        refine sd_skip rfl rfl rfl ?_
        refine sd_skip rfl rfl rfl ?_
        refine sd_skip rfl rfl rfl ?_
        refine sd_vv rfl rfl rfl (vv_pickT rfl rfl) ?_
        refine sd_vv rfl rfl rfl (vv_move rfl) ?_
        refine sd_skip rfl rfl rfl ?_
        refine sd_skip rfl rfl rfl ?_
        refine sd_skip rfl rfl rfl ?_
        refine sd_skip rfl rfl rfl ?_
        refine sd_skip rfl rfl rfl ?_
        refine sd_vv rfl rfl rfl (vv_pickT rfl rfl) ?_
        refine sd_vv rfl rfl rfl (vv_move rfl) ?_
        refine sd_skip rfl rfl rfl ?_
        refine sd_skip rfl rfl rfl ?_
        refine sd_skip rfl rfl rfl ?_
        refine sd_skip rfl rfl rfl ?_
        refine sd_skip rfl rfl rfl ?_
        refine sd_vv rfl rfl rfl (vv_pickT rfl rfl) ?_
        refine sd_nil ?_
        have K_46 : Kz [] w2 w2 := (Kz.refl _ _)
        refine ⟨rfl, true, ?_, hm, K_46⟩
        repeat' first | exact trivial | refine ⟨rfl, ?_⟩
      ·
        replace hm := ite_f (of_decide_eq_false c7) hm
        refine sd_vv rfl rfl rfl (vv_fieldAddr fa_45_1 rfl) ?_
        refine sd_vv rfl rfl rfl (vv_load1 (v := wv p0.Base) one_24 rfl B40 rfl) ?_
        refine sd_vv rfl rfl rfl (vv_fieldAddr fa_45_1 rfl) ?_
        refine sd_vv rfl rfl rfl (vv_load1 (v := wv p1.Base) one_24 rfl Bw2 rfl) ?_
        refine sd_vv rfl rfl rfl (vv_neqU (c := p0.Base) (d := p1.Base) rfl rfl) ?_
        refine sd_vv rfl rfl rfl (vv_pickF rfl rfl) ?_
        refine sd_split rfl rfl rfl (vv_move rfl) (fun c8 => ?_) (fun c8 => ?_)
        ·
          replace hm := ite_t (of_decide_eq_true c8) hm
          refine sd_skip rfl rfl rfl ?_
          refine sd_skip rfl rfl rfl ?_
          refine sd_skip rfl rfl rfl ?_
          refine sd_skip rfl rfl rfl ?_
          refine sd_skip rfl rfl rfl ?_
          refine sd_vv rfl rfl rfl (vv_pickT rfl rfl) ?_
          refine sd_vv rfl rfl rfl (vv_move rfl) ?_
          refine sd_skip rfl rfl rfl ?_
          refine sd_skip rfl rfl rfl ?_
          refine sd_skip rfl rfl rfl ?_
          refine sd_skip rfl rfl rfl ?_
          refine sd_skip rfl rfl rfl ?_
          refine sd_vv rfl rfl rfl (vv_pickT rfl rfl) ?_
          refine sd_nil ?_
          have K_47 : Kz [] w2 w2 := (Kz.refl _ _)
          refine ⟨rfl, true, ?_, hm, K_47⟩
          repeat' first | exact trivial | refine ⟨rfl, ?_⟩
        ·
          replace hm := ite_f (of_decide_eq_false c8) hm
          refine sd_vv rfl rfl rfl (vv_fieldAddr fa_45_3 rfl) ?_
          refine sd_vv rfl rfl rfl (vv_loadM (vs := kb p0.Box) agg_23 rfl B40 rfl rfl) ?_
          refine sd_vv rfl rfl rfl (vv_fieldAddr fa_45_3 rfl) ?_
          refine sd_vv rfl rfl rfl (vv_loadM (vs := kb p1.Box) agg_23 rfl Bw2 rfl rfl) ?_
          refine sd_vv rfl rfl rfl (vv_neqS (cf := kb) (a := p0.Box) (b := p1.Box) eqt_23 rfl rfl rfl rfl (fun h => kb_inj h)) ?_
          refine sd_vv rfl rfl rfl (vv_pickF rfl rfl) ?_
          refine sd_split rfl rfl rfl (vv_move rfl) (fun c9 => ?_) (fun c9 => ?_)
          ·
            replace hm := ite_t (of_decide_eq_true c9) hm
            refine sd_skip rfl rfl rfl ?_
            refine sd_skip rfl rfl rfl ?_
            refine sd_skip rfl rfl rfl ?_
            refine sd_skip rfl rfl rfl ?_
            refine sd_skip rfl rfl rfl ?_
            refine sd_vv rfl rfl rfl (vv_pickT rfl rfl) ?_
            refine sd_nil ?_
            have K_48 : Kz [] w2 w2 := (Kz.refl _ _)
            refine ⟨rfl, true, ?_, hm, K_48⟩
            repeat' first | exact trivial | refine ⟨rfl, ?_⟩
          ·
            replace hm := ite_f (of_decide_eq_false c9) hm
            refine sd_vv rfl rfl rfl (vv_fieldAddr fa_45_4 rfl) ?_
            refine sd_vv rfl rfl rfl (vv_loadM (vs := kb p0.Check) agg_23 rfl B40 rfl rfl) ?_
            refine sd_vv rfl rfl rfl (vv_fieldAddr fa_45_4 rfl) ?_
            refine sd_vv rfl rfl rfl (vv_loadM (vs := kb p1.Check) agg_23 rfl Bw2 rfl rfl) ?_
            refine sd_vv rfl rfl rfl (vv_neqS (cf := kb) (a := p0.Check) (b := p1.Check) eqt_23 rfl rfl rfl rfl (fun h => kb_inj h)) ?_
            refine sd_vv rfl rfl rfl (vv_pickF rfl rfl) ?_
            refine sd_nil ?_
            have K_49 : Kz [] w2 w2 := (Kz.refl _ _)
            refine ⟨rfl, (decide (p0.Check ≠ p1.Check)), ?_, hm, K_49⟩
            repeat' first | exact trivial | refine ⟨rfl, ?_⟩

set_option maxHeartbeats 2000000 in
theorem ref03_SameInts_w (p0 : List Int) (p1 : List Int) (vp0 : Value) (zp0 gp0 op0 : Nat) (vp1 : Value) (zp1 gp1 op1 : Nat) (r : Bool) (hm : ref03_SameInts p0 p1 = some r) (w : World) (hp0 : Rd w zp0 gp0 op0 1 vp0 (p0.map ic)) (hp1 : Rd w zp1 gp1 op1 1 vp1 (p1.map ic))  :
    Calls Try.prog 24 [vp0, vp1].toArray w fun e w' => ∃ v, e = .returned v ∧ (v = .bool r ∧ Gr w w') := by
  have lt1 := hp0.lth
  have lt2 := hp1.lth
  unfold ref03_SameInts at hm
  refine calls_of_sw (R := fun v w' => v = .bool r ∧ Gr w w') 26 Try.func24 rfl rfl rfl ?_
  refine sw_seq ?_
  -- region 0 ref.go:604
  refine sw_region [(0, 0)] rfl rfl rfl ?_
  refine sd_vv rfl rfl rfl (vv_assign rfl) ?_
  refine sd_done ?_
  refine sw_seq ?_
  refine sw_seq ?_
  -- region 1 ref.go:605
  refine sw_region [(0, 0), (1, 0), (2, 0), (3, 0), (4, 0)] rfl rfl rfl ?_
  refine sd_vv rfl rfl rfl (vv_move rfl) ?_
  refine sd_vv rfl rfl rfl (vv_lenT (l := p0) (c := ic) Try.underlying41 rfl hp0) ?_
  refine sd_vv rfl rfl rfl (vv_move rfl) ?_
  refine sd_vv rfl rfl rfl (vv_lenT (l := p1) (c := ic) Try.underlying41 rfl hp1) ?_
  refine sd_vv rfl rfl rfl (vv_neq (a := (p0.length : Int)) (b := (p1.length : Int)) rfl rfl) ?_
  refine sd_done ?_
  refine sw_cond rfl (fun c1 => ?_) (fun c1 => ?_)
  ·
    replace hm := ite_t (of_decide_eq_true c1) hm
    refine sw_seq ?_
    -- region 2 ref.go:606
    refine sw_region [(0, 0)] rfl rfl rfl ?_
    refine sd_vv rfl rfl rfl (vv_assign rfl) ?_
    refine sd_done ?_
    refine sw_ret ?_
    refine then_r ?_
    have hr := Option.some.inj hm
    subst hr
    refine ⟨_, _, rfl, res_1 rfl (rv_tmp rfl), ?_⟩
    exact ⟨rfl, (Gr.refl w)⟩
  ·
    replace hm := ite_f (of_decide_eq_false c1) hm
    refine sw_skip ?_
    refine then_n ?_
    refine sw_seq ?_
    refine sw_seq ?_
    -- region 3 ref.go:608
    refine sw_region [(0, 0)] rfl rfl rfl ?_
    refine sd_vv rfl rfl rfl (vv_assign rfl) ?_
    refine sd_done ?_
    refine sw_block ?_
    refine sw_loopD (α := Nat × Int) [4, 5, 11, 12, 13, 14, 15, 16, 17, 18, 19, 20, 21, 22, 23, 24, 25] (fun ⟨n1, a2⟩ => [(4, .bool false), (5, .int .i64 a2)]) (fun ⟨n1, a2⟩ wr => (fixN (ref03_SameInts_L1 p0 p1) n1 a2 = some r) ∧ Kz [] w wr) (fun ⟨n1, a2⟩ => n1) ⟨FUEL, 0⟩ ?_ ?_ ?_
    · repeat' first | exact trivial | refine ⟨rfl, ?_⟩
    · exact ⟨hm, Kz.refl _ _⟩
    · clear hm; rintro ⟨n1, a2⟩ w1 ⟨hm, Kw1⟩
      have z3 := Kw1.size
      have hb := fix_succ hm; clear hm; obtain ⟨n1, rfl, hm⟩ := hb
      generalize hrec1 : fixN (ref03_SameInts_L1 p0 p1) n1 = rec1 at hm
      unfold ref03_SameInts_L1 at hm
      try dsimp only at hm
      refine sw_seq ?_
      refine sw_seq ?_
      -- region 4 ref.go:608
      refine sw_region [(0, 0), (1, 0), (2, 0), (3, 0)] rfl rfl rfl ?_
      refine sd_vv rfl rfl rfl (vv_move rfl) ?_
      refine sd_vv rfl rfl rfl (vv_move rfl) ?_
      have B4 := (Rd.kz hp0 Kw1)
      refine sd_vv rfl rfl rfl (vv_lenT (l := p0) (c := ic) Try.underlying41 rfl B4) ?_
      refine sd_vv rfl rfl rfl (vv_lss (a := a2) (b := (p0.length : Int)) rfl rfl) ?_
      refine sd_done ?_
      refine sw_cond rfl (fun c2 => ?_) (fun c2 => ?_)
      ·
        replace hm := ite_t (of_decide_eq_true c2) hm
        refine sw_skip ?_
        refine then_n ?_
        refine sw_seq ?_
        refine sw_block ?_
        refine sw_seq ?_
        -- region 6 ref.go:609 DRAWS
        refine sw_drawN [([])] [] (.leaf [(0, 10), (1, 10), (2, 10), (3, 10), (4, 10), (5, 10), (6, 10), (7, 10), (8, 10)]) (by kernel_rfl) (by kernel_rfl) rfl (by kernel_rfl) ?_
        intro w2 Gw2 zw2
        refine sdz_leaf ?_
        refine dd_hn 0 rfl rfl rfl rfl (Kp.refl ([]) w2) (fun w hS => vv_move rfl) ?_
        refine dd_hn 0 rfl rfl rfl rfl (Kp.refl ([]) w2) (fun w hS => vv_move rfl) ?_
        have hb := bnd hm; clear hm; obtain ⟨y3, hy3, hm⟩ := hb
        have B5 := (Rd.gr B4 Gw2)
        refine dd_hn 0 rfl rfl rfl rfl (Kp.refl ([]) w2) (fun w hS => vv_ixT (i := a2) Try.underlying41 (one_3).siz rfl (Rd.kp B5 hS) rfl hy3) ?_
        refine dd_hn 0 rfl rfl rfl rfl (Kp.refl ([]) w2) (fun w hS => vv_el1T (q := 0) (u := .int .i64 y3) one_3 rfl (Rd.kp B5 hS) hy3 (by first | rfl | omega) rfl) ?_
        refine dd_hn 0 rfl rfl rfl rfl (Kp.refl ([]) w2) (fun w hS => vv_move rfl) ?_
        refine dd_hn 0 rfl rfl rfl rfl (Kp.refl ([]) w2) (fun w hS => vv_move rfl) ?_
        have hb := bnd hm; clear hm; obtain ⟨y4, hy4, hm⟩ := hb
        have B6 := (Rd.gr (Rd.kz hp1 Kw1) Gw2)
        refine dd_hn 0 rfl rfl rfl rfl (Kp.refl ([]) w2) (fun w hS => vv_ixT (i := a2) Try.underlying41 (one_3).siz rfl (Rd.kp B6 hS) rfl hy4) ?_
        refine dd_hn 0 rfl rfl rfl rfl (Kp.refl ([]) w2) (fun w hS => vv_el1T (q := 0) (u := .int .i64 y4) one_3 rfl (Rd.kp B6 hS) hy4 (by first | rfl | omega) rfl) ?_
        refine dd_hn 0 rfl rfl rfl rfl (Kp.refl ([]) w2) (fun w hS => vv_neq (a := y3) (b := y4) rfl rfl) ?_
        refine sd_done ?_
        refine sw_cond rfl (fun c3 => ?_) (fun c3 => ?_)
        ·
          replace hm := ite_t (of_decide_eq_true c3) hm
          refine sw_seq ?_
          -- region 7 ref.go:610
          refine sw_region [(0, 0)] rfl rfl rfl ?_
          refine sd_vv rfl rfl rfl (vv_assign rfl) ?_
          refine sd_done ?_
          refine sw_ret ?_
          refine block_r ?_
          refine then_r ?_
          refine then_r ?_
          refine block_r ?_
          refine then_r ?_
          have X7 : Gr w w2 := (Gr.trans (Gr.kz (Gr.refl w) Kw1) Gw2)
          have hr := Option.some.inj hm
          subst hr
          refine ⟨_, _, rfl, res_1 rfl (rv_tmp rfl), ?_⟩
          exact ⟨rfl, X7⟩
        ·
          replace hm := ite_f (of_decide_eq_false c3) hm
          refine sw_skip ?_
          refine block_n ?_
          refine then_n ?_
          -- region 5 ref.go:608
          refine sw_region [(0, 0), (1, 0), (2, 0)] rfl rfl rfl ?_
          refine sd_vv rfl rfl rfl (vv_move rfl) ?_
          refine sd_vv rfl rfl rfl (vv_add (k := .i64) (a := a2) (b := 1) rfl rfl) ?_
          refine sd_vv rfl rfl rfl (vv_assign rfl) ?_
          refine sd_nil ?_
          have K_8 : Kz [] w w2 := (Kz.gr Kw1 Gw2)
          subst hrec1
          refine ⟨rfl, ⟨n1, w64 (a2 + 1)⟩, ?_, ⟨hm, K_8⟩, Nat.lt_succ_self _⟩
          repeat' first | exact trivial | refine ⟨rfl, ?_⟩
      ·
        replace hm := ite_f (of_decide_eq_false c2) hm
        refine sw_exit ?_
        refine then_x ?_
        refine then_x ?_
        refine block_x ?_
        refine then_n ?_
        refine sw_seq ?_
        -- region 8 ref.go:613
        refine sw_region [(0, 0)] rfl rfl rfl ?_
        refine sd_vv rfl rfl rfl (vv_assign rfl) ?_
        refine sd_done ?_
        refine sw_ret ?_
        have X9 : Gr w w1 := (Gr.kz (Gr.refl w) Kw1)
        have hr := Option.some.inj hm
        subst hr
        refine ⟨_, _, rfl, res_1 rfl (rv_tmp rfl), ?_⟩
        exact ⟨rfl, X9⟩

set_option maxHeartbeats 2000000 in
theorem poly_distinct_1_w (p0 : TPoint) (p1 : TPoint) (bp1 : Nat) (r : Bool) (hm : poly_distinct_1 p0 p1 = some r) (w : World) (hbp1 : Bx w bp1 31 (TPoint.cs p1))  :
    Calls Try.prog 122 [.agg (TPoint.cs p0).toArray, .pointer (some ⟨bp1, 0, none⟩)].toArray w fun e w' => ∃ v, e = .returned v ∧ (v = .bool r ∧ Gr w w') := by
  have lt1 := hbp1.lt
  unfold poly_distinct_1 at hm
  refine calls_of_sw (R := fun v w' => v = .bool r ∧ Gr w w') 9 Try.func122 rfl rfl rfl ?_
  refine sw_seq ?_
  -- region 0 poly.go:90
  refine sw_region [(0, 0), (1, 0)] rfl rfl rfl ?_
  refine sd_ev rfl rfl rfl (ev_box (cs := TPoint.cs p0) rfl rfl) ?_
  rintro _ w1 ⟨b1, rfl, hbw1, Bw1, Gw1⟩
  have z2 := Gw1.size
  have lt3 := Bw1.lt
  refine sd_vv rfl rfl rfl (vv_assign rfl) ?_
  refine sd_done ?_
  refine sw_seq ?_
  -- region 1 poly.go:90
  refine sw_region [(0, 0), (1, 0), (2, 0), (3, 0), (4, 0), (5, 0)] rfl rfl rfl ?_
  refine sd_vv rfl rfl rfl (vv_fieldAddr fa_31_0 rfl) ?_
  refine sd_vv rfl rfl rfl (vv_load1 (v := wv p0.X) one_24 rfl Bw1 rfl) ?_
  refine sd_vv rfl rfl rfl (vv_fieldAddr fa_31_0 rfl) ?_
  have B4 := (Bx.gr hbp1 Gw1)
  refine sd_vv rfl rfl rfl (vv_load1 (v := wv p1.X) one_24 rfl B4 rfl) ?_
  refine sd_vv rfl rfl rfl (vv_eqlU (c := p0.X) (d := p1.X) rfl rfl) ?_
  refine sd_vv rfl rfl rfl (vv_assign rfl) ?_
  refine sd_done ?_
  refine sw_ret ?_
  have X5 : Gr w w1 := (Gr.trans (Gr.refl w) Gw1)
  have hr := Option.some.inj hm
  subst hr
  refine ⟨_, _, rfl, res_1 rfl (rv_tmp rfl), ?_⟩
  exact ⟨rfl, X5⟩

set_option maxHeartbeats 2000000 in
theorem slices_IndexFunc_7a5d_poly_distinct_1_w (p0 : List TPoint) (p1_0 : TPoint) (vp0 : Value) (zp0 gp0 op0 : Nat) (bp1_0 : Nat) (r : Int) (hm : slices_IndexFunc_7a5d_poly_distinct_1 p0 p1_0 = some r) (w : World) (hp0 : Rd w zp0 gp0 op0 2 vp0 (p0.map TPoint.cs)) (hbp1_0 : Bx w bp1_0 31 (TPoint.cs p1_0))  :
    Calls Try.prog 133 [vp0, .func (.func 122) [].toArray [.pointer (some ⟨bp1_0, 0, none⟩)].toArray].toArray w fun e w' => ∃ v, e = .returned v ∧ (v = .int .i64 r ∧ Gr w w') := by
  have lt1 := hp0.lth
  have lt2 := hbp1_0.lt
  unfold slices_IndexFunc_7a5d_poly_distinct_1 at hm
  refine calls_of_sw (R := fun v w' => v = .int .i64 r ∧ Gr w w') 19 Try.func133 rfl rfl rfl ?_
  refine sw_seq ?_
  -- region 0 slices.go:107
  refine sw_region [(0, 0)] rfl rfl rfl ?_
  refine sd_vv rfl rfl rfl (vv_assign rfl) ?_
  refine sd_done ?_
  refine sw_seq ?_
  refine sw_seq ?_
  -- region 1 slices.go:108
  refine sw_region [(0, 0), (1, 0), (2, 0)] rfl rfl rfl ?_
  refine sd_vv rfl rfl rfl (vv_move rfl) ?_
  refine sd_vv rfl rfl rfl (vv_lenT (l := p0) (c := TPoint.cs) Try.underlying43 rfl hp0) ?_
  refine sd_vv rfl rfl rfl (vv_move rfl) ?_
  refine sd_done ?_
  refine sw_block ?_
  refine sw_loopD (α := Nat × Int) [4, 5, 8, 9, 10, 11, 12, 13, 14, 15, 16, 17, 18] (fun ⟨n1, a2⟩ => [(4, .int .i64 0), (8, .int .i64 a2)]) (fun ⟨n1, a2⟩ wr => (fixN (slices_IndexFunc_7a5d_poly_distinct_1_L1 p0 p1_0) n1 a2 = some r) ∧ Kz [] w wr) (fun ⟨n1, a2⟩ => n1) ⟨FUEL, 0⟩ ?_ ?_ ?_
  · repeat' first | exact trivial | refine ⟨rfl, ?_⟩
  · exact ⟨hm, Kz.refl _ _⟩
  · clear hm; rintro ⟨n1, a2⟩ w1 ⟨hm, Kw1⟩
    have z3 := Kw1.size
    have hb := fix_succ hm; clear hm; obtain ⟨n1, rfl, hm⟩ := hb
    generalize hrec1 : fixN (slices_IndexFunc_7a5d_poly_distinct_1_L1 p0 p1_0) n1 = rec1 at hm
    unfold slices_IndexFunc_7a5d_poly_distinct_1_L1 at hm
    try dsimp only at hm
    refine sw_seq ?_
    -- region 2 slices.go:108
    refine sw_region [(0, 0)] rfl rfl rfl ?_
    refine sd_vv rfl rfl rfl (vv_lss (a := a2) (b := (p0.length : Int)) rfl rfl) ?_
    refine sd_done ?_
    refine sw_seq ?_
    refine sw_cond rfl (fun c1 => ?_) (fun c1 => ?_)
    ·
      replace hm := ite_t (of_decide_eq_true c1) hm
      refine sw_skip ?_
      refine then_n ?_
      refine sw_seq ?_
      refine sw_block ?_
      refine sw_seq ?_
      -- region 3 slices.go:108
      refine sw_region [(0, 0), (1, 0)] rfl rfl rfl ?_
      refine sd_vv rfl rfl rfl (vv_move rfl) ?_
      refine sd_vv rfl rfl rfl (vv_assign rfl) ?_
      refine sd_done ?_
      refine sw_seq ?_
      -- region 4 slices.go:109
      refine sw_region [(0, 0), (1, 0), (2, 0), (3, 0), (4, 0), (5, 0)] rfl rfl rfl ?_
      refine sd_vv rfl rfl rfl (vv_move rfl) ?_
      refine sd_vv rfl rfl rfl (vv_move rfl) ?_
      refine sd_vv rfl rfl rfl (vv_move rfl) ?_
      have hb := bnd hm; clear hm; obtain ⟨y3, hy3, hm⟩ := hb
      have B4 := (Rd.kz hp0 Kw1)
      refine sd_vv rfl rfl rfl (vv_ixT (i := a2) Try.underlying43 (agg_31).siz rfl B4 rfl hy3) ?_
      refine sd_vv rfl rfl rfl (vv_elWT agg_31 rfl B4 hy3 (by first | rfl | omega)) ?_
      have B5 := (Bx.kz hbp1_0 Kw1)
      have hb := bnd hm; clear hm; obtain ⟨x4, hx4, hm⟩ := hb
      refine sd_ev rfl rfl rfl (ev_callV en_122 rfl rfl (poly_distinct_1_w y3 p1_0 _ _ hx4 _ B5)) ?_
      rintro _ w2 ⟨rfl, Gw2⟩
      have z6 := Gw2.size
      refine sd_done ?_
      refine sw_cond rfl (fun c2 => ?_) (fun c2 => ?_)
      ·
        replace hm := cnd_t c2 hm
        refine sw_seq ?_
        -- region 5 slices.go:110
        refine sw_region [(0, 0), (1, 0)] rfl rfl rfl ?_
        refine sd_vv rfl rfl rfl (vv_move rfl) ?_
        refine sd_vv rfl rfl rfl (vv_assign rfl) ?_
        refine sd_done ?_
        refine sw_ret ?_
        refine block_r ?_
        refine then_r ?_
        refine then_r ?_
        refine block_r ?_
        refine then_r ?_
        have X7 : Gr w w2 := (Gr.trans (Gr.kz (Gr.refl w) Kw1) Gw2)
        have hr := Option.some.inj hm
        subst hr
        refine ⟨_, _, rfl, res_1 rfl (rv_tmp rfl), ?_⟩
        exact ⟨rfl, X7⟩
      ·
        replace hm := cnd_f c2 hm
        refine sw_skip ?_
        refine block_n ?_
        refine then_n ?_
        -- region 6 slices.go:108
        refine sw_region [(0, 0), (1, 0)] rfl rfl rfl ?_
        refine sd_vv rfl rfl rfl (vv_add (k := .i64) (a := a2) (b := 1) rfl rfl) ?_
        refine sd_vv rfl rfl rfl (vv_move rfl) ?_
        refine sd_nil ?_
        have K_8 : Kz [] w w2 := (Kz.gr Kw1 Gw2)
        subst hrec1
        refine ⟨rfl, ⟨n1, w64 (a2 + 1)⟩, ?_, ⟨hm, K_8⟩, Nat.lt_succ_self _⟩
        repeat' first | exact trivial | refine ⟨rfl, ?_⟩
    ·
      replace hm := ite_f (of_decide_eq_false c1) hm
      refine sw_exit ?_
      refine then_x ?_
      refine then_x ?_
      refine block_x ?_
      refine then_n ?_
      refine sw_seq ?_
      -- region 7 slices.go:113
      refine sw_region [(0, 0)] rfl rfl rfl ?_
      refine sd_vv rfl rfl rfl (vv_assign rfl) ?_
      refine sd_done ?_
      refine sw_ret ?_
      have X9 : Gr w w1 := (Gr.kz (Gr.refl w) Kw1)
      have hr := Option.some.inj hm
      subst hr
      refine ⟨_, _, rfl, res_1 rfl (rv_tmp rfl), ?_⟩
      exact ⟨rfl, X9⟩

set_option maxHeartbeats 2000000 in
theorem slices_ContainsFunc_9e39_poly_distinct_1_w (p0 : List TPoint) (p1_0 : TPoint) (vp0 : Value) (zp0 gp0 op0 : Nat) (bp1_0 : Nat) (r : Bool) (hm : slices_ContainsFunc_9e39_poly_distinct_1 p0 p1_0 = some r) (w : World) (hp0 : Rd w zp0 gp0 op0 2 vp0 (p0.map TPoint.cs)) (hbp1_0 : Bx w bp1_0 31 (TPoint.cs p1_0))  :
    Calls Try.prog 89 [vp0, .func (.func 122) [].toArray [.pointer (some ⟨bp1_0, 0, none⟩)].toArray].toArray w fun e w' => ∃ v, e = .returned v ∧ (v = .bool r ∧ Gr w w') := by
  have lt1 := hp0.lth
  have lt2 := hbp1_0.lt
  unfold slices_ContainsFunc_9e39_poly_distinct_1 at hm
  refine calls_of_sw (R := fun v w' => v = .bool r ∧ Gr w w') 9 Try.func89 rfl rfl rfl ?_
  refine sw_seq ?_
  -- region 0 slices.go:124
  refine sw_region [(0, 0)] rfl rfl rfl ?_
  refine sd_vv rfl rfl rfl (vv_assign rfl) ?_
  refine sd_done ?_
  refine sw_seq ?_
  -- region 1 slices.go:125
  refine sw_region [(0, 0), (1, 0), (2, 0), (3, 0), (4, 0)] rfl rfl rfl ?_
  refine sd_vv rfl rfl rfl (vv_move rfl) ?_
  refine sd_vv rfl rfl rfl (vv_move rfl) ?_
  have hb := bnd hm; clear hm; obtain ⟨x1, hx1, hm⟩ := hb
  refine sd_ev rfl rfl rfl (ev_call en_133 rfl (slices_IndexFunc_7a5d_poly_distinct_1_w p0 p1_0 _ _ _ _ _ _ hx1 _ hp0 hbp1_0)) ?_
  rintro _ w1 ⟨rfl, Gw1⟩
  have z3 := Gw1.size
  refine sd_vv rfl rfl rfl (vv_geq (a := x1) (b := 0) rfl rfl) ?_
  refine sd_vv rfl rfl rfl (vv_assign rfl) ?_
  refine sd_done ?_
  refine sw_ret ?_
  have X4 : Gr w w1 := (Gr.trans (Gr.refl w) Gw1)
  have hr := Option.some.inj hm
  subst hr
  refine ⟨_, _, rfl, res_1 rfl (rv_tmp rfl), ?_⟩
  exact ⟨rfl, X4⟩

set_option maxHeartbeats 2000000 in
theorem poly_distinct_w (p0 : List TPoint) (vp0 : Value) (zp0 gp0 op0 : Nat) (r : Bool) (hm : poly_distinct p0 = some r) (w : World) (hp0 : Rd w zp0 gp0 op0 2 vp0 (p0.map TPoint.cs))  :
    Calls Try.prog 75 [vp0].toArray w fun e w' => ∃ v, e = .returned v ∧ (v = .bool r ∧ Gr w w') := by
  have lt1 := hp0.lth
  unfold poly_distinct at hm
  refine calls_of_sw (R := fun v w' => v = .bool r ∧ Gr w w') 18 Try.func75 rfl rfl rfl ?_
  refine sw_seq ?_
  -- region 0 poly.go:88
  refine sw_region [(0, 0)] rfl rfl rfl ?_
  refine sd_vv rfl rfl rfl (vv_assign rfl) ?_
  refine sd_done ?_
  refine sw_seq ?_
  refine sw_seq ?_
  -- region 1 poly.go:89
  refine sw_region [(0, 0), (1, 0), (2, 0)] rfl rfl rfl ?_
  refine sd_vv rfl rfl rfl (vv_move rfl) ?_
  refine sd_vv rfl rfl rfl (vv_lenT (l := p0) (c := TPoint.cs) Try.underlying43 rfl hp0) ?_
  refine sd_vv rfl rfl rfl (vv_move rfl) ?_
  refine sd_done ?_
  refine sw_block ?_
  refine sw_loopD (α := Nat × Int) [2, 3, 4, 7, 8, 9, 10, 11, 12, 13, 14, 15, 16, 17] (fun ⟨n1, a2⟩ => [(2, .bool false), (7, .int .i64 a2)]) (fun ⟨n1, a2⟩ wr => (fixN (poly_distinct_L1 p0) n1 a2 = some r) ∧ Kz [] w wr) (fun ⟨n1, a2⟩ => n1) ⟨FUEL, 0⟩ ?_ ?_ ?_
  · repeat' first | exact trivial | refine ⟨rfl, ?_⟩
  · exact ⟨hm, Kz.refl _ _⟩
  · clear hm; rintro ⟨n1, a2⟩ w1 ⟨hm, Kw1⟩
    have z2 := Kw1.size
    have hb := fix_succ hm; clear hm; obtain ⟨n1, rfl, hm⟩ := hb
    generalize hrec1 : fixN (poly_distinct_L1 p0) n1 = rec1 at hm
    unfold poly_distinct_L1 at hm
    try dsimp only at hm
    refine sw_seq ?_
    -- region 2 poly.go:89
    refine sw_region [(0, 0)] rfl rfl rfl ?_
    refine sd_vv rfl rfl rfl (vv_lss (a := a2) (b := (p0.length : Int)) rfl rfl) ?_
    refine sd_done ?_
    refine sw_seq ?_
    refine sw_cond rfl (fun c1 => ?_) (fun c1 => ?_)
    ·
      replace hm := ite_t (of_decide_eq_true c1) hm
      refine sw_skip ?_
      refine then_n ?_
      refine sw_seq ?_
      refine sw_block ?_
      refine sw_seq ?_
      -- region 3 poly.go:89
      refine sw_region [(0, 0), (1, 0), (2, 0), (3, 0), (4, 0), (5, 0)] rfl rfl rfl ?_
      refine sd_vv rfl rfl rfl (vv_move rfl) ?_
      have hb := bnd hm; clear hm; obtain ⟨y3, hy3, hm⟩ := hb
      have B3 := (Rd.kz hp0 Kw1)
      refine sd_vv rfl rfl rfl (vv_ixT (i := a2) Try.underlying43 (agg_31).siz rfl B3 rfl hy3) ?_
      refine sd_vv rfl rfl rfl (vv_elWT agg_31 rfl B3 hy3 (by first | rfl | omega)) ?_
      refine sd_ev rfl rfl rfl (ev_alloc (cs := TPoint.cs (TPoint.mk 0#64 0#64)) zv_31 rfl) ?_
      rintro _ w2 ⟨b2, rfl, hbw2, Bw2, Gw2⟩
      have z4 := Gw2.size
      have lt5 := Bw2.lt
      refine sd_vv rfl rfl rfl (vv_assign rfl) ?_
      refine sd_ev rfl rfl rfl (ev_stM (cs' := TPoint.cs y3) (vs := TPoint.cs y3) (agg_31).siz rfl rfl rfl rfl rfl Bw2 rfl rfl) ?_
      rintro _ w3 ⟨Bw3, Mw3⟩
      have z6 := Mw3.size
      refine sd_done ?_
      refine sw_seq ?_
      -- region 4 poly.go:90
      refine sw_region [(0, 0), (1, 0), (2, 0), (3, 0), (4, 0)] rfl rfl rfl ?_
      refine sd_vv rfl rfl rfl (vv_move rfl) ?_
      refine sd_vv rfl rfl rfl (vv_move rfl) ?_
      have hb := bnd hm; clear hm; obtain ⟨l4, hl4, hm⟩ := hb
      have B7 := (Rd.md (Rd.gr B3 Gw2) Mw3 (tk1 ((pv_lt (A := (fun x => x ≠ b2)) lt1) : zp0 = 0 ∨ gp0 ≠ b2)))
      refine sd_sli rfl rfl rfl (vv_sliT (P := Try.prog) (lo := 0) (hi := a2) (l := p0) (c := TPoint.cs) Try.underlying43 (agg_31).siz rfl B7 rfl ⟨_, rfl⟩ hl4) ?_
      rintro v8 o8 R8
      have lt9 := R8.lth
      refine sd_vv rfl rfl rfl (vv_makeFunc rfl rfl) ?_
      have hb := bnd hm; clear hm; obtain ⟨x5, hx5, hm⟩ := hb
      refine sd_ev rfl rfl rfl (ev_call en_89 rfl (slices_ContainsFunc_9e39_poly_distinct_1_w l4 y3 _ _ _ _ _ _ hx5 _ R8 Bw3)) ?_
      rintro _ w4 ⟨rfl, Gw4⟩
      have z10 := Gw4.size
      refine sd_done ?_
      refine sw_cond rfl (fun c2 => ?_) (fun c2 => ?_)
      ·
        replace hm := cnd_t c2 hm
        refine sw_seq ?_
        -- region 5 poly.go:91
        refine sw_region [(0, 0)] rfl rfl rfl ?_
        refine sd_vv rfl rfl rfl (vv_assign rfl) ?_
        refine sd_done ?_
        refine sw_ret ?_
        refine block_r ?_
        refine then_r ?_
        refine then_r ?_
        refine block_r ?_
        refine then_r ?_
        have X11 : Gr w w4 := (Gr.trans (Gr.md (Gr.trans (Gr.kz (Gr.refl w) Kw1) Gw2) Mw3) Gw4)
        have hr := Option.some.inj hm
        subst hr
        refine ⟨_, _, rfl, res_1 rfl (rv_tmp rfl), ?_⟩
        exact ⟨rfl, X11⟩
      ·
        replace hm := cnd_f c2 hm
        refine sw_skip ?_
        refine block_n ?_
        refine then_n ?_
        -- region 6 poly.go:89
        refine sw_region [(0, 0), (1, 0)] rfl rfl rfl ?_
        refine sd_vv rfl rfl rfl (vv_add (k := .i64) (a := a2) (b := 1) rfl rfl) ?_
        refine sd_vv rfl rfl rfl (vv_move rfl) ?_
        refine sd_nil ?_
        have K_12 : Kz [] w w4 := (Kz.gr (Kz.md (Kz.gr Kw1 Gw2) Mw3) Gw4)
        subst hrec1
        refine ⟨rfl, ⟨n1, w64 (a2 + 1)⟩, ?_, ⟨hm, K_12⟩, Nat.lt_succ_self _⟩
        repeat' first | exact trivial | refine ⟨rfl, ?_⟩
    ·
      replace hm := ite_f (of_decide_eq_false c1) hm
      refine sw_exit ?_
      refine then_x ?_
      refine then_x ?_
      refine block_x ?_
      refine then_n ?_
      refine sw_seq ?_
      -- region 7 poly.go:94
      refine sw_region [(0, 0)] rfl rfl rfl ?_
      refine sd_vv rfl rfl rfl (vv_assign rfl) ?_
      refine sd_done ?_
      refine sw_ret ?_
      have X13 : Gr w w1 := (Gr.kz (Gr.refl w) Kw1)
      have hr := Option.some.inj hm
      subst hr
      refine ⟨_, _, rfl, res_1 rfl (rv_tmp rfl), ?_⟩
      exact ⟨rfl, X13⟩

set_option maxHeartbeats 2000000 in
theorem ref04_minus_w (p0 : BitVec 64) (p1 : BitVec 64) (p2 : BitVec 64)  (r : BitVec 64) (hm : ref04_minus p0 p1 p2 = some r) (w : World)   :
    Calls Try.prog 126 [wv p0, wv p1, wv p2].toArray w fun e w' => ∃ v, e = .returned v ∧ (v = wv r ∧ Gr w w') := by
  unfold ref04_minus at hm
  refine calls_of_sw (R := fun v w' => v = wv r ∧ Gr w w') 16 Try.func126 rfl rfl rfl ?_
  refine sw_seq ?_
  -- region 0 ref.go:112
  refine sw_region [(0, 0)] rfl rfl rfl ?_
  refine sd_vv rfl rfl rfl (vv_assign rfl) ?_
  refine sd_done ?_
  refine sw_seq ?_
  -- region 1 ref.go:112
  refine sw_region [(0, 0), (1, 0), (2, 0), (3, 0), (4, 0), (5, 0), (6, 0), (7, 0), (8, 0), (9, 0)] rfl rfl rfl ?_
  refine sd_vv rfl rfl rfl (vv_move rfl) ?_
  refine sd_vv rfl rfl rfl (vv_move rfl) ?_
  refine sd_vv rfl rfl rfl (vv_uadd (a := p1) (b := p0) rfl rfl) ?_
  refine sd_vv rfl rfl rfl (vv_move rfl) ?_
  refine sd_vv rfl rfl rfl (vv_move rfl) ?_
  have hb := bnd hm; clear hm; obtain ⟨x1, hx1, hm⟩ := hb
  refine sd_vv rfl rfl rfl (vv_remU (c := p2) (d := p0) rfl rfl hx1) ?_
  refine sd_vv rfl rfl rfl (vv_usub (a := p1 + p0) (b := x1) rfl rfl) ?_
  refine sd_vv rfl rfl rfl (vv_move rfl) ?_
  have hb := bnd hm; clear hm; obtain ⟨x2, hx2, hm⟩ := hb
  refine sd_vv rfl rfl rfl (vv_remU (c := (p1 + p0) - x1) (d := p0) rfl rfl hx2) ?_
  refine sd_vv rfl rfl rfl (vv_assign rfl) ?_
  refine sd_done ?_
  refine sw_ret ?_
  have hr := Option.some.inj hm
  subst hr
  refine ⟨_, _, rfl, res_1 rfl (rv_tmp rfl), ?_⟩
  exact ⟨rfl, (Gr.refl w)⟩

set_option maxHeartbeats 2000000 in
theorem ref01_Inverse_w (p0 : BitVec 64) (p1 : BitVec 64)  (r : BitVec 64 × Bool) (hm : ref01_Inverse p0 p1 = some r) (w : World)   :
    Calls Try.prog 125 [wv p0, wv p1].toArray w fun e w' => ∃ v, e = .returned v ∧ (v = .tuple [wv r.1, .bool r.2].toArray ∧ Gr w w') := by
  unfold ref01_Inverse at hm
  refine calls_of_sw (R := fun v w' => v = .tuple [wv r.1, .bool r.2].toArray ∧ Gr w w') 45 Try.func125 rfl rfl rfl ?_
  refine sw_seq ?_
  -- region 0 ref.go:342
  refine sw_region [(0, 0), (1, 0)] rfl rfl rfl ?_
  refine sd_vv rfl rfl rfl (vv_assign rfl) ?_
  refine sd_vv rfl rfl rfl (vv_assign rfl) ?_
  refine sd_done ?_
  refine sw_seq ?_
  -- region 1 ref.go:343 DRAWS
  refine sw_drawN [([])] [] (.leaf [(0, 10), (1, 10), (2, 10), (3, 10), (4, 10), (5, 10), (6, 10)]) (by kernel_rfl) (by kernel_rfl) rfl (by kernel_rfl) ?_
  intro w1 Gw1 zw1
  refine sdz_leaf ?_
  refine dd_hn 0 rfl rfl rfl rfl (Kp.refl ([]) w1) (fun w hS => vv_move rfl) ?_
  refine dd_hn 0 rfl rfl rfl rfl (Kp.refl ([]) w1) (fun w hS => vv_move rfl) ?_
  have hb := bnd hm; clear hm; obtain ⟨x1, hx1, hm⟩ := hb
  refine dd_hn 0 rfl rfl rfl rfl (Kp.refl ([]) w1) (fun w hS => vv_remU (c := p0) (d := p1) rfl rfl hx1) ?_
  refine dd_hn 0 rfl rfl rfl rfl (Kp.refl ([]) w1) (fun w hS => vv_move rfl) ?_
  have hb := bnd hm; clear hm; obtain ⟨x2, hx2, hm⟩ := hb
  refine dd_hn 0 rfl rfl rfl rfl (Kp.refl ([]) w1) (fun w hS => vv_remU (c := 1#64) (d := p1) rfl rfl hx2) ?_
  refine dd_hn 0 rfl rfl rfl rfl (Kp.refl ([]) w1) (fun w hS => vv_assign rfl) ?_
  refine dd_hn 0 rfl rfl rfl rfl (Kp.refl ([]) w1) (fun w hS => vv_assign rfl) ?_
  refine sd_done ?_
  refine sw_seq ?_
  -- region 2 ref.go:344
  refine sw_region [(0, 0), (1, 0), (2, 0)] rfl rfl rfl ?_
  refine sd_vv rfl rfl rfl (vv_move rfl) ?_
  refine sd_vv rfl rfl rfl (vv_assign rfl) ?_
  refine sd_vv rfl rfl rfl (vv_assign rfl) ?_
  refine sd_done ?_
  refine sw_seq ?_
  refine sw_block ?_
  have X1 : Gr w w1 := (Gr.trans (Gr.refl w) Gw1)
  refine sw_loopD (α := Nat × BitVec 64 × BitVec 64 × BitVec 64 × BitVec 64) [6, 7, 8, 9, 10, 17, 18, 19, 20, 21, 22, 23, 24, 25, 26, 27, 28, 29, 30, 31, 32, 33, 34, 35, 36, 37, 38, 39, 40, 41] (fun ⟨n1, a7, a8, a9, a10⟩ => [(6, wv a7), (7, wv a8), (8, wv a9), (9, wv a10)]) (fun ⟨n1, a7, a8, a9, a10⟩ wr => (fixN (ref01_Inverse_L1 p1) n1 (a7, a8, a9, a10) = some r) ∧ Kz [] w1 wr) (fun ⟨n1, a7, a8, a9, a10⟩ => n1) ⟨FUEL, x1, x2, p1, 0#64⟩ ?_ ?_ ?_
  · repeat' first | exact trivial | refine ⟨rfl, ?_⟩
  · exact ⟨hm, Kz.refl _ _⟩
  · clear hm; rintro ⟨n1, a7, a8, a9, a10⟩ w2 ⟨hm, Kw2⟩
    have z2 := Kw2.size
    have hb := fix_succ hm; clear hm; obtain ⟨n1, rfl, hm⟩ := hb
    generalize hrec1 : fixN (ref01_Inverse_L1 p1) n1 = rec1 at hm
    unfold ref01_Inverse_L1 at hm
    try dsimp only at hm
    refine sw_seq ?_
    refine sw_seq ?_
    -- region 3 ref.go:345
    refine sw_region [(0, 0), (1, 0)] rfl rfl rfl ?_
    refine sd_vv rfl rfl rfl (vv_move rfl) ?_
    refine sd_vv rfl rfl rfl (vv_neqU (c := a9) (d := 0#64) rfl rfl) ?_
    refine sd_done ?_
    refine sw_cond rfl (fun c1 => ?_) (fun c1 => ?_)
    ·
      replace hm := ite_t (of_decide_eq_true c1) hm
      refine sw_skip ?_
      refine then_n ?_
      refine sw_block ?_
      refine sw_seq ?_
      -- region 4 ref.go:346
      refine sw_region [(0, 0), (1, 0), (2, 0), (3, 0)] rfl rfl rfl ?_
      refine sd_vv rfl rfl rfl (vv_move rfl) ?_
      refine sd_vv rfl rfl rfl (vv_move rfl) ?_
      have hb := bnd hm; clear hm; obtain ⟨x11, hx11, hm⟩ := hb
      refine sd_vv rfl rfl rfl (vv_quoU (c := a7) (d := a9) rfl rfl hx11) ?_
      refine sd_vv rfl rfl rfl (vv_assign rfl) ?_
      refine sd_done ?_
      refine sw_seq ?_
      -- region 5 ref.go:347
      refine sw_region [(0, 0), (1, 0), (2, 0), (3, 0), (4, 0), (5, 0), (6, 0), (7, 0)] rfl rfl rfl ?_
      refine sd_vv rfl rfl rfl (vv_move rfl) ?_
      refine sd_vv rfl rfl rfl (vv_move rfl) ?_
      refine sd_vv rfl rfl rfl (vv_move rfl) ?_
      refine sd_vv rfl rfl rfl (vv_move rfl) ?_
      refine sd_vv rfl rfl rfl (vv_umul (a := x11) (b := a9) rfl rfl) ?_
      refine sd_vv rfl rfl rfl (vv_usub (a := a7) (b := x11 * a9) rfl rfl) ?_
      refine sd_vv rfl rfl rfl (vv_assign rfl) ?_
      refine sd_vv rfl rfl rfl (vv_assign rfl) ?_
      refine sd_done ?_
      -- region 6 ref.go:348 DRAWS
      refine sw_drawN [([])] [] (.leaf [(0, 10), (1, 10), (2, 10), (3, 10), (4, 10), (5, 10), (6, 10), (7, 10), (8, 10), (9, 10), (10, 10), (11, 10), (12, 10), (13, 10), (14, 10), (15, 10)]) (by kernel_rfl) (by kernel_rfl) rfl (by kernel_rfl) ?_
      intro w3 Gw3 zw3
      refine sdz_leaf ?_
      refine dd_hn 0 rfl rfl rfl rfl (Kp.refl ([]) w3) (fun w hS => vv_move rfl) ?_
      refine dd_hn 0 rfl rfl rfl rfl (Kp.refl ([]) w3) (fun w hS => vv_move rfl) ?_
      refine dd_hn 0 rfl rfl rfl rfl (Kp.refl ([]) w3) (fun w hS => vv_move rfl) ?_
      refine dd_hn 0 rfl rfl rfl rfl (Kp.refl ([]) w3) (fun w hS => vv_move rfl) ?_
      refine dd_hn 0 rfl rfl rfl rfl (Kp.refl ([]) w3) (fun w hS => vv_move rfl) ?_
      have hb := bnd hm; clear hm; obtain ⟨x12, hx12, hm⟩ := hb
      refine dd_hn 0 rfl rfl rfl rfl (Kp.refl ([]) w3) (fun w hS => vv_remU (c := x11) (d := p1) rfl rfl hx12) ?_
      refine dd_hn 0 rfl rfl rfl rfl (Kp.refl ([]) w3) (fun w hS => vv_move rfl) ?_
      refine dd_hn 0 rfl rfl rfl rfl (Kp.refl ([]) w3) (fun w hS => vv_umul (a := x12) (b := a10) rfl rfl) ?_
      refine dd_hn 0 rfl rfl rfl rfl (Kp.refl ([]) w3) (fun w hS => vv_move rfl) ?_
      have hb := bnd hm; clear hm; obtain ⟨x13, hx13, hm⟩ := hb
      refine dd_hn 0 rfl rfl rfl rfl (Kp.refl ([]) w3) (fun w hS => vv_remU (c := x12 * a10) (d := p1) rfl rfl hx13) ?_
      refine dd_hn 0 rfl rfl rfl rfl (Kp.refl ([]) w3) (fun w hS => vv_usub (a := p1) (b := x13) rfl rfl) ?_
      refine dd_hn 0 rfl rfl rfl rfl (Kp.refl ([]) w3) (fun w hS => vv_uadd (a := a8) (b := p1 - x13) rfl rfl) ?_
      refine dd_hn 0 rfl rfl rfl rfl (Kp.refl ([]) w3) (fun w hS => vv_move rfl) ?_
      have hb := bnd hm; clear hm; obtain ⟨x14, hx14, hm⟩ := hb
      refine dd_hn 0 rfl rfl rfl rfl (Kp.refl ([]) w3) (fun w hS => vv_remU (c := a8 + (p1 - x13)) (d := p1) rfl rfl hx14) ?_
      refine dd_hn 0 rfl rfl rfl rfl (Kp.refl ([]) w3) (fun w hS => vv_assign rfl) ?_
      refine dd_hn 0 rfl rfl rfl rfl (Kp.refl ([]) w3) (fun w hS => vv_assign rfl) ?_
      refine sd_nil ?_
      refine block_n ?_
      have K_3 : Kz [] w1 w3 := (Kz.gr Kw2 Gw3)
      subst hrec1
      refine ⟨rfl, ⟨n1, a9, a10, a7 - (x11 * a9), x14⟩, ?_, ⟨hm, K_3⟩, Nat.lt_succ_self _⟩
      repeat' first | exact trivial | refine ⟨rfl, ?_⟩
    ·
      replace hm := ite_f (of_decide_eq_false c1) hm
      refine sw_exit ?_
      refine then_x ?_
      refine then_x ?_
      refine block_x ?_
      refine then_n ?_
      refine sw_seq ?_
      -- region 7 ref.go:350
      refine sw_region [(0, 0), (1, 0), (2, 0), (3, 0), (4, 0)] rfl rfl rfl ?_
      refine sd_vv rfl rfl rfl (vv_move rfl) ?_
      refine sd_vv rfl rfl rfl (vv_move rfl) ?_
      refine sd_vv rfl rfl rfl (vv_eqlU (c := a7) (d := 1#64) rfl rfl) ?_
      refine sd_vv rfl rfl rfl (vv_assign rfl) ?_
      refine sd_vv rfl rfl rfl (vv_assign rfl) ?_
      refine sd_done ?_
      refine sw_ret ?_
      have X4 : Gr w w2 := (Gr.kz X1 Kw2)
      have hr := Option.some.inj hm
      subst hr
      refine ⟨_, _, rfl, res_2 rfl (rv_tmp rfl) (rv_tmp rfl), ?_⟩
      exact ⟨rfl, X4⟩

set_option maxHeartbeats 2000000 in
theorem poly_field_sub_w (p0 : BitVec 64) (p1 : BitVec 64) (p2 : BitVec 64)  (r : BitVec 64) (hm : poly_field_sub p0 p1 p2 = some r) (w : World)   :
    Calls Try.prog 77 [wv p0, wv p1, wv p2].toArray w fun e w' => ∃ v, e = .returned v ∧ (v = wv r ∧ Gr w w') := by
  unfold poly_field_sub at hm
  refine calls_of_sw (R := fun v w' => v = wv r ∧ Gr w w') 14 Try.func77 rfl rfl rfl ?_
  refine sw_seq ?_
  -- region 0 poly.go:16
  refine sw_region [(0, 0)] rfl rfl rfl ?_
  refine sd_vv rfl rfl rfl (vv_assign rfl) ?_
  refine sd_done ?_
  refine sw_seq ?_
  -- region 1 poly.go:16
  refine sw_region [(0, 0), (1, 0), (2, 0), (3, 0), (4, 0), (5, 0), (6, 0), (7, 0)] rfl rfl rfl ?_
  refine sd_vv rfl rfl rfl (vv_move rfl) ?_
  refine sd_vv rfl rfl rfl (vv_move rfl) ?_
  refine sd_vv rfl rfl rfl (vv_uadd (a := p1) (b := p0) rfl rfl) ?_
  refine sd_vv rfl rfl rfl (vv_move rfl) ?_
  refine sd_vv rfl rfl rfl (vv_usub (a := p1 + p0) (b := p2) rfl rfl) ?_
  refine sd_vv rfl rfl rfl (vv_move rfl) ?_
  have hb := bnd hm; clear hm; obtain ⟨x1, hx1, hm⟩ := hb
  refine sd_vv rfl rfl rfl (vv_remU (c := (p1 + p0) - p2) (d := p0) rfl rfl hx1) ?_
  refine sd_vv rfl rfl rfl (vv_assign rfl) ?_
  refine sd_done ?_
  refine sw_ret ?_
  have hr := Option.some.inj hm
  subst hr
  refine ⟨_, _, rfl, res_1 rfl (rv_tmp rfl), ?_⟩
  exact ⟨rfl, (Gr.refl w)⟩

set_option maxHeartbeats 2000000 in
theorem number_InvMod_w (p0 : BitVec 64) (p1 : BitVec 64)  (r : BitVec 64 × Int) (hm : number_InvMod p0 p1 = some r) (w : World)   :
    Calls Try.prog 123 [wv p0, wv p1].toArray w fun e w' => ∃ v, e = .returned v ∧ (v = .tuple [wv r.1, .int .i64 r.2].toArray ∧ Gr w w') := by
  unfold number_InvMod at hm
  refine calls_of_sw (R := fun v w' => v = .tuple [wv r.1, .int .i64 r.2].toArray ∧ Gr w w') 50 Try.func123 rfl rfl rfl ?_
  refine sw_seq ?_
  -- region 0 modular.go:29
  refine sw_region [(0, 0), (1, 0)] rfl rfl rfl ?_
  refine sd_vv rfl rfl rfl (vv_assign rfl) ?_
  refine sd_vv rfl rfl rfl (vv_assign rfl) ?_
  refine sd_done ?_
  refine sw_seq ?_
  refine sw_seq ?_
  -- region 1 modular.go:30
  refine sw_region [(0, 0), (1, 0), (2, 0)] rfl rfl rfl ?_
  refine sd_vv rfl rfl rfl (vv_move rfl) ?_
  have hb := bnd hm; clear hm; obtain ⟨x1, hx1, hm⟩ := hb
  refine sd_ev rfl rfl rfl (ev_call en_111 rfl (number_modulus_w p1 _ hx1 _)) ?_
  rintro _ w1 ⟨rfl, Gw1⟩
  have z1 := Gw1.size
  refine sd_vv rfl rfl rfl (vv_not rfl) ?_
  refine sd_done ?_
  refine sw_cond rfl (fun c1 => ?_) (fun c1 => ?_)
  ·
    replace hm := cnd_t c1 hm
    refine sw_seq ?_
    -- region 2 modular.go:31
    refine sw_region [(0, 0), (1, 0)] rfl rfl rfl ?_
    refine sd_vv rfl rfl rfl (vv_assign rfl) ?_
    refine sd_vv rfl rfl rfl (vv_assign rfl) ?_
    refine sd_done ?_
    refine sw_ret ?_
    refine then_r ?_
    have X2 : Gr w w1 := (Gr.trans (Gr.refl w) Gw1)
    have hr := Option.some.inj hm
    subst hr
    refine ⟨_, _, rfl, res_2 rfl (rv_tmp rfl) (rv_tmp rfl), ?_⟩
    exact ⟨rfl, X2⟩
  ·
    replace hm := cnd_f c1 hm
    refine sw_skip ?_
    refine then_n ?_
    refine sw_seq ?_
    -- region 3 modular.go:33 DRAWS
    refine sw_drawN [([])] [] (.leaf [(0, 10), (1, 10), (2, 10), (3, 10), (4, 10), (5, 10), (6, 10), (7, 10)]) (by kernel_rfl) (by kernel_rfl) rfl (by kernel_rfl) ?_
    intro w2 Gw2 zw2
    refine sdz_leaf ?_
    refine dd_hn 0 rfl rfl rfl rfl (Kp.refl ([]) w2) (fun w hS => vv_move rfl) ?_
    refine dd_hn 0 rfl rfl rfl rfl (Kp.refl ([]) w2) (fun w hS => vv_cvUI cv_24_2 rfl) ?_
    refine dd_hn 0 rfl rfl rfl rfl (Kp.refl ([]) w2) (fun w hS => vv_move rfl) ?_
    refine dd_hn 0 rfl rfl rfl rfl (Kp.refl ([]) w2) (fun w hS => vv_move rfl) ?_
    have hb := bnd hm; clear hm; obtain ⟨x2, hx2, hm⟩ := hb
    refine dd_hn 0 rfl rfl rfl rfl (Kp.refl ([]) w2) (fun w hS => vv_remU (c := p0) (d := p1) rfl rfl hx2) ?_
    refine dd_hn 0 rfl rfl rfl rfl (Kp.refl ([]) w2) (fun w hS => vv_cvUI cv_24_2 rfl) ?_
    refine dd_hn 0 rfl rfl rfl rfl (Kp.refl ([]) w2) (fun w hS => vv_assign rfl) ?_
    refine dd_hn 0 rfl rfl rfl rfl (Kp.refl ([]) w2) (fun w hS => vv_assign rfl) ?_
    refine sd_done ?_
    refine sw_seq ?_
    -- region 4 modular.go:34
    refine sw_region [(0, 0), (1, 0)] rfl rfl rfl ?_
    refine sd_vv rfl rfl rfl (vv_assign rfl) ?_
    refine sd_vv rfl rfl rfl (vv_assign rfl) ?_
    refine sd_done ?_
    refine sw_seq ?_
    refine sw_block ?_
    have X3 : Gr w w2 := (Gr.trans (Gr.trans (Gr.refl w) Gw1) Gw2)
    refine sw_loopD (α := Nat × Int × Int × Int × Int) [6, 7, 8, 9, 10, 20, 21, 22, 23, 24, 25, 26, 27, 28, 29, 30, 31, 32, 33, 34, 35, 36] (fun ⟨n1, a7, a8, a9, a10⟩ => [(6, .int .i64 a7), (7, .int .i64 a8), (8, .int .i64 a9), (9, .int .i64 a10)]) (fun ⟨n1, a7, a8, a9, a10⟩ wr => (fixN (number_InvMod_L1 p1) n1 (a7, a8, a9, a10) = some r) ∧ Kz [] w2 wr) (fun ⟨n1, a7, a8, a9, a10⟩ => n1) ⟨FUEL, w64 (un p1), w64 (un x2), 0, 1⟩ ?_ ?_ ?_
    · repeat' first | exact trivial | refine ⟨rfl, ?_⟩
    · exact ⟨hm, Kz.refl _ _⟩
    · clear hm; rintro ⟨n1, a7, a8, a9, a10⟩ w3 ⟨hm, Kw3⟩
      have z4 := Kw3.size
      have hb := fix_succ hm; clear hm; obtain ⟨n1, rfl, hm⟩ := hb
      generalize hrec1 : fixN (number_InvMod_L1 p1) n1 = rec1 at hm
      unfold number_InvMod_L1 at hm
      try dsimp only at hm
      refine sw_seq ?_
      refine sw_seq ?_
      -- region 5 modular.go:35
      refine sw_region [(0, 0), (1, 0)] rfl rfl rfl ?_
      refine sd_vv rfl rfl rfl (vv_move rfl) ?_
      refine sd_vv rfl rfl rfl (vv_neq (a := a8) (b := 0) rfl rfl) ?_
      refine sd_done ?_
      refine sw_cond rfl (fun c2 => ?_) (fun c2 => ?_)
      ·
        replace hm := ite_t (of_decide_eq_true c2) hm
        refine sw_skip ?_
        refine then_n ?_
        refine sw_block ?_
        refine sw_seq ?_
        -- region 6 modular.go:36
        refine sw_region [(0, 0), (1, 0), (2, 0), (3, 0)] rfl rfl rfl ?_
        refine sd_vv rfl rfl rfl (vv_move rfl) ?_
        refine sd_vv rfl rfl rfl (vv_move rfl) ?_
        have hb := bnd hm; clear hm; obtain ⟨x11, hx11, hm⟩ := hb
        refine sd_vv rfl rfl rfl (vv_quoI (a := a7) (b := a8) rfl rfl hx11) ?_
        refine sd_vv rfl rfl rfl (vv_assign rfl) ?_
        refine sd_done ?_
        refine sw_seq ?_
        -- region 7 modular.go:37
        refine sw_region [(0, 0), (1, 0), (2, 0), (3, 0), (4, 0), (5, 0), (6, 0), (7, 0)] rfl rfl rfl ?_
        refine sd_vv rfl rfl rfl (vv_move rfl) ?_
        refine sd_vv rfl rfl rfl (vv_move rfl) ?_
        refine sd_vv rfl rfl rfl (vv_move rfl) ?_
        refine sd_vv rfl rfl rfl (vv_move rfl) ?_
        refine sd_vv rfl rfl rfl (vv_mul (k := .i64) (a := x11) (b := a8) rfl rfl) ?_
        refine sd_vv rfl rfl rfl (vv_sub (k := .i64) (a := a7) (b := w64 (x11 * a8)) rfl rfl) ?_
        refine sd_vv rfl rfl rfl (vv_assign rfl) ?_
        refine sd_vv rfl rfl rfl (vv_assign rfl) ?_
        refine sd_done ?_
        -- region 8 modular.go:38
        refine sw_region [(0, 0), (1, 0), (2, 0), (3, 0), (4, 0), (5, 0), (6, 0), (7, 0)] rfl rfl rfl ?_
        refine sd_vv rfl rfl rfl (vv_move rfl) ?_
        refine sd_vv rfl rfl rfl (vv_move rfl) ?_
        refine sd_vv rfl rfl rfl (vv_move rfl) ?_
        refine sd_vv rfl rfl rfl (vv_move rfl) ?_
        refine sd_vv rfl rfl rfl (vv_mul (k := .i64) (a := x11) (b := a10) rfl rfl) ?_
        refine sd_vv rfl rfl rfl (vv_sub (k := .i64) (a := a9) (b := w64 (x11 * a10)) rfl rfl) ?_
        refine sd_vv rfl rfl rfl (vv_assign rfl) ?_
        refine sd_vv rfl rfl rfl (vv_assign rfl) ?_
        refine sd_nil ?_
        refine block_n ?_
        have K_5 : Kz [] w2 w3 := Kw3
        subst hrec1
        refine ⟨rfl, ⟨n1, a8, w64 (a7 - (w64 (x11 * a8))), a10, w64 (a9 - (w64 (x11 * a10)))⟩, ?_, ⟨hm, K_5⟩, Nat.lt_succ_self _⟩
        repeat' first | exact trivial | refine ⟨rfl, ?_⟩
      ·
        replace hm := ite_f (of_decide_eq_false c2) hm
        refine sw_exit ?_
        refine then_x ?_
        refine then_x ?_
        refine block_x ?_
        refine then_n ?_
        refine sw_seq ?_
        refine sw_seq ?_
        -- region 9 modular.go:40
        refine sw_region [(0, 0), (1, 0)] rfl rfl rfl ?_
        refine sd_vv rfl rfl rfl (vv_move rfl) ?_
        refine sd_vv rfl rfl rfl (vv_neq (a := a7) (b := 1) rfl rfl) ?_
        refine sd_done ?_
        refine sw_cond rfl (fun c3 => ?_) (fun c3 => ?_)
        ·
          replace hm := ite_t (of_decide_eq_true c3) hm
          refine sw_seq ?_
          -- region 10 modular.go:41
          refine sw_region [(0, 0), (1, 0)] rfl rfl rfl ?_
          refine sd_vv rfl rfl rfl (vv_assign rfl) ?_
          refine sd_vv rfl rfl rfl (vv_assign rfl) ?_
          refine sd_done ?_
          refine sw_ret ?_
          refine then_r ?_
          have X6 : Gr w w3 := (Gr.kz X3 Kw3)
          have hr := Option.some.inj hm
          subst hr
          refine ⟨_, _, rfl, res_2 rfl (rv_tmp rfl) (rv_tmp rfl), ?_⟩
          exact ⟨rfl, X6⟩
        ·
          replace hm := ite_f (of_decide_eq_false c3) hm
          refine sw_skip ?_
          refine then_n ?_
          refine sw_seq ?_
          -- region 11 modular.go:43
          refine sw_region [(0, 0), (1, 0), (2, 0), (3, 0), (4, 0), (5, 0), (6, 0), (7, 0), (8, 0), (9, 0), (10, 0), (11, 0), (12, 0)] rfl rfl rfl ?_
          refine sd_vv rfl rfl rfl (vv_move rfl) ?_
          refine sd_vv rfl rfl rfl (vv_move rfl) ?_
          refine sd_vv rfl rfl rfl (vv_cvUI cv_24_2 rfl) ?_
          have hb := bnd hm; clear hm; obtain ⟨x12, hx12, hm⟩ := hb
          refine sd_vv rfl rfl rfl (vv_remI (a := a9) (b := w64 (un p1)) rfl rfl hx12) ?_
          refine sd_vv rfl rfl rfl (vv_move rfl) ?_
          refine sd_vv rfl rfl rfl (vv_cvUI cv_24_2 rfl) ?_
          refine sd_vv rfl rfl rfl (vv_add (k := .i64) (a := x12) (b := w64 (un p1)) rfl rfl) ?_
          refine sd_vv rfl rfl rfl (vv_move rfl) ?_
          refine sd_vv rfl rfl rfl (vv_cvUI cv_24_2 rfl) ?_
          have hb := bnd hm; clear hm; obtain ⟨x13, hx13, hm⟩ := hb
          refine sd_vv rfl rfl rfl (vv_remI (a := w64 (x12 + (w64 (un p1)))) (b := w64 (un p1)) rfl rfl hx13) ?_
          refine sd_vv rfl rfl rfl (vv_cvIU cv_2_24 rfl) ?_
          refine sd_vv rfl rfl rfl (vv_assign rfl) ?_
          refine sd_vv rfl rfl rfl (vv_assign rfl) ?_
          refine sd_done ?_
          refine sw_ret ?_
          have X7 : Gr w w3 := (Gr.kz X3 Kw3)
          have hr := Option.some.inj hm
          subst hr
          refine ⟨_, _, rfl, res_2 rfl (rv_tmp rfl) (rv_tmp rfl), ?_⟩
          exact ⟨rfl, X7⟩

set_option maxHeartbeats 2000000 in
theorem poly_field_div_w (p0 : BitVec 64) (p1 : BitVec 64) (p2 : BitVec 64)  (r : BitVec 64) (hm : poly_field_div p0 p1 p2 = some r) (w : World)   :
    Calls Try.prog 78 [wv p0, wv p1, wv p2].toArray w fun e w' => ∃ v, e = .returned v ∧ (v = wv r ∧ Gr w w') := by
  unfold poly_field_div at hm
  refine calls_of_sw (R := fun v w' => v = wv r ∧ Gr w w') 20 Try.func78 rfl rfl rfl ?_
  refine sw_seq ?_
  -- region 0 poly.go:28
  refine sw_region [(0, 0)] rfl rfl rfl ?_
  refine sd_vv rfl rfl rfl (vv_assign rfl) ?_
  refine sd_done ?_
  refine sw_seq ?_
  -- region 1 poly.go:29
  refine sw_region [(0, 0), (1, 0), (2, 0), (3, 0), (4, 0), (5, 0), (6, 0), (7, 0)] rfl rfl rfl ?_
  refine sd_vv rfl rfl rfl (vv_move rfl) ?_
  refine sd_vv rfl rfl rfl (vv_move rfl) ?_
  have hb := bnd hm; clear hm; obtain ⟨x1, hx1, hm⟩ := hb
  refine sd_ev rfl rfl rfl (ev_call en_123 rfl (number_InvMod_w p2 p0 _ hx1 _)) ?_
  rintro _ w1 ⟨rfl, Gw1⟩
  have z1 := Gw1.size
  refine sd_vv rfl rfl rfl (vv_move rfl) ?_
  refine sd_vv rfl rfl rfl (vv_extract rfl rfl) ?_
  refine sd_vv rfl rfl rfl (vv_extract rfl rfl) ?_
  refine sd_vv rfl rfl rfl (vv_assign rfl) ?_
  refine sd_vv rfl rfl rfl (vv_assign rfl) ?_
  refine sd_done ?_
  refine sw_seq ?_
  -- region 2 poly.go:30
  refine sw_region [(0, 0), (1, 0), (2, 0), (3, 0), (4, 0), (5, 0)] rfl rfl rfl ?_
  refine sd_vv rfl rfl rfl (vv_move rfl) ?_
  refine sd_vv rfl rfl rfl (vv_move rfl) ?_
  refine sd_vv rfl rfl rfl (vv_move rfl) ?_
  refine sd_ev rfl rfl rfl (ev_litT [p1, x1.1] uwc bsl_60_2 rfl rfl (ws_of rfl) rfl rfl rfl) ?_
  rintro vw2 w2 ⟨gw2, hbw2, Ow2, Gw2⟩
  have z2 := Gw2.size
  have lt3 := Ow2.lth
  have hb := bnd hm; clear hm; obtain ⟨x2, hx2, hm⟩ := hb
  refine sd_ev rfl rfl rfl (ev_call en_76 rfl (poly_field_mul_w p0 [p1, x1.1] _ _ _ _ _ hx2 _ (Own.rd Ow2))) ?_
  rintro _ w3 ⟨rfl, Gw3⟩
  have z4 := Gw3.size
  refine sd_vv rfl rfl rfl (vv_assign rfl) ?_
  refine sd_done ?_
  refine sw_ret ?_
  have X5 : Gr w w3 := (Gr.trans (Gr.trans (Gr.trans (Gr.refl w) Gw1) Gw2) Gw3)
  have hr := Option.some.inj hm
  subst hr
  refine ⟨_, _, rfl, res_1 rfl (rv_tmp rfl), ?_⟩
  exact ⟨rfl, X5⟩
end Go.Proofs.Ytkdghilkigojgaa.Mx
