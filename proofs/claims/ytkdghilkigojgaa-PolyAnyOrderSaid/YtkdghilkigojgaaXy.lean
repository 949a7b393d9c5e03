/- Walks that follow mirrors: Xy. Printed by mx.py. -/
import Derived.Test.YtkdghilkigojgaaMirJ
import Derived.Test.YtkdghilkigojgaaXz
import Derived.Test.YtkdghilkigojgaaXyM
set_option linter.unusedVariables false
set_option linter.unusedSimpArgs false
set_option maxRecDepth 100000
namespace Go.Proofs.Ytkdghilkigojgaa.Mx
open Go Go.RowKit Go.Sx
theorem zv_45 : ZV Try.prog 45 (.agg [.slice none 0 0, .int .u64 0, .slice none 0 0, .int .u8 0, .int .u8 0, .int .u8 0, .int .u8 0, .int .u8 0, .int .u8 0, .int .u8 0, .int .u8 0, .int .u8 0, .int .u8 0, .int .u8 0, .int .u8 0, .int .u8 0, .int .u8 0, .int .u8 0, .int .u8 0, .int .u8 0, .int .u8 0, .int .u8 0, .int .u8 0, .int .u8 0, .int .u8 0, .int .u8 0, .int .u8 0, .int .u8 0, .int .u8 0, .int .u8 0, .int .u8 0, .int .u8 0, .int .u8 0, .int .u8 0, .int .u8 0].toArray) := fun _ => by kernel_rfl
theorem one_42 : One Try.prog 42 := fun _ => ⟨by kernel_rfl, by kernel_rfl⟩
theorem bs_45 : BS Try.prog 45 (fun i => [(0, 1), (1, 1), (2, 1), (3, 16), (19, 16)][i]?) [.slice none 0 0, .int .u64 0, .slice none 0 0, .int .u8 0, .int .u8 0, .int .u8 0, .int .u8 0, .int .u8 0, .int .u8 0, .int .u8 0, .int .u8 0, .int .u8 0, .int .u8 0, .int .u8 0, .int .u8 0, .int .u8 0, .int .u8 0, .int .u8 0, .int .u8 0, .int .u8 0, .int .u8 0, .int .u8 0, .int .u8 0, .int .u8 0, .int .u8 0, .int .u8 0, .int .u8 0, .int .u8 0, .int .u8 0, .int .u8 0, .int .u8 0, .int .u8 0, .int .u8 0, .int .u8 0, .int .u8 0] := bs_mk Try.underlying45 zv_45 ⟨rfl, (one_42).siz, rfl, (one_24).siz, rfl, (one_43).siz, rfl, (agg_23).siz, rfl, (agg_23).siz, trivial⟩
theorem agg_45 : Agg Try.prog 45 35 := fun _ => ⟨by kernel_rfl, by kernel_rfl⟩
theorem en_61 : En Try.prog 61 := fun _ _ => by kernel_rfl
theorem en_69 : En Try.prog 69 := fun _ _ => by kernel_rfl
theorem zv_124 : ZV Try.prog 124 (.nilFunc) := fun _ => by kernel_rfl
theorem one_124 : One Try.prog 124 := fun _ => ⟨by kernel_rfl, by kernel_rfl⟩
theorem en_71 : En Try.prog 71 := fun _ _ => by kernel_rfl
theorem fa_45_1 : FA Try.prog 45 1 1 := fun _ _ _ => by kernel_rfl
theorem fa_45_2 : FA Try.prog 45 2 2 := fun _ _ _ => by kernel_rfl
theorem en_70 : En Try.prog 70 := fun _ _ => by kernel_rfl
theorem bsl_43_1 : BSl Try.prog 43 1 31 2 [.int .u64 0, .int .u64 0] := bsl_mk Try.underlying43 (agg_31).siz zv_31 rfl rfl (by kernel_rfl)
theorem apt_43 : ApT Try.prog 43 31 2 16 := apt_mk Try.underlying43 rfl (by kernel_rfl)
theorem bz_23 : BZ Try.prog 23 (kv k0) := fun _ => by kernel_rfl
theorem en_72 : En Try.prog 72 := fun _ _ => by kernel_rfl
theorem en_62 : En Try.prog 62 := fun _ _ => by kernel_rfl
theorem fa_45_3 : FA Try.prog 45 3 3 := fun _ _ _ => by kernel_rfl
theorem fa_45_0 : FA Try.prog 45 0 0 := fun _ _ _ => by kernel_rfl
theorem bsl_43_0 : BSl Try.prog 43 0 31 2 [] := bsl_nil Try.underlying43 (agg_31).siz
theorem fa_33_2 : FA Try.prog 33 2 2 := fun _ _ _ => by kernel_rfl
theorem en_121 : En Try.prog 121 := fun _ _ => by kernel_rfl
theorem en_74 : En Try.prog 74 := fun _ _ => by kernel_rfl
theorem en_79 : En Try.prog 79 := fun _ _ => by kernel_rfl
theorem fa_45_4 : FA Try.prog 45 4 19 := fun _ _ _ => by kernel_rfl
theorem eqc_5 : EqC Try.prog 1 5 [.u8] := eqc_int Try.underlying5 one_5
theorem eqc_23 : EqC Try.prog 2 23 [.u8, .u8, .u8, .u8, .u8, .u8, .u8, .u8, .u8, .u8, .u8, .u8, .u8, .u8, .u8, .u8] := eqc_array (ks := [.u8]) Try.underlying23 (infoE (by kernel_rfl)).choose_spec (by kernel_rfl) agg_23 eqc_5
theorem eqt_23 : EqT Try.prog 23 [.u8, .u8, .u8, .u8, .u8, .u8, .u8, .u8, .u8, .u8, .u8, .u8, .u8, .u8, .u8, .u8] := ⟨by kernel_rfl, agg_23, 2, by decide, eqc_23⟩

set_option maxHeartbeats 2000000 in
theorem number_PowMod_w (p0 : BitVec 64) (p1 : BitVec 64) (p2 : BitVec 64)  (r : BitVec 64 × Int) (hm : number_PowMod p0 p1 p2 = some r) (w : World)   :
    Calls Try.prog 61 [wv p0, wv p1, wv p2].toArray w fun e w' => ∃ v, e = .returned v ∧ (v = .tuple [wv r.1, .int .i64 r.2].toArray ∧ Gr w w') := by
  unfold number_PowMod at hm
  refine calls_of_sw (R := fun v w' => v = .tuple [wv r.1, .int .i64 r.2].toArray ∧ Gr w w') 15 Try.func61 rfl rfl rfl ?_
  refine sw_seq ?_
  -- region 0 modular.go:21
  refine sw_region [(0, 0), (1, 0)] rfl rfl rfl ?_
  refine sd_vv rfl rfl rfl (vv_assign rfl) ?_
  refine sd_vv rfl rfl rfl (vv_assign rfl) ?_
  refine sd_done ?_
  refine sw_seq ?_
  refine sw_seq ?_
  -- region 1 modular.go:22
  refine sw_region [(0, 0), (1, 0), (2, 0)] rfl rfl rfl ?_
  refine sd_vv rfl rfl rfl (vv_move rfl) ?_
  have hb := bnd hm; clear hm; obtain ⟨x1, hx1, hm⟩ := hb
  refine sd_ev rfl rfl rfl (ev_call en_111 rfl (number_modulus_w p2 _ hx1 _)) ?_
  rintro _ w1 ⟨rfl, Gw1⟩
  have z1 := Gw1.size
  refine sd_vv rfl rfl rfl (vv_not rfl) ?_
  refine sd_done ?_
  refine sw_cond rfl (fun c1 => ?_) (fun c1 => ?_)
  ·
    replace hm := cnd_t c1 hm
    refine sw_seq ?_
    -- region 2 modular.go:23
    refine sw_region [(0, 0), (1, 0)] rfl rfl rfl ?_
    refine sd_vv rfl rfl rfl (vv_assign rfl) ?_
    refine sd_vv rfl rfl rfl (vv_assign rfl) ?_
    refine sd_done ?_
    refine sw_ret ?_
    refine then_r ?_
    have X2 : Gr w w1 := (Gr.trans (Gr.refl w) Gw1)
    have hr := Option.some.inj hm
    subst hr
    refine ⟨_, _, rfl, res_2 rfl (rv_tmp rfl) (rv_tmp rfl), ?_⟩
    exact ⟨rfl, X2⟩
  ·
    replace hm := cnd_f c1 hm
    refine sw_skip ?_
    refine then_n ?_
    refine sw_seq ?_
    -- region 3 modular.go:25
    refine sw_region [(0, 0), (1, 0), (2, 0), (3, 0), (4, 0), (5, 0)] rfl rfl rfl ?_
    refine sd_vv rfl rfl rfl (vv_move rfl) ?_
    refine sd_vv rfl rfl rfl (vv_move rfl) ?_
    refine sd_vv rfl rfl rfl (vv_move rfl) ?_
    have hb := bnd hm; clear hm; obtain ⟨x2, hx2, hm⟩ := hb
    refine sd_ev rfl rfl rfl (ev_call en_112 rfl (number_power_w p0 p1 p2 _ hx2 _)) ?_
    rintro _ w2 ⟨rfl, Gw2⟩
    have z3 := Gw2.size
    refine sd_vv rfl rfl rfl (vv_assign rfl) ?_
    refine sd_vv rfl rfl rfl (vv_assign rfl) ?_
    refine sd_done ?_
    refine sw_ret ?_
    have X4 : Gr w w2 := (Gr.trans (Gr.trans (Gr.refl w) Gw1) Gw2)
    have hr := Option.some.inj hm
    subst hr
    refine ⟨_, _, rfl, res_2 rfl (rv_tmp rfl) (rv_tmp rfl), ?_⟩
    exact ⟨rfl, X4⟩

set_option maxHeartbeats 2000000 in
theorem poly_power_w (p0 : TScheme) (p1 : BitVec 64) (p2 : BitVec 64)  (r : BitVec 64) (hm : poly_power p0 p1 p2 = some r) (w : World)   :
    Calls Try.prog 69 [.agg (TScheme.cs p0).toArray, wv p1, wv p2].toArray w fun e w' => ∃ v, e = .returned v ∧ (v = wv r ∧ Gr w w') := by
  unfold poly_power at hm
  refine calls_of_sw (R := fun v w' => v = wv r ∧ Gr w w') 19 Try.func69 rfl rfl rfl ?_
  refine sw_seq ?_
  -- region 0 poly.go:139
  refine sw_region [(0, 0), (1, 0)] rfl rfl rfl ?_
  refine sd_ev rfl rfl rfl (ev_box (cs := TScheme.cs p0) rfl rfl) ?_
  rintro _ w1 ⟨b1, rfl, hbw1, Bw1, Gw1⟩
  have z1 := Gw1.size
  have lt2 := Bw1.lt
  refine sd_vv rfl rfl rfl (vv_assign rfl) ?_
  refine sd_done ?_
  refine sw_seq ?_
  -- region 1 poly.go:140
  refine sw_region [(0, 0), (1, 0), (2, 0), (3, 0), (4, 0), (5, 0), (6, 0), (7, 0), (8, 0), (9, 0), (10, 0)] rfl rfl rfl ?_
  refine sd_vv rfl rfl rfl (vv_move rfl) ?_
  refine sd_vv rfl rfl rfl (vv_move rfl) ?_
  refine sd_vv rfl rfl rfl (vv_fieldAddr fa_28_3 rfl) ?_
  refine sd_vv rfl rfl rfl (vv_fieldAddr fa_26_0 rfl) ?_
  refine sd_vv rfl rfl rfl (vv_load1 (v := wv p0.Group.P) one_24 rfl Bw1 rfl) ?_
  have hb := bnd hm; clear hm; obtain ⟨x1, hx1, hm⟩ := hb
  refine sd_ev rfl rfl rfl (ev_call en_61 rfl (number_PowMod_w p1 p2 p0.Group.P _ hx1 _)) ?_
  rintro _ w2 ⟨rfl, Gw2⟩
  have z3 := Gw2.size
  refine sd_vv rfl rfl rfl (vv_move rfl) ?_
  refine sd_vv rfl rfl rfl (vv_extract rfl rfl) ?_
  refine sd_vv rfl rfl rfl (vv_extract rfl rfl) ?_
  refine sd_vv rfl rfl rfl (vv_assign rfl) ?_
  refine sd_vv rfl rfl rfl (vv_assign rfl) ?_
  refine sd_done ?_
  refine sw_seq ?_
  -- region 2 poly.go:141
  refine sw_region [(0, 0), (1, 0)] rfl rfl rfl ?_
  refine sd_vv rfl rfl rfl (vv_move rfl) ?_
  refine sd_vv rfl rfl rfl (vv_assign rfl) ?_
  refine sd_done ?_
  refine sw_ret ?_
  have X4 : Gr w w2 := (Gr.trans (Gr.trans (Gr.refl w) Gw1) Gw2)
  have hr := Option.some.inj hm
  subst hr
  refine ⟨_, _, rfl, res_1 rfl (rv_tmp rfl), ?_⟩
  exact ⟨rfl, X4⟩

set_option maxHeartbeats 2000000 in
theorem poly_Seal_1_w (p0 : BitVec 64) (p1 : TScheme) (p2 : THeader) (p3 : List (BitVec 64)) (p4 : BitVec 64) (bp1 : Nat) (bp2 : Nat) (vp2_0 : Value) (zp2_0 gp2_0 op2_0 : Nat) (vp2_2 : Value) (zp2_2 gp2_2 op2_2 : Nat) (bp3 : Nat) (vp3_0 : Value) (zp3_0 gp3_0 op3_0 : Nat) (bp4 : Nat) (r : BitVec 64) (hm : poly_Seal_1 p0 p1 p2 p3 p4 = some r) (w : World) (hbp1 : Bx w bp1 28 (TScheme.cs p1)) (hbp2 : Bx w bp2 45 (THeader.cs p2 vp2_0 vp2_2)) (hp2_0 : Rd w zp2_0 gp2_0 op2_0 18 vp2_0 (p2.Items.map TItem.cs)) (hp2_2 : Rd w zp2_2 gp2_2 op2_2 2 vp2_2 (p2.Points.map TPoint.cs)) (hbp3 : Bx w bp3 116 ([vp3_0])) (hp3_0 : Rd w zp3_0 gp3_0 op3_0 1 vp3_0 (p3.map uwc)) (hbp4 : Bx w bp4 119 ([wv p4]))  :
    Calls Try.prog 70 [wv p0, .pointer (some ⟨bp1, 0, none⟩), .pointer (some ⟨bp2, 0, none⟩), .pointer (some ⟨bp3, 0, none⟩), .pointer (some ⟨bp4, 0, none⟩)].toArray w fun e w' => ∃ v, e = .returned v ∧ (v = wv r ∧ Gr w w') := by
  have lt1 := hbp1.lt
  have lt2 := hp2_0.lth
  have lt3 := hp2_2.lth
  have lt4 := hbp2.lt
  have lt5 := hp3_0.lth
  have lt6 := hbp3.lt
  have lt7 := hbp4.lt
  unfold poly_Seal_1 at hm
  refine calls_of_sw (R := fun v w' => v = wv r ∧ Gr w w') 15 Try.func70 rfl rfl rfl ?_
  refine sw_seq ?_
  -- region 0 poly.go:163
  refine sw_region [(0, 0)] rfl rfl rfl ?_
  refine sd_vv rfl rfl rfl (vv_assign rfl) ?_
  refine sd_done ?_
  refine sw_seq ?_
  -- region 1 poly.go:163 DRAWS
  refine sw_drawN [([])] [] (.leaf [(0, 10), (1, 10), (2, 10), (3, 10), (4, 10), (5, 10), (6, 0), (7, 0), (8, 10)]) (by kernel_rfl) (by kernel_rfl) rfl (by kernel_rfl) ?_
  intro w1 Gw1 zw1
  refine sdz_leaf ?_
  have B8 := (Bx.gr hbp1 Gw1)
  refine dd_hn 0 rfl rfl rfl rfl (Kp.refl ([]) w1) (fun w hS => vv_loadW agg_28 rfl (Bx.kp B8 hS) rfl) ?_
  refine dd_hn 0 rfl rfl rfl rfl (Kp.refl ([]) w1) (fun w hS => vv_fieldAddr fa_45_1 rfl) ?_
  have B9 := (Bx.gr hbp2 Gw1)
  refine dd_hn 0 rfl rfl rfl rfl (Kp.refl ([]) w1) (fun w hS => vv_load1 (v := wv p2.Base) one_24 rfl (Bx.kp B9 hS) rfl) ?_
  have B10 := (Bx.gr hbp3 Gw1)
  refine dd_hn 0 rfl rfl rfl rfl (Kp.refl ([]) w1) (fun w hS => vv_load1 (v := vp3_0) one_116 rfl (Bx.kp B10 hS) rfl) ?_
  have B11 := (Bx.gr hbp4 Gw1)
  refine dd_hn 0 rfl rfl rfl rfl (Kp.refl ([]) w1) (fun w hS => vv_load1 (v := wv p4) one_119 rfl (Bx.kp B11 hS) rfl) ?_
  refine dd_hn 0 rfl rfl rfl rfl (Kp.refl ([]) w1) (fun w hS => vv_move rfl) ?_
  have B12 := (Rd.gr hp3_0 Gw1)
  have hb := bnd hm; clear hm; obtain ⟨x1, hx1, hm⟩ := hb
  refine dd_z [] rfl rfl rfl (ev_call en_65 rfl (poly_polynomial_at_w p3 p4 p0 _ _ _ _ _ hx1 _ B12)) ⟨fun _ => tk0, trivial⟩ ?_
  rintro _ w2 ⟨rfl, Gw2⟩
  have z13 := Gw2.size
  refine ⟨Kz.ofGr Gw2, ?_⟩
  have hb := bnd hm; clear hm; obtain ⟨x2, hx2, hm⟩ := hb
  refine dd_z [] rfl rfl rfl (ev_call en_69 rfl (poly_power_w p1 p2.Base x1 _ hx2 _)) ⟨fun _ => tk0, trivial⟩ ?_
  rintro _ w3 ⟨rfl, Gw3⟩
  have z14 := Gw3.size
  refine ⟨Kz.ofGr Gw3, ?_⟩
  have S15 := (Kp.gr (Kp.gr (Kp.refl ([]) w1) Gw2) Gw3)
  refine dd_hn 0 rfl rfl rfl rfl S15 (fun w hS => vv_assign rfl) ?_
  refine sd_done ?_
  refine sw_ret ?_
  have X16 : Gr w w3 := (Gr.trans (Gr.trans (Gr.trans (Gr.refl w) Gw1) Gw2) Gw3)
  have hr := Option.some.inj hm
  subst hr
  refine ⟨_, _, rfl, res_1 rfl (rv_tmp rfl), ?_⟩
  exact ⟨rfl, X16⟩

set_option maxHeartbeats 2000000 in
theorem poly_maskKey_w (p0 : BitVec 64)  (r : W2) (hm : poly_maskKey p0 = some r) (w : World)   :
    Calls Try.prog 72 [wv p0].toArray w fun e w' => ∃ v, e = .returned v ∧ (v = kv r ∧ Gr w w') := by
  unfold poly_maskKey at hm
  refine calls_of_sw (R := fun v w' => v = kv r ∧ Gr w w') 6 Try.func72 rfl rfl rfl ?_
  refine sw_seq ?_
  -- region 0 poly.go:145
  refine sw_region [(0, 0)] rfl rfl rfl ?_
  refine sd_ev rfl rfl rfl (ev_alloc (cs := kb k0) zv_23 rfl) ?_
  rintro _ w1 ⟨b1, rfl, hbw1, Bw1, Gw1⟩
  have z1 := Gw1.size
  have lt2 := Bw1.lt
  refine sd_done ?_
  refine sw_seq ?_
  -- region 1 poly.go:145
  refine sw_region [(0, 0), (1, 0), (2, 0), (3, 0)] rfl rfl rfl ?_
  refine sd_vv rfl rfl rfl (vv_buildZ bz_23) ?_
  refine sd_vv rfl rfl rfl (vv_move rfl) ?_
  refine sd_ev rfl rfl rfl (ev_call en_52 rfl (derive_c k0 (un8 42#8) (un8_nn _) (un8_le _) p0 _)) ?_
  rintro _ w2 ⟨rfl, Gw2⟩
  have z3 := Gw2.size
  have B4 := (Bx.gr Bw1 Gw2)
  refine sd_ev rfl rfl rfl (ev_stM (cs' := kb (drv k0 (un8 42#8) p0)) (vs := kb (drv k0 (un8 42#8) p0)) (agg_23).siz rfl rfl rfl rfl rfl B4 rfl (by obtain ⟨kk0, hk0⟩ := ex_of (drv k0 (un8 42#8) p0); rw [← hk0]; first | done | rfl)) ?_
  rintro _ w3 ⟨Bw3, Mw3⟩
  have z5 := Mw3.size
  refine sd_done ?_
  refine sw_ret ?_
  have X6 : Gr w w3 := (Gr.md (Gr.trans (Gr.trans (Gr.refl w) Gw1) Gw2) Mw3)
  have hr := Option.some.inj hm
  subst hr
  refine ⟨_, _, rfl, res_1 rfl (rv_cellW agg_23 rfl Bw3 rfl), ?_⟩
  exact ⟨rfl, X6⟩

set_option maxHeartbeats 2000000 in
theorem poly_Seal_w (p0 : W2) (p1 : TScheme) (p2 : List Int) (p3 : W2) (p4 : BitVec 64) (vp2 : Value) (zp2 gp2 op2 : Nat) (r : THeader × Int) (hm : poly_Seal p0 p1 p2 p3 p4 = some r) (w : World) (hp2 : Rd w zp2 gp2 op2 1 vp2 (p2.map ic))  :
    Calls Try.prog 21 [kv p0, .agg (TScheme.cs p1).toArray, vp2, kv p3, wv p4].toArray w fun e w' => ∃ v, e = .returned v ∧ (∃ (ur0_0 : Value) (zr0_0 : Nat) (gr0_0 : Nat) (ur0_2 : Value) (zr0_2 : Nat) (gr0_2 : Nat), v = .tuple [.agg (THeader.cs r.1 ur0_0 ur0_2).toArray, .int .i64 r.2].toArray ∧ Own w' zr0_0 gr0_0 131 18 ur0_0 (r.1.Items.map TItem.cs) ∧ Hdn (zr0_0 = 0 ∨ w.heap.size ≤ gr0_0) ∧ Own w' zr0_2 gr0_2 31 2 ur0_2 (r.1.Points.map TPoint.cs) ∧ Hdn (zr0_2 = 0 ∨ w.heap.size ≤ gr0_2) ∧ Hdn (zr0_2 = 0 ∨ zr0_0 = 0 ∨ gr0_2 ≠ gr0_0) ∧ Gr w w') := by
  have lt1 := hp2.lth
  unfold poly_Seal at hm
  refine calls_of_sw (R := fun v w' => ∃ (ur0_0 : Value) (zr0_0 : Nat) (gr0_0 : Nat) (ur0_2 : Value) (zr0_2 : Nat) (gr0_2 : Nat), v = .tuple [.agg (THeader.cs r.1 ur0_0 ur0_2).toArray, .int .i64 r.2].toArray ∧ Own w' zr0_0 gr0_0 131 18 ur0_0 (r.1.Items.map TItem.cs) ∧ Hdn (zr0_0 = 0 ∨ w.heap.size ≤ gr0_0) ∧ Own w' zr0_2 gr0_2 31 2 ur0_2 (r.1.Points.map TPoint.cs) ∧ Hdn (zr0_2 = 0 ∨ w.heap.size ≤ gr0_2) ∧ Hdn (zr0_2 = 0 ∨ zr0_0 = 0 ∨ gr0_2 ≠ gr0_0) ∧ Gr w w') 123 Try.func21 rfl rfl rfl ?_
  refine sw_seq ?_
  -- region 0 poly.go:148
  refine sw_region [(0, 0), (1, 0), (2, 0), (3, 0), (4, 0)] rfl rfl rfl ?_
  refine sd_ev rfl rfl rfl (ev_box (cs := kb p0) rfl rfl) ?_
  rintro _ w1 ⟨b1, rfl, hbw1, Bw1, Gw1⟩
  have z2 := Gw1.size
  have lt3 := Bw1.lt
  refine sd_ev rfl rfl rfl (ev_box (cs := TScheme.cs p1) rfl rfl) ?_
  rintro _ w2 ⟨b2, rfl, hbw2, Bw2, Gw2⟩
  have z4 := Gw2.size
  have lt5 := Bw2.lt
  refine sd_ev rfl rfl rfl (ev_box (cs := kb p3) rfl rfl) ?_
  rintro _ w3 ⟨b3, rfl, hbw3, Bw3, Gw3⟩
  have z6 := Gw3.size
  have lt7 := Bw3.lt
  refine sd_ev rfl rfl rfl (ev_alloc (cs := THeader.cs (THeader.mk [] 0#64 [] k0 k0) (.slice none 0 0) (.slice none 0 0)) zv_45 rfl) ?_
  rintro _ w4 ⟨b4, rfl, hbw4, Bw4, Gw4⟩
  have z8 := Gw4.size
  have lt9 := Bw4.lt
  refine sd_vv rfl rfl rfl (vv_assign rfl) ?_
  refine sd_done ?_
  refine sw_seq ?_
  refine sw_seq ?_
  -- region 1 poly.go:149
  refine sw_region [(0, 0), (1, 0), (2, 0)] rfl rfl rfl ?_
  have B10 := (Bx.gr (Bx.gr Bw2 Gw3) Gw4)
  refine sd_vv rfl rfl rfl (vv_loadW agg_28 rfl B10 rfl) ?_
  have hb := bnd hm; clear hm; obtain ⟨x1, hx1, hm⟩ := hb
  refine sd_ev rfl rfl rfl (ev_call en_63 rfl (poly_valid_w p1 _ hx1 _)) ?_
  rintro _ w5 ⟨rfl, Gw5⟩
  have z11 := Gw5.size
  refine sd_vv rfl rfl rfl (vv_not rfl) ?_
  refine sd_done ?_
  refine sw_cond rfl (fun c1 => ?_) (fun c1 => ?_)
  ·
    replace hm := cnd_t c1 hm
    refine sw_seq ?_
    -- region 2 poly.go:150
    refine sw_region [(0, 0), (1, 0), (2, 0)] rfl rfl rfl ?_
    refine sd_vv rfl rfl rfl (vv_build (cs := THeader.cs (THeader.mk [] 0#64 [] k0 k0) (.slice none 0 0) (.slice none 0 0)) bs_45 rfl (by kernel_rfl)) ?_
    have B12 := (Bx.gr Bw4 Gw5)
    refine sd_ev rfl rfl rfl (ev_stM (cs' := THeader.cs (THeader.mk [] 0#64 [] k0 k0) (.slice none 0 0) (.slice none 0 0)) (vs := THeader.cs (THeader.mk [] 0#64 [] k0 k0) (.slice none 0 0) (.slice none 0 0)) (agg_45).siz rfl rfl rfl rfl (THeader.cs_ones _ _ _ rfl rfl) B12 rfl rfl) ?_
    rintro _ w6 ⟨Bw6, Mw6⟩
    have z13 := Mw6.size
    refine sd_vv rfl rfl rfl (vv_assign rfl) ?_
    refine sd_done ?_
    refine sw_ret ?_
    refine then_r ?_
    have X14 : Gr w w6 := (Gr.md (Gr.trans (Gr.trans (Gr.trans (Gr.trans (Gr.trans (Gr.refl w) Gw1) Gw2) Gw3) Gw4) Gw5) Mw6)
    have hr := Option.some.inj hm
    subst hr
    refine ⟨_, _, rfl, res_2 rfl (rv_cellW agg_45 rfl Bw6 rfl) (rv_tmp rfl), ?_⟩
    exact ⟨(.slice none 0 0), 0, 0, (.slice none 0 0), 0, 0, rfl, (own_nil _ 0 131 18), ⟨.inl rfl⟩, (own_nil _ 0 31 2), ⟨.inl rfl⟩, ⟨(.inl rfl)⟩, X14⟩
  ·
    replace hm := cnd_f c1 hm
    refine sw_skip ?_
    refine then_n ?_
    refine sw_seq ?_
    refine sw_seq ?_
    -- region 3 poly.go:152
    refine sw_region [(0, 0), (1, 0), (2, 0)] rfl rfl rfl ?_
    refine sd_vv rfl rfl rfl (vv_move rfl) ?_
    have B15 := (Rd.gr (Rd.gr (Rd.gr (Rd.gr (Rd.gr hp2 Gw1) Gw2) Gw3) Gw4) Gw5)
    refine sd_vv rfl rfl rfl (vv_lenT (l := p2) (c := ic) Try.underlying41 rfl B15) ?_
    refine sd_vv rfl rfl rfl (vv_move rfl) ?_
    refine sd_done ?_
    refine sw_block ?_
    have X16 : Gr w w5 := (Gr.trans (Gr.trans (Gr.trans (Gr.trans (Gr.trans (Gr.refl w) Gw1) Gw2) Gw3) Gw4) Gw5)
    refine sw_loopD (α := Nat × Int) [11, 12, 13, 29, 30, 31, 32, 33, 34, 35, 36, 37, 38, 39, 40, 41, 42, 43, 44, 45, 46, 47, 48, 49, 50, 51, 52, 53, 54, 55, 56, 57] (fun ⟨n1, a3⟩ => [(11, .int .i64 0), (29, .int .i64 a3)]) (fun ⟨n1, a3⟩ wr => (fixN (poly_Seal_L1 p0 p1 p2 p3 p4) n1 a3 = some r) ∧ Kz [] w5 wr) (fun ⟨n1, a3⟩ => n1) ⟨FUEL, 0⟩ ?_ ?_ ?_
    · repeat' first | exact trivial | refine ⟨rfl, ?_⟩
    · exact ⟨hm, Kz.refl _ _⟩
    · clear hm; rintro ⟨n1, a3⟩ w7 ⟨hm, Kw7⟩
      have z17 := Kw7.size
      have hb := fix_succ hm; clear hm; obtain ⟨n1, rfl, hm⟩ := hb
      generalize hrec1 : fixN (poly_Seal_L1 p0 p1 p2 p3 p4) n1 = rec1 at hm
      unfold poly_Seal_L1 at hm
      try dsimp only at hm
      refine sw_seq ?_
      -- region 4 poly.go:152
      refine sw_region [(0, 0)] rfl rfl rfl ?_
      refine sd_vv rfl rfl rfl (vv_lss (a := a3) (b := (p2.length : Int)) rfl rfl) ?_
      refine sd_done ?_
      refine sw_seq ?_
      refine sw_cond rfl (fun c2 => ?_) (fun c2 => ?_)
      ·
        replace hm := ite_t (of_decide_eq_true c2) hm
        refine sw_skip ?_
        refine then_n ?_
        refine sw_seq ?_
        refine sw_block ?_
        refine sw_seq ?_
        -- region 5 poly.go:152
        refine sw_region [(0, 0), (1, 0), (2, 0), (3, 0), (4, 0)] rfl rfl rfl ?_
        refine sd_vv rfl rfl rfl (vv_move rfl) ?_
        have hb := bnd hm; clear hm; obtain ⟨y4, hy4, hm⟩ := hb
        have B18 := (Rd.kz B15 Kw7)
        refine sd_vv rfl rfl rfl (vv_ixT (i := a3) Try.underlying41 (one_3).siz rfl B18 rfl hy4) ?_
        refine sd_vv rfl rfl rfl (vv_el1T (q := 0) (u := .int .i64 y4) one_3 rfl B18 hy4 (by first | rfl | omega) rfl) ?_
        refine sd_vv rfl rfl rfl (vv_assign rfl) ?_
        refine sd_vv rfl rfl rfl (vv_assign rfl) ?_
        refine sd_done ?_
        have X19 : Gr w w7 := (Gr.kz X16 Kw7)
        refine sw_joinD (β := Bool) [34, 35, 36, 37, 38, 39, 40, 41, 42, 43, 44, 45, 46, 47, 48, 49, 50, 51, 52, 53, 54, 55] (fun a5 => [(55, .bool a5)]) (fun a5 wr => (poly_Seal_J2 a3 rec1 a5 = some r) ∧ Kz [] w7 wr) ?_ ?_
        · clear hm; rintro a5 w8 ⟨hm, Kw8⟩
          have z20 := Kw8.size
          unfold poly_Seal_J2 at hm
          refine sw_cond rfl (fun c3 => ?_) (fun c3 => ?_)
          ·
            replace hm := cnd_t c3 hm
            refine sw_seq ?_
            -- region 7 poly.go:154
            refine sw_region [(0, 0), (1, 0), (2, 0)] rfl rfl rfl ?_
            refine sd_vv rfl rfl rfl (vv_build (cs := THeader.cs (THeader.mk [] 0#64 [] k0 k0) (.slice none 0 0) (.slice none 0 0)) bs_45 rfl (by kernel_rfl)) ?_
            have B21 := (Bx.kz (Bx.kz (Bx.gr Bw4 Gw5) Kw7) Kw8)
            refine sd_ev rfl rfl rfl (ev_stM (cs' := THeader.cs (THeader.mk [] 0#64 [] k0 k0) (.slice none 0 0) (.slice none 0 0)) (vs := THeader.cs (THeader.mk [] 0#64 [] k0 k0) (.slice none 0 0) (.slice none 0 0)) (agg_45).siz rfl rfl rfl rfl (THeader.cs_ones _ _ _ rfl rfl) B21 rfl rfl) ?_
            rintro _ w9 ⟨Bw9, Mw9⟩
            have z22 := Mw9.size
            refine sd_vv rfl rfl rfl (vv_assign rfl) ?_
            refine sd_done ?_
            refine sw_ret ?_
            refine block_r ?_
            refine then_r ?_
            refine then_r ?_
            refine block_r ?_
            refine then_r ?_
            have X23 : Gr w w9 := (Gr.md (Gr.kz X19 Kw8) Mw9)
            have hr := Option.some.inj hm
            subst hr
            refine ⟨_, _, rfl, res_2 rfl (rv_cellW agg_45 rfl Bw9 rfl) (rv_tmp rfl), ?_⟩
            exact ⟨(.slice none 0 0), 0, 0, (.slice none 0 0), 0, 0, rfl, (own_nil _ 0 131 18), ⟨.inl rfl⟩, (own_nil _ 0 31 2), ⟨.inl rfl⟩, ⟨(.inl rfl)⟩, X23⟩
          ·
            replace hm := cnd_f c3 hm
            refine sw_skip ?_
            refine block_n ?_
            refine then_n ?_
            -- region 8 poly.go:152
            refine sw_region [(0, 0), (1, 0)] rfl rfl rfl ?_
            refine sd_vv rfl rfl rfl (vv_add (k := .i64) (a := a3) (b := 1) rfl rfl) ?_
            refine sd_vv rfl rfl rfl (vv_move rfl) ?_
            refine sd_nil ?_
            have K_24 : Kz [] w5 w8 := (Kz.kz Kw7 Kw8)
            subst hrec1
            refine ⟨rfl, ⟨n1, w64 (a3 + 1)⟩, ?_, ⟨hm, K_24⟩, Nat.lt_succ_self _⟩
            repeat' first | exact trivial | refine ⟨rfl, ?_⟩
        ·
          -- region 6 poly.go:153
          refine sw_region [(0, 0), (1, 0), (2, 0), (3, 0), (4, 0), (5, 0), (6, 0), (7, 0), (8, 0), (9, 0), (10, 0), (11, 0), (12, 0), (13, 0), (14, 0), (15, 0), (16, 0), (17, 0), (18, 0), (19, 0), (20, 0), (21, 0)] rfl rfl rfl ?_
          refine sd_vv rfl rfl rfl (vv_move rfl) ?_
          refine sd_vv rfl rfl rfl (vv_lss (a := y4) (b := 0) rfl rfl) ?_
          refine sd_split rfl rfl rfl (vv_move rfl) (fun c4 => ?_) (fun c4 => ?_)
          ·
            replace hm := ite_t (of_decide_eq_true c4) hm
            refine sd_skip rfl rfl rfl ?_
            refine sd_skip rfl rfl rfl ?_
            refine sd_skip rfl rfl rfl ?_
            refine sd_skip rfl rfl rfl ?_
            refine sd_skip rfl rfl rfl ?_
            refine sd_vv rfl rfl rfl (vv_pickT rfl rfl) ?_
            refine sd_vv rfl rfl rfl (vv_move rfl) ?_
            refine sd_skip rfl rfl rfl ?_
            refine sd_skip rfl rfl rfl ?_
            refine sd_skip rfl rfl rfl ?_
            refine sd_skip rfl rfl rfl ?_
            refine sd_skip rfl rfl rfl ?_
            refine sd_skip rfl rfl rfl ?_
            refine sd_skip rfl rfl rfl ?_
            refine sd_skip rfl rfl rfl ?_
            refine sd_skip rfl rfl rfl ?_
            refine sd_skip rfl rfl rfl ?_
            refine sd_skip rfl rfl rfl ?_
            refine sd_vv rfl rfl rfl (vv_pickT rfl rfl) ?_
            refine sd_nil ?_
            have K_25 : Kz [] w7 w7 := (Kz.refl _ _)
            refine ⟨rfl, true, ?_, hm, K_25⟩
            repeat' first | exact trivial | refine ⟨rfl, ?_⟩
          ·
            replace hm := ite_f (of_decide_eq_false c4) hm
            refine sd_vv rfl rfl rfl (vv_move rfl) ?_
            refine sd_vv rfl rfl rfl (vv_fieldAddr fa_28_1 rfl) ?_
            have B26 := (Bx.kz (Bx.gr B10 Gw5) Kw7)
            refine sd_vv rfl rfl rfl (vv_load1 (v := .int .i64 p1.Depth) one_3 rfl B26 rfl) ?_
            have hb := bnd hm; clear hm; obtain ⟨n6, hn6, hm⟩ := hb
            refine sd_vv rfl rfl rfl (vv_shlI (a := 1) (b := p1.Depth) rfl rfl hn6) ?_
            refine sd_vv rfl rfl rfl (vv_geq (a := y4) (b := shlI 1 n6) rfl rfl) ?_
            refine sd_vv rfl rfl rfl (vv_pickF rfl rfl) ?_
            refine sd_split rfl rfl rfl (vv_move rfl) (fun c5 => ?_) (fun c5 => ?_)
            ·
              replace hm := ite_t (of_decide_eq_true c5) hm
              refine sd_skip rfl rfl rfl ?_
              refine sd_skip rfl rfl rfl ?_
              refine sd_skip rfl rfl rfl ?_
              refine sd_skip rfl rfl rfl ?_
              refine sd_skip rfl rfl rfl ?_
              refine sd_skip rfl rfl rfl ?_
              refine sd_skip rfl rfl rfl ?_
              refine sd_skip rfl rfl rfl ?_
              refine sd_skip rfl rfl rfl ?_
              refine sd_skip rfl rfl rfl ?_
              refine sd_skip rfl rfl rfl ?_
              refine sd_vv rfl rfl rfl (vv_pickT rfl rfl) ?_
              refine sd_nil ?_
              have K_27 : Kz [] w7 w7 := (Kz.refl _ _)
              refine ⟨rfl, true, ?_, hm, K_27⟩
              repeat' first | exact trivial | refine ⟨rfl, ?_⟩
            ·
              replace hm := ite_f (of_decide_eq_false c5) hm
              refine sd_vv rfl rfl rfl (vv_move rfl) ?_
              refine sd_vv rfl rfl rfl (vv_gtr (a := a3) (b := 0) rfl rfl) ?_
              refine sd_split rfl rfl rfl (vv_move rfl) (fun c6 => ?_) (fun c6 => ?_)
              ·
                replace hm := ite_t (of_decide_eq_true c6) hm
                refine sd_vv rfl rfl rfl (vv_move rfl) ?_
                refine sd_vv rfl rfl rfl (vv_move rfl) ?_
                refine sd_vv rfl rfl rfl (vv_move rfl) ?_
                refine sd_vv rfl rfl rfl (vv_sub (k := .i64) (a := a3) (b := 1) rfl rfl) ?_
                have hb := bnd hm; clear hm; obtain ⟨y7, hy7, hm⟩ := hb
                refine sd_vv rfl rfl rfl (vv_ixT (i := w64 (a3 - 1)) Try.underlying41 (one_3).siz rfl B18 rfl hy7) ?_
                refine sd_vv rfl rfl rfl (vv_el1T (q := 0) (u := .int .i64 y7) one_3 rfl B18 hy7 (by first | rfl | omega) rfl) ?_
                refine sd_vv rfl rfl rfl (vv_leq (a := y4) (b := y7) rfl rfl) ?_
                refine sd_vv rfl rfl rfl (vv_pickT rfl rfl) ?_
                refine sd_vv rfl rfl rfl (vv_pickF rfl rfl) ?_
                refine sd_nil ?_
                have K_28 : Kz [] w7 w7 := (Kz.refl _ _)
                refine ⟨rfl, (decide (y4 ≤ y7)), ?_, hm, K_28⟩
                repeat' first | exact trivial | refine ⟨rfl, ?_⟩
              ·
                replace hm := ite_f (of_decide_eq_false c6) hm
                refine sd_skip rfl rfl rfl ?_
                refine sd_skip rfl rfl rfl ?_
                refine sd_skip rfl rfl rfl ?_
                refine sd_skip rfl rfl rfl ?_
                refine sd_skip rfl rfl rfl ?_
                refine sd_skip rfl rfl rfl ?_
                refine sd_skip rfl rfl rfl ?_
                refine sd_vv rfl rfl rfl (vv_pickF rfl rfl) ?_
                refine sd_vv rfl rfl rfl (vv_pickF rfl rfl) ?_
                refine sd_nil ?_
                have K_29 : Kz [] w7 w7 := (Kz.refl _ _)
                refine ⟨rfl, false, ?_, hm, K_29⟩
                repeat' first | exact trivial | refine ⟨rfl, ?_⟩
      ·
        replace hm := ite_f (of_decide_eq_false c2) hm
        refine sw_exit ?_
        refine then_x ?_
        refine then_x ?_
        refine block_x ?_
        refine then_n ?_
        refine sw_seq ?_
        refine sw_seq ?_
        -- region 9 poly.go:157
        refine sw_region [(0, 0), (1, 0), (2, 0), (3, 0), (4, 0)] rfl rfl rfl ?_
        refine sd_vv rfl rfl rfl (vv_move rfl) ?_
        have B30 := (Rd.kz B15 Kw7)
        refine sd_vv rfl rfl rfl (vv_lenT (l := p2) (c := ic) Try.underlying41 rfl B30) ?_
        refine sd_vv rfl rfl rfl (vv_fieldAddr fa_28_2 rfl) ?_
        have B31 := (Bx.kz (Bx.gr B10 Gw5) Kw7)
        refine sd_vv rfl rfl rfl (vv_load1 (v := .int .i64 p1.Degree) one_3 rfl B31 rfl) ?_
        refine sd_vv rfl rfl rfl (vv_gtr (a := (p2.length : Int)) (b := p1.Degree) rfl rfl) ?_
        refine sd_done ?_
        refine sw_cond rfl (fun c7 => ?_) (fun c7 => ?_)
        ·
          replace hm := ite_t (of_decide_eq_true c7) hm
          refine sw_seq ?_
          -- region 10 poly.go:158
          refine sw_region [(0, 0), (1, 0), (2, 0)] rfl rfl rfl ?_
          refine sd_vv rfl rfl rfl (vv_build (cs := THeader.cs (THeader.mk [] 0#64 [] k0 k0) (.slice none 0 0) (.slice none 0 0)) bs_45 rfl (by kernel_rfl)) ?_
          have B32 := (Bx.kz (Bx.gr Bw4 Gw5) Kw7)
          refine sd_ev rfl rfl rfl (ev_stM (cs' := THeader.cs (THeader.mk [] 0#64 [] k0 k0) (.slice none 0 0) (.slice none 0 0)) (vs := THeader.cs (THeader.mk [] 0#64 [] k0 k0) (.slice none 0 0) (.slice none 0 0)) (agg_45).siz rfl rfl rfl rfl (THeader.cs_ones _ _ _ rfl rfl) B32 rfl rfl) ?_
          rintro _ w10 ⟨Bw10, Mw10⟩
          have z33 := Mw10.size
          refine sd_vv rfl rfl rfl (vv_assign rfl) ?_
          refine sd_done ?_
          refine sw_ret ?_
          refine then_r ?_
          have X34 : Gr w w10 := (Gr.md (Gr.kz X16 Kw7) Mw10)
          have hr := Option.some.inj hm
          subst hr
          refine ⟨_, _, rfl, res_2 rfl (rv_cellW agg_45 rfl Bw10 rfl) (rv_tmp rfl), ?_⟩
          exact ⟨(.slice none 0 0), 0, 0, (.slice none 0 0), 0, 0, rfl, (own_nil _ 0 131 18), ⟨.inl rfl⟩, (own_nil _ 0 31 2), ⟨.inl rfl⟩, ⟨(.inl rfl)⟩, X34⟩
        ·
          replace hm := ite_f (of_decide_eq_false c7) hm
          refine sw_skip ?_
          refine then_n ?_
          have X35 : Gr w w7 := (Gr.kz X16 Kw7)
          refine sw_joinD (β := List (BitVec 64) × Nat × Value × Nat × Nat × Nat) [14, 15, 64, 65, 66, 67, 68, 69] (fun ⟨a9, bq8, vy10, zy10, gy10, bq11⟩ => [(14, .pointer (some ⟨bq8, 0, none⟩)), (15, .pointer (some ⟨bq11, 0, none⟩))]) (fun ⟨a9, bq8, vy10, zy10, gy10, bq11⟩ wr => (poly_Seal_J3 p0 p1 p2 p3 p4 a9 = some r) ∧ Own wr zy10 gy10 24 1 vy10 (a9.map uwc) ∧ Hdn (zy10 = 0 ∨ w7.heap.size ≤ gy10) ∧ Bx wr bq8 116 ([vy10]) ∧ w7.heap.size ≤ bq8 ∧ Bx wr bq11 119 ([wv p1.Group.Q]) ∧ w7.heap.size ≤ bq11 ∧ Hdn (zy10 = 0 ∨ gy10 ≠ bq8) ∧ bq11 ≠ bq8 ∧ Hdn (zy10 = 0 ∨ gy10 ≠ bq11) ∧ Kz [] w7 wr) ?_ ?_
          · clear hm; rintro ⟨a9, bq8, vy10, zy10, gy10, bq11⟩ w11 ⟨hm, Fw11_0, Fw11_1, Fw11_2, Fw11_3, Fw11_4, Fw11_5, Fw11_6, Fw11_7, Fw11_8, Kw11⟩
            have z36 := Kw11.size
            have lt37 := Fw11_0.lth
            have lt38 := Fw11_2.lt
            have lt39 := Fw11_4.lt
            unfold poly_Seal_J3 at hm
            refine sw_seq ?_
            -- region 12 poly.go:161 DRAWS
            refine sw_drawN [([])] [] (.leaf [(0, 10), (1, 10), (3, 10), (4, 10), (5, 10), (6, 10), (2, 0), (7, 0), (8, 10), (9, 10)]) (by kernel_rfl) (by kernel_rfl) rfl (by kernel_rfl) ?_
            intro w12 Gw12 zw12
            refine sdz_leaf ?_
            have B40 := (Bx.gr (Bx.kz (Bx.kz (Bx.gr (Bx.gr (Bx.gr (Bx.gr Bw1 Gw2) Gw3) Gw4) Gw5) Kw7) Kw11) Gw12)
            refine dd_hn 0 rfl rfl rfl rfl (Kp.refl ([]) w12) (fun w hS => vv_loadW agg_23 rfl (Bx.kp B40 hS) rfl) ?_
            refine dd_hn 0 rfl rfl rfl rfl (Kp.refl ([]) w12) (fun w hS => vv_move rfl) ?_
            refine dd_hn 0 rfl rfl rfl rfl (Kp.refl ([]) w12) (fun w hS => vv_fieldAddr fa_28_3 rfl) ?_
            refine dd_hn 0 rfl rfl rfl rfl (Kp.refl ([]) w12) (fun w hS => vv_fieldAddr fa_26_1 rfl) ?_
            have B41 := (Bx.gr (Bx.kz B31 Kw11) Gw12)
            refine dd_hn 0 rfl rfl rfl rfl (Kp.refl ([]) w12) (fun w hS => vv_load1 (v := wv p1.Group.Q) one_24 rfl (Bx.kp B41 hS) rfl) ?_
            refine dd_hn 0 rfl rfl rfl rfl (Kp.refl ([]) w12) (fun w hS => vv_usub (a := p1.Group.Q) (b := 1#64) rfl rfl) ?_
            refine dd_z [] rfl rfl rfl (ev_call en_52 rfl (derive_c p0 (un8 41#8) (un8_nn _) (un8_le _) p4 _)) ⟨fun _ => tk0, trivial⟩ ?_
            rintro _ w13 ⟨rfl, Gw13⟩
            have z42 := Gw13.size
            refine ⟨Kz.ofGr Gw13, ?_⟩
            have hb := bnd hm; clear hm; obtain ⟨x12, hx12, hm⟩ := hb
            refine dd_z [] rfl rfl rfl (ev_call en_68 rfl (cipher_Number_w (drv p0 (un8 41#8) p4) 0#64 (p1.Group.Q - 1#64) _ hx12 _)) ⟨fun _ => tk0, trivial⟩ ?_
            rintro _ w14 ⟨rfl, Gw14⟩
            have z43 := Gw14.size
            refine ⟨Kz.ofGr Gw14, ?_⟩
            have S44 := (Kp.gr (Kp.gr (Kp.refl ([]) w12) Gw13) Gw14)
            refine dd_hn 0 rfl rfl rfl rfl S44 (fun w hS => vv_uadd (a := 1#64) (b := x12) rfl rfl) ?_
            refine dd_hn 0 rfl rfl rfl rfl S44 (fun w hS => vv_assign rfl) ?_
            refine sd_done ?_
            have X45 : Gr w w14 := (Gr.trans (Gr.trans (Gr.trans (Gr.kz X35 Kw11) Gw12) Gw13) Gw14)
            refine sw_joinD (β := BitVec 64 × Nat × Value × Nat × Nat × Value × Nat × Nat) [17, 79, 80, 81, 82, 83, 84, 85, 86, 87] (fun ⟨a14, bq13, vy15, zy15, gy15, vy16, zy16, gy16⟩ => [(17, .pointer (some ⟨bq13, 0, none⟩))]) (fun ⟨a14, bq13, vy15, zy15, gy15, vy16, zy16, gy16⟩ wr => (poly_Seal_J4 p1 p2 p3 a9 a14 = some r) ∧ Own wr zy15 gy15 131 18 vy15 ([].map TItem.cs) ∧ Hdn (zy15 = 0 ∨ w14.heap.size ≤ gy15) ∧ Own wr zy16 gy16 31 2 vy16 ([].map TPoint.cs) ∧ Hdn (zy16 = 0 ∨ w14.heap.size ≤ gy16) ∧ Bx wr bq13 45 (THeader.cs (THeader.mk [] a14 [] k0 (drv p3 (un8 53#8) 0#64)) vy15 vy16) ∧ w14.heap.size ≤ bq13 ∧ Hdn (zy16 = 0 ∨ zy15 = 0 ∨ gy16 ≠ gy15) ∧ Hdn (zy15 = 0 ∨ gy15 ≠ bq13) ∧ Hdn (zy16 = 0 ∨ gy16 ≠ bq13) ∧ Kz [] w14 wr) ?_ ?_
            · clear hm; rintro ⟨a14, bq13, vy15, zy15, gy15, vy16, zy16, gy16⟩ w15 ⟨hm, Fw15_0, Fw15_1, Fw15_2, Fw15_3, Fw15_4, Fw15_5, Fw15_6, Fw15_7, Fw15_8, Kw15⟩
              have z46 := Kw15.size
              have lt47 := Fw15_0.lth
              have lt48 := Fw15_2.lth
              have lt49 := Fw15_4.lt
              unfold poly_Seal_J4 at hm
              refine sw_seq ?_
              -- region 14 poly.go:163
              refine sw_region [(0, 0), (1, 0), (2, 0)] rfl rfl rfl ?_
              refine sd_vv rfl rfl rfl (vv_makeFunc rfl rfl) ?_
              refine sd_ev rfl rfl rfl (ev_alloc zv_124 rfl) ?_
              rintro _ w16 ⟨b16, rfl, hbw16, Bw16, Gw16⟩
              have z50 := Gw16.size
              have lt51 := Bw16.lt
              refine sd_ev rfl rfl rfl (ev_st1 (one_124).siz rfl rfl rfl Bw16 rfl rfl) ?_
              rintro _ w17 ⟨Bw17, Mw17⟩
              have z52 := Mw17.size
              refine sd_done ?_
              refine sw_seq ?_
              -- region 15 poly.go:164
              refine sw_region [(0, 0), (1, 0)] rfl rfl rfl ?_
              refine sd_vv rfl rfl rfl (vv_makeFunc rfl rfl) ?_
              refine sd_vv rfl rfl rfl (vv_assign rfl) ?_
              refine sd_done ?_
              refine sw_seq ?_
              refine sw_seq ?_
              -- region 16 poly.go:165
              refine sw_region [(0, 0), (1, 0), (2, 0)] rfl rfl rfl ?_
              refine sd_vv rfl rfl rfl (vv_move rfl) ?_
              have B53 := (Rd.md (Rd.gr (Rd.kz (Rd.gr (Rd.gr (Rd.gr (Rd.kz B30 Kw11) Gw12) Gw13) Gw14) Kw15) Gw16) Mw17 (tk1 ((pv_lt (A := (fun x => x ≠ b16)) lt1) : zp2 = 0 ∨ gp2 ≠ b16)))
              refine sd_vv rfl rfl rfl (vv_lenT (l := p2) (c := ic) Try.underlying41 rfl B53) ?_
              refine sd_vv rfl rfl rfl (vv_move rfl) ?_
              refine sd_done ?_
              refine sw_block ?_
              have X54 : Gr w w17 := (Gr.md (Gr.trans (Gr.kz X45 Kw15) Gw16) Mw17)
              have B55 := (Own.md (Own.gr (Own.kz (Own.gr (Own.gr (Own.gr Fw11_0 Gw12) Gw13) Gw14) Kw15) Gw16) Mw17 (tk1 ((pv_lt (A := (fun x => x ≠ b16)) lt37) : zy10 = 0 ∨ gy10 ≠ b16)))
              have B56 := (Own.md (Own.gr Fw15_0 Gw16) Mw17 (tk1 ((pv_lt (A := (fun x => x ≠ b16)) lt47) : zy15 = 0 ∨ gy15 ≠ b16)))
              have B57 := (Own.md (Own.gr Fw15_2 Gw16) Mw17 (tk1 ((pv_lt (A := (fun x => x ≠ b16)) lt48) : zy16 = 0 ∨ gy16 ≠ b16)))
              have B58 := (Bx.md (Bx.gr Fw15_4 Gw16) Mw17)
              refine sw_loopD (α := Nat × Int × List TPoint × Value × Nat × Nat) [21, 92, 93, 94, 95, 96, 97, 98, 99, 100] (fun ⟨n5, a20, a21, vy22, zy22, gy22⟩ => [(92, .int .i64 a20)]) (fun ⟨n5, a20, a21, vy22, zy22, gy22⟩ wr => (fixN (poly_Seal_L5 p1 p2 p3 a9 a14) n5 (a20, a21) = some r) ∧ Own wr zy22 gy22 31 2 vy22 (a21.map TPoint.cs) ∧ Hdn (zy22 = 0 ∨ (gy22 = gy16 ∧ zy16 ≠ 0) ∨ w17.heap.size ≤ gy22) ∧ Bx wr bq13 45 (THeader.cs (THeader.mk [] a14 a21 k0 (drv p3 (un8 53#8) 0#64)) vy15 vy22) ∧ Kz [(1, bq13), (zy16, gy16)] w17 wr) (fun ⟨n5, a20, a21, vy22, zy22, gy22⟩ => n5) ⟨FUEL, 0, [], vy16, zy16, gy16⟩ ?_ ?_ ?_
              · repeat' first | exact trivial | refine ⟨rfl, ?_⟩
              · exact ⟨hm, B57, ⟨tk0⟩, B58, Kz.refl _ _⟩
              · clear hm; rintro ⟨n5, a20, a21, vy22, zy22, gy22⟩ w18 ⟨hm, Fw18_0, Fw18_1, Fw18_2, Kw18⟩
                have z59 := Kw18.size
                have lt60 := Fw18_0.lth
                have lt61 := Fw18_2.lt
                have hb := fix_succ hm; clear hm; obtain ⟨n5, rfl, hm⟩ := hb
                generalize hrec5 : fixN (poly_Seal_L5 p1 p2 p3 a9 a14) n5 = rec5 at hm
                unfold poly_Seal_L5 at hm
                try dsimp only at hm
                refine sw_seq ?_
                -- region 17 poly.go:165
                refine sw_region [(0, 0)] rfl rfl rfl ?_
                refine sd_vv rfl rfl rfl (vv_lss (a := a20) (b := (p2.length : Int)) rfl rfl) ?_
                refine sd_done ?_
                refine sw_seq ?_
                refine sw_cond rfl (fun c8 => ?_) (fun c8 => ?_)
                ·
                  replace hm := ite_t (of_decide_eq_true c8) hm
                  refine sw_skip ?_
                  refine then_n ?_
                  refine sw_seq ?_
                  refine sw_block ?_
                  refine sw_seq ?_
                  -- region 18 poly.go:165
                  refine sw_region [(0, 0), (1, 0), (2, 0)] rfl rfl rfl ?_
                  have hb := bnd hm; clear hm; obtain ⟨y23, hy23, hm⟩ := hb
                  have B62 := (Rd.kz B53 Kw18 (tk2 ((pv_sw (pv_0 (A := (fun x => zp2 = 0 ∨ x ≠ gp2)) Fw15_3 (fun x hx => (tk1 lt1.o)))) : zp2 = 0 ∨ zy16 = 0 ∨ gp2 ≠ gy16) ((pv_lt (A := (fun x => x ≠ bq13)) lt1) : zp2 = 0 ∨ gp2 ≠ bq13)))
                  refine sd_vv rfl rfl rfl (vv_ixT (i := a20) Try.underlying41 (one_3).siz rfl B62 rfl hy23) ?_
                  refine sd_vv rfl rfl rfl (vv_el1T (q := 0) (u := .int .i64 y23) one_3 rfl B62 hy23 (by first | rfl | omega) rfl) ?_
                  refine sd_vv rfl rfl rfl (vv_assign rfl) ?_
                  refine sd_done ?_
                  -- region 19 poly.go:166
                  refine sw_region [(0, 0), (1, 0), (2, 0), (3, 0)] rfl rfl rfl ?_
                  refine sd_vv rfl rfl rfl (vv_move rfl) ?_
                  refine sd_vv rfl rfl rfl (vv_move rfl) ?_
                  refine sd_vv rfl rfl rfl (vv_add (k := .i64) (a := y23) (b := 1) rfl rfl) ?_
                  -- in place: headend/poly.Seal$2
                  refine sd_inl 16 Try.func71 rfl rfl rfl en_71 rfl rfl rfl rfl rfl ?_
                  -- region 0 poly.go:164 DRAWS
                  refine sw_drawN [([bq13] ++ zf zy22 gy22), ([] ++ zf zy22 gy22)] [(12, [1])] (.leaf [(0, 10), (1, 11), (2, 10), (3, 10), (4, 10), (5, 10), (6, 10), (7, 0), (8, 10), (9, 0), (10, 0), (11, 10), (12, 0)]) (by kernel_rfl) (by kernel_rfl) rfl (by kernel_rfl) ?_
                  intro w19 Gw19 zw19
                  refine sdz_leaf ?_
                  refine dd_hn 0 rfl rfl rfl rfl (Kp.refl ([bq13] ++ zf zy22 gy22) w19) (fun w hS => vv_fieldAddr fa_45_2 rfl) ?_
                  have B63 := (Bx.gr Fw18_2 Gw19)
                  refine dd_hn 1 rfl rfl rfl rfl (Kp.refl ([] ++ zf zy22 gy22) w19) (fun w hS => vv_load1 (v := vy22) one_43 rfl (Bx.kp B63 hS (tk1 ((pv_1 (A := (fun x => x ≠ bq13)) Fw18_1 (tk1 Fw15_8.o)) : zy22 = 0 ∨ gy22 ≠ bq13))) rfl) ?_
                  refine dd_hn 0 rfl rfl rfl rfl (Kp.refl ([bq13] ++ zf zy22 gy22) w19) (fun w hS => vv_move rfl) ?_
                  refine dd_hn 0 rfl rfl rfl rfl (Kp.refl ([bq13] ++ zf zy22 gy22) w19) (fun w hS => vv_cvIU cv_3_24 rfl) ?_
                  have B64 := (Bx.gr (Bx.kz Bw17 Kw18 (tk1 ((pv_lt (A := (fun x => x ≠ b16)) lt48) : zy16 = 0 ∨ gy16 ≠ b16))) Gw19)
                  refine dd_hn 0 rfl rfl rfl rfl (Kp.refl ([bq13] ++ zf zy22 gy22) w19) (fun w hS => vv_load1 one_124 rfl (Bx.kp B64 hS (tk1 ((pv_1 (A := (fun x => x ≠ b16)) Fw18_1 (pv_lt (A := (fun x => x ≠ b16)) lt48)) : zy22 = 0 ∨ gy22 ≠ b16))) rfl) ?_
                  refine dd_hn 0 rfl rfl rfl rfl (Kp.refl ([bq13] ++ zf zy22 gy22) w19) (fun w hS => vv_move rfl) ?_
                  refine dd_hn 0 rfl rfl rfl rfl (Kp.refl ([bq13] ++ zf zy22 gy22) w19) (fun w hS => vv_cvIU cv_3_24 rfl) ?_
                  have B65 := (Bx.gr (Bx.kz (Bx.md (Bx.gr (Bx.kz (Bx.gr (Bx.gr B41 Gw13) Gw14) Kw15) Gw16) Mw17) Kw18 (tk1 ((pv_0 (A := (fun x => x ≠ b2)) Fw15_3) : zy16 = 0 ∨ gy16 ≠ b2))) Gw19)
                  have B66 := (Own.gr (Own.kz B56 Kw18 (tk2 ((tk1 Fw15_6.o) : zy15 = 0 ∨ zy16 = 0 ∨ gy15 ≠ gy16) ((tk1 Fw15_7.o) : zy15 = 0 ∨ gy15 ≠ bq13))) Gw19)
                  have B67 := (Own.gr Fw18_0 Gw19)
                  have B68 := (Bx.gr (Bx.kz (Bx.md (Bx.gr (Bx.kz (Bx.gr (Bx.gr (Bx.gr Fw11_2 Gw12) Gw13) Gw14) Kw15) Gw16) Mw17) Kw18 (tk1 ((pv_0 (A := (fun x => x ≠ bq8)) Fw15_3) : zy16 = 0 ∨ gy16 ≠ bq8))) Gw19)
                  have B69 := (Own.gr (Own.kz B55 Kw18 (tk2 ((pv_sw (pv_0 (A := (fun x => zy10 = 0 ∨ x ≠ gy10)) Fw15_3 (fun x hx => (tk1 lt37.o)))) : zy10 = 0 ∨ zy16 = 0 ∨ gy10 ≠ gy16) ((pv_lt (A := (fun x => x ≠ bq13)) lt37) : zy10 = 0 ∨ gy10 ≠ bq13))) Gw19)
                  have B70 := (Bx.gr (Bx.kz (Bx.md (Bx.gr (Bx.kz (Bx.gr (Bx.gr (Bx.gr Fw11_4 Gw12) Gw13) Gw14) Kw15) Gw16) Mw17) Kw18 (tk1 ((pv_0 (A := (fun x => x ≠ bq11)) Fw15_3) : zy16 = 0 ∨ gy16 ≠ bq11))) Gw19)
                  have hb := bnd hm; clear hm; obtain ⟨x24, hx24, hm⟩ := hb
                  refine dd_z [] rfl rfl rfl (ev_callV en_70 rfl rfl (poly_Seal_1_w (wd (w64 (y23 + 1))) p1 (THeader.mk [] a14 a21 k0 (drv p3 (un8 53#8) 0#64)) a9 p1.Group.Q _ _ _ _ _ _ _ _ _ _ _ _ _ _ _ _ _ hx24 _ B65 B63 (Own.rd B66) (Own.rd B67) B68 (Own.rd B69) B70)) ⟨fun _ => tk0, fun _ => tk0, trivial⟩ ?_
                  rintro _ w20 ⟨rfl, Gw20⟩
                  have z71 := Gw20.size
                  refine ⟨Kz.ofGr Gw20, ?_⟩
                  have S72 := (Kp.gr (Kp.refl ([bq13] ++ zf zy22 gy22) w19) Gw20)
                  refine dd_hn 0 rfl rfl rfl rfl S72 (fun w hS => vv_build (cs := TPoint.cs (TPoint.mk (wd (w64 (y23 + 1))) x24)) bs_31 rfl rfl) ?_
                  refine dd_z [] rfl rfl rfl (ev_litT [(TPoint.mk (wd (w64 (y23 + 1))) x24)] TPoint.cs bsl_43_1 rfl rfl (ws_of rfl) rfl rfl rfl) ⟨fun _ => tk0, fun _ => tk0, trivial⟩ ?_
                  rintro vw21 w21 ⟨gw21, hbw21, Ow21, Gw21⟩
                  have z73 := Gw21.size
                  have lt74 := Ow21.lth
                  refine ⟨Kz.ofGr Gw21, ?_⟩
                  have B75 := (Own.gr (Own.gr B67 Gw20) Gw21)
                  have hb := bnd hm; clear hm; obtain ⟨l25, hl25, hm⟩ := hb
                  refine dd_z [(zy22, gy22)] rfl rfl rfl (ev_appT (l := a21) (m := [(TPoint.mk (wd (w64 (y23 + 1))) x24)]) (c := TPoint.cs) apt_43 rfl rfl B75 (Own.rd Ow21) hl25 (by decide)) ⟨fun _ => (tk1 (tk0 : zy22 = 0 ∨ (gy22 = gy22 ∧ zy22 ≠ 0) ∨ w19.heap.size ≤ gy22)), fun _ => (tk1 (tk0 : zy22 = 0 ∨ (gy22 = gy22 ∧ zy22 ≠ 0) ∨ w19.heap.size ≤ gy22)), trivial⟩ ?_
                  rintro vw22 w22 ⟨zw22, gw22, Ow22, Aw22, qw22, rw22⟩
                  have z76 := Aw22.size
                  refine ⟨Kz.ofKa Aw22, ?_⟩
                  have S77 := (Kp.ka (Kp.gr S72 Gw21) Aw22 (tk1 (tk0 : zy22 = 0 ∨ (gy22 = gy22 ∧ zy22 ≠ 0) ∨ w19.heap.size ≤ gy22)))
                  refine dd_hn 0 rfl rfl rfl rfl S77 (fun w hS => vv_fieldAddr fa_45_2 rfl) ?_
                  have B78 := (Bx.ka (Bx.gr (Bx.gr B63 Gw20) Gw21) Aw22 (tk1 ((pv_1 (A := (fun x => x ≠ bq13)) Fw18_1 (tk1 Fw15_8.o)) : zy22 = 0 ∨ gy22 ≠ bq13)))
                  refine dd_z [(1, bq13)] rfl rfl rfl (ev_st1 (cs' := THeader.cs (THeader.mk [] a14 l25 k0 (drv p3 (un8 53#8) 0#64)) vy15 vw22) (one_43).siz rfl rfl (Own.oneB Ow22) B78 rfl rfl) ⟨fun _ => tk0, nofun, trivial⟩ ?_
                  rintro _ w23 ⟨Bw23, Mw23⟩
                  have z79 := Mw23.size
                  refine ⟨Kz.ofMd Mw23, ?_⟩
                  refine sd_nil ?_
                  refine ⟨_, _, rfl, res_none rfl, ?_⟩
                  refine sd_nil ?_
                  refine block_n ?_
                  refine then_n ?_
                  -- region 20 poly.go:165
                  refine sw_region [(0, 0), (1, 0)] rfl rfl rfl ?_
                  refine sd_vv rfl rfl rfl (vv_add (k := .i64) (a := a20) (b := 1) rfl rfl) ?_
                  refine sd_vv rfl rfl rfl (vv_move rfl) ?_
                  refine sd_nil ?_
                  have K_80 : Kz [(1, bq13), (zy16, gy16)] w17 w23 := (Kz.md (Kz.ka (Kz.gr (Kz.gr (Kz.gr Kw18 Gw19) Gw20) Gw21) Aw22 (tk1 ((pv_1 (A := (fun x => (x = gy16 ∧ zy16 ≠ 0) ∨ w17.heap.size ≤ x)) Fw18_1 tk0) : zy22 = 0 ∨ (gy22 = gy16 ∧ zy16 ≠ 0) ∨ w17.heap.size ≤ gy22))) Mw23)
                  have B81 := (Own.md Ow22 Mw23 (tk1 ((pv_app (A := (fun x => x ≠ bq13)) rw22 (pv_1 (A := (fun x => x ≠ bq13)) Fw18_1 (tk1 Fw15_8.o))) : zw22 = 0 ∨ gw22 ≠ bq13)))
                  subst hrec5
                  refine ⟨rfl, ⟨n5, w64 (a20 + 1), l25, vw22, zw22, gw22⟩, ?_, ⟨hm, B81, ⟨(pv_app (A := (fun x => (x = gy16 ∧ zy16 ≠ 0) ∨ w17.heap.size ≤ x)) rw22 (pv_1 (A := (fun x => (x = gy16 ∧ zy16 ≠ 0) ∨ w17.heap.size ≤ x)) Fw18_1 tk0))⟩, Bw23, K_80⟩, Nat.lt_succ_self _⟩
                  repeat' first | exact trivial | refine ⟨rfl, ?_⟩
                ·
                  replace hm := ite_f (of_decide_eq_false c8) hm
                  refine sw_exit ?_
                  refine then_x ?_
                  refine then_x ?_
                  refine block_x ?_
                  refine then_n ?_
                  refine sw_seq ?_
                  refine sw_seq ?_
                  -- region 21 poly.go:168
                  refine sw_region [(0, 0), (1, 0), (2, 0), (3, 0), (4, 0)] rfl rfl rfl ?_
                  refine sd_vv rfl rfl rfl (vv_fieldAddr fa_28_1 rfl) ?_
                  have B82 := (Bx.kz (Bx.md (Bx.gr (Bx.kz (Bx.gr (Bx.gr B41 Gw13) Gw14) Kw15) Gw16) Mw17) Kw18 (tk1 ((pv_0 (A := (fun x => x ≠ b2)) Fw15_3) : zy16 = 0 ∨ gy16 ≠ b2)))
                  refine sd_vv rfl rfl rfl (vv_load1 (v := .int .i64 p1.Depth) one_3 rfl B82 rfl) ?_
                  have hb := bnd hm; clear hm; obtain ⟨n26, hn26, hm⟩ := hb
                  refine sd_vv rfl rfl rfl (vv_shlI (a := 1) (b := p1.Depth) rfl rfl hn26) ?_
                  refine sd_vv rfl rfl rfl (vv_add (k := .i64) (a := shlI 1 n26) (b := 1) rfl rfl) ?_
                  refine sd_vv rfl rfl rfl (vv_assign rfl) ?_
                  refine sd_done ?_
                  refine sw_block ?_
                  have X83 : Gr w w18 := (Gr.kz X54 Kw18 (tk1 ((pv_0 (A := (fun x => w.heap.size ≤ x)) Fw15_3) : zy16 = 0 ∨ w.heap.size ≤ gy16)))
                  have B84 := (Rd.kz B53 Kw18 (tk2 ((pv_sw (pv_0 (A := (fun x => zp2 = 0 ∨ x ≠ gp2)) Fw15_3 (fun x hx => (tk1 lt1.o)))) : zp2 = 0 ∨ zy16 = 0 ∨ gp2 ≠ gy16) ((pv_lt (A := (fun x => x ≠ bq13)) lt1) : zp2 = 0 ∨ gp2 ≠ bq13)))
                  have B85 := (Own.kz B55 Kw18 (tk2 ((pv_sw (pv_0 (A := (fun x => zy10 = 0 ∨ x ≠ gy10)) Fw15_3 (fun x hx => (tk1 lt37.o)))) : zy10 = 0 ∨ zy16 = 0 ∨ gy10 ≠ gy16) ((pv_lt (A := (fun x => x ≠ bq13)) lt37) : zy10 = 0 ∨ gy10 ≠ bq13)))
                  have B86 := (Own.kz B56 Kw18 (tk2 ((tk1 Fw15_6.o) : zy15 = 0 ∨ zy16 = 0 ∨ gy15 ≠ gy16) ((tk1 Fw15_7.o) : zy15 = 0 ∨ gy15 ≠ bq13)))
                  refine sw_loopD (α := Nat × Int × List TPoint × Value × Nat × Nat) [22, 105, 106, 107, 108, 109, 110, 111, 112, 113, 114, 115] (fun ⟨n6, a30, a31, vy32, zy32, gy32⟩ => [(22, .int .i64 a30)]) (fun ⟨n6, a30, a31, vy32, zy32, gy32⟩ wr => (fixN (poly_Seal_L6 p1 p3 a9 a14) n6 (a30, a31) = some r) ∧ Own wr zy32 gy32 31 2 vy32 (a31.map TPoint.cs) ∧ Hdn (zy32 = 0 ∨ (gy32 = gy22 ∧ zy22 ≠ 0) ∨ w18.heap.size ≤ gy32) ∧ Bx wr bq13 45 (THeader.cs (THeader.mk [] a14 a31 k0 (drv p3 (un8 53#8) 0#64)) vy15 vy32) ∧ Kz [(1, bq13), (zy22, gy22)] w18 wr) (fun ⟨n6, a30, a31, vy32, zy32, gy32⟩ => n6) ⟨FUEL, w64 ((shlI 1 n26) + 1), a21, vy22, zy22, gy22⟩ ?_ ?_ ?_
                  · repeat' first | exact trivial | refine ⟨rfl, ?_⟩
                  · exact ⟨hm, Fw18_0, ⟨tk0⟩, Fw18_2, Kz.refl _ _⟩
                  · clear hm; rintro ⟨n6, a30, a31, vy32, zy32, gy32⟩ w24 ⟨hm, Fw24_0, Fw24_1, Fw24_2, Kw24⟩
                    have z87 := Kw24.size
                    have lt88 := Fw24_0.lth
                    have lt89 := Fw24_2.lt
                    have hb := fix_succ hm; clear hm; obtain ⟨n6, rfl, hm⟩ := hb
                    generalize hrec6 : fixN (poly_Seal_L6 p1 p3 a9 a14) n6 = rec6 at hm
                    unfold poly_Seal_L6 at hm
                    try dsimp only at hm
                    refine sw_seq ?_
                    refine sw_seq ?_
                    -- region 22 poly.go:168
                    refine sw_region [(0, 0), (1, 0), (2, 0), (3, 0), (4, 0), (5, 0)] rfl rfl rfl ?_
                    refine sd_vv rfl rfl rfl (vv_fieldAddr fa_45_2 rfl) ?_
                    refine sd_vv rfl rfl rfl (vv_load1 (v := vy32) one_43 rfl Fw24_2 rfl) ?_
                    refine sd_vv rfl rfl rfl (vv_lenT (l := a31) (c := TPoint.cs) Try.underlying43 rfl (Own.rd Fw24_0)) ?_
                    refine sd_vv rfl rfl rfl (vv_fieldAddr fa_28_2 rfl) ?_
                    have B90 := (Bx.kz B82 Kw24 (tk1 ((pv_1 (A := (fun x => x ≠ b2)) Fw18_1 (pv_0 (A := (fun x => x ≠ b2)) Fw15_3)) : zy22 = 0 ∨ gy22 ≠ b2)))
                    refine sd_vv rfl rfl rfl (vv_load1 (v := .int .i64 p1.Degree) one_3 rfl B90 rfl) ?_
                    refine sd_vv rfl rfl rfl (vv_lss (a := (a31.length : Int)) (b := p1.Degree) rfl rfl) ?_
                    refine sd_done ?_
                    refine sw_cond rfl (fun c9 => ?_) (fun c9 => ?_)
                    ·
                      replace hm := ite_t (of_decide_eq_true c9) hm
                      refine sw_skip ?_
                      refine then_n ?_
                      refine sw_seq ?_
                      refine sw_block ?_
                      -- region 24 poly.go:169
                      refine sw_region [(0, 0), (1, 0), (2, 0)] rfl rfl rfl ?_
                      refine sd_vv rfl rfl rfl (vv_move rfl) ?_
                      refine sd_vv rfl rfl rfl (vv_move rfl) ?_
                      -- in place: headend/poly.Seal$2
                      refine sd_inl 16 Try.func71 rfl rfl rfl en_71 rfl rfl rfl rfl rfl ?_
                      -- region 0 poly.go:164 DRAWS
                      refine sw_drawN [([bq13] ++ zf zy32 gy32), ([] ++ zf zy32 gy32)] [(12, [1])] (.leaf [(0, 10), (1, 11), (2, 10), (3, 10), (4, 10), (5, 10), (6, 10), (7, 0), (8, 10), (9, 0), (10, 0), (11, 10), (12, 0)]) (by kernel_rfl) (by kernel_rfl) rfl (by kernel_rfl) ?_
                      intro w25 Gw25 zw25
                      refine sdz_leaf ?_
                      refine dd_hn 0 rfl rfl rfl rfl (Kp.refl ([bq13] ++ zf zy32 gy32) w25) (fun w hS => vv_fieldAddr fa_45_2 rfl) ?_
                      have B91 := (Bx.gr Fw24_2 Gw25)
                      refine dd_hn 1 rfl rfl rfl rfl (Kp.refl ([] ++ zf zy32 gy32) w25) (fun w hS => vv_load1 (v := vy32) one_43 rfl (Bx.kp B91 hS (tk1 ((pv_1 (A := (fun x => x ≠ bq13)) Fw24_1 (pv_1 (A := (fun x => x ≠ bq13)) Fw18_1 (tk1 Fw15_8.o))) : zy32 = 0 ∨ gy32 ≠ bq13))) rfl) ?_
                      refine dd_hn 0 rfl rfl rfl rfl (Kp.refl ([bq13] ++ zf zy32 gy32) w25) (fun w hS => vv_move rfl) ?_
                      refine dd_hn 0 rfl rfl rfl rfl (Kp.refl ([bq13] ++ zf zy32 gy32) w25) (fun w hS => vv_cvIU cv_3_24 rfl) ?_
                      have B92 := (Bx.gr (Bx.kz (Bx.kz Bw17 Kw18 (tk1 ((pv_lt (A := (fun x => x ≠ b16)) lt48) : zy16 = 0 ∨ gy16 ≠ b16))) Kw24 (tk1 ((pv_1 (A := (fun x => x ≠ b16)) Fw18_1 (pv_lt (A := (fun x => x ≠ b16)) lt48)) : zy22 = 0 ∨ gy22 ≠ b16))) Gw25)
                      refine dd_hn 0 rfl rfl rfl rfl (Kp.refl ([bq13] ++ zf zy32 gy32) w25) (fun w hS => vv_load1 one_124 rfl (Bx.kp B92 hS (tk1 ((pv_1 (A := (fun x => x ≠ b16)) Fw24_1 (pv_1 (A := (fun x => x ≠ b16)) Fw18_1 (pv_lt (A := (fun x => x ≠ b16)) lt48))) : zy32 = 0 ∨ gy32 ≠ b16))) rfl) ?_
                      refine dd_hn 0 rfl rfl rfl rfl (Kp.refl ([bq13] ++ zf zy32 gy32) w25) (fun w hS => vv_move rfl) ?_
                      refine dd_hn 0 rfl rfl rfl rfl (Kp.refl ([bq13] ++ zf zy32 gy32) w25) (fun w hS => vv_cvIU cv_3_24 rfl) ?_
                      have B93 := (Bx.gr B90 Gw25)
                      have B94 := (Own.gr (Own.kz B86 Kw24 (tk2 ((pv_sw (pv_1 (A := (fun x => zy15 = 0 ∨ x ≠ gy15)) Fw18_1 (tk1 Fw15_6.o) (fun x hx => (tk1 lt47.o)))) : zy15 = 0 ∨ zy22 = 0 ∨ gy15 ≠ gy22) ((tk1 Fw15_7.o) : zy15 = 0 ∨ gy15 ≠ bq13))) Gw25)
                      have B95 := (Own.gr Fw24_0 Gw25)
                      have B96 := (Bx.gr (Bx.kz (Bx.kz (Bx.md (Bx.gr (Bx.kz (Bx.gr (Bx.gr (Bx.gr Fw11_2 Gw12) Gw13) Gw14) Kw15) Gw16) Mw17) Kw18 (tk1 ((pv_0 (A := (fun x => x ≠ bq8)) Fw15_3) : zy16 = 0 ∨ gy16 ≠ bq8))) Kw24 (tk1 ((pv_1 (A := (fun x => x ≠ bq8)) Fw18_1 (pv_0 (A := (fun x => x ≠ bq8)) Fw15_3)) : zy22 = 0 ∨ gy22 ≠ bq8))) Gw25)
                      have B97 := (Own.gr (Own.kz B85 Kw24 (tk2 ((pv_sw (pv_1 (A := (fun x => zy10 = 0 ∨ x ≠ gy10)) Fw18_1 (pv_0 (A := (fun x => zy10 = 0 ∨ x ≠ gy10)) Fw15_3 (fun x hx => (tk1 lt37.o))) (fun x hx => (tk1 lt37.o)))) : zy10 = 0 ∨ zy22 = 0 ∨ gy10 ≠ gy22) ((pv_lt (A := (fun x => x ≠ bq13)) lt37) : zy10 = 0 ∨ gy10 ≠ bq13))) Gw25)
                      have B98 := (Bx.gr (Bx.kz (Bx.kz (Bx.md (Bx.gr (Bx.kz (Bx.gr (Bx.gr (Bx.gr Fw11_4 Gw12) Gw13) Gw14) Kw15) Gw16) Mw17) Kw18 (tk1 ((pv_0 (A := (fun x => x ≠ bq11)) Fw15_3) : zy16 = 0 ∨ gy16 ≠ bq11))) Kw24 (tk1 ((pv_1 (A := (fun x => x ≠ bq11)) Fw18_1 (pv_0 (A := (fun x => x ≠ bq11)) Fw15_3)) : zy22 = 0 ∨ gy22 ≠ bq11))) Gw25)
                      have hb := bnd hm; clear hm; obtain ⟨x33, hx33, hm⟩ := hb
                      refine dd_z [] rfl rfl rfl (ev_callV en_70 rfl rfl (poly_Seal_1_w (wd a30) p1 (THeader.mk [] a14 a31 k0 (drv p3 (un8 53#8) 0#64)) a9 p1.Group.Q _ _ _ _ _ _ _ _ _ _ _ _ _ _ _ _ _ hx33 _ B93 B91 (Own.rd B94) (Own.rd B95) B96 (Own.rd B97) B98)) ⟨fun _ => tk0, fun _ => tk0, trivial⟩ ?_
                      rintro _ w26 ⟨rfl, Gw26⟩
                      have z99 := Gw26.size
                      refine ⟨Kz.ofGr Gw26, ?_⟩
                      have S100 := (Kp.gr (Kp.refl ([bq13] ++ zf zy32 gy32) w25) Gw26)
                      refine dd_hn 0 rfl rfl rfl rfl S100 (fun w hS => vv_build (cs := TPoint.cs (TPoint.mk (wd a30) x33)) bs_31 rfl rfl) ?_
                      refine dd_z [] rfl rfl rfl (ev_litT [(TPoint.mk (wd a30) x33)] TPoint.cs bsl_43_1 rfl rfl (ws_of rfl) rfl rfl rfl) ⟨fun _ => tk0, fun _ => tk0, trivial⟩ ?_
                      rintro vw27 w27 ⟨gw27, hbw27, Ow27, Gw27⟩
                      have z101 := Gw27.size
                      have lt102 := Ow27.lth
                      refine ⟨Kz.ofGr Gw27, ?_⟩
                      have B103 := (Own.gr (Own.gr B95 Gw26) Gw27)
                      have hb := bnd hm; clear hm; obtain ⟨l34, hl34, hm⟩ := hb
                      refine dd_z [(zy32, gy32)] rfl rfl rfl (ev_appT (l := a31) (m := [(TPoint.mk (wd a30) x33)]) (c := TPoint.cs) apt_43 rfl rfl B103 (Own.rd Ow27) hl34 (by decide)) ⟨fun _ => (tk1 (tk0 : zy32 = 0 ∨ (gy32 = gy32 ∧ zy32 ≠ 0) ∨ w25.heap.size ≤ gy32)), fun _ => (tk1 (tk0 : zy32 = 0 ∨ (gy32 = gy32 ∧ zy32 ≠ 0) ∨ w25.heap.size ≤ gy32)), trivial⟩ ?_
                      rintro vw28 w28 ⟨zw28, gw28, Ow28, Aw28, qw28, rw28⟩
                      have z104 := Aw28.size
                      refine ⟨Kz.ofKa Aw28, ?_⟩
                      have S105 := (Kp.ka (Kp.gr S100 Gw27) Aw28 (tk1 (tk0 : zy32 = 0 ∨ (gy32 = gy32 ∧ zy32 ≠ 0) ∨ w25.heap.size ≤ gy32)))
                      refine dd_hn 0 rfl rfl rfl rfl S105 (fun w hS => vv_fieldAddr fa_45_2 rfl) ?_
                      have B106 := (Bx.ka (Bx.gr (Bx.gr B91 Gw26) Gw27) Aw28 (tk1 ((pv_1 (A := (fun x => x ≠ bq13)) Fw24_1 (pv_1 (A := (fun x => x ≠ bq13)) Fw18_1 (tk1 Fw15_8.o))) : zy32 = 0 ∨ gy32 ≠ bq13)))
                      refine dd_z [(1, bq13)] rfl rfl rfl (ev_st1 (cs' := THeader.cs (THeader.mk [] a14 l34 k0 (drv p3 (un8 53#8) 0#64)) vy15 vw28) (one_43).siz rfl rfl (Own.oneB Ow28) B106 rfl rfl) ⟨fun _ => tk0, nofun, trivial⟩ ?_
                      rintro _ w29 ⟨Bw29, Mw29⟩
                      have z107 := Mw29.size
                      refine ⟨Kz.ofMd Mw29, ?_⟩
                      refine sd_nil ?_
                      refine ⟨_, _, rfl, res_none rfl, ?_⟩
                      refine sd_nil ?_
                      refine block_n ?_
                      refine then_n ?_
                      -- region 23 poly.go:168
                      refine sw_region [(0, 0), (1, 0), (2, 0)] rfl rfl rfl ?_
                      refine sd_vv rfl rfl rfl (vv_move rfl) ?_
                      refine sd_vv rfl rfl rfl (vv_add (k := .i64) (a := a30) (b := 1) rfl rfl) ?_
                      refine sd_vv rfl rfl rfl (vv_assign rfl) ?_
                      refine sd_nil ?_
                      have K_108 : Kz [(1, bq13), (zy22, gy22)] w18 w29 := (Kz.md (Kz.ka (Kz.gr (Kz.gr (Kz.gr Kw24 Gw25) Gw26) Gw27) Aw28 (tk1 ((pv_1 (A := (fun x => (x = gy22 ∧ zy22 ≠ 0) ∨ w18.heap.size ≤ x)) Fw24_1 tk0) : zy32 = 0 ∨ (gy32 = gy22 ∧ zy22 ≠ 0) ∨ w18.heap.size ≤ gy32))) Mw29)
                      have B109 := (Own.md Ow28 Mw29 (tk1 ((pv_app (A := (fun x => x ≠ bq13)) rw28 (pv_1 (A := (fun x => x ≠ bq13)) Fw24_1 (pv_1 (A := (fun x => x ≠ bq13)) Fw18_1 (tk1 Fw15_8.o)))) : zw28 = 0 ∨ gw28 ≠ bq13)))
                      subst hrec6
                      refine ⟨rfl, ⟨n6, w64 (a30 + 1), l34, vw28, zw28, gw28⟩, ?_, ⟨hm, B109, ⟨(pv_app (A := (fun x => (x = gy22 ∧ zy22 ≠ 0) ∨ w18.heap.size ≤ x)) rw28 (pv_1 (A := (fun x => (x = gy22 ∧ zy22 ≠ 0) ∨ w18.heap.size ≤ x)) Fw24_1 tk0))⟩, Bw29, K_108⟩, Nat.lt_succ_self _⟩
                      repeat' first | exact trivial | refine ⟨rfl, ?_⟩
                    ·
                      replace hm := ite_f (of_decide_eq_false c9) hm
                      refine sw_exit ?_
                      refine then_x ?_
                      refine then_x ?_
                      refine block_x ?_
                      refine then_n ?_
                      refine sw_seq ?_
                      -- region 25 poly.go:171 DRAWS
                      refine sw_drawN [([bq13])] [] (.leaf [(0, 10), (3, 10), (1, 0), (2, 0), (4, 0), (5, 10), (6, 0)]) (by kernel_rfl) (by kernel_rfl) rfl (by kernel_rfl) ?_
                      intro w30 Gw30 zw30
                      refine sdz_leaf ?_
                      have B110 := (Bx.gr (Bx.kz (Bx.kz Bw17 Kw18 (tk1 ((pv_lt (A := (fun x => x ≠ b16)) lt48) : zy16 = 0 ∨ gy16 ≠ b16))) Kw24 (tk1 ((pv_1 (A := (fun x => x ≠ b16)) Fw18_1 (pv_lt (A := (fun x => x ≠ b16)) lt48)) : zy22 = 0 ∨ gy22 ≠ b16))) Gw30)
                      refine dd_hn 0 rfl rfl rfl rfl (Kp.refl ([bq13]) w30) (fun w hS => vv_load1 one_124 rfl (Bx.kp B110 hS) rfl) ?_
                      have B111 := (Bx.gr (Bx.kz (Bx.kz (Bx.md (Bx.gr (Bx.kz (Bx.gr (Bx.gr (Bx.gr (Bx.kz (Bx.kz (Bx.gr (Bx.gr Bw3 Gw4) Gw5) Kw7) Kw11) Gw12) Gw13) Gw14) Kw15) Gw16) Mw17) Kw18 (tk1 ((pv_0 (A := (fun x => x ≠ b3)) Fw15_3) : zy16 = 0 ∨ gy16 ≠ b3))) Kw24 (tk1 ((pv_1 (A := (fun x => x ≠ b3)) Fw18_1 (pv_0 (A := (fun x => x ≠ b3)) Fw15_3)) : zy22 = 0 ∨ gy22 ≠ b3))) Gw30)
                      refine dd_hn 0 rfl rfl rfl rfl (Kp.refl ([bq13]) w30) (fun w hS => vv_loadW agg_23 rfl (Bx.kp B111 hS) rfl) ?_
                      have B112 := (Bx.gr B90 Gw30)
                      have B113 := (Bx.gr Fw24_2 Gw30)
                      have B114 := (Own.gr (Own.kz B86 Kw24 (tk2 ((pv_sw (pv_1 (A := (fun x => zy15 = 0 ∨ x ≠ gy15)) Fw18_1 (tk1 Fw15_6.o) (fun x hx => (tk1 lt47.o)))) : zy15 = 0 ∨ zy22 = 0 ∨ gy15 ≠ gy22) ((tk1 Fw15_7.o) : zy15 = 0 ∨ gy15 ≠ bq13))) Gw30)
                      have B115 := (Own.gr Fw24_0 Gw30)
                      have B116 := (Bx.gr (Bx.kz (Bx.kz (Bx.md (Bx.gr (Bx.kz (Bx.gr (Bx.gr (Bx.gr Fw11_2 Gw12) Gw13) Gw14) Kw15) Gw16) Mw17) Kw18 (tk1 ((pv_0 (A := (fun x => x ≠ bq8)) Fw15_3) : zy16 = 0 ∨ gy16 ≠ bq8))) Kw24 (tk1 ((pv_1 (A := (fun x => x ≠ bq8)) Fw18_1 (pv_0 (A := (fun x => x ≠ bq8)) Fw15_3)) : zy22 = 0 ∨ gy22 ≠ bq8))) Gw30)
                      have B117 := (Own.gr (Own.kz B85 Kw24 (tk2 ((pv_sw (pv_1 (A := (fun x => zy10 = 0 ∨ x ≠ gy10)) Fw18_1 (pv_0 (A := (fun x => zy10 = 0 ∨ x ≠ gy10)) Fw15_3 (fun x hx => (tk1 lt37.o))) (fun x hx => (tk1 lt37.o)))) : zy10 = 0 ∨ zy22 = 0 ∨ gy10 ≠ gy22) ((pv_lt (A := (fun x => x ≠ bq13)) lt37) : zy10 = 0 ∨ gy10 ≠ bq13))) Gw30)
                      have B118 := (Bx.gr (Bx.kz (Bx.kz (Bx.md (Bx.gr (Bx.kz (Bx.gr (Bx.gr (Bx.gr Fw11_4 Gw12) Gw13) Gw14) Kw15) Gw16) Mw17) Kw18 (tk1 ((pv_0 (A := (fun x => x ≠ bq11)) Fw15_3) : zy16 = 0 ∨ gy16 ≠ bq11))) Kw24 (tk1 ((pv_1 (A := (fun x => x ≠ bq11)) Fw18_1 (pv_0 (A := (fun x => x ≠ bq11)) Fw15_3)) : zy22 = 0 ∨ gy22 ≠ bq11))) Gw30)
                      have hb := bnd hm; clear hm; obtain ⟨x35, hx35, hm⟩ := hb
                      refine dd_z [] rfl rfl rfl (ev_callV en_70 rfl rfl (poly_Seal_1_w 0#64 p1 (THeader.mk [] a14 a31 k0 (drv p3 (un8 53#8) 0#64)) a9 p1.Group.Q _ _ _ _ _ _ _ _ _ _ _ _ _ _ _ _ _ hx35 _ B112 B113 (Own.rd B114) (Own.rd B115) B116 (Own.rd B117) B118)) ⟨fun _ => tk0, trivial⟩ ?_
                      rintro _ w31 ⟨rfl, Gw31⟩
                      have z119 := Gw31.size
                      refine ⟨Kz.ofGr Gw31, ?_⟩
                      have hb := bnd hm; clear hm; obtain ⟨x36, hx36, hm⟩ := hb
                      refine dd_z [] rfl rfl rfl (ev_call en_72 rfl (poly_maskKey_w x35 _ hx36 _)) ⟨fun _ => tk0, trivial⟩ ?_
                      rintro _ w32 ⟨rfl, Gw32⟩
                      have z120 := Gw32.size
                      refine ⟨Kz.ofGr Gw32, ?_⟩
                      refine dd_z [] rfl rfl rfl (ev_call en_62 rfl (encr_c x36 p3 _)) ⟨fun _ => tk0, trivial⟩ ?_
                      rintro _ w33 ⟨rfl, Gw33⟩
                      have z121 := Gw33.size
                      refine ⟨Kz.ofGr Gw33, ?_⟩
                      have S122 := (Kp.gr (Kp.gr (Kp.gr (Kp.refl ([bq13]) w30) Gw31) Gw32) Gw33)
                      refine dd_hn 0 rfl rfl rfl rfl S122 (fun w hS => vv_fieldAddr fa_45_3 rfl) ?_
                      have B123 := (Bx.gr (Bx.gr (Bx.gr B113 Gw31) Gw32) Gw33)
                      refine dd_z [(1, bq13)] rfl rfl rfl (ev_stM (cs' := THeader.cs (THeader.mk [] a14 a31 (encr x36 p3) (drv p3 (un8 53#8) 0#64)) vy15 vy32) (vs := kb (encr x36 p3)) (agg_23).siz rfl rfl rfl rfl rfl B123 rfl (by obtain ⟨kk0, hk0⟩ := ex_of (drv p3 (un8 53#8) 0#64); rw [← hk0]; obtain ⟨kk1, hk1⟩ := ex_of (encr x36 p3); rw [← hk1]; first | done | rfl)) ⟨fun _ => tk0, trivial⟩ ?_
                      rintro _ w34 ⟨Bw34, Mw34⟩
                      have z124 := Mw34.size
                      refine ⟨Kz.ofMd Mw34, ?_⟩
                      refine sd_done ?_
                      refine sw_seq ?_
                      -- region 26 poly.go:172
                      refine sw_region [(0, 0), (1, 0), (2, 0)] rfl rfl rfl ?_
                      refine sd_vv rfl rfl rfl (vv_loadW agg_45 rfl Bw34 rfl) ?_
                      have B125 := (Bx.md (Bx.gr (Bx.gr (Bx.gr (Bx.gr (Bx.kz (Bx.kz (Bx.md (Bx.gr (Bx.kz (Bx.gr (Bx.gr (Bx.gr (Bx.kz (Bx.kz (Bx.gr Bw4 Gw5) Kw7) Kw11) Gw12) Gw13) Gw14) Kw15) Gw16) Mw17) Kw18 (tk1 ((pv_0 (A := (fun x => x ≠ b4)) Fw15_3) : zy16 = 0 ∨ gy16 ≠ b4))) Kw24 (tk1 ((pv_1 (A := (fun x => x ≠ b4)) Fw18_1 (pv_0 (A := (fun x => x ≠ b4)) Fw15_3)) : zy22 = 0 ∨ gy22 ≠ b4))) Gw30) Gw31) Gw32) Gw33) Mw34)
                      have B126 := (Own.md (Own.gr (Own.gr (Own.gr B114 Gw31) Gw32) Gw33) Mw34 (tk1 ((tk1 Fw15_7.o) : zy15 = 0 ∨ gy15 ≠ bq13)))
                      have B127 := (Own.md (Own.gr (Own.gr (Own.gr B115 Gw31) Gw32) Gw33) Mw34 (tk1 ((pv_1 (A := (fun x => x ≠ bq13)) Fw24_1 (pv_1 (A := (fun x => x ≠ bq13)) Fw18_1 (tk1 Fw15_8.o))) : zy32 = 0 ∨ gy32 ≠ bq13)))
                      refine sd_ev rfl rfl rfl (ev_stM (cs' := THeader.cs (THeader.mk [] a14 a31 (encr x36 p3) (drv p3 (un8 53#8) 0#64)) vy15 vy32) (vs := THeader.cs (THeader.mk [] a14 a31 (encr x36 p3) (drv p3 (un8 53#8) 0#64)) vy15 vy32) (agg_45).siz rfl rfl rfl rfl (THeader.cs_ones _ _ _ (Own.oneB B126) (Own.oneB B127)) B125 rfl (by obtain ⟨kk0, hk0⟩ := ex_of (drv p3 (un8 53#8) 0#64); rw [← hk0]; obtain ⟨kk1, hk1⟩ := ex_of (encr x36 p3); rw [← hk1]; first | done | rfl)) ?_
                      rintro _ w35 ⟨Bw35, Mw35⟩
                      have z128 := Mw35.size
                      refine sd_vv rfl rfl rfl (vv_assign rfl) ?_
                      refine sd_done ?_
                      refine sw_ret ?_
                      have B129 := (Own.md B126 Mw35 (tk1 ((pv_0 (A := (fun x => x ≠ b4)) Fw15_1) : zy15 = 0 ∨ gy15 ≠ b4)))
                      have B130 := (Own.md B127 Mw35 (tk1 ((pv_1 (A := (fun x => x ≠ b4)) Fw24_1 (pv_1 (A := (fun x => x ≠ b4)) Fw18_1 (pv_0 (A := (fun x => x ≠ b4)) Fw15_3))) : zy32 = 0 ∨ gy32 ≠ b4)))
                      have X131 : Gr w w35 := (Gr.md (Gr.md (Gr.trans (Gr.trans (Gr.trans (Gr.trans (Gr.kz X83 Kw24 (tk1 ((pv_1 (A := (fun x => w.heap.size ≤ x)) Fw18_1 (pv_0 (A := (fun x => w.heap.size ≤ x)) Fw15_3)) : zy22 = 0 ∨ w.heap.size ≤ gy22))) Gw30) Gw31) Gw32) Gw33) Mw34) Mw35)
                      have hr := Option.some.inj hm
                      subst hr
                      refine ⟨_, _, rfl, res_2 rfl (rv_cellW agg_45 rfl Bw35 rfl) (rv_tmp rfl), ?_⟩
                      exact ⟨vy15, zy15, gy15, vy32, zy32, gy32, rfl, B129, ⟨(pv_0 (A := (fun x => w.heap.size ≤ x)) Fw15_1)⟩, B130, ⟨(pv_1 (A := (fun x => w.heap.size ≤ x)) Fw24_1 (pv_1 (A := (fun x => w.heap.size ≤ x)) Fw18_1 (pv_0 (A := (fun x => w.heap.size ≤ x)) Fw15_3)))⟩, ⟨(pv_1 (A := (fun x => zy15 = 0 ∨ x ≠ gy15)) Fw24_1 (pv_1 (A := (fun x => zy15 = 0 ∨ x ≠ gy15)) Fw18_1 (tk1 Fw15_6.o) (fun x hx => (tk1 lt47.o))) (fun x hx => (tk1 lt47.o)))⟩, X131⟩
            ·
              -- region 13 poly.go:162 DRAWS
              refine sw_drawN [([])] [] (.fork [(0, 10), (1, 10), (2, 10), (3, 10), (4, 10), (6, 10)] (.fork [(5, 0)] (.leaf [(7, 0), (8, 10), (9, 0), (10, 0)]) (.leaf [(9, 0), (7, 0), (8, 10), (10, 0)])) (.leaf [(9, 0), (5, 0), (7, 0), (8, 10), (10, 0)])) (by kernel_rfl) (by kernel_rfl) rfl (by kernel_rfl) ?_
              intro w36 Gw36 zw36
              refine sdz_fork ?_
              have B132 := (Bx.gr (Bx.gr (Bx.gr B41 Gw13) Gw14) Gw36)
              refine dd_hn 0 rfl rfl rfl rfl (Kp.refl ([]) w36) (fun w hS => vv_loadW agg_28 rfl (Bx.kp B132 hS) rfl) ?_
              refine dd_hn 0 rfl rfl rfl rfl (Kp.refl ([]) w36) (fun w hS => vv_fieldAddr fa_28_3 rfl) ?_
              refine dd_hn 0 rfl rfl rfl rfl (Kp.refl ([]) w36) (fun w hS => vv_fieldAddr fa_26_2 rfl) ?_
              refine dd_hn 0 rfl rfl rfl rfl (Kp.refl ([]) w36) (fun w hS => vv_load1 (v := wv p1.Group.G) one_24 rfl (Bx.kp B132 hS) rfl) ?_
              refine dd_hn 0 rfl rfl rfl rfl (Kp.refl ([]) w36) (fun w hS => vv_move rfl) ?_
              have B133 := (Bx.gr (Bx.gr (Bx.gr (Bx.gr (Bx.kz (Bx.kz (Bx.gr (Bx.gr Bw3 Gw4) Gw5) Kw7) Kw11) Gw12) Gw13) Gw14) Gw36)
              refine dd_hn 0 rfl rfl rfl rfl (Kp.refl ([]) w36) (fun w hS => vv_loadW agg_23 rfl (Bx.kp B133 hS) rfl) ?_
              refine sd_fork ?_ ?_
              ·
                refine sdz_fork ?_
                have hb := bnd hm; clear hm; obtain ⟨x37, hx37, hm⟩ := hb
                refine dd_z [] rfl rfl rfl (ev_call en_69 rfl (poly_power_w p1 p1.Group.G (1#64 + x12) _ hx37 _)) ⟨fun _ => tk0, trivial⟩ ?_
                rintro _ w37 ⟨rfl, Gw37⟩
                have z134 := Gw37.size
                refine ⟨Kz.ofGr Gw37, ?_⟩
                refine sd_fork ?_ ?_
                ·
                  refine sdz_leaf ?_
                  refine dd_z [] rfl rfl rfl (ev_call en_52 rfl (derive_c p3 (un8 53#8) (un8_nn _) (un8_le _) 0#64 _)) ⟨fun _ => tk0, trivial⟩ ?_
                  rintro _ w38 ⟨rfl, Gw38⟩
                  have z135 := Gw38.size
                  refine ⟨Kz.ofGr Gw38, ?_⟩
                  have S136 := (Kp.gr (Kp.gr (Kp.refl ([]) w36) Gw37) Gw38)
                  refine dd_hn 0 rfl rfl rfl rfl S136 (fun w hS => vv_build (cs := THeader.cs (THeader.mk [] x37 [] k0 (drv p3 (un8 53#8) 0#64)) (.slice none 0 0) (.slice none 0 0)) bs_45 rfl (by obtain ⟨kk0, hk0⟩ := ex_of (drv p3 (un8 53#8) 0#64); rw [← hk0]; exact (fill_M rfl rfl rfl (fill_M rfl rfl rfl (by kernel_rfl))))) ?_
                  refine dd_z [] rfl rfl rfl (ev_alloc (cs := THeader.cs (THeader.mk [] 0#64 [] k0 k0) (.slice none 0 0) (.slice none 0 0)) zv_45 rfl) ⟨fun _ => tk0, trivial⟩ ?_
                  rintro _ w39 ⟨b39, rfl, hbw39, Bw39, Gw39⟩
                  have z137 := Gw39.size
                  have lt138 := Bw39.lt
                  refine ⟨Kz.ofGr Gw39, ?_⟩
                  refine dd_z [(1, b39)] rfl rfl rfl (ev_stM (cs' := THeader.cs (THeader.mk [] x37 [] k0 (drv p3 (un8 53#8) 0#64)) (.slice none 0 0) (.slice none 0 0)) (vs := THeader.cs (THeader.mk [] x37 [] k0 (drv p3 (un8 53#8) 0#64)) (.slice none 0 0) (.slice none 0 0)) (agg_45).siz rfl rfl rfl rfl (THeader.cs_ones _ _ _ rfl rfl) Bw39 rfl (by obtain ⟨kk0, hk0⟩ := ex_of (drv p3 (un8 53#8) 0#64); rw [← hk0]; first | done | rfl)) ⟨fun _ => tk0, trivial⟩ ?_
                  rintro _ w40 ⟨Bw40, Mw40⟩
                  have z139 := Mw40.size
                  refine ⟨Kz.ofMd Mw40, ?_⟩
                  refine sd_nil ?_
                  have K_140 : Kz [] w14 w40 := (Kz.md (Kz.gr (Kz.gr (Kz.gr (Kz.gr (Kz.refl _ _) Gw36) Gw37) Gw38) Gw39) Mw40)
                  refine ⟨rfl, ⟨x37, b39, (.slice none 0 0), 0, 0, (.slice none 0 0), 0, 0⟩, ?_, hm, (own_nil _ 0 131 18), ⟨(.inl rfl)⟩, (own_nil _ 0 31 2), ⟨(.inl rfl)⟩, Bw40, (by omega), ⟨(.inl rfl)⟩, ⟨.inl rfl⟩, ⟨.inl rfl⟩, K_140⟩
                  repeat' first | exact trivial | refine ⟨rfl, ?_⟩
                ·
                  refine sdz_leaf ?_
                  refine dd_z [] rfl rfl rfl (ev_alloc (cs := THeader.cs (THeader.mk [] 0#64 [] k0 k0) (.slice none 0 0) (.slice none 0 0)) zv_45 rfl) ⟨fun _ => tk0, trivial⟩ ?_
                  rintro _ w41 ⟨b41, rfl, hbw41, Bw41, Gw41⟩
                  have z141 := Gw41.size
                  have lt142 := Bw41.lt
                  refine ⟨Kz.ofGr Gw41, ?_⟩
                  refine dd_z [] rfl rfl rfl (ev_call en_52 rfl (derive_c p3 (un8 53#8) (un8_nn _) (un8_le _) 0#64 _)) ⟨fun _ => tk0, trivial⟩ ?_
                  rintro _ w42 ⟨rfl, Gw42⟩
                  have z143 := Gw42.size
                  refine ⟨Kz.ofGr Gw42, ?_⟩
                  have S144 := (Kp.gr (Kp.gr (Kp.gr (Kp.refl ([]) w36) Gw37) Gw41) Gw42)
                  refine dd_hn 0 rfl rfl rfl rfl S144 (fun w hS => vv_build (cs := THeader.cs (THeader.mk [] x37 [] k0 (drv p3 (un8 53#8) 0#64)) (.slice none 0 0) (.slice none 0 0)) bs_45 rfl (by obtain ⟨kk0, hk0⟩ := ex_of (drv p3 (un8 53#8) 0#64); rw [← hk0]; exact (fill_M rfl rfl rfl (fill_M rfl rfl rfl (by kernel_rfl))))) ?_
                  have B145 := (Bx.gr Bw41 Gw42)
                  refine dd_z [(1, b41)] rfl rfl rfl (ev_stM (cs' := THeader.cs (THeader.mk [] x37 [] k0 (drv p3 (un8 53#8) 0#64)) (.slice none 0 0) (.slice none 0 0)) (vs := THeader.cs (THeader.mk [] x37 [] k0 (drv p3 (un8 53#8) 0#64)) (.slice none 0 0) (.slice none 0 0)) (agg_45).siz rfl rfl rfl rfl (THeader.cs_ones _ _ _ rfl rfl) B145 rfl (by obtain ⟨kk0, hk0⟩ := ex_of (drv p3 (un8 53#8) 0#64); rw [← hk0]; first | done | rfl)) ⟨fun _ => tk0, trivial⟩ ?_
                  rintro _ w43 ⟨Bw43, Mw43⟩
                  have z146 := Mw43.size
                  refine ⟨Kz.ofMd Mw43, ?_⟩
                  refine sd_nil ?_
                  have K_147 : Kz [] w14 w43 := (Kz.md (Kz.gr (Kz.gr (Kz.gr (Kz.gr (Kz.refl _ _) Gw36) Gw37) Gw41) Gw42) Mw43)
                  refine ⟨rfl, ⟨x37, b41, (.slice none 0 0), 0, 0, (.slice none 0 0), 0, 0⟩, ?_, hm, (own_nil _ 0 131 18), ⟨(.inl rfl)⟩, (own_nil _ 0 31 2), ⟨(.inl rfl)⟩, Bw43, (by omega), ⟨(.inl rfl)⟩, ⟨.inl rfl⟩, ⟨.inl rfl⟩, K_147⟩
                  repeat' first | exact trivial | refine ⟨rfl, ?_⟩
              ·
                refine sdz_leaf ?_
                refine dd_z [] rfl rfl rfl (ev_alloc (cs := THeader.cs (THeader.mk [] 0#64 [] k0 k0) (.slice none 0 0) (.slice none 0 0)) zv_45 rfl) ⟨fun _ => tk0, trivial⟩ ?_
                rintro _ w44 ⟨b44, rfl, hbw44, Bw44, Gw44⟩
                have z148 := Gw44.size
                have lt149 := Bw44.lt
                refine ⟨Kz.ofGr Gw44, ?_⟩
                have hb := bnd hm; clear hm; obtain ⟨x38, hx38, hm⟩ := hb
                refine dd_z [] rfl rfl rfl (ev_call en_69 rfl (poly_power_w p1 p1.Group.G (1#64 + x12) _ hx38 _)) ⟨fun _ => tk0, trivial⟩ ?_
                rintro _ w45 ⟨rfl, Gw45⟩
                have z150 := Gw45.size
                refine ⟨Kz.ofGr Gw45, ?_⟩
                refine dd_z [] rfl rfl rfl (ev_call en_52 rfl (derive_c p3 (un8 53#8) (un8_nn _) (un8_le _) 0#64 _)) ⟨fun _ => tk0, trivial⟩ ?_
                rintro _ w46 ⟨rfl, Gw46⟩
                have z151 := Gw46.size
                refine ⟨Kz.ofGr Gw46, ?_⟩
                have S152 := (Kp.gr (Kp.gr (Kp.gr (Kp.refl ([]) w36) Gw44) Gw45) Gw46)
                refine dd_hn 0 rfl rfl rfl rfl S152 (fun w hS => vv_build (cs := THeader.cs (THeader.mk [] x38 [] k0 (drv p3 (un8 53#8) 0#64)) (.slice none 0 0) (.slice none 0 0)) bs_45 rfl (by obtain ⟨kk0, hk0⟩ := ex_of (drv p3 (un8 53#8) 0#64); rw [← hk0]; exact (fill_M rfl rfl rfl (fill_M rfl rfl rfl (by kernel_rfl))))) ?_
                have B153 := (Bx.gr (Bx.gr Bw44 Gw45) Gw46)
                refine dd_z [(1, b44)] rfl rfl rfl (ev_stM (cs' := THeader.cs (THeader.mk [] x38 [] k0 (drv p3 (un8 53#8) 0#64)) (.slice none 0 0) (.slice none 0 0)) (vs := THeader.cs (THeader.mk [] x38 [] k0 (drv p3 (un8 53#8) 0#64)) (.slice none 0 0) (.slice none 0 0)) (agg_45).siz rfl rfl rfl rfl (THeader.cs_ones _ _ _ rfl rfl) B153 rfl (by obtain ⟨kk0, hk0⟩ := ex_of (drv p3 (un8 53#8) 0#64); rw [← hk0]; first | done | rfl)) ⟨fun _ => tk0, trivial⟩ ?_
                rintro _ w47 ⟨Bw47, Mw47⟩
                have z154 := Mw47.size
                refine ⟨Kz.ofMd Mw47, ?_⟩
                refine sd_nil ?_
                have K_155 : Kz [] w14 w47 := (Kz.md (Kz.gr (Kz.gr (Kz.gr (Kz.gr (Kz.refl _ _) Gw36) Gw44) Gw45) Gw46) Mw47)
                refine ⟨rfl, ⟨x38, b44, (.slice none 0 0), 0, 0, (.slice none 0 0), 0, 0⟩, ?_, hm, (own_nil _ 0 131 18), ⟨(.inl rfl)⟩, (own_nil _ 0 31 2), ⟨(.inl rfl)⟩, Bw47, (by omega), ⟨(.inl rfl)⟩, ⟨.inl rfl⟩, ⟨.inl rfl⟩, K_155⟩
                repeat' first | exact trivial | refine ⟨rfl, ?_⟩
          ·
            -- region 11 poly.go:160 DRAWS
            refine sw_drawN [([])] [] (.fork [(0, 10), (1, 10), (3, 10), (4, 10), (5, 10)] (.fork [(2, 0)] (.leaf [(6, 0), (7, 0), (8, 0), (9, 0)]) (.leaf [(7, 0), (6, 0), (8, 0), (9, 0)])) (.fork [] (.fork [(6, 0)] (.leaf [(2, 0), (7, 0), (8, 0), (9, 0)]) (.leaf [(7, 0), (2, 0), (8, 0), (9, 0)])) (.fork [(7, 0)] (.leaf [(2, 0), (6, 0), (8, 0), (9, 0)]) (.leaf [(6, 0), (2, 0), (8, 0), (9, 0)])))) (by kernel_rfl) (by kernel_rfl) rfl (by kernel_rfl) ?_
            intro w48 Gw48 zw48
            refine sdz_fork ?_
            have B156 := (Bx.gr (Bx.kz (Bx.gr (Bx.gr (Bx.gr (Bx.gr Bw1 Gw2) Gw3) Gw4) Gw5) Kw7) Gw48)
            refine dd_hn 0 rfl rfl rfl rfl (Kp.refl ([]) w48) (fun w hS => vv_loadW agg_23 rfl (Bx.kp B156 hS) rfl) ?_
            have B157 := (Bx.gr B31 Gw48)
            refine dd_hn 0 rfl rfl rfl rfl (Kp.refl ([]) w48) (fun w hS => vv_loadW agg_28 rfl (Bx.kp B157 hS) rfl) ?_
            refine dd_hn 0 rfl rfl rfl rfl (Kp.refl ([]) w48) (fun w hS => vv_fieldAddr fa_28_3 rfl) ?_
            refine dd_hn 0 rfl rfl rfl rfl (Kp.refl ([]) w48) (fun w hS => vv_fieldAddr fa_26_1 rfl) ?_
            refine dd_hn 0 rfl rfl rfl rfl (Kp.refl ([]) w48) (fun w hS => vv_load1 (v := wv p1.Group.Q) one_24 rfl (Bx.kp B157 hS) rfl) ?_
            refine sd_fork ?_ (sdz_fork (sd_fork ?_ ?_))
            ·
              refine sdz_fork ?_
              have hb := bnd hm; clear hm; obtain ⟨x39, hx39, hm⟩ := hb
              refine dd_z [] rfl rfl rfl (ev_call en_64 rfl (poly_secret_w p0 p1 _ hx39 _)) ⟨fun _ => tk0, trivial⟩ ?_
              rintro u49_r0_s w49 ⟨_, z49_r0_s, g49_r0_s, rfl, O49_r0_s, f49_r0_s, Gw49⟩
              have z158 := Gw49.size
              have lt159 := O49_r0_s.lth
              refine ⟨Kz.ofGr Gw49, ?_⟩
              refine sd_fork ?_ ?_
              ·
                refine sdz_leaf ?_
                refine dd_z [] rfl rfl rfl (ev_alloc (cs := [(.slice none 0 0)]) zv_116 rfl) ⟨fun _ => tk0, trivial⟩ ?_
                rintro _ w50 ⟨b50, rfl, hbw50, Bw50, Gw50⟩
                have z160 := Gw50.size
                have lt161 := Bw50.lt
                refine ⟨Kz.ofGr Gw50, ?_⟩
                refine dd_z [] rfl rfl rfl (ev_alloc (cs := [wv 0#64]) zv_119 rfl) ⟨fun _ => tk0, trivial⟩ ?_
                rintro _ w51 ⟨b51, rfl, hbw51, Bw51, Gw51⟩
                have z162 := Gw51.size
                have lt163 := Bw51.lt
                refine ⟨Kz.ofGr Gw51, ?_⟩
                have B164 := (Bx.gr Bw50 Gw51)
                have B165 := (Own.gr (Own.gr O49_r0_s Gw50) Gw51)
                refine dd_z [(1, b50)] rfl rfl rfl (ev_st1 (cs' := [u49_r0_s]) (one_116).siz rfl rfl (Own.oneB B165) B164 rfl rfl) ⟨fun _ => tk0, trivial⟩ ?_
                rintro _ w52 ⟨Bw52, Mw52⟩
                have z166 := Mw52.size
                refine ⟨Kz.ofMd Mw52, ?_⟩
                have B167 := (Bx.md Bw51 Mw52)
                refine dd_z [(1, b51)] rfl rfl rfl (ev_st1 (cs' := [wv p1.Group.Q]) (one_119).siz rfl rfl rfl B167 rfl rfl) ⟨fun _ => tk0, trivial⟩ ?_
                rintro _ w53 ⟨Bw53, Mw53⟩
                have z168 := Mw53.size
                refine ⟨Kz.ofMd Mw53, ?_⟩
                refine sd_nil ?_
                have K_169 : Kz [] w7 w53 := (Kz.md (Kz.md (Kz.gr (Kz.gr (Kz.gr (Kz.gr (Kz.refl _ _) Gw48) Gw49) Gw50) Gw51) Mw52) Mw53)
                have B170 := (Own.md (Own.md B165 Mw52 (tk1 ((pv_lt (A := (fun x => x ≠ b50)) lt159) : z49_r0_s = 0 ∨ g49_r0_s ≠ b50))) Mw53 (tk1 ((pv_lt (A := (fun x => x ≠ b51)) lt159) : z49_r0_s = 0 ∨ g49_r0_s ≠ b51)))
                have B171 := (Bx.md Bw52 Mw53)
                refine ⟨rfl, ⟨x39, b50, u49_r0_s, z49_r0_s, g49_r0_s, b51⟩, ?_, hm, B170, ⟨(pv_0 (A := (fun x => w7.heap.size ≤ x)) f49_r0_s)⟩, B171, (by omega), Bw53, (by omega), ⟨(pv_lt (A := (fun x => x ≠ b50)) lt159)⟩, (by omega), ⟨(pv_lt (A := (fun x => x ≠ b51)) lt159)⟩, K_169⟩
                repeat' first | exact trivial | refine ⟨rfl, ?_⟩
              ·
                refine sdz_leaf ?_
                refine dd_z [] rfl rfl rfl (ev_alloc (cs := [wv 0#64]) zv_119 rfl) ⟨fun _ => tk0, trivial⟩ ?_
                rintro _ w54 ⟨b54, rfl, hbw54, Bw54, Gw54⟩
                have z172 := Gw54.size
                have lt173 := Bw54.lt
                refine ⟨Kz.ofGr Gw54, ?_⟩
                refine dd_z [] rfl rfl rfl (ev_alloc (cs := [(.slice none 0 0)]) zv_116 rfl) ⟨fun _ => tk0, trivial⟩ ?_
                rintro _ w55 ⟨b55, rfl, hbw55, Bw55, Gw55⟩
                have z174 := Gw55.size
                have lt175 := Bw55.lt
                refine ⟨Kz.ofGr Gw55, ?_⟩
                have B176 := (Own.gr (Own.gr O49_r0_s Gw54) Gw55)
                refine dd_z [(1, b55)] rfl rfl rfl (ev_st1 (cs' := [u49_r0_s]) (one_116).siz rfl rfl (Own.oneB B176) Bw55 rfl rfl) ⟨fun _ => tk0, trivial⟩ ?_
                rintro _ w56 ⟨Bw56, Mw56⟩
                have z177 := Mw56.size
                refine ⟨Kz.ofMd Mw56, ?_⟩
                have B178 := (Bx.md (Bx.gr Bw54 Gw55) Mw56)
                refine dd_z [(1, b54)] rfl rfl rfl (ev_st1 (cs' := [wv p1.Group.Q]) (one_119).siz rfl rfl rfl B178 rfl rfl) ⟨fun _ => tk0, trivial⟩ ?_
                rintro _ w57 ⟨Bw57, Mw57⟩
                have z179 := Mw57.size
                refine ⟨Kz.ofMd Mw57, ?_⟩
                refine sd_nil ?_
                have K_180 : Kz [] w7 w57 := (Kz.md (Kz.md (Kz.gr (Kz.gr (Kz.gr (Kz.gr (Kz.refl _ _) Gw48) Gw49) Gw54) Gw55) Mw56) Mw57)
                have B181 := (Own.md (Own.md B176 Mw56 (tk1 ((pv_lt (A := (fun x => x ≠ b55)) lt159) : z49_r0_s = 0 ∨ g49_r0_s ≠ b55))) Mw57 (tk1 ((pv_lt (A := (fun x => x ≠ b54)) lt159) : z49_r0_s = 0 ∨ g49_r0_s ≠ b54)))
                have B182 := (Bx.md Bw56 Mw57)
                refine ⟨rfl, ⟨x39, b55, u49_r0_s, z49_r0_s, g49_r0_s, b54⟩, ?_, hm, B181, ⟨(pv_0 (A := (fun x => w7.heap.size ≤ x)) f49_r0_s)⟩, B182, (by omega), Bw57, (by omega), ⟨(pv_lt (A := (fun x => x ≠ b55)) lt159)⟩, (by omega), ⟨(pv_lt (A := (fun x => x ≠ b54)) lt159)⟩, K_180⟩
                repeat' first | exact trivial | refine ⟨rfl, ?_⟩
            ·
              refine sdz_fork ?_
              refine dd_z [] rfl rfl rfl (ev_alloc (cs := [(.slice none 0 0)]) zv_116 rfl) ⟨fun _ => tk0, trivial⟩ ?_
              rintro _ w58 ⟨b58, rfl, hbw58, Bw58, Gw58⟩
              have z183 := Gw58.size
              have lt184 := Bw58.lt
              refine ⟨Kz.ofGr Gw58, ?_⟩
              refine sd_fork ?_ ?_
              ·
                refine sdz_leaf ?_
                have hb := bnd hm; clear hm; obtain ⟨x40, hx40, hm⟩ := hb
                refine dd_z [] rfl rfl rfl (ev_call en_64 rfl (poly_secret_w p0 p1 _ hx40 _)) ⟨fun _ => tk0, trivial⟩ ?_
                rintro u59_r0_s w59 ⟨_, z59_r0_s, g59_r0_s, rfl, O59_r0_s, f59_r0_s, Gw59⟩
                have z185 := Gw59.size
                have lt186 := O59_r0_s.lth
                refine ⟨Kz.ofGr Gw59, ?_⟩
                refine dd_z [] rfl rfl rfl (ev_alloc (cs := [wv 0#64]) zv_119 rfl) ⟨fun _ => tk0, trivial⟩ ?_
                rintro _ w60 ⟨b60, rfl, hbw60, Bw60, Gw60⟩
                have z187 := Gw60.size
                have lt188 := Bw60.lt
                refine ⟨Kz.ofGr Gw60, ?_⟩
                have B189 := (Bx.gr (Bx.gr Bw58 Gw59) Gw60)
                have B190 := (Own.gr O59_r0_s Gw60)
                refine dd_z [(1, b58)] rfl rfl rfl (ev_st1 (cs' := [u59_r0_s]) (one_116).siz rfl rfl (Own.oneB B190) B189 rfl rfl) ⟨fun _ => tk0, trivial⟩ ?_
                rintro _ w61 ⟨Bw61, Mw61⟩
                have z191 := Mw61.size
                refine ⟨Kz.ofMd Mw61, ?_⟩
                have B192 := (Bx.md Bw60 Mw61)
                refine dd_z [(1, b60)] rfl rfl rfl (ev_st1 (cs' := [wv p1.Group.Q]) (one_119).siz rfl rfl rfl B192 rfl rfl) ⟨fun _ => tk0, trivial⟩ ?_
                rintro _ w62 ⟨Bw62, Mw62⟩
                have z193 := Mw62.size
                refine ⟨Kz.ofMd Mw62, ?_⟩
                refine sd_nil ?_
                have K_194 : Kz [] w7 w62 := (Kz.md (Kz.md (Kz.gr (Kz.gr (Kz.gr (Kz.gr (Kz.refl _ _) Gw48) Gw58) Gw59) Gw60) Mw61) Mw62)
                have B195 := (Own.md (Own.md B190 Mw61 (tk1 ((pv_0 (A := (fun x => x ≠ b58)) f59_r0_s) : z59_r0_s = 0 ∨ g59_r0_s ≠ b58))) Mw62 (tk1 ((pv_lt (A := (fun x => x ≠ b60)) lt186) : z59_r0_s = 0 ∨ g59_r0_s ≠ b60)))
                have B196 := (Bx.md Bw61 Mw62)
                refine ⟨rfl, ⟨x40, b58, u59_r0_s, z59_r0_s, g59_r0_s, b60⟩, ?_, hm, B195, ⟨(pv_0 (A := (fun x => w7.heap.size ≤ x)) f59_r0_s)⟩, B196, (by omega), Bw62, (by omega), ⟨(pv_0 (A := (fun x => x ≠ b58)) f59_r0_s)⟩, (by omega), ⟨(pv_lt (A := (fun x => x ≠ b60)) lt186)⟩, K_194⟩
                repeat' first | exact trivial | refine ⟨rfl, ?_⟩
              ·
                refine sdz_leaf ?_
                refine dd_z [] rfl rfl rfl (ev_alloc (cs := [wv 0#64]) zv_119 rfl) ⟨fun _ => tk0, trivial⟩ ?_
                rintro _ w63 ⟨b63, rfl, hbw63, Bw63, Gw63⟩
                have z197 := Gw63.size
                have lt198 := Bw63.lt
                refine ⟨Kz.ofGr Gw63, ?_⟩
                have hb := bnd hm; clear hm; obtain ⟨x41, hx41, hm⟩ := hb
                refine dd_z [] rfl rfl rfl (ev_call en_64 rfl (poly_secret_w p0 p1 _ hx41 _)) ⟨fun _ => tk0, trivial⟩ ?_
                rintro u64_r0_s w64 ⟨_, z64_r0_s, g64_r0_s, rfl, O64_r0_s, f64_r0_s, Gw64⟩
                have z199 := Gw64.size
                have lt200 := O64_r0_s.lth
                refine ⟨Kz.ofGr Gw64, ?_⟩
                have B201 := (Bx.gr (Bx.gr Bw58 Gw63) Gw64)
                refine dd_z [(1, b58)] rfl rfl rfl (ev_st1 (cs' := [u64_r0_s]) (one_116).siz rfl rfl (Own.oneB O64_r0_s) B201 rfl rfl) ⟨fun _ => tk0, trivial⟩ ?_
                rintro _ w65 ⟨Bw65, Mw65⟩
                have z202 := Mw65.size
                refine ⟨Kz.ofMd Mw65, ?_⟩
                have B203 := (Bx.md (Bx.gr Bw63 Gw64) Mw65)
                refine dd_z [(1, b63)] rfl rfl rfl (ev_st1 (cs' := [wv p1.Group.Q]) (one_119).siz rfl rfl rfl B203 rfl rfl) ⟨fun _ => tk0, trivial⟩ ?_
                rintro _ w66 ⟨Bw66, Mw66⟩
                have z204 := Mw66.size
                refine ⟨Kz.ofMd Mw66, ?_⟩
                refine sd_nil ?_
                have K_205 : Kz [] w7 w66 := (Kz.md (Kz.md (Kz.gr (Kz.gr (Kz.gr (Kz.gr (Kz.refl _ _) Gw48) Gw58) Gw63) Gw64) Mw65) Mw66)
                have B206 := (Own.md (Own.md O64_r0_s Mw65 (tk1 ((pv_0 (A := (fun x => x ≠ b58)) f64_r0_s) : z64_r0_s = 0 ∨ g64_r0_s ≠ b58))) Mw66 (tk1 ((pv_0 (A := (fun x => x ≠ b63)) f64_r0_s) : z64_r0_s = 0 ∨ g64_r0_s ≠ b63)))
                have B207 := (Bx.md Bw65 Mw66)
                refine ⟨rfl, ⟨x41, b58, u64_r0_s, z64_r0_s, g64_r0_s, b63⟩, ?_, hm, B206, ⟨(pv_0 (A := (fun x => w7.heap.size ≤ x)) f64_r0_s)⟩, B207, (by omega), Bw66, (by omega), ⟨(pv_0 (A := (fun x => x ≠ b58)) f64_r0_s)⟩, (by omega), ⟨(pv_0 (A := (fun x => x ≠ b63)) f64_r0_s)⟩, K_205⟩
                repeat' first | exact trivial | refine ⟨rfl, ?_⟩
            ·
              refine sdz_fork ?_
              refine dd_z [] rfl rfl rfl (ev_alloc (cs := [wv 0#64]) zv_119 rfl) ⟨fun _ => tk0, trivial⟩ ?_
              rintro _ w67 ⟨b67, rfl, hbw67, Bw67, Gw67⟩
              have z208 := Gw67.size
              have lt209 := Bw67.lt
              refine ⟨Kz.ofGr Gw67, ?_⟩
              refine sd_fork ?_ ?_
              ·
                refine sdz_leaf ?_
                have hb := bnd hm; clear hm; obtain ⟨x42, hx42, hm⟩ := hb
                refine dd_z [] rfl rfl rfl (ev_call en_64 rfl (poly_secret_w p0 p1 _ hx42 _)) ⟨fun _ => tk0, trivial⟩ ?_
                rintro u68_r0_s w68 ⟨_, z68_r0_s, g68_r0_s, rfl, O68_r0_s, f68_r0_s, Gw68⟩
                have z210 := Gw68.size
                have lt211 := O68_r0_s.lth
                refine ⟨Kz.ofGr Gw68, ?_⟩
                refine dd_z [] rfl rfl rfl (ev_alloc (cs := [(.slice none 0 0)]) zv_116 rfl) ⟨fun _ => tk0, trivial⟩ ?_
                rintro _ w69 ⟨b69, rfl, hbw69, Bw69, Gw69⟩
                have z212 := Gw69.size
                have lt213 := Bw69.lt
                refine ⟨Kz.ofGr Gw69, ?_⟩
                have B214 := (Own.gr O68_r0_s Gw69)
                refine dd_z [(1, b69)] rfl rfl rfl (ev_st1 (cs' := [u68_r0_s]) (one_116).siz rfl rfl (Own.oneB B214) Bw69 rfl rfl) ⟨fun _ => tk0, trivial⟩ ?_
                rintro _ w70 ⟨Bw70, Mw70⟩
                have z215 := Mw70.size
                refine ⟨Kz.ofMd Mw70, ?_⟩
                have B216 := (Bx.md (Bx.gr (Bx.gr Bw67 Gw68) Gw69) Mw70)
                refine dd_z [(1, b67)] rfl rfl rfl (ev_st1 (cs' := [wv p1.Group.Q]) (one_119).siz rfl rfl rfl B216 rfl rfl) ⟨fun _ => tk0, trivial⟩ ?_
                rintro _ w71 ⟨Bw71, Mw71⟩
                have z217 := Mw71.size
                refine ⟨Kz.ofMd Mw71, ?_⟩
                refine sd_nil ?_
                have K_218 : Kz [] w7 w71 := (Kz.md (Kz.md (Kz.gr (Kz.gr (Kz.gr (Kz.gr (Kz.refl _ _) Gw48) Gw67) Gw68) Gw69) Mw70) Mw71)
                have B219 := (Own.md (Own.md B214 Mw70 (tk1 ((pv_lt (A := (fun x => x ≠ b69)) lt211) : z68_r0_s = 0 ∨ g68_r0_s ≠ b69))) Mw71 (tk1 ((pv_0 (A := (fun x => x ≠ b67)) f68_r0_s) : z68_r0_s = 0 ∨ g68_r0_s ≠ b67)))
                have B220 := (Bx.md Bw70 Mw71)
                refine ⟨rfl, ⟨x42, b69, u68_r0_s, z68_r0_s, g68_r0_s, b67⟩, ?_, hm, B219, ⟨(pv_0 (A := (fun x => w7.heap.size ≤ x)) f68_r0_s)⟩, B220, (by omega), Bw71, (by omega), ⟨(pv_lt (A := (fun x => x ≠ b69)) lt211)⟩, (by omega), ⟨(pv_0 (A := (fun x => x ≠ b67)) f68_r0_s)⟩, K_218⟩
                repeat' first | exact trivial | refine ⟨rfl, ?_⟩
              ·
                refine sdz_leaf ?_
                refine dd_z [] rfl rfl rfl (ev_alloc (cs := [(.slice none 0 0)]) zv_116 rfl) ⟨fun _ => tk0, trivial⟩ ?_
                rintro _ w72 ⟨b72, rfl, hbw72, Bw72, Gw72⟩
                have z221 := Gw72.size
                have lt222 := Bw72.lt
                refine ⟨Kz.ofGr Gw72, ?_⟩
                have hb := bnd hm; clear hm; obtain ⟨x43, hx43, hm⟩ := hb
                refine dd_z [] rfl rfl rfl (ev_call en_64 rfl (poly_secret_w p0 p1 _ hx43 _)) ⟨fun _ => tk0, trivial⟩ ?_
                rintro u73_r0_s w73 ⟨_, z73_r0_s, g73_r0_s, rfl, O73_r0_s, f73_r0_s, Gw73⟩
                have z223 := Gw73.size
                have lt224 := O73_r0_s.lth
                refine ⟨Kz.ofGr Gw73, ?_⟩
                have B225 := (Bx.gr Bw72 Gw73)
                refine dd_z [(1, b72)] rfl rfl rfl (ev_st1 (cs' := [u73_r0_s]) (one_116).siz rfl rfl (Own.oneB O73_r0_s) B225 rfl rfl) ⟨fun _ => tk0, trivial⟩ ?_
                rintro _ w74 ⟨Bw74, Mw74⟩
                have z226 := Mw74.size
                refine ⟨Kz.ofMd Mw74, ?_⟩
                have B227 := (Bx.md (Bx.gr (Bx.gr Bw67 Gw72) Gw73) Mw74)
                refine dd_z [(1, b67)] rfl rfl rfl (ev_st1 (cs' := [wv p1.Group.Q]) (one_119).siz rfl rfl rfl B227 rfl rfl) ⟨fun _ => tk0, trivial⟩ ?_
                rintro _ w75 ⟨Bw75, Mw75⟩
                have z228 := Mw75.size
                refine ⟨Kz.ofMd Mw75, ?_⟩
                refine sd_nil ?_
                have K_229 : Kz [] w7 w75 := (Kz.md (Kz.md (Kz.gr (Kz.gr (Kz.gr (Kz.gr (Kz.refl _ _) Gw48) Gw67) Gw72) Gw73) Mw74) Mw75)
                have B230 := (Own.md (Own.md O73_r0_s Mw74 (tk1 ((pv_0 (A := (fun x => x ≠ b72)) f73_r0_s) : z73_r0_s = 0 ∨ g73_r0_s ≠ b72))) Mw75 (tk1 ((pv_0 (A := (fun x => x ≠ b67)) f73_r0_s) : z73_r0_s = 0 ∨ g73_r0_s ≠ b67)))
                have B231 := (Bx.md Bw74 Mw75)
                refine ⟨rfl, ⟨x43, b72, u73_r0_s, z73_r0_s, g73_r0_s, b67⟩, ?_, hm, B230, ⟨(pv_0 (A := (fun x => w7.heap.size ≤ x)) f73_r0_s)⟩, B231, (by omega), Bw75, (by omega), ⟨(pv_0 (A := (fun x => x ≠ b72)) f73_r0_s)⟩, (by omega), ⟨(pv_0 (A := (fun x => x ≠ b67)) f73_r0_s)⟩, K_229⟩
                repeat' first | exact trivial | refine ⟨rfl, ?_⟩

set_option maxHeartbeats 2000000 in
theorem slices_Clone_3bad_w (p0 : List TPoint) (vp0 : Value) (zp0 gp0 op0 : Nat) (r : List TPoint) (hm : slices_Clone_3bad p0 = some r) (w : World) (hp0 : Rd w zp0 gp0 op0 2 vp0 (p0.map TPoint.cs))  :
    Calls Try.prog 121 [vp0].toArray w fun e w' => ∃ v, e = .returned v ∧ (∃ (ur0_s : Value) (zr0_s : Nat) (gr0_s : Nat), v = ur0_s ∧ Own w' zr0_s gr0_s 31 2 ur0_s (r.map TPoint.cs) ∧ Hdn (zr0_s = 0 ∨ w.heap.size ≤ gr0_s) ∧ Gr w w') := by
  have lt1 := hp0.lth
  unfold slices_Clone_3bad at hm
  refine calls_of_sw (R := fun v w' => ∃ (ur0_s : Value) (zr0_s : Nat) (gr0_s : Nat), v = ur0_s ∧ Own w' zr0_s gr0_s 31 2 ur0_s (r.map TPoint.cs) ∧ Hdn (zr0_s = 0 ∨ w.heap.size ≤ gr0_s) ∧ Gr w w') 8 Try.func121 rfl rfl rfl ?_
  refine sw_seq ?_
  -- region 0 slices.go:355
  refine sw_region [(0, 0)] rfl rfl rfl ?_
  refine sd_vv rfl rfl rfl (vv_assign rfl) ?_
  refine sd_done ?_
  refine sw_seq ?_
  refine sw_seq ?_
  -- region 1 slices.go:357
  refine sw_region [(0, 0), (1, 0)] rfl rfl rfl ?_
  refine sd_vv rfl rfl rfl (vv_move rfl) ?_
  rcases rd_nilOr hp0 with ⟨ca2, hv2, hl2⟩ | ⟨aa2, ka2, ca2, hv2⟩
  ·
    replace hm : (some []) = some r := by rw [hl2] at hm; exact hm
    refine sd_vv rfl rfl rfl (vv_eqlNil Try.underlying43 rfl hv2) ?_
    refine sd_done ?_
    refine sw_condT rfl ?_
    refine sw_seq ?_
    -- region 2 slices.go:358
    refine sw_region [(0, 0)] rfl rfl rfl ?_
    refine sd_vv rfl rfl rfl (vv_assign rfl) ?_
    refine sd_done ?_
    refine sw_ret ?_
    refine then_r ?_
    have hr := Option.some.inj hm
    subst hr
    refine ⟨_, _, rfl, res_1 rfl (rv_tmp rfl), ?_⟩
    exact ⟨(.slice none 0 0), 0, 0, rfl, (own_nil _ 0 31 2), ⟨.inl rfl⟩, (Gr.refl w)⟩
  ·
    skip
    refine sd_vv rfl rfl rfl (vv_eqlNil Try.underlying43 rfl hv2) ?_
    refine sd_done ?_
    refine sw_condF rfl ?_
    refine sw_skip ?_
    refine then_n ?_
    refine sw_seq ?_
    -- region 3 slices.go:362
    refine sw_region [(0, 0), (1, 0), (2, 0), (3, 0)] rfl rfl rfl ?_
    refine sd_ev rfl rfl rfl (ev_litT ([] : List TPoint) TPoint.cs bsl_43_0 rfl rfl (ws_of rfl) rfl rfl rfl) ?_
    rintro vw1 w1 ⟨gw1, hbw1, Ow1, Gw1⟩
    have z3 := Gw1.size
    have lt4 := Ow1.lth
    refine sd_vv rfl rfl rfl (vv_move rfl) ?_
    have B5 := (Rd.gr hp0 Gw1)
    have hb := bnd hm; clear hm; obtain ⟨l1, hl1, hm⟩ := hb
    refine sd_ev rfl rfl rfl (ev_appT (l := ([] : List TPoint)) (m := p0) (c := TPoint.cs) apt_43 rfl rfl Ow1 B5 hl1 (by decide)) ?_
    rintro vw2 w2 ⟨zw2, gw2, Ow2, Aw2, qw2, rw2⟩
    have z6 := Aw2.size
    refine sd_vv rfl rfl rfl (vv_assign rfl) ?_
    refine sd_done ?_
    refine sw_ret ?_
    have X7 : Gr w w2 := (Gr.ka (Gr.trans (Gr.refl w) Gw1) Aw2 (tk1 ((.inr tk0) : 1 = 0 ∨ w.heap.size ≤ gw1)))
    have hr := Option.some.inj hm
    subst hr
    refine ⟨_, _, rfl, res_1 rfl (rv_tmp rfl), ?_⟩
    exact ⟨vw2, zw2, gw2, rfl, Ow2, ⟨(pv_app (A := (fun x => w.heap.size ≤ x)) rw2 (.inr tk0))⟩, X7⟩

set_option maxHeartbeats 2000000 in
theorem poly_fits_w (p0 : TScheme) (p1 : TSecret) (p2 : THeader) (vp1_1 : Value) (zp1_1 gp1_1 op1_1 : Nat) (vp2_0 : Value) (zp2_0 gp2_0 op2_0 : Nat) (vp2_2 : Value) (zp2_2 gp2_2 op2_2 : Nat) (r : Bool) (hm : poly_fits p0 p1 p2 = some r) (w : World) (hp1_1 : Rd w zp1_1 gp1_1 op1_1 18 vp1_1 (p1.Labels.map TLabel.cs)) (hp2_0 : Rd w zp2_0 gp2_0 op2_0 18 vp2_0 (p2.Items.map TItem.cs)) (hp2_2 : Rd w zp2_2 gp2_2 op2_2 2 vp2_2 (p2.Points.map TPoint.cs))  :
    Calls Try.prog 74 [.agg (TScheme.cs p0).toArray, .agg (TSecret.cs p1 vp1_1).toArray, .agg (THeader.cs p2 vp2_0 vp2_2).toArray].toArray w fun e w' => ∃ v, e = .returned v ∧ (v = .bool r ∧ Gr w w') := by
  have lt1 := hp1_1.lth
  have lt2 := hp2_0.lth
  have lt3 := hp2_2.lth
  unfold poly_fits at hm
  refine calls_of_sw (R := fun v w' => v = .bool r ∧ Gr w w') 91 Try.func74 rfl rfl rfl ?_
  refine sw_seq ?_
  -- region 0 poly.go:176
  refine sw_region [(0, 0), (1, 0), (2, 0), (3, 0)] rfl rfl rfl ?_
  refine sd_ev rfl rfl rfl (ev_box (cs := TScheme.cs p0) rfl rfl) ?_
  rintro _ w1 ⟨b1, rfl, hbw1, Bw1, Gw1⟩
  have z4 := Gw1.size
  have lt5 := Bw1.lt
  refine sd_ev rfl rfl rfl (ev_box (cs := TSecret.cs p1 vp1_1) rfl rfl) ?_
  rintro _ w2 ⟨b2, rfl, hbw2, Bw2, Gw2⟩
  have z6 := Gw2.size
  have lt7 := Bw2.lt
  refine sd_ev rfl rfl rfl (ev_box (cs := THeader.cs p2 vp2_0 vp2_2) rfl rfl) ?_
  rintro _ w3 ⟨b3, rfl, hbw3, Bw3, Gw3⟩
  have z8 := Gw3.size
  have lt9 := Bw3.lt
  refine sd_vv rfl rfl rfl (vv_assign rfl) ?_
  refine sd_done ?_
  refine sw_scope ?_
  have X10 : Gr w w3 := (Gr.trans (Gr.trans (Gr.trans (Gr.refl w) Gw1) Gw2) Gw3)
  refine sw_joinD (β := Bool) [7, 10, 11, 12, 13, 14, 15, 16, 17, 18, 19, 20, 21, 22, 23, 24, 25, 26, 27, 28, 29, 30, 31, 32, 33, 34, 35, 36, 37, 38, 39] (fun a1 => [(7, .bool a1)]) (fun a1 wr => (poly_fits_J1 p0 p1 p2 a1 = some r) ∧ Kz [] w3 wr) ?_ ?_
  · clear hm; rintro a1 w4 ⟨hm, Kw4⟩
    have z11 := Kw4.size
    unfold poly_fits_J1 at hm
    refine sw_seq ?_
    refine sw_label ?_
    refine then_n ?_
    have X12 : Gr w w4 := (Gr.kz X10 Kw4)
    refine sw_joinD (β := Bool) [7, 9, 40, 41, 42, 43, 44, 45, 46, 47, 48, 49, 50, 51, 52, 53, 54, 55, 56, 57, 58, 59, 60, 61, 62, 63, 64, 65, 66, 67, 68, 69, 70, 71, 72, 73, 74, 75, 76, 77, 78, 79, 80] (fun a2 => [(7, .bool a2)]) (fun a2 wr => (poly_fits_J2 p0 p1 a2 = some r) ∧ Kz [] w4 wr) ?_ ?_
    · clear hm; rintro a2 w5 ⟨hm, Kw5⟩
      have z13 := Kw5.size
      unfold poly_fits_J2 at hm
      refine sw_seq ?_
      -- region 8 poly.go:185
      refine sw_region [(0, 0), (1, 0), (2, 0), (3, 0), (4, 0), (5, 0), (6, 0), (7, 0), (8, 0), (9, 0), (10, 0)] rfl rfl rfl ?_
      refine sd_vv rfl rfl rfl (vv_move rfl) ?_
      refine sd_split rfl rfl rfl (vv_move rfl) (fun c1 => ?_) (fun c1 => ?_)
      ·
        replace hm := cnd_t c1 hm
        refine sd_vv rfl rfl rfl (vv_fieldAddr fa_33_2 rfl) ?_
        refine sd_vv rfl rfl rfl (vv_fieldAddr fa_31_1 rfl) ?_
        have B14 := (Bx.kz (Bx.kz (Bx.gr Bw2 Gw3) Kw4) Kw5)
        refine sd_vv rfl rfl rfl (vv_load1 (v := wv p1.Share.Y) one_24 rfl B14 rfl) ?_
        refine sd_vv rfl rfl rfl (vv_fieldAddr fa_28_3 rfl) ?_
        refine sd_vv rfl rfl rfl (vv_fieldAddr fa_26_1 rfl) ?_
        have B15 := (Bx.kz (Bx.kz (Bx.gr (Bx.gr Bw1 Gw2) Gw3) Kw4) Kw5)
        refine sd_vv rfl rfl rfl (vv_load1 (v := wv p0.Group.Q) one_24 rfl B15 rfl) ?_
        refine sd_vv rfl rfl rfl (vv_lssU (c := p1.Share.Y) (d := p0.Group.Q) rfl rfl) ?_
        refine sd_vv rfl rfl rfl (vv_pickT rfl rfl) ?_
        refine sd_vv rfl rfl rfl (vv_assign rfl) ?_
        refine sd_done ?_
        refine sw_ret ?_
        refine scope_r ?_
        have X16 : Gr w w5 := (Gr.kz X12 Kw5)
        have hr := Option.some.inj hm
        subst hr
        refine ⟨_, _, rfl, res_1 rfl (rv_tmp rfl), ?_⟩
        exact ⟨rfl, X16⟩
      ·
        replace hm := cnd_f c1 hm
        refine sd_skip rfl rfl rfl ?_
        refine sd_skip rfl rfl rfl ?_
        refine sd_skip rfl rfl rfl ?_
        refine sd_skip rfl rfl rfl ?_
        refine sd_skip rfl rfl rfl ?_
        refine sd_skip rfl rfl rfl ?_
        refine sd_skip rfl rfl rfl ?_
        refine sd_vv rfl rfl rfl (vv_pickF rfl rfl) ?_
        refine sd_vv rfl rfl rfl (vv_assign rfl) ?_
        refine sd_done ?_
        refine sw_ret ?_
        refine scope_r ?_
        have X17 : Gr w w5 := (Gr.kz X12 Kw5)
        have hr := Option.some.inj hm
        subst hr
        refine ⟨_, _, rfl, res_1 rfl (rv_tmp rfl), ?_⟩
        exact ⟨rfl, X17⟩
    ·
      refine sw_joinD (β := List TPoint × Int × Value × Nat × Nat) [40, 41, 42, 43, 44, 45, 46, 47, 48, 49, 50] (fun ⟨a3, a5, vy4, zy4, gy4⟩ => [(48, vy4), (49, .int .i64 a5), (50, .int .i64 0)]) (fun ⟨a3, a5, vy4, zy4, gy4⟩ wr => (poly_fits_J3 p0 p1 a1 a3 a5 = some r) ∧ Own wr zy4 gy4 31 2 vy4 (a3.map TPoint.cs) ∧ Hdn (zy4 = 0 ∨ w4.heap.size ≤ gy4) ∧ Kz [] w4 wr) ?_ ?_
      · clear hm; rintro ⟨a3, a5, vy4, zy4, gy4⟩ w6 ⟨hm, Fw6_0, Fw6_1, Kw6⟩
        have z18 := Kw6.size
        have lt19 := Fw6_0.lth
        unfold poly_fits_J3 at hm
        refine sw_block ?_
        have X20 : Gr w w6 := (Gr.kz X12 Kw6)
        have B21 := (Rd.kz (Rd.kz (Rd.gr (Rd.gr (Rd.gr hp1_1 Gw1) Gw2) Gw3) Kw4) Kw6)
        have B22 := (Rd.kz (Rd.kz (Rd.gr (Rd.gr (Rd.gr hp2_0 Gw1) Gw2) Gw3) Kw4) Kw6)
        have B23 := (Rd.kz (Rd.kz (Rd.gr (Rd.gr (Rd.gr hp2_2 Gw1) Gw2) Gw3) Kw4) Kw6)
        refine sw_loopD (α := Nat × Bool × Int) [7, 9, 50, 51, 52, 53, 54, 55, 56, 57, 58, 59, 60, 61, 62, 63, 64, 65, 66, 67, 68, 69, 70, 71, 72, 73, 74, 75, 76, 77, 78, 79, 80] (fun ⟨n4, a8, a9⟩ => [(7, .bool a8), (50, .int .i64 a9)]) (fun ⟨n4, a8, a9⟩ wr => (fixN (poly_fits_L4 p0 p1 a3 a5) n4 (a8, a9) = some r) ∧ Kz [] w6 wr) (fun ⟨n4, a8, a9⟩ => n4) ⟨FUEL, a1, 0⟩ ?_ ?_ ?_
        · repeat' first | exact trivial | refine ⟨rfl, ?_⟩
        · exact ⟨hm, Kz.refl _ _⟩
        · clear hm; rintro ⟨n4, a8, a9⟩ w7 ⟨hm, Kw7⟩
          have z24 := Kw7.size
          have hb := fix_succ hm; clear hm; obtain ⟨n4, rfl, hm⟩ := hb
          generalize hrec4 : fixN (poly_fits_L4 p0 p1 a3 a5) n4 = rec4 at hm
          unfold poly_fits_L4 at hm
          try dsimp only at hm
          refine sw_seq ?_
          -- region 3 poly.go:179
          refine sw_region [(0, 0)] rfl rfl rfl ?_
          refine sd_vv rfl rfl rfl (vv_lss (a := a9) (b := a5) rfl rfl) ?_
          refine sd_done ?_
          refine sw_seq ?_
          refine sw_cond rfl (fun c2 => ?_) (fun c2 => ?_)
          ·
            replace hm := ite_t (of_decide_eq_true c2) hm
            refine sw_skip ?_
            refine then_n ?_
            refine sw_seq ?_
            refine sw_block ?_
            refine sw_seq ?_
            -- region 4 poly.go:179
            refine sw_region [(0, 0), (1, 0), (2, 0), (3, 0)] rfl rfl rfl ?_
            have hb := bnd hm; clear hm; obtain ⟨y10, hy10, hm⟩ := hb
            have B25 := (Own.kz Fw6_0 Kw7)
            refine sd_vv rfl rfl rfl (vv_ixT (i := a9) Try.underlying43 (agg_31).siz rfl (Own.rd B25) rfl hy10) ?_
            refine sd_vv rfl rfl rfl (vv_elWT agg_31 rfl (Own.rd B25) hy10 (by first | rfl | omega)) ?_
            refine sd_ev rfl rfl rfl (ev_alloc (cs := TPoint.cs (TPoint.mk 0#64 0#64)) zv_31 rfl) ?_
            rintro _ w8 ⟨b8, rfl, hbw8, Bw8, Gw8⟩
            have z26 := Gw8.size
            have lt27 := Bw8.lt
            refine sd_ev rfl rfl rfl (ev_stM (cs' := TPoint.cs y10) (vs := TPoint.cs y10) (agg_31).siz rfl rfl rfl rfl rfl Bw8 rfl rfl) ?_
            rintro _ w9 ⟨Bw9, Mw9⟩
            have z28 := Mw9.size
            refine sd_done ?_
            refine sw_seq ?_
            refine sw_seq ?_
            -- region 5 poly.go:180
            refine sw_region [(0, 0), (1, 0)] rfl rfl rfl ?_
            refine sd_vv rfl rfl rfl (vv_move rfl) ?_
            refine sd_vv rfl rfl rfl (vv_not rfl) ?_
            refine sd_done ?_
            refine sw_cond rfl (fun c3 => ?_) (fun c3 => ?_)
            ·
              replace hm := cnd_t c3 hm
              refine sw_exit ?_
              refine then_x ?_
              refine block_o rfl ?_
              refine then_x ?_
              refine then_x ?_
              refine block_x ?_
              have K_29 : Kz [] w4 w9 := (Kz.md (Kz.gr (Kz.kz (Kz.kz (Kz.refl _ _) Kw6) Kw7) Gw8) Mw9)
              refine ⟨rfl, a8, ?_, hm, K_29⟩
              repeat' first | exact trivial | refine ⟨rfl, ?_⟩
            ·
              replace hm := cnd_f c3 hm
              refine sw_skip ?_
              refine then_n ?_
              -- region 6 poly.go:183
              refine sw_region [(0, 0), (1, 0), (2, 0), (3, 0), (4, 0), (5, 0), (6, 0), (7, 0), (8, 0), (9, 0), (10, 0), (11, 0), (12, 0), (13, 0), (14, 0), (15, 0), (16, 0), (17, 0), (18, 0), (19, 0), (20, 0), (21, 0), (22, 0), (23, 0), (24, 0)] rfl rfl rfl ?_
              refine sd_vv rfl rfl rfl (vv_fieldAddr fa_31_0 rfl) ?_
              refine sd_vv rfl rfl rfl (vv_load1 (v := wv y10.X) one_24 rfl Bw9 rfl) ?_
              refine sd_vv rfl rfl rfl (vv_geqU (c := y10.X) (d := 1#64) rfl rfl) ?_
              refine sd_split rfl rfl rfl (vv_move rfl) (fun c4 => ?_) (fun c4 => ?_)
              ·
                replace hm := ite_t (of_decide_eq_true c4) hm
                refine sd_vv rfl rfl rfl (vv_fieldAddr fa_31_0 rfl) ?_
                refine sd_vv rfl rfl rfl (vv_load1 (v := wv y10.X) one_24 rfl Bw9 rfl) ?_
                refine sd_vv rfl rfl rfl (vv_fieldAddr fa_28_3 rfl) ?_
                refine sd_vv rfl rfl rfl (vv_fieldAddr fa_26_1 rfl) ?_
                have B30 := (Bx.md (Bx.gr (Bx.kz (Bx.kz (Bx.kz (Bx.gr (Bx.gr Bw1 Gw2) Gw3) Kw4) Kw6) Kw7) Gw8) Mw9)
                refine sd_vv rfl rfl rfl (vv_load1 (v := wv p0.Group.Q) one_24 rfl B30 rfl) ?_
                refine sd_vv rfl rfl rfl (vv_lssU (c := y10.X) (d := p0.Group.Q) rfl rfl) ?_
                refine sd_vv rfl rfl rfl (vv_pickT rfl rfl) ?_
                refine sd_split rfl rfl rfl (vv_move rfl) (fun c5 => ?_) (fun c5 => ?_)
                ·
                  replace hm := ite_t (of_decide_eq_true c5) hm
                  refine sd_vv rfl rfl rfl (vv_fieldAddr fa_31_1 rfl) ?_
                  refine sd_vv rfl rfl rfl (vv_load1 (v := wv y10.Y) one_24 rfl Bw9 rfl) ?_
                  refine sd_vv rfl rfl rfl (vv_geqU (c := y10.Y) (d := 1#64) rfl rfl) ?_
                  refine sd_vv rfl rfl rfl (vv_pickT rfl rfl) ?_
                  refine sd_split rfl rfl rfl (vv_move rfl) (fun c6 => ?_) (fun c6 => ?_)
                  ·
                    replace hm := ite_t (of_decide_eq_true c6) hm
                    refine sd_vv rfl rfl rfl (vv_fieldAddr fa_31_1 rfl) ?_
                    refine sd_vv rfl rfl rfl (vv_load1 (v := wv y10.Y) one_24 rfl Bw9 rfl) ?_
                    refine sd_vv rfl rfl rfl (vv_fieldAddr fa_28_3 rfl) ?_
                    refine sd_vv rfl rfl rfl (vv_fieldAddr fa_26_0 rfl) ?_
                    refine sd_vv rfl rfl rfl (vv_load1 (v := wv p0.Group.P) one_24 rfl B30 rfl) ?_
                    refine sd_vv rfl rfl rfl (vv_lssU (c := y10.Y) (d := p0.Group.P) rfl rfl) ?_
                    refine sd_vv rfl rfl rfl (vv_pickT rfl rfl) ?_
                    refine sd_vv rfl rfl rfl (vv_assign rfl) ?_
                    refine sd_nil ?_
                    refine block_n ?_
                    refine then_n ?_
                    -- region 7 poly.go:179
                    refine sw_region [(0, 0), (1, 0)] rfl rfl rfl ?_
                    refine sd_vv rfl rfl rfl (vv_add (k := .i64) (a := a9) (b := 1) rfl rfl) ?_
                    refine sd_vv rfl rfl rfl (vv_move rfl) ?_
                    refine sd_nil ?_
                    have K_31 : Kz [] w6 w9 := (Kz.md (Kz.gr Kw7 Gw8) Mw9)
                    subst hrec4
                    refine ⟨rfl, ⟨n4, decide (y10.Y < p0.Group.P), w64 (a9 + 1)⟩, ?_, ⟨hm, K_31⟩, Nat.lt_succ_self _⟩
                    repeat' first | exact trivial | refine ⟨rfl, ?_⟩
                  ·
                    replace hm := ite_f (of_decide_eq_false c6) hm
                    refine sd_skip rfl rfl rfl ?_
                    refine sd_skip rfl rfl rfl ?_
                    refine sd_skip rfl rfl rfl ?_
                    refine sd_skip rfl rfl rfl ?_
                    refine sd_skip rfl rfl rfl ?_
                    refine sd_skip rfl rfl rfl ?_
                    refine sd_vv rfl rfl rfl (vv_pickF rfl rfl) ?_
                    refine sd_vv rfl rfl rfl (vv_assign rfl) ?_
                    refine sd_nil ?_
                    refine block_n ?_
                    refine then_n ?_
                    -- region 7 poly.go:179
                    refine sw_region [(0, 0), (1, 0)] rfl rfl rfl ?_
                    refine sd_vv rfl rfl rfl (vv_add (k := .i64) (a := a9) (b := 1) rfl rfl) ?_
                    refine sd_vv rfl rfl rfl (vv_move rfl) ?_
                    refine sd_nil ?_
                    have K_32 : Kz [] w6 w9 := (Kz.md (Kz.gr Kw7 Gw8) Mw9)
                    subst hrec4
                    refine ⟨rfl, ⟨n4, false, w64 (a9 + 1)⟩, ?_, ⟨hm, K_32⟩, Nat.lt_succ_self _⟩
                    repeat' first | exact trivial | refine ⟨rfl, ?_⟩
                ·
                  replace hm := ite_f (of_decide_eq_false c5) hm
                  refine sd_skip rfl rfl rfl ?_
                  refine sd_skip rfl rfl rfl ?_
                  refine sd_skip rfl rfl rfl ?_
                  refine sd_vv rfl rfl rfl (vv_pickF rfl rfl) ?_
                  refine sd_vv rfl rfl rfl (vv_move rfl) ?_
                  refine sd_skip rfl rfl rfl ?_
                  refine sd_skip rfl rfl rfl ?_
                  refine sd_skip rfl rfl rfl ?_
                  refine sd_skip rfl rfl rfl ?_
                  refine sd_skip rfl rfl rfl ?_
                  refine sd_skip rfl rfl rfl ?_
                  refine sd_vv rfl rfl rfl (vv_pickF rfl rfl) ?_
                  refine sd_vv rfl rfl rfl (vv_assign rfl) ?_
                  refine sd_nil ?_
                  refine block_n ?_
                  refine then_n ?_
                  -- region 7 poly.go:179
                  refine sw_region [(0, 0), (1, 0)] rfl rfl rfl ?_
                  refine sd_vv rfl rfl rfl (vv_add (k := .i64) (a := a9) (b := 1) rfl rfl) ?_
                  refine sd_vv rfl rfl rfl (vv_move rfl) ?_
                  refine sd_nil ?_
                  have K_33 : Kz [] w6 w9 := (Kz.md (Kz.gr Kw7 Gw8) Mw9)
                  subst hrec4
                  refine ⟨rfl, ⟨n4, false, w64 (a9 + 1)⟩, ?_, ⟨hm, K_33⟩, Nat.lt_succ_self _⟩
                  repeat' first | exact trivial | refine ⟨rfl, ?_⟩
              ·
                replace hm := ite_f (of_decide_eq_false c4) hm
                refine sd_skip rfl rfl rfl ?_
                refine sd_skip rfl rfl rfl ?_
                refine sd_skip rfl rfl rfl ?_
                refine sd_skip rfl rfl rfl ?_
                refine sd_skip rfl rfl rfl ?_
                refine sd_skip rfl rfl rfl ?_
                refine sd_vv rfl rfl rfl (vv_pickF rfl rfl) ?_
                refine sd_vv rfl rfl rfl (vv_move rfl) ?_
                refine sd_skip rfl rfl rfl ?_
                refine sd_skip rfl rfl rfl ?_
                refine sd_skip rfl rfl rfl ?_
                refine sd_vv rfl rfl rfl (vv_pickF rfl rfl) ?_
                refine sd_vv rfl rfl rfl (vv_move rfl) ?_
                refine sd_skip rfl rfl rfl ?_
                refine sd_skip rfl rfl rfl ?_
                refine sd_skip rfl rfl rfl ?_
                refine sd_skip rfl rfl rfl ?_
                refine sd_skip rfl rfl rfl ?_
                refine sd_skip rfl rfl rfl ?_
                refine sd_vv rfl rfl rfl (vv_pickF rfl rfl) ?_
                refine sd_vv rfl rfl rfl (vv_assign rfl) ?_
                refine sd_nil ?_
                refine block_n ?_
                refine then_n ?_
                -- region 7 poly.go:179
                refine sw_region [(0, 0), (1, 0)] rfl rfl rfl ?_
                refine sd_vv rfl rfl rfl (vv_add (k := .i64) (a := a9) (b := 1) rfl rfl) ?_
                refine sd_vv rfl rfl rfl (vv_move rfl) ?_
                refine sd_nil ?_
                have K_34 : Kz [] w6 w9 := (Kz.md (Kz.gr Kw7 Gw8) Mw9)
                subst hrec4
                refine ⟨rfl, ⟨n4, false, w64 (a9 + 1)⟩, ?_, ⟨hm, K_34⟩, Nat.lt_succ_self _⟩
                repeat' first | exact trivial | refine ⟨rfl, ?_⟩
          ·
            replace hm := ite_f (of_decide_eq_false c2) hm
            refine sw_exit ?_
            refine then_x ?_
            refine then_x ?_
            refine block_x ?_
            have K_35 : Kz [] w4 w7 := (Kz.kz (Kz.kz (Kz.refl _ _) Kw6) Kw7)
            refine ⟨rfl, a8, ?_, hm, K_35⟩
            repeat' first | exact trivial | refine ⟨rfl, ?_⟩
      ·
        -- region 2 poly.go:179 DRAWS
        refine sw_drawN [([])] [] (.fork [(0, 10), (1, 10), (3, 10), (4, 10), (5, 10), (6, 10), (10, 10)] (.leaf [(2, 0), (7, 0), (8, 0), (9, 0)]) (.leaf [(7, 0), (2, 0), (8, 0), (9, 0)])) (by kernel_rfl) (by kernel_rfl) rfl (by kernel_rfl) ?_
        intro w10 Gw10 zw10
        refine sdz_fork ?_
        refine dd_hn 0 rfl rfl rfl rfl (Kp.refl ([]) w10) (fun w hS => vv_fieldAddr fa_45_2 rfl) ?_
        have B36 := (Bx.gr (Bx.kz Bw3 Kw4) Gw10)
        refine dd_hn 0 rfl rfl rfl rfl (Kp.refl ([]) w10) (fun w hS => vv_load1 (v := vp2_2) one_43 rfl (Bx.kp B36 hS) rfl) ?_
        refine dd_hn 0 rfl rfl rfl rfl (Kp.refl ([]) w10) (fun w hS => vv_fieldAddr fa_33_2 rfl) ?_
        refine dd_hn 0 rfl rfl rfl rfl (Kp.refl ([]) w10) (fun w hS => vv_fieldAddr fa_31_0 rfl) ?_
        have B37 := (Bx.gr (Bx.kz (Bx.gr Bw2 Gw3) Kw4) Gw10)
        refine dd_hn 0 rfl rfl rfl rfl (Kp.refl ([]) w10) (fun w hS => vv_load1 (v := wv p1.Share.X) one_24 rfl (Bx.kp B37 hS) rfl) ?_
        refine dd_hn 0 rfl rfl rfl rfl (Kp.refl ([]) w10) (fun w hS => vv_build (cs := TPoint.cs (TPoint.mk p1.Share.X 1#64)) bs_31 rfl rfl) ?_
        refine dd_hn 0 rfl rfl rfl rfl (Kp.refl ([]) w10) (fun w hS => vv_move rfl) ?_
        refine sd_fork ?_ ?_
        ·
          refine sdz_leaf ?_
          have B38 := (Rd.gr (Rd.kz (Rd.gr (Rd.gr (Rd.gr hp2_2 Gw1) Gw2) Gw3) Kw4) Gw10)
          have hb := bnd hm; clear hm; obtain ⟨x11, hx11, hm⟩ := hb
          refine dd_z [] rfl rfl rfl (ev_call en_121 rfl (slices_Clone_3bad_w p2.Points _ _ _ _ _ hx11 _ B38)) ⟨fun _ => tk0, trivial⟩ ?_
          rintro u11_r0_s w11 ⟨_, z11_r0_s, g11_r0_s, rfl, O11_r0_s, f11_r0_s, Gw11⟩
          have z39 := Gw11.size
          have lt40 := O11_r0_s.lth
          refine ⟨Kz.ofGr Gw11, ?_⟩
          refine dd_z [] rfl rfl rfl (ev_litT [(TPoint.mk p1.Share.X 1#64)] TPoint.cs bsl_43_1 rfl rfl (ws_of rfl) rfl rfl rfl) ⟨fun _ => tk0, trivial⟩ ?_
          rintro vw12 w12 ⟨gw12, hbw12, Ow12, Gw12⟩
          have z41 := Gw12.size
          have lt42 := Ow12.lth
          refine ⟨Kz.ofGr Gw12, ?_⟩
          have B43 := (Own.gr O11_r0_s Gw12)
          have hb := bnd hm; clear hm; obtain ⟨l12, hl12, hm⟩ := hb
          refine dd_z [(z11_r0_s, g11_r0_s)] rfl rfl rfl (ev_appT (l := x11) (m := [(TPoint.mk p1.Share.X 1#64)]) (c := TPoint.cs) apt_43 rfl rfl B43 (Own.rd Ow12) hl12 (by decide)) ⟨fun _ => (tk1 ((pv_0 (A := (fun x => w10.heap.size ≤ x)) f11_r0_s) : z11_r0_s = 0 ∨ w10.heap.size ≤ g11_r0_s)), trivial⟩ ?_
          rintro vw13 w13 ⟨zw13, gw13, Ow13, Aw13, qw13, rw13⟩
          have z44 := Aw13.size
          refine ⟨Kz.ofKa Aw13, ?_⟩
          refine dd_vz rfl rfl rfl (vv_lenT (l := l12) (c := TPoint.cs) Try.underlying43 rfl (Own.rd Ow13)) ?_
          refine sd_nil ?_
          have K_45 : Kz [] w4 w13 := (Kz.ka (Kz.gr (Kz.gr (Kz.gr (Kz.refl _ _) Gw10) Gw11) Gw12) Aw13 (tk1 ((pv_0 (A := (fun x => w4.heap.size ≤ x)) f11_r0_s) : z11_r0_s = 0 ∨ w4.heap.size ≤ g11_r0_s)))
          refine ⟨rfl, ⟨l12, (l12.length : Int), vw13, zw13, gw13⟩, ?_, hm, Ow13, ⟨(pv_app (A := (fun x => w4.heap.size ≤ x)) rw13 (pv_0 (A := (fun x => w4.heap.size ≤ x)) f11_r0_s))⟩, K_45⟩
          repeat' first | exact trivial | refine ⟨rfl, ?_⟩
        ·
          refine sdz_leaf ?_
          refine dd_z [] rfl rfl rfl (ev_litT [(TPoint.mk p1.Share.X 1#64)] TPoint.cs bsl_43_1 rfl rfl (ws_of rfl) rfl rfl rfl) ⟨fun _ => tk0, trivial⟩ ?_
          rintro vw14 w14 ⟨gw14, hbw14, Ow14, Gw14⟩
          have z46 := Gw14.size
          have lt47 := Ow14.lth
          refine ⟨Kz.ofGr Gw14, ?_⟩
          have B48 := (Rd.gr (Rd.gr (Rd.kz (Rd.gr (Rd.gr (Rd.gr hp2_2 Gw1) Gw2) Gw3) Kw4) Gw10) Gw14)
          have hb := bnd hm; clear hm; obtain ⟨x13, hx13, hm⟩ := hb
          refine dd_z [] rfl rfl rfl (ev_call en_121 rfl (slices_Clone_3bad_w p2.Points _ _ _ _ _ hx13 _ B48)) ⟨fun _ => tk0, trivial⟩ ?_
          rintro u15_r0_s w15 ⟨_, z15_r0_s, g15_r0_s, rfl, O15_r0_s, f15_r0_s, Gw15⟩
          have z49 := Gw15.size
          have lt50 := O15_r0_s.lth
          refine ⟨Kz.ofGr Gw15, ?_⟩
          have B51 := (Own.gr Ow14 Gw15)
          have hb := bnd hm; clear hm; obtain ⟨l14, hl14, hm⟩ := hb
          refine dd_z [(z15_r0_s, g15_r0_s)] rfl rfl rfl (ev_appT (l := x13) (m := [(TPoint.mk p1.Share.X 1#64)]) (c := TPoint.cs) apt_43 rfl rfl O15_r0_s (Own.rd B51) hl14 (by decide)) ⟨fun _ => (tk1 ((pv_0 (A := (fun x => w10.heap.size ≤ x)) f15_r0_s) : z15_r0_s = 0 ∨ w10.heap.size ≤ g15_r0_s)), trivial⟩ ?_
          rintro vw16 w16 ⟨zw16, gw16, Ow16, Aw16, qw16, rw16⟩
          have z52 := Aw16.size
          refine ⟨Kz.ofKa Aw16, ?_⟩
          refine dd_vz rfl rfl rfl (vv_lenT (l := l14) (c := TPoint.cs) Try.underlying43 rfl (Own.rd Ow16)) ?_
          refine sd_nil ?_
          have K_53 : Kz [] w4 w16 := (Kz.ka (Kz.gr (Kz.gr (Kz.gr (Kz.refl _ _) Gw10) Gw14) Gw15) Aw16 (tk1 ((pv_0 (A := (fun x => w4.heap.size ≤ x)) f15_r0_s) : z15_r0_s = 0 ∨ w4.heap.size ≤ g15_r0_s)))
          refine ⟨rfl, ⟨l14, (l14.length : Int), vw16, zw16, gw16⟩, ?_, hm, Ow16, ⟨(pv_app (A := (fun x => w4.heap.size ≤ x)) rw16 (pv_0 (A := (fun x => w4.heap.size ≤ x)) f15_r0_s))⟩, K_53⟩
          repeat' first | exact trivial | refine ⟨rfl, ?_⟩
  ·
    -- region 1 poly.go:177
    refine sw_region [(0, 0), (1, 0), (2, 0), (3, 0), (4, 0), (5, 0), (6, 0), (7, 0), (8, 0), (9, 0), (10, 0), (11, 0), (12, 0), (13, 0), (14, 0), (15, 0), (16, 0), (17, 0), (18, 0), (19, 0), (20, 0), (21, 0), (22, 0), (23, 0), (24, 0), (25, 0), (26, 0), (27, 0), (28, 0), (29, 0), (30, 0)] rfl rfl rfl ?_
    refine sd_vv rfl rfl rfl (vv_fieldAddr fa_45_0 rfl) ?_
    refine sd_vv rfl rfl rfl (vv_load1 (v := vp2_0) one_42 rfl Bw3 rfl) ?_
    have B54 := (Rd.gr (Rd.gr (Rd.gr hp2_0 Gw1) Gw2) Gw3)
    refine sd_vv rfl rfl rfl (vv_lenT (l := p2.Items) (c := TItem.cs) Try.underlying42 rfl B54) ?_
    refine sd_vv rfl rfl rfl (vv_eql (a := (p2.Items.length : Int)) (b := 0) rfl rfl) ?_
    refine sd_split rfl rfl rfl (vv_move rfl) (fun c7 => ?_) (fun c7 => ?_)
    ·
      replace hm := ite_t (of_decide_eq_true c7) hm
      refine sd_vv rfl rfl rfl (vv_fieldAddr fa_45_1 rfl) ?_
      refine sd_vv rfl rfl rfl (vv_load1 (v := wv p2.Base) one_24 rfl Bw3 rfl) ?_
      refine sd_vv rfl rfl rfl (vv_geqU (c := p2.Base) (d := 1#64) rfl rfl) ?_
      refine sd_vv rfl rfl rfl (vv_pickT rfl rfl) ?_
      refine sd_split rfl rfl rfl (vv_move rfl) (fun c8 => ?_) (fun c8 => ?_)
      ·
        replace hm := ite_t (of_decide_eq_true c8) hm
        refine sd_vv rfl rfl rfl (vv_fieldAddr fa_45_1 rfl) ?_
        refine sd_vv rfl rfl rfl (vv_load1 (v := wv p2.Base) one_24 rfl Bw3 rfl) ?_
        refine sd_vv rfl rfl rfl (vv_fieldAddr fa_28_3 rfl) ?_
        refine sd_vv rfl rfl rfl (vv_fieldAddr fa_26_0 rfl) ?_
        have B55 := (Bx.gr (Bx.gr Bw1 Gw2) Gw3)
        refine sd_vv rfl rfl rfl (vv_load1 (v := wv p0.Group.P) one_24 rfl B55 rfl) ?_
        refine sd_vv rfl rfl rfl (vv_lssU (c := p2.Base) (d := p0.Group.P) rfl rfl) ?_
        refine sd_vv rfl rfl rfl (vv_pickT rfl rfl) ?_
        refine sd_split rfl rfl rfl (vv_move rfl) (fun c9 => ?_) (fun c9 => ?_)
        ·
          replace hm := ite_t (of_decide_eq_true c9) hm
          refine sd_vv rfl rfl rfl (vv_fieldAddr fa_45_2 rfl) ?_
          refine sd_vv rfl rfl rfl (vv_load1 (v := vp2_2) one_43 rfl Bw3 rfl) ?_
          have B56 := (Rd.gr (Rd.gr (Rd.gr hp2_2 Gw1) Gw2) Gw3)
          refine sd_vv rfl rfl rfl (vv_lenT (l := p2.Points) (c := TPoint.cs) Try.underlying43 rfl B56) ?_
          refine sd_vv rfl rfl rfl (vv_fieldAddr fa_28_2 rfl) ?_
          refine sd_vv rfl rfl rfl (vv_load1 (v := .int .i64 p0.Degree) one_3 rfl B55 rfl) ?_
          refine sd_vv rfl rfl rfl (vv_eql (a := (p2.Points.length : Int)) (b := p0.Degree) rfl rfl) ?_
          refine sd_vv rfl rfl rfl (vv_pickT rfl rfl) ?_
          refine sd_split rfl rfl rfl (vv_move rfl) (fun c10 => ?_) (fun c10 => ?_)
          ·
            replace hm := ite_t (of_decide_eq_true c10) hm
            refine sd_vv rfl rfl rfl (vv_fieldAddr fa_45_2 rfl) ?_
            refine sd_vv rfl rfl rfl (vv_load1 (v := vp2_2) one_43 rfl Bw3 rfl) ?_
            have hb := bnd hm; clear hm; obtain ⟨x15, hx15, hm⟩ := hb
            refine sd_ev rfl rfl rfl (ev_call en_75 rfl (poly_distinct_w p2.Points _ _ _ _ _ hx15 _ B56)) ?_
            rintro _ w17 ⟨rfl, Gw17⟩
            have z57 := Gw17.size
            refine sd_vv rfl rfl rfl (vv_pickT rfl rfl) ?_
            refine sd_vv rfl rfl rfl (vv_assign rfl) ?_
            refine sd_nil ?_
            have K_58 : Kz [] w3 w17 := (Kz.gr (Kz.refl _ _) Gw17)
            refine ⟨rfl, x15, ?_, hm, K_58⟩
            repeat' first | exact trivial | refine ⟨rfl, ?_⟩
          ·
            replace hm := ite_f (of_decide_eq_false c10) hm
            refine sd_skip rfl rfl rfl ?_
            refine sd_skip rfl rfl rfl ?_
            refine sd_skip rfl rfl rfl ?_
            refine sd_vv rfl rfl rfl (vv_pickF rfl rfl) ?_
            refine sd_vv rfl rfl rfl (vv_assign rfl) ?_
            refine sd_nil ?_
            have K_59 : Kz [] w3 w3 := (Kz.refl _ _)
            refine ⟨rfl, false, ?_, hm, K_59⟩
            repeat' first | exact trivial | refine ⟨rfl, ?_⟩
        ·
          replace hm := ite_f (of_decide_eq_false c9) hm
          refine sd_skip rfl rfl rfl ?_
          refine sd_skip rfl rfl rfl ?_
          refine sd_skip rfl rfl rfl ?_
          refine sd_skip rfl rfl rfl ?_
          refine sd_skip rfl rfl rfl ?_
          refine sd_skip rfl rfl rfl ?_
          refine sd_vv rfl rfl rfl (vv_pickF rfl rfl) ?_
          refine sd_vv rfl rfl rfl (vv_move rfl) ?_
          refine sd_skip rfl rfl rfl ?_
          refine sd_skip rfl rfl rfl ?_
          refine sd_skip rfl rfl rfl ?_
          refine sd_vv rfl rfl rfl (vv_pickF rfl rfl) ?_
          refine sd_vv rfl rfl rfl (vv_assign rfl) ?_
          refine sd_nil ?_
          have K_60 : Kz [] w3 w3 := (Kz.refl _ _)
          refine ⟨rfl, false, ?_, hm, K_60⟩
          repeat' first | exact trivial | refine ⟨rfl, ?_⟩
      ·
        replace hm := ite_f (of_decide_eq_false c8) hm
        refine sd_skip rfl rfl rfl ?_
        refine sd_skip rfl rfl rfl ?_
        refine sd_skip rfl rfl rfl ?_
        refine sd_skip rfl rfl rfl ?_
        refine sd_skip rfl rfl rfl ?_
        refine sd_skip rfl rfl rfl ?_
        refine sd_vv rfl rfl rfl (vv_pickF rfl rfl) ?_
        refine sd_vv rfl rfl rfl (vv_move rfl) ?_
        refine sd_skip rfl rfl rfl ?_
        refine sd_skip rfl rfl rfl ?_
        refine sd_skip rfl rfl rfl ?_
        refine sd_skip rfl rfl rfl ?_
        refine sd_skip rfl rfl rfl ?_
        refine sd_skip rfl rfl rfl ?_
        refine sd_vv rfl rfl rfl (vv_pickF rfl rfl) ?_
        refine sd_vv rfl rfl rfl (vv_move rfl) ?_
        refine sd_skip rfl rfl rfl ?_
        refine sd_skip rfl rfl rfl ?_
        refine sd_skip rfl rfl rfl ?_
        refine sd_vv rfl rfl rfl (vv_pickF rfl rfl) ?_
        refine sd_vv rfl rfl rfl (vv_assign rfl) ?_
        refine sd_nil ?_
        have K_61 : Kz [] w3 w3 := (Kz.refl _ _)
        refine ⟨rfl, false, ?_, hm, K_61⟩
        repeat' first | exact trivial | refine ⟨rfl, ?_⟩
    ·
      replace hm := ite_f (of_decide_eq_false c7) hm
      refine sd_skip rfl rfl rfl ?_
      refine sd_skip rfl rfl rfl ?_
      refine sd_skip rfl rfl rfl ?_
      refine sd_vv rfl rfl rfl (vv_pickF rfl rfl) ?_
      refine sd_vv rfl rfl rfl (vv_move rfl) ?_
      refine sd_skip rfl rfl rfl ?_
      refine sd_skip rfl rfl rfl ?_
      refine sd_skip rfl rfl rfl ?_
      refine sd_skip rfl rfl rfl ?_
      refine sd_skip rfl rfl rfl ?_
      refine sd_skip rfl rfl rfl ?_
      refine sd_vv rfl rfl rfl (vv_pickF rfl rfl) ?_
      refine sd_vv rfl rfl rfl (vv_move rfl) ?_
      refine sd_skip rfl rfl rfl ?_
      refine sd_skip rfl rfl rfl ?_
      refine sd_skip rfl rfl rfl ?_
      refine sd_skip rfl rfl rfl ?_
      refine sd_skip rfl rfl rfl ?_
      refine sd_skip rfl rfl rfl ?_
      refine sd_vv rfl rfl rfl (vv_pickF rfl rfl) ?_
      refine sd_vv rfl rfl rfl (vv_move rfl) ?_
      refine sd_skip rfl rfl rfl ?_
      refine sd_skip rfl rfl rfl ?_
      refine sd_skip rfl rfl rfl ?_
      refine sd_vv rfl rfl rfl (vv_pickF rfl rfl) ?_
      refine sd_vv rfl rfl rfl (vv_assign rfl) ?_
      refine sd_nil ?_
      have K_62 : Kz [] w3 w3 := (Kz.refl _ _)
      refine ⟨rfl, false, ?_, hm, K_62⟩
      repeat' first | exact trivial | refine ⟨rfl, ?_⟩

set_option maxHeartbeats 2000000 in
theorem poly_Open_w (p0 : TScheme) (p1 : TSecret) (p2 : THeader) (vp1_1 : Value) (zp1_1 gp1_1 op1_1 : Nat) (vp2_0 : Value) (zp2_0 gp2_0 op2_0 : Nat) (vp2_2 : Value) (zp2_2 gp2_2 op2_2 : Nat) (r : W2 × Int) (hm : poly_Open p0 p1 p2 = some r) (w : World) (hp1_1 : Rd w zp1_1 gp1_1 op1_1 18 vp1_1 (p1.Labels.map TLabel.cs)) (hp2_0 : Rd w zp2_0 gp2_0 op2_0 18 vp2_0 (p2.Items.map TItem.cs)) (hp2_2 : Rd w zp2_2 gp2_2 op2_2 2 vp2_2 (p2.Points.map TPoint.cs))  :
    Calls Try.prog 27 [.agg (TScheme.cs p0).toArray, .agg (TSecret.cs p1 vp1_1).toArray, .agg (THeader.cs p2 vp2_0 vp2_2).toArray].toArray w fun e w' => ∃ v, e = .returned v ∧ (v = .tuple [kv r.1, .int .i64 r.2].toArray ∧ Gr w w') := by
  have lt1 := hp1_1.lth
  have lt2 := hp2_0.lth
  have lt3 := hp2_2.lth
  unfold poly_Open at hm
  refine calls_of_sw (R := fun v w' => v = .tuple [kv r.1, .int .i64 r.2].toArray ∧ Gr w w') 111 Try.func27 rfl rfl rfl ?_
  refine sw_seq ?_
  -- region 0 poly.go:189
  refine sw_region [(0, 0), (1, 0), (2, 0), (3, 0), (4, 0)] rfl rfl rfl ?_
  refine sd_ev rfl rfl rfl (ev_box (cs := TScheme.cs p0) rfl rfl) ?_
  rintro _ w1 ⟨b1, rfl, hbw1, Bw1, Gw1⟩
  have z4 := Gw1.size
  have lt5 := Bw1.lt
  refine sd_ev rfl rfl rfl (ev_box (cs := TSecret.cs p1 vp1_1) rfl rfl) ?_
  rintro _ w2 ⟨b2, rfl, hbw2, Bw2, Gw2⟩
  have z6 := Gw2.size
  have lt7 := Bw2.lt
  refine sd_ev rfl rfl rfl (ev_box (cs := THeader.cs p2 vp2_0 vp2_2) rfl rfl) ?_
  rintro _ w3 ⟨b3, rfl, hbw3, Bw3, Gw3⟩
  have z8 := Gw3.size
  have lt9 := Bw3.lt
  refine sd_ev rfl rfl rfl (ev_alloc (cs := kb k0) zv_23 rfl) ?_
  rintro _ w4 ⟨b4, rfl, hbw4, Bw4, Gw4⟩
  have z10 := Gw4.size
  have lt11 := Bw4.lt
  refine sd_vv rfl rfl rfl (vv_assign rfl) ?_
  refine sd_done ?_
  refine sw_seq ?_
  refine sw_seq ?_
  -- region 1 poly.go:190
  refine sw_region [(0, 0), (1, 0), (2, 0)] rfl rfl rfl ?_
  have B12 := (Bx.gr (Bx.gr (Bx.gr Bw1 Gw2) Gw3) Gw4)
  refine sd_vv rfl rfl rfl (vv_loadW agg_28 rfl B12 rfl) ?_
  have hb := bnd hm; clear hm; obtain ⟨x1, hx1, hm⟩ := hb
  refine sd_ev rfl rfl rfl (ev_call en_63 rfl (poly_valid_w p0 _ hx1 _)) ?_
  rintro _ w5 ⟨rfl, Gw5⟩
  have z13 := Gw5.size
  refine sd_vv rfl rfl rfl (vv_not rfl) ?_
  refine sd_done ?_
  refine sw_cond rfl (fun c1 => ?_) (fun c1 => ?_)
  ·
    replace hm := cnd_t c1 hm
    refine sw_seq ?_
    -- region 2 poly.go:191
    refine sw_region [(0, 0), (1, 0), (2, 0)] rfl rfl rfl ?_
    refine sd_vv rfl rfl rfl (vv_buildZ bz_23) ?_
    have B14 := (Bx.gr Bw4 Gw5)
    refine sd_ev rfl rfl rfl (ev_stM (cs' := kb k0) (vs := kb k0) (agg_23).siz rfl rfl rfl rfl rfl B14 rfl rfl) ?_
    rintro _ w6 ⟨Bw6, Mw6⟩
    have z15 := Mw6.size
    refine sd_vv rfl rfl rfl (vv_assign rfl) ?_
    refine sd_done ?_
    refine sw_ret ?_
    refine then_r ?_
    have X16 : Gr w w6 := (Gr.md (Gr.trans (Gr.trans (Gr.trans (Gr.trans (Gr.trans (Gr.refl w) Gw1) Gw2) Gw3) Gw4) Gw5) Mw6)
    have hr := Option.some.inj hm
    subst hr
    refine ⟨_, _, rfl, res_2 rfl (rv_cellW agg_23 rfl Bw6 rfl) (rv_tmp rfl), ?_⟩
    exact ⟨rfl, X16⟩
  ·
    replace hm := cnd_f c1 hm
    refine sw_skip ?_
    refine then_n ?_
    refine sw_seq ?_
    refine sw_seq ?_
    -- region 3 poly.go:193
    refine sw_region [(0, 0), (1, 0), (2, 0), (3, 0), (4, 0)] rfl rfl rfl ?_
    have B17 := (Bx.gr B12 Gw5)
    refine sd_vv rfl rfl rfl (vv_loadW agg_28 rfl B17 rfl) ?_
    have B18 := (Bx.gr (Bx.gr (Bx.gr Bw2 Gw3) Gw4) Gw5)
    refine sd_vv rfl rfl rfl (vv_loadW agg_33 rfl B18 rfl) ?_
    have B19 := (Bx.gr (Bx.gr Bw3 Gw4) Gw5)
    refine sd_vv rfl rfl rfl (vv_loadW agg_45 rfl B19 rfl) ?_
    have B20 := (Rd.gr (Rd.gr (Rd.gr (Rd.gr (Rd.gr hp1_1 Gw1) Gw2) Gw3) Gw4) Gw5)
    have B21 := (Rd.gr (Rd.gr (Rd.gr (Rd.gr (Rd.gr hp2_0 Gw1) Gw2) Gw3) Gw4) Gw5)
    have B22 := (Rd.gr (Rd.gr (Rd.gr (Rd.gr (Rd.gr hp2_2 Gw1) Gw2) Gw3) Gw4) Gw5)
    have hb := bnd hm; clear hm; obtain ⟨x2, hx2, hm⟩ := hb
    refine sd_ev rfl rfl rfl (ev_call en_74 rfl (poly_fits_w p0 p1 p2 _ _ _ _ _ _ _ _ _ _ _ _ _ hx2 _ B20 B21 B22)) ?_
    rintro _ w7 ⟨rfl, Gw7⟩
    have z23 := Gw7.size
    refine sd_vv rfl rfl rfl (vv_not rfl) ?_
    refine sd_done ?_
    refine sw_cond rfl (fun c2 => ?_) (fun c2 => ?_)
    ·
      replace hm := cnd_t c2 hm
      refine sw_seq ?_
      -- region 4 poly.go:194
      refine sw_region [(0, 0), (1, 0), (2, 0)] rfl rfl rfl ?_
      refine sd_vv rfl rfl rfl (vv_buildZ bz_23) ?_
      have B24 := (Bx.gr (Bx.gr Bw4 Gw5) Gw7)
      refine sd_ev rfl rfl rfl (ev_stM (cs' := kb k0) (vs := kb k0) (agg_23).siz rfl rfl rfl rfl rfl B24 rfl rfl) ?_
      rintro _ w8 ⟨Bw8, Mw8⟩
      have z25 := Mw8.size
      refine sd_vv rfl rfl rfl (vv_assign rfl) ?_
      refine sd_done ?_
      refine sw_ret ?_
      refine then_r ?_
      have X26 : Gr w w8 := (Gr.md (Gr.trans (Gr.trans (Gr.trans (Gr.trans (Gr.trans (Gr.trans (Gr.refl w) Gw1) Gw2) Gw3) Gw4) Gw5) Gw7) Mw8)
      have hr := Option.some.inj hm
      subst hr
      refine ⟨_, _, rfl, res_2 rfl (rv_cellW agg_23 rfl Bw8 rfl) (rv_tmp rfl), ?_⟩
      exact ⟨rfl, X26⟩
    ·
      replace hm := cnd_f c2 hm
      refine sw_skip ?_
      refine then_n ?_
      refine sw_seq ?_
      -- region 5 poly.go:196 DRAWS
      refine sw_drawN [([])] [] (.leaf [(0, 10), (1, 10), (2, 10), (3, 10), (4, 10), (5, 10), (6, 10), (7, 10), (8, 10), (12, 10), (13, 10), (9, 0), (10, 10), (11, 0), (14, 0), (15, 10)]) (by kernel_rfl) (by kernel_rfl) rfl (by kernel_rfl) ?_
      intro w9 Gw9 zw9
      refine sdz_leaf ?_
      refine dd_hn 0 rfl rfl rfl rfl (Kp.refl ([]) w9) (fun w hS => vv_fieldAddr fa_33_2 rfl) ?_
      refine dd_hn 0 rfl rfl rfl rfl (Kp.refl ([]) w9) (fun w hS => vv_fieldAddr fa_31_0 rfl) ?_
      have B27 := (Bx.gr (Bx.gr B18 Gw7) Gw9)
      refine dd_hn 0 rfl rfl rfl rfl (Kp.refl ([]) w9) (fun w hS => vv_load1 (v := wv p1.Share.X) one_24 rfl (Bx.kp B27 hS) rfl) ?_
      have B28 := (Bx.gr (Bx.gr B17 Gw7) Gw9)
      refine dd_hn 0 rfl rfl rfl rfl (Kp.refl ([]) w9) (fun w hS => vv_loadW agg_28 rfl (Bx.kp B28 hS) rfl) ?_
      refine dd_hn 0 rfl rfl rfl rfl (Kp.refl ([]) w9) (fun w hS => vv_fieldAddr fa_45_1 rfl) ?_
      have B29 := (Bx.gr (Bx.gr B19 Gw7) Gw9)
      refine dd_hn 0 rfl rfl rfl rfl (Kp.refl ([]) w9) (fun w hS => vv_load1 (v := wv p2.Base) one_24 rfl (Bx.kp B29 hS) rfl) ?_
      refine dd_hn 0 rfl rfl rfl rfl (Kp.refl ([]) w9) (fun w hS => vv_fieldAddr fa_33_2 rfl) ?_
      refine dd_hn 0 rfl rfl rfl rfl (Kp.refl ([]) w9) (fun w hS => vv_fieldAddr fa_31_1 rfl) ?_
      refine dd_hn 0 rfl rfl rfl rfl (Kp.refl ([]) w9) (fun w hS => vv_load1 (v := wv p1.Share.Y) one_24 rfl (Bx.kp B27 hS) rfl) ?_
      refine dd_hn 0 rfl rfl rfl rfl (Kp.refl ([]) w9) (fun w hS => vv_fieldAddr fa_45_2 rfl) ?_
      refine dd_hn 0 rfl rfl rfl rfl (Kp.refl ([]) w9) (fun w hS => vv_load1 (v := vp2_2) one_43 rfl (Bx.kp B29 hS) rfl) ?_
      have hb := bnd hm; clear hm; obtain ⟨x3, hx3, hm⟩ := hb
      refine dd_z [] rfl rfl rfl (ev_call en_69 rfl (poly_power_w p0 p2.Base p1.Share.Y _ hx3 _)) ⟨fun _ => tk0, trivial⟩ ?_
      rintro _ w10 ⟨rfl, Gw10⟩
      have z30 := Gw10.size
      refine ⟨Kz.ofGr Gw10, ?_⟩
      have S31 := (Kp.gr (Kp.refl ([]) w9) Gw10)
      refine dd_hn 0 rfl rfl rfl rfl S31 (fun w hS => vv_build (cs := TPoint.cs (TPoint.mk p1.Share.X x3)) bs_31 rfl rfl) ?_
      refine dd_z [] rfl rfl rfl (ev_litT [(TPoint.mk p1.Share.X x3)] TPoint.cs bsl_43_1 rfl rfl (ws_of rfl) rfl rfl rfl) ⟨fun _ => tk0, trivial⟩ ?_
      rintro vw11 w11 ⟨gw11, hbw11, Ow11, Gw11⟩
      have z32 := Gw11.size
      have lt33 := Ow11.lth
      refine ⟨Kz.ofGr Gw11, ?_⟩
      have B34 := (Rd.gr (Rd.gr (Rd.gr (Rd.gr B22 Gw7) Gw9) Gw10) Gw11)
      have hb := bnd hm; clear hm; obtain ⟨l4, hl4, hm⟩ := hb
      refine dd_z [(1, gw11)] rfl rfl rfl (ev_appT (l := [(TPoint.mk p1.Share.X x3)]) (m := p2.Points) (c := TPoint.cs) apt_43 rfl rfl Ow11 B34 hl4 (by decide)) ⟨fun _ => (tk1 ((.inr tk0) : 1 = 0 ∨ w9.heap.size ≤ gw11)), trivial⟩ ?_
      rintro vw12 w12 ⟨zw12, gw12, Ow12, Aw12, qw12, rw12⟩
      have z35 := Aw12.size
      refine ⟨Kz.ofKa Aw12, ?_⟩
      have S36 := (Kp.ka (Kp.gr S31 Gw11) Aw12 (tk1 ((.inr tk0) : 1 = 0 ∨ w9.heap.size ≤ gw11)))
      refine dd_hn 0 rfl rfl rfl rfl S36 (fun w hS => vv_assign rfl) ?_
      refine sd_done ?_
      refine sw_seq ?_
      refine sw_seq ?_
      -- region 6 poly.go:197
      refine sw_region [(0, 0), (1, 0), (2, 0)] rfl rfl rfl ?_
      refine sd_vv rfl rfl rfl (vv_move rfl) ?_
      have hb := bnd hm; clear hm; obtain ⟨x5, hx5, hm⟩ := hb
      refine sd_ev rfl rfl rfl (ev_call en_75 rfl (poly_distinct_w l4 _ _ _ _ _ hx5 _ (Own.rd Ow12))) ?_
      rintro _ w13 ⟨rfl, Gw13⟩
      have z37 := Gw13.size
      refine sd_vv rfl rfl rfl (vv_not rfl) ?_
      refine sd_done ?_
      refine sw_cond rfl (fun c3 => ?_) (fun c3 => ?_)
      ·
        replace hm := cnd_t c3 hm
        refine sw_seq ?_
        -- region 7 poly.go:198
        refine sw_region [(0, 0), (1, 0), (2, 0)] rfl rfl rfl ?_
        refine sd_vv rfl rfl rfl (vv_buildZ bz_23) ?_
        have B38 := (Bx.gr (Bx.ka (Bx.gr (Bx.gr (Bx.gr (Bx.gr (Bx.gr Bw4 Gw5) Gw7) Gw9) Gw10) Gw11) Aw12 (tk1 ((.inr tk0) : 1 = 0 ∨ gw11 ≠ b4))) Gw13)
        refine sd_ev rfl rfl rfl (ev_stM (cs' := kb k0) (vs := kb k0) (agg_23).siz rfl rfl rfl rfl rfl B38 rfl rfl) ?_
        rintro _ w14 ⟨Bw14, Mw14⟩
        have z39 := Mw14.size
        refine sd_vv rfl rfl rfl (vv_assign rfl) ?_
        refine sd_done ?_
        refine sw_ret ?_
        refine then_r ?_
        have X40 : Gr w w14 := (Gr.md (Gr.trans (Gr.ka (Gr.trans (Gr.trans (Gr.trans (Gr.trans (Gr.trans (Gr.trans (Gr.trans (Gr.trans (Gr.trans (Gr.refl w) Gw1) Gw2) Gw3) Gw4) Gw5) Gw7) Gw9) Gw10) Gw11) Aw12 (tk1 ((.inr tk0) : 1 = 0 ∨ w.heap.size ≤ gw11))) Gw13) Mw14)
        have hr := Option.some.inj hm
        subst hr
        refine ⟨_, _, rfl, res_2 rfl (rv_cellW agg_23 rfl Bw14 rfl) (rv_tmp rfl), ?_⟩
        exact ⟨rfl, X40⟩
      ·
        replace hm := cnd_f c3 hm
        refine sw_skip ?_
        refine then_n ?_
        refine sw_seq ?_
        -- region 8 poly.go:200
        refine sw_region [(0, 0), (1, 0), (2, 0), (3, 0), (4, 0)] rfl rfl rfl ?_
        refine sd_vv rfl rfl rfl (vv_fieldAddr fa_28_3 rfl) ?_
        refine sd_vv rfl rfl rfl (vv_fieldAddr fa_26_1 rfl) ?_
        have B41 := (Bx.gr (Bx.ka (Bx.gr (Bx.gr B28 Gw10) Gw11) Aw12 (tk1 ((.inr tk0) : 1 = 0 ∨ gw11 ≠ b1))) Gw13)
        refine sd_vv rfl rfl rfl (vv_load1 (v := wv p0.Group.Q) one_24 rfl B41 rfl) ?_
        refine sd_vv rfl rfl rfl (vv_assign rfl) ?_
        refine sd_vv rfl rfl rfl (vv_assign rfl) ?_
        refine sd_done ?_
        refine sw_seq ?_
        refine sw_seq ?_
        -- region 9 poly.go:201
        refine sw_region [(0, 0), (1, 0), (2, 0)] rfl rfl rfl ?_
        refine sd_vv rfl rfl rfl (vv_move rfl) ?_
        have B42 := (Own.gr Ow12 Gw13)
        refine sd_vv rfl rfl rfl (vv_lenT (l := l4) (c := TPoint.cs) Try.underlying43 rfl (Own.rd B42)) ?_
        refine sd_vv rfl rfl rfl (vv_move rfl) ?_
        refine sd_done ?_
        refine sw_block ?_
        have X43 : Gr w w13 := (Gr.trans (Gr.ka (Gr.trans (Gr.trans (Gr.trans (Gr.trans (Gr.trans (Gr.trans (Gr.trans (Gr.trans (Gr.trans (Gr.refl w) Gw1) Gw2) Gw3) Gw4) Gw5) Gw7) Gw9) Gw10) Gw11) Aw12 (tk1 ((.inr tk0) : 1 = 0 ∨ w.heap.size ≤ gw11))) Gw13)
        have B44 := (Rd.gr (Rd.ka (Rd.gr (Rd.gr (Rd.gr (Rd.gr B20 Gw7) Gw9) Gw10) Gw11) Aw12 (tk1 ((pv_sw (.inr (tk1 lt1.o))) : zp1_1 = 0 ∨ 1 = 0 ∨ gp1_1 ≠ gw11))) Gw13)
        have B45 := (Rd.gr (Rd.ka (Rd.gr (Rd.gr (Rd.gr (Rd.gr B21 Gw7) Gw9) Gw10) Gw11) Aw12 (tk1 ((pv_sw (.inr (tk1 lt2.o))) : zp2_0 = 0 ∨ 1 = 0 ∨ gp2_0 ≠ gw11))) Gw13)
        have B46 := (Rd.gr (Rd.ka B34 Aw12 (tk1 ((pv_sw (.inr (tk1 lt3.o))) : zp2_2 = 0 ∨ 1 = 0 ∨ gp2_2 ≠ gw11))) Gw13)
        refine sw_loopD (α := Nat × BitVec 64 × Int) [10, 11, 12, 13, 14, 15, 16, 52, 53, 54, 55, 56, 57, 58, 59, 60, 61, 62, 63, 64, 65, 66, 67, 68, 69, 70, 71, 72, 73, 74, 75, 76, 77, 78, 79, 80, 81, 82, 83, 84, 85, 86, 87, 88, 89, 90, 91, 92, 93, 94, 95, 96, 97, 98] (fun ⟨n1, a8, a9⟩ => [(10, wv a8), (52, .int .i64 a9)]) (fun ⟨n1, a8, a9⟩ wr => (fixN (poly_Open_L1 p0 p2 l4) n1 (a8, a9) = some r) ∧ Kz [] w13 wr) (fun ⟨n1, a8, a9⟩ => n1) ⟨FUEL, 1#64, 0⟩ ?_ ?_ ?_
        · repeat' first | exact trivial | refine ⟨rfl, ?_⟩
        · exact ⟨hm, Kz.refl _ _⟩
        · clear hm; rintro ⟨n1, a8, a9⟩ w15 ⟨hm, Kw15⟩
          have z47 := Kw15.size
          have hb := fix_succ hm; clear hm; obtain ⟨n1, rfl, hm⟩ := hb
          generalize hrec1 : fixN (poly_Open_L1 p0 p2 l4) n1 = rec1 at hm
          unfold poly_Open_L1 at hm
          try dsimp only at hm
          refine sw_seq ?_
          -- region 10 poly.go:201
          refine sw_region [(0, 0)] rfl rfl rfl ?_
          refine sd_vv rfl rfl rfl (vv_lss (a := a9) (b := (l4.length : Int)) rfl rfl) ?_
          refine sd_done ?_
          refine sw_seq ?_
          refine sw_cond rfl (fun c4 => ?_) (fun c4 => ?_)
          ·
            replace hm := ite_t (of_decide_eq_true c4) hm
            refine sw_skip ?_
            refine then_n ?_
            refine sw_seq ?_
            refine sw_block ?_
            refine sw_seq ?_
            -- region 11 poly.go:201
            refine sw_region [(0, 0), (1, 0), (2, 0), (3, 0), (4, 0), (5, 0)] rfl rfl rfl ?_
            refine sd_vv rfl rfl rfl (vv_move rfl) ?_
            have hb := bnd hm; clear hm; obtain ⟨y10, hy10, hm⟩ := hb
            have B48 := (Own.kz B42 Kw15)
            refine sd_vv rfl rfl rfl (vv_ixT (i := a9) Try.underlying43 (agg_31).siz rfl (Own.rd B48) rfl hy10) ?_
            refine sd_vv rfl rfl rfl (vv_elWT agg_31 rfl (Own.rd B48) hy10 (by first | rfl | omega)) ?_
            refine sd_ev rfl rfl rfl (ev_alloc (cs := TPoint.cs (TPoint.mk 0#64 0#64)) zv_31 rfl) ?_
            rintro _ w16 ⟨b16, rfl, hbw16, Bw16, Gw16⟩
            have z49 := Gw16.size
            have lt50 := Bw16.lt
            refine sd_vv rfl rfl rfl (vv_assign rfl) ?_
            refine sd_ev rfl rfl rfl (ev_stM (cs' := TPoint.cs y10) (vs := TPoint.cs y10) (agg_31).siz rfl rfl rfl rfl rfl Bw16 rfl rfl) ?_
            rintro _ w17 ⟨Bw17, Mw17⟩
            have z51 := Mw17.size
            refine sd_done ?_
            refine sw_seq ?_
            -- region 12 poly.go:202
            refine sw_region [(0, 0), (1, 0)] rfl rfl rfl ?_
            refine sd_vv rfl rfl rfl (vv_assign rfl) ?_
            refine sd_vv rfl rfl rfl (vv_assign rfl) ?_
            refine sd_done ?_
            refine sw_seq ?_
            refine sw_seq ?_
            -- region 13 poly.go:203
            refine sw_region [(0, 0), (1, 0), (2, 0)] rfl rfl rfl ?_
            refine sd_vv rfl rfl rfl (vv_move rfl) ?_
            have B52 := (Own.md (Own.gr B48 Gw16) Mw17 (tk1 ((pv_lt (A := (fun x => x ≠ b16)) qw12) : zw12 = 0 ∨ gw12 ≠ b16)))
            refine sd_vv rfl rfl rfl (vv_lenT (l := l4) (c := TPoint.cs) Try.underlying43 rfl (Own.rd B52)) ?_
            refine sd_vv rfl rfl rfl (vv_move rfl) ?_
            refine sd_done ?_
            refine sw_block ?_
            have X53 : Gr w w17 := (Gr.md (Gr.trans (Gr.kz X43 Kw15) Gw16) Mw17)
            have B54 := (Rd.md (Rd.gr (Rd.kz B44 Kw15) Gw16) Mw17 (tk1 ((pv_lt (A := (fun x => x ≠ b16)) lt1) : zp1_1 = 0 ∨ gp1_1 ≠ b16)))
            have B55 := (Rd.md (Rd.gr (Rd.kz B45 Kw15) Gw16) Mw17 (tk1 ((pv_lt (A := (fun x => x ≠ b16)) lt2) : zp2_0 = 0 ∨ gp2_0 ≠ b16)))
            have B56 := (Rd.md (Rd.gr (Rd.kz B46 Kw15) Gw16) Mw17 (tk1 ((pv_lt (A := (fun x => x ≠ b16)) lt3) : zp2_2 = 0 ∨ gp2_2 ≠ b16)))
            refine sw_loopD (α := Nat × BitVec 64 × BitVec 64 × Int) [13, 14, 15, 16, 59, 60, 61, 62, 63, 64, 65, 66, 67, 68, 69, 70, 71, 72, 73, 74, 75, 76, 77, 78, 79, 80, 81, 82, 83] (fun ⟨n2, a14, a15, a16⟩ => [(13, wv a14), (14, wv a15), (59, .int .i64 a16)]) (fun ⟨n2, a14, a15, a16⟩ wr => (fixN (poly_Open_L2 p0 l4 a8 a9 rec1 y10) n2 (a14, a15, a16) = some r) ∧ Kz [] w17 wr) (fun ⟨n2, a14, a15, a16⟩ => n2) ⟨FUEL, 1#64, 1#64, 0⟩ ?_ ?_ ?_
            · repeat' first | exact trivial | refine ⟨rfl, ?_⟩
            · exact ⟨hm, Kz.refl _ _⟩
            · clear hm; rintro ⟨n2, a14, a15, a16⟩ w18 ⟨hm, Kw18⟩
              have z57 := Kw18.size
              have hb := fix_succ hm; clear hm; obtain ⟨n2, rfl, hm⟩ := hb
              generalize hrec2 : fixN (poly_Open_L2 p0 l4 a8 a9 rec1 y10) n2 = rec2 at hm
              unfold poly_Open_L2 at hm
              try dsimp only at hm
              refine sw_seq ?_
              -- region 14 poly.go:203
              refine sw_region [(0, 0)] rfl rfl rfl ?_
              refine sd_vv rfl rfl rfl (vv_lss (a := a16) (b := (l4.length : Int)) rfl rfl) ?_
              refine sd_done ?_
              refine sw_seq ?_
              refine sw_cond rfl (fun c5 => ?_) (fun c5 => ?_)
              ·
                replace hm := ite_t (of_decide_eq_true c5) hm
                refine sw_skip ?_
                refine then_n ?_
                refine sw_seq ?_
                refine sw_block ?_
                refine sw_seq ?_
                -- region 15 poly.go:203
                refine sw_region [(0, 0), (1, 0), (2, 0), (3, 0), (4, 0), (5, 0)] rfl rfl rfl ?_
                refine sd_vv rfl rfl rfl (vv_move rfl) ?_
                have hb := bnd hm; clear hm; obtain ⟨y17, hy17, hm⟩ := hb
                have B58 := (Own.kz B52 Kw18)
                refine sd_vv rfl rfl rfl (vv_ixT (i := a16) Try.underlying43 (agg_31).siz rfl (Own.rd B58) rfl hy17) ?_
                refine sd_vv rfl rfl rfl (vv_elWT agg_31 rfl (Own.rd B58) hy17 (by first | rfl | omega)) ?_
                refine sd_ev rfl rfl rfl (ev_alloc (cs := TPoint.cs (TPoint.mk 0#64 0#64)) zv_31 rfl) ?_
                rintro _ w19 ⟨b19, rfl, hbw19, Bw19, Gw19⟩
                have z59 := Gw19.size
                have lt60 := Bw19.lt
                refine sd_vv rfl rfl rfl (vv_assign rfl) ?_
                refine sd_ev rfl rfl rfl (ev_stM (cs' := TPoint.cs y17) (vs := TPoint.cs y17) (agg_31).siz rfl rfl rfl rfl rfl Bw19 rfl rfl) ?_
                rintro _ w20 ⟨Bw20, Mw20⟩
                have z61 := Mw20.size
                refine sd_done ?_
                refine sw_seq ?_
                -- region 16 poly.go:204
                refine sw_region [(0, 0), (1, 0), (2, 0)] rfl rfl rfl ?_
                refine sd_vv rfl rfl rfl (vv_move rfl) ?_
                refine sd_vv rfl rfl rfl (vv_move rfl) ?_
                refine sd_vv rfl rfl rfl (vv_neq (a := a16) (b := a9) rfl rfl) ?_
                refine sd_done ?_
                refine sw_cond rfl (fun c6 => ?_) (fun c6 => ?_)
                ·
                  replace hm := ite_t (of_decide_eq_true c6) hm
                  -- region 17 poly.go:205 DRAWS
                  refine sw_drawN [([])] [] (.leaf [(0, 10), (1, 10), (2, 10), (3, 10), (6, 10), (7, 10), (8, 10), (9, 10), (10, 10), (11, 10), (12, 10), (4, 0), (5, 0), (13, 0), (14, 0), (15, 0), (16, 10), (17, 10)]) (by kernel_rfl) (by kernel_rfl) rfl (by kernel_rfl) ?_
                  intro w21 Gw21 zw21
                  refine sdz_leaf ?_
                  refine dd_hn 0 rfl rfl rfl rfl (Kp.refl ([]) w21) (fun w hS => vv_move rfl) ?_
                  refine dd_hn 0 rfl rfl rfl rfl (Kp.refl ([]) w21) (fun w hS => vv_move rfl) ?_
                  refine dd_hn 0 rfl rfl rfl rfl (Kp.refl ([]) w21) (fun w hS => vv_fieldAddr fa_31_0 rfl) ?_
                  have B62 := (Bx.gr Bw20 Gw21)
                  refine dd_hn 0 rfl rfl rfl rfl (Kp.refl ([]) w21) (fun w hS => vv_load1 (v := wv y17.X) one_24 rfl (Bx.kp B62 hS) rfl) ?_
                  refine dd_hn 0 rfl rfl rfl rfl (Kp.refl ([]) w21) (fun w hS => vv_move rfl) ?_
                  refine dd_hn 0 rfl rfl rfl rfl (Kp.refl ([]) w21) (fun w hS => vv_move rfl) ?_
                  refine dd_hn 0 rfl rfl rfl rfl (Kp.refl ([]) w21) (fun w hS => vv_move rfl) ?_
                  refine dd_hn 0 rfl rfl rfl rfl (Kp.refl ([]) w21) (fun w hS => vv_fieldAddr fa_31_0 rfl) ?_
                  refine dd_hn 0 rfl rfl rfl rfl (Kp.refl ([]) w21) (fun w hS => vv_load1 (v := wv y17.X) one_24 rfl (Bx.kp B62 hS) rfl) ?_
                  refine dd_hn 0 rfl rfl rfl rfl (Kp.refl ([]) w21) (fun w hS => vv_fieldAddr fa_31_0 rfl) ?_
                  have B63 := (Bx.gr (Bx.md (Bx.gr (Bx.kz Bw17 Kw18) Gw19) Mw20) Gw21)
                  refine dd_hn 0 rfl rfl rfl rfl (Kp.refl ([]) w21) (fun w hS => vv_load1 (v := wv y10.X) one_24 rfl (Bx.kp B63 hS) rfl) ?_
                  refine dd_z [] rfl rfl rfl (ev_litT [a14, y17.X] uwc bsl_60_2 rfl rfl (ws_of rfl) rfl rfl rfl) ⟨fun _ => tk0, trivial⟩ ?_
                  rintro vw22 w22 ⟨gw22, hbw22, Ow22, Gw22⟩
                  have z64 := Gw22.size
                  have lt65 := Ow22.lth
                  refine ⟨Kz.ofGr Gw22, ?_⟩
                  have hb := bnd hm; clear hm; obtain ⟨x18, hx18, hm⟩ := hb
                  refine dd_z [] rfl rfl rfl (ev_call en_76 rfl (poly_field_mul_w p0.Group.Q [a14, y17.X] _ _ _ _ _ hx18 _ (Own.rd Ow22))) ⟨fun _ => tk0, trivial⟩ ?_
                  rintro _ w23 ⟨rfl, Gw23⟩
                  have z66 := Gw23.size
                  refine ⟨Kz.ofGr Gw23, ?_⟩
                  have hb := bnd hm; clear hm; obtain ⟨x19, hx19, hm⟩ := hb
                  refine dd_z [] rfl rfl rfl (ev_call en_77 rfl (poly_field_sub_w p0.Group.Q y17.X y10.X _ hx19 _)) ⟨fun _ => tk0, trivial⟩ ?_
                  rintro _ w24 ⟨rfl, Gw24⟩
                  have z67 := Gw24.size
                  refine ⟨Kz.ofGr Gw24, ?_⟩
                  refine dd_z [] rfl rfl rfl (ev_litT [a15, x19] uwc bsl_60_2 rfl rfl (ws_of rfl) rfl rfl rfl) ⟨fun _ => tk0, trivial⟩ ?_
                  rintro vw25 w25 ⟨gw25, hbw25, Ow25, Gw25⟩
                  have z68 := Gw25.size
                  have lt69 := Ow25.lth
                  refine ⟨Kz.ofGr Gw25, ?_⟩
                  have hb := bnd hm; clear hm; obtain ⟨x20, hx20, hm⟩ := hb
                  refine dd_z [] rfl rfl rfl (ev_call en_76 rfl (poly_field_mul_w p0.Group.Q [a15, x19] _ _ _ _ _ hx20 _ (Own.rd Ow25))) ⟨fun _ => tk0, trivial⟩ ?_
                  rintro _ w26 ⟨rfl, Gw26⟩
                  have z70 := Gw26.size
                  refine ⟨Kz.ofGr Gw26, ?_⟩
                  have S71 := (Kp.gr (Kp.gr (Kp.gr (Kp.gr (Kp.gr (Kp.refl ([]) w21) Gw22) Gw23) Gw24) Gw25) Gw26)
                  refine dd_hn 0 rfl rfl rfl rfl S71 (fun w hS => vv_assign rfl) ?_
                  refine dd_hn 0 rfl rfl rfl rfl S71 (fun w hS => vv_assign rfl) ?_
                  refine sd_nil ?_
                  refine block_n ?_
                  refine then_n ?_
                  -- region 18 poly.go:203
                  refine sw_region [(0, 0), (1, 0)] rfl rfl rfl ?_
                  refine sd_vv rfl rfl rfl (vv_add (k := .i64) (a := a16) (b := 1) rfl rfl) ?_
                  refine sd_vv rfl rfl rfl (vv_move rfl) ?_
                  refine sd_nil ?_
                  have K_72 : Kz [] w17 w26 := (Kz.gr (Kz.gr (Kz.gr (Kz.gr (Kz.gr (Kz.gr (Kz.md (Kz.gr Kw18 Gw19) Mw20) Gw21) Gw22) Gw23) Gw24) Gw25) Gw26)
                  subst hrec2
                  refine ⟨rfl, ⟨n2, x18, x20, w64 (a16 + 1)⟩, ?_, ⟨hm, K_72⟩, Nat.lt_succ_self _⟩
                  repeat' first | exact trivial | refine ⟨rfl, ?_⟩
                ·
                  replace hm := ite_f (of_decide_eq_false c6) hm
                  refine sw_skip ?_
                  refine block_n ?_
                  refine then_n ?_
                  -- region 18 poly.go:203
                  refine sw_region [(0, 0), (1, 0)] rfl rfl rfl ?_
                  refine sd_vv rfl rfl rfl (vv_add (k := .i64) (a := a16) (b := 1) rfl rfl) ?_
                  refine sd_vv rfl rfl rfl (vv_move rfl) ?_
                  refine sd_nil ?_
                  have K_73 : Kz [] w17 w20 := (Kz.md (Kz.gr Kw18 Gw19) Mw20)
                  subst hrec2
                  refine ⟨rfl, ⟨n2, a14, a15, w64 (a16 + 1)⟩, ?_, ⟨hm, K_73⟩, Nat.lt_succ_self _⟩
                  repeat' first | exact trivial | refine ⟨rfl, ?_⟩
              ·
                replace hm := ite_f (of_decide_eq_false c5) hm
                refine sw_exit ?_
                refine then_x ?_
                refine then_x ?_
                refine block_x ?_
                refine then_n ?_
                -- region 19 poly.go:208 DRAWS
                refine sw_drawN [([])] [] (.leaf [(0, 10), (1, 10), (2, 10), (3, 10), (4, 10), (5, 10), (6, 10), (7, 10), (8, 10), (9, 10), (10, 0), (11, 0), (12, 0), (13, 0), (14, 10)]) (by kernel_rfl) (by kernel_rfl) rfl (by kernel_rfl) ?_
                intro w27 Gw27 zw27
                refine sdz_leaf ?_
                refine dd_hn 0 rfl rfl rfl rfl (Kp.refl ([]) w27) (fun w hS => vv_fieldAddr fa_28_3 rfl) ?_
                refine dd_hn 0 rfl rfl rfl rfl (Kp.refl ([]) w27) (fun w hS => vv_fieldAddr fa_26_0 rfl) ?_
                have B74 := (Bx.gr (Bx.kz (Bx.md (Bx.gr (Bx.kz B41 Kw15) Gw16) Mw17) Kw18) Gw27)
                refine dd_hn 0 rfl rfl rfl rfl (Kp.refl ([]) w27) (fun w hS => vv_load1 (v := wv p0.Group.P) one_24 rfl (Bx.kp B74 hS) rfl) ?_
                refine dd_hn 0 rfl rfl rfl rfl (Kp.refl ([]) w27) (fun w hS => vv_move rfl) ?_
                refine dd_hn 0 rfl rfl rfl rfl (Kp.refl ([]) w27) (fun w hS => vv_loadW agg_28 rfl (Bx.kp B74 hS) rfl) ?_
                refine dd_hn 0 rfl rfl rfl rfl (Kp.refl ([]) w27) (fun w hS => vv_fieldAddr fa_31_1 rfl) ?_
                have B75 := (Bx.gr (Bx.kz Bw17 Kw18) Gw27)
                refine dd_hn 0 rfl rfl rfl rfl (Kp.refl ([]) w27) (fun w hS => vv_load1 (v := wv y10.Y) one_24 rfl (Bx.kp B75 hS) rfl) ?_
                refine dd_hn 0 rfl rfl rfl rfl (Kp.refl ([]) w27) (fun w hS => vv_move rfl) ?_
                refine dd_hn 0 rfl rfl rfl rfl (Kp.refl ([]) w27) (fun w hS => vv_move rfl) ?_
                refine dd_hn 0 rfl rfl rfl rfl (Kp.refl ([]) w27) (fun w hS => vv_move rfl) ?_
                have hb := bnd hm; clear hm; obtain ⟨x21, hx21, hm⟩ := hb
                refine dd_z [] rfl rfl rfl (ev_call en_78 rfl (poly_field_div_w p0.Group.Q a14 a15 _ hx21 _)) ⟨fun _ => tk0, trivial⟩ ?_
                rintro _ w28 ⟨rfl, Gw28⟩
                have z76 := Gw28.size
                refine ⟨Kz.ofGr Gw28, ?_⟩
                have hb := bnd hm; clear hm; obtain ⟨x22, hx22, hm⟩ := hb
                refine dd_z [] rfl rfl rfl (ev_call en_69 rfl (poly_power_w p0 y10.Y x21 _ hx22 _)) ⟨fun _ => tk0, trivial⟩ ?_
                rintro _ w29 ⟨rfl, Gw29⟩
                have z77 := Gw29.size
                refine ⟨Kz.ofGr Gw29, ?_⟩
                refine dd_z [] rfl rfl rfl (ev_litT [a8, x22] uwc bsl_60_2 rfl rfl (ws_of rfl) rfl rfl rfl) ⟨fun _ => tk0, trivial⟩ ?_
                rintro vw30 w30 ⟨gw30, hbw30, Ow30, Gw30⟩
                have z78 := Gw30.size
                have lt79 := Ow30.lth
                refine ⟨Kz.ofGr Gw30, ?_⟩
                have hb := bnd hm; clear hm; obtain ⟨x23, hx23, hm⟩ := hb
                refine dd_z [] rfl rfl rfl (ev_call en_76 rfl (poly_field_mul_w p0.Group.P [a8, x22] _ _ _ _ _ hx23 _ (Own.rd Ow30))) ⟨fun _ => tk0, trivial⟩ ?_
                rintro _ w31 ⟨rfl, Gw31⟩
                have z80 := Gw31.size
                refine ⟨Kz.ofGr Gw31, ?_⟩
                have S81 := (Kp.gr (Kp.gr (Kp.gr (Kp.gr (Kp.refl ([]) w27) Gw28) Gw29) Gw30) Gw31)
                refine dd_hn 0 rfl rfl rfl rfl S81 (fun w hS => vv_assign rfl) ?_
                refine sd_nil ?_
                refine block_n ?_
                refine then_n ?_
                -- region 20 poly.go:201
                refine sw_region [(0, 0), (1, 0)] rfl rfl rfl ?_
                refine sd_vv rfl rfl rfl (vv_add (k := .i64) (a := a9) (b := 1) rfl rfl) ?_
                refine sd_vv rfl rfl rfl (vv_move rfl) ?_
                refine sd_nil ?_
                have K_82 : Kz [] w13 w31 := (Kz.gr (Kz.gr (Kz.gr (Kz.gr (Kz.gr (Kz.kz (Kz.md (Kz.gr Kw15 Gw16) Mw17) Kw18) Gw27) Gw28) Gw29) Gw30) Gw31)
                subst hrec1
                refine ⟨rfl, ⟨n1, x23, w64 (a9 + 1)⟩, ?_, ⟨hm, K_82⟩, Nat.lt_succ_self _⟩
                repeat' first | exact trivial | refine ⟨rfl, ?_⟩
          ·
            replace hm := ite_f (of_decide_eq_false c4) hm
            refine sw_exit ?_
            refine then_x ?_
            refine then_x ?_
            refine block_x ?_
            refine then_n ?_
            have X83 : Gr w w15 := (Gr.kz X43 Kw15)
            refine sw_joinD (β := W2 × Nat) [17, 99, 100, 101, 102, 103] (fun ⟨a25, bq24⟩ => [(17, .pointer (some ⟨bq24, 0, none⟩))]) (fun ⟨a25, bq24⟩ wr => (poly_Open_J3 p2 a25 = some r) ∧ Bx wr bq24 23 (kb a25) ∧ w15.heap.size ≤ bq24 ∧ Kz [] w15 wr) ?_ ?_
            · clear hm; rintro ⟨a25, bq24⟩ w32 ⟨hm, Fw32_0, Fw32_1, Kw32⟩
              have z84 := Kw32.size
              have lt85 := Fw32_0.lt
              unfold poly_Open_J3 at hm
              refine sw_seq ?_
              refine sw_seq ?_
              -- region 22 poly.go:211 DRAWS
              refine sw_drawN [([])] [] (.leaf [(0, 10), (2, 10), (3, 10), (1, 0), (4, 10)]) (by kernel_rfl) (by kernel_rfl) rfl (by kernel_rfl) ?_
              intro w33 Gw33 zw33
              refine sdz_leaf ?_
              have B86 := (Bx.gr Fw32_0 Gw33)
              refine dd_hn 0 rfl rfl rfl rfl (Kp.refl ([]) w33) (fun w hS => vv_loadW agg_23 rfl (Bx.kp B86 hS) rfl) ?_
              refine dd_hn 0 rfl rfl rfl rfl (Kp.refl ([]) w33) (fun w hS => vv_fieldAddr fa_45_4 rfl) ?_
              have B87 := (Bx.gr (Bx.kz (Bx.kz (Bx.gr (Bx.ka (Bx.gr (Bx.gr B29 Gw10) Gw11) Aw12 (tk1 ((.inr tk0) : 1 = 0 ∨ gw11 ≠ b3))) Gw13) Kw15) Kw32) Gw33)
              refine dd_hn 0 rfl rfl rfl rfl (Kp.refl ([]) w33) (fun w hS => vv_loadM (vs := kb p2.Check) agg_23 rfl (Bx.kp B87 hS) rfl rfl) ?_
              refine dd_z [] rfl rfl rfl (ev_call en_52 rfl (derive_c a25 (un8 53#8) (un8_nn _) (un8_le _) 0#64 _)) ⟨fun _ => tk0, trivial⟩ ?_
              rintro _ w34 ⟨rfl, Gw34⟩
              have z88 := Gw34.size
              refine ⟨Kz.ofGr Gw34, ?_⟩
              have S89 := (Kp.gr (Kp.refl ([]) w33) Gw34)
              refine dd_hn 0 rfl rfl rfl rfl S89 (fun w hS => vv_neqS (cf := kb) (a := drv a25 (un8 53#8) 0#64) (b := p2.Check) eqt_23 rfl rfl rfl rfl (fun h => kb_inj h)) ?_
              refine sd_done ?_
              refine sw_cond rfl (fun c7 => ?_) (fun c7 => ?_)
              ·
                replace hm := ite_t (of_decide_eq_true c7) hm
                refine sw_seq ?_
                -- region 23 poly.go:212
                refine sw_region [(0, 0), (1, 0), (2, 0)] rfl rfl rfl ?_
                refine sd_vv rfl rfl rfl (vv_buildZ bz_23) ?_
                have B90 := (Bx.gr (Bx.gr (Bx.kz (Bx.kz (Bx.gr (Bx.ka (Bx.gr (Bx.gr (Bx.gr (Bx.gr (Bx.gr Bw4 Gw5) Gw7) Gw9) Gw10) Gw11) Aw12 (tk1 ((.inr tk0) : 1 = 0 ∨ gw11 ≠ b4))) Gw13) Kw15) Kw32) Gw33) Gw34)
                refine sd_ev rfl rfl rfl (ev_stM (cs' := kb k0) (vs := kb k0) (agg_23).siz rfl rfl rfl rfl rfl B90 rfl rfl) ?_
                rintro _ w35 ⟨Bw35, Mw35⟩
                have z91 := Mw35.size
                refine sd_vv rfl rfl rfl (vv_assign rfl) ?_
                refine sd_done ?_
                refine sw_ret ?_
                refine then_r ?_
                have X92 : Gr w w35 := (Gr.md (Gr.trans (Gr.trans (Gr.kz X83 Kw32) Gw33) Gw34) Mw35)
                have hr := Option.some.inj hm
                subst hr
                refine ⟨_, _, rfl, res_2 rfl (rv_cellW agg_23 rfl Bw35 rfl) (rv_tmp rfl), ?_⟩
                exact ⟨rfl, X92⟩
              ·
                replace hm := ite_f (of_decide_eq_false c7) hm
                refine sw_skip ?_
                refine then_n ?_
                refine sw_seq ?_
                -- region 24 poly.go:214
                refine sw_region [(0, 0), (1, 0), (2, 0)] rfl rfl rfl ?_
                have B93 := (Bx.gr B86 Gw34)
                refine sd_vv rfl rfl rfl (vv_loadW agg_23 rfl B93 rfl) ?_
                have B94 := (Bx.gr (Bx.gr (Bx.kz (Bx.kz (Bx.gr (Bx.ka (Bx.gr (Bx.gr (Bx.gr (Bx.gr (Bx.gr Bw4 Gw5) Gw7) Gw9) Gw10) Gw11) Aw12 (tk1 ((.inr tk0) : 1 = 0 ∨ gw11 ≠ b4))) Gw13) Kw15) Kw32) Gw33) Gw34)
                refine sd_ev rfl rfl rfl (ev_stM (cs' := kb a25) (vs := kb a25) (agg_23).siz rfl rfl rfl rfl rfl B94 rfl rfl) ?_
                rintro _ w36 ⟨Bw36, Mw36⟩
                have z95 := Mw36.size
                refine sd_vv rfl rfl rfl (vv_assign rfl) ?_
                refine sd_done ?_
                refine sw_ret ?_
                have X96 : Gr w w36 := (Gr.md (Gr.trans (Gr.trans (Gr.kz X83 Kw32) Gw33) Gw34) Mw36)
                have hr := Option.some.inj hm
                subst hr
                refine ⟨_, _, rfl, res_2 rfl (rv_cellW agg_23 rfl Bw36 rfl) (rv_tmp rfl), ?_⟩
                exact ⟨rfl, X96⟩
            ·
              -- region 21 poly.go:210 DRAWS
              refine sw_drawN [([])] [] (.fork [(0, 10), (2, 10), (3, 10)] (.fork [(1, 0)] (.leaf [(4, 0), (5, 0), (6, 0)]) (.leaf [(5, 0), (4, 0), (6, 0)])) (.leaf [(5, 0), (1, 0), (4, 0), (6, 0)])) (by kernel_rfl) (by kernel_rfl) rfl (by kernel_rfl) ?_
              intro w37 Gw37 zw37
              refine sdz_fork ?_
              refine dd_hn 0 rfl rfl rfl rfl (Kp.refl ([]) w37) (fun w hS => vv_move rfl) ?_
              refine dd_hn 0 rfl rfl rfl rfl (Kp.refl ([]) w37) (fun w hS => vv_fieldAddr fa_45_3 rfl) ?_
              have B97 := (Bx.gr (Bx.kz (Bx.gr (Bx.ka (Bx.gr (Bx.gr B29 Gw10) Gw11) Aw12 (tk1 ((.inr tk0) : 1 = 0 ∨ gw11 ≠ b3))) Gw13) Kw15) Gw37)
              refine dd_hn 0 rfl rfl rfl rfl (Kp.refl ([]) w37) (fun w hS => vv_loadM (vs := kb p2.Box) agg_23 rfl (Bx.kp B97 hS) rfl rfl) ?_
              refine sd_fork ?_ ?_
              ·
                refine sdz_fork ?_
                have hb := bnd hm; clear hm; obtain ⟨x26, hx26, hm⟩ := hb
                refine dd_z [] rfl rfl rfl (ev_call en_72 rfl (poly_maskKey_w a8 _ hx26 _)) ⟨fun _ => tk0, trivial⟩ ?_
                rintro _ w38 ⟨rfl, Gw38⟩
                have z98 := Gw38.size
                refine ⟨Kz.ofGr Gw38, ?_⟩
                refine sd_fork ?_ ?_
                ·
                  refine sdz_leaf ?_
                  refine dd_z [] rfl rfl rfl (ev_call en_79 rfl (decr_c x26 p2.Box _)) ⟨fun _ => tk0, trivial⟩ ?_
                  rintro _ w39 ⟨rfl, Gw39⟩
                  have z99 := Gw39.size
                  refine ⟨Kz.ofGr Gw39, ?_⟩
                  refine dd_z [] rfl rfl rfl (ev_alloc (cs := kb k0) zv_23 rfl) ⟨fun _ => tk0, trivial⟩ ?_
                  rintro _ w40 ⟨b40, rfl, hbw40, Bw40, Gw40⟩
                  have z100 := Gw40.size
                  have lt101 := Bw40.lt
                  refine ⟨Kz.ofGr Gw40, ?_⟩
                  refine dd_z [(1, b40)] rfl rfl rfl (ev_stM (cs' := kb (decr x26 p2.Box)) (vs := kb (decr x26 p2.Box)) (agg_23).siz rfl rfl rfl rfl rfl Bw40 rfl (by obtain ⟨kk0, hk0⟩ := ex_of (decr x26 p2.Box); rw [← hk0]; first | done | rfl)) ⟨fun _ => tk0, trivial⟩ ?_
                  rintro _ w41 ⟨Bw41, Mw41⟩
                  have z102 := Mw41.size
                  refine ⟨Kz.ofMd Mw41, ?_⟩
                  refine sd_nil ?_
                  have K_103 : Kz [] w15 w41 := (Kz.md (Kz.gr (Kz.gr (Kz.gr (Kz.gr (Kz.refl _ _) Gw37) Gw38) Gw39) Gw40) Mw41)
                  refine ⟨rfl, ⟨decr x26 p2.Box, b40⟩, ?_, hm, Bw41, (by omega), K_103⟩
                  repeat' first | exact trivial | refine ⟨rfl, ?_⟩
                ·
                  refine sdz_leaf ?_
                  refine dd_z [] rfl rfl rfl (ev_alloc (cs := kb k0) zv_23 rfl) ⟨fun _ => tk0, trivial⟩ ?_
                  rintro _ w42 ⟨b42, rfl, hbw42, Bw42, Gw42⟩
                  have z104 := Gw42.size
                  have lt105 := Bw42.lt
                  refine ⟨Kz.ofGr Gw42, ?_⟩
                  refine dd_z [] rfl rfl rfl (ev_call en_79 rfl (decr_c x26 p2.Box _)) ⟨fun _ => tk0, trivial⟩ ?_
                  rintro _ w43 ⟨rfl, Gw43⟩
                  have z106 := Gw43.size
                  refine ⟨Kz.ofGr Gw43, ?_⟩
                  have B107 := (Bx.gr Bw42 Gw43)
                  refine dd_z [(1, b42)] rfl rfl rfl (ev_stM (cs' := kb (decr x26 p2.Box)) (vs := kb (decr x26 p2.Box)) (agg_23).siz rfl rfl rfl rfl rfl B107 rfl (by obtain ⟨kk0, hk0⟩ := ex_of (decr x26 p2.Box); rw [← hk0]; first | done | rfl)) ⟨fun _ => tk0, trivial⟩ ?_
                  rintro _ w44 ⟨Bw44, Mw44⟩
                  have z108 := Mw44.size
                  refine ⟨Kz.ofMd Mw44, ?_⟩
                  refine sd_nil ?_
                  have K_109 : Kz [] w15 w44 := (Kz.md (Kz.gr (Kz.gr (Kz.gr (Kz.gr (Kz.refl _ _) Gw37) Gw38) Gw42) Gw43) Mw44)
                  refine ⟨rfl, ⟨decr x26 p2.Box, b42⟩, ?_, hm, Bw44, (by omega), K_109⟩
                  repeat' first | exact trivial | refine ⟨rfl, ?_⟩
              ·
                refine sdz_leaf ?_
                refine dd_z [] rfl rfl rfl (ev_alloc (cs := kb k0) zv_23 rfl) ⟨fun _ => tk0, trivial⟩ ?_
                rintro _ w45 ⟨b45, rfl, hbw45, Bw45, Gw45⟩
                have z110 := Gw45.size
                have lt111 := Bw45.lt
                refine ⟨Kz.ofGr Gw45, ?_⟩
                have hb := bnd hm; clear hm; obtain ⟨x27, hx27, hm⟩ := hb
                refine dd_z [] rfl rfl rfl (ev_call en_72 rfl (poly_maskKey_w a8 _ hx27 _)) ⟨fun _ => tk0, trivial⟩ ?_
                rintro _ w46 ⟨rfl, Gw46⟩
                have z112 := Gw46.size
                refine ⟨Kz.ofGr Gw46, ?_⟩
                refine dd_z [] rfl rfl rfl (ev_call en_79 rfl (decr_c x27 p2.Box _)) ⟨fun _ => tk0, trivial⟩ ?_
                rintro _ w47 ⟨rfl, Gw47⟩
                have z113 := Gw47.size
                refine ⟨Kz.ofGr Gw47, ?_⟩
                have B114 := (Bx.gr (Bx.gr Bw45 Gw46) Gw47)
                refine dd_z [(1, b45)] rfl rfl rfl (ev_stM (cs' := kb (decr x27 p2.Box)) (vs := kb (decr x27 p2.Box)) (agg_23).siz rfl rfl rfl rfl rfl B114 rfl (by obtain ⟨kk0, hk0⟩ := ex_of (decr x27 p2.Box); rw [← hk0]; first | done | rfl)) ⟨fun _ => tk0, trivial⟩ ?_
                rintro _ w48 ⟨Bw48, Mw48⟩
                have z115 := Mw48.size
                refine ⟨Kz.ofMd Mw48, ?_⟩
                refine sd_nil ?_
                have K_116 : Kz [] w15 w48 := (Kz.md (Kz.gr (Kz.gr (Kz.gr (Kz.gr (Kz.refl _ _) Gw37) Gw45) Gw46) Gw47) Mw48)
                refine ⟨rfl, ⟨decr x27 p2.Box, b45⟩, ?_, hm, Bw48, (by omega), K_116⟩
                repeat' first | exact trivial | refine ⟨rfl, ?_⟩

set_option maxHeartbeats 2000000 in
theorem ref04_SameWords_w (p0 : List (BitVec 64)) (p1 : List (BitVec 64)) (vp0 : Value) (zp0 gp0 op0 : Nat) (vp1 : Value) (zp1 gp1 op1 : Nat) (r : Bool) (hm : ref04_SameWords p0 p1 = some r) (w : World) (hp0 : Rd w zp0 gp0 op0 1 vp0 (p0.map uwc)) (hp1 : Rd w zp1 gp1 op1 1 vp1 (p1.map uwc))  :
    Calls Try.prog 31 [vp0, vp1].toArray w fun e w' => ∃ v, e = .returned v ∧ (v = .bool r ∧ Gr w w') := by
  have lt1 := hp0.lth
  have lt2 := hp1.lth
  unfold ref04_SameWords at hm
  refine calls_of_sw (R := fun v w' => v = .bool r ∧ Gr w w') 26 Try.func31 rfl rfl rfl ?_
  refine sw_seq ?_
  -- region 0 ref.go:400
  refine sw_region [(0, 0)] rfl rfl rfl ?_
  refine sd_vv rfl rfl rfl (vv_assign rfl) ?_
  refine sd_done ?_
  refine sw_seq ?_
  refine sw_seq ?_
  -- region 1 ref.go:401
  refine sw_region [(0, 0), (1, 0), (2, 0), (3, 0), (4, 0)] rfl rfl rfl ?_
  refine sd_vv rfl rfl rfl (vv_move rfl) ?_
  refine sd_vv rfl rfl rfl (vv_lenT (l := p0) (c := uwc) Try.underlying60 rfl hp0) ?_
  refine sd_vv rfl rfl rfl (vv_move rfl) ?_
  refine sd_vv rfl rfl rfl (vv_lenT (l := p1) (c := uwc) Try.underlying60 rfl hp1) ?_
  refine sd_vv rfl rfl rfl (vv_neq (a := (p0.length : Int)) (b := (p1.length : Int)) rfl rfl) ?_
  refine sd_done ?_
  refine sw_cond rfl (fun c1 => ?_) (fun c1 => ?_)
  ·
    replace hm := ite_t (of_decide_eq_true c1) hm
    refine sw_seq ?_
    -- region 2 ref.go:402
    refine sw_region [(0, 0)] rfl rfl rfl ?_
    refine sd_vv rfl rfl rfl (vv_assign rfl) ?_
    refine sd_done ?_
    refine sw_ret ?_
    refine then_r ?_
    have hr := Option.some.inj hm
    subst hr
    refine ⟨_, _, rfl, res_1 rfl (rv_tmp rfl), ?_⟩
    exact ⟨rfl, (Gr.refl w)⟩
  ·
    replace hm := ite_f (of_decide_eq_false c1) hm
    refine sw_skip ?_
    refine then_n ?_
    refine sw_seq ?_
    refine sw_seq ?_
    -- region 3 ref.go:404
    refine sw_region [(0, 0)] rfl rfl rfl ?_
    refine sd_vv rfl rfl rfl (vv_assign rfl) ?_
    refine sd_done ?_
    refine sw_block ?_
    refine sw_loopD (α := Nat × Int) [4, 5, 11, 12, 13, 14, 15, 16, 17, 18, 19, 20, 21, 22, 23, 24, 25] (fun ⟨n1, a2⟩ => [(4, .bool false), (5, .int .i64 a2)]) (fun ⟨n1, a2⟩ wr => (fixN (ref04_SameWords_L1 p0 p1) n1 a2 = some r) ∧ Kz [] w wr) (fun ⟨n1, a2⟩ => n1) ⟨FUEL, 0⟩ ?_ ?_ ?_
    · repeat' first | exact trivial | refine ⟨rfl, ?_⟩
    · exact ⟨hm, Kz.refl _ _⟩
    · clear hm; rintro ⟨n1, a2⟩ w1 ⟨hm, Kw1⟩
      have z3 := Kw1.size
      have hb := fix_succ hm; clear hm; obtain ⟨n1, rfl, hm⟩ := hb
      generalize hrec1 : fixN (ref04_SameWords_L1 p0 p1) n1 = rec1 at hm
      unfold ref04_SameWords_L1 at hm
      try dsimp only at hm
      refine sw_seq ?_
      refine sw_seq ?_
      -- region 4 ref.go:404
      refine sw_region [(0, 0), (1, 0), (2, 0), (3, 0)] rfl rfl rfl ?_
      refine sd_vv rfl rfl rfl (vv_move rfl) ?_
      refine sd_vv rfl rfl rfl (vv_move rfl) ?_
      have B4 := (Rd.kz hp0 Kw1)
      refine sd_vv rfl rfl rfl (vv_lenT (l := p0) (c := uwc) Try.underlying60 rfl B4) ?_
      refine sd_vv rfl rfl rfl (vv_lss (a := a2) (b := (p0.length : Int)) rfl rfl) ?_
      refine sd_done ?_
      refine sw_cond rfl (fun c2 => ?_) (fun c2 => ?_)
      ·
        replace hm := ite_t (of_decide_eq_true c2) hm
        refine sw_skip ?_
        refine then_n ?_
        refine sw_seq ?_
        refine sw_block ?_
        refine sw_seq ?_
        -- region 6 ref.go:405 DRAWS
        refine sw_drawN [([])] [] (.leaf [(0, 10), (1, 10), (2, 10), (3, 10), (4, 10), (5, 10), (6, 10), (7, 10), (8, 10)]) (by kernel_rfl) (by kernel_rfl) rfl (by kernel_rfl) ?_
        intro w2 Gw2 zw2
        refine sdz_leaf ?_
        refine dd_hn 0 rfl rfl rfl rfl (Kp.refl ([]) w2) (fun w hS => vv_move rfl) ?_
        refine dd_hn 0 rfl rfl rfl rfl (Kp.refl ([]) w2) (fun w hS => vv_move rfl) ?_
        have hb := bnd hm; clear hm; obtain ⟨y3, hy3, hm⟩ := hb
        have B5 := (Rd.gr B4 Gw2)
        refine dd_hn 0 rfl rfl rfl rfl (Kp.refl ([]) w2) (fun w hS => vv_ixT (i := a2) Try.underlying60 (one_24).siz rfl (Rd.kp B5 hS) rfl hy3) ?_
        refine dd_hn 0 rfl rfl rfl rfl (Kp.refl ([]) w2) (fun w hS => vv_el1T (q := 0) (u := wv y3) one_24 rfl (Rd.kp B5 hS) hy3 (by first | rfl | omega) rfl) ?_
        refine dd_hn 0 rfl rfl rfl rfl (Kp.refl ([]) w2) (fun w hS => vv_move rfl) ?_
        refine dd_hn 0 rfl rfl rfl rfl (Kp.refl ([]) w2) (fun w hS => vv_move rfl) ?_
        have hb := bnd hm; clear hm; obtain ⟨y4, hy4, hm⟩ := hb
        have B6 := (Rd.gr (Rd.kz hp1 Kw1) Gw2)
        refine dd_hn 0 rfl rfl rfl rfl (Kp.refl ([]) w2) (fun w hS => vv_ixT (i := a2) Try.underlying60 (one_24).siz rfl (Rd.kp B6 hS) rfl hy4) ?_
        refine dd_hn 0 rfl rfl rfl rfl (Kp.refl ([]) w2) (fun w hS => vv_el1T (q := 0) (u := wv y4) one_24 rfl (Rd.kp B6 hS) hy4 (by first | rfl | omega) rfl) ?_
        refine dd_hn 0 rfl rfl rfl rfl (Kp.refl ([]) w2) (fun w hS => vv_neqU (c := y3) (d := y4) rfl rfl) ?_
        refine sd_done ?_
        refine sw_cond rfl (fun c3 => ?_) (fun c3 => ?_)
        ·
          replace hm := ite_t (of_decide_eq_true c3) hm
          refine sw_seq ?_
          -- region 7 ref.go:406
          refine sw_region [(0, 0)] rfl rfl rfl ?_
          refine sd_vv rfl rfl rfl (vv_assign rfl) ?_
          refine sd_done ?_
          refine sw_ret ?_
          refine block_r ?_
          refine then_r ?_
          refine then_r ?_
          refine block_r ?_
          refine then_r ?_
          have X7 : Gr w w2 := (Gr.trans (Gr.kz (Gr.refl w) Kw1) Gw2)
          have hr := Option.some.inj hm
          subst hr
          refine ⟨_, _, rfl, res_1 rfl (rv_tmp rfl), ?_⟩
          exact ⟨rfl, X7⟩
        ·
          replace hm := ite_f (of_decide_eq_false c3) hm
          refine sw_skip ?_
          refine block_n ?_
          refine then_n ?_
          -- region 5 ref.go:404
          refine sw_region [(0, 0), (1, 0), (2, 0)] rfl rfl rfl ?_
          refine sd_vv rfl rfl rfl (vv_move rfl) ?_
          refine sd_vv rfl rfl rfl (vv_add (k := .i64) (a := a2) (b := 1) rfl rfl) ?_
          refine sd_vv rfl rfl rfl (vv_assign rfl) ?_
          refine sd_nil ?_
          have K_8 : Kz [] w w2 := (Kz.gr Kw1 Gw2)
          subst hrec1
          refine ⟨rfl, ⟨n1, w64 (a2 + 1)⟩, ?_, ⟨hm, K_8⟩, Nat.lt_succ_self _⟩
          repeat' first | exact trivial | refine ⟨rfl, ?_⟩
      ·
        replace hm := ite_f (of_decide_eq_false c2) hm
        refine sw_exit ?_
        refine then_x ?_
        refine then_x ?_
        refine block_x ?_
        refine then_n ?_
        refine sw_seq ?_
        -- region 8 ref.go:409
        refine sw_region [(0, 0)] rfl rfl rfl ?_
        refine sd_vv rfl rfl rfl (vv_assign rfl) ?_
        refine sd_done ?_
        refine sw_ret ?_
        have X9 : Gr w w1 := (Gr.kz (Gr.refl w) Kw1)
        have hr := Option.some.inj hm
        subst hr
        refine ⟨_, _, rfl, res_1 rfl (rv_tmp rfl), ?_⟩
        exact ⟨rfl, X9⟩
end Go.Proofs.Ytkdghilkigojgaa.Mx
