/- Walks that follow mirrors: Xp. Printed by mx.py. -/
import Derived.Test.YtkdghilkigojgaaMirJ
import Derived.Test.YtkdghilkigojgaaSrtLbl
import Derived.Test.YtkdghilkigojgaaXy
import Derived.Test.YtkdghilkigojgaaXpM
set_option linter.unusedVariables false
set_option linter.unusedSimpArgs false
set_option maxRecDepth 100000
namespace Go.Proofs.Ytkdghilkigojgaa.Mx
open Go Go.RowKit Go.Sx
theorem zv_76 : ZV Try.prog 76 (.agg [.int .i64 0, .slice none 0 0].toArray) := fun _ => by kernel_rfl
theorem bs_76 : BS Try.prog 76 (fun i => [(0, 1), (1, 1)][i]?) [.int .i64 0, .slice none 0 0] := bs_mk Try.underlying76 zv_76 ⟨rfl, (one_3).siz, rfl, (one_29).siz, trivial⟩
theorem agg_76 : Agg Try.prog 76 2 := fun _ => ⟨by kernel_rfl, by kernel_rfl⟩
theorem zv_88 : ZV Try.prog 88 (.agg [.int .i64 0, .int .i64 0, .int .u8 0, .int .u8 0, .int .u8 0, .int .u8 0, .int .u8 0, .int .u8 0, .int .u8 0, .int .u8 0, .int .u8 0, .int .u8 0, .int .u8 0, .int .u8 0, .int .u8 0, .int .u8 0, .int .u8 0, .int .u8 0].toArray) := fun _ => by kernel_rfl
theorem bs_88 : BS Try.prog 88 (fun i => [(0, 1), (1, 1), (2, 16)][i]?) [.int .i64 0, .int .i64 0, .int .u8 0, .int .u8 0, .int .u8 0, .int .u8 0, .int .u8 0, .int .u8 0, .int .u8 0, .int .u8 0, .int .u8 0, .int .u8 0, .int .u8 0, .int .u8 0, .int .u8 0, .int .u8 0, .int .u8 0, .int .u8 0] := bs_mk Try.underlying88 zv_88 ⟨rfl, (one_3).siz, rfl, (one_3).siz, rfl, (agg_23).siz, trivial⟩
theorem agg_88 : Agg Try.prog 88 18 := fun _ => ⟨by kernel_rfl, by kernel_rfl⟩
theorem bsl_29_1 : BSl Try.prog 29 1 88 18 [.int .i64 0, .int .i64 0, .int .u8 0, .int .u8 0, .int .u8 0, .int .u8 0, .int .u8 0, .int .u8 0, .int .u8 0, .int .u8 0, .int .u8 0, .int .u8 0, .int .u8 0, .int .u8 0, .int .u8 0, .int .u8 0, .int .u8 0, .int .u8 0] := bsl_mk Try.underlying29 (agg_88).siz zv_88 rfl rfl (by kernel_rfl)
theorem fa_76_0 : FA Try.prog 76 0 0 := fun _ _ _ => by kernel_rfl
theorem fa_76_1 : FA Try.prog 76 1 1 := fun _ _ _ => by kernel_rfl
theorem fa_88_1 : FA Try.prog 88 1 1 := fun _ _ _ => by kernel_rfl
theorem fa_88_0 : FA Try.prog 88 0 0 := fun _ _ _ => by kernel_rfl
theorem cv_3_163 : CV Try.prog 3 163 .u64 := fun _ _ _ => by kernel_rfl
theorem en_107 : En Try.prog 107 := fun _ _ => by kernel_rfl
theorem en_95 : En Try.prog 95 := fun _ _ => by kernel_rfl
theorem en_94 : En Try.prog 94 := fun _ _ => by kernel_rfl
theorem en_136 : En Try.prog 136 := fun _ _ => by kernel_rfl
theorem en_93 : En Try.prog 93 := fun _ _ => by kernel_rfl
theorem zv_3 : ZV Try.prog 3 (.int .i64 0) := fun _ => by kernel_rfl
theorem en_42 : En Try.prog 42 := fun _ _ => by kernel_rfl
theorem en_137 : En Try.prog 137 := fun _ _ => by kernel_rfl
theorem en_96 : En Try.prog 96 := fun _ _ => by kernel_rfl
theorem bsl_29_0 : BSl Try.prog 29 0 88 18 [] := bsl_nil Try.underlying29 (agg_88).siz
theorem apt_29 : ApT Try.prog 29 88 18 32 := apt_mk Try.underlying29 rfl (by kernel_rfl)
theorem en_97 : En Try.prog 97 := fun _ _ => by kernel_rfl
theorem en_98 : En Try.prog 98 := fun _ _ => by kernel_rfl
theorem cv_3_5 : CV Try.prog 3 5 .u8 := fun _ _ _ => by kernel_rfl
theorem fa_88_2 : FA Try.prog 88 2 2 := fun _ _ _ => by kernel_rfl
theorem en_99 : En Try.prog 99 := fun _ _ => by kernel_rfl
theorem en_100 : En Try.prog 100 := fun _ _ => by kernel_rfl
theorem eqc_3 : EqC Try.prog 1 3 [.i64] := eqc_int Try.underlying3 one_3
theorem eqc_88 : EqC Try.prog 3 88 [.i64, .i64, .u8, .u8, .u8, .u8, .u8, .u8, .u8, .u8, .u8, .u8, .u8, .u8, .u8, .u8, .u8, .u8] := eqc_struct Try.underlying88 (by kernel_rfl) agg_88 (show EqF _ 2 _ _ _ from (eqf_cons (ks1 := [.i64]) (ks2 := [.i64, .u8, .u8, .u8, .u8, .u8, .u8, .u8, .u8, .u8, .u8, .u8, .u8, .u8, .u8, .u8, .u8]) rfl (by simp) (eqc_3.up (by decide)) (eqf_cons (ks1 := [.i64]) (ks2 := [.u8, .u8, .u8, .u8, .u8, .u8, .u8, .u8, .u8, .u8, .u8, .u8, .u8, .u8, .u8, .u8]) rfl (by simp) (eqc_3.up (by decide)) (eqf_cons (ks1 := [.u8, .u8, .u8, .u8, .u8, .u8, .u8, .u8, .u8, .u8, .u8, .u8, .u8, .u8, .u8, .u8]) (ks2 := []) rfl (by simp) (eqc_23.up (by decide)) (eqf_nil _)))))
theorem eqt_88 : EqT Try.prog 88 [.i64, .i64, .u8, .u8, .u8, .u8, .u8, .u8, .u8, .u8, .u8, .u8, .u8, .u8, .u8, .u8, .u8, .u8] := ⟨by kernel_rfl, agg_88, 3, by decide, eqc_88⟩
theorem en_66 : En Try.prog 66 := fun _ _ => by kernel_rfl
theorem en_110 : En Try.prog 110 := fun _ _ => by kernel_rfl
theorem en_103 : En Try.prog 103 := fun _ _ => by kernel_rfl

set_option maxHeartbeats 2000000 in
theorem poly_Full_w (p0 : W2) (p1 : Int)  (r : TPunctured × Int) (hm : poly_Full p0 p1 = some r) (w : World)   :
    Calls Try.prog 39 [kv p0, .int .i64 p1].toArray w fun e w' => ∃ v, e = .returned v ∧ (∃ (ur0_1 : Value) (zr0_1 : Nat) (gr0_1 : Nat), v = .tuple [.agg (TPunctured.cs r.1 ur0_1).toArray, .int .i64 r.2].toArray ∧ Own w' zr0_1 gr0_1 88 18 ur0_1 (r.1.Labels.map TLabel.cs) ∧ Hdn (zr0_1 = 0 ∨ w.heap.size ≤ gr0_1) ∧ Gr w w') := by
  unfold poly_Full at hm
  refine calls_of_sw (R := fun v w' => ∃ (ur0_1 : Value) (zr0_1 : Nat) (gr0_1 : Nat), v = .tuple [.agg (TPunctured.cs r.1 ur0_1).toArray, .int .i64 r.2].toArray ∧ Own w' zr0_1 gr0_1 88 18 ur0_1 (r.1.Labels.map TLabel.cs) ∧ Hdn (zr0_1 = 0 ∨ w.heap.size ≤ gr0_1) ∧ Gr w w') 18 Try.func39 rfl rfl rfl ?_
  refine sw_seq ?_
  -- region 0 puncture.go:18
  refine sw_region [(0, 0), (1, 0), (2, 0)] rfl rfl rfl ?_
  refine sd_ev rfl rfl rfl (ev_box (cs := kb p0) rfl rfl) ?_
  rintro _ w1 ⟨b1, rfl, hbw1, Bw1, Gw1⟩
  have z1 := Gw1.size
  have lt2 := Bw1.lt
  refine sd_ev rfl rfl rfl (ev_alloc (cs := TPunctured.cs (TPunctured.mk 0 []) (.slice none 0 0)) zv_76 rfl) ?_
  rintro _ w2 ⟨b2, rfl, hbw2, Bw2, Gw2⟩
  have z3 := Gw2.size
  have lt4 := Bw2.lt
  refine sd_vv rfl rfl rfl (vv_assign rfl) ?_
  refine sd_done ?_
  refine sw_seq ?_
  have X5 : Gr w w2 := (Gr.trans (Gr.trans (Gr.refl w) Gw1) Gw2)
  refine sw_joinD (β := Bool) [6, 7, 8, 9, 10, 11] (fun a1 => [(11, .bool a1)]) (fun a1 wr => (poly_Full_J1 p0 p1 a1 = some r) ∧ Kz [] w2 wr) ?_ ?_
  · clear hm; rintro a1 w3 ⟨hm, Kw3⟩
    have z6 := Kw3.size
    unfold poly_Full_J1 at hm
    refine sw_cond rfl (fun c1 => ?_) (fun c1 => ?_)
    ·
      replace hm := cnd_t c1 hm
      refine sw_seq ?_
      -- region 2 puncture.go:20
      refine sw_region [(0, 0), (1, 0), (2, 0)] rfl rfl rfl ?_
      refine sd_vv rfl rfl rfl (vv_build (cs := TPunctured.cs (TPunctured.mk 0 []) (.slice none 0 0)) bs_76 rfl rfl) ?_
      have B7 := (Bx.kz Bw2 Kw3)
      refine sd_ev rfl rfl rfl (ev_stM (cs' := TPunctured.cs (TPunctured.mk 0 []) (.slice none 0 0)) (vs := TPunctured.cs (TPunctured.mk 0 []) (.slice none 0 0)) (agg_76).siz rfl rfl rfl rfl (TPunctured.cs_ones _ _ rfl) B7 rfl rfl) ?_
      rintro _ w4 ⟨Bw4, Mw4⟩
      have z8 := Mw4.size
      refine sd_vv rfl rfl rfl (vv_assign rfl) ?_
      refine sd_done ?_
      refine sw_ret ?_
      refine then_r ?_
      have X9 : Gr w w4 := (Gr.md (Gr.kz X5 Kw3) Mw4)
      have hr := Option.some.inj hm
      subst hr
      refine ⟨_, _, rfl, res_2 rfl (rv_cellW agg_76 rfl Bw4 rfl) (rv_tmp rfl), ?_⟩
      exact ⟨(.slice none 0 0), 0, 0, rfl, (own_nil _ 0 88 18), ⟨.inl rfl⟩, X9⟩
    ·
      replace hm := cnd_f c1 hm
      refine sw_skip ?_
      refine then_n ?_
      refine sw_seq ?_
      -- region 3 puncture.go:22
      refine sw_region [(0, 0), (1, 0), (2, 0), (3, 0), (4, 0), (5, 0), (6, 0)] rfl rfl rfl ?_
      refine sd_vv rfl rfl rfl (vv_move rfl) ?_
      have B10 := (Bx.kz (Bx.gr Bw1 Gw2) Kw3)
      refine sd_vv rfl rfl rfl (vv_loadW agg_23 rfl B10 rfl) ?_
      refine sd_vv rfl rfl rfl (vv_build (cs := TLabel.cs (TLabel.mk 1 0 p0)) bs_88 rfl (fill_M rfl rfl rfl (fill_M rfl rfl rfl (by kernel_rfl)))) ?_
      refine sd_ev rfl rfl rfl (ev_litT [(TLabel.mk 1 0 p0)] TLabel.cs bsl_29_1 rfl rfl (ws_of rfl) rfl rfl rfl) ?_
      rintro vw5 w5 ⟨gw5, hbw5, Ow5, Gw5⟩
      have z11 := Gw5.size
      have lt12 := Ow5.lth
      refine sd_vv rfl rfl rfl (vv_build (cs := TPunctured.cs (TPunctured.mk p1 [(TLabel.mk 1 0 p0)]) vw5) bs_76 rfl (fill_M rfl rfl rfl (fill_1 rfl (Own.oneB Ow5) rfl rfl))) ?_
      have B13 := (Bx.gr (Bx.kz Bw2 Kw3) Gw5)
      refine sd_ev rfl rfl rfl (ev_stM (cs' := TPunctured.cs (TPunctured.mk p1 [(TLabel.mk 1 0 p0)]) vw5) (vs := TPunctured.cs (TPunctured.mk p1 [(TLabel.mk 1 0 p0)]) vw5) (agg_76).siz rfl rfl rfl rfl (TPunctured.cs_ones _ _ (Own.oneB Ow5)) B13 rfl rfl) ?_
      rintro _ w6 ⟨Bw6, Mw6⟩
      have z14 := Mw6.size
      refine sd_vv rfl rfl rfl (vv_assign rfl) ?_
      refine sd_done ?_
      refine sw_ret ?_
      have B15 := (Own.md Ow5 Mw6 (tk1 ((.inr tk0) : 1 = 0 ∨ gw5 ≠ b2)))
      have X16 : Gr w w6 := (Gr.md (Gr.trans (Gr.kz X5 Kw3) Gw5) Mw6)
      have hr := Option.some.inj hm
      subst hr
      refine ⟨_, _, rfl, res_2 rfl (rv_cellW agg_76 rfl Bw6 rfl) (rv_tmp rfl), ?_⟩
      exact ⟨vw5, 1, gw5, rfl, B15, ⟨(.inr tk0)⟩, X16⟩
  ·
    -- region 1 puncture.go:19
    refine sw_region [(0, 0), (1, 0), (2, 0), (3, 0), (4, 0), (5, 0)] rfl rfl rfl ?_
    refine sd_vv rfl rfl rfl (vv_move rfl) ?_
    refine sd_vv rfl rfl rfl (vv_lss (a := p1) (b := 0) rfl rfl) ?_
    refine sd_split rfl rfl rfl (vv_move rfl) (fun c2 => ?_) (fun c2 => ?_)
    ·
      replace hm := ite_t (of_decide_eq_true c2) hm
      refine sd_skip rfl rfl rfl ?_
      refine sd_skip rfl rfl rfl ?_
      refine sd_vv rfl rfl rfl (vv_pickT rfl rfl) ?_
      refine sd_nil ?_
      have K_17 : Kz [] w2 w2 := (Kz.refl _ _)
      refine ⟨rfl, true, ?_, hm, K_17⟩
      repeat' first | exact trivial | refine ⟨rfl, ?_⟩
    ·
      replace hm := ite_f (of_decide_eq_false c2) hm
      refine sd_vv rfl rfl rfl (vv_move rfl) ?_
      refine sd_vv rfl rfl rfl (vv_gtr (a := p1) (b := 6) rfl rfl) ?_
      refine sd_vv rfl rfl rfl (vv_pickF rfl rfl) ?_
      refine sd_nil ?_
      have K_18 : Kz [] w2 w2 := (Kz.refl _ _)
      refine ⟨rfl, (decide ((6 : Int) < p1)), ?_, hm, K_18⟩
      repeat' first | exact trivial | refine ⟨rfl, ?_⟩

set_option maxHeartbeats 2000000 in
theorem poly_below_w (p0 : Int) (p1 : Int)  (r : Bool) (hm : poly_below p0 p1 = some r) (w : World)   :
    Calls Try.prog 95 [.int .i64 p0, .int .i64 p1].toArray w fun e w' => ∃ v, e = .returned v ∧ (v = .bool r ∧ Gr w w') := by
  unfold poly_below at hm
  refine calls_of_sw (R := fun v w' => v = .bool r ∧ Gr w w') 22 Try.func95 rfl rfl rfl ?_
  refine sw_seq ?_
  -- region 0 puncture.go:12
  refine sw_region [(0, 0)] rfl rfl rfl ?_
  refine sd_vv rfl rfl rfl (vv_assign rfl) ?_
  refine sd_done ?_
  refine sw_seq ?_
  -- region 1 puncture.go:13
  refine sw_region [(0, 0), (1, 0), (2, 0), (3, 0), (4, 0), (5, 0), (6, 0), (7, 0)] rfl rfl rfl ?_
  refine sd_vv rfl rfl rfl (vv_move rfl) ?_
  refine sd_vv rfl rfl rfl (vv_cvIU cv_3_163 rfl) ?_
  refine sd_ev rfl rfl rfl (ev_call en_107 rfl (len_c (un (wd p0)) (un_nonneg _) (by have := un_le (wd p0); omega) _)) ?_
  rintro _ w1 ⟨rfl, Gw1⟩
  have z1 := Gw1.size
  refine sd_vv rfl rfl rfl (vv_move rfl) ?_
  refine sd_vv rfl rfl rfl (vv_cvIU cv_3_163 rfl) ?_
  refine sd_ev rfl rfl rfl (ev_call en_107 rfl (len_c (un (wd p1)) (un_nonneg _) (by have := un_le (wd p1); omega) _)) ?_
  rintro _ w2 ⟨rfl, Gw2⟩
  have z2 := Gw2.size
  refine sd_vv rfl rfl rfl (vv_sub (k := .i64) (a := lg (un (wd p0))) (b := lg (un (wd p1))) rfl rfl) ?_
  refine sd_vv rfl rfl rfl (vv_assign rfl) ?_
  refine sd_done ?_
  refine sw_seq ?_
  -- region 2 puncture.go:14
  refine sw_region [(0, 0), (1, 0), (2, 0), (3, 0), (4, 0), (5, 0), (6, 0), (7, 0), (8, 0), (9, 0)] rfl rfl rfl ?_
  refine sd_vv rfl rfl rfl (vv_move rfl) ?_
  refine sd_vv rfl rfl rfl (vv_geq (a := w64 ((lg (un (wd p0))) - (lg (un (wd p1))))) (b := 0) rfl rfl) ?_
  refine sd_split rfl rfl rfl (vv_move rfl) (fun c1 => ?_) (fun c1 => ?_)
  ·
    replace hm := ite_t (of_decide_eq_true c1) hm
    refine sd_vv rfl rfl rfl (vv_move rfl) ?_
    refine sd_vv rfl rfl rfl (vv_move rfl) ?_
    have hb := bnd hm; clear hm; obtain ⟨n1, hn1, hm⟩ := hb
    refine sd_vv rfl rfl rfl (vv_shrI (a := p0) (b := (w64 ((lg (un (wd p0))) - (lg (un (wd p1)))))) rfl rfl hn1) ?_
    refine sd_vv rfl rfl rfl (vv_move rfl) ?_
    refine sd_vv rfl rfl rfl (vv_eql (a := shrI p0 n1) (b := p1) rfl rfl) ?_
    refine sd_vv rfl rfl rfl (vv_pickT rfl rfl) ?_
    refine sd_vv rfl rfl rfl (vv_assign rfl) ?_
    refine sd_done ?_
    refine sw_ret ?_
    have X3 : Gr w w2 := (Gr.trans (Gr.trans (Gr.refl w) Gw1) Gw2)
    have hr := Option.some.inj hm
    subst hr
    refine ⟨_, _, rfl, res_1 rfl (rv_tmp rfl), ?_⟩
    exact ⟨rfl, X3⟩
  ·
    replace hm := ite_f (of_decide_eq_false c1) hm
    refine sd_skip rfl rfl rfl ?_
    refine sd_skip rfl rfl rfl ?_
    refine sd_skip rfl rfl rfl ?_
    refine sd_skip rfl rfl rfl ?_
    refine sd_skip rfl rfl rfl ?_
    refine sd_vv rfl rfl rfl (vv_pickF rfl rfl) ?_
    refine sd_vv rfl rfl rfl (vv_assign rfl) ?_
    refine sd_done ?_
    refine sw_ret ?_
    have X4 : Gr w w2 := (Gr.trans (Gr.trans (Gr.refl w) Gw1) Gw2)
    have hr := Option.some.inj hm
    subst hr
    refine ⟨_, _, rfl, res_1 rfl (rv_tmp rfl), ?_⟩
    exact ⟨rfl, X4⟩

set_option maxHeartbeats 2000000 in
theorem poly_CheckPunctured_1_w (p0 : TLabel) (p1 : TLabel) (bp1 : Nat) (r : Bool) (hm : poly_CheckPunctured_1 p0 p1 = some r) (w : World) (hbp1 : Bx w bp1 88 (TLabel.cs p1))  :
    Calls Try.prog 94 [.agg (TLabel.cs p0).toArray, .pointer (some ⟨bp1, 0, none⟩)].toArray w fun e w' => ∃ v, e = .returned v ∧ (v = .bool r ∧ Gr w w') := by
  have lt1 := hbp1.lt
  unfold poly_CheckPunctured_1 at hm
  refine calls_of_sw (R := fun v w' => v = .bool r ∧ Gr w w') 9 Try.func94 rfl rfl rfl ?_
  refine sw_seq ?_
  -- region 0 puncture.go:34
  refine sw_region [(0, 0), (1, 0)] rfl rfl rfl ?_
  refine sd_ev rfl rfl rfl (ev_box (cs := TLabel.cs p0) rfl rfl) ?_
  rintro _ w1 ⟨b1, rfl, hbw1, Bw1, Gw1⟩
  have z2 := Gw1.size
  have lt3 := Bw1.lt
  refine sd_vv rfl rfl rfl (vv_assign rfl) ?_
  refine sd_done ?_
  refine sw_seq ?_
  -- region 1 puncture.go:34
  refine sw_region [(0, 0), (1, 0), (2, 0), (3, 0), (4, 0), (5, 0)] rfl rfl rfl ?_
  refine sd_vv rfl rfl rfl (vv_fieldAddr fa_88_0 rfl) ?_
  have B4 := (Bx.gr hbp1 Gw1)
  refine sd_vv rfl rfl rfl (vv_load1 (v := .int .i64 p1.Node) one_3 rfl B4 rfl) ?_
  refine sd_vv rfl rfl rfl (vv_fieldAddr fa_88_0 rfl) ?_
  refine sd_vv rfl rfl rfl (vv_load1 (v := .int .i64 p0.Node) one_3 rfl Bw1 rfl) ?_
  have hb := bnd hm; clear hm; obtain ⟨x1, hx1, hm⟩ := hb
  refine sd_ev rfl rfl rfl (ev_call en_95 rfl (poly_below_w p1.Node p0.Node _ hx1 _)) ?_
  rintro _ w2 ⟨rfl, Gw2⟩
  have z5 := Gw2.size
  refine sd_vv rfl rfl rfl (vv_assign rfl) ?_
  refine sd_done ?_
  refine sw_ret ?_
  have X6 : Gr w w2 := (Gr.trans (Gr.trans (Gr.refl w) Gw1) Gw2)
  have hr := Option.some.inj hm
  subst hr
  refine ⟨_, _, rfl, res_1 rfl (rv_tmp rfl), ?_⟩
  exact ⟨rfl, X6⟩

set_option maxHeartbeats 2000000 in
theorem slices_IndexFunc_15cd_poly_CheckPunctured_1_w (p0 : List TLabel) (p1_0 : TLabel) (vp0 : Value) (zp0 gp0 op0 : Nat) (bp1_0 : Nat) (r : Int) (hm : slices_IndexFunc_15cd_poly_CheckPunctured_1 p0 p1_0 = some r) (w : World) (hp0 : Rd w zp0 gp0 op0 18 vp0 (p0.map TLabel.cs)) (hbp1_0 : Bx w bp1_0 88 (TLabel.cs p1_0))  :
    Calls Try.prog 136 [vp0, .func (.func 94) [].toArray [.pointer (some ⟨bp1_0, 0, none⟩)].toArray].toArray w fun e w' => ∃ v, e = .returned v ∧ (v = .int .i64 r ∧ Gr w w') := by
  have lt1 := hp0.lth
  have lt2 := hbp1_0.lt
  unfold slices_IndexFunc_15cd_poly_CheckPunctured_1 at hm
  refine calls_of_sw (R := fun v w' => v = .int .i64 r ∧ Gr w w') 19 Try.func136 rfl rfl rfl ?_
  refine sw_seq ?_
  -- region 0 slices.go:107
  refine sw_region [(0, 0)] rfl rfl rfl ?_
  refine sd_vv rfl rfl rfl (vv_assign rfl) ?_
  refine sd_done ?_
  refine sw_seq ?_
  refine sw_seq ?_
  -- region 1 slices.go:108
  refine sw_region [(0, 0), (1, 0), (2, 0)] rfl rfl rfl ?_
  refine sd_vv rfl rfl rfl (vv_move rfl) ?_
  refine sd_vv rfl rfl rfl (vv_lenT (l := p0) (c := TLabel.cs) Try.underlying29 rfl hp0) ?_
  refine sd_vv rfl rfl rfl (vv_move rfl) ?_
  refine sd_done ?_
  refine sw_block ?_
  refine sw_loopD (α := Nat × Int) [4, 5, 8, 9, 10, 11, 12, 13, 14, 15, 16, 17, 18] (fun ⟨n1, a2⟩ => [(4, .int .i64 0), (8, .int .i64 a2)]) (fun ⟨n1, a2⟩ wr => (fixN (slices_IndexFunc_15cd_poly_CheckPunctured_1_L1 p0 p1_0) n1 a2 = some r) ∧ Kz [] w wr) (fun ⟨n1, a2⟩ => n1) ⟨FUEL, 0⟩ ?_ ?_ ?_
  · repeat' first | exact trivial | refine ⟨rfl, ?_⟩
  · exact ⟨hm, Kz.refl _ _⟩
  · clear hm; rintro ⟨n1, a2⟩ w1 ⟨hm, Kw1⟩
    have z3 := Kw1.size
    have hb := fix_succ hm; clear hm; obtain ⟨n1, rfl, hm⟩ := hb
    generalize hrec1 : fixN (slices_IndexFunc_15cd_poly_CheckPunctured_1_L1 p0 p1_0) n1 = rec1 at hm
    unfold slices_IndexFunc_15cd_poly_CheckPunctured_1_L1 at hm
    try dsimp only at hm
    refine sw_seq ?_
    -- region 2 slices.go:108
    refine sw_region [(0, 0)] rfl rfl rfl ?_
    refine sd_vv rfl rfl rfl (vv_lss (a := a2) (b := (p0.length : Int)) rfl rfl) ?_
    refine sd_done ?_
    refine sw_seq ?_
    refine sw_cond rfl (fun c1 => ?_) (fun c1 => ?_)
    ·
      replace hm := ite_t (of_decide_eq_true c1) hm
      refine sw_skip ?_
      refine then_n ?_
      refine sw_seq ?_
      refine sw_block ?_
      refine sw_seq ?_
      -- region 3 slices.go:108
      refine sw_region [(0, 0), (1, 0)] rfl rfl rfl ?_
      refine sd_vv rfl rfl rfl (vv_move rfl) ?_
      refine sd_vv rfl rfl rfl (vv_assign rfl) ?_
      refine sd_done ?_
      refine sw_seq ?_
      -- region 4 slices.go:109
      refine sw_region [(0, 0), (1, 0), (2, 0), (3, 0), (4, 0), (5, 0)] rfl rfl rfl ?_
      refine sd_vv rfl rfl rfl (vv_move rfl) ?_
      refine sd_vv rfl rfl rfl (vv_move rfl) ?_
      refine sd_vv rfl rfl rfl (vv_move rfl) ?_
      have hb := bnd hm; clear hm; obtain ⟨y3, hy3, hm⟩ := hb
      have B4 := (Rd.kz hp0 Kw1)
      refine sd_vv rfl rfl rfl (vv_ixT (i := a2) Try.underlying29 (agg_88).siz rfl B4 rfl hy3) ?_
      refine sd_vv rfl rfl rfl (vv_elWT agg_88 rfl B4 hy3 (by first | rfl | omega)) ?_
      have B5 := (Bx.kz hbp1_0 Kw1)
      have hb := bnd hm; clear hm; obtain ⟨x4, hx4, hm⟩ := hb
      refine sd_ev rfl rfl rfl (ev_callV en_94 rfl rfl (poly_CheckPunctured_1_w y3 p1_0 _ _ hx4 _ B5)) ?_
      rintro _ w2 ⟨rfl, Gw2⟩
      have z6 := Gw2.size
      refine sd_done ?_
      refine sw_cond rfl (fun c2 => ?_) (fun c2 => ?_)
      ·
        replace hm := cnd_t c2 hm
        refine sw_seq ?_
        -- region 5 slices.go:110
        refine sw_region [(0, 0), (1, 0)] rfl rfl rfl ?_
        refine sd_vv rfl rfl rfl (vv_move rfl) ?_
        refine sd_vv rfl rfl rfl (vv_assign rfl) ?_
        refine sd_done ?_
        refine sw_ret ?_
        refine block_r ?_
        refine then_r ?_
        refine then_r ?_
        refine block_r ?_
        refine then_r ?_
        have X7 : Gr w w2 := (Gr.trans (Gr.kz (Gr.refl w) Kw1) Gw2)
        have hr := Option.some.inj hm
        subst hr
        refine ⟨_, _, rfl, res_1 rfl (rv_tmp rfl), ?_⟩
        exact ⟨rfl, X7⟩
      ·
        replace hm := cnd_f c2 hm
        refine sw_skip ?_
        refine block_n ?_
        refine then_n ?_
        -- region 6 slices.go:108
        refine sw_region [(0, 0), (1, 0)] rfl rfl rfl ?_
        refine sd_vv rfl rfl rfl (vv_add (k := .i64) (a := a2) (b := 1) rfl rfl) ?_
        refine sd_vv rfl rfl rfl (vv_move rfl) ?_
        refine sd_nil ?_
        have K_8 : Kz [] w w2 := (Kz.gr Kw1 Gw2)
        subst hrec1
        refine ⟨rfl, ⟨n1, w64 (a2 + 1)⟩, ?_, ⟨hm, K_8⟩, Nat.lt_succ_self _⟩
        repeat' first | exact trivial | refine ⟨rfl, ?_⟩
    ·
      replace hm := ite_f (of_decide_eq_false c1) hm
      refine sw_exit ?_
      refine then_x ?_
      refine then_x ?_
      refine block_x ?_
      refine then_n ?_
      refine sw_seq ?_
      -- region 7 slices.go:113
      refine sw_region [(0, 0)] rfl rfl rfl ?_
      refine sd_vv rfl rfl rfl (vv_assign rfl) ?_
      refine sd_done ?_
      refine sw_ret ?_
      have X9 : Gr w w1 := (Gr.kz (Gr.refl w) Kw1)
      have hr := Option.some.inj hm
      subst hr
      refine ⟨_, _, rfl, res_1 rfl (rv_tmp rfl), ?_⟩
      exact ⟨rfl, X9⟩

set_option maxHeartbeats 2000000 in
theorem slices_ContainsFunc_5b5d_poly_CheckPunctured_1_w (p0 : List TLabel) (p1_0 : TLabel) (vp0 : Value) (zp0 gp0 op0 : Nat) (bp1_0 : Nat) (r : Bool) (hm : slices_ContainsFunc_5b5d_poly_CheckPunctured_1 p0 p1_0 = some r) (w : World) (hp0 : Rd w zp0 gp0 op0 18 vp0 (p0.map TLabel.cs)) (hbp1_0 : Bx w bp1_0 88 (TLabel.cs p1_0))  :
    Calls Try.prog 93 [vp0, .func (.func 94) [].toArray [.pointer (some ⟨bp1_0, 0, none⟩)].toArray].toArray w fun e w' => ∃ v, e = .returned v ∧ (v = .bool r ∧ Gr w w') := by
  have lt1 := hp0.lth
  have lt2 := hbp1_0.lt
  unfold slices_ContainsFunc_5b5d_poly_CheckPunctured_1 at hm
  refine calls_of_sw (R := fun v w' => v = .bool r ∧ Gr w w') 9 Try.func93 rfl rfl rfl ?_
  refine sw_seq ?_
  -- region 0 slices.go:124
  refine sw_region [(0, 0)] rfl rfl rfl ?_
  refine sd_vv rfl rfl rfl (vv_assign rfl) ?_
  refine sd_done ?_
  refine sw_seq ?_
  -- region 1 slices.go:125
  refine sw_region [(0, 0), (1, 0), (2, 0), (3, 0), (4, 0)] rfl rfl rfl ?_
  refine sd_vv rfl rfl rfl (vv_move rfl) ?_
  refine sd_vv rfl rfl rfl (vv_move rfl) ?_
  have hb := bnd hm; clear hm; obtain ⟨x1, hx1, hm⟩ := hb
  refine sd_ev rfl rfl rfl (ev_call en_136 rfl (slices_IndexFunc_15cd_poly_CheckPunctured_1_w p0 p1_0 _ _ _ _ _ _ hx1 _ hp0 hbp1_0)) ?_
  rintro _ w1 ⟨rfl, Gw1⟩
  have z3 := Gw1.size
  refine sd_vv rfl rfl rfl (vv_geq (a := x1) (b := 0) rfl rfl) ?_
  refine sd_vv rfl rfl rfl (vv_assign rfl) ?_
  refine sd_done ?_
  refine sw_ret ?_
  have X4 : Gr w w1 := (Gr.trans (Gr.refl w) Gw1)
  have hr := Option.some.inj hm
  subst hr
  refine ⟨_, _, rfl, res_1 rfl (rv_tmp rfl), ?_⟩
  exact ⟨rfl, X4⟩

set_option maxHeartbeats 2000000 in
theorem poly_CheckPunctured_w (p0 : TPunctured) (vp0_1 : Value) (zp0_1 gp0_1 op0_1 : Nat) (r : Int) (hm : poly_CheckPunctured p0 = some r) (w : World) (hp0_1 : Rd w zp0_1 gp0_1 op0_1 18 vp0_1 (p0.Labels.map TLabel.cs))  :
    Calls Try.prog 42 [.agg (TPunctured.cs p0 vp0_1).toArray].toArray w fun e w' => ∃ v, e = .returned v ∧ (v = .int .i64 r ∧ Gr w w') := by
  have lt1 := hp0_1.lth
  unfold poly_CheckPunctured at hm
  refine calls_of_sw (R := fun v w' => v = .int .i64 r ∧ Gr w w') 60 Try.func42 rfl rfl rfl ?_
  refine sw_seq ?_
  -- region 0 puncture.go:26
  refine sw_region [(0, 0), (1, 0)] rfl rfl rfl ?_
  refine sd_ev rfl rfl rfl (ev_box (cs := TPunctured.cs p0 vp0_1) rfl rfl) ?_
  rintro _ w1 ⟨b1, rfl, hbw1, Bw1, Gw1⟩
  have z2 := Gw1.size
  have lt3 := Bw1.lt
  refine sd_vv rfl rfl rfl (vv_assign rfl) ?_
  refine sd_done ?_
  refine sw_seq ?_
  have X4 : Gr w w1 := (Gr.trans (Gr.refl w) Gw1)
  refine sw_joinD (β := Bool) [5, 6, 7, 8, 9, 10, 11, 12] (fun a1 => [(12, .bool a1)]) (fun a1 wr => (poly_CheckPunctured_J1 p0 a1 = some r) ∧ Kz [] w1 wr) ?_ ?_
  · clear hm; rintro a1 w2 ⟨hm, Kw2⟩
    have z5 := Kw2.size
    unfold poly_CheckPunctured_J1 at hm
    refine sw_cond rfl (fun c1 => ?_) (fun c1 => ?_)
    ·
      replace hm := cnd_t c1 hm
      refine sw_seq ?_
      -- region 2 puncture.go:28
      refine sw_region [(0, 0)] rfl rfl rfl ?_
      refine sd_vv rfl rfl rfl (vv_assign rfl) ?_
      refine sd_done ?_
      refine sw_ret ?_
      refine then_r ?_
      have X6 : Gr w w2 := (Gr.kz X4 Kw2)
      have hr := Option.some.inj hm
      subst hr
      refine ⟨_, _, rfl, res_1 rfl (rv_tmp rfl), ?_⟩
      exact ⟨rfl, X6⟩
    ·
      replace hm := cnd_f c1 hm
      refine sw_skip ?_
      refine then_n ?_
      refine sw_seq ?_
      refine sw_seq ?_
      -- region 3 puncture.go:30
      refine sw_region [(0, 0), (1, 0), (2, 0), (3, 0)] rfl rfl rfl ?_
      refine sd_vv rfl rfl rfl (vv_fieldAddr fa_76_1 rfl) ?_
      have B7 := (Bx.kz Bw1 Kw2)
      refine sd_vv rfl rfl rfl (vv_load1 (v := vp0_1) one_29 rfl B7 rfl) ?_
      have B8 := (Rd.kz (Rd.gr hp0_1 Gw1) Kw2)
      refine sd_vv rfl rfl rfl (vv_lenT (l := p0.Labels) (c := TLabel.cs) Try.underlying29 rfl B8) ?_
      refine sd_vv rfl rfl rfl (vv_move rfl) ?_
      refine sd_done ?_
      refine sw_block ?_
      have X9 : Gr w w2 := (Gr.kz X4 Kw2)
      refine sw_loopD (α := Nat × Int) [2, 3, 4, 16, 17, 18, 19, 20, 21, 22, 23, 24, 25, 26, 27, 28, 29, 30, 31, 32, 33, 34, 35, 36, 37, 38, 39, 40, 41, 42, 43, 44, 45, 46, 47, 48, 49, 50, 51, 52, 53, 54, 55, 56, 57, 58, 59] (fun ⟨n2, a3⟩ => [(2, .int .i64 0), (16, .int .i64 a3)]) (fun ⟨n2, a3⟩ wr => (fixN (poly_CheckPunctured_L2 p0) n2 a3 = some r) ∧ Kz [] w2 wr) (fun ⟨n2, a3⟩ => n2) ⟨FUEL, 0⟩ ?_ ?_ ?_
      · repeat' first | exact trivial | refine ⟨rfl, ?_⟩
      · exact ⟨hm, Kz.refl _ _⟩
      · clear hm; rintro ⟨n2, a3⟩ w3 ⟨hm, Kw3⟩
        have z10 := Kw3.size
        have hb := fix_succ hm; clear hm; obtain ⟨n2, rfl, hm⟩ := hb
        generalize hrec2 : fixN (poly_CheckPunctured_L2 p0) n2 = rec2 at hm
        unfold poly_CheckPunctured_L2 at hm
        try dsimp only at hm
        refine sw_seq ?_
        -- region 4 puncture.go:30
        refine sw_region [(0, 0)] rfl rfl rfl ?_
        refine sd_vv rfl rfl rfl (vv_lss (a := a3) (b := (p0.Labels.length : Int)) rfl rfl) ?_
        refine sd_done ?_
        refine sw_seq ?_
        refine sw_cond rfl (fun c2 => ?_) (fun c2 => ?_)
        ·
          replace hm := ite_t (of_decide_eq_true c2) hm
          refine sw_skip ?_
          refine then_n ?_
          refine sw_seq ?_
          refine sw_block ?_
          refine sw_seq ?_
          -- region 5 puncture.go:30
          refine sw_region [(0, 0), (1, 0), (2, 0), (3, 0), (4, 0), (5, 0)] rfl rfl rfl ?_
          refine sd_vv rfl rfl rfl (vv_move rfl) ?_
          have hb := bnd hm; clear hm; obtain ⟨y4, hy4, hm⟩ := hb
          have B11 := (Rd.kz B8 Kw3)
          refine sd_vv rfl rfl rfl (vv_ixT (i := a3) Try.underlying29 (agg_88).siz rfl B11 rfl hy4) ?_
          refine sd_vv rfl rfl rfl (vv_elWT agg_88 rfl B11 hy4 (by first | rfl | omega)) ?_
          refine sd_ev rfl rfl rfl (ev_alloc (cs := TLabel.cs (TLabel.mk 0 0 k0)) zv_88 rfl) ?_
          rintro _ w4 ⟨b4, rfl, hbw4, Bw4, Gw4⟩
          have z12 := Gw4.size
          have lt13 := Bw4.lt
          refine sd_vv rfl rfl rfl (vv_assign rfl) ?_
          refine sd_ev rfl rfl rfl (ev_stM (cs' := TLabel.cs y4) (vs := TLabel.cs y4) (agg_88).siz rfl rfl rfl rfl rfl Bw4 rfl rfl) ?_
          rintro _ w5 ⟨Bw5, Mw5⟩
          have z14 := Mw5.size
          refine sd_done ?_
          refine sw_seq ?_
          have X15 : Gr w w5 := (Gr.md (Gr.trans (Gr.kz X9 Kw3) Gw4) Mw5)
          refine sw_joinD (β := Bool) [21, 22, 23, 24, 25, 26, 27, 28, 29, 30, 31, 32, 33, 34, 35, 36, 37, 38, 39, 40, 41, 42, 43, 44, 45, 46, 47, 48, 49, 50, 51, 52] (fun a5 => [(52, .bool a5)]) (fun a5 wr => (poly_CheckPunctured_J3 p0 a3 rec2 y4 a5 = some r) ∧ Kz [] w5 wr) ?_ ?_
          · clear hm; rintro a5 w6 ⟨hm, Kw6⟩
            have z16 := Kw6.size
            unfold poly_CheckPunctured_J3 at hm
            refine sw_cond rfl (fun c3 => ?_) (fun c3 => ?_)
            ·
              replace hm := cnd_t c3 hm
              refine sw_seq ?_
              -- region 7 puncture.go:32
              refine sw_region [(0, 0)] rfl rfl rfl ?_
              refine sd_vv rfl rfl rfl (vv_assign rfl) ?_
              refine sd_done ?_
              refine sw_ret ?_
              refine then_r ?_
              refine block_r ?_
              refine then_r ?_
              refine then_r ?_
              refine block_r ?_
              refine then_r ?_
              have X17 : Gr w w6 := (Gr.kz X15 Kw6)
              have hr := Option.some.inj hm
              subst hr
              refine ⟨_, _, rfl, res_1 rfl (rv_tmp rfl), ?_⟩
              exact ⟨rfl, X17⟩
            ·
              replace hm := cnd_f c3 hm
              refine sw_skip ?_
              refine then_n ?_
              refine sw_seq ?_
              -- region 8 puncture.go:34
              refine sw_region [(0, 0), (1, 0), (2, 0), (3, 0), (4, 0), (5, 0)] rfl rfl rfl ?_
              refine sd_vv rfl rfl rfl (vv_fieldAddr fa_76_1 rfl) ?_
              have B18 := (Bx.kz (Bx.md (Bx.gr (Bx.kz B7 Kw3) Gw4) Mw5) Kw6)
              refine sd_vv rfl rfl rfl (vv_load1 (v := vp0_1) one_29 rfl B18 rfl) ?_
              refine sd_vv rfl rfl rfl (vv_move rfl) ?_
              have hb := bnd hm; clear hm; obtain ⟨l6, hl6, hm⟩ := hb
              have B19 := (Rd.kz (Rd.md (Rd.gr B11 Gw4) Mw5 (tk1 ((pv_lt (A := (fun x => x ≠ b4)) lt1) : zp0_1 = 0 ∨ gp0_1 ≠ b4))) Kw6)
              refine sd_sli rfl rfl rfl (vv_sliT (P := Try.prog) (lo := 0) (hi := a3) (l := p0.Labels) (c := TLabel.cs) Try.underlying29 (agg_88).siz rfl B19 rfl ⟨_, rfl⟩ hl6) ?_
              rintro v20 o20 R20
              have lt21 := R20.lth
              refine sd_vv rfl rfl rfl (vv_makeFunc rfl rfl) ?_
              have B22 := (Bx.kz Bw5 Kw6)
              have hb := bnd hm; clear hm; obtain ⟨x7, hx7, hm⟩ := hb
              refine sd_ev rfl rfl rfl (ev_call en_93 rfl (slices_ContainsFunc_5b5d_poly_CheckPunctured_1_w l6 y4 _ _ _ _ _ _ hx7 _ R20 B22)) ?_
              rintro _ w7 ⟨rfl, Gw7⟩
              have z23 := Gw7.size
              refine sd_done ?_
              refine sw_cond rfl (fun c4 => ?_) (fun c4 => ?_)
              ·
                replace hm := cnd_t c4 hm
                refine sw_seq ?_
                -- region 9 puncture.go:35
                refine sw_region [(0, 0)] rfl rfl rfl ?_
                refine sd_vv rfl rfl rfl (vv_assign rfl) ?_
                refine sd_done ?_
                refine sw_ret ?_
                refine block_r ?_
                refine then_r ?_
                refine then_r ?_
                refine block_r ?_
                refine then_r ?_
                have X24 : Gr w w7 := (Gr.trans (Gr.kz X15 Kw6) Gw7)
                have hr := Option.some.inj hm
                subst hr
                refine ⟨_, _, rfl, res_1 rfl (rv_tmp rfl), ?_⟩
                exact ⟨rfl, X24⟩
              ·
                replace hm := cnd_f c4 hm
                refine sw_skip ?_
                refine block_n ?_
                refine then_n ?_
                -- region 10 puncture.go:30
                refine sw_region [(0, 0), (1, 0)] rfl rfl rfl ?_
                refine sd_vv rfl rfl rfl (vv_add (k := .i64) (a := a3) (b := 1) rfl rfl) ?_
                refine sd_vv rfl rfl rfl (vv_move rfl) ?_
                refine sd_nil ?_
                have K_25 : Kz [] w2 w7 := (Kz.gr (Kz.kz (Kz.md (Kz.gr Kw3 Gw4) Mw5) Kw6) Gw7)
                subst hrec2
                refine ⟨rfl, ⟨n2, w64 (a3 + 1)⟩, ?_, ⟨hm, K_25⟩, Nat.lt_succ_self _⟩
                repeat' first | exact trivial | refine ⟨rfl, ?_⟩
          ·
            -- region 6 puncture.go:31 DRAWS
            refine sw_drawN [([])] [] (.leaf [(0, 10), (1, 10), (2, 10), (3, 10), (4, 10), (5, 10), (6, 10), (7, 10), (8, 10), (9, 10), (10, 10), (11, 10), (12, 10), (13, 10), (14, 10), (15, 10), (16, 10), (17, 10), (18, 10), (19, 10), (20, 10), (21, 10), (22, 10), (23, 10), (24, 10), (25, 10), (26, 10), (27, 10), (28, 10), (29, 10), (30, 10), (31, 10)]) (by kernel_rfl) (by kernel_rfl) rfl (by kernel_rfl) ?_
            intro w8 Gw8 zw8
            refine sdz_leaf ?_
            refine dd_hn 0 rfl rfl rfl rfl (Kp.refl ([]) w8) (fun w hS => vv_fieldAddr fa_88_1 rfl) ?_
            have B26 := (Bx.gr Bw5 Gw8)
            refine dd_hn 0 rfl rfl rfl rfl (Kp.refl ([]) w8) (fun w hS => vv_load1 (v := .int .i64 y4.Minus) one_3 rfl (Bx.kp B26 hS) rfl) ?_
            refine dd_hn 0 rfl rfl rfl rfl (Kp.refl ([]) w8) (fun w hS => vv_neq (a := y4.Minus) (b := 0) rfl rfl) ?_
            refine dd_pn 0 rfl rfl rfl rfl (Kp.refl ([]) w8) (fun w hS => vv_move rfl) (fun c5 => ?_) (fun c5 => ?_)
            ·
              replace hm := ite_t (of_decide_eq_true c5) hm
              refine dd_sn 0 rfl rfl rfl rfl (Kp.refl ([]) w8) ?_
              refine dd_sn 0 rfl rfl rfl rfl (Kp.refl ([]) w8) ?_
              refine dd_sn 0 rfl rfl rfl rfl (Kp.refl ([]) w8) ?_
              refine dd_hn 0 rfl rfl rfl rfl (Kp.refl ([]) w8) (fun w hS => vv_pickT rfl rfl) ?_
              refine dd_hn 0 rfl rfl rfl rfl (Kp.refl ([]) w8) (fun w hS => vv_move rfl) ?_
              refine dd_sn 0 rfl rfl rfl rfl (Kp.refl ([]) w8) ?_
              refine dd_sn 0 rfl rfl rfl rfl (Kp.refl ([]) w8) ?_
              refine dd_sn 0 rfl rfl rfl rfl (Kp.refl ([]) w8) ?_
              refine dd_sn 0 rfl rfl rfl rfl (Kp.refl ([]) w8) ?_
              refine dd_sn 0 rfl rfl rfl rfl (Kp.refl ([]) w8) ?_
              refine dd_sn 0 rfl rfl rfl rfl (Kp.refl ([]) w8) ?_
              refine dd_hn 0 rfl rfl rfl rfl (Kp.refl ([]) w8) (fun w hS => vv_pickT rfl rfl) ?_
              refine dd_hn 0 rfl rfl rfl rfl (Kp.refl ([]) w8) (fun w hS => vv_move rfl) ?_
              refine dd_sn 0 rfl rfl rfl rfl (Kp.refl ([]) w8) ?_
              refine dd_sn 0 rfl rfl rfl rfl (Kp.refl ([]) w8) ?_
              refine dd_sn 0 rfl rfl rfl rfl (Kp.refl ([]) w8) ?_
              refine dd_sn 0 rfl rfl rfl rfl (Kp.refl ([]) w8) ?_
              refine dd_sn 0 rfl rfl rfl rfl (Kp.refl ([]) w8) ?_
              refine dd_sn 0 rfl rfl rfl rfl (Kp.refl ([]) w8) ?_
              refine dd_sn 0 rfl rfl rfl rfl (Kp.refl ([]) w8) ?_
              refine dd_sn 0 rfl rfl rfl rfl (Kp.refl ([]) w8) ?_
              refine dd_sn 0 rfl rfl rfl rfl (Kp.refl ([]) w8) ?_
              refine dd_sn 0 rfl rfl rfl rfl (Kp.refl ([]) w8) ?_
              refine dd_sn 0 rfl rfl rfl rfl (Kp.refl ([]) w8) ?_
              refine dd_sn 0 rfl rfl rfl rfl (Kp.refl ([]) w8) ?_
              refine dd_sn 0 rfl rfl rfl rfl (Kp.refl ([]) w8) ?_
              refine dd_sn 0 rfl rfl rfl rfl (Kp.refl ([]) w8) ?_
              refine dd_hn 0 rfl rfl rfl rfl (Kp.refl ([]) w8) (fun w hS => vv_pickT rfl rfl) ?_
              refine sd_nil ?_
              have K_27 : Kz [] w5 w8 := (Kz.gr (Kz.refl _ _) Gw8)
              refine ⟨rfl, true, ?_, hm, K_27⟩
              repeat' first | exact trivial | refine ⟨rfl, ?_⟩
            ·
              replace hm := ite_f (of_decide_eq_false c5) hm
              refine dd_hn 0 rfl rfl rfl rfl (Kp.refl ([]) w8) (fun w hS => vv_fieldAddr fa_88_0 rfl) ?_
              refine dd_hn 0 rfl rfl rfl rfl (Kp.refl ([]) w8) (fun w hS => vv_load1 (v := .int .i64 y4.Node) one_3 rfl (Bx.kp B26 hS) rfl) ?_
              refine dd_hn 0 rfl rfl rfl rfl (Kp.refl ([]) w8) (fun w hS => vv_lss (a := y4.Node) (b := 1) rfl rfl) ?_
              refine dd_hn 0 rfl rfl rfl rfl (Kp.refl ([]) w8) (fun w hS => vv_pickF rfl rfl) ?_
              refine dd_pn 0 rfl rfl rfl rfl (Kp.refl ([]) w8) (fun w hS => vv_move rfl) (fun c6 => ?_) (fun c6 => ?_)
              ·
                replace hm := ite_t (of_decide_eq_true c6) hm
                refine dd_sn 0 rfl rfl rfl rfl (Kp.refl ([]) w8) ?_
                refine dd_sn 0 rfl rfl rfl rfl (Kp.refl ([]) w8) ?_
                refine dd_sn 0 rfl rfl rfl rfl (Kp.refl ([]) w8) ?_
                refine dd_sn 0 rfl rfl rfl rfl (Kp.refl ([]) w8) ?_
                refine dd_sn 0 rfl rfl rfl rfl (Kp.refl ([]) w8) ?_
                refine dd_sn 0 rfl rfl rfl rfl (Kp.refl ([]) w8) ?_
                refine dd_hn 0 rfl rfl rfl rfl (Kp.refl ([]) w8) (fun w hS => vv_pickT rfl rfl) ?_
                refine dd_hn 0 rfl rfl rfl rfl (Kp.refl ([]) w8) (fun w hS => vv_move rfl) ?_
                refine dd_sn 0 rfl rfl rfl rfl (Kp.refl ([]) w8) ?_
                refine dd_sn 0 rfl rfl rfl rfl (Kp.refl ([]) w8) ?_
                refine dd_sn 0 rfl rfl rfl rfl (Kp.refl ([]) w8) ?_
                refine dd_sn 0 rfl rfl rfl rfl (Kp.refl ([]) w8) ?_
                refine dd_sn 0 rfl rfl rfl rfl (Kp.refl ([]) w8) ?_
                refine dd_sn 0 rfl rfl rfl rfl (Kp.refl ([]) w8) ?_
                refine dd_sn 0 rfl rfl rfl rfl (Kp.refl ([]) w8) ?_
                refine dd_sn 0 rfl rfl rfl rfl (Kp.refl ([]) w8) ?_
                refine dd_sn 0 rfl rfl rfl rfl (Kp.refl ([]) w8) ?_
                refine dd_sn 0 rfl rfl rfl rfl (Kp.refl ([]) w8) ?_
                refine dd_sn 0 rfl rfl rfl rfl (Kp.refl ([]) w8) ?_
                refine dd_sn 0 rfl rfl rfl rfl (Kp.refl ([]) w8) ?_
                refine dd_sn 0 rfl rfl rfl rfl (Kp.refl ([]) w8) ?_
                refine dd_sn 0 rfl rfl rfl rfl (Kp.refl ([]) w8) ?_
                refine dd_hn 0 rfl rfl rfl rfl (Kp.refl ([]) w8) (fun w hS => vv_pickT rfl rfl) ?_
                refine sd_nil ?_
                have K_28 : Kz [] w5 w8 := (Kz.gr (Kz.refl _ _) Gw8)
                refine ⟨rfl, true, ?_, hm, K_28⟩
                repeat' first | exact trivial | refine ⟨rfl, ?_⟩
              ·
                replace hm := ite_f (of_decide_eq_false c6) hm
                refine dd_hn 0 rfl rfl rfl rfl (Kp.refl ([]) w8) (fun w hS => vv_fieldAddr fa_88_0 rfl) ?_
                refine dd_hn 0 rfl rfl rfl rfl (Kp.refl ([]) w8) (fun w hS => vv_load1 (v := .int .i64 y4.Node) one_3 rfl (Bx.kp B26 hS) rfl) ?_
                refine dd_hn 0 rfl rfl rfl rfl (Kp.refl ([]) w8) (fun w hS => vv_fieldAddr fa_76_0 rfl) ?_
                have B29 := (Bx.gr (Bx.md (Bx.gr (Bx.kz B7 Kw3) Gw4) Mw5) Gw8)
                refine dd_hn 0 rfl rfl rfl rfl (Kp.refl ([]) w8) (fun w hS => vv_load1 (v := .int .i64 p0.Depth) one_3 rfl (Bx.kp B29 hS) rfl) ?_
                have hb := bnd hm; clear hm; obtain ⟨n8, hn8, hm⟩ := hb
                refine dd_hn 0 rfl rfl rfl rfl (Kp.refl ([]) w8) (fun w hS => vv_shlI (a := 2) (b := p0.Depth) rfl rfl hn8) ?_
                refine dd_hn 0 rfl rfl rfl rfl (Kp.refl ([]) w8) (fun w hS => vv_geq (a := y4.Node) (b := shlI 2 n8) rfl rfl) ?_
                refine dd_hn 0 rfl rfl rfl rfl (Kp.refl ([]) w8) (fun w hS => vv_pickF rfl rfl) ?_
                refine dd_pn 0 rfl rfl rfl rfl (Kp.refl ([]) w8) (fun w hS => vv_move rfl) (fun c7 => ?_) (fun c7 => ?_)
                ·
                  replace hm := ite_t (of_decide_eq_true c7) hm
                  refine dd_sn 0 rfl rfl rfl rfl (Kp.refl ([]) w8) ?_
                  refine dd_sn 0 rfl rfl rfl rfl (Kp.refl ([]) w8) ?_
                  refine dd_sn 0 rfl rfl rfl rfl (Kp.refl ([]) w8) ?_
                  refine dd_sn 0 rfl rfl rfl rfl (Kp.refl ([]) w8) ?_
                  refine dd_sn 0 rfl rfl rfl rfl (Kp.refl ([]) w8) ?_
                  refine dd_sn 0 rfl rfl rfl rfl (Kp.refl ([]) w8) ?_
                  refine dd_sn 0 rfl rfl rfl rfl (Kp.refl ([]) w8) ?_
                  refine dd_sn 0 rfl rfl rfl rfl (Kp.refl ([]) w8) ?_
                  refine dd_sn 0 rfl rfl rfl rfl (Kp.refl ([]) w8) ?_
                  refine dd_sn 0 rfl rfl rfl rfl (Kp.refl ([]) w8) ?_
                  refine dd_sn 0 rfl rfl rfl rfl (Kp.refl ([]) w8) ?_
                  refine dd_sn 0 rfl rfl rfl rfl (Kp.refl ([]) w8) ?_
                  refine dd_sn 0 rfl rfl rfl rfl (Kp.refl ([]) w8) ?_
                  refine dd_sn 0 rfl rfl rfl rfl (Kp.refl ([]) w8) ?_
                  refine dd_hn 0 rfl rfl rfl rfl (Kp.refl ([]) w8) (fun w hS => vv_pickT rfl rfl) ?_
                  refine sd_nil ?_
                  have K_30 : Kz [] w5 w8 := (Kz.gr (Kz.refl _ _) Gw8)
                  refine ⟨rfl, true, ?_, hm, K_30⟩
                  repeat' first | exact trivial | refine ⟨rfl, ?_⟩
                ·
                  replace hm := ite_f (of_decide_eq_false c7) hm
                  refine dd_hn 0 rfl rfl rfl rfl (Kp.refl ([]) w8) (fun w hS => vv_move rfl) ?_
                  refine dd_hn 0 rfl rfl rfl rfl (Kp.refl ([]) w8) (fun w hS => vv_gtr (a := a3) (b := 0) rfl rfl) ?_
                  refine dd_pn 0 rfl rfl rfl rfl (Kp.refl ([]) w8) (fun w hS => vv_move rfl) (fun c8 => ?_) (fun c8 => ?_)
                  ·
                    replace hm := ite_t (of_decide_eq_true c8) hm
                    refine dd_hn 0 rfl rfl rfl rfl (Kp.refl ([]) w8) (fun w hS => vv_fieldAddr fa_88_0 rfl) ?_
                    refine dd_hn 0 rfl rfl rfl rfl (Kp.refl ([]) w8) (fun w hS => vv_load1 (v := .int .i64 y4.Node) one_3 rfl (Bx.kp B26 hS) rfl) ?_
                    refine dd_hn 0 rfl rfl rfl rfl (Kp.refl ([]) w8) (fun w hS => vv_fieldAddr fa_76_1 rfl) ?_
                    refine dd_hn 0 rfl rfl rfl rfl (Kp.refl ([]) w8) (fun w hS => vv_load1 (v := vp0_1) one_29 rfl (Bx.kp B29 hS) rfl) ?_
                    refine dd_hn 0 rfl rfl rfl rfl (Kp.refl ([]) w8) (fun w hS => vv_move rfl) ?_
                    refine dd_hn 0 rfl rfl rfl rfl (Kp.refl ([]) w8) (fun w hS => vv_sub (k := .i64) (a := a3) (b := 1) rfl rfl) ?_
                    have hb := bnd hm; clear hm; obtain ⟨y9, hy9, hm⟩ := hb
                    have B31 := (Rd.gr (Rd.md (Rd.gr B11 Gw4) Mw5 (tk1 ((pv_lt (A := (fun x => x ≠ b4)) lt1) : zp0_1 = 0 ∨ gp0_1 ≠ b4))) Gw8)
                    refine dd_hn 0 rfl rfl rfl rfl (Kp.refl ([]) w8) (fun w hS => vv_ixT (i := w64 (a3 - 1)) Try.underlying29 (agg_88).siz rfl (Rd.kp B31 hS) rfl hy9) ?_
                    refine dd_hn 0 rfl rfl rfl rfl (Kp.refl ([]) w8) (fun w hS => vv_fieldAddr fa_88_0 rfl) ?_
                    refine dd_hn 0 rfl rfl rfl rfl (Kp.refl ([]) w8) (fun w hS => vv_el1T (q := 0) (u := .int .i64 y9.Node) one_3 rfl (Rd.kp B31 hS) hy9 (by first | rfl | omega) rfl) ?_
                    refine dd_hn 0 rfl rfl rfl rfl (Kp.refl ([]) w8) (fun w hS => vv_leq (a := y4.Node) (b := y9.Node) rfl rfl) ?_
                    refine dd_hn 0 rfl rfl rfl rfl (Kp.refl ([]) w8) (fun w hS => vv_pickT rfl rfl) ?_
                    refine dd_hn 0 rfl rfl rfl rfl (Kp.refl ([]) w8) (fun w hS => vv_pickF rfl rfl) ?_
                    refine sd_nil ?_
                    have K_32 : Kz [] w5 w8 := (Kz.gr (Kz.refl _ _) Gw8)
                    refine ⟨rfl, (decide (y4.Node ≤ y9.Node)), ?_, hm, K_32⟩
                    repeat' first | exact trivial | refine ⟨rfl, ?_⟩
                  ·
                    replace hm := ite_f (of_decide_eq_false c8) hm
                    refine dd_sn 0 rfl rfl rfl rfl (Kp.refl ([]) w8) ?_
                    refine dd_sn 0 rfl rfl rfl rfl (Kp.refl ([]) w8) ?_
                    refine dd_sn 0 rfl rfl rfl rfl (Kp.refl ([]) w8) ?_
                    refine dd_sn 0 rfl rfl rfl rfl (Kp.refl ([]) w8) ?_
                    refine dd_sn 0 rfl rfl rfl rfl (Kp.refl ([]) w8) ?_
                    refine dd_sn 0 rfl rfl rfl rfl (Kp.refl ([]) w8) ?_
                    refine dd_sn 0 rfl rfl rfl rfl (Kp.refl ([]) w8) ?_
                    refine dd_sn 0 rfl rfl rfl rfl (Kp.refl ([]) w8) ?_
                    refine dd_sn 0 rfl rfl rfl rfl (Kp.refl ([]) w8) ?_
                    refine dd_sn 0 rfl rfl rfl rfl (Kp.refl ([]) w8) ?_
                    refine dd_hn 0 rfl rfl rfl rfl (Kp.refl ([]) w8) (fun w hS => vv_pickF rfl rfl) ?_
                    refine dd_hn 0 rfl rfl rfl rfl (Kp.refl ([]) w8) (fun w hS => vv_pickF rfl rfl) ?_
                    refine sd_nil ?_
                    have K_33 : Kz [] w5 w8 := (Kz.gr (Kz.refl _ _) Gw8)
                    refine ⟨rfl, false, ?_, hm, K_33⟩
                    repeat' first | exact trivial | refine ⟨rfl, ?_⟩
        ·
          replace hm := ite_f (of_decide_eq_false c2) hm
          refine sw_exit ?_
          refine then_x ?_
          refine then_x ?_
          refine block_x ?_
          refine then_n ?_
          refine sw_seq ?_
          -- region 11 puncture.go:38
          refine sw_region [(0, 0)] rfl rfl rfl ?_
          refine sd_vv rfl rfl rfl (vv_assign rfl) ?_
          refine sd_done ?_
          refine sw_ret ?_
          have X34 : Gr w w3 := (Gr.kz X9 Kw3)
          have hr := Option.some.inj hm
          subst hr
          refine ⟨_, _, rfl, res_1 rfl (rv_tmp rfl), ?_⟩
          exact ⟨rfl, X34⟩
  ·
    -- region 1 puncture.go:27
    refine sw_region [(0, 0), (1, 0), (2, 0), (3, 0), (4, 0), (5, 0), (6, 0), (7, 0)] rfl rfl rfl ?_
    refine sd_vv rfl rfl rfl (vv_fieldAddr fa_76_0 rfl) ?_
    refine sd_vv rfl rfl rfl (vv_load1 (v := .int .i64 p0.Depth) one_3 rfl Bw1 rfl) ?_
    refine sd_vv rfl rfl rfl (vv_lss (a := p0.Depth) (b := 0) rfl rfl) ?_
    refine sd_split rfl rfl rfl (vv_move rfl) (fun c9 => ?_) (fun c9 => ?_)
    ·
      replace hm := ite_t (of_decide_eq_true c9) hm
      refine sd_skip rfl rfl rfl ?_
      refine sd_skip rfl rfl rfl ?_
      refine sd_skip rfl rfl rfl ?_
      refine sd_vv rfl rfl rfl (vv_pickT rfl rfl) ?_
      refine sd_nil ?_
      have K_35 : Kz [] w1 w1 := (Kz.refl _ _)
      refine ⟨rfl, true, ?_, hm, K_35⟩
      repeat' first | exact trivial | refine ⟨rfl, ?_⟩
    ·
      replace hm := ite_f (of_decide_eq_false c9) hm
      refine sd_vv rfl rfl rfl (vv_fieldAddr fa_76_0 rfl) ?_
      refine sd_vv rfl rfl rfl (vv_load1 (v := .int .i64 p0.Depth) one_3 rfl Bw1 rfl) ?_
      refine sd_vv rfl rfl rfl (vv_gtr (a := p0.Depth) (b := 6) rfl rfl) ?_
      refine sd_vv rfl rfl rfl (vv_pickF rfl rfl) ?_
      refine sd_nil ?_
      have K_36 : Kz [] w1 w1 := (Kz.refl _ _)
      refine ⟨rfl, (decide ((6 : Int) < p0.Depth)), ?_, hm, K_36⟩
      repeat' first | exact trivial | refine ⟨rfl, ?_⟩

set_option maxHeartbeats 2000000 in
theorem poly_find_1_w (p0 : TLabel) (p1 : Int) (bp1 : Nat) (r : Bool) (hm : poly_find_1 p0 p1 = some r) (w : World) (hbp1 : Bx w bp1 3 ([.int .i64 p1]))  :
    Calls Try.prog 137 [.agg (TLabel.cs p0).toArray, .pointer (some ⟨bp1, 0, none⟩)].toArray w fun e w' => ∃ v, e = .returned v ∧ (v = .bool r ∧ Gr w w') := by
  have lt1 := hbp1.lt
  unfold poly_find_1 at hm
  refine calls_of_sw (R := fun v w' => v = .bool r ∧ Gr w w') 8 Try.func137 rfl rfl rfl ?_
  refine sw_seq ?_
  -- region 0 puncture.go:50
  refine sw_region [(0, 0), (1, 0)] rfl rfl rfl ?_
  refine sd_ev rfl rfl rfl (ev_box (cs := TLabel.cs p0) rfl rfl) ?_
  rintro _ w1 ⟨b1, rfl, hbw1, Bw1, Gw1⟩
  have z2 := Gw1.size
  have lt3 := Bw1.lt
  refine sd_vv rfl rfl rfl (vv_assign rfl) ?_
  refine sd_done ?_
  refine sw_seq ?_
  -- region 1 puncture.go:50
  refine sw_region [(0, 0), (1, 0), (2, 0), (3, 0), (4, 0)] rfl rfl rfl ?_
  have B4 := (Bx.gr hbp1 Gw1)
  refine sd_vv rfl rfl rfl (vv_load1 (v := .int .i64 p1) one_3 rfl B4 rfl) ?_
  refine sd_vv rfl rfl rfl (vv_fieldAddr fa_88_0 rfl) ?_
  refine sd_vv rfl rfl rfl (vv_load1 (v := .int .i64 p0.Node) one_3 rfl Bw1 rfl) ?_
  have hb := bnd hm; clear hm; obtain ⟨x1, hx1, hm⟩ := hb
  refine sd_ev rfl rfl rfl (ev_call en_95 rfl (poly_below_w p1 p0.Node _ hx1 _)) ?_
  rintro _ w2 ⟨rfl, Gw2⟩
  have z5 := Gw2.size
  refine sd_vv rfl rfl rfl (vv_assign rfl) ?_
  refine sd_done ?_
  refine sw_ret ?_
  have X6 : Gr w w2 := (Gr.trans (Gr.trans (Gr.refl w) Gw1) Gw2)
  have hr := Option.some.inj hm
  subst hr
  refine ⟨_, _, rfl, res_1 rfl (rv_tmp rfl), ?_⟩
  exact ⟨rfl, X6⟩

set_option maxHeartbeats 2000000 in
theorem slices_IndexFunc_15cd_poly_find_1_w (p0 : List TLabel) (p1_0 : Int) (vp0 : Value) (zp0 gp0 op0 : Nat) (bp1_0 : Nat) (r : Int) (hm : slices_IndexFunc_15cd_poly_find_1 p0 p1_0 = some r) (w : World) (hp0 : Rd w zp0 gp0 op0 18 vp0 (p0.map TLabel.cs)) (hbp1_0 : Bx w bp1_0 3 ([.int .i64 p1_0]))  :
    Calls Try.prog 136 [vp0, .func (.func 137) [].toArray [.pointer (some ⟨bp1_0, 0, none⟩)].toArray].toArray w fun e w' => ∃ v, e = .returned v ∧ (v = .int .i64 r ∧ Gr w w') := by
  have lt1 := hp0.lth
  have lt2 := hbp1_0.lt
  unfold slices_IndexFunc_15cd_poly_find_1 at hm
  refine calls_of_sw (R := fun v w' => v = .int .i64 r ∧ Gr w w') 19 Try.func136 rfl rfl rfl ?_
  refine sw_seq ?_
  -- region 0 slices.go:107
  refine sw_region [(0, 0)] rfl rfl rfl ?_
  refine sd_vv rfl rfl rfl (vv_assign rfl) ?_
  refine sd_done ?_
  refine sw_seq ?_
  refine sw_seq ?_
  -- region 1 slices.go:108
  refine sw_region [(0, 0), (1, 0), (2, 0)] rfl rfl rfl ?_
  refine sd_vv rfl rfl rfl (vv_move rfl) ?_
  refine sd_vv rfl rfl rfl (vv_lenT (l := p0) (c := TLabel.cs) Try.underlying29 rfl hp0) ?_
  refine sd_vv rfl rfl rfl (vv_move rfl) ?_
  refine sd_done ?_
  refine sw_block ?_
  refine sw_loopD (α := Nat × Int) [4, 5, 8, 9, 10, 11, 12, 13, 14, 15, 16, 17, 18] (fun ⟨n1, a2⟩ => [(4, .int .i64 0), (8, .int .i64 a2)]) (fun ⟨n1, a2⟩ wr => (fixN (slices_IndexFunc_15cd_poly_find_1_L1 p0 p1_0) n1 a2 = some r) ∧ Kz [] w wr) (fun ⟨n1, a2⟩ => n1) ⟨FUEL, 0⟩ ?_ ?_ ?_
  · repeat' first | exact trivial | refine ⟨rfl, ?_⟩
  · exact ⟨hm, Kz.refl _ _⟩
  · clear hm; rintro ⟨n1, a2⟩ w1 ⟨hm, Kw1⟩
    have z3 := Kw1.size
    have hb := fix_succ hm; clear hm; obtain ⟨n1, rfl, hm⟩ := hb
    generalize hrec1 : fixN (slices_IndexFunc_15cd_poly_find_1_L1 p0 p1_0) n1 = rec1 at hm
    unfold slices_IndexFunc_15cd_poly_find_1_L1 at hm
    try dsimp only at hm
    refine sw_seq ?_
    -- region 2 slices.go:108
    refine sw_region [(0, 0)] rfl rfl rfl ?_
    refine sd_vv rfl rfl rfl (vv_lss (a := a2) (b := (p0.length : Int)) rfl rfl) ?_
    refine sd_done ?_
    refine sw_seq ?_
    refine sw_cond rfl (fun c1 => ?_) (fun c1 => ?_)
    ·
      replace hm := ite_t (of_decide_eq_true c1) hm
      refine sw_skip ?_
      refine then_n ?_
      refine sw_seq ?_
      refine sw_block ?_
      refine sw_seq ?_
      -- region 3 slices.go:108
      refine sw_region [(0, 0), (1, 0)] rfl rfl rfl ?_
      refine sd_vv rfl rfl rfl (vv_move rfl) ?_
      refine sd_vv rfl rfl rfl (vv_assign rfl) ?_
      refine sd_done ?_
      refine sw_seq ?_
      -- region 4 slices.go:109
      refine sw_region [(0, 0), (1, 0), (2, 0), (3, 0), (4, 0), (5, 0)] rfl rfl rfl ?_
      refine sd_vv rfl rfl rfl (vv_move rfl) ?_
      refine sd_vv rfl rfl rfl (vv_move rfl) ?_
      refine sd_vv rfl rfl rfl (vv_move rfl) ?_
      have hb := bnd hm; clear hm; obtain ⟨y3, hy3, hm⟩ := hb
      have B4 := (Rd.kz hp0 Kw1)
      refine sd_vv rfl rfl rfl (vv_ixT (i := a2) Try.underlying29 (agg_88).siz rfl B4 rfl hy3) ?_
      refine sd_vv rfl rfl rfl (vv_elWT agg_88 rfl B4 hy3 (by first | rfl | omega)) ?_
      have B5 := (Bx.kz hbp1_0 Kw1)
      have hb := bnd hm; clear hm; obtain ⟨x4, hx4, hm⟩ := hb
      refine sd_ev rfl rfl rfl (ev_callV en_137 rfl rfl (poly_find_1_w y3 p1_0 _ _ hx4 _ B5)) ?_
      rintro _ w2 ⟨rfl, Gw2⟩
      have z6 := Gw2.size
      refine sd_done ?_
      refine sw_cond rfl (fun c2 => ?_) (fun c2 => ?_)
      ·
        replace hm := cnd_t c2 hm
        refine sw_seq ?_
        -- region 5 slices.go:110
        refine sw_region [(0, 0), (1, 0)] rfl rfl rfl ?_
        refine sd_vv rfl rfl rfl (vv_move rfl) ?_
        refine sd_vv rfl rfl rfl (vv_assign rfl) ?_
        refine sd_done ?_
        refine sw_ret ?_
        refine block_r ?_
        refine then_r ?_
        refine then_r ?_
        refine block_r ?_
        refine then_r ?_
        have X7 : Gr w w2 := (Gr.trans (Gr.kz (Gr.refl w) Kw1) Gw2)
        have hr := Option.some.inj hm
        subst hr
        refine ⟨_, _, rfl, res_1 rfl (rv_tmp rfl), ?_⟩
        exact ⟨rfl, X7⟩
      ·
        replace hm := cnd_f c2 hm
        refine sw_skip ?_
        refine block_n ?_
        refine then_n ?_
        -- region 6 slices.go:108
        refine sw_region [(0, 0), (1, 0)] rfl rfl rfl ?_
        refine sd_vv rfl rfl rfl (vv_add (k := .i64) (a := a2) (b := 1) rfl rfl) ?_
        refine sd_vv rfl rfl rfl (vv_move rfl) ?_
        refine sd_nil ?_
        have K_8 : Kz [] w w2 := (Kz.gr Kw1 Gw2)
        subst hrec1
        refine ⟨rfl, ⟨n1, w64 (a2 + 1)⟩, ?_, ⟨hm, K_8⟩, Nat.lt_succ_self _⟩
        repeat' first | exact trivial | refine ⟨rfl, ?_⟩
    ·
      replace hm := ite_f (of_decide_eq_false c1) hm
      refine sw_exit ?_
      refine then_x ?_
      refine then_x ?_
      refine block_x ?_
      refine then_n ?_
      refine sw_seq ?_
      -- region 7 slices.go:113
      refine sw_region [(0, 0)] rfl rfl rfl ?_
      refine sd_vv rfl rfl rfl (vv_assign rfl) ?_
      refine sd_done ?_
      refine sw_ret ?_
      have X9 : Gr w w1 := (Gr.kz (Gr.refl w) Kw1)
      have hr := Option.some.inj hm
      subst hr
      refine ⟨_, _, rfl, res_1 rfl (rv_tmp rfl), ?_⟩
      exact ⟨rfl, X9⟩

set_option maxHeartbeats 2000000 in
theorem poly_find_w (p0 : TPunctured) (p1 : Int) (vp0_1 : Value) (zp0_1 gp0_1 op0_1 : Nat) (r : Int × Int × Int) (hm : poly_find p0 p1 = some r) (w : World) (hp0_1 : Rd w zp0_1 gp0_1 op0_1 18 vp0_1 (p0.Labels.map TLabel.cs))  :
    Calls Try.prog 96 [.agg (TPunctured.cs p0 vp0_1).toArray, .int .i64 p1].toArray w fun e w' => ∃ v, e = .returned v ∧ (v = .tuple [.int .i64 r.1, .int .i64 r.2.1, .int .i64 r.2.2].toArray ∧ Gr w w') := by
  have lt1 := hp0_1.lth
  unfold poly_find at hm
  refine calls_of_sw (R := fun v w' => v = .tuple [.int .i64 r.1, .int .i64 r.2.1, .int .i64 r.2.2].toArray ∧ Gr w w') 32 Try.func96 rfl rfl rfl ?_
  refine sw_seq ?_
  -- region 0 puncture.go:42
  refine sw_region [(0, 0), (1, 0), (2, 0), (3, 0)] rfl rfl rfl ?_
  refine sd_ev rfl rfl rfl (ev_box (cs := TPunctured.cs p0 vp0_1) rfl rfl) ?_
  rintro _ w1 ⟨b1, rfl, hbw1, Bw1, Gw1⟩
  have z2 := Gw1.size
  have lt3 := Bw1.lt
  refine sd_ev rfl rfl rfl (ev_alloc (cs := [.int .i64 0]) zv_3 rfl) ?_
  rintro _ w2 ⟨b2, rfl, hbw2, Bw2, Gw2⟩
  have z4 := Gw2.size
  have lt5 := Bw2.lt
  refine sd_vv rfl rfl rfl (vv_assign rfl) ?_
  refine sd_vv rfl rfl rfl (vv_assign rfl) ?_
  refine sd_done ?_
  refine sw_seq ?_
  refine sw_seq ?_
  -- region 1 puncture.go:43
  refine sw_region [(0, 0), (1, 0), (2, 0)] rfl rfl rfl ?_
  have B6 := (Bx.gr Bw1 Gw2)
  refine sd_vv rfl rfl rfl (vv_loadW agg_76 rfl B6 rfl) ?_
  have B7 := (Rd.gr (Rd.gr hp0_1 Gw1) Gw2)
  have hb := bnd hm; clear hm; obtain ⟨x1, hx1, hm⟩ := hb
  refine sd_ev rfl rfl rfl (ev_call en_42 rfl (poly_CheckPunctured_w p0 _ _ _ _ _ hx1 _ B7)) ?_
  rintro _ w3 ⟨rfl, Gw3⟩
  have z8 := Gw3.size
  refine sd_vv rfl rfl rfl (vv_assign rfl) ?_
  refine sd_done ?_
  refine sw_seq ?_
  -- region 2 puncture.go:43
  refine sw_region [(0, 0), (1, 0)] rfl rfl rfl ?_
  refine sd_vv rfl rfl rfl (vv_move rfl) ?_
  refine sd_vv rfl rfl rfl (vv_neq (a := x1) (b := 0) rfl rfl) ?_
  refine sd_done ?_
  refine sw_cond rfl (fun c1 => ?_) (fun c1 => ?_)
  ·
    replace hm := ite_t (of_decide_eq_true c1) hm
    refine sw_seq ?_
    -- region 3 puncture.go:44
    refine sw_region [(0, 0), (1, 0), (2, 0), (3, 0)] rfl rfl rfl ?_
    refine sd_vv rfl rfl rfl (vv_move rfl) ?_
    have B9 := (Bx.gr Bw2 Gw3)
    refine sd_ev rfl rfl rfl (ev_st1 (cs' := [.int .i64 0]) (one_3).siz rfl rfl rfl B9 rfl rfl) ?_
    rintro _ w4 ⟨Bw4, Mw4⟩
    have z10 := Mw4.size
    refine sd_vv rfl rfl rfl (vv_assign rfl) ?_
    refine sd_vv rfl rfl rfl (vv_assign rfl) ?_
    refine sd_done ?_
    refine sw_ret ?_
    refine then_r ?_
    have X11 : Gr w w4 := (Gr.md (Gr.trans (Gr.trans (Gr.trans (Gr.refl w) Gw1) Gw2) Gw3) Mw4)
    have hr := Option.some.inj hm
    subst hr
    refine ⟨_, _, rfl, res_3 rfl (rv_cell1 one_3 rfl Bw4) (rv_tmp rfl) (rv_tmp rfl), ?_⟩
    exact ⟨rfl, X11⟩
  ·
    replace hm := ite_f (of_decide_eq_false c1) hm
    refine sw_skip ?_
    refine then_n ?_
    refine sw_seq ?_
    have X12 : Gr w w3 := (Gr.trans (Gr.trans (Gr.trans (Gr.refl w) Gw1) Gw2) Gw3)
    refine sw_joinD (β := Bool) [13, 14, 15, 16, 17, 18, 19, 20, 21] (fun a2 => [(21, .bool a2)]) (fun a2 wr => (poly_find_J1 p0 p1 a2 = some r) ∧ Kz [] w3 wr) ?_ ?_
    · clear hm; rintro a2 w5 ⟨hm, Kw5⟩
      have z13 := Kw5.size
      unfold poly_find_J1 at hm
      refine sw_cond rfl (fun c2 => ?_) (fun c2 => ?_)
      ·
        replace hm := cnd_t c2 hm
        refine sw_seq ?_
        -- region 5 puncture.go:47
        refine sw_region [(0, 0), (1, 0), (2, 0)] rfl rfl rfl ?_
        have B14 := (Bx.kz (Bx.gr Bw2 Gw3) Kw5)
        refine sd_ev rfl rfl rfl (ev_st1 (cs' := [.int .i64 0]) (one_3).siz rfl rfl rfl B14 rfl rfl) ?_
        rintro _ w6 ⟨Bw6, Mw6⟩
        have z15 := Mw6.size
        refine sd_vv rfl rfl rfl (vv_assign rfl) ?_
        refine sd_vv rfl rfl rfl (vv_assign rfl) ?_
        refine sd_done ?_
        refine sw_ret ?_
        refine then_r ?_
        have X16 : Gr w w6 := (Gr.md (Gr.kz X12 Kw5) Mw6)
        have hr := Option.some.inj hm
        subst hr
        refine ⟨_, _, rfl, res_3 rfl (rv_cell1 one_3 rfl Bw6) (rv_tmp rfl) (rv_tmp rfl), ?_⟩
        exact ⟨rfl, X16⟩
      ·
        replace hm := cnd_f c2 hm
        refine sw_skip ?_
        refine then_n ?_
        refine sw_seq ?_
        -- region 6 puncture.go:49
        refine sw_region [(0, 0), (1, 0), (2, 0), (3, 0), (4, 0), (5, 0)] rfl rfl rfl ?_
        refine sd_vv rfl rfl rfl (vv_fieldAddr fa_76_0 rfl) ?_
        have B17 := (Bx.kz (Bx.gr B6 Gw3) Kw5)
        refine sd_vv rfl rfl rfl (vv_load1 (v := .int .i64 p0.Depth) one_3 rfl B17 rfl) ?_
        have hb := bnd hm; clear hm; obtain ⟨n3, hn3, hm⟩ := hb
        refine sd_vv rfl rfl rfl (vv_shlI (a := 1) (b := p0.Depth) rfl rfl hn3) ?_
        refine sd_vv rfl rfl rfl (vv_move rfl) ?_
        refine sd_vv rfl rfl rfl (vv_add (k := .i64) (a := shlI 1 n3) (b := p1) rfl rfl) ?_
        have B18 := (Bx.kz (Bx.gr Bw2 Gw3) Kw5)
        refine sd_ev rfl rfl rfl (ev_st1 (cs' := [.int .i64 (w64 ((shlI 1 n3) + p1))]) (one_3).siz rfl rfl rfl B18 rfl rfl) ?_
        rintro _ w7 ⟨Bw7, Mw7⟩
        have z19 := Mw7.size
        refine sd_done ?_
        refine sw_seq ?_
        -- region 7 puncture.go:50 DRAWS
        refine sw_drawN [([b2]), ([])] [(5, [1])] (.leaf [(0, 11), (1, 10), (2, 10), (3, 10), (4, 0), (5, 0), (6, 10), (7, 10)]) (by kernel_rfl) (by kernel_rfl) rfl (by kernel_rfl) ?_
        intro w8 Gw8 zw8
        refine sdz_leaf ?_
        have B20 := (Bx.gr Bw7 Gw8)
        refine dd_hn 1 rfl rfl rfl rfl (Kp.refl ([]) w8) (fun w hS => vv_load1 (v := .int .i64 (w64 ((shlI 1 n3) + p1))) one_3 rfl (Bx.kp B20 hS) rfl) ?_
        refine dd_hn 0 rfl rfl rfl rfl (Kp.refl ([b2]) w8) (fun w hS => vv_fieldAddr fa_76_1 rfl) ?_
        have B21 := (Bx.gr (Bx.md B17 Mw7) Gw8)
        refine dd_hn 0 rfl rfl rfl rfl (Kp.refl ([b2]) w8) (fun w hS => vv_load1 (v := vp0_1) one_29 rfl (Bx.kp B21 hS) rfl) ?_
        refine dd_hn 0 rfl rfl rfl rfl (Kp.refl ([b2]) w8) (fun w hS => vv_makeFunc rfl rfl) ?_
        have B22 := (Rd.gr (Rd.md (Rd.kz (Rd.gr B7 Gw3) Kw5) Mw7 (tk1 ((pv_lt (A := (fun x => x ≠ b2)) lt1) : zp0_1 = 0 ∨ gp0_1 ≠ b2))) Gw8)
        have hb := bnd hm; clear hm; obtain ⟨x4, hx4, hm⟩ := hb
        refine dd_z [] rfl rfl rfl (ev_call en_136 rfl (slices_IndexFunc_15cd_poly_find_1_w p0.Labels (w64 ((shlI 1 n3) + p1)) _ _ _ _ _ _ hx4 _ B22 B20)) ⟨fun _ => tk0, fun _ => tk0, trivial⟩ ?_
        rintro _ w9 ⟨rfl, Gw9⟩
        have z23 := Gw9.size
        refine ⟨Kz.ofGr Gw9, ?_⟩
        have B24 := (Bx.gr B20 Gw9)
        refine dd_z [(1, b2)] rfl rfl rfl (ev_st1 (cs' := [.int .i64 (w64 ((shlI 1 n3) + p1))]) (one_3).siz rfl rfl rfl B24 rfl rfl) ⟨fun _ => tk0, nofun, trivial⟩ ?_
        rintro _ w10 ⟨Bw10, Mw10⟩
        have z25 := Mw10.size
        refine ⟨Kz.ofMd Mw10, ?_⟩
        have S26 := (Kp.md (Kp.gr (Kp.refl ([b2]) w8) Gw9) Mw10)
        refine dd_hn 0 rfl rfl rfl rfl S26 (fun w hS => vv_assign rfl) ?_
        refine dd_hn 0 rfl rfl rfl rfl S26 (fun w hS => vv_assign rfl) ?_
        refine sd_done ?_
        refine sw_ret ?_
        have X27 : Gr w w10 := (Gr.md (Gr.trans (Gr.trans (Gr.md (Gr.kz X12 Kw5) Mw7) Gw8) Gw9) Mw10)
        have hr := Option.some.inj hm
        subst hr
        refine ⟨_, _, rfl, res_3 rfl (rv_cell1 one_3 rfl Bw10) (rv_tmp rfl) (rv_tmp rfl), ?_⟩
        exact ⟨rfl, X27⟩
    ·
      -- region 4 puncture.go:46
      refine sw_region [(0, 0), (1, 0), (2, 0), (3, 0), (4, 0), (5, 0), (6, 0), (7, 0), (8, 0)] rfl rfl rfl ?_
      refine sd_vv rfl rfl rfl (vv_move rfl) ?_
      refine sd_vv rfl rfl rfl (vv_lss (a := p1) (b := 0) rfl rfl) ?_
      refine sd_split rfl rfl rfl (vv_move rfl) (fun c3 => ?_) (fun c3 => ?_)
      ·
        replace hm := ite_t (of_decide_eq_true c3) hm
        refine sd_skip rfl rfl rfl ?_
        refine sd_skip rfl rfl rfl ?_
        refine sd_skip rfl rfl rfl ?_
        refine sd_skip rfl rfl rfl ?_
        refine sd_skip rfl rfl rfl ?_
        refine sd_vv rfl rfl rfl (vv_pickT rfl rfl) ?_
        refine sd_nil ?_
        have K_28 : Kz [] w3 w3 := (Kz.refl _ _)
        refine ⟨rfl, true, ?_, hm, K_28⟩
        repeat' first | exact trivial | refine ⟨rfl, ?_⟩
      ·
        replace hm := ite_f (of_decide_eq_false c3) hm
        refine sd_vv rfl rfl rfl (vv_move rfl) ?_
        refine sd_vv rfl rfl rfl (vv_fieldAddr fa_76_0 rfl) ?_
        have B29 := (Bx.gr B6 Gw3)
        refine sd_vv rfl rfl rfl (vv_load1 (v := .int .i64 p0.Depth) one_3 rfl B29 rfl) ?_
        have hb := bnd hm; clear hm; obtain ⟨n5, hn5, hm⟩ := hb
        refine sd_vv rfl rfl rfl (vv_shlI (a := 1) (b := p0.Depth) rfl rfl hn5) ?_
        refine sd_vv rfl rfl rfl (vv_geq (a := p1) (b := shlI 1 n5) rfl rfl) ?_
        refine sd_vv rfl rfl rfl (vv_pickF rfl rfl) ?_
        refine sd_nil ?_
        have K_30 : Kz [] w3 w3 := (Kz.refl _ _)
        refine ⟨rfl, (decide (shlI 1 n5 ≤ p1)), ?_, hm, K_30⟩
        repeat' first | exact trivial | refine ⟨rfl, ?_⟩

set_option maxHeartbeats 2000000 in
theorem slices_Clone_109b_w (p0 : List TLabel) (vp0 : Value) (zp0 gp0 op0 : Nat) (r : List TLabel) (hm : slices_Clone_109b p0 = some r) (w : World) (hp0 : Rd w zp0 gp0 op0 18 vp0 (p0.map TLabel.cs))  :
    Calls Try.prog 97 [vp0].toArray w fun e w' => ∃ v, e = .returned v ∧ (∃ (ur0_s : Value) (zr0_s : Nat) (gr0_s : Nat), v = ur0_s ∧ Own w' zr0_s gr0_s 88 18 ur0_s (r.map TLabel.cs) ∧ Hdn (zr0_s = 0 ∨ w.heap.size ≤ gr0_s) ∧ Gr w w') := by
  have lt1 := hp0.lth
  unfold slices_Clone_109b at hm
  refine calls_of_sw (R := fun v w' => ∃ (ur0_s : Value) (zr0_s : Nat) (gr0_s : Nat), v = ur0_s ∧ Own w' zr0_s gr0_s 88 18 ur0_s (r.map TLabel.cs) ∧ Hdn (zr0_s = 0 ∨ w.heap.size ≤ gr0_s) ∧ Gr w w') 8 Try.func97 rfl rfl rfl ?_
  refine sw_seq ?_
  -- region 0 slices.go:355
  refine sw_region [(0, 0)] rfl rfl rfl ?_
  refine sd_vv rfl rfl rfl (vv_assign rfl) ?_
  refine sd_done ?_
  refine sw_seq ?_
  refine sw_seq ?_
  -- region 1 slices.go:357
  refine sw_region [(0, 0), (1, 0)] rfl rfl rfl ?_
  refine sd_vv rfl rfl rfl (vv_move rfl) ?_
  rcases rd_nilOr hp0 with ⟨ca2, hv2, hl2⟩ | ⟨aa2, ka2, ca2, hv2⟩
  ·
    replace hm : (some []) = some r := by rw [hl2] at hm; exact hm
    refine sd_vv rfl rfl rfl (vv_eqlNil Try.underlying29 rfl hv2) ?_
    refine sd_done ?_
    refine sw_condT rfl ?_
    refine sw_seq ?_
    -- region 2 slices.go:358
    refine sw_region [(0, 0)] rfl rfl rfl ?_
    refine sd_vv rfl rfl rfl (vv_assign rfl) ?_
    refine sd_done ?_
    refine sw_ret ?_
    refine then_r ?_
    have hr := Option.some.inj hm
    subst hr
    refine ⟨_, _, rfl, res_1 rfl (rv_tmp rfl), ?_⟩
    exact ⟨(.slice none 0 0), 0, 0, rfl, (own_nil _ 0 88 18), ⟨.inl rfl⟩, (Gr.refl w)⟩
  ·
    skip
    refine sd_vv rfl rfl rfl (vv_eqlNil Try.underlying29 rfl hv2) ?_
    refine sd_done ?_
    refine sw_condF rfl ?_
    refine sw_skip ?_
    refine then_n ?_
    refine sw_seq ?_
    -- region 3 slices.go:362
    refine sw_region [(0, 0), (1, 0), (2, 0), (3, 0)] rfl rfl rfl ?_
    refine sd_ev rfl rfl rfl (ev_litT ([] : List TLabel) TLabel.cs bsl_29_0 rfl rfl (ws_of rfl) rfl rfl rfl) ?_
    rintro vw1 w1 ⟨gw1, hbw1, Ow1, Gw1⟩
    have z3 := Gw1.size
    have lt4 := Ow1.lth
    refine sd_vv rfl rfl rfl (vv_move rfl) ?_
    have B5 := (Rd.gr hp0 Gw1)
    have hb := bnd hm; clear hm; obtain ⟨l1, hl1, hm⟩ := hb
    refine sd_ev rfl rfl rfl (ev_appT (l := ([] : List TLabel)) (m := p0) (c := TLabel.cs) apt_29 rfl rfl Ow1 B5 hl1 (by decide)) ?_
    rintro vw2 w2 ⟨zw2, gw2, Ow2, Aw2, qw2, rw2⟩
    have z6 := Aw2.size
    refine sd_vv rfl rfl rfl (vv_assign rfl) ?_
    refine sd_done ?_
    refine sw_ret ?_
    have X7 : Gr w w2 := (Gr.ka (Gr.trans (Gr.refl w) Gw1) Aw2 (tk1 ((.inr tk0) : 1 = 0 ∨ w.heap.size ≤ gw1)))
    have hr := Option.some.inj hm
    subst hr
    refine ⟨_, _, rfl, res_1 rfl (rv_tmp rfl), ?_⟩
    exact ⟨vw2, zw2, gw2, rfl, Ow2, ⟨(pv_app (A := (fun x => w.heap.size ≤ x)) rw2 (.inr tk0))⟩, X7⟩

set_option maxHeartbeats 2000000 in
theorem slices_Delete_a5d6_w (p0 : List TLabel) (p1 : Int) (p2 : Int) (vp0 : Value) (zp0 gp0 : Nat) (r : List TLabel) (hm : slices_Delete_a5d6 p0 p1 p2 = some r) (w : World) (hp0 : Own w zp0 gp0 88 18 vp0 (p0.map TLabel.cs))  :
    Calls Try.prog 98 [vp0, .int .i64 p1, .int .i64 p2].toArray w fun e w' => ∃ v, e = .returned v ∧ (∃ (ur0_s : Value) (zr0_s : Nat) (gr0_s : Nat), v = ur0_s ∧ Own w' zr0_s gr0_s 88 18 ur0_s (r.map TLabel.cs) ∧ Hdn (zr0_s = 0 ∨ (gr0_s = gp0 ∧ zp0 ≠ 0) ∨ w.heap.size ≤ gr0_s) ∧ Kz [(zp0, gp0)] w w') := by
  have lt1 := hp0.lth
  unfold slices_Delete_a5d6 at hm
  refine calls_of_sw (R := fun v w' => ∃ (ur0_s : Value) (zr0_s : Nat) (gr0_s : Nat), v = ur0_s ∧ Own w' zr0_s gr0_s 88 18 ur0_s (r.map TLabel.cs) ∧ Hdn (zr0_s = 0 ∨ (gr0_s = gp0 ∧ zp0 ≠ 0) ∨ w.heap.size ≤ gr0_s) ∧ Kz [(zp0, gp0)] w w') 33 Try.func98 rfl rfl rfl ?_
  refine sw_seq ?_
  -- region 0 slices.go:224
  refine sw_region [(0, 0)] rfl rfl rfl ?_
  refine sd_vv rfl rfl rfl (vv_assign rfl) ?_
  refine sd_done ?_
  refine sw_seq ?_
  -- region 1 slices.go:225
  refine sw_region [(0, 0), (1, 0), (2, 0), (3, 0), (4, 0), (5, 0)] rfl rfl rfl ?_
  refine sd_vv rfl rfl rfl (vv_move rfl) ?_
  refine sd_vv rfl rfl rfl (vv_move rfl) ?_
  refine sd_vv rfl rfl rfl (vv_move rfl) ?_
  refine sd_vv rfl rfl rfl (vv_move rfl) ?_
  refine sd_vv rfl rfl rfl (vv_lenT (l := p0) (c := TLabel.cs) Try.underlying29 rfl (Own.rd hp0)) ?_
  have hb := bnd hm; clear hm; obtain ⟨u1, hu1, hm⟩ := hb
  refine sd_sli rfl rfl rfl (vv_sli3 (c := TLabel.cs) Try.underlying29 (agg_88).siz rfl (Own.rd hp0) rfl rfl rfl hu1) ?_
  rintro v3_2 _ -
  refine sd_done ?_
  refine sw_seq ?_
  refine sw_seq ?_
  -- region 2 slices.go:227
  refine sw_region [(0, 0), (1, 0), (2, 0)] rfl rfl rfl ?_
  refine sd_vv rfl rfl rfl (vv_move rfl) ?_
  refine sd_vv rfl rfl rfl (vv_move rfl) ?_
  refine sd_vv rfl rfl rfl (vv_eql (a := p1) (b := p2) rfl rfl) ?_
  refine sd_done ?_
  refine sw_cond rfl (fun c1 => ?_) (fun c1 => ?_)
  ·
    replace hm := ite_t (of_decide_eq_true c1) hm
    refine sw_seq ?_
    -- region 3 slices.go:228
    refine sw_region [(0, 0), (1, 0)] rfl rfl rfl ?_
    refine sd_vv rfl rfl rfl (vv_move rfl) ?_
    refine sd_vv rfl rfl rfl (vv_assign rfl) ?_
    refine sd_done ?_
    refine sw_ret ?_
    refine then_r ?_
    have hr := Option.some.inj hm
    subst hr
    refine ⟨_, _, rfl, res_1 rfl (rv_tmp rfl), ?_⟩
    exact ⟨vp0, zp0, gp0, rfl, hp0, ⟨tk0⟩, (Kz.refl _ w)⟩
  ·
    replace hm := ite_f (of_decide_eq_false c1) hm
    refine sw_skip ?_
    refine then_n ?_
    refine sw_seq ?_
    -- region 4 slices.go:231
    refine sw_region [(0, 0), (1, 0), (2, 0)] rfl rfl rfl ?_
    refine sd_vv rfl rfl rfl (vv_move rfl) ?_
    refine sd_vv rfl rfl rfl (vv_lenT (l := p0) (c := TLabel.cs) Try.underlying29 rfl (Own.rd hp0)) ?_
    refine sd_vv rfl rfl rfl (vv_assign rfl) ?_
    refine sd_done ?_
    refine sw_seq ?_
    -- region 5 slices.go:232 DRAWS
    refine sw_drawN [([] ++ zf zp0 gp0)] [] (.leaf [(0, 10), (1, 10), (2, 10), (3, 10), (4, 10), (5, 10), (6, 0), (7, 10)]) (by kernel_rfl) (by kernel_rfl) rfl (by kernel_rfl) ?_
    intro w1 Gw1 zw1
    refine sdz_leaf ?_
    refine dd_hn 0 rfl rfl rfl rfl (Kp.refl ([] ++ zf zp0 gp0) w1) (fun w hS => vv_move rfl) ?_
    refine dd_hn 0 rfl rfl rfl rfl (Kp.refl ([] ++ zf zp0 gp0) w1) (fun w hS => vv_move rfl) ?_
    have B4 := (Own.gr hp0 Gw1)
    have hb := bnd hm; clear hm; obtain ⟨l2, hl2, hm⟩ := hb
    have OC3 := ownC_of B4 (del_pos hu1 (by simpa using c1))
    have zz3 := OC3.1
    refine dd_slin (k := 0) rfl rfl rfl rfl (Kp.refl ([] ++ zf zp0 gp0) w1) (vv_sliO (c := TLabel.cs) Try.underlying29 (agg_88).siz rfl OC3 rfl hl2) ?_
    rintro v3 _ R3
    have lt5 := R3.2.1.lth
    refine dd_hn 0 rfl rfl rfl rfl (Kp.refl ([] ++ zf zp0 gp0) w1) (fun w hS => vv_move rfl) ?_
    refine dd_hn 0 rfl rfl rfl rfl (Kp.refl ([] ++ zf zp0 gp0) w1) (fun w hS => vv_move rfl) ?_
    have hb := bnd hm; clear hm; obtain ⟨l3, hl3, hm⟩ := hb
    refine dd_slin (k := 0) rfl rfl rfl rfl (Kp.refl ([] ++ zf zp0 gp0) w1) (vv_sliT (P := Try.prog) (lo := p2) (hi := (p0.length : Int)) (l := p0) (c := TLabel.cs) Try.underlying29 (agg_88).siz rfl (Own.rd B4) ⟨_, rfl⟩ rfl hl3) ?_
    rintro v7 o7 R7
    have lt8 := R7.lth
    refine dd_z [(1, gp0)] rfl rfl rfl (ev_appC (c := TLabel.cs) apt_29 rfl rfl R3 R7 (del_len hu1 hl2 hl3)) ⟨fun _ => (tk3 (tk0 : zp0 = 0 ∨ (gp0 = gp0 ∧ zp0 ≠ 0) ∨ w1.heap.size ≤ gp0) (tk0 : zp0 = 0 ∨ (gp0 = gp0 ∧ zp0 ≠ 0) ∨ w1.heap.size ≤ gp0) (tk0 : zp0 = 0 ∨ (gp0 = gp0 ∧ zp0 ≠ 0) ∨ w1.heap.size ≤ gp0)), trivial⟩ ?_
    rintro vw2 w2 ⟨Cw2, Mw2⟩
    have z9 := Mw2.size
    have lt10 := Cw2.2.1.lth
    refine ⟨Kz.ofMd Mw2, ?_⟩
    have S11 := (Kp.md (Kp.refl ([] ++ zf zp0 gp0) w1) Mw2 (tk1 (tk0 : zp0 = 0 ∨ (gp0 = gp0 ∧ zp0 ≠ 0) ∨ w1.heap.size ≤ gp0)))
    refine dd_hn 0 rfl rfl rfl rfl S11 (fun w hS => vv_assign rfl) ?_
    refine sd_done ?_
    refine sw_seq ?_
    -- region 6 slices.go:233
    refine sw_region [(0, 0), (1, 0), (2, 0), (3, 0), (4, 0), (5, 0)] rfl rfl rfl ?_
    refine sd_vv rfl rfl rfl (vv_move rfl) ?_
    refine sd_vv rfl rfl rfl (vv_move rfl) ?_
    refine sd_vv rfl rfl rfl (vv_lenT (l := l2 ++ l3) (c := TLabel.cs) Try.underlying29 rfl (Own.rd Cw2.2.1)) ?_
    refine sd_vv rfl rfl rfl (vv_move rfl) ?_
    refine sd_sli rfl rfl rfl (vv_sliC (c := TLabel.cs) Try.underlying29 (agg_88).siz rfl Cw2 (n := (l2 ++ l3).length) rfl rfl rfl (by rw [List.length_append]; exact del_len hu1 hl2 hl3)) ?_
    rintro v12 _ R12
    refine sd_ev rfl rfl rfl (ev_clrC (c := TLabel.cs) Try.underlying29 zv_88 (by kernel_rfl) (by kernel_rfl) rfl Cw2 R12 (by rw [List.length_append]; exact del_len hu1 hl2 hl3)) ?_
    rintro _ w3 ⟨Cw3, Mw3⟩
    have z13 := Mw3.size
    refine sd_done ?_
    refine sw_seq ?_
    -- region 7 slices.go:234
    refine sw_region [(0, 0), (1, 0)] rfl rfl rfl ?_
    refine sd_vv rfl rfl rfl (vv_move rfl) ?_
    refine sd_vv rfl rfl rfl (vv_assign rfl) ?_
    refine sd_done ?_
    refine sw_ret ?_
    have X14 : Kz [(zp0, gp0)] w w3 := (Kz.md (Kz.md (Kz.gr (Kz.refl _ w) Gw1) Mw2 (tk1 (tk0 : zp0 = 0 ∨ (gp0 = gp0 ∧ zp0 ≠ 0) ∨ w.heap.size ≤ gp0))) Mw3 (tk1 (tk0 : zp0 = 0 ∨ (gp0 = gp0 ∧ zp0 ≠ 0) ∨ w.heap.size ≤ gp0)))
    have hr := Option.some.inj hm
    subst hr
    refine ⟨_, _, rfl, res_1 rfl (rv_tmp rfl), ?_⟩
    exact ⟨vw2, zp0, gp0, rfl, Cw3.2.1, ⟨tk0⟩, X14⟩

set_option maxHeartbeats 2000000 in
theorem poly_next_w (p0 : W2) (p1 : Int)  (r : W2) (hm : poly_next p0 p1 = some r) (w : World)   :
    Calls Try.prog 99 [kv p0, .int .i64 p1].toArray w fun e w' => ∃ v, e = .returned v ∧ (v = kv r ∧ Gr w w') := by
  unfold poly_next at hm
  refine calls_of_sw (R := fun v w' => v = kv r ∧ Gr w w') 11 Try.func99 rfl rfl rfl ?_
  refine sw_seq ?_
  -- region 0 puncture.go:54
  refine sw_region [(0, 0), (1, 0)] rfl rfl rfl ?_
  refine sd_ev rfl rfl rfl (ev_box (cs := kb p0) rfl rfl) ?_
  rintro _ w1 ⟨b1, rfl, hbw1, Bw1, Gw1⟩
  have z1 := Gw1.size
  have lt2 := Bw1.lt
  refine sd_ev rfl rfl rfl (ev_alloc (cs := kb k0) zv_23 rfl) ?_
  rintro _ w2 ⟨b2, rfl, hbw2, Bw2, Gw2⟩
  have z3 := Gw2.size
  have lt4 := Bw2.lt
  refine sd_done ?_
  refine sw_seq ?_
  -- region 1 puncture.go:54
  refine sw_region [(0, 0), (1, 0), (2, 0), (3, 0), (4, 0), (5, 0), (6, 0)] rfl rfl rfl ?_
  have B5 := (Bx.gr Bw1 Gw2)
  refine sd_vv rfl rfl rfl (vv_loadW agg_23 rfl B5 rfl) ?_
  refine sd_vv rfl rfl rfl (vv_move rfl) ?_
  refine sd_vv rfl rfl rfl (vv_bitI (a := p1) (b := 1) (by simp) rfl rfl) ?_
  refine sd_vv rfl rfl rfl (vv_cvIB cv_3_5 rfl) ?_
  refine sd_vv rfl rfl rfl (vv_addB (p := 31#8) (q := wd8 (bitI .and p1 1)) rfl rfl) ?_
  refine sd_ev rfl rfl rfl (ev_call en_52 rfl (derive_c p0 (un8 (31#8 + (wd8 (bitI .and p1 1)))) (un8_nn _) (un8_le _) 0#64 _)) ?_
  rintro _ w3 ⟨rfl, Gw3⟩
  have z6 := Gw3.size
  have B7 := (Bx.gr Bw2 Gw3)
  refine sd_ev rfl rfl rfl (ev_stM (cs' := kb (drv p0 (un8 (31#8 + (wd8 (bitI .and p1 1)))) 0#64)) (vs := kb (drv p0 (un8 (31#8 + (wd8 (bitI .and p1 1)))) 0#64)) (agg_23).siz rfl rfl rfl rfl rfl B7 rfl (by obtain ⟨kk0, hk0⟩ := ex_of (drv p0 (un8 (31#8 + (wd8 (bitI .and p1 1)))) 0#64); rw [← hk0]; first | done | rfl)) ?_
  rintro _ w4 ⟨Bw4, Mw4⟩
  have z8 := Mw4.size
  refine sd_done ?_
  refine sw_ret ?_
  have X9 : Gr w w4 := (Gr.md (Gr.trans (Gr.trans (Gr.trans (Gr.refl w) Gw1) Gw2) Gw3) Mw4)
  have hr := Option.some.inj hm
  subst hr
  refine ⟨_, _, rfl, res_1 rfl (rv_cellW agg_23 rfl Bw4 rfl), ?_⟩
  exact ⟨rfl, X9⟩

set_option maxHeartbeats 2000000 in
theorem poly_Puncture_w (p0 : TPunctured) (p1 : Int) (vp0_1 : Value) (zp0_1 gp0_1 op0_1 : Nat) (r : TPunctured × Int) (hm : poly_Puncture p0 p1 = some r) (w : World) (hp0_1 : Rd w zp0_1 gp0_1 op0_1 18 vp0_1 (p0.Labels.map TLabel.cs))  :
    Calls Try.prog 44 [.agg (TPunctured.cs p0 vp0_1).toArray, .int .i64 p1].toArray w fun e w' => ∃ v, e = .returned v ∧ (∃ (ur0_1 : Value) (zr0_1 : Nat) (gr0_1 : Nat), v = .tuple [.agg (TPunctured.cs r.1 ur0_1).toArray, .int .i64 r.2].toArray ∧ Own w' zr0_1 gr0_1 88 18 ur0_1 (r.1.Labels.map TLabel.cs) ∧ Hdn (zr0_1 = 0 ∨ w.heap.size ≤ gr0_1) ∧ Gr w w') := by
  have lt1 := hp0_1.lth
  unfold poly_Puncture at hm
  refine calls_of_sw (R := fun v w' => ∃ (ur0_1 : Value) (zr0_1 : Nat) (gr0_1 : Nat), v = .tuple [.agg (TPunctured.cs r.1 ur0_1).toArray, .int .i64 r.2].toArray ∧ Own w' zr0_1 gr0_1 88 18 ur0_1 (r.1.Labels.map TLabel.cs) ∧ Hdn (zr0_1 = 0 ∨ w.heap.size ≤ gr0_1) ∧ Gr w w') 80 Try.func44 rfl rfl rfl ?_
  refine sw_seq ?_
  -- region 0 puncture.go:57
  refine sw_region [(0, 0), (1, 0), (2, 0)] rfl rfl rfl ?_
  refine sd_ev rfl rfl rfl (ev_box (cs := TPunctured.cs p0 vp0_1) rfl rfl) ?_
  rintro _ w1 ⟨b1, rfl, hbw1, Bw1, Gw1⟩
  have z2 := Gw1.size
  have lt3 := Bw1.lt
  refine sd_ev rfl rfl rfl (ev_alloc (cs := TPunctured.cs (TPunctured.mk 0 []) (.slice none 0 0)) zv_76 rfl) ?_
  rintro _ w2 ⟨b2, rfl, hbw2, Bw2, Gw2⟩
  have z4 := Gw2.size
  have lt5 := Bw2.lt
  refine sd_vv rfl rfl rfl (vv_assign rfl) ?_
  refine sd_done ?_
  refine sw_seq ?_
  -- region 1 puncture.go:58
  refine sw_region [(0, 0), (1, 0), (2, 0), (3, 0), (4, 0), (5, 0), (6, 0), (7, 0), (8, 0), (9, 0)] rfl rfl rfl ?_
  have B6 := (Bx.gr Bw1 Gw2)
  refine sd_vv rfl rfl rfl (vv_loadW agg_76 rfl B6 rfl) ?_
  refine sd_vv rfl rfl rfl (vv_move rfl) ?_
  have B7 := (Rd.gr (Rd.gr hp0_1 Gw1) Gw2)
  have hb := bnd hm; clear hm; obtain ⟨x1, hx1, hm⟩ := hb
  refine sd_ev rfl rfl rfl (ev_call en_96 rfl (poly_find_w p0 p1 _ _ _ _ _ hx1 _ B7)) ?_
  rintro _ w3 ⟨rfl, Gw3⟩
  have z8 := Gw3.size
  refine sd_vv rfl rfl rfl (vv_move rfl) ?_
  refine sd_vv rfl rfl rfl (vv_extract rfl rfl) ?_
  refine sd_vv rfl rfl rfl (vv_extract rfl rfl) ?_
  refine sd_vv rfl rfl rfl (vv_extract rfl rfl) ?_
  refine sd_vv rfl rfl rfl (vv_assign rfl) ?_
  refine sd_vv rfl rfl rfl (vv_assign rfl) ?_
  refine sd_vv rfl rfl rfl (vv_assign rfl) ?_
  refine sd_done ?_
  refine sw_seq ?_
  refine sw_seq ?_
  -- region 2 puncture.go:59
  refine sw_region [(0, 0), (1, 0)] rfl rfl rfl ?_
  refine sd_vv rfl rfl rfl (vv_move rfl) ?_
  refine sd_vv rfl rfl rfl (vv_neq (a := x1.2.2) (b := 0) rfl rfl) ?_
  refine sd_done ?_
  refine sw_cond rfl (fun c1 => ?_) (fun c1 => ?_)
  ·
    replace hm := ite_t (of_decide_eq_true c1) hm
    refine sw_seq ?_
    -- region 3 puncture.go:60
    refine sw_region [(0, 0), (1, 0), (2, 0), (3, 0)] rfl rfl rfl ?_
    refine sd_vv rfl rfl rfl (vv_build (cs := TPunctured.cs (TPunctured.mk 0 []) (.slice none 0 0)) bs_76 rfl rfl) ?_
    refine sd_vv rfl rfl rfl (vv_move rfl) ?_
    have B9 := (Bx.gr Bw2 Gw3)
    refine sd_ev rfl rfl rfl (ev_stM (cs' := TPunctured.cs (TPunctured.mk 0 []) (.slice none 0 0)) (vs := TPunctured.cs (TPunctured.mk 0 []) (.slice none 0 0)) (agg_76).siz rfl rfl rfl rfl (TPunctured.cs_ones _ _ rfl) B9 rfl rfl) ?_
    rintro _ w4 ⟨Bw4, Mw4⟩
    have z10 := Mw4.size
    refine sd_vv rfl rfl rfl (vv_assign rfl) ?_
    refine sd_done ?_
    refine sw_ret ?_
    refine then_r ?_
    have X11 : Gr w w4 := (Gr.md (Gr.trans (Gr.trans (Gr.trans (Gr.refl w) Gw1) Gw2) Gw3) Mw4)
    have hr := Option.some.inj hm
    subst hr
    refine ⟨_, _, rfl, res_2 rfl (rv_cellW agg_76 rfl Bw4 rfl) (rv_tmp rfl), ?_⟩
    exact ⟨(.slice none 0 0), 0, 0, rfl, (own_nil _ 0 88 18), ⟨.inl rfl⟩, X11⟩
  ·
    replace hm := ite_f (of_decide_eq_false c1) hm
    refine sw_skip ?_
    refine then_n ?_
    have X12 : Gr w w3 := (Gr.trans (Gr.trans (Gr.trans (Gr.refl w) Gw1) Gw2) Gw3)
    refine sw_joinD (β := List TLabel × Nat × Value × Nat × Nat) [9, 23, 24, 25, 26, 27, 28] (fun ⟨a3, bq2, vy4, zy4, gy4⟩ => [(9, .pointer (some ⟨bq2, 0, none⟩))]) (fun ⟨a3, bq2, vy4, zy4, gy4⟩ wr => (poly_Puncture_J1 p0 x1 a3 = some r) ∧ Own wr zy4 gy4 88 18 vy4 (a3.map TLabel.cs) ∧ Hdn (zy4 = 0 ∨ w3.heap.size ≤ gy4) ∧ Bx wr bq2 76 (TPunctured.cs (TPunctured.mk p0.Depth a3) vy4) ∧ w3.heap.size ≤ bq2 ∧ Hdn (zy4 = 0 ∨ gy4 ≠ bq2) ∧ Kz [] w3 wr) ?_ ?_
    · clear hm; rintro ⟨a3, bq2, vy4, zy4, gy4⟩ w5 ⟨hm, Fw5_0, Fw5_1, Fw5_2, Fw5_3, Fw5_4, Kw5⟩
      have z13 := Kw5.size
      have lt14 := Fw5_0.lth
      have lt15 := Fw5_2.lt
      unfold poly_Puncture_J1 at hm
      refine sw_seq ?_
      refine sw_seq ?_
      -- region 5 puncture.go:63
      refine sw_region [(0, 0), (1, 0)] rfl rfl rfl ?_
      refine sd_vv rfl rfl rfl (vv_move rfl) ?_
      refine sd_vv rfl rfl rfl (vv_lss (a := x1.2.1) (b := 0) rfl rfl) ?_
      refine sd_done ?_
      refine sw_cond rfl (fun c2 => ?_) (fun c2 => ?_)
      ·
        replace hm := ite_t (of_decide_eq_true c2) hm
        refine sw_seq ?_
        -- region 6 puncture.go:64
        refine sw_region [(0, 0), (1, 0), (2, 0)] rfl rfl rfl ?_
        refine sd_vv rfl rfl rfl (vv_loadW agg_76 rfl Fw5_2 rfl) ?_
        have B16 := (Bx.kz (Bx.gr Bw2 Gw3) Kw5)
        refine sd_ev rfl rfl rfl (ev_stM (cs' := TPunctured.cs (TPunctured.mk p0.Depth a3) vy4) (vs := TPunctured.cs (TPunctured.mk p0.Depth a3) vy4) (agg_76).siz rfl rfl rfl rfl (TPunctured.cs_ones _ _ (Own.oneB Fw5_0)) B16 rfl rfl) ?_
        rintro _ w6 ⟨Bw6, Mw6⟩
        have z17 := Mw6.size
        refine sd_vv rfl rfl rfl (vv_assign rfl) ?_
        refine sd_done ?_
        refine sw_ret ?_
        refine then_r ?_
        have B18 := (Own.md Fw5_0 Mw6 (tk1 ((pv_0 (A := (fun x => x ≠ b2)) Fw5_1) : zy4 = 0 ∨ gy4 ≠ b2)))
        have X19 : Gr w w6 := (Gr.md (Gr.kz X12 Kw5) Mw6)
        have hr := Option.some.inj hm
        subst hr
        refine ⟨_, _, rfl, res_2 rfl (rv_cellW agg_76 rfl Bw6 rfl) (rv_tmp rfl), ?_⟩
        exact ⟨vy4, zy4, gy4, rfl, B18, ⟨(pv_0 (A := (fun x => w.heap.size ≤ x)) Fw5_1)⟩, X19⟩
      ·
        replace hm := ite_f (of_decide_eq_false c2) hm
        refine sw_skip ?_
        refine then_n ?_
        refine sw_seq ?_
        -- region 7 puncture.go:66
        refine sw_region [(0, 0), (1, 0), (2, 0), (3, 0), (4, 0), (5, 0), (6, 0)] rfl rfl rfl ?_
        refine sd_vv rfl rfl rfl (vv_fieldAddr fa_76_1 rfl) ?_
        refine sd_vv rfl rfl rfl (vv_load1 (v := vy4) one_29 rfl Fw5_2 rfl) ?_
        refine sd_vv rfl rfl rfl (vv_move rfl) ?_
        have hb := bnd hm; clear hm; obtain ⟨y5, hy5, hm⟩ := hb
        refine sd_vv rfl rfl rfl (vv_ixT (i := x1.2.1) Try.underlying29 (agg_88).siz rfl (Own.rd Fw5_0) rfl hy5) ?_
        refine sd_vv rfl rfl rfl (vv_elWT agg_88 rfl (Own.rd Fw5_0) hy5 (by first | rfl | omega)) ?_
        refine sd_ev rfl rfl rfl (ev_alloc (cs := TLabel.cs (TLabel.mk 0 0 k0)) zv_88 rfl) ?_
        rintro _ w7 ⟨b7, rfl, hbw7, Bw7, Gw7⟩
        have z20 := Gw7.size
        have lt21 := Bw7.lt
        refine sd_ev rfl rfl rfl (ev_stM (cs' := TLabel.cs y5) (vs := TLabel.cs y5) (agg_88).siz rfl rfl rfl rfl rfl Bw7 rfl rfl) ?_
        rintro _ w8 ⟨Bw8, Mw8⟩
        have z22 := Mw8.size
        refine sd_done ?_
        refine sw_seq ?_
        -- region 8 puncture.go:67
        refine sw_region [(0, 0), (1, 0), (2, 0), (3, 0), (4, 0), (5, 0), (6, 0), (7, 0)] rfl rfl rfl ?_
        refine sd_vv rfl rfl rfl (vv_fieldAddr fa_76_1 rfl) ?_
        have B23 := (Bx.md (Bx.gr Fw5_2 Gw7) Mw8)
        refine sd_vv rfl rfl rfl (vv_load1 (v := vy4) one_29 rfl B23 rfl) ?_
        refine sd_vv rfl rfl rfl (vv_move rfl) ?_
        refine sd_vv rfl rfl rfl (vv_move rfl) ?_
        refine sd_vv rfl rfl rfl (vv_add (k := .i64) (a := x1.2.1) (b := 1) rfl rfl) ?_
        have B24 := (Own.md (Own.gr Fw5_0 Gw7) Mw8 (tk1 ((pv_lt (A := (fun x => x ≠ b7)) lt14) : zy4 = 0 ∨ gy4 ≠ b7)))
        have hb := bnd hm; clear hm; obtain ⟨x6, hx6, hm⟩ := hb
        refine sd_ev rfl rfl rfl (ev_call en_98 rfl (slices_Delete_a5d6_w a3 x1.2.1 (w64 (x1.2.1 + 1)) vy4 zy4 gy4 _ hx6 _ B24)) ?_
        rintro u9_r0_s w9 ⟨_, z9_r0_s, g9_r0_s, rfl, O9_r0_s, f9_r0_s, Kw9⟩
        have z25 := Kw9.size
        have lt26 := O9_r0_s.lth
        refine sd_vv rfl rfl rfl (vv_fieldAddr fa_76_1 rfl) ?_
        have B27 := (Bx.kz B23 Kw9 (tk1 ((tk1 Fw5_4.o) : zy4 = 0 ∨ gy4 ≠ bq2)))
        refine sd_ev rfl rfl rfl (ev_st1 (cs' := TPunctured.cs (TPunctured.mk p0.Depth x6) u9_r0_s) (one_29).siz rfl rfl (Own.oneB O9_r0_s) B27 rfl rfl) ?_
        rintro _ w10 ⟨Bw10, Mw10⟩
        have z28 := Mw10.size
        refine sd_done ?_
        refine sw_seq ?_
        refine sw_block ?_
        have X29 : Gr w w10 := (Gr.md (Gr.kz (Gr.md (Gr.trans (Gr.kz X12 Kw5) Gw7) Mw8) Kw9 (tk1 ((pv_0 (A := (fun x => w.heap.size ≤ x)) Fw5_1) : zy4 = 0 ∨ w.heap.size ≤ gy4))) Mw10)
        have B30 := (Rd.md (Rd.kz (Rd.md (Rd.gr (Rd.kz (Rd.gr B7 Gw3) Kw5) Gw7) Mw8 (tk1 ((pv_lt (A := (fun x => x ≠ b7)) lt1) : zp0_1 = 0 ∨ gp0_1 ≠ b7))) Kw9 (tk1 ((pv_sw (pv_0 (A := (fun x => zp0_1 = 0 ∨ x ≠ gp0_1)) Fw5_1 (fun x hx => (tk1 lt1.o)))) : zp0_1 = 0 ∨ zy4 = 0 ∨ gp0_1 ≠ gy4))) Mw10 (tk1 ((pv_lt (A := (fun x => x ≠ bq2)) lt1) : zp0_1 = 0 ∨ gp0_1 ≠ bq2)))
        have B31 := (Bx.md (Bx.kz Bw8 Kw9 (tk1 ((pv_lt (A := (fun x => x ≠ b7)) lt14) : zy4 = 0 ∨ gy4 ≠ b7))) Mw10)
        have B32 := (Own.md O9_r0_s Mw10 (tk1 ((pv_1 (A := (fun x => x ≠ bq2)) f9_r0_s (tk1 Fw5_4.o)) : z9_r0_s = 0 ∨ g9_r0_s ≠ bq2)))
        refine sw_loopD (α := Nat × List TLabel × Int × Int × W2 × Value × Nat × Nat) [11, 44, 45, 46, 47, 48, 49, 50, 51, 52, 53, 54, 55, 56, 57, 58, 59, 60, 61, 62, 63, 64, 65, 66, 67, 68, 69, 70, 71, 72, 73, 74, 75] (fun ⟨n2, a12, a14, a15, a16, vy13, zy13, gy13⟩ => []) (fun ⟨n2, a12, a14, a15, a16, vy13, zy13, gy13⟩ wr => (fixN (poly_Puncture_L2 p0 x1) n2 (a12, a14, a15, a16) = some r) ∧ Own wr zy13 gy13 88 18 vy13 (a12.map TLabel.cs) ∧ Hdn (zy13 = 0 ∨ (gy13 = g9_r0_s ∧ z9_r0_s ≠ 0) ∨ w10.heap.size ≤ gy13) ∧ Bx wr bq2 76 (TPunctured.cs (TPunctured.mk p0.Depth a12) vy13) ∧ Bx wr b7 88 (TLabel.cs (TLabel.mk a14 a15 a16)) ∧ Kz [(1, bq2), (1, b7), (z9_r0_s, g9_r0_s)] w10 wr) (fun ⟨n2, a12, a14, a15, a16, vy13, zy13, gy13⟩ => n2) ⟨FUEL, x6, y5.Node, y5.Minus, y5.Key, u9_r0_s, z9_r0_s, g9_r0_s⟩ ?_ ?_ ?_
        · repeat' first | exact trivial | refine ⟨rfl, ?_⟩
        · exact ⟨hm, B32, ⟨tk0⟩, Bw10, B31, Kz.refl _ _⟩
        · clear hm; rintro ⟨n2, a12, a14, a15, a16, vy13, zy13, gy13⟩ w11 ⟨hm, Fw11_0, Fw11_1, Fw11_2, Fw11_3, Kw11⟩
          have z33 := Kw11.size
          have lt34 := Fw11_0.lth
          have lt35 := Fw11_2.lt
          have lt36 := Fw11_3.lt
          have hb := fix_succ hm; clear hm; obtain ⟨n2, rfl, hm⟩ := hb
          generalize hrec2 : fixN (poly_Puncture_L2 p0 x1) n2 = rec2 at hm
          unfold poly_Puncture_L2 at hm
          try dsimp only at hm
          refine sw_seq ?_
          refine sw_seq ?_
          -- region 9 puncture.go:68
          refine sw_region [(0, 0), (1, 0), (2, 0), (3, 0)] rfl rfl rfl ?_
          refine sd_vv rfl rfl rfl (vv_fieldAddr fa_88_0 rfl) ?_
          refine sd_vv rfl rfl rfl (vv_load1 (v := .int .i64 a14) one_3 rfl Fw11_3 rfl) ?_
          refine sd_vv rfl rfl rfl (vv_move rfl) ?_
          refine sd_vv rfl rfl rfl (vv_neq (a := a14) (b := x1.1) rfl rfl) ?_
          refine sd_done ?_
          refine sw_cond rfl (fun c3 => ?_) (fun c3 => ?_)
          ·
            replace hm := ite_t (of_decide_eq_true c3) hm
            refine sw_skip ?_
            refine then_n ?_
            refine sw_block ?_
            refine sw_seq ?_
            -- region 10 puncture.go:69
            refine sw_region [(0, 0), (1, 0), (2, 0), (3, 0)] rfl rfl rfl ?_
            refine sd_vv rfl rfl rfl (vv_fieldAddr fa_88_0 rfl) ?_
            refine sd_vv rfl rfl rfl (vv_load1 (v := .int .i64 a14) one_3 rfl Fw11_3 rfl) ?_
            refine sd_vv rfl rfl rfl (vv_mul (k := .i64) (a := 2) (b := a14) rfl rfl) ?_
            refine sd_vv rfl rfl rfl (vv_assign rfl) ?_
            refine sd_done ?_
            have X37 : Gr w w11 := (Gr.kz X29 Kw11 (tk1 ((pv_1 (A := (fun x => w.heap.size ≤ x)) f9_r0_s (pv_0 (A := (fun x => w.heap.size ≤ x)) Fw5_1)) : z9_r0_s = 0 ∨ w.heap.size ≤ g9_r0_s)))
            refine sw_joinD (β := Int) [11, 51, 52, 53, 54, 55, 56] (fun a17 => [(11, .int .i64 a17)]) (fun a17 wr => (poly_Puncture_J3 a12 a16 rec2 a17 = some r) ∧ Kz [] w11 wr) ?_ ?_
            · clear hm; rintro a17 w12 ⟨hm, Kw12⟩
              have z38 := Kw12.size
              unfold poly_Puncture_J3 at hm
              refine sw_seq ?_
              -- region 13 puncture.go:73 DRAWS
              refine sw_drawN [([bq2] ++ zf zy13 gy13), ([] ++ zf zy13 gy13)] [(13, [1])] (.leaf [(0, 10), (1, 11), (2, 10), (3, 10), (4, 10), (5, 10), (6, 10), (7, 10), (8, 0), (9, 10), (10, 0), (11, 0), (12, 10), (13, 0)]) (by kernel_rfl) (by kernel_rfl) rfl (by kernel_rfl) ?_
              intro w13 Gw13 zw13
              refine sdz_leaf ?_
              refine dd_hn 0 rfl rfl rfl rfl (Kp.refl ([bq2] ++ zf zy13 gy13) w13) (fun w hS => vv_fieldAddr fa_76_1 rfl) ?_
              have B39 := (Bx.gr (Bx.kz Fw11_2 Kw12) Gw13)
              refine dd_hn 1 rfl rfl rfl rfl (Kp.refl ([] ++ zf zy13 gy13) w13) (fun w hS => vv_load1 (v := vy13) one_29 rfl (Bx.kp B39 hS (tk1 ((pv_1 (A := (fun x => x ≠ bq2)) Fw11_1 (pv_1 (A := (fun x => x ≠ bq2)) f9_r0_s (tk1 Fw5_4.o))) : zy13 = 0 ∨ gy13 ≠ bq2))) rfl) ?_
              refine dd_hn 0 rfl rfl rfl rfl (Kp.refl ([bq2] ++ zf zy13 gy13) w13) (fun w hS => vv_move rfl) ?_
              refine dd_hn 0 rfl rfl rfl rfl (Kp.refl ([bq2] ++ zf zy13 gy13) w13) (fun w hS => vv_bitI (a := a17) (b := 1) (by simp) rfl rfl) ?_
              refine dd_hn 0 rfl rfl rfl rfl (Kp.refl ([bq2] ++ zf zy13 gy13) w13) (fun w hS => vv_fieldAddr fa_88_2 rfl) ?_
              have B40 := (Bx.gr (Bx.kz Fw11_3 Kw12) Gw13)
              refine dd_hn 0 rfl rfl rfl rfl (Kp.refl ([bq2] ++ zf zy13 gy13) w13) (fun w hS => vv_loadM (vs := kb a16) agg_23 rfl (Bx.kp B40 hS (tk1 ((pv_1 (A := (fun x => x ≠ b7)) Fw11_1 (pv_1 (A := (fun x => x ≠ b7)) f9_r0_s (pv_lt (A := (fun x => x ≠ b7)) lt14))) : zy13 = 0 ∨ gy13 ≠ b7))) rfl rfl) ?_
              refine dd_hn 0 rfl rfl rfl rfl (Kp.refl ([bq2] ++ zf zy13 gy13) w13) (fun w hS => vv_move rfl) ?_
              refine dd_hn 0 rfl rfl rfl rfl (Kp.refl ([bq2] ++ zf zy13 gy13) w13) (fun w hS => vv_bitI (a := a17) (b := 1) (by simp) rfl rfl) ?_
              have hb := bnd hm; clear hm; obtain ⟨x18, hx18, hm⟩ := hb
              refine dd_z [] rfl rfl rfl (ev_call en_99 rfl (poly_next_w a16 (bitI .xor a17 1) _ hx18 _)) ⟨fun _ => tk0, fun _ => tk0, trivial⟩ ?_
              rintro _ w14 ⟨rfl, Gw14⟩
              have z41 := Gw14.size
              refine ⟨Kz.ofGr Gw14, ?_⟩
              have S42 := (Kp.gr (Kp.refl ([bq2] ++ zf zy13 gy13) w13) Gw14)
              refine dd_hn 0 rfl rfl rfl rfl S42 (fun w hS => vv_build (cs := TLabel.cs (TLabel.mk (bitI .xor a17 1) 0 x18)) bs_88 rfl (fill_M rfl rfl rfl (fill_M rfl rfl rfl (by kernel_rfl)))) ?_
              refine dd_z [] rfl rfl rfl (ev_litT [(TLabel.mk (bitI .xor a17 1) 0 x18)] TLabel.cs bsl_29_1 rfl rfl (ws_of rfl) rfl rfl rfl) ⟨fun _ => tk0, fun _ => tk0, trivial⟩ ?_
              rintro vw15 w15 ⟨gw15, hbw15, Ow15, Gw15⟩
              have z43 := Gw15.size
              have lt44 := Ow15.lth
              refine ⟨Kz.ofGr Gw15, ?_⟩
              have B45 := (Own.gr (Own.gr (Own.gr (Own.kz Fw11_0 Kw12) Gw13) Gw14) Gw15)
              have hb := bnd hm; clear hm; obtain ⟨l19, hl19, hm⟩ := hb
              refine dd_z [(zy13, gy13)] rfl rfl rfl (ev_appT (l := a12) (m := [(TLabel.mk (bitI .xor a17 1) 0 x18)]) (c := TLabel.cs) apt_29 rfl rfl B45 (Own.rd Ow15) hl19 (by decide)) ⟨fun _ => (tk1 (tk0 : zy13 = 0 ∨ (gy13 = gy13 ∧ zy13 ≠ 0) ∨ w13.heap.size ≤ gy13)), fun _ => (tk1 (tk0 : zy13 = 0 ∨ (gy13 = gy13 ∧ zy13 ≠ 0) ∨ w13.heap.size ≤ gy13)), trivial⟩ ?_
              rintro vw16 w16 ⟨zw16, gw16, Ow16, Aw16, qw16, rw16⟩
              have z46 := Aw16.size
              refine ⟨Kz.ofKa Aw16, ?_⟩
              have S47 := (Kp.ka (Kp.gr S42 Gw15) Aw16 (tk1 (tk0 : zy13 = 0 ∨ (gy13 = gy13 ∧ zy13 ≠ 0) ∨ w13.heap.size ≤ gy13)))
              refine dd_hn 0 rfl rfl rfl rfl S47 (fun w hS => vv_fieldAddr fa_76_1 rfl) ?_
              have B48 := (Bx.ka (Bx.gr (Bx.gr B39 Gw14) Gw15) Aw16 (tk1 ((pv_1 (A := (fun x => x ≠ bq2)) Fw11_1 (pv_1 (A := (fun x => x ≠ bq2)) f9_r0_s (tk1 Fw5_4.o))) : zy13 = 0 ∨ gy13 ≠ bq2)))
              refine dd_z [(1, bq2)] rfl rfl rfl (ev_st1 (cs' := TPunctured.cs (TPunctured.mk p0.Depth l19) vw16) (one_29).siz rfl rfl (Own.oneB Ow16) B48 rfl rfl) ⟨fun _ => tk0, nofun, trivial⟩ ?_
              rintro _ w17 ⟨Bw17, Mw17⟩
              have z49 := Mw17.size
              refine ⟨Kz.ofMd Mw17, ?_⟩
              refine sd_done ?_
              -- region 14 puncture.go:74
              refine sw_region [(0, 0), (1, 0), (2, 0), (3, 0), (4, 0), (5, 0), (6, 0)] rfl rfl rfl ?_
              refine sd_vv rfl rfl rfl (vv_move rfl) ?_
              refine sd_vv rfl rfl rfl (vv_fieldAddr fa_88_2 rfl) ?_
              have B50 := (Bx.md (Bx.ka (Bx.gr (Bx.gr B40 Gw14) Gw15) Aw16 (tk1 ((pv_1 (A := (fun x => x ≠ b7)) Fw11_1 (pv_1 (A := (fun x => x ≠ b7)) f9_r0_s (pv_lt (A := (fun x => x ≠ b7)) lt14))) : zy13 = 0 ∨ gy13 ≠ b7))) Mw17)
              refine sd_vv rfl rfl rfl (vv_loadM (vs := kb a16) agg_23 rfl B50 rfl rfl) ?_
              refine sd_vv rfl rfl rfl (vv_move rfl) ?_
              have hb := bnd hm; clear hm; obtain ⟨x20, hx20, hm⟩ := hb
              refine sd_ev rfl rfl rfl (ev_call en_99 rfl (poly_next_w a16 a17 _ hx20 _)) ?_
              rintro _ w18 ⟨rfl, Gw18⟩
              have z51 := Gw18.size
              refine sd_vv rfl rfl rfl (vv_build (cs := TLabel.cs (TLabel.mk a17 0 x20)) bs_88 rfl (fill_M rfl rfl rfl (fill_M rfl rfl rfl (by kernel_rfl)))) ?_
              have B52 := (Bx.gr B50 Gw18)
              refine sd_ev rfl rfl rfl (ev_stM (cs' := TLabel.cs (TLabel.mk a17 0 x20)) (vs := TLabel.cs (TLabel.mk a17 0 x20)) (agg_88).siz rfl rfl rfl rfl rfl B52 rfl rfl) ?_
              rintro _ w19 ⟨Bw19, Mw19⟩
              have z53 := Mw19.size
              refine sd_nil ?_
              refine block_n ?_
              have K_54 : Kz [(1, bq2), (1, b7), (z9_r0_s, g9_r0_s)] w10 w19 := (Kz.md (Kz.gr (Kz.md (Kz.ka (Kz.gr (Kz.gr (Kz.gr (Kz.kz Kw11 Kw12) Gw13) Gw14) Gw15) Aw16 (tk1 ((pv_1 (A := (fun x => (x = g9_r0_s ∧ z9_r0_s ≠ 0) ∨ w10.heap.size ≤ x)) Fw11_1 tk0) : zy13 = 0 ∨ (gy13 = g9_r0_s ∧ z9_r0_s ≠ 0) ∨ w10.heap.size ≤ gy13))) Mw17) Gw18) Mw19)
              have B55 := (Own.md (Own.gr (Own.md Ow16 Mw17 (tk1 ((pv_app (A := (fun x => x ≠ bq2)) rw16 (pv_1 (A := (fun x => x ≠ bq2)) Fw11_1 (pv_1 (A := (fun x => x ≠ bq2)) f9_r0_s (tk1 Fw5_4.o)))) : zw16 = 0 ∨ gw16 ≠ bq2))) Gw18) Mw19 (tk1 ((pv_app (A := (fun x => x ≠ b7)) rw16 (pv_1 (A := (fun x => x ≠ b7)) Fw11_1 (pv_1 (A := (fun x => x ≠ b7)) f9_r0_s (pv_lt (A := (fun x => x ≠ b7)) lt14)))) : zw16 = 0 ∨ gw16 ≠ b7)))
              have B56 := (Bx.md (Bx.gr Bw17 Gw18) Mw19)
              subst hrec2
              refine ⟨rfl, ⟨n2, l19, a17, 0, x20, vw16, zw16, gw16⟩, ?_, ⟨hm, B55, ⟨(pv_app (A := (fun x => (x = g9_r0_s ∧ z9_r0_s ≠ 0) ∨ w10.heap.size ≤ x)) rw16 (pv_1 (A := (fun x => (x = g9_r0_s ∧ z9_r0_s ≠ 0) ∨ w10.heap.size ≤ x)) Fw11_1 tk0))⟩, B56, Bw19, K_54⟩, Nat.lt_succ_self _⟩
              repeat' first | exact trivial | refine ⟨rfl, ?_⟩
            ·
              refine sw_seq ?_
              -- region 11 puncture.go:70
              refine sw_region [(0, 0), (1, 0), (2, 0), (3, 0)] rfl rfl rfl ?_
              refine sd_vv rfl rfl rfl (vv_move rfl) ?_
              refine sd_vv rfl rfl rfl (vv_move rfl) ?_
              have hb := bnd hm; clear hm; obtain ⟨x21, hx21, hm⟩ := hb
              refine sd_ev rfl rfl rfl (ev_call en_95 rfl (poly_below_w x1.1 (w64 (2 * a14)) _ hx21 _)) ?_
              rintro _ w20 ⟨rfl, Gw20⟩
              have z57 := Gw20.size
              refine sd_vv rfl rfl rfl (vv_not rfl) ?_
              refine sd_done ?_
              refine sw_cond rfl (fun c4 => ?_) (fun c4 => ?_)
              ·
                replace hm := cnd_t c4 hm
                -- region 12 puncture.go:71
                refine sw_region [(0, 0), (1, 0), (2, 0)] rfl rfl rfl ?_
                refine sd_vv rfl rfl rfl (vv_move rfl) ?_
                refine sd_vv rfl rfl rfl (vv_add (k := .i64) (a := w64 (2 * a14)) (b := 1) rfl rfl) ?_
                refine sd_vv rfl rfl rfl (vv_assign rfl) ?_
                refine sd_nil ?_
                have K_58 : Kz [] w11 w20 := (Kz.gr (Kz.refl _ _) Gw20)
                refine ⟨rfl, (w64 ((w64 (2 * a14)) + 1)), ?_, hm, K_58⟩
                repeat' first | exact trivial | refine ⟨rfl, ?_⟩
              ·
                replace hm := cnd_f c4 hm
                refine sw_skip ?_
                have K_59 : Kz [] w11 w20 := (Kz.gr (Kz.refl _ _) Gw20)
                refine ⟨rfl, (w64 (2 * a14)), ?_, hm, K_59⟩
                repeat' first | exact trivial | refine ⟨rfl, ?_⟩
          ·
            replace hm := ite_f (of_decide_eq_false c3) hm
            refine sw_exit ?_
            refine then_x ?_
            refine then_x ?_
            refine block_x ?_
            refine then_n ?_
            refine sw_seq ?_
            -- region 15 puncture.go:76
            refine sw_region [(0, 0), (1, 0), (2, 0)] rfl rfl rfl ?_
            refine sd_vv rfl rfl rfl (vv_fieldAddr fa_76_1 rfl) ?_
            refine sd_vv rfl rfl rfl (vv_load1 (v := vy13) one_29 rfl Fw11_2 rfl) ?_
            have hb := bnd hm; clear hm; obtain ⟨l22, hl22, hm⟩ := hb
            refine sd_ev rfl rfl rfl (ev_call en_100 rfl (sortLbl_c hl22 _ _ _ _ Fw11_0)) ?_
            rintro _ w21 ⟨Ow21, Kw21⟩
            have z60 := Kw21.size
            refine sd_done ?_
            refine sw_seq ?_
            -- region 16 puncture.go:77
            refine sw_region [(0, 0), (1, 0), (2, 0)] rfl rfl rfl ?_
            have B61 := (Bx.kz Fw11_2 Kw21 (tk1 ((pv_1 (A := (fun x => x ≠ bq2)) Fw11_1 (pv_1 (A := (fun x => x ≠ bq2)) f9_r0_s (tk1 Fw5_4.o))) : zy13 = 0 ∨ gy13 ≠ bq2)))
            refine sd_vv rfl rfl rfl (vv_loadW agg_76 rfl B61 rfl) ?_
            have B62 := (Bx.kz (Bx.kz (Bx.md (Bx.kz (Bx.md (Bx.gr (Bx.kz (Bx.gr Bw2 Gw3) Kw5) Gw7) Mw8) Kw9 (tk1 ((pv_0 (A := (fun x => x ≠ b2)) Fw5_1) : zy4 = 0 ∨ gy4 ≠ b2))) Mw10) Kw11 (tk1 ((pv_1 (A := (fun x => x ≠ b2)) f9_r0_s (pv_0 (A := (fun x => x ≠ b2)) Fw5_1)) : z9_r0_s = 0 ∨ g9_r0_s ≠ b2))) Kw21 (tk1 ((pv_1 (A := (fun x => x ≠ b2)) Fw11_1 (pv_1 (A := (fun x => x ≠ b2)) f9_r0_s (pv_0 (A := (fun x => x ≠ b2)) Fw5_1))) : zy13 = 0 ∨ gy13 ≠ b2)))
            refine sd_ev rfl rfl rfl (ev_stM (cs' := TPunctured.cs (TPunctured.mk p0.Depth l22) vy13) (vs := TPunctured.cs (TPunctured.mk p0.Depth l22) vy13) (agg_76).siz rfl rfl rfl rfl (TPunctured.cs_ones _ _ (Own.oneB Ow21)) B62 rfl rfl) ?_
            rintro _ w22 ⟨Bw22, Mw22⟩
            have z63 := Mw22.size
            refine sd_vv rfl rfl rfl (vv_assign rfl) ?_
            refine sd_done ?_
            refine sw_ret ?_
            have B64 := (Own.md Ow21 Mw22 (tk1 ((pv_1 (A := (fun x => x ≠ b2)) Fw11_1 (pv_1 (A := (fun x => x ≠ b2)) f9_r0_s (pv_0 (A := (fun x => x ≠ b2)) Fw5_1))) : zy13 = 0 ∨ gy13 ≠ b2)))
            have X65 : Gr w w22 := (Gr.md (Gr.kz (Gr.kz X29 Kw11 (tk1 ((pv_1 (A := (fun x => w.heap.size ≤ x)) f9_r0_s (pv_0 (A := (fun x => w.heap.size ≤ x)) Fw5_1)) : z9_r0_s = 0 ∨ w.heap.size ≤ g9_r0_s))) Kw21 (tk1 ((pv_1 (A := (fun x => w.heap.size ≤ x)) Fw11_1 (pv_1 (A := (fun x => w.heap.size ≤ x)) f9_r0_s (pv_0 (A := (fun x => w.heap.size ≤ x)) Fw5_1))) : zy13 = 0 ∨ w.heap.size ≤ gy13))) Mw22)
            have hr := Option.some.inj hm
            subst hr
            refine ⟨_, _, rfl, res_2 rfl (rv_cellW agg_76 rfl Bw22 rfl) (rv_tmp rfl), ?_⟩
            exact ⟨vy13, zy13, gy13, rfl, B64, ⟨(pv_1 (A := (fun x => w.heap.size ≤ x)) Fw11_1 (pv_1 (A := (fun x => w.heap.size ≤ x)) f9_r0_s (pv_0 (A := (fun x => w.heap.size ≤ x)) Fw5_1)))⟩, X65⟩
    ·
      -- region 4 puncture.go:62 DRAWS
      refine sw_drawN [([])] [] (.fork [(0, 10), (1, 10), (2, 10), (3, 10)] (.leaf [(4, 0), (5, 10), (6, 0), (7, 0)]) (.leaf [(6, 0), (4, 0), (5, 10), (7, 0)])) (by kernel_rfl) (by kernel_rfl) rfl (by kernel_rfl) ?_
      intro w23 Gw23 zw23
      refine sdz_fork ?_
      refine dd_hn 0 rfl rfl rfl rfl (Kp.refl ([]) w23) (fun w hS => vv_fieldAddr fa_76_0 rfl) ?_
      have B66 := (Bx.gr (Bx.gr B6 Gw3) Gw23)
      refine dd_hn 0 rfl rfl rfl rfl (Kp.refl ([]) w23) (fun w hS => vv_load1 (v := .int .i64 p0.Depth) one_3 rfl (Bx.kp B66 hS) rfl) ?_
      refine dd_hn 0 rfl rfl rfl rfl (Kp.refl ([]) w23) (fun w hS => vv_fieldAddr fa_76_1 rfl) ?_
      refine dd_hn 0 rfl rfl rfl rfl (Kp.refl ([]) w23) (fun w hS => vv_load1 (v := vp0_1) one_29 rfl (Bx.kp B66 hS) rfl) ?_
      refine sd_fork ?_ ?_
      ·
        refine sdz_leaf ?_
        have B67 := (Rd.gr (Rd.gr B7 Gw3) Gw23)
        have hb := bnd hm; clear hm; obtain ⟨x23, hx23, hm⟩ := hb
        refine dd_z [] rfl rfl rfl (ev_call en_97 rfl (slices_Clone_109b_w p0.Labels _ _ _ _ _ hx23 _ B67)) ⟨fun _ => tk0, trivial⟩ ?_
        rintro u24_r0_s w24 ⟨_, z24_r0_s, g24_r0_s, rfl, O24_r0_s, f24_r0_s, Gw24⟩
        have z68 := Gw24.size
        have lt69 := O24_r0_s.lth
        refine ⟨Kz.ofGr Gw24, ?_⟩
        have S70 := (Kp.gr (Kp.refl ([]) w23) Gw24)
        refine dd_hn 0 rfl rfl rfl rfl S70 (fun w hS => vv_build (cs := TPunctured.cs (TPunctured.mk p0.Depth x23) u24_r0_s) bs_76 rfl (fill_M rfl rfl rfl (fill_1 rfl (Own.oneB O24_r0_s) rfl rfl))) ?_
        refine dd_z [] rfl rfl rfl (ev_alloc (cs := TPunctured.cs (TPunctured.mk 0 []) (.slice none 0 0)) zv_76 rfl) ⟨fun _ => tk0, trivial⟩ ?_
        rintro _ w25 ⟨b25, rfl, hbw25, Bw25, Gw25⟩
        have z71 := Gw25.size
        have lt72 := Bw25.lt
        refine ⟨Kz.ofGr Gw25, ?_⟩
        have B73 := (Own.gr O24_r0_s Gw25)
        refine dd_z [(1, b25)] rfl rfl rfl (ev_stM (cs' := TPunctured.cs (TPunctured.mk p0.Depth x23) u24_r0_s) (vs := TPunctured.cs (TPunctured.mk p0.Depth x23) u24_r0_s) (agg_76).siz rfl rfl rfl rfl (TPunctured.cs_ones _ _ (Own.oneB B73)) Bw25 rfl rfl) ⟨fun _ => tk0, trivial⟩ ?_
        rintro _ w26 ⟨Bw26, Mw26⟩
        have z74 := Mw26.size
        refine ⟨Kz.ofMd Mw26, ?_⟩
        refine sd_nil ?_
        have K_75 : Kz [] w3 w26 := (Kz.md (Kz.gr (Kz.gr (Kz.gr (Kz.refl _ _) Gw23) Gw24) Gw25) Mw26)
        have B76 := (Own.md B73 Mw26 (tk1 ((pv_lt (A := (fun x => x ≠ b25)) lt69) : z24_r0_s = 0 ∨ g24_r0_s ≠ b25)))
        refine ⟨rfl, ⟨x23, b25, u24_r0_s, z24_r0_s, g24_r0_s⟩, ?_, hm, B76, ⟨(pv_0 (A := (fun x => w3.heap.size ≤ x)) f24_r0_s)⟩, Bw26, (by omega), ⟨(pv_lt (A := (fun x => x ≠ b25)) lt69)⟩, K_75⟩
        repeat' first | exact trivial | refine ⟨rfl, ?_⟩
      ·
        refine sdz_leaf ?_
        refine dd_z [] rfl rfl rfl (ev_alloc (cs := TPunctured.cs (TPunctured.mk 0 []) (.slice none 0 0)) zv_76 rfl) ⟨fun _ => tk0, trivial⟩ ?_
        rintro _ w27 ⟨b27, rfl, hbw27, Bw27, Gw27⟩
        have z77 := Gw27.size
        have lt78 := Bw27.lt
        refine ⟨Kz.ofGr Gw27, ?_⟩
        have B79 := (Rd.gr (Rd.gr (Rd.gr B7 Gw3) Gw23) Gw27)
        have hb := bnd hm; clear hm; obtain ⟨x24, hx24, hm⟩ := hb
        refine dd_z [] rfl rfl rfl (ev_call en_97 rfl (slices_Clone_109b_w p0.Labels _ _ _ _ _ hx24 _ B79)) ⟨fun _ => tk0, trivial⟩ ?_
        rintro u28_r0_s w28 ⟨_, z28_r0_s, g28_r0_s, rfl, O28_r0_s, f28_r0_s, Gw28⟩
        have z80 := Gw28.size
        have lt81 := O28_r0_s.lth
        refine ⟨Kz.ofGr Gw28, ?_⟩
        have S82 := (Kp.gr (Kp.gr (Kp.refl ([]) w23) Gw27) Gw28)
        refine dd_hn 0 rfl rfl rfl rfl S82 (fun w hS => vv_build (cs := TPunctured.cs (TPunctured.mk p0.Depth x24) u28_r0_s) bs_76 rfl (fill_M rfl rfl rfl (fill_1 rfl (Own.oneB O28_r0_s) rfl rfl))) ?_
        have B83 := (Bx.gr Bw27 Gw28)
        refine dd_z [(1, b27)] rfl rfl rfl (ev_stM (cs' := TPunctured.cs (TPunctured.mk p0.Depth x24) u28_r0_s) (vs := TPunctured.cs (TPunctured.mk p0.Depth x24) u28_r0_s) (agg_76).siz rfl rfl rfl rfl (TPunctured.cs_ones _ _ (Own.oneB O28_r0_s)) B83 rfl rfl) ⟨fun _ => tk0, trivial⟩ ?_
        rintro _ w29 ⟨Bw29, Mw29⟩
        have z84 := Mw29.size
        refine ⟨Kz.ofMd Mw29, ?_⟩
        refine sd_nil ?_
        have K_85 : Kz [] w3 w29 := (Kz.md (Kz.gr (Kz.gr (Kz.gr (Kz.refl _ _) Gw23) Gw27) Gw28) Mw29)
        have B86 := (Own.md O28_r0_s Mw29 (tk1 ((pv_0 (A := (fun x => x ≠ b27)) f28_r0_s) : z28_r0_s = 0 ∨ g28_r0_s ≠ b27)))
        refine ⟨rfl, ⟨x24, b27, u28_r0_s, z28_r0_s, g28_r0_s⟩, ?_, hm, B86, ⟨(pv_0 (A := (fun x => w3.heap.size ≤ x)) f28_r0_s)⟩, Bw29, (by omega), ⟨(pv_0 (A := (fun x => x ≠ b27)) f28_r0_s)⟩, K_85⟩
        repeat' first | exact trivial | refine ⟨rfl, ?_⟩

set_option maxHeartbeats 2000000 in
theorem poly_Evaluate_w (p0 : TPunctured) (p1 : Int) (vp0_1 : Value) (zp0_1 gp0_1 op0_1 : Nat) (r : W2 × Int) (hm : poly_Evaluate p0 p1 = some r) (w : World) (hp0_1 : Rd w zp0_1 gp0_1 op0_1 18 vp0_1 (p0.Labels.map TLabel.cs))  :
    Calls Try.prog 46 [.agg (TPunctured.cs p0 vp0_1).toArray, .int .i64 p1].toArray w fun e w' => ∃ v, e = .returned v ∧ (v = .tuple [kv r.1, .int .i64 r.2].toArray ∧ Gr w w') := by
  have lt1 := hp0_1.lth
  unfold poly_Evaluate at hm
  refine calls_of_sw (R := fun v w' => v = .tuple [kv r.1, .int .i64 r.2].toArray ∧ Gr w w') 56 Try.func46 rfl rfl rfl ?_
  refine sw_seq ?_
  -- region 0 puncture.go:81
  refine sw_region [(0, 0), (1, 0), (2, 0)] rfl rfl rfl ?_
  refine sd_ev rfl rfl rfl (ev_box (cs := TPunctured.cs p0 vp0_1) rfl rfl) ?_
  rintro _ w1 ⟨b1, rfl, hbw1, Bw1, Gw1⟩
  have z2 := Gw1.size
  have lt3 := Bw1.lt
  refine sd_ev rfl rfl rfl (ev_alloc (cs := kb k0) zv_23 rfl) ?_
  rintro _ w2 ⟨b2, rfl, hbw2, Bw2, Gw2⟩
  have z4 := Gw2.size
  have lt5 := Bw2.lt
  refine sd_vv rfl rfl rfl (vv_assign rfl) ?_
  refine sd_done ?_
  refine sw_seq ?_
  -- region 1 puncture.go:82
  refine sw_region [(0, 0), (1, 0), (2, 0), (3, 0), (4, 0), (5, 0), (6, 0), (7, 0), (8, 0), (9, 0)] rfl rfl rfl ?_
  have B6 := (Bx.gr Bw1 Gw2)
  refine sd_vv rfl rfl rfl (vv_loadW agg_76 rfl B6 rfl) ?_
  refine sd_vv rfl rfl rfl (vv_move rfl) ?_
  have B7 := (Rd.gr (Rd.gr hp0_1 Gw1) Gw2)
  have hb := bnd hm; clear hm; obtain ⟨x1, hx1, hm⟩ := hb
  refine sd_ev rfl rfl rfl (ev_call en_96 rfl (poly_find_w p0 p1 _ _ _ _ _ hx1 _ B7)) ?_
  rintro _ w3 ⟨rfl, Gw3⟩
  have z8 := Gw3.size
  refine sd_vv rfl rfl rfl (vv_move rfl) ?_
  refine sd_vv rfl rfl rfl (vv_extract rfl rfl) ?_
  refine sd_vv rfl rfl rfl (vv_extract rfl rfl) ?_
  refine sd_vv rfl rfl rfl (vv_extract rfl rfl) ?_
  refine sd_vv rfl rfl rfl (vv_assign rfl) ?_
  refine sd_vv rfl rfl rfl (vv_assign rfl) ?_
  refine sd_vv rfl rfl rfl (vv_assign rfl) ?_
  refine sd_done ?_
  refine sw_seq ?_
  refine sw_block ?_
  refine sw_seq ?_
  -- region 2 puncture.go:84
  refine sw_region [(0, 0), (1, 0), (2, 0)] rfl rfl rfl ?_
  refine sd_vv rfl rfl rfl (vv_move rfl) ?_
  refine sd_vv rfl rfl rfl (vv_neq (a := x1.2.2) (b := 0) rfl rfl) ?_
  refine sd_vv rfl rfl rfl (vv_assign rfl) ?_
  refine sd_done ?_
  refine sw_cond rfl (fun c1 => ?_) (fun c1 => ?_)
  ·
    replace hm := ite_t (of_decide_eq_true c1) hm
    refine sw_seq ?_
    -- region 3 puncture.go:85
    refine sw_region [(0, 0), (1, 0), (2, 0), (3, 0)] rfl rfl rfl ?_
    refine sd_vv rfl rfl rfl (vv_buildZ bz_23) ?_
    refine sd_vv rfl rfl rfl (vv_move rfl) ?_
    have B9 := (Bx.gr Bw2 Gw3)
    refine sd_ev rfl rfl rfl (ev_stM (cs' := kb k0) (vs := kb k0) (agg_23).siz rfl rfl rfl rfl rfl B9 rfl rfl) ?_
    rintro _ w4 ⟨Bw4, Mw4⟩
    have z10 := Mw4.size
    refine sd_vv rfl rfl rfl (vv_assign rfl) ?_
    refine sd_done ?_
    refine sw_ret ?_
    refine block_r ?_
    refine then_r ?_
    have X11 : Gr w w4 := (Gr.md (Gr.trans (Gr.trans (Gr.trans (Gr.refl w) Gw1) Gw2) Gw3) Mw4)
    have hr := Option.some.inj hm
    subst hr
    refine ⟨_, _, rfl, res_2 rfl (rv_cellW agg_23 rfl Bw4 rfl) (rv_tmp rfl), ?_⟩
    exact ⟨rfl, X11⟩
  ·
    replace hm := ite_f (of_decide_eq_false c1) hm
    refine sw_seq ?_
    -- region 4 puncture.go:86
    refine sw_region [(0, 0), (1, 0), (2, 0)] rfl rfl rfl ?_
    refine sd_vv rfl rfl rfl (vv_move rfl) ?_
    refine sd_vv rfl rfl rfl (vv_lss (a := x1.2.1) (b := 0) rfl rfl) ?_
    refine sd_vv rfl rfl rfl (vv_assign rfl) ?_
    refine sd_done ?_
    refine sw_cond rfl (fun c2 => ?_) (fun c2 => ?_)
    ·
      replace hm := ite_t (of_decide_eq_true c2) hm
      refine sw_seq ?_
      -- region 5 puncture.go:87
      refine sw_region [(0, 0), (1, 0), (2, 0)] rfl rfl rfl ?_
      refine sd_vv rfl rfl rfl (vv_buildZ bz_23) ?_
      have B12 := (Bx.gr Bw2 Gw3)
      refine sd_ev rfl rfl rfl (ev_stM (cs' := kb k0) (vs := kb k0) (agg_23).siz rfl rfl rfl rfl rfl B12 rfl rfl) ?_
      rintro _ w5 ⟨Bw5, Mw5⟩
      have z13 := Mw5.size
      refine sd_vv rfl rfl rfl (vv_assign rfl) ?_
      refine sd_done ?_
      refine sw_ret ?_
      refine block_r ?_
      refine then_r ?_
      have X14 : Gr w w5 := (Gr.md (Gr.trans (Gr.trans (Gr.trans (Gr.refl w) Gw1) Gw2) Gw3) Mw5)
      have hr := Option.some.inj hm
      subst hr
      refine ⟨_, _, rfl, res_2 rfl (rv_cellW agg_23 rfl Bw5 rfl) (rv_tmp rfl), ?_⟩
      exact ⟨rfl, X14⟩
    ·
      replace hm := ite_f (of_decide_eq_false c2) hm
      refine sw_skip ?_
      refine block_n ?_
      refine then_n ?_
      refine sw_seq ?_
      -- region 6 puncture.go:89
      refine sw_region [(0, 0), (1, 0), (2, 0), (3, 0), (4, 0), (5, 0), (6, 0)] rfl rfl rfl ?_
      refine sd_vv rfl rfl rfl (vv_fieldAddr fa_76_1 rfl) ?_
      have B15 := (Bx.gr B6 Gw3)
      refine sd_vv rfl rfl rfl (vv_load1 (v := vp0_1) one_29 rfl B15 rfl) ?_
      refine sd_vv rfl rfl rfl (vv_move rfl) ?_
      have hb := bnd hm; clear hm; obtain ⟨y2, hy2, hm⟩ := hb
      have B16 := (Rd.gr B7 Gw3)
      refine sd_vv rfl rfl rfl (vv_ixT (i := x1.2.1) Try.underlying29 (agg_88).siz rfl B16 rfl hy2) ?_
      refine sd_vv rfl rfl rfl (vv_elWT agg_88 rfl B16 hy2 (by first | rfl | omega)) ?_
      refine sd_ev rfl rfl rfl (ev_alloc (cs := TLabel.cs (TLabel.mk 0 0 k0)) zv_88 rfl) ?_
      rintro _ w6 ⟨b6, rfl, hbw6, Bw6, Gw6⟩
      have z17 := Gw6.size
      have lt18 := Bw6.lt
      refine sd_ev rfl rfl rfl (ev_stM (cs' := TLabel.cs y2) (vs := TLabel.cs y2) (agg_88).siz rfl rfl rfl rfl rfl Bw6 rfl rfl) ?_
      rintro _ w7 ⟨Bw7, Mw7⟩
      have z19 := Mw7.size
      refine sd_done ?_
      refine sw_seq ?_
      refine sw_block ?_
      have X20 : Gr w w7 := (Gr.md (Gr.trans (Gr.trans (Gr.trans (Gr.trans (Gr.refl w) Gw1) Gw2) Gw3) Gw6) Mw7)
      have B21 := (Rd.md (Rd.gr B16 Gw6) Mw7 (tk1 ((pv_lt (A := (fun x => x ≠ b6)) lt1) : zp0_1 = 0 ∨ gp0_1 ≠ b6)))
      refine sw_loopD (α := Nat × Int × Int × W2) [10, 32, 33, 34, 35, 36, 37, 38, 39, 40, 41, 42, 43, 44, 45, 46, 47, 48, 49, 50, 51, 52] (fun ⟨n1, a6, a7, a8⟩ => []) (fun ⟨n1, a6, a7, a8⟩ wr => (fixN (poly_Evaluate_L1 x1) n1 (a6, a7, a8) = some r) ∧ Bx wr b6 88 (TLabel.cs (TLabel.mk a6 a7 a8)) ∧ Kz [(1, b6)] w7 wr) (fun ⟨n1, a6, a7, a8⟩ => n1) ⟨FUEL, y2.Node, y2.Minus, y2.Key⟩ ?_ ?_ ?_
      · repeat' first | exact trivial | refine ⟨rfl, ?_⟩
      · exact ⟨hm, Bw7, Kz.refl _ _⟩
      · clear hm; rintro ⟨n1, a6, a7, a8⟩ w8 ⟨hm, Fw8_0, Kw8⟩
        have z22 := Kw8.size
        have lt23 := Fw8_0.lt
        have hb := fix_succ hm; clear hm; obtain ⟨n1, rfl, hm⟩ := hb
        generalize hrec1 : fixN (poly_Evaluate_L1 x1) n1 = rec1 at hm
        unfold poly_Evaluate_L1 at hm
        try dsimp only at hm
        refine sw_seq ?_
        refine sw_seq ?_
        -- region 7 puncture.go:90
        refine sw_region [(0, 0), (1, 0), (2, 0), (3, 0)] rfl rfl rfl ?_
        refine sd_vv rfl rfl rfl (vv_fieldAddr fa_88_0 rfl) ?_
        refine sd_vv rfl rfl rfl (vv_load1 (v := .int .i64 a6) one_3 rfl Fw8_0 rfl) ?_
        refine sd_vv rfl rfl rfl (vv_move rfl) ?_
        refine sd_vv rfl rfl rfl (vv_neq (a := a6) (b := x1.1) rfl rfl) ?_
        refine sd_done ?_
        refine sw_cond rfl (fun c3 => ?_) (fun c3 => ?_)
        ·
          replace hm := ite_t (of_decide_eq_true c3) hm
          refine sw_skip ?_
          refine then_n ?_
          refine sw_block ?_
          refine sw_seq ?_
          -- region 8 puncture.go:91 DRAWS
          refine sw_drawN [([])] [] (.leaf [(0, 10), (1, 10), (2, 10), (4, 10), (5, 10), (6, 10), (3, 0), (7, 0), (8, 10), (9, 10), (10, 10), (11, 10)]) (by kernel_rfl) (by kernel_rfl) rfl (by kernel_rfl) ?_
          intro w9 Gw9 zw9
          refine sdz_leaf ?_
          refine dd_hn 0 rfl rfl rfl rfl (Kp.refl ([]) w9) (fun w hS => vv_move rfl) ?_
          refine dd_hn 0 rfl rfl rfl rfl (Kp.refl ([]) w9) (fun w hS => vv_move rfl) ?_
          refine dd_hn 0 rfl rfl rfl rfl (Kp.refl ([]) w9) (fun w hS => vv_cvIU cv_3_163 rfl) ?_
          refine dd_hn 0 rfl rfl rfl rfl (Kp.refl ([]) w9) (fun w hS => vv_fieldAddr fa_88_0 rfl) ?_
          have B24 := (Bx.gr Fw8_0 Gw9)
          refine dd_hn 0 rfl rfl rfl rfl (Kp.refl ([]) w9) (fun w hS => vv_load1 (v := .int .i64 a6) one_3 rfl (Bx.kp B24 hS) rfl) ?_
          refine dd_hn 0 rfl rfl rfl rfl (Kp.refl ([]) w9) (fun w hS => vv_cvIU cv_3_163 rfl) ?_
          refine dd_z [] rfl rfl rfl (ev_call en_107 rfl (len_c (un (wd x1.1)) (un_nonneg _) (by have := un_le (wd x1.1); omega) _)) ⟨fun _ => tk0, trivial⟩ ?_
          rintro _ w10 ⟨rfl, Gw10⟩
          have z25 := Gw10.size
          refine ⟨Kz.ofGr Gw10, ?_⟩
          refine dd_z [] rfl rfl rfl (ev_call en_107 rfl (len_c (un (wd a6)) (un_nonneg _) (by have := un_le (wd a6); omega) _)) ⟨fun _ => tk0, trivial⟩ ?_
          rintro _ w11 ⟨rfl, Gw11⟩
          have z26 := Gw11.size
          refine ⟨Kz.ofGr Gw11, ?_⟩
          have S27 := (Kp.gr (Kp.gr (Kp.refl ([]) w9) Gw10) Gw11)
          refine dd_hn 0 rfl rfl rfl rfl S27 (fun w hS => vv_sub (k := .i64) (a := lg (un (wd x1.1))) (b := lg (un (wd a6))) rfl rfl) ?_
          refine dd_hn 0 rfl rfl rfl rfl S27 (fun w hS => vv_sub (k := .i64) (a := w64 ((lg (un (wd x1.1))) - (lg (un (wd a6))))) (b := 1) rfl rfl) ?_
          have hb := bnd hm; clear hm; obtain ⟨n9, hn9, hm⟩ := hb
          refine dd_hn 0 rfl rfl rfl rfl S27 (fun w hS => vv_shrI (a := x1.1) (b := (w64 ((w64 ((lg (un (wd x1.1))) - (lg (un (wd a6))))) - 1))) rfl rfl hn9) ?_
          refine dd_hn 0 rfl rfl rfl rfl S27 (fun w hS => vv_assign rfl) ?_
          refine sd_done ?_
          -- region 9 puncture.go:92
          refine sw_region [(0, 0), (1, 0), (2, 0), (3, 0), (4, 0), (5, 0), (6, 0)] rfl rfl rfl ?_
          refine sd_vv rfl rfl rfl (vv_move rfl) ?_
          refine sd_vv rfl rfl rfl (vv_fieldAddr fa_88_2 rfl) ?_
          have B28 := (Bx.gr (Bx.gr B24 Gw10) Gw11)
          refine sd_vv rfl rfl rfl (vv_loadM (vs := kb a8) agg_23 rfl B28 rfl rfl) ?_
          refine sd_vv rfl rfl rfl (vv_move rfl) ?_
          have hb := bnd hm; clear hm; obtain ⟨x10, hx10, hm⟩ := hb
          refine sd_ev rfl rfl rfl (ev_call en_99 rfl (poly_next_w a8 (shrI x1.1 n9) _ hx10 _)) ?_
          rintro _ w12 ⟨rfl, Gw12⟩
          have z29 := Gw12.size
          refine sd_vv rfl rfl rfl (vv_build (cs := TLabel.cs (TLabel.mk (shrI x1.1 n9) 0 x10)) bs_88 rfl (fill_M rfl rfl rfl (fill_M rfl rfl rfl (by kernel_rfl)))) ?_
          have B30 := (Bx.gr B28 Gw12)
          refine sd_ev rfl rfl rfl (ev_stM (cs' := TLabel.cs (TLabel.mk (shrI x1.1 n9) 0 x10)) (vs := TLabel.cs (TLabel.mk (shrI x1.1 n9) 0 x10)) (agg_88).siz rfl rfl rfl rfl rfl B30 rfl rfl) ?_
          rintro _ w13 ⟨Bw13, Mw13⟩
          have z31 := Mw13.size
          refine sd_nil ?_
          refine block_n ?_
          have K_32 : Kz [(1, b6)] w7 w13 := (Kz.md (Kz.gr (Kz.gr (Kz.gr (Kz.gr Kw8 Gw9) Gw10) Gw11) Gw12) Mw13)
          subst hrec1
          refine ⟨rfl, ⟨n1, shrI x1.1 n9, 0, x10⟩, ?_, ⟨hm, Bw13, K_32⟩, Nat.lt_succ_self _⟩
          repeat' first | exact trivial | refine ⟨rfl, ?_⟩
        ·
          replace hm := ite_f (of_decide_eq_false c3) hm
          refine sw_exit ?_
          refine then_x ?_
          refine then_x ?_
          refine block_x ?_
          refine then_n ?_
          refine sw_seq ?_
          -- region 10 puncture.go:94
          refine sw_region [(0, 0), (1, 0), (2, 0), (3, 0), (4, 0)] rfl rfl rfl ?_
          refine sd_vv rfl rfl rfl (vv_fieldAddr fa_88_2 rfl) ?_
          refine sd_vv rfl rfl rfl (vv_loadM (vs := kb a8) agg_23 rfl Fw8_0 rfl rfl) ?_
          refine sd_ev rfl rfl rfl (ev_call en_52 rfl (derive_c a8 (un8 33#8) (un8_nn _) (un8_le _) 0#64 _)) ?_
          rintro _ w14 ⟨rfl, Gw14⟩
          have z33 := Gw14.size
          have B34 := (Bx.gr (Bx.kz (Bx.md (Bx.gr (Bx.gr Bw2 Gw3) Gw6) Mw7) Kw8) Gw14)
          refine sd_ev rfl rfl rfl (ev_stM (cs' := kb (drv a8 (un8 33#8) 0#64)) (vs := kb (drv a8 (un8 33#8) 0#64)) (agg_23).siz rfl rfl rfl rfl rfl B34 rfl (by obtain ⟨kk0, hk0⟩ := ex_of (drv a8 (un8 33#8) 0#64); rw [← hk0]; first | done | rfl)) ?_
          rintro _ w15 ⟨Bw15, Mw15⟩
          have z35 := Mw15.size
          refine sd_vv rfl rfl rfl (vv_assign rfl) ?_
          refine sd_done ?_
          refine sw_ret ?_
          have X36 : Gr w w15 := (Gr.md (Gr.trans (Gr.kz X20 Kw8) Gw14) Mw15)
          have hr := Option.some.inj hm
          subst hr
          refine ⟨_, _, rfl, res_2 rfl (rv_cellW agg_23 rfl Bw15 rfl) (rv_tmp rfl), ?_⟩
          exact ⟨rfl, X36⟩

set_option maxHeartbeats 2000000 in
theorem ref04_SamePunctured_w (p0 : TPunctured) (p1 : TPunctured) (vp0_1 : Value) (zp0_1 gp0_1 op0_1 : Nat) (vp1_1 : Value) (zp1_1 gp1_1 op1_1 : Nat) (r : Bool) (hm : ref04_SamePunctured p0 p1 = some r) (w : World) (hp0_1 : Rd w zp0_1 gp0_1 op0_1 18 vp0_1 (p0.Labels.map TLabel.cs)) (hp1_1 : Rd w zp1_1 gp1_1 op1_1 18 vp1_1 (p1.Labels.map TLabel.cs))  :
    Calls Try.prog 41 [.agg (TPunctured.cs p0 vp0_1).toArray, .agg (TPunctured.cs p1 vp1_1).toArray].toArray w fun e w' => ∃ v, e = .returned v ∧ (v = .bool r ∧ Gr w w') := by
  have lt1 := hp0_1.lth
  have lt2 := hp1_1.lth
  unfold ref04_SamePunctured at hm
  refine calls_of_sw (R := fun v w' => v = .bool r ∧ Gr w w') 38 Try.func41 rfl rfl rfl ?_
  refine sw_seq ?_
  -- region 0 ref.go:381
  refine sw_region [(0, 0), (1, 0), (2, 0)] rfl rfl rfl ?_
  refine sd_ev rfl rfl rfl (ev_box (cs := TPunctured.cs p0 vp0_1) rfl rfl) ?_
  rintro _ w1 ⟨b1, rfl, hbw1, Bw1, Gw1⟩
  have z3 := Gw1.size
  have lt4 := Bw1.lt
  refine sd_ev rfl rfl rfl (ev_box (cs := TPunctured.cs p1 vp1_1) rfl rfl) ?_
  rintro _ w2 ⟨b2, rfl, hbw2, Bw2, Gw2⟩
  have z5 := Gw2.size
  have lt6 := Bw2.lt
  refine sd_vv rfl rfl rfl (vv_assign rfl) ?_
  refine sd_done ?_
  refine sw_seq ?_
  have X7 : Gr w w2 := (Gr.trans (Gr.trans (Gr.refl w) Gw1) Gw2)
  refine sw_joinD (β := Bool) [6, 7, 8, 9, 10, 11, 12, 13, 14, 15, 16, 17, 18, 19] (fun a1 => [(19, .bool a1)]) (fun a1 wr => (ref04_SamePunctured_J1 p0 p1 a1 = some r) ∧ Kz [] w2 wr) ?_ ?_
  · clear hm; rintro a1 w3 ⟨hm, Kw3⟩
    have z8 := Kw3.size
    unfold ref04_SamePunctured_J1 at hm
    refine sw_cond rfl (fun c1 => ?_) (fun c1 => ?_)
    ·
      replace hm := cnd_t c1 hm
      refine sw_seq ?_
      -- region 2 ref.go:383
      refine sw_region [(0, 0)] rfl rfl rfl ?_
      refine sd_vv rfl rfl rfl (vv_assign rfl) ?_
      refine sd_done ?_
      refine sw_ret ?_
      refine then_r ?_
      have X9 : Gr w w3 := (Gr.kz X7 Kw3)
      have hr := Option.some.inj hm
      subst hr
      refine ⟨_, _, rfl, res_1 rfl (rv_tmp rfl), ?_⟩
      exact ⟨rfl, X9⟩
    ·
      replace hm := cnd_f c1 hm
      refine sw_skip ?_
      refine then_n ?_
      refine sw_seq ?_
      refine sw_seq ?_
      -- region 3 ref.go:385
      refine sw_region [(0, 0)] rfl rfl rfl ?_
      refine sd_vv rfl rfl rfl (vv_assign rfl) ?_
      refine sd_done ?_
      refine sw_block ?_
      have X10 : Gr w w3 := (Gr.kz X7 Kw3)
      have B11 := (Rd.kz (Rd.gr (Rd.gr hp0_1 Gw1) Gw2) Kw3)
      have B12 := (Rd.kz (Rd.gr (Rd.gr hp1_1 Gw1) Gw2) Kw3)
      refine sw_loopD (α := Nat × Int) [4, 5, 20, 21, 22, 23, 24, 25, 26, 27, 28, 29, 30, 31, 32, 33, 34, 35, 36, 37] (fun ⟨n2, a3⟩ => [(4, .bool false), (5, .int .i64 a3)]) (fun ⟨n2, a3⟩ wr => (fixN (ref04_SamePunctured_L2 p0 p1) n2 a3 = some r) ∧ Kz [] w3 wr) (fun ⟨n2, a3⟩ => n2) ⟨FUEL, 0⟩ ?_ ?_ ?_
      · repeat' first | exact trivial | refine ⟨rfl, ?_⟩
      · exact ⟨hm, Kz.refl _ _⟩
      · clear hm; rintro ⟨n2, a3⟩ w4 ⟨hm, Kw4⟩
        have z13 := Kw4.size
        have hb := fix_succ hm; clear hm; obtain ⟨n2, rfl, hm⟩ := hb
        generalize hrec2 : fixN (ref04_SamePunctured_L2 p0 p1) n2 = rec2 at hm
        unfold ref04_SamePunctured_L2 at hm
        try dsimp only at hm
        refine sw_seq ?_
        refine sw_seq ?_
        -- region 4 ref.go:385
        refine sw_region [(0, 0), (1, 0), (2, 0), (3, 0), (4, 0)] rfl rfl rfl ?_
        refine sd_vv rfl rfl rfl (vv_move rfl) ?_
        refine sd_vv rfl rfl rfl (vv_fieldAddr fa_76_1 rfl) ?_
        have B14 := (Bx.kz (Bx.kz (Bx.gr Bw1 Gw2) Kw3) Kw4)
        refine sd_vv rfl rfl rfl (vv_load1 (v := vp0_1) one_29 rfl B14 rfl) ?_
        have B15 := (Rd.kz B11 Kw4)
        refine sd_vv rfl rfl rfl (vv_lenT (l := p0.Labels) (c := TLabel.cs) Try.underlying29 rfl B15) ?_
        refine sd_vv rfl rfl rfl (vv_lss (a := a3) (b := (p0.Labels.length : Int)) rfl rfl) ?_
        refine sd_done ?_
        refine sw_cond rfl (fun c2 => ?_) (fun c2 => ?_)
        ·
          replace hm := ite_t (of_decide_eq_true c2) hm
          refine sw_skip ?_
          refine then_n ?_
          refine sw_seq ?_
          refine sw_block ?_
          refine sw_seq ?_
          -- region 6 ref.go:386 DRAWS
          refine sw_drawN [([])] [] (.leaf [(0, 10), (1, 10), (2, 10), (3, 10), (4, 10), (5, 10), (6, 10), (7, 10), (8, 10), (9, 10), (10, 10)]) (by kernel_rfl) (by kernel_rfl) rfl (by kernel_rfl) ?_
          intro w5 Gw5 zw5
          refine sdz_leaf ?_
          refine dd_hn 0 rfl rfl rfl rfl (Kp.refl ([]) w5) (fun w hS => vv_fieldAddr fa_76_1 rfl) ?_
          have B16 := (Bx.gr B14 Gw5)
          refine dd_hn 0 rfl rfl rfl rfl (Kp.refl ([]) w5) (fun w hS => vv_load1 (v := vp0_1) one_29 rfl (Bx.kp B16 hS) rfl) ?_
          refine dd_hn 0 rfl rfl rfl rfl (Kp.refl ([]) w5) (fun w hS => vv_move rfl) ?_
          have hb := bnd hm; clear hm; obtain ⟨y4, hy4, hm⟩ := hb
          have B17 := (Rd.gr B15 Gw5)
          refine dd_hn 0 rfl rfl rfl rfl (Kp.refl ([]) w5) (fun w hS => vv_ixT (i := a3) Try.underlying29 (agg_88).siz rfl (Rd.kp B17 hS) rfl hy4) ?_
          refine dd_hn 0 rfl rfl rfl rfl (Kp.refl ([]) w5) (fun w hS => vv_elWT agg_88 rfl (Rd.kp B17 hS) hy4 (by first | rfl | omega)) ?_
          refine dd_hn 0 rfl rfl rfl rfl (Kp.refl ([]) w5) (fun w hS => vv_fieldAddr fa_76_1 rfl) ?_
          have B18 := (Bx.gr (Bx.kz (Bx.kz Bw2 Kw3) Kw4) Gw5)
          refine dd_hn 0 rfl rfl rfl rfl (Kp.refl ([]) w5) (fun w hS => vv_load1 (v := vp1_1) one_29 rfl (Bx.kp B18 hS) rfl) ?_
          refine dd_hn 0 rfl rfl rfl rfl (Kp.refl ([]) w5) (fun w hS => vv_move rfl) ?_
          have hb := bnd hm; clear hm; obtain ⟨y5, hy5, hm⟩ := hb
          have B19 := (Rd.gr (Rd.kz B12 Kw4) Gw5)
          refine dd_hn 0 rfl rfl rfl rfl (Kp.refl ([]) w5) (fun w hS => vv_ixT (i := a3) Try.underlying29 (agg_88).siz rfl (Rd.kp B19 hS) rfl hy5) ?_
          refine dd_hn 0 rfl rfl rfl rfl (Kp.refl ([]) w5) (fun w hS => vv_elWT agg_88 rfl (Rd.kp B19 hS) hy5 (by first | rfl | omega)) ?_
          refine dd_hn 0 rfl rfl rfl rfl (Kp.refl ([]) w5) (fun w hS => vv_neqS (cf := TLabel.cs) (a := y4) (b := y5) eqt_88 rfl rfl rfl rfl (fun h => TLabel.cs_inj h)) ?_
          refine sd_done ?_
          refine sw_cond rfl (fun c3 => ?_) (fun c3 => ?_)
          ·
            replace hm := ite_t (of_decide_eq_true c3) hm
            refine sw_seq ?_
            -- region 7 ref.go:387
            refine sw_region [(0, 0)] rfl rfl rfl ?_
            refine sd_vv rfl rfl rfl (vv_assign rfl) ?_
            refine sd_done ?_
            refine sw_ret ?_
            refine block_r ?_
            refine then_r ?_
            refine then_r ?_
            refine block_r ?_
            refine then_r ?_
            have X20 : Gr w w5 := (Gr.trans (Gr.kz X10 Kw4) Gw5)
            have hr := Option.some.inj hm
            subst hr
            refine ⟨_, _, rfl, res_1 rfl (rv_tmp rfl), ?_⟩
            exact ⟨rfl, X20⟩
          ·
            replace hm := ite_f (of_decide_eq_false c3) hm
            refine sw_skip ?_
            refine block_n ?_
            refine then_n ?_
            -- region 5 ref.go:385
            refine sw_region [(0, 0), (1, 0), (2, 0)] rfl rfl rfl ?_
            refine sd_vv rfl rfl rfl (vv_move rfl) ?_
            refine sd_vv rfl rfl rfl (vv_add (k := .i64) (a := a3) (b := 1) rfl rfl) ?_
            refine sd_vv rfl rfl rfl (vv_assign rfl) ?_
            refine sd_nil ?_
            have K_21 : Kz [] w3 w5 := (Kz.gr Kw4 Gw5)
            subst hrec2
            refine ⟨rfl, ⟨n2, w64 (a3 + 1)⟩, ?_, ⟨hm, K_21⟩, Nat.lt_succ_self _⟩
            repeat' first | exact trivial | refine ⟨rfl, ?_⟩
        ·
          replace hm := ite_f (of_decide_eq_false c2) hm
          refine sw_exit ?_
          refine then_x ?_
          refine then_x ?_
          refine block_x ?_
          refine then_n ?_
          refine sw_seq ?_
          -- region 8 ref.go:390
          refine sw_region [(0, 0)] rfl rfl rfl ?_
          refine sd_vv rfl rfl rfl (vv_assign rfl) ?_
          refine sd_done ?_
          refine sw_ret ?_
          have X22 : Gr w w4 := (Gr.kz X10 Kw4)
          have hr := Option.some.inj hm
          subst hr
          refine ⟨_, _, rfl, res_1 rfl (rv_tmp rfl), ?_⟩
          exact ⟨rfl, X22⟩
  ·
    -- region 1 ref.go:382
    refine sw_region [(0, 0), (1, 0), (2, 0), (3, 0), (4, 0), (5, 0), (6, 0), (7, 0), (8, 0), (9, 0), (10, 0), (11, 0), (12, 0), (13, 0)] rfl rfl rfl ?_
    refine sd_vv rfl rfl rfl (vv_fieldAddr fa_76_0 rfl) ?_
    have B23 := (Bx.gr Bw1 Gw2)
    refine sd_vv rfl rfl rfl (vv_load1 (v := .int .i64 p0.Depth) one_3 rfl B23 rfl) ?_
    refine sd_vv rfl rfl rfl (vv_fieldAddr fa_76_0 rfl) ?_
    refine sd_vv rfl rfl rfl (vv_load1 (v := .int .i64 p1.Depth) one_3 rfl Bw2 rfl) ?_
    refine sd_vv rfl rfl rfl (vv_neq (a := p0.Depth) (b := p1.Depth) rfl rfl) ?_
    refine sd_split rfl rfl rfl (vv_move rfl) (fun c4 => ?_) (fun c4 => ?_)
    ·
      replace hm := ite_t (of_decide_eq_true c4) hm
      refine sd_skip rfl rfl rfl ?_
      refine sd_skip rfl rfl rfl ?_
      refine sd_skip rfl rfl rfl ?_
      refine sd_skip rfl rfl rfl ?_
      refine sd_skip rfl rfl rfl ?_
      refine sd_skip rfl rfl rfl ?_
      refine sd_skip rfl rfl rfl ?_
      refine sd_vv rfl rfl rfl (vv_pickT rfl rfl) ?_
      refine sd_nil ?_
      have K_24 : Kz [] w2 w2 := (Kz.refl _ _)
      refine ⟨rfl, true, ?_, hm, K_24⟩
      repeat' first | exact trivial | refine ⟨rfl, ?_⟩
    ·
      replace hm := ite_f (of_decide_eq_false c4) hm
      refine sd_vv rfl rfl rfl (vv_fieldAddr fa_76_1 rfl) ?_
      refine sd_vv rfl rfl rfl (vv_load1 (v := vp0_1) one_29 rfl B23 rfl) ?_
      have B25 := (Rd.gr (Rd.gr hp0_1 Gw1) Gw2)
      refine sd_vv rfl rfl rfl (vv_lenT (l := p0.Labels) (c := TLabel.cs) Try.underlying29 rfl B25) ?_
      refine sd_vv rfl rfl rfl (vv_fieldAddr fa_76_1 rfl) ?_
      refine sd_vv rfl rfl rfl (vv_load1 (v := vp1_1) one_29 rfl Bw2 rfl) ?_
      have B26 := (Rd.gr (Rd.gr hp1_1 Gw1) Gw2)
      refine sd_vv rfl rfl rfl (vv_lenT (l := p1.Labels) (c := TLabel.cs) Try.underlying29 rfl B26) ?_
      refine sd_vv rfl rfl rfl (vv_neq (a := (p0.Labels.length : Int)) (b := (p1.Labels.length : Int)) rfl rfl) ?_
      refine sd_vv rfl rfl rfl (vv_pickF rfl rfl) ?_
      refine sd_nil ?_
      have K_27 : Kz [] w2 w2 := (Kz.refl _ _)
      refine ⟨rfl, (decide ((p0.Labels.length : Int) ≠ (p1.Labels.length : Int))), ?_, hm, K_27⟩
      repeat' first | exact trivial | refine ⟨rfl, ?_⟩

set_option maxHeartbeats 2000000 in
theorem ref03_Receivers_w (p0 : Int)  (r : Int) (hm : ref03_Receivers p0 = some r) (w : World)   :
    Calls Try.prog 66 [.int .i64 p0].toArray w fun e w' => ∃ v, e = .returned v ∧ (v = .int .i64 r ∧ Gr w w') := by
  unfold ref03_Receivers at hm
  refine calls_of_sw (R := fun v w' => v = .int .i64 r ∧ Gr w w') 13 Try.func66 rfl rfl rfl ?_
  refine sw_seq ?_
  -- region 0 ref.go:42
  refine sw_region [(0, 0)] rfl rfl rfl ?_
  refine sd_vv rfl rfl rfl (vv_assign rfl) ?_
  refine sd_done ?_
  refine sw_seq ?_
  -- region 1 ref.go:43
  refine sw_region [(0, 0)] rfl rfl rfl ?_
  refine sd_vv rfl rfl rfl (vv_assign rfl) ?_
  refine sd_done ?_
  refine sw_seq ?_
  refine sw_seq ?_
  -- region 2 ref.go:44
  refine sw_region [(0, 0)] rfl rfl rfl ?_
  refine sd_vv rfl rfl rfl (vv_assign rfl) ?_
  refine sd_done ?_
  refine sw_block ?_
  refine sw_loopD (α := Nat × Int × Int) [3, 4, 5, 6, 7, 8, 9, 10, 11] (fun ⟨n1, a3, a4⟩ => [(3, .int .i64 a3), (4, .int .i64 a4)]) (fun ⟨n1, a3, a4⟩ wr => (fixN (ref03_Receivers_L1 p0) n1 (a3, a4) = some r) ∧ Kz [] w wr) (fun ⟨n1, a3, a4⟩ => n1) ⟨FUEL, 1, 0⟩ ?_ ?_ ?_
  · repeat' first | exact trivial | refine ⟨rfl, ?_⟩
  · exact ⟨hm, Kz.refl _ _⟩
  · clear hm; rintro ⟨n1, a3, a4⟩ w1 ⟨hm, Kw1⟩
    have z1 := Kw1.size
    have hb := fix_succ hm; clear hm; obtain ⟨n1, rfl, hm⟩ := hb
    generalize hrec1 : fixN (ref03_Receivers_L1 p0) n1 = rec1 at hm
    unfold ref03_Receivers_L1 at hm
    try dsimp only at hm
    refine sw_seq ?_
    refine sw_seq ?_
    -- region 3 ref.go:44
    refine sw_region [(0, 0), (1, 0), (2, 0)] rfl rfl rfl ?_
    refine sd_vv rfl rfl rfl (vv_move rfl) ?_
    refine sd_vv rfl rfl rfl (vv_move rfl) ?_
    refine sd_vv rfl rfl rfl (vv_lss (a := a4) (b := p0) rfl rfl) ?_
    refine sd_done ?_
    refine sw_cond rfl (fun c1 => ?_) (fun c1 => ?_)
    ·
      replace hm := ite_t (of_decide_eq_true c1) hm
      refine sw_skip ?_
      refine then_n ?_
      refine sw_seq ?_
      refine sw_block ?_
      -- region 5 ref.go:45
      refine sw_region [(0, 0), (1, 0), (2, 0)] rfl rfl rfl ?_
      refine sd_vv rfl rfl rfl (vv_move rfl) ?_
      refine sd_vv rfl rfl rfl (vv_mul (k := .i64) (a := 2) (b := a3) rfl rfl) ?_
      refine sd_vv rfl rfl rfl (vv_assign rfl) ?_
      refine sd_nil ?_
      refine block_n ?_
      refine then_n ?_
      -- region 4 ref.go:44
      refine sw_region [(0, 0), (1, 0), (2, 0)] rfl rfl rfl ?_
      refine sd_vv rfl rfl rfl (vv_move rfl) ?_
      refine sd_vv rfl rfl rfl (vv_add (k := .i64) (a := a4) (b := 1) rfl rfl) ?_
      refine sd_vv rfl rfl rfl (vv_assign rfl) ?_
      refine sd_nil ?_
      have K_2 : Kz [] w w1 := Kw1
      subst hrec1
      refine ⟨rfl, ⟨n1, w64 (2 * a3), w64 (a4 + 1)⟩, ?_, ⟨hm, K_2⟩, Nat.lt_succ_self _⟩
      repeat' first | exact trivial | refine ⟨rfl, ?_⟩
    ·
      replace hm := ite_f (of_decide_eq_false c1) hm
      refine sw_exit ?_
      refine then_x ?_
      refine then_x ?_
      refine block_x ?_
      refine then_n ?_
      refine sw_seq ?_
      -- region 6 ref.go:47
      refine sw_region [(0, 0), (1, 0)] rfl rfl rfl ?_
      refine sd_vv rfl rfl rfl (vv_move rfl) ?_
      refine sd_vv rfl rfl rfl (vv_assign rfl) ?_
      refine sd_done ?_
      refine sw_ret ?_
      have X3 : Gr w w1 := (Gr.kz (Gr.refl w) Kw1)
      have hr := Option.some.inj hm
      subst hr
      refine ⟨_, _, rfl, res_1 rfl (rv_tmp rfl), ?_⟩
      exact ⟨rfl, X3⟩

set_option maxHeartbeats 2000000 in
theorem ref03_Node_w (p0 : Int) (p1 : Int)  (r : Bool) (hm : ref03_Node p0 p1 = some r) (w : World)   :
    Calls Try.prog 110 [.int .i64 p0, .int .i64 p1].toArray w fun e w' => ∃ v, e = .returned v ∧ (v = .bool r ∧ Gr w w') := by
  unfold ref03_Node at hm
  refine calls_of_sw (R := fun v w' => v = .bool r ∧ Gr w w') 14 Try.func110 rfl rfl rfl ?_
  refine sw_seq ?_
  -- region 0 ref.go:51
  refine sw_region [(0, 0)] rfl rfl rfl ?_
  refine sd_vv rfl rfl rfl (vv_assign rfl) ?_
  refine sd_done ?_
  refine sw_seq ?_
  -- region 1 ref.go:51
  refine sw_region [(0, 0), (1, 0), (2, 0), (3, 0), (4, 0), (5, 0), (6, 0), (7, 0), (8, 0), (9, 0)] rfl rfl rfl ?_
  refine sd_vv rfl rfl rfl (vv_move rfl) ?_
  refine sd_vv rfl rfl rfl (vv_geq (a := p1) (b := 1) rfl rfl) ?_
  refine sd_split rfl rfl rfl (vv_move rfl) (fun c1 => ?_) (fun c1 => ?_)
  ·
    replace hm := ite_t (of_decide_eq_true c1) hm
    refine sd_vv rfl rfl rfl (vv_move rfl) ?_
    refine sd_vv rfl rfl rfl (vv_move rfl) ?_
    have hb := bnd hm; clear hm; obtain ⟨x1, hx1, hm⟩ := hb
    refine sd_ev rfl rfl rfl (ev_call en_66 rfl (ref03_Receivers_w p0 _ hx1 _)) ?_
    rintro _ w1 ⟨rfl, Gw1⟩
    have z1 := Gw1.size
    refine sd_vv rfl rfl rfl (vv_mul (k := .i64) (a := 2) (b := x1) rfl rfl) ?_
    refine sd_vv rfl rfl rfl (vv_lss (a := p1) (b := w64 (2 * x1)) rfl rfl) ?_
    refine sd_vv rfl rfl rfl (vv_pickT rfl rfl) ?_
    refine sd_vv rfl rfl rfl (vv_assign rfl) ?_
    refine sd_done ?_
    refine sw_ret ?_
    have X2 : Gr w w1 := (Gr.trans (Gr.refl w) Gw1)
    have hr := Option.some.inj hm
    subst hr
    refine ⟨_, _, rfl, res_1 rfl (rv_tmp rfl), ?_⟩
    exact ⟨rfl, X2⟩
  ·
    replace hm := ite_f (of_decide_eq_false c1) hm
    refine sd_skip rfl rfl rfl ?_
    refine sd_skip rfl rfl rfl ?_
    refine sd_skip rfl rfl rfl ?_
    refine sd_skip rfl rfl rfl ?_
    refine sd_skip rfl rfl rfl ?_
    refine sd_vv rfl rfl rfl (vv_pickF rfl rfl) ?_
    refine sd_vv rfl rfl rfl (vv_assign rfl) ?_
    refine sd_done ?_
    refine sw_ret ?_
    have hr := Option.some.inj hm
    subst hr
    refine ⟨_, _, rfl, res_1 rfl (rv_tmp rfl), ?_⟩
    exact ⟨rfl, (Gr.refl w)⟩

set_option maxHeartbeats 2000000 in
theorem ref03_Below_w (p0 : Int) (p1 : Int)  (r : Bool) (hm : ref03_Below p0 p1 = some r) (w : World)   :
    Calls Try.prog 103 [.int .i64 p0, .int .i64 p1].toArray w fun e w' => ∃ v, e = .returned v ∧ (v = .bool r ∧ Gr w w') := by
  unfold ref03_Below at hm
  refine calls_of_sw (R := fun v w' => v = .bool r ∧ Gr w w') 13 Try.func103 rfl rfl rfl ?_
  refine sw_seq ?_
  -- region 0 ref.go:64
  refine sw_region [(0, 0)] rfl rfl rfl ?_
  refine sd_vv rfl rfl rfl (vv_assign rfl) ?_
  refine sd_done ?_
  refine sw_seq ?_
  refine sw_block ?_
  refine sw_loopD (α := Nat × Int) [0, 5, 6, 7, 8, 9] (fun ⟨n1, a2⟩ => [(0, .int .i64 a2)]) (fun ⟨n1, a2⟩ wr => (fixN (ref03_Below_L1 p1) n1 a2 = some r) ∧ Kz [] w wr) (fun ⟨n1, a2⟩ => n1) ⟨FUEL, p0⟩ ?_ ?_ ?_
  · repeat' first | exact trivial | refine ⟨rfl, ?_⟩
  · exact ⟨hm, Kz.refl _ _⟩
  · clear hm; rintro ⟨n1, a2⟩ w1 ⟨hm, Kw1⟩
    have z1 := Kw1.size
    have hb := fix_succ hm; clear hm; obtain ⟨n1, rfl, hm⟩ := hb
    generalize hrec1 : fixN (ref03_Below_L1 p1) n1 = rec1 at hm
    unfold ref03_Below_L1 at hm
    try dsimp only at hm
    refine sw_seq ?_
    refine sw_seq ?_
    -- region 1 ref.go:65
    refine sw_region [(0, 0), (1, 0), (2, 0)] rfl rfl rfl ?_
    refine sd_vv rfl rfl rfl (vv_move rfl) ?_
    refine sd_vv rfl rfl rfl (vv_move rfl) ?_
    refine sd_vv rfl rfl rfl (vv_gtr (a := a2) (b := p1) rfl rfl) ?_
    refine sd_done ?_
    refine sw_cond rfl (fun c1 => ?_) (fun c1 => ?_)
    ·
      replace hm := ite_t (of_decide_eq_true c1) hm
      refine sw_skip ?_
      refine then_n ?_
      refine sw_block ?_
      -- region 2 ref.go:66
      refine sw_region [(0, 0), (1, 0), (2, 0)] rfl rfl rfl ?_
      refine sd_vv rfl rfl rfl (vv_move rfl) ?_
      have hb := bnd hm; clear hm; obtain ⟨x3, hx3, hm⟩ := hb
      refine sd_vv rfl rfl rfl (vv_quoI (a := a2) (b := 2) rfl rfl hx3) ?_
      refine sd_vv rfl rfl rfl (vv_assign rfl) ?_
      refine sd_nil ?_
      refine block_n ?_
      have K_2 : Kz [] w w1 := Kw1
      subst hrec1
      refine ⟨rfl, ⟨n1, x3⟩, ?_, ⟨hm, K_2⟩, Nat.lt_succ_self _⟩
      repeat' first | exact trivial | refine ⟨rfl, ?_⟩
    ·
      replace hm := ite_f (of_decide_eq_false c1) hm
      refine sw_exit ?_
      refine then_x ?_
      refine then_x ?_
      refine block_x ?_
      refine then_n ?_
      refine sw_seq ?_
      -- region 3 ref.go:68
      refine sw_region [(0, 0), (1, 0), (2, 0), (3, 0)] rfl rfl rfl ?_
      refine sd_vv rfl rfl rfl (vv_move rfl) ?_
      refine sd_vv rfl rfl rfl (vv_move rfl) ?_
      refine sd_vv rfl rfl rfl (vv_eql (a := a2) (b := p1) rfl rfl) ?_
      refine sd_vv rfl rfl rfl (vv_assign rfl) ?_
      refine sd_done ?_
      refine sw_ret ?_
      have X3 : Gr w w1 := (Gr.kz (Gr.refl w) Kw1)
      have hr := Option.some.inj hm
      subst hr
      refine ⟨_, _, rfl, res_1 rfl (rv_tmp rfl), ?_⟩
      exact ⟨rfl, X3⟩

set_option maxHeartbeats 2000000 in
theorem ref04_ValidPunctured_w (p0 : TPunctured) (vp0_1 : Value) (zp0_1 gp0_1 op0_1 : Nat) (r : Bool) (hm : ref04_ValidPunctured p0 = some r) (w : World) (hp0_1 : Rd w zp0_1 gp0_1 op0_1 18 vp0_1 (p0.Labels.map TLabel.cs))  :
    Calls Try.prog 60 [.agg (TPunctured.cs p0 vp0_1).toArray].toArray w fun e w' => ∃ v, e = .returned v ∧ (v = .bool r ∧ Gr w w') := by
  have lt1 := hp0_1.lth
  unfold ref04_ValidPunctured at hm
  refine calls_of_sw (R := fun v w' => v = .bool r ∧ Gr w w') 64 Try.func60 rfl rfl rfl ?_
  refine sw_seq ?_
  -- region 0 ref.go:278
  refine sw_region [(0, 0), (1, 0)] rfl rfl rfl ?_
  refine sd_ev rfl rfl rfl (ev_box (cs := TPunctured.cs p0 vp0_1) rfl rfl) ?_
  rintro _ w1 ⟨b1, rfl, hbw1, Bw1, Gw1⟩
  have z2 := Gw1.size
  have lt3 := Bw1.lt
  refine sd_vv rfl rfl rfl (vv_assign rfl) ?_
  refine sd_done ?_
  refine sw_seq ?_
  have X4 : Gr w w1 := (Gr.trans (Gr.refl w) Gw1)
  refine sw_joinD (β := Bool) [6, 7, 8, 9, 10, 11, 12, 13] (fun a1 => [(13, .bool a1)]) (fun a1 wr => (ref04_ValidPunctured_J1 p0 a1 = some r) ∧ Kz [] w1 wr) ?_ ?_
  · clear hm; rintro a1 w2 ⟨hm, Kw2⟩
    have z5 := Kw2.size
    unfold ref04_ValidPunctured_J1 at hm
    refine sw_cond rfl (fun c1 => ?_) (fun c1 => ?_)
    ·
      replace hm := cnd_t c1 hm
      refine sw_seq ?_
      -- region 2 ref.go:280
      refine sw_region [(0, 0)] rfl rfl rfl ?_
      refine sd_vv rfl rfl rfl (vv_assign rfl) ?_
      refine sd_done ?_
      refine sw_ret ?_
      refine then_r ?_
      have X6 : Gr w w2 := (Gr.kz X4 Kw2)
      have hr := Option.some.inj hm
      subst hr
      refine ⟨_, _, rfl, res_1 rfl (rv_tmp rfl), ?_⟩
      exact ⟨rfl, X6⟩
    ·
      replace hm := cnd_f c1 hm
      refine sw_skip ?_
      refine then_n ?_
      refine sw_seq ?_
      refine sw_seq ?_
      -- region 3 ref.go:282
      refine sw_region [(0, 0)] rfl rfl rfl ?_
      refine sd_vv rfl rfl rfl (vv_assign rfl) ?_
      refine sd_done ?_
      refine sw_block ?_
      have X7 : Gr w w2 := (Gr.kz X4 Kw2)
      have B8 := (Rd.kz (Rd.gr hp0_1 Gw1) Kw2)
      refine sw_loopD (α := Nat × Int) [2, 3, 4, 5, 14, 15, 16, 17, 18, 19, 20, 21, 22, 23, 24, 25, 26, 27, 28, 29, 30, 31, 32, 33, 34, 35, 36, 37, 38, 39, 40, 41, 42, 43, 44, 45, 46, 47, 48, 49, 50, 51, 52, 53, 54, 55, 56, 57, 58, 59, 60, 61, 62, 63] (fun ⟨n2, a3⟩ => [(2, .bool false), (3, .int .i64 a3)]) (fun ⟨n2, a3⟩ wr => (fixN (ref04_ValidPunctured_L2 p0) n2 a3 = some r) ∧ Kz [] w2 wr) (fun ⟨n2, a3⟩ => n2) ⟨FUEL, 0⟩ ?_ ?_ ?_
      · repeat' first | exact trivial | refine ⟨rfl, ?_⟩
      · exact ⟨hm, Kz.refl _ _⟩
      · clear hm; rintro ⟨n2, a3⟩ w3 ⟨hm, Kw3⟩
        have z9 := Kw3.size
        have hb := fix_succ hm; clear hm; obtain ⟨n2, rfl, hm⟩ := hb
        generalize hrec2 : fixN (ref04_ValidPunctured_L2 p0) n2 = rec2 at hm
        unfold ref04_ValidPunctured_L2 at hm
        try dsimp only at hm
        refine sw_seq ?_
        refine sw_seq ?_
        -- region 4 ref.go:282
        refine sw_region [(0, 0), (1, 0), (2, 0), (3, 0), (4, 0)] rfl rfl rfl ?_
        refine sd_vv rfl rfl rfl (vv_move rfl) ?_
        refine sd_vv rfl rfl rfl (vv_fieldAddr fa_76_1 rfl) ?_
        have B10 := (Bx.kz (Bx.kz Bw1 Kw2) Kw3)
        refine sd_vv rfl rfl rfl (vv_load1 (v := vp0_1) one_29 rfl B10 rfl) ?_
        have B11 := (Rd.kz B8 Kw3)
        refine sd_vv rfl rfl rfl (vv_lenT (l := p0.Labels) (c := TLabel.cs) Try.underlying29 rfl B11) ?_
        refine sd_vv rfl rfl rfl (vv_lss (a := a3) (b := (p0.Labels.length : Int)) rfl rfl) ?_
        refine sd_done ?_
        refine sw_cond rfl (fun c2 => ?_) (fun c2 => ?_)
        ·
          replace hm := ite_t (of_decide_eq_true c2) hm
          refine sw_skip ?_
          refine then_n ?_
          refine sw_seq ?_
          refine sw_block ?_
          refine sw_seq ?_
          -- region 6 ref.go:283
          refine sw_region [(0, 0), (1, 0), (2, 0), (3, 0), (4, 0), (5, 0), (6, 0)] rfl rfl rfl ?_
          refine sd_vv rfl rfl rfl (vv_fieldAddr fa_76_1 rfl) ?_
          refine sd_vv rfl rfl rfl (vv_load1 (v := vp0_1) one_29 rfl B10 rfl) ?_
          refine sd_vv rfl rfl rfl (vv_move rfl) ?_
          have hb := bnd hm; clear hm; obtain ⟨y4, hy4, hm⟩ := hb
          refine sd_vv rfl rfl rfl (vv_ixT (i := a3) Try.underlying29 (agg_88).siz rfl B11 rfl hy4) ?_
          refine sd_vv rfl rfl rfl (vv_fieldAddr fa_88_0 rfl) ?_
          refine sd_vv rfl rfl rfl (vv_el1T (q := 0) (u := .int .i64 y4.Node) one_3 rfl B11 hy4 (by first | rfl | omega) rfl) ?_
          refine sd_vv rfl rfl rfl (vv_assign rfl) ?_
          refine sd_done ?_
          refine sw_seq ?_
          have X12 : Gr w w3 := (Gr.kz X7 Kw3)
          refine sw_joinD (β := Bool) [27, 28, 29, 30, 31, 32, 33, 34, 35, 36, 37, 38, 39, 40] (fun a5 => [(40, .bool a5)]) (fun a5 wr => (ref04_ValidPunctured_J3 p0 a3 rec2 y4 a5 = some r) ∧ Kz [] w3 wr) ?_ ?_
          · clear hm; rintro a5 w4 ⟨hm, Kw4⟩
            have z13 := Kw4.size
            unfold ref04_ValidPunctured_J3 at hm
            refine sw_cond rfl (fun c3 => ?_) (fun c3 => ?_)
            ·
              replace hm := cnd_t c3 hm
              refine sw_seq ?_
              -- region 8 ref.go:285
              refine sw_region [(0, 0)] rfl rfl rfl ?_
              refine sd_vv rfl rfl rfl (vv_assign rfl) ?_
              refine sd_done ?_
              refine sw_ret ?_
              refine then_r ?_
              refine block_r ?_
              refine then_r ?_
              refine then_r ?_
              refine block_r ?_
              refine then_r ?_
              have X14 : Gr w w4 := (Gr.kz X12 Kw4)
              have hr := Option.some.inj hm
              subst hr
              refine ⟨_, _, rfl, res_1 rfl (rv_tmp rfl), ?_⟩
              exact ⟨rfl, X14⟩
            ·
              replace hm := cnd_f c3 hm
              refine sw_skip ?_
              refine then_n ?_
              refine sw_seq ?_
              -- region 9 ref.go:287
              refine sw_region [(0, 0)] rfl rfl rfl ?_
              refine sd_vv rfl rfl rfl (vv_assign rfl) ?_
              refine sd_done ?_
              refine sw_block ?_
              have X15 : Gr w w4 := (Gr.kz X12 Kw4)
              have B16 := (Rd.kz B11 Kw4)
              refine sw_loopD (α := Nat × Int) [2, 5, 41, 42, 43, 44, 45, 46, 47, 48, 49, 50, 51, 52, 53, 54, 55, 56, 57, 58, 59, 60, 61, 62, 63] (fun ⟨n4, a7⟩ => [(2, .bool false), (5, .int .i64 a7)]) (fun ⟨n4, a7⟩ wr => (fixN (ref04_ValidPunctured_L4 p0 a3 rec2 y4) n4 a7 = some r) ∧ Kz [] w4 wr) (fun ⟨n4, a7⟩ => n4) ⟨FUEL, 0⟩ ?_ ?_ ?_
              · repeat' first | exact trivial | refine ⟨rfl, ?_⟩
              · exact ⟨hm, Kz.refl _ _⟩
              · clear hm; rintro ⟨n4, a7⟩ w5 ⟨hm, Kw5⟩
                have z17 := Kw5.size
                have hb := fix_succ hm; clear hm; obtain ⟨n4, rfl, hm⟩ := hb
                generalize hrec4 : fixN (ref04_ValidPunctured_L4 p0 a3 rec2 y4) n4 = rec4 at hm
                unfold ref04_ValidPunctured_L4 at hm
                try dsimp only at hm
                refine sw_seq ?_
                refine sw_seq ?_
                -- region 10 ref.go:287
                refine sw_region [(0, 0), (1, 0), (2, 0)] rfl rfl rfl ?_
                refine sd_vv rfl rfl rfl (vv_move rfl) ?_
                refine sd_vv rfl rfl rfl (vv_move rfl) ?_
                refine sd_vv rfl rfl rfl (vv_lss (a := a7) (b := a3) rfl rfl) ?_
                refine sd_done ?_
                refine sw_cond rfl (fun c4 => ?_) (fun c4 => ?_)
                ·
                  replace hm := ite_t (of_decide_eq_true c4) hm
                  refine sw_skip ?_
                  refine then_n ?_
                  refine sw_seq ?_
                  refine sw_block ?_
                  have X18 : Gr w w5 := (Gr.kz X15 Kw5)
                  refine sw_joinD (β := Bool) [46, 47, 48, 49, 50, 51, 52, 53, 54, 55, 56, 57, 58, 59, 60, 61, 62, 63] (fun a8 => [(63, .bool a8)]) (fun a8 wr => (ref04_ValidPunctured_J5 a7 rec4 a8 = some r) ∧ Kz [] w5 wr) ?_ ?_
                  · clear hm; rintro a8 w6 ⟨hm, Kw6⟩
                    have z19 := Kw6.size
                    unfold ref04_ValidPunctured_J5 at hm
                    refine sw_cond rfl (fun c5 => ?_) (fun c5 => ?_)
                    ·
                      replace hm := cnd_t c5 hm
                      refine sw_seq ?_
                      -- region 13 ref.go:289
                      refine sw_region [(0, 0)] rfl rfl rfl ?_
                      refine sd_vv rfl rfl rfl (vv_assign rfl) ?_
                      refine sd_done ?_
                      refine sw_ret ?_
                      refine block_r ?_
                      refine then_r ?_
                      refine then_r ?_
                      refine block_r ?_
                      refine block_r ?_
                      refine then_r ?_
                      refine then_r ?_
                      refine block_r ?_
                      refine then_r ?_
                      have X20 : Gr w w6 := (Gr.kz X18 Kw6)
                      have hr := Option.some.inj hm
                      subst hr
                      refine ⟨_, _, rfl, res_1 rfl (rv_tmp rfl), ?_⟩
                      exact ⟨rfl, X20⟩
                    ·
                      replace hm := cnd_f c5 hm
                      refine sw_skip ?_
                      refine block_n ?_
                      refine then_n ?_
                      -- region 11 ref.go:287
                      refine sw_region [(0, 0), (1, 0), (2, 0)] rfl rfl rfl ?_
                      refine sd_vv rfl rfl rfl (vv_move rfl) ?_
                      refine sd_vv rfl rfl rfl (vv_add (k := .i64) (a := a7) (b := 1) rfl rfl) ?_
                      refine sd_vv rfl rfl rfl (vv_assign rfl) ?_
                      refine sd_nil ?_
                      have K_21 : Kz [] w4 w6 := (Kz.kz Kw5 Kw6)
                      subst hrec4
                      refine ⟨rfl, ⟨n4, w64 (a7 + 1)⟩, ?_, ⟨hm, K_21⟩, Nat.lt_succ_self _⟩
                      repeat' first | exact trivial | refine ⟨rfl, ?_⟩
                  ·
                    -- region 12 ref.go:288
                    refine sw_region [(0, 0), (1, 0), (2, 0), (3, 0), (4, 0), (5, 0), (6, 0), (7, 0), (8, 0), (9, 0), (10, 0), (11, 0), (12, 0), (13, 0), (14, 0), (15, 0), (16, 0), (17, 0)] rfl rfl rfl ?_
                    refine sd_vv rfl rfl rfl (vv_fieldAddr fa_76_1 rfl) ?_
                    have B22 := (Bx.kz (Bx.kz B10 Kw4) Kw5)
                    refine sd_vv rfl rfl rfl (vv_load1 (v := vp0_1) one_29 rfl B22 rfl) ?_
                    refine sd_vv rfl rfl rfl (vv_move rfl) ?_
                    have hb := bnd hm; clear hm; obtain ⟨y9, hy9, hm⟩ := hb
                    have B23 := (Rd.kz B16 Kw5)
                    refine sd_vv rfl rfl rfl (vv_ixT (i := a7) Try.underlying29 (agg_88).siz rfl B23 rfl hy9) ?_
                    refine sd_vv rfl rfl rfl (vv_fieldAddr fa_88_0 rfl) ?_
                    refine sd_vv rfl rfl rfl (vv_el1T (q := 0) (u := .int .i64 y9.Node) one_3 rfl B23 hy9 (by first | rfl | omega) rfl) ?_
                    refine sd_vv rfl rfl rfl (vv_move rfl) ?_
                    refine sd_vv rfl rfl rfl (vv_geq (a := y9.Node) (b := y4.Node) rfl rfl) ?_
                    refine sd_split rfl rfl rfl (vv_move rfl) (fun c6 => ?_) (fun c6 => ?_)
                    ·
                      replace hm := ite_t (of_decide_eq_true c6) hm
                      refine sd_skip rfl rfl rfl ?_
                      refine sd_skip rfl rfl rfl ?_
                      refine sd_skip rfl rfl rfl ?_
                      refine sd_skip rfl rfl rfl ?_
                      refine sd_skip rfl rfl rfl ?_
                      refine sd_skip rfl rfl rfl ?_
                      refine sd_skip rfl rfl rfl ?_
                      refine sd_skip rfl rfl rfl ?_
                      refine sd_vv rfl rfl rfl (vv_pickT rfl rfl) ?_
                      refine sd_nil ?_
                      have K_24 : Kz [] w5 w5 := (Kz.refl _ _)
                      refine ⟨rfl, true, ?_, hm, K_24⟩
                      repeat' first | exact trivial | refine ⟨rfl, ?_⟩
                    ·
                      replace hm := ite_f (of_decide_eq_false c6) hm
                      refine sd_vv rfl rfl rfl (vv_move rfl) ?_
                      refine sd_vv rfl rfl rfl (vv_fieldAddr fa_76_1 rfl) ?_
                      refine sd_vv rfl rfl rfl (vv_load1 (v := vp0_1) one_29 rfl B22 rfl) ?_
                      refine sd_vv rfl rfl rfl (vv_move rfl) ?_
                      have hb := bnd hm; clear hm; obtain ⟨y10, hy10, hm⟩ := hb
                      refine sd_vv rfl rfl rfl (vv_ixT (i := a7) Try.underlying29 (agg_88).siz rfl B23 rfl hy10) ?_
                      refine sd_vv rfl rfl rfl (vv_fieldAddr fa_88_0 rfl) ?_
                      refine sd_vv rfl rfl rfl (vv_el1T (q := 0) (u := .int .i64 y10.Node) one_3 rfl B23 hy10 (by first | rfl | omega) rfl) ?_
                      have hb := bnd hm; clear hm; obtain ⟨x11, hx11, hm⟩ := hb
                      refine sd_ev rfl rfl rfl (ev_call en_103 rfl (ref03_Below_w y4.Node y10.Node _ hx11 _)) ?_
                      rintro _ w7 ⟨rfl, Gw7⟩
                      have z25 := Gw7.size
                      refine sd_vv rfl rfl rfl (vv_pickF rfl rfl) ?_
                      refine sd_nil ?_
                      have K_26 : Kz [] w5 w7 := (Kz.gr (Kz.refl _ _) Gw7)
                      refine ⟨rfl, x11, ?_, hm, K_26⟩
                      repeat' first | exact trivial | refine ⟨rfl, ?_⟩
                ·
                  replace hm := ite_f (of_decide_eq_false c4) hm
                  refine sw_exit ?_
                  refine then_x ?_
                  refine then_x ?_
                  refine block_x ?_
                  refine block_n ?_
                  refine then_n ?_
                  -- region 5 ref.go:282
                  refine sw_region [(0, 0), (1, 0), (2, 0)] rfl rfl rfl ?_
                  refine sd_vv rfl rfl rfl (vv_move rfl) ?_
                  refine sd_vv rfl rfl rfl (vv_add (k := .i64) (a := a3) (b := 1) rfl rfl) ?_
                  refine sd_vv rfl rfl rfl (vv_assign rfl) ?_
                  refine sd_nil ?_
                  have K_27 : Kz [] w2 w5 := (Kz.kz (Kz.kz Kw3 Kw4) Kw5)
                  subst hrec2
                  refine ⟨rfl, ⟨n2, w64 (a3 + 1)⟩, ?_, ⟨hm, K_27⟩, Nat.lt_succ_self _⟩
                  repeat' first | exact trivial | refine ⟨rfl, ?_⟩
          ·
            -- region 7 ref.go:284
            refine sw_region [(0, 0), (1, 0), (2, 0), (3, 0), (4, 0), (5, 0), (6, 0), (7, 0), (8, 0), (9, 0), (10, 0), (11, 0), (12, 0), (13, 0)] rfl rfl rfl ?_
            refine sd_vv rfl rfl rfl (vv_fieldAddr fa_76_0 rfl) ?_
            refine sd_vv rfl rfl rfl (vv_load1 (v := .int .i64 p0.Depth) one_3 rfl B10 rfl) ?_
            refine sd_vv rfl rfl rfl (vv_move rfl) ?_
            have hb := bnd hm; clear hm; obtain ⟨x12, hx12, hm⟩ := hb
            refine sd_ev rfl rfl rfl (ev_call en_110 rfl (ref03_Node_w p0.Depth y4.Node _ hx12 _)) ?_
            rintro _ w8 ⟨rfl, Gw8⟩
            have z28 := Gw8.size
            refine sd_vv rfl rfl rfl (vv_not rfl) ?_
            refine sd_split rfl rfl rfl (vv_move rfl) (fun c7 => ?_) (fun c7 => ?_)
            ·
              replace hm := cnd_t c7 hm
              refine sd_skip rfl rfl rfl ?_
              refine sd_skip rfl rfl rfl ?_
              refine sd_skip rfl rfl rfl ?_
              refine sd_skip rfl rfl rfl ?_
              refine sd_skip rfl rfl rfl ?_
              refine sd_skip rfl rfl rfl ?_
              refine sd_skip rfl rfl rfl ?_
              refine sd_vv rfl rfl rfl (vv_pickT rfl rfl) ?_
              refine sd_nil ?_
              have K_29 : Kz [] w3 w8 := (Kz.gr (Kz.refl _ _) Gw8)
              refine ⟨rfl, true, ?_, hm, K_29⟩
              repeat' first | exact trivial | refine ⟨rfl, ?_⟩
            ·
              replace hm := cnd_f c7 hm
              refine sd_vv rfl rfl rfl (vv_fieldAddr fa_76_1 rfl) ?_
              have B30 := (Bx.gr B10 Gw8)
              refine sd_vv rfl rfl rfl (vv_load1 (v := vp0_1) one_29 rfl B30 rfl) ?_
              refine sd_vv rfl rfl rfl (vv_move rfl) ?_
              have hb := bnd hm; clear hm; obtain ⟨y13, hy13, hm⟩ := hb
              have B31 := (Rd.gr B11 Gw8)
              refine sd_vv rfl rfl rfl (vv_ixT (i := a3) Try.underlying29 (agg_88).siz rfl B31 rfl hy13) ?_
              refine sd_vv rfl rfl rfl (vv_fieldAddr fa_88_1 rfl) ?_
              refine sd_vv rfl rfl rfl (vv_el1T (q := 1) (u := .int .i64 y13.Minus) one_3 rfl B31 hy13 (by first | rfl | omega) rfl) ?_
              refine sd_vv rfl rfl rfl (vv_neq (a := y13.Minus) (b := 0) rfl rfl) ?_
              refine sd_vv rfl rfl rfl (vv_pickF rfl rfl) ?_
              refine sd_nil ?_
              have K_32 : Kz [] w3 w8 := (Kz.gr (Kz.refl _ _) Gw8)
              refine ⟨rfl, (decide (y13.Minus ≠ 0)), ?_, hm, K_32⟩
              repeat' first | exact trivial | refine ⟨rfl, ?_⟩
        ·
          replace hm := ite_f (of_decide_eq_false c2) hm
          refine sw_exit ?_
          refine then_x ?_
          refine then_x ?_
          refine block_x ?_
          refine then_n ?_
          refine sw_seq ?_
          -- region 14 ref.go:293
          refine sw_region [(0, 0)] rfl rfl rfl ?_
          refine sd_vv rfl rfl rfl (vv_assign rfl) ?_
          refine sd_done ?_
          refine sw_ret ?_
          have X33 : Gr w w3 := (Gr.kz X7 Kw3)
          have hr := Option.some.inj hm
          subst hr
          refine ⟨_, _, rfl, res_1 rfl (rv_tmp rfl), ?_⟩
          exact ⟨rfl, X33⟩
  ·
    -- region 1 ref.go:279
    refine sw_region [(0, 0), (1, 0), (2, 0), (3, 0), (4, 0), (5, 0), (6, 0), (7, 0)] rfl rfl rfl ?_
    refine sd_vv rfl rfl rfl (vv_fieldAddr fa_76_0 rfl) ?_
    refine sd_vv rfl rfl rfl (vv_load1 (v := .int .i64 p0.Depth) one_3 rfl Bw1 rfl) ?_
    refine sd_vv rfl rfl rfl (vv_lss (a := p0.Depth) (b := 0) rfl rfl) ?_
    refine sd_split rfl rfl rfl (vv_move rfl) (fun c8 => ?_) (fun c8 => ?_)
    ·
      replace hm := ite_t (of_decide_eq_true c8) hm
      refine sd_skip rfl rfl rfl ?_
      refine sd_skip rfl rfl rfl ?_
      refine sd_skip rfl rfl rfl ?_
      refine sd_vv rfl rfl rfl (vv_pickT rfl rfl) ?_
      refine sd_nil ?_
      have K_34 : Kz [] w1 w1 := (Kz.refl _ _)
      refine ⟨rfl, true, ?_, hm, K_34⟩
      repeat' first | exact trivial | refine ⟨rfl, ?_⟩
    ·
      replace hm := ite_f (of_decide_eq_false c8) hm
      refine sd_vv rfl rfl rfl (vv_fieldAddr fa_76_0 rfl) ?_
      refine sd_vv rfl rfl rfl (vv_load1 (v := .int .i64 p0.Depth) one_3 rfl Bw1 rfl) ?_
      refine sd_vv rfl rfl rfl (vv_gtr (a := p0.Depth) (b := 6) rfl rfl) ?_
      refine sd_vv rfl rfl rfl (vv_pickF rfl rfl) ?_
      refine sd_nil ?_
      have K_35 : Kz [] w1 w1 := (Kz.refl _ _)
      refine ⟨rfl, (decide ((6 : Int) < p0.Depth)), ?_, hm, K_35⟩
      repeat' first | exact trivial | refine ⟨rfl, ?_⟩
end Go.Proofs.Ytkdghilkigojgaa.Mx
