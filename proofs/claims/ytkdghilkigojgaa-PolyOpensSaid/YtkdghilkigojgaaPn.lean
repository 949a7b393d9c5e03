/- Walks that follow mirrors: Pn. Printed by mx.py. -/
import Derived.Test.YtkdghilkigojgaaPc
import Derived.Test.YtkdghilkigojgaaPnM
set_option linter.unusedVariables false
set_option linter.unusedSimpArgs false
set_option maxRecDepth 100000
namespace Go.Proofs.Ytkdghilkigojgaa.Mx
open Go Go.RowKit Go.Sx
theorem en_25 : En Try.prog 25 := fun _ _ => by kernel_rfl
theorem en_26 : En Try.prog 26 := fun _ _ => by kernel_rfl
theorem en_27 : En Try.prog 27 := fun _ _ => by kernel_rfl
theorem en_28 : En Try.prog 28 := fun _ _ => by kernel_rfl
theorem en_20 : En Try.prog 20 := fun _ _ => by kernel_rfl
theorem en_23 : En Try.prog 23 := fun _ _ => by kernel_rfl

set_option maxHeartbeats 2000000 in
theorem law04_PolyOpens_w (p0 : TScheme) (p1 : TSecret) (p2 : THeader) (vp1_1 : Value) (zp1_1 gp1_1 op1_1 : Nat) (vp2_0 : Value) (zp2_0 gp2_0 op2_0 : Nat) (vp2_2 : Value) (zp2_2 gp2_2 op2_2 : Nat) (r : Bool) (hm : law04_PolyOpens p0 p1 p2 = some r) (w : World) (hp1_1 : Rd w zp1_1 gp1_1 op1_1 18 vp1_1 (p1.Labels.map TLabel.cs)) (hp2_0 : Rd w zp2_0 gp2_0 op2_0 18 vp2_0 (p2.Items.map TItem.cs)) (hp2_2 : Rd w zp2_2 gp2_2 op2_2 2 vp2_2 (p2.Points.map TPoint.cs))  :
    Calls Try.prog 5 [.agg (TScheme.cs p0).toArray, .agg (TSecret.cs p1 vp1_1).toArray, .agg (THeader.cs p2 vp2_0 vp2_2).toArray].toArray w fun e w' => ∃ v, e = .returned v ∧ (v = .bool r ∧ Gr w w') := by
  have lt1 := hp1_1.lth
  have lt2 := hp2_0.lth
  have lt3 := hp2_2.lth
  unfold law04_PolyOpens at hm
  refine calls_of_sw (R := fun v w' => v = .bool r ∧ Gr w w') 49 Try.func5 rfl rfl rfl ?_
  refine sw_seq ?_
  -- region 0 law.go:54
  refine sw_region [(0, 0), (1, 0), (2, 0), (3, 0)] rfl rfl rfl ?_
  refine sd_ev rfl rfl rfl (ev_box (cs := TScheme.cs p0) rfl rfl) ?_
  rintro _ w1 ⟨b1, rfl, hbw1, Bw1, Gw1⟩
  have z4 := Gw1.size
  have lt5 := Bw1.lt
  refine sd_ev rfl rfl rfl (ev_box (cs := TSecret.cs p1 vp1_1) rfl rfl) ?_
  rintro _ w2 ⟨b2, rfl, hbw2, Bw2, Gw2⟩
  have z6 := Gw2.size
  have lt7 := Bw2.lt
  refine sd_ev rfl rfl rfl (ev_box (cs := THeader.cs p2 vp2_0 vp2_2) rfl rfl) ?_
  rintro _ w3 ⟨b3, rfl, hbw3, Bw3, Gw3⟩
  have z8 := Gw3.size
  have lt9 := Bw3.lt
  refine sd_vv rfl rfl rfl (vv_assign rfl) ?_
  refine sd_done ?_
  have X10 : Gr w w3 := (Gr.trans (Gr.trans (Gr.trans (Gr.refl w) Gw1) Gw2) Gw3)
  refine sw_joinD (β := TSecret × THeader × Nat × Value × Nat × Nat × Nat × Value × Nat × Nat × Value × Nat × Nat) [7, 8, 13, 14, 15, 16] (fun ⟨a2, a5, bq1, vy3, zy3, gy3, bq4, vy6, zy6, gy6, vy7, zy7, gy7⟩ => [(7, .pointer (some ⟨bq1, 0, none⟩)), (8, .pointer (some ⟨bq4, 0, none⟩))]) (fun ⟨a2, a5, bq1, vy3, zy3, gy3, bq4, vy6, zy6, gy6, vy7, zy7, gy7⟩ wr => (law04_PolyOpens_J1 p0 p1 p2 a2 a5 = some r) ∧ Own wr zy3 gy3 88 18 vy3 (a2.Labels.map TLabel.cs) ∧ Hdn (zy3 = 0 ∨ w3.heap.size ≤ gy3) ∧ Bx wr bq1 33 (TSecret.cs a2 vy3) ∧ w3.heap.size ≤ bq1 ∧ Own wr zy6 gy6 131 18 vy6 (a5.Items.map TItem.cs) ∧ Hdn (zy6 = 0 ∨ w3.heap.size ≤ gy6) ∧ Own wr zy7 gy7 31 2 vy7 (a5.Points.map TPoint.cs) ∧ Hdn (zy7 = 0 ∨ w3.heap.size ≤ gy7) ∧ Bx wr bq4 45 (THeader.cs a5 vy6 vy7) ∧ w3.heap.size ≤ bq4 ∧ Hdn (zy6 = 0 ∨ zy3 = 0 ∨ gy6 ≠ gy3) ∧ Hdn (zy7 = 0 ∨ zy3 = 0 ∨ gy7 ≠ gy3) ∧ Hdn (zy7 = 0 ∨ zy6 = 0 ∨ gy7 ≠ gy6) ∧ Hdn (zy3 = 0 ∨ gy3 ≠ bq1) ∧ Hdn (zy6 = 0 ∨ gy6 ≠ bq1) ∧ Hdn (zy7 = 0 ∨ gy7 ≠ bq1) ∧ bq4 ≠ bq1 ∧ Hdn (zy3 = 0 ∨ gy3 ≠ bq4) ∧ Hdn (zy6 = 0 ∨ gy6 ≠ bq4) ∧ Hdn (zy7 = 0 ∨ gy7 ≠ bq4) ∧ Kz [] w3 wr) ?_ ?_
  · clear hm; rintro ⟨a2, a5, bq1, vy3, zy3, gy3, bq4, vy6, zy6, gy6, vy7, zy7, gy7⟩ w4 ⟨hm, Fw4_0, Fw4_1, Fw4_2, Fw4_3, Fw4_4, Fw4_5, Fw4_6, Fw4_7, Fw4_8, Fw4_9, Fw4_10, Fw4_11, Fw4_12, Fw4_13, Fw4_14, Fw4_15, Fw4_16, Fw4_17, Fw4_18, Fw4_19, Kw4⟩
    have z11 := Kw4.size
    have lt12 := Fw4_0.lth
    have lt13 := Fw4_2.lt
    have lt14 := Fw4_4.lth
    have lt15 := Fw4_6.lth
    have lt16 := Fw4_8.lt
    unfold law04_PolyOpens_J1 at hm
    refine sw_seq ?_
    -- region 2 law.go:56
    refine sw_region [(0, 0), (1, 0), (2, 0), (3, 0), (4, 0), (5, 0), (6, 0), (7, 0), (8, 0), (9, 0)] rfl rfl rfl ?_
    have B17 := (Bx.kz (Bx.gr (Bx.gr Bw1 Gw2) Gw3) Kw4)
    refine sd_vv rfl rfl rfl (vv_loadW agg_28 rfl B17 rfl) ?_
    refine sd_vv rfl rfl rfl (vv_loadW agg_33 rfl Fw4_2 rfl) ?_
    refine sd_vv rfl rfl rfl (vv_loadW agg_45 rfl Fw4_8 rfl) ?_
    have hb := bnd hm; clear hm; obtain ⟨x8, hx8, hm⟩ := hb
    refine sd_ev rfl rfl rfl (ev_call en_27 rfl (poly_Open_w p0 a2 a5 _ _ _ _ _ _ _ _ _ _ _ _ _ hx8 _ (Own.rd Fw4_0) (Own.rd Fw4_4) (Own.rd Fw4_6))) ?_
    rintro _ w5 ⟨rfl, Gw5⟩
    have z18 := Gw5.size
    refine sd_vv rfl rfl rfl (vv_move rfl) ?_
    refine sd_vv rfl rfl rfl (vv_extract rfl rfl) ?_
    refine sd_vv rfl rfl rfl (vv_extract rfl rfl) ?_
    refine sd_ev rfl rfl rfl (ev_alloc (cs := kb k0) zv_23 rfl) ?_
    rintro _ w6 ⟨b6, rfl, hbw6, Bw6, Gw6⟩
    have z19 := Gw6.size
    have lt20 := Bw6.lt
    refine sd_ev rfl rfl rfl (ev_stM (cs' := kb x8.1) (vs := kb x8.1) (agg_23).siz rfl rfl rfl rfl rfl Bw6 rfl rfl) ?_
    rintro _ w7 ⟨Bw7, Mw7⟩
    have z21 := Mw7.size
    refine sd_vv rfl rfl rfl (vv_assign rfl) ?_
    refine sd_done ?_
    refine sw_seq ?_
    -- region 3 law.go:57
    refine sw_region [(0, 0), (1, 0), (2, 0), (3, 0), (4, 0), (5, 0), (6, 0), (7, 0), (8, 0), (9, 0)] rfl rfl rfl ?_
    have B22 := (Bx.md (Bx.gr (Bx.gr B17 Gw5) Gw6) Mw7)
    refine sd_vv rfl rfl rfl (vv_loadW agg_28 rfl B22 rfl) ?_
    have B23 := (Bx.md (Bx.gr (Bx.gr (Bx.kz (Bx.gr Bw2 Gw3) Kw4) Gw5) Gw6) Mw7)
    refine sd_vv rfl rfl rfl (vv_loadW agg_33 rfl B23 rfl) ?_
    have B24 := (Bx.md (Bx.gr (Bx.gr (Bx.kz Bw3 Kw4) Gw5) Gw6) Mw7)
    refine sd_vv rfl rfl rfl (vv_loadW agg_45 rfl B24 rfl) ?_
    have B25 := (Rd.md (Rd.gr (Rd.gr (Rd.kz (Rd.gr (Rd.gr (Rd.gr hp1_1 Gw1) Gw2) Gw3) Kw4) Gw5) Gw6) Mw7 (tk1 ((pv_lt (A := (fun x => x ≠ b6)) lt1) : zp1_1 = 0 ∨ gp1_1 ≠ b6)))
    have B26 := (Rd.md (Rd.gr (Rd.gr (Rd.kz (Rd.gr (Rd.gr (Rd.gr hp2_0 Gw1) Gw2) Gw3) Kw4) Gw5) Gw6) Mw7 (tk1 ((pv_lt (A := (fun x => x ≠ b6)) lt2) : zp2_0 = 0 ∨ gp2_0 ≠ b6)))
    have B27 := (Rd.md (Rd.gr (Rd.gr (Rd.kz (Rd.gr (Rd.gr (Rd.gr hp2_2 Gw1) Gw2) Gw3) Kw4) Gw5) Gw6) Mw7 (tk1 ((pv_lt (A := (fun x => x ≠ b6)) lt3) : zp2_2 = 0 ∨ gp2_2 ≠ b6)))
    have hb := bnd hm; clear hm; obtain ⟨x9, hx9, hm⟩ := hb
    refine sd_ev rfl rfl rfl (ev_call en_28 rfl (ref04_Open_w p0 p1 p2 _ _ _ _ _ _ _ _ _ _ _ _ _ hx9 _ B25 B26 B27)) ?_
    rintro _ w8 ⟨rfl, Gw8⟩
    have z28 := Gw8.size
    refine sd_vv rfl rfl rfl (vv_move rfl) ?_
    refine sd_vv rfl rfl rfl (vv_extract rfl rfl) ?_
    refine sd_vv rfl rfl rfl (vv_extract rfl rfl) ?_
    refine sd_ev rfl rfl rfl (ev_alloc (cs := kb k0) zv_23 rfl) ?_
    rintro _ w9 ⟨b9, rfl, hbw9, Bw9, Gw9⟩
    have z29 := Gw9.size
    have lt30 := Bw9.lt
    refine sd_ev rfl rfl rfl (ev_stM (cs' := kb x9.1) (vs := kb x9.1) (agg_23).siz rfl rfl rfl rfl rfl Bw9 rfl rfl) ?_
    rintro _ w10 ⟨Bw10, Mw10⟩
    have z31 := Mw10.size
    refine sd_vv rfl rfl rfl (vv_assign rfl) ?_
    refine sd_done ?_
    refine sw_seq ?_
    -- region 4 law.go:58
    refine sw_region [(0, 0), (1, 0), (2, 0), (3, 0), (4, 0), (5, 0), (6, 0), (7, 0), (8, 0), (9, 0), (10, 0), (11, 0), (12, 0), (13, 0), (14, 0), (15, 0), (16, 0), (17, 0), (18, 0)] rfl rfl rfl ?_
    have B32 := (Bx.md (Bx.gr (Bx.gr Bw7 Gw8) Gw9) Mw10)
    refine sd_vv rfl rfl rfl (vv_loadW agg_23 rfl B32 rfl) ?_
    refine sd_vv rfl rfl rfl (vv_loadW agg_23 rfl Bw10 rfl) ?_
    refine sd_vv rfl rfl rfl (vv_eqlS (cf := kb) (a := x8.1) (b := x9.1) eqt_23 rfl rfl rfl rfl (fun h => kb_inj h)) ?_
    refine sd_split rfl rfl rfl (vv_move rfl) (fun c1 => ?_) (fun c1 => ?_)
    ·
      replace hm := ite_t (of_decide_eq_true c1) hm
      refine sd_vv rfl rfl rfl (vv_move rfl) ?_
      refine sd_vv rfl rfl rfl (vv_move rfl) ?_
      refine sd_vv rfl rfl rfl (vv_eql (a := x8.2) (b := x9.2) rfl rfl) ?_
      refine sd_vv rfl rfl rfl (vv_pickT rfl rfl) ?_
      refine sd_split rfl rfl rfl (vv_move rfl) (fun c2 => ?_) (fun c2 => ?_)
      ·
        replace hm := ite_t (of_decide_eq_true c2) hm
        have B33 := (Bx.md (Bx.gr (Bx.gr (Bx.md (Bx.gr (Bx.gr Fw4_2 Gw5) Gw6) Mw7) Gw8) Gw9) Mw10)
        refine sd_vv rfl rfl rfl (vv_loadW agg_33 rfl B33 rfl) ?_
        have B34 := (Bx.md (Bx.gr (Bx.gr B23 Gw8) Gw9) Mw10)
        refine sd_vv rfl rfl rfl (vv_loadW agg_33 rfl B34 rfl) ?_
        have B35 := (Own.md (Own.gr (Own.gr (Own.md (Own.gr (Own.gr Fw4_0 Gw5) Gw6) Mw7 (tk1 ((pv_lt (A := (fun x => x ≠ b6)) lt12) : zy3 = 0 ∨ gy3 ≠ b6))) Gw8) Gw9) Mw10 (tk1 ((pv_lt (A := (fun x => x ≠ b9)) lt12) : zy3 = 0 ∨ gy3 ≠ b9)))
        have B36 := (Rd.md (Rd.gr (Rd.gr B25 Gw8) Gw9) Mw10 (tk1 ((pv_lt (A := (fun x => x ≠ b9)) lt1) : zp1_1 = 0 ∨ gp1_1 ≠ b9)))
        have hb := bnd hm; clear hm; obtain ⟨x10, hx10, hm⟩ := hb
        refine sd_ev rfl rfl rfl (ev_call en_20 rfl (ref03_SameSecret_w a2 p1 _ _ _ _ _ _ _ _ _ hx10 _ (Own.rd B35) B36)) ?_
        rintro _ w11 ⟨rfl, Gw11⟩
        have z37 := Gw11.size
        refine sd_vv rfl rfl rfl (vv_pickT rfl rfl) ?_
        refine sd_split rfl rfl rfl (vv_move rfl) (fun c3 => ?_) (fun c3 => ?_)
        ·
          replace hm := cnd_t c3 hm
          have B38 := (Bx.gr (Bx.md (Bx.gr (Bx.gr (Bx.md (Bx.gr (Bx.gr Fw4_8 Gw5) Gw6) Mw7) Gw8) Gw9) Mw10) Gw11)
          refine sd_vv rfl rfl rfl (vv_loadW agg_45 rfl B38 rfl) ?_
          have B39 := (Bx.gr (Bx.md (Bx.gr (Bx.gr B24 Gw8) Gw9) Mw10) Gw11)
          refine sd_vv rfl rfl rfl (vv_loadW agg_45 rfl B39 rfl) ?_
          have B40 := (Own.gr (Own.md (Own.gr (Own.gr (Own.md (Own.gr (Own.gr Fw4_4 Gw5) Gw6) Mw7 (tk1 ((pv_lt (A := (fun x => x ≠ b6)) lt14) : zy6 = 0 ∨ gy6 ≠ b6))) Gw8) Gw9) Mw10 (tk1 ((pv_lt (A := (fun x => x ≠ b9)) lt14) : zy6 = 0 ∨ gy6 ≠ b9))) Gw11)
          have B41 := (Own.gr (Own.md (Own.gr (Own.gr (Own.md (Own.gr (Own.gr Fw4_6 Gw5) Gw6) Mw7 (tk1 ((pv_lt (A := (fun x => x ≠ b6)) lt15) : zy7 = 0 ∨ gy7 ≠ b6))) Gw8) Gw9) Mw10 (tk1 ((pv_lt (A := (fun x => x ≠ b9)) lt15) : zy7 = 0 ∨ gy7 ≠ b9))) Gw11)
          have B42 := (Rd.gr (Rd.md (Rd.gr (Rd.gr B26 Gw8) Gw9) Mw10 (tk1 ((pv_lt (A := (fun x => x ≠ b9)) lt2) : zp2_0 = 0 ∨ gp2_0 ≠ b9))) Gw11)
          have B43 := (Rd.gr (Rd.md (Rd.gr (Rd.gr B27 Gw8) Gw9) Mw10 (tk1 ((pv_lt (A := (fun x => x ≠ b9)) lt3) : zp2_2 = 0 ∨ gp2_2 ≠ b9))) Gw11)
          have hb := bnd hm; clear hm; obtain ⟨x11, hx11, hm⟩ := hb
          refine sd_ev rfl rfl rfl (ev_call en_23 rfl (ref03_SameHeader_w a5 p2 _ _ _ _ _ _ _ _ _ _ _ _ _ _ _ _ _ hx11 _ (Own.rd B40) (Own.rd B41) B42 B43)) ?_
          rintro _ w12 ⟨rfl, Gw12⟩
          have z44 := Gw12.size
          refine sd_vv rfl rfl rfl (vv_pickT rfl rfl) ?_
          refine sd_vv rfl rfl rfl (vv_assign rfl) ?_
          refine sd_done ?_
          refine sw_ret ?_
          have X45 : Gr w w12 := (Gr.trans (Gr.trans (Gr.md (Gr.trans (Gr.trans (Gr.md (Gr.trans (Gr.trans (Gr.kz X10 Kw4) Gw5) Gw6) Mw7) Gw8) Gw9) Mw10) Gw11) Gw12)
          have hr := Option.some.inj hm
          subst hr
          refine ⟨_, _, rfl, res_1 rfl (rv_tmp rfl), ?_⟩
          exact ⟨rfl, X45⟩
        ·
          replace hm := cnd_f c3 hm
          refine sd_skip rfl rfl rfl ?_
          refine sd_skip rfl rfl rfl ?_
          refine sd_skip rfl rfl rfl ?_
          refine sd_vv rfl rfl rfl (vv_pickF rfl rfl) ?_
          refine sd_vv rfl rfl rfl (vv_assign rfl) ?_
          refine sd_done ?_
          refine sw_ret ?_
          have X46 : Gr w w11 := (Gr.trans (Gr.md (Gr.trans (Gr.trans (Gr.md (Gr.trans (Gr.trans (Gr.kz X10 Kw4) Gw5) Gw6) Mw7) Gw8) Gw9) Mw10) Gw11)
          have hr := Option.some.inj hm
          subst hr
          refine ⟨_, _, rfl, res_1 rfl (rv_tmp rfl), ?_⟩
          exact ⟨rfl, X46⟩
      ·
        replace hm := ite_f (of_decide_eq_false c2) hm
        refine sd_skip rfl rfl rfl ?_
        refine sd_skip rfl rfl rfl ?_
        refine sd_skip rfl rfl rfl ?_
        refine sd_vv rfl rfl rfl (vv_pickF rfl rfl) ?_
        refine sd_vv rfl rfl rfl (vv_move rfl) ?_
        refine sd_skip rfl rfl rfl ?_
        refine sd_skip rfl rfl rfl ?_
        refine sd_skip rfl rfl rfl ?_
        refine sd_vv rfl rfl rfl (vv_pickF rfl rfl) ?_
        refine sd_vv rfl rfl rfl (vv_assign rfl) ?_
        refine sd_done ?_
        refine sw_ret ?_
        have X47 : Gr w w10 := (Gr.md (Gr.trans (Gr.trans (Gr.md (Gr.trans (Gr.trans (Gr.kz X10 Kw4) Gw5) Gw6) Mw7) Gw8) Gw9) Mw10)
        have hr := Option.some.inj hm
        subst hr
        refine ⟨_, _, rfl, res_1 rfl (rv_tmp rfl), ?_⟩
        exact ⟨rfl, X47⟩
    ·
      replace hm := ite_f (of_decide_eq_false c1) hm
      refine sd_skip rfl rfl rfl ?_
      refine sd_skip rfl rfl rfl ?_
      refine sd_skip rfl rfl rfl ?_
      refine sd_vv rfl rfl rfl (vv_pickF rfl rfl) ?_
      refine sd_vv rfl rfl rfl (vv_move rfl) ?_
      refine sd_skip rfl rfl rfl ?_
      refine sd_skip rfl rfl rfl ?_
      refine sd_skip rfl rfl rfl ?_
      refine sd_vv rfl rfl rfl (vv_pickF rfl rfl) ?_
      refine sd_vv rfl rfl rfl (vv_move rfl) ?_
      refine sd_skip rfl rfl rfl ?_
      refine sd_skip rfl rfl rfl ?_
      refine sd_skip rfl rfl rfl ?_
      refine sd_vv rfl rfl rfl (vv_pickF rfl rfl) ?_
      refine sd_vv rfl rfl rfl (vv_assign rfl) ?_
      refine sd_done ?_
      refine sw_ret ?_
      have X48 : Gr w w10 := (Gr.md (Gr.trans (Gr.trans (Gr.md (Gr.trans (Gr.trans (Gr.kz X10 Kw4) Gw5) Gw6) Mw7) Gw8) Gw9) Mw10)
      have hr := Option.some.inj hm
      subst hr
      refine ⟨_, _, rfl, res_1 rfl (rv_tmp rfl), ?_⟩
      exact ⟨rfl, X48⟩
  ·
    -- region 1 law.go:55 DRAWS
    refine sw_drawN [([])] [] (.fork [(0, 10), (2, 10)] (.fork [(1, 0)] (.fork [(3, 0)] (.leaf [(4, 0), (5, 0), (6, 0), (7, 0)]) (.leaf [(5, 0), (4, 0), (6, 0), (7, 0)])) (.fork [] (.fork [(4, 0)] (.leaf [(3, 0), (5, 0), (6, 0), (7, 0)]) (.leaf [(5, 0), (3, 0), (6, 0), (7, 0)])) (.fork [(5, 0)] (.leaf [(3, 0), (4, 0), (6, 0), (7, 0)]) (.leaf [(4, 0), (3, 0), (6, 0), (7, 0)])))) (.fork [] (.fork [(4, 0)] (.fork [(1, 0)] (.leaf [(3, 0), (5, 0), (6, 0), (7, 0)]) (.leaf [(5, 0), (3, 0), (6, 0), (7, 0)])) (.leaf [(5, 0), (1, 0), (3, 0), (6, 0), (7, 0)])) (.fork [(5, 0)] (.fork [(1, 0)] (.leaf [(3, 0), (4, 0), (6, 0), (7, 0)]) (.leaf [(4, 0), (3, 0), (6, 0), (7, 0)])) (.leaf [(4, 0), (1, 0), (3, 0), (6, 0), (7, 0)])))) (by kernel_rfl) (by kernel_rfl) rfl (by kernel_rfl) ?_
    intro w13 Gw13 zw13
    refine sdz_fork ?_
    have B49 := (Bx.gr (Bx.gr Bw2 Gw3) Gw13)
    refine dd_hn 0 rfl rfl rfl rfl (Kp.refl ([]) w13) (fun w hS => vv_loadW agg_33 rfl (Bx.kp B49 hS) rfl) ?_
    have B50 := (Bx.gr Bw3 Gw13)
    refine dd_hn 0 rfl rfl rfl rfl (Kp.refl ([]) w13) (fun w hS => vv_loadW agg_45 rfl (Bx.kp B50 hS) rfl) ?_
    refine sd_fork ?_ (sdz_fork (sd_fork ?_ ?_))
    ·
      refine sdz_fork ?_
      have B51 := (Rd.gr (Rd.gr (Rd.gr (Rd.gr hp1_1 Gw1) Gw2) Gw3) Gw13)
      have hb := bnd hm; clear hm; obtain ⟨x12, hx12, hm⟩ := hb
      refine dd_z [] rfl rfl rfl (ev_call en_25 rfl (ref03_TwinSecret_w p1 _ _ _ _ _ hx12 _ B51)) ⟨fun _ => tk0, trivial⟩ ?_
      rintro _ w14 ⟨u14_r0_1, z14_r0_1, g14_r0_1, rfl, O14_r0_1, f14_r0_1, Gw14⟩
      have z52 := Gw14.size
      have lt53 := O14_r0_1.lth
      refine ⟨Kz.ofGr Gw14, ?_⟩
      refine sd_fork ?_ (sdz_fork (sd_fork ?_ ?_))
      ·
        refine sdz_fork ?_
        have B54 := (Rd.gr (Rd.gr (Rd.gr (Rd.gr (Rd.gr hp2_0 Gw1) Gw2) Gw3) Gw13) Gw14)
        have B55 := (Rd.gr (Rd.gr (Rd.gr (Rd.gr (Rd.gr hp2_2 Gw1) Gw2) Gw3) Gw13) Gw14)
        have hb := bnd hm; clear hm; obtain ⟨x13, hx13, hm⟩ := hb
        refine dd_z [] rfl rfl rfl (ev_call en_26 rfl (ref03_TwinHeader_w p2 _ _ _ _ _ _ _ _ _ hx13 _ B54 B55)) ⟨fun _ => tk0, trivial⟩ ?_
        rintro _ w15 ⟨u15_r0_0, z15_r0_0, g15_r0_0, u15_r0_2, z15_r0_2, g15_r0_2, rfl, O15_r0_0, f15_r0_0, O15_r0_2, f15_r0_2, d15_0, Gw15⟩
        have z56 := Gw15.size
        have lt57 := O15_r0_0.lth
        have lt58 := O15_r0_2.lth
        refine ⟨Kz.ofGr Gw15, ?_⟩
        refine sd_fork ?_ ?_
        ·
          refine sdz_leaf ?_
          refine dd_z [] rfl rfl rfl (ev_alloc (cs := TSecret.cs (TSecret.mk 0 [] (TPoint.mk 0#64 0#64)) (.slice none 0 0)) zv_33 rfl) ⟨fun _ => tk0, trivial⟩ ?_
          rintro _ w16 ⟨b16, rfl, hbw16, Bw16, Gw16⟩
          have z59 := Gw16.size
          have lt60 := Bw16.lt
          refine ⟨Kz.ofGr Gw16, ?_⟩
          refine dd_z [] rfl rfl rfl (ev_alloc (cs := THeader.cs (THeader.mk [] 0#64 [] k0 k0) (.slice none 0 0) (.slice none 0 0)) zv_45 rfl) ⟨fun _ => tk0, trivial⟩ ?_
          rintro _ w17 ⟨b17, rfl, hbw17, Bw17, Gw17⟩
          have z61 := Gw17.size
          have lt62 := Bw17.lt
          refine ⟨Kz.ofGr Gw17, ?_⟩
          have B63 := (Bx.gr Bw16 Gw17)
          have B64 := (Own.gr (Own.gr (Own.gr O14_r0_1 Gw15) Gw16) Gw17)
          refine dd_z [(1, b16)] rfl rfl rfl (ev_stM (cs' := TSecret.cs x12 u14_r0_1) (vs := TSecret.cs x12 u14_r0_1) (agg_33).siz rfl rfl rfl rfl (TSecret.cs_ones _ _ (Own.oneB B64)) B63 rfl rfl) ⟨fun _ => tk0, trivial⟩ ?_
          rintro _ w18 ⟨Bw18, Mw18⟩
          have z65 := Mw18.size
          refine ⟨Kz.ofMd Mw18, ?_⟩
          have B66 := (Bx.md Bw17 Mw18)
          have B67 := (Own.md (Own.gr (Own.gr O15_r0_0 Gw16) Gw17) Mw18 (tk1 ((pv_lt (A := (fun x => x ≠ b16)) lt57) : z15_r0_0 = 0 ∨ g15_r0_0 ≠ b16)))
          have B68 := (Own.md (Own.gr (Own.gr O15_r0_2 Gw16) Gw17) Mw18 (tk1 ((pv_lt (A := (fun x => x ≠ b16)) lt58) : z15_r0_2 = 0 ∨ g15_r0_2 ≠ b16)))
          refine dd_z [(1, b17)] rfl rfl rfl (ev_stM (cs' := THeader.cs x13 u15_r0_0 u15_r0_2) (vs := THeader.cs x13 u15_r0_0 u15_r0_2) (agg_45).siz rfl rfl rfl rfl (THeader.cs_ones _ _ _ (Own.oneB B67) (Own.oneB B68)) B66 rfl rfl) ⟨fun _ => tk0, trivial⟩ ?_
          rintro _ w19 ⟨Bw19, Mw19⟩
          have z69 := Mw19.size
          refine ⟨Kz.ofMd Mw19, ?_⟩
          refine sd_nil ?_
          have K_70 : Kz [] w3 w19 := (Kz.md (Kz.md (Kz.gr (Kz.gr (Kz.gr (Kz.gr (Kz.gr (Kz.refl _ _) Gw13) Gw14) Gw15) Gw16) Gw17) Mw18) Mw19)
          have B71 := (Own.md (Own.md B64 Mw18 (tk1 ((pv_lt (A := (fun x => x ≠ b16)) lt53) : z14_r0_1 = 0 ∨ g14_r0_1 ≠ b16))) Mw19 (tk1 ((pv_lt (A := (fun x => x ≠ b17)) lt53) : z14_r0_1 = 0 ∨ g14_r0_1 ≠ b17)))
          have B72 := (Bx.md Bw18 Mw19)
          have B73 := (Own.md B67 Mw19 (tk1 ((pv_lt (A := (fun x => x ≠ b17)) lt57) : z15_r0_0 = 0 ∨ g15_r0_0 ≠ b17)))
          have B74 := (Own.md B68 Mw19 (tk1 ((pv_lt (A := (fun x => x ≠ b17)) lt58) : z15_r0_2 = 0 ∨ g15_r0_2 ≠ b17)))
          refine ⟨rfl, ⟨x12, x13, b16, u14_r0_1, z14_r0_1, g14_r0_1, b17, u15_r0_0, z15_r0_0, g15_r0_0, u15_r0_2, z15_r0_2, g15_r0_2⟩, ?_, hm, B71, ⟨(pv_0 (A := (fun x => w3.heap.size ≤ x)) f14_r0_1)⟩, B72, (by omega), B73, ⟨(pv_0 (A := (fun x => w3.heap.size ≤ x)) f15_r0_0)⟩, B74, ⟨(pv_0 (A := (fun x => w3.heap.size ≤ x)) f15_r0_2)⟩, Bw19, (by omega), ⟨(pv_0 (A := (fun x => z14_r0_1 = 0 ∨ x ≠ g14_r0_1)) f15_r0_0 (fun x hx => (tk1 lt53.o)))⟩, ⟨(pv_0 (A := (fun x => z14_r0_1 = 0 ∨ x ≠ g14_r0_1)) f15_r0_2 (fun x hx => (tk1 lt53.o)))⟩, ⟨(tk1 d15_0.o)⟩, ⟨(pv_lt (A := (fun x => x ≠ b16)) lt53)⟩, ⟨(pv_lt (A := (fun x => x ≠ b16)) lt57)⟩, ⟨(pv_lt (A := (fun x => x ≠ b16)) lt58)⟩, (by omega), ⟨(pv_lt (A := (fun x => x ≠ b17)) lt53)⟩, ⟨(pv_lt (A := (fun x => x ≠ b17)) lt57)⟩, ⟨(pv_lt (A := (fun x => x ≠ b17)) lt58)⟩, K_70⟩
          repeat' first | exact trivial | refine ⟨rfl, ?_⟩
        ·
          refine sdz_leaf ?_
          refine dd_z [] rfl rfl rfl (ev_alloc (cs := THeader.cs (THeader.mk [] 0#64 [] k0 k0) (.slice none 0 0) (.slice none 0 0)) zv_45 rfl) ⟨fun _ => tk0, trivial⟩ ?_
          rintro _ w20 ⟨b20, rfl, hbw20, Bw20, Gw20⟩
          have z75 := Gw20.size
          have lt76 := Bw20.lt
          refine ⟨Kz.ofGr Gw20, ?_⟩
          refine dd_z [] rfl rfl rfl (ev_alloc (cs := TSecret.cs (TSecret.mk 0 [] (TPoint.mk 0#64 0#64)) (.slice none 0 0)) zv_33 rfl) ⟨fun _ => tk0, trivial⟩ ?_
          rintro _ w21 ⟨b21, rfl, hbw21, Bw21, Gw21⟩
          have z77 := Gw21.size
          have lt78 := Bw21.lt
          refine ⟨Kz.ofGr Gw21, ?_⟩
          have B79 := (Own.gr (Own.gr (Own.gr O14_r0_1 Gw15) Gw20) Gw21)
          refine dd_z [(1, b21)] rfl rfl rfl (ev_stM (cs' := TSecret.cs x12 u14_r0_1) (vs := TSecret.cs x12 u14_r0_1) (agg_33).siz rfl rfl rfl rfl (TSecret.cs_ones _ _ (Own.oneB B79)) Bw21 rfl rfl) ⟨fun _ => tk0, trivial⟩ ?_
          rintro _ w22 ⟨Bw22, Mw22⟩
          have z80 := Mw22.size
          refine ⟨Kz.ofMd Mw22, ?_⟩
          have B81 := (Bx.md (Bx.gr Bw20 Gw21) Mw22)
          have B82 := (Own.md (Own.gr (Own.gr O15_r0_0 Gw20) Gw21) Mw22 (tk1 ((pv_lt (A := (fun x => x ≠ b21)) lt57) : z15_r0_0 = 0 ∨ g15_r0_0 ≠ b21)))
          have B83 := (Own.md (Own.gr (Own.gr O15_r0_2 Gw20) Gw21) Mw22 (tk1 ((pv_lt (A := (fun x => x ≠ b21)) lt58) : z15_r0_2 = 0 ∨ g15_r0_2 ≠ b21)))
          refine dd_z [(1, b20)] rfl rfl rfl (ev_stM (cs' := THeader.cs x13 u15_r0_0 u15_r0_2) (vs := THeader.cs x13 u15_r0_0 u15_r0_2) (agg_45).siz rfl rfl rfl rfl (THeader.cs_ones _ _ _ (Own.oneB B82) (Own.oneB B83)) B81 rfl rfl) ⟨fun _ => tk0, trivial⟩ ?_
          rintro _ w23 ⟨Bw23, Mw23⟩
          have z84 := Mw23.size
          refine ⟨Kz.ofMd Mw23, ?_⟩
          refine sd_nil ?_
          have K_85 : Kz [] w3 w23 := (Kz.md (Kz.md (Kz.gr (Kz.gr (Kz.gr (Kz.gr (Kz.gr (Kz.refl _ _) Gw13) Gw14) Gw15) Gw20) Gw21) Mw22) Mw23)
          have B86 := (Own.md (Own.md B79 Mw22 (tk1 ((pv_lt (A := (fun x => x ≠ b21)) lt53) : z14_r0_1 = 0 ∨ g14_r0_1 ≠ b21))) Mw23 (tk1 ((pv_lt (A := (fun x => x ≠ b20)) lt53) : z14_r0_1 = 0 ∨ g14_r0_1 ≠ b20)))
          have B87 := (Bx.md Bw22 Mw23)
          have B88 := (Own.md B82 Mw23 (tk1 ((pv_lt (A := (fun x => x ≠ b20)) lt57) : z15_r0_0 = 0 ∨ g15_r0_0 ≠ b20)))
          have B89 := (Own.md B83 Mw23 (tk1 ((pv_lt (A := (fun x => x ≠ b20)) lt58) : z15_r0_2 = 0 ∨ g15_r0_2 ≠ b20)))
          refine ⟨rfl, ⟨x12, x13, b21, u14_r0_1, z14_r0_1, g14_r0_1, b20, u15_r0_0, z15_r0_0, g15_r0_0, u15_r0_2, z15_r0_2, g15_r0_2⟩, ?_, hm, B86, ⟨(pv_0 (A := (fun x => w3.heap.size ≤ x)) f14_r0_1)⟩, B87, (by omega), B88, ⟨(pv_0 (A := (fun x => w3.heap.size ≤ x)) f15_r0_0)⟩, B89, ⟨(pv_0 (A := (fun x => w3.heap.size ≤ x)) f15_r0_2)⟩, Bw23, (by omega), ⟨(pv_0 (A := (fun x => z14_r0_1 = 0 ∨ x ≠ g14_r0_1)) f15_r0_0 (fun x hx => (tk1 lt53.o)))⟩, ⟨(pv_0 (A := (fun x => z14_r0_1 = 0 ∨ x ≠ g14_r0_1)) f15_r0_2 (fun x hx => (tk1 lt53.o)))⟩, ⟨(tk1 d15_0.o)⟩, ⟨(pv_lt (A := (fun x => x ≠ b21)) lt53)⟩, ⟨(pv_lt (A := (fun x => x ≠ b21)) lt57)⟩, ⟨(pv_lt (A := (fun x => x ≠ b21)) lt58)⟩, (by omega), ⟨(pv_lt (A := (fun x => x ≠ b20)) lt53)⟩, ⟨(pv_lt (A := (fun x => x ≠ b20)) lt57)⟩, ⟨(pv_lt (A := (fun x => x ≠ b20)) lt58)⟩, K_85⟩
          repeat' first | exact trivial | refine ⟨rfl, ?_⟩
      ·
        refine sdz_fork ?_
        refine dd_z [] rfl rfl rfl (ev_alloc (cs := TSecret.cs (TSecret.mk 0 [] (TPoint.mk 0#64 0#64)) (.slice none 0 0)) zv_33 rfl) ⟨fun _ => tk0, trivial⟩ ?_
        rintro _ w24 ⟨b24, rfl, hbw24, Bw24, Gw24⟩
        have z90 := Gw24.size
        have lt91 := Bw24.lt
        refine ⟨Kz.ofGr Gw24, ?_⟩
        refine sd_fork ?_ ?_
        ·
          refine sdz_leaf ?_
          have B92 := (Rd.gr (Rd.gr (Rd.gr (Rd.gr (Rd.gr (Rd.gr hp2_0 Gw1) Gw2) Gw3) Gw13) Gw14) Gw24)
          have B93 := (Rd.gr (Rd.gr (Rd.gr (Rd.gr (Rd.gr (Rd.gr hp2_2 Gw1) Gw2) Gw3) Gw13) Gw14) Gw24)
          have hb := bnd hm; clear hm; obtain ⟨x14, hx14, hm⟩ := hb
          refine dd_z [] rfl rfl rfl (ev_call en_26 rfl (ref03_TwinHeader_w p2 _ _ _ _ _ _ _ _ _ hx14 _ B92 B93)) ⟨fun _ => tk0, trivial⟩ ?_
          rintro _ w25 ⟨u25_r0_0, z25_r0_0, g25_r0_0, u25_r0_2, z25_r0_2, g25_r0_2, rfl, O25_r0_0, f25_r0_0, O25_r0_2, f25_r0_2, d25_0, Gw25⟩
          have z94 := Gw25.size
          have lt95 := O25_r0_0.lth
          have lt96 := O25_r0_2.lth
          refine ⟨Kz.ofGr Gw25, ?_⟩
          refine dd_z [] rfl rfl rfl (ev_alloc (cs := THeader.cs (THeader.mk [] 0#64 [] k0 k0) (.slice none 0 0) (.slice none 0 0)) zv_45 rfl) ⟨fun _ => tk0, trivial⟩ ?_
          rintro _ w26 ⟨b26, rfl, hbw26, Bw26, Gw26⟩
          have z97 := Gw26.size
          have lt98 := Bw26.lt
          refine ⟨Kz.ofGr Gw26, ?_⟩
          have B99 := (Bx.gr (Bx.gr Bw24 Gw25) Gw26)
          have B100 := (Own.gr (Own.gr (Own.gr O14_r0_1 Gw24) Gw25) Gw26)
          refine dd_z [(1, b24)] rfl rfl rfl (ev_stM (cs' := TSecret.cs x12 u14_r0_1) (vs := TSecret.cs x12 u14_r0_1) (agg_33).siz rfl rfl rfl rfl (TSecret.cs_ones _ _ (Own.oneB B100)) B99 rfl rfl) ⟨fun _ => tk0, trivial⟩ ?_
          rintro _ w27 ⟨Bw27, Mw27⟩
          have z101 := Mw27.size
          refine ⟨Kz.ofMd Mw27, ?_⟩
          have B102 := (Bx.md Bw26 Mw27)
          have B103 := (Own.md (Own.gr O25_r0_0 Gw26) Mw27 (tk1 ((pv_0 (A := (fun x => x ≠ b24)) f25_r0_0) : z25_r0_0 = 0 ∨ g25_r0_0 ≠ b24)))
          have B104 := (Own.md (Own.gr O25_r0_2 Gw26) Mw27 (tk1 ((pv_0 (A := (fun x => x ≠ b24)) f25_r0_2) : z25_r0_2 = 0 ∨ g25_r0_2 ≠ b24)))
          refine dd_z [(1, b26)] rfl rfl rfl (ev_stM (cs' := THeader.cs x14 u25_r0_0 u25_r0_2) (vs := THeader.cs x14 u25_r0_0 u25_r0_2) (agg_45).siz rfl rfl rfl rfl (THeader.cs_ones _ _ _ (Own.oneB B103) (Own.oneB B104)) B102 rfl rfl) ⟨fun _ => tk0, trivial⟩ ?_
          rintro _ w28 ⟨Bw28, Mw28⟩
          have z105 := Mw28.size
          refine ⟨Kz.ofMd Mw28, ?_⟩
          refine sd_nil ?_
          have K_106 : Kz [] w3 w28 := (Kz.md (Kz.md (Kz.gr (Kz.gr (Kz.gr (Kz.gr (Kz.gr (Kz.refl _ _) Gw13) Gw14) Gw24) Gw25) Gw26) Mw27) Mw28)
          have B107 := (Own.md (Own.md B100 Mw27 (tk1 ((pv_lt (A := (fun x => x ≠ b24)) lt53) : z14_r0_1 = 0 ∨ g14_r0_1 ≠ b24))) Mw28 (tk1 ((pv_lt (A := (fun x => x ≠ b26)) lt53) : z14_r0_1 = 0 ∨ g14_r0_1 ≠ b26)))
          have B108 := (Bx.md Bw27 Mw28)
          have B109 := (Own.md B103 Mw28 (tk1 ((pv_lt (A := (fun x => x ≠ b26)) lt95) : z25_r0_0 = 0 ∨ g25_r0_0 ≠ b26)))
          have B110 := (Own.md B104 Mw28 (tk1 ((pv_lt (A := (fun x => x ≠ b26)) lt96) : z25_r0_2 = 0 ∨ g25_r0_2 ≠ b26)))
          refine ⟨rfl, ⟨x12, x14, b24, u14_r0_1, z14_r0_1, g14_r0_1, b26, u25_r0_0, z25_r0_0, g25_r0_0, u25_r0_2, z25_r0_2, g25_r0_2⟩, ?_, hm, B107, ⟨(pv_0 (A := (fun x => w3.heap.size ≤ x)) f14_r0_1)⟩, B108, (by omega), B109, ⟨(pv_0 (A := (fun x => w3.heap.size ≤ x)) f25_r0_0)⟩, B110, ⟨(pv_0 (A := (fun x => w3.heap.size ≤ x)) f25_r0_2)⟩, Bw28, (by omega), ⟨(pv_0 (A := (fun x => z14_r0_1 = 0 ∨ x ≠ g14_r0_1)) f25_r0_0 (fun x hx => (tk1 lt53.o)))⟩, ⟨(pv_0 (A := (fun x => z14_r0_1 = 0 ∨ x ≠ g14_r0_1)) f25_r0_2 (fun x hx => (tk1 lt53.o)))⟩, ⟨(tk1 d25_0.o)⟩, ⟨(pv_lt (A := (fun x => x ≠ b24)) lt53)⟩, ⟨(pv_0 (A := (fun x => x ≠ b24)) f25_r0_0)⟩, ⟨(pv_0 (A := (fun x => x ≠ b24)) f25_r0_2)⟩, (by omega), ⟨(pv_lt (A := (fun x => x ≠ b26)) lt53)⟩, ⟨(pv_lt (A := (fun x => x ≠ b26)) lt95)⟩, ⟨(pv_lt (A := (fun x => x ≠ b26)) lt96)⟩, K_106⟩
          repeat' first | exact trivial | refine ⟨rfl, ?_⟩
        ·
          refine sdz_leaf ?_
          refine dd_z [] rfl rfl rfl (ev_alloc (cs := THeader.cs (THeader.mk [] 0#64 [] k0 k0) (.slice none 0 0) (.slice none 0 0)) zv_45 rfl) ⟨fun _ => tk0, trivial⟩ ?_
          rintro _ w29 ⟨b29, rfl, hbw29, Bw29, Gw29⟩
          have z111 := Gw29.size
          have lt112 := Bw29.lt
          refine ⟨Kz.ofGr Gw29, ?_⟩
          have B113 := (Rd.gr (Rd.gr (Rd.gr (Rd.gr (Rd.gr (Rd.gr (Rd.gr hp2_0 Gw1) Gw2) Gw3) Gw13) Gw14) Gw24) Gw29)
          have B114 := (Rd.gr (Rd.gr (Rd.gr (Rd.gr (Rd.gr (Rd.gr (Rd.gr hp2_2 Gw1) Gw2) Gw3) Gw13) Gw14) Gw24) Gw29)
          have hb := bnd hm; clear hm; obtain ⟨x15, hx15, hm⟩ := hb
          refine dd_z [] rfl rfl rfl (ev_call en_26 rfl (ref03_TwinHeader_w p2 _ _ _ _ _ _ _ _ _ hx15 _ B113 B114)) ⟨fun _ => tk0, trivial⟩ ?_
          rintro _ w30 ⟨u30_r0_0, z30_r0_0, g30_r0_0, u30_r0_2, z30_r0_2, g30_r0_2, rfl, O30_r0_0, f30_r0_0, O30_r0_2, f30_r0_2, d30_0, Gw30⟩
          have z115 := Gw30.size
          have lt116 := O30_r0_0.lth
          have lt117 := O30_r0_2.lth
          refine ⟨Kz.ofGr Gw30, ?_⟩
          have B118 := (Bx.gr (Bx.gr Bw24 Gw29) Gw30)
          have B119 := (Own.gr (Own.gr (Own.gr O14_r0_1 Gw24) Gw29) Gw30)
          refine dd_z [(1, b24)] rfl rfl rfl (ev_stM (cs' := TSecret.cs x12 u14_r0_1) (vs := TSecret.cs x12 u14_r0_1) (agg_33).siz rfl rfl rfl rfl (TSecret.cs_ones _ _ (Own.oneB B119)) B118 rfl rfl) ⟨fun _ => tk0, trivial⟩ ?_
          rintro _ w31 ⟨Bw31, Mw31⟩
          have z120 := Mw31.size
          refine ⟨Kz.ofMd Mw31, ?_⟩
          have B121 := (Bx.md (Bx.gr Bw29 Gw30) Mw31)
          have B122 := (Own.md O30_r0_0 Mw31 (tk1 ((pv_0 (A := (fun x => x ≠ b24)) f30_r0_0) : z30_r0_0 = 0 ∨ g30_r0_0 ≠ b24)))
          have B123 := (Own.md O30_r0_2 Mw31 (tk1 ((pv_0 (A := (fun x => x ≠ b24)) f30_r0_2) : z30_r0_2 = 0 ∨ g30_r0_2 ≠ b24)))
          refine dd_z [(1, b29)] rfl rfl rfl (ev_stM (cs' := THeader.cs x15 u30_r0_0 u30_r0_2) (vs := THeader.cs x15 u30_r0_0 u30_r0_2) (agg_45).siz rfl rfl rfl rfl (THeader.cs_ones _ _ _ (Own.oneB B122) (Own.oneB B123)) B121 rfl rfl) ⟨fun _ => tk0, trivial⟩ ?_
          rintro _ w32 ⟨Bw32, Mw32⟩
          have z124 := Mw32.size
          refine ⟨Kz.ofMd Mw32, ?_⟩
          refine sd_nil ?_
          have K_125 : Kz [] w3 w32 := (Kz.md (Kz.md (Kz.gr (Kz.gr (Kz.gr (Kz.gr (Kz.gr (Kz.refl _ _) Gw13) Gw14) Gw24) Gw29) Gw30) Mw31) Mw32)
          have B126 := (Own.md (Own.md B119 Mw31 (tk1 ((pv_lt (A := (fun x => x ≠ b24)) lt53) : z14_r0_1 = 0 ∨ g14_r0_1 ≠ b24))) Mw32 (tk1 ((pv_lt (A := (fun x => x ≠ b29)) lt53) : z14_r0_1 = 0 ∨ g14_r0_1 ≠ b29)))
          have B127 := (Bx.md Bw31 Mw32)
          have B128 := (Own.md B122 Mw32 (tk1 ((pv_0 (A := (fun x => x ≠ b29)) f30_r0_0) : z30_r0_0 = 0 ∨ g30_r0_0 ≠ b29)))
          have B129 := (Own.md B123 Mw32 (tk1 ((pv_0 (A := (fun x => x ≠ b29)) f30_r0_2) : z30_r0_2 = 0 ∨ g30_r0_2 ≠ b29)))
          refine ⟨rfl, ⟨x12, x15, b24, u14_r0_1, z14_r0_1, g14_r0_1, b29, u30_r0_0, z30_r0_0, g30_r0_0, u30_r0_2, z30_r0_2, g30_r0_2⟩, ?_, hm, B126, ⟨(pv_0 (A := (fun x => w3.heap.size ≤ x)) f14_r0_1)⟩, B127, (by omega), B128, ⟨(pv_0 (A := (fun x => w3.heap.size ≤ x)) f30_r0_0)⟩, B129, ⟨(pv_0 (A := (fun x => w3.heap.size ≤ x)) f30_r0_2)⟩, Bw32, (by omega), ⟨(pv_0 (A := (fun x => z14_r0_1 = 0 ∨ x ≠ g14_r0_1)) f30_r0_0 (fun x hx => (tk1 lt53.o)))⟩, ⟨(pv_0 (A := (fun x => z14_r0_1 = 0 ∨ x ≠ g14_r0_1)) f30_r0_2 (fun x hx => (tk1 lt53.o)))⟩, ⟨(tk1 d30_0.o)⟩, ⟨(pv_lt (A := (fun x => x ≠ b24)) lt53)⟩, ⟨(pv_0 (A := (fun x => x ≠ b24)) f30_r0_0)⟩, ⟨(pv_0 (A := (fun x => x ≠ b24)) f30_r0_2)⟩, (by omega), ⟨(pv_lt (A := (fun x => x ≠ b29)) lt53)⟩, ⟨(pv_0 (A := (fun x => x ≠ b29)) f30_r0_0)⟩, ⟨(pv_0 (A := (fun x => x ≠ b29)) f30_r0_2)⟩, K_125⟩
          repeat' first | exact trivial | refine ⟨rfl, ?_⟩
      ·
        refine sdz_fork ?_
        refine dd_z [] rfl rfl rfl (ev_alloc (cs := THeader.cs (THeader.mk [] 0#64 [] k0 k0) (.slice none 0 0) (.slice none 0 0)) zv_45 rfl) ⟨fun _ => tk0, trivial⟩ ?_
        rintro _ w33 ⟨b33, rfl, hbw33, Bw33, Gw33⟩
        have z130 := Gw33.size
        have lt131 := Bw33.lt
        refine ⟨Kz.ofGr Gw33, ?_⟩
        refine sd_fork ?_ ?_
        ·
          refine sdz_leaf ?_
          have B132 := (Rd.gr (Rd.gr (Rd.gr (Rd.gr (Rd.gr (Rd.gr hp2_0 Gw1) Gw2) Gw3) Gw13) Gw14) Gw33)
          have B133 := (Rd.gr (Rd.gr (Rd.gr (Rd.gr (Rd.gr (Rd.gr hp2_2 Gw1) Gw2) Gw3) Gw13) Gw14) Gw33)
          have hb := bnd hm; clear hm; obtain ⟨x16, hx16, hm⟩ := hb
          refine dd_z [] rfl rfl rfl (ev_call en_26 rfl (ref03_TwinHeader_w p2 _ _ _ _ _ _ _ _ _ hx16 _ B132 B133)) ⟨fun _ => tk0, trivial⟩ ?_
          rintro _ w34 ⟨u34_r0_0, z34_r0_0, g34_r0_0, u34_r0_2, z34_r0_2, g34_r0_2, rfl, O34_r0_0, f34_r0_0, O34_r0_2, f34_r0_2, d34_0, Gw34⟩
          have z134 := Gw34.size
          have lt135 := O34_r0_0.lth
          have lt136 := O34_r0_2.lth
          refine ⟨Kz.ofGr Gw34, ?_⟩
          refine dd_z [] rfl rfl rfl (ev_alloc (cs := TSecret.cs (TSecret.mk 0 [] (TPoint.mk 0#64 0#64)) (.slice none 0 0)) zv_33 rfl) ⟨fun _ => tk0, trivial⟩ ?_
          rintro _ w35 ⟨b35, rfl, hbw35, Bw35, Gw35⟩
          have z137 := Gw35.size
          have lt138 := Bw35.lt
          refine ⟨Kz.ofGr Gw35, ?_⟩
          have B139 := (Own.gr (Own.gr (Own.gr O14_r0_1 Gw33) Gw34) Gw35)
          refine dd_z [(1, b35)] rfl rfl rfl (ev_stM (cs' := TSecret.cs x12 u14_r0_1) (vs := TSecret.cs x12 u14_r0_1) (agg_33).siz rfl rfl rfl rfl (TSecret.cs_ones _ _ (Own.oneB B139)) Bw35 rfl rfl) ⟨fun _ => tk0, trivial⟩ ?_
          rintro _ w36 ⟨Bw36, Mw36⟩
          have z140 := Mw36.size
          refine ⟨Kz.ofMd Mw36, ?_⟩
          have B141 := (Bx.md (Bx.gr (Bx.gr Bw33 Gw34) Gw35) Mw36)
          have B142 := (Own.md (Own.gr O34_r0_0 Gw35) Mw36 (tk1 ((pv_lt (A := (fun x => x ≠ b35)) lt135) : z34_r0_0 = 0 ∨ g34_r0_0 ≠ b35)))
          have B143 := (Own.md (Own.gr O34_r0_2 Gw35) Mw36 (tk1 ((pv_lt (A := (fun x => x ≠ b35)) lt136) : z34_r0_2 = 0 ∨ g34_r0_2 ≠ b35)))
          refine dd_z [(1, b33)] rfl rfl rfl (ev_stM (cs' := THeader.cs x16 u34_r0_0 u34_r0_2) (vs := THeader.cs x16 u34_r0_0 u34_r0_2) (agg_45).siz rfl rfl rfl rfl (THeader.cs_ones _ _ _ (Own.oneB B142) (Own.oneB B143)) B141 rfl rfl) ⟨fun _ => tk0, trivial⟩ ?_
          rintro _ w37 ⟨Bw37, Mw37⟩
          have z144 := Mw37.size
          refine ⟨Kz.ofMd Mw37, ?_⟩
          refine sd_nil ?_
          have K_145 : Kz [] w3 w37 := (Kz.md (Kz.md (Kz.gr (Kz.gr (Kz.gr (Kz.gr (Kz.gr (Kz.refl _ _) Gw13) Gw14) Gw33) Gw34) Gw35) Mw36) Mw37)
          have B146 := (Own.md (Own.md B139 Mw36 (tk1 ((pv_lt (A := (fun x => x ≠ b35)) lt53) : z14_r0_1 = 0 ∨ g14_r0_1 ≠ b35))) Mw37 (tk1 ((pv_lt (A := (fun x => x ≠ b33)) lt53) : z14_r0_1 = 0 ∨ g14_r0_1 ≠ b33)))
          have B147 := (Bx.md Bw36 Mw37)
          have B148 := (Own.md B142 Mw37 (tk1 ((pv_0 (A := (fun x => x ≠ b33)) f34_r0_0) : z34_r0_0 = 0 ∨ g34_r0_0 ≠ b33)))
          have B149 := (Own.md B143 Mw37 (tk1 ((pv_0 (A := (fun x => x ≠ b33)) f34_r0_2) : z34_r0_2 = 0 ∨ g34_r0_2 ≠ b33)))
          refine ⟨rfl, ⟨x12, x16, b35, u14_r0_1, z14_r0_1, g14_r0_1, b33, u34_r0_0, z34_r0_0, g34_r0_0, u34_r0_2, z34_r0_2, g34_r0_2⟩, ?_, hm, B146, ⟨(pv_0 (A := (fun x => w3.heap.size ≤ x)) f14_r0_1)⟩, B147, (by omega), B148, ⟨(pv_0 (A := (fun x => w3.heap.size ≤ x)) f34_r0_0)⟩, B149, ⟨(pv_0 (A := (fun x => w3.heap.size ≤ x)) f34_r0_2)⟩, Bw37, (by omega), ⟨(pv_0 (A := (fun x => z14_r0_1 = 0 ∨ x ≠ g14_r0_1)) f34_r0_0 (fun x hx => (tk1 lt53.o)))⟩, ⟨(pv_0 (A := (fun x => z14_r0_1 = 0 ∨ x ≠ g14_r0_1)) f34_r0_2 (fun x hx => (tk1 lt53.o)))⟩, ⟨(tk1 d34_0.o)⟩, ⟨(pv_lt (A := (fun x => x ≠ b35)) lt53)⟩, ⟨(pv_lt (A := (fun x => x ≠ b35)) lt135)⟩, ⟨(pv_lt (A := (fun x => x ≠ b35)) lt136)⟩, (by omega), ⟨(pv_lt (A := (fun x => x ≠ b33)) lt53)⟩, ⟨(pv_0 (A := (fun x => x ≠ b33)) f34_r0_0)⟩, ⟨(pv_0 (A := (fun x => x ≠ b33)) f34_r0_2)⟩, K_145⟩
          repeat' first | exact trivial | refine ⟨rfl, ?_⟩
        ·
          refine sdz_leaf ?_
          refine dd_z [] rfl rfl rfl (ev_alloc (cs := TSecret.cs (TSecret.mk 0 [] (TPoint.mk 0#64 0#64)) (.slice none 0 0)) zv_33 rfl) ⟨fun _ => tk0, trivial⟩ ?_
          rintro _ w38 ⟨b38, rfl, hbw38, Bw38, Gw38⟩
          have z150 := Gw38.size
          have lt151 := Bw38.lt
          refine ⟨Kz.ofGr Gw38, ?_⟩
          have B152 := (Rd.gr (Rd.gr (Rd.gr (Rd.gr (Rd.gr (Rd.gr (Rd.gr hp2_0 Gw1) Gw2) Gw3) Gw13) Gw14) Gw33) Gw38)
          have B153 := (Rd.gr (Rd.gr (Rd.gr (Rd.gr (Rd.gr (Rd.gr (Rd.gr hp2_2 Gw1) Gw2) Gw3) Gw13) Gw14) Gw33) Gw38)
          have hb := bnd hm; clear hm; obtain ⟨x17, hx17, hm⟩ := hb
          refine dd_z [] rfl rfl rfl (ev_call en_26 rfl (ref03_TwinHeader_w p2 _ _ _ _ _ _ _ _ _ hx17 _ B152 B153)) ⟨fun _ => tk0, trivial⟩ ?_
          rintro _ w39 ⟨u39_r0_0, z39_r0_0, g39_r0_0, u39_r0_2, z39_r0_2, g39_r0_2, rfl, O39_r0_0, f39_r0_0, O39_r0_2, f39_r0_2, d39_0, Gw39⟩
          have z154 := Gw39.size
          have lt155 := O39_r0_0.lth
          have lt156 := O39_r0_2.lth
          refine ⟨Kz.ofGr Gw39, ?_⟩
          have B157 := (Bx.gr Bw38 Gw39)
          have B158 := (Own.gr (Own.gr (Own.gr O14_r0_1 Gw33) Gw38) Gw39)
          refine dd_z [(1, b38)] rfl rfl rfl (ev_stM (cs' := TSecret.cs x12 u14_r0_1) (vs := TSecret.cs x12 u14_r0_1) (agg_33).siz rfl rfl rfl rfl (TSecret.cs_ones _ _ (Own.oneB B158)) B157 rfl rfl) ⟨fun _ => tk0, trivial⟩ ?_
          rintro _ w40 ⟨Bw40, Mw40⟩
          have z159 := Mw40.size
          refine ⟨Kz.ofMd Mw40, ?_⟩
          have B160 := (Bx.md (Bx.gr (Bx.gr Bw33 Gw38) Gw39) Mw40)
          have B161 := (Own.md O39_r0_0 Mw40 (tk1 ((pv_0 (A := (fun x => x ≠ b38)) f39_r0_0) : z39_r0_0 = 0 ∨ g39_r0_0 ≠ b38)))
          have B162 := (Own.md O39_r0_2 Mw40 (tk1 ((pv_0 (A := (fun x => x ≠ b38)) f39_r0_2) : z39_r0_2 = 0 ∨ g39_r0_2 ≠ b38)))
          refine dd_z [(1, b33)] rfl rfl rfl (ev_stM (cs' := THeader.cs x17 u39_r0_0 u39_r0_2) (vs := THeader.cs x17 u39_r0_0 u39_r0_2) (agg_45).siz rfl rfl rfl rfl (THeader.cs_ones _ _ _ (Own.oneB B161) (Own.oneB B162)) B160 rfl rfl) ⟨fun _ => tk0, trivial⟩ ?_
          rintro _ w41 ⟨Bw41, Mw41⟩
          have z163 := Mw41.size
          refine ⟨Kz.ofMd Mw41, ?_⟩
          refine sd_nil ?_
          have K_164 : Kz [] w3 w41 := (Kz.md (Kz.md (Kz.gr (Kz.gr (Kz.gr (Kz.gr (Kz.gr (Kz.refl _ _) Gw13) Gw14) Gw33) Gw38) Gw39) Mw40) Mw41)
          have B165 := (Own.md (Own.md B158 Mw40 (tk1 ((pv_lt (A := (fun x => x ≠ b38)) lt53) : z14_r0_1 = 0 ∨ g14_r0_1 ≠ b38))) Mw41 (tk1 ((pv_lt (A := (fun x => x ≠ b33)) lt53) : z14_r0_1 = 0 ∨ g14_r0_1 ≠ b33)))
          have B166 := (Bx.md Bw40 Mw41)
          have B167 := (Own.md B161 Mw41 (tk1 ((pv_0 (A := (fun x => x ≠ b33)) f39_r0_0) : z39_r0_0 = 0 ∨ g39_r0_0 ≠ b33)))
          have B168 := (Own.md B162 Mw41 (tk1 ((pv_0 (A := (fun x => x ≠ b33)) f39_r0_2) : z39_r0_2 = 0 ∨ g39_r0_2 ≠ b33)))
          refine ⟨rfl, ⟨x12, x17, b38, u14_r0_1, z14_r0_1, g14_r0_1, b33, u39_r0_0, z39_r0_0, g39_r0_0, u39_r0_2, z39_r0_2, g39_r0_2⟩, ?_, hm, B165, ⟨(pv_0 (A := (fun x => w3.heap.size ≤ x)) f14_r0_1)⟩, B166, (by omega), B167, ⟨(pv_0 (A := (fun x => w3.heap.size ≤ x)) f39_r0_0)⟩, B168, ⟨(pv_0 (A := (fun x => w3.heap.size ≤ x)) f39_r0_2)⟩, Bw41, (by omega), ⟨(pv_0 (A := (fun x => z14_r0_1 = 0 ∨ x ≠ g14_r0_1)) f39_r0_0 (fun x hx => (tk1 lt53.o)))⟩, ⟨(pv_0 (A := (fun x => z14_r0_1 = 0 ∨ x ≠ g14_r0_1)) f39_r0_2 (fun x hx => (tk1 lt53.o)))⟩, ⟨(tk1 d39_0.o)⟩, ⟨(pv_lt (A := (fun x => x ≠ b38)) lt53)⟩, ⟨(pv_0 (A := (fun x => x ≠ b38)) f39_r0_0)⟩, ⟨(pv_0 (A := (fun x => x ≠ b38)) f39_r0_2)⟩, (by omega), ⟨(pv_lt (A := (fun x => x ≠ b33)) lt53)⟩, ⟨(pv_0 (A := (fun x => x ≠ b33)) f39_r0_0)⟩, ⟨(pv_0 (A := (fun x => x ≠ b33)) f39_r0_2)⟩, K_164⟩
          repeat' first | exact trivial | refine ⟨rfl, ?_⟩
    ·
      refine sdz_fork ?_
      refine dd_z [] rfl rfl rfl (ev_alloc (cs := TSecret.cs (TSecret.mk 0 [] (TPoint.mk 0#64 0#64)) (.slice none 0 0)) zv_33 rfl) ⟨fun _ => tk0, trivial⟩ ?_
      rintro _ w42 ⟨b42, rfl, hbw42, Bw42, Gw42⟩
      have z169 := Gw42.size
      have lt170 := Bw42.lt
      refine ⟨Kz.ofGr Gw42, ?_⟩
      refine sd_fork ?_ ?_
      ·
        refine sdz_fork ?_
        have B171 := (Rd.gr (Rd.gr (Rd.gr (Rd.gr (Rd.gr hp1_1 Gw1) Gw2) Gw3) Gw13) Gw42)
        have hb := bnd hm; clear hm; obtain ⟨x18, hx18, hm⟩ := hb
        refine dd_z [] rfl rfl rfl (ev_call en_25 rfl (ref03_TwinSecret_w p1 _ _ _ _ _ hx18 _ B171)) ⟨fun _ => tk0, trivial⟩ ?_
        rintro _ w43 ⟨u43_r0_1, z43_r0_1, g43_r0_1, rfl, O43_r0_1, f43_r0_1, Gw43⟩
        have z172 := Gw43.size
        have lt173 := O43_r0_1.lth
        refine ⟨Kz.ofGr Gw43, ?_⟩
        refine sd_fork ?_ ?_
        ·
          refine sdz_leaf ?_
          have B174 := (Rd.gr (Rd.gr (Rd.gr (Rd.gr (Rd.gr (Rd.gr hp2_0 Gw1) Gw2) Gw3) Gw13) Gw42) Gw43)
          have B175 := (Rd.gr (Rd.gr (Rd.gr (Rd.gr (Rd.gr (Rd.gr hp2_2 Gw1) Gw2) Gw3) Gw13) Gw42) Gw43)
          have hb := bnd hm; clear hm; obtain ⟨x19, hx19, hm⟩ := hb
          refine dd_z [] rfl rfl rfl (ev_call en_26 rfl (ref03_TwinHeader_w p2 _ _ _ _ _ _ _ _ _ hx19 _ B174 B175)) ⟨fun _ => tk0, trivial⟩ ?_
          rintro _ w44 ⟨u44_r0_0, z44_r0_0, g44_r0_0, u44_r0_2, z44_r0_2, g44_r0_2, rfl, O44_r0_0, f44_r0_0, O44_r0_2, f44_r0_2, d44_0, Gw44⟩
          have z176 := Gw44.size
          have lt177 := O44_r0_0.lth
          have lt178 := O44_r0_2.lth
          refine ⟨Kz.ofGr Gw44, ?_⟩
          refine dd_z [] rfl rfl rfl (ev_alloc (cs := THeader.cs (THeader.mk [] 0#64 [] k0 k0) (.slice none 0 0) (.slice none 0 0)) zv_45 rfl) ⟨fun _ => tk0, trivial⟩ ?_
          rintro _ w45 ⟨b45, rfl, hbw45, Bw45, Gw45⟩
          have z179 := Gw45.size
          have lt180 := Bw45.lt
          refine ⟨Kz.ofGr Gw45, ?_⟩
          have B181 := (Bx.gr (Bx.gr (Bx.gr Bw42 Gw43) Gw44) Gw45)
          have B182 := (Own.gr (Own.gr O43_r0_1 Gw44) Gw45)
          refine dd_z [(1, b42)] rfl rfl rfl (ev_stM (cs' := TSecret.cs x18 u43_r0_1) (vs := TSecret.cs x18 u43_r0_1) (agg_33).siz rfl rfl rfl rfl (TSecret.cs_ones _ _ (Own.oneB B182)) B181 rfl rfl) ⟨fun _ => tk0, trivial⟩ ?_
          rintro _ w46 ⟨Bw46, Mw46⟩
          have z183 := Mw46.size
          refine ⟨Kz.ofMd Mw46, ?_⟩
          have B184 := (Bx.md Bw45 Mw46)
          have B185 := (Own.md (Own.gr O44_r0_0 Gw45) Mw46 (tk1 ((pv_0 (A := (fun x => x ≠ b42)) f44_r0_0) : z44_r0_0 = 0 ∨ g44_r0_0 ≠ b42)))
          have B186 := (Own.md (Own.gr O44_r0_2 Gw45) Mw46 (tk1 ((pv_0 (A := (fun x => x ≠ b42)) f44_r0_2) : z44_r0_2 = 0 ∨ g44_r0_2 ≠ b42)))
          refine dd_z [(1, b45)] rfl rfl rfl (ev_stM (cs' := THeader.cs x19 u44_r0_0 u44_r0_2) (vs := THeader.cs x19 u44_r0_0 u44_r0_2) (agg_45).siz rfl rfl rfl rfl (THeader.cs_ones _ _ _ (Own.oneB B185) (Own.oneB B186)) B184 rfl rfl) ⟨fun _ => tk0, trivial⟩ ?_
          rintro _ w47 ⟨Bw47, Mw47⟩
          have z187 := Mw47.size
          refine ⟨Kz.ofMd Mw47, ?_⟩
          refine sd_nil ?_
          have K_188 : Kz [] w3 w47 := (Kz.md (Kz.md (Kz.gr (Kz.gr (Kz.gr (Kz.gr (Kz.gr (Kz.refl _ _) Gw13) Gw42) Gw43) Gw44) Gw45) Mw46) Mw47)
          have B189 := (Own.md (Own.md B182 Mw46 (tk1 ((pv_0 (A := (fun x => x ≠ b42)) f43_r0_1) : z43_r0_1 = 0 ∨ g43_r0_1 ≠ b42))) Mw47 (tk1 ((pv_lt (A := (fun x => x ≠ b45)) lt173) : z43_r0_1 = 0 ∨ g43_r0_1 ≠ b45)))
          have B190 := (Bx.md Bw46 Mw47)
          have B191 := (Own.md B185 Mw47 (tk1 ((pv_lt (A := (fun x => x ≠ b45)) lt177) : z44_r0_0 = 0 ∨ g44_r0_0 ≠ b45)))
          have B192 := (Own.md B186 Mw47 (tk1 ((pv_lt (A := (fun x => x ≠ b45)) lt178) : z44_r0_2 = 0 ∨ g44_r0_2 ≠ b45)))
          refine ⟨rfl, ⟨x18, x19, b42, u43_r0_1, z43_r0_1, g43_r0_1, b45, u44_r0_0, z44_r0_0, g44_r0_0, u44_r0_2, z44_r0_2, g44_r0_2⟩, ?_, hm, B189, ⟨(pv_0 (A := (fun x => w3.heap.size ≤ x)) f43_r0_1)⟩, B190, (by omega), B191, ⟨(pv_0 (A := (fun x => w3.heap.size ≤ x)) f44_r0_0)⟩, B192, ⟨(pv_0 (A := (fun x => w3.heap.size ≤ x)) f44_r0_2)⟩, Bw47, (by omega), ⟨(pv_0 (A := (fun x => z43_r0_1 = 0 ∨ x ≠ g43_r0_1)) f44_r0_0 (fun x hx => (tk1 lt173.o)))⟩, ⟨(pv_0 (A := (fun x => z43_r0_1 = 0 ∨ x ≠ g43_r0_1)) f44_r0_2 (fun x hx => (tk1 lt173.o)))⟩, ⟨(tk1 d44_0.o)⟩, ⟨(pv_0 (A := (fun x => x ≠ b42)) f43_r0_1)⟩, ⟨(pv_0 (A := (fun x => x ≠ b42)) f44_r0_0)⟩, ⟨(pv_0 (A := (fun x => x ≠ b42)) f44_r0_2)⟩, (by omega), ⟨(pv_lt (A := (fun x => x ≠ b45)) lt173)⟩, ⟨(pv_lt (A := (fun x => x ≠ b45)) lt177)⟩, ⟨(pv_lt (A := (fun x => x ≠ b45)) lt178)⟩, K_188⟩
          repeat' first | exact trivial | refine ⟨rfl, ?_⟩
        ·
          refine sdz_leaf ?_
          refine dd_z [] rfl rfl rfl (ev_alloc (cs := THeader.cs (THeader.mk [] 0#64 [] k0 k0) (.slice none 0 0) (.slice none 0 0)) zv_45 rfl) ⟨fun _ => tk0, trivial⟩ ?_
          rintro _ w48 ⟨b48, rfl, hbw48, Bw48, Gw48⟩
          have z193 := Gw48.size
          have lt194 := Bw48.lt
          refine ⟨Kz.ofGr Gw48, ?_⟩
          have B195 := (Rd.gr (Rd.gr (Rd.gr (Rd.gr (Rd.gr (Rd.gr (Rd.gr hp2_0 Gw1) Gw2) Gw3) Gw13) Gw42) Gw43) Gw48)
          have B196 := (Rd.gr (Rd.gr (Rd.gr (Rd.gr (Rd.gr (Rd.gr (Rd.gr hp2_2 Gw1) Gw2) Gw3) Gw13) Gw42) Gw43) Gw48)
          have hb := bnd hm; clear hm; obtain ⟨x20, hx20, hm⟩ := hb
          refine dd_z [] rfl rfl rfl (ev_call en_26 rfl (ref03_TwinHeader_w p2 _ _ _ _ _ _ _ _ _ hx20 _ B195 B196)) ⟨fun _ => tk0, trivial⟩ ?_
          rintro _ w49 ⟨u49_r0_0, z49_r0_0, g49_r0_0, u49_r0_2, z49_r0_2, g49_r0_2, rfl, O49_r0_0, f49_r0_0, O49_r0_2, f49_r0_2, d49_0, Gw49⟩
          have z197 := Gw49.size
          have lt198 := O49_r0_0.lth
          have lt199 := O49_r0_2.lth
          refine ⟨Kz.ofGr Gw49, ?_⟩
          have B200 := (Bx.gr (Bx.gr (Bx.gr Bw42 Gw43) Gw48) Gw49)
          have B201 := (Own.gr (Own.gr O43_r0_1 Gw48) Gw49)
          refine dd_z [(1, b42)] rfl rfl rfl (ev_stM (cs' := TSecret.cs x18 u43_r0_1) (vs := TSecret.cs x18 u43_r0_1) (agg_33).siz rfl rfl rfl rfl (TSecret.cs_ones _ _ (Own.oneB B201)) B200 rfl rfl) ⟨fun _ => tk0, trivial⟩ ?_
          rintro _ w50 ⟨Bw50, Mw50⟩
          have z202 := Mw50.size
          refine ⟨Kz.ofMd Mw50, ?_⟩
          have B203 := (Bx.md (Bx.gr Bw48 Gw49) Mw50)
          have B204 := (Own.md O49_r0_0 Mw50 (tk1 ((pv_0 (A := (fun x => x ≠ b42)) f49_r0_0) : z49_r0_0 = 0 ∨ g49_r0_0 ≠ b42)))
          have B205 := (Own.md O49_r0_2 Mw50 (tk1 ((pv_0 (A := (fun x => x ≠ b42)) f49_r0_2) : z49_r0_2 = 0 ∨ g49_r0_2 ≠ b42)))
          refine dd_z [(1, b48)] rfl rfl rfl (ev_stM (cs' := THeader.cs x20 u49_r0_0 u49_r0_2) (vs := THeader.cs x20 u49_r0_0 u49_r0_2) (agg_45).siz rfl rfl rfl rfl (THeader.cs_ones _ _ _ (Own.oneB B204) (Own.oneB B205)) B203 rfl rfl) ⟨fun _ => tk0, trivial⟩ ?_
          rintro _ w51 ⟨Bw51, Mw51⟩
          have z206 := Mw51.size
          refine ⟨Kz.ofMd Mw51, ?_⟩
          refine sd_nil ?_
          have K_207 : Kz [] w3 w51 := (Kz.md (Kz.md (Kz.gr (Kz.gr (Kz.gr (Kz.gr (Kz.gr (Kz.refl _ _) Gw13) Gw42) Gw43) Gw48) Gw49) Mw50) Mw51)
          have B208 := (Own.md (Own.md B201 Mw50 (tk1 ((pv_0 (A := (fun x => x ≠ b42)) f43_r0_1) : z43_r0_1 = 0 ∨ g43_r0_1 ≠ b42))) Mw51 (tk1 ((pv_lt (A := (fun x => x ≠ b48)) lt173) : z43_r0_1 = 0 ∨ g43_r0_1 ≠ b48)))
          have B209 := (Bx.md Bw50 Mw51)
          have B210 := (Own.md B204 Mw51 (tk1 ((pv_0 (A := (fun x => x ≠ b48)) f49_r0_0) : z49_r0_0 = 0 ∨ g49_r0_0 ≠ b48)))
          have B211 := (Own.md B205 Mw51 (tk1 ((pv_0 (A := (fun x => x ≠ b48)) f49_r0_2) : z49_r0_2 = 0 ∨ g49_r0_2 ≠ b48)))
          refine ⟨rfl, ⟨x18, x20, b42, u43_r0_1, z43_r0_1, g43_r0_1, b48, u49_r0_0, z49_r0_0, g49_r0_0, u49_r0_2, z49_r0_2, g49_r0_2⟩, ?_, hm, B208, ⟨(pv_0 (A := (fun x => w3.heap.size ≤ x)) f43_r0_1)⟩, B209, (by omega), B210, ⟨(pv_0 (A := (fun x => w3.heap.size ≤ x)) f49_r0_0)⟩, B211, ⟨(pv_0 (A := (fun x => w3.heap.size ≤ x)) f49_r0_2)⟩, Bw51, (by omega), ⟨(pv_0 (A := (fun x => z43_r0_1 = 0 ∨ x ≠ g43_r0_1)) f49_r0_0 (fun x hx => (tk1 lt173.o)))⟩, ⟨(pv_0 (A := (fun x => z43_r0_1 = 0 ∨ x ≠ g43_r0_1)) f49_r0_2 (fun x hx => (tk1 lt173.o)))⟩, ⟨(tk1 d49_0.o)⟩, ⟨(pv_0 (A := (fun x => x ≠ b42)) f43_r0_1)⟩, ⟨(pv_0 (A := (fun x => x ≠ b42)) f49_r0_0)⟩, ⟨(pv_0 (A := (fun x => x ≠ b42)) f49_r0_2)⟩, (by omega), ⟨(pv_lt (A := (fun x => x ≠ b48)) lt173)⟩, ⟨(pv_0 (A := (fun x => x ≠ b48)) f49_r0_0)⟩, ⟨(pv_0 (A := (fun x => x ≠ b48)) f49_r0_2)⟩, K_207⟩
          repeat' first | exact trivial | refine ⟨rfl, ?_⟩
      ·
        refine sdz_leaf ?_
        refine dd_z [] rfl rfl rfl (ev_alloc (cs := THeader.cs (THeader.mk [] 0#64 [] k0 k0) (.slice none 0 0) (.slice none 0 0)) zv_45 rfl) ⟨fun _ => tk0, trivial⟩ ?_
        rintro _ w52 ⟨b52, rfl, hbw52, Bw52, Gw52⟩
        have z212 := Gw52.size
        have lt213 := Bw52.lt
        refine ⟨Kz.ofGr Gw52, ?_⟩
        have B214 := (Rd.gr (Rd.gr (Rd.gr (Rd.gr (Rd.gr (Rd.gr hp1_1 Gw1) Gw2) Gw3) Gw13) Gw42) Gw52)
        have hb := bnd hm; clear hm; obtain ⟨x21, hx21, hm⟩ := hb
        refine dd_z [] rfl rfl rfl (ev_call en_25 rfl (ref03_TwinSecret_w p1 _ _ _ _ _ hx21 _ B214)) ⟨fun _ => tk0, trivial⟩ ?_
        rintro _ w53 ⟨u53_r0_1, z53_r0_1, g53_r0_1, rfl, O53_r0_1, f53_r0_1, Gw53⟩
        have z215 := Gw53.size
        have lt216 := O53_r0_1.lth
        refine ⟨Kz.ofGr Gw53, ?_⟩
        have B217 := (Rd.gr (Rd.gr (Rd.gr (Rd.gr (Rd.gr (Rd.gr (Rd.gr hp2_0 Gw1) Gw2) Gw3) Gw13) Gw42) Gw52) Gw53)
        have B218 := (Rd.gr (Rd.gr (Rd.gr (Rd.gr (Rd.gr (Rd.gr (Rd.gr hp2_2 Gw1) Gw2) Gw3) Gw13) Gw42) Gw52) Gw53)
        have hb := bnd hm; clear hm; obtain ⟨x22, hx22, hm⟩ := hb
        refine dd_z [] rfl rfl rfl (ev_call en_26 rfl (ref03_TwinHeader_w p2 _ _ _ _ _ _ _ _ _ hx22 _ B217 B218)) ⟨fun _ => tk0, trivial⟩ ?_
        rintro _ w54 ⟨u54_r0_0, z54_r0_0, g54_r0_0, u54_r0_2, z54_r0_2, g54_r0_2, rfl, O54_r0_0, f54_r0_0, O54_r0_2, f54_r0_2, d54_0, Gw54⟩
        have z219 := Gw54.size
        have lt220 := O54_r0_0.lth
        have lt221 := O54_r0_2.lth
        refine ⟨Kz.ofGr Gw54, ?_⟩
        have B222 := (Bx.gr (Bx.gr (Bx.gr Bw42 Gw52) Gw53) Gw54)
        have B223 := (Own.gr O53_r0_1 Gw54)
        refine dd_z [(1, b42)] rfl rfl rfl (ev_stM (cs' := TSecret.cs x21 u53_r0_1) (vs := TSecret.cs x21 u53_r0_1) (agg_33).siz rfl rfl rfl rfl (TSecret.cs_ones _ _ (Own.oneB B223)) B222 rfl rfl) ⟨fun _ => tk0, trivial⟩ ?_
        rintro _ w55 ⟨Bw55, Mw55⟩
        have z224 := Mw55.size
        refine ⟨Kz.ofMd Mw55, ?_⟩
        have B225 := (Bx.md (Bx.gr (Bx.gr Bw52 Gw53) Gw54) Mw55)
        have B226 := (Own.md O54_r0_0 Mw55 (tk1 ((pv_0 (A := (fun x => x ≠ b42)) f54_r0_0) : z54_r0_0 = 0 ∨ g54_r0_0 ≠ b42)))
        have B227 := (Own.md O54_r0_2 Mw55 (tk1 ((pv_0 (A := (fun x => x ≠ b42)) f54_r0_2) : z54_r0_2 = 0 ∨ g54_r0_2 ≠ b42)))
        refine dd_z [(1, b52)] rfl rfl rfl (ev_stM (cs' := THeader.cs x22 u54_r0_0 u54_r0_2) (vs := THeader.cs x22 u54_r0_0 u54_r0_2) (agg_45).siz rfl rfl rfl rfl (THeader.cs_ones _ _ _ (Own.oneB B226) (Own.oneB B227)) B225 rfl rfl) ⟨fun _ => tk0, trivial⟩ ?_
        rintro _ w56 ⟨Bw56, Mw56⟩
        have z228 := Mw56.size
        refine ⟨Kz.ofMd Mw56, ?_⟩
        refine sd_nil ?_
        have K_229 : Kz [] w3 w56 := (Kz.md (Kz.md (Kz.gr (Kz.gr (Kz.gr (Kz.gr (Kz.gr (Kz.refl _ _) Gw13) Gw42) Gw52) Gw53) Gw54) Mw55) Mw56)
        have B230 := (Own.md (Own.md B223 Mw55 (tk1 ((pv_0 (A := (fun x => x ≠ b42)) f53_r0_1) : z53_r0_1 = 0 ∨ g53_r0_1 ≠ b42))) Mw56 (tk1 ((pv_0 (A := (fun x => x ≠ b52)) f53_r0_1) : z53_r0_1 = 0 ∨ g53_r0_1 ≠ b52)))
        have B231 := (Bx.md Bw55 Mw56)
        have B232 := (Own.md B226 Mw56 (tk1 ((pv_0 (A := (fun x => x ≠ b52)) f54_r0_0) : z54_r0_0 = 0 ∨ g54_r0_0 ≠ b52)))
        have B233 := (Own.md B227 Mw56 (tk1 ((pv_0 (A := (fun x => x ≠ b52)) f54_r0_2) : z54_r0_2 = 0 ∨ g54_r0_2 ≠ b52)))
        refine ⟨rfl, ⟨x21, x22, b42, u53_r0_1, z53_r0_1, g53_r0_1, b52, u54_r0_0, z54_r0_0, g54_r0_0, u54_r0_2, z54_r0_2, g54_r0_2⟩, ?_, hm, B230, ⟨(pv_0 (A := (fun x => w3.heap.size ≤ x)) f53_r0_1)⟩, B231, (by omega), B232, ⟨(pv_0 (A := (fun x => w3.heap.size ≤ x)) f54_r0_0)⟩, B233, ⟨(pv_0 (A := (fun x => w3.heap.size ≤ x)) f54_r0_2)⟩, Bw56, (by omega), ⟨(pv_0 (A := (fun x => z53_r0_1 = 0 ∨ x ≠ g53_r0_1)) f54_r0_0 (fun x hx => (tk1 lt216.o)))⟩, ⟨(pv_0 (A := (fun x => z53_r0_1 = 0 ∨ x ≠ g53_r0_1)) f54_r0_2 (fun x hx => (tk1 lt216.o)))⟩, ⟨(tk1 d54_0.o)⟩, ⟨(pv_0 (A := (fun x => x ≠ b42)) f53_r0_1)⟩, ⟨(pv_0 (A := (fun x => x ≠ b42)) f54_r0_0)⟩, ⟨(pv_0 (A := (fun x => x ≠ b42)) f54_r0_2)⟩, (by omega), ⟨(pv_0 (A := (fun x => x ≠ b52)) f53_r0_1)⟩, ⟨(pv_0 (A := (fun x => x ≠ b52)) f54_r0_0)⟩, ⟨(pv_0 (A := (fun x => x ≠ b52)) f54_r0_2)⟩, K_229⟩
        repeat' first | exact trivial | refine ⟨rfl, ?_⟩
    ·
      refine sdz_fork ?_
      refine dd_z [] rfl rfl rfl (ev_alloc (cs := THeader.cs (THeader.mk [] 0#64 [] k0 k0) (.slice none 0 0) (.slice none 0 0)) zv_45 rfl) ⟨fun _ => tk0, trivial⟩ ?_
      rintro _ w57 ⟨b57, rfl, hbw57, Bw57, Gw57⟩
      have z234 := Gw57.size
      have lt235 := Bw57.lt
      refine ⟨Kz.ofGr Gw57, ?_⟩
      refine sd_fork ?_ ?_
      ·
        refine sdz_fork ?_
        have B236 := (Rd.gr (Rd.gr (Rd.gr (Rd.gr (Rd.gr hp1_1 Gw1) Gw2) Gw3) Gw13) Gw57)
        have hb := bnd hm; clear hm; obtain ⟨x23, hx23, hm⟩ := hb
        refine dd_z [] rfl rfl rfl (ev_call en_25 rfl (ref03_TwinSecret_w p1 _ _ _ _ _ hx23 _ B236)) ⟨fun _ => tk0, trivial⟩ ?_
        rintro _ w58 ⟨u58_r0_1, z58_r0_1, g58_r0_1, rfl, O58_r0_1, f58_r0_1, Gw58⟩
        have z237 := Gw58.size
        have lt238 := O58_r0_1.lth
        refine ⟨Kz.ofGr Gw58, ?_⟩
        refine sd_fork ?_ ?_
        ·
          refine sdz_leaf ?_
          have B239 := (Rd.gr (Rd.gr (Rd.gr (Rd.gr (Rd.gr (Rd.gr hp2_0 Gw1) Gw2) Gw3) Gw13) Gw57) Gw58)
          have B240 := (Rd.gr (Rd.gr (Rd.gr (Rd.gr (Rd.gr (Rd.gr hp2_2 Gw1) Gw2) Gw3) Gw13) Gw57) Gw58)
          have hb := bnd hm; clear hm; obtain ⟨x24, hx24, hm⟩ := hb
          refine dd_z [] rfl rfl rfl (ev_call en_26 rfl (ref03_TwinHeader_w p2 _ _ _ _ _ _ _ _ _ hx24 _ B239 B240)) ⟨fun _ => tk0, trivial⟩ ?_
          rintro _ w59 ⟨u59_r0_0, z59_r0_0, g59_r0_0, u59_r0_2, z59_r0_2, g59_r0_2, rfl, O59_r0_0, f59_r0_0, O59_r0_2, f59_r0_2, d59_0, Gw59⟩
          have z241 := Gw59.size
          have lt242 := O59_r0_0.lth
          have lt243 := O59_r0_2.lth
          refine ⟨Kz.ofGr Gw59, ?_⟩
          refine dd_z [] rfl rfl rfl (ev_alloc (cs := TSecret.cs (TSecret.mk 0 [] (TPoint.mk 0#64 0#64)) (.slice none 0 0)) zv_33 rfl) ⟨fun _ => tk0, trivial⟩ ?_
          rintro _ w60 ⟨b60, rfl, hbw60, Bw60, Gw60⟩
          have z244 := Gw60.size
          have lt245 := Bw60.lt
          refine ⟨Kz.ofGr Gw60, ?_⟩
          have B246 := (Own.gr (Own.gr O58_r0_1 Gw59) Gw60)
          refine dd_z [(1, b60)] rfl rfl rfl (ev_stM (cs' := TSecret.cs x23 u58_r0_1) (vs := TSecret.cs x23 u58_r0_1) (agg_33).siz rfl rfl rfl rfl (TSecret.cs_ones _ _ (Own.oneB B246)) Bw60 rfl rfl) ⟨fun _ => tk0, trivial⟩ ?_
          rintro _ w61 ⟨Bw61, Mw61⟩
          have z247 := Mw61.size
          refine ⟨Kz.ofMd Mw61, ?_⟩
          have B248 := (Bx.md (Bx.gr (Bx.gr (Bx.gr Bw57 Gw58) Gw59) Gw60) Mw61)
          have B249 := (Own.md (Own.gr O59_r0_0 Gw60) Mw61 (tk1 ((pv_lt (A := (fun x => x ≠ b60)) lt242) : z59_r0_0 = 0 ∨ g59_r0_0 ≠ b60)))
          have B250 := (Own.md (Own.gr O59_r0_2 Gw60) Mw61 (tk1 ((pv_lt (A := (fun x => x ≠ b60)) lt243) : z59_r0_2 = 0 ∨ g59_r0_2 ≠ b60)))
          refine dd_z [(1, b57)] rfl rfl rfl (ev_stM (cs' := THeader.cs x24 u59_r0_0 u59_r0_2) (vs := THeader.cs x24 u59_r0_0 u59_r0_2) (agg_45).siz rfl rfl rfl rfl (THeader.cs_ones _ _ _ (Own.oneB B249) (Own.oneB B250)) B248 rfl rfl) ⟨fun _ => tk0, trivial⟩ ?_
          rintro _ w62 ⟨Bw62, Mw62⟩
          have z251 := Mw62.size
          refine ⟨Kz.ofMd Mw62, ?_⟩
          refine sd_nil ?_
          have K_252 : Kz [] w3 w62 := (Kz.md (Kz.md (Kz.gr (Kz.gr (Kz.gr (Kz.gr (Kz.gr (Kz.refl _ _) Gw13) Gw57) Gw58) Gw59) Gw60) Mw61) Mw62)
          have B253 := (Own.md (Own.md B246 Mw61 (tk1 ((pv_lt (A := (fun x => x ≠ b60)) lt238) : z58_r0_1 = 0 ∨ g58_r0_1 ≠ b60))) Mw62 (tk1 ((pv_0 (A := (fun x => x ≠ b57)) f58_r0_1) : z58_r0_1 = 0 ∨ g58_r0_1 ≠ b57)))
          have B254 := (Bx.md Bw61 Mw62)
          have B255 := (Own.md B249 Mw62 (tk1 ((pv_0 (A := (fun x => x ≠ b57)) f59_r0_0) : z59_r0_0 = 0 ∨ g59_r0_0 ≠ b57)))
          have B256 := (Own.md B250 Mw62 (tk1 ((pv_0 (A := (fun x => x ≠ b57)) f59_r0_2) : z59_r0_2 = 0 ∨ g59_r0_2 ≠ b57)))
          refine ⟨rfl, ⟨x23, x24, b60, u58_r0_1, z58_r0_1, g58_r0_1, b57, u59_r0_0, z59_r0_0, g59_r0_0, u59_r0_2, z59_r0_2, g59_r0_2⟩, ?_, hm, B253, ⟨(pv_0 (A := (fun x => w3.heap.size ≤ x)) f58_r0_1)⟩, B254, (by omega), B255, ⟨(pv_0 (A := (fun x => w3.heap.size ≤ x)) f59_r0_0)⟩, B256, ⟨(pv_0 (A := (fun x => w3.heap.size ≤ x)) f59_r0_2)⟩, Bw62, (by omega), ⟨(pv_0 (A := (fun x => z58_r0_1 = 0 ∨ x ≠ g58_r0_1)) f59_r0_0 (fun x hx => (tk1 lt238.o)))⟩, ⟨(pv_0 (A := (fun x => z58_r0_1 = 0 ∨ x ≠ g58_r0_1)) f59_r0_2 (fun x hx => (tk1 lt238.o)))⟩, ⟨(tk1 d59_0.o)⟩, ⟨(pv_lt (A := (fun x => x ≠ b60)) lt238)⟩, ⟨(pv_lt (A := (fun x => x ≠ b60)) lt242)⟩, ⟨(pv_lt (A := (fun x => x ≠ b60)) lt243)⟩, (by omega), ⟨(pv_0 (A := (fun x => x ≠ b57)) f58_r0_1)⟩, ⟨(pv_0 (A := (fun x => x ≠ b57)) f59_r0_0)⟩, ⟨(pv_0 (A := (fun x => x ≠ b57)) f59_r0_2)⟩, K_252⟩
          repeat' first | exact trivial | refine ⟨rfl, ?_⟩
        ·
          refine sdz_leaf ?_
          refine dd_z [] rfl rfl rfl (ev_alloc (cs := TSecret.cs (TSecret.mk 0 [] (TPoint.mk 0#64 0#64)) (.slice none 0 0)) zv_33 rfl) ⟨fun _ => tk0, trivial⟩ ?_
          rintro _ w63 ⟨b63, rfl, hbw63, Bw63, Gw63⟩
          have z257 := Gw63.size
          have lt258 := Bw63.lt
          refine ⟨Kz.ofGr Gw63, ?_⟩
          have B259 := (Rd.gr (Rd.gr (Rd.gr (Rd.gr (Rd.gr (Rd.gr (Rd.gr hp2_0 Gw1) Gw2) Gw3) Gw13) Gw57) Gw58) Gw63)
          have B260 := (Rd.gr (Rd.gr (Rd.gr (Rd.gr (Rd.gr (Rd.gr (Rd.gr hp2_2 Gw1) Gw2) Gw3) Gw13) Gw57) Gw58) Gw63)
          have hb := bnd hm; clear hm; obtain ⟨x25, hx25, hm⟩ := hb
          refine dd_z [] rfl rfl rfl (ev_call en_26 rfl (ref03_TwinHeader_w p2 _ _ _ _ _ _ _ _ _ hx25 _ B259 B260)) ⟨fun _ => tk0, trivial⟩ ?_
          rintro _ w64 ⟨u64_r0_0, z64_r0_0, g64_r0_0, u64_r0_2, z64_r0_2, g64_r0_2, rfl, O64_r0_0, f64_r0_0, O64_r0_2, f64_r0_2, d64_0, Gw64⟩
          have z261 := Gw64.size
          have lt262 := O64_r0_0.lth
          have lt263 := O64_r0_2.lth
          refine ⟨Kz.ofGr Gw64, ?_⟩
          have B264 := (Bx.gr Bw63 Gw64)
          have B265 := (Own.gr (Own.gr O58_r0_1 Gw63) Gw64)
          refine dd_z [(1, b63)] rfl rfl rfl (ev_stM (cs' := TSecret.cs x23 u58_r0_1) (vs := TSecret.cs x23 u58_r0_1) (agg_33).siz rfl rfl rfl rfl (TSecret.cs_ones _ _ (Own.oneB B265)) B264 rfl rfl) ⟨fun _ => tk0, trivial⟩ ?_
          rintro _ w65 ⟨Bw65, Mw65⟩
          have z266 := Mw65.size
          refine ⟨Kz.ofMd Mw65, ?_⟩
          have B267 := (Bx.md (Bx.gr (Bx.gr (Bx.gr Bw57 Gw58) Gw63) Gw64) Mw65)
          have B268 := (Own.md O64_r0_0 Mw65 (tk1 ((pv_0 (A := (fun x => x ≠ b63)) f64_r0_0) : z64_r0_0 = 0 ∨ g64_r0_0 ≠ b63)))
          have B269 := (Own.md O64_r0_2 Mw65 (tk1 ((pv_0 (A := (fun x => x ≠ b63)) f64_r0_2) : z64_r0_2 = 0 ∨ g64_r0_2 ≠ b63)))
          refine dd_z [(1, b57)] rfl rfl rfl (ev_stM (cs' := THeader.cs x25 u64_r0_0 u64_r0_2) (vs := THeader.cs x25 u64_r0_0 u64_r0_2) (agg_45).siz rfl rfl rfl rfl (THeader.cs_ones _ _ _ (Own.oneB B268) (Own.oneB B269)) B267 rfl rfl) ⟨fun _ => tk0, trivial⟩ ?_
          rintro _ w66 ⟨Bw66, Mw66⟩
          have z270 := Mw66.size
          refine ⟨Kz.ofMd Mw66, ?_⟩
          refine sd_nil ?_
          have K_271 : Kz [] w3 w66 := (Kz.md (Kz.md (Kz.gr (Kz.gr (Kz.gr (Kz.gr (Kz.gr (Kz.refl _ _) Gw13) Gw57) Gw58) Gw63) Gw64) Mw65) Mw66)
          have B272 := (Own.md (Own.md B265 Mw65 (tk1 ((pv_lt (A := (fun x => x ≠ b63)) lt238) : z58_r0_1 = 0 ∨ g58_r0_1 ≠ b63))) Mw66 (tk1 ((pv_0 (A := (fun x => x ≠ b57)) f58_r0_1) : z58_r0_1 = 0 ∨ g58_r0_1 ≠ b57)))
          have B273 := (Bx.md Bw65 Mw66)
          have B274 := (Own.md B268 Mw66 (tk1 ((pv_0 (A := (fun x => x ≠ b57)) f64_r0_0) : z64_r0_0 = 0 ∨ g64_r0_0 ≠ b57)))
          have B275 := (Own.md B269 Mw66 (tk1 ((pv_0 (A := (fun x => x ≠ b57)) f64_r0_2) : z64_r0_2 = 0 ∨ g64_r0_2 ≠ b57)))
          refine ⟨rfl, ⟨x23, x25, b63, u58_r0_1, z58_r0_1, g58_r0_1, b57, u64_r0_0, z64_r0_0, g64_r0_0, u64_r0_2, z64_r0_2, g64_r0_2⟩, ?_, hm, B272, ⟨(pv_0 (A := (fun x => w3.heap.size ≤ x)) f58_r0_1)⟩, B273, (by omega), B274, ⟨(pv_0 (A := (fun x => w3.heap.size ≤ x)) f64_r0_0)⟩, B275, ⟨(pv_0 (A := (fun x => w3.heap.size ≤ x)) f64_r0_2)⟩, Bw66, (by omega), ⟨(pv_0 (A := (fun x => z58_r0_1 = 0 ∨ x ≠ g58_r0_1)) f64_r0_0 (fun x hx => (tk1 lt238.o)))⟩, ⟨(pv_0 (A := (fun x => z58_r0_1 = 0 ∨ x ≠ g58_r0_1)) f64_r0_2 (fun x hx => (tk1 lt238.o)))⟩, ⟨(tk1 d64_0.o)⟩, ⟨(pv_lt (A := (fun x => x ≠ b63)) lt238)⟩, ⟨(pv_0 (A := (fun x => x ≠ b63)) f64_r0_0)⟩, ⟨(pv_0 (A := (fun x => x ≠ b63)) f64_r0_2)⟩, (by omega), ⟨(pv_0 (A := (fun x => x ≠ b57)) f58_r0_1)⟩, ⟨(pv_0 (A := (fun x => x ≠ b57)) f64_r0_0)⟩, ⟨(pv_0 (A := (fun x => x ≠ b57)) f64_r0_2)⟩, K_271⟩
          repeat' first | exact trivial | refine ⟨rfl, ?_⟩
      ·
        refine sdz_leaf ?_
        refine dd_z [] rfl rfl rfl (ev_alloc (cs := TSecret.cs (TSecret.mk 0 [] (TPoint.mk 0#64 0#64)) (.slice none 0 0)) zv_33 rfl) ⟨fun _ => tk0, trivial⟩ ?_
        rintro _ w67 ⟨b67, rfl, hbw67, Bw67, Gw67⟩
        have z276 := Gw67.size
        have lt277 := Bw67.lt
        refine ⟨Kz.ofGr Gw67, ?_⟩
        have B278 := (Rd.gr (Rd.gr (Rd.gr (Rd.gr (Rd.gr (Rd.gr hp1_1 Gw1) Gw2) Gw3) Gw13) Gw57) Gw67)
        have hb := bnd hm; clear hm; obtain ⟨x26, hx26, hm⟩ := hb
        refine dd_z [] rfl rfl rfl (ev_call en_25 rfl (ref03_TwinSecret_w p1 _ _ _ _ _ hx26 _ B278)) ⟨fun _ => tk0, trivial⟩ ?_
        rintro _ w68 ⟨u68_r0_1, z68_r0_1, g68_r0_1, rfl, O68_r0_1, f68_r0_1, Gw68⟩
        have z279 := Gw68.size
        have lt280 := O68_r0_1.lth
        refine ⟨Kz.ofGr Gw68, ?_⟩
        have B281 := (Rd.gr (Rd.gr (Rd.gr (Rd.gr (Rd.gr (Rd.gr (Rd.gr hp2_0 Gw1) Gw2) Gw3) Gw13) Gw57) Gw67) Gw68)
        have B282 := (Rd.gr (Rd.gr (Rd.gr (Rd.gr (Rd.gr (Rd.gr (Rd.gr hp2_2 Gw1) Gw2) Gw3) Gw13) Gw57) Gw67) Gw68)
        have hb := bnd hm; clear hm; obtain ⟨x27, hx27, hm⟩ := hb
        refine dd_z [] rfl rfl rfl (ev_call en_26 rfl (ref03_TwinHeader_w p2 _ _ _ _ _ _ _ _ _ hx27 _ B281 B282)) ⟨fun _ => tk0, trivial⟩ ?_
        rintro _ w69 ⟨u69_r0_0, z69_r0_0, g69_r0_0, u69_r0_2, z69_r0_2, g69_r0_2, rfl, O69_r0_0, f69_r0_0, O69_r0_2, f69_r0_2, d69_0, Gw69⟩
        have z283 := Gw69.size
        have lt284 := O69_r0_0.lth
        have lt285 := O69_r0_2.lth
        refine ⟨Kz.ofGr Gw69, ?_⟩
        have B286 := (Bx.gr (Bx.gr Bw67 Gw68) Gw69)
        have B287 := (Own.gr O68_r0_1 Gw69)
        refine dd_z [(1, b67)] rfl rfl rfl (ev_stM (cs' := TSecret.cs x26 u68_r0_1) (vs := TSecret.cs x26 u68_r0_1) (agg_33).siz rfl rfl rfl rfl (TSecret.cs_ones _ _ (Own.oneB B287)) B286 rfl rfl) ⟨fun _ => tk0, trivial⟩ ?_
        rintro _ w70 ⟨Bw70, Mw70⟩
        have z288 := Mw70.size
        refine ⟨Kz.ofMd Mw70, ?_⟩
        have B289 := (Bx.md (Bx.gr (Bx.gr (Bx.gr Bw57 Gw67) Gw68) Gw69) Mw70)
        have B290 := (Own.md O69_r0_0 Mw70 (tk1 ((pv_0 (A := (fun x => x ≠ b67)) f69_r0_0) : z69_r0_0 = 0 ∨ g69_r0_0 ≠ b67)))
        have B291 := (Own.md O69_r0_2 Mw70 (tk1 ((pv_0 (A := (fun x => x ≠ b67)) f69_r0_2) : z69_r0_2 = 0 ∨ g69_r0_2 ≠ b67)))
        refine dd_z [(1, b57)] rfl rfl rfl (ev_stM (cs' := THeader.cs x27 u69_r0_0 u69_r0_2) (vs := THeader.cs x27 u69_r0_0 u69_r0_2) (agg_45).siz rfl rfl rfl rfl (THeader.cs_ones _ _ _ (Own.oneB B290) (Own.oneB B291)) B289 rfl rfl) ⟨fun _ => tk0, trivial⟩ ?_
        rintro _ w71 ⟨Bw71, Mw71⟩
        have z292 := Mw71.size
        refine ⟨Kz.ofMd Mw71, ?_⟩
        refine sd_nil ?_
        have K_293 : Kz [] w3 w71 := (Kz.md (Kz.md (Kz.gr (Kz.gr (Kz.gr (Kz.gr (Kz.gr (Kz.refl _ _) Gw13) Gw57) Gw67) Gw68) Gw69) Mw70) Mw71)
        have B294 := (Own.md (Own.md B287 Mw70 (tk1 ((pv_0 (A := (fun x => x ≠ b67)) f68_r0_1) : z68_r0_1 = 0 ∨ g68_r0_1 ≠ b67))) Mw71 (tk1 ((pv_0 (A := (fun x => x ≠ b57)) f68_r0_1) : z68_r0_1 = 0 ∨ g68_r0_1 ≠ b57)))
        have B295 := (Bx.md Bw70 Mw71)
        have B296 := (Own.md B290 Mw71 (tk1 ((pv_0 (A := (fun x => x ≠ b57)) f69_r0_0) : z69_r0_0 = 0 ∨ g69_r0_0 ≠ b57)))
        have B297 := (Own.md B291 Mw71 (tk1 ((pv_0 (A := (fun x => x ≠ b57)) f69_r0_2) : z69_r0_2 = 0 ∨ g69_r0_2 ≠ b57)))
        refine ⟨rfl, ⟨x26, x27, b67, u68_r0_1, z68_r0_1, g68_r0_1, b57, u69_r0_0, z69_r0_0, g69_r0_0, u69_r0_2, z69_r0_2, g69_r0_2⟩, ?_, hm, B294, ⟨(pv_0 (A := (fun x => w3.heap.size ≤ x)) f68_r0_1)⟩, B295, (by omega), B296, ⟨(pv_0 (A := (fun x => w3.heap.size ≤ x)) f69_r0_0)⟩, B297, ⟨(pv_0 (A := (fun x => w3.heap.size ≤ x)) f69_r0_2)⟩, Bw71, (by omega), ⟨(pv_0 (A := (fun x => z68_r0_1 = 0 ∨ x ≠ g68_r0_1)) f69_r0_0 (fun x hx => (tk1 lt280.o)))⟩, ⟨(pv_0 (A := (fun x => z68_r0_1 = 0 ∨ x ≠ g68_r0_1)) f69_r0_2 (fun x hx => (tk1 lt280.o)))⟩, ⟨(tk1 d69_0.o)⟩, ⟨(pv_0 (A := (fun x => x ≠ b67)) f68_r0_1)⟩, ⟨(pv_0 (A := (fun x => x ≠ b67)) f69_r0_0)⟩, ⟨(pv_0 (A := (fun x => x ≠ b67)) f69_r0_2)⟩, (by omega), ⟨(pv_0 (A := (fun x => x ≠ b57)) f68_r0_1)⟩, ⟨(pv_0 (A := (fun x => x ≠ b57)) f69_r0_0)⟩, ⟨(pv_0 (A := (fun x => x ≠ b57)) f69_r0_2)⟩, K_293⟩
        repeat' first | exact trivial | refine ⟨rfl, ?_⟩
end Go.Proofs.Ytkdghilkigojgaa.Mx
