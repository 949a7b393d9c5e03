/- Walks that follow mirrors: Qg. Printed by mx.py. -/
import Derived.Test.YtkdghilkigojgaaXl
import Derived.Test.YtkdghilkigojgaaQgM
set_option linter.unusedVariables false
set_option linter.unusedSimpArgs false
set_option maxRecDepth 100000
namespace Go.Proofs.Ytkdghilkigojgaa.Mx
open Go Go.RowKit Go.Sx
theorem en_49 : En Try.prog 49 := fun _ _ => by kernel_rfl
theorem cv_5_3 : CV Try.prog 5 3 .i64 := fun _ _ _ => by kernel_rfl
theorem en_58 : En Try.prog 58 := fun _ _ => by kernel_rfl
theorem en_59 : En Try.prog 59 := fun _ _ => by kernel_rfl

set_option maxHeartbeats 2000000 in
theorem law04_punctured_w (p0 : W2) (p1 : Int) (p2 : List (BitVec 8)) (vp2 : Value) (zp2 gp2 op2 : Nat) (r : TPunctured × Bool) (hm : law04_punctured p0 p1 p2 = some r) (w : World) (hp2 : Rd w zp2 gp2 op2 1 vp2 (p2.map bvc))  :
    Calls Try.prog 58 [kv p0, .int .i64 p1, vp2].toArray w fun e w' => ∃ v, e = .returned v ∧ (∃ (ur0_1 : Value) (zr0_1 : Nat) (gr0_1 : Nat), v = .tuple [.agg (TPunctured.cs r.1 ur0_1).toArray, .bool r.2].toArray ∧ Own w' zr0_1 gr0_1 88 18 ur0_1 (r.1.Labels.map TLabel.cs) ∧ Hdn (zr0_1 = 0 ∨ w.heap.size ≤ gr0_1) ∧ Gr w w') := by
  have lt1 := hp2.lth
  unfold law04_punctured at hm
  refine calls_of_sw (R := fun v w' => ∃ (ur0_1 : Value) (zr0_1 : Nat) (gr0_1 : Nat), v = .tuple [.agg (TPunctured.cs r.1 ur0_1).toArray, .bool r.2].toArray ∧ Own w' zr0_1 gr0_1 88 18 ur0_1 (r.1.Labels.map TLabel.cs) ∧ Hdn (zr0_1 = 0 ∨ w.heap.size ≤ gr0_1) ∧ Gr w w') 51 Try.func58 rfl rfl rfl ?_
  refine sw_seq ?_
  -- region 0 outright.go:261
  refine sw_region [(0, 0), (1, 0), (2, 0)] rfl rfl rfl ?_
  refine sd_ev rfl rfl rfl (ev_box (cs := kb p0) rfl rfl) ?_
  rintro _ w1 ⟨b1, rfl, hbw1, Bw1, Gw1⟩
  have z2 := Gw1.size
  have lt3 := Bw1.lt
  refine sd_ev rfl rfl rfl (ev_alloc (cs := TPunctured.cs (TPunctured.mk 0 []) (.slice none 0 0)) zv_76 rfl) ?_
  rintro _ w2 ⟨b2, rfl, hbw2, Bw2, Gw2⟩
  have z4 := Gw2.size
  have lt5 := Bw2.lt
  refine sd_vv rfl rfl rfl (vv_assign rfl) ?_
  refine sd_done ?_
  refine sw_seq ?_
  -- region 1 outright.go:262
  refine sw_region [(0, 0), (1, 0), (2, 0), (3, 0), (4, 0), (5, 0), (6, 0), (7, 0), (8, 0)] rfl rfl rfl ?_
  have B6 := (Bx.gr Bw1 Gw2)
  refine sd_vv rfl rfl rfl (vv_loadW agg_23 rfl B6 rfl) ?_
  refine sd_vv rfl rfl rfl (vv_move rfl) ?_
  have hb := bnd hm; clear hm; obtain ⟨x1, hx1, hm⟩ := hb
  refine sd_ev rfl rfl rfl (ev_call en_39 rfl (poly_Full_w p0 p1 _ hx1 _)) ?_
  rintro _ w3 ⟨u3_r0_1, z3_r0_1, g3_r0_1, rfl, O3_r0_1, f3_r0_1, Gw3⟩
  have z7 := Gw3.size
  have lt8 := O3_r0_1.lth
  refine sd_vv rfl rfl rfl (vv_move rfl) ?_
  refine sd_vv rfl rfl rfl (vv_extract rfl rfl) ?_
  refine sd_vv rfl rfl rfl (vv_extract rfl rfl) ?_
  refine sd_ev rfl rfl rfl (ev_alloc (cs := TPunctured.cs (TPunctured.mk 0 []) (.slice none 0 0)) zv_76 rfl) ?_
  rintro _ w4 ⟨b4, rfl, hbw4, Bw4, Gw4⟩
  have z9 := Gw4.size
  have lt10 := Bw4.lt
  have B11 := (Own.gr O3_r0_1 Gw4)
  refine sd_ev rfl rfl rfl (ev_stM (cs' := TPunctured.cs x1.1 u3_r0_1) (vs := TPunctured.cs x1.1 u3_r0_1) (agg_76).siz rfl rfl rfl rfl (TPunctured.cs_ones _ _ (Own.oneB B11)) Bw4 rfl rfl) ?_
  rintro _ w5 ⟨Bw5, Mw5⟩
  have z12 := Mw5.size
  refine sd_vv rfl rfl rfl (vv_assign rfl) ?_
  refine sd_done ?_
  refine sw_seq ?_
  refine sw_seq ?_
  -- region 2 outright.go:263
  refine sw_region [(0, 0), (1, 0)] rfl rfl rfl ?_
  refine sd_vv rfl rfl rfl (vv_move rfl) ?_
  refine sd_vv rfl rfl rfl (vv_neq (a := x1.2) (b := 0) rfl rfl) ?_
  refine sd_done ?_
  refine sw_cond rfl (fun c1 => ?_) (fun c1 => ?_)
  ·
    replace hm := ite_t (of_decide_eq_true c1) hm
    refine sw_seq ?_
    -- region 3 outright.go:264
    refine sw_region [(0, 0), (1, 0), (2, 0)] rfl rfl rfl ?_
    refine sd_vv rfl rfl rfl (vv_build (cs := TPunctured.cs (TPunctured.mk 0 []) (.slice none 0 0)) bs_76 rfl rfl) ?_
    have B13 := (Bx.md (Bx.gr (Bx.gr Bw2 Gw3) Gw4) Mw5)
    refine sd_ev rfl rfl rfl (ev_stM (cs' := TPunctured.cs (TPunctured.mk 0 []) (.slice none 0 0)) (vs := TPunctured.cs (TPunctured.mk 0 []) (.slice none 0 0)) (agg_76).siz rfl rfl rfl rfl (TPunctured.cs_ones _ _ rfl) B13 rfl rfl) ?_
    rintro _ w6 ⟨Bw6, Mw6⟩
    have z14 := Mw6.size
    refine sd_vv rfl rfl rfl (vv_assign rfl) ?_
    refine sd_done ?_
    refine sw_ret ?_
    refine then_r ?_
    have X15 : Gr w w6 := (Gr.md (Gr.md (Gr.trans (Gr.trans (Gr.trans (Gr.trans (Gr.refl w) Gw1) Gw2) Gw3) Gw4) Mw5) Mw6)
    have hr := Option.some.inj hm
    subst hr
    refine ⟨_, _, rfl, res_2 rfl (rv_cellW agg_76 rfl Bw6 rfl) (rv_tmp rfl), ?_⟩
    exact ⟨(.slice none 0 0), 0, 0, rfl, (own_nil _ 0 88 18), ⟨.inl rfl⟩, X15⟩
  ·
    replace hm := ite_f (of_decide_eq_false c1) hm
    refine sw_skip ?_
    refine then_n ?_
    refine sw_seq ?_
    refine sw_seq ?_
    -- region 4 outright.go:266
    refine sw_region [(0, 0)] rfl rfl rfl ?_
    refine sd_vv rfl rfl rfl (vv_assign rfl) ?_
    refine sd_done ?_
    refine sw_block ?_
    have X16 : Gr w w5 := (Gr.md (Gr.trans (Gr.trans (Gr.trans (Gr.trans (Gr.refl w) Gw1) Gw2) Gw3) Gw4) Mw5)
    have B17 := (Rd.md (Rd.gr (Rd.gr (Rd.gr (Rd.gr hp2 Gw1) Gw2) Gw3) Gw4) Mw5 (tk1 ((pv_lt (A := (fun x => x ≠ b4)) lt1) : zp2 = 0 ∨ gp2 ≠ b4)))
    have B18 := (Own.md B11 Mw5 (tk1 ((pv_lt (A := (fun x => x ≠ b4)) lt8) : z3_r0_1 = 0 ∨ g3_r0_1 ≠ b4)))
    refine sw_loopD (α := Nat × Int × TPunctured × Value × Nat × Nat) [7, 10, 11, 12, 22, 23, 24, 25, 26, 27, 28, 29, 30, 31, 32, 33, 34, 35, 36, 37, 38, 39, 40, 41, 42, 43, 44, 45, 46, 47, 48, 49] (fun ⟨n1, a5, a6, vy7, zy7, gy7⟩ => [(7, .bool false), (10, .int .i64 a5)]) (fun ⟨n1, a5, a6, vy7, zy7, gy7⟩ wr => (fixN (law04_punctured_L1 p1 p2) n1 (a5, a6) = some r) ∧ Own wr zy7 gy7 88 18 vy7 (a6.Labels.map TLabel.cs) ∧ Hdn (zy7 = 0 ∨ (gy7 = g3_r0_1 ∧ z3_r0_1 ≠ 0) ∨ w5.heap.size ≤ gy7) ∧ Bx wr b4 76 (TPunctured.cs a6 vy7) ∧ Kz [(1, b4), (z3_r0_1, g3_r0_1)] w5 wr) (fun ⟨n1, a5, a6, vy7, zy7, gy7⟩ => n1) ⟨FUEL, 0, x1.1, u3_r0_1, z3_r0_1, g3_r0_1⟩ ?_ ?_ ?_
    · repeat' first | exact trivial | refine ⟨rfl, ?_⟩
    · exact ⟨hm, B18, ⟨tk0⟩, Bw5, Kz.refl _ _⟩
    · clear hm; rintro ⟨n1, a5, a6, vy7, zy7, gy7⟩ w7 ⟨hm, Fw7_0, Fw7_1, Fw7_2, Kw7⟩
      have z19 := Kw7.size
      have lt20 := Fw7_0.lth
      have lt21 := Fw7_2.lt
      have hb := fix_succ hm; clear hm; obtain ⟨n1, rfl, hm⟩ := hb
      generalize hrec1 : fixN (law04_punctured_L1 p1 p2) n1 = rec1 at hm
      unfold law04_punctured_L1 at hm
      try dsimp only at hm
      refine sw_seq ?_
      refine sw_seq ?_
      -- region 5 outright.go:266
      refine sw_region [(0, 0), (1, 0), (2, 0), (3, 0)] rfl rfl rfl ?_
      refine sd_vv rfl rfl rfl (vv_move rfl) ?_
      refine sd_vv rfl rfl rfl (vv_move rfl) ?_
      have B22 := (Rd.kz B17 Kw7 (tk2 ((pv_sw (pv_0 (A := (fun x => zp2 = 0 ∨ x ≠ gp2)) f3_r0_1 (fun x hx => (tk1 lt1.o)))) : zp2 = 0 ∨ z3_r0_1 = 0 ∨ gp2 ≠ g3_r0_1) ((pv_lt (A := (fun x => x ≠ b4)) lt1) : zp2 = 0 ∨ gp2 ≠ b4)))
      refine sd_vv rfl rfl rfl (vv_lenT (l := p2) (c := bvc) Try.underlying105 rfl B22) ?_
      refine sd_vv rfl rfl rfl (vv_lss (a := a5) (b := (p2.length : Int)) rfl rfl) ?_
      refine sd_done ?_
      refine sw_cond rfl (fun c2 => ?_) (fun c2 => ?_)
      ·
        replace hm := ite_t (of_decide_eq_true c2) hm
        refine sw_skip ?_
        refine then_n ?_
        refine sw_seq ?_
        refine sw_block ?_
        have X23 : Gr w w7 := (Gr.kz X16 Kw7 (tk1 ((pv_0 (A := (fun x => w.heap.size ≤ x)) f3_r0_1) : z3_r0_1 = 0 ∨ w.heap.size ≤ g3_r0_1)))
        refine sw_joinD (β := TPunctured × Int × Nat × Value × Nat × Nat) [11, 12, 28, 29, 30, 31, 32, 33, 34, 35, 36, 37, 38, 39, 40] (fun ⟨a9, a11, bq8, vy10, zy10, gy10⟩ => [(11, .pointer (some ⟨bq8, 0, none⟩)), (12, .int .i64 a11)]) (fun ⟨a9, a11, bq8, vy10, zy10, gy10⟩ wr => (law04_punctured_J2 a5 rec1 a9 a11 = some r) ∧ Own wr zy10 gy10 88 18 vy10 (a9.Labels.map TLabel.cs) ∧ Hdn (zy10 = 0 ∨ w7.heap.size ≤ gy10) ∧ Bx wr bq8 76 (TPunctured.cs a9 vy10) ∧ w7.heap.size ≤ bq8 ∧ Hdn (zy10 = 0 ∨ gy10 ≠ bq8) ∧ Kz [] w7 wr) ?_ ?_
        · clear hm; rintro ⟨a9, a11, bq8, vy10, zy10, gy10⟩ w8 ⟨hm, Fw8_0, Fw8_1, Fw8_2, Fw8_3, Fw8_4, Kw8⟩
          have z24 := Kw8.size
          have lt25 := Fw8_0.lth
          have lt26 := Fw8_2.lt
          unfold law04_punctured_J2 at hm
          refine sw_seq ?_
          have X27 : Gr w w8 := (Gr.kz X23 Kw8)
          refine sw_joinD (β := Bool) [41, 42, 43, 44, 45, 46, 47] (fun a12 => [(47, .bool a12)]) (fun a12 wr => (law04_punctured_J3 a5 rec1 a9 a12 = some r) ∧ Kz [] w8 wr) ?_ ?_
          · clear hm; rintro a12 w9 ⟨hm, Kw9⟩
            have z28 := Kw9.size
            unfold law04_punctured_J3 at hm
            refine sw_cond rfl (fun c3 => ?_) (fun c3 => ?_)
            ·
              replace hm := cnd_t c3 hm
              refine sw_seq ?_
              -- region 9 outright.go:269
              refine sw_region [(0, 0), (1, 0), (2, 0)] rfl rfl rfl ?_
              refine sd_vv rfl rfl rfl (vv_build (cs := TPunctured.cs (TPunctured.mk 0 []) (.slice none 0 0)) bs_76 rfl rfl) ?_
              have B29 := (Bx.kz (Bx.kz (Bx.kz (Bx.md (Bx.gr (Bx.gr Bw2 Gw3) Gw4) Mw5) Kw7 (tk1 ((pv_0 (A := (fun x => x ≠ b2)) f3_r0_1) : z3_r0_1 = 0 ∨ g3_r0_1 ≠ b2))) Kw8) Kw9)
              refine sd_ev rfl rfl rfl (ev_stM (cs' := TPunctured.cs (TPunctured.mk 0 []) (.slice none 0 0)) (vs := TPunctured.cs (TPunctured.mk 0 []) (.slice none 0 0)) (agg_76).siz rfl rfl rfl rfl (TPunctured.cs_ones _ _ rfl) B29 rfl rfl) ?_
              rintro _ w10 ⟨Bw10, Mw10⟩
              have z30 := Mw10.size
              refine sd_vv rfl rfl rfl (vv_assign rfl) ?_
              refine sd_done ?_
              refine sw_ret ?_
              refine then_r ?_
              refine block_r ?_
              refine then_r ?_
              refine then_r ?_
              refine block_r ?_
              refine then_r ?_
              have X31 : Gr w w10 := (Gr.md (Gr.kz X27 Kw9) Mw10)
              have hr := Option.some.inj hm
              subst hr
              refine ⟨_, _, rfl, res_2 rfl (rv_cellW agg_76 rfl Bw10 rfl) (rv_tmp rfl), ?_⟩
              exact ⟨(.slice none 0 0), 0, 0, rfl, (own_nil _ 0 88 18), ⟨.inl rfl⟩, X31⟩
            ·
              replace hm := cnd_f c3 hm
              refine sw_skip ?_
              refine then_n ?_
              -- region 10 outright.go:271
              refine sw_region [(0, 0), (1, 0)] rfl rfl rfl ?_
              have B32 := (Bx.kz Fw8_2 Kw9)
              refine sd_vv rfl rfl rfl (vv_loadW agg_76 rfl B32 rfl) ?_
              have B33 := (Bx.kz (Bx.kz Fw7_2 Kw8) Kw9)
              have B34 := (Own.kz Fw8_0 Kw9)
              refine sd_ev rfl rfl rfl (ev_stM (cs' := TPunctured.cs a9 vy10) (vs := TPunctured.cs a9 vy10) (agg_76).siz rfl rfl rfl rfl (TPunctured.cs_ones _ _ (Own.oneB B34)) B33 rfl rfl) ?_
              rintro _ w11 ⟨Bw11, Mw11⟩
              have z35 := Mw11.size
              refine sd_nil ?_
              refine block_n ?_
              refine then_n ?_
              -- region 6 outright.go:266
              refine sw_region [(0, 0), (1, 0), (2, 0)] rfl rfl rfl ?_
              refine sd_vv rfl rfl rfl (vv_move rfl) ?_
              refine sd_vv rfl rfl rfl (vv_add (k := .i64) (a := a5) (b := 1) rfl rfl) ?_
              refine sd_vv rfl rfl rfl (vv_assign rfl) ?_
              refine sd_nil ?_
              have K_36 : Kz [(1, b4), (z3_r0_1, g3_r0_1)] w5 w11 := (Kz.md (Kz.kz (Kz.kz Kw7 Kw8) Kw9) Mw11)
              have B37 := (Own.md B34 Mw11 (tk1 ((pv_0 (A := (fun x => x ≠ b4)) Fw8_1) : zy10 = 0 ∨ gy10 ≠ b4)))
              subst hrec1
              refine ⟨rfl, ⟨n1, w64 (a5 + 1), a9, vy10, zy10, gy10⟩, ?_, ⟨hm, B37, ⟨(pv_0 (A := (fun x => (x = g3_r0_1 ∧ z3_r0_1 ≠ 0) ∨ w5.heap.size ≤ x)) Fw8_1)⟩, Bw11, K_36⟩, Nat.lt_succ_self _⟩
              repeat' first | exact trivial | refine ⟨rfl, ?_⟩
          ·
            -- region 8 outright.go:268
            refine sw_region [(0, 0), (1, 0), (2, 0), (3, 0), (4, 0), (5, 0), (6, 0)] rfl rfl rfl ?_
            refine sd_vv rfl rfl rfl (vv_move rfl) ?_
            refine sd_vv rfl rfl rfl (vv_neq (a := a11) (b := 0) rfl rfl) ?_
            refine sd_split rfl rfl rfl (vv_move rfl) (fun c4 => ?_) (fun c4 => ?_)
            ·
              replace hm := ite_t (of_decide_eq_true c4) hm
              refine sd_skip rfl rfl rfl ?_
              refine sd_skip rfl rfl rfl ?_
              refine sd_skip rfl rfl rfl ?_
              refine sd_vv rfl rfl rfl (vv_pickT rfl rfl) ?_
              refine sd_nil ?_
              have K_38 : Kz [] w8 w8 := (Kz.refl _ _)
              refine ⟨rfl, true, ?_, hm, K_38⟩
              repeat' first | exact trivial | refine ⟨rfl, ?_⟩
            ·
              replace hm := ite_f (of_decide_eq_false c4) hm
              refine sd_vv rfl rfl rfl (vv_loadW agg_76 rfl Fw8_2 rfl) ?_
              have hb := bnd hm; clear hm; obtain ⟨x13, hx13, hm⟩ := hb
              refine sd_ev rfl rfl rfl (ev_call en_42 rfl (poly_CheckPunctured_w a9 _ _ _ _ _ hx13 _ (Own.rd Fw8_0))) ?_
              rintro _ w12 ⟨rfl, Gw12⟩
              have z39 := Gw12.size
              refine sd_vv rfl rfl rfl (vv_neq (a := x13) (b := 0) rfl rfl) ?_
              refine sd_vv rfl rfl rfl (vv_pickF rfl rfl) ?_
              refine sd_nil ?_
              have K_40 : Kz [] w8 w12 := (Kz.gr (Kz.refl _ _) Gw12)
              refine ⟨rfl, (decide (x13 ≠ 0)), ?_, hm, K_40⟩
              repeat' first | exact trivial | refine ⟨rfl, ?_⟩
        ·
          -- region 7 outright.go:267 DRAWS
          refine sw_drawN [([])] [] (.fork [(0, 10), (1, 10), (2, 10), (3, 10), (4, 10), (5, 10), (6, 10), (7, 10), (8, 10)] (.leaf [(9, 0), (10, 10), (11, 10), (12, 10), (13, 0), (14, 0), (15, 10)]) (.leaf [(13, 0), (9, 0), (10, 10), (11, 10), (12, 10), (14, 0), (15, 10)])) (by kernel_rfl) (by kernel_rfl) rfl (by kernel_rfl) ?_
          intro w13 Gw13 zw13
          refine sdz_fork ?_
          have B41 := (Bx.gr Fw7_2 Gw13)
          refine dd_hn 0 rfl rfl rfl rfl (Kp.refl ([]) w13) (fun w hS => vv_loadW agg_76 rfl (Bx.kp B41 hS) rfl) ?_
          refine dd_hn 0 rfl rfl rfl rfl (Kp.refl ([]) w13) (fun w hS => vv_move rfl) ?_
          refine dd_hn 0 rfl rfl rfl rfl (Kp.refl ([]) w13) (fun w hS => vv_move rfl) ?_
          have hb := bnd hm; clear hm; obtain ⟨y14, hy14, hm⟩ := hb
          have B42 := (Rd.gr B22 Gw13)
          refine dd_hn 0 rfl rfl rfl rfl (Kp.refl ([]) w13) (fun w hS => vv_ixT (i := a5) Try.underlying105 (one_5).siz rfl (Rd.kp B42 hS) rfl hy14) ?_
          refine dd_hn 0 rfl rfl rfl rfl (Kp.refl ([]) w13) (fun w hS => vv_el1T (q := 0) (u := bv y14) one_5 rfl (Rd.kp B42 hS) hy14 (by first | rfl | omega) rfl) ?_
          refine dd_hn 0 rfl rfl rfl rfl (Kp.refl ([]) w13) (fun w hS => vv_cvBI cv_5_3 rfl) ?_
          refine dd_hn 0 rfl rfl rfl rfl (Kp.refl ([]) w13) (fun w hS => vv_move rfl) ?_
          have hb := bnd hm; clear hm; obtain ⟨n15, hn15, hm⟩ := hb
          refine dd_hn 0 rfl rfl rfl rfl (Kp.refl ([]) w13) (fun w hS => vv_shlI (a := 1) (b := p1) rfl rfl hn15) ?_
          have hb := bnd hm; clear hm; obtain ⟨x16, hx16, hm⟩ := hb
          refine dd_hn 0 rfl rfl rfl rfl (Kp.refl ([]) w13) (fun w hS => vv_remI (a := un8 y14) (b := shlI 1 n15) rfl rfl hx16) ?_
          refine sd_fork ?_ ?_
          ·
            refine sdz_leaf ?_
            have B43 := (Own.gr Fw7_0 Gw13)
            have hb := bnd hm; clear hm; obtain ⟨x17, hx17, hm⟩ := hb
            refine dd_z [] rfl rfl rfl (ev_call en_44 rfl (poly_Puncture_w a6 x16 _ _ _ _ _ hx17 _ (Own.rd B43))) ⟨fun _ => tk0, trivial⟩ ?_
            rintro _ w14 ⟨u14_r0_1, z14_r0_1, g14_r0_1, rfl, O14_r0_1, f14_r0_1, Gw14⟩
            have z44 := Gw14.size
            have lt45 := O14_r0_1.lth
            refine ⟨Kz.ofGr Gw14, ?_⟩
            have S46 := (Kp.gr (Kp.refl ([]) w13) Gw14)
            refine dd_hn 0 rfl rfl rfl rfl S46 (fun w hS => vv_move rfl) ?_
            refine dd_hn 0 rfl rfl rfl rfl S46 (fun w hS => vv_extract rfl rfl) ?_
            refine dd_hn 0 rfl rfl rfl rfl S46 (fun w hS => vv_extract rfl rfl) ?_
            refine dd_z [] rfl rfl rfl (ev_alloc (cs := TPunctured.cs (TPunctured.mk 0 []) (.slice none 0 0)) zv_76 rfl) ⟨fun _ => tk0, trivial⟩ ?_
            rintro _ w15 ⟨b15, rfl, hbw15, Bw15, Gw15⟩
            have z47 := Gw15.size
            have lt48 := Bw15.lt
            refine ⟨Kz.ofGr Gw15, ?_⟩
            have B49 := (Own.gr O14_r0_1 Gw15)
            refine dd_z [(1, b15)] rfl rfl rfl (ev_stM (cs' := TPunctured.cs x17.1 u14_r0_1) (vs := TPunctured.cs x17.1 u14_r0_1) (agg_76).siz rfl rfl rfl rfl (TPunctured.cs_ones _ _ (Own.oneB B49)) Bw15 rfl rfl) ⟨fun _ => tk0, trivial⟩ ?_
            rintro _ w16 ⟨Bw16, Mw16⟩
            have z50 := Mw16.size
            refine ⟨Kz.ofMd Mw16, ?_⟩
            have S51 := (Kp.md (Kp.gr S46 Gw15) Mw16)
            refine dd_hn 0 rfl rfl rfl rfl S51 (fun w hS => vv_assign rfl) ?_
            refine sd_nil ?_
            have K_52 : Kz [] w7 w16 := (Kz.md (Kz.gr (Kz.gr (Kz.gr (Kz.refl _ _) Gw13) Gw14) Gw15) Mw16)
            have B53 := (Own.md B49 Mw16 (tk1 ((pv_lt (A := (fun x => x ≠ b15)) lt45) : z14_r0_1 = 0 ∨ g14_r0_1 ≠ b15)))
            refine ⟨rfl, ⟨x17.1, x17.2, b15, u14_r0_1, z14_r0_1, g14_r0_1⟩, ?_, hm, B53, ⟨(pv_0 (A := (fun x => w7.heap.size ≤ x)) f14_r0_1)⟩, Bw16, (by omega), ⟨(pv_lt (A := (fun x => x ≠ b15)) lt45)⟩, K_52⟩
            repeat' first | exact trivial | refine ⟨rfl, ?_⟩
          ·
            refine sdz_leaf ?_
            refine dd_z [] rfl rfl rfl (ev_alloc (cs := TPunctured.cs (TPunctured.mk 0 []) (.slice none 0 0)) zv_76 rfl) ⟨fun _ => tk0, trivial⟩ ?_
            rintro _ w17 ⟨b17, rfl, hbw17, Bw17, Gw17⟩
            have z54 := Gw17.size
            have lt55 := Bw17.lt
            refine ⟨Kz.ofGr Gw17, ?_⟩
            have B56 := (Own.gr (Own.gr Fw7_0 Gw13) Gw17)
            have hb := bnd hm; clear hm; obtain ⟨x18, hx18, hm⟩ := hb
            refine dd_z [] rfl rfl rfl (ev_call en_44 rfl (poly_Puncture_w a6 x16 _ _ _ _ _ hx18 _ (Own.rd B56))) ⟨fun _ => tk0, trivial⟩ ?_
            rintro _ w18 ⟨u18_r0_1, z18_r0_1, g18_r0_1, rfl, O18_r0_1, f18_r0_1, Gw18⟩
            have z57 := Gw18.size
            have lt58 := O18_r0_1.lth
            refine ⟨Kz.ofGr Gw18, ?_⟩
            have S59 := (Kp.gr (Kp.gr (Kp.refl ([]) w13) Gw17) Gw18)
            refine dd_hn 0 rfl rfl rfl rfl S59 (fun w hS => vv_move rfl) ?_
            refine dd_hn 0 rfl rfl rfl rfl S59 (fun w hS => vv_extract rfl rfl) ?_
            refine dd_hn 0 rfl rfl rfl rfl S59 (fun w hS => vv_extract rfl rfl) ?_
            have B60 := (Bx.gr Bw17 Gw18)
            refine dd_z [(1, b17)] rfl rfl rfl (ev_stM (cs' := TPunctured.cs x18.1 u18_r0_1) (vs := TPunctured.cs x18.1 u18_r0_1) (agg_76).siz rfl rfl rfl rfl (TPunctured.cs_ones _ _ (Own.oneB O18_r0_1)) B60 rfl rfl) ⟨fun _ => tk0, trivial⟩ ?_
            rintro _ w19 ⟨Bw19, Mw19⟩
            have z61 := Mw19.size
            refine ⟨Kz.ofMd Mw19, ?_⟩
            have S62 := (Kp.md S59 Mw19)
            refine dd_hn 0 rfl rfl rfl rfl S62 (fun w hS => vv_assign rfl) ?_
            refine sd_nil ?_
            have K_63 : Kz [] w7 w19 := (Kz.md (Kz.gr (Kz.gr (Kz.gr (Kz.refl _ _) Gw13) Gw17) Gw18) Mw19)
            have B64 := (Own.md O18_r0_1 Mw19 (tk1 ((pv_0 (A := (fun x => x ≠ b17)) f18_r0_1) : z18_r0_1 = 0 ∨ g18_r0_1 ≠ b17)))
            refine ⟨rfl, ⟨x18.1, x18.2, b17, u18_r0_1, z18_r0_1, g18_r0_1⟩, ?_, hm, B64, ⟨(pv_0 (A := (fun x => w7.heap.size ≤ x)) f18_r0_1)⟩, Bw19, (by omega), ⟨(pv_0 (A := (fun x => x ≠ b17)) f18_r0_1)⟩, K_63⟩
            repeat' first | exact trivial | refine ⟨rfl, ?_⟩
      ·
        replace hm := ite_f (of_decide_eq_false c2) hm
        refine sw_exit ?_
        refine then_x ?_
        refine then_x ?_
        refine block_x ?_
        refine then_n ?_
        refine sw_seq ?_
        -- region 11 outright.go:273
        refine sw_region [(0, 0), (1, 0), (2, 0)] rfl rfl rfl ?_
        refine sd_vv rfl rfl rfl (vv_loadW agg_76 rfl Fw7_2 rfl) ?_
        have B65 := (Bx.kz (Bx.md (Bx.gr (Bx.gr Bw2 Gw3) Gw4) Mw5) Kw7 (tk1 ((pv_0 (A := (fun x => x ≠ b2)) f3_r0_1) : z3_r0_1 = 0 ∨ g3_r0_1 ≠ b2)))
        refine sd_ev rfl rfl rfl (ev_stM (cs' := TPunctured.cs a6 vy7) (vs := TPunctured.cs a6 vy7) (agg_76).siz rfl rfl rfl rfl (TPunctured.cs_ones _ _ (Own.oneB Fw7_0)) B65 rfl rfl) ?_
        rintro _ w20 ⟨Bw20, Mw20⟩
        have z66 := Mw20.size
        refine sd_vv rfl rfl rfl (vv_assign rfl) ?_
        refine sd_done ?_
        refine sw_ret ?_
        have B67 := (Own.md Fw7_0 Mw20 (tk1 ((pv_1 (A := (fun x => x ≠ b2)) Fw7_1 (pv_0 (A := (fun x => x ≠ b2)) f3_r0_1)) : zy7 = 0 ∨ gy7 ≠ b2)))
        have X68 : Gr w w20 := (Gr.md (Gr.kz X16 Kw7 (tk1 ((pv_0 (A := (fun x => w.heap.size ≤ x)) f3_r0_1) : z3_r0_1 = 0 ∨ w.heap.size ≤ g3_r0_1))) Mw20)
        have hr := Option.some.inj hm
        subst hr
        refine ⟨_, _, rfl, res_2 rfl (rv_cellW agg_76 rfl Bw20 rfl) (rv_tmp rfl), ?_⟩
        exact ⟨vy7, zy7, gy7, rfl, B67, ⟨(pv_1 (A := (fun x => w.heap.size ≤ x)) Fw7_1 (pv_0 (A := (fun x => w.heap.size ≤ x)) f3_r0_1))⟩, X68⟩

set_option maxHeartbeats 2000000 in
theorem law04_has_w (p0 : List (BitVec 8)) (p1 : Int) (p2 : Int) (vp0 : Value) (zp0 gp0 op0 : Nat) (r : Bool) (hm : law04_has p0 p1 p2 = some r) (w : World) (hp0 : Rd w zp0 gp0 op0 1 vp0 (p0.map bvc))  :
    Calls Try.prog 59 [vp0, .int .i64 p1, .int .i64 p2].toArray w fun e w' => ∃ v, e = .returned v ∧ (v = .bool r ∧ Gr w w') := by
  have lt1 := hp0.lth
  unfold law04_has at hm
  refine calls_of_sw (R := fun v w' => v = .bool r ∧ Gr w w') 24 Try.func59 rfl rfl rfl ?_
  refine sw_seq ?_
  -- region 0 outright.go:277
  refine sw_region [(0, 0)] rfl rfl rfl ?_
  refine sd_vv rfl rfl rfl (vv_assign rfl) ?_
  refine sd_done ?_
  refine sw_seq ?_
  refine sw_seq ?_
  -- region 1 outright.go:278
  refine sw_region [(0, 0)] rfl rfl rfl ?_
  refine sd_vv rfl rfl rfl (vv_assign rfl) ?_
  refine sd_done ?_
  refine sw_block ?_
  refine sw_loopD (α := Nat × Int) [6, 7, 8, 9, 10, 11, 12, 13, 14, 15, 16, 17, 18, 19, 20, 21, 22, 23] (fun ⟨n1, a2⟩ => [(6, .bool false), (7, .int .i64 a2)]) (fun ⟨n1, a2⟩ wr => (fixN (law04_has_L1 p0 p1 p2) n1 a2 = some r) ∧ Kz [] w wr) (fun ⟨n1, a2⟩ => n1) ⟨FUEL, 0⟩ ?_ ?_ ?_
  · repeat' first | exact trivial | refine ⟨rfl, ?_⟩
  · exact ⟨hm, Kz.refl _ _⟩
  · clear hm; rintro ⟨n1, a2⟩ w1 ⟨hm, Kw1⟩
    have z2 := Kw1.size
    have hb := fix_succ hm; clear hm; obtain ⟨n1, rfl, hm⟩ := hb
    generalize hrec1 : fixN (law04_has_L1 p0 p1 p2) n1 = rec1 at hm
    unfold law04_has_L1 at hm
    try dsimp only at hm
    refine sw_seq ?_
    refine sw_seq ?_
    -- region 2 outright.go:278
    refine sw_region [(0, 0), (1, 0), (2, 0), (3, 0)] rfl rfl rfl ?_
    refine sd_vv rfl rfl rfl (vv_move rfl) ?_
    refine sd_vv rfl rfl rfl (vv_move rfl) ?_
    have B3 := (Rd.kz hp0 Kw1)
    refine sd_vv rfl rfl rfl (vv_lenT (l := p0) (c := bvc) Try.underlying105 rfl B3) ?_
    refine sd_vv rfl rfl rfl (vv_lss (a := a2) (b := (p0.length : Int)) rfl rfl) ?_
    refine sd_done ?_
    refine sw_cond rfl (fun c1 => ?_) (fun c1 => ?_)
    ·
      replace hm := ite_t (of_decide_eq_true c1) hm
      refine sw_skip ?_
      refine then_n ?_
      refine sw_seq ?_
      refine sw_block ?_
      refine sw_seq ?_
      -- region 4 outright.go:279 DRAWS
      refine sw_drawN [([])] [] (.leaf [(0, 10), (1, 10), (2, 10), (3, 10), (4, 10), (5, 10), (6, 10), (7, 10), (8, 10), (9, 10)]) (by kernel_rfl) (by kernel_rfl) rfl (by kernel_rfl) ?_
      intro w2 Gw2 zw2
      refine sdz_leaf ?_
      refine dd_hn 0 rfl rfl rfl rfl (Kp.refl ([]) w2) (fun w hS => vv_move rfl) ?_
      refine dd_hn 0 rfl rfl rfl rfl (Kp.refl ([]) w2) (fun w hS => vv_move rfl) ?_
      have hb := bnd hm; clear hm; obtain ⟨y3, hy3, hm⟩ := hb
      have B4 := (Rd.gr B3 Gw2)
      refine dd_hn 0 rfl rfl rfl rfl (Kp.refl ([]) w2) (fun w hS => vv_ixT (i := a2) Try.underlying105 (one_5).siz rfl (Rd.kp B4 hS) rfl hy3) ?_
      refine dd_hn 0 rfl rfl rfl rfl (Kp.refl ([]) w2) (fun w hS => vv_el1T (q := 0) (u := bv y3) one_5 rfl (Rd.kp B4 hS) hy3 (by first | rfl | omega) rfl) ?_
      refine dd_hn 0 rfl rfl rfl rfl (Kp.refl ([]) w2) (fun w hS => vv_cvBI cv_5_3 rfl) ?_
      refine dd_hn 0 rfl rfl rfl rfl (Kp.refl ([]) w2) (fun w hS => vv_move rfl) ?_
      have hb := bnd hm; clear hm; obtain ⟨n4, hn4, hm⟩ := hb
      refine dd_hn 0 rfl rfl rfl rfl (Kp.refl ([]) w2) (fun w hS => vv_shlI (a := 1) (b := p1) rfl rfl hn4) ?_
      have hb := bnd hm; clear hm; obtain ⟨x5, hx5, hm⟩ := hb
      refine dd_hn 0 rfl rfl rfl rfl (Kp.refl ([]) w2) (fun w hS => vv_remI (a := un8 y3) (b := shlI 1 n4) rfl rfl hx5) ?_
      refine dd_hn 0 rfl rfl rfl rfl (Kp.refl ([]) w2) (fun w hS => vv_move rfl) ?_
      refine dd_hn 0 rfl rfl rfl rfl (Kp.refl ([]) w2) (fun w hS => vv_eql (a := x5) (b := p2) rfl rfl) ?_
      refine sd_done ?_
      refine sw_cond rfl (fun c2 => ?_) (fun c2 => ?_)
      ·
        replace hm := ite_t (of_decide_eq_true c2) hm
        refine sw_seq ?_
        -- region 5 outright.go:280
        refine sw_region [(0, 0)] rfl rfl rfl ?_
        refine sd_vv rfl rfl rfl (vv_assign rfl) ?_
        refine sd_done ?_
        refine sw_ret ?_
        refine block_r ?_
        refine then_r ?_
        refine then_r ?_
        refine block_r ?_
        refine then_r ?_
        have X5 : Gr w w2 := (Gr.trans (Gr.kz (Gr.refl w) Kw1) Gw2)
        have hr := Option.some.inj hm
        subst hr
        refine ⟨_, _, rfl, res_1 rfl (rv_tmp rfl), ?_⟩
        exact ⟨rfl, X5⟩
      ·
        replace hm := ite_f (of_decide_eq_false c2) hm
        refine sw_skip ?_
        refine block_n ?_
        refine then_n ?_
        -- region 3 outright.go:278
        refine sw_region [(0, 0), (1, 0), (2, 0)] rfl rfl rfl ?_
        refine sd_vv rfl rfl rfl (vv_move rfl) ?_
        refine sd_vv rfl rfl rfl (vv_add (k := .i64) (a := a2) (b := 1) rfl rfl) ?_
        refine sd_vv rfl rfl rfl (vv_assign rfl) ?_
        refine sd_nil ?_
        have K_6 : Kz [] w w2 := (Kz.gr Kw1 Gw2)
        subst hrec1
        refine ⟨rfl, ⟨n1, w64 (a2 + 1)⟩, ?_, ⟨hm, K_6⟩, Nat.lt_succ_self _⟩
        repeat' first | exact trivial | refine ⟨rfl, ?_⟩
    ·
      replace hm := ite_f (of_decide_eq_false c1) hm
      refine sw_exit ?_
      refine then_x ?_
      refine then_x ?_
      refine block_x ?_
      refine then_n ?_
      refine sw_seq ?_
      -- region 6 outright.go:283
      refine sw_region [(0, 0)] rfl rfl rfl ?_
      refine sd_vv rfl rfl rfl (vv_assign rfl) ?_
      refine sd_done ?_
      refine sw_ret ?_
      have X7 : Gr w w1 := (Gr.kz (Gr.refl w) Kw1)
      have hr := Option.some.inj hm
      subst hr
      refine ⟨_, _, rfl, res_1 rfl (rv_tmp rfl), ?_⟩
      exact ⟨rfl, X7⟩

set_option maxHeartbeats 2000000 in
theorem law04_PolyPunctured_w (p0 : W2) (p1 : Int) (p2 : List (BitVec 8)) (p3 : Int) (vp2 : Value) (zp2 gp2 op2 : Nat) (r : Bool) (hm : law04_PolyPunctured p0 p1 p2 p3 = some r) (w : World) (hp2 : Rd w zp2 gp2 op2 1 vp2 (p2.map bvc))  :
    Calls Try.prog 12 [kv p0, .int .i64 p1, vp2, .int .i64 p3].toArray w fun e w' => ∃ v, e = .returned v ∧ (v = .bool r ∧ Gr w w') := by
  have lt1 := hp2.lth
  unfold law04_PolyPunctured at hm
  refine calls_of_sw (R := fun v w' => v = .bool r ∧ Gr w w') 138 Try.func12 rfl rfl rfl ?_
  refine sw_seq ?_
  -- region 0 outright.go:287
  refine sw_region [(0, 0), (1, 0)] rfl rfl rfl ?_
  refine sd_ev rfl rfl rfl (ev_box (cs := kb p0) rfl rfl) ?_
  rintro _ w1 ⟨b1, rfl, hbw1, Bw1, Gw1⟩
  have z2 := Gw1.size
  have lt3 := Bw1.lt
  refine sd_vv rfl rfl rfl (vv_assign rfl) ?_
  refine sd_done ?_
  refine sw_seq ?_
  -- region 1 outright.go:288
  refine sw_region [(0, 0), (1, 0)] rfl rfl rfl ?_
  have hb := bnd hm; clear hm; obtain ⟨x1, hx1, hm⟩ := hb
  refine sd_ev rfl rfl rfl (ev_call en_49 rfl (law04_alive_w _ hx1 _)) ?_
  rintro _ w2 ⟨rfl, Gw2⟩
  have z4 := Gw2.size
  refine sd_vv rfl rfl rfl (vv_assign rfl) ?_
  refine sd_done ?_
  refine sw_seq ?_
  have X5 : Gr w w2 := (Gr.trans (Gr.trans (Gr.refl w) Gw1) Gw2)
  refine sw_joinD (β := Bool) [21, 22, 23, 24, 25, 26, 27, 28, 29, 30, 31] (fun a2 => [(31, .bool a2)]) (fun a2 wr => (law04_PolyPunctured_J1 p0 p1 p2 p3 x1 a2 = some r) ∧ Kz [] w2 wr) ?_ ?_
  · clear hm; rintro a2 w3 ⟨hm, Kw3⟩
    have z6 := Kw3.size
    unfold law04_PolyPunctured_J1 at hm
    refine sw_cond rfl (fun c1 => ?_) (fun c1 => ?_)
    ·
      replace hm := cnd_t c1 hm
      refine sw_seq ?_
      -- region 3 outright.go:290
      refine sw_region [(0, 0), (1, 0)] rfl rfl rfl ?_
      refine sd_vv rfl rfl rfl (vv_move rfl) ?_
      refine sd_vv rfl rfl rfl (vv_assign rfl) ?_
      refine sd_done ?_
      refine sw_ret ?_
      refine then_r ?_
      have X7 : Gr w w3 := (Gr.kz X5 Kw3)
      have hr := Option.some.inj hm
      subst hr
      refine ⟨_, _, rfl, res_1 rfl (rv_tmp rfl), ?_⟩
      exact ⟨rfl, X7⟩
    ·
      replace hm := cnd_f c1 hm
      refine sw_skip ?_
      refine then_n ?_
      refine sw_seq ?_
      -- region 4 outright.go:292
      refine sw_region [(0, 0), (1, 0), (2, 0), (3, 0), (4, 0), (5, 0), (6, 0), (7, 0), (8, 0), (9, 0)] rfl rfl rfl ?_
      have B8 := (Bx.kz (Bx.gr Bw1 Gw2) Kw3)
      refine sd_vv rfl rfl rfl (vv_loadW agg_23 rfl B8 rfl) ?_
      refine sd_vv rfl rfl rfl (vv_move rfl) ?_
      refine sd_vv rfl rfl rfl (vv_move rfl) ?_
      have B9 := (Rd.kz (Rd.gr (Rd.gr hp2 Gw1) Gw2) Kw3)
      have hb := bnd hm; clear hm; obtain ⟨x3, hx3, hm⟩ := hb
      refine sd_ev rfl rfl rfl (ev_call en_58 rfl (law04_punctured_w p0 p1 p2 _ _ _ _ _ hx3 _ B9)) ?_
      rintro _ w4 ⟨u4_r0_1, z4_r0_1, g4_r0_1, rfl, O4_r0_1, f4_r0_1, Gw4⟩
      have z10 := Gw4.size
      have lt11 := O4_r0_1.lth
      refine sd_vv rfl rfl rfl (vv_move rfl) ?_
      refine sd_vv rfl rfl rfl (vv_extract rfl rfl) ?_
      refine sd_vv rfl rfl rfl (vv_extract rfl rfl) ?_
      refine sd_ev rfl rfl rfl (ev_alloc (cs := TPunctured.cs (TPunctured.mk 0 []) (.slice none 0 0)) zv_76 rfl) ?_
      rintro _ w5 ⟨b5, rfl, hbw5, Bw5, Gw5⟩
      have z12 := Gw5.size
      have lt13 := Bw5.lt
      have B14 := (Own.gr O4_r0_1 Gw5)
      refine sd_ev rfl rfl rfl (ev_stM (cs' := TPunctured.cs x3.1 u4_r0_1) (vs := TPunctured.cs x3.1 u4_r0_1) (agg_76).siz rfl rfl rfl rfl (TPunctured.cs_ones _ _ (Own.oneB B14)) Bw5 rfl rfl) ?_
      rintro _ w6 ⟨Bw6, Mw6⟩
      have z15 := Mw6.size
      refine sd_vv rfl rfl rfl (vv_assign rfl) ?_
      refine sd_done ?_
      refine sw_seq ?_
      -- region 5 outright.go:293
      refine sw_region [(0, 0), (1, 0), (2, 0), (3, 0), (4, 0), (5, 0), (6, 0), (7, 0), (8, 0)] rfl rfl rfl ?_
      have B16 := (Bx.md (Bx.gr (Bx.gr B8 Gw4) Gw5) Mw6)
      refine sd_vv rfl rfl rfl (vv_loadW agg_23 rfl B16 rfl) ?_
      refine sd_vv rfl rfl rfl (vv_move rfl) ?_
      have hb := bnd hm; clear hm; obtain ⟨x4, hx4, hm⟩ := hb
      refine sd_ev rfl rfl rfl (ev_call en_39 rfl (poly_Full_w p0 p1 _ hx4 _)) ?_
      rintro _ w7 ⟨u7_r0_1, z7_r0_1, g7_r0_1, rfl, O7_r0_1, f7_r0_1, Gw7⟩
      have z17 := Gw7.size
      have lt18 := O7_r0_1.lth
      refine sd_vv rfl rfl rfl (vv_move rfl) ?_
      refine sd_vv rfl rfl rfl (vv_extract rfl rfl) ?_
      refine sd_vv rfl rfl rfl (vv_extract rfl rfl) ?_
      refine sd_ev rfl rfl rfl (ev_alloc (cs := TPunctured.cs (TPunctured.mk 0 []) (.slice none 0 0)) zv_76 rfl) ?_
      rintro _ w8 ⟨b8, rfl, hbw8, Bw8, Gw8⟩
      have z19 := Gw8.size
      have lt20 := Bw8.lt
      have B21 := (Own.gr O7_r0_1 Gw8)
      refine sd_ev rfl rfl rfl (ev_stM (cs' := TPunctured.cs x4.1 u7_r0_1) (vs := TPunctured.cs x4.1 u7_r0_1) (agg_76).siz rfl rfl rfl rfl (TPunctured.cs_ones _ _ (Own.oneB B21)) Bw8 rfl rfl) ?_
      rintro _ w9 ⟨Bw9, Mw9⟩
      have z22 := Mw9.size
      refine sd_vv rfl rfl rfl (vv_assign rfl) ?_
      refine sd_done ?_
      refine sw_seq ?_
      have X23 : Gr w w9 := (Gr.md (Gr.trans (Gr.trans (Gr.md (Gr.trans (Gr.trans (Gr.kz X5 Kw3) Gw4) Gw5) Mw6) Gw7) Gw8) Mw9)
      refine sw_joinD (β := Bool) [46, 47, 48, 49, 50, 51] (fun a5 => [(51, .bool a5)]) (fun a5 wr => (law04_PolyPunctured_J2 p1 p2 p3 x1 x3 x4 a5 = some r) ∧ Kz [] w9 wr) ?_ ?_
      · clear hm; rintro a5 w10 ⟨hm, Kw10⟩
        have z24 := Kw10.size
        unfold law04_PolyPunctured_J2 at hm
        refine sw_cond rfl (fun c2 => ?_) (fun c2 => ?_)
        ·
          replace hm := cnd_t c2 hm
          refine sw_seq ?_
          -- region 7 outright.go:295
          refine sw_region [(0, 0)] rfl rfl rfl ?_
          refine sd_vv rfl rfl rfl (vv_assign rfl) ?_
          refine sd_done ?_
          refine sw_ret ?_
          refine then_r ?_
          have X25 : Gr w w10 := (Gr.kz X23 Kw10)
          have hr := Option.some.inj hm
          subst hr
          refine ⟨_, _, rfl, res_1 rfl (rv_tmp rfl), ?_⟩
          exact ⟨rfl, X25⟩
        ·
          replace hm := cnd_f c2 hm
          refine sw_skip ?_
          refine then_n ?_
          refine sw_seq ?_
          -- region 8 outright.go:297
          refine sw_region [(0, 0)] rfl rfl rfl ?_
          refine sd_vv rfl rfl rfl (vv_assign rfl) ?_
          refine sd_done ?_
          refine sw_seq ?_
          refine sw_seq ?_
          -- region 9 outright.go:298
          refine sw_region [(0, 0)] rfl rfl rfl ?_
          refine sd_vv rfl rfl rfl (vv_assign rfl) ?_
          refine sd_done ?_
          refine sw_block ?_
          have X26 : Gr w w10 := (Gr.kz X23 Kw10)
          have B27 := (Rd.kz (Rd.md (Rd.gr (Rd.gr (Rd.md (Rd.gr (Rd.gr B9 Gw4) Gw5) Mw6 (tk1 ((pv_lt (A := (fun x => x ≠ b5)) lt1) : zp2 = 0 ∨ gp2 ≠ b5))) Gw7) Gw8) Mw9 (tk1 ((pv_lt (A := (fun x => x ≠ b8)) lt1) : zp2 = 0 ∨ gp2 ≠ b8))) Kw10)
          have B28 := (Own.kz (Own.md (Own.gr (Own.gr (Own.md B14 Mw6 (tk1 ((pv_lt (A := (fun x => x ≠ b5)) lt11) : z4_r0_1 = 0 ∨ g4_r0_1 ≠ b5))) Gw7) Gw8) Mw9 (tk1 ((pv_lt (A := (fun x => x ≠ b8)) lt11) : z4_r0_1 = 0 ∨ g4_r0_1 ≠ b8))) Kw10)
          have B29 := (Own.kz (Own.md B21 Mw9 (tk1 ((pv_lt (A := (fun x => x ≠ b8)) lt18) : z7_r0_1 = 0 ∨ g7_r0_1 ≠ b8))) Kw10)
          refine sw_loopD (α := Nat × Int × Int) [14, 15, 52, 53, 54, 55, 56, 57, 58, 59, 60, 61, 62, 63] (fun ⟨n3, a8, a9⟩ => [(14, .int .i64 a8), (15, .int .i64 a9)]) (fun ⟨n3, a8, a9⟩ wr => (fixN (law04_PolyPunctured_L3 p1 p2 p3 x1 x3 x4) n3 (a8, a9) = some r) ∧ Kz [] w10 wr) (fun ⟨n3, a8, a9⟩ => n3) ⟨FUEL, 0, 0⟩ ?_ ?_ ?_
          · repeat' first | exact trivial | refine ⟨rfl, ?_⟩
          · exact ⟨hm, Kz.refl _ _⟩
          · clear hm; rintro ⟨n3, a8, a9⟩ w11 ⟨hm, Kw11⟩
            have z30 := Kw11.size
            have hb := fix_succ hm; clear hm; obtain ⟨n3, rfl, hm⟩ := hb
            generalize hrec3 : fixN (law04_PolyPunctured_L3 p1 p2 p3 x1 x3 x4) n3 = rec3 at hm
            unfold law04_PolyPunctured_L3 at hm
            try dsimp only at hm
            refine sw_seq ?_
            refine sw_seq ?_
            -- region 10 outright.go:298
            refine sw_region [(0, 0), (1, 0), (2, 0), (3, 0)] rfl rfl rfl ?_
            refine sd_vv rfl rfl rfl (vv_move rfl) ?_
            refine sd_vv rfl rfl rfl (vv_move rfl) ?_
            have hb := bnd hm; clear hm; obtain ⟨n10, hn10, hm⟩ := hb
            refine sd_vv rfl rfl rfl (vv_shlI (a := 1) (b := p1) rfl rfl hn10) ?_
            refine sd_vv rfl rfl rfl (vv_lss (a := a9) (b := shlI 1 n10) rfl rfl) ?_
            refine sd_done ?_
            refine sw_cond rfl (fun c3 => ?_) (fun c3 => ?_)
            ·
              replace hm := ite_t (of_decide_eq_true c3) hm
              refine sw_skip ?_
              refine then_n ?_
              refine sw_seq ?_
              refine sw_block ?_
              refine sw_seq ?_
              -- region 12 outright.go:299
              refine sw_region [(0, 0), (1, 0), (2, 0), (3, 0)] rfl rfl rfl ?_
              refine sd_vv rfl rfl rfl (vv_move rfl) ?_
              refine sd_vv rfl rfl rfl (vv_move rfl) ?_
              refine sd_vv rfl rfl rfl (vv_move rfl) ?_
              have B31 := (Rd.kz B27 Kw11)
              have hb := bnd hm; clear hm; obtain ⟨x11, hx11, hm⟩ := hb
              refine sd_ev rfl rfl rfl (ev_call en_59 rfl (law04_has_w p2 p1 a9 _ _ _ _ _ hx11 _ B31)) ?_
              rintro _ w12 ⟨rfl, Gw12⟩
              have z32 := Gw12.size
              refine sd_done ?_
              refine sw_cond rfl (fun c4 => ?_) (fun c4 => ?_)
              ·
                replace hm := cnd_t c4 hm
                -- region 13 outright.go:300
                refine sw_region [(0, 0), (1, 0), (2, 0)] rfl rfl rfl ?_
                refine sd_vv rfl rfl rfl (vv_move rfl) ?_
                refine sd_vv rfl rfl rfl (vv_add (k := .i64) (a := a8) (b := 1) rfl rfl) ?_
                refine sd_vv rfl rfl rfl (vv_assign rfl) ?_
                refine sd_nil ?_
                refine block_n ?_
                refine then_n ?_
                -- region 11 outright.go:298
                refine sw_region [(0, 0), (1, 0), (2, 0)] rfl rfl rfl ?_
                refine sd_vv rfl rfl rfl (vv_move rfl) ?_
                refine sd_vv rfl rfl rfl (vv_add (k := .i64) (a := a9) (b := 1) rfl rfl) ?_
                refine sd_vv rfl rfl rfl (vv_assign rfl) ?_
                refine sd_nil ?_
                have K_33 : Kz [] w10 w12 := (Kz.gr Kw11 Gw12)
                subst hrec3
                refine ⟨rfl, ⟨n3, w64 (a8 + 1), w64 (a9 + 1)⟩, ?_, ⟨hm, K_33⟩, Nat.lt_succ_self _⟩
                repeat' first | exact trivial | refine ⟨rfl, ?_⟩
              ·
                replace hm := cnd_f c4 hm
                refine sw_skip ?_
                refine block_n ?_
                refine then_n ?_
                -- region 11 outright.go:298
                refine sw_region [(0, 0), (1, 0), (2, 0)] rfl rfl rfl ?_
                refine sd_vv rfl rfl rfl (vv_move rfl) ?_
                refine sd_vv rfl rfl rfl (vv_add (k := .i64) (a := a9) (b := 1) rfl rfl) ?_
                refine sd_vv rfl rfl rfl (vv_assign rfl) ?_
                refine sd_nil ?_
                have K_34 : Kz [] w10 w12 := (Kz.gr Kw11 Gw12)
                subst hrec3
                refine ⟨rfl, ⟨n3, a8, w64 (a9 + 1)⟩, ?_, ⟨hm, K_34⟩, Nat.lt_succ_self _⟩
                repeat' first | exact trivial | refine ⟨rfl, ?_⟩
            ·
              replace hm := ite_f (of_decide_eq_false c3) hm
              refine sw_exit ?_
              refine then_x ?_
              refine then_x ?_
              refine block_x ?_
              refine then_n ?_
              refine sw_seq ?_
              have X35 : Gr w w11 := (Gr.kz X26 Kw11)
              refine sw_joinD (β := Bool) [64, 65, 66, 67, 68, 69, 70, 71, 72, 73, 74, 75, 76, 77, 78, 79, 80, 81] (fun a12 => [(81, .bool a12)]) (fun a12 wr => (law04_PolyPunctured_J4 p1 p2 p3 x1 x3 x4 a12 = some r) ∧ Kz [] w11 wr) ?_ ?_
              · clear hm; rintro a12 w13 ⟨hm, Kw13⟩
                have z36 := Kw13.size
                unfold law04_PolyPunctured_J4 at hm
                refine sw_cond rfl (fun c5 => ?_) (fun c5 => ?_)
                ·
                  replace hm := cnd_t c5 hm
                  refine sw_seq ?_
                  -- region 15 outright.go:304
                  refine sw_region [(0, 0)] rfl rfl rfl ?_
                  refine sd_vv rfl rfl rfl (vv_assign rfl) ?_
                  refine sd_done ?_
                  refine sw_ret ?_
                  refine then_r ?_
                  have X37 : Gr w w13 := (Gr.kz X35 Kw13)
                  have hr := Option.some.inj hm
                  subst hr
                  refine ⟨_, _, rfl, res_1 rfl (rv_tmp rfl), ?_⟩
                  exact ⟨rfl, X37⟩
                ·
                  replace hm := cnd_f c5 hm
                  refine sw_skip ?_
                  refine then_n ?_
                  refine sw_seq ?_
                  -- region 16 outright.go:306
                  refine sw_region [(0, 0), (1, 0), (2, 0), (3, 0), (4, 0), (5, 0), (6, 0), (7, 0), (8, 0)] rfl rfl rfl ?_
                  have B38 := (Bx.kz (Bx.kz (Bx.kz (Bx.md (Bx.gr (Bx.gr Bw6 Gw7) Gw8) Mw9) Kw10) Kw11) Kw13)
                  refine sd_vv rfl rfl rfl (vv_loadW agg_76 rfl B38 rfl) ?_
                  refine sd_vv rfl rfl rfl (vv_move rfl) ?_
                  have B39 := (Own.kz (Own.kz B28 Kw11) Kw13)
                  have hb := bnd hm; clear hm; obtain ⟨x13, hx13, hm⟩ := hb
                  refine sd_ev rfl rfl rfl (ev_call en_46 rfl (poly_Evaluate_w x3.1 p3 _ _ _ _ _ hx13 _ (Own.rd B39))) ?_
                  rintro _ w14 ⟨rfl, Gw14⟩
                  have z40 := Gw14.size
                  refine sd_vv rfl rfl rfl (vv_move rfl) ?_
                  refine sd_vv rfl rfl rfl (vv_extract rfl rfl) ?_
                  refine sd_vv rfl rfl rfl (vv_extract rfl rfl) ?_
                  refine sd_ev rfl rfl rfl (ev_alloc (cs := kb k0) zv_23 rfl) ?_
                  rintro _ w15 ⟨b15, rfl, hbw15, Bw15, Gw15⟩
                  have z41 := Gw15.size
                  have lt42 := Bw15.lt
                  refine sd_ev rfl rfl rfl (ev_stM (cs' := kb x13.1) (vs := kb x13.1) (agg_23).siz rfl rfl rfl rfl rfl Bw15 rfl rfl) ?_
                  rintro _ w16 ⟨Bw16, Mw16⟩
                  have z43 := Mw16.size
                  refine sd_vv rfl rfl rfl (vv_assign rfl) ?_
                  refine sd_done ?_
                  refine sw_seq ?_
                  -- region 17 outright.go:307
                  refine sw_region [(0, 0), (1, 0), (2, 0), (3, 0), (4, 0), (5, 0), (6, 0), (7, 0), (8, 0)] rfl rfl rfl ?_
                  have B44 := (Bx.md (Bx.gr (Bx.gr (Bx.kz (Bx.kz (Bx.kz Bw9 Kw10) Kw11) Kw13) Gw14) Gw15) Mw16)
                  refine sd_vv rfl rfl rfl (vv_loadW agg_76 rfl B44 rfl) ?_
                  refine sd_vv rfl rfl rfl (vv_move rfl) ?_
                  have B45 := (Own.md (Own.gr (Own.gr (Own.kz (Own.kz B29 Kw11) Kw13) Gw14) Gw15) Mw16 (tk1 ((pv_lt (A := (fun x => x ≠ b15)) lt18) : z7_r0_1 = 0 ∨ g7_r0_1 ≠ b15)))
                  have hb := bnd hm; clear hm; obtain ⟨x14, hx14, hm⟩ := hb
                  refine sd_ev rfl rfl rfl (ev_call en_46 rfl (poly_Evaluate_w x4.1 p3 _ _ _ _ _ hx14 _ (Own.rd B45))) ?_
                  rintro _ w17 ⟨rfl, Gw17⟩
                  have z46 := Gw17.size
                  refine sd_vv rfl rfl rfl (vv_move rfl) ?_
                  refine sd_vv rfl rfl rfl (vv_extract rfl rfl) ?_
                  refine sd_vv rfl rfl rfl (vv_extract rfl rfl) ?_
                  refine sd_ev rfl rfl rfl (ev_alloc (cs := kb k0) zv_23 rfl) ?_
                  rintro _ w18 ⟨b18, rfl, hbw18, Bw18, Gw18⟩
                  have z47 := Gw18.size
                  have lt48 := Bw18.lt
                  refine sd_ev rfl rfl rfl (ev_stM (cs' := kb x14.1) (vs := kb x14.1) (agg_23).siz rfl rfl rfl rfl rfl Bw18 rfl rfl) ?_
                  rintro _ w19 ⟨Bw19, Mw19⟩
                  have z49 := Mw19.size
                  refine sd_vv rfl rfl rfl (vv_assign rfl) ?_
                  refine sd_done ?_
                  refine sw_seq ?_
                  have X50 : Gr w w19 := (Gr.md (Gr.trans (Gr.trans (Gr.md (Gr.trans (Gr.trans (Gr.kz X35 Kw13) Gw14) Gw15) Mw16) Gw17) Gw18) Mw19)
                  refine sw_joinD (β := Bool) [94, 95, 96, 97, 98, 99, 100, 101] (fun a15 => [(101, .bool a15)]) (fun a15 wr => (law04_PolyPunctured_J5 p1 p2 p3 x1 x13 x14 a15 = some r) ∧ Kz [] w19 wr) ?_ ?_
                  · clear hm; rintro a15 w20 ⟨hm, Kw20⟩
                    have z51 := Kw20.size
                    unfold law04_PolyPunctured_J5 at hm
                    refine sw_cond rfl (fun c6 => ?_) (fun c6 => ?_)
                    ·
                      replace hm := cnd_t c6 hm
                      refine sw_seq ?_
                      -- region 19 outright.go:309
                      refine sw_region [(0, 0), (1, 0), (2, 0), (3, 0), (4, 0), (5, 0), (6, 0), (7, 0), (8, 0), (9, 0)] rfl rfl rfl ?_
                      refine sd_vv rfl rfl rfl (vv_move rfl) ?_
                      refine sd_split rfl rfl rfl (vv_move rfl) (fun c7 => ?_) (fun c7 => ?_)
                      ·
                        replace hm := cnd_t c7 hm
                        refine sd_vv rfl rfl rfl (vv_move rfl) ?_
                        refine sd_vv rfl rfl rfl (vv_eql (a := x13.2) (b := 2) rfl rfl) ?_
                        refine sd_vv rfl rfl rfl (vv_pickT rfl rfl) ?_
                        refine sd_split rfl rfl rfl (vv_move rfl) (fun c8 => ?_) (fun c8 => ?_)
                        ·
                          replace hm := ite_t (of_decide_eq_true c8) hm
                          refine sd_vv rfl rfl rfl (vv_move rfl) ?_
                          refine sd_vv rfl rfl rfl (vv_eql (a := x14.2) (b := 2) rfl rfl) ?_
                          refine sd_vv rfl rfl rfl (vv_pickT rfl rfl) ?_
                          refine sd_vv rfl rfl rfl (vv_assign rfl) ?_
                          refine sd_done ?_
                          refine sw_ret ?_
                          refine then_r ?_
                          have X52 : Gr w w20 := (Gr.kz X50 Kw20)
                          have hr := Option.some.inj hm
                          subst hr
                          refine ⟨_, _, rfl, res_1 rfl (rv_tmp rfl), ?_⟩
                          exact ⟨rfl, X52⟩
                        ·
                          replace hm := ite_f (of_decide_eq_false c8) hm
                          refine sd_skip rfl rfl rfl ?_
                          refine sd_skip rfl rfl rfl ?_
                          refine sd_vv rfl rfl rfl (vv_pickF rfl rfl) ?_
                          refine sd_vv rfl rfl rfl (vv_assign rfl) ?_
                          refine sd_done ?_
                          refine sw_ret ?_
                          refine then_r ?_
                          have X53 : Gr w w20 := (Gr.kz X50 Kw20)
                          have hr := Option.some.inj hm
                          subst hr
                          refine ⟨_, _, rfl, res_1 rfl (rv_tmp rfl), ?_⟩
                          exact ⟨rfl, X53⟩
                      ·
                        replace hm := cnd_f c7 hm
                        refine sd_skip rfl rfl rfl ?_
                        refine sd_skip rfl rfl rfl ?_
                        refine sd_vv rfl rfl rfl (vv_pickF rfl rfl) ?_
                        refine sd_vv rfl rfl rfl (vv_move rfl) ?_
                        refine sd_skip rfl rfl rfl ?_
                        refine sd_skip rfl rfl rfl ?_
                        refine sd_vv rfl rfl rfl (vv_pickF rfl rfl) ?_
                        refine sd_vv rfl rfl rfl (vv_assign rfl) ?_
                        refine sd_done ?_
                        refine sw_ret ?_
                        refine then_r ?_
                        have X54 : Gr w w20 := (Gr.kz X50 Kw20)
                        have hr := Option.some.inj hm
                        subst hr
                        refine ⟨_, _, rfl, res_1 rfl (rv_tmp rfl), ?_⟩
                        exact ⟨rfl, X54⟩
                    ·
                      replace hm := cnd_f c6 hm
                      refine sw_skip ?_
                      refine then_n ?_
                      refine sw_seq ?_
                      refine sw_seq ?_
                      -- region 20 outright.go:311
                      refine sw_region [(0, 0), (1, 0), (2, 0), (3, 0)] rfl rfl rfl ?_
                      refine sd_vv rfl rfl rfl (vv_move rfl) ?_
                      refine sd_vv rfl rfl rfl (vv_move rfl) ?_
                      refine sd_vv rfl rfl rfl (vv_move rfl) ?_
                      have B55 := (Rd.kz (Rd.md (Rd.gr (Rd.gr (Rd.md (Rd.gr (Rd.gr (Rd.kz (Rd.kz B27 Kw11) Kw13) Gw14) Gw15) Mw16 (tk1 ((pv_lt (A := (fun x => x ≠ b15)) lt1) : zp2 = 0 ∨ gp2 ≠ b15))) Gw17) Gw18) Mw19 (tk1 ((pv_lt (A := (fun x => x ≠ b18)) lt1) : zp2 = 0 ∨ gp2 ≠ b18))) Kw20)
                      have hb := bnd hm; clear hm; obtain ⟨x16, hx16, hm⟩ := hb
                      refine sd_ev rfl rfl rfl (ev_call en_59 rfl (law04_has_w p2 p1 p3 _ _ _ _ _ hx16 _ B55)) ?_
                      rintro _ w21 ⟨rfl, Gw21⟩
                      have z56 := Gw21.size
                      refine sd_done ?_
                      refine sw_cond rfl (fun c9 => ?_) (fun c9 => ?_)
                      ·
                        replace hm := cnd_t c9 hm
                        refine sw_seq ?_
                        -- region 21 outright.go:312
                        refine sw_region [(0, 0), (1, 0), (2, 0), (3, 0), (4, 0), (5, 0), (6, 0), (7, 0), (8, 0), (9, 0)] rfl rfl rfl ?_
                        refine sd_vv rfl rfl rfl (vv_move rfl) ?_
                        refine sd_split rfl rfl rfl (vv_move rfl) (fun c10 => ?_) (fun c10 => ?_)
                        ·
                          replace hm := cnd_t c10 hm
                          refine sd_vv rfl rfl rfl (vv_move rfl) ?_
                          refine sd_vv rfl rfl rfl (vv_eql (a := x13.2) (b := 6) rfl rfl) ?_
                          refine sd_vv rfl rfl rfl (vv_pickT rfl rfl) ?_
                          refine sd_split rfl rfl rfl (vv_move rfl) (fun c11 => ?_) (fun c11 => ?_)
                          ·
                            replace hm := ite_t (of_decide_eq_true c11) hm
                            refine sd_vv rfl rfl rfl (vv_move rfl) ?_
                            refine sd_vv rfl rfl rfl (vv_eql (a := x14.2) (b := 0) rfl rfl) ?_
                            refine sd_vv rfl rfl rfl (vv_pickT rfl rfl) ?_
                            refine sd_vv rfl rfl rfl (vv_assign rfl) ?_
                            refine sd_done ?_
                            refine sw_ret ?_
                            refine then_r ?_
                            have X57 : Gr w w21 := (Gr.trans (Gr.kz X50 Kw20) Gw21)
                            have hr := Option.some.inj hm
                            subst hr
                            refine ⟨_, _, rfl, res_1 rfl (rv_tmp rfl), ?_⟩
                            exact ⟨rfl, X57⟩
                          ·
                            replace hm := ite_f (of_decide_eq_false c11) hm
                            refine sd_skip rfl rfl rfl ?_
                            refine sd_skip rfl rfl rfl ?_
                            refine sd_vv rfl rfl rfl (vv_pickF rfl rfl) ?_
                            refine sd_vv rfl rfl rfl (vv_assign rfl) ?_
                            refine sd_done ?_
                            refine sw_ret ?_
                            refine then_r ?_
                            have X58 : Gr w w21 := (Gr.trans (Gr.kz X50 Kw20) Gw21)
                            have hr := Option.some.inj hm
                            subst hr
                            refine ⟨_, _, rfl, res_1 rfl (rv_tmp rfl), ?_⟩
                            exact ⟨rfl, X58⟩
                        ·
                          replace hm := cnd_f c10 hm
                          refine sd_skip rfl rfl rfl ?_
                          refine sd_skip rfl rfl rfl ?_
                          refine sd_vv rfl rfl rfl (vv_pickF rfl rfl) ?_
                          refine sd_vv rfl rfl rfl (vv_move rfl) ?_
                          refine sd_skip rfl rfl rfl ?_
                          refine sd_skip rfl rfl rfl ?_
                          refine sd_vv rfl rfl rfl (vv_pickF rfl rfl) ?_
                          refine sd_vv rfl rfl rfl (vv_assign rfl) ?_
                          refine sd_done ?_
                          refine sw_ret ?_
                          refine then_r ?_
                          have X59 : Gr w w21 := (Gr.trans (Gr.kz X50 Kw20) Gw21)
                          have hr := Option.some.inj hm
                          subst hr
                          refine ⟨_, _, rfl, res_1 rfl (rv_tmp rfl), ?_⟩
                          exact ⟨rfl, X59⟩
                      ·
                        replace hm := cnd_f c9 hm
                        refine sw_skip ?_
                        refine then_n ?_
                        refine sw_seq ?_
                        -- region 22 outright.go:314
                        refine sw_region [(0, 0), (1, 0), (2, 0), (3, 0), (4, 0), (5, 0), (6, 0), (7, 0), (8, 0), (9, 0), (10, 0), (11, 0), (12, 0), (13, 0), (14, 0)] rfl rfl rfl ?_
                        refine sd_vv rfl rfl rfl (vv_move rfl) ?_
                        refine sd_split rfl rfl rfl (vv_move rfl) (fun c12 => ?_) (fun c12 => ?_)
                        ·
                          replace hm := cnd_t c12 hm
                          refine sd_vv rfl rfl rfl (vv_move rfl) ?_
                          refine sd_vv rfl rfl rfl (vv_eql (a := x13.2) (b := 0) rfl rfl) ?_
                          refine sd_vv rfl rfl rfl (vv_pickT rfl rfl) ?_
                          refine sd_split rfl rfl rfl (vv_move rfl) (fun c13 => ?_) (fun c13 => ?_)
                          ·
                            replace hm := ite_t (of_decide_eq_true c13) hm
                            refine sd_vv rfl rfl rfl (vv_move rfl) ?_
                            refine sd_vv rfl rfl rfl (vv_eql (a := x14.2) (b := 0) rfl rfl) ?_
                            refine sd_vv rfl rfl rfl (vv_pickT rfl rfl) ?_
                            refine sd_split rfl rfl rfl (vv_move rfl) (fun c14 => ?_) (fun c14 => ?_)
                            ·
                              replace hm := ite_t (of_decide_eq_true c14) hm
                              have B60 := (Bx.gr (Bx.kz (Bx.md (Bx.gr (Bx.gr Bw16 Gw17) Gw18) Mw19) Kw20) Gw21)
                              refine sd_vv rfl rfl rfl (vv_loadW agg_23 rfl B60 rfl) ?_
                              have B61 := (Bx.gr (Bx.kz Bw19 Kw20) Gw21)
                              refine sd_vv rfl rfl rfl (vv_loadW agg_23 rfl B61 rfl) ?_
                              refine sd_vv rfl rfl rfl (vv_eqlS (cf := kb) (a := x13.1) (b := x14.1) eqt_23 rfl rfl rfl rfl (fun h => kb_inj h)) ?_
                              refine sd_vv rfl rfl rfl (vv_pickT rfl rfl) ?_
                              refine sd_vv rfl rfl rfl (vv_assign rfl) ?_
                              refine sd_done ?_
                              refine sw_ret ?_
                              have X62 : Gr w w21 := (Gr.trans (Gr.kz X50 Kw20) Gw21)
                              have hr := Option.some.inj hm
                              subst hr
                              refine ⟨_, _, rfl, res_1 rfl (rv_tmp rfl), ?_⟩
                              exact ⟨rfl, X62⟩
                            ·
                              replace hm := ite_f (of_decide_eq_false c14) hm
                              refine sd_skip rfl rfl rfl ?_
                              refine sd_skip rfl rfl rfl ?_
                              refine sd_skip rfl rfl rfl ?_
                              refine sd_vv rfl rfl rfl (vv_pickF rfl rfl) ?_
                              refine sd_vv rfl rfl rfl (vv_assign rfl) ?_
                              refine sd_done ?_
                              refine sw_ret ?_
                              have X63 : Gr w w21 := (Gr.trans (Gr.kz X50 Kw20) Gw21)
                              have hr := Option.some.inj hm
                              subst hr
                              refine ⟨_, _, rfl, res_1 rfl (rv_tmp rfl), ?_⟩
                              exact ⟨rfl, X63⟩
                          ·
                            replace hm := ite_f (of_decide_eq_false c13) hm
                            refine sd_skip rfl rfl rfl ?_
                            refine sd_skip rfl rfl rfl ?_
                            refine sd_vv rfl rfl rfl (vv_pickF rfl rfl) ?_
                            refine sd_vv rfl rfl rfl (vv_move rfl) ?_
                            refine sd_skip rfl rfl rfl ?_
                            refine sd_skip rfl rfl rfl ?_
                            refine sd_skip rfl rfl rfl ?_
                            refine sd_vv rfl rfl rfl (vv_pickF rfl rfl) ?_
                            refine sd_vv rfl rfl rfl (vv_assign rfl) ?_
                            refine sd_done ?_
                            refine sw_ret ?_
                            have X64 : Gr w w21 := (Gr.trans (Gr.kz X50 Kw20) Gw21)
                            have hr := Option.some.inj hm
                            subst hr
                            refine ⟨_, _, rfl, res_1 rfl (rv_tmp rfl), ?_⟩
                            exact ⟨rfl, X64⟩
                        ·
                          replace hm := cnd_f c12 hm
                          refine sd_skip rfl rfl rfl ?_
                          refine sd_skip rfl rfl rfl ?_
                          refine sd_vv rfl rfl rfl (vv_pickF rfl rfl) ?_
                          refine sd_vv rfl rfl rfl (vv_move rfl) ?_
                          refine sd_skip rfl rfl rfl ?_
                          refine sd_skip rfl rfl rfl ?_
                          refine sd_vv rfl rfl rfl (vv_pickF rfl rfl) ?_
                          refine sd_vv rfl rfl rfl (vv_move rfl) ?_
                          refine sd_skip rfl rfl rfl ?_
                          refine sd_skip rfl rfl rfl ?_
                          refine sd_skip rfl rfl rfl ?_
                          refine sd_vv rfl rfl rfl (vv_pickF rfl rfl) ?_
                          refine sd_vv rfl rfl rfl (vv_assign rfl) ?_
                          refine sd_done ?_
                          refine sw_ret ?_
                          have X65 : Gr w w21 := (Gr.trans (Gr.kz X50 Kw20) Gw21)
                          have hr := Option.some.inj hm
                          subst hr
                          refine ⟨_, _, rfl, res_1 rfl (rv_tmp rfl), ?_⟩
                          exact ⟨rfl, X65⟩
                  ·
                    -- region 18 outright.go:308
                    refine sw_region [(0, 0), (1, 0), (2, 0), (3, 0), (4, 0), (5, 0), (6, 0), (7, 0)] rfl rfl rfl ?_
                    refine sd_vv rfl rfl rfl (vv_move rfl) ?_
                    refine sd_vv rfl rfl rfl (vv_lss (a := p3) (b := 0) rfl rfl) ?_
                    refine sd_split rfl rfl rfl (vv_move rfl) (fun c15 => ?_) (fun c15 => ?_)
                    ·
                      replace hm := ite_t (of_decide_eq_true c15) hm
                      refine sd_skip rfl rfl rfl ?_
                      refine sd_skip rfl rfl rfl ?_
                      refine sd_skip rfl rfl rfl ?_
                      refine sd_skip rfl rfl rfl ?_
                      refine sd_vv rfl rfl rfl (vv_pickT rfl rfl) ?_
                      refine sd_nil ?_
                      have K_66 : Kz [] w19 w19 := (Kz.refl _ _)
                      refine ⟨rfl, true, ?_, hm, K_66⟩
                      repeat' first | exact trivial | refine ⟨rfl, ?_⟩
                    ·
                      replace hm := ite_f (of_decide_eq_false c15) hm
                      refine sd_vv rfl rfl rfl (vv_move rfl) ?_
                      refine sd_vv rfl rfl rfl (vv_move rfl) ?_
                      have hb := bnd hm; clear hm; obtain ⟨n17, hn17, hm⟩ := hb
                      refine sd_vv rfl rfl rfl (vv_shlI (a := 1) (b := p1) rfl rfl hn17) ?_
                      refine sd_vv rfl rfl rfl (vv_geq (a := p3) (b := shlI 1 n17) rfl rfl) ?_
                      refine sd_vv rfl rfl rfl (vv_pickF rfl rfl) ?_
                      refine sd_nil ?_
                      have K_67 : Kz [] w19 w19 := (Kz.refl _ _)
                      refine ⟨rfl, (decide (shlI 1 n17 ≤ p3)), ?_, hm, K_67⟩
                      repeat' first | exact trivial | refine ⟨rfl, ?_⟩
              ·
                -- region 14 outright.go:303
                refine sw_region [(0, 0), (1, 0), (2, 0), (3, 0), (4, 0), (5, 0), (6, 0), (7, 0), (8, 0), (9, 0), (10, 0), (11, 0), (12, 0), (13, 0), (14, 0), (15, 0), (16, 0), (17, 0)] rfl rfl rfl ?_
                refine sd_vv rfl rfl rfl (vv_fieldAddr fa_76_1 rfl) ?_
                have B68 := (Bx.kz (Bx.kz (Bx.md (Bx.gr (Bx.gr Bw6 Gw7) Gw8) Mw9) Kw10) Kw11)
                refine sd_vv rfl rfl rfl (vv_load1 (v := u4_r0_1) one_29 rfl B68 rfl) ?_
                have B69 := (Own.kz B28 Kw11)
                refine sd_vv rfl rfl rfl (vv_lenT (l := x3.1.Labels) (c := TLabel.cs) Try.underlying29 rfl (Own.rd B69)) ?_
                refine sd_vv rfl rfl rfl (vv_move rfl) ?_
                refine sd_vv rfl rfl rfl (vv_move rfl) ?_
                refine sd_vv rfl rfl rfl (vv_mul (k := .i64) (a := a8) (b := p1) rfl rfl) ?_
                refine sd_vv rfl rfl rfl (vv_maxK rfl rfl) ?_
                refine sd_vv rfl rfl rfl (vv_gtr (a := (x3.1.Labels.length : Int)) (b := mxI (w64 (a8 * p1)) 1) rfl rfl) ?_
                refine sd_split rfl rfl rfl (vv_move rfl) (fun c16 => ?_) (fun c16 => ?_)
                ·
                  replace hm := ite_t (of_decide_eq_true c16) hm
                  refine sd_skip rfl rfl rfl ?_
                  refine sd_skip rfl rfl rfl ?_
                  refine sd_skip rfl rfl rfl ?_
                  refine sd_skip rfl rfl rfl ?_
                  refine sd_skip rfl rfl rfl ?_
                  refine sd_skip rfl rfl rfl ?_
                  refine sd_skip rfl rfl rfl ?_
                  refine sd_skip rfl rfl rfl ?_
                  refine sd_vv rfl rfl rfl (vv_pickT rfl rfl) ?_
                  refine sd_nil ?_
                  have K_70 : Kz [] w11 w11 := (Kz.refl _ _)
                  refine ⟨rfl, true, ?_, hm, K_70⟩
                  repeat' first | exact trivial | refine ⟨rfl, ?_⟩
                ·
                  replace hm := ite_f (of_decide_eq_false c16) hm
                  refine sd_vv rfl rfl rfl (vv_move rfl) ?_
                  refine sd_vv rfl rfl rfl (vv_eql (a := a8) (b := 0) rfl rfl) ?_
                  refine sd_split rfl rfl rfl (vv_move rfl) (fun c17 => ?_) (fun c17 => ?_)
                  ·
                    replace hm := ite_t (of_decide_eq_true c17) hm
                    refine sd_vv rfl rfl rfl (vv_fieldAddr fa_76_1 rfl) ?_
                    refine sd_vv rfl rfl rfl (vv_load1 (v := u4_r0_1) one_29 rfl B68 rfl) ?_
                    refine sd_vv rfl rfl rfl (vv_lenT (l := x3.1.Labels) (c := TLabel.cs) Try.underlying29 rfl (Own.rd B69)) ?_
                    refine sd_vv rfl rfl rfl (vv_neq (a := (x3.1.Labels.length : Int)) (b := 1) rfl rfl) ?_
                    refine sd_vv rfl rfl rfl (vv_pickT rfl rfl) ?_
                    refine sd_vv rfl rfl rfl (vv_pickF rfl rfl) ?_
                    refine sd_nil ?_
                    have K_71 : Kz [] w11 w11 := (Kz.refl _ _)
                    refine ⟨rfl, (decide ((x3.1.Labels.length : Int) ≠ 1)), ?_, hm, K_71⟩
                    repeat' first | exact trivial | refine ⟨rfl, ?_⟩
                  ·
                    replace hm := ite_f (of_decide_eq_false c17) hm
                    refine sd_skip rfl rfl rfl ?_
                    refine sd_skip rfl rfl rfl ?_
                    refine sd_skip rfl rfl rfl ?_
                    refine sd_skip rfl rfl rfl ?_
                    refine sd_vv rfl rfl rfl (vv_pickF rfl rfl) ?_
                    refine sd_vv rfl rfl rfl (vv_pickF rfl rfl) ?_
                    refine sd_nil ?_
                    have K_72 : Kz [] w11 w11 := (Kz.refl _ _)
                    refine ⟨rfl, false, ?_, hm, K_72⟩
                    repeat' first | exact trivial | refine ⟨rfl, ?_⟩
      ·
        -- region 6 outright.go:294
        refine sw_region [(0, 0), (1, 0), (2, 0), (3, 0), (4, 0), (5, 0)] rfl rfl rfl ?_
        refine sd_vv rfl rfl rfl (vv_move rfl) ?_
        refine sd_vv rfl rfl rfl (vv_not rfl) ?_
        refine sd_split rfl rfl rfl (vv_move rfl) (fun c18 => ?_) (fun c18 => ?_)
        ·
          replace hm := cnd_t c18 hm
          refine sd_skip rfl rfl rfl ?_
          refine sd_skip rfl rfl rfl ?_
          refine sd_vv rfl rfl rfl (vv_pickT rfl rfl) ?_
          refine sd_nil ?_
          have K_73 : Kz [] w9 w9 := (Kz.refl _ _)
          refine ⟨rfl, true, ?_, hm, K_73⟩
          repeat' first | exact trivial | refine ⟨rfl, ?_⟩
        ·
          replace hm := cnd_f c18 hm
          refine sd_vv rfl rfl rfl (vv_move rfl) ?_
          refine sd_vv rfl rfl rfl (vv_neq (a := x4.2) (b := 0) rfl rfl) ?_
          refine sd_vv rfl rfl rfl (vv_pickF rfl rfl) ?_
          refine sd_nil ?_
          have K_74 : Kz [] w9 w9 := (Kz.refl _ _)
          refine ⟨rfl, (decide (x4.2 ≠ 0)), ?_, hm, K_74⟩
          repeat' first | exact trivial | refine ⟨rfl, ?_⟩
  ·
    -- region 2 outright.go:289
    refine sw_region [(0, 0), (1, 0), (2, 0), (3, 0), (4, 0), (5, 0), (6, 0), (7, 0), (8, 0), (9, 0), (10, 0)] rfl rfl rfl ?_
    refine sd_vv rfl rfl rfl (vv_move rfl) ?_
    refine sd_vv rfl rfl rfl (vv_lss (a := p1) (b := 0) rfl rfl) ?_
    refine sd_split rfl rfl rfl (vv_move rfl) (fun c19 => ?_) (fun c19 => ?_)
    ·
      replace hm := ite_t (of_decide_eq_true c19) hm
      refine sd_skip rfl rfl rfl ?_
      refine sd_skip rfl rfl rfl ?_
      refine sd_vv rfl rfl rfl (vv_pickT rfl rfl) ?_
      refine sd_vv rfl rfl rfl (vv_move rfl) ?_
      refine sd_skip rfl rfl rfl ?_
      refine sd_skip rfl rfl rfl ?_
      refine sd_skip rfl rfl rfl ?_
      refine sd_vv rfl rfl rfl (vv_pickT rfl rfl) ?_
      refine sd_nil ?_
      have K_75 : Kz [] w2 w2 := (Kz.refl _ _)
      refine ⟨rfl, true, ?_, hm, K_75⟩
      repeat' first | exact trivial | refine ⟨rfl, ?_⟩
    ·
      replace hm := ite_f (of_decide_eq_false c19) hm
      refine sd_vv rfl rfl rfl (vv_move rfl) ?_
      refine sd_vv rfl rfl rfl (vv_gtr (a := p1) (b := 6) rfl rfl) ?_
      refine sd_vv rfl rfl rfl (vv_pickF rfl rfl) ?_
      refine sd_split rfl rfl rfl (vv_move rfl) (fun c20 => ?_) (fun c20 => ?_)
      ·
        replace hm := ite_t (of_decide_eq_true c20) hm
        refine sd_skip rfl rfl rfl ?_
        refine sd_skip rfl rfl rfl ?_
        refine sd_skip rfl rfl rfl ?_
        refine sd_vv rfl rfl rfl (vv_pickT rfl rfl) ?_
        refine sd_nil ?_
        have K_76 : Kz [] w2 w2 := (Kz.refl _ _)
        refine ⟨rfl, true, ?_, hm, K_76⟩
        repeat' first | exact trivial | refine ⟨rfl, ?_⟩
      ·
        replace hm := ite_f (of_decide_eq_false c20) hm
        refine sd_vv rfl rfl rfl (vv_move rfl) ?_
        have B77 := (Rd.gr (Rd.gr hp2 Gw1) Gw2)
        refine sd_vv rfl rfl rfl (vv_lenT (l := p2) (c := bvc) Try.underlying105 rfl B77) ?_
        refine sd_vv rfl rfl rfl (vv_gtr (a := (p2.length : Int)) (b := 300) rfl rfl) ?_
        refine sd_vv rfl rfl rfl (vv_pickF rfl rfl) ?_
        refine sd_nil ?_
        have K_78 : Kz [] w2 w2 := (Kz.refl _ _)
        refine ⟨rfl, (decide ((300 : Int) < (p2.length : Int))), ?_, hm, K_78⟩
        repeat' first | exact trivial | refine ⟨rfl, ?_⟩
end Go.Proofs.Ytkdghilkigojgaa.Mx
