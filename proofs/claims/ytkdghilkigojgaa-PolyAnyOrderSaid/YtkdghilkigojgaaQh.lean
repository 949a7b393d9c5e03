/- Walks that follow mirrors: Qh. Printed by mx.py. -/
import Derived.Test.YtkdghilkigojgaaXl
import Derived.Test.YtkdghilkigojgaaQhM
set_option linter.unusedVariables false
set_option linter.unusedSimpArgs false
set_option maxRecDepth 100000
namespace Go.Proofs.Ytkdghilkigojgaa.Mx
open Go Go.RowKit Go.Sx
theorem en_49 : En Try.prog 49 := fun _ _ => by kernel_rfl
theorem bsl_105_0 : BSl Try.prog 105 0 5 1 [] := bsl_nil Try.underlying105 (one_5).siz
theorem apt_105 : ApT Try.prog 105 5 1 1 := apt_mk Try.underlying105 rfl (by kernel_rfl)
theorem cv_5_3 : CV Try.prog 5 3 .i64 := fun _ _ _ => by kernel_rfl
theorem zv_5 : ZV Try.prog 5 (.int .u8 0) := fun _ => by kernel_rfl
theorem bsl_105_1 : BSl Try.prog 105 1 5 1 [.int .u8 0] := bsl_mk Try.underlying105 (one_5).siz zv_5 rfl rfl (by kernel_rfl)
theorem en_58 : En Try.prog 58 := fun _ _ => by kernel_rfl
theorem en_41 : En Try.prog 41 := fun _ _ => by kernel_rfl

set_option maxHeartbeats 2000000 in
theorem law04_punctured_w (p0 : W2) (p1 : Int) (p2 : List (BitVec 8)) (vp2 : Value) (zp2 gp2 op2 : Nat) (r : TPunctured × Bool) (hm : law04_punctured p0 p1 p2 = some r) (w : World) (hp2 : Rd w zp2 gp2 op2 1 vp2 (p2.map bvc))  :
    Calls Try.prog 58 [kv p0, .int .i64 p1, vp2].toArray w fun e w' => ∃ v, e = .returned v ∧ (∃ (ur0_1 : Value) (zr0_1 : Nat) (gr0_1 : Nat), v = .tuple [.agg (TPunctured.cs r.1 ur0_1).toArray, .bool r.2].toArray ∧ Own w' zr0_1 gr0_1 88 18 ur0_1 (r.1.Labels.map TLabel.cs) ∧ Hdn (zr0_1 = 0 ∨ w.heap.size ≤ gr0_1) ∧ Gr w w') := by
  have lt1 := hp2.lth
  unfold law04_punctured at hm
  refine calls_of_sw (R := fun v w' => ∃ (ur0_1 : Value) (zr0_1 : Nat) (gr0_1 : Nat), v = .tuple [.agg (TPunctured.cs r.1 ur0_1).toArray, .bool r.2].toArray ∧ Own w' zr0_1 gr0_1 88 18 ur0_1 (r.1.Labels.map TLabel.cs) ∧ Hdn (zr0_1 = 0 ∨ w.heap.size ≤ gr0_1) ∧ Gr w w') 51 Try.func58 rfl rfl rfl ?_
  refine sw_seq ?_
  -- region 0 outright.go:261
  refine sw_region [(0, 0), (1, 0), (2, 0)] rfl rfl rfl ?_
  refine sd_ev rfl rfl rfl (ev_box (cs := kb p0) rfl rfl) ?_
  rintro _ w1 ⟨b1, rfl, hbw1, Bw1, Gw1⟩
  have z2 := Gw1.size
  have lt3 := Bw1.lt
  refine sd_ev rfl rfl rfl (ev_alloc (cs := TPunctured.cs (TPunctured.mk 0 []) (.slice none 0 0)) zv_76 rfl) ?_
  rintro _ w2 ⟨b2, rfl, hbw2, Bw2, Gw2⟩
  have z4 := Gw2.size
  have lt5 := Bw2.lt
  refine sd_vv rfl rfl rfl (vv_assign rfl) ?_
  refine sd_done ?_
  refine sw_seq ?_
  -- region 1 outright.go:262
  refine sw_region [(0, 0), (1, 0), (2, 0), (3, 0), (4, 0), (5, 0), (6, 0), (7, 0), (8, 0)] rfl rfl rfl ?_
  have B6 := (Bx.gr Bw1 Gw2)
  refine sd_vv rfl rfl rfl (vv_loadW agg_23 rfl B6 rfl) ?_
  refine sd_vv rfl rfl rfl (vv_move rfl) ?_
  have hb := bnd hm; clear hm; obtain ⟨x1, hx1, hm⟩ := hb
  refine sd_ev rfl rfl rfl (ev_call en_39 rfl (poly_Full_w p0 p1 _ hx1 _)) ?_
  rintro _ w3 ⟨u3_r0_1, z3_r0_1, g3_r0_1, rfl, O3_r0_1, f3_r0_1, Gw3⟩
  have z7 := Gw3.size
  have lt8 := O3_r0_1.lth
  refine sd_vv rfl rfl rfl (vv_move rfl) ?_
  refine sd_vv rfl rfl rfl (vv_extract rfl rfl) ?_
  refine sd_vv rfl rfl rfl (vv_extract rfl rfl) ?_
  refine sd_ev rfl rfl rfl (ev_alloc (cs := TPunctured.cs (TPunctured.mk 0 []) (.slice none 0 0)) zv_76 rfl) ?_
  rintro _ w4 ⟨b4, rfl, hbw4, Bw4, Gw4⟩
  have z9 := Gw4.size
  have lt10 := Bw4.lt
  have B11 := (Own.gr O3_r0_1 Gw4)
  refine sd_ev rfl rfl rfl (ev_stM (cs' := TPunctured.cs x1.1 u3_r0_1) (vs := TPunctured.cs x1.1 u3_r0_1) (agg_76).siz rfl rfl rfl rfl (TPunctured.cs_ones _ _ (Own.oneB B11)) Bw4 rfl rfl) ?_
  rintro _ w5 ⟨Bw5, Mw5⟩
  have z12 := Mw5.size
  refine sd_vv rfl rfl rfl (vv_assign rfl) ?_
  refine sd_done ?_
  refine sw_seq ?_
  refine sw_seq ?_
  -- region 2 outright.go:263
  refine sw_region [(0, 0), (1, 0)] rfl rfl rfl ?_
  refine sd_vv rfl rfl rfl (vv_move rfl) ?_
  refine sd_vv rfl rfl rfl (vv_neq (a := x1.2) (b := 0) rfl rfl) ?_
  refine sd_done ?_
  refine sw_cond rfl (fun c1 => ?_) (fun c1 => ?_)
  ·
    replace hm := ite_t (of_decide_eq_true c1) hm
    refine sw_seq ?_
    -- region 3 outright.go:264
    refine sw_region [(0, 0), (1, 0), (2, 0)] rfl rfl rfl ?_
    refine sd_vv rfl rfl rfl (vv_build (cs := TPunctured.cs (TPunctured.mk 0 []) (.slice none 0 0)) bs_76 rfl rfl) ?_
    have B13 := (Bx.md (Bx.gr (Bx.gr Bw2 Gw3) Gw4) Mw5)
    refine sd_ev rfl rfl rfl (ev_stM (cs' := TPunctured.cs (TPunctured.mk 0 []) (.slice none 0 0)) (vs := TPunctured.cs (TPunctured.mk 0 []) (.slice none 0 0)) (agg_76).siz rfl rfl rfl rfl (TPunctured.cs_ones _ _ rfl) B13 rfl rfl) ?_
    rintro _ w6 ⟨Bw6, Mw6⟩
    have z14 := Mw6.size
    refine sd_vv rfl rfl rfl (vv_assign rfl) ?_
    refine sd_done ?_
    refine sw_ret ?_
    refine then_r ?_
    have X15 : Gr w w6 := (Gr.md (Gr.md (Gr.trans (Gr.trans (Gr.trans (Gr.trans (Gr.refl w) Gw1) Gw2) Gw3) Gw4) Mw5) Mw6)
    have hr := Option.some.inj hm
    subst hr
    refine ⟨_, _, rfl, res_2 rfl (rv_cellW agg_76 rfl Bw6 rfl) (rv_tmp rfl), ?_⟩
    exact ⟨(.slice none 0 0), 0, 0, rfl, (own_nil _ 0 88 18), ⟨.inl rfl⟩, X15⟩
  ·
    replace hm := ite_f (of_decide_eq_false c1) hm
    refine sw_skip ?_
    refine then_n ?_
    refine sw_seq ?_
    refine sw_seq ?_
    -- region 4 outright.go:266
    refine sw_region [(0, 0)] rfl rfl rfl ?_
    refine sd_vv rfl rfl rfl (vv_assign rfl) ?_
    refine sd_done ?_
    refine sw_block ?_
    have X16 : Gr w w5 := (Gr.md (Gr.trans (Gr.trans (Gr.trans (Gr.trans (Gr.refl w) Gw1) Gw2) Gw3) Gw4) Mw5)
    have B17 := (Rd.md (Rd.gr (Rd.gr (Rd.gr (Rd.gr hp2 Gw1) Gw2) Gw3) Gw4) Mw5 (tk1 ((pv_lt (A := (fun x => x ≠ b4)) lt1) : zp2 = 0 ∨ gp2 ≠ b4)))
    have B18 := (Own.md B11 Mw5 (tk1 ((pv_lt (A := (fun x => x ≠ b4)) lt8) : z3_r0_1 = 0 ∨ g3_r0_1 ≠ b4)))
    refine sw_loopD (α := Nat × Int × TPunctured × Value × Nat × Nat) [7, 10, 11, 12, 22, 23, 24, 25, 26, 27, 28, 29, 30, 31, 32, 33, 34, 35, 36, 37, 38, 39, 40, 41, 42, 43, 44, 45, 46, 47, 48, 49] (fun ⟨n1, a5, a6, vy7, zy7, gy7⟩ => [(7, .bool false), (10, .int .i64 a5)]) (fun ⟨n1, a5, a6, vy7, zy7, gy7⟩ wr => (fixN (law04_punctured_L1 p1 p2) n1 (a5, a6) = some r) ∧ Own wr zy7 gy7 88 18 vy7 (a6.Labels.map TLabel.cs) ∧ Hdn (zy7 = 0 ∨ (gy7 = g3_r0_1 ∧ z3_r0_1 ≠ 0) ∨ w5.heap.size ≤ gy7) ∧ Bx wr b4 76 (TPunctured.cs a6 vy7) ∧ Kz [(1, b4), (z3_r0_1, g3_r0_1)] w5 wr) (fun ⟨n1, a5, a6, vy7, zy7, gy7⟩ => n1) ⟨FUEL, 0, x1.1, u3_r0_1, z3_r0_1, g3_r0_1⟩ ?_ ?_ ?_
    · repeat' first | exact trivial | refine ⟨rfl, ?_⟩
    · exact ⟨hm, B18, ⟨tk0⟩, Bw5, Kz.refl _ _⟩
    · clear hm; rintro ⟨n1, a5, a6, vy7, zy7, gy7⟩ w7 ⟨hm, Fw7_0, Fw7_1, Fw7_2, Kw7⟩
      have z19 := Kw7.size
      have lt20 := Fw7_0.lth
      have lt21 := Fw7_2.lt
      have hb := fix_succ hm; clear hm; obtain ⟨n1, rfl, hm⟩ := hb
      generalize hrec1 : fixN (law04_punctured_L1 p1 p2) n1 = rec1 at hm
      unfold law04_punctured_L1 at hm
      try dsimp only at hm
      refine sw_seq ?_
      refine sw_seq ?_
      -- region 5 outright.go:266
      refine sw_region [(0, 0), (1, 0), (2, 0), (3, 0)] rfl rfl rfl ?_
      refine sd_vv rfl rfl rfl (vv_move rfl) ?_
      refine sd_vv rfl rfl rfl (vv_move rfl) ?_
      have B22 := (Rd.kz B17 Kw7 (tk2 ((pv_sw (pv_0 (A := (fun x => zp2 = 0 ∨ x ≠ gp2)) f3_r0_1 (fun x hx => (tk1 lt1.o)))) : zp2 = 0 ∨ z3_r0_1 = 0 ∨ gp2 ≠ g3_r0_1) ((pv_lt (A := (fun x => x ≠ b4)) lt1) : zp2 = 0 ∨ gp2 ≠ b4)))
      refine sd_vv rfl rfl rfl (vv_lenT (l := p2) (c := bvc) Try.underlying105 rfl B22) ?_
      refine sd_vv rfl rfl rfl (vv_lss (a := a5) (b := (p2.length : Int)) rfl rfl) ?_
      refine sd_done ?_
      refine sw_cond rfl (fun c2 => ?_) (fun c2 => ?_)
      ·
        replace hm := ite_t (of_decide_eq_true c2) hm
        refine sw_skip ?_
        refine then_n ?_
        refine sw_seq ?_
        refine sw_block ?_
        have X23 : Gr w w7 := (Gr.kz X16 Kw7 (tk1 ((pv_0 (A := (fun x => w.heap.size ≤ x)) f3_r0_1) : z3_r0_1 = 0 ∨ w.heap.size ≤ g3_r0_1)))
        refine sw_joinD (β := TPunctured × Int × Nat × Value × Nat × Nat) [11, 12, 28, 29, 30, 31, 32, 33, 34, 35, 36, 37, 38, 39, 40] (fun ⟨a9, a11, bq8, vy10, zy10, gy10⟩ => [(11, .pointer (some ⟨bq8, 0, none⟩)), (12, .int .i64 a11)]) (fun ⟨a9, a11, bq8, vy10, zy10, gy10⟩ wr => (law04_punctured_J2 a5 rec1 a9 a11 = some r) ∧ Own wr zy10 gy10 88 18 vy10 (a9.Labels.map TLabel.cs) ∧ Hdn (zy10 = 0 ∨ w7.heap.size ≤ gy10) ∧ Bx wr bq8 76 (TPunctured.cs a9 vy10) ∧ w7.heap.size ≤ bq8 ∧ Hdn (zy10 = 0 ∨ gy10 ≠ bq8) ∧ Kz [] w7 wr) ?_ ?_
        · clear hm; rintro ⟨a9, a11, bq8, vy10, zy10, gy10⟩ w8 ⟨hm, Fw8_0, Fw8_1, Fw8_2, Fw8_3, Fw8_4, Kw8⟩
          have z24 := Kw8.size
          have lt25 := Fw8_0.lth
          have lt26 := Fw8_2.lt
          unfold law04_punctured_J2 at hm
          refine sw_seq ?_
          have X27 : Gr w w8 := (Gr.kz X23 Kw8)
          refine sw_joinD (β := Bool) [41, 42, 43, 44, 45, 46, 47] (fun a12 => [(47, .bool a12)]) (fun a12 wr => (law04_punctured_J3 a5 rec1 a9 a12 = some r) ∧ Kz [] w8 wr) ?_ ?_
          · clear hm; rintro a12 w9 ⟨hm, Kw9⟩
            have z28 := Kw9.size
            unfold law04_punctured_J3 at hm
            refine sw_cond rfl (fun c3 => ?_) (fun c3 => ?_)
            ·
              replace hm := cnd_t c3 hm
              refine sw_seq ?_
              -- region 9 outright.go:269
              refine sw_region [(0, 0), (1, 0), (2, 0)] rfl rfl rfl ?_
              refine sd_vv rfl rfl rfl (vv_build (cs := TPunctured.cs (TPunctured.mk 0 []) (.slice none 0 0)) bs_76 rfl rfl) ?_
              have B29 := (Bx.kz (Bx.kz (Bx.kz (Bx.md (Bx.gr (Bx.gr Bw2 Gw3) Gw4) Mw5) Kw7 (tk1 ((pv_0 (A := (fun x => x ≠ b2)) f3_r0_1) : z3_r0_1 = 0 ∨ g3_r0_1 ≠ b2))) Kw8) Kw9)
              refine sd_ev rfl rfl rfl (ev_stM (cs' := TPunctured.cs (TPunctured.mk 0 []) (.slice none 0 0)) (vs := TPunctured.cs (TPunctured.mk 0 []) (.slice none 0 0)) (agg_76).siz rfl rfl rfl rfl (TPunctured.cs_ones _ _ rfl) B29 rfl rfl) ?_
              rintro _ w10 ⟨Bw10, Mw10⟩
              have z30 := Mw10.size
              refine sd_vv rfl rfl rfl (vv_assign rfl) ?_
              refine sd_done ?_
              refine sw_ret ?_
              refine then_r ?_
              refine block_r ?_
              refine then_r ?_
              refine then_r ?_
              refine block_r ?_
              refine then_r ?_
              have X31 : Gr w w10 := (Gr.md (Gr.kz X27 Kw9) Mw10)
              have hr := Option.some.inj hm
              subst hr
              refine ⟨_, _, rfl, res_2 rfl (rv_cellW agg_76 rfl Bw10 rfl) (rv_tmp rfl), ?_⟩
              exact ⟨(.slice none 0 0), 0, 0, rfl, (own_nil _ 0 88 18), ⟨.inl rfl⟩, X31⟩
            ·
              replace hm := cnd_f c3 hm
              refine sw_skip ?_
              refine then_n ?_
              -- region 10 outright.go:271
              refine sw_region [(0, 0), (1, 0)] rfl rfl rfl ?_
              have B32 := (Bx.kz Fw8_2 Kw9)
              refine sd_vv rfl rfl rfl (vv_loadW agg_76 rfl B32 rfl) ?_
              have B33 := (Bx.kz (Bx.kz Fw7_2 Kw8) Kw9)
              have B34 := (Own.kz Fw8_0 Kw9)
              refine sd_ev rfl rfl rfl (ev_stM (cs' := TPunctured.cs a9 vy10) (vs := TPunctured.cs a9 vy10) (agg_76).siz rfl rfl rfl rfl (TPunctured.cs_ones _ _ (Own.oneB B34)) B33 rfl rfl) ?_
              rintro _ w11 ⟨Bw11, Mw11⟩
              have z35 := Mw11.size
              refine sd_nil ?_
              refine block_n ?_
              refine then_n ?_
              -- region 6 outright.go:266
              refine sw_region [(0, 0), (1, 0), (2, 0)] rfl rfl rfl ?_
              refine sd_vv rfl rfl rfl (vv_move rfl) ?_
              refine sd_vv rfl rfl rfl (vv_add (k := .i64) (a := a5) (b := 1) rfl rfl) ?_
              refine sd_vv rfl rfl rfl (vv_assign rfl) ?_
              refine sd_nil ?_
              have K_36 : Kz [(1, b4), (z3_r0_1, g3_r0_1)] w5 w11 := (Kz.md (Kz.kz (Kz.kz Kw7 Kw8) Kw9) Mw11)
              have B37 := (Own.md B34 Mw11 (tk1 ((pv_0 (A := (fun x => x ≠ b4)) Fw8_1) : zy10 = 0 ∨ gy10 ≠ b4)))
              subst hrec1
              refine ⟨rfl, ⟨n1, w64 (a5 + 1), a9, vy10, zy10, gy10⟩, ?_, ⟨hm, B37, ⟨(pv_0 (A := (fun x => (x = g3_r0_1 ∧ z3_r0_1 ≠ 0) ∨ w5.heap.size ≤ x)) Fw8_1)⟩, Bw11, K_36⟩, Nat.lt_succ_self _⟩
              repeat' first | exact trivial | refine ⟨rfl, ?_⟩
          ·
            -- region 8 outright.go:268
            refine sw_region [(0, 0), (1, 0), (2, 0), (3, 0), (4, 0), (5, 0), (6, 0)] rfl rfl rfl ?_
            refine sd_vv rfl rfl rfl (vv_move rfl) ?_
            refine sd_vv rfl rfl rfl (vv_neq (a := a11) (b := 0) rfl rfl) ?_
            refine sd_split rfl rfl rfl (vv_move rfl) (fun c4 => ?_) (fun c4 => ?_)
            ·
              replace hm := ite_t (of_decide_eq_true c4) hm
              refine sd_skip rfl rfl rfl ?_
              refine sd_skip rfl rfl rfl ?_
              refine sd_skip rfl rfl rfl ?_
              refine sd_vv rfl rfl rfl (vv_pickT rfl rfl) ?_
              refine sd_nil ?_
              have K_38 : Kz [] w8 w8 := (Kz.refl _ _)
              refine ⟨rfl, true, ?_, hm, K_38⟩
              repeat' first | exact trivial | refine ⟨rfl, ?_⟩
            ·
              replace hm := ite_f (of_decide_eq_false c4) hm
              refine sd_vv rfl rfl rfl (vv_loadW agg_76 rfl Fw8_2 rfl) ?_
              have hb := bnd hm; clear hm; obtain ⟨x13, hx13, hm⟩ := hb
              refine sd_ev rfl rfl rfl (ev_call en_42 rfl (poly_CheckPunctured_w a9 _ _ _ _ _ hx13 _ (Own.rd Fw8_0))) ?_
              rintro _ w12 ⟨rfl, Gw12⟩
              have z39 := Gw12.size
              refine sd_vv rfl rfl rfl (vv_neq (a := x13) (b := 0) rfl rfl) ?_
              refine sd_vv rfl rfl rfl (vv_pickF rfl rfl) ?_
              refine sd_nil ?_
              have K_40 : Kz [] w8 w12 := (Kz.gr (Kz.refl _ _) Gw12)
              refine ⟨rfl, (decide (x13 ≠ 0)), ?_, hm, K_40⟩
              repeat' first | exact trivial | refine ⟨rfl, ?_⟩
        ·
          -- region 7 outright.go:267 DRAWS
          refine sw_drawN [([])] [] (.fork [(0, 10), (1, 10), (2, 10), (3, 10), (4, 10), (5, 10), (6, 10), (7, 10), (8, 10)] (.leaf [(9, 0), (10, 10), (11, 10), (12, 10), (13, 0), (14, 0), (15, 10)]) (.leaf [(13, 0), (9, 0), (10, 10), (11, 10), (12, 10), (14, 0), (15, 10)])) (by kernel_rfl) (by kernel_rfl) rfl (by kernel_rfl) ?_
          intro w13 Gw13 zw13
          refine sdz_fork ?_
          have B41 := (Bx.gr Fw7_2 Gw13)
          refine dd_hn 0 rfl rfl rfl rfl (Kp.refl ([]) w13) (fun w hS => vv_loadW agg_76 rfl (Bx.kp B41 hS) rfl) ?_
          refine dd_hn 0 rfl rfl rfl rfl (Kp.refl ([]) w13) (fun w hS => vv_move rfl) ?_
          refine dd_hn 0 rfl rfl rfl rfl (Kp.refl ([]) w13) (fun w hS => vv_move rfl) ?_
          have hb := bnd hm; clear hm; obtain ⟨y14, hy14, hm⟩ := hb
          have B42 := (Rd.gr B22 Gw13)
          refine dd_hn 0 rfl rfl rfl rfl (Kp.refl ([]) w13) (fun w hS => vv_ixT (i := a5) Try.underlying105 (one_5).siz rfl (Rd.kp B42 hS) rfl hy14) ?_
          refine dd_hn 0 rfl rfl rfl rfl (Kp.refl ([]) w13) (fun w hS => vv_el1T (q := 0) (u := bv y14) one_5 rfl (Rd.kp B42 hS) hy14 (by first | rfl | omega) rfl) ?_
          refine dd_hn 0 rfl rfl rfl rfl (Kp.refl ([]) w13) (fun w hS => vv_cvBI cv_5_3 rfl) ?_
          refine dd_hn 0 rfl rfl rfl rfl (Kp.refl ([]) w13) (fun w hS => vv_move rfl) ?_
          have hb := bnd hm; clear hm; obtain ⟨n15, hn15, hm⟩ := hb
          refine dd_hn 0 rfl rfl rfl rfl (Kp.refl ([]) w13) (fun w hS => vv_shlI (a := 1) (b := p1) rfl rfl hn15) ?_
          have hb := bnd hm; clear hm; obtain ⟨x16, hx16, hm⟩ := hb
          refine dd_hn 0 rfl rfl rfl rfl (Kp.refl ([]) w13) (fun w hS => vv_remI (a := un8 y14) (b := shlI 1 n15) rfl rfl hx16) ?_
          refine sd_fork ?_ ?_
          ·
            refine sdz_leaf ?_
            have B43 := (Own.gr Fw7_0 Gw13)
            have hb := bnd hm; clear hm; obtain ⟨x17, hx17, hm⟩ := hb
            refine dd_z [] rfl rfl rfl (ev_call en_44 rfl (poly_Puncture_w a6 x16 _ _ _ _ _ hx17 _ (Own.rd B43))) ⟨fun _ => tk0, trivial⟩ ?_
            rintro _ w14 ⟨u14_r0_1, z14_r0_1, g14_r0_1, rfl, O14_r0_1, f14_r0_1, Gw14⟩
            have z44 := Gw14.size
            have lt45 := O14_r0_1.lth
            refine ⟨Kz.ofGr Gw14, ?_⟩
            have S46 := (Kp.gr (Kp.refl ([]) w13) Gw14)
            refine dd_hn 0 rfl rfl rfl rfl S46 (fun w hS => vv_move rfl) ?_
            refine dd_hn 0 rfl rfl rfl rfl S46 (fun w hS => vv_extract rfl rfl) ?_
            refine dd_hn 0 rfl rfl rfl rfl S46 (fun w hS => vv_extract rfl rfl) ?_
            refine dd_z [] rfl rfl rfl (ev_alloc (cs := TPunctured.cs (TPunctured.mk 0 []) (.slice none 0 0)) zv_76 rfl) ⟨fun _ => tk0, trivial⟩ ?_
            rintro _ w15 ⟨b15, rfl, hbw15, Bw15, Gw15⟩
            have z47 := Gw15.size
            have lt48 := Bw15.lt
            refine ⟨Kz.ofGr Gw15, ?_⟩
            have B49 := (Own.gr O14_r0_1 Gw15)
            refine dd_z [(1, b15)] rfl rfl rfl (ev_stM (cs' := TPunctured.cs x17.1 u14_r0_1) (vs := TPunctured.cs x17.1 u14_r0_1) (agg_76).siz rfl rfl rfl rfl (TPunctured.cs_ones _ _ (Own.oneB B49)) Bw15 rfl rfl) ⟨fun _ => tk0, trivial⟩ ?_
            rintro _ w16 ⟨Bw16, Mw16⟩
            have z50 := Mw16.size
            refine ⟨Kz.ofMd Mw16, ?_⟩
            have S51 := (Kp.md (Kp.gr S46 Gw15) Mw16)
            refine dd_hn 0 rfl rfl rfl rfl S51 (fun w hS => vv_assign rfl) ?_
            refine sd_nil ?_
            have K_52 : Kz [] w7 w16 := (Kz.md (Kz.gr (Kz.gr (Kz.gr (Kz.refl _ _) Gw13) Gw14) Gw15) Mw16)
            have B53 := (Own.md B49 Mw16 (tk1 ((pv_lt (A := (fun x => x ≠ b15)) lt45) : z14_r0_1 = 0 ∨ g14_r0_1 ≠ b15)))
            refine ⟨rfl, ⟨x17.1, x17.2, b15, u14_r0_1, z14_r0_1, g14_r0_1⟩, ?_, hm, B53, ⟨(pv_0 (A := (fun x => w7.heap.size ≤ x)) f14_r0_1)⟩, Bw16, (by omega), ⟨(pv_lt (A := (fun x => x ≠ b15)) lt45)⟩, K_52⟩
            repeat' first | exact trivial | refine ⟨rfl, ?_⟩
          ·
            refine sdz_leaf ?_
            refine dd_z [] rfl rfl rfl (ev_alloc (cs := TPunctured.cs (TPunctured.mk 0 []) (.slice none 0 0)) zv_76 rfl) ⟨fun _ => tk0, trivial⟩ ?_
            rintro _ w17 ⟨b17, rfl, hbw17, Bw17, Gw17⟩
            have z54 := Gw17.size
            have lt55 := Bw17.lt
            refine ⟨Kz.ofGr Gw17, ?_⟩
            have B56 := (Own.gr (Own.gr Fw7_0 Gw13) Gw17)
            have hb := bnd hm; clear hm; obtain ⟨x18, hx18, hm⟩ := hb
            refine dd_z [] rfl rfl rfl (ev_call en_44 rfl (poly_Puncture_w a6 x16 _ _ _ _ _ hx18 _ (Own.rd B56))) ⟨fun _ => tk0, trivial⟩ ?_
            rintro _ w18 ⟨u18_r0_1, z18_r0_1, g18_r0_1, rfl, O18_r0_1, f18_r0_1, Gw18⟩
            have z57 := Gw18.size
            have lt58 := O18_r0_1.lth
            refine ⟨Kz.ofGr Gw18, ?_⟩
            have S59 := (Kp.gr (Kp.gr (Kp.refl ([]) w13) Gw17) Gw18)
            refine dd_hn 0 rfl rfl rfl rfl S59 (fun w hS => vv_move rfl) ?_
            refine dd_hn 0 rfl rfl rfl rfl S59 (fun w hS => vv_extract rfl rfl) ?_
            refine dd_hn 0 rfl rfl rfl rfl S59 (fun w hS => vv_extract rfl rfl) ?_
            have B60 := (Bx.gr Bw17 Gw18)
            refine dd_z [(1, b17)] rfl rfl rfl (ev_stM (cs' := TPunctured.cs x18.1 u18_r0_1) (vs := TPunctured.cs x18.1 u18_r0_1) (agg_76).siz rfl rfl rfl rfl (TPunctured.cs_ones _ _ (Own.oneB O18_r0_1)) B60 rfl rfl) ⟨fun _ => tk0, trivial⟩ ?_
            rintro _ w19 ⟨Bw19, Mw19⟩
            have z61 := Mw19.size
            refine ⟨Kz.ofMd Mw19, ?_⟩
            have S62 := (Kp.md S59 Mw19)
            refine dd_hn 0 rfl rfl rfl rfl S62 (fun w hS => vv_assign rfl) ?_
            refine sd_nil ?_
            have K_63 : Kz [] w7 w19 := (Kz.md (Kz.gr (Kz.gr (Kz.gr (Kz.refl _ _) Gw13) Gw17) Gw18) Mw19)
            have B64 := (Own.md O18_r0_1 Mw19 (tk1 ((pv_0 (A := (fun x => x ≠ b17)) f18_r0_1) : z18_r0_1 = 0 ∨ g18_r0_1 ≠ b17)))
            refine ⟨rfl, ⟨x18.1, x18.2, b17, u18_r0_1, z18_r0_1, g18_r0_1⟩, ?_, hm, B64, ⟨(pv_0 (A := (fun x => w7.heap.size ≤ x)) f18_r0_1)⟩, Bw19, (by omega), ⟨(pv_0 (A := (fun x => x ≠ b17)) f18_r0_1)⟩, K_63⟩
            repeat' first | exact trivial | refine ⟨rfl, ?_⟩
      ·
        replace hm := ite_f (of_decide_eq_false c2) hm
        refine sw_exit ?_
        refine then_x ?_
        refine then_x ?_
        refine block_x ?_
        refine then_n ?_
        refine sw_seq ?_
        -- region 11 outright.go:273
        refine sw_region [(0, 0), (1, 0), (2, 0)] rfl rfl rfl ?_
        refine sd_vv rfl rfl rfl (vv_loadW agg_76 rfl Fw7_2 rfl) ?_
        have B65 := (Bx.kz (Bx.md (Bx.gr (Bx.gr Bw2 Gw3) Gw4) Mw5) Kw7 (tk1 ((pv_0 (A := (fun x => x ≠ b2)) f3_r0_1) : z3_r0_1 = 0 ∨ g3_r0_1 ≠ b2)))
        refine sd_ev rfl rfl rfl (ev_stM (cs' := TPunctured.cs a6 vy7) (vs := TPunctured.cs a6 vy7) (agg_76).siz rfl rfl rfl rfl (TPunctured.cs_ones _ _ (Own.oneB Fw7_0)) B65 rfl rfl) ?_
        rintro _ w20 ⟨Bw20, Mw20⟩
        have z66 := Mw20.size
        refine sd_vv rfl rfl rfl (vv_assign rfl) ?_
        refine sd_done ?_
        refine sw_ret ?_
        have B67 := (Own.md Fw7_0 Mw20 (tk1 ((pv_1 (A := (fun x => x ≠ b2)) Fw7_1 (pv_0 (A := (fun x => x ≠ b2)) f3_r0_1)) : zy7 = 0 ∨ gy7 ≠ b2)))
        have X68 : Gr w w20 := (Gr.md (Gr.kz X16 Kw7 (tk1 ((pv_0 (A := (fun x => w.heap.size ≤ x)) f3_r0_1) : z3_r0_1 = 0 ∨ w.heap.size ≤ g3_r0_1))) Mw20)
        have hr := Option.some.inj hm
        subst hr
        refine ⟨_, _, rfl, res_2 rfl (rv_cellW agg_76 rfl Bw20 rfl) (rv_tmp rfl), ?_⟩
        exact ⟨vy7, zy7, gy7, rfl, B67, ⟨(pv_1 (A := (fun x => w.heap.size ≤ x)) Fw7_1 (pv_0 (A := (fun x => w.heap.size ≤ x)) f3_r0_1))⟩, X68⟩

set_option maxHeartbeats 2000000 in
theorem law04_PolyAnyOrder_w (p0 : W2) (p1 : Int) (p2 : List (BitVec 8)) (p3 : BitVec 8) (p4 : BitVec 8) (vp2 : Value) (zp2 gp2 op2 : Nat) (r : Bool) (hm : law04_PolyAnyOrder p0 p1 p2 p3 p4 = some r) (w : World) (hp2 : Rd w zp2 gp2 op2 1 vp2 (p2.map bvc))  :
    Calls Try.prog 13 [kv p0, .int .i64 p1, vp2, bv p3, bv p4].toArray w fun e w' => ∃ v, e = .returned v ∧ (v = .bool r ∧ Gr w w') := by
  have lt1 := hp2.lth
  unfold law04_PolyAnyOrder at hm
  refine calls_of_sw (R := fun v w' => v = .bool r ∧ Gr w w') 97 Try.func13 rfl rfl rfl ?_
  refine sw_seq ?_
  -- region 0 outright.go:318
  refine sw_region [(0, 0), (1, 0)] rfl rfl rfl ?_
  refine sd_ev rfl rfl rfl (ev_box (cs := kb p0) rfl rfl) ?_
  rintro _ w1 ⟨b1, rfl, hbw1, Bw1, Gw1⟩
  have z2 := Gw1.size
  have lt3 := Bw1.lt
  refine sd_vv rfl rfl rfl (vv_assign rfl) ?_
  refine sd_done ?_
  refine sw_seq ?_
  -- region 1 outright.go:319
  refine sw_region [(0, 0), (1, 0)] rfl rfl rfl ?_
  have hb := bnd hm; clear hm; obtain ⟨x1, hx1, hm⟩ := hb
  refine sd_ev rfl rfl rfl (ev_call en_49 rfl (law04_alive_w _ hx1 _)) ?_
  rintro _ w2 ⟨rfl, Gw2⟩
  have z4 := Gw2.size
  refine sd_vv rfl rfl rfl (vv_assign rfl) ?_
  refine sd_done ?_
  refine sw_seq ?_
  have X5 : Gr w w2 := (Gr.trans (Gr.trans (Gr.refl w) Gw1) Gw2)
  refine sw_joinD (β := Bool) [20, 21, 22, 23, 24, 25, 26, 27, 28, 29, 30, 31, 32, 33, 34, 35] (fun a2 => [(35, .bool a2)]) (fun a2 wr => (law04_PolyAnyOrder_J1 p0 p1 p2 p3 p4 x1 a2 = some r) ∧ Kz [] w2 wr) ?_ ?_
  · clear hm; rintro a2 w3 ⟨hm, Kw3⟩
    have z6 := Kw3.size
    unfold law04_PolyAnyOrder_J1 at hm
    refine sw_cond rfl (fun c1 => ?_) (fun c1 => ?_)
    ·
      replace hm := cnd_t c1 hm
      refine sw_seq ?_
      -- region 3 outright.go:321
      refine sw_region [(0, 0), (1, 0)] rfl rfl rfl ?_
      refine sd_vv rfl rfl rfl (vv_move rfl) ?_
      refine sd_vv rfl rfl rfl (vv_assign rfl) ?_
      refine sd_done ?_
      refine sw_ret ?_
      refine then_r ?_
      have X7 : Gr w w3 := (Gr.kz X5 Kw3)
      have hr := Option.some.inj hm
      subst hr
      refine ⟨_, _, rfl, res_1 rfl (rv_tmp rfl), ?_⟩
      exact ⟨rfl, X7⟩
    ·
      replace hm := cnd_f c1 hm
      refine sw_skip ?_
      refine then_n ?_
      refine sw_seq ?_
      -- region 4 outright.go:323
      refine sw_region [(0, 0), (1, 0), (2, 0), (3, 0)] rfl rfl rfl ?_
      refine sd_ev rfl rfl rfl (ev_litT ([] : List (BitVec 8)) bvc bsl_105_0 rfl rfl (ws_of rfl) rfl rfl rfl) ?_
      rintro vw4 w4 ⟨gw4, hbw4, Ow4, Gw4⟩
      have z8 := Gw4.size
      have lt9 := Ow4.lth
      refine sd_vv rfl rfl rfl (vv_move rfl) ?_
      have B10 := (Rd.gr (Rd.kz (Rd.gr (Rd.gr hp2 Gw1) Gw2) Kw3) Gw4)
      have hb := bnd hm; clear hm; obtain ⟨l3, hl3, hm⟩ := hb
      refine sd_ev rfl rfl rfl (ev_appT (l := ([] : List (BitVec 8))) (m := p2) (c := bvc) apt_105 rfl rfl Ow4 B10 hl3 (by decide)) ?_
      rintro vw5 w5 ⟨zw5, gw5, Ow5, Aw5, qw5, rw5⟩
      have z11 := Aw5.size
      refine sd_vv rfl rfl rfl (vv_assign rfl) ?_
      refine sd_done ?_
      refine sw_seq ?_
      -- region 5 outright.go:324 DRAWS
      refine sw_drawN [([])] [] (.leaf [(0, 10), (1, 10), (2, 10), (3, 10), (4, 10), (5, 10), (6, 10), (7, 10), (8, 10), (9, 10), (10, 10), (11, 10)]) (by kernel_rfl) (by kernel_rfl) rfl (by kernel_rfl) ?_
      intro w6 Gw6 zw6
      refine sdz_leaf ?_
      refine dd_hn 0 rfl rfl rfl rfl (Kp.refl ([]) w6) (fun w hS => vv_move rfl) ?_
      refine dd_hn 0 rfl rfl rfl rfl (Kp.refl ([]) w6) (fun w hS => vv_cvBI cv_5_3 rfl) ?_
      refine dd_hn 0 rfl rfl rfl rfl (Kp.refl ([]) w6) (fun w hS => vv_move rfl) ?_
      have B12 := (Own.gr Ow5 Gw6)
      refine dd_hn 0 rfl rfl rfl rfl (Kp.refl ([]) w6) (fun w hS => vv_lenT (l := l3) (c := bvc) Try.underlying105 rfl (Own.rd (Own.kp B12 hS))) ?_
      have hb := bnd hm; clear hm; obtain ⟨x4, hx4, hm⟩ := hb
      refine dd_hn 0 rfl rfl rfl rfl (Kp.refl ([]) w6) (fun w hS => vv_remI (a := un8 p3) (b := (l3.length : Int)) rfl rfl hx4) ?_
      refine dd_hn 0 rfl rfl rfl rfl (Kp.refl ([]) w6) (fun w hS => vv_move rfl) ?_
      refine dd_hn 0 rfl rfl rfl rfl (Kp.refl ([]) w6) (fun w hS => vv_cvBI cv_5_3 rfl) ?_
      refine dd_hn 0 rfl rfl rfl rfl (Kp.refl ([]) w6) (fun w hS => vv_move rfl) ?_
      refine dd_hn 0 rfl rfl rfl rfl (Kp.refl ([]) w6) (fun w hS => vv_lenT (l := l3) (c := bvc) Try.underlying105 rfl (Own.rd (Own.kp B12 hS))) ?_
      have hb := bnd hm; clear hm; obtain ⟨x5, hx5, hm⟩ := hb
      refine dd_hn 0 rfl rfl rfl rfl (Kp.refl ([]) w6) (fun w hS => vv_remI (a := un8 p4) (b := (l3.length : Int)) rfl rfl hx5) ?_
      refine dd_hn 0 rfl rfl rfl rfl (Kp.refl ([]) w6) (fun w hS => vv_assign rfl) ?_
      refine dd_hn 0 rfl rfl rfl rfl (Kp.refl ([]) w6) (fun w hS => vv_assign rfl) ?_
      refine sd_done ?_
      refine sw_seq ?_
      -- region 6 outright.go:325 DRAWS
      refine sw_drawN [([] ++ zf zw5 gw5), ([])] [(13, [1]), (15, [1])] (.leaf [(0, 10), (1, 10), (2, 10), (3, 10), (4, 10), (5, 10), (6, 11), (7, 11), (8, 10), (9, 10), (10, 0), (11, 11), (12, 11), (13, 0), (14, 0), (15, 0)]) (by kernel_rfl) (by kernel_rfl) rfl (by kernel_rfl) ?_
      intro w7 Gw7 zw7
      refine sdz_leaf ?_
      refine dd_hn 0 rfl rfl rfl rfl (Kp.refl ([] ++ zf zw5 gw5) w7) (fun w hS => vv_move rfl) ?_
      refine dd_hn 0 rfl rfl rfl rfl (Kp.refl ([] ++ zf zw5 gw5) w7) (fun w hS => vv_move rfl) ?_
      refine dd_hn 0 rfl rfl rfl rfl (Kp.refl ([] ++ zf zw5 gw5) w7) (fun w hS => vv_move rfl) ?_
      refine dd_hn 0 rfl rfl rfl rfl (Kp.refl ([] ++ zf zw5 gw5) w7) (fun w hS => vv_move rfl) ?_
      refine dd_hn 0 rfl rfl rfl rfl (Kp.refl ([] ++ zf zw5 gw5) w7) (fun w hS => vv_move rfl) ?_
      refine dd_hn 0 rfl rfl rfl rfl (Kp.refl ([] ++ zf zw5 gw5) w7) (fun w hS => vv_move rfl) ?_
      have hb := bnd hm; clear hm; obtain ⟨y6, hy6, hm⟩ := hb
      have B13 := (Own.gr B12 Gw7)
      refine dd_hn 1 rfl rfl rfl rfl (Kp.refl ([]) w7) (fun w hS => vv_ixT (i := x5) Try.underlying105 (one_5).siz rfl (Own.rd (Own.kp B13 hS)) rfl hy6) ?_
      refine dd_hn 1 rfl rfl rfl rfl (Kp.refl ([]) w7) (fun w hS => vv_el1T (q := 0) (u := bv y6) one_5 rfl (Own.rd (Own.kp B13 hS)) hy6 (by first | rfl | omega) rfl) ?_
      refine dd_hn 0 rfl rfl rfl rfl (Kp.refl ([] ++ zf zw5 gw5) w7) (fun w hS => vv_move rfl) ?_
      refine dd_hn 0 rfl rfl rfl rfl (Kp.refl ([] ++ zf zw5 gw5) w7) (fun w hS => vv_move rfl) ?_
      have hb := bnd hm; clear hm; obtain ⟨y7, hy7, hm⟩ := hb
      refine dd_vz rfl rfl rfl (vv_ixT (i := x4) Try.underlying105 (one_5).siz rfl (Own.rd B13) rfl hy7) ?_
      refine dd_hn 1 rfl rfl rfl rfl (Kp.refl ([]) w7) (fun w hS => vv_el1T (q := 0) (u := bv y7) one_5 rfl (Own.rd (Own.kp B13 hS)) hy7 (by first | rfl | omega) rfl) ?_
      have hb := bnd hm; clear hm; obtain ⟨y8, hy8, hm⟩ := hb
      refine dd_hn 1 rfl rfl rfl rfl (Kp.refl ([]) w7) (fun w hS => vv_ixT (i := x4) Try.underlying105 (one_5).siz rfl (Own.rd (Own.kp B13 hS)) rfl hy8) ?_
      have zo14 := Own.z1 B13 hy8
      refine dd_z [(1, gw5)] rfl rfl rfl (ev_stEl (i := x4) (q := 0) (a' := y6) (vs := [bv y6]) (c := bvc) (one_5).siz rfl rfl rfl rfl rfl B13 hy8 (by first | rfl | omega) rfl rfl ⟨rfl, rfl⟩) ⟨fun _ => (tk1 (tk0 : zw5 = 0 ∨ (gw5 = gw5 ∧ zw5 ≠ 0) ∨ w7.heap.size ≤ gw5)), nofun, trivial⟩ ?_
      rintro _ w8 ⟨Ow8, Mw8⟩
      have z15 := Mw8.size
      refine ⟨Kz.ofMd Mw8, ?_⟩
      have hb := bnd hm; clear hm; obtain ⟨y9, hy9, hm⟩ := hb
      refine dd_vz rfl rfl rfl (vv_ixT (i := x5) Try.underlying105 (one_5).siz rfl (Own.rd Ow8) rfl hy9) ?_
      have zo16 := Own.z1 Ow8 hy9
      refine dd_z [(1, gw5)] rfl rfl rfl (ev_stEl (i := x5) (q := 0) (a' := y7) (vs := [bv y7]) (c := bvc) (one_5).siz rfl rfl rfl rfl rfl Ow8 hy9 (by first | rfl | omega) rfl rfl ⟨rfl, rfl⟩) ⟨fun _ => (tk1 (tk0 : zw5 = 0 ∨ (gw5 = gw5 ∧ zw5 ≠ 0) ∨ w7.heap.size ≤ gw5)), nofun, trivial⟩ ?_
      rintro _ w9 ⟨Ow9, Mw9⟩
      have z17 := Mw9.size
      refine ⟨Kz.ofMd Mw9, ?_⟩
      refine sd_done ?_
      refine sw_seq ?_
      -- region 7 outright.go:326
      refine sw_region [(0, 0), (1, 0), (2, 0), (3, 0), (4, 0), (5, 0), (6, 0), (7, 0)] rfl rfl rfl ?_
      refine sd_vv rfl rfl rfl (vv_move rfl) ?_
      refine sd_vv rfl rfl rfl (vv_move rfl) ?_
      refine sd_vv rfl rfl rfl (vv_move rfl) ?_
      have hb := bnd hm; clear hm; obtain ⟨y10, hy10, hm⟩ := hb
      have B18 := (Rd.md (Rd.md (Rd.gr (Rd.gr (Rd.ka B10 Aw5 (tk1 ((pv_sw (.inr (tk1 lt1.o))) : zp2 = 0 ∨ 1 = 0 ∨ gp2 ≠ gw4))) Gw6) Gw7) Mw8 (tk1 ((pv_sw (pv_app (A := (fun x => zp2 = 0 ∨ x ≠ gp2)) rw5 (.inr (tk1 lt1.o)) (fun x hx => (tk1 lt1.o)))) : zp2 = 0 ∨ zw5 = 0 ∨ gp2 ≠ gw5))) Mw9 (tk1 ((pv_sw (pv_app (A := (fun x => zp2 = 0 ∨ x ≠ gp2)) rw5 (.inr (tk1 lt1.o)) (fun x hx => (tk1 lt1.o)))) : zp2 = 0 ∨ zw5 = 0 ∨ gp2 ≠ gw5)))
      refine sd_vv rfl rfl rfl (vv_ixT (i := x5) Try.underlying105 (one_5).siz rfl B18 rfl hy10) ?_
      refine sd_vv rfl rfl rfl (vv_el1T (q := 0) (u := bv y10) one_5 rfl B18 hy10 (by first | rfl | omega) rfl) ?_
      refine sd_ev rfl rfl rfl (ev_litT [y10] bvc bsl_105_1 rfl rfl (ws_of rfl) rfl rfl rfl) ?_
      rintro vw10 w10 ⟨gw10, hbw10, Ow10, Gw10⟩
      have z19 := Gw10.size
      have lt20 := Ow10.lth
      have B21 := (Own.gr Ow9 Gw10)
      have hb := bnd hm; clear hm; obtain ⟨l11, hl11, hm⟩ := hb
      refine sd_ev rfl rfl rfl (ev_appT (l := (l3.set x4.toNat y6).set x5.toNat y7) (m := [y10]) (c := bvc) apt_105 rfl rfl B21 (Own.rd Ow10) hl11 (by decide)) ?_
      rintro vw11 w11 ⟨zw11, gw11, Ow11, Aw11, qw11, rw11⟩
      have z22 := Aw11.size
      refine sd_vv rfl rfl rfl (vv_assign rfl) ?_
      refine sd_done ?_
      refine sw_seq ?_
      -- region 8 outright.go:327
      refine sw_region [(0, 0), (1, 0), (2, 0), (3, 0), (4, 0), (5, 0), (6, 0), (7, 0), (8, 0), (9, 0)] rfl rfl rfl ?_
      have B23 := (Bx.ka (Bx.gr (Bx.md (Bx.md (Bx.gr (Bx.gr (Bx.ka (Bx.gr (Bx.kz (Bx.gr Bw1 Gw2) Kw3) Gw4) Aw5 (tk1 ((.inr tk0) : 1 = 0 ∨ gw4 ≠ b1))) Gw6) Gw7) Mw8 (tk1 ((pv_app (A := (fun x => x ≠ b1)) rw5 (.inr tk0)) : zw5 = 0 ∨ gw5 ≠ b1))) Mw9 (tk1 ((pv_app (A := (fun x => x ≠ b1)) rw5 (.inr tk0)) : zw5 = 0 ∨ gw5 ≠ b1))) Gw10) Aw11 (tk1 ((pv_app (A := (fun x => x ≠ b1)) rw5 (.inr tk0)) : zw5 = 0 ∨ gw5 ≠ b1)))
      refine sd_vv rfl rfl rfl (vv_loadW agg_23 rfl B23 rfl) ?_
      refine sd_vv rfl rfl rfl (vv_move rfl) ?_
      refine sd_vv rfl rfl rfl (vv_move rfl) ?_
      have B24 := (Rd.ka (Rd.gr B18 Gw10) Aw11 (tk1 ((pv_sw (pv_app (A := (fun x => zp2 = 0 ∨ x ≠ gp2)) rw5 (.inr (tk1 lt1.o)) (fun x hx => (tk1 lt1.o)))) : zp2 = 0 ∨ zw5 = 0 ∨ gp2 ≠ gw5)))
      have hb := bnd hm; clear hm; obtain ⟨x12, hx12, hm⟩ := hb
      refine sd_ev rfl rfl rfl (ev_call en_58 rfl (law04_punctured_w p0 p1 p2 _ _ _ _ _ hx12 _ B24)) ?_
      rintro _ w12 ⟨u12_r0_1, z12_r0_1, g12_r0_1, rfl, O12_r0_1, f12_r0_1, Gw12⟩
      have z25 := Gw12.size
      have lt26 := O12_r0_1.lth
      refine sd_vv rfl rfl rfl (vv_move rfl) ?_
      refine sd_vv rfl rfl rfl (vv_extract rfl rfl) ?_
      refine sd_vv rfl rfl rfl (vv_extract rfl rfl) ?_
      refine sd_ev rfl rfl rfl (ev_alloc (cs := TPunctured.cs (TPunctured.mk 0 []) (.slice none 0 0)) zv_76 rfl) ?_
      rintro _ w13 ⟨b13, rfl, hbw13, Bw13, Gw13⟩
      have z27 := Gw13.size
      have lt28 := Bw13.lt
      have B29 := (Own.gr O12_r0_1 Gw13)
      refine sd_ev rfl rfl rfl (ev_stM (cs' := TPunctured.cs x12.1 u12_r0_1) (vs := TPunctured.cs x12.1 u12_r0_1) (agg_76).siz rfl rfl rfl rfl (TPunctured.cs_ones _ _ (Own.oneB B29)) Bw13 rfl rfl) ?_
      rintro _ w14 ⟨Bw14, Mw14⟩
      have z30 := Mw14.size
      refine sd_vv rfl rfl rfl (vv_assign rfl) ?_
      refine sd_done ?_
      refine sw_seq ?_
      -- region 9 outright.go:328
      refine sw_region [(0, 0), (1, 0), (2, 0), (3, 0), (4, 0), (5, 0), (6, 0), (7, 0), (8, 0), (9, 0)] rfl rfl rfl ?_
      have B31 := (Bx.md (Bx.gr (Bx.gr B23 Gw12) Gw13) Mw14)
      refine sd_vv rfl rfl rfl (vv_loadW agg_23 rfl B31 rfl) ?_
      refine sd_vv rfl rfl rfl (vv_move rfl) ?_
      refine sd_vv rfl rfl rfl (vv_move rfl) ?_
      have B32 := (Own.md (Own.gr (Own.gr Ow11 Gw12) Gw13) Mw14 (tk1 ((pv_lt (A := (fun x => x ≠ b13)) qw11) : zw11 = 0 ∨ gw11 ≠ b13)))
      have hb := bnd hm; clear hm; obtain ⟨x13, hx13, hm⟩ := hb
      refine sd_ev rfl rfl rfl (ev_call en_58 rfl (law04_punctured_w p0 p1 l11 _ _ _ _ _ hx13 _ (Own.rd B32))) ?_
      rintro _ w15 ⟨u15_r0_1, z15_r0_1, g15_r0_1, rfl, O15_r0_1, f15_r0_1, Gw15⟩
      have z33 := Gw15.size
      have lt34 := O15_r0_1.lth
      refine sd_vv rfl rfl rfl (vv_move rfl) ?_
      refine sd_vv rfl rfl rfl (vv_extract rfl rfl) ?_
      refine sd_vv rfl rfl rfl (vv_extract rfl rfl) ?_
      refine sd_ev rfl rfl rfl (ev_alloc (cs := TPunctured.cs (TPunctured.mk 0 []) (.slice none 0 0)) zv_76 rfl) ?_
      rintro _ w16 ⟨b16, rfl, hbw16, Bw16, Gw16⟩
      have z35 := Gw16.size
      have lt36 := Bw16.lt
      have B37 := (Own.gr O15_r0_1 Gw16)
      refine sd_ev rfl rfl rfl (ev_stM (cs' := TPunctured.cs x13.1 u15_r0_1) (vs := TPunctured.cs x13.1 u15_r0_1) (agg_76).siz rfl rfl rfl rfl (TPunctured.cs_ones _ _ (Own.oneB B37)) Bw16 rfl rfl) ?_
      rintro _ w17 ⟨Bw17, Mw17⟩
      have z38 := Mw17.size
      refine sd_vv rfl rfl rfl (vv_assign rfl) ?_
      refine sd_done ?_
      refine sw_seq ?_
      -- region 10 outright.go:329
      refine sw_region [(0, 0), (1, 0), (2, 0), (3, 0), (4, 0), (5, 0), (6, 0), (7, 0), (8, 0), (9, 0), (10, 0), (11, 0), (12, 0)] rfl rfl rfl ?_
      refine sd_vv rfl rfl rfl (vv_move rfl) ?_
      refine sd_split rfl rfl rfl (vv_move rfl) (fun c2 => ?_) (fun c2 => ?_)
      ·
        replace hm := cnd_t c2 hm
        refine sd_vv rfl rfl rfl (vv_move rfl) ?_
        refine sd_vv rfl rfl rfl (vv_pickT rfl rfl) ?_
        refine sd_split rfl rfl rfl (vv_move rfl) (fun c3 => ?_) (fun c3 => ?_)
        ·
          replace hm := cnd_t c3 hm
          refine sd_vv rfl rfl rfl (vv_move rfl) ?_
          refine sd_vv rfl rfl rfl (vv_pickT rfl rfl) ?_
          refine sd_split rfl rfl rfl (vv_move rfl) (fun c4 => ?_) (fun c4 => ?_)
          ·
            replace hm := cnd_t c4 hm
            have B39 := (Bx.md (Bx.gr (Bx.gr Bw14 Gw15) Gw16) Mw17)
            refine sd_vv rfl rfl rfl (vv_loadW agg_76 rfl B39 rfl) ?_
            refine sd_vv rfl rfl rfl (vv_loadW agg_76 rfl Bw17 rfl) ?_
            have B40 := (Own.md (Own.gr (Own.gr (Own.md B29 Mw14 (tk1 ((pv_lt (A := (fun x => x ≠ b13)) lt26) : z12_r0_1 = 0 ∨ g12_r0_1 ≠ b13))) Gw15) Gw16) Mw17 (tk1 ((pv_lt (A := (fun x => x ≠ b16)) lt26) : z12_r0_1 = 0 ∨ g12_r0_1 ≠ b16)))
            have B41 := (Own.md B37 Mw17 (tk1 ((pv_lt (A := (fun x => x ≠ b16)) lt34) : z15_r0_1 = 0 ∨ g15_r0_1 ≠ b16)))
            have hb := bnd hm; clear hm; obtain ⟨x14, hx14, hm⟩ := hb
            refine sd_ev rfl rfl rfl (ev_call en_41 rfl (ref04_SamePunctured_w x12.1 x13.1 _ _ _ _ _ _ _ _ _ hx14 _ (Own.rd B40) (Own.rd B41))) ?_
            rintro _ w18 ⟨rfl, Gw18⟩
            have z42 := Gw18.size
            refine sd_vv rfl rfl rfl (vv_pickT rfl rfl) ?_
            refine sd_vv rfl rfl rfl (vv_assign rfl) ?_
            refine sd_done ?_
            refine sw_ret ?_
            have X43 : Gr w w18 := (Gr.trans (Gr.md (Gr.trans (Gr.trans (Gr.md (Gr.trans (Gr.trans (Gr.ka (Gr.trans (Gr.md (Gr.md (Gr.trans (Gr.trans (Gr.ka (Gr.trans (Gr.kz X5 Kw3) Gw4) Aw5 (tk1 ((.inr tk0) : 1 = 0 ∨ w.heap.size ≤ gw4))) Gw6) Gw7) Mw8 (tk1 ((pv_app (A := (fun x => w.heap.size ≤ x)) rw5 (.inr tk0)) : zw5 = 0 ∨ w.heap.size ≤ gw5))) Mw9 (tk1 ((pv_app (A := (fun x => w.heap.size ≤ x)) rw5 (.inr tk0)) : zw5 = 0 ∨ w.heap.size ≤ gw5))) Gw10) Aw11 (tk1 ((pv_app (A := (fun x => w.heap.size ≤ x)) rw5 (.inr tk0)) : zw5 = 0 ∨ w.heap.size ≤ gw5))) Gw12) Gw13) Mw14) Gw15) Gw16) Mw17) Gw18)
            have hr := Option.some.inj hm
            subst hr
            refine ⟨_, _, rfl, res_1 rfl (rv_tmp rfl), ?_⟩
            exact ⟨rfl, X43⟩
          ·
            replace hm := cnd_f c4 hm
            refine sd_skip rfl rfl rfl ?_
            refine sd_skip rfl rfl rfl ?_
            refine sd_skip rfl rfl rfl ?_
            refine sd_vv rfl rfl rfl (vv_pickF rfl rfl) ?_
            refine sd_vv rfl rfl rfl (vv_assign rfl) ?_
            refine sd_done ?_
            refine sw_ret ?_
            have X44 : Gr w w17 := (Gr.md (Gr.trans (Gr.trans (Gr.md (Gr.trans (Gr.trans (Gr.ka (Gr.trans (Gr.md (Gr.md (Gr.trans (Gr.trans (Gr.ka (Gr.trans (Gr.kz X5 Kw3) Gw4) Aw5 (tk1 ((.inr tk0) : 1 = 0 ∨ w.heap.size ≤ gw4))) Gw6) Gw7) Mw8 (tk1 ((pv_app (A := (fun x => w.heap.size ≤ x)) rw5 (.inr tk0)) : zw5 = 0 ∨ w.heap.size ≤ gw5))) Mw9 (tk1 ((pv_app (A := (fun x => w.heap.size ≤ x)) rw5 (.inr tk0)) : zw5 = 0 ∨ w.heap.size ≤ gw5))) Gw10) Aw11 (tk1 ((pv_app (A := (fun x => w.heap.size ≤ x)) rw5 (.inr tk0)) : zw5 = 0 ∨ w.heap.size ≤ gw5))) Gw12) Gw13) Mw14) Gw15) Gw16) Mw17)
            have hr := Option.some.inj hm
            subst hr
            refine ⟨_, _, rfl, res_1 rfl (rv_tmp rfl), ?_⟩
            exact ⟨rfl, X44⟩
        ·
          replace hm := cnd_f c3 hm
          refine sd_skip rfl rfl rfl ?_
          refine sd_vv rfl rfl rfl (vv_pickF rfl rfl) ?_
          refine sd_vv rfl rfl rfl (vv_move rfl) ?_
          refine sd_skip rfl rfl rfl ?_
          refine sd_skip rfl rfl rfl ?_
          refine sd_skip rfl rfl rfl ?_
          refine sd_vv rfl rfl rfl (vv_pickF rfl rfl) ?_
          refine sd_vv rfl rfl rfl (vv_assign rfl) ?_
          refine sd_done ?_
          refine sw_ret ?_
          have X45 : Gr w w17 := (Gr.md (Gr.trans (Gr.trans (Gr.md (Gr.trans (Gr.trans (Gr.ka (Gr.trans (Gr.md (Gr.md (Gr.trans (Gr.trans (Gr.ka (Gr.trans (Gr.kz X5 Kw3) Gw4) Aw5 (tk1 ((.inr tk0) : 1 = 0 ∨ w.heap.size ≤ gw4))) Gw6) Gw7) Mw8 (tk1 ((pv_app (A := (fun x => w.heap.size ≤ x)) rw5 (.inr tk0)) : zw5 = 0 ∨ w.heap.size ≤ gw5))) Mw9 (tk1 ((pv_app (A := (fun x => w.heap.size ≤ x)) rw5 (.inr tk0)) : zw5 = 0 ∨ w.heap.size ≤ gw5))) Gw10) Aw11 (tk1 ((pv_app (A := (fun x => w.heap.size ≤ x)) rw5 (.inr tk0)) : zw5 = 0 ∨ w.heap.size ≤ gw5))) Gw12) Gw13) Mw14) Gw15) Gw16) Mw17)
          have hr := Option.some.inj hm
          subst hr
          refine ⟨_, _, rfl, res_1 rfl (rv_tmp rfl), ?_⟩
          exact ⟨rfl, X45⟩
      ·
        replace hm := cnd_f c2 hm
        refine sd_skip rfl rfl rfl ?_
        refine sd_vv rfl rfl rfl (vv_pickF rfl rfl) ?_
        refine sd_vv rfl rfl rfl (vv_move rfl) ?_
        refine sd_skip rfl rfl rfl ?_
        refine sd_vv rfl rfl rfl (vv_pickF rfl rfl) ?_
        refine sd_vv rfl rfl rfl (vv_move rfl) ?_
        refine sd_skip rfl rfl rfl ?_
        refine sd_skip rfl rfl rfl ?_
        refine sd_skip rfl rfl rfl ?_
        refine sd_vv rfl rfl rfl (vv_pickF rfl rfl) ?_
        refine sd_vv rfl rfl rfl (vv_assign rfl) ?_
        refine sd_done ?_
        refine sw_ret ?_
        have X46 : Gr w w17 := (Gr.md (Gr.trans (Gr.trans (Gr.md (Gr.trans (Gr.trans (Gr.ka (Gr.trans (Gr.md (Gr.md (Gr.trans (Gr.trans (Gr.ka (Gr.trans (Gr.kz X5 Kw3) Gw4) Aw5 (tk1 ((.inr tk0) : 1 = 0 ∨ w.heap.size ≤ gw4))) Gw6) Gw7) Mw8 (tk1 ((pv_app (A := (fun x => w.heap.size ≤ x)) rw5 (.inr tk0)) : zw5 = 0 ∨ w.heap.size ≤ gw5))) Mw9 (tk1 ((pv_app (A := (fun x => w.heap.size ≤ x)) rw5 (.inr tk0)) : zw5 = 0 ∨ w.heap.size ≤ gw5))) Gw10) Aw11 (tk1 ((pv_app (A := (fun x => w.heap.size ≤ x)) rw5 (.inr tk0)) : zw5 = 0 ∨ w.heap.size ≤ gw5))) Gw12) Gw13) Mw14) Gw15) Gw16) Mw17)
        have hr := Option.some.inj hm
        subst hr
        refine ⟨_, _, rfl, res_1 rfl (rv_tmp rfl), ?_⟩
        exact ⟨rfl, X46⟩
  ·
    -- region 2 outright.go:320
    refine sw_region [(0, 0), (1, 0), (2, 0), (3, 0), (4, 0), (5, 0), (6, 0), (7, 0), (8, 0), (9, 0), (10, 0), (11, 0), (12, 0), (13, 0), (14, 0), (15, 0)] rfl rfl rfl ?_
    refine sd_vv rfl rfl rfl (vv_move rfl) ?_
    refine sd_vv rfl rfl rfl (vv_lss (a := p1) (b := 0) rfl rfl) ?_
    refine sd_split rfl rfl rfl (vv_move rfl) (fun c5 => ?_) (fun c5 => ?_)
    ·
      replace hm := ite_t (of_decide_eq_true c5) hm
      refine sd_skip rfl rfl rfl ?_
      refine sd_skip rfl rfl rfl ?_
      refine sd_vv rfl rfl rfl (vv_pickT rfl rfl) ?_
      refine sd_vv rfl rfl rfl (vv_move rfl) ?_
      refine sd_skip rfl rfl rfl ?_
      refine sd_skip rfl rfl rfl ?_
      refine sd_skip rfl rfl rfl ?_
      refine sd_vv rfl rfl rfl (vv_pickT rfl rfl) ?_
      refine sd_vv rfl rfl rfl (vv_move rfl) ?_
      refine sd_skip rfl rfl rfl ?_
      refine sd_skip rfl rfl rfl ?_
      refine sd_skip rfl rfl rfl ?_
      refine sd_vv rfl rfl rfl (vv_pickT rfl rfl) ?_
      refine sd_nil ?_
      have K_47 : Kz [] w2 w2 := (Kz.refl _ _)
      refine ⟨rfl, true, ?_, hm, K_47⟩
      repeat' first | exact trivial | refine ⟨rfl, ?_⟩
    ·
      replace hm := ite_f (of_decide_eq_false c5) hm
      refine sd_vv rfl rfl rfl (vv_move rfl) ?_
      refine sd_vv rfl rfl rfl (vv_gtr (a := p1) (b := 6) rfl rfl) ?_
      refine sd_vv rfl rfl rfl (vv_pickF rfl rfl) ?_
      refine sd_split rfl rfl rfl (vv_move rfl) (fun c6 => ?_) (fun c6 => ?_)
      ·
        replace hm := ite_t (of_decide_eq_true c6) hm
        refine sd_skip rfl rfl rfl ?_
        refine sd_skip rfl rfl rfl ?_
        refine sd_skip rfl rfl rfl ?_
        refine sd_vv rfl rfl rfl (vv_pickT rfl rfl) ?_
        refine sd_vv rfl rfl rfl (vv_move rfl) ?_
        refine sd_skip rfl rfl rfl ?_
        refine sd_skip rfl rfl rfl ?_
        refine sd_skip rfl rfl rfl ?_
        refine sd_vv rfl rfl rfl (vv_pickT rfl rfl) ?_
        refine sd_nil ?_
        have K_48 : Kz [] w2 w2 := (Kz.refl _ _)
        refine ⟨rfl, true, ?_, hm, K_48⟩
        repeat' first | exact trivial | refine ⟨rfl, ?_⟩
      ·
        replace hm := ite_f (of_decide_eq_false c6) hm
        refine sd_vv rfl rfl rfl (vv_move rfl) ?_
        have B49 := (Rd.gr (Rd.gr hp2 Gw1) Gw2)
        refine sd_vv rfl rfl rfl (vv_lenT (l := p2) (c := bvc) Try.underlying105 rfl B49) ?_
        refine sd_vv rfl rfl rfl (vv_eql (a := (p2.length : Int)) (b := 0) rfl rfl) ?_
        refine sd_vv rfl rfl rfl (vv_pickF rfl rfl) ?_
        refine sd_split rfl rfl rfl (vv_move rfl) (fun c7 => ?_) (fun c7 => ?_)
        ·
          replace hm := ite_t (of_decide_eq_true c7) hm
          refine sd_skip rfl rfl rfl ?_
          refine sd_skip rfl rfl rfl ?_
          refine sd_skip rfl rfl rfl ?_
          refine sd_vv rfl rfl rfl (vv_pickT rfl rfl) ?_
          refine sd_nil ?_
          have K_50 : Kz [] w2 w2 := (Kz.refl _ _)
          refine ⟨rfl, true, ?_, hm, K_50⟩
          repeat' first | exact trivial | refine ⟨rfl, ?_⟩
        ·
          replace hm := ite_f (of_decide_eq_false c7) hm
          refine sd_vv rfl rfl rfl (vv_move rfl) ?_
          refine sd_vv rfl rfl rfl (vv_lenT (l := p2) (c := bvc) Try.underlying105 rfl B49) ?_
          refine sd_vv rfl rfl rfl (vv_gtr (a := (p2.length : Int)) (b := 300) rfl rfl) ?_
          refine sd_vv rfl rfl rfl (vv_pickF rfl rfl) ?_
          refine sd_nil ?_
          have K_51 : Kz [] w2 w2 := (Kz.refl _ _)
          refine ⟨rfl, (decide ((300 : Int) < (p2.length : Int))), ?_, hm, K_51⟩
          repeat' first | exact trivial | refine ⟨rfl, ?_⟩
end Go.Proofs.Ytkdghilkigojgaa.Mx
