/- Walks that follow mirrors: On. Printed by mx.py. -/
import Derived.Test.YtecempahccgijaaAl
import Derived.Test.YtecempahccgijaaOnM
set_option linter.unusedVariables false
set_option linter.unusedSimpArgs false
set_option maxRecDepth 100000
namespace Go.Proofs.Ytecempahccgijaa.Mx
open Go Go.RowKit Go.Sx
theorem en_56 : En Try.prog 56 := fun _ _ => by kernel_rfl
theorem en_59 : En Try.prog 59 := fun _ _ => by kernel_rfl
theorem en_57 : En Try.prog 57 := fun _ _ => by kernel_rfl
theorem en_61 : En Try.prog 61 := fun _ _ => by kernel_rfl

set_option maxHeartbeats 2000000 in
theorem law03_CoverOne_w (p0 : TScheme) (p1 : List Int) (p2 : Int) (vp1 : Value) (zp1 gp1 op1 : Nat) (r : Bool) (hm : law03_CoverOne p0 p1 p2 = some r) (w : World) (hp1 : Rd w zp1 gp1 op1 1 vp1 (p1.map ic))  :
    Calls Try.prog 15 [.agg (TScheme.cs p0).toArray, vp1, .int .i64 p2].toArray w fun e w' => ∃ v, e = .returned v ∧ (v = .bool r ∧ Gr w w') := by
  have lt1 := hp1.lth
  unfold law03_CoverOne at hm
  refine calls_of_sw (R := fun v w' => v = .bool r ∧ Gr w w') 130 Try.func15 rfl rfl rfl ?_
  refine sw_seq ?_
  -- region 0 outright.go:142
  refine sw_region [(0, 0), (1, 0)] rfl rfl rfl ?_
  refine sd_ev rfl rfl rfl (ev_box (cs := TScheme.cs p0) rfl rfl) ?_
  rintro _ w1 ⟨b1, rfl, hbw1, Bw1, Gw1⟩
  have z2 := Gw1.size
  have lt3 := Bw1.lt
  refine sd_vv rfl rfl rfl (vv_assign rfl) ?_
  refine sd_done ?_
  refine sw_seq ?_
  -- region 1 outright.go:143
  refine sw_region [(0, 0), (1, 0)] rfl rfl rfl ?_
  have hb := bnd hm; clear hm; obtain ⟨x1, hx1, hm⟩ := hb
  refine sd_ev rfl rfl rfl (ev_call en_56 rfl (law03_alive_w _ hx1 _)) ?_
  rintro _ w2 ⟨rfl, Gw2⟩
  have z4 := Gw2.size
  refine sd_vv rfl rfl rfl (vv_assign rfl) ?_
  refine sd_done ?_
  refine sw_seq ?_
  have X5 : Gr w w2 := (Gr.trans (Gr.trans (Gr.refl w) Gw1) Gw2)
  refine sw_joinD (β := Bool) [22, 23, 24, 25, 26, 27, 28, 29, 30, 31, 32, 33, 34, 35, 36, 37, 38, 39, 40, 41, 42] (fun a2 => [(42, .bool a2)]) (fun a2 wr => (law03_CoverOne_J1 p0 p1 p2 x1 a2 = some r) ∧ Kz [] w2 wr) ?_ ?_
  · clear hm; rintro a2 w3 ⟨hm, Kw3⟩
    have z6 := Kw3.size
    unfold law03_CoverOne_J1 at hm
    refine sw_cond rfl (fun c1 => ?_) (fun c1 => ?_)
    ·
      replace hm := cnd_t c1 hm
      refine sw_seq ?_
      -- region 3 outright.go:145
      refine sw_region [(0, 0), (1, 0)] rfl rfl rfl ?_
      refine sd_vv rfl rfl rfl (vv_move rfl) ?_
      refine sd_vv rfl rfl rfl (vv_assign rfl) ?_
      refine sd_done ?_
      refine sw_ret ?_
      refine then_r ?_
      have X7 : Gr w w3 := (Gr.kz X5 Kw3)
      have hr := Option.some.inj hm
      subst hr
      refine ⟨_, _, rfl, res_1 rfl (rv_tmp rfl), ?_⟩
      exact ⟨rfl, X7⟩
    ·
      replace hm := cnd_f c1 hm
      refine sw_skip ?_
      refine then_n ?_
      refine sw_seq ?_
      -- region 4 outright.go:147
      refine sw_region [(0, 0)] rfl rfl rfl ?_
      refine sd_vv rfl rfl rfl (vv_assign rfl) ?_
      refine sd_done ?_
      refine sw_seq ?_
      refine sw_seq ?_
      -- region 5 outright.go:148
      refine sw_region [(0, 0)] rfl rfl rfl ?_
      refine sd_vv rfl rfl rfl (vv_assign rfl) ?_
      refine sd_done ?_
      refine sw_block ?_
      have X8 : Gr w w3 := (Gr.kz X5 Kw3)
      have B9 := (Rd.kz (Rd.gr (Rd.gr hp1 Gw1) Gw2) Kw3)
      refine sw_loopD (α := Nat × List Int × Int × Value × Nat × Nat) [8, 9, 10, 11, 44, 45, 46, 47, 48, 49, 50, 51, 52, 53, 54, 55, 56, 57, 58, 59, 60, 61, 62, 63, 64, 65, 66, 67, 68, 69, 70, 71, 72, 73] (fun ⟨n2, a6, a8, vy7, zy7, gy7⟩ => [(8, vy7), (9, .int .i64 a8)]) (fun ⟨n2, a6, a8, vy7, zy7, gy7⟩ wr => (fixN (law03_CoverOne_L2 p0 p1 p2 x1) n2 (a6, a8) = some r) ∧ Own wr zy7 gy7 3 1 vy7 (a6.map ic) ∧ Hdn (zy7 = 0 ∨ w3.heap.size ≤ gy7) ∧ Kz [] w3 wr) (fun ⟨n2, a6, a8, vy7, zy7, gy7⟩ => n2) ⟨FUEL, [], 0, (.slice none 0 0), 0, 0⟩ ?_ ?_ ?_
      · repeat' first | exact trivial | refine ⟨rfl, ?_⟩
      · exact ⟨hm, (own_nil _ 0 3 1), ⟨(.inl rfl)⟩, Kz.refl _ _⟩
      · clear hm; rintro ⟨n2, a6, a8, vy7, zy7, gy7⟩ w4 ⟨hm, Fw4_0, Fw4_1, Kw4⟩
        have z10 := Kw4.size
        have lt11 := Fw4_0.lth
        have hb := fix_succ hm; clear hm; obtain ⟨n2, rfl, hm⟩ := hb
        generalize hrec2 : fixN (law03_CoverOne_L2 p0 p1 p2 x1) n2 = rec2 at hm
        unfold law03_CoverOne_L2 at hm
        try dsimp only at hm
        refine sw_seq ?_
        refine sw_seq ?_
        -- region 6 outright.go:148
        refine sw_region [(0, 0), (1, 0), (2, 0), (3, 0), (4, 0)] rfl rfl rfl ?_
        refine sd_vv rfl rfl rfl (vv_move rfl) ?_
        refine sd_vv rfl rfl rfl (vv_fieldAddr fa_45_1 rfl) ?_
        have B12 := (Bx.kz (Bx.kz (Bx.gr Bw1 Gw2) Kw3) Kw4)
        refine sd_vv rfl rfl rfl (vv_load1 (v := .int .i64 p0.Depth) one_3 rfl B12 rfl) ?_
        have hb := bnd hm; clear hm; obtain ⟨n9, hn9, hm⟩ := hb
        refine sd_vv rfl rfl rfl (vv_shlI (a := 1) (b := p0.Depth) rfl rfl hn9) ?_
        refine sd_vv rfl rfl rfl (vv_lss (a := a8) (b := shlI 1 n9) rfl rfl) ?_
        refine sd_done ?_
        refine sw_cond rfl (fun c2 => ?_) (fun c2 => ?_)
        ·
          replace hm := ite_t (of_decide_eq_true c2) hm
          refine sw_skip ?_
          refine then_n ?_
          refine sw_seq ?_
          refine sw_block ?_
          refine sw_seq ?_
          -- region 8 outright.go:149
          refine sw_region [(0, 0), (1, 0), (2, 0), (3, 0)] rfl rfl rfl ?_
          refine sd_vv rfl rfl rfl (vv_move rfl) ?_
          refine sd_vv rfl rfl rfl (vv_move rfl) ?_
          refine sd_vv rfl rfl rfl (vv_eql (a := a8) (b := p2) rfl rfl) ?_
          refine sd_vv rfl rfl rfl (vv_assign rfl) ?_
          refine sd_done ?_
          refine sw_seq ?_
          refine sw_seq ?_
          -- region 9 outright.go:150
          refine sw_region [(0, 0)] rfl rfl rfl ?_
          refine sd_vv rfl rfl rfl (vv_assign rfl) ?_
          refine sd_done ?_
          refine sw_block ?_
          have X13 : Gr w w4 := (Gr.kz X8 Kw4)
          have B14 := (Rd.kz B9 Kw4)
          refine sw_loopD (α := Nat × Bool × Int) [10, 11, 54, 55, 56, 57, 58, 59, 60, 61, 62, 63, 64, 65, 66, 67, 68] (fun ⟨n3, a12, a13⟩ => [(10, .bool a12), (11, .int .i64 a13)]) (fun ⟨n3, a12, a13⟩ wr => (fixN (law03_CoverOne_L3 p1 a6 a8 rec2) n3 (a12, a13) = some r) ∧ Kz [] w4 wr) (fun ⟨n3, a12, a13⟩ => n3) ⟨FUEL, decide (a8 = p2), 0⟩ ?_ ?_ ?_
          · repeat' first | exact trivial | refine ⟨rfl, ?_⟩
          · exact ⟨hm, Kz.refl _ _⟩
          · clear hm; rintro ⟨n3, a12, a13⟩ w5 ⟨hm, Kw5⟩
            have z15 := Kw5.size
            have hb := fix_succ hm; clear hm; obtain ⟨n3, rfl, hm⟩ := hb
            generalize hrec3 : fixN (law03_CoverOne_L3 p1 a6 a8 rec2) n3 = rec3 at hm
            unfold law03_CoverOne_L3 at hm
            try dsimp only at hm
            refine sw_seq ?_
            refine sw_seq ?_
            -- region 10 outright.go:150
            refine sw_region [(0, 0), (1, 0), (2, 0), (3, 0)] rfl rfl rfl ?_
            refine sd_vv rfl rfl rfl (vv_move rfl) ?_
            refine sd_vv rfl rfl rfl (vv_move rfl) ?_
            have B16 := (Rd.kz B14 Kw5)
            refine sd_vv rfl rfl rfl (vv_lenT (l := p1) (c := ic) Try.underlying61 rfl B16) ?_
            refine sd_vv rfl rfl rfl (vv_lss (a := a13) (b := (p1.length : Int)) rfl rfl) ?_
            refine sd_done ?_
            refine sw_cond rfl (fun c3 => ?_) (fun c3 => ?_)
            ·
              replace hm := ite_t (of_decide_eq_true c3) hm
              refine sw_skip ?_
              refine then_n ?_
              refine sw_seq ?_
              refine sw_block ?_
              -- region 12 outright.go:151
              refine sw_region [(0, 0), (1, 0), (2, 0), (3, 0), (4, 0), (5, 0), (6, 0), (7, 0), (8, 0), (9, 0)] rfl rfl rfl ?_
              refine sd_vv rfl rfl rfl (vv_move rfl) ?_
              refine sd_split rfl rfl rfl (vv_move rfl) (fun c4 => ?_) (fun c4 => ?_)
              ·
                replace hm := cnd_t c4 hm
                refine sd_skip rfl rfl rfl ?_
                refine sd_skip rfl rfl rfl ?_
                refine sd_skip rfl rfl rfl ?_
                refine sd_skip rfl rfl rfl ?_
                refine sd_skip rfl rfl rfl ?_
                refine sd_skip rfl rfl rfl ?_
                refine sd_vv rfl rfl rfl (vv_pickT rfl rfl) ?_
                refine sd_vv rfl rfl rfl (vv_assign rfl) ?_
                refine sd_nil ?_
                refine block_n ?_
                refine then_n ?_
                -- region 11 outright.go:150
                refine sw_region [(0, 0), (1, 0), (2, 0)] rfl rfl rfl ?_
                refine sd_vv rfl rfl rfl (vv_move rfl) ?_
                refine sd_vv rfl rfl rfl (vv_add (k := .i64) (a := a13) (b := 1) rfl rfl) ?_
                refine sd_vv rfl rfl rfl (vv_assign rfl) ?_
                refine sd_nil ?_
                have K_17 : Kz [] w4 w5 := Kw5
                subst hrec3
                refine ⟨rfl, ⟨n3, true, w64 (a13 + 1)⟩, ?_, ⟨hm, K_17⟩, Nat.lt_succ_self _⟩
                repeat' first | exact trivial | refine ⟨rfl, ?_⟩
              ·
                replace hm := cnd_f c4 hm
                refine sd_vv rfl rfl rfl (vv_move rfl) ?_
                refine sd_vv rfl rfl rfl (vv_move rfl) ?_
                have hb := bnd hm; clear hm; obtain ⟨y14, hy14, hm⟩ := hb
                refine sd_vv rfl rfl rfl (vv_ixT (i := a13) Try.underlying61 (one_3).siz rfl B16 rfl hy14) ?_
                refine sd_vv rfl rfl rfl (vv_el1T (q := 0) (u := .int .i64 y14) one_3 rfl B16 hy14 (by first | rfl | omega) rfl) ?_
                refine sd_vv rfl rfl rfl (vv_move rfl) ?_
                refine sd_vv rfl rfl rfl (vv_eql (a := y14) (b := a8) rfl rfl) ?_
                refine sd_vv rfl rfl rfl (vv_pickF rfl rfl) ?_
                refine sd_vv rfl rfl rfl (vv_assign rfl) ?_
                refine sd_nil ?_
                refine block_n ?_
                refine then_n ?_
                -- region 11 outright.go:150
                refine sw_region [(0, 0), (1, 0), (2, 0)] rfl rfl rfl ?_
                refine sd_vv rfl rfl rfl (vv_move rfl) ?_
                refine sd_vv rfl rfl rfl (vv_add (k := .i64) (a := a13) (b := 1) rfl rfl) ?_
                refine sd_vv rfl rfl rfl (vv_assign rfl) ?_
                refine sd_nil ?_
                have K_18 : Kz [] w4 w5 := Kw5
                subst hrec3
                refine ⟨rfl, ⟨n3, decide (y14 = a8), w64 (a13 + 1)⟩, ?_, ⟨hm, K_18⟩, Nat.lt_succ_self _⟩
                repeat' first | exact trivial | refine ⟨rfl, ?_⟩
            ·
              replace hm := ite_f (of_decide_eq_false c3) hm
              refine sw_exit ?_
              refine then_x ?_
              refine then_x ?_
              refine block_x ?_
              refine then_n ?_
              refine sw_seq ?_
              -- region 13 outright.go:153
              refine sw_region [(0, 0)] rfl rfl rfl ?_
              refine sd_vv rfl rfl rfl (vv_move rfl) ?_
              refine sd_done ?_
              refine sw_cond rfl (fun c5 => ?_) (fun c5 => ?_)
              ·
                replace hm := cnd_t c5 hm
                -- region 14 outright.go:154
                refine sw_region [(0, 0), (1, 0), (2, 0), (3, 0), (4, 0)] rfl rfl rfl ?_
                refine sd_vv rfl rfl rfl (vv_move rfl) ?_
                refine sd_vv rfl rfl rfl (vv_move rfl) ?_
                refine sd_ev rfl rfl rfl (ev_litT [a8] ic bsl_61_1 rfl rfl (ws_of rfl) rfl rfl rfl) ?_
                rintro vw6 w6 ⟨gw6, hbw6, Ow6, Gw6⟩
                have z19 := Gw6.size
                have lt20 := Ow6.lth
                have B21 := (Own.gr (Own.kz Fw4_0 Kw5) Gw6)
                have hb := bnd hm; clear hm; obtain ⟨l15, hl15, hm⟩ := hb
                refine sd_ev rfl rfl rfl (ev_appT (l := a6) (m := [a8]) (c := ic) apt_61 rfl rfl B21 (Own.rd Ow6) hl15 (by decide)) ?_
                rintro vw7 w7 ⟨zw7, gw7, Ow7, Aw7, qw7, rw7⟩
                have z22 := Aw7.size
                refine sd_vv rfl rfl rfl (vv_assign rfl) ?_
                refine sd_nil ?_
                refine block_n ?_
                refine then_n ?_
                -- region 7 outright.go:148
                refine sw_region [(0, 0), (1, 0), (2, 0)] rfl rfl rfl ?_
                refine sd_vv rfl rfl rfl (vv_move rfl) ?_
                refine sd_vv rfl rfl rfl (vv_add (k := .i64) (a := a8) (b := 1) rfl rfl) ?_
                refine sd_vv rfl rfl rfl (vv_assign rfl) ?_
                refine sd_nil ?_
                have K_23 : Kz [] w3 w7 := (Kz.ka (Kz.gr (Kz.kz Kw4 Kw5) Gw6) Aw7 (tk1 ((pv_0 (A := (fun x => w3.heap.size ≤ x)) Fw4_1) : zy7 = 0 ∨ w3.heap.size ≤ gy7)))
                subst hrec2
                refine ⟨rfl, ⟨n2, l15, w64 (a8 + 1), vw7, zw7, gw7⟩, ?_, ⟨hm, Ow7, ⟨(pv_app (A := (fun x => w3.heap.size ≤ x)) rw7 (pv_0 (A := (fun x => w3.heap.size ≤ x)) Fw4_1))⟩, K_23⟩, Nat.lt_succ_self _⟩
                repeat' first | exact trivial | refine ⟨rfl, ?_⟩
              ·
                replace hm := cnd_f c5 hm
                refine sw_skip ?_
                refine block_n ?_
                refine then_n ?_
                -- region 7 outright.go:148
                refine sw_region [(0, 0), (1, 0), (2, 0)] rfl rfl rfl ?_
                refine sd_vv rfl rfl rfl (vv_move rfl) ?_
                refine sd_vv rfl rfl rfl (vv_add (k := .i64) (a := a8) (b := 1) rfl rfl) ?_
                refine sd_vv rfl rfl rfl (vv_assign rfl) ?_
                refine sd_nil ?_
                have K_24 : Kz [] w3 w5 := (Kz.kz Kw4 Kw5)
                have B25 := (Own.kz Fw4_0 Kw5)
                subst hrec2
                refine ⟨rfl, ⟨n2, a6, w64 (a8 + 1), vy7, zy7, gy7⟩, ?_, ⟨hm, B25, ⟨(pv_0 (A := (fun x => w3.heap.size ≤ x)) Fw4_1)⟩, K_24⟩, Nat.lt_succ_self _⟩
                repeat' first | exact trivial | refine ⟨rfl, ?_⟩
        ·
          replace hm := ite_f (of_decide_eq_false c2) hm
          refine sw_exit ?_
          refine then_x ?_
          refine then_x ?_
          refine block_x ?_
          refine then_n ?_
          refine sw_seq ?_
          -- region 15 outright.go:157
          refine sw_region [(0, 0), (1, 0), (2, 0), (3, 0), (4, 0), (5, 0), (6, 0), (7, 0)] rfl rfl rfl ?_
          refine sd_vv rfl rfl rfl (vv_loadW agg_45 rfl B12 rfl) ?_
          refine sd_vv rfl rfl rfl (vv_move rfl) ?_
          have B26 := (Rd.kz B9 Kw4)
          have hb := bnd hm; clear hm; obtain ⟨x16, hx16, hm⟩ := hb
          refine sd_ev rfl rfl rfl (ev_call en_54 rfl (cover_Cover_w p0 p1 _ _ _ _ _ hx16 _ B26)) ?_
          rintro _ w8 ⟨u8_r0_s, z8_r0_s, g8_r0_s, rfl, O8_r0_s, f8_r0_s, Gw8⟩
          have z27 := Gw8.size
          have lt28 := O8_r0_s.lth
          refine sd_vv rfl rfl rfl (vv_move rfl) ?_
          refine sd_vv rfl rfl rfl (vv_extract rfl rfl) ?_
          refine sd_vv rfl rfl rfl (vv_extract rfl rfl) ?_
          refine sd_vv rfl rfl rfl (vv_assign rfl) ?_
          refine sd_vv rfl rfl rfl (vv_assign rfl) ?_
          refine sd_done ?_
          refine sw_seq ?_
          -- region 16 outright.go:158
          refine sw_region [(0, 0), (1, 0), (2, 0), (3, 0), (4, 0), (5, 0), (6, 0), (7, 0)] rfl rfl rfl ?_
          have B29 := (Bx.gr B12 Gw8)
          refine sd_vv rfl rfl rfl (vv_loadW agg_45 rfl B29 rfl) ?_
          refine sd_vv rfl rfl rfl (vv_move rfl) ?_
          have B30 := (Own.gr Fw4_0 Gw8)
          have hb := bnd hm; clear hm; obtain ⟨x17, hx17, hm⟩ := hb
          refine sd_ev rfl rfl rfl (ev_call en_54 rfl (cover_Cover_w p0 a6 _ _ _ _ _ hx17 _ (Own.rd B30))) ?_
          rintro _ w9 ⟨u9_r0_s, z9_r0_s, g9_r0_s, rfl, O9_r0_s, f9_r0_s, Gw9⟩
          have z31 := Gw9.size
          have lt32 := O9_r0_s.lth
          refine sd_vv rfl rfl rfl (vv_move rfl) ?_
          refine sd_vv rfl rfl rfl (vv_extract rfl rfl) ?_
          refine sd_vv rfl rfl rfl (vv_extract rfl rfl) ?_
          refine sd_vv rfl rfl rfl (vv_assign rfl) ?_
          refine sd_vv rfl rfl rfl (vv_assign rfl) ?_
          refine sd_done ?_
          refine sw_seq ?_
          have X33 : Gr w w9 := (Gr.trans (Gr.trans (Gr.kz X8 Kw4) Gw8) Gw9)
          refine sw_joinD (β := Bool) [86, 87, 88, 89, 90, 91] (fun a18 => [(91, .bool a18)]) (fun a18 wr => (law03_CoverOne_J4 p0 p2 x1 x16 x17 a18 = some r) ∧ Kz [] w9 wr) ?_ ?_
          · clear hm; rintro a18 w10 ⟨hm, Kw10⟩
            have z34 := Kw10.size
            unfold law03_CoverOne_J4 at hm
            refine sw_cond rfl (fun c6 => ?_) (fun c6 => ?_)
            ·
              replace hm := cnd_t c6 hm
              refine sw_seq ?_
              -- region 18 outright.go:160
              refine sw_region [(0, 0)] rfl rfl rfl ?_
              refine sd_vv rfl rfl rfl (vv_assign rfl) ?_
              refine sd_done ?_
              refine sw_ret ?_
              refine then_r ?_
              have X35 : Gr w w10 := (Gr.kz X33 Kw10)
              have hr := Option.some.inj hm
              subst hr
              refine ⟨_, _, rfl, res_1 rfl (rv_tmp rfl), ?_⟩
              exact ⟨rfl, X35⟩
            ·
              replace hm := cnd_f c6 hm
              refine sw_skip ?_
              refine then_n ?_
              refine sw_seq ?_
              refine sw_seq ?_
              -- region 19 outright.go:162
              refine sw_region [(0, 0)] rfl rfl rfl ?_
              refine sd_vv rfl rfl rfl (vv_assign rfl) ?_
              refine sd_done ?_
              refine sw_block ?_
              have X36 : Gr w w10 := (Gr.kz X33 Kw10)
              have B37 := (Rd.kz (Rd.gr (Rd.gr B26 Gw8) Gw9) Kw10)
              have B38 := (Own.kz (Own.gr B30 Gw9) Kw10)
              have B39 := (Own.kz (Own.gr O8_r0_s Gw9) Kw10)
              have B40 := (Own.kz O9_r0_s Kw10)
              refine sw_loopD (α := Nat × Int) [6, 16, 17, 18, 19, 20, 92, 93, 94, 95, 96, 97, 98, 99, 100, 101, 102, 103, 104, 105, 106, 107, 108, 109, 110, 111, 112, 113, 114, 115, 116, 117, 118, 119, 120, 121, 122, 123, 124, 125, 126, 127, 128] (fun ⟨n5, a20⟩ => [(6, .bool false), (16, .int .i64 a20)]) (fun ⟨n5, a20⟩ wr => (fixN (law03_CoverOne_L5 p0 p2 x1 x16 x17) n5 a20 = some r) ∧ Kz [] w10 wr) (fun ⟨n5, a20⟩ => n5) ⟨FUEL, 0⟩ ?_ ?_ ?_
              · repeat' first | exact trivial | refine ⟨rfl, ?_⟩
              · exact ⟨hm, Kz.refl _ _⟩
              · clear hm; rintro ⟨n5, a20⟩ w11 ⟨hm, Kw11⟩
                have z41 := Kw11.size
                have hb := fix_succ hm; clear hm; obtain ⟨n5, rfl, hm⟩ := hb
                generalize hrec5 : fixN (law03_CoverOne_L5 p0 p2 x1 x16 x17) n5 = rec5 at hm
                unfold law03_CoverOne_L5 at hm
                try dsimp only at hm
                refine sw_seq ?_
                refine sw_seq ?_
                -- region 20 outright.go:162
                refine sw_region [(0, 0), (1, 0), (2, 0), (3, 0), (4, 0)] rfl rfl rfl ?_
                refine sd_vv rfl rfl rfl (vv_move rfl) ?_
                refine sd_vv rfl rfl rfl (vv_fieldAddr fa_45_1 rfl) ?_
                have B42 := (Bx.kz (Bx.kz (Bx.gr B29 Gw9) Kw10) Kw11)
                refine sd_vv rfl rfl rfl (vv_load1 (v := .int .i64 p0.Depth) one_3 rfl B42 rfl) ?_
                have hb := bnd hm; clear hm; obtain ⟨n21, hn21, hm⟩ := hb
                refine sd_vv rfl rfl rfl (vv_shlI (a := 1) (b := p0.Depth) rfl rfl hn21) ?_
                refine sd_vv rfl rfl rfl (vv_lss (a := a20) (b := shlI 1 n21) rfl rfl) ?_
                refine sd_done ?_
                refine sw_cond rfl (fun c7 => ?_) (fun c7 => ?_)
                ·
                  replace hm := ite_t (of_decide_eq_true c7) hm
                  refine sw_skip ?_
                  refine then_n ?_
                  refine sw_seq ?_
                  refine sw_block ?_
                  refine sw_seq ?_
                  -- region 22 outright.go:163
                  refine sw_region [(0, 0), (1, 0), (2, 0), (3, 0), (4, 0), (5, 0), (6, 0), (7, 0), (8, 0)] rfl rfl rfl ?_
                  refine sd_vv rfl rfl rfl (vv_loadW agg_45 rfl B42 rfl) ?_
                  refine sd_vv rfl rfl rfl (vv_move rfl) ?_
                  refine sd_vv rfl rfl rfl (vv_move rfl) ?_
                  have B43 := (Own.kz B39 Kw11)
                  have hb := bnd hm; clear hm; obtain ⟨x22, hx22, hm⟩ := hb
                  refine sd_ev rfl rfl rfl (ev_call en_61 rfl (law03_member_w p0 x16.1 a20 _ _ _ _ _ hx22 _ (Own.rd B43))) ?_
                  rintro _ w12 ⟨rfl, Gw12⟩
                  have z44 := Gw12.size
                  refine sd_vv rfl rfl rfl (vv_move rfl) ?_
                  refine sd_vv rfl rfl rfl (vv_extract rfl rfl) ?_
                  refine sd_vv rfl rfl rfl (vv_extract rfl rfl) ?_
                  refine sd_vv rfl rfl rfl (vv_assign rfl) ?_
                  refine sd_vv rfl rfl rfl (vv_assign rfl) ?_
                  refine sd_done ?_
                  refine sw_seq ?_
                  -- region 23 outright.go:164
                  refine sw_region [(0, 0), (1, 0), (2, 0), (3, 0), (4, 0), (5, 0), (6, 0), (7, 0), (8, 0)] rfl rfl rfl ?_
                  have B45 := (Bx.gr B42 Gw12)
                  refine sd_vv rfl rfl rfl (vv_loadW agg_45 rfl B45 rfl) ?_
                  refine sd_vv rfl rfl rfl (vv_move rfl) ?_
                  refine sd_vv rfl rfl rfl (vv_move rfl) ?_
                  have B46 := (Own.gr (Own.kz B40 Kw11) Gw12)
                  have hb := bnd hm; clear hm; obtain ⟨x23, hx23, hm⟩ := hb
                  refine sd_ev rfl rfl rfl (ev_call en_61 rfl (law03_member_w p0 x17.1 a20 _ _ _ _ _ hx23 _ (Own.rd B46))) ?_
                  rintro _ w13 ⟨rfl, Gw13⟩
                  have z47 := Gw13.size
                  refine sd_vv rfl rfl rfl (vv_move rfl) ?_
                  refine sd_vv rfl rfl rfl (vv_extract rfl rfl) ?_
                  refine sd_vv rfl rfl rfl (vv_extract rfl rfl) ?_
                  refine sd_vv rfl rfl rfl (vv_assign rfl) ?_
                  refine sd_vv rfl rfl rfl (vv_assign rfl) ?_
                  refine sd_done ?_
                  have X48 : Gr w w13 := (Gr.trans (Gr.trans (Gr.kz X36 Kw11) Gw12) Gw13)
                  refine sw_joinD (β := Bool) [113, 114, 115, 116, 117, 118, 119, 120, 121, 122, 123, 124, 125, 126, 127, 128] (fun a24 => [(128, .bool a24)]) (fun a24 wr => (law03_CoverOne_J6 a20 rec5 a24 = some r) ∧ Kz [] w13 wr) ?_ ?_
                  · clear hm; rintro a24 w14 ⟨hm, Kw14⟩
                    have z49 := Kw14.size
                    unfold law03_CoverOne_J6 at hm
                    refine sw_cond rfl (fun c8 => ?_) (fun c8 => ?_)
                    ·
                      replace hm := cnd_t c8 hm
                      refine sw_seq ?_
                      -- region 25 outright.go:166
                      refine sw_region [(0, 0)] rfl rfl rfl ?_
                      refine sd_vv rfl rfl rfl (vv_assign rfl) ?_
                      refine sd_done ?_
                      refine sw_ret ?_
                      refine block_r ?_
                      refine then_r ?_
                      refine then_r ?_
                      refine block_r ?_
                      refine then_r ?_
                      have X50 : Gr w w14 := (Gr.kz X48 Kw14)
                      have hr := Option.some.inj hm
                      subst hr
                      refine ⟨_, _, rfl, res_1 rfl (rv_tmp rfl), ?_⟩
                      exact ⟨rfl, X50⟩
                    ·
                      replace hm := cnd_f c8 hm
                      refine sw_skip ?_
                      refine block_n ?_
                      refine then_n ?_
                      -- region 21 outright.go:162
                      refine sw_region [(0, 0), (1, 0), (2, 0)] rfl rfl rfl ?_
                      refine sd_vv rfl rfl rfl (vv_move rfl) ?_
                      refine sd_vv rfl rfl rfl (vv_add (k := .i64) (a := a20) (b := 1) rfl rfl) ?_
                      refine sd_vv rfl rfl rfl (vv_assign rfl) ?_
                      refine sd_nil ?_
                      have K_51 : Kz [] w10 w14 := (Kz.kz (Kz.gr (Kz.gr Kw11 Gw12) Gw13) Kw14)
                      subst hrec5
                      refine ⟨rfl, ⟨n5, w64 (a20 + 1)⟩, ?_, ⟨hm, K_51⟩, Nat.lt_succ_self _⟩
                      repeat' first | exact trivial | refine ⟨rfl, ?_⟩
                  ·
                    -- region 24 outright.go:165
                    refine sw_region [(0, 0), (1, 0), (2, 0), (3, 0), (4, 0), (5, 0), (6, 0), (7, 0), (8, 0), (9, 0), (10, 0), (11, 0), (12, 0), (13, 0), (14, 0), (15, 0)] rfl rfl rfl ?_
                    refine sd_vv rfl rfl rfl (vv_move rfl) ?_
                    refine sd_vv rfl rfl rfl (vv_not rfl) ?_
                    refine sd_split rfl rfl rfl (vv_move rfl) (fun c9 => ?_) (fun c9 => ?_)
                    ·
                      replace hm := cnd_t c9 hm
                      refine sd_skip rfl rfl rfl ?_
                      refine sd_skip rfl rfl rfl ?_
                      refine sd_vv rfl rfl rfl (vv_pickT rfl rfl) ?_
                      refine sd_vv rfl rfl rfl (vv_move rfl) ?_
                      refine sd_skip rfl rfl rfl ?_
                      refine sd_skip rfl rfl rfl ?_
                      refine sd_skip rfl rfl rfl ?_
                      refine sd_skip rfl rfl rfl ?_
                      refine sd_skip rfl rfl rfl ?_
                      refine sd_skip rfl rfl rfl ?_
                      refine sd_skip rfl rfl rfl ?_
                      refine sd_skip rfl rfl rfl ?_
                      refine sd_vv rfl rfl rfl (vv_pickT rfl rfl) ?_
                      refine sd_nil ?_
                      have K_52 : Kz [] w13 w13 := (Kz.refl _ _)
                      refine ⟨rfl, true, ?_, hm, K_52⟩
                      repeat' first | exact trivial | refine ⟨rfl, ?_⟩
                    ·
                      replace hm := cnd_f c9 hm
                      refine sd_vv rfl rfl rfl (vv_move rfl) ?_
                      refine sd_vv rfl rfl rfl (vv_not rfl) ?_
                      refine sd_vv rfl rfl rfl (vv_pickF rfl rfl) ?_
                      refine sd_split rfl rfl rfl (vv_move rfl) (fun c10 => ?_) (fun c10 => ?_)
                      ·
                        replace hm := cnd_t c10 hm
                        refine sd_skip rfl rfl rfl ?_
                        refine sd_skip rfl rfl rfl ?_
                        refine sd_skip rfl rfl rfl ?_
                        refine sd_skip rfl rfl rfl ?_
                        refine sd_skip rfl rfl rfl ?_
                        refine sd_skip rfl rfl rfl ?_
                        refine sd_skip rfl rfl rfl ?_
                        refine sd_skip rfl rfl rfl ?_
                        refine sd_vv rfl rfl rfl (vv_pickT rfl rfl) ?_
                        refine sd_nil ?_
                        have K_53 : Kz [] w13 w13 := (Kz.refl _ _)
                        refine ⟨rfl, true, ?_, hm, K_53⟩
                        repeat' first | exact trivial | refine ⟨rfl, ?_⟩
                      ·
                        replace hm := cnd_f c10 hm
                        refine sd_vv rfl rfl rfl (vv_move rfl) ?_
                        refine sd_vv rfl rfl rfl (vv_move rfl) ?_
                        refine sd_split rfl rfl rfl (vv_move rfl) (fun c11 => ?_) (fun c11 => ?_)
                        ·
                          replace hm := cnd_t c11 hm
                          refine sd_vv rfl rfl rfl (vv_move rfl) ?_
                          refine sd_vv rfl rfl rfl (vv_move rfl) ?_
                          refine sd_vv rfl rfl rfl (vv_neq (a := a20) (b := p2) rfl rfl) ?_
                          refine sd_vv rfl rfl rfl (vv_pickT rfl rfl) ?_
                          refine sd_vv rfl rfl rfl (vv_neqL Try.underlying4 rfl rfl) ?_
                          refine sd_vv rfl rfl rfl (vv_pickF rfl rfl) ?_
                          refine sd_nil ?_
                          have K_54 : Kz [] w13 w13 := (Kz.refl _ _)
                          refine ⟨rfl, (x23.1 != (decide (a20 ≠ p2))), ?_, hm, K_54⟩
                          repeat' first | exact trivial | refine ⟨rfl, ?_⟩
                        ·
                          replace hm := cnd_f c11 hm
                          refine sd_skip rfl rfl rfl ?_
                          refine sd_skip rfl rfl rfl ?_
                          refine sd_skip rfl rfl rfl ?_
                          refine sd_vv rfl rfl rfl (vv_pickF rfl rfl) ?_
                          refine sd_vv rfl rfl rfl (vv_neqL Try.underlying4 rfl rfl) ?_
                          refine sd_vv rfl rfl rfl (vv_pickF rfl rfl) ?_
                          refine sd_nil ?_
                          have K_55 : Kz [] w13 w13 := (Kz.refl _ _)
                          refine ⟨rfl, (x23.1 != false), ?_, hm, K_55⟩
                          repeat' first | exact trivial | refine ⟨rfl, ?_⟩
                ·
                  replace hm := ite_f (of_decide_eq_false c7) hm
                  refine sw_exit ?_
                  refine then_x ?_
                  refine then_x ?_
                  refine block_x ?_
                  refine then_n ?_
                  refine sw_seq ?_
                  -- region 26 outright.go:169
                  refine sw_region [(0, 0), (1, 0)] rfl rfl rfl ?_
                  refine sd_vv rfl rfl rfl (vv_move rfl) ?_
                  refine sd_vv rfl rfl rfl (vv_assign rfl) ?_
                  refine sd_done ?_
                  refine sw_ret ?_
                  have X56 : Gr w w11 := (Gr.kz X36 Kw11)
                  have hr := Option.some.inj hm
                  subst hr
                  refine ⟨_, _, rfl, res_1 rfl (rv_tmp rfl), ?_⟩
                  exact ⟨rfl, X56⟩
          ·
            -- region 17 outright.go:159
            refine sw_region [(0, 0), (1, 0), (2, 0), (3, 0), (4, 0), (5, 0)] rfl rfl rfl ?_
            refine sd_vv rfl rfl rfl (vv_move rfl) ?_
            refine sd_vv rfl rfl rfl (vv_neq (a := x16.2) (b := 0) rfl rfl) ?_
            refine sd_split rfl rfl rfl (vv_move rfl) (fun c12 => ?_) (fun c12 => ?_)
            ·
              replace hm := ite_t (of_decide_eq_true c12) hm
              refine sd_skip rfl rfl rfl ?_
              refine sd_skip rfl rfl rfl ?_
              refine sd_vv rfl rfl rfl (vv_pickT rfl rfl) ?_
              refine sd_nil ?_
              have K_57 : Kz [] w9 w9 := (Kz.refl _ _)
              refine ⟨rfl, true, ?_, hm, K_57⟩
              repeat' first | exact trivial | refine ⟨rfl, ?_⟩
            ·
              replace hm := ite_f (of_decide_eq_false c12) hm
              refine sd_vv rfl rfl rfl (vv_move rfl) ?_
              refine sd_vv rfl rfl rfl (vv_neq (a := x17.2) (b := 0) rfl rfl) ?_
              refine sd_vv rfl rfl rfl (vv_pickF rfl rfl) ?_
              refine sd_nil ?_
              have K_58 : Kz [] w9 w9 := (Kz.refl _ _)
              refine ⟨rfl, (decide (x17.2 ≠ 0)), ?_, hm, K_58⟩
              repeat' first | exact trivial | refine ⟨rfl, ?_⟩
  ·
    -- region 2 outright.go:144
    refine sw_region [(0, 0), (1, 0), (2, 0), (3, 0), (4, 0), (5, 0), (6, 0), (7, 0), (8, 0), (9, 0), (10, 0), (11, 0), (12, 0), (13, 0), (14, 0), (15, 0), (16, 0), (17, 0), (18, 0), (19, 0), (20, 0)] rfl rfl rfl ?_
    have B59 := (Bx.gr Bw1 Gw2)
    refine sd_vv rfl rfl rfl (vv_loadW agg_45 rfl B59 rfl) ?_
    have hb := bnd hm; clear hm; obtain ⟨x25, hx25, hm⟩ := hb
    refine sd_ev rfl rfl rfl (ev_call en_59 rfl (ref03_Valid_w p0 _ hx25 _)) ?_
    rintro _ w15 ⟨rfl, Gw15⟩
    have z60 := Gw15.size
    refine sd_vv rfl rfl rfl (vv_not rfl) ?_
    refine sd_split rfl rfl rfl (vv_move rfl) (fun c13 => ?_) (fun c13 => ?_)
    ·
      replace hm := cnd_t c13 hm
      refine sd_skip rfl rfl rfl ?_
      refine sd_skip rfl rfl rfl ?_
      refine sd_skip rfl rfl rfl ?_
      refine sd_skip rfl rfl rfl ?_
      refine sd_skip rfl rfl rfl ?_
      refine sd_vv rfl rfl rfl (vv_pickT rfl rfl) ?_
      refine sd_vv rfl rfl rfl (vv_move rfl) ?_
      refine sd_skip rfl rfl rfl ?_
      refine sd_skip rfl rfl rfl ?_
      refine sd_vv rfl rfl rfl (vv_pickT rfl rfl) ?_
      refine sd_vv rfl rfl rfl (vv_move rfl) ?_
      refine sd_skip rfl rfl rfl ?_
      refine sd_skip rfl rfl rfl ?_
      refine sd_skip rfl rfl rfl ?_
      refine sd_skip rfl rfl rfl ?_
      refine sd_skip rfl rfl rfl ?_
      refine sd_vv rfl rfl rfl (vv_pickT rfl rfl) ?_
      refine sd_nil ?_
      have K_61 : Kz [] w2 w15 := (Kz.gr (Kz.refl _ _) Gw15)
      refine ⟨rfl, true, ?_, hm, K_61⟩
      repeat' first | exact trivial | refine ⟨rfl, ?_⟩
    ·
      replace hm := cnd_f c13 hm
      refine sd_vv rfl rfl rfl (vv_fieldAddr fa_45_1 rfl) ?_
      have B62 := (Bx.gr B59 Gw15)
      refine sd_vv rfl rfl rfl (vv_load1 (v := .int .i64 p0.Depth) one_3 rfl B62 rfl) ?_
      refine sd_vv rfl rfl rfl (vv_move rfl) ?_
      have B63 := (Rd.gr (Rd.gr (Rd.gr hp1 Gw1) Gw2) Gw15)
      have hb := bnd hm; clear hm; obtain ⟨x26, hx26, hm⟩ := hb
      refine sd_ev rfl rfl rfl (ev_call en_57 rfl (ref03_IsList_w p0.Depth p1 _ _ _ _ _ hx26 _ B63)) ?_
      rintro _ w16 ⟨rfl, Gw16⟩
      have z64 := Gw16.size
      refine sd_vv rfl rfl rfl (vv_not rfl) ?_
      refine sd_vv rfl rfl rfl (vv_pickF rfl rfl) ?_
      refine sd_split rfl rfl rfl (vv_move rfl) (fun c14 => ?_) (fun c14 => ?_)
      ·
        replace hm := cnd_t c14 hm
        refine sd_skip rfl rfl rfl ?_
        refine sd_skip rfl rfl rfl ?_
        refine sd_vv rfl rfl rfl (vv_pickT rfl rfl) ?_
        refine sd_vv rfl rfl rfl (vv_move rfl) ?_
        refine sd_skip rfl rfl rfl ?_
        refine sd_skip rfl rfl rfl ?_
        refine sd_skip rfl rfl rfl ?_
        refine sd_skip rfl rfl rfl ?_
        refine sd_skip rfl rfl rfl ?_
        refine sd_vv rfl rfl rfl (vv_pickT rfl rfl) ?_
        refine sd_nil ?_
        have K_65 : Kz [] w2 w16 := (Kz.gr (Kz.gr (Kz.refl _ _) Gw15) Gw16)
        refine ⟨rfl, true, ?_, hm, K_65⟩
        repeat' first | exact trivial | refine ⟨rfl, ?_⟩
      ·
        replace hm := cnd_f c14 hm
        refine sd_vv rfl rfl rfl (vv_move rfl) ?_
        refine sd_vv rfl rfl rfl (vv_lss (a := p2) (b := 0) rfl rfl) ?_
        refine sd_vv rfl rfl rfl (vv_pickF rfl rfl) ?_
        refine sd_split rfl rfl rfl (vv_move rfl) (fun c15 => ?_) (fun c15 => ?_)
        ·
          replace hm := ite_t (of_decide_eq_true c15) hm
          refine sd_skip rfl rfl rfl ?_
          refine sd_skip rfl rfl rfl ?_
          refine sd_skip rfl rfl rfl ?_
          refine sd_skip rfl rfl rfl ?_
          refine sd_skip rfl rfl rfl ?_
          refine sd_vv rfl rfl rfl (vv_pickT rfl rfl) ?_
          refine sd_nil ?_
          have K_66 : Kz [] w2 w16 := (Kz.gr (Kz.gr (Kz.refl _ _) Gw15) Gw16)
          refine ⟨rfl, true, ?_, hm, K_66⟩
          repeat' first | exact trivial | refine ⟨rfl, ?_⟩
        ·
          replace hm := ite_f (of_decide_eq_false c15) hm
          refine sd_vv rfl rfl rfl (vv_move rfl) ?_
          refine sd_vv rfl rfl rfl (vv_fieldAddr fa_45_1 rfl) ?_
          have B67 := (Bx.gr B62 Gw16)
          refine sd_vv rfl rfl rfl (vv_load1 (v := .int .i64 p0.Depth) one_3 rfl B67 rfl) ?_
          have hb := bnd hm; clear hm; obtain ⟨n27, hn27, hm⟩ := hb
          refine sd_vv rfl rfl rfl (vv_shlI (a := 1) (b := p0.Depth) rfl rfl hn27) ?_
          refine sd_vv rfl rfl rfl (vv_geq (a := p2) (b := shlI 1 n27) rfl rfl) ?_
          refine sd_vv rfl rfl rfl (vv_pickF rfl rfl) ?_
          refine sd_nil ?_
          have K_68 : Kz [] w2 w16 := (Kz.gr (Kz.gr (Kz.refl _ _) Gw15) Gw16)
          refine ⟨rfl, (decide (shlI 1 n27 ≤ p2)), ?_, hm, K_68⟩
          repeat' first | exact trivial | refine ⟨rfl, ?_⟩
end Go.Proofs.Ytecempahccgijaa.Mx
