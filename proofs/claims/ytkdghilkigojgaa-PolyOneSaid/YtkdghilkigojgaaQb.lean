/- Walks that follow mirrors: Qb. Printed by mx.py. -/
import Derived.Test.YtkdghilkigojgaaXw
import Derived.Test.YtkdghilkigojgaaQbM
set_option linter.unusedVariables false
set_option linter.unusedSimpArgs false
set_option maxRecDepth 100000
namespace Go.Proofs.Ytkdghilkigojgaa.Mx
open Go Go.RowKit Go.Sx
theorem en_49 : En Try.prog 49 := fun _ _ => by kernel_rfl
theorem en_53 : En Try.prog 53 := fun _ _ => by kernel_rfl
theorem en_55 : En Try.prog 55 := fun _ _ => by kernel_rfl
theorem en_54 : En Try.prog 54 := fun _ _ => by kernel_rfl

set_option maxHeartbeats 2000000 in
theorem law04_PolyOne_w (p0 : TScheme) (p1 : List (BitVec 64)) (p2 : List (BitVec 64)) (vp1 : Value) (zp1 gp1 op1 : Nat) (vp2 : Value) (zp2 gp2 op2 : Nat) (r : Bool) (hm : law04_PolyOne p0 p1 p2 = some r) (w : World) (hp1 : Rd w zp1 gp1 op1 1 vp1 (p1.map uwc)) (hp2 : Rd w zp2 gp2 op2 1 vp2 (p2.map uwc))  :
    Calls Try.prog 10 [.agg (TScheme.cs p0).toArray, vp1, vp2].toArray w fun e w' => ∃ v, e = .returned v ∧ (v = .bool r ∧ Gr w w') := by
  have lt1 := hp1.lth
  have lt2 := hp2.lth
  unfold law04_PolyOne at hm
  refine calls_of_sw (R := fun v w' => v = .bool r ∧ Gr w w') 89 Try.func10 rfl rfl rfl ?_
  refine sw_seq ?_
  -- region 0 outright.go:139
  refine sw_region [(0, 0), (1, 0)] rfl rfl rfl ?_
  refine sd_ev rfl rfl rfl (ev_box (cs := TScheme.cs p0) rfl rfl) ?_
  rintro _ w1 ⟨b1, rfl, hbw1, Bw1, Gw1⟩
  have z3 := Gw1.size
  have lt4 := Bw1.lt
  refine sd_vv rfl rfl rfl (vv_assign rfl) ?_
  refine sd_done ?_
  refine sw_seq ?_
  -- region 1 outright.go:140
  refine sw_region [(0, 0), (1, 0)] rfl rfl rfl ?_
  have hb := bnd hm; clear hm; obtain ⟨x1, hx1, hm⟩ := hb
  refine sd_ev rfl rfl rfl (ev_call en_49 rfl (law04_alive_w _ hx1 _)) ?_
  rintro _ w2 ⟨rfl, Gw2⟩
  have z5 := Gw2.size
  refine sd_vv rfl rfl rfl (vv_assign rfl) ?_
  refine sd_done ?_
  refine sw_seq ?_
  have X6 : Gr w w2 := (Gr.trans (Gr.trans (Gr.refl w) Gw1) Gw2)
  refine sw_joinD (β := Bool) [15, 16, 17, 18, 19, 20, 21, 22, 23, 24, 25, 26, 27, 28, 29, 30, 31] (fun a2 => [(31, .bool a2)]) (fun a2 wr => (law04_PolyOne_J1 p0 p1 p2 x1 a2 = some r) ∧ Kz [] w2 wr) ?_ ?_
  · clear hm; rintro a2 w3 ⟨hm, Kw3⟩
    have z7 := Kw3.size
    unfold law04_PolyOne_J1 at hm
    refine sw_cond rfl (fun c1 => ?_) (fun c1 => ?_)
    ·
      replace hm := cnd_t c1 hm
      refine sw_seq ?_
      -- region 3 outright.go:142
      refine sw_region [(0, 0), (1, 0)] rfl rfl rfl ?_
      refine sd_vv rfl rfl rfl (vv_move rfl) ?_
      refine sd_vv rfl rfl rfl (vv_assign rfl) ?_
      refine sd_done ?_
      refine sw_ret ?_
      refine then_r ?_
      have X8 : Gr w w3 := (Gr.kz X6 Kw3)
      have hr := Option.some.inj hm
      subst hr
      refine ⟨_, _, rfl, res_1 rfl (rv_tmp rfl), ?_⟩
      exact ⟨rfl, X8⟩
    ·
      replace hm := cnd_f c1 hm
      refine sw_skip ?_
      refine then_n ?_
      refine sw_seq ?_
      -- region 4 outright.go:144
      refine sw_region [(0, 0)] rfl rfl rfl ?_
      refine sd_vv rfl rfl rfl (vv_assign rfl) ?_
      refine sd_done ?_
      refine sw_seq ?_
      refine sw_seq ?_
      -- region 5 outright.go:145
      refine sw_region [(0, 0)] rfl rfl rfl ?_
      refine sd_vv rfl rfl rfl (vv_assign rfl) ?_
      refine sd_done ?_
      refine sw_block ?_
      have X9 : Gr w w3 := (Gr.kz X6 Kw3)
      have B10 := (Rd.kz (Rd.gr (Rd.gr hp1 Gw1) Gw2) Kw3)
      have B11 := (Rd.kz (Rd.gr (Rd.gr hp2 Gw1) Gw2) Kw3)
      refine sw_loopD (α := Nat × List TPoint × Int × Value × Nat × Nat) [6, 8, 9, 10, 11, 33, 34, 35, 36, 37, 38, 39, 40, 41, 42, 43, 44, 45, 46, 47, 48, 49, 50, 51, 52, 53, 54, 55, 56, 57, 58, 59, 60, 61, 62, 63, 64, 65, 66, 67, 68] (fun ⟨n2, a6, a8, vy7, zy7, gy7⟩ => [(6, .bool false), (8, vy7), (9, .int .i64 a8)]) (fun ⟨n2, a6, a8, vy7, zy7, gy7⟩ wr => (fixN (law04_PolyOne_L2 p0 p1 p2 x1) n2 (a6, a8) = some r) ∧ Own wr zy7 gy7 31 2 vy7 (a6.map TPoint.cs) ∧ Hdn (zy7 = 0 ∨ w3.heap.size ≤ gy7) ∧ Kz [] w3 wr) (fun ⟨n2, a6, a8, vy7, zy7, gy7⟩ => n2) ⟨FUEL, [], 0, (.slice none 0 0), 0, 0⟩ ?_ ?_ ?_
      · repeat' first | exact trivial | refine ⟨rfl, ?_⟩
      · exact ⟨hm, (own_nil _ 0 31 2), ⟨(.inl rfl)⟩, Kz.refl _ _⟩
      · clear hm; rintro ⟨n2, a6, a8, vy7, zy7, gy7⟩ w4 ⟨hm, Fw4_0, Fw4_1, Kw4⟩
        have z12 := Kw4.size
        have lt13 := Fw4_0.lth
        have hb := fix_succ hm; clear hm; obtain ⟨n2, rfl, hm⟩ := hb
        generalize hrec2 : fixN (law04_PolyOne_L2 p0 p1 p2 x1) n2 = rec2 at hm
        unfold law04_PolyOne_L2 at hm
        try dsimp only at hm
        refine sw_seq ?_
        refine sw_seq ?_
        -- region 6 outright.go:145
        refine sw_region [(0, 0), (1, 0), (2, 0), (3, 0)] rfl rfl rfl ?_
        refine sd_vv rfl rfl rfl (vv_move rfl) ?_
        refine sd_vv rfl rfl rfl (vv_move rfl) ?_
        have B14 := (Rd.kz B11 Kw4)
        refine sd_vv rfl rfl rfl (vv_lenT (l := p2) (c := uwc) Try.underlying60 rfl B14) ?_
        refine sd_vv rfl rfl rfl (vv_lss (a := a8) (b := (p2.length : Int)) rfl rfl) ?_
        refine sd_done ?_
        refine sw_cond rfl (fun c2 => ?_) (fun c2 => ?_)
        ·
          replace hm := ite_t (of_decide_eq_true c2) hm
          refine sw_skip ?_
          refine then_n ?_
          refine sw_seq ?_
          refine sw_block ?_
          refine sw_seq ?_
          -- region 8 outright.go:146 DRAWS
          refine sw_drawN [([])] [] (.leaf [(0, 10), (1, 10), (2, 10), (3, 10), (4, 10), (5, 10), (6, 0), (7, 10), (8, 10), (9, 10), (10, 10), (11, 10)]) (by kernel_rfl) (by kernel_rfl) rfl (by kernel_rfl) ?_
          intro w5 Gw5 zw5
          refine sdz_leaf ?_
          have B15 := (Bx.gr (Bx.kz (Bx.kz (Bx.gr Bw1 Gw2) Kw3) Kw4) Gw5)
          refine dd_hn 0 rfl rfl rfl rfl (Kp.refl ([]) w5) (fun w hS => vv_loadW agg_28 rfl (Bx.kp B15 hS) rfl) ?_
          refine dd_hn 0 rfl rfl rfl rfl (Kp.refl ([]) w5) (fun w hS => vv_move rfl) ?_
          refine dd_hn 0 rfl rfl rfl rfl (Kp.refl ([]) w5) (fun w hS => vv_move rfl) ?_
          refine dd_hn 0 rfl rfl rfl rfl (Kp.refl ([]) w5) (fun w hS => vv_move rfl) ?_
          have hb := bnd hm; clear hm; obtain ⟨y9, hy9, hm⟩ := hb
          have B16 := (Rd.gr B14 Gw5)
          refine dd_hn 0 rfl rfl rfl rfl (Kp.refl ([]) w5) (fun w hS => vv_ixT (i := a8) Try.underlying60 (one_24).siz rfl (Rd.kp B16 hS) rfl hy9) ?_
          refine dd_hn 0 rfl rfl rfl rfl (Kp.refl ([]) w5) (fun w hS => vv_el1T (q := 0) (u := wv y9) one_24 rfl (Rd.kp B16 hS) hy9 (by first | rfl | omega) rfl) ?_
          have B17 := (Rd.gr (Rd.kz B10 Kw4) Gw5)
          have hb := bnd hm; clear hm; obtain ⟨x10, hx10, hm⟩ := hb
          refine dd_z [] rfl rfl rfl (ev_call en_34 rfl (poly_Value_w p0 p1 y9 _ _ _ _ _ hx10 _ B17)) ⟨fun _ => tk0, trivial⟩ ?_
          rintro _ w6 ⟨rfl, Gw6⟩
          have z18 := Gw6.size
          refine ⟨Kz.ofGr Gw6, ?_⟩
          have S19 := (Kp.gr (Kp.refl ([]) w5) Gw6)
          refine dd_hn 0 rfl rfl rfl rfl S19 (fun w hS => vv_move rfl) ?_
          refine dd_hn 0 rfl rfl rfl rfl S19 (fun w hS => vv_extract rfl rfl) ?_
          refine dd_hn 0 rfl rfl rfl rfl S19 (fun w hS => vv_extract rfl rfl) ?_
          refine dd_hn 0 rfl rfl rfl rfl S19 (fun w hS => vv_assign rfl) ?_
          refine dd_hn 0 rfl rfl rfl rfl S19 (fun w hS => vv_assign rfl) ?_
          refine sd_done ?_
          refine sw_seq ?_
          refine sw_seq ?_
          -- region 9 outright.go:147 DRAWS
          refine sw_drawN [([])] [] (.leaf [(0, 10), (1, 10), (2, 10), (3, 10), (4, 10), (5, 10), (6, 10), (7, 10), (8, 10), (9, 10), (10, 10)]) (by kernel_rfl) (by kernel_rfl) rfl (by kernel_rfl) ?_
          intro w7 Gw7 zw7
          refine sdz_leaf ?_
          refine dd_hn 0 rfl rfl rfl rfl (Kp.refl ([]) w7) (fun w hS => vv_move rfl) ?_
          refine dd_hn 0 rfl rfl rfl rfl (Kp.refl ([]) w7) (fun w hS => vv_eql (a := x10.2) (b := 0) rfl rfl) ?_
          refine dd_hn 0 rfl rfl rfl rfl (Kp.refl ([]) w7) (fun w hS => vv_move rfl) ?_
          refine dd_hn 0 rfl rfl rfl rfl (Kp.refl ([]) w7) (fun w hS => vv_move rfl) ?_
          have hb := bnd hm; clear hm; obtain ⟨y11, hy11, hm⟩ := hb
          have B20 := (Rd.gr (Rd.gr B16 Gw6) Gw7)
          refine dd_hn 0 rfl rfl rfl rfl (Kp.refl ([]) w7) (fun w hS => vv_ixT (i := a8) Try.underlying60 (one_24).siz rfl (Rd.kp B20 hS) rfl hy11) ?_
          refine dd_hn 0 rfl rfl rfl rfl (Kp.refl ([]) w7) (fun w hS => vv_el1T (q := 0) (u := wv y11) one_24 rfl (Rd.kp B20 hS) hy11 (by first | rfl | omega) rfl) ?_
          refine dd_hn 0 rfl rfl rfl rfl (Kp.refl ([]) w7) (fun w hS => vv_fieldAddr fa_28_3 rfl) ?_
          refine dd_hn 0 rfl rfl rfl rfl (Kp.refl ([]) w7) (fun w hS => vv_fieldAddr fa_26_1 rfl) ?_
          have B21 := (Bx.gr (Bx.gr B15 Gw6) Gw7)
          refine dd_hn 0 rfl rfl rfl rfl (Kp.refl ([]) w7) (fun w hS => vv_load1 (v := wv p0.Group.Q) one_24 rfl (Bx.kp B21 hS) rfl) ?_
          refine dd_hn 0 rfl rfl rfl rfl (Kp.refl ([]) w7) (fun w hS => vv_lssU (c := y11) (d := p0.Group.Q) rfl rfl) ?_
          refine dd_hn 0 rfl rfl rfl rfl (Kp.refl ([]) w7) (fun w hS => vv_neqL Try.underlying4 rfl rfl) ?_
          refine sd_done ?_
          refine sw_cond rfl (fun c3 => ?_) (fun c3 => ?_)
          ·
            replace hm := cnd_t c3 hm
            refine sw_seq ?_
            -- region 10 outright.go:148
            refine sw_region [(0, 0)] rfl rfl rfl ?_
            refine sd_vv rfl rfl rfl (vv_assign rfl) ?_
            refine sd_done ?_
            refine sw_ret ?_
            refine then_r ?_
            refine block_r ?_
            refine then_r ?_
            refine then_r ?_
            refine block_r ?_
            refine then_r ?_
            have X22 : Gr w w7 := (Gr.trans (Gr.trans (Gr.trans (Gr.kz X9 Kw4) Gw5) Gw6) Gw7)
            have hr := Option.some.inj hm
            subst hr
            refine ⟨_, _, rfl, res_1 rfl (rv_tmp rfl), ?_⟩
            exact ⟨rfl, X22⟩
          ·
            replace hm := cnd_f c3 hm
            refine sw_skip ?_
            refine then_n ?_
            -- region 11 outright.go:150
            refine sw_region [(0, 0), (1, 0), (2, 0), (3, 0), (4, 0), (5, 0), (6, 0), (7, 0), (8, 0), (9, 0)] rfl rfl rfl ?_
            refine sd_vv rfl rfl rfl (vv_move rfl) ?_
            refine sd_vv rfl rfl rfl (vv_move rfl) ?_
            refine sd_vv rfl rfl rfl (vv_move rfl) ?_
            have hb := bnd hm; clear hm; obtain ⟨y12, hy12, hm⟩ := hb
            refine sd_vv rfl rfl rfl (vv_ixT (i := a8) Try.underlying60 (one_24).siz rfl B20 rfl hy12) ?_
            refine sd_vv rfl rfl rfl (vv_el1T (q := 0) (u := wv y12) one_24 rfl B20 hy12 (by first | rfl | omega) rfl) ?_
            refine sd_vv rfl rfl rfl (vv_move rfl) ?_
            refine sd_vv rfl rfl rfl (vv_build (cs := TPoint.cs (TPoint.mk y12 x10.1)) bs_31 rfl rfl) ?_
            refine sd_ev rfl rfl rfl (ev_litT [(TPoint.mk y12 x10.1)] TPoint.cs bsl_43_1 rfl rfl (ws_of rfl) rfl rfl rfl) ?_
            rintro vw8 w8 ⟨gw8, hbw8, Ow8, Gw8⟩
            have z23 := Gw8.size
            have lt24 := Ow8.lth
            have B25 := (Own.gr (Own.gr (Own.gr (Own.gr Fw4_0 Gw5) Gw6) Gw7) Gw8)
            have hb := bnd hm; clear hm; obtain ⟨l13, hl13, hm⟩ := hb
            refine sd_ev rfl rfl rfl (ev_appT (l := a6) (m := [(TPoint.mk y12 x10.1)]) (c := TPoint.cs) apt_43 rfl rfl B25 (Own.rd Ow8) hl13 (by decide)) ?_
            rintro vw9 w9 ⟨zw9, gw9, Ow9, Aw9, qw9, rw9⟩
            have z26 := Aw9.size
            refine sd_vv rfl rfl rfl (vv_assign rfl) ?_
            refine sd_nil ?_
            refine block_n ?_
            refine then_n ?_
            -- region 7 outright.go:145
            refine sw_region [(0, 0), (1, 0), (2, 0)] rfl rfl rfl ?_
            refine sd_vv rfl rfl rfl (vv_move rfl) ?_
            refine sd_vv rfl rfl rfl (vv_add (k := .i64) (a := a8) (b := 1) rfl rfl) ?_
            refine sd_vv rfl rfl rfl (vv_assign rfl) ?_
            refine sd_nil ?_
            have K_27 : Kz [] w3 w9 := (Kz.ka (Kz.gr (Kz.gr (Kz.gr (Kz.gr Kw4 Gw5) Gw6) Gw7) Gw8) Aw9 (tk1 ((pv_0 (A := (fun x => w3.heap.size ≤ x)) Fw4_1) : zy7 = 0 ∨ w3.heap.size ≤ gy7)))
            subst hrec2
            refine ⟨rfl, ⟨n2, l13, w64 (a8 + 1), vw9, zw9, gw9⟩, ?_, ⟨hm, Ow9, ⟨(pv_app (A := (fun x => w3.heap.size ≤ x)) rw9 (pv_0 (A := (fun x => w3.heap.size ≤ x)) Fw4_1))⟩, K_27⟩, Nat.lt_succ_self _⟩
            repeat' first | exact trivial | refine ⟨rfl, ?_⟩
        ·
          replace hm := ite_f (of_decide_eq_false c2) hm
          refine sw_exit ?_
          refine then_x ?_
          refine then_x ?_
          refine block_x ?_
          refine then_n ?_
          refine sw_seq ?_
          refine sw_seq ?_
          -- region 12 outright.go:152
          refine sw_region [(0, 0), (1, 0), (2, 0), (3, 0), (4, 0), (5, 0)] rfl rfl rfl ?_
          refine sd_vv rfl rfl rfl (vv_fieldAddr fa_28_3 rfl) ?_
          refine sd_vv rfl rfl rfl (vv_fieldAddr fa_26_1 rfl) ?_
          have B28 := (Bx.kz (Bx.kz (Bx.gr Bw1 Gw2) Kw3) Kw4)
          refine sd_vv rfl rfl rfl (vv_load1 (v := wv p0.Group.Q) one_24 rfl B28 rfl) ?_
          refine sd_vv rfl rfl rfl (vv_move rfl) ?_
          have hb := bnd hm; clear hm; obtain ⟨x14, hx14, hm⟩ := hb
          refine sd_ev rfl rfl rfl (ev_call en_54 rfl (ref04_Right_w p0.Group.Q a6 _ _ _ _ _ hx14 _ (Own.rd Fw4_0))) ?_
          rintro _ w10 ⟨rfl, Gw10⟩
          have z29 := Gw10.size
          refine sd_vv rfl rfl rfl (vv_not rfl) ?_
          refine sd_done ?_
          refine sw_cond rfl (fun c4 => ?_) (fun c4 => ?_)
          ·
            replace hm := cnd_t c4 hm
            refine sw_seq ?_
            -- region 13 outright.go:153
            refine sw_region [(0, 0), (1, 0)] rfl rfl rfl ?_
            refine sd_vv rfl rfl rfl (vv_move rfl) ?_
            refine sd_vv rfl rfl rfl (vv_assign rfl) ?_
            refine sd_done ?_
            refine sw_ret ?_
            refine then_r ?_
            have X30 : Gr w w10 := (Gr.trans (Gr.kz X9 Kw4) Gw10)
            have hr := Option.some.inj hm
            subst hr
            refine ⟨_, _, rfl, res_1 rfl (rv_tmp rfl), ?_⟩
            exact ⟨rfl, X30⟩
          ·
            replace hm := cnd_f c4 hm
            refine sw_skip ?_
            refine then_n ?_
            refine sw_seq ?_
            -- region 14 outright.go:155
            refine sw_region [(0, 0), (1, 0), (2, 0), (3, 0), (4, 0), (5, 0), (6, 0), (7, 0)] rfl rfl rfl ?_
            have B31 := (Bx.gr B28 Gw10)
            refine sd_vv rfl rfl rfl (vv_loadW agg_28 rfl B31 rfl) ?_
            refine sd_vv rfl rfl rfl (vv_move rfl) ?_
            have B32 := (Own.gr Fw4_0 Gw10)
            have hb := bnd hm; clear hm; obtain ⟨x15, hx15, hm⟩ := hb
            refine sd_ev rfl rfl rfl (ev_call en_36 rfl (poly_Interpolate_w p0 a6 _ _ _ _ _ hx15 _ (Own.rd B32))) ?_
            rintro _ w11 ⟨u11_r0_s, z11_r0_s, g11_r0_s, rfl, O11_r0_s, f11_r0_s, Gw11⟩
            have z33 := Gw11.size
            have lt34 := O11_r0_s.lth
            refine sd_vv rfl rfl rfl (vv_move rfl) ?_
            refine sd_vv rfl rfl rfl (vv_extract rfl rfl) ?_
            refine sd_vv rfl rfl rfl (vv_extract rfl rfl) ?_
            refine sd_vv rfl rfl rfl (vv_assign rfl) ?_
            refine sd_vv rfl rfl rfl (vv_assign rfl) ?_
            refine sd_done ?_
            refine sw_seq ?_
            -- region 15 outright.go:156
            refine sw_region [(0, 0), (1, 0), (2, 0), (3, 0), (4, 0), (5, 0), (6, 0), (7, 0)] rfl rfl rfl ?_
            refine sd_vv rfl rfl rfl (vv_move rfl) ?_
            refine sd_split rfl rfl rfl (vv_move rfl) (fun c5 => ?_) (fun c5 => ?_)
            ·
              replace hm := cnd_t c5 hm
              refine sd_vv rfl rfl rfl (vv_move rfl) ?_
              refine sd_vv rfl rfl rfl (vv_move rfl) ?_
              refine sd_vv rfl rfl rfl (vv_move rfl) ?_
              have B35 := (Rd.gr (Rd.gr (Rd.kz B10 Kw4) Gw10) Gw11)
              have hb := bnd hm; clear hm; obtain ⟨x16, hx16, hm⟩ := hb
              refine sd_ev rfl rfl rfl (ev_call en_56 rfl (law04_words_w x15.1 x15.2 p1 _ _ _ _ _ _ _ _ _ hx16 _ (Own.rd O11_r0_s) B35)) ?_
              rintro _ w12 ⟨rfl, Gw12⟩
              have z36 := Gw12.size
              refine sd_vv rfl rfl rfl (vv_pickT rfl rfl) ?_
              refine sd_vv rfl rfl rfl (vv_assign rfl) ?_
              refine sd_done ?_
              refine sw_ret ?_
              have X37 : Gr w w12 := (Gr.trans (Gr.trans (Gr.trans (Gr.kz X9 Kw4) Gw10) Gw11) Gw12)
              have hr := Option.some.inj hm
              subst hr
              refine ⟨_, _, rfl, res_1 rfl (rv_tmp rfl), ?_⟩
              exact ⟨rfl, X37⟩
            ·
              replace hm := cnd_f c5 hm
              refine sd_skip rfl rfl rfl ?_
              refine sd_skip rfl rfl rfl ?_
              refine sd_skip rfl rfl rfl ?_
              refine sd_skip rfl rfl rfl ?_
              refine sd_vv rfl rfl rfl (vv_pickF rfl rfl) ?_
              refine sd_vv rfl rfl rfl (vv_assign rfl) ?_
              refine sd_done ?_
              refine sw_ret ?_
              have X38 : Gr w w11 := (Gr.trans (Gr.trans (Gr.kz X9 Kw4) Gw10) Gw11)
              have hr := Option.some.inj hm
              subst hr
              refine ⟨_, _, rfl, res_1 rfl (rv_tmp rfl), ?_⟩
              exact ⟨rfl, X38⟩
  ·
    -- region 2 outright.go:141
    refine sw_region [(0, 0), (1, 0), (2, 0), (3, 0), (4, 0), (5, 0), (6, 0), (7, 0), (8, 0), (9, 0), (10, 0), (11, 0), (12, 0), (13, 0), (14, 0), (15, 0), (16, 0)] rfl rfl rfl ?_
    have B39 := (Bx.gr Bw1 Gw2)
    refine sd_vv rfl rfl rfl (vv_loadW agg_28 rfl B39 rfl) ?_
    have hb := bnd hm; clear hm; obtain ⟨x17, hx17, hm⟩ := hb
    refine sd_ev rfl rfl rfl (ev_call en_53 rfl (ref04_Valid_w p0 _ hx17 _)) ?_
    rintro _ w13 ⟨rfl, Gw13⟩
    have z40 := Gw13.size
    refine sd_vv rfl rfl rfl (vv_not rfl) ?_
    refine sd_split rfl rfl rfl (vv_move rfl) (fun c6 => ?_) (fun c6 => ?_)
    ·
      replace hm := cnd_t c6 hm
      refine sd_skip rfl rfl rfl ?_
      refine sd_skip rfl rfl rfl ?_
      refine sd_skip rfl rfl rfl ?_
      refine sd_skip rfl rfl rfl ?_
      refine sd_vv rfl rfl rfl (vv_pickT rfl rfl) ?_
      refine sd_vv rfl rfl rfl (vv_move rfl) ?_
      refine sd_skip rfl rfl rfl ?_
      refine sd_skip rfl rfl rfl ?_
      refine sd_skip rfl rfl rfl ?_
      refine sd_skip rfl rfl rfl ?_
      refine sd_skip rfl rfl rfl ?_
      refine sd_skip rfl rfl rfl ?_
      refine sd_vv rfl rfl rfl (vv_pickT rfl rfl) ?_
      refine sd_nil ?_
      have K_41 : Kz [] w2 w13 := (Kz.gr (Kz.refl _ _) Gw13)
      refine ⟨rfl, true, ?_, hm, K_41⟩
      repeat' first | exact trivial | refine ⟨rfl, ?_⟩
    ·
      replace hm := cnd_f c6 hm
      have B42 := (Bx.gr B39 Gw13)
      refine sd_vv rfl rfl rfl (vv_loadW agg_28 rfl B42 rfl) ?_
      refine sd_vv rfl rfl rfl (vv_move rfl) ?_
      have B43 := (Rd.gr (Rd.gr (Rd.gr hp1 Gw1) Gw2) Gw13)
      have hb := bnd hm; clear hm; obtain ⟨x18, hx18, hm⟩ := hb
      refine sd_ev rfl rfl rfl (ev_call en_55 rfl (ref04_Polynomial_w p0 p1 _ _ _ _ _ hx18 _ B43)) ?_
      rintro _ w14 ⟨rfl, Gw14⟩
      have z44 := Gw14.size
      refine sd_vv rfl rfl rfl (vv_not rfl) ?_
      refine sd_vv rfl rfl rfl (vv_pickF rfl rfl) ?_
      refine sd_split rfl rfl rfl (vv_move rfl) (fun c7 => ?_) (fun c7 => ?_)
      ·
        replace hm := cnd_t c7 hm
        refine sd_skip rfl rfl rfl ?_
        refine sd_skip rfl rfl rfl ?_
        refine sd_skip rfl rfl rfl ?_
        refine sd_skip rfl rfl rfl ?_
        refine sd_skip rfl rfl rfl ?_
        refine sd_skip rfl rfl rfl ?_
        refine sd_vv rfl rfl rfl (vv_pickT rfl rfl) ?_
        refine sd_nil ?_
        have K_45 : Kz [] w2 w14 := (Kz.gr (Kz.gr (Kz.refl _ _) Gw13) Gw14)
        refine ⟨rfl, true, ?_, hm, K_45⟩
        repeat' first | exact trivial | refine ⟨rfl, ?_⟩
      ·
        replace hm := cnd_f c7 hm
        refine sd_vv rfl rfl rfl (vv_move rfl) ?_
        have B46 := (Rd.gr (Rd.gr (Rd.gr (Rd.gr hp2 Gw1) Gw2) Gw13) Gw14)
        refine sd_vv rfl rfl rfl (vv_lenT (l := p2) (c := uwc) Try.underlying60 rfl B46) ?_
        refine sd_vv rfl rfl rfl (vv_fieldAddr fa_28_2 rfl) ?_
        have B47 := (Bx.gr B42 Gw14)
        refine sd_vv rfl rfl rfl (vv_load1 (v := .int .i64 p0.Degree) one_3 rfl B47 rfl) ?_
        refine sd_vv rfl rfl rfl (vv_add (k := .i64) (a := p0.Degree) (b := 1) rfl rfl) ?_
        refine sd_vv rfl rfl rfl (vv_neq (a := (p2.length : Int)) (b := w64 (p0.Degree + 1)) rfl rfl) ?_
        refine sd_vv rfl rfl rfl (vv_pickF rfl rfl) ?_
        refine sd_nil ?_
        have K_48 : Kz [] w2 w14 := (Kz.gr (Kz.gr (Kz.refl _ _) Gw13) Gw14)
        refine ⟨rfl, (decide ((p2.length : Int) ≠ w64 (p0.Degree + 1))), ?_, hm, K_48⟩
        repeat' first | exact trivial | refine ⟨rfl, ?_⟩
end Go.Proofs.Ytkdghilkigojgaa.Mx
