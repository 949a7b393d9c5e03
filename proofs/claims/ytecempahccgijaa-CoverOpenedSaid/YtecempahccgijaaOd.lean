/- Walks that follow mirrors: Od. Printed by mx.py. -/
import Derived.Test.YtecempahccgijaaAl
import Derived.Test.YtecempahccgijaaOdM
set_option linter.unusedVariables false
set_option linter.unusedSimpArgs false
set_option maxRecDepth 100000
namespace Go.Proofs.Ytecempahccgijaa.Mx
open Go Go.RowKit Go.Sx
theorem en_56 : En Try.prog 56 := fun _ _ => by kernel_rfl
theorem en_59 : En Try.prog 59 := fun _ _ => by kernel_rfl
theorem en_57 : En Try.prog 57 := fun _ _ => by kernel_rfl

set_option maxHeartbeats 2000000 in
theorem law03_CoverOpened_w (p0 : W2) (p1 : TScheme) (p2 : List Int) (p3 : W2) (p4 : Int) (vp2 : Value) (zp2 gp2 op2 : Nat) (r : Bool) (hm : law03_CoverOpened p0 p1 p2 p3 p4 = some r) (w : World) (hp2 : Rd w zp2 gp2 op2 1 vp2 (p2.map ic))  :
    Calls Try.prog 12 [kv p0, .agg (TScheme.cs p1).toArray, vp2, kv p3, .int .i64 p4].toArray w fun e w' => ∃ v, e = .returned v ∧ (v = .bool r ∧ Gr w w') := by
  have lt1 := hp2.lth
  unfold law03_CoverOpened at hm
  refine calls_of_sw (R := fun v w' => v = .bool r ∧ Gr w w') 149 Try.func12 rfl rfl rfl ?_
  refine sw_seq ?_
  -- region 0 outright.go:229
  refine sw_region [(0, 0), (1, 0), (2, 0), (3, 0)] rfl rfl rfl ?_
  refine sd_ev rfl rfl rfl (ev_box (cs := kb p0) rfl rfl) ?_
  rintro _ w1 ⟨b1, rfl, hbw1, Bw1, Gw1⟩
  have z2 := Gw1.size
  have lt3 := Bw1.lt
  refine sd_ev rfl rfl rfl (ev_box (cs := TScheme.cs p1) rfl rfl) ?_
  rintro _ w2 ⟨b2, rfl, hbw2, Bw2, Gw2⟩
  have z4 := Gw2.size
  have lt5 := Bw2.lt
  refine sd_ev rfl rfl rfl (ev_box (cs := kb p3) rfl rfl) ?_
  rintro _ w3 ⟨b3, rfl, hbw3, Bw3, Gw3⟩
  have z6 := Gw3.size
  have lt7 := Bw3.lt
  refine sd_vv rfl rfl rfl (vv_assign rfl) ?_
  refine sd_done ?_
  refine sw_seq ?_
  -- region 1 outright.go:230
  refine sw_region [(0, 0), (1, 0)] rfl rfl rfl ?_
  have hb := bnd hm; clear hm; obtain ⟨x1, hx1, hm⟩ := hb
  refine sd_ev rfl rfl rfl (ev_call en_56 rfl (law03_alive_w _ hx1 _)) ?_
  rintro _ w4 ⟨rfl, Gw4⟩
  have z8 := Gw4.size
  refine sd_vv rfl rfl rfl (vv_assign rfl) ?_
  refine sd_done ?_
  refine sw_seq ?_
  have X9 : Gr w w4 := (Gr.trans (Gr.trans (Gr.trans (Gr.trans (Gr.refl w) Gw1) Gw2) Gw3) Gw4)
  refine sw_joinD (β := Bool) [25, 26, 27, 28, 29, 30, 31, 32, 33, 34, 35, 36, 37, 38, 39, 40, 41, 42, 43, 44, 45] (fun a2 => [(45, .bool a2)]) (fun a2 wr => (law03_CoverOpened_J1 p0 p1 p2 p3 p4 x1 a2 = some r) ∧ Kz [] w4 wr) ?_ ?_
  · clear hm; rintro a2 w5 ⟨hm, Kw5⟩
    have z10 := Kw5.size
    unfold law03_CoverOpened_J1 at hm
    refine sw_cond rfl (fun c1 => ?_) (fun c1 => ?_)
    ·
      replace hm := cnd_t c1 hm
      refine sw_seq ?_
      -- region 3 outright.go:232
      refine sw_region [(0, 0), (1, 0)] rfl rfl rfl ?_
      refine sd_vv rfl rfl rfl (vv_move rfl) ?_
      refine sd_vv rfl rfl rfl (vv_assign rfl) ?_
      refine sd_done ?_
      refine sw_ret ?_
      refine then_r ?_
      have X11 : Gr w w5 := (Gr.kz X9 Kw5)
      have hr := Option.some.inj hm
      subst hr
      refine ⟨_, _, rfl, res_1 rfl (rv_tmp rfl), ?_⟩
      exact ⟨rfl, X11⟩
    ·
      replace hm := cnd_f c1 hm
      refine sw_skip ?_
      refine then_n ?_
      refine sw_seq ?_
      -- region 4 outright.go:234
      refine sw_region [(0, 0), (1, 0), (2, 0), (3, 0), (4, 0), (5, 0), (6, 0), (7, 0)] rfl rfl rfl ?_
      have B12 := (Bx.kz (Bx.gr (Bx.gr Bw2 Gw3) Gw4) Kw5)
      refine sd_vv rfl rfl rfl (vv_loadW agg_45 rfl B12 rfl) ?_
      refine sd_vv rfl rfl rfl (vv_move rfl) ?_
      have B13 := (Rd.kz (Rd.gr (Rd.gr (Rd.gr (Rd.gr hp2 Gw1) Gw2) Gw3) Gw4) Kw5)
      have hb := bnd hm; clear hm; obtain ⟨x3, hx3, hm⟩ := hb
      refine sd_ev rfl rfl rfl (ev_call en_54 rfl (cover_Cover_w p1 p2 _ _ _ _ _ hx3 _ B13)) ?_
      rintro _ w6 ⟨u6_r0_s, z6_r0_s, g6_r0_s, rfl, O6_r0_s, f6_r0_s, Gw6⟩
      have z14 := Gw6.size
      have lt15 := O6_r0_s.lth
      refine sd_vv rfl rfl rfl (vv_move rfl) ?_
      refine sd_vv rfl rfl rfl (vv_extract rfl rfl) ?_
      refine sd_vv rfl rfl rfl (vv_extract rfl rfl) ?_
      refine sd_vv rfl rfl rfl (vv_assign rfl) ?_
      refine sd_vv rfl rfl rfl (vv_assign rfl) ?_
      refine sd_done ?_
      refine sw_seq ?_
      -- region 5 outright.go:235
      refine sw_region [(0, 0), (1, 0), (2, 0), (3, 0), (4, 0), (5, 0), (6, 0), (7, 0), (8, 0), (9, 0), (10, 0)] rfl rfl rfl ?_
      have B16 := (Bx.gr (Bx.kz (Bx.gr (Bx.gr (Bx.gr Bw1 Gw2) Gw3) Gw4) Kw5) Gw6)
      refine sd_vv rfl rfl rfl (vv_loadW agg_26 rfl B16 rfl) ?_
      have B17 := (Bx.gr B12 Gw6)
      refine sd_vv rfl rfl rfl (vv_loadW agg_45 rfl B17 rfl) ?_
      refine sd_vv rfl rfl rfl (vv_move rfl) ?_
      have B18 := (Bx.gr (Bx.kz (Bx.gr Bw3 Gw4) Kw5) Gw6)
      refine sd_vv rfl rfl rfl (vv_loadW agg_26 rfl B18 rfl) ?_
      have hb := bnd hm; clear hm; obtain ⟨x4, hx4, hm⟩ := hb
      refine sd_ev rfl rfl rfl (ev_call en_38 rfl (cover_Seal_w p0 p1 x3.1 p3 _ _ _ _ _ hx4 _ (Own.rd O6_r0_s))) ?_
      rintro _ w7 ⟨u7_r0_0, z7_r0_0, g7_r0_0, u7_r0_2, z7_r0_2, g7_r0_2, rfl, O7_r0_0, f7_r0_0, O7_r0_2, f7_r0_2, d7_0, Gw7⟩
      have z19 := Gw7.size
      have lt20 := O7_r0_0.lth
      have lt21 := O7_r0_2.lth
      refine sd_vv rfl rfl rfl (vv_move rfl) ?_
      refine sd_vv rfl rfl rfl (vv_extract rfl rfl) ?_
      refine sd_vv rfl rfl rfl (vv_extract rfl rfl) ?_
      refine sd_ev rfl rfl rfl (ev_alloc (cs := THeader.cs (THeader.mk [] 0#64 [] k0 k0) (.slice none 0 0) (.slice none 0 0)) zv_28 rfl) ?_
      rintro _ w8 ⟨b8, rfl, hbw8, Bw8, Gw8⟩
      have z22 := Gw8.size
      have lt23 := Bw8.lt
      have B24 := (Own.gr O7_r0_0 Gw8)
      have B25 := (Own.gr O7_r0_2 Gw8)
      refine sd_ev rfl rfl rfl (ev_stM (cs' := THeader.cs x4.1 u7_r0_0 u7_r0_2) (vs := THeader.cs x4.1 u7_r0_0 u7_r0_2) (agg_28).siz rfl rfl rfl rfl (THeader.cs_ones _ _ _ (Own.oneB B24) (Own.oneB B25)) Bw8 rfl rfl) ?_
      rintro _ w9 ⟨Bw9, Mw9⟩
      have z26 := Mw9.size
      refine sd_vv rfl rfl rfl (vv_assign rfl) ?_
      refine sd_done ?_
      refine sw_seq ?_
      -- region 6 outright.go:236
      refine sw_region [(0, 0), (1, 0), (2, 0), (3, 0), (4, 0), (5, 0), (6, 0), (7, 0), (8, 0), (9, 0)] rfl rfl rfl ?_
      have B27 := (Bx.md (Bx.gr (Bx.gr B16 Gw7) Gw8) Mw9)
      refine sd_vv rfl rfl rfl (vv_loadW agg_26 rfl B27 rfl) ?_
      have B28 := (Bx.md (Bx.gr (Bx.gr B17 Gw7) Gw8) Mw9)
      refine sd_vv rfl rfl rfl (vv_loadW agg_45 rfl B28 rfl) ?_
      refine sd_vv rfl rfl rfl (vv_move rfl) ?_
      have hb := bnd hm; clear hm; obtain ⟨x5, hx5, hm⟩ := hb
      refine sd_ev rfl rfl rfl (ev_call en_40 rfl (cover_Secret_w p0 p1 p4 _ hx5 _)) ?_
      rintro _ w10 ⟨u10_r0_1, z10_r0_1, g10_r0_1, rfl, O10_r0_1, f10_r0_1, Gw10⟩
      have z29 := Gw10.size
      have lt30 := O10_r0_1.lth
      refine sd_vv rfl rfl rfl (vv_move rfl) ?_
      refine sd_vv rfl rfl rfl (vv_extract rfl rfl) ?_
      refine sd_vv rfl rfl rfl (vv_extract rfl rfl) ?_
      refine sd_ev rfl rfl rfl (ev_alloc (cs := TSecret.cs (TSecret.mk 0 [] (TPoint.mk 0#64 0#64)) (.slice none 0 0)) zv_74 rfl) ?_
      rintro _ w11 ⟨b11, rfl, hbw11, Bw11, Gw11⟩
      have z31 := Gw11.size
      have lt32 := Bw11.lt
      have B33 := (Own.gr O10_r0_1 Gw11)
      refine sd_ev rfl rfl rfl (ev_stM (cs' := TSecret.cs x5.1 u10_r0_1) (vs := TSecret.cs x5.1 u10_r0_1) (agg_74).siz rfl rfl rfl rfl (TSecret.cs_ones _ _ (Own.oneB B33)) Bw11 rfl rfl) ?_
      rintro _ w12 ⟨Bw12, Mw12⟩
      have z34 := Mw12.size
      refine sd_vv rfl rfl rfl (vv_assign rfl) ?_
      refine sd_done ?_
      refine sw_seq ?_
      -- region 7 outright.go:237
      refine sw_region [(0, 0), (1, 0), (2, 0), (3, 0), (4, 0), (5, 0), (6, 0), (7, 0), (8, 0), (9, 0)] rfl rfl rfl ?_
      have B35 := (Bx.md (Bx.gr (Bx.gr B28 Gw10) Gw11) Mw12)
      refine sd_vv rfl rfl rfl (vv_loadW agg_45 rfl B35 rfl) ?_
      refine sd_vv rfl rfl rfl (vv_loadW agg_74 rfl Bw12 rfl) ?_
      have B36 := (Bx.md (Bx.gr (Bx.gr Bw9 Gw10) Gw11) Mw12)
      refine sd_vv rfl rfl rfl (vv_loadW agg_28 rfl B36 rfl) ?_
      have B37 := (Own.md B33 Mw12 (tk1 ((pv_lt (A := (fun x => x ≠ b11)) lt30) : z10_r0_1 = 0 ∨ g10_r0_1 ≠ b11)))
      have B38 := (Own.md (Own.gr (Own.gr (Own.md B24 Mw9 (tk1 ((pv_lt (A := (fun x => x ≠ b8)) lt20) : z7_r0_0 = 0 ∨ g7_r0_0 ≠ b8))) Gw10) Gw11) Mw12 (tk1 ((pv_lt (A := (fun x => x ≠ b11)) lt20) : z7_r0_0 = 0 ∨ g7_r0_0 ≠ b11)))
      have B39 := (Own.md (Own.gr (Own.gr (Own.md B25 Mw9 (tk1 ((pv_lt (A := (fun x => x ≠ b8)) lt21) : z7_r0_2 = 0 ∨ g7_r0_2 ≠ b8))) Gw10) Gw11) Mw12 (tk1 ((pv_lt (A := (fun x => x ≠ b11)) lt21) : z7_r0_2 = 0 ∨ g7_r0_2 ≠ b11)))
      have hb := bnd hm; clear hm; obtain ⟨x6, hx6, hm⟩ := hb
      refine sd_ev rfl rfl rfl (ev_call en_44 rfl (cover_Open_w p1 x5.1 x4.1 _ _ _ _ _ _ _ _ _ _ _ _ _ hx6 _ (Own.rd B37) (Own.rd B38) (Own.rd B39))) ?_
      rintro _ w13 ⟨rfl, Gw13⟩
      have z40 := Gw13.size
      refine sd_vv rfl rfl rfl (vv_move rfl) ?_
      refine sd_vv rfl rfl rfl (vv_extract rfl rfl) ?_
      refine sd_vv rfl rfl rfl (vv_extract rfl rfl) ?_
      refine sd_ev rfl rfl rfl (ev_alloc (cs := kb k0) zv_26 rfl) ?_
      rintro _ w14 ⟨b14, rfl, hbw14, Bw14, Gw14⟩
      have z41 := Gw14.size
      have lt42 := Bw14.lt
      refine sd_ev rfl rfl rfl (ev_stM (cs' := kb x6.1) (vs := kb x6.1) (agg_26).siz rfl rfl rfl rfl rfl Bw14 rfl rfl) ?_
      rintro _ w15 ⟨Bw15, Mw15⟩
      have z43 := Mw15.size
      refine sd_vv rfl rfl rfl (vv_assign rfl) ?_
      refine sd_done ?_
      refine sw_seq ?_
      have X44 : Gr w w15 := (Gr.md (Gr.trans (Gr.trans (Gr.md (Gr.trans (Gr.trans (Gr.md (Gr.trans (Gr.trans (Gr.trans (Gr.kz X9 Kw5) Gw6) Gw7) Gw8) Mw9) Gw10) Gw11) Mw12) Gw13) Gw14) Mw15)
      refine sw_joinD (β := Bool) [75, 76, 77, 78, 79, 80, 81, 82, 83, 84, 85, 86, 87, 88, 89, 90, 91, 92] (fun a7 => [(92, .bool a7)]) (fun a7 wr => (law03_CoverOpened_J2 p1 p2 p3 p4 x1 x4 x6 a7 = some r) ∧ Kz [] w15 wr) ?_ ?_
      · clear hm; rintro a7 w16 ⟨hm, Kw16⟩
        have z45 := Kw16.size
        unfold law03_CoverOpened_J2 at hm
        refine sw_cond rfl (fun c2 => ?_) (fun c2 => ?_)
        ·
          replace hm := cnd_t c2 hm
          refine sw_seq ?_
          -- region 9 outright.go:239
          refine sw_region [(0, 0)] rfl rfl rfl ?_
          refine sd_vv rfl rfl rfl (vv_assign rfl) ?_
          refine sd_done ?_
          refine sw_ret ?_
          refine then_r ?_
          have X46 : Gr w w16 := (Gr.kz X44 Kw16)
          have hr := Option.some.inj hm
          subst hr
          refine ⟨_, _, rfl, res_1 rfl (rv_tmp rfl), ?_⟩
          exact ⟨rfl, X46⟩
        ·
          replace hm := cnd_f c2 hm
          refine sw_skip ?_
          refine then_n ?_
          refine sw_seq ?_
          refine sw_seq ?_
          -- region 10 outright.go:241
          refine sw_region [(0, 0)] rfl rfl rfl ?_
          refine sd_vv rfl rfl rfl (vv_assign rfl) ?_
          refine sd_done ?_
          refine sw_block ?_
          have X47 : Gr w w16 := (Gr.kz X44 Kw16)
          have B48 := (Rd.kz (Rd.md (Rd.gr (Rd.gr (Rd.md (Rd.gr (Rd.gr (Rd.md (Rd.gr (Rd.gr (Rd.gr B13 Gw6) Gw7) Gw8) Mw9 (tk1 ((pv_lt (A := (fun x => x ≠ b8)) lt1) : zp2 = 0 ∨ gp2 ≠ b8))) Gw10) Gw11) Mw12 (tk1 ((pv_lt (A := (fun x => x ≠ b11)) lt1) : zp2 = 0 ∨ gp2 ≠ b11))) Gw13) Gw14) Mw15 (tk1 ((pv_lt (A := (fun x => x ≠ b14)) lt1) : zp2 = 0 ∨ gp2 ≠ b14))) Kw16)
          have B49 := (Own.kz (Own.md (Own.gr (Own.gr (Own.md (Own.gr (Own.gr (Own.md (Own.gr (Own.gr O6_r0_s Gw7) Gw8) Mw9 (tk1 ((pv_lt (A := (fun x => x ≠ b8)) lt15) : z6_r0_s = 0 ∨ g6_r0_s ≠ b8))) Gw10) Gw11) Mw12 (tk1 ((pv_lt (A := (fun x => x ≠ b11)) lt15) : z6_r0_s = 0 ∨ g6_r0_s ≠ b11))) Gw13) Gw14) Mw15 (tk1 ((pv_lt (A := (fun x => x ≠ b14)) lt15) : z6_r0_s = 0 ∨ g6_r0_s ≠ b14))) Kw16)
          have B50 := (Own.kz (Own.md (Own.gr (Own.gr B38 Gw13) Gw14) Mw15 (tk1 ((pv_lt (A := (fun x => x ≠ b14)) lt20) : z7_r0_0 = 0 ∨ g7_r0_0 ≠ b14))) Kw16)
          have B51 := (Own.kz (Own.md (Own.gr (Own.gr B39 Gw13) Gw14) Mw15 (tk1 ((pv_lt (A := (fun x => x ≠ b14)) lt21) : z7_r0_2 = 0 ∨ g7_r0_2 ≠ b14))) Kw16)
          have B52 := (Own.kz (Own.md (Own.gr (Own.gr B37 Gw13) Gw14) Mw15 (tk1 ((pv_lt (A := (fun x => x ≠ b14)) lt30) : z10_r0_1 = 0 ∨ g10_r0_1 ≠ b14))) Kw16)
          refine sw_loopD (α := Nat × Int) [10, 20, 21, 22, 93, 94, 95, 96, 97, 98, 99, 100, 101, 102, 103, 104, 105, 106, 107, 108, 109, 110, 111, 112, 113, 114, 115, 116] (fun ⟨n3, a9⟩ => [(10, .bool false), (20, .int .i64 a9)]) (fun ⟨n3, a9⟩ wr => (fixN (law03_CoverOpened_L3 p1 p2 p3 p4 x1 x4 x6) n3 a9 = some r) ∧ Kz [] w16 wr) (fun ⟨n3, a9⟩ => n3) ⟨FUEL, 0⟩ ?_ ?_ ?_
          · repeat' first | exact trivial | refine ⟨rfl, ?_⟩
          · exact ⟨hm, Kz.refl _ _⟩
          · clear hm; rintro ⟨n3, a9⟩ w17 ⟨hm, Kw17⟩
            have z53 := Kw17.size
            have hb := fix_succ hm; clear hm; obtain ⟨n3, rfl, hm⟩ := hb
            generalize hrec3 : fixN (law03_CoverOpened_L3 p1 p2 p3 p4 x1 x4 x6) n3 = rec3 at hm
            unfold law03_CoverOpened_L3 at hm
            try dsimp only at hm
            refine sw_seq ?_
            refine sw_seq ?_
            -- region 11 outright.go:241
            refine sw_region [(0, 0), (1, 0), (2, 0), (3, 0), (4, 0)] rfl rfl rfl ?_
            refine sd_vv rfl rfl rfl (vv_move rfl) ?_
            refine sd_vv rfl rfl rfl (vv_fieldAddr fa_28_0 rfl) ?_
            have B54 := (Bx.kz (Bx.kz (Bx.md (Bx.gr (Bx.gr B36 Gw13) Gw14) Mw15) Kw16) Kw17)
            refine sd_vv rfl rfl rfl (vv_load1 (v := u7_r0_0) one_22 rfl B54 rfl) ?_
            have B55 := (Own.kz B50 Kw17)
            refine sd_vv rfl rfl rfl (vv_lenT (l := x4.1.Items) (c := TItem.cs) Try.underlying22 rfl (Own.rd B55)) ?_
            refine sd_vv rfl rfl rfl (vv_lss (a := a9) (b := (x4.1.Items.length : Int)) rfl rfl) ?_
            refine sd_done ?_
            refine sw_cond rfl (fun c3 => ?_) (fun c3 => ?_)
            ·
              replace hm := ite_t (of_decide_eq_true c3) hm
              refine sw_skip ?_
              refine then_n ?_
              refine sw_seq ?_
              refine sw_block ?_
              refine sw_seq ?_
              -- region 13 outright.go:242 DRAWS
              refine sw_drawN [([])] [] (.leaf [(0, 10), (1, 10), (2, 10), (3, 10), (4, 10), (5, 10), (6, 10), (7, 10), (8, 0), (9, 10), (10, 10), (11, 10), (12, 10), (13, 10)]) (by kernel_rfl) (by kernel_rfl) rfl (by kernel_rfl) ?_
              intro w18 Gw18 zw18
              refine sdz_leaf ?_
              have B56 := (Bx.gr (Bx.kz (Bx.kz (Bx.md (Bx.gr (Bx.gr B35 Gw13) Gw14) Mw15) Kw16) Kw17) Gw18)
              refine dd_hn 0 rfl rfl rfl rfl (Kp.refl ([]) w18) (fun w hS => vv_loadW agg_45 rfl (Bx.kp B56 hS) rfl) ?_
              refine dd_hn 0 rfl rfl rfl rfl (Kp.refl ([]) w18) (fun w hS => vv_move rfl) ?_
              refine dd_hn 0 rfl rfl rfl rfl (Kp.refl ([]) w18) (fun w hS => vv_fieldAddr fa_28_0 rfl) ?_
              have B57 := (Bx.gr B54 Gw18)
              refine dd_hn 0 rfl rfl rfl rfl (Kp.refl ([]) w18) (fun w hS => vv_load1 (v := u7_r0_0) one_22 rfl (Bx.kp B57 hS) rfl) ?_
              refine dd_hn 0 rfl rfl rfl rfl (Kp.refl ([]) w18) (fun w hS => vv_move rfl) ?_
              have hb := bnd hm; clear hm; obtain ⟨y10, hy10, hm⟩ := hb
              have B58 := (Own.gr B55 Gw18)
              refine dd_hn 0 rfl rfl rfl rfl (Kp.refl ([]) w18) (fun w hS => vv_ixT (i := a9) Try.underlying22 (agg_108).siz rfl (Own.rd (Own.kp B58 hS)) rfl hy10) ?_
              refine dd_hn 0 rfl rfl rfl rfl (Kp.refl ([]) w18) (fun w hS => vv_fieldAddr fa_108_0 rfl) ?_
              refine dd_hn 0 rfl rfl rfl rfl (Kp.refl ([]) w18) (fun w hS => vv_elMT (q := 0) (vs := TSubset.cs y10.Subset) agg_47 rfl (Own.rd (Own.kp B58 hS)) hy10 (by first | rfl | omega) rfl rfl) ?_
              have B59 := (Rd.gr (Rd.kz B48 Kw17) Gw18)
              have hb := bnd hm; clear hm; obtain ⟨x11, hx11, hm⟩ := hb
              refine dd_z [] rfl rfl rfl (ev_call en_52 rfl (cover_Knows_w p1 p2 y10.Subset _ _ _ _ _ hx11 _ B59)) ⟨fun _ => tk0, trivial⟩ ?_
              rintro _ w19 ⟨rfl, Gw19⟩
              have z60 := Gw19.size
              refine ⟨Kz.ofGr Gw19, ?_⟩
              have S61 := (Kp.gr (Kp.refl ([]) w18) Gw19)
              refine dd_hn 0 rfl rfl rfl rfl S61 (fun w hS => vv_move rfl) ?_
              refine dd_hn 0 rfl rfl rfl rfl S61 (fun w hS => vv_extract rfl rfl) ?_
              refine dd_hn 0 rfl rfl rfl rfl S61 (fun w hS => vv_extract rfl rfl) ?_
              refine dd_hn 0 rfl rfl rfl rfl S61 (fun w hS => vv_assign rfl) ?_
              refine dd_hn 0 rfl rfl rfl rfl S61 (fun w hS => vv_assign rfl) ?_
              refine sd_done ?_
              have X62 : Gr w w19 := (Gr.trans (Gr.trans (Gr.kz X47 Kw17) Gw18) Gw19)
              refine sw_joinD (β := Bool) [112, 113, 114, 115, 116] (fun a12 => [(116, .bool a12)]) (fun a12 wr => (law03_CoverOpened_J4 a9 rec3 a12 = some r) ∧ Kz [] w19 wr) ?_ ?_
              · clear hm; rintro a12 w20 ⟨hm, Kw20⟩
                have z63 := Kw20.size
                unfold law03_CoverOpened_J4 at hm
                refine sw_cond rfl (fun c4 => ?_) (fun c4 => ?_)
                ·
                  replace hm := cnd_t c4 hm
                  refine sw_seq ?_
                  -- region 15 outright.go:244
                  refine sw_region [(0, 0)] rfl rfl rfl ?_
                  refine sd_vv rfl rfl rfl (vv_assign rfl) ?_
                  refine sd_done ?_
                  refine sw_ret ?_
                  refine block_r ?_
                  refine then_r ?_
                  refine then_r ?_
                  refine block_r ?_
                  refine then_r ?_
                  have X64 : Gr w w20 := (Gr.kz X62 Kw20)
                  have hr := Option.some.inj hm
                  subst hr
                  refine ⟨_, _, rfl, res_1 rfl (rv_tmp rfl), ?_⟩
                  exact ⟨rfl, X64⟩
                ·
                  replace hm := cnd_f c4 hm
                  refine sw_skip ?_
                  refine block_n ?_
                  refine then_n ?_
                  -- region 12 outright.go:241
                  refine sw_region [(0, 0), (1, 0), (2, 0)] rfl rfl rfl ?_
                  refine sd_vv rfl rfl rfl (vv_move rfl) ?_
                  refine sd_vv rfl rfl rfl (vv_add (k := .i64) (a := a9) (b := 1) rfl rfl) ?_
                  refine sd_vv rfl rfl rfl (vv_assign rfl) ?_
                  refine sd_nil ?_
                  have K_65 : Kz [] w16 w20 := (Kz.kz (Kz.gr (Kz.gr Kw17 Gw18) Gw19) Kw20)
                  subst hrec3
                  refine ⟨rfl, ⟨n3, w64 (a9 + 1)⟩, ?_, ⟨hm, K_65⟩, Nat.lt_succ_self _⟩
                  repeat' first | exact trivial | refine ⟨rfl, ?_⟩
              ·
                -- region 14 outright.go:243
                refine sw_region [(0, 0), (1, 0), (2, 0), (3, 0), (4, 0)] rfl rfl rfl ?_
                refine sd_vv rfl rfl rfl (vv_move rfl) ?_
                refine sd_vv rfl rfl rfl (vv_neq (a := x11.2) (b := 0) rfl rfl) ?_
                refine sd_split rfl rfl rfl (vv_move rfl) (fun c5 => ?_) (fun c5 => ?_)
                ·
                  replace hm := ite_t (of_decide_eq_true c5) hm
                  refine sd_skip rfl rfl rfl ?_
                  refine sd_vv rfl rfl rfl (vv_pickT rfl rfl) ?_
                  refine sd_nil ?_
                  have K_66 : Kz [] w19 w19 := (Kz.refl _ _)
                  refine ⟨rfl, true, ?_, hm, K_66⟩
                  repeat' first | exact trivial | refine ⟨rfl, ?_⟩
                ·
                  replace hm := ite_f (of_decide_eq_false c5) hm
                  refine sd_vv rfl rfl rfl (vv_move rfl) ?_
                  refine sd_vv rfl rfl rfl (vv_pickF rfl rfl) ?_
                  refine sd_nil ?_
                  have K_67 : Kz [] w19 w19 := (Kz.refl _ _)
                  refine ⟨rfl, x11.1, ?_, hm, K_67⟩
                  repeat' first | exact trivial | refine ⟨rfl, ?_⟩
            ·
              replace hm := ite_f (of_decide_eq_false c3) hm
              refine sw_exit ?_
              refine then_x ?_
              refine then_x ?_
              refine block_x ?_
              refine then_n ?_
              refine sw_seq ?_
              refine sw_seq ?_
              -- region 16 outright.go:247
              refine sw_region [(0, 0)] rfl rfl rfl ?_
              refine sd_vv rfl rfl rfl (vv_assign rfl) ?_
              refine sd_done ?_
              refine sw_block ?_
              have X68 : Gr w w17 := (Gr.kz X47 Kw17)
              have B69 := (Rd.kz B48 Kw17)
              have B70 := (Own.kz B49 Kw17)
              have B71 := (Own.kz B51 Kw17)
              have B72 := (Own.kz B52 Kw17)
              refine sw_loopD (α := Nat × Int) [10, 23, 117, 118, 119, 120, 121, 122, 123, 124, 125, 126, 127, 128, 129, 130, 131, 132, 133, 134, 135, 136, 137, 138] (fun ⟨n5, a14⟩ => [(10, .bool false), (23, .int .i64 a14)]) (fun ⟨n5, a14⟩ wr => (fixN (law03_CoverOpened_L5 p2 p3 p4 x1 x6) n5 a14 = some r) ∧ Kz [] w17 wr) (fun ⟨n5, a14⟩ => n5) ⟨FUEL, 0⟩ ?_ ?_ ?_
              · repeat' first | exact trivial | refine ⟨rfl, ?_⟩
              · exact ⟨hm, Kz.refl _ _⟩
              · clear hm; rintro ⟨n5, a14⟩ w21 ⟨hm, Kw21⟩
                have z73 := Kw21.size
                have hb := fix_succ hm; clear hm; obtain ⟨n5, rfl, hm⟩ := hb
                generalize hrec5 : fixN (law03_CoverOpened_L5 p2 p3 p4 x1 x6) n5 = rec5 at hm
                unfold law03_CoverOpened_L5 at hm
                try dsimp only at hm
                refine sw_seq ?_
                refine sw_seq ?_
                -- region 17 outright.go:247
                refine sw_region [(0, 0), (1, 0), (2, 0), (3, 0)] rfl rfl rfl ?_
                refine sd_vv rfl rfl rfl (vv_move rfl) ?_
                refine sd_vv rfl rfl rfl (vv_move rfl) ?_
                have B74 := (Rd.kz B69 Kw21)
                refine sd_vv rfl rfl rfl (vv_lenT (l := p2) (c := ic) Try.underlying61 rfl B74) ?_
                refine sd_vv rfl rfl rfl (vv_lss (a := a14) (b := (p2.length : Int)) rfl rfl) ?_
                refine sd_done ?_
                refine sw_cond rfl (fun c6 => ?_) (fun c6 => ?_)
                ·
                  replace hm := ite_t (of_decide_eq_true c6) hm
                  refine sw_skip ?_
                  refine then_n ?_
                  refine sw_seq ?_
                  refine sw_block ?_
                  refine sw_seq ?_
                  -- region 19 outright.go:248
                  refine sw_region [(0, 0), (1, 0), (2, 0), (3, 0), (4, 0), (5, 0)] rfl rfl rfl ?_
                  refine sd_vv rfl rfl rfl (vv_move rfl) ?_
                  refine sd_vv rfl rfl rfl (vv_move rfl) ?_
                  have hb := bnd hm; clear hm; obtain ⟨y15, hy15, hm⟩ := hb
                  refine sd_vv rfl rfl rfl (vv_ixT (i := a14) Try.underlying61 (one_3).siz rfl B74 rfl hy15) ?_
                  refine sd_vv rfl rfl rfl (vv_el1T (q := 0) (u := .int .i64 y15) one_3 rfl B74 hy15 (by first | rfl | omega) rfl) ?_
                  refine sd_vv rfl rfl rfl (vv_move rfl) ?_
                  refine sd_vv rfl rfl rfl (vv_eql (a := y15) (b := p4) rfl rfl) ?_
                  refine sd_done ?_
                  refine sw_cond rfl (fun c7 => ?_) (fun c7 => ?_)
                  ·
                    replace hm := ite_t (of_decide_eq_true c7) hm
                    refine sw_seq ?_
                    -- region 20 outright.go:249
                    refine sw_region [(0, 0), (1, 0), (2, 0), (3, 0), (4, 0), (5, 0), (6, 0), (7, 0), (8, 0), (9, 0), (10, 0)] rfl rfl rfl ?_
                    refine sd_vv rfl rfl rfl (vv_move rfl) ?_
                    refine sd_split rfl rfl rfl (vv_move rfl) (fun c8 => ?_) (fun c8 => ?_)
                    ·
                      replace hm := cnd_t c8 hm
                      refine sd_vv rfl rfl rfl (vv_move rfl) ?_
                      refine sd_vv rfl rfl rfl (vv_eql (a := x6.2) (b := 6) rfl rfl) ?_
                      refine sd_vv rfl rfl rfl (vv_pickT rfl rfl) ?_
                      refine sd_split rfl rfl rfl (vv_move rfl) (fun c9 => ?_) (fun c9 => ?_)
                      ·
                        replace hm := ite_t (of_decide_eq_true c9) hm
                        have B75 := (Bx.kz (Bx.kz (Bx.kz Bw15 Kw16) Kw17) Kw21)
                        refine sd_vv rfl rfl rfl (vv_loadW agg_26 rfl B75 rfl) ?_
                        refine sd_vv rfl rfl rfl (vv_buildZ bz_26) ?_
                        refine sd_vv rfl rfl rfl (vv_eqlS (cf := kb) (a := x6.1) (b := k0) eqt_26 rfl rfl rfl rfl (fun h => kb_inj h)) ?_
                        refine sd_vv rfl rfl rfl (vv_pickT rfl rfl) ?_
                        refine sd_vv rfl rfl rfl (vv_assign rfl) ?_
                        refine sd_done ?_
                        refine sw_ret ?_
                        refine block_r ?_
                        refine then_r ?_
                        refine then_r ?_
                        refine block_r ?_
                        refine then_r ?_
                        have X76 : Gr w w21 := (Gr.kz X68 Kw21)
                        have hr := Option.some.inj hm
                        subst hr
                        refine ⟨_, _, rfl, res_1 rfl (rv_tmp rfl), ?_⟩
                        exact ⟨rfl, X76⟩
                      ·
                        replace hm := ite_f (of_decide_eq_false c9) hm
                        refine sd_skip rfl rfl rfl ?_
                        refine sd_skip rfl rfl rfl ?_
                        refine sd_skip rfl rfl rfl ?_
                        refine sd_vv rfl rfl rfl (vv_pickF rfl rfl) ?_
                        refine sd_vv rfl rfl rfl (vv_assign rfl) ?_
                        refine sd_done ?_
                        refine sw_ret ?_
                        refine block_r ?_
                        refine then_r ?_
                        refine then_r ?_
                        refine block_r ?_
                        refine then_r ?_
                        have X77 : Gr w w21 := (Gr.kz X68 Kw21)
                        have hr := Option.some.inj hm
                        subst hr
                        refine ⟨_, _, rfl, res_1 rfl (rv_tmp rfl), ?_⟩
                        exact ⟨rfl, X77⟩
                    ·
                      replace hm := cnd_f c8 hm
                      refine sd_skip rfl rfl rfl ?_
                      refine sd_skip rfl rfl rfl ?_
                      refine sd_vv rfl rfl rfl (vv_pickF rfl rfl) ?_
                      refine sd_vv rfl rfl rfl (vv_move rfl) ?_
                      refine sd_skip rfl rfl rfl ?_
                      refine sd_skip rfl rfl rfl ?_
                      refine sd_skip rfl rfl rfl ?_
                      refine sd_vv rfl rfl rfl (vv_pickF rfl rfl) ?_
                      refine sd_vv rfl rfl rfl (vv_assign rfl) ?_
                      refine sd_done ?_
                      refine sw_ret ?_
                      refine block_r ?_
                      refine then_r ?_
                      refine then_r ?_
                      refine block_r ?_
                      refine then_r ?_
                      have X78 : Gr w w21 := (Gr.kz X68 Kw21)
                      have hr := Option.some.inj hm
                      subst hr
                      refine ⟨_, _, rfl, res_1 rfl (rv_tmp rfl), ?_⟩
                      exact ⟨rfl, X78⟩
                  ·
                    replace hm := ite_f (of_decide_eq_false c7) hm
                    refine sw_skip ?_
                    refine block_n ?_
                    refine then_n ?_
                    -- region 18 outright.go:247
                    refine sw_region [(0, 0), (1, 0), (2, 0)] rfl rfl rfl ?_
                    refine sd_vv rfl rfl rfl (vv_move rfl) ?_
                    refine sd_vv rfl rfl rfl (vv_add (k := .i64) (a := a14) (b := 1) rfl rfl) ?_
                    refine sd_vv rfl rfl rfl (vv_assign rfl) ?_
                    refine sd_nil ?_
                    have K_79 : Kz [] w17 w21 := Kw21
                    subst hrec5
                    refine ⟨rfl, ⟨n5, w64 (a14 + 1)⟩, ?_, ⟨hm, K_79⟩, Nat.lt_succ_self _⟩
                    repeat' first | exact trivial | refine ⟨rfl, ?_⟩
                ·
                  replace hm := ite_f (of_decide_eq_false c6) hm
                  refine sw_exit ?_
                  refine then_x ?_
                  refine then_x ?_
                  refine block_x ?_
                  refine then_n ?_
                  refine sw_seq ?_
                  -- region 21 outright.go:252
                  refine sw_region [(0, 0), (1, 0), (2, 0), (3, 0), (4, 0), (5, 0), (6, 0), (7, 0), (8, 0), (9, 0), (10, 0)] rfl rfl rfl ?_
                  refine sd_vv rfl rfl rfl (vv_move rfl) ?_
                  refine sd_split rfl rfl rfl (vv_move rfl) (fun c10 => ?_) (fun c10 => ?_)
                  ·
                    replace hm := cnd_t c10 hm
                    refine sd_vv rfl rfl rfl (vv_move rfl) ?_
                    refine sd_vv rfl rfl rfl (vv_eql (a := x6.2) (b := 0) rfl rfl) ?_
                    refine sd_vv rfl rfl rfl (vv_pickT rfl rfl) ?_
                    refine sd_split rfl rfl rfl (vv_move rfl) (fun c11 => ?_) (fun c11 => ?_)
                    ·
                      replace hm := ite_t (of_decide_eq_true c11) hm
                      have B80 := (Bx.kz (Bx.kz (Bx.kz Bw15 Kw16) Kw17) Kw21)
                      refine sd_vv rfl rfl rfl (vv_loadW agg_26 rfl B80 rfl) ?_
                      have B81 := (Bx.kz (Bx.kz (Bx.kz (Bx.md (Bx.gr (Bx.gr (Bx.md (Bx.gr (Bx.gr (Bx.md (Bx.gr (Bx.gr B18 Gw7) Gw8) Mw9) Gw10) Gw11) Mw12) Gw13) Gw14) Mw15) Kw16) Kw17) Kw21)
                      refine sd_vv rfl rfl rfl (vv_loadW agg_26 rfl B81 rfl) ?_
                      refine sd_vv rfl rfl rfl (vv_eqlS (cf := kb) (a := x6.1) (b := p3) eqt_26 rfl rfl rfl rfl (fun h => kb_inj h)) ?_
                      refine sd_vv rfl rfl rfl (vv_pickT rfl rfl) ?_
                      refine sd_vv rfl rfl rfl (vv_assign rfl) ?_
                      refine sd_done ?_
                      refine sw_ret ?_
                      have X82 : Gr w w21 := (Gr.kz X68 Kw21)
                      have hr := Option.some.inj hm
                      subst hr
                      refine ⟨_, _, rfl, res_1 rfl (rv_tmp rfl), ?_⟩
                      exact ⟨rfl, X82⟩
                    ·
                      replace hm := ite_f (of_decide_eq_false c11) hm
                      refine sd_skip rfl rfl rfl ?_
                      refine sd_skip rfl rfl rfl ?_
                      refine sd_skip rfl rfl rfl ?_
                      refine sd_vv rfl rfl rfl (vv_pickF rfl rfl) ?_
                      refine sd_vv rfl rfl rfl (vv_assign rfl) ?_
                      refine sd_done ?_
                      refine sw_ret ?_
                      have X83 : Gr w w21 := (Gr.kz X68 Kw21)
                      have hr := Option.some.inj hm
                      subst hr
                      refine ⟨_, _, rfl, res_1 rfl (rv_tmp rfl), ?_⟩
                      exact ⟨rfl, X83⟩
                  ·
                    replace hm := cnd_f c10 hm
                    refine sd_skip rfl rfl rfl ?_
                    refine sd_skip rfl rfl rfl ?_
                    refine sd_vv rfl rfl rfl (vv_pickF rfl rfl) ?_
                    refine sd_vv rfl rfl rfl (vv_move rfl) ?_
                    refine sd_skip rfl rfl rfl ?_
                    refine sd_skip rfl rfl rfl ?_
                    refine sd_skip rfl rfl rfl ?_
                    refine sd_vv rfl rfl rfl (vv_pickF rfl rfl) ?_
                    refine sd_vv rfl rfl rfl (vv_assign rfl) ?_
                    refine sd_done ?_
                    refine sw_ret ?_
                    have X84 : Gr w w21 := (Gr.kz X68 Kw21)
                    have hr := Option.some.inj hm
                    subst hr
                    refine ⟨_, _, rfl, res_1 rfl (rv_tmp rfl), ?_⟩
                    exact ⟨rfl, X84⟩
      ·
        -- region 8 outright.go:238
        refine sw_region [(0, 0), (1, 0), (2, 0), (3, 0), (4, 0), (5, 0), (6, 0), (7, 0), (8, 0), (9, 0), (10, 0), (11, 0), (12, 0), (13, 0), (14, 0), (15, 0), (16, 0), (17, 0)] rfl rfl rfl ?_
        refine sd_vv rfl rfl rfl (vv_move rfl) ?_
        refine sd_vv rfl rfl rfl (vv_neq (a := x3.2) (b := 0) rfl rfl) ?_
        refine sd_split rfl rfl rfl (vv_move rfl) (fun c12 => ?_) (fun c12 => ?_)
        ·
          replace hm := ite_t (of_decide_eq_true c12) hm
          refine sd_skip rfl rfl rfl ?_
          refine sd_skip rfl rfl rfl ?_
          refine sd_vv rfl rfl rfl (vv_pickT rfl rfl) ?_
          refine sd_vv rfl rfl rfl (vv_move rfl) ?_
          refine sd_skip rfl rfl rfl ?_
          refine sd_skip rfl rfl rfl ?_
          refine sd_vv rfl rfl rfl (vv_pickT rfl rfl) ?_
          refine sd_vv rfl rfl rfl (vv_move rfl) ?_
          refine sd_skip rfl rfl rfl ?_
          refine sd_skip rfl rfl rfl ?_
          refine sd_skip rfl rfl rfl ?_
          refine sd_skip rfl rfl rfl ?_
          refine sd_skip rfl rfl rfl ?_
          refine sd_skip rfl rfl rfl ?_
          refine sd_vv rfl rfl rfl (vv_pickT rfl rfl) ?_
          refine sd_nil ?_
          have K_85 : Kz [] w15 w15 := (Kz.refl _ _)
          refine ⟨rfl, true, ?_, hm, K_85⟩
          repeat' first | exact trivial | refine ⟨rfl, ?_⟩
        ·
          replace hm := ite_f (of_decide_eq_false c12) hm
          refine sd_vv rfl rfl rfl (vv_move rfl) ?_
          refine sd_vv rfl rfl rfl (vv_neq (a := x4.2) (b := 0) rfl rfl) ?_
          refine sd_vv rfl rfl rfl (vv_pickF rfl rfl) ?_
          refine sd_split rfl rfl rfl (vv_move rfl) (fun c13 => ?_) (fun c13 => ?_)
          ·
            replace hm := ite_t (of_decide_eq_true c13) hm
            refine sd_skip rfl rfl rfl ?_
            refine sd_skip rfl rfl rfl ?_
            refine sd_vv rfl rfl rfl (vv_pickT rfl rfl) ?_
            refine sd_vv rfl rfl rfl (vv_move rfl) ?_
            refine sd_skip rfl rfl rfl ?_
            refine sd_skip rfl rfl rfl ?_
            refine sd_skip rfl rfl rfl ?_
            refine sd_skip rfl rfl rfl ?_
            refine sd_skip rfl rfl rfl ?_
            refine sd_skip rfl rfl rfl ?_
            refine sd_vv rfl rfl rfl (vv_pickT rfl rfl) ?_
            refine sd_nil ?_
            have K_86 : Kz [] w15 w15 := (Kz.refl _ _)
            refine ⟨rfl, true, ?_, hm, K_86⟩
            repeat' first | exact trivial | refine ⟨rfl, ?_⟩
          ·
            replace hm := ite_f (of_decide_eq_false c13) hm
            refine sd_vv rfl rfl rfl (vv_move rfl) ?_
            refine sd_vv rfl rfl rfl (vv_neq (a := x5.2) (b := 0) rfl rfl) ?_
            refine sd_vv rfl rfl rfl (vv_pickF rfl rfl) ?_
            refine sd_split rfl rfl rfl (vv_move rfl) (fun c14 => ?_) (fun c14 => ?_)
            ·
              replace hm := ite_t (of_decide_eq_true c14) hm
              refine sd_skip rfl rfl rfl ?_
              refine sd_skip rfl rfl rfl ?_
              refine sd_skip rfl rfl rfl ?_
              refine sd_skip rfl rfl rfl ?_
              refine sd_skip rfl rfl rfl ?_
              refine sd_skip rfl rfl rfl ?_
              refine sd_vv rfl rfl rfl (vv_pickT rfl rfl) ?_
              refine sd_nil ?_
              have K_87 : Kz [] w15 w15 := (Kz.refl _ _)
              refine ⟨rfl, true, ?_, hm, K_87⟩
              repeat' first | exact trivial | refine ⟨rfl, ?_⟩
            ·
              replace hm := ite_f (of_decide_eq_false c14) hm
              refine sd_vv rfl rfl rfl (vv_fieldAddr fa_28_0 rfl) ?_
              have B88 := (Bx.md (Bx.gr (Bx.gr B36 Gw13) Gw14) Mw15)
              refine sd_vv rfl rfl rfl (vv_load1 (v := u7_r0_0) one_22 rfl B88 rfl) ?_
              have B89 := (Own.md (Own.gr (Own.gr B38 Gw13) Gw14) Mw15 (tk1 ((pv_lt (A := (fun x => x ≠ b14)) lt20) : z7_r0_0 = 0 ∨ g7_r0_0 ≠ b14)))
              refine sd_vv rfl rfl rfl (vv_lenT (l := x4.1.Items) (c := TItem.cs) Try.underlying22 rfl (Own.rd B89)) ?_
              refine sd_vv rfl rfl rfl (vv_move rfl) ?_
              have B90 := (Own.md (Own.gr (Own.gr (Own.md (Own.gr (Own.gr (Own.md (Own.gr (Own.gr O6_r0_s Gw7) Gw8) Mw9 (tk1 ((pv_lt (A := (fun x => x ≠ b8)) lt15) : z6_r0_s = 0 ∨ g6_r0_s ≠ b8))) Gw10) Gw11) Mw12 (tk1 ((pv_lt (A := (fun x => x ≠ b11)) lt15) : z6_r0_s = 0 ∨ g6_r0_s ≠ b11))) Gw13) Gw14) Mw15 (tk1 ((pv_lt (A := (fun x => x ≠ b14)) lt15) : z6_r0_s = 0 ∨ g6_r0_s ≠ b14)))
              refine sd_vv rfl rfl rfl (vv_lenT (l := x3.1) (c := TSubset.cs) Try.underlying48 rfl (Own.rd B90)) ?_
              refine sd_vv rfl rfl rfl (vv_neq (a := (x4.1.Items.length : Int)) (b := (x3.1.length : Int)) rfl rfl) ?_
              refine sd_vv rfl rfl rfl (vv_pickF rfl rfl) ?_
              refine sd_nil ?_
              have K_91 : Kz [] w15 w15 := (Kz.refl _ _)
              refine ⟨rfl, (decide ((x4.1.Items.length : Int) ≠ (x3.1.length : Int))), ?_, hm, K_91⟩
              repeat' first | exact trivial | refine ⟨rfl, ?_⟩
  ·
    -- region 2 outright.go:231
    refine sw_region [(0, 0), (1, 0), (2, 0), (3, 0), (4, 0), (5, 0), (6, 0), (7, 0), (8, 0), (9, 0), (10, 0), (11, 0), (12, 0), (13, 0), (14, 0), (15, 0), (16, 0), (17, 0), (18, 0), (19, 0), (20, 0)] rfl rfl rfl ?_
    have B92 := (Bx.gr (Bx.gr Bw2 Gw3) Gw4)
    refine sd_vv rfl rfl rfl (vv_loadW agg_45 rfl B92 rfl) ?_
    have hb := bnd hm; clear hm; obtain ⟨x16, hx16, hm⟩ := hb
    refine sd_ev rfl rfl rfl (ev_call en_59 rfl (ref03_Valid_w p1 _ hx16 _)) ?_
    rintro _ w22 ⟨rfl, Gw22⟩
    have z93 := Gw22.size
    refine sd_vv rfl rfl rfl (vv_not rfl) ?_
    refine sd_split rfl rfl rfl (vv_move rfl) (fun c15 => ?_) (fun c15 => ?_)
    ·
      replace hm := cnd_t c15 hm
      refine sd_skip rfl rfl rfl ?_
      refine sd_skip rfl rfl rfl ?_
      refine sd_skip rfl rfl rfl ?_
      refine sd_skip rfl rfl rfl ?_
      refine sd_skip rfl rfl rfl ?_
      refine sd_vv rfl rfl rfl (vv_pickT rfl rfl) ?_
      refine sd_vv rfl rfl rfl (vv_move rfl) ?_
      refine sd_skip rfl rfl rfl ?_
      refine sd_skip rfl rfl rfl ?_
      refine sd_vv rfl rfl rfl (vv_pickT rfl rfl) ?_
      refine sd_vv rfl rfl rfl (vv_move rfl) ?_
      refine sd_skip rfl rfl rfl ?_
      refine sd_skip rfl rfl rfl ?_
      refine sd_skip rfl rfl rfl ?_
      refine sd_skip rfl rfl rfl ?_
      refine sd_skip rfl rfl rfl ?_
      refine sd_vv rfl rfl rfl (vv_pickT rfl rfl) ?_
      refine sd_nil ?_
      have K_94 : Kz [] w4 w22 := (Kz.gr (Kz.refl _ _) Gw22)
      refine ⟨rfl, true, ?_, hm, K_94⟩
      repeat' first | exact trivial | refine ⟨rfl, ?_⟩
    ·
      replace hm := cnd_f c15 hm
      refine sd_vv rfl rfl rfl (vv_fieldAddr fa_45_1 rfl) ?_
      have B95 := (Bx.gr B92 Gw22)
      refine sd_vv rfl rfl rfl (vv_load1 (v := .int .i64 p1.Depth) one_3 rfl B95 rfl) ?_
      refine sd_vv rfl rfl rfl (vv_move rfl) ?_
      have B96 := (Rd.gr (Rd.gr (Rd.gr (Rd.gr (Rd.gr hp2 Gw1) Gw2) Gw3) Gw4) Gw22)
      have hb := bnd hm; clear hm; obtain ⟨x17, hx17, hm⟩ := hb
      refine sd_ev rfl rfl rfl (ev_call en_57 rfl (ref03_IsList_w p1.Depth p2 _ _ _ _ _ hx17 _ B96)) ?_
      rintro _ w23 ⟨rfl, Gw23⟩
      have z97 := Gw23.size
      refine sd_vv rfl rfl rfl (vv_not rfl) ?_
      refine sd_vv rfl rfl rfl (vv_pickF rfl rfl) ?_
      refine sd_split rfl rfl rfl (vv_move rfl) (fun c16 => ?_) (fun c16 => ?_)
      ·
        replace hm := cnd_t c16 hm
        refine sd_skip rfl rfl rfl ?_
        refine sd_skip rfl rfl rfl ?_
        refine sd_vv rfl rfl rfl (vv_pickT rfl rfl) ?_
        refine sd_vv rfl rfl rfl (vv_move rfl) ?_
        refine sd_skip rfl rfl rfl ?_
        refine sd_skip rfl rfl rfl ?_
        refine sd_skip rfl rfl rfl ?_
        refine sd_skip rfl rfl rfl ?_
        refine sd_skip rfl rfl rfl ?_
        refine sd_vv rfl rfl rfl (vv_pickT rfl rfl) ?_
        refine sd_nil ?_
        have K_98 : Kz [] w4 w23 := (Kz.gr (Kz.gr (Kz.refl _ _) Gw22) Gw23)
        refine ⟨rfl, true, ?_, hm, K_98⟩
        repeat' first | exact trivial | refine ⟨rfl, ?_⟩
      ·
        replace hm := cnd_f c16 hm
        refine sd_vv rfl rfl rfl (vv_move rfl) ?_
        refine sd_vv rfl rfl rfl (vv_lss (a := p4) (b := 0) rfl rfl) ?_
        refine sd_vv rfl rfl rfl (vv_pickF rfl rfl) ?_
        refine sd_split rfl rfl rfl (vv_move rfl) (fun c17 => ?_) (fun c17 => ?_)
        ·
          replace hm := ite_t (of_decide_eq_true c17) hm
          refine sd_skip rfl rfl rfl ?_
          refine sd_skip rfl rfl rfl ?_
          refine sd_skip rfl rfl rfl ?_
          refine sd_skip rfl rfl rfl ?_
          refine sd_skip rfl rfl rfl ?_
          refine sd_vv rfl rfl rfl (vv_pickT rfl rfl) ?_
          refine sd_nil ?_
          have K_99 : Kz [] w4 w23 := (Kz.gr (Kz.gr (Kz.refl _ _) Gw22) Gw23)
          refine ⟨rfl, true, ?_, hm, K_99⟩
          repeat' first | exact trivial | refine ⟨rfl, ?_⟩
        ·
          replace hm := ite_f (of_decide_eq_false c17) hm
          refine sd_vv rfl rfl rfl (vv_move rfl) ?_
          refine sd_vv rfl rfl rfl (vv_fieldAddr fa_45_1 rfl) ?_
          have B100 := (Bx.gr B95 Gw23)
          refine sd_vv rfl rfl rfl (vv_load1 (v := .int .i64 p1.Depth) one_3 rfl B100 rfl) ?_
          have hb := bnd hm; clear hm; obtain ⟨n18, hn18, hm⟩ := hb
          refine sd_vv rfl rfl rfl (vv_shlI (a := 1) (b := p1.Depth) rfl rfl hn18) ?_
          refine sd_vv rfl rfl rfl (vv_geq (a := p4) (b := shlI 1 n18) rfl rfl) ?_
          refine sd_vv rfl rfl rfl (vv_pickF rfl rfl) ?_
          refine sd_nil ?_
          have K_101 : Kz [] w4 w23 := (Kz.gr (Kz.gr (Kz.refl _ _) Gw22) Gw23)
          refine ⟨rfl, (decide (shlI 1 n18 ≤ p4)), ?_, hm, K_101⟩
          repeat' first | exact trivial | refine ⟨rfl, ?_⟩
end Go.Proofs.Ytecempahccgijaa.Mx
