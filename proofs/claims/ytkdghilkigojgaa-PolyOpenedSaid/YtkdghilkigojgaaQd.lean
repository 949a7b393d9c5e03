/- Walks that follow mirrors: Qd. Printed by mx.py. -/
import Derived.Test.YtkdghilkigojgaaXw
import Derived.Test.YtkdghilkigojgaaQdM
set_option linter.unusedVariables false
set_option linter.unusedSimpArgs false
set_option maxRecDepth 100000
namespace Go.Proofs.Ytkdghilkigojgaa.Mx
open Go Go.RowKit Go.Sx
theorem en_49 : En Try.prog 49 := fun _ _ => by kernel_rfl
theorem en_53 : En Try.prog 53 := fun _ _ => by kernel_rfl
theorem en_57 : En Try.prog 57 := fun _ _ => by kernel_rfl

set_option maxHeartbeats 2000000 in
theorem law04_PolyOpened_w (p0 : W2) (p1 : TScheme) (p2 : List Int) (p3 : W2) (p4 : BitVec 64) (p5 : Int) (vp2 : Value) (zp2 gp2 op2 : Nat) (r : Bool) (hm : law04_PolyOpened p0 p1 p2 p3 p4 p5 = some r) (w : World) (hp2 : Rd w zp2 gp2 op2 1 vp2 (p2.map ic))  :
    Calls Try.prog 11 [kv p0, .agg (TScheme.cs p1).toArray, vp2, kv p3, wv p4, .int .i64 p5].toArray w fun e w' => ∃ v, e = .returned v ∧ (v = .bool r ∧ Gr w w') := by
  have lt1 := hp2.lth
  unfold law04_PolyOpened at hm
  refine calls_of_sw (R := fun v w' => v = .bool r ∧ Gr w w') 127 Try.func11 rfl rfl rfl ?_
  refine sw_seq ?_
  -- region 0 outright.go:172
  refine sw_region [(0, 0), (1, 0), (2, 0), (3, 0)] rfl rfl rfl ?_
  refine sd_ev rfl rfl rfl (ev_box (cs := kb p0) rfl rfl) ?_
  rintro _ w1 ⟨b1, rfl, hbw1, Bw1, Gw1⟩
  have z2 := Gw1.size
  have lt3 := Bw1.lt
  refine sd_ev rfl rfl rfl (ev_box (cs := TScheme.cs p1) rfl rfl) ?_
  rintro _ w2 ⟨b2, rfl, hbw2, Bw2, Gw2⟩
  have z4 := Gw2.size
  have lt5 := Bw2.lt
  refine sd_ev rfl rfl rfl (ev_box (cs := kb p3) rfl rfl) ?_
  rintro _ w3 ⟨b3, rfl, hbw3, Bw3, Gw3⟩
  have z6 := Gw3.size
  have lt7 := Bw3.lt
  refine sd_vv rfl rfl rfl (vv_assign rfl) ?_
  refine sd_done ?_
  refine sw_seq ?_
  -- region 1 outright.go:173
  refine sw_region [(0, 0), (1, 0)] rfl rfl rfl ?_
  have hb := bnd hm; clear hm; obtain ⟨x1, hx1, hm⟩ := hb
  refine sd_ev rfl rfl rfl (ev_call en_49 rfl (law04_alive_w _ hx1 _)) ?_
  rintro _ w4 ⟨rfl, Gw4⟩
  have z8 := Gw4.size
  refine sd_vv rfl rfl rfl (vv_assign rfl) ?_
  refine sd_done ?_
  refine sw_seq ?_
  -- region 2 outright.go:174
  refine sw_region [(0, 0), (1, 0), (2, 0), (3, 0), (4, 0), (5, 0), (6, 0), (7, 0), (8, 0), (9, 0), (10, 0), (11, 0)] rfl rfl rfl ?_
  have B9 := (Bx.gr (Bx.gr (Bx.gr Bw1 Gw2) Gw3) Gw4)
  refine sd_vv rfl rfl rfl (vv_loadW agg_23 rfl B9 rfl) ?_
  have B10 := (Bx.gr (Bx.gr Bw2 Gw3) Gw4)
  refine sd_vv rfl rfl rfl (vv_loadW agg_28 rfl B10 rfl) ?_
  refine sd_vv rfl rfl rfl (vv_move rfl) ?_
  have B11 := (Bx.gr Bw3 Gw4)
  refine sd_vv rfl rfl rfl (vv_loadW agg_23 rfl B11 rfl) ?_
  refine sd_vv rfl rfl rfl (vv_move rfl) ?_
  have B12 := (Rd.gr (Rd.gr (Rd.gr (Rd.gr hp2 Gw1) Gw2) Gw3) Gw4)
  have hb := bnd hm; clear hm; obtain ⟨x2, hx2, hm⟩ := hb
  refine sd_ev rfl rfl rfl (ev_call en_21 rfl (poly_Seal_w p0 p1 p2 p3 p4 _ _ _ _ _ hx2 _ B12)) ?_
  rintro _ w5 ⟨u5_r0_0, z5_r0_0, g5_r0_0, u5_r0_2, z5_r0_2, g5_r0_2, rfl, O5_r0_0, f5_r0_0, O5_r0_2, f5_r0_2, d5_0, Gw5⟩
  have z13 := Gw5.size
  have lt14 := O5_r0_0.lth
  have lt15 := O5_r0_2.lth
  refine sd_vv rfl rfl rfl (vv_move rfl) ?_
  refine sd_vv rfl rfl rfl (vv_extract rfl rfl) ?_
  refine sd_vv rfl rfl rfl (vv_extract rfl rfl) ?_
  refine sd_ev rfl rfl rfl (ev_alloc (cs := THeader.cs (THeader.mk [] 0#64 [] k0 k0) (.slice none 0 0) (.slice none 0 0)) zv_45 rfl) ?_
  rintro _ w6 ⟨b6, rfl, hbw6, Bw6, Gw6⟩
  have z16 := Gw6.size
  have lt17 := Bw6.lt
  have B18 := (Own.gr O5_r0_0 Gw6)
  have B19 := (Own.gr O5_r0_2 Gw6)
  refine sd_ev rfl rfl rfl (ev_stM (cs' := THeader.cs x2.1 u5_r0_0 u5_r0_2) (vs := THeader.cs x2.1 u5_r0_0 u5_r0_2) (agg_45).siz rfl rfl rfl rfl (THeader.cs_ones _ _ _ (Own.oneB B18) (Own.oneB B19)) Bw6 rfl rfl) ?_
  rintro _ w7 ⟨Bw7, Mw7⟩
  have z20 := Mw7.size
  refine sd_vv rfl rfl rfl (vv_assign rfl) ?_
  refine sd_done ?_
  refine sw_seq ?_
  have X21 : Gr w w7 := (Gr.md (Gr.trans (Gr.trans (Gr.trans (Gr.trans (Gr.trans (Gr.trans (Gr.refl w) Gw1) Gw2) Gw3) Gw4) Gw5) Gw6) Mw7)
  refine sw_joinD (β := Bool) [31, 32, 33, 34, 35, 36, 37, 38, 39, 40, 41, 42, 43, 44, 45, 46, 47] (fun a3 => [(47, .bool a3)]) (fun a3 wr => (law04_PolyOpened_J1 p0 p1 p2 p3 p5 x1 x2 a3 = some r) ∧ Kz [] w7 wr) ?_ ?_
  · clear hm; rintro a3 w8 ⟨hm, Kw8⟩
    have z22 := Kw8.size
    unfold law04_PolyOpened_J1 at hm
    refine sw_cond rfl (fun c1 => ?_) (fun c1 => ?_)
    ·
      replace hm := cnd_t c1 hm
      refine sw_seq ?_
      -- region 4 outright.go:176
      refine sw_region [(0, 0), (1, 0), (2, 0), (3, 0), (4, 0), (5, 0), (6, 0), (7, 0), (8, 0), (9, 0), (10, 0), (11, 0), (12, 0), (13, 0)] rfl rfl rfl ?_
      refine sd_vv rfl rfl rfl (vv_move rfl) ?_
      refine sd_split rfl rfl rfl (vv_move rfl) (fun c2 => ?_) (fun c2 => ?_)
      ·
        replace hm := cnd_t c2 hm
        refine sd_vv rfl rfl rfl (vv_move rfl) ?_
        refine sd_vv rfl rfl rfl (vv_eql (a := x2.2) (b := 30) rfl rfl) ?_
        refine sd_split rfl rfl rfl (vv_move rfl) (fun c3 => ?_) (fun c3 => ?_)
        ·
          replace hm := ite_t (of_decide_eq_true c3) hm
          refine sd_skip rfl rfl rfl ?_
          refine sd_skip rfl rfl rfl ?_
          refine sd_vv rfl rfl rfl (vv_pickT rfl rfl) ?_
          refine sd_vv rfl rfl rfl (vv_move rfl) ?_
          refine sd_skip rfl rfl rfl ?_
          refine sd_skip rfl rfl rfl ?_
          refine sd_vv rfl rfl rfl (vv_pickT rfl rfl) ?_
          refine sd_vv rfl rfl rfl (vv_pickT rfl rfl) ?_
          refine sd_vv rfl rfl rfl (vv_assign rfl) ?_
          refine sd_done ?_
          refine sw_ret ?_
          refine then_r ?_
          have X23 : Gr w w8 := (Gr.kz X21 Kw8)
          have hr := Option.some.inj hm
          subst hr
          refine ⟨_, _, rfl, res_1 rfl (rv_tmp rfl), ?_⟩
          exact ⟨rfl, X23⟩
        ·
          replace hm := ite_f (of_decide_eq_false c3) hm
          refine sd_vv rfl rfl rfl (vv_move rfl) ?_
          refine sd_vv rfl rfl rfl (vv_eql (a := x2.2) (b := 2) rfl rfl) ?_
          refine sd_vv rfl rfl rfl (vv_pickF rfl rfl) ?_
          refine sd_split rfl rfl rfl (vv_move rfl) (fun c4 => ?_) (fun c4 => ?_)
          ·
            replace hm := ite_t (of_decide_eq_true c4) hm
            refine sd_skip rfl rfl rfl ?_
            refine sd_skip rfl rfl rfl ?_
            refine sd_vv rfl rfl rfl (vv_pickT rfl rfl) ?_
            refine sd_vv rfl rfl rfl (vv_pickT rfl rfl) ?_
            refine sd_vv rfl rfl rfl (vv_assign rfl) ?_
            refine sd_done ?_
            refine sw_ret ?_
            refine then_r ?_
            have X24 : Gr w w8 := (Gr.kz X21 Kw8)
            have hr := Option.some.inj hm
            subst hr
            refine ⟨_, _, rfl, res_1 rfl (rv_tmp rfl), ?_⟩
            exact ⟨rfl, X24⟩
          ·
            replace hm := ite_f (of_decide_eq_false c4) hm
            refine sd_vv rfl rfl rfl (vv_move rfl) ?_
            refine sd_vv rfl rfl rfl (vv_eql (a := x2.2) (b := 4) rfl rfl) ?_
            refine sd_vv rfl rfl rfl (vv_pickF rfl rfl) ?_
            refine sd_vv rfl rfl rfl (vv_pickT rfl rfl) ?_
            refine sd_vv rfl rfl rfl (vv_assign rfl) ?_
            refine sd_done ?_
            refine sw_ret ?_
            refine then_r ?_
            have X25 : Gr w w8 := (Gr.kz X21 Kw8)
            have hr := Option.some.inj hm
            subst hr
            refine ⟨_, _, rfl, res_1 rfl (rv_tmp rfl), ?_⟩
            exact ⟨rfl, X25⟩
      ·
        replace hm := cnd_f c2 hm
        refine sd_skip rfl rfl rfl ?_
        refine sd_skip rfl rfl rfl ?_
        refine sd_skip rfl rfl rfl ?_
        refine sd_skip rfl rfl rfl ?_
        refine sd_skip rfl rfl rfl ?_
        refine sd_skip rfl rfl rfl ?_
        refine sd_skip rfl rfl rfl ?_
        refine sd_skip rfl rfl rfl ?_
        refine sd_skip rfl rfl rfl ?_
        refine sd_skip rfl rfl rfl ?_
        refine sd_vv rfl rfl rfl (vv_pickF rfl rfl) ?_
        refine sd_vv rfl rfl rfl (vv_assign rfl) ?_
        refine sd_done ?_
        refine sw_ret ?_
        refine then_r ?_
        have X26 : Gr w w8 := (Gr.kz X21 Kw8)
        have hr := Option.some.inj hm
        subst hr
        refine ⟨_, _, rfl, res_1 rfl (rv_tmp rfl), ?_⟩
        exact ⟨rfl, X26⟩
    ·
      replace hm := cnd_f c1 hm
      refine sw_skip ?_
      refine then_n ?_
      refine sw_seq ?_
      have X27 : Gr w w8 := (Gr.kz X21 Kw8)
      refine sw_joinD (β := Bool) [61, 62, 63, 64, 65, 66, 67, 68, 69] (fun a4 => [(69, .bool a4)]) (fun a4 wr => (law04_PolyOpened_J2 p0 p1 p2 p3 p5 x1 x2 a4 = some r) ∧ Kz [] w8 wr) ?_ ?_
      · clear hm; rintro a4 w9 ⟨hm, Kw9⟩
        have z28 := Kw9.size
        unfold law04_PolyOpened_J2 at hm
        refine sw_cond rfl (fun c5 => ?_) (fun c5 => ?_)
        ·
          replace hm := cnd_t c5 hm
          refine sw_seq ?_
          -- region 6 outright.go:179
          refine sw_region [(0, 0), (1, 0), (2, 0), (3, 0), (4, 0), (5, 0)] rfl rfl rfl ?_
          refine sd_vv rfl rfl rfl (vv_move rfl) ?_
          refine sd_split rfl rfl rfl (vv_move rfl) (fun c6 => ?_) (fun c6 => ?_)
          ·
            replace hm := cnd_t c6 hm
            refine sd_vv rfl rfl rfl (vv_move rfl) ?_
            refine sd_vv rfl rfl rfl (vv_eql (a := x2.2) (b := 0) rfl rfl) ?_
            refine sd_vv rfl rfl rfl (vv_pickT rfl rfl) ?_
            refine sd_vv rfl rfl rfl (vv_assign rfl) ?_
            refine sd_done ?_
            refine sw_ret ?_
            refine then_r ?_
            have X29 : Gr w w9 := (Gr.kz X27 Kw9)
            have hr := Option.some.inj hm
            subst hr
            refine ⟨_, _, rfl, res_1 rfl (rv_tmp rfl), ?_⟩
            exact ⟨rfl, X29⟩
          ·
            replace hm := cnd_f c6 hm
            refine sd_skip rfl rfl rfl ?_
            refine sd_skip rfl rfl rfl ?_
            refine sd_vv rfl rfl rfl (vv_pickF rfl rfl) ?_
            refine sd_vv rfl rfl rfl (vv_assign rfl) ?_
            refine sd_done ?_
            refine sw_ret ?_
            refine then_r ?_
            have X30 : Gr w w9 := (Gr.kz X27 Kw9)
            have hr := Option.some.inj hm
            subst hr
            refine ⟨_, _, rfl, res_1 rfl (rv_tmp rfl), ?_⟩
            exact ⟨rfl, X30⟩
        ·
          replace hm := cnd_f c5 hm
          refine sw_skip ?_
          refine then_n ?_
          refine sw_seq ?_
          -- region 7 outright.go:181
          refine sw_region [(0, 0), (1, 0), (2, 0), (3, 0), (4, 0), (5, 0), (6, 0), (7, 0), (8, 0), (9, 0)] rfl rfl rfl ?_
          have B31 := (Bx.kz (Bx.kz (Bx.md (Bx.gr (Bx.gr B9 Gw5) Gw6) Mw7) Kw8) Kw9)
          refine sd_vv rfl rfl rfl (vv_loadW agg_23 rfl B31 rfl) ?_
          have B32 := (Bx.kz (Bx.kz (Bx.md (Bx.gr (Bx.gr B10 Gw5) Gw6) Mw7) Kw8) Kw9)
          refine sd_vv rfl rfl rfl (vv_loadW agg_28 rfl B32 rfl) ?_
          refine sd_vv rfl rfl rfl (vv_move rfl) ?_
          have hb := bnd hm; clear hm; obtain ⟨x5, hx5, hm⟩ := hb
          refine sd_ev rfl rfl rfl (ev_call en_18 rfl (poly_Secret_w p0 p1 p5 _ hx5 _)) ?_
          rintro _ w10 ⟨u10_r0_1, z10_r0_1, g10_r0_1, rfl, O10_r0_1, f10_r0_1, Gw10⟩
          have z33 := Gw10.size
          have lt34 := O10_r0_1.lth
          refine sd_vv rfl rfl rfl (vv_move rfl) ?_
          refine sd_vv rfl rfl rfl (vv_extract rfl rfl) ?_
          refine sd_vv rfl rfl rfl (vv_extract rfl rfl) ?_
          refine sd_ev rfl rfl rfl (ev_alloc (cs := TSecret.cs (TSecret.mk 0 [] (TPoint.mk 0#64 0#64)) (.slice none 0 0)) zv_33 rfl) ?_
          rintro _ w11 ⟨b11, rfl, hbw11, Bw11, Gw11⟩
          have z35 := Gw11.size
          have lt36 := Bw11.lt
          have B37 := (Own.gr O10_r0_1 Gw11)
          refine sd_ev rfl rfl rfl (ev_stM (cs' := TSecret.cs x5.1 u10_r0_1) (vs := TSecret.cs x5.1 u10_r0_1) (agg_33).siz rfl rfl rfl rfl (TSecret.cs_ones _ _ (Own.oneB B37)) Bw11 rfl rfl) ?_
          rintro _ w12 ⟨Bw12, Mw12⟩
          have z38 := Mw12.size
          refine sd_vv rfl rfl rfl (vv_assign rfl) ?_
          refine sd_done ?_
          refine sw_seq ?_
          -- region 8 outright.go:182
          refine sw_region [(0, 0), (1, 0), (2, 0), (3, 0), (4, 0), (5, 0), (6, 0), (7, 0), (8, 0), (9, 0)] rfl rfl rfl ?_
          have B39 := (Bx.md (Bx.gr (Bx.gr B32 Gw10) Gw11) Mw12)
          refine sd_vv rfl rfl rfl (vv_loadW agg_28 rfl B39 rfl) ?_
          refine sd_vv rfl rfl rfl (vv_loadW agg_33 rfl Bw12 rfl) ?_
          have B40 := (Bx.md (Bx.gr (Bx.gr (Bx.kz (Bx.kz Bw7 Kw8) Kw9) Gw10) Gw11) Mw12)
          refine sd_vv rfl rfl rfl (vv_loadW agg_45 rfl B40 rfl) ?_
          have B41 := (Own.md B37 Mw12 (tk1 ((pv_lt (A := (fun x => x ≠ b11)) lt34) : z10_r0_1 = 0 ∨ g10_r0_1 ≠ b11)))
          have B42 := (Own.md (Own.gr (Own.gr (Own.kz (Own.kz (Own.md B18 Mw7 (tk1 ((pv_lt (A := (fun x => x ≠ b6)) lt14) : z5_r0_0 = 0 ∨ g5_r0_0 ≠ b6))) Kw8) Kw9) Gw10) Gw11) Mw12 (tk1 ((pv_lt (A := (fun x => x ≠ b11)) lt14) : z5_r0_0 = 0 ∨ g5_r0_0 ≠ b11)))
          have B43 := (Own.md (Own.gr (Own.gr (Own.kz (Own.kz (Own.md B19 Mw7 (tk1 ((pv_lt (A := (fun x => x ≠ b6)) lt15) : z5_r0_2 = 0 ∨ g5_r0_2 ≠ b6))) Kw8) Kw9) Gw10) Gw11) Mw12 (tk1 ((pv_lt (A := (fun x => x ≠ b11)) lt15) : z5_r0_2 = 0 ∨ g5_r0_2 ≠ b11)))
          have hb := bnd hm; clear hm; obtain ⟨x6, hx6, hm⟩ := hb
          refine sd_ev rfl rfl rfl (ev_call en_27 rfl (poly_Open_w p1 x5.1 x2.1 _ _ _ _ _ _ _ _ _ _ _ _ _ hx6 _ (Own.rd B41) (Own.rd B42) (Own.rd B43))) ?_
          rintro _ w13 ⟨rfl, Gw13⟩
          have z44 := Gw13.size
          refine sd_vv rfl rfl rfl (vv_move rfl) ?_
          refine sd_vv rfl rfl rfl (vv_extract rfl rfl) ?_
          refine sd_vv rfl rfl rfl (vv_extract rfl rfl) ?_
          refine sd_ev rfl rfl rfl (ev_alloc (cs := kb k0) zv_23 rfl) ?_
          rintro _ w14 ⟨b14, rfl, hbw14, Bw14, Gw14⟩
          have z45 := Gw14.size
          have lt46 := Bw14.lt
          refine sd_ev rfl rfl rfl (ev_stM (cs' := kb x6.1) (vs := kb x6.1) (agg_23).siz rfl rfl rfl rfl rfl Bw14 rfl rfl) ?_
          rintro _ w15 ⟨Bw15, Mw15⟩
          have z47 := Mw15.size
          refine sd_vv rfl rfl rfl (vv_assign rfl) ?_
          refine sd_done ?_
          refine sw_seq ?_
          have X48 : Gr w w15 := (Gr.md (Gr.trans (Gr.trans (Gr.md (Gr.trans (Gr.trans (Gr.kz X27 Kw9) Gw10) Gw11) Mw12) Gw13) Gw14) Mw15)
          refine sw_joinD (β := Bool) [89, 90, 91, 92, 93, 94] (fun a7 => [(94, .bool a7)]) (fun a7 wr => (law04_PolyOpened_J3 p2 p3 p5 x1 x6 a7 = some r) ∧ Kz [] w15 wr) ?_ ?_
          · clear hm; rintro a7 w16 ⟨hm, Kw16⟩
            have z49 := Kw16.size
            unfold law04_PolyOpened_J3 at hm
            refine sw_cond rfl (fun c7 => ?_) (fun c7 => ?_)
            ·
              replace hm := cnd_t c7 hm
              refine sw_seq ?_
              -- region 10 outright.go:184
              refine sw_region [(0, 0)] rfl rfl rfl ?_
              refine sd_vv rfl rfl rfl (vv_assign rfl) ?_
              refine sd_done ?_
              refine sw_ret ?_
              refine then_r ?_
              have X50 : Gr w w16 := (Gr.kz X48 Kw16)
              have hr := Option.some.inj hm
              subst hr
              refine ⟨_, _, rfl, res_1 rfl (rv_tmp rfl), ?_⟩
              exact ⟨rfl, X50⟩
            ·
              replace hm := cnd_f c7 hm
              refine sw_skip ?_
              refine then_n ?_
              refine sw_seq ?_
              refine sw_seq ?_
              -- region 11 outright.go:186
              refine sw_region [(0, 0)] rfl rfl rfl ?_
              refine sd_vv rfl rfl rfl (vv_assign rfl) ?_
              refine sd_done ?_
              refine sw_block ?_
              have X51 : Gr w w16 := (Gr.kz X48 Kw16)
              have B52 := (Rd.kz (Rd.md (Rd.gr (Rd.gr (Rd.md (Rd.gr (Rd.gr (Rd.kz (Rd.kz (Rd.md (Rd.gr (Rd.gr B12 Gw5) Gw6) Mw7 (tk1 ((pv_lt (A := (fun x => x ≠ b6)) lt1) : zp2 = 0 ∨ gp2 ≠ b6))) Kw8) Kw9) Gw10) Gw11) Mw12 (tk1 ((pv_lt (A := (fun x => x ≠ b11)) lt1) : zp2 = 0 ∨ gp2 ≠ b11))) Gw13) Gw14) Mw15 (tk1 ((pv_lt (A := (fun x => x ≠ b14)) lt1) : zp2 = 0 ∨ gp2 ≠ b14))) Kw16)
              have B53 := (Own.kz (Own.md (Own.gr (Own.gr B42 Gw13) Gw14) Mw15 (tk1 ((pv_lt (A := (fun x => x ≠ b14)) lt14) : z5_r0_0 = 0 ∨ g5_r0_0 ≠ b14))) Kw16)
              have B54 := (Own.kz (Own.md (Own.gr (Own.gr B43 Gw13) Gw14) Mw15 (tk1 ((pv_lt (A := (fun x => x ≠ b14)) lt15) : z5_r0_2 = 0 ∨ g5_r0_2 ≠ b14))) Kw16)
              have B55 := (Own.kz (Own.md (Own.gr (Own.gr B41 Gw13) Gw14) Mw15 (tk1 ((pv_lt (A := (fun x => x ≠ b14)) lt34) : z10_r0_1 = 0 ∨ g10_r0_1 ≠ b14))) Kw16)
              refine sw_loopD (α := Nat × Int) [12, 20, 95, 96, 97, 98, 99, 100, 101, 102, 103, 104, 105, 106, 107, 108, 109, 110, 111, 112, 113, 114, 115, 116] (fun ⟨n4, a9⟩ => [(12, .bool false), (20, .int .i64 a9)]) (fun ⟨n4, a9⟩ wr => (fixN (law04_PolyOpened_L4 p2 p3 p5 x1 x6) n4 a9 = some r) ∧ Kz [] w16 wr) (fun ⟨n4, a9⟩ => n4) ⟨FUEL, 0⟩ ?_ ?_ ?_
              · repeat' first | exact trivial | refine ⟨rfl, ?_⟩
              · exact ⟨hm, Kz.refl _ _⟩
              · clear hm; rintro ⟨n4, a9⟩ w17 ⟨hm, Kw17⟩
                have z56 := Kw17.size
                have hb := fix_succ hm; clear hm; obtain ⟨n4, rfl, hm⟩ := hb
                generalize hrec4 : fixN (law04_PolyOpened_L4 p2 p3 p5 x1 x6) n4 = rec4 at hm
                unfold law04_PolyOpened_L4 at hm
                try dsimp only at hm
                refine sw_seq ?_
                refine sw_seq ?_
                -- region 12 outright.go:186
                refine sw_region [(0, 0), (1, 0), (2, 0), (3, 0)] rfl rfl rfl ?_
                refine sd_vv rfl rfl rfl (vv_move rfl) ?_
                refine sd_vv rfl rfl rfl (vv_move rfl) ?_
                have B57 := (Rd.kz B52 Kw17)
                refine sd_vv rfl rfl rfl (vv_lenT (l := p2) (c := ic) Try.underlying41 rfl B57) ?_
                refine sd_vv rfl rfl rfl (vv_lss (a := a9) (b := (p2.length : Int)) rfl rfl) ?_
                refine sd_done ?_
                refine sw_cond rfl (fun c8 => ?_) (fun c8 => ?_)
                ·
                  replace hm := ite_t (of_decide_eq_true c8) hm
                  refine sw_skip ?_
                  refine then_n ?_
                  refine sw_seq ?_
                  refine sw_block ?_
                  refine sw_seq ?_
                  -- region 14 outright.go:187
                  refine sw_region [(0, 0), (1, 0), (2, 0), (3, 0), (4, 0), (5, 0)] rfl rfl rfl ?_
                  refine sd_vv rfl rfl rfl (vv_move rfl) ?_
                  refine sd_vv rfl rfl rfl (vv_move rfl) ?_
                  have hb := bnd hm; clear hm; obtain ⟨y10, hy10, hm⟩ := hb
                  refine sd_vv rfl rfl rfl (vv_ixT (i := a9) Try.underlying41 (one_3).siz rfl B57 rfl hy10) ?_
                  refine sd_vv rfl rfl rfl (vv_el1T (q := 0) (u := .int .i64 y10) one_3 rfl B57 hy10 (by first | rfl | omega) rfl) ?_
                  refine sd_vv rfl rfl rfl (vv_move rfl) ?_
                  refine sd_vv rfl rfl rfl (vv_eql (a := y10) (b := p5) rfl rfl) ?_
                  refine sd_done ?_
                  refine sw_cond rfl (fun c9 => ?_) (fun c9 => ?_)
                  ·
                    replace hm := ite_t (of_decide_eq_true c9) hm
                    refine sw_seq ?_
                    -- region 15 outright.go:188
                    refine sw_region [(0, 0), (1, 0), (2, 0), (3, 0), (4, 0), (5, 0), (6, 0), (7, 0), (8, 0), (9, 0), (10, 0)] rfl rfl rfl ?_
                    refine sd_vv rfl rfl rfl (vv_move rfl) ?_
                    refine sd_split rfl rfl rfl (vv_move rfl) (fun c10 => ?_) (fun c10 => ?_)
                    ·
                      replace hm := cnd_t c10 hm
                      refine sd_vv rfl rfl rfl (vv_move rfl) ?_
                      refine sd_vv rfl rfl rfl (vv_eql (a := x6.2) (b := 6) rfl rfl) ?_
                      refine sd_vv rfl rfl rfl (vv_pickT rfl rfl) ?_
                      refine sd_split rfl rfl rfl (vv_move rfl) (fun c11 => ?_) (fun c11 => ?_)
                      ·
                        replace hm := ite_t (of_decide_eq_true c11) hm
                        have B58 := (Bx.kz (Bx.kz Bw15 Kw16) Kw17)
                        refine sd_vv rfl rfl rfl (vv_loadW agg_23 rfl B58 rfl) ?_
                        refine sd_vv rfl rfl rfl (vv_buildZ bz_23) ?_
                        refine sd_vv rfl rfl rfl (vv_eqlS (cf := kb) (a := x6.1) (b := k0) eqt_23 rfl rfl rfl rfl (fun h => kb_inj h)) ?_
                        refine sd_vv rfl rfl rfl (vv_pickT rfl rfl) ?_
                        refine sd_vv rfl rfl rfl (vv_assign rfl) ?_
                        refine sd_done ?_
                        refine sw_ret ?_
                        refine block_r ?_
                        refine then_r ?_
                        refine then_r ?_
                        refine block_r ?_
                        refine then_r ?_
                        have X59 : Gr w w17 := (Gr.kz X51 Kw17)
                        have hr := Option.some.inj hm
                        subst hr
                        refine ⟨_, _, rfl, res_1 rfl (rv_tmp rfl), ?_⟩
                        exact ⟨rfl, X59⟩
                      ·
                        replace hm := ite_f (of_decide_eq_false c11) hm
                        refine sd_skip rfl rfl rfl ?_
                        refine sd_skip rfl rfl rfl ?_
                        refine sd_skip rfl rfl rfl ?_
                        refine sd_vv rfl rfl rfl (vv_pickF rfl rfl) ?_
                        refine sd_vv rfl rfl rfl (vv_assign rfl) ?_
                        refine sd_done ?_
                        refine sw_ret ?_
                        refine block_r ?_
                        refine then_r ?_
                        refine then_r ?_
                        refine block_r ?_
                        refine then_r ?_
                        have X60 : Gr w w17 := (Gr.kz X51 Kw17)
                        have hr := Option.some.inj hm
                        subst hr
                        refine ⟨_, _, rfl, res_1 rfl (rv_tmp rfl), ?_⟩
                        exact ⟨rfl, X60⟩
                    ·
                      replace hm := cnd_f c10 hm
                      refine sd_skip rfl rfl rfl ?_
                      refine sd_skip rfl rfl rfl ?_
                      refine sd_vv rfl rfl rfl (vv_pickF rfl rfl) ?_
                      refine sd_vv rfl rfl rfl (vv_move rfl) ?_
                      refine sd_skip rfl rfl rfl ?_
                      refine sd_skip rfl rfl rfl ?_
                      refine sd_skip rfl rfl rfl ?_
                      refine sd_vv rfl rfl rfl (vv_pickF rfl rfl) ?_
                      refine sd_vv rfl rfl rfl (vv_assign rfl) ?_
                      refine sd_done ?_
                      refine sw_ret ?_
                      refine block_r ?_
                      refine then_r ?_
                      refine then_r ?_
                      refine block_r ?_
                      refine then_r ?_
                      have X61 : Gr w w17 := (Gr.kz X51 Kw17)
                      have hr := Option.some.inj hm
                      subst hr
                      refine ⟨_, _, rfl, res_1 rfl (rv_tmp rfl), ?_⟩
                      exact ⟨rfl, X61⟩
                  ·
                    replace hm := ite_f (of_decide_eq_false c9) hm
                    refine sw_skip ?_
                    refine block_n ?_
                    refine then_n ?_
                    -- region 13 outright.go:186
                    refine sw_region [(0, 0), (1, 0), (2, 0)] rfl rfl rfl ?_
                    refine sd_vv rfl rfl rfl (vv_move rfl) ?_
                    refine sd_vv rfl rfl rfl (vv_add (k := .i64) (a := a9) (b := 1) rfl rfl) ?_
                    refine sd_vv rfl rfl rfl (vv_assign rfl) ?_
                    refine sd_nil ?_
                    have K_62 : Kz [] w16 w17 := Kw17
                    subst hrec4
                    refine ⟨rfl, ⟨n4, w64 (a9 + 1)⟩, ?_, ⟨hm, K_62⟩, Nat.lt_succ_self _⟩
                    repeat' first | exact trivial | refine ⟨rfl, ?_⟩
                ·
                  replace hm := ite_f (of_decide_eq_false c8) hm
                  refine sw_exit ?_
                  refine then_x ?_
                  refine then_x ?_
                  refine block_x ?_
                  refine then_n ?_
                  refine sw_seq ?_
                  -- region 16 outright.go:191
                  refine sw_region [(0, 0), (1, 0), (2, 0), (3, 0), (4, 0), (5, 0), (6, 0), (7, 0), (8, 0), (9, 0), (10, 0)] rfl rfl rfl ?_
                  refine sd_vv rfl rfl rfl (vv_move rfl) ?_
                  refine sd_split rfl rfl rfl (vv_move rfl) (fun c12 => ?_) (fun c12 => ?_)
                  ·
                    replace hm := cnd_t c12 hm
                    refine sd_vv rfl rfl rfl (vv_move rfl) ?_
                    refine sd_vv rfl rfl rfl (vv_eql (a := x6.2) (b := 0) rfl rfl) ?_
                    refine sd_vv rfl rfl rfl (vv_pickT rfl rfl) ?_
                    refine sd_split rfl rfl rfl (vv_move rfl) (fun c13 => ?_) (fun c13 => ?_)
                    ·
                      replace hm := ite_t (of_decide_eq_true c13) hm
                      have B63 := (Bx.kz (Bx.kz Bw15 Kw16) Kw17)
                      refine sd_vv rfl rfl rfl (vv_loadW agg_23 rfl B63 rfl) ?_
                      have B64 := (Bx.kz (Bx.kz (Bx.md (Bx.gr (Bx.gr (Bx.md (Bx.gr (Bx.gr (Bx.kz (Bx.kz (Bx.md (Bx.gr (Bx.gr B11 Gw5) Gw6) Mw7) Kw8) Kw9) Gw10) Gw11) Mw12) Gw13) Gw14) Mw15) Kw16) Kw17)
                      refine sd_vv rfl rfl rfl (vv_loadW agg_23 rfl B64 rfl) ?_
                      refine sd_vv rfl rfl rfl (vv_eqlS (cf := kb) (a := x6.1) (b := p3) eqt_23 rfl rfl rfl rfl (fun h => kb_inj h)) ?_
                      refine sd_vv rfl rfl rfl (vv_pickT rfl rfl) ?_
                      refine sd_vv rfl rfl rfl (vv_assign rfl) ?_
                      refine sd_done ?_
                      refine sw_ret ?_
                      have X65 : Gr w w17 := (Gr.kz X51 Kw17)
                      have hr := Option.some.inj hm
                      subst hr
                      refine ⟨_, _, rfl, res_1 rfl (rv_tmp rfl), ?_⟩
                      exact ⟨rfl, X65⟩
                    ·
                      replace hm := ite_f (of_decide_eq_false c13) hm
                      refine sd_skip rfl rfl rfl ?_
                      refine sd_skip rfl rfl rfl ?_
                      refine sd_skip rfl rfl rfl ?_
                      refine sd_vv rfl rfl rfl (vv_pickF rfl rfl) ?_
                      refine sd_vv rfl rfl rfl (vv_assign rfl) ?_
                      refine sd_done ?_
                      refine sw_ret ?_
                      have X66 : Gr w w17 := (Gr.kz X51 Kw17)
                      have hr := Option.some.inj hm
                      subst hr
                      refine ⟨_, _, rfl, res_1 rfl (rv_tmp rfl), ?_⟩
                      exact ⟨rfl, X66⟩
                  ·
                    replace hm := cnd_f c12 hm
                    refine sd_skip rfl rfl rfl ?_
                    refine sd_skip rfl rfl rfl ?_
                    refine sd_vv rfl rfl rfl (vv_pickF rfl rfl) ?_
                    refine sd_vv rfl rfl rfl (vv_move rfl) ?_
                    refine sd_skip rfl rfl rfl ?_
                    refine sd_skip rfl rfl rfl ?_
                    refine sd_skip rfl rfl rfl ?_
                    refine sd_vv rfl rfl rfl (vv_pickF rfl rfl) ?_
                    refine sd_vv rfl rfl rfl (vv_assign rfl) ?_
                    refine sd_done ?_
                    refine sw_ret ?_
                    have X67 : Gr w w17 := (Gr.kz X51 Kw17)
                    have hr := Option.some.inj hm
                    subst hr
                    refine ⟨_, _, rfl, res_1 rfl (rv_tmp rfl), ?_⟩
                    exact ⟨rfl, X67⟩
          ·
            -- region 9 outright.go:183
            refine sw_region [(0, 0), (1, 0), (2, 0), (3, 0), (4, 0), (5, 0)] rfl rfl rfl ?_
            refine sd_vv rfl rfl rfl (vv_move rfl) ?_
            refine sd_vv rfl rfl rfl (vv_neq (a := x2.2) (b := 0) rfl rfl) ?_
            refine sd_split rfl rfl rfl (vv_move rfl) (fun c14 => ?_) (fun c14 => ?_)
            ·
              replace hm := ite_t (of_decide_eq_true c14) hm
              refine sd_skip rfl rfl rfl ?_
              refine sd_skip rfl rfl rfl ?_
              refine sd_vv rfl rfl rfl (vv_pickT rfl rfl) ?_
              refine sd_nil ?_
              have K_68 : Kz [] w15 w15 := (Kz.refl _ _)
              refine ⟨rfl, true, ?_, hm, K_68⟩
              repeat' first | exact trivial | refine ⟨rfl, ?_⟩
            ·
              replace hm := ite_f (of_decide_eq_false c14) hm
              refine sd_vv rfl rfl rfl (vv_move rfl) ?_
              refine sd_vv rfl rfl rfl (vv_neq (a := x5.2) (b := 0) rfl rfl) ?_
              refine sd_vv rfl rfl rfl (vv_pickF rfl rfl) ?_
              refine sd_nil ?_
              have K_69 : Kz [] w15 w15 := (Kz.refl _ _)
              refine ⟨rfl, (decide (x5.2 ≠ 0)), ?_, hm, K_69⟩
              repeat' first | exact trivial | refine ⟨rfl, ?_⟩
      ·
        -- region 5 outright.go:178
        refine sw_region [(0, 0), (1, 0), (2, 0), (3, 0), (4, 0), (5, 0), (6, 0), (7, 0), (8, 0)] rfl rfl rfl ?_
        refine sd_vv rfl rfl rfl (vv_move rfl) ?_
        refine sd_vv rfl rfl rfl (vv_lss (a := p5) (b := 0) rfl rfl) ?_
        refine sd_split rfl rfl rfl (vv_move rfl) (fun c15 => ?_) (fun c15 => ?_)
        ·
          replace hm := ite_t (of_decide_eq_true c15) hm
          refine sd_skip rfl rfl rfl ?_
          refine sd_skip rfl rfl rfl ?_
          refine sd_skip rfl rfl rfl ?_
          refine sd_skip rfl rfl rfl ?_
          refine sd_skip rfl rfl rfl ?_
          refine sd_vv rfl rfl rfl (vv_pickT rfl rfl) ?_
          refine sd_nil ?_
          have K_70 : Kz [] w8 w8 := (Kz.refl _ _)
          refine ⟨rfl, true, ?_, hm, K_70⟩
          repeat' first | exact trivial | refine ⟨rfl, ?_⟩
        ·
          replace hm := ite_f (of_decide_eq_false c15) hm
          refine sd_vv rfl rfl rfl (vv_move rfl) ?_
          refine sd_vv rfl rfl rfl (vv_fieldAddr fa_28_1 rfl) ?_
          have B71 := (Bx.kz (Bx.md (Bx.gr (Bx.gr B10 Gw5) Gw6) Mw7) Kw8)
          refine sd_vv rfl rfl rfl (vv_load1 (v := .int .i64 p1.Depth) one_3 rfl B71 rfl) ?_
          have hb := bnd hm; clear hm; obtain ⟨n11, hn11, hm⟩ := hb
          refine sd_vv rfl rfl rfl (vv_shlI (a := 1) (b := p1.Depth) rfl rfl hn11) ?_
          refine sd_vv rfl rfl rfl (vv_geq (a := p5) (b := shlI 1 n11) rfl rfl) ?_
          refine sd_vv rfl rfl rfl (vv_pickF rfl rfl) ?_
          refine sd_nil ?_
          have K_72 : Kz [] w8 w8 := (Kz.refl _ _)
          refine ⟨rfl, (decide (shlI 1 n11 ≤ p5)), ?_, hm, K_72⟩
          repeat' first | exact trivial | refine ⟨rfl, ?_⟩
  ·
    -- region 3 outright.go:175
    refine sw_region [(0, 0), (1, 0), (2, 0), (3, 0), (4, 0), (5, 0), (6, 0), (7, 0), (8, 0), (9, 0), (10, 0), (11, 0), (12, 0), (13, 0), (14, 0), (15, 0), (16, 0)] rfl rfl rfl ?_
    have B73 := (Bx.md (Bx.gr (Bx.gr B10 Gw5) Gw6) Mw7)
    refine sd_vv rfl rfl rfl (vv_loadW agg_28 rfl B73 rfl) ?_
    have hb := bnd hm; clear hm; obtain ⟨x12, hx12, hm⟩ := hb
    refine sd_ev rfl rfl rfl (ev_call en_53 rfl (ref04_Valid_w p1 _ hx12 _)) ?_
    rintro _ w18 ⟨rfl, Gw18⟩
    have z74 := Gw18.size
    refine sd_vv rfl rfl rfl (vv_not rfl) ?_
    refine sd_split rfl rfl rfl (vv_move rfl) (fun c16 => ?_) (fun c16 => ?_)
    ·
      replace hm := cnd_t c16 hm
      refine sd_skip rfl rfl rfl ?_
      refine sd_skip rfl rfl rfl ?_
      refine sd_skip rfl rfl rfl ?_
      refine sd_skip rfl rfl rfl ?_
      refine sd_skip rfl rfl rfl ?_
      refine sd_vv rfl rfl rfl (vv_pickT rfl rfl) ?_
      refine sd_vv rfl rfl rfl (vv_move rfl) ?_
      refine sd_skip rfl rfl rfl ?_
      refine sd_skip rfl rfl rfl ?_
      refine sd_skip rfl rfl rfl ?_
      refine sd_skip rfl rfl rfl ?_
      refine sd_skip rfl rfl rfl ?_
      refine sd_vv rfl rfl rfl (vv_pickT rfl rfl) ?_
      refine sd_nil ?_
      have K_75 : Kz [] w7 w18 := (Kz.gr (Kz.refl _ _) Gw18)
      refine ⟨rfl, true, ?_, hm, K_75⟩
      repeat' first | exact trivial | refine ⟨rfl, ?_⟩
    ·
      replace hm := cnd_f c16 hm
      refine sd_vv rfl rfl rfl (vv_fieldAddr fa_28_1 rfl) ?_
      have B76 := (Bx.gr B73 Gw18)
      refine sd_vv rfl rfl rfl (vv_load1 (v := .int .i64 p1.Depth) one_3 rfl B76 rfl) ?_
      refine sd_vv rfl rfl rfl (vv_move rfl) ?_
      have B77 := (Rd.gr (Rd.md (Rd.gr (Rd.gr B12 Gw5) Gw6) Mw7 (tk1 ((pv_lt (A := (fun x => x ≠ b6)) lt1) : zp2 = 0 ∨ gp2 ≠ b6))) Gw18)
      have hb := bnd hm; clear hm; obtain ⟨x13, hx13, hm⟩ := hb
      refine sd_ev rfl rfl rfl (ev_call en_57 rfl (ref03_IsList_w p1.Depth p2 _ _ _ _ _ hx13 _ B77)) ?_
      rintro _ w19 ⟨rfl, Gw19⟩
      have z78 := Gw19.size
      refine sd_vv rfl rfl rfl (vv_not rfl) ?_
      refine sd_vv rfl rfl rfl (vv_pickF rfl rfl) ?_
      refine sd_split rfl rfl rfl (vv_move rfl) (fun c17 => ?_) (fun c17 => ?_)
      ·
        replace hm := cnd_t c17 hm
        refine sd_skip rfl rfl rfl ?_
        refine sd_skip rfl rfl rfl ?_
        refine sd_skip rfl rfl rfl ?_
        refine sd_skip rfl rfl rfl ?_
        refine sd_skip rfl rfl rfl ?_
        refine sd_vv rfl rfl rfl (vv_pickT rfl rfl) ?_
        refine sd_nil ?_
        have K_79 : Kz [] w7 w19 := (Kz.gr (Kz.gr (Kz.refl _ _) Gw18) Gw19)
        refine ⟨rfl, true, ?_, hm, K_79⟩
        repeat' first | exact trivial | refine ⟨rfl, ?_⟩
      ·
        replace hm := cnd_f c17 hm
        refine sd_vv rfl rfl rfl (vv_move rfl) ?_
        have B80 := (Rd.gr B77 Gw19)
        refine sd_vv rfl rfl rfl (vv_lenT (l := p2) (c := ic) Try.underlying41 rfl B80) ?_
        refine sd_vv rfl rfl rfl (vv_fieldAddr fa_28_2 rfl) ?_
        have B81 := (Bx.gr B76 Gw19)
        refine sd_vv rfl rfl rfl (vv_load1 (v := .int .i64 p1.Degree) one_3 rfl B81 rfl) ?_
        refine sd_vv rfl rfl rfl (vv_gtr (a := (p2.length : Int)) (b := p1.Degree) rfl rfl) ?_
        refine sd_vv rfl rfl rfl (vv_pickF rfl rfl) ?_
        refine sd_nil ?_
        have K_82 : Kz [] w7 w19 := (Kz.gr (Kz.gr (Kz.refl _ _) Gw18) Gw19)
        refine ⟨rfl, (decide (p1.Degree < (p2.length : Int))), ?_, hm, K_82⟩
        repeat' first | exact trivial | refine ⟨rfl, ?_⟩
end Go.Proofs.Ytkdghilkigojgaa.Mx
