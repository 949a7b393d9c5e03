/- Walks that follow mirrors: Sr. Printed by mx.py. -/
import Derived.Test.YtecempahccgijaaCl
import Derived.Test.YtecempahccgijaaSrM
set_option linter.unusedVariables false
set_option linter.unusedSimpArgs false
set_option maxRecDepth 100000
namespace Go.Proofs.Ytecempahccgijaa.Mx
open Go Go.RowKit Go.Sx
theorem en_40 : En Try.prog 40 := fun _ _ => by kernel_rfl
theorem en_41 : En Try.prog 41 := fun _ _ => by kernel_rfl
theorem en_42 : En Try.prog 42 := fun _ _ => by kernel_rfl

set_option maxHeartbeats 2000000 in
theorem law03_CoverSecrets_w (p0 : W2) (p1 : TScheme) (p2 : Int)  (r : Bool) (hm : law03_CoverSecrets p0 p1 p2 = some r) (w : World)   :
    Calls Try.prog 7 [kv p0, .agg (TScheme.cs p1).toArray, .int .i64 p2].toArray w fun e w' => ∃ v, e = .returned v ∧ (v = .bool r ∧ Gr w w') := by
  unfold law03_CoverSecrets at hm
  refine calls_of_sw (R := fun v w' => v = .bool r ∧ Gr w w') 63 Try.func7 rfl rfl rfl ?_
  refine sw_seq ?_
  -- region 0 law.go:38
  refine sw_region [(0, 0), (1, 0), (2, 0)] rfl rfl rfl ?_
  refine sd_ev rfl rfl rfl (ev_box (cs := kb p0) rfl rfl) ?_
  rintro _ w1 ⟨b1, rfl, hbw1, Bw1, Gw1⟩
  have z1 := Gw1.size
  have lt2 := Bw1.lt
  refine sd_ev rfl rfl rfl (ev_box (cs := TScheme.cs p1) rfl rfl) ?_
  rintro _ w2 ⟨b2, rfl, hbw2, Bw2, Gw2⟩
  have z3 := Gw2.size
  have lt4 := Bw2.lt
  refine sd_vv rfl rfl rfl (vv_assign rfl) ?_
  refine sd_done ?_
  refine sw_seq ?_
  -- region 1 law.go:39
  refine sw_region [(0, 0), (1, 0), (2, 0), (3, 0), (4, 0), (5, 0), (6, 0), (7, 0), (8, 0), (9, 0)] rfl rfl rfl ?_
  have B5 := (Bx.gr Bw1 Gw2)
  refine sd_vv rfl rfl rfl (vv_loadW agg_26 rfl B5 rfl) ?_
  refine sd_vv rfl rfl rfl (vv_loadW agg_45 rfl Bw2 rfl) ?_
  refine sd_vv rfl rfl rfl (vv_move rfl) ?_
  have hb := bnd hm; clear hm; obtain ⟨x1, hx1, hm⟩ := hb
  refine sd_ev rfl rfl rfl (ev_call en_40 rfl (cover_Secret_w p0 p1 p2 _ hx1 _)) ?_
  rintro _ w3 ⟨u3_r0_1, z3_r0_1, g3_r0_1, rfl, O3_r0_1, f3_r0_1, Gw3⟩
  have z6 := Gw3.size
  have lt7 := O3_r0_1.lth
  refine sd_vv rfl rfl rfl (vv_move rfl) ?_
  refine sd_vv rfl rfl rfl (vv_extract rfl rfl) ?_
  refine sd_vv rfl rfl rfl (vv_extract rfl rfl) ?_
  refine sd_ev rfl rfl rfl (ev_alloc (cs := TSecret.cs (TSecret.mk 0 [] (TPoint.mk 0#64 0#64)) (.slice none 0 0)) zv_74 rfl) ?_
  rintro _ w4 ⟨b4, rfl, hbw4, Bw4, Gw4⟩
  have z8 := Gw4.size
  have lt9 := Bw4.lt
  have B10 := (Own.gr O3_r0_1 Gw4)
  refine sd_ev rfl rfl rfl (ev_stM (cs' := TSecret.cs x1.1 u3_r0_1) (vs := TSecret.cs x1.1 u3_r0_1) (agg_74).siz rfl rfl rfl rfl (TSecret.cs_ones _ _ (Own.oneB B10)) Bw4 rfl rfl) ?_
  rintro _ w5 ⟨Bw5, Mw5⟩
  have z11 := Mw5.size
  refine sd_vv rfl rfl rfl (vv_assign rfl) ?_
  refine sd_done ?_
  refine sw_seq ?_
  -- region 2 law.go:40
  refine sw_region [(0, 0), (1, 0), (2, 0), (3, 0), (4, 0), (5, 0), (6, 0), (7, 0), (8, 0), (9, 0)] rfl rfl rfl ?_
  have B12 := (Bx.md (Bx.gr (Bx.gr B5 Gw3) Gw4) Mw5)
  refine sd_vv rfl rfl rfl (vv_loadW agg_26 rfl B12 rfl) ?_
  have B13 := (Bx.md (Bx.gr (Bx.gr Bw2 Gw3) Gw4) Mw5)
  refine sd_vv rfl rfl rfl (vv_loadW agg_45 rfl B13 rfl) ?_
  refine sd_vv rfl rfl rfl (vv_move rfl) ?_
  have hb := bnd hm; clear hm; obtain ⟨x2, hx2, hm⟩ := hb
  refine sd_ev rfl rfl rfl (ev_call en_41 rfl (ref03_Secret_w p0 p1 p2 _ hx2 _)) ?_
  rintro _ w6 ⟨u6_r0_1, z6_r0_1, g6_r0_1, rfl, O6_r0_1, f6_r0_1, Gw6⟩
  have z14 := Gw6.size
  have lt15 := O6_r0_1.lth
  refine sd_vv rfl rfl rfl (vv_move rfl) ?_
  refine sd_vv rfl rfl rfl (vv_extract rfl rfl) ?_
  refine sd_vv rfl rfl rfl (vv_extract rfl rfl) ?_
  refine sd_ev rfl rfl rfl (ev_alloc (cs := TSecret.cs (TSecret.mk 0 [] (TPoint.mk 0#64 0#64)) (.slice none 0 0)) zv_74 rfl) ?_
  rintro _ w7 ⟨b7, rfl, hbw7, Bw7, Gw7⟩
  have z16 := Gw7.size
  have lt17 := Bw7.lt
  have B18 := (Own.gr O6_r0_1 Gw7)
  refine sd_ev rfl rfl rfl (ev_stM (cs' := TSecret.cs x2.1 u6_r0_1) (vs := TSecret.cs x2.1 u6_r0_1) (agg_74).siz rfl rfl rfl rfl (TSecret.cs_ones _ _ (Own.oneB B18)) Bw7 rfl rfl) ?_
  rintro _ w8 ⟨Bw8, Mw8⟩
  have z19 := Mw8.size
  refine sd_vv rfl rfl rfl (vv_assign rfl) ?_
  refine sd_done ?_
  refine sw_seq ?_
  have X20 : Gr w w8 := (Gr.md (Gr.trans (Gr.trans (Gr.md (Gr.trans (Gr.trans (Gr.trans (Gr.trans (Gr.refl w) Gw1) Gw2) Gw3) Gw4) Mw5) Gw6) Gw7) Mw8)
  refine sw_joinD (β := Bool) [28, 29, 30, 31, 32, 33, 34, 35, 36] (fun a3 => [(36, .bool a3)]) (fun a3 wr => (law03_CoverSecrets_J1 p0 p1 p2 x1 x2 a3 = some r) ∧ Kz [] w8 wr) ?_ ?_
  · clear hm; rintro a3 w9 ⟨hm, Kw9⟩
    have z21 := Kw9.size
    unfold law03_CoverSecrets_J1 at hm
    refine sw_cond rfl (fun c1 => ?_) (fun c1 => ?_)
    ·
      replace hm := cnd_t c1 hm
      refine sw_seq ?_
      -- region 4 law.go:42
      refine sw_region [(0, 0)] rfl rfl rfl ?_
      refine sd_vv rfl rfl rfl (vv_assign rfl) ?_
      refine sd_done ?_
      refine sw_ret ?_
      refine then_r ?_
      have X22 : Gr w w9 := (Gr.kz X20 Kw9)
      have hr := Option.some.inj hm
      subst hr
      refine ⟨_, _, rfl, res_1 rfl (rv_tmp rfl), ?_⟩
      exact ⟨rfl, X22⟩
    ·
      replace hm := cnd_f c1 hm
      refine sw_skip ?_
      refine then_n ?_
      refine sw_seq ?_
      refine sw_seq ?_
      -- region 5 law.go:44
      refine sw_region [(0, 0)] rfl rfl rfl ?_
      refine sd_vv rfl rfl rfl (vv_assign rfl) ?_
      refine sd_done ?_
      refine sw_block ?_
      have X23 : Gr w w9 := (Gr.kz X20 Kw9)
      have B24 := (Own.kz (Own.md (Own.gr (Own.gr (Own.md B10 Mw5 (tk1 ((pv_lt (A := (fun x => x ≠ b4)) lt7) : z3_r0_1 = 0 ∨ g3_r0_1 ≠ b4))) Gw6) Gw7) Mw8 (tk1 ((pv_lt (A := (fun x => x ≠ b7)) lt7) : z3_r0_1 = 0 ∨ g3_r0_1 ≠ b7))) Kw9)
      have B25 := (Bx.kz (Bx.md (Bx.gr (Bx.gr Bw5 Gw6) Gw7) Mw8) Kw9)
      have B26 := (Own.kz (Own.md B18 Mw8 (tk1 ((pv_lt (A := (fun x => x ≠ b7)) lt15) : z6_r0_1 = 0 ∨ g6_r0_1 ≠ b7))) Kw9)
      refine sw_loopD (α := Nat × Int × List TLabel × Value × Nat × Nat) [11, 37, 38, 39, 40, 41, 42, 43, 44, 45, 46, 47, 48, 49, 50, 51, 52] (fun ⟨n2, a7, a8, vy9, zy9, gy9⟩ => [(11, .int .i64 a7)]) (fun ⟨n2, a7, a8, vy9, zy9, gy9⟩ wr => (fixN (law03_CoverSecrets_L2 p0 p1 p2 x2) n2 (a7, a8) = some r) ∧ Own wr zy9 gy9 81 18 vy9 (a8.map TLabel.cs) ∧ Hdn (zy9 = 0 ∨ (gy9 = g3_r0_1 ∧ z3_r0_1 ≠ 0) ∨ w9.heap.size ≤ gy9) ∧ Bx wr b4 74 (TSecret.cs (TSecret.mk x1.1.Receiver a8 x1.1.Share) vy9) ∧ Kz [(1, b4), (z3_r0_1, g3_r0_1)] w9 wr) (fun ⟨n2, a7, a8, vy9, zy9, gy9⟩ => n2) ⟨FUEL, 0, x1.1.Labels, u3_r0_1, z3_r0_1, g3_r0_1⟩ ?_ ?_ ?_
      · repeat' first | exact trivial | refine ⟨rfl, ?_⟩
      · exact ⟨hm, B24, ⟨tk0⟩, B25, Kz.refl _ _⟩
      · clear hm; rintro ⟨n2, a7, a8, vy9, zy9, gy9⟩ w10 ⟨hm, Fw10_0, Fw10_1, Fw10_2, Kw10⟩
        have z27 := Kw10.size
        have lt28 := Fw10_0.lth
        have lt29 := Fw10_2.lt
        have hb := fix_succ hm; clear hm; obtain ⟨n2, rfl, hm⟩ := hb
        generalize hrec2 : fixN (law03_CoverSecrets_L2 p0 p1 p2 x2) n2 = rec2 at hm
        unfold law03_CoverSecrets_L2 at hm
        try dsimp only at hm
        refine sw_seq ?_
        refine sw_seq ?_
        -- region 6 law.go:44
        refine sw_region [(0, 0), (1, 0), (2, 0), (3, 0), (4, 0)] rfl rfl rfl ?_
        refine sd_vv rfl rfl rfl (vv_move rfl) ?_
        refine sd_vv rfl rfl rfl (vv_fieldAddr fa_74_1 rfl) ?_
        refine sd_vv rfl rfl rfl (vv_load1 (v := vy9) one_70 rfl Fw10_2 rfl) ?_
        refine sd_vv rfl rfl rfl (vv_lenT (l := a8) (c := TLabel.cs) Try.underlying70 rfl (Own.rd Fw10_0)) ?_
        refine sd_vv rfl rfl rfl (vv_lss (a := a7) (b := (a8.length : Int)) rfl rfl) ?_
        refine sd_done ?_
        refine sw_cond rfl (fun c2 => ?_) (fun c2 => ?_)
        ·
          replace hm := ite_t (of_decide_eq_true c2) hm
          refine sw_skip ?_
          refine then_n ?_
          refine sw_seq ?_
          refine sw_block ?_
          -- region 8 law.go:45
          refine sw_region [(0, 0), (1, 0), (2, 0), (3, 0), (4, 0), (5, 0), (6, 0), (7, 0), (8, 0), (9, 0)] rfl rfl rfl ?_
          refine sd_vv rfl rfl rfl (vv_fieldAddr fa_74_1 rfl) ?_
          refine sd_vv rfl rfl rfl (vv_load1 (v := vy9) one_70 rfl Fw10_2 rfl) ?_
          refine sd_vv rfl rfl rfl (vv_move rfl) ?_
          have hb := bnd hm; clear hm; obtain ⟨y10, hy10, hm⟩ := hb
          refine sd_vv rfl rfl rfl (vv_ixT (i := a7) Try.underlying70 (agg_81).siz rfl (Own.rd Fw10_0) rfl hy10) ?_
          refine sd_vv rfl rfl rfl (vv_fieldAddr fa_81_0 rfl) ?_
          refine sd_vv rfl rfl rfl (vv_el1T (q := 0) (u := .int .i64 y10.Node) one_3 rfl (Own.rd Fw10_0) hy10 (by first | rfl | omega) rfl) ?_
          refine sd_vv rfl rfl rfl (vv_add (k := .i64) (a := y10.Node) (b := 1) rfl rfl) ?_
          have hb := bnd hm; clear hm; obtain ⟨y11, hy11, hm⟩ := hb
          refine sd_vv rfl rfl rfl (vv_ixT (i := a7) Try.underlying70 (agg_81).siz rfl (Own.rd Fw10_0) rfl hy11) ?_
          refine sd_vv rfl rfl rfl (vv_fieldAddr fa_81_0 rfl) ?_
          have zo30 := Own.z1 Fw10_0 hy11
          refine sd_ev rfl rfl rfl (ev_stEl (i := a7) (q := 0) (a' := (TLabel.mk (w64 (y10.Node + 1)) y11.Minus y11.Key)) (vs := [.int .i64 (w64 (y10.Node + 1))]) (c := TLabel.cs) (one_3).siz rfl rfl rfl rfl rfl Fw10_0 hy11 (by first | rfl | omega) rfl rfl ⟨rfl, rfl⟩) ?_
          rintro _ w11 ⟨Ow11, Mw11⟩
          have z31 := Mw11.size
          refine sd_nil ?_
          refine block_n ?_
          refine then_n ?_
          -- region 7 law.go:44
          refine sw_region [(0, 0), (1, 0), (2, 0)] rfl rfl rfl ?_
          refine sd_vv rfl rfl rfl (vv_move rfl) ?_
          refine sd_vv rfl rfl rfl (vv_add (k := .i64) (a := a7) (b := 1) rfl rfl) ?_
          refine sd_vv rfl rfl rfl (vv_assign rfl) ?_
          refine sd_nil ?_
          have K_32 : Kz [(1, b4), (z3_r0_1, g3_r0_1)] w9 w11 := (Kz.md Kw10 Mw11 (tk1 ((pv_1 (A := (fun x => (x = g3_r0_1 ∧ z3_r0_1 ≠ 0) ∨ w9.heap.size ≤ x)) Fw10_1 tk0) : zy9 = 0 ∨ (gy9 = g3_r0_1 ∧ z3_r0_1 ≠ 0) ∨ w9.heap.size ≤ gy9)))
          have B33 := (Bx.md Fw10_2 Mw11 (tk1 ((pv_1 (A := (fun x => x ≠ b4)) Fw10_1 (pv_lt (A := (fun x => x ≠ b4)) lt7)) : zy9 = 0 ∨ gy9 ≠ b4)))
          subst hrec2
          refine ⟨rfl, ⟨n2, w64 (a7 + 1), a8.set a7.toNat (TLabel.mk (w64 (y10.Node + 1)) y11.Minus y11.Key), vy9, zy9, gy9⟩, ?_, ⟨hm, Ow11, ⟨(pv_1 (A := (fun x => (x = g3_r0_1 ∧ z3_r0_1 ≠ 0) ∨ w9.heap.size ≤ x)) Fw10_1 tk0)⟩, B33, K_32⟩, Nat.lt_succ_self _⟩
          repeat' first | exact trivial | refine ⟨rfl, ?_⟩
        ·
          replace hm := ite_f (of_decide_eq_false c2) hm
          refine sw_exit ?_
          refine then_x ?_
          refine then_x ?_
          refine block_x ?_
          refine then_n ?_
          refine sw_seq ?_
          -- region 9 law.go:47
          refine sw_region [(0, 0), (1, 0), (2, 0), (3, 0), (4, 0), (5, 0), (6, 0), (7, 0), (8, 0), (9, 0)] rfl rfl rfl ?_
          have B34 := (Bx.kz (Bx.kz (Bx.md (Bx.gr (Bx.gr B12 Gw6) Gw7) Mw8) Kw9) Kw10 (tk1 ((pv_0 (A := (fun x => x ≠ b1)) f3_r0_1) : z3_r0_1 = 0 ∨ g3_r0_1 ≠ b1)))
          refine sd_vv rfl rfl rfl (vv_loadW agg_26 rfl B34 rfl) ?_
          have B35 := (Bx.kz (Bx.kz (Bx.md (Bx.gr (Bx.gr B13 Gw6) Gw7) Mw8) Kw9) Kw10 (tk1 ((pv_0 (A := (fun x => x ≠ b2)) f3_r0_1) : z3_r0_1 = 0 ∨ g3_r0_1 ≠ b2)))
          refine sd_vv rfl rfl rfl (vv_loadW agg_45 rfl B35 rfl) ?_
          refine sd_vv rfl rfl rfl (vv_move rfl) ?_
          have hb := bnd hm; clear hm; obtain ⟨x12, hx12, hm⟩ := hb
          refine sd_ev rfl rfl rfl (ev_call en_40 rfl (cover_Secret_w p0 p1 p2 _ hx12 _)) ?_
          rintro _ w12 ⟨u12_r0_1, z12_r0_1, g12_r0_1, rfl, O12_r0_1, f12_r0_1, Gw12⟩
          have z36 := Gw12.size
          have lt37 := O12_r0_1.lth
          refine sd_vv rfl rfl rfl (vv_move rfl) ?_
          refine sd_vv rfl rfl rfl (vv_extract rfl rfl) ?_
          refine sd_vv rfl rfl rfl (vv_extract rfl rfl) ?_
          refine sd_ev rfl rfl rfl (ev_alloc (cs := TSecret.cs (TSecret.mk 0 [] (TPoint.mk 0#64 0#64)) (.slice none 0 0)) zv_74 rfl) ?_
          rintro _ w13 ⟨b13, rfl, hbw13, Bw13, Gw13⟩
          have z38 := Gw13.size
          have lt39 := Bw13.lt
          have B40 := (Own.gr O12_r0_1 Gw13)
          refine sd_ev rfl rfl rfl (ev_stM (cs' := TSecret.cs x12.1 u12_r0_1) (vs := TSecret.cs x12.1 u12_r0_1) (agg_74).siz rfl rfl rfl rfl (TSecret.cs_ones _ _ (Own.oneB B40)) Bw13 rfl rfl) ?_
          rintro _ w14 ⟨Bw14, Mw14⟩
          have z41 := Mw14.size
          refine sd_vv rfl rfl rfl (vv_assign rfl) ?_
          refine sd_done ?_
          refine sw_seq ?_
          -- region 10 law.go:48
          refine sw_region [(0, 0), (1, 0), (2, 0), (3, 0)] rfl rfl rfl ?_
          refine sd_vv rfl rfl rfl (vv_loadW agg_74 rfl Bw14 rfl) ?_
          have B42 := (Bx.md (Bx.gr (Bx.gr (Bx.kz (Bx.kz Bw8 Kw9) Kw10 (tk1 ((pv_lt (A := (fun x => x ≠ b7)) lt7) : z3_r0_1 = 0 ∨ g3_r0_1 ≠ b7))) Gw12) Gw13) Mw14)
          refine sd_vv rfl rfl rfl (vv_loadW agg_74 rfl B42 rfl) ?_
          have B43 := (Own.md B40 Mw14 (tk1 ((pv_lt (A := (fun x => x ≠ b13)) lt37) : z12_r0_1 = 0 ∨ g12_r0_1 ≠ b13)))
          have B44 := (Own.md (Own.gr (Own.gr (Own.kz B26 Kw10 (tk2 ((pv_0 (A := (fun x => z3_r0_1 = 0 ∨ x ≠ g3_r0_1)) f6_r0_1 (fun x hx => (tk1 lt7.o))) : z6_r0_1 = 0 ∨ z3_r0_1 = 0 ∨ g6_r0_1 ≠ g3_r0_1) ((pv_0 (A := (fun x => x ≠ b4)) f6_r0_1) : z6_r0_1 = 0 ∨ g6_r0_1 ≠ b4))) Gw12) Gw13) Mw14 (tk1 ((pv_lt (A := (fun x => x ≠ b13)) lt15) : z6_r0_1 = 0 ∨ g6_r0_1 ≠ b13)))
          have hb := bnd hm; clear hm; obtain ⟨x13, hx13, hm⟩ := hb
          refine sd_ev rfl rfl rfl (ev_call en_42 rfl (ref03_SameSecret_w x12.1 x2.1 _ _ _ _ _ _ _ _ _ hx13 _ (Own.rd B43) (Own.rd B44))) ?_
          rintro _ w15 ⟨rfl, Gw15⟩
          have z45 := Gw15.size
          refine sd_vv rfl rfl rfl (vv_assign rfl) ?_
          refine sd_done ?_
          refine sw_ret ?_
          have X46 : Gr w w15 := (Gr.trans (Gr.md (Gr.trans (Gr.trans (Gr.kz X23 Kw10 (tk1 ((pv_0 (A := (fun x => w.heap.size ≤ x)) f3_r0_1) : z3_r0_1 = 0 ∨ w.heap.size ≤ g3_r0_1))) Gw12) Gw13) Mw14) Gw15)
          have hr := Option.some.inj hm
          subst hr
          refine ⟨_, _, rfl, res_1 rfl (rv_tmp rfl), ?_⟩
          exact ⟨rfl, X46⟩
  ·
    -- region 3 law.go:41
    refine sw_region [(0, 0), (1, 0), (2, 0), (3, 0), (4, 0), (5, 0), (6, 0), (7, 0), (8, 0)] rfl rfl rfl ?_
    have B47 := (Bx.md (Bx.gr (Bx.gr Bw5 Gw6) Gw7) Mw8)
    refine sd_vv rfl rfl rfl (vv_loadW agg_74 rfl B47 rfl) ?_
    refine sd_vv rfl rfl rfl (vv_loadW agg_74 rfl Bw8 rfl) ?_
    have B48 := (Own.md (Own.gr (Own.gr (Own.md B10 Mw5 (tk1 ((pv_lt (A := (fun x => x ≠ b4)) lt7) : z3_r0_1 = 0 ∨ g3_r0_1 ≠ b4))) Gw6) Gw7) Mw8 (tk1 ((pv_lt (A := (fun x => x ≠ b7)) lt7) : z3_r0_1 = 0 ∨ g3_r0_1 ≠ b7)))
    have B49 := (Own.md B18 Mw8 (tk1 ((pv_lt (A := (fun x => x ≠ b7)) lt15) : z6_r0_1 = 0 ∨ g6_r0_1 ≠ b7)))
    have hb := bnd hm; clear hm; obtain ⟨x14, hx14, hm⟩ := hb
    refine sd_ev rfl rfl rfl (ev_call en_42 rfl (ref03_SameSecret_w x1.1 x2.1 _ _ _ _ _ _ _ _ _ hx14 _ (Own.rd B48) (Own.rd B49))) ?_
    rintro _ w16 ⟨rfl, Gw16⟩
    have z50 := Gw16.size
    refine sd_vv rfl rfl rfl (vv_not rfl) ?_
    refine sd_split rfl rfl rfl (vv_move rfl) (fun c3 => ?_) (fun c3 => ?_)
    ·
      replace hm := cnd_t c3 hm
      refine sd_skip rfl rfl rfl ?_
      refine sd_skip rfl rfl rfl ?_
      refine sd_skip rfl rfl rfl ?_
      refine sd_vv rfl rfl rfl (vv_pickT rfl rfl) ?_
      refine sd_nil ?_
      have K_51 : Kz [] w8 w16 := (Kz.gr (Kz.refl _ _) Gw16)
      refine ⟨rfl, true, ?_, hm, K_51⟩
      repeat' first | exact trivial | refine ⟨rfl, ?_⟩
    ·
      replace hm := cnd_f c3 hm
      refine sd_vv rfl rfl rfl (vv_move rfl) ?_
      refine sd_vv rfl rfl rfl (vv_move rfl) ?_
      refine sd_vv rfl rfl rfl (vv_neq (a := x1.2) (b := x2.2) rfl rfl) ?_
      refine sd_vv rfl rfl rfl (vv_pickF rfl rfl) ?_
      refine sd_nil ?_
      have K_52 : Kz [] w8 w16 := (Kz.gr (Kz.refl _ _) Gw16)
      refine ⟨rfl, (decide (x1.2 ≠ x2.2)), ?_, hm, K_52⟩
      repeat' first | exact trivial | refine ⟨rfl, ?_⟩
end Go.Proofs.Ytecempahccgijaa.Mx
