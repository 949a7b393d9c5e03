/- Walks that follow mirrors: Wc. Printed by mx.py. -/
import Derived.Test.YtecempahccgijaaMirH
import Derived.Test.YtecempahccgijaaSrtSub
import Derived.Test.YtecempahccgijaaWa
import Derived.Test.YtecempahccgijaaWcM
set_option linter.unusedVariables false
set_option linter.unusedSimpArgs false
set_option maxRecDepth 100000
namespace Go.Proofs.Ytecempahccgijaa.Mx
open Go Go.RowKit Go.Sx
theorem mpt_172 : MpT Try.prog 172 139 4 := ⟨Try.underlying172, Try.underlying139, fun _ => by kernel_rfl⟩
theorem zv_48 : ZV Try.prog 48 (.slice none 0 0) := fun _ => by kernel_rfl
theorem one_48 : One Try.prog 48 := fun _ => ⟨by kernel_rfl, by kernel_rfl⟩
theorem apt_48 : ApT Try.prog 48 47 2 16 := apt_mk Try.underlying48 rfl (by kernel_rfl)
theorem en_113 : En Try.prog 113 := fun _ _ => by kernel_rfl
theorem en_115 : En Try.prog 115 := fun _ _ => by kernel_rfl

set_option maxHeartbeats 2000000 in
theorem cover_Cover_1_w (p0 : Int) (p1 : Int) (p2 : List TSubset) (bp2 : Nat) (vp2_0 : Value) (zp2_0 gp2_0 : Nat) (r : List TSubset) (hm : cover_Cover_1 p0 p1 p2 = some r) (w : World) (hbp2 : Bx w bp2 48 ([vp2_0])) (hp2_0 : Own w zp2_0 gp2_0 47 2 vp2_0 (p2.map TSubset.cs)) (ne0 : Hdn (zp2_0 = 0 ∨ gp2_0 ≠ bp2)) :
    Calls Try.prog 113 [.int .i64 p0, .int .i64 p1, .pointer (some ⟨bp2, 0, none⟩)].toArray w fun e w' => ∃ v, e = .returned v ∧ (∃ (ub0_s : Value) (zb0_s : Nat) (gb0_s : Nat), v = .tuple #[] ∧ Own w' zb0_s gb0_s 47 2 ub0_s (r.map TSubset.cs) ∧ Hdn (zb0_s = 0 ∨ (gb0_s = gp2_0 ∧ zp2_0 ≠ 0) ∨ w.heap.size ≤ gb0_s) ∧ Bx w' bp2 48 ([ub0_s]) ∧ Kz [(zp2_0, gp2_0), (1, bp2)] w w') := by
  have lt1 := hp2_0.lth
  have lt2 := hbp2.lt
  unfold cover_Cover_1 at hm
  refine calls_of_sw (R := fun v w' => ∃ (ub0_s : Value) (zb0_s : Nat) (gb0_s : Nat), v = .tuple #[] ∧ Own w' zb0_s gb0_s 47 2 ub0_s (r.map TSubset.cs) ∧ Hdn (zb0_s = 0 ∨ (gb0_s = gp2_0 ∧ zp2_0 ≠ 0) ∨ w.heap.size ≤ gb0_s) ∧ Bx w' bp2 48 ([ub0_s]) ∧ Kz [(zp2_0, gp2_0), (1, bp2)] w w') 11 Try.func113 rfl rfl rfl ?_
  -- region 0 cover.go:72
  refine sw_region [(0, 0), (1, 0), (2, 0), (3, 0), (4, 0), (5, 0), (6, 0)] rfl rfl rfl ?_
  refine sd_vv rfl rfl rfl (vv_load1 (v := vp2_0) one_48 rfl hbp2 rfl) ?_
  refine sd_vv rfl rfl rfl (vv_move rfl) ?_
  refine sd_vv rfl rfl rfl (vv_move rfl) ?_
  refine sd_vv rfl rfl rfl (vv_build (cs := TSubset.cs (TSubset.mk p0 p1)) bs_47 rfl rfl) ?_
  refine sd_ev rfl rfl rfl (ev_litT [(TSubset.mk p0 p1)] TSubset.cs bsl_48_1 rfl rfl (ws_of rfl) rfl rfl rfl) ?_
  rintro vw1 w1 ⟨gw1, hbw1, Ow1, Gw1⟩
  have z3 := Gw1.size
  have lt4 := Ow1.lth
  have B5 := (Own.gr hp2_0 Gw1)
  have hb := bnd hm; clear hm; obtain ⟨l1, hl1, hm⟩ := hb
  refine sd_ev rfl rfl rfl (ev_appT (l := p2) (m := [(TSubset.mk p0 p1)]) (c := TSubset.cs) apt_48 rfl rfl B5 (Own.rd Ow1) hl1 (by decide)) ?_
  rintro vw2 w2 ⟨zw2, gw2, Ow2, Aw2, qw2, rw2⟩
  have z6 := Aw2.size
  have B7 := (Bx.ka (Bx.gr hbp2 Gw1) Aw2 (tk1 ((tk2 lt1.o ne0.o) : zp2_0 = 0 ∨ gp2_0 ≠ bp2)))
  refine sd_ev rfl rfl rfl (ev_st1 (cs' := [vw2]) (one_48).siz rfl rfl (Own.oneB Ow2) B7 rfl rfl) ?_
  rintro _ w3 ⟨Bw3, Mw3⟩
  have z8 := Mw3.size
  refine sd_nil ?_
  have B9 := (Own.md Ow2 Mw3 (tk1 ((pv_app (A := (fun x => x ≠ bp2)) rw2 (tk2 lt1.o ne0.o)) : zw2 = 0 ∨ gw2 ≠ bp2)))
  have X10 : Kz [(zp2_0, gp2_0), (1, bp2)] w w3 := (Kz.md (Kz.ka (Kz.gr (Kz.refl _ w) Gw1) Aw2 (tk1 (tk0 : zp2_0 = 0 ∨ (gp2_0 = gp2_0 ∧ zp2_0 ≠ 0) ∨ w.heap.size ≤ gp2_0))) Mw3)
  have hr := Option.some.inj hm
  subst hr
  refine ⟨_, _, rfl, res_none rfl, ?_⟩
  exact ⟨vw2, zw2, gw2, rfl, B9, ⟨(pv_app (A := (fun x => (x = gp2_0 ∧ zp2_0 ≠ 0) ∨ w.heap.size ≤ x)) rw2 tk0)⟩, Bw3, X10⟩

set_option maxHeartbeats 2000000 in
theorem cover_Cover_w (p0 : TScheme) (p1 : List Int) (vp1 : Value) (zp1 gp1 op1 : Nat) (r : List TSubset × Int) (hm : cover_Cover p0 p1 = some r) (w : World) (hp1 : Rd w zp1 gp1 op1 1 vp1 (p1.map ic))  :
    Calls Try.prog 54 [.agg (TScheme.cs p0).toArray, vp1].toArray w fun e w' => ∃ v, e = .returned v ∧ (∃ (ur0_s : Value) (zr0_s : Nat) (gr0_s : Nat), v = .tuple [ur0_s, .int .i64 r.2].toArray ∧ Own w' zr0_s gr0_s 47 2 ur0_s (r.1.map TSubset.cs) ∧ Hdn (zr0_s = 0 ∨ w.heap.size ≤ gr0_s) ∧ Gr w w') := by
  have lt1 := hp1.lth
  unfold cover_Cover at hm
  refine calls_of_sw (R := fun v w' => ∃ (ur0_s : Value) (zr0_s : Nat) (gr0_s : Nat), v = .tuple [ur0_s, .int .i64 r.2].toArray ∧ Own w' zr0_s gr0_s 47 2 ur0_s (r.1.map TSubset.cs) ∧ Hdn (zr0_s = 0 ∨ w.heap.size ≤ gr0_s) ∧ Gr w w') 134 Try.func54 rfl rfl rfl ?_
  refine sw_seq ?_
  -- region 0 cover.go:54
  refine sw_region [(0, 0), (1, 0), (2, 0)] rfl rfl rfl ?_
  refine sd_ev rfl rfl rfl (ev_box (cs := TScheme.cs p0) rfl rfl) ?_
  rintro _ w1 ⟨b1, rfl, hbw1, Bw1, Gw1⟩
  have z2 := Gw1.size
  have lt3 := Bw1.lt
  refine sd_vv rfl rfl rfl (vv_assign rfl) ?_
  refine sd_vv rfl rfl rfl (vv_assign rfl) ?_
  refine sd_done ?_
  refine sw_seq ?_
  -- region 1 cover.go:55
  refine sw_region [(0, 0), (1, 0), (2, 0), (3, 0), (4, 0), (5, 0), (6, 0), (7, 0)] rfl rfl rfl ?_
  refine sd_vv rfl rfl rfl (vv_loadW agg_45 rfl Bw1 rfl) ?_
  have hb := bnd hm; clear hm; obtain ⟨x1, hx1, hm⟩ := hb
  refine sd_ev rfl rfl rfl (ev_call en_74 rfl (cover_enter_w p0 ([] : List TSubset) _ _ _ _ _ hx1 _ (Own.rd (own_nil _ 0 47 2)))) ?_
  rintro _ w2 ⟨rfl, Gw2⟩
  have z4 := Gw2.size
  refine sd_vv rfl rfl rfl (vv_move rfl) ?_
  refine sd_vv rfl rfl rfl (vv_extract rfl rfl) ?_
  refine sd_vv rfl rfl rfl (vv_extract rfl rfl) ?_
  refine sd_ev rfl rfl rfl (ev_alloc (cs := Tcover_tree.cs (Tcover_tree.mk 0#8 0 0)) zv_134 rfl) ?_
  rintro _ w3 ⟨b3, rfl, hbw3, Bw3, Gw3⟩
  have z5 := Gw3.size
  have lt6 := Bw3.lt
  refine sd_ev rfl rfl rfl (ev_stM (cs' := Tcover_tree.cs x1.1) (vs := Tcover_tree.cs x1.1) (agg_134).siz rfl rfl rfl rfl rfl Bw3 rfl rfl) ?_
  rintro _ w4 ⟨Bw4, Mw4⟩
  have z7 := Mw4.size
  refine sd_vv rfl rfl rfl (vv_assign rfl) ?_
  refine sd_done ?_
  refine sw_seq ?_
  refine sw_seq ?_
  -- region 2 cover.go:56
  refine sw_region [(0, 0), (1, 0)] rfl rfl rfl ?_
  refine sd_vv rfl rfl rfl (vv_move rfl) ?_
  refine sd_vv rfl rfl rfl (vv_neq (a := x1.2) (b := 0) rfl rfl) ?_
  refine sd_done ?_
  refine sw_cond rfl (fun c1 => ?_) (fun c1 => ?_)
  ·
    replace hm := ite_t (of_decide_eq_true c1) hm
    refine sw_seq ?_
    -- region 3 cover.go:57
    refine sw_region [(0, 0), (1, 0), (2, 0)] rfl rfl rfl ?_
    refine sd_vv rfl rfl rfl (vv_move rfl) ?_
    refine sd_vv rfl rfl rfl (vv_assign rfl) ?_
    refine sd_vv rfl rfl rfl (vv_assign rfl) ?_
    refine sd_done ?_
    refine sw_ret ?_
    refine then_r ?_
    have X8 : Gr w w4 := (Gr.md (Gr.trans (Gr.trans (Gr.trans (Gr.refl w) Gw1) Gw2) Gw3) Mw4)
    have hr := Option.some.inj hm
    subst hr
    refine ⟨_, _, rfl, res_2 rfl (rv_tmp rfl) (rv_tmp rfl), ?_⟩
    exact ⟨(.slice none 0 0), 0, 0, rfl, (own_nil _ 0 47 2), ⟨.inl rfl⟩, X8⟩
  ·
    replace hm := ite_f (of_decide_eq_false c1) hm
    refine sw_skip ?_
    refine then_n ?_
    refine sw_seq ?_
    refine sw_seq ?_
    -- region 4 cover.go:59
    refine sw_region [(0, 0), (1, 0), (2, 0), (3, 0)] rfl rfl rfl ?_
    refine sd_vv rfl rfl rfl (vv_loadW agg_134 rfl Bw4 rfl) ?_
    refine sd_vv rfl rfl rfl (vv_move rfl) ?_
    have B9 := (Rd.md (Rd.gr (Rd.gr (Rd.gr hp1 Gw1) Gw2) Gw3) Mw4 (tk1 ((pv_lt (A := (fun x => x ≠ b3)) lt1) : zp1 = 0 ∨ gp1 ≠ b3)))
    have hb := bnd hm; clear hm; obtain ⟨x2, hx2, hm⟩ := hb
    refine sd_ev rfl rfl rfl (ev_call en_109 rfl (cover_tree_list_w x1.1 p1 _ _ _ _ _ hx2 _ B9)) ?_
    rintro _ w5 ⟨rfl, Gw5⟩
    have z10 := Gw5.size
    refine sd_vv rfl rfl rfl (vv_not rfl) ?_
    refine sd_done ?_
    refine sw_cond rfl (fun c2 => ?_) (fun c2 => ?_)
    ·
      replace hm := cnd_t c2 hm
      refine sw_seq ?_
      -- region 5 cover.go:60
      refine sw_region [(0, 0), (1, 0)] rfl rfl rfl ?_
      refine sd_vv rfl rfl rfl (vv_assign rfl) ?_
      refine sd_vv rfl rfl rfl (vv_assign rfl) ?_
      refine sd_done ?_
      refine sw_ret ?_
      refine then_r ?_
      have X11 : Gr w w5 := (Gr.trans (Gr.md (Gr.trans (Gr.trans (Gr.trans (Gr.refl w) Gw1) Gw2) Gw3) Mw4) Gw5)
      have hr := Option.some.inj hm
      subst hr
      refine ⟨_, _, rfl, res_2 rfl (rv_tmp rfl) (rv_tmp rfl), ?_⟩
      exact ⟨(.slice none 0 0), 0, 0, rfl, (own_nil _ 0 47 2), ⟨.inl rfl⟩, X11⟩
    ·
      replace hm := cnd_f c2 hm
      refine sw_skip ?_
      refine then_n ?_
      refine sw_seq ?_
      refine sw_seq ?_
      -- region 6 cover.go:62
      refine sw_region [(0, 0), (1, 0), (2, 0)] rfl rfl rfl ?_
      refine sd_vv rfl rfl rfl (vv_move rfl) ?_
      have B12 := (Rd.gr B9 Gw5)
      refine sd_vv rfl rfl rfl (vv_lenT (l := p1) (c := ic) Try.underlying61 rfl B12) ?_
      refine sd_vv rfl rfl rfl (vv_eql (a := (p1.length : Int)) (b := 0) rfl rfl) ?_
      refine sd_done ?_
      refine sw_cond rfl (fun c3 => ?_) (fun c3 => ?_)
      ·
        replace hm := ite_t (of_decide_eq_true c3) hm
        refine sw_seq ?_
        -- region 7 cover.go:63
        refine sw_region [(0, 0), (1, 0), (2, 0), (3, 0)] rfl rfl rfl ?_
        refine sd_vv rfl rfl rfl (vv_build (cs := TSubset.cs (TSubset.mk 1 0)) bs_47 rfl rfl) ?_
        refine sd_ev rfl rfl rfl (ev_litT [(TSubset.mk 1 0)] TSubset.cs bsl_48_1 rfl rfl (ws_of rfl) rfl rfl rfl) ?_
        rintro vw6 w6 ⟨gw6, hbw6, Ow6, Gw6⟩
        have z13 := Gw6.size
        have lt14 := Ow6.lth
        refine sd_vv rfl rfl rfl (vv_assign rfl) ?_
        refine sd_vv rfl rfl rfl (vv_assign rfl) ?_
        refine sd_done ?_
        refine sw_ret ?_
        refine then_r ?_
        have X15 : Gr w w6 := (Gr.trans (Gr.trans (Gr.md (Gr.trans (Gr.trans (Gr.trans (Gr.refl w) Gw1) Gw2) Gw3) Mw4) Gw5) Gw6)
        have hr := Option.some.inj hm
        subst hr
        refine ⟨_, _, rfl, res_2 rfl (rv_tmp rfl) (rv_tmp rfl), ?_⟩
        exact ⟨vw6, 1, gw6, rfl, Ow6, ⟨(.inr tk0)⟩, X15⟩
      ·
        replace hm := ite_f (of_decide_eq_false c3) hm
        refine sw_skip ?_
        refine then_n ?_
        refine sw_seq ?_
        -- region 8 cover.go:65
        refine sw_region [(0, 0), (1, 0)] rfl rfl rfl ?_
        refine sd_ev rfl rfl rfl (ev_makeMap) ?_
        rintro _ w7 ⟨b7, rfl, hbw7, Bw7, Gw7⟩
        have z16 := Gw7.size
        have lt17 := Bw7.lt
        refine sd_vv rfl rfl rfl (vv_assign rfl) ?_
        refine sd_done ?_
        refine sw_seq ?_
        refine sw_seq ?_
        -- region 9 cover.go:66
        refine sw_region [(0, 0), (1, 0), (2, 0)] rfl rfl rfl ?_
        refine sd_vv rfl rfl rfl (vv_move rfl) ?_
        have B18 := (Rd.gr B12 Gw7)
        refine sd_vv rfl rfl rfl (vv_lenT (l := p1) (c := ic) Try.underlying61 rfl B18) ?_
        refine sd_vv rfl rfl rfl (vv_move rfl) ?_
        refine sd_done ?_
        refine sw_block ?_
        have X19 : Gr w w7 := (Gr.trans (Gr.trans (Gr.md (Gr.trans (Gr.trans (Gr.trans (Gr.refl w) Gw1) Gw2) Gw3) Mw4) Gw5) Gw7)
        refine sw_loopD (α := Nat × Int × List Int) [10, 11, 37, 38, 39, 40, 41, 42, 43, 44, 45, 46, 47, 48, 49, 50] (fun ⟨n1, a5, a6⟩ => [(37, .int .i64 a5)]) (fun ⟨n1, a5, a6⟩ wr => (fixN (cover_Cover_L1 p1 x1) n1 (a5, a6) = some r) ∧ Mo wr b7 a6 ∧ Kz [(1, b7)] w7 wr) (fun ⟨n1, a5, a6⟩ => n1) ⟨FUEL, 0, []⟩ ?_ ?_ ?_
        · repeat' first | exact trivial | refine ⟨rfl, ?_⟩
        · exact ⟨hm, Bw7, Kz.refl _ _⟩
        · clear hm; rintro ⟨n1, a5, a6⟩ w8 ⟨hm, Fw8_0, Kw8⟩
          have z20 := Kw8.size
          have lt21 := Fw8_0.lt
          have hb := fix_succ hm; clear hm; obtain ⟨n1, rfl, hm⟩ := hb
          generalize hrec1 : fixN (cover_Cover_L1 p1 x1) n1 = rec1 at hm
          unfold cover_Cover_L1 at hm
          try dsimp only at hm
          refine sw_seq ?_
          -- region 10 cover.go:66
          refine sw_region [(0, 0)] rfl rfl rfl ?_
          refine sd_vv rfl rfl rfl (vv_lss (a := a5) (b := (p1.length : Int)) rfl rfl) ?_
          refine sd_done ?_
          refine sw_seq ?_
          refine sw_cond rfl (fun c4 => ?_) (fun c4 => ?_)
          ·
            replace hm := ite_t (of_decide_eq_true c4) hm
            refine sw_skip ?_
            refine then_n ?_
            refine sw_seq ?_
            refine sw_block ?_
            refine sw_seq ?_
            -- region 11 cover.go:66
            refine sw_region [(0, 0), (1, 0), (2, 0)] rfl rfl rfl ?_
            have hb := bnd hm; clear hm; obtain ⟨y7, hy7, hm⟩ := hb
            have B22 := (Rd.kz B18 Kw8 (tk1 ((pv_lt (A := (fun x => x ≠ b7)) lt1) : zp1 = 0 ∨ gp1 ≠ b7)))
            refine sd_vv rfl rfl rfl (vv_ixT (i := a5) Try.underlying61 (one_3).siz rfl B22 rfl hy7) ?_
            refine sd_vv rfl rfl rfl (vv_el1T (q := 0) (u := .int .i64 y7) one_3 rfl B22 hy7 (by first | rfl | omega) rfl) ?_
            refine sd_vv rfl rfl rfl (vv_assign rfl) ?_
            refine sd_done ?_
            refine sw_seq ?_
            -- region 12 cover.go:67
            refine sw_region [(0, 0), (1, 0), (2, 0), (3, 0)] rfl rfl rfl ?_
            have B23 := (Bx.kz (Bx.gr (Bx.gr Bw4 Gw5) Gw7) Kw8)
            refine sd_vv rfl rfl rfl (vv_loadW agg_134 rfl B23 rfl) ?_
            refine sd_vv rfl rfl rfl (vv_move rfl) ?_
            have hb := bnd hm; clear hm; obtain ⟨x8, hx8, hm⟩ := hb
            refine sd_ev rfl rfl rfl (ev_call en_112 rfl (cover_tree_leaf_w x1.1 y7 _ hx8 _)) ?_
            rintro _ w9 ⟨rfl, Gw9⟩
            have z24 := Gw9.size
            refine sd_vv rfl rfl rfl (vv_assign rfl) ?_
            refine sd_done ?_
            refine sw_block ?_
            have X25 : Gr w w9 := (Gr.trans (Gr.kz X19 Kw8) Gw9)
            have B26 := (Rd.gr B22 Gw9)
            have B27 := (Mo.gr Fw8_0 Gw9)
            refine sw_loopD (α := Nat × Int × List Int) [11, 44, 45, 46, 47, 48, 49] (fun ⟨n2, a11, a12⟩ => [(11, .int .i64 a11)]) (fun ⟨n2, a11, a12⟩ wr => (fixN (cover_Cover_L2 a5 rec1) n2 (a11, a12) = some r) ∧ Mo wr b7 a12 ∧ Kz [(1, b7)] w9 wr) (fun ⟨n2, a11, a12⟩ => n2) ⟨FUEL, x8, a6⟩ ?_ ?_ ?_
            · repeat' first | exact trivial | refine ⟨rfl, ?_⟩
            · exact ⟨hm, B27, Kz.refl _ _⟩
            · clear hm; rintro ⟨n2, a11, a12⟩ w10 ⟨hm, Fw10_0, Kw10⟩
              have z28 := Kw10.size
              have lt29 := Fw10_0.lt
              have hb := fix_succ hm; clear hm; obtain ⟨n2, rfl, hm⟩ := hb
              generalize hrec2 : fixN (cover_Cover_L2 a5 rec1) n2 = rec2 at hm
              unfold cover_Cover_L2 at hm
              try dsimp only at hm
              refine sw_seq ?_
              refine sw_seq ?_
              -- region 13 cover.go:67
              refine sw_region [(0, 0), (1, 0)] rfl rfl rfl ?_
              refine sd_vv rfl rfl rfl (vv_move rfl) ?_
              refine sd_vv rfl rfl rfl (vv_gtr (a := a11) (b := 0) rfl rfl) ?_
              refine sd_done ?_
              refine sw_cond rfl (fun c5 => ?_) (fun c5 => ?_)
              ·
                replace hm := ite_t (of_decide_eq_true c5) hm
                refine sw_skip ?_
                refine then_n ?_
                refine sw_seq ?_
                refine sw_block ?_
                -- region 15 cover.go:68
                refine sw_region [(0, 0), (1, 0), (2, 0)] rfl rfl rfl ?_
                refine sd_vv rfl rfl rfl (vv_move rfl) ?_
                refine sd_vv rfl rfl rfl (vv_move rfl) ?_
                refine sd_ev rfl rfl rfl (ev_mapUpd (k := a11) mpt_172 rfl rfl rfl Fw10_0) ?_
                rintro _ w11 ⟨Bw11, Mw11⟩
                have z30 := Mw11.size
                refine sd_nil ?_
                refine block_n ?_
                refine then_n ?_
                -- region 14 cover.go:67
                refine sw_region [(0, 0), (1, 0), (2, 0)] rfl rfl rfl ?_
                refine sd_vv rfl rfl rfl (vv_move rfl) ?_
                have hb := bnd hm; clear hm; obtain ⟨n13, hn13, hm⟩ := hb
                refine sd_vv rfl rfl rfl (vv_shrI (a := a11) (b := (un 1#64)) rfl rfl hn13) ?_
                refine sd_vv rfl rfl rfl (vv_assign rfl) ?_
                refine sd_nil ?_
                have K_31 : Kz [(1, b7)] w9 w11 := (Kz.md Kw10 Mw11)
                subst hrec2
                refine ⟨rfl, ⟨n2, shrI a11 n13, insS a12 a11⟩, ?_, ⟨hm, Bw11, K_31⟩, Nat.lt_succ_self _⟩
                repeat' first | exact trivial | refine ⟨rfl, ?_⟩
              ·
                replace hm := ite_f (of_decide_eq_false c5) hm
                refine sw_exit ?_
                refine then_x ?_
                refine then_x ?_
                refine block_x ?_
                refine block_n ?_
                refine then_n ?_
                -- region 16 cover.go:66
                refine sw_region [(0, 0), (1, 0)] rfl rfl rfl ?_
                refine sd_vv rfl rfl rfl (vv_add (k := .i64) (a := a5) (b := 1) rfl rfl) ?_
                refine sd_vv rfl rfl rfl (vv_move rfl) ?_
                refine sd_nil ?_
                have K_32 : Kz [(1, b7)] w7 w10 := (Kz.kz (Kz.gr Kw8 Gw9) Kw10)
                subst hrec1
                refine ⟨rfl, ⟨n1, w64 (a5 + 1), a12⟩, ?_, ⟨hm, Fw10_0, K_32⟩, Nat.lt_succ_self _⟩
                repeat' first | exact trivial | refine ⟨rfl, ?_⟩
          ·
            replace hm := ite_f (of_decide_eq_false c4) hm
            refine sw_exit ?_
            refine then_x ?_
            refine then_x ?_
            refine block_x ?_
            refine then_n ?_
            refine sw_seq ?_
            -- region 17 cover.go:71
            refine sw_region [(0, 0)] rfl rfl rfl ?_
            refine sd_ev rfl rfl rfl (ev_alloc (cs := [(.slice none 0 0)]) zv_48 rfl) ?_
            rintro _ w12 ⟨b12, rfl, hbw12, Bw12, Gw12⟩
            have z33 := Gw12.size
            have lt34 := Bw12.lt
            refine sd_done ?_
            refine sw_seq ?_
            -- region 18 cover.go:72
            refine sw_region [(0, 0), (1, 0)] rfl rfl rfl ?_
            refine sd_vv rfl rfl rfl (vv_makeFunc rfl rfl) ?_
            refine sd_vv rfl rfl rfl (vv_assign rfl) ?_
            refine sd_done ?_
            refine sw_seq ?_
            refine sw_seq ?_
            -- region 19 cover.go:73
            refine sw_region [(0, 0), (1, 0)] rfl rfl rfl ?_
            refine sd_vv rfl rfl rfl (vv_move rfl) ?_
            have B35 := (Mo.gr Fw8_0 Gw12)
            refine sd_ev rfl rfl rfl (ev_rangeM mpt_172 rfl B35) ?_
            rintro _ w13 ⟨b13, rfl, hbw13, Bw13, Gw13⟩
            have z36 := Gw13.size
            have lt37 := Bw13.lt
            refine sd_done ?_
            refine sw_block ?_
            have X38 : Gr w w13 := (Gr.trans (Gr.trans (Gr.kz X19 Kw8) Gw12) Gw13)
            have B39 := (Rd.gr (Rd.gr (Rd.kz B18 Kw8 (tk1 ((pv_lt (A := (fun x => x ≠ b7)) lt1) : zp1 = 0 ∨ gp1 ≠ b7))) Gw12) Gw13)
            have B40 := (Mo.gr B35 Gw13)
            have B41 := (Bx.gr Bw12 Gw13)
            refine sw_loopD (α := Nat × List TSubset × Value × Nat × Nat × List Int) [14, 15, 16, 54, 55, 56, 57, 58, 59, 60, 61, 62, 63, 64, 65, 66, 67, 68, 69, 70, 71, 72, 73, 74, 75, 76, 77, 78, 79, 80, 81, 82, 83, 84, 85, 86, 87, 88, 89, 90, 91, 92, 93, 94, 95, 96, 97, 98, 99, 100, 101, 102, 103, 104, 105, 106, 107, 108, 109, 110, 111, 112, 113, 114, 115, 116, 117, 118, 119, 120, 121, 122, 123, 124, 125, 126, 127, 128, 129, 130] (fun ⟨n3, a16, vy17, zy17, gy17, rem⟩ => []) (fun ⟨n3, a16, vy17, zy17, gy17, rem⟩ wr => (rngM (cover_Cover_S3 x1 a6) cover_Cover_E3 n3 rem a16 = some r) ∧ Own wr zy17 gy17 47 2 vy17 (a16.map TSubset.cs) ∧ Hdn (zy17 = 0 ∨ w13.heap.size ≤ gy17) ∧ Bx wr b12 48 [vy17] ∧ Mi wr b13 b7 a6 rem ∧ Kz [(1, b12), (1, b13)] w13 wr) (fun ⟨n3, a16, vy17, zy17, gy17, rem⟩ => n3) ⟨FUEL, [], (.slice none 0 0), 0, 0, a6⟩ ?_ ?_ ?_
            · repeat' first | exact trivial | refine ⟨rfl, ?_⟩
            · exact ⟨hm, (own_nil _ 0 47 2), ⟨(.inl rfl)⟩, B41, Bw13, Kz.refl _ _⟩
            · clear hm; rintro ⟨n3, a16, vy17, zy17, gy17, rem3⟩ w14 ⟨hm, Fw14_0, Fw14_1, Fw14_2, Iw14, Kw14⟩
              have z42 := Kw14.size
              have lt43 := Fw14_0.lth
              have lt44 := Fw14_2.lt
              have lt45 := Iw14.lt
              refine sw_seq ?_
              -- region 20 cover.go:73
              refine sw_region [(0, 0), (1, 0)] rfl rfl rfl ?_
              have B46 := (Mo.kz B40 Kw14)
              refine sd_ev rfl rfl rfl (ev_nextM rfl B46 Iw14) ?_
              rintro _ w15 (⟨rfl, hr, Gw15⟩ | ⟨k18, hk, rfl, MKw15, Mw15⟩)
              ·
                have z47 := Gw15.size
                replace hm := rngM_nil hm hr
                unfold cover_Cover_E3 at hm
                try dsimp only at hm
                refine sd_vv rfl rfl rfl (vv_extract rfl rfl) ?_
                refine sd_done ?_
                refine sw_seq ?_
                refine sw_condF rfl ?_
                refine sw_exit ?_
                refine then_x ?_
                refine then_x ?_
                refine block_x ?_
                refine then_n ?_
                refine sw_seq ?_
                -- region 37 cover.go:99
                refine sw_region [(0, 0), (1, 0)] rfl rfl rfl ?_
                have B48 := (Bx.gr Fw14_2 Gw15)
                refine sd_vv rfl rfl rfl (vv_load1 (v := vy17) one_48 rfl B48 rfl) ?_
                have B49 := (Own.gr Fw14_0 Gw15)
                have hb := bnd hm; clear hm; obtain ⟨l19, hl19, hm⟩ := hb
                refine sd_ev rfl rfl rfl (ev_call en_115 rfl (sortSub_c hl19 _ _ _ _ B49)) ?_
                rintro _ w16 ⟨Ow16, Kw16⟩
                have z50 := Kw16.size
                refine sd_done ?_
                refine sw_seq ?_
                -- region 38 cover.go:100
                refine sw_region [(0, 0), (1, 0), (2, 0)] rfl rfl rfl ?_
                have B51 := (Bx.kz B48 Kw16 (tk1 ((pv_0 (A := (fun x => x ≠ b12)) Fw14_1) : zy17 = 0 ∨ gy17 ≠ b12)))
                refine sd_vv rfl rfl rfl (vv_load1 (v := vy17) one_48 rfl B51 rfl) ?_
                refine sd_vv rfl rfl rfl (vv_assign rfl) ?_
                refine sd_vv rfl rfl rfl (vv_assign rfl) ?_
                refine sd_done ?_
                refine sw_ret ?_
                have X52 : Gr w w16 := (Gr.kz (Gr.trans (Gr.kz X38 Kw14) Gw15) Kw16 (tk1 ((pv_0 (A := (fun x => w.heap.size ≤ x)) Fw14_1) : zy17 = 0 ∨ w.heap.size ≤ gy17)))
                have hr := Option.some.inj hm
                subst hr
                refine ⟨_, _, rfl, res_2 rfl (rv_tmp rfl) (rv_tmp rfl), ?_⟩
                exact ⟨vy17, zy17, gy17, rfl, Ow16, ⟨(pv_0 (A := (fun x => w.heap.size ≤ x)) Fw14_1)⟩, X52⟩
              ·
                have z53 := Mw15.size
                have hb := rngM_at hm hk; clear hm; obtain ⟨n3, rfl, hm⟩ := hb
                generalize hnx3 : rngM (cover_Cover_S3 x1 a6) cover_Cover_E3 n3 (rem3.filter (· ≠ k18)) = nx3 at hm
                unfold cover_Cover_S3 at hm
                try dsimp only at hm
                refine sd_vv rfl rfl rfl (vv_extract rfl rfl) ?_
                refine sd_done ?_
                refine sw_seq ?_
                refine sw_condT rfl ?_
                refine sw_skip ?_
                refine then_n ?_
                refine sw_block ?_
                refine sw_seq ?_
                -- region 21 cover.go:73
                refine sw_region [(0, 0), (1, 0), (2, 0)] rfl rfl rfl ?_
                have B54 := (Mo.md B46 Mw15)
                refine sd_vv rfl rfl rfl (vv_entryM rfl B54 MKw15) ?_
                refine sd_vv rfl rfl rfl (vv_extract rfl rfl) ?_
                refine sd_vv rfl rfl rfl (vv_assign rfl) ?_
                refine sd_done ?_
                refine sw_seq ?_
                refine sw_seq ?_
                -- region 22 cover.go:74
                refine sw_region [(0, 0), (1, 0), (2, 0)] rfl rfl rfl ?_
                refine sd_vv rfl rfl rfl (vv_fieldAddr fa_134_0 rfl) ?_
                have B55 := (Bx.md (Bx.kz (Bx.gr (Bx.gr (Bx.kz (Bx.gr (Bx.gr Bw4 Gw5) Gw7) Kw8) Gw12) Gw13) Kw14) Mw15)
                refine sd_vv rfl rfl rfl (vv_load1 (v := bv x1.1.kind) one_5 rfl B55 rfl) ?_
                refine sd_vv rfl rfl rfl (vv_eqlB (p := x1.1.kind) (q := 1#8) rfl rfl) ?_
                refine sd_done ?_
                refine sw_cond rfl (fun c6 => ?_) (fun c6 => ?_)
                ·
                  replace hm := ite_t (of_decide_eq_true c6) hm
                  refine sw_seq ?_
                  have X56 : Gr w w15 := (Gr.md (Gr.kz X38 Kw14) Mw15)
                  refine sw_joinD (β := Bool) [61, 62, 63, 64, 65, 66, 67, 68, 69] (fun a20 => [(69, .bool a20)]) (fun a20 wr => (cover_Cover_J4 a16 nx3 k18 a20 = some r) ∧ Kz [] w15 wr) ?_ ?_
                  · clear hm; rintro a20 w17 ⟨hm, Kw17⟩
                    have z57 := Kw17.size
                    unfold cover_Cover_J4 at hm
                    refine sw_cond rfl (fun c7 => ?_) (fun c7 => ?_)
                    ·
                      replace hm := cnd_t c7 hm
                      -- region 24 cover.go:76
                      refine sw_region [(0, 0), (1, 0), (2, 0), (3, 0)] rfl rfl rfl ?_
                      refine sd_vv rfl rfl rfl (vv_move rfl) ?_
                      refine sd_vv rfl rfl rfl (vv_move rfl) ?_
                      have hb := bnd hm; clear hm; obtain ⟨x21, hx21, hm⟩ := hb
                      refine sd_ev rfl rfl rfl (ev_call en_78 rfl (cover_node_sibling_w k18 _ hx21 _)) ?_
                      rintro _ w18 ⟨rfl, Gw18⟩
                      have z58 := Gw18.size
                      have B59 := (Bx.gr (Bx.kz (Bx.md Fw14_2 Mw15) Kw17) Gw18)
                      have B60 := (Own.gr (Own.kz (Own.md Fw14_0 Mw15 (tk1 ((pv_0 (A := (fun x => x ≠ b13)) Fw14_1) : zy17 = 0 ∨ gy17 ≠ b13))) Kw17) Gw18)
                      have hb := bnd hm; clear hm; obtain ⟨x22, hx22, hm⟩ := hb
                      refine sd_ev rfl rfl rfl (ev_callV en_113 rfl rfl (cover_Cover_1_w x21 0 a16 _ vy17 zy17 gy17 _ hx22 _ B59 B60 ⟨(tk1 ((pv_0 (A := (fun x => x ≠ b12)) Fw14_1) : zy17 = 0 ∨ gy17 ≠ b12))⟩)) ?_
                      rintro _ w19 ⟨u19_b0_s, z19_b0_s, g19_b0_s, rfl, O19_b0_s, f19_b0_s, Bk19_0, Kw19⟩
                      have z61 := Kw19.size
                      have lt62 := O19_b0_s.lth
                      refine sd_done ?_
                      refine sw_exit ?_
                      refine then_x ?_
                      refine block_x ?_
                      have K_63 : Kz [(1, b12), (1, b13)] w13 w19 := (Kz.kz (Kz.gr (Kz.kz (Kz.md Kw14 Mw15) Kw17) Gw18) Kw19 (tk1 ((pv_0 (A := (fun x => w13.heap.size ≤ x)) Fw14_1) : zy17 = 0 ∨ w13.heap.size ≤ gy17)))
                      have B64 := (Mi.kz (Mi.gr (Mi.kz (Mk.mi MKw15) Kw17) Gw18) Kw19 (tk1 ((pv_0 (A := (fun x => x ≠ b13)) Fw14_1) : zy17 = 0 ∨ gy17 ≠ b13)))
                      subst hnx3
                      refine ⟨rfl, ⟨n3, x22, u19_b0_s, z19_b0_s, g19_b0_s, (rem3.filter (· ≠ k18))⟩, ?_, ⟨hm, O19_b0_s, ⟨(pv_1 (A := (fun x => w13.heap.size ≤ x)) f19_b0_s (pv_0 (A := (fun x => w13.heap.size ≤ x)) Fw14_1))⟩, Bk19_0, B64, K_63⟩, Nat.lt_succ_self _⟩
                      repeat' first | exact trivial | refine ⟨rfl, ?_⟩
                    ·
                      replace hm := cnd_f c7 hm
                      refine sw_skip ?_
                      refine then_n ?_
                      refine sw_exit ?_
                      refine then_x ?_
                      refine block_x ?_
                      have K_65 : Kz [(1, b12), (1, b13)] w13 w17 := (Kz.kz (Kz.md Kw14 Mw15) Kw17)
                      have B66 := (Own.kz (Own.md Fw14_0 Mw15 (tk1 ((pv_0 (A := (fun x => x ≠ b13)) Fw14_1) : zy17 = 0 ∨ gy17 ≠ b13))) Kw17)
                      have B67 := (Bx.kz (Bx.md Fw14_2 Mw15) Kw17)
                      have B68 := (Mi.kz (Mk.mi MKw15) Kw17)
                      subst hnx3
                      refine ⟨rfl, ⟨n3, a16, vy17, zy17, gy17, (rem3.filter (· ≠ k18))⟩, ?_, ⟨hm, B66, ⟨(pv_0 (A := (fun x => w13.heap.size ≤ x)) Fw14_1)⟩, B67, B68, K_65⟩, Nat.lt_succ_self _⟩
                      repeat' first | exact trivial | refine ⟨rfl, ?_⟩
                  ·
                    -- region 23 cover.go:75
                    refine sw_region [(0, 0), (1, 0), (2, 0), (3, 0), (4, 0), (5, 0), (6, 0), (7, 0), (8, 0)] rfl rfl rfl ?_
                    refine sd_vv rfl rfl rfl (vv_move rfl) ?_
                    refine sd_vv rfl rfl rfl (vv_gtr (a := k18) (b := 1) rfl rfl) ?_
                    refine sd_split rfl rfl rfl (vv_move rfl) (fun c8 => ?_) (fun c8 => ?_)
                    ·
                      replace hm := ite_t (of_decide_eq_true c8) hm
                      refine sd_vv rfl rfl rfl (vv_move rfl) ?_
                      refine sd_vv rfl rfl rfl (vv_move rfl) ?_
                      have hb := bnd hm; clear hm; obtain ⟨x23, hx23, hm⟩ := hb
                      refine sd_ev rfl rfl rfl (ev_call en_78 rfl (cover_node_sibling_w k18 _ hx23 _)) ?_
                      rintro _ w20 ⟨rfl, Gw20⟩
                      have z69 := Gw20.size
                      have B70 := (Mo.gr B54 Gw20)
                      refine sd_vv rfl rfl rfl (vv_lookup (k := x23) (ks := a6) mpt_172 rfl rfl B70) ?_
                      refine sd_vv rfl rfl rfl (vv_notD rfl) ?_
                      refine sd_vv rfl rfl rfl (vv_pickT rfl rfl) ?_
                      refine sd_nil ?_
                      have K_71 : Kz [] w15 w20 := (Kz.gr (Kz.refl _ _) Gw20)
                      refine ⟨rfl, (decide (¬ (x23 ∈ a6))), ?_, hm, K_71⟩
                      repeat' first | exact trivial | refine ⟨rfl, ?_⟩
                    ·
                      replace hm := ite_f (of_decide_eq_false c8) hm
                      refine sd_skip rfl rfl rfl ?_
                      refine sd_skip rfl rfl rfl ?_
                      refine sd_skip rfl rfl rfl ?_
                      refine sd_skip rfl rfl rfl ?_
                      refine sd_skip rfl rfl rfl ?_
                      refine sd_vv rfl rfl rfl (vv_pickF rfl rfl) ?_
                      refine sd_nil ?_
                      have K_72 : Kz [] w15 w15 := (Kz.refl _ _)
                      refine ⟨rfl, false, ?_, hm, K_72⟩
                      repeat' first | exact trivial | refine ⟨rfl, ?_⟩
                ·
                  replace hm := ite_f (of_decide_eq_false c6) hm
                  refine sw_skip ?_
                  refine then_n ?_
                  refine sw_seq ?_
                  have X73 : Gr w w15 := (Gr.md (Gr.kz X38 Kw14) Mw15)
                  refine sw_joinD (β := Bool) [74, 75, 76, 77, 78, 79, 80, 81, 82] (fun a24 => [(82, .bool a24)]) (fun a24 wr => (cover_Cover_J5 x1 a6 a16 nx3 k18 a24 = some r) ∧ Kz [] w15 wr) ?_ ?_
                  · clear hm; rintro a24 w21 ⟨hm, Kw21⟩
                    have z74 := Kw21.size
                    unfold cover_Cover_J5 at hm
                    refine sw_cond rfl (fun c9 => ?_) (fun c9 => ?_)
                    ·
                      replace hm := cnd_t c9 hm
                      refine sw_exit ?_
                      refine then_x ?_
                      refine block_x ?_
                      have K_75 : Kz [(1, b12), (1, b13)] w13 w21 := (Kz.kz (Kz.md Kw14 Mw15) Kw21)
                      have B76 := (Own.kz (Own.md Fw14_0 Mw15 (tk1 ((pv_0 (A := (fun x => x ≠ b13)) Fw14_1) : zy17 = 0 ∨ gy17 ≠ b13))) Kw21)
                      have B77 := (Bx.kz (Bx.md Fw14_2 Mw15) Kw21)
                      have B78 := (Mi.kz (Mk.mi MKw15) Kw21)
                      subst hnx3
                      refine ⟨rfl, ⟨n3, a16, vy17, zy17, gy17, (rem3.filter (· ≠ k18))⟩, ?_, ⟨hm, B76, ⟨(pv_0 (A := (fun x => w13.heap.size ≤ x)) Fw14_1)⟩, B77, B78, K_75⟩, Nat.lt_succ_self _⟩
                      repeat' first | exact trivial | refine ⟨rfl, ?_⟩
                    ·
                      replace hm := cnd_f c9 hm
                      refine sw_skip ?_
                      refine then_n ?_
                      refine sw_seq ?_
                      -- region 26 cover.go:83
                      refine sw_region [(0, 0), (1, 0)] rfl rfl rfl ?_
                      refine sd_vv rfl rfl rfl (vv_move rfl) ?_
                      refine sd_vv rfl rfl rfl (vv_assign rfl) ?_
                      refine sd_done ?_
                      refine sw_seq ?_
                      refine sw_block ?_
                      have X79 : Gr w w21 := (Gr.kz X73 Kw21)
                      have B80 := (Rd.kz (Rd.md (Rd.kz B39 Kw14 (tk2 ((pv_lt (A := (fun x => x ≠ b12)) lt1) : zp1 = 0 ∨ gp1 ≠ b12) ((pv_lt (A := (fun x => x ≠ b13)) lt1) : zp1 = 0 ∨ gp1 ≠ b13))) Mw15 (tk1 ((pv_lt (A := (fun x => x ≠ b13)) lt1) : zp1 = 0 ∨ gp1 ≠ b13))) Kw21)
                      have B81 := (Own.kz (Own.md Fw14_0 Mw15 (tk1 ((pv_0 (A := (fun x => x ≠ b13)) Fw14_1) : zy17 = 0 ∨ gy17 ≠ b13))) Kw21)
                      refine sw_loopD (α := Nat × Int) [15, 84, 85, 86, 87, 88, 89, 90, 91, 92, 93, 94, 95, 96, 97, 98, 99, 100, 101] (fun ⟨n6, a26⟩ => [(15, .int .i64 a26)]) (fun ⟨n6, a26⟩ wr => (fixN (cover_Cover_L6 x1 a6 a16 nx3 k18) n6 a26 = some r) ∧ Kz [] w21 wr) (fun ⟨n6, a26⟩ => n6) ⟨FUEL, k18⟩ ?_ ?_ ?_
                      · repeat' first | exact trivial | refine ⟨rfl, ?_⟩
                      · exact ⟨hm, Kz.refl _ _⟩
                      · clear hm; rintro ⟨n6, a26⟩ w22 ⟨hm, Kw22⟩
                        have z82 := Kw22.size
                        have hb := fix_succ hm; clear hm; obtain ⟨n6, rfl, hm⟩ := hb
                        generalize hrec6 : fixN (cover_Cover_L6 x1 a6 a16 nx3 k18) n6 = rec6 at hm
                        unfold cover_Cover_L6 at hm
                        try dsimp only at hm
                        refine sw_seq ?_
                        refine sw_seq ?_
                        -- region 27 cover.go:84
                        refine sw_region [(0, 0), (1, 0), (2, 0), (3, 0), (4, 0), (5, 0), (6, 0), (7, 0), (8, 0), (9, 0)] rfl rfl rfl ?_
                        refine sd_vv rfl rfl rfl (vv_move rfl) ?_
                        refine sd_vv rfl rfl rfl (vv_move rfl) ?_
                        refine sd_vv rfl rfl rfl (vv_mul (k := .i64) (a := 2) (b := a26) rfl rfl) ?_
                        have B83 := (Mo.kz (Mo.kz B54 Kw21) Kw22)
                        refine sd_vv rfl rfl rfl (vv_lookup (k := w64 (2 * a26)) (ks := a6) mpt_172 rfl rfl B83) ?_
                        refine sd_vv rfl rfl rfl (vv_move rfl) ?_
                        refine sd_vv rfl rfl rfl (vv_move rfl) ?_
                        refine sd_vv rfl rfl rfl (vv_mul (k := .i64) (a := 2) (b := a26) rfl rfl) ?_
                        refine sd_vv rfl rfl rfl (vv_add (k := .i64) (a := w64 (2 * a26)) (b := 1) rfl rfl) ?_
                        refine sd_vv rfl rfl rfl (vv_lookup (k := w64 ((w64 (2 * a26)) + 1)) (ks := a6) mpt_172 rfl rfl B83) ?_
                        refine sd_vv rfl rfl rfl (vv_neqL Try.underlying4 rfl rfl) ?_
                        refine sd_done ?_
                        refine sw_cond rfl (fun c10 => ?_) (fun c10 => ?_)
                        ·
                          replace hm := cnd_t c10 hm
                          refine sw_skip ?_
                          refine then_n ?_
                          refine sw_block ?_
                          refine sw_seq ?_
                          -- region 28 cover.go:85
                          refine sw_region [(0, 0), (1, 0), (2, 0)] rfl rfl rfl ?_
                          refine sd_vv rfl rfl rfl (vv_move rfl) ?_
                          refine sd_vv rfl rfl rfl (vv_mul (k := .i64) (a := a26) (b := 2) rfl rfl) ?_
                          refine sd_vv rfl rfl rfl (vv_assign rfl) ?_
                          refine sd_done ?_
                          refine sw_seq ?_
                          -- region 29 cover.go:86
                          refine sw_region [(0, 0), (1, 0), (2, 0), (3, 0)] rfl rfl rfl ?_
                          refine sd_vv rfl rfl rfl (vv_move rfl) ?_
                          refine sd_vv rfl rfl rfl (vv_move rfl) ?_
                          refine sd_vv rfl rfl rfl (vv_lookup (k := w64 (a26 * 2)) (ks := a6) mpt_172 rfl rfl B83) ?_
                          refine sd_vv rfl rfl rfl (vv_notD rfl) ?_
                          refine sd_done ?_
                          refine sw_cond rfl (fun c11 => ?_) (fun c11 => ?_)
                          ·
                            replace hm := ite_t (of_decide_eq_true c11) hm
                            -- region 30 cover.go:87
                            refine sw_region [(0, 0), (1, 0), (2, 0)] rfl rfl rfl ?_
                            refine sd_vv rfl rfl rfl (vv_move rfl) ?_
                            refine sd_vv rfl rfl rfl (vv_add (k := .i64) (a := w64 (a26 * 2)) (b := 1) rfl rfl) ?_
                            refine sd_vv rfl rfl rfl (vv_assign rfl) ?_
                            refine sd_nil ?_
                            refine block_n ?_
                            have K_84 : Kz [] w21 w22 := Kw22
                            subst hrec6
                            refine ⟨rfl, ⟨n6, w64 ((w64 (a26 * 2)) + 1)⟩, ?_, ⟨hm, K_84⟩, Nat.lt_succ_self _⟩
                            repeat' first | exact trivial | refine ⟨rfl, ?_⟩
                          ·
                            replace hm := ite_f (of_decide_eq_false c11) hm
                            refine sw_skip ?_
                            refine block_n ?_
                            have K_85 : Kz [] w21 w22 := Kw22
                            subst hrec6
                            refine ⟨rfl, ⟨n6, w64 (a26 * 2)⟩, ?_, ⟨hm, K_85⟩, Nat.lt_succ_self _⟩
                            repeat' first | exact trivial | refine ⟨rfl, ?_⟩
                        ·
                          replace hm := cnd_f c10 hm
                          refine sw_exit ?_
                          refine then_x ?_
                          refine then_x ?_
                          refine block_x ?_
                          refine then_n ?_
                          refine sw_seq ?_
                          refine sw_seq ?_
                          -- region 31 cover.go:90
                          refine sw_region [(0, 0), (1, 0), (2, 0)] rfl rfl rfl ?_
                          refine sd_vv rfl rfl rfl (vv_move rfl) ?_
                          refine sd_vv rfl rfl rfl (vv_move rfl) ?_
                          refine sd_vv rfl rfl rfl (vv_eql (a := a26) (b := k18) rfl rfl) ?_
                          refine sd_done ?_
                          refine sw_cond rfl (fun c12 => ?_) (fun c12 => ?_)
                          ·
                            replace hm := ite_t (of_decide_eq_true c12) hm
                            refine sw_exit ?_
                            refine then_x ?_
                            refine block_x ?_
                            have K_86 : Kz [(1, b12), (1, b13)] w13 w22 := (Kz.kz (Kz.kz (Kz.md Kw14 Mw15) Kw21) Kw22)
                            have B87 := (Own.kz B81 Kw22)
                            have B88 := (Bx.kz (Bx.kz (Bx.md Fw14_2 Mw15) Kw21) Kw22)
                            have B89 := (Mi.kz (Mi.kz (Mk.mi MKw15) Kw21) Kw22)
                            subst hnx3
                            refine ⟨rfl, ⟨n3, a16, vy17, zy17, gy17, (rem3.filter (· ≠ k18))⟩, ?_, ⟨hm, B87, ⟨(pv_0 (A := (fun x => w13.heap.size ≤ x)) Fw14_1)⟩, B88, B89, K_86⟩, Nat.lt_succ_self _⟩
                            repeat' first | exact trivial | refine ⟨rfl, ?_⟩
                          ·
                            replace hm := ite_f (of_decide_eq_false c12) hm
                            refine sw_skip ?_
                            refine then_n ?_
                            have X90 : Gr w w22 := (Gr.kz X79 Kw22)
                            refine sw_joinD (β := Int × List TSubset × Value × Nat × Nat) [14, 16, 105, 106, 107, 108, 109, 110, 111, 112, 113, 114, 115, 116, 117, 118, 119, 120, 121, 122, 123, 124, 125, 126] (fun ⟨a27, a28, vy29, zy29, gy29⟩ => [(14, .int .i64 a27)]) (fun ⟨a27, a28, vy29, zy29, gy29⟩ wr => (cover_Cover_J7 nx3 a26 a27 a28 = some r) ∧ Own wr zy29 gy29 47 2 vy29 (a28.map TSubset.cs) ∧ Hdn (zy29 = 0 ∨ (gy29 = gy17 ∧ zy17 ≠ 0) ∨ w22.heap.size ≤ gy29) ∧ Bx wr b12 48 [vy29] ∧ Kz [(1, b12), (zy17, gy17)] w22 wr) ?_ ?_
                            · clear hm; rintro ⟨a27, a28, vy29, zy29, gy29⟩ w23 ⟨hm, Fw23_0, Fw23_1, Fw23_2, Kw23⟩
                              have z91 := Kw23.size
                              have lt92 := Fw23_0.lth
                              have lt93 := Fw23_2.lt
                              unfold cover_Cover_J7 at hm
                              -- region 36 cover.go:97
                              refine sw_region [(0, 0), (1, 0), (2, 0), (3, 0)] rfl rfl rfl ?_
                              refine sd_vv rfl rfl rfl (vv_move rfl) ?_
                              refine sd_vv rfl rfl rfl (vv_move rfl) ?_
                              refine sd_vv rfl rfl rfl (vv_move rfl) ?_
                              have hb := bnd hm; clear hm; obtain ⟨x30, hx30, hm⟩ := hb
                              refine sd_ev rfl rfl rfl (ev_callV en_113 rfl rfl (cover_Cover_1_w a27 a26 a28 _ vy29 zy29 gy29 _ hx30 _ Fw23_2 Fw23_0 ⟨(tk1 ((pv_1 (A := (fun x => x ≠ b12)) Fw23_1 (pv_0 (A := (fun x => x ≠ b12)) Fw14_1)) : zy29 = 0 ∨ gy29 ≠ b12))⟩)) ?_
                              rintro _ w24 ⟨u24_b0_s, z24_b0_s, g24_b0_s, rfl, O24_b0_s, f24_b0_s, Bk24_0, Kw24⟩
                              have z94 := Kw24.size
                              have lt95 := O24_b0_s.lth
                              refine sd_nil ?_
                              refine block_n ?_
                              have K_96 : Kz [(1, b12), (1, b13)] w13 w24 := (Kz.kz (Kz.kz (Kz.kz (Kz.kz (Kz.md Kw14 Mw15) Kw21) Kw22) Kw23 (tk1 ((pv_0 (A := (fun x => w13.heap.size ≤ x)) Fw14_1) : zy17 = 0 ∨ w13.heap.size ≤ gy17))) Kw24 (tk1 ((pv_1 (A := (fun x => w13.heap.size ≤ x)) Fw23_1 (pv_0 (A := (fun x => w13.heap.size ≤ x)) Fw14_1)) : zy29 = 0 ∨ w13.heap.size ≤ gy29)))
                              have B97 := (Mi.kz (Mi.kz (Mi.kz (Mi.kz (Mk.mi MKw15) Kw21) Kw22) Kw23 (tk1 ((pv_0 (A := (fun x => x ≠ b13)) Fw14_1) : zy17 = 0 ∨ gy17 ≠ b13))) Kw24 (tk1 ((pv_1 (A := (fun x => x ≠ b13)) Fw23_1 (pv_0 (A := (fun x => x ≠ b13)) Fw14_1)) : zy29 = 0 ∨ gy29 ≠ b13)))
                              subst hnx3
                              refine ⟨rfl, ⟨n3, x30, u24_b0_s, z24_b0_s, g24_b0_s, (rem3.filter (· ≠ k18))⟩, ?_, ⟨hm, O24_b0_s, ⟨(pv_1 (A := (fun x => w13.heap.size ≤ x)) f24_b0_s (pv_1 (A := (fun x => w13.heap.size ≤ x)) Fw23_1 (pv_0 (A := (fun x => w13.heap.size ≤ x)) Fw14_1)))⟩, Bk24_0, B97, K_96⟩, Nat.lt_succ_self _⟩
                              repeat' first | exact trivial | refine ⟨rfl, ?_⟩
                            ·
                              refine sw_seq ?_
                              -- region 32 cover.go:93
                              refine sw_region [(0, 0), (1, 0), (2, 0), (3, 0), (4, 0)] rfl rfl rfl ?_
                              have B98 := (Bx.kz (Bx.kz B55 Kw21) Kw22)
                              refine sd_vv rfl rfl rfl (vv_loadW agg_134 rfl B98 rfl) ?_
                              refine sd_vv rfl rfl rfl (vv_move rfl) ?_
                              refine sd_vv rfl rfl rfl (vv_move rfl) ?_
                              have hb := bnd hm; clear hm; obtain ⟨x31, hx31, hm⟩ := hb
                              refine sd_ev rfl rfl rfl (ev_call en_80 rfl (cover_tree_cut_w x1.1 k18 a26 _ hx31 _)) ?_
                              rintro _ w25 ⟨rfl, Gw25⟩
                              have z99 := Gw25.size
                              refine sd_vv rfl rfl rfl (vv_assign rfl) ?_
                              refine sd_done ?_
                              have X100 : Gr w w25 := (Gr.trans X90 Gw25)
                              refine sw_joinD (β := Bool) [109, 110, 111, 112, 113, 114, 115, 116, 117, 118, 119, 120, 121] (fun a32 => [(121, .bool a32)]) (fun a32 wr => (cover_Cover_J8 a16 nx3 k18 a26 x31 a32 = some r) ∧ Kz [] w25 wr) ?_ ?_
                              · clear hm; rintro a32 w26 ⟨hm, Kw26⟩
                                have z101 := Kw26.size
                                unfold cover_Cover_J8 at hm
                                refine sw_cond rfl (fun c13 => ?_) (fun c13 => ?_)
                                ·
                                  replace hm := cnd_t c13 hm
                                  refine sw_seq ?_
                                  -- region 34 cover.go:94
                                  refine sw_region [(0, 0), (1, 0), (2, 0), (3, 0)] rfl rfl rfl ?_
                                  refine sd_vv rfl rfl rfl (vv_move rfl) ?_
                                  refine sd_vv rfl rfl rfl (vv_move rfl) ?_
                                  refine sd_vv rfl rfl rfl (vv_move rfl) ?_
                                  have B102 := (Bx.kz (Bx.gr (Bx.kz (Bx.kz (Bx.md Fw14_2 Mw15) Kw21) Kw22) Gw25) Kw26)
                                  have B103 := (Own.kz (Own.gr (Own.kz B81 Kw22) Gw25) Kw26)
                                  have hb := bnd hm; clear hm; obtain ⟨x33, hx33, hm⟩ := hb
                                  refine sd_ev rfl rfl rfl (ev_callV en_113 rfl rfl (cover_Cover_1_w k18 x31 a16 _ vy17 zy17 gy17 _ hx33 _ B102 B103 ⟨(tk1 ((pv_0 (A := (fun x => x ≠ b12)) Fw14_1) : zy17 = 0 ∨ gy17 ≠ b12))⟩)) ?_
                                  rintro _ w27 ⟨u27_b0_s, z27_b0_s, g27_b0_s, rfl, O27_b0_s, f27_b0_s, Bk27_0, Kw27⟩
                                  have z104 := Kw27.size
                                  have lt105 := O27_b0_s.lth
                                  refine sd_done ?_
                                  -- region 35 cover.go:95
                                  refine sw_region [(0, 0), (1, 0)] rfl rfl rfl ?_
                                  refine sd_vv rfl rfl rfl (vv_move rfl) ?_
                                  refine sd_vv rfl rfl rfl (vv_assign rfl) ?_
                                  refine sd_nil ?_
                                  have K_106 : Kz [(1, b12), (zy17, gy17)] w22 w27 := (Kz.kz (Kz.kz (Kz.gr (Kz.refl _ _) Gw25) Kw26) Kw27 (tk1 (tk0 : zy17 = 0 ∨ (gy17 = gy17 ∧ zy17 ≠ 0) ∨ w22.heap.size ≤ gy17)))
                                  refine ⟨rfl, ⟨x31, x33, u27_b0_s, z27_b0_s, g27_b0_s⟩, ?_, hm, O27_b0_s, ⟨(pv_1 (A := (fun x => (x = gy17 ∧ zy17 ≠ 0) ∨ w22.heap.size ≤ x)) f27_b0_s tk0)⟩, Bk27_0, K_106⟩
                                  repeat' first | exact trivial | refine ⟨rfl, ?_⟩
                                ·
                                  replace hm := cnd_f c13 hm
                                  refine sw_skip ?_
                                  have K_107 : Kz [(1, b12), (zy17, gy17)] w22 w26 := (Kz.kz (Kz.gr (Kz.refl _ _) Gw25) Kw26)
                                  have B108 := (Own.kz (Own.gr (Own.kz B81 Kw22) Gw25) Kw26)
                                  have B109 := (Bx.kz (Bx.gr (Bx.kz (Bx.kz (Bx.md Fw14_2 Mw15) Kw21) Kw22) Gw25) Kw26)
                                  refine ⟨rfl, ⟨k18, a16, vy17, zy17, gy17⟩, ?_, hm, B108, ⟨tk0⟩, B109, K_107⟩
                                  repeat' first | exact trivial | refine ⟨rfl, ?_⟩
                              ·
                                -- region 33 cover.go:93
                                refine sw_region [(0, 0), (1, 0), (2, 0), (3, 0), (4, 0), (5, 0), (6, 0), (7, 0), (8, 0), (9, 0), (10, 0), (11, 0), (12, 0)] rfl rfl rfl ?_
                                refine sd_vv rfl rfl rfl (vv_move rfl) ?_
                                refine sd_vv rfl rfl rfl (vv_neq (a := x31) (b := 0) rfl rfl) ?_
                                refine sd_split rfl rfl rfl (vv_move rfl) (fun c14 => ?_) (fun c14 => ?_)
                                ·
                                  replace hm := ite_t (of_decide_eq_true c14) hm
                                  refine sd_vv rfl rfl rfl (vv_fieldAddr fa_134_0 rfl) ?_
                                  have B110 := (Bx.gr B98 Gw25)
                                  refine sd_vv rfl rfl rfl (vv_load1 (v := bv x1.1.kind) one_5 rfl B110 rfl) ?_
                                  refine sd_vv rfl rfl rfl (vv_eqlB (p := x1.1.kind) (q := 3#8) rfl rfl) ?_
                                  refine sd_vv rfl rfl rfl (vv_pickT rfl rfl) ?_
                                  refine sd_split rfl rfl rfl (vv_move rfl) (fun c15 => ?_) (fun c15 => ?_)
                                  ·
                                    replace hm := ite_t (of_decide_eq_true c15) hm
                                    refine sd_vv rfl rfl rfl (vv_loadW agg_134 rfl B110 rfl) ?_
                                    refine sd_vv rfl rfl rfl (vv_move rfl) ?_
                                    have hb := bnd hm; clear hm; obtain ⟨x34, hx34, hm⟩ := hb
                                    refine sd_ev rfl rfl rfl (ev_call en_114 rfl (cover_tree_special_w x1.1 k18 _ hx34 _)) ?_
                                    rintro _ w28 ⟨rfl, Gw28⟩
                                    have z111 := Gw28.size
                                    refine sd_vv rfl rfl rfl (vv_not rfl) ?_
                                    refine sd_vv rfl rfl rfl (vv_pickT rfl rfl) ?_
                                    refine sd_nil ?_
                                    have K_112 : Kz [] w25 w28 := (Kz.gr (Kz.refl _ _) Gw28)
                                    refine ⟨rfl, (!x34), ?_, hm, K_112⟩
                                    repeat' first | exact trivial | refine ⟨rfl, ?_⟩
                                  ·
                                    replace hm := ite_f (of_decide_eq_false c15) hm
                                    refine sd_skip rfl rfl rfl ?_
                                    refine sd_skip rfl rfl rfl ?_
                                    refine sd_skip rfl rfl rfl ?_
                                    refine sd_skip rfl rfl rfl ?_
                                    refine sd_vv rfl rfl rfl (vv_pickF rfl rfl) ?_
                                    refine sd_nil ?_
                                    have K_113 : Kz [] w25 w25 := (Kz.refl _ _)
                                    refine ⟨rfl, false, ?_, hm, K_113⟩
                                    repeat' first | exact trivial | refine ⟨rfl, ?_⟩
                                ·
                                  replace hm := ite_f (of_decide_eq_false c14) hm
                                  refine sd_skip rfl rfl rfl ?_
                                  refine sd_skip rfl rfl rfl ?_
                                  refine sd_skip rfl rfl rfl ?_
                                  refine sd_vv rfl rfl rfl (vv_pickF rfl rfl) ?_
                                  refine sd_vv rfl rfl rfl (vv_move rfl) ?_
                                  refine sd_skip rfl rfl rfl ?_
                                  refine sd_skip rfl rfl rfl ?_
                                  refine sd_skip rfl rfl rfl ?_
                                  refine sd_skip rfl rfl rfl ?_
                                  refine sd_vv rfl rfl rfl (vv_pickF rfl rfl) ?_
                                  refine sd_nil ?_
                                  have K_114 : Kz [] w25 w25 := (Kz.refl _ _)
                                  refine ⟨rfl, false, ?_, hm, K_114⟩
                                  repeat' first | exact trivial | refine ⟨rfl, ?_⟩
                  ·
                    -- region 25 cover.go:80
                    refine sw_region [(0, 0), (1, 0), (2, 0), (3, 0), (4, 0), (5, 0), (6, 0), (7, 0), (8, 0)] rfl rfl rfl ?_
                    refine sd_vv rfl rfl rfl (vv_move rfl) ?_
                    refine sd_vv rfl rfl rfl (vv_gtr (a := k18) (b := 1) rfl rfl) ?_
                    refine sd_split rfl rfl rfl (vv_move rfl) (fun c16 => ?_) (fun c16 => ?_)
                    ·
                      replace hm := ite_t (of_decide_eq_true c16) hm
                      refine sd_vv rfl rfl rfl (vv_move rfl) ?_
                      refine sd_vv rfl rfl rfl (vv_move rfl) ?_
                      have hb := bnd hm; clear hm; obtain ⟨x35, hx35, hm⟩ := hb
                      refine sd_ev rfl rfl rfl (ev_call en_78 rfl (cover_node_sibling_w k18 _ hx35 _)) ?_
                      rintro _ w29 ⟨rfl, Gw29⟩
                      have z115 := Gw29.size
                      have B116 := (Mo.gr B54 Gw29)
                      refine sd_vv rfl rfl rfl (vv_lookup (k := x35) (ks := a6) mpt_172 rfl rfl B116) ?_
                      refine sd_vv rfl rfl rfl (vv_notD rfl) ?_
                      refine sd_vv rfl rfl rfl (vv_pickT rfl rfl) ?_
                      refine sd_nil ?_
                      have K_117 : Kz [] w15 w29 := (Kz.gr (Kz.refl _ _) Gw29)
                      refine ⟨rfl, (decide (¬ (x35 ∈ a6))), ?_, hm, K_117⟩
                      repeat' first | exact trivial | refine ⟨rfl, ?_⟩
                    ·
                      replace hm := ite_f (of_decide_eq_false c16) hm
                      refine sd_skip rfl rfl rfl ?_
                      refine sd_skip rfl rfl rfl ?_
                      refine sd_skip rfl rfl rfl ?_
                      refine sd_skip rfl rfl rfl ?_
                      refine sd_skip rfl rfl rfl ?_
                      refine sd_vv rfl rfl rfl (vv_pickF rfl rfl) ?_
                      refine sd_nil ?_
                      have K_118 : Kz [] w15 w15 := (Kz.refl _ _)
                      refine ⟨rfl, false, ?_, hm, K_118⟩
                      repeat' first | exact trivial | refine ⟨rfl, ?_⟩
end Go.Proofs.Ytecempahccgijaa.Mx
