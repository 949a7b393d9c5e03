/- Walks that follow mirrors: Ex. Printed by mx.py. -/
import Derived.Test.YtecempahccgijaaAl
import Derived.Test.YtecempahccgijaaExM
set_option linter.unusedVariables false
set_option linter.unusedSimpArgs false
set_option maxRecDepth 100000
namespace Go.Proofs.Ytecempahccgijaa.Mx
open Go Go.RowKit Go.Sx
theorem en_56 : En Try.prog 56 := fun _ _ => by kernel_rfl
theorem en_59 : En Try.prog 59 := fun _ _ => by kernel_rfl
theorem en_57 : En Try.prog 57 := fun _ _ => by kernel_rfl
theorem apt_111 : ApT Try.prog 111 4 1 1 := apt_mk Try.underlying111 rfl (by kernel_rfl)

set_option maxHeartbeats 2000000 in
theorem law03_CoverExact_w (p0 : TScheme) (p1 : List Int) (vp1 : Value) (zp1 gp1 op1 : Nat) (r : Bool) (hm : law03_CoverExact p0 p1 = some r) (w : World) (hp1 : Rd w zp1 gp1 op1 1 vp1 (p1.map ic))  :
    Calls Try.prog 14 [.agg (TScheme.cs p0).toArray, vp1].toArray w fun e w' => ∃ v, e = .returned v ∧ (v = .bool r ∧ Gr w w') := by
  have lt1 := hp1.lth
  unfold law03_CoverExact at hm
  refine calls_of_sw (R := fun v w' => v = .bool r ∧ Gr w w') 147 Try.func14 rfl rfl rfl ?_
  refine sw_seq ?_
  -- region 0 outright.go:95
  refine sw_region [(0, 0), (1, 0)] rfl rfl rfl ?_
  refine sd_ev rfl rfl rfl (ev_box (cs := TScheme.cs p0) rfl rfl) ?_
  rintro _ w1 ⟨b1, rfl, hbw1, Bw1, Gw1⟩
  have z2 := Gw1.size
  have lt3 := Bw1.lt
  refine sd_vv rfl rfl rfl (vv_assign rfl) ?_
  refine sd_done ?_
  refine sw_seq ?_
  -- region 1 outright.go:96
  refine sw_region [(0, 0), (1, 0)] rfl rfl rfl ?_
  have hb := bnd hm; clear hm; obtain ⟨x1, hx1, hm⟩ := hb
  refine sd_ev rfl rfl rfl (ev_call en_56 rfl (law03_alive_w _ hx1 _)) ?_
  rintro _ w2 ⟨rfl, Gw2⟩
  have z4 := Gw2.size
  refine sd_vv rfl rfl rfl (vv_assign rfl) ?_
  refine sd_done ?_
  refine sw_seq ?_
  -- region 2 outright.go:97
  refine sw_region [(0, 0), (1, 0), (2, 0), (3, 0), (4, 0), (5, 0), (6, 0), (7, 0)] rfl rfl rfl ?_
  have B5 := (Bx.gr Bw1 Gw2)
  refine sd_vv rfl rfl rfl (vv_loadW agg_45 rfl B5 rfl) ?_
  refine sd_vv rfl rfl rfl (vv_move rfl) ?_
  have B6 := (Rd.gr (Rd.gr hp1 Gw1) Gw2)
  have hb := bnd hm; clear hm; obtain ⟨x2, hx2, hm⟩ := hb
  refine sd_ev rfl rfl rfl (ev_call en_54 rfl (cover_Cover_w p0 p1 _ _ _ _ _ hx2 _ B6)) ?_
  rintro _ w3 ⟨u3_r0_s, z3_r0_s, g3_r0_s, rfl, O3_r0_s, f3_r0_s, Gw3⟩
  have z7 := Gw3.size
  have lt8 := O3_r0_s.lth
  refine sd_vv rfl rfl rfl (vv_move rfl) ?_
  refine sd_vv rfl rfl rfl (vv_extract rfl rfl) ?_
  refine sd_vv rfl rfl rfl (vv_extract rfl rfl) ?_
  refine sd_vv rfl rfl rfl (vv_assign rfl) ?_
  refine sd_vv rfl rfl rfl (vv_assign rfl) ?_
  refine sd_done ?_
  refine sw_seq ?_
  refine sw_seq ?_
  -- region 3 outright.go:98
  refine sw_region [(0, 0), (1, 0), (2, 0)] rfl rfl rfl ?_
  have B9 := (Bx.gr B5 Gw3)
  refine sd_vv rfl rfl rfl (vv_loadW agg_45 rfl B9 rfl) ?_
  have hb := bnd hm; clear hm; obtain ⟨x3, hx3, hm⟩ := hb
  refine sd_ev rfl rfl rfl (ev_call en_59 rfl (ref03_Valid_w p0 _ hx3 _)) ?_
  rintro _ w4 ⟨rfl, Gw4⟩
  have z10 := Gw4.size
  refine sd_vv rfl rfl rfl (vv_not rfl) ?_
  refine sd_done ?_
  refine sw_cond rfl (fun c1 => ?_) (fun c1 => ?_)
  ·
    replace hm := cnd_t c1 hm
    refine sw_seq ?_
    -- region 4 outright.go:99
    refine sw_region [(0, 0), (1, 0), (2, 0), (3, 0), (4, 0), (5, 0)] rfl rfl rfl ?_
    refine sd_vv rfl rfl rfl (vv_move rfl) ?_
    refine sd_split rfl rfl rfl (vv_move rfl) (fun c2 => ?_) (fun c2 => ?_)
    ·
      replace hm := cnd_t c2 hm
      refine sd_vv rfl rfl rfl (vv_move rfl) ?_
      refine sd_vv rfl rfl rfl (vv_eql (a := x2.2) (b := 30) rfl rfl) ?_
      refine sd_vv rfl rfl rfl (vv_pickT rfl rfl) ?_
      refine sd_vv rfl rfl rfl (vv_assign rfl) ?_
      refine sd_done ?_
      refine sw_ret ?_
      refine then_r ?_
      have X11 : Gr w w4 := (Gr.trans (Gr.trans (Gr.trans (Gr.trans (Gr.refl w) Gw1) Gw2) Gw3) Gw4)
      have hr := Option.some.inj hm
      subst hr
      refine ⟨_, _, rfl, res_1 rfl (rv_tmp rfl), ?_⟩
      exact ⟨rfl, X11⟩
    ·
      replace hm := cnd_f c2 hm
      refine sd_skip rfl rfl rfl ?_
      refine sd_skip rfl rfl rfl ?_
      refine sd_vv rfl rfl rfl (vv_pickF rfl rfl) ?_
      refine sd_vv rfl rfl rfl (vv_assign rfl) ?_
      refine sd_done ?_
      refine sw_ret ?_
      refine then_r ?_
      have X12 : Gr w w4 := (Gr.trans (Gr.trans (Gr.trans (Gr.trans (Gr.refl w) Gw1) Gw2) Gw3) Gw4)
      have hr := Option.some.inj hm
      subst hr
      refine ⟨_, _, rfl, res_1 rfl (rv_tmp rfl), ?_⟩
      exact ⟨rfl, X12⟩
  ·
    replace hm := cnd_f c1 hm
    refine sw_skip ?_
    refine then_n ?_
    refine sw_seq ?_
    refine sw_seq ?_
    -- region 5 outright.go:101
    refine sw_region [(0, 0), (1, 0), (2, 0), (3, 0), (4, 0)] rfl rfl rfl ?_
    refine sd_vv rfl rfl rfl (vv_fieldAddr fa_45_1 rfl) ?_
    have B13 := (Bx.gr B9 Gw4)
    refine sd_vv rfl rfl rfl (vv_load1 (v := .int .i64 p0.Depth) one_3 rfl B13 rfl) ?_
    refine sd_vv rfl rfl rfl (vv_move rfl) ?_
    have B14 := (Rd.gr (Rd.gr B6 Gw3) Gw4)
    have hb := bnd hm; clear hm; obtain ⟨x4, hx4, hm⟩ := hb
    refine sd_ev rfl rfl rfl (ev_call en_57 rfl (ref03_IsList_w p0.Depth p1 _ _ _ _ _ hx4 _ B14)) ?_
    rintro _ w5 ⟨rfl, Gw5⟩
    have z15 := Gw5.size
    refine sd_vv rfl rfl rfl (vv_not rfl) ?_
    refine sd_done ?_
    refine sw_cond rfl (fun c3 => ?_) (fun c3 => ?_)
    ·
      replace hm := cnd_t c3 hm
      refine sw_seq ?_
      -- region 6 outright.go:102
      refine sw_region [(0, 0), (1, 0), (2, 0), (3, 0), (4, 0), (5, 0)] rfl rfl rfl ?_
      refine sd_vv rfl rfl rfl (vv_move rfl) ?_
      refine sd_split rfl rfl rfl (vv_move rfl) (fun c4 => ?_) (fun c4 => ?_)
      ·
        replace hm := cnd_t c4 hm
        refine sd_vv rfl rfl rfl (vv_move rfl) ?_
        refine sd_vv rfl rfl rfl (vv_eql (a := x2.2) (b := 2) rfl rfl) ?_
        refine sd_vv rfl rfl rfl (vv_pickT rfl rfl) ?_
        refine sd_vv rfl rfl rfl (vv_assign rfl) ?_
        refine sd_done ?_
        refine sw_ret ?_
        refine then_r ?_
        have X16 : Gr w w5 := (Gr.trans (Gr.trans (Gr.trans (Gr.trans (Gr.trans (Gr.refl w) Gw1) Gw2) Gw3) Gw4) Gw5)
        have hr := Option.some.inj hm
        subst hr
        refine ⟨_, _, rfl, res_1 rfl (rv_tmp rfl), ?_⟩
        exact ⟨rfl, X16⟩
      ·
        replace hm := cnd_f c4 hm
        refine sd_skip rfl rfl rfl ?_
        refine sd_skip rfl rfl rfl ?_
        refine sd_vv rfl rfl rfl (vv_pickF rfl rfl) ?_
        refine sd_vv rfl rfl rfl (vv_assign rfl) ?_
        refine sd_done ?_
        refine sw_ret ?_
        refine then_r ?_
        have X17 : Gr w w5 := (Gr.trans (Gr.trans (Gr.trans (Gr.trans (Gr.trans (Gr.refl w) Gw1) Gw2) Gw3) Gw4) Gw5)
        have hr := Option.some.inj hm
        subst hr
        refine ⟨_, _, rfl, res_1 rfl (rv_tmp rfl), ?_⟩
        exact ⟨rfl, X17⟩
    ·
      replace hm := cnd_f c3 hm
      refine sw_skip ?_
      refine then_n ?_
      refine sw_seq ?_
      -- region 7 outright.go:104
      refine sw_region [(0, 0), (1, 0), (2, 0), (3, 0), (4, 0)] rfl rfl rfl ?_
      refine sd_vv rfl rfl rfl (vv_fieldAddr fa_45_1 rfl) ?_
      have B18 := (Bx.gr B13 Gw5)
      refine sd_vv rfl rfl rfl (vv_load1 (v := .int .i64 p0.Depth) one_3 rfl B18 rfl) ?_
      have hb := bnd hm; clear hm; obtain ⟨n5, hn5, hm⟩ := hb
      refine sd_vv rfl rfl rfl (vv_shlI (a := 1) (b := p0.Depth) rfl rfl hn5) ?_
      have hb := bnd hm; clear hm; obtain ⟨l6, hl6, hm⟩ := hb
      refine sd_ev rfl rfl rfl (ev_mkT (c := blc) (a := false) apt_111 zv_4 rfl ⟨rfl, rfl⟩ rfl hl6 (by decide)) ?_
      rintro vw6 w6 ⟨gw6, hbw6, Ow6, Gw6⟩
      have z19 := Gw6.size
      have lt20 := Ow6.lth
      refine sd_vv rfl rfl rfl (vv_assign rfl) ?_
      refine sd_done ?_
      refine sw_seq ?_
      refine sw_seq ?_
      -- region 8 outright.go:105
      refine sw_region [(0, 0)] rfl rfl rfl ?_
      refine sd_vv rfl rfl rfl (vv_assign rfl) ?_
      refine sd_done ?_
      refine sw_block ?_
      have X21 : Gr w w6 := (Gr.trans (Gr.trans (Gr.trans (Gr.trans (Gr.trans (Gr.trans (Gr.refl w) Gw1) Gw2) Gw3) Gw4) Gw5) Gw6)
      have B22 := (Rd.gr (Rd.gr B14 Gw5) Gw6)
      have B23 := (Own.gr (Own.gr (Own.gr O3_r0_s Gw4) Gw5) Gw6)
      refine sw_loopD (α := Nat × List Bool × Int × Value × Nat × Nat) [8, 9, 44, 45, 46, 47, 48, 49, 50, 51, 52, 53, 54, 55] (fun ⟨n1, a10, a12, vy11, zy11, gy11⟩ => [(8, vy11), (9, .int .i64 a12)]) (fun ⟨n1, a10, a12, vy11, zy11, gy11⟩ wr => (fixN (law03_CoverExact_L1 p0 p1 x1 x2) n1 (a10, a12) = some r) ∧ Own wr zy11 gy11 4 1 vy11 (a10.map blc) ∧ Hdn (zy11 = 0 ∨ (gy11 = gw6 ∧ 1 ≠ 0) ∨ w6.heap.size ≤ gy11) ∧ Kz [(1, gw6)] w6 wr) (fun ⟨n1, a10, a12, vy11, zy11, gy11⟩ => n1) ⟨FUEL, l6, 0, vw6, 1, gw6⟩ ?_ ?_ ?_
      · repeat' first | exact trivial | refine ⟨rfl, ?_⟩
      · exact ⟨hm, Ow6, ⟨tk0⟩, Kz.refl _ _⟩
      · clear hm; rintro ⟨n1, a10, a12, vy11, zy11, gy11⟩ w7 ⟨hm, Fw7_0, Fw7_1, Kw7⟩
        have z24 := Kw7.size
        have lt25 := Fw7_0.lth
        have hb := fix_succ hm; clear hm; obtain ⟨n1, rfl, hm⟩ := hb
        generalize hrec1 : fixN (law03_CoverExact_L1 p0 p1 x1 x2) n1 = rec1 at hm
        unfold law03_CoverExact_L1 at hm
        try dsimp only at hm
        refine sw_seq ?_
        refine sw_seq ?_
        -- region 9 outright.go:105
        refine sw_region [(0, 0), (1, 0), (2, 0), (3, 0)] rfl rfl rfl ?_
        refine sd_vv rfl rfl rfl (vv_move rfl) ?_
        refine sd_vv rfl rfl rfl (vv_move rfl) ?_
        have B26 := (Rd.kz B22 Kw7 (tk1 ((pv_sw (.inr (tk1 lt1.o))) : zp1 = 0 ∨ 1 = 0 ∨ gp1 ≠ gw6)))
        refine sd_vv rfl rfl rfl (vv_lenT (l := p1) (c := ic) Try.underlying61 rfl B26) ?_
        refine sd_vv rfl rfl rfl (vv_lss (a := a12) (b := (p1.length : Int)) rfl rfl) ?_
        refine sd_done ?_
        refine sw_cond rfl (fun c5 => ?_) (fun c5 => ?_)
        ·
          replace hm := ite_t (of_decide_eq_true c5) hm
          refine sw_skip ?_
          refine then_n ?_
          refine sw_seq ?_
          refine sw_block ?_
          -- region 11 outright.go:106
          refine sw_region [(0, 0), (1, 0), (2, 0), (3, 0), (4, 0), (5, 0), (6, 0)] rfl rfl rfl ?_
          refine sd_vv rfl rfl rfl (vv_move rfl) ?_
          refine sd_vv rfl rfl rfl (vv_move rfl) ?_
          refine sd_vv rfl rfl rfl (vv_move rfl) ?_
          have hb := bnd hm; clear hm; obtain ⟨y13, hy13, hm⟩ := hb
          refine sd_vv rfl rfl rfl (vv_ixT (i := a12) Try.underlying61 (one_3).siz rfl B26 rfl hy13) ?_
          refine sd_vv rfl rfl rfl (vv_el1T (q := 0) (u := .int .i64 y13) one_3 rfl B26 hy13 (by first | rfl | omega) rfl) ?_
          have hb := bnd hm; clear hm; obtain ⟨y14, hy14, hm⟩ := hb
          refine sd_vv rfl rfl rfl (vv_ixT (i := y13) Try.underlying111 (one_4).siz rfl (Own.rd Fw7_0) rfl hy14) ?_
          have zo27 := Own.z1 Fw7_0 hy14
          refine sd_ev rfl rfl rfl (ev_stEl (i := y13) (q := 0) (a' := true) (vs := [.bool true]) (c := blc) (one_4).siz rfl rfl rfl rfl rfl Fw7_0 hy14 (by first | rfl | omega) rfl rfl ⟨rfl, rfl⟩) ?_
          rintro _ w8 ⟨Ow8, Mw8⟩
          have z28 := Mw8.size
          refine sd_nil ?_
          refine block_n ?_
          refine then_n ?_
          -- region 10 outright.go:105
          refine sw_region [(0, 0), (1, 0), (2, 0)] rfl rfl rfl ?_
          refine sd_vv rfl rfl rfl (vv_move rfl) ?_
          refine sd_vv rfl rfl rfl (vv_add (k := .i64) (a := a12) (b := 1) rfl rfl) ?_
          refine sd_vv rfl rfl rfl (vv_assign rfl) ?_
          refine sd_nil ?_
          have K_29 : Kz [(1, gw6)] w6 w8 := (Kz.md Kw7 Mw8 (tk1 ((pv_1 (A := (fun x => (x = gw6 ∧ 1 ≠ 0) ∨ w6.heap.size ≤ x)) Fw7_1 tk0) : zy11 = 0 ∨ (gy11 = gw6 ∧ 1 ≠ 0) ∨ w6.heap.size ≤ gy11)))
          subst hrec1
          refine ⟨rfl, ⟨n1, a10.set y13.toNat true, w64 (a12 + 1), vy11, zy11, gy11⟩, ?_, ⟨hm, Ow8, ⟨(pv_1 (A := (fun x => (x = gw6 ∧ 1 ≠ 0) ∨ w6.heap.size ≤ x)) Fw7_1 tk0)⟩, K_29⟩, Nat.lt_succ_self _⟩
          repeat' first | exact trivial | refine ⟨rfl, ?_⟩
        ·
          replace hm := ite_f (of_decide_eq_false c5) hm
          refine sw_exit ?_
          refine then_x ?_
          refine then_x ?_
          refine block_x ?_
          refine then_n ?_
          refine sw_seq ?_
          refine sw_seq ?_
          -- region 12 outright.go:108
          refine sw_region [(0, 0)] rfl rfl rfl ?_
          refine sd_vv rfl rfl rfl (vv_assign rfl) ?_
          refine sd_done ?_
          refine sw_block ?_
          have X30 : Gr w w7 := (Gr.kz X21 Kw7 (tk1 ((.inr tk0) : 1 = 0 ∨ w.heap.size ≤ gw6)))
          have B31 := (Own.kz B23 Kw7 (tk1 ((pv_sw (.inr (tk1 lt8.o))) : z3_r0_s = 0 ∨ 1 = 0 ∨ g3_r0_s ≠ gw6)))
          refine sw_loopD (α := Nat × List Bool × Int × Value × Nat × Nat) [4, 8, 10, 11, 12, 13, 56, 57, 58, 59, 60, 61, 62, 63, 64, 65, 66, 67, 68, 69, 70, 71, 72, 73, 74, 75, 76, 77, 78, 79, 80, 81, 82, 83, 84, 85, 86, 87, 88, 89, 90, 91, 92, 93, 94, 95, 96, 97, 98, 99, 100, 101, 102, 103, 104, 105, 106, 107, 108, 109, 110, 111, 112, 113, 114, 115, 116, 117, 118, 119, 120, 121, 122, 123, 124, 125, 126, 127, 128, 129, 130] (fun ⟨n2, a18, a20, vy19, zy19, gy19⟩ => [(4, .bool false), (8, vy19), (10, .int .i64 a20)]) (fun ⟨n2, a18, a20, vy19, zy19, gy19⟩ wr => (fixN (law03_CoverExact_L2 p0 x1 x2) n2 (a18, a20) = some r) ∧ Own wr zy19 gy19 4 1 vy19 (a18.map blc) ∧ Hdn (zy19 = 0 ∨ (gy19 = gy11 ∧ zy11 ≠ 0) ∨ w7.heap.size ≤ gy19) ∧ Kz [(zy11, gy11)] w7 wr) (fun ⟨n2, a18, a20, vy19, zy19, gy19⟩ => n2) ⟨FUEL, a10, 0, vy11, zy11, gy11⟩ ?_ ?_ ?_
          · repeat' first | exact trivial | refine ⟨rfl, ?_⟩
          · exact ⟨hm, Fw7_0, ⟨tk0⟩, Kz.refl _ _⟩
          · clear hm; rintro ⟨n2, a18, a20, vy19, zy19, gy19⟩ w9 ⟨hm, Fw9_0, Fw9_1, Kw9⟩
            have z32 := Kw9.size
            have lt33 := Fw9_0.lth
            have hb := fix_succ hm; clear hm; obtain ⟨n2, rfl, hm⟩ := hb
            generalize hrec2 : fixN (law03_CoverExact_L2 p0 x1 x2) n2 = rec2 at hm
            unfold law03_CoverExact_L2 at hm
            try dsimp only at hm
            refine sw_seq ?_
            refine sw_seq ?_
            -- region 13 outright.go:108
            refine sw_region [(0, 0), (1, 0), (2, 0), (3, 0)] rfl rfl rfl ?_
            refine sd_vv rfl rfl rfl (vv_move rfl) ?_
            refine sd_vv rfl rfl rfl (vv_move rfl) ?_
            have B34 := (Own.kz B31 Kw9 (tk1 ((pv_sw (pv_1 (A := (fun x => z3_r0_s = 0 ∨ x ≠ g3_r0_s)) Fw7_1 (.inr (tk1 lt8.o)) (fun x hx => (tk1 lt8.o)))) : z3_r0_s = 0 ∨ zy11 = 0 ∨ g3_r0_s ≠ gy11)))
            refine sd_vv rfl rfl rfl (vv_lenT (l := x2.1) (c := TSubset.cs) Try.underlying48 rfl (Own.rd B34)) ?_
            refine sd_vv rfl rfl rfl (vv_lss (a := a20) (b := (x2.1.length : Int)) rfl rfl) ?_
            refine sd_done ?_
            refine sw_cond rfl (fun c6 => ?_) (fun c6 => ?_)
            ·
              replace hm := ite_t (of_decide_eq_true c6) hm
              refine sw_skip ?_
              refine then_n ?_
              refine sw_seq ?_
              refine sw_block ?_
              refine sw_seq ?_
              -- region 15 outright.go:109 DRAWS
              refine sw_drawN [([])] [] (.leaf [(0, 10), (1, 10), (2, 10), (3, 10), (4, 10), (5, 0), (6, 10), (7, 10), (8, 10), (9, 10), (10, 10)]) (by kernel_rfl) (by kernel_rfl) rfl (by kernel_rfl) ?_
              intro w10 Gw10 zw10
              refine sdz_leaf ?_
              have B35 := (Bx.gr (Bx.kz (Bx.kz (Bx.gr B18 Gw6) Kw7 (tk1 ((.inr tk0) : 1 = 0 ∨ gw6 ≠ b1))) Kw9 (tk1 ((pv_1 (A := (fun x => x ≠ b1)) Fw7_1 (.inr tk0)) : zy11 = 0 ∨ gy11 ≠ b1))) Gw10)
              refine dd_hn 0 rfl rfl rfl rfl (Kp.refl ([]) w10) (fun w hS => vv_loadW agg_45 rfl (Bx.kp B35 hS) rfl) ?_
              refine dd_hn 0 rfl rfl rfl rfl (Kp.refl ([]) w10) (fun w hS => vv_move rfl) ?_
              refine dd_hn 0 rfl rfl rfl rfl (Kp.refl ([]) w10) (fun w hS => vv_move rfl) ?_
              have hb := bnd hm; clear hm; obtain ⟨y21, hy21, hm⟩ := hb
              have B36 := (Own.gr B34 Gw10)
              refine dd_hn 0 rfl rfl rfl rfl (Kp.refl ([]) w10) (fun w hS => vv_ixT (i := a20) Try.underlying48 (agg_47).siz rfl (Own.rd (Own.kp B36 hS)) rfl hy21) ?_
              refine dd_hn 0 rfl rfl rfl rfl (Kp.refl ([]) w10) (fun w hS => vv_elWT agg_47 rfl (Own.rd (Own.kp B36 hS)) hy21 (by first | rfl | omega)) ?_
              have hb := bnd hm; clear hm; obtain ⟨x22, hx22, hm⟩ := hb
              refine dd_z [] rfl rfl rfl (ev_call en_35 rfl (cover_Members_w p0 y21 _ hx22 _)) ⟨fun _ => tk0, trivial⟩ ?_
              rintro _ w11 ⟨u11_r0_s, z11_r0_s, g11_r0_s, rfl, O11_r0_s, f11_r0_s, Gw11⟩
              have z37 := Gw11.size
              have lt38 := O11_r0_s.lth
              refine ⟨Kz.ofGr Gw11, ?_⟩
              have S39 := (Kp.gr (Kp.refl ([]) w10) Gw11)
              refine dd_hn 0 rfl rfl rfl rfl S39 (fun w hS => vv_move rfl) ?_
              refine dd_hn 0 rfl rfl rfl rfl S39 (fun w hS => vv_extract rfl rfl) ?_
              refine dd_hn 0 rfl rfl rfl rfl S39 (fun w hS => vv_extract rfl rfl) ?_
              refine dd_hn 0 rfl rfl rfl rfl S39 (fun w hS => vv_assign rfl) ?_
              refine dd_hn 0 rfl rfl rfl rfl S39 (fun w hS => vv_assign rfl) ?_
              refine sd_done ?_
              refine sw_seq ?_
              have X40 : Gr w w11 := (Gr.trans (Gr.trans (Gr.kz X30 Kw9 (tk1 ((pv_1 (A := (fun x => w.heap.size ≤ x)) Fw7_1 (.inr tk0)) : zy11 = 0 ∨ w.heap.size ≤ gy11))) Gw10) Gw11)
              refine sw_joinD (β := Bool) [71, 72, 73, 74, 75, 76, 77, 78, 79, 80, 81, 82, 83, 84, 85, 86, 87, 88, 89, 90, 91, 92, 93, 94, 95] (fun a23 => [(95, .bool a23)]) (fun a23 wr => (law03_CoverExact_J3 a18 a20 rec2 x22 a23 = some r) ∧ Kz [] w11 wr) ?_ ?_
              · clear hm; rintro a23 w12 ⟨hm, Kw12⟩
                have z41 := Kw12.size
                unfold law03_CoverExact_J3 at hm
                refine sw_cond rfl (fun c7 => ?_) (fun c7 => ?_)
                ·
                  replace hm := cnd_t c7 hm
                  refine sw_seq ?_
                  -- region 17 outright.go:111
                  refine sw_region [(0, 0)] rfl rfl rfl ?_
                  refine sd_vv rfl rfl rfl (vv_assign rfl) ?_
                  refine sd_done ?_
                  refine sw_ret ?_
                  refine then_r ?_
                  refine block_r ?_
                  refine then_r ?_
                  refine then_r ?_
                  refine block_r ?_
                  refine then_r ?_
                  have X42 : Gr w w12 := (Gr.kz X40 Kw12)
                  have hr := Option.some.inj hm
                  subst hr
                  refine ⟨_, _, rfl, res_1 rfl (rv_tmp rfl), ?_⟩
                  exact ⟨rfl, X42⟩
                ·
                  replace hm := cnd_f c7 hm
                  refine sw_skip ?_
                  refine then_n ?_
                  refine sw_seq ?_
                  -- region 18 outright.go:113
                  refine sw_region [(0, 0)] rfl rfl rfl ?_
                  refine sd_vv rfl rfl rfl (vv_assign rfl) ?_
                  refine sd_done ?_
                  refine sw_block ?_
                  have X43 : Gr w w12 := (Gr.kz X40 Kw12)
                  have B44 := (Rd.kz (Rd.gr (Rd.gr (Rd.kz B26 Kw9 (tk1 ((pv_sw (pv_1 (A := (fun x => zp1 = 0 ∨ x ≠ gp1)) Fw7_1 (.inr (tk1 lt1.o)) (fun x hx => (tk1 lt1.o)))) : zp1 = 0 ∨ zy11 = 0 ∨ gp1 ≠ gy11))) Gw10) Gw11) Kw12)
                  have B45 := (Own.kz (Own.gr B36 Gw11) Kw12)
                  have B46 := (Own.kz (Own.gr (Own.gr Fw9_0 Gw10) Gw11) Kw12)
                  have B47 := (Own.kz O11_r0_s Kw12)
                  refine sw_loopD (α := Nat × List Bool × Int × Value × Nat × Nat) [4, 8, 13, 96, 97, 98, 99, 100, 101, 102, 103, 104, 105, 106, 107, 108, 109, 110, 111, 112, 113, 114, 115, 116, 117, 118, 119, 120, 121, 122, 123, 124, 125, 126, 127, 128, 129, 130] (fun ⟨n4, a27, a29, vy28, zy28, gy28⟩ => [(4, .bool false), (8, vy28), (13, .int .i64 a29)]) (fun ⟨n4, a27, a29, vy28, zy28, gy28⟩ wr => (fixN (law03_CoverExact_L4 a20 rec2 x22) n4 (a27, a29) = some r) ∧ Own wr zy28 gy28 4 1 vy28 (a27.map blc) ∧ Hdn (zy28 = 0 ∨ (gy28 = gy19 ∧ zy19 ≠ 0) ∨ w12.heap.size ≤ gy28) ∧ Kz [(zy19, gy19)] w12 wr) (fun ⟨n4, a27, a29, vy28, zy28, gy28⟩ => n4) ⟨FUEL, a18, 0, vy19, zy19, gy19⟩ ?_ ?_ ?_
                  · repeat' first | exact trivial | refine ⟨rfl, ?_⟩
                  · exact ⟨hm, B46, ⟨tk0⟩, Kz.refl _ _⟩
                  · clear hm; rintro ⟨n4, a27, a29, vy28, zy28, gy28⟩ w13 ⟨hm, Fw13_0, Fw13_1, Kw13⟩
                    have z48 := Kw13.size
                    have lt49 := Fw13_0.lth
                    have hb := fix_succ hm; clear hm; obtain ⟨n4, rfl, hm⟩ := hb
                    generalize hrec4 : fixN (law03_CoverExact_L4 a20 rec2 x22) n4 = rec4 at hm
                    unfold law03_CoverExact_L4 at hm
                    try dsimp only at hm
                    refine sw_seq ?_
                    refine sw_seq ?_
                    -- region 19 outright.go:113
                    refine sw_region [(0, 0), (1, 0), (2, 0), (3, 0)] rfl rfl rfl ?_
                    refine sd_vv rfl rfl rfl (vv_move rfl) ?_
                    refine sd_vv rfl rfl rfl (vv_move rfl) ?_
                    have B50 := (Own.kz B47 Kw13 (tk1 ((pv_0 (A := (fun x => zy19 = 0 ∨ x ≠ gy19)) f11_r0_s (fun x hx => (tk1 lt33.o))) : z11_r0_s = 0 ∨ zy19 = 0 ∨ g11_r0_s ≠ gy19)))
                    refine sd_vv rfl rfl rfl (vv_lenT (l := x22.1) (c := ic) Try.underlying61 rfl (Own.rd B50)) ?_
                    refine sd_vv rfl rfl rfl (vv_lss (a := a29) (b := (x22.1.length : Int)) rfl rfl) ?_
                    refine sd_done ?_
                    refine sw_cond rfl (fun c8 => ?_) (fun c8 => ?_)
                    ·
                      replace hm := ite_t (of_decide_eq_true c8) hm
                      refine sw_skip ?_
                      refine then_n ?_
                      refine sw_seq ?_
                      refine sw_block ?_
                      refine sw_seq ?_
                      have X51 : Gr w w13 := (Gr.kz X43 Kw13 (tk1 ((pv_1 (A := (fun x => w.heap.size ≤ x)) Fw9_1 (pv_1 (A := (fun x => w.heap.size ≤ x)) Fw7_1 (.inr tk0))) : zy19 = 0 ∨ w.heap.size ≤ gy19)))
                      refine sw_joinD (β := Bool) [102, 103, 104, 105, 106, 107, 108, 109, 110, 111, 112, 113, 114, 115, 116, 117, 118, 119, 120, 121, 122, 123, 124] (fun a30 => [(124, .bool a30)]) (fun a30 wr => (law03_CoverExact_J5 x22 a27 a29 rec4 a30 = some r) ∧ Kz [] w13 wr) ?_ ?_
                      · clear hm; rintro a30 w14 ⟨hm, Kw14⟩
                        have z52 := Kw14.size
                        unfold law03_CoverExact_J5 at hm
                        refine sw_cond rfl (fun c9 => ?_) (fun c9 => ?_)
                        ·
                          replace hm := cnd_t c9 hm
                          refine sw_seq ?_
                          -- region 22 outright.go:115
                          refine sw_region [(0, 0)] rfl rfl rfl ?_
                          refine sd_vv rfl rfl rfl (vv_assign rfl) ?_
                          refine sd_done ?_
                          refine sw_ret ?_
                          refine then_r ?_
                          refine block_r ?_
                          refine then_r ?_
                          refine then_r ?_
                          refine block_r ?_
                          refine block_r ?_
                          refine then_r ?_
                          refine then_r ?_
                          refine block_r ?_
                          refine then_r ?_
                          have X53 : Gr w w14 := (Gr.kz X51 Kw14)
                          have hr := Option.some.inj hm
                          subst hr
                          refine ⟨_, _, rfl, res_1 rfl (rv_tmp rfl), ?_⟩
                          exact ⟨rfl, X53⟩
                        ·
                          replace hm := cnd_f c9 hm
                          refine sw_skip ?_
                          refine then_n ?_
                          -- region 23 outright.go:117
                          refine sw_region [(0, 0), (1, 0), (2, 0), (3, 0), (4, 0), (5, 0), (6, 0)] rfl rfl rfl ?_
                          refine sd_vv rfl rfl rfl (vv_move rfl) ?_
                          refine sd_vv rfl rfl rfl (vv_move rfl) ?_
                          refine sd_vv rfl rfl rfl (vv_move rfl) ?_
                          have hb := bnd hm; clear hm; obtain ⟨y31, hy31, hm⟩ := hb
                          have B54 := (Own.kz B50 Kw14)
                          refine sd_vv rfl rfl rfl (vv_ixT (i := a29) Try.underlying61 (one_3).siz rfl (Own.rd B54) rfl hy31) ?_
                          refine sd_vv rfl rfl rfl (vv_el1T (q := 0) (u := .int .i64 y31) one_3 rfl (Own.rd B54) hy31 (by first | rfl | omega) rfl) ?_
                          have hb := bnd hm; clear hm; obtain ⟨y32, hy32, hm⟩ := hb
                          have B55 := (Own.kz Fw13_0 Kw14)
                          refine sd_vv rfl rfl rfl (vv_ixT (i := y31) Try.underlying111 (one_4).siz rfl (Own.rd B55) rfl hy32) ?_
                          have zo56 := Own.z1 B55 hy32
                          refine sd_ev rfl rfl rfl (ev_stEl (i := y31) (q := 0) (a' := true) (vs := [.bool true]) (c := blc) (one_4).siz rfl rfl rfl rfl rfl B55 hy32 (by first | rfl | omega) rfl rfl ⟨rfl, rfl⟩) ?_
                          rintro _ w15 ⟨Ow15, Mw15⟩
                          have z57 := Mw15.size
                          refine sd_nil ?_
                          refine block_n ?_
                          refine then_n ?_
                          -- region 20 outright.go:113
                          refine sw_region [(0, 0), (1, 0), (2, 0)] rfl rfl rfl ?_
                          refine sd_vv rfl rfl rfl (vv_move rfl) ?_
                          refine sd_vv rfl rfl rfl (vv_add (k := .i64) (a := a29) (b := 1) rfl rfl) ?_
                          refine sd_vv rfl rfl rfl (vv_assign rfl) ?_
                          refine sd_nil ?_
                          have K_58 : Kz [(zy19, gy19)] w12 w15 := (Kz.md (Kz.kz Kw13 Kw14) Mw15 (tk1 ((pv_1 (A := (fun x => (x = gy19 ∧ zy19 ≠ 0) ∨ w12.heap.size ≤ x)) Fw13_1 tk0) : zy28 = 0 ∨ (gy28 = gy19 ∧ zy19 ≠ 0) ∨ w12.heap.size ≤ gy28)))
                          subst hrec4
                          refine ⟨rfl, ⟨n4, a27.set y31.toNat true, w64 (a29 + 1), vy28, zy28, gy28⟩, ?_, ⟨hm, Ow15, ⟨(pv_1 (A := (fun x => (x = gy19 ∧ zy19 ≠ 0) ∨ w12.heap.size ≤ x)) Fw13_1 tk0)⟩, K_58⟩, Nat.lt_succ_self _⟩
                          repeat' first | exact trivial | refine ⟨rfl, ?_⟩
                      ·
                        -- region 21 outright.go:114
                        refine sw_region [(0, 0), (1, 0), (2, 0), (3, 0), (4, 0), (5, 0), (6, 0), (7, 0), (8, 0), (9, 0), (10, 0), (11, 0), (12, 0), (13, 0), (14, 0), (15, 0), (16, 0), (17, 0), (18, 0), (19, 0), (20, 0), (21, 0), (22, 0)] rfl rfl rfl ?_
                        refine sd_vv rfl rfl rfl (vv_move rfl) ?_
                        refine sd_vv rfl rfl rfl (vv_move rfl) ?_
                        have hb := bnd hm; clear hm; obtain ⟨y33, hy33, hm⟩ := hb
                        refine sd_vv rfl rfl rfl (vv_ixT (i := a29) Try.underlying61 (one_3).siz rfl (Own.rd B50) rfl hy33) ?_
                        refine sd_vv rfl rfl rfl (vv_el1T (q := 0) (u := .int .i64 y33) one_3 rfl (Own.rd B50) hy33 (by first | rfl | omega) rfl) ?_
                        refine sd_vv rfl rfl rfl (vv_lss (a := y33) (b := 0) rfl rfl) ?_
                        refine sd_split rfl rfl rfl (vv_move rfl) (fun c10 => ?_) (fun c10 => ?_)
                        ·
                          replace hm := ite_t (of_decide_eq_true c10) hm
                          refine sd_skip rfl rfl rfl ?_
                          refine sd_skip rfl rfl rfl ?_
                          refine sd_skip rfl rfl rfl ?_
                          refine sd_skip rfl rfl rfl ?_
                          refine sd_skip rfl rfl rfl ?_
                          refine sd_skip rfl rfl rfl ?_
                          refine sd_skip rfl rfl rfl ?_
                          refine sd_vv rfl rfl rfl (vv_pickT rfl rfl) ?_
                          refine sd_vv rfl rfl rfl (vv_move rfl) ?_
                          refine sd_skip rfl rfl rfl ?_
                          refine sd_skip rfl rfl rfl ?_
                          refine sd_skip rfl rfl rfl ?_
                          refine sd_skip rfl rfl rfl ?_
                          refine sd_skip rfl rfl rfl ?_
                          refine sd_skip rfl rfl rfl ?_
                          refine sd_skip rfl rfl rfl ?_
                          refine sd_vv rfl rfl rfl (vv_pickT rfl rfl) ?_
                          refine sd_nil ?_
                          have K_59 : Kz [] w13 w13 := (Kz.refl _ _)
                          refine ⟨rfl, true, ?_, hm, K_59⟩
                          repeat' first | exact trivial | refine ⟨rfl, ?_⟩
                        ·
                          replace hm := ite_f (of_decide_eq_false c10) hm
                          refine sd_vv rfl rfl rfl (vv_move rfl) ?_
                          refine sd_vv rfl rfl rfl (vv_move rfl) ?_
                          have hb := bnd hm; clear hm; obtain ⟨y34, hy34, hm⟩ := hb
                          refine sd_vv rfl rfl rfl (vv_ixT (i := a29) Try.underlying61 (one_3).siz rfl (Own.rd B50) rfl hy34) ?_
                          refine sd_vv rfl rfl rfl (vv_el1T (q := 0) (u := .int .i64 y34) one_3 rfl (Own.rd B50) hy34 (by first | rfl | omega) rfl) ?_
                          refine sd_vv rfl rfl rfl (vv_move rfl) ?_
                          refine sd_vv rfl rfl rfl (vv_lenT (l := a27) (c := blc) Try.underlying111 rfl (Own.rd Fw13_0)) ?_
                          refine sd_vv rfl rfl rfl (vv_geq (a := y34) (b := (a27.length : Int)) rfl rfl) ?_
                          refine sd_vv rfl rfl rfl (vv_pickF rfl rfl) ?_
                          refine sd_split rfl rfl rfl (vv_move rfl) (fun c11 => ?_) (fun c11 => ?_)
                          ·
                            replace hm := ite_t (of_decide_eq_true c11) hm
                            refine sd_skip rfl rfl rfl ?_
                            refine sd_skip rfl rfl rfl ?_
                            refine sd_skip rfl rfl rfl ?_
                            refine sd_skip rfl rfl rfl ?_
                            refine sd_skip rfl rfl rfl ?_
                            refine sd_skip rfl rfl rfl ?_
                            refine sd_skip rfl rfl rfl ?_
                            refine sd_vv rfl rfl rfl (vv_pickT rfl rfl) ?_
                            refine sd_nil ?_
                            have K_60 : Kz [] w13 w13 := (Kz.refl _ _)
                            refine ⟨rfl, true, ?_, hm, K_60⟩
                            repeat' first | exact trivial | refine ⟨rfl, ?_⟩
                          ·
                            replace hm := ite_f (of_decide_eq_false c11) hm
                            refine sd_vv rfl rfl rfl (vv_move rfl) ?_
                            refine sd_vv rfl rfl rfl (vv_move rfl) ?_
                            refine sd_vv rfl rfl rfl (vv_move rfl) ?_
                            have hb := bnd hm; clear hm; obtain ⟨y35, hy35, hm⟩ := hb
                            refine sd_vv rfl rfl rfl (vv_ixT (i := a29) Try.underlying61 (one_3).siz rfl (Own.rd B50) rfl hy35) ?_
                            refine sd_vv rfl rfl rfl (vv_el1T (q := 0) (u := .int .i64 y35) one_3 rfl (Own.rd B50) hy35 (by first | rfl | omega) rfl) ?_
                            have hb := bnd hm; clear hm; obtain ⟨y36, hy36, hm⟩ := hb
                            refine sd_vv rfl rfl rfl (vv_ixT (i := y35) Try.underlying111 (one_4).siz rfl (Own.rd Fw13_0) rfl hy36) ?_
                            refine sd_vv rfl rfl rfl (vv_el1T (q := 0) (u := .bool y36) one_4 rfl (Own.rd Fw13_0) hy36 (by first | rfl | omega) rfl) ?_
                            refine sd_vv rfl rfl rfl (vv_pickF rfl rfl) ?_
                            refine sd_nil ?_
                            have K_61 : Kz [] w13 w13 := (Kz.refl _ _)
                            refine ⟨rfl, y36, ?_, hm, K_61⟩
                            repeat' first | exact trivial | refine ⟨rfl, ?_⟩
                    ·
                      replace hm := ite_f (of_decide_eq_false c8) hm
                      refine sw_exit ?_
                      refine then_x ?_
                      refine then_x ?_
                      refine block_x ?_
                      refine block_n ?_
                      refine then_n ?_
                      -- region 14 outright.go:108
                      refine sw_region [(0, 0), (1, 0), (2, 0)] rfl rfl rfl ?_
                      refine sd_vv rfl rfl rfl (vv_move rfl) ?_
                      refine sd_vv rfl rfl rfl (vv_add (k := .i64) (a := a20) (b := 1) rfl rfl) ?_
                      refine sd_vv rfl rfl rfl (vv_assign rfl) ?_
                      refine sd_nil ?_
                      have K_62 : Kz [(zy11, gy11)] w7 w13 := (Kz.kz (Kz.kz (Kz.gr (Kz.gr Kw9 Gw10) Gw11) Kw12) Kw13 (tk1 ((pv_1 (A := (fun x => (x = gy11 ∧ zy11 ≠ 0) ∨ w7.heap.size ≤ x)) Fw9_1 tk0) : zy19 = 0 ∨ (gy19 = gy11 ∧ zy11 ≠ 0) ∨ w7.heap.size ≤ gy19)))
                      subst hrec2
                      refine ⟨rfl, ⟨n2, a27, w64 (a20 + 1), vy28, zy28, gy28⟩, ?_, ⟨hm, Fw13_0, ⟨(pv_1 (A := (fun x => (x = gy11 ∧ zy11 ≠ 0) ∨ w7.heap.size ≤ x)) Fw13_1 (pv_1 (A := (fun x => (x = gy11 ∧ zy11 ≠ 0) ∨ w7.heap.size ≤ x)) Fw9_1 tk0))⟩, K_62⟩, Nat.lt_succ_self _⟩
                      repeat' first | exact trivial | refine ⟨rfl, ?_⟩
              ·
                -- region 16 outright.go:110 DRAWS
                refine sw_drawN [([])] [] (.leaf [(0, 10), (1, 10), (2, 10), (3, 10), (4, 10), (5, 10), (6, 10), (7, 10), (8, 10), (9, 10), (10, 10), (11, 10), (12, 10), (13, 10), (14, 10), (15, 10), (16, 10), (17, 10), (18, 10), (19, 10), (20, 10), (21, 10), (22, 10), (23, 10), (24, 10)]) (by kernel_rfl) (by kernel_rfl) rfl (by kernel_rfl) ?_
                intro w16 Gw16 zw16
                refine sdz_leaf ?_
                refine dd_hn 0 rfl rfl rfl rfl (Kp.refl ([]) w16) (fun w hS => vv_move rfl) ?_
                refine dd_hn 0 rfl rfl rfl rfl (Kp.refl ([]) w16) (fun w hS => vv_neq (a := x22.2) (b := 0) rfl rfl) ?_
                refine dd_pn 0 rfl rfl rfl rfl (Kp.refl ([]) w16) (fun w hS => vv_move rfl) (fun c12 => ?_) (fun c12 => ?_)
                ·
                  replace hm := ite_t (of_decide_eq_true c12) hm
                  refine dd_sn 0 rfl rfl rfl rfl (Kp.refl ([]) w16) ?_
                  refine dd_sn 0 rfl rfl rfl rfl (Kp.refl ([]) w16) ?_
                  refine dd_sn 0 rfl rfl rfl rfl (Kp.refl ([]) w16) ?_
                  refine dd_hn 0 rfl rfl rfl rfl (Kp.refl ([]) w16) (fun w hS => vv_pickT rfl rfl) ?_
                  refine dd_hn 0 rfl rfl rfl rfl (Kp.refl ([]) w16) (fun w hS => vv_move rfl) ?_
                  refine dd_sn 0 rfl rfl rfl rfl (Kp.refl ([]) w16) ?_
                  refine dd_sn 0 rfl rfl rfl rfl (Kp.refl ([]) w16) ?_
                  refine dd_sn 0 rfl rfl rfl rfl (Kp.refl ([]) w16) ?_
                  refine dd_sn 0 rfl rfl rfl rfl (Kp.refl ([]) w16) ?_
                  refine dd_sn 0 rfl rfl rfl rfl (Kp.refl ([]) w16) ?_
                  refine dd_sn 0 rfl rfl rfl rfl (Kp.refl ([]) w16) ?_
                  refine dd_sn 0 rfl rfl rfl rfl (Kp.refl ([]) w16) ?_
                  refine dd_sn 0 rfl rfl rfl rfl (Kp.refl ([]) w16) ?_
                  refine dd_sn 0 rfl rfl rfl rfl (Kp.refl ([]) w16) ?_
                  refine dd_sn 0 rfl rfl rfl rfl (Kp.refl ([]) w16) ?_
                  refine dd_sn 0 rfl rfl rfl rfl (Kp.refl ([]) w16) ?_
                  refine dd_sn 0 rfl rfl rfl rfl (Kp.refl ([]) w16) ?_
                  refine dd_sn 0 rfl rfl rfl rfl (Kp.refl ([]) w16) ?_
                  refine dd_sn 0 rfl rfl rfl rfl (Kp.refl ([]) w16) ?_
                  refine dd_sn 0 rfl rfl rfl rfl (Kp.refl ([]) w16) ?_
                  refine dd_sn 0 rfl rfl rfl rfl (Kp.refl ([]) w16) ?_
                  refine dd_hn 0 rfl rfl rfl rfl (Kp.refl ([]) w16) (fun w hS => vv_pickT rfl rfl) ?_
                  refine sd_nil ?_
                  have K_63 : Kz [] w11 w16 := (Kz.gr (Kz.refl _ _) Gw16)
                  refine ⟨rfl, true, ?_, hm, K_63⟩
                  repeat' first | exact trivial | refine ⟨rfl, ?_⟩
                ·
                  replace hm := ite_f (of_decide_eq_false c12) hm
                  refine dd_hn 0 rfl rfl rfl rfl (Kp.refl ([]) w16) (fun w hS => vv_move rfl) ?_
                  have B64 := (Own.gr O11_r0_s Gw16)
                  refine dd_hn 0 rfl rfl rfl rfl (Kp.refl ([]) w16) (fun w hS => vv_lenT (l := x22.1) (c := ic) Try.underlying61 rfl (Own.rd (Own.kp B64 hS))) ?_
                  refine dd_hn 0 rfl rfl rfl rfl (Kp.refl ([]) w16) (fun w hS => vv_eql (a := (x22.1.length : Int)) (b := 0) rfl rfl) ?_
                  refine dd_hn 0 rfl rfl rfl rfl (Kp.refl ([]) w16) (fun w hS => vv_pickF rfl rfl) ?_
                  refine dd_pn 0 rfl rfl rfl rfl (Kp.refl ([]) w16) (fun w hS => vv_move rfl) (fun c13 => ?_) (fun c13 => ?_)
                  ·
                    replace hm := ite_t (of_decide_eq_true c13) hm
                    refine dd_sn 0 rfl rfl rfl rfl (Kp.refl ([]) w16) ?_
                    refine dd_sn 0 rfl rfl rfl rfl (Kp.refl ([]) w16) ?_
                    refine dd_sn 0 rfl rfl rfl rfl (Kp.refl ([]) w16) ?_
                    refine dd_sn 0 rfl rfl rfl rfl (Kp.refl ([]) w16) ?_
                    refine dd_sn 0 rfl rfl rfl rfl (Kp.refl ([]) w16) ?_
                    refine dd_sn 0 rfl rfl rfl rfl (Kp.refl ([]) w16) ?_
                    refine dd_sn 0 rfl rfl rfl rfl (Kp.refl ([]) w16) ?_
                    refine dd_sn 0 rfl rfl rfl rfl (Kp.refl ([]) w16) ?_
                    refine dd_sn 0 rfl rfl rfl rfl (Kp.refl ([]) w16) ?_
                    refine dd_sn 0 rfl rfl rfl rfl (Kp.refl ([]) w16) ?_
                    refine dd_sn 0 rfl rfl rfl rfl (Kp.refl ([]) w16) ?_
                    refine dd_sn 0 rfl rfl rfl rfl (Kp.refl ([]) w16) ?_
                    refine dd_sn 0 rfl rfl rfl rfl (Kp.refl ([]) w16) ?_
                    refine dd_sn 0 rfl rfl rfl rfl (Kp.refl ([]) w16) ?_
                    refine dd_sn 0 rfl rfl rfl rfl (Kp.refl ([]) w16) ?_
                    refine dd_sn 0 rfl rfl rfl rfl (Kp.refl ([]) w16) ?_
                    refine dd_hn 0 rfl rfl rfl rfl (Kp.refl ([]) w16) (fun w hS => vv_pickT rfl rfl) ?_
                    refine sd_nil ?_
                    have K_65 : Kz [] w11 w16 := (Kz.gr (Kz.refl _ _) Gw16)
                    refine ⟨rfl, true, ?_, hm, K_65⟩
                    repeat' first | exact trivial | refine ⟨rfl, ?_⟩
                  ·
                    replace hm := ite_f (of_decide_eq_false c13) hm
                    refine dd_hn 0 rfl rfl rfl rfl (Kp.refl ([]) w16) (fun w hS => vv_move rfl) ?_
                    refine dd_hn 0 rfl rfl rfl rfl (Kp.refl ([]) w16) (fun w hS => vv_gtr (a := a20) (b := 0) rfl rfl) ?_
                    refine dd_pn 0 rfl rfl rfl rfl (Kp.refl ([]) w16) (fun w hS => vv_move rfl) (fun c14 => ?_) (fun c14 => ?_)
                    ·
                      replace hm := ite_t (of_decide_eq_true c14) hm
                      refine dd_hn 0 rfl rfl rfl rfl (Kp.refl ([]) w16) (fun w hS => vv_move rfl) ?_
                      refine dd_hn 0 rfl rfl rfl rfl (Kp.refl ([]) w16) (fun w hS => vv_move rfl) ?_
                      have hb := bnd hm; clear hm; obtain ⟨y37, hy37, hm⟩ := hb
                      have B66 := (Own.gr (Own.gr B36 Gw11) Gw16)
                      refine dd_hn 0 rfl rfl rfl rfl (Kp.refl ([]) w16) (fun w hS => vv_ixT (i := a20) Try.underlying48 (agg_47).siz rfl (Own.rd (Own.kp B66 hS)) rfl hy37) ?_
                      refine dd_hn 0 rfl rfl rfl rfl (Kp.refl ([]) w16) (fun w hS => vv_fieldAddr fa_47_0 rfl) ?_
                      refine dd_hn 0 rfl rfl rfl rfl (Kp.refl ([]) w16) (fun w hS => vv_el1T (q := 0) (u := .int .i64 y37.Node) one_3 rfl (Own.rd (Own.kp B66 hS)) hy37 (by first | rfl | omega) rfl) ?_
                      refine dd_hn 0 rfl rfl rfl rfl (Kp.refl ([]) w16) (fun w hS => vv_move rfl) ?_
                      refine dd_hn 0 rfl rfl rfl rfl (Kp.refl ([]) w16) (fun w hS => vv_move rfl) ?_
                      refine dd_hn 0 rfl rfl rfl rfl (Kp.refl ([]) w16) (fun w hS => vv_sub (k := .i64) (a := a20) (b := 1) rfl rfl) ?_
                      have hb := bnd hm; clear hm; obtain ⟨y38, hy38, hm⟩ := hb
                      refine dd_hn 0 rfl rfl rfl rfl (Kp.refl ([]) w16) (fun w hS => vv_ixT (i := w64 (a20 - 1)) Try.underlying48 (agg_47).siz rfl (Own.rd (Own.kp B66 hS)) rfl hy38) ?_
                      refine dd_hn 0 rfl rfl rfl rfl (Kp.refl ([]) w16) (fun w hS => vv_fieldAddr fa_47_0 rfl) ?_
                      refine dd_hn 0 rfl rfl rfl rfl (Kp.refl ([]) w16) (fun w hS => vv_el1T (q := 0) (u := .int .i64 y38.Node) one_3 rfl (Own.rd (Own.kp B66 hS)) hy38 (by first | rfl | omega) rfl) ?_
                      refine dd_hn 0 rfl rfl rfl rfl (Kp.refl ([]) w16) (fun w hS => vv_leq (a := y37.Node) (b := y38.Node) rfl rfl) ?_
                      refine dd_hn 0 rfl rfl rfl rfl (Kp.refl ([]) w16) (fun w hS => vv_pickT rfl rfl) ?_
                      refine dd_hn 0 rfl rfl rfl rfl (Kp.refl ([]) w16) (fun w hS => vv_pickF rfl rfl) ?_
                      refine sd_nil ?_
                      have K_67 : Kz [] w11 w16 := (Kz.gr (Kz.refl _ _) Gw16)
                      refine ⟨rfl, (decide (y37.Node ≤ y38.Node)), ?_, hm, K_67⟩
                      repeat' first | exact trivial | refine ⟨rfl, ?_⟩
                    ·
                      replace hm := ite_f (of_decide_eq_false c14) hm
                      refine dd_sn 0 rfl rfl rfl rfl (Kp.refl ([]) w16) ?_
                      refine dd_sn 0 rfl rfl rfl rfl (Kp.refl ([]) w16) ?_
                      refine dd_sn 0 rfl rfl rfl rfl (Kp.refl ([]) w16) ?_
                      refine dd_sn 0 rfl rfl rfl rfl (Kp.refl ([]) w16) ?_
                      refine dd_sn 0 rfl rfl rfl rfl (Kp.refl ([]) w16) ?_
                      refine dd_sn 0 rfl rfl rfl rfl (Kp.refl ([]) w16) ?_
                      refine dd_sn 0 rfl rfl rfl rfl (Kp.refl ([]) w16) ?_
                      refine dd_sn 0 rfl rfl rfl rfl (Kp.refl ([]) w16) ?_
                      refine dd_sn 0 rfl rfl rfl rfl (Kp.refl ([]) w16) ?_
                      refine dd_sn 0 rfl rfl rfl rfl (Kp.refl ([]) w16) ?_
                      refine dd_sn 0 rfl rfl rfl rfl (Kp.refl ([]) w16) ?_
                      refine dd_sn 0 rfl rfl rfl rfl (Kp.refl ([]) w16) ?_
                      refine dd_hn 0 rfl rfl rfl rfl (Kp.refl ([]) w16) (fun w hS => vv_pickF rfl rfl) ?_
                      refine dd_hn 0 rfl rfl rfl rfl (Kp.refl ([]) w16) (fun w hS => vv_pickF rfl rfl) ?_
                      refine sd_nil ?_
                      have K_68 : Kz [] w11 w16 := (Kz.gr (Kz.refl _ _) Gw16)
                      refine ⟨rfl, false, ?_, hm, K_68⟩
                      repeat' first | exact trivial | refine ⟨rfl, ?_⟩
            ·
              replace hm := ite_f (of_decide_eq_false c6) hm
              refine sw_exit ?_
              refine then_x ?_
              refine then_x ?_
              refine block_x ?_
              refine then_n ?_
              refine sw_seq ?_
              refine sw_seq ?_
              -- region 24 outright.go:120
              refine sw_region [(0, 0)] rfl rfl rfl ?_
              refine sd_vv rfl rfl rfl (vv_assign rfl) ?_
              refine sd_done ?_
              refine sw_block ?_
              have X69 : Gr w w9 := (Gr.kz X30 Kw9 (tk1 ((pv_1 (A := (fun x => w.heap.size ≤ x)) Fw7_1 (.inr tk0)) : zy11 = 0 ∨ w.heap.size ≤ gy11)))
              have B70 := (Rd.kz B26 Kw9 (tk1 ((pv_sw (pv_1 (A := (fun x => zp1 = 0 ∨ x ≠ gp1)) Fw7_1 (.inr (tk1 lt1.o)) (fun x hx => (tk1 lt1.o)))) : zp1 = 0 ∨ zy11 = 0 ∨ gp1 ≠ gy11)))
              refine sw_loopD (α := Nat × Int) [4, 14, 131, 132, 133, 134, 135, 136, 137, 138, 139, 140, 141] (fun ⟨n6, a40⟩ => [(4, .bool false), (14, .int .i64 a40)]) (fun ⟨n6, a40⟩ wr => (fixN (law03_CoverExact_L6 x1 x2 a18) n6 a40 = some r) ∧ Kz [] w9 wr) (fun ⟨n6, a40⟩ => n6) ⟨FUEL, 0⟩ ?_ ?_ ?_
              · repeat' first | exact trivial | refine ⟨rfl, ?_⟩
              · exact ⟨hm, Kz.refl _ _⟩
              · clear hm; rintro ⟨n6, a40⟩ w17 ⟨hm, Kw17⟩
                have z71 := Kw17.size
                have hb := fix_succ hm; clear hm; obtain ⟨n6, rfl, hm⟩ := hb
                generalize hrec6 : fixN (law03_CoverExact_L6 x1 x2 a18) n6 = rec6 at hm
                unfold law03_CoverExact_L6 at hm
                try dsimp only at hm
                refine sw_seq ?_
                refine sw_seq ?_
                -- region 25 outright.go:120
                refine sw_region [(0, 0), (1, 0), (2, 0), (3, 0)] rfl rfl rfl ?_
                refine sd_vv rfl rfl rfl (vv_move rfl) ?_
                refine sd_vv rfl rfl rfl (vv_move rfl) ?_
                have B72 := (Own.kz Fw9_0 Kw17)
                refine sd_vv rfl rfl rfl (vv_lenT (l := a18) (c := blc) Try.underlying111 rfl (Own.rd B72)) ?_
                refine sd_vv rfl rfl rfl (vv_lss (a := a40) (b := (a18.length : Int)) rfl rfl) ?_
                refine sd_done ?_
                refine sw_cond rfl (fun c15 => ?_) (fun c15 => ?_)
                ·
                  replace hm := ite_t (of_decide_eq_true c15) hm
                  refine sw_skip ?_
                  refine then_n ?_
                  refine sw_seq ?_
                  refine sw_block ?_
                  refine sw_seq ?_
                  -- region 27 outright.go:121
                  refine sw_region [(0, 0), (1, 0), (2, 0), (3, 0), (4, 0)] rfl rfl rfl ?_
                  refine sd_vv rfl rfl rfl (vv_move rfl) ?_
                  refine sd_vv rfl rfl rfl (vv_move rfl) ?_
                  have hb := bnd hm; clear hm; obtain ⟨y41, hy41, hm⟩ := hb
                  refine sd_vv rfl rfl rfl (vv_ixT (i := a40) Try.underlying111 (one_4).siz rfl (Own.rd B72) rfl hy41) ?_
                  refine sd_vv rfl rfl rfl (vv_el1T (q := 0) (u := .bool y41) one_4 rfl (Own.rd B72) hy41 (by first | rfl | omega) rfl) ?_
                  refine sd_vv rfl rfl rfl (vv_not rfl) ?_
                  refine sd_done ?_
                  refine sw_cond rfl (fun c16 => ?_) (fun c16 => ?_)
                  ·
                    replace hm := cnd_t c16 hm
                    refine sw_seq ?_
                    -- region 28 outright.go:122
                    refine sw_region [(0, 0)] rfl rfl rfl ?_
                    refine sd_vv rfl rfl rfl (vv_assign rfl) ?_
                    refine sd_done ?_
                    refine sw_ret ?_
                    refine block_r ?_
                    refine then_r ?_
                    refine then_r ?_
                    refine block_r ?_
                    refine then_r ?_
                    have X73 : Gr w w17 := (Gr.kz X69 Kw17)
                    have hr := Option.some.inj hm
                    subst hr
                    refine ⟨_, _, rfl, res_1 rfl (rv_tmp rfl), ?_⟩
                    exact ⟨rfl, X73⟩
                  ·
                    replace hm := cnd_f c16 hm
                    refine sw_skip ?_
                    refine block_n ?_
                    refine then_n ?_
                    -- region 26 outright.go:120
                    refine sw_region [(0, 0), (1, 0), (2, 0)] rfl rfl rfl ?_
                    refine sd_vv rfl rfl rfl (vv_move rfl) ?_
                    refine sd_vv rfl rfl rfl (vv_add (k := .i64) (a := a40) (b := 1) rfl rfl) ?_
                    refine sd_vv rfl rfl rfl (vv_assign rfl) ?_
                    refine sd_nil ?_
                    have K_74 : Kz [] w9 w17 := Kw17
                    subst hrec6
                    refine ⟨rfl, ⟨n6, w64 (a40 + 1)⟩, ?_, ⟨hm, K_74⟩, Nat.lt_succ_self _⟩
                    repeat' first | exact trivial | refine ⟨rfl, ?_⟩
                ·
                  replace hm := ite_f (of_decide_eq_false c15) hm
                  refine sw_exit ?_
                  refine then_x ?_
                  refine then_x ?_
                  refine block_x ?_
                  refine then_n ?_
                  refine sw_seq ?_
                  -- region 29 outright.go:125
                  refine sw_region [(0, 0), (1, 0), (2, 0), (3, 0), (4, 0), (5, 0)] rfl rfl rfl ?_
                  refine sd_vv rfl rfl rfl (vv_move rfl) ?_
                  refine sd_split rfl rfl rfl (vv_move rfl) (fun c17 => ?_) (fun c17 => ?_)
                  ·
                    replace hm := cnd_t c17 hm
                    refine sd_vv rfl rfl rfl (vv_move rfl) ?_
                    refine sd_vv rfl rfl rfl (vv_eql (a := x2.2) (b := 0) rfl rfl) ?_
                    refine sd_vv rfl rfl rfl (vv_pickT rfl rfl) ?_
                    refine sd_vv rfl rfl rfl (vv_assign rfl) ?_
                    refine sd_done ?_
                    refine sw_ret ?_
                    have X75 : Gr w w17 := (Gr.kz X69 Kw17)
                    have hr := Option.some.inj hm
                    subst hr
                    refine ⟨_, _, rfl, res_1 rfl (rv_tmp rfl), ?_⟩
                    exact ⟨rfl, X75⟩
                  ·
                    replace hm := cnd_f c17 hm
                    refine sd_skip rfl rfl rfl ?_
                    refine sd_skip rfl rfl rfl ?_
                    refine sd_vv rfl rfl rfl (vv_pickF rfl rfl) ?_
                    refine sd_vv rfl rfl rfl (vv_assign rfl) ?_
                    refine sd_done ?_
                    refine sw_ret ?_
                    have X76 : Gr w w17 := (Gr.kz X69 Kw17)
                    have hr := Option.some.inj hm
                    subst hr
                    refine ⟨_, _, rfl, res_1 rfl (rv_tmp rfl), ?_⟩
                    exact ⟨rfl, X76⟩
end Go.Proofs.Ytecempahccgijaa.Mx
