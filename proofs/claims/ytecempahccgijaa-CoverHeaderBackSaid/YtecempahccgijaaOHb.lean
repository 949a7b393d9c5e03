/- Walks that follow mirrors: OHb. Printed by mx.py. -/
import Derived.Test.YtecempahccgijaaWHb
import Derived.Test.YtecempahccgijaaOHbM
set_option linter.unusedVariables false
set_option linter.unusedSimpArgs false
set_option maxRecDepth 100000
namespace Go.Proofs.Ytecempahccgijaa.Mx
open Go Go.RowKit Go.Sx
theorem cv_3_5 : CV Try.prog 3 5 .u8 := fun _ _ _ => by kernel_rfl
theorem zv_5 : ZV Try.prog 5 (.int .u8 0) := fun _ => by kernel_rfl
theorem bsl_29_1 : BSl Try.prog 29 1 5 1 [.int .u8 0] := bsl_mk Try.underlying29 (one_5).siz zv_5 rfl rfl (by kernel_rfl)
theorem bsl_29_2 : BSl Try.prog 29 2 5 1 [.int .u8 0, .int .u8 0] := bsl_mk Try.underlying29 (one_5).siz zv_5 rfl rfl (by kernel_rfl)
theorem apt_29 : ApT Try.prog 29 5 1 1 := apt_mk Try.underlying29 rfl (by kernel_rfl)
theorem cv_23_5 : CV Try.prog 23 5 .u8 := fun _ _ _ => by kernel_rfl
theorem en_65 : En Try.prog 65 := fun _ _ => by kernel_rfl
theorem zv_72 : ZV Try.prog 72 (.agg [.int .u64 0, .int .u64 0].toArray) := fun _ => by kernel_rfl
theorem fa_72_0 : FA Try.prog 72 0 0 := fun _ _ _ => by kernel_rfl
theorem fa_72_1 : FA Try.prog 72 1 1 := fun _ _ _ => by kernel_rfl
theorem zv_125 : ZV Try.prog 125 (.agg [.slice none 0 0].toArray) := fun _ => by kernel_rfl
theorem one_29 : One Try.prog 29 := fun _ => ⟨by kernel_rfl, by kernel_rfl⟩
theorem bs_125 : BS Try.prog 125 (fun i => [(0, 1)][i]?) [.slice none 0 0] := bs_mk Try.underlying125 zv_125 ⟨rfl, (one_29).siz, trivial⟩
theorem fa_125_0 : FA Try.prog 125 0 0 := fun _ _ _ => by kernel_rfl
theorem en_122 : En Try.prog 122 := fun _ _ => by kernel_rfl
theorem cv_5_3 : CV Try.prog 5 3 .i64 := fun _ _ _ => by kernel_rfl
theorem en_67 : En Try.prog 67 := fun _ _ => by kernel_rfl
theorem en_68 : En Try.prog 68 := fun _ _ => by kernel_rfl
theorem cv_5_23 : CV Try.prog 5 23 .u64 := fun _ _ _ => by kernel_rfl
theorem en_69 : En Try.prog 69 := fun _ _ => by kernel_rfl
theorem bs_72 : BS Try.prog 72 (fun i => [(0, 1), (1, 1)][i]?) [.int .u64 0, .int .u64 0] := bs_mk Try.underlying72 zv_72 ⟨rfl, (one_23).siz, rfl, (one_23).siz, trivial⟩
theorem bsl_24_1 : BSl Try.prog 24 1 72 2 [.int .u64 0, .int .u64 0] := bsl_mk Try.underlying24 (agg_72).siz zv_72 rfl rfl (by kernel_rfl)
theorem apt_24 : ApT Try.prog 24 72 2 16 := apt_mk Try.underlying24 rfl (by kernel_rfl)
theorem en_23 : En Try.prog 23 := fun _ _ => by kernel_rfl
theorem en_70 : En Try.prog 70 := fun _ _ => by kernel_rfl

set_option maxHeartbeats 2000000 in
theorem cover_put_w (p0 : List (BitVec 8)) (p1 : BitVec 64) (vp0 : Value) (zp0 gp0 : Nat) (r : List (BitVec 8)) (hm : cover_put p0 p1 = some r) (w : World) (hp0 : Own w zp0 gp0 5 1 vp0 (p0.map bvc))  :
    Calls Try.prog 65 [vp0, wv p1].toArray w fun e w' => ∃ v, e = .returned v ∧ (∃ (ur0_s : Value) (zr0_s : Nat) (gr0_s : Nat), v = ur0_s ∧ Own w' zr0_s gr0_s 5 1 ur0_s (r.map bvc) ∧ Hdn (zr0_s = 0 ∨ (gr0_s = gp0 ∧ zp0 ≠ 0) ∨ w.heap.size ≤ gr0_s) ∧ Kz [(zp0, gp0)] w w') := by
  have lt1 := hp0.lth
  unfold cover_put at hm
  refine calls_of_sw (R := fun v w' => ∃ (ur0_s : Value) (zr0_s : Nat) (gr0_s : Nat), v = ur0_s ∧ Own w' zr0_s gr0_s 5 1 ur0_s (r.map bvc) ∧ Hdn (zr0_s = 0 ∨ (gr0_s = gp0 ∧ zp0 ≠ 0) ∨ w.heap.size ≤ gr0_s) ∧ Kz [(zp0, gp0)] w w') 18 Try.func65 rfl rfl rfl ?_
  refine sw_seq ?_
  -- region 0 header.go:10
  refine sw_region [(0, 0)] rfl rfl rfl ?_
  refine sd_vv rfl rfl rfl (vv_assign rfl) ?_
  refine sd_done ?_
  refine sw_seq ?_
  refine sw_seq ?_
  -- region 1 header.go:11
  refine sw_region [(0, 0)] rfl rfl rfl ?_
  refine sd_vv rfl rfl rfl (vv_assign rfl) ?_
  refine sd_done ?_
  refine sw_block ?_
  refine sw_loopD (α := Nat × List (BitVec 8) × Int × Value × Nat × Nat) [0, 5, 6, 7, 8, 9, 10, 11, 12, 13, 14, 15, 16] (fun ⟨n1, a4, a6, vy5, zy5, gy5⟩ => [(0, vy5), (5, .int .i64 a6)]) (fun ⟨n1, a4, a6, vy5, zy5, gy5⟩ wr => (fixN (cover_put_L1 p1) n1 (a4, a6) = some r) ∧ Own wr zy5 gy5 5 1 vy5 (a4.map bvc) ∧ Hdn (zy5 = 0 ∨ (gy5 = gp0 ∧ zp0 ≠ 0) ∨ w.heap.size ≤ gy5) ∧ Kz [(zp0, gp0)] w wr) (fun ⟨n1, a4, a6, vy5, zy5, gy5⟩ => n1) ⟨FUEL, p0, 56, vp0, zp0, gp0⟩ ?_ ?_ ?_
  · repeat' first | exact trivial | refine ⟨rfl, ?_⟩
  · exact ⟨hm, hp0, ⟨tk0⟩, Kz.refl _ _⟩
  · clear hm; rintro ⟨n1, a4, a6, vy5, zy5, gy5⟩ w1 ⟨hm, Fw1_0, Fw1_1, Kw1⟩
    have z2 := Kw1.size
    have lt3 := Fw1_0.lth
    have hb := fix_succ hm; clear hm; obtain ⟨n1, rfl, hm⟩ := hb
    generalize hrec1 : fixN (cover_put_L1 p1) n1 = rec1 at hm
    unfold cover_put_L1 at hm
    try dsimp only at hm
    refine sw_seq ?_
    refine sw_seq ?_
    -- region 2 header.go:11
    refine sw_region [(0, 0), (1, 0)] rfl rfl rfl ?_
    refine sd_vv rfl rfl rfl (vv_move rfl) ?_
    refine sd_vv rfl rfl rfl (vv_geq (a := a6) (b := 0) rfl rfl) ?_
    refine sd_done ?_
    refine sw_cond rfl (fun c1 => ?_) (fun c1 => ?_)
    ·
      replace hm := ite_t (of_decide_eq_true c1) hm
      refine sw_skip ?_
      refine then_n ?_
      refine sw_seq ?_
      refine sw_block ?_
      -- region 4 header.go:12
      refine sw_region [(0, 0), (1, 0), (2, 0), (3, 0), (4, 0), (5, 0), (6, 0), (7, 0)] rfl rfl rfl ?_
      refine sd_vv rfl rfl rfl (vv_move rfl) ?_
      refine sd_vv rfl rfl rfl (vv_move rfl) ?_
      refine sd_vv rfl rfl rfl (vv_move rfl) ?_
      have hb := bnd hm; clear hm; obtain ⟨n7, hn7, hm⟩ := hb
      refine sd_vv rfl rfl rfl (vv_shrU (c := p1) (b := a6) rfl rfl hn7) ?_
      refine sd_vv rfl rfl rfl (vv_cvUB cv_23_5 rfl) ?_
      refine sd_ev rfl rfl rfl (ev_litT [(p1 >>> n7).setWidth 8] bvc bsl_29_1 rfl rfl (ws_of rfl) rfl rfl rfl) ?_
      rintro vw2 w2 ⟨gw2, hbw2, Ow2, Gw2⟩
      have z4 := Gw2.size
      have lt5 := Ow2.lth
      have B6 := (Own.gr Fw1_0 Gw2)
      have hb := bnd hm; clear hm; obtain ⟨l8, hl8, hm⟩ := hb
      refine sd_ev rfl rfl rfl (ev_appT (l := a4) (m := [(p1 >>> n7).setWidth 8]) (c := bvc) apt_29 rfl rfl B6 (Own.rd Ow2) hl8 (by decide)) ?_
      rintro vw3 w3 ⟨zw3, gw3, Ow3, Aw3, qw3, rw3⟩
      have z7 := Aw3.size
      refine sd_vv rfl rfl rfl (vv_assign rfl) ?_
      refine sd_nil ?_
      refine block_n ?_
      refine then_n ?_
      -- region 3 header.go:11
      refine sw_region [(0, 0), (1, 0), (2, 0)] rfl rfl rfl ?_
      refine sd_vv rfl rfl rfl (vv_move rfl) ?_
      refine sd_vv rfl rfl rfl (vv_sub (k := .i64) (a := a6) (b := 8) rfl rfl) ?_
      refine sd_vv rfl rfl rfl (vv_assign rfl) ?_
      refine sd_nil ?_
      have K_8 : Kz [(zp0, gp0)] w w3 := (Kz.ka (Kz.gr Kw1 Gw2) Aw3 (tk1 ((pv_1 (A := (fun x => (x = gp0 ∧ zp0 ≠ 0) ∨ w.heap.size ≤ x)) Fw1_1 tk0) : zy5 = 0 ∨ (gy5 = gp0 ∧ zp0 ≠ 0) ∨ w.heap.size ≤ gy5)))
      subst hrec1
      refine ⟨rfl, ⟨n1, l8, w64 (a6 - 8), vw3, zw3, gw3⟩, ?_, ⟨hm, Ow3, ⟨(pv_app (A := (fun x => (x = gp0 ∧ zp0 ≠ 0) ∨ w.heap.size ≤ x)) rw3 (pv_1 (A := (fun x => (x = gp0 ∧ zp0 ≠ 0) ∨ w.heap.size ≤ x)) Fw1_1 tk0))⟩, K_8⟩, Nat.lt_succ_self _⟩
      repeat' first | exact trivial | refine ⟨rfl, ?_⟩
    ·
      replace hm := ite_f (of_decide_eq_false c1) hm
      refine sw_exit ?_
      refine then_x ?_
      refine then_x ?_
      refine block_x ?_
      refine then_n ?_
      refine sw_seq ?_
      -- region 5 header.go:14
      refine sw_region [(0, 0), (1, 0)] rfl rfl rfl ?_
      refine sd_vv rfl rfl rfl (vv_move rfl) ?_
      refine sd_vv rfl rfl rfl (vv_assign rfl) ?_
      refine sd_done ?_
      refine sw_ret ?_
      have X9 : Kz [(zp0, gp0)] w w1 := (Kz.kz (Kz.refl _ w) Kw1 (tk1 (tk0 : zp0 = 0 ∨ (gp0 = gp0 ∧ zp0 ≠ 0) ∨ w.heap.size ≤ gp0)))
      have hr := Option.some.inj hm
      subst hr
      refine ⟨_, _, rfl, res_1 rfl (rv_tmp rfl), ?_⟩
      exact ⟨vy5, zy5, gy5, rfl, Fw1_0, ⟨(pv_1 (A := (fun x => (x = gp0 ∧ zp0 ≠ 0) ∨ w.heap.size ≤ x)) Fw1_1 tk0)⟩, X9⟩

set_option maxHeartbeats 2000000 in
theorem cover_Encode_w (p0 : THeader) (vp0_0 : Value) (zp0_0 gp0_0 op0_0 : Nat) (vp0_2 : Value) (zp0_2 gp0_2 op0_2 : Nat) (r : List (BitVec 8) × Int) (hm : cover_Encode p0 = some r) (w : World) (hp0_0 : Rd w zp0_0 gp0_0 op0_0 18 vp0_0 (p0.Items.map TItem.cs)) (hp0_2 : Rd w zp0_2 gp0_2 op0_2 2 vp0_2 (p0.Points.map TPoint.cs))  :
    Calls Try.prog 23 [.agg (THeader.cs p0 vp0_0 vp0_2).toArray].toArray w fun e w' => ∃ v, e = .returned v ∧ (∃ (ur0_s : Value) (zr0_s : Nat) (gr0_s : Nat), v = .tuple [ur0_s, .int .i64 r.2].toArray ∧ Own w' zr0_s gr0_s 5 1 ur0_s (r.1.map bvc) ∧ Hdn (zr0_s = 0 ∨ w.heap.size ≤ gr0_s) ∧ Gr w w') := by
  have lt1 := hp0_0.lth
  have lt2 := hp0_2.lth
  unfold cover_Encode at hm
  refine calls_of_sw (R := fun v w' => ∃ (ur0_s : Value) (zr0_s : Nat) (gr0_s : Nat), v = .tuple [ur0_s, .int .i64 r.2].toArray ∧ Own w' zr0_s gr0_s 5 1 ur0_s (r.1.map bvc) ∧ Hdn (zr0_s = 0 ∨ w.heap.size ≤ gr0_s) ∧ Gr w w') 90 Try.func23 rfl rfl rfl ?_
  refine sw_seq ?_
  -- region 0 header.go:18
  refine sw_region [(0, 0), (1, 0), (2, 0)] rfl rfl rfl ?_
  refine sd_ev rfl rfl rfl (ev_box (cs := THeader.cs p0 vp0_0 vp0_2) rfl rfl) ?_
  rintro _ w1 ⟨b1, rfl, hbw1, Bw1, Gw1⟩
  have z3 := Gw1.size
  have lt4 := Bw1.lt
  refine sd_vv rfl rfl rfl (vv_assign rfl) ?_
  refine sd_vv rfl rfl rfl (vv_assign rfl) ?_
  refine sd_done ?_
  refine sw_seq ?_
  have X5 : Gr w w1 := (Gr.trans (Gr.refl w) Gw1)
  refine sw_joinD (β := Bool) [9, 10, 11, 12, 13, 14, 15, 16, 17, 18] (fun a1 => [(18, .bool a1)]) (fun a1 wr => (cover_Encode_J1 p0 a1 = some r) ∧ Kz [] w1 wr) ?_ ?_
  · clear hm; rintro a1 w2 ⟨hm, Kw2⟩
    have z6 := Kw2.size
    unfold cover_Encode_J1 at hm
    refine sw_cond rfl (fun c1 => ?_) (fun c1 => ?_)
    ·
      replace hm := cnd_t c1 hm
      refine sw_seq ?_
      -- region 2 header.go:20
      refine sw_region [(0, 0), (1, 0)] rfl rfl rfl ?_
      refine sd_vv rfl rfl rfl (vv_assign rfl) ?_
      refine sd_vv rfl rfl rfl (vv_assign rfl) ?_
      refine sd_done ?_
      refine sw_ret ?_
      refine then_r ?_
      have X7 : Gr w w2 := (Gr.kz X5 Kw2)
      have hr := Option.some.inj hm
      subst hr
      refine ⟨_, _, rfl, res_2 rfl (rv_tmp rfl) (rv_tmp rfl), ?_⟩
      exact ⟨(.slice none 0 0), 0, 0, rfl, (own_nil _ 0 5 1), ⟨.inl rfl⟩, X7⟩
    ·
      replace hm := cnd_f c1 hm
      refine sw_skip ?_
      refine then_n ?_
      refine sw_seq ?_
      -- region 3 header.go:22
      refine sw_region [(0, 0), (1, 0), (2, 0), (3, 0), (4, 0), (5, 0)] rfl rfl rfl ?_
      refine sd_vv rfl rfl rfl (vv_fieldAddr fa_28_0 rfl) ?_
      have B8 := (Bx.kz Bw1 Kw2)
      refine sd_vv rfl rfl rfl (vv_load1 (v := vp0_0) one_22 rfl B8 rfl) ?_
      have B9 := (Rd.kz (Rd.gr hp0_0 Gw1) Kw2)
      refine sd_vv rfl rfl rfl (vv_lenT (l := p0.Items) (c := TItem.cs) Try.underlying22 rfl B9) ?_
      refine sd_vv rfl rfl rfl (vv_cvIB cv_3_5 rfl) ?_
      refine sd_ev rfl rfl rfl (ev_litT [wd8 (p0.Items.length : Int)] bvc bsl_29_1 rfl rfl (ws_of rfl) rfl rfl rfl) ?_
      rintro vw3 w3 ⟨gw3, hbw3, Ow3, Gw3⟩
      have z10 := Gw3.size
      have lt11 := Ow3.lth
      refine sd_vv rfl rfl rfl (vv_assign rfl) ?_
      refine sd_done ?_
      refine sw_seq ?_
      refine sw_seq ?_
      -- region 4 header.go:23
      refine sw_region [(0, 0), (1, 0), (2, 0), (3, 0)] rfl rfl rfl ?_
      refine sd_vv rfl rfl rfl (vv_fieldAddr fa_28_0 rfl) ?_
      have B12 := (Bx.gr B8 Gw3)
      refine sd_vv rfl rfl rfl (vv_load1 (v := vp0_0) one_22 rfl B12 rfl) ?_
      have B13 := (Rd.gr B9 Gw3)
      refine sd_vv rfl rfl rfl (vv_lenT (l := p0.Items) (c := TItem.cs) Try.underlying22 rfl B13) ?_
      refine sd_vv rfl rfl rfl (vv_move rfl) ?_
      refine sd_done ?_
      refine sw_block ?_
      have X14 : Gr w w3 := (Gr.trans (Gr.kz X5 Kw2) Gw3)
      have B15 := (Rd.gr (Rd.kz (Rd.gr hp0_2 Gw1) Kw2) Gw3)
      refine sw_loopD (α := Nat × List (BitVec 8) × Int × Value × Nat × Nat) [2, 3, 4, 6, 27, 28, 29, 30, 31, 32, 33, 34, 35, 36, 37, 38, 39, 40, 41, 42, 43, 44, 45, 46, 47, 48, 49, 50, 51, 52, 53, 54, 55, 56, 57] (fun ⟨n2, a5, a7, vy6, zy6, gy6⟩ => [(2, .slice none 0 0), (3, .int .i64 0), (4, vy6), (27, .int .i64 a7)]) (fun ⟨n2, a5, a7, vy6, zy6, gy6⟩ wr => (fixN (cover_Encode_L2 p0) n2 (a5, a7) = some r) ∧ Own wr zy6 gy6 5 1 vy6 (a5.map bvc) ∧ Hdn (zy6 = 0 ∨ (gy6 = gw3 ∧ 1 ≠ 0) ∨ w3.heap.size ≤ gy6) ∧ Kz [(1, gw3)] w3 wr) (fun ⟨n2, a5, a7, vy6, zy6, gy6⟩ => n2) ⟨FUEL, [wd8 (p0.Items.length : Int)], 0, vw3, 1, gw3⟩ ?_ ?_ ?_
      · repeat' first | exact trivial | refine ⟨rfl, ?_⟩
      · exact ⟨hm, Ow3, ⟨tk0⟩, Kz.refl _ _⟩
      · clear hm; rintro ⟨n2, a5, a7, vy6, zy6, gy6⟩ w4 ⟨hm, Fw4_0, Fw4_1, Kw4⟩
        have z16 := Kw4.size
        have lt17 := Fw4_0.lth
        have hb := fix_succ hm; clear hm; obtain ⟨n2, rfl, hm⟩ := hb
        generalize hrec2 : fixN (cover_Encode_L2 p0) n2 = rec2 at hm
        unfold cover_Encode_L2 at hm
        try dsimp only at hm
        refine sw_seq ?_
        -- region 5 header.go:23
        refine sw_region [(0, 0)] rfl rfl rfl ?_
        refine sd_vv rfl rfl rfl (vv_lss (a := a7) (b := (p0.Items.length : Int)) rfl rfl) ?_
        refine sd_done ?_
        refine sw_seq ?_
        refine sw_cond rfl (fun c2 => ?_) (fun c2 => ?_)
        ·
          replace hm := ite_t (of_decide_eq_true c2) hm
          refine sw_skip ?_
          refine then_n ?_
          refine sw_seq ?_
          refine sw_block ?_
          refine sw_seq ?_
          -- region 6 header.go:23
          refine sw_region [(0, 0), (1, 0), (2, 0), (3, 0)] rfl rfl rfl ?_
          have hb := bnd hm; clear hm; obtain ⟨y8, hy8, hm⟩ := hb
          have B18 := (Rd.kz B13 Kw4 (tk1 ((pv_sw (.inr (tk1 lt1.o))) : zp0_0 = 0 ∨ 1 = 0 ∨ gp0_0 ≠ gw3)))
          refine sd_vv rfl rfl rfl (vv_ixT (i := a7) Try.underlying22 (agg_108).siz rfl B18 rfl hy8) ?_
          refine sd_vv rfl rfl rfl (vv_elWT agg_108 rfl B18 hy8 (by first | rfl | omega)) ?_
          refine sd_ev rfl rfl rfl (ev_alloc (cs := TItem.cs (TItem.mk (TSubset.mk 0 0) k0)) zv_108 rfl) ?_
          rintro _ w5 ⟨b5, rfl, hbw5, Bw5, Gw5⟩
          have z19 := Gw5.size
          have lt20 := Bw5.lt
          refine sd_ev rfl rfl rfl (ev_stM (cs' := TItem.cs y8) (vs := TItem.cs y8) (agg_108).siz rfl rfl rfl rfl rfl Bw5 rfl rfl) ?_
          rintro _ w6 ⟨Bw6, Mw6⟩
          have z21 := Mw6.size
          refine sd_done ?_
          refine sw_seq ?_
          have X22 : Gr w w6 := (Gr.md (Gr.trans (Gr.kz X14 Kw4 (tk1 ((.inr tk0) : 1 = 0 ∨ w.heap.size ≤ gw3))) Gw5) Mw6)
          refine sw_joinD (β := Bool) [31, 32, 33, 34, 35, 36, 37, 38, 39, 40, 41, 42] (fun a9 => [(42, .bool a9)]) (fun a9 wr => (cover_Encode_J3 a5 a7 rec2 y8 a9 = some r) ∧ Kz [] w6 wr) ?_ ?_
          · clear hm; rintro a9 w7 ⟨hm, Kw7⟩
            have z23 := Kw7.size
            unfold cover_Encode_J3 at hm
            refine sw_cond rfl (fun c3 => ?_) (fun c3 => ?_)
            ·
              replace hm := cnd_t c3 hm
              refine sw_seq ?_
              -- region 8 header.go:25
              refine sw_region [(0, 0), (1, 0)] rfl rfl rfl ?_
              refine sd_vv rfl rfl rfl (vv_assign rfl) ?_
              refine sd_vv rfl rfl rfl (vv_assign rfl) ?_
              refine sd_done ?_
              refine sw_ret ?_
              refine then_r ?_
              refine block_r ?_
              refine then_r ?_
              refine then_r ?_
              refine block_r ?_
              refine then_r ?_
              have X24 : Gr w w7 := (Gr.kz X22 Kw7)
              have hr := Option.some.inj hm
              subst hr
              refine ⟨_, _, rfl, res_2 rfl (rv_tmp rfl) (rv_tmp rfl), ?_⟩
              exact ⟨(.slice none 0 0), 0, 0, rfl, (own_nil _ 0 5 1), ⟨.inl rfl⟩, X24⟩
            ·
              replace hm := cnd_f c3 hm
              refine sw_skip ?_
              refine then_n ?_
              -- region 9 header.go:27 DRAWS
              refine sw_drawN [([] ++ zf zy6 gy6)] [] (.leaf [(0, 10), (1, 10), (2, 10), (3, 10), (4, 10), (5, 10), (6, 10), (7, 10), (8, 10), (11, 10), (12, 10), (9, 0), (10, 0), (13, 0), (14, 10)]) (by kernel_rfl) (by kernel_rfl) rfl (by kernel_rfl) ?_
              intro w8 Gw8 zw8
              refine sdz_leaf ?_
              refine dd_hn 0 rfl rfl rfl rfl (Kp.refl ([] ++ zf zy6 gy6) w8) (fun w hS => vv_move rfl) ?_
              refine dd_hn 0 rfl rfl rfl rfl (Kp.refl ([] ++ zf zy6 gy6) w8) (fun w hS => vv_fieldAddr fa_108_0 rfl) ?_
              refine dd_hn 0 rfl rfl rfl rfl (Kp.refl ([] ++ zf zy6 gy6) w8) (fun w hS => vv_fieldAddr fa_47_0 rfl) ?_
              have B25 := (Bx.gr (Bx.kz Bw6 Kw7) Gw8)
              refine dd_hn 0 rfl rfl rfl rfl (Kp.refl ([] ++ zf zy6 gy6) w8) (fun w hS => vv_load1 (v := .int .i64 y8.Subset.Node) one_3 rfl (Bx.kp B25 hS (tk1 ((pv_lt (A := (fun x => x ≠ b5)) lt17) : zy6 = 0 ∨ gy6 ≠ b5))) rfl) ?_
              refine dd_hn 0 rfl rfl rfl rfl (Kp.refl ([] ++ zf zy6 gy6) w8) (fun w hS => vv_cvIB cv_3_5 rfl) ?_
              refine dd_hn 0 rfl rfl rfl rfl (Kp.refl ([] ++ zf zy6 gy6) w8) (fun w hS => vv_fieldAddr fa_108_0 rfl) ?_
              refine dd_hn 0 rfl rfl rfl rfl (Kp.refl ([] ++ zf zy6 gy6) w8) (fun w hS => vv_fieldAddr fa_47_1 rfl) ?_
              refine dd_hn 0 rfl rfl rfl rfl (Kp.refl ([] ++ zf zy6 gy6) w8) (fun w hS => vv_load1 (v := .int .i64 y8.Subset.Minus) one_3 rfl (Bx.kp B25 hS (tk1 ((pv_lt (A := (fun x => x ≠ b5)) lt17) : zy6 = 0 ∨ gy6 ≠ b5))) rfl) ?_
              refine dd_hn 0 rfl rfl rfl rfl (Kp.refl ([] ++ zf zy6 gy6) w8) (fun w hS => vv_cvIB cv_3_5 rfl) ?_
              refine dd_hn 0 rfl rfl rfl rfl (Kp.refl ([] ++ zf zy6 gy6) w8) (fun w hS => vv_fieldAddr fa_108_1 rfl) ?_
              have Rk26 := rd_key (o := 2) (p := y8.Box) B25 rfl
              have lt27 := Rk26.lth
              refine dd_hn 0 rfl rfl rfl rfl (Kp.refl ([] ++ zf zy6 gy6) w8) (fun w hS => vv_sliceA (n := 16) (l := 0) (h := 16) Try.underlying26 (one_5).siz rfl rfl rfl (by decide) (by decide) (by decide)) ?_
              refine dd_z [] rfl rfl rfl (ev_litT [wd8 y8.Subset.Node, wd8 y8.Subset.Minus] bvc bsl_29_2 rfl rfl (ws_of rfl) rfl rfl rfl) ⟨fun _ => tk0, trivial⟩ ?_
              rintro vw9 w9 ⟨gw9, hbw9, Ow9, Gw9⟩
              have z28 := Gw9.size
              have lt29 := Ow9.lth
              refine ⟨Kz.ofGr Gw9, ?_⟩
              have B30 := (Own.gr (Own.gr (Own.kz (Own.md (Own.gr Fw4_0 Gw5) Mw6 (tk1 ((pv_lt (A := (fun x => x ≠ b5)) lt17) : zy6 = 0 ∨ gy6 ≠ b5))) Kw7) Gw8) Gw9)
              have hb := bnd hm; clear hm; obtain ⟨l10, hl10, hm⟩ := hb
              refine dd_z [(zy6, gy6)] rfl rfl rfl (ev_appT (l := a5) (m := [wd8 y8.Subset.Node, wd8 y8.Subset.Minus]) (c := bvc) apt_29 rfl rfl B30 (Own.rd Ow9) hl10 (by decide)) ⟨fun _ => (tk1 (tk0 : zy6 = 0 ∨ (gy6 = gy6 ∧ zy6 ≠ 0) ∨ w8.heap.size ≤ gy6)), trivial⟩ ?_
              rintro vw10 w10 ⟨zw10, gw10, Ow10, Aw10, qw10, rw10⟩
              have z31 := Aw10.size
              refine ⟨Kz.ofKa Aw10, ?_⟩
              have B32 := (Rd.ka (Rd.gr Rk26 Gw9) Aw10 (tk1 ((tk1 ((pv_lt (A := (fun x => x ≠ b5)) lt17) : zy6 = 0 ∨ gy6 ≠ b5)) : 1 = 0 ∨ zy6 = 0 ∨ b5 ≠ gy6)))
              have hb := bnd hm; clear hm; obtain ⟨l11, hl11, hm⟩ := hb
              refine dd_z [(zw10, gw10)] rfl rfl rfl (ev_appT (l := l10) (m := kby y8.Box) (c := bvc) apt_29 rfl rfl Ow10 B32 hl11 (by decide)) ⟨fun _ => (tk1 ((pv_app (A := (fun x => (x = gy6 ∧ zy6 ≠ 0) ∨ w8.heap.size ≤ x)) rw10 tk0) : zw10 = 0 ∨ (gw10 = gy6 ∧ zy6 ≠ 0) ∨ w8.heap.size ≤ gw10)), trivial⟩ ?_
              rintro vw11 w11 ⟨zw11, gw11, Ow11, Aw11, qw11, rw11⟩
              have z33 := Aw11.size
              refine ⟨Kz.ofKa Aw11, ?_⟩
              have S34 := (Kp.ka (Kp.ka (Kp.gr (Kp.refl ([] ++ zf zy6 gy6) w8) Gw9) Aw10 (tk1 (tk0 : zy6 = 0 ∨ (gy6 = gy6 ∧ zy6 ≠ 0) ∨ w8.heap.size ≤ gy6))) Aw11 (tk1 ((pv_app (A := (fun x => (x = gy6 ∧ zy6 ≠ 0) ∨ w8.heap.size ≤ x)) rw10 tk0) : zw10 = 0 ∨ (gw10 = gy6 ∧ zy6 ≠ 0) ∨ w8.heap.size ≤ gw10)))
              refine dd_hn 0 rfl rfl rfl rfl S34 (fun w hS => vv_assign rfl) ?_
              refine sd_nil ?_
              refine block_n ?_
              refine then_n ?_
              -- region 10 header.go:23
              refine sw_region [(0, 0), (1, 0)] rfl rfl rfl ?_
              refine sd_vv rfl rfl rfl (vv_add (k := .i64) (a := a7) (b := 1) rfl rfl) ?_
              refine sd_vv rfl rfl rfl (vv_move rfl) ?_
              refine sd_nil ?_
              have K_35 : Kz [(1, gw3)] w3 w11 := (Kz.ka (Kz.ka (Kz.gr (Kz.gr (Kz.kz (Kz.md (Kz.gr Kw4 Gw5) Mw6) Kw7) Gw8) Gw9) Aw10 (tk1 ((pv_1 (A := (fun x => (x = gw3 ∧ 1 ≠ 0) ∨ w3.heap.size ≤ x)) Fw4_1 tk0) : zy6 = 0 ∨ (gy6 = gw3 ∧ 1 ≠ 0) ∨ w3.heap.size ≤ gy6))) Aw11 (tk1 ((pv_app (A := (fun x => (x = gw3 ∧ 1 ≠ 0) ∨ w3.heap.size ≤ x)) rw10 (pv_1 (A := (fun x => (x = gw3 ∧ 1 ≠ 0) ∨ w3.heap.size ≤ x)) Fw4_1 tk0)) : zw10 = 0 ∨ (gw10 = gw3 ∧ 1 ≠ 0) ∨ w3.heap.size ≤ gw10)))
              subst hrec2
              refine ⟨rfl, ⟨n2, l11, w64 (a7 + 1), vw11, zw11, gw11⟩, ?_, ⟨hm, Ow11, ⟨(pv_app (A := (fun x => (x = gw3 ∧ 1 ≠ 0) ∨ w3.heap.size ≤ x)) rw11 (pv_app (A := (fun x => (x = gw3 ∧ 1 ≠ 0) ∨ w3.heap.size ≤ x)) rw10 (pv_1 (A := (fun x => (x = gw3 ∧ 1 ≠ 0) ∨ w3.heap.size ≤ x)) Fw4_1 tk0)))⟩, K_35⟩, Nat.lt_succ_self _⟩
              repeat' first | exact trivial | refine ⟨rfl, ?_⟩
          ·
            -- region 7 header.go:24
            refine sw_region [(0, 0), (1, 0), (2, 0), (3, 0), (4, 0), (5, 0), (6, 0), (7, 0), (8, 0), (9, 0), (10, 0), (11, 0)] rfl rfl rfl ?_
            refine sd_vv rfl rfl rfl (vv_fieldAddr fa_108_0 rfl) ?_
            refine sd_vv rfl rfl rfl (vv_fieldAddr fa_47_0 rfl) ?_
            refine sd_vv rfl rfl rfl (vv_load1 (v := .int .i64 y8.Subset.Node) one_3 rfl Bw6 rfl) ?_
            refine sd_vv rfl rfl rfl (vv_bitI (a := y8.Subset.Node) (b := 255) (by simp) rfl rfl) ?_
            refine sd_vv rfl rfl rfl (vv_neq (a := bitI .andNot y8.Subset.Node 255) (b := 0) rfl rfl) ?_
            refine sd_split rfl rfl rfl (vv_move rfl) (fun c4 => ?_) (fun c4 => ?_)
            ·
              replace hm := ite_t (of_decide_eq_true c4) hm
              refine sd_skip rfl rfl rfl ?_
              refine sd_skip rfl rfl rfl ?_
              refine sd_skip rfl rfl rfl ?_
              refine sd_skip rfl rfl rfl ?_
              refine sd_skip rfl rfl rfl ?_
              refine sd_vv rfl rfl rfl (vv_pickT rfl rfl) ?_
              refine sd_nil ?_
              have K_36 : Kz [] w6 w6 := (Kz.refl _ _)
              refine ⟨rfl, true, ?_, hm, K_36⟩
              repeat' first | exact trivial | refine ⟨rfl, ?_⟩
            ·
              replace hm := ite_f (of_decide_eq_false c4) hm
              refine sd_vv rfl rfl rfl (vv_fieldAddr fa_108_0 rfl) ?_
              refine sd_vv rfl rfl rfl (vv_fieldAddr fa_47_1 rfl) ?_
              refine sd_vv rfl rfl rfl (vv_load1 (v := .int .i64 y8.Subset.Minus) one_3 rfl Bw6 rfl) ?_
              refine sd_vv rfl rfl rfl (vv_bitI (a := y8.Subset.Minus) (b := 255) (by simp) rfl rfl) ?_
              refine sd_vv rfl rfl rfl (vv_neq (a := bitI .andNot y8.Subset.Minus 255) (b := 0) rfl rfl) ?_
              refine sd_vv rfl rfl rfl (vv_pickF rfl rfl) ?_
              refine sd_nil ?_
              have K_37 : Kz [] w6 w6 := (Kz.refl _ _)
              refine ⟨rfl, (decide (bitI .andNot y8.Subset.Minus 255 ≠ 0)), ?_, hm, K_37⟩
              repeat' first | exact trivial | refine ⟨rfl, ?_⟩
        ·
          replace hm := ite_f (of_decide_eq_false c2) hm
          refine sw_exit ?_
          refine then_x ?_
          refine then_x ?_
          refine block_x ?_
          refine then_n ?_
          have X38 : Gr w w4 := (Gr.kz X14 Kw4 (tk1 ((.inr tk0) : 1 = 0 ∨ w.heap.size ≤ gw3)))
          refine sw_joinD (β := List (BitVec 8) × Value × Nat × Nat) [4, 58, 59, 60, 61, 62, 63, 64, 65, 66, 67] (fun ⟨a12, vy13, zy13, gy13⟩ => [(4, vy13)]) (fun ⟨a12, vy13, zy13, gy13⟩ wr => (cover_Encode_J4 p0 a12 = some r) ∧ Own wr zy13 gy13 5 1 vy13 (a12.map bvc) ∧ Hdn (zy13 = 0 ∨ (gy13 = gy6 ∧ zy6 ≠ 0) ∨ w4.heap.size ≤ gy13) ∧ Kz [(zy6, gy6)] w4 wr) ?_ ?_
          · clear hm; rintro ⟨a12, vy13, zy13, gy13⟩ w12 ⟨hm, Fw12_0, Fw12_1, Kw12⟩
            have z39 := Kw12.size
            have lt40 := Fw12_0.lth
            unfold cover_Encode_J4 at hm
            refine sw_seq ?_
            refine sw_seq ?_
            -- region 12 header.go:30
            refine sw_region [(0, 0), (1, 0), (2, 0), (3, 0)] rfl rfl rfl ?_
            refine sd_vv rfl rfl rfl (vv_fieldAddr fa_28_2 rfl) ?_
            have B41 := (Bx.kz (Bx.kz B12 Kw4 (tk1 ((.inr tk0) : 1 = 0 ∨ gw3 ≠ b1))) Kw12 (tk1 ((pv_1 (A := (fun x => x ≠ b1)) Fw4_1 (.inr tk0)) : zy6 = 0 ∨ gy6 ≠ b1)))
            refine sd_vv rfl rfl rfl (vv_load1 (v := vp0_2) one_24 rfl B41 rfl) ?_
            have B42 := (Rd.kz (Rd.kz B15 Kw4 (tk1 ((pv_sw (.inr (tk1 lt2.o))) : zp0_2 = 0 ∨ 1 = 0 ∨ gp0_2 ≠ gw3))) Kw12 (tk1 ((pv_sw (pv_1 (A := (fun x => zp0_2 = 0 ∨ x ≠ gp0_2)) Fw4_1 (.inr (tk1 lt2.o)) (fun x hx => (tk1 lt2.o)))) : zp0_2 = 0 ∨ zy6 = 0 ∨ gp0_2 ≠ gy6)))
            refine sd_vv rfl rfl rfl (vv_lenT (l := p0.Points) (c := TPoint.cs) Try.underlying24 rfl B42) ?_
            refine sd_vv rfl rfl rfl (vv_move rfl) ?_
            refine sd_done ?_
            refine sw_block ?_
            have X43 : Gr w w12 := (Gr.kz X38 Kw12 (tk1 ((pv_1 (A := (fun x => w.heap.size ≤ x)) Fw4_1 (.inr tk0)) : zy6 = 0 ∨ w.heap.size ≤ gy6)))
            have B44 := (Rd.kz (Rd.kz B13 Kw4 (tk1 ((pv_sw (.inr (tk1 lt1.o))) : zp0_0 = 0 ∨ 1 = 0 ∨ gp0_0 ≠ gw3))) Kw12 (tk1 ((pv_sw (pv_1 (A := (fun x => zp0_0 = 0 ∨ x ≠ gp0_0)) Fw4_1 (.inr (tk1 lt1.o)) (fun x hx => (tk1 lt1.o)))) : zp0_0 = 0 ∨ zy6 = 0 ∨ gp0_0 ≠ gy6)))
            refine sw_loopD (α := Nat × List (BitVec 8) × Int × Value × Nat × Nat) [4, 8, 71, 72, 73, 74, 75, 76, 77, 78, 79, 80, 81, 82] (fun ⟨n5, a17, a19, vy18, zy18, gy18⟩ => [(4, vy18), (71, .int .i64 a19)]) (fun ⟨n5, a17, a19, vy18, zy18, gy18⟩ wr => (fixN (cover_Encode_L5 p0) n5 (a17, a19) = some r) ∧ Own wr zy18 gy18 5 1 vy18 (a17.map bvc) ∧ Hdn (zy18 = 0 ∨ (gy18 = gy13 ∧ zy13 ≠ 0) ∨ w12.heap.size ≤ gy18) ∧ Kz [(zy13, gy13)] w12 wr) (fun ⟨n5, a17, a19, vy18, zy18, gy18⟩ => n5) ⟨FUEL, a12, 0, vy13, zy13, gy13⟩ ?_ ?_ ?_
            · repeat' first | exact trivial | refine ⟨rfl, ?_⟩
            · exact ⟨hm, Fw12_0, ⟨tk0⟩, Kz.refl _ _⟩
            · clear hm; rintro ⟨n5, a17, a19, vy18, zy18, gy18⟩ w13 ⟨hm, Fw13_0, Fw13_1, Kw13⟩
              have z45 := Kw13.size
              have lt46 := Fw13_0.lth
              have hb := fix_succ hm; clear hm; obtain ⟨n5, rfl, hm⟩ := hb
              generalize hrec5 : fixN (cover_Encode_L5 p0) n5 = rec5 at hm
              unfold cover_Encode_L5 at hm
              try dsimp only at hm
              refine sw_seq ?_
              -- region 13 header.go:30
              refine sw_region [(0, 0)] rfl rfl rfl ?_
              refine sd_vv rfl rfl rfl (vv_lss (a := a19) (b := (p0.Points.length : Int)) rfl rfl) ?_
              refine sd_done ?_
              refine sw_seq ?_
              refine sw_cond rfl (fun c5 => ?_) (fun c5 => ?_)
              ·
                replace hm := ite_t (of_decide_eq_true c5) hm
                refine sw_skip ?_
                refine then_n ?_
                refine sw_seq ?_
                refine sw_block ?_
                refine sw_seq ?_
                -- region 14 header.go:30
                refine sw_region [(0, 0), (1, 0), (2, 0), (3, 0)] rfl rfl rfl ?_
                have hb := bnd hm; clear hm; obtain ⟨y20, hy20, hm⟩ := hb
                have B47 := (Rd.kz B42 Kw13 (tk1 ((pv_sw (pv_1 (A := (fun x => zp0_2 = 0 ∨ x ≠ gp0_2)) Fw12_1 (pv_1 (A := (fun x => zp0_2 = 0 ∨ x ≠ gp0_2)) Fw4_1 (.inr (tk1 lt2.o)) (fun x hx => (tk1 lt2.o))) (fun x hx => (tk1 lt2.o)))) : zp0_2 = 0 ∨ zy13 = 0 ∨ gp0_2 ≠ gy13)))
                refine sd_vv rfl rfl rfl (vv_ixT (i := a19) Try.underlying24 (agg_72).siz rfl B47 rfl hy20) ?_
                refine sd_vv rfl rfl rfl (vv_elWT agg_72 rfl B47 hy20 (by first | rfl | omega)) ?_
                refine sd_ev rfl rfl rfl (ev_alloc (cs := TPoint.cs (TPoint.mk 0#64 0#64)) zv_72 rfl) ?_
                rintro _ w14 ⟨b14, rfl, hbw14, Bw14, Gw14⟩
                have z48 := Gw14.size
                have lt49 := Bw14.lt
                refine sd_ev rfl rfl rfl (ev_stM (cs' := TPoint.cs y20) (vs := TPoint.cs y20) (agg_72).siz rfl rfl rfl rfl rfl Bw14 rfl rfl) ?_
                rintro _ w15 ⟨Bw15, Mw15⟩
                have z50 := Mw15.size
                refine sd_done ?_
                -- region 15 header.go:31 DRAWS
                refine sw_drawN [([] ++ zf zy18 gy18)] [] (.leaf [(0, 10), (1, 10), (2, 10), (4, 10), (5, 10), (3, 0), (6, 0), (7, 10)]) (by kernel_rfl) (by kernel_rfl) rfl (by kernel_rfl) ?_
                intro w16 Gw16 zw16
                refine sdz_leaf ?_
                refine dd_hn 0 rfl rfl rfl rfl (Kp.refl ([] ++ zf zy18 gy18) w16) (fun w hS => vv_move rfl) ?_
                refine dd_hn 0 rfl rfl rfl rfl (Kp.refl ([] ++ zf zy18 gy18) w16) (fun w hS => vv_fieldAddr fa_72_0 rfl) ?_
                have B51 := (Bx.gr Bw15 Gw16)
                refine dd_hn 0 rfl rfl rfl rfl (Kp.refl ([] ++ zf zy18 gy18) w16) (fun w hS => vv_load1 (v := wv y20.X) one_23 rfl (Bx.kp B51 hS (tk1 ((pv_lt (A := (fun x => x ≠ b14)) lt46) : zy18 = 0 ∨ gy18 ≠ b14))) rfl) ?_
                refine dd_hn 0 rfl rfl rfl rfl (Kp.refl ([] ++ zf zy18 gy18) w16) (fun w hS => vv_fieldAddr fa_72_1 rfl) ?_
                refine dd_hn 0 rfl rfl rfl rfl (Kp.refl ([] ++ zf zy18 gy18) w16) (fun w hS => vv_load1 (v := wv y20.Y) one_23 rfl (Bx.kp B51 hS (tk1 ((pv_lt (A := (fun x => x ≠ b14)) lt46) : zy18 = 0 ∨ gy18 ≠ b14))) rfl) ?_
                have B52 := (Own.gr (Own.md (Own.gr Fw13_0 Gw14) Mw15 (tk1 ((pv_lt (A := (fun x => x ≠ b14)) lt46) : zy18 = 0 ∨ gy18 ≠ b14))) Gw16)
                have hb := bnd hm; clear hm; obtain ⟨x21, hx21, hm⟩ := hb
                refine dd_z [(zy18, gy18)] rfl rfl rfl (ev_call en_65 rfl (cover_put_w a17 y20.X vy18 zy18 gy18 _ hx21 _ B52)) ⟨fun _ => (tk1 (tk0 : zy18 = 0 ∨ (gy18 = gy18 ∧ zy18 ≠ 0) ∨ w16.heap.size ≤ gy18)), trivial⟩ ?_
                rintro u17_r0_s w17 ⟨_, z17_r0_s, g17_r0_s, rfl, O17_r0_s, f17_r0_s, Kw17⟩
                have z53 := Kw17.size
                have lt54 := O17_r0_s.lth
                refine ⟨Kw17, ?_⟩
                have hb := bnd hm; clear hm; obtain ⟨x22, hx22, hm⟩ := hb
                refine dd_z [(z17_r0_s, g17_r0_s)] rfl rfl rfl (ev_call en_65 rfl (cover_put_w x21 y20.Y u17_r0_s z17_r0_s g17_r0_s _ hx22 _ O17_r0_s)) ⟨fun _ => (tk1 ((pv_1 (A := (fun x => (x = gy18 ∧ zy18 ≠ 0) ∨ w16.heap.size ≤ x)) f17_r0_s tk0) : z17_r0_s = 0 ∨ (g17_r0_s = gy18 ∧ zy18 ≠ 0) ∨ w16.heap.size ≤ g17_r0_s)), trivial⟩ ?_
                rintro u18_r0_s w18 ⟨_, z18_r0_s, g18_r0_s, rfl, O18_r0_s, f18_r0_s, Kw18⟩
                have z55 := Kw18.size
                have lt56 := O18_r0_s.lth
                refine ⟨Kw18, ?_⟩
                have S57 := (Kp.kz (Kp.kz (Kp.refl ([] ++ zf zy18 gy18) w16) Kw17 (tk1 (tk0 : zy18 = 0 ∨ (gy18 = gy18 ∧ zy18 ≠ 0) ∨ w16.heap.size ≤ gy18))) Kw18 (tk1 ((pv_1 (A := (fun x => (x = gy18 ∧ zy18 ≠ 0) ∨ w16.heap.size ≤ x)) f17_r0_s tk0) : z17_r0_s = 0 ∨ (g17_r0_s = gy18 ∧ zy18 ≠ 0) ∨ w16.heap.size ≤ g17_r0_s)))
                refine dd_hn 0 rfl rfl rfl rfl S57 (fun w hS => vv_assign rfl) ?_
                refine sd_nil ?_
                refine block_n ?_
                refine then_n ?_
                -- region 16 header.go:30
                refine sw_region [(0, 0), (1, 0)] rfl rfl rfl ?_
                refine sd_vv rfl rfl rfl (vv_add (k := .i64) (a := a19) (b := 1) rfl rfl) ?_
                refine sd_vv rfl rfl rfl (vv_move rfl) ?_
                refine sd_nil ?_
                have K_58 : Kz [(zy13, gy13)] w12 w18 := (Kz.kz (Kz.kz (Kz.gr (Kz.md (Kz.gr Kw13 Gw14) Mw15) Gw16) Kw17 (tk1 ((pv_1 (A := (fun x => (x = gy13 ∧ zy13 ≠ 0) ∨ w12.heap.size ≤ x)) Fw13_1 tk0) : zy18 = 0 ∨ (gy18 = gy13 ∧ zy13 ≠ 0) ∨ w12.heap.size ≤ gy18))) Kw18 (tk1 ((pv_1 (A := (fun x => (x = gy13 ∧ zy13 ≠ 0) ∨ w12.heap.size ≤ x)) f17_r0_s (pv_1 (A := (fun x => (x = gy13 ∧ zy13 ≠ 0) ∨ w12.heap.size ≤ x)) Fw13_1 tk0)) : z17_r0_s = 0 ∨ (g17_r0_s = gy13 ∧ zy13 ≠ 0) ∨ w12.heap.size ≤ g17_r0_s)))
                subst hrec5
                refine ⟨rfl, ⟨n5, x22, w64 (a19 + 1), u18_r0_s, z18_r0_s, g18_r0_s⟩, ?_, ⟨hm, O18_r0_s, ⟨(pv_1 (A := (fun x => (x = gy13 ∧ zy13 ≠ 0) ∨ w12.heap.size ≤ x)) f18_r0_s (pv_1 (A := (fun x => (x = gy13 ∧ zy13 ≠ 0) ∨ w12.heap.size ≤ x)) f17_r0_s (pv_1 (A := (fun x => (x = gy13 ∧ zy13 ≠ 0) ∨ w12.heap.size ≤ x)) Fw13_1 tk0)))⟩, K_58⟩, Nat.lt_succ_self _⟩
                repeat' first | exact trivial | refine ⟨rfl, ?_⟩
              ·
                replace hm := ite_f (of_decide_eq_false c5) hm
                refine sw_exit ?_
                refine then_x ?_
                refine then_x ?_
                refine block_x ?_
                refine then_n ?_
                refine sw_seq ?_
                -- region 17 header.go:33 DRAWS
                refine sw_drawN [([] ++ zf zy18 gy18)] [] (.leaf [(0, 10), (1, 10), (2, 10), (4, 10), (5, 10), (3, 0), (6, 0), (7, 10), (8, 10)]) (by kernel_rfl) (by kernel_rfl) rfl (by kernel_rfl) ?_
                intro w19 Gw19 zw19
                refine sdz_leaf ?_
                refine dd_hn 0 rfl rfl rfl rfl (Kp.refl ([] ++ zf zy18 gy18) w19) (fun w hS => vv_move rfl) ?_
                refine dd_hn 0 rfl rfl rfl rfl (Kp.refl ([] ++ zf zy18 gy18) w19) (fun w hS => vv_fieldAddr fa_28_3 rfl) ?_
                have B59 := (Bx.gr (Bx.kz B41 Kw13 (tk1 ((pv_1 (A := (fun x => x ≠ b1)) Fw12_1 (pv_1 (A := (fun x => x ≠ b1)) Fw4_1 (.inr tk0))) : zy13 = 0 ∨ gy13 ≠ b1))) Gw19)
                have Rk60 := rd_key (o := 3) (p := p0.Box) B59 rfl
                have lt61 := Rk60.lth
                refine dd_hn 0 rfl rfl rfl rfl (Kp.refl ([] ++ zf zy18 gy18) w19) (fun w hS => vv_sliceA (n := 16) (l := 0) (h := 16) Try.underlying26 (one_5).siz rfl rfl rfl (by decide) (by decide) (by decide)) ?_
                refine dd_hn 0 rfl rfl rfl rfl (Kp.refl ([] ++ zf zy18 gy18) w19) (fun w hS => vv_fieldAddr fa_28_4 rfl) ?_
                have Rk62 := rd_key (o := 19) (p := p0.Check) B59 rfl
                have lt63 := Rk62.lth
                refine dd_hn 0 rfl rfl rfl rfl (Kp.refl ([] ++ zf zy18 gy18) w19) (fun w hS => vv_sliceA (n := 16) (l := 0) (h := 16) Try.underlying26 (one_5).siz rfl rfl rfl (by decide) (by decide) (by decide)) ?_
                have B64 := (Own.gr Fw13_0 Gw19)
                have hb := bnd hm; clear hm; obtain ⟨l23, hl23, hm⟩ := hb
                refine dd_z [(zy18, gy18)] rfl rfl rfl (ev_appT (l := a17) (m := kby p0.Box) (c := bvc) apt_29 rfl rfl B64 Rk60 hl23 (by decide)) ⟨fun _ => (tk1 (tk0 : zy18 = 0 ∨ (gy18 = gy18 ∧ zy18 ≠ 0) ∨ w19.heap.size ≤ gy18)), trivial⟩ ?_
                rintro vw20 w20 ⟨zw20, gw20, Ow20, Aw20, qw20, rw20⟩
                have z65 := Aw20.size
                refine ⟨Kz.ofKa Aw20, ?_⟩
                have B66 := (Rd.ka Rk62 Aw20 (tk1 ((tk1 ((pv_1 (A := (fun x => x ≠ b1)) Fw13_1 (pv_1 (A := (fun x => x ≠ b1)) Fw12_1 (pv_1 (A := (fun x => x ≠ b1)) Fw4_1 (.inr tk0)))) : zy18 = 0 ∨ gy18 ≠ b1)) : 1 = 0 ∨ zy18 = 0 ∨ b1 ≠ gy18)))
                have hb := bnd hm; clear hm; obtain ⟨l24, hl24, hm⟩ := hb
                refine dd_z [(zw20, gw20)] rfl rfl rfl (ev_appT (l := l23) (m := kby p0.Check) (c := bvc) apt_29 rfl rfl Ow20 B66 hl24 (by decide)) ⟨fun _ => (tk1 ((pv_app (A := (fun x => (x = gy18 ∧ zy18 ≠ 0) ∨ w19.heap.size ≤ x)) rw20 tk0) : zw20 = 0 ∨ (gw20 = gy18 ∧ zy18 ≠ 0) ∨ w19.heap.size ≤ gw20)), trivial⟩ ?_
                rintro vw21 w21 ⟨zw21, gw21, Ow21, Aw21, qw21, rw21⟩
                have z67 := Aw21.size
                refine ⟨Kz.ofKa Aw21, ?_⟩
                have S68 := (Kp.ka (Kp.ka (Kp.refl ([] ++ zf zy18 gy18) w19) Aw20 (tk1 (tk0 : zy18 = 0 ∨ (gy18 = gy18 ∧ zy18 ≠ 0) ∨ w19.heap.size ≤ gy18))) Aw21 (tk1 ((pv_app (A := (fun x => (x = gy18 ∧ zy18 ≠ 0) ∨ w19.heap.size ≤ x)) rw20 tk0) : zw20 = 0 ∨ (gw20 = gy18 ∧ zy18 ≠ 0) ∨ w19.heap.size ≤ gw20)))
                refine dd_hn 0 rfl rfl rfl rfl S68 (fun w hS => vv_assign rfl) ?_
                refine dd_hn 0 rfl rfl rfl rfl S68 (fun w hS => vv_assign rfl) ?_
                refine sd_done ?_
                refine sw_ret ?_
                have X69 : Gr w w21 := (Gr.ka (Gr.ka (Gr.trans (Gr.kz X43 Kw13 (tk1 ((pv_1 (A := (fun x => w.heap.size ≤ x)) Fw12_1 (pv_1 (A := (fun x => w.heap.size ≤ x)) Fw4_1 (.inr tk0))) : zy13 = 0 ∨ w.heap.size ≤ gy13))) Gw19) Aw20 (tk1 ((pv_1 (A := (fun x => w.heap.size ≤ x)) Fw13_1 (pv_1 (A := (fun x => w.heap.size ≤ x)) Fw12_1 (pv_1 (A := (fun x => w.heap.size ≤ x)) Fw4_1 (.inr tk0)))) : zy18 = 0 ∨ w.heap.size ≤ gy18))) Aw21 (tk1 ((pv_app (A := (fun x => w.heap.size ≤ x)) rw20 (pv_1 (A := (fun x => w.heap.size ≤ x)) Fw13_1 (pv_1 (A := (fun x => w.heap.size ≤ x)) Fw12_1 (pv_1 (A := (fun x => w.heap.size ≤ x)) Fw4_1 (.inr tk0))))) : zw20 = 0 ∨ w.heap.size ≤ gw20)))
                have hr := Option.some.inj hm
                subst hr
                refine ⟨_, _, rfl, res_2 rfl (rv_tmp rfl) (rv_tmp rfl), ?_⟩
                exact ⟨vw21, zw21, gw21, rfl, Ow21, ⟨(pv_app (A := (fun x => w.heap.size ≤ x)) rw21 (pv_app (A := (fun x => w.heap.size ≤ x)) rw20 (pv_1 (A := (fun x => w.heap.size ≤ x)) Fw13_1 (pv_1 (A := (fun x => w.heap.size ≤ x)) Fw12_1 (pv_1 (A := (fun x => w.heap.size ≤ x)) Fw4_1 (.inr tk0))))))⟩, X69⟩
          ·
            -- region 11 header.go:29 DRAWS
            refine sw_drawN [([] ++ zf zy6 gy6)] [] (.fork [(0, 10), (1, 10), (2, 10), (4, 10), (5, 10), (6, 10), (7, 10)] (.leaf [(3, 0), (8, 0), (9, 0), (10, 10)]) (.leaf [(8, 0), (3, 0), (9, 0), (10, 10)])) (by kernel_rfl) (by kernel_rfl) rfl (by kernel_rfl) ?_
            intro w22 Gw22 zw22
            refine sdz_fork ?_
            refine dd_hn 0 rfl rfl rfl rfl (Kp.refl ([] ++ zf zy6 gy6) w22) (fun w hS => vv_move rfl) ?_
            refine dd_hn 0 rfl rfl rfl rfl (Kp.refl ([] ++ zf zy6 gy6) w22) (fun w hS => vv_fieldAddr fa_28_1 rfl) ?_
            have B70 := (Bx.gr (Bx.kz B12 Kw4 (tk1 ((.inr tk0) : 1 = 0 ∨ gw3 ≠ b1))) Gw22)
            refine dd_hn 0 rfl rfl rfl rfl (Kp.refl ([] ++ zf zy6 gy6) w22) (fun w hS => vv_load1 (v := wv p0.Base) one_23 rfl (Bx.kp B70 hS (tk1 ((pv_1 (A := (fun x => x ≠ b1)) Fw4_1 (.inr tk0)) : zy6 = 0 ∨ gy6 ≠ b1))) rfl) ?_
            refine dd_hn 0 rfl rfl rfl rfl (Kp.refl ([] ++ zf zy6 gy6) w22) (fun w hS => vv_fieldAddr fa_28_2 rfl) ?_
            refine dd_hn 0 rfl rfl rfl rfl (Kp.refl ([] ++ zf zy6 gy6) w22) (fun w hS => vv_load1 (v := vp0_2) one_24 rfl (Bx.kp B70 hS (tk1 ((pv_1 (A := (fun x => x ≠ b1)) Fw4_1 (.inr tk0)) : zy6 = 0 ∨ gy6 ≠ b1))) rfl) ?_
            have B71 := (Rd.gr (Rd.kz B15 Kw4 (tk1 ((pv_sw (.inr (tk1 lt2.o))) : zp0_2 = 0 ∨ 1 = 0 ∨ gp0_2 ≠ gw3))) Gw22)
            refine dd_hn 0 rfl rfl rfl rfl (Kp.refl ([] ++ zf zy6 gy6) w22) (fun w hS => vv_lenT (l := p0.Points) (c := TPoint.cs) Try.underlying24 rfl (Rd.kp B71 hS (tk1 ((pv_sw (pv_1 (A := (fun x => zp0_2 = 0 ∨ x ≠ gp0_2)) Fw4_1 (.inr (tk1 lt2.o)) (fun x hx => (tk1 lt2.o)))) : zp0_2 = 0 ∨ zy6 = 0 ∨ gp0_2 ≠ gy6)))) ?_
            refine dd_hn 0 rfl rfl rfl rfl (Kp.refl ([] ++ zf zy6 gy6) w22) (fun w hS => vv_cvIB cv_3_5 rfl) ?_
            refine sd_fork ?_ ?_
            ·
              refine sdz_leaf ?_
              have B72 := (Own.gr Fw4_0 Gw22)
              have hb := bnd hm; clear hm; obtain ⟨x25, hx25, hm⟩ := hb
              refine dd_z [(zy6, gy6)] rfl rfl rfl (ev_call en_65 rfl (cover_put_w a5 p0.Base vy6 zy6 gy6 _ hx25 _ B72)) ⟨fun _ => (tk1 (tk0 : zy6 = 0 ∨ (gy6 = gy6 ∧ zy6 ≠ 0) ∨ w22.heap.size ≤ gy6)), trivial⟩ ?_
              rintro u23_r0_s w23 ⟨_, z23_r0_s, g23_r0_s, rfl, O23_r0_s, f23_r0_s, Kw23⟩
              have z73 := Kw23.size
              have lt74 := O23_r0_s.lth
              refine ⟨Kw23, ?_⟩
              refine dd_z [] rfl rfl rfl (ev_litT [wd8 (p0.Points.length : Int)] bvc bsl_29_1 rfl rfl (ws_of rfl) rfl rfl rfl) ⟨fun _ => tk0, trivial⟩ ?_
              rintro vw24 w24 ⟨gw24, hbw24, Ow24, Gw24⟩
              have z75 := Gw24.size
              have lt76 := Ow24.lth
              refine ⟨Kz.ofGr Gw24, ?_⟩
              have B77 := (Own.gr O23_r0_s Gw24)
              have hb := bnd hm; clear hm; obtain ⟨l26, hl26, hm⟩ := hb
              refine dd_z [(z23_r0_s, g23_r0_s)] rfl rfl rfl (ev_appT (l := x25) (m := [wd8 (p0.Points.length : Int)]) (c := bvc) apt_29 rfl rfl B77 (Own.rd Ow24) hl26 (by decide)) ⟨fun _ => (tk1 ((pv_1 (A := (fun x => (x = gy6 ∧ zy6 ≠ 0) ∨ w22.heap.size ≤ x)) f23_r0_s tk0) : z23_r0_s = 0 ∨ (g23_r0_s = gy6 ∧ zy6 ≠ 0) ∨ w22.heap.size ≤ g23_r0_s)), trivial⟩ ?_
              rintro vw25 w25 ⟨zw25, gw25, Ow25, Aw25, qw25, rw25⟩
              have z78 := Aw25.size
              refine ⟨Kz.ofKa Aw25, ?_⟩
              have S79 := (Kp.ka (Kp.gr (Kp.kz (Kp.refl ([] ++ zf zy6 gy6) w22) Kw23 (tk1 (tk0 : zy6 = 0 ∨ (gy6 = gy6 ∧ zy6 ≠ 0) ∨ w22.heap.size ≤ gy6))) Gw24) Aw25 (tk1 ((pv_1 (A := (fun x => (x = gy6 ∧ zy6 ≠ 0) ∨ w22.heap.size ≤ x)) f23_r0_s tk0) : z23_r0_s = 0 ∨ (g23_r0_s = gy6 ∧ zy6 ≠ 0) ∨ w22.heap.size ≤ g23_r0_s)))
              refine dd_hn 0 rfl rfl rfl rfl S79 (fun w hS => vv_assign rfl) ?_
              refine sd_nil ?_
              have K_80 : Kz [(zy6, gy6)] w4 w25 := (Kz.ka (Kz.gr (Kz.kz (Kz.gr (Kz.refl _ _) Gw22) Kw23 (tk1 (tk0 : zy6 = 0 ∨ (gy6 = gy6 ∧ zy6 ≠ 0) ∨ w4.heap.size ≤ gy6))) Gw24) Aw25 (tk1 ((pv_1 (A := (fun x => (x = gy6 ∧ zy6 ≠ 0) ∨ w4.heap.size ≤ x)) f23_r0_s tk0) : z23_r0_s = 0 ∨ (g23_r0_s = gy6 ∧ zy6 ≠ 0) ∨ w4.heap.size ≤ g23_r0_s)))
              refine ⟨rfl, ⟨l26, vw25, zw25, gw25⟩, ?_, hm, Ow25, ⟨(pv_app (A := (fun x => (x = gy6 ∧ zy6 ≠ 0) ∨ w4.heap.size ≤ x)) rw25 (pv_1 (A := (fun x => (x = gy6 ∧ zy6 ≠ 0) ∨ w4.heap.size ≤ x)) f23_r0_s tk0))⟩, K_80⟩
              repeat' first | exact trivial | refine ⟨rfl, ?_⟩
            ·
              refine sdz_leaf ?_
              refine dd_z [] rfl rfl rfl (ev_litT [wd8 (p0.Points.length : Int)] bvc bsl_29_1 rfl rfl (ws_of rfl) rfl rfl rfl) ⟨fun _ => tk0, trivial⟩ ?_
              rintro vw26 w26 ⟨gw26, hbw26, Ow26, Gw26⟩
              have z81 := Gw26.size
              have lt82 := Ow26.lth
              refine ⟨Kz.ofGr Gw26, ?_⟩
              have B83 := (Own.gr (Own.gr Fw4_0 Gw22) Gw26)
              have hb := bnd hm; clear hm; obtain ⟨x27, hx27, hm⟩ := hb
              refine dd_z [(zy6, gy6)] rfl rfl rfl (ev_call en_65 rfl (cover_put_w a5 p0.Base vy6 zy6 gy6 _ hx27 _ B83)) ⟨fun _ => (tk1 (tk0 : zy6 = 0 ∨ (gy6 = gy6 ∧ zy6 ≠ 0) ∨ w22.heap.size ≤ gy6)), trivial⟩ ?_
              rintro u27_r0_s w27 ⟨_, z27_r0_s, g27_r0_s, rfl, O27_r0_s, f27_r0_s, Kw27⟩
              have z84 := Kw27.size
              have lt85 := O27_r0_s.lth
              refine ⟨Kw27, ?_⟩
              have B86 := (Own.kz Ow26 Kw27 (tk1 ((.inr (tk1 lt17.o)) : 1 = 0 ∨ zy6 = 0 ∨ gw26 ≠ gy6)))
              have hb := bnd hm; clear hm; obtain ⟨l28, hl28, hm⟩ := hb
              refine dd_z [(z27_r0_s, g27_r0_s)] rfl rfl rfl (ev_appT (l := x27) (m := [wd8 (p0.Points.length : Int)]) (c := bvc) apt_29 rfl rfl O27_r0_s (Own.rd B86) hl28 (by decide)) ⟨fun _ => (tk1 ((pv_1 (A := (fun x => (x = gy6 ∧ zy6 ≠ 0) ∨ w22.heap.size ≤ x)) f27_r0_s tk0) : z27_r0_s = 0 ∨ (g27_r0_s = gy6 ∧ zy6 ≠ 0) ∨ w22.heap.size ≤ g27_r0_s)), trivial⟩ ?_
              rintro vw28 w28 ⟨zw28, gw28, Ow28, Aw28, qw28, rw28⟩
              have z87 := Aw28.size
              refine ⟨Kz.ofKa Aw28, ?_⟩
              have S88 := (Kp.ka (Kp.kz (Kp.gr (Kp.refl ([] ++ zf zy6 gy6) w22) Gw26) Kw27 (tk1 (tk0 : zy6 = 0 ∨ (gy6 = gy6 ∧ zy6 ≠ 0) ∨ w22.heap.size ≤ gy6))) Aw28 (tk1 ((pv_1 (A := (fun x => (x = gy6 ∧ zy6 ≠ 0) ∨ w22.heap.size ≤ x)) f27_r0_s tk0) : z27_r0_s = 0 ∨ (g27_r0_s = gy6 ∧ zy6 ≠ 0) ∨ w22.heap.size ≤ g27_r0_s)))
              refine dd_hn 0 rfl rfl rfl rfl S88 (fun w hS => vv_assign rfl) ?_
              refine sd_nil ?_
              have K_89 : Kz [(zy6, gy6)] w4 w28 := (Kz.ka (Kz.kz (Kz.gr (Kz.gr (Kz.refl _ _) Gw22) Gw26) Kw27 (tk1 (tk0 : zy6 = 0 ∨ (gy6 = gy6 ∧ zy6 ≠ 0) ∨ w4.heap.size ≤ gy6))) Aw28 (tk1 ((pv_1 (A := (fun x => (x = gy6 ∧ zy6 ≠ 0) ∨ w4.heap.size ≤ x)) f27_r0_s tk0) : z27_r0_s = 0 ∨ (g27_r0_s = gy6 ∧ zy6 ≠ 0) ∨ w4.heap.size ≤ g27_r0_s)))
              refine ⟨rfl, ⟨l28, vw28, zw28, gw28⟩, ?_, hm, Ow28, ⟨(pv_app (A := (fun x => (x = gy6 ∧ zy6 ≠ 0) ∨ w4.heap.size ≤ x)) rw28 (pv_1 (A := (fun x => (x = gy6 ∧ zy6 ≠ 0) ∨ w4.heap.size ≤ x)) f27_r0_s tk0))⟩, K_89⟩
              repeat' first | exact trivial | refine ⟨rfl, ?_⟩
  ·
    -- region 1 header.go:19
    refine sw_region [(0, 0), (1, 0), (2, 0), (3, 0), (4, 0), (5, 0), (6, 0), (7, 0), (8, 0), (9, 0)] rfl rfl rfl ?_
    refine sd_vv rfl rfl rfl (vv_fieldAddr fa_28_0 rfl) ?_
    refine sd_vv rfl rfl rfl (vv_load1 (v := vp0_0) one_22 rfl Bw1 rfl) ?_
    have B90 := (Rd.gr hp0_0 Gw1)
    refine sd_vv rfl rfl rfl (vv_lenT (l := p0.Items) (c := TItem.cs) Try.underlying22 rfl B90) ?_
    refine sd_vv rfl rfl rfl (vv_gtr (a := (p0.Items.length : Int)) (b := 64) rfl rfl) ?_
    refine sd_split rfl rfl rfl (vv_move rfl) (fun c6 => ?_) (fun c6 => ?_)
    ·
      replace hm := ite_t (of_decide_eq_true c6) hm
      refine sd_skip rfl rfl rfl ?_
      refine sd_skip rfl rfl rfl ?_
      refine sd_skip rfl rfl rfl ?_
      refine sd_skip rfl rfl rfl ?_
      refine sd_vv rfl rfl rfl (vv_pickT rfl rfl) ?_
      refine sd_nil ?_
      have K_91 : Kz [] w1 w1 := (Kz.refl _ _)
      refine ⟨rfl, true, ?_, hm, K_91⟩
      repeat' first | exact trivial | refine ⟨rfl, ?_⟩
    ·
      replace hm := ite_f (of_decide_eq_false c6) hm
      refine sd_vv rfl rfl rfl (vv_fieldAddr fa_28_2 rfl) ?_
      refine sd_vv rfl rfl rfl (vv_load1 (v := vp0_2) one_24 rfl Bw1 rfl) ?_
      have B92 := (Rd.gr hp0_2 Gw1)
      refine sd_vv rfl rfl rfl (vv_lenT (l := p0.Points) (c := TPoint.cs) Try.underlying24 rfl B92) ?_
      refine sd_vv rfl rfl rfl (vv_gtr (a := (p0.Points.length : Int)) (b := 8) rfl rfl) ?_
      refine sd_vv rfl rfl rfl (vv_pickF rfl rfl) ?_
      refine sd_nil ?_
      have K_93 : Kz [] w1 w1 := (Kz.refl _ _)
      refine ⟨rfl, (decide ((8 : Int) < (p0.Points.length : Int))), ?_, hm, K_93⟩
      repeat' first | exact trivial | refine ⟨rfl, ?_⟩

set_option maxHeartbeats 2000000 in
theorem cover_source_take_w (p0 : Tcover_source) (p1 : Int) (bp0 : Nat) (vp0_0 : Value) (zp0_0 gp0_0 op0_0 : Nat) (r : List (BitVec 8) × Tcover_source) (hm : cover_source_take p0 p1 = some r) (w : World) (hbp0 : Bx w bp0 125 (Tcover_source.cs p0 vp0_0)) (hp0_0 : Rd w zp0_0 gp0_0 op0_0 1 vp0_0 (p0.b.map bvc)) (ne0 : Hdn (zp0_0 = 0 ∨ gp0_0 ≠ bp0)) :
    Calls Try.prog 122 [.pointer (some ⟨bp0, 0, none⟩), .int .i64 p1].toArray w fun e w' => ∃ v, e = .returned v ∧ (∃ (ur0_s : Value) (zr0_s : Nat) (gr0_s : Nat) (ub1_0 : Value) (zb1_0 : Nat) (gb1_0 : Nat) (ob1_0 : Nat), v = ur0_s ∧ Own w' zr0_s gr0_s 5 1 ur0_s (r.1.map bvc) ∧ Hdn (zr0_s = 0 ∨ w.heap.size ≤ gr0_s) ∧ Rd w' zb1_0 gb1_0 ob1_0 1 ub1_0 (r.2.b.map bvc) ∧ Hdn (zb1_0 = 0 ∨ (gb1_0 = gp0_0 ∧ zp0_0 ≠ 0) ∨ w.heap.size ≤ gb1_0) ∧ Hdn (zb1_0 = 0 ∨ zr0_s = 0 ∨ gb1_0 ≠ gr0_s) ∧ Bx w' bp0 125 (Tcover_source.cs r.2 ub1_0) ∧ Kz [(1, bp0)] w w') := by
  have lt1 := hp0_0.lth
  have lt2 := hbp0.lt
  unfold cover_source_take at hm
  refine calls_of_sw (R := fun v w' => ∃ (ur0_s : Value) (zr0_s : Nat) (gr0_s : Nat) (ub1_0 : Value) (zb1_0 : Nat) (gb1_0 : Nat) (ob1_0 : Nat), v = ur0_s ∧ Own w' zr0_s gr0_s 5 1 ur0_s (r.1.map bvc) ∧ Hdn (zr0_s = 0 ∨ w.heap.size ≤ gr0_s) ∧ Rd w' zb1_0 gb1_0 ob1_0 1 ub1_0 (r.2.b.map bvc) ∧ Hdn (zb1_0 = 0 ∨ (gb1_0 = gp0_0 ∧ zp0_0 ≠ 0) ∨ w.heap.size ≤ gb1_0) ∧ Hdn (zb1_0 = 0 ∨ zr0_s = 0 ∨ gb1_0 ≠ gr0_s) ∧ Bx w' bp0 125 (Tcover_source.cs r.2 ub1_0) ∧ Kz [(1, bp0)] w w') 23 Try.func122 rfl rfl rfl ?_
  refine sw_seq ?_
  -- region 0 header.go:40
  refine sw_region [(0, 0)] rfl rfl rfl ?_
  refine sd_vv rfl rfl rfl (vv_assign rfl) ?_
  refine sd_done ?_
  refine sw_seq ?_
  -- region 1 header.go:41
  refine sw_region [(0, 0), (1, 0), (2, 0)] rfl rfl rfl ?_
  refine sd_vv rfl rfl rfl (vv_move rfl) ?_
  have hb := bnd hm; clear hm; obtain ⟨l1, hl1, hm⟩ := hb
  refine sd_ev rfl rfl rfl (ev_mkT (c := bvc) (a := 0#8) apt_29 zv_5 rfl ⟨rfl, rfl⟩ rfl hl1 (by decide)) ?_
  rintro vw1 w1 ⟨gw1, hbw1, Ow1, Gw1⟩
  have z3 := Gw1.size
  have lt4 := Ow1.lth
  refine sd_vv rfl rfl rfl (vv_assign rfl) ?_
  refine sd_done ?_
  refine sw_seq ?_
  -- region 2 header.go:42 DRAWS
  refine sw_drawN [([bp0] ++ zf 1 gw1), ([] ++ zf 1 gw1)] [(14, [1])] (.leaf [(0, 10), (1, 10), (2, 10), (3, 10), (4, 11), (5, 10), (6, 10), (7, 10), (8, 10), (9, 11), (10, 0), (11, 10), (12, 10), (13, 10), (14, 0)]) (by kernel_rfl) (by kernel_rfl) rfl (by kernel_rfl) ?_
  intro w2 Gw2 zw2
  refine sdz_leaf ?_
  refine dd_hn 0 rfl rfl rfl rfl (Kp.refl ([bp0] ++ zf 1 gw1) w2) (fun w hS => vv_move rfl) ?_
  refine dd_hn 0 rfl rfl rfl rfl (Kp.refl ([bp0] ++ zf 1 gw1) w2) (fun w hS => vv_move rfl) ?_
  refine dd_hn 0 rfl rfl rfl rfl (Kp.refl ([bp0] ++ zf 1 gw1) w2) (fun w hS => vv_nilCheck rfl rfl) ?_
  refine dd_hn 0 rfl rfl rfl rfl (Kp.refl ([bp0] ++ zf 1 gw1) w2) (fun w hS => vv_fieldAddr fa_125_0 rfl) ?_
  have B5 := (Bx.gr (Bx.gr hbp0 Gw1) Gw2)
  refine dd_hn 1 rfl rfl rfl rfl (Kp.refl ([] ++ zf 1 gw1) w2) (fun w hS => vv_load1 (v := vp0_0) one_29 rfl (Bx.kp B5 hS (tk1 ((.inr tk0) : 1 = 0 ∨ gw1 ≠ bp0))) rfl) ?_
  refine dd_hn 0 rfl rfl rfl rfl (Kp.refl ([bp0] ++ zf 1 gw1) w2) (fun w hS => vv_move rfl) ?_
  refine dd_hn 0 rfl rfl rfl rfl (Kp.refl ([bp0] ++ zf 1 gw1) w2) (fun w hS => vv_move rfl) ?_
  refine dd_hn 0 rfl rfl rfl rfl (Kp.refl ([bp0] ++ zf 1 gw1) w2) (fun w hS => vv_nilCheck rfl rfl) ?_
  refine dd_hn 0 rfl rfl rfl rfl (Kp.refl ([bp0] ++ zf 1 gw1) w2) (fun w hS => vv_fieldAddr fa_125_0 rfl) ?_
  refine dd_hn 1 rfl rfl rfl rfl (Kp.refl ([] ++ zf 1 gw1) w2) (fun w hS => vv_load1 (v := vp0_0) one_29 rfl (Bx.kp B5 hS (tk1 ((.inr tk0) : 1 = 0 ∨ gw1 ≠ bp0))) rfl) ?_
  have B6 := (Own.gr Ow1 Gw2)
  have B7 := (Rd.gr (Rd.gr hp0_0 Gw1) Gw2)
  refine dd_z [(1, gw1)] rfl rfl rfl (ev_copy (c := bvc) (d := l1) (s := p0.b) apt_29 rfl rfl B6 B7) ⟨fun _ => (tk1 (tk0 : 1 = 0 ∨ (gw1 = gw1 ∧ 1 ≠ 0) ∨ w2.heap.size ≤ gw1)), fun _ => (tk1 (tk0 : 1 = 0 ∨ (gw1 = gw1 ∧ 1 ≠ 0) ∨ w2.heap.size ≤ gw1)), trivial⟩ ?_
  rintro _ w3 ⟨rfl, Ow3, Mw3⟩
  have z8 := Mw3.size
  refine ⟨Kz.ofMd Mw3, ?_⟩
  have hb := bnd hm; clear hm; obtain ⟨l2, hl2, hm⟩ := hb
  have B10 := (Rd.md B7 Mw3 (tk1 ((pv_sw (.inr (tk1 lt1.o))) : zp0_0 = 0 ∨ 1 = 0 ∨ gp0_0 ≠ gw1)))
  have S11 := (Kp.md (Kp.refl ([bp0] ++ zf 1 gw1) w2) Mw3 (tk1 (tk0 : 1 = 0 ∨ (gw1 = gw1 ∧ 1 ≠ 0) ∨ w2.heap.size ≤ gw1)))
  refine dd_slin (k := 0) rfl rfl rfl rfl S11 (vv_sliT (P := Try.prog) (lo := copyN l1 p0.b) (hi := (p0.b.length : Int)) (l := p0.b) (c := bvc) Try.underlying29 (one_5).siz rfl B10 ⟨_, rfl⟩ rfl hl2) ?_
  rintro v9 o9 R9
  have lt12 := R9.lth
  refine dd_hn 0 rfl rfl rfl rfl S11 (fun w hS => vv_nilCheck rfl rfl) ?_
  refine dd_hn 0 rfl rfl rfl rfl S11 (fun w hS => vv_fieldAddr fa_125_0 rfl) ?_
  have B13 := (Bx.md B5 Mw3 (tk1 ((.inr tk0) : 1 = 0 ∨ gw1 ≠ bp0)))
  refine dd_z [(1, bp0)] rfl rfl rfl (ev_st1 (cs' := Tcover_source.cs (Tcover_source.mk l2) v9) (one_29).siz rfl rfl (Rd.oneB R9) B13 rfl rfl) ⟨fun _ => tk0, nofun, trivial⟩ ?_
  rintro _ w4 ⟨Bw4, Mw4⟩
  have z14 := Mw4.size
  refine ⟨Kz.ofMd Mw4, ?_⟩
  refine sd_done ?_
  refine sw_seq ?_
  -- region 3 header.go:43
  refine sw_region [(0, 0), (1, 0)] rfl rfl rfl ?_
  refine sd_vv rfl rfl rfl (vv_move rfl) ?_
  refine sd_vv rfl rfl rfl (vv_assign rfl) ?_
  refine sd_done ?_
  refine sw_ret ?_
  have B15 := (Own.md Ow3 Mw4 (tk1 ((.inr tk0) : 1 = 0 ∨ gw1 ≠ bp0)))
  have B16 := (Rd.md R9 Mw4 (tk1 ((tk2 lt1.o ne0.o) : zp0_0 = 0 ∨ gp0_0 ≠ bp0)))
  have X17 : Kz [(1, bp0)] w w4 := (Kz.md (Kz.md (Kz.gr (Kz.gr (Kz.refl _ w) Gw1) Gw2) Mw3 (tk1 ((.inr tk0) : 1 = 0 ∨ w.heap.size ≤ gw1))) Mw4)
  have hr := Option.some.inj hm
  subst hr
  refine ⟨_, _, rfl, res_1 rfl (rv_tmp rfl), ?_⟩
  exact ⟨vw1, 1, gw1, v9, zp0_0, gp0_0, o9, rfl, B15, ⟨(.inr tk0)⟩, B16, ⟨tk0⟩, ⟨(pv_sw (.inr (tk1 lt1.o)))⟩, Bw4, X17⟩

set_option maxHeartbeats 2000000 in
theorem cover_source_byte_w (p0 : Tcover_source) (bp0 : Nat) (vp0_0 : Value) (zp0_0 gp0_0 op0_0 : Nat) (r : Int × Tcover_source) (hm : cover_source_byte p0 = some r) (w : World) (hbp0 : Bx w bp0 125 (Tcover_source.cs p0 vp0_0)) (hp0_0 : Rd w zp0_0 gp0_0 op0_0 1 vp0_0 (p0.b.map bvc)) (ne0 : Hdn (zp0_0 = 0 ∨ gp0_0 ≠ bp0)) :
    Calls Try.prog 67 [.pointer (some ⟨bp0, 0, none⟩)].toArray w fun e w' => ∃ v, e = .returned v ∧ (∃ (ub1_0 : Value) (zb1_0 : Nat) (gb1_0 : Nat) (ob1_0 : Nat), v = .int .i64 r.1 ∧ Rd w' zb1_0 gb1_0 ob1_0 1 ub1_0 (r.2.b.map bvc) ∧ Hdn (zb1_0 = 0 ∨ (gb1_0 = gp0_0 ∧ zp0_0 ≠ 0) ∨ w.heap.size ≤ gb1_0) ∧ Bx w' bp0 125 (Tcover_source.cs r.2 ub1_0) ∧ Kz [(1, bp0)] w w') := by
  have lt1 := hp0_0.lth
  have lt2 := hbp0.lt
  unfold cover_source_byte at hm
  refine calls_of_sw (R := fun v w' => ∃ (ub1_0 : Value) (zb1_0 : Nat) (gb1_0 : Nat) (ob1_0 : Nat), v = .int .i64 r.1 ∧ Rd w' zb1_0 gb1_0 ob1_0 1 ub1_0 (r.2.b.map bvc) ∧ Hdn (zb1_0 = 0 ∨ (gb1_0 = gp0_0 ∧ zp0_0 ≠ 0) ∨ w.heap.size ≤ gb1_0) ∧ Bx w' bp0 125 (Tcover_source.cs r.2 ub1_0) ∧ Kz [(1, bp0)] w w') 8 Try.func67 rfl rfl rfl ?_
  refine sw_seq ?_
  -- region 0 header.go:47
  refine sw_region [(0, 0)] rfl rfl rfl ?_
  refine sd_vv rfl rfl rfl (vv_assign rfl) ?_
  refine sd_done ?_
  refine sw_seq ?_
  -- region 1 header.go:47
  refine sw_region [(0, 0), (1, 0), (2, 0), (3, 0), (4, 0), (5, 0)] rfl rfl rfl ?_
  refine sd_vv rfl rfl rfl (vv_move rfl) ?_
  have hb := bnd hm; clear hm; obtain ⟨x1, hx1, hm⟩ := hb
  refine sd_ev rfl rfl rfl (ev_call en_122 rfl (cover_source_take_w p0 1 _ _ _ _ _ _ hx1 _ hbp0 hp0_0 ⟨(tk1 ((tk2 lt1.o ne0.o) : zp0_0 = 0 ∨ gp0_0 ≠ bp0))⟩)) ?_
  rintro u1_r0_s w1 ⟨_, z1_r0_s, g1_r0_s, u1_b0_0, z1_b0_0, g1_b0_0, o1_b0_0, rfl, O1_r0_s, f1_r0_s, O1_b0_0, f1_b0_0, d1_0, Bk1_0, Kw1⟩
  have z3 := Kw1.size
  have lt4 := O1_r0_s.lth
  have lt5 := O1_b0_0.lth
  have hb := bnd hm; clear hm; obtain ⟨y2, hy2, hm⟩ := hb
  refine sd_vv rfl rfl rfl (vv_ixT (i := 0) Try.underlying29 (one_5).siz rfl (Own.rd O1_r0_s) rfl hy2) ?_
  refine sd_vv rfl rfl rfl (vv_el1T (q := 0) (u := bv y2) one_5 rfl (Own.rd O1_r0_s) hy2 (by first | rfl | omega) rfl) ?_
  refine sd_vv rfl rfl rfl (vv_cvBI cv_5_3 rfl) ?_
  refine sd_vv rfl rfl rfl (vv_assign rfl) ?_
  refine sd_done ?_
  refine sw_ret ?_
  have X6 : Kz [(1, bp0)] w w1 := (Kz.kz (Kz.refl _ w) Kw1)
  have hr := Option.some.inj hm
  subst hr
  refine ⟨_, _, rfl, res_1 rfl (rv_tmp rfl), ?_⟩
  exact ⟨u1_b0_0, z1_b0_0, g1_b0_0, o1_b0_0, rfl, O1_b0_0, ⟨(pv_1 (A := (fun x => (x = gp0_0 ∧ zp0_0 ≠ 0) ∨ w.heap.size ≤ x)) f1_b0_0 tk0)⟩, Bk1_0, X6⟩

set_option maxHeartbeats 2000000 in
theorem cover_source_key_w (p0 : Tcover_source) (bp0 : Nat) (vp0_0 : Value) (zp0_0 gp0_0 op0_0 : Nat) (r : W2 × Tcover_source) (hm : cover_source_key p0 = some r) (w : World) (hbp0 : Bx w bp0 125 (Tcover_source.cs p0 vp0_0)) (hp0_0 : Rd w zp0_0 gp0_0 op0_0 1 vp0_0 (p0.b.map bvc)) (ne0 : Hdn (zp0_0 = 0 ∨ gp0_0 ≠ bp0)) :
    Calls Try.prog 68 [.pointer (some ⟨bp0, 0, none⟩)].toArray w fun e w' => ∃ v, e = .returned v ∧ (∃ (ub1_0 : Value) (zb1_0 : Nat) (gb1_0 : Nat) (ob1_0 : Nat), v = kv r.1 ∧ Rd w' zb1_0 gb1_0 ob1_0 1 ub1_0 (r.2.b.map bvc) ∧ Hdn (zb1_0 = 0 ∨ (gb1_0 = gp0_0 ∧ zp0_0 ≠ 0) ∨ w.heap.size ≤ gb1_0) ∧ Bx w' bp0 125 (Tcover_source.cs r.2 ub1_0) ∧ Kz [(1, bp0)] w w') := by
  have lt1 := hp0_0.lth
  have lt2 := hbp0.lt
  unfold cover_source_key at hm
  refine calls_of_sw (R := fun v w' => ∃ (ub1_0 : Value) (zb1_0 : Nat) (gb1_0 : Nat) (ob1_0 : Nat), v = kv r.1 ∧ Rd w' zb1_0 gb1_0 ob1_0 1 ub1_0 (r.2.b.map bvc) ∧ Hdn (zb1_0 = 0 ∨ (gb1_0 = gp0_0 ∧ zp0_0 ≠ 0) ∨ w.heap.size ≤ gb1_0) ∧ Bx w' bp0 125 (Tcover_source.cs r.2 ub1_0) ∧ Kz [(1, bp0)] w w') 7 Try.func68 rfl rfl rfl ?_
  refine sw_seq ?_
  -- region 0 header.go:59
  refine sw_region [(0, 0)] rfl rfl rfl ?_
  refine sd_ev rfl rfl rfl (ev_alloc (cs := kb k0) zv_26 rfl) ?_
  rintro _ w1 ⟨b1, rfl, hbw1, Bw1, Gw1⟩
  have z3 := Gw1.size
  have lt4 := Bw1.lt
  refine sd_done ?_
  refine sw_seq ?_
  -- region 1 header.go:59
  refine sw_region [(0, 0), (1, 0), (2, 0), (3, 0), (4, 0)] rfl rfl rfl ?_
  refine sd_vv rfl rfl rfl (vv_move rfl) ?_
  have B5 := (Bx.gr hbp0 Gw1)
  have B6 := (Rd.gr hp0_0 Gw1)
  have hb := bnd hm; clear hm; obtain ⟨x1, hx1, hm⟩ := hb
  refine sd_ev rfl rfl rfl (ev_call en_122 rfl (cover_source_take_w p0 16 _ _ _ _ _ _ hx1 _ B5 B6 ⟨(tk1 ((tk2 lt1.o ne0.o) : zp0_0 = 0 ∨ gp0_0 ≠ bp0))⟩)) ?_
  rintro u2_r0_s w2 ⟨_, z2_r0_s, g2_r0_s, u2_b0_0, z2_b0_0, g2_b0_0, o2_b0_0, rfl, O2_r0_s, f2_r0_s, O2_b0_0, f2_b0_0, d2_0, Bk2_0, Kw2⟩
  have z7 := Kw2.size
  have lt8 := O2_r0_s.lth
  have lt9 := O2_b0_0.lth
  have hb := bnd hm; clear hm; obtain ⟨x2, hx2, hm⟩ := hb
  refine sd_vv rfl rfl rfl (vv_s2a (n := 0) (l := x1.1) Try.underlying26 rfl (Own.rd O2_r0_s) hx2) ?_
  refine sd_vv rfl rfl rfl (vv_s2aL (l := x1.1) (p := x2) agg_26 rfl (Own.rd O2_r0_s) hx2) ?_
  have B10 := (Bx.kz Bw1 Kw2)
  refine sd_ev rfl rfl rfl (ev_stM (cs' := kb x2) (vs := kb x2) (agg_26).siz rfl rfl rfl rfl rfl B10 rfl rfl) ?_
  rintro _ w3 ⟨Bw3, Mw3⟩
  have z11 := Mw3.size
  refine sd_done ?_
  refine sw_ret ?_
  have B12 := (Rd.md O2_b0_0 Mw3 (tk1 ((pv_1 (A := (fun x => x ≠ b1)) f2_b0_0 (pv_lt (A := (fun x => x ≠ b1)) lt1)) : z2_b0_0 = 0 ∨ g2_b0_0 ≠ b1)))
  have B13 := (Bx.md Bk2_0 Mw3)
  have X14 : Kz [(1, bp0)] w w3 := (Kz.md (Kz.kz (Kz.gr (Kz.refl _ w) Gw1) Kw2) Mw3)
  have hr := Option.some.inj hm
  subst hr
  refine ⟨_, _, rfl, res_1 rfl (rv_cellW agg_26 rfl Bw3 rfl), ?_⟩
  exact ⟨u2_b0_0, z2_b0_0, g2_b0_0, o2_b0_0, rfl, B12, ⟨(pv_1 (A := (fun x => (x = gp0_0 ∧ zp0_0 ≠ 0) ∨ w.heap.size ≤ x)) f2_b0_0 tk0)⟩, B13, X14⟩

set_option maxHeartbeats 2000000 in
theorem cover_source_uint_w (p0 : Tcover_source) (bp0 : Nat) (vp0_0 : Value) (zp0_0 gp0_0 op0_0 : Nat) (r : BitVec 64 × Tcover_source) (hm : cover_source_uint p0 = some r) (w : World) (hbp0 : Bx w bp0 125 (Tcover_source.cs p0 vp0_0)) (hp0_0 : Rd w zp0_0 gp0_0 op0_0 1 vp0_0 (p0.b.map bvc)) (ne0 : Hdn (zp0_0 = 0 ∨ gp0_0 ≠ bp0)) :
    Calls Try.prog 69 [.pointer (some ⟨bp0, 0, none⟩)].toArray w fun e w' => ∃ v, e = .returned v ∧ (∃ (ub1_0 : Value) (zb1_0 : Nat) (gb1_0 : Nat) (ob1_0 : Nat), v = wv r.1 ∧ Rd w' zb1_0 gb1_0 ob1_0 1 ub1_0 (r.2.b.map bvc) ∧ Hdn (zb1_0 = 0 ∨ (gb1_0 = gp0_0 ∧ zp0_0 ≠ 0) ∨ w.heap.size ≤ gb1_0) ∧ Bx w' bp0 125 (Tcover_source.cs r.2 ub1_0) ∧ Kz [(1, bp0)] w w') := by
  have lt1 := hp0_0.lth
  have lt2 := hbp0.lt
  unfold cover_source_uint at hm
  refine calls_of_sw (R := fun v w' => ∃ (ub1_0 : Value) (zb1_0 : Nat) (gb1_0 : Nat) (ob1_0 : Nat), v = wv r.1 ∧ Rd w' zb1_0 gb1_0 ob1_0 1 ub1_0 (r.2.b.map bvc) ∧ Hdn (zb1_0 = 0 ∨ (gb1_0 = gp0_0 ∧ zp0_0 ≠ 0) ∨ w.heap.size ≤ gb1_0) ∧ Bx w' bp0 125 (Tcover_source.cs r.2 ub1_0) ∧ Kz [(1, bp0)] w w') 20 Try.func69 rfl rfl rfl ?_
  refine sw_seq ?_
  -- region 0 header.go:50
  refine sw_region [(0, 0)] rfl rfl rfl ?_
  refine sd_vv rfl rfl rfl (vv_assign rfl) ?_
  refine sd_done ?_
  refine sw_seq ?_
  -- region 1 header.go:51
  refine sw_region [(0, 0)] rfl rfl rfl ?_
  refine sd_vv rfl rfl rfl (vv_assign rfl) ?_
  refine sd_done ?_
  refine sw_seq ?_
  refine sw_seq ?_
  -- region 2 header.go:52
  refine sw_region [(0, 0), (1, 0), (2, 0), (3, 0)] rfl rfl rfl ?_
  refine sd_vv rfl rfl rfl (vv_move rfl) ?_
  have hb := bnd hm; clear hm; obtain ⟨x1, hx1, hm⟩ := hb
  refine sd_ev rfl rfl rfl (ev_call en_122 rfl (cover_source_take_w p0 8 _ _ _ _ _ _ hx1 _ hbp0 hp0_0 ⟨(tk1 ((tk2 lt1.o ne0.o) : zp0_0 = 0 ∨ gp0_0 ≠ bp0))⟩)) ?_
  rintro u1_r0_s w1 ⟨_, z1_r0_s, g1_r0_s, u1_b0_0, z1_b0_0, g1_b0_0, o1_b0_0, rfl, O1_r0_s, f1_r0_s, O1_b0_0, f1_b0_0, d1_0, Bk1_0, Kw1⟩
  have z3 := Kw1.size
  have lt4 := O1_r0_s.lth
  have lt5 := O1_b0_0.lth
  refine sd_vv rfl rfl rfl (vv_lenT (l := x1.1) (c := bvc) Try.underlying29 rfl (Own.rd O1_r0_s)) ?_
  refine sd_vv rfl rfl rfl (vv_move rfl) ?_
  refine sd_done ?_
  refine sw_block ?_
  have X6 : Kz [(1, bp0)] w w1 := (Kz.kz (Kz.refl _ w) Kw1)
  have B7 := (Rd.kz hp0_0 Kw1 (tk1 ((tk2 lt1.o ne0.o) : zp0_0 = 0 ∨ gp0_0 ≠ bp0)))
  refine sw_loopD (α := Nat × BitVec 64 × Int) [3, 5, 9, 10, 11, 12, 13, 14, 15, 16, 17, 18] (fun ⟨n1, a4, a5⟩ => [(3, wv a4), (9, .int .i64 a5)]) (fun ⟨n1, a4, a5⟩ wr => (fixN (cover_source_uint_L1 x1) n1 (a4, a5) = some r) ∧ Kz [] w1 wr) (fun ⟨n1, a4, a5⟩ => n1) ⟨FUEL, 0#64, 0⟩ ?_ ?_ ?_
  · repeat' first | exact trivial | refine ⟨rfl, ?_⟩
  · exact ⟨hm, Kz.refl _ _⟩
  · clear hm; rintro ⟨n1, a4, a5⟩ w2 ⟨hm, Kw2⟩
    have z8 := Kw2.size
    have hb := fix_succ hm; clear hm; obtain ⟨n1, rfl, hm⟩ := hb
    generalize hrec1 : fixN (cover_source_uint_L1 x1) n1 = rec1 at hm
    unfold cover_source_uint_L1 at hm
    try dsimp only at hm
    refine sw_seq ?_
    -- region 3 header.go:52
    refine sw_region [(0, 0)] rfl rfl rfl ?_
    refine sd_vv rfl rfl rfl (vv_lss (a := a5) (b := (x1.1.length : Int)) rfl rfl) ?_
    refine sd_done ?_
    refine sw_seq ?_
    refine sw_cond rfl (fun c1 => ?_) (fun c1 => ?_)
    ·
      replace hm := ite_t (of_decide_eq_true c1) hm
      refine sw_skip ?_
      refine then_n ?_
      refine sw_seq ?_
      refine sw_block ?_
      refine sw_seq ?_
      -- region 4 header.go:52
      refine sw_region [(0, 0), (1, 0), (2, 0)] rfl rfl rfl ?_
      have hb := bnd hm; clear hm; obtain ⟨y6, hy6, hm⟩ := hb
      have B9 := (Own.kz O1_r0_s Kw2)
      refine sd_vv rfl rfl rfl (vv_ixT (i := a5) Try.underlying29 (one_5).siz rfl (Own.rd B9) rfl hy6) ?_
      refine sd_vv rfl rfl rfl (vv_el1T (q := 0) (u := bv y6) one_5 rfl (Own.rd B9) hy6 (by first | rfl | omega) rfl) ?_
      refine sd_vv rfl rfl rfl (vv_assign rfl) ?_
      refine sd_done ?_
      -- region 5 header.go:53
      refine sw_region [(0, 0), (1, 0), (2, 0), (3, 0), (4, 0), (5, 0)] rfl rfl rfl ?_
      refine sd_vv rfl rfl rfl (vv_move rfl) ?_
      have hb := bnd hm; clear hm; obtain ⟨n7, hn7, hm⟩ := hb
      refine sd_vv rfl rfl rfl (vv_shlU (c := a4) (b := (un 8#64)) rfl rfl hn7) ?_
      refine sd_vv rfl rfl rfl (vv_move rfl) ?_
      refine sd_vv rfl rfl rfl (vv_cvBU cv_5_23 rfl) ?_
      refine sd_vv rfl rfl rfl (vv_uor (a := a4 <<< n7) (b := y6.setWidth 64) rfl rfl) ?_
      refine sd_vv rfl rfl rfl (vv_assign rfl) ?_
      refine sd_nil ?_
      refine block_n ?_
      refine then_n ?_
      -- region 6 header.go:52
      refine sw_region [(0, 0), (1, 0)] rfl rfl rfl ?_
      refine sd_vv rfl rfl rfl (vv_add (k := .i64) (a := a5) (b := 1) rfl rfl) ?_
      refine sd_vv rfl rfl rfl (vv_move rfl) ?_
      refine sd_nil ?_
      have K_10 : Kz [] w1 w2 := Kw2
      subst hrec1
      refine ⟨rfl, ⟨n1, (a4 <<< n7) ||| (y6.setWidth 64), w64 (a5 + 1)⟩, ?_, ⟨hm, K_10⟩, Nat.lt_succ_self _⟩
      repeat' first | exact trivial | refine ⟨rfl, ?_⟩
    ·
      replace hm := ite_f (of_decide_eq_false c1) hm
      refine sw_exit ?_
      refine then_x ?_
      refine then_x ?_
      refine block_x ?_
      refine then_n ?_
      refine sw_seq ?_
      -- region 7 header.go:55
      refine sw_region [(0, 0), (1, 0)] rfl rfl rfl ?_
      refine sd_vv rfl rfl rfl (vv_move rfl) ?_
      refine sd_vv rfl rfl rfl (vv_assign rfl) ?_
      refine sd_done ?_
      refine sw_ret ?_
      have B11 := (Rd.kz O1_b0_0 Kw2)
      have B12 := (Bx.kz Bk1_0 Kw2)
      have X13 : Kz [(1, bp0)] w w2 := (Kz.kz X6 Kw2)
      have hr := Option.some.inj hm
      subst hr
      refine ⟨_, _, rfl, res_1 rfl (rv_tmp rfl), ?_⟩
      exact ⟨u1_b0_0, z1_b0_0, g1_b0_0, o1_b0_0, rfl, B11, ⟨(pv_1 (A := (fun x => (x = gp0_0 ∧ zp0_0 ≠ 0) ∨ w.heap.size ≤ x)) f1_b0_0 tk0)⟩, B12, X13⟩

set_option maxHeartbeats 2000000 in
theorem bytes_Equal_w (p0 : List (BitVec 8)) (p1 : List (BitVec 8)) (vp0 : Value) (zp0 gp0 op0 : Nat) (vp1 : Value) (zp1 gp1 op1 : Nat) (r : Bool) (hm : bytes_Equal p0 p1 = some r) (w : World) (hp0 : Rd w zp0 gp0 op0 1 vp0 (p0.map bvc)) (hp1 : Rd w zp1 gp1 op1 1 vp1 (p1.map bvc))  :
    Calls Try.prog 70 [vp0, vp1].toArray w fun e w' => ∃ v, e = .returned v ∧ (v = .bool r ∧ Gr w w') := by
  have lt1 := hp0.lth
  have lt2 := hp1.lth
  unfold bytes_Equal at hm
  refine calls_of_sw (R := fun v w' => v = .bool r ∧ Gr w w') 10 Try.func70 rfl rfl rfl ?_
  refine sw_seq ?_
  -- region 0 bytes.go:20
  refine sw_region [(0, 0)] rfl rfl rfl ?_
  refine sd_vv rfl rfl rfl (vv_assign rfl) ?_
  refine sd_done ?_
  refine sw_seq ?_
  -- region 1 bytes.go:22
  refine sw_region [(0, 0), (1, 0), (2, 0), (3, 0), (4, 0), (5, 0)] rfl rfl rfl ?_
  refine sd_vv rfl rfl rfl (vv_move rfl) ?_
  refine sd_vv rfl rfl rfl (vv_b2s (l := p0) Try.underlying29 Try.underlying5 Try.underlying9 rfl hp0) ?_
  refine sd_vv rfl rfl rfl (vv_move rfl) ?_
  refine sd_vv rfl rfl rfl (vv_b2s (l := p1) Try.underlying29 Try.underlying5 Try.underlying9 rfl hp1) ?_
  refine sd_vv rfl rfl rfl (vv_eqlT (l := p0) (m := p1) rfl rfl) ?_
  refine sd_vv rfl rfl rfl (vv_assign rfl) ?_
  refine sd_done ?_
  refine sw_ret ?_
  have hr := Option.some.inj hm
  subst hr
  refine ⟨_, _, rfl, res_1 rfl (rv_tmp rfl), ?_⟩
  exact ⟨rfl, (Gr.refl w)⟩

set_option maxHeartbeats 2000000 in
theorem cover_Decode_w (p0 : List (BitVec 8)) (vp0 : Value) (zp0 gp0 op0 : Nat) (r : THeader × Int) (hm : cover_Decode p0 = some r) (w : World) (hp0 : Rd w zp0 gp0 op0 1 vp0 (p0.map bvc))  :
    Calls Try.prog 26 [vp0].toArray w fun e w' => ∃ v, e = .returned v ∧ (∃ (ur0_0 : Value) (zr0_0 : Nat) (gr0_0 : Nat) (ur0_2 : Value) (zr0_2 : Nat) (gr0_2 : Nat), v = .tuple [.agg (THeader.cs r.1 ur0_0 ur0_2).toArray, .int .i64 r.2].toArray ∧ Own w' zr0_0 gr0_0 108 18 ur0_0 (r.1.Items.map TItem.cs) ∧ Hdn (zr0_0 = 0 ∨ w.heap.size ≤ gr0_0) ∧ Own w' zr0_2 gr0_2 72 2 ur0_2 (r.1.Points.map TPoint.cs) ∧ Hdn (zr0_2 = 0 ∨ w.heap.size ≤ gr0_2) ∧ Hdn (zr0_2 = 0 ∨ zr0_0 = 0 ∨ gr0_2 ≠ gr0_0) ∧ Gr w w') := by
  have lt1 := hp0.lth
  unfold cover_Decode at hm
  refine calls_of_sw (R := fun v w' => ∃ (ur0_0 : Value) (zr0_0 : Nat) (gr0_0 : Nat) (ur0_2 : Value) (zr0_2 : Nat) (gr0_2 : Nat), v = .tuple [.agg (THeader.cs r.1 ur0_0 ur0_2).toArray, .int .i64 r.2].toArray ∧ Own w' zr0_0 gr0_0 108 18 ur0_0 (r.1.Items.map TItem.cs) ∧ Hdn (zr0_0 = 0 ∨ w.heap.size ≤ gr0_0) ∧ Own w' zr0_2 gr0_2 72 2 ur0_2 (r.1.Points.map TPoint.cs) ∧ Hdn (zr0_2 = 0 ∨ w.heap.size ≤ gr0_2) ∧ Hdn (zr0_2 = 0 ∨ zr0_0 = 0 ∨ gr0_2 ≠ gr0_0) ∧ Gr w w') 68 Try.func26 rfl rfl rfl ?_
  refine sw_seq ?_
  -- region 0 header.go:62
  refine sw_region [(0, 0), (1, 0)] rfl rfl rfl ?_
  refine sd_ev rfl rfl rfl (ev_alloc (cs := THeader.cs (THeader.mk [] 0#64 [] k0 k0) (.slice none 0 0) (.slice none 0 0)) zv_28 rfl) ?_
  rintro _ w1 ⟨b1, rfl, hbw1, Bw1, Gw1⟩
  have z2 := Gw1.size
  have lt3 := Bw1.lt
  refine sd_vv rfl rfl rfl (vv_assign rfl) ?_
  refine sd_done ?_
  refine sw_seq ?_
  -- region 1 header.go:63
  refine sw_region [(0, 0), (1, 0), (2, 0), (3, 0)] rfl rfl rfl ?_
  refine sd_vv rfl rfl rfl (vv_move rfl) ?_
  have B4 := (Rd.gr hp0 Gw1)
  refine sd_vv rfl rfl rfl (vv_build (cs := Tcover_source.cs (Tcover_source.mk p0) vp0) bs_125 rfl (fill_1 rfl (Rd.oneB B4) rfl rfl)) ?_
  refine sd_ev rfl rfl rfl (ev_box (cs := Tcover_source.cs (Tcover_source.mk p0) vp0) rfl rfl) ?_
  rintro _ w2 ⟨b2, rfl, hbw2, Bw2, Gw2⟩
  have z5 := Gw2.size
  have lt6 := Bw2.lt
  refine sd_vv rfl rfl rfl (vv_assign rfl) ?_
  refine sd_done ?_
  refine sw_seq ?_
  -- region 2 header.go:64
  refine sw_region [(0, 0)] rfl rfl rfl ?_
  refine sd_ev rfl rfl rfl (ev_alloc (cs := THeader.cs (THeader.mk [] 0#64 [] k0 k0) (.slice none 0 0) (.slice none 0 0)) zv_28 rfl) ?_
  rintro _ w3 ⟨b3, rfl, hbw3, Bw3, Gw3⟩
  have z7 := Gw3.size
  have lt8 := Bw3.lt
  refine sd_done ?_
  refine sw_seq ?_
  refine sw_seq ?_
  -- region 3 header.go:65
  refine sw_region [(0, 0), (1, 0), (2, 0)] rfl rfl rfl ?_
  refine sd_vv rfl rfl rfl (vv_move rfl) ?_
  have B9 := (Bx.gr Bw2 Gw3)
  have B10 := (Rd.gr (Rd.gr B4 Gw2) Gw3)
  have hb := bnd hm; clear hm; obtain ⟨x1, hx1, hm⟩ := hb
  refine sd_ev rfl rfl rfl (ev_call en_67 rfl (cover_source_byte_w (Tcover_source.mk p0) _ _ _ _ _ _ hx1 _ B9 B10 ⟨(tk1 ((pv_lt (A := (fun x => x ≠ b2)) lt1) : zp0 = 0 ∨ gp0 ≠ b2))⟩)) ?_
  rintro _ w4 ⟨u4_b0_0, z4_b0_0, g4_b0_0, o4_b0_0, rfl, O4_b0_0, f4_b0_0, Bk4_0, Kw4⟩
  have z11 := Kw4.size
  have lt12 := O4_b0_0.lth
  refine sd_vv rfl rfl rfl (vv_move rfl) ?_
  refine sd_done ?_
  refine sw_block ?_
  have X13 : Gr w w4 := (Gr.kz (Gr.trans (Gr.trans (Gr.trans (Gr.refl w) Gw1) Gw2) Gw3) Kw4)
  have B14 := (Rd.kz B10 Kw4 (tk1 ((pv_lt (A := (fun x => x ≠ b2)) lt1) : zp0 = 0 ∨ gp0 ≠ b2)))
  have B15 := (Bx.kz Bw3 Kw4)
  refine sw_loopD (α := Nat × Int × Tcover_source × List TItem × Value × Nat × Nat × Nat × Value × Nat × Nat) [13, 14, 15, 16, 17, 18, 19, 20, 21, 22, 23, 24, 25, 26, 27, 28] (fun ⟨n1, a7, a8, a10, vy9, zy9, gy9, oy9, vy11, zy11, gy11⟩ => [(13, .int .i64 a7)]) (fun ⟨n1, a7, a8, a10, vy9, zy9, gy9, oy9, vy11, zy11, gy11⟩ wr => (fixN (cover_Decode_L1 p0 x1) n1 (a7, a8, a10) = some r) ∧ Rd wr zy9 gy9 oy9 1 vy9 (a8.b.map bvc) ∧ Hdn (zy9 = 0 ∨ (gy9 = g4_b0_0 ∧ z4_b0_0 ≠ 0) ∨ w4.heap.size ≤ gy9) ∧ Own wr zy11 gy11 108 18 vy11 (a10.map TItem.cs) ∧ Hdn (zy11 = 0 ∨ w4.heap.size ≤ gy11) ∧ Hdn (zy11 = 0 ∨ zy9 = 0 ∨ gy11 ≠ gy9) ∧ Bx wr b2 125 (Tcover_source.cs a8 vy9) ∧ Bx wr b3 28 (THeader.cs (THeader.mk a10 0#64 [] k0 k0) vy11 (.slice none 0 0)) ∧ Kz [(1, b2), (1, b3)] w4 wr) (fun ⟨n1, a7, a8, a10, vy9, zy9, gy9, oy9, vy11, zy11, gy11⟩ => n1) ⟨FUEL, 0, x1.2, [], u4_b0_0, z4_b0_0, g4_b0_0, o4_b0_0, (.slice none 0 0), 0, 0⟩ ?_ ?_ ?_
  · repeat' first | exact trivial | refine ⟨rfl, ?_⟩
  · exact ⟨hm, O4_b0_0, ⟨tk0⟩, (own_nil _ 0 108 18), ⟨(.inl rfl)⟩, ⟨(.inl rfl)⟩, Bk4_0, B15, Kz.refl _ _⟩
  · clear hm; rintro ⟨n1, a7, a8, a10, vy9, zy9, gy9, oy9, vy11, zy11, gy11⟩ w5 ⟨hm, Fw5_0, Fw5_1, Fw5_2, Fw5_3, Fw5_4, Fw5_5, Fw5_6, Kw5⟩
    have z16 := Kw5.size
    have lt17 := Fw5_0.lth
    have lt18 := Fw5_2.lth
    have lt19 := Fw5_5.lt
    have lt20 := Fw5_6.lt
    have hb := fix_succ hm; clear hm; obtain ⟨n1, rfl, hm⟩ := hb
    generalize hrec1 : fixN (cover_Decode_L1 p0 x1) n1 = rec1 at hm
    unfold cover_Decode_L1 at hm
    try dsimp only at hm
    refine sw_seq ?_
    -- region 4 header.go:65
    refine sw_region [(0, 0)] rfl rfl rfl ?_
    refine sd_vv rfl rfl rfl (vv_lss (a := a7) (b := x1.1) rfl rfl) ?_
    refine sd_done ?_
    refine sw_seq ?_
    refine sw_cond rfl (fun c1 => ?_) (fun c1 => ?_)
    ·
      replace hm := ite_t (of_decide_eq_true c1) hm
      refine sw_skip ?_
      refine then_n ?_
      refine sw_seq ?_
      refine sw_block ?_
      -- region 5 header.go:66 DRAWS
      refine sw_drawN [([b2, b3] ++ zf zy11 gy11), ([b2] ++ zf zy11 gy11)] [(13, [1])] (.leaf [(0, 10), (1, 11), (2, 10), (4, 10), (7, 10), (3, 0), (5, 0), (6, 10), (8, 0), (9, 10), (10, 0), (11, 0), (12, 10), (13, 0)]) (by kernel_rfl) (by kernel_rfl) rfl (by kernel_rfl) ?_
      intro w6 Gw6 zw6
      refine sdz_leaf ?_
      refine dd_hn 0 rfl rfl rfl rfl (Kp.refl ([b2, b3] ++ zf zy11 gy11) w6) (fun w hS => vv_fieldAddr fa_28_0 rfl) ?_
      have B21 := (Bx.gr Fw5_6 Gw6)
      refine dd_hn 1 rfl rfl rfl rfl (Kp.refl ([b2] ++ zf zy11 gy11) w6) (fun w hS => vv_load1 (v := vy11) one_22 rfl (Bx.kp B21 hS (tk1 ((pv_0 (A := (fun x => x ≠ b3)) Fw5_3) : zy11 = 0 ∨ gy11 ≠ b3))) rfl) ?_
      refine dd_hn 0 rfl rfl rfl rfl (Kp.refl ([b2, b3] ++ zf zy11 gy11) w6) (fun w hS => vv_move rfl) ?_
      refine dd_hn 0 rfl rfl rfl rfl (Kp.refl ([b2, b3] ++ zf zy11 gy11) w6) (fun w hS => vv_move rfl) ?_
      refine dd_hn 0 rfl rfl rfl rfl (Kp.refl ([b2, b3] ++ zf zy11 gy11) w6) (fun w hS => vv_move rfl) ?_
      have B22 := (Bx.gr Fw5_5 Gw6)
      have B23 := (Rd.gr Fw5_0 Gw6)
      have hb := bnd hm; clear hm; obtain ⟨x12, hx12, hm⟩ := hb
      refine dd_z [(1, b2)] rfl rfl rfl (ev_call en_67 rfl (cover_source_byte_w a8 _ _ _ _ _ _ hx12 _ B22 B23 ⟨(tk1 ((pv_1 (A := (fun x => x ≠ b2)) Fw5_1 (pv_1 (A := (fun x => x ≠ b2)) f4_b0_0 (pv_lt (A := (fun x => x ≠ b2)) lt1))) : zy9 = 0 ∨ gy9 ≠ b2))⟩)) ⟨fun _ => tk0, fun _ => tk0, trivial⟩ ?_
      rintro _ w7 ⟨u7_b0_0, z7_b0_0, g7_b0_0, o7_b0_0, rfl, O7_b0_0, f7_b0_0, Bk7_0, Kw7⟩
      have z24 := Kw7.size
      have lt25 := O7_b0_0.lth
      refine ⟨Kw7, ?_⟩
      have hb := bnd hm; clear hm; obtain ⟨x13, hx13, hm⟩ := hb
      refine dd_z [(1, b2)] rfl rfl rfl (ev_call en_67 rfl (cover_source_byte_w x12.2 _ _ _ _ _ _ hx13 _ Bk7_0 O7_b0_0 ⟨(tk1 ((pv_1 (A := (fun x => x ≠ b2)) f7_b0_0 (pv_1 (A := (fun x => x ≠ b2)) Fw5_1 (pv_1 (A := (fun x => x ≠ b2)) f4_b0_0 (pv_lt (A := (fun x => x ≠ b2)) lt1)))) : z7_b0_0 = 0 ∨ g7_b0_0 ≠ b2))⟩)) ⟨fun _ => tk0, fun _ => tk0, trivial⟩ ?_
      rintro _ w8 ⟨u8_b0_0, z8_b0_0, g8_b0_0, o8_b0_0, rfl, O8_b0_0, f8_b0_0, Bk8_0, Kw8⟩
      have z26 := Kw8.size
      have lt27 := O8_b0_0.lth
      refine ⟨Kw8, ?_⟩
      have S28 := (Kp.kz (Kp.kz (Kp.refl ([b2, b3] ++ zf zy11 gy11) w6) Kw7) Kw8)
      refine dd_hn 0 rfl rfl rfl rfl S28 (fun w hS => vv_build (cs := TSubset.cs (TSubset.mk x12.1 x13.1)) bs_47 rfl rfl) ?_
      have hb := bnd hm; clear hm; obtain ⟨x14, hx14, hm⟩ := hb
      refine dd_z [(1, b2)] rfl rfl rfl (ev_call en_68 rfl (cover_source_key_w x13.2 _ _ _ _ _ _ hx14 _ Bk8_0 O8_b0_0 ⟨(tk1 ((pv_1 (A := (fun x => x ≠ b2)) f8_b0_0 (pv_1 (A := (fun x => x ≠ b2)) f7_b0_0 (pv_1 (A := (fun x => x ≠ b2)) Fw5_1 (pv_1 (A := (fun x => x ≠ b2)) f4_b0_0 (pv_lt (A := (fun x => x ≠ b2)) lt1))))) : z8_b0_0 = 0 ∨ g8_b0_0 ≠ b2))⟩)) ⟨fun _ => tk0, fun _ => tk0, trivial⟩ ?_
      rintro _ w9 ⟨u9_b0_0, z9_b0_0, g9_b0_0, o9_b0_0, rfl, O9_b0_0, f9_b0_0, Bk9_0, Kw9⟩
      have z29 := Kw9.size
      have lt30 := O9_b0_0.lth
      refine ⟨Kw9, ?_⟩
      have S31 := (Kp.kz S28 Kw9)
      refine dd_hn 0 rfl rfl rfl rfl S31 (fun w hS => vv_build (cs := TItem.cs (TItem.mk (TSubset.mk x12.1 x13.1) x14.1)) bs_108 rfl (fill_M rfl rfl rfl (fill_M rfl rfl rfl (by kernel_rfl)))) ?_
      refine dd_z [] rfl rfl rfl (ev_litT [(TItem.mk (TSubset.mk x12.1 x13.1) x14.1)] TItem.cs bsl_22_1 rfl rfl (ws_of rfl) rfl rfl rfl) ⟨fun _ => tk0, fun _ => tk0, trivial⟩ ?_
      rintro vw10 w10 ⟨gw10, hbw10, Ow10, Gw10⟩
      have z32 := Gw10.size
      have lt33 := Ow10.lth
      refine ⟨Kz.ofGr Gw10, ?_⟩
      have B34 := (Own.gr (Own.kz (Own.kz (Own.kz (Own.gr Fw5_2 Gw6) Kw7 (tk1 ((pv_0 (A := (fun x => x ≠ b2)) Fw5_3) : zy11 = 0 ∨ gy11 ≠ b2))) Kw8 (tk1 ((pv_0 (A := (fun x => x ≠ b2)) Fw5_3) : zy11 = 0 ∨ gy11 ≠ b2))) Kw9 (tk1 ((pv_0 (A := (fun x => x ≠ b2)) Fw5_3) : zy11 = 0 ∨ gy11 ≠ b2))) Gw10)
      have hb := bnd hm; clear hm; obtain ⟨l15, hl15, hm⟩ := hb
      refine dd_z [(zy11, gy11)] rfl rfl rfl (ev_appT (l := a10) (m := [(TItem.mk (TSubset.mk x12.1 x13.1) x14.1)]) (c := TItem.cs) apt_22 rfl rfl B34 (Own.rd Ow10) hl15 (by decide)) ⟨fun _ => (tk1 (tk0 : zy11 = 0 ∨ (gy11 = gy11 ∧ zy11 ≠ 0) ∨ w6.heap.size ≤ gy11)), fun _ => (tk1 (tk0 : zy11 = 0 ∨ (gy11 = gy11 ∧ zy11 ≠ 0) ∨ w6.heap.size ≤ gy11)), trivial⟩ ?_
      rintro vw11 w11 ⟨zw11, gw11, Ow11, Aw11, qw11, rw11⟩
      have z35 := Aw11.size
      refine ⟨Kz.ofKa Aw11, ?_⟩
      have S36 := (Kp.ka (Kp.gr S31 Gw10) Aw11 (tk1 (tk0 : zy11 = 0 ∨ (gy11 = gy11 ∧ zy11 ≠ 0) ∨ w6.heap.size ≤ gy11)))
      refine dd_hn 0 rfl rfl rfl rfl S36 (fun w hS => vv_fieldAddr fa_28_0 rfl) ?_
      have B37 := (Bx.ka (Bx.gr (Bx.kz (Bx.kz (Bx.kz B21 Kw7) Kw8) Kw9) Gw10) Aw11 (tk1 ((pv_0 (A := (fun x => x ≠ b3)) Fw5_3) : zy11 = 0 ∨ gy11 ≠ b3)))
      refine dd_z [(1, b3)] rfl rfl rfl (ev_st1 (cs' := THeader.cs (THeader.mk l15 0#64 [] k0 k0) vw11 (.slice none 0 0)) (one_22).siz rfl rfl (Own.oneB Ow11) B37 rfl rfl) ⟨fun _ => tk0, nofun, trivial⟩ ?_
      rintro _ w12 ⟨Bw12, Mw12⟩
      have z38 := Mw12.size
      refine ⟨Kz.ofMd Mw12, ?_⟩
      refine sd_nil ?_
      refine block_n ?_
      refine then_n ?_
      -- region 6 header.go:65
      refine sw_region [(0, 0), (1, 0)] rfl rfl rfl ?_
      refine sd_vv rfl rfl rfl (vv_add (k := .i64) (a := a7) (b := 1) rfl rfl) ?_
      refine sd_vv rfl rfl rfl (vv_move rfl) ?_
      refine sd_nil ?_
      have K_39 : Kz [(1, b2), (1, b3)] w4 w12 := (Kz.md (Kz.ka (Kz.gr (Kz.kz (Kz.kz (Kz.kz (Kz.gr Kw5 Gw6) Kw7) Kw8) Kw9) Gw10) Aw11 (tk1 ((pv_0 (A := (fun x => w4.heap.size ≤ x)) Fw5_3) : zy11 = 0 ∨ w4.heap.size ≤ gy11))) Mw12)
      have B40 := (Rd.md (Rd.ka (Rd.gr O9_b0_0 Gw10) Aw11 (tk1 ((pv_1 (A := (fun x => zy11 = 0 ∨ x ≠ gy11)) f9_b0_0 (pv_1 (A := (fun x => zy11 = 0 ∨ x ≠ gy11)) f8_b0_0 (pv_1 (A := (fun x => zy11 = 0 ∨ x ≠ gy11)) f7_b0_0 (tk1 Fw5_4.o) (fun x hx => (tk1 lt18.o))) (fun x hx => (tk1 lt18.o))) (fun x hx => (tk1 lt18.o))) : z9_b0_0 = 0 ∨ zy11 = 0 ∨ g9_b0_0 ≠ gy11))) Mw12 (tk1 ((pv_1 (A := (fun x => x ≠ b3)) f9_b0_0 (pv_1 (A := (fun x => x ≠ b3)) f8_b0_0 (pv_1 (A := (fun x => x ≠ b3)) f7_b0_0 (pv_1 (A := (fun x => x ≠ b3)) Fw5_1 (pv_1 (A := (fun x => x ≠ b3)) f4_b0_0 (pv_lt (A := (fun x => x ≠ b3)) lt1)))))) : z9_b0_0 = 0 ∨ g9_b0_0 ≠ b3)))
      have B41 := (Own.md Ow11 Mw12 (tk1 ((pv_app (A := (fun x => x ≠ b3)) rw11 (pv_0 (A := (fun x => x ≠ b3)) Fw5_3)) : zw11 = 0 ∨ gw11 ≠ b3)))
      have B42 := (Bx.md (Bx.ka (Bx.gr Bk9_0 Gw10) Aw11 (tk1 ((pv_0 (A := (fun x => x ≠ b2)) Fw5_3) : zy11 = 0 ∨ gy11 ≠ b2))) Mw12)
      subst hrec1
      refine ⟨rfl, ⟨n1, w64 (a7 + 1), x14.2, l15, u9_b0_0, z9_b0_0, g9_b0_0, o9_b0_0, vw11, zw11, gw11⟩, ?_, ⟨hm, B40, ⟨(pv_1 (A := (fun x => (x = g4_b0_0 ∧ z4_b0_0 ≠ 0) ∨ w4.heap.size ≤ x)) f9_b0_0 (pv_1 (A := (fun x => (x = g4_b0_0 ∧ z4_b0_0 ≠ 0) ∨ w4.heap.size ≤ x)) f8_b0_0 (pv_1 (A := (fun x => (x = g4_b0_0 ∧ z4_b0_0 ≠ 0) ∨ w4.heap.size ≤ x)) f7_b0_0 (pv_1 (A := (fun x => (x = g4_b0_0 ∧ z4_b0_0 ≠ 0) ∨ w4.heap.size ≤ x)) Fw5_1 tk0))))⟩, B41, ⟨(pv_app (A := (fun x => w4.heap.size ≤ x)) rw11 (pv_0 (A := (fun x => w4.heap.size ≤ x)) Fw5_3))⟩, ⟨(pv_app (A := (fun x => z9_b0_0 = 0 ∨ x ≠ g9_b0_0)) rw11 (pv_sw (pv_1 (A := (fun x => zy11 = 0 ∨ x ≠ gy11)) f9_b0_0 (pv_1 (A := (fun x => zy11 = 0 ∨ x ≠ gy11)) f8_b0_0 (pv_1 (A := (fun x => zy11 = 0 ∨ x ≠ gy11)) f7_b0_0 (tk1 Fw5_4.o) (fun x hx => (tk1 lt18.o))) (fun x hx => (tk1 lt18.o))) (fun x hx => (tk1 lt18.o)))) (fun x hx => (tk1 lt30.o)))⟩, B42, Bw12, K_39⟩, Nat.lt_succ_self _⟩
      repeat' first | exact trivial | refine ⟨rfl, ?_⟩
    ·
      replace hm := ite_f (of_decide_eq_false c1) hm
      refine sw_exit ?_
      refine then_x ?_
      refine then_x ?_
      refine block_x ?_
      refine then_n ?_
      refine sw_seq ?_
      -- region 7 header.go:68
      refine sw_region [(0, 0), (1, 0), (2, 0), (3, 0)] rfl rfl rfl ?_
      refine sd_vv rfl rfl rfl (vv_move rfl) ?_
      have hb := bnd hm; clear hm; obtain ⟨x16, hx16, hm⟩ := hb
      refine sd_ev rfl rfl rfl (ev_call en_69 rfl (cover_source_uint_w a8 _ _ _ _ _ _ hx16 _ Fw5_5 Fw5_0 ⟨(tk1 ((pv_1 (A := (fun x => x ≠ b2)) Fw5_1 (pv_1 (A := (fun x => x ≠ b2)) f4_b0_0 (pv_lt (A := (fun x => x ≠ b2)) lt1))) : zy9 = 0 ∨ gy9 ≠ b2))⟩)) ?_
      rintro _ w13 ⟨u13_b0_0, z13_b0_0, g13_b0_0, o13_b0_0, rfl, O13_b0_0, f13_b0_0, Bk13_0, Kw13⟩
      have z43 := Kw13.size
      have lt44 := O13_b0_0.lth
      refine sd_vv rfl rfl rfl (vv_fieldAddr fa_28_1 rfl) ?_
      have B45 := (Bx.kz Fw5_6 Kw13)
      refine sd_ev rfl rfl rfl (ev_st1 (cs' := THeader.cs (THeader.mk a10 x16.1 [] k0 k0) vy11 (.slice none 0 0)) (one_23).siz rfl rfl rfl B45 rfl rfl) ?_
      rintro _ w14 ⟨Bw14, Mw14⟩
      have z46 := Mw14.size
      refine sd_done ?_
      refine sw_seq ?_
      refine sw_seq ?_
      -- region 8 header.go:69
      refine sw_region [(0, 0), (1, 0), (2, 0)] rfl rfl rfl ?_
      refine sd_vv rfl rfl rfl (vv_move rfl) ?_
      have B47 := (Bx.md Bk13_0 Mw14)
      have B48 := (Rd.md O13_b0_0 Mw14 (tk1 ((pv_1 (A := (fun x => x ≠ b3)) f13_b0_0 (pv_1 (A := (fun x => x ≠ b3)) Fw5_1 (pv_1 (A := (fun x => x ≠ b3)) f4_b0_0 (pv_lt (A := (fun x => x ≠ b3)) lt1)))) : z13_b0_0 = 0 ∨ g13_b0_0 ≠ b3)))
      have hb := bnd hm; clear hm; obtain ⟨x17, hx17, hm⟩ := hb
      refine sd_ev rfl rfl rfl (ev_call en_67 rfl (cover_source_byte_w x16.2 _ _ _ _ _ _ hx17 _ B47 B48 ⟨(tk1 ((pv_1 (A := (fun x => x ≠ b2)) f13_b0_0 (pv_1 (A := (fun x => x ≠ b2)) Fw5_1 (pv_1 (A := (fun x => x ≠ b2)) f4_b0_0 (pv_lt (A := (fun x => x ≠ b2)) lt1)))) : z13_b0_0 = 0 ∨ g13_b0_0 ≠ b2))⟩)) ?_
      rintro _ w15 ⟨u15_b0_0, z15_b0_0, g15_b0_0, o15_b0_0, rfl, O15_b0_0, f15_b0_0, Bk15_0, Kw15⟩
      have z49 := Kw15.size
      have lt50 := O15_b0_0.lth
      refine sd_vv rfl rfl rfl (vv_move rfl) ?_
      refine sd_done ?_
      refine sw_block ?_
      have X51 : Gr w w15 := (Gr.kz (Gr.md (Gr.kz (Gr.kz X13 Kw5) Kw13) Mw14) Kw15)
      have B52 := (Rd.kz (Rd.md (Rd.kz (Rd.kz B14 Kw5 (tk2 ((pv_lt (A := (fun x => x ≠ b2)) lt1) : zp0 = 0 ∨ gp0 ≠ b2) ((pv_lt (A := (fun x => x ≠ b3)) lt1) : zp0 = 0 ∨ gp0 ≠ b3))) Kw13 (tk1 ((pv_lt (A := (fun x => x ≠ b2)) lt1) : zp0 = 0 ∨ gp0 ≠ b2))) Mw14 (tk1 ((pv_lt (A := (fun x => x ≠ b3)) lt1) : zp0 = 0 ∨ gp0 ≠ b3))) Kw15 (tk1 ((pv_lt (A := (fun x => x ≠ b2)) lt1) : zp0 = 0 ∨ gp0 ≠ b2)))
      have B53 := (Bx.kz Bw14 Kw15)
      have B54 := (Rd.kz (Rd.md (Rd.kz (Rd.kz O4_b0_0 Kw5 (tk2 ((pv_1 (A := (fun x => x ≠ b2)) f4_b0_0 (pv_lt (A := (fun x => x ≠ b2)) lt1)) : z4_b0_0 = 0 ∨ g4_b0_0 ≠ b2) ((pv_1 (A := (fun x => x ≠ b3)) f4_b0_0 (pv_lt (A := (fun x => x ≠ b3)) lt1)) : z4_b0_0 = 0 ∨ g4_b0_0 ≠ b3))) Kw13 (tk1 ((pv_1 (A := (fun x => x ≠ b2)) f4_b0_0 (pv_lt (A := (fun x => x ≠ b2)) lt1)) : z4_b0_0 = 0 ∨ g4_b0_0 ≠ b2))) Mw14 (tk1 ((pv_1 (A := (fun x => x ≠ b3)) f4_b0_0 (pv_lt (A := (fun x => x ≠ b3)) lt1)) : z4_b0_0 = 0 ∨ g4_b0_0 ≠ b3))) Kw15 (tk1 ((pv_1 (A := (fun x => x ≠ b2)) f4_b0_0 (pv_lt (A := (fun x => x ≠ b2)) lt1)) : z4_b0_0 = 0 ∨ g4_b0_0 ≠ b2)))
      have B55 := (Rd.kz (Rd.md (Rd.kz Fw5_0 Kw13 (tk1 ((pv_1 (A := (fun x => x ≠ b2)) Fw5_1 (pv_1 (A := (fun x => x ≠ b2)) f4_b0_0 (pv_lt (A := (fun x => x ≠ b2)) lt1))) : zy9 = 0 ∨ gy9 ≠ b2))) Mw14 (tk1 ((pv_1 (A := (fun x => x ≠ b3)) Fw5_1 (pv_1 (A := (fun x => x ≠ b3)) f4_b0_0 (pv_lt (A := (fun x => x ≠ b3)) lt1))) : zy9 = 0 ∨ gy9 ≠ b3))) Kw15 (tk1 ((pv_1 (A := (fun x => x ≠ b2)) Fw5_1 (pv_1 (A := (fun x => x ≠ b2)) f4_b0_0 (pv_lt (A := (fun x => x ≠ b2)) lt1))) : zy9 = 0 ∨ gy9 ≠ b2)))
      have B56 := (Own.kz (Own.md (Own.kz Fw5_2 Kw13 (tk1 ((pv_0 (A := (fun x => x ≠ b2)) Fw5_3) : zy11 = 0 ∨ gy11 ≠ b2))) Mw14 (tk1 ((pv_0 (A := (fun x => x ≠ b3)) Fw5_3) : zy11 = 0 ∨ gy11 ≠ b3))) Kw15 (tk1 ((pv_0 (A := (fun x => x ≠ b2)) Fw5_3) : zy11 = 0 ∨ gy11 ≠ b2)))
      have B57 := (Rd.kz B48 Kw15 (tk1 ((pv_1 (A := (fun x => x ≠ b2)) f13_b0_0 (pv_1 (A := (fun x => x ≠ b2)) Fw5_1 (pv_1 (A := (fun x => x ≠ b2)) f4_b0_0 (pv_lt (A := (fun x => x ≠ b2)) lt1)))) : z13_b0_0 = 0 ∨ g13_b0_0 ≠ b2)))
      refine sw_loopD (α := Nat × Int × Tcover_source × List TPoint × Value × Nat × Nat × Nat × Value × Nat × Nat) [34, 35, 36, 37, 38, 39, 40, 41, 42, 43, 44, 45, 46] (fun ⟨n2, a23, a24, a26, vy25, zy25, gy25, oy25, vy27, zy27, gy27⟩ => [(34, .int .i64 a23)]) (fun ⟨n2, a23, a24, a26, vy25, zy25, gy25, oy25, vy27, zy27, gy27⟩ wr => (fixN (cover_Decode_L2 p0 a10 x16 x17) n2 (a23, a24, a26) = some r) ∧ Rd wr zy25 gy25 oy25 1 vy25 (a24.b.map bvc) ∧ Hdn (zy25 = 0 ∨ (gy25 = g15_b0_0 ∧ z15_b0_0 ≠ 0) ∨ w15.heap.size ≤ gy25) ∧ Own wr zy27 gy27 72 2 vy27 (a26.map TPoint.cs) ∧ Hdn (zy27 = 0 ∨ w15.heap.size ≤ gy27) ∧ Hdn (zy27 = 0 ∨ zy25 = 0 ∨ gy27 ≠ gy25) ∧ Bx wr b2 125 (Tcover_source.cs a24 vy25) ∧ Bx wr b3 28 (THeader.cs (THeader.mk a10 x16.1 a26 k0 k0) vy11 vy27) ∧ Kz [(1, b2), (1, b3)] w15 wr) (fun ⟨n2, a23, a24, a26, vy25, zy25, gy25, oy25, vy27, zy27, gy27⟩ => n2) ⟨FUEL, 0, x17.2, [], u15_b0_0, z15_b0_0, g15_b0_0, o15_b0_0, (.slice none 0 0), 0, 0⟩ ?_ ?_ ?_
      · repeat' first | exact trivial | refine ⟨rfl, ?_⟩
      · exact ⟨hm, O15_b0_0, ⟨tk0⟩, (own_nil _ 0 72 2), ⟨(.inl rfl)⟩, ⟨(.inl rfl)⟩, Bk15_0, B53, Kz.refl _ _⟩
      · clear hm; rintro ⟨n2, a23, a24, a26, vy25, zy25, gy25, oy25, vy27, zy27, gy27⟩ w16 ⟨hm, Fw16_0, Fw16_1, Fw16_2, Fw16_3, Fw16_4, Fw16_5, Fw16_6, Kw16⟩
        have z58 := Kw16.size
        have lt59 := Fw16_0.lth
        have lt60 := Fw16_2.lth
        have lt61 := Fw16_5.lt
        have lt62 := Fw16_6.lt
        have hb := fix_succ hm; clear hm; obtain ⟨n2, rfl, hm⟩ := hb
        generalize hrec2 : fixN (cover_Decode_L2 p0 a10 x16 x17) n2 = rec2 at hm
        unfold cover_Decode_L2 at hm
        try dsimp only at hm
        refine sw_seq ?_
        -- region 9 header.go:69
        refine sw_region [(0, 0)] rfl rfl rfl ?_
        refine sd_vv rfl rfl rfl (vv_lss (a := a23) (b := x17.1) rfl rfl) ?_
        refine sd_done ?_
        refine sw_seq ?_
        refine sw_cond rfl (fun c2 => ?_) (fun c2 => ?_)
        ·
          replace hm := ite_t (of_decide_eq_true c2) hm
          refine sw_skip ?_
          refine then_n ?_
          refine sw_seq ?_
          refine sw_block ?_
          -- region 10 header.go:70 DRAWS
          refine sw_drawN [([b2, b3] ++ zf zy27 gy27), ([b2] ++ zf zy27 gy27)] [(10, [1])] (.leaf [(0, 10), (1, 11), (2, 10), (4, 10), (3, 0), (5, 0), (6, 10), (7, 0), (8, 0), (9, 10), (10, 0)]) (by kernel_rfl) (by kernel_rfl) rfl (by kernel_rfl) ?_
          intro w17 Gw17 zw17
          refine sdz_leaf ?_
          refine dd_hn 0 rfl rfl rfl rfl (Kp.refl ([b2, b3] ++ zf zy27 gy27) w17) (fun w hS => vv_fieldAddr fa_28_2 rfl) ?_
          have B63 := (Bx.gr Fw16_6 Gw17)
          refine dd_hn 1 rfl rfl rfl rfl (Kp.refl ([b2] ++ zf zy27 gy27) w17) (fun w hS => vv_load1 (v := vy27) one_24 rfl (Bx.kp B63 hS (tk1 ((pv_0 (A := (fun x => x ≠ b3)) Fw16_3) : zy27 = 0 ∨ gy27 ≠ b3))) rfl) ?_
          refine dd_hn 0 rfl rfl rfl rfl (Kp.refl ([b2, b3] ++ zf zy27 gy27) w17) (fun w hS => vv_move rfl) ?_
          refine dd_hn 0 rfl rfl rfl rfl (Kp.refl ([b2, b3] ++ zf zy27 gy27) w17) (fun w hS => vv_move rfl) ?_
          have B64 := (Bx.gr Fw16_5 Gw17)
          have B65 := (Rd.gr Fw16_0 Gw17)
          have hb := bnd hm; clear hm; obtain ⟨x28, hx28, hm⟩ := hb
          refine dd_z [(1, b2)] rfl rfl rfl (ev_call en_69 rfl (cover_source_uint_w a24 _ _ _ _ _ _ hx28 _ B64 B65 ⟨(tk1 ((pv_1 (A := (fun x => x ≠ b2)) Fw16_1 (pv_1 (A := (fun x => x ≠ b2)) f15_b0_0 (pv_1 (A := (fun x => x ≠ b2)) f13_b0_0 (pv_1 (A := (fun x => x ≠ b2)) Fw5_1 (pv_1 (A := (fun x => x ≠ b2)) f4_b0_0 (pv_lt (A := (fun x => x ≠ b2)) lt1)))))) : zy25 = 0 ∨ gy25 ≠ b2))⟩)) ⟨fun _ => tk0, fun _ => tk0, trivial⟩ ?_
          rintro _ w18 ⟨u18_b0_0, z18_b0_0, g18_b0_0, o18_b0_0, rfl, O18_b0_0, f18_b0_0, Bk18_0, Kw18⟩
          have z66 := Kw18.size
          have lt67 := O18_b0_0.lth
          refine ⟨Kw18, ?_⟩
          have hb := bnd hm; clear hm; obtain ⟨x29, hx29, hm⟩ := hb
          refine dd_z [(1, b2)] rfl rfl rfl (ev_call en_69 rfl (cover_source_uint_w x28.2 _ _ _ _ _ _ hx29 _ Bk18_0 O18_b0_0 ⟨(tk1 ((pv_1 (A := (fun x => x ≠ b2)) f18_b0_0 (pv_1 (A := (fun x => x ≠ b2)) Fw16_1 (pv_1 (A := (fun x => x ≠ b2)) f15_b0_0 (pv_1 (A := (fun x => x ≠ b2)) f13_b0_0 (pv_1 (A := (fun x => x ≠ b2)) Fw5_1 (pv_1 (A := (fun x => x ≠ b2)) f4_b0_0 (pv_lt (A := (fun x => x ≠ b2)) lt1))))))) : z18_b0_0 = 0 ∨ g18_b0_0 ≠ b2))⟩)) ⟨fun _ => tk0, fun _ => tk0, trivial⟩ ?_
          rintro _ w19 ⟨u19_b0_0, z19_b0_0, g19_b0_0, o19_b0_0, rfl, O19_b0_0, f19_b0_0, Bk19_0, Kw19⟩
          have z68 := Kw19.size
          have lt69 := O19_b0_0.lth
          refine ⟨Kw19, ?_⟩
          have S70 := (Kp.kz (Kp.kz (Kp.refl ([b2, b3] ++ zf zy27 gy27) w17) Kw18) Kw19)
          refine dd_hn 0 rfl rfl rfl rfl S70 (fun w hS => vv_build (cs := TPoint.cs (TPoint.mk x28.1 x29.1)) bs_72 rfl rfl) ?_
          refine dd_z [] rfl rfl rfl (ev_litT [(TPoint.mk x28.1 x29.1)] TPoint.cs bsl_24_1 rfl rfl (ws_of rfl) rfl rfl rfl) ⟨fun _ => tk0, fun _ => tk0, trivial⟩ ?_
          rintro vw20 w20 ⟨gw20, hbw20, Ow20, Gw20⟩
          have z71 := Gw20.size
          have lt72 := Ow20.lth
          refine ⟨Kz.ofGr Gw20, ?_⟩
          have B73 := (Own.gr (Own.kz (Own.kz (Own.gr Fw16_2 Gw17) Kw18 (tk1 ((pv_0 (A := (fun x => x ≠ b2)) Fw16_3) : zy27 = 0 ∨ gy27 ≠ b2))) Kw19 (tk1 ((pv_0 (A := (fun x => x ≠ b2)) Fw16_3) : zy27 = 0 ∨ gy27 ≠ b2))) Gw20)
          have hb := bnd hm; clear hm; obtain ⟨l30, hl30, hm⟩ := hb
          refine dd_z [(zy27, gy27)] rfl rfl rfl (ev_appT (l := a26) (m := [(TPoint.mk x28.1 x29.1)]) (c := TPoint.cs) apt_24 rfl rfl B73 (Own.rd Ow20) hl30 (by decide)) ⟨fun _ => (tk1 (tk0 : zy27 = 0 ∨ (gy27 = gy27 ∧ zy27 ≠ 0) ∨ w17.heap.size ≤ gy27)), fun _ => (tk1 (tk0 : zy27 = 0 ∨ (gy27 = gy27 ∧ zy27 ≠ 0) ∨ w17.heap.size ≤ gy27)), trivial⟩ ?_
          rintro vw21 w21 ⟨zw21, gw21, Ow21, Aw21, qw21, rw21⟩
          have z74 := Aw21.size
          refine ⟨Kz.ofKa Aw21, ?_⟩
          have S75 := (Kp.ka (Kp.gr S70 Gw20) Aw21 (tk1 (tk0 : zy27 = 0 ∨ (gy27 = gy27 ∧ zy27 ≠ 0) ∨ w17.heap.size ≤ gy27)))
          refine dd_hn 0 rfl rfl rfl rfl S75 (fun w hS => vv_fieldAddr fa_28_2 rfl) ?_
          have B76 := (Bx.ka (Bx.gr (Bx.kz (Bx.kz B63 Kw18) Kw19) Gw20) Aw21 (tk1 ((pv_0 (A := (fun x => x ≠ b3)) Fw16_3) : zy27 = 0 ∨ gy27 ≠ b3)))
          refine dd_z [(1, b3)] rfl rfl rfl (ev_st1 (cs' := THeader.cs (THeader.mk a10 x16.1 l30 k0 k0) vy11 vw21) (one_24).siz rfl rfl (Own.oneB Ow21) B76 rfl rfl) ⟨fun _ => tk0, nofun, trivial⟩ ?_
          rintro _ w22 ⟨Bw22, Mw22⟩
          have z77 := Mw22.size
          refine ⟨Kz.ofMd Mw22, ?_⟩
          refine sd_nil ?_
          refine block_n ?_
          refine then_n ?_
          -- region 11 header.go:69
          refine sw_region [(0, 0), (1, 0)] rfl rfl rfl ?_
          refine sd_vv rfl rfl rfl (vv_add (k := .i64) (a := a23) (b := 1) rfl rfl) ?_
          refine sd_vv rfl rfl rfl (vv_move rfl) ?_
          refine sd_nil ?_
          have K_78 : Kz [(1, b2), (1, b3)] w15 w22 := (Kz.md (Kz.ka (Kz.gr (Kz.kz (Kz.kz (Kz.gr Kw16 Gw17) Kw18) Kw19) Gw20) Aw21 (tk1 ((pv_0 (A := (fun x => w15.heap.size ≤ x)) Fw16_3) : zy27 = 0 ∨ w15.heap.size ≤ gy27))) Mw22)
          have B79 := (Rd.md (Rd.ka (Rd.gr O19_b0_0 Gw20) Aw21 (tk1 ((pv_1 (A := (fun x => zy27 = 0 ∨ x ≠ gy27)) f19_b0_0 (pv_1 (A := (fun x => zy27 = 0 ∨ x ≠ gy27)) f18_b0_0 (tk1 Fw16_4.o) (fun x hx => (tk1 lt60.o))) (fun x hx => (tk1 lt60.o))) : z19_b0_0 = 0 ∨ zy27 = 0 ∨ g19_b0_0 ≠ gy27))) Mw22 (tk1 ((pv_1 (A := (fun x => x ≠ b3)) f19_b0_0 (pv_1 (A := (fun x => x ≠ b3)) f18_b0_0 (pv_1 (A := (fun x => x ≠ b3)) Fw16_1 (pv_1 (A := (fun x => x ≠ b3)) f15_b0_0 (pv_1 (A := (fun x => x ≠ b3)) f13_b0_0 (pv_1 (A := (fun x => x ≠ b3)) Fw5_1 (pv_1 (A := (fun x => x ≠ b3)) f4_b0_0 (pv_lt (A := (fun x => x ≠ b3)) lt1)))))))) : z19_b0_0 = 0 ∨ g19_b0_0 ≠ b3)))
          have B80 := (Own.md Ow21 Mw22 (tk1 ((pv_app (A := (fun x => x ≠ b3)) rw21 (pv_0 (A := (fun x => x ≠ b3)) Fw16_3)) : zw21 = 0 ∨ gw21 ≠ b3)))
          have B81 := (Bx.md (Bx.ka (Bx.gr Bk19_0 Gw20) Aw21 (tk1 ((pv_0 (A := (fun x => x ≠ b2)) Fw16_3) : zy27 = 0 ∨ gy27 ≠ b2))) Mw22)
          subst hrec2
          refine ⟨rfl, ⟨n2, w64 (a23 + 1), x29.2, l30, u19_b0_0, z19_b0_0, g19_b0_0, o19_b0_0, vw21, zw21, gw21⟩, ?_, ⟨hm, B79, ⟨(pv_1 (A := (fun x => (x = g15_b0_0 ∧ z15_b0_0 ≠ 0) ∨ w15.heap.size ≤ x)) f19_b0_0 (pv_1 (A := (fun x => (x = g15_b0_0 ∧ z15_b0_0 ≠ 0) ∨ w15.heap.size ≤ x)) f18_b0_0 (pv_1 (A := (fun x => (x = g15_b0_0 ∧ z15_b0_0 ≠ 0) ∨ w15.heap.size ≤ x)) Fw16_1 tk0)))⟩, B80, ⟨(pv_app (A := (fun x => w15.heap.size ≤ x)) rw21 (pv_0 (A := (fun x => w15.heap.size ≤ x)) Fw16_3))⟩, ⟨(pv_app (A := (fun x => z19_b0_0 = 0 ∨ x ≠ g19_b0_0)) rw21 (pv_sw (pv_1 (A := (fun x => zy27 = 0 ∨ x ≠ gy27)) f19_b0_0 (pv_1 (A := (fun x => zy27 = 0 ∨ x ≠ gy27)) f18_b0_0 (tk1 Fw16_4.o) (fun x hx => (tk1 lt60.o))) (fun x hx => (tk1 lt60.o)))) (fun x hx => (tk1 lt69.o)))⟩, B81, Bw22, K_78⟩, Nat.lt_succ_self _⟩
          repeat' first | exact trivial | refine ⟨rfl, ?_⟩
        ·
          replace hm := ite_f (of_decide_eq_false c2) hm
          refine sw_exit ?_
          refine then_x ?_
          refine then_x ?_
          refine block_x ?_
          refine then_n ?_
          refine sw_seq ?_
          -- region 12 header.go:72
          refine sw_region [(0, 0), (1, 0), (2, 0), (3, 0), (4, 0), (5, 0), (6, 0), (7, 0)] rfl rfl rfl ?_
          refine sd_vv rfl rfl rfl (vv_move rfl) ?_
          have hb := bnd hm; clear hm; obtain ⟨x31, hx31, hm⟩ := hb
          refine sd_ev rfl rfl rfl (ev_call en_68 rfl (cover_source_key_w a24 _ _ _ _ _ _ hx31 _ Fw16_5 Fw16_0 ⟨(tk1 ((pv_1 (A := (fun x => x ≠ b2)) Fw16_1 (pv_1 (A := (fun x => x ≠ b2)) f15_b0_0 (pv_1 (A := (fun x => x ≠ b2)) f13_b0_0 (pv_1 (A := (fun x => x ≠ b2)) Fw5_1 (pv_1 (A := (fun x => x ≠ b2)) f4_b0_0 (pv_lt (A := (fun x => x ≠ b2)) lt1)))))) : zy25 = 0 ∨ gy25 ≠ b2))⟩)) ?_
          rintro _ w23 ⟨u23_b0_0, z23_b0_0, g23_b0_0, o23_b0_0, rfl, O23_b0_0, f23_b0_0, Bk23_0, Kw23⟩
          have z82 := Kw23.size
          have lt83 := O23_b0_0.lth
          refine sd_vv rfl rfl rfl (vv_move rfl) ?_
          have hb := bnd hm; clear hm; obtain ⟨x32, hx32, hm⟩ := hb
          refine sd_ev rfl rfl rfl (ev_call en_68 rfl (cover_source_key_w x31.2 _ _ _ _ _ _ hx32 _ Bk23_0 O23_b0_0 ⟨(tk1 ((pv_1 (A := (fun x => x ≠ b2)) f23_b0_0 (pv_1 (A := (fun x => x ≠ b2)) Fw16_1 (pv_1 (A := (fun x => x ≠ b2)) f15_b0_0 (pv_1 (A := (fun x => x ≠ b2)) f13_b0_0 (pv_1 (A := (fun x => x ≠ b2)) Fw5_1 (pv_1 (A := (fun x => x ≠ b2)) f4_b0_0 (pv_lt (A := (fun x => x ≠ b2)) lt1))))))) : z23_b0_0 = 0 ∨ g23_b0_0 ≠ b2))⟩)) ?_
          rintro _ w24 ⟨u24_b0_0, z24_b0_0, g24_b0_0, o24_b0_0, rfl, O24_b0_0, f24_b0_0, Bk24_0, Kw24⟩
          have z84 := Kw24.size
          have lt85 := O24_b0_0.lth
          refine sd_vv rfl rfl rfl (vv_fieldAddr fa_28_3 rfl) ?_
          have B86 := (Bx.kz (Bx.kz Fw16_6 Kw23) Kw24)
          refine sd_ev rfl rfl rfl (ev_stM (cs' := THeader.cs (THeader.mk a10 x16.1 a26 x31.1 k0) vy11 vy27) (vs := kb x31.1) (agg_26).siz rfl rfl rfl rfl rfl B86 rfl rfl) ?_
          rintro _ w25 ⟨Bw25, Mw25⟩
          have z87 := Mw25.size
          refine sd_vv rfl rfl rfl (vv_fieldAddr fa_28_4 rfl) ?_
          refine sd_ev rfl rfl rfl (ev_stM (cs' := THeader.cs (THeader.mk a10 x16.1 a26 x31.1 x32.1) vy11 vy27) (vs := kb x32.1) (agg_26).siz rfl rfl rfl rfl rfl Bw25 rfl rfl) ?_
          rintro _ w26 ⟨Bw26, Mw26⟩
          have z88 := Mw26.size
          refine sd_done ?_
          refine sw_seq ?_
          refine sw_seq ?_
          -- region 13 header.go:73
          refine sw_region [(0, 0), (1, 0), (2, 0), (3, 0), (4, 0), (5, 0), (6, 0)] rfl rfl rfl ?_
          refine sd_vv rfl rfl rfl (vv_loadW agg_28 rfl Bw26 rfl) ?_
          have B89 := (Own.md (Own.md (Own.kz (Own.kz (Own.kz B56 Kw16 (tk2 ((pv_0 (A := (fun x => x ≠ b2)) Fw5_3) : zy11 = 0 ∨ gy11 ≠ b2) ((pv_0 (A := (fun x => x ≠ b3)) Fw5_3) : zy11 = 0 ∨ gy11 ≠ b3))) Kw23 (tk1 ((pv_0 (A := (fun x => x ≠ b2)) Fw5_3) : zy11 = 0 ∨ gy11 ≠ b2))) Kw24 (tk1 ((pv_0 (A := (fun x => x ≠ b2)) Fw5_3) : zy11 = 0 ∨ gy11 ≠ b2))) Mw25 (tk1 ((pv_0 (A := (fun x => x ≠ b3)) Fw5_3) : zy11 = 0 ∨ gy11 ≠ b3))) Mw26 (tk1 ((pv_0 (A := (fun x => x ≠ b3)) Fw5_3) : zy11 = 0 ∨ gy11 ≠ b3)))
          have B90 := (Own.md (Own.md (Own.kz (Own.kz Fw16_2 Kw23 (tk1 ((pv_0 (A := (fun x => x ≠ b2)) Fw16_3) : zy27 = 0 ∨ gy27 ≠ b2))) Kw24 (tk1 ((pv_0 (A := (fun x => x ≠ b2)) Fw16_3) : zy27 = 0 ∨ gy27 ≠ b2))) Mw25 (tk1 ((pv_0 (A := (fun x => x ≠ b3)) Fw16_3) : zy27 = 0 ∨ gy27 ≠ b3))) Mw26 (tk1 ((pv_0 (A := (fun x => x ≠ b3)) Fw16_3) : zy27 = 0 ∨ gy27 ≠ b3)))
          have hb := bnd hm; clear hm; obtain ⟨x33, hx33, hm⟩ := hb
          refine sd_ev rfl rfl rfl (ev_call en_23 rfl (cover_Encode_w (THeader.mk a10 x16.1 a26 x31.1 x32.1) _ _ _ _ _ _ _ _ _ hx33 _ (Own.rd B89) (Own.rd B90))) ?_
          rintro _ w27 ⟨u27_r0_s, z27_r0_s, g27_r0_s, rfl, O27_r0_s, f27_r0_s, Gw27⟩
          have z91 := Gw27.size
          have lt92 := O27_r0_s.lth
          refine sd_vv rfl rfl rfl (vv_move rfl) ?_
          refine sd_vv rfl rfl rfl (vv_extract rfl rfl) ?_
          refine sd_vv rfl rfl rfl (vv_extract rfl rfl) ?_
          refine sd_vv rfl rfl rfl (vv_assign rfl) ?_
          refine sd_vv rfl rfl rfl (vv_assign rfl) ?_
          refine sd_done ?_
          have X93 : Gr w w27 := (Gr.trans (Gr.md (Gr.md (Gr.kz (Gr.kz (Gr.kz X51 Kw16) Kw23) Kw24) Mw25) Mw26) Gw27)
          refine sw_joinD (β := Bool) [58, 59, 60, 61, 62, 63, 64, 65] (fun a34 => [(65, .bool a34)]) (fun a34 wr => (cover_Decode_J3 a10 x16 a26 x31 x32 a34 = some r) ∧ Kz [] w27 wr) ?_ ?_
          · clear hm; rintro a34 w28 ⟨hm, Kw28⟩
            have z94 := Kw28.size
            unfold cover_Decode_J3 at hm
            refine sw_cond rfl (fun c3 => ?_) (fun c3 => ?_)
            ·
              replace hm := cnd_t c3 hm
              refine sw_seq ?_
              -- region 15 header.go:74
              refine sw_region [(0, 0), (1, 0), (2, 0)] rfl rfl rfl ?_
              refine sd_vv rfl rfl rfl (vv_build (cs := THeader.cs (THeader.mk [] 0#64 [] k0 k0) (.slice none 0 0) (.slice none 0 0)) bs_28 rfl (by kernel_rfl)) ?_
              have B95 := (Bx.kz (Bx.gr (Bx.md (Bx.md (Bx.kz (Bx.kz (Bx.kz (Bx.kz (Bx.md (Bx.kz (Bx.kz (Bx.kz (Bx.gr (Bx.gr Bw1 Gw2) Gw3) Kw4) Kw5) Kw13) Mw14) Kw15) Kw16) Kw23) Kw24) Mw25) Mw26) Gw27) Kw28)
              refine sd_ev rfl rfl rfl (ev_stM (cs' := THeader.cs (THeader.mk [] 0#64 [] k0 k0) (.slice none 0 0) (.slice none 0 0)) (vs := THeader.cs (THeader.mk [] 0#64 [] k0 k0) (.slice none 0 0) (.slice none 0 0)) (agg_28).siz rfl rfl rfl rfl (THeader.cs_ones _ _ _ rfl rfl) B95 rfl rfl) ?_
              rintro _ w29 ⟨Bw29, Mw29⟩
              have z96 := Mw29.size
              refine sd_vv rfl rfl rfl (vv_assign rfl) ?_
              refine sd_done ?_
              refine sw_ret ?_
              refine then_r ?_
              have X97 : Gr w w29 := (Gr.md (Gr.kz X93 Kw28) Mw29)
              have hr := Option.some.inj hm
              subst hr
              refine ⟨_, _, rfl, res_2 rfl (rv_cellW agg_28 rfl Bw29 rfl) (rv_tmp rfl), ?_⟩
              exact ⟨(.slice none 0 0), 0, 0, (.slice none 0 0), 0, 0, rfl, (own_nil _ 0 108 18), ⟨.inl rfl⟩, (own_nil _ 0 72 2), ⟨.inl rfl⟩, ⟨(.inl rfl)⟩, X97⟩
            ·
              replace hm := cnd_f c3 hm
              refine sw_skip ?_
              refine then_n ?_
              refine sw_seq ?_
              -- region 16 header.go:76
              refine sw_region [(0, 0), (1, 0), (2, 0)] rfl rfl rfl ?_
              have B98 := (Bx.kz (Bx.gr Bw26 Gw27) Kw28)
              refine sd_vv rfl rfl rfl (vv_loadW agg_28 rfl B98 rfl) ?_
              have B99 := (Bx.kz (Bx.gr (Bx.md (Bx.md (Bx.kz (Bx.kz (Bx.kz (Bx.kz (Bx.md (Bx.kz (Bx.kz (Bx.kz (Bx.gr (Bx.gr Bw1 Gw2) Gw3) Kw4) Kw5) Kw13) Mw14) Kw15) Kw16) Kw23) Kw24) Mw25) Mw26) Gw27) Kw28)
              have B100 := (Own.kz (Own.gr B89 Gw27) Kw28)
              have B101 := (Own.kz (Own.gr B90 Gw27) Kw28)
              refine sd_ev rfl rfl rfl (ev_stM (cs' := THeader.cs (THeader.mk a10 x16.1 a26 x31.1 x32.1) vy11 vy27) (vs := THeader.cs (THeader.mk a10 x16.1 a26 x31.1 x32.1) vy11 vy27) (agg_28).siz rfl rfl rfl rfl (THeader.cs_ones _ _ _ (Own.oneB B100) (Own.oneB B101)) B99 rfl rfl) ?_
              rintro _ w30 ⟨Bw30, Mw30⟩
              have z102 := Mw30.size
              refine sd_vv rfl rfl rfl (vv_assign rfl) ?_
              refine sd_done ?_
              refine sw_ret ?_
              have B103 := (Own.md B100 Mw30 (tk1 ((pv_0 (A := (fun x => x ≠ b1)) Fw5_3) : zy11 = 0 ∨ gy11 ≠ b1)))
              have B104 := (Own.md B101 Mw30 (tk1 ((pv_0 (A := (fun x => x ≠ b1)) Fw16_3) : zy27 = 0 ∨ gy27 ≠ b1)))
              have X105 : Gr w w30 := (Gr.md (Gr.kz X93 Kw28) Mw30)
              have hr := Option.some.inj hm
              subst hr
              refine ⟨_, _, rfl, res_2 rfl (rv_cellW agg_28 rfl Bw30 rfl) (rv_tmp rfl), ?_⟩
              exact ⟨vy11, zy11, gy11, vy27, zy27, gy27, rfl, B103, ⟨(pv_0 (A := (fun x => w.heap.size ≤ x)) Fw5_3)⟩, B104, ⟨(pv_0 (A := (fun x => w.heap.size ≤ x)) Fw16_3)⟩, ⟨(pv_0 (A := (fun x => zy11 = 0 ∨ x ≠ gy11)) Fw16_3 (fun x hx => (tk1 lt18.o)))⟩, X105⟩
          ·
            -- region 14 header.go:73
            refine sw_region [(0, 0), (1, 0), (2, 0), (3, 0), (4, 0), (5, 0), (6, 0), (7, 0)] rfl rfl rfl ?_
            refine sd_vv rfl rfl rfl (vv_move rfl) ?_
            refine sd_vv rfl rfl rfl (vv_neq (a := x33.2) (b := 0) rfl rfl) ?_
            refine sd_split rfl rfl rfl (vv_move rfl) (fun c4 => ?_) (fun c4 => ?_)
            ·
              replace hm := ite_t (of_decide_eq_true c4) hm
              refine sd_skip rfl rfl rfl ?_
              refine sd_skip rfl rfl rfl ?_
              refine sd_skip rfl rfl rfl ?_
              refine sd_skip rfl rfl rfl ?_
              refine sd_vv rfl rfl rfl (vv_pickT rfl rfl) ?_
              refine sd_nil ?_
              have K_106 : Kz [] w27 w27 := (Kz.refl _ _)
              refine ⟨rfl, true, ?_, hm, K_106⟩
              repeat' first | exact trivial | refine ⟨rfl, ?_⟩
            ·
              replace hm := ite_f (of_decide_eq_false c4) hm
              refine sd_vv rfl rfl rfl (vv_move rfl) ?_
              refine sd_vv rfl rfl rfl (vv_move rfl) ?_
              have B107 := (Rd.gr (Rd.md (Rd.md (Rd.kz (Rd.kz (Rd.kz B52 Kw16 (tk2 ((pv_lt (A := (fun x => x ≠ b2)) lt1) : zp0 = 0 ∨ gp0 ≠ b2) ((pv_lt (A := (fun x => x ≠ b3)) lt1) : zp0 = 0 ∨ gp0 ≠ b3))) Kw23 (tk1 ((pv_lt (A := (fun x => x ≠ b2)) lt1) : zp0 = 0 ∨ gp0 ≠ b2))) Kw24 (tk1 ((pv_lt (A := (fun x => x ≠ b2)) lt1) : zp0 = 0 ∨ gp0 ≠ b2))) Mw25 (tk1 ((pv_lt (A := (fun x => x ≠ b3)) lt1) : zp0 = 0 ∨ gp0 ≠ b3))) Mw26 (tk1 ((pv_lt (A := (fun x => x ≠ b3)) lt1) : zp0 = 0 ∨ gp0 ≠ b3))) Gw27)
              have hb := bnd hm; clear hm; obtain ⟨x35, hx35, hm⟩ := hb
              refine sd_ev rfl rfl rfl (ev_call en_70 rfl (bytes_Equal_w x33.1 p0 _ _ _ _ _ _ _ _ _ hx35 _ (Own.rd O27_r0_s) B107)) ?_
              rintro _ w31 ⟨rfl, Gw31⟩
              have z108 := Gw31.size
              refine sd_vv rfl rfl rfl (vv_not rfl) ?_
              refine sd_vv rfl rfl rfl (vv_pickF rfl rfl) ?_
              refine sd_nil ?_
              have K_109 : Kz [] w27 w31 := (Kz.gr (Kz.refl _ _) Gw31)
              refine ⟨rfl, (!x35), ?_, hm, K_109⟩
              repeat' first | exact trivial | refine ⟨rfl, ?_⟩
end Go.Proofs.Ytecempahccgijaa.Mx
