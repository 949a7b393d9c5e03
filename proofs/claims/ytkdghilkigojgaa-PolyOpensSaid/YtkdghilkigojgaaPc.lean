/- Walks that follow mirrors: Pc. Printed by mx.py. -/
import Derived.Test.YtkdghilkigojgaaMirJ
import Derived.Test.YtkdghilkigojgaaPb
import Derived.Test.YtkdghilkigojgaaPcM
set_option linter.unusedVariables false
set_option linter.unusedSimpArgs false
set_option maxRecDepth 100000
namespace Go.Proofs.Ytkdghilkigojgaa.Mx
open Go Go.RowKit Go.Sx
theorem fa_31_0 : FA Try.prog 31 0 0 := fun _ _ _ => by kernel_rfl
theorem en_122 : En Try.prog 122 := fun _ _ => by kernel_rfl
theorem en_133 : En Try.prog 133 := fun _ _ => by kernel_rfl
theorem en_89 : En Try.prog 89 := fun _ _ => by kernel_rfl
theorem en_75 : En Try.prog 75 := fun _ _ => by kernel_rfl
theorem bsl_43_0 : BSl Try.prog 43 0 31 2 [] := bsl_nil Try.underlying43 (agg_31).siz
theorem en_121 : En Try.prog 121 := fun _ _ => by kernel_rfl
theorem fa_31_1 : FA Try.prog 31 1 1 := fun _ _ _ => by kernel_rfl
theorem en_74 : En Try.prog 74 := fun _ _ => by kernel_rfl
theorem en_77 : En Try.prog 77 := fun _ _ => by kernel_rfl
theorem cv_24_2 : CV Try.prog 24 2 .i64 := fun _ _ _ => by kernel_rfl
theorem cv_2_24 : CV Try.prog 2 24 .u64 := fun _ _ _ => by kernel_rfl
theorem en_123 : En Try.prog 123 := fun _ _ => by kernel_rfl
theorem en_78 : En Try.prog 78 := fun _ _ => by kernel_rfl
theorem en_79 : En Try.prog 79 := fun _ _ => by kernel_rfl
theorem en_80 : En Try.prog 80 := fun _ _ => by kernel_rfl
theorem en_126 : En Try.prog 126 := fun _ _ => by kernel_rfl
theorem en_125 : En Try.prog 125 := fun _ _ => by kernel_rfl
theorem en_82 : En Try.prog 82 := fun _ _ => by kernel_rfl
theorem en_127 : En Try.prog 127 := fun _ _ => by kernel_rfl
theorem en_129 : En Try.prog 129 := fun _ _ => by kernel_rfl
theorem en_130 : En Try.prog 130 := fun _ _ => by kernel_rfl
theorem en_128 : En Try.prog 128 := fun _ _ => by kernel_rfl
theorem cv_24_5 : CV Try.prog 24 5 .u8 := fun _ _ _ => by kernel_rfl
theorem zv_5 : ZV Try.prog 5 (.int .u8 0) := fun _ => by kernel_rfl
theorem bsl_105_1 : BSl Try.prog 105 1 5 1 [.int .u8 0] := bsl_mk Try.underlying105 (one_5).siz zv_5 rfl rfl (by kernel_rfl)
theorem apt_105 : ApT Try.prog 105 5 1 1 := apt_mk Try.underlying105 rfl (by kernel_rfl)
theorem en_149 : En Try.prog 149 := fun _ _ => by kernel_rfl
theorem en_148 : En Try.prog 148 := fun _ _ => by kernel_rfl
theorem en_131 : En Try.prog 131 := fun _ _ => by kernel_rfl
theorem en_83 : En Try.prog 83 := fun _ _ => by kernel_rfl
theorem apt_29 : ApT Try.prog 29 88 18 32 := apt_mk Try.underlying29 rfl (by kernel_rfl)
theorem apt_42 : ApT Try.prog 42 131 18 32 := apt_mk Try.underlying42 rfl (by kernel_rfl)

set_option maxHeartbeats 2000000 in
theorem poly_distinct_1_w (p0 : TPoint) (p1 : TPoint) (bp1 : Nat) (r : Bool) (hm : poly_distinct_1 p0 p1 = some r) (w : World) (hbp1 : Bx w bp1 31 (TPoint.cs p1))  :
    Calls Try.prog 122 [.agg (TPoint.cs p0).toArray, .pointer (some ⟨bp1, 0, none⟩)].toArray w fun e w' => ∃ v, e = .returned v ∧ (v = .bool r ∧ Gr w w') := by
  have lt1 := hbp1.lt
  unfold poly_distinct_1 at hm
  refine calls_of_sw (R := fun v w' => v = .bool r ∧ Gr w w') 9 Try.func122 rfl rfl rfl ?_
  refine sw_seq ?_
  -- region 0 poly.go:90
  refine sw_region [(0, 0), (1, 0)] rfl rfl rfl ?_
  refine sd_ev rfl rfl rfl (ev_box (cs := TPoint.cs p0) rfl rfl) ?_
  rintro _ w1 ⟨b1, rfl, hbw1, Bw1, Gw1⟩
  have z2 := Gw1.size
  have lt3 := Bw1.lt
  refine sd_vv rfl rfl rfl (vv_assign rfl) ?_
  refine sd_done ?_
  refine sw_seq ?_
  -- region 1 poly.go:90
  refine sw_region [(0, 0), (1, 0), (2, 0), (3, 0), (4, 0), (5, 0)] rfl rfl rfl ?_
  refine sd_vv rfl rfl rfl (vv_fieldAddr fa_31_0 rfl) ?_
  refine sd_vv rfl rfl rfl (vv_load1 (v := wv p0.X) one_24 rfl Bw1 rfl) ?_
  refine sd_vv rfl rfl rfl (vv_fieldAddr fa_31_0 rfl) ?_
  have B4 := (Bx.gr hbp1 Gw1)
  refine sd_vv rfl rfl rfl (vv_load1 (v := wv p1.X) one_24 rfl B4 rfl) ?_
  refine sd_vv rfl rfl rfl (vv_eqlU (c := p0.X) (d := p1.X) rfl rfl) ?_
  refine sd_vv rfl rfl rfl (vv_assign rfl) ?_
  refine sd_done ?_
  refine sw_ret ?_
  have X5 : Gr w w1 := (Gr.trans (Gr.refl w) Gw1)
  have hr := Option.some.inj hm
  subst hr
  refine ⟨_, _, rfl, res_1 rfl (rv_tmp rfl), ?_⟩
  exact ⟨rfl, X5⟩

set_option maxHeartbeats 2000000 in
theorem slices_IndexFunc_7a5d_poly_distinct_1_w (p0 : List TPoint) (p1_0 : TPoint) (vp0 : Value) (zp0 gp0 op0 : Nat) (bp1_0 : Nat) (r : Int) (hm : slices_IndexFunc_7a5d_poly_distinct_1 p0 p1_0 = some r) (w : World) (hp0 : Rd w zp0 gp0 op0 2 vp0 (p0.map TPoint.cs)) (hbp1_0 : Bx w bp1_0 31 (TPoint.cs p1_0))  :
    Calls Try.prog 133 [vp0, .func (.func 122) [].toArray [.pointer (some ⟨bp1_0, 0, none⟩)].toArray].toArray w fun e w' => ∃ v, e = .returned v ∧ (v = .int .i64 r ∧ Gr w w') := by
  have lt1 := hp0.lth
  have lt2 := hbp1_0.lt
  unfold slices_IndexFunc_7a5d_poly_distinct_1 at hm
  refine calls_of_sw (R := fun v w' => v = .int .i64 r ∧ Gr w w') 19 Try.func133 rfl rfl rfl ?_
  refine sw_seq ?_
  -- region 0 slices.go:107
  refine sw_region [(0, 0)] rfl rfl rfl ?_
  refine sd_vv rfl rfl rfl (vv_assign rfl) ?_
  refine sd_done ?_
  refine sw_seq ?_
  refine sw_seq ?_
  -- region 1 slices.go:108
  refine sw_region [(0, 0), (1, 0), (2, 0)] rfl rfl rfl ?_
  refine sd_vv rfl rfl rfl (vv_move rfl) ?_
  refine sd_vv rfl rfl rfl (vv_lenT (l := p0) (c := TPoint.cs) Try.underlying43 rfl hp0) ?_
  refine sd_vv rfl rfl rfl (vv_move rfl) ?_
  refine sd_done ?_
  refine sw_block ?_
  refine sw_loopD (α := Nat × Int) [4, 5, 8, 9, 10, 11, 12, 13, 14, 15, 16, 17, 18] (fun ⟨n1, a2⟩ => [(4, .int .i64 0), (8, .int .i64 a2)]) (fun ⟨n1, a2⟩ wr => (fixN (slices_IndexFunc_7a5d_poly_distinct_1_L1 p0 p1_0) n1 a2 = some r) ∧ Kz [] w wr) (fun ⟨n1, a2⟩ => n1) ⟨FUEL, 0⟩ ?_ ?_ ?_
  · repeat' first | exact trivial | refine ⟨rfl, ?_⟩
  · exact ⟨hm, Kz.refl _ _⟩
  · clear hm; rintro ⟨n1, a2⟩ w1 ⟨hm, Kw1⟩
    have z3 := Kw1.size
    have hb := fix_succ hm; clear hm; obtain ⟨n1, rfl, hm⟩ := hb
    generalize hrec1 : fixN (slices_IndexFunc_7a5d_poly_distinct_1_L1 p0 p1_0) n1 = rec1 at hm
    unfold slices_IndexFunc_7a5d_poly_distinct_1_L1 at hm
    try dsimp only at hm
    refine sw_seq ?_
    -- region 2 slices.go:108
    refine sw_region [(0, 0)] rfl rfl rfl ?_
    refine sd_vv rfl rfl rfl (vv_lss (a := a2) (b := (p0.length : Int)) rfl rfl) ?_
    refine sd_done ?_
    refine sw_seq ?_
    refine sw_cond rfl (fun c1 => ?_) (fun c1 => ?_)
    ·
      replace hm := ite_t (of_decide_eq_true c1) hm
      refine sw_skip ?_
      refine then_n ?_
      refine sw_seq ?_
      refine sw_block ?_
      refine sw_seq ?_
      -- region 3 slices.go:108
      refine sw_region [(0, 0), (1, 0)] rfl rfl rfl ?_
      refine sd_vv rfl rfl rfl (vv_move rfl) ?_
      refine sd_vv rfl rfl rfl (vv_assign rfl) ?_
      refine sd_done ?_
      refine sw_seq ?_
      -- region 4 slices.go:109
      refine sw_region [(0, 0), (1, 0), (2, 0), (3, 0), (4, 0), (5, 0)] rfl rfl rfl ?_
      refine sd_vv rfl rfl rfl (vv_move rfl) ?_
      refine sd_vv rfl rfl rfl (vv_move rfl) ?_
      refine sd_vv rfl rfl rfl (vv_move rfl) ?_
      have hb := bnd hm; clear hm; obtain ⟨y3, hy3, hm⟩ := hb
      have B4 := (Rd.kz hp0 Kw1)
      refine sd_vv rfl rfl rfl (vv_ixT (i := a2) Try.underlying43 (agg_31).siz rfl B4 rfl hy3) ?_
      refine sd_vv rfl rfl rfl (vv_elWT agg_31 rfl B4 hy3 (by first | rfl | omega)) ?_
      have B5 := (Bx.kz hbp1_0 Kw1)
      have hb := bnd hm; clear hm; obtain ⟨x4, hx4, hm⟩ := hb
      refine sd_ev rfl rfl rfl (ev_callV en_122 rfl rfl (poly_distinct_1_w y3 p1_0 _ _ hx4 _ B5)) ?_
      rintro _ w2 ⟨rfl, Gw2⟩
      have z6 := Gw2.size
      refine sd_done ?_
      refine sw_cond rfl (fun c2 => ?_) (fun c2 => ?_)
      ·
        replace hm := cnd_t c2 hm
        refine sw_seq ?_
        -- region 5 slices.go:110
        refine sw_region [(0, 0), (1, 0)] rfl rfl rfl ?_
        refine sd_vv rfl rfl rfl (vv_move rfl) ?_
        refine sd_vv rfl rfl rfl (vv_assign rfl) ?_
        refine sd_done ?_
        refine sw_ret ?_
        refine block_r ?_
        refine then_r ?_
        refine then_r ?_
        refine block_r ?_
        refine then_r ?_
        have X7 : Gr w w2 := (Gr.trans (Gr.kz (Gr.refl w) Kw1) Gw2)
        have hr := Option.some.inj hm
        subst hr
        refine ⟨_, _, rfl, res_1 rfl (rv_tmp rfl), ?_⟩
        exact ⟨rfl, X7⟩
      ·
        replace hm := cnd_f c2 hm
        refine sw_skip ?_
        refine block_n ?_
        refine then_n ?_
        -- region 6 slices.go:108
        refine sw_region [(0, 0), (1, 0)] rfl rfl rfl ?_
        refine sd_vv rfl rfl rfl (vv_add (k := .i64) (a := a2) (b := 1) rfl rfl) ?_
        refine sd_vv rfl rfl rfl (vv_move rfl) ?_
        refine sd_nil ?_
        have K_8 : Kz [] w w2 := (Kz.gr Kw1 Gw2)
        subst hrec1
        refine ⟨rfl, ⟨n1, w64 (a2 + 1)⟩, ?_, ⟨hm, K_8⟩, Nat.lt_succ_self _⟩
        repeat' first | exact trivial | refine ⟨rfl, ?_⟩
    ·
      replace hm := ite_f (of_decide_eq_false c1) hm
      refine sw_exit ?_
      refine then_x ?_
      refine then_x ?_
      refine block_x ?_
      refine then_n ?_
      refine sw_seq ?_
      -- region 7 slices.go:113
      refine sw_region [(0, 0)] rfl rfl rfl ?_
      refine sd_vv rfl rfl rfl (vv_assign rfl) ?_
      refine sd_done ?_
      refine sw_ret ?_
      have X9 : Gr w w1 := (Gr.kz (Gr.refl w) Kw1)
      have hr := Option.some.inj hm
      subst hr
      refine ⟨_, _, rfl, res_1 rfl (rv_tmp rfl), ?_⟩
      exact ⟨rfl, X9⟩

set_option maxHeartbeats 2000000 in
theorem slices_ContainsFunc_9e39_poly_distinct_1_w (p0 : List TPoint) (p1_0 : TPoint) (vp0 : Value) (zp0 gp0 op0 : Nat) (bp1_0 : Nat) (r : Bool) (hm : slices_ContainsFunc_9e39_poly_distinct_1 p0 p1_0 = some r) (w : World) (hp0 : Rd w zp0 gp0 op0 2 vp0 (p0.map TPoint.cs)) (hbp1_0 : Bx w bp1_0 31 (TPoint.cs p1_0))  :
    Calls Try.prog 89 [vp0, .func (.func 122) [].toArray [.pointer (some ⟨bp1_0, 0, none⟩)].toArray].toArray w fun e w' => ∃ v, e = .returned v ∧ (v = .bool r ∧ Gr w w') := by
  have lt1 := hp0.lth
  have lt2 := hbp1_0.lt
  unfold slices_ContainsFunc_9e39_poly_distinct_1 at hm
  refine calls_of_sw (R := fun v w' => v = .bool r ∧ Gr w w') 9 Try.func89 rfl rfl rfl ?_
  refine sw_seq ?_
  -- region 0 slices.go:124
  refine sw_region [(0, 0)] rfl rfl rfl ?_
  refine sd_vv rfl rfl rfl (vv_assign rfl) ?_
  refine sd_done ?_
  refine sw_seq ?_
  -- region 1 slices.go:125
  refine sw_region [(0, 0), (1, 0), (2, 0), (3, 0), (4, 0)] rfl rfl rfl ?_
  refine sd_vv rfl rfl rfl (vv_move rfl) ?_
  refine sd_vv rfl rfl rfl (vv_move rfl) ?_
  have hb := bnd hm; clear hm; obtain ⟨x1, hx1, hm⟩ := hb
  refine sd_ev rfl rfl rfl (ev_call en_133 rfl (slices_IndexFunc_7a5d_poly_distinct_1_w p0 p1_0 _ _ _ _ _ _ hx1 _ hp0 hbp1_0)) ?_
  rintro _ w1 ⟨rfl, Gw1⟩
  have z3 := Gw1.size
  refine sd_vv rfl rfl rfl (vv_geq (a := x1) (b := 0) rfl rfl) ?_
  refine sd_vv rfl rfl rfl (vv_assign rfl) ?_
  refine sd_done ?_
  refine sw_ret ?_
  have X4 : Gr w w1 := (Gr.trans (Gr.refl w) Gw1)
  have hr := Option.some.inj hm
  subst hr
  refine ⟨_, _, rfl, res_1 rfl (rv_tmp rfl), ?_⟩
  exact ⟨rfl, X4⟩

set_option maxHeartbeats 2000000 in
theorem poly_distinct_w (p0 : List TPoint) (vp0 : Value) (zp0 gp0 op0 : Nat) (r : Bool) (hm : poly_distinct p0 = some r) (w : World) (hp0 : Rd w zp0 gp0 op0 2 vp0 (p0.map TPoint.cs))  :
    Calls Try.prog 75 [vp0].toArray w fun e w' => ∃ v, e = .returned v ∧ (v = .bool r ∧ Gr w w') := by
  have lt1 := hp0.lth
  unfold poly_distinct at hm
  refine calls_of_sw (R := fun v w' => v = .bool r ∧ Gr w w') 18 Try.func75 rfl rfl rfl ?_
  refine sw_seq ?_
  -- region 0 poly.go:88
  refine sw_region [(0, 0)] rfl rfl rfl ?_
  refine sd_vv rfl rfl rfl (vv_assign rfl) ?_
  refine sd_done ?_
  refine sw_seq ?_
  refine sw_seq ?_
  -- region 1 poly.go:89
  refine sw_region [(0, 0), (1, 0), (2, 0)] rfl rfl rfl ?_
  refine sd_vv rfl rfl rfl (vv_move rfl) ?_
  refine sd_vv rfl rfl rfl (vv_lenT (l := p0) (c := TPoint.cs) Try.underlying43 rfl hp0) ?_
  refine sd_vv rfl rfl rfl (vv_move rfl) ?_
  refine sd_done ?_
  refine sw_block ?_
  refine sw_loopD (α := Nat × Int) [2, 3, 4, 7, 8, 9, 10, 11, 12, 13, 14, 15, 16, 17] (fun ⟨n1, a2⟩ => [(2, .bool false), (7, .int .i64 a2)]) (fun ⟨n1, a2⟩ wr => (fixN (poly_distinct_L1 p0) n1 a2 = some r) ∧ Kz [] w wr) (fun ⟨n1, a2⟩ => n1) ⟨FUEL, 0⟩ ?_ ?_ ?_
  · repeat' first | exact trivial | refine ⟨rfl, ?_⟩
  · exact ⟨hm, Kz.refl _ _⟩
  · clear hm; rintro ⟨n1, a2⟩ w1 ⟨hm, Kw1⟩
    have z2 := Kw1.size
    have hb := fix_succ hm; clear hm; obtain ⟨n1, rfl, hm⟩ := hb
    generalize hrec1 : fixN (poly_distinct_L1 p0) n1 = rec1 at hm
    unfold poly_distinct_L1 at hm
    try dsimp only at hm
    refine sw_seq ?_
    -- region 2 poly.go:89
    refine sw_region [(0, 0)] rfl rfl rfl ?_
    refine sd_vv rfl rfl rfl (vv_lss (a := a2) (b := (p0.length : Int)) rfl rfl) ?_
    refine sd_done ?_
    refine sw_seq ?_
    refine sw_cond rfl (fun c1 => ?_) (fun c1 => ?_)
    ·
      replace hm := ite_t (of_decide_eq_true c1) hm
      refine sw_skip ?_
      refine then_n ?_
      refine sw_seq ?_
      refine sw_block ?_
      refine sw_seq ?_
      -- region 3 poly.go:89
      refine sw_region [(0, 0), (1, 0), (2, 0), (3, 0), (4, 0), (5, 0)] rfl rfl rfl ?_
      refine sd_vv rfl rfl rfl (vv_move rfl) ?_
      have hb := bnd hm; clear hm; obtain ⟨y3, hy3, hm⟩ := hb
      have B3 := (Rd.kz hp0 Kw1)
      refine sd_vv rfl rfl rfl (vv_ixT (i := a2) Try.underlying43 (agg_31).siz rfl B3 rfl hy3) ?_
      refine sd_vv rfl rfl rfl (vv_elWT agg_31 rfl B3 hy3 (by first | rfl | omega)) ?_
      refine sd_ev rfl rfl rfl (ev_alloc (cs := TPoint.cs (TPoint.mk 0#64 0#64)) zv_31 rfl) ?_
      rintro _ w2 ⟨b2, rfl, hbw2, Bw2, Gw2⟩
      have z4 := Gw2.size
      have lt5 := Bw2.lt
      refine sd_vv rfl rfl rfl (vv_assign rfl) ?_
      refine sd_ev rfl rfl rfl (ev_stM (cs' := TPoint.cs y3) (vs := TPoint.cs y3) (agg_31).siz rfl rfl rfl rfl rfl Bw2 rfl rfl) ?_
      rintro _ w3 ⟨Bw3, Mw3⟩
      have z6 := Mw3.size
      refine sd_done ?_
      refine sw_seq ?_
      -- region 4 poly.go:90
      refine sw_region [(0, 0), (1, 0), (2, 0), (3, 0), (4, 0)] rfl rfl rfl ?_
      refine sd_vv rfl rfl rfl (vv_move rfl) ?_
      refine sd_vv rfl rfl rfl (vv_move rfl) ?_
      have hb := bnd hm; clear hm; obtain ⟨l4, hl4, hm⟩ := hb
      have B7 := (Rd.md (Rd.gr B3 Gw2) Mw3 (tk1 ((pv_lt (A := (fun x => x ≠ b2)) lt1) : zp0 = 0 ∨ gp0 ≠ b2)))
      refine sd_sli rfl rfl rfl (vv_sliT (P := Try.prog) (lo := 0) (hi := a2) (l := p0) (c := TPoint.cs) Try.underlying43 (agg_31).siz rfl B7 rfl ⟨_, rfl⟩ hl4) ?_
      rintro v8 o8 R8
      have lt9 := R8.lth
      refine sd_vv rfl rfl rfl (vv_makeFunc rfl rfl) ?_
      have hb := bnd hm; clear hm; obtain ⟨x5, hx5, hm⟩ := hb
      refine sd_ev rfl rfl rfl (ev_call en_89 rfl (slices_ContainsFunc_9e39_poly_distinct_1_w l4 y3 _ _ _ _ _ _ hx5 _ R8 Bw3)) ?_
      rintro _ w4 ⟨rfl, Gw4⟩
      have z10 := Gw4.size
      refine sd_done ?_
      refine sw_cond rfl (fun c2 => ?_) (fun c2 => ?_)
      ·
        replace hm := cnd_t c2 hm
        refine sw_seq ?_
        -- region 5 poly.go:91
        refine sw_region [(0, 0)] rfl rfl rfl ?_
        refine sd_vv rfl rfl rfl (vv_assign rfl) ?_
        refine sd_done ?_
        refine sw_ret ?_
        refine block_r ?_
        refine then_r ?_
        refine then_r ?_
        refine block_r ?_
        refine then_r ?_
        have X11 : Gr w w4 := (Gr.trans (Gr.md (Gr.trans (Gr.kz (Gr.refl w) Kw1) Gw2) Mw3) Gw4)
        have hr := Option.some.inj hm
        subst hr
        refine ⟨_, _, rfl, res_1 rfl (rv_tmp rfl), ?_⟩
        exact ⟨rfl, X11⟩
      ·
        replace hm := cnd_f c2 hm
        refine sw_skip ?_
        refine block_n ?_
        refine then_n ?_
        -- region 6 poly.go:89
        refine sw_region [(0, 0), (1, 0)] rfl rfl rfl ?_
        refine sd_vv rfl rfl rfl (vv_add (k := .i64) (a := a2) (b := 1) rfl rfl) ?_
        refine sd_vv rfl rfl rfl (vv_move rfl) ?_
        refine sd_nil ?_
        have K_12 : Kz [] w w4 := (Kz.gr (Kz.md (Kz.gr Kw1 Gw2) Mw3) Gw4)
        subst hrec1
        refine ⟨rfl, ⟨n1, w64 (a2 + 1)⟩, ?_, ⟨hm, K_12⟩, Nat.lt_succ_self _⟩
        repeat' first | exact trivial | refine ⟨rfl, ?_⟩
    ·
      replace hm := ite_f (of_decide_eq_false c1) hm
      refine sw_exit ?_
      refine then_x ?_
      refine then_x ?_
      refine block_x ?_
      refine then_n ?_
      refine sw_seq ?_
      -- region 7 poly.go:94
      refine sw_region [(0, 0)] rfl rfl rfl ?_
      refine sd_vv rfl rfl rfl (vv_assign rfl) ?_
      refine sd_done ?_
      refine sw_ret ?_
      have X13 : Gr w w1 := (Gr.kz (Gr.refl w) Kw1)
      have hr := Option.some.inj hm
      subst hr
      refine ⟨_, _, rfl, res_1 rfl (rv_tmp rfl), ?_⟩
      exact ⟨rfl, X13⟩

set_option maxHeartbeats 2000000 in
theorem slices_Clone_3bad_w (p0 : List TPoint) (vp0 : Value) (zp0 gp0 op0 : Nat) (r : List TPoint) (hm : slices_Clone_3bad p0 = some r) (w : World) (hp0 : Rd w zp0 gp0 op0 2 vp0 (p0.map TPoint.cs))  :
    Calls Try.prog 121 [vp0].toArray w fun e w' => ∃ v, e = .returned v ∧ (∃ (ur0_s : Value) (zr0_s : Nat) (gr0_s : Nat), v = ur0_s ∧ Own w' zr0_s gr0_s 31 2 ur0_s (r.map TPoint.cs) ∧ Hdn (zr0_s = 0 ∨ w.heap.size ≤ gr0_s) ∧ Gr w w') := by
  have lt1 := hp0.lth
  unfold slices_Clone_3bad at hm
  refine calls_of_sw (R := fun v w' => ∃ (ur0_s : Value) (zr0_s : Nat) (gr0_s : Nat), v = ur0_s ∧ Own w' zr0_s gr0_s 31 2 ur0_s (r.map TPoint.cs) ∧ Hdn (zr0_s = 0 ∨ w.heap.size ≤ gr0_s) ∧ Gr w w') 8 Try.func121 rfl rfl rfl ?_
  refine sw_seq ?_
  -- region 0 slices.go:355
  refine sw_region [(0, 0)] rfl rfl rfl ?_
  refine sd_vv rfl rfl rfl (vv_assign rfl) ?_
  refine sd_done ?_
  refine sw_seq ?_
  refine sw_seq ?_
  -- region 1 slices.go:357
  refine sw_region [(0, 0), (1, 0)] rfl rfl rfl ?_
  refine sd_vv rfl rfl rfl (vv_move rfl) ?_
  rcases rd_nilOr hp0 with ⟨ca2, hv2, hl2⟩ | ⟨aa2, ka2, ca2, hv2⟩
  ·
    replace hm : (some []) = some r := by rw [hl2] at hm; exact hm
    refine sd_vv rfl rfl rfl (vv_eqlNil Try.underlying43 rfl hv2) ?_
    refine sd_done ?_
    refine sw_condT rfl ?_
    refine sw_seq ?_
    -- region 2 slices.go:358
    refine sw_region [(0, 0)] rfl rfl rfl ?_
    refine sd_vv rfl rfl rfl (vv_assign rfl) ?_
    refine sd_done ?_
    refine sw_ret ?_
    refine then_r ?_
    have hr := Option.some.inj hm
    subst hr
    refine ⟨_, _, rfl, res_1 rfl (rv_tmp rfl), ?_⟩
    exact ⟨(.slice none 0 0), 0, 0, rfl, (own_nil _ 0 31 2), ⟨.inl rfl⟩, (Gr.refl w)⟩
  ·
    skip
    refine sd_vv rfl rfl rfl (vv_eqlNil Try.underlying43 rfl hv2) ?_
    refine sd_done ?_
    refine sw_condF rfl ?_
    refine sw_skip ?_
    refine then_n ?_
    refine sw_seq ?_
    -- region 3 slices.go:362
    refine sw_region [(0, 0), (1, 0), (2, 0), (3, 0)] rfl rfl rfl ?_
    refine sd_ev rfl rfl rfl (ev_litT ([] : List TPoint) TPoint.cs bsl_43_0 rfl rfl (ws_of rfl) rfl rfl rfl) ?_
    rintro vw1 w1 ⟨gw1, hbw1, Ow1, Gw1⟩
    have z3 := Gw1.size
    have lt4 := Ow1.lth
    refine sd_vv rfl rfl rfl (vv_move rfl) ?_
    have B5 := (Rd.gr hp0 Gw1)
    have hb := bnd hm; clear hm; obtain ⟨l1, hl1, hm⟩ := hb
    refine sd_ev rfl rfl rfl (ev_appT (l := ([] : List TPoint)) (m := p0) (c := TPoint.cs) apt_43 rfl rfl Ow1 B5 hl1 (by decide)) ?_
    rintro vw2 w2 ⟨zw2, gw2, Ow2, Aw2, qw2, rw2⟩
    have z6 := Aw2.size
    refine sd_vv rfl rfl rfl (vv_assign rfl) ?_
    refine sd_done ?_
    refine sw_ret ?_
    have X7 : Gr w w2 := (Gr.ka (Gr.trans (Gr.refl w) Gw1) Aw2 (tk1 ((.inr tk0) : 1 = 0 ∨ w.heap.size ≤ gw1)))
    have hr := Option.some.inj hm
    subst hr
    refine ⟨_, _, rfl, res_1 rfl (rv_tmp rfl), ?_⟩
    exact ⟨vw2, zw2, gw2, rfl, Ow2, ⟨(pv_app (A := (fun x => w.heap.size ≤ x)) rw2 (.inr tk0))⟩, X7⟩

set_option maxHeartbeats 2000000 in
theorem poly_fits_w (p0 : TScheme) (p1 : TSecret) (p2 : THeader) (vp1_1 : Value) (zp1_1 gp1_1 op1_1 : Nat) (vp2_0 : Value) (zp2_0 gp2_0 op2_0 : Nat) (vp2_2 : Value) (zp2_2 gp2_2 op2_2 : Nat) (r : Bool) (hm : poly_fits p0 p1 p2 = some r) (w : World) (hp1_1 : Rd w zp1_1 gp1_1 op1_1 18 vp1_1 (p1.Labels.map TLabel.cs)) (hp2_0 : Rd w zp2_0 gp2_0 op2_0 18 vp2_0 (p2.Items.map TItem.cs)) (hp2_2 : Rd w zp2_2 gp2_2 op2_2 2 vp2_2 (p2.Points.map TPoint.cs))  :
    Calls Try.prog 74 [.agg (TScheme.cs p0).toArray, .agg (TSecret.cs p1 vp1_1).toArray, .agg (THeader.cs p2 vp2_0 vp2_2).toArray].toArray w fun e w' => ∃ v, e = .returned v ∧ (v = .bool r ∧ Gr w w') := by
  have lt1 := hp1_1.lth
  have lt2 := hp2_0.lth
  have lt3 := hp2_2.lth
  unfold poly_fits at hm
  refine calls_of_sw (R := fun v w' => v = .bool r ∧ Gr w w') 91 Try.func74 rfl rfl rfl ?_
  refine sw_seq ?_
  -- region 0 poly.go:176
  refine sw_region [(0, 0), (1, 0), (2, 0), (3, 0)] rfl rfl rfl ?_
  refine sd_ev rfl rfl rfl (ev_box (cs := TScheme.cs p0) rfl rfl) ?_
  rintro _ w1 ⟨b1, rfl, hbw1, Bw1, Gw1⟩
  have z4 := Gw1.size
  have lt5 := Bw1.lt
  refine sd_ev rfl rfl rfl (ev_box (cs := TSecret.cs p1 vp1_1) rfl rfl) ?_
  rintro _ w2 ⟨b2, rfl, hbw2, Bw2, Gw2⟩
  have z6 := Gw2.size
  have lt7 := Bw2.lt
  refine sd_ev rfl rfl rfl (ev_box (cs := THeader.cs p2 vp2_0 vp2_2) rfl rfl) ?_
  rintro _ w3 ⟨b3, rfl, hbw3, Bw3, Gw3⟩
  have z8 := Gw3.size
  have lt9 := Bw3.lt
  refine sd_vv rfl rfl rfl (vv_assign rfl) ?_
  refine sd_done ?_
  refine sw_scope ?_
  have X10 : Gr w w3 := (Gr.trans (Gr.trans (Gr.trans (Gr.refl w) Gw1) Gw2) Gw3)
  refine sw_joinD (β := Bool) [7, 10, 11, 12, 13, 14, 15, 16, 17, 18, 19, 20, 21, 22, 23, 24, 25, 26, 27, 28, 29, 30, 31, 32, 33, 34, 35, 36, 37, 38, 39] (fun a1 => [(7, .bool a1)]) (fun a1 wr => (poly_fits_J1 p0 p1 p2 a1 = some r) ∧ Kz [] w3 wr) ?_ ?_
  · clear hm; rintro a1 w4 ⟨hm, Kw4⟩
    have z11 := Kw4.size
    unfold poly_fits_J1 at hm
    refine sw_seq ?_
    refine sw_label ?_
    refine then_n ?_
    have X12 : Gr w w4 := (Gr.kz X10 Kw4)
    refine sw_joinD (β := Bool) [7, 9, 40, 41, 42, 43, 44, 45, 46, 47, 48, 49, 50, 51, 52, 53, 54, 55, 56, 57, 58, 59, 60, 61, 62, 63, 64, 65, 66, 67, 68, 69, 70, 71, 72, 73, 74, 75, 76, 77, 78, 79, 80] (fun a2 => [(7, .bool a2)]) (fun a2 wr => (poly_fits_J2 p0 p1 a2 = some r) ∧ Kz [] w4 wr) ?_ ?_
    · clear hm; rintro a2 w5 ⟨hm, Kw5⟩
      have z13 := Kw5.size
      unfold poly_fits_J2 at hm
      refine sw_seq ?_
      -- region 8 poly.go:185
      refine sw_region [(0, 0), (1, 0), (2, 0), (3, 0), (4, 0), (5, 0), (6, 0), (7, 0), (8, 0), (9, 0), (10, 0)] rfl rfl rfl ?_
      refine sd_vv rfl rfl rfl (vv_move rfl) ?_
      refine sd_split rfl rfl rfl (vv_move rfl) (fun c1 => ?_) (fun c1 => ?_)
      ·
        replace hm := cnd_t c1 hm
        refine sd_vv rfl rfl rfl (vv_fieldAddr fa_33_2 rfl) ?_
        refine sd_vv rfl rfl rfl (vv_fieldAddr fa_31_1 rfl) ?_
        have B14 := (Bx.kz (Bx.kz (Bx.gr Bw2 Gw3) Kw4) Kw5)
        refine sd_vv rfl rfl rfl (vv_load1 (v := wv p1.Share.Y) one_24 rfl B14 rfl) ?_
        refine sd_vv rfl rfl rfl (vv_fieldAddr fa_28_3 rfl) ?_
        refine sd_vv rfl rfl rfl (vv_fieldAddr fa_26_1 rfl) ?_
        have B15 := (Bx.kz (Bx.kz (Bx.gr (Bx.gr Bw1 Gw2) Gw3) Kw4) Kw5)
        refine sd_vv rfl rfl rfl (vv_load1 (v := wv p0.Group.Q) one_24 rfl B15 rfl) ?_
        refine sd_vv rfl rfl rfl (vv_lssU (c := p1.Share.Y) (d := p0.Group.Q) rfl rfl) ?_
        refine sd_vv rfl rfl rfl (vv_pickT rfl rfl) ?_
        refine sd_vv rfl rfl rfl (vv_assign rfl) ?_
        refine sd_done ?_
        refine sw_ret ?_
        refine scope_r ?_
        have X16 : Gr w w5 := (Gr.kz X12 Kw5)
        have hr := Option.some.inj hm
        subst hr
        refine ⟨_, _, rfl, res_1 rfl (rv_tmp rfl), ?_⟩
        exact ⟨rfl, X16⟩
      ·
        replace hm := cnd_f c1 hm
        refine sd_skip rfl rfl rfl ?_
        refine sd_skip rfl rfl rfl ?_
        refine sd_skip rfl rfl rfl ?_
        refine sd_skip rfl rfl rfl ?_
        refine sd_skip rfl rfl rfl ?_
        refine sd_skip rfl rfl rfl ?_
        refine sd_skip rfl rfl rfl ?_
        refine sd_vv rfl rfl rfl (vv_pickF rfl rfl) ?_
        refine sd_vv rfl rfl rfl (vv_assign rfl) ?_
        refine sd_done ?_
        refine sw_ret ?_
        refine scope_r ?_
        have X17 : Gr w w5 := (Gr.kz X12 Kw5)
        have hr := Option.some.inj hm
        subst hr
        refine ⟨_, _, rfl, res_1 rfl (rv_tmp rfl), ?_⟩
        exact ⟨rfl, X17⟩
    ·
      refine sw_joinD (β := List TPoint × Int × Value × Nat × Nat) [40, 41, 42, 43, 44, 45, 46, 47, 48, 49, 50] (fun ⟨a3, a5, vy4, zy4, gy4⟩ => [(48, vy4), (49, .int .i64 a5), (50, .int .i64 0)]) (fun ⟨a3, a5, vy4, zy4, gy4⟩ wr => (poly_fits_J3 p0 p1 a1 a3 a5 = some r) ∧ Own wr zy4 gy4 31 2 vy4 (a3.map TPoint.cs) ∧ Hdn (zy4 = 0 ∨ w4.heap.size ≤ gy4) ∧ Kz [] w4 wr) ?_ ?_
      · clear hm; rintro ⟨a3, a5, vy4, zy4, gy4⟩ w6 ⟨hm, Fw6_0, Fw6_1, Kw6⟩
        have z18 := Kw6.size
        have lt19 := Fw6_0.lth
        unfold poly_fits_J3 at hm
        refine sw_block ?_
        have X20 : Gr w w6 := (Gr.kz X12 Kw6)
        have B21 := (Rd.kz (Rd.kz (Rd.gr (Rd.gr (Rd.gr hp1_1 Gw1) Gw2) Gw3) Kw4) Kw6)
        have B22 := (Rd.kz (Rd.kz (Rd.gr (Rd.gr (Rd.gr hp2_0 Gw1) Gw2) Gw3) Kw4) Kw6)
        have B23 := (Rd.kz (Rd.kz (Rd.gr (Rd.gr (Rd.gr hp2_2 Gw1) Gw2) Gw3) Kw4) Kw6)
        refine sw_loopD (α := Nat × Bool × Int) [7, 9, 50, 51, 52, 53, 54, 55, 56, 57, 58, 59, 60, 61, 62, 63, 64, 65, 66, 67, 68, 69, 70, 71, 72, 73, 74, 75, 76, 77, 78, 79, 80] (fun ⟨n4, a8, a9⟩ => [(7, .bool a8), (50, .int .i64 a9)]) (fun ⟨n4, a8, a9⟩ wr => (fixN (poly_fits_L4 p0 p1 a3 a5) n4 (a8, a9) = some r) ∧ Kz [] w6 wr) (fun ⟨n4, a8, a9⟩ => n4) ⟨FUEL, a1, 0⟩ ?_ ?_ ?_
        · repeat' first | exact trivial | refine ⟨rfl, ?_⟩
        · exact ⟨hm, Kz.refl _ _⟩
        · clear hm; rintro ⟨n4, a8, a9⟩ w7 ⟨hm, Kw7⟩
          have z24 := Kw7.size
          have hb := fix_succ hm; clear hm; obtain ⟨n4, rfl, hm⟩ := hb
          generalize hrec4 : fixN (poly_fits_L4 p0 p1 a3 a5) n4 = rec4 at hm
          unfold poly_fits_L4 at hm
          try dsimp only at hm
          refine sw_seq ?_
          -- region 3 poly.go:179
          refine sw_region [(0, 0)] rfl rfl rfl ?_
          refine sd_vv rfl rfl rfl (vv_lss (a := a9) (b := a5) rfl rfl) ?_
          refine sd_done ?_
          refine sw_seq ?_
          refine sw_cond rfl (fun c2 => ?_) (fun c2 => ?_)
          ·
            replace hm := ite_t (of_decide_eq_true c2) hm
            refine sw_skip ?_
            refine then_n ?_
            refine sw_seq ?_
            refine sw_block ?_
            refine sw_seq ?_
            -- region 4 poly.go:179
            refine sw_region [(0, 0), (1, 0), (2, 0), (3, 0)] rfl rfl rfl ?_
            have hb := bnd hm; clear hm; obtain ⟨y10, hy10, hm⟩ := hb
            have B25 := (Own.kz Fw6_0 Kw7)
            refine sd_vv rfl rfl rfl (vv_ixT (i := a9) Try.underlying43 (agg_31).siz rfl (Own.rd B25) rfl hy10) ?_
            refine sd_vv rfl rfl rfl (vv_elWT agg_31 rfl (Own.rd B25) hy10 (by first | rfl | omega)) ?_
            refine sd_ev rfl rfl rfl (ev_alloc (cs := TPoint.cs (TPoint.mk 0#64 0#64)) zv_31 rfl) ?_
            rintro _ w8 ⟨b8, rfl, hbw8, Bw8, Gw8⟩
            have z26 := Gw8.size
            have lt27 := Bw8.lt
            refine sd_ev rfl rfl rfl (ev_stM (cs' := TPoint.cs y10) (vs := TPoint.cs y10) (agg_31).siz rfl rfl rfl rfl rfl Bw8 rfl rfl) ?_
            rintro _ w9 ⟨Bw9, Mw9⟩
            have z28 := Mw9.size
            refine sd_done ?_
            refine sw_seq ?_
            refine sw_seq ?_
            -- region 5 poly.go:180
            refine sw_region [(0, 0), (1, 0)] rfl rfl rfl ?_
            refine sd_vv rfl rfl rfl (vv_move rfl) ?_
            refine sd_vv rfl rfl rfl (vv_not rfl) ?_
            refine sd_done ?_
            refine sw_cond rfl (fun c3 => ?_) (fun c3 => ?_)
            ·
              replace hm := cnd_t c3 hm
              refine sw_exit ?_
              refine then_x ?_
              refine block_o rfl ?_
              refine then_x ?_
              refine then_x ?_
              refine block_x ?_
              have K_29 : Kz [] w4 w9 := (Kz.md (Kz.gr (Kz.kz (Kz.kz (Kz.refl _ _) Kw6) Kw7) Gw8) Mw9)
              refine ⟨rfl, a8, ?_, hm, K_29⟩
              repeat' first | exact trivial | refine ⟨rfl, ?_⟩
            ·
              replace hm := cnd_f c3 hm
              refine sw_skip ?_
              refine then_n ?_
              -- region 6 poly.go:183
              refine sw_region [(0, 0), (1, 0), (2, 0), (3, 0), (4, 0), (5, 0), (6, 0), (7, 0), (8, 0), (9, 0), (10, 0), (11, 0), (12, 0), (13, 0), (14, 0), (15, 0), (16, 0), (17, 0), (18, 0), (19, 0), (20, 0), (21, 0), (22, 0), (23, 0), (24, 0)] rfl rfl rfl ?_
              refine sd_vv rfl rfl rfl (vv_fieldAddr fa_31_0 rfl) ?_
              refine sd_vv rfl rfl rfl (vv_load1 (v := wv y10.X) one_24 rfl Bw9 rfl) ?_
              refine sd_vv rfl rfl rfl (vv_geqU (c := y10.X) (d := 1#64) rfl rfl) ?_
              refine sd_split rfl rfl rfl (vv_move rfl) (fun c4 => ?_) (fun c4 => ?_)
              ·
                replace hm := ite_t (of_decide_eq_true c4) hm
                refine sd_vv rfl rfl rfl (vv_fieldAddr fa_31_0 rfl) ?_
                refine sd_vv rfl rfl rfl (vv_load1 (v := wv y10.X) one_24 rfl Bw9 rfl) ?_
                refine sd_vv rfl rfl rfl (vv_fieldAddr fa_28_3 rfl) ?_
                refine sd_vv rfl rfl rfl (vv_fieldAddr fa_26_1 rfl) ?_
                have B30 := (Bx.md (Bx.gr (Bx.kz (Bx.kz (Bx.kz (Bx.gr (Bx.gr Bw1 Gw2) Gw3) Kw4) Kw6) Kw7) Gw8) Mw9)
                refine sd_vv rfl rfl rfl (vv_load1 (v := wv p0.Group.Q) one_24 rfl B30 rfl) ?_
                refine sd_vv rfl rfl rfl (vv_lssU (c := y10.X) (d := p0.Group.Q) rfl rfl) ?_
                refine sd_vv rfl rfl rfl (vv_pickT rfl rfl) ?_
                refine sd_split rfl rfl rfl (vv_move rfl) (fun c5 => ?_) (fun c5 => ?_)
                ·
                  replace hm := ite_t (of_decide_eq_true c5) hm
                  refine sd_vv rfl rfl rfl (vv_fieldAddr fa_31_1 rfl) ?_
                  refine sd_vv rfl rfl rfl (vv_load1 (v := wv y10.Y) one_24 rfl Bw9 rfl) ?_
                  refine sd_vv rfl rfl rfl (vv_geqU (c := y10.Y) (d := 1#64) rfl rfl) ?_
                  refine sd_vv rfl rfl rfl (vv_pickT rfl rfl) ?_
                  refine sd_split rfl rfl rfl (vv_move rfl) (fun c6 => ?_) (fun c6 => ?_)
                  ·
                    replace hm := ite_t (of_decide_eq_true c6) hm
                    refine sd_vv rfl rfl rfl (vv_fieldAddr fa_31_1 rfl) ?_
                    refine sd_vv rfl rfl rfl (vv_load1 (v := wv y10.Y) one_24 rfl Bw9 rfl) ?_
                    refine sd_vv rfl rfl rfl (vv_fieldAddr fa_28_3 rfl) ?_
                    refine sd_vv rfl rfl rfl (vv_fieldAddr fa_26_0 rfl) ?_
                    refine sd_vv rfl rfl rfl (vv_load1 (v := wv p0.Group.P) one_24 rfl B30 rfl) ?_
                    refine sd_vv rfl rfl rfl (vv_lssU (c := y10.Y) (d := p0.Group.P) rfl rfl) ?_
                    refine sd_vv rfl rfl rfl (vv_pickT rfl rfl) ?_
                    refine sd_vv rfl rfl rfl (vv_assign rfl) ?_
                    refine sd_nil ?_
                    refine block_n ?_
                    refine then_n ?_
                    -- region 7 poly.go:179
                    refine sw_region [(0, 0), (1, 0)] rfl rfl rfl ?_
                    refine sd_vv rfl rfl rfl (vv_add (k := .i64) (a := a9) (b := 1) rfl rfl) ?_
                    refine sd_vv rfl rfl rfl (vv_move rfl) ?_
                    refine sd_nil ?_
                    have K_31 : Kz [] w6 w9 := (Kz.md (Kz.gr Kw7 Gw8) Mw9)
                    subst hrec4
                    refine ⟨rfl, ⟨n4, decide (y10.Y < p0.Group.P), w64 (a9 + 1)⟩, ?_, ⟨hm, K_31⟩, Nat.lt_succ_self _⟩
                    repeat' first | exact trivial | refine ⟨rfl, ?_⟩
                  ·
                    replace hm := ite_f (of_decide_eq_false c6) hm
                    refine sd_skip rfl rfl rfl ?_
                    refine sd_skip rfl rfl rfl ?_
                    refine sd_skip rfl rfl rfl ?_
                    refine sd_skip rfl rfl rfl ?_
                    refine sd_skip rfl rfl rfl ?_
                    refine sd_skip rfl rfl rfl ?_
                    refine sd_vv rfl rfl rfl (vv_pickF rfl rfl) ?_
                    refine sd_vv rfl rfl rfl (vv_assign rfl) ?_
                    refine sd_nil ?_
                    refine block_n ?_
                    refine then_n ?_
                    -- region 7 poly.go:179
                    refine sw_region [(0, 0), (1, 0)] rfl rfl rfl ?_
                    refine sd_vv rfl rfl rfl (vv_add (k := .i64) (a := a9) (b := 1) rfl rfl) ?_
                    refine sd_vv rfl rfl rfl (vv_move rfl) ?_
                    refine sd_nil ?_
                    have K_32 : Kz [] w6 w9 := (Kz.md (Kz.gr Kw7 Gw8) Mw9)
                    subst hrec4
                    refine ⟨rfl, ⟨n4, false, w64 (a9 + 1)⟩, ?_, ⟨hm, K_32⟩, Nat.lt_succ_self _⟩
                    repeat' first | exact trivial | refine ⟨rfl, ?_⟩
                ·
                  replace hm := ite_f (of_decide_eq_false c5) hm
                  refine sd_skip rfl rfl rfl ?_
                  refine sd_skip rfl rfl rfl ?_
                  refine sd_skip rfl rfl rfl ?_
                  refine sd_vv rfl rfl rfl (vv_pickF rfl rfl) ?_
                  refine sd_vv rfl rfl rfl (vv_move rfl) ?_
                  refine sd_skip rfl rfl rfl ?_
                  refine sd_skip rfl rfl rfl ?_
                  refine sd_skip rfl rfl rfl ?_
                  refine sd_skip rfl rfl rfl ?_
                  refine sd_skip rfl rfl rfl ?_
                  refine sd_skip rfl rfl rfl ?_
                  refine sd_vv rfl rfl rfl (vv_pickF rfl rfl) ?_
                  refine sd_vv rfl rfl rfl (vv_assign rfl) ?_
                  refine sd_nil ?_
                  refine block_n ?_
                  refine then_n ?_
                  -- region 7 poly.go:179
                  refine sw_region [(0, 0), (1, 0)] rfl rfl rfl ?_
                  refine sd_vv rfl rfl rfl (vv_add (k := .i64) (a := a9) (b := 1) rfl rfl) ?_
                  refine sd_vv rfl rfl rfl (vv_move rfl) ?_
                  refine sd_nil ?_
                  have K_33 : Kz [] w6 w9 := (Kz.md (Kz.gr Kw7 Gw8) Mw9)
                  subst hrec4
                  refine ⟨rfl, ⟨n4, false, w64 (a9 + 1)⟩, ?_, ⟨hm, K_33⟩, Nat.lt_succ_self _⟩
                  repeat' first | exact trivial | refine ⟨rfl, ?_⟩
              ·
                replace hm := ite_f (of_decide_eq_false c4) hm
                refine sd_skip rfl rfl rfl ?_
                refine sd_skip rfl rfl rfl ?_
                refine sd_skip rfl rfl rfl ?_
                refine sd_skip rfl rfl rfl ?_
                refine sd_skip rfl rfl rfl ?_
                refine sd_skip rfl rfl rfl ?_
                refine sd_vv rfl rfl rfl (vv_pickF rfl rfl) ?_
                refine sd_vv rfl rfl rfl (vv_move rfl) ?_
                refine sd_skip rfl rfl rfl ?_
                refine sd_skip rfl rfl rfl ?_
                refine sd_skip rfl rfl rfl ?_
                refine sd_vv rfl rfl rfl (vv_pickF rfl rfl) ?_
                refine sd_vv rfl rfl rfl (vv_move rfl) ?_
                refine sd_skip rfl rfl rfl ?_
                refine sd_skip rfl rfl rfl ?_
                refine sd_skip rfl rfl rfl ?_
                refine sd_skip rfl rfl rfl ?_
                refine sd_skip rfl rfl rfl ?_
                refine sd_skip rfl rfl rfl ?_
                refine sd_vv rfl rfl rfl (vv_pickF rfl rfl) ?_
                refine sd_vv rfl rfl rfl (vv_assign rfl) ?_
                refine sd_nil ?_
                refine block_n ?_
                refine then_n ?_
                -- region 7 poly.go:179
                refine sw_region [(0, 0), (1, 0)] rfl rfl rfl ?_
                refine sd_vv rfl rfl rfl (vv_add (k := .i64) (a := a9) (b := 1) rfl rfl) ?_
                refine sd_vv rfl rfl rfl (vv_move rfl) ?_
                refine sd_nil ?_
                have K_34 : Kz [] w6 w9 := (Kz.md (Kz.gr Kw7 Gw8) Mw9)
                subst hrec4
                refine ⟨rfl, ⟨n4, false, w64 (a9 + 1)⟩, ?_, ⟨hm, K_34⟩, Nat.lt_succ_self _⟩
                repeat' first | exact trivial | refine ⟨rfl, ?_⟩
          ·
            replace hm := ite_f (of_decide_eq_false c2) hm
            refine sw_exit ?_
            refine then_x ?_
            refine then_x ?_
            refine block_x ?_
            have K_35 : Kz [] w4 w7 := (Kz.kz (Kz.kz (Kz.refl _ _) Kw6) Kw7)
            refine ⟨rfl, a8, ?_, hm, K_35⟩
            repeat' first | exact trivial | refine ⟨rfl, ?_⟩
      ·
        -- region 2 poly.go:179 DRAWS
        refine sw_drawN [([])] [] (.fork [(0, 10), (1, 10), (3, 10), (4, 10), (5, 10), (6, 10), (10, 10)] (.leaf [(2, 0), (7, 0), (8, 0), (9, 0)]) (.leaf [(7, 0), (2, 0), (8, 0), (9, 0)])) (by kernel_rfl) (by kernel_rfl) rfl (by kernel_rfl) ?_
        intro w10 Gw10 zw10
        refine sdz_fork ?_
        refine dd_hn 0 rfl rfl rfl rfl (Kp.refl ([]) w10) (fun w hS => vv_fieldAddr fa_45_2 rfl) ?_
        have B36 := (Bx.gr (Bx.kz Bw3 Kw4) Gw10)
        refine dd_hn 0 rfl rfl rfl rfl (Kp.refl ([]) w10) (fun w hS => vv_load1 (v := vp2_2) one_43 rfl (Bx.kp B36 hS) rfl) ?_
        refine dd_hn 0 rfl rfl rfl rfl (Kp.refl ([]) w10) (fun w hS => vv_fieldAddr fa_33_2 rfl) ?_
        refine dd_hn 0 rfl rfl rfl rfl (Kp.refl ([]) w10) (fun w hS => vv_fieldAddr fa_31_0 rfl) ?_
        have B37 := (Bx.gr (Bx.kz (Bx.gr Bw2 Gw3) Kw4) Gw10)
        refine dd_hn 0 rfl rfl rfl rfl (Kp.refl ([]) w10) (fun w hS => vv_load1 (v := wv p1.Share.X) one_24 rfl (Bx.kp B37 hS) rfl) ?_
        refine dd_hn 0 rfl rfl rfl rfl (Kp.refl ([]) w10) (fun w hS => vv_build (cs := TPoint.cs (TPoint.mk p1.Share.X 1#64)) bs_31 rfl rfl) ?_
        refine dd_hn 0 rfl rfl rfl rfl (Kp.refl ([]) w10) (fun w hS => vv_move rfl) ?_
        refine sd_fork ?_ ?_
        ·
          refine sdz_leaf ?_
          have B38 := (Rd.gr (Rd.kz (Rd.gr (Rd.gr (Rd.gr hp2_2 Gw1) Gw2) Gw3) Kw4) Gw10)
          have hb := bnd hm; clear hm; obtain ⟨x11, hx11, hm⟩ := hb
          refine dd_z [] rfl rfl rfl (ev_call en_121 rfl (slices_Clone_3bad_w p2.Points _ _ _ _ _ hx11 _ B38)) ⟨fun _ => tk0, trivial⟩ ?_
          rintro u11_r0_s w11 ⟨_, z11_r0_s, g11_r0_s, rfl, O11_r0_s, f11_r0_s, Gw11⟩
          have z39 := Gw11.size
          have lt40 := O11_r0_s.lth
          refine ⟨Kz.ofGr Gw11, ?_⟩
          refine dd_z [] rfl rfl rfl (ev_litT [(TPoint.mk p1.Share.X 1#64)] TPoint.cs bsl_43_1 rfl rfl (ws_of rfl) rfl rfl rfl) ⟨fun _ => tk0, trivial⟩ ?_
          rintro vw12 w12 ⟨gw12, hbw12, Ow12, Gw12⟩
          have z41 := Gw12.size
          have lt42 := Ow12.lth
          refine ⟨Kz.ofGr Gw12, ?_⟩
          have B43 := (Own.gr O11_r0_s Gw12)
          have hb := bnd hm; clear hm; obtain ⟨l12, hl12, hm⟩ := hb
          refine dd_z [(z11_r0_s, g11_r0_s)] rfl rfl rfl (ev_appT (l := x11) (m := [(TPoint.mk p1.Share.X 1#64)]) (c := TPoint.cs) apt_43 rfl rfl B43 (Own.rd Ow12) hl12 (by decide)) ⟨fun _ => (tk1 ((pv_0 (A := (fun x => w10.heap.size ≤ x)) f11_r0_s) : z11_r0_s = 0 ∨ w10.heap.size ≤ g11_r0_s)), trivial⟩ ?_
          rintro vw13 w13 ⟨zw13, gw13, Ow13, Aw13, qw13, rw13⟩
          have z44 := Aw13.size
          refine ⟨Kz.ofKa Aw13, ?_⟩
          refine dd_vz rfl rfl rfl (vv_lenT (l := l12) (c := TPoint.cs) Try.underlying43 rfl (Own.rd Ow13)) ?_
          refine sd_nil ?_
          have K_45 : Kz [] w4 w13 := (Kz.ka (Kz.gr (Kz.gr (Kz.gr (Kz.refl _ _) Gw10) Gw11) Gw12) Aw13 (tk1 ((pv_0 (A := (fun x => w4.heap.size ≤ x)) f11_r0_s) : z11_r0_s = 0 ∨ w4.heap.size ≤ g11_r0_s)))
          refine ⟨rfl, ⟨l12, (l12.length : Int), vw13, zw13, gw13⟩, ?_, hm, Ow13, ⟨(pv_app (A := (fun x => w4.heap.size ≤ x)) rw13 (pv_0 (A := (fun x => w4.heap.size ≤ x)) f11_r0_s))⟩, K_45⟩
          repeat' first | exact trivial | refine ⟨rfl, ?_⟩
        ·
          refine sdz_leaf ?_
          refine dd_z [] rfl rfl rfl (ev_litT [(TPoint.mk p1.Share.X 1#64)] TPoint.cs bsl_43_1 rfl rfl (ws_of rfl) rfl rfl rfl) ⟨fun _ => tk0, trivial⟩ ?_
          rintro vw14 w14 ⟨gw14, hbw14, Ow14, Gw14⟩
          have z46 := Gw14.size
          have lt47 := Ow14.lth
          refine ⟨Kz.ofGr Gw14, ?_⟩
          have B48 := (Rd.gr (Rd.gr (Rd.kz (Rd.gr (Rd.gr (Rd.gr hp2_2 Gw1) Gw2) Gw3) Kw4) Gw10) Gw14)
          have hb := bnd hm; clear hm; obtain ⟨x13, hx13, hm⟩ := hb
          refine dd_z [] rfl rfl rfl (ev_call en_121 rfl (slices_Clone_3bad_w p2.Points _ _ _ _ _ hx13 _ B48)) ⟨fun _ => tk0, trivial⟩ ?_
          rintro u15_r0_s w15 ⟨_, z15_r0_s, g15_r0_s, rfl, O15_r0_s, f15_r0_s, Gw15⟩
          have z49 := Gw15.size
          have lt50 := O15_r0_s.lth
          refine ⟨Kz.ofGr Gw15, ?_⟩
          have B51 := (Own.gr Ow14 Gw15)
          have hb := bnd hm; clear hm; obtain ⟨l14, hl14, hm⟩ := hb
          refine dd_z [(z15_r0_s, g15_r0_s)] rfl rfl rfl (ev_appT (l := x13) (m := [(TPoint.mk p1.Share.X 1#64)]) (c := TPoint.cs) apt_43 rfl rfl O15_r0_s (Own.rd B51) hl14 (by decide)) ⟨fun _ => (tk1 ((pv_0 (A := (fun x => w10.heap.size ≤ x)) f15_r0_s) : z15_r0_s = 0 ∨ w10.heap.size ≤ g15_r0_s)), trivial⟩ ?_
          rintro vw16 w16 ⟨zw16, gw16, Ow16, Aw16, qw16, rw16⟩
          have z52 := Aw16.size
          refine ⟨Kz.ofKa Aw16, ?_⟩
          refine dd_vz rfl rfl rfl (vv_lenT (l := l14) (c := TPoint.cs) Try.underlying43 rfl (Own.rd Ow16)) ?_
          refine sd_nil ?_
          have K_53 : Kz [] w4 w16 := (Kz.ka (Kz.gr (Kz.gr (Kz.gr (Kz.refl _ _) Gw10) Gw14) Gw15) Aw16 (tk1 ((pv_0 (A := (fun x => w4.heap.size ≤ x)) f15_r0_s) : z15_r0_s = 0 ∨ w4.heap.size ≤ g15_r0_s)))
          refine ⟨rfl, ⟨l14, (l14.length : Int), vw16, zw16, gw16⟩, ?_, hm, Ow16, ⟨(pv_app (A := (fun x => w4.heap.size ≤ x)) rw16 (pv_0 (A := (fun x => w4.heap.size ≤ x)) f15_r0_s))⟩, K_53⟩
          repeat' first | exact trivial | refine ⟨rfl, ?_⟩
  ·
    -- region 1 poly.go:177
    refine sw_region [(0, 0), (1, 0), (2, 0), (3, 0), (4, 0), (5, 0), (6, 0), (7, 0), (8, 0), (9, 0), (10, 0), (11, 0), (12, 0), (13, 0), (14, 0), (15, 0), (16, 0), (17, 0), (18, 0), (19, 0), (20, 0), (21, 0), (22, 0), (23, 0), (24, 0), (25, 0), (26, 0), (27, 0), (28, 0), (29, 0), (30, 0)] rfl rfl rfl ?_
    refine sd_vv rfl rfl rfl (vv_fieldAddr fa_45_0 rfl) ?_
    refine sd_vv rfl rfl rfl (vv_load1 (v := vp2_0) one_42 rfl Bw3 rfl) ?_
    have B54 := (Rd.gr (Rd.gr (Rd.gr hp2_0 Gw1) Gw2) Gw3)
    refine sd_vv rfl rfl rfl (vv_lenT (l := p2.Items) (c := TItem.cs) Try.underlying42 rfl B54) ?_
    refine sd_vv rfl rfl rfl (vv_eql (a := (p2.Items.length : Int)) (b := 0) rfl rfl) ?_
    refine sd_split rfl rfl rfl (vv_move rfl) (fun c7 => ?_) (fun c7 => ?_)
    ·
      replace hm := ite_t (of_decide_eq_true c7) hm
      refine sd_vv rfl rfl rfl (vv_fieldAddr fa_45_1 rfl) ?_
      refine sd_vv rfl rfl rfl (vv_load1 (v := wv p2.Base) one_24 rfl Bw3 rfl) ?_
      refine sd_vv rfl rfl rfl (vv_geqU (c := p2.Base) (d := 1#64) rfl rfl) ?_
      refine sd_vv rfl rfl rfl (vv_pickT rfl rfl) ?_
      refine sd_split rfl rfl rfl (vv_move rfl) (fun c8 => ?_) (fun c8 => ?_)
      ·
        replace hm := ite_t (of_decide_eq_true c8) hm
        refine sd_vv rfl rfl rfl (vv_fieldAddr fa_45_1 rfl) ?_
        refine sd_vv rfl rfl rfl (vv_load1 (v := wv p2.Base) one_24 rfl Bw3 rfl) ?_
        refine sd_vv rfl rfl rfl (vv_fieldAddr fa_28_3 rfl) ?_
        refine sd_vv rfl rfl rfl (vv_fieldAddr fa_26_0 rfl) ?_
        have B55 := (Bx.gr (Bx.gr Bw1 Gw2) Gw3)
        refine sd_vv rfl rfl rfl (vv_load1 (v := wv p0.Group.P) one_24 rfl B55 rfl) ?_
        refine sd_vv rfl rfl rfl (vv_lssU (c := p2.Base) (d := p0.Group.P) rfl rfl) ?_
        refine sd_vv rfl rfl rfl (vv_pickT rfl rfl) ?_
        refine sd_split rfl rfl rfl (vv_move rfl) (fun c9 => ?_) (fun c9 => ?_)
        ·
          replace hm := ite_t (of_decide_eq_true c9) hm
          refine sd_vv rfl rfl rfl (vv_fieldAddr fa_45_2 rfl) ?_
          refine sd_vv rfl rfl rfl (vv_load1 (v := vp2_2) one_43 rfl Bw3 rfl) ?_
          have B56 := (Rd.gr (Rd.gr (Rd.gr hp2_2 Gw1) Gw2) Gw3)
          refine sd_vv rfl rfl rfl (vv_lenT (l := p2.Points) (c := TPoint.cs) Try.underlying43 rfl B56) ?_
          refine sd_vv rfl rfl rfl (vv_fieldAddr fa_28_2 rfl) ?_
          refine sd_vv rfl rfl rfl (vv_load1 (v := .int .i64 p0.Degree) one_3 rfl B55 rfl) ?_
          refine sd_vv rfl rfl rfl (vv_eql (a := (p2.Points.length : Int)) (b := p0.Degree) rfl rfl) ?_
          refine sd_vv rfl rfl rfl (vv_pickT rfl rfl) ?_
          refine sd_split rfl rfl rfl (vv_move rfl) (fun c10 => ?_) (fun c10 => ?_)
          ·
            replace hm := ite_t (of_decide_eq_true c10) hm
            refine sd_vv rfl rfl rfl (vv_fieldAddr fa_45_2 rfl) ?_
            refine sd_vv rfl rfl rfl (vv_load1 (v := vp2_2) one_43 rfl Bw3 rfl) ?_
            have hb := bnd hm; clear hm; obtain ⟨x15, hx15, hm⟩ := hb
            refine sd_ev rfl rfl rfl (ev_call en_75 rfl (poly_distinct_w p2.Points _ _ _ _ _ hx15 _ B56)) ?_
            rintro _ w17 ⟨rfl, Gw17⟩
            have z57 := Gw17.size
            refine sd_vv rfl rfl rfl (vv_pickT rfl rfl) ?_
            refine sd_vv rfl rfl rfl (vv_assign rfl) ?_
            refine sd_nil ?_
            have K_58 : Kz [] w3 w17 := (Kz.gr (Kz.refl _ _) Gw17)
            refine ⟨rfl, x15, ?_, hm, K_58⟩
            repeat' first | exact trivial | refine ⟨rfl, ?_⟩
          ·
            replace hm := ite_f (of_decide_eq_false c10) hm
            refine sd_skip rfl rfl rfl ?_
            refine sd_skip rfl rfl rfl ?_
            refine sd_skip rfl rfl rfl ?_
            refine sd_vv rfl rfl rfl (vv_pickF rfl rfl) ?_
            refine sd_vv rfl rfl rfl (vv_assign rfl) ?_
            refine sd_nil ?_
            have K_59 : Kz [] w3 w3 := (Kz.refl _ _)
            refine ⟨rfl, false, ?_, hm, K_59⟩
            repeat' first | exact trivial | refine ⟨rfl, ?_⟩
        ·
          replace hm := ite_f (of_decide_eq_false c9) hm
          refine sd_skip rfl rfl rfl ?_
          refine sd_skip rfl rfl rfl ?_
          refine sd_skip rfl rfl rfl ?_
          refine sd_skip rfl rfl rfl ?_
          refine sd_skip rfl rfl rfl ?_
          refine sd_skip rfl rfl rfl ?_
          refine sd_vv rfl rfl rfl (vv_pickF rfl rfl) ?_
          refine sd_vv rfl rfl rfl (vv_move rfl) ?_
          refine sd_skip rfl rfl rfl ?_
          refine sd_skip rfl rfl rfl ?_
          refine sd_skip rfl rfl rfl ?_
          refine sd_vv rfl rfl rfl (vv_pickF rfl rfl) ?_
          refine sd_vv rfl rfl rfl (vv_assign rfl) ?_
          refine sd_nil ?_
          have K_60 : Kz [] w3 w3 := (Kz.refl _ _)
          refine ⟨rfl, false, ?_, hm, K_60⟩
          repeat' first | exact trivial | refine ⟨rfl, ?_⟩
      ·
        replace hm := ite_f (of_decide_eq_false c8) hm
        refine sd_skip rfl rfl rfl ?_
        refine sd_skip rfl rfl rfl ?_
        refine sd_skip rfl rfl rfl ?_
        refine sd_skip rfl rfl rfl ?_
        refine sd_skip rfl rfl rfl ?_
        refine sd_skip rfl rfl rfl ?_
        refine sd_vv rfl rfl rfl (vv_pickF rfl rfl) ?_
        refine sd_vv rfl rfl rfl (vv_move rfl) ?_
        refine sd_skip rfl rfl rfl ?_
        refine sd_skip rfl rfl rfl ?_
        refine sd_skip rfl rfl rfl ?_
        refine sd_skip rfl rfl rfl ?_
        refine sd_skip rfl rfl rfl ?_
        refine sd_skip rfl rfl rfl ?_
        refine sd_vv rfl rfl rfl (vv_pickF rfl rfl) ?_
        refine sd_vv rfl rfl rfl (vv_move rfl) ?_
        refine sd_skip rfl rfl rfl ?_
        refine sd_skip rfl rfl rfl ?_
        refine sd_skip rfl rfl rfl ?_
        refine sd_vv rfl rfl rfl (vv_pickF rfl rfl) ?_
        refine sd_vv rfl rfl rfl (vv_assign rfl) ?_
        refine sd_nil ?_
        have K_61 : Kz [] w3 w3 := (Kz.refl _ _)
        refine ⟨rfl, false, ?_, hm, K_61⟩
        repeat' first | exact trivial | refine ⟨rfl, ?_⟩
    ·
      replace hm := ite_f (of_decide_eq_false c7) hm
      refine sd_skip rfl rfl rfl ?_
      refine sd_skip rfl rfl rfl ?_
      refine sd_skip rfl rfl rfl ?_
      refine sd_vv rfl rfl rfl (vv_pickF rfl rfl) ?_
      refine sd_vv rfl rfl rfl (vv_move rfl) ?_
      refine sd_skip rfl rfl rfl ?_
      refine sd_skip rfl rfl rfl ?_
      refine sd_skip rfl rfl rfl ?_
      refine sd_skip rfl rfl rfl ?_
      refine sd_skip rfl rfl rfl ?_
      refine sd_skip rfl rfl rfl ?_
      refine sd_vv rfl rfl rfl (vv_pickF rfl rfl) ?_
      refine sd_vv rfl rfl rfl (vv_move rfl) ?_
      refine sd_skip rfl rfl rfl ?_
      refine sd_skip rfl rfl rfl ?_
      refine sd_skip rfl rfl rfl ?_
      refine sd_skip rfl rfl rfl ?_
      refine sd_skip rfl rfl rfl ?_
      refine sd_skip rfl rfl rfl ?_
      refine sd_vv rfl rfl rfl (vv_pickF rfl rfl) ?_
      refine sd_vv rfl rfl rfl (vv_move rfl) ?_
      refine sd_skip rfl rfl rfl ?_
      refine sd_skip rfl rfl rfl ?_
      refine sd_skip rfl rfl rfl ?_
      refine sd_vv rfl rfl rfl (vv_pickF rfl rfl) ?_
      refine sd_vv rfl rfl rfl (vv_assign rfl) ?_
      refine sd_nil ?_
      have K_62 : Kz [] w3 w3 := (Kz.refl _ _)
      refine ⟨rfl, false, ?_, hm, K_62⟩
      repeat' first | exact trivial | refine ⟨rfl, ?_⟩

set_option maxHeartbeats 2000000 in
theorem poly_field_sub_w (p0 : BitVec 64) (p1 : BitVec 64) (p2 : BitVec 64)  (r : BitVec 64) (hm : poly_field_sub p0 p1 p2 = some r) (w : World)   :
    Calls Try.prog 77 [wv p0, wv p1, wv p2].toArray w fun e w' => ∃ v, e = .returned v ∧ (v = wv r ∧ Gr w w') := by
  unfold poly_field_sub at hm
  refine calls_of_sw (R := fun v w' => v = wv r ∧ Gr w w') 14 Try.func77 rfl rfl rfl ?_
  refine sw_seq ?_
  -- region 0 poly.go:16
  refine sw_region [(0, 0)] rfl rfl rfl ?_
  refine sd_vv rfl rfl rfl (vv_assign rfl) ?_
  refine sd_done ?_
  refine sw_seq ?_
  -- region 1 poly.go:16
  refine sw_region [(0, 0), (1, 0), (2, 0), (3, 0), (4, 0), (5, 0), (6, 0), (7, 0)] rfl rfl rfl ?_
  refine sd_vv rfl rfl rfl (vv_move rfl) ?_
  refine sd_vv rfl rfl rfl (vv_move rfl) ?_
  refine sd_vv rfl rfl rfl (vv_uadd (a := p1) (b := p0) rfl rfl) ?_
  refine sd_vv rfl rfl rfl (vv_move rfl) ?_
  refine sd_vv rfl rfl rfl (vv_usub (a := p1 + p0) (b := p2) rfl rfl) ?_
  refine sd_vv rfl rfl rfl (vv_move rfl) ?_
  have hb := bnd hm; clear hm; obtain ⟨x1, hx1, hm⟩ := hb
  refine sd_vv rfl rfl rfl (vv_remU (c := (p1 + p0) - p2) (d := p0) rfl rfl hx1) ?_
  refine sd_vv rfl rfl rfl (vv_assign rfl) ?_
  refine sd_done ?_
  refine sw_ret ?_
  have hr := Option.some.inj hm
  subst hr
  refine ⟨_, _, rfl, res_1 rfl (rv_tmp rfl), ?_⟩
  exact ⟨rfl, (Gr.refl w)⟩

set_option maxHeartbeats 2000000 in
theorem number_InvMod_w (p0 : BitVec 64) (p1 : BitVec 64)  (r : BitVec 64 × Int) (hm : number_InvMod p0 p1 = some r) (w : World)   :
    Calls Try.prog 123 [wv p0, wv p1].toArray w fun e w' => ∃ v, e = .returned v ∧ (v = .tuple [wv r.1, .int .i64 r.2].toArray ∧ Gr w w') := by
  unfold number_InvMod at hm
  refine calls_of_sw (R := fun v w' => v = .tuple [wv r.1, .int .i64 r.2].toArray ∧ Gr w w') 50 Try.func123 rfl rfl rfl ?_
  refine sw_seq ?_
  -- region 0 modular.go:29
  refine sw_region [(0, 0), (1, 0)] rfl rfl rfl ?_
  refine sd_vv rfl rfl rfl (vv_assign rfl) ?_
  refine sd_vv rfl rfl rfl (vv_assign rfl) ?_
  refine sd_done ?_
  refine sw_seq ?_
  refine sw_seq ?_
  -- region 1 modular.go:30
  refine sw_region [(0, 0), (1, 0), (2, 0)] rfl rfl rfl ?_
  refine sd_vv rfl rfl rfl (vv_move rfl) ?_
  have hb := bnd hm; clear hm; obtain ⟨x1, hx1, hm⟩ := hb
  refine sd_ev rfl rfl rfl (ev_call en_111 rfl (number_modulus_w p1 _ hx1 _)) ?_
  rintro _ w1 ⟨rfl, Gw1⟩
  have z1 := Gw1.size
  refine sd_vv rfl rfl rfl (vv_not rfl) ?_
  refine sd_done ?_
  refine sw_cond rfl (fun c1 => ?_) (fun c1 => ?_)
  ·
    replace hm := cnd_t c1 hm
    refine sw_seq ?_
    -- region 2 modular.go:31
    refine sw_region [(0, 0), (1, 0)] rfl rfl rfl ?_
    refine sd_vv rfl rfl rfl (vv_assign rfl) ?_
    refine sd_vv rfl rfl rfl (vv_assign rfl) ?_
    refine sd_done ?_
    refine sw_ret ?_
    refine then_r ?_
    have X2 : Gr w w1 := (Gr.trans (Gr.refl w) Gw1)
    have hr := Option.some.inj hm
    subst hr
    refine ⟨_, _, rfl, res_2 rfl (rv_tmp rfl) (rv_tmp rfl), ?_⟩
    exact ⟨rfl, X2⟩
  ·
    replace hm := cnd_f c1 hm
    refine sw_skip ?_
    refine then_n ?_
    refine sw_seq ?_
    -- region 3 modular.go:33 DRAWS
    refine sw_drawN [([])] [] (.leaf [(0, 10), (1, 10), (2, 10), (3, 10), (4, 10), (5, 10), (6, 10), (7, 10)]) (by kernel_rfl) (by kernel_rfl) rfl (by kernel_rfl) ?_
    intro w2 Gw2 zw2
    refine sdz_leaf ?_
    refine dd_hn 0 rfl rfl rfl rfl (Kp.refl ([]) w2) (fun w hS => vv_move rfl) ?_
    refine dd_hn 0 rfl rfl rfl rfl (Kp.refl ([]) w2) (fun w hS => vv_cvUI cv_24_2 rfl) ?_
    refine dd_hn 0 rfl rfl rfl rfl (Kp.refl ([]) w2) (fun w hS => vv_move rfl) ?_
    refine dd_hn 0 rfl rfl rfl rfl (Kp.refl ([]) w2) (fun w hS => vv_move rfl) ?_
    have hb := bnd hm; clear hm; obtain ⟨x2, hx2, hm⟩ := hb
    refine dd_hn 0 rfl rfl rfl rfl (Kp.refl ([]) w2) (fun w hS => vv_remU (c := p0) (d := p1) rfl rfl hx2) ?_
    refine dd_hn 0 rfl rfl rfl rfl (Kp.refl ([]) w2) (fun w hS => vv_cvUI cv_24_2 rfl) ?_
    refine dd_hn 0 rfl rfl rfl rfl (Kp.refl ([]) w2) (fun w hS => vv_assign rfl) ?_
    refine dd_hn 0 rfl rfl rfl rfl (Kp.refl ([]) w2) (fun w hS => vv_assign rfl) ?_
    refine sd_done ?_
    refine sw_seq ?_
    -- region 4 modular.go:34
    refine sw_region [(0, 0), (1, 0)] rfl rfl rfl ?_
    refine sd_vv rfl rfl rfl (vv_assign rfl) ?_
    refine sd_vv rfl rfl rfl (vv_assign rfl) ?_
    refine sd_done ?_
    refine sw_seq ?_
    refine sw_block ?_
    have X3 : Gr w w2 := (Gr.trans (Gr.trans (Gr.refl w) Gw1) Gw2)
    refine sw_loopD (α := Nat × Int × Int × Int × Int) [6, 7, 8, 9, 10, 20, 21, 22, 23, 24, 25, 26, 27, 28, 29, 30, 31, 32, 33, 34, 35, 36] (fun ⟨n1, a7, a8, a9, a10⟩ => [(6, .int .i64 a7), (7, .int .i64 a8), (8, .int .i64 a9), (9, .int .i64 a10)]) (fun ⟨n1, a7, a8, a9, a10⟩ wr => (fixN (number_InvMod_L1 p1) n1 (a7, a8, a9, a10) = some r) ∧ Kz [] w2 wr) (fun ⟨n1, a7, a8, a9, a10⟩ => n1) ⟨FUEL, w64 (un p1), w64 (un x2), 0, 1⟩ ?_ ?_ ?_
    · repeat' first | exact trivial | refine ⟨rfl, ?_⟩
    · exact ⟨hm, Kz.refl _ _⟩
    · clear hm; rintro ⟨n1, a7, a8, a9, a10⟩ w3 ⟨hm, Kw3⟩
      have z4 := Kw3.size
      have hb := fix_succ hm; clear hm; obtain ⟨n1, rfl, hm⟩ := hb
      generalize hrec1 : fixN (number_InvMod_L1 p1) n1 = rec1 at hm
      unfold number_InvMod_L1 at hm
      try dsimp only at hm
      refine sw_seq ?_
      refine sw_seq ?_
      -- region 5 modular.go:35
      refine sw_region [(0, 0), (1, 0)] rfl rfl rfl ?_
      refine sd_vv rfl rfl rfl (vv_move rfl) ?_
      refine sd_vv rfl rfl rfl (vv_neq (a := a8) (b := 0) rfl rfl) ?_
      refine sd_done ?_
      refine sw_cond rfl (fun c2 => ?_) (fun c2 => ?_)
      ·
        replace hm := ite_t (of_decide_eq_true c2) hm
        refine sw_skip ?_
        refine then_n ?_
        refine sw_block ?_
        refine sw_seq ?_
        -- region 6 modular.go:36
        refine sw_region [(0, 0), (1, 0), (2, 0), (3, 0)] rfl rfl rfl ?_
        refine sd_vv rfl rfl rfl (vv_move rfl) ?_
        refine sd_vv rfl rfl rfl (vv_move rfl) ?_
        have hb := bnd hm; clear hm; obtain ⟨x11, hx11, hm⟩ := hb
        refine sd_vv rfl rfl rfl (vv_quoI (a := a7) (b := a8) rfl rfl hx11) ?_
        refine sd_vv rfl rfl rfl (vv_assign rfl) ?_
        refine sd_done ?_
        refine sw_seq ?_
        -- region 7 modular.go:37
        refine sw_region [(0, 0), (1, 0), (2, 0), (3, 0), (4, 0), (5, 0), (6, 0), (7, 0)] rfl rfl rfl ?_
        refine sd_vv rfl rfl rfl (vv_move rfl) ?_
        refine sd_vv rfl rfl rfl (vv_move rfl) ?_
        refine sd_vv rfl rfl rfl (vv_move rfl) ?_
        refine sd_vv rfl rfl rfl (vv_move rfl) ?_
        refine sd_vv rfl rfl rfl (vv_mul (k := .i64) (a := x11) (b := a8) rfl rfl) ?_
        refine sd_vv rfl rfl rfl (vv_sub (k := .i64) (a := a7) (b := w64 (x11 * a8)) rfl rfl) ?_
        refine sd_vv rfl rfl rfl (vv_assign rfl) ?_
        refine sd_vv rfl rfl rfl (vv_assign rfl) ?_
        refine sd_done ?_
        -- region 8 modular.go:38
        refine sw_region [(0, 0), (1, 0), (2, 0), (3, 0), (4, 0), (5, 0), (6, 0), (7, 0)] rfl rfl rfl ?_
        refine sd_vv rfl rfl rfl (vv_move rfl) ?_
        refine sd_vv rfl rfl rfl (vv_move rfl) ?_
        refine sd_vv rfl rfl rfl (vv_move rfl) ?_
        refine sd_vv rfl rfl rfl (vv_move rfl) ?_
        refine sd_vv rfl rfl rfl (vv_mul (k := .i64) (a := x11) (b := a10) rfl rfl) ?_
        refine sd_vv rfl rfl rfl (vv_sub (k := .i64) (a := a9) (b := w64 (x11 * a10)) rfl rfl) ?_
        refine sd_vv rfl rfl rfl (vv_assign rfl) ?_
        refine sd_vv rfl rfl rfl (vv_assign rfl) ?_
        refine sd_nil ?_
        refine block_n ?_
        have K_5 : Kz [] w2 w3 := Kw3
        subst hrec1
        refine ⟨rfl, ⟨n1, a8, w64 (a7 - (w64 (x11 * a8))), a10, w64 (a9 - (w64 (x11 * a10)))⟩, ?_, ⟨hm, K_5⟩, Nat.lt_succ_self _⟩
        repeat' first | exact trivial | refine ⟨rfl, ?_⟩
      ·
        replace hm := ite_f (of_decide_eq_false c2) hm
        refine sw_exit ?_
        refine then_x ?_
        refine then_x ?_
        refine block_x ?_
        refine then_n ?_
        refine sw_seq ?_
        refine sw_seq ?_
        -- region 9 modular.go:40
        refine sw_region [(0, 0), (1, 0)] rfl rfl rfl ?_
        refine sd_vv rfl rfl rfl (vv_move rfl) ?_
        refine sd_vv rfl rfl rfl (vv_neq (a := a7) (b := 1) rfl rfl) ?_
        refine sd_done ?_
        refine sw_cond rfl (fun c3 => ?_) (fun c3 => ?_)
        ·
          replace hm := ite_t (of_decide_eq_true c3) hm
          refine sw_seq ?_
          -- region 10 modular.go:41
          refine sw_region [(0, 0), (1, 0)] rfl rfl rfl ?_
          refine sd_vv rfl rfl rfl (vv_assign rfl) ?_
          refine sd_vv rfl rfl rfl (vv_assign rfl) ?_
          refine sd_done ?_
          refine sw_ret ?_
          refine then_r ?_
          have X6 : Gr w w3 := (Gr.kz X3 Kw3)
          have hr := Option.some.inj hm
          subst hr
          refine ⟨_, _, rfl, res_2 rfl (rv_tmp rfl) (rv_tmp rfl), ?_⟩
          exact ⟨rfl, X6⟩
        ·
          replace hm := ite_f (of_decide_eq_false c3) hm
          refine sw_skip ?_
          refine then_n ?_
          refine sw_seq ?_
          -- region 11 modular.go:43
          refine sw_region [(0, 0), (1, 0), (2, 0), (3, 0), (4, 0), (5, 0), (6, 0), (7, 0), (8, 0), (9, 0), (10, 0), (11, 0), (12, 0)] rfl rfl rfl ?_
          refine sd_vv rfl rfl rfl (vv_move rfl) ?_
          refine sd_vv rfl rfl rfl (vv_move rfl) ?_
          refine sd_vv rfl rfl rfl (vv_cvUI cv_24_2 rfl) ?_
          have hb := bnd hm; clear hm; obtain ⟨x12, hx12, hm⟩ := hb
          refine sd_vv rfl rfl rfl (vv_remI (a := a9) (b := w64 (un p1)) rfl rfl hx12) ?_
          refine sd_vv rfl rfl rfl (vv_move rfl) ?_
          refine sd_vv rfl rfl rfl (vv_cvUI cv_24_2 rfl) ?_
          refine sd_vv rfl rfl rfl (vv_add (k := .i64) (a := x12) (b := w64 (un p1)) rfl rfl) ?_
          refine sd_vv rfl rfl rfl (vv_move rfl) ?_
          refine sd_vv rfl rfl rfl (vv_cvUI cv_24_2 rfl) ?_
          have hb := bnd hm; clear hm; obtain ⟨x13, hx13, hm⟩ := hb
          refine sd_vv rfl rfl rfl (vv_remI (a := w64 (x12 + (w64 (un p1)))) (b := w64 (un p1)) rfl rfl hx13) ?_
          refine sd_vv rfl rfl rfl (vv_cvIU cv_2_24 rfl) ?_
          refine sd_vv rfl rfl rfl (vv_assign rfl) ?_
          refine sd_vv rfl rfl rfl (vv_assign rfl) ?_
          refine sd_done ?_
          refine sw_ret ?_
          have X7 : Gr w w3 := (Gr.kz X3 Kw3)
          have hr := Option.some.inj hm
          subst hr
          refine ⟨_, _, rfl, res_2 rfl (rv_tmp rfl) (rv_tmp rfl), ?_⟩
          exact ⟨rfl, X7⟩

set_option maxHeartbeats 2000000 in
theorem poly_field_div_w (p0 : BitVec 64) (p1 : BitVec 64) (p2 : BitVec 64)  (r : BitVec 64) (hm : poly_field_div p0 p1 p2 = some r) (w : World)   :
    Calls Try.prog 78 [wv p0, wv p1, wv p2].toArray w fun e w' => ∃ v, e = .returned v ∧ (v = wv r ∧ Gr w w') := by
  unfold poly_field_div at hm
  refine calls_of_sw (R := fun v w' => v = wv r ∧ Gr w w') 20 Try.func78 rfl rfl rfl ?_
  refine sw_seq ?_
  -- region 0 poly.go:28
  refine sw_region [(0, 0)] rfl rfl rfl ?_
  refine sd_vv rfl rfl rfl (vv_assign rfl) ?_
  refine sd_done ?_
  refine sw_seq ?_
  -- region 1 poly.go:29
  refine sw_region [(0, 0), (1, 0), (2, 0), (3, 0), (4, 0), (5, 0), (6, 0), (7, 0)] rfl rfl rfl ?_
  refine sd_vv rfl rfl rfl (vv_move rfl) ?_
  refine sd_vv rfl rfl rfl (vv_move rfl) ?_
  have hb := bnd hm; clear hm; obtain ⟨x1, hx1, hm⟩ := hb
  refine sd_ev rfl rfl rfl (ev_call en_123 rfl (number_InvMod_w p2 p0 _ hx1 _)) ?_
  rintro _ w1 ⟨rfl, Gw1⟩
  have z1 := Gw1.size
  refine sd_vv rfl rfl rfl (vv_move rfl) ?_
  refine sd_vv rfl rfl rfl (vv_extract rfl rfl) ?_
  refine sd_vv rfl rfl rfl (vv_extract rfl rfl) ?_
  refine sd_vv rfl rfl rfl (vv_assign rfl) ?_
  refine sd_vv rfl rfl rfl (vv_assign rfl) ?_
  refine sd_done ?_
  refine sw_seq ?_
  -- region 2 poly.go:30
  refine sw_region [(0, 0), (1, 0), (2, 0), (3, 0), (4, 0), (5, 0)] rfl rfl rfl ?_
  refine sd_vv rfl rfl rfl (vv_move rfl) ?_
  refine sd_vv rfl rfl rfl (vv_move rfl) ?_
  refine sd_vv rfl rfl rfl (vv_move rfl) ?_
  refine sd_ev rfl rfl rfl (ev_litT [p1, x1.1] uwc bsl_60_2 rfl rfl (ws_of rfl) rfl rfl rfl) ?_
  rintro vw2 w2 ⟨gw2, hbw2, Ow2, Gw2⟩
  have z2 := Gw2.size
  have lt3 := Ow2.lth
  have hb := bnd hm; clear hm; obtain ⟨x2, hx2, hm⟩ := hb
  refine sd_ev rfl rfl rfl (ev_call en_76 rfl (poly_field_mul_w p0 [p1, x1.1] _ _ _ _ _ hx2 _ (Own.rd Ow2))) ?_
  rintro _ w3 ⟨rfl, Gw3⟩
  have z4 := Gw3.size
  refine sd_vv rfl rfl rfl (vv_assign rfl) ?_
  refine sd_done ?_
  refine sw_ret ?_
  have X5 : Gr w w3 := (Gr.trans (Gr.trans (Gr.trans (Gr.refl w) Gw1) Gw2) Gw3)
  have hr := Option.some.inj hm
  subst hr
  refine ⟨_, _, rfl, res_1 rfl (rv_tmp rfl), ?_⟩
  exact ⟨rfl, X5⟩

set_option maxHeartbeats 2000000 in
theorem poly_Open_w (p0 : TScheme) (p1 : TSecret) (p2 : THeader) (vp1_1 : Value) (zp1_1 gp1_1 op1_1 : Nat) (vp2_0 : Value) (zp2_0 gp2_0 op2_0 : Nat) (vp2_2 : Value) (zp2_2 gp2_2 op2_2 : Nat) (r : W2 × Int) (hm : poly_Open p0 p1 p2 = some r) (w : World) (hp1_1 : Rd w zp1_1 gp1_1 op1_1 18 vp1_1 (p1.Labels.map TLabel.cs)) (hp2_0 : Rd w zp2_0 gp2_0 op2_0 18 vp2_0 (p2.Items.map TItem.cs)) (hp2_2 : Rd w zp2_2 gp2_2 op2_2 2 vp2_2 (p2.Points.map TPoint.cs))  :
    Calls Try.prog 27 [.agg (TScheme.cs p0).toArray, .agg (TSecret.cs p1 vp1_1).toArray, .agg (THeader.cs p2 vp2_0 vp2_2).toArray].toArray w fun e w' => ∃ v, e = .returned v ∧ (v = .tuple [kv r.1, .int .i64 r.2].toArray ∧ Gr w w') := by
  have lt1 := hp1_1.lth
  have lt2 := hp2_0.lth
  have lt3 := hp2_2.lth
  unfold poly_Open at hm
  refine calls_of_sw (R := fun v w' => v = .tuple [kv r.1, .int .i64 r.2].toArray ∧ Gr w w') 111 Try.func27 rfl rfl rfl ?_
  refine sw_seq ?_
  -- region 0 poly.go:189
  refine sw_region [(0, 0), (1, 0), (2, 0), (3, 0), (4, 0)] rfl rfl rfl ?_
  refine sd_ev rfl rfl rfl (ev_box (cs := TScheme.cs p0) rfl rfl) ?_
  rintro _ w1 ⟨b1, rfl, hbw1, Bw1, Gw1⟩
  have z4 := Gw1.size
  have lt5 := Bw1.lt
  refine sd_ev rfl rfl rfl (ev_box (cs := TSecret.cs p1 vp1_1) rfl rfl) ?_
  rintro _ w2 ⟨b2, rfl, hbw2, Bw2, Gw2⟩
  have z6 := Gw2.size
  have lt7 := Bw2.lt
  refine sd_ev rfl rfl rfl (ev_box (cs := THeader.cs p2 vp2_0 vp2_2) rfl rfl) ?_
  rintro _ w3 ⟨b3, rfl, hbw3, Bw3, Gw3⟩
  have z8 := Gw3.size
  have lt9 := Bw3.lt
  refine sd_ev rfl rfl rfl (ev_alloc (cs := kb k0) zv_23 rfl) ?_
  rintro _ w4 ⟨b4, rfl, hbw4, Bw4, Gw4⟩
  have z10 := Gw4.size
  have lt11 := Bw4.lt
  refine sd_vv rfl rfl rfl (vv_assign rfl) ?_
  refine sd_done ?_
  refine sw_seq ?_
  refine sw_seq ?_
  -- region 1 poly.go:190
  refine sw_region [(0, 0), (1, 0), (2, 0)] rfl rfl rfl ?_
  have B12 := (Bx.gr (Bx.gr (Bx.gr Bw1 Gw2) Gw3) Gw4)
  refine sd_vv rfl rfl rfl (vv_loadW agg_28 rfl B12 rfl) ?_
  have hb := bnd hm; clear hm; obtain ⟨x1, hx1, hm⟩ := hb
  refine sd_ev rfl rfl rfl (ev_call en_63 rfl (poly_valid_w p0 _ hx1 _)) ?_
  rintro _ w5 ⟨rfl, Gw5⟩
  have z13 := Gw5.size
  refine sd_vv rfl rfl rfl (vv_not rfl) ?_
  refine sd_done ?_
  refine sw_cond rfl (fun c1 => ?_) (fun c1 => ?_)
  ·
    replace hm := cnd_t c1 hm
    refine sw_seq ?_
    -- region 2 poly.go:191
    refine sw_region [(0, 0), (1, 0), (2, 0)] rfl rfl rfl ?_
    refine sd_vv rfl rfl rfl (vv_buildZ bz_23) ?_
    have B14 := (Bx.gr Bw4 Gw5)
    refine sd_ev rfl rfl rfl (ev_stM (cs' := kb k0) (vs := kb k0) (agg_23).siz rfl rfl rfl rfl rfl B14 rfl rfl) ?_
    rintro _ w6 ⟨Bw6, Mw6⟩
    have z15 := Mw6.size
    refine sd_vv rfl rfl rfl (vv_assign rfl) ?_
    refine sd_done ?_
    refine sw_ret ?_
    refine then_r ?_
    have X16 : Gr w w6 := (Gr.md (Gr.trans (Gr.trans (Gr.trans (Gr.trans (Gr.trans (Gr.refl w) Gw1) Gw2) Gw3) Gw4) Gw5) Mw6)
    have hr := Option.some.inj hm
    subst hr
    refine ⟨_, _, rfl, res_2 rfl (rv_cellW agg_23 rfl Bw6 rfl) (rv_tmp rfl), ?_⟩
    exact ⟨rfl, X16⟩
  ·
    replace hm := cnd_f c1 hm
    refine sw_skip ?_
    refine then_n ?_
    refine sw_seq ?_
    refine sw_seq ?_
    -- region 3 poly.go:193
    refine sw_region [(0, 0), (1, 0), (2, 0), (3, 0), (4, 0)] rfl rfl rfl ?_
    have B17 := (Bx.gr B12 Gw5)
    refine sd_vv rfl rfl rfl (vv_loadW agg_28 rfl B17 rfl) ?_
    have B18 := (Bx.gr (Bx.gr (Bx.gr Bw2 Gw3) Gw4) Gw5)
    refine sd_vv rfl rfl rfl (vv_loadW agg_33 rfl B18 rfl) ?_
    have B19 := (Bx.gr (Bx.gr Bw3 Gw4) Gw5)
    refine sd_vv rfl rfl rfl (vv_loadW agg_45 rfl B19 rfl) ?_
    have B20 := (Rd.gr (Rd.gr (Rd.gr (Rd.gr (Rd.gr hp1_1 Gw1) Gw2) Gw3) Gw4) Gw5)
    have B21 := (Rd.gr (Rd.gr (Rd.gr (Rd.gr (Rd.gr hp2_0 Gw1) Gw2) Gw3) Gw4) Gw5)
    have B22 := (Rd.gr (Rd.gr (Rd.gr (Rd.gr (Rd.gr hp2_2 Gw1) Gw2) Gw3) Gw4) Gw5)
    have hb := bnd hm; clear hm; obtain ⟨x2, hx2, hm⟩ := hb
    refine sd_ev rfl rfl rfl (ev_call en_74 rfl (poly_fits_w p0 p1 p2 _ _ _ _ _ _ _ _ _ _ _ _ _ hx2 _ B20 B21 B22)) ?_
    rintro _ w7 ⟨rfl, Gw7⟩
    have z23 := Gw7.size
    refine sd_vv rfl rfl rfl (vv_not rfl) ?_
    refine sd_done ?_
    refine sw_cond rfl (fun c2 => ?_) (fun c2 => ?_)
    ·
      replace hm := cnd_t c2 hm
      refine sw_seq ?_
      -- region 4 poly.go:194
      refine sw_region [(0, 0), (1, 0), (2, 0)] rfl rfl rfl ?_
      refine sd_vv rfl rfl rfl (vv_buildZ bz_23) ?_
      have B24 := (Bx.gr (Bx.gr Bw4 Gw5) Gw7)
      refine sd_ev rfl rfl rfl (ev_stM (cs' := kb k0) (vs := kb k0) (agg_23).siz rfl rfl rfl rfl rfl B24 rfl rfl) ?_
      rintro _ w8 ⟨Bw8, Mw8⟩
      have z25 := Mw8.size
      refine sd_vv rfl rfl rfl (vv_assign rfl) ?_
      refine sd_done ?_
      refine sw_ret ?_
      refine then_r ?_
      have X26 : Gr w w8 := (Gr.md (Gr.trans (Gr.trans (Gr.trans (Gr.trans (Gr.trans (Gr.trans (Gr.refl w) Gw1) Gw2) Gw3) Gw4) Gw5) Gw7) Mw8)
      have hr := Option.some.inj hm
      subst hr
      refine ⟨_, _, rfl, res_2 rfl (rv_cellW agg_23 rfl Bw8 rfl) (rv_tmp rfl), ?_⟩
      exact ⟨rfl, X26⟩
    ·
      replace hm := cnd_f c2 hm
      refine sw_skip ?_
      refine then_n ?_
      refine sw_seq ?_
      -- region 5 poly.go:196 DRAWS
      refine sw_drawN [([])] [] (.leaf [(0, 10), (1, 10), (2, 10), (3, 10), (4, 10), (5, 10), (6, 10), (7, 10), (8, 10), (12, 10), (13, 10), (9, 0), (10, 10), (11, 0), (14, 0), (15, 10)]) (by kernel_rfl) (by kernel_rfl) rfl (by kernel_rfl) ?_
      intro w9 Gw9 zw9
      refine sdz_leaf ?_
      refine dd_hn 0 rfl rfl rfl rfl (Kp.refl ([]) w9) (fun w hS => vv_fieldAddr fa_33_2 rfl) ?_
      refine dd_hn 0 rfl rfl rfl rfl (Kp.refl ([]) w9) (fun w hS => vv_fieldAddr fa_31_0 rfl) ?_
      have B27 := (Bx.gr (Bx.gr B18 Gw7) Gw9)
      refine dd_hn 0 rfl rfl rfl rfl (Kp.refl ([]) w9) (fun w hS => vv_load1 (v := wv p1.Share.X) one_24 rfl (Bx.kp B27 hS) rfl) ?_
      have B28 := (Bx.gr (Bx.gr B17 Gw7) Gw9)
      refine dd_hn 0 rfl rfl rfl rfl (Kp.refl ([]) w9) (fun w hS => vv_loadW agg_28 rfl (Bx.kp B28 hS) rfl) ?_
      refine dd_hn 0 rfl rfl rfl rfl (Kp.refl ([]) w9) (fun w hS => vv_fieldAddr fa_45_1 rfl) ?_
      have B29 := (Bx.gr (Bx.gr B19 Gw7) Gw9)
      refine dd_hn 0 rfl rfl rfl rfl (Kp.refl ([]) w9) (fun w hS => vv_load1 (v := wv p2.Base) one_24 rfl (Bx.kp B29 hS) rfl) ?_
      refine dd_hn 0 rfl rfl rfl rfl (Kp.refl ([]) w9) (fun w hS => vv_fieldAddr fa_33_2 rfl) ?_
      refine dd_hn 0 rfl rfl rfl rfl (Kp.refl ([]) w9) (fun w hS => vv_fieldAddr fa_31_1 rfl) ?_
      refine dd_hn 0 rfl rfl rfl rfl (Kp.refl ([]) w9) (fun w hS => vv_load1 (v := wv p1.Share.Y) one_24 rfl (Bx.kp B27 hS) rfl) ?_
      refine dd_hn 0 rfl rfl rfl rfl (Kp.refl ([]) w9) (fun w hS => vv_fieldAddr fa_45_2 rfl) ?_
      refine dd_hn 0 rfl rfl rfl rfl (Kp.refl ([]) w9) (fun w hS => vv_load1 (v := vp2_2) one_43 rfl (Bx.kp B29 hS) rfl) ?_
      have hb := bnd hm; clear hm; obtain ⟨x3, hx3, hm⟩ := hb
      refine dd_z [] rfl rfl rfl (ev_call en_69 rfl (poly_power_w p0 p2.Base p1.Share.Y _ hx3 _)) ⟨fun _ => tk0, trivial⟩ ?_
      rintro _ w10 ⟨rfl, Gw10⟩
      have z30 := Gw10.size
      refine ⟨Kz.ofGr Gw10, ?_⟩
      have S31 := (Kp.gr (Kp.refl ([]) w9) Gw10)
      refine dd_hn 0 rfl rfl rfl rfl S31 (fun w hS => vv_build (cs := TPoint.cs (TPoint.mk p1.Share.X x3)) bs_31 rfl rfl) ?_
      refine dd_z [] rfl rfl rfl (ev_litT [(TPoint.mk p1.Share.X x3)] TPoint.cs bsl_43_1 rfl rfl (ws_of rfl) rfl rfl rfl) ⟨fun _ => tk0, trivial⟩ ?_
      rintro vw11 w11 ⟨gw11, hbw11, Ow11, Gw11⟩
      have z32 := Gw11.size
      have lt33 := Ow11.lth
      refine ⟨Kz.ofGr Gw11, ?_⟩
      have B34 := (Rd.gr (Rd.gr (Rd.gr (Rd.gr B22 Gw7) Gw9) Gw10) Gw11)
      have hb := bnd hm; clear hm; obtain ⟨l4, hl4, hm⟩ := hb
      refine dd_z [(1, gw11)] rfl rfl rfl (ev_appT (l := [(TPoint.mk p1.Share.X x3)]) (m := p2.Points) (c := TPoint.cs) apt_43 rfl rfl Ow11 B34 hl4 (by decide)) ⟨fun _ => (tk1 ((.inr tk0) : 1 = 0 ∨ w9.heap.size ≤ gw11)), trivial⟩ ?_
      rintro vw12 w12 ⟨zw12, gw12, Ow12, Aw12, qw12, rw12⟩
      have z35 := Aw12.size
      refine ⟨Kz.ofKa Aw12, ?_⟩
      have S36 := (Kp.ka (Kp.gr S31 Gw11) Aw12 (tk1 ((.inr tk0) : 1 = 0 ∨ w9.heap.size ≤ gw11)))
      refine dd_hn 0 rfl rfl rfl rfl S36 (fun w hS => vv_assign rfl) ?_
      refine sd_done ?_
      refine sw_seq ?_
      refine sw_seq ?_
      -- region 6 poly.go:197
      refine sw_region [(0, 0), (1, 0), (2, 0)] rfl rfl rfl ?_
      refine sd_vv rfl rfl rfl (vv_move rfl) ?_
      have hb := bnd hm; clear hm; obtain ⟨x5, hx5, hm⟩ := hb
      refine sd_ev rfl rfl rfl (ev_call en_75 rfl (poly_distinct_w l4 _ _ _ _ _ hx5 _ (Own.rd Ow12))) ?_
      rintro _ w13 ⟨rfl, Gw13⟩
      have z37 := Gw13.size
      refine sd_vv rfl rfl rfl (vv_not rfl) ?_
      refine sd_done ?_
      refine sw_cond rfl (fun c3 => ?_) (fun c3 => ?_)
      ·
        replace hm := cnd_t c3 hm
        refine sw_seq ?_
        -- region 7 poly.go:198
        refine sw_region [(0, 0), (1, 0), (2, 0)] rfl rfl rfl ?_
        refine sd_vv rfl rfl rfl (vv_buildZ bz_23) ?_
        have B38 := (Bx.gr (Bx.ka (Bx.gr (Bx.gr (Bx.gr (Bx.gr (Bx.gr Bw4 Gw5) Gw7) Gw9) Gw10) Gw11) Aw12 (tk1 ((.inr tk0) : 1 = 0 ∨ gw11 ≠ b4))) Gw13)
        refine sd_ev rfl rfl rfl (ev_stM (cs' := kb k0) (vs := kb k0) (agg_23).siz rfl rfl rfl rfl rfl B38 rfl rfl) ?_
        rintro _ w14 ⟨Bw14, Mw14⟩
        have z39 := Mw14.size
        refine sd_vv rfl rfl rfl (vv_assign rfl) ?_
        refine sd_done ?_
        refine sw_ret ?_
        refine then_r ?_
        have X40 : Gr w w14 := (Gr.md (Gr.trans (Gr.ka (Gr.trans (Gr.trans (Gr.trans (Gr.trans (Gr.trans (Gr.trans (Gr.trans (Gr.trans (Gr.trans (Gr.refl w) Gw1) Gw2) Gw3) Gw4) Gw5) Gw7) Gw9) Gw10) Gw11) Aw12 (tk1 ((.inr tk0) : 1 = 0 ∨ w.heap.size ≤ gw11))) Gw13) Mw14)
        have hr := Option.some.inj hm
        subst hr
        refine ⟨_, _, rfl, res_2 rfl (rv_cellW agg_23 rfl Bw14 rfl) (rv_tmp rfl), ?_⟩
        exact ⟨rfl, X40⟩
      ·
        replace hm := cnd_f c3 hm
        refine sw_skip ?_
        refine then_n ?_
        refine sw_seq ?_
        -- region 8 poly.go:200
        refine sw_region [(0, 0), (1, 0), (2, 0), (3, 0), (4, 0)] rfl rfl rfl ?_
        refine sd_vv rfl rfl rfl (vv_fieldAddr fa_28_3 rfl) ?_
        refine sd_vv rfl rfl rfl (vv_fieldAddr fa_26_1 rfl) ?_
        have B41 := (Bx.gr (Bx.ka (Bx.gr (Bx.gr B28 Gw10) Gw11) Aw12 (tk1 ((.inr tk0) : 1 = 0 ∨ gw11 ≠ b1))) Gw13)
        refine sd_vv rfl rfl rfl (vv_load1 (v := wv p0.Group.Q) one_24 rfl B41 rfl) ?_
        refine sd_vv rfl rfl rfl (vv_assign rfl) ?_
        refine sd_vv rfl rfl rfl (vv_assign rfl) ?_
        refine sd_done ?_
        refine sw_seq ?_
        refine sw_seq ?_
        -- region 9 poly.go:201
        refine sw_region [(0, 0), (1, 0), (2, 0)] rfl rfl rfl ?_
        refine sd_vv rfl rfl rfl (vv_move rfl) ?_
        have B42 := (Own.gr Ow12 Gw13)
        refine sd_vv rfl rfl rfl (vv_lenT (l := l4) (c := TPoint.cs) Try.underlying43 rfl (Own.rd B42)) ?_
        refine sd_vv rfl rfl rfl (vv_move rfl) ?_
        refine sd_done ?_
        refine sw_block ?_
        have X43 : Gr w w13 := (Gr.trans (Gr.ka (Gr.trans (Gr.trans (Gr.trans (Gr.trans (Gr.trans (Gr.trans (Gr.trans (Gr.trans (Gr.trans (Gr.refl w) Gw1) Gw2) Gw3) Gw4) Gw5) Gw7) Gw9) Gw10) Gw11) Aw12 (tk1 ((.inr tk0) : 1 = 0 ∨ w.heap.size ≤ gw11))) Gw13)
        have B44 := (Rd.gr (Rd.ka (Rd.gr (Rd.gr (Rd.gr (Rd.gr B20 Gw7) Gw9) Gw10) Gw11) Aw12 (tk1 ((pv_sw (.inr (tk1 lt1.o))) : zp1_1 = 0 ∨ 1 = 0 ∨ gp1_1 ≠ gw11))) Gw13)
        have B45 := (Rd.gr (Rd.ka (Rd.gr (Rd.gr (Rd.gr (Rd.gr B21 Gw7) Gw9) Gw10) Gw11) Aw12 (tk1 ((pv_sw (.inr (tk1 lt2.o))) : zp2_0 = 0 ∨ 1 = 0 ∨ gp2_0 ≠ gw11))) Gw13)
        have B46 := (Rd.gr (Rd.ka B34 Aw12 (tk1 ((pv_sw (.inr (tk1 lt3.o))) : zp2_2 = 0 ∨ 1 = 0 ∨ gp2_2 ≠ gw11))) Gw13)
        refine sw_loopD (α := Nat × BitVec 64 × Int) [10, 11, 12, 13, 14, 15, 16, 52, 53, 54, 55, 56, 57, 58, 59, 60, 61, 62, 63, 64, 65, 66, 67, 68, 69, 70, 71, 72, 73, 74, 75, 76, 77, 78, 79, 80, 81, 82, 83, 84, 85, 86, 87, 88, 89, 90, 91, 92, 93, 94, 95, 96, 97, 98] (fun ⟨n1, a8, a9⟩ => [(10, wv a8), (52, .int .i64 a9)]) (fun ⟨n1, a8, a9⟩ wr => (fixN (poly_Open_L1 p0 p2 l4) n1 (a8, a9) = some r) ∧ Kz [] w13 wr) (fun ⟨n1, a8, a9⟩ => n1) ⟨FUEL, 1#64, 0⟩ ?_ ?_ ?_
        · repeat' first | exact trivial | refine ⟨rfl, ?_⟩
        · exact ⟨hm, Kz.refl _ _⟩
        · clear hm; rintro ⟨n1, a8, a9⟩ w15 ⟨hm, Kw15⟩
          have z47 := Kw15.size
          have hb := fix_succ hm; clear hm; obtain ⟨n1, rfl, hm⟩ := hb
          generalize hrec1 : fixN (poly_Open_L1 p0 p2 l4) n1 = rec1 at hm
          unfold poly_Open_L1 at hm
          try dsimp only at hm
          refine sw_seq ?_
          -- region 10 poly.go:201
          refine sw_region [(0, 0)] rfl rfl rfl ?_
          refine sd_vv rfl rfl rfl (vv_lss (a := a9) (b := (l4.length : Int)) rfl rfl) ?_
          refine sd_done ?_
          refine sw_seq ?_
          refine sw_cond rfl (fun c4 => ?_) (fun c4 => ?_)
          ·
            replace hm := ite_t (of_decide_eq_true c4) hm
            refine sw_skip ?_
            refine then_n ?_
            refine sw_seq ?_
            refine sw_block ?_
            refine sw_seq ?_
            -- region 11 poly.go:201
            refine sw_region [(0, 0), (1, 0), (2, 0), (3, 0), (4, 0), (5, 0)] rfl rfl rfl ?_
            refine sd_vv rfl rfl rfl (vv_move rfl) ?_
            have hb := bnd hm; clear hm; obtain ⟨y10, hy10, hm⟩ := hb
            have B48 := (Own.kz B42 Kw15)
            refine sd_vv rfl rfl rfl (vv_ixT (i := a9) Try.underlying43 (agg_31).siz rfl (Own.rd B48) rfl hy10) ?_
            refine sd_vv rfl rfl rfl (vv_elWT agg_31 rfl (Own.rd B48) hy10 (by first | rfl | omega)) ?_
            refine sd_ev rfl rfl rfl (ev_alloc (cs := TPoint.cs (TPoint.mk 0#64 0#64)) zv_31 rfl) ?_
            rintro _ w16 ⟨b16, rfl, hbw16, Bw16, Gw16⟩
            have z49 := Gw16.size
            have lt50 := Bw16.lt
            refine sd_vv rfl rfl rfl (vv_assign rfl) ?_
            refine sd_ev rfl rfl rfl (ev_stM (cs' := TPoint.cs y10) (vs := TPoint.cs y10) (agg_31).siz rfl rfl rfl rfl rfl Bw16 rfl rfl) ?_
            rintro _ w17 ⟨Bw17, Mw17⟩
            have z51 := Mw17.size
            refine sd_done ?_
            refine sw_seq ?_
            -- region 12 poly.go:202
            refine sw_region [(0, 0), (1, 0)] rfl rfl rfl ?_
            refine sd_vv rfl rfl rfl (vv_assign rfl) ?_
            refine sd_vv rfl rfl rfl (vv_assign rfl) ?_
            refine sd_done ?_
            refine sw_seq ?_
            refine sw_seq ?_
            -- region 13 poly.go:203
            refine sw_region [(0, 0), (1, 0), (2, 0)] rfl rfl rfl ?_
            refine sd_vv rfl rfl rfl (vv_move rfl) ?_
            have B52 := (Own.md (Own.gr B48 Gw16) Mw17 (tk1 ((pv_lt (A := (fun x => x ≠ b16)) qw12) : zw12 = 0 ∨ gw12 ≠ b16)))
            refine sd_vv rfl rfl rfl (vv_lenT (l := l4) (c := TPoint.cs) Try.underlying43 rfl (Own.rd B52)) ?_
            refine sd_vv rfl rfl rfl (vv_move rfl) ?_
            refine sd_done ?_
            refine sw_block ?_
            have X53 : Gr w w17 := (Gr.md (Gr.trans (Gr.kz X43 Kw15) Gw16) Mw17)
            have B54 := (Rd.md (Rd.gr (Rd.kz B44 Kw15) Gw16) Mw17 (tk1 ((pv_lt (A := (fun x => x ≠ b16)) lt1) : zp1_1 = 0 ∨ gp1_1 ≠ b16)))
            have B55 := (Rd.md (Rd.gr (Rd.kz B45 Kw15) Gw16) Mw17 (tk1 ((pv_lt (A := (fun x => x ≠ b16)) lt2) : zp2_0 = 0 ∨ gp2_0 ≠ b16)))
            have B56 := (Rd.md (Rd.gr (Rd.kz B46 Kw15) Gw16) Mw17 (tk1 ((pv_lt (A := (fun x => x ≠ b16)) lt3) : zp2_2 = 0 ∨ gp2_2 ≠ b16)))
            refine sw_loopD (α := Nat × BitVec 64 × BitVec 64 × Int) [13, 14, 15, 16, 59, 60, 61, 62, 63, 64, 65, 66, 67, 68, 69, 70, 71, 72, 73, 74, 75, 76, 77, 78, 79, 80, 81, 82, 83] (fun ⟨n2, a14, a15, a16⟩ => [(13, wv a14), (14, wv a15), (59, .int .i64 a16)]) (fun ⟨n2, a14, a15, a16⟩ wr => (fixN (poly_Open_L2 p0 l4 a8 a9 rec1 y10) n2 (a14, a15, a16) = some r) ∧ Kz [] w17 wr) (fun ⟨n2, a14, a15, a16⟩ => n2) ⟨FUEL, 1#64, 1#64, 0⟩ ?_ ?_ ?_
            · repeat' first | exact trivial | refine ⟨rfl, ?_⟩
            · exact ⟨hm, Kz.refl _ _⟩
            · clear hm; rintro ⟨n2, a14, a15, a16⟩ w18 ⟨hm, Kw18⟩
              have z57 := Kw18.size
              have hb := fix_succ hm; clear hm; obtain ⟨n2, rfl, hm⟩ := hb
              generalize hrec2 : fixN (poly_Open_L2 p0 l4 a8 a9 rec1 y10) n2 = rec2 at hm
              unfold poly_Open_L2 at hm
              try dsimp only at hm
              refine sw_seq ?_
              -- region 14 poly.go:203
              refine sw_region [(0, 0)] rfl rfl rfl ?_
              refine sd_vv rfl rfl rfl (vv_lss (a := a16) (b := (l4.length : Int)) rfl rfl) ?_
              refine sd_done ?_
              refine sw_seq ?_
              refine sw_cond rfl (fun c5 => ?_) (fun c5 => ?_)
              ·
                replace hm := ite_t (of_decide_eq_true c5) hm
                refine sw_skip ?_
                refine then_n ?_
                refine sw_seq ?_
                refine sw_block ?_
                refine sw_seq ?_
                -- region 15 poly.go:203
                refine sw_region [(0, 0), (1, 0), (2, 0), (3, 0), (4, 0), (5, 0)] rfl rfl rfl ?_
                refine sd_vv rfl rfl rfl (vv_move rfl) ?_
                have hb := bnd hm; clear hm; obtain ⟨y17, hy17, hm⟩ := hb
                have B58 := (Own.kz B52 Kw18)
                refine sd_vv rfl rfl rfl (vv_ixT (i := a16) Try.underlying43 (agg_31).siz rfl (Own.rd B58) rfl hy17) ?_
                refine sd_vv rfl rfl rfl (vv_elWT agg_31 rfl (Own.rd B58) hy17 (by first | rfl | omega)) ?_
                refine sd_ev rfl rfl rfl (ev_alloc (cs := TPoint.cs (TPoint.mk 0#64 0#64)) zv_31 rfl) ?_
                rintro _ w19 ⟨b19, rfl, hbw19, Bw19, Gw19⟩
                have z59 := Gw19.size
                have lt60 := Bw19.lt
                refine sd_vv rfl rfl rfl (vv_assign rfl) ?_
                refine sd_ev rfl rfl rfl (ev_stM (cs' := TPoint.cs y17) (vs := TPoint.cs y17) (agg_31).siz rfl rfl rfl rfl rfl Bw19 rfl rfl) ?_
                rintro _ w20 ⟨Bw20, Mw20⟩
                have z61 := Mw20.size
                refine sd_done ?_
                refine sw_seq ?_
                -- region 16 poly.go:204
                refine sw_region [(0, 0), (1, 0), (2, 0)] rfl rfl rfl ?_
                refine sd_vv rfl rfl rfl (vv_move rfl) ?_
                refine sd_vv rfl rfl rfl (vv_move rfl) ?_
                refine sd_vv rfl rfl rfl (vv_neq (a := a16) (b := a9) rfl rfl) ?_
                refine sd_done ?_
                refine sw_cond rfl (fun c6 => ?_) (fun c6 => ?_)
                ·
                  replace hm := ite_t (of_decide_eq_true c6) hm
                  -- region 17 poly.go:205 DRAWS
                  refine sw_drawN [([])] [] (.leaf [(0, 10), (1, 10), (2, 10), (3, 10), (6, 10), (7, 10), (8, 10), (9, 10), (10, 10), (11, 10), (12, 10), (4, 0), (5, 0), (13, 0), (14, 0), (15, 0), (16, 10), (17, 10)]) (by kernel_rfl) (by kernel_rfl) rfl (by kernel_rfl) ?_
                  intro w21 Gw21 zw21
                  refine sdz_leaf ?_
                  refine dd_hn 0 rfl rfl rfl rfl (Kp.refl ([]) w21) (fun w hS => vv_move rfl) ?_
                  refine dd_hn 0 rfl rfl rfl rfl (Kp.refl ([]) w21) (fun w hS => vv_move rfl) ?_
                  refine dd_hn 0 rfl rfl rfl rfl (Kp.refl ([]) w21) (fun w hS => vv_fieldAddr fa_31_0 rfl) ?_
                  have B62 := (Bx.gr Bw20 Gw21)
                  refine dd_hn 0 rfl rfl rfl rfl (Kp.refl ([]) w21) (fun w hS => vv_load1 (v := wv y17.X) one_24 rfl (Bx.kp B62 hS) rfl) ?_
                  refine dd_hn 0 rfl rfl rfl rfl (Kp.refl ([]) w21) (fun w hS => vv_move rfl) ?_
                  refine dd_hn 0 rfl rfl rfl rfl (Kp.refl ([]) w21) (fun w hS => vv_move rfl) ?_
                  refine dd_hn 0 rfl rfl rfl rfl (Kp.refl ([]) w21) (fun w hS => vv_move rfl) ?_
                  refine dd_hn 0 rfl rfl rfl rfl (Kp.refl ([]) w21) (fun w hS => vv_fieldAddr fa_31_0 rfl) ?_
                  refine dd_hn 0 rfl rfl rfl rfl (Kp.refl ([]) w21) (fun w hS => vv_load1 (v := wv y17.X) one_24 rfl (Bx.kp B62 hS) rfl) ?_
                  refine dd_hn 0 rfl rfl rfl rfl (Kp.refl ([]) w21) (fun w hS => vv_fieldAddr fa_31_0 rfl) ?_
                  have B63 := (Bx.gr (Bx.md (Bx.gr (Bx.kz Bw17 Kw18) Gw19) Mw20) Gw21)
                  refine dd_hn 0 rfl rfl rfl rfl (Kp.refl ([]) w21) (fun w hS => vv_load1 (v := wv y10.X) one_24 rfl (Bx.kp B63 hS) rfl) ?_
                  refine dd_z [] rfl rfl rfl (ev_litT [a14, y17.X] uwc bsl_60_2 rfl rfl (ws_of rfl) rfl rfl rfl) ⟨fun _ => tk0, trivial⟩ ?_
                  rintro vw22 w22 ⟨gw22, hbw22, Ow22, Gw22⟩
                  have z64 := Gw22.size
                  have lt65 := Ow22.lth
                  refine ⟨Kz.ofGr Gw22, ?_⟩
                  have hb := bnd hm; clear hm; obtain ⟨x18, hx18, hm⟩ := hb
                  refine dd_z [] rfl rfl rfl (ev_call en_76 rfl (poly_field_mul_w p0.Group.Q [a14, y17.X] _ _ _ _ _ hx18 _ (Own.rd Ow22))) ⟨fun _ => tk0, trivial⟩ ?_
                  rintro _ w23 ⟨rfl, Gw23⟩
                  have z66 := Gw23.size
                  refine ⟨Kz.ofGr Gw23, ?_⟩
                  have hb := bnd hm; clear hm; obtain ⟨x19, hx19, hm⟩ := hb
                  refine dd_z [] rfl rfl rfl (ev_call en_77 rfl (poly_field_sub_w p0.Group.Q y17.X y10.X _ hx19 _)) ⟨fun _ => tk0, trivial⟩ ?_
                  rintro _ w24 ⟨rfl, Gw24⟩
                  have z67 := Gw24.size
                  refine ⟨Kz.ofGr Gw24, ?_⟩
                  refine dd_z [] rfl rfl rfl (ev_litT [a15, x19] uwc bsl_60_2 rfl rfl (ws_of rfl) rfl rfl rfl) ⟨fun _ => tk0, trivial⟩ ?_
                  rintro vw25 w25 ⟨gw25, hbw25, Ow25, Gw25⟩
                  have z68 := Gw25.size
                  have lt69 := Ow25.lth
                  refine ⟨Kz.ofGr Gw25, ?_⟩
                  have hb := bnd hm; clear hm; obtain ⟨x20, hx20, hm⟩ := hb
                  refine dd_z [] rfl rfl rfl (ev_call en_76 rfl (poly_field_mul_w p0.Group.Q [a15, x19] _ _ _ _ _ hx20 _ (Own.rd Ow25))) ⟨fun _ => tk0, trivial⟩ ?_
                  rintro _ w26 ⟨rfl, Gw26⟩
                  have z70 := Gw26.size
                  refine ⟨Kz.ofGr Gw26, ?_⟩
                  have S71 := (Kp.gr (Kp.gr (Kp.gr (Kp.gr (Kp.gr (Kp.refl ([]) w21) Gw22) Gw23) Gw24) Gw25) Gw26)
                  refine dd_hn 0 rfl rfl rfl rfl S71 (fun w hS => vv_assign rfl) ?_
                  refine dd_hn 0 rfl rfl rfl rfl S71 (fun w hS => vv_assign rfl) ?_
                  refine sd_nil ?_
                  refine block_n ?_
                  refine then_n ?_
                  -- region 18 poly.go:203
                  refine sw_region [(0, 0), (1, 0)] rfl rfl rfl ?_
                  refine sd_vv rfl rfl rfl (vv_add (k := .i64) (a := a16) (b := 1) rfl rfl) ?_
                  refine sd_vv rfl rfl rfl (vv_move rfl) ?_
                  refine sd_nil ?_
                  have K_72 : Kz [] w17 w26 := (Kz.gr (Kz.gr (Kz.gr (Kz.gr (Kz.gr (Kz.gr (Kz.md (Kz.gr Kw18 Gw19) Mw20) Gw21) Gw22) Gw23) Gw24) Gw25) Gw26)
                  subst hrec2
                  refine ⟨rfl, ⟨n2, x18, x20, w64 (a16 + 1)⟩, ?_, ⟨hm, K_72⟩, Nat.lt_succ_self _⟩
                  repeat' first | exact trivial | refine ⟨rfl, ?_⟩
                ·
                  replace hm := ite_f (of_decide_eq_false c6) hm
                  refine sw_skip ?_
                  refine block_n ?_
                  refine then_n ?_
                  -- region 18 poly.go:203
                  refine sw_region [(0, 0), (1, 0)] rfl rfl rfl ?_
                  refine sd_vv rfl rfl rfl (vv_add (k := .i64) (a := a16) (b := 1) rfl rfl) ?_
                  refine sd_vv rfl rfl rfl (vv_move rfl) ?_
                  refine sd_nil ?_
                  have K_73 : Kz [] w17 w20 := (Kz.md (Kz.gr Kw18 Gw19) Mw20)
                  subst hrec2
                  refine ⟨rfl, ⟨n2, a14, a15, w64 (a16 + 1)⟩, ?_, ⟨hm, K_73⟩, Nat.lt_succ_self _⟩
                  repeat' first | exact trivial | refine ⟨rfl, ?_⟩
              ·
                replace hm := ite_f (of_decide_eq_false c5) hm
                refine sw_exit ?_
                refine then_x ?_
                refine then_x ?_
                refine block_x ?_
                refine then_n ?_
                -- region 19 poly.go:208 DRAWS
                refine sw_drawN [([])] [] (.leaf [(0, 10), (1, 10), (2, 10), (3, 10), (4, 10), (5, 10), (6, 10), (7, 10), (8, 10), (9, 10), (10, 0), (11, 0), (12, 0), (13, 0), (14, 10)]) (by kernel_rfl) (by kernel_rfl) rfl (by kernel_rfl) ?_
                intro w27 Gw27 zw27
                refine sdz_leaf ?_
                refine dd_hn 0 rfl rfl rfl rfl (Kp.refl ([]) w27) (fun w hS => vv_fieldAddr fa_28_3 rfl) ?_
                refine dd_hn 0 rfl rfl rfl rfl (Kp.refl ([]) w27) (fun w hS => vv_fieldAddr fa_26_0 rfl) ?_
                have B74 := (Bx.gr (Bx.kz (Bx.md (Bx.gr (Bx.kz B41 Kw15) Gw16) Mw17) Kw18) Gw27)
                refine dd_hn 0 rfl rfl rfl rfl (Kp.refl ([]) w27) (fun w hS => vv_load1 (v := wv p0.Group.P) one_24 rfl (Bx.kp B74 hS) rfl) ?_
                refine dd_hn 0 rfl rfl rfl rfl (Kp.refl ([]) w27) (fun w hS => vv_move rfl) ?_
                refine dd_hn 0 rfl rfl rfl rfl (Kp.refl ([]) w27) (fun w hS => vv_loadW agg_28 rfl (Bx.kp B74 hS) rfl) ?_
                refine dd_hn 0 rfl rfl rfl rfl (Kp.refl ([]) w27) (fun w hS => vv_fieldAddr fa_31_1 rfl) ?_
                have B75 := (Bx.gr (Bx.kz Bw17 Kw18) Gw27)
                refine dd_hn 0 rfl rfl rfl rfl (Kp.refl ([]) w27) (fun w hS => vv_load1 (v := wv y10.Y) one_24 rfl (Bx.kp B75 hS) rfl) ?_
                refine dd_hn 0 rfl rfl rfl rfl (Kp.refl ([]) w27) (fun w hS => vv_move rfl) ?_
                refine dd_hn 0 rfl rfl rfl rfl (Kp.refl ([]) w27) (fun w hS => vv_move rfl) ?_
                refine dd_hn 0 rfl rfl rfl rfl (Kp.refl ([]) w27) (fun w hS => vv_move rfl) ?_
                have hb := bnd hm; clear hm; obtain ⟨x21, hx21, hm⟩ := hb
                refine dd_z [] rfl rfl rfl (ev_call en_78 rfl (poly_field_div_w p0.Group.Q a14 a15 _ hx21 _)) ⟨fun _ => tk0, trivial⟩ ?_
                rintro _ w28 ⟨rfl, Gw28⟩
                have z76 := Gw28.size
                refine ⟨Kz.ofGr Gw28, ?_⟩
                have hb := bnd hm; clear hm; obtain ⟨x22, hx22, hm⟩ := hb
                refine dd_z [] rfl rfl rfl (ev_call en_69 rfl (poly_power_w p0 y10.Y x21 _ hx22 _)) ⟨fun _ => tk0, trivial⟩ ?_
                rintro _ w29 ⟨rfl, Gw29⟩
                have z77 := Gw29.size
                refine ⟨Kz.ofGr Gw29, ?_⟩
                refine dd_z [] rfl rfl rfl (ev_litT [a8, x22] uwc bsl_60_2 rfl rfl (ws_of rfl) rfl rfl rfl) ⟨fun _ => tk0, trivial⟩ ?_
                rintro vw30 w30 ⟨gw30, hbw30, Ow30, Gw30⟩
                have z78 := Gw30.size
                have lt79 := Ow30.lth
                refine ⟨Kz.ofGr Gw30, ?_⟩
                have hb := bnd hm; clear hm; obtain ⟨x23, hx23, hm⟩ := hb
                refine dd_z [] rfl rfl rfl (ev_call en_76 rfl (poly_field_mul_w p0.Group.P [a8, x22] _ _ _ _ _ hx23 _ (Own.rd Ow30))) ⟨fun _ => tk0, trivial⟩ ?_
                rintro _ w31 ⟨rfl, Gw31⟩
                have z80 := Gw31.size
                refine ⟨Kz.ofGr Gw31, ?_⟩
                have S81 := (Kp.gr (Kp.gr (Kp.gr (Kp.gr (Kp.refl ([]) w27) Gw28) Gw29) Gw30) Gw31)
                refine dd_hn 0 rfl rfl rfl rfl S81 (fun w hS => vv_assign rfl) ?_
                refine sd_nil ?_
                refine block_n ?_
                refine then_n ?_
                -- region 20 poly.go:201
                refine sw_region [(0, 0), (1, 0)] rfl rfl rfl ?_
                refine sd_vv rfl rfl rfl (vv_add (k := .i64) (a := a9) (b := 1) rfl rfl) ?_
                refine sd_vv rfl rfl rfl (vv_move rfl) ?_
                refine sd_nil ?_
                have K_82 : Kz [] w13 w31 := (Kz.gr (Kz.gr (Kz.gr (Kz.gr (Kz.gr (Kz.kz (Kz.md (Kz.gr Kw15 Gw16) Mw17) Kw18) Gw27) Gw28) Gw29) Gw30) Gw31)
                subst hrec1
                refine ⟨rfl, ⟨n1, x23, w64 (a9 + 1)⟩, ?_, ⟨hm, K_82⟩, Nat.lt_succ_self _⟩
                repeat' first | exact trivial | refine ⟨rfl, ?_⟩
          ·
            replace hm := ite_f (of_decide_eq_false c4) hm
            refine sw_exit ?_
            refine then_x ?_
            refine then_x ?_
            refine block_x ?_
            refine then_n ?_
            have X83 : Gr w w15 := (Gr.kz X43 Kw15)
            refine sw_joinD (β := W2 × Nat) [17, 99, 100, 101, 102, 103] (fun ⟨a25, bq24⟩ => [(17, .pointer (some ⟨bq24, 0, none⟩))]) (fun ⟨a25, bq24⟩ wr => (poly_Open_J3 p2 a25 = some r) ∧ Bx wr bq24 23 (kb a25) ∧ w15.heap.size ≤ bq24 ∧ Kz [] w15 wr) ?_ ?_
            · clear hm; rintro ⟨a25, bq24⟩ w32 ⟨hm, Fw32_0, Fw32_1, Kw32⟩
              have z84 := Kw32.size
              have lt85 := Fw32_0.lt
              unfold poly_Open_J3 at hm
              refine sw_seq ?_
              refine sw_seq ?_
              -- region 22 poly.go:211 DRAWS
              refine sw_drawN [([])] [] (.leaf [(0, 10), (2, 10), (3, 10), (1, 0), (4, 10)]) (by kernel_rfl) (by kernel_rfl) rfl (by kernel_rfl) ?_
              intro w33 Gw33 zw33
              refine sdz_leaf ?_
              have B86 := (Bx.gr Fw32_0 Gw33)
              refine dd_hn 0 rfl rfl rfl rfl (Kp.refl ([]) w33) (fun w hS => vv_loadW agg_23 rfl (Bx.kp B86 hS) rfl) ?_
              refine dd_hn 0 rfl rfl rfl rfl (Kp.refl ([]) w33) (fun w hS => vv_fieldAddr fa_45_4 rfl) ?_
              have B87 := (Bx.gr (Bx.kz (Bx.kz (Bx.gr (Bx.ka (Bx.gr (Bx.gr B29 Gw10) Gw11) Aw12 (tk1 ((.inr tk0) : 1 = 0 ∨ gw11 ≠ b3))) Gw13) Kw15) Kw32) Gw33)
              refine dd_hn 0 rfl rfl rfl rfl (Kp.refl ([]) w33) (fun w hS => vv_loadM (vs := kb p2.Check) agg_23 rfl (Bx.kp B87 hS) rfl rfl) ?_
              refine dd_z [] rfl rfl rfl (ev_call en_52 rfl (derive_c a25 (un8 53#8) (un8_nn _) (un8_le _) 0#64 _)) ⟨fun _ => tk0, trivial⟩ ?_
              rintro _ w34 ⟨rfl, Gw34⟩
              have z88 := Gw34.size
              refine ⟨Kz.ofGr Gw34, ?_⟩
              have S89 := (Kp.gr (Kp.refl ([]) w33) Gw34)
              refine dd_hn 0 rfl rfl rfl rfl S89 (fun w hS => vv_neqS (cf := kb) (a := drv a25 (un8 53#8) 0#64) (b := p2.Check) eqt_23 rfl rfl rfl rfl (fun h => kb_inj h)) ?_
              refine sd_done ?_
              refine sw_cond rfl (fun c7 => ?_) (fun c7 => ?_)
              ·
                replace hm := ite_t (of_decide_eq_true c7) hm
                refine sw_seq ?_
                -- region 23 poly.go:212
                refine sw_region [(0, 0), (1, 0), (2, 0)] rfl rfl rfl ?_
                refine sd_vv rfl rfl rfl (vv_buildZ bz_23) ?_
                have B90 := (Bx.gr (Bx.gr (Bx.kz (Bx.kz (Bx.gr (Bx.ka (Bx.gr (Bx.gr (Bx.gr (Bx.gr (Bx.gr Bw4 Gw5) Gw7) Gw9) Gw10) Gw11) Aw12 (tk1 ((.inr tk0) : 1 = 0 ∨ gw11 ≠ b4))) Gw13) Kw15) Kw32) Gw33) Gw34)
                refine sd_ev rfl rfl rfl (ev_stM (cs' := kb k0) (vs := kb k0) (agg_23).siz rfl rfl rfl rfl rfl B90 rfl rfl) ?_
                rintro _ w35 ⟨Bw35, Mw35⟩
                have z91 := Mw35.size
                refine sd_vv rfl rfl rfl (vv_assign rfl) ?_
                refine sd_done ?_
                refine sw_ret ?_
                refine then_r ?_
                have X92 : Gr w w35 := (Gr.md (Gr.trans (Gr.trans (Gr.kz X83 Kw32) Gw33) Gw34) Mw35)
                have hr := Option.some.inj hm
                subst hr
                refine ⟨_, _, rfl, res_2 rfl (rv_cellW agg_23 rfl Bw35 rfl) (rv_tmp rfl), ?_⟩
                exact ⟨rfl, X92⟩
              ·
                replace hm := ite_f (of_decide_eq_false c7) hm
                refine sw_skip ?_
                refine then_n ?_
                refine sw_seq ?_
                -- region 24 poly.go:214
                refine sw_region [(0, 0), (1, 0), (2, 0)] rfl rfl rfl ?_
                have B93 := (Bx.gr B86 Gw34)
                refine sd_vv rfl rfl rfl (vv_loadW agg_23 rfl B93 rfl) ?_
                have B94 := (Bx.gr (Bx.gr (Bx.kz (Bx.kz (Bx.gr (Bx.ka (Bx.gr (Bx.gr (Bx.gr (Bx.gr (Bx.gr Bw4 Gw5) Gw7) Gw9) Gw10) Gw11) Aw12 (tk1 ((.inr tk0) : 1 = 0 ∨ gw11 ≠ b4))) Gw13) Kw15) Kw32) Gw33) Gw34)
                refine sd_ev rfl rfl rfl (ev_stM (cs' := kb a25) (vs := kb a25) (agg_23).siz rfl rfl rfl rfl rfl B94 rfl rfl) ?_
                rintro _ w36 ⟨Bw36, Mw36⟩
                have z95 := Mw36.size
                refine sd_vv rfl rfl rfl (vv_assign rfl) ?_
                refine sd_done ?_
                refine sw_ret ?_
                have X96 : Gr w w36 := (Gr.md (Gr.trans (Gr.trans (Gr.kz X83 Kw32) Gw33) Gw34) Mw36)
                have hr := Option.some.inj hm
                subst hr
                refine ⟨_, _, rfl, res_2 rfl (rv_cellW agg_23 rfl Bw36 rfl) (rv_tmp rfl), ?_⟩
                exact ⟨rfl, X96⟩
            ·
              -- region 21 poly.go:210 DRAWS
              refine sw_drawN [([])] [] (.fork [(0, 10), (2, 10), (3, 10)] (.fork [(1, 0)] (.leaf [(4, 0), (5, 0), (6, 0)]) (.leaf [(5, 0), (4, 0), (6, 0)])) (.leaf [(5, 0), (1, 0), (4, 0), (6, 0)])) (by kernel_rfl) (by kernel_rfl) rfl (by kernel_rfl) ?_
              intro w37 Gw37 zw37
              refine sdz_fork ?_
              refine dd_hn 0 rfl rfl rfl rfl (Kp.refl ([]) w37) (fun w hS => vv_move rfl) ?_
              refine dd_hn 0 rfl rfl rfl rfl (Kp.refl ([]) w37) (fun w hS => vv_fieldAddr fa_45_3 rfl) ?_
              have B97 := (Bx.gr (Bx.kz (Bx.gr (Bx.ka (Bx.gr (Bx.gr B29 Gw10) Gw11) Aw12 (tk1 ((.inr tk0) : 1 = 0 ∨ gw11 ≠ b3))) Gw13) Kw15) Gw37)
              refine dd_hn 0 rfl rfl rfl rfl (Kp.refl ([]) w37) (fun w hS => vv_loadM (vs := kb p2.Box) agg_23 rfl (Bx.kp B97 hS) rfl rfl) ?_
              refine sd_fork ?_ ?_
              ·
                refine sdz_fork ?_
                have hb := bnd hm; clear hm; obtain ⟨x26, hx26, hm⟩ := hb
                refine dd_z [] rfl rfl rfl (ev_call en_72 rfl (poly_maskKey_w a8 _ hx26 _)) ⟨fun _ => tk0, trivial⟩ ?_
                rintro _ w38 ⟨rfl, Gw38⟩
                have z98 := Gw38.size
                refine ⟨Kz.ofGr Gw38, ?_⟩
                refine sd_fork ?_ ?_
                ·
                  refine sdz_leaf ?_
                  refine dd_z [] rfl rfl rfl (ev_call en_79 rfl (decr_c x26 p2.Box _)) ⟨fun _ => tk0, trivial⟩ ?_
                  rintro _ w39 ⟨rfl, Gw39⟩
                  have z99 := Gw39.size
                  refine ⟨Kz.ofGr Gw39, ?_⟩
                  refine dd_z [] rfl rfl rfl (ev_alloc (cs := kb k0) zv_23 rfl) ⟨fun _ => tk0, trivial⟩ ?_
                  rintro _ w40 ⟨b40, rfl, hbw40, Bw40, Gw40⟩
                  have z100 := Gw40.size
                  have lt101 := Bw40.lt
                  refine ⟨Kz.ofGr Gw40, ?_⟩
                  refine dd_z [(1, b40)] rfl rfl rfl (ev_stM (cs' := kb (decr x26 p2.Box)) (vs := kb (decr x26 p2.Box)) (agg_23).siz rfl rfl rfl rfl rfl Bw40 rfl (by obtain ⟨kk0, hk0⟩ := ex_of (decr x26 p2.Box); rw [← hk0]; first | done | rfl)) ⟨fun _ => tk0, trivial⟩ ?_
                  rintro _ w41 ⟨Bw41, Mw41⟩
                  have z102 := Mw41.size
                  refine ⟨Kz.ofMd Mw41, ?_⟩
                  refine sd_nil ?_
                  have K_103 : Kz [] w15 w41 := (Kz.md (Kz.gr (Kz.gr (Kz.gr (Kz.gr (Kz.refl _ _) Gw37) Gw38) Gw39) Gw40) Mw41)
                  refine ⟨rfl, ⟨decr x26 p2.Box, b40⟩, ?_, hm, Bw41, (by omega), K_103⟩
                  repeat' first | exact trivial | refine ⟨rfl, ?_⟩
                ·
                  refine sdz_leaf ?_
                  refine dd_z [] rfl rfl rfl (ev_alloc (cs := kb k0) zv_23 rfl) ⟨fun _ => tk0, trivial⟩ ?_
                  rintro _ w42 ⟨b42, rfl, hbw42, Bw42, Gw42⟩
                  have z104 := Gw42.size
                  have lt105 := Bw42.lt
                  refine ⟨Kz.ofGr Gw42, ?_⟩
                  refine dd_z [] rfl rfl rfl (ev_call en_79 rfl (decr_c x26 p2.Box _)) ⟨fun _ => tk0, trivial⟩ ?_
                  rintro _ w43 ⟨rfl, Gw43⟩
                  have z106 := Gw43.size
                  refine ⟨Kz.ofGr Gw43, ?_⟩
                  have B107 := (Bx.gr Bw42 Gw43)
                  refine dd_z [(1, b42)] rfl rfl rfl (ev_stM (cs' := kb (decr x26 p2.Box)) (vs := kb (decr x26 p2.Box)) (agg_23).siz rfl rfl rfl rfl rfl B107 rfl (by obtain ⟨kk0, hk0⟩ := ex_of (decr x26 p2.Box); rw [← hk0]; first | done | rfl)) ⟨fun _ => tk0, trivial⟩ ?_
                  rintro _ w44 ⟨Bw44, Mw44⟩
                  have z108 := Mw44.size
                  refine ⟨Kz.ofMd Mw44, ?_⟩
                  refine sd_nil ?_
                  have K_109 : Kz [] w15 w44 := (Kz.md (Kz.gr (Kz.gr (Kz.gr (Kz.gr (Kz.refl _ _) Gw37) Gw38) Gw42) Gw43) Mw44)
                  refine ⟨rfl, ⟨decr x26 p2.Box, b42⟩, ?_, hm, Bw44, (by omega), K_109⟩
                  repeat' first | exact trivial | refine ⟨rfl, ?_⟩
              ·
                refine sdz_leaf ?_
                refine dd_z [] rfl rfl rfl (ev_alloc (cs := kb k0) zv_23 rfl) ⟨fun _ => tk0, trivial⟩ ?_
                rintro _ w45 ⟨b45, rfl, hbw45, Bw45, Gw45⟩
                have z110 := Gw45.size
                have lt111 := Bw45.lt
                refine ⟨Kz.ofGr Gw45, ?_⟩
                have hb := bnd hm; clear hm; obtain ⟨x27, hx27, hm⟩ := hb
                refine dd_z [] rfl rfl rfl (ev_call en_72 rfl (poly_maskKey_w a8 _ hx27 _)) ⟨fun _ => tk0, trivial⟩ ?_
                rintro _ w46 ⟨rfl, Gw46⟩
                have z112 := Gw46.size
                refine ⟨Kz.ofGr Gw46, ?_⟩
                refine dd_z [] rfl rfl rfl (ev_call en_79 rfl (decr_c x27 p2.Box _)) ⟨fun _ => tk0, trivial⟩ ?_
                rintro _ w47 ⟨rfl, Gw47⟩
                have z113 := Gw47.size
                refine ⟨Kz.ofGr Gw47, ?_⟩
                have B114 := (Bx.gr (Bx.gr Bw45 Gw46) Gw47)
                refine dd_z [(1, b45)] rfl rfl rfl (ev_stM (cs' := kb (decr x27 p2.Box)) (vs := kb (decr x27 p2.Box)) (agg_23).siz rfl rfl rfl rfl rfl B114 rfl (by obtain ⟨kk0, hk0⟩ := ex_of (decr x27 p2.Box); rw [← hk0]; first | done | rfl)) ⟨fun _ => tk0, trivial⟩ ?_
                rintro _ w48 ⟨Bw48, Mw48⟩
                have z115 := Mw48.size
                refine ⟨Kz.ofMd Mw48, ?_⟩
                refine sd_nil ?_
                have K_116 : Kz [] w15 w48 := (Kz.md (Kz.gr (Kz.gr (Kz.gr (Kz.gr (Kz.refl _ _) Gw37) Gw45) Gw46) Gw47) Mw48)
                refine ⟨rfl, ⟨decr x27 p2.Box, b45⟩, ?_, hm, Bw48, (by omega), K_116⟩
                repeat' first | exact trivial | refine ⟨rfl, ?_⟩

set_option maxHeartbeats 2000000 in
theorem ref04_ValidHeader_w (p0 : TScheme) (p1 : THeader) (vp1_0 : Value) (zp1_0 gp1_0 op1_0 : Nat) (vp1_2 : Value) (zp1_2 gp1_2 op1_2 : Nat) (r : Bool) (hm : ref04_ValidHeader p0 p1 = some r) (w : World) (hp1_0 : Rd w zp1_0 gp1_0 op1_0 18 vp1_0 (p1.Items.map TItem.cs)) (hp1_2 : Rd w zp1_2 gp1_2 op1_2 2 vp1_2 (p1.Points.map TPoint.cs))  :
    Calls Try.prog 80 [.agg (TScheme.cs p0).toArray, .agg (THeader.cs p1 vp1_0 vp1_2).toArray].toArray w fun e w' => ∃ v, e = .returned v ∧ (v = .bool r ∧ Gr w w') := by
  have lt1 := hp1_0.lth
  have lt2 := hp1_2.lth
  unfold ref04_ValidHeader at hm
  refine calls_of_sw (R := fun v w' => v = .bool r ∧ Gr w w') 83 Try.func80 rfl rfl rfl ?_
  refine sw_seq ?_
  -- region 0 ref.go:209
  refine sw_region [(0, 0), (1, 0), (2, 0)] rfl rfl rfl ?_
  refine sd_ev rfl rfl rfl (ev_box (cs := TScheme.cs p0) rfl rfl) ?_
  rintro _ w1 ⟨b1, rfl, hbw1, Bw1, Gw1⟩
  have z3 := Gw1.size
  have lt4 := Bw1.lt
  refine sd_ev rfl rfl rfl (ev_box (cs := THeader.cs p1 vp1_0 vp1_2) rfl rfl) ?_
  rintro _ w2 ⟨b2, rfl, hbw2, Bw2, Gw2⟩
  have z5 := Gw2.size
  have lt6 := Bw2.lt
  refine sd_vv rfl rfl rfl (vv_assign rfl) ?_
  refine sd_done ?_
  refine sw_seq ?_
  have X7 : Gr w w2 := (Gr.trans (Gr.trans (Gr.refl w) Gw1) Gw2)
  refine sw_joinD (β := Bool) [8, 9, 10, 11, 12, 13, 14, 15, 16, 17, 18, 19, 20, 21, 22, 23, 24, 25, 26, 27, 28, 29, 30, 31, 32] (fun a1 => [(32, .bool a1)]) (fun a1 wr => (ref04_ValidHeader_J1 p0 p1 a1 = some r) ∧ Kz [] w2 wr) ?_ ?_
  · clear hm; rintro a1 w3 ⟨hm, Kw3⟩
    have z8 := Kw3.size
    unfold ref04_ValidHeader_J1 at hm
    refine sw_cond rfl (fun c1 => ?_) (fun c1 => ?_)
    ·
      replace hm := cnd_t c1 hm
      refine sw_seq ?_
      -- region 2 ref.go:211
      refine sw_region [(0, 0)] rfl rfl rfl ?_
      refine sd_vv rfl rfl rfl (vv_assign rfl) ?_
      refine sd_done ?_
      refine sw_ret ?_
      refine then_r ?_
      have X9 : Gr w w3 := (Gr.kz X7 Kw3)
      have hr := Option.some.inj hm
      subst hr
      refine ⟨_, _, rfl, res_1 rfl (rv_tmp rfl), ?_⟩
      exact ⟨rfl, X9⟩
    ·
      replace hm := cnd_f c1 hm
      refine sw_skip ?_
      refine then_n ?_
      refine sw_seq ?_
      refine sw_seq ?_
      -- region 3 ref.go:213
      refine sw_region [(0, 0)] rfl rfl rfl ?_
      refine sd_vv rfl rfl rfl (vv_assign rfl) ?_
      refine sd_done ?_
      refine sw_block ?_
      have X10 : Gr w w3 := (Gr.kz X7 Kw3)
      have B11 := (Rd.kz (Rd.gr (Rd.gr hp1_0 Gw1) Gw2) Kw3)
      have B12 := (Rd.kz (Rd.gr (Rd.gr hp1_2 Gw1) Gw2) Kw3)
      refine sw_loopD (α := Nat × Int) [4, 5, 6, 7, 33, 34, 35, 36, 37, 38, 39, 40, 41, 42, 43, 44, 45, 46, 47, 48, 49, 50, 51, 52, 53, 54, 55, 56, 57, 58, 59, 60, 61, 62, 63, 64, 65, 66, 67, 68, 69, 70, 71, 72, 73, 74, 75, 76, 77, 78, 79, 80, 81, 82] (fun ⟨n2, a3⟩ => [(4, .bool false), (5, .int .i64 a3)]) (fun ⟨n2, a3⟩ wr => (fixN (ref04_ValidHeader_L2 p0 p1) n2 a3 = some r) ∧ Kz [] w3 wr) (fun ⟨n2, a3⟩ => n2) ⟨FUEL, 0⟩ ?_ ?_ ?_
      · repeat' first | exact trivial | refine ⟨rfl, ?_⟩
      · exact ⟨hm, Kz.refl _ _⟩
      · clear hm; rintro ⟨n2, a3⟩ w4 ⟨hm, Kw4⟩
        have z13 := Kw4.size
        have hb := fix_succ hm; clear hm; obtain ⟨n2, rfl, hm⟩ := hb
        generalize hrec2 : fixN (ref04_ValidHeader_L2 p0 p1) n2 = rec2 at hm
        unfold ref04_ValidHeader_L2 at hm
        try dsimp only at hm
        refine sw_seq ?_
        refine sw_seq ?_
        -- region 4 ref.go:213
        refine sw_region [(0, 0), (1, 0), (2, 0), (3, 0), (4, 0)] rfl rfl rfl ?_
        refine sd_vv rfl rfl rfl (vv_move rfl) ?_
        refine sd_vv rfl rfl rfl (vv_fieldAddr fa_45_2 rfl) ?_
        have B14 := (Bx.kz (Bx.kz Bw2 Kw3) Kw4)
        refine sd_vv rfl rfl rfl (vv_load1 (v := vp1_2) one_43 rfl B14 rfl) ?_
        have B15 := (Rd.kz B12 Kw4)
        refine sd_vv rfl rfl rfl (vv_lenT (l := p1.Points) (c := TPoint.cs) Try.underlying43 rfl B15) ?_
        refine sd_vv rfl rfl rfl (vv_lss (a := a3) (b := (p1.Points.length : Int)) rfl rfl) ?_
        refine sd_done ?_
        refine sw_cond rfl (fun c2 => ?_) (fun c2 => ?_)
        ·
          replace hm := ite_t (of_decide_eq_true c2) hm
          refine sw_skip ?_
          refine then_n ?_
          refine sw_seq ?_
          refine sw_block ?_
          refine sw_seq ?_
          -- region 6 ref.go:214
          refine sw_region [(0, 0), (1, 0), (2, 0), (3, 0), (4, 0), (5, 0), (6, 0)] rfl rfl rfl ?_
          refine sd_vv rfl rfl rfl (vv_fieldAddr fa_45_2 rfl) ?_
          refine sd_vv rfl rfl rfl (vv_load1 (v := vp1_2) one_43 rfl B14 rfl) ?_
          refine sd_vv rfl rfl rfl (vv_move rfl) ?_
          have hb := bnd hm; clear hm; obtain ⟨y4, hy4, hm⟩ := hb
          refine sd_vv rfl rfl rfl (vv_ixT (i := a3) Try.underlying43 (agg_31).siz rfl B15 rfl hy4) ?_
          refine sd_vv rfl rfl rfl (vv_elWT agg_31 rfl B15 hy4 (by first | rfl | omega)) ?_
          refine sd_ev rfl rfl rfl (ev_alloc (cs := TPoint.cs (TPoint.mk 0#64 0#64)) zv_31 rfl) ?_
          rintro _ w5 ⟨b5, rfl, hbw5, Bw5, Gw5⟩
          have z16 := Gw5.size
          have lt17 := Bw5.lt
          refine sd_ev rfl rfl rfl (ev_stM (cs' := TPoint.cs y4) (vs := TPoint.cs y4) (agg_31).siz rfl rfl rfl rfl rfl Bw5 rfl rfl) ?_
          rintro _ w6 ⟨Bw6, Mw6⟩
          have z18 := Mw6.size
          refine sd_done ?_
          refine sw_seq ?_
          have X19 : Gr w w6 := (Gr.md (Gr.trans (Gr.kz X10 Kw4) Gw5) Mw6)
          refine sw_joinD (β := Bool) [45, 46, 47, 48, 49, 50, 51, 52, 53, 54, 55, 56, 57, 58, 59, 60, 61, 62, 63, 64, 65, 66, 67, 68] (fun a5 => [(68, .bool a5)]) (fun a5 wr => (ref04_ValidHeader_J3 p1 a3 rec2 y4 a5 = some r) ∧ Kz [] w6 wr) ?_ ?_
          · clear hm; rintro a5 w7 ⟨hm, Kw7⟩
            have z20 := Kw7.size
            unfold ref04_ValidHeader_J3 at hm
            refine sw_cond rfl (fun c3 => ?_) (fun c3 => ?_)
            ·
              replace hm := cnd_t c3 hm
              refine sw_seq ?_
              -- region 8 ref.go:216
              refine sw_region [(0, 0)] rfl rfl rfl ?_
              refine sd_vv rfl rfl rfl (vv_assign rfl) ?_
              refine sd_done ?_
              refine sw_ret ?_
              refine then_r ?_
              refine block_r ?_
              refine then_r ?_
              refine then_r ?_
              refine block_r ?_
              refine then_r ?_
              have X21 : Gr w w7 := (Gr.kz X19 Kw7)
              have hr := Option.some.inj hm
              subst hr
              refine ⟨_, _, rfl, res_1 rfl (rv_tmp rfl), ?_⟩
              exact ⟨rfl, X21⟩
            ·
              replace hm := cnd_f c3 hm
              refine sw_skip ?_
              refine then_n ?_
              refine sw_seq ?_
              -- region 9 ref.go:218
              refine sw_region [(0, 0)] rfl rfl rfl ?_
              refine sd_vv rfl rfl rfl (vv_assign rfl) ?_
              refine sd_done ?_
              refine sw_block ?_
              have X22 : Gr w w7 := (Gr.kz X19 Kw7)
              have B23 := (Rd.kz (Rd.md (Rd.gr (Rd.kz B11 Kw4) Gw5) Mw6 (tk1 ((pv_lt (A := (fun x => x ≠ b5)) lt1) : zp1_0 = 0 ∨ gp1_0 ≠ b5))) Kw7)
              have B24 := (Rd.kz (Rd.md (Rd.gr B15 Gw5) Mw6 (tk1 ((pv_lt (A := (fun x => x ≠ b5)) lt2) : zp1_2 = 0 ∨ gp1_2 ≠ b5))) Kw7)
              refine sw_loopD (α := Nat × Int) [4, 7, 69, 70, 71, 72, 73, 74, 75, 76, 77, 78, 79, 80, 81, 82] (fun ⟨n4, a7⟩ => [(4, .bool false), (7, .int .i64 a7)]) (fun ⟨n4, a7⟩ wr => (fixN (ref04_ValidHeader_L4 p1 a3 rec2 y4) n4 a7 = some r) ∧ Kz [] w7 wr) (fun ⟨n4, a7⟩ => n4) ⟨FUEL, 0⟩ ?_ ?_ ?_
              · repeat' first | exact trivial | refine ⟨rfl, ?_⟩
              · exact ⟨hm, Kz.refl _ _⟩
              · clear hm; rintro ⟨n4, a7⟩ w8 ⟨hm, Kw8⟩
                have z25 := Kw8.size
                have hb := fix_succ hm; clear hm; obtain ⟨n4, rfl, hm⟩ := hb
                generalize hrec4 : fixN (ref04_ValidHeader_L4 p1 a3 rec2 y4) n4 = rec4 at hm
                unfold ref04_ValidHeader_L4 at hm
                try dsimp only at hm
                refine sw_seq ?_
                refine sw_seq ?_
                -- region 10 ref.go:218
                refine sw_region [(0, 0), (1, 0), (2, 0)] rfl rfl rfl ?_
                refine sd_vv rfl rfl rfl (vv_move rfl) ?_
                refine sd_vv rfl rfl rfl (vv_move rfl) ?_
                refine sd_vv rfl rfl rfl (vv_lss (a := a7) (b := a3) rfl rfl) ?_
                refine sd_done ?_
                refine sw_cond rfl (fun c4 => ?_) (fun c4 => ?_)
                ·
                  replace hm := ite_t (of_decide_eq_true c4) hm
                  refine sw_skip ?_
                  refine then_n ?_
                  refine sw_seq ?_
                  refine sw_block ?_
                  refine sw_seq ?_
                  -- region 12 ref.go:219 DRAWS
                  refine sw_drawN [([])] [] (.leaf [(0, 10), (1, 10), (2, 10), (3, 10), (4, 10), (5, 10), (6, 10), (7, 10), (8, 10)]) (by kernel_rfl) (by kernel_rfl) rfl (by kernel_rfl) ?_
                  intro w9 Gw9 zw9
                  refine sdz_leaf ?_
                  refine dd_hn 0 rfl rfl rfl rfl (Kp.refl ([]) w9) (fun w hS => vv_fieldAddr fa_45_2 rfl) ?_
                  have B26 := (Bx.gr (Bx.kz (Bx.kz (Bx.md (Bx.gr B14 Gw5) Mw6) Kw7) Kw8) Gw9)
                  refine dd_hn 0 rfl rfl rfl rfl (Kp.refl ([]) w9) (fun w hS => vv_load1 (v := vp1_2) one_43 rfl (Bx.kp B26 hS) rfl) ?_
                  refine dd_hn 0 rfl rfl rfl rfl (Kp.refl ([]) w9) (fun w hS => vv_move rfl) ?_
                  have hb := bnd hm; clear hm; obtain ⟨y8, hy8, hm⟩ := hb
                  have B27 := (Rd.gr (Rd.kz B24 Kw8) Gw9)
                  refine dd_hn 0 rfl rfl rfl rfl (Kp.refl ([]) w9) (fun w hS => vv_ixT (i := a7) Try.underlying43 (agg_31).siz rfl (Rd.kp B27 hS) rfl hy8) ?_
                  refine dd_hn 0 rfl rfl rfl rfl (Kp.refl ([]) w9) (fun w hS => vv_fieldAddr fa_31_0 rfl) ?_
                  refine dd_hn 0 rfl rfl rfl rfl (Kp.refl ([]) w9) (fun w hS => vv_el1T (q := 0) (u := wv y8.X) one_24 rfl (Rd.kp B27 hS) hy8 (by first | rfl | omega) rfl) ?_
                  refine dd_hn 0 rfl rfl rfl rfl (Kp.refl ([]) w9) (fun w hS => vv_fieldAddr fa_31_0 rfl) ?_
                  have B28 := (Bx.gr (Bx.kz (Bx.kz Bw6 Kw7) Kw8) Gw9)
                  refine dd_hn 0 rfl rfl rfl rfl (Kp.refl ([]) w9) (fun w hS => vv_load1 (v := wv y4.X) one_24 rfl (Bx.kp B28 hS) rfl) ?_
                  refine dd_hn 0 rfl rfl rfl rfl (Kp.refl ([]) w9) (fun w hS => vv_eqlU (c := y8.X) (d := y4.X) rfl rfl) ?_
                  refine sd_done ?_
                  refine sw_cond rfl (fun c5 => ?_) (fun c5 => ?_)
                  ·
                    replace hm := ite_t (of_decide_eq_true c5) hm
                    refine sw_seq ?_
                    -- region 13 ref.go:220
                    refine sw_region [(0, 0)] rfl rfl rfl ?_
                    refine sd_vv rfl rfl rfl (vv_assign rfl) ?_
                    refine sd_done ?_
                    refine sw_ret ?_
                    refine block_r ?_
                    refine then_r ?_
                    refine then_r ?_
                    refine block_r ?_
                    refine block_r ?_
                    refine then_r ?_
                    refine then_r ?_
                    refine block_r ?_
                    refine then_r ?_
                    have X29 : Gr w w9 := (Gr.trans (Gr.kz X22 Kw8) Gw9)
                    have hr := Option.some.inj hm
                    subst hr
                    refine ⟨_, _, rfl, res_1 rfl (rv_tmp rfl), ?_⟩
                    exact ⟨rfl, X29⟩
                  ·
                    replace hm := ite_f (of_decide_eq_false c5) hm
                    refine sw_skip ?_
                    refine block_n ?_
                    refine then_n ?_
                    -- region 11 ref.go:218
                    refine sw_region [(0, 0), (1, 0), (2, 0)] rfl rfl rfl ?_
                    refine sd_vv rfl rfl rfl (vv_move rfl) ?_
                    refine sd_vv rfl rfl rfl (vv_add (k := .i64) (a := a7) (b := 1) rfl rfl) ?_
                    refine sd_vv rfl rfl rfl (vv_assign rfl) ?_
                    refine sd_nil ?_
                    have K_30 : Kz [] w7 w9 := (Kz.gr Kw8 Gw9)
                    subst hrec4
                    refine ⟨rfl, ⟨n4, w64 (a7 + 1)⟩, ?_, ⟨hm, K_30⟩, Nat.lt_succ_self _⟩
                    repeat' first | exact trivial | refine ⟨rfl, ?_⟩
                ·
                  replace hm := ite_f (of_decide_eq_false c4) hm
                  refine sw_exit ?_
                  refine then_x ?_
                  refine then_x ?_
                  refine block_x ?_
                  refine block_n ?_
                  refine then_n ?_
                  -- region 5 ref.go:213
                  refine sw_region [(0, 0), (1, 0), (2, 0)] rfl rfl rfl ?_
                  refine sd_vv rfl rfl rfl (vv_move rfl) ?_
                  refine sd_vv rfl rfl rfl (vv_add (k := .i64) (a := a3) (b := 1) rfl rfl) ?_
                  refine sd_vv rfl rfl rfl (vv_assign rfl) ?_
                  refine sd_nil ?_
                  have K_31 : Kz [] w3 w8 := (Kz.kz (Kz.kz (Kz.md (Kz.gr Kw4 Gw5) Mw6) Kw7) Kw8)
                  subst hrec2
                  refine ⟨rfl, ⟨n2, w64 (a3 + 1)⟩, ?_, ⟨hm, K_31⟩, Nat.lt_succ_self _⟩
                  repeat' first | exact trivial | refine ⟨rfl, ?_⟩
          ·
            -- region 7 ref.go:215
            refine sw_region [(0, 0), (1, 0), (2, 0), (3, 0), (4, 0), (5, 0), (6, 0), (7, 0), (8, 0), (9, 0), (10, 0), (11, 0), (12, 0), (13, 0), (14, 0), (15, 0), (16, 0), (17, 0), (18, 0), (19, 0), (20, 0), (21, 0), (22, 0), (23, 0)] rfl rfl rfl ?_
            refine sd_vv rfl rfl rfl (vv_fieldAddr fa_31_0 rfl) ?_
            refine sd_vv rfl rfl rfl (vv_load1 (v := wv y4.X) one_24 rfl Bw6 rfl) ?_
            refine sd_vv rfl rfl rfl (vv_lssU (c := y4.X) (d := 1#64) rfl rfl) ?_
            refine sd_split rfl rfl rfl (vv_move rfl) (fun c6 => ?_) (fun c6 => ?_)
            ·
              replace hm := ite_t (of_decide_eq_true c6) hm
              refine sd_skip rfl rfl rfl ?_
              refine sd_skip rfl rfl rfl ?_
              refine sd_skip rfl rfl rfl ?_
              refine sd_skip rfl rfl rfl ?_
              refine sd_skip rfl rfl rfl ?_
              refine sd_skip rfl rfl rfl ?_
              refine sd_vv rfl rfl rfl (vv_pickT rfl rfl) ?_
              refine sd_vv rfl rfl rfl (vv_move rfl) ?_
              refine sd_skip rfl rfl rfl ?_
              refine sd_skip rfl rfl rfl ?_
              refine sd_skip rfl rfl rfl ?_
              refine sd_vv rfl rfl rfl (vv_pickT rfl rfl) ?_
              refine sd_vv rfl rfl rfl (vv_move rfl) ?_
              refine sd_skip rfl rfl rfl ?_
              refine sd_skip rfl rfl rfl ?_
              refine sd_skip rfl rfl rfl ?_
              refine sd_skip rfl rfl rfl ?_
              refine sd_skip rfl rfl rfl ?_
              refine sd_skip rfl rfl rfl ?_
              refine sd_vv rfl rfl rfl (vv_pickT rfl rfl) ?_
              refine sd_nil ?_
              have K_32 : Kz [] w6 w6 := (Kz.refl _ _)
              refine ⟨rfl, true, ?_, hm, K_32⟩
              repeat' first | exact trivial | refine ⟨rfl, ?_⟩
            ·
              replace hm := ite_f (of_decide_eq_false c6) hm
              refine sd_vv rfl rfl rfl (vv_fieldAddr fa_31_0 rfl) ?_
              refine sd_vv rfl rfl rfl (vv_load1 (v := wv y4.X) one_24 rfl Bw6 rfl) ?_
              refine sd_vv rfl rfl rfl (vv_fieldAddr fa_28_3 rfl) ?_
              refine sd_vv rfl rfl rfl (vv_fieldAddr fa_26_1 rfl) ?_
              have B33 := (Bx.md (Bx.gr (Bx.kz (Bx.kz (Bx.gr Bw1 Gw2) Kw3) Kw4) Gw5) Mw6)
              refine sd_vv rfl rfl rfl (vv_load1 (v := wv p0.Group.Q) one_24 rfl B33 rfl) ?_
              refine sd_vv rfl rfl rfl (vv_geqU (c := y4.X) (d := p0.Group.Q) rfl rfl) ?_
              refine sd_vv rfl rfl rfl (vv_pickF rfl rfl) ?_
              refine sd_split rfl rfl rfl (vv_move rfl) (fun c7 => ?_) (fun c7 => ?_)
              ·
                replace hm := ite_t (of_decide_eq_true c7) hm
                refine sd_skip rfl rfl rfl ?_
                refine sd_skip rfl rfl rfl ?_
                refine sd_skip rfl rfl rfl ?_
                refine sd_vv rfl rfl rfl (vv_pickT rfl rfl) ?_
                refine sd_vv rfl rfl rfl (vv_move rfl) ?_
                refine sd_skip rfl rfl rfl ?_
                refine sd_skip rfl rfl rfl ?_
                refine sd_skip rfl rfl rfl ?_
                refine sd_skip rfl rfl rfl ?_
                refine sd_skip rfl rfl rfl ?_
                refine sd_skip rfl rfl rfl ?_
                refine sd_vv rfl rfl rfl (vv_pickT rfl rfl) ?_
                refine sd_nil ?_
                have K_34 : Kz [] w6 w6 := (Kz.refl _ _)
                refine ⟨rfl, true, ?_, hm, K_34⟩
                repeat' first | exact trivial | refine ⟨rfl, ?_⟩
              ·
                replace hm := ite_f (of_decide_eq_false c7) hm
                refine sd_vv rfl rfl rfl (vv_fieldAddr fa_31_1 rfl) ?_
                refine sd_vv rfl rfl rfl (vv_load1 (v := wv y4.Y) one_24 rfl Bw6 rfl) ?_
                refine sd_vv rfl rfl rfl (vv_lssU (c := y4.Y) (d := 1#64) rfl rfl) ?_
                refine sd_vv rfl rfl rfl (vv_pickF rfl rfl) ?_
                refine sd_split rfl rfl rfl (vv_move rfl) (fun c8 => ?_) (fun c8 => ?_)
                ·
                  replace hm := ite_t (of_decide_eq_true c8) hm
                  refine sd_skip rfl rfl rfl ?_
                  refine sd_skip rfl rfl rfl ?_
                  refine sd_skip rfl rfl rfl ?_
                  refine sd_skip rfl rfl rfl ?_
                  refine sd_skip rfl rfl rfl ?_
                  refine sd_skip rfl rfl rfl ?_
                  refine sd_vv rfl rfl rfl (vv_pickT rfl rfl) ?_
                  refine sd_nil ?_
                  have K_35 : Kz [] w6 w6 := (Kz.refl _ _)
                  refine ⟨rfl, true, ?_, hm, K_35⟩
                  repeat' first | exact trivial | refine ⟨rfl, ?_⟩
                ·
                  replace hm := ite_f (of_decide_eq_false c8) hm
                  refine sd_vv rfl rfl rfl (vv_fieldAddr fa_31_1 rfl) ?_
                  refine sd_vv rfl rfl rfl (vv_load1 (v := wv y4.Y) one_24 rfl Bw6 rfl) ?_
                  refine sd_vv rfl rfl rfl (vv_fieldAddr fa_28_3 rfl) ?_
                  refine sd_vv rfl rfl rfl (vv_fieldAddr fa_26_0 rfl) ?_
                  refine sd_vv rfl rfl rfl (vv_load1 (v := wv p0.Group.P) one_24 rfl B33 rfl) ?_
                  refine sd_vv rfl rfl rfl (vv_geqU (c := y4.Y) (d := p0.Group.P) rfl rfl) ?_
                  refine sd_vv rfl rfl rfl (vv_pickF rfl rfl) ?_
                  refine sd_nil ?_
                  have K_36 : Kz [] w6 w6 := (Kz.refl _ _)
                  refine ⟨rfl, (decide (p0.Group.P ≤ y4.Y)), ?_, hm, K_36⟩
                  repeat' first | exact trivial | refine ⟨rfl, ?_⟩
        ·
          replace hm := ite_f (of_decide_eq_false c2) hm
          refine sw_exit ?_
          refine then_x ?_
          refine then_x ?_
          refine block_x ?_
          refine then_n ?_
          refine sw_seq ?_
          -- region 14 ref.go:224
          refine sw_region [(0, 0)] rfl rfl rfl ?_
          refine sd_vv rfl rfl rfl (vv_assign rfl) ?_
          refine sd_done ?_
          refine sw_ret ?_
          have X37 : Gr w w4 := (Gr.kz X10 Kw4)
          have hr := Option.some.inj hm
          subst hr
          refine ⟨_, _, rfl, res_1 rfl (rv_tmp rfl), ?_⟩
          exact ⟨rfl, X37⟩
  ·
    -- region 1 ref.go:210
    refine sw_region [(0, 0), (1, 0), (2, 0), (3, 0), (4, 0), (5, 0), (6, 0), (7, 0), (8, 0), (9, 0), (10, 0), (11, 0), (12, 0), (13, 0), (14, 0), (15, 0), (16, 0), (17, 0), (18, 0), (19, 0), (20, 0), (21, 0), (22, 0), (23, 0), (24, 0)] rfl rfl rfl ?_
    refine sd_vv rfl rfl rfl (vv_fieldAddr fa_45_0 rfl) ?_
    refine sd_vv rfl rfl rfl (vv_load1 (v := vp1_0) one_42 rfl Bw2 rfl) ?_
    have B38 := (Rd.gr (Rd.gr hp1_0 Gw1) Gw2)
    refine sd_vv rfl rfl rfl (vv_lenT (l := p1.Items) (c := TItem.cs) Try.underlying42 rfl B38) ?_
    refine sd_vv rfl rfl rfl (vv_neq (a := (p1.Items.length : Int)) (b := 0) rfl rfl) ?_
    refine sd_split rfl rfl rfl (vv_move rfl) (fun c9 => ?_) (fun c9 => ?_)
    ·
      replace hm := ite_t (of_decide_eq_true c9) hm
      refine sd_skip rfl rfl rfl ?_
      refine sd_skip rfl rfl rfl ?_
      refine sd_skip rfl rfl rfl ?_
      refine sd_vv rfl rfl rfl (vv_pickT rfl rfl) ?_
      refine sd_vv rfl rfl rfl (vv_move rfl) ?_
      refine sd_skip rfl rfl rfl ?_
      refine sd_skip rfl rfl rfl ?_
      refine sd_skip rfl rfl rfl ?_
      refine sd_skip rfl rfl rfl ?_
      refine sd_skip rfl rfl rfl ?_
      refine sd_skip rfl rfl rfl ?_
      refine sd_vv rfl rfl rfl (vv_pickT rfl rfl) ?_
      refine sd_vv rfl rfl rfl (vv_move rfl) ?_
      refine sd_skip rfl rfl rfl ?_
      refine sd_skip rfl rfl rfl ?_
      refine sd_skip rfl rfl rfl ?_
      refine sd_skip rfl rfl rfl ?_
      refine sd_skip rfl rfl rfl ?_
      refine sd_skip rfl rfl rfl ?_
      refine sd_vv rfl rfl rfl (vv_pickT rfl rfl) ?_
      refine sd_nil ?_
      have K_39 : Kz [] w2 w2 := (Kz.refl _ _)
      refine ⟨rfl, true, ?_, hm, K_39⟩
      repeat' first | exact trivial | refine ⟨rfl, ?_⟩
    ·
      replace hm := ite_f (of_decide_eq_false c9) hm
      refine sd_vv rfl rfl rfl (vv_fieldAddr fa_45_1 rfl) ?_
      refine sd_vv rfl rfl rfl (vv_load1 (v := wv p1.Base) one_24 rfl Bw2 rfl) ?_
      refine sd_vv rfl rfl rfl (vv_lssU (c := p1.Base) (d := 1#64) rfl rfl) ?_
      refine sd_vv rfl rfl rfl (vv_pickF rfl rfl) ?_
      refine sd_split rfl rfl rfl (vv_move rfl) (fun c10 => ?_) (fun c10 => ?_)
      ·
        replace hm := ite_t (of_decide_eq_true c10) hm
        refine sd_skip rfl rfl rfl ?_
        refine sd_skip rfl rfl rfl ?_
        refine sd_skip rfl rfl rfl ?_
        refine sd_skip rfl rfl rfl ?_
        refine sd_skip rfl rfl rfl ?_
        refine sd_skip rfl rfl rfl ?_
        refine sd_vv rfl rfl rfl (vv_pickT rfl rfl) ?_
        refine sd_vv rfl rfl rfl (vv_move rfl) ?_
        refine sd_skip rfl rfl rfl ?_
        refine sd_skip rfl rfl rfl ?_
        refine sd_skip rfl rfl rfl ?_
        refine sd_skip rfl rfl rfl ?_
        refine sd_skip rfl rfl rfl ?_
        refine sd_skip rfl rfl rfl ?_
        refine sd_vv rfl rfl rfl (vv_pickT rfl rfl) ?_
        refine sd_nil ?_
        have K_40 : Kz [] w2 w2 := (Kz.refl _ _)
        refine ⟨rfl, true, ?_, hm, K_40⟩
        repeat' first | exact trivial | refine ⟨rfl, ?_⟩
      ·
        replace hm := ite_f (of_decide_eq_false c10) hm
        refine sd_vv rfl rfl rfl (vv_fieldAddr fa_45_1 rfl) ?_
        refine sd_vv rfl rfl rfl (vv_load1 (v := wv p1.Base) one_24 rfl Bw2 rfl) ?_
        refine sd_vv rfl rfl rfl (vv_fieldAddr fa_28_3 rfl) ?_
        refine sd_vv rfl rfl rfl (vv_fieldAddr fa_26_0 rfl) ?_
        have B41 := (Bx.gr Bw1 Gw2)
        refine sd_vv rfl rfl rfl (vv_load1 (v := wv p0.Group.P) one_24 rfl B41 rfl) ?_
        refine sd_vv rfl rfl rfl (vv_geqU (c := p1.Base) (d := p0.Group.P) rfl rfl) ?_
        refine sd_vv rfl rfl rfl (vv_pickF rfl rfl) ?_
        refine sd_split rfl rfl rfl (vv_move rfl) (fun c11 => ?_) (fun c11 => ?_)
        ·
          replace hm := ite_t (of_decide_eq_true c11) hm
          refine sd_skip rfl rfl rfl ?_
          refine sd_skip rfl rfl rfl ?_
          refine sd_skip rfl rfl rfl ?_
          refine sd_skip rfl rfl rfl ?_
          refine sd_skip rfl rfl rfl ?_
          refine sd_skip rfl rfl rfl ?_
          refine sd_vv rfl rfl rfl (vv_pickT rfl rfl) ?_
          refine sd_nil ?_
          have K_42 : Kz [] w2 w2 := (Kz.refl _ _)
          refine ⟨rfl, true, ?_, hm, K_42⟩
          repeat' first | exact trivial | refine ⟨rfl, ?_⟩
        ·
          replace hm := ite_f (of_decide_eq_false c11) hm
          refine sd_vv rfl rfl rfl (vv_fieldAddr fa_45_2 rfl) ?_
          refine sd_vv rfl rfl rfl (vv_load1 (v := vp1_2) one_43 rfl Bw2 rfl) ?_
          have B43 := (Rd.gr (Rd.gr hp1_2 Gw1) Gw2)
          refine sd_vv rfl rfl rfl (vv_lenT (l := p1.Points) (c := TPoint.cs) Try.underlying43 rfl B43) ?_
          refine sd_vv rfl rfl rfl (vv_fieldAddr fa_28_2 rfl) ?_
          refine sd_vv rfl rfl rfl (vv_load1 (v := .int .i64 p0.Degree) one_3 rfl B41 rfl) ?_
          refine sd_vv rfl rfl rfl (vv_neq (a := (p1.Points.length : Int)) (b := p0.Degree) rfl rfl) ?_
          refine sd_vv rfl rfl rfl (vv_pickF rfl rfl) ?_
          refine sd_nil ?_
          have K_44 : Kz [] w2 w2 := (Kz.refl _ _)
          refine ⟨rfl, (decide ((p1.Points.length : Int) ≠ p0.Degree)), ?_, hm, K_44⟩
          repeat' first | exact trivial | refine ⟨rfl, ?_⟩

set_option maxHeartbeats 2000000 in
theorem ref04_minus_w (p0 : BitVec 64) (p1 : BitVec 64) (p2 : BitVec 64)  (r : BitVec 64) (hm : ref04_minus p0 p1 p2 = some r) (w : World)   :
    Calls Try.prog 126 [wv p0, wv p1, wv p2].toArray w fun e w' => ∃ v, e = .returned v ∧ (v = wv r ∧ Gr w w') := by
  unfold ref04_minus at hm
  refine calls_of_sw (R := fun v w' => v = wv r ∧ Gr w w') 16 Try.func126 rfl rfl rfl ?_
  refine sw_seq ?_
  -- region 0 ref.go:112
  refine sw_region [(0, 0)] rfl rfl rfl ?_
  refine sd_vv rfl rfl rfl (vv_assign rfl) ?_
  refine sd_done ?_
  refine sw_seq ?_
  -- region 1 ref.go:112
  refine sw_region [(0, 0), (1, 0), (2, 0), (3, 0), (4, 0), (5, 0), (6, 0), (7, 0), (8, 0), (9, 0)] rfl rfl rfl ?_
  refine sd_vv rfl rfl rfl (vv_move rfl) ?_
  refine sd_vv rfl rfl rfl (vv_move rfl) ?_
  refine sd_vv rfl rfl rfl (vv_uadd (a := p1) (b := p0) rfl rfl) ?_
  refine sd_vv rfl rfl rfl (vv_move rfl) ?_
  refine sd_vv rfl rfl rfl (vv_move rfl) ?_
  have hb := bnd hm; clear hm; obtain ⟨x1, hx1, hm⟩ := hb
  refine sd_vv rfl rfl rfl (vv_remU (c := p2) (d := p0) rfl rfl hx1) ?_
  refine sd_vv rfl rfl rfl (vv_usub (a := p1 + p0) (b := x1) rfl rfl) ?_
  refine sd_vv rfl rfl rfl (vv_move rfl) ?_
  have hb := bnd hm; clear hm; obtain ⟨x2, hx2, hm⟩ := hb
  refine sd_vv rfl rfl rfl (vv_remU (c := (p1 + p0) - x1) (d := p0) rfl rfl hx2) ?_
  refine sd_vv rfl rfl rfl (vv_assign rfl) ?_
  refine sd_done ?_
  refine sw_ret ?_
  have hr := Option.some.inj hm
  subst hr
  refine ⟨_, _, rfl, res_1 rfl (rv_tmp rfl), ?_⟩
  exact ⟨rfl, (Gr.refl w)⟩

set_option maxHeartbeats 2000000 in
theorem ref01_Inverse_w (p0 : BitVec 64) (p1 : BitVec 64)  (r : BitVec 64 × Bool) (hm : ref01_Inverse p0 p1 = some r) (w : World)   :
    Calls Try.prog 125 [wv p0, wv p1].toArray w fun e w' => ∃ v, e = .returned v ∧ (v = .tuple [wv r.1, .bool r.2].toArray ∧ Gr w w') := by
  unfold ref01_Inverse at hm
  refine calls_of_sw (R := fun v w' => v = .tuple [wv r.1, .bool r.2].toArray ∧ Gr w w') 45 Try.func125 rfl rfl rfl ?_
  refine sw_seq ?_
  -- region 0 ref.go:342
  refine sw_region [(0, 0), (1, 0)] rfl rfl rfl ?_
  refine sd_vv rfl rfl rfl (vv_assign rfl) ?_
  refine sd_vv rfl rfl rfl (vv_assign rfl) ?_
  refine sd_done ?_
  refine sw_seq ?_
  -- region 1 ref.go:343 DRAWS
  refine sw_drawN [([])] [] (.leaf [(0, 10), (1, 10), (2, 10), (3, 10), (4, 10), (5, 10), (6, 10)]) (by kernel_rfl) (by kernel_rfl) rfl (by kernel_rfl) ?_
  intro w1 Gw1 zw1
  refine sdz_leaf ?_
  refine dd_hn 0 rfl rfl rfl rfl (Kp.refl ([]) w1) (fun w hS => vv_move rfl) ?_
  refine dd_hn 0 rfl rfl rfl rfl (Kp.refl ([]) w1) (fun w hS => vv_move rfl) ?_
  have hb := bnd hm; clear hm; obtain ⟨x1, hx1, hm⟩ := hb
  refine dd_hn 0 rfl rfl rfl rfl (Kp.refl ([]) w1) (fun w hS => vv_remU (c := p0) (d := p1) rfl rfl hx1) ?_
  refine dd_hn 0 rfl rfl rfl rfl (Kp.refl ([]) w1) (fun w hS => vv_move rfl) ?_
  have hb := bnd hm; clear hm; obtain ⟨x2, hx2, hm⟩ := hb
  refine dd_hn 0 rfl rfl rfl rfl (Kp.refl ([]) w1) (fun w hS => vv_remU (c := 1#64) (d := p1) rfl rfl hx2) ?_
  refine dd_hn 0 rfl rfl rfl rfl (Kp.refl ([]) w1) (fun w hS => vv_assign rfl) ?_
  refine dd_hn 0 rfl rfl rfl rfl (Kp.refl ([]) w1) (fun w hS => vv_assign rfl) ?_
  refine sd_done ?_
  refine sw_seq ?_
  -- region 2 ref.go:344
  refine sw_region [(0, 0), (1, 0), (2, 0)] rfl rfl rfl ?_
  refine sd_vv rfl rfl rfl (vv_move rfl) ?_
  refine sd_vv rfl rfl rfl (vv_assign rfl) ?_
  refine sd_vv rfl rfl rfl (vv_assign rfl) ?_
  refine sd_done ?_
  refine sw_seq ?_
  refine sw_block ?_
  have X1 : Gr w w1 := (Gr.trans (Gr.refl w) Gw1)
  refine sw_loopD (α := Nat × BitVec 64 × BitVec 64 × BitVec 64 × BitVec 64) [6, 7, 8, 9, 10, 17, 18, 19, 20, 21, 22, 23, 24, 25, 26, 27, 28, 29, 30, 31, 32, 33, 34, 35, 36, 37, 38, 39, 40, 41] (fun ⟨n1, a7, a8, a9, a10⟩ => [(6, wv a7), (7, wv a8), (8, wv a9), (9, wv a10)]) (fun ⟨n1, a7, a8, a9, a10⟩ wr => (fixN (ref01_Inverse_L1 p1) n1 (a7, a8, a9, a10) = some r) ∧ Kz [] w1 wr) (fun ⟨n1, a7, a8, a9, a10⟩ => n1) ⟨FUEL, x1, x2, p1, 0#64⟩ ?_ ?_ ?_
  · repeat' first | exact trivial | refine ⟨rfl, ?_⟩
  · exact ⟨hm, Kz.refl _ _⟩
  · clear hm; rintro ⟨n1, a7, a8, a9, a10⟩ w2 ⟨hm, Kw2⟩
    have z2 := Kw2.size
    have hb := fix_succ hm; clear hm; obtain ⟨n1, rfl, hm⟩ := hb
    generalize hrec1 : fixN (ref01_Inverse_L1 p1) n1 = rec1 at hm
    unfold ref01_Inverse_L1 at hm
    try dsimp only at hm
    refine sw_seq ?_
    refine sw_seq ?_
    -- region 3 ref.go:345
    refine sw_region [(0, 0), (1, 0)] rfl rfl rfl ?_
    refine sd_vv rfl rfl rfl (vv_move rfl) ?_
    refine sd_vv rfl rfl rfl (vv_neqU (c := a9) (d := 0#64) rfl rfl) ?_
    refine sd_done ?_
    refine sw_cond rfl (fun c1 => ?_) (fun c1 => ?_)
    ·
      replace hm := ite_t (of_decide_eq_true c1) hm
      refine sw_skip ?_
      refine then_n ?_
      refine sw_block ?_
      refine sw_seq ?_
      -- region 4 ref.go:346
      refine sw_region [(0, 0), (1, 0), (2, 0), (3, 0)] rfl rfl rfl ?_
      refine sd_vv rfl rfl rfl (vv_move rfl) ?_
      refine sd_vv rfl rfl rfl (vv_move rfl) ?_
      have hb := bnd hm; clear hm; obtain ⟨x11, hx11, hm⟩ := hb
      refine sd_vv rfl rfl rfl (vv_quoU (c := a7) (d := a9) rfl rfl hx11) ?_
      refine sd_vv rfl rfl rfl (vv_assign rfl) ?_
      refine sd_done ?_
      refine sw_seq ?_
      -- region 5 ref.go:347
      refine sw_region [(0, 0), (1, 0), (2, 0), (3, 0), (4, 0), (5, 0), (6, 0), (7, 0)] rfl rfl rfl ?_
      refine sd_vv rfl rfl rfl (vv_move rfl) ?_
      refine sd_vv rfl rfl rfl (vv_move rfl) ?_
      refine sd_vv rfl rfl rfl (vv_move rfl) ?_
      refine sd_vv rfl rfl rfl (vv_move rfl) ?_
      refine sd_vv rfl rfl rfl (vv_umul (a := x11) (b := a9) rfl rfl) ?_
      refine sd_vv rfl rfl rfl (vv_usub (a := a7) (b := x11 * a9) rfl rfl) ?_
      refine sd_vv rfl rfl rfl (vv_assign rfl) ?_
      refine sd_vv rfl rfl rfl (vv_assign rfl) ?_
      refine sd_done ?_
      -- region 6 ref.go:348 DRAWS
      refine sw_drawN [([])] [] (.leaf [(0, 10), (1, 10), (2, 10), (3, 10), (4, 10), (5, 10), (6, 10), (7, 10), (8, 10), (9, 10), (10, 10), (11, 10), (12, 10), (13, 10), (14, 10), (15, 10)]) (by kernel_rfl) (by kernel_rfl) rfl (by kernel_rfl) ?_
      intro w3 Gw3 zw3
      refine sdz_leaf ?_
      refine dd_hn 0 rfl rfl rfl rfl (Kp.refl ([]) w3) (fun w hS => vv_move rfl) ?_
      refine dd_hn 0 rfl rfl rfl rfl (Kp.refl ([]) w3) (fun w hS => vv_move rfl) ?_
      refine dd_hn 0 rfl rfl rfl rfl (Kp.refl ([]) w3) (fun w hS => vv_move rfl) ?_
      refine dd_hn 0 rfl rfl rfl rfl (Kp.refl ([]) w3) (fun w hS => vv_move rfl) ?_
      refine dd_hn 0 rfl rfl rfl rfl (Kp.refl ([]) w3) (fun w hS => vv_move rfl) ?_
      have hb := bnd hm; clear hm; obtain ⟨x12, hx12, hm⟩ := hb
      refine dd_hn 0 rfl rfl rfl rfl (Kp.refl ([]) w3) (fun w hS => vv_remU (c := x11) (d := p1) rfl rfl hx12) ?_
      refine dd_hn 0 rfl rfl rfl rfl (Kp.refl ([]) w3) (fun w hS => vv_move rfl) ?_
      refine dd_hn 0 rfl rfl rfl rfl (Kp.refl ([]) w3) (fun w hS => vv_umul (a := x12) (b := a10) rfl rfl) ?_
      refine dd_hn 0 rfl rfl rfl rfl (Kp.refl ([]) w3) (fun w hS => vv_move rfl) ?_
      have hb := bnd hm; clear hm; obtain ⟨x13, hx13, hm⟩ := hb
      refine dd_hn 0 rfl rfl rfl rfl (Kp.refl ([]) w3) (fun w hS => vv_remU (c := x12 * a10) (d := p1) rfl rfl hx13) ?_
      refine dd_hn 0 rfl rfl rfl rfl (Kp.refl ([]) w3) (fun w hS => vv_usub (a := p1) (b := x13) rfl rfl) ?_
      refine dd_hn 0 rfl rfl rfl rfl (Kp.refl ([]) w3) (fun w hS => vv_uadd (a := a8) (b := p1 - x13) rfl rfl) ?_
      refine dd_hn 0 rfl rfl rfl rfl (Kp.refl ([]) w3) (fun w hS => vv_move rfl) ?_
      have hb := bnd hm; clear hm; obtain ⟨x14, hx14, hm⟩ := hb
      refine dd_hn 0 rfl rfl rfl rfl (Kp.refl ([]) w3) (fun w hS => vv_remU (c := a8 + (p1 - x13)) (d := p1) rfl rfl hx14) ?_
      refine dd_hn 0 rfl rfl rfl rfl (Kp.refl ([]) w3) (fun w hS => vv_assign rfl) ?_
      refine dd_hn 0 rfl rfl rfl rfl (Kp.refl ([]) w3) (fun w hS => vv_assign rfl) ?_
      refine sd_nil ?_
      refine block_n ?_
      have K_3 : Kz [] w1 w3 := (Kz.gr Kw2 Gw3)
      subst hrec1
      refine ⟨rfl, ⟨n1, a9, a10, a7 - (x11 * a9), x14⟩, ?_, ⟨hm, K_3⟩, Nat.lt_succ_self _⟩
      repeat' first | exact trivial | refine ⟨rfl, ?_⟩
    ·
      replace hm := ite_f (of_decide_eq_false c1) hm
      refine sw_exit ?_
      refine then_x ?_
      refine then_x ?_
      refine block_x ?_
      refine then_n ?_
      refine sw_seq ?_
      -- region 7 ref.go:350
      refine sw_region [(0, 0), (1, 0), (2, 0), (3, 0), (4, 0)] rfl rfl rfl ?_
      refine sd_vv rfl rfl rfl (vv_move rfl) ?_
      refine sd_vv rfl rfl rfl (vv_move rfl) ?_
      refine sd_vv rfl rfl rfl (vv_eqlU (c := a7) (d := 1#64) rfl rfl) ?_
      refine sd_vv rfl rfl rfl (vv_assign rfl) ?_
      refine sd_vv rfl rfl rfl (vv_assign rfl) ?_
      refine sd_done ?_
      refine sw_ret ?_
      have X4 : Gr w w2 := (Gr.kz X1 Kw2)
      have hr := Option.some.inj hm
      subst hr
      refine ⟨_, _, rfl, res_2 rfl (rv_tmp rfl) (rv_tmp rfl), ?_⟩
      exact ⟨rfl, X4⟩

set_option maxHeartbeats 2000000 in
theorem ref04_factor_w (p0 : BitVec 64) (p1 : List (BitVec 64)) (p2 : Int) (vp1 : Value) (zp1 gp1 op1 : Nat) (r : BitVec 64) (hm : ref04_factor p0 p1 p2 = some r) (w : World) (hp1 : Rd w zp1 gp1 op1 1 vp1 (p1.map uwc))  :
    Calls Try.prog 82 [wv p0, vp1, .int .i64 p2].toArray w fun e w' => ∃ v, e = .returned v ∧ (v = wv r ∧ Gr w w') := by
  have lt1 := hp1.lth
  unfold ref04_factor at hm
  refine calls_of_sw (R := fun v w' => v = wv r ∧ Gr w w') 48 Try.func82 rfl rfl rfl ?_
  refine sw_seq ?_
  -- region 0 ref.go:228
  refine sw_region [(0, 0)] rfl rfl rfl ?_
  refine sd_vv rfl rfl rfl (vv_assign rfl) ?_
  refine sd_done ?_
  refine sw_seq ?_
  -- region 1 ref.go:229
  refine sw_region [(0, 0)] rfl rfl rfl ?_
  refine sd_vv rfl rfl rfl (vv_assign rfl) ?_
  refine sd_done ?_
  refine sw_seq ?_
  refine sw_seq ?_
  -- region 2 ref.go:230
  refine sw_region [(0, 0)] rfl rfl rfl ?_
  refine sd_vv rfl rfl rfl (vv_assign rfl) ?_
  refine sd_done ?_
  refine sw_block ?_
  refine sw_loopD (α := Nat × BitVec 64 × Int) [7, 8, 9, 10, 11, 12, 13, 14, 15, 16, 17, 18, 19, 20, 21, 22, 23, 24, 25, 26, 27, 28, 29, 30, 31, 32, 33, 34, 35, 36, 37, 38, 39, 40, 41, 42, 43, 44, 45, 46] (fun ⟨n1, a3, a4⟩ => [(7, wv a3), (8, .int .i64 a4)]) (fun ⟨n1, a3, a4⟩ wr => (fixN (ref04_factor_L1 p0 p1 p2) n1 (a3, a4) = some r) ∧ Kz [] w wr) (fun ⟨n1, a3, a4⟩ => n1) ⟨FUEL, 1#64, 0⟩ ?_ ?_ ?_
  · repeat' first | exact trivial | refine ⟨rfl, ?_⟩
  · exact ⟨hm, Kz.refl _ _⟩
  · clear hm; rintro ⟨n1, a3, a4⟩ w1 ⟨hm, Kw1⟩
    have z2 := Kw1.size
    have hb := fix_succ hm; clear hm; obtain ⟨n1, rfl, hm⟩ := hb
    generalize hrec1 : fixN (ref04_factor_L1 p0 p1 p2) n1 = rec1 at hm
    unfold ref04_factor_L1 at hm
    try dsimp only at hm
    refine sw_seq ?_
    refine sw_seq ?_
    -- region 3 ref.go:230
    refine sw_region [(0, 0), (1, 0), (2, 0), (3, 0)] rfl rfl rfl ?_
    refine sd_vv rfl rfl rfl (vv_move rfl) ?_
    refine sd_vv rfl rfl rfl (vv_move rfl) ?_
    have B3 := (Rd.kz hp1 Kw1)
    refine sd_vv rfl rfl rfl (vv_lenT (l := p1) (c := uwc) Try.underlying60 rfl B3) ?_
    refine sd_vv rfl rfl rfl (vv_lss (a := a4) (b := (p1.length : Int)) rfl rfl) ?_
    refine sd_done ?_
    refine sw_cond rfl (fun c1 => ?_) (fun c1 => ?_)
    ·
      replace hm := ite_t (of_decide_eq_true c1) hm
      refine sw_skip ?_
      refine then_n ?_
      refine sw_seq ?_
      refine sw_block ?_
      refine sw_seq ?_
      refine sw_seq ?_
      -- region 5 ref.go:231
      refine sw_region [(0, 0), (1, 0), (2, 0)] rfl rfl rfl ?_
      refine sd_vv rfl rfl rfl (vv_move rfl) ?_
      refine sd_vv rfl rfl rfl (vv_move rfl) ?_
      refine sd_vv rfl rfl rfl (vv_eql (a := a4) (b := p2) rfl rfl) ?_
      refine sd_done ?_
      refine sw_cond rfl (fun c2 => ?_) (fun c2 => ?_)
      ·
        replace hm := ite_t (of_decide_eq_true c2) hm
        refine sw_exit ?_
        refine then_x ?_
        refine block_x ?_
        refine then_n ?_
        -- region 4 ref.go:230
        refine sw_region [(0, 0), (1, 0), (2, 0)] rfl rfl rfl ?_
        refine sd_vv rfl rfl rfl (vv_move rfl) ?_
        refine sd_vv rfl rfl rfl (vv_add (k := .i64) (a := a4) (b := 1) rfl rfl) ?_
        refine sd_vv rfl rfl rfl (vv_assign rfl) ?_
        refine sd_nil ?_
        have K_4 : Kz [] w w1 := Kw1
        subst hrec1
        refine ⟨rfl, ⟨n1, a3, w64 (a4 + 1)⟩, ?_, ⟨hm, K_4⟩, Nat.lt_succ_self _⟩
        repeat' first | exact trivial | refine ⟨rfl, ?_⟩
      ·
        replace hm := ite_f (of_decide_eq_false c2) hm
        refine sw_skip ?_
        refine then_n ?_
        refine sw_seq ?_
        -- region 6 ref.go:234 DRAWS
        refine sw_drawN [([])] [] (.leaf [(0, 10), (1, 10), (2, 10), (3, 10), (4, 10), (5, 10), (6, 10), (7, 10), (8, 10), (10, 10), (9, 0), (11, 0), (12, 10), (13, 10), (14, 10), (15, 10), (16, 10)]) (by kernel_rfl) (by kernel_rfl) rfl (by kernel_rfl) ?_
        intro w2 Gw2 zw2
        refine sdz_leaf ?_
        refine dd_hn 0 rfl rfl rfl rfl (Kp.refl ([]) w2) (fun w hS => vv_move rfl) ?_
        refine dd_hn 0 rfl rfl rfl rfl (Kp.refl ([]) w2) (fun w hS => vv_move rfl) ?_
        refine dd_hn 0 rfl rfl rfl rfl (Kp.refl ([]) w2) (fun w hS => vv_move rfl) ?_
        have hb := bnd hm; clear hm; obtain ⟨y5, hy5, hm⟩ := hb
        have B5 := (Rd.gr B3 Gw2)
        refine dd_hn 0 rfl rfl rfl rfl (Kp.refl ([]) w2) (fun w hS => vv_ixT (i := a4) Try.underlying60 (one_24).siz rfl (Rd.kp B5 hS) rfl hy5) ?_
        refine dd_hn 0 rfl rfl rfl rfl (Kp.refl ([]) w2) (fun w hS => vv_el1T (q := 0) (u := wv y5) one_24 rfl (Rd.kp B5 hS) hy5 (by first | rfl | omega) rfl) ?_
        refine dd_hn 0 rfl rfl rfl rfl (Kp.refl ([]) w2) (fun w hS => vv_move rfl) ?_
        refine dd_hn 0 rfl rfl rfl rfl (Kp.refl ([]) w2) (fun w hS => vv_move rfl) ?_
        have hb := bnd hm; clear hm; obtain ⟨y6, hy6, hm⟩ := hb
        refine dd_hn 0 rfl rfl rfl rfl (Kp.refl ([]) w2) (fun w hS => vv_ixT (i := p2) Try.underlying60 (one_24).siz rfl (Rd.kp B5 hS) rfl hy6) ?_
        refine dd_hn 0 rfl rfl rfl rfl (Kp.refl ([]) w2) (fun w hS => vv_el1T (q := 0) (u := wv y6) one_24 rfl (Rd.kp B5 hS) hy6 (by first | rfl | omega) rfl) ?_
        refine dd_hn 0 rfl rfl rfl rfl (Kp.refl ([]) w2) (fun w hS => vv_move rfl) ?_
        have hb := bnd hm; clear hm; obtain ⟨x7, hx7, hm⟩ := hb
        refine dd_z [] rfl rfl rfl (ev_call en_126 rfl (ref04_minus_w p0 y5 y6 _ hx7 _)) ⟨fun _ => tk0, trivial⟩ ?_
        rintro _ w3 ⟨rfl, Gw3⟩
        have z6 := Gw3.size
        refine ⟨Kz.ofGr Gw3, ?_⟩
        have hb := bnd hm; clear hm; obtain ⟨x8, hx8, hm⟩ := hb
        refine dd_z [] rfl rfl rfl (ev_call en_125 rfl (ref01_Inverse_w x7 p0 _ hx8 _)) ⟨fun _ => tk0, trivial⟩ ?_
        rintro _ w4 ⟨rfl, Gw4⟩
        have z7 := Gw4.size
        refine ⟨Kz.ofGr Gw4, ?_⟩
        have S8 := (Kp.gr (Kp.gr (Kp.refl ([]) w2) Gw3) Gw4)
        refine dd_hn 0 rfl rfl rfl rfl S8 (fun w hS => vv_move rfl) ?_
        refine dd_hn 0 rfl rfl rfl rfl S8 (fun w hS => vv_extract rfl rfl) ?_
        refine dd_hn 0 rfl rfl rfl rfl S8 (fun w hS => vv_extract rfl rfl) ?_
        refine dd_hn 0 rfl rfl rfl rfl S8 (fun w hS => vv_assign rfl) ?_
        refine dd_hn 0 rfl rfl rfl rfl S8 (fun w hS => vv_assign rfl) ?_
        refine sd_done ?_
        -- region 7 ref.go:235
        refine sw_region [(0, 0), (1, 0), (2, 0), (3, 0), (4, 0), (5, 0), (6, 0), (7, 0), (8, 0), (9, 0), (10, 0), (11, 0), (12, 0)] rfl rfl rfl ?_
        refine sd_vv rfl rfl rfl (vv_move rfl) ?_
        refine sd_vv rfl rfl rfl (vv_move rfl) ?_
        refine sd_vv rfl rfl rfl (vv_move rfl) ?_
        have hb := bnd hm; clear hm; obtain ⟨y9, hy9, hm⟩ := hb
        have B9 := (Rd.gr (Rd.gr B5 Gw3) Gw4)
        refine sd_vv rfl rfl rfl (vv_ixT (i := a4) Try.underlying60 (one_24).siz rfl B9 rfl hy9) ?_
        refine sd_vv rfl rfl rfl (vv_el1T (q := 0) (u := wv y9) one_24 rfl B9 hy9 (by first | rfl | omega) rfl) ?_
        refine sd_vv rfl rfl rfl (vv_umul (a := a3) (b := y9) rfl rfl) ?_
        refine sd_vv rfl rfl rfl (vv_move rfl) ?_
        have hb := bnd hm; clear hm; obtain ⟨x10, hx10, hm⟩ := hb
        refine sd_vv rfl rfl rfl (vv_remU (c := a3 * y9) (d := p0) rfl rfl hx10) ?_
        refine sd_vv rfl rfl rfl (vv_move rfl) ?_
        refine sd_vv rfl rfl rfl (vv_umul (a := x10) (b := x8.1) rfl rfl) ?_
        refine sd_vv rfl rfl rfl (vv_move rfl) ?_
        have hb := bnd hm; clear hm; obtain ⟨x11, hx11, hm⟩ := hb
        refine sd_vv rfl rfl rfl (vv_remU (c := x10 * x8.1) (d := p0) rfl rfl hx11) ?_
        refine sd_vv rfl rfl rfl (vv_assign rfl) ?_
        refine sd_nil ?_
        refine block_n ?_
        refine then_n ?_
        -- region 4 ref.go:230
        refine sw_region [(0, 0), (1, 0), (2, 0)] rfl rfl rfl ?_
        refine sd_vv rfl rfl rfl (vv_move rfl) ?_
        refine sd_vv rfl rfl rfl (vv_add (k := .i64) (a := a4) (b := 1) rfl rfl) ?_
        refine sd_vv rfl rfl rfl (vv_assign rfl) ?_
        refine sd_nil ?_
        have K_10 : Kz [] w w4 := (Kz.gr (Kz.gr (Kz.gr Kw1 Gw2) Gw3) Gw4)
        subst hrec1
        refine ⟨rfl, ⟨n1, x11, w64 (a4 + 1)⟩, ?_, ⟨hm, K_10⟩, Nat.lt_succ_self _⟩
        repeat' first | exact trivial | refine ⟨rfl, ?_⟩
    ·
      replace hm := ite_f (of_decide_eq_false c1) hm
      refine sw_exit ?_
      refine then_x ?_
      refine then_x ?_
      refine block_x ?_
      refine then_n ?_
      refine sw_seq ?_
      -- region 8 ref.go:237
      refine sw_region [(0, 0), (1, 0)] rfl rfl rfl ?_
      refine sd_vv rfl rfl rfl (vv_move rfl) ?_
      refine sd_vv rfl rfl rfl (vv_assign rfl) ?_
      refine sd_done ?_
      refine sw_ret ?_
      have X11 : Gr w w1 := (Gr.kz (Gr.refl w) Kw1)
      have hr := Option.some.inj hm
      subst hr
      refine ⟨_, _, rfl, res_1 rfl (rv_tmp rfl), ?_⟩
      exact ⟨rfl, X11⟩

set_option maxHeartbeats 2000000 in
theorem ref02_words_w (p0 : W2)  (r : BitVec 64 × BitVec 64) (hm : ref02_words p0 = some r) (w : World)   :
    Calls Try.prog 127 [kv p0].toArray w fun e w' => ∃ v, e = .returned v ∧ (v = .tuple [wv r.1, wv r.2].toArray ∧ Gr w w') := by
  unfold ref02_words at hm
  refine calls_of_sw (R := fun v w' => v = .tuple [wv r.1, wv r.2].toArray ∧ Gr w w') 8 Try.func127 rfl rfl rfl ?_
  refine sw_seq ?_
  -- region 0 ref.go:36
  refine sw_region [(0, 0), (1, 0), (2, 0)] rfl rfl rfl ?_
  refine sd_ev rfl rfl rfl (ev_box (cs := kb p0) rfl rfl) ?_
  rintro _ w1 ⟨b1, rfl, hbw1, Bw1, Gw1⟩
  have z1 := Gw1.size
  have lt2 := Bw1.lt
  refine sd_vv rfl rfl rfl (vv_assign rfl) ?_
  refine sd_vv rfl rfl rfl (vv_assign rfl) ?_
  refine sd_done ?_
  refine sw_seq ?_
  -- region 1 ref.go:36 DRAWS
  refine sw_drawN [([])] [] (.leaf [(0, 10), (2, 10), (1, 0), (3, 0), (4, 10), (5, 10)]) (by kernel_rfl) (by kernel_rfl) rfl (by kernel_rfl) ?_
  intro w2 Gw2 zw2
  refine sdz_leaf ?_
  have B3 := (Bx.gr Bw1 Gw2)
  have Rk4 := rd_keyP (o := 0) (lo := 0) (hi := 8) (p := p0) B3 rfl (by decide) (by decide)
  have lt5 := Rk4.lth
  refine dd_hn 0 rfl rfl rfl rfl (Kp.refl ([]) w2) (fun w hS => vv_sliceA (n := 16) (l := 0) (h := 8) Try.underlying23 (one_5).siz rfl rfl ⟨_, rfl⟩ (by decide) (by decide) (by decide)) ?_
  have Rk6 := rd_keyP (o := 0) (lo := 8) (hi := 16) (p := p0) B3 rfl (by decide) (by decide)
  have lt7 := Rk6.lth
  refine dd_hn 0 rfl rfl rfl rfl (Kp.refl ([]) w2) (fun w hS => vv_sliceA (n := 16) (l := 8) (h := 16) Try.underlying23 (one_5).siz rfl ⟨_, rfl⟩ rfl (by decide) (by decide) (by decide)) ?_
  have hb := bnd hm; clear hm; obtain ⟨x1, hx1, hm⟩ := hb
  refine dd_z [] rfl rfl rfl (ev_call en_147 rfl (ref02_Value_w (((kby p0).take 8).drop 0) _ _ _ _ _ hx1 _ Rk4)) ⟨fun _ => tk0, trivial⟩ ?_
  rintro _ w3 ⟨rfl, Gw3⟩
  have z8 := Gw3.size
  refine ⟨Kz.ofGr Gw3, ?_⟩
  have B9 := (Rd.gr Rk6 Gw3)
  have hb := bnd hm; clear hm; obtain ⟨x2, hx2, hm⟩ := hb
  refine dd_z [] rfl rfl rfl (ev_call en_147 rfl (ref02_Value_w (((kby p0).take 16).drop 8) _ _ _ _ _ hx2 _ B9)) ⟨fun _ => tk0, trivial⟩ ?_
  rintro _ w4 ⟨rfl, Gw4⟩
  have z10 := Gw4.size
  refine ⟨Kz.ofGr Gw4, ?_⟩
  have S11 := (Kp.gr (Kp.gr (Kp.refl ([]) w2) Gw3) Gw4)
  refine dd_hn 0 rfl rfl rfl rfl S11 (fun w hS => vv_assign rfl) ?_
  refine dd_hn 0 rfl rfl rfl rfl S11 (fun w hS => vv_assign rfl) ?_
  refine sd_done ?_
  refine sw_ret ?_
  have X12 : Gr w w4 := (Gr.trans (Gr.trans (Gr.trans (Gr.trans (Gr.refl w) Gw1) Gw2) Gw3) Gw4)
  have hr := Option.some.inj hm
  subst hr
  refine ⟨_, _, rfl, res_2 rfl (rv_tmp rfl) (rv_tmp rfl), ?_⟩
  exact ⟨rfl, X12⟩

set_option maxHeartbeats 2000000 in
theorem ref02_rotr_w (p0 : BitVec 64) (p1 : Int)  (r : BitVec 64) (hm : ref02_rotr p0 p1 = some r) (w : World)   :
    Calls Try.prog 129 [wv p0, .int .i64 p1].toArray w fun e w' => ∃ v, e = .returned v ∧ (v = wv r ∧ Gr w w') := by
  unfold ref02_rotr at hm
  refine calls_of_sw (R := fun v w' => v = wv r ∧ Gr w w') 13 Try.func129 rfl rfl rfl ?_
  refine sw_seq ?_
  -- region 0 ref.go:51
  refine sw_region [(0, 0)] rfl rfl rfl ?_
  refine sd_vv rfl rfl rfl (vv_assign rfl) ?_
  refine sd_done ?_
  refine sw_seq ?_
  -- region 1 ref.go:51 DRAWS
  refine sw_drawN [([])] [] (.leaf [(0, 10), (1, 10), (2, 10), (3, 10), (4, 10), (5, 10), (6, 10), (7, 10), (8, 10)]) (by kernel_rfl) (by kernel_rfl) rfl (by kernel_rfl) ?_
  intro w1 Gw1 zw1
  refine sdz_leaf ?_
  refine dd_hn 0 rfl rfl rfl rfl (Kp.refl ([]) w1) (fun w hS => vv_move rfl) ?_
  refine dd_hn 0 rfl rfl rfl rfl (Kp.refl ([]) w1) (fun w hS => vv_move rfl) ?_
  have hb := bnd hm; clear hm; obtain ⟨n1, hn1, hm⟩ := hb
  refine dd_hn 0 rfl rfl rfl rfl (Kp.refl ([]) w1) (fun w hS => vv_shrU (c := p0) (b := p1) rfl rfl hn1) ?_
  refine dd_hn 0 rfl rfl rfl rfl (Kp.refl ([]) w1) (fun w hS => vv_move rfl) ?_
  refine dd_hn 0 rfl rfl rfl rfl (Kp.refl ([]) w1) (fun w hS => vv_move rfl) ?_
  refine dd_hn 0 rfl rfl rfl rfl (Kp.refl ([]) w1) (fun w hS => vv_sub (k := .i64) (a := 64) (b := p1) rfl rfl) ?_
  have hb := bnd hm; clear hm; obtain ⟨n2, hn2, hm⟩ := hb
  refine dd_hn 0 rfl rfl rfl rfl (Kp.refl ([]) w1) (fun w hS => vv_shlU (c := p0) (b := (w64 (64 - p1))) rfl rfl hn2) ?_
  refine dd_hn 0 rfl rfl rfl rfl (Kp.refl ([]) w1) (fun w hS => vv_uor (a := p0 >>> n1) (b := p0 <<< n2) rfl rfl) ?_
  refine dd_hn 0 rfl rfl rfl rfl (Kp.refl ([]) w1) (fun w hS => vv_assign rfl) ?_
  refine sd_done ?_
  refine sw_ret ?_
  have X1 : Gr w w1 := (Gr.trans (Gr.refl w) Gw1)
  have hr := Option.some.inj hm
  subst hr
  refine ⟨_, _, rfl, res_1 rfl (rv_tmp rfl), ?_⟩
  exact ⟨rfl, X1⟩

set_option maxHeartbeats 2000000 in
theorem ref02_rotl_w (p0 : BitVec 64) (p1 : Int)  (r : BitVec 64) (hm : ref02_rotl p0 p1 = some r) (w : World)   :
    Calls Try.prog 130 [wv p0, .int .i64 p1].toArray w fun e w' => ∃ v, e = .returned v ∧ (v = wv r ∧ Gr w w') := by
  unfold ref02_rotl at hm
  refine calls_of_sw (R := fun v w' => v = wv r ∧ Gr w w') 9 Try.func130 rfl rfl rfl ?_
  refine sw_seq ?_
  -- region 0 ref.go:54
  refine sw_region [(0, 0)] rfl rfl rfl ?_
  refine sd_vv rfl rfl rfl (vv_assign rfl) ?_
  refine sd_done ?_
  refine sw_seq ?_
  -- region 1 ref.go:54
  refine sw_region [(0, 0), (1, 0), (2, 0), (3, 0), (4, 0)] rfl rfl rfl ?_
  refine sd_vv rfl rfl rfl (vv_move rfl) ?_
  refine sd_vv rfl rfl rfl (vv_move rfl) ?_
  refine sd_vv rfl rfl rfl (vv_sub (k := .i64) (a := 64) (b := p1) rfl rfl) ?_
  have hb := bnd hm; clear hm; obtain ⟨x1, hx1, hm⟩ := hb
  refine sd_ev rfl rfl rfl (ev_call en_129 rfl (ref02_rotr_w p0 (w64 (64 - p1)) _ hx1 _)) ?_
  rintro _ w1 ⟨rfl, Gw1⟩
  have z1 := Gw1.size
  refine sd_vv rfl rfl rfl (vv_assign rfl) ?_
  refine sd_done ?_
  refine sw_ret ?_
  have X2 : Gr w w1 := (Gr.trans (Gr.refl w) Gw1)
  have hr := Option.some.inj hm
  subst hr
  refine ⟨_, _, rfl, res_1 rfl (rv_tmp rfl), ?_⟩
  exact ⟨rfl, X2⟩

set_option maxHeartbeats 2000000 in
theorem ref02_roundKeys_w (p0 : W2)  (r : List (BitVec 64)) (hm : ref02_roundKeys p0 = some r) (w : World)   :
    Calls Try.prog 128 [kv p0].toArray w fun e w' => ∃ v, e = .returned v ∧ (∃ (ur0_s : Value) (zr0_s : Nat) (gr0_s : Nat), v = ur0_s ∧ Own w' zr0_s gr0_s 24 1 ur0_s (r.map uwc) ∧ Hdn (zr0_s = 0 ∨ w.heap.size ≤ gr0_s) ∧ Gr w w') := by
  unfold ref02_roundKeys at hm
  refine calls_of_sw (R := fun v w' => ∃ (ur0_s : Value) (zr0_s : Nat) (gr0_s : Nat), v = ur0_s ∧ Own w' zr0_s gr0_s 24 1 ur0_s (r.map uwc) ∧ Hdn (zr0_s = 0 ∨ w.heap.size ≤ gr0_s) ∧ Gr w w') 34 Try.func128 rfl rfl rfl ?_
  refine sw_seq ?_
  -- region 0 ref.go:57
  refine sw_region [(0, 0), (1, 0)] rfl rfl rfl ?_
  refine sd_ev rfl rfl rfl (ev_box (cs := kb p0) rfl rfl) ?_
  rintro _ w1 ⟨b1, rfl, hbw1, Bw1, Gw1⟩
  have z1 := Gw1.size
  have lt2 := Bw1.lt
  refine sd_vv rfl rfl rfl (vv_assign rfl) ?_
  refine sd_done ?_
  refine sw_seq ?_
  -- region 1 ref.go:58
  refine sw_region [(0, 0), (1, 0), (2, 0), (3, 0), (4, 0), (5, 0), (6, 0)] rfl rfl rfl ?_
  refine sd_vv rfl rfl rfl (vv_loadW agg_23 rfl Bw1 rfl) ?_
  have hb := bnd hm; clear hm; obtain ⟨x1, hx1, hm⟩ := hb
  refine sd_ev rfl rfl rfl (ev_call en_127 rfl (ref02_words_w p0 _ hx1 _)) ?_
  rintro _ w2 ⟨rfl, Gw2⟩
  have z3 := Gw2.size
  refine sd_vv rfl rfl rfl (vv_move rfl) ?_
  refine sd_vv rfl rfl rfl (vv_extract rfl rfl) ?_
  refine sd_vv rfl rfl rfl (vv_extract rfl rfl) ?_
  refine sd_vv rfl rfl rfl (vv_assign rfl) ?_
  refine sd_vv rfl rfl rfl (vv_assign rfl) ?_
  refine sd_done ?_
  refine sw_seq ?_
  -- region 2 ref.go:59
  refine sw_region [(0, 0), (1, 0), (2, 0)] rfl rfl rfl ?_
  refine sd_vv rfl rfl rfl (vv_move rfl) ?_
  refine sd_ev rfl rfl rfl (ev_litT [x1.2] uwc bsl_60_1 rfl rfl (ws_of rfl) rfl rfl rfl) ?_
  rintro vw3 w3 ⟨gw3, hbw3, Ow3, Gw3⟩
  have z4 := Gw3.size
  have lt5 := Ow3.lth
  refine sd_vv rfl rfl rfl (vv_assign rfl) ?_
  refine sd_done ?_
  refine sw_seq ?_
  refine sw_seq ?_
  -- region 3 ref.go:60
  refine sw_region [(0, 0)] rfl rfl rfl ?_
  refine sd_vv rfl rfl rfl (vv_assign rfl) ?_
  refine sd_done ?_
  refine sw_block ?_
  have X6 : Gr w w3 := (Gr.trans (Gr.trans (Gr.trans (Gr.refl w) Gw1) Gw2) Gw3)
  refine sw_loopD (α := Nat × BitVec 64 × BitVec 64 × List (BitVec 64) × Int × Value × Nat × Nat) [3, 4, 5, 6, 14, 15, 16, 17, 18, 19, 20, 21, 22, 23, 24, 25, 26, 27, 28, 29, 30, 31, 32] (fun ⟨n1, a7, a8, a9, a11, vy10, zy10, gy10⟩ => [(3, wv a7), (4, wv a8), (5, vy10), (6, .int .i64 a11)]) (fun ⟨n1, a7, a8, a9, a11, vy10, zy10, gy10⟩ wr => (fixN (ref02_roundKeys_L1) n1 (a7, a8, a9, a11) = some r) ∧ Own wr zy10 gy10 24 1 vy10 (a9.map uwc) ∧ Hdn (zy10 = 0 ∨ (gy10 = gw3 ∧ 1 ≠ 0) ∨ w3.heap.size ≤ gy10) ∧ Kz [(1, gw3)] w3 wr) (fun ⟨n1, a7, a8, a9, a11, vy10, zy10, gy10⟩ => n1) ⟨FUEL, x1.1, x1.2, [x1.2], 0, vw3, 1, gw3⟩ ?_ ?_ ?_
  · repeat' first | exact trivial | refine ⟨rfl, ?_⟩
  · exact ⟨hm, Ow3, ⟨tk0⟩, Kz.refl _ _⟩
  · clear hm; rintro ⟨n1, a7, a8, a9, a11, vy10, zy10, gy10⟩ w4 ⟨hm, Fw4_0, Fw4_1, Kw4⟩
    have z7 := Kw4.size
    have lt8 := Fw4_0.lth
    have hb := fix_succ hm; clear hm; obtain ⟨n1, rfl, hm⟩ := hb
    generalize hrec1 : fixN (ref02_roundKeys_L1) n1 = rec1 at hm
    unfold ref02_roundKeys_L1 at hm
    try dsimp only at hm
    refine sw_seq ?_
    refine sw_seq ?_
    -- region 4 ref.go:60
    refine sw_region [(0, 0), (1, 0)] rfl rfl rfl ?_
    refine sd_vv rfl rfl rfl (vv_move rfl) ?_
    refine sd_vv rfl rfl rfl (vv_lss (a := a11) (b := 31) rfl rfl) ?_
    refine sd_done ?_
    refine sw_cond rfl (fun c1 => ?_) (fun c1 => ?_)
    ·
      replace hm := ite_t (of_decide_eq_true c1) hm
      refine sw_skip ?_
      refine then_n ?_
      refine sw_seq ?_
      refine sw_block ?_
      refine sw_seq ?_
      -- region 6 ref.go:61
      refine sw_region [(0, 0), (1, 0), (2, 0), (3, 0), (4, 0), (5, 0), (6, 0), (7, 0)] rfl rfl rfl ?_
      refine sd_vv rfl rfl rfl (vv_move rfl) ?_
      refine sd_vv rfl rfl rfl (vv_move rfl) ?_
      have hb := bnd hm; clear hm; obtain ⟨x12, hx12, hm⟩ := hb
      refine sd_ev rfl rfl rfl (ev_call en_129 rfl (ref02_rotr_w a7 8 _ hx12 _)) ?_
      rintro _ w5 ⟨rfl, Gw5⟩
      have z9 := Gw5.size
      refine sd_vv rfl rfl rfl (vv_uadd (a := a8) (b := x12) rfl rfl) ?_
      refine sd_vv rfl rfl rfl (vv_move rfl) ?_
      refine sd_vv rfl rfl rfl (vv_cvIU cv_3_24 rfl) ?_
      refine sd_vv rfl rfl rfl (vv_uxor (a := a8 + x12) (b := wd a11) rfl rfl) ?_
      refine sd_vv rfl rfl rfl (vv_assign rfl) ?_
      refine sd_done ?_
      refine sw_seq ?_
      -- region 7 ref.go:62
      refine sw_region [(0, 0), (1, 0), (2, 0), (3, 0), (4, 0)] rfl rfl rfl ?_
      refine sd_vv rfl rfl rfl (vv_move rfl) ?_
      have hb := bnd hm; clear hm; obtain ⟨x13, hx13, hm⟩ := hb
      refine sd_ev rfl rfl rfl (ev_call en_130 rfl (ref02_rotl_w a8 3 _ hx13 _)) ?_
      rintro _ w6 ⟨rfl, Gw6⟩
      have z10 := Gw6.size
      refine sd_vv rfl rfl rfl (vv_move rfl) ?_
      refine sd_vv rfl rfl rfl (vv_uxor (a := x13) (b := (a8 + x12) ^^^ (wd a11)) rfl rfl) ?_
      refine sd_vv rfl rfl rfl (vv_assign rfl) ?_
      refine sd_done ?_
      -- region 8 ref.go:63
      refine sw_region [(0, 0), (1, 0), (2, 0), (3, 0), (4, 0)] rfl rfl rfl ?_
      refine sd_vv rfl rfl rfl (vv_move rfl) ?_
      refine sd_vv rfl rfl rfl (vv_move rfl) ?_
      refine sd_ev rfl rfl rfl (ev_litT [x13 ^^^ ((a8 + x12) ^^^ (wd a11))] uwc bsl_60_1 rfl rfl (ws_of rfl) rfl rfl rfl) ?_
      rintro vw7 w7 ⟨gw7, hbw7, Ow7, Gw7⟩
      have z11 := Gw7.size
      have lt12 := Ow7.lth
      have B13 := (Own.gr (Own.gr (Own.gr Fw4_0 Gw5) Gw6) Gw7)
      have hb := bnd hm; clear hm; obtain ⟨l14, hl14, hm⟩ := hb
      refine sd_ev rfl rfl rfl (ev_appT (l := a9) (m := [x13 ^^^ ((a8 + x12) ^^^ (wd a11))]) (c := uwc) apt_60 rfl rfl B13 (Own.rd Ow7) hl14 (by decide)) ?_
      rintro vw8 w8 ⟨zw8, gw8, Ow8, Aw8, qw8, rw8⟩
      have z14 := Aw8.size
      refine sd_vv rfl rfl rfl (vv_assign rfl) ?_
      refine sd_nil ?_
      refine block_n ?_
      refine then_n ?_
      -- region 5 ref.go:60
      refine sw_region [(0, 0), (1, 0), (2, 0)] rfl rfl rfl ?_
      refine sd_vv rfl rfl rfl (vv_move rfl) ?_
      refine sd_vv rfl rfl rfl (vv_add (k := .i64) (a := a11) (b := 1) rfl rfl) ?_
      refine sd_vv rfl rfl rfl (vv_assign rfl) ?_
      refine sd_nil ?_
      have K_15 : Kz [(1, gw3)] w3 w8 := (Kz.ka (Kz.gr (Kz.gr (Kz.gr Kw4 Gw5) Gw6) Gw7) Aw8 (tk1 ((pv_1 (A := (fun x => (x = gw3 ∧ 1 ≠ 0) ∨ w3.heap.size ≤ x)) Fw4_1 tk0) : zy10 = 0 ∨ (gy10 = gw3 ∧ 1 ≠ 0) ∨ w3.heap.size ≤ gy10)))
      subst hrec1
      refine ⟨rfl, ⟨n1, (a8 + x12) ^^^ (wd a11), x13 ^^^ ((a8 + x12) ^^^ (wd a11)), l14, w64 (a11 + 1), vw8, zw8, gw8⟩, ?_, ⟨hm, Ow8, ⟨(pv_app (A := (fun x => (x = gw3 ∧ 1 ≠ 0) ∨ w3.heap.size ≤ x)) rw8 (pv_1 (A := (fun x => (x = gw3 ∧ 1 ≠ 0) ∨ w3.heap.size ≤ x)) Fw4_1 tk0))⟩, K_15⟩, Nat.lt_succ_self _⟩
      repeat' first | exact trivial | refine ⟨rfl, ?_⟩
    ·
      replace hm := ite_f (of_decide_eq_false c1) hm
      refine sw_exit ?_
      refine then_x ?_
      refine then_x ?_
      refine block_x ?_
      refine then_n ?_
      refine sw_seq ?_
      -- region 9 ref.go:65
      refine sw_region [(0, 0), (1, 0)] rfl rfl rfl ?_
      refine sd_vv rfl rfl rfl (vv_move rfl) ?_
      refine sd_vv rfl rfl rfl (vv_assign rfl) ?_
      refine sd_done ?_
      refine sw_ret ?_
      have X16 : Gr w w4 := (Gr.kz X6 Kw4 (tk1 ((.inr tk0) : 1 = 0 ∨ w.heap.size ≤ gw3)))
      have hr := Option.some.inj hm
      subst hr
      refine ⟨_, _, rfl, res_1 rfl (rv_tmp rfl), ?_⟩
      exact ⟨vy10, zy10, gy10, rfl, Fw4_0, ⟨(pv_1 (A := (fun x => w.heap.size ≤ x)) Fw4_1 (.inr tk0))⟩, X16⟩

set_option maxHeartbeats 2000000 in
theorem ref02_Bytes_w (p0 : BitVec 64) (p1 : Int)  (r : List (BitVec 8)) (hm : ref02_Bytes p0 p1 = some r) (w : World)   :
    Calls Try.prog 149 [wv p0, .int .i64 p1].toArray w fun e w' => ∃ v, e = .returned v ∧ (∃ (ur0_s : Value) (zr0_s : Nat) (gr0_s : Nat), v = ur0_s ∧ Own w' zr0_s gr0_s 5 1 ur0_s (r.map bvc) ∧ Hdn (zr0_s = 0 ∨ w.heap.size ≤ gr0_s) ∧ Gr w w') := by
  unfold ref02_Bytes at hm
  refine calls_of_sw (R := fun v w' => ∃ (ur0_s : Value) (zr0_s : Nat) (gr0_s : Nat), v = ur0_s ∧ Own w' zr0_s gr0_s 5 1 ur0_s (r.map bvc) ∧ Hdn (zr0_s = 0 ∨ w.heap.size ≤ gr0_s) ∧ Gr w w') 21 Try.func149 rfl rfl rfl ?_
  refine sw_seq ?_
  -- region 0 ref.go:17
  refine sw_region [(0, 0)] rfl rfl rfl ?_
  refine sd_vv rfl rfl rfl (vv_assign rfl) ?_
  refine sd_done ?_
  refine sw_seq ?_
  -- region 1 ref.go:18
  refine sw_region [(0, 0)] rfl rfl rfl ?_
  refine sd_vv rfl rfl rfl (vv_assign rfl) ?_
  refine sd_done ?_
  refine sw_seq ?_
  refine sw_seq ?_
  -- region 2 ref.go:19
  refine sw_region [(0, 0)] rfl rfl rfl ?_
  refine sd_vv rfl rfl rfl (vv_assign rfl) ?_
  refine sd_done ?_
  refine sw_block ?_
  refine sw_loopD (α := Nat × BitVec 64 × List (BitVec 8) × Int × Value × Nat × Nat) [0, 5, 6, 7, 8, 9, 10, 11, 12, 13, 14, 15, 16, 17, 18, 19] (fun ⟨n1, a5, a6, a8, vy7, zy7, gy7⟩ => [(0, wv a5), (5, vy7), (6, .int .i64 a8)]) (fun ⟨n1, a5, a6, a8, vy7, zy7, gy7⟩ wr => (fixN (ref02_Bytes_L1 p1) n1 (a5, a6, a8) = some r) ∧ Own wr zy7 gy7 5 1 vy7 (a6.map bvc) ∧ Hdn (zy7 = 0 ∨ w.heap.size ≤ gy7) ∧ Kz [] w wr) (fun ⟨n1, a5, a6, a8, vy7, zy7, gy7⟩ => n1) ⟨FUEL, p0, [], 0, (.slice none 0 0), 0, 0⟩ ?_ ?_ ?_
  · repeat' first | exact trivial | refine ⟨rfl, ?_⟩
  · exact ⟨hm, (own_nil _ 0 5 1), ⟨(.inl rfl)⟩, Kz.refl _ _⟩
  · clear hm; rintro ⟨n1, a5, a6, a8, vy7, zy7, gy7⟩ w1 ⟨hm, Fw1_0, Fw1_1, Kw1⟩
    have z1 := Kw1.size
    have lt2 := Fw1_0.lth
    have hb := fix_succ hm; clear hm; obtain ⟨n1, rfl, hm⟩ := hb
    generalize hrec1 : fixN (ref02_Bytes_L1 p1) n1 = rec1 at hm
    unfold ref02_Bytes_L1 at hm
    try dsimp only at hm
    refine sw_seq ?_
    refine sw_seq ?_
    -- region 3 ref.go:19
    refine sw_region [(0, 0), (1, 0), (2, 0)] rfl rfl rfl ?_
    refine sd_vv rfl rfl rfl (vv_move rfl) ?_
    refine sd_vv rfl rfl rfl (vv_move rfl) ?_
    refine sd_vv rfl rfl rfl (vv_lss (a := a8) (b := p1) rfl rfl) ?_
    refine sd_done ?_
    refine sw_cond rfl (fun c1 => ?_) (fun c1 => ?_)
    ·
      replace hm := ite_t (of_decide_eq_true c1) hm
      refine sw_skip ?_
      refine then_n ?_
      refine sw_seq ?_
      refine sw_block ?_
      refine sw_seq ?_
      -- region 5 ref.go:20
      refine sw_region [(0, 0), (1, 0), (2, 0), (3, 0), (4, 0), (5, 0), (6, 0)] rfl rfl rfl ?_
      refine sd_vv rfl rfl rfl (vv_move rfl) ?_
      have hb := bnd hm; clear hm; obtain ⟨x9, hx9, hm⟩ := hb
      refine sd_vv rfl rfl rfl (vv_remU (c := a5) (d := 256#64) rfl rfl hx9) ?_
      refine sd_vv rfl rfl rfl (vv_cvUB cv_24_5 rfl) ?_
      refine sd_ev rfl rfl rfl (ev_litT [x9.setWidth 8] bvc bsl_105_1 rfl rfl (ws_of rfl) rfl rfl rfl) ?_
      rintro vw2 w2 ⟨gw2, hbw2, Ow2, Gw2⟩
      have z3 := Gw2.size
      have lt4 := Ow2.lth
      refine sd_vv rfl rfl rfl (vv_move rfl) ?_
      have B5 := (Own.gr Fw1_0 Gw2)
      have hb := bnd hm; clear hm; obtain ⟨l10, hl10, hm⟩ := hb
      refine sd_ev rfl rfl rfl (ev_appT (l := [x9.setWidth 8]) (m := a6) (c := bvc) apt_105 rfl rfl Ow2 (Own.rd B5) hl10 (by decide)) ?_
      rintro vw3 w3 ⟨zw3, gw3, Ow3, Aw3, qw3, rw3⟩
      have z6 := Aw3.size
      refine sd_vv rfl rfl rfl (vv_assign rfl) ?_
      refine sd_done ?_
      -- region 6 ref.go:21
      refine sw_region [(0, 0), (1, 0), (2, 0)] rfl rfl rfl ?_
      refine sd_vv rfl rfl rfl (vv_move rfl) ?_
      have hb := bnd hm; clear hm; obtain ⟨x11, hx11, hm⟩ := hb
      refine sd_vv rfl rfl rfl (vv_quoU (c := a5) (d := 256#64) rfl rfl hx11) ?_
      refine sd_vv rfl rfl rfl (vv_assign rfl) ?_
      refine sd_nil ?_
      refine block_n ?_
      refine then_n ?_
      -- region 4 ref.go:19
      refine sw_region [(0, 0), (1, 0), (2, 0)] rfl rfl rfl ?_
      refine sd_vv rfl rfl rfl (vv_move rfl) ?_
      refine sd_vv rfl rfl rfl (vv_add (k := .i64) (a := a8) (b := 1) rfl rfl) ?_
      refine sd_vv rfl rfl rfl (vv_assign rfl) ?_
      refine sd_nil ?_
      have K_7 : Kz [] w w3 := (Kz.ka (Kz.gr Kw1 Gw2) Aw3 (tk1 ((.inr tk0) : 1 = 0 ∨ w.heap.size ≤ gw2)))
      subst hrec1
      refine ⟨rfl, ⟨n1, x11, l10, w64 (a8 + 1), vw3, zw3, gw3⟩, ?_, ⟨hm, Ow3, ⟨(pv_app (A := (fun x => w.heap.size ≤ x)) rw3 (.inr tk0))⟩, K_7⟩, Nat.lt_succ_self _⟩
      repeat' first | exact trivial | refine ⟨rfl, ?_⟩
    ·
      replace hm := ite_f (of_decide_eq_false c1) hm
      refine sw_exit ?_
      refine then_x ?_
      refine then_x ?_
      refine block_x ?_
      refine then_n ?_
      refine sw_seq ?_
      -- region 7 ref.go:23
      refine sw_region [(0, 0), (1, 0)] rfl rfl rfl ?_
      refine sd_vv rfl rfl rfl (vv_move rfl) ?_
      refine sd_vv rfl rfl rfl (vv_assign rfl) ?_
      refine sd_done ?_
      refine sw_ret ?_
      have X8 : Gr w w1 := (Gr.kz (Gr.refl w) Kw1)
      have hr := Option.some.inj hm
      subst hr
      refine ⟨_, _, rfl, res_1 rfl (rv_tmp rfl), ?_⟩
      exact ⟨vy7, zy7, gy7, rfl, Fw1_0, ⟨(pv_0 (A := (fun x => w.heap.size ≤ x)) Fw1_1)⟩, X8⟩

set_option maxHeartbeats 2000000 in
theorem ref02_key_w (p0 : List (BitVec 8)) (vp0 : Value) (zp0 gp0 op0 : Nat) (r : W2) (hm : ref02_key p0 = some r) (w : World) (hp0 : Rd w zp0 gp0 op0 1 vp0 (p0.map bvc))  :
    Calls Try.prog 148 [vp0].toArray w fun e w' => ∃ v, e = .returned v ∧ (v = kv r ∧ Gr w w') := by
  have lt1 := hp0.lth
  unfold ref02_key at hm
  refine calls_of_sw (R := fun v w' => v = kv r ∧ Gr w w') 22 Try.func148 rfl rfl rfl ?_
  refine sw_seq ?_
  -- region 0 ref.go:42
  refine sw_region [(0, 0)] rfl rfl rfl ?_
  refine sd_ev rfl rfl rfl (ev_alloc (cs := kb k0) zv_23 rfl) ?_
  rintro _ w1 ⟨b1, rfl, hbw1, Bw1, Gw1⟩
  have z2 := Gw1.size
  have lt3 := Bw1.lt
  refine sd_done ?_
  refine sw_seq ?_
  -- region 1 ref.go:43
  refine sw_region [(0, 0)] rfl rfl rfl ?_
  refine sd_ev rfl rfl rfl (ev_alloc (cs := kb k0) zv_23 rfl) ?_
  rintro _ w2 ⟨b2, rfl, hbw2, Bw2, Gw2⟩
  have z4 := Gw2.size
  have lt5 := Bw2.lt
  refine sd_done ?_
  refine sw_seq ?_
  refine sw_seq ?_
  -- region 2 ref.go:44
  refine sw_region [(0, 0)] rfl rfl rfl ?_
  refine sd_vv rfl rfl rfl (vv_assign rfl) ?_
  refine sd_done ?_
  refine sw_block ?_
  have X6 : Gr w w2 := (Gr.trans (Gr.trans (Gr.refl w) Gw1) Gw2)
  have B7 := (Rd.gr (Rd.gr hp0 Gw1) Gw2)
  refine sw_loopD (α := Nat × Int × W2) [4, 5, 6, 7, 8, 9, 10, 11, 12, 13, 14, 15, 16, 17, 18, 19, 20] (fun ⟨n1, a3, a4⟩ => [(4, .int .i64 a3)]) (fun ⟨n1, a3, a4⟩ wr => (fixN (ref02_key_L1 p0) n1 (a3, a4) = some r) ∧ Bx wr b2 23 (kb a4) ∧ Kz [(1, b2)] w2 wr) (fun ⟨n1, a3, a4⟩ => n1) ⟨FUEL, 0, k0⟩ ?_ ?_ ?_
  · repeat' first | exact trivial | refine ⟨rfl, ?_⟩
  · exact ⟨hm, Bw2, Kz.refl _ _⟩
  · clear hm; rintro ⟨n1, a3, a4⟩ w3 ⟨hm, Fw3_0, Kw3⟩
    have z8 := Kw3.size
    have lt9 := Fw3_0.lt
    have hb := fix_succ hm; clear hm; obtain ⟨n1, rfl, hm⟩ := hb
    generalize hrec1 : fixN (ref02_key_L1 p0) n1 = rec1 at hm
    unfold ref02_key_L1 at hm
    try dsimp only at hm
    refine sw_seq ?_
    have X10 : Gr w w3 := (Gr.kz X6 Kw3)
    refine sw_joinD (β := Bool) [5, 6, 7, 8, 9, 10, 11, 12] (fun a5 => [(12, .bool a5)]) (fun a5 wr => (ref02_key_J2 p0 a3 a4 rec1 a5 = some r) ∧ Kz [] w3 wr) ?_ ?_
    · clear hm; rintro a5 w4 ⟨hm, Kw4⟩
      have z11 := Kw4.size
      unfold ref02_key_J2 at hm
      refine sw_cond rfl (fun c1 => ?_) (fun c1 => ?_)
      ·
        replace hm := cnd_t c1 hm
        refine sw_skip ?_
        refine then_n ?_
        refine sw_seq ?_
        refine sw_block ?_
        -- region 5 ref.go:45
        refine sw_region [(0, 0), (1, 0), (2, 0), (3, 0), (4, 0), (5, 0), (6, 0)] rfl rfl rfl ?_
        refine sd_vv rfl rfl rfl (vv_move rfl) ?_
        refine sd_vv rfl rfl rfl (vv_move rfl) ?_
        refine sd_vv rfl rfl rfl (vv_move rfl) ?_
        have hb := bnd hm; clear hm; obtain ⟨y6, hy6, hm⟩ := hb
        have B12 := (Rd.kz (Rd.kz B7 Kw3 (tk1 ((pv_lt (A := (fun x => x ≠ b2)) lt1) : zp0 = 0 ∨ gp0 ≠ b2))) Kw4)
        refine sd_vv rfl rfl rfl (vv_ixT (i := a3) Try.underlying105 (one_5).siz rfl B12 rfl hy6) ?_
        refine sd_vv rfl rfl rfl (vv_el1T (q := 0) (u := bv y6) one_5 rfl B12 hy6 (by first | rfl | omega) rfl) ?_
        have hb := bnd hm; clear hm; obtain ⟨y7, hy7, hm⟩ := hb
        refine sd_vv rfl rfl rfl (vv_ixK (i := a3) (p := a4) Try.underlying23 (one_5).siz rfl rfl hy7) ?_
        have B13 := (Bx.kz Fw3_0 Kw4)
        have hb := bnd hm; clear hm; obtain ⟨x8, hx8, hm⟩ := hb
        refine sd_ev rfl rfl rfl (ev_stK (off := 0) (p := a4) (q := x8) (i := a3) (cs' := kb x8) (one_5).siz rfl rfl B13 rfl hx8 rfl rfl rfl) ?_
        rintro _ w5 ⟨Bw5, Mw5⟩
        have z14 := Mw5.size
        refine sd_nil ?_
        refine block_n ?_
        refine then_n ?_
        -- region 4 ref.go:44
        refine sw_region [(0, 0), (1, 0), (2, 0)] rfl rfl rfl ?_
        refine sd_vv rfl rfl rfl (vv_move rfl) ?_
        refine sd_vv rfl rfl rfl (vv_add (k := .i64) (a := a3) (b := 1) rfl rfl) ?_
        refine sd_vv rfl rfl rfl (vv_assign rfl) ?_
        refine sd_nil ?_
        have K_15 : Kz [(1, b2)] w2 w5 := (Kz.md (Kz.kz Kw3 Kw4) Mw5)
        subst hrec1
        refine ⟨rfl, ⟨n1, w64 (a3 + 1), x8⟩, ?_, ⟨hm, Bw5, K_15⟩, Nat.lt_succ_self _⟩
        repeat' first | exact trivial | refine ⟨rfl, ?_⟩
      ·
        replace hm := cnd_f c1 hm
        refine sw_exit ?_
        refine then_x ?_
        refine then_x ?_
        refine block_x ?_
        refine then_n ?_
        refine sw_seq ?_
        -- region 6 ref.go:47
        refine sw_region [(0, 0), (1, 0)] rfl rfl rfl ?_
        have B16 := (Bx.kz Fw3_0 Kw4)
        refine sd_vv rfl rfl rfl (vv_loadW agg_23 rfl B16 rfl) ?_
        have B17 := (Bx.kz (Bx.kz (Bx.gr Bw1 Gw2) Kw3) Kw4)
        refine sd_ev rfl rfl rfl (ev_stM (cs' := kb a4) (vs := kb a4) (agg_23).siz rfl rfl rfl rfl rfl B17 rfl rfl) ?_
        rintro _ w6 ⟨Bw6, Mw6⟩
        have z18 := Mw6.size
        refine sd_done ?_
        refine sw_ret ?_
        have X19 : Gr w w6 := (Gr.md (Gr.kz X10 Kw4) Mw6)
        have hr := Option.some.inj hm
        subst hr
        refine ⟨_, _, rfl, res_1 rfl (rv_cellW agg_23 rfl Bw6 rfl), ?_⟩
        exact ⟨rfl, X19⟩
    ·
      -- region 3 ref.go:44
      refine sw_region [(0, 0), (1, 0), (2, 0), (3, 0), (4, 0), (5, 0), (6, 0), (7, 0)] rfl rfl rfl ?_
      refine sd_vv rfl rfl rfl (vv_move rfl) ?_
      refine sd_vv rfl rfl rfl (vv_lss (a := a3) (b := 16) rfl rfl) ?_
      refine sd_split rfl rfl rfl (vv_move rfl) (fun c2 => ?_) (fun c2 => ?_)
      ·
        replace hm := ite_t (of_decide_eq_true c2) hm
        refine sd_vv rfl rfl rfl (vv_move rfl) ?_
        refine sd_vv rfl rfl rfl (vv_move rfl) ?_
        have B20 := (Rd.kz B7 Kw3 (tk1 ((pv_lt (A := (fun x => x ≠ b2)) lt1) : zp0 = 0 ∨ gp0 ≠ b2)))
        refine sd_vv rfl rfl rfl (vv_lenT (l := p0) (c := bvc) Try.underlying105 rfl B20) ?_
        refine sd_vv rfl rfl rfl (vv_lss (a := a3) (b := (p0.length : Int)) rfl rfl) ?_
        refine sd_vv rfl rfl rfl (vv_pickT rfl rfl) ?_
        refine sd_nil ?_
        have K_21 : Kz [] w3 w3 := (Kz.refl _ _)
        refine ⟨rfl, (decide (a3 < (p0.length : Int))), ?_, hm, K_21⟩
        repeat' first | exact trivial | refine ⟨rfl, ?_⟩
      ·
        replace hm := ite_f (of_decide_eq_false c2) hm
        refine sd_skip rfl rfl rfl ?_
        refine sd_skip rfl rfl rfl ?_
        refine sd_skip rfl rfl rfl ?_
        refine sd_skip rfl rfl rfl ?_
        refine sd_vv rfl rfl rfl (vv_pickF rfl rfl) ?_
        refine sd_nil ?_
        have K_22 : Kz [] w3 w3 := (Kz.refl _ _)
        refine ⟨rfl, false, ?_, hm, K_22⟩
        repeat' first | exact trivial | refine ⟨rfl, ?_⟩

set_option maxHeartbeats 2000000 in
theorem ref02_block_w (p0 : BitVec 64) (p1 : BitVec 64)  (r : W2) (hm : ref02_block p0 p1 = some r) (w : World)   :
    Calls Try.prog 131 [wv p0, wv p1].toArray w fun e w' => ∃ v, e = .returned v ∧ (v = kv r ∧ Gr w w') := by
  unfold ref02_block at hm
  refine calls_of_sw (R := fun v w' => v = kv r ∧ Gr w w') 11 Try.func131 rfl rfl rfl ?_
  refine sw_seq ?_
  -- region 0 ref.go:39
  refine sw_region [(0, 0)] rfl rfl rfl ?_
  refine sd_ev rfl rfl rfl (ev_alloc (cs := kb k0) zv_23 rfl) ?_
  rintro _ w1 ⟨b1, rfl, hbw1, Bw1, Gw1⟩
  have z1 := Gw1.size
  have lt2 := Bw1.lt
  refine sd_done ?_
  refine sw_seq ?_
  -- region 1 ref.go:39
  refine sw_region [(0, 0), (1, 0), (2, 0), (3, 0), (4, 0), (5, 0), (6, 0)] rfl rfl rfl ?_
  refine sd_vv rfl rfl rfl (vv_move rfl) ?_
  have hb := bnd hm; clear hm; obtain ⟨x1, hx1, hm⟩ := hb
  refine sd_ev rfl rfl rfl (ev_call en_149 rfl (ref02_Bytes_w p0 8 _ hx1 _)) ?_
  rintro u2_r0_s w2 ⟨_, z2_r0_s, g2_r0_s, rfl, O2_r0_s, f2_r0_s, Gw2⟩
  have z3 := Gw2.size
  have lt4 := O2_r0_s.lth
  refine sd_vv rfl rfl rfl (vv_move rfl) ?_
  have hb := bnd hm; clear hm; obtain ⟨x2, hx2, hm⟩ := hb
  refine sd_ev rfl rfl rfl (ev_call en_149 rfl (ref02_Bytes_w p1 8 _ hx2 _)) ?_
  rintro u3_r0_s w3 ⟨_, z3_r0_s, g3_r0_s, rfl, O3_r0_s, f3_r0_s, Gw3⟩
  have z5 := Gw3.size
  have lt6 := O3_r0_s.lth
  have B7 := (Own.gr O2_r0_s Gw3)
  have hb := bnd hm; clear hm; obtain ⟨l3, hl3, hm⟩ := hb
  refine sd_ev rfl rfl rfl (ev_appT (l := x1) (m := x2) (c := bvc) apt_105 rfl rfl B7 (Own.rd O3_r0_s) hl3 (by decide)) ?_
  rintro vw4 w4 ⟨zw4, gw4, Ow4, Aw4, qw4, rw4⟩
  have z8 := Aw4.size
  have hb := bnd hm; clear hm; obtain ⟨x4, hx4, hm⟩ := hb
  refine sd_ev rfl rfl rfl (ev_call en_148 rfl (ref02_key_w l3 _ _ _ _ _ hx4 _ (Own.rd Ow4))) ?_
  rintro _ w5 ⟨rfl, Gw5⟩
  have z9 := Gw5.size
  have B10 := (Bx.gr (Bx.ka (Bx.gr (Bx.gr Bw1 Gw2) Gw3) Aw4 (tk1 ((pv_0 (A := (fun x => x ≠ b1)) f2_r0_s) : z2_r0_s = 0 ∨ g2_r0_s ≠ b1))) Gw5)
  refine sd_ev rfl rfl rfl (ev_stM (cs' := kb x4) (vs := kb x4) (agg_23).siz rfl rfl rfl rfl rfl B10 rfl rfl) ?_
  rintro _ w6 ⟨Bw6, Mw6⟩
  have z11 := Mw6.size
  refine sd_done ?_
  refine sw_ret ?_
  have X12 : Gr w w6 := (Gr.md (Gr.trans (Gr.ka (Gr.trans (Gr.trans (Gr.trans (Gr.refl w) Gw1) Gw2) Gw3) Aw4 (tk1 ((pv_0 (A := (fun x => w.heap.size ≤ x)) f2_r0_s) : z2_r0_s = 0 ∨ w.heap.size ≤ g2_r0_s))) Gw5) Mw6)
  have hr := Option.some.inj hm
  subst hr
  refine ⟨_, _, rfl, res_1 rfl (rv_cellW agg_23 rfl Bw6 rfl), ?_⟩
  exact ⟨rfl, X12⟩

set_option maxHeartbeats 2000000 in
theorem ref02_Decrypt_w (p0 : W2) (p1 : W2)  (r : W2) (hm : ref02_Decrypt p0 p1 = some r) (w : World)   :
    Calls Try.prog 83 [kv p0, kv p1].toArray w fun e w' => ∃ v, e = .returned v ∧ (v = kv r ∧ Gr w w') := by
  unfold ref02_Decrypt at hm
  refine calls_of_sw (R := fun v w' => v = kv r ∧ Gr w w') 36 Try.func83 rfl rfl rfl ?_
  refine sw_seq ?_
  -- region 0 ref.go:80
  refine sw_region [(0, 0), (1, 0), (2, 0)] rfl rfl rfl ?_
  refine sd_ev rfl rfl rfl (ev_box (cs := kb p0) rfl rfl) ?_
  rintro _ w1 ⟨b1, rfl, hbw1, Bw1, Gw1⟩
  have z1 := Gw1.size
  have lt2 := Bw1.lt
  refine sd_ev rfl rfl rfl (ev_box (cs := kb p1) rfl rfl) ?_
  rintro _ w2 ⟨b2, rfl, hbw2, Bw2, Gw2⟩
  have z3 := Gw2.size
  have lt4 := Bw2.lt
  refine sd_ev rfl rfl rfl (ev_alloc (cs := kb k0) zv_23 rfl) ?_
  rintro _ w3 ⟨b3, rfl, hbw3, Bw3, Gw3⟩
  have z5 := Gw3.size
  have lt6 := Bw3.lt
  refine sd_done ?_
  refine sw_seq ?_
  -- region 1 ref.go:81
  refine sw_region [(0, 0), (1, 0), (2, 0), (3, 0), (4, 0), (5, 0), (6, 0)] rfl rfl rfl ?_
  have B7 := (Bx.gr Bw2 Gw3)
  refine sd_vv rfl rfl rfl (vv_loadW agg_23 rfl B7 rfl) ?_
  have hb := bnd hm; clear hm; obtain ⟨x1, hx1, hm⟩ := hb
  refine sd_ev rfl rfl rfl (ev_call en_127 rfl (ref02_words_w p1 _ hx1 _)) ?_
  rintro _ w4 ⟨rfl, Gw4⟩
  have z8 := Gw4.size
  refine sd_vv rfl rfl rfl (vv_move rfl) ?_
  refine sd_vv rfl rfl rfl (vv_extract rfl rfl) ?_
  refine sd_vv rfl rfl rfl (vv_extract rfl rfl) ?_
  refine sd_vv rfl rfl rfl (vv_assign rfl) ?_
  refine sd_vv rfl rfl rfl (vv_assign rfl) ?_
  refine sd_done ?_
  refine sw_seq ?_
  -- region 2 ref.go:82
  refine sw_region [(0, 0), (1, 0), (2, 0)] rfl rfl rfl ?_
  have B9 := (Bx.gr (Bx.gr (Bx.gr Bw1 Gw2) Gw3) Gw4)
  refine sd_vv rfl rfl rfl (vv_loadW agg_23 rfl B9 rfl) ?_
  have hb := bnd hm; clear hm; obtain ⟨x2, hx2, hm⟩ := hb
  refine sd_ev rfl rfl rfl (ev_call en_128 rfl (ref02_roundKeys_w p0 _ hx2 _)) ?_
  rintro u5_r0_s w5 ⟨_, z5_r0_s, g5_r0_s, rfl, O5_r0_s, f5_r0_s, Gw5⟩
  have z10 := Gw5.size
  have lt11 := O5_r0_s.lth
  refine sd_vv rfl rfl rfl (vv_assign rfl) ?_
  refine sd_done ?_
  refine sw_seq ?_
  refine sw_seq ?_
  -- region 3 ref.go:83
  refine sw_region [(0, 0)] rfl rfl rfl ?_
  refine sd_vv rfl rfl rfl (vv_assign rfl) ?_
  refine sd_done ?_
  refine sw_block ?_
  have X12 : Gr w w5 := (Gr.trans (Gr.trans (Gr.trans (Gr.trans (Gr.trans (Gr.refl w) Gw1) Gw2) Gw3) Gw4) Gw5)
  refine sw_loopD (α := Nat × BitVec 64 × BitVec 64 × Int) [5, 6, 8, 16, 17, 18, 19, 20, 21, 22, 23, 24, 25, 26, 27, 28, 29, 30, 31, 32] (fun ⟨n1, a6, a7, a8⟩ => [(5, wv a6), (6, wv a7), (8, .int .i64 a8)]) (fun ⟨n1, a6, a7, a8⟩ wr => (fixN (ref02_Decrypt_L1 x2) n1 (a6, a7, a8) = some r) ∧ Kz [] w5 wr) (fun ⟨n1, a6, a7, a8⟩ => n1) ⟨FUEL, x1.1, x1.2, 31⟩ ?_ ?_ ?_
  · repeat' first | exact trivial | refine ⟨rfl, ?_⟩
  · exact ⟨hm, Kz.refl _ _⟩
  · clear hm; rintro ⟨n1, a6, a7, a8⟩ w6 ⟨hm, Kw6⟩
    have z13 := Kw6.size
    have hb := fix_succ hm; clear hm; obtain ⟨n1, rfl, hm⟩ := hb
    generalize hrec1 : fixN (ref02_Decrypt_L1 x2) n1 = rec1 at hm
    unfold ref02_Decrypt_L1 at hm
    try dsimp only at hm
    refine sw_seq ?_
    refine sw_seq ?_
    -- region 4 ref.go:83
    refine sw_region [(0, 0), (1, 0)] rfl rfl rfl ?_
    refine sd_vv rfl rfl rfl (vv_move rfl) ?_
    refine sd_vv rfl rfl rfl (vv_geq (a := a8) (b := 0) rfl rfl) ?_
    refine sd_done ?_
    refine sw_cond rfl (fun c1 => ?_) (fun c1 => ?_)
    ·
      replace hm := ite_t (of_decide_eq_true c1) hm
      refine sw_skip ?_
      refine then_n ?_
      refine sw_seq ?_
      refine sw_block ?_
      refine sw_seq ?_
      -- region 6 ref.go:84
      refine sw_region [(0, 0), (1, 0), (2, 0), (3, 0), (4, 0)] rfl rfl rfl ?_
      refine sd_vv rfl rfl rfl (vv_move rfl) ?_
      refine sd_vv rfl rfl rfl (vv_move rfl) ?_
      refine sd_vv rfl rfl rfl (vv_uxor (a := a7) (b := a6) rfl rfl) ?_
      have hb := bnd hm; clear hm; obtain ⟨x9, hx9, hm⟩ := hb
      refine sd_ev rfl rfl rfl (ev_call en_129 rfl (ref02_rotr_w (a7 ^^^ a6) 3 _ hx9 _)) ?_
      rintro _ w7 ⟨rfl, Gw7⟩
      have z14 := Gw7.size
      refine sd_vv rfl rfl rfl (vv_assign rfl) ?_
      refine sd_done ?_
      -- region 7 ref.go:85
      refine sw_region [(0, 0), (1, 0), (2, 0), (3, 0), (4, 0), (5, 0), (6, 0), (7, 0), (8, 0), (9, 0)] rfl rfl rfl ?_
      refine sd_vv rfl rfl rfl (vv_move rfl) ?_
      refine sd_vv rfl rfl rfl (vv_move rfl) ?_
      refine sd_vv rfl rfl rfl (vv_move rfl) ?_
      have hb := bnd hm; clear hm; obtain ⟨y10, hy10, hm⟩ := hb
      have B15 := (Own.gr (Own.kz O5_r0_s Kw6) Gw7)
      refine sd_vv rfl rfl rfl (vv_ixT (i := a8) Try.underlying60 (one_24).siz rfl (Own.rd B15) rfl hy10) ?_
      refine sd_vv rfl rfl rfl (vv_el1T (q := 0) (u := wv y10) one_24 rfl (Own.rd B15) hy10 (by first | rfl | omega) rfl) ?_
      refine sd_vv rfl rfl rfl (vv_uxor (a := a6) (b := y10) rfl rfl) ?_
      refine sd_vv rfl rfl rfl (vv_move rfl) ?_
      refine sd_vv rfl rfl rfl (vv_usub (a := a6 ^^^ y10) (b := x9) rfl rfl) ?_
      have hb := bnd hm; clear hm; obtain ⟨x11, hx11, hm⟩ := hb
      refine sd_ev rfl rfl rfl (ev_call en_130 rfl (ref02_rotl_w ((a6 ^^^ y10) - x9) 8 _ hx11 _)) ?_
      rintro _ w8 ⟨rfl, Gw8⟩
      have z16 := Gw8.size
      refine sd_vv rfl rfl rfl (vv_assign rfl) ?_
      refine sd_nil ?_
      refine block_n ?_
      refine then_n ?_
      -- region 5 ref.go:83
      refine sw_region [(0, 0), (1, 0), (2, 0)] rfl rfl rfl ?_
      refine sd_vv rfl rfl rfl (vv_move rfl) ?_
      refine sd_vv rfl rfl rfl (vv_sub (k := .i64) (a := a8) (b := 1) rfl rfl) ?_
      refine sd_vv rfl rfl rfl (vv_assign rfl) ?_
      refine sd_nil ?_
      have K_17 : Kz [] w5 w8 := (Kz.gr (Kz.gr Kw6 Gw7) Gw8)
      subst hrec1
      refine ⟨rfl, ⟨n1, x11, x9, w64 (a8 - 1)⟩, ?_, ⟨hm, K_17⟩, Nat.lt_succ_self _⟩
      repeat' first | exact trivial | refine ⟨rfl, ?_⟩
    ·
      replace hm := ite_f (of_decide_eq_false c1) hm
      refine sw_exit ?_
      refine then_x ?_
      refine then_x ?_
      refine block_x ?_
      refine then_n ?_
      refine sw_seq ?_
      -- region 8 ref.go:87
      refine sw_region [(0, 0), (1, 0), (2, 0), (3, 0)] rfl rfl rfl ?_
      refine sd_vv rfl rfl rfl (vv_move rfl) ?_
      refine sd_vv rfl rfl rfl (vv_move rfl) ?_
      have hb := bnd hm; clear hm; obtain ⟨x12, hx12, hm⟩ := hb
      refine sd_ev rfl rfl rfl (ev_call en_131 rfl (ref02_block_w a6 a7 _ hx12 _)) ?_
      rintro _ w9 ⟨rfl, Gw9⟩
      have z18 := Gw9.size
      have B19 := (Bx.gr (Bx.kz (Bx.gr (Bx.gr Bw3 Gw4) Gw5) Kw6) Gw9)
      refine sd_ev rfl rfl rfl (ev_stM (cs' := kb x12) (vs := kb x12) (agg_23).siz rfl rfl rfl rfl rfl B19 rfl rfl) ?_
      rintro _ w10 ⟨Bw10, Mw10⟩
      have z20 := Mw10.size
      refine sd_done ?_
      refine sw_ret ?_
      have X21 : Gr w w10 := (Gr.md (Gr.trans (Gr.kz X12 Kw6) Gw9) Mw10)
      have hr := Option.some.inj hm
      subst hr
      refine ⟨_, _, rfl, res_1 rfl (rv_cellW agg_23 rfl Bw10 rfl), ?_⟩
      exact ⟨rfl, X21⟩

set_option maxHeartbeats 2000000 in
theorem ref04_Open_w (p0 : TScheme) (p1 : TSecret) (p2 : THeader) (vp1_1 : Value) (zp1_1 gp1_1 op1_1 : Nat) (vp2_0 : Value) (zp2_0 gp2_0 op2_0 : Nat) (vp2_2 : Value) (zp2_2 gp2_2 op2_2 : Nat) (r : W2 × Int) (hm : ref04_Open p0 p1 p2 = some r) (w : World) (hp1_1 : Rd w zp1_1 gp1_1 op1_1 18 vp1_1 (p1.Labels.map TLabel.cs)) (hp2_0 : Rd w zp2_0 gp2_0 op2_0 18 vp2_0 (p2.Items.map TItem.cs)) (hp2_2 : Rd w zp2_2 gp2_2 op2_2 2 vp2_2 (p2.Points.map TPoint.cs))  :
    Calls Try.prog 28 [.agg (TScheme.cs p0).toArray, .agg (TSecret.cs p1 vp1_1).toArray, .agg (THeader.cs p2 vp2_0 vp2_2).toArray].toArray w fun e w' => ∃ v, e = .returned v ∧ (v = .tuple [kv r.1, .int .i64 r.2].toArray ∧ Gr w w') := by
  have lt1 := hp1_1.lth
  have lt2 := hp2_0.lth
  have lt3 := hp2_2.lth
  unfold ref04_Open at hm
  refine calls_of_sw (R := fun v w' => v = .tuple [kv r.1, .int .i64 r.2].toArray ∧ Gr w w') 131 Try.func28 rfl rfl rfl ?_
  refine sw_seq ?_
  -- region 0 ref.go:241
  refine sw_region [(0, 0), (1, 0), (2, 0), (3, 0), (4, 0)] rfl rfl rfl ?_
  refine sd_ev rfl rfl rfl (ev_box (cs := TScheme.cs p0) rfl rfl) ?_
  rintro _ w1 ⟨b1, rfl, hbw1, Bw1, Gw1⟩
  have z4 := Gw1.size
  have lt5 := Bw1.lt
  refine sd_ev rfl rfl rfl (ev_box (cs := TSecret.cs p1 vp1_1) rfl rfl) ?_
  rintro _ w2 ⟨b2, rfl, hbw2, Bw2, Gw2⟩
  have z6 := Gw2.size
  have lt7 := Bw2.lt
  refine sd_ev rfl rfl rfl (ev_box (cs := THeader.cs p2 vp2_0 vp2_2) rfl rfl) ?_
  rintro _ w3 ⟨b3, rfl, hbw3, Bw3, Gw3⟩
  have z8 := Gw3.size
  have lt9 := Bw3.lt
  refine sd_ev rfl rfl rfl (ev_alloc (cs := kb k0) zv_23 rfl) ?_
  rintro _ w4 ⟨b4, rfl, hbw4, Bw4, Gw4⟩
  have z10 := Gw4.size
  have lt11 := Bw4.lt
  refine sd_vv rfl rfl rfl (vv_assign rfl) ?_
  refine sd_done ?_
  refine sw_seq ?_
  refine sw_seq ?_
  -- region 1 ref.go:242
  refine sw_region [(0, 0), (1, 0), (2, 0)] rfl rfl rfl ?_
  have B12 := (Bx.gr (Bx.gr (Bx.gr Bw1 Gw2) Gw3) Gw4)
  refine sd_vv rfl rfl rfl (vv_loadW agg_28 rfl B12 rfl) ?_
  have hb := bnd hm; clear hm; obtain ⟨x1, hx1, hm⟩ := hb
  refine sd_ev rfl rfl rfl (ev_call en_53 rfl (ref04_Valid_w p0 _ hx1 _)) ?_
  rintro _ w5 ⟨rfl, Gw5⟩
  have z13 := Gw5.size
  refine sd_vv rfl rfl rfl (vv_not rfl) ?_
  refine sd_done ?_
  refine sw_cond rfl (fun c1 => ?_) (fun c1 => ?_)
  ·
    replace hm := cnd_t c1 hm
    refine sw_seq ?_
    -- region 2 ref.go:243
    refine sw_region [(0, 0), (1, 0), (2, 0)] rfl rfl rfl ?_
    refine sd_vv rfl rfl rfl (vv_buildZ bz_23) ?_
    have B14 := (Bx.gr Bw4 Gw5)
    refine sd_ev rfl rfl rfl (ev_stM (cs' := kb k0) (vs := kb k0) (agg_23).siz rfl rfl rfl rfl rfl B14 rfl rfl) ?_
    rintro _ w6 ⟨Bw6, Mw6⟩
    have z15 := Mw6.size
    refine sd_vv rfl rfl rfl (vv_assign rfl) ?_
    refine sd_done ?_
    refine sw_ret ?_
    refine then_r ?_
    have X16 : Gr w w6 := (Gr.md (Gr.trans (Gr.trans (Gr.trans (Gr.trans (Gr.trans (Gr.refl w) Gw1) Gw2) Gw3) Gw4) Gw5) Mw6)
    have hr := Option.some.inj hm
    subst hr
    refine ⟨_, _, rfl, res_2 rfl (rv_cellW agg_23 rfl Bw6 rfl) (rv_tmp rfl), ?_⟩
    exact ⟨rfl, X16⟩
  ·
    replace hm := cnd_f c1 hm
    refine sw_skip ?_
    refine then_n ?_
    refine sw_seq ?_
    -- region 3 ref.go:245 DRAWS
    refine sw_drawN [([])] [] (.leaf [(0, 10), (1, 10), (2, 10), (3, 10), (4, 10), (5, 10), (6, 10), (7, 10)]) (by kernel_rfl) (by kernel_rfl) rfl (by kernel_rfl) ?_
    intro w7 Gw7 zw7
    refine sdz_leaf ?_
    refine dd_hn 0 rfl rfl rfl rfl (Kp.refl ([]) w7) (fun w hS => vv_fieldAddr fa_28_3 rfl) ?_
    refine dd_hn 0 rfl rfl rfl rfl (Kp.refl ([]) w7) (fun w hS => vv_fieldAddr fa_26_0 rfl) ?_
    have B17 := (Bx.gr (Bx.gr B12 Gw5) Gw7)
    refine dd_hn 0 rfl rfl rfl rfl (Kp.refl ([]) w7) (fun w hS => vv_load1 (v := wv p0.Group.P) one_24 rfl (Bx.kp B17 hS) rfl) ?_
    refine dd_hn 0 rfl rfl rfl rfl (Kp.refl ([]) w7) (fun w hS => vv_fieldAddr fa_28_3 rfl) ?_
    refine dd_hn 0 rfl rfl rfl rfl (Kp.refl ([]) w7) (fun w hS => vv_fieldAddr fa_26_1 rfl) ?_
    refine dd_hn 0 rfl rfl rfl rfl (Kp.refl ([]) w7) (fun w hS => vv_load1 (v := wv p0.Group.Q) one_24 rfl (Bx.kp B17 hS) rfl) ?_
    refine dd_hn 0 rfl rfl rfl rfl (Kp.refl ([]) w7) (fun w hS => vv_assign rfl) ?_
    refine dd_hn 0 rfl rfl rfl rfl (Kp.refl ([]) w7) (fun w hS => vv_assign rfl) ?_
    refine sd_done ?_
    refine sw_seq ?_
    have X18 : Gr w w7 := (Gr.trans (Gr.trans (Gr.trans (Gr.trans (Gr.trans (Gr.trans (Gr.refl w) Gw1) Gw2) Gw3) Gw4) Gw5) Gw7)
    refine sw_joinD (β := Bool) [26, 27, 28, 29, 30, 31, 32, 33, 34, 35, 36, 37, 38, 39, 40, 41, 42, 43, 44, 45, 46, 47, 48, 49] (fun a2 => [(49, .bool a2)]) (fun a2 wr => (ref04_Open_J1 p0 p1 p2 a2 = some r) ∧ Kz [] w7 wr) ?_ ?_
    · clear hm; rintro a2 w8 ⟨hm, Kw8⟩
      have z19 := Kw8.size
      unfold ref04_Open_J1 at hm
      refine sw_cond rfl (fun c2 => ?_) (fun c2 => ?_)
      ·
        replace hm := cnd_t c2 hm
        refine sw_seq ?_
        -- region 5 ref.go:247
        refine sw_region [(0, 0), (1, 0), (2, 0)] rfl rfl rfl ?_
        refine sd_vv rfl rfl rfl (vv_buildZ bz_23) ?_
        have B20 := (Bx.kz (Bx.gr (Bx.gr Bw4 Gw5) Gw7) Kw8)
        refine sd_ev rfl rfl rfl (ev_stM (cs' := kb k0) (vs := kb k0) (agg_23).siz rfl rfl rfl rfl rfl B20 rfl rfl) ?_
        rintro _ w9 ⟨Bw9, Mw9⟩
        have z21 := Mw9.size
        refine sd_vv rfl rfl rfl (vv_assign rfl) ?_
        refine sd_done ?_
        refine sw_ret ?_
        refine then_r ?_
        have X22 : Gr w w9 := (Gr.md (Gr.kz X18 Kw8) Mw9)
        have hr := Option.some.inj hm
        subst hr
        refine ⟨_, _, rfl, res_2 rfl (rv_cellW agg_23 rfl Bw9 rfl) (rv_tmp rfl), ?_⟩
        exact ⟨rfl, X22⟩
      ·
        replace hm := cnd_f c2 hm
        refine sw_skip ?_
        refine then_n ?_
        refine sw_seq ?_
        -- region 6 ref.go:249
        refine sw_region [(0, 0), (1, 0), (2, 0), (3, 0), (4, 0)] rfl rfl rfl ?_
        refine sd_vv rfl rfl rfl (vv_fieldAddr fa_33_2 rfl) ?_
        refine sd_vv rfl rfl rfl (vv_fieldAddr fa_31_0 rfl) ?_
        have B23 := (Bx.kz (Bx.gr (Bx.gr (Bx.gr (Bx.gr Bw2 Gw3) Gw4) Gw5) Gw7) Kw8)
        refine sd_vv rfl rfl rfl (vv_load1 (v := wv p1.Share.X) one_24 rfl B23 rfl) ?_
        refine sd_ev rfl rfl rfl (ev_litT [p1.Share.X] uwc bsl_60_1 rfl rfl (ws_of rfl) rfl rfl rfl) ?_
        rintro vw10 w10 ⟨gw10, hbw10, Ow10, Gw10⟩
        have z24 := Gw10.size
        have lt25 := Ow10.lth
        refine sd_vv rfl rfl rfl (vv_assign rfl) ?_
        refine sd_done ?_
        refine sw_seq ?_
        -- region 7 ref.go:250
        refine sw_region [(0, 0), (1, 0), (2, 0), (3, 0), (4, 0), (5, 0), (6, 0), (7, 0), (8, 0)] rfl rfl rfl ?_
        refine sd_vv rfl rfl rfl (vv_fieldAddr fa_45_1 rfl) ?_
        have B26 := (Bx.gr (Bx.kz (Bx.gr (Bx.gr (Bx.gr Bw3 Gw4) Gw5) Gw7) Kw8) Gw10)
        refine sd_vv rfl rfl rfl (vv_load1 (v := wv p2.Base) one_24 rfl B26 rfl) ?_
        refine sd_vv rfl rfl rfl (vv_fieldAddr fa_33_2 rfl) ?_
        refine sd_vv rfl rfl rfl (vv_fieldAddr fa_31_1 rfl) ?_
        have B27 := (Bx.gr B23 Gw10)
        refine sd_vv rfl rfl rfl (vv_load1 (v := wv p1.Share.Y) one_24 rfl B27 rfl) ?_
        refine sd_vv rfl rfl rfl (vv_move rfl) ?_
        have hb := bnd hm; clear hm; obtain ⟨x3, hx3, hm⟩ := hb
        refine sd_ev rfl rfl rfl (ev_call en_81 rfl (ref01_Power_w p2.Base p1.Share.Y p0.Group.P _ hx3 _)) ?_
        rintro _ w11 ⟨rfl, Gw11⟩
        have z28 := Gw11.size
        refine sd_ev rfl rfl rfl (ev_litT [x3] uwc bsl_60_1 rfl rfl (ws_of rfl) rfl rfl rfl) ?_
        rintro vw12 w12 ⟨gw12, hbw12, Ow12, Gw12⟩
        have z29 := Gw12.size
        have lt30 := Ow12.lth
        refine sd_vv rfl rfl rfl (vv_assign rfl) ?_
        refine sd_done ?_
        refine sw_seq ?_
        refine sw_seq ?_
        -- region 8 ref.go:251
        refine sw_region [(0, 0)] rfl rfl rfl ?_
        refine sd_vv rfl rfl rfl (vv_assign rfl) ?_
        refine sd_done ?_
        refine sw_block ?_
        have X31 : Gr w w12 := (Gr.trans (Gr.trans (Gr.trans (Gr.kz X18 Kw8) Gw10) Gw11) Gw12)
        have B32 := (Rd.gr (Rd.gr (Rd.gr (Rd.kz (Rd.gr (Rd.gr (Rd.gr (Rd.gr (Rd.gr (Rd.gr hp1_1 Gw1) Gw2) Gw3) Gw4) Gw5) Gw7) Kw8) Gw10) Gw11) Gw12)
        have B33 := (Rd.gr (Rd.gr (Rd.gr (Rd.kz (Rd.gr (Rd.gr (Rd.gr (Rd.gr (Rd.gr (Rd.gr hp2_0 Gw1) Gw2) Gw3) Gw4) Gw5) Gw7) Kw8) Gw10) Gw11) Gw12)
        have B34 := (Rd.gr (Rd.gr (Rd.gr (Rd.kz (Rd.gr (Rd.gr (Rd.gr (Rd.gr (Rd.gr (Rd.gr hp2_2 Gw1) Gw2) Gw3) Gw4) Gw5) Gw7) Kw8) Gw10) Gw11) Gw12)
        have B35 := (Own.gr (Own.gr Ow10 Gw11) Gw12)
        refine sw_loopD (α := Nat × List (BitVec 64) × List (BitVec 64) × Int × Value × Nat × Nat × Value × Nat × Nat) [7, 10, 11, 12, 63, 64, 65, 66, 67, 68, 69, 70, 71, 72, 73, 74, 75, 76, 77, 78, 79, 80, 81, 82, 83, 84, 85, 86, 87, 88, 89, 90, 91, 92, 93, 94, 95, 96, 97, 98] (fun ⟨n2, a9, a11, a13, vy10, zy10, gy10, vy12, zy12, gy12⟩ => [(7, .int .i64 0), (10, vy10), (11, vy12), (12, .int .i64 a13)]) (fun ⟨n2, a9, a11, a13, vy10, zy10, gy10, vy12, zy12, gy12⟩ wr => (fixN (ref04_Open_L2 p0 p1 p2) n2 (a9, a11, a13) = some r) ∧ Own wr zy10 gy10 24 1 vy10 (a9.map uwc) ∧ Hdn (zy10 = 0 ∨ (gy10 = gw10 ∧ 1 ≠ 0) ∨ w12.heap.size ≤ gy10) ∧ Own wr zy12 gy12 24 1 vy12 (a11.map uwc) ∧ Hdn (zy12 = 0 ∨ (gy12 = gw12 ∧ 1 ≠ 0) ∨ w12.heap.size ≤ gy12) ∧ Hdn (zy12 = 0 ∨ zy10 = 0 ∨ gy12 ≠ gy10) ∧ Kz [(1, gw10), (1, gw12)] w12 wr) (fun ⟨n2, a9, a11, a13, vy10, zy10, gy10, vy12, zy12, gy12⟩ => n2) ⟨FUEL, [p1.Share.X], [x3], 0, vw10, 1, gw10, vw12, 1, gw12⟩ ?_ ?_ ?_
        · repeat' first | exact trivial | refine ⟨rfl, ?_⟩
        · exact ⟨hm, B35, ⟨tk0⟩, Ow12, ⟨tk0⟩, ⟨(.inr (tk1 lt25.o))⟩, Kz.refl _ _⟩
        · clear hm; rintro ⟨n2, a9, a11, a13, vy10, zy10, gy10, vy12, zy12, gy12⟩ w13 ⟨hm, Fw13_0, Fw13_1, Fw13_2, Fw13_3, Fw13_4, Kw13⟩
          have z36 := Kw13.size
          have lt37 := Fw13_0.lth
          have lt38 := Fw13_2.lth
          have hb := fix_succ hm; clear hm; obtain ⟨n2, rfl, hm⟩ := hb
          generalize hrec2 : fixN (ref04_Open_L2 p0 p1 p2) n2 = rec2 at hm
          unfold ref04_Open_L2 at hm
          try dsimp only at hm
          refine sw_seq ?_
          refine sw_seq ?_
          -- region 9 ref.go:251
          refine sw_region [(0, 0), (1, 0), (2, 0), (3, 0), (4, 0)] rfl rfl rfl ?_
          refine sd_vv rfl rfl rfl (vv_move rfl) ?_
          refine sd_vv rfl rfl rfl (vv_fieldAddr fa_45_2 rfl) ?_
          have B39 := (Bx.kz (Bx.gr (Bx.gr B26 Gw11) Gw12) Kw13 (tk2 ((.inr tk0) : 1 = 0 ∨ gw10 ≠ b3) ((.inr tk0) : 1 = 0 ∨ gw12 ≠ b3)))
          refine sd_vv rfl rfl rfl (vv_load1 (v := vp2_2) one_43 rfl B39 rfl) ?_
          have B40 := (Rd.kz B34 Kw13 (tk2 ((pv_sw (.inr (tk1 lt3.o))) : zp2_2 = 0 ∨ 1 = 0 ∨ gp2_2 ≠ gw10) ((pv_sw (.inr (tk1 lt3.o))) : zp2_2 = 0 ∨ 1 = 0 ∨ gp2_2 ≠ gw12)))
          refine sd_vv rfl rfl rfl (vv_lenT (l := p2.Points) (c := TPoint.cs) Try.underlying43 rfl B40) ?_
          refine sd_vv rfl rfl rfl (vv_lss (a := a13) (b := (p2.Points.length : Int)) rfl rfl) ?_
          refine sd_done ?_
          refine sw_cond rfl (fun c3 => ?_) (fun c3 => ?_)
          ·
            replace hm := ite_t (of_decide_eq_true c3) hm
            refine sw_skip ?_
            refine then_n ?_
            refine sw_seq ?_
            refine sw_block ?_
            refine sw_seq ?_
            refine sw_seq ?_
            -- region 11 ref.go:252 DRAWS
            refine sw_drawN [([])] [] (.leaf [(0, 10), (1, 10), (2, 10), (3, 10), (4, 10), (5, 10), (6, 10), (7, 10), (8, 10), (9, 10)]) (by kernel_rfl) (by kernel_rfl) rfl (by kernel_rfl) ?_
            intro w14 Gw14 zw14
            refine sdz_leaf ?_
            refine dd_hn 0 rfl rfl rfl rfl (Kp.refl ([]) w14) (fun w hS => vv_fieldAddr fa_45_2 rfl) ?_
            have B41 := (Bx.gr B39 Gw14)
            refine dd_hn 0 rfl rfl rfl rfl (Kp.refl ([]) w14) (fun w hS => vv_load1 (v := vp2_2) one_43 rfl (Bx.kp B41 hS) rfl) ?_
            refine dd_hn 0 rfl rfl rfl rfl (Kp.refl ([]) w14) (fun w hS => vv_move rfl) ?_
            have hb := bnd hm; clear hm; obtain ⟨y14, hy14, hm⟩ := hb
            have B42 := (Rd.gr B40 Gw14)
            refine dd_hn 0 rfl rfl rfl rfl (Kp.refl ([]) w14) (fun w hS => vv_ixT (i := a13) Try.underlying43 (agg_31).siz rfl (Rd.kp B42 hS) rfl hy14) ?_
            refine dd_hn 0 rfl rfl rfl rfl (Kp.refl ([]) w14) (fun w hS => vv_fieldAddr fa_31_0 rfl) ?_
            refine dd_hn 0 rfl rfl rfl rfl (Kp.refl ([]) w14) (fun w hS => vv_el1T (q := 0) (u := wv y14.X) one_24 rfl (Rd.kp B42 hS) hy14 (by first | rfl | omega) rfl) ?_
            refine dd_hn 0 rfl rfl rfl rfl (Kp.refl ([]) w14) (fun w hS => vv_fieldAddr fa_33_2 rfl) ?_
            refine dd_hn 0 rfl rfl rfl rfl (Kp.refl ([]) w14) (fun w hS => vv_fieldAddr fa_31_0 rfl) ?_
            have B43 := (Bx.gr (Bx.kz (Bx.gr (Bx.gr B27 Gw11) Gw12) Kw13 (tk2 ((.inr tk0) : 1 = 0 ∨ gw10 ≠ b2) ((.inr tk0) : 1 = 0 ∨ gw12 ≠ b2))) Gw14)
            refine dd_hn 0 rfl rfl rfl rfl (Kp.refl ([]) w14) (fun w hS => vv_load1 (v := wv p1.Share.X) one_24 rfl (Bx.kp B43 hS) rfl) ?_
            refine dd_hn 0 rfl rfl rfl rfl (Kp.refl ([]) w14) (fun w hS => vv_eqlU (c := y14.X) (d := p1.Share.X) rfl rfl) ?_
            refine sd_done ?_
            refine sw_cond rfl (fun c4 => ?_) (fun c4 => ?_)
            ·
              replace hm := ite_t (of_decide_eq_true c4) hm
              refine sw_seq ?_
              -- region 12 ref.go:253
              refine sw_region [(0, 0), (1, 0), (2, 0)] rfl rfl rfl ?_
              refine sd_vv rfl rfl rfl (vv_buildZ bz_23) ?_
              have B44 := (Bx.gr (Bx.kz (Bx.gr (Bx.gr (Bx.gr (Bx.kz (Bx.gr (Bx.gr Bw4 Gw5) Gw7) Kw8) Gw10) Gw11) Gw12) Kw13 (tk2 ((.inr tk0) : 1 = 0 ∨ gw10 ≠ b4) ((.inr tk0) : 1 = 0 ∨ gw12 ≠ b4))) Gw14)
              refine sd_ev rfl rfl rfl (ev_stM (cs' := kb k0) (vs := kb k0) (agg_23).siz rfl rfl rfl rfl rfl B44 rfl rfl) ?_
              rintro _ w15 ⟨Bw15, Mw15⟩
              have z45 := Mw15.size
              refine sd_vv rfl rfl rfl (vv_assign rfl) ?_
              refine sd_done ?_
              refine sw_ret ?_
              refine then_r ?_
              refine block_r ?_
              refine then_r ?_
              refine then_r ?_
              refine block_r ?_
              refine then_r ?_
              have X46 : Gr w w15 := (Gr.md (Gr.trans (Gr.kz X31 Kw13 (tk2 ((.inr tk0) : 1 = 0 ∨ w.heap.size ≤ gw10) ((.inr tk0) : 1 = 0 ∨ w.heap.size ≤ gw12))) Gw14) Mw15)
              have hr := Option.some.inj hm
              subst hr
              refine ⟨_, _, rfl, res_2 rfl (rv_cellW agg_23 rfl Bw15 rfl) (rv_tmp rfl), ?_⟩
              exact ⟨rfl, X46⟩
            ·
              replace hm := ite_f (of_decide_eq_false c4) hm
              refine sw_skip ?_
              refine then_n ?_
              refine sw_seq ?_
              -- region 13 ref.go:255
              refine sw_region [(0, 0), (1, 0), (2, 0), (3, 0), (4, 0), (5, 0), (6, 0), (7, 0), (8, 0), (9, 0)] rfl rfl rfl ?_
              refine sd_vv rfl rfl rfl (vv_move rfl) ?_
              refine sd_vv rfl rfl rfl (vv_fieldAddr fa_45_2 rfl) ?_
              refine sd_vv rfl rfl rfl (vv_load1 (v := vp2_2) one_43 rfl B41 rfl) ?_
              refine sd_vv rfl rfl rfl (vv_move rfl) ?_
              have hb := bnd hm; clear hm; obtain ⟨y15, hy15, hm⟩ := hb
              refine sd_vv rfl rfl rfl (vv_ixT (i := a13) Try.underlying43 (agg_31).siz rfl B42 rfl hy15) ?_
              refine sd_vv rfl rfl rfl (vv_fieldAddr fa_31_0 rfl) ?_
              refine sd_vv rfl rfl rfl (vv_el1T (q := 0) (u := wv y15.X) one_24 rfl B42 hy15 (by first | rfl | omega) rfl) ?_
              refine sd_ev rfl rfl rfl (ev_litT [y15.X] uwc bsl_60_1 rfl rfl (ws_of rfl) rfl rfl rfl) ?_
              rintro vw16 w16 ⟨gw16, hbw16, Ow16, Gw16⟩
              have z47 := Gw16.size
              have lt48 := Ow16.lth
              have B49 := (Own.gr (Own.gr Fw13_0 Gw14) Gw16)
              have hb := bnd hm; clear hm; obtain ⟨l16, hl16, hm⟩ := hb
              refine sd_ev rfl rfl rfl (ev_appT (l := a9) (m := [y15.X]) (c := uwc) apt_60 rfl rfl B49 (Own.rd Ow16) hl16 (by decide)) ?_
              rintro vw17 w17 ⟨zw17, gw17, Ow17, Aw17, qw17, rw17⟩
              have z50 := Aw17.size
              refine sd_vv rfl rfl rfl (vv_assign rfl) ?_
              refine sd_done ?_
              -- region 14 ref.go:256
              refine sw_region [(0, 0), (1, 0), (2, 0), (3, 0), (4, 0), (5, 0), (6, 0), (7, 0), (8, 0), (9, 0)] rfl rfl rfl ?_
              refine sd_vv rfl rfl rfl (vv_move rfl) ?_
              refine sd_vv rfl rfl rfl (vv_fieldAddr fa_45_2 rfl) ?_
              have B51 := (Bx.ka (Bx.gr B41 Gw16) Aw17 (tk1 ((pv_1 (A := (fun x => x ≠ b3)) Fw13_1 (.inr tk0)) : zy10 = 0 ∨ gy10 ≠ b3)))
              refine sd_vv rfl rfl rfl (vv_load1 (v := vp2_2) one_43 rfl B51 rfl) ?_
              refine sd_vv rfl rfl rfl (vv_move rfl) ?_
              have hb := bnd hm; clear hm; obtain ⟨y17, hy17, hm⟩ := hb
              have B52 := (Rd.ka (Rd.gr B42 Gw16) Aw17 (tk1 ((pv_sw (pv_1 (A := (fun x => zp2_2 = 0 ∨ x ≠ gp2_2)) Fw13_1 (.inr (tk1 lt3.o)) (fun x hx => (tk1 lt3.o)))) : zp2_2 = 0 ∨ zy10 = 0 ∨ gp2_2 ≠ gy10)))
              refine sd_vv rfl rfl rfl (vv_ixT (i := a13) Try.underlying43 (agg_31).siz rfl B52 rfl hy17) ?_
              refine sd_vv rfl rfl rfl (vv_fieldAddr fa_31_1 rfl) ?_
              refine sd_vv rfl rfl rfl (vv_el1T (q := 1) (u := wv y17.Y) one_24 rfl B52 hy17 (by first | rfl | omega) rfl) ?_
              refine sd_ev rfl rfl rfl (ev_litT [y17.Y] uwc bsl_60_1 rfl rfl (ws_of rfl) rfl rfl rfl) ?_
              rintro vw18 w18 ⟨gw18, hbw18, Ow18, Gw18⟩
              have z53 := Gw18.size
              have lt54 := Ow18.lth
              have B55 := (Own.gr (Own.ka (Own.gr (Own.gr Fw13_2 Gw14) Gw16) Aw17 (tk1 ((tk1 Fw13_4.o) : zy12 = 0 ∨ zy10 = 0 ∨ gy12 ≠ gy10))) Gw18)
              have hb := bnd hm; clear hm; obtain ⟨l18, hl18, hm⟩ := hb
              refine sd_ev rfl rfl rfl (ev_appT (l := a11) (m := [y17.Y]) (c := uwc) apt_60 rfl rfl B55 (Own.rd Ow18) hl18 (by decide)) ?_
              rintro vw19 w19 ⟨zw19, gw19, Ow19, Aw19, qw19, rw19⟩
              have z56 := Aw19.size
              refine sd_vv rfl rfl rfl (vv_assign rfl) ?_
              refine sd_nil ?_
              refine block_n ?_
              refine then_n ?_
              -- region 10 ref.go:251
              refine sw_region [(0, 0), (1, 0), (2, 0)] rfl rfl rfl ?_
              refine sd_vv rfl rfl rfl (vv_move rfl) ?_
              refine sd_vv rfl rfl rfl (vv_add (k := .i64) (a := a13) (b := 1) rfl rfl) ?_
              refine sd_vv rfl rfl rfl (vv_assign rfl) ?_
              refine sd_nil ?_
              have K_57 : Kz [(1, gw10), (1, gw12)] w12 w19 := (Kz.ka (Kz.gr (Kz.ka (Kz.gr (Kz.gr Kw13 Gw14) Gw16) Aw17 (tk1 ((pv_1 (A := (fun x => (x = gw10 ∧ 1 ≠ 0) ∨ (x = gw12 ∧ 1 ≠ 0) ∨ w12.heap.size ≤ x)) Fw13_1 tk0) : zy10 = 0 ∨ (gy10 = gw10 ∧ 1 ≠ 0) ∨ (gy10 = gw12 ∧ 1 ≠ 0) ∨ w12.heap.size ≤ gy10))) Gw18) Aw19 (tk1 ((pv_1 (A := (fun x => (x = gw10 ∧ 1 ≠ 0) ∨ (x = gw12 ∧ 1 ≠ 0) ∨ w12.heap.size ≤ x)) Fw13_3 tk0) : zy12 = 0 ∨ (gy12 = gw10 ∧ 1 ≠ 0) ∨ (gy12 = gw12 ∧ 1 ≠ 0) ∨ w12.heap.size ≤ gy12)))
              have B58 := (Own.ka (Own.gr Ow17 Gw18) Aw19 (tk1 ((pv_app (A := (fun x => zy12 = 0 ∨ x ≠ gy12)) rw17 (tk1 Fw13_4.o) (fun x hx => (tk1 lt38.o))) : zw17 = 0 ∨ zy12 = 0 ∨ gw17 ≠ gy12)))
              subst hrec2
              refine ⟨rfl, ⟨n2, l16, l18, w64 (a13 + 1), vw17, zw17, gw17, vw19, zw19, gw19⟩, ?_, ⟨hm, B58, ⟨(pv_app (A := (fun x => (x = gw10 ∧ 1 ≠ 0) ∨ w12.heap.size ≤ x)) rw17 (pv_1 (A := (fun x => (x = gw10 ∧ 1 ≠ 0) ∨ w12.heap.size ≤ x)) Fw13_1 tk0))⟩, Ow19, ⟨(pv_app (A := (fun x => (x = gw12 ∧ 1 ≠ 0) ∨ w12.heap.size ≤ x)) rw19 (pv_1 (A := (fun x => (x = gw12 ∧ 1 ≠ 0) ∨ w12.heap.size ≤ x)) Fw13_3 tk0))⟩, ⟨(pv_app (A := (fun x => zw17 = 0 ∨ x ≠ gw17)) rw19 (pv_sw (pv_app (A := (fun x => zy12 = 0 ∨ x ≠ gy12)) rw17 (tk1 Fw13_4.o) (fun x hx => (tk1 lt38.o)))) (fun x hx => (tk1 qw17.o)))⟩, K_57⟩, Nat.lt_succ_self _⟩
              repeat' first | exact trivial | refine ⟨rfl, ?_⟩
          ·
            replace hm := ite_f (of_decide_eq_false c3) hm
            refine sw_exit ?_
            refine then_x ?_
            refine then_x ?_
            refine block_x ?_
            refine then_n ?_
            refine sw_seq ?_
            -- region 15 ref.go:258
            refine sw_region [(0, 0)] rfl rfl rfl ?_
            refine sd_vv rfl rfl rfl (vv_assign rfl) ?_
            refine sd_done ?_
            refine sw_seq ?_
            refine sw_seq ?_
            -- region 16 ref.go:259
            refine sw_region [(0, 0)] rfl rfl rfl ?_
            refine sd_vv rfl rfl rfl (vv_assign rfl) ?_
            refine sd_done ?_
            refine sw_block ?_
            have X59 : Gr w w13 := (Gr.kz X31 Kw13 (tk2 ((.inr tk0) : 1 = 0 ∨ w.heap.size ≤ gw10) ((.inr tk0) : 1 = 0 ∨ w.heap.size ≤ gw12)))
            have B60 := (Rd.kz B32 Kw13 (tk2 ((pv_sw (.inr (tk1 lt1.o))) : zp1_1 = 0 ∨ 1 = 0 ∨ gp1_1 ≠ gw10) ((pv_sw (.inr (tk1 lt1.o))) : zp1_1 = 0 ∨ 1 = 0 ∨ gp1_1 ≠ gw12)))
            have B61 := (Rd.kz B33 Kw13 (tk2 ((pv_sw (.inr (tk1 lt2.o))) : zp2_0 = 0 ∨ 1 = 0 ∨ gp2_0 ≠ gw10) ((pv_sw (.inr (tk1 lt2.o))) : zp2_0 = 0 ∨ 1 = 0 ∨ gp2_0 ≠ gw12)))
            refine sw_loopD (α := Nat × BitVec 64 × Int) [13, 14, 99, 100, 101, 102, 103, 104, 105, 106, 107, 108, 109, 110, 111, 112, 113, 114, 115, 116, 117, 118] (fun ⟨n3, a21, a22⟩ => [(13, wv a21), (14, .int .i64 a22)]) (fun ⟨n3, a21, a22⟩ wr => (fixN (ref04_Open_L3 p0 p2 a9 a11) n3 (a21, a22) = some r) ∧ Kz [] w13 wr) (fun ⟨n3, a21, a22⟩ => n3) ⟨FUEL, 1#64, 0⟩ ?_ ?_ ?_
            · repeat' first | exact trivial | refine ⟨rfl, ?_⟩
            · exact ⟨hm, Kz.refl _ _⟩
            · clear hm; rintro ⟨n3, a21, a22⟩ w20 ⟨hm, Kw20⟩
              have z62 := Kw20.size
              have hb := fix_succ hm; clear hm; obtain ⟨n3, rfl, hm⟩ := hb
              generalize hrec3 : fixN (ref04_Open_L3 p0 p2 a9 a11) n3 = rec3 at hm
              unfold ref04_Open_L3 at hm
              try dsimp only at hm
              refine sw_seq ?_
              refine sw_seq ?_
              -- region 17 ref.go:259
              refine sw_region [(0, 0), (1, 0), (2, 0), (3, 0)] rfl rfl rfl ?_
              refine sd_vv rfl rfl rfl (vv_move rfl) ?_
              refine sd_vv rfl rfl rfl (vv_move rfl) ?_
              have B63 := (Own.kz Fw13_0 Kw20)
              refine sd_vv rfl rfl rfl (vv_lenT (l := a9) (c := uwc) Try.underlying60 rfl (Own.rd B63)) ?_
              refine sd_vv rfl rfl rfl (vv_lss (a := a22) (b := (a9.length : Int)) rfl rfl) ?_
              refine sd_done ?_
              refine sw_cond rfl (fun c5 => ?_) (fun c5 => ?_)
              ·
                replace hm := ite_t (of_decide_eq_true c5) hm
                refine sw_skip ?_
                refine then_n ?_
                refine sw_seq ?_
                refine sw_block ?_
                -- region 19 ref.go:260 DRAWS
                refine sw_drawN [([])] [] (.leaf [(0, 10), (1, 10), (2, 10), (3, 10), (4, 10), (5, 10), (6, 10), (7, 10), (9, 10), (12, 10), (8, 0), (10, 0), (11, 10), (13, 10), (14, 10)]) (by kernel_rfl) (by kernel_rfl) rfl (by kernel_rfl) ?_
                intro w21 Gw21 zw21
                refine sdz_leaf ?_
                refine dd_hn 0 rfl rfl rfl rfl (Kp.refl ([]) w21) (fun w hS => vv_move rfl) ?_
                refine dd_hn 0 rfl rfl rfl rfl (Kp.refl ([]) w21) (fun w hS => vv_move rfl) ?_
                refine dd_hn 0 rfl rfl rfl rfl (Kp.refl ([]) w21) (fun w hS => vv_move rfl) ?_
                have hb := bnd hm; clear hm; obtain ⟨y23, hy23, hm⟩ := hb
                have B64 := (Own.gr (Own.kz Fw13_2 Kw20) Gw21)
                refine dd_hn 0 rfl rfl rfl rfl (Kp.refl ([]) w21) (fun w hS => vv_ixT (i := a22) Try.underlying60 (one_24).siz rfl (Own.rd (Own.kp B64 hS)) rfl hy23) ?_
                refine dd_hn 0 rfl rfl rfl rfl (Kp.refl ([]) w21) (fun w hS => vv_el1T (q := 0) (u := wv y23) one_24 rfl (Own.rd (Own.kp B64 hS)) hy23 (by first | rfl | omega) rfl) ?_
                refine dd_hn 0 rfl rfl rfl rfl (Kp.refl ([]) w21) (fun w hS => vv_move rfl) ?_
                refine dd_hn 0 rfl rfl rfl rfl (Kp.refl ([]) w21) (fun w hS => vv_move rfl) ?_
                refine dd_hn 0 rfl rfl rfl rfl (Kp.refl ([]) w21) (fun w hS => vv_move rfl) ?_
                refine dd_hn 0 rfl rfl rfl rfl (Kp.refl ([]) w21) (fun w hS => vv_move rfl) ?_
                refine dd_hn 0 rfl rfl rfl rfl (Kp.refl ([]) w21) (fun w hS => vv_move rfl) ?_
                have B65 := (Own.gr B63 Gw21)
                have hb := bnd hm; clear hm; obtain ⟨x24, hx24, hm⟩ := hb
                refine dd_z [] rfl rfl rfl (ev_call en_82 rfl (ref04_factor_w p0.Group.Q a9 a22 _ _ _ _ _ hx24 _ (Own.rd B65))) ⟨fun _ => tk0, trivial⟩ ?_
                rintro _ w22 ⟨rfl, Gw22⟩
                have z66 := Gw22.size
                refine ⟨Kz.ofGr Gw22, ?_⟩
                have hb := bnd hm; clear hm; obtain ⟨x25, hx25, hm⟩ := hb
                refine dd_z [] rfl rfl rfl (ev_call en_81 rfl (ref01_Power_w y23 x24 p0.Group.P _ hx25 _)) ⟨fun _ => tk0, trivial⟩ ?_
                rintro _ w23 ⟨rfl, Gw23⟩
                have z67 := Gw23.size
                refine ⟨Kz.ofGr Gw23, ?_⟩
                have S68 := (Kp.gr (Kp.gr (Kp.refl ([]) w21) Gw22) Gw23)
                refine dd_hn 0 rfl rfl rfl rfl S68 (fun w hS => vv_umul (a := a21) (b := x25) rfl rfl) ?_
                have hb := bnd hm; clear hm; obtain ⟨x26, hx26, hm⟩ := hb
                refine dd_hn 0 rfl rfl rfl rfl S68 (fun w hS => vv_remU (c := a21 * x25) (d := p0.Group.P) rfl rfl hx26) ?_
                refine dd_hn 0 rfl rfl rfl rfl S68 (fun w hS => vv_assign rfl) ?_
                refine sd_nil ?_
                refine block_n ?_
                refine then_n ?_
                -- region 18 ref.go:259
                refine sw_region [(0, 0), (1, 0), (2, 0)] rfl rfl rfl ?_
                refine sd_vv rfl rfl rfl (vv_move rfl) ?_
                refine sd_vv rfl rfl rfl (vv_add (k := .i64) (a := a22) (b := 1) rfl rfl) ?_
                refine sd_vv rfl rfl rfl (vv_assign rfl) ?_
                refine sd_nil ?_
                have K_69 : Kz [] w13 w23 := (Kz.gr (Kz.gr (Kz.gr Kw20 Gw21) Gw22) Gw23)
                subst hrec3
                refine ⟨rfl, ⟨n3, x26, w64 (a22 + 1)⟩, ?_, ⟨hm, K_69⟩, Nat.lt_succ_self _⟩
                repeat' first | exact trivial | refine ⟨rfl, ?_⟩
              ·
                replace hm := ite_f (of_decide_eq_false c5) hm
                refine sw_exit ?_
                refine then_x ?_
                refine then_x ?_
                refine block_x ?_
                refine then_n ?_
                have X70 : Gr w w20 := (Gr.kz X59 Kw20)
                refine sw_joinD (β := W2 × Nat) [15, 119, 120, 121, 122, 123] (fun ⟨a28, bq27⟩ => [(15, .pointer (some ⟨bq27, 0, none⟩))]) (fun ⟨a28, bq27⟩ wr => (ref04_Open_J4 p2 a28 = some r) ∧ Bx wr bq27 23 (kb a28) ∧ w20.heap.size ≤ bq27 ∧ Kz [] w20 wr) ?_ ?_
                · clear hm; rintro ⟨a28, bq27⟩ w24 ⟨hm, Fw24_0, Fw24_1, Kw24⟩
                  have z71 := Kw24.size
                  have lt72 := Fw24_0.lt
                  unfold ref04_Open_J4 at hm
                  refine sw_seq ?_
                  refine sw_seq ?_
                  -- region 21 ref.go:263 DRAWS
                  refine sw_drawN [([])] [] (.leaf [(0, 10), (2, 10), (3, 10), (1, 0), (4, 10)]) (by kernel_rfl) (by kernel_rfl) rfl (by kernel_rfl) ?_
                  intro w25 Gw25 zw25
                  refine sdz_leaf ?_
                  have B73 := (Bx.gr Fw24_0 Gw25)
                  refine dd_hn 0 rfl rfl rfl rfl (Kp.refl ([]) w25) (fun w hS => vv_loadW agg_23 rfl (Bx.kp B73 hS) rfl) ?_
                  refine dd_hn 0 rfl rfl rfl rfl (Kp.refl ([]) w25) (fun w hS => vv_fieldAddr fa_45_4 rfl) ?_
                  have B74 := (Bx.gr (Bx.kz (Bx.kz B39 Kw20) Kw24) Gw25)
                  refine dd_hn 0 rfl rfl rfl rfl (Kp.refl ([]) w25) (fun w hS => vv_loadM (vs := kb p2.Check) agg_23 rfl (Bx.kp B74 hS) rfl rfl) ?_
                  refine dd_z [] rfl rfl rfl (ev_call en_85 rfl (rderive_c a28 (un8 53#8) (un8_nn _) (un8_le _) 0#64 _)) ⟨fun _ => tk0, trivial⟩ ?_
                  rintro _ w26 ⟨rfl, Gw26⟩
                  have z75 := Gw26.size
                  refine ⟨Kz.ofGr Gw26, ?_⟩
                  have S76 := (Kp.gr (Kp.refl ([]) w25) Gw26)
                  refine dd_hn 0 rfl rfl rfl rfl S76 (fun w hS => vv_neqS (cf := kb) (a := drv a28 (un8 53#8) 0#64) (b := p2.Check) eqt_23 rfl rfl rfl rfl (fun h => kb_inj h)) ?_
                  refine sd_done ?_
                  refine sw_cond rfl (fun c6 => ?_) (fun c6 => ?_)
                  ·
                    replace hm := ite_t (of_decide_eq_true c6) hm
                    refine sw_seq ?_
                    -- region 22 ref.go:264
                    refine sw_region [(0, 0), (1, 0), (2, 0)] rfl rfl rfl ?_
                    refine sd_vv rfl rfl rfl (vv_buildZ bz_23) ?_
                    have B77 := (Bx.gr (Bx.gr (Bx.kz (Bx.kz (Bx.kz (Bx.gr (Bx.gr (Bx.gr (Bx.kz (Bx.gr (Bx.gr Bw4 Gw5) Gw7) Kw8) Gw10) Gw11) Gw12) Kw13 (tk2 ((.inr tk0) : 1 = 0 ∨ gw10 ≠ b4) ((.inr tk0) : 1 = 0 ∨ gw12 ≠ b4))) Kw20) Kw24) Gw25) Gw26)
                    refine sd_ev rfl rfl rfl (ev_stM (cs' := kb k0) (vs := kb k0) (agg_23).siz rfl rfl rfl rfl rfl B77 rfl rfl) ?_
                    rintro _ w27 ⟨Bw27, Mw27⟩
                    have z78 := Mw27.size
                    refine sd_vv rfl rfl rfl (vv_assign rfl) ?_
                    refine sd_done ?_
                    refine sw_ret ?_
                    refine then_r ?_
                    have X79 : Gr w w27 := (Gr.md (Gr.trans (Gr.trans (Gr.kz X70 Kw24) Gw25) Gw26) Mw27)
                    have hr := Option.some.inj hm
                    subst hr
                    refine ⟨_, _, rfl, res_2 rfl (rv_cellW agg_23 rfl Bw27 rfl) (rv_tmp rfl), ?_⟩
                    exact ⟨rfl, X79⟩
                  ·
                    replace hm := ite_f (of_decide_eq_false c6) hm
                    refine sw_skip ?_
                    refine then_n ?_
                    refine sw_seq ?_
                    -- region 23 ref.go:266
                    refine sw_region [(0, 0), (1, 0), (2, 0)] rfl rfl rfl ?_
                    have B80 := (Bx.gr B73 Gw26)
                    refine sd_vv rfl rfl rfl (vv_loadW agg_23 rfl B80 rfl) ?_
                    have B81 := (Bx.gr (Bx.gr (Bx.kz (Bx.kz (Bx.kz (Bx.gr (Bx.gr (Bx.gr (Bx.kz (Bx.gr (Bx.gr Bw4 Gw5) Gw7) Kw8) Gw10) Gw11) Gw12) Kw13 (tk2 ((.inr tk0) : 1 = 0 ∨ gw10 ≠ b4) ((.inr tk0) : 1 = 0 ∨ gw12 ≠ b4))) Kw20) Kw24) Gw25) Gw26)
                    refine sd_ev rfl rfl rfl (ev_stM (cs' := kb a28) (vs := kb a28) (agg_23).siz rfl rfl rfl rfl rfl B81 rfl rfl) ?_
                    rintro _ w28 ⟨Bw28, Mw28⟩
                    have z82 := Mw28.size
                    refine sd_vv rfl rfl rfl (vv_assign rfl) ?_
                    refine sd_done ?_
                    refine sw_ret ?_
                    have X83 : Gr w w28 := (Gr.md (Gr.trans (Gr.trans (Gr.kz X70 Kw24) Gw25) Gw26) Mw28)
                    have hr := Option.some.inj hm
                    subst hr
                    refine ⟨_, _, rfl, res_2 rfl (rv_cellW agg_23 rfl Bw28 rfl) (rv_tmp rfl), ?_⟩
                    exact ⟨rfl, X83⟩
                ·
                  -- region 20 ref.go:262 DRAWS
                  refine sw_drawN [([])] [] (.fork [(0, 10), (2, 10), (3, 10)] (.fork [(1, 0)] (.leaf [(4, 0), (5, 0), (6, 0)]) (.leaf [(5, 0), (4, 0), (6, 0)])) (.leaf [(5, 0), (1, 0), (4, 0), (6, 0)])) (by kernel_rfl) (by kernel_rfl) rfl (by kernel_rfl) ?_
                  intro w29 Gw29 zw29
                  refine sdz_fork ?_
                  refine dd_hn 0 rfl rfl rfl rfl (Kp.refl ([]) w29) (fun w hS => vv_move rfl) ?_
                  refine dd_hn 0 rfl rfl rfl rfl (Kp.refl ([]) w29) (fun w hS => vv_fieldAddr fa_45_3 rfl) ?_
                  have B84 := (Bx.gr (Bx.kz B39 Kw20) Gw29)
                  refine dd_hn 0 rfl rfl rfl rfl (Kp.refl ([]) w29) (fun w hS => vv_loadM (vs := kb p2.Box) agg_23 rfl (Bx.kp B84 hS) rfl rfl) ?_
                  refine sd_fork ?_ ?_
                  ·
                    refine sdz_fork ?_
                    have hb := bnd hm; clear hm; obtain ⟨x29, hx29, hm⟩ := hb
                    refine dd_z [] rfl rfl rfl (ev_call en_84 rfl (ref04_MaskKey_w a21 _ hx29 _)) ⟨fun _ => tk0, trivial⟩ ?_
                    rintro _ w30 ⟨rfl, Gw30⟩
                    have z85 := Gw30.size
                    refine ⟨Kz.ofGr Gw30, ?_⟩
                    refine sd_fork ?_ ?_
                    ·
                      refine sdz_leaf ?_
                      have hb := bnd hm; clear hm; obtain ⟨x30, hx30, hm⟩ := hb
                      refine dd_z [] rfl rfl rfl (ev_call en_83 rfl (ref02_Decrypt_w x29 p2.Box _ hx30 _)) ⟨fun _ => tk0, trivial⟩ ?_
                      rintro _ w31 ⟨rfl, Gw31⟩
                      have z86 := Gw31.size
                      refine ⟨Kz.ofGr Gw31, ?_⟩
                      refine dd_z [] rfl rfl rfl (ev_alloc (cs := kb k0) zv_23 rfl) ⟨fun _ => tk0, trivial⟩ ?_
                      rintro _ w32 ⟨b32, rfl, hbw32, Bw32, Gw32⟩
                      have z87 := Gw32.size
                      have lt88 := Bw32.lt
                      refine ⟨Kz.ofGr Gw32, ?_⟩
                      refine dd_z [(1, b32)] rfl rfl rfl (ev_stM (cs' := kb x30) (vs := kb x30) (agg_23).siz rfl rfl rfl rfl rfl Bw32 rfl rfl) ⟨fun _ => tk0, trivial⟩ ?_
                      rintro _ w33 ⟨Bw33, Mw33⟩
                      have z89 := Mw33.size
                      refine ⟨Kz.ofMd Mw33, ?_⟩
                      refine sd_nil ?_
                      have K_90 : Kz [] w20 w33 := (Kz.md (Kz.gr (Kz.gr (Kz.gr (Kz.gr (Kz.refl _ _) Gw29) Gw30) Gw31) Gw32) Mw33)
                      refine ⟨rfl, ⟨x30, b32⟩, ?_, hm, Bw33, (by omega), K_90⟩
                      repeat' first | exact trivial | refine ⟨rfl, ?_⟩
                    ·
                      refine sdz_leaf ?_
                      refine dd_z [] rfl rfl rfl (ev_alloc (cs := kb k0) zv_23 rfl) ⟨fun _ => tk0, trivial⟩ ?_
                      rintro _ w34 ⟨b34, rfl, hbw34, Bw34, Gw34⟩
                      have z91 := Gw34.size
                      have lt92 := Bw34.lt
                      refine ⟨Kz.ofGr Gw34, ?_⟩
                      have hb := bnd hm; clear hm; obtain ⟨x31, hx31, hm⟩ := hb
                      refine dd_z [] rfl rfl rfl (ev_call en_83 rfl (ref02_Decrypt_w x29 p2.Box _ hx31 _)) ⟨fun _ => tk0, trivial⟩ ?_
                      rintro _ w35 ⟨rfl, Gw35⟩
                      have z93 := Gw35.size
                      refine ⟨Kz.ofGr Gw35, ?_⟩
                      have B94 := (Bx.gr Bw34 Gw35)
                      refine dd_z [(1, b34)] rfl rfl rfl (ev_stM (cs' := kb x31) (vs := kb x31) (agg_23).siz rfl rfl rfl rfl rfl B94 rfl rfl) ⟨fun _ => tk0, trivial⟩ ?_
                      rintro _ w36 ⟨Bw36, Mw36⟩
                      have z95 := Mw36.size
                      refine ⟨Kz.ofMd Mw36, ?_⟩
                      refine sd_nil ?_
                      have K_96 : Kz [] w20 w36 := (Kz.md (Kz.gr (Kz.gr (Kz.gr (Kz.gr (Kz.refl _ _) Gw29) Gw30) Gw34) Gw35) Mw36)
                      refine ⟨rfl, ⟨x31, b34⟩, ?_, hm, Bw36, (by omega), K_96⟩
                      repeat' first | exact trivial | refine ⟨rfl, ?_⟩
                  ·
                    refine sdz_leaf ?_
                    refine dd_z [] rfl rfl rfl (ev_alloc (cs := kb k0) zv_23 rfl) ⟨fun _ => tk0, trivial⟩ ?_
                    rintro _ w37 ⟨b37, rfl, hbw37, Bw37, Gw37⟩
                    have z97 := Gw37.size
                    have lt98 := Bw37.lt
                    refine ⟨Kz.ofGr Gw37, ?_⟩
                    have hb := bnd hm; clear hm; obtain ⟨x32, hx32, hm⟩ := hb
                    refine dd_z [] rfl rfl rfl (ev_call en_84 rfl (ref04_MaskKey_w a21 _ hx32 _)) ⟨fun _ => tk0, trivial⟩ ?_
                    rintro _ w38 ⟨rfl, Gw38⟩
                    have z99 := Gw38.size
                    refine ⟨Kz.ofGr Gw38, ?_⟩
                    have hb := bnd hm; clear hm; obtain ⟨x33, hx33, hm⟩ := hb
                    refine dd_z [] rfl rfl rfl (ev_call en_83 rfl (ref02_Decrypt_w x32 p2.Box _ hx33 _)) ⟨fun _ => tk0, trivial⟩ ?_
                    rintro _ w39 ⟨rfl, Gw39⟩
                    have z100 := Gw39.size
                    refine ⟨Kz.ofGr Gw39, ?_⟩
                    have B101 := (Bx.gr (Bx.gr Bw37 Gw38) Gw39)
                    refine dd_z [(1, b37)] rfl rfl rfl (ev_stM (cs' := kb x33) (vs := kb x33) (agg_23).siz rfl rfl rfl rfl rfl B101 rfl rfl) ⟨fun _ => tk0, trivial⟩ ?_
                    rintro _ w40 ⟨Bw40, Mw40⟩
                    have z102 := Mw40.size
                    refine ⟨Kz.ofMd Mw40, ?_⟩
                    refine sd_nil ?_
                    have K_103 : Kz [] w20 w40 := (Kz.md (Kz.gr (Kz.gr (Kz.gr (Kz.gr (Kz.refl _ _) Gw29) Gw37) Gw38) Gw39) Mw40)
                    refine ⟨rfl, ⟨x33, b37⟩, ?_, hm, Bw40, (by omega), K_103⟩
                    repeat' first | exact trivial | refine ⟨rfl, ?_⟩
    ·
      -- region 4 ref.go:246
      refine sw_region [(0, 0), (1, 0), (2, 0), (3, 0), (4, 0), (5, 0), (6, 0), (7, 0), (8, 0), (9, 0), (10, 0), (11, 0), (12, 0), (13, 0), (14, 0), (15, 0), (16, 0), (17, 0), (18, 0), (19, 0), (20, 0), (21, 0), (22, 0), (23, 0)] rfl rfl rfl ?_
      refine sd_vv rfl rfl rfl (vv_loadW agg_28 rfl B17 rfl) ?_
      have B104 := (Bx.gr (Bx.gr (Bx.gr Bw3 Gw4) Gw5) Gw7)
      refine sd_vv rfl rfl rfl (vv_loadW agg_45 rfl B104 rfl) ?_
      have B105 := (Rd.gr (Rd.gr (Rd.gr (Rd.gr (Rd.gr (Rd.gr hp2_0 Gw1) Gw2) Gw3) Gw4) Gw5) Gw7)
      have B106 := (Rd.gr (Rd.gr (Rd.gr (Rd.gr (Rd.gr (Rd.gr hp2_2 Gw1) Gw2) Gw3) Gw4) Gw5) Gw7)
      have hb := bnd hm; clear hm; obtain ⟨x34, hx34, hm⟩ := hb
      refine sd_ev rfl rfl rfl (ev_call en_80 rfl (ref04_ValidHeader_w p0 p2 _ _ _ _ _ _ _ _ _ hx34 _ B105 B106)) ?_
      rintro _ w41 ⟨rfl, Gw41⟩
      have z107 := Gw41.size
      refine sd_vv rfl rfl rfl (vv_not rfl) ?_
      refine sd_split rfl rfl rfl (vv_move rfl) (fun c7 => ?_) (fun c7 => ?_)
      ·
        replace hm := cnd_t c7 hm
        refine sd_skip rfl rfl rfl ?_
        refine sd_skip rfl rfl rfl ?_
        refine sd_skip rfl rfl rfl ?_
        refine sd_skip rfl rfl rfl ?_
        refine sd_vv rfl rfl rfl (vv_pickT rfl rfl) ?_
        refine sd_vv rfl rfl rfl (vv_move rfl) ?_
        refine sd_skip rfl rfl rfl ?_
        refine sd_skip rfl rfl rfl ?_
        refine sd_skip rfl rfl rfl ?_
        refine sd_skip rfl rfl rfl ?_
        refine sd_skip rfl rfl rfl ?_
        refine sd_vv rfl rfl rfl (vv_pickT rfl rfl) ?_
        refine sd_vv rfl rfl rfl (vv_move rfl) ?_
        refine sd_skip rfl rfl rfl ?_
        refine sd_skip rfl rfl rfl ?_
        refine sd_skip rfl rfl rfl ?_
        refine sd_skip rfl rfl rfl ?_
        refine sd_skip rfl rfl rfl ?_
        refine sd_vv rfl rfl rfl (vv_pickT rfl rfl) ?_
        refine sd_nil ?_
        have K_108 : Kz [] w7 w41 := (Kz.gr (Kz.refl _ _) Gw41)
        refine ⟨rfl, true, ?_, hm, K_108⟩
        repeat' first | exact trivial | refine ⟨rfl, ?_⟩
      ·
        replace hm := cnd_f c7 hm
        refine sd_vv rfl rfl rfl (vv_fieldAddr fa_33_2 rfl) ?_
        refine sd_vv rfl rfl rfl (vv_fieldAddr fa_31_0 rfl) ?_
        have B109 := (Bx.gr (Bx.gr (Bx.gr (Bx.gr (Bx.gr Bw2 Gw3) Gw4) Gw5) Gw7) Gw41)
        refine sd_vv rfl rfl rfl (vv_load1 (v := wv p1.Share.X) one_24 rfl B109 rfl) ?_
        refine sd_vv rfl rfl rfl (vv_lssU (c := p1.Share.X) (d := 1#64) rfl rfl) ?_
        refine sd_vv rfl rfl rfl (vv_pickF rfl rfl) ?_
        refine sd_split rfl rfl rfl (vv_move rfl) (fun c8 => ?_) (fun c8 => ?_)
        ·
          replace hm := ite_t (of_decide_eq_true c8) hm
          refine sd_skip rfl rfl rfl ?_
          refine sd_skip rfl rfl rfl ?_
          refine sd_skip rfl rfl rfl ?_
          refine sd_skip rfl rfl rfl ?_
          refine sd_skip rfl rfl rfl ?_
          refine sd_vv rfl rfl rfl (vv_pickT rfl rfl) ?_
          refine sd_vv rfl rfl rfl (vv_move rfl) ?_
          refine sd_skip rfl rfl rfl ?_
          refine sd_skip rfl rfl rfl ?_
          refine sd_skip rfl rfl rfl ?_
          refine sd_skip rfl rfl rfl ?_
          refine sd_skip rfl rfl rfl ?_
          refine sd_vv rfl rfl rfl (vv_pickT rfl rfl) ?_
          refine sd_nil ?_
          have K_110 : Kz [] w7 w41 := (Kz.gr (Kz.refl _ _) Gw41)
          refine ⟨rfl, true, ?_, hm, K_110⟩
          repeat' first | exact trivial | refine ⟨rfl, ?_⟩
        ·
          replace hm := ite_f (of_decide_eq_false c8) hm
          refine sd_vv rfl rfl rfl (vv_fieldAddr fa_33_2 rfl) ?_
          refine sd_vv rfl rfl rfl (vv_fieldAddr fa_31_0 rfl) ?_
          refine sd_vv rfl rfl rfl (vv_load1 (v := wv p1.Share.X) one_24 rfl B109 rfl) ?_
          refine sd_vv rfl rfl rfl (vv_move rfl) ?_
          refine sd_vv rfl rfl rfl (vv_geqU (c := p1.Share.X) (d := p0.Group.Q) rfl rfl) ?_
          refine sd_vv rfl rfl rfl (vv_pickF rfl rfl) ?_
          refine sd_split rfl rfl rfl (vv_move rfl) (fun c9 => ?_) (fun c9 => ?_)
          ·
            replace hm := ite_t (of_decide_eq_true c9) hm
            refine sd_skip rfl rfl rfl ?_
            refine sd_skip rfl rfl rfl ?_
            refine sd_skip rfl rfl rfl ?_
            refine sd_skip rfl rfl rfl ?_
            refine sd_skip rfl rfl rfl ?_
            refine sd_vv rfl rfl rfl (vv_pickT rfl rfl) ?_
            refine sd_nil ?_
            have K_111 : Kz [] w7 w41 := (Kz.gr (Kz.refl _ _) Gw41)
            refine ⟨rfl, true, ?_, hm, K_111⟩
            repeat' first | exact trivial | refine ⟨rfl, ?_⟩
          ·
            replace hm := ite_f (of_decide_eq_false c9) hm
            refine sd_vv rfl rfl rfl (vv_fieldAddr fa_33_2 rfl) ?_
            refine sd_vv rfl rfl rfl (vv_fieldAddr fa_31_1 rfl) ?_
            refine sd_vv rfl rfl rfl (vv_load1 (v := wv p1.Share.Y) one_24 rfl B109 rfl) ?_
            refine sd_vv rfl rfl rfl (vv_move rfl) ?_
            refine sd_vv rfl rfl rfl (vv_geqU (c := p1.Share.Y) (d := p0.Group.Q) rfl rfl) ?_
            refine sd_vv rfl rfl rfl (vv_pickF rfl rfl) ?_
            refine sd_nil ?_
            have K_112 : Kz [] w7 w41 := (Kz.gr (Kz.refl _ _) Gw41)
            refine ⟨rfl, (decide (p0.Group.Q ≤ p1.Share.Y)), ?_, hm, K_112⟩
            repeat' first | exact trivial | refine ⟨rfl, ?_⟩

set_option maxHeartbeats 2000000 in
theorem ref03_TwinSecret_w (p0 : TSecret) (vp0_1 : Value) (zp0_1 gp0_1 op0_1 : Nat) (r : TSecret) (hm : ref03_TwinSecret p0 = some r) (w : World) (hp0_1 : Rd w zp0_1 gp0_1 op0_1 18 vp0_1 (p0.Labels.map TLabel.cs))  :
    Calls Try.prog 25 [.agg (TSecret.cs p0 vp0_1).toArray].toArray w fun e w' => ∃ v, e = .returned v ∧ (∃ (ur0_1 : Value) (zr0_1 : Nat) (gr0_1 : Nat), v = .agg (TSecret.cs r ur0_1).toArray ∧ Own w' zr0_1 gr0_1 88 18 ur0_1 (r.Labels.map TLabel.cs) ∧ Hdn (zr0_1 = 0 ∨ w.heap.size ≤ gr0_1) ∧ Gr w w') := by
  have lt1 := hp0_1.lth
  unfold ref03_TwinSecret at hm
  refine calls_of_sw (R := fun v w' => ∃ (ur0_1 : Value) (zr0_1 : Nat) (gr0_1 : Nat), v = .agg (TSecret.cs r ur0_1).toArray ∧ Own w' zr0_1 gr0_1 88 18 ur0_1 (r.Labels.map TLabel.cs) ∧ Hdn (zr0_1 = 0 ∨ w.heap.size ≤ gr0_1) ∧ Gr w w') 8 Try.func25 rfl rfl rfl ?_
  refine sw_seq ?_
  -- region 0 ref.go:655
  refine sw_region [(0, 0), (1, 0)] rfl rfl rfl ?_
  refine sd_ev rfl rfl rfl (ev_box (cs := TSecret.cs p0 vp0_1) rfl rfl) ?_
  rintro _ w1 ⟨b1, rfl, hbw1, Bw1, Gw1⟩
  have z2 := Gw1.size
  have lt3 := Bw1.lt
  refine sd_ev rfl rfl rfl (ev_alloc (cs := TSecret.cs (TSecret.mk 0 [] (TPoint.mk 0#64 0#64)) (.slice none 0 0)) zv_33 rfl) ?_
  rintro _ w2 ⟨b2, rfl, hbw2, Bw2, Gw2⟩
  have z4 := Gw2.size
  have lt5 := Bw2.lt
  refine sd_done ?_
  refine sw_seq ?_
  -- region 1 ref.go:656
  refine sw_region [(0, 0), (1, 0), (2, 0), (3, 0), (4, 0)] rfl rfl rfl ?_
  refine sd_vv rfl rfl rfl (vv_fieldAddr fa_33_1 rfl) ?_
  have B6 := (Bx.gr Bw1 Gw2)
  refine sd_vv rfl rfl rfl (vv_load1 (v := vp0_1) one_29 rfl B6 rfl) ?_
  have B7 := (Rd.gr (Rd.gr hp0_1 Gw1) Gw2)
  have hb := bnd hm; clear hm; obtain ⟨l1, hl1, hm⟩ := hb
  refine sd_ev rfl rfl rfl (ev_appT (l := ([] : List TLabel)) (m := p0.Labels) (c := TLabel.cs) apt_29 rfl rfl (own_nil _ 0 88 18) B7 hl1 (by decide)) ?_
  rintro vw3 w3 ⟨zw3, gw3, Ow3, Aw3, qw3, rw3⟩
  have z8 := Aw3.size
  refine sd_vv rfl rfl rfl (vv_fieldAddr fa_33_1 rfl) ?_
  have B9 := (Bx.ka B6 Aw3)
  refine sd_ev rfl rfl rfl (ev_st1 (cs' := TSecret.cs (TSecret.mk p0.Receiver l1 p0.Share) vw3) (one_29).siz rfl rfl (Own.oneB Ow3) B9 rfl rfl) ?_
  rintro _ w4 ⟨Bw4, Mw4⟩
  have z10 := Mw4.size
  refine sd_done ?_
  refine sw_seq ?_
  -- region 2 ref.go:657
  refine sw_region [(0, 0), (1, 0)] rfl rfl rfl ?_
  refine sd_vv rfl rfl rfl (vv_loadW agg_33 rfl Bw4 rfl) ?_
  have B11 := (Bx.md (Bx.ka Bw2 Aw3) Mw4)
  have B12 := (Own.md Ow3 Mw4 (tk1 ((pv_app (A := (fun x => x ≠ b1)) rw3 (.inl rfl)) : zw3 = 0 ∨ gw3 ≠ b1)))
  refine sd_ev rfl rfl rfl (ev_stM (cs' := TSecret.cs (TSecret.mk p0.Receiver l1 p0.Share) vw3) (vs := TSecret.cs (TSecret.mk p0.Receiver l1 p0.Share) vw3) (agg_33).siz rfl rfl rfl rfl (TSecret.cs_ones _ _ (Own.oneB B12)) B11 rfl rfl) ?_
  rintro _ w5 ⟨Bw5, Mw5⟩
  have z13 := Mw5.size
  refine sd_done ?_
  refine sw_ret ?_
  have B14 := (Own.md B12 Mw5 (tk1 ((pv_app (A := (fun x => x ≠ b2)) rw3 (.inl rfl)) : zw3 = 0 ∨ gw3 ≠ b2)))
  have X15 : Gr w w5 := (Gr.md (Gr.md (Gr.ka (Gr.trans (Gr.trans (Gr.refl w) Gw1) Gw2) Aw3) Mw4) Mw5)
  have hr := Option.some.inj hm
  subst hr
  refine ⟨_, _, rfl, res_1 rfl (rv_cellW agg_33 rfl Bw5 rfl), ?_⟩
  exact ⟨vw3, zw3, gw3, rfl, B14, ⟨(pv_app (A := (fun x => w.heap.size ≤ x)) rw3 (.inl rfl))⟩, X15⟩

set_option maxHeartbeats 2000000 in
theorem ref03_TwinHeader_w (p0 : THeader) (vp0_0 : Value) (zp0_0 gp0_0 op0_0 : Nat) (vp0_2 : Value) (zp0_2 gp0_2 op0_2 : Nat) (r : THeader) (hm : ref03_TwinHeader p0 = some r) (w : World) (hp0_0 : Rd w zp0_0 gp0_0 op0_0 18 vp0_0 (p0.Items.map TItem.cs)) (hp0_2 : Rd w zp0_2 gp0_2 op0_2 2 vp0_2 (p0.Points.map TPoint.cs))  :
    Calls Try.prog 26 [.agg (THeader.cs p0 vp0_0 vp0_2).toArray].toArray w fun e w' => ∃ v, e = .returned v ∧ (∃ (ur0_0 : Value) (zr0_0 : Nat) (gr0_0 : Nat) (ur0_2 : Value) (zr0_2 : Nat) (gr0_2 : Nat), v = .agg (THeader.cs r ur0_0 ur0_2).toArray ∧ Own w' zr0_0 gr0_0 131 18 ur0_0 (r.Items.map TItem.cs) ∧ Hdn (zr0_0 = 0 ∨ w.heap.size ≤ gr0_0) ∧ Own w' zr0_2 gr0_2 31 2 ur0_2 (r.Points.map TPoint.cs) ∧ Hdn (zr0_2 = 0 ∨ w.heap.size ≤ gr0_2) ∧ Hdn (zr0_2 = 0 ∨ zr0_0 = 0 ∨ gr0_2 ≠ gr0_0) ∧ Gr w w') := by
  have lt1 := hp0_0.lth
  have lt2 := hp0_2.lth
  unfold ref03_TwinHeader at hm
  refine calls_of_sw (R := fun v w' => ∃ (ur0_0 : Value) (zr0_0 : Nat) (gr0_0 : Nat) (ur0_2 : Value) (zr0_2 : Nat) (gr0_2 : Nat), v = .agg (THeader.cs r ur0_0 ur0_2).toArray ∧ Own w' zr0_0 gr0_0 131 18 ur0_0 (r.Items.map TItem.cs) ∧ Hdn (zr0_0 = 0 ∨ w.heap.size ≤ gr0_0) ∧ Own w' zr0_2 gr0_2 31 2 ur0_2 (r.Points.map TPoint.cs) ∧ Hdn (zr0_2 = 0 ∨ w.heap.size ≤ gr0_2) ∧ Hdn (zr0_2 = 0 ∨ zr0_0 = 0 ∨ gr0_2 ≠ gr0_0) ∧ Gr w w') 12 Try.func26 rfl rfl rfl ?_
  refine sw_seq ?_
  -- region 0 ref.go:648
  refine sw_region [(0, 0), (1, 0)] rfl rfl rfl ?_
  refine sd_ev rfl rfl rfl (ev_box (cs := THeader.cs p0 vp0_0 vp0_2) rfl rfl) ?_
  rintro _ w1 ⟨b1, rfl, hbw1, Bw1, Gw1⟩
  have z3 := Gw1.size
  have lt4 := Bw1.lt
  refine sd_ev rfl rfl rfl (ev_alloc (cs := THeader.cs (THeader.mk [] 0#64 [] k0 k0) (.slice none 0 0) (.slice none 0 0)) zv_45 rfl) ?_
  rintro _ w2 ⟨b2, rfl, hbw2, Bw2, Gw2⟩
  have z5 := Gw2.size
  have lt6 := Bw2.lt
  refine sd_done ?_
  refine sw_seq ?_
  -- region 1 ref.go:649
  refine sw_region [(0, 0), (1, 0), (2, 0), (3, 0), (4, 0)] rfl rfl rfl ?_
  refine sd_vv rfl rfl rfl (vv_fieldAddr fa_45_0 rfl) ?_
  have B7 := (Bx.gr Bw1 Gw2)
  refine sd_vv rfl rfl rfl (vv_load1 (v := vp0_0) one_42 rfl B7 rfl) ?_
  have B8 := (Rd.gr (Rd.gr hp0_0 Gw1) Gw2)
  have hb := bnd hm; clear hm; obtain ⟨l1, hl1, hm⟩ := hb
  refine sd_ev rfl rfl rfl (ev_appT (l := ([] : List TItem)) (m := p0.Items) (c := TItem.cs) apt_42 rfl rfl (own_nil _ 0 131 18) B8 hl1 (by decide)) ?_
  rintro vw3 w3 ⟨zw3, gw3, Ow3, Aw3, qw3, rw3⟩
  have z9 := Aw3.size
  refine sd_vv rfl rfl rfl (vv_fieldAddr fa_45_0 rfl) ?_
  have B10 := (Bx.ka B7 Aw3)
  refine sd_ev rfl rfl rfl (ev_st1 (cs' := THeader.cs (THeader.mk l1 p0.Base p0.Points p0.Box p0.Check) vw3 vp0_2) (one_42).siz rfl rfl (Own.oneB Ow3) B10 rfl rfl) ?_
  rintro _ w4 ⟨Bw4, Mw4⟩
  have z11 := Mw4.size
  refine sd_done ?_
  refine sw_seq ?_
  -- region 2 ref.go:650
  refine sw_region [(0, 0), (1, 0), (2, 0), (3, 0), (4, 0)] rfl rfl rfl ?_
  refine sd_vv rfl rfl rfl (vv_fieldAddr fa_45_2 rfl) ?_
  refine sd_vv rfl rfl rfl (vv_load1 (v := vp0_2) one_43 rfl Bw4 rfl) ?_
  have B12 := (Rd.md (Rd.ka (Rd.gr (Rd.gr hp0_2 Gw1) Gw2) Aw3) Mw4 (tk1 ((pv_lt (A := (fun x => x ≠ b1)) lt2) : zp0_2 = 0 ∨ gp0_2 ≠ b1)))
  have hb := bnd hm; clear hm; obtain ⟨l2, hl2, hm⟩ := hb
  refine sd_ev rfl rfl rfl (ev_appT (l := ([] : List TPoint)) (m := p0.Points) (c := TPoint.cs) apt_43 rfl rfl (own_nil _ 0 31 2) B12 hl2 (by decide)) ?_
  rintro vw5 w5 ⟨zw5, gw5, Ow5, Aw5, qw5, rw5⟩
  have z13 := Aw5.size
  refine sd_vv rfl rfl rfl (vv_fieldAddr fa_45_2 rfl) ?_
  have B14 := (Bx.ka Bw4 Aw5)
  refine sd_ev rfl rfl rfl (ev_st1 (cs' := THeader.cs (THeader.mk l1 p0.Base l2 p0.Box p0.Check) vw3 vw5) (one_43).siz rfl rfl (Own.oneB Ow5) B14 rfl rfl) ?_
  rintro _ w6 ⟨Bw6, Mw6⟩
  have z15 := Mw6.size
  refine sd_done ?_
  refine sw_seq ?_
  -- region 3 ref.go:651
  refine sw_region [(0, 0), (1, 0)] rfl rfl rfl ?_
  refine sd_vv rfl rfl rfl (vv_loadW agg_45 rfl Bw6 rfl) ?_
  have B16 := (Bx.md (Bx.ka (Bx.md (Bx.ka Bw2 Aw3) Mw4) Aw5) Mw6)
  have B17 := (Own.md (Own.ka (Own.md Ow3 Mw4 (tk1 ((pv_app (A := (fun x => x ≠ b1)) rw3 (.inl rfl)) : zw3 = 0 ∨ gw3 ≠ b1))) Aw5) Mw6 (tk1 ((pv_app (A := (fun x => x ≠ b1)) rw3 (.inl rfl)) : zw3 = 0 ∨ gw3 ≠ b1)))
  have B18 := (Own.md Ow5 Mw6 (tk1 ((pv_app (A := (fun x => x ≠ b1)) rw5 (.inl rfl)) : zw5 = 0 ∨ gw5 ≠ b1)))
  refine sd_ev rfl rfl rfl (ev_stM (cs' := THeader.cs (THeader.mk l1 p0.Base l2 p0.Box p0.Check) vw3 vw5) (vs := THeader.cs (THeader.mk l1 p0.Base l2 p0.Box p0.Check) vw3 vw5) (agg_45).siz rfl rfl rfl rfl (THeader.cs_ones _ _ _ (Own.oneB B17) (Own.oneB B18)) B16 rfl rfl) ?_
  rintro _ w7 ⟨Bw7, Mw7⟩
  have z19 := Mw7.size
  refine sd_done ?_
  refine sw_ret ?_
  have B20 := (Own.md B17 Mw7 (tk1 ((pv_app (A := (fun x => x ≠ b2)) rw3 (.inl rfl)) : zw3 = 0 ∨ gw3 ≠ b2)))
  have B21 := (Own.md B18 Mw7 (tk1 ((pv_app (A := (fun x => x ≠ b2)) rw5 (.inl rfl)) : zw5 = 0 ∨ gw5 ≠ b2)))
  have X22 : Gr w w7 := (Gr.md (Gr.md (Gr.ka (Gr.md (Gr.ka (Gr.trans (Gr.trans (Gr.refl w) Gw1) Gw2) Aw3) Mw4) Aw5) Mw6) Mw7)
  have hr := Option.some.inj hm
  subst hr
  refine ⟨_, _, rfl, res_1 rfl (rv_cellW agg_45 rfl Bw7 rfl), ?_⟩
  exact ⟨vw3, zw3, gw3, vw5, zw5, gw5, rfl, B20, ⟨(pv_app (A := (fun x => w.heap.size ≤ x)) rw3 (.inl rfl))⟩, B21, ⟨(pv_app (A := (fun x => w.heap.size ≤ x)) rw5 (.inl rfl))⟩, ⟨(pv_app (A := (fun x => zw3 = 0 ∨ x ≠ gw3)) rw5 (.inl rfl) (fun x hx => (tk1 qw3.o)))⟩, X22⟩
end Go.Proofs.Ytkdghilkigojgaa.Mx
