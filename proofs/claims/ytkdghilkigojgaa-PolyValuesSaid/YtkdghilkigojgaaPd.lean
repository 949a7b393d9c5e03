/- Walks that follow mirrors: Pd. Printed by mx.py. -/
import Derived.Test.YtkdghilkigojgaaMirJ
import Derived.Test.YtkdghilkigojgaaPk
import Derived.Test.YtkdghilkigojgaaPdM
set_option linter.unusedVariables false
set_option linter.unusedSimpArgs false
set_option maxRecDepth 100000
namespace Go.Proofs.Ytkdghilkigojgaa.Mx
open Go Go.RowKit Go.Sx
theorem en_87 : En Try.prog 87 := fun _ _ => by kernel_rfl
theorem en_55 : En Try.prog 55 := fun _ _ => by kernel_rfl
theorem zv_119 : ZV Try.prog 119 (.int .u64 0) := fun _ => by kernel_rfl
theorem fa_31_1 : FA Try.prog 31 1 1 := fun _ _ _ => by kernel_rfl
theorem en_90 : En Try.prog 90 := fun _ _ => by kernel_rfl
theorem en_75 : En Try.prog 75 := fun _ _ => by kernel_rfl
theorem en_77 : En Try.prog 77 := fun _ _ => by kernel_rfl
theorem en_78 : En Try.prog 78 := fun _ _ => by kernel_rfl
theorem zv_116 : ZV Try.prog 116 (.slice none 0 0) := fun _ => by kernel_rfl
theorem en_91 : En Try.prog 91 := fun _ _ => by kernel_rfl
theorem one_60 : One Try.prog 60 := fun _ => ⟨by kernel_rfl, by kernel_rfl⟩
theorem en_134 : En Try.prog 134 := fun _ _ => by kernel_rfl
theorem en_54 : En Try.prog 54 := fun _ _ => by kernel_rfl
theorem en_126 : En Try.prog 126 := fun _ _ => by kernel_rfl
theorem en_125 : En Try.prog 125 := fun _ _ => by kernel_rfl
theorem en_135 : En Try.prog 135 := fun _ _ => by kernel_rfl
theorem en_92 : En Try.prog 92 := fun _ _ => by kernel_rfl

set_option maxHeartbeats 2000000 in
theorem poly_Coefficients_w (p0 : W2) (p1 : TScheme)  (r : List (BitVec 64) × Int) (hm : poly_Coefficients p0 p1 = some r) (w : World)   :
    Calls Try.prog 29 [kv p0, .agg (TScheme.cs p1).toArray].toArray w fun e w' => ∃ v, e = .returned v ∧ (∃ (ur0_s : Value) (zr0_s : Nat) (gr0_s : Nat), v = .tuple [ur0_s, .int .i64 r.2].toArray ∧ Own w' zr0_s gr0_s 24 1 ur0_s (r.1.map uwc) ∧ Hdn (zr0_s = 0 ∨ w.heap.size ≤ gr0_s) ∧ Gr w w') := by
  unfold poly_Coefficients at hm
  refine calls_of_sw (R := fun v w' => ∃ (ur0_s : Value) (zr0_s : Nat) (gr0_s : Nat), v = .tuple [ur0_s, .int .i64 r.2].toArray ∧ Own w' zr0_s gr0_s 24 1 ur0_s (r.1.map uwc) ∧ Hdn (zr0_s = 0 ∨ w.heap.size ≤ gr0_s) ∧ Gr w w') 12 Try.func29 rfl rfl rfl ?_
  refine sw_seq ?_
  -- region 0 poly.go:69
  refine sw_region [(0, 0), (1, 0), (2, 0), (3, 0)] rfl rfl rfl ?_
  refine sd_ev rfl rfl rfl (ev_box (cs := kb p0) rfl rfl) ?_
  rintro _ w1 ⟨b1, rfl, hbw1, Bw1, Gw1⟩
  have z1 := Gw1.size
  have lt2 := Bw1.lt
  refine sd_ev rfl rfl rfl (ev_box (cs := TScheme.cs p1) rfl rfl) ?_
  rintro _ w2 ⟨b2, rfl, hbw2, Bw2, Gw2⟩
  have z3 := Gw2.size
  have lt4 := Bw2.lt
  refine sd_vv rfl rfl rfl (vv_assign rfl) ?_
  refine sd_vv rfl rfl rfl (vv_assign rfl) ?_
  refine sd_done ?_
  refine sw_seq ?_
  refine sw_seq ?_
  -- region 1 poly.go:70
  refine sw_region [(0, 0), (1, 0), (2, 0)] rfl rfl rfl ?_
  refine sd_vv rfl rfl rfl (vv_loadW agg_28 rfl Bw2 rfl) ?_
  have hb := bnd hm; clear hm; obtain ⟨x1, hx1, hm⟩ := hb
  refine sd_ev rfl rfl rfl (ev_call en_63 rfl (poly_valid_w p1 _ hx1 _)) ?_
  rintro _ w3 ⟨rfl, Gw3⟩
  have z5 := Gw3.size
  refine sd_vv rfl rfl rfl (vv_not rfl) ?_
  refine sd_done ?_
  refine sw_cond rfl (fun c1 => ?_) (fun c1 => ?_)
  ·
    replace hm := cnd_t c1 hm
    refine sw_seq ?_
    -- region 2 poly.go:71
    refine sw_region [(0, 0), (1, 0)] rfl rfl rfl ?_
    refine sd_vv rfl rfl rfl (vv_assign rfl) ?_
    refine sd_vv rfl rfl rfl (vv_assign rfl) ?_
    refine sd_done ?_
    refine sw_ret ?_
    refine then_r ?_
    have X6 : Gr w w3 := (Gr.trans (Gr.trans (Gr.trans (Gr.refl w) Gw1) Gw2) Gw3)
    have hr := Option.some.inj hm
    subst hr
    refine ⟨_, _, rfl, res_2 rfl (rv_tmp rfl) (rv_tmp rfl), ?_⟩
    exact ⟨(.slice none 0 0), 0, 0, rfl, (own_nil _ 0 24 1), ⟨.inl rfl⟩, X6⟩
  ·
    replace hm := cnd_f c1 hm
    refine sw_skip ?_
    refine then_n ?_
    refine sw_seq ?_
    -- region 3 poly.go:73
    refine sw_region [(0, 0), (1, 0), (2, 0), (3, 0), (4, 0)] rfl rfl rfl ?_
    have B7 := (Bx.gr (Bx.gr Bw1 Gw2) Gw3)
    refine sd_vv rfl rfl rfl (vv_loadW agg_23 rfl B7 rfl) ?_
    have B8 := (Bx.gr Bw2 Gw3)
    refine sd_vv rfl rfl rfl (vv_loadW agg_28 rfl B8 rfl) ?_
    have hb := bnd hm; clear hm; obtain ⟨x2, hx2, hm⟩ := hb
    refine sd_ev rfl rfl rfl (ev_call en_64 rfl (poly_secret_w p0 p1 _ hx2 _)) ?_
    rintro u4_r0_s w4 ⟨_, z4_r0_s, g4_r0_s, rfl, O4_r0_s, f4_r0_s, Gw4⟩
    have z9 := Gw4.size
    have lt10 := O4_r0_s.lth
    refine sd_vv rfl rfl rfl (vv_assign rfl) ?_
    refine sd_vv rfl rfl rfl (vv_assign rfl) ?_
    refine sd_done ?_
    refine sw_ret ?_
    have X11 : Gr w w4 := (Gr.trans (Gr.trans (Gr.trans (Gr.trans (Gr.refl w) Gw1) Gw2) Gw3) Gw4)
    have hr := Option.some.inj hm
    subst hr
    refine ⟨_, _, rfl, res_2 rfl (rv_tmp rfl) (rv_tmp rfl), ?_⟩
    exact ⟨u4_r0_s, z4_r0_s, g4_r0_s, rfl, O4_r0_s, ⟨(pv_0 (A := (fun x => w.heap.size ≤ x)) f4_r0_s)⟩, X11⟩

set_option maxHeartbeats 2000000 in
theorem ref04_Coefficients_w (p0 : W2) (p1 : TScheme)  (r : List (BitVec 64) × Int) (hm : ref04_Coefficients p0 p1 = some r) (w : World)   :
    Calls Try.prog 30 [kv p0, .agg (TScheme.cs p1).toArray].toArray w fun e w' => ∃ v, e = .returned v ∧ (∃ (ur0_s : Value) (zr0_s : Nat) (gr0_s : Nat), v = .tuple [ur0_s, .int .i64 r.2].toArray ∧ Own w' zr0_s gr0_s 24 1 ur0_s (r.1.map uwc) ∧ Hdn (zr0_s = 0 ∨ w.heap.size ≤ gr0_s) ∧ Gr w w') := by
  unfold ref04_Coefficients at hm
  refine calls_of_sw (R := fun v w' => ∃ (ur0_s : Value) (zr0_s : Nat) (gr0_s : Nat), v = .tuple [ur0_s, .int .i64 r.2].toArray ∧ Own w' zr0_s gr0_s 24 1 ur0_s (r.1.map uwc) ∧ Hdn (zr0_s = 0 ∨ w.heap.size ≤ gr0_s) ∧ Gr w w') 12 Try.func30 rfl rfl rfl ?_
  refine sw_seq ?_
  -- region 0 ref.go:54
  refine sw_region [(0, 0), (1, 0), (2, 0), (3, 0)] rfl rfl rfl ?_
  refine sd_ev rfl rfl rfl (ev_box (cs := kb p0) rfl rfl) ?_
  rintro _ w1 ⟨b1, rfl, hbw1, Bw1, Gw1⟩
  have z1 := Gw1.size
  have lt2 := Bw1.lt
  refine sd_ev rfl rfl rfl (ev_box (cs := TScheme.cs p1) rfl rfl) ?_
  rintro _ w2 ⟨b2, rfl, hbw2, Bw2, Gw2⟩
  have z3 := Gw2.size
  have lt4 := Bw2.lt
  refine sd_vv rfl rfl rfl (vv_assign rfl) ?_
  refine sd_vv rfl rfl rfl (vv_assign rfl) ?_
  refine sd_done ?_
  refine sw_seq ?_
  refine sw_seq ?_
  -- region 1 ref.go:55
  refine sw_region [(0, 0), (1, 0), (2, 0)] rfl rfl rfl ?_
  refine sd_vv rfl rfl rfl (vv_loadW agg_28 rfl Bw2 rfl) ?_
  have hb := bnd hm; clear hm; obtain ⟨x1, hx1, hm⟩ := hb
  refine sd_ev rfl rfl rfl (ev_call en_53 rfl (ref04_Valid_w p1 _ hx1 _)) ?_
  rintro _ w3 ⟨rfl, Gw3⟩
  have z5 := Gw3.size
  refine sd_vv rfl rfl rfl (vv_not rfl) ?_
  refine sd_done ?_
  refine sw_cond rfl (fun c1 => ?_) (fun c1 => ?_)
  ·
    replace hm := cnd_t c1 hm
    refine sw_seq ?_
    -- region 2 ref.go:56
    refine sw_region [(0, 0), (1, 0)] rfl rfl rfl ?_
    refine sd_vv rfl rfl rfl (vv_assign rfl) ?_
    refine sd_vv rfl rfl rfl (vv_assign rfl) ?_
    refine sd_done ?_
    refine sw_ret ?_
    refine then_r ?_
    have X6 : Gr w w3 := (Gr.trans (Gr.trans (Gr.trans (Gr.refl w) Gw1) Gw2) Gw3)
    have hr := Option.some.inj hm
    subst hr
    refine ⟨_, _, rfl, res_2 rfl (rv_tmp rfl) (rv_tmp rfl), ?_⟩
    exact ⟨(.slice none 0 0), 0, 0, rfl, (own_nil _ 0 24 1), ⟨.inl rfl⟩, X6⟩
  ·
    replace hm := cnd_f c1 hm
    refine sw_skip ?_
    refine then_n ?_
    refine sw_seq ?_
    -- region 3 ref.go:58
    refine sw_region [(0, 0), (1, 0), (2, 0), (3, 0), (4, 0)] rfl rfl rfl ?_
    have B7 := (Bx.gr (Bx.gr Bw1 Gw2) Gw3)
    refine sd_vv rfl rfl rfl (vv_loadW agg_23 rfl B7 rfl) ?_
    have B8 := (Bx.gr Bw2 Gw3)
    refine sd_vv rfl rfl rfl (vv_loadW agg_28 rfl B8 rfl) ?_
    have hb := bnd hm; clear hm; obtain ⟨x2, hx2, hm⟩ := hb
    refine sd_ev rfl rfl rfl (ev_call en_86 rfl (ref04_CoefficientsOf_w p0 p1 _ hx2 _)) ?_
    rintro u4_r0_s w4 ⟨_, z4_r0_s, g4_r0_s, rfl, O4_r0_s, f4_r0_s, Gw4⟩
    have z9 := Gw4.size
    have lt10 := O4_r0_s.lth
    refine sd_vv rfl rfl rfl (vv_assign rfl) ?_
    refine sd_vv rfl rfl rfl (vv_assign rfl) ?_
    refine sd_done ?_
    refine sw_ret ?_
    have X11 : Gr w w4 := (Gr.trans (Gr.trans (Gr.trans (Gr.trans (Gr.refl w) Gw1) Gw2) Gw3) Gw4)
    have hr := Option.some.inj hm
    subst hr
    refine ⟨_, _, rfl, res_2 rfl (rv_tmp rfl) (rv_tmp rfl), ?_⟩
    exact ⟨u4_r0_s, z4_r0_s, g4_r0_s, rfl, O4_r0_s, ⟨(pv_0 (A := (fun x => w.heap.size ≤ x)) f4_r0_s)⟩, X11⟩

set_option maxHeartbeats 2000000 in
theorem ref04_SameWords_w (p0 : List (BitVec 64)) (p1 : List (BitVec 64)) (vp0 : Value) (zp0 gp0 op0 : Nat) (vp1 : Value) (zp1 gp1 op1 : Nat) (r : Bool) (hm : ref04_SameWords p0 p1 = some r) (w : World) (hp0 : Rd w zp0 gp0 op0 1 vp0 (p0.map uwc)) (hp1 : Rd w zp1 gp1 op1 1 vp1 (p1.map uwc))  :
    Calls Try.prog 31 [vp0, vp1].toArray w fun e w' => ∃ v, e = .returned v ∧ (v = .bool r ∧ Gr w w') := by
  have lt1 := hp0.lth
  have lt2 := hp1.lth
  unfold ref04_SameWords at hm
  refine calls_of_sw (R := fun v w' => v = .bool r ∧ Gr w w') 26 Try.func31 rfl rfl rfl ?_
  refine sw_seq ?_
  -- region 0 ref.go:400
  refine sw_region [(0, 0)] rfl rfl rfl ?_
  refine sd_vv rfl rfl rfl (vv_assign rfl) ?_
  refine sd_done ?_
  refine sw_seq ?_
  refine sw_seq ?_
  -- region 1 ref.go:401
  refine sw_region [(0, 0), (1, 0), (2, 0), (3, 0), (4, 0)] rfl rfl rfl ?_
  refine sd_vv rfl rfl rfl (vv_move rfl) ?_
  refine sd_vv rfl rfl rfl (vv_lenT (l := p0) (c := uwc) Try.underlying60 rfl hp0) ?_
  refine sd_vv rfl rfl rfl (vv_move rfl) ?_
  refine sd_vv rfl rfl rfl (vv_lenT (l := p1) (c := uwc) Try.underlying60 rfl hp1) ?_
  refine sd_vv rfl rfl rfl (vv_neq (a := (p0.length : Int)) (b := (p1.length : Int)) rfl rfl) ?_
  refine sd_done ?_
  refine sw_cond rfl (fun c1 => ?_) (fun c1 => ?_)
  ·
    replace hm := ite_t (of_decide_eq_true c1) hm
    refine sw_seq ?_
    -- region 2 ref.go:402
    refine sw_region [(0, 0)] rfl rfl rfl ?_
    refine sd_vv rfl rfl rfl (vv_assign rfl) ?_
    refine sd_done ?_
    refine sw_ret ?_
    refine then_r ?_
    have hr := Option.some.inj hm
    subst hr
    refine ⟨_, _, rfl, res_1 rfl (rv_tmp rfl), ?_⟩
    exact ⟨rfl, (Gr.refl w)⟩
  ·
    replace hm := ite_f (of_decide_eq_false c1) hm
    refine sw_skip ?_
    refine then_n ?_
    refine sw_seq ?_
    refine sw_seq ?_
    -- region 3 ref.go:404
    refine sw_region [(0, 0)] rfl rfl rfl ?_
    refine sd_vv rfl rfl rfl (vv_assign rfl) ?_
    refine sd_done ?_
    refine sw_block ?_
    refine sw_loopD (α := Nat × Int) [4, 5, 11, 12, 13, 14, 15, 16, 17, 18, 19, 20, 21, 22, 23, 24, 25] (fun ⟨n1, a2⟩ => [(4, .bool false), (5, .int .i64 a2)]) (fun ⟨n1, a2⟩ wr => (fixN (ref04_SameWords_L1 p0 p1) n1 a2 = some r) ∧ Kz [] w wr) (fun ⟨n1, a2⟩ => n1) ⟨FUEL, 0⟩ ?_ ?_ ?_
    · repeat' first | exact trivial | refine ⟨rfl, ?_⟩
    · exact ⟨hm, Kz.refl _ _⟩
    · clear hm; rintro ⟨n1, a2⟩ w1 ⟨hm, Kw1⟩
      have z3 := Kw1.size
      have hb := fix_succ hm; clear hm; obtain ⟨n1, rfl, hm⟩ := hb
      generalize hrec1 : fixN (ref04_SameWords_L1 p0 p1) n1 = rec1 at hm
      unfold ref04_SameWords_L1 at hm
      try dsimp only at hm
      refine sw_seq ?_
      refine sw_seq ?_
      -- region 4 ref.go:404
      refine sw_region [(0, 0), (1, 0), (2, 0), (3, 0)] rfl rfl rfl ?_
      refine sd_vv rfl rfl rfl (vv_move rfl) ?_
      refine sd_vv rfl rfl rfl (vv_move rfl) ?_
      have B4 := (Rd.kz hp0 Kw1)
      refine sd_vv rfl rfl rfl (vv_lenT (l := p0) (c := uwc) Try.underlying60 rfl B4) ?_
      refine sd_vv rfl rfl rfl (vv_lss (a := a2) (b := (p0.length : Int)) rfl rfl) ?_
      refine sd_done ?_
      refine sw_cond rfl (fun c2 => ?_) (fun c2 => ?_)
      ·
        replace hm := ite_t (of_decide_eq_true c2) hm
        refine sw_skip ?_
        refine then_n ?_
        refine sw_seq ?_
        refine sw_block ?_
        refine sw_seq ?_
        -- region 6 ref.go:405 DRAWS
        refine sw_drawN [([])] [] (.leaf [(0, 10), (1, 10), (2, 10), (3, 10), (4, 10), (5, 10), (6, 10), (7, 10), (8, 10)]) (by kernel_rfl) (by kernel_rfl) rfl (by kernel_rfl) ?_
        intro w2 Gw2 zw2
        refine sdz_leaf ?_
        refine dd_hn 0 rfl rfl rfl rfl (Kp.refl ([]) w2) (fun w hS => vv_move rfl) ?_
        refine dd_hn 0 rfl rfl rfl rfl (Kp.refl ([]) w2) (fun w hS => vv_move rfl) ?_
        have hb := bnd hm; clear hm; obtain ⟨y3, hy3, hm⟩ := hb
        have B5 := (Rd.gr B4 Gw2)
        refine dd_hn 0 rfl rfl rfl rfl (Kp.refl ([]) w2) (fun w hS => vv_ixT (i := a2) Try.underlying60 (one_24).siz rfl (Rd.kp B5 hS) rfl hy3) ?_
        refine dd_hn 0 rfl rfl rfl rfl (Kp.refl ([]) w2) (fun w hS => vv_el1T (q := 0) (u := wv y3) one_24 rfl (Rd.kp B5 hS) hy3 (by first | rfl | omega) rfl) ?_
        refine dd_hn 0 rfl rfl rfl rfl (Kp.refl ([]) w2) (fun w hS => vv_move rfl) ?_
        refine dd_hn 0 rfl rfl rfl rfl (Kp.refl ([]) w2) (fun w hS => vv_move rfl) ?_
        have hb := bnd hm; clear hm; obtain ⟨y4, hy4, hm⟩ := hb
        have B6 := (Rd.gr (Rd.kz hp1 Kw1) Gw2)
        refine dd_hn 0 rfl rfl rfl rfl (Kp.refl ([]) w2) (fun w hS => vv_ixT (i := a2) Try.underlying60 (one_24).siz rfl (Rd.kp B6 hS) rfl hy4) ?_
        refine dd_hn 0 rfl rfl rfl rfl (Kp.refl ([]) w2) (fun w hS => vv_el1T (q := 0) (u := wv y4) one_24 rfl (Rd.kp B6 hS) hy4 (by first | rfl | omega) rfl) ?_
        refine dd_hn 0 rfl rfl rfl rfl (Kp.refl ([]) w2) (fun w hS => vv_neqU (c := y3) (d := y4) rfl rfl) ?_
        refine sd_done ?_
        refine sw_cond rfl (fun c3 => ?_) (fun c3 => ?_)
        ·
          replace hm := ite_t (of_decide_eq_true c3) hm
          refine sw_seq ?_
          -- region 7 ref.go:406
          refine sw_region [(0, 0)] rfl rfl rfl ?_
          refine sd_vv rfl rfl rfl (vv_assign rfl) ?_
          refine sd_done ?_
          refine sw_ret ?_
          refine block_r ?_
          refine then_r ?_
          refine then_r ?_
          refine block_r ?_
          refine then_r ?_
          have X7 : Gr w w2 := (Gr.trans (Gr.kz (Gr.refl w) Kw1) Gw2)
          have hr := Option.some.inj hm
          subst hr
          refine ⟨_, _, rfl, res_1 rfl (rv_tmp rfl), ?_⟩
          exact ⟨rfl, X7⟩
        ·
          replace hm := ite_f (of_decide_eq_false c3) hm
          refine sw_skip ?_
          refine block_n ?_
          refine then_n ?_
          -- region 5 ref.go:404
          refine sw_region [(0, 0), (1, 0), (2, 0)] rfl rfl rfl ?_
          refine sd_vv rfl rfl rfl (vv_move rfl) ?_
          refine sd_vv rfl rfl rfl (vv_add (k := .i64) (a := a2) (b := 1) rfl rfl) ?_
          refine sd_vv rfl rfl rfl (vv_assign rfl) ?_
          refine sd_nil ?_
          have K_8 : Kz [] w w2 := (Kz.gr Kw1 Gw2)
          subst hrec1
          refine ⟨rfl, ⟨n1, w64 (a2 + 1)⟩, ?_, ⟨hm, K_8⟩, Nat.lt_succ_self _⟩
          repeat' first | exact trivial | refine ⟨rfl, ?_⟩
      ·
        replace hm := ite_f (of_decide_eq_false c2) hm
        refine sw_exit ?_
        refine then_x ?_
        refine then_x ?_
        refine block_x ?_
        refine then_n ?_
        refine sw_seq ?_
        -- region 8 ref.go:409
        refine sw_region [(0, 0)] rfl rfl rfl ?_
        refine sd_vv rfl rfl rfl (vv_assign rfl) ?_
        refine sd_done ?_
        refine sw_ret ?_
        have X9 : Gr w w1 := (Gr.kz (Gr.refl w) Kw1)
        have hr := Option.some.inj hm
        subst hr
        refine ⟨_, _, rfl, res_1 rfl (rv_tmp rfl), ?_⟩
        exact ⟨rfl, X9⟩

set_option maxHeartbeats 2000000 in
theorem poly_Check_w (p0 : TScheme)  (r : Int) (hm : poly_Check p0 = some r) (w : World)   :
    Calls Try.prog 32 [.agg (TScheme.cs p0).toArray].toArray w fun e w' => ∃ v, e = .returned v ∧ (v = .int .i64 r ∧ Gr w w') := by
  unfold poly_Check at hm
  refine calls_of_sw (R := fun v w' => v = .int .i64 r ∧ Gr w w') 6 Try.func32 rfl rfl rfl ?_
  refine sw_seq ?_
  -- region 0 poly.go:51
  refine sw_region [(0, 0), (1, 0)] rfl rfl rfl ?_
  refine sd_ev rfl rfl rfl (ev_box (cs := TScheme.cs p0) rfl rfl) ?_
  rintro _ w1 ⟨b1, rfl, hbw1, Bw1, Gw1⟩
  have z1 := Gw1.size
  have lt2 := Bw1.lt
  refine sd_vv rfl rfl rfl (vv_assign rfl) ?_
  refine sd_done ?_
  refine sw_seq ?_
  refine sw_seq ?_
  -- region 1 poly.go:52
  refine sw_region [(0, 0), (1, 0), (2, 0)] rfl rfl rfl ?_
  refine sd_vv rfl rfl rfl (vv_loadW agg_28 rfl Bw1 rfl) ?_
  have hb := bnd hm; clear hm; obtain ⟨x1, hx1, hm⟩ := hb
  refine sd_ev rfl rfl rfl (ev_call en_63 rfl (poly_valid_w p0 _ hx1 _)) ?_
  rintro _ w2 ⟨rfl, Gw2⟩
  have z3 := Gw2.size
  refine sd_vv rfl rfl rfl (vv_not rfl) ?_
  refine sd_done ?_
  refine sw_cond rfl (fun c1 => ?_) (fun c1 => ?_)
  ·
    replace hm := cnd_t c1 hm
    refine sw_seq ?_
    -- region 2 poly.go:53
    refine sw_region [(0, 0)] rfl rfl rfl ?_
    refine sd_vv rfl rfl rfl (vv_assign rfl) ?_
    refine sd_done ?_
    refine sw_ret ?_
    refine then_r ?_
    have X4 : Gr w w2 := (Gr.trans (Gr.trans (Gr.refl w) Gw1) Gw2)
    have hr := Option.some.inj hm
    subst hr
    refine ⟨_, _, rfl, res_1 rfl (rv_tmp rfl), ?_⟩
    exact ⟨rfl, X4⟩
  ·
    replace hm := cnd_f c1 hm
    refine sw_skip ?_
    refine then_n ?_
    refine sw_seq ?_
    -- region 3 poly.go:55
    refine sw_region [(0, 0)] rfl rfl rfl ?_
    refine sd_vv rfl rfl rfl (vv_assign rfl) ?_
    refine sd_done ?_
    refine sw_ret ?_
    have X5 : Gr w w2 := (Gr.trans (Gr.trans (Gr.refl w) Gw1) Gw2)
    have hr := Option.some.inj hm
    subst hr
    refine ⟨_, _, rfl, res_1 rfl (rv_tmp rfl), ?_⟩
    exact ⟨rfl, X5⟩

set_option maxHeartbeats 2000000 in
theorem ref04_Check_w (p0 : TScheme)  (r : Int) (hm : ref04_Check p0 = some r) (w : World)   :
    Calls Try.prog 33 [.agg (TScheme.cs p0).toArray].toArray w fun e w' => ∃ v, e = .returned v ∧ (v = .int .i64 r ∧ Gr w w') := by
  unfold ref04_Check at hm
  refine calls_of_sw (R := fun v w' => v = .int .i64 r ∧ Gr w w') 6 Try.func33 rfl rfl rfl ?_
  refine sw_seq ?_
  -- region 0 ref.go:36
  refine sw_region [(0, 0), (1, 0)] rfl rfl rfl ?_
  refine sd_ev rfl rfl rfl (ev_box (cs := TScheme.cs p0) rfl rfl) ?_
  rintro _ w1 ⟨b1, rfl, hbw1, Bw1, Gw1⟩
  have z1 := Gw1.size
  have lt2 := Bw1.lt
  refine sd_vv rfl rfl rfl (vv_assign rfl) ?_
  refine sd_done ?_
  refine sw_seq ?_
  refine sw_seq ?_
  -- region 1 ref.go:37
  refine sw_region [(0, 0), (1, 0), (2, 0)] rfl rfl rfl ?_
  refine sd_vv rfl rfl rfl (vv_loadW agg_28 rfl Bw1 rfl) ?_
  have hb := bnd hm; clear hm; obtain ⟨x1, hx1, hm⟩ := hb
  refine sd_ev rfl rfl rfl (ev_call en_53 rfl (ref04_Valid_w p0 _ hx1 _)) ?_
  rintro _ w2 ⟨rfl, Gw2⟩
  have z3 := Gw2.size
  refine sd_vv rfl rfl rfl (vv_not rfl) ?_
  refine sd_done ?_
  refine sw_cond rfl (fun c1 => ?_) (fun c1 => ?_)
  ·
    replace hm := cnd_t c1 hm
    refine sw_seq ?_
    -- region 2 ref.go:38
    refine sw_region [(0, 0)] rfl rfl rfl ?_
    refine sd_vv rfl rfl rfl (vv_assign rfl) ?_
    refine sd_done ?_
    refine sw_ret ?_
    refine then_r ?_
    have X4 : Gr w w2 := (Gr.trans (Gr.trans (Gr.refl w) Gw1) Gw2)
    have hr := Option.some.inj hm
    subst hr
    refine ⟨_, _, rfl, res_1 rfl (rv_tmp rfl), ?_⟩
    exact ⟨rfl, X4⟩
  ·
    replace hm := cnd_f c1 hm
    refine sw_skip ?_
    refine then_n ?_
    refine sw_seq ?_
    -- region 3 ref.go:40
    refine sw_region [(0, 0)] rfl rfl rfl ?_
    refine sd_vv rfl rfl rfl (vv_assign rfl) ?_
    refine sd_done ?_
    refine sw_ret ?_
    have X5 : Gr w w2 := (Gr.trans (Gr.trans (Gr.refl w) Gw1) Gw2)
    have hr := Option.some.inj hm
    subst hr
    refine ⟨_, _, rfl, res_1 rfl (rv_tmp rfl), ?_⟩
    exact ⟨rfl, X5⟩

set_option maxHeartbeats 2000000 in
theorem slices_Max_6ac0_w (p0 : List (BitVec 64)) (vp0 : Value) (zp0 gp0 op0 : Nat) (r : BitVec 64) (hm : slices_Max_6ac0 p0 = some r) (w : World) (hp0 : Rd w zp0 gp0 op0 1 vp0 (p0.map uwc))  :
    Calls Try.prog 87 [vp0].toArray w fun e w' => ∃ v, e = .returned v ∧ (v = wv r ∧ Gr w w') := by
  have lt1 := hp0.lth
  unfold slices_Max_6ac0 at hm
  refine calls_of_sw (R := fun v w' => v = wv r ∧ Gr w w') 25 Try.func87 rfl rfl rfl ?_
  refine sw_seq ?_
  -- region 0 sort.go:95
  refine sw_region [(0, 0)] rfl rfl rfl ?_
  refine sd_vv rfl rfl rfl (vv_assign rfl) ?_
  refine sd_done ?_
  refine sw_seq ?_
  refine sw_seq ?_
  -- region 1 sort.go:96
  refine sw_region [(0, 0), (1, 0), (2, 0)] rfl rfl rfl ?_
  refine sd_vv rfl rfl rfl (vv_move rfl) ?_
  refine sd_vv rfl rfl rfl (vv_lenT (l := p0) (c := uwc) Try.underlying60 rfl hp0) ?_
  refine sd_vv rfl rfl rfl (vv_lss (a := (p0.length : Int)) (b := 1) rfl rfl) ?_
  refine sd_done ?_
  refine sw_cond rfl (fun c1 => ?_) (fun c1 => ?_)
  ·
    replace hm := ite_t (of_decide_eq_true c1) hm
    cases hm
  ·
    replace hm := ite_f (of_decide_eq_false c1) hm
    refine sw_skip ?_
    refine then_n ?_
    refine sw_seq ?_
    -- region 3 sort.go:99
    refine sw_region [(0, 0), (1, 0), (2, 0), (3, 0)] rfl rfl rfl ?_
    refine sd_vv rfl rfl rfl (vv_move rfl) ?_
    have hb := bnd hm; clear hm; obtain ⟨y1, hy1, hm⟩ := hb
    refine sd_vv rfl rfl rfl (vv_ixT (i := 0) Try.underlying60 (one_24).siz rfl hp0 rfl hy1) ?_
    refine sd_vv rfl rfl rfl (vv_el1T (q := 0) (u := wv y1) one_24 rfl hp0 hy1 (by first | rfl | omega) rfl) ?_
    refine sd_vv rfl rfl rfl (vv_assign rfl) ?_
    refine sd_done ?_
    refine sw_seq ?_
    refine sw_seq ?_
    -- region 4 sort.go:100
    refine sw_region [(0, 0)] rfl rfl rfl ?_
    refine sd_vv rfl rfl rfl (vv_assign rfl) ?_
    refine sd_done ?_
    refine sw_block ?_
    refine sw_loopD (α := Nat × BitVec 64 × Int) [3, 4, 12, 13, 14, 15, 16, 17, 18, 19, 20, 21, 22, 23] (fun ⟨n1, a4, a5⟩ => [(3, wv a4), (4, .int .i64 a5)]) (fun ⟨n1, a4, a5⟩ wr => (fixN (slices_Max_6ac0_L1 p0) n1 (a4, a5) = some r) ∧ Kz [] w wr) (fun ⟨n1, a4, a5⟩ => n1) ⟨FUEL, y1, 1⟩ ?_ ?_ ?_
    · repeat' first | exact trivial | refine ⟨rfl, ?_⟩
    · exact ⟨hm, Kz.refl _ _⟩
    · clear hm; rintro ⟨n1, a4, a5⟩ w1 ⟨hm, Kw1⟩
      have z2 := Kw1.size
      have hb := fix_succ hm; clear hm; obtain ⟨n1, rfl, hm⟩ := hb
      generalize hrec1 : fixN (slices_Max_6ac0_L1 p0) n1 = rec1 at hm
      unfold slices_Max_6ac0_L1 at hm
      try dsimp only at hm
      refine sw_seq ?_
      refine sw_seq ?_
      -- region 5 sort.go:100
      refine sw_region [(0, 0), (1, 0), (2, 0), (3, 0)] rfl rfl rfl ?_
      refine sd_vv rfl rfl rfl (vv_move rfl) ?_
      refine sd_vv rfl rfl rfl (vv_move rfl) ?_
      have B3 := (Rd.kz hp0 Kw1)
      refine sd_vv rfl rfl rfl (vv_lenT (l := p0) (c := uwc) Try.underlying60 rfl B3) ?_
      refine sd_vv rfl rfl rfl (vv_lss (a := a5) (b := (p0.length : Int)) rfl rfl) ?_
      refine sd_done ?_
      refine sw_cond rfl (fun c2 => ?_) (fun c2 => ?_)
      ·
        replace hm := ite_t (of_decide_eq_true c2) hm
        refine sw_skip ?_
        refine then_n ?_
        refine sw_seq ?_
        refine sw_block ?_
        -- region 7 sort.go:101
        refine sw_region [(0, 0), (1, 0), (2, 0), (3, 0), (4, 0), (5, 0), (6, 0)] rfl rfl rfl ?_
        refine sd_vv rfl rfl rfl (vv_move rfl) ?_
        refine sd_vv rfl rfl rfl (vv_move rfl) ?_
        refine sd_vv rfl rfl rfl (vv_move rfl) ?_
        have hb := bnd hm; clear hm; obtain ⟨y6, hy6, hm⟩ := hb
        refine sd_vv rfl rfl rfl (vv_ixT (i := a5) Try.underlying60 (one_24).siz rfl B3 rfl hy6) ?_
        refine sd_vv rfl rfl rfl (vv_el1T (q := 0) (u := wv y6) one_24 rfl B3 hy6 (by first | rfl | omega) rfl) ?_
        refine sd_vv rfl rfl rfl (vv_maxU (d := a4) (e := y6) rfl rfl) ?_
        refine sd_vv rfl rfl rfl (vv_assign rfl) ?_
        refine sd_nil ?_
        refine block_n ?_
        refine then_n ?_
        -- region 6 sort.go:100
        refine sw_region [(0, 0), (1, 0), (2, 0)] rfl rfl rfl ?_
        refine sd_vv rfl rfl rfl (vv_move rfl) ?_
        refine sd_vv rfl rfl rfl (vv_add (k := .i64) (a := a5) (b := 1) rfl rfl) ?_
        refine sd_vv rfl rfl rfl (vv_assign rfl) ?_
        refine sd_nil ?_
        have K_4 : Kz [] w w1 := Kw1
        subst hrec1
        refine ⟨rfl, ⟨n1, mxU a4 y6, w64 (a5 + 1)⟩, ?_, ⟨hm, K_4⟩, Nat.lt_succ_self _⟩
        repeat' first | exact trivial | refine ⟨rfl, ?_⟩
      ·
        replace hm := ite_f (of_decide_eq_false c2) hm
        refine sw_exit ?_
        refine then_x ?_
        refine then_x ?_
        refine block_x ?_
        refine then_n ?_
        refine sw_seq ?_
        -- region 8 sort.go:103
        refine sw_region [(0, 0), (1, 0)] rfl rfl rfl ?_
        refine sd_vv rfl rfl rfl (vv_move rfl) ?_
        refine sd_vv rfl rfl rfl (vv_assign rfl) ?_
        refine sd_done ?_
        refine sw_ret ?_
        have X5 : Gr w w1 := (Gr.kz (Gr.refl w) Kw1)
        have hr := Option.some.inj hm
        subst hr
        refine ⟨_, _, rfl, res_1 rfl (rv_tmp rfl), ?_⟩
        exact ⟨rfl, X5⟩

set_option maxHeartbeats 2000000 in
theorem poly_Value_w (p0 : TScheme) (p1 : List (BitVec 64)) (p2 : BitVec 64) (vp1 : Value) (zp1 gp1 op1 : Nat) (r : BitVec 64 × Int) (hm : poly_Value p0 p1 p2 = some r) (w : World) (hp1 : Rd w zp1 gp1 op1 1 vp1 (p1.map uwc))  :
    Calls Try.prog 34 [.agg (TScheme.cs p0).toArray, vp1, wv p2].toArray w fun e w' => ∃ v, e = .returned v ∧ (v = .tuple [wv r.1, .int .i64 r.2].toArray ∧ Gr w w') := by
  have lt1 := hp1.lth
  unfold poly_Value at hm
  refine calls_of_sw (R := fun v w' => v = .tuple [wv r.1, .int .i64 r.2].toArray ∧ Gr w w') 38 Try.func34 rfl rfl rfl ?_
  refine sw_seq ?_
  -- region 0 poly.go:77
  refine sw_region [(0, 0), (1, 0), (2, 0)] rfl rfl rfl ?_
  refine sd_ev rfl rfl rfl (ev_box (cs := TScheme.cs p0) rfl rfl) ?_
  rintro _ w1 ⟨b1, rfl, hbw1, Bw1, Gw1⟩
  have z2 := Gw1.size
  have lt3 := Bw1.lt
  refine sd_vv rfl rfl rfl (vv_assign rfl) ?_
  refine sd_vv rfl rfl rfl (vv_assign rfl) ?_
  refine sd_done ?_
  refine sw_seq ?_
  refine sw_seq ?_
  -- region 1 poly.go:78
  refine sw_region [(0, 0), (1, 0), (2, 0)] rfl rfl rfl ?_
  refine sd_vv rfl rfl rfl (vv_loadW agg_28 rfl Bw1 rfl) ?_
  have hb := bnd hm; clear hm; obtain ⟨x1, hx1, hm⟩ := hb
  refine sd_ev rfl rfl rfl (ev_call en_63 rfl (poly_valid_w p0 _ hx1 _)) ?_
  rintro _ w2 ⟨rfl, Gw2⟩
  have z4 := Gw2.size
  refine sd_vv rfl rfl rfl (vv_not rfl) ?_
  refine sd_done ?_
  refine sw_cond rfl (fun c1 => ?_) (fun c1 => ?_)
  ·
    replace hm := cnd_t c1 hm
    refine sw_seq ?_
    -- region 2 poly.go:79
    refine sw_region [(0, 0), (1, 0)] rfl rfl rfl ?_
    refine sd_vv rfl rfl rfl (vv_assign rfl) ?_
    refine sd_vv rfl rfl rfl (vv_assign rfl) ?_
    refine sd_done ?_
    refine sw_ret ?_
    refine then_r ?_
    have X5 : Gr w w2 := (Gr.trans (Gr.trans (Gr.refl w) Gw1) Gw2)
    have hr := Option.some.inj hm
    subst hr
    refine ⟨_, _, rfl, res_2 rfl (rv_tmp rfl) (rv_tmp rfl), ?_⟩
    exact ⟨rfl, X5⟩
  ·
    replace hm := cnd_f c1 hm
    refine sw_skip ?_
    refine then_n ?_
    refine sw_seq ?_
    have X6 : Gr w w2 := (Gr.trans (Gr.trans (Gr.refl w) Gw1) Gw2)
    refine sw_joinD (β := Bool) [11, 12, 13, 14, 15, 16, 17, 18, 19, 20, 21, 22, 23, 24, 25, 26, 27, 28, 29, 30, 31] (fun a2 => [(31, .bool a2)]) (fun a2 wr => (poly_Value_J1 p0 p1 p2 a2 = some r) ∧ Kz [] w2 wr) ?_ ?_
    · clear hm; rintro a2 w3 ⟨hm, Kw3⟩
      have z7 := Kw3.size
      unfold poly_Value_J1 at hm
      refine sw_cond rfl (fun c2 => ?_) (fun c2 => ?_)
      ·
        replace hm := cnd_t c2 hm
        refine sw_seq ?_
        -- region 4 poly.go:82
        refine sw_region [(0, 0), (1, 0)] rfl rfl rfl ?_
        refine sd_vv rfl rfl rfl (vv_assign rfl) ?_
        refine sd_vv rfl rfl rfl (vv_assign rfl) ?_
        refine sd_done ?_
        refine sw_ret ?_
        refine then_r ?_
        have X8 : Gr w w3 := (Gr.kz X6 Kw3)
        have hr := Option.some.inj hm
        subst hr
        refine ⟨_, _, rfl, res_2 rfl (rv_tmp rfl) (rv_tmp rfl), ?_⟩
        exact ⟨rfl, X8⟩
      ·
        replace hm := cnd_f c2 hm
        refine sw_skip ?_
        refine then_n ?_
        refine sw_seq ?_
        -- region 5 poly.go:84
        refine sw_region [(0, 0), (1, 0), (2, 0), (3, 0), (4, 0), (5, 0), (6, 0), (7, 0)] rfl rfl rfl ?_
        refine sd_vv rfl rfl rfl (vv_move rfl) ?_
        refine sd_vv rfl rfl rfl (vv_fieldAddr fa_28_3 rfl) ?_
        refine sd_vv rfl rfl rfl (vv_fieldAddr fa_26_1 rfl) ?_
        have B9 := (Bx.kz (Bx.gr Bw1 Gw2) Kw3)
        refine sd_vv rfl rfl rfl (vv_load1 (v := wv p0.Group.Q) one_24 rfl B9 rfl) ?_
        refine sd_vv rfl rfl rfl (vv_move rfl) ?_
        have B10 := (Rd.kz (Rd.gr (Rd.gr hp1 Gw1) Gw2) Kw3)
        have hb := bnd hm; clear hm; obtain ⟨x3, hx3, hm⟩ := hb
        refine sd_ev rfl rfl rfl (ev_call en_65 rfl (poly_polynomial_at_w p1 p0.Group.Q p2 _ _ _ _ _ hx3 _ B10)) ?_
        rintro _ w4 ⟨rfl, Gw4⟩
        have z11 := Gw4.size
        refine sd_vv rfl rfl rfl (vv_assign rfl) ?_
        refine sd_vv rfl rfl rfl (vv_assign rfl) ?_
        refine sd_done ?_
        refine sw_ret ?_
        have X12 : Gr w w4 := (Gr.trans (Gr.kz X6 Kw3) Gw4)
        have hr := Option.some.inj hm
        subst hr
        refine ⟨_, _, rfl, res_2 rfl (rv_tmp rfl) (rv_tmp rfl), ?_⟩
        exact ⟨rfl, X12⟩
    ·
      -- region 3 poly.go:81 DRAWS
      refine sw_drawN [([])] [] (.leaf [(0, 10), (1, 10), (2, 10), (3, 10), (4, 10), (5, 10), (6, 10), (7, 10), (9, 10), (10, 10), (11, 10), (8, 0), (12, 10), (13, 10), (14, 10), (15, 10), (16, 10), (17, 10), (18, 10), (19, 10), (20, 10)]) (by kernel_rfl) (by kernel_rfl) rfl (by kernel_rfl) ?_
      intro w5 Gw5 zw5
      refine sdz_leaf ?_
      refine dd_hn 0 rfl rfl rfl rfl (Kp.refl ([]) w5) (fun w hS => vv_move rfl) ?_
      have B13 := (Rd.gr (Rd.gr (Rd.gr hp1 Gw1) Gw2) Gw5)
      refine dd_hn 0 rfl rfl rfl rfl (Kp.refl ([]) w5) (fun w hS => vv_lenT (l := p1) (c := uwc) Try.underlying60 rfl (Rd.kp B13 hS)) ?_
      refine dd_hn 0 rfl rfl rfl rfl (Kp.refl ([]) w5) (fun w hS => vv_fieldAddr fa_28_2 rfl) ?_
      have B14 := (Bx.gr (Bx.gr Bw1 Gw2) Gw5)
      refine dd_hn 0 rfl rfl rfl rfl (Kp.refl ([]) w5) (fun w hS => vv_load1 (v := .int .i64 p0.Degree) one_3 rfl (Bx.kp B14 hS) rfl) ?_
      refine dd_hn 0 rfl rfl rfl rfl (Kp.refl ([]) w5) (fun w hS => vv_add (k := .i64) (a := p0.Degree) (b := 1) rfl rfl) ?_
      refine dd_hn 0 rfl rfl rfl rfl (Kp.refl ([]) w5) (fun w hS => vv_neq (a := (p1.length : Int)) (b := w64 (p0.Degree + 1)) rfl rfl) ?_
      refine dd_pn 0 rfl rfl rfl rfl (Kp.refl ([]) w5) (fun w hS => vv_move rfl) (fun c3 => ?_) (fun c3 => ?_)
      ·
        replace hm := ite_t (of_decide_eq_true c3) hm
        refine dd_sn 0 rfl rfl rfl rfl (Kp.refl ([]) w5) ?_
        refine dd_sn 0 rfl rfl rfl rfl (Kp.refl ([]) w5) ?_
        refine dd_sn 0 rfl rfl rfl rfl (Kp.refl ([]) w5) ?_
        refine dd_sn 0 rfl rfl rfl rfl (Kp.refl ([]) w5) ?_
        refine dd_sz rfl rfl rfl ?_
        refine dd_sn 0 rfl rfl rfl rfl (Kp.refl ([]) w5) ?_
        refine dd_hn 0 rfl rfl rfl rfl (Kp.refl ([]) w5) (fun w hS => vv_pickT rfl rfl) ?_
        refine dd_hn 0 rfl rfl rfl rfl (Kp.refl ([]) w5) (fun w hS => vv_move rfl) ?_
        refine dd_sn 0 rfl rfl rfl rfl (Kp.refl ([]) w5) ?_
        refine dd_sn 0 rfl rfl rfl rfl (Kp.refl ([]) w5) ?_
        refine dd_sn 0 rfl rfl rfl rfl (Kp.refl ([]) w5) ?_
        refine dd_sn 0 rfl rfl rfl rfl (Kp.refl ([]) w5) ?_
        refine dd_sn 0 rfl rfl rfl rfl (Kp.refl ([]) w5) ?_
        refine dd_hn 0 rfl rfl rfl rfl (Kp.refl ([]) w5) (fun w hS => vv_pickT rfl rfl) ?_
        refine sd_nil ?_
        have K_15 : Kz [] w2 w5 := (Kz.gr (Kz.refl _ _) Gw5)
        refine ⟨rfl, true, ?_, hm, K_15⟩
        repeat' first | exact trivial | refine ⟨rfl, ?_⟩
      ·
        replace hm := ite_f (of_decide_eq_false c3) hm
        refine dd_hn 0 rfl rfl rfl rfl (Kp.refl ([]) w5) (fun w hS => vv_move rfl) ?_
        refine dd_hn 0 rfl rfl rfl rfl (Kp.refl ([]) w5) (fun w hS => vv_fieldAddr fa_28_3 rfl) ?_
        refine dd_hn 0 rfl rfl rfl rfl (Kp.refl ([]) w5) (fun w hS => vv_fieldAddr fa_26_1 rfl) ?_
        refine dd_hn 0 rfl rfl rfl rfl (Kp.refl ([]) w5) (fun w hS => vv_load1 (v := wv p0.Group.Q) one_24 rfl (Bx.kp B14 hS) rfl) ?_
        have hb := bnd hm; clear hm; obtain ⟨x4, hx4, hm⟩ := hb
        refine dd_z [] rfl rfl rfl (ev_call en_87 rfl (slices_Max_6ac0_w p1 _ _ _ _ _ hx4 _ B13)) ⟨fun _ => tk0, trivial⟩ ?_
        rintro _ w6 ⟨rfl, Gw6⟩
        have z16 := Gw6.size
        refine ⟨Kz.ofGr Gw6, ?_⟩
        have S17 := (Kp.gr (Kp.refl ([]) w5) Gw6)
        refine dd_hn 0 rfl rfl rfl rfl S17 (fun w hS => vv_geqU (c := x4) (d := p0.Group.Q) rfl rfl) ?_
        refine dd_hn 0 rfl rfl rfl rfl S17 (fun w hS => vv_pickF rfl rfl) ?_
        refine dd_pn 0 rfl rfl rfl rfl S17 (fun w hS => vv_move rfl) (fun c4 => ?_) (fun c4 => ?_)
        ·
          replace hm := ite_t (of_decide_eq_true c4) hm
          refine dd_sn 0 rfl rfl rfl rfl S17 ?_
          refine dd_sn 0 rfl rfl rfl rfl S17 ?_
          refine dd_sn 0 rfl rfl rfl rfl S17 ?_
          refine dd_sn 0 rfl rfl rfl rfl S17 ?_
          refine dd_sn 0 rfl rfl rfl rfl S17 ?_
          refine dd_hn 0 rfl rfl rfl rfl S17 (fun w hS => vv_pickT rfl rfl) ?_
          refine sd_nil ?_
          have K_18 : Kz [] w2 w6 := (Kz.gr (Kz.gr (Kz.refl _ _) Gw5) Gw6)
          refine ⟨rfl, true, ?_, hm, K_18⟩
          repeat' first | exact trivial | refine ⟨rfl, ?_⟩
        ·
          replace hm := ite_f (of_decide_eq_false c4) hm
          refine dd_hn 0 rfl rfl rfl rfl S17 (fun w hS => vv_move rfl) ?_
          refine dd_hn 0 rfl rfl rfl rfl S17 (fun w hS => vv_fieldAddr fa_28_3 rfl) ?_
          refine dd_hn 0 rfl rfl rfl rfl S17 (fun w hS => vv_fieldAddr fa_26_1 rfl) ?_
          refine dd_hn 0 rfl rfl rfl rfl S17 (fun w hS => vv_load1 (v := wv p0.Group.Q) one_24 rfl (Bx.kp B14 hS) rfl) ?_
          refine dd_hn 0 rfl rfl rfl rfl S17 (fun w hS => vv_geqU (c := p2) (d := p0.Group.Q) rfl rfl) ?_
          refine dd_hn 0 rfl rfl rfl rfl S17 (fun w hS => vv_pickF rfl rfl) ?_
          refine sd_nil ?_
          have K_19 : Kz [] w2 w6 := (Kz.gr (Kz.gr (Kz.refl _ _) Gw5) Gw6)
          refine ⟨rfl, (decide (p0.Group.Q ≤ p2)), ?_, hm, K_19⟩
          repeat' first | exact trivial | refine ⟨rfl, ?_⟩

set_option maxHeartbeats 2000000 in
theorem ref04_Polynomial_w (p0 : TScheme) (p1 : List (BitVec 64)) (vp1 : Value) (zp1 gp1 op1 : Nat) (r : Bool) (hm : ref04_Polynomial p0 p1 = some r) (w : World) (hp1 : Rd w zp1 gp1 op1 1 vp1 (p1.map uwc))  :
    Calls Try.prog 55 [.agg (TScheme.cs p0).toArray, vp1].toArray w fun e w' => ∃ v, e = .returned v ∧ (v = .bool r ∧ Gr w w') := by
  have lt1 := hp1.lth
  unfold ref04_Polynomial at hm
  refine calls_of_sw (R := fun v w' => v = .bool r ∧ Gr w w') 26 Try.func55 rfl rfl rfl ?_
  refine sw_seq ?_
  -- region 0 ref.go:73
  refine sw_region [(0, 0), (1, 0)] rfl rfl rfl ?_
  refine sd_ev rfl rfl rfl (ev_box (cs := TScheme.cs p0) rfl rfl) ?_
  rintro _ w1 ⟨b1, rfl, hbw1, Bw1, Gw1⟩
  have z2 := Gw1.size
  have lt3 := Bw1.lt
  refine sd_vv rfl rfl rfl (vv_assign rfl) ?_
  refine sd_done ?_
  refine sw_seq ?_
  refine sw_seq ?_
  -- region 1 ref.go:74
  refine sw_region [(0, 0), (1, 0), (2, 0), (3, 0), (4, 0), (5, 0)] rfl rfl rfl ?_
  refine sd_vv rfl rfl rfl (vv_move rfl) ?_
  have B4 := (Rd.gr hp1 Gw1)
  refine sd_vv rfl rfl rfl (vv_lenT (l := p1) (c := uwc) Try.underlying60 rfl B4) ?_
  refine sd_vv rfl rfl rfl (vv_fieldAddr fa_28_2 rfl) ?_
  refine sd_vv rfl rfl rfl (vv_load1 (v := .int .i64 p0.Degree) one_3 rfl Bw1 rfl) ?_
  refine sd_vv rfl rfl rfl (vv_add (k := .i64) (a := p0.Degree) (b := 1) rfl rfl) ?_
  refine sd_vv rfl rfl rfl (vv_neq (a := (p1.length : Int)) (b := w64 (p0.Degree + 1)) rfl rfl) ?_
  refine sd_done ?_
  refine sw_cond rfl (fun c1 => ?_) (fun c1 => ?_)
  ·
    replace hm := ite_t (of_decide_eq_true c1) hm
    refine sw_seq ?_
    -- region 2 ref.go:75
    refine sw_region [(0, 0)] rfl rfl rfl ?_
    refine sd_vv rfl rfl rfl (vv_assign rfl) ?_
    refine sd_done ?_
    refine sw_ret ?_
    refine then_r ?_
    have X5 : Gr w w1 := (Gr.trans (Gr.refl w) Gw1)
    have hr := Option.some.inj hm
    subst hr
    refine ⟨_, _, rfl, res_1 rfl (rv_tmp rfl), ?_⟩
    exact ⟨rfl, X5⟩
  ·
    replace hm := ite_f (of_decide_eq_false c1) hm
    refine sw_skip ?_
    refine then_n ?_
    refine sw_seq ?_
    refine sw_seq ?_
    -- region 3 ref.go:77
    refine sw_region [(0, 0)] rfl rfl rfl ?_
    refine sd_vv rfl rfl rfl (vv_assign rfl) ?_
    refine sd_done ?_
    refine sw_block ?_
    have X6 : Gr w w1 := (Gr.trans (Gr.refl w) Gw1)
    refine sw_loopD (α := Nat × Int) [4, 5, 12, 13, 14, 15, 16, 17, 18, 19, 20, 21, 22, 23, 24, 25] (fun ⟨n1, a2⟩ => [(4, .bool false), (5, .int .i64 a2)]) (fun ⟨n1, a2⟩ wr => (fixN (ref04_Polynomial_L1 p0 p1) n1 a2 = some r) ∧ Kz [] w1 wr) (fun ⟨n1, a2⟩ => n1) ⟨FUEL, 0⟩ ?_ ?_ ?_
    · repeat' first | exact trivial | refine ⟨rfl, ?_⟩
    · exact ⟨hm, Kz.refl _ _⟩
    · clear hm; rintro ⟨n1, a2⟩ w2 ⟨hm, Kw2⟩
      have z7 := Kw2.size
      have hb := fix_succ hm; clear hm; obtain ⟨n1, rfl, hm⟩ := hb
      generalize hrec1 : fixN (ref04_Polynomial_L1 p0 p1) n1 = rec1 at hm
      unfold ref04_Polynomial_L1 at hm
      try dsimp only at hm
      refine sw_seq ?_
      refine sw_seq ?_
      -- region 4 ref.go:77
      refine sw_region [(0, 0), (1, 0), (2, 0), (3, 0)] rfl rfl rfl ?_
      refine sd_vv rfl rfl rfl (vv_move rfl) ?_
      refine sd_vv rfl rfl rfl (vv_move rfl) ?_
      have B8 := (Rd.kz B4 Kw2)
      refine sd_vv rfl rfl rfl (vv_lenT (l := p1) (c := uwc) Try.underlying60 rfl B8) ?_
      refine sd_vv rfl rfl rfl (vv_lss (a := a2) (b := (p1.length : Int)) rfl rfl) ?_
      refine sd_done ?_
      refine sw_cond rfl (fun c2 => ?_) (fun c2 => ?_)
      ·
        replace hm := ite_t (of_decide_eq_true c2) hm
        refine sw_skip ?_
        refine then_n ?_
        refine sw_seq ?_
        refine sw_block ?_
        refine sw_seq ?_
        -- region 6 ref.go:78 DRAWS
        refine sw_drawN [([])] [] (.leaf [(0, 10), (1, 10), (2, 10), (3, 10), (4, 10), (5, 10), (6, 10), (7, 10)]) (by kernel_rfl) (by kernel_rfl) rfl (by kernel_rfl) ?_
        intro w3 Gw3 zw3
        refine sdz_leaf ?_
        refine dd_hn 0 rfl rfl rfl rfl (Kp.refl ([]) w3) (fun w hS => vv_move rfl) ?_
        refine dd_hn 0 rfl rfl rfl rfl (Kp.refl ([]) w3) (fun w hS => vv_move rfl) ?_
        have hb := bnd hm; clear hm; obtain ⟨y3, hy3, hm⟩ := hb
        have B9 := (Rd.gr B8 Gw3)
        refine dd_hn 0 rfl rfl rfl rfl (Kp.refl ([]) w3) (fun w hS => vv_ixT (i := a2) Try.underlying60 (one_24).siz rfl (Rd.kp B9 hS) rfl hy3) ?_
        refine dd_hn 0 rfl rfl rfl rfl (Kp.refl ([]) w3) (fun w hS => vv_el1T (q := 0) (u := wv y3) one_24 rfl (Rd.kp B9 hS) hy3 (by first | rfl | omega) rfl) ?_
        refine dd_hn 0 rfl rfl rfl rfl (Kp.refl ([]) w3) (fun w hS => vv_fieldAddr fa_28_3 rfl) ?_
        refine dd_hn 0 rfl rfl rfl rfl (Kp.refl ([]) w3) (fun w hS => vv_fieldAddr fa_26_1 rfl) ?_
        have B10 := (Bx.gr (Bx.kz Bw1 Kw2) Gw3)
        refine dd_hn 0 rfl rfl rfl rfl (Kp.refl ([]) w3) (fun w hS => vv_load1 (v := wv p0.Group.Q) one_24 rfl (Bx.kp B10 hS) rfl) ?_
        refine dd_hn 0 rfl rfl rfl rfl (Kp.refl ([]) w3) (fun w hS => vv_geqU (c := y3) (d := p0.Group.Q) rfl rfl) ?_
        refine sd_done ?_
        refine sw_cond rfl (fun c3 => ?_) (fun c3 => ?_)
        ·
          replace hm := ite_t (of_decide_eq_true c3) hm
          refine sw_seq ?_
          -- region 7 ref.go:79
          refine sw_region [(0, 0)] rfl rfl rfl ?_
          refine sd_vv rfl rfl rfl (vv_assign rfl) ?_
          refine sd_done ?_
          refine sw_ret ?_
          refine block_r ?_
          refine then_r ?_
          refine then_r ?_
          refine block_r ?_
          refine then_r ?_
          have X11 : Gr w w3 := (Gr.trans (Gr.kz X6 Kw2) Gw3)
          have hr := Option.some.inj hm
          subst hr
          refine ⟨_, _, rfl, res_1 rfl (rv_tmp rfl), ?_⟩
          exact ⟨rfl, X11⟩
        ·
          replace hm := ite_f (of_decide_eq_false c3) hm
          refine sw_skip ?_
          refine block_n ?_
          refine then_n ?_
          -- region 5 ref.go:77
          refine sw_region [(0, 0), (1, 0), (2, 0)] rfl rfl rfl ?_
          refine sd_vv rfl rfl rfl (vv_move rfl) ?_
          refine sd_vv rfl rfl rfl (vv_add (k := .i64) (a := a2) (b := 1) rfl rfl) ?_
          refine sd_vv rfl rfl rfl (vv_assign rfl) ?_
          refine sd_nil ?_
          have K_12 : Kz [] w1 w3 := (Kz.gr Kw2 Gw3)
          subst hrec1
          refine ⟨rfl, ⟨n1, w64 (a2 + 1)⟩, ?_, ⟨hm, K_12⟩, Nat.lt_succ_self _⟩
          repeat' first | exact trivial | refine ⟨rfl, ?_⟩
      ·
        replace hm := ite_f (of_decide_eq_false c2) hm
        refine sw_exit ?_
        refine then_x ?_
        refine then_x ?_
        refine block_x ?_
        refine then_n ?_
        refine sw_seq ?_
        -- region 8 ref.go:82
        refine sw_region [(0, 0)] rfl rfl rfl ?_
        refine sd_vv rfl rfl rfl (vv_assign rfl) ?_
        refine sd_done ?_
        refine sw_ret ?_
        have X13 : Gr w w2 := (Gr.kz X6 Kw2)
        have hr := Option.some.inj hm
        subst hr
        refine ⟨_, _, rfl, res_1 rfl (rv_tmp rfl), ?_⟩
        exact ⟨rfl, X13⟩

set_option maxHeartbeats 2000000 in
theorem ref04_Value_w (p0 : TScheme) (p1 : List (BitVec 64)) (p2 : BitVec 64) (vp1 : Value) (zp1 gp1 op1 : Nat) (r : BitVec 64 × Int) (hm : ref04_Value p0 p1 p2 = some r) (w : World) (hp1 : Rd w zp1 gp1 op1 1 vp1 (p1.map uwc))  :
    Calls Try.prog 35 [.agg (TScheme.cs p0).toArray, vp1, wv p2].toArray w fun e w' => ∃ v, e = .returned v ∧ (v = .tuple [wv r.1, .int .i64 r.2].toArray ∧ Gr w w') := by
  have lt1 := hp1.lth
  unfold ref04_Value at hm
  refine calls_of_sw (R := fun v w' => v = .tuple [wv r.1, .int .i64 r.2].toArray ∧ Gr w w') 28 Try.func35 rfl rfl rfl ?_
  refine sw_seq ?_
  -- region 0 ref.go:86
  refine sw_region [(0, 0), (1, 0), (2, 0)] rfl rfl rfl ?_
  refine sd_ev rfl rfl rfl (ev_box (cs := TScheme.cs p0) rfl rfl) ?_
  rintro _ w1 ⟨b1, rfl, hbw1, Bw1, Gw1⟩
  have z2 := Gw1.size
  have lt3 := Bw1.lt
  refine sd_vv rfl rfl rfl (vv_assign rfl) ?_
  refine sd_vv rfl rfl rfl (vv_assign rfl) ?_
  refine sd_done ?_
  refine sw_seq ?_
  refine sw_seq ?_
  -- region 1 ref.go:87
  refine sw_region [(0, 0), (1, 0), (2, 0)] rfl rfl rfl ?_
  refine sd_vv rfl rfl rfl (vv_loadW agg_28 rfl Bw1 rfl) ?_
  have hb := bnd hm; clear hm; obtain ⟨x1, hx1, hm⟩ := hb
  refine sd_ev rfl rfl rfl (ev_call en_53 rfl (ref04_Valid_w p0 _ hx1 _)) ?_
  rintro _ w2 ⟨rfl, Gw2⟩
  have z4 := Gw2.size
  refine sd_vv rfl rfl rfl (vv_not rfl) ?_
  refine sd_done ?_
  refine sw_cond rfl (fun c1 => ?_) (fun c1 => ?_)
  ·
    replace hm := cnd_t c1 hm
    refine sw_seq ?_
    -- region 2 ref.go:88
    refine sw_region [(0, 0), (1, 0)] rfl rfl rfl ?_
    refine sd_vv rfl rfl rfl (vv_assign rfl) ?_
    refine sd_vv rfl rfl rfl (vv_assign rfl) ?_
    refine sd_done ?_
    refine sw_ret ?_
    refine then_r ?_
    have X5 : Gr w w2 := (Gr.trans (Gr.trans (Gr.refl w) Gw1) Gw2)
    have hr := Option.some.inj hm
    subst hr
    refine ⟨_, _, rfl, res_2 rfl (rv_tmp rfl) (rv_tmp rfl), ?_⟩
    exact ⟨rfl, X5⟩
  ·
    replace hm := cnd_f c1 hm
    refine sw_skip ?_
    refine then_n ?_
    refine sw_seq ?_
    have X6 : Gr w w2 := (Gr.trans (Gr.trans (Gr.refl w) Gw1) Gw2)
    refine sw_joinD (β := Bool) [11, 12, 13, 14, 15, 16, 17, 18, 19, 20, 21] (fun a2 => [(21, .bool a2)]) (fun a2 wr => (ref04_Value_J1 p0 p1 p2 a2 = some r) ∧ Kz [] w2 wr) ?_ ?_
    · clear hm; rintro a2 w3 ⟨hm, Kw3⟩
      have z7 := Kw3.size
      unfold ref04_Value_J1 at hm
      refine sw_cond rfl (fun c2 => ?_) (fun c2 => ?_)
      ·
        replace hm := cnd_t c2 hm
        refine sw_seq ?_
        -- region 4 ref.go:91
        refine sw_region [(0, 0), (1, 0)] rfl rfl rfl ?_
        refine sd_vv rfl rfl rfl (vv_assign rfl) ?_
        refine sd_vv rfl rfl rfl (vv_assign rfl) ?_
        refine sd_done ?_
        refine sw_ret ?_
        refine then_r ?_
        have X8 : Gr w w3 := (Gr.kz X6 Kw3)
        have hr := Option.some.inj hm
        subst hr
        refine ⟨_, _, rfl, res_2 rfl (rv_tmp rfl) (rv_tmp rfl), ?_⟩
        exact ⟨rfl, X8⟩
      ·
        replace hm := cnd_f c2 hm
        refine sw_skip ?_
        refine then_n ?_
        refine sw_seq ?_
        -- region 5 ref.go:93
        refine sw_region [(0, 0), (1, 0), (2, 0), (3, 0), (4, 0), (5, 0), (6, 0), (7, 0)] rfl rfl rfl ?_
        refine sd_vv rfl rfl rfl (vv_fieldAddr fa_28_3 rfl) ?_
        refine sd_vv rfl rfl rfl (vv_fieldAddr fa_26_1 rfl) ?_
        have B9 := (Bx.kz (Bx.gr Bw1 Gw2) Kw3)
        refine sd_vv rfl rfl rfl (vv_load1 (v := wv p0.Group.Q) one_24 rfl B9 rfl) ?_
        refine sd_vv rfl rfl rfl (vv_move rfl) ?_
        refine sd_vv rfl rfl rfl (vv_move rfl) ?_
        have B10 := (Rd.kz (Rd.gr (Rd.gr hp1 Gw1) Gw2) Kw3)
        have hb := bnd hm; clear hm; obtain ⟨x3, hx3, hm⟩ := hb
        refine sd_ev rfl rfl rfl (ev_call en_88 rfl (ref04_ValueOf_w p0.Group.Q p1 p2 _ _ _ _ _ hx3 _ B10)) ?_
        rintro _ w4 ⟨rfl, Gw4⟩
        have z11 := Gw4.size
        refine sd_vv rfl rfl rfl (vv_assign rfl) ?_
        refine sd_vv rfl rfl rfl (vv_assign rfl) ?_
        refine sd_done ?_
        refine sw_ret ?_
        have X12 : Gr w w4 := (Gr.trans (Gr.kz X6 Kw3) Gw4)
        have hr := Option.some.inj hm
        subst hr
        refine ⟨_, _, rfl, res_2 rfl (rv_tmp rfl) (rv_tmp rfl), ?_⟩
        exact ⟨rfl, X12⟩
    ·
      -- region 3 ref.go:90
      refine sw_region [(0, 0), (1, 0), (2, 0), (3, 0), (4, 0), (5, 0), (6, 0), (7, 0), (8, 0), (9, 0), (10, 0)] rfl rfl rfl ?_
      have B13 := (Bx.gr Bw1 Gw2)
      refine sd_vv rfl rfl rfl (vv_loadW agg_28 rfl B13 rfl) ?_
      refine sd_vv rfl rfl rfl (vv_move rfl) ?_
      have B14 := (Rd.gr (Rd.gr hp1 Gw1) Gw2)
      have hb := bnd hm; clear hm; obtain ⟨x4, hx4, hm⟩ := hb
      refine sd_ev rfl rfl rfl (ev_call en_55 rfl (ref04_Polynomial_w p0 p1 _ _ _ _ _ hx4 _ B14)) ?_
      rintro _ w5 ⟨rfl, Gw5⟩
      have z15 := Gw5.size
      refine sd_vv rfl rfl rfl (vv_not rfl) ?_
      refine sd_split rfl rfl rfl (vv_move rfl) (fun c3 => ?_) (fun c3 => ?_)
      ·
        replace hm := cnd_t c3 hm
        refine sd_skip rfl rfl rfl ?_
        refine sd_skip rfl rfl rfl ?_
        refine sd_skip rfl rfl rfl ?_
        refine sd_skip rfl rfl rfl ?_
        refine sd_skip rfl rfl rfl ?_
        refine sd_vv rfl rfl rfl (vv_pickT rfl rfl) ?_
        refine sd_nil ?_
        have K_16 : Kz [] w2 w5 := (Kz.gr (Kz.refl _ _) Gw5)
        refine ⟨rfl, true, ?_, hm, K_16⟩
        repeat' first | exact trivial | refine ⟨rfl, ?_⟩
      ·
        replace hm := cnd_f c3 hm
        refine sd_vv rfl rfl rfl (vv_move rfl) ?_
        refine sd_vv rfl rfl rfl (vv_fieldAddr fa_28_3 rfl) ?_
        refine sd_vv rfl rfl rfl (vv_fieldAddr fa_26_1 rfl) ?_
        have B17 := (Bx.gr B13 Gw5)
        refine sd_vv rfl rfl rfl (vv_load1 (v := wv p0.Group.Q) one_24 rfl B17 rfl) ?_
        refine sd_vv rfl rfl rfl (vv_geqU (c := p2) (d := p0.Group.Q) rfl rfl) ?_
        refine sd_vv rfl rfl rfl (vv_pickF rfl rfl) ?_
        refine sd_nil ?_
        have K_18 : Kz [] w2 w5 := (Kz.gr (Kz.refl _ _) Gw5)
        refine ⟨rfl, (decide (p0.Group.Q ≤ p2)), ?_, hm, K_18⟩
        repeat' first | exact trivial | refine ⟨rfl, ?_⟩

set_option maxHeartbeats 2000000 in
theorem poly_Interpolate_1_w (p0 : TPoint) (p1 : TScheme) (bp1 : Nat) (r : Bool) (hm : poly_Interpolate_1 p0 p1 = some r) (w : World) (hbp1 : Bx w bp1 28 (TScheme.cs p1))  :
    Calls Try.prog 90 [.agg (TPoint.cs p0).toArray, .pointer (some ⟨bp1, 0, none⟩)].toArray w fun e w' => ∃ v, e = .returned v ∧ (v = .bool r ∧ Gr w w') := by
  have lt1 := hbp1.lt
  unfold poly_Interpolate_1 at hm
  refine calls_of_sw (R := fun v w' => v = .bool r ∧ Gr w w') 18 Try.func90 rfl rfl rfl ?_
  refine sw_seq ?_
  -- region 0 poly.go:103
  refine sw_region [(0, 0), (1, 0)] rfl rfl rfl ?_
  refine sd_ev rfl rfl rfl (ev_box (cs := TPoint.cs p0) rfl rfl) ?_
  rintro _ w1 ⟨b1, rfl, hbw1, Bw1, Gw1⟩
  have z2 := Gw1.size
  have lt3 := Bw1.lt
  refine sd_vv rfl rfl rfl (vv_assign rfl) ?_
  refine sd_done ?_
  refine sw_seq ?_
  -- region 1 poly.go:103
  refine sw_region [(0, 0), (1, 0), (2, 0), (3, 0), (4, 0), (5, 0), (6, 0), (7, 0), (8, 0), (9, 0), (10, 0), (11, 0), (12, 0), (13, 0), (14, 0)] rfl rfl rfl ?_
  refine sd_vv rfl rfl rfl (vv_fieldAddr fa_31_0 rfl) ?_
  refine sd_vv rfl rfl rfl (vv_load1 (v := wv p0.X) one_24 rfl Bw1 rfl) ?_
  refine sd_vv rfl rfl rfl (vv_fieldAddr fa_28_3 rfl) ?_
  refine sd_vv rfl rfl rfl (vv_fieldAddr fa_26_1 rfl) ?_
  have B4 := (Bx.gr hbp1 Gw1)
  refine sd_vv rfl rfl rfl (vv_load1 (v := wv p1.Group.Q) one_24 rfl B4 rfl) ?_
  refine sd_vv rfl rfl rfl (vv_geqU (c := p0.X) (d := p1.Group.Q) rfl rfl) ?_
  refine sd_split rfl rfl rfl (vv_move rfl) (fun c1 => ?_) (fun c1 => ?_)
  ·
    replace hm := ite_t (of_decide_eq_true c1) hm
    refine sd_skip rfl rfl rfl ?_
    refine sd_skip rfl rfl rfl ?_
    refine sd_skip rfl rfl rfl ?_
    refine sd_skip rfl rfl rfl ?_
    refine sd_skip rfl rfl rfl ?_
    refine sd_skip rfl rfl rfl ?_
    refine sd_vv rfl rfl rfl (vv_pickT rfl rfl) ?_
    refine sd_vv rfl rfl rfl (vv_assign rfl) ?_
    refine sd_done ?_
    refine sw_ret ?_
    have X5 : Gr w w1 := (Gr.trans (Gr.refl w) Gw1)
    have hr := Option.some.inj hm
    subst hr
    refine ⟨_, _, rfl, res_1 rfl (rv_tmp rfl), ?_⟩
    exact ⟨rfl, X5⟩
  ·
    replace hm := ite_f (of_decide_eq_false c1) hm
    refine sd_vv rfl rfl rfl (vv_fieldAddr fa_31_1 rfl) ?_
    refine sd_vv rfl rfl rfl (vv_load1 (v := wv p0.Y) one_24 rfl Bw1 rfl) ?_
    refine sd_vv rfl rfl rfl (vv_fieldAddr fa_28_3 rfl) ?_
    refine sd_vv rfl rfl rfl (vv_fieldAddr fa_26_1 rfl) ?_
    refine sd_vv rfl rfl rfl (vv_load1 (v := wv p1.Group.Q) one_24 rfl B4 rfl) ?_
    refine sd_vv rfl rfl rfl (vv_geqU (c := p0.Y) (d := p1.Group.Q) rfl rfl) ?_
    refine sd_vv rfl rfl rfl (vv_pickF rfl rfl) ?_
    refine sd_vv rfl rfl rfl (vv_assign rfl) ?_
    refine sd_done ?_
    refine sw_ret ?_
    have X6 : Gr w w1 := (Gr.trans (Gr.refl w) Gw1)
    have hr := Option.some.inj hm
    subst hr
    refine ⟨_, _, rfl, res_1 rfl (rv_tmp rfl), ?_⟩
    exact ⟨rfl, X6⟩

set_option maxHeartbeats 2000000 in
theorem slices_IndexFunc_7a5d_poly_Interpolate_1_w (p0 : List TPoint) (p1_0 : TScheme) (vp0 : Value) (zp0 gp0 op0 : Nat) (bp1_0 : Nat) (r : Int) (hm : slices_IndexFunc_7a5d_poly_Interpolate_1 p0 p1_0 = some r) (w : World) (hp0 : Rd w zp0 gp0 op0 2 vp0 (p0.map TPoint.cs)) (hbp1_0 : Bx w bp1_0 28 (TScheme.cs p1_0))  :
    Calls Try.prog 133 [vp0, .func (.func 90) [].toArray [.pointer (some ⟨bp1_0, 0, none⟩)].toArray].toArray w fun e w' => ∃ v, e = .returned v ∧ (v = .int .i64 r ∧ Gr w w') := by
  have lt1 := hp0.lth
  have lt2 := hbp1_0.lt
  unfold slices_IndexFunc_7a5d_poly_Interpolate_1 at hm
  refine calls_of_sw (R := fun v w' => v = .int .i64 r ∧ Gr w w') 19 Try.func133 rfl rfl rfl ?_
  refine sw_seq ?_
  -- region 0 slices.go:107
  refine sw_region [(0, 0)] rfl rfl rfl ?_
  refine sd_vv rfl rfl rfl (vv_assign rfl) ?_
  refine sd_done ?_
  refine sw_seq ?_
  refine sw_seq ?_
  -- region 1 slices.go:108
  refine sw_region [(0, 0), (1, 0), (2, 0)] rfl rfl rfl ?_
  refine sd_vv rfl rfl rfl (vv_move rfl) ?_
  refine sd_vv rfl rfl rfl (vv_lenT (l := p0) (c := TPoint.cs) Try.underlying43 rfl hp0) ?_
  refine sd_vv rfl rfl rfl (vv_move rfl) ?_
  refine sd_done ?_
  refine sw_block ?_
  refine sw_loopD (α := Nat × Int) [4, 5, 8, 9, 10, 11, 12, 13, 14, 15, 16, 17, 18] (fun ⟨n1, a2⟩ => [(4, .int .i64 0), (8, .int .i64 a2)]) (fun ⟨n1, a2⟩ wr => (fixN (slices_IndexFunc_7a5d_poly_Interpolate_1_L1 p0 p1_0) n1 a2 = some r) ∧ Kz [] w wr) (fun ⟨n1, a2⟩ => n1) ⟨FUEL, 0⟩ ?_ ?_ ?_
  · repeat' first | exact trivial | refine ⟨rfl, ?_⟩
  · exact ⟨hm, Kz.refl _ _⟩
  · clear hm; rintro ⟨n1, a2⟩ w1 ⟨hm, Kw1⟩
    have z3 := Kw1.size
    have hb := fix_succ hm; clear hm; obtain ⟨n1, rfl, hm⟩ := hb
    generalize hrec1 : fixN (slices_IndexFunc_7a5d_poly_Interpolate_1_L1 p0 p1_0) n1 = rec1 at hm
    unfold slices_IndexFunc_7a5d_poly_Interpolate_1_L1 at hm
    try dsimp only at hm
    refine sw_seq ?_
    -- region 2 slices.go:108
    refine sw_region [(0, 0)] rfl rfl rfl ?_
    refine sd_vv rfl rfl rfl (vv_lss (a := a2) (b := (p0.length : Int)) rfl rfl) ?_
    refine sd_done ?_
    refine sw_seq ?_
    refine sw_cond rfl (fun c1 => ?_) (fun c1 => ?_)
    ·
      replace hm := ite_t (of_decide_eq_true c1) hm
      refine sw_skip ?_
      refine then_n ?_
      refine sw_seq ?_
      refine sw_block ?_
      refine sw_seq ?_
      -- region 3 slices.go:108
      refine sw_region [(0, 0), (1, 0)] rfl rfl rfl ?_
      refine sd_vv rfl rfl rfl (vv_move rfl) ?_
      refine sd_vv rfl rfl rfl (vv_assign rfl) ?_
      refine sd_done ?_
      refine sw_seq ?_
      -- region 4 slices.go:109
      refine sw_region [(0, 0), (1, 0), (2, 0), (3, 0), (4, 0), (5, 0)] rfl rfl rfl ?_
      refine sd_vv rfl rfl rfl (vv_move rfl) ?_
      refine sd_vv rfl rfl rfl (vv_move rfl) ?_
      refine sd_vv rfl rfl rfl (vv_move rfl) ?_
      have hb := bnd hm; clear hm; obtain ⟨y3, hy3, hm⟩ := hb
      have B4 := (Rd.kz hp0 Kw1)
      refine sd_vv rfl rfl rfl (vv_ixT (i := a2) Try.underlying43 (agg_31).siz rfl B4 rfl hy3) ?_
      refine sd_vv rfl rfl rfl (vv_elWT agg_31 rfl B4 hy3 (by first | rfl | omega)) ?_
      have B5 := (Bx.kz hbp1_0 Kw1)
      have hb := bnd hm; clear hm; obtain ⟨x4, hx4, hm⟩ := hb
      refine sd_ev rfl rfl rfl (ev_callV en_90 rfl rfl (poly_Interpolate_1_w y3 p1_0 _ _ hx4 _ B5)) ?_
      rintro _ w2 ⟨rfl, Gw2⟩
      have z6 := Gw2.size
      refine sd_done ?_
      refine sw_cond rfl (fun c2 => ?_) (fun c2 => ?_)
      ·
        replace hm := cnd_t c2 hm
        refine sw_seq ?_
        -- region 5 slices.go:110
        refine sw_region [(0, 0), (1, 0)] rfl rfl rfl ?_
        refine sd_vv rfl rfl rfl (vv_move rfl) ?_
        refine sd_vv rfl rfl rfl (vv_assign rfl) ?_
        refine sd_done ?_
        refine sw_ret ?_
        refine block_r ?_
        refine then_r ?_
        refine then_r ?_
        refine block_r ?_
        refine then_r ?_
        have X7 : Gr w w2 := (Gr.trans (Gr.kz (Gr.refl w) Kw1) Gw2)
        have hr := Option.some.inj hm
        subst hr
        refine ⟨_, _, rfl, res_1 rfl (rv_tmp rfl), ?_⟩
        exact ⟨rfl, X7⟩
      ·
        replace hm := cnd_f c2 hm
        refine sw_skip ?_
        refine block_n ?_
        refine then_n ?_
        -- region 6 slices.go:108
        refine sw_region [(0, 0), (1, 0)] rfl rfl rfl ?_
        refine sd_vv rfl rfl rfl (vv_add (k := .i64) (a := a2) (b := 1) rfl rfl) ?_
        refine sd_vv rfl rfl rfl (vv_move rfl) ?_
        refine sd_nil ?_
        have K_8 : Kz [] w w2 := (Kz.gr Kw1 Gw2)
        subst hrec1
        refine ⟨rfl, ⟨n1, w64 (a2 + 1)⟩, ?_, ⟨hm, K_8⟩, Nat.lt_succ_self _⟩
        repeat' first | exact trivial | refine ⟨rfl, ?_⟩
    ·
      replace hm := ite_f (of_decide_eq_false c1) hm
      refine sw_exit ?_
      refine then_x ?_
      refine then_x ?_
      refine block_x ?_
      refine then_n ?_
      refine sw_seq ?_
      -- region 7 slices.go:113
      refine sw_region [(0, 0)] rfl rfl rfl ?_
      refine sd_vv rfl rfl rfl (vv_assign rfl) ?_
      refine sd_done ?_
      refine sw_ret ?_
      have X9 : Gr w w1 := (Gr.kz (Gr.refl w) Kw1)
      have hr := Option.some.inj hm
      subst hr
      refine ⟨_, _, rfl, res_1 rfl (rv_tmp rfl), ?_⟩
      exact ⟨rfl, X9⟩

set_option maxHeartbeats 2000000 in
theorem slices_ContainsFunc_9e39_poly_Interpolate_1_w (p0 : List TPoint) (p1_0 : TScheme) (vp0 : Value) (zp0 gp0 op0 : Nat) (bp1_0 : Nat) (r : Bool) (hm : slices_ContainsFunc_9e39_poly_Interpolate_1 p0 p1_0 = some r) (w : World) (hp0 : Rd w zp0 gp0 op0 2 vp0 (p0.map TPoint.cs)) (hbp1_0 : Bx w bp1_0 28 (TScheme.cs p1_0))  :
    Calls Try.prog 89 [vp0, .func (.func 90) [].toArray [.pointer (some ⟨bp1_0, 0, none⟩)].toArray].toArray w fun e w' => ∃ v, e = .returned v ∧ (v = .bool r ∧ Gr w w') := by
  have lt1 := hp0.lth
  have lt2 := hbp1_0.lt
  unfold slices_ContainsFunc_9e39_poly_Interpolate_1 at hm
  refine calls_of_sw (R := fun v w' => v = .bool r ∧ Gr w w') 9 Try.func89 rfl rfl rfl ?_
  refine sw_seq ?_
  -- region 0 slices.go:124
  refine sw_region [(0, 0)] rfl rfl rfl ?_
  refine sd_vv rfl rfl rfl (vv_assign rfl) ?_
  refine sd_done ?_
  refine sw_seq ?_
  -- region 1 slices.go:125
  refine sw_region [(0, 0), (1, 0), (2, 0), (3, 0), (4, 0)] rfl rfl rfl ?_
  refine sd_vv rfl rfl rfl (vv_move rfl) ?_
  refine sd_vv rfl rfl rfl (vv_move rfl) ?_
  have hb := bnd hm; clear hm; obtain ⟨x1, hx1, hm⟩ := hb
  refine sd_ev rfl rfl rfl (ev_call en_133 rfl (slices_IndexFunc_7a5d_poly_Interpolate_1_w p0 p1_0 _ _ _ _ _ _ hx1 _ hp0 hbp1_0)) ?_
  rintro _ w1 ⟨rfl, Gw1⟩
  have z3 := Gw1.size
  refine sd_vv rfl rfl rfl (vv_geq (a := x1) (b := 0) rfl rfl) ?_
  refine sd_vv rfl rfl rfl (vv_assign rfl) ?_
  refine sd_done ?_
  refine sw_ret ?_
  have X4 : Gr w w1 := (Gr.trans (Gr.refl w) Gw1)
  have hr := Option.some.inj hm
  subst hr
  refine ⟨_, _, rfl, res_1 rfl (rv_tmp rfl), ?_⟩
  exact ⟨rfl, X4⟩

set_option maxHeartbeats 2000000 in
theorem slices_Backward_f243_w (p0 : List (BitVec 64)) (vp0 : Value) (zp0 gp0 op0 : Nat) (r : List (BitVec 64)) (hm : slices_Backward_f243 p0 = some r) (w : World) (hp0 : Rd w zp0 gp0 op0 1 vp0 (p0.map uwc))  :
    Calls Try.prog 91 [vp0].toArray w fun e w' => ∃ v, e = .returned v ∧ (∃ (bc0 : Nat) (uc0_s : Value) (zc0_s : Nat) (gc0_s : Nat) (oc0_s : Nat), v = .func (.func 134) #[] [.pointer (some ⟨bc0, 0, none⟩)].toArray ∧ Bx w' bc0 60 ([uc0_s]) ∧ (w.heap.size ≤ bc0) ∧ Rd w' zc0_s gc0_s oc0_s 1 uc0_s (r.map uwc) ∧ Hdn (zc0_s = 0 ∨ (gc0_s = gp0 ∧ zp0 ≠ 0) ∨ w.heap.size ≤ gc0_s) ∧ Gr w w') := by
  have lt1 := hp0.lth
  unfold slices_Backward_f243 at hm
  refine calls_of_sw (R := fun v w' => ∃ (bc0 : Nat) (uc0_s : Value) (zc0_s : Nat) (gc0_s : Nat) (oc0_s : Nat), v = .func (.func 134) #[] [.pointer (some ⟨bc0, 0, none⟩)].toArray ∧ Bx w' bc0 60 ([uc0_s]) ∧ (w.heap.size ≤ bc0) ∧ Rd w' zc0_s gc0_s oc0_s 1 uc0_s (r.map uwc) ∧ Hdn (zc0_s = 0 ∨ (gc0_s = gp0 ∧ zp0 ≠ 0) ∨ w.heap.size ≤ gc0_s) ∧ Gr w w') 4 Try.func91 rfl rfl rfl ?_
  refine sw_seq ?_
  -- region 0 iter.go:26
  refine sw_region [(0, 0), (1, 0)] rfl rfl rfl ?_
  refine sd_ev rfl rfl rfl (ev_box (cs := [vp0]) rfl (cells1 (Rd.oneB hp0))) ?_
  rintro _ w1 ⟨b1, rfl, hbw1, Bw1, Gw1⟩
  have z2 := Gw1.size
  have lt3 := Bw1.lt
  refine sd_vv rfl rfl rfl (vv_assign rfl) ?_
  refine sd_done ?_
  refine sw_seq ?_
  -- region 1 iter.go:27
  refine sw_region [(0, 0), (1, 0)] rfl rfl rfl ?_
  refine sd_vv rfl rfl rfl (vv_makeFunc rfl rfl) ?_
  refine sd_vv rfl rfl rfl (vv_assign rfl) ?_
  refine sd_done ?_
  refine sw_ret ?_
  have B4 := (Rd.gr hp0 Gw1)
  have X5 : Gr w w1 := (Gr.trans (Gr.refl w) Gw1)
  have hr := Option.some.inj hm
  subst hr
  refine ⟨_, _, rfl, res_1 rfl (rv_tmp rfl), ?_⟩
  exact ⟨b1, vp0, zp0, gp0, op0, rfl, Bw1, by omega, B4, ⟨tk0⟩, X5⟩

set_option maxHeartbeats 2000000 in
theorem slices_Backward_1_c271_it (p1 : List (BitVec 64)) (bp1 : Nat) (vp1_0 : Value) (zp1_0 gp1_0 op1_0 : Nat) (xs : List (Int × BitVec 64)) (hm : slices_Backward_1_c271 p1 = some xs) (w0 : World) (hbp1 : Bx w0 bp1 60 ([vp1_0])) (hp1_0 : Rd w0 zp1_0 gp1_0 op1_0 1 vp1_0 (p1.map uwc)) :
    IT Try.prog 134 [.pointer (some ⟨bp1, 0, none⟩)] (xs.map (fun (x : Int × BitVec 64) => ([.int .i64 x.1, wv x.2] : List Value))) (zf zp1_0 gp1_0 ++ [bp1]) w0 := by
  intro l J Jx w fp hG hJ hJx hcap h0 hY
  have c1 := Rd.gr hp1_0 hG
  have lt2 := c1.lth
  have nb3 : zp1_0 = 0 ∨ gp1_0 ∉ fp := by by_cases hz : zp1_0 = 0; exact .inl hz; exact .inr (hcap _ (by simp [mem_zf, hz]))
  have c4 := Bx.gr hbp1 hG
  have lt5 := c4.lt
  have nb6 : bp1 ∉ fp := hcap _ (by simp)
  have hd := dr_0 xs
  unfold slices_Backward_1_c271 at hm
  refine calls_of_sw (R := fun v w' => Kp fp w w' ∧ ((∃ fp', (∀ c ∈ fp', c ∈ fp ∨ w.heap.size ≤ c) ∧ J (xs.map (fun (x : Int × BitVec 64) => ([.int .i64 x.1, wv x.2] : List Value))).length fp' w') ∨ (∃ j fp', (∀ c ∈ fp', c ∈ fp ∨ w.heap.size ≤ c) ∧ j ≤ (xs.map (fun (x : Int × BitVec 64) => ([.int .i64 x.1, wv x.2] : List Value))).length ∧ Jx j fp' w'))) 19 Try.func134 rfl rfl rfl ?_
  refine sw_seq ?_
  -- region 0 iter.go:28
  refine sw_region [(0, 0), (1, 0), (2, 0), (3, 0)] rfl rfl rfl ?_
  refine sd_vv rfl rfl rfl (vv_load1 (v := vp1_0) one_60 rfl c4 rfl) ?_
  refine sd_vv rfl rfl rfl (vv_lenT (l := p1) (c := uwc) Try.underlying60 rfl c1) ?_
  refine sd_vv rfl rfl rfl (vv_sub (k := .i64) (a := (p1.length : Int)) (b := 1) rfl rfl) ?_
  refine sd_vv rfl rfl rfl (vv_assign rfl) ?_
  refine sd_done ?_
  refine sw_block ?_
  refine sw_loopD (α := Nat × Int × Nat × List Nat × List (Int × BitVec 64)) [3, 7, 8, 9, 10, 11, 12, 13, 14, 15, 16, 17, 18] (fun ⟨n1, a2, kk, fpl, rl⟩ => [(3, .int .i64 a2)]) (fun ⟨n1, a2, kk, fpl, rl⟩ wr => (fixN (slices_Backward_1_c271_L1 p1) n1 a2 = some rl) ∧ Dr xs kk rl ∧ J kk fpl wr ∧ (∀ c ∈ fpl, c ∈ fp ∨ w.heap.size ≤ c) ∧ Kp fp w wr ∧ Rd wr zp1_0 gp1_0 op1_0 1 vp1_0 (p1.map uwc) ∧ Bx wr bp1 60 ([vp1_0]) ∧ (zp1_0 = 0 ∨ gp1_0 ∉ fpl) ∧ bp1 ∉ fpl ∧ True) (fun ⟨n1, a2, kk, fpl, rl⟩ => n1) ⟨FUEL, w64 ((p1.length : Int) - 1), 0, fp, xs⟩ ?_ ?_ ?_
  · repeat' first | exact trivial | refine ⟨rfl, ?_⟩
  · exact ⟨hm, hd, h0, (fun c hc => Or.inl hc), (Kp.refl fp w), c1, c4, nb3, nb6, trivial⟩
  · clear hm; rintro ⟨n1, a2, kk1, fpl1, rl1⟩ w1 ⟨hm, dl1, JLw1, sl1, KLw1, Sw1_0, Sw1_1, Nw1_0, Nw1_1, -⟩
    have z7 := KLw1.size
    have lt8 := Sw1_0.lth
    have lt9 := Sw1_1.lt
    have hb := fix_succ hm; clear hm; obtain ⟨n1, rfl, hm⟩ := hb
    generalize hrec1 : fixN (slices_Backward_1_c271_L1 p1) n1 = rec1 at hm
    unfold slices_Backward_1_c271_L1 at hm
    try dsimp only at hm
    refine sw_seq ?_
    refine sw_seq ?_
    -- region 1 iter.go:28
    refine sw_region [(0, 0), (1, 0)] rfl rfl rfl ?_
    refine sd_vv rfl rfl rfl (vv_move rfl) ?_
    refine sd_vv rfl rfl rfl (vv_geq (a := a2) (b := 0) rfl rfl) ?_
    refine sd_done ?_
    refine sw_cond rfl (fun c1 => ?_) (fun c1 => ?_)
    ·
      replace hm := ite_t (of_decide_eq_true c1) hm
      refine sw_skip ?_
      refine then_n ?_
      refine sw_seq ?_
      refine sw_block ?_
      refine sw_seq ?_
      -- region 3 iter.go:29
      refine sw_region [(0, 0), (1, 0), (2, 0), (3, 0), (4, 0), (5, 0), (6, 0), (7, 0)] rfl rfl rfl ?_
      refine sd_vv rfl rfl rfl (vv_move rfl) ?_
      refine sd_vv rfl rfl rfl (vv_move rfl) ?_
      refine sd_vv rfl rfl rfl (vv_load1 (v := vp1_0) one_60 rfl Sw1_1 rfl) ?_
      refine sd_vv rfl rfl rfl (vv_move rfl) ?_
      have hb := bnd hm; clear hm; obtain ⟨y3, hy3, hm⟩ := hb
      refine sd_vv rfl rfl rfl (vv_ixT (i := a2) Try.underlying60 (one_24).siz rfl Sw1_0 rfl hy3) ?_
      refine sd_vv rfl rfl rfl (vv_el1T (q := 0) (u := wv y3) one_24 rfl Sw1_0 hy3 (by first | rfl | omega) rfl) ?_
      obtain ⟨rr10, hm, he10⟩ := yl_some hm
      have hx10 := Dr.at dl1 he10
      have hd10 := Dr.next dl1 he10
      refine sd_ev rfl rfl rfl (ev_yield rfl rfl (hY _ _ _ _ (getm hx10) JLw1 KLw1 sl1)) ?_
      rintro _ w2 ⟨bb, rfl, KF10, fp10, hg10, hJb⟩
      have z11 := KF10.size
      have sub10 : ∀ c ∈ fp10, c ∈ fp ∨ w.heap.size ≤ c := sub_grow sl1 hg10 (by omega)
      have nb12 := notin_growz hg10 Nw1_0 (by have := lt8.o; omega)
      have nb13 := notin_grow hg10 Nw1_1 (by omega)
      cases bb
      ·
        have Jy10 : Jx (kk1 + 1) fp10 w2 := hJb
        refine sd_vv rfl rfl rfl (vv_not rfl) ?_
        refine sd_done ?_
        refine sw_condT rfl ?_
        refine sw_ret ?_
        refine block_r ?_
        refine then_r ?_
        refine then_r ?_
        refine block_r ?_
        have KI14 : Kp fp w w2 := (Kp.trans KLw1 KF10 sl1)
        exact ⟨_, _, rfl, res_none rfl, KI14, .inr ⟨_, _, sub10, (by rw [List.length_map]; exact (List.getElem?_eq_some_iff.1 hx10).1), Jy10⟩⟩
      ·
        have Jy10 : J (kk1 + 1) fp10 w2 := hJb
        refine sd_vv rfl rfl rfl (vv_not rfl) ?_
        refine sd_done ?_
        refine sw_condF rfl ?_
        refine sw_skip ?_
        refine block_n ?_
        refine then_n ?_
        -- region 2 iter.go:28
        refine sw_region [(0, 0), (1, 0), (2, 0)] rfl rfl rfl ?_
        refine sd_vv rfl rfl rfl (vv_move rfl) ?_
        refine sd_vv rfl rfl rfl (vv_sub (k := .i64) (a := a2) (b := 1) rfl rfl) ?_
        refine sd_vv rfl rfl rfl (vv_assign rfl) ?_
        refine sd_nil ?_
        have KI15 : Kp fp w w2 := (Kp.trans KLw1 KF10 sl1)
        have B16 := (Rd.kp Sw1_0 KF10 Nw1_0)
        have B17 := (Bx.kp Sw1_1 KF10 Nw1_1)
        subst hrec1
        refine ⟨rfl, ⟨n1, w64 (a2 - 1), (kk1 + 1), fp10, rr10⟩, ?_, ⟨hm, hd10, Jy10, sub10, KI15, B16, B17, nb12, nb13, trivial⟩, Nat.lt_succ_self _⟩
        repeat' first | exact trivial | refine ⟨rfl, ?_⟩
    ·
      replace hm := ite_f (of_decide_eq_false c1) hm
      refine sw_exit ?_
      refine then_x ?_
      refine then_x ?_
      refine block_x ?_
      have he := Option.some.inj hm
      have hl := Dr.last (c := (fun (x : Int × BitVec 64) => ([.int .i64 x.1, wv x.2] : List Value))) dl1 he.symm
      refine ⟨_, _, rfl, res_none rfl, KLw1, .inl ⟨_, sl1, ?_⟩⟩
      rw [← hl]; exact JLw1

set_option maxHeartbeats 2000000 in
theorem poly_Interpolate_w (p0 : TScheme) (p1 : List TPoint) (vp1 : Value) (zp1 gp1 op1 : Nat) (r : List (BitVec 64) × Int) (hm : poly_Interpolate p0 p1 = some r) (w : World) (hp1 : Rd w zp1 gp1 op1 2 vp1 (p1.map TPoint.cs))  :
    Calls Try.prog 36 [.agg (TScheme.cs p0).toArray, vp1].toArray w fun e w' => ∃ v, e = .returned v ∧ (∃ (ur0_s : Value) (zr0_s : Nat) (gr0_s : Nat), v = .tuple [ur0_s, .int .i64 r.2].toArray ∧ Own w' zr0_s gr0_s 24 1 ur0_s (r.1.map uwc) ∧ Hdn (zr0_s = 0 ∨ w.heap.size ≤ gr0_s) ∧ Gr w w') := by
  have lt1 := hp1.lth
  unfold poly_Interpolate at hm
  refine calls_of_sw (R := fun v w' => ∃ (ur0_s : Value) (zr0_s : Nat) (gr0_s : Nat), v = .tuple [ur0_s, .int .i64 r.2].toArray ∧ Own w' zr0_s gr0_s 24 1 ur0_s (r.1.map uwc) ∧ Hdn (zr0_s = 0 ∨ w.heap.size ≤ gr0_s) ∧ Gr w w') 151 Try.func36 rfl rfl rfl ?_
  refine sw_seq ?_
  -- region 0 poly.go:98
  refine sw_region [(0, 0), (1, 0), (2, 0), (3, 0)] rfl rfl rfl ?_
  refine sd_ev rfl rfl rfl (ev_box (cs := TScheme.cs p0) rfl rfl) ?_
  rintro _ w1 ⟨b1, rfl, hbw1, Bw1, Gw1⟩
  have z2 := Gw1.size
  have lt3 := Bw1.lt
  have B4 := (Rd.gr hp1 Gw1)
  refine sd_ev rfl rfl rfl (ev_box (cs := [vp1]) rfl (cells1 (Rd.oneB B4))) ?_
  rintro _ w2 ⟨b2, rfl, hbw2, Bw2, Gw2⟩
  have z5 := Gw2.size
  have lt6 := Bw2.lt
  refine sd_vv rfl rfl rfl (vv_assign rfl) ?_
  refine sd_vv rfl rfl rfl (vv_assign rfl) ?_
  refine sd_done ?_
  refine sw_seq ?_
  refine sw_seq ?_
  -- region 1 poly.go:99
  refine sw_region [(0, 0), (1, 0), (2, 0)] rfl rfl rfl ?_
  have B7 := (Bx.gr Bw1 Gw2)
  refine sd_vv rfl rfl rfl (vv_loadW agg_28 rfl B7 rfl) ?_
  have hb := bnd hm; clear hm; obtain ⟨x1, hx1, hm⟩ := hb
  refine sd_ev rfl rfl rfl (ev_call en_63 rfl (poly_valid_w p0 _ hx1 _)) ?_
  rintro _ w3 ⟨rfl, Gw3⟩
  have z8 := Gw3.size
  refine sd_vv rfl rfl rfl (vv_not rfl) ?_
  refine sd_done ?_
  refine sw_cond rfl (fun c1 => ?_) (fun c1 => ?_)
  ·
    replace hm := cnd_t c1 hm
    refine sw_seq ?_
    -- region 2 poly.go:100
    refine sw_region [(0, 0), (1, 0)] rfl rfl rfl ?_
    refine sd_vv rfl rfl rfl (vv_assign rfl) ?_
    refine sd_vv rfl rfl rfl (vv_assign rfl) ?_
    refine sd_done ?_
    refine sw_ret ?_
    refine then_r ?_
    have X9 : Gr w w3 := (Gr.trans (Gr.trans (Gr.trans (Gr.refl w) Gw1) Gw2) Gw3)
    have hr := Option.some.inj hm
    subst hr
    refine ⟨_, _, rfl, res_2 rfl (rv_tmp rfl) (rv_tmp rfl), ?_⟩
    exact ⟨(.slice none 0 0), 0, 0, rfl, (own_nil _ 0 24 1), ⟨.inl rfl⟩, X9⟩
  ·
    replace hm := cnd_f c1 hm
    refine sw_skip ?_
    refine then_n ?_
    refine sw_seq ?_
    -- region 3 poly.go:102
    refine sw_region [(0, 0), (1, 0), (2, 0), (3, 0), (4, 0)] rfl rfl rfl ?_
    refine sd_vv rfl rfl rfl (vv_fieldAddr fa_28_3 rfl) ?_
    refine sd_vv rfl rfl rfl (vv_fieldAddr fa_26_1 rfl) ?_
    have B10 := (Bx.gr B7 Gw3)
    refine sd_vv rfl rfl rfl (vv_load1 (v := wv p0.Group.Q) one_24 rfl B10 rfl) ?_
    refine sd_ev rfl rfl rfl (ev_alloc (cs := [wv 0#64]) zv_119 rfl) ?_
    rintro _ w4 ⟨b4, rfl, hbw4, Bw4, Gw4⟩
    have z11 := Gw4.size
    have lt12 := Bw4.lt
    refine sd_ev rfl rfl rfl (ev_st1 (cs' := [wv p0.Group.Q]) (one_119).siz rfl rfl rfl Bw4 rfl rfl) ?_
    rintro _ w5 ⟨Bw5, Mw5⟩
    have z13 := Mw5.size
    refine sd_done ?_
    refine sw_seq ?_
    have X14 : Gr w w5 := (Gr.md (Gr.trans (Gr.trans (Gr.trans (Gr.trans (Gr.refl w) Gw1) Gw2) Gw3) Gw4) Mw5)
    refine sw_joinD (β := Bool) [22, 23, 24, 25, 26, 27, 28, 29, 30, 31, 32, 33, 34, 35, 36, 37] (fun a2 => [(37, .bool a2)]) (fun a2 wr => (poly_Interpolate_J1 p0 p1 a2 = some r) ∧ Kz [] w5 wr) ?_ ?_
    · clear hm; rintro a2 w6 ⟨hm, Kw6⟩
      have z15 := Kw6.size
      unfold poly_Interpolate_J1 at hm
      refine sw_cond rfl (fun c2 => ?_) (fun c2 => ?_)
      ·
        replace hm := cnd_t c2 hm
        refine sw_seq ?_
        -- region 5 poly.go:104
        refine sw_region [(0, 0), (1, 0)] rfl rfl rfl ?_
        refine sd_vv rfl rfl rfl (vv_assign rfl) ?_
        refine sd_vv rfl rfl rfl (vv_assign rfl) ?_
        refine sd_done ?_
        refine sw_ret ?_
        refine then_r ?_
        have X16 : Gr w w6 := (Gr.kz X14 Kw6)
        have hr := Option.some.inj hm
        subst hr
        refine ⟨_, _, rfl, res_2 rfl (rv_tmp rfl) (rv_tmp rfl), ?_⟩
        exact ⟨(.slice none 0 0), 0, 0, rfl, (own_nil _ 0 24 1), ⟨.inl rfl⟩, X16⟩
      ·
        replace hm := cnd_f c2 hm
        refine sw_skip ?_
        refine then_n ?_
        refine sw_seq ?_
        -- region 6 poly.go:107
        refine sw_region [(0, 0), (1, 0), (2, 0), (3, 0)] rfl rfl rfl ?_
        have B17 := (Bx.kz (Bx.md (Bx.gr (Bx.gr Bw2 Gw3) Gw4) Mw5) Kw6)
        refine sd_vv rfl rfl rfl (vv_load1 (v := vp1) one_43 rfl B17 rfl) ?_
        have B18 := (Rd.kz (Rd.md (Rd.gr (Rd.gr (Rd.gr B4 Gw2) Gw3) Gw4) Mw5 (tk1 ((pv_lt (A := (fun x => x ≠ b4)) lt1) : zp1 = 0 ∨ gp1 ≠ b4))) Kw6)
        refine sd_vv rfl rfl rfl (vv_lenT (l := p1) (c := TPoint.cs) Try.underlying43 rfl B18) ?_
        have hb := bnd hm; clear hm; obtain ⟨l3, hl3, hm⟩ := hb
        refine sd_ev rfl rfl rfl (ev_mkT (c := uwc) (a := 0#64) apt_60 zv_24 rfl ⟨rfl, rfl⟩ rfl hl3 (by decide)) ?_
        rintro vw7 w7 ⟨gw7, hbw7, Ow7, Gw7⟩
        have z19 := Gw7.size
        have lt20 := Ow7.lth
        refine sd_vv rfl rfl rfl (vv_assign rfl) ?_
        refine sd_done ?_
        refine sw_seq ?_
        refine sw_seq ?_
        -- region 7 poly.go:108
        refine sw_region [(0, 0), (1, 0), (2, 0)] rfl rfl rfl ?_
        have B21 := (Bx.gr B17 Gw7)
        refine sd_vv rfl rfl rfl (vv_load1 (v := vp1) one_43 rfl B21 rfl) ?_
        have B22 := (Rd.gr B18 Gw7)
        refine sd_vv rfl rfl rfl (vv_lenT (l := p1) (c := TPoint.cs) Try.underlying43 rfl B22) ?_
        refine sd_vv rfl rfl rfl (vv_move rfl) ?_
        refine sd_done ?_
        refine sw_block ?_
        have X23 : Gr w w7 := (Gr.trans (Gr.kz X14 Kw6) Gw7)
        refine sw_loopD (α := Nat × List (BitVec 64) × Int × Value × Nat × Nat) [7, 8, 9, 43, 44, 45, 46, 47, 48, 49, 50, 51, 52, 53] (fun ⟨n2, a7, a9, vy8, zy8, gy8⟩ => [(7, vy8), (43, .int .i64 a9)]) (fun ⟨n2, a7, a9, vy8, zy8, gy8⟩ wr => (fixN (poly_Interpolate_L2 p0 p1) n2 (a7, a9) = some r) ∧ Own wr zy8 gy8 24 1 vy8 (a7.map uwc) ∧ Hdn (zy8 = 0 ∨ (gy8 = gw7 ∧ 1 ≠ 0) ∨ w7.heap.size ≤ gy8) ∧ Kz [(1, gw7)] w7 wr) (fun ⟨n2, a7, a9, vy8, zy8, gy8⟩ => n2) ⟨FUEL, l3, 0, vw7, 1, gw7⟩ ?_ ?_ ?_
        · repeat' first | exact trivial | refine ⟨rfl, ?_⟩
        · exact ⟨hm, Ow7, ⟨tk0⟩, Kz.refl _ _⟩
        · clear hm; rintro ⟨n2, a7, a9, vy8, zy8, gy8⟩ w8 ⟨hm, Fw8_0, Fw8_1, Kw8⟩
          have z24 := Kw8.size
          have lt25 := Fw8_0.lth
          have hb := fix_succ hm; clear hm; obtain ⟨n2, rfl, hm⟩ := hb
          generalize hrec2 : fixN (poly_Interpolate_L2 p0 p1) n2 = rec2 at hm
          unfold poly_Interpolate_L2 at hm
          try dsimp only at hm
          refine sw_seq ?_
          -- region 8 poly.go:108
          refine sw_region [(0, 0)] rfl rfl rfl ?_
          refine sd_vv rfl rfl rfl (vv_lss (a := a9) (b := (p1.length : Int)) rfl rfl) ?_
          refine sd_done ?_
          refine sw_seq ?_
          refine sw_cond rfl (fun c3 => ?_) (fun c3 => ?_)
          ·
            replace hm := ite_t (of_decide_eq_true c3) hm
            refine sw_skip ?_
            refine then_n ?_
            refine sw_seq ?_
            refine sw_block ?_
            refine sw_seq ?_
            -- region 9 poly.go:108
            refine sw_region [(0, 0), (1, 0), (2, 0), (3, 0), (4, 0), (5, 0)] rfl rfl rfl ?_
            refine sd_vv rfl rfl rfl (vv_move rfl) ?_
            have hb := bnd hm; clear hm; obtain ⟨y10, hy10, hm⟩ := hb
            have B26 := (Rd.kz B22 Kw8 (tk1 ((pv_sw (.inr (tk1 lt1.o))) : zp1 = 0 ∨ 1 = 0 ∨ gp1 ≠ gw7)))
            refine sd_vv rfl rfl rfl (vv_ixT (i := a9) Try.underlying43 (agg_31).siz rfl B26 rfl hy10) ?_
            refine sd_vv rfl rfl rfl (vv_elWT agg_31 rfl B26 hy10 (by first | rfl | omega)) ?_
            refine sd_ev rfl rfl rfl (ev_alloc (cs := TPoint.cs (TPoint.mk 0#64 0#64)) zv_31 rfl) ?_
            rintro _ w9 ⟨b9, rfl, hbw9, Bw9, Gw9⟩
            have z27 := Gw9.size
            have lt28 := Bw9.lt
            refine sd_vv rfl rfl rfl (vv_assign rfl) ?_
            refine sd_ev rfl rfl rfl (ev_stM (cs' := TPoint.cs y10) (vs := TPoint.cs y10) (agg_31).siz rfl rfl rfl rfl rfl Bw9 rfl rfl) ?_
            rintro _ w10 ⟨Bw10, Mw10⟩
            have z29 := Mw10.size
            refine sd_done ?_
            -- region 10 poly.go:109
            refine sw_region [(0, 0), (1, 0), (2, 0), (3, 0), (4, 0), (5, 0)] rfl rfl rfl ?_
            refine sd_vv rfl rfl rfl (vv_move rfl) ?_
            refine sd_vv rfl rfl rfl (vv_move rfl) ?_
            refine sd_vv rfl rfl rfl (vv_fieldAddr fa_31_1 rfl) ?_
            refine sd_vv rfl rfl rfl (vv_load1 (v := wv y10.Y) one_24 rfl Bw10 rfl) ?_
            have hb := bnd hm; clear hm; obtain ⟨y11, hy11, hm⟩ := hb
            have B30 := (Own.md (Own.gr Fw8_0 Gw9) Mw10 (tk1 ((pv_lt (A := (fun x => x ≠ b9)) lt25) : zy8 = 0 ∨ gy8 ≠ b9)))
            refine sd_vv rfl rfl rfl (vv_ixT (i := a9) Try.underlying60 (one_24).siz rfl (Own.rd B30) rfl hy11) ?_
            have zo31 := Own.z1 B30 hy11
            refine sd_ev rfl rfl rfl (ev_stEl (i := a9) (q := 0) (a' := y10.Y) (vs := [wv y10.Y]) (c := uwc) (one_24).siz rfl rfl rfl rfl rfl B30 hy11 (by first | rfl | omega) rfl rfl ⟨rfl, rfl⟩) ?_
            rintro _ w11 ⟨Ow11, Mw11⟩
            have z32 := Mw11.size
            refine sd_nil ?_
            refine block_n ?_
            refine then_n ?_
            -- region 11 poly.go:108
            refine sw_region [(0, 0), (1, 0)] rfl rfl rfl ?_
            refine sd_vv rfl rfl rfl (vv_add (k := .i64) (a := a9) (b := 1) rfl rfl) ?_
            refine sd_vv rfl rfl rfl (vv_move rfl) ?_
            refine sd_nil ?_
            have K_33 : Kz [(1, gw7)] w7 w11 := (Kz.md (Kz.md (Kz.gr Kw8 Gw9) Mw10) Mw11 (tk1 ((pv_1 (A := (fun x => (x = gw7 ∧ 1 ≠ 0) ∨ w7.heap.size ≤ x)) Fw8_1 tk0) : zy8 = 0 ∨ (gy8 = gw7 ∧ 1 ≠ 0) ∨ w7.heap.size ≤ gy8)))
            subst hrec2
            refine ⟨rfl, ⟨n2, a7.set a9.toNat y10.Y, w64 (a9 + 1), vy8, zy8, gy8⟩, ?_, ⟨hm, Ow11, ⟨(pv_1 (A := (fun x => (x = gw7 ∧ 1 ≠ 0) ∨ w7.heap.size ≤ x)) Fw8_1 tk0)⟩, K_33⟩, Nat.lt_succ_self _⟩
            repeat' first | exact trivial | refine ⟨rfl, ?_⟩
          ·
            replace hm := ite_f (of_decide_eq_false c3) hm
            refine sw_exit ?_
            refine then_x ?_
            refine then_x ?_
            refine block_x ?_
            refine then_n ?_
            refine sw_seq ?_
            refine sw_seq ?_
            -- region 12 poly.go:111
            refine sw_region [(0, 0)] rfl rfl rfl ?_
            refine sd_vv rfl rfl rfl (vv_assign rfl) ?_
            refine sd_done ?_
            refine sw_block ?_
            have X34 : Gr w w8 := (Gr.kz X23 Kw8 (tk1 ((.inr tk0) : 1 = 0 ∨ w.heap.size ≤ gw7)))
            have B35 := (Rd.kz B22 Kw8 (tk1 ((pv_sw (.inr (tk1 lt1.o))) : zp1 = 0 ∨ 1 = 0 ∨ gp1 ≠ gw7)))
            refine sw_loopD (α := Nat × List (BitVec 64) × Int × Value × Nat × Nat) [7, 10, 11, 54, 55, 56, 57, 58, 59, 60, 61, 62, 63, 64, 65, 66, 67, 68, 69, 70, 71, 72, 73, 74, 75, 76, 77, 78, 79, 80, 81, 82, 83, 84, 85, 86, 87, 88, 89, 90, 91, 92, 93, 94, 95, 96, 97] (fun ⟨n3, a15, a17, vy16, zy16, gy16⟩ => [(7, vy16), (10, .int .i64 a17)]) (fun ⟨n3, a15, a17, vy16, zy16, gy16⟩ wr => (fixN (poly_Interpolate_L3 p0 p1) n3 (a15, a17) = some r) ∧ Own wr zy16 gy16 24 1 vy16 (a15.map uwc) ∧ Hdn (zy16 = 0 ∨ (gy16 = gy8 ∧ zy8 ≠ 0) ∨ w8.heap.size ≤ gy16) ∧ Kz [(zy8, gy8)] w8 wr) (fun ⟨n3, a15, a17, vy16, zy16, gy16⟩ => n3) ⟨FUEL, a7, 1, vy8, zy8, gy8⟩ ?_ ?_ ?_
            · repeat' first | exact trivial | refine ⟨rfl, ?_⟩
            · exact ⟨hm, Fw8_0, ⟨tk0⟩, Kz.refl _ _⟩
            · clear hm; rintro ⟨n3, a15, a17, vy16, zy16, gy16⟩ w12 ⟨hm, Fw12_0, Fw12_1, Kw12⟩
              have z36 := Kw12.size
              have lt37 := Fw12_0.lth
              have hb := fix_succ hm; clear hm; obtain ⟨n3, rfl, hm⟩ := hb
              generalize hrec3 : fixN (poly_Interpolate_L3 p0 p1) n3 = rec3 at hm
              unfold poly_Interpolate_L3 at hm
              try dsimp only at hm
              refine sw_seq ?_
              refine sw_seq ?_
              -- region 13 poly.go:111
              refine sw_region [(0, 0), (1, 0), (2, 0), (3, 0)] rfl rfl rfl ?_
              refine sd_vv rfl rfl rfl (vv_move rfl) ?_
              refine sd_vv rfl rfl rfl (vv_move rfl) ?_
              refine sd_vv rfl rfl rfl (vv_lenT (l := a15) (c := uwc) Try.underlying60 rfl (Own.rd Fw12_0)) ?_
              refine sd_vv rfl rfl rfl (vv_lss (a := a17) (b := (a15.length : Int)) rfl rfl) ?_
              refine sd_done ?_
              refine sw_cond rfl (fun c4 => ?_) (fun c4 => ?_)
              ·
                replace hm := ite_t (of_decide_eq_true c4) hm
                refine sw_skip ?_
                refine then_n ?_
                refine sw_seq ?_
                refine sw_block ?_
                refine sw_seq ?_
                -- region 15 poly.go:112
                refine sw_region [(0, 0), (1, 0), (2, 0), (3, 0)] rfl rfl rfl ?_
                refine sd_vv rfl rfl rfl (vv_move rfl) ?_
                refine sd_vv rfl rfl rfl (vv_lenT (l := a15) (c := uwc) Try.underlying60 rfl (Own.rd Fw12_0)) ?_
                refine sd_vv rfl rfl rfl (vv_sub (k := .i64) (a := (a15.length : Int)) (b := 1) rfl rfl) ?_
                refine sd_vv rfl rfl rfl (vv_assign rfl) ?_
                refine sd_done ?_
                refine sw_block ?_
                have X38 : Gr w w12 := (Gr.kz X34 Kw12 (tk1 ((pv_1 (A := (fun x => w.heap.size ≤ x)) Fw8_1 (.inr tk0)) : zy8 = 0 ∨ w.heap.size ≤ gy8)))
                have B39 := (Rd.kz B35 Kw12 (tk1 ((pv_sw (pv_1 (A := (fun x => zp1 = 0 ∨ x ≠ gp1)) Fw8_1 (.inr (tk1 lt1.o)) (fun x hx => (tk1 lt1.o)))) : zp1 = 0 ∨ zy8 = 0 ∨ gp1 ≠ gy8)))
                refine sw_loopD (α := Nat × List (BitVec 64) × Int × Value × Nat × Nat) [7, 11, 63, 64, 65, 66, 67, 68, 69, 70, 71, 72, 73, 74, 75, 76, 77, 78, 79, 80, 81, 82, 83, 84, 85, 86, 87, 88, 89, 90, 91, 92, 93, 94, 95, 96, 97] (fun ⟨n4, a21, a23, vy22, zy22, gy22⟩ => [(7, vy22), (11, .int .i64 a23)]) (fun ⟨n4, a21, a23, vy22, zy22, gy22⟩ wr => (fixN (poly_Interpolate_L4 p0 p1 a17 rec3) n4 (a21, a23) = some r) ∧ Own wr zy22 gy22 24 1 vy22 (a21.map uwc) ∧ Hdn (zy22 = 0 ∨ (gy22 = gy16 ∧ zy16 ≠ 0) ∨ w12.heap.size ≤ gy22) ∧ Kz [(zy16, gy16)] w12 wr) (fun ⟨n4, a21, a23, vy22, zy22, gy22⟩ => n4) ⟨FUEL, a15, w64 ((a15.length : Int) - 1), vy16, zy16, gy16⟩ ?_ ?_ ?_
                · repeat' first | exact trivial | refine ⟨rfl, ?_⟩
                · exact ⟨hm, Fw12_0, ⟨tk0⟩, Kz.refl _ _⟩
                · clear hm; rintro ⟨n4, a21, a23, vy22, zy22, gy22⟩ w13 ⟨hm, Fw13_0, Fw13_1, Kw13⟩
                  have z40 := Kw13.size
                  have lt41 := Fw13_0.lth
                  have hb := fix_succ hm; clear hm; obtain ⟨n4, rfl, hm⟩ := hb
                  generalize hrec4 : fixN (poly_Interpolate_L4 p0 p1 a17 rec3) n4 = rec4 at hm
                  unfold poly_Interpolate_L4 at hm
                  try dsimp only at hm
                  refine sw_seq ?_
                  refine sw_seq ?_
                  -- region 16 poly.go:112
                  refine sw_region [(0, 0), (1, 0), (2, 0)] rfl rfl rfl ?_
                  refine sd_vv rfl rfl rfl (vv_move rfl) ?_
                  refine sd_vv rfl rfl rfl (vv_move rfl) ?_
                  refine sd_vv rfl rfl rfl (vv_geq (a := a23) (b := a17) rfl rfl) ?_
                  refine sd_done ?_
                  refine sw_cond rfl (fun c5 => ?_) (fun c5 => ?_)
                  ·
                    replace hm := ite_t (of_decide_eq_true c5) hm
                    refine sw_skip ?_
                    refine then_n ?_
                    refine sw_seq ?_
                    refine sw_block ?_
                    -- region 18 poly.go:113 DRAWS
                    refine sw_drawN [([] ++ zf zy22 gy22), ([])] [(30, [1])] (.leaf [(0, 10), (1, 10), (2, 10), (3, 10), (4, 10), (5, 10), (6, 11), (7, 11), (8, 10), (9, 10), (10, 10), (11, 11), (12, 11), (14, 10), (15, 10), (16, 10), (17, 10), (18, 10), (19, 10), (20, 10), (21, 10), (22, 10), (23, 10), (24, 10), (25, 10), (26, 10), (13, 0), (27, 0), (28, 0), (29, 11), (30, 0)]) (by kernel_rfl) (by kernel_rfl) rfl (by kernel_rfl) ?_
                    intro w14 Gw14 zw14
                    refine sdz_leaf ?_
                    refine dd_hn 0 rfl rfl rfl rfl (Kp.refl ([] ++ zf zy22 gy22) w14) (fun w hS => vv_move rfl) ?_
                    refine dd_hn 0 rfl rfl rfl rfl (Kp.refl ([] ++ zf zy22 gy22) w14) (fun w hS => vv_move rfl) ?_
                    have B42 := (Bx.gr (Bx.kz (Bx.kz (Bx.kz (Bx.gr (Bx.kz Bw5 Kw6) Gw7) Kw8 (tk1 ((.inr tk0) : 1 = 0 ∨ gw7 ≠ b4))) Kw12 (tk1 ((pv_1 (A := (fun x => x ≠ b4)) Fw8_1 (.inr tk0)) : zy8 = 0 ∨ gy8 ≠ b4))) Kw13 (tk1 ((pv_1 (A := (fun x => x ≠ b4)) Fw12_1 (pv_1 (A := (fun x => x ≠ b4)) Fw8_1 (.inr tk0))) : zy16 = 0 ∨ gy16 ≠ b4))) Gw14)
                    refine dd_hn 0 rfl rfl rfl rfl (Kp.refl ([] ++ zf zy22 gy22) w14) (fun w hS => vv_load1 (v := wv p0.Group.Q) one_119 rfl (Bx.kp B42 hS (tk1 ((pv_1 (A := (fun x => x ≠ b4)) Fw13_1 (pv_1 (A := (fun x => x ≠ b4)) Fw12_1 (pv_1 (A := (fun x => x ≠ b4)) Fw8_1 (.inr tk0)))) : zy22 = 0 ∨ gy22 ≠ b4))) rfl) ?_
                    refine dd_hn 0 rfl rfl rfl rfl (Kp.refl ([] ++ zf zy22 gy22) w14) (fun w hS => vv_load1 (v := wv p0.Group.Q) one_119 rfl (Bx.kp B42 hS (tk1 ((pv_1 (A := (fun x => x ≠ b4)) Fw13_1 (pv_1 (A := (fun x => x ≠ b4)) Fw12_1 (pv_1 (A := (fun x => x ≠ b4)) Fw8_1 (.inr tk0)))) : zy22 = 0 ∨ gy22 ≠ b4))) rfl) ?_
                    refine dd_hn 0 rfl rfl rfl rfl (Kp.refl ([] ++ zf zy22 gy22) w14) (fun w hS => vv_move rfl) ?_
                    refine dd_hn 0 rfl rfl rfl rfl (Kp.refl ([] ++ zf zy22 gy22) w14) (fun w hS => vv_move rfl) ?_
                    have hb := bnd hm; clear hm; obtain ⟨y24, hy24, hm⟩ := hb
                    have B43 := (Own.gr Fw13_0 Gw14)
                    refine dd_hn 1 rfl rfl rfl rfl (Kp.refl ([]) w14) (fun w hS => vv_ixT (i := a23) Try.underlying60 (one_24).siz rfl (Own.rd (Own.kp B43 hS)) rfl hy24) ?_
                    refine dd_hn 1 rfl rfl rfl rfl (Kp.refl ([]) w14) (fun w hS => vv_el1T (q := 0) (u := wv y24) one_24 rfl (Own.rd (Own.kp B43 hS)) hy24 (by first | rfl | omega) rfl) ?_
                    refine dd_hn 0 rfl rfl rfl rfl (Kp.refl ([] ++ zf zy22 gy22) w14) (fun w hS => vv_move rfl) ?_
                    refine dd_hn 0 rfl rfl rfl rfl (Kp.refl ([] ++ zf zy22 gy22) w14) (fun w hS => vv_move rfl) ?_
                    refine dd_hn 0 rfl rfl rfl rfl (Kp.refl ([] ++ zf zy22 gy22) w14) (fun w hS => vv_sub (k := .i64) (a := a23) (b := 1) rfl rfl) ?_
                    have hb := bnd hm; clear hm; obtain ⟨y25, hy25, hm⟩ := hb
                    refine dd_hn 1 rfl rfl rfl rfl (Kp.refl ([]) w14) (fun w hS => vv_ixT (i := w64 (a23 - 1)) Try.underlying60 (one_24).siz rfl (Own.rd (Own.kp B43 hS)) rfl hy25) ?_
                    refine dd_hn 1 rfl rfl rfl rfl (Kp.refl ([]) w14) (fun w hS => vv_el1T (q := 0) (u := wv y25) one_24 rfl (Own.rd (Own.kp B43 hS)) hy25 (by first | rfl | omega) rfl) ?_
                    refine dd_hn 0 rfl rfl rfl rfl (Kp.refl ([] ++ zf zy22 gy22) w14) (fun w hS => vv_load1 (v := wv p0.Group.Q) one_119 rfl (Bx.kp B42 hS (tk1 ((pv_1 (A := (fun x => x ≠ b4)) Fw13_1 (pv_1 (A := (fun x => x ≠ b4)) Fw12_1 (pv_1 (A := (fun x => x ≠ b4)) Fw8_1 (.inr tk0)))) : zy22 = 0 ∨ gy22 ≠ b4))) rfl) ?_
                    have B44 := (Bx.gr (Bx.kz (Bx.kz (Bx.kz B21 Kw8 (tk1 ((.inr tk0) : 1 = 0 ∨ gw7 ≠ b2))) Kw12 (tk1 ((pv_1 (A := (fun x => x ≠ b2)) Fw8_1 (.inr tk0)) : zy8 = 0 ∨ gy8 ≠ b2))) Kw13 (tk1 ((pv_1 (A := (fun x => x ≠ b2)) Fw12_1 (pv_1 (A := (fun x => x ≠ b2)) Fw8_1 (.inr tk0))) : zy16 = 0 ∨ gy16 ≠ b2))) Gw14)
                    refine dd_hn 0 rfl rfl rfl rfl (Kp.refl ([] ++ zf zy22 gy22) w14) (fun w hS => vv_load1 (v := vp1) one_43 rfl (Bx.kp B44 hS (tk1 ((pv_1 (A := (fun x => x ≠ b2)) Fw13_1 (pv_1 (A := (fun x => x ≠ b2)) Fw12_1 (pv_1 (A := (fun x => x ≠ b2)) Fw8_1 (.inr tk0)))) : zy22 = 0 ∨ gy22 ≠ b2))) rfl) ?_
                    refine dd_hn 0 rfl rfl rfl rfl (Kp.refl ([] ++ zf zy22 gy22) w14) (fun w hS => vv_move rfl) ?_
                    have hb := bnd hm; clear hm; obtain ⟨y26, hy26, hm⟩ := hb
                    have B45 := (Rd.gr (Rd.kz B39 Kw13 (tk1 ((pv_sw (pv_1 (A := (fun x => zp1 = 0 ∨ x ≠ gp1)) Fw12_1 (pv_1 (A := (fun x => zp1 = 0 ∨ x ≠ gp1)) Fw8_1 (.inr (tk1 lt1.o)) (fun x hx => (tk1 lt1.o))) (fun x hx => (tk1 lt1.o)))) : zp1 = 0 ∨ zy16 = 0 ∨ gp1 ≠ gy16))) Gw14)
                    refine dd_hn 0 rfl rfl rfl rfl (Kp.refl ([] ++ zf zy22 gy22) w14) (fun w hS => vv_ixT (i := a23) Try.underlying43 (agg_31).siz rfl (Rd.kp B45 hS (tk1 ((pv_sw (pv_1 (A := (fun x => zp1 = 0 ∨ x ≠ gp1)) Fw13_1 (pv_1 (A := (fun x => zp1 = 0 ∨ x ≠ gp1)) Fw12_1 (pv_1 (A := (fun x => zp1 = 0 ∨ x ≠ gp1)) Fw8_1 (.inr (tk1 lt1.o)) (fun x hx => (tk1 lt1.o))) (fun x hx => (tk1 lt1.o))) (fun x hx => (tk1 lt1.o)))) : zp1 = 0 ∨ zy22 = 0 ∨ gp1 ≠ gy22))) rfl hy26) ?_
                    refine dd_hn 0 rfl rfl rfl rfl (Kp.refl ([] ++ zf zy22 gy22) w14) (fun w hS => vv_fieldAddr fa_31_0 rfl) ?_
                    refine dd_hn 0 rfl rfl rfl rfl (Kp.refl ([] ++ zf zy22 gy22) w14) (fun w hS => vv_el1T (q := 0) (u := wv y26.X) one_24 rfl (Rd.kp B45 hS (tk1 ((pv_sw (pv_1 (A := (fun x => zp1 = 0 ∨ x ≠ gp1)) Fw13_1 (pv_1 (A := (fun x => zp1 = 0 ∨ x ≠ gp1)) Fw12_1 (pv_1 (A := (fun x => zp1 = 0 ∨ x ≠ gp1)) Fw8_1 (.inr (tk1 lt1.o)) (fun x hx => (tk1 lt1.o))) (fun x hx => (tk1 lt1.o))) (fun x hx => (tk1 lt1.o)))) : zp1 = 0 ∨ zy22 = 0 ∨ gp1 ≠ gy22))) hy26 (by first | rfl | omega) rfl) ?_
                    refine dd_hn 0 rfl rfl rfl rfl (Kp.refl ([] ++ zf zy22 gy22) w14) (fun w hS => vv_load1 (v := vp1) one_43 rfl (Bx.kp B44 hS (tk1 ((pv_1 (A := (fun x => x ≠ b2)) Fw13_1 (pv_1 (A := (fun x => x ≠ b2)) Fw12_1 (pv_1 (A := (fun x => x ≠ b2)) Fw8_1 (.inr tk0)))) : zy22 = 0 ∨ gy22 ≠ b2))) rfl) ?_
                    refine dd_hn 0 rfl rfl rfl rfl (Kp.refl ([] ++ zf zy22 gy22) w14) (fun w hS => vv_move rfl) ?_
                    refine dd_hn 0 rfl rfl rfl rfl (Kp.refl ([] ++ zf zy22 gy22) w14) (fun w hS => vv_move rfl) ?_
                    refine dd_hn 0 rfl rfl rfl rfl (Kp.refl ([] ++ zf zy22 gy22) w14) (fun w hS => vv_sub (k := .i64) (a := a23) (b := a17) rfl rfl) ?_
                    have hb := bnd hm; clear hm; obtain ⟨y27, hy27, hm⟩ := hb
                    refine dd_hn 0 rfl rfl rfl rfl (Kp.refl ([] ++ zf zy22 gy22) w14) (fun w hS => vv_ixT (i := w64 (a23 - a17)) Try.underlying43 (agg_31).siz rfl (Rd.kp B45 hS (tk1 ((pv_sw (pv_1 (A := (fun x => zp1 = 0 ∨ x ≠ gp1)) Fw13_1 (pv_1 (A := (fun x => zp1 = 0 ∨ x ≠ gp1)) Fw12_1 (pv_1 (A := (fun x => zp1 = 0 ∨ x ≠ gp1)) Fw8_1 (.inr (tk1 lt1.o)) (fun x hx => (tk1 lt1.o))) (fun x hx => (tk1 lt1.o))) (fun x hx => (tk1 lt1.o)))) : zp1 = 0 ∨ zy22 = 0 ∨ gp1 ≠ gy22))) rfl hy27) ?_
                    refine dd_hn 0 rfl rfl rfl rfl (Kp.refl ([] ++ zf zy22 gy22) w14) (fun w hS => vv_fieldAddr fa_31_0 rfl) ?_
                    refine dd_hn 0 rfl rfl rfl rfl (Kp.refl ([] ++ zf zy22 gy22) w14) (fun w hS => vv_el1T (q := 0) (u := wv y27.X) one_24 rfl (Rd.kp B45 hS (tk1 ((pv_sw (pv_1 (A := (fun x => zp1 = 0 ∨ x ≠ gp1)) Fw13_1 (pv_1 (A := (fun x => zp1 = 0 ∨ x ≠ gp1)) Fw12_1 (pv_1 (A := (fun x => zp1 = 0 ∨ x ≠ gp1)) Fw8_1 (.inr (tk1 lt1.o)) (fun x hx => (tk1 lt1.o))) (fun x hx => (tk1 lt1.o))) (fun x hx => (tk1 lt1.o)))) : zp1 = 0 ∨ zy22 = 0 ∨ gp1 ≠ gy22))) hy27 (by first | rfl | omega) rfl) ?_
                    have hb := bnd hm; clear hm; obtain ⟨x28, hx28, hm⟩ := hb
                    refine dd_z [] rfl rfl rfl (ev_call en_77 rfl (poly_field_sub_w p0.Group.Q y24 y25 _ hx28 _)) ⟨fun _ => tk0, fun _ => tk0, trivial⟩ ?_
                    rintro _ w15 ⟨rfl, Gw15⟩
                    have z46 := Gw15.size
                    refine ⟨Kz.ofGr Gw15, ?_⟩
                    have hb := bnd hm; clear hm; obtain ⟨x29, hx29, hm⟩ := hb
                    refine dd_z [] rfl rfl rfl (ev_call en_77 rfl (poly_field_sub_w p0.Group.Q y26.X y27.X _ hx29 _)) ⟨fun _ => tk0, fun _ => tk0, trivial⟩ ?_
                    rintro _ w16 ⟨rfl, Gw16⟩
                    have z47 := Gw16.size
                    refine ⟨Kz.ofGr Gw16, ?_⟩
                    have hb := bnd hm; clear hm; obtain ⟨x30, hx30, hm⟩ := hb
                    refine dd_z [] rfl rfl rfl (ev_call en_78 rfl (poly_field_div_w p0.Group.Q x28 x29 _ hx30 _)) ⟨fun _ => tk0, fun _ => tk0, trivial⟩ ?_
                    rintro _ w17 ⟨rfl, Gw17⟩
                    have z48 := Gw17.size
                    refine ⟨Kz.ofGr Gw17, ?_⟩
                    have hb := bnd hm; clear hm; obtain ⟨y31, hy31, hm⟩ := hb
                    have S49 := (Kp.gr (Kp.gr (Kp.gr (Kp.refl ([]) w14) Gw15) Gw16) Gw17)
                    refine dd_hn 1 rfl rfl rfl rfl S49 (fun w hS => vv_ixT (i := a23) Try.underlying60 (one_24).siz rfl (Own.rd (Own.kp B43 hS)) rfl hy31) ?_
                    have B50 := (Own.gr (Own.gr (Own.gr B43 Gw15) Gw16) Gw17)
                    have zo51 := Own.z1 B50 hy31
                    refine dd_z [(1, gy22)] rfl rfl rfl (ev_stEl (i := a23) (q := 0) (a' := x30) (vs := [wv x30]) (c := uwc) (one_24).siz rfl rfl rfl rfl rfl B50 hy31 (by first | rfl | omega) rfl rfl ⟨rfl, rfl⟩) ⟨fun _ => (tk1 (tk0 : zy22 = 0 ∨ (gy22 = gy22 ∧ zy22 ≠ 0) ∨ w14.heap.size ≤ gy22)), nofun, trivial⟩ ?_
                    rintro _ w18 ⟨Ow18, Mw18⟩
                    have z52 := Mw18.size
                    refine ⟨Kz.ofMd Mw18, ?_⟩
                    refine sd_nil ?_
                    refine block_n ?_
                    refine then_n ?_
                    -- region 17 poly.go:112
                    refine sw_region [(0, 0), (1, 0), (2, 0)] rfl rfl rfl ?_
                    refine sd_vv rfl rfl rfl (vv_move rfl) ?_
                    refine sd_vv rfl rfl rfl (vv_sub (k := .i64) (a := a23) (b := 1) rfl rfl) ?_
                    refine sd_vv rfl rfl rfl (vv_assign rfl) ?_
                    refine sd_nil ?_
                    have K_53 : Kz [(zy16, gy16)] w12 w18 := (Kz.md (Kz.gr (Kz.gr (Kz.gr (Kz.gr Kw13 Gw14) Gw15) Gw16) Gw17) Mw18 (tk1 ((pv_1 (A := (fun x => (x = gy16 ∧ zy16 ≠ 0) ∨ w12.heap.size ≤ x)) Fw13_1 tk0) : zy22 = 0 ∨ (gy22 = gy16 ∧ zy16 ≠ 0) ∨ w12.heap.size ≤ gy22)))
                    subst hrec4
                    refine ⟨rfl, ⟨n4, a21.set a23.toNat x30, w64 (a23 - 1), vy22, zy22, gy22⟩, ?_, ⟨hm, Ow18, ⟨(pv_1 (A := (fun x => (x = gy16 ∧ zy16 ≠ 0) ∨ w12.heap.size ≤ x)) Fw13_1 tk0)⟩, K_53⟩, Nat.lt_succ_self _⟩
                    repeat' first | exact trivial | refine ⟨rfl, ?_⟩
                  ·
                    replace hm := ite_f (of_decide_eq_false c5) hm
                    refine sw_exit ?_
                    refine then_x ?_
                    refine then_x ?_
                    refine block_x ?_
                    refine block_n ?_
                    refine then_n ?_
                    -- region 14 poly.go:111
                    refine sw_region [(0, 0), (1, 0), (2, 0)] rfl rfl rfl ?_
                    refine sd_vv rfl rfl rfl (vv_move rfl) ?_
                    refine sd_vv rfl rfl rfl (vv_add (k := .i64) (a := a17) (b := 1) rfl rfl) ?_
                    refine sd_vv rfl rfl rfl (vv_assign rfl) ?_
                    refine sd_nil ?_
                    have K_54 : Kz [(zy8, gy8)] w8 w13 := (Kz.kz Kw12 Kw13 (tk1 ((pv_1 (A := (fun x => (x = gy8 ∧ zy8 ≠ 0) ∨ w8.heap.size ≤ x)) Fw12_1 tk0) : zy16 = 0 ∨ (gy16 = gy8 ∧ zy8 ≠ 0) ∨ w8.heap.size ≤ gy16)))
                    subst hrec3
                    refine ⟨rfl, ⟨n3, a21, w64 (a17 + 1), vy22, zy22, gy22⟩, ?_, ⟨hm, Fw13_0, ⟨(pv_1 (A := (fun x => (x = gy8 ∧ zy8 ≠ 0) ∨ w8.heap.size ≤ x)) Fw13_1 (pv_1 (A := (fun x => (x = gy8 ∧ zy8 ≠ 0) ∨ w8.heap.size ≤ x)) Fw12_1 tk0))⟩, K_54⟩, Nat.lt_succ_self _⟩
                    repeat' first | exact trivial | refine ⟨rfl, ?_⟩
              ·
                replace hm := ite_f (of_decide_eq_false c4) hm
                refine sw_exit ?_
                refine then_x ?_
                refine then_x ?_
                refine block_x ?_
                refine then_n ?_
                refine sw_seq ?_
                -- region 19 poly.go:116
                refine sw_region [(0, 0), (1, 0), (2, 0), (3, 0), (4, 0)] rfl rfl rfl ?_
                refine sd_vv rfl rfl rfl (vv_move rfl) ?_
                refine sd_vv rfl rfl rfl (vv_lenT (l := a15) (c := uwc) Try.underlying60 rfl (Own.rd Fw12_0)) ?_
                have hb := bnd hm; clear hm; obtain ⟨l32, hl32, hm⟩ := hb
                refine sd_ev rfl rfl rfl (ev_mkT (c := uwc) (a := 0#64) apt_116 zv_24 rfl ⟨rfl, rfl⟩ rfl hl32 (by decide)) ?_
                rintro vw19 w19 ⟨gw19, hbw19, Ow19, Gw19⟩
                have z55 := Gw19.size
                have lt56 := Ow19.lth
                refine sd_ev rfl rfl rfl (ev_alloc (cs := [(.slice none 0 0)]) zv_116 rfl) ?_
                rintro _ w20 ⟨b20, rfl, hbw20, Bw20, Gw20⟩
                have z57 := Gw20.size
                have lt58 := Bw20.lt
                have B59 := (Own.gr Ow19 Gw20)
                refine sd_ev rfl rfl rfl (ev_st1 (cs' := [vw19]) (one_116).siz rfl rfl (Own.oneB B59) Bw20 rfl rfl) ?_
                rintro _ w21 ⟨Bw21, Mw21⟩
                have z60 := Mw21.size
                refine sd_done ?_
                refine sw_seq ?_
                refine sw_seq ?_
                -- region 20 poly.go:117
                refine sw_region [(0, 0), (1, 0)] rfl rfl rfl ?_
                refine sd_vv rfl rfl rfl (vv_move rfl) ?_
                have B61 := (Own.md (Own.gr (Own.gr Fw12_0 Gw19) Gw20) Mw21 (tk1 ((pv_lt (A := (fun x => x ≠ b20)) lt37) : zy16 = 0 ∨ gy16 ≠ b20)))
                have hb := bnd hm; clear hm; obtain ⟨x33, hx33, hm⟩ := hb
                refine sd_ev rfl rfl rfl (ev_call en_91 rfl (slices_Backward_f243_w a15 _ _ _ _ _ hx33 _ (Own.rd B61))) ?_
                rintro _ w22 ⟨k22_c0_0, u22_c00_s, z22_c00_s, g22_c00_s, o22_c00_s, rfl, O22_c0_0, f22_c0_0, O22_c00_s, f22_c00_s, Gw22⟩
                have z62 := Gw22.size
                have lt63 := O22_c00_s.lth
                have lt64 := O22_c0_0.lt
                refine sd_done ?_
                refine sw_block ?_
                have hb := bnd hm; clear hm; obtain ⟨l34, hl34, hm⟩ := hb
                have X65 : Gr w w22 := (Gr.trans (Gr.md (Gr.trans (Gr.trans (Gr.kz X34 Kw12 (tk1 ((pv_1 (A := (fun x => w.heap.size ≤ x)) Fw8_1 (.inr tk0)) : zy8 = 0 ∨ w.heap.size ≤ gy8))) Gw19) Gw20) Mw21) Gw22)
                have B66 := (Rd.gr (Rd.md (Rd.gr (Rd.gr (Rd.kz B35 Kw12 (tk1 ((pv_sw (pv_1 (A := (fun x => zp1 = 0 ∨ x ≠ gp1)) Fw8_1 (.inr (tk1 lt1.o)) (fun x hx => (tk1 lt1.o)))) : zp1 = 0 ∨ zy8 = 0 ∨ gp1 ≠ gy8))) Gw19) Gw20) Mw21 (tk1 ((pv_lt (A := (fun x => x ≠ b20)) lt1) : zp1 = 0 ∨ gp1 ≠ b20))) Gw22)
                have B67 := (Bx.gr (Bx.md (Bx.gr (Bx.gr (Bx.kz (Bx.kz (Bx.gr (Bx.kz (Bx.md (Bx.gr B10 Gw4) Mw5) Kw6) Gw7) Kw8 (tk1 ((.inr tk0) : 1 = 0 ∨ gw7 ≠ b1))) Kw12 (tk1 ((pv_1 (A := (fun x => x ≠ b1)) Fw8_1 (.inr tk0)) : zy8 = 0 ∨ gy8 ≠ b1))) Gw19) Gw20) Mw21) Gw22)
                have B68 := (Bx.gr (Bx.md (Bx.gr (Bx.gr (Bx.kz (Bx.kz B21 Kw8 (tk1 ((.inr tk0) : 1 = 0 ∨ gw7 ≠ b2))) Kw12 (tk1 ((pv_1 (A := (fun x => x ≠ b2)) Fw8_1 (.inr tk0)) : zy8 = 0 ∨ gy8 ≠ b2))) Gw19) Gw20) Mw21) Gw22)
                have B69 := (Bx.gr (Bx.md (Bx.gr (Bx.gr (Bx.kz (Bx.kz (Bx.gr (Bx.kz Bw5 Kw6) Gw7) Kw8 (tk1 ((.inr tk0) : 1 = 0 ∨ gw7 ≠ b4))) Kw12 (tk1 ((pv_1 (A := (fun x => x ≠ b4)) Fw8_1 (.inr tk0)) : zy8 = 0 ∨ gy8 ≠ b4))) Gw19) Gw20) Mw21) Gw22)
                have B70 := (Own.gr B61 Gw22)
                have B71 := (Own.gr (Own.md B59 Mw21 (tk1 ((pv_lt (A := (fun x => x ≠ b20)) lt56) : 1 = 0 ∨ gw19 ≠ b20))) Gw22)
                have B72 := (Bx.gr Bw21 Gw22)
                refine sw_rangeFunc (gf := 134) rfl en_134 (slices_Backward_1_c271_it x33 _ _ _ _ _ _ hl34 _ O22_c0_0 O22_c00_s) (by intro x hx; obtain ⟨a, _, rfl⟩ := List.mem_map.1 hx; rfl) rfl _ (fun _ _ _ _ => False) ([b20] ++ zf 1 gw19) (stb_mk (α := List (BitVec 64) × Value × Nat × Nat) (fun ⟨a37, vy38, zy38, gy38⟩ rk => itL (poly_Interpolate_R5 p0 p1) poly_Interpolate_D5 (List.drop rk l34) a37 = some r) (fun ⟨a37, vy38, zy38, gy38⟩ => ([b20] ++ zf zy38 gy38)) (fun ⟨a37, vy38, zy38, gy38⟩ W => Own W zy38 gy38 24 1 vy38 (a37.map uwc) ∧ Hdn (zy38 = 0 ∨ (gy38 = gw19 ∧ 1 ≠ 0) ∨ w22.heap.size ≤ gy38) ∧ Bx W b20 116 [vy38] ∧ True) (by rintro ⟨a37, vy38, zy38, gy38⟩ W ⟨F0, F1, F2, _⟩ b hb; have q0 := F0.lt; have q2 := F2.lt; replace hb : b ∈ ([b20] ++ zf zy38 gy38) := hb; simp only [List.mem_cons, List.mem_append, mem_zf, List.not_mem_nil, or_false, false_or, not_or, ne_eq, List.nil_append, List.cons_append, true_and, and_true, false_and, and_false, not_true_eq_false, not_false_eq_true, or_true, true_or] at hb; omega) (by rintro ⟨a37, vy38, zy38, gy38⟩ W W' ⟨F0, F1, F2, _⟩ E hs; replace hs : ∀ b ∈ ([b20] ++ zf zy38 gy38), W'.heap[b]? = W.heap[b]? := hs; exact ⟨Own.hs F0 hs (fun hz => by simp [mem_zf, hz]), F1, (hs _ (by simp)).trans F2, trivial⟩)) (fun _ => stb_false) (by intro b hb; have := ((pv_lt (A := (fun x => x ≠ k22_c0_0)) lt56) : 1 = 0 ∨ gw19 ≠ k22_c0_0); have := ((pv_sw (pv_1 (A := (fun x => 1 = 0 ∨ x ≠ gw19)) f22_c00_s (pv_sw (.inr (tk1 lt37.o))) (fun x hx => (tk1 lt56.o)))) : 1 = 0 ∨ z22_c00_s = 0 ∨ gw19 ≠ g22_c00_s); have := ((pv_1 (A := (fun x => x ≠ b20)) f22_c00_s (pv_lt (A := (fun x => x ≠ b20)) lt37)) : z22_c00_s = 0 ∨ g22_c00_s ≠ b20); have := lt63.o; simp only [List.mem_cons, List.mem_append, mem_zf, List.not_mem_nil, or_false, false_or, not_or, ne_eq, List.nil_append, List.cons_append, true_and, and_true, false_and, and_false, not_true_eq_false, not_false_eq_true, or_true, true_or] at hb ⊢; omega) ⟨⟨l32, vw19, 1, gw19⟩, hm, rfl, B71, ⟨tk0⟩, B72, trivial⟩ ?_ ?_ ?_
                · rintro l rk x fp w23 hl hx _ Kw23 hF hln hlt
                  clear hm
                  obtain ⟨⟨e39, e40⟩, hxe, rfl⟩ := map_some hx
                  have Zw23 : Kz [(1, b20), (1, gw19)] w22 w23 := kz_of_kp Kw23 (by intro k hk; simp only [Nin, and_true, List.mem_cons, List.mem_append, mem_zf, List.not_mem_nil, or_false, false_or, not_or, ne_eq, List.nil_append, List.cons_append, true_and, and_true, false_and, and_false, not_true_eq_false, not_false_eq_true, or_true, true_or] at hk ⊢; omega)
                  have z73 := Kw23.size
                  refine sw_seq ?_
                  -- region 21 poly.go:117
                  refine sw_region [(0, 0)] rfl rfl rfl ?_
                  refine sd_vv rfl rfl rfl (vv_assign rfl) ?_
                  refine sd_done ?_
                  -- region 22 poly.go:117
                  refine sw_region [(0, 0)] rfl rfl rfl ?_
                  refine sd_vv rfl rfl rfl (vv_assign rfl) ?_
                  refine sd_nil ?_
                  refine ⟨rfl, (Gr.refl _), ?_⟩
                  rintro w24 Mw24 ⟨⟨a37, vy38, zy38, gy38⟩, hm, rfl, Fw24_0, Fw24_1, Fw24_2, -⟩
                  have z74 := Mw24.size
                  have lt75 := Fw24_0.lth
                  have lt76 := Fw24_2.lt
                  replace hm := itL_at hm hxe
                  generalize hnx5 : itL (poly_Interpolate_R5 p0 p1) poly_Interpolate_D5 (List.drop (rk + 1) l34) = nx5 at hm
                  unfold poly_Interpolate_R5 at hm
                  try dsimp only at hm
                  refine sw_block ?_
                  refine sw_seq ?_
                  refine sw_seq ?_
                  -- region 23 poly.go:118
                  refine sw_region [(0, 0), (1, 0), (2, 0), (3, 0)] rfl rfl rfl ?_
                  refine sd_vv rfl rfl rfl (vv_load1 (v := vy38) one_116 rfl Fw24_2 rfl) ?_
                  refine sd_vv rfl rfl rfl (vv_lenT (l := a37) (c := uwc) Try.underlying116 rfl (Own.rd Fw24_0)) ?_
                  refine sd_vv rfl rfl rfl (vv_sub (k := .i64) (a := (a37.length : Int)) (b := 1) rfl rfl) ?_
                  refine sd_vv rfl rfl rfl (vv_assign rfl) ?_
                  refine sd_done ?_
                  refine sw_block ?_
                  have X77 : Gr w w24 := (Gr.md (Gr.kz X65 Zw23 (tk1 ((.inr tk0) : 1 = 0 ∨ w.heap.size ≤ gw19))) Mw24)
                  have B78 := (Rd.md (Rd.kz B66 Zw23 (tk2 ((pv_sw (.inr (tk1 lt1.o))) : zp1 = 0 ∨ 1 = 0 ∨ gp1 ≠ gw19) ((pv_lt (A := (fun x => x ≠ b20)) lt1) : zp1 = 0 ∨ gp1 ≠ b20))) Mw24 (tk1 ((pv_lt (A := (fun x => x ≠ l)) lt1) : zp1 = 0 ∨ gp1 ≠ l)))
                  have B79 := (Own.md (Own.kz B70 Zw23 (tk2 ((pv_sw (.inr (tk1 lt37.o))) : zy16 = 0 ∨ 1 = 0 ∨ gy16 ≠ gw19) ((pv_lt (A := (fun x => x ≠ b20)) lt37) : zy16 = 0 ∨ gy16 ≠ b20))) Mw24 (tk1 ((pv_lt (A := (fun x => x ≠ l)) lt37) : zy16 = 0 ∨ gy16 ≠ l)))
                  have B80 := (Rd.md (Rd.kz O22_c00_s Zw23 (tk2 ((pv_1 (A := (fun x => 1 = 0 ∨ x ≠ gw19)) f22_c00_s (pv_sw (.inr (tk1 lt37.o))) (fun x hx => (tk1 lt56.o))) : z22_c00_s = 0 ∨ 1 = 0 ∨ g22_c00_s ≠ gw19) ((pv_1 (A := (fun x => x ≠ b20)) f22_c00_s (pv_lt (A := (fun x => x ≠ b20)) lt37)) : z22_c00_s = 0 ∨ g22_c00_s ≠ b20))) Mw24 (tk1 ((pv_lt (A := (fun x => x ≠ l)) lt63) : z22_c00_s = 0 ∨ g22_c00_s ≠ l)))
                  refine sw_loopD (α := Nat × Int × List (BitVec 64) × Value × Nat × Nat) [15, 108, 109, 110, 111, 112, 113, 114, 115, 116, 117, 118, 119, 120, 121, 122, 123, 124, 125, 126, 127, 128, 129, 130, 131, 132, 133] (fun ⟨n6, a44, a45, vy46, zy46, gy46⟩ => [(15, .int .i64 a44)]) (fun ⟨n6, a44, a45, vy46, zy46, gy46⟩ wr => (fixN (poly_Interpolate_L6 p0 p1 nx5 e39 e40) n6 (a44, a45) = some r) ∧ Own wr zy46 gy46 24 1 vy46 (a45.map uwc) ∧ Hdn (zy46 = 0 ∨ (gy46 = gy38 ∧ zy38 ≠ 0) ∨ w24.heap.size ≤ gy46) ∧ Bx wr b20 116 [vy46] ∧ Kz [(1, b20), (zy38, gy38)] w24 wr) (fun ⟨n6, a44, a45, vy46, zy46, gy46⟩ => n6) ⟨FUEL, w64 ((a37.length : Int) - 1), a37, vy38, zy38, gy38⟩ ?_ ?_ ?_
                  · repeat' first | exact trivial | refine ⟨rfl, ?_⟩
                  · exact ⟨hm, Fw24_0, ⟨tk0⟩, Fw24_2, Kz.refl _ _⟩
                  · clear hm; rintro ⟨n6, a44, a45, vy46, zy46, gy46⟩ w25 ⟨hm, Fw25_0, Fw25_1, Fw25_2, Kw25⟩
                    have z81 := Kw25.size
                    have lt82 := Fw25_0.lth
                    have lt83 := Fw25_2.lt
                    have hb := fix_succ hm; clear hm; obtain ⟨n6, rfl, hm⟩ := hb
                    generalize hrec6 : fixN (poly_Interpolate_L6 p0 p1 nx5 e39 e40) n6 = rec6 at hm
                    unfold poly_Interpolate_L6 at hm
                    try dsimp only at hm
                    refine sw_seq ?_
                    refine sw_seq ?_
                    -- region 24 poly.go:118
                    refine sw_region [(0, 0), (1, 0)] rfl rfl rfl ?_
                    refine sd_vv rfl rfl rfl (vv_move rfl) ?_
                    refine sd_vv rfl rfl rfl (vv_gtr (a := a44) (b := 0) rfl rfl) ?_
                    refine sd_done ?_
                    refine sw_cond rfl (fun c6 => ?_) (fun c6 => ?_)
                    ·
                      replace hm := ite_t (of_decide_eq_true c6) hm
                      refine sw_skip ?_
                      refine then_n ?_
                      refine sw_seq ?_
                      refine sw_block ?_
                      -- region 26 poly.go:119 DRAWS
                      refine sw_drawN [([] ++ zf zy46 gy46), ([])] [(22, [1])] (.leaf [(0, 10), (1, 10), (2, 10), (3, 10), (4, 10), (5, 10), (6, 11), (7, 11), (8, 10), (9, 10), (10, 10), (11, 11), (12, 11), (13, 10), (14, 10), (15, 10), (16, 10), (17, 10), (18, 0), (19, 0), (20, 0), (21, 11), (22, 0)]) (by kernel_rfl) (by kernel_rfl) rfl (by kernel_rfl) ?_
                      intro w26 Gw26 zw26
                      refine sdz_leaf ?_
                      have B84 := (Bx.gr Fw25_2 Gw26)
                      refine dd_hn 0 rfl rfl rfl rfl (Kp.refl ([] ++ zf zy46 gy46) w26) (fun w hS => vv_load1 (v := vy46) one_116 rfl (Bx.kp B84 hS (tk1 ((pv_1 (A := (fun x => x ≠ b20)) Fw25_1 (pv_1 (A := (fun x => x ≠ b20)) Fw24_1 (pv_lt (A := (fun x => x ≠ b20)) lt56))) : zy46 = 0 ∨ gy46 ≠ b20))) rfl) ?_
                      refine dd_hn 0 rfl rfl rfl rfl (Kp.refl ([] ++ zf zy46 gy46) w26) (fun w hS => vv_move rfl) ?_
                      have B85 := (Bx.gr (Bx.kz (Bx.md (Bx.kz B69 Zw23 (tk1 ((.inr tk0) : 1 = 0 ∨ gw19 ≠ b4))) Mw24) Kw25 (tk1 ((pv_1 (A := (fun x => x ≠ b4)) Fw24_1 (.inr tk0)) : zy38 = 0 ∨ gy38 ≠ b4))) Gw26)
                      refine dd_hn 0 rfl rfl rfl rfl (Kp.refl ([] ++ zf zy46 gy46) w26) (fun w hS => vv_load1 (v := wv p0.Group.Q) one_119 rfl (Bx.kp B85 hS (tk1 ((pv_1 (A := (fun x => x ≠ b4)) Fw25_1 (pv_1 (A := (fun x => x ≠ b4)) Fw24_1 (.inr tk0))) : zy46 = 0 ∨ gy46 ≠ b4))) rfl) ?_
                      refine dd_hn 0 rfl rfl rfl rfl (Kp.refl ([] ++ zf zy46 gy46) w26) (fun w hS => vv_load1 (v := vy46) one_116 rfl (Bx.kp B84 hS (tk1 ((pv_1 (A := (fun x => x ≠ b20)) Fw25_1 (pv_1 (A := (fun x => x ≠ b20)) Fw24_1 (pv_lt (A := (fun x => x ≠ b20)) lt56))) : zy46 = 0 ∨ gy46 ≠ b20))) rfl) ?_
                      refine dd_hn 0 rfl rfl rfl rfl (Kp.refl ([] ++ zf zy46 gy46) w26) (fun w hS => vv_move rfl) ?_
                      refine dd_hn 0 rfl rfl rfl rfl (Kp.refl ([] ++ zf zy46 gy46) w26) (fun w hS => vv_sub (k := .i64) (a := a44) (b := 1) rfl rfl) ?_
                      have hb := bnd hm; clear hm; obtain ⟨y47, hy47, hm⟩ := hb
                      have B86 := (Own.gr Fw25_0 Gw26)
                      refine dd_hn 1 rfl rfl rfl rfl (Kp.refl ([]) w26) (fun w hS => vv_ixT (i := w64 (a44 - 1)) Try.underlying116 (one_24).siz rfl (Own.rd (Own.kp B86 hS)) rfl hy47) ?_
                      refine dd_hn 1 rfl rfl rfl rfl (Kp.refl ([]) w26) (fun w hS => vv_el1T (q := 0) (u := wv y47) one_24 rfl (Own.rd (Own.kp B86 hS)) hy47 (by first | rfl | omega) rfl) ?_
                      refine dd_hn 0 rfl rfl rfl rfl (Kp.refl ([] ++ zf zy46 gy46) w26) (fun w hS => vv_load1 (v := wv p0.Group.Q) one_119 rfl (Bx.kp B85 hS (tk1 ((pv_1 (A := (fun x => x ≠ b4)) Fw25_1 (pv_1 (A := (fun x => x ≠ b4)) Fw24_1 (.inr tk0))) : zy46 = 0 ∨ gy46 ≠ b4))) rfl) ?_
                      refine dd_hn 0 rfl rfl rfl rfl (Kp.refl ([] ++ zf zy46 gy46) w26) (fun w hS => vv_load1 (v := vy46) one_116 rfl (Bx.kp B84 hS (tk1 ((pv_1 (A := (fun x => x ≠ b20)) Fw25_1 (pv_1 (A := (fun x => x ≠ b20)) Fw24_1 (pv_lt (A := (fun x => x ≠ b20)) lt56))) : zy46 = 0 ∨ gy46 ≠ b20))) rfl) ?_
                      refine dd_hn 0 rfl rfl rfl rfl (Kp.refl ([] ++ zf zy46 gy46) w26) (fun w hS => vv_move rfl) ?_
                      have hb := bnd hm; clear hm; obtain ⟨y48, hy48, hm⟩ := hb
                      refine dd_hn 1 rfl rfl rfl rfl (Kp.refl ([]) w26) (fun w hS => vv_ixT (i := a44) Try.underlying116 (one_24).siz rfl (Own.rd (Own.kp B86 hS)) rfl hy48) ?_
                      refine dd_hn 1 rfl rfl rfl rfl (Kp.refl ([]) w26) (fun w hS => vv_el1T (q := 0) (u := wv y48) one_24 rfl (Own.rd (Own.kp B86 hS)) hy48 (by first | rfl | omega) rfl) ?_
                      have B87 := (Bx.gr (Bx.kz (Bx.md (Bx.kz B68 Zw23 (tk1 ((.inr tk0) : 1 = 0 ∨ gw19 ≠ b2))) Mw24) Kw25 (tk1 ((pv_1 (A := (fun x => x ≠ b2)) Fw24_1 (.inr tk0)) : zy38 = 0 ∨ gy38 ≠ b2))) Gw26)
                      refine dd_hn 0 rfl rfl rfl rfl (Kp.refl ([] ++ zf zy46 gy46) w26) (fun w hS => vv_load1 (v := vp1) one_43 rfl (Bx.kp B87 hS (tk1 ((pv_1 (A := (fun x => x ≠ b2)) Fw25_1 (pv_1 (A := (fun x => x ≠ b2)) Fw24_1 (.inr tk0))) : zy46 = 0 ∨ gy46 ≠ b2))) rfl) ?_
                      refine dd_hn 0 rfl rfl rfl rfl (Kp.refl ([] ++ zf zy46 gy46) w26) (fun w hS => vv_move rfl) ?_
                      have hb := bnd hm; clear hm; obtain ⟨y49, hy49, hm⟩ := hb
                      have B88 := (Rd.gr (Rd.kz B78 Kw25 (tk2 ((pv_sw (pv_1 (A := (fun x => zp1 = 0 ∨ x ≠ gp1)) Fw24_1 (.inr (tk1 lt1.o)) (fun x hx => (tk1 lt1.o)))) : zp1 = 0 ∨ zy38 = 0 ∨ gp1 ≠ gy38) ((pv_lt (A := (fun x => x ≠ b20)) lt1) : zp1 = 0 ∨ gp1 ≠ b20))) Gw26)
                      refine dd_hn 0 rfl rfl rfl rfl (Kp.refl ([] ++ zf zy46 gy46) w26) (fun w hS => vv_ixT (i := e39) Try.underlying43 (agg_31).siz rfl (Rd.kp B88 hS (tk1 ((pv_sw (pv_1 (A := (fun x => zp1 = 0 ∨ x ≠ gp1)) Fw25_1 (pv_1 (A := (fun x => zp1 = 0 ∨ x ≠ gp1)) Fw24_1 (.inr (tk1 lt1.o)) (fun x hx => (tk1 lt1.o))) (fun x hx => (tk1 lt1.o)))) : zp1 = 0 ∨ zy46 = 0 ∨ gp1 ≠ gy46))) rfl hy49) ?_
                      refine dd_hn 0 rfl rfl rfl rfl (Kp.refl ([] ++ zf zy46 gy46) w26) (fun w hS => vv_fieldAddr fa_31_0 rfl) ?_
                      refine dd_hn 0 rfl rfl rfl rfl (Kp.refl ([] ++ zf zy46 gy46) w26) (fun w hS => vv_el1T (q := 0) (u := wv y49.X) one_24 rfl (Rd.kp B88 hS (tk1 ((pv_sw (pv_1 (A := (fun x => zp1 = 0 ∨ x ≠ gp1)) Fw25_1 (pv_1 (A := (fun x => zp1 = 0 ∨ x ≠ gp1)) Fw24_1 (.inr (tk1 lt1.o)) (fun x hx => (tk1 lt1.o))) (fun x hx => (tk1 lt1.o)))) : zp1 = 0 ∨ zy46 = 0 ∨ gp1 ≠ gy46))) hy49 (by first | rfl | omega) rfl) ?_
                      refine dd_z [] rfl rfl rfl (ev_litT [y48, y49.X] uwc bsl_60_2 rfl rfl (ws_of rfl) rfl rfl rfl) ⟨fun _ => tk0, fun _ => tk0, trivial⟩ ?_
                      rintro vw27 w27 ⟨gw27, hbw27, Ow27, Gw27⟩
                      have z89 := Gw27.size
                      have lt90 := Ow27.lth
                      refine ⟨Kz.ofGr Gw27, ?_⟩
                      have hb := bnd hm; clear hm; obtain ⟨x50, hx50, hm⟩ := hb
                      refine dd_z [] rfl rfl rfl (ev_call en_76 rfl (poly_field_mul_w p0.Group.Q [y48, y49.X] _ _ _ _ _ hx50 _ (Own.rd Ow27))) ⟨fun _ => tk0, fun _ => tk0, trivial⟩ ?_
                      rintro _ w28 ⟨rfl, Gw28⟩
                      have z91 := Gw28.size
                      refine ⟨Kz.ofGr Gw28, ?_⟩
                      have hb := bnd hm; clear hm; obtain ⟨x51, hx51, hm⟩ := hb
                      refine dd_z [] rfl rfl rfl (ev_call en_77 rfl (poly_field_sub_w p0.Group.Q y47 x50 _ hx51 _)) ⟨fun _ => tk0, fun _ => tk0, trivial⟩ ?_
                      rintro _ w29 ⟨rfl, Gw29⟩
                      have z92 := Gw29.size
                      refine ⟨Kz.ofGr Gw29, ?_⟩
                      have hb := bnd hm; clear hm; obtain ⟨y52, hy52, hm⟩ := hb
                      have S93 := (Kp.gr (Kp.gr (Kp.gr (Kp.refl ([]) w26) Gw27) Gw28) Gw29)
                      refine dd_hn 1 rfl rfl rfl rfl S93 (fun w hS => vv_ixT (i := a44) Try.underlying116 (one_24).siz rfl (Own.rd (Own.kp B86 hS)) rfl hy52) ?_
                      have B94 := (Own.gr (Own.gr (Own.gr B86 Gw27) Gw28) Gw29)
                      have zo95 := Own.z1 B94 hy52
                      refine dd_z [(1, gy46)] rfl rfl rfl (ev_stEl (i := a44) (q := 0) (a' := x51) (vs := [wv x51]) (c := uwc) (one_24).siz rfl rfl rfl rfl rfl B94 hy52 (by first | rfl | omega) rfl rfl ⟨rfl, rfl⟩) ⟨fun _ => (tk1 (tk0 : zy46 = 0 ∨ (gy46 = gy46 ∧ zy46 ≠ 0) ∨ w26.heap.size ≤ gy46)), nofun, trivial⟩ ?_
                      rintro _ w30 ⟨Ow30, Mw30⟩
                      have z96 := Mw30.size
                      refine ⟨Kz.ofMd Mw30, ?_⟩
                      refine sd_nil ?_
                      refine block_n ?_
                      refine then_n ?_
                      -- region 25 poly.go:118
                      refine sw_region [(0, 0), (1, 0), (2, 0)] rfl rfl rfl ?_
                      refine sd_vv rfl rfl rfl (vv_move rfl) ?_
                      refine sd_vv rfl rfl rfl (vv_sub (k := .i64) (a := a44) (b := 1) rfl rfl) ?_
                      refine sd_vv rfl rfl rfl (vv_assign rfl) ?_
                      refine sd_nil ?_
                      have K_97 : Kz [(1, b20), (zy38, gy38)] w24 w30 := (Kz.md (Kz.gr (Kz.gr (Kz.gr (Kz.gr Kw25 Gw26) Gw27) Gw28) Gw29) Mw30 (tk1 ((pv_1 (A := (fun x => (x = gy38 ∧ zy38 ≠ 0) ∨ w24.heap.size ≤ x)) Fw25_1 tk0) : zy46 = 0 ∨ (gy46 = gy38 ∧ zy38 ≠ 0) ∨ w24.heap.size ≤ gy46)))
                      have B98 := (Bx.md (Bx.gr (Bx.gr (Bx.gr B84 Gw27) Gw28) Gw29) Mw30 (tk1 ((pv_1 (A := (fun x => x ≠ b20)) Fw25_1 (pv_1 (A := (fun x => x ≠ b20)) Fw24_1 (pv_lt (A := (fun x => x ≠ b20)) lt56))) : zy46 = 0 ∨ gy46 ≠ b20)))
                      subst hrec6
                      refine ⟨rfl, ⟨n6, w64 (a44 - 1), a45.set a44.toNat x51, vy46, zy46, gy46⟩, ?_, ⟨hm, Ow30, ⟨(pv_1 (A := (fun x => (x = gy38 ∧ zy38 ≠ 0) ∨ w24.heap.size ≤ x)) Fw25_1 tk0)⟩, B98, K_97⟩, Nat.lt_succ_self _⟩
                      repeat' first | exact trivial | refine ⟨rfl, ?_⟩
                    ·
                      replace hm := ite_f (of_decide_eq_false c6) hm
                      refine sw_exit ?_
                      refine then_x ?_
                      refine then_x ?_
                      refine block_x ?_
                      refine then_n ?_
                      -- region 27 poly.go:121 DRAWS
                      refine sw_drawN [([] ++ zf zy46 gy46), ([])] [(16, [1])] (.leaf [(0, 10), (1, 10), (2, 10), (3, 10), (4, 10), (5, 11), (6, 11), (7, 10), (8, 10), (9, 10), (10, 10), (11, 10), (12, 0), (13, 0), (14, 0), (15, 11), (16, 0)]) (by kernel_rfl) (by kernel_rfl) rfl (by kernel_rfl) ?_
                      intro w31 Gw31 zw31
                      refine sdz_leaf ?_
                      have B99 := (Bx.gr Fw25_2 Gw31)
                      refine dd_hn 0 rfl rfl rfl rfl (Kp.refl ([] ++ zf zy46 gy46) w31) (fun w hS => vv_load1 (v := vy46) one_116 rfl (Bx.kp B99 hS (tk1 ((pv_1 (A := (fun x => x ≠ b20)) Fw25_1 (pv_1 (A := (fun x => x ≠ b20)) Fw24_1 (pv_lt (A := (fun x => x ≠ b20)) lt56))) : zy46 = 0 ∨ gy46 ≠ b20))) rfl) ?_
                      have B100 := (Bx.gr (Bx.kz (Bx.md (Bx.kz B69 Zw23 (tk1 ((.inr tk0) : 1 = 0 ∨ gw19 ≠ b4))) Mw24) Kw25 (tk1 ((pv_1 (A := (fun x => x ≠ b4)) Fw24_1 (.inr tk0)) : zy38 = 0 ∨ gy38 ≠ b4))) Gw31)
                      refine dd_hn 0 rfl rfl rfl rfl (Kp.refl ([] ++ zf zy46 gy46) w31) (fun w hS => vv_load1 (v := wv p0.Group.Q) one_119 rfl (Bx.kp B100 hS (tk1 ((pv_1 (A := (fun x => x ≠ b4)) Fw25_1 (pv_1 (A := (fun x => x ≠ b4)) Fw24_1 (.inr tk0))) : zy46 = 0 ∨ gy46 ≠ b4))) rfl) ?_
                      refine dd_hn 0 rfl rfl rfl rfl (Kp.refl ([] ++ zf zy46 gy46) w31) (fun w hS => vv_move rfl) ?_
                      refine dd_hn 0 rfl rfl rfl rfl (Kp.refl ([] ++ zf zy46 gy46) w31) (fun w hS => vv_load1 (v := wv p0.Group.Q) one_119 rfl (Bx.kp B100 hS (tk1 ((pv_1 (A := (fun x => x ≠ b4)) Fw25_1 (pv_1 (A := (fun x => x ≠ b4)) Fw24_1 (.inr tk0))) : zy46 = 0 ∨ gy46 ≠ b4))) rfl) ?_
                      refine dd_hn 0 rfl rfl rfl rfl (Kp.refl ([] ++ zf zy46 gy46) w31) (fun w hS => vv_load1 (v := vy46) one_116 rfl (Bx.kp B99 hS (tk1 ((pv_1 (A := (fun x => x ≠ b20)) Fw25_1 (pv_1 (A := (fun x => x ≠ b20)) Fw24_1 (pv_lt (A := (fun x => x ≠ b20)) lt56))) : zy46 = 0 ∨ gy46 ≠ b20))) rfl) ?_
                      have hb := bnd hm; clear hm; obtain ⟨y53, hy53, hm⟩ := hb
                      have B101 := (Own.gr Fw25_0 Gw31)
                      refine dd_hn 1 rfl rfl rfl rfl (Kp.refl ([]) w31) (fun w hS => vv_ixT (i := 0) Try.underlying116 (one_24).siz rfl (Own.rd (Own.kp B101 hS)) rfl hy53) ?_
                      refine dd_hn 1 rfl rfl rfl rfl (Kp.refl ([]) w31) (fun w hS => vv_el1T (q := 0) (u := wv y53) one_24 rfl (Own.rd (Own.kp B101 hS)) hy53 (by first | rfl | omega) rfl) ?_
                      have B102 := (Bx.gr (Bx.kz (Bx.md (Bx.kz B68 Zw23 (tk1 ((.inr tk0) : 1 = 0 ∨ gw19 ≠ b2))) Mw24) Kw25 (tk1 ((pv_1 (A := (fun x => x ≠ b2)) Fw24_1 (.inr tk0)) : zy38 = 0 ∨ gy38 ≠ b2))) Gw31)
                      refine dd_hn 0 rfl rfl rfl rfl (Kp.refl ([] ++ zf zy46 gy46) w31) (fun w hS => vv_load1 (v := vp1) one_43 rfl (Bx.kp B102 hS (tk1 ((pv_1 (A := (fun x => x ≠ b2)) Fw25_1 (pv_1 (A := (fun x => x ≠ b2)) Fw24_1 (.inr tk0))) : zy46 = 0 ∨ gy46 ≠ b2))) rfl) ?_
                      refine dd_hn 0 rfl rfl rfl rfl (Kp.refl ([] ++ zf zy46 gy46) w31) (fun w hS => vv_move rfl) ?_
                      have hb := bnd hm; clear hm; obtain ⟨y54, hy54, hm⟩ := hb
                      have B103 := (Rd.gr (Rd.kz B78 Kw25 (tk2 ((pv_sw (pv_1 (A := (fun x => zp1 = 0 ∨ x ≠ gp1)) Fw24_1 (.inr (tk1 lt1.o)) (fun x hx => (tk1 lt1.o)))) : zp1 = 0 ∨ zy38 = 0 ∨ gp1 ≠ gy38) ((pv_lt (A := (fun x => x ≠ b20)) lt1) : zp1 = 0 ∨ gp1 ≠ b20))) Gw31)
                      refine dd_hn 0 rfl rfl rfl rfl (Kp.refl ([] ++ zf zy46 gy46) w31) (fun w hS => vv_ixT (i := e39) Try.underlying43 (agg_31).siz rfl (Rd.kp B103 hS (tk1 ((pv_sw (pv_1 (A := (fun x => zp1 = 0 ∨ x ≠ gp1)) Fw25_1 (pv_1 (A := (fun x => zp1 = 0 ∨ x ≠ gp1)) Fw24_1 (.inr (tk1 lt1.o)) (fun x hx => (tk1 lt1.o))) (fun x hx => (tk1 lt1.o)))) : zp1 = 0 ∨ zy46 = 0 ∨ gp1 ≠ gy46))) rfl hy54) ?_
                      refine dd_hn 0 rfl rfl rfl rfl (Kp.refl ([] ++ zf zy46 gy46) w31) (fun w hS => vv_fieldAddr fa_31_0 rfl) ?_
                      refine dd_hn 0 rfl rfl rfl rfl (Kp.refl ([] ++ zf zy46 gy46) w31) (fun w hS => vv_el1T (q := 0) (u := wv y54.X) one_24 rfl (Rd.kp B103 hS (tk1 ((pv_sw (pv_1 (A := (fun x => zp1 = 0 ∨ x ≠ gp1)) Fw25_1 (pv_1 (A := (fun x => zp1 = 0 ∨ x ≠ gp1)) Fw24_1 (.inr (tk1 lt1.o)) (fun x hx => (tk1 lt1.o))) (fun x hx => (tk1 lt1.o)))) : zp1 = 0 ∨ zy46 = 0 ∨ gp1 ≠ gy46))) hy54 (by first | rfl | omega) rfl) ?_
                      refine dd_z [] rfl rfl rfl (ev_litT [y53, y54.X] uwc bsl_60_2 rfl rfl (ws_of rfl) rfl rfl rfl) ⟨fun _ => tk0, fun _ => tk0, trivial⟩ ?_
                      rintro vw32 w32 ⟨gw32, hbw32, Ow32, Gw32⟩
                      have z104 := Gw32.size
                      have lt105 := Ow32.lth
                      refine ⟨Kz.ofGr Gw32, ?_⟩
                      have hb := bnd hm; clear hm; obtain ⟨x55, hx55, hm⟩ := hb
                      refine dd_z [] rfl rfl rfl (ev_call en_76 rfl (poly_field_mul_w p0.Group.Q [y53, y54.X] _ _ _ _ _ hx55 _ (Own.rd Ow32))) ⟨fun _ => tk0, fun _ => tk0, trivial⟩ ?_
                      rintro _ w33 ⟨rfl, Gw33⟩
                      have z106 := Gw33.size
                      refine ⟨Kz.ofGr Gw33, ?_⟩
                      have hb := bnd hm; clear hm; obtain ⟨x56, hx56, hm⟩ := hb
                      refine dd_z [] rfl rfl rfl (ev_call en_77 rfl (poly_field_sub_w p0.Group.Q e40 x55 _ hx56 _)) ⟨fun _ => tk0, fun _ => tk0, trivial⟩ ?_
                      rintro _ w34 ⟨rfl, Gw34⟩
                      have z107 := Gw34.size
                      refine ⟨Kz.ofGr Gw34, ?_⟩
                      have hb := bnd hm; clear hm; obtain ⟨y57, hy57, hm⟩ := hb
                      have S108 := (Kp.gr (Kp.gr (Kp.gr (Kp.refl ([]) w31) Gw32) Gw33) Gw34)
                      refine dd_hn 1 rfl rfl rfl rfl S108 (fun w hS => vv_ixT (i := 0) Try.underlying116 (one_24).siz rfl (Own.rd (Own.kp B101 hS)) rfl hy57) ?_
                      have B109 := (Own.gr (Own.gr (Own.gr B101 Gw32) Gw33) Gw34)
                      have zo110 := Own.z1 B109 hy57
                      refine dd_z [(1, gy46)] rfl rfl rfl (ev_stEl (i := 0) (q := 0) (a' := x56) (vs := [wv x56]) (c := uwc) (one_24).siz rfl rfl rfl rfl rfl B109 hy57 (by first | rfl | omega) rfl rfl ⟨rfl, rfl⟩) ⟨fun _ => (tk1 (tk0 : zy46 = 0 ∨ (gy46 = gy46 ∧ zy46 ≠ 0) ∨ w31.heap.size ≤ gy46)), nofun, trivial⟩ ?_
                      rintro _ w35 ⟨Ow35, Mw35⟩
                      have z111 := Mw35.size
                      refine ⟨Kz.ofMd Mw35, ?_⟩
                      refine sd_nil ?_
                      refine block_n ?_
                      have B113 := (Bx.md (Bx.gr (Bx.gr (Bx.gr B99 Gw32) Gw33) Gw34) Mw35 (tk1 ((pv_1 (A := (fun x => x ≠ b20)) Fw25_1 (pv_1 (A := (fun x => x ≠ b20)) Fw24_1 (pv_lt (A := (fun x => x ≠ b20)) lt56))) : zy46 = 0 ∨ gy46 ≠ b20)))
                      have K_112 : Kz [(1, b20), (zy38, gy38)] w24 w35 := (Kz.md (Kz.gr (Kz.gr (Kz.gr (Kz.gr (Kz.kz (Kz.refl _ _) Kw25 (tk1 (tk0 : zy38 = 0 ∨ (gy38 = gy38 ∧ zy38 ≠ 0) ∨ w24.heap.size ≤ gy38))) Gw31) Gw32) Gw33) Gw34) Mw35 (tk1 ((pv_1 (A := (fun x => (x = gy38 ∧ zy38 ≠ 0) ∨ w24.heap.size ≤ x)) Fw25_1 tk0) : zy46 = 0 ∨ (gy46 = gy38 ∧ zy38 ≠ 0) ∨ w24.heap.size ≤ gy46)))
                      have Kq112 : Kp ([b20] ++ zf zy38 gy38) w24 w35 := kp_of_kz K_112 (by intro k hk; simp only [Nin, and_true, List.mem_cons, List.mem_append, mem_zf, List.not_mem_nil, or_false, false_or, not_or, ne_eq, List.nil_append, List.cons_append, true_and, and_true, false_and, and_false, not_true_eq_false, not_false_eq_true, or_true, true_or] at hk ⊢; omega)
                      subst hnx5
                      exact ⟨Kq112, ([b20] ++ zf zy46 gy46), (by intro c hc; have := ((pv_1 (A := (fun x => (x = gy38 ∧ zy38 ≠ 0) ∨ w24.heap.size ≤ x)) Fw25_1 tk0) : zy46 = 0 ∨ (gy46 = gy38 ∧ zy38 ≠ 0) ∨ w24.heap.size ≤ gy46); simp only [List.mem_cons, List.mem_append, mem_zf, List.not_mem_nil, or_false, false_or, not_or, ne_eq, List.nil_append, List.cons_append, true_and, and_true, false_and, and_false, not_true_eq_false, not_false_eq_true, or_true, true_or] at hc ⊢; omega), ⟨⟨a45.set (0 : Int).toNat x56, vy46, zy46, gy46⟩, hm, rfl, Ow35, ⟨(pv_1 (A := (fun x => (x = gw19 ∧ 1 ≠ 0) ∨ w22.heap.size ≤ x)) Fw25_1 (pv_1 (A := (fun x => (x = gw19 ∧ 1 ≠ 0) ∨ w22.heap.size ≤ x)) Fw24_1 tk0))⟩, B113, trivial⟩⟩
                · clear hm; rintro Dw36 fp w36 hDw36 Dfw36 nw36 ⟨⟨a37, vy38, zy38, gy38⟩, hm, rfl, Fw36_0, Fw36_1, Fw36_2, -⟩ Kw36
                  replace hm := itL_end hm
                  have Zw36 : Kz [(1, b20), (1, gw19)] w22 w36 := kz_of_kp Kw36 (by intro k hk; simp only [Nin, and_true, List.mem_cons, List.mem_append, mem_zf, List.not_mem_nil, or_false, false_or, not_or, ne_eq, List.nil_append, List.cons_append, true_and, and_true, false_and, and_false, not_true_eq_false, not_false_eq_true, or_true, true_or] at hk ⊢; omega)
                  have z114 := Kw36.size
                  have lt115 := Df.lt (w := w36) Dfw36
                  simp only [List.mem_cons, List.mem_append, mem_zf, List.not_mem_nil, or_false, false_or, not_or, ne_eq, List.nil_append, List.cons_append, true_and, and_true, false_and, and_false, not_true_eq_false, not_false_eq_true, or_true, true_or, not_and] at nw36
                  have lt116 := Fw36_0.lth
                  have lt117 := Fw36_2.lt
                  unfold poly_Interpolate_D5 at hm
                  try dsimp only at hm
                  refine block_n ?_
                  refine then_n ?_
                  refine sw_seq ?_
                  -- region 28 poly.go:123
                  refine sw_region [(0, 0), (1, 0), (2, 0)] rfl rfl rfl ?_
                  refine sd_vv rfl rfl rfl (vv_load1 (v := vy38) one_116 rfl Fw36_2 rfl) ?_
                  refine sd_vv rfl rfl rfl (vv_assign rfl) ?_
                  refine sd_vv rfl rfl rfl (vv_assign rfl) ?_
                  refine sd_done ?_
                  refine sw_ret ?_
                  have DL118 := Dfw36
                  have L118 := Md.put (w := w36) Dw36 (.deferred none)
                  have zL118 := L118.size
                  have B119 := (Own.md Fw36_0 L118)
                  have X120 : Gr w (w36.putObj Dw36 (.deferred none)) := (Gr.md (Gr.kz X65 Zw36 (tk1 ((.inr tk0) : 1 = 0 ∨ w.heap.size ≤ gw19))) L118)
                  have hr := Option.some.inj hm
                  subst hr
                  refine ⟨_, _, ⟨Dw36, rfl, DL118, rfl⟩, res_2 rfl (rv_tmp rfl) (rv_tmp rfl), ?_⟩
                  exact ⟨vy38, zy38, gy38, rfl, B119, ⟨(pv_1 (A := (fun x => w.heap.size ≤ x)) Fw36_1 (.inr tk0))⟩, X120⟩
                · rintro _ _ _ _ _ _ _ _ _ h _
                  exact h.elim
    ·
      -- region 4 poly.go:103
      refine sw_region [(0, 0), (1, 0), (2, 0), (3, 0), (4, 0), (5, 0), (6, 0), (7, 0), (8, 0), (9, 0), (10, 0), (11, 0), (12, 0), (13, 0), (14, 0), (15, 0)] rfl rfl rfl ?_
      have B121 := (Bx.md (Bx.gr (Bx.gr Bw2 Gw3) Gw4) Mw5)
      refine sd_vv rfl rfl rfl (vv_load1 (v := vp1) one_43 rfl B121 rfl) ?_
      have B122 := (Rd.md (Rd.gr (Rd.gr (Rd.gr B4 Gw2) Gw3) Gw4) Mw5 (tk1 ((pv_lt (A := (fun x => x ≠ b4)) lt1) : zp1 = 0 ∨ gp1 ≠ b4)))
      refine sd_vv rfl rfl rfl (vv_lenT (l := p1) (c := TPoint.cs) Try.underlying43 rfl B122) ?_
      refine sd_vv rfl rfl rfl (vv_fieldAddr fa_28_2 rfl) ?_
      have B123 := (Bx.md (Bx.gr B10 Gw4) Mw5)
      refine sd_vv rfl rfl rfl (vv_load1 (v := .int .i64 p0.Degree) one_3 rfl B123 rfl) ?_
      refine sd_vv rfl rfl rfl (vv_add (k := .i64) (a := p0.Degree) (b := 1) rfl rfl) ?_
      refine sd_vv rfl rfl rfl (vv_neq (a := (p1.length : Int)) (b := w64 (p0.Degree + 1)) rfl rfl) ?_
      refine sd_split rfl rfl rfl (vv_move rfl) (fun c7 => ?_) (fun c7 => ?_)
      ·
        replace hm := ite_t (of_decide_eq_true c7) hm
        refine sd_skip rfl rfl rfl ?_
        refine sd_skip rfl rfl rfl ?_
        refine sd_skip rfl rfl rfl ?_
        refine sd_vv rfl rfl rfl (vv_pickT rfl rfl) ?_
        refine sd_vv rfl rfl rfl (vv_move rfl) ?_
        refine sd_skip rfl rfl rfl ?_
        refine sd_skip rfl rfl rfl ?_
        refine sd_skip rfl rfl rfl ?_
        refine sd_vv rfl rfl rfl (vv_pickT rfl rfl) ?_
        refine sd_nil ?_
        have K_124 : Kz [] w5 w5 := (Kz.refl _ _)
        refine ⟨rfl, true, ?_, hm, K_124⟩
        repeat' first | exact trivial | refine ⟨rfl, ?_⟩
      ·
        replace hm := ite_f (of_decide_eq_false c7) hm
        refine sd_vv rfl rfl rfl (vv_load1 (v := vp1) one_43 rfl B121 rfl) ?_
        refine sd_vv rfl rfl rfl (vv_makeFunc rfl rfl) ?_
        have hb := bnd hm; clear hm; obtain ⟨x58, hx58, hm⟩ := hb
        refine sd_ev rfl rfl rfl (ev_call en_89 rfl (slices_ContainsFunc_9e39_poly_Interpolate_1_w p1 p0 _ _ _ _ _ _ hx58 _ B122 B123)) ?_
        rintro _ w37 ⟨rfl, Gw37⟩
        have z125 := Gw37.size
        refine sd_vv rfl rfl rfl (vv_pickF rfl rfl) ?_
        refine sd_split rfl rfl rfl (vv_move rfl) (fun c8 => ?_) (fun c8 => ?_)
        ·
          replace hm := cnd_t c8 hm
          refine sd_skip rfl rfl rfl ?_
          refine sd_skip rfl rfl rfl ?_
          refine sd_skip rfl rfl rfl ?_
          refine sd_vv rfl rfl rfl (vv_pickT rfl rfl) ?_
          refine sd_nil ?_
          have K_126 : Kz [] w5 w37 := (Kz.gr (Kz.refl _ _) Gw37)
          refine ⟨rfl, true, ?_, hm, K_126⟩
          repeat' first | exact trivial | refine ⟨rfl, ?_⟩
        ·
          replace hm := cnd_f c8 hm
          have B127 := (Bx.gr B121 Gw37)
          refine sd_vv rfl rfl rfl (vv_load1 (v := vp1) one_43 rfl B127 rfl) ?_
          have B128 := (Rd.gr B122 Gw37)
          have hb := bnd hm; clear hm; obtain ⟨x59, hx59, hm⟩ := hb
          refine sd_ev rfl rfl rfl (ev_call en_75 rfl (poly_distinct_w p1 _ _ _ _ _ hx59 _ B128)) ?_
          rintro _ w38 ⟨rfl, Gw38⟩
          have z129 := Gw38.size
          refine sd_vv rfl rfl rfl (vv_not rfl) ?_
          refine sd_vv rfl rfl rfl (vv_pickF rfl rfl) ?_
          refine sd_nil ?_
          have K_130 : Kz [] w5 w38 := (Kz.gr (Kz.gr (Kz.refl _ _) Gw37) Gw38)
          refine ⟨rfl, (!x59), ?_, hm, K_130⟩
          repeat' first | exact trivial | refine ⟨rfl, ?_⟩

set_option maxHeartbeats 2000000 in
theorem ref04_Right_w (p0 : BitVec 64) (p1 : List TPoint) (vp1 : Value) (zp1 gp1 op1 : Nat) (r : Bool) (hm : ref04_Right p0 p1 = some r) (w : World) (hp1 : Rd w zp1 gp1 op1 2 vp1 (p1.map TPoint.cs))  :
    Calls Try.prog 54 [wv p0, vp1].toArray w fun e w' => ∃ v, e = .returned v ∧ (v = .bool r ∧ Gr w w') := by
  have lt1 := hp1.lth
  unfold ref04_Right at hm
  refine calls_of_sw (R := fun v w' => v = .bool r ∧ Gr w w') 45 Try.func54 rfl rfl rfl ?_
  refine sw_seq ?_
  -- region 0 ref.go:97
  refine sw_region [(0, 0)] rfl rfl rfl ?_
  refine sd_vv rfl rfl rfl (vv_assign rfl) ?_
  refine sd_done ?_
  refine sw_seq ?_
  refine sw_seq ?_
  -- region 1 ref.go:98
  refine sw_region [(0, 0)] rfl rfl rfl ?_
  refine sd_vv rfl rfl rfl (vv_assign rfl) ?_
  refine sd_done ?_
  refine sw_block ?_
  refine sw_loopD (α := Nat × Int) [4, 5, 6, 7, 8, 9, 10, 11, 12, 13, 14, 15, 16, 17, 18, 19, 20, 21, 22, 23, 24, 25, 26, 27, 28, 29, 30, 31, 32, 33, 34, 35, 36, 37, 38, 39, 40, 41, 42, 43, 44] (fun ⟨n1, a2⟩ => [(4, .bool false), (5, .int .i64 a2)]) (fun ⟨n1, a2⟩ wr => (fixN (ref04_Right_L1 p0 p1) n1 a2 = some r) ∧ Kz [] w wr) (fun ⟨n1, a2⟩ => n1) ⟨FUEL, 0⟩ ?_ ?_ ?_
  · repeat' first | exact trivial | refine ⟨rfl, ?_⟩
  · exact ⟨hm, Kz.refl _ _⟩
  · clear hm; rintro ⟨n1, a2⟩ w1 ⟨hm, Kw1⟩
    have z2 := Kw1.size
    have hb := fix_succ hm; clear hm; obtain ⟨n1, rfl, hm⟩ := hb
    generalize hrec1 : fixN (ref04_Right_L1 p0 p1) n1 = rec1 at hm
    unfold ref04_Right_L1 at hm
    try dsimp only at hm
    refine sw_seq ?_
    refine sw_seq ?_
    -- region 2 ref.go:98
    refine sw_region [(0, 0), (1, 0), (2, 0), (3, 0)] rfl rfl rfl ?_
    refine sd_vv rfl rfl rfl (vv_move rfl) ?_
    refine sd_vv rfl rfl rfl (vv_move rfl) ?_
    have B3 := (Rd.kz hp1 Kw1)
    refine sd_vv rfl rfl rfl (vv_lenT (l := p1) (c := TPoint.cs) Try.underlying43 rfl B3) ?_
    refine sd_vv rfl rfl rfl (vv_lss (a := a2) (b := (p1.length : Int)) rfl rfl) ?_
    refine sd_done ?_
    refine sw_cond rfl (fun c1 => ?_) (fun c1 => ?_)
    ·
      replace hm := ite_t (of_decide_eq_true c1) hm
      refine sw_skip ?_
      refine then_n ?_
      refine sw_seq ?_
      refine sw_block ?_
      refine sw_seq ?_
      have X4 : Gr w w1 := (Gr.kz (Gr.refl w) Kw1)
      refine sw_joinD (β := Bool) [13, 14, 15, 16, 17, 18, 19, 20, 21, 22, 23, 24, 25, 26, 27, 28] (fun a3 => [(28, .bool a3)]) (fun a3 wr => (ref04_Right_J2 p1 a2 rec1 a3 = some r) ∧ Kz [] w1 wr) ?_ ?_
      · clear hm; rintro a3 w2 ⟨hm, Kw2⟩
        have z5 := Kw2.size
        unfold ref04_Right_J2 at hm
        refine sw_cond rfl (fun c2 => ?_) (fun c2 => ?_)
        ·
          replace hm := cnd_t c2 hm
          refine sw_seq ?_
          -- region 5 ref.go:100
          refine sw_region [(0, 0)] rfl rfl rfl ?_
          refine sd_vv rfl rfl rfl (vv_assign rfl) ?_
          refine sd_done ?_
          refine sw_ret ?_
          refine then_r ?_
          refine block_r ?_
          refine then_r ?_
          refine then_r ?_
          refine block_r ?_
          refine then_r ?_
          have X6 : Gr w w2 := (Gr.kz X4 Kw2)
          have hr := Option.some.inj hm
          subst hr
          refine ⟨_, _, rfl, res_1 rfl (rv_tmp rfl), ?_⟩
          exact ⟨rfl, X6⟩
        ·
          replace hm := cnd_f c2 hm
          refine sw_skip ?_
          refine then_n ?_
          refine sw_seq ?_
          -- region 6 ref.go:102
          refine sw_region [(0, 0)] rfl rfl rfl ?_
          refine sd_vv rfl rfl rfl (vv_assign rfl) ?_
          refine sd_done ?_
          refine sw_block ?_
          have X7 : Gr w w2 := (Gr.kz X4 Kw2)
          have B8 := (Rd.kz B3 Kw2)
          refine sw_loopD (α := Nat × Int) [4, 6, 29, 30, 31, 32, 33, 34, 35, 36, 37, 38, 39, 40, 41, 42, 43, 44] (fun ⟨n3, a5⟩ => [(4, .bool false), (6, .int .i64 a5)]) (fun ⟨n3, a5⟩ wr => (fixN (ref04_Right_L3 p1 a2 rec1) n3 a5 = some r) ∧ Kz [] w2 wr) (fun ⟨n3, a5⟩ => n3) ⟨FUEL, 0⟩ ?_ ?_ ?_
          · repeat' first | exact trivial | refine ⟨rfl, ?_⟩
          · exact ⟨hm, Kz.refl _ _⟩
          · clear hm; rintro ⟨n3, a5⟩ w3 ⟨hm, Kw3⟩
            have z9 := Kw3.size
            have hb := fix_succ hm; clear hm; obtain ⟨n3, rfl, hm⟩ := hb
            generalize hrec3 : fixN (ref04_Right_L3 p1 a2 rec1) n3 = rec3 at hm
            unfold ref04_Right_L3 at hm
            try dsimp only at hm
            refine sw_seq ?_
            refine sw_seq ?_
            -- region 7 ref.go:102
            refine sw_region [(0, 0), (1, 0), (2, 0)] rfl rfl rfl ?_
            refine sd_vv rfl rfl rfl (vv_move rfl) ?_
            refine sd_vv rfl rfl rfl (vv_move rfl) ?_
            refine sd_vv rfl rfl rfl (vv_lss (a := a5) (b := a2) rfl rfl) ?_
            refine sd_done ?_
            refine sw_cond rfl (fun c3 => ?_) (fun c3 => ?_)
            ·
              replace hm := ite_t (of_decide_eq_true c3) hm
              refine sw_skip ?_
              refine then_n ?_
              refine sw_seq ?_
              refine sw_block ?_
              refine sw_seq ?_
              -- region 9 ref.go:103 DRAWS
              refine sw_drawN [([])] [] (.leaf [(0, 10), (1, 10), (2, 10), (3, 10), (4, 10), (5, 10), (6, 10), (7, 10), (8, 10), (9, 10), (10, 10)]) (by kernel_rfl) (by kernel_rfl) rfl (by kernel_rfl) ?_
              intro w4 Gw4 zw4
              refine sdz_leaf ?_
              refine dd_hn 0 rfl rfl rfl rfl (Kp.refl ([]) w4) (fun w hS => vv_move rfl) ?_
              refine dd_hn 0 rfl rfl rfl rfl (Kp.refl ([]) w4) (fun w hS => vv_move rfl) ?_
              have hb := bnd hm; clear hm; obtain ⟨y6, hy6, hm⟩ := hb
              have B10 := (Rd.gr (Rd.kz B8 Kw3) Gw4)
              refine dd_hn 0 rfl rfl rfl rfl (Kp.refl ([]) w4) (fun w hS => vv_ixT (i := a5) Try.underlying43 (agg_31).siz rfl (Rd.kp B10 hS) rfl hy6) ?_
              refine dd_hn 0 rfl rfl rfl rfl (Kp.refl ([]) w4) (fun w hS => vv_fieldAddr fa_31_0 rfl) ?_
              refine dd_hn 0 rfl rfl rfl rfl (Kp.refl ([]) w4) (fun w hS => vv_el1T (q := 0) (u := wv y6.X) one_24 rfl (Rd.kp B10 hS) hy6 (by first | rfl | omega) rfl) ?_
              refine dd_hn 0 rfl rfl rfl rfl (Kp.refl ([]) w4) (fun w hS => vv_move rfl) ?_
              refine dd_hn 0 rfl rfl rfl rfl (Kp.refl ([]) w4) (fun w hS => vv_move rfl) ?_
              have hb := bnd hm; clear hm; obtain ⟨y7, hy7, hm⟩ := hb
              refine dd_hn 0 rfl rfl rfl rfl (Kp.refl ([]) w4) (fun w hS => vv_ixT (i := a2) Try.underlying43 (agg_31).siz rfl (Rd.kp B10 hS) rfl hy7) ?_
              refine dd_hn 0 rfl rfl rfl rfl (Kp.refl ([]) w4) (fun w hS => vv_fieldAddr fa_31_0 rfl) ?_
              refine dd_hn 0 rfl rfl rfl rfl (Kp.refl ([]) w4) (fun w hS => vv_el1T (q := 0) (u := wv y7.X) one_24 rfl (Rd.kp B10 hS) hy7 (by first | rfl | omega) rfl) ?_
              refine dd_hn 0 rfl rfl rfl rfl (Kp.refl ([]) w4) (fun w hS => vv_eqlU (c := y6.X) (d := y7.X) rfl rfl) ?_
              refine sd_done ?_
              refine sw_cond rfl (fun c4 => ?_) (fun c4 => ?_)
              ·
                replace hm := ite_t (of_decide_eq_true c4) hm
                refine sw_seq ?_
                -- region 10 ref.go:104
                refine sw_region [(0, 0)] rfl rfl rfl ?_
                refine sd_vv rfl rfl rfl (vv_assign rfl) ?_
                refine sd_done ?_
                refine sw_ret ?_
                refine block_r ?_
                refine then_r ?_
                refine then_r ?_
                refine block_r ?_
                refine block_r ?_
                refine then_r ?_
                refine then_r ?_
                refine block_r ?_
                refine then_r ?_
                have X11 : Gr w w4 := (Gr.trans (Gr.kz X7 Kw3) Gw4)
                have hr := Option.some.inj hm
                subst hr
                refine ⟨_, _, rfl, res_1 rfl (rv_tmp rfl), ?_⟩
                exact ⟨rfl, X11⟩
              ·
                replace hm := ite_f (of_decide_eq_false c4) hm
                refine sw_skip ?_
                refine block_n ?_
                refine then_n ?_
                -- region 8 ref.go:102
                refine sw_region [(0, 0), (1, 0), (2, 0)] rfl rfl rfl ?_
                refine sd_vv rfl rfl rfl (vv_move rfl) ?_
                refine sd_vv rfl rfl rfl (vv_add (k := .i64) (a := a5) (b := 1) rfl rfl) ?_
                refine sd_vv rfl rfl rfl (vv_assign rfl) ?_
                refine sd_nil ?_
                have K_12 : Kz [] w2 w4 := (Kz.gr Kw3 Gw4)
                subst hrec3
                refine ⟨rfl, ⟨n3, w64 (a5 + 1)⟩, ?_, ⟨hm, K_12⟩, Nat.lt_succ_self _⟩
                repeat' first | exact trivial | refine ⟨rfl, ?_⟩
            ·
              replace hm := ite_f (of_decide_eq_false c3) hm
              refine sw_exit ?_
              refine then_x ?_
              refine then_x ?_
              refine block_x ?_
              refine block_n ?_
              refine then_n ?_
              -- region 3 ref.go:98
              refine sw_region [(0, 0), (1, 0), (2, 0)] rfl rfl rfl ?_
              refine sd_vv rfl rfl rfl (vv_move rfl) ?_
              refine sd_vv rfl rfl rfl (vv_add (k := .i64) (a := a2) (b := 1) rfl rfl) ?_
              refine sd_vv rfl rfl rfl (vv_assign rfl) ?_
              refine sd_nil ?_
              have K_13 : Kz [] w w3 := (Kz.kz (Kz.kz Kw1 Kw2) Kw3)
              subst hrec1
              refine ⟨rfl, ⟨n1, w64 (a2 + 1)⟩, ?_, ⟨hm, K_13⟩, Nat.lt_succ_self _⟩
              repeat' first | exact trivial | refine ⟨rfl, ?_⟩
      ·
        -- region 4 ref.go:99
        refine sw_region [(0, 0), (1, 0), (2, 0), (3, 0), (4, 0), (5, 0), (6, 0), (7, 0), (8, 0), (9, 0), (10, 0), (11, 0), (12, 0), (13, 0), (14, 0), (15, 0)] rfl rfl rfl ?_
        refine sd_vv rfl rfl rfl (vv_move rfl) ?_
        refine sd_vv rfl rfl rfl (vv_move rfl) ?_
        have hb := bnd hm; clear hm; obtain ⟨y8, hy8, hm⟩ := hb
        refine sd_vv rfl rfl rfl (vv_ixT (i := a2) Try.underlying43 (agg_31).siz rfl B3 rfl hy8) ?_
        refine sd_vv rfl rfl rfl (vv_fieldAddr fa_31_0 rfl) ?_
        refine sd_vv rfl rfl rfl (vv_el1T (q := 0) (u := wv y8.X) one_24 rfl B3 hy8 (by first | rfl | omega) rfl) ?_
        refine sd_vv rfl rfl rfl (vv_move rfl) ?_
        refine sd_vv rfl rfl rfl (vv_geqU (c := y8.X) (d := p0) rfl rfl) ?_
        refine sd_split rfl rfl rfl (vv_move rfl) (fun c5 => ?_) (fun c5 => ?_)
        ·
          replace hm := ite_t (of_decide_eq_true c5) hm
          refine sd_skip rfl rfl rfl ?_
          refine sd_skip rfl rfl rfl ?_
          refine sd_skip rfl rfl rfl ?_
          refine sd_skip rfl rfl rfl ?_
          refine sd_skip rfl rfl rfl ?_
          refine sd_skip rfl rfl rfl ?_
          refine sd_skip rfl rfl rfl ?_
          refine sd_vv rfl rfl rfl (vv_pickT rfl rfl) ?_
          refine sd_nil ?_
          have K_14 : Kz [] w1 w1 := (Kz.refl _ _)
          refine ⟨rfl, true, ?_, hm, K_14⟩
          repeat' first | exact trivial | refine ⟨rfl, ?_⟩
        ·
          replace hm := ite_f (of_decide_eq_false c5) hm
          refine sd_vv rfl rfl rfl (vv_move rfl) ?_
          refine sd_vv rfl rfl rfl (vv_move rfl) ?_
          have hb := bnd hm; clear hm; obtain ⟨y9, hy9, hm⟩ := hb
          refine sd_vv rfl rfl rfl (vv_ixT (i := a2) Try.underlying43 (agg_31).siz rfl B3 rfl hy9) ?_
          refine sd_vv rfl rfl rfl (vv_fieldAddr fa_31_1 rfl) ?_
          refine sd_vv rfl rfl rfl (vv_el1T (q := 1) (u := wv y9.Y) one_24 rfl B3 hy9 (by first | rfl | omega) rfl) ?_
          refine sd_vv rfl rfl rfl (vv_move rfl) ?_
          refine sd_vv rfl rfl rfl (vv_geqU (c := y9.Y) (d := p0) rfl rfl) ?_
          refine sd_vv rfl rfl rfl (vv_pickF rfl rfl) ?_
          refine sd_nil ?_
          have K_15 : Kz [] w1 w1 := (Kz.refl _ _)
          refine ⟨rfl, (decide (p0 ≤ y9.Y)), ?_, hm, K_15⟩
          repeat' first | exact trivial | refine ⟨rfl, ?_⟩
    ·
      replace hm := ite_f (of_decide_eq_false c1) hm
      refine sw_exit ?_
      refine then_x ?_
      refine then_x ?_
      refine block_x ?_
      refine then_n ?_
      refine sw_seq ?_
      -- region 11 ref.go:108
      refine sw_region [(0, 0)] rfl rfl rfl ?_
      refine sd_vv rfl rfl rfl (vv_assign rfl) ?_
      refine sd_done ?_
      refine sw_ret ?_
      have X16 : Gr w w1 := (Gr.kz (Gr.refl w) Kw1)
      have hr := Option.some.inj hm
      subst hr
      refine ⟨_, _, rfl, res_1 rfl (rv_tmp rfl), ?_⟩
      exact ⟨rfl, X16⟩

set_option maxHeartbeats 2000000 in
theorem ref04_linear_w (p0 : BitVec 64) (p1 : List (BitVec 64)) (p2 : BitVec 64) (vp1 : Value) (zp1 gp1 op1 : Nat) (r : List (BitVec 64)) (hm : ref04_linear p0 p1 p2 = some r) (w : World) (hp1 : Rd w zp1 gp1 op1 1 vp1 (p1.map uwc))  :
    Calls Try.prog 135 [wv p0, vp1, wv p2].toArray w fun e w' => ∃ v, e = .returned v ∧ (∃ (ur0_s : Value) (zr0_s : Nat) (gr0_s : Nat), v = ur0_s ∧ Own w' zr0_s gr0_s 24 1 ur0_s (r.map uwc) ∧ Hdn (zr0_s = 0 ∨ w.heap.size ≤ gr0_s) ∧ Gr w w') := by
  have lt1 := hp1.lth
  unfold ref04_linear at hm
  refine calls_of_sw (R := fun v w' => ∃ (ur0_s : Value) (zr0_s : Nat) (gr0_s : Nat), v = ur0_s ∧ Own w' zr0_s gr0_s 24 1 ur0_s (r.map uwc) ∧ Hdn (zr0_s = 0 ∨ w.heap.size ≤ gr0_s) ∧ Gr w w') 53 Try.func135 rfl rfl rfl ?_
  refine sw_seq ?_
  -- region 0 ref.go:115
  refine sw_region [(0, 0)] rfl rfl rfl ?_
  refine sd_vv rfl rfl rfl (vv_assign rfl) ?_
  refine sd_done ?_
  refine sw_seq ?_
  -- region 1 ref.go:116
  refine sw_region [(0, 0), (1, 0), (2, 0), (3, 0), (4, 0)] rfl rfl rfl ?_
  refine sd_vv rfl rfl rfl (vv_move rfl) ?_
  refine sd_vv rfl rfl rfl (vv_lenT (l := p1) (c := uwc) Try.underlying60 rfl hp1) ?_
  refine sd_vv rfl rfl rfl (vv_add (k := .i64) (a := (p1.length : Int)) (b := 1) rfl rfl) ?_
  have hb := bnd hm; clear hm; obtain ⟨l1, hl1, hm⟩ := hb
  refine sd_ev rfl rfl rfl (ev_mkT (c := uwc) (a := 0#64) apt_60 zv_24 rfl ⟨rfl, rfl⟩ rfl hl1 (by decide)) ?_
  rintro vw1 w1 ⟨gw1, hbw1, Ow1, Gw1⟩
  have z2 := Gw1.size
  have lt3 := Ow1.lth
  refine sd_vv rfl rfl rfl (vv_assign rfl) ?_
  refine sd_done ?_
  refine sw_seq ?_
  refine sw_seq ?_
  -- region 2 ref.go:117
  refine sw_region [(0, 0)] rfl rfl rfl ?_
  refine sd_vv rfl rfl rfl (vv_assign rfl) ?_
  refine sd_done ?_
  refine sw_block ?_
  have X4 : Gr w w1 := (Gr.trans (Gr.refl w) Gw1)
  have B5 := (Rd.gr hp1 Gw1)
  refine sw_loopD (α := Nat × List (BitVec 64) × Int × Value × Nat × Nat) [7, 8, 13, 14, 15, 16, 17, 18, 19, 20, 21, 22, 23, 24, 25, 26, 27, 28, 29, 30, 31, 32, 33, 34, 35, 36, 37, 38, 39, 40, 41, 42, 43, 44, 45, 46, 47, 48, 49, 50, 51] (fun ⟨n1, a5, a7, vy6, zy6, gy6⟩ => [(7, vy6), (8, .int .i64 a7)]) (fun ⟨n1, a5, a7, vy6, zy6, gy6⟩ wr => (fixN (ref04_linear_L1 p0 p1 p2) n1 (a5, a7) = some r) ∧ Own wr zy6 gy6 24 1 vy6 (a5.map uwc) ∧ Hdn (zy6 = 0 ∨ (gy6 = gw1 ∧ 1 ≠ 0) ∨ w1.heap.size ≤ gy6) ∧ Kz [(1, gw1)] w1 wr) (fun ⟨n1, a5, a7, vy6, zy6, gy6⟩ => n1) ⟨FUEL, l1, 0, vw1, 1, gw1⟩ ?_ ?_ ?_
  · repeat' first | exact trivial | refine ⟨rfl, ?_⟩
  · exact ⟨hm, Ow1, ⟨tk0⟩, Kz.refl _ _⟩
  · clear hm; rintro ⟨n1, a5, a7, vy6, zy6, gy6⟩ w2 ⟨hm, Fw2_0, Fw2_1, Kw2⟩
    have z6 := Kw2.size
    have lt7 := Fw2_0.lth
    have hb := fix_succ hm; clear hm; obtain ⟨n1, rfl, hm⟩ := hb
    generalize hrec1 : fixN (ref04_linear_L1 p0 p1 p2) n1 = rec1 at hm
    unfold ref04_linear_L1 at hm
    try dsimp only at hm
    refine sw_seq ?_
    refine sw_seq ?_
    -- region 3 ref.go:117
    refine sw_region [(0, 0), (1, 0), (2, 0), (3, 0)] rfl rfl rfl ?_
    refine sd_vv rfl rfl rfl (vv_move rfl) ?_
    refine sd_vv rfl rfl rfl (vv_move rfl) ?_
    have B8 := (Rd.kz B5 Kw2 (tk1 ((pv_sw (.inr (tk1 lt1.o))) : zp1 = 0 ∨ 1 = 0 ∨ gp1 ≠ gw1)))
    refine sd_vv rfl rfl rfl (vv_lenT (l := p1) (c := uwc) Try.underlying60 rfl B8) ?_
    refine sd_vv rfl rfl rfl (vv_lss (a := a7) (b := (p1.length : Int)) rfl rfl) ?_
    refine sd_done ?_
    refine sw_cond rfl (fun c1 => ?_) (fun c1 => ?_)
    ·
      replace hm := ite_t (of_decide_eq_true c1) hm
      refine sw_skip ?_
      refine then_n ?_
      refine sw_seq ?_
      refine sw_block ?_
      refine sw_seq ?_
      -- region 5 ref.go:118 DRAWS
      refine sw_drawN [([] ++ zf zy6 gy6), ([])] [(16, [1])] (.leaf [(0, 10), (1, 10), (2, 10), (3, 10), (4, 10), (5, 10), (6, 11), (7, 11), (8, 10), (9, 10), (10, 10), (11, 10), (12, 10), (13, 10), (14, 10), (15, 11), (16, 0)]) (by kernel_rfl) (by kernel_rfl) rfl (by kernel_rfl) ?_
      intro w3 Gw3 zw3
      refine sdz_leaf ?_
      refine dd_hn 0 rfl rfl rfl rfl (Kp.refl ([] ++ zf zy6 gy6) w3) (fun w hS => vv_move rfl) ?_
      refine dd_hn 0 rfl rfl rfl rfl (Kp.refl ([] ++ zf zy6 gy6) w3) (fun w hS => vv_move rfl) ?_
      refine dd_hn 0 rfl rfl rfl rfl (Kp.refl ([] ++ zf zy6 gy6) w3) (fun w hS => vv_add (k := .i64) (a := a7) (b := 1) rfl rfl) ?_
      refine dd_hn 0 rfl rfl rfl rfl (Kp.refl ([] ++ zf zy6 gy6) w3) (fun w hS => vv_move rfl) ?_
      refine dd_hn 0 rfl rfl rfl rfl (Kp.refl ([] ++ zf zy6 gy6) w3) (fun w hS => vv_move rfl) ?_
      refine dd_hn 0 rfl rfl rfl rfl (Kp.refl ([] ++ zf zy6 gy6) w3) (fun w hS => vv_add (k := .i64) (a := a7) (b := 1) rfl rfl) ?_
      have hb := bnd hm; clear hm; obtain ⟨y8, hy8, hm⟩ := hb
      have B9 := (Own.gr Fw2_0 Gw3)
      refine dd_hn 1 rfl rfl rfl rfl (Kp.refl ([]) w3) (fun w hS => vv_ixT (i := w64 (a7 + 1)) Try.underlying60 (one_24).siz rfl (Own.rd (Own.kp B9 hS)) rfl hy8) ?_
      refine dd_hn 1 rfl rfl rfl rfl (Kp.refl ([]) w3) (fun w hS => vv_el1T (q := 0) (u := wv y8) one_24 rfl (Own.rd (Own.kp B9 hS)) hy8 (by first | rfl | omega) rfl) ?_
      refine dd_hn 0 rfl rfl rfl rfl (Kp.refl ([] ++ zf zy6 gy6) w3) (fun w hS => vv_move rfl) ?_
      refine dd_hn 0 rfl rfl rfl rfl (Kp.refl ([] ++ zf zy6 gy6) w3) (fun w hS => vv_move rfl) ?_
      have hb := bnd hm; clear hm; obtain ⟨y9, hy9, hm⟩ := hb
      have B10 := (Rd.gr B8 Gw3)
      refine dd_hn 0 rfl rfl rfl rfl (Kp.refl ([] ++ zf zy6 gy6) w3) (fun w hS => vv_ixT (i := a7) Try.underlying60 (one_24).siz rfl (Rd.kp B10 hS (tk1 ((pv_sw (pv_1 (A := (fun x => zp1 = 0 ∨ x ≠ gp1)) Fw2_1 (.inr (tk1 lt1.o)) (fun x hx => (tk1 lt1.o)))) : zp1 = 0 ∨ zy6 = 0 ∨ gp1 ≠ gy6))) rfl hy9) ?_
      refine dd_hn 0 rfl rfl rfl rfl (Kp.refl ([] ++ zf zy6 gy6) w3) (fun w hS => vv_el1T (q := 0) (u := wv y9) one_24 rfl (Rd.kp B10 hS (tk1 ((pv_sw (pv_1 (A := (fun x => zp1 = 0 ∨ x ≠ gp1)) Fw2_1 (.inr (tk1 lt1.o)) (fun x hx => (tk1 lt1.o)))) : zp1 = 0 ∨ zy6 = 0 ∨ gp1 ≠ gy6))) hy9 (by first | rfl | omega) rfl) ?_
      refine dd_hn 0 rfl rfl rfl rfl (Kp.refl ([] ++ zf zy6 gy6) w3) (fun w hS => vv_uadd (a := y8) (b := y9) rfl rfl) ?_
      refine dd_hn 0 rfl rfl rfl rfl (Kp.refl ([] ++ zf zy6 gy6) w3) (fun w hS => vv_move rfl) ?_
      have hb := bnd hm; clear hm; obtain ⟨x10, hx10, hm⟩ := hb
      refine dd_hn 0 rfl rfl rfl rfl (Kp.refl ([] ++ zf zy6 gy6) w3) (fun w hS => vv_remU (c := y8 + y9) (d := p0) rfl rfl hx10) ?_
      have hb := bnd hm; clear hm; obtain ⟨y11, hy11, hm⟩ := hb
      refine dd_hn 1 rfl rfl rfl rfl (Kp.refl ([]) w3) (fun w hS => vv_ixT (i := w64 (a7 + 1)) Try.underlying60 (one_24).siz rfl (Own.rd (Own.kp B9 hS)) rfl hy11) ?_
      have zo11 := Own.z1 B9 hy11
      refine dd_z [(1, gy6)] rfl rfl rfl (ev_stEl (i := w64 (a7 + 1)) (q := 0) (a' := x10) (vs := [wv x10]) (c := uwc) (one_24).siz rfl rfl rfl rfl rfl B9 hy11 (by first | rfl | omega) rfl rfl ⟨rfl, rfl⟩) ⟨fun _ => (tk1 (tk0 : zy6 = 0 ∨ (gy6 = gy6 ∧ zy6 ≠ 0) ∨ w3.heap.size ≤ gy6)), nofun, trivial⟩ ?_
      rintro _ w4 ⟨Ow4, Mw4⟩
      have z12 := Mw4.size
      refine ⟨Kz.ofMd Mw4, ?_⟩
      refine sd_done ?_
      -- region 6 ref.go:119 DRAWS
      refine sw_drawN [([] ++ zf zy6 gy6), ([])] [(17, [1])] (.leaf [(0, 10), (1, 10), (2, 10), (3, 10), (4, 10), (5, 11), (6, 11), (7, 10), (8, 10), (9, 10), (10, 10), (11, 10), (12, 10), (13, 10), (14, 10), (15, 0), (16, 11), (17, 0)]) (by kernel_rfl) (by kernel_rfl) rfl (by kernel_rfl) ?_
      intro w5 Gw5 zw5
      refine sdz_leaf ?_
      refine dd_hn 0 rfl rfl rfl rfl (Kp.refl ([] ++ zf zy6 gy6) w5) (fun w hS => vv_move rfl) ?_
      refine dd_hn 0 rfl rfl rfl rfl (Kp.refl ([] ++ zf zy6 gy6) w5) (fun w hS => vv_move rfl) ?_
      refine dd_hn 0 rfl rfl rfl rfl (Kp.refl ([] ++ zf zy6 gy6) w5) (fun w hS => vv_move rfl) ?_
      refine dd_hn 0 rfl rfl rfl rfl (Kp.refl ([] ++ zf zy6 gy6) w5) (fun w hS => vv_move rfl) ?_
      refine dd_hn 0 rfl rfl rfl rfl (Kp.refl ([] ++ zf zy6 gy6) w5) (fun w hS => vv_move rfl) ?_
      have hb := bnd hm; clear hm; obtain ⟨y12, hy12, hm⟩ := hb
      have B13 := (Own.gr Ow4 Gw5)
      refine dd_hn 1 rfl rfl rfl rfl (Kp.refl ([]) w5) (fun w hS => vv_ixT (i := a7) Try.underlying60 (one_24).siz rfl (Own.rd (Own.kp B13 hS)) rfl hy12) ?_
      refine dd_hn 1 rfl rfl rfl rfl (Kp.refl ([]) w5) (fun w hS => vv_el1T (q := 0) (u := wv y12) one_24 rfl (Own.rd (Own.kp B13 hS)) hy12 (by first | rfl | omega) rfl) ?_
      refine dd_hn 0 rfl rfl rfl rfl (Kp.refl ([] ++ zf zy6 gy6) w5) (fun w hS => vv_move rfl) ?_
      refine dd_hn 0 rfl rfl rfl rfl (Kp.refl ([] ++ zf zy6 gy6) w5) (fun w hS => vv_move rfl) ?_
      have hb := bnd hm; clear hm; obtain ⟨y13, hy13, hm⟩ := hb
      have B14 := (Rd.gr (Rd.md B10 Mw4 (tk1 ((pv_sw (pv_1 (A := (fun x => zp1 = 0 ∨ x ≠ gp1)) Fw2_1 (.inr (tk1 lt1.o)) (fun x hx => (tk1 lt1.o)))) : zp1 = 0 ∨ zy6 = 0 ∨ gp1 ≠ gy6))) Gw5)
      refine dd_hn 0 rfl rfl rfl rfl (Kp.refl ([] ++ zf zy6 gy6) w5) (fun w hS => vv_ixT (i := a7) Try.underlying60 (one_24).siz rfl (Rd.kp B14 hS (tk1 ((pv_sw (pv_1 (A := (fun x => zp1 = 0 ∨ x ≠ gp1)) Fw2_1 (.inr (tk1 lt1.o)) (fun x hx => (tk1 lt1.o)))) : zp1 = 0 ∨ zy6 = 0 ∨ gp1 ≠ gy6))) rfl hy13) ?_
      refine dd_hn 0 rfl rfl rfl rfl (Kp.refl ([] ++ zf zy6 gy6) w5) (fun w hS => vv_el1T (q := 0) (u := wv y13) one_24 rfl (Rd.kp B14 hS (tk1 ((pv_sw (pv_1 (A := (fun x => zp1 = 0 ∨ x ≠ gp1)) Fw2_1 (.inr (tk1 lt1.o)) (fun x hx => (tk1 lt1.o)))) : zp1 = 0 ∨ zy6 = 0 ∨ gp1 ≠ gy6))) hy13 (by first | rfl | omega) rfl) ?_
      refine dd_hn 0 rfl rfl rfl rfl (Kp.refl ([] ++ zf zy6 gy6) w5) (fun w hS => vv_move rfl) ?_
      refine dd_hn 0 rfl rfl rfl rfl (Kp.refl ([] ++ zf zy6 gy6) w5) (fun w hS => vv_umul (a := y13) (b := p2) rfl rfl) ?_
      refine dd_hn 0 rfl rfl rfl rfl (Kp.refl ([] ++ zf zy6 gy6) w5) (fun w hS => vv_move rfl) ?_
      have hb := bnd hm; clear hm; obtain ⟨x14, hx14, hm⟩ := hb
      refine dd_hn 0 rfl rfl rfl rfl (Kp.refl ([] ++ zf zy6 gy6) w5) (fun w hS => vv_remU (c := y13 * p2) (d := p0) rfl rfl hx14) ?_
      have hb := bnd hm; clear hm; obtain ⟨x15, hx15, hm⟩ := hb
      refine dd_z [] rfl rfl rfl (ev_call en_126 rfl (ref04_minus_w p0 y12 x14 _ hx15 _)) ⟨fun _ => tk0, fun _ => tk0, trivial⟩ ?_
      rintro _ w6 ⟨rfl, Gw6⟩
      have z15 := Gw6.size
      refine ⟨Kz.ofGr Gw6, ?_⟩
      have hb := bnd hm; clear hm; obtain ⟨y16, hy16, hm⟩ := hb
      have S16 := (Kp.gr (Kp.refl ([]) w5) Gw6)
      refine dd_hn 1 rfl rfl rfl rfl S16 (fun w hS => vv_ixT (i := a7) Try.underlying60 (one_24).siz rfl (Own.rd (Own.kp B13 hS)) rfl hy16) ?_
      have B17 := (Own.gr B13 Gw6)
      have zo18 := Own.z1 B17 hy16
      refine dd_z [(1, gy6)] rfl rfl rfl (ev_stEl (i := a7) (q := 0) (a' := x15) (vs := [wv x15]) (c := uwc) (one_24).siz rfl rfl rfl rfl rfl B17 hy16 (by first | rfl | omega) rfl rfl ⟨rfl, rfl⟩) ⟨fun _ => (tk1 (tk0 : zy6 = 0 ∨ (gy6 = gy6 ∧ zy6 ≠ 0) ∨ w5.heap.size ≤ gy6)), nofun, trivial⟩ ?_
      rintro _ w7 ⟨Ow7, Mw7⟩
      have z19 := Mw7.size
      refine ⟨Kz.ofMd Mw7, ?_⟩
      refine sd_nil ?_
      refine block_n ?_
      refine then_n ?_
      -- region 4 ref.go:117
      refine sw_region [(0, 0), (1, 0), (2, 0)] rfl rfl rfl ?_
      refine sd_vv rfl rfl rfl (vv_move rfl) ?_
      refine sd_vv rfl rfl rfl (vv_add (k := .i64) (a := a7) (b := 1) rfl rfl) ?_
      refine sd_vv rfl rfl rfl (vv_assign rfl) ?_
      refine sd_nil ?_
      have K_20 : Kz [(1, gw1)] w1 w7 := (Kz.md (Kz.gr (Kz.gr (Kz.md (Kz.gr Kw2 Gw3) Mw4 (tk1 ((pv_1 (A := (fun x => (x = gw1 ∧ 1 ≠ 0) ∨ w1.heap.size ≤ x)) Fw2_1 tk0) : zy6 = 0 ∨ (gy6 = gw1 ∧ 1 ≠ 0) ∨ w1.heap.size ≤ gy6))) Gw5) Gw6) Mw7 (tk1 ((pv_1 (A := (fun x => (x = gw1 ∧ 1 ≠ 0) ∨ w1.heap.size ≤ x)) Fw2_1 tk0) : zy6 = 0 ∨ (gy6 = gw1 ∧ 1 ≠ 0) ∨ w1.heap.size ≤ gy6)))
      subst hrec1
      refine ⟨rfl, ⟨n1, (a5.set (w64 (a7 + 1)).toNat x10).set a7.toNat x15, w64 (a7 + 1), vy6, zy6, gy6⟩, ?_, ⟨hm, Ow7, ⟨(pv_1 (A := (fun x => (x = gw1 ∧ 1 ≠ 0) ∨ w1.heap.size ≤ x)) Fw2_1 tk0)⟩, K_20⟩, Nat.lt_succ_self _⟩
      repeat' first | exact trivial | refine ⟨rfl, ?_⟩
    ·
      replace hm := ite_f (of_decide_eq_false c1) hm
      refine sw_exit ?_
      refine then_x ?_
      refine then_x ?_
      refine block_x ?_
      refine then_n ?_
      refine sw_seq ?_
      -- region 7 ref.go:121
      refine sw_region [(0, 0), (1, 0)] rfl rfl rfl ?_
      refine sd_vv rfl rfl rfl (vv_move rfl) ?_
      refine sd_vv rfl rfl rfl (vv_assign rfl) ?_
      refine sd_done ?_
      refine sw_ret ?_
      have X21 : Gr w w2 := (Gr.kz X4 Kw2 (tk1 ((.inr tk0) : 1 = 0 ∨ w.heap.size ≤ gw1)))
      have hr := Option.some.inj hm
      subst hr
      refine ⟨_, _, rfl, res_1 rfl (rv_tmp rfl), ?_⟩
      exact ⟨vy6, zy6, gy6, rfl, Fw2_0, ⟨(pv_1 (A := (fun x => w.heap.size ≤ x)) Fw2_1 (.inr tk0))⟩, X21⟩

set_option maxHeartbeats 2000000 in
theorem ref04_Lie_w (p0 : BitVec 64) (p1 : List TPoint) (vp1 : Value) (zp1 gp1 op1 : Nat) (r : List (BitVec 64)) (hm : ref04_Lie p0 p1 = some r) (w : World) (hp1 : Rd w zp1 gp1 op1 2 vp1 (p1.map TPoint.cs))  :
    Calls Try.prog 92 [wv p0, vp1].toArray w fun e w' => ∃ v, e = .returned v ∧ (∃ (ur0_s : Value) (zr0_s : Nat) (gr0_s : Nat), v = ur0_s ∧ Own w' zr0_s gr0_s 24 1 ur0_s (r.map uwc) ∧ Hdn (zr0_s = 0 ∨ w.heap.size ≤ gr0_s) ∧ Gr w w') := by
  have lt1 := hp1.lth
  unfold ref04_Lie at hm
  refine calls_of_sw (R := fun v w' => ∃ (ur0_s : Value) (zr0_s : Nat) (gr0_s : Nat), v = ur0_s ∧ Own w' zr0_s gr0_s 24 1 ur0_s (r.map uwc) ∧ Hdn (zr0_s = 0 ∨ w.heap.size ≤ gr0_s) ∧ Gr w w') 100 Try.func92 rfl rfl rfl ?_
  refine sw_seq ?_
  -- region 0 ref.go:125
  refine sw_region [(0, 0)] rfl rfl rfl ?_
  refine sd_vv rfl rfl rfl (vv_assign rfl) ?_
  refine sd_done ?_
  refine sw_seq ?_
  -- region 1 ref.go:126
  refine sw_region [(0, 0), (1, 0), (2, 0), (3, 0)] rfl rfl rfl ?_
  refine sd_vv rfl rfl rfl (vv_move rfl) ?_
  refine sd_vv rfl rfl rfl (vv_lenT (l := p1) (c := TPoint.cs) Try.underlying43 rfl hp1) ?_
  have hb := bnd hm; clear hm; obtain ⟨l1, hl1, hm⟩ := hb
  refine sd_ev rfl rfl rfl (ev_mkT (c := uwc) (a := 0#64) apt_60 zv_24 rfl ⟨rfl, rfl⟩ rfl hl1 (by decide)) ?_
  rintro vw1 w1 ⟨gw1, hbw1, Ow1, Gw1⟩
  have z2 := Gw1.size
  have lt3 := Ow1.lth
  refine sd_vv rfl rfl rfl (vv_assign rfl) ?_
  refine sd_done ?_
  refine sw_seq ?_
  refine sw_seq ?_
  -- region 2 ref.go:127
  refine sw_region [(0, 0)] rfl rfl rfl ?_
  refine sd_vv rfl rfl rfl (vv_assign rfl) ?_
  refine sd_done ?_
  refine sw_block ?_
  have X4 : Gr w w1 := (Gr.trans (Gr.refl w) Gw1)
  have B5 := (Rd.gr hp1 Gw1)
  refine sw_loopD (α := Nat × List (BitVec 64) × Int × Value × Nat × Nat) [5, 6, 7, 8, 9, 10, 11, 12, 16, 17, 18, 19, 20, 21, 22, 23, 24, 25, 26, 27, 28, 29, 30, 31, 32, 33, 34, 35, 36, 37, 38, 39, 40, 41, 42, 43, 44, 45, 46, 47, 48, 49, 50, 51, 52, 53, 54, 55, 56, 57, 58, 59, 60, 61, 62, 63, 64, 65, 66, 67, 68, 69, 70, 71, 72, 73, 74, 75, 76, 77, 78, 79, 80, 81, 82, 83, 84, 85, 86, 87, 88, 89, 90, 91, 92, 93, 94, 95, 96, 97, 98] (fun ⟨n1, a5, a7, vy6, zy6, gy6⟩ => [(5, vy6), (6, .int .i64 a7)]) (fun ⟨n1, a5, a7, vy6, zy6, gy6⟩ wr => (fixN (ref04_Lie_L1 p0 p1) n1 (a5, a7) = some r) ∧ Own wr zy6 gy6 24 1 vy6 (a5.map uwc) ∧ Hdn (zy6 = 0 ∨ (gy6 = gw1 ∧ 1 ≠ 0) ∨ w1.heap.size ≤ gy6) ∧ Kz [(1, gw1)] w1 wr) (fun ⟨n1, a5, a7, vy6, zy6, gy6⟩ => n1) ⟨FUEL, l1, 0, vw1, 1, gw1⟩ ?_ ?_ ?_
  · repeat' first | exact trivial | refine ⟨rfl, ?_⟩
  · exact ⟨hm, Ow1, ⟨tk0⟩, Kz.refl _ _⟩
  · clear hm; rintro ⟨n1, a5, a7, vy6, zy6, gy6⟩ w2 ⟨hm, Fw2_0, Fw2_1, Kw2⟩
    have z6 := Kw2.size
    have lt7 := Fw2_0.lth
    have hb := fix_succ hm; clear hm; obtain ⟨n1, rfl, hm⟩ := hb
    generalize hrec1 : fixN (ref04_Lie_L1 p0 p1) n1 = rec1 at hm
    unfold ref04_Lie_L1 at hm
    try dsimp only at hm
    refine sw_seq ?_
    refine sw_seq ?_
    -- region 3 ref.go:127
    refine sw_region [(0, 0), (1, 0), (2, 0), (3, 0)] rfl rfl rfl ?_
    refine sd_vv rfl rfl rfl (vv_move rfl) ?_
    refine sd_vv rfl rfl rfl (vv_move rfl) ?_
    have B8 := (Rd.kz B5 Kw2 (tk1 ((pv_sw (.inr (tk1 lt1.o))) : zp1 = 0 ∨ 1 = 0 ∨ gp1 ≠ gw1)))
    refine sd_vv rfl rfl rfl (vv_lenT (l := p1) (c := TPoint.cs) Try.underlying43 rfl B8) ?_
    refine sd_vv rfl rfl rfl (vv_lss (a := a7) (b := (p1.length : Int)) rfl rfl) ?_
    refine sd_done ?_
    refine sw_cond rfl (fun c1 => ?_) (fun c1 => ?_)
    ·
      replace hm := ite_t (of_decide_eq_true c1) hm
      refine sw_skip ?_
      refine then_n ?_
      refine sw_seq ?_
      refine sw_block ?_
      refine sw_seq ?_
      -- region 5 ref.go:128
      refine sw_region [(0, 0), (1, 0), (2, 0), (3, 0), (4, 0), (5, 0), (6, 0)] rfl rfl rfl ?_
      refine sd_vv rfl rfl rfl (vv_move rfl) ?_
      refine sd_vv rfl rfl rfl (vv_move rfl) ?_
      have hb := bnd hm; clear hm; obtain ⟨y8, hy8, hm⟩ := hb
      refine sd_vv rfl rfl rfl (vv_ixT (i := a7) Try.underlying43 (agg_31).siz rfl B8 rfl hy8) ?_
      refine sd_vv rfl rfl rfl (vv_fieldAddr fa_31_1 rfl) ?_
      refine sd_vv rfl rfl rfl (vv_el1T (q := 1) (u := wv y8.Y) one_24 rfl B8 hy8 (by first | rfl | omega) rfl) ?_
      refine sd_ev rfl rfl rfl (ev_litT [y8.Y] uwc bsl_60_1 rfl rfl (ws_of rfl) rfl rfl rfl) ?_
      rintro vw3 w3 ⟨gw3, hbw3, Ow3, Gw3⟩
      have z9 := Gw3.size
      have lt10 := Ow3.lth
      refine sd_vv rfl rfl rfl (vv_assign rfl) ?_
      refine sd_done ?_
      refine sw_seq ?_
      refine sw_seq ?_
      -- region 6 ref.go:129
      refine sw_region [(0, 0)] rfl rfl rfl ?_
      refine sd_vv rfl rfl rfl (vv_assign rfl) ?_
      refine sd_done ?_
      refine sw_block ?_
      have X11 : Gr w w3 := (Gr.trans (Gr.kz X4 Kw2 (tk1 ((.inr tk0) : 1 = 0 ∨ w.heap.size ≤ gw1))) Gw3)
      have B12 := (Rd.gr B8 Gw3)
      have B13 := (Own.gr Fw2_0 Gw3)
      refine sw_loopD (α := Nat × List (BitVec 64) × Int × Value × Nat × Nat) [7, 8, 9, 10, 11, 28, 29, 30, 31, 32, 33, 34, 35, 36, 37, 38, 39, 40, 41, 42, 43, 44, 45, 46, 47, 48, 49, 50, 51, 52, 53, 54, 55, 56, 57, 58, 59, 60, 61, 62, 63, 64, 65, 66, 67, 68, 69, 70, 71, 72, 73, 74, 75, 76, 77, 78] (fun ⟨n2, a12, a14, vy13, zy13, gy13⟩ => [(7, vy13), (8, .int .i64 a14)]) (fun ⟨n2, a12, a14, vy13, zy13, gy13⟩ wr => (fixN (ref04_Lie_L2 p0 p1 a5 a7 rec1) n2 (a12, a14) = some r) ∧ Own wr zy13 gy13 24 1 vy13 (a12.map uwc) ∧ Hdn (zy13 = 0 ∨ (gy13 = gw3 ∧ 1 ≠ 0) ∨ w3.heap.size ≤ gy13) ∧ Kz [(1, gw3)] w3 wr) (fun ⟨n2, a12, a14, vy13, zy13, gy13⟩ => n2) ⟨FUEL, [y8.Y], 0, vw3, 1, gw3⟩ ?_ ?_ ?_
      · repeat' first | exact trivial | refine ⟨rfl, ?_⟩
      · exact ⟨hm, Ow3, ⟨tk0⟩, Kz.refl _ _⟩
      · clear hm; rintro ⟨n2, a12, a14, vy13, zy13, gy13⟩ w4 ⟨hm, Fw4_0, Fw4_1, Kw4⟩
        have z14 := Kw4.size
        have lt15 := Fw4_0.lth
        have hb := fix_succ hm; clear hm; obtain ⟨n2, rfl, hm⟩ := hb
        generalize hrec2 : fixN (ref04_Lie_L2 p0 p1 a5 a7 rec1) n2 = rec2 at hm
        unfold ref04_Lie_L2 at hm
        try dsimp only at hm
        refine sw_seq ?_
        refine sw_seq ?_
        -- region 7 ref.go:129
        refine sw_region [(0, 0), (1, 0), (2, 0), (3, 0)] rfl rfl rfl ?_
        refine sd_vv rfl rfl rfl (vv_move rfl) ?_
        refine sd_vv rfl rfl rfl (vv_move rfl) ?_
        have B16 := (Rd.kz B12 Kw4 (tk1 ((pv_sw (.inr (tk1 lt1.o))) : zp1 = 0 ∨ 1 = 0 ∨ gp1 ≠ gw3)))
        refine sd_vv rfl rfl rfl (vv_lenT (l := p1) (c := TPoint.cs) Try.underlying43 rfl B16) ?_
        refine sd_vv rfl rfl rfl (vv_lss (a := a14) (b := (p1.length : Int)) rfl rfl) ?_
        refine sd_done ?_
        refine sw_cond rfl (fun c2 => ?_) (fun c2 => ?_)
        ·
          replace hm := ite_t (of_decide_eq_true c2) hm
          refine sw_skip ?_
          refine then_n ?_
          refine sw_seq ?_
          refine sw_block ?_
          refine sw_seq ?_
          refine sw_seq ?_
          -- region 9 ref.go:130
          refine sw_region [(0, 0), (1, 0), (2, 0)] rfl rfl rfl ?_
          refine sd_vv rfl rfl rfl (vv_move rfl) ?_
          refine sd_vv rfl rfl rfl (vv_move rfl) ?_
          refine sd_vv rfl rfl rfl (vv_eql (a := a14) (b := a7) rfl rfl) ?_
          refine sd_done ?_
          refine sw_cond rfl (fun c3 => ?_) (fun c3 => ?_)
          ·
            replace hm := ite_t (of_decide_eq_true c3) hm
            refine sw_exit ?_
            refine then_x ?_
            refine block_x ?_
            refine then_n ?_
            -- region 8 ref.go:129
            refine sw_region [(0, 0), (1, 0), (2, 0)] rfl rfl rfl ?_
            refine sd_vv rfl rfl rfl (vv_move rfl) ?_
            refine sd_vv rfl rfl rfl (vv_add (k := .i64) (a := a14) (b := 1) rfl rfl) ?_
            refine sd_vv rfl rfl rfl (vv_assign rfl) ?_
            refine sd_nil ?_
            have K_17 : Kz [(1, gw3)] w3 w4 := Kw4
            subst hrec2
            refine ⟨rfl, ⟨n2, a12, w64 (a14 + 1), vy13, zy13, gy13⟩, ?_, ⟨hm, Fw4_0, ⟨(pv_1 (A := (fun x => (x = gw3 ∧ 1 ≠ 0) ∨ w3.heap.size ≤ x)) Fw4_1 tk0)⟩, K_17⟩, Nat.lt_succ_self _⟩
            repeat' first | exact trivial | refine ⟨rfl, ?_⟩
          ·
            replace hm := ite_f (of_decide_eq_false c3) hm
            refine sw_skip ?_
            refine then_n ?_
            refine sw_seq ?_
            -- region 10 ref.go:133 DRAWS
            refine sw_drawN [([])] [] (.leaf [(0, 10), (1, 10), (2, 10), (3, 10), (4, 10), (5, 10), (6, 10), (7, 10), (8, 10), (9, 10), (10, 10), (12, 10), (11, 0), (13, 0), (14, 10), (15, 10), (16, 10), (17, 10), (18, 10)]) (by kernel_rfl) (by kernel_rfl) rfl (by kernel_rfl) ?_
            intro w5 Gw5 zw5
            refine sdz_leaf ?_
            refine dd_hn 0 rfl rfl rfl rfl (Kp.refl ([]) w5) (fun w hS => vv_move rfl) ?_
            refine dd_hn 0 rfl rfl rfl rfl (Kp.refl ([]) w5) (fun w hS => vv_move rfl) ?_
            refine dd_hn 0 rfl rfl rfl rfl (Kp.refl ([]) w5) (fun w hS => vv_move rfl) ?_
            have hb := bnd hm; clear hm; obtain ⟨y15, hy15, hm⟩ := hb
            have B18 := (Rd.gr B16 Gw5)
            refine dd_hn 0 rfl rfl rfl rfl (Kp.refl ([]) w5) (fun w hS => vv_ixT (i := a7) Try.underlying43 (agg_31).siz rfl (Rd.kp B18 hS) rfl hy15) ?_
            refine dd_hn 0 rfl rfl rfl rfl (Kp.refl ([]) w5) (fun w hS => vv_fieldAddr fa_31_0 rfl) ?_
            refine dd_hn 0 rfl rfl rfl rfl (Kp.refl ([]) w5) (fun w hS => vv_el1T (q := 0) (u := wv y15.X) one_24 rfl (Rd.kp B18 hS) hy15 (by first | rfl | omega) rfl) ?_
            refine dd_hn 0 rfl rfl rfl rfl (Kp.refl ([]) w5) (fun w hS => vv_move rfl) ?_
            refine dd_hn 0 rfl rfl rfl rfl (Kp.refl ([]) w5) (fun w hS => vv_move rfl) ?_
            have hb := bnd hm; clear hm; obtain ⟨y16, hy16, hm⟩ := hb
            refine dd_hn 0 rfl rfl rfl rfl (Kp.refl ([]) w5) (fun w hS => vv_ixT (i := a14) Try.underlying43 (agg_31).siz rfl (Rd.kp B18 hS) rfl hy16) ?_
            refine dd_hn 0 rfl rfl rfl rfl (Kp.refl ([]) w5) (fun w hS => vv_fieldAddr fa_31_0 rfl) ?_
            refine dd_hn 0 rfl rfl rfl rfl (Kp.refl ([]) w5) (fun w hS => vv_el1T (q := 0) (u := wv y16.X) one_24 rfl (Rd.kp B18 hS) hy16 (by first | rfl | omega) rfl) ?_
            refine dd_hn 0 rfl rfl rfl rfl (Kp.refl ([]) w5) (fun w hS => vv_move rfl) ?_
            have hb := bnd hm; clear hm; obtain ⟨x17, hx17, hm⟩ := hb
            refine dd_z [] rfl rfl rfl (ev_call en_126 rfl (ref04_minus_w p0 y15.X y16.X _ hx17 _)) ⟨fun _ => tk0, trivial⟩ ?_
            rintro _ w6 ⟨rfl, Gw6⟩
            have z19 := Gw6.size
            refine ⟨Kz.ofGr Gw6, ?_⟩
            have hb := bnd hm; clear hm; obtain ⟨x18, hx18, hm⟩ := hb
            refine dd_z [] rfl rfl rfl (ev_call en_125 rfl (ref01_Inverse_w x17 p0 _ hx18 _)) ⟨fun _ => tk0, trivial⟩ ?_
            rintro _ w7 ⟨rfl, Gw7⟩
            have z20 := Gw7.size
            refine ⟨Kz.ofGr Gw7, ?_⟩
            have S21 := (Kp.gr (Kp.gr (Kp.refl ([]) w5) Gw6) Gw7)
            refine dd_hn 0 rfl rfl rfl rfl S21 (fun w hS => vv_move rfl) ?_
            refine dd_hn 0 rfl rfl rfl rfl S21 (fun w hS => vv_extract rfl rfl) ?_
            refine dd_hn 0 rfl rfl rfl rfl S21 (fun w hS => vv_extract rfl rfl) ?_
            refine dd_hn 0 rfl rfl rfl rfl S21 (fun w hS => vv_assign rfl) ?_
            refine dd_hn 0 rfl rfl rfl rfl S21 (fun w hS => vv_assign rfl) ?_
            refine sd_done ?_
            refine sw_seq ?_
            -- region 11 ref.go:134
            refine sw_region [(0, 0), (1, 0), (2, 0), (3, 0), (4, 0), (5, 0), (6, 0), (7, 0), (8, 0)] rfl rfl rfl ?_
            refine sd_vv rfl rfl rfl (vv_move rfl) ?_
            refine sd_vv rfl rfl rfl (vv_move rfl) ?_
            refine sd_vv rfl rfl rfl (vv_move rfl) ?_
            refine sd_vv rfl rfl rfl (vv_move rfl) ?_
            have hb := bnd hm; clear hm; obtain ⟨y19, hy19, hm⟩ := hb
            have B22 := (Rd.gr (Rd.gr B18 Gw6) Gw7)
            refine sd_vv rfl rfl rfl (vv_ixT (i := a14) Try.underlying43 (agg_31).siz rfl B22 rfl hy19) ?_
            refine sd_vv rfl rfl rfl (vv_fieldAddr fa_31_0 rfl) ?_
            refine sd_vv rfl rfl rfl (vv_el1T (q := 0) (u := wv y19.X) one_24 rfl B22 hy19 (by first | rfl | omega) rfl) ?_
            have B23 := (Own.gr (Own.gr (Own.gr Fw4_0 Gw5) Gw6) Gw7)
            have hb := bnd hm; clear hm; obtain ⟨x20, hx20, hm⟩ := hb
            refine sd_ev rfl rfl rfl (ev_call en_135 rfl (ref04_linear_w p0 a12 y19.X _ _ _ _ _ hx20 _ (Own.rd B23))) ?_
            rintro u8_r0_s w8 ⟨_, z8_r0_s, g8_r0_s, rfl, O8_r0_s, f8_r0_s, Gw8⟩
            have z24 := Gw8.size
            have lt25 := O8_r0_s.lth
            refine sd_vv rfl rfl rfl (vv_assign rfl) ?_
            refine sd_done ?_
            refine sw_seq ?_
            -- region 12 ref.go:135
            refine sw_region [(0, 0)] rfl rfl rfl ?_
            refine sd_vv rfl rfl rfl (vv_assign rfl) ?_
            refine sd_done ?_
            refine sw_block ?_
            have X26 : Gr w w8 := (Gr.trans (Gr.trans (Gr.trans (Gr.trans (Gr.kz X11 Kw4 (tk1 ((.inr tk0) : 1 = 0 ∨ w.heap.size ≤ gw3))) Gw5) Gw6) Gw7) Gw8)
            have B27 := (Rd.gr B22 Gw8)
            have B28 := (Own.gr (Own.gr (Own.gr (Own.gr (Own.kz B13 Kw4 (tk1 ((pv_sw (.inr (tk1 lt7.o))) : zy6 = 0 ∨ 1 = 0 ∨ gy6 ≠ gw3))) Gw5) Gw6) Gw7) Gw8)
            have B29 := (Own.gr B23 Gw8)
            refine sw_loopD (α := Nat × List (BitVec 64) × Int × Value × Nat × Nat) [7, 11, 62, 63, 64, 65, 66, 67, 68, 69, 70, 71, 72, 73, 74, 75, 76, 77, 78] (fun ⟨n3, a24, a26, vy25, zy25, gy25⟩ => [(7, vy25), (11, .int .i64 a26)]) (fun ⟨n3, a24, a26, vy25, zy25, gy25⟩ wr => (fixN (ref04_Lie_L3 p0 a14 rec2 x18) n3 (a24, a26) = some r) ∧ Own wr zy25 gy25 24 1 vy25 (a24.map uwc) ∧ Hdn (zy25 = 0 ∨ (gy25 = g8_r0_s ∧ z8_r0_s ≠ 0) ∨ w8.heap.size ≤ gy25) ∧ Kz [(z8_r0_s, g8_r0_s)] w8 wr) (fun ⟨n3, a24, a26, vy25, zy25, gy25⟩ => n3) ⟨FUEL, x20, 0, u8_r0_s, z8_r0_s, g8_r0_s⟩ ?_ ?_ ?_
            · repeat' first | exact trivial | refine ⟨rfl, ?_⟩
            · exact ⟨hm, O8_r0_s, ⟨tk0⟩, Kz.refl _ _⟩
            · clear hm; rintro ⟨n3, a24, a26, vy25, zy25, gy25⟩ w9 ⟨hm, Fw9_0, Fw9_1, Kw9⟩
              have z30 := Kw9.size
              have lt31 := Fw9_0.lth
              have hb := fix_succ hm; clear hm; obtain ⟨n3, rfl, hm⟩ := hb
              generalize hrec3 : fixN (ref04_Lie_L3 p0 a14 rec2 x18) n3 = rec3 at hm
              unfold ref04_Lie_L3 at hm
              try dsimp only at hm
              refine sw_seq ?_
              refine sw_seq ?_
              -- region 13 ref.go:135
              refine sw_region [(0, 0), (1, 0), (2, 0), (3, 0)] rfl rfl rfl ?_
              refine sd_vv rfl rfl rfl (vv_move rfl) ?_
              refine sd_vv rfl rfl rfl (vv_move rfl) ?_
              refine sd_vv rfl rfl rfl (vv_lenT (l := a24) (c := uwc) Try.underlying60 rfl (Own.rd Fw9_0)) ?_
              refine sd_vv rfl rfl rfl (vv_lss (a := a26) (b := (a24.length : Int)) rfl rfl) ?_
              refine sd_done ?_
              refine sw_cond rfl (fun c4 => ?_) (fun c4 => ?_)
              ·
                replace hm := ite_t (of_decide_eq_true c4) hm
                refine sw_skip ?_
                refine then_n ?_
                refine sw_seq ?_
                refine sw_block ?_
                -- region 15 ref.go:136
                refine sw_region [(0, 0), (1, 0), (2, 0), (3, 0), (4, 0), (5, 0), (6, 0), (7, 0), (8, 0), (9, 0), (10, 0), (11, 0)] rfl rfl rfl ?_
                refine sd_vv rfl rfl rfl (vv_move rfl) ?_
                refine sd_vv rfl rfl rfl (vv_move rfl) ?_
                refine sd_vv rfl rfl rfl (vv_move rfl) ?_
                refine sd_vv rfl rfl rfl (vv_move rfl) ?_
                have hb := bnd hm; clear hm; obtain ⟨y27, hy27, hm⟩ := hb
                refine sd_vv rfl rfl rfl (vv_ixT (i := a26) Try.underlying60 (one_24).siz rfl (Own.rd Fw9_0) rfl hy27) ?_
                refine sd_vv rfl rfl rfl (vv_el1T (q := 0) (u := wv y27) one_24 rfl (Own.rd Fw9_0) hy27 (by first | rfl | omega) rfl) ?_
                refine sd_vv rfl rfl rfl (vv_move rfl) ?_
                refine sd_vv rfl rfl rfl (vv_umul (a := y27) (b := x18.1) rfl rfl) ?_
                refine sd_vv rfl rfl rfl (vv_move rfl) ?_
                have hb := bnd hm; clear hm; obtain ⟨x28, hx28, hm⟩ := hb
                refine sd_vv rfl rfl rfl (vv_remU (c := y27 * x18.1) (d := p0) rfl rfl hx28) ?_
                have hb := bnd hm; clear hm; obtain ⟨y29, hy29, hm⟩ := hb
                refine sd_vv rfl rfl rfl (vv_ixT (i := a26) Try.underlying60 (one_24).siz rfl (Own.rd Fw9_0) rfl hy29) ?_
                have zo32 := Own.z1 Fw9_0 hy29
                refine sd_ev rfl rfl rfl (ev_stEl (i := a26) (q := 0) (a' := x28) (vs := [wv x28]) (c := uwc) (one_24).siz rfl rfl rfl rfl rfl Fw9_0 hy29 (by first | rfl | omega) rfl rfl ⟨rfl, rfl⟩) ?_
                rintro _ w10 ⟨Ow10, Mw10⟩
                have z33 := Mw10.size
                refine sd_nil ?_
                refine block_n ?_
                refine then_n ?_
                -- region 14 ref.go:135
                refine sw_region [(0, 0), (1, 0), (2, 0)] rfl rfl rfl ?_
                refine sd_vv rfl rfl rfl (vv_move rfl) ?_
                refine sd_vv rfl rfl rfl (vv_add (k := .i64) (a := a26) (b := 1) rfl rfl) ?_
                refine sd_vv rfl rfl rfl (vv_assign rfl) ?_
                refine sd_nil ?_
                have K_34 : Kz [(z8_r0_s, g8_r0_s)] w8 w10 := (Kz.md Kw9 Mw10 (tk1 ((pv_1 (A := (fun x => (x = g8_r0_s ∧ z8_r0_s ≠ 0) ∨ w8.heap.size ≤ x)) Fw9_1 tk0) : zy25 = 0 ∨ (gy25 = g8_r0_s ∧ z8_r0_s ≠ 0) ∨ w8.heap.size ≤ gy25)))
                subst hrec3
                refine ⟨rfl, ⟨n3, a24.set a26.toNat x28, w64 (a26 + 1), vy25, zy25, gy25⟩, ?_, ⟨hm, Ow10, ⟨(pv_1 (A := (fun x => (x = g8_r0_s ∧ z8_r0_s ≠ 0) ∨ w8.heap.size ≤ x)) Fw9_1 tk0)⟩, K_34⟩, Nat.lt_succ_self _⟩
                repeat' first | exact trivial | refine ⟨rfl, ?_⟩
              ·
                replace hm := ite_f (of_decide_eq_false c4) hm
                refine sw_exit ?_
                refine then_x ?_
                refine then_x ?_
                refine block_x ?_
                refine block_n ?_
                refine then_n ?_
                -- region 8 ref.go:129
                refine sw_region [(0, 0), (1, 0), (2, 0)] rfl rfl rfl ?_
                refine sd_vv rfl rfl rfl (vv_move rfl) ?_
                refine sd_vv rfl rfl rfl (vv_add (k := .i64) (a := a14) (b := 1) rfl rfl) ?_
                refine sd_vv rfl rfl rfl (vv_assign rfl) ?_
                refine sd_nil ?_
                have K_35 : Kz [(1, gw3)] w3 w9 := (Kz.kz (Kz.gr (Kz.gr (Kz.gr (Kz.gr Kw4 Gw5) Gw6) Gw7) Gw8) Kw9 (tk1 ((pv_0 (A := (fun x => (x = gw3 ∧ 1 ≠ 0) ∨ w3.heap.size ≤ x)) f8_r0_s) : z8_r0_s = 0 ∨ (g8_r0_s = gw3 ∧ 1 ≠ 0) ∨ w3.heap.size ≤ g8_r0_s)))
                subst hrec2
                refine ⟨rfl, ⟨n2, a24, w64 (a14 + 1), vy25, zy25, gy25⟩, ?_, ⟨hm, Fw9_0, ⟨(pv_1 (A := (fun x => (x = gw3 ∧ 1 ≠ 0) ∨ w3.heap.size ≤ x)) Fw9_1 (pv_0 (A := (fun x => (x = gw3 ∧ 1 ≠ 0) ∨ w3.heap.size ≤ x)) f8_r0_s))⟩, K_35⟩, Nat.lt_succ_self _⟩
                repeat' first | exact trivial | refine ⟨rfl, ?_⟩
        ·
          replace hm := ite_f (of_decide_eq_false c2) hm
          refine sw_exit ?_
          refine then_x ?_
          refine then_x ?_
          refine block_x ?_
          refine then_n ?_
          refine sw_seq ?_
          -- region 16 ref.go:139
          refine sw_region [(0, 0)] rfl rfl rfl ?_
          refine sd_vv rfl rfl rfl (vv_assign rfl) ?_
          refine sd_done ?_
          refine sw_block ?_
          have X36 : Gr w w4 := (Gr.kz X11 Kw4 (tk1 ((.inr tk0) : 1 = 0 ∨ w.heap.size ≤ gw3)))
          have B37 := (Own.kz B13 Kw4 (tk1 ((pv_sw (.inr (tk1 lt7.o))) : zy6 = 0 ∨ 1 = 0 ∨ gy6 ≠ gw3)))
          refine sw_loopD (α := Nat × List (BitVec 64) × Int × Value × Nat × Nat) [5, 12, 79, 80, 81, 82, 83, 84, 85, 86, 87, 88, 89, 90, 91, 92, 93, 94, 95, 96, 97, 98] (fun ⟨n4, a33, a35, vy34, zy34, gy34⟩ => [(5, vy34), (12, .int .i64 a35)]) (fun ⟨n4, a33, a35, vy34, zy34, gy34⟩ wr => (fixN (ref04_Lie_L4 p0 a7 rec1 a12) n4 (a33, a35) = some r) ∧ Own wr zy34 gy34 24 1 vy34 (a33.map uwc) ∧ Hdn (zy34 = 0 ∨ (gy34 = gy6 ∧ zy6 ≠ 0) ∨ w4.heap.size ≤ gy34) ∧ Kz [(zy6, gy6)] w4 wr) (fun ⟨n4, a33, a35, vy34, zy34, gy34⟩ => n4) ⟨FUEL, a5, 0, vy6, zy6, gy6⟩ ?_ ?_ ?_
          · repeat' first | exact trivial | refine ⟨rfl, ?_⟩
          · exact ⟨hm, B37, ⟨tk0⟩, Kz.refl _ _⟩
          · clear hm; rintro ⟨n4, a33, a35, vy34, zy34, gy34⟩ w11 ⟨hm, Fw11_0, Fw11_1, Kw11⟩
            have z38 := Kw11.size
            have lt39 := Fw11_0.lth
            have hb := fix_succ hm; clear hm; obtain ⟨n4, rfl, hm⟩ := hb
            generalize hrec4 : fixN (ref04_Lie_L4 p0 a7 rec1 a12) n4 = rec4 at hm
            unfold ref04_Lie_L4 at hm
            try dsimp only at hm
            refine sw_seq ?_
            refine sw_seq ?_
            -- region 17 ref.go:139
            refine sw_region [(0, 0), (1, 0), (2, 0), (3, 0)] rfl rfl rfl ?_
            refine sd_vv rfl rfl rfl (vv_move rfl) ?_
            refine sd_vv rfl rfl rfl (vv_move rfl) ?_
            have B40 := (Own.kz Fw4_0 Kw11 (tk1 ((pv_1 (A := (fun x => zy6 = 0 ∨ x ≠ gy6)) Fw4_1 (.inr (tk1 lt7.o)) (fun x hx => (tk1 lt7.o))) : zy13 = 0 ∨ zy6 = 0 ∨ gy13 ≠ gy6)))
            refine sd_vv rfl rfl rfl (vv_lenT (l := a12) (c := uwc) Try.underlying60 rfl (Own.rd B40)) ?_
            refine sd_vv rfl rfl rfl (vv_lss (a := a35) (b := (a12.length : Int)) rfl rfl) ?_
            refine sd_done ?_
            refine sw_cond rfl (fun c5 => ?_) (fun c5 => ?_)
            ·
              replace hm := ite_t (of_decide_eq_true c5) hm
              refine sw_skip ?_
              refine then_n ?_
              refine sw_seq ?_
              refine sw_block ?_
              -- region 19 ref.go:140 DRAWS
              refine sw_drawN [([] ++ zf zy34 gy34), ([])] [(14, [1])] (.leaf [(0, 10), (1, 10), (2, 10), (3, 10), (4, 11), (5, 11), (6, 10), (7, 10), (8, 10), (9, 10), (10, 10), (11, 10), (12, 10), (13, 11), (14, 0)]) (by kernel_rfl) (by kernel_rfl) rfl (by kernel_rfl) ?_
              intro w12 Gw12 zw12
              refine sdz_leaf ?_
              refine dd_hn 0 rfl rfl rfl rfl (Kp.refl ([] ++ zf zy34 gy34) w12) (fun w hS => vv_move rfl) ?_
              refine dd_hn 0 rfl rfl rfl rfl (Kp.refl ([] ++ zf zy34 gy34) w12) (fun w hS => vv_move rfl) ?_
              refine dd_hn 0 rfl rfl rfl rfl (Kp.refl ([] ++ zf zy34 gy34) w12) (fun w hS => vv_move rfl) ?_
              refine dd_hn 0 rfl rfl rfl rfl (Kp.refl ([] ++ zf zy34 gy34) w12) (fun w hS => vv_move rfl) ?_
              have hb := bnd hm; clear hm; obtain ⟨y36, hy36, hm⟩ := hb
              have B41 := (Own.gr Fw11_0 Gw12)
              refine dd_hn 1 rfl rfl rfl rfl (Kp.refl ([]) w12) (fun w hS => vv_ixT (i := a35) Try.underlying60 (one_24).siz rfl (Own.rd (Own.kp B41 hS)) rfl hy36) ?_
              refine dd_hn 1 rfl rfl rfl rfl (Kp.refl ([]) w12) (fun w hS => vv_el1T (q := 0) (u := wv y36) one_24 rfl (Own.rd (Own.kp B41 hS)) hy36 (by first | rfl | omega) rfl) ?_
              refine dd_hn 0 rfl rfl rfl rfl (Kp.refl ([] ++ zf zy34 gy34) w12) (fun w hS => vv_move rfl) ?_
              refine dd_hn 0 rfl rfl rfl rfl (Kp.refl ([] ++ zf zy34 gy34) w12) (fun w hS => vv_move rfl) ?_
              have hb := bnd hm; clear hm; obtain ⟨y37, hy37, hm⟩ := hb
              have B42 := (Own.gr B40 Gw12)
              refine dd_hn 0 rfl rfl rfl rfl (Kp.refl ([] ++ zf zy34 gy34) w12) (fun w hS => vv_ixT (i := a35) Try.underlying60 (one_24).siz rfl (Own.rd (Own.kp B42 hS (tk1 ((pv_sw (pv_1 (A := (fun x => zy13 = 0 ∨ x ≠ gy13)) Fw11_1 (pv_sw (pv_1 (A := (fun x => zy6 = 0 ∨ x ≠ gy6)) Fw4_1 (.inr (tk1 lt7.o)) (fun x hx => (tk1 lt7.o)))) (fun x hx => (tk1 lt15.o)))) : zy13 = 0 ∨ zy34 = 0 ∨ gy13 ≠ gy34)))) rfl hy37) ?_
              refine dd_hn 0 rfl rfl rfl rfl (Kp.refl ([] ++ zf zy34 gy34) w12) (fun w hS => vv_el1T (q := 0) (u := wv y37) one_24 rfl (Own.rd (Own.kp B42 hS (tk1 ((pv_sw (pv_1 (A := (fun x => zy13 = 0 ∨ x ≠ gy13)) Fw11_1 (pv_sw (pv_1 (A := (fun x => zy6 = 0 ∨ x ≠ gy6)) Fw4_1 (.inr (tk1 lt7.o)) (fun x hx => (tk1 lt7.o)))) (fun x hx => (tk1 lt15.o)))) : zy13 = 0 ∨ zy34 = 0 ∨ gy13 ≠ gy34)))) hy37 (by first | rfl | omega) rfl) ?_
              refine dd_hn 0 rfl rfl rfl rfl (Kp.refl ([] ++ zf zy34 gy34) w12) (fun w hS => vv_uadd (a := y36) (b := y37) rfl rfl) ?_
              refine dd_hn 0 rfl rfl rfl rfl (Kp.refl ([] ++ zf zy34 gy34) w12) (fun w hS => vv_move rfl) ?_
              have hb := bnd hm; clear hm; obtain ⟨x38, hx38, hm⟩ := hb
              refine dd_hn 0 rfl rfl rfl rfl (Kp.refl ([] ++ zf zy34 gy34) w12) (fun w hS => vv_remU (c := y36 + y37) (d := p0) rfl rfl hx38) ?_
              have hb := bnd hm; clear hm; obtain ⟨y39, hy39, hm⟩ := hb
              refine dd_hn 1 rfl rfl rfl rfl (Kp.refl ([]) w12) (fun w hS => vv_ixT (i := a35) Try.underlying60 (one_24).siz rfl (Own.rd (Own.kp B41 hS)) rfl hy39) ?_
              have zo43 := Own.z1 B41 hy39
              refine dd_z [(1, gy34)] rfl rfl rfl (ev_stEl (i := a35) (q := 0) (a' := x38) (vs := [wv x38]) (c := uwc) (one_24).siz rfl rfl rfl rfl rfl B41 hy39 (by first | rfl | omega) rfl rfl ⟨rfl, rfl⟩) ⟨fun _ => (tk1 (tk0 : zy34 = 0 ∨ (gy34 = gy34 ∧ zy34 ≠ 0) ∨ w12.heap.size ≤ gy34)), nofun, trivial⟩ ?_
              rintro _ w13 ⟨Ow13, Mw13⟩
              have z44 := Mw13.size
              refine ⟨Kz.ofMd Mw13, ?_⟩
              refine sd_nil ?_
              refine block_n ?_
              refine then_n ?_
              -- region 18 ref.go:139
              refine sw_region [(0, 0), (1, 0), (2, 0)] rfl rfl rfl ?_
              refine sd_vv rfl rfl rfl (vv_move rfl) ?_
              refine sd_vv rfl rfl rfl (vv_add (k := .i64) (a := a35) (b := 1) rfl rfl) ?_
              refine sd_vv rfl rfl rfl (vv_assign rfl) ?_
              refine sd_nil ?_
              have K_45 : Kz [(zy6, gy6)] w4 w13 := (Kz.md (Kz.gr Kw11 Gw12) Mw13 (tk1 ((pv_1 (A := (fun x => (x = gy6 ∧ zy6 ≠ 0) ∨ w4.heap.size ≤ x)) Fw11_1 tk0) : zy34 = 0 ∨ (gy34 = gy6 ∧ zy6 ≠ 0) ∨ w4.heap.size ≤ gy34)))
              subst hrec4
              refine ⟨rfl, ⟨n4, a33.set a35.toNat x38, w64 (a35 + 1), vy34, zy34, gy34⟩, ?_, ⟨hm, Ow13, ⟨(pv_1 (A := (fun x => (x = gy6 ∧ zy6 ≠ 0) ∨ w4.heap.size ≤ x)) Fw11_1 tk0)⟩, K_45⟩, Nat.lt_succ_self _⟩
              repeat' first | exact trivial | refine ⟨rfl, ?_⟩
            ·
              replace hm := ite_f (of_decide_eq_false c5) hm
              refine sw_exit ?_
              refine then_x ?_
              refine then_x ?_
              refine block_x ?_
              refine block_n ?_
              refine then_n ?_
              -- region 4 ref.go:127
              refine sw_region [(0, 0), (1, 0), (2, 0)] rfl rfl rfl ?_
              refine sd_vv rfl rfl rfl (vv_move rfl) ?_
              refine sd_vv rfl rfl rfl (vv_add (k := .i64) (a := a7) (b := 1) rfl rfl) ?_
              refine sd_vv rfl rfl rfl (vv_assign rfl) ?_
              refine sd_nil ?_
              have K_46 : Kz [(1, gw1)] w1 w11 := (Kz.kz (Kz.kz (Kz.gr Kw2 Gw3) Kw4 (tk1 ((.inr tk0) : 1 = 0 ∨ (gw3 = gw1 ∧ 1 ≠ 0) ∨ w1.heap.size ≤ gw3))) Kw11 (tk1 ((pv_1 (A := (fun x => (x = gw1 ∧ 1 ≠ 0) ∨ w1.heap.size ≤ x)) Fw2_1 tk0) : zy6 = 0 ∨ (gy6 = gw1 ∧ 1 ≠ 0) ∨ w1.heap.size ≤ gy6)))
              subst hrec1
              refine ⟨rfl, ⟨n1, a33, w64 (a7 + 1), vy34, zy34, gy34⟩, ?_, ⟨hm, Fw11_0, ⟨(pv_1 (A := (fun x => (x = gw1 ∧ 1 ≠ 0) ∨ w1.heap.size ≤ x)) Fw11_1 (pv_1 (A := (fun x => (x = gw1 ∧ 1 ≠ 0) ∨ w1.heap.size ≤ x)) Fw2_1 tk0))⟩, K_46⟩, Nat.lt_succ_self _⟩
              repeat' first | exact trivial | refine ⟨rfl, ?_⟩
    ·
      replace hm := ite_f (of_decide_eq_false c1) hm
      refine sw_exit ?_
      refine then_x ?_
      refine then_x ?_
      refine block_x ?_
      refine then_n ?_
      refine sw_seq ?_
      -- region 20 ref.go:143
      refine sw_region [(0, 0), (1, 0)] rfl rfl rfl ?_
      refine sd_vv rfl rfl rfl (vv_move rfl) ?_
      refine sd_vv rfl rfl rfl (vv_assign rfl) ?_
      refine sd_done ?_
      refine sw_ret ?_
      have X47 : Gr w w2 := (Gr.kz X4 Kw2 (tk1 ((.inr tk0) : 1 = 0 ∨ w.heap.size ≤ gw1)))
      have hr := Option.some.inj hm
      subst hr
      refine ⟨_, _, rfl, res_1 rfl (rv_tmp rfl), ?_⟩
      exact ⟨vy6, zy6, gy6, rfl, Fw2_0, ⟨(pv_1 (A := (fun x => w.heap.size ≤ x)) Fw2_1 (.inr tk0))⟩, X47⟩

set_option maxHeartbeats 2000000 in
theorem ref04_Interpolate_w (p0 : TScheme) (p1 : List TPoint) (vp1 : Value) (zp1 gp1 op1 : Nat) (r : List (BitVec 64) × Int) (hm : ref04_Interpolate p0 p1 = some r) (w : World) (hp1 : Rd w zp1 gp1 op1 2 vp1 (p1.map TPoint.cs))  :
    Calls Try.prog 37 [.agg (TScheme.cs p0).toArray, vp1].toArray w fun e w' => ∃ v, e = .returned v ∧ (∃ (ur0_s : Value) (zr0_s : Nat) (gr0_s : Nat), v = .tuple [ur0_s, .int .i64 r.2].toArray ∧ Own w' zr0_s gr0_s 24 1 ur0_s (r.1.map uwc) ∧ Hdn (zr0_s = 0 ∨ w.heap.size ≤ gr0_s) ∧ Gr w w') := by
  have lt1 := hp1.lth
  unfold ref04_Interpolate at hm
  refine calls_of_sw (R := fun v w' => ∃ (ur0_s : Value) (zr0_s : Nat) (gr0_s : Nat), v = .tuple [ur0_s, .int .i64 r.2].toArray ∧ Own w' zr0_s gr0_s 24 1 ur0_s (r.1.map uwc) ∧ Hdn (zr0_s = 0 ∨ w.heap.size ≤ gr0_s) ∧ Gr w w') 28 Try.func37 rfl rfl rfl ?_
  refine sw_seq ?_
  -- region 0 ref.go:147
  refine sw_region [(0, 0), (1, 0), (2, 0)] rfl rfl rfl ?_
  refine sd_ev rfl rfl rfl (ev_box (cs := TScheme.cs p0) rfl rfl) ?_
  rintro _ w1 ⟨b1, rfl, hbw1, Bw1, Gw1⟩
  have z2 := Gw1.size
  have lt3 := Bw1.lt
  refine sd_vv rfl rfl rfl (vv_assign rfl) ?_
  refine sd_vv rfl rfl rfl (vv_assign rfl) ?_
  refine sd_done ?_
  refine sw_seq ?_
  refine sw_seq ?_
  -- region 1 ref.go:148
  refine sw_region [(0, 0), (1, 0), (2, 0)] rfl rfl rfl ?_
  refine sd_vv rfl rfl rfl (vv_loadW agg_28 rfl Bw1 rfl) ?_
  have hb := bnd hm; clear hm; obtain ⟨x1, hx1, hm⟩ := hb
  refine sd_ev rfl rfl rfl (ev_call en_53 rfl (ref04_Valid_w p0 _ hx1 _)) ?_
  rintro _ w2 ⟨rfl, Gw2⟩
  have z4 := Gw2.size
  refine sd_vv rfl rfl rfl (vv_not rfl) ?_
  refine sd_done ?_
  refine sw_cond rfl (fun c1 => ?_) (fun c1 => ?_)
  ·
    replace hm := cnd_t c1 hm
    refine sw_seq ?_
    -- region 2 ref.go:149
    refine sw_region [(0, 0), (1, 0)] rfl rfl rfl ?_
    refine sd_vv rfl rfl rfl (vv_assign rfl) ?_
    refine sd_vv rfl rfl rfl (vv_assign rfl) ?_
    refine sd_done ?_
    refine sw_ret ?_
    refine then_r ?_
    have X5 : Gr w w2 := (Gr.trans (Gr.trans (Gr.refl w) Gw1) Gw2)
    have hr := Option.some.inj hm
    subst hr
    refine ⟨_, _, rfl, res_2 rfl (rv_tmp rfl) (rv_tmp rfl), ?_⟩
    exact ⟨(.slice none 0 0), 0, 0, rfl, (own_nil _ 0 24 1), ⟨.inl rfl⟩, X5⟩
  ·
    replace hm := cnd_f c1 hm
    refine sw_skip ?_
    refine then_n ?_
    refine sw_seq ?_
    have X6 : Gr w w2 := (Gr.trans (Gr.trans (Gr.refl w) Gw1) Gw2)
    refine sw_joinD (β := Bool) [9, 10, 11, 12, 13, 14, 15, 16, 17, 18, 19, 20, 21, 22] (fun a2 => [(22, .bool a2)]) (fun a2 wr => (ref04_Interpolate_J1 p0 p1 a2 = some r) ∧ Kz [] w2 wr) ?_ ?_
    · clear hm; rintro a2 w3 ⟨hm, Kw3⟩
      have z7 := Kw3.size
      unfold ref04_Interpolate_J1 at hm
      refine sw_cond rfl (fun c2 => ?_) (fun c2 => ?_)
      ·
        replace hm := cnd_t c2 hm
        refine sw_seq ?_
        -- region 4 ref.go:152
        refine sw_region [(0, 0), (1, 0)] rfl rfl rfl ?_
        refine sd_vv rfl rfl rfl (vv_assign rfl) ?_
        refine sd_vv rfl rfl rfl (vv_assign rfl) ?_
        refine sd_done ?_
        refine sw_ret ?_
        refine then_r ?_
        have X8 : Gr w w3 := (Gr.kz X6 Kw3)
        have hr := Option.some.inj hm
        subst hr
        refine ⟨_, _, rfl, res_2 rfl (rv_tmp rfl) (rv_tmp rfl), ?_⟩
        exact ⟨(.slice none 0 0), 0, 0, rfl, (own_nil _ 0 24 1), ⟨.inl rfl⟩, X8⟩
      ·
        replace hm := cnd_f c2 hm
        refine sw_skip ?_
        refine then_n ?_
        refine sw_seq ?_
        -- region 5 ref.go:154
        refine sw_region [(0, 0), (1, 0), (2, 0), (3, 0), (4, 0), (5, 0), (6, 0)] rfl rfl rfl ?_
        refine sd_vv rfl rfl rfl (vv_fieldAddr fa_28_3 rfl) ?_
        refine sd_vv rfl rfl rfl (vv_fieldAddr fa_26_1 rfl) ?_
        have B9 := (Bx.kz (Bx.gr Bw1 Gw2) Kw3)
        refine sd_vv rfl rfl rfl (vv_load1 (v := wv p0.Group.Q) one_24 rfl B9 rfl) ?_
        refine sd_vv rfl rfl rfl (vv_move rfl) ?_
        have B10 := (Rd.kz (Rd.gr (Rd.gr hp1 Gw1) Gw2) Kw3)
        have hb := bnd hm; clear hm; obtain ⟨x3, hx3, hm⟩ := hb
        refine sd_ev rfl rfl rfl (ev_call en_92 rfl (ref04_Lie_w p0.Group.Q p1 _ _ _ _ _ hx3 _ B10)) ?_
        rintro u4_r0_s w4 ⟨_, z4_r0_s, g4_r0_s, rfl, O4_r0_s, f4_r0_s, Gw4⟩
        have z11 := Gw4.size
        have lt12 := O4_r0_s.lth
        refine sd_vv rfl rfl rfl (vv_assign rfl) ?_
        refine sd_vv rfl rfl rfl (vv_assign rfl) ?_
        refine sd_done ?_
        refine sw_ret ?_
        have X13 : Gr w w4 := (Gr.trans (Gr.kz X6 Kw3) Gw4)
        have hr := Option.some.inj hm
        subst hr
        refine ⟨_, _, rfl, res_2 rfl (rv_tmp rfl) (rv_tmp rfl), ?_⟩
        exact ⟨u4_r0_s, z4_r0_s, g4_r0_s, rfl, O4_r0_s, ⟨(pv_0 (A := (fun x => w.heap.size ≤ x)) f4_r0_s)⟩, X13⟩
    ·
      -- region 3 ref.go:151
      refine sw_region [(0, 0), (1, 0), (2, 0), (3, 0), (4, 0), (5, 0), (6, 0), (7, 0), (8, 0), (9, 0), (10, 0), (11, 0), (12, 0), (13, 0)] rfl rfl rfl ?_
      refine sd_vv rfl rfl rfl (vv_move rfl) ?_
      have B14 := (Rd.gr (Rd.gr hp1 Gw1) Gw2)
      refine sd_vv rfl rfl rfl (vv_lenT (l := p1) (c := TPoint.cs) Try.underlying43 rfl B14) ?_
      refine sd_vv rfl rfl rfl (vv_fieldAddr fa_28_2 rfl) ?_
      have B15 := (Bx.gr Bw1 Gw2)
      refine sd_vv rfl rfl rfl (vv_load1 (v := .int .i64 p0.Degree) one_3 rfl B15 rfl) ?_
      refine sd_vv rfl rfl rfl (vv_add (k := .i64) (a := p0.Degree) (b := 1) rfl rfl) ?_
      refine sd_vv rfl rfl rfl (vv_neq (a := (p1.length : Int)) (b := w64 (p0.Degree + 1)) rfl rfl) ?_
      refine sd_split rfl rfl rfl (vv_move rfl) (fun c3 => ?_) (fun c3 => ?_)
      ·
        replace hm := ite_t (of_decide_eq_true c3) hm
        refine sd_skip rfl rfl rfl ?_
        refine sd_skip rfl rfl rfl ?_
        refine sd_skip rfl rfl rfl ?_
        refine sd_skip rfl rfl rfl ?_
        refine sd_skip rfl rfl rfl ?_
        refine sd_skip rfl rfl rfl ?_
        refine sd_vv rfl rfl rfl (vv_pickT rfl rfl) ?_
        refine sd_nil ?_
        have K_16 : Kz [] w2 w2 := (Kz.refl _ _)
        refine ⟨rfl, true, ?_, hm, K_16⟩
        repeat' first | exact trivial | refine ⟨rfl, ?_⟩
      ·
        replace hm := ite_f (of_decide_eq_false c3) hm
        refine sd_vv rfl rfl rfl (vv_fieldAddr fa_28_3 rfl) ?_
        refine sd_vv rfl rfl rfl (vv_fieldAddr fa_26_1 rfl) ?_
        refine sd_vv rfl rfl rfl (vv_load1 (v := wv p0.Group.Q) one_24 rfl B15 rfl) ?_
        refine sd_vv rfl rfl rfl (vv_move rfl) ?_
        have hb := bnd hm; clear hm; obtain ⟨x4, hx4, hm⟩ := hb
        refine sd_ev rfl rfl rfl (ev_call en_54 rfl (ref04_Right_w p0.Group.Q p1 _ _ _ _ _ hx4 _ B14)) ?_
        rintro _ w5 ⟨rfl, Gw5⟩
        have z17 := Gw5.size
        refine sd_vv rfl rfl rfl (vv_not rfl) ?_
        refine sd_vv rfl rfl rfl (vv_pickF rfl rfl) ?_
        refine sd_nil ?_
        have K_18 : Kz [] w2 w5 := (Kz.gr (Kz.refl _ _) Gw5)
        refine ⟨rfl, (!x4), ?_, hm, K_18⟩
        repeat' first | exact trivial | refine ⟨rfl, ?_⟩
end Go.Proofs.Ytkdghilkigojgaa.Mx
