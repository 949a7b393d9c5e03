/- Walks that follow mirrors: Xz. Printed by mx.py. -/
import Derived.Test.YtkdghilkigojgaaMirJ
import Derived.Test.YtkdghilkigojgaaCipC
import Derived.Test.YtkdghilkigojgaaBitL
import Derived.Test.YtkdghilkigojgaaXzM
set_option linter.unusedVariables false
set_option linter.unusedSimpArgs false
set_option maxRecDepth 100000
namespace Go.Proofs.Ytkdghilkigojgaa.Mx
open Go Go.RowKit Go.Sx
theorem zv_33 : ZV Try.prog 33 (.agg [.int .i64 0, .slice none 0 0, .int .u64 0, .int .u64 0].toArray) := fun _ => by kernel_rfl
theorem agg_28 : Agg Try.prog 28 6 := fun _ => ⟨by kernel_rfl, by kernel_rfl⟩
theorem fa_26_0 : FA Try.prog 26 0 0 := fun _ _ _ => by kernel_rfl
theorem one_24 : One Try.prog 24 := fun _ => ⟨by kernel_rfl, by kernel_rfl⟩
theorem en_145 : En Try.prog 145 := fun _ _ => by kernel_rfl
theorem fa_26_1 : FA Try.prog 26 1 1 := fun _ _ _ => by kernel_rfl
theorem fa_26_2 : FA Try.prog 26 2 2 := fun _ _ _ => by kernel_rfl
theorem en_112 : En Try.prog 112 := fun _ _ => by kernel_rfl
theorem fa_28_0 : FA Try.prog 28 0 0 := fun _ _ _ => by kernel_rfl
theorem one_5 : One Try.prog 5 := fun _ => ⟨by kernel_rfl, by kernel_rfl⟩
theorem fa_28_1 : FA Try.prog 28 1 1 := fun _ _ _ => by kernel_rfl
theorem one_3 : One Try.prog 3 := fun _ => ⟨by kernel_rfl, by kernel_rfl⟩
theorem fa_28_2 : FA Try.prog 28 2 2 := fun _ _ _ => by kernel_rfl
theorem fa_28_3 : FA Try.prog 28 3 3 := fun _ _ _ => by kernel_rfl
theorem agg_26 : Agg Try.prog 26 3 := fun _ => ⟨by kernel_rfl, by kernel_rfl⟩
theorem en_117 : En Try.prog 117 := fun _ _ => by kernel_rfl
theorem cv_3_24 : CV Try.prog 3 24 .u64 := fun _ _ _ => by kernel_rfl
theorem en_63 : En Try.prog 63 := fun _ _ => by kernel_rfl
theorem one_29 : One Try.prog 29 := fun _ => ⟨by kernel_rfl, by kernel_rfl⟩
theorem agg_31 : Agg Try.prog 31 2 := fun _ => ⟨by kernel_rfl, by kernel_rfl⟩
theorem bs_33 : BS Try.prog 33 (fun i => [(0, 1), (1, 1), (2, 2)][i]?) [.int .i64 0, .slice none 0 0, .int .u64 0, .int .u64 0] := bs_mk Try.underlying33 zv_33 ⟨rfl, (one_3).siz, rfl, (one_29).siz, rfl, (agg_31).siz, trivial⟩
theorem agg_33 : Agg Try.prog 33 4 := fun _ => ⟨by kernel_rfl, by kernel_rfl⟩
theorem agg_23 : Agg Try.prog 23 16 := fun _ => ⟨by kernel_rfl, by kernel_rfl⟩
theorem en_52 : En Try.prog 52 := fun _ _ => by kernel_rfl
theorem zv_23 : ZV Try.prog 23 (.agg [.int .u8 0, .int .u8 0, .int .u8 0, .int .u8 0, .int .u8 0, .int .u8 0, .int .u8 0, .int .u8 0, .int .u8 0, .int .u8 0, .int .u8 0, .int .u8 0, .int .u8 0, .int .u8 0, .int .u8 0, .int .u8 0].toArray) := fun _ => by kernel_rfl
theorem apt_116 : ApT Try.prog 116 24 1 8 := apt_mk Try.underlying116 rfl (by kernel_rfl)
theorem zv_24 : ZV Try.prog 24 (.int .u64 0) := fun _ => by kernel_rfl
theorem zv_168 : ZV Try.prog 168 (.agg [.int .u64 0, .int .u64 0].toArray) := fun _ => by kernel_rfl
theorem fa_168_0 : FA Try.prog 168 0 0 := fun _ _ _ => by kernel_rfl
theorem cv_5_24 : CV Try.prog 5 24 .u64 := fun _ _ _ => by kernel_rfl
theorem fa_168_1 : FA Try.prog 168 1 1 := fun _ _ _ => by kernel_rfl
theorem agg_168 : Agg Try.prog 168 2 := fun _ => ⟨by kernel_rfl, by kernel_rfl⟩
theorem en_113 : En Try.prog 113 := fun _ _ => by kernel_rfl
theorem f1_168_0 : F1 Try.prog 168 0 0 := f1_mk (fun _ _ => by kernel_rfl)
theorem en_68 : En Try.prog 68 := fun _ _ => by kernel_rfl
theorem en_118 : En Try.prog 118 := fun _ _ => by kernel_rfl
theorem one_116 : One Try.prog 116 := fun _ => ⟨by kernel_rfl, by kernel_rfl⟩
theorem one_119 : One Try.prog 119 := fun _ => ⟨by kernel_rfl, by kernel_rfl⟩
theorem bsl_60_2 : BSl Try.prog 60 2 24 1 [.int .u64 0, .int .u64 0] := bsl_mk Try.underlying60 (one_24).siz zv_24 rfl rfl (by kernel_rfl)
theorem en_76 : En Try.prog 76 := fun _ _ => by kernel_rfl
theorem en_146 : En Try.prog 146 := fun _ _ => by kernel_rfl
theorem en_64 : En Try.prog 64 := fun _ _ => by kernel_rfl
theorem en_65 : En Try.prog 65 := fun _ _ => by kernel_rfl
theorem zv_31 : ZV Try.prog 31 (.agg [.int .u64 0, .int .u64 0].toArray) := fun _ => by kernel_rfl
theorem bs_31 : BS Try.prog 31 (fun i => [(0, 1), (1, 1)][i]?) [.int .u64 0, .int .u64 0] := bs_mk Try.underlying31 zv_31 ⟨rfl, (one_24).siz, rfl, (one_24).siz, trivial⟩
theorem en_87 : En Try.prog 87 := fun _ _ => by kernel_rfl
theorem zv_119 : ZV Try.prog 119 (.int .u64 0) := fun _ => by kernel_rfl
theorem one_43 : One Try.prog 43 := fun _ => ⟨by kernel_rfl, by kernel_rfl⟩
theorem fa_31_0 : FA Try.prog 31 0 0 := fun _ _ _ => by kernel_rfl
theorem fa_31_1 : FA Try.prog 31 1 1 := fun _ _ _ => by kernel_rfl
theorem en_90 : En Try.prog 90 := fun _ _ => by kernel_rfl
theorem en_133 : En Try.prog 133 := fun _ _ => by kernel_rfl
theorem en_89 : En Try.prog 89 := fun _ _ => by kernel_rfl
theorem en_122 : En Try.prog 122 := fun _ _ => by kernel_rfl
theorem en_75 : En Try.prog 75 := fun _ _ => by kernel_rfl
theorem apt_60 : ApT Try.prog 60 24 1 8 := apt_mk Try.underlying60 rfl (by kernel_rfl)
theorem en_111 : En Try.prog 111 := fun _ _ => by kernel_rfl
theorem cv_24_2 : CV Try.prog 24 2 .i64 := fun _ _ _ => by kernel_rfl
theorem cv_2_24 : CV Try.prog 2 24 .u64 := fun _ _ _ => by kernel_rfl
theorem en_123 : En Try.prog 123 := fun _ _ => by kernel_rfl
theorem en_77 : En Try.prog 77 := fun _ _ => by kernel_rfl
theorem en_78 : En Try.prog 78 := fun _ _ => by kernel_rfl
theorem zv_116 : ZV Try.prog 116 (.slice none 0 0) := fun _ => by kernel_rfl
theorem en_91 : En Try.prog 91 := fun _ _ => by kernel_rfl
theorem one_60 : One Try.prog 60 := fun _ => ⟨by kernel_rfl, by kernel_rfl⟩
theorem en_134 : En Try.prog 134 := fun _ _ => by kernel_rfl

set_option maxHeartbeats 2000000 in
theorem number_prime_w (p0 : BitVec 64)  (r : Bool) (hm : number_prime p0 = some r) (w : World)   :
    Calls Try.prog 145 [wv p0].toArray w fun e w' => ∃ v, e = .returned v ∧ (v = .bool r ∧ Gr w w') := by
  unfold number_prime at hm
  refine calls_of_sw (R := fun v w' => v = .bool r ∧ Gr w w') 21 Try.func145 rfl rfl rfl ?_
  refine sw_seq ?_
  -- region 0 modular.go:47
  refine sw_region [(0, 0)] rfl rfl rfl ?_
  refine sd_vv rfl rfl rfl (vv_assign rfl) ?_
  refine sd_done ?_
  refine sw_seq ?_
  refine sw_joinD (β := Bool) [4, 5, 6, 7, 8, 9] (fun a1 => [(9, .bool a1)]) (fun a1 wr => (number_prime_J1 p0 a1 = some r) ∧ Kz [] w wr) ?_ ?_
  · clear hm; rintro a1 w1 ⟨hm, Kw1⟩
    have z1 := Kw1.size
    unfold number_prime_J1 at hm
    refine sw_cond rfl (fun c1 => ?_) (fun c1 => ?_)
    ·
      replace hm := cnd_t c1 hm
      refine sw_seq ?_
      -- region 2 modular.go:49
      refine sw_region [(0, 0)] rfl rfl rfl ?_
      refine sd_vv rfl rfl rfl (vv_assign rfl) ?_
      refine sd_done ?_
      refine sw_ret ?_
      refine then_r ?_
      have X2 : Gr w w1 := (Gr.kz (Gr.refl w) Kw1)
      have hr := Option.some.inj hm
      subst hr
      refine ⟨_, _, rfl, res_1 rfl (rv_tmp rfl), ?_⟩
      exact ⟨rfl, X2⟩
    ·
      replace hm := cnd_f c1 hm
      refine sw_skip ?_
      refine then_n ?_
      refine sw_seq ?_
      refine sw_seq ?_
      -- region 3 modular.go:51
      refine sw_region [(0, 0)] rfl rfl rfl ?_
      refine sd_vv rfl rfl rfl (vv_assign rfl) ?_
      refine sd_done ?_
      refine sw_block ?_
      have X3 : Gr w w1 := (Gr.kz (Gr.refl w) Kw1)
      refine sw_loopD (α := Nat × BitVec 64) [2, 3, 10, 11, 12, 13, 14, 15, 16, 17, 18, 19, 20] (fun ⟨n2, a3⟩ => [(2, .bool false), (3, wv a3)]) (fun ⟨n2, a3⟩ wr => (fixN (number_prime_L2 p0) n2 a3 = some r) ∧ Kz [] w1 wr) (fun ⟨n2, a3⟩ => n2) ⟨FUEL, 2#64⟩ ?_ ?_ ?_
      · repeat' first | exact trivial | refine ⟨rfl, ?_⟩
      · exact ⟨hm, Kz.refl _ _⟩
      · clear hm; rintro ⟨n2, a3⟩ w2 ⟨hm, Kw2⟩
        have z4 := Kw2.size
        have hb := fix_succ hm; clear hm; obtain ⟨n2, rfl, hm⟩ := hb
        generalize hrec2 : fixN (number_prime_L2 p0) n2 = rec2 at hm
        unfold number_prime_L2 at hm
        try dsimp only at hm
        refine sw_seq ?_
        refine sw_seq ?_
        -- region 4 modular.go:51
        refine sw_region [(0, 0), (1, 0), (2, 0), (3, 0), (4, 0)] rfl rfl rfl ?_
        refine sd_vv rfl rfl rfl (vv_move rfl) ?_
        refine sd_vv rfl rfl rfl (vv_move rfl) ?_
        refine sd_vv rfl rfl rfl (vv_umul (a := a3) (b := a3) rfl rfl) ?_
        refine sd_vv rfl rfl rfl (vv_move rfl) ?_
        refine sd_vv rfl rfl rfl (vv_leqU (c := a3 * a3) (d := p0) rfl rfl) ?_
        refine sd_done ?_
        refine sw_cond rfl (fun c2 => ?_) (fun c2 => ?_)
        ·
          replace hm := ite_t (of_decide_eq_true c2) hm
          refine sw_skip ?_
          refine then_n ?_
          refine sw_seq ?_
          refine sw_block ?_
          refine sw_seq ?_
          -- region 6 modular.go:52
          refine sw_region [(0, 0), (1, 0), (2, 0), (3, 0)] rfl rfl rfl ?_
          refine sd_vv rfl rfl rfl (vv_move rfl) ?_
          refine sd_vv rfl rfl rfl (vv_move rfl) ?_
          have hb := bnd hm; clear hm; obtain ⟨x4, hx4, hm⟩ := hb
          refine sd_vv rfl rfl rfl (vv_remU (c := p0) (d := a3) rfl rfl hx4) ?_
          refine sd_vv rfl rfl rfl (vv_eqlU (c := x4) (d := 0#64) rfl rfl) ?_
          refine sd_done ?_
          refine sw_cond rfl (fun c3 => ?_) (fun c3 => ?_)
          ·
            replace hm := ite_t (of_decide_eq_true c3) hm
            refine sw_seq ?_
            -- region 7 modular.go:53
            refine sw_region [(0, 0)] rfl rfl rfl ?_
            refine sd_vv rfl rfl rfl (vv_assign rfl) ?_
            refine sd_done ?_
            refine sw_ret ?_
            refine block_r ?_
            refine then_r ?_
            refine then_r ?_
            refine block_r ?_
            refine then_r ?_
            have X5 : Gr w w2 := (Gr.kz X3 Kw2)
            have hr := Option.some.inj hm
            subst hr
            refine ⟨_, _, rfl, res_1 rfl (rv_tmp rfl), ?_⟩
            exact ⟨rfl, X5⟩
          ·
            replace hm := ite_f (of_decide_eq_false c3) hm
            refine sw_skip ?_
            refine block_n ?_
            refine then_n ?_
            -- region 5 modular.go:51
            refine sw_region [(0, 0), (1, 0), (2, 0)] rfl rfl rfl ?_
            refine sd_vv rfl rfl rfl (vv_move rfl) ?_
            refine sd_vv rfl rfl rfl (vv_uadd (a := a3) (b := 1#64) rfl rfl) ?_
            refine sd_vv rfl rfl rfl (vv_assign rfl) ?_
            refine sd_nil ?_
            have K_6 : Kz [] w1 w2 := Kw2
            subst hrec2
            refine ⟨rfl, ⟨n2, a3 + 1#64⟩, ?_, ⟨hm, K_6⟩, Nat.lt_succ_self _⟩
            repeat' first | exact trivial | refine ⟨rfl, ?_⟩
        ·
          replace hm := ite_f (of_decide_eq_false c2) hm
          refine sw_exit ?_
          refine then_x ?_
          refine then_x ?_
          refine block_x ?_
          refine then_n ?_
          refine sw_seq ?_
          -- region 8 modular.go:56
          refine sw_region [(0, 0)] rfl rfl rfl ?_
          refine sd_vv rfl rfl rfl (vv_assign rfl) ?_
          refine sd_done ?_
          refine sw_ret ?_
          have X7 : Gr w w2 := (Gr.kz X3 Kw2)
          have hr := Option.some.inj hm
          subst hr
          refine ⟨_, _, rfl, res_1 rfl (rv_tmp rfl), ?_⟩
          exact ⟨rfl, X7⟩
  ·
    -- region 1 modular.go:48
    refine sw_region [(0, 0), (1, 0), (2, 0), (3, 0), (4, 0), (5, 0)] rfl rfl rfl ?_
    refine sd_vv rfl rfl rfl (vv_move rfl) ?_
    refine sd_vv rfl rfl rfl (vv_lssU (c := p0) (d := 2#64) rfl rfl) ?_
    refine sd_split rfl rfl rfl (vv_move rfl) (fun c4 => ?_) (fun c4 => ?_)
    ·
      replace hm := ite_t (of_decide_eq_true c4) hm
      refine sd_skip rfl rfl rfl ?_
      refine sd_skip rfl rfl rfl ?_
      refine sd_vv rfl rfl rfl (vv_pickT rfl rfl) ?_
      refine sd_nil ?_
      have K_8 : Kz [] w w := (Kz.refl _ _)
      refine ⟨rfl, true, ?_, hm, K_8⟩
      repeat' first | exact trivial | refine ⟨rfl, ?_⟩
    ·
      replace hm := ite_f (of_decide_eq_false c4) hm
      refine sd_vv rfl rfl rfl (vv_move rfl) ?_
      refine sd_vv rfl rfl rfl (vv_gtrU (c := p0) (d := 1048575#64) rfl rfl) ?_
      refine sd_vv rfl rfl rfl (vv_pickF rfl rfl) ?_
      refine sd_nil ?_
      have K_9 : Kz [] w w := (Kz.refl _ _)
      refine ⟨rfl, (decide (1048575#64 < p0)), ?_, hm, K_9⟩
      repeat' first | exact trivial | refine ⟨rfl, ?_⟩

set_option maxHeartbeats 2000000 in
theorem number_power_w (p0 : BitVec 64) (p1 : BitVec 64) (p2 : BitVec 64)  (r : BitVec 64) (hm : number_power p0 p1 p2 = some r) (w : World)   :
    Calls Try.prog 112 [wv p0, wv p1, wv p2].toArray w fun e w' => ∃ v, e = .returned v ∧ (v = wv r ∧ Gr w w') := by
  unfold number_power at hm
  refine calls_of_sw (R := fun v w' => v = wv r ∧ Gr w w') 31 Try.func112 rfl rfl rfl ?_
  refine sw_seq ?_
  -- region 0 modular.go:9
  refine sw_region [(0, 0)] rfl rfl rfl ?_
  refine sd_vv rfl rfl rfl (vv_assign rfl) ?_
  refine sd_done ?_
  refine sw_seq ?_
  -- region 1 modular.go:10
  refine sw_region [(0, 0), (1, 0), (2, 0)] rfl rfl rfl ?_
  refine sd_vv rfl rfl rfl (vv_move rfl) ?_
  have hb := bnd hm; clear hm; obtain ⟨x1, hx1, hm⟩ := hb
  refine sd_vv rfl rfl rfl (vv_remU (c := 1#64) (d := p2) rfl rfl hx1) ?_
  refine sd_vv rfl rfl rfl (vv_assign rfl) ?_
  refine sd_done ?_
  refine sw_seq ?_
  refine sw_seq ?_
  -- region 2 modular.go:11
  refine sw_region [(0, 0), (1, 0), (2, 0), (3, 0)] rfl rfl rfl ?_
  refine sd_vv rfl rfl rfl (vv_move rfl) ?_
  refine sd_vv rfl rfl rfl (vv_move rfl) ?_
  have hb := bnd hm; clear hm; obtain ⟨x2, hx2, hm⟩ := hb
  refine sd_vv rfl rfl rfl (vv_remU (c := p0) (d := p2) rfl rfl hx2) ?_
  refine sd_vv rfl rfl rfl (vv_assign rfl) ?_
  refine sd_done ?_
  refine sw_block ?_
  refine sw_loopD (α := Nat × BitVec 64 × BitVec 64 × BitVec 64) [0, 1, 7, 13, 14, 15, 16, 17, 18, 19, 20, 21, 22, 23, 24, 25, 26, 27, 28, 29] (fun ⟨n1, a6, a7, a8⟩ => [(0, wv a6), (1, wv a7), (7, wv a8)]) (fun ⟨n1, a6, a7, a8⟩ wr => (fixN (number_power_L1 p2) n1 (a6, a7, a8) = some r) ∧ Kz [] w wr) (fun ⟨n1, a6, a7, a8⟩ => n1) ⟨FUEL, x2, p1, x1⟩ ?_ ?_ ?_
  · repeat' first | exact trivial | refine ⟨rfl, ?_⟩
  · exact ⟨hm, Kz.refl _ _⟩
  · clear hm; rintro ⟨n1, a6, a7, a8⟩ w1 ⟨hm, Kw1⟩
    have z1 := Kw1.size
    have hb := fix_succ hm; clear hm; obtain ⟨n1, rfl, hm⟩ := hb
    generalize hrec1 : fixN (number_power_L1 p2) n1 = rec1 at hm
    unfold number_power_L1 at hm
    try dsimp only at hm
    refine sw_seq ?_
    refine sw_seq ?_
    -- region 3 modular.go:11
    refine sw_region [(0, 0), (1, 0)] rfl rfl rfl ?_
    refine sd_vv rfl rfl rfl (vv_move rfl) ?_
    refine sd_vv rfl rfl rfl (vv_gtrU (c := a7) (d := 0#64) rfl rfl) ?_
    refine sd_done ?_
    refine sw_cond rfl (fun c1 => ?_) (fun c1 => ?_)
    ·
      replace hm := ite_t (of_decide_eq_true c1) hm
      refine sw_skip ?_
      refine then_n ?_
      refine sw_seq ?_
      refine sw_block ?_
      refine sw_seq ?_
      refine sw_seq ?_
      -- region 5 modular.go:12
      refine sw_region [(0, 0), (1, 0), (2, 0)] rfl rfl rfl ?_
      refine sd_vv rfl rfl rfl (vv_move rfl) ?_
      refine sd_vv rfl rfl rfl (vv_uand (a := a7) (b := 1#64) rfl rfl) ?_
      refine sd_vv rfl rfl rfl (vv_eqlU (c := a7 &&& 1#64) (d := 1#64) rfl rfl) ?_
      refine sd_done ?_
      refine sw_cond rfl (fun c2 => ?_) (fun c2 => ?_)
      ·
        replace hm := ite_t (of_decide_eq_true c2) hm
        -- region 6 modular.go:13
        refine sw_region [(0, 0), (1, 0), (2, 0), (3, 0), (4, 0), (5, 0)] rfl rfl rfl ?_
        refine sd_vv rfl rfl rfl (vv_move rfl) ?_
        refine sd_vv rfl rfl rfl (vv_move rfl) ?_
        refine sd_vv rfl rfl rfl (vv_umul (a := a8) (b := a6) rfl rfl) ?_
        refine sd_vv rfl rfl rfl (vv_move rfl) ?_
        have hb := bnd hm; clear hm; obtain ⟨x9, hx9, hm⟩ := hb
        refine sd_vv rfl rfl rfl (vv_remU (c := a8 * a6) (d := p2) rfl rfl hx9) ?_
        refine sd_vv rfl rfl rfl (vv_assign rfl) ?_
        refine sd_done ?_
        -- region 7 modular.go:15
        refine sw_region [(0, 0), (1, 0), (2, 0), (3, 0), (4, 0), (5, 0)] rfl rfl rfl ?_
        refine sd_vv rfl rfl rfl (vv_move rfl) ?_
        refine sd_vv rfl rfl rfl (vv_move rfl) ?_
        refine sd_vv rfl rfl rfl (vv_umul (a := a6) (b := a6) rfl rfl) ?_
        refine sd_vv rfl rfl rfl (vv_move rfl) ?_
        have hb := bnd hm; clear hm; obtain ⟨x10, hx10, hm⟩ := hb
        refine sd_vv rfl rfl rfl (vv_remU (c := a6 * a6) (d := p2) rfl rfl hx10) ?_
        refine sd_vv rfl rfl rfl (vv_assign rfl) ?_
        refine sd_nil ?_
        refine block_n ?_
        refine then_n ?_
        -- region 4 modular.go:11
        refine sw_region [(0, 0), (1, 0), (2, 0)] rfl rfl rfl ?_
        refine sd_vv rfl rfl rfl (vv_move rfl) ?_
        have hb := bnd hm; clear hm; obtain ⟨n11, hn11, hm⟩ := hb
        refine sd_vv rfl rfl rfl (vv_shrU (c := a7) (b := (un 1#64)) rfl rfl hn11) ?_
        refine sd_vv rfl rfl rfl (vv_assign rfl) ?_
        refine sd_nil ?_
        have K_2 : Kz [] w w1 := Kw1
        subst hrec1
        refine ⟨rfl, ⟨n1, x10, a7 >>> n11, x9⟩, ?_, ⟨hm, K_2⟩, Nat.lt_succ_self _⟩
        repeat' first | exact trivial | refine ⟨rfl, ?_⟩
      ·
        replace hm := ite_f (of_decide_eq_false c2) hm
        refine sw_skip ?_
        refine then_n ?_
        -- region 7 modular.go:15
        refine sw_region [(0, 0), (1, 0), (2, 0), (3, 0), (4, 0), (5, 0)] rfl rfl rfl ?_
        refine sd_vv rfl rfl rfl (vv_move rfl) ?_
        refine sd_vv rfl rfl rfl (vv_move rfl) ?_
        refine sd_vv rfl rfl rfl (vv_umul (a := a6) (b := a6) rfl rfl) ?_
        refine sd_vv rfl rfl rfl (vv_move rfl) ?_
        have hb := bnd hm; clear hm; obtain ⟨x12, hx12, hm⟩ := hb
        refine sd_vv rfl rfl rfl (vv_remU (c := a6 * a6) (d := p2) rfl rfl hx12) ?_
        refine sd_vv rfl rfl rfl (vv_assign rfl) ?_
        refine sd_nil ?_
        refine block_n ?_
        refine then_n ?_
        -- region 4 modular.go:11
        refine sw_region [(0, 0), (1, 0), (2, 0)] rfl rfl rfl ?_
        refine sd_vv rfl rfl rfl (vv_move rfl) ?_
        have hb := bnd hm; clear hm; obtain ⟨n13, hn13, hm⟩ := hb
        refine sd_vv rfl rfl rfl (vv_shrU (c := a7) (b := (un 1#64)) rfl rfl hn13) ?_
        refine sd_vv rfl rfl rfl (vv_assign rfl) ?_
        refine sd_nil ?_
        have K_3 : Kz [] w w1 := Kw1
        subst hrec1
        refine ⟨rfl, ⟨n1, x12, a7 >>> n13, a8⟩, ?_, ⟨hm, K_3⟩, Nat.lt_succ_self _⟩
        repeat' first | exact trivial | refine ⟨rfl, ?_⟩
    ·
      replace hm := ite_f (of_decide_eq_false c1) hm
      refine sw_exit ?_
      refine then_x ?_
      refine then_x ?_
      refine block_x ?_
      refine then_n ?_
      refine sw_seq ?_
      -- region 8 modular.go:17
      refine sw_region [(0, 0), (1, 0)] rfl rfl rfl ?_
      refine sd_vv rfl rfl rfl (vv_move rfl) ?_
      refine sd_vv rfl rfl rfl (vv_assign rfl) ?_
      refine sd_done ?_
      refine sw_ret ?_
      have X4 : Gr w w1 := (Gr.kz (Gr.refl w) Kw1)
      have hr := Option.some.inj hm
      subst hr
      refine ⟨_, _, rfl, res_1 rfl (rv_tmp rfl), ?_⟩
      exact ⟨rfl, X4⟩

set_option maxHeartbeats 2000000 in
theorem number_CheckGroup_w (p0 : TGroup)  (r : Int) (hm : number_CheckGroup p0 = some r) (w : World)   :
    Calls Try.prog 117 [.agg (TGroup.cs p0).toArray].toArray w fun e w' => ∃ v, e = .returned v ∧ (v = .int .i64 r ∧ Gr w w') := by
  unfold number_CheckGroup at hm
  refine calls_of_sw (R := fun v w' => v = .int .i64 r ∧ Gr w w') 44 Try.func117 rfl rfl rfl ?_
  refine sw_seq ?_
  -- region 0 modular.go:68
  refine sw_region [(0, 0), (1, 0)] rfl rfl rfl ?_
  refine sd_ev rfl rfl rfl (ev_box (cs := TGroup.cs p0) rfl rfl) ?_
  rintro _ w1 ⟨b1, rfl, hbw1, Bw1, Gw1⟩
  have z1 := Gw1.size
  have lt2 := Bw1.lt
  refine sd_vv rfl rfl rfl (vv_assign rfl) ?_
  refine sd_done ?_
  refine sw_seq ?_
  have X3 : Gr w w1 := (Gr.trans (Gr.refl w) Gw1)
  refine sw_joinD (β := Bool) [3, 4, 5, 6, 7, 8, 9, 10, 11, 12, 13, 14, 15, 16, 17, 18, 19, 20, 21, 22, 23, 24, 25, 26, 27, 28, 29, 30, 31, 32, 33, 34, 35, 36, 37, 38, 39, 40, 41, 42, 43] (fun a1 => [(43, .bool a1)]) (fun a1 wr => (number_CheckGroup_J1 a1 = some r) ∧ Kz [] w1 wr) ?_ ?_
  · clear hm; rintro a1 w2 ⟨hm, Kw2⟩
    have z4 := Kw2.size
    unfold number_CheckGroup_J1 at hm
    refine sw_cond rfl (fun c1 => ?_) (fun c1 => ?_)
    ·
      replace hm := cnd_t c1 hm
      refine sw_seq ?_
      -- region 2 modular.go:70
      refine sw_region [(0, 0)] rfl rfl rfl ?_
      refine sd_vv rfl rfl rfl (vv_assign rfl) ?_
      refine sd_done ?_
      refine sw_ret ?_
      refine then_r ?_
      have X5 : Gr w w2 := (Gr.kz X3 Kw2)
      have hr := Option.some.inj hm
      subst hr
      refine ⟨_, _, rfl, res_1 rfl (rv_tmp rfl), ?_⟩
      exact ⟨rfl, X5⟩
    ·
      replace hm := cnd_f c1 hm
      refine sw_skip ?_
      refine then_n ?_
      refine sw_seq ?_
      -- region 3 modular.go:72
      refine sw_region [(0, 0)] rfl rfl rfl ?_
      refine sd_vv rfl rfl rfl (vv_assign rfl) ?_
      refine sd_done ?_
      refine sw_ret ?_
      have X6 : Gr w w2 := (Gr.kz X3 Kw2)
      have hr := Option.some.inj hm
      subst hr
      refine ⟨_, _, rfl, res_1 rfl (rv_tmp rfl), ?_⟩
      exact ⟨rfl, X6⟩
  ·
    -- region 1 modular.go:69
    refine sw_region [(0, 0), (1, 0), (2, 0), (3, 0), (4, 0), (5, 0), (6, 0), (7, 0), (8, 0), (9, 0), (10, 0), (11, 0), (12, 0), (13, 0), (14, 0), (15, 0), (16, 0), (17, 0), (18, 0), (19, 0), (20, 0), (21, 0), (22, 0), (23, 0), (24, 0), (25, 0), (26, 0), (27, 0), (28, 0), (29, 0), (30, 0), (31, 0), (32, 0), (33, 0), (34, 0), (35, 0), (36, 0), (37, 0), (38, 0), (39, 0), (40, 0)] rfl rfl rfl ?_
    refine sd_vv rfl rfl rfl (vv_fieldAddr fa_26_0 rfl) ?_
    refine sd_vv rfl rfl rfl (vv_load1 (v := wv p0.P) one_24 rfl Bw1 rfl) ?_
    have hb := bnd hm; clear hm; obtain ⟨x2, hx2, hm⟩ := hb
    refine sd_ev rfl rfl rfl (ev_call en_145 rfl (number_prime_w p0.P _ hx2 _)) ?_
    rintro _ w3 ⟨rfl, Gw3⟩
    have z7 := Gw3.size
    refine sd_vv rfl rfl rfl (vv_not rfl) ?_
    refine sd_split rfl rfl rfl (vv_move rfl) (fun c2 => ?_) (fun c2 => ?_)
    ·
      replace hm := cnd_t c2 hm
      refine sd_skip rfl rfl rfl ?_
      refine sd_skip rfl rfl rfl ?_
      refine sd_skip rfl rfl rfl ?_
      refine sd_skip rfl rfl rfl ?_
      refine sd_vv rfl rfl rfl (vv_pickT rfl rfl) ?_
      refine sd_vv rfl rfl rfl (vv_move rfl) ?_
      refine sd_skip rfl rfl rfl ?_
      refine sd_skip rfl rfl rfl ?_
      refine sd_skip rfl rfl rfl ?_
      refine sd_skip rfl rfl rfl ?_
      refine sd_skip rfl rfl rfl ?_
      refine sd_skip rfl rfl rfl ?_
      refine sd_skip rfl rfl rfl ?_
      refine sd_vv rfl rfl rfl (vv_pickT rfl rfl) ?_
      refine sd_vv rfl rfl rfl (vv_move rfl) ?_
      refine sd_skip rfl rfl rfl ?_
      refine sd_skip rfl rfl rfl ?_
      refine sd_skip rfl rfl rfl ?_
      refine sd_vv rfl rfl rfl (vv_pickT rfl rfl) ?_
      refine sd_vv rfl rfl rfl (vv_move rfl) ?_
      refine sd_skip rfl rfl rfl ?_
      refine sd_skip rfl rfl rfl ?_
      refine sd_skip rfl rfl rfl ?_
      refine sd_skip rfl rfl rfl ?_
      refine sd_skip rfl rfl rfl ?_
      refine sd_vv rfl rfl rfl (vv_pickT rfl rfl) ?_
      refine sd_vv rfl rfl rfl (vv_move rfl) ?_
      refine sd_skip rfl rfl rfl ?_
      refine sd_skip rfl rfl rfl ?_
      refine sd_skip rfl rfl rfl ?_
      refine sd_skip rfl rfl rfl ?_
      refine sd_skip rfl rfl rfl ?_
      refine sd_skip rfl rfl rfl ?_
      refine sd_skip rfl rfl rfl ?_
      refine sd_skip rfl rfl rfl ?_
      refine sd_vv rfl rfl rfl (vv_pickT rfl rfl) ?_
      refine sd_nil ?_
      have K_8 : Kz [] w1 w3 := (Kz.gr (Kz.refl _ _) Gw3)
      refine ⟨rfl, true, ?_, hm, K_8⟩
      repeat' first | exact trivial | refine ⟨rfl, ?_⟩
    ·
      replace hm := cnd_f c2 hm
      refine sd_vv rfl rfl rfl (vv_fieldAddr fa_26_1 rfl) ?_
      have B9 := (Bx.gr Bw1 Gw3)
      refine sd_vv rfl rfl rfl (vv_load1 (v := wv p0.Q) one_24 rfl B9 rfl) ?_
      have hb := bnd hm; clear hm; obtain ⟨x3, hx3, hm⟩ := hb
      refine sd_ev rfl rfl rfl (ev_call en_145 rfl (number_prime_w p0.Q _ hx3 _)) ?_
      rintro _ w4 ⟨rfl, Gw4⟩
      have z10 := Gw4.size
      refine sd_vv rfl rfl rfl (vv_not rfl) ?_
      refine sd_vv rfl rfl rfl (vv_pickF rfl rfl) ?_
      refine sd_split rfl rfl rfl (vv_move rfl) (fun c3 => ?_) (fun c3 => ?_)
      ·
        replace hm := cnd_t c3 hm
        refine sd_skip rfl rfl rfl ?_
        refine sd_skip rfl rfl rfl ?_
        refine sd_skip rfl rfl rfl ?_
        refine sd_skip rfl rfl rfl ?_
        refine sd_skip rfl rfl rfl ?_
        refine sd_skip rfl rfl rfl ?_
        refine sd_skip rfl rfl rfl ?_
        refine sd_vv rfl rfl rfl (vv_pickT rfl rfl) ?_
        refine sd_vv rfl rfl rfl (vv_move rfl) ?_
        refine sd_skip rfl rfl rfl ?_
        refine sd_skip rfl rfl rfl ?_
        refine sd_skip rfl rfl rfl ?_
        refine sd_vv rfl rfl rfl (vv_pickT rfl rfl) ?_
        refine sd_vv rfl rfl rfl (vv_move rfl) ?_
        refine sd_skip rfl rfl rfl ?_
        refine sd_skip rfl rfl rfl ?_
        refine sd_skip rfl rfl rfl ?_
        refine sd_skip rfl rfl rfl ?_
        refine sd_skip rfl rfl rfl ?_
        refine sd_vv rfl rfl rfl (vv_pickT rfl rfl) ?_
        refine sd_vv rfl rfl rfl (vv_move rfl) ?_
        refine sd_skip rfl rfl rfl ?_
        refine sd_skip rfl rfl rfl ?_
        refine sd_skip rfl rfl rfl ?_
        refine sd_skip rfl rfl rfl ?_
        refine sd_skip rfl rfl rfl ?_
        refine sd_skip rfl rfl rfl ?_
        refine sd_skip rfl rfl rfl ?_
        refine sd_skip rfl rfl rfl ?_
        refine sd_vv rfl rfl rfl (vv_pickT rfl rfl) ?_
        refine sd_nil ?_
        have K_11 : Kz [] w1 w4 := (Kz.gr (Kz.gr (Kz.refl _ _) Gw3) Gw4)
        refine ⟨rfl, true, ?_, hm, K_11⟩
        repeat' first | exact trivial | refine ⟨rfl, ?_⟩
      ·
        replace hm := cnd_f c3 hm
        refine sd_vv rfl rfl rfl (vv_fieldAddr fa_26_0 rfl) ?_
        have B12 := (Bx.gr B9 Gw4)
        refine sd_vv rfl rfl rfl (vv_load1 (v := wv p0.P) one_24 rfl B12 rfl) ?_
        refine sd_vv rfl rfl rfl (vv_usub (a := p0.P) (b := 1#64) rfl rfl) ?_
        refine sd_vv rfl rfl rfl (vv_fieldAddr fa_26_1 rfl) ?_
        refine sd_vv rfl rfl rfl (vv_load1 (v := wv p0.Q) one_24 rfl B12 rfl) ?_
        have hb := bnd hm; clear hm; obtain ⟨x4, hx4, hm⟩ := hb
        refine sd_vv rfl rfl rfl (vv_remU (c := p0.P - 1#64) (d := p0.Q) rfl rfl hx4) ?_
        refine sd_vv rfl rfl rfl (vv_neqU (c := x4) (d := 0#64) rfl rfl) ?_
        refine sd_vv rfl rfl rfl (vv_pickF rfl rfl) ?_
        refine sd_split rfl rfl rfl (vv_move rfl) (fun c4 => ?_) (fun c4 => ?_)
        ·
          replace hm := ite_t (of_decide_eq_true c4) hm
          refine sd_skip rfl rfl rfl ?_
          refine sd_skip rfl rfl rfl ?_
          refine sd_skip rfl rfl rfl ?_
          refine sd_vv rfl rfl rfl (vv_pickT rfl rfl) ?_
          refine sd_vv rfl rfl rfl (vv_move rfl) ?_
          refine sd_skip rfl rfl rfl ?_
          refine sd_skip rfl rfl rfl ?_
          refine sd_skip rfl rfl rfl ?_
          refine sd_skip rfl rfl rfl ?_
          refine sd_skip rfl rfl rfl ?_
          refine sd_vv rfl rfl rfl (vv_pickT rfl rfl) ?_
          refine sd_vv rfl rfl rfl (vv_move rfl) ?_
          refine sd_skip rfl rfl rfl ?_
          refine sd_skip rfl rfl rfl ?_
          refine sd_skip rfl rfl rfl ?_
          refine sd_skip rfl rfl rfl ?_
          refine sd_skip rfl rfl rfl ?_
          refine sd_skip rfl rfl rfl ?_
          refine sd_skip rfl rfl rfl ?_
          refine sd_skip rfl rfl rfl ?_
          refine sd_vv rfl rfl rfl (vv_pickT rfl rfl) ?_
          refine sd_nil ?_
          have K_13 : Kz [] w1 w4 := (Kz.gr (Kz.gr (Kz.refl _ _) Gw3) Gw4)
          refine ⟨rfl, true, ?_, hm, K_13⟩
          repeat' first | exact trivial | refine ⟨rfl, ?_⟩
        ·
          replace hm := ite_f (of_decide_eq_false c4) hm
          refine sd_vv rfl rfl rfl (vv_fieldAddr fa_26_2 rfl) ?_
          refine sd_vv rfl rfl rfl (vv_load1 (v := wv p0.G) one_24 rfl B12 rfl) ?_
          refine sd_vv rfl rfl rfl (vv_lssU (c := p0.G) (d := 2#64) rfl rfl) ?_
          refine sd_vv rfl rfl rfl (vv_pickF rfl rfl) ?_
          refine sd_split rfl rfl rfl (vv_move rfl) (fun c5 => ?_) (fun c5 => ?_)
          ·
            replace hm := ite_t (of_decide_eq_true c5) hm
            refine sd_skip rfl rfl rfl ?_
            refine sd_skip rfl rfl rfl ?_
            refine sd_skip rfl rfl rfl ?_
            refine sd_skip rfl rfl rfl ?_
            refine sd_skip rfl rfl rfl ?_
            refine sd_vv rfl rfl rfl (vv_pickT rfl rfl) ?_
            refine sd_vv rfl rfl rfl (vv_move rfl) ?_
            refine sd_skip rfl rfl rfl ?_
            refine sd_skip rfl rfl rfl ?_
            refine sd_skip rfl rfl rfl ?_
            refine sd_skip rfl rfl rfl ?_
            refine sd_skip rfl rfl rfl ?_
            refine sd_skip rfl rfl rfl ?_
            refine sd_skip rfl rfl rfl ?_
            refine sd_skip rfl rfl rfl ?_
            refine sd_vv rfl rfl rfl (vv_pickT rfl rfl) ?_
            refine sd_nil ?_
            have K_14 : Kz [] w1 w4 := (Kz.gr (Kz.gr (Kz.refl _ _) Gw3) Gw4)
            refine ⟨rfl, true, ?_, hm, K_14⟩
            repeat' first | exact trivial | refine ⟨rfl, ?_⟩
          ·
            replace hm := ite_f (of_decide_eq_false c5) hm
            refine sd_vv rfl rfl rfl (vv_fieldAddr fa_26_2 rfl) ?_
            refine sd_vv rfl rfl rfl (vv_load1 (v := wv p0.G) one_24 rfl B12 rfl) ?_
            refine sd_vv rfl rfl rfl (vv_fieldAddr fa_26_0 rfl) ?_
            refine sd_vv rfl rfl rfl (vv_load1 (v := wv p0.P) one_24 rfl B12 rfl) ?_
            refine sd_vv rfl rfl rfl (vv_geqU (c := p0.G) (d := p0.P) rfl rfl) ?_
            refine sd_vv rfl rfl rfl (vv_pickF rfl rfl) ?_
            refine sd_split rfl rfl rfl (vv_move rfl) (fun c6 => ?_) (fun c6 => ?_)
            ·
              replace hm := ite_t (of_decide_eq_true c6) hm
              refine sd_skip rfl rfl rfl ?_
              refine sd_skip rfl rfl rfl ?_
              refine sd_skip rfl rfl rfl ?_
              refine sd_skip rfl rfl rfl ?_
              refine sd_skip rfl rfl rfl ?_
              refine sd_skip rfl rfl rfl ?_
              refine sd_skip rfl rfl rfl ?_
              refine sd_skip rfl rfl rfl ?_
              refine sd_vv rfl rfl rfl (vv_pickT rfl rfl) ?_
              refine sd_nil ?_
              have K_15 : Kz [] w1 w4 := (Kz.gr (Kz.gr (Kz.refl _ _) Gw3) Gw4)
              refine ⟨rfl, true, ?_, hm, K_15⟩
              repeat' first | exact trivial | refine ⟨rfl, ?_⟩
            ·
              replace hm := ite_f (of_decide_eq_false c6) hm
              refine sd_vv rfl rfl rfl (vv_fieldAddr fa_26_2 rfl) ?_
              refine sd_vv rfl rfl rfl (vv_load1 (v := wv p0.G) one_24 rfl B12 rfl) ?_
              refine sd_vv rfl rfl rfl (vv_fieldAddr fa_26_1 rfl) ?_
              refine sd_vv rfl rfl rfl (vv_load1 (v := wv p0.Q) one_24 rfl B12 rfl) ?_
              refine sd_vv rfl rfl rfl (vv_fieldAddr fa_26_0 rfl) ?_
              refine sd_vv rfl rfl rfl (vv_load1 (v := wv p0.P) one_24 rfl B12 rfl) ?_
              have hb := bnd hm; clear hm; obtain ⟨x5, hx5, hm⟩ := hb
              refine sd_ev rfl rfl rfl (ev_call en_112 rfl (number_power_w p0.G p0.Q p0.P _ hx5 _)) ?_
              rintro _ w5 ⟨rfl, Gw5⟩
              have z16 := Gw5.size
              refine sd_vv rfl rfl rfl (vv_neqU (c := x5) (d := 1#64) rfl rfl) ?_
              refine sd_vv rfl rfl rfl (vv_pickF rfl rfl) ?_
              refine sd_nil ?_
              have K_17 : Kz [] w1 w5 := (Kz.gr (Kz.gr (Kz.gr (Kz.refl _ _) Gw3) Gw4) Gw5)
              refine ⟨rfl, (decide (x5 ≠ 1#64)), ?_, hm, K_17⟩
              repeat' first | exact trivial | refine ⟨rfl, ?_⟩

set_option maxHeartbeats 2000000 in
theorem poly_valid_w (p0 : TScheme)  (r : Bool) (hm : poly_valid p0 = some r) (w : World)   :
    Calls Try.prog 63 [.agg (TScheme.cs p0).toArray].toArray w fun e w' => ∃ v, e = .returned v ∧ (v = .bool r ∧ Gr w w') := by
  unfold poly_valid at hm
  refine calls_of_sw (R := fun v w' => v = .bool r ∧ Gr w w') 45 Try.func63 rfl rfl rfl ?_
  refine sw_seq ?_
  -- region 0 poly.go:46
  refine sw_region [(0, 0), (1, 0)] rfl rfl rfl ?_
  refine sd_ev rfl rfl rfl (ev_box (cs := TScheme.cs p0) rfl rfl) ?_
  rintro _ w1 ⟨b1, rfl, hbw1, Bw1, Gw1⟩
  have z1 := Gw1.size
  have lt2 := Bw1.lt
  refine sd_vv rfl rfl rfl (vv_assign rfl) ?_
  refine sd_done ?_
  refine sw_seq ?_
  -- region 1 poly.go:47 DRAWS
  refine sw_drawN [([])] [] (.leaf [(0, 10), (1, 10), (2, 10), (3, 10), (4, 10), (5, 10), (6, 10), (7, 10), (8, 10), (9, 10), (10, 10), (11, 10), (12, 10), (13, 10), (14, 10), (15, 10), (16, 10), (17, 10), (18, 10), (19, 10), (20, 10), (21, 10), (22, 10), (23, 10), (24, 10), (25, 10), (26, 0), (27, 10), (28, 10), (29, 10), (30, 10), (31, 10), (32, 10), (33, 10), (34, 10), (35, 10), (36, 10), (37, 10), (38, 10), (39, 10), (40, 10), (41, 10), (42, 10)]) (by kernel_rfl) (by kernel_rfl) rfl (by kernel_rfl) ?_
  intro w2 Gw2 zw2
  refine sdz_leaf ?_
  refine dd_hn 0 rfl rfl rfl rfl (Kp.refl ([]) w2) (fun w hS => vv_fieldAddr fa_28_0 rfl) ?_
  have B3 := (Bx.gr Bw1 Gw2)
  refine dd_hn 0 rfl rfl rfl rfl (Kp.refl ([]) w2) (fun w hS => vv_load1 (v := bv p0.Kind) one_5 rfl (Bx.kp B3 hS) rfl) ?_
  refine dd_hn 0 rfl rfl rfl rfl (Kp.refl ([]) w2) (fun w hS => vv_eqlB (p := p0.Kind) (q := 4#8) rfl rfl) ?_
  refine dd_pn 0 rfl rfl rfl rfl (Kp.refl ([]) w2) (fun w hS => vv_move rfl) (fun c1 => ?_) (fun c1 => ?_)
  ·
    replace hm := ite_t (of_decide_eq_true c1) hm
    refine dd_hn 0 rfl rfl rfl rfl (Kp.refl ([]) w2) (fun w hS => vv_fieldAddr fa_28_1 rfl) ?_
    refine dd_hn 0 rfl rfl rfl rfl (Kp.refl ([]) w2) (fun w hS => vv_load1 (v := .int .i64 p0.Depth) one_3 rfl (Bx.kp B3 hS) rfl) ?_
    refine dd_hn 0 rfl rfl rfl rfl (Kp.refl ([]) w2) (fun w hS => vv_geq (a := p0.Depth) (b := 0) rfl rfl) ?_
    refine dd_hn 0 rfl rfl rfl rfl (Kp.refl ([]) w2) (fun w hS => vv_pickT rfl rfl) ?_
    refine dd_pn 0 rfl rfl rfl rfl (Kp.refl ([]) w2) (fun w hS => vv_move rfl) (fun c2 => ?_) (fun c2 => ?_)
    ·
      replace hm := ite_t (of_decide_eq_true c2) hm
      refine dd_hn 0 rfl rfl rfl rfl (Kp.refl ([]) w2) (fun w hS => vv_fieldAddr fa_28_1 rfl) ?_
      refine dd_hn 0 rfl rfl rfl rfl (Kp.refl ([]) w2) (fun w hS => vv_load1 (v := .int .i64 p0.Depth) one_3 rfl (Bx.kp B3 hS) rfl) ?_
      refine dd_hn 0 rfl rfl rfl rfl (Kp.refl ([]) w2) (fun w hS => vv_leq (a := p0.Depth) (b := 6) rfl rfl) ?_
      refine dd_hn 0 rfl rfl rfl rfl (Kp.refl ([]) w2) (fun w hS => vv_pickT rfl rfl) ?_
      refine dd_pn 0 rfl rfl rfl rfl (Kp.refl ([]) w2) (fun w hS => vv_move rfl) (fun c3 => ?_) (fun c3 => ?_)
      ·
        replace hm := ite_t (of_decide_eq_true c3) hm
        refine dd_hn 0 rfl rfl rfl rfl (Kp.refl ([]) w2) (fun w hS => vv_fieldAddr fa_28_2 rfl) ?_
        refine dd_hn 0 rfl rfl rfl rfl (Kp.refl ([]) w2) (fun w hS => vv_load1 (v := .int .i64 p0.Degree) one_3 rfl (Bx.kp B3 hS) rfl) ?_
        refine dd_hn 0 rfl rfl rfl rfl (Kp.refl ([]) w2) (fun w hS => vv_geq (a := p0.Degree) (b := 1) rfl rfl) ?_
        refine dd_hn 0 rfl rfl rfl rfl (Kp.refl ([]) w2) (fun w hS => vv_pickT rfl rfl) ?_
        refine dd_pn 0 rfl rfl rfl rfl (Kp.refl ([]) w2) (fun w hS => vv_move rfl) (fun c4 => ?_) (fun c4 => ?_)
        ·
          replace hm := ite_t (of_decide_eq_true c4) hm
          refine dd_hn 0 rfl rfl rfl rfl (Kp.refl ([]) w2) (fun w hS => vv_fieldAddr fa_28_2 rfl) ?_
          refine dd_hn 0 rfl rfl rfl rfl (Kp.refl ([]) w2) (fun w hS => vv_load1 (v := .int .i64 p0.Degree) one_3 rfl (Bx.kp B3 hS) rfl) ?_
          refine dd_hn 0 rfl rfl rfl rfl (Kp.refl ([]) w2) (fun w hS => vv_leq (a := p0.Degree) (b := 8) rfl rfl) ?_
          refine dd_hn 0 rfl rfl rfl rfl (Kp.refl ([]) w2) (fun w hS => vv_pickT rfl rfl) ?_
          refine dd_pn 0 rfl rfl rfl rfl (Kp.refl ([]) w2) (fun w hS => vv_move rfl) (fun c5 => ?_) (fun c5 => ?_)
          ·
            replace hm := ite_t (of_decide_eq_true c5) hm
            refine dd_hn 0 rfl rfl rfl rfl (Kp.refl ([]) w2) (fun w hS => vv_fieldAddr fa_28_3 rfl) ?_
            refine dd_hn 0 rfl rfl rfl rfl (Kp.refl ([]) w2) (fun w hS => vv_loadM (vs := TGroup.cs p0.Group) agg_26 rfl (Bx.kp B3 hS) rfl rfl) ?_
            have hb := bnd hm; clear hm; obtain ⟨x1, hx1, hm⟩ := hb
            refine dd_z [] rfl rfl rfl (ev_call en_117 rfl (number_CheckGroup_w p0.Group _ hx1 _)) ⟨fun _ => tk0, trivial⟩ ?_
            rintro _ w3 ⟨rfl, Gw3⟩
            have z4 := Gw3.size
            refine ⟨Kz.ofGr Gw3, ?_⟩
            have S5 := (Kp.gr (Kp.refl ([]) w2) Gw3)
            refine dd_hn 0 rfl rfl rfl rfl S5 (fun w hS => vv_eql (a := x1) (b := 0) rfl rfl) ?_
            refine dd_hn 0 rfl rfl rfl rfl S5 (fun w hS => vv_pickT rfl rfl) ?_
            refine dd_pn 0 rfl rfl rfl rfl S5 (fun w hS => vv_move rfl) (fun c6 => ?_) (fun c6 => ?_)
            ·
              replace hm := ite_t (of_decide_eq_true c6) hm
              refine dd_hn 0 rfl rfl rfl rfl S5 (fun w hS => vv_fieldAddr fa_28_3 rfl) ?_
              refine dd_hn 0 rfl rfl rfl rfl S5 (fun w hS => vv_fieldAddr fa_26_1 rfl) ?_
              refine dd_hn 0 rfl rfl rfl rfl S5 (fun w hS => vv_load1 (v := wv p0.Group.Q) one_24 rfl (Bx.kp B3 hS) rfl) ?_
              refine dd_hn 0 rfl rfl rfl rfl S5 (fun w hS => vv_fieldAddr fa_28_1 rfl) ?_
              refine dd_hn 0 rfl rfl rfl rfl S5 (fun w hS => vv_load1 (v := .int .i64 p0.Depth) one_3 rfl (Bx.kp B3 hS) rfl) ?_
              have hb := bnd hm; clear hm; obtain ⟨n2, hn2, hm⟩ := hb
              refine dd_hn 0 rfl rfl rfl rfl S5 (fun w hS => vv_shlI (a := 1) (b := p0.Depth) rfl rfl hn2) ?_
              refine dd_hn 0 rfl rfl rfl rfl S5 (fun w hS => vv_fieldAddr fa_28_2 rfl) ?_
              refine dd_hn 0 rfl rfl rfl rfl S5 (fun w hS => vv_load1 (v := .int .i64 p0.Degree) one_3 rfl (Bx.kp B3 hS) rfl) ?_
              refine dd_hn 0 rfl rfl rfl rfl S5 (fun w hS => vv_add (k := .i64) (a := shlI 1 n2) (b := p0.Degree) rfl rfl) ?_
              refine dd_hn 0 rfl rfl rfl rfl S5 (fun w hS => vv_cvIU cv_3_24 rfl) ?_
              refine dd_hn 0 rfl rfl rfl rfl S5 (fun w hS => vv_gtrU (c := p0.Group.Q) (d := wd (w64 ((shlI 1 n2) + p0.Degree))) rfl rfl) ?_
              refine dd_hn 0 rfl rfl rfl rfl S5 (fun w hS => vv_pickT rfl rfl) ?_
              refine dd_hn 0 rfl rfl rfl rfl S5 (fun w hS => vv_assign rfl) ?_
              refine sd_done ?_
              refine sw_ret ?_
              have X6 : Gr w w3 := (Gr.trans (Gr.trans (Gr.trans (Gr.refl w) Gw1) Gw2) Gw3)
              have hr := Option.some.inj hm
              subst hr
              refine ⟨_, _, rfl, res_1 rfl (rv_tmp rfl), ?_⟩
              exact ⟨rfl, X6⟩
            ·
              replace hm := ite_f (of_decide_eq_false c6) hm
              refine dd_sn 0 rfl rfl rfl rfl S5 ?_
              refine dd_sn 0 rfl rfl rfl rfl S5 ?_
              refine dd_sn 0 rfl rfl rfl rfl S5 ?_
              refine dd_sn 0 rfl rfl rfl rfl S5 ?_
              refine dd_sn 0 rfl rfl rfl rfl S5 ?_
              refine dd_sn 0 rfl rfl rfl rfl S5 ?_
              refine dd_sn 0 rfl rfl rfl rfl S5 ?_
              refine dd_sn 0 rfl rfl rfl rfl S5 ?_
              refine dd_sn 0 rfl rfl rfl rfl S5 ?_
              refine dd_sn 0 rfl rfl rfl rfl S5 ?_
              refine dd_sn 0 rfl rfl rfl rfl S5 ?_
              refine dd_hn 0 rfl rfl rfl rfl S5 (fun w hS => vv_pickF rfl rfl) ?_
              refine dd_hn 0 rfl rfl rfl rfl S5 (fun w hS => vv_assign rfl) ?_
              refine sd_done ?_
              refine sw_ret ?_
              have X7 : Gr w w3 := (Gr.trans (Gr.trans (Gr.trans (Gr.refl w) Gw1) Gw2) Gw3)
              have hr := Option.some.inj hm
              subst hr
              refine ⟨_, _, rfl, res_1 rfl (rv_tmp rfl), ?_⟩
              exact ⟨rfl, X7⟩
          ·
            replace hm := ite_f (of_decide_eq_false c5) hm
            refine dd_sn 0 rfl rfl rfl rfl (Kp.refl ([]) w2) ?_
            refine dd_sn 0 rfl rfl rfl rfl (Kp.refl ([]) w2) ?_
            refine dd_sz rfl rfl rfl ?_
            refine dd_sn 0 rfl rfl rfl rfl (Kp.refl ([]) w2) ?_
            refine dd_hn 0 rfl rfl rfl rfl (Kp.refl ([]) w2) (fun w hS => vv_pickF rfl rfl) ?_
            refine dd_hn 0 rfl rfl rfl rfl (Kp.refl ([]) w2) (fun w hS => vv_move rfl) ?_
            refine dd_sn 0 rfl rfl rfl rfl (Kp.refl ([]) w2) ?_
            refine dd_sn 0 rfl rfl rfl rfl (Kp.refl ([]) w2) ?_
            refine dd_sn 0 rfl rfl rfl rfl (Kp.refl ([]) w2) ?_
            refine dd_sn 0 rfl rfl rfl rfl (Kp.refl ([]) w2) ?_
            refine dd_sn 0 rfl rfl rfl rfl (Kp.refl ([]) w2) ?_
            refine dd_sn 0 rfl rfl rfl rfl (Kp.refl ([]) w2) ?_
            refine dd_sn 0 rfl rfl rfl rfl (Kp.refl ([]) w2) ?_
            refine dd_sn 0 rfl rfl rfl rfl (Kp.refl ([]) w2) ?_
            refine dd_sn 0 rfl rfl rfl rfl (Kp.refl ([]) w2) ?_
            refine dd_sn 0 rfl rfl rfl rfl (Kp.refl ([]) w2) ?_
            refine dd_sn 0 rfl rfl rfl rfl (Kp.refl ([]) w2) ?_
            refine dd_hn 0 rfl rfl rfl rfl (Kp.refl ([]) w2) (fun w hS => vv_pickF rfl rfl) ?_
            refine dd_hn 0 rfl rfl rfl rfl (Kp.refl ([]) w2) (fun w hS => vv_assign rfl) ?_
            refine sd_done ?_
            refine sw_ret ?_
            have X8 : Gr w w2 := (Gr.trans (Gr.trans (Gr.refl w) Gw1) Gw2)
            have hr := Option.some.inj hm
            subst hr
            refine ⟨_, _, rfl, res_1 rfl (rv_tmp rfl), ?_⟩
            exact ⟨rfl, X8⟩
        ·
          replace hm := ite_f (of_decide_eq_false c4) hm
          refine dd_sn 0 rfl rfl rfl rfl (Kp.refl ([]) w2) ?_
          refine dd_sn 0 rfl rfl rfl rfl (Kp.refl ([]) w2) ?_
          refine dd_sn 0 rfl rfl rfl rfl (Kp.refl ([]) w2) ?_
          refine dd_hn 0 rfl rfl rfl rfl (Kp.refl ([]) w2) (fun w hS => vv_pickF rfl rfl) ?_
          refine dd_hn 0 rfl rfl rfl rfl (Kp.refl ([]) w2) (fun w hS => vv_move rfl) ?_
          refine dd_sn 0 rfl rfl rfl rfl (Kp.refl ([]) w2) ?_
          refine dd_sn 0 rfl rfl rfl rfl (Kp.refl ([]) w2) ?_
          refine dd_sz rfl rfl rfl ?_
          refine dd_sn 0 rfl rfl rfl rfl (Kp.refl ([]) w2) ?_
          refine dd_hn 0 rfl rfl rfl rfl (Kp.refl ([]) w2) (fun w hS => vv_pickF rfl rfl) ?_
          refine dd_hn 0 rfl rfl rfl rfl (Kp.refl ([]) w2) (fun w hS => vv_move rfl) ?_
          refine dd_sn 0 rfl rfl rfl rfl (Kp.refl ([]) w2) ?_
          refine dd_sn 0 rfl rfl rfl rfl (Kp.refl ([]) w2) ?_
          refine dd_sn 0 rfl rfl rfl rfl (Kp.refl ([]) w2) ?_
          refine dd_sn 0 rfl rfl rfl rfl (Kp.refl ([]) w2) ?_
          refine dd_sn 0 rfl rfl rfl rfl (Kp.refl ([]) w2) ?_
          refine dd_sn 0 rfl rfl rfl rfl (Kp.refl ([]) w2) ?_
          refine dd_sn 0 rfl rfl rfl rfl (Kp.refl ([]) w2) ?_
          refine dd_sn 0 rfl rfl rfl rfl (Kp.refl ([]) w2) ?_
          refine dd_sn 0 rfl rfl rfl rfl (Kp.refl ([]) w2) ?_
          refine dd_sn 0 rfl rfl rfl rfl (Kp.refl ([]) w2) ?_
          refine dd_sn 0 rfl rfl rfl rfl (Kp.refl ([]) w2) ?_
          refine dd_hn 0 rfl rfl rfl rfl (Kp.refl ([]) w2) (fun w hS => vv_pickF rfl rfl) ?_
          refine dd_hn 0 rfl rfl rfl rfl (Kp.refl ([]) w2) (fun w hS => vv_assign rfl) ?_
          refine sd_done ?_
          refine sw_ret ?_
          have X9 : Gr w w2 := (Gr.trans (Gr.trans (Gr.refl w) Gw1) Gw2)
          have hr := Option.some.inj hm
          subst hr
          refine ⟨_, _, rfl, res_1 rfl (rv_tmp rfl), ?_⟩
          exact ⟨rfl, X9⟩
      ·
        replace hm := ite_f (of_decide_eq_false c3) hm
        refine dd_sn 0 rfl rfl rfl rfl (Kp.refl ([]) w2) ?_
        refine dd_sn 0 rfl rfl rfl rfl (Kp.refl ([]) w2) ?_
        refine dd_sn 0 rfl rfl rfl rfl (Kp.refl ([]) w2) ?_
        refine dd_hn 0 rfl rfl rfl rfl (Kp.refl ([]) w2) (fun w hS => vv_pickF rfl rfl) ?_
        refine dd_hn 0 rfl rfl rfl rfl (Kp.refl ([]) w2) (fun w hS => vv_move rfl) ?_
        refine dd_sn 0 rfl rfl rfl rfl (Kp.refl ([]) w2) ?_
        refine dd_sn 0 rfl rfl rfl rfl (Kp.refl ([]) w2) ?_
        refine dd_sn 0 rfl rfl rfl rfl (Kp.refl ([]) w2) ?_
        refine dd_hn 0 rfl rfl rfl rfl (Kp.refl ([]) w2) (fun w hS => vv_pickF rfl rfl) ?_
        refine dd_hn 0 rfl rfl rfl rfl (Kp.refl ([]) w2) (fun w hS => vv_move rfl) ?_
        refine dd_sn 0 rfl rfl rfl rfl (Kp.refl ([]) w2) ?_
        refine dd_sn 0 rfl rfl rfl rfl (Kp.refl ([]) w2) ?_
        refine dd_sz rfl rfl rfl ?_
        refine dd_sn 0 rfl rfl rfl rfl (Kp.refl ([]) w2) ?_
        refine dd_hn 0 rfl rfl rfl rfl (Kp.refl ([]) w2) (fun w hS => vv_pickF rfl rfl) ?_
        refine dd_hn 0 rfl rfl rfl rfl (Kp.refl ([]) w2) (fun w hS => vv_move rfl) ?_
        refine dd_sn 0 rfl rfl rfl rfl (Kp.refl ([]) w2) ?_
        refine dd_sn 0 rfl rfl rfl rfl (Kp.refl ([]) w2) ?_
        refine dd_sn 0 rfl rfl rfl rfl (Kp.refl ([]) w2) ?_
        refine dd_sn 0 rfl rfl rfl rfl (Kp.refl ([]) w2) ?_
        refine dd_sn 0 rfl rfl rfl rfl (Kp.refl ([]) w2) ?_
        refine dd_sn 0 rfl rfl rfl rfl (Kp.refl ([]) w2) ?_
        refine dd_sn 0 rfl rfl rfl rfl (Kp.refl ([]) w2) ?_
        refine dd_sn 0 rfl rfl rfl rfl (Kp.refl ([]) w2) ?_
        refine dd_sn 0 rfl rfl rfl rfl (Kp.refl ([]) w2) ?_
        refine dd_sn 0 rfl rfl rfl rfl (Kp.refl ([]) w2) ?_
        refine dd_sn 0 rfl rfl rfl rfl (Kp.refl ([]) w2) ?_
        refine dd_hn 0 rfl rfl rfl rfl (Kp.refl ([]) w2) (fun w hS => vv_pickF rfl rfl) ?_
        refine dd_hn 0 rfl rfl rfl rfl (Kp.refl ([]) w2) (fun w hS => vv_assign rfl) ?_
        refine sd_done ?_
        refine sw_ret ?_
        have X10 : Gr w w2 := (Gr.trans (Gr.trans (Gr.refl w) Gw1) Gw2)
        have hr := Option.some.inj hm
        subst hr
        refine ⟨_, _, rfl, res_1 rfl (rv_tmp rfl), ?_⟩
        exact ⟨rfl, X10⟩
    ·
      replace hm := ite_f (of_decide_eq_false c2) hm
      refine dd_sn 0 rfl rfl rfl rfl (Kp.refl ([]) w2) ?_
      refine dd_sn 0 rfl rfl rfl rfl (Kp.refl ([]) w2) ?_
      refine dd_sn 0 rfl rfl rfl rfl (Kp.refl ([]) w2) ?_
      refine dd_hn 0 rfl rfl rfl rfl (Kp.refl ([]) w2) (fun w hS => vv_pickF rfl rfl) ?_
      refine dd_hn 0 rfl rfl rfl rfl (Kp.refl ([]) w2) (fun w hS => vv_move rfl) ?_
      refine dd_sn 0 rfl rfl rfl rfl (Kp.refl ([]) w2) ?_
      refine dd_sn 0 rfl rfl rfl rfl (Kp.refl ([]) w2) ?_
      refine dd_sn 0 rfl rfl rfl rfl (Kp.refl ([]) w2) ?_
      refine dd_hn 0 rfl rfl rfl rfl (Kp.refl ([]) w2) (fun w hS => vv_pickF rfl rfl) ?_
      refine dd_hn 0 rfl rfl rfl rfl (Kp.refl ([]) w2) (fun w hS => vv_move rfl) ?_
      refine dd_sn 0 rfl rfl rfl rfl (Kp.refl ([]) w2) ?_
      refine dd_sn 0 rfl rfl rfl rfl (Kp.refl ([]) w2) ?_
      refine dd_sn 0 rfl rfl rfl rfl (Kp.refl ([]) w2) ?_
      refine dd_hn 0 rfl rfl rfl rfl (Kp.refl ([]) w2) (fun w hS => vv_pickF rfl rfl) ?_
      refine dd_hn 0 rfl rfl rfl rfl (Kp.refl ([]) w2) (fun w hS => vv_move rfl) ?_
      refine dd_sn 0 rfl rfl rfl rfl (Kp.refl ([]) w2) ?_
      refine dd_sn 0 rfl rfl rfl rfl (Kp.refl ([]) w2) ?_
      refine dd_sz rfl rfl rfl ?_
      refine dd_sn 0 rfl rfl rfl rfl (Kp.refl ([]) w2) ?_
      refine dd_hn 0 rfl rfl rfl rfl (Kp.refl ([]) w2) (fun w hS => vv_pickF rfl rfl) ?_
      refine dd_hn 0 rfl rfl rfl rfl (Kp.refl ([]) w2) (fun w hS => vv_move rfl) ?_
      refine dd_sn 0 rfl rfl rfl rfl (Kp.refl ([]) w2) ?_
      refine dd_sn 0 rfl rfl rfl rfl (Kp.refl ([]) w2) ?_
      refine dd_sn 0 rfl rfl rfl rfl (Kp.refl ([]) w2) ?_
      refine dd_sn 0 rfl rfl rfl rfl (Kp.refl ([]) w2) ?_
      refine dd_sn 0 rfl rfl rfl rfl (Kp.refl ([]) w2) ?_
      refine dd_sn 0 rfl rfl rfl rfl (Kp.refl ([]) w2) ?_
      refine dd_sn 0 rfl rfl rfl rfl (Kp.refl ([]) w2) ?_
      refine dd_sn 0 rfl rfl rfl rfl (Kp.refl ([]) w2) ?_
      refine dd_sn 0 rfl rfl rfl rfl (Kp.refl ([]) w2) ?_
      refine dd_sn 0 rfl rfl rfl rfl (Kp.refl ([]) w2) ?_
      refine dd_sn 0 rfl rfl rfl rfl (Kp.refl ([]) w2) ?_
      refine dd_hn 0 rfl rfl rfl rfl (Kp.refl ([]) w2) (fun w hS => vv_pickF rfl rfl) ?_
      refine dd_hn 0 rfl rfl rfl rfl (Kp.refl ([]) w2) (fun w hS => vv_assign rfl) ?_
      refine sd_done ?_
      refine sw_ret ?_
      have X11 : Gr w w2 := (Gr.trans (Gr.trans (Gr.refl w) Gw1) Gw2)
      have hr := Option.some.inj hm
      subst hr
      refine ⟨_, _, rfl, res_1 rfl (rv_tmp rfl), ?_⟩
      exact ⟨rfl, X11⟩
  ·
    replace hm := ite_f (of_decide_eq_false c1) hm
    refine dd_sn 0 rfl rfl rfl rfl (Kp.refl ([]) w2) ?_
    refine dd_sn 0 rfl rfl rfl rfl (Kp.refl ([]) w2) ?_
    refine dd_sn 0 rfl rfl rfl rfl (Kp.refl ([]) w2) ?_
    refine dd_hn 0 rfl rfl rfl rfl (Kp.refl ([]) w2) (fun w hS => vv_pickF rfl rfl) ?_
    refine dd_hn 0 rfl rfl rfl rfl (Kp.refl ([]) w2) (fun w hS => vv_move rfl) ?_
    refine dd_sn 0 rfl rfl rfl rfl (Kp.refl ([]) w2) ?_
    refine dd_sn 0 rfl rfl rfl rfl (Kp.refl ([]) w2) ?_
    refine dd_sn 0 rfl rfl rfl rfl (Kp.refl ([]) w2) ?_
    refine dd_hn 0 rfl rfl rfl rfl (Kp.refl ([]) w2) (fun w hS => vv_pickF rfl rfl) ?_
    refine dd_hn 0 rfl rfl rfl rfl (Kp.refl ([]) w2) (fun w hS => vv_move rfl) ?_
    refine dd_sn 0 rfl rfl rfl rfl (Kp.refl ([]) w2) ?_
    refine dd_sn 0 rfl rfl rfl rfl (Kp.refl ([]) w2) ?_
    refine dd_sn 0 rfl rfl rfl rfl (Kp.refl ([]) w2) ?_
    refine dd_hn 0 rfl rfl rfl rfl (Kp.refl ([]) w2) (fun w hS => vv_pickF rfl rfl) ?_
    refine dd_hn 0 rfl rfl rfl rfl (Kp.refl ([]) w2) (fun w hS => vv_move rfl) ?_
    refine dd_sn 0 rfl rfl rfl rfl (Kp.refl ([]) w2) ?_
    refine dd_sn 0 rfl rfl rfl rfl (Kp.refl ([]) w2) ?_
    refine dd_sn 0 rfl rfl rfl rfl (Kp.refl ([]) w2) ?_
    refine dd_hn 0 rfl rfl rfl rfl (Kp.refl ([]) w2) (fun w hS => vv_pickF rfl rfl) ?_
    refine dd_hn 0 rfl rfl rfl rfl (Kp.refl ([]) w2) (fun w hS => vv_move rfl) ?_
    refine dd_sn 0 rfl rfl rfl rfl (Kp.refl ([]) w2) ?_
    refine dd_sn 0 rfl rfl rfl rfl (Kp.refl ([]) w2) ?_
    refine dd_sz rfl rfl rfl ?_
    refine dd_sn 0 rfl rfl rfl rfl (Kp.refl ([]) w2) ?_
    refine dd_hn 0 rfl rfl rfl rfl (Kp.refl ([]) w2) (fun w hS => vv_pickF rfl rfl) ?_
    refine dd_hn 0 rfl rfl rfl rfl (Kp.refl ([]) w2) (fun w hS => vv_move rfl) ?_
    refine dd_sn 0 rfl rfl rfl rfl (Kp.refl ([]) w2) ?_
    refine dd_sn 0 rfl rfl rfl rfl (Kp.refl ([]) w2) ?_
    refine dd_sn 0 rfl rfl rfl rfl (Kp.refl ([]) w2) ?_
    refine dd_sn 0 rfl rfl rfl rfl (Kp.refl ([]) w2) ?_
    refine dd_sn 0 rfl rfl rfl rfl (Kp.refl ([]) w2) ?_
    refine dd_sn 0 rfl rfl rfl rfl (Kp.refl ([]) w2) ?_
    refine dd_sn 0 rfl rfl rfl rfl (Kp.refl ([]) w2) ?_
    refine dd_sn 0 rfl rfl rfl rfl (Kp.refl ([]) w2) ?_
    refine dd_sn 0 rfl rfl rfl rfl (Kp.refl ([]) w2) ?_
    refine dd_sn 0 rfl rfl rfl rfl (Kp.refl ([]) w2) ?_
    refine dd_sn 0 rfl rfl rfl rfl (Kp.refl ([]) w2) ?_
    refine dd_hn 0 rfl rfl rfl rfl (Kp.refl ([]) w2) (fun w hS => vv_pickF rfl rfl) ?_
    refine dd_hn 0 rfl rfl rfl rfl (Kp.refl ([]) w2) (fun w hS => vv_assign rfl) ?_
    refine sd_done ?_
    refine sw_ret ?_
    have X12 : Gr w w2 := (Gr.trans (Gr.trans (Gr.refl w) Gw1) Gw2)
    have hr := Option.some.inj hm
    subst hr
    refine ⟨_, _, rfl, res_1 rfl (rv_tmp rfl), ?_⟩
    exact ⟨rfl, X12⟩

set_option maxHeartbeats 2000000 in
theorem cipher_wordsOf_w (p0 : W2)  (r : Tcipher_pair) (hm : cipher_wordsOf p0 = some r) (w : World)   :
    Calls Try.prog 113 [kv p0].toArray w fun e w' => ∃ v, e = .returned v ∧ (v = .agg (Tcipher_pair.cs r).toArray ∧ Gr w w') := by
  unfold cipher_wordsOf at hm
  refine calls_of_sw (R := fun v w' => v = .agg (Tcipher_pair.cs r).toArray ∧ Gr w w') 29 Try.func113 rfl rfl rfl ?_
  refine sw_seq ?_
  -- region 0 cipher.go:18
  refine sw_region [(0, 0), (1, 0)] rfl rfl rfl ?_
  refine sd_ev rfl rfl rfl (ev_box (cs := kb p0) rfl rfl) ?_
  rintro _ w1 ⟨b1, rfl, hbw1, Bw1, Gw1⟩
  have z1 := Gw1.size
  have lt2 := Bw1.lt
  refine sd_ev rfl rfl rfl (ev_alloc (cs := Tcipher_pair.cs (Tcipher_pair.mk 0#64 0#64)) zv_168 rfl) ?_
  rintro _ w2 ⟨b2, rfl, hbw2, Bw2, Gw2⟩
  have z3 := Gw2.size
  have lt4 := Bw2.lt
  refine sd_done ?_
  refine sw_seq ?_
  -- region 1 cipher.go:19
  refine sw_region [(0, 0)] rfl rfl rfl ?_
  refine sd_ev rfl rfl rfl (ev_alloc (cs := Tcipher_pair.cs (Tcipher_pair.mk 0#64 0#64)) zv_168 rfl) ?_
  rintro _ w3 ⟨b3, rfl, hbw3, Bw3, Gw3⟩
  have z5 := Gw3.size
  have lt6 := Bw3.lt
  refine sd_done ?_
  refine sw_seq ?_
  refine sw_seq ?_
  -- region 2 cipher.go:20
  refine sw_region [(0, 0)] rfl rfl rfl ?_
  refine sd_vv rfl rfl rfl (vv_move rfl) ?_
  refine sd_done ?_
  refine sw_block ?_
  have X7 : Gr w w3 := (Gr.trans (Gr.trans (Gr.trans (Gr.refl w) Gw1) Gw2) Gw3)
  refine sw_loopD (α := Nat × Int × BitVec 64 × BitVec 64) [4, 5, 6, 7, 8, 9, 10, 11, 12, 13, 14, 15, 16, 17, 18, 19, 20, 21, 22, 23, 24, 25, 26, 27] (fun ⟨n1, a4, a5, a6⟩ => [(5, .int .i64 a4)]) (fun ⟨n1, a4, a5, a6⟩ wr => (fixN (cipher_wordsOf_L1 p0) n1 (a4, a5, a6) = some r) ∧ Bx wr b3 168 (Tcipher_pair.cs (Tcipher_pair.mk a5 a6)) ∧ Kz [(1, b3)] w3 wr) (fun ⟨n1, a4, a5, a6⟩ => n1) ⟨FUEL, 0, 0#64, 0#64⟩ ?_ ?_ ?_
  · repeat' first | exact trivial | refine ⟨rfl, ?_⟩
  · exact ⟨hm, Bw3, Kz.refl _ _⟩
  · clear hm; rintro ⟨n1, a4, a5, a6⟩ w4 ⟨hm, Fw4_0, Kw4⟩
    have z8 := Kw4.size
    have lt9 := Fw4_0.lt
    have hb := fix_succ hm; clear hm; obtain ⟨n1, rfl, hm⟩ := hb
    generalize hrec1 : fixN (cipher_wordsOf_L1 p0) n1 = rec1 at hm
    unfold cipher_wordsOf_L1 at hm
    try dsimp only at hm
    refine sw_seq ?_
    -- region 3 cipher.go:20
    refine sw_region [(0, 0)] rfl rfl rfl ?_
    refine sd_vv rfl rfl rfl (vv_lss (a := a4) (b := 8) rfl rfl) ?_
    refine sd_done ?_
    refine sw_seq ?_
    refine sw_cond rfl (fun c1 => ?_) (fun c1 => ?_)
    ·
      replace hm := ite_t (of_decide_eq_true c1) hm
      refine sw_skip ?_
      refine then_n ?_
      refine sw_seq ?_
      refine sw_block ?_
      refine sw_seq ?_
      -- region 4 cipher.go:20
      refine sw_region [(0, 0), (1, 0)] rfl rfl rfl ?_
      refine sd_vv rfl rfl rfl (vv_move rfl) ?_
      refine sd_vv rfl rfl rfl (vv_assign rfl) ?_
      refine sd_done ?_
      -- region 5 cipher.go:21 DRAWS
      refine sw_drawN [([b3]), ([])] [(18, [1]), (20, [1])] (.leaf [(0, 10), (1, 11), (2, 10), (3, 10), (4, 10), (5, 10), (6, 10), (7, 10), (8, 10), (9, 11), (10, 10), (11, 10), (12, 10), (13, 10), (14, 10), (15, 10), (16, 10), (17, 10), (18, 0), (19, 10), (20, 0)]) (by kernel_rfl) (by kernel_rfl) rfl (by kernel_rfl) ?_
      intro w5 Gw5 zw5
      refine sdz_leaf ?_
      refine dd_hn 0 rfl rfl rfl rfl (Kp.refl ([b3]) w5) (fun w hS => vv_fieldAddr fa_168_0 rfl) ?_
      have B10 := (Bx.gr Fw4_0 Gw5)
      refine dd_hn 1 rfl rfl rfl rfl (Kp.refl ([]) w5) (fun w hS => vv_load1 (v := wv a5) one_24 rfl (Bx.kp B10 hS) rfl) ?_
      have hb := bnd hm; clear hm; obtain ⟨n7, hn7, hm⟩ := hb
      refine dd_hn 0 rfl rfl rfl rfl (Kp.refl ([b3]) w5) (fun w hS => vv_shlU (c := a5) (b := (un 8#64)) rfl rfl hn7) ?_
      refine dd_hn 0 rfl rfl rfl rfl (Kp.refl ([b3]) w5) (fun w hS => vv_move rfl) ?_
      have hb := bnd hm; clear hm; obtain ⟨y8, hy8, hm⟩ := hb
      refine dd_hn 0 rfl rfl rfl rfl (Kp.refl ([b3]) w5) (fun w hS => vv_ixK (i := a4) (p := p0) Try.underlying23 (one_5).siz rfl rfl hy8) ?_
      have B11 := (Bx.gr (Bx.kz (Bx.gr (Bx.gr Bw1 Gw2) Gw3) Kw4) Gw5)
      refine dd_hn 0 rfl rfl rfl rfl (Kp.refl ([b3]) w5) (fun w hS => vv_ldK (off := 0) (p := p0) (i := a4) one_5 rfl (Bx.kp B11 hS) rfl hy8 (by omega)) ?_
      refine dd_hn 0 rfl rfl rfl rfl (Kp.refl ([b3]) w5) (fun w hS => vv_cvBU cv_5_24 rfl) ?_
      refine dd_hn 0 rfl rfl rfl rfl (Kp.refl ([b3]) w5) (fun w hS => vv_uor (a := a5 <<< n7) (b := y8.setWidth 64) rfl rfl) ?_
      refine dd_hn 0 rfl rfl rfl rfl (Kp.refl ([b3]) w5) (fun w hS => vv_fieldAddr fa_168_1 rfl) ?_
      refine dd_hn 1 rfl rfl rfl rfl (Kp.refl ([]) w5) (fun w hS => vv_load1 (v := wv a6) one_24 rfl (Bx.kp B10 hS) rfl) ?_
      have hb := bnd hm; clear hm; obtain ⟨n9, hn9, hm⟩ := hb
      refine dd_hn 0 rfl rfl rfl rfl (Kp.refl ([b3]) w5) (fun w hS => vv_shlU (c := a6) (b := (un 8#64)) rfl rfl hn9) ?_
      refine dd_hn 0 rfl rfl rfl rfl (Kp.refl ([b3]) w5) (fun w hS => vv_move rfl) ?_
      refine dd_hn 0 rfl rfl rfl rfl (Kp.refl ([b3]) w5) (fun w hS => vv_add (k := .i64) (a := 8) (b := a4) rfl rfl) ?_
      have hb := bnd hm; clear hm; obtain ⟨y10, hy10, hm⟩ := hb
      refine dd_hn 0 rfl rfl rfl rfl (Kp.refl ([b3]) w5) (fun w hS => vv_ixK (i := w64 (8 + a4)) (p := p0) Try.underlying23 (one_5).siz rfl rfl hy10) ?_
      refine dd_hn 0 rfl rfl rfl rfl (Kp.refl ([b3]) w5) (fun w hS => vv_ldK (off := 0) (p := p0) (i := w64 (8 + a4)) one_5 rfl (Bx.kp B11 hS) rfl hy10 (by omega)) ?_
      refine dd_hn 0 rfl rfl rfl rfl (Kp.refl ([b3]) w5) (fun w hS => vv_cvBU cv_5_24 rfl) ?_
      refine dd_hn 0 rfl rfl rfl rfl (Kp.refl ([b3]) w5) (fun w hS => vv_uor (a := a6 <<< n9) (b := y10.setWidth 64) rfl rfl) ?_
      refine dd_hn 0 rfl rfl rfl rfl (Kp.refl ([b3]) w5) (fun w hS => vv_fieldAddr fa_168_0 rfl) ?_
      refine dd_z [(1, b3)] rfl rfl rfl (ev_st1 (cs' := Tcipher_pair.cs (Tcipher_pair.mk ((a5 <<< n7) ||| (y8.setWidth 64)) a6)) (one_24).siz rfl rfl rfl B10 rfl rfl) ⟨fun _ => tk0, nofun, trivial⟩ ?_
      rintro _ w6 ⟨Bw6, Mw6⟩
      have z12 := Mw6.size
      refine ⟨Kz.ofMd Mw6, ?_⟩
      have S13 := (Kp.md (Kp.refl ([b3]) w5) Mw6)
      refine dd_hn 0 rfl rfl rfl rfl S13 (fun w hS => vv_fieldAddr fa_168_1 rfl) ?_
      refine dd_z [(1, b3)] rfl rfl rfl (ev_st1 (cs' := Tcipher_pair.cs (Tcipher_pair.mk ((a5 <<< n7) ||| (y8.setWidth 64)) ((a6 <<< n9) ||| (y10.setWidth 64)))) (one_24).siz rfl rfl rfl Bw6 rfl rfl) ⟨fun _ => tk0, nofun, trivial⟩ ?_
      rintro _ w7 ⟨Bw7, Mw7⟩
      have z14 := Mw7.size
      refine ⟨Kz.ofMd Mw7, ?_⟩
      refine sd_nil ?_
      refine block_n ?_
      refine then_n ?_
      -- region 6 cipher.go:20
      refine sw_region [(0, 0), (1, 0)] rfl rfl rfl ?_
      refine sd_vv rfl rfl rfl (vv_add (k := .i64) (a := a4) (b := 1) rfl rfl) ?_
      refine sd_vv rfl rfl rfl (vv_move rfl) ?_
      refine sd_nil ?_
      have K_15 : Kz [(1, b3)] w3 w7 := (Kz.md (Kz.md (Kz.gr Kw4 Gw5) Mw6) Mw7)
      subst hrec1
      refine ⟨rfl, ⟨n1, w64 (a4 + 1), (a5 <<< n7) ||| (y8.setWidth 64), (a6 <<< n9) ||| (y10.setWidth 64)⟩, ?_, ⟨hm, Bw7, K_15⟩, Nat.lt_succ_self _⟩
      repeat' first | exact trivial | refine ⟨rfl, ?_⟩
    ·
      replace hm := ite_f (of_decide_eq_false c1) hm
      refine sw_exit ?_
      refine then_x ?_
      refine then_x ?_
      refine block_x ?_
      refine then_n ?_
      refine sw_seq ?_
      -- region 7 cipher.go:23
      refine sw_region [(0, 0), (1, 0)] rfl rfl rfl ?_
      refine sd_vv rfl rfl rfl (vv_loadW agg_168 rfl Fw4_0 rfl) ?_
      have B16 := (Bx.kz (Bx.gr Bw2 Gw3) Kw4)
      refine sd_ev rfl rfl rfl (ev_stM (cs' := Tcipher_pair.cs (Tcipher_pair.mk a5 a6)) (vs := Tcipher_pair.cs (Tcipher_pair.mk a5 a6)) (agg_168).siz rfl rfl rfl rfl rfl B16 rfl rfl) ?_
      rintro _ w8 ⟨Bw8, Mw8⟩
      have z17 := Mw8.size
      refine sd_done ?_
      refine sw_ret ?_
      have X18 : Gr w w8 := (Gr.md (Gr.kz X7 Kw4) Mw8)
      have hr := Option.some.inj hm
      subst hr
      refine ⟨_, _, rfl, res_1 rfl (rv_cellW agg_168 rfl Bw8 rfl), ?_⟩
      exact ⟨rfl, X18⟩

set_option maxHeartbeats 2000000 in
theorem cipher_Number_w (p0 : W2) (p1 : BitVec 64) (p2 : BitVec 64)  (r : BitVec 64) (hm : cipher_Number p0 p1 p2 = some r) (w : World)   :
    Calls Try.prog 68 [kv p0, wv p1, wv p2].toArray w fun e w' => ∃ v, e = .returned v ∧ (v = wv r ∧ Gr w w') := by
  unfold cipher_Number at hm
  refine calls_of_sw (R := fun v w' => v = wv r ∧ Gr w w') 16 Try.func68 rfl rfl rfl ?_
  refine sw_seq ?_
  -- region 0 cipher.go:91
  refine sw_region [(0, 0), (1, 0)] rfl rfl rfl ?_
  refine sd_ev rfl rfl rfl (ev_box (cs := kb p0) rfl rfl) ?_
  rintro _ w1 ⟨b1, rfl, hbw1, Bw1, Gw1⟩
  have z1 := Gw1.size
  have lt2 := Bw1.lt
  refine sd_vv rfl rfl rfl (vv_assign rfl) ?_
  refine sd_done ?_
  refine sw_seq ?_
  refine sw_seq ?_
  -- region 1 cipher.go:92
  refine sw_region [(0, 0), (1, 0)] rfl rfl rfl ?_
  refine sd_vv rfl rfl rfl (vv_move rfl) ?_
  refine sd_vv rfl rfl rfl (vv_eqlU (c := p2) (d := 0#64) rfl rfl) ?_
  refine sd_done ?_
  refine sw_cond rfl (fun c1 => ?_) (fun c1 => ?_)
  ·
    replace hm := ite_t (of_decide_eq_true c1) hm
    refine sw_seq ?_
    -- region 2 cipher.go:93
    refine sw_region [(0, 0)] rfl rfl rfl ?_
    refine sd_vv rfl rfl rfl (vv_assign rfl) ?_
    refine sd_done ?_
    refine sw_ret ?_
    refine then_r ?_
    have X3 : Gr w w1 := (Gr.trans (Gr.refl w) Gw1)
    have hr := Option.some.inj hm
    subst hr
    refine ⟨_, _, rfl, res_1 rfl (rv_tmp rfl), ?_⟩
    exact ⟨rfl, X3⟩
  ·
    replace hm := ite_f (of_decide_eq_false c1) hm
    refine sw_skip ?_
    refine then_n ?_
    refine sw_seq ?_
    -- region 3 cipher.go:95
    refine sw_region [(0, 0), (1, 0), (2, 0), (3, 0), (4, 0), (5, 0), (6, 0), (7, 0)] rfl rfl rfl ?_
    refine sd_vv rfl rfl rfl (vv_loadW agg_23 rfl Bw1 rfl) ?_
    refine sd_vv rfl rfl rfl (vv_move rfl) ?_
    refine sd_ev rfl rfl rfl (ev_call en_52 rfl (derive_c p0 (un8 3#8) (un8_nn _) (un8_le _) p1 _)) ?_
    rintro _ w2 ⟨rfl, Gw2⟩
    have z4 := Gw2.size
    have hb := bnd hm; clear hm; obtain ⟨x1, hx1, hm⟩ := hb
    refine sd_ev rfl rfl rfl (ev_call en_113 rfl (cipher_wordsOf_w (drv p0 (un8 3#8) p1) _ hx1 _)) ?_
    rintro _ w3 ⟨rfl, Gw3⟩
    have z5 := Gw3.size
    refine sd_vv rfl rfl rfl (vv_field1 (v := wv x1.x) f1_168_0 rfl rfl) ?_
    refine sd_vv rfl rfl rfl (vv_move rfl) ?_
    have hb := bnd hm; clear hm; obtain ⟨x2, hx2, hm⟩ := hb
    refine sd_vv rfl rfl rfl (vv_remU (c := x1.x) (d := p2) rfl rfl hx2) ?_
    refine sd_vv rfl rfl rfl (vv_assign rfl) ?_
    refine sd_done ?_
    refine sw_ret ?_
    have X6 : Gr w w3 := (Gr.trans (Gr.trans (Gr.trans (Gr.refl w) Gw1) Gw2) Gw3)
    have hr := Option.some.inj hm
    subst hr
    refine ⟨_, _, rfl, res_1 rfl (rv_tmp rfl), ?_⟩
    exact ⟨rfl, X6⟩

set_option maxHeartbeats 2000000 in
theorem poly_secret_w (p0 : W2) (p1 : TScheme)  (r : List (BitVec 64)) (hm : poly_secret p0 p1 = some r) (w : World)   :
    Calls Try.prog 64 [kv p0, .agg (TScheme.cs p1).toArray].toArray w fun e w' => ∃ v, e = .returned v ∧ (∃ (ur0_s : Value) (zr0_s : Nat) (gr0_s : Nat), v = ur0_s ∧ Own w' zr0_s gr0_s 24 1 ur0_s (r.map uwc) ∧ Hdn (zr0_s = 0 ∨ w.heap.size ≤ gr0_s) ∧ Gr w w') := by
  unfold poly_secret at hm
  refine calls_of_sw (R := fun v w' => ∃ (ur0_s : Value) (zr0_s : Nat) (gr0_s : Nat), v = ur0_s ∧ Own w' zr0_s gr0_s 24 1 ur0_s (r.map uwc) ∧ Hdn (zr0_s = 0 ∨ w.heap.size ≤ gr0_s) ∧ Gr w w') 31 Try.func64 rfl rfl rfl ?_
  refine sw_seq ?_
  -- region 0 poly.go:59
  refine sw_region [(0, 0), (1, 0), (2, 0)] rfl rfl rfl ?_
  refine sd_ev rfl rfl rfl (ev_box (cs := kb p0) rfl rfl) ?_
  rintro _ w1 ⟨b1, rfl, hbw1, Bw1, Gw1⟩
  have z1 := Gw1.size
  have lt2 := Bw1.lt
  refine sd_ev rfl rfl rfl (ev_box (cs := TScheme.cs p1) rfl rfl) ?_
  rintro _ w2 ⟨b2, rfl, hbw2, Bw2, Gw2⟩
  have z3 := Gw2.size
  have lt4 := Bw2.lt
  refine sd_vv rfl rfl rfl (vv_assign rfl) ?_
  refine sd_done ?_
  refine sw_seq ?_
  -- region 1 poly.go:60
  refine sw_region [(0, 0), (1, 0), (2, 0), (3, 0)] rfl rfl rfl ?_
  have B5 := (Bx.gr Bw1 Gw2)
  refine sd_vv rfl rfl rfl (vv_loadW agg_23 rfl B5 rfl) ?_
  refine sd_ev rfl rfl rfl (ev_call en_52 rfl (derive_c p0 (un8 40#8) (un8_nn _) (un8_le _) 0#64 _)) ?_
  rintro _ w3 ⟨rfl, Gw3⟩
  have z6 := Gw3.size
  refine sd_ev rfl rfl rfl (ev_alloc (cs := kb k0) zv_23 rfl) ?_
  rintro _ w4 ⟨b4, rfl, hbw4, Bw4, Gw4⟩
  have z7 := Gw4.size
  have lt8 := Bw4.lt
  refine sd_ev rfl rfl rfl (ev_stM (cs' := kb (drv p0 (un8 40#8) 0#64)) (vs := kb (drv p0 (un8 40#8) 0#64)) (agg_23).siz rfl rfl rfl rfl rfl Bw4 rfl (by obtain ⟨kk0, hk0⟩ := ex_of (drv p0 (un8 40#8) 0#64); rw [← hk0]; first | done | rfl)) ?_
  rintro _ w5 ⟨Bw5, Mw5⟩
  have z9 := Mw5.size
  refine sd_done ?_
  refine sw_seq ?_
  -- region 2 poly.go:61
  refine sw_region [(0, 0), (1, 0), (2, 0), (3, 0), (4, 0)] rfl rfl rfl ?_
  refine sd_vv rfl rfl rfl (vv_fieldAddr fa_28_2 rfl) ?_
  have B10 := (Bx.md (Bx.gr (Bx.gr Bw2 Gw3) Gw4) Mw5)
  refine sd_vv rfl rfl rfl (vv_load1 (v := .int .i64 p1.Degree) one_3 rfl B10 rfl) ?_
  refine sd_vv rfl rfl rfl (vv_add (k := .i64) (a := p1.Degree) (b := 1) rfl rfl) ?_
  have hb := bnd hm; clear hm; obtain ⟨l1, hl1, hm⟩ := hb
  refine sd_ev rfl rfl rfl (ev_mkT (c := uwc) (a := 0#64) apt_116 zv_24 rfl ⟨rfl, rfl⟩ rfl hl1 (by decide)) ?_
  rintro vw6 w6 ⟨gw6, hbw6, Ow6, Gw6⟩
  have z11 := Gw6.size
  have lt12 := Ow6.lth
  refine sd_vv rfl rfl rfl (vv_assign rfl) ?_
  refine sd_done ?_
  refine sw_seq ?_
  refine sw_seq ?_
  -- region 3 poly.go:62
  refine sw_region [(0, 0), (1, 0), (2, 0)] rfl rfl rfl ?_
  refine sd_vv rfl rfl rfl (vv_move rfl) ?_
  refine sd_vv rfl rfl rfl (vv_lenT (l := l1) (c := uwc) Try.underlying116 rfl (Own.rd Ow6)) ?_
  refine sd_vv rfl rfl rfl (vv_move rfl) ?_
  refine sd_done ?_
  refine sw_block ?_
  have X13 : Gr w w6 := (Gr.trans (Gr.md (Gr.trans (Gr.trans (Gr.trans (Gr.trans (Gr.refl w) Gw1) Gw2) Gw3) Gw4) Mw5) Gw6)
  refine sw_loopD (α := Nat × List (BitVec 64) × Int × Value × Nat × Nat) [6, 7, 16, 17, 18, 19, 20, 21, 22, 23, 24, 25, 26, 27, 28, 29] (fun ⟨n1, a5, a7, vy6, zy6, gy6⟩ => [(6, vy6), (16, .int .i64 a7)]) (fun ⟨n1, a5, a7, vy6, zy6, gy6⟩ wr => (fixN (poly_secret_L1 p0 p1 l1) n1 (a5, a7) = some r) ∧ Own wr zy6 gy6 24 1 vy6 (a5.map uwc) ∧ Hdn (zy6 = 0 ∨ (gy6 = gw6 ∧ 1 ≠ 0) ∨ w6.heap.size ≤ gy6) ∧ Kz [(1, gw6)] w6 wr) (fun ⟨n1, a5, a7, vy6, zy6, gy6⟩ => n1) ⟨FUEL, l1, 0, vw6, 1, gw6⟩ ?_ ?_ ?_
  · repeat' first | exact trivial | refine ⟨rfl, ?_⟩
  · exact ⟨hm, Ow6, ⟨tk0⟩, Kz.refl _ _⟩
  · clear hm; rintro ⟨n1, a5, a7, vy6, zy6, gy6⟩ w7 ⟨hm, Fw7_0, Fw7_1, Kw7⟩
    have z14 := Kw7.size
    have lt15 := Fw7_0.lth
    have hb := fix_succ hm; clear hm; obtain ⟨n1, rfl, hm⟩ := hb
    generalize hrec1 : fixN (poly_secret_L1 p0 p1 l1) n1 = rec1 at hm
    unfold poly_secret_L1 at hm
    try dsimp only at hm
    refine sw_seq ?_
    -- region 4 poly.go:62
    refine sw_region [(0, 0)] rfl rfl rfl ?_
    refine sd_vv rfl rfl rfl (vv_lss (a := a7) (b := (l1.length : Int)) rfl rfl) ?_
    refine sd_done ?_
    refine sw_seq ?_
    refine sw_cond rfl (fun c1 => ?_) (fun c1 => ?_)
    ·
      replace hm := ite_t (of_decide_eq_true c1) hm
      refine sw_skip ?_
      refine then_n ?_
      refine sw_seq ?_
      refine sw_block ?_
      refine sw_seq ?_
      -- region 5 poly.go:62
      refine sw_region [(0, 0), (1, 0)] rfl rfl rfl ?_
      refine sd_vv rfl rfl rfl (vv_move rfl) ?_
      refine sd_vv rfl rfl rfl (vv_assign rfl) ?_
      refine sd_done ?_
      -- region 6 poly.go:63
      refine sw_region [(0, 0), (1, 0), (2, 0), (3, 0), (4, 0), (5, 0), (6, 0), (7, 0), (8, 0), (9, 0), (10, 0)] rfl rfl rfl ?_
      refine sd_vv rfl rfl rfl (vv_move rfl) ?_
      refine sd_vv rfl rfl rfl (vv_move rfl) ?_
      have B16 := (Bx.kz (Bx.gr Bw5 Gw6) Kw7 (tk1 ((.inr tk0) : 1 = 0 ∨ gw6 ≠ b4)))
      refine sd_vv rfl rfl rfl (vv_loadW agg_23 rfl B16 rfl) ?_
      refine sd_vv rfl rfl rfl (vv_move rfl) ?_
      refine sd_vv rfl rfl rfl (vv_cvIU cv_3_24 rfl) ?_
      refine sd_vv rfl rfl rfl (vv_fieldAddr fa_28_3 rfl) ?_
      refine sd_vv rfl rfl rfl (vv_fieldAddr fa_26_1 rfl) ?_
      have B17 := (Bx.kz (Bx.gr B10 Gw6) Kw7 (tk1 ((.inr tk0) : 1 = 0 ∨ gw6 ≠ b2)))
      refine sd_vv rfl rfl rfl (vv_load1 (v := wv p1.Group.Q) one_24 rfl B17 rfl) ?_
      have hb := bnd hm; clear hm; obtain ⟨x8, hx8, hm⟩ := hb
      refine sd_ev rfl rfl rfl (ev_call en_68 rfl (cipher_Number_w (drv p0 (un8 40#8) 0#64) (wd a7) p1.Group.Q _ hx8 _)) ?_
      rintro _ w8 ⟨rfl, Gw8⟩
      have z18 := Gw8.size
      have hb := bnd hm; clear hm; obtain ⟨y9, hy9, hm⟩ := hb
      have B19 := (Own.gr Fw7_0 Gw8)
      refine sd_vv rfl rfl rfl (vv_ixT (i := a7) Try.underlying116 (one_24).siz rfl (Own.rd B19) rfl hy9) ?_
      have zo20 := Own.z1 B19 hy9
      refine sd_ev rfl rfl rfl (ev_stEl (i := a7) (q := 0) (a' := x8) (vs := [wv x8]) (c := uwc) (one_24).siz rfl rfl rfl rfl rfl B19 hy9 (by first | rfl | omega) rfl rfl ⟨rfl, rfl⟩) ?_
      rintro _ w9 ⟨Ow9, Mw9⟩
      have z21 := Mw9.size
      refine sd_nil ?_
      refine block_n ?_
      refine then_n ?_
      -- region 7 poly.go:62
      refine sw_region [(0, 0), (1, 0)] rfl rfl rfl ?_
      refine sd_vv rfl rfl rfl (vv_add (k := .i64) (a := a7) (b := 1) rfl rfl) ?_
      refine sd_vv rfl rfl rfl (vv_move rfl) ?_
      refine sd_nil ?_
      have K_22 : Kz [(1, gw6)] w6 w9 := (Kz.md (Kz.gr Kw7 Gw8) Mw9 (tk1 ((pv_1 (A := (fun x => (x = gw6 ∧ 1 ≠ 0) ∨ w6.heap.size ≤ x)) Fw7_1 tk0) : zy6 = 0 ∨ (gy6 = gw6 ∧ 1 ≠ 0) ∨ w6.heap.size ≤ gy6)))
      subst hrec1
      refine ⟨rfl, ⟨n1, a5.set a7.toNat x8, w64 (a7 + 1), vy6, zy6, gy6⟩, ?_, ⟨hm, Ow9, ⟨(pv_1 (A := (fun x => (x = gw6 ∧ 1 ≠ 0) ∨ w6.heap.size ≤ x)) Fw7_1 tk0)⟩, K_22⟩, Nat.lt_succ_self _⟩
      repeat' first | exact trivial | refine ⟨rfl, ?_⟩
    ·
      replace hm := ite_f (of_decide_eq_false c1) hm
      refine sw_exit ?_
      refine then_x ?_
      refine then_x ?_
      refine block_x ?_
      refine then_n ?_
      refine sw_seq ?_
      -- region 8 poly.go:65
      refine sw_region [(0, 0), (1, 0)] rfl rfl rfl ?_
      refine sd_vv rfl rfl rfl (vv_move rfl) ?_
      refine sd_vv rfl rfl rfl (vv_assign rfl) ?_
      refine sd_done ?_
      refine sw_ret ?_
      have X23 : Gr w w7 := (Gr.kz X13 Kw7 (tk1 ((.inr tk0) : 1 = 0 ∨ w.heap.size ≤ gw6)))
      have hr := Option.some.inj hm
      subst hr
      refine ⟨_, _, rfl, res_1 rfl (rv_tmp rfl), ?_⟩
      exact ⟨vy6, zy6, gy6, rfl, Fw7_0, ⟨(pv_1 (A := (fun x => w.heap.size ≤ x)) Fw7_1 (.inr tk0))⟩, X23⟩

set_option maxHeartbeats 2000000 in
theorem slices_Backward_dc0b_w (p0 : List (BitVec 64)) (vp0 : Value) (zp0 gp0 op0 : Nat) (r : List (BitVec 64)) (hm : slices_Backward_dc0b p0 = some r) (w : World) (hp0 : Rd w zp0 gp0 op0 1 vp0 (p0.map uwc))  :
    Calls Try.prog 118 [vp0].toArray w fun e w' => ∃ v, e = .returned v ∧ (∃ (bc0 : Nat) (uc0_s : Value) (zc0_s : Nat) (gc0_s : Nat) (oc0_s : Nat), v = .func (.func 146) #[] [.pointer (some ⟨bc0, 0, none⟩)].toArray ∧ Bx w' bc0 116 ([uc0_s]) ∧ (w.heap.size ≤ bc0) ∧ Rd w' zc0_s gc0_s oc0_s 1 uc0_s (r.map uwc) ∧ Hdn (zc0_s = 0 ∨ (gc0_s = gp0 ∧ zp0 ≠ 0) ∨ w.heap.size ≤ gc0_s) ∧ Gr w w') := by
  have lt1 := hp0.lth
  unfold slices_Backward_dc0b at hm
  refine calls_of_sw (R := fun v w' => ∃ (bc0 : Nat) (uc0_s : Value) (zc0_s : Nat) (gc0_s : Nat) (oc0_s : Nat), v = .func (.func 146) #[] [.pointer (some ⟨bc0, 0, none⟩)].toArray ∧ Bx w' bc0 116 ([uc0_s]) ∧ (w.heap.size ≤ bc0) ∧ Rd w' zc0_s gc0_s oc0_s 1 uc0_s (r.map uwc) ∧ Hdn (zc0_s = 0 ∨ (gc0_s = gp0 ∧ zp0 ≠ 0) ∨ w.heap.size ≤ gc0_s) ∧ Gr w w') 4 Try.func118 rfl rfl rfl ?_
  refine sw_seq ?_
  -- region 0 iter.go:26
  refine sw_region [(0, 0), (1, 0)] rfl rfl rfl ?_
  refine sd_ev rfl rfl rfl (ev_box (cs := [vp0]) rfl (cells1 (Rd.oneB hp0))) ?_
  rintro _ w1 ⟨b1, rfl, hbw1, Bw1, Gw1⟩
  have z2 := Gw1.size
  have lt3 := Bw1.lt
  refine sd_vv rfl rfl rfl (vv_assign rfl) ?_
  refine sd_done ?_
  refine sw_seq ?_
  -- region 1 iter.go:27
  refine sw_region [(0, 0), (1, 0)] rfl rfl rfl ?_
  refine sd_vv rfl rfl rfl (vv_makeFunc rfl rfl) ?_
  refine sd_vv rfl rfl rfl (vv_assign rfl) ?_
  refine sd_done ?_
  refine sw_ret ?_
  have B4 := (Rd.gr hp0 Gw1)
  have X5 : Gr w w1 := (Gr.trans (Gr.refl w) Gw1)
  have hr := Option.some.inj hm
  subst hr
  refine ⟨_, _, rfl, res_1 rfl (rv_tmp rfl), ?_⟩
  exact ⟨b1, vp0, zp0, gp0, op0, rfl, Bw1, by omega, B4, ⟨tk0⟩, X5⟩

set_option maxHeartbeats 2000000 in
theorem slices_Backward_1_20b1_it (p1 : List (BitVec 64)) (bp1 : Nat) (vp1_0 : Value) (zp1_0 gp1_0 op1_0 : Nat) (xs : List (Int × BitVec 64)) (hm : slices_Backward_1_20b1 p1 = some xs) (w0 : World) (hbp1 : Bx w0 bp1 116 ([vp1_0])) (hp1_0 : Rd w0 zp1_0 gp1_0 op1_0 1 vp1_0 (p1.map uwc)) :
    IT Try.prog 146 [.pointer (some ⟨bp1, 0, none⟩)] (xs.map (fun (x : Int × BitVec 64) => ([.int .i64 x.1, wv x.2] : List Value))) (zf zp1_0 gp1_0 ++ [bp1]) w0 := by
  intro l J Jx w fp hG hJ hJx hcap h0 hY
  have c1 := Rd.gr hp1_0 hG
  have lt2 := c1.lth
  have nb3 : zp1_0 = 0 ∨ gp1_0 ∉ fp := by by_cases hz : zp1_0 = 0; exact .inl hz; exact .inr (hcap _ (by simp [mem_zf, hz]))
  have c4 := Bx.gr hbp1 hG
  have lt5 := c4.lt
  have nb6 : bp1 ∉ fp := hcap _ (by simp)
  have hd := dr_0 xs
  unfold slices_Backward_1_20b1 at hm
  refine calls_of_sw (R := fun v w' => Kp fp w w' ∧ ((∃ fp', (∀ c ∈ fp', c ∈ fp ∨ w.heap.size ≤ c) ∧ J (xs.map (fun (x : Int × BitVec 64) => ([.int .i64 x.1, wv x.2] : List Value))).length fp' w') ∨ (∃ j fp', (∀ c ∈ fp', c ∈ fp ∨ w.heap.size ≤ c) ∧ j ≤ (xs.map (fun (x : Int × BitVec 64) => ([.int .i64 x.1, wv x.2] : List Value))).length ∧ Jx j fp' w'))) 19 Try.func146 rfl rfl rfl ?_
  refine sw_seq ?_
  -- region 0 iter.go:28
  refine sw_region [(0, 0), (1, 0), (2, 0), (3, 0)] rfl rfl rfl ?_
  refine sd_vv rfl rfl rfl (vv_load1 (v := vp1_0) one_116 rfl c4 rfl) ?_
  refine sd_vv rfl rfl rfl (vv_lenT (l := p1) (c := uwc) Try.underlying116 rfl c1) ?_
  refine sd_vv rfl rfl rfl (vv_sub (k := .i64) (a := (p1.length : Int)) (b := 1) rfl rfl) ?_
  refine sd_vv rfl rfl rfl (vv_assign rfl) ?_
  refine sd_done ?_
  refine sw_block ?_
  refine sw_loopD (α := Nat × Int × Nat × List Nat × List (Int × BitVec 64)) [3, 7, 8, 9, 10, 11, 12, 13, 14, 15, 16, 17, 18] (fun ⟨n1, a2, kk, fpl, rl⟩ => [(3, .int .i64 a2)]) (fun ⟨n1, a2, kk, fpl, rl⟩ wr => (fixN (slices_Backward_1_20b1_L1 p1) n1 a2 = some rl) ∧ Dr xs kk rl ∧ J kk fpl wr ∧ (∀ c ∈ fpl, c ∈ fp ∨ w.heap.size ≤ c) ∧ Kp fp w wr ∧ Rd wr zp1_0 gp1_0 op1_0 1 vp1_0 (p1.map uwc) ∧ Bx wr bp1 116 ([vp1_0]) ∧ (zp1_0 = 0 ∨ gp1_0 ∉ fpl) ∧ bp1 ∉ fpl ∧ True) (fun ⟨n1, a2, kk, fpl, rl⟩ => n1) ⟨FUEL, w64 ((p1.length : Int) - 1), 0, fp, xs⟩ ?_ ?_ ?_
  · repeat' first | exact trivial | refine ⟨rfl, ?_⟩
  · exact ⟨hm, hd, h0, (fun c hc => Or.inl hc), (Kp.refl fp w), c1, c4, nb3, nb6, trivial⟩
  · clear hm; rintro ⟨n1, a2, kk1, fpl1, rl1⟩ w1 ⟨hm, dl1, JLw1, sl1, KLw1, Sw1_0, Sw1_1, Nw1_0, Nw1_1, -⟩
    have z7 := KLw1.size
    have lt8 := Sw1_0.lth
    have lt9 := Sw1_1.lt
    have hb := fix_succ hm; clear hm; obtain ⟨n1, rfl, hm⟩ := hb
    generalize hrec1 : fixN (slices_Backward_1_20b1_L1 p1) n1 = rec1 at hm
    unfold slices_Backward_1_20b1_L1 at hm
    try dsimp only at hm
    refine sw_seq ?_
    refine sw_seq ?_
    -- region 1 iter.go:28
    refine sw_region [(0, 0), (1, 0)] rfl rfl rfl ?_
    refine sd_vv rfl rfl rfl (vv_move rfl) ?_
    refine sd_vv rfl rfl rfl (vv_geq (a := a2) (b := 0) rfl rfl) ?_
    refine sd_done ?_
    refine sw_cond rfl (fun c1 => ?_) (fun c1 => ?_)
    ·
      replace hm := ite_t (of_decide_eq_true c1) hm
      refine sw_skip ?_
      refine then_n ?_
      refine sw_seq ?_
      refine sw_block ?_
      refine sw_seq ?_
      -- region 3 iter.go:29
      refine sw_region [(0, 0), (1, 0), (2, 0), (3, 0), (4, 0), (5, 0), (6, 0), (7, 0)] rfl rfl rfl ?_
      refine sd_vv rfl rfl rfl (vv_move rfl) ?_
      refine sd_vv rfl rfl rfl (vv_move rfl) ?_
      refine sd_vv rfl rfl rfl (vv_load1 (v := vp1_0) one_116 rfl Sw1_1 rfl) ?_
      refine sd_vv rfl rfl rfl (vv_move rfl) ?_
      have hb := bnd hm; clear hm; obtain ⟨y3, hy3, hm⟩ := hb
      refine sd_vv rfl rfl rfl (vv_ixT (i := a2) Try.underlying116 (one_24).siz rfl Sw1_0 rfl hy3) ?_
      refine sd_vv rfl rfl rfl (vv_el1T (q := 0) (u := wv y3) one_24 rfl Sw1_0 hy3 (by first | rfl | omega) rfl) ?_
      obtain ⟨rr10, hm, he10⟩ := yl_some hm
      have hx10 := Dr.at dl1 he10
      have hd10 := Dr.next dl1 he10
      refine sd_ev rfl rfl rfl (ev_yield rfl rfl (hY _ _ _ _ (getm hx10) JLw1 KLw1 sl1)) ?_
      rintro _ w2 ⟨bb, rfl, KF10, fp10, hg10, hJb⟩
      have z11 := KF10.size
      have sub10 : ∀ c ∈ fp10, c ∈ fp ∨ w.heap.size ≤ c := sub_grow sl1 hg10 (by omega)
      have nb12 := notin_growz hg10 Nw1_0 (by have := lt8.o; omega)
      have nb13 := notin_grow hg10 Nw1_1 (by omega)
      cases bb
      ·
        have Jy10 : Jx (kk1 + 1) fp10 w2 := hJb
        refine sd_vv rfl rfl rfl (vv_not rfl) ?_
        refine sd_done ?_
        refine sw_condT rfl ?_
        refine sw_ret ?_
        refine block_r ?_
        refine then_r ?_
        refine then_r ?_
        refine block_r ?_
        have KI14 : Kp fp w w2 := (Kp.trans KLw1 KF10 sl1)
        exact ⟨_, _, rfl, res_none rfl, KI14, .inr ⟨_, _, sub10, (by rw [List.length_map]; exact (List.getElem?_eq_some_iff.1 hx10).1), Jy10⟩⟩
      ·
        have Jy10 : J (kk1 + 1) fp10 w2 := hJb
        refine sd_vv rfl rfl rfl (vv_not rfl) ?_
        refine sd_done ?_
        refine sw_condF rfl ?_
        refine sw_skip ?_
        refine block_n ?_
        refine then_n ?_
        -- region 2 iter.go:28
        refine sw_region [(0, 0), (1, 0), (2, 0)] rfl rfl rfl ?_
        refine sd_vv rfl rfl rfl (vv_move rfl) ?_
        refine sd_vv rfl rfl rfl (vv_sub (k := .i64) (a := a2) (b := 1) rfl rfl) ?_
        refine sd_vv rfl rfl rfl (vv_assign rfl) ?_
        refine sd_nil ?_
        have KI15 : Kp fp w w2 := (Kp.trans KLw1 KF10 sl1)
        have B16 := (Rd.kp Sw1_0 KF10 Nw1_0)
        have B17 := (Bx.kp Sw1_1 KF10 Nw1_1)
        subst hrec1
        refine ⟨rfl, ⟨n1, w64 (a2 - 1), (kk1 + 1), fp10, rr10⟩, ?_, ⟨hm, hd10, Jy10, sub10, KI15, B16, B17, nb12, nb13, trivial⟩, Nat.lt_succ_self _⟩
        repeat' first | exact trivial | refine ⟨rfl, ?_⟩
    ·
      replace hm := ite_f (of_decide_eq_false c1) hm
      refine sw_exit ?_
      refine then_x ?_
      refine then_x ?_
      refine block_x ?_
      have he := Option.some.inj hm
      have hl := Dr.last (c := (fun (x : Int × BitVec 64) => ([.int .i64 x.1, wv x.2] : List Value))) dl1 he.symm
      refine ⟨_, _, rfl, res_none rfl, KLw1, .inl ⟨_, sl1, ?_⟩⟩
      rw [← hl]; exact JLw1

set_option maxHeartbeats 2000000 in
theorem poly_field_mul_w (p0 : BitVec 64) (p1 : List (BitVec 64)) (vp1 : Value) (zp1 gp1 op1 : Nat) (r : BitVec 64) (hm : poly_field_mul p0 p1 = some r) (w : World) (hp1 : Rd w zp1 gp1 op1 1 vp1 (p1.map uwc))  :
    Calls Try.prog 76 [wv p0, vp1].toArray w fun e w' => ∃ v, e = .returned v ∧ (v = wv r ∧ Gr w w') := by
  have lt1 := hp1.lth
  unfold poly_field_mul at hm
  refine calls_of_sw (R := fun v w' => v = wv r ∧ Gr w w') 21 Try.func76 rfl rfl rfl ?_
  refine sw_seq ?_
  -- region 0 poly.go:19
  refine sw_region [(0, 0)] rfl rfl rfl ?_
  refine sd_vv rfl rfl rfl (vv_assign rfl) ?_
  refine sd_done ?_
  refine sw_seq ?_
  -- region 1 poly.go:20
  refine sw_region [(0, 0)] rfl rfl rfl ?_
  refine sd_vv rfl rfl rfl (vv_assign rfl) ?_
  refine sd_done ?_
  refine sw_seq ?_
  refine sw_seq ?_
  -- region 2 poly.go:21
  refine sw_region [(0, 0), (1, 0), (2, 0)] rfl rfl rfl ?_
  refine sd_vv rfl rfl rfl (vv_move rfl) ?_
  refine sd_vv rfl rfl rfl (vv_lenT (l := p1) (c := uwc) Try.underlying60 rfl hp1) ?_
  refine sd_vv rfl rfl rfl (vv_move rfl) ?_
  refine sd_done ?_
  refine sw_block ?_
  refine sw_loopD (α := Nat × BitVec 64 × Int) [5, 7, 10, 11, 12, 13, 14, 15, 16, 17, 18, 19] (fun ⟨n1, a3, a4⟩ => [(5, wv a3), (10, .int .i64 a4)]) (fun ⟨n1, a3, a4⟩ wr => (fixN (poly_field_mul_L1 p0 p1) n1 (a3, a4) = some r) ∧ Kz [] w wr) (fun ⟨n1, a3, a4⟩ => n1) ⟨FUEL, 1#64, 0⟩ ?_ ?_ ?_
  · repeat' first | exact trivial | refine ⟨rfl, ?_⟩
  · exact ⟨hm, Kz.refl _ _⟩
  · clear hm; rintro ⟨n1, a3, a4⟩ w1 ⟨hm, Kw1⟩
    have z2 := Kw1.size
    have hb := fix_succ hm; clear hm; obtain ⟨n1, rfl, hm⟩ := hb
    generalize hrec1 : fixN (poly_field_mul_L1 p0 p1) n1 = rec1 at hm
    unfold poly_field_mul_L1 at hm
    try dsimp only at hm
    refine sw_seq ?_
    -- region 3 poly.go:21
    refine sw_region [(0, 0)] rfl rfl rfl ?_
    refine sd_vv rfl rfl rfl (vv_lss (a := a4) (b := (p1.length : Int)) rfl rfl) ?_
    refine sd_done ?_
    refine sw_seq ?_
    refine sw_cond rfl (fun c1 => ?_) (fun c1 => ?_)
    ·
      replace hm := ite_t (of_decide_eq_true c1) hm
      refine sw_skip ?_
      refine then_n ?_
      refine sw_seq ?_
      refine sw_block ?_
      refine sw_seq ?_
      -- region 4 poly.go:21
      refine sw_region [(0, 0), (1, 0), (2, 0)] rfl rfl rfl ?_
      have hb := bnd hm; clear hm; obtain ⟨y5, hy5, hm⟩ := hb
      have B3 := (Rd.kz hp1 Kw1)
      refine sd_vv rfl rfl rfl (vv_ixT (i := a4) Try.underlying60 (one_24).siz rfl B3 rfl hy5) ?_
      refine sd_vv rfl rfl rfl (vv_el1T (q := 0) (u := wv y5) one_24 rfl B3 hy5 (by first | rfl | omega) rfl) ?_
      refine sd_vv rfl rfl rfl (vv_assign rfl) ?_
      refine sd_done ?_
      -- region 5 poly.go:22
      refine sw_region [(0, 0), (1, 0), (2, 0), (3, 0), (4, 0), (5, 0)] rfl rfl rfl ?_
      refine sd_vv rfl rfl rfl (vv_move rfl) ?_
      refine sd_vv rfl rfl rfl (vv_move rfl) ?_
      refine sd_vv rfl rfl rfl (vv_umul (a := a3) (b := y5) rfl rfl) ?_
      refine sd_vv rfl rfl rfl (vv_move rfl) ?_
      have hb := bnd hm; clear hm; obtain ⟨x6, hx6, hm⟩ := hb
      refine sd_vv rfl rfl rfl (vv_remU (c := a3 * y5) (d := p0) rfl rfl hx6) ?_
      refine sd_vv rfl rfl rfl (vv_assign rfl) ?_
      refine sd_nil ?_
      refine block_n ?_
      refine then_n ?_
      -- region 6 poly.go:21
      refine sw_region [(0, 0), (1, 0)] rfl rfl rfl ?_
      refine sd_vv rfl rfl rfl (vv_add (k := .i64) (a := a4) (b := 1) rfl rfl) ?_
      refine sd_vv rfl rfl rfl (vv_move rfl) ?_
      refine sd_nil ?_
      have K_4 : Kz [] w w1 := Kw1
      subst hrec1
      refine ⟨rfl, ⟨n1, x6, w64 (a4 + 1)⟩, ?_, ⟨hm, K_4⟩, Nat.lt_succ_self _⟩
      repeat' first | exact trivial | refine ⟨rfl, ?_⟩
    ·
      replace hm := ite_f (of_decide_eq_false c1) hm
      refine sw_exit ?_
      refine then_x ?_
      refine then_x ?_
      refine block_x ?_
      refine then_n ?_
      refine sw_seq ?_
      -- region 7 poly.go:24
      refine sw_region [(0, 0), (1, 0)] rfl rfl rfl ?_
      refine sd_vv rfl rfl rfl (vv_move rfl) ?_
      refine sd_vv rfl rfl rfl (vv_assign rfl) ?_
      refine sd_done ?_
      refine sw_ret ?_
      have X5 : Gr w w1 := (Gr.kz (Gr.refl w) Kw1)
      have hr := Option.some.inj hm
      subst hr
      refine ⟨_, _, rfl, res_1 rfl (rv_tmp rfl), ?_⟩
      exact ⟨rfl, X5⟩

set_option maxHeartbeats 2000000 in
theorem poly_polynomial_at_w (p0 : List (BitVec 64)) (p1 : BitVec 64) (p2 : BitVec 64) (vp0 : Value) (zp0 gp0 op0 : Nat) (r : BitVec 64) (hm : poly_polynomial_at p0 p1 p2 = some r) (w : World) (hp0 : Rd w zp0 gp0 op0 1 vp0 (p0.map uwc))  :
    Calls Try.prog 65 [vp0, wv p1, wv p2].toArray w fun e w' => ∃ v, e = .returned v ∧ (v = wv r ∧ Gr w w') := by
  have lt1 := hp0.lth
  unfold poly_polynomial_at at hm
  refine calls_of_sw (R := fun v w' => v = wv r ∧ Gr w w') 24 Try.func65 rfl rfl rfl ?_
  refine sw_seq ?_
  -- region 0 poly.go:37
  refine sw_region [(0, 0), (1, 0), (2, 0)] rfl rfl rfl ?_
  refine sd_ev rfl rfl rfl (ev_box (cs := [wv p1]) rfl rfl) ?_
  rintro _ w1 ⟨b1, rfl, hbw1, Bw1, Gw1⟩
  have z2 := Gw1.size
  have lt3 := Bw1.lt
  refine sd_ev rfl rfl rfl (ev_box (cs := [wv p2]) rfl rfl) ?_
  rintro _ w2 ⟨b2, rfl, hbw2, Bw2, Gw2⟩
  have z4 := Gw2.size
  have lt5 := Bw2.lt
  refine sd_vv rfl rfl rfl (vv_assign rfl) ?_
  refine sd_done ?_
  refine sw_seq ?_
  -- region 1 poly.go:38
  refine sw_region [(0, 0), (1, 0)] rfl rfl rfl ?_
  refine sd_ev rfl rfl rfl (ev_alloc (cs := [wv 0#64]) zv_24 rfl) ?_
  rintro _ w3 ⟨b3, rfl, hbw3, Bw3, Gw3⟩
  have z6 := Gw3.size
  have lt7 := Bw3.lt
  refine sd_ev rfl rfl rfl (ev_st1 (cs' := [wv 0#64]) (one_24).siz rfl rfl rfl Bw3 rfl rfl) ?_
  rintro _ w4 ⟨Bw4, Mw4⟩
  have z8 := Mw4.size
  refine sd_done ?_
  refine sw_seq ?_
  refine sw_seq ?_
  -- region 2 poly.go:39
  refine sw_region [(0, 0), (1, 0)] rfl rfl rfl ?_
  refine sd_vv rfl rfl rfl (vv_move rfl) ?_
  have B9 := (Rd.md (Rd.gr (Rd.gr (Rd.gr hp0 Gw1) Gw2) Gw3) Mw4 (tk1 ((pv_lt (A := (fun x => x ≠ b3)) lt1) : zp0 = 0 ∨ gp0 ≠ b3)))
  have hb := bnd hm; clear hm; obtain ⟨x1, hx1, hm⟩ := hb
  refine sd_ev rfl rfl rfl (ev_call en_118 rfl (slices_Backward_dc0b_w p0 _ _ _ _ _ hx1 _ B9)) ?_
  rintro _ w5 ⟨k5_c0_0, u5_c00_s, z5_c00_s, g5_c00_s, o5_c00_s, rfl, O5_c0_0, f5_c0_0, O5_c00_s, f5_c00_s, Gw5⟩
  have z10 := Gw5.size
  have lt11 := O5_c00_s.lth
  have lt12 := O5_c0_0.lt
  refine sd_done ?_
  refine sw_block ?_
  have hb := bnd hm; clear hm; obtain ⟨l2, hl2, hm⟩ := hb
  have X13 : Gr w w5 := (Gr.trans (Gr.md (Gr.trans (Gr.trans (Gr.trans (Gr.refl w) Gw1) Gw2) Gw3) Mw4) Gw5)
  have B14 := (Rd.gr B9 Gw5)
  have B15 := (Bx.gr (Bx.md (Bx.gr (Bx.gr Bw1 Gw2) Gw3) Mw4) Gw5)
  have B16 := (Bx.gr (Bx.md (Bx.gr Bw2 Gw3) Mw4) Gw5)
  have B17 := (Bx.gr Bw4 Gw5)
  refine sw_rangeFunc (gf := 146) rfl en_146 (slices_Backward_1_20b1_it x1 _ _ _ _ _ _ hl2 _ O5_c0_0 O5_c00_s) (by intro x hx; obtain ⟨a, _, rfl⟩ := List.mem_map.1 hx; rfl) rfl _ (fun _ _ _ _ => False) ([b3]) (stb_mk (α := BitVec 64) (fun a4 rk => itL (poly_polynomial_at_R1 p1 p2) poly_polynomial_at_D1 (List.drop rk l2) a4 = some r) (fun a4 => ([b3])) (fun a4 W => Bx W b3 24 ([wv a4]) ∧ True) (by rintro a4 W ⟨F0, _⟩ b hb; have q0 := F0.lt; replace hb : b ∈ ([b3]) := hb; simp only [List.mem_cons, List.mem_append, mem_zf, List.not_mem_nil, or_false, false_or, not_or, ne_eq, List.nil_append, List.cons_append, true_and, and_true, false_and, and_false, not_true_eq_false, not_false_eq_true, or_true, true_or] at hb; omega) (by rintro a4 W W' ⟨F0, _⟩ E hs; replace hs : ∀ b ∈ ([b3]), W'.heap[b]? = W.heap[b]? := hs; exact ⟨(hs _ (by simp)).trans F0, trivial⟩)) (fun _ => stb_false) (by intro b hb; have := ((pv_1 (A := (fun x => x ≠ b3)) f5_c00_s (pv_lt (A := (fun x => x ≠ b3)) lt1)) : z5_c00_s = 0 ∨ g5_c00_s ≠ b3); have := lt11.o; simp only [List.mem_cons, List.mem_append, mem_zf, List.not_mem_nil, or_false, false_or, not_or, ne_eq, List.nil_append, List.cons_append, true_and, and_true, false_and, and_false, not_true_eq_false, not_false_eq_true, or_true, true_or] at hb ⊢; omega) ⟨0#64, hm, rfl, B17, trivial⟩ ?_ ?_ ?_
  · rintro l rk x fp w6 hl hx _ Kw6 hF hln hlt
    clear hm
    obtain ⟨⟨e5, e6⟩, hxe, rfl⟩ := map_some hx
    have Zw6 : Kz [(1, b3)] w5 w6 := kz_of_kp Kw6 (by intro k hk; simp only [Nin, and_true, List.mem_cons, List.mem_append, mem_zf, List.not_mem_nil, or_false, false_or, not_or, ne_eq, List.nil_append, List.cons_append, true_and, and_true, false_and, and_false, not_true_eq_false, not_false_eq_true, or_true, true_or] at hk ⊢; omega)
    have z18 := Kw6.size
    -- region 3 poly.go:39
    refine sw_region [(0, 0)] rfl rfl rfl ?_
    refine sd_vv rfl rfl rfl (vv_assign rfl) ?_
    refine sd_nil ?_
    refine ⟨rfl, (Gr.refl _), ?_⟩
    rintro w7 Mw7 ⟨a4, hm, rfl, Fw7_0, -⟩
    have z19 := Mw7.size
    have lt20 := Fw7_0.lt
    replace hm := itL_at hm hxe
    generalize hnx1 : itL (poly_polynomial_at_R1 p1 p2) poly_polynomial_at_D1 (List.drop (rk + 1) l2) = nx1 at hm
    unfold poly_polynomial_at_R1 at hm
    try dsimp only at hm
    refine sw_block ?_
    -- region 4 poly.go:40 DRAWS
    refine sw_drawN [([b3]), ([])] [(9, [1])] (.leaf [(0, 10), (1, 11), (2, 10), (5, 10), (7, 10), (3, 0), (4, 0), (6, 10), (8, 10), (9, 0)]) (by kernel_rfl) (by kernel_rfl) rfl (by kernel_rfl) ?_
    intro w8 Gw8 zw8
    refine sdz_leaf ?_
    have B21 := (Bx.gr (Bx.md (Bx.kz B15 Zw6) Mw7) Gw8)
    refine dd_hn 0 rfl rfl rfl rfl (Kp.refl ([b3]) w8) (fun w hS => vv_load1 (v := wv p1) one_119 rfl (Bx.kp B21 hS) rfl) ?_
    have B22 := (Bx.gr Fw7_0 Gw8)
    refine dd_hn 1 rfl rfl rfl rfl (Kp.refl ([]) w8) (fun w hS => vv_load1 (v := wv a4) one_24 rfl (Bx.kp B22 hS) rfl) ?_
    have B23 := (Bx.gr (Bx.md (Bx.kz B16 Zw6) Mw7) Gw8)
    refine dd_hn 0 rfl rfl rfl rfl (Kp.refl ([b3]) w8) (fun w hS => vv_load1 (v := wv p2) one_24 rfl (Bx.kp B23 hS) rfl) ?_
    refine dd_hn 0 rfl rfl rfl rfl (Kp.refl ([b3]) w8) (fun w hS => vv_move rfl) ?_
    refine dd_hn 0 rfl rfl rfl rfl (Kp.refl ([b3]) w8) (fun w hS => vv_load1 (v := wv p1) one_119 rfl (Bx.kp B21 hS) rfl) ?_
    refine dd_z [] rfl rfl rfl (ev_litT [a4, p2] uwc bsl_60_2 rfl rfl (ws_of rfl) rfl rfl rfl) ⟨fun _ => tk0, fun _ => tk0, trivial⟩ ?_
    rintro vw9 w9 ⟨gw9, hbw9, Ow9, Gw9⟩
    have z24 := Gw9.size
    have lt25 := Ow9.lth
    refine ⟨Kz.ofGr Gw9, ?_⟩
    have hb := bnd hm; clear hm; obtain ⟨x7, hx7, hm⟩ := hb
    refine dd_z [] rfl rfl rfl (ev_call en_76 rfl (poly_field_mul_w p1 [a4, p2] _ _ _ _ _ hx7 _ (Own.rd Ow9))) ⟨fun _ => tk0, fun _ => tk0, trivial⟩ ?_
    rintro _ w10 ⟨rfl, Gw10⟩
    have z26 := Gw10.size
    refine ⟨Kz.ofGr Gw10, ?_⟩
    have S27 := (Kp.gr (Kp.gr (Kp.refl ([b3]) w8) Gw9) Gw10)
    refine dd_hn 0 rfl rfl rfl rfl S27 (fun w hS => vv_uadd (a := x7) (b := e6) rfl rfl) ?_
    have hb := bnd hm; clear hm; obtain ⟨x8, hx8, hm⟩ := hb
    refine dd_hn 0 rfl rfl rfl rfl S27 (fun w hS => vv_remU (c := x7 + e6) (d := p1) rfl rfl hx8) ?_
    have B28 := (Bx.gr (Bx.gr B22 Gw9) Gw10)
    refine dd_z [(1, b3)] rfl rfl rfl (ev_st1 (cs' := [wv x8]) (one_24).siz rfl rfl rfl B28 rfl rfl) ⟨fun _ => tk0, nofun, trivial⟩ ?_
    rintro _ w11 ⟨Bw11, Mw11⟩
    have z29 := Mw11.size
    refine ⟨Kz.ofMd Mw11, ?_⟩
    refine sd_nil ?_
    refine block_n ?_
    have K_30 : Kz [(1, b3)] w7 w11 := (Kz.md (Kz.gr (Kz.gr (Kz.gr (Kz.refl _ _) Gw8) Gw9) Gw10) Mw11)
    have Kq30 : Kp ([b3]) w7 w11 := kp_of_kz K_30 (by intro k hk; simp only [Nin, and_true, List.mem_cons, List.mem_append, mem_zf, List.not_mem_nil, or_false, false_or, not_or, ne_eq, List.nil_append, List.cons_append, true_and, and_true, false_and, and_false, not_true_eq_false, not_false_eq_true, or_true, true_or] at hk ⊢; omega)
    subst hnx1
    exact ⟨Kq30, ([b3]), (by intro c hc; simp only [List.mem_cons, List.mem_append, mem_zf, List.not_mem_nil, or_false, false_or, not_or, ne_eq, List.nil_append, List.cons_append, true_and, and_true, false_and, and_false, not_true_eq_false, not_false_eq_true, or_true, true_or] at hc ⊢; omega), ⟨x8, hm, rfl, Bw11, trivial⟩⟩
  · clear hm; rintro Dw12 fp w12 hDw12 Dfw12 nw12 ⟨a4, hm, rfl, Fw12_0, -⟩ Kw12
    replace hm := itL_end hm
    have Zw12 : Kz [(1, b3)] w5 w12 := kz_of_kp Kw12 (by intro k hk; simp only [Nin, and_true, List.mem_cons, List.mem_append, mem_zf, List.not_mem_nil, or_false, false_or, not_or, ne_eq, List.nil_append, List.cons_append, true_and, and_true, false_and, and_false, not_true_eq_false, not_false_eq_true, or_true, true_or] at hk ⊢; omega)
    have z31 := Kw12.size
    have lt32 := Df.lt (w := w12) Dfw12
    simp only [List.mem_cons, List.mem_append, mem_zf, List.not_mem_nil, or_false, false_or, not_or, ne_eq, List.nil_append, List.cons_append, true_and, and_true, false_and, and_false, not_true_eq_false, not_false_eq_true, or_true, true_or, not_and] at nw12
    have lt33 := Fw12_0.lt
    unfold poly_polynomial_at_D1 at hm
    try dsimp only at hm
    refine block_n ?_
    refine then_n ?_
    refine sw_seq ?_
    -- region 5 poly.go:42
    refine sw_region [(0, 0), (1, 0)] rfl rfl rfl ?_
    refine sd_vv rfl rfl rfl (vv_load1 (v := wv a4) one_24 rfl Fw12_0 rfl) ?_
    refine sd_vv rfl rfl rfl (vv_assign rfl) ?_
    refine sd_done ?_
    refine sw_ret ?_
    have DL34 := Dfw12
    have L34 := Md.put (w := w12) Dw12 (.deferred none)
    have zL34 := L34.size
    have X35 : Gr w (w12.putObj Dw12 (.deferred none)) := (Gr.md (Gr.kz X13 Zw12) L34)
    have hr := Option.some.inj hm
    subst hr
    refine ⟨_, _, ⟨Dw12, rfl, DL34, rfl⟩, res_1 rfl (rv_tmp rfl), ?_⟩
    exact ⟨rfl, X35⟩
  · rintro _ _ _ _ _ _ _ _ _ h _
    exact h.elim

set_option maxHeartbeats 2000000 in
theorem poly_Secret_w (p0 : W2) (p1 : TScheme) (p2 : Int)  (r : TSecret × Int) (hm : poly_Secret p0 p1 p2 = some r) (w : World)   :
    Calls Try.prog 18 [kv p0, .agg (TScheme.cs p1).toArray, .int .i64 p2].toArray w fun e w' => ∃ v, e = .returned v ∧ (∃ (ur0_1 : Value) (zr0_1 : Nat) (gr0_1 : Nat), v = .tuple [.agg (TSecret.cs r.1 ur0_1).toArray, .int .i64 r.2].toArray ∧ Own w' zr0_1 gr0_1 88 18 ur0_1 (r.1.Labels.map TLabel.cs) ∧ Hdn (zr0_1 = 0 ∨ w.heap.size ≤ gr0_1) ∧ Gr w w') := by
  unfold poly_Secret at hm
  refine calls_of_sw (R := fun v w' => ∃ (ur0_1 : Value) (zr0_1 : Nat) (gr0_1 : Nat), v = .tuple [.agg (TSecret.cs r.1 ur0_1).toArray, .int .i64 r.2].toArray ∧ Own w' zr0_1 gr0_1 88 18 ur0_1 (r.1.Labels.map TLabel.cs) ∧ Hdn (zr0_1 = 0 ∨ w.heap.size ≤ gr0_1) ∧ Gr w w') 38 Try.func18 rfl rfl rfl ?_
  refine sw_seq ?_
  -- region 0 poly.go:127
  refine sw_region [(0, 0), (1, 0), (2, 0), (3, 0)] rfl rfl rfl ?_
  refine sd_ev rfl rfl rfl (ev_box (cs := kb p0) rfl rfl) ?_
  rintro _ w1 ⟨b1, rfl, hbw1, Bw1, Gw1⟩
  have z1 := Gw1.size
  have lt2 := Bw1.lt
  refine sd_ev rfl rfl rfl (ev_box (cs := TScheme.cs p1) rfl rfl) ?_
  rintro _ w2 ⟨b2, rfl, hbw2, Bw2, Gw2⟩
  have z3 := Gw2.size
  have lt4 := Bw2.lt
  refine sd_ev rfl rfl rfl (ev_alloc (cs := TSecret.cs (TSecret.mk 0 [] (TPoint.mk 0#64 0#64)) (.slice none 0 0)) zv_33 rfl) ?_
  rintro _ w3 ⟨b3, rfl, hbw3, Bw3, Gw3⟩
  have z5 := Gw3.size
  have lt6 := Bw3.lt
  refine sd_vv rfl rfl rfl (vv_assign rfl) ?_
  refine sd_done ?_
  refine sw_seq ?_
  refine sw_seq ?_
  -- region 1 poly.go:128
  refine sw_region [(0, 0), (1, 0), (2, 0)] rfl rfl rfl ?_
  have B7 := (Bx.gr Bw2 Gw3)
  refine sd_vv rfl rfl rfl (vv_loadW agg_28 rfl B7 rfl) ?_
  have hb := bnd hm; clear hm; obtain ⟨x1, hx1, hm⟩ := hb
  refine sd_ev rfl rfl rfl (ev_call en_63 rfl (poly_valid_w p1 _ hx1 _)) ?_
  rintro _ w4 ⟨rfl, Gw4⟩
  have z8 := Gw4.size
  refine sd_vv rfl rfl rfl (vv_not rfl) ?_
  refine sd_done ?_
  refine sw_cond rfl (fun c1 => ?_) (fun c1 => ?_)
  ·
    replace hm := cnd_t c1 hm
    refine sw_seq ?_
    -- region 2 poly.go:129
    refine sw_region [(0, 0), (1, 0), (2, 0)] rfl rfl rfl ?_
    refine sd_vv rfl rfl rfl (vv_build (cs := TSecret.cs (TSecret.mk 0 [] (TPoint.mk 0#64 0#64)) (.slice none 0 0)) bs_33 rfl rfl) ?_
    have B9 := (Bx.gr Bw3 Gw4)
    refine sd_ev rfl rfl rfl (ev_stM (cs' := TSecret.cs (TSecret.mk 0 [] (TPoint.mk 0#64 0#64)) (.slice none 0 0)) (vs := TSecret.cs (TSecret.mk 0 [] (TPoint.mk 0#64 0#64)) (.slice none 0 0)) (agg_33).siz rfl rfl rfl rfl (TSecret.cs_ones _ _ rfl) B9 rfl rfl) ?_
    rintro _ w5 ⟨Bw5, Mw5⟩
    have z10 := Mw5.size
    refine sd_vv rfl rfl rfl (vv_assign rfl) ?_
    refine sd_done ?_
    refine sw_ret ?_
    refine then_r ?_
    have X11 : Gr w w5 := (Gr.md (Gr.trans (Gr.trans (Gr.trans (Gr.trans (Gr.refl w) Gw1) Gw2) Gw3) Gw4) Mw5)
    have hr := Option.some.inj hm
    subst hr
    refine ⟨_, _, rfl, res_2 rfl (rv_cellW agg_33 rfl Bw5 rfl) (rv_tmp rfl), ?_⟩
    exact ⟨(.slice none 0 0), 0, 0, rfl, (own_nil _ 0 88 18), ⟨.inl rfl⟩, X11⟩
  ·
    replace hm := cnd_f c1 hm
    refine sw_skip ?_
    refine then_n ?_
    refine sw_seq ?_
    have X12 : Gr w w4 := (Gr.trans (Gr.trans (Gr.trans (Gr.trans (Gr.refl w) Gw1) Gw2) Gw3) Gw4)
    refine sw_joinD (β := Bool) [13, 14, 15, 16, 17, 18, 19, 20, 21] (fun a2 => [(21, .bool a2)]) (fun a2 wr => (poly_Secret_J1 p0 p1 p2 a2 = some r) ∧ Kz [] w4 wr) ?_ ?_
    · clear hm; rintro a2 w6 ⟨hm, Kw6⟩
      have z13 := Kw6.size
      unfold poly_Secret_J1 at hm
      refine sw_cond rfl (fun c2 => ?_) (fun c2 => ?_)
      ·
        replace hm := cnd_t c2 hm
        refine sw_seq ?_
        -- region 4 poly.go:132
        refine sw_region [(0, 0), (1, 0), (2, 0)] rfl rfl rfl ?_
        refine sd_vv rfl rfl rfl (vv_build (cs := TSecret.cs (TSecret.mk 0 [] (TPoint.mk 0#64 0#64)) (.slice none 0 0)) bs_33 rfl rfl) ?_
        have B14 := (Bx.kz (Bx.gr Bw3 Gw4) Kw6)
        refine sd_ev rfl rfl rfl (ev_stM (cs' := TSecret.cs (TSecret.mk 0 [] (TPoint.mk 0#64 0#64)) (.slice none 0 0)) (vs := TSecret.cs (TSecret.mk 0 [] (TPoint.mk 0#64 0#64)) (.slice none 0 0)) (agg_33).siz rfl rfl rfl rfl (TSecret.cs_ones _ _ rfl) B14 rfl rfl) ?_
        rintro _ w7 ⟨Bw7, Mw7⟩
        have z15 := Mw7.size
        refine sd_vv rfl rfl rfl (vv_assign rfl) ?_
        refine sd_done ?_
        refine sw_ret ?_
        refine then_r ?_
        have X16 : Gr w w7 := (Gr.md (Gr.kz X12 Kw6) Mw7)
        have hr := Option.some.inj hm
        subst hr
        refine ⟨_, _, rfl, res_2 rfl (rv_cellW agg_33 rfl Bw7 rfl) (rv_tmp rfl), ?_⟩
        exact ⟨(.slice none 0 0), 0, 0, rfl, (own_nil _ 0 88 18), ⟨.inl rfl⟩, X16⟩
      ·
        replace hm := cnd_f c2 hm
        refine sw_skip ?_
        refine then_n ?_
        refine sw_seq ?_
        -- region 5 poly.go:134
        refine sw_region [(0, 0), (1, 0), (2, 0), (3, 0)] rfl rfl rfl ?_
        refine sd_vv rfl rfl rfl (vv_move rfl) ?_
        refine sd_vv rfl rfl rfl (vv_cvIU cv_3_24 rfl) ?_
        refine sd_vv rfl rfl rfl (vv_uadd (a := wd p2) (b := 1#64) rfl rfl) ?_
        refine sd_vv rfl rfl rfl (vv_assign rfl) ?_
        refine sd_done ?_
        refine sw_seq ?_
        -- region 6 poly.go:135 DRAWS
        refine sw_drawN [([b3])] [] (.leaf [(0, 10), (1, 10), (2, 10), (3, 10), (5, 10), (6, 10), (7, 10), (8, 10), (4, 0), (9, 0), (10, 10), (11, 10), (12, 0), (13, 10)]) (by kernel_rfl) (by kernel_rfl) rfl (by kernel_rfl) ?_
        intro w8 Gw8 zw8
        refine sdz_leaf ?_
        refine dd_hn 0 rfl rfl rfl rfl (Kp.refl ([b3]) w8) (fun w hS => vv_move rfl) ?_
        refine dd_hn 0 rfl rfl rfl rfl (Kp.refl ([b3]) w8) (fun w hS => vv_move rfl) ?_
        have B17 := (Bx.gr (Bx.kz (Bx.gr (Bx.gr (Bx.gr Bw1 Gw2) Gw3) Gw4) Kw6) Gw8)
        refine dd_hn 0 rfl rfl rfl rfl (Kp.refl ([b3]) w8) (fun w hS => vv_loadW agg_23 rfl (Bx.kp B17 hS) rfl) ?_
        have B18 := (Bx.gr (Bx.kz (Bx.gr B7 Gw4) Kw6) Gw8)
        refine dd_hn 0 rfl rfl rfl rfl (Kp.refl ([b3]) w8) (fun w hS => vv_loadW agg_28 rfl (Bx.kp B18 hS) rfl) ?_
        refine dd_hn 0 rfl rfl rfl rfl (Kp.refl ([b3]) w8) (fun w hS => vv_fieldAddr fa_28_3 rfl) ?_
        refine dd_hn 0 rfl rfl rfl rfl (Kp.refl ([b3]) w8) (fun w hS => vv_fieldAddr fa_26_1 rfl) ?_
        refine dd_hn 0 rfl rfl rfl rfl (Kp.refl ([b3]) w8) (fun w hS => vv_load1 (v := wv p1.Group.Q) one_24 rfl (Bx.kp B18 hS) rfl) ?_
        refine dd_hn 0 rfl rfl rfl rfl (Kp.refl ([b3]) w8) (fun w hS => vv_move rfl) ?_
        have hb := bnd hm; clear hm; obtain ⟨x3, hx3, hm⟩ := hb
        refine dd_z [] rfl rfl rfl (ev_call en_64 rfl (poly_secret_w p0 p1 _ hx3 _)) ⟨fun _ => tk0, trivial⟩ ?_
        rintro u9_r0_s w9 ⟨_, z9_r0_s, g9_r0_s, rfl, O9_r0_s, f9_r0_s, Gw9⟩
        have z19 := Gw9.size
        have lt20 := O9_r0_s.lth
        refine ⟨Kz.ofGr Gw9, ?_⟩
        have hb := bnd hm; clear hm; obtain ⟨x4, hx4, hm⟩ := hb
        refine dd_z [] rfl rfl rfl (ev_call en_65 rfl (poly_polynomial_at_w x3 p1.Group.Q ((wd p2) + 1#64) _ _ _ _ _ hx4 _ (Own.rd O9_r0_s))) ⟨fun _ => tk0, trivial⟩ ?_
        rintro _ w10 ⟨rfl, Gw10⟩
        have z21 := Gw10.size
        refine ⟨Kz.ofGr Gw10, ?_⟩
        have S22 := (Kp.gr (Kp.gr (Kp.refl ([b3]) w8) Gw9) Gw10)
        refine dd_hn 0 rfl rfl rfl rfl S22 (fun w hS => vv_build (cs := TPoint.cs (TPoint.mk ((wd p2) + 1#64) x4)) bs_31 rfl rfl) ?_
        refine dd_hn 0 rfl rfl rfl rfl S22 (fun w hS => vv_build (cs := TSecret.cs (TSecret.mk p2 [] (TPoint.mk ((wd p2) + 1#64) x4)) (.slice none 0 0)) bs_33 rfl (fill_M rfl rfl rfl (fill_M rfl rfl rfl rfl))) ?_
        have B23 := (Bx.gr (Bx.gr (Bx.gr (Bx.kz (Bx.gr Bw3 Gw4) Kw6) Gw8) Gw9) Gw10)
        refine dd_z [(1, b3)] rfl rfl rfl (ev_stM (cs' := TSecret.cs (TSecret.mk p2 [] (TPoint.mk ((wd p2) + 1#64) x4)) (.slice none 0 0)) (vs := TSecret.cs (TSecret.mk p2 [] (TPoint.mk ((wd p2) + 1#64) x4)) (.slice none 0 0)) (agg_33).siz rfl rfl rfl rfl (TSecret.cs_ones _ _ rfl) B23 rfl rfl) ⟨fun _ => tk0, trivial⟩ ?_
        rintro _ w11 ⟨Bw11, Mw11⟩
        have z24 := Mw11.size
        refine ⟨Kz.ofMd Mw11, ?_⟩
        have S25 := (Kp.md S22 Mw11)
        refine dd_hn 0 rfl rfl rfl rfl S25 (fun w hS => vv_assign rfl) ?_
        refine sd_done ?_
        refine sw_ret ?_
        have X26 : Gr w w11 := (Gr.md (Gr.trans (Gr.trans (Gr.trans (Gr.kz X12 Kw6) Gw8) Gw9) Gw10) Mw11)
        have hr := Option.some.inj hm
        subst hr
        refine ⟨_, _, rfl, res_2 rfl (rv_cellW agg_33 rfl Bw11 rfl) (rv_tmp rfl), ?_⟩
        exact ⟨(.slice none 0 0), 0, 0, rfl, (own_nil _ 0 88 18), ⟨.inl rfl⟩, X26⟩
    ·
      -- region 3 poly.go:131
      refine sw_region [(0, 0), (1, 0), (2, 0), (3, 0), (4, 0), (5, 0), (6, 0), (7, 0), (8, 0)] rfl rfl rfl ?_
      refine sd_vv rfl rfl rfl (vv_move rfl) ?_
      refine sd_vv rfl rfl rfl (vv_lss (a := p2) (b := 0) rfl rfl) ?_
      refine sd_split rfl rfl rfl (vv_move rfl) (fun c3 => ?_) (fun c3 => ?_)
      ·
        replace hm := ite_t (of_decide_eq_true c3) hm
        refine sd_skip rfl rfl rfl ?_
        refine sd_skip rfl rfl rfl ?_
        refine sd_skip rfl rfl rfl ?_
        refine sd_skip rfl rfl rfl ?_
        refine sd_skip rfl rfl rfl ?_
        refine sd_vv rfl rfl rfl (vv_pickT rfl rfl) ?_
        refine sd_nil ?_
        have K_27 : Kz [] w4 w4 := (Kz.refl _ _)
        refine ⟨rfl, true, ?_, hm, K_27⟩
        repeat' first | exact trivial | refine ⟨rfl, ?_⟩
      ·
        replace hm := ite_f (of_decide_eq_false c3) hm
        refine sd_vv rfl rfl rfl (vv_move rfl) ?_
        refine sd_vv rfl rfl rfl (vv_fieldAddr fa_28_1 rfl) ?_
        have B28 := (Bx.gr B7 Gw4)
        refine sd_vv rfl rfl rfl (vv_load1 (v := .int .i64 p1.Depth) one_3 rfl B28 rfl) ?_
        have hb := bnd hm; clear hm; obtain ⟨n5, hn5, hm⟩ := hb
        refine sd_vv rfl rfl rfl (vv_shlI (a := 1) (b := p1.Depth) rfl rfl hn5) ?_
        refine sd_vv rfl rfl rfl (vv_geq (a := p2) (b := shlI 1 n5) rfl rfl) ?_
        refine sd_vv rfl rfl rfl (vv_pickF rfl rfl) ?_
        refine sd_nil ?_
        have K_29 : Kz [] w4 w4 := (Kz.refl _ _)
        refine ⟨rfl, (decide (shlI 1 n5 ≤ p2)), ?_, hm, K_29⟩
        repeat' first | exact trivial | refine ⟨rfl, ?_⟩

set_option maxHeartbeats 2000000 in
theorem poly_Coefficients_w (p0 : W2) (p1 : TScheme)  (r : List (BitVec 64) × Int) (hm : poly_Coefficients p0 p1 = some r) (w : World)   :
    Calls Try.prog 29 [kv p0, .agg (TScheme.cs p1).toArray].toArray w fun e w' => ∃ v, e = .returned v ∧ (∃ (ur0_s : Value) (zr0_s : Nat) (gr0_s : Nat), v = .tuple [ur0_s, .int .i64 r.2].toArray ∧ Own w' zr0_s gr0_s 24 1 ur0_s (r.1.map uwc) ∧ Hdn (zr0_s = 0 ∨ w.heap.size ≤ gr0_s) ∧ Gr w w') := by
  unfold poly_Coefficients at hm
  refine calls_of_sw (R := fun v w' => ∃ (ur0_s : Value) (zr0_s : Nat) (gr0_s : Nat), v = .tuple [ur0_s, .int .i64 r.2].toArray ∧ Own w' zr0_s gr0_s 24 1 ur0_s (r.1.map uwc) ∧ Hdn (zr0_s = 0 ∨ w.heap.size ≤ gr0_s) ∧ Gr w w') 12 Try.func29 rfl rfl rfl ?_
  refine sw_seq ?_
  -- region 0 poly.go:69
  refine sw_region [(0, 0), (1, 0), (2, 0), (3, 0)] rfl rfl rfl ?_
  refine sd_ev rfl rfl rfl (ev_box (cs := kb p0) rfl rfl) ?_
  rintro _ w1 ⟨b1, rfl, hbw1, Bw1, Gw1⟩
  have z1 := Gw1.size
  have lt2 := Bw1.lt
  refine sd_ev rfl rfl rfl (ev_box (cs := TScheme.cs p1) rfl rfl) ?_
  rintro _ w2 ⟨b2, rfl, hbw2, Bw2, Gw2⟩
  have z3 := Gw2.size
  have lt4 := Bw2.lt
  refine sd_vv rfl rfl rfl (vv_assign rfl) ?_
  refine sd_vv rfl rfl rfl (vv_assign rfl) ?_
  refine sd_done ?_
  refine sw_seq ?_
  refine sw_seq ?_
  -- region 1 poly.go:70
  refine sw_region [(0, 0), (1, 0), (2, 0)] rfl rfl rfl ?_
  refine sd_vv rfl rfl rfl (vv_loadW agg_28 rfl Bw2 rfl) ?_
  have hb := bnd hm; clear hm; obtain ⟨x1, hx1, hm⟩ := hb
  refine sd_ev rfl rfl rfl (ev_call en_63 rfl (poly_valid_w p1 _ hx1 _)) ?_
  rintro _ w3 ⟨rfl, Gw3⟩
  have z5 := Gw3.size
  refine sd_vv rfl rfl rfl (vv_not rfl) ?_
  refine sd_done ?_
  refine sw_cond rfl (fun c1 => ?_) (fun c1 => ?_)
  ·
    replace hm := cnd_t c1 hm
    refine sw_seq ?_
    -- region 2 poly.go:71
    refine sw_region [(0, 0), (1, 0)] rfl rfl rfl ?_
    refine sd_vv rfl rfl rfl (vv_assign rfl) ?_
    refine sd_vv rfl rfl rfl (vv_assign rfl) ?_
    refine sd_done ?_
    refine sw_ret ?_
    refine then_r ?_
    have X6 : Gr w w3 := (Gr.trans (Gr.trans (Gr.trans (Gr.refl w) Gw1) Gw2) Gw3)
    have hr := Option.some.inj hm
    subst hr
    refine ⟨_, _, rfl, res_2 rfl (rv_tmp rfl) (rv_tmp rfl), ?_⟩
    exact ⟨(.slice none 0 0), 0, 0, rfl, (own_nil _ 0 24 1), ⟨.inl rfl⟩, X6⟩
  ·
    replace hm := cnd_f c1 hm
    refine sw_skip ?_
    refine then_n ?_
    refine sw_seq ?_
    -- region 3 poly.go:73
    refine sw_region [(0, 0), (1, 0), (2, 0), (3, 0), (4, 0)] rfl rfl rfl ?_
    have B7 := (Bx.gr (Bx.gr Bw1 Gw2) Gw3)
    refine sd_vv rfl rfl rfl (vv_loadW agg_23 rfl B7 rfl) ?_
    have B8 := (Bx.gr Bw2 Gw3)
    refine sd_vv rfl rfl rfl (vv_loadW agg_28 rfl B8 rfl) ?_
    have hb := bnd hm; clear hm; obtain ⟨x2, hx2, hm⟩ := hb
    refine sd_ev rfl rfl rfl (ev_call en_64 rfl (poly_secret_w p0 p1 _ hx2 _)) ?_
    rintro u4_r0_s w4 ⟨_, z4_r0_s, g4_r0_s, rfl, O4_r0_s, f4_r0_s, Gw4⟩
    have z9 := Gw4.size
    have lt10 := O4_r0_s.lth
    refine sd_vv rfl rfl rfl (vv_assign rfl) ?_
    refine sd_vv rfl rfl rfl (vv_assign rfl) ?_
    refine sd_done ?_
    refine sw_ret ?_
    have X11 : Gr w w4 := (Gr.trans (Gr.trans (Gr.trans (Gr.trans (Gr.refl w) Gw1) Gw2) Gw3) Gw4)
    have hr := Option.some.inj hm
    subst hr
    refine ⟨_, _, rfl, res_2 rfl (rv_tmp rfl) (rv_tmp rfl), ?_⟩
    exact ⟨u4_r0_s, z4_r0_s, g4_r0_s, rfl, O4_r0_s, ⟨(pv_0 (A := (fun x => w.heap.size ≤ x)) f4_r0_s)⟩, X11⟩

set_option maxHeartbeats 2000000 in
theorem poly_Check_w (p0 : TScheme)  (r : Int) (hm : poly_Check p0 = some r) (w : World)   :
    Calls Try.prog 32 [.agg (TScheme.cs p0).toArray].toArray w fun e w' => ∃ v, e = .returned v ∧ (v = .int .i64 r ∧ Gr w w') := by
  unfold poly_Check at hm
  refine calls_of_sw (R := fun v w' => v = .int .i64 r ∧ Gr w w') 6 Try.func32 rfl rfl rfl ?_
  refine sw_seq ?_
  -- region 0 poly.go:51
  refine sw_region [(0, 0), (1, 0)] rfl rfl rfl ?_
  refine sd_ev rfl rfl rfl (ev_box (cs := TScheme.cs p0) rfl rfl) ?_
  rintro _ w1 ⟨b1, rfl, hbw1, Bw1, Gw1⟩
  have z1 := Gw1.size
  have lt2 := Bw1.lt
  refine sd_vv rfl rfl rfl (vv_assign rfl) ?_
  refine sd_done ?_
  refine sw_seq ?_
  refine sw_seq ?_
  -- region 1 poly.go:52
  refine sw_region [(0, 0), (1, 0), (2, 0)] rfl rfl rfl ?_
  refine sd_vv rfl rfl rfl (vv_loadW agg_28 rfl Bw1 rfl) ?_
  have hb := bnd hm; clear hm; obtain ⟨x1, hx1, hm⟩ := hb
  refine sd_ev rfl rfl rfl (ev_call en_63 rfl (poly_valid_w p0 _ hx1 _)) ?_
  rintro _ w2 ⟨rfl, Gw2⟩
  have z3 := Gw2.size
  refine sd_vv rfl rfl rfl (vv_not rfl) ?_
  refine sd_done ?_
  refine sw_cond rfl (fun c1 => ?_) (fun c1 => ?_)
  ·
    replace hm := cnd_t c1 hm
    refine sw_seq ?_
    -- region 2 poly.go:53
    refine sw_region [(0, 0)] rfl rfl rfl ?_
    refine sd_vv rfl rfl rfl (vv_assign rfl) ?_
    refine sd_done ?_
    refine sw_ret ?_
    refine then_r ?_
    have X4 : Gr w w2 := (Gr.trans (Gr.trans (Gr.refl w) Gw1) Gw2)
    have hr := Option.some.inj hm
    subst hr
    refine ⟨_, _, rfl, res_1 rfl (rv_tmp rfl), ?_⟩
    exact ⟨rfl, X4⟩
  ·
    replace hm := cnd_f c1 hm
    refine sw_skip ?_
    refine then_n ?_
    refine sw_seq ?_
    -- region 3 poly.go:55
    refine sw_region [(0, 0)] rfl rfl rfl ?_
    refine sd_vv rfl rfl rfl (vv_assign rfl) ?_
    refine sd_done ?_
    refine sw_ret ?_
    have X5 : Gr w w2 := (Gr.trans (Gr.trans (Gr.refl w) Gw1) Gw2)
    have hr := Option.some.inj hm
    subst hr
    refine ⟨_, _, rfl, res_1 rfl (rv_tmp rfl), ?_⟩
    exact ⟨rfl, X5⟩

set_option maxHeartbeats 2000000 in
theorem slices_Max_6ac0_w (p0 : List (BitVec 64)) (vp0 : Value) (zp0 gp0 op0 : Nat) (r : BitVec 64) (hm : slices_Max_6ac0 p0 = some r) (w : World) (hp0 : Rd w zp0 gp0 op0 1 vp0 (p0.map uwc))  :
    Calls Try.prog 87 [vp0].toArray w fun e w' => ∃ v, e = .returned v ∧ (v = wv r ∧ Gr w w') := by
  have lt1 := hp0.lth
  unfold slices_Max_6ac0 at hm
  refine calls_of_sw (R := fun v w' => v = wv r ∧ Gr w w') 25 Try.func87 rfl rfl rfl ?_
  refine sw_seq ?_
  -- region 0 sort.go:95
  refine sw_region [(0, 0)] rfl rfl rfl ?_
  refine sd_vv rfl rfl rfl (vv_assign rfl) ?_
  refine sd_done ?_
  refine sw_seq ?_
  refine sw_seq ?_
  -- region 1 sort.go:96
  refine sw_region [(0, 0), (1, 0), (2, 0)] rfl rfl rfl ?_
  refine sd_vv rfl rfl rfl (vv_move rfl) ?_
  refine sd_vv rfl rfl rfl (vv_lenT (l := p0) (c := uwc) Try.underlying60 rfl hp0) ?_
  refine sd_vv rfl rfl rfl (vv_lss (a := (p0.length : Int)) (b := 1) rfl rfl) ?_
  refine sd_done ?_
  refine sw_cond rfl (fun c1 => ?_) (fun c1 => ?_)
  ·
    replace hm := ite_t (of_decide_eq_true c1) hm
    cases hm
  ·
    replace hm := ite_f (of_decide_eq_false c1) hm
    refine sw_skip ?_
    refine then_n ?_
    refine sw_seq ?_
    -- region 3 sort.go:99
    refine sw_region [(0, 0), (1, 0), (2, 0), (3, 0)] rfl rfl rfl ?_
    refine sd_vv rfl rfl rfl (vv_move rfl) ?_
    have hb := bnd hm; clear hm; obtain ⟨y1, hy1, hm⟩ := hb
    refine sd_vv rfl rfl rfl (vv_ixT (i := 0) Try.underlying60 (one_24).siz rfl hp0 rfl hy1) ?_
    refine sd_vv rfl rfl rfl (vv_el1T (q := 0) (u := wv y1) one_24 rfl hp0 hy1 (by first | rfl | omega) rfl) ?_
    refine sd_vv rfl rfl rfl (vv_assign rfl) ?_
    refine sd_done ?_
    refine sw_seq ?_
    refine sw_seq ?_
    -- region 4 sort.go:100
    refine sw_region [(0, 0)] rfl rfl rfl ?_
    refine sd_vv rfl rfl rfl (vv_assign rfl) ?_
    refine sd_done ?_
    refine sw_block ?_
    refine sw_loopD (α := Nat × BitVec 64 × Int) [3, 4, 12, 13, 14, 15, 16, 17, 18, 19, 20, 21, 22, 23] (fun ⟨n1, a4, a5⟩ => [(3, wv a4), (4, .int .i64 a5)]) (fun ⟨n1, a4, a5⟩ wr => (fixN (slices_Max_6ac0_L1 p0) n1 (a4, a5) = some r) ∧ Kz [] w wr) (fun ⟨n1, a4, a5⟩ => n1) ⟨FUEL, y1, 1⟩ ?_ ?_ ?_
    · repeat' first | exact trivial | refine ⟨rfl, ?_⟩
    · exact ⟨hm, Kz.refl _ _⟩
    · clear hm; rintro ⟨n1, a4, a5⟩ w1 ⟨hm, Kw1⟩
      have z2 := Kw1.size
      have hb := fix_succ hm; clear hm; obtain ⟨n1, rfl, hm⟩ := hb
      generalize hrec1 : fixN (slices_Max_6ac0_L1 p0) n1 = rec1 at hm
      unfold slices_Max_6ac0_L1 at hm
      try dsimp only at hm
      refine sw_seq ?_
      refine sw_seq ?_
      -- region 5 sort.go:100
      refine sw_region [(0, 0), (1, 0), (2, 0), (3, 0)] rfl rfl rfl ?_
      refine sd_vv rfl rfl rfl (vv_move rfl) ?_
      refine sd_vv rfl rfl rfl (vv_move rfl) ?_
      have B3 := (Rd.kz hp0 Kw1)
      refine sd_vv rfl rfl rfl (vv_lenT (l := p0) (c := uwc) Try.underlying60 rfl B3) ?_
      refine sd_vv rfl rfl rfl (vv_lss (a := a5) (b := (p0.length : Int)) rfl rfl) ?_
      refine sd_done ?_
      refine sw_cond rfl (fun c2 => ?_) (fun c2 => ?_)
      ·
        replace hm := ite_t (of_decide_eq_true c2) hm
        refine sw_skip ?_
        refine then_n ?_
        refine sw_seq ?_
        refine sw_block ?_
        -- region 7 sort.go:101
        refine sw_region [(0, 0), (1, 0), (2, 0), (3, 0), (4, 0), (5, 0), (6, 0)] rfl rfl rfl ?_
        refine sd_vv rfl rfl rfl (vv_move rfl) ?_
        refine sd_vv rfl rfl rfl (vv_move rfl) ?_
        refine sd_vv rfl rfl rfl (vv_move rfl) ?_
        have hb := bnd hm; clear hm; obtain ⟨y6, hy6, hm⟩ := hb
        refine sd_vv rfl rfl rfl (vv_ixT (i := a5) Try.underlying60 (one_24).siz rfl B3 rfl hy6) ?_
        refine sd_vv rfl rfl rfl (vv_el1T (q := 0) (u := wv y6) one_24 rfl B3 hy6 (by first | rfl | omega) rfl) ?_
        refine sd_vv rfl rfl rfl (vv_maxU (d := a4) (e := y6) rfl rfl) ?_
        refine sd_vv rfl rfl rfl (vv_assign rfl) ?_
        refine sd_nil ?_
        refine block_n ?_
        refine then_n ?_
        -- region 6 sort.go:100
        refine sw_region [(0, 0), (1, 0), (2, 0)] rfl rfl rfl ?_
        refine sd_vv rfl rfl rfl (vv_move rfl) ?_
        refine sd_vv rfl rfl rfl (vv_add (k := .i64) (a := a5) (b := 1) rfl rfl) ?_
        refine sd_vv rfl rfl rfl (vv_assign rfl) ?_
        refine sd_nil ?_
        have K_4 : Kz [] w w1 := Kw1
        subst hrec1
        refine ⟨rfl, ⟨n1, mxU a4 y6, w64 (a5 + 1)⟩, ?_, ⟨hm, K_4⟩, Nat.lt_succ_self _⟩
        repeat' first | exact trivial | refine ⟨rfl, ?_⟩
      ·
        replace hm := ite_f (of_decide_eq_false c2) hm
        refine sw_exit ?_
        refine then_x ?_
        refine then_x ?_
        refine block_x ?_
        refine then_n ?_
        refine sw_seq ?_
        -- region 8 sort.go:103
        refine sw_region [(0, 0), (1, 0)] rfl rfl rfl ?_
        refine sd_vv rfl rfl rfl (vv_move rfl) ?_
        refine sd_vv rfl rfl rfl (vv_assign rfl) ?_
        refine sd_done ?_
        refine sw_ret ?_
        have X5 : Gr w w1 := (Gr.kz (Gr.refl w) Kw1)
        have hr := Option.some.inj hm
        subst hr
        refine ⟨_, _, rfl, res_1 rfl (rv_tmp rfl), ?_⟩
        exact ⟨rfl, X5⟩

set_option maxHeartbeats 2000000 in
theorem poly_Value_w (p0 : TScheme) (p1 : List (BitVec 64)) (p2 : BitVec 64) (vp1 : Value) (zp1 gp1 op1 : Nat) (r : BitVec 64 × Int) (hm : poly_Value p0 p1 p2 = some r) (w : World) (hp1 : Rd w zp1 gp1 op1 1 vp1 (p1.map uwc))  :
    Calls Try.prog 34 [.agg (TScheme.cs p0).toArray, vp1, wv p2].toArray w fun e w' => ∃ v, e = .returned v ∧ (v = .tuple [wv r.1, .int .i64 r.2].toArray ∧ Gr w w') := by
  have lt1 := hp1.lth
  unfold poly_Value at hm
  refine calls_of_sw (R := fun v w' => v = .tuple [wv r.1, .int .i64 r.2].toArray ∧ Gr w w') 38 Try.func34 rfl rfl rfl ?_
  refine sw_seq ?_
  -- region 0 poly.go:77
  refine sw_region [(0, 0), (1, 0), (2, 0)] rfl rfl rfl ?_
  refine sd_ev rfl rfl rfl (ev_box (cs := TScheme.cs p0) rfl rfl) ?_
  rintro _ w1 ⟨b1, rfl, hbw1, Bw1, Gw1⟩
  have z2 := Gw1.size
  have lt3 := Bw1.lt
  refine sd_vv rfl rfl rfl (vv_assign rfl) ?_
  refine sd_vv rfl rfl rfl (vv_assign rfl) ?_
  refine sd_done ?_
  refine sw_seq ?_
  refine sw_seq ?_
  -- region 1 poly.go:78
  refine sw_region [(0, 0), (1, 0), (2, 0)] rfl rfl rfl ?_
  refine sd_vv rfl rfl rfl (vv_loadW agg_28 rfl Bw1 rfl) ?_
  have hb := bnd hm; clear hm; obtain ⟨x1, hx1, hm⟩ := hb
  refine sd_ev rfl rfl rfl (ev_call en_63 rfl (poly_valid_w p0 _ hx1 _)) ?_
  rintro _ w2 ⟨rfl, Gw2⟩
  have z4 := Gw2.size
  refine sd_vv rfl rfl rfl (vv_not rfl) ?_
  refine sd_done ?_
  refine sw_cond rfl (fun c1 => ?_) (fun c1 => ?_)
  ·
    replace hm := cnd_t c1 hm
    refine sw_seq ?_
    -- region 2 poly.go:79
    refine sw_region [(0, 0), (1, 0)] rfl rfl rfl ?_
    refine sd_vv rfl rfl rfl (vv_assign rfl) ?_
    refine sd_vv rfl rfl rfl (vv_assign rfl) ?_
    refine sd_done ?_
    refine sw_ret ?_
    refine then_r ?_
    have X5 : Gr w w2 := (Gr.trans (Gr.trans (Gr.refl w) Gw1) Gw2)
    have hr := Option.some.inj hm
    subst hr
    refine ⟨_, _, rfl, res_2 rfl (rv_tmp rfl) (rv_tmp rfl), ?_⟩
    exact ⟨rfl, X5⟩
  ·
    replace hm := cnd_f c1 hm
    refine sw_skip ?_
    refine then_n ?_
    refine sw_seq ?_
    have X6 : Gr w w2 := (Gr.trans (Gr.trans (Gr.refl w) Gw1) Gw2)
    refine sw_joinD (β := Bool) [11, 12, 13, 14, 15, 16, 17, 18, 19, 20, 21, 22, 23, 24, 25, 26, 27, 28, 29, 30, 31] (fun a2 => [(31, .bool a2)]) (fun a2 wr => (poly_Value_J1 p0 p1 p2 a2 = some r) ∧ Kz [] w2 wr) ?_ ?_
    · clear hm; rintro a2 w3 ⟨hm, Kw3⟩
      have z7 := Kw3.size
      unfold poly_Value_J1 at hm
      refine sw_cond rfl (fun c2 => ?_) (fun c2 => ?_)
      ·
        replace hm := cnd_t c2 hm
        refine sw_seq ?_
        -- region 4 poly.go:82
        refine sw_region [(0, 0), (1, 0)] rfl rfl rfl ?_
        refine sd_vv rfl rfl rfl (vv_assign rfl) ?_
        refine sd_vv rfl rfl rfl (vv_assign rfl) ?_
        refine sd_done ?_
        refine sw_ret ?_
        refine then_r ?_
        have X8 : Gr w w3 := (Gr.kz X6 Kw3)
        have hr := Option.some.inj hm
        subst hr
        refine ⟨_, _, rfl, res_2 rfl (rv_tmp rfl) (rv_tmp rfl), ?_⟩
        exact ⟨rfl, X8⟩
      ·
        replace hm := cnd_f c2 hm
        refine sw_skip ?_
        refine then_n ?_
        refine sw_seq ?_
        -- region 5 poly.go:84
        refine sw_region [(0, 0), (1, 0), (2, 0), (3, 0), (4, 0), (5, 0), (6, 0), (7, 0)] rfl rfl rfl ?_
        refine sd_vv rfl rfl rfl (vv_move rfl) ?_
        refine sd_vv rfl rfl rfl (vv_fieldAddr fa_28_3 rfl) ?_
        refine sd_vv rfl rfl rfl (vv_fieldAddr fa_26_1 rfl) ?_
        have B9 := (Bx.kz (Bx.gr Bw1 Gw2) Kw3)
        refine sd_vv rfl rfl rfl (vv_load1 (v := wv p0.Group.Q) one_24 rfl B9 rfl) ?_
        refine sd_vv rfl rfl rfl (vv_move rfl) ?_
        have B10 := (Rd.kz (Rd.gr (Rd.gr hp1 Gw1) Gw2) Kw3)
        have hb := bnd hm; clear hm; obtain ⟨x3, hx3, hm⟩ := hb
        refine sd_ev rfl rfl rfl (ev_call en_65 rfl (poly_polynomial_at_w p1 p0.Group.Q p2 _ _ _ _ _ hx3 _ B10)) ?_
        rintro _ w4 ⟨rfl, Gw4⟩
        have z11 := Gw4.size
        refine sd_vv rfl rfl rfl (vv_assign rfl) ?_
        refine sd_vv rfl rfl rfl (vv_assign rfl) ?_
        refine sd_done ?_
        refine sw_ret ?_
        have X12 : Gr w w4 := (Gr.trans (Gr.kz X6 Kw3) Gw4)
        have hr := Option.some.inj hm
        subst hr
        refine ⟨_, _, rfl, res_2 rfl (rv_tmp rfl) (rv_tmp rfl), ?_⟩
        exact ⟨rfl, X12⟩
    ·
      -- region 3 poly.go:81 DRAWS
      refine sw_drawN [([])] [] (.leaf [(0, 10), (1, 10), (2, 10), (3, 10), (4, 10), (5, 10), (6, 10), (7, 10), (9, 10), (10, 10), (11, 10), (8, 0), (12, 10), (13, 10), (14, 10), (15, 10), (16, 10), (17, 10), (18, 10), (19, 10), (20, 10)]) (by kernel_rfl) (by kernel_rfl) rfl (by kernel_rfl) ?_
      intro w5 Gw5 zw5
      refine sdz_leaf ?_
      refine dd_hn 0 rfl rfl rfl rfl (Kp.refl ([]) w5) (fun w hS => vv_move rfl) ?_
      have B13 := (Rd.gr (Rd.gr (Rd.gr hp1 Gw1) Gw2) Gw5)
      refine dd_hn 0 rfl rfl rfl rfl (Kp.refl ([]) w5) (fun w hS => vv_lenT (l := p1) (c := uwc) Try.underlying60 rfl (Rd.kp B13 hS)) ?_
      refine dd_hn 0 rfl rfl rfl rfl (Kp.refl ([]) w5) (fun w hS => vv_fieldAddr fa_28_2 rfl) ?_
      have B14 := (Bx.gr (Bx.gr Bw1 Gw2) Gw5)
      refine dd_hn 0 rfl rfl rfl rfl (Kp.refl ([]) w5) (fun w hS => vv_load1 (v := .int .i64 p0.Degree) one_3 rfl (Bx.kp B14 hS) rfl) ?_
      refine dd_hn 0 rfl rfl rfl rfl (Kp.refl ([]) w5) (fun w hS => vv_add (k := .i64) (a := p0.Degree) (b := 1) rfl rfl) ?_
      refine dd_hn 0 rfl rfl rfl rfl (Kp.refl ([]) w5) (fun w hS => vv_neq (a := (p1.length : Int)) (b := w64 (p0.Degree + 1)) rfl rfl) ?_
      refine dd_pn 0 rfl rfl rfl rfl (Kp.refl ([]) w5) (fun w hS => vv_move rfl) (fun c3 => ?_) (fun c3 => ?_)
      ·
        replace hm := ite_t (of_decide_eq_true c3) hm
        refine dd_sn 0 rfl rfl rfl rfl (Kp.refl ([]) w5) ?_
        refine dd_sn 0 rfl rfl rfl rfl (Kp.refl ([]) w5) ?_
        refine dd_sn 0 rfl rfl rfl rfl (Kp.refl ([]) w5) ?_
        refine dd_sn 0 rfl rfl rfl rfl (Kp.refl ([]) w5) ?_
        refine dd_sz rfl rfl rfl ?_
        refine dd_sn 0 rfl rfl rfl rfl (Kp.refl ([]) w5) ?_
        refine dd_hn 0 rfl rfl rfl rfl (Kp.refl ([]) w5) (fun w hS => vv_pickT rfl rfl) ?_
        refine dd_hn 0 rfl rfl rfl rfl (Kp.refl ([]) w5) (fun w hS => vv_move rfl) ?_
        refine dd_sn 0 rfl rfl rfl rfl (Kp.refl ([]) w5) ?_
        refine dd_sn 0 rfl rfl rfl rfl (Kp.refl ([]) w5) ?_
        refine dd_sn 0 rfl rfl rfl rfl (Kp.refl ([]) w5) ?_
        refine dd_sn 0 rfl rfl rfl rfl (Kp.refl ([]) w5) ?_
        refine dd_sn 0 rfl rfl rfl rfl (Kp.refl ([]) w5) ?_
        refine dd_hn 0 rfl rfl rfl rfl (Kp.refl ([]) w5) (fun w hS => vv_pickT rfl rfl) ?_
        refine sd_nil ?_
        have K_15 : Kz [] w2 w5 := (Kz.gr (Kz.refl _ _) Gw5)
        refine ⟨rfl, true, ?_, hm, K_15⟩
        repeat' first | exact trivial | refine ⟨rfl, ?_⟩
      ·
        replace hm := ite_f (of_decide_eq_false c3) hm
        refine dd_hn 0 rfl rfl rfl rfl (Kp.refl ([]) w5) (fun w hS => vv_move rfl) ?_
        refine dd_hn 0 rfl rfl rfl rfl (Kp.refl ([]) w5) (fun w hS => vv_fieldAddr fa_28_3 rfl) ?_
        refine dd_hn 0 rfl rfl rfl rfl (Kp.refl ([]) w5) (fun w hS => vv_fieldAddr fa_26_1 rfl) ?_
        refine dd_hn 0 rfl rfl rfl rfl (Kp.refl ([]) w5) (fun w hS => vv_load1 (v := wv p0.Group.Q) one_24 rfl (Bx.kp B14 hS) rfl) ?_
        have hb := bnd hm; clear hm; obtain ⟨x4, hx4, hm⟩ := hb
        refine dd_z [] rfl rfl rfl (ev_call en_87 rfl (slices_Max_6ac0_w p1 _ _ _ _ _ hx4 _ B13)) ⟨fun _ => tk0, trivial⟩ ?_
        rintro _ w6 ⟨rfl, Gw6⟩
        have z16 := Gw6.size
        refine ⟨Kz.ofGr Gw6, ?_⟩
        have S17 := (Kp.gr (Kp.refl ([]) w5) Gw6)
        refine dd_hn 0 rfl rfl rfl rfl S17 (fun w hS => vv_geqU (c := x4) (d := p0.Group.Q) rfl rfl) ?_
        refine dd_hn 0 rfl rfl rfl rfl S17 (fun w hS => vv_pickF rfl rfl) ?_
        refine dd_pn 0 rfl rfl rfl rfl S17 (fun w hS => vv_move rfl) (fun c4 => ?_) (fun c4 => ?_)
        ·
          replace hm := ite_t (of_decide_eq_true c4) hm
          refine dd_sn 0 rfl rfl rfl rfl S17 ?_
          refine dd_sn 0 rfl rfl rfl rfl S17 ?_
          refine dd_sn 0 rfl rfl rfl rfl S17 ?_
          refine dd_sn 0 rfl rfl rfl rfl S17 ?_
          refine dd_sn 0 rfl rfl rfl rfl S17 ?_
          refine dd_hn 0 rfl rfl rfl rfl S17 (fun w hS => vv_pickT rfl rfl) ?_
          refine sd_nil ?_
          have K_18 : Kz [] w2 w6 := (Kz.gr (Kz.gr (Kz.refl _ _) Gw5) Gw6)
          refine ⟨rfl, true, ?_, hm, K_18⟩
          repeat' first | exact trivial | refine ⟨rfl, ?_⟩
        ·
          replace hm := ite_f (of_decide_eq_false c4) hm
          refine dd_hn 0 rfl rfl rfl rfl S17 (fun w hS => vv_move rfl) ?_
          refine dd_hn 0 rfl rfl rfl rfl S17 (fun w hS => vv_fieldAddr fa_28_3 rfl) ?_
          refine dd_hn 0 rfl rfl rfl rfl S17 (fun w hS => vv_fieldAddr fa_26_1 rfl) ?_
          refine dd_hn 0 rfl rfl rfl rfl S17 (fun w hS => vv_load1 (v := wv p0.Group.Q) one_24 rfl (Bx.kp B14 hS) rfl) ?_
          refine dd_hn 0 rfl rfl rfl rfl S17 (fun w hS => vv_geqU (c := p2) (d := p0.Group.Q) rfl rfl) ?_
          refine dd_hn 0 rfl rfl rfl rfl S17 (fun w hS => vv_pickF rfl rfl) ?_
          refine sd_nil ?_
          have K_19 : Kz [] w2 w6 := (Kz.gr (Kz.gr (Kz.refl _ _) Gw5) Gw6)
          refine ⟨rfl, (decide (p0.Group.Q ≤ p2)), ?_, hm, K_19⟩
          repeat' first | exact trivial | refine ⟨rfl, ?_⟩

set_option maxHeartbeats 2000000 in
theorem poly_Interpolate_1_w (p0 : TPoint) (p1 : TScheme) (bp1 : Nat) (r : Bool) (hm : poly_Interpolate_1 p0 p1 = some r) (w : World) (hbp1 : Bx w bp1 28 (TScheme.cs p1))  :
    Calls Try.prog 90 [.agg (TPoint.cs p0).toArray, .pointer (some ⟨bp1, 0, none⟩)].toArray w fun e w' => ∃ v, e = .returned v ∧ (v = .bool r ∧ Gr w w') := by
  have lt1 := hbp1.lt
  unfold poly_Interpolate_1 at hm
  refine calls_of_sw (R := fun v w' => v = .bool r ∧ Gr w w') 18 Try.func90 rfl rfl rfl ?_
  refine sw_seq ?_
  -- region 0 poly.go:103
  refine sw_region [(0, 0), (1, 0)] rfl rfl rfl ?_
  refine sd_ev rfl rfl rfl (ev_box (cs := TPoint.cs p0) rfl rfl) ?_
  rintro _ w1 ⟨b1, rfl, hbw1, Bw1, Gw1⟩
  have z2 := Gw1.size
  have lt3 := Bw1.lt
  refine sd_vv rfl rfl rfl (vv_assign rfl) ?_
  refine sd_done ?_
  refine sw_seq ?_
  -- region 1 poly.go:103
  refine sw_region [(0, 0), (1, 0), (2, 0), (3, 0), (4, 0), (5, 0), (6, 0), (7, 0), (8, 0), (9, 0), (10, 0), (11, 0), (12, 0), (13, 0), (14, 0)] rfl rfl rfl ?_
  refine sd_vv rfl rfl rfl (vv_fieldAddr fa_31_0 rfl) ?_
  refine sd_vv rfl rfl rfl (vv_load1 (v := wv p0.X) one_24 rfl Bw1 rfl) ?_
  refine sd_vv rfl rfl rfl (vv_fieldAddr fa_28_3 rfl) ?_
  refine sd_vv rfl rfl rfl (vv_fieldAddr fa_26_1 rfl) ?_
  have B4 := (Bx.gr hbp1 Gw1)
  refine sd_vv rfl rfl rfl (vv_load1 (v := wv p1.Group.Q) one_24 rfl B4 rfl) ?_
  refine sd_vv rfl rfl rfl (vv_geqU (c := p0.X) (d := p1.Group.Q) rfl rfl) ?_
  refine sd_split rfl rfl rfl (vv_move rfl) (fun c1 => ?_) (fun c1 => ?_)
  ·
    replace hm := ite_t (of_decide_eq_true c1) hm
    refine sd_skip rfl rfl rfl ?_
    refine sd_skip rfl rfl rfl ?_
    refine sd_skip rfl rfl rfl ?_
    refine sd_skip rfl rfl rfl ?_
    refine sd_skip rfl rfl rfl ?_
    refine sd_skip rfl rfl rfl ?_
    refine sd_vv rfl rfl rfl (vv_pickT rfl rfl) ?_
    refine sd_vv rfl rfl rfl (vv_assign rfl) ?_
    refine sd_done ?_
    refine sw_ret ?_
    have X5 : Gr w w1 := (Gr.trans (Gr.refl w) Gw1)
    have hr := Option.some.inj hm
    subst hr
    refine ⟨_, _, rfl, res_1 rfl (rv_tmp rfl), ?_⟩
    exact ⟨rfl, X5⟩
  ·
    replace hm := ite_f (of_decide_eq_false c1) hm
    refine sd_vv rfl rfl rfl (vv_fieldAddr fa_31_1 rfl) ?_
    refine sd_vv rfl rfl rfl (vv_load1 (v := wv p0.Y) one_24 rfl Bw1 rfl) ?_
    refine sd_vv rfl rfl rfl (vv_fieldAddr fa_28_3 rfl) ?_
    refine sd_vv rfl rfl rfl (vv_fieldAddr fa_26_1 rfl) ?_
    refine sd_vv rfl rfl rfl (vv_load1 (v := wv p1.Group.Q) one_24 rfl B4 rfl) ?_
    refine sd_vv rfl rfl rfl (vv_geqU (c := p0.Y) (d := p1.Group.Q) rfl rfl) ?_
    refine sd_vv rfl rfl rfl (vv_pickF rfl rfl) ?_
    refine sd_vv rfl rfl rfl (vv_assign rfl) ?_
    refine sd_done ?_
    refine sw_ret ?_
    have X6 : Gr w w1 := (Gr.trans (Gr.refl w) Gw1)
    have hr := Option.some.inj hm
    subst hr
    refine ⟨_, _, rfl, res_1 rfl (rv_tmp rfl), ?_⟩
    exact ⟨rfl, X6⟩

set_option maxHeartbeats 2000000 in
theorem slices_IndexFunc_7a5d_poly_Interpolate_1_w (p0 : List TPoint) (p1_0 : TScheme) (vp0 : Value) (zp0 gp0 op0 : Nat) (bp1_0 : Nat) (r : Int) (hm : slices_IndexFunc_7a5d_poly_Interpolate_1 p0 p1_0 = some r) (w : World) (hp0 : Rd w zp0 gp0 op0 2 vp0 (p0.map TPoint.cs)) (hbp1_0 : Bx w bp1_0 28 (TScheme.cs p1_0))  :
    Calls Try.prog 133 [vp0, .func (.func 90) [].toArray [.pointer (some ⟨bp1_0, 0, none⟩)].toArray].toArray w fun e w' => ∃ v, e = .returned v ∧ (v = .int .i64 r ∧ Gr w w') := by
  have lt1 := hp0.lth
  have lt2 := hbp1_0.lt
  unfold slices_IndexFunc_7a5d_poly_Interpolate_1 at hm
  refine calls_of_sw (R := fun v w' => v = .int .i64 r ∧ Gr w w') 19 Try.func133 rfl rfl rfl ?_
  refine sw_seq ?_
  -- region 0 slices.go:107
  refine sw_region [(0, 0)] rfl rfl rfl ?_
  refine sd_vv rfl rfl rfl (vv_assign rfl) ?_
  refine sd_done ?_
  refine sw_seq ?_
  refine sw_seq ?_
  -- region 1 slices.go:108
  refine sw_region [(0, 0), (1, 0), (2, 0)] rfl rfl rfl ?_
  refine sd_vv rfl rfl rfl (vv_move rfl) ?_
  refine sd_vv rfl rfl rfl (vv_lenT (l := p0) (c := TPoint.cs) Try.underlying43 rfl hp0) ?_
  refine sd_vv rfl rfl rfl (vv_move rfl) ?_
  refine sd_done ?_
  refine sw_block ?_
  refine sw_loopD (α := Nat × Int) [4, 5, 8, 9, 10, 11, 12, 13, 14, 15, 16, 17, 18] (fun ⟨n1, a2⟩ => [(4, .int .i64 0), (8, .int .i64 a2)]) (fun ⟨n1, a2⟩ wr => (fixN (slices_IndexFunc_7a5d_poly_Interpolate_1_L1 p0 p1_0) n1 a2 = some r) ∧ Kz [] w wr) (fun ⟨n1, a2⟩ => n1) ⟨FUEL, 0⟩ ?_ ?_ ?_
  · repeat' first | exact trivial | refine ⟨rfl, ?_⟩
  · exact ⟨hm, Kz.refl _ _⟩
  · clear hm; rintro ⟨n1, a2⟩ w1 ⟨hm, Kw1⟩
    have z3 := Kw1.size
    have hb := fix_succ hm; clear hm; obtain ⟨n1, rfl, hm⟩ := hb
    generalize hrec1 : fixN (slices_IndexFunc_7a5d_poly_Interpolate_1_L1 p0 p1_0) n1 = rec1 at hm
    unfold slices_IndexFunc_7a5d_poly_Interpolate_1_L1 at hm
    try dsimp only at hm
    refine sw_seq ?_
    -- region 2 slices.go:108
    refine sw_region [(0, 0)] rfl rfl rfl ?_
    refine sd_vv rfl rfl rfl (vv_lss (a := a2) (b := (p0.length : Int)) rfl rfl) ?_
    refine sd_done ?_
    refine sw_seq ?_
    refine sw_cond rfl (fun c1 => ?_) (fun c1 => ?_)
    ·
      replace hm := ite_t (of_decide_eq_true c1) hm
      refine sw_skip ?_
      refine then_n ?_
      refine sw_seq ?_
      refine sw_block ?_
      refine sw_seq ?_
      -- region 3 slices.go:108
      refine sw_region [(0, 0), (1, 0)] rfl rfl rfl ?_
      refine sd_vv rfl rfl rfl (vv_move rfl) ?_
      refine sd_vv rfl rfl rfl (vv_assign rfl) ?_
      refine sd_done ?_
      refine sw_seq ?_
      -- region 4 slices.go:109
      refine sw_region [(0, 0), (1, 0), (2, 0), (3, 0), (4, 0), (5, 0)] rfl rfl rfl ?_
      refine sd_vv rfl rfl rfl (vv_move rfl) ?_
      refine sd_vv rfl rfl rfl (vv_move rfl) ?_
      refine sd_vv rfl rfl rfl (vv_move rfl) ?_
      have hb := bnd hm; clear hm; obtain ⟨y3, hy3, hm⟩ := hb
      have B4 := (Rd.kz hp0 Kw1)
      refine sd_vv rfl rfl rfl (vv_ixT (i := a2) Try.underlying43 (agg_31).siz rfl B4 rfl hy3) ?_
      refine sd_vv rfl rfl rfl (vv_elWT agg_31 rfl B4 hy3 (by first | rfl | omega)) ?_
      have B5 := (Bx.kz hbp1_0 Kw1)
      have hb := bnd hm; clear hm; obtain ⟨x4, hx4, hm⟩ := hb
      refine sd_ev rfl rfl rfl (ev_callV en_90 rfl rfl (poly_Interpolate_1_w y3 p1_0 _ _ hx4 _ B5)) ?_
      rintro _ w2 ⟨rfl, Gw2⟩
      have z6 := Gw2.size
      refine sd_done ?_
      refine sw_cond rfl (fun c2 => ?_) (fun c2 => ?_)
      ·
        replace hm := cnd_t c2 hm
        refine sw_seq ?_
        -- region 5 slices.go:110
        refine sw_region [(0, 0), (1, 0)] rfl rfl rfl ?_
        refine sd_vv rfl rfl rfl (vv_move rfl) ?_
        refine sd_vv rfl rfl rfl (vv_assign rfl) ?_
        refine sd_done ?_
        refine sw_ret ?_
        refine block_r ?_
        refine then_r ?_
        refine then_r ?_
        refine block_r ?_
        refine then_r ?_
        have X7 : Gr w w2 := (Gr.trans (Gr.kz (Gr.refl w) Kw1) Gw2)
        have hr := Option.some.inj hm
        subst hr
        refine ⟨_, _, rfl, res_1 rfl (rv_tmp rfl), ?_⟩
        exact ⟨rfl, X7⟩
      ·
        replace hm := cnd_f c2 hm
        refine sw_skip ?_
        refine block_n ?_
        refine then_n ?_
        -- region 6 slices.go:108
        refine sw_region [(0, 0), (1, 0)] rfl rfl rfl ?_
        refine sd_vv rfl rfl rfl (vv_add (k := .i64) (a := a2) (b := 1) rfl rfl) ?_
        refine sd_vv rfl rfl rfl (vv_move rfl) ?_
        refine sd_nil ?_
        have K_8 : Kz [] w w2 := (Kz.gr Kw1 Gw2)
        subst hrec1
        refine ⟨rfl, ⟨n1, w64 (a2 + 1)⟩, ?_, ⟨hm, K_8⟩, Nat.lt_succ_self _⟩
        repeat' first | exact trivial | refine ⟨rfl, ?_⟩
    ·
      replace hm := ite_f (of_decide_eq_false c1) hm
      refine sw_exit ?_
      refine then_x ?_
      refine then_x ?_
      refine block_x ?_
      refine then_n ?_
      refine sw_seq ?_
      -- region 7 slices.go:113
      refine sw_region [(0, 0)] rfl rfl rfl ?_
      refine sd_vv rfl rfl rfl (vv_assign rfl) ?_
      refine sd_done ?_
      refine sw_ret ?_
      have X9 : Gr w w1 := (Gr.kz (Gr.refl w) Kw1)
      have hr := Option.some.inj hm
      subst hr
      refine ⟨_, _, rfl, res_1 rfl (rv_tmp rfl), ?_⟩
      exact ⟨rfl, X9⟩

set_option maxHeartbeats 2000000 in
theorem slices_ContainsFunc_9e39_poly_Interpolate_1_w (p0 : List TPoint) (p1_0 : TScheme) (vp0 : Value) (zp0 gp0 op0 : Nat) (bp1_0 : Nat) (r : Bool) (hm : slices_ContainsFunc_9e39_poly_Interpolate_1 p0 p1_0 = some r) (w : World) (hp0 : Rd w zp0 gp0 op0 2 vp0 (p0.map TPoint.cs)) (hbp1_0 : Bx w bp1_0 28 (TScheme.cs p1_0))  :
    Calls Try.prog 89 [vp0, .func (.func 90) [].toArray [.pointer (some ⟨bp1_0, 0, none⟩)].toArray].toArray w fun e w' => ∃ v, e = .returned v ∧ (v = .bool r ∧ Gr w w') := by
  have lt1 := hp0.lth
  have lt2 := hbp1_0.lt
  unfold slices_ContainsFunc_9e39_poly_Interpolate_1 at hm
  refine calls_of_sw (R := fun v w' => v = .bool r ∧ Gr w w') 9 Try.func89 rfl rfl rfl ?_
  refine sw_seq ?_
  -- region 0 slices.go:124
  refine sw_region [(0, 0)] rfl rfl rfl ?_
  refine sd_vv rfl rfl rfl (vv_assign rfl) ?_
  refine sd_done ?_
  refine sw_seq ?_
  -- region 1 slices.go:125
  refine sw_region [(0, 0), (1, 0), (2, 0), (3, 0), (4, 0)] rfl rfl rfl ?_
  refine sd_vv rfl rfl rfl (vv_move rfl) ?_
  refine sd_vv rfl rfl rfl (vv_move rfl) ?_
  have hb := bnd hm; clear hm; obtain ⟨x1, hx1, hm⟩ := hb
  refine sd_ev rfl rfl rfl (ev_call en_133 rfl (slices_IndexFunc_7a5d_poly_Interpolate_1_w p0 p1_0 _ _ _ _ _ _ hx1 _ hp0 hbp1_0)) ?_
  rintro _ w1 ⟨rfl, Gw1⟩
  have z3 := Gw1.size
  refine sd_vv rfl rfl rfl (vv_geq (a := x1) (b := 0) rfl rfl) ?_
  refine sd_vv rfl rfl rfl (vv_assign rfl) ?_
  refine sd_done ?_
  refine sw_ret ?_
  have X4 : Gr w w1 := (Gr.trans (Gr.refl w) Gw1)
  have hr := Option.some.inj hm
  subst hr
  refine ⟨_, _, rfl, res_1 rfl (rv_tmp rfl), ?_⟩
  exact ⟨rfl, X4⟩

set_option maxHeartbeats 2000000 in
theorem poly_distinct_1_w (p0 : TPoint) (p1 : TPoint) (bp1 : Nat) (r : Bool) (hm : poly_distinct_1 p0 p1 = some r) (w : World) (hbp1 : Bx w bp1 31 (TPoint.cs p1))  :
    Calls Try.prog 122 [.agg (TPoint.cs p0).toArray, .pointer (some ⟨bp1, 0, none⟩)].toArray w fun e w' => ∃ v, e = .returned v ∧ (v = .bool r ∧ Gr w w') := by
  have lt1 := hbp1.lt
  unfold poly_distinct_1 at hm
  refine calls_of_sw (R := fun v w' => v = .bool r ∧ Gr w w') 9 Try.func122 rfl rfl rfl ?_
  refine sw_seq ?_
  -- region 0 poly.go:90
  refine sw_region [(0, 0), (1, 0)] rfl rfl rfl ?_
  refine sd_ev rfl rfl rfl (ev_box (cs := TPoint.cs p0) rfl rfl) ?_
  rintro _ w1 ⟨b1, rfl, hbw1, Bw1, Gw1⟩
  have z2 := Gw1.size
  have lt3 := Bw1.lt
  refine sd_vv rfl rfl rfl (vv_assign rfl) ?_
  refine sd_done ?_
  refine sw_seq ?_
  -- region 1 poly.go:90
  refine sw_region [(0, 0), (1, 0), (2, 0), (3, 0), (4, 0), (5, 0)] rfl rfl rfl ?_
  refine sd_vv rfl rfl rfl (vv_fieldAddr fa_31_0 rfl) ?_
  refine sd_vv rfl rfl rfl (vv_load1 (v := wv p0.X) one_24 rfl Bw1 rfl) ?_
  refine sd_vv rfl rfl rfl (vv_fieldAddr fa_31_0 rfl) ?_
  have B4 := (Bx.gr hbp1 Gw1)
  refine sd_vv rfl rfl rfl (vv_load1 (v := wv p1.X) one_24 rfl B4 rfl) ?_
  refine sd_vv rfl rfl rfl (vv_eqlU (c := p0.X) (d := p1.X) rfl rfl) ?_
  refine sd_vv rfl rfl rfl (vv_assign rfl) ?_
  refine sd_done ?_
  refine sw_ret ?_
  have X5 : Gr w w1 := (Gr.trans (Gr.refl w) Gw1)
  have hr := Option.some.inj hm
  subst hr
  refine ⟨_, _, rfl, res_1 rfl (rv_tmp rfl), ?_⟩
  exact ⟨rfl, X5⟩

set_option maxHeartbeats 2000000 in
theorem slices_IndexFunc_7a5d_poly_distinct_1_w (p0 : List TPoint) (p1_0 : TPoint) (vp0 : Value) (zp0 gp0 op0 : Nat) (bp1_0 : Nat) (r : Int) (hm : slices_IndexFunc_7a5d_poly_distinct_1 p0 p1_0 = some r) (w : World) (hp0 : Rd w zp0 gp0 op0 2 vp0 (p0.map TPoint.cs)) (hbp1_0 : Bx w bp1_0 31 (TPoint.cs p1_0))  :
    Calls Try.prog 133 [vp0, .func (.func 122) [].toArray [.pointer (some ⟨bp1_0, 0, none⟩)].toArray].toArray w fun e w' => ∃ v, e = .returned v ∧ (v = .int .i64 r ∧ Gr w w') := by
  have lt1 := hp0.lth
  have lt2 := hbp1_0.lt
  unfold slices_IndexFunc_7a5d_poly_distinct_1 at hm
  refine calls_of_sw (R := fun v w' => v = .int .i64 r ∧ Gr w w') 19 Try.func133 rfl rfl rfl ?_
  refine sw_seq ?_
  -- region 0 slices.go:107
  refine sw_region [(0, 0)] rfl rfl rfl ?_
  refine sd_vv rfl rfl rfl (vv_assign rfl) ?_
  refine sd_done ?_
  refine sw_seq ?_
  refine sw_seq ?_
  -- region 1 slices.go:108
  refine sw_region [(0, 0), (1, 0), (2, 0)] rfl rfl rfl ?_
  refine sd_vv rfl rfl rfl (vv_move rfl) ?_
  refine sd_vv rfl rfl rfl (vv_lenT (l := p0) (c := TPoint.cs) Try.underlying43 rfl hp0) ?_
  refine sd_vv rfl rfl rfl (vv_move rfl) ?_
  refine sd_done ?_
  refine sw_block ?_
  refine sw_loopD (α := Nat × Int) [4, 5, 8, 9, 10, 11, 12, 13, 14, 15, 16, 17, 18] (fun ⟨n1, a2⟩ => [(4, .int .i64 0), (8, .int .i64 a2)]) (fun ⟨n1, a2⟩ wr => (fixN (slices_IndexFunc_7a5d_poly_distinct_1_L1 p0 p1_0) n1 a2 = some r) ∧ Kz [] w wr) (fun ⟨n1, a2⟩ => n1) ⟨FUEL, 0⟩ ?_ ?_ ?_
  · repeat' first | exact trivial | refine ⟨rfl, ?_⟩
  · exact ⟨hm, Kz.refl _ _⟩
  · clear hm; rintro ⟨n1, a2⟩ w1 ⟨hm, Kw1⟩
    have z3 := Kw1.size
    have hb := fix_succ hm; clear hm; obtain ⟨n1, rfl, hm⟩ := hb
    generalize hrec1 : fixN (slices_IndexFunc_7a5d_poly_distinct_1_L1 p0 p1_0) n1 = rec1 at hm
    unfold slices_IndexFunc_7a5d_poly_distinct_1_L1 at hm
    try dsimp only at hm
    refine sw_seq ?_
    -- region 2 slices.go:108
    refine sw_region [(0, 0)] rfl rfl rfl ?_
    refine sd_vv rfl rfl rfl (vv_lss (a := a2) (b := (p0.length : Int)) rfl rfl) ?_
    refine sd_done ?_
    refine sw_seq ?_
    refine sw_cond rfl (fun c1 => ?_) (fun c1 => ?_)
    ·
      replace hm := ite_t (of_decide_eq_true c1) hm
      refine sw_skip ?_
      refine then_n ?_
      refine sw_seq ?_
      refine sw_block ?_
      refine sw_seq ?_
      -- region 3 slices.go:108
      refine sw_region [(0, 0), (1, 0)] rfl rfl rfl ?_
      refine sd_vv rfl rfl rfl (vv_move rfl) ?_
      refine sd_vv rfl rfl rfl (vv_assign rfl) ?_
      refine sd_done ?_
      refine sw_seq ?_
      -- region 4 slices.go:109
      refine sw_region [(0, 0), (1, 0), (2, 0), (3, 0), (4, 0), (5, 0)] rfl rfl rfl ?_
      refine sd_vv rfl rfl rfl (vv_move rfl) ?_
      refine sd_vv rfl rfl rfl (vv_move rfl) ?_
      refine sd_vv rfl rfl rfl (vv_move rfl) ?_
      have hb := bnd hm; clear hm; obtain ⟨y3, hy3, hm⟩ := hb
      have B4 := (Rd.kz hp0 Kw1)
      refine sd_vv rfl rfl rfl (vv_ixT (i := a2) Try.underlying43 (agg_31).siz rfl B4 rfl hy3) ?_
      refine sd_vv rfl rfl rfl (vv_elWT agg_31 rfl B4 hy3 (by first | rfl | omega)) ?_
      have B5 := (Bx.kz hbp1_0 Kw1)
      have hb := bnd hm; clear hm; obtain ⟨x4, hx4, hm⟩ := hb
      refine sd_ev rfl rfl rfl (ev_callV en_122 rfl rfl (poly_distinct_1_w y3 p1_0 _ _ hx4 _ B5)) ?_
      rintro _ w2 ⟨rfl, Gw2⟩
      have z6 := Gw2.size
      refine sd_done ?_
      refine sw_cond rfl (fun c2 => ?_) (fun c2 => ?_)
      ·
        replace hm := cnd_t c2 hm
        refine sw_seq ?_
        -- region 5 slices.go:110
        refine sw_region [(0, 0), (1, 0)] rfl rfl rfl ?_
        refine sd_vv rfl rfl rfl (vv_move rfl) ?_
        refine sd_vv rfl rfl rfl (vv_assign rfl) ?_
        refine sd_done ?_
        refine sw_ret ?_
        refine block_r ?_
        refine then_r ?_
        refine then_r ?_
        refine block_r ?_
        refine then_r ?_
        have X7 : Gr w w2 := (Gr.trans (Gr.kz (Gr.refl w) Kw1) Gw2)
        have hr := Option.some.inj hm
        subst hr
        refine ⟨_, _, rfl, res_1 rfl (rv_tmp rfl), ?_⟩
        exact ⟨rfl, X7⟩
      ·
        replace hm := cnd_f c2 hm
        refine sw_skip ?_
        refine block_n ?_
        refine then_n ?_
        -- region 6 slices.go:108
        refine sw_region [(0, 0), (1, 0)] rfl rfl rfl ?_
        refine sd_vv rfl rfl rfl (vv_add (k := .i64) (a := a2) (b := 1) rfl rfl) ?_
        refine sd_vv rfl rfl rfl (vv_move rfl) ?_
        refine sd_nil ?_
        have K_8 : Kz [] w w2 := (Kz.gr Kw1 Gw2)
        subst hrec1
        refine ⟨rfl, ⟨n1, w64 (a2 + 1)⟩, ?_, ⟨hm, K_8⟩, Nat.lt_succ_self _⟩
        repeat' first | exact trivial | refine ⟨rfl, ?_⟩
    ·
      replace hm := ite_f (of_decide_eq_false c1) hm
      refine sw_exit ?_
      refine then_x ?_
      refine then_x ?_
      refine block_x ?_
      refine then_n ?_
      refine sw_seq ?_
      -- region 7 slices.go:113
      refine sw_region [(0, 0)] rfl rfl rfl ?_
      refine sd_vv rfl rfl rfl (vv_assign rfl) ?_
      refine sd_done ?_
      refine sw_ret ?_
      have X9 : Gr w w1 := (Gr.kz (Gr.refl w) Kw1)
      have hr := Option.some.inj hm
      subst hr
      refine ⟨_, _, rfl, res_1 rfl (rv_tmp rfl), ?_⟩
      exact ⟨rfl, X9⟩

set_option maxHeartbeats 2000000 in
theorem slices_ContainsFunc_9e39_poly_distinct_1_w (p0 : List TPoint) (p1_0 : TPoint) (vp0 : Value) (zp0 gp0 op0 : Nat) (bp1_0 : Nat) (r : Bool) (hm : slices_ContainsFunc_9e39_poly_distinct_1 p0 p1_0 = some r) (w : World) (hp0 : Rd w zp0 gp0 op0 2 vp0 (p0.map TPoint.cs)) (hbp1_0 : Bx w bp1_0 31 (TPoint.cs p1_0))  :
    Calls Try.prog 89 [vp0, .func (.func 122) [].toArray [.pointer (some ⟨bp1_0, 0, none⟩)].toArray].toArray w fun e w' => ∃ v, e = .returned v ∧ (v = .bool r ∧ Gr w w') := by
  have lt1 := hp0.lth
  have lt2 := hbp1_0.lt
  unfold slices_ContainsFunc_9e39_poly_distinct_1 at hm
  refine calls_of_sw (R := fun v w' => v = .bool r ∧ Gr w w') 9 Try.func89 rfl rfl rfl ?_
  refine sw_seq ?_
  -- region 0 slices.go:124
  refine sw_region [(0, 0)] rfl rfl rfl ?_
  refine sd_vv rfl rfl rfl (vv_assign rfl) ?_
  refine sd_done ?_
  refine sw_seq ?_
  -- region 1 slices.go:125
  refine sw_region [(0, 0), (1, 0), (2, 0), (3, 0), (4, 0)] rfl rfl rfl ?_
  refine sd_vv rfl rfl rfl (vv_move rfl) ?_
  refine sd_vv rfl rfl rfl (vv_move rfl) ?_
  have hb := bnd hm; clear hm; obtain ⟨x1, hx1, hm⟩ := hb
  refine sd_ev rfl rfl rfl (ev_call en_133 rfl (slices_IndexFunc_7a5d_poly_distinct_1_w p0 p1_0 _ _ _ _ _ _ hx1 _ hp0 hbp1_0)) ?_
  rintro _ w1 ⟨rfl, Gw1⟩
  have z3 := Gw1.size
  refine sd_vv rfl rfl rfl (vv_geq (a := x1) (b := 0) rfl rfl) ?_
  refine sd_vv rfl rfl rfl (vv_assign rfl) ?_
  refine sd_done ?_
  refine sw_ret ?_
  have X4 : Gr w w1 := (Gr.trans (Gr.refl w) Gw1)
  have hr := Option.some.inj hm
  subst hr
  refine ⟨_, _, rfl, res_1 rfl (rv_tmp rfl), ?_⟩
  exact ⟨rfl, X4⟩

set_option maxHeartbeats 2000000 in
theorem poly_distinct_w (p0 : List TPoint) (vp0 : Value) (zp0 gp0 op0 : Nat) (r : Bool) (hm : poly_distinct p0 = some r) (w : World) (hp0 : Rd w zp0 gp0 op0 2 vp0 (p0.map TPoint.cs))  :
    Calls Try.prog 75 [vp0].toArray w fun e w' => ∃ v, e = .returned v ∧ (v = .bool r ∧ Gr w w') := by
  have lt1 := hp0.lth
  unfold poly_distinct at hm
  refine calls_of_sw (R := fun v w' => v = .bool r ∧ Gr w w') 18 Try.func75 rfl rfl rfl ?_
  refine sw_seq ?_
  -- region 0 poly.go:88
  refine sw_region [(0, 0)] rfl rfl rfl ?_
  refine sd_vv rfl rfl rfl (vv_assign rfl) ?_
  refine sd_done ?_
  refine sw_seq ?_
  refine sw_seq ?_
  -- region 1 poly.go:89
  refine sw_region [(0, 0), (1, 0), (2, 0)] rfl rfl rfl ?_
  refine sd_vv rfl rfl rfl (vv_move rfl) ?_
  refine sd_vv rfl rfl rfl (vv_lenT (l := p0) (c := TPoint.cs) Try.underlying43 rfl hp0) ?_
  refine sd_vv rfl rfl rfl (vv_move rfl) ?_
  refine sd_done ?_
  refine sw_block ?_
  refine sw_loopD (α := Nat × Int) [2, 3, 4, 7, 8, 9, 10, 11, 12, 13, 14, 15, 16, 17] (fun ⟨n1, a2⟩ => [(2, .bool false), (7, .int .i64 a2)]) (fun ⟨n1, a2⟩ wr => (fixN (poly_distinct_L1 p0) n1 a2 = some r) ∧ Kz [] w wr) (fun ⟨n1, a2⟩ => n1) ⟨FUEL, 0⟩ ?_ ?_ ?_
  · repeat' first | exact trivial | refine ⟨rfl, ?_⟩
  · exact ⟨hm, Kz.refl _ _⟩
  · clear hm; rintro ⟨n1, a2⟩ w1 ⟨hm, Kw1⟩
    have z2 := Kw1.size
    have hb := fix_succ hm; clear hm; obtain ⟨n1, rfl, hm⟩ := hb
    generalize hrec1 : fixN (poly_distinct_L1 p0) n1 = rec1 at hm
    unfold poly_distinct_L1 at hm
    try dsimp only at hm
    refine sw_seq ?_
    -- region 2 poly.go:89
    refine sw_region [(0, 0)] rfl rfl rfl ?_
    refine sd_vv rfl rfl rfl (vv_lss (a := a2) (b := (p0.length : Int)) rfl rfl) ?_
    refine sd_done ?_
    refine sw_seq ?_
    refine sw_cond rfl (fun c1 => ?_) (fun c1 => ?_)
    ·
      replace hm := ite_t (of_decide_eq_true c1) hm
      refine sw_skip ?_
      refine then_n ?_
      refine sw_seq ?_
      refine sw_block ?_
      refine sw_seq ?_
      -- region 3 poly.go:89
      refine sw_region [(0, 0), (1, 0), (2, 0), (3, 0), (4, 0), (5, 0)] rfl rfl rfl ?_
      refine sd_vv rfl rfl rfl (vv_move rfl) ?_
      have hb := bnd hm; clear hm; obtain ⟨y3, hy3, hm⟩ := hb
      have B3 := (Rd.kz hp0 Kw1)
      refine sd_vv rfl rfl rfl (vv_ixT (i := a2) Try.underlying43 (agg_31).siz rfl B3 rfl hy3) ?_
      refine sd_vv rfl rfl rfl (vv_elWT agg_31 rfl B3 hy3 (by first | rfl | omega)) ?_
      refine sd_ev rfl rfl rfl (ev_alloc (cs := TPoint.cs (TPoint.mk 0#64 0#64)) zv_31 rfl) ?_
      rintro _ w2 ⟨b2, rfl, hbw2, Bw2, Gw2⟩
      have z4 := Gw2.size
      have lt5 := Bw2.lt
      refine sd_vv rfl rfl rfl (vv_assign rfl) ?_
      refine sd_ev rfl rfl rfl (ev_stM (cs' := TPoint.cs y3) (vs := TPoint.cs y3) (agg_31).siz rfl rfl rfl rfl rfl Bw2 rfl rfl) ?_
      rintro _ w3 ⟨Bw3, Mw3⟩
      have z6 := Mw3.size
      refine sd_done ?_
      refine sw_seq ?_
      -- region 4 poly.go:90
      refine sw_region [(0, 0), (1, 0), (2, 0), (3, 0), (4, 0)] rfl rfl rfl ?_
      refine sd_vv rfl rfl rfl (vv_move rfl) ?_
      refine sd_vv rfl rfl rfl (vv_move rfl) ?_
      have hb := bnd hm; clear hm; obtain ⟨l4, hl4, hm⟩ := hb
      have B7 := (Rd.md (Rd.gr B3 Gw2) Mw3 (tk1 ((pv_lt (A := (fun x => x ≠ b2)) lt1) : zp0 = 0 ∨ gp0 ≠ b2)))
      refine sd_sli rfl rfl rfl (vv_sliT (P := Try.prog) (lo := 0) (hi := a2) (l := p0) (c := TPoint.cs) Try.underlying43 (agg_31).siz rfl B7 rfl ⟨_, rfl⟩ hl4) ?_
      rintro v8 o8 R8
      have lt9 := R8.lth
      refine sd_vv rfl rfl rfl (vv_makeFunc rfl rfl) ?_
      have hb := bnd hm; clear hm; obtain ⟨x5, hx5, hm⟩ := hb
      refine sd_ev rfl rfl rfl (ev_call en_89 rfl (slices_ContainsFunc_9e39_poly_distinct_1_w l4 y3 _ _ _ _ _ _ hx5 _ R8 Bw3)) ?_
      rintro _ w4 ⟨rfl, Gw4⟩
      have z10 := Gw4.size
      refine sd_done ?_
      refine sw_cond rfl (fun c2 => ?_) (fun c2 => ?_)
      ·
        replace hm := cnd_t c2 hm
        refine sw_seq ?_
        -- region 5 poly.go:91
        refine sw_region [(0, 0)] rfl rfl rfl ?_
        refine sd_vv rfl rfl rfl (vv_assign rfl) ?_
        refine sd_done ?_
        refine sw_ret ?_
        refine block_r ?_
        refine then_r ?_
        refine then_r ?_
        refine block_r ?_
        refine then_r ?_
        have X11 : Gr w w4 := (Gr.trans (Gr.md (Gr.trans (Gr.kz (Gr.refl w) Kw1) Gw2) Mw3) Gw4)
        have hr := Option.some.inj hm
        subst hr
        refine ⟨_, _, rfl, res_1 rfl (rv_tmp rfl), ?_⟩
        exact ⟨rfl, X11⟩
      ·
        replace hm := cnd_f c2 hm
        refine sw_skip ?_
        refine block_n ?_
        refine then_n ?_
        -- region 6 poly.go:89
        refine sw_region [(0, 0), (1, 0)] rfl rfl rfl ?_
        refine sd_vv rfl rfl rfl (vv_add (k := .i64) (a := a2) (b := 1) rfl rfl) ?_
        refine sd_vv rfl rfl rfl (vv_move rfl) ?_
        refine sd_nil ?_
        have K_12 : Kz [] w w4 := (Kz.gr (Kz.md (Kz.gr Kw1 Gw2) Mw3) Gw4)
        subst hrec1
        refine ⟨rfl, ⟨n1, w64 (a2 + 1)⟩, ?_, ⟨hm, K_12⟩, Nat.lt_succ_self _⟩
        repeat' first | exact trivial | refine ⟨rfl, ?_⟩
    ·
      replace hm := ite_f (of_decide_eq_false c1) hm
      refine sw_exit ?_
      refine then_x ?_
      refine then_x ?_
      refine block_x ?_
      refine then_n ?_
      refine sw_seq ?_
      -- region 7 poly.go:94
      refine sw_region [(0, 0)] rfl rfl rfl ?_
      refine sd_vv rfl rfl rfl (vv_assign rfl) ?_
      refine sd_done ?_
      refine sw_ret ?_
      have X13 : Gr w w1 := (Gr.kz (Gr.refl w) Kw1)
      have hr := Option.some.inj hm
      subst hr
      refine ⟨_, _, rfl, res_1 rfl (rv_tmp rfl), ?_⟩
      exact ⟨rfl, X13⟩

set_option maxHeartbeats 2000000 in
theorem poly_field_sub_w (p0 : BitVec 64) (p1 : BitVec 64) (p2 : BitVec 64)  (r : BitVec 64) (hm : poly_field_sub p0 p1 p2 = some r) (w : World)   :
    Calls Try.prog 77 [wv p0, wv p1, wv p2].toArray w fun e w' => ∃ v, e = .returned v ∧ (v = wv r ∧ Gr w w') := by
  unfold poly_field_sub at hm
  refine calls_of_sw (R := fun v w' => v = wv r ∧ Gr w w') 14 Try.func77 rfl rfl rfl ?_
  refine sw_seq ?_
  -- region 0 poly.go:16
  refine sw_region [(0, 0)] rfl rfl rfl ?_
  refine sd_vv rfl rfl rfl (vv_assign rfl) ?_
  refine sd_done ?_
  refine sw_seq ?_
  -- region 1 poly.go:16
  refine sw_region [(0, 0), (1, 0), (2, 0), (3, 0), (4, 0), (5, 0), (6, 0), (7, 0)] rfl rfl rfl ?_
  refine sd_vv rfl rfl rfl (vv_move rfl) ?_
  refine sd_vv rfl rfl rfl (vv_move rfl) ?_
  refine sd_vv rfl rfl rfl (vv_uadd (a := p1) (b := p0) rfl rfl) ?_
  refine sd_vv rfl rfl rfl (vv_move rfl) ?_
  refine sd_vv rfl rfl rfl (vv_usub (a := p1 + p0) (b := p2) rfl rfl) ?_
  refine sd_vv rfl rfl rfl (vv_move rfl) ?_
  have hb := bnd hm; clear hm; obtain ⟨x1, hx1, hm⟩ := hb
  refine sd_vv rfl rfl rfl (vv_remU (c := (p1 + p0) - p2) (d := p0) rfl rfl hx1) ?_
  refine sd_vv rfl rfl rfl (vv_assign rfl) ?_
  refine sd_done ?_
  refine sw_ret ?_
  have hr := Option.some.inj hm
  subst hr
  refine ⟨_, _, rfl, res_1 rfl (rv_tmp rfl), ?_⟩
  exact ⟨rfl, (Gr.refl w)⟩

set_option maxHeartbeats 2000000 in
theorem number_modulus_w (p0 : BitVec 64)  (r : Bool) (hm : number_modulus p0 = some r) (w : World)   :
    Calls Try.prog 111 [wv p0].toArray w fun e w' => ∃ v, e = .returned v ∧ (v = .bool r ∧ Gr w w') := by
  unfold number_modulus at hm
  refine calls_of_sw (R := fun v w' => v = .bool r ∧ Gr w w') 9 Try.func111 rfl rfl rfl ?_
  refine sw_seq ?_
  -- region 0 modular.go:6
  refine sw_region [(0, 0)] rfl rfl rfl ?_
  refine sd_vv rfl rfl rfl (vv_assign rfl) ?_
  refine sd_done ?_
  refine sw_seq ?_
  -- region 1 modular.go:6
  refine sw_region [(0, 0), (1, 0), (2, 0), (3, 0), (4, 0), (5, 0), (6, 0)] rfl rfl rfl ?_
  refine sd_vv rfl rfl rfl (vv_move rfl) ?_
  refine sd_vv rfl rfl rfl (vv_geqU (c := p0) (d := 1#64) rfl rfl) ?_
  refine sd_split rfl rfl rfl (vv_move rfl) (fun c1 => ?_) (fun c1 => ?_)
  ·
    replace hm := ite_t (of_decide_eq_true c1) hm
    refine sd_vv rfl rfl rfl (vv_move rfl) ?_
    refine sd_vv rfl rfl rfl (vv_lssU (c := p0) (d := 4294967296#64) rfl rfl) ?_
    refine sd_vv rfl rfl rfl (vv_pickT rfl rfl) ?_
    refine sd_vv rfl rfl rfl (vv_assign rfl) ?_
    refine sd_done ?_
    refine sw_ret ?_
    have hr := Option.some.inj hm
    subst hr
    refine ⟨_, _, rfl, res_1 rfl (rv_tmp rfl), ?_⟩
    exact ⟨rfl, (Gr.refl w)⟩
  ·
    replace hm := ite_f (of_decide_eq_false c1) hm
    refine sd_skip rfl rfl rfl ?_
    refine sd_skip rfl rfl rfl ?_
    refine sd_vv rfl rfl rfl (vv_pickF rfl rfl) ?_
    refine sd_vv rfl rfl rfl (vv_assign rfl) ?_
    refine sd_done ?_
    refine sw_ret ?_
    have hr := Option.some.inj hm
    subst hr
    refine ⟨_, _, rfl, res_1 rfl (rv_tmp rfl), ?_⟩
    exact ⟨rfl, (Gr.refl w)⟩

set_option maxHeartbeats 2000000 in
theorem number_InvMod_w (p0 : BitVec 64) (p1 : BitVec 64)  (r : BitVec 64 × Int) (hm : number_InvMod p0 p1 = some r) (w : World)   :
    Calls Try.prog 123 [wv p0, wv p1].toArray w fun e w' => ∃ v, e = .returned v ∧ (v = .tuple [wv r.1, .int .i64 r.2].toArray ∧ Gr w w') := by
  unfold number_InvMod at hm
  refine calls_of_sw (R := fun v w' => v = .tuple [wv r.1, .int .i64 r.2].toArray ∧ Gr w w') 50 Try.func123 rfl rfl rfl ?_
  refine sw_seq ?_
  -- region 0 modular.go:29
  refine sw_region [(0, 0), (1, 0)] rfl rfl rfl ?_
  refine sd_vv rfl rfl rfl (vv_assign rfl) ?_
  refine sd_vv rfl rfl rfl (vv_assign rfl) ?_
  refine sd_done ?_
  refine sw_seq ?_
  refine sw_seq ?_
  -- region 1 modular.go:30
  refine sw_region [(0, 0), (1, 0), (2, 0)] rfl rfl rfl ?_
  refine sd_vv rfl rfl rfl (vv_move rfl) ?_
  have hb := bnd hm; clear hm; obtain ⟨x1, hx1, hm⟩ := hb
  refine sd_ev rfl rfl rfl (ev_call en_111 rfl (number_modulus_w p1 _ hx1 _)) ?_
  rintro _ w1 ⟨rfl, Gw1⟩
  have z1 := Gw1.size
  refine sd_vv rfl rfl rfl (vv_not rfl) ?_
  refine sd_done ?_
  refine sw_cond rfl (fun c1 => ?_) (fun c1 => ?_)
  ·
    replace hm := cnd_t c1 hm
    refine sw_seq ?_
    -- region 2 modular.go:31
    refine sw_region [(0, 0), (1, 0)] rfl rfl rfl ?_
    refine sd_vv rfl rfl rfl (vv_assign rfl) ?_
    refine sd_vv rfl rfl rfl (vv_assign rfl) ?_
    refine sd_done ?_
    refine sw_ret ?_
    refine then_r ?_
    have X2 : Gr w w1 := (Gr.trans (Gr.refl w) Gw1)
    have hr := Option.some.inj hm
    subst hr
    refine ⟨_, _, rfl, res_2 rfl (rv_tmp rfl) (rv_tmp rfl), ?_⟩
    exact ⟨rfl, X2⟩
  ·
    replace hm := cnd_f c1 hm
    refine sw_skip ?_
    refine then_n ?_
    refine sw_seq ?_
    -- region 3 modular.go:33 DRAWS
    refine sw_drawN [([])] [] (.leaf [(0, 10), (1, 10), (2, 10), (3, 10), (4, 10), (5, 10), (6, 10), (7, 10)]) (by kernel_rfl) (by kernel_rfl) rfl (by kernel_rfl) ?_
    intro w2 Gw2 zw2
    refine sdz_leaf ?_
    refine dd_hn 0 rfl rfl rfl rfl (Kp.refl ([]) w2) (fun w hS => vv_move rfl) ?_
    refine dd_hn 0 rfl rfl rfl rfl (Kp.refl ([]) w2) (fun w hS => vv_cvUI cv_24_2 rfl) ?_
    refine dd_hn 0 rfl rfl rfl rfl (Kp.refl ([]) w2) (fun w hS => vv_move rfl) ?_
    refine dd_hn 0 rfl rfl rfl rfl (Kp.refl ([]) w2) (fun w hS => vv_move rfl) ?_
    have hb := bnd hm; clear hm; obtain ⟨x2, hx2, hm⟩ := hb
    refine dd_hn 0 rfl rfl rfl rfl (Kp.refl ([]) w2) (fun w hS => vv_remU (c := p0) (d := p1) rfl rfl hx2) ?_
    refine dd_hn 0 rfl rfl rfl rfl (Kp.refl ([]) w2) (fun w hS => vv_cvUI cv_24_2 rfl) ?_
    refine dd_hn 0 rfl rfl rfl rfl (Kp.refl ([]) w2) (fun w hS => vv_assign rfl) ?_
    refine dd_hn 0 rfl rfl rfl rfl (Kp.refl ([]) w2) (fun w hS => vv_assign rfl) ?_
    refine sd_done ?_
    refine sw_seq ?_
    -- region 4 modular.go:34
    refine sw_region [(0, 0), (1, 0)] rfl rfl rfl ?_
    refine sd_vv rfl rfl rfl (vv_assign rfl) ?_
    refine sd_vv rfl rfl rfl (vv_assign rfl) ?_
    refine sd_done ?_
    refine sw_seq ?_
    refine sw_block ?_
    have X3 : Gr w w2 := (Gr.trans (Gr.trans (Gr.refl w) Gw1) Gw2)
    refine sw_loopD (α := Nat × Int × Int × Int × Int) [6, 7, 8, 9, 10, 20, 21, 22, 23, 24, 25, 26, 27, 28, 29, 30, 31, 32, 33, 34, 35, 36] (fun ⟨n1, a7, a8, a9, a10⟩ => [(6, .int .i64 a7), (7, .int .i64 a8), (8, .int .i64 a9), (9, .int .i64 a10)]) (fun ⟨n1, a7, a8, a9, a10⟩ wr => (fixN (number_InvMod_L1 p1) n1 (a7, a8, a9, a10) = some r) ∧ Kz [] w2 wr) (fun ⟨n1, a7, a8, a9, a10⟩ => n1) ⟨FUEL, w64 (un p1), w64 (un x2), 0, 1⟩ ?_ ?_ ?_
    · repeat' first | exact trivial | refine ⟨rfl, ?_⟩
    · exact ⟨hm, Kz.refl _ _⟩
    · clear hm; rintro ⟨n1, a7, a8, a9, a10⟩ w3 ⟨hm, Kw3⟩
      have z4 := Kw3.size
      have hb := fix_succ hm; clear hm; obtain ⟨n1, rfl, hm⟩ := hb
      generalize hrec1 : fixN (number_InvMod_L1 p1) n1 = rec1 at hm
      unfold number_InvMod_L1 at hm
      try dsimp only at hm
      refine sw_seq ?_
      refine sw_seq ?_
      -- region 5 modular.go:35
      refine sw_region [(0, 0), (1, 0)] rfl rfl rfl ?_
      refine sd_vv rfl rfl rfl (vv_move rfl) ?_
      refine sd_vv rfl rfl rfl (vv_neq (a := a8) (b := 0) rfl rfl) ?_
      refine sd_done ?_
      refine sw_cond rfl (fun c2 => ?_) (fun c2 => ?_)
      ·
        replace hm := ite_t (of_decide_eq_true c2) hm
        refine sw_skip ?_
        refine then_n ?_
        refine sw_block ?_
        refine sw_seq ?_
        -- region 6 modular.go:36
        refine sw_region [(0, 0), (1, 0), (2, 0), (3, 0)] rfl rfl rfl ?_
        refine sd_vv rfl rfl rfl (vv_move rfl) ?_
        refine sd_vv rfl rfl rfl (vv_move rfl) ?_
        have hb := bnd hm; clear hm; obtain ⟨x11, hx11, hm⟩ := hb
        refine sd_vv rfl rfl rfl (vv_quoI (a := a7) (b := a8) rfl rfl hx11) ?_
        refine sd_vv rfl rfl rfl (vv_assign rfl) ?_
        refine sd_done ?_
        refine sw_seq ?_
        -- region 7 modular.go:37
        refine sw_region [(0, 0), (1, 0), (2, 0), (3, 0), (4, 0), (5, 0), (6, 0), (7, 0)] rfl rfl rfl ?_
        refine sd_vv rfl rfl rfl (vv_move rfl) ?_
        refine sd_vv rfl rfl rfl (vv_move rfl) ?_
        refine sd_vv rfl rfl rfl (vv_move rfl) ?_
        refine sd_vv rfl rfl rfl (vv_move rfl) ?_
        refine sd_vv rfl rfl rfl (vv_mul (k := .i64) (a := x11) (b := a8) rfl rfl) ?_
        refine sd_vv rfl rfl rfl (vv_sub (k := .i64) (a := a7) (b := w64 (x11 * a8)) rfl rfl) ?_
        refine sd_vv rfl rfl rfl (vv_assign rfl) ?_
        refine sd_vv rfl rfl rfl (vv_assign rfl) ?_
        refine sd_done ?_
        -- region 8 modular.go:38
        refine sw_region [(0, 0), (1, 0), (2, 0), (3, 0), (4, 0), (5, 0), (6, 0), (7, 0)] rfl rfl rfl ?_
        refine sd_vv rfl rfl rfl (vv_move rfl) ?_
        refine sd_vv rfl rfl rfl (vv_move rfl) ?_
        refine sd_vv rfl rfl rfl (vv_move rfl) ?_
        refine sd_vv rfl rfl rfl (vv_move rfl) ?_
        refine sd_vv rfl rfl rfl (vv_mul (k := .i64) (a := x11) (b := a10) rfl rfl) ?_
        refine sd_vv rfl rfl rfl (vv_sub (k := .i64) (a := a9) (b := w64 (x11 * a10)) rfl rfl) ?_
        refine sd_vv rfl rfl rfl (vv_assign rfl) ?_
        refine sd_vv rfl rfl rfl (vv_assign rfl) ?_
        refine sd_nil ?_
        refine block_n ?_
        have K_5 : Kz [] w2 w3 := Kw3
        subst hrec1
        refine ⟨rfl, ⟨n1, a8, w64 (a7 - (w64 (x11 * a8))), a10, w64 (a9 - (w64 (x11 * a10)))⟩, ?_, ⟨hm, K_5⟩, Nat.lt_succ_self _⟩
        repeat' first | exact trivial | refine ⟨rfl, ?_⟩
      ·
        replace hm := ite_f (of_decide_eq_false c2) hm
        refine sw_exit ?_
        refine then_x ?_
        refine then_x ?_
        refine block_x ?_
        refine then_n ?_
        refine sw_seq ?_
        refine sw_seq ?_
        -- region 9 modular.go:40
        refine sw_region [(0, 0), (1, 0)] rfl rfl rfl ?_
        refine sd_vv rfl rfl rfl (vv_move rfl) ?_
        refine sd_vv rfl rfl rfl (vv_neq (a := a7) (b := 1) rfl rfl) ?_
        refine sd_done ?_
        refine sw_cond rfl (fun c3 => ?_) (fun c3 => ?_)
        ·
          replace hm := ite_t (of_decide_eq_true c3) hm
          refine sw_seq ?_
          -- region 10 modular.go:41
          refine sw_region [(0, 0), (1, 0)] rfl rfl rfl ?_
          refine sd_vv rfl rfl rfl (vv_assign rfl) ?_
          refine sd_vv rfl rfl rfl (vv_assign rfl) ?_
          refine sd_done ?_
          refine sw_ret ?_
          refine then_r ?_
          have X6 : Gr w w3 := (Gr.kz X3 Kw3)
          have hr := Option.some.inj hm
          subst hr
          refine ⟨_, _, rfl, res_2 rfl (rv_tmp rfl) (rv_tmp rfl), ?_⟩
          exact ⟨rfl, X6⟩
        ·
          replace hm := ite_f (of_decide_eq_false c3) hm
          refine sw_skip ?_
          refine then_n ?_
          refine sw_seq ?_
          -- region 11 modular.go:43
          refine sw_region [(0, 0), (1, 0), (2, 0), (3, 0), (4, 0), (5, 0), (6, 0), (7, 0), (8, 0), (9, 0), (10, 0), (11, 0), (12, 0)] rfl rfl rfl ?_
          refine sd_vv rfl rfl rfl (vv_move rfl) ?_
          refine sd_vv rfl rfl rfl (vv_move rfl) ?_
          refine sd_vv rfl rfl rfl (vv_cvUI cv_24_2 rfl) ?_
          have hb := bnd hm; clear hm; obtain ⟨x12, hx12, hm⟩ := hb
          refine sd_vv rfl rfl rfl (vv_remI (a := a9) (b := w64 (un p1)) rfl rfl hx12) ?_
          refine sd_vv rfl rfl rfl (vv_move rfl) ?_
          refine sd_vv rfl rfl rfl (vv_cvUI cv_24_2 rfl) ?_
          refine sd_vv rfl rfl rfl (vv_add (k := .i64) (a := x12) (b := w64 (un p1)) rfl rfl) ?_
          refine sd_vv rfl rfl rfl (vv_move rfl) ?_
          refine sd_vv rfl rfl rfl (vv_cvUI cv_24_2 rfl) ?_
          have hb := bnd hm; clear hm; obtain ⟨x13, hx13, hm⟩ := hb
          refine sd_vv rfl rfl rfl (vv_remI (a := w64 (x12 + (w64 (un p1)))) (b := w64 (un p1)) rfl rfl hx13) ?_
          refine sd_vv rfl rfl rfl (vv_cvIU cv_2_24 rfl) ?_
          refine sd_vv rfl rfl rfl (vv_assign rfl) ?_
          refine sd_vv rfl rfl rfl (vv_assign rfl) ?_
          refine sd_done ?_
          refine sw_ret ?_
          have X7 : Gr w w3 := (Gr.kz X3 Kw3)
          have hr := Option.some.inj hm
          subst hr
          refine ⟨_, _, rfl, res_2 rfl (rv_tmp rfl) (rv_tmp rfl), ?_⟩
          exact ⟨rfl, X7⟩

set_option maxHeartbeats 2000000 in
theorem poly_field_div_w (p0 : BitVec 64) (p1 : BitVec 64) (p2 : BitVec 64)  (r : BitVec 64) (hm : poly_field_div p0 p1 p2 = some r) (w : World)   :
    Calls Try.prog 78 [wv p0, wv p1, wv p2].toArray w fun e w' => ∃ v, e = .returned v ∧ (v = wv r ∧ Gr w w') := by
  unfold poly_field_div at hm
  refine calls_of_sw (R := fun v w' => v = wv r ∧ Gr w w') 20 Try.func78 rfl rfl rfl ?_
  refine sw_seq ?_
  -- region 0 poly.go:28
  refine sw_region [(0, 0)] rfl rfl rfl ?_
  refine sd_vv rfl rfl rfl (vv_assign rfl) ?_
  refine sd_done ?_
  refine sw_seq ?_
  -- region 1 poly.go:29
  refine sw_region [(0, 0), (1, 0), (2, 0), (3, 0), (4, 0), (5, 0), (6, 0), (7, 0)] rfl rfl rfl ?_
  refine sd_vv rfl rfl rfl (vv_move rfl) ?_
  refine sd_vv rfl rfl rfl (vv_move rfl) ?_
  have hb := bnd hm; clear hm; obtain ⟨x1, hx1, hm⟩ := hb
  refine sd_ev rfl rfl rfl (ev_call en_123 rfl (number_InvMod_w p2 p0 _ hx1 _)) ?_
  rintro _ w1 ⟨rfl, Gw1⟩
  have z1 := Gw1.size
  refine sd_vv rfl rfl rfl (vv_move rfl) ?_
  refine sd_vv rfl rfl rfl (vv_extract rfl rfl) ?_
  refine sd_vv rfl rfl rfl (vv_extract rfl rfl) ?_
  refine sd_vv rfl rfl rfl (vv_assign rfl) ?_
  refine sd_vv rfl rfl rfl (vv_assign rfl) ?_
  refine sd_done ?_
  refine sw_seq ?_
  -- region 2 poly.go:30
  refine sw_region [(0, 0), (1, 0), (2, 0), (3, 0), (4, 0), (5, 0)] rfl rfl rfl ?_
  refine sd_vv rfl rfl rfl (vv_move rfl) ?_
  refine sd_vv rfl rfl rfl (vv_move rfl) ?_
  refine sd_vv rfl rfl rfl (vv_move rfl) ?_
  refine sd_ev rfl rfl rfl (ev_litT [p1, x1.1] uwc bsl_60_2 rfl rfl (ws_of rfl) rfl rfl rfl) ?_
  rintro vw2 w2 ⟨gw2, hbw2, Ow2, Gw2⟩
  have z2 := Gw2.size
  have lt3 := Ow2.lth
  have hb := bnd hm; clear hm; obtain ⟨x2, hx2, hm⟩ := hb
  refine sd_ev rfl rfl rfl (ev_call en_76 rfl (poly_field_mul_w p0 [p1, x1.1] _ _ _ _ _ hx2 _ (Own.rd Ow2))) ?_
  rintro _ w3 ⟨rfl, Gw3⟩
  have z4 := Gw3.size
  refine sd_vv rfl rfl rfl (vv_assign rfl) ?_
  refine sd_done ?_
  refine sw_ret ?_
  have X5 : Gr w w3 := (Gr.trans (Gr.trans (Gr.trans (Gr.refl w) Gw1) Gw2) Gw3)
  have hr := Option.some.inj hm
  subst hr
  refine ⟨_, _, rfl, res_1 rfl (rv_tmp rfl), ?_⟩
  exact ⟨rfl, X5⟩

set_option maxHeartbeats 2000000 in
theorem slices_Backward_f243_w (p0 : List (BitVec 64)) (vp0 : Value) (zp0 gp0 op0 : Nat) (r : List (BitVec 64)) (hm : slices_Backward_f243 p0 = some r) (w : World) (hp0 : Rd w zp0 gp0 op0 1 vp0 (p0.map uwc))  :
    Calls Try.prog 91 [vp0].toArray w fun e w' => ∃ v, e = .returned v ∧ (∃ (bc0 : Nat) (uc0_s : Value) (zc0_s : Nat) (gc0_s : Nat) (oc0_s : Nat), v = .func (.func 134) #[] [.pointer (some ⟨bc0, 0, none⟩)].toArray ∧ Bx w' bc0 60 ([uc0_s]) ∧ (w.heap.size ≤ bc0) ∧ Rd w' zc0_s gc0_s oc0_s 1 uc0_s (r.map uwc) ∧ Hdn (zc0_s = 0 ∨ (gc0_s = gp0 ∧ zp0 ≠ 0) ∨ w.heap.size ≤ gc0_s) ∧ Gr w w') := by
  have lt1 := hp0.lth
  unfold slices_Backward_f243 at hm
  refine calls_of_sw (R := fun v w' => ∃ (bc0 : Nat) (uc0_s : Value) (zc0_s : Nat) (gc0_s : Nat) (oc0_s : Nat), v = .func (.func 134) #[] [.pointer (some ⟨bc0, 0, none⟩)].toArray ∧ Bx w' bc0 60 ([uc0_s]) ∧ (w.heap.size ≤ bc0) ∧ Rd w' zc0_s gc0_s oc0_s 1 uc0_s (r.map uwc) ∧ Hdn (zc0_s = 0 ∨ (gc0_s = gp0 ∧ zp0 ≠ 0) ∨ w.heap.size ≤ gc0_s) ∧ Gr w w') 4 Try.func91 rfl rfl rfl ?_
  refine sw_seq ?_
  -- region 0 iter.go:26
  refine sw_region [(0, 0), (1, 0)] rfl rfl rfl ?_
  refine sd_ev rfl rfl rfl (ev_box (cs := [vp0]) rfl (cells1 (Rd.oneB hp0))) ?_
  rintro _ w1 ⟨b1, rfl, hbw1, Bw1, Gw1⟩
  have z2 := Gw1.size
  have lt3 := Bw1.lt
  refine sd_vv rfl rfl rfl (vv_assign rfl) ?_
  refine sd_done ?_
  refine sw_seq ?_
  -- region 1 iter.go:27
  refine sw_region [(0, 0), (1, 0)] rfl rfl rfl ?_
  refine sd_vv rfl rfl rfl (vv_makeFunc rfl rfl) ?_
  refine sd_vv rfl rfl rfl (vv_assign rfl) ?_
  refine sd_done ?_
  refine sw_ret ?_
  have B4 := (Rd.gr hp0 Gw1)
  have X5 : Gr w w1 := (Gr.trans (Gr.refl w) Gw1)
  have hr := Option.some.inj hm
  subst hr
  refine ⟨_, _, rfl, res_1 rfl (rv_tmp rfl), ?_⟩
  exact ⟨b1, vp0, zp0, gp0, op0, rfl, Bw1, by omega, B4, ⟨tk0⟩, X5⟩

set_option maxHeartbeats 2000000 in
theorem slices_Backward_1_c271_it (p1 : List (BitVec 64)) (bp1 : Nat) (vp1_0 : Value) (zp1_0 gp1_0 op1_0 : Nat) (xs : List (Int × BitVec 64)) (hm : slices_Backward_1_c271 p1 = some xs) (w0 : World) (hbp1 : Bx w0 bp1 60 ([vp1_0])) (hp1_0 : Rd w0 zp1_0 gp1_0 op1_0 1 vp1_0 (p1.map uwc)) :
    IT Try.prog 134 [.pointer (some ⟨bp1, 0, none⟩)] (xs.map (fun (x : Int × BitVec 64) => ([.int .i64 x.1, wv x.2] : List Value))) (zf zp1_0 gp1_0 ++ [bp1]) w0 := by
  intro l J Jx w fp hG hJ hJx hcap h0 hY
  have c1 := Rd.gr hp1_0 hG
  have lt2 := c1.lth
  have nb3 : zp1_0 = 0 ∨ gp1_0 ∉ fp := by by_cases hz : zp1_0 = 0; exact .inl hz; exact .inr (hcap _ (by simp [mem_zf, hz]))
  have c4 := Bx.gr hbp1 hG
  have lt5 := c4.lt
  have nb6 : bp1 ∉ fp := hcap _ (by simp)
  have hd := dr_0 xs
  unfold slices_Backward_1_c271 at hm
  refine calls_of_sw (R := fun v w' => Kp fp w w' ∧ ((∃ fp', (∀ c ∈ fp', c ∈ fp ∨ w.heap.size ≤ c) ∧ J (xs.map (fun (x : Int × BitVec 64) => ([.int .i64 x.1, wv x.2] : List Value))).length fp' w') ∨ (∃ j fp', (∀ c ∈ fp', c ∈ fp ∨ w.heap.size ≤ c) ∧ j ≤ (xs.map (fun (x : Int × BitVec 64) => ([.int .i64 x.1, wv x.2] : List Value))).length ∧ Jx j fp' w'))) 19 Try.func134 rfl rfl rfl ?_
  refine sw_seq ?_
  -- region 0 iter.go:28
  refine sw_region [(0, 0), (1, 0), (2, 0), (3, 0)] rfl rfl rfl ?_
  refine sd_vv rfl rfl rfl (vv_load1 (v := vp1_0) one_60 rfl c4 rfl) ?_
  refine sd_vv rfl rfl rfl (vv_lenT (l := p1) (c := uwc) Try.underlying60 rfl c1) ?_
  refine sd_vv rfl rfl rfl (vv_sub (k := .i64) (a := (p1.length : Int)) (b := 1) rfl rfl) ?_
  refine sd_vv rfl rfl rfl (vv_assign rfl) ?_
  refine sd_done ?_
  refine sw_block ?_
  refine sw_loopD (α := Nat × Int × Nat × List Nat × List (Int × BitVec 64)) [3, 7, 8, 9, 10, 11, 12, 13, 14, 15, 16, 17, 18] (fun ⟨n1, a2, kk, fpl, rl⟩ => [(3, .int .i64 a2)]) (fun ⟨n1, a2, kk, fpl, rl⟩ wr => (fixN (slices_Backward_1_c271_L1 p1) n1 a2 = some rl) ∧ Dr xs kk rl ∧ J kk fpl wr ∧ (∀ c ∈ fpl, c ∈ fp ∨ w.heap.size ≤ c) ∧ Kp fp w wr ∧ Rd wr zp1_0 gp1_0 op1_0 1 vp1_0 (p1.map uwc) ∧ Bx wr bp1 60 ([vp1_0]) ∧ (zp1_0 = 0 ∨ gp1_0 ∉ fpl) ∧ bp1 ∉ fpl ∧ True) (fun ⟨n1, a2, kk, fpl, rl⟩ => n1) ⟨FUEL, w64 ((p1.length : Int) - 1), 0, fp, xs⟩ ?_ ?_ ?_
  · repeat' first | exact trivial | refine ⟨rfl, ?_⟩
  · exact ⟨hm, hd, h0, (fun c hc => Or.inl hc), (Kp.refl fp w), c1, c4, nb3, nb6, trivial⟩
  · clear hm; rintro ⟨n1, a2, kk1, fpl1, rl1⟩ w1 ⟨hm, dl1, JLw1, sl1, KLw1, Sw1_0, Sw1_1, Nw1_0, Nw1_1, -⟩
    have z7 := KLw1.size
    have lt8 := Sw1_0.lth
    have lt9 := Sw1_1.lt
    have hb := fix_succ hm; clear hm; obtain ⟨n1, rfl, hm⟩ := hb
    generalize hrec1 : fixN (slices_Backward_1_c271_L1 p1) n1 = rec1 at hm
    unfold slices_Backward_1_c271_L1 at hm
    try dsimp only at hm
    refine sw_seq ?_
    refine sw_seq ?_
    -- region 1 iter.go:28
    refine sw_region [(0, 0), (1, 0)] rfl rfl rfl ?_
    refine sd_vv rfl rfl rfl (vv_move rfl) ?_
    refine sd_vv rfl rfl rfl (vv_geq (a := a2) (b := 0) rfl rfl) ?_
    refine sd_done ?_
    refine sw_cond rfl (fun c1 => ?_) (fun c1 => ?_)
    ·
      replace hm := ite_t (of_decide_eq_true c1) hm
      refine sw_skip ?_
      refine then_n ?_
      refine sw_seq ?_
      refine sw_block ?_
      refine sw_seq ?_
      -- region 3 iter.go:29
      refine sw_region [(0, 0), (1, 0), (2, 0), (3, 0), (4, 0), (5, 0), (6, 0), (7, 0)] rfl rfl rfl ?_
      refine sd_vv rfl rfl rfl (vv_move rfl) ?_
      refine sd_vv rfl rfl rfl (vv_move rfl) ?_
      refine sd_vv rfl rfl rfl (vv_load1 (v := vp1_0) one_60 rfl Sw1_1 rfl) ?_
      refine sd_vv rfl rfl rfl (vv_move rfl) ?_
      have hb := bnd hm; clear hm; obtain ⟨y3, hy3, hm⟩ := hb
      refine sd_vv rfl rfl rfl (vv_ixT (i := a2) Try.underlying60 (one_24).siz rfl Sw1_0 rfl hy3) ?_
      refine sd_vv rfl rfl rfl (vv_el1T (q := 0) (u := wv y3) one_24 rfl Sw1_0 hy3 (by first | rfl | omega) rfl) ?_
      obtain ⟨rr10, hm, he10⟩ := yl_some hm
      have hx10 := Dr.at dl1 he10
      have hd10 := Dr.next dl1 he10
      refine sd_ev rfl rfl rfl (ev_yield rfl rfl (hY _ _ _ _ (getm hx10) JLw1 KLw1 sl1)) ?_
      rintro _ w2 ⟨bb, rfl, KF10, fp10, hg10, hJb⟩
      have z11 := KF10.size
      have sub10 : ∀ c ∈ fp10, c ∈ fp ∨ w.heap.size ≤ c := sub_grow sl1 hg10 (by omega)
      have nb12 := notin_growz hg10 Nw1_0 (by have := lt8.o; omega)
      have nb13 := notin_grow hg10 Nw1_1 (by omega)
      cases bb
      ·
        have Jy10 : Jx (kk1 + 1) fp10 w2 := hJb
        refine sd_vv rfl rfl rfl (vv_not rfl) ?_
        refine sd_done ?_
        refine sw_condT rfl ?_
        refine sw_ret ?_
        refine block_r ?_
        refine then_r ?_
        refine then_r ?_
        refine block_r ?_
        have KI14 : Kp fp w w2 := (Kp.trans KLw1 KF10 sl1)
        exact ⟨_, _, rfl, res_none rfl, KI14, .inr ⟨_, _, sub10, (by rw [List.length_map]; exact (List.getElem?_eq_some_iff.1 hx10).1), Jy10⟩⟩
      ·
        have Jy10 : J (kk1 + 1) fp10 w2 := hJb
        refine sd_vv rfl rfl rfl (vv_not rfl) ?_
        refine sd_done ?_
        refine sw_condF rfl ?_
        refine sw_skip ?_
        refine block_n ?_
        refine then_n ?_
        -- region 2 iter.go:28
        refine sw_region [(0, 0), (1, 0), (2, 0)] rfl rfl rfl ?_
        refine sd_vv rfl rfl rfl (vv_move rfl) ?_
        refine sd_vv rfl rfl rfl (vv_sub (k := .i64) (a := a2) (b := 1) rfl rfl) ?_
        refine sd_vv rfl rfl rfl (vv_assign rfl) ?_
        refine sd_nil ?_
        have KI15 : Kp fp w w2 := (Kp.trans KLw1 KF10 sl1)
        have B16 := (Rd.kp Sw1_0 KF10 Nw1_0)
        have B17 := (Bx.kp Sw1_1 KF10 Nw1_1)
        subst hrec1
        refine ⟨rfl, ⟨n1, w64 (a2 - 1), (kk1 + 1), fp10, rr10⟩, ?_, ⟨hm, hd10, Jy10, sub10, KI15, B16, B17, nb12, nb13, trivial⟩, Nat.lt_succ_self _⟩
        repeat' first | exact trivial | refine ⟨rfl, ?_⟩
    ·
      replace hm := ite_f (of_decide_eq_false c1) hm
      refine sw_exit ?_
      refine then_x ?_
      refine then_x ?_
      refine block_x ?_
      have he := Option.some.inj hm
      have hl := Dr.last (c := (fun (x : Int × BitVec 64) => ([.int .i64 x.1, wv x.2] : List Value))) dl1 he.symm
      refine ⟨_, _, rfl, res_none rfl, KLw1, .inl ⟨_, sl1, ?_⟩⟩
      rw [← hl]; exact JLw1

set_option maxHeartbeats 2000000 in
theorem poly_Interpolate_w (p0 : TScheme) (p1 : List TPoint) (vp1 : Value) (zp1 gp1 op1 : Nat) (r : List (BitVec 64) × Int) (hm : poly_Interpolate p0 p1 = some r) (w : World) (hp1 : Rd w zp1 gp1 op1 2 vp1 (p1.map TPoint.cs))  :
    Calls Try.prog 36 [.agg (TScheme.cs p0).toArray, vp1].toArray w fun e w' => ∃ v, e = .returned v ∧ (∃ (ur0_s : Value) (zr0_s : Nat) (gr0_s : Nat), v = .tuple [ur0_s, .int .i64 r.2].toArray ∧ Own w' zr0_s gr0_s 24 1 ur0_s (r.1.map uwc) ∧ Hdn (zr0_s = 0 ∨ w.heap.size ≤ gr0_s) ∧ Gr w w') := by
  have lt1 := hp1.lth
  unfold poly_Interpolate at hm
  refine calls_of_sw (R := fun v w' => ∃ (ur0_s : Value) (zr0_s : Nat) (gr0_s : Nat), v = .tuple [ur0_s, .int .i64 r.2].toArray ∧ Own w' zr0_s gr0_s 24 1 ur0_s (r.1.map uwc) ∧ Hdn (zr0_s = 0 ∨ w.heap.size ≤ gr0_s) ∧ Gr w w') 151 Try.func36 rfl rfl rfl ?_
  refine sw_seq ?_
  -- region 0 poly.go:98
  refine sw_region [(0, 0), (1, 0), (2, 0), (3, 0)] rfl rfl rfl ?_
  refine sd_ev rfl rfl rfl (ev_box (cs := TScheme.cs p0) rfl rfl) ?_
  rintro _ w1 ⟨b1, rfl, hbw1, Bw1, Gw1⟩
  have z2 := Gw1.size
  have lt3 := Bw1.lt
  have B4 := (Rd.gr hp1 Gw1)
  refine sd_ev rfl rfl rfl (ev_box (cs := [vp1]) rfl (cells1 (Rd.oneB B4))) ?_
  rintro _ w2 ⟨b2, rfl, hbw2, Bw2, Gw2⟩
  have z5 := Gw2.size
  have lt6 := Bw2.lt
  refine sd_vv rfl rfl rfl (vv_assign rfl) ?_
  refine sd_vv rfl rfl rfl (vv_assign rfl) ?_
  refine sd_done ?_
  refine sw_seq ?_
  refine sw_seq ?_
  -- region 1 poly.go:99
  refine sw_region [(0, 0), (1, 0), (2, 0)] rfl rfl rfl ?_
  have B7 := (Bx.gr Bw1 Gw2)
  refine sd_vv rfl rfl rfl (vv_loadW agg_28 rfl B7 rfl) ?_
  have hb := bnd hm; clear hm; obtain ⟨x1, hx1, hm⟩ := hb
  refine sd_ev rfl rfl rfl (ev_call en_63 rfl (poly_valid_w p0 _ hx1 _)) ?_
  rintro _ w3 ⟨rfl, Gw3⟩
  have z8 := Gw3.size
  refine sd_vv rfl rfl rfl (vv_not rfl) ?_
  refine sd_done ?_
  refine sw_cond rfl (fun c1 => ?_) (fun c1 => ?_)
  ·
    replace hm := cnd_t c1 hm
    refine sw_seq ?_
    -- region 2 poly.go:100
    refine sw_region [(0, 0), (1, 0)] rfl rfl rfl ?_
    refine sd_vv rfl rfl rfl (vv_assign rfl) ?_
    refine sd_vv rfl rfl rfl (vv_assign rfl) ?_
    refine sd_done ?_
    refine sw_ret ?_
    refine then_r ?_
    have X9 : Gr w w3 := (Gr.trans (Gr.trans (Gr.trans (Gr.refl w) Gw1) Gw2) Gw3)
    have hr := Option.some.inj hm
    subst hr
    refine ⟨_, _, rfl, res_2 rfl (rv_tmp rfl) (rv_tmp rfl), ?_⟩
    exact ⟨(.slice none 0 0), 0, 0, rfl, (own_nil _ 0 24 1), ⟨.inl rfl⟩, X9⟩
  ·
    replace hm := cnd_f c1 hm
    refine sw_skip ?_
    refine then_n ?_
    refine sw_seq ?_
    -- region 3 poly.go:102
    refine sw_region [(0, 0), (1, 0), (2, 0), (3, 0), (4, 0)] rfl rfl rfl ?_
    refine sd_vv rfl rfl rfl (vv_fieldAddr fa_28_3 rfl) ?_
    refine sd_vv rfl rfl rfl (vv_fieldAddr fa_26_1 rfl) ?_
    have B10 := (Bx.gr B7 Gw3)
    refine sd_vv rfl rfl rfl (vv_load1 (v := wv p0.Group.Q) one_24 rfl B10 rfl) ?_
    refine sd_ev rfl rfl rfl (ev_alloc (cs := [wv 0#64]) zv_119 rfl) ?_
    rintro _ w4 ⟨b4, rfl, hbw4, Bw4, Gw4⟩
    have z11 := Gw4.size
    have lt12 := Bw4.lt
    refine sd_ev rfl rfl rfl (ev_st1 (cs' := [wv p0.Group.Q]) (one_119).siz rfl rfl rfl Bw4 rfl rfl) ?_
    rintro _ w5 ⟨Bw5, Mw5⟩
    have z13 := Mw5.size
    refine sd_done ?_
    refine sw_seq ?_
    have X14 : Gr w w5 := (Gr.md (Gr.trans (Gr.trans (Gr.trans (Gr.trans (Gr.refl w) Gw1) Gw2) Gw3) Gw4) Mw5)
    refine sw_joinD (β := Bool) [22, 23, 24, 25, 26, 27, 28, 29, 30, 31, 32, 33, 34, 35, 36, 37] (fun a2 => [(37, .bool a2)]) (fun a2 wr => (poly_Interpolate_J1 p0 p1 a2 = some r) ∧ Kz [] w5 wr) ?_ ?_
    · clear hm; rintro a2 w6 ⟨hm, Kw6⟩
      have z15 := Kw6.size
      unfold poly_Interpolate_J1 at hm
      refine sw_cond rfl (fun c2 => ?_) (fun c2 => ?_)
      ·
        replace hm := cnd_t c2 hm
        refine sw_seq ?_
        -- region 5 poly.go:104
        refine sw_region [(0, 0), (1, 0)] rfl rfl rfl ?_
        refine sd_vv rfl rfl rfl (vv_assign rfl) ?_
        refine sd_vv rfl rfl rfl (vv_assign rfl) ?_
        refine sd_done ?_
        refine sw_ret ?_
        refine then_r ?_
        have X16 : Gr w w6 := (Gr.kz X14 Kw6)
        have hr := Option.some.inj hm
        subst hr
        refine ⟨_, _, rfl, res_2 rfl (rv_tmp rfl) (rv_tmp rfl), ?_⟩
        exact ⟨(.slice none 0 0), 0, 0, rfl, (own_nil _ 0 24 1), ⟨.inl rfl⟩, X16⟩
      ·
        replace hm := cnd_f c2 hm
        refine sw_skip ?_
        refine then_n ?_
        refine sw_seq ?_
        -- region 6 poly.go:107
        refine sw_region [(0, 0), (1, 0), (2, 0), (3, 0)] rfl rfl rfl ?_
        have B17 := (Bx.kz (Bx.md (Bx.gr (Bx.gr Bw2 Gw3) Gw4) Mw5) Kw6)
        refine sd_vv rfl rfl rfl (vv_load1 (v := vp1) one_43 rfl B17 rfl) ?_
        have B18 := (Rd.kz (Rd.md (Rd.gr (Rd.gr (Rd.gr B4 Gw2) Gw3) Gw4) Mw5 (tk1 ((pv_lt (A := (fun x => x ≠ b4)) lt1) : zp1 = 0 ∨ gp1 ≠ b4))) Kw6)
        refine sd_vv rfl rfl rfl (vv_lenT (l := p1) (c := TPoint.cs) Try.underlying43 rfl B18) ?_
        have hb := bnd hm; clear hm; obtain ⟨l3, hl3, hm⟩ := hb
        refine sd_ev rfl rfl rfl (ev_mkT (c := uwc) (a := 0#64) apt_60 zv_24 rfl ⟨rfl, rfl⟩ rfl hl3 (by decide)) ?_
        rintro vw7 w7 ⟨gw7, hbw7, Ow7, Gw7⟩
        have z19 := Gw7.size
        have lt20 := Ow7.lth
        refine sd_vv rfl rfl rfl (vv_assign rfl) ?_
        refine sd_done ?_
        refine sw_seq ?_
        refine sw_seq ?_
        -- region 7 poly.go:108
        refine sw_region [(0, 0), (1, 0), (2, 0)] rfl rfl rfl ?_
        have B21 := (Bx.gr B17 Gw7)
        refine sd_vv rfl rfl rfl (vv_load1 (v := vp1) one_43 rfl B21 rfl) ?_
        have B22 := (Rd.gr B18 Gw7)
        refine sd_vv rfl rfl rfl (vv_lenT (l := p1) (c := TPoint.cs) Try.underlying43 rfl B22) ?_
        refine sd_vv rfl rfl rfl (vv_move rfl) ?_
        refine sd_done ?_
        refine sw_block ?_
        have X23 : Gr w w7 := (Gr.trans (Gr.kz X14 Kw6) Gw7)
        refine sw_loopD (α := Nat × List (BitVec 64) × Int × Value × Nat × Nat) [7, 8, 9, 43, 44, 45, 46, 47, 48, 49, 50, 51, 52, 53] (fun ⟨n2, a7, a9, vy8, zy8, gy8⟩ => [(7, vy8), (43, .int .i64 a9)]) (fun ⟨n2, a7, a9, vy8, zy8, gy8⟩ wr => (fixN (poly_Interpolate_L2 p0 p1) n2 (a7, a9) = some r) ∧ Own wr zy8 gy8 24 1 vy8 (a7.map uwc) ∧ Hdn (zy8 = 0 ∨ (gy8 = gw7 ∧ 1 ≠ 0) ∨ w7.heap.size ≤ gy8) ∧ Kz [(1, gw7)] w7 wr) (fun ⟨n2, a7, a9, vy8, zy8, gy8⟩ => n2) ⟨FUEL, l3, 0, vw7, 1, gw7⟩ ?_ ?_ ?_
        · repeat' first | exact trivial | refine ⟨rfl, ?_⟩
        · exact ⟨hm, Ow7, ⟨tk0⟩, Kz.refl _ _⟩
        · clear hm; rintro ⟨n2, a7, a9, vy8, zy8, gy8⟩ w8 ⟨hm, Fw8_0, Fw8_1, Kw8⟩
          have z24 := Kw8.size
          have lt25 := Fw8_0.lth
          have hb := fix_succ hm; clear hm; obtain ⟨n2, rfl, hm⟩ := hb
          generalize hrec2 : fixN (poly_Interpolate_L2 p0 p1) n2 = rec2 at hm
          unfold poly_Interpolate_L2 at hm
          try dsimp only at hm
          refine sw_seq ?_
          -- region 8 poly.go:108
          refine sw_region [(0, 0)] rfl rfl rfl ?_
          refine sd_vv rfl rfl rfl (vv_lss (a := a9) (b := (p1.length : Int)) rfl rfl) ?_
          refine sd_done ?_
          refine sw_seq ?_
          refine sw_cond rfl (fun c3 => ?_) (fun c3 => ?_)
          ·
            replace hm := ite_t (of_decide_eq_true c3) hm
            refine sw_skip ?_
            refine then_n ?_
            refine sw_seq ?_
            refine sw_block ?_
            refine sw_seq ?_
            -- region 9 poly.go:108
            refine sw_region [(0, 0), (1, 0), (2, 0), (3, 0), (4, 0), (5, 0)] rfl rfl rfl ?_
            refine sd_vv rfl rfl rfl (vv_move rfl) ?_
            have hb := bnd hm; clear hm; obtain ⟨y10, hy10, hm⟩ := hb
            have B26 := (Rd.kz B22 Kw8 (tk1 ((pv_sw (.inr (tk1 lt1.o))) : zp1 = 0 ∨ 1 = 0 ∨ gp1 ≠ gw7)))
            refine sd_vv rfl rfl rfl (vv_ixT (i := a9) Try.underlying43 (agg_31).siz rfl B26 rfl hy10) ?_
            refine sd_vv rfl rfl rfl (vv_elWT agg_31 rfl B26 hy10 (by first | rfl | omega)) ?_
            refine sd_ev rfl rfl rfl (ev_alloc (cs := TPoint.cs (TPoint.mk 0#64 0#64)) zv_31 rfl) ?_
            rintro _ w9 ⟨b9, rfl, hbw9, Bw9, Gw9⟩
            have z27 := Gw9.size
            have lt28 := Bw9.lt
            refine sd_vv rfl rfl rfl (vv_assign rfl) ?_
            refine sd_ev rfl rfl rfl (ev_stM (cs' := TPoint.cs y10) (vs := TPoint.cs y10) (agg_31).siz rfl rfl rfl rfl rfl Bw9 rfl rfl) ?_
            rintro _ w10 ⟨Bw10, Mw10⟩
            have z29 := Mw10.size
            refine sd_done ?_
            -- region 10 poly.go:109
            refine sw_region [(0, 0), (1, 0), (2, 0), (3, 0), (4, 0), (5, 0)] rfl rfl rfl ?_
            refine sd_vv rfl rfl rfl (vv_move rfl) ?_
            refine sd_vv rfl rfl rfl (vv_move rfl) ?_
            refine sd_vv rfl rfl rfl (vv_fieldAddr fa_31_1 rfl) ?_
            refine sd_vv rfl rfl rfl (vv_load1 (v := wv y10.Y) one_24 rfl Bw10 rfl) ?_
            have hb := bnd hm; clear hm; obtain ⟨y11, hy11, hm⟩ := hb
            have B30 := (Own.md (Own.gr Fw8_0 Gw9) Mw10 (tk1 ((pv_lt (A := (fun x => x ≠ b9)) lt25) : zy8 = 0 ∨ gy8 ≠ b9)))
            refine sd_vv rfl rfl rfl (vv_ixT (i := a9) Try.underlying60 (one_24).siz rfl (Own.rd B30) rfl hy11) ?_
            have zo31 := Own.z1 B30 hy11
            refine sd_ev rfl rfl rfl (ev_stEl (i := a9) (q := 0) (a' := y10.Y) (vs := [wv y10.Y]) (c := uwc) (one_24).siz rfl rfl rfl rfl rfl B30 hy11 (by first | rfl | omega) rfl rfl ⟨rfl, rfl⟩) ?_
            rintro _ w11 ⟨Ow11, Mw11⟩
            have z32 := Mw11.size
            refine sd_nil ?_
            refine block_n ?_
            refine then_n ?_
            -- region 11 poly.go:108
            refine sw_region [(0, 0), (1, 0)] rfl rfl rfl ?_
            refine sd_vv rfl rfl rfl (vv_add (k := .i64) (a := a9) (b := 1) rfl rfl) ?_
            refine sd_vv rfl rfl rfl (vv_move rfl) ?_
            refine sd_nil ?_
            have K_33 : Kz [(1, gw7)] w7 w11 := (Kz.md (Kz.md (Kz.gr Kw8 Gw9) Mw10) Mw11 (tk1 ((pv_1 (A := (fun x => (x = gw7 ∧ 1 ≠ 0) ∨ w7.heap.size ≤ x)) Fw8_1 tk0) : zy8 = 0 ∨ (gy8 = gw7 ∧ 1 ≠ 0) ∨ w7.heap.size ≤ gy8)))
            subst hrec2
            refine ⟨rfl, ⟨n2, a7.set a9.toNat y10.Y, w64 (a9 + 1), vy8, zy8, gy8⟩, ?_, ⟨hm, Ow11, ⟨(pv_1 (A := (fun x => (x = gw7 ∧ 1 ≠ 0) ∨ w7.heap.size ≤ x)) Fw8_1 tk0)⟩, K_33⟩, Nat.lt_succ_self _⟩
            repeat' first | exact trivial | refine ⟨rfl, ?_⟩
          ·
            replace hm := ite_f (of_decide_eq_false c3) hm
            refine sw_exit ?_
            refine then_x ?_
            refine then_x ?_
            refine block_x ?_
            refine then_n ?_
            refine sw_seq ?_
            refine sw_seq ?_
            -- region 12 poly.go:111
            refine sw_region [(0, 0)] rfl rfl rfl ?_
            refine sd_vv rfl rfl rfl (vv_assign rfl) ?_
            refine sd_done ?_
            refine sw_block ?_
            have X34 : Gr w w8 := (Gr.kz X23 Kw8 (tk1 ((.inr tk0) : 1 = 0 ∨ w.heap.size ≤ gw7)))
            have B35 := (Rd.kz B22 Kw8 (tk1 ((pv_sw (.inr (tk1 lt1.o))) : zp1 = 0 ∨ 1 = 0 ∨ gp1 ≠ gw7)))
            refine sw_loopD (α := Nat × List (BitVec 64) × Int × Value × Nat × Nat) [7, 10, 11, 54, 55, 56, 57, 58, 59, 60, 61, 62, 63, 64, 65, 66, 67, 68, 69, 70, 71, 72, 73, 74, 75, 76, 77, 78, 79, 80, 81, 82, 83, 84, 85, 86, 87, 88, 89, 90, 91, 92, 93, 94, 95, 96, 97] (fun ⟨n3, a15, a17, vy16, zy16, gy16⟩ => [(7, vy16), (10, .int .i64 a17)]) (fun ⟨n3, a15, a17, vy16, zy16, gy16⟩ wr => (fixN (poly_Interpolate_L3 p0 p1) n3 (a15, a17) = some r) ∧ Own wr zy16 gy16 24 1 vy16 (a15.map uwc) ∧ Hdn (zy16 = 0 ∨ (gy16 = gy8 ∧ zy8 ≠ 0) ∨ w8.heap.size ≤ gy16) ∧ Kz [(zy8, gy8)] w8 wr) (fun ⟨n3, a15, a17, vy16, zy16, gy16⟩ => n3) ⟨FUEL, a7, 1, vy8, zy8, gy8⟩ ?_ ?_ ?_
            · repeat' first | exact trivial | refine ⟨rfl, ?_⟩
            · exact ⟨hm, Fw8_0, ⟨tk0⟩, Kz.refl _ _⟩
            · clear hm; rintro ⟨n3, a15, a17, vy16, zy16, gy16⟩ w12 ⟨hm, Fw12_0, Fw12_1, Kw12⟩
              have z36 := Kw12.size
              have lt37 := Fw12_0.lth
              have hb := fix_succ hm; clear hm; obtain ⟨n3, rfl, hm⟩ := hb
              generalize hrec3 : fixN (poly_Interpolate_L3 p0 p1) n3 = rec3 at hm
              unfold poly_Interpolate_L3 at hm
              try dsimp only at hm
              refine sw_seq ?_
              refine sw_seq ?_
              -- region 13 poly.go:111
              refine sw_region [(0, 0), (1, 0), (2, 0), (3, 0)] rfl rfl rfl ?_
              refine sd_vv rfl rfl rfl (vv_move rfl) ?_
              refine sd_vv rfl rfl rfl (vv_move rfl) ?_
              refine sd_vv rfl rfl rfl (vv_lenT (l := a15) (c := uwc) Try.underlying60 rfl (Own.rd Fw12_0)) ?_
              refine sd_vv rfl rfl rfl (vv_lss (a := a17) (b := (a15.length : Int)) rfl rfl) ?_
              refine sd_done ?_
              refine sw_cond rfl (fun c4 => ?_) (fun c4 => ?_)
              ·
                replace hm := ite_t (of_decide_eq_true c4) hm
                refine sw_skip ?_
                refine then_n ?_
                refine sw_seq ?_
                refine sw_block ?_
                refine sw_seq ?_
                -- region 15 poly.go:112
                refine sw_region [(0, 0), (1, 0), (2, 0), (3, 0)] rfl rfl rfl ?_
                refine sd_vv rfl rfl rfl (vv_move rfl) ?_
                refine sd_vv rfl rfl rfl (vv_lenT (l := a15) (c := uwc) Try.underlying60 rfl (Own.rd Fw12_0)) ?_
                refine sd_vv rfl rfl rfl (vv_sub (k := .i64) (a := (a15.length : Int)) (b := 1) rfl rfl) ?_
                refine sd_vv rfl rfl rfl (vv_assign rfl) ?_
                refine sd_done ?_
                refine sw_block ?_
                have X38 : Gr w w12 := (Gr.kz X34 Kw12 (tk1 ((pv_1 (A := (fun x => w.heap.size ≤ x)) Fw8_1 (.inr tk0)) : zy8 = 0 ∨ w.heap.size ≤ gy8)))
                have B39 := (Rd.kz B35 Kw12 (tk1 ((pv_sw (pv_1 (A := (fun x => zp1 = 0 ∨ x ≠ gp1)) Fw8_1 (.inr (tk1 lt1.o)) (fun x hx => (tk1 lt1.o)))) : zp1 = 0 ∨ zy8 = 0 ∨ gp1 ≠ gy8)))
                refine sw_loopD (α := Nat × List (BitVec 64) × Int × Value × Nat × Nat) [7, 11, 63, 64, 65, 66, 67, 68, 69, 70, 71, 72, 73, 74, 75, 76, 77, 78, 79, 80, 81, 82, 83, 84, 85, 86, 87, 88, 89, 90, 91, 92, 93, 94, 95, 96, 97] (fun ⟨n4, a21, a23, vy22, zy22, gy22⟩ => [(7, vy22), (11, .int .i64 a23)]) (fun ⟨n4, a21, a23, vy22, zy22, gy22⟩ wr => (fixN (poly_Interpolate_L4 p0 p1 a17 rec3) n4 (a21, a23) = some r) ∧ Own wr zy22 gy22 24 1 vy22 (a21.map uwc) ∧ Hdn (zy22 = 0 ∨ (gy22 = gy16 ∧ zy16 ≠ 0) ∨ w12.heap.size ≤ gy22) ∧ Kz [(zy16, gy16)] w12 wr) (fun ⟨n4, a21, a23, vy22, zy22, gy22⟩ => n4) ⟨FUEL, a15, w64 ((a15.length : Int) - 1), vy16, zy16, gy16⟩ ?_ ?_ ?_
                · repeat' first | exact trivial | refine ⟨rfl, ?_⟩
                · exact ⟨hm, Fw12_0, ⟨tk0⟩, Kz.refl _ _⟩
                · clear hm; rintro ⟨n4, a21, a23, vy22, zy22, gy22⟩ w13 ⟨hm, Fw13_0, Fw13_1, Kw13⟩
                  have z40 := Kw13.size
                  have lt41 := Fw13_0.lth
                  have hb := fix_succ hm; clear hm; obtain ⟨n4, rfl, hm⟩ := hb
                  generalize hrec4 : fixN (poly_Interpolate_L4 p0 p1 a17 rec3) n4 = rec4 at hm
                  unfold poly_Interpolate_L4 at hm
                  try dsimp only at hm
                  refine sw_seq ?_
                  refine sw_seq ?_
                  -- region 16 poly.go:112
                  refine sw_region [(0, 0), (1, 0), (2, 0)] rfl rfl rfl ?_
                  refine sd_vv rfl rfl rfl (vv_move rfl) ?_
                  refine sd_vv rfl rfl rfl (vv_move rfl) ?_
                  refine sd_vv rfl rfl rfl (vv_geq (a := a23) (b := a17) rfl rfl) ?_
                  refine sd_done ?_
                  refine sw_cond rfl (fun c5 => ?_) (fun c5 => ?_)
                  ·
                    replace hm := ite_t (of_decide_eq_true c5) hm
                    refine sw_skip ?_
                    refine then_n ?_
                    refine sw_seq ?_
                    refine sw_block ?_
                    -- region 18 poly.go:113 DRAWS
                    refine sw_drawN [([] ++ zf zy22 gy22), ([])] [(30, [1])] (.leaf [(0, 10), (1, 10), (2, 10), (3, 10), (4, 10), (5, 10), (6, 11), (7, 11), (8, 10), (9, 10), (10, 10), (11, 11), (12, 11), (14, 10), (15, 10), (16, 10), (17, 10), (18, 10), (19, 10), (20, 10), (21, 10), (22, 10), (23, 10), (24, 10), (25, 10), (26, 10), (13, 0), (27, 0), (28, 0), (29, 11), (30, 0)]) (by kernel_rfl) (by kernel_rfl) rfl (by kernel_rfl) ?_
                    intro w14 Gw14 zw14
                    refine sdz_leaf ?_
                    refine dd_hn 0 rfl rfl rfl rfl (Kp.refl ([] ++ zf zy22 gy22) w14) (fun w hS => vv_move rfl) ?_
                    refine dd_hn 0 rfl rfl rfl rfl (Kp.refl ([] ++ zf zy22 gy22) w14) (fun w hS => vv_move rfl) ?_
                    have B42 := (Bx.gr (Bx.kz (Bx.kz (Bx.kz (Bx.gr (Bx.kz Bw5 Kw6) Gw7) Kw8 (tk1 ((.inr tk0) : 1 = 0 ∨ gw7 ≠ b4))) Kw12 (tk1 ((pv_1 (A := (fun x => x ≠ b4)) Fw8_1 (.inr tk0)) : zy8 = 0 ∨ gy8 ≠ b4))) Kw13 (tk1 ((pv_1 (A := (fun x => x ≠ b4)) Fw12_1 (pv_1 (A := (fun x => x ≠ b4)) Fw8_1 (.inr tk0))) : zy16 = 0 ∨ gy16 ≠ b4))) Gw14)
                    refine dd_hn 0 rfl rfl rfl rfl (Kp.refl ([] ++ zf zy22 gy22) w14) (fun w hS => vv_load1 (v := wv p0.Group.Q) one_119 rfl (Bx.kp B42 hS (tk1 ((pv_1 (A := (fun x => x ≠ b4)) Fw13_1 (pv_1 (A := (fun x => x ≠ b4)) Fw12_1 (pv_1 (A := (fun x => x ≠ b4)) Fw8_1 (.inr tk0)))) : zy22 = 0 ∨ gy22 ≠ b4))) rfl) ?_
                    refine dd_hn 0 rfl rfl rfl rfl (Kp.refl ([] ++ zf zy22 gy22) w14) (fun w hS => vv_load1 (v := wv p0.Group.Q) one_119 rfl (Bx.kp B42 hS (tk1 ((pv_1 (A := (fun x => x ≠ b4)) Fw13_1 (pv_1 (A := (fun x => x ≠ b4)) Fw12_1 (pv_1 (A := (fun x => x ≠ b4)) Fw8_1 (.inr tk0)))) : zy22 = 0 ∨ gy22 ≠ b4))) rfl) ?_
                    refine dd_hn 0 rfl rfl rfl rfl (Kp.refl ([] ++ zf zy22 gy22) w14) (fun w hS => vv_move rfl) ?_
                    refine dd_hn 0 rfl rfl rfl rfl (Kp.refl ([] ++ zf zy22 gy22) w14) (fun w hS => vv_move rfl) ?_
                    have hb := bnd hm; clear hm; obtain ⟨y24, hy24, hm⟩ := hb
                    have B43 := (Own.gr Fw13_0 Gw14)
                    refine dd_hn 1 rfl rfl rfl rfl (Kp.refl ([]) w14) (fun w hS => vv_ixT (i := a23) Try.underlying60 (one_24).siz rfl (Own.rd (Own.kp B43 hS)) rfl hy24) ?_
                    refine dd_hn 1 rfl rfl rfl rfl (Kp.refl ([]) w14) (fun w hS => vv_el1T (q := 0) (u := wv y24) one_24 rfl (Own.rd (Own.kp B43 hS)) hy24 (by first | rfl | omega) rfl) ?_
                    refine dd_hn 0 rfl rfl rfl rfl (Kp.refl ([] ++ zf zy22 gy22) w14) (fun w hS => vv_move rfl) ?_
                    refine dd_hn 0 rfl rfl rfl rfl (Kp.refl ([] ++ zf zy22 gy22) w14) (fun w hS => vv_move rfl) ?_
                    refine dd_hn 0 rfl rfl rfl rfl (Kp.refl ([] ++ zf zy22 gy22) w14) (fun w hS => vv_sub (k := .i64) (a := a23) (b := 1) rfl rfl) ?_
                    have hb := bnd hm; clear hm; obtain ⟨y25, hy25, hm⟩ := hb
                    refine dd_hn 1 rfl rfl rfl rfl (Kp.refl ([]) w14) (fun w hS => vv_ixT (i := w64 (a23 - 1)) Try.underlying60 (one_24).siz rfl (Own.rd (Own.kp B43 hS)) rfl hy25) ?_
                    refine dd_hn 1 rfl rfl rfl rfl (Kp.refl ([]) w14) (fun w hS => vv_el1T (q := 0) (u := wv y25) one_24 rfl (Own.rd (Own.kp B43 hS)) hy25 (by first | rfl | omega) rfl) ?_
                    refine dd_hn 0 rfl rfl rfl rfl (Kp.refl ([] ++ zf zy22 gy22) w14) (fun w hS => vv_load1 (v := wv p0.Group.Q) one_119 rfl (Bx.kp B42 hS (tk1 ((pv_1 (A := (fun x => x ≠ b4)) Fw13_1 (pv_1 (A := (fun x => x ≠ b4)) Fw12_1 (pv_1 (A := (fun x => x ≠ b4)) Fw8_1 (.inr tk0)))) : zy22 = 0 ∨ gy22 ≠ b4))) rfl) ?_
                    have B44 := (Bx.gr (Bx.kz (Bx.kz (Bx.kz B21 Kw8 (tk1 ((.inr tk0) : 1 = 0 ∨ gw7 ≠ b2))) Kw12 (tk1 ((pv_1 (A := (fun x => x ≠ b2)) Fw8_1 (.inr tk0)) : zy8 = 0 ∨ gy8 ≠ b2))) Kw13 (tk1 ((pv_1 (A := (fun x => x ≠ b2)) Fw12_1 (pv_1 (A := (fun x => x ≠ b2)) Fw8_1 (.inr tk0))) : zy16 = 0 ∨ gy16 ≠ b2))) Gw14)
                    refine dd_hn 0 rfl rfl rfl rfl (Kp.refl ([] ++ zf zy22 gy22) w14) (fun w hS => vv_load1 (v := vp1) one_43 rfl (Bx.kp B44 hS (tk1 ((pv_1 (A := (fun x => x ≠ b2)) Fw13_1 (pv_1 (A := (fun x => x ≠ b2)) Fw12_1 (pv_1 (A := (fun x => x ≠ b2)) Fw8_1 (.inr tk0)))) : zy22 = 0 ∨ gy22 ≠ b2))) rfl) ?_
                    refine dd_hn 0 rfl rfl rfl rfl (Kp.refl ([] ++ zf zy22 gy22) w14) (fun w hS => vv_move rfl) ?_
                    have hb := bnd hm; clear hm; obtain ⟨y26, hy26, hm⟩ := hb
                    have B45 := (Rd.gr (Rd.kz B39 Kw13 (tk1 ((pv_sw (pv_1 (A := (fun x => zp1 = 0 ∨ x ≠ gp1)) Fw12_1 (pv_1 (A := (fun x => zp1 = 0 ∨ x ≠ gp1)) Fw8_1 (.inr (tk1 lt1.o)) (fun x hx => (tk1 lt1.o))) (fun x hx => (tk1 lt1.o)))) : zp1 = 0 ∨ zy16 = 0 ∨ gp1 ≠ gy16))) Gw14)
                    refine dd_hn 0 rfl rfl rfl rfl (Kp.refl ([] ++ zf zy22 gy22) w14) (fun w hS => vv_ixT (i := a23) Try.underlying43 (agg_31).siz rfl (Rd.kp B45 hS (tk1 ((pv_sw (pv_1 (A := (fun x => zp1 = 0 ∨ x ≠ gp1)) Fw13_1 (pv_1 (A := (fun x => zp1 = 0 ∨ x ≠ gp1)) Fw12_1 (pv_1 (A := (fun x => zp1 = 0 ∨ x ≠ gp1)) Fw8_1 (.inr (tk1 lt1.o)) (fun x hx => (tk1 lt1.o))) (fun x hx => (tk1 lt1.o))) (fun x hx => (tk1 lt1.o)))) : zp1 = 0 ∨ zy22 = 0 ∨ gp1 ≠ gy22))) rfl hy26) ?_
                    refine dd_hn 0 rfl rfl rfl rfl (Kp.refl ([] ++ zf zy22 gy22) w14) (fun w hS => vv_fieldAddr fa_31_0 rfl) ?_
                    refine dd_hn 0 rfl rfl rfl rfl (Kp.refl ([] ++ zf zy22 gy22) w14) (fun w hS => vv_el1T (q := 0) (u := wv y26.X) one_24 rfl (Rd.kp B45 hS (tk1 ((pv_sw (pv_1 (A := (fun x => zp1 = 0 ∨ x ≠ gp1)) Fw13_1 (pv_1 (A := (fun x => zp1 = 0 ∨ x ≠ gp1)) Fw12_1 (pv_1 (A := (fun x => zp1 = 0 ∨ x ≠ gp1)) Fw8_1 (.inr (tk1 lt1.o)) (fun x hx => (tk1 lt1.o))) (fun x hx => (tk1 lt1.o))) (fun x hx => (tk1 lt1.o)))) : zp1 = 0 ∨ zy22 = 0 ∨ gp1 ≠ gy22))) hy26 (by first | rfl | omega) rfl) ?_
                    refine dd_hn 0 rfl rfl rfl rfl (Kp.refl ([] ++ zf zy22 gy22) w14) (fun w hS => vv_load1 (v := vp1) one_43 rfl (Bx.kp B44 hS (tk1 ((pv_1 (A := (fun x => x ≠ b2)) Fw13_1 (pv_1 (A := (fun x => x ≠ b2)) Fw12_1 (pv_1 (A := (fun x => x ≠ b2)) Fw8_1 (.inr tk0)))) : zy22 = 0 ∨ gy22 ≠ b2))) rfl) ?_
                    refine dd_hn 0 rfl rfl rfl rfl (Kp.refl ([] ++ zf zy22 gy22) w14) (fun w hS => vv_move rfl) ?_
                    refine dd_hn 0 rfl rfl rfl rfl (Kp.refl ([] ++ zf zy22 gy22) w14) (fun w hS => vv_move rfl) ?_
                    refine dd_hn 0 rfl rfl rfl rfl (Kp.refl ([] ++ zf zy22 gy22) w14) (fun w hS => vv_sub (k := .i64) (a := a23) (b := a17) rfl rfl) ?_
                    have hb := bnd hm; clear hm; obtain ⟨y27, hy27, hm⟩ := hb
                    refine dd_hn 0 rfl rfl rfl rfl (Kp.refl ([] ++ zf zy22 gy22) w14) (fun w hS => vv_ixT (i := w64 (a23 - a17)) Try.underlying43 (agg_31).siz rfl (Rd.kp B45 hS (tk1 ((pv_sw (pv_1 (A := (fun x => zp1 = 0 ∨ x ≠ gp1)) Fw13_1 (pv_1 (A := (fun x => zp1 = 0 ∨ x ≠ gp1)) Fw12_1 (pv_1 (A := (fun x => zp1 = 0 ∨ x ≠ gp1)) Fw8_1 (.inr (tk1 lt1.o)) (fun x hx => (tk1 lt1.o))) (fun x hx => (tk1 lt1.o))) (fun x hx => (tk1 lt1.o)))) : zp1 = 0 ∨ zy22 = 0 ∨ gp1 ≠ gy22))) rfl hy27) ?_
                    refine dd_hn 0 rfl rfl rfl rfl (Kp.refl ([] ++ zf zy22 gy22) w14) (fun w hS => vv_fieldAddr fa_31_0 rfl) ?_
                    refine dd_hn 0 rfl rfl rfl rfl (Kp.refl ([] ++ zf zy22 gy22) w14) (fun w hS => vv_el1T (q := 0) (u := wv y27.X) one_24 rfl (Rd.kp B45 hS (tk1 ((pv_sw (pv_1 (A := (fun x => zp1 = 0 ∨ x ≠ gp1)) Fw13_1 (pv_1 (A := (fun x => zp1 = 0 ∨ x ≠ gp1)) Fw12_1 (pv_1 (A := (fun x => zp1 = 0 ∨ x ≠ gp1)) Fw8_1 (.inr (tk1 lt1.o)) (fun x hx => (tk1 lt1.o))) (fun x hx => (tk1 lt1.o))) (fun x hx => (tk1 lt1.o)))) : zp1 = 0 ∨ zy22 = 0 ∨ gp1 ≠ gy22))) hy27 (by first | rfl | omega) rfl) ?_
                    have hb := bnd hm; clear hm; obtain ⟨x28, hx28, hm⟩ := hb
                    refine dd_z [] rfl rfl rfl (ev_call en_77 rfl (poly_field_sub_w p0.Group.Q y24 y25 _ hx28 _)) ⟨fun _ => tk0, fun _ => tk0, trivial⟩ ?_
                    rintro _ w15 ⟨rfl, Gw15⟩
                    have z46 := Gw15.size
                    refine ⟨Kz.ofGr Gw15, ?_⟩
                    have hb := bnd hm; clear hm; obtain ⟨x29, hx29, hm⟩ := hb
                    refine dd_z [] rfl rfl rfl (ev_call en_77 rfl (poly_field_sub_w p0.Group.Q y26.X y27.X _ hx29 _)) ⟨fun _ => tk0, fun _ => tk0, trivial⟩ ?_
                    rintro _ w16 ⟨rfl, Gw16⟩
                    have z47 := Gw16.size
                    refine ⟨Kz.ofGr Gw16, ?_⟩
                    have hb := bnd hm; clear hm; obtain ⟨x30, hx30, hm⟩ := hb
                    refine dd_z [] rfl rfl rfl (ev_call en_78 rfl (poly_field_div_w p0.Group.Q x28 x29 _ hx30 _)) ⟨fun _ => tk0, fun _ => tk0, trivial⟩ ?_
                    rintro _ w17 ⟨rfl, Gw17⟩
                    have z48 := Gw17.size
                    refine ⟨Kz.ofGr Gw17, ?_⟩
                    have hb := bnd hm; clear hm; obtain ⟨y31, hy31, hm⟩ := hb
                    have S49 := (Kp.gr (Kp.gr (Kp.gr (Kp.refl ([]) w14) Gw15) Gw16) Gw17)
                    refine dd_hn 1 rfl rfl rfl rfl S49 (fun w hS => vv_ixT (i := a23) Try.underlying60 (one_24).siz rfl (Own.rd (Own.kp B43 hS)) rfl hy31) ?_
                    have B50 := (Own.gr (Own.gr (Own.gr B43 Gw15) Gw16) Gw17)
                    have zo51 := Own.z1 B50 hy31
                    refine dd_z [(1, gy22)] rfl rfl rfl (ev_stEl (i := a23) (q := 0) (a' := x30) (vs := [wv x30]) (c := uwc) (one_24).siz rfl rfl rfl rfl rfl B50 hy31 (by first | rfl | omega) rfl rfl ⟨rfl, rfl⟩) ⟨fun _ => (tk1 (tk0 : zy22 = 0 ∨ (gy22 = gy22 ∧ zy22 ≠ 0) ∨ w14.heap.size ≤ gy22)), nofun, trivial⟩ ?_
                    rintro _ w18 ⟨Ow18, Mw18⟩
                    have z52 := Mw18.size
                    refine ⟨Kz.ofMd Mw18, ?_⟩
                    refine sd_nil ?_
                    refine block_n ?_
                    refine then_n ?_
                    -- region 17 poly.go:112
                    refine sw_region [(0, 0), (1, 0), (2, 0)] rfl rfl rfl ?_
                    refine sd_vv rfl rfl rfl (vv_move rfl) ?_
                    refine sd_vv rfl rfl rfl (vv_sub (k := .i64) (a := a23) (b := 1) rfl rfl) ?_
                    refine sd_vv rfl rfl rfl (vv_assign rfl) ?_
                    refine sd_nil ?_
                    have K_53 : Kz [(zy16, gy16)] w12 w18 := (Kz.md (Kz.gr (Kz.gr (Kz.gr (Kz.gr Kw13 Gw14) Gw15) Gw16) Gw17) Mw18 (tk1 ((pv_1 (A := (fun x => (x = gy16 ∧ zy16 ≠ 0) ∨ w12.heap.size ≤ x)) Fw13_1 tk0) : zy22 = 0 ∨ (gy22 = gy16 ∧ zy16 ≠ 0) ∨ w12.heap.size ≤ gy22)))
                    subst hrec4
                    refine ⟨rfl, ⟨n4, a21.set a23.toNat x30, w64 (a23 - 1), vy22, zy22, gy22⟩, ?_, ⟨hm, Ow18, ⟨(pv_1 (A := (fun x => (x = gy16 ∧ zy16 ≠ 0) ∨ w12.heap.size ≤ x)) Fw13_1 tk0)⟩, K_53⟩, Nat.lt_succ_self _⟩
                    repeat' first | exact trivial | refine ⟨rfl, ?_⟩
                  ·
                    replace hm := ite_f (of_decide_eq_false c5) hm
                    refine sw_exit ?_
                    refine then_x ?_
                    refine then_x ?_
                    refine block_x ?_
                    refine block_n ?_
                    refine then_n ?_
                    -- region 14 poly.go:111
                    refine sw_region [(0, 0), (1, 0), (2, 0)] rfl rfl rfl ?_
                    refine sd_vv rfl rfl rfl (vv_move rfl) ?_
                    refine sd_vv rfl rfl rfl (vv_add (k := .i64) (a := a17) (b := 1) rfl rfl) ?_
                    refine sd_vv rfl rfl rfl (vv_assign rfl) ?_
                    refine sd_nil ?_
                    have K_54 : Kz [(zy8, gy8)] w8 w13 := (Kz.kz Kw12 Kw13 (tk1 ((pv_1 (A := (fun x => (x = gy8 ∧ zy8 ≠ 0) ∨ w8.heap.size ≤ x)) Fw12_1 tk0) : zy16 = 0 ∨ (gy16 = gy8 ∧ zy8 ≠ 0) ∨ w8.heap.size ≤ gy16)))
                    subst hrec3
                    refine ⟨rfl, ⟨n3, a21, w64 (a17 + 1), vy22, zy22, gy22⟩, ?_, ⟨hm, Fw13_0, ⟨(pv_1 (A := (fun x => (x = gy8 ∧ zy8 ≠ 0) ∨ w8.heap.size ≤ x)) Fw13_1 (pv_1 (A := (fun x => (x = gy8 ∧ zy8 ≠ 0) ∨ w8.heap.size ≤ x)) Fw12_1 tk0))⟩, K_54⟩, Nat.lt_succ_self _⟩
                    repeat' first | exact trivial | refine ⟨rfl, ?_⟩
              ·
                replace hm := ite_f (of_decide_eq_false c4) hm
                refine sw_exit ?_
                refine then_x ?_
                refine then_x ?_
                refine block_x ?_
                refine then_n ?_
                refine sw_seq ?_
                -- region 19 poly.go:116
                refine sw_region [(0, 0), (1, 0), (2, 0), (3, 0), (4, 0)] rfl rfl rfl ?_
                refine sd_vv rfl rfl rfl (vv_move rfl) ?_
                refine sd_vv rfl rfl rfl (vv_lenT (l := a15) (c := uwc) Try.underlying60 rfl (Own.rd Fw12_0)) ?_
                have hb := bnd hm; clear hm; obtain ⟨l32, hl32, hm⟩ := hb
                refine sd_ev rfl rfl rfl (ev_mkT (c := uwc) (a := 0#64) apt_116 zv_24 rfl ⟨rfl, rfl⟩ rfl hl32 (by decide)) ?_
                rintro vw19 w19 ⟨gw19, hbw19, Ow19, Gw19⟩
                have z55 := Gw19.size
                have lt56 := Ow19.lth
                refine sd_ev rfl rfl rfl (ev_alloc (cs := [(.slice none 0 0)]) zv_116 rfl) ?_
                rintro _ w20 ⟨b20, rfl, hbw20, Bw20, Gw20⟩
                have z57 := Gw20.size
                have lt58 := Bw20.lt
                have B59 := (Own.gr Ow19 Gw20)
                refine sd_ev rfl rfl rfl (ev_st1 (cs' := [vw19]) (one_116).siz rfl rfl (Own.oneB B59) Bw20 rfl rfl) ?_
                rintro _ w21 ⟨Bw21, Mw21⟩
                have z60 := Mw21.size
                refine sd_done ?_
                refine sw_seq ?_
                refine sw_seq ?_
                -- region 20 poly.go:117
                refine sw_region [(0, 0), (1, 0)] rfl rfl rfl ?_
                refine sd_vv rfl rfl rfl (vv_move rfl) ?_
                have B61 := (Own.md (Own.gr (Own.gr Fw12_0 Gw19) Gw20) Mw21 (tk1 ((pv_lt (A := (fun x => x ≠ b20)) lt37) : zy16 = 0 ∨ gy16 ≠ b20)))
                have hb := bnd hm; clear hm; obtain ⟨x33, hx33, hm⟩ := hb
                refine sd_ev rfl rfl rfl (ev_call en_91 rfl (slices_Backward_f243_w a15 _ _ _ _ _ hx33 _ (Own.rd B61))) ?_
                rintro _ w22 ⟨k22_c0_0, u22_c00_s, z22_c00_s, g22_c00_s, o22_c00_s, rfl, O22_c0_0, f22_c0_0, O22_c00_s, f22_c00_s, Gw22⟩
                have z62 := Gw22.size
                have lt63 := O22_c00_s.lth
                have lt64 := O22_c0_0.lt
                refine sd_done ?_
                refine sw_block ?_
                have hb := bnd hm; clear hm; obtain ⟨l34, hl34, hm⟩ := hb
                have X65 : Gr w w22 := (Gr.trans (Gr.md (Gr.trans (Gr.trans (Gr.kz X34 Kw12 (tk1 ((pv_1 (A := (fun x => w.heap.size ≤ x)) Fw8_1 (.inr tk0)) : zy8 = 0 ∨ w.heap.size ≤ gy8))) Gw19) Gw20) Mw21) Gw22)
                have B66 := (Rd.gr (Rd.md (Rd.gr (Rd.gr (Rd.kz B35 Kw12 (tk1 ((pv_sw (pv_1 (A := (fun x => zp1 = 0 ∨ x ≠ gp1)) Fw8_1 (.inr (tk1 lt1.o)) (fun x hx => (tk1 lt1.o)))) : zp1 = 0 ∨ zy8 = 0 ∨ gp1 ≠ gy8))) Gw19) Gw20) Mw21 (tk1 ((pv_lt (A := (fun x => x ≠ b20)) lt1) : zp1 = 0 ∨ gp1 ≠ b20))) Gw22)
                have B67 := (Bx.gr (Bx.md (Bx.gr (Bx.gr (Bx.kz (Bx.kz (Bx.gr (Bx.kz (Bx.md (Bx.gr B10 Gw4) Mw5) Kw6) Gw7) Kw8 (tk1 ((.inr tk0) : 1 = 0 ∨ gw7 ≠ b1))) Kw12 (tk1 ((pv_1 (A := (fun x => x ≠ b1)) Fw8_1 (.inr tk0)) : zy8 = 0 ∨ gy8 ≠ b1))) Gw19) Gw20) Mw21) Gw22)
                have B68 := (Bx.gr (Bx.md (Bx.gr (Bx.gr (Bx.kz (Bx.kz B21 Kw8 (tk1 ((.inr tk0) : 1 = 0 ∨ gw7 ≠ b2))) Kw12 (tk1 ((pv_1 (A := (fun x => x ≠ b2)) Fw8_1 (.inr tk0)) : zy8 = 0 ∨ gy8 ≠ b2))) Gw19) Gw20) Mw21) Gw22)
                have B69 := (Bx.gr (Bx.md (Bx.gr (Bx.gr (Bx.kz (Bx.kz (Bx.gr (Bx.kz Bw5 Kw6) Gw7) Kw8 (tk1 ((.inr tk0) : 1 = 0 ∨ gw7 ≠ b4))) Kw12 (tk1 ((pv_1 (A := (fun x => x ≠ b4)) Fw8_1 (.inr tk0)) : zy8 = 0 ∨ gy8 ≠ b4))) Gw19) Gw20) Mw21) Gw22)
                have B70 := (Own.gr B61 Gw22)
                have B71 := (Own.gr (Own.md B59 Mw21 (tk1 ((pv_lt (A := (fun x => x ≠ b20)) lt56) : 1 = 0 ∨ gw19 ≠ b20))) Gw22)
                have B72 := (Bx.gr Bw21 Gw22)
                refine sw_rangeFunc (gf := 134) rfl en_134 (slices_Backward_1_c271_it x33 _ _ _ _ _ _ hl34 _ O22_c0_0 O22_c00_s) (by intro x hx; obtain ⟨a, _, rfl⟩ := List.mem_map.1 hx; rfl) rfl _ (fun _ _ _ _ => False) ([b20] ++ zf 1 gw19) (stb_mk (α := List (BitVec 64) × Value × Nat × Nat) (fun ⟨a37, vy38, zy38, gy38⟩ rk => itL (poly_Interpolate_R5 p0 p1) poly_Interpolate_D5 (List.drop rk l34) a37 = some r) (fun ⟨a37, vy38, zy38, gy38⟩ => ([b20] ++ zf zy38 gy38)) (fun ⟨a37, vy38, zy38, gy38⟩ W => Own W zy38 gy38 24 1 vy38 (a37.map uwc) ∧ Hdn (zy38 = 0 ∨ (gy38 = gw19 ∧ 1 ≠ 0) ∨ w22.heap.size ≤ gy38) ∧ Bx W b20 116 [vy38] ∧ True) (by rintro ⟨a37, vy38, zy38, gy38⟩ W ⟨F0, F1, F2, _⟩ b hb; have q0 := F0.lt; have q2 := F2.lt; replace hb : b ∈ ([b20] ++ zf zy38 gy38) := hb; simp only [List.mem_cons, List.mem_append, mem_zf, List.not_mem_nil, or_false, false_or, not_or, ne_eq, List.nil_append, List.cons_append, true_and, and_true, false_and, and_false, not_true_eq_false, not_false_eq_true, or_true, true_or] at hb; omega) (by rintro ⟨a37, vy38, zy38, gy38⟩ W W' ⟨F0, F1, F2, _⟩ E hs; replace hs : ∀ b ∈ ([b20] ++ zf zy38 gy38), W'.heap[b]? = W.heap[b]? := hs; exact ⟨Own.hs F0 hs (fun hz => by simp [mem_zf, hz]), F1, (hs _ (by simp)).trans F2, trivial⟩)) (fun _ => stb_false) (by intro b hb; have := ((pv_lt (A := (fun x => x ≠ k22_c0_0)) lt56) : 1 = 0 ∨ gw19 ≠ k22_c0_0); have := ((pv_sw (pv_1 (A := (fun x => 1 = 0 ∨ x ≠ gw19)) f22_c00_s (pv_sw (.inr (tk1 lt37.o))) (fun x hx => (tk1 lt56.o)))) : 1 = 0 ∨ z22_c00_s = 0 ∨ gw19 ≠ g22_c00_s); have := ((pv_1 (A := (fun x => x ≠ b20)) f22_c00_s (pv_lt (A := (fun x => x ≠ b20)) lt37)) : z22_c00_s = 0 ∨ g22_c00_s ≠ b20); have := lt63.o; simp only [List.mem_cons, List.mem_append, mem_zf, List.not_mem_nil, or_false, false_or, not_or, ne_eq, List.nil_append, List.cons_append, true_and, and_true, false_and, and_false, not_true_eq_false, not_false_eq_true, or_true, true_or] at hb ⊢; omega) ⟨⟨l32, vw19, 1, gw19⟩, hm, rfl, B71, ⟨tk0⟩, B72, trivial⟩ ?_ ?_ ?_
                · rintro l rk x fp w23 hl hx _ Kw23 hF hln hlt
                  clear hm
                  obtain ⟨⟨e39, e40⟩, hxe, rfl⟩ := map_some hx
                  have Zw23 : Kz [(1, b20), (1, gw19)] w22 w23 := kz_of_kp Kw23 (by intro k hk; simp only [Nin, and_true, List.mem_cons, List.mem_append, mem_zf, List.not_mem_nil, or_false, false_or, not_or, ne_eq, List.nil_append, List.cons_append, true_and, and_true, false_and, and_false, not_true_eq_false, not_false_eq_true, or_true, true_or] at hk ⊢; omega)
                  have z73 := Kw23.size
                  refine sw_seq ?_
                  -- region 21 poly.go:117
                  refine sw_region [(0, 0)] rfl rfl rfl ?_
                  refine sd_vv rfl rfl rfl (vv_assign rfl) ?_
                  refine sd_done ?_
                  -- region 22 poly.go:117
                  refine sw_region [(0, 0)] rfl rfl rfl ?_
                  refine sd_vv rfl rfl rfl (vv_assign rfl) ?_
                  refine sd_nil ?_
                  refine ⟨rfl, (Gr.refl _), ?_⟩
                  rintro w24 Mw24 ⟨⟨a37, vy38, zy38, gy38⟩, hm, rfl, Fw24_0, Fw24_1, Fw24_2, -⟩
                  have z74 := Mw24.size
                  have lt75 := Fw24_0.lth
                  have lt76 := Fw24_2.lt
                  replace hm := itL_at hm hxe
                  generalize hnx5 : itL (poly_Interpolate_R5 p0 p1) poly_Interpolate_D5 (List.drop (rk + 1) l34) = nx5 at hm
                  unfold poly_Interpolate_R5 at hm
                  try dsimp only at hm
                  refine sw_block ?_
                  refine sw_seq ?_
                  refine sw_seq ?_
                  -- region 23 poly.go:118
                  refine sw_region [(0, 0), (1, 0), (2, 0), (3, 0)] rfl rfl rfl ?_
                  refine sd_vv rfl rfl rfl (vv_load1 (v := vy38) one_116 rfl Fw24_2 rfl) ?_
                  refine sd_vv rfl rfl rfl (vv_lenT (l := a37) (c := uwc) Try.underlying116 rfl (Own.rd Fw24_0)) ?_
                  refine sd_vv rfl rfl rfl (vv_sub (k := .i64) (a := (a37.length : Int)) (b := 1) rfl rfl) ?_
                  refine sd_vv rfl rfl rfl (vv_assign rfl) ?_
                  refine sd_done ?_
                  refine sw_block ?_
                  have X77 : Gr w w24 := (Gr.md (Gr.kz X65 Zw23 (tk1 ((.inr tk0) : 1 = 0 ∨ w.heap.size ≤ gw19))) Mw24)
                  have B78 := (Rd.md (Rd.kz B66 Zw23 (tk2 ((pv_sw (.inr (tk1 lt1.o))) : zp1 = 0 ∨ 1 = 0 ∨ gp1 ≠ gw19) ((pv_lt (A := (fun x => x ≠ b20)) lt1) : zp1 = 0 ∨ gp1 ≠ b20))) Mw24 (tk1 ((pv_lt (A := (fun x => x ≠ l)) lt1) : zp1 = 0 ∨ gp1 ≠ l)))
                  have B79 := (Own.md (Own.kz B70 Zw23 (tk2 ((pv_sw (.inr (tk1 lt37.o))) : zy16 = 0 ∨ 1 = 0 ∨ gy16 ≠ gw19) ((pv_lt (A := (fun x => x ≠ b20)) lt37) : zy16 = 0 ∨ gy16 ≠ b20))) Mw24 (tk1 ((pv_lt (A := (fun x => x ≠ l)) lt37) : zy16 = 0 ∨ gy16 ≠ l)))
                  have B80 := (Rd.md (Rd.kz O22_c00_s Zw23 (tk2 ((pv_1 (A := (fun x => 1 = 0 ∨ x ≠ gw19)) f22_c00_s (pv_sw (.inr (tk1 lt37.o))) (fun x hx => (tk1 lt56.o))) : z22_c00_s = 0 ∨ 1 = 0 ∨ g22_c00_s ≠ gw19) ((pv_1 (A := (fun x => x ≠ b20)) f22_c00_s (pv_lt (A := (fun x => x ≠ b20)) lt37)) : z22_c00_s = 0 ∨ g22_c00_s ≠ b20))) Mw24 (tk1 ((pv_lt (A := (fun x => x ≠ l)) lt63) : z22_c00_s = 0 ∨ g22_c00_s ≠ l)))
                  refine sw_loopD (α := Nat × Int × List (BitVec 64) × Value × Nat × Nat) [15, 108, 109, 110, 111, 112, 113, 114, 115, 116, 117, 118, 119, 120, 121, 122, 123, 124, 125, 126, 127, 128, 129, 130, 131, 132, 133] (fun ⟨n6, a44, a45, vy46, zy46, gy46⟩ => [(15, .int .i64 a44)]) (fun ⟨n6, a44, a45, vy46, zy46, gy46⟩ wr => (fixN (poly_Interpolate_L6 p0 p1 nx5 e39 e40) n6 (a44, a45) = some r) ∧ Own wr zy46 gy46 24 1 vy46 (a45.map uwc) ∧ Hdn (zy46 = 0 ∨ (gy46 = gy38 ∧ zy38 ≠ 0) ∨ w24.heap.size ≤ gy46) ∧ Bx wr b20 116 [vy46] ∧ Kz [(1, b20), (zy38, gy38)] w24 wr) (fun ⟨n6, a44, a45, vy46, zy46, gy46⟩ => n6) ⟨FUEL, w64 ((a37.length : Int) - 1), a37, vy38, zy38, gy38⟩ ?_ ?_ ?_
                  · repeat' first | exact trivial | refine ⟨rfl, ?_⟩
                  · exact ⟨hm, Fw24_0, ⟨tk0⟩, Fw24_2, Kz.refl _ _⟩
                  · clear hm; rintro ⟨n6, a44, a45, vy46, zy46, gy46⟩ w25 ⟨hm, Fw25_0, Fw25_1, Fw25_2, Kw25⟩
                    have z81 := Kw25.size
                    have lt82 := Fw25_0.lth
                    have lt83 := Fw25_2.lt
                    have hb := fix_succ hm; clear hm; obtain ⟨n6, rfl, hm⟩ := hb
                    generalize hrec6 : fixN (poly_Interpolate_L6 p0 p1 nx5 e39 e40) n6 = rec6 at hm
                    unfold poly_Interpolate_L6 at hm
                    try dsimp only at hm
                    refine sw_seq ?_
                    refine sw_seq ?_
                    -- region 24 poly.go:118
                    refine sw_region [(0, 0), (1, 0)] rfl rfl rfl ?_
                    refine sd_vv rfl rfl rfl (vv_move rfl) ?_
                    refine sd_vv rfl rfl rfl (vv_gtr (a := a44) (b := 0) rfl rfl) ?_
                    refine sd_done ?_
                    refine sw_cond rfl (fun c6 => ?_) (fun c6 => ?_)
                    ·
                      replace hm := ite_t (of_decide_eq_true c6) hm
                      refine sw_skip ?_
                      refine then_n ?_
                      refine sw_seq ?_
                      refine sw_block ?_
                      -- region 26 poly.go:119 DRAWS
                      refine sw_drawN [([] ++ zf zy46 gy46), ([])] [(22, [1])] (.leaf [(0, 10), (1, 10), (2, 10), (3, 10), (4, 10), (5, 10), (6, 11), (7, 11), (8, 10), (9, 10), (10, 10), (11, 11), (12, 11), (13, 10), (14, 10), (15, 10), (16, 10), (17, 10), (18, 0), (19, 0), (20, 0), (21, 11), (22, 0)]) (by kernel_rfl) (by kernel_rfl) rfl (by kernel_rfl) ?_
                      intro w26 Gw26 zw26
                      refine sdz_leaf ?_
                      have B84 := (Bx.gr Fw25_2 Gw26)
                      refine dd_hn 0 rfl rfl rfl rfl (Kp.refl ([] ++ zf zy46 gy46) w26) (fun w hS => vv_load1 (v := vy46) one_116 rfl (Bx.kp B84 hS (tk1 ((pv_1 (A := (fun x => x ≠ b20)) Fw25_1 (pv_1 (A := (fun x => x ≠ b20)) Fw24_1 (pv_lt (A := (fun x => x ≠ b20)) lt56))) : zy46 = 0 ∨ gy46 ≠ b20))) rfl) ?_
                      refine dd_hn 0 rfl rfl rfl rfl (Kp.refl ([] ++ zf zy46 gy46) w26) (fun w hS => vv_move rfl) ?_
                      have B85 := (Bx.gr (Bx.kz (Bx.md (Bx.kz B69 Zw23 (tk1 ((.inr tk0) : 1 = 0 ∨ gw19 ≠ b4))) Mw24) Kw25 (tk1 ((pv_1 (A := (fun x => x ≠ b4)) Fw24_1 (.inr tk0)) : zy38 = 0 ∨ gy38 ≠ b4))) Gw26)
                      refine dd_hn 0 rfl rfl rfl rfl (Kp.refl ([] ++ zf zy46 gy46) w26) (fun w hS => vv_load1 (v := wv p0.Group.Q) one_119 rfl (Bx.kp B85 hS (tk1 ((pv_1 (A := (fun x => x ≠ b4)) Fw25_1 (pv_1 (A := (fun x => x ≠ b4)) Fw24_1 (.inr tk0))) : zy46 = 0 ∨ gy46 ≠ b4))) rfl) ?_
                      refine dd_hn 0 rfl rfl rfl rfl (Kp.refl ([] ++ zf zy46 gy46) w26) (fun w hS => vv_load1 (v := vy46) one_116 rfl (Bx.kp B84 hS (tk1 ((pv_1 (A := (fun x => x ≠ b20)) Fw25_1 (pv_1 (A := (fun x => x ≠ b20)) Fw24_1 (pv_lt (A := (fun x => x ≠ b20)) lt56))) : zy46 = 0 ∨ gy46 ≠ b20))) rfl) ?_
                      refine dd_hn 0 rfl rfl rfl rfl (Kp.refl ([] ++ zf zy46 gy46) w26) (fun w hS => vv_move rfl) ?_
                      refine dd_hn 0 rfl rfl rfl rfl (Kp.refl ([] ++ zf zy46 gy46) w26) (fun w hS => vv_sub (k := .i64) (a := a44) (b := 1) rfl rfl) ?_
                      have hb := bnd hm; clear hm; obtain ⟨y47, hy47, hm⟩ := hb
                      have B86 := (Own.gr Fw25_0 Gw26)
                      refine dd_hn 1 rfl rfl rfl rfl (Kp.refl ([]) w26) (fun w hS => vv_ixT (i := w64 (a44 - 1)) Try.underlying116 (one_24).siz rfl (Own.rd (Own.kp B86 hS)) rfl hy47) ?_
                      refine dd_hn 1 rfl rfl rfl rfl (Kp.refl ([]) w26) (fun w hS => vv_el1T (q := 0) (u := wv y47) one_24 rfl (Own.rd (Own.kp B86 hS)) hy47 (by first | rfl | omega) rfl) ?_
                      refine dd_hn 0 rfl rfl rfl rfl (Kp.refl ([] ++ zf zy46 gy46) w26) (fun w hS => vv_load1 (v := wv p0.Group.Q) one_119 rfl (Bx.kp B85 hS (tk1 ((pv_1 (A := (fun x => x ≠ b4)) Fw25_1 (pv_1 (A := (fun x => x ≠ b4)) Fw24_1 (.inr tk0))) : zy46 = 0 ∨ gy46 ≠ b4))) rfl) ?_
                      refine dd_hn 0 rfl rfl rfl rfl (Kp.refl ([] ++ zf zy46 gy46) w26) (fun w hS => vv_load1 (v := vy46) one_116 rfl (Bx.kp B84 hS (tk1 ((pv_1 (A := (fun x => x ≠ b20)) Fw25_1 (pv_1 (A := (fun x => x ≠ b20)) Fw24_1 (pv_lt (A := (fun x => x ≠ b20)) lt56))) : zy46 = 0 ∨ gy46 ≠ b20))) rfl) ?_
                      refine dd_hn 0 rfl rfl rfl rfl (Kp.refl ([] ++ zf zy46 gy46) w26) (fun w hS => vv_move rfl) ?_
                      have hb := bnd hm; clear hm; obtain ⟨y48, hy48, hm⟩ := hb
                      refine dd_hn 1 rfl rfl rfl rfl (Kp.refl ([]) w26) (fun w hS => vv_ixT (i := a44) Try.underlying116 (one_24).siz rfl (Own.rd (Own.kp B86 hS)) rfl hy48) ?_
                      refine dd_hn 1 rfl rfl rfl rfl (Kp.refl ([]) w26) (fun w hS => vv_el1T (q := 0) (u := wv y48) one_24 rfl (Own.rd (Own.kp B86 hS)) hy48 (by first | rfl | omega) rfl) ?_
                      have B87 := (Bx.gr (Bx.kz (Bx.md (Bx.kz B68 Zw23 (tk1 ((.inr tk0) : 1 = 0 ∨ gw19 ≠ b2))) Mw24) Kw25 (tk1 ((pv_1 (A := (fun x => x ≠ b2)) Fw24_1 (.inr tk0)) : zy38 = 0 ∨ gy38 ≠ b2))) Gw26)
                      refine dd_hn 0 rfl rfl rfl rfl (Kp.refl ([] ++ zf zy46 gy46) w26) (fun w hS => vv_load1 (v := vp1) one_43 rfl (Bx.kp B87 hS (tk1 ((pv_1 (A := (fun x => x ≠ b2)) Fw25_1 (pv_1 (A := (fun x => x ≠ b2)) Fw24_1 (.inr tk0))) : zy46 = 0 ∨ gy46 ≠ b2))) rfl) ?_
                      refine dd_hn 0 rfl rfl rfl rfl (Kp.refl ([] ++ zf zy46 gy46) w26) (fun w hS => vv_move rfl) ?_
                      have hb := bnd hm; clear hm; obtain ⟨y49, hy49, hm⟩ := hb
                      have B88 := (Rd.gr (Rd.kz B78 Kw25 (tk2 ((pv_sw (pv_1 (A := (fun x => zp1 = 0 ∨ x ≠ gp1)) Fw24_1 (.inr (tk1 lt1.o)) (fun x hx => (tk1 lt1.o)))) : zp1 = 0 ∨ zy38 = 0 ∨ gp1 ≠ gy38) ((pv_lt (A := (fun x => x ≠ b20)) lt1) : zp1 = 0 ∨ gp1 ≠ b20))) Gw26)
                      refine dd_hn 0 rfl rfl rfl rfl (Kp.refl ([] ++ zf zy46 gy46) w26) (fun w hS => vv_ixT (i := e39) Try.underlying43 (agg_31).siz rfl (Rd.kp B88 hS (tk1 ((pv_sw (pv_1 (A := (fun x => zp1 = 0 ∨ x ≠ gp1)) Fw25_1 (pv_1 (A := (fun x => zp1 = 0 ∨ x ≠ gp1)) Fw24_1 (.inr (tk1 lt1.o)) (fun x hx => (tk1 lt1.o))) (fun x hx => (tk1 lt1.o)))) : zp1 = 0 ∨ zy46 = 0 ∨ gp1 ≠ gy46))) rfl hy49) ?_
                      refine dd_hn 0 rfl rfl rfl rfl (Kp.refl ([] ++ zf zy46 gy46) w26) (fun w hS => vv_fieldAddr fa_31_0 rfl) ?_
                      refine dd_hn 0 rfl rfl rfl rfl (Kp.refl ([] ++ zf zy46 gy46) w26) (fun w hS => vv_el1T (q := 0) (u := wv y49.X) one_24 rfl (Rd.kp B88 hS (tk1 ((pv_sw (pv_1 (A := (fun x => zp1 = 0 ∨ x ≠ gp1)) Fw25_1 (pv_1 (A := (fun x => zp1 = 0 ∨ x ≠ gp1)) Fw24_1 (.inr (tk1 lt1.o)) (fun x hx => (tk1 lt1.o))) (fun x hx => (tk1 lt1.o)))) : zp1 = 0 ∨ zy46 = 0 ∨ gp1 ≠ gy46))) hy49 (by first | rfl | omega) rfl) ?_
                      refine dd_z [] rfl rfl rfl (ev_litT [y48, y49.X] uwc bsl_60_2 rfl rfl (ws_of rfl) rfl rfl rfl) ⟨fun _ => tk0, fun _ => tk0, trivial⟩ ?_
                      rintro vw27 w27 ⟨gw27, hbw27, Ow27, Gw27⟩
                      have z89 := Gw27.size
                      have lt90 := Ow27.lth
                      refine ⟨Kz.ofGr Gw27, ?_⟩
                      have hb := bnd hm; clear hm; obtain ⟨x50, hx50, hm⟩ := hb
                      refine dd_z [] rfl rfl rfl (ev_call en_76 rfl (poly_field_mul_w p0.Group.Q [y48, y49.X] _ _ _ _ _ hx50 _ (Own.rd Ow27))) ⟨fun _ => tk0, fun _ => tk0, trivial⟩ ?_
                      rintro _ w28 ⟨rfl, Gw28⟩
                      have z91 := Gw28.size
                      refine ⟨Kz.ofGr Gw28, ?_⟩
                      have hb := bnd hm; clear hm; obtain ⟨x51, hx51, hm⟩ := hb
                      refine dd_z [] rfl rfl rfl (ev_call en_77 rfl (poly_field_sub_w p0.Group.Q y47 x50 _ hx51 _)) ⟨fun _ => tk0, fun _ => tk0, trivial⟩ ?_
                      rintro _ w29 ⟨rfl, Gw29⟩
                      have z92 := Gw29.size
                      refine ⟨Kz.ofGr Gw29, ?_⟩
                      have hb := bnd hm; clear hm; obtain ⟨y52, hy52, hm⟩ := hb
                      have S93 := (Kp.gr (Kp.gr (Kp.gr (Kp.refl ([]) w26) Gw27) Gw28) Gw29)
                      refine dd_hn 1 rfl rfl rfl rfl S93 (fun w hS => vv_ixT (i := a44) Try.underlying116 (one_24).siz rfl (Own.rd (Own.kp B86 hS)) rfl hy52) ?_
                      have B94 := (Own.gr (Own.gr (Own.gr B86 Gw27) Gw28) Gw29)
                      have zo95 := Own.z1 B94 hy52
                      refine dd_z [(1, gy46)] rfl rfl rfl (ev_stEl (i := a44) (q := 0) (a' := x51) (vs := [wv x51]) (c := uwc) (one_24).siz rfl rfl rfl rfl rfl B94 hy52 (by first | rfl | omega) rfl rfl ⟨rfl, rfl⟩) ⟨fun _ => (tk1 (tk0 : zy46 = 0 ∨ (gy46 = gy46 ∧ zy46 ≠ 0) ∨ w26.heap.size ≤ gy46)), nofun, trivial⟩ ?_
                      rintro _ w30 ⟨Ow30, Mw30⟩
                      have z96 := Mw30.size
                      refine ⟨Kz.ofMd Mw30, ?_⟩
                      refine sd_nil ?_
                      refine block_n ?_
                      refine then_n ?_
                      -- region 25 poly.go:118
                      refine sw_region [(0, 0), (1, 0), (2, 0)] rfl rfl rfl ?_
                      refine sd_vv rfl rfl rfl (vv_move rfl) ?_
                      refine sd_vv rfl rfl rfl (vv_sub (k := .i64) (a := a44) (b := 1) rfl rfl) ?_
                      refine sd_vv rfl rfl rfl (vv_assign rfl) ?_
                      refine sd_nil ?_
                      have K_97 : Kz [(1, b20), (zy38, gy38)] w24 w30 := (Kz.md (Kz.gr (Kz.gr (Kz.gr (Kz.gr Kw25 Gw26) Gw27) Gw28) Gw29) Mw30 (tk1 ((pv_1 (A := (fun x => (x = gy38 ∧ zy38 ≠ 0) ∨ w24.heap.size ≤ x)) Fw25_1 tk0) : zy46 = 0 ∨ (gy46 = gy38 ∧ zy38 ≠ 0) ∨ w24.heap.size ≤ gy46)))
                      have B98 := (Bx.md (Bx.gr (Bx.gr (Bx.gr B84 Gw27) Gw28) Gw29) Mw30 (tk1 ((pv_1 (A := (fun x => x ≠ b20)) Fw25_1 (pv_1 (A := (fun x => x ≠ b20)) Fw24_1 (pv_lt (A := (fun x => x ≠ b20)) lt56))) : zy46 = 0 ∨ gy46 ≠ b20)))
                      subst hrec6
                      refine ⟨rfl, ⟨n6, w64 (a44 - 1), a45.set a44.toNat x51, vy46, zy46, gy46⟩, ?_, ⟨hm, Ow30, ⟨(pv_1 (A := (fun x => (x = gy38 ∧ zy38 ≠ 0) ∨ w24.heap.size ≤ x)) Fw25_1 tk0)⟩, B98, K_97⟩, Nat.lt_succ_self _⟩
                      repeat' first | exact trivial | refine ⟨rfl, ?_⟩
                    ·
                      replace hm := ite_f (of_decide_eq_false c6) hm
                      refine sw_exit ?_
                      refine then_x ?_
                      refine then_x ?_
                      refine block_x ?_
                      refine then_n ?_
                      -- region 27 poly.go:121 DRAWS
                      refine sw_drawN [([] ++ zf zy46 gy46), ([])] [(16, [1])] (.leaf [(0, 10), (1, 10), (2, 10), (3, 10), (4, 10), (5, 11), (6, 11), (7, 10), (8, 10), (9, 10), (10, 10), (11, 10), (12, 0), (13, 0), (14, 0), (15, 11), (16, 0)]) (by kernel_rfl) (by kernel_rfl) rfl (by kernel_rfl) ?_
                      intro w31 Gw31 zw31
                      refine sdz_leaf ?_
                      have B99 := (Bx.gr Fw25_2 Gw31)
                      refine dd_hn 0 rfl rfl rfl rfl (Kp.refl ([] ++ zf zy46 gy46) w31) (fun w hS => vv_load1 (v := vy46) one_116 rfl (Bx.kp B99 hS (tk1 ((pv_1 (A := (fun x => x ≠ b20)) Fw25_1 (pv_1 (A := (fun x => x ≠ b20)) Fw24_1 (pv_lt (A := (fun x => x ≠ b20)) lt56))) : zy46 = 0 ∨ gy46 ≠ b20))) rfl) ?_
                      have B100 := (Bx.gr (Bx.kz (Bx.md (Bx.kz B69 Zw23 (tk1 ((.inr tk0) : 1 = 0 ∨ gw19 ≠ b4))) Mw24) Kw25 (tk1 ((pv_1 (A := (fun x => x ≠ b4)) Fw24_1 (.inr tk0)) : zy38 = 0 ∨ gy38 ≠ b4))) Gw31)
                      refine dd_hn 0 rfl rfl rfl rfl (Kp.refl ([] ++ zf zy46 gy46) w31) (fun w hS => vv_load1 (v := wv p0.Group.Q) one_119 rfl (Bx.kp B100 hS (tk1 ((pv_1 (A := (fun x => x ≠ b4)) Fw25_1 (pv_1 (A := (fun x => x ≠ b4)) Fw24_1 (.inr tk0))) : zy46 = 0 ∨ gy46 ≠ b4))) rfl) ?_
                      refine dd_hn 0 rfl rfl rfl rfl (Kp.refl ([] ++ zf zy46 gy46) w31) (fun w hS => vv_move rfl) ?_
                      refine dd_hn 0 rfl rfl rfl rfl (Kp.refl ([] ++ zf zy46 gy46) w31) (fun w hS => vv_load1 (v := wv p0.Group.Q) one_119 rfl (Bx.kp B100 hS (tk1 ((pv_1 (A := (fun x => x ≠ b4)) Fw25_1 (pv_1 (A := (fun x => x ≠ b4)) Fw24_1 (.inr tk0))) : zy46 = 0 ∨ gy46 ≠ b4))) rfl) ?_
                      refine dd_hn 0 rfl rfl rfl rfl (Kp.refl ([] ++ zf zy46 gy46) w31) (fun w hS => vv_load1 (v := vy46) one_116 rfl (Bx.kp B99 hS (tk1 ((pv_1 (A := (fun x => x ≠ b20)) Fw25_1 (pv_1 (A := (fun x => x ≠ b20)) Fw24_1 (pv_lt (A := (fun x => x ≠ b20)) lt56))) : zy46 = 0 ∨ gy46 ≠ b20))) rfl) ?_
                      have hb := bnd hm; clear hm; obtain ⟨y53, hy53, hm⟩ := hb
                      have B101 := (Own.gr Fw25_0 Gw31)
                      refine dd_hn 1 rfl rfl rfl rfl (Kp.refl ([]) w31) (fun w hS => vv_ixT (i := 0) Try.underlying116 (one_24).siz rfl (Own.rd (Own.kp B101 hS)) rfl hy53) ?_
                      refine dd_hn 1 rfl rfl rfl rfl (Kp.refl ([]) w31) (fun w hS => vv_el1T (q := 0) (u := wv y53) one_24 rfl (Own.rd (Own.kp B101 hS)) hy53 (by first | rfl | omega) rfl) ?_
                      have B102 := (Bx.gr (Bx.kz (Bx.md (Bx.kz B68 Zw23 (tk1 ((.inr tk0) : 1 = 0 ∨ gw19 ≠ b2))) Mw24) Kw25 (tk1 ((pv_1 (A := (fun x => x ≠ b2)) Fw24_1 (.inr tk0)) : zy38 = 0 ∨ gy38 ≠ b2))) Gw31)
                      refine dd_hn 0 rfl rfl rfl rfl (Kp.refl ([] ++ zf zy46 gy46) w31) (fun w hS => vv_load1 (v := vp1) one_43 rfl (Bx.kp B102 hS (tk1 ((pv_1 (A := (fun x => x ≠ b2)) Fw25_1 (pv_1 (A := (fun x => x ≠ b2)) Fw24_1 (.inr tk0))) : zy46 = 0 ∨ gy46 ≠ b2))) rfl) ?_
                      refine dd_hn 0 rfl rfl rfl rfl (Kp.refl ([] ++ zf zy46 gy46) w31) (fun w hS => vv_move rfl) ?_
                      have hb := bnd hm; clear hm; obtain ⟨y54, hy54, hm⟩ := hb
                      have B103 := (Rd.gr (Rd.kz B78 Kw25 (tk2 ((pv_sw (pv_1 (A := (fun x => zp1 = 0 ∨ x ≠ gp1)) Fw24_1 (.inr (tk1 lt1.o)) (fun x hx => (tk1 lt1.o)))) : zp1 = 0 ∨ zy38 = 0 ∨ gp1 ≠ gy38) ((pv_lt (A := (fun x => x ≠ b20)) lt1) : zp1 = 0 ∨ gp1 ≠ b20))) Gw31)
                      refine dd_hn 0 rfl rfl rfl rfl (Kp.refl ([] ++ zf zy46 gy46) w31) (fun w hS => vv_ixT (i := e39) Try.underlying43 (agg_31).siz rfl (Rd.kp B103 hS (tk1 ((pv_sw (pv_1 (A := (fun x => zp1 = 0 ∨ x ≠ gp1)) Fw25_1 (pv_1 (A := (fun x => zp1 = 0 ∨ x ≠ gp1)) Fw24_1 (.inr (tk1 lt1.o)) (fun x hx => (tk1 lt1.o))) (fun x hx => (tk1 lt1.o)))) : zp1 = 0 ∨ zy46 = 0 ∨ gp1 ≠ gy46))) rfl hy54) ?_
                      refine dd_hn 0 rfl rfl rfl rfl (Kp.refl ([] ++ zf zy46 gy46) w31) (fun w hS => vv_fieldAddr fa_31_0 rfl) ?_
                      refine dd_hn 0 rfl rfl rfl rfl (Kp.refl ([] ++ zf zy46 gy46) w31) (fun w hS => vv_el1T (q := 0) (u := wv y54.X) one_24 rfl (Rd.kp B103 hS (tk1 ((pv_sw (pv_1 (A := (fun x => zp1 = 0 ∨ x ≠ gp1)) Fw25_1 (pv_1 (A := (fun x => zp1 = 0 ∨ x ≠ gp1)) Fw24_1 (.inr (tk1 lt1.o)) (fun x hx => (tk1 lt1.o))) (fun x hx => (tk1 lt1.o)))) : zp1 = 0 ∨ zy46 = 0 ∨ gp1 ≠ gy46))) hy54 (by first | rfl | omega) rfl) ?_
                      refine dd_z [] rfl rfl rfl (ev_litT [y53, y54.X] uwc bsl_60_2 rfl rfl (ws_of rfl) rfl rfl rfl) ⟨fun _ => tk0, fun _ => tk0, trivial⟩ ?_
                      rintro vw32 w32 ⟨gw32, hbw32, Ow32, Gw32⟩
                      have z104 := Gw32.size
                      have lt105 := Ow32.lth
                      refine ⟨Kz.ofGr Gw32, ?_⟩
                      have hb := bnd hm; clear hm; obtain ⟨x55, hx55, hm⟩ := hb
                      refine dd_z [] rfl rfl rfl (ev_call en_76 rfl (poly_field_mul_w p0.Group.Q [y53, y54.X] _ _ _ _ _ hx55 _ (Own.rd Ow32))) ⟨fun _ => tk0, fun _ => tk0, trivial⟩ ?_
                      rintro _ w33 ⟨rfl, Gw33⟩
                      have z106 := Gw33.size
                      refine ⟨Kz.ofGr Gw33, ?_⟩
                      have hb := bnd hm; clear hm; obtain ⟨x56, hx56, hm⟩ := hb
                      refine dd_z [] rfl rfl rfl (ev_call en_77 rfl (poly_field_sub_w p0.Group.Q e40 x55 _ hx56 _)) ⟨fun _ => tk0, fun _ => tk0, trivial⟩ ?_
                      rintro _ w34 ⟨rfl, Gw34⟩
                      have z107 := Gw34.size
                      refine ⟨Kz.ofGr Gw34, ?_⟩
                      have hb := bnd hm; clear hm; obtain ⟨y57, hy57, hm⟩ := hb
                      have S108 := (Kp.gr (Kp.gr (Kp.gr (Kp.refl ([]) w31) Gw32) Gw33) Gw34)
                      refine dd_hn 1 rfl rfl rfl rfl S108 (fun w hS => vv_ixT (i := 0) Try.underlying116 (one_24).siz rfl (Own.rd (Own.kp B101 hS)) rfl hy57) ?_
                      have B109 := (Own.gr (Own.gr (Own.gr B101 Gw32) Gw33) Gw34)
                      have zo110 := Own.z1 B109 hy57
                      refine dd_z [(1, gy46)] rfl rfl rfl (ev_stEl (i := 0) (q := 0) (a' := x56) (vs := [wv x56]) (c := uwc) (one_24).siz rfl rfl rfl rfl rfl B109 hy57 (by first | rfl | omega) rfl rfl ⟨rfl, rfl⟩) ⟨fun _ => (tk1 (tk0 : zy46 = 0 ∨ (gy46 = gy46 ∧ zy46 ≠ 0) ∨ w31.heap.size ≤ gy46)), nofun, trivial⟩ ?_
                      rintro _ w35 ⟨Ow35, Mw35⟩
                      have z111 := Mw35.size
                      refine ⟨Kz.ofMd Mw35, ?_⟩
                      refine sd_nil ?_
                      refine block_n ?_
                      have B113 := (Bx.md (Bx.gr (Bx.gr (Bx.gr B99 Gw32) Gw33) Gw34) Mw35 (tk1 ((pv_1 (A := (fun x => x ≠ b20)) Fw25_1 (pv_1 (A := (fun x => x ≠ b20)) Fw24_1 (pv_lt (A := (fun x => x ≠ b20)) lt56))) : zy46 = 0 ∨ gy46 ≠ b20)))
                      have K_112 : Kz [(1, b20), (zy38, gy38)] w24 w35 := (Kz.md (Kz.gr (Kz.gr (Kz.gr (Kz.gr (Kz.kz (Kz.refl _ _) Kw25 (tk1 (tk0 : zy38 = 0 ∨ (gy38 = gy38 ∧ zy38 ≠ 0) ∨ w24.heap.size ≤ gy38))) Gw31) Gw32) Gw33) Gw34) Mw35 (tk1 ((pv_1 (A := (fun x => (x = gy38 ∧ zy38 ≠ 0) ∨ w24.heap.size ≤ x)) Fw25_1 tk0) : zy46 = 0 ∨ (gy46 = gy38 ∧ zy38 ≠ 0) ∨ w24.heap.size ≤ gy46)))
                      have Kq112 : Kp ([b20] ++ zf zy38 gy38) w24 w35 := kp_of_kz K_112 (by intro k hk; simp only [Nin, and_true, List.mem_cons, List.mem_append, mem_zf, List.not_mem_nil, or_false, false_or, not_or, ne_eq, List.nil_append, List.cons_append, true_and, and_true, false_and, and_false, not_true_eq_false, not_false_eq_true, or_true, true_or] at hk ⊢; omega)
                      subst hnx5
                      exact ⟨Kq112, ([b20] ++ zf zy46 gy46), (by intro c hc; have := ((pv_1 (A := (fun x => (x = gy38 ∧ zy38 ≠ 0) ∨ w24.heap.size ≤ x)) Fw25_1 tk0) : zy46 = 0 ∨ (gy46 = gy38 ∧ zy38 ≠ 0) ∨ w24.heap.size ≤ gy46); simp only [List.mem_cons, List.mem_append, mem_zf, List.not_mem_nil, or_false, false_or, not_or, ne_eq, List.nil_append, List.cons_append, true_and, and_true, false_and, and_false, not_true_eq_false, not_false_eq_true, or_true, true_or] at hc ⊢; omega), ⟨⟨a45.set (0 : Int).toNat x56, vy46, zy46, gy46⟩, hm, rfl, Ow35, ⟨(pv_1 (A := (fun x => (x = gw19 ∧ 1 ≠ 0) ∨ w22.heap.size ≤ x)) Fw25_1 (pv_1 (A := (fun x => (x = gw19 ∧ 1 ≠ 0) ∨ w22.heap.size ≤ x)) Fw24_1 tk0))⟩, B113, trivial⟩⟩
                · clear hm; rintro Dw36 fp w36 hDw36 Dfw36 nw36 ⟨⟨a37, vy38, zy38, gy38⟩, hm, rfl, Fw36_0, Fw36_1, Fw36_2, -⟩ Kw36
                  replace hm := itL_end hm
                  have Zw36 : Kz [(1, b20), (1, gw19)] w22 w36 := kz_of_kp Kw36 (by intro k hk; simp only [Nin, and_true, List.mem_cons, List.mem_append, mem_zf, List.not_mem_nil, or_false, false_or, not_or, ne_eq, List.nil_append, List.cons_append, true_and, and_true, false_and, and_false, not_true_eq_false, not_false_eq_true, or_true, true_or] at hk ⊢; omega)
                  have z114 := Kw36.size
                  have lt115 := Df.lt (w := w36) Dfw36
                  simp only [List.mem_cons, List.mem_append, mem_zf, List.not_mem_nil, or_false, false_or, not_or, ne_eq, List.nil_append, List.cons_append, true_and, and_true, false_and, and_false, not_true_eq_false, not_false_eq_true, or_true, true_or, not_and] at nw36
                  have lt116 := Fw36_0.lth
                  have lt117 := Fw36_2.lt
                  unfold poly_Interpolate_D5 at hm
                  try dsimp only at hm
                  refine block_n ?_
                  refine then_n ?_
                  refine sw_seq ?_
                  -- region 28 poly.go:123
                  refine sw_region [(0, 0), (1, 0), (2, 0)] rfl rfl rfl ?_
                  refine sd_vv rfl rfl rfl (vv_load1 (v := vy38) one_116 rfl Fw36_2 rfl) ?_
                  refine sd_vv rfl rfl rfl (vv_assign rfl) ?_
                  refine sd_vv rfl rfl rfl (vv_assign rfl) ?_
                  refine sd_done ?_
                  refine sw_ret ?_
                  have DL118 := Dfw36
                  have L118 := Md.put (w := w36) Dw36 (.deferred none)
                  have zL118 := L118.size
                  have B119 := (Own.md Fw36_0 L118)
                  have X120 : Gr w (w36.putObj Dw36 (.deferred none)) := (Gr.md (Gr.kz X65 Zw36 (tk1 ((.inr tk0) : 1 = 0 ∨ w.heap.size ≤ gw19))) L118)
                  have hr := Option.some.inj hm
                  subst hr
                  refine ⟨_, _, ⟨Dw36, rfl, DL118, rfl⟩, res_2 rfl (rv_tmp rfl) (rv_tmp rfl), ?_⟩
                  exact ⟨vy38, zy38, gy38, rfl, B119, ⟨(pv_1 (A := (fun x => w.heap.size ≤ x)) Fw36_1 (.inr tk0))⟩, X120⟩
                · rintro _ _ _ _ _ _ _ _ _ h _
                  exact h.elim
    ·
      -- region 4 poly.go:103
      refine sw_region [(0, 0), (1, 0), (2, 0), (3, 0), (4, 0), (5, 0), (6, 0), (7, 0), (8, 0), (9, 0), (10, 0), (11, 0), (12, 0), (13, 0), (14, 0), (15, 0)] rfl rfl rfl ?_
      have B121 := (Bx.md (Bx.gr (Bx.gr Bw2 Gw3) Gw4) Mw5)
      refine sd_vv rfl rfl rfl (vv_load1 (v := vp1) one_43 rfl B121 rfl) ?_
      have B122 := (Rd.md (Rd.gr (Rd.gr (Rd.gr B4 Gw2) Gw3) Gw4) Mw5 (tk1 ((pv_lt (A := (fun x => x ≠ b4)) lt1) : zp1 = 0 ∨ gp1 ≠ b4)))
      refine sd_vv rfl rfl rfl (vv_lenT (l := p1) (c := TPoint.cs) Try.underlying43 rfl B122) ?_
      refine sd_vv rfl rfl rfl (vv_fieldAddr fa_28_2 rfl) ?_
      have B123 := (Bx.md (Bx.gr B10 Gw4) Mw5)
      refine sd_vv rfl rfl rfl (vv_load1 (v := .int .i64 p0.Degree) one_3 rfl B123 rfl) ?_
      refine sd_vv rfl rfl rfl (vv_add (k := .i64) (a := p0.Degree) (b := 1) rfl rfl) ?_
      refine sd_vv rfl rfl rfl (vv_neq (a := (p1.length : Int)) (b := w64 (p0.Degree + 1)) rfl rfl) ?_
      refine sd_split rfl rfl rfl (vv_move rfl) (fun c7 => ?_) (fun c7 => ?_)
      ·
        replace hm := ite_t (of_decide_eq_true c7) hm
        refine sd_skip rfl rfl rfl ?_
        refine sd_skip rfl rfl rfl ?_
        refine sd_skip rfl rfl rfl ?_
        refine sd_vv rfl rfl rfl (vv_pickT rfl rfl) ?_
        refine sd_vv rfl rfl rfl (vv_move rfl) ?_
        refine sd_skip rfl rfl rfl ?_
        refine sd_skip rfl rfl rfl ?_
        refine sd_skip rfl rfl rfl ?_
        refine sd_vv rfl rfl rfl (vv_pickT rfl rfl) ?_
        refine sd_nil ?_
        have K_124 : Kz [] w5 w5 := (Kz.refl _ _)
        refine ⟨rfl, true, ?_, hm, K_124⟩
        repeat' first | exact trivial | refine ⟨rfl, ?_⟩
      ·
        replace hm := ite_f (of_decide_eq_false c7) hm
        refine sd_vv rfl rfl rfl (vv_load1 (v := vp1) one_43 rfl B121 rfl) ?_
        refine sd_vv rfl rfl rfl (vv_makeFunc rfl rfl) ?_
        have hb := bnd hm; clear hm; obtain ⟨x58, hx58, hm⟩ := hb
        refine sd_ev rfl rfl rfl (ev_call en_89 rfl (slices_ContainsFunc_9e39_poly_Interpolate_1_w p1 p0 _ _ _ _ _ _ hx58 _ B122 B123)) ?_
        rintro _ w37 ⟨rfl, Gw37⟩
        have z125 := Gw37.size
        refine sd_vv rfl rfl rfl (vv_pickF rfl rfl) ?_
        refine sd_split rfl rfl rfl (vv_move rfl) (fun c8 => ?_) (fun c8 => ?_)
        ·
          replace hm := cnd_t c8 hm
          refine sd_skip rfl rfl rfl ?_
          refine sd_skip rfl rfl rfl ?_
          refine sd_skip rfl rfl rfl ?_
          refine sd_vv rfl rfl rfl (vv_pickT rfl rfl) ?_
          refine sd_nil ?_
          have K_126 : Kz [] w5 w37 := (Kz.gr (Kz.refl _ _) Gw37)
          refine ⟨rfl, true, ?_, hm, K_126⟩
          repeat' first | exact trivial | refine ⟨rfl, ?_⟩
        ·
          replace hm := cnd_f c8 hm
          have B127 := (Bx.gr B121 Gw37)
          refine sd_vv rfl rfl rfl (vv_load1 (v := vp1) one_43 rfl B127 rfl) ?_
          have B128 := (Rd.gr B122 Gw37)
          have hb := bnd hm; clear hm; obtain ⟨x59, hx59, hm⟩ := hb
          refine sd_ev rfl rfl rfl (ev_call en_75 rfl (poly_distinct_w p1 _ _ _ _ _ hx59 _ B128)) ?_
          rintro _ w38 ⟨rfl, Gw38⟩
          have z129 := Gw38.size
          refine sd_vv rfl rfl rfl (vv_not rfl) ?_
          refine sd_vv rfl rfl rfl (vv_pickF rfl rfl) ?_
          refine sd_nil ?_
          have K_130 : Kz [] w5 w38 := (Kz.gr (Kz.gr (Kz.refl _ _) Gw37) Gw38)
          refine ⟨rfl, (!x59), ?_, hm, K_130⟩
          repeat' first | exact trivial | refine ⟨rfl, ?_⟩
end Go.Proofs.Ytkdghilkigojgaa.Mx
