/- Walks that follow mirrors: Wl. Printed by mx.py. -/
import Derived.Test.YtjdffpglgkefmaaGreatWk
import Derived.Test.YtjdffpglgkefmaaGreatWlM
set_option linter.unusedVariables false
set_option linter.unusedSimpArgs false
set_option maxRecDepth 100000
namespace Go.Proofs.YtjdffpglgkefmaaGreat.Mx
open Go Go.RowKit Go.Sx
theorem fa_26_0 : FA Tryz.prog 26 0 0 := fun _ _ _ => by kernel_rfl
theorem en_234 : En Tryz.prog 234 := fun _ _ => by kernel_rfl
theorem fa_26_1 : FA Tryz.prog 26 1 1 := fun _ _ _ => by kernel_rfl
theorem fa_26_2 : FA Tryz.prog 26 2 2 := fun _ _ _ => by kernel_rfl
theorem en_235 : En Tryz.prog 235 := fun _ _ => by kernel_rfl
theorem en_179 : En Tryz.prog 179 := fun _ _ => by kernel_rfl
theorem en_98 : En Tryz.prog 98 := fun _ _ => by kernel_rfl
theorem apt_161 : ApT Tryz.prog 161 24 1 8 := apt_mk Tryz.underlying161 rfl (by kernel_rfl)
theorem zv_24 : ZV Tryz.prog 24 (.int .u64 0) := fun _ => by kernel_rfl
theorem zv_233 : ZV Tryz.prog 233 (.agg [.int .u64 0, .int .u64 0].toArray) := fun _ => by kernel_rfl
theorem fa_233_0 : FA Tryz.prog 233 0 0 := fun _ _ _ => by kernel_rfl
theorem cv_5_24 : CV Tryz.prog 5 24 .u64 := fun _ _ _ => by kernel_rfl
theorem fa_233_1 : FA Tryz.prog 233 1 1 := fun _ _ _ => by kernel_rfl
theorem agg_233 : Agg Tryz.prog 233 2 := fun _ => ⟨by kernel_rfl, by kernel_rfl⟩
theorem en_175 : En Tryz.prog 175 := fun _ _ => by kernel_rfl
theorem f1_233_0 : F1 Tryz.prog 233 0 0 := f1_mk (fun _ _ => by kernel_rfl)
theorem en_100 : En Tryz.prog 100 := fun _ _ => by kernel_rfl
theorem en_181 : En Tryz.prog 181 := fun _ _ => by kernel_rfl
theorem one_161 : One Tryz.prog 161 := fun _ => ⟨by kernel_rfl, by kernel_rfl⟩
theorem one_163 : One Tryz.prog 163 := fun _ => ⟨by kernel_rfl, by kernel_rfl⟩
theorem bsl_160_2 : BSl Tryz.prog 160 2 24 1 [.int .u64 0, .int .u64 0] := bsl_mk Tryz.underlying160 (one_24).siz zv_24 rfl rfl (by kernel_rfl)
theorem en_108 : En Tryz.prog 108 := fun _ _ => by kernel_rfl
theorem en_237 : En Tryz.prog 237 := fun _ _ => by kernel_rfl
theorem en_99 : En Tryz.prog 99 := fun _ _ => by kernel_rfl
theorem en_103 : En Tryz.prog 103 := fun _ _ => by kernel_rfl
theorem zv_31 : ZV Tryz.prog 31 (.agg [.int .u64 0, .int .u64 0].toArray) := fun _ => by kernel_rfl
theorem bs_31 : BS Tryz.prog 31 (fun i => [(0, 1), (1, 1)][i]?) [.int .u64 0, .int .u64 0] := bs_mk Tryz.underlying31 zv_31 ⟨rfl, (one_24).siz, rfl, (one_24).siz, trivial⟩
theorem en_252 : En Tryz.prog 252 := fun _ _ => by kernel_rfl
theorem en_155 : En Tryz.prog 155 := fun _ _ => by kernel_rfl
theorem en_203 : En Tryz.prog 203 := fun _ _ => by kernel_rfl
theorem en_141 : En Tryz.prog 141 := fun _ _ => by kernel_rfl
theorem en_254 : En Tryz.prog 254 := fun _ _ => by kernel_rfl
theorem en_215 : En Tryz.prog 215 := fun _ _ => by kernel_rfl
theorem bsl_160_1 : BSl Tryz.prog 160 1 24 1 [.int .u64 0] := bsl_mk Tryz.underlying160 (one_24).siz zv_24 rfl rfl (by kernel_rfl)
theorem apt_160 : ApT Tryz.prog 160 24 1 8 := apt_mk Tryz.underlying160 rfl (by kernel_rfl)
theorem en_205 : En Tryz.prog 205 := fun _ _ => by kernel_rfl
theorem en_204 : En Tryz.prog 204 := fun _ _ => by kernel_rfl
theorem en_143 : En Tryz.prog 143 := fun _ _ => by kernel_rfl

set_option maxHeartbeats 2000000 in
theorem number_prime_w (p0 : BitVec 64)  (r : Bool) (hm : number_prime p0 = some r) (w : World)   :
    Calls Tryz.prog 234 [wv p0].toArray w fun e w' => ∃ v, e = .returned v ∧ (v = .bool r ∧ Gr w w') := by
  unfold number_prime at hm
  refine calls_of_sw (R := fun v w' => v = .bool r ∧ Gr w w') 21 Tryz.func234 rfl rfl rfl ?_
  refine sw_seq ?_
  -- region 0 modular.go:47
  refine sw_region [(0, 0)] rfl rfl rfl ?_
  refine sd_vv rfl rfl rfl (vv_assign rfl) ?_
  refine sd_done ?_
  refine sw_seq ?_
  refine sw_joinD (β := Bool) [4, 5, 6, 7, 8, 9] (fun a1 => [(9, .bool a1)]) (fun a1 wr => (number_prime_J1 p0 a1 = some r) ∧ Kz [] w wr) ?_ ?_
  · clear hm; rintro a1 w1 ⟨hm, Kw1⟩
    have z1 := Kw1.size
    unfold number_prime_J1 at hm
    refine sw_cond rfl (fun c1 => ?_) (fun c1 => ?_)
    ·
      replace hm := cnd_t c1 hm
      refine sw_seq ?_
      -- region 2 modular.go:49
      refine sw_region [(0, 0)] rfl rfl rfl ?_
      refine sd_vv rfl rfl rfl (vv_assign rfl) ?_
      refine sd_done ?_
      refine sw_ret ?_
      refine then_r ?_
      have X2 : Gr w w1 := (Gr.kz (Gr.refl w) Kw1)
      have hr := Option.some.inj hm
      subst hr
      refine ⟨_, _, rfl, res_1 rfl (rv_tmp rfl), ?_⟩
      exact ⟨rfl, X2⟩
    ·
      replace hm := cnd_f c1 hm
      refine sw_skip ?_
      refine then_n ?_
      refine sw_seq ?_
      refine sw_seq ?_
      -- region 3 modular.go:51
      refine sw_region [(0, 0)] rfl rfl rfl ?_
      refine sd_vv rfl rfl rfl (vv_assign rfl) ?_
      refine sd_done ?_
      refine sw_block ?_
      have X3 : Gr w w1 := (Gr.kz (Gr.refl w) Kw1)
      refine sw_loopD (α := Nat × BitVec 64) [2, 3, 10, 11, 12, 13, 14, 15, 16, 17, 18, 19, 20] (fun ⟨n2, a3⟩ => [(2, .bool false), (3, wv a3)]) (fun ⟨n2, a3⟩ wr => (fixN (number_prime_L2 p0) n2 a3 = some r) ∧ Kz [] w1 wr) (fun ⟨n2, a3⟩ => n2) ⟨FUEL, 2#64⟩ ?_ ?_ ?_
      · repeat' first | exact trivial | refine ⟨rfl, ?_⟩
      · exact ⟨hm, Kz.refl _ _⟩
      · clear hm; rintro ⟨n2, a3⟩ w2 ⟨hm, Kw2⟩
        have z4 := Kw2.size
        have hb := fix_succ hm; clear hm; obtain ⟨n2, rfl, hm⟩ := hb
        generalize hrec2 : fixN (number_prime_L2 p0) n2 = rec2 at hm
        unfold number_prime_L2 at hm
        try dsimp only at hm
        refine sw_seq ?_
        refine sw_seq ?_
        -- region 4 modular.go:51
        refine sw_region [(0, 0), (1, 0), (2, 0), (3, 0), (4, 0)] rfl rfl rfl ?_
        refine sd_vv rfl rfl rfl (vv_move rfl) ?_
        refine sd_vv rfl rfl rfl (vv_move rfl) ?_
        refine sd_vv rfl rfl rfl (vv_umul (a := a3) (b := a3) rfl rfl) ?_
        refine sd_vv rfl rfl rfl (vv_move rfl) ?_
        refine sd_vv rfl rfl rfl (vv_leqU (c := a3 * a3) (d := p0) rfl rfl) ?_
        refine sd_done ?_
        refine sw_cond rfl (fun c2 => ?_) (fun c2 => ?_)
        ·
          replace hm := ite_t (of_decide_eq_true c2) hm
          refine sw_skip ?_
          refine then_n ?_
          refine sw_seq ?_
          refine sw_block ?_
          refine sw_seq ?_
          -- region 6 modular.go:52
          refine sw_region [(0, 0), (1, 0), (2, 0), (3, 0)] rfl rfl rfl ?_
          refine sd_vv rfl rfl rfl (vv_move rfl) ?_
          refine sd_vv rfl rfl rfl (vv_move rfl) ?_
          have hb := bnd hm; clear hm; obtain ⟨x4, hx4, hm⟩ := hb
          refine sd_vv rfl rfl rfl (vv_remU (c := p0) (d := a3) rfl rfl hx4) ?_
          refine sd_vv rfl rfl rfl (vv_eqlU (c := x4) (d := 0#64) rfl rfl) ?_
          refine sd_done ?_
          refine sw_cond rfl (fun c3 => ?_) (fun c3 => ?_)
          ·
            replace hm := ite_t (of_decide_eq_true c3) hm
            refine sw_seq ?_
            -- region 7 modular.go:53
            refine sw_region [(0, 0)] rfl rfl rfl ?_
            refine sd_vv rfl rfl rfl (vv_assign rfl) ?_
            refine sd_done ?_
            refine sw_ret ?_
            refine block_r ?_
            refine then_r ?_
            refine then_r ?_
            refine block_r ?_
            refine then_r ?_
            have X5 : Gr w w2 := (Gr.kz X3 Kw2)
            have hr := Option.some.inj hm
            subst hr
            refine ⟨_, _, rfl, res_1 rfl (rv_tmp rfl), ?_⟩
            exact ⟨rfl, X5⟩
          ·
            replace hm := ite_f (of_decide_eq_false c3) hm
            refine sw_skip ?_
            refine block_n ?_
            refine then_n ?_
            -- region 5 modular.go:51
            refine sw_region [(0, 0), (1, 0), (2, 0)] rfl rfl rfl ?_
            refine sd_vv rfl rfl rfl (vv_move rfl) ?_
            refine sd_vv rfl rfl rfl (vv_uadd (a := a3) (b := 1#64) rfl rfl) ?_
            refine sd_vv rfl rfl rfl (vv_assign rfl) ?_
            refine sd_nil ?_
            have K_6 : Kz [] w1 w2 := Kw2
            subst hrec2
            refine ⟨rfl, ⟨n2, a3 + 1#64⟩, ?_, ⟨hm, K_6⟩, Nat.lt_succ_self _⟩
            repeat' first | exact trivial | refine ⟨rfl, ?_⟩
        ·
          replace hm := ite_f (of_decide_eq_false c2) hm
          refine sw_exit ?_
          refine then_x ?_
          refine then_x ?_
          refine block_x ?_
          refine then_n ?_
          refine sw_seq ?_
          -- region 8 modular.go:56
          refine sw_region [(0, 0)] rfl rfl rfl ?_
          refine sd_vv rfl rfl rfl (vv_assign rfl) ?_
          refine sd_done ?_
          refine sw_ret ?_
          have X7 : Gr w w2 := (Gr.kz X3 Kw2)
          have hr := Option.some.inj hm
          subst hr
          refine ⟨_, _, rfl, res_1 rfl (rv_tmp rfl), ?_⟩
          exact ⟨rfl, X7⟩
  ·
    -- region 1 modular.go:48
    refine sw_region [(0, 0), (1, 0), (2, 0), (3, 0), (4, 0), (5, 0)] rfl rfl rfl ?_
    refine sd_vv rfl rfl rfl (vv_move rfl) ?_
    refine sd_vv rfl rfl rfl (vv_lssU (c := p0) (d := 2#64) rfl rfl) ?_
    refine sd_split rfl rfl rfl (vv_move rfl) (fun c4 => ?_) (fun c4 => ?_)
    ·
      replace hm := ite_t (of_decide_eq_true c4) hm
      refine sd_skip rfl rfl rfl ?_
      refine sd_skip rfl rfl rfl ?_
      refine sd_vv rfl rfl rfl (vv_pickT rfl rfl) ?_
      refine sd_nil ?_
      have K_8 : Kz [] w w := (Kz.refl _ _)
      refine ⟨rfl, true, ?_, hm, K_8⟩
      repeat' first | exact trivial | refine ⟨rfl, ?_⟩
    ·
      replace hm := ite_f (of_decide_eq_false c4) hm
      refine sd_vv rfl rfl rfl (vv_move rfl) ?_
      refine sd_vv rfl rfl rfl (vv_gtrU (c := p0) (d := 1048575#64) rfl rfl) ?_
      refine sd_vv rfl rfl rfl (vv_pickF rfl rfl) ?_
      refine sd_nil ?_
      have K_9 : Kz [] w w := (Kz.refl _ _)
      refine ⟨rfl, (decide (1048575#64 < p0)), ?_, hm, K_9⟩
      repeat' first | exact trivial | refine ⟨rfl, ?_⟩

set_option maxHeartbeats 2000000 in
theorem number_power_w (p0 : BitVec 64) (p1 : BitVec 64) (p2 : BitVec 64)  (r : BitVec 64) (hm : number_power p0 p1 p2 = some r) (w : World)   :
    Calls Tryz.prog 235 [wv p0, wv p1, wv p2].toArray w fun e w' => ∃ v, e = .returned v ∧ (v = wv r ∧ Gr w w') := by
  unfold number_power at hm
  refine calls_of_sw (R := fun v w' => v = wv r ∧ Gr w w') 31 Tryz.func235 rfl rfl rfl ?_
  refine sw_seq ?_
  -- region 0 modular.go:9
  refine sw_region [(0, 0)] rfl rfl rfl ?_
  refine sd_vv rfl rfl rfl (vv_assign rfl) ?_
  refine sd_done ?_
  refine sw_seq ?_
  -- region 1 modular.go:10
  refine sw_region [(0, 0), (1, 0), (2, 0)] rfl rfl rfl ?_
  refine sd_vv rfl rfl rfl (vv_move rfl) ?_
  have hb := bnd hm; clear hm; obtain ⟨x1, hx1, hm⟩ := hb
  refine sd_vv rfl rfl rfl (vv_remU (c := 1#64) (d := p2) rfl rfl hx1) ?_
  refine sd_vv rfl rfl rfl (vv_assign rfl) ?_
  refine sd_done ?_
  refine sw_seq ?_
  refine sw_seq ?_
  -- region 2 modular.go:11
  refine sw_region [(0, 0), (1, 0), (2, 0), (3, 0)] rfl rfl rfl ?_
  refine sd_vv rfl rfl rfl (vv_move rfl) ?_
  refine sd_vv rfl rfl rfl (vv_move rfl) ?_
  have hb := bnd hm; clear hm; obtain ⟨x2, hx2, hm⟩ := hb
  refine sd_vv rfl rfl rfl (vv_remU (c := p0) (d := p2) rfl rfl hx2) ?_
  refine sd_vv rfl rfl rfl (vv_assign rfl) ?_
  refine sd_done ?_
  refine sw_block ?_
  refine sw_loopD (α := Nat × BitVec 64 × BitVec 64 × BitVec 64) [0, 1, 7, 13, 14, 15, 16, 17, 18, 19, 20, 21, 22, 23, 24, 25, 26, 27, 28, 29] (fun ⟨n1, a6, a7, a8⟩ => [(0, wv a6), (1, wv a7), (7, wv a8)]) (fun ⟨n1, a6, a7, a8⟩ wr => (fixN (number_power_L1 p2) n1 (a6, a7, a8) = some r) ∧ Kz [] w wr) (fun ⟨n1, a6, a7, a8⟩ => n1) ⟨FUEL, x2, p1, x1⟩ ?_ ?_ ?_
  · repeat' first | exact trivial | refine ⟨rfl, ?_⟩
  · exact ⟨hm, Kz.refl _ _⟩
  · clear hm; rintro ⟨n1, a6, a7, a8⟩ w1 ⟨hm, Kw1⟩
    have z1 := Kw1.size
    have hb := fix_succ hm; clear hm; obtain ⟨n1, rfl, hm⟩ := hb
    generalize hrec1 : fixN (number_power_L1 p2) n1 = rec1 at hm
    unfold number_power_L1 at hm
    try dsimp only at hm
    refine sw_seq ?_
    refine sw_seq ?_
    -- region 3 modular.go:11
    refine sw_region [(0, 0), (1, 0)] rfl rfl rfl ?_
    refine sd_vv rfl rfl rfl (vv_move rfl) ?_
    refine sd_vv rfl rfl rfl (vv_gtrU (c := a7) (d := 0#64) rfl rfl) ?_
    refine sd_done ?_
    refine sw_cond rfl (fun c1 => ?_) (fun c1 => ?_)
    ·
      replace hm := ite_t (of_decide_eq_true c1) hm
      refine sw_skip ?_
      refine then_n ?_
      refine sw_seq ?_
      refine sw_block ?_
      refine sw_seq ?_
      refine sw_seq ?_
      -- region 5 modular.go:12
      refine sw_region [(0, 0), (1, 0), (2, 0)] rfl rfl rfl ?_
      refine sd_vv rfl rfl rfl (vv_move rfl) ?_
      refine sd_vv rfl rfl rfl (vv_uand (a := a7) (b := 1#64) rfl rfl) ?_
      refine sd_vv rfl rfl rfl (vv_eqlU (c := a7 &&& 1#64) (d := 1#64) rfl rfl) ?_
      refine sd_done ?_
      refine sw_cond rfl (fun c2 => ?_) (fun c2 => ?_)
      ·
        replace hm := ite_t (of_decide_eq_true c2) hm
        -- region 6 modular.go:13
        refine sw_region [(0, 0), (1, 0), (2, 0), (3, 0), (4, 0), (5, 0)] rfl rfl rfl ?_
        refine sd_vv rfl rfl rfl (vv_move rfl) ?_
        refine sd_vv rfl rfl rfl (vv_move rfl) ?_
        refine sd_vv rfl rfl rfl (vv_umul (a := a8) (b := a6) rfl rfl) ?_
        refine sd_vv rfl rfl rfl (vv_move rfl) ?_
        have hb := bnd hm; clear hm; obtain ⟨x9, hx9, hm⟩ := hb
        refine sd_vv rfl rfl rfl (vv_remU (c := a8 * a6) (d := p2) rfl rfl hx9) ?_
        refine sd_vv rfl rfl rfl (vv_assign rfl) ?_
        refine sd_done ?_
        -- region 7 modular.go:15
        refine sw_region [(0, 0), (1, 0), (2, 0), (3, 0), (4, 0), (5, 0)] rfl rfl rfl ?_
        refine sd_vv rfl rfl rfl (vv_move rfl) ?_
        refine sd_vv rfl rfl rfl (vv_move rfl) ?_
        refine sd_vv rfl rfl rfl (vv_umul (a := a6) (b := a6) rfl rfl) ?_
        refine sd_vv rfl rfl rfl (vv_move rfl) ?_
        have hb := bnd hm; clear hm; obtain ⟨x10, hx10, hm⟩ := hb
        refine sd_vv rfl rfl rfl (vv_remU (c := a6 * a6) (d := p2) rfl rfl hx10) ?_
        refine sd_vv rfl rfl rfl (vv_assign rfl) ?_
        refine sd_nil ?_
        refine block_n ?_
        refine then_n ?_
        -- region 4 modular.go:11
        refine sw_region [(0, 0), (1, 0), (2, 0)] rfl rfl rfl ?_
        refine sd_vv rfl rfl rfl (vv_move rfl) ?_
        have hb := bnd hm; clear hm; obtain ⟨n11, hn11, hm⟩ := hb
        refine sd_vv rfl rfl rfl (vv_shrU (c := a7) (b := (un 1#64)) rfl rfl hn11) ?_
        refine sd_vv rfl rfl rfl (vv_assign rfl) ?_
        refine sd_nil ?_
        have K_2 : Kz [] w w1 := Kw1
        subst hrec1
        refine ⟨rfl, ⟨n1, x10, a7 >>> n11, x9⟩, ?_, ⟨hm, K_2⟩, Nat.lt_succ_self _⟩
        repeat' first | exact trivial | refine ⟨rfl, ?_⟩
      ·
        replace hm := ite_f (of_decide_eq_false c2) hm
        refine sw_skip ?_
        refine then_n ?_
        -- region 7 modular.go:15
        refine sw_region [(0, 0), (1, 0), (2, 0), (3, 0), (4, 0), (5, 0)] rfl rfl rfl ?_
        refine sd_vv rfl rfl rfl (vv_move rfl) ?_
        refine sd_vv rfl rfl rfl (vv_move rfl) ?_
        refine sd_vv rfl rfl rfl (vv_umul (a := a6) (b := a6) rfl rfl) ?_
        refine sd_vv rfl rfl rfl (vv_move rfl) ?_
        have hb := bnd hm; clear hm; obtain ⟨x12, hx12, hm⟩ := hb
        refine sd_vv rfl rfl rfl (vv_remU (c := a6 * a6) (d := p2) rfl rfl hx12) ?_
        refine sd_vv rfl rfl rfl (vv_assign rfl) ?_
        refine sd_nil ?_
        refine block_n ?_
        refine then_n ?_
        -- region 4 modular.go:11
        refine sw_region [(0, 0), (1, 0), (2, 0)] rfl rfl rfl ?_
        refine sd_vv rfl rfl rfl (vv_move rfl) ?_
        have hb := bnd hm; clear hm; obtain ⟨n13, hn13, hm⟩ := hb
        refine sd_vv rfl rfl rfl (vv_shrU (c := a7) (b := (un 1#64)) rfl rfl hn13) ?_
        refine sd_vv rfl rfl rfl (vv_assign rfl) ?_
        refine sd_nil ?_
        have K_3 : Kz [] w w1 := Kw1
        subst hrec1
        refine ⟨rfl, ⟨n1, x12, a7 >>> n13, a8⟩, ?_, ⟨hm, K_3⟩, Nat.lt_succ_self _⟩
        repeat' first | exact trivial | refine ⟨rfl, ?_⟩
    ·
      replace hm := ite_f (of_decide_eq_false c1) hm
      refine sw_exit ?_
      refine then_x ?_
      refine then_x ?_
      refine block_x ?_
      refine then_n ?_
      refine sw_seq ?_
      -- region 8 modular.go:17
      refine sw_region [(0, 0), (1, 0)] rfl rfl rfl ?_
      refine sd_vv rfl rfl rfl (vv_move rfl) ?_
      refine sd_vv rfl rfl rfl (vv_assign rfl) ?_
      refine sd_done ?_
      refine sw_ret ?_
      have X4 : Gr w w1 := (Gr.kz (Gr.refl w) Kw1)
      have hr := Option.some.inj hm
      subst hr
      refine ⟨_, _, rfl, res_1 rfl (rv_tmp rfl), ?_⟩
      exact ⟨rfl, X4⟩

set_option maxHeartbeats 2000000 in
theorem number_CheckGroup_w (p0 : TGroup)  (r : Int) (hm : number_CheckGroup p0 = some r) (w : World)   :
    Calls Tryz.prog 179 [.agg (TGroup.cs p0).toArray].toArray w fun e w' => ∃ v, e = .returned v ∧ (v = .int .i64 r ∧ Gr w w') := by
  unfold number_CheckGroup at hm
  refine calls_of_sw (R := fun v w' => v = .int .i64 r ∧ Gr w w') 44 Tryz.func179 rfl rfl rfl ?_
  refine sw_seq ?_
  -- region 0 modular.go:68
  refine sw_region [(0, 0), (1, 0)] rfl rfl rfl ?_
  refine sd_ev rfl rfl rfl (ev_box (cs := TGroup.cs p0) rfl rfl) ?_
  rintro _ w1 ⟨b1, rfl, hbw1, Bw1, Gw1⟩
  have z1 := Gw1.size
  have lt2 := Bw1.lt
  refine sd_vv rfl rfl rfl (vv_assign rfl) ?_
  refine sd_done ?_
  refine sw_seq ?_
  have X3 : Gr w w1 := (Gr.trans (Gr.refl w) Gw1)
  refine sw_joinD (β := Bool) [3, 4, 5, 6, 7, 8, 9, 10, 11, 12, 13, 14, 15, 16, 17, 18, 19, 20, 21, 22, 23, 24, 25, 26, 27, 28, 29, 30, 31, 32, 33, 34, 35, 36, 37, 38, 39, 40, 41, 42, 43] (fun a1 => [(43, .bool a1)]) (fun a1 wr => (number_CheckGroup_J1 a1 = some r) ∧ Kz [] w1 wr) ?_ ?_
  · clear hm; rintro a1 w2 ⟨hm, Kw2⟩
    have z4 := Kw2.size
    unfold number_CheckGroup_J1 at hm
    refine sw_cond rfl (fun c1 => ?_) (fun c1 => ?_)
    ·
      replace hm := cnd_t c1 hm
      refine sw_seq ?_
      -- region 2 modular.go:70
      refine sw_region [(0, 0)] rfl rfl rfl ?_
      refine sd_vv rfl rfl rfl (vv_assign rfl) ?_
      refine sd_done ?_
      refine sw_ret ?_
      refine then_r ?_
      have X5 : Gr w w2 := (Gr.kz X3 Kw2)
      have hr := Option.some.inj hm
      subst hr
      refine ⟨_, _, rfl, res_1 rfl (rv_tmp rfl), ?_⟩
      exact ⟨rfl, X5⟩
    ·
      replace hm := cnd_f c1 hm
      refine sw_skip ?_
      refine then_n ?_
      refine sw_seq ?_
      -- region 3 modular.go:72
      refine sw_region [(0, 0)] rfl rfl rfl ?_
      refine sd_vv rfl rfl rfl (vv_assign rfl) ?_
      refine sd_done ?_
      refine sw_ret ?_
      have X6 : Gr w w2 := (Gr.kz X3 Kw2)
      have hr := Option.some.inj hm
      subst hr
      refine ⟨_, _, rfl, res_1 rfl (rv_tmp rfl), ?_⟩
      exact ⟨rfl, X6⟩
  ·
    -- region 1 modular.go:69
    refine sw_region [(0, 0), (1, 0), (2, 0), (3, 0), (4, 0), (5, 0), (6, 0), (7, 0), (8, 0), (9, 0), (10, 0), (11, 0), (12, 0), (13, 0), (14, 0), (15, 0), (16, 0), (17, 0), (18, 0), (19, 0), (20, 0), (21, 0), (22, 0), (23, 0), (24, 0), (25, 0), (26, 0), (27, 0), (28, 0), (29, 0), (30, 0), (31, 0), (32, 0), (33, 0), (34, 0), (35, 0), (36, 0), (37, 0), (38, 0), (39, 0), (40, 0)] rfl rfl rfl ?_
    refine sd_vv rfl rfl rfl (vv_fieldAddr fa_26_0 rfl) ?_
    refine sd_vv rfl rfl rfl (vv_load1 (v := wv p0.P) one_24 rfl Bw1 rfl) ?_
    have hb := bnd hm; clear hm; obtain ⟨x2, hx2, hm⟩ := hb
    refine sd_ev rfl rfl rfl (ev_call en_234 rfl (number_prime_w p0.P _ hx2 _)) ?_
    rintro _ w3 ⟨rfl, Gw3⟩
    have z7 := Gw3.size
    refine sd_vv rfl rfl rfl (vv_not rfl) ?_
    refine sd_split rfl rfl rfl (vv_move rfl) (fun c2 => ?_) (fun c2 => ?_)
    ·
      replace hm := cnd_t c2 hm
      refine sd_skip rfl rfl rfl ?_
      refine sd_skip rfl rfl rfl ?_
      refine sd_skip rfl rfl rfl ?_
      refine sd_skip rfl rfl rfl ?_
      refine sd_vv rfl rfl rfl (vv_pickT rfl rfl) ?_
      refine sd_vv rfl rfl rfl (vv_move rfl) ?_
      refine sd_skip rfl rfl rfl ?_
      refine sd_skip rfl rfl rfl ?_
      refine sd_skip rfl rfl rfl ?_
      refine sd_skip rfl rfl rfl ?_
      refine sd_skip rfl rfl rfl ?_
      refine sd_skip rfl rfl rfl ?_
      refine sd_skip rfl rfl rfl ?_
      refine sd_vv rfl rfl rfl (vv_pickT rfl rfl) ?_
      refine sd_vv rfl rfl rfl (vv_move rfl) ?_
      refine sd_skip rfl rfl rfl ?_
      refine sd_skip rfl rfl rfl ?_
      refine sd_skip rfl rfl rfl ?_
      refine sd_vv rfl rfl rfl (vv_pickT rfl rfl) ?_
      refine sd_vv rfl rfl rfl (vv_move rfl) ?_
      refine sd_skip rfl rfl rfl ?_
      refine sd_skip rfl rfl rfl ?_
      refine sd_skip rfl rfl rfl ?_
      refine sd_skip rfl rfl rfl ?_
      refine sd_skip rfl rfl rfl ?_
      refine sd_vv rfl rfl rfl (vv_pickT rfl rfl) ?_
      refine sd_vv rfl rfl rfl (vv_move rfl) ?_
      refine sd_skip rfl rfl rfl ?_
      refine sd_skip rfl rfl rfl ?_
      refine sd_skip rfl rfl rfl ?_
      refine sd_skip rfl rfl rfl ?_
      refine sd_skip rfl rfl rfl ?_
      refine sd_skip rfl rfl rfl ?_
      refine sd_skip rfl rfl rfl ?_
      refine sd_skip rfl rfl rfl ?_
      refine sd_vv rfl rfl rfl (vv_pickT rfl rfl) ?_
      refine sd_nil ?_
      have K_8 : Kz [] w1 w3 := (Kz.gr (Kz.refl _ _) Gw3)
      refine ⟨rfl, true, ?_, hm, K_8⟩
      repeat' first | exact trivial | refine ⟨rfl, ?_⟩
    ·
      replace hm := cnd_f c2 hm
      refine sd_vv rfl rfl rfl (vv_fieldAddr fa_26_1 rfl) ?_
      have B9 := (Bx.gr Bw1 Gw3)
      refine sd_vv rfl rfl rfl (vv_load1 (v := wv p0.Q) one_24 rfl B9 rfl) ?_
      have hb := bnd hm; clear hm; obtain ⟨x3, hx3, hm⟩ := hb
      refine sd_ev rfl rfl rfl (ev_call en_234 rfl (number_prime_w p0.Q _ hx3 _)) ?_
      rintro _ w4 ⟨rfl, Gw4⟩
      have z10 := Gw4.size
      refine sd_vv rfl rfl rfl (vv_not rfl) ?_
      refine sd_vv rfl rfl rfl (vv_pickF rfl rfl) ?_
      refine sd_split rfl rfl rfl (vv_move rfl) (fun c3 => ?_) (fun c3 => ?_)
      ·
        replace hm := cnd_t c3 hm
        refine sd_skip rfl rfl rfl ?_
        refine sd_skip rfl rfl rfl ?_
        refine sd_skip rfl rfl rfl ?_
        refine sd_skip rfl rfl rfl ?_
        refine sd_skip rfl rfl rfl ?_
        refine sd_skip rfl rfl rfl ?_
        refine sd_skip rfl rfl rfl ?_
        refine sd_vv rfl rfl rfl (vv_pickT rfl rfl) ?_
        refine sd_vv rfl rfl rfl (vv_move rfl) ?_
        refine sd_skip rfl rfl rfl ?_
        refine sd_skip rfl rfl rfl ?_
        refine sd_skip rfl rfl rfl ?_
        refine sd_vv rfl rfl rfl (vv_pickT rfl rfl) ?_
        refine sd_vv rfl rfl rfl (vv_move rfl) ?_
        refine sd_skip rfl rfl rfl ?_
        refine sd_skip rfl rfl rfl ?_
        refine sd_skip rfl rfl rfl ?_
        refine sd_skip rfl rfl rfl ?_
        refine sd_skip rfl rfl rfl ?_
        refine sd_vv rfl rfl rfl (vv_pickT rfl rfl) ?_
        refine sd_vv rfl rfl rfl (vv_move rfl) ?_
        refine sd_skip rfl rfl rfl ?_
        refine sd_skip rfl rfl rfl ?_
        refine sd_skip rfl rfl rfl ?_
        refine sd_skip rfl rfl rfl ?_
        refine sd_skip rfl rfl rfl ?_
        refine sd_skip rfl rfl rfl ?_
        refine sd_skip rfl rfl rfl ?_
        refine sd_skip rfl rfl rfl ?_
        refine sd_vv rfl rfl rfl (vv_pickT rfl rfl) ?_
        refine sd_nil ?_
        have K_11 : Kz [] w1 w4 := (Kz.gr (Kz.gr (Kz.refl _ _) Gw3) Gw4)
        refine ⟨rfl, true, ?_, hm, K_11⟩
        repeat' first | exact trivial | refine ⟨rfl, ?_⟩
      ·
        replace hm := cnd_f c3 hm
        refine sd_vv rfl rfl rfl (vv_fieldAddr fa_26_0 rfl) ?_
        have B12 := (Bx.gr B9 Gw4)
        refine sd_vv rfl rfl rfl (vv_load1 (v := wv p0.P) one_24 rfl B12 rfl) ?_
        refine sd_vv rfl rfl rfl (vv_usub (a := p0.P) (b := 1#64) rfl rfl) ?_
        refine sd_vv rfl rfl rfl (vv_fieldAddr fa_26_1 rfl) ?_
        refine sd_vv rfl rfl rfl (vv_load1 (v := wv p0.Q) one_24 rfl B12 rfl) ?_
        have hb := bnd hm; clear hm; obtain ⟨x4, hx4, hm⟩ := hb
        refine sd_vv rfl rfl rfl (vv_remU (c := p0.P - 1#64) (d := p0.Q) rfl rfl hx4) ?_
        refine sd_vv rfl rfl rfl (vv_neqU (c := x4) (d := 0#64) rfl rfl) ?_
        refine sd_vv rfl rfl rfl (vv_pickF rfl rfl) ?_
        refine sd_split rfl rfl rfl (vv_move rfl) (fun c4 => ?_) (fun c4 => ?_)
        ·
          replace hm := ite_t (of_decide_eq_true c4) hm
          refine sd_skip rfl rfl rfl ?_
          refine sd_skip rfl rfl rfl ?_
          refine sd_skip rfl rfl rfl ?_
          refine sd_vv rfl rfl rfl (vv_pickT rfl rfl) ?_
          refine sd_vv rfl rfl rfl (vv_move rfl) ?_
          refine sd_skip rfl rfl rfl ?_
          refine sd_skip rfl rfl rfl ?_
          refine sd_skip rfl rfl rfl ?_
          refine sd_skip rfl rfl rfl ?_
          refine sd_skip rfl rfl rfl ?_
          refine sd_vv rfl rfl rfl (vv_pickT rfl rfl) ?_
          refine sd_vv rfl rfl rfl (vv_move rfl) ?_
          refine sd_skip rfl rfl rfl ?_
          refine sd_skip rfl rfl rfl ?_
          refine sd_skip rfl rfl rfl ?_
          refine sd_skip rfl rfl rfl ?_
          refine sd_skip rfl rfl rfl ?_
          refine sd_skip rfl rfl rfl ?_
          refine sd_skip rfl rfl rfl ?_
          refine sd_skip rfl rfl rfl ?_
          refine sd_vv rfl rfl rfl (vv_pickT rfl rfl) ?_
          refine sd_nil ?_
          have K_13 : Kz [] w1 w4 := (Kz.gr (Kz.gr (Kz.refl _ _) Gw3) Gw4)
          refine ⟨rfl, true, ?_, hm, K_13⟩
          repeat' first | exact trivial | refine ⟨rfl, ?_⟩
        ·
          replace hm := ite_f (of_decide_eq_false c4) hm
          refine sd_vv rfl rfl rfl (vv_fieldAddr fa_26_2 rfl) ?_
          refine sd_vv rfl rfl rfl (vv_load1 (v := wv p0.G) one_24 rfl B12 rfl) ?_
          refine sd_vv rfl rfl rfl (vv_lssU (c := p0.G) (d := 2#64) rfl rfl) ?_
          refine sd_vv rfl rfl rfl (vv_pickF rfl rfl) ?_
          refine sd_split rfl rfl rfl (vv_move rfl) (fun c5 => ?_) (fun c5 => ?_)
          ·
            replace hm := ite_t (of_decide_eq_true c5) hm
            refine sd_skip rfl rfl rfl ?_
            refine sd_skip rfl rfl rfl ?_
            refine sd_skip rfl rfl rfl ?_
            refine sd_skip rfl rfl rfl ?_
            refine sd_skip rfl rfl rfl ?_
            refine sd_vv rfl rfl rfl (vv_pickT rfl rfl) ?_
            refine sd_vv rfl rfl rfl (vv_move rfl) ?_
            refine sd_skip rfl rfl rfl ?_
            refine sd_skip rfl rfl rfl ?_
            refine sd_skip rfl rfl rfl ?_
            refine sd_skip rfl rfl rfl ?_
            refine sd_skip rfl rfl rfl ?_
            refine sd_skip rfl rfl rfl ?_
            refine sd_skip rfl rfl rfl ?_
            refine sd_skip rfl rfl rfl ?_
            refine sd_vv rfl rfl rfl (vv_pickT rfl rfl) ?_
            refine sd_nil ?_
            have K_14 : Kz [] w1 w4 := (Kz.gr (Kz.gr (Kz.refl _ _) Gw3) Gw4)
            refine ⟨rfl, true, ?_, hm, K_14⟩
            repeat' first | exact trivial | refine ⟨rfl, ?_⟩
          ·
            replace hm := ite_f (of_decide_eq_false c5) hm
            refine sd_vv rfl rfl rfl (vv_fieldAddr fa_26_2 rfl) ?_
            refine sd_vv rfl rfl rfl (vv_load1 (v := wv p0.G) one_24 rfl B12 rfl) ?_
            refine sd_vv rfl rfl rfl (vv_fieldAddr fa_26_0 rfl) ?_
            refine sd_vv rfl rfl rfl (vv_load1 (v := wv p0.P) one_24 rfl B12 rfl) ?_
            refine sd_vv rfl rfl rfl (vv_geqU (c := p0.G) (d := p0.P) rfl rfl) ?_
            refine sd_vv rfl rfl rfl (vv_pickF rfl rfl) ?_
            refine sd_split rfl rfl rfl (vv_move rfl) (fun c6 => ?_) (fun c6 => ?_)
            ·
              replace hm := ite_t (of_decide_eq_true c6) hm
              refine sd_skip rfl rfl rfl ?_
              refine sd_skip rfl rfl rfl ?_
              refine sd_skip rfl rfl rfl ?_
              refine sd_skip rfl rfl rfl ?_
              refine sd_skip rfl rfl rfl ?_
              refine sd_skip rfl rfl rfl ?_
              refine sd_skip rfl rfl rfl ?_
              refine sd_skip rfl rfl rfl ?_
              refine sd_vv rfl rfl rfl (vv_pickT rfl rfl) ?_
              refine sd_nil ?_
              have K_15 : Kz [] w1 w4 := (Kz.gr (Kz.gr (Kz.refl _ _) Gw3) Gw4)
              refine ⟨rfl, true, ?_, hm, K_15⟩
              repeat' first | exact trivial | refine ⟨rfl, ?_⟩
            ·
              replace hm := ite_f (of_decide_eq_false c6) hm
              refine sd_vv rfl rfl rfl (vv_fieldAddr fa_26_2 rfl) ?_
              refine sd_vv rfl rfl rfl (vv_load1 (v := wv p0.G) one_24 rfl B12 rfl) ?_
              refine sd_vv rfl rfl rfl (vv_fieldAddr fa_26_1 rfl) ?_
              refine sd_vv rfl rfl rfl (vv_load1 (v := wv p0.Q) one_24 rfl B12 rfl) ?_
              refine sd_vv rfl rfl rfl (vv_fieldAddr fa_26_0 rfl) ?_
              refine sd_vv rfl rfl rfl (vv_load1 (v := wv p0.P) one_24 rfl B12 rfl) ?_
              have hb := bnd hm; clear hm; obtain ⟨x5, hx5, hm⟩ := hb
              refine sd_ev rfl rfl rfl (ev_call en_235 rfl (number_power_w p0.G p0.Q p0.P _ hx5 _)) ?_
              rintro _ w5 ⟨rfl, Gw5⟩
              have z16 := Gw5.size
              refine sd_vv rfl rfl rfl (vv_neqU (c := x5) (d := 1#64) rfl rfl) ?_
              refine sd_vv rfl rfl rfl (vv_pickF rfl rfl) ?_
              refine sd_nil ?_
              have K_17 : Kz [] w1 w5 := (Kz.gr (Kz.gr (Kz.gr (Kz.refl _ _) Gw3) Gw4) Gw5)
              refine ⟨rfl, (decide (x5 ≠ 1#64)), ?_, hm, K_17⟩
              repeat' first | exact trivial | refine ⟨rfl, ?_⟩

set_option maxHeartbeats 2000000 in
theorem poly_valid_w (p0 : TScheme)  (r : Bool) (hm : poly_valid p0 = some r) (w : World)   :
    Calls Tryz.prog 98 [.agg (TScheme.cs p0).toArray].toArray w fun e w' => ∃ v, e = .returned v ∧ (v = .bool r ∧ Gr w w') := by
  unfold poly_valid at hm
  refine calls_of_sw (R := fun v w' => v = .bool r ∧ Gr w w') 45 Tryz.func98 rfl rfl rfl ?_
  refine sw_seq ?_
  -- region 0 poly.go:46
  refine sw_region [(0, 0), (1, 0)] rfl rfl rfl ?_
  refine sd_ev rfl rfl rfl (ev_box (cs := TScheme.cs p0) rfl rfl) ?_
  rintro _ w1 ⟨b1, rfl, hbw1, Bw1, Gw1⟩
  have z1 := Gw1.size
  have lt2 := Bw1.lt
  refine sd_vv rfl rfl rfl (vv_assign rfl) ?_
  refine sd_done ?_
  refine sw_seq ?_
  -- region 1 poly.go:47 DRAWS
  refine sw_drawN [([])] [] (.leaf [(0, 10), (1, 10), (2, 10), (3, 10), (4, 10), (5, 10), (6, 10), (7, 10), (8, 10), (9, 10), (10, 10), (11, 10), (12, 10), (13, 10), (14, 10), (15, 10), (16, 10), (17, 10), (18, 10), (19, 10), (20, 10), (21, 10), (22, 10), (23, 10), (24, 10), (25, 10), (26, 0), (27, 10), (28, 10), (29, 10), (30, 10), (31, 10), (32, 10), (33, 10), (34, 10), (35, 10), (36, 10), (37, 10), (38, 10), (39, 10), (40, 10), (41, 10), (42, 10)]) (by kernel_rfl) (by kernel_rfl) rfl (by kernel_rfl) ?_
  intro w2 Gw2 zw2
  refine sdz_leaf ?_
  refine dd_hn 0 rfl rfl rfl rfl (Kp.refl ([]) w2) (fun w hS => vv_fieldAddr fa_28_0 rfl) ?_
  have B3 := (Bx.gr Bw1 Gw2)
  refine dd_hn 0 rfl rfl rfl rfl (Kp.refl ([]) w2) (fun w hS => vv_load1 (v := bv p0.Kind) one_5 rfl (Bx.kp B3 hS) rfl) ?_
  refine dd_hn 0 rfl rfl rfl rfl (Kp.refl ([]) w2) (fun w hS => vv_eqlB (p := p0.Kind) (q := 4#8) rfl rfl) ?_
  refine dd_pn 0 rfl rfl rfl rfl (Kp.refl ([]) w2) (fun w hS => vv_move rfl) (fun c1 => ?_) (fun c1 => ?_)
  ·
    replace hm := ite_t (of_decide_eq_true c1) hm
    refine dd_hn 0 rfl rfl rfl rfl (Kp.refl ([]) w2) (fun w hS => vv_fieldAddr fa_28_1 rfl) ?_
    refine dd_hn 0 rfl rfl rfl rfl (Kp.refl ([]) w2) (fun w hS => vv_load1 (v := .int .i64 p0.Depth) one_3 rfl (Bx.kp B3 hS) rfl) ?_
    refine dd_hn 0 rfl rfl rfl rfl (Kp.refl ([]) w2) (fun w hS => vv_geq (a := p0.Depth) (b := 0) rfl rfl) ?_
    refine dd_hn 0 rfl rfl rfl rfl (Kp.refl ([]) w2) (fun w hS => vv_pickT rfl rfl) ?_
    refine dd_pn 0 rfl rfl rfl rfl (Kp.refl ([]) w2) (fun w hS => vv_move rfl) (fun c2 => ?_) (fun c2 => ?_)
    ·
      replace hm := ite_t (of_decide_eq_true c2) hm
      refine dd_hn 0 rfl rfl rfl rfl (Kp.refl ([]) w2) (fun w hS => vv_fieldAddr fa_28_1 rfl) ?_
      refine dd_hn 0 rfl rfl rfl rfl (Kp.refl ([]) w2) (fun w hS => vv_load1 (v := .int .i64 p0.Depth) one_3 rfl (Bx.kp B3 hS) rfl) ?_
      refine dd_hn 0 rfl rfl rfl rfl (Kp.refl ([]) w2) (fun w hS => vv_leq (a := p0.Depth) (b := 6) rfl rfl) ?_
      refine dd_hn 0 rfl rfl rfl rfl (Kp.refl ([]) w2) (fun w hS => vv_pickT rfl rfl) ?_
      refine dd_pn 0 rfl rfl rfl rfl (Kp.refl ([]) w2) (fun w hS => vv_move rfl) (fun c3 => ?_) (fun c3 => ?_)
      ·
        replace hm := ite_t (of_decide_eq_true c3) hm
        refine dd_hn 0 rfl rfl rfl rfl (Kp.refl ([]) w2) (fun w hS => vv_fieldAddr fa_28_2 rfl) ?_
        refine dd_hn 0 rfl rfl rfl rfl (Kp.refl ([]) w2) (fun w hS => vv_load1 (v := .int .i64 p0.Degree) one_3 rfl (Bx.kp B3 hS) rfl) ?_
        refine dd_hn 0 rfl rfl rfl rfl (Kp.refl ([]) w2) (fun w hS => vv_geq (a := p0.Degree) (b := 1) rfl rfl) ?_
        refine dd_hn 0 rfl rfl rfl rfl (Kp.refl ([]) w2) (fun w hS => vv_pickT rfl rfl) ?_
        refine dd_pn 0 rfl rfl rfl rfl (Kp.refl ([]) w2) (fun w hS => vv_move rfl) (fun c4 => ?_) (fun c4 => ?_)
        ·
          replace hm := ite_t (of_decide_eq_true c4) hm
          refine dd_hn 0 rfl rfl rfl rfl (Kp.refl ([]) w2) (fun w hS => vv_fieldAddr fa_28_2 rfl) ?_
          refine dd_hn 0 rfl rfl rfl rfl (Kp.refl ([]) w2) (fun w hS => vv_load1 (v := .int .i64 p0.Degree) one_3 rfl (Bx.kp B3 hS) rfl) ?_
          refine dd_hn 0 rfl rfl rfl rfl (Kp.refl ([]) w2) (fun w hS => vv_leq (a := p0.Degree) (b := 8) rfl rfl) ?_
          refine dd_hn 0 rfl rfl rfl rfl (Kp.refl ([]) w2) (fun w hS => vv_pickT rfl rfl) ?_
          refine dd_pn 0 rfl rfl rfl rfl (Kp.refl ([]) w2) (fun w hS => vv_move rfl) (fun c5 => ?_) (fun c5 => ?_)
          ·
            replace hm := ite_t (of_decide_eq_true c5) hm
            refine dd_hn 0 rfl rfl rfl rfl (Kp.refl ([]) w2) (fun w hS => vv_fieldAddr fa_28_3 rfl) ?_
            refine dd_hn 0 rfl rfl rfl rfl (Kp.refl ([]) w2) (fun w hS => vv_loadM (vs := TGroup.cs p0.Group) agg_26 rfl (Bx.kp B3 hS) rfl rfl) ?_
            have hb := bnd hm; clear hm; obtain ⟨x1, hx1, hm⟩ := hb
            refine dd_z [] rfl rfl rfl (ev_call en_179 rfl (number_CheckGroup_w p0.Group _ hx1 _)) ⟨fun _ => tk0, trivial⟩ ?_
            rintro _ w3 ⟨rfl, Gw3⟩
            have z4 := Gw3.size
            refine ⟨Kz.ofGr Gw3, ?_⟩
            have S5 := (Kp.gr (Kp.refl ([]) w2) Gw3)
            refine dd_hn 0 rfl rfl rfl rfl S5 (fun w hS => vv_eql (a := x1) (b := 0) rfl rfl) ?_
            refine dd_hn 0 rfl rfl rfl rfl S5 (fun w hS => vv_pickT rfl rfl) ?_
            refine dd_pn 0 rfl rfl rfl rfl S5 (fun w hS => vv_move rfl) (fun c6 => ?_) (fun c6 => ?_)
            ·
              replace hm := ite_t (of_decide_eq_true c6) hm
              refine dd_hn 0 rfl rfl rfl rfl S5 (fun w hS => vv_fieldAddr fa_28_3 rfl) ?_
              refine dd_hn 0 rfl rfl rfl rfl S5 (fun w hS => vv_fieldAddr fa_26_1 rfl) ?_
              refine dd_hn 0 rfl rfl rfl rfl S5 (fun w hS => vv_load1 (v := wv p0.Group.Q) one_24 rfl (Bx.kp B3 hS) rfl) ?_
              refine dd_hn 0 rfl rfl rfl rfl S5 (fun w hS => vv_fieldAddr fa_28_1 rfl) ?_
              refine dd_hn 0 rfl rfl rfl rfl S5 (fun w hS => vv_load1 (v := .int .i64 p0.Depth) one_3 rfl (Bx.kp B3 hS) rfl) ?_
              have hb := bnd hm; clear hm; obtain ⟨n2, hn2, hm⟩ := hb
              refine dd_hn 0 rfl rfl rfl rfl S5 (fun w hS => vv_shlI (a := 1) (b := p0.Depth) rfl rfl hn2) ?_
              refine dd_hn 0 rfl rfl rfl rfl S5 (fun w hS => vv_fieldAddr fa_28_2 rfl) ?_
              refine dd_hn 0 rfl rfl rfl rfl S5 (fun w hS => vv_load1 (v := .int .i64 p0.Degree) one_3 rfl (Bx.kp B3 hS) rfl) ?_
              refine dd_hn 0 rfl rfl rfl rfl S5 (fun w hS => vv_add (k := .i64) (a := shlI 1 n2) (b := p0.Degree) rfl rfl) ?_
              refine dd_hn 0 rfl rfl rfl rfl S5 (fun w hS => vv_cvIU cv_3_24 rfl) ?_
              refine dd_hn 0 rfl rfl rfl rfl S5 (fun w hS => vv_gtrU (c := p0.Group.Q) (d := wd (w64 ((shlI 1 n2) + p0.Degree))) rfl rfl) ?_
              refine dd_hn 0 rfl rfl rfl rfl S5 (fun w hS => vv_pickT rfl rfl) ?_
              refine dd_hn 0 rfl rfl rfl rfl S5 (fun w hS => vv_assign rfl) ?_
              refine sd_done ?_
              refine sw_ret ?_
              have X6 : Gr w w3 := (Gr.trans (Gr.trans (Gr.trans (Gr.refl w) Gw1) Gw2) Gw3)
              have hr := Option.some.inj hm
              subst hr
              refine ⟨_, _, rfl, res_1 rfl (rv_tmp rfl), ?_⟩
              exact ⟨rfl, X6⟩
            ·
              replace hm := ite_f (of_decide_eq_false c6) hm
              refine dd_sn 0 rfl rfl rfl rfl S5 ?_
              refine dd_sn 0 rfl rfl rfl rfl S5 ?_
              refine dd_sn 0 rfl rfl rfl rfl S5 ?_
              refine dd_sn 0 rfl rfl rfl rfl S5 ?_
              refine dd_sn 0 rfl rfl rfl rfl S5 ?_
              refine dd_sn 0 rfl rfl rfl rfl S5 ?_
              refine dd_sn 0 rfl rfl rfl rfl S5 ?_
              refine dd_sn 0 rfl rfl rfl rfl S5 ?_
              refine dd_sn 0 rfl rfl rfl rfl S5 ?_
              refine dd_sn 0 rfl rfl rfl rfl S5 ?_
              refine dd_sn 0 rfl rfl rfl rfl S5 ?_
              refine dd_hn 0 rfl rfl rfl rfl S5 (fun w hS => vv_pickF rfl rfl) ?_
              refine dd_hn 0 rfl rfl rfl rfl S5 (fun w hS => vv_assign rfl) ?_
              refine sd_done ?_
              refine sw_ret ?_
              have X7 : Gr w w3 := (Gr.trans (Gr.trans (Gr.trans (Gr.refl w) Gw1) Gw2) Gw3)
              have hr := Option.some.inj hm
              subst hr
              refine ⟨_, _, rfl, res_1 rfl (rv_tmp rfl), ?_⟩
              exact ⟨rfl, X7⟩
          ·
            replace hm := ite_f (of_decide_eq_false c5) hm
            refine dd_sn 0 rfl rfl rfl rfl (Kp.refl ([]) w2) ?_
            refine dd_sn 0 rfl rfl rfl rfl (Kp.refl ([]) w2) ?_
            refine dd_sz rfl rfl rfl ?_
            refine dd_sn 0 rfl rfl rfl rfl (Kp.refl ([]) w2) ?_
            refine dd_hn 0 rfl rfl rfl rfl (Kp.refl ([]) w2) (fun w hS => vv_pickF rfl rfl) ?_
            refine dd_hn 0 rfl rfl rfl rfl (Kp.refl ([]) w2) (fun w hS => vv_move rfl) ?_
            refine dd_sn 0 rfl rfl rfl rfl (Kp.refl ([]) w2) ?_
            refine dd_sn 0 rfl rfl rfl rfl (Kp.refl ([]) w2) ?_
            refine dd_sn 0 rfl rfl rfl rfl (Kp.refl ([]) w2) ?_
            refine dd_sn 0 rfl rfl rfl rfl (Kp.refl ([]) w2) ?_
            refine dd_sn 0 rfl rfl rfl rfl (Kp.refl ([]) w2) ?_
            refine dd_sn 0 rfl rfl rfl rfl (Kp.refl ([]) w2) ?_
            refine dd_sn 0 rfl rfl rfl rfl (Kp.refl ([]) w2) ?_
            refine dd_sn 0 rfl rfl rfl rfl (Kp.refl ([]) w2) ?_
            refine dd_sn 0 rfl rfl rfl rfl (Kp.refl ([]) w2) ?_
            refine dd_sn 0 rfl rfl rfl rfl (Kp.refl ([]) w2) ?_
            refine dd_sn 0 rfl rfl rfl rfl (Kp.refl ([]) w2) ?_
            refine dd_hn 0 rfl rfl rfl rfl (Kp.refl ([]) w2) (fun w hS => vv_pickF rfl rfl) ?_
            refine dd_hn 0 rfl rfl rfl rfl (Kp.refl ([]) w2) (fun w hS => vv_assign rfl) ?_
            refine sd_done ?_
            refine sw_ret ?_
            have X8 : Gr w w2 := (Gr.trans (Gr.trans (Gr.refl w) Gw1) Gw2)
            have hr := Option.some.inj hm
            subst hr
            refine ⟨_, _, rfl, res_1 rfl (rv_tmp rfl), ?_⟩
            exact ⟨rfl, X8⟩
        ·
          replace hm := ite_f (of_decide_eq_false c4) hm
          refine dd_sn 0 rfl rfl rfl rfl (Kp.refl ([]) w2) ?_
          refine dd_sn 0 rfl rfl rfl rfl (Kp.refl ([]) w2) ?_
          refine dd_sn 0 rfl rfl rfl rfl (Kp.refl ([]) w2) ?_
          refine dd_hn 0 rfl rfl rfl rfl (Kp.refl ([]) w2) (fun w hS => vv_pickF rfl rfl) ?_
          refine dd_hn 0 rfl rfl rfl rfl (Kp.refl ([]) w2) (fun w hS => vv_move rfl) ?_
          refine dd_sn 0 rfl rfl rfl rfl (Kp.refl ([]) w2) ?_
          refine dd_sn 0 rfl rfl rfl rfl (Kp.refl ([]) w2) ?_
          refine dd_sz rfl rfl rfl ?_
          refine dd_sn 0 rfl rfl rfl rfl (Kp.refl ([]) w2) ?_
          refine dd_hn 0 rfl rfl rfl rfl (Kp.refl ([]) w2) (fun w hS => vv_pickF rfl rfl) ?_
          refine dd_hn 0 rfl rfl rfl rfl (Kp.refl ([]) w2) (fun w hS => vv_move rfl) ?_
          refine dd_sn 0 rfl rfl rfl rfl (Kp.refl ([]) w2) ?_
          refine dd_sn 0 rfl rfl rfl rfl (Kp.refl ([]) w2) ?_
          refine dd_sn 0 rfl rfl rfl rfl (Kp.refl ([]) w2) ?_
          refine dd_sn 0 rfl rfl rfl rfl (Kp.refl ([]) w2) ?_
          refine dd_sn 0 rfl rfl rfl rfl (Kp.refl ([]) w2) ?_
          refine dd_sn 0 rfl rfl rfl rfl (Kp.refl ([]) w2) ?_
          refine dd_sn 0 rfl rfl rfl rfl (Kp.refl ([]) w2) ?_
          refine dd_sn 0 rfl rfl rfl rfl (Kp.refl ([]) w2) ?_
          refine dd_sn 0 rfl rfl rfl rfl (Kp.refl ([]) w2) ?_
          refine dd_sn 0 rfl rfl rfl rfl (Kp.refl ([]) w2) ?_
          refine dd_sn 0 rfl rfl rfl rfl (Kp.refl ([]) w2) ?_
          refine dd_hn 0 rfl rfl rfl rfl (Kp.refl ([]) w2) (fun w hS => vv_pickF rfl rfl) ?_
          refine dd_hn 0 rfl rfl rfl rfl (Kp.refl ([]) w2) (fun w hS => vv_assign rfl) ?_
          refine sd_done ?_
          refine sw_ret ?_
          have X9 : Gr w w2 := (Gr.trans (Gr.trans (Gr.refl w) Gw1) Gw2)
          have hr := Option.some.inj hm
          subst hr
          refine ⟨_, _, rfl, res_1 rfl (rv_tmp rfl), ?_⟩
          exact ⟨rfl, X9⟩
      ·
        replace hm := ite_f (of_decide_eq_false c3) hm
        refine dd_sn 0 rfl rfl rfl rfl (Kp.refl ([]) w2) ?_
        refine dd_sn 0 rfl rfl rfl rfl (Kp.refl ([]) w2) ?_
        refine dd_sn 0 rfl rfl rfl rfl (Kp.refl ([]) w2) ?_
        refine dd_hn 0 rfl rfl rfl rfl (Kp.refl ([]) w2) (fun w hS => vv_pickF rfl rfl) ?_
        refine dd_hn 0 rfl rfl rfl rfl (Kp.refl ([]) w2) (fun w hS => vv_move rfl) ?_
        refine dd_sn 0 rfl rfl rfl rfl (Kp.refl ([]) w2) ?_
        refine dd_sn 0 rfl rfl rfl rfl (Kp.refl ([]) w2) ?_
        refine dd_sn 0 rfl rfl rfl rfl (Kp.refl ([]) w2) ?_
        refine dd_hn 0 rfl rfl rfl rfl (Kp.refl ([]) w2) (fun w hS => vv_pickF rfl rfl) ?_
        refine dd_hn 0 rfl rfl rfl rfl (Kp.refl ([]) w2) (fun w hS => vv_move rfl) ?_
        refine dd_sn 0 rfl rfl rfl rfl (Kp.refl ([]) w2) ?_
        refine dd_sn 0 rfl rfl rfl rfl (Kp.refl ([]) w2) ?_
        refine dd_sz rfl rfl rfl ?_
        refine dd_sn 0 rfl rfl rfl rfl (Kp.refl ([]) w2) ?_
        refine dd_hn 0 rfl rfl rfl rfl (Kp.refl ([]) w2) (fun w hS => vv_pickF rfl rfl) ?_
        refine dd_hn 0 rfl rfl rfl rfl (Kp.refl ([]) w2) (fun w hS => vv_move rfl) ?_
        refine dd_sn 0 rfl rfl rfl rfl (Kp.refl ([]) w2) ?_
        refine dd_sn 0 rfl rfl rfl rfl (Kp.refl ([]) w2) ?_
        refine dd_sn 0 rfl rfl rfl rfl (Kp.refl ([]) w2) ?_
        refine dd_sn 0 rfl rfl rfl rfl (Kp.refl ([]) w2) ?_
        refine dd_sn 0 rfl rfl rfl rfl (Kp.refl ([]) w2) ?_
        refine dd_sn 0 rfl rfl rfl rfl (Kp.refl ([]) w2) ?_
        refine dd_sn 0 rfl rfl rfl rfl (Kp.refl ([]) w2) ?_
        refine dd_sn 0 rfl rfl rfl rfl (Kp.refl ([]) w2) ?_
        refine dd_sn 0 rfl rfl rfl rfl (Kp.refl ([]) w2) ?_
        refine dd_sn 0 rfl rfl rfl rfl (Kp.refl ([]) w2) ?_
        refine dd_sn 0 rfl rfl rfl rfl (Kp.refl ([]) w2) ?_
        refine dd_hn 0 rfl rfl rfl rfl (Kp.refl ([]) w2) (fun w hS => vv_pickF rfl rfl) ?_
        refine dd_hn 0 rfl rfl rfl rfl (Kp.refl ([]) w2) (fun w hS => vv_assign rfl) ?_
        refine sd_done ?_
        refine sw_ret ?_
        have X10 : Gr w w2 := (Gr.trans (Gr.trans (Gr.refl w) Gw1) Gw2)
        have hr := Option.some.inj hm
        subst hr
        refine ⟨_, _, rfl, res_1 rfl (rv_tmp rfl), ?_⟩
        exact ⟨rfl, X10⟩
    ·
      replace hm := ite_f (of_decide_eq_false c2) hm
      refine dd_sn 0 rfl rfl rfl rfl (Kp.refl ([]) w2) ?_
      refine dd_sn 0 rfl rfl rfl rfl (Kp.refl ([]) w2) ?_
      refine dd_sn 0 rfl rfl rfl rfl (Kp.refl ([]) w2) ?_
      refine dd_hn 0 rfl rfl rfl rfl (Kp.refl ([]) w2) (fun w hS => vv_pickF rfl rfl) ?_
      refine dd_hn 0 rfl rfl rfl rfl (Kp.refl ([]) w2) (fun w hS => vv_move rfl) ?_
      refine dd_sn 0 rfl rfl rfl rfl (Kp.refl ([]) w2) ?_
      refine dd_sn 0 rfl rfl rfl rfl (Kp.refl ([]) w2) ?_
      refine dd_sn 0 rfl rfl rfl rfl (Kp.refl ([]) w2) ?_
      refine dd_hn 0 rfl rfl rfl rfl (Kp.refl ([]) w2) (fun w hS => vv_pickF rfl rfl) ?_
      refine dd_hn 0 rfl rfl rfl rfl (Kp.refl ([]) w2) (fun w hS => vv_move rfl) ?_
      refine dd_sn 0 rfl rfl rfl rfl (Kp.refl ([]) w2) ?_
      refine dd_sn 0 rfl rfl rfl rfl (Kp.refl ([]) w2) ?_
      refine dd_sn 0 rfl rfl rfl rfl (Kp.refl ([]) w2) ?_
      refine dd_hn 0 rfl rfl rfl rfl (Kp.refl ([]) w2) (fun w hS => vv_pickF rfl rfl) ?_
      refine dd_hn 0 rfl rfl rfl rfl (Kp.refl ([]) w2) (fun w hS => vv_move rfl) ?_
      refine dd_sn 0 rfl rfl rfl rfl (Kp.refl ([]) w2) ?_
      refine dd_sn 0 rfl rfl rfl rfl (Kp.refl ([]) w2) ?_
      refine dd_sz rfl rfl rfl ?_
      refine dd_sn 0 rfl rfl rfl rfl (Kp.refl ([]) w2) ?_
      refine dd_hn 0 rfl rfl rfl rfl (Kp.refl ([]) w2) (fun w hS => vv_pickF rfl rfl) ?_
      refine dd_hn 0 rfl rfl rfl rfl (Kp.refl ([]) w2) (fun w hS => vv_move rfl) ?_
      refine dd_sn 0 rfl rfl rfl rfl (Kp.refl ([]) w2) ?_
      refine dd_sn 0 rfl rfl rfl rfl (Kp.refl ([]) w2) ?_
      refine dd_sn 0 rfl rfl rfl rfl (Kp.refl ([]) w2) ?_
      refine dd_sn 0 rfl rfl rfl rfl (Kp.refl ([]) w2) ?_
      refine dd_sn 0 rfl rfl rfl rfl (Kp.refl ([]) w2) ?_
      refine dd_sn 0 rfl rfl rfl rfl (Kp.refl ([]) w2) ?_
      refine dd_sn 0 rfl rfl rfl rfl (Kp.refl ([]) w2) ?_
      refine dd_sn 0 rfl rfl rfl rfl (Kp.refl ([]) w2) ?_
      refine dd_sn 0 rfl rfl rfl rfl (Kp.refl ([]) w2) ?_
      refine dd_sn 0 rfl rfl rfl rfl (Kp.refl ([]) w2) ?_
      refine dd_sn 0 rfl rfl rfl rfl (Kp.refl ([]) w2) ?_
      refine dd_hn 0 rfl rfl rfl rfl (Kp.refl ([]) w2) (fun w hS => vv_pickF rfl rfl) ?_
      refine dd_hn 0 rfl rfl rfl rfl (Kp.refl ([]) w2) (fun w hS => vv_assign rfl) ?_
      refine sd_done ?_
      refine sw_ret ?_
      have X11 : Gr w w2 := (Gr.trans (Gr.trans (Gr.refl w) Gw1) Gw2)
      have hr := Option.some.inj hm
      subst hr
      refine ⟨_, _, rfl, res_1 rfl (rv_tmp rfl), ?_⟩
      exact ⟨rfl, X11⟩
  ·
    replace hm := ite_f (of_decide_eq_false c1) hm
    refine dd_sn 0 rfl rfl rfl rfl (Kp.refl ([]) w2) ?_
    refine dd_sn 0 rfl rfl rfl rfl (Kp.refl ([]) w2) ?_
    refine dd_sn 0 rfl rfl rfl rfl (Kp.refl ([]) w2) ?_
    refine dd_hn 0 rfl rfl rfl rfl (Kp.refl ([]) w2) (fun w hS => vv_pickF rfl rfl) ?_
    refine dd_hn 0 rfl rfl rfl rfl (Kp.refl ([]) w2) (fun w hS => vv_move rfl) ?_
    refine dd_sn 0 rfl rfl rfl rfl (Kp.refl ([]) w2) ?_
    refine dd_sn 0 rfl rfl rfl rfl (Kp.refl ([]) w2) ?_
    refine dd_sn 0 rfl rfl rfl rfl (Kp.refl ([]) w2) ?_
    refine dd_hn 0 rfl rfl rfl rfl (Kp.refl ([]) w2) (fun w hS => vv_pickF rfl rfl) ?_
    refine dd_hn 0 rfl rfl rfl rfl (Kp.refl ([]) w2) (fun w hS => vv_move rfl) ?_
    refine dd_sn 0 rfl rfl rfl rfl (Kp.refl ([]) w2) ?_
    refine dd_sn 0 rfl rfl rfl rfl (Kp.refl ([]) w2) ?_
    refine dd_sn 0 rfl rfl rfl rfl (Kp.refl ([]) w2) ?_
    refine dd_hn 0 rfl rfl rfl rfl (Kp.refl ([]) w2) (fun w hS => vv_pickF rfl rfl) ?_
    refine dd_hn 0 rfl rfl rfl rfl (Kp.refl ([]) w2) (fun w hS => vv_move rfl) ?_
    refine dd_sn 0 rfl rfl rfl rfl (Kp.refl ([]) w2) ?_
    refine dd_sn 0 rfl rfl rfl rfl (Kp.refl ([]) w2) ?_
    refine dd_sn 0 rfl rfl rfl rfl (Kp.refl ([]) w2) ?_
    refine dd_hn 0 rfl rfl rfl rfl (Kp.refl ([]) w2) (fun w hS => vv_pickF rfl rfl) ?_
    refine dd_hn 0 rfl rfl rfl rfl (Kp.refl ([]) w2) (fun w hS => vv_move rfl) ?_
    refine dd_sn 0 rfl rfl rfl rfl (Kp.refl ([]) w2) ?_
    refine dd_sn 0 rfl rfl rfl rfl (Kp.refl ([]) w2) ?_
    refine dd_sz rfl rfl rfl ?_
    refine dd_sn 0 rfl rfl rfl rfl (Kp.refl ([]) w2) ?_
    refine dd_hn 0 rfl rfl rfl rfl (Kp.refl ([]) w2) (fun w hS => vv_pickF rfl rfl) ?_
    refine dd_hn 0 rfl rfl rfl rfl (Kp.refl ([]) w2) (fun w hS => vv_move rfl) ?_
    refine dd_sn 0 rfl rfl rfl rfl (Kp.refl ([]) w2) ?_
    refine dd_sn 0 rfl rfl rfl rfl (Kp.refl ([]) w2) ?_
    refine dd_sn 0 rfl rfl rfl rfl (Kp.refl ([]) w2) ?_
    refine dd_sn 0 rfl rfl rfl rfl (Kp.refl ([]) w2) ?_
    refine dd_sn 0 rfl rfl rfl rfl (Kp.refl ([]) w2) ?_
    refine dd_sn 0 rfl rfl rfl rfl (Kp.refl ([]) w2) ?_
    refine dd_sn 0 rfl rfl rfl rfl (Kp.refl ([]) w2) ?_
    refine dd_sn 0 rfl rfl rfl rfl (Kp.refl ([]) w2) ?_
    refine dd_sn 0 rfl rfl rfl rfl (Kp.refl ([]) w2) ?_
    refine dd_sn 0 rfl rfl rfl rfl (Kp.refl ([]) w2) ?_
    refine dd_sn 0 rfl rfl rfl rfl (Kp.refl ([]) w2) ?_
    refine dd_hn 0 rfl rfl rfl rfl (Kp.refl ([]) w2) (fun w hS => vv_pickF rfl rfl) ?_
    refine dd_hn 0 rfl rfl rfl rfl (Kp.refl ([]) w2) (fun w hS => vv_assign rfl) ?_
    refine sd_done ?_
    refine sw_ret ?_
    have X12 : Gr w w2 := (Gr.trans (Gr.trans (Gr.refl w) Gw1) Gw2)
    have hr := Option.some.inj hm
    subst hr
    refine ⟨_, _, rfl, res_1 rfl (rv_tmp rfl), ?_⟩
    exact ⟨rfl, X12⟩

set_option maxHeartbeats 2000000 in
theorem cipher_wordsOf_w (p0 : W2)  (r : Tcipher_pair) (hm : cipher_wordsOf p0 = some r) (w : World)   :
    Calls Tryz.prog 175 [kv p0].toArray w fun e w' => ∃ v, e = .returned v ∧ (v = .agg (Tcipher_pair.cs r).toArray ∧ Gr w w') := by
  unfold cipher_wordsOf at hm
  refine calls_of_sw (R := fun v w' => v = .agg (Tcipher_pair.cs r).toArray ∧ Gr w w') 29 Tryz.func175 rfl rfl rfl ?_
  refine sw_seq ?_
  -- region 0 cipher.go:18
  refine sw_region [(0, 0), (1, 0)] rfl rfl rfl ?_
  refine sd_ev rfl rfl rfl (ev_box (cs := kb p0) rfl rfl) ?_
  rintro _ w1 ⟨b1, rfl, hbw1, Bw1, Gw1⟩
  have z1 := Gw1.size
  have lt2 := Bw1.lt
  refine sd_ev rfl rfl rfl (ev_alloc (cs := Tcipher_pair.cs (Tcipher_pair.mk 0#64 0#64)) zv_233 rfl) ?_
  rintro _ w2 ⟨b2, rfl, hbw2, Bw2, Gw2⟩
  have z3 := Gw2.size
  have lt4 := Bw2.lt
  refine sd_done ?_
  refine sw_seq ?_
  -- region 1 cipher.go:19
  refine sw_region [(0, 0)] rfl rfl rfl ?_
  refine sd_ev rfl rfl rfl (ev_alloc (cs := Tcipher_pair.cs (Tcipher_pair.mk 0#64 0#64)) zv_233 rfl) ?_
  rintro _ w3 ⟨b3, rfl, hbw3, Bw3, Gw3⟩
  have z5 := Gw3.size
  have lt6 := Bw3.lt
  refine sd_done ?_
  refine sw_seq ?_
  refine sw_seq ?_
  -- region 2 cipher.go:20
  refine sw_region [(0, 0)] rfl rfl rfl ?_
  refine sd_vv rfl rfl rfl (vv_move rfl) ?_
  refine sd_done ?_
  refine sw_block ?_
  have X7 : Gr w w3 := (Gr.trans (Gr.trans (Gr.trans (Gr.refl w) Gw1) Gw2) Gw3)
  refine sw_loopD (α := Nat × Int × BitVec 64 × BitVec 64) [4, 5, 6, 7, 8, 9, 10, 11, 12, 13, 14, 15, 16, 17, 18, 19, 20, 21, 22, 23, 24, 25, 26, 27] (fun ⟨n1, a4, a5, a6⟩ => [(5, .int .i64 a4)]) (fun ⟨n1, a4, a5, a6⟩ wr => (fixN (cipher_wordsOf_L1 p0) n1 (a4, a5, a6) = some r) ∧ Bx wr b3 233 (Tcipher_pair.cs (Tcipher_pair.mk a5 a6)) ∧ Kz [(1, b3)] w3 wr) (fun ⟨n1, a4, a5, a6⟩ => n1) ⟨FUEL, 0, 0#64, 0#64⟩ ?_ ?_ ?_
  · repeat' first | exact trivial | refine ⟨rfl, ?_⟩
  · exact ⟨hm, Bw3, Kz.refl _ _⟩
  · clear hm; rintro ⟨n1, a4, a5, a6⟩ w4 ⟨hm, Fw4_0, Kw4⟩
    have z8 := Kw4.size
    have lt9 := Fw4_0.lt
    have hb := fix_succ hm; clear hm; obtain ⟨n1, rfl, hm⟩ := hb
    generalize hrec1 : fixN (cipher_wordsOf_L1 p0) n1 = rec1 at hm
    unfold cipher_wordsOf_L1 at hm
    try dsimp only at hm
    refine sw_seq ?_
    -- region 3 cipher.go:20
    refine sw_region [(0, 0)] rfl rfl rfl ?_
    refine sd_vv rfl rfl rfl (vv_lss (a := a4) (b := 8) rfl rfl) ?_
    refine sd_done ?_
    refine sw_seq ?_
    refine sw_cond rfl (fun c1 => ?_) (fun c1 => ?_)
    ·
      replace hm := ite_t (of_decide_eq_true c1) hm
      refine sw_skip ?_
      refine then_n ?_
      refine sw_seq ?_
      refine sw_block ?_
      refine sw_seq ?_
      -- region 4 cipher.go:20
      refine sw_region [(0, 0), (1, 0)] rfl rfl rfl ?_
      refine sd_vv rfl rfl rfl (vv_move rfl) ?_
      refine sd_vv rfl rfl rfl (vv_assign rfl) ?_
      refine sd_done ?_
      -- region 5 cipher.go:21 DRAWS
      refine sw_drawN [([b3]), ([])] [(18, [1]), (20, [1])] (.leaf [(0, 10), (1, 11), (2, 10), (3, 10), (4, 10), (5, 10), (6, 10), (7, 10), (8, 10), (9, 11), (10, 10), (11, 10), (12, 10), (13, 10), (14, 10), (15, 10), (16, 10), (17, 10), (18, 0), (19, 10), (20, 0)]) (by kernel_rfl) (by kernel_rfl) rfl (by kernel_rfl) ?_
      intro w5 Gw5 zw5
      refine sdz_leaf ?_
      refine dd_hn 0 rfl rfl rfl rfl (Kp.refl ([b3]) w5) (fun w hS => vv_fieldAddr fa_233_0 rfl) ?_
      have B10 := (Bx.gr Fw4_0 Gw5)
      refine dd_hn 1 rfl rfl rfl rfl (Kp.refl ([]) w5) (fun w hS => vv_load1 (v := wv a5) one_24 rfl (Bx.kp B10 hS) rfl) ?_
      have hb := bnd hm; clear hm; obtain ⟨n7, hn7, hm⟩ := hb
      refine dd_hn 0 rfl rfl rfl rfl (Kp.refl ([b3]) w5) (fun w hS => vv_shlU (c := a5) (b := (un 8#64)) rfl rfl hn7) ?_
      refine dd_hn 0 rfl rfl rfl rfl (Kp.refl ([b3]) w5) (fun w hS => vv_move rfl) ?_
      have hb := bnd hm; clear hm; obtain ⟨y8, hy8, hm⟩ := hb
      refine dd_hn 0 rfl rfl rfl rfl (Kp.refl ([b3]) w5) (fun w hS => vv_ixK (i := a4) (p := p0) Tryz.underlying23 (one_5).siz rfl rfl hy8) ?_
      have B11 := (Bx.gr (Bx.kz (Bx.gr (Bx.gr Bw1 Gw2) Gw3) Kw4) Gw5)
      refine dd_hn 0 rfl rfl rfl rfl (Kp.refl ([b3]) w5) (fun w hS => vv_ldK (off := 0) (p := p0) (i := a4) one_5 rfl (Bx.kp B11 hS) rfl hy8 (by omega)) ?_
      refine dd_hn 0 rfl rfl rfl rfl (Kp.refl ([b3]) w5) (fun w hS => vv_cvBU cv_5_24 rfl) ?_
      refine dd_hn 0 rfl rfl rfl rfl (Kp.refl ([b3]) w5) (fun w hS => vv_uor (a := a5 <<< n7) (b := y8.setWidth 64) rfl rfl) ?_
      refine dd_hn 0 rfl rfl rfl rfl (Kp.refl ([b3]) w5) (fun w hS => vv_fieldAddr fa_233_1 rfl) ?_
      refine dd_hn 1 rfl rfl rfl rfl (Kp.refl ([]) w5) (fun w hS => vv_load1 (v := wv a6) one_24 rfl (Bx.kp B10 hS) rfl) ?_
      have hb := bnd hm; clear hm; obtain ⟨n9, hn9, hm⟩ := hb
      refine dd_hn 0 rfl rfl rfl rfl (Kp.refl ([b3]) w5) (fun w hS => vv_shlU (c := a6) (b := (un 8#64)) rfl rfl hn9) ?_
      refine dd_hn 0 rfl rfl rfl rfl (Kp.refl ([b3]) w5) (fun w hS => vv_move rfl) ?_
      refine dd_hn 0 rfl rfl rfl rfl (Kp.refl ([b3]) w5) (fun w hS => vv_add (k := .i64) (a := 8) (b := a4) rfl rfl) ?_
      have hb := bnd hm; clear hm; obtain ⟨y10, hy10, hm⟩ := hb
      refine dd_hn 0 rfl rfl rfl rfl (Kp.refl ([b3]) w5) (fun w hS => vv_ixK (i := w64 (8 + a4)) (p := p0) Tryz.underlying23 (one_5).siz rfl rfl hy10) ?_
      refine dd_hn 0 rfl rfl rfl rfl (Kp.refl ([b3]) w5) (fun w hS => vv_ldK (off := 0) (p := p0) (i := w64 (8 + a4)) one_5 rfl (Bx.kp B11 hS) rfl hy10 (by omega)) ?_
      refine dd_hn 0 rfl rfl rfl rfl (Kp.refl ([b3]) w5) (fun w hS => vv_cvBU cv_5_24 rfl) ?_
      refine dd_hn 0 rfl rfl rfl rfl (Kp.refl ([b3]) w5) (fun w hS => vv_uor (a := a6 <<< n9) (b := y10.setWidth 64) rfl rfl) ?_
      refine dd_hn 0 rfl rfl rfl rfl (Kp.refl ([b3]) w5) (fun w hS => vv_fieldAddr fa_233_0 rfl) ?_
      refine dd_z [(1, b3)] rfl rfl rfl (ev_st1 (cs' := Tcipher_pair.cs (Tcipher_pair.mk ((a5 <<< n7) ||| (y8.setWidth 64)) a6)) (one_24).siz rfl rfl rfl B10 rfl rfl) ⟨fun _ => tk0, nofun, trivial⟩ ?_
      rintro _ w6 ⟨Bw6, Mw6⟩
      have z12 := Mw6.size
      refine ⟨Kz.ofMd Mw6, ?_⟩
      have S13 := (Kp.md (Kp.refl ([b3]) w5) Mw6)
      refine dd_hn 0 rfl rfl rfl rfl S13 (fun w hS => vv_fieldAddr fa_233_1 rfl) ?_
      refine dd_z [(1, b3)] rfl rfl rfl (ev_st1 (cs' := Tcipher_pair.cs (Tcipher_pair.mk ((a5 <<< n7) ||| (y8.setWidth 64)) ((a6 <<< n9) ||| (y10.setWidth 64)))) (one_24).siz rfl rfl rfl Bw6 rfl rfl) ⟨fun _ => tk0, nofun, trivial⟩ ?_
      rintro _ w7 ⟨Bw7, Mw7⟩
      have z14 := Mw7.size
      refine ⟨Kz.ofMd Mw7, ?_⟩
      refine sd_nil ?_
      refine block_n ?_
      refine then_n ?_
      -- region 6 cipher.go:20
      refine sw_region [(0, 0), (1, 0)] rfl rfl rfl ?_
      refine sd_vv rfl rfl rfl (vv_add (k := .i64) (a := a4) (b := 1) rfl rfl) ?_
      refine sd_vv rfl rfl rfl (vv_move rfl) ?_
      refine sd_nil ?_
      have K_15 : Kz [(1, b3)] w3 w7 := (Kz.md (Kz.md (Kz.gr Kw4 Gw5) Mw6) Mw7)
      subst hrec1
      refine ⟨rfl, ⟨n1, w64 (a4 + 1), (a5 <<< n7) ||| (y8.setWidth 64), (a6 <<< n9) ||| (y10.setWidth 64)⟩, ?_, ⟨hm, Bw7, K_15⟩, Nat.lt_succ_self _⟩
      repeat' first | exact trivial | refine ⟨rfl, ?_⟩
    ·
      replace hm := ite_f (of_decide_eq_false c1) hm
      refine sw_exit ?_
      refine then_x ?_
      refine then_x ?_
      refine block_x ?_
      refine then_n ?_
      refine sw_seq ?_
      -- region 7 cipher.go:23
      refine sw_region [(0, 0), (1, 0)] rfl rfl rfl ?_
      refine sd_vv rfl rfl rfl (vv_loadW agg_233 rfl Fw4_0 rfl) ?_
      have B16 := (Bx.kz (Bx.gr Bw2 Gw3) Kw4)
      refine sd_ev rfl rfl rfl (ev_stM (cs' := Tcipher_pair.cs (Tcipher_pair.mk a5 a6)) (vs := Tcipher_pair.cs (Tcipher_pair.mk a5 a6)) (agg_233).siz rfl rfl rfl rfl rfl B16 rfl rfl) ?_
      rintro _ w8 ⟨Bw8, Mw8⟩
      have z17 := Mw8.size
      refine sd_done ?_
      refine sw_ret ?_
      have X18 : Gr w w8 := (Gr.md (Gr.kz X7 Kw4) Mw8)
      have hr := Option.some.inj hm
      subst hr
      refine ⟨_, _, rfl, res_1 rfl (rv_cellW agg_233 rfl Bw8 rfl), ?_⟩
      exact ⟨rfl, X18⟩

set_option maxHeartbeats 2000000 in
theorem cipher_Number_w (p0 : W2) (p1 : BitVec 64) (p2 : BitVec 64)  (r : BitVec 64) (hm : cipher_Number p0 p1 p2 = some r) (w : World)   :
    Calls Tryz.prog 100 [kv p0, wv p1, wv p2].toArray w fun e w' => ∃ v, e = .returned v ∧ (v = wv r ∧ Gr w w') := by
  unfold cipher_Number at hm
  refine calls_of_sw (R := fun v w' => v = wv r ∧ Gr w w') 16 Tryz.func100 rfl rfl rfl ?_
  refine sw_seq ?_
  -- region 0 cipher.go:91
  refine sw_region [(0, 0), (1, 0)] rfl rfl rfl ?_
  refine sd_ev rfl rfl rfl (ev_box (cs := kb p0) rfl rfl) ?_
  rintro _ w1 ⟨b1, rfl, hbw1, Bw1, Gw1⟩
  have z1 := Gw1.size
  have lt2 := Bw1.lt
  refine sd_vv rfl rfl rfl (vv_assign rfl) ?_
  refine sd_done ?_
  refine sw_seq ?_
  refine sw_seq ?_
  -- region 1 cipher.go:92
  refine sw_region [(0, 0), (1, 0)] rfl rfl rfl ?_
  refine sd_vv rfl rfl rfl (vv_move rfl) ?_
  refine sd_vv rfl rfl rfl (vv_eqlU (c := p2) (d := 0#64) rfl rfl) ?_
  refine sd_done ?_
  refine sw_cond rfl (fun c1 => ?_) (fun c1 => ?_)
  ·
    replace hm := ite_t (of_decide_eq_true c1) hm
    refine sw_seq ?_
    -- region 2 cipher.go:93
    refine sw_region [(0, 0)] rfl rfl rfl ?_
    refine sd_vv rfl rfl rfl (vv_assign rfl) ?_
    refine sd_done ?_
    refine sw_ret ?_
    refine then_r ?_
    have X3 : Gr w w1 := (Gr.trans (Gr.refl w) Gw1)
    have hr := Option.some.inj hm
    subst hr
    refine ⟨_, _, rfl, res_1 rfl (rv_tmp rfl), ?_⟩
    exact ⟨rfl, X3⟩
  ·
    replace hm := ite_f (of_decide_eq_false c1) hm
    refine sw_skip ?_
    refine then_n ?_
    refine sw_seq ?_
    -- region 3 cipher.go:95
    refine sw_region [(0, 0), (1, 0), (2, 0), (3, 0), (4, 0), (5, 0), (6, 0), (7, 0)] rfl rfl rfl ?_
    refine sd_vv rfl rfl rfl (vv_loadW agg_23 rfl Bw1 rfl) ?_
    refine sd_vv rfl rfl rfl (vv_move rfl) ?_
    refine sd_ev rfl rfl rfl (ev_call en_48 rfl (derive_c p0 (un8 3#8) (un8_nn _) (un8_le _) p1 _)) ?_
    rintro _ w2 ⟨rfl, Gw2⟩
    have z4 := Gw2.size
    have hb := bnd hm; clear hm; obtain ⟨x1, hx1, hm⟩ := hb
    refine sd_ev rfl rfl rfl (ev_call en_175 rfl (cipher_wordsOf_w (drv p0 (un8 3#8) p1) _ hx1 _)) ?_
    rintro _ w3 ⟨rfl, Gw3⟩
    have z5 := Gw3.size
    refine sd_vv rfl rfl rfl (vv_field1 (v := wv x1.x) f1_233_0 rfl rfl) ?_
    refine sd_vv rfl rfl rfl (vv_move rfl) ?_
    have hb := bnd hm; clear hm; obtain ⟨x2, hx2, hm⟩ := hb
    refine sd_vv rfl rfl rfl (vv_remU (c := x1.x) (d := p2) rfl rfl hx2) ?_
    refine sd_vv rfl rfl rfl (vv_assign rfl) ?_
    refine sd_done ?_
    refine sw_ret ?_
    have X6 : Gr w w3 := (Gr.trans (Gr.trans (Gr.trans (Gr.refl w) Gw1) Gw2) Gw3)
    have hr := Option.some.inj hm
    subst hr
    refine ⟨_, _, rfl, res_1 rfl (rv_tmp rfl), ?_⟩
    exact ⟨rfl, X6⟩

set_option maxHeartbeats 2000000 in
theorem poly_secret_w (p0 : W2) (p1 : TScheme)  (r : List (BitVec 64)) (hm : poly_secret p0 p1 = some r) (w : World)   :
    Calls Tryz.prog 99 [kv p0, .agg (TScheme.cs p1).toArray].toArray w fun e w' => ∃ v, e = .returned v ∧ (∃ (ur0_s : Value) (zr0_s : Nat) (gr0_s : Nat), v = ur0_s ∧ Own w' zr0_s gr0_s 24 1 ur0_s (r.map uwc) ∧ Hdn (zr0_s = 0 ∨ w.heap.size ≤ gr0_s) ∧ Gr w w') := by
  unfold poly_secret at hm
  refine calls_of_sw (R := fun v w' => ∃ (ur0_s : Value) (zr0_s : Nat) (gr0_s : Nat), v = ur0_s ∧ Own w' zr0_s gr0_s 24 1 ur0_s (r.map uwc) ∧ Hdn (zr0_s = 0 ∨ w.heap.size ≤ gr0_s) ∧ Gr w w') 31 Tryz.func99 rfl rfl rfl ?_
  refine sw_seq ?_
  -- region 0 poly.go:59
  refine sw_region [(0, 0), (1, 0), (2, 0)] rfl rfl rfl ?_
  refine sd_ev rfl rfl rfl (ev_box (cs := kb p0) rfl rfl) ?_
  rintro _ w1 ⟨b1, rfl, hbw1, Bw1, Gw1⟩
  have z1 := Gw1.size
  have lt2 := Bw1.lt
  refine sd_ev rfl rfl rfl (ev_box (cs := TScheme.cs p1) rfl rfl) ?_
  rintro _ w2 ⟨b2, rfl, hbw2, Bw2, Gw2⟩
  have z3 := Gw2.size
  have lt4 := Bw2.lt
  refine sd_vv rfl rfl rfl (vv_assign rfl) ?_
  refine sd_done ?_
  refine sw_seq ?_
  -- region 1 poly.go:60
  refine sw_region [(0, 0), (1, 0), (2, 0), (3, 0)] rfl rfl rfl ?_
  have B5 := (Bx.gr Bw1 Gw2)
  refine sd_vv rfl rfl rfl (vv_loadW agg_23 rfl B5 rfl) ?_
  refine sd_ev rfl rfl rfl (ev_call en_48 rfl (derive_c p0 (un8 40#8) (un8_nn _) (un8_le _) 0#64 _)) ?_
  rintro _ w3 ⟨rfl, Gw3⟩
  have z6 := Gw3.size
  refine sd_ev rfl rfl rfl (ev_alloc (cs := kb k0) zv_23 rfl) ?_
  rintro _ w4 ⟨b4, rfl, hbw4, Bw4, Gw4⟩
  have z7 := Gw4.size
  have lt8 := Bw4.lt
  refine sd_ev rfl rfl rfl (ev_stM (cs' := kb (drv p0 (un8 40#8) 0#64)) (vs := kb (drv p0 (un8 40#8) 0#64)) (agg_23).siz rfl rfl rfl rfl rfl Bw4 rfl (by obtain ⟨kk0, hk0⟩ := ex_of (drv p0 (un8 40#8) 0#64); rw [← hk0]; first | done | rfl)) ?_
  rintro _ w5 ⟨Bw5, Mw5⟩
  have z9 := Mw5.size
  refine sd_done ?_
  refine sw_seq ?_
  -- region 2 poly.go:61
  refine sw_region [(0, 0), (1, 0), (2, 0), (3, 0), (4, 0)] rfl rfl rfl ?_
  refine sd_vv rfl rfl rfl (vv_fieldAddr fa_28_2 rfl) ?_
  have B10 := (Bx.md (Bx.gr (Bx.gr Bw2 Gw3) Gw4) Mw5)
  refine sd_vv rfl rfl rfl (vv_load1 (v := .int .i64 p1.Degree) one_3 rfl B10 rfl) ?_
  refine sd_vv rfl rfl rfl (vv_add (k := .i64) (a := p1.Degree) (b := 1) rfl rfl) ?_
  have hb := bnd hm; clear hm; obtain ⟨l1, hl1, hm⟩ := hb
  refine sd_ev rfl rfl rfl (ev_mkT (c := uwc) (a := 0#64) apt_161 zv_24 rfl ⟨rfl, rfl⟩ rfl hl1 (by decide)) ?_
  rintro vw6 w6 ⟨gw6, hbw6, Ow6, Gw6⟩
  have z11 := Gw6.size
  have lt12 := Ow6.lth
  refine sd_vv rfl rfl rfl (vv_assign rfl) ?_
  refine sd_done ?_
  refine sw_seq ?_
  refine sw_seq ?_
  -- region 3 poly.go:62
  refine sw_region [(0, 0), (1, 0), (2, 0)] rfl rfl rfl ?_
  refine sd_vv rfl rfl rfl (vv_move rfl) ?_
  refine sd_vv rfl rfl rfl (vv_lenT (l := l1) (c := uwc) Tryz.underlying161 rfl (Own.rd Ow6)) ?_
  refine sd_vv rfl rfl rfl (vv_move rfl) ?_
  refine sd_done ?_
  refine sw_block ?_
  have X13 : Gr w w6 := (Gr.trans (Gr.md (Gr.trans (Gr.trans (Gr.trans (Gr.trans (Gr.refl w) Gw1) Gw2) Gw3) Gw4) Mw5) Gw6)
  refine sw_loopD (α := Nat × List (BitVec 64) × Int × Value × Nat × Nat) [6, 7, 16, 17, 18, 19, 20, 21, 22, 23, 24, 25, 26, 27, 28, 29] (fun ⟨n1, a5, a7, vy6, zy6, gy6⟩ => [(6, vy6), (16, .int .i64 a7)]) (fun ⟨n1, a5, a7, vy6, zy6, gy6⟩ wr => (fixN (poly_secret_L1 p0 p1 l1) n1 (a5, a7) = some r) ∧ Own wr zy6 gy6 24 1 vy6 (a5.map uwc) ∧ Hdn (zy6 = 0 ∨ (gy6 = gw6 ∧ 1 ≠ 0) ∨ w6.heap.size ≤ gy6) ∧ Kz [(1, gw6)] w6 wr) (fun ⟨n1, a5, a7, vy6, zy6, gy6⟩ => n1) ⟨FUEL, l1, 0, vw6, 1, gw6⟩ ?_ ?_ ?_
  · repeat' first | exact trivial | refine ⟨rfl, ?_⟩
  · exact ⟨hm, Ow6, ⟨tk0⟩, Kz.refl _ _⟩
  · clear hm; rintro ⟨n1, a5, a7, vy6, zy6, gy6⟩ w7 ⟨hm, Fw7_0, Fw7_1, Kw7⟩
    have z14 := Kw7.size
    have lt15 := Fw7_0.lth
    have hb := fix_succ hm; clear hm; obtain ⟨n1, rfl, hm⟩ := hb
    generalize hrec1 : fixN (poly_secret_L1 p0 p1 l1) n1 = rec1 at hm
    unfold poly_secret_L1 at hm
    try dsimp only at hm
    refine sw_seq ?_
    -- region 4 poly.go:62
    refine sw_region [(0, 0)] rfl rfl rfl ?_
    refine sd_vv rfl rfl rfl (vv_lss (a := a7) (b := (l1.length : Int)) rfl rfl) ?_
    refine sd_done ?_
    refine sw_seq ?_
    refine sw_cond rfl (fun c1 => ?_) (fun c1 => ?_)
    ·
      replace hm := ite_t (of_decide_eq_true c1) hm
      refine sw_skip ?_
      refine then_n ?_
      refine sw_seq ?_
      refine sw_block ?_
      refine sw_seq ?_
      -- region 5 poly.go:62
      refine sw_region [(0, 0), (1, 0)] rfl rfl rfl ?_
      refine sd_vv rfl rfl rfl (vv_move rfl) ?_
      refine sd_vv rfl rfl rfl (vv_assign rfl) ?_
      refine sd_done ?_
      -- region 6 poly.go:63
      refine sw_region [(0, 0), (1, 0), (2, 0), (3, 0), (4, 0), (5, 0), (6, 0), (7, 0), (8, 0), (9, 0), (10, 0)] rfl rfl rfl ?_
      refine sd_vv rfl rfl rfl (vv_move rfl) ?_
      refine sd_vv rfl rfl rfl (vv_move rfl) ?_
      have B16 := (Bx.kz (Bx.gr Bw5 Gw6) Kw7 (tk1 ((.inr tk0) : 1 = 0 ∨ gw6 ≠ b4)))
      refine sd_vv rfl rfl rfl (vv_loadW agg_23 rfl B16 rfl) ?_
      refine sd_vv rfl rfl rfl (vv_move rfl) ?_
      refine sd_vv rfl rfl rfl (vv_cvIU cv_3_24 rfl) ?_
      refine sd_vv rfl rfl rfl (vv_fieldAddr fa_28_3 rfl) ?_
      refine sd_vv rfl rfl rfl (vv_fieldAddr fa_26_1 rfl) ?_
      have B17 := (Bx.kz (Bx.gr B10 Gw6) Kw7 (tk1 ((.inr tk0) : 1 = 0 ∨ gw6 ≠ b2)))
      refine sd_vv rfl rfl rfl (vv_load1 (v := wv p1.Group.Q) one_24 rfl B17 rfl) ?_
      have hb := bnd hm; clear hm; obtain ⟨x8, hx8, hm⟩ := hb
      refine sd_ev rfl rfl rfl (ev_call en_100 rfl (cipher_Number_w (drv p0 (un8 40#8) 0#64) (wd a7) p1.Group.Q _ hx8 _)) ?_
      rintro _ w8 ⟨rfl, Gw8⟩
      have z18 := Gw8.size
      have hb := bnd hm; clear hm; obtain ⟨y9, hy9, hm⟩ := hb
      have B19 := (Own.gr Fw7_0 Gw8)
      refine sd_vv rfl rfl rfl (vv_ixT (i := a7) Tryz.underlying161 (one_24).siz rfl (Own.rd B19) rfl hy9) ?_
      have zo20 := Own.z1 B19 hy9
      refine sd_ev rfl rfl rfl (ev_stEl (i := a7) (q := 0) (a' := x8) (vs := [wv x8]) (c := uwc) (one_24).siz rfl rfl rfl rfl rfl B19 hy9 (by first | rfl | omega) rfl rfl ⟨rfl, rfl⟩) ?_
      rintro _ w9 ⟨Ow9, Mw9⟩
      have z21 := Mw9.size
      refine sd_nil ?_
      refine block_n ?_
      refine then_n ?_
      -- region 7 poly.go:62
      refine sw_region [(0, 0), (1, 0)] rfl rfl rfl ?_
      refine sd_vv rfl rfl rfl (vv_add (k := .i64) (a := a7) (b := 1) rfl rfl) ?_
      refine sd_vv rfl rfl rfl (vv_move rfl) ?_
      refine sd_nil ?_
      have K_22 : Kz [(1, gw6)] w6 w9 := (Kz.md (Kz.gr Kw7 Gw8) Mw9 (tk1 ((pv_1 (A := (fun x => (x = gw6 ∧ 1 ≠ 0) ∨ w6.heap.size ≤ x)) Fw7_1 tk0) : zy6 = 0 ∨ (gy6 = gw6 ∧ 1 ≠ 0) ∨ w6.heap.size ≤ gy6)))
      subst hrec1
      refine ⟨rfl, ⟨n1, a5.set a7.toNat x8, w64 (a7 + 1), vy6, zy6, gy6⟩, ?_, ⟨hm, Ow9, ⟨(pv_1 (A := (fun x => (x = gw6 ∧ 1 ≠ 0) ∨ w6.heap.size ≤ x)) Fw7_1 tk0)⟩, K_22⟩, Nat.lt_succ_self _⟩
      repeat' first | exact trivial | refine ⟨rfl, ?_⟩
    ·
      replace hm := ite_f (of_decide_eq_false c1) hm
      refine sw_exit ?_
      refine then_x ?_
      refine then_x ?_
      refine block_x ?_
      refine then_n ?_
      refine sw_seq ?_
      -- region 8 poly.go:65
      refine sw_region [(0, 0), (1, 0)] rfl rfl rfl ?_
      refine sd_vv rfl rfl rfl (vv_move rfl) ?_
      refine sd_vv rfl rfl rfl (vv_assign rfl) ?_
      refine sd_done ?_
      refine sw_ret ?_
      have X23 : Gr w w7 := (Gr.kz X13 Kw7 (tk1 ((.inr tk0) : 1 = 0 ∨ w.heap.size ≤ gw6)))
      have hr := Option.some.inj hm
      subst hr
      refine ⟨_, _, rfl, res_1 rfl (rv_tmp rfl), ?_⟩
      exact ⟨vy6, zy6, gy6, rfl, Fw7_0, ⟨(pv_1 (A := (fun x => w.heap.size ≤ x)) Fw7_1 (.inr tk0))⟩, X23⟩

set_option maxHeartbeats 2000000 in
theorem slices_Backward_dc0b_w (p0 : List (BitVec 64)) (vp0 : Value) (zp0 gp0 op0 : Nat) (r : List (BitVec 64)) (hm : slices_Backward_dc0b p0 = some r) (w : World) (hp0 : Rd w zp0 gp0 op0 1 vp0 (p0.map uwc))  :
    Calls Tryz.prog 181 [vp0].toArray w fun e w' => ∃ v, e = .returned v ∧ (∃ (bc0 : Nat) (uc0_s : Value) (zc0_s : Nat) (gc0_s : Nat) (oc0_s : Nat), v = .func (.func 237) #[] [.pointer (some ⟨bc0, 0, none⟩)].toArray ∧ Bx w' bc0 161 ([uc0_s]) ∧ (w.heap.size ≤ bc0) ∧ Rd w' zc0_s gc0_s oc0_s 1 uc0_s (r.map uwc) ∧ Hdn (zc0_s = 0 ∨ (gc0_s = gp0 ∧ zp0 ≠ 0) ∨ w.heap.size ≤ gc0_s) ∧ Gr w w') := by
  have lt1 := hp0.lth
  unfold slices_Backward_dc0b at hm
  refine calls_of_sw (R := fun v w' => ∃ (bc0 : Nat) (uc0_s : Value) (zc0_s : Nat) (gc0_s : Nat) (oc0_s : Nat), v = .func (.func 237) #[] [.pointer (some ⟨bc0, 0, none⟩)].toArray ∧ Bx w' bc0 161 ([uc0_s]) ∧ (w.heap.size ≤ bc0) ∧ Rd w' zc0_s gc0_s oc0_s 1 uc0_s (r.map uwc) ∧ Hdn (zc0_s = 0 ∨ (gc0_s = gp0 ∧ zp0 ≠ 0) ∨ w.heap.size ≤ gc0_s) ∧ Gr w w') 4 Tryz.func181 rfl rfl rfl ?_
  refine sw_seq ?_
  -- region 0 iter.go:26
  refine sw_region [(0, 0), (1, 0)] rfl rfl rfl ?_
  refine sd_ev rfl rfl rfl (ev_box (cs := [vp0]) rfl (cells1 (Rd.oneB hp0))) ?_
  rintro _ w1 ⟨b1, rfl, hbw1, Bw1, Gw1⟩
  have z2 := Gw1.size
  have lt3 := Bw1.lt
  refine sd_vv rfl rfl rfl (vv_assign rfl) ?_
  refine sd_done ?_
  refine sw_seq ?_
  -- region 1 iter.go:27
  refine sw_region [(0, 0), (1, 0)] rfl rfl rfl ?_
  refine sd_vv rfl rfl rfl (vv_makeFunc rfl rfl) ?_
  refine sd_vv rfl rfl rfl (vv_assign rfl) ?_
  refine sd_done ?_
  refine sw_ret ?_
  have B4 := (Rd.gr hp0 Gw1)
  have X5 : Gr w w1 := (Gr.trans (Gr.refl w) Gw1)
  have hr := Option.some.inj hm
  subst hr
  refine ⟨_, _, rfl, res_1 rfl (rv_tmp rfl), ?_⟩
  exact ⟨b1, vp0, zp0, gp0, op0, rfl, Bw1, by omega, B4, ⟨tk0⟩, X5⟩

set_option maxHeartbeats 2000000 in
theorem slices_Backward_1_20b1_it (p1 : List (BitVec 64)) (bp1 : Nat) (vp1_0 : Value) (zp1_0 gp1_0 op1_0 : Nat) (xs : List (Int × BitVec 64)) (hm : slices_Backward_1_20b1 p1 = some xs) (w0 : World) (hbp1 : Bx w0 bp1 161 ([vp1_0])) (hp1_0 : Rd w0 zp1_0 gp1_0 op1_0 1 vp1_0 (p1.map uwc)) :
    IT Tryz.prog 237 [.pointer (some ⟨bp1, 0, none⟩)] (xs.map (fun (x : Int × BitVec 64) => ([.int .i64 x.1, wv x.2] : List Value))) (zf zp1_0 gp1_0 ++ [bp1]) w0 := by
  intro l J Jx w fp hG hJ hJx hcap h0 hY
  have c1 := Rd.gr hp1_0 hG
  have lt2 := c1.lth
  have nb3 : zp1_0 = 0 ∨ gp1_0 ∉ fp := by by_cases hz : zp1_0 = 0; exact .inl hz; exact .inr (hcap _ (by simp [mem_zf, hz]))
  have c4 := Bx.gr hbp1 hG
  have lt5 := c4.lt
  have nb6 : bp1 ∉ fp := hcap _ (by simp)
  have hd := dr_0 xs
  unfold slices_Backward_1_20b1 at hm
  refine calls_of_sw (R := fun v w' => Kp fp w w' ∧ ((∃ fp', (∀ c ∈ fp', c ∈ fp ∨ w.heap.size ≤ c) ∧ J (xs.map (fun (x : Int × BitVec 64) => ([.int .i64 x.1, wv x.2] : List Value))).length fp' w') ∨ (∃ j fp', (∀ c ∈ fp', c ∈ fp ∨ w.heap.size ≤ c) ∧ j ≤ (xs.map (fun (x : Int × BitVec 64) => ([.int .i64 x.1, wv x.2] : List Value))).length ∧ Jx j fp' w'))) 19 Tryz.func237 rfl rfl rfl ?_
  refine sw_seq ?_
  -- region 0 iter.go:28
  refine sw_region [(0, 0), (1, 0), (2, 0), (3, 0)] rfl rfl rfl ?_
  refine sd_vv rfl rfl rfl (vv_load1 (v := vp1_0) one_161 rfl c4 rfl) ?_
  refine sd_vv rfl rfl rfl (vv_lenT (l := p1) (c := uwc) Tryz.underlying161 rfl c1) ?_
  refine sd_vv rfl rfl rfl (vv_sub (k := .i64) (a := (p1.length : Int)) (b := 1) rfl rfl) ?_
  refine sd_vv rfl rfl rfl (vv_assign rfl) ?_
  refine sd_done ?_
  refine sw_block ?_
  refine sw_loopD (α := Nat × Int × Nat × List Nat × List (Int × BitVec 64)) [3, 7, 8, 9, 10, 11, 12, 13, 14, 15, 16, 17, 18] (fun ⟨n1, a2, kk, fpl, rl⟩ => [(3, .int .i64 a2)]) (fun ⟨n1, a2, kk, fpl, rl⟩ wr => (fixN (slices_Backward_1_20b1_L1 p1) n1 a2 = some rl) ∧ Dr xs kk rl ∧ J kk fpl wr ∧ (∀ c ∈ fpl, c ∈ fp ∨ w.heap.size ≤ c) ∧ Kp fp w wr ∧ Rd wr zp1_0 gp1_0 op1_0 1 vp1_0 (p1.map uwc) ∧ Bx wr bp1 161 ([vp1_0]) ∧ (zp1_0 = 0 ∨ gp1_0 ∉ fpl) ∧ bp1 ∉ fpl ∧ True) (fun ⟨n1, a2, kk, fpl, rl⟩ => n1) ⟨FUEL, w64 ((p1.length : Int) - 1), 0, fp, xs⟩ ?_ ?_ ?_
  · repeat' first | exact trivial | refine ⟨rfl, ?_⟩
  · exact ⟨hm, hd, h0, (fun c hc => Or.inl hc), (Kp.refl fp w), c1, c4, nb3, nb6, trivial⟩
  · clear hm; rintro ⟨n1, a2, kk1, fpl1, rl1⟩ w1 ⟨hm, dl1, JLw1, sl1, KLw1, Sw1_0, Sw1_1, Nw1_0, Nw1_1, -⟩
    have z7 := KLw1.size
    have lt8 := Sw1_0.lth
    have lt9 := Sw1_1.lt
    have hb := fix_succ hm; clear hm; obtain ⟨n1, rfl, hm⟩ := hb
    generalize hrec1 : fixN (slices_Backward_1_20b1_L1 p1) n1 = rec1 at hm
    unfold slices_Backward_1_20b1_L1 at hm
    try dsimp only at hm
    refine sw_seq ?_
    refine sw_seq ?_
    -- region 1 iter.go:28
    refine sw_region [(0, 0), (1, 0)] rfl rfl rfl ?_
    refine sd_vv rfl rfl rfl (vv_move rfl) ?_
    refine sd_vv rfl rfl rfl (vv_geq (a := a2) (b := 0) rfl rfl) ?_
    refine sd_done ?_
    refine sw_cond rfl (fun c1 => ?_) (fun c1 => ?_)
    ·
      replace hm := ite_t (of_decide_eq_true c1) hm
      refine sw_skip ?_
      refine then_n ?_
      refine sw_seq ?_
      refine sw_block ?_
      refine sw_seq ?_
      -- region 3 iter.go:29
      refine sw_region [(0, 0), (1, 0), (2, 0), (3, 0), (4, 0), (5, 0), (6, 0), (7, 0)] rfl rfl rfl ?_
      refine sd_vv rfl rfl rfl (vv_move rfl) ?_
      refine sd_vv rfl rfl rfl (vv_move rfl) ?_
      refine sd_vv rfl rfl rfl (vv_load1 (v := vp1_0) one_161 rfl Sw1_1 rfl) ?_
      refine sd_vv rfl rfl rfl (vv_move rfl) ?_
      have hb := bnd hm; clear hm; obtain ⟨y3, hy3, hm⟩ := hb
      refine sd_vv rfl rfl rfl (vv_ixT (i := a2) Tryz.underlying161 (one_24).siz rfl Sw1_0 rfl hy3) ?_
      refine sd_vv rfl rfl rfl (vv_el1T (q := 0) (u := wv y3) one_24 rfl Sw1_0 hy3 (by first | rfl | omega) rfl) ?_
      obtain ⟨rr10, hm, he10⟩ := yl_some hm
      have hx10 := Dr.at dl1 he10
      have hd10 := Dr.next dl1 he10
      refine sd_ev rfl rfl rfl (ev_yield rfl rfl (hY _ _ _ _ (getm hx10) JLw1 KLw1 sl1)) ?_
      rintro _ w2 ⟨bb, rfl, KF10, fp10, hg10, hJb⟩
      have z11 := KF10.size
      have sub10 : ∀ c ∈ fp10, c ∈ fp ∨ w.heap.size ≤ c := sub_grow sl1 hg10 (by omega)
      have nb12 := notin_growz hg10 Nw1_0 (by have := lt8.o; omega)
      have nb13 := notin_grow hg10 Nw1_1 (by omega)
      cases bb
      ·
        have Jy10 : Jx (kk1 + 1) fp10 w2 := hJb
        refine sd_vv rfl rfl rfl (vv_not rfl) ?_
        refine sd_done ?_
        refine sw_condT rfl ?_
        refine sw_ret ?_
        refine block_r ?_
        refine then_r ?_
        refine then_r ?_
        refine block_r ?_
        have KI14 : Kp fp w w2 := (Kp.trans KLw1 KF10 sl1)
        exact ⟨_, _, rfl, res_none rfl, KI14, .inr ⟨_, _, sub10, (by rw [List.length_map]; exact (List.getElem?_eq_some_iff.1 hx10).1), Jy10⟩⟩
      ·
        have Jy10 : J (kk1 + 1) fp10 w2 := hJb
        refine sd_vv rfl rfl rfl (vv_not rfl) ?_
        refine sd_done ?_
        refine sw_condF rfl ?_
        refine sw_skip ?_
        refine block_n ?_
        refine then_n ?_
        -- region 2 iter.go:28
        refine sw_region [(0, 0), (1, 0), (2, 0)] rfl rfl rfl ?_
        refine sd_vv rfl rfl rfl (vv_move rfl) ?_
        refine sd_vv rfl rfl rfl (vv_sub (k := .i64) (a := a2) (b := 1) rfl rfl) ?_
        refine sd_vv rfl rfl rfl (vv_assign rfl) ?_
        refine sd_nil ?_
        have KI15 : Kp fp w w2 := (Kp.trans KLw1 KF10 sl1)
        have B16 := (Rd.kp Sw1_0 KF10 Nw1_0)
        have B17 := (Bx.kp Sw1_1 KF10 Nw1_1)
        subst hrec1
        refine ⟨rfl, ⟨n1, w64 (a2 - 1), (kk1 + 1), fp10, rr10⟩, ?_, ⟨hm, hd10, Jy10, sub10, KI15, B16, B17, nb12, nb13, trivial⟩, Nat.lt_succ_self _⟩
        repeat' first | exact trivial | refine ⟨rfl, ?_⟩
    ·
      replace hm := ite_f (of_decide_eq_false c1) hm
      refine sw_exit ?_
      refine then_x ?_
      refine then_x ?_
      refine block_x ?_
      have he := Option.some.inj hm
      have hl := Dr.last (c := (fun (x : Int × BitVec 64) => ([.int .i64 x.1, wv x.2] : List Value))) dl1 he.symm
      refine ⟨_, _, rfl, res_none rfl, KLw1, .inl ⟨_, sl1, ?_⟩⟩
      rw [← hl]; exact JLw1

set_option maxHeartbeats 2000000 in
theorem poly_field_mul_w (p0 : BitVec 64) (p1 : List (BitVec 64)) (vp1 : Value) (zp1 gp1 op1 : Nat) (r : BitVec 64) (hm : poly_field_mul p0 p1 = some r) (w : World) (hp1 : Rd w zp1 gp1 op1 1 vp1 (p1.map uwc))  :
    Calls Tryz.prog 108 [wv p0, vp1].toArray w fun e w' => ∃ v, e = .returned v ∧ (v = wv r ∧ Gr w w') := by
  have lt1 := hp1.lth
  unfold poly_field_mul at hm
  refine calls_of_sw (R := fun v w' => v = wv r ∧ Gr w w') 21 Tryz.func108 rfl rfl rfl ?_
  refine sw_seq ?_
  -- region 0 poly.go:19
  refine sw_region [(0, 0)] rfl rfl rfl ?_
  refine sd_vv rfl rfl rfl (vv_assign rfl) ?_
  refine sd_done ?_
  refine sw_seq ?_
  -- region 1 poly.go:20
  refine sw_region [(0, 0)] rfl rfl rfl ?_
  refine sd_vv rfl rfl rfl (vv_assign rfl) ?_
  refine sd_done ?_
  refine sw_seq ?_
  refine sw_seq ?_
  -- region 2 poly.go:21
  refine sw_region [(0, 0), (1, 0), (2, 0)] rfl rfl rfl ?_
  refine sd_vv rfl rfl rfl (vv_move rfl) ?_
  refine sd_vv rfl rfl rfl (vv_lenT (l := p1) (c := uwc) Tryz.underlying160 rfl hp1) ?_
  refine sd_vv rfl rfl rfl (vv_move rfl) ?_
  refine sd_done ?_
  refine sw_block ?_
  refine sw_loopD (α := Nat × BitVec 64 × Int) [5, 7, 10, 11, 12, 13, 14, 15, 16, 17, 18, 19] (fun ⟨n1, a3, a4⟩ => [(5, wv a3), (10, .int .i64 a4)]) (fun ⟨n1, a3, a4⟩ wr => (fixN (poly_field_mul_L1 p0 p1) n1 (a3, a4) = some r) ∧ Kz [] w wr) (fun ⟨n1, a3, a4⟩ => n1) ⟨FUEL, 1#64, 0⟩ ?_ ?_ ?_
  · repeat' first | exact trivial | refine ⟨rfl, ?_⟩
  · exact ⟨hm, Kz.refl _ _⟩
  · clear hm; rintro ⟨n1, a3, a4⟩ w1 ⟨hm, Kw1⟩
    have z2 := Kw1.size
    have hb := fix_succ hm; clear hm; obtain ⟨n1, rfl, hm⟩ := hb
    generalize hrec1 : fixN (poly_field_mul_L1 p0 p1) n1 = rec1 at hm
    unfold poly_field_mul_L1 at hm
    try dsimp only at hm
    refine sw_seq ?_
    -- region 3 poly.go:21
    refine sw_region [(0, 0)] rfl rfl rfl ?_
    refine sd_vv rfl rfl rfl (vv_lss (a := a4) (b := (p1.length : Int)) rfl rfl) ?_
    refine sd_done ?_
    refine sw_seq ?_
    refine sw_cond rfl (fun c1 => ?_) (fun c1 => ?_)
    ·
      replace hm := ite_t (of_decide_eq_true c1) hm
      refine sw_skip ?_
      refine then_n ?_
      refine sw_seq ?_
      refine sw_block ?_
      refine sw_seq ?_
      -- region 4 poly.go:21
      refine sw_region [(0, 0), (1, 0), (2, 0)] rfl rfl rfl ?_
      have hb := bnd hm; clear hm; obtain ⟨y5, hy5, hm⟩ := hb
      have B3 := (Rd.kz hp1 Kw1)
      refine sd_vv rfl rfl rfl (vv_ixT (i := a4) Tryz.underlying160 (one_24).siz rfl B3 rfl hy5) ?_
      refine sd_vv rfl rfl rfl (vv_el1T (q := 0) (u := wv y5) one_24 rfl B3 hy5 (by first | rfl | omega) rfl) ?_
      refine sd_vv rfl rfl rfl (vv_assign rfl) ?_
      refine sd_done ?_
      -- region 5 poly.go:22
      refine sw_region [(0, 0), (1, 0), (2, 0), (3, 0), (4, 0), (5, 0)] rfl rfl rfl ?_
      refine sd_vv rfl rfl rfl (vv_move rfl) ?_
      refine sd_vv rfl rfl rfl (vv_move rfl) ?_
      refine sd_vv rfl rfl rfl (vv_umul (a := a3) (b := y5) rfl rfl) ?_
      refine sd_vv rfl rfl rfl (vv_move rfl) ?_
      have hb := bnd hm; clear hm; obtain ⟨x6, hx6, hm⟩ := hb
      refine sd_vv rfl rfl rfl (vv_remU (c := a3 * y5) (d := p0) rfl rfl hx6) ?_
      refine sd_vv rfl rfl rfl (vv_assign rfl) ?_
      refine sd_nil ?_
      refine block_n ?_
      refine then_n ?_
      -- region 6 poly.go:21
      refine sw_region [(0, 0), (1, 0)] rfl rfl rfl ?_
      refine sd_vv rfl rfl rfl (vv_add (k := .i64) (a := a4) (b := 1) rfl rfl) ?_
      refine sd_vv rfl rfl rfl (vv_move rfl) ?_
      refine sd_nil ?_
      have K_4 : Kz [] w w1 := Kw1
      subst hrec1
      refine ⟨rfl, ⟨n1, x6, w64 (a4 + 1)⟩, ?_, ⟨hm, K_4⟩, Nat.lt_succ_self _⟩
      repeat' first | exact trivial | refine ⟨rfl, ?_⟩
    ·
      replace hm := ite_f (of_decide_eq_false c1) hm
      refine sw_exit ?_
      refine then_x ?_
      refine then_x ?_
      refine block_x ?_
      refine then_n ?_
      refine sw_seq ?_
      -- region 7 poly.go:24
      refine sw_region [(0, 0), (1, 0)] rfl rfl rfl ?_
      refine sd_vv rfl rfl rfl (vv_move rfl) ?_
      refine sd_vv rfl rfl rfl (vv_assign rfl) ?_
      refine sd_done ?_
      refine sw_ret ?_
      have X5 : Gr w w1 := (Gr.kz (Gr.refl w) Kw1)
      have hr := Option.some.inj hm
      subst hr
      refine ⟨_, _, rfl, res_1 rfl (rv_tmp rfl), ?_⟩
      exact ⟨rfl, X5⟩

set_option maxHeartbeats 2000000 in
theorem poly_polynomial_at_w (p0 : List (BitVec 64)) (p1 : BitVec 64) (p2 : BitVec 64) (vp0 : Value) (zp0 gp0 op0 : Nat) (r : BitVec 64) (hm : poly_polynomial_at p0 p1 p2 = some r) (w : World) (hp0 : Rd w zp0 gp0 op0 1 vp0 (p0.map uwc))  :
    Calls Tryz.prog 103 [vp0, wv p1, wv p2].toArray w fun e w' => ∃ v, e = .returned v ∧ (v = wv r ∧ Gr w w') := by
  have lt1 := hp0.lth
  unfold poly_polynomial_at at hm
  refine calls_of_sw (R := fun v w' => v = wv r ∧ Gr w w') 24 Tryz.func103 rfl rfl rfl ?_
  refine sw_seq ?_
  -- region 0 poly.go:37
  refine sw_region [(0, 0), (1, 0), (2, 0)] rfl rfl rfl ?_
  refine sd_ev rfl rfl rfl (ev_box (cs := [wv p1]) rfl rfl) ?_
  rintro _ w1 ⟨b1, rfl, hbw1, Bw1, Gw1⟩
  have z2 := Gw1.size
  have lt3 := Bw1.lt
  refine sd_ev rfl rfl rfl (ev_box (cs := [wv p2]) rfl rfl) ?_
  rintro _ w2 ⟨b2, rfl, hbw2, Bw2, Gw2⟩
  have z4 := Gw2.size
  have lt5 := Bw2.lt
  refine sd_vv rfl rfl rfl (vv_assign rfl) ?_
  refine sd_done ?_
  refine sw_seq ?_
  -- region 1 poly.go:38
  refine sw_region [(0, 0), (1, 0)] rfl rfl rfl ?_
  refine sd_ev rfl rfl rfl (ev_alloc (cs := [wv 0#64]) zv_24 rfl) ?_
  rintro _ w3 ⟨b3, rfl, hbw3, Bw3, Gw3⟩
  have z6 := Gw3.size
  have lt7 := Bw3.lt
  refine sd_ev rfl rfl rfl (ev_st1 (cs' := [wv 0#64]) (one_24).siz rfl rfl rfl Bw3 rfl rfl) ?_
  rintro _ w4 ⟨Bw4, Mw4⟩
  have z8 := Mw4.size
  refine sd_done ?_
  refine sw_seq ?_
  refine sw_seq ?_
  -- region 2 poly.go:39
  refine sw_region [(0, 0), (1, 0)] rfl rfl rfl ?_
  refine sd_vv rfl rfl rfl (vv_move rfl) ?_
  have B9 := (Rd.md (Rd.gr (Rd.gr (Rd.gr hp0 Gw1) Gw2) Gw3) Mw4 (tk1 ((pv_lt (A := (fun x => x ≠ b3)) lt1) : zp0 = 0 ∨ gp0 ≠ b3)))
  have hb := bnd hm; clear hm; obtain ⟨x1, hx1, hm⟩ := hb
  refine sd_ev rfl rfl rfl (ev_call en_181 rfl (slices_Backward_dc0b_w p0 _ _ _ _ _ hx1 _ B9)) ?_
  rintro _ w5 ⟨k5_c0_0, u5_c00_s, z5_c00_s, g5_c00_s, o5_c00_s, rfl, O5_c0_0, f5_c0_0, O5_c00_s, f5_c00_s, Gw5⟩
  have z10 := Gw5.size
  have lt11 := O5_c00_s.lth
  have lt12 := O5_c0_0.lt
  refine sd_done ?_
  refine sw_block ?_
  have hb := bnd hm; clear hm; obtain ⟨l2, hl2, hm⟩ := hb
  have X13 : Gr w w5 := (Gr.trans (Gr.md (Gr.trans (Gr.trans (Gr.trans (Gr.refl w) Gw1) Gw2) Gw3) Mw4) Gw5)
  have B14 := (Rd.gr B9 Gw5)
  have B15 := (Bx.gr (Bx.md (Bx.gr (Bx.gr Bw1 Gw2) Gw3) Mw4) Gw5)
  have B16 := (Bx.gr (Bx.md (Bx.gr Bw2 Gw3) Mw4) Gw5)
  have B17 := (Bx.gr Bw4 Gw5)
  refine sw_rangeFunc (gf := 237) rfl en_237 (slices_Backward_1_20b1_it x1 _ _ _ _ _ _ hl2 _ O5_c0_0 O5_c00_s) (by intro x hx; obtain ⟨a, _, rfl⟩ := List.mem_map.1 hx; rfl) rfl _ (fun _ _ _ _ => False) ([b3]) (stb_mk (α := BitVec 64) (fun a4 rk => itL (poly_polynomial_at_R1 p1 p2) poly_polynomial_at_D1 (List.drop rk l2) a4 = some r) (fun a4 => ([b3])) (fun a4 W => Bx W b3 24 ([wv a4]) ∧ True) (by rintro a4 W ⟨F0, _⟩ b hb; have q0 := F0.lt; replace hb : b ∈ ([b3]) := hb; simp only [List.mem_cons, List.mem_append, mem_zf, List.not_mem_nil, or_false, false_or, not_or, ne_eq, List.nil_append, List.cons_append, true_and, and_true, false_and, and_false, not_true_eq_false, not_false_eq_true, or_true, true_or] at hb; omega) (by rintro a4 W W' ⟨F0, _⟩ E hs; replace hs : ∀ b ∈ ([b3]), W'.heap[b]? = W.heap[b]? := hs; exact ⟨(hs _ (by simp)).trans F0, trivial⟩)) (fun _ => stb_false) (by intro b hb; have := ((pv_1 (A := (fun x => x ≠ b3)) f5_c00_s (pv_lt (A := (fun x => x ≠ b3)) lt1)) : z5_c00_s = 0 ∨ g5_c00_s ≠ b3); have := lt11.o; simp only [List.mem_cons, List.mem_append, mem_zf, List.not_mem_nil, or_false, false_or, not_or, ne_eq, List.nil_append, List.cons_append, true_and, and_true, false_and, and_false, not_true_eq_false, not_false_eq_true, or_true, true_or] at hb ⊢; omega) ⟨0#64, hm, rfl, B17, trivial⟩ ?_ ?_ ?_
  · rintro l rk x fp w6 hl hx _ Kw6 hF hln hlt
    clear hm
    obtain ⟨⟨e5, e6⟩, hxe, rfl⟩ := map_some hx
    have Zw6 : Kz [(1, b3)] w5 w6 := kz_of_kp Kw6 (by intro k hk; simp only [Nin, and_true, List.mem_cons, List.mem_append, mem_zf, List.not_mem_nil, or_false, false_or, not_or, ne_eq, List.nil_append, List.cons_append, true_and, and_true, false_and, and_false, not_true_eq_false, not_false_eq_true, or_true, true_or] at hk ⊢; omega)
    have z18 := Kw6.size
    -- region 3 poly.go:39
    refine sw_region [(0, 0)] rfl rfl rfl ?_
    refine sd_vv rfl rfl rfl (vv_assign rfl) ?_
    refine sd_nil ?_
    refine ⟨rfl, (Gr.refl _), ?_⟩
    rintro w7 Mw7 ⟨a4, hm, rfl, Fw7_0, -⟩
    have z19 := Mw7.size
    have lt20 := Fw7_0.lt
    replace hm := itL_at hm hxe
    generalize hnx1 : itL (poly_polynomial_at_R1 p1 p2) poly_polynomial_at_D1 (List.drop (rk + 1) l2) = nx1 at hm
    unfold poly_polynomial_at_R1 at hm
    try dsimp only at hm
    refine sw_block ?_
    -- region 4 poly.go:40 DRAWS
    refine sw_drawN [([b3]), ([])] [(9, [1])] (.leaf [(0, 10), (1, 11), (2, 10), (5, 10), (7, 10), (3, 0), (4, 0), (6, 10), (8, 10), (9, 0)]) (by kernel_rfl) (by kernel_rfl) rfl (by kernel_rfl) ?_
    intro w8 Gw8 zw8
    refine sdz_leaf ?_
    have B21 := (Bx.gr (Bx.md (Bx.kz B15 Zw6) Mw7) Gw8)
    refine dd_hn 0 rfl rfl rfl rfl (Kp.refl ([b3]) w8) (fun w hS => vv_load1 (v := wv p1) one_163 rfl (Bx.kp B21 hS) rfl) ?_
    have B22 := (Bx.gr Fw7_0 Gw8)
    refine dd_hn 1 rfl rfl rfl rfl (Kp.refl ([]) w8) (fun w hS => vv_load1 (v := wv a4) one_24 rfl (Bx.kp B22 hS) rfl) ?_
    have B23 := (Bx.gr (Bx.md (Bx.kz B16 Zw6) Mw7) Gw8)
    refine dd_hn 0 rfl rfl rfl rfl (Kp.refl ([b3]) w8) (fun w hS => vv_load1 (v := wv p2) one_24 rfl (Bx.kp B23 hS) rfl) ?_
    refine dd_hn 0 rfl rfl rfl rfl (Kp.refl ([b3]) w8) (fun w hS => vv_move rfl) ?_
    refine dd_hn 0 rfl rfl rfl rfl (Kp.refl ([b3]) w8) (fun w hS => vv_load1 (v := wv p1) one_163 rfl (Bx.kp B21 hS) rfl) ?_
    refine dd_z [] rfl rfl rfl (ev_litT [a4, p2] uwc bsl_160_2 rfl rfl (ws_of rfl) rfl rfl rfl) ⟨fun _ => tk0, fun _ => tk0, trivial⟩ ?_
    rintro vw9 w9 ⟨gw9, hbw9, Ow9, Gw9⟩
    have z24 := Gw9.size
    have lt25 := Ow9.lth
    refine ⟨Kz.ofGr Gw9, ?_⟩
    have hb := bnd hm; clear hm; obtain ⟨x7, hx7, hm⟩ := hb
    refine dd_z [] rfl rfl rfl (ev_call en_108 rfl (poly_field_mul_w p1 [a4, p2] _ _ _ _ _ hx7 _ (Own.rd Ow9))) ⟨fun _ => tk0, fun _ => tk0, trivial⟩ ?_
    rintro _ w10 ⟨rfl, Gw10⟩
    have z26 := Gw10.size
    refine ⟨Kz.ofGr Gw10, ?_⟩
    have S27 := (Kp.gr (Kp.gr (Kp.refl ([b3]) w8) Gw9) Gw10)
    refine dd_hn 0 rfl rfl rfl rfl S27 (fun w hS => vv_uadd (a := x7) (b := e6) rfl rfl) ?_
    have hb := bnd hm; clear hm; obtain ⟨x8, hx8, hm⟩ := hb
    refine dd_hn 0 rfl rfl rfl rfl S27 (fun w hS => vv_remU (c := x7 + e6) (d := p1) rfl rfl hx8) ?_
    have B28 := (Bx.gr (Bx.gr B22 Gw9) Gw10)
    refine dd_z [(1, b3)] rfl rfl rfl (ev_st1 (cs' := [wv x8]) (one_24).siz rfl rfl rfl B28 rfl rfl) ⟨fun _ => tk0, nofun, trivial⟩ ?_
    rintro _ w11 ⟨Bw11, Mw11⟩
    have z29 := Mw11.size
    refine ⟨Kz.ofMd Mw11, ?_⟩
    refine sd_nil ?_
    refine block_n ?_
    have K_30 : Kz [(1, b3)] w7 w11 := (Kz.md (Kz.gr (Kz.gr (Kz.gr (Kz.refl _ _) Gw8) Gw9) Gw10) Mw11)
    have Kq30 : Kp ([b3]) w7 w11 := kp_of_kz K_30 (by intro k hk; simp only [Nin, and_true, List.mem_cons, List.mem_append, mem_zf, List.not_mem_nil, or_false, false_or, not_or, ne_eq, List.nil_append, List.cons_append, true_and, and_true, false_and, and_false, not_true_eq_false, not_false_eq_true, or_true, true_or] at hk ⊢; omega)
    subst hnx1
    exact ⟨Kq30, ([b3]), (by intro c hc; simp only [List.mem_cons, List.mem_append, mem_zf, List.not_mem_nil, or_false, false_or, not_or, ne_eq, List.nil_append, List.cons_append, true_and, and_true, false_and, and_false, not_true_eq_false, not_false_eq_true, or_true, true_or] at hc ⊢; omega), ⟨x8, hm, rfl, Bw11, trivial⟩⟩
  · clear hm; rintro Dw12 fp w12 hDw12 Dfw12 nw12 ⟨a4, hm, rfl, Fw12_0, -⟩ Kw12
    replace hm := itL_end hm
    have Zw12 : Kz [(1, b3)] w5 w12 := kz_of_kp Kw12 (by intro k hk; simp only [Nin, and_true, List.mem_cons, List.mem_append, mem_zf, List.not_mem_nil, or_false, false_or, not_or, ne_eq, List.nil_append, List.cons_append, true_and, and_true, false_and, and_false, not_true_eq_false, not_false_eq_true, or_true, true_or] at hk ⊢; omega)
    have z31 := Kw12.size
    have lt32 := Df.lt (w := w12) Dfw12
    simp only [List.mem_cons, List.mem_append, mem_zf, List.not_mem_nil, or_false, false_or, not_or, ne_eq, List.nil_append, List.cons_append, true_and, and_true, false_and, and_false, not_true_eq_false, not_false_eq_true, or_true, true_or, not_and] at nw12
    have lt33 := Fw12_0.lt
    unfold poly_polynomial_at_D1 at hm
    try dsimp only at hm
    refine block_n ?_
    refine then_n ?_
    refine sw_seq ?_
    -- region 5 poly.go:42
    refine sw_region [(0, 0), (1, 0)] rfl rfl rfl ?_
    refine sd_vv rfl rfl rfl (vv_load1 (v := wv a4) one_24 rfl Fw12_0 rfl) ?_
    refine sd_vv rfl rfl rfl (vv_assign rfl) ?_
    refine sd_done ?_
    refine sw_ret ?_
    have DL34 := Dfw12
    have L34 := Md.put (w := w12) Dw12 (.deferred none)
    have zL34 := L34.size
    have X35 : Gr w (w12.putObj Dw12 (.deferred none)) := (Gr.md (Gr.kz X13 Zw12) L34)
    have hr := Option.some.inj hm
    subst hr
    refine ⟨_, _, ⟨Dw12, rfl, DL34, rfl⟩, res_1 rfl (rv_tmp rfl), ?_⟩
    exact ⟨rfl, X35⟩
  · rintro _ _ _ _ _ _ _ _ _ h _
    exact h.elim

set_option maxHeartbeats 2000000 in
theorem poly_Secret_w (p0 : W2) (p1 : TScheme) (p2 : Int)  (r : TSecret × Int) (hm : poly_Secret p0 p1 p2 = some r) (w : World)   :
    Calls Tryz.prog 140 [kv p0, .agg (TScheme.cs p1).toArray, .int .i64 p2].toArray w fun e w' => ∃ v, e = .returned v ∧ (∃ (ur0_1 : Value) (zr0_1 : Nat) (gr0_1 : Nat), v = .tuple [.agg (TSecret.cs r.1 ur0_1).toArray, .int .i64 r.2].toArray ∧ Own w' zr0_1 gr0_1 92 18 ur0_1 (r.1.Labels.map TLabel.cs) ∧ Hdn (zr0_1 = 0 ∨ w.heap.size ≤ gr0_1) ∧ Gr w w') := by
  unfold poly_Secret at hm
  refine calls_of_sw (R := fun v w' => ∃ (ur0_1 : Value) (zr0_1 : Nat) (gr0_1 : Nat), v = .tuple [.agg (TSecret.cs r.1 ur0_1).toArray, .int .i64 r.2].toArray ∧ Own w' zr0_1 gr0_1 92 18 ur0_1 (r.1.Labels.map TLabel.cs) ∧ Hdn (zr0_1 = 0 ∨ w.heap.size ≤ gr0_1) ∧ Gr w w') 38 Tryz.func140 rfl rfl rfl ?_
  refine sw_seq ?_
  -- region 0 poly.go:127
  refine sw_region [(0, 0), (1, 0), (2, 0), (3, 0)] rfl rfl rfl ?_
  refine sd_ev rfl rfl rfl (ev_box (cs := kb p0) rfl rfl) ?_
  rintro _ w1 ⟨b1, rfl, hbw1, Bw1, Gw1⟩
  have z1 := Gw1.size
  have lt2 := Bw1.lt
  refine sd_ev rfl rfl rfl (ev_box (cs := TScheme.cs p1) rfl rfl) ?_
  rintro _ w2 ⟨b2, rfl, hbw2, Bw2, Gw2⟩
  have z3 := Gw2.size
  have lt4 := Bw2.lt
  refine sd_ev rfl rfl rfl (ev_alloc (cs := TSecret.cs (TSecret.mk 0 [] (TPoint.mk 0#64 0#64)) (.slice none 0 0)) zv_33 rfl) ?_
  rintro _ w3 ⟨b3, rfl, hbw3, Bw3, Gw3⟩
  have z5 := Gw3.size
  have lt6 := Bw3.lt
  refine sd_vv rfl rfl rfl (vv_assign rfl) ?_
  refine sd_done ?_
  refine sw_seq ?_
  refine sw_seq ?_
  -- region 1 poly.go:128
  refine sw_region [(0, 0), (1, 0), (2, 0)] rfl rfl rfl ?_
  have B7 := (Bx.gr Bw2 Gw3)
  refine sd_vv rfl rfl rfl (vv_loadW agg_28 rfl B7 rfl) ?_
  have hb := bnd hm; clear hm; obtain ⟨x1, hx1, hm⟩ := hb
  refine sd_ev rfl rfl rfl (ev_call en_98 rfl (poly_valid_w p1 _ hx1 _)) ?_
  rintro _ w4 ⟨rfl, Gw4⟩
  have z8 := Gw4.size
  refine sd_vv rfl rfl rfl (vv_not rfl) ?_
  refine sd_done ?_
  refine sw_cond rfl (fun c1 => ?_) (fun c1 => ?_)
  ·
    replace hm := cnd_t c1 hm
    refine sw_seq ?_
    -- region 2 poly.go:129
    refine sw_region [(0, 0), (1, 0), (2, 0)] rfl rfl rfl ?_
    refine sd_vv rfl rfl rfl (vv_build (cs := TSecret.cs (TSecret.mk 0 [] (TPoint.mk 0#64 0#64)) (.slice none 0 0)) bs_33 rfl rfl) ?_
    have B9 := (Bx.gr Bw3 Gw4)
    refine sd_ev rfl rfl rfl (ev_stM (cs' := TSecret.cs (TSecret.mk 0 [] (TPoint.mk 0#64 0#64)) (.slice none 0 0)) (vs := TSecret.cs (TSecret.mk 0 [] (TPoint.mk 0#64 0#64)) (.slice none 0 0)) (agg_33).siz rfl rfl rfl rfl (TSecret.cs_ones _ _ rfl) B9 rfl rfl) ?_
    rintro _ w5 ⟨Bw5, Mw5⟩
    have z10 := Mw5.size
    refine sd_vv rfl rfl rfl (vv_assign rfl) ?_
    refine sd_done ?_
    refine sw_ret ?_
    refine then_r ?_
    have X11 : Gr w w5 := (Gr.md (Gr.trans (Gr.trans (Gr.trans (Gr.trans (Gr.refl w) Gw1) Gw2) Gw3) Gw4) Mw5)
    have hr := Option.some.inj hm
    subst hr
    refine ⟨_, _, rfl, res_2 rfl (rv_cellW agg_33 rfl Bw5 rfl) (rv_tmp rfl), ?_⟩
    exact ⟨(.slice none 0 0), 0, 0, rfl, (own_nil _ 0 92 18), ⟨.inl rfl⟩, X11⟩
  ·
    replace hm := cnd_f c1 hm
    refine sw_skip ?_
    refine then_n ?_
    refine sw_seq ?_
    have X12 : Gr w w4 := (Gr.trans (Gr.trans (Gr.trans (Gr.trans (Gr.refl w) Gw1) Gw2) Gw3) Gw4)
    refine sw_joinD (β := Bool) [13, 14, 15, 16, 17, 18, 19, 20, 21] (fun a2 => [(21, .bool a2)]) (fun a2 wr => (poly_Secret_J1 p0 p1 p2 a2 = some r) ∧ Kz [] w4 wr) ?_ ?_
    · clear hm; rintro a2 w6 ⟨hm, Kw6⟩
      have z13 := Kw6.size
      unfold poly_Secret_J1 at hm
      refine sw_cond rfl (fun c2 => ?_) (fun c2 => ?_)
      ·
        replace hm := cnd_t c2 hm
        refine sw_seq ?_
        -- region 4 poly.go:132
        refine sw_region [(0, 0), (1, 0), (2, 0)] rfl rfl rfl ?_
        refine sd_vv rfl rfl rfl (vv_build (cs := TSecret.cs (TSecret.mk 0 [] (TPoint.mk 0#64 0#64)) (.slice none 0 0)) bs_33 rfl rfl) ?_
        have B14 := (Bx.kz (Bx.gr Bw3 Gw4) Kw6)
        refine sd_ev rfl rfl rfl (ev_stM (cs' := TSecret.cs (TSecret.mk 0 [] (TPoint.mk 0#64 0#64)) (.slice none 0 0)) (vs := TSecret.cs (TSecret.mk 0 [] (TPoint.mk 0#64 0#64)) (.slice none 0 0)) (agg_33).siz rfl rfl rfl rfl (TSecret.cs_ones _ _ rfl) B14 rfl rfl) ?_
        rintro _ w7 ⟨Bw7, Mw7⟩
        have z15 := Mw7.size
        refine sd_vv rfl rfl rfl (vv_assign rfl) ?_
        refine sd_done ?_
        refine sw_ret ?_
        refine then_r ?_
        have X16 : Gr w w7 := (Gr.md (Gr.kz X12 Kw6) Mw7)
        have hr := Option.some.inj hm
        subst hr
        refine ⟨_, _, rfl, res_2 rfl (rv_cellW agg_33 rfl Bw7 rfl) (rv_tmp rfl), ?_⟩
        exact ⟨(.slice none 0 0), 0, 0, rfl, (own_nil _ 0 92 18), ⟨.inl rfl⟩, X16⟩
      ·
        replace hm := cnd_f c2 hm
        refine sw_skip ?_
        refine then_n ?_
        refine sw_seq ?_
        -- region 5 poly.go:134
        refine sw_region [(0, 0), (1, 0), (2, 0), (3, 0)] rfl rfl rfl ?_
        refine sd_vv rfl rfl rfl (vv_move rfl) ?_
        refine sd_vv rfl rfl rfl (vv_cvIU cv_3_24 rfl) ?_
        refine sd_vv rfl rfl rfl (vv_uadd (a := wd p2) (b := 1#64) rfl rfl) ?_
        refine sd_vv rfl rfl rfl (vv_assign rfl) ?_
        refine sd_done ?_
        refine sw_seq ?_
        -- region 6 poly.go:135 DRAWS
        refine sw_drawN [([b3])] [] (.leaf [(0, 10), (1, 10), (2, 10), (3, 10), (5, 10), (6, 10), (7, 10), (8, 10), (4, 0), (9, 0), (10, 10), (11, 10), (12, 0), (13, 10)]) (by kernel_rfl) (by kernel_rfl) rfl (by kernel_rfl) ?_
        intro w8 Gw8 zw8
        refine sdz_leaf ?_
        refine dd_hn 0 rfl rfl rfl rfl (Kp.refl ([b3]) w8) (fun w hS => vv_move rfl) ?_
        refine dd_hn 0 rfl rfl rfl rfl (Kp.refl ([b3]) w8) (fun w hS => vv_move rfl) ?_
        have B17 := (Bx.gr (Bx.kz (Bx.gr (Bx.gr (Bx.gr Bw1 Gw2) Gw3) Gw4) Kw6) Gw8)
        refine dd_hn 0 rfl rfl rfl rfl (Kp.refl ([b3]) w8) (fun w hS => vv_loadW agg_23 rfl (Bx.kp B17 hS) rfl) ?_
        have B18 := (Bx.gr (Bx.kz (Bx.gr B7 Gw4) Kw6) Gw8)
        refine dd_hn 0 rfl rfl rfl rfl (Kp.refl ([b3]) w8) (fun w hS => vv_loadW agg_28 rfl (Bx.kp B18 hS) rfl) ?_
        refine dd_hn 0 rfl rfl rfl rfl (Kp.refl ([b3]) w8) (fun w hS => vv_fieldAddr fa_28_3 rfl) ?_
        refine dd_hn 0 rfl rfl rfl rfl (Kp.refl ([b3]) w8) (fun w hS => vv_fieldAddr fa_26_1 rfl) ?_
        refine dd_hn 0 rfl rfl rfl rfl (Kp.refl ([b3]) w8) (fun w hS => vv_load1 (v := wv p1.Group.Q) one_24 rfl (Bx.kp B18 hS) rfl) ?_
        refine dd_hn 0 rfl rfl rfl rfl (Kp.refl ([b3]) w8) (fun w hS => vv_move rfl) ?_
        have hb := bnd hm; clear hm; obtain ⟨x3, hx3, hm⟩ := hb
        refine dd_z [] rfl rfl rfl (ev_call en_99 rfl (poly_secret_w p0 p1 _ hx3 _)) ⟨fun _ => tk0, trivial⟩ ?_
        rintro u9_r0_s w9 ⟨_, z9_r0_s, g9_r0_s, rfl, O9_r0_s, f9_r0_s, Gw9⟩
        have z19 := Gw9.size
        have lt20 := O9_r0_s.lth
        refine ⟨Kz.ofGr Gw9, ?_⟩
        have hb := bnd hm; clear hm; obtain ⟨x4, hx4, hm⟩ := hb
        refine dd_z [] rfl rfl rfl (ev_call en_103 rfl (poly_polynomial_at_w x3 p1.Group.Q ((wd p2) + 1#64) _ _ _ _ _ hx4 _ (Own.rd O9_r0_s))) ⟨fun _ => tk0, trivial⟩ ?_
        rintro _ w10 ⟨rfl, Gw10⟩
        have z21 := Gw10.size
        refine ⟨Kz.ofGr Gw10, ?_⟩
        have S22 := (Kp.gr (Kp.gr (Kp.refl ([b3]) w8) Gw9) Gw10)
        refine dd_hn 0 rfl rfl rfl rfl S22 (fun w hS => vv_build (cs := TPoint.cs (TPoint.mk ((wd p2) + 1#64) x4)) bs_31 rfl rfl) ?_
        refine dd_hn 0 rfl rfl rfl rfl S22 (fun w hS => vv_build (cs := TSecret.cs (TSecret.mk p2 [] (TPoint.mk ((wd p2) + 1#64) x4)) (.slice none 0 0)) bs_33 rfl (fill_M rfl rfl rfl (fill_M rfl rfl rfl rfl))) ?_
        have B23 := (Bx.gr (Bx.gr (Bx.gr (Bx.kz (Bx.gr Bw3 Gw4) Kw6) Gw8) Gw9) Gw10)
        refine dd_z [(1, b3)] rfl rfl rfl (ev_stM (cs' := TSecret.cs (TSecret.mk p2 [] (TPoint.mk ((wd p2) + 1#64) x4)) (.slice none 0 0)) (vs := TSecret.cs (TSecret.mk p2 [] (TPoint.mk ((wd p2) + 1#64) x4)) (.slice none 0 0)) (agg_33).siz rfl rfl rfl rfl (TSecret.cs_ones _ _ rfl) B23 rfl rfl) ⟨fun _ => tk0, trivial⟩ ?_
        rintro _ w11 ⟨Bw11, Mw11⟩
        have z24 := Mw11.size
        refine ⟨Kz.ofMd Mw11, ?_⟩
        have S25 := (Kp.md S22 Mw11)
        refine dd_hn 0 rfl rfl rfl rfl S25 (fun w hS => vv_assign rfl) ?_
        refine sd_done ?_
        refine sw_ret ?_
        have X26 : Gr w w11 := (Gr.md (Gr.trans (Gr.trans (Gr.trans (Gr.kz X12 Kw6) Gw8) Gw9) Gw10) Mw11)
        have hr := Option.some.inj hm
        subst hr
        refine ⟨_, _, rfl, res_2 rfl (rv_cellW agg_33 rfl Bw11 rfl) (rv_tmp rfl), ?_⟩
        exact ⟨(.slice none 0 0), 0, 0, rfl, (own_nil _ 0 92 18), ⟨.inl rfl⟩, X26⟩
    ·
      -- region 3 poly.go:131
      refine sw_region [(0, 0), (1, 0), (2, 0), (3, 0), (4, 0), (5, 0), (6, 0), (7, 0), (8, 0)] rfl rfl rfl ?_
      refine sd_vv rfl rfl rfl (vv_move rfl) ?_
      refine sd_vv rfl rfl rfl (vv_lss (a := p2) (b := 0) rfl rfl) ?_
      refine sd_split rfl rfl rfl (vv_move rfl) (fun c3 => ?_) (fun c3 => ?_)
      ·
        replace hm := ite_t (of_decide_eq_true c3) hm
        refine sd_skip rfl rfl rfl ?_
        refine sd_skip rfl rfl rfl ?_
        refine sd_skip rfl rfl rfl ?_
        refine sd_skip rfl rfl rfl ?_
        refine sd_skip rfl rfl rfl ?_
        refine sd_vv rfl rfl rfl (vv_pickT rfl rfl) ?_
        refine sd_nil ?_
        have K_27 : Kz [] w4 w4 := (Kz.refl _ _)
        refine ⟨rfl, true, ?_, hm, K_27⟩
        repeat' first | exact trivial | refine ⟨rfl, ?_⟩
      ·
        replace hm := ite_f (of_decide_eq_false c3) hm
        refine sd_vv rfl rfl rfl (vv_move rfl) ?_
        refine sd_vv rfl rfl rfl (vv_fieldAddr fa_28_1 rfl) ?_
        have B28 := (Bx.gr B7 Gw4)
        refine sd_vv rfl rfl rfl (vv_load1 (v := .int .i64 p1.Depth) one_3 rfl B28 rfl) ?_
        have hb := bnd hm; clear hm; obtain ⟨n5, hn5, hm⟩ := hb
        refine sd_vv rfl rfl rfl (vv_shlI (a := 1) (b := p1.Depth) rfl rfl hn5) ?_
        refine sd_vv rfl rfl rfl (vv_geq (a := p2) (b := shlI 1 n5) rfl rfl) ?_
        refine sd_vv rfl rfl rfl (vv_pickF rfl rfl) ?_
        refine sd_nil ?_
        have K_29 : Kz [] w4 w4 := (Kz.refl _ _)
        refine ⟨rfl, (decide (shlI 1 n5 ≤ p2)), ?_, hm, K_29⟩
        repeat' first | exact trivial | refine ⟨rfl, ?_⟩

set_option maxHeartbeats 2000000 in
theorem ref01_IsPrime_w (p0 : BitVec 64)  (r : Bool) (hm : ref01_IsPrime p0 = some r) (w : World)   :
    Calls Tryz.prog 252 [wv p0].toArray w fun e w' => ∃ v, e = .returned v ∧ (v = .bool r ∧ Gr w w') := by
  unfold ref01_IsPrime at hm
  refine calls_of_sw (R := fun v w' => v = .bool r ∧ Gr w w') 17 Tryz.func252 rfl rfl rfl ?_
  refine sw_seq ?_
  -- region 0 ref.go:366
  refine sw_region [(0, 0)] rfl rfl rfl ?_
  refine sd_vv rfl rfl rfl (vv_assign rfl) ?_
  refine sd_done ?_
  refine sw_seq ?_
  refine sw_seq ?_
  -- region 1 ref.go:367
  refine sw_region [(0, 0)] rfl rfl rfl ?_
  refine sd_vv rfl rfl rfl (vv_assign rfl) ?_
  refine sd_done ?_
  refine sw_block ?_
  refine sw_loopD (α := Nat × BitVec 64) [2, 3, 4, 5, 6, 7, 8, 9, 10, 11, 12, 13, 14] (fun ⟨n1, a2⟩ => [(2, .bool false), (3, wv a2)]) (fun ⟨n1, a2⟩ wr => (fixN (ref01_IsPrime_L1 p0) n1 a2 = some r) ∧ Kz [] w wr) (fun ⟨n1, a2⟩ => n1) ⟨FUEL, 2#64⟩ ?_ ?_ ?_
  · repeat' first | exact trivial | refine ⟨rfl, ?_⟩
  · exact ⟨hm, Kz.refl _ _⟩
  · clear hm; rintro ⟨n1, a2⟩ w1 ⟨hm, Kw1⟩
    have z1 := Kw1.size
    have hb := fix_succ hm; clear hm; obtain ⟨n1, rfl, hm⟩ := hb
    generalize hrec1 : fixN (ref01_IsPrime_L1 p0) n1 = rec1 at hm
    unfold ref01_IsPrime_L1 at hm
    try dsimp only at hm
    refine sw_seq ?_
    refine sw_seq ?_
    -- region 2 ref.go:367
    refine sw_region [(0, 0), (1, 0), (2, 0), (3, 0), (4, 0)] rfl rfl rfl ?_
    refine sd_vv rfl rfl rfl (vv_move rfl) ?_
    refine sd_vv rfl rfl rfl (vv_move rfl) ?_
    refine sd_vv rfl rfl rfl (vv_umul (a := a2) (b := a2) rfl rfl) ?_
    refine sd_vv rfl rfl rfl (vv_move rfl) ?_
    refine sd_vv rfl rfl rfl (vv_leqU (c := a2 * a2) (d := p0) rfl rfl) ?_
    refine sd_done ?_
    refine sw_cond rfl (fun c1 => ?_) (fun c1 => ?_)
    ·
      replace hm := ite_t (of_decide_eq_true c1) hm
      refine sw_skip ?_
      refine then_n ?_
      refine sw_seq ?_
      refine sw_block ?_
      refine sw_seq ?_
      -- region 4 ref.go:368
      refine sw_region [(0, 0), (1, 0), (2, 0), (3, 0)] rfl rfl rfl ?_
      refine sd_vv rfl rfl rfl (vv_move rfl) ?_
      refine sd_vv rfl rfl rfl (vv_move rfl) ?_
      have hb := bnd hm; clear hm; obtain ⟨x3, hx3, hm⟩ := hb
      refine sd_vv rfl rfl rfl (vv_remU (c := p0) (d := a2) rfl rfl hx3) ?_
      refine sd_vv rfl rfl rfl (vv_eqlU (c := x3) (d := 0#64) rfl rfl) ?_
      refine sd_done ?_
      refine sw_cond rfl (fun c2 => ?_) (fun c2 => ?_)
      ·
        replace hm := ite_t (of_decide_eq_true c2) hm
        refine sw_seq ?_
        -- region 5 ref.go:369
        refine sw_region [(0, 0)] rfl rfl rfl ?_
        refine sd_vv rfl rfl rfl (vv_assign rfl) ?_
        refine sd_done ?_
        refine sw_ret ?_
        refine block_r ?_
        refine then_r ?_
        refine then_r ?_
        refine block_r ?_
        refine then_r ?_
        have X2 : Gr w w1 := (Gr.kz (Gr.refl w) Kw1)
        have hr := Option.some.inj hm
        subst hr
        refine ⟨_, _, rfl, res_1 rfl (rv_tmp rfl), ?_⟩
        exact ⟨rfl, X2⟩
      ·
        replace hm := ite_f (of_decide_eq_false c2) hm
        refine sw_skip ?_
        refine block_n ?_
        refine then_n ?_
        -- region 3 ref.go:367
        refine sw_region [(0, 0), (1, 0), (2, 0)] rfl rfl rfl ?_
        refine sd_vv rfl rfl rfl (vv_move rfl) ?_
        refine sd_vv rfl rfl rfl (vv_uadd (a := a2) (b := 1#64) rfl rfl) ?_
        refine sd_vv rfl rfl rfl (vv_assign rfl) ?_
        refine sd_nil ?_
        have K_3 : Kz [] w w1 := Kw1
        subst hrec1
        refine ⟨rfl, ⟨n1, a2 + 1#64⟩, ?_, ⟨hm, K_3⟩, Nat.lt_succ_self _⟩
        repeat' first | exact trivial | refine ⟨rfl, ?_⟩
    ·
      replace hm := ite_f (of_decide_eq_false c1) hm
      refine sw_exit ?_
      refine then_x ?_
      refine then_x ?_
      refine block_x ?_
      refine then_n ?_
      refine sw_seq ?_
      -- region 6 ref.go:372
      refine sw_region [(0, 0), (1, 0), (2, 0)] rfl rfl rfl ?_
      refine sd_vv rfl rfl rfl (vv_move rfl) ?_
      refine sd_vv rfl rfl rfl (vv_geqU (c := p0) (d := 2#64) rfl rfl) ?_
      refine sd_vv rfl rfl rfl (vv_assign rfl) ?_
      refine sd_done ?_
      refine sw_ret ?_
      have X4 : Gr w w1 := (Gr.kz (Gr.refl w) Kw1)
      have hr := Option.some.inj hm
      subst hr
      refine ⟨_, _, rfl, res_1 rfl (rv_tmp rfl), ?_⟩
      exact ⟨rfl, X4⟩

set_option maxHeartbeats 2000000 in
theorem ref01_Power_w (p0 : BitVec 64) (p1 : BitVec 64) (p2 : BitVec 64)  (r : BitVec 64) (hm : ref01_Power p0 p1 p2 = some r) (w : World)   :
    Calls Tryz.prog 155 [wv p0, wv p1, wv p2].toArray w fun e w' => ∃ v, e = .returned v ∧ (v = wv r ∧ Gr w w') := by
  unfold ref01_Power at hm
  refine calls_of_sw (R := fun v w' => v = wv r ∧ Gr w w') 32 Tryz.func155 rfl rfl rfl ?_
  refine sw_seq ?_
  -- region 0 ref.go:320
  refine sw_region [(0, 0)] rfl rfl rfl ?_
  refine sd_vv rfl rfl rfl (vv_assign rfl) ?_
  refine sd_done ?_
  refine sw_seq ?_
  -- region 1 ref.go:321
  refine sw_region [(0, 0), (1, 0), (2, 0)] rfl rfl rfl ?_
  refine sd_vv rfl rfl rfl (vv_move rfl) ?_
  have hb := bnd hm; clear hm; obtain ⟨x1, hx1, hm⟩ := hb
  refine sd_vv rfl rfl rfl (vv_remU (c := 1#64) (d := p2) rfl rfl hx1) ?_
  refine sd_vv rfl rfl rfl (vv_assign rfl) ?_
  refine sd_done ?_
  refine sw_seq ?_
  -- region 2 ref.go:322
  refine sw_region [(0, 0), (1, 0), (2, 0), (3, 0)] rfl rfl rfl ?_
  refine sd_vv rfl rfl rfl (vv_move rfl) ?_
  refine sd_vv rfl rfl rfl (vv_move rfl) ?_
  have hb := bnd hm; clear hm; obtain ⟨x2, hx2, hm⟩ := hb
  refine sd_vv rfl rfl rfl (vv_remU (c := p0) (d := p2) rfl rfl hx2) ?_
  refine sd_vv rfl rfl rfl (vv_assign rfl) ?_
  refine sd_done ?_
  refine sw_seq ?_
  refine sw_block ?_
  refine sw_loopD (α := Nat × BitVec 64 × BitVec 64 × BitVec 64) [1, 7, 8, 14, 15, 16, 17, 18, 19, 20, 21, 22, 23, 24, 25, 26, 27, 28, 29, 30] (fun ⟨n1, a6, a7, a8⟩ => [(1, wv a6), (7, wv a7), (8, wv a8)]) (fun ⟨n1, a6, a7, a8⟩ wr => (fixN (ref01_Power_L1 p2) n1 (a6, a7, a8) = some r) ∧ Kz [] w wr) (fun ⟨n1, a6, a7, a8⟩ => n1) ⟨FUEL, p1, x1, x2⟩ ?_ ?_ ?_
  · repeat' first | exact trivial | refine ⟨rfl, ?_⟩
  · exact ⟨hm, Kz.refl _ _⟩
  · clear hm; rintro ⟨n1, a6, a7, a8⟩ w1 ⟨hm, Kw1⟩
    have z1 := Kw1.size
    have hb := fix_succ hm; clear hm; obtain ⟨n1, rfl, hm⟩ := hb
    generalize hrec1 : fixN (ref01_Power_L1 p2) n1 = rec1 at hm
    unfold ref01_Power_L1 at hm
    try dsimp only at hm
    refine sw_seq ?_
    refine sw_seq ?_
    -- region 3 ref.go:323
    refine sw_region [(0, 0), (1, 0)] rfl rfl rfl ?_
    refine sd_vv rfl rfl rfl (vv_move rfl) ?_
    refine sd_vv rfl rfl rfl (vv_gtrU (c := a6) (d := 0#64) rfl rfl) ?_
    refine sd_done ?_
    refine sw_cond rfl (fun c1 => ?_) (fun c1 => ?_)
    ·
      replace hm := ite_t (of_decide_eq_true c1) hm
      refine sw_skip ?_
      refine then_n ?_
      refine sw_block ?_
      have X2 : Gr w w1 := (Gr.kz (Gr.refl w) Kw1)
      refine sw_joinD (β := BitVec 64) [7, 16, 17, 18, 19, 20, 21, 22, 23] (fun a9 => [(7, wv a9)]) (fun a9 wr => (ref01_Power_J2 p2 a6 a8 rec1 a9 = some r) ∧ Kz [] w1 wr) ?_ ?_
      · clear hm; rintro a9 w2 ⟨hm, Kw2⟩
        have z3 := Kw2.size
        unfold ref01_Power_J2 at hm
        refine sw_seq ?_
        -- region 6 ref.go:327
        refine sw_region [(0, 0), (1, 0), (2, 0), (3, 0), (4, 0), (5, 0)] rfl rfl rfl ?_
        refine sd_vv rfl rfl rfl (vv_move rfl) ?_
        refine sd_vv rfl rfl rfl (vv_move rfl) ?_
        refine sd_vv rfl rfl rfl (vv_umul (a := a8) (b := a8) rfl rfl) ?_
        refine sd_vv rfl rfl rfl (vv_move rfl) ?_
        have hb := bnd hm; clear hm; obtain ⟨x10, hx10, hm⟩ := hb
        refine sd_vv rfl rfl rfl (vv_remU (c := a8 * a8) (d := p2) rfl rfl hx10) ?_
        refine sd_vv rfl rfl rfl (vv_assign rfl) ?_
        refine sd_done ?_
        -- region 7 ref.go:328
        refine sw_region [(0, 0), (1, 0), (2, 0)] rfl rfl rfl ?_
        refine sd_vv rfl rfl rfl (vv_move rfl) ?_
        have hb := bnd hm; clear hm; obtain ⟨x11, hx11, hm⟩ := hb
        refine sd_vv rfl rfl rfl (vv_quoU (c := a6) (d := 2#64) rfl rfl hx11) ?_
        refine sd_vv rfl rfl rfl (vv_assign rfl) ?_
        refine sd_nil ?_
        refine block_n ?_
        have K_4 : Kz [] w w2 := (Kz.kz Kw1 Kw2)
        subst hrec1
        refine ⟨rfl, ⟨n1, x11, a9, x10⟩, ?_, ⟨hm, K_4⟩, Nat.lt_succ_self _⟩
        repeat' first | exact trivial | refine ⟨rfl, ?_⟩
      ·
        refine sw_seq ?_
        -- region 4 ref.go:324
        refine sw_region [(0, 0), (1, 0), (2, 0)] rfl rfl rfl ?_
        refine sd_vv rfl rfl rfl (vv_move rfl) ?_
        have hb := bnd hm; clear hm; obtain ⟨x12, hx12, hm⟩ := hb
        refine sd_vv rfl rfl rfl (vv_remU (c := a6) (d := 2#64) rfl rfl hx12) ?_
        refine sd_vv rfl rfl rfl (vv_eqlU (c := x12) (d := 1#64) rfl rfl) ?_
        refine sd_done ?_
        refine sw_cond rfl (fun c2 => ?_) (fun c2 => ?_)
        ·
          replace hm := ite_t (of_decide_eq_true c2) hm
          -- region 5 ref.go:325
          refine sw_region [(0, 0), (1, 0), (2, 0), (3, 0), (4, 0), (5, 0)] rfl rfl rfl ?_
          refine sd_vv rfl rfl rfl (vv_move rfl) ?_
          refine sd_vv rfl rfl rfl (vv_move rfl) ?_
          refine sd_vv rfl rfl rfl (vv_umul (a := a7) (b := a8) rfl rfl) ?_
          refine sd_vv rfl rfl rfl (vv_move rfl) ?_
          have hb := bnd hm; clear hm; obtain ⟨x13, hx13, hm⟩ := hb
          refine sd_vv rfl rfl rfl (vv_remU (c := a7 * a8) (d := p2) rfl rfl hx13) ?_
          refine sd_vv rfl rfl rfl (vv_assign rfl) ?_
          refine sd_nil ?_
          have K_5 : Kz [] w1 w1 := (Kz.refl _ _)
          refine ⟨rfl, x13, ?_, hm, K_5⟩
          repeat' first | exact trivial | refine ⟨rfl, ?_⟩
        ·
          replace hm := ite_f (of_decide_eq_false c2) hm
          refine sw_skip ?_
          have K_6 : Kz [] w1 w1 := (Kz.refl _ _)
          refine ⟨rfl, a7, ?_, hm, K_6⟩
          repeat' first | exact trivial | refine ⟨rfl, ?_⟩
    ·
      replace hm := ite_f (of_decide_eq_false c1) hm
      refine sw_exit ?_
      refine then_x ?_
      refine then_x ?_
      refine block_x ?_
      refine then_n ?_
      refine sw_seq ?_
      -- region 8 ref.go:330
      refine sw_region [(0, 0), (1, 0)] rfl rfl rfl ?_
      refine sd_vv rfl rfl rfl (vv_move rfl) ?_
      refine sd_vv rfl rfl rfl (vv_assign rfl) ?_
      refine sd_done ?_
      refine sw_ret ?_
      have X7 : Gr w w1 := (Gr.kz (Gr.refl w) Kw1)
      have hr := Option.some.inj hm
      subst hr
      refine ⟨_, _, rfl, res_1 rfl (rv_tmp rfl), ?_⟩
      exact ⟨rfl, X7⟩

set_option maxHeartbeats 2000000 in
theorem ref01_ValidGroup_w (p0 : TGroup)  (r : Bool) (hm : ref01_ValidGroup p0 = some r) (w : World)   :
    Calls Tryz.prog 203 [.agg (TGroup.cs p0).toArray].toArray w fun e w' => ∃ v, e = .returned v ∧ (v = .bool r ∧ Gr w w') := by
  unfold ref01_ValidGroup at hm
  refine calls_of_sw (R := fun v w' => v = .bool r ∧ Gr w w') 52 Tryz.func203 rfl rfl rfl ?_
  refine sw_seq ?_
  -- region 0 ref.go:384
  refine sw_region [(0, 0), (1, 0)] rfl rfl rfl ?_
  refine sd_ev rfl rfl rfl (ev_box (cs := TGroup.cs p0) rfl rfl) ?_
  rintro _ w1 ⟨b1, rfl, hbw1, Bw1, Gw1⟩
  have z1 := Gw1.size
  have lt2 := Bw1.lt
  refine sd_vv rfl rfl rfl (vv_assign rfl) ?_
  refine sd_done ?_
  refine sw_seq ?_
  have X3 : Gr w w1 := (Gr.trans (Gr.refl w) Gw1)
  refine sw_joinD (β := Bool) [3, 4, 5, 6, 7, 8, 9, 10, 11, 12, 13, 14, 15, 16, 17, 18, 19, 20, 21, 22, 23, 24, 25, 26, 27, 28, 29, 30, 31] (fun a1 => [(31, .bool a1)]) (fun a1 wr => (ref01_ValidGroup_J1 p0 a1 = some r) ∧ Kz [] w1 wr) ?_ ?_
  · clear hm; rintro a1 w2 ⟨hm, Kw2⟩
    have z4 := Kw2.size
    unfold ref01_ValidGroup_J1 at hm
    refine sw_cond rfl (fun c1 => ?_) (fun c1 => ?_)
    ·
      replace hm := cnd_t c1 hm
      refine sw_seq ?_
      -- region 2 ref.go:386
      refine sw_region [(0, 0)] rfl rfl rfl ?_
      refine sd_vv rfl rfl rfl (vv_assign rfl) ?_
      refine sd_done ?_
      refine sw_ret ?_
      refine then_r ?_
      have X5 : Gr w w2 := (Gr.kz X3 Kw2)
      have hr := Option.some.inj hm
      subst hr
      refine ⟨_, _, rfl, res_1 rfl (rv_tmp rfl), ?_⟩
      exact ⟨rfl, X5⟩
    ·
      replace hm := cnd_f c1 hm
      refine sw_skip ?_
      refine then_n ?_
      refine sw_seq ?_
      -- region 3 ref.go:388
      refine sw_region [(0, 0), (1, 0), (2, 0), (3, 0), (4, 0), (5, 0), (6, 0), (7, 0), (8, 0), (9, 0), (10, 0), (11, 0), (12, 0), (13, 0), (14, 0), (15, 0), (16, 0), (17, 0), (18, 0), (19, 0), (20, 0)] rfl rfl rfl ?_
      refine sd_vv rfl rfl rfl (vv_fieldAddr fa_26_2 rfl) ?_
      have B6 := (Bx.kz Bw1 Kw2)
      refine sd_vv rfl rfl rfl (vv_load1 (v := wv p0.G) one_24 rfl B6 rfl) ?_
      refine sd_vv rfl rfl rfl (vv_geqU (c := p0.G) (d := 2#64) rfl rfl) ?_
      refine sd_split rfl rfl rfl (vv_move rfl) (fun c2 => ?_) (fun c2 => ?_)
      ·
        replace hm := ite_t (of_decide_eq_true c2) hm
        refine sd_vv rfl rfl rfl (vv_fieldAddr fa_26_2 rfl) ?_
        refine sd_vv rfl rfl rfl (vv_load1 (v := wv p0.G) one_24 rfl B6 rfl) ?_
        refine sd_vv rfl rfl rfl (vv_fieldAddr fa_26_0 rfl) ?_
        refine sd_vv rfl rfl rfl (vv_load1 (v := wv p0.P) one_24 rfl B6 rfl) ?_
        refine sd_vv rfl rfl rfl (vv_lssU (c := p0.G) (d := p0.P) rfl rfl) ?_
        refine sd_vv rfl rfl rfl (vv_pickT rfl rfl) ?_
        refine sd_split rfl rfl rfl (vv_move rfl) (fun c3 => ?_) (fun c3 => ?_)
        ·
          replace hm := ite_t (of_decide_eq_true c3) hm
          refine sd_vv rfl rfl rfl (vv_fieldAddr fa_26_2 rfl) ?_
          refine sd_vv rfl rfl rfl (vv_load1 (v := wv p0.G) one_24 rfl B6 rfl) ?_
          refine sd_vv rfl rfl rfl (vv_fieldAddr fa_26_1 rfl) ?_
          refine sd_vv rfl rfl rfl (vv_load1 (v := wv p0.Q) one_24 rfl B6 rfl) ?_
          refine sd_vv rfl rfl rfl (vv_fieldAddr fa_26_0 rfl) ?_
          refine sd_vv rfl rfl rfl (vv_load1 (v := wv p0.P) one_24 rfl B6 rfl) ?_
          have hb := bnd hm; clear hm; obtain ⟨x2, hx2, hm⟩ := hb
          refine sd_ev rfl rfl rfl (ev_call en_155 rfl (ref01_Power_w p0.G p0.Q p0.P _ hx2 _)) ?_
          rintro _ w3 ⟨rfl, Gw3⟩
          have z7 := Gw3.size
          refine sd_vv rfl rfl rfl (vv_eqlU (c := x2) (d := 1#64) rfl rfl) ?_
          refine sd_vv rfl rfl rfl (vv_pickT rfl rfl) ?_
          refine sd_vv rfl rfl rfl (vv_assign rfl) ?_
          refine sd_done ?_
          refine sw_ret ?_
          have X8 : Gr w w3 := (Gr.trans (Gr.kz X3 Kw2) Gw3)
          have hr := Option.some.inj hm
          subst hr
          refine ⟨_, _, rfl, res_1 rfl (rv_tmp rfl), ?_⟩
          exact ⟨rfl, X8⟩
        ·
          replace hm := ite_f (of_decide_eq_false c3) hm
          refine sd_skip rfl rfl rfl ?_
          refine sd_skip rfl rfl rfl ?_
          refine sd_skip rfl rfl rfl ?_
          refine sd_skip rfl rfl rfl ?_
          refine sd_skip rfl rfl rfl ?_
          refine sd_skip rfl rfl rfl ?_
          refine sd_skip rfl rfl rfl ?_
          refine sd_skip rfl rfl rfl ?_
          refine sd_vv rfl rfl rfl (vv_pickF rfl rfl) ?_
          refine sd_vv rfl rfl rfl (vv_assign rfl) ?_
          refine sd_done ?_
          refine sw_ret ?_
          have X9 : Gr w w2 := (Gr.kz X3 Kw2)
          have hr := Option.some.inj hm
          subst hr
          refine ⟨_, _, rfl, res_1 rfl (rv_tmp rfl), ?_⟩
          exact ⟨rfl, X9⟩
      ·
        replace hm := ite_f (of_decide_eq_false c2) hm
        refine sd_skip rfl rfl rfl ?_
        refine sd_skip rfl rfl rfl ?_
        refine sd_skip rfl rfl rfl ?_
        refine sd_skip rfl rfl rfl ?_
        refine sd_skip rfl rfl rfl ?_
        refine sd_vv rfl rfl rfl (vv_pickF rfl rfl) ?_
        refine sd_vv rfl rfl rfl (vv_move rfl) ?_
        refine sd_skip rfl rfl rfl ?_
        refine sd_skip rfl rfl rfl ?_
        refine sd_skip rfl rfl rfl ?_
        refine sd_skip rfl rfl rfl ?_
        refine sd_skip rfl rfl rfl ?_
        refine sd_skip rfl rfl rfl ?_
        refine sd_skip rfl rfl rfl ?_
        refine sd_skip rfl rfl rfl ?_
        refine sd_vv rfl rfl rfl (vv_pickF rfl rfl) ?_
        refine sd_vv rfl rfl rfl (vv_assign rfl) ?_
        refine sd_done ?_
        refine sw_ret ?_
        have X10 : Gr w w2 := (Gr.kz X3 Kw2)
        have hr := Option.some.inj hm
        subst hr
        refine ⟨_, _, rfl, res_1 rfl (rv_tmp rfl), ?_⟩
        exact ⟨rfl, X10⟩
  ·
    -- region 1 ref.go:385
    refine sw_region [(0, 0), (1, 0), (2, 0), (3, 0), (4, 0), (5, 0), (6, 0), (7, 0), (8, 0), (9, 0), (10, 0), (11, 0), (12, 0), (13, 0), (14, 0), (15, 0), (16, 0), (17, 0), (18, 0), (19, 0), (20, 0), (21, 0), (22, 0), (23, 0), (24, 0), (25, 0), (26, 0), (27, 0), (28, 0)] rfl rfl rfl ?_
    refine sd_vv rfl rfl rfl (vv_fieldAddr fa_26_0 rfl) ?_
    refine sd_vv rfl rfl rfl (vv_load1 (v := wv p0.P) one_24 rfl Bw1 rfl) ?_
    refine sd_vv rfl rfl rfl (vv_gtrU (c := p0.P) (d := 1048575#64) rfl rfl) ?_
    refine sd_split rfl rfl rfl (vv_move rfl) (fun c4 => ?_) (fun c4 => ?_)
    ·
      replace hm := ite_t (of_decide_eq_true c4) hm
      refine sd_skip rfl rfl rfl ?_
      refine sd_skip rfl rfl rfl ?_
      refine sd_skip rfl rfl rfl ?_
      refine sd_skip rfl rfl rfl ?_
      refine sd_vv rfl rfl rfl (vv_pickT rfl rfl) ?_
      refine sd_vv rfl rfl rfl (vv_move rfl) ?_
      refine sd_skip rfl rfl rfl ?_
      refine sd_skip rfl rfl rfl ?_
      refine sd_skip rfl rfl rfl ?_
      refine sd_vv rfl rfl rfl (vv_pickT rfl rfl) ?_
      refine sd_vv rfl rfl rfl (vv_move rfl) ?_
      refine sd_skip rfl rfl rfl ?_
      refine sd_skip rfl rfl rfl ?_
      refine sd_skip rfl rfl rfl ?_
      refine sd_skip rfl rfl rfl ?_
      refine sd_vv rfl rfl rfl (vv_pickT rfl rfl) ?_
      refine sd_vv rfl rfl rfl (vv_move rfl) ?_
      refine sd_skip rfl rfl rfl ?_
      refine sd_skip rfl rfl rfl ?_
      refine sd_skip rfl rfl rfl ?_
      refine sd_skip rfl rfl rfl ?_
      refine sd_skip rfl rfl rfl ?_
      refine sd_skip rfl rfl rfl ?_
      refine sd_skip rfl rfl rfl ?_
      refine sd_vv rfl rfl rfl (vv_pickT rfl rfl) ?_
      refine sd_nil ?_
      have K_11 : Kz [] w1 w1 := (Kz.refl _ _)
      refine ⟨rfl, true, ?_, hm, K_11⟩
      repeat' first | exact trivial | refine ⟨rfl, ?_⟩
    ·
      replace hm := ite_f (of_decide_eq_false c4) hm
      refine sd_vv rfl rfl rfl (vv_fieldAddr fa_26_0 rfl) ?_
      refine sd_vv rfl rfl rfl (vv_load1 (v := wv p0.P) one_24 rfl Bw1 rfl) ?_
      have hb := bnd hm; clear hm; obtain ⟨x3, hx3, hm⟩ := hb
      refine sd_ev rfl rfl rfl (ev_call en_252 rfl (ref01_IsPrime_w p0.P _ hx3 _)) ?_
      rintro _ w4 ⟨rfl, Gw4⟩
      have z12 := Gw4.size
      refine sd_vv rfl rfl rfl (vv_not rfl) ?_
      refine sd_vv rfl rfl rfl (vv_pickF rfl rfl) ?_
      refine sd_split rfl rfl rfl (vv_move rfl) (fun c5 => ?_) (fun c5 => ?_)
      ·
        replace hm := cnd_t c5 hm
        refine sd_skip rfl rfl rfl ?_
        refine sd_skip rfl rfl rfl ?_
        refine sd_skip rfl rfl rfl ?_
        refine sd_vv rfl rfl rfl (vv_pickT rfl rfl) ?_
        refine sd_vv rfl rfl rfl (vv_move rfl) ?_
        refine sd_skip rfl rfl rfl ?_
        refine sd_skip rfl rfl rfl ?_
        refine sd_skip rfl rfl rfl ?_
        refine sd_skip rfl rfl rfl ?_
        refine sd_vv rfl rfl rfl (vv_pickT rfl rfl) ?_
        refine sd_vv rfl rfl rfl (vv_move rfl) ?_
        refine sd_skip rfl rfl rfl ?_
        refine sd_skip rfl rfl rfl ?_
        refine sd_skip rfl rfl rfl ?_
        refine sd_skip rfl rfl rfl ?_
        refine sd_skip rfl rfl rfl ?_
        refine sd_skip rfl rfl rfl ?_
        refine sd_skip rfl rfl rfl ?_
        refine sd_vv rfl rfl rfl (vv_pickT rfl rfl) ?_
        refine sd_nil ?_
        have K_13 : Kz [] w1 w4 := (Kz.gr (Kz.refl _ _) Gw4)
        refine ⟨rfl, true, ?_, hm, K_13⟩
        repeat' first | exact trivial | refine ⟨rfl, ?_⟩
      ·
        replace hm := cnd_f c5 hm
        refine sd_vv rfl rfl rfl (vv_fieldAddr fa_26_1 rfl) ?_
        have B14 := (Bx.gr Bw1 Gw4)
        refine sd_vv rfl rfl rfl (vv_load1 (v := wv p0.Q) one_24 rfl B14 rfl) ?_
        refine sd_vv rfl rfl rfl (vv_gtrU (c := p0.Q) (d := 1048575#64) rfl rfl) ?_
        refine sd_vv rfl rfl rfl (vv_pickF rfl rfl) ?_
        refine sd_split rfl rfl rfl (vv_move rfl) (fun c6 => ?_) (fun c6 => ?_)
        ·
          replace hm := ite_t (of_decide_eq_true c6) hm
          refine sd_skip rfl rfl rfl ?_
          refine sd_skip rfl rfl rfl ?_
          refine sd_skip rfl rfl rfl ?_
          refine sd_skip rfl rfl rfl ?_
          refine sd_vv rfl rfl rfl (vv_pickT rfl rfl) ?_
          refine sd_vv rfl rfl rfl (vv_move rfl) ?_
          refine sd_skip rfl rfl rfl ?_
          refine sd_skip rfl rfl rfl ?_
          refine sd_skip rfl rfl rfl ?_
          refine sd_skip rfl rfl rfl ?_
          refine sd_skip rfl rfl rfl ?_
          refine sd_skip rfl rfl rfl ?_
          refine sd_skip rfl rfl rfl ?_
          refine sd_vv rfl rfl rfl (vv_pickT rfl rfl) ?_
          refine sd_nil ?_
          have K_15 : Kz [] w1 w4 := (Kz.gr (Kz.refl _ _) Gw4)
          refine ⟨rfl, true, ?_, hm, K_15⟩
          repeat' first | exact trivial | refine ⟨rfl, ?_⟩
        ·
          replace hm := ite_f (of_decide_eq_false c6) hm
          refine sd_vv rfl rfl rfl (vv_fieldAddr fa_26_1 rfl) ?_
          refine sd_vv rfl rfl rfl (vv_load1 (v := wv p0.Q) one_24 rfl B14 rfl) ?_
          have hb := bnd hm; clear hm; obtain ⟨x4, hx4, hm⟩ := hb
          refine sd_ev rfl rfl rfl (ev_call en_252 rfl (ref01_IsPrime_w p0.Q _ hx4 _)) ?_
          rintro _ w5 ⟨rfl, Gw5⟩
          have z16 := Gw5.size
          refine sd_vv rfl rfl rfl (vv_not rfl) ?_
          refine sd_vv rfl rfl rfl (vv_pickF rfl rfl) ?_
          refine sd_split rfl rfl rfl (vv_move rfl) (fun c7 => ?_) (fun c7 => ?_)
          ·
            replace hm := cnd_t c7 hm
            refine sd_skip rfl rfl rfl ?_
            refine sd_skip rfl rfl rfl ?_
            refine sd_skip rfl rfl rfl ?_
            refine sd_skip rfl rfl rfl ?_
            refine sd_skip rfl rfl rfl ?_
            refine sd_skip rfl rfl rfl ?_
            refine sd_skip rfl rfl rfl ?_
            refine sd_vv rfl rfl rfl (vv_pickT rfl rfl) ?_
            refine sd_nil ?_
            have K_17 : Kz [] w1 w5 := (Kz.gr (Kz.gr (Kz.refl _ _) Gw4) Gw5)
            refine ⟨rfl, true, ?_, hm, K_17⟩
            repeat' first | exact trivial | refine ⟨rfl, ?_⟩
          ·
            replace hm := cnd_f c7 hm
            refine sd_vv rfl rfl rfl (vv_fieldAddr fa_26_0 rfl) ?_
            have B18 := (Bx.gr B14 Gw5)
            refine sd_vv rfl rfl rfl (vv_load1 (v := wv p0.P) one_24 rfl B18 rfl) ?_
            refine sd_vv rfl rfl rfl (vv_usub (a := p0.P) (b := 1#64) rfl rfl) ?_
            refine sd_vv rfl rfl rfl (vv_fieldAddr fa_26_1 rfl) ?_
            refine sd_vv rfl rfl rfl (vv_load1 (v := wv p0.Q) one_24 rfl B18 rfl) ?_
            have hb := bnd hm; clear hm; obtain ⟨x5, hx5, hm⟩ := hb
            refine sd_vv rfl rfl rfl (vv_remU (c := p0.P - 1#64) (d := p0.Q) rfl rfl hx5) ?_
            refine sd_vv rfl rfl rfl (vv_neqU (c := x5) (d := 0#64) rfl rfl) ?_
            refine sd_vv rfl rfl rfl (vv_pickF rfl rfl) ?_
            refine sd_nil ?_
            have K_19 : Kz [] w1 w5 := (Kz.gr (Kz.gr (Kz.refl _ _) Gw4) Gw5)
            refine ⟨rfl, (decide (x5 ≠ 0#64)), ?_, hm, K_19⟩
            repeat' first | exact trivial | refine ⟨rfl, ?_⟩

set_option maxHeartbeats 2000000 in
theorem ref04_Valid_w (p0 : TScheme)  (r : Bool) (hm : ref04_Valid p0 = some r) (w : World)   :
    Calls Tryz.prog 141 [.agg (TScheme.cs p0).toArray].toArray w fun e w' => ∃ v, e = .returned v ∧ (v = .bool r ∧ Gr w w') := by
  unfold ref04_Valid at hm
  refine calls_of_sw (R := fun v w' => v = .bool r ∧ Gr w w') 43 Tryz.func141 rfl rfl rfl ?_
  refine sw_seq ?_
  -- region 0 ref.go:28
  refine sw_region [(0, 0), (1, 0)] rfl rfl rfl ?_
  refine sd_ev rfl rfl rfl (ev_box (cs := TScheme.cs p0) rfl rfl) ?_
  rintro _ w1 ⟨b1, rfl, hbw1, Bw1, Gw1⟩
  have z1 := Gw1.size
  have lt2 := Bw1.lt
  refine sd_vv rfl rfl rfl (vv_assign rfl) ?_
  refine sd_done ?_
  refine sw_seq ?_
  have X3 : Gr w w1 := (Gr.trans (Gr.refl w) Gw1)
  refine sw_joinD (β := Bool) [3, 4, 5, 6, 7, 8, 9, 10, 11, 12, 13, 14, 15, 16, 17, 18, 19, 20, 21, 22, 23, 24, 25, 26, 27, 28, 29, 30, 31] (fun a1 => [(31, .bool a1)]) (fun a1 wr => (ref04_Valid_J1 p0 a1 = some r) ∧ Kz [] w1 wr) ?_ ?_
  · clear hm; rintro a1 w2 ⟨hm, Kw2⟩
    have z4 := Kw2.size
    unfold ref04_Valid_J1 at hm
    refine sw_cond rfl (fun c1 => ?_) (fun c1 => ?_)
    ·
      replace hm := cnd_t c1 hm
      refine sw_seq ?_
      -- region 2 ref.go:30
      refine sw_region [(0, 0)] rfl rfl rfl ?_
      refine sd_vv rfl rfl rfl (vv_assign rfl) ?_
      refine sd_done ?_
      refine sw_ret ?_
      refine then_r ?_
      have X5 : Gr w w2 := (Gr.kz X3 Kw2)
      have hr := Option.some.inj hm
      subst hr
      refine ⟨_, _, rfl, res_1 rfl (rv_tmp rfl), ?_⟩
      exact ⟨rfl, X5⟩
    ·
      replace hm := cnd_f c1 hm
      refine sw_skip ?_
      refine then_n ?_
      refine sw_seq ?_
      -- region 3 ref.go:32 DRAWS
      refine sw_drawN [([])] [] (.leaf [(0, 10), (1, 10), (2, 10), (3, 10), (4, 10), (6, 10), (7, 10), (5, 0), (8, 10), (9, 10), (10, 10), (11, 10)]) (by kernel_rfl) (by kernel_rfl) rfl (by kernel_rfl) ?_
      intro w3 Gw3 zw3
      refine sdz_leaf ?_
      refine dd_hn 0 rfl rfl rfl rfl (Kp.refl ([]) w3) (fun w hS => vv_fieldAddr fa_28_3 rfl) ?_
      refine dd_hn 0 rfl rfl rfl rfl (Kp.refl ([]) w3) (fun w hS => vv_fieldAddr fa_26_1 rfl) ?_
      have B6 := (Bx.gr (Bx.kz Bw1 Kw2) Gw3)
      refine dd_hn 0 rfl rfl rfl rfl (Kp.refl ([]) w3) (fun w hS => vv_load1 (v := wv p0.Group.Q) one_24 rfl (Bx.kp B6 hS) rfl) ?_
      refine dd_hn 0 rfl rfl rfl rfl (Kp.refl ([]) w3) (fun w hS => vv_fieldAddr fa_28_1 rfl) ?_
      refine dd_hn 0 rfl rfl rfl rfl (Kp.refl ([]) w3) (fun w hS => vv_load1 (v := .int .i64 p0.Depth) one_3 rfl (Bx.kp B6 hS) rfl) ?_
      refine dd_hn 0 rfl rfl rfl rfl (Kp.refl ([]) w3) (fun w hS => vv_fieldAddr fa_28_2 rfl) ?_
      refine dd_hn 0 rfl rfl rfl rfl (Kp.refl ([]) w3) (fun w hS => vv_load1 (v := .int .i64 p0.Degree) one_3 rfl (Bx.kp B6 hS) rfl) ?_
      have hb := bnd hm; clear hm; obtain ⟨x2, hx2, hm⟩ := hb
      refine dd_z [] rfl rfl rfl (ev_call en_142 rfl (ref03_Receivers_w p0.Depth _ hx2 _)) ⟨fun _ => tk0, trivial⟩ ?_
      rintro _ w4 ⟨rfl, Gw4⟩
      have z7 := Gw4.size
      refine ⟨Kz.ofGr Gw4, ?_⟩
      have S8 := (Kp.gr (Kp.refl ([]) w3) Gw4)
      refine dd_hn 0 rfl rfl rfl rfl S8 (fun w hS => vv_add (k := .i64) (a := x2) (b := p0.Degree) rfl rfl) ?_
      refine dd_hn 0 rfl rfl rfl rfl S8 (fun w hS => vv_cvIU cv_3_24 rfl) ?_
      refine dd_hn 0 rfl rfl rfl rfl S8 (fun w hS => vv_gtrU (c := p0.Group.Q) (d := wd (w64 (x2 + p0.Degree))) rfl rfl) ?_
      refine dd_hn 0 rfl rfl rfl rfl S8 (fun w hS => vv_assign rfl) ?_
      refine sd_done ?_
      refine sw_ret ?_
      have X9 : Gr w w4 := (Gr.trans (Gr.trans (Gr.kz X3 Kw2) Gw3) Gw4)
      have hr := Option.some.inj hm
      subst hr
      refine ⟨_, _, rfl, res_1 rfl (rv_tmp rfl), ?_⟩
      exact ⟨rfl, X9⟩
  ·
    -- region 1 ref.go:29
    refine sw_region [(0, 0), (1, 0), (2, 0), (3, 0), (4, 0), (5, 0), (6, 0), (7, 0), (8, 0), (9, 0), (10, 0), (11, 0), (12, 0), (13, 0), (14, 0), (15, 0), (16, 0), (17, 0), (18, 0), (19, 0), (20, 0), (21, 0), (22, 0), (23, 0), (24, 0), (25, 0), (26, 0), (27, 0), (28, 0)] rfl rfl rfl ?_
    refine sd_vv rfl rfl rfl (vv_fieldAddr fa_28_0 rfl) ?_
    refine sd_vv rfl rfl rfl (vv_load1 (v := bv p0.Kind) one_5 rfl Bw1 rfl) ?_
    refine sd_vv rfl rfl rfl (vv_neqB (p := p0.Kind) (q := 4#8) rfl rfl) ?_
    refine sd_split rfl rfl rfl (vv_move rfl) (fun c2 => ?_) (fun c2 => ?_)
    ·
      replace hm := ite_t (of_decide_eq_true c2) hm
      refine sd_skip rfl rfl rfl ?_
      refine sd_skip rfl rfl rfl ?_
      refine sd_skip rfl rfl rfl ?_
      refine sd_vv rfl rfl rfl (vv_pickT rfl rfl) ?_
      refine sd_vv rfl rfl rfl (vv_move rfl) ?_
      refine sd_skip rfl rfl rfl ?_
      refine sd_skip rfl rfl rfl ?_
      refine sd_skip rfl rfl rfl ?_
      refine sd_vv rfl rfl rfl (vv_pickT rfl rfl) ?_
      refine sd_vv rfl rfl rfl (vv_move rfl) ?_
      refine sd_skip rfl rfl rfl ?_
      refine sd_skip rfl rfl rfl ?_
      refine sd_skip rfl rfl rfl ?_
      refine sd_vv rfl rfl rfl (vv_pickT rfl rfl) ?_
      refine sd_vv rfl rfl rfl (vv_move rfl) ?_
      refine sd_skip rfl rfl rfl ?_
      refine sd_skip rfl rfl rfl ?_
      refine sd_skip rfl rfl rfl ?_
      refine sd_vv rfl rfl rfl (vv_pickT rfl rfl) ?_
      refine sd_vv rfl rfl rfl (vv_move rfl) ?_
      refine sd_skip rfl rfl rfl ?_
      refine sd_skip rfl rfl rfl ?_
      refine sd_skip rfl rfl rfl ?_
      refine sd_skip rfl rfl rfl ?_
      refine sd_vv rfl rfl rfl (vv_pickT rfl rfl) ?_
      refine sd_nil ?_
      have K_10 : Kz [] w1 w1 := (Kz.refl _ _)
      refine ⟨rfl, true, ?_, hm, K_10⟩
      repeat' first | exact trivial | refine ⟨rfl, ?_⟩
    ·
      replace hm := ite_f (of_decide_eq_false c2) hm
      refine sd_vv rfl rfl rfl (vv_fieldAddr fa_28_1 rfl) ?_
      refine sd_vv rfl rfl rfl (vv_load1 (v := .int .i64 p0.Depth) one_3 rfl Bw1 rfl) ?_
      refine sd_vv rfl rfl rfl (vv_lss (a := p0.Depth) (b := 0) rfl rfl) ?_
      refine sd_vv rfl rfl rfl (vv_pickF rfl rfl) ?_
      refine sd_split rfl rfl rfl (vv_move rfl) (fun c3 => ?_) (fun c3 => ?_)
      ·
        replace hm := ite_t (of_decide_eq_true c3) hm
        refine sd_skip rfl rfl rfl ?_
        refine sd_skip rfl rfl rfl ?_
        refine sd_skip rfl rfl rfl ?_
        refine sd_vv rfl rfl rfl (vv_pickT rfl rfl) ?_
        refine sd_vv rfl rfl rfl (vv_move rfl) ?_
        refine sd_skip rfl rfl rfl ?_
        refine sd_skip rfl rfl rfl ?_
        refine sd_skip rfl rfl rfl ?_
        refine sd_vv rfl rfl rfl (vv_pickT rfl rfl) ?_
        refine sd_vv rfl rfl rfl (vv_move rfl) ?_
        refine sd_skip rfl rfl rfl ?_
        refine sd_skip rfl rfl rfl ?_
        refine sd_skip rfl rfl rfl ?_
        refine sd_vv rfl rfl rfl (vv_pickT rfl rfl) ?_
        refine sd_vv rfl rfl rfl (vv_move rfl) ?_
        refine sd_skip rfl rfl rfl ?_
        refine sd_skip rfl rfl rfl ?_
        refine sd_skip rfl rfl rfl ?_
        refine sd_skip rfl rfl rfl ?_
        refine sd_vv rfl rfl rfl (vv_pickT rfl rfl) ?_
        refine sd_nil ?_
        have K_11 : Kz [] w1 w1 := (Kz.refl _ _)
        refine ⟨rfl, true, ?_, hm, K_11⟩
        repeat' first | exact trivial | refine ⟨rfl, ?_⟩
      ·
        replace hm := ite_f (of_decide_eq_false c3) hm
        refine sd_vv rfl rfl rfl (vv_fieldAddr fa_28_1 rfl) ?_
        refine sd_vv rfl rfl rfl (vv_load1 (v := .int .i64 p0.Depth) one_3 rfl Bw1 rfl) ?_
        refine sd_vv rfl rfl rfl (vv_gtr (a := p0.Depth) (b := 6) rfl rfl) ?_
        refine sd_vv rfl rfl rfl (vv_pickF rfl rfl) ?_
        refine sd_split rfl rfl rfl (vv_move rfl) (fun c4 => ?_) (fun c4 => ?_)
        ·
          replace hm := ite_t (of_decide_eq_true c4) hm
          refine sd_skip rfl rfl rfl ?_
          refine sd_skip rfl rfl rfl ?_
          refine sd_skip rfl rfl rfl ?_
          refine sd_vv rfl rfl rfl (vv_pickT rfl rfl) ?_
          refine sd_vv rfl rfl rfl (vv_move rfl) ?_
          refine sd_skip rfl rfl rfl ?_
          refine sd_skip rfl rfl rfl ?_
          refine sd_skip rfl rfl rfl ?_
          refine sd_vv rfl rfl rfl (vv_pickT rfl rfl) ?_
          refine sd_vv rfl rfl rfl (vv_move rfl) ?_
          refine sd_skip rfl rfl rfl ?_
          refine sd_skip rfl rfl rfl ?_
          refine sd_skip rfl rfl rfl ?_
          refine sd_skip rfl rfl rfl ?_
          refine sd_vv rfl rfl rfl (vv_pickT rfl rfl) ?_
          refine sd_nil ?_
          have K_12 : Kz [] w1 w1 := (Kz.refl _ _)
          refine ⟨rfl, true, ?_, hm, K_12⟩
          repeat' first | exact trivial | refine ⟨rfl, ?_⟩
        ·
          replace hm := ite_f (of_decide_eq_false c4) hm
          refine sd_vv rfl rfl rfl (vv_fieldAddr fa_28_2 rfl) ?_
          refine sd_vv rfl rfl rfl (vv_load1 (v := .int .i64 p0.Degree) one_3 rfl Bw1 rfl) ?_
          refine sd_vv rfl rfl rfl (vv_lss (a := p0.Degree) (b := 1) rfl rfl) ?_
          refine sd_vv rfl rfl rfl (vv_pickF rfl rfl) ?_
          refine sd_split rfl rfl rfl (vv_move rfl) (fun c5 => ?_) (fun c5 => ?_)
          ·
            replace hm := ite_t (of_decide_eq_true c5) hm
            refine sd_skip rfl rfl rfl ?_
            refine sd_skip rfl rfl rfl ?_
            refine sd_skip rfl rfl rfl ?_
            refine sd_vv rfl rfl rfl (vv_pickT rfl rfl) ?_
            refine sd_vv rfl rfl rfl (vv_move rfl) ?_
            refine sd_skip rfl rfl rfl ?_
            refine sd_skip rfl rfl rfl ?_
            refine sd_skip rfl rfl rfl ?_
            refine sd_skip rfl rfl rfl ?_
            refine sd_vv rfl rfl rfl (vv_pickT rfl rfl) ?_
            refine sd_nil ?_
            have K_13 : Kz [] w1 w1 := (Kz.refl _ _)
            refine ⟨rfl, true, ?_, hm, K_13⟩
            repeat' first | exact trivial | refine ⟨rfl, ?_⟩
          ·
            replace hm := ite_f (of_decide_eq_false c5) hm
            refine sd_vv rfl rfl rfl (vv_fieldAddr fa_28_2 rfl) ?_
            refine sd_vv rfl rfl rfl (vv_load1 (v := .int .i64 p0.Degree) one_3 rfl Bw1 rfl) ?_
            refine sd_vv rfl rfl rfl (vv_gtr (a := p0.Degree) (b := 8) rfl rfl) ?_
            refine sd_vv rfl rfl rfl (vv_pickF rfl rfl) ?_
            refine sd_split rfl rfl rfl (vv_move rfl) (fun c6 => ?_) (fun c6 => ?_)
            ·
              replace hm := ite_t (of_decide_eq_true c6) hm
              refine sd_skip rfl rfl rfl ?_
              refine sd_skip rfl rfl rfl ?_
              refine sd_skip rfl rfl rfl ?_
              refine sd_skip rfl rfl rfl ?_
              refine sd_vv rfl rfl rfl (vv_pickT rfl rfl) ?_
              refine sd_nil ?_
              have K_14 : Kz [] w1 w1 := (Kz.refl _ _)
              refine ⟨rfl, true, ?_, hm, K_14⟩
              repeat' first | exact trivial | refine ⟨rfl, ?_⟩
            ·
              replace hm := ite_f (of_decide_eq_false c6) hm
              refine sd_vv rfl rfl rfl (vv_fieldAddr fa_28_3 rfl) ?_
              refine sd_vv rfl rfl rfl (vv_loadM (vs := TGroup.cs p0.Group) agg_26 rfl Bw1 rfl rfl) ?_
              have hb := bnd hm; clear hm; obtain ⟨x3, hx3, hm⟩ := hb
              refine sd_ev rfl rfl rfl (ev_call en_203 rfl (ref01_ValidGroup_w p0.Group _ hx3 _)) ?_
              rintro _ w5 ⟨rfl, Gw5⟩
              have z15 := Gw5.size
              refine sd_vv rfl rfl rfl (vv_not rfl) ?_
              refine sd_vv rfl rfl rfl (vv_pickF rfl rfl) ?_
              refine sd_nil ?_
              have K_16 : Kz [] w1 w5 := (Kz.gr (Kz.refl _ _) Gw5)
              refine ⟨rfl, (!x3), ?_, hm, K_16⟩
              repeat' first | exact trivial | refine ⟨rfl, ?_⟩

set_option maxHeartbeats 2000000 in
theorem ref02_Value_w (p0 : List (BitVec 8)) (vp0 : Value) (zp0 gp0 op0 : Nat) (r : BitVec 64) (hm : ref02_Value p0 = some r) (w : World) (hp0 : Rd w zp0 gp0 op0 1 vp0 (p0.map bvc))  :
    Calls Tryz.prog 254 [vp0].toArray w fun e w' => ∃ v, e = .returned v ∧ (v = wv r ∧ Gr w w') := by
  have lt1 := hp0.lth
  unfold ref02_Value at hm
  refine calls_of_sw (R := fun v w' => v = wv r ∧ Gr w w') 20 Tryz.func254 rfl rfl rfl ?_
  refine sw_seq ?_
  -- region 0 ref.go:27
  refine sw_region [(0, 0)] rfl rfl rfl ?_
  refine sd_vv rfl rfl rfl (vv_assign rfl) ?_
  refine sd_done ?_
  refine sw_seq ?_
  -- region 1 ref.go:28
  refine sw_region [(0, 0)] rfl rfl rfl ?_
  refine sd_vv rfl rfl rfl (vv_assign rfl) ?_
  refine sd_done ?_
  refine sw_seq ?_
  refine sw_seq ?_
  -- region 2 ref.go:29
  refine sw_region [(0, 0)] rfl rfl rfl ?_
  refine sd_vv rfl rfl rfl (vv_assign rfl) ?_
  refine sd_done ?_
  refine sw_block ?_
  refine sw_loopD (α := Nat × BitVec 64 × Int) [3, 4, 5, 6, 7, 8, 9, 10, 11, 12, 13, 14, 15, 16, 17, 18] (fun ⟨n1, a3, a4⟩ => [(3, wv a3), (4, .int .i64 a4)]) (fun ⟨n1, a3, a4⟩ wr => (fixN (ref02_Value_L1 p0) n1 (a3, a4) = some r) ∧ Kz [] w wr) (fun ⟨n1, a3, a4⟩ => n1) ⟨FUEL, 0#64, 0⟩ ?_ ?_ ?_
  · repeat' first | exact trivial | refine ⟨rfl, ?_⟩
  · exact ⟨hm, Kz.refl _ _⟩
  · clear hm; rintro ⟨n1, a3, a4⟩ w1 ⟨hm, Kw1⟩
    have z2 := Kw1.size
    have hb := fix_succ hm; clear hm; obtain ⟨n1, rfl, hm⟩ := hb
    generalize hrec1 : fixN (ref02_Value_L1 p0) n1 = rec1 at hm
    unfold ref02_Value_L1 at hm
    try dsimp only at hm
    refine sw_seq ?_
    refine sw_seq ?_
    -- region 3 ref.go:29
    refine sw_region [(0, 0), (1, 0), (2, 0), (3, 0)] rfl rfl rfl ?_
    refine sd_vv rfl rfl rfl (vv_move rfl) ?_
    refine sd_vv rfl rfl rfl (vv_move rfl) ?_
    have B3 := (Rd.kz hp0 Kw1)
    refine sd_vv rfl rfl rfl (vv_lenT (l := p0) (c := bvc) Tryz.underlying50 rfl B3) ?_
    refine sd_vv rfl rfl rfl (vv_lss (a := a4) (b := (p0.length : Int)) rfl rfl) ?_
    refine sd_done ?_
    refine sw_cond rfl (fun c1 => ?_) (fun c1 => ?_)
    ·
      replace hm := ite_t (of_decide_eq_true c1) hm
      refine sw_skip ?_
      refine then_n ?_
      refine sw_seq ?_
      refine sw_block ?_
      -- region 5 ref.go:30
      refine sw_region [(0, 0), (1, 0), (2, 0), (3, 0), (4, 0), (5, 0), (6, 0), (7, 0), (8, 0)] rfl rfl rfl ?_
      refine sd_vv rfl rfl rfl (vv_move rfl) ?_
      refine sd_vv rfl rfl rfl (vv_umul (a := 256#64) (b := a3) rfl rfl) ?_
      refine sd_vv rfl rfl rfl (vv_move rfl) ?_
      refine sd_vv rfl rfl rfl (vv_move rfl) ?_
      have hb := bnd hm; clear hm; obtain ⟨y5, hy5, hm⟩ := hb
      refine sd_vv rfl rfl rfl (vv_ixT (i := a4) Tryz.underlying50 (one_5).siz rfl B3 rfl hy5) ?_
      refine sd_vv rfl rfl rfl (vv_el1T (q := 0) (u := bv y5) one_5 rfl B3 hy5 (by first | rfl | omega) rfl) ?_
      refine sd_vv rfl rfl rfl (vv_cvBU cv_5_24 rfl) ?_
      refine sd_vv rfl rfl rfl (vv_uadd (a := 256#64 * a3) (b := y5.setWidth 64) rfl rfl) ?_
      refine sd_vv rfl rfl rfl (vv_assign rfl) ?_
      refine sd_nil ?_
      refine block_n ?_
      refine then_n ?_
      -- region 4 ref.go:29
      refine sw_region [(0, 0), (1, 0), (2, 0)] rfl rfl rfl ?_
      refine sd_vv rfl rfl rfl (vv_move rfl) ?_
      refine sd_vv rfl rfl rfl (vv_add (k := .i64) (a := a4) (b := 1) rfl rfl) ?_
      refine sd_vv rfl rfl rfl (vv_assign rfl) ?_
      refine sd_nil ?_
      have K_4 : Kz [] w w1 := Kw1
      subst hrec1
      refine ⟨rfl, ⟨n1, (256#64 * a3) + (y5.setWidth 64), w64 (a4 + 1)⟩, ?_, ⟨hm, K_4⟩, Nat.lt_succ_self _⟩
      repeat' first | exact trivial | refine ⟨rfl, ?_⟩
    ·
      replace hm := ite_f (of_decide_eq_false c1) hm
      refine sw_exit ?_
      refine then_x ?_
      refine then_x ?_
      refine block_x ?_
      refine then_n ?_
      refine sw_seq ?_
      -- region 6 ref.go:32
      refine sw_region [(0, 0), (1, 0)] rfl rfl rfl ?_
      refine sd_vv rfl rfl rfl (vv_move rfl) ?_
      refine sd_vv rfl rfl rfl (vv_assign rfl) ?_
      refine sd_done ?_
      refine sw_ret ?_
      have X5 : Gr w w1 := (Gr.kz (Gr.refl w) Kw1)
      have hr := Option.some.inj hm
      subst hr
      refine ⟨_, _, rfl, res_1 rfl (rv_tmp rfl), ?_⟩
      exact ⟨rfl, X5⟩

set_option maxHeartbeats 2000000 in
theorem ref02_Number_w (p0 : W2) (p1 : BitVec 64) (p2 : BitVec 64)  (r : BitVec 64) (hm : ref02_Number p0 p1 p2 = some r) (w : World)   :
    Calls Tryz.prog 215 [kv p0, wv p1, wv p2].toArray w fun e w' => ∃ v, e = .returned v ∧ (v = wv r ∧ Gr w w') := by
  unfold ref02_Number at hm
  refine calls_of_sw (R := fun v w' => v = wv r ∧ Gr w w') 17 Tryz.func215 rfl rfl rfl ?_
  refine sw_seq ?_
  -- region 0 ref.go:100
  refine sw_region [(0, 0), (1, 0)] rfl rfl rfl ?_
  refine sd_ev rfl rfl rfl (ev_box (cs := kb p0) rfl rfl) ?_
  rintro _ w1 ⟨b1, rfl, hbw1, Bw1, Gw1⟩
  have z1 := Gw1.size
  have lt2 := Bw1.lt
  refine sd_vv rfl rfl rfl (vv_assign rfl) ?_
  refine sd_done ?_
  refine sw_seq ?_
  refine sw_seq ?_
  -- region 1 ref.go:101
  refine sw_region [(0, 0), (1, 0)] rfl rfl rfl ?_
  refine sd_vv rfl rfl rfl (vv_move rfl) ?_
  refine sd_vv rfl rfl rfl (vv_eqlU (c := p2) (d := 0#64) rfl rfl) ?_
  refine sd_done ?_
  refine sw_cond rfl (fun c1 => ?_) (fun c1 => ?_)
  ·
    replace hm := ite_t (of_decide_eq_true c1) hm
    refine sw_seq ?_
    -- region 2 ref.go:102
    refine sw_region [(0, 0)] rfl rfl rfl ?_
    refine sd_vv rfl rfl rfl (vv_assign rfl) ?_
    refine sd_done ?_
    refine sw_ret ?_
    refine then_r ?_
    have X3 : Gr w w1 := (Gr.trans (Gr.refl w) Gw1)
    have hr := Option.some.inj hm
    subst hr
    refine ⟨_, _, rfl, res_1 rfl (rv_tmp rfl), ?_⟩
    exact ⟨rfl, X3⟩
  ·
    replace hm := ite_f (of_decide_eq_false c1) hm
    refine sw_skip ?_
    refine then_n ?_
    refine sw_seq ?_
    -- region 3 ref.go:104
    refine sw_region [(0, 0), (1, 0), (2, 0), (3, 0), (4, 0)] rfl rfl rfl ?_
    refine sd_vv rfl rfl rfl (vv_loadW agg_23 rfl Bw1 rfl) ?_
    refine sd_vv rfl rfl rfl (vv_move rfl) ?_
    refine sd_ev rfl rfl rfl (ev_call en_64 rfl (rderive_c p0 (un8 3#8) (un8_nn _) (un8_le _) p1 _)) ?_
    rintro _ w2 ⟨rfl, Gw2⟩
    have z4 := Gw2.size
    refine sd_ev rfl rfl rfl (ev_alloc (cs := kb k0) zv_23 rfl) ?_
    rintro _ w3 ⟨b3, rfl, hbw3, Bw3, Gw3⟩
    have z5 := Gw3.size
    have lt6 := Bw3.lt
    refine sd_ev rfl rfl rfl (ev_stM (cs' := kb (drv p0 (un8 3#8) p1)) (vs := kb (drv p0 (un8 3#8) p1)) (agg_23).siz rfl rfl rfl rfl rfl Bw3 rfl (by obtain ⟨kk0, hk0⟩ := ex_of (drv p0 (un8 3#8) p1); rw [← hk0]; first | done | rfl)) ?_
    rintro _ w4 ⟨Bw4, Mw4⟩
    have z7 := Mw4.size
    refine sd_done ?_
    refine sw_seq ?_
    -- region 4 ref.go:105
    refine sw_region [(0, 0), (1, 0), (2, 0), (3, 0), (4, 0)] rfl rfl rfl ?_
    have Rk8 := rd_keyP (o := 0) (lo := 0) (hi := 8) (p := drv p0 (un8 3#8) p1) Bw4 rfl (by decide) (by decide)
    have lt9 := Rk8.lth
    refine sd_vv rfl rfl rfl (vv_sliceA (n := 16) (l := 0) (h := 8) Tryz.underlying23 (one_5).siz rfl rfl ⟨_, rfl⟩ (by decide) (by decide) (by decide)) ?_
    have hb := bnd hm; clear hm; obtain ⟨x1, hx1, hm⟩ := hb
    refine sd_ev rfl rfl rfl (ev_call en_254 rfl (ref02_Value_w (((kby (drv p0 (un8 3#8) p1)).take 8).drop 0) _ _ _ _ _ hx1 _ Rk8)) ?_
    rintro _ w5 ⟨rfl, Gw5⟩
    have z10 := Gw5.size
    refine sd_vv rfl rfl rfl (vv_move rfl) ?_
    have hb := bnd hm; clear hm; obtain ⟨x2, hx2, hm⟩ := hb
    refine sd_vv rfl rfl rfl (vv_remU (c := x1) (d := p2) rfl rfl hx2) ?_
    refine sd_vv rfl rfl rfl (vv_assign rfl) ?_
    refine sd_done ?_
    refine sw_ret ?_
    have X11 : Gr w w5 := (Gr.trans (Gr.md (Gr.trans (Gr.trans (Gr.trans (Gr.refl w) Gw1) Gw2) Gw3) Mw4) Gw5)
    have hr := Option.some.inj hm
    subst hr
    refine ⟨_, _, rfl, res_1 rfl (rv_tmp rfl), ?_⟩
    exact ⟨rfl, X11⟩

set_option maxHeartbeats 2000000 in
theorem ref04_CoefficientsOf_w (p0 : W2) (p1 : TScheme)  (r : List (BitVec 64)) (hm : ref04_CoefficientsOf p0 p1 = some r) (w : World)   :
    Calls Tryz.prog 205 [kv p0, .agg (TScheme.cs p1).toArray].toArray w fun e w' => ∃ v, e = .returned v ∧ (∃ (ur0_s : Value) (zr0_s : Nat) (gr0_s : Nat), v = ur0_s ∧ Own w' zr0_s gr0_s 24 1 ur0_s (r.map uwc) ∧ Hdn (zr0_s = 0 ∨ w.heap.size ≤ gr0_s) ∧ Gr w w') := by
  unfold ref04_CoefficientsOf at hm
  refine calls_of_sw (R := fun v w' => ∃ (ur0_s : Value) (zr0_s : Nat) (gr0_s : Nat), v = ur0_s ∧ Own w' zr0_s gr0_s 24 1 ur0_s (r.map uwc) ∧ Hdn (zr0_s = 0 ∨ w.heap.size ≤ gr0_s) ∧ Gr w w') 27 Tryz.func205 rfl rfl rfl ?_
  refine sw_seq ?_
  -- region 0 ref.go:44
  refine sw_region [(0, 0), (1, 0), (2, 0)] rfl rfl rfl ?_
  refine sd_ev rfl rfl rfl (ev_box (cs := kb p0) rfl rfl) ?_
  rintro _ w1 ⟨b1, rfl, hbw1, Bw1, Gw1⟩
  have z1 := Gw1.size
  have lt2 := Bw1.lt
  refine sd_ev rfl rfl rfl (ev_box (cs := TScheme.cs p1) rfl rfl) ?_
  rintro _ w2 ⟨b2, rfl, hbw2, Bw2, Gw2⟩
  have z3 := Gw2.size
  have lt4 := Bw2.lt
  refine sd_vv rfl rfl rfl (vv_assign rfl) ?_
  refine sd_done ?_
  refine sw_seq ?_
  -- region 1 ref.go:45
  refine sw_region [(0, 0)] rfl rfl rfl ?_
  refine sd_vv rfl rfl rfl (vv_assign rfl) ?_
  refine sd_done ?_
  refine sw_seq ?_
  -- region 2 ref.go:46
  refine sw_region [(0, 0), (1, 0), (2, 0), (3, 0)] rfl rfl rfl ?_
  have B5 := (Bx.gr Bw1 Gw2)
  refine sd_vv rfl rfl rfl (vv_loadW agg_23 rfl B5 rfl) ?_
  refine sd_ev rfl rfl rfl (ev_call en_64 rfl (rderive_c p0 (un8 40#8) (un8_nn _) (un8_le _) 0#64 _)) ?_
  rintro _ w3 ⟨rfl, Gw3⟩
  have z6 := Gw3.size
  refine sd_ev rfl rfl rfl (ev_alloc (cs := kb k0) zv_23 rfl) ?_
  rintro _ w4 ⟨b4, rfl, hbw4, Bw4, Gw4⟩
  have z7 := Gw4.size
  have lt8 := Bw4.lt
  refine sd_ev rfl rfl rfl (ev_stM (cs' := kb (drv p0 (un8 40#8) 0#64)) (vs := kb (drv p0 (un8 40#8) 0#64)) (agg_23).siz rfl rfl rfl rfl rfl Bw4 rfl (by obtain ⟨kk0, hk0⟩ := ex_of (drv p0 (un8 40#8) 0#64); rw [← hk0]; first | done | rfl)) ?_
  rintro _ w5 ⟨Bw5, Mw5⟩
  have z9 := Mw5.size
  refine sd_done ?_
  refine sw_seq ?_
  refine sw_seq ?_
  -- region 3 ref.go:47
  refine sw_region [(0, 0)] rfl rfl rfl ?_
  refine sd_vv rfl rfl rfl (vv_assign rfl) ?_
  refine sd_done ?_
  refine sw_block ?_
  have X10 : Gr w w5 := (Gr.md (Gr.trans (Gr.trans (Gr.trans (Gr.trans (Gr.refl w) Gw1) Gw2) Gw3) Gw4) Mw5)
  refine sw_loopD (α := Nat × List (BitVec 64) × Int × Value × Nat × Nat) [5, 7, 10, 11, 12, 13, 14, 15, 16, 17, 18, 19, 20, 21, 22, 23, 24, 25] (fun ⟨n1, a4, a6, vy5, zy5, gy5⟩ => [(5, vy5), (7, .int .i64 a6)]) (fun ⟨n1, a4, a6, vy5, zy5, gy5⟩ wr => (fixN (ref04_CoefficientsOf_L1 p0 p1) n1 (a4, a6) = some r) ∧ Own wr zy5 gy5 24 1 vy5 (a4.map uwc) ∧ Hdn (zy5 = 0 ∨ w5.heap.size ≤ gy5) ∧ Kz [] w5 wr) (fun ⟨n1, a4, a6, vy5, zy5, gy5⟩ => n1) ⟨FUEL, [], 0, (.slice none 0 0), 0, 0⟩ ?_ ?_ ?_
  · repeat' first | exact trivial | refine ⟨rfl, ?_⟩
  · exact ⟨hm, (own_nil _ 0 24 1), ⟨(.inl rfl)⟩, Kz.refl _ _⟩
  · clear hm; rintro ⟨n1, a4, a6, vy5, zy5, gy5⟩ w6 ⟨hm, Fw6_0, Fw6_1, Kw6⟩
    have z11 := Kw6.size
    have lt12 := Fw6_0.lth
    have hb := fix_succ hm; clear hm; obtain ⟨n1, rfl, hm⟩ := hb
    generalize hrec1 : fixN (ref04_CoefficientsOf_L1 p0 p1) n1 = rec1 at hm
    unfold ref04_CoefficientsOf_L1 at hm
    try dsimp only at hm
    refine sw_seq ?_
    refine sw_seq ?_
    -- region 4 ref.go:47
    refine sw_region [(0, 0), (1, 0), (2, 0), (3, 0)] rfl rfl rfl ?_
    refine sd_vv rfl rfl rfl (vv_move rfl) ?_
    refine sd_vv rfl rfl rfl (vv_fieldAddr fa_28_2 rfl) ?_
    have B13 := (Bx.kz (Bx.md (Bx.gr (Bx.gr Bw2 Gw3) Gw4) Mw5) Kw6)
    refine sd_vv rfl rfl rfl (vv_load1 (v := .int .i64 p1.Degree) one_3 rfl B13 rfl) ?_
    refine sd_vv rfl rfl rfl (vv_leq (a := a6) (b := p1.Degree) rfl rfl) ?_
    refine sd_done ?_
    refine sw_cond rfl (fun c1 => ?_) (fun c1 => ?_)
    ·
      replace hm := ite_t (of_decide_eq_true c1) hm
      refine sw_skip ?_
      refine then_n ?_
      refine sw_seq ?_
      refine sw_block ?_
      -- region 6 ref.go:48
      refine sw_region [(0, 0), (1, 0), (2, 0), (3, 0), (4, 0), (5, 0), (6, 0), (7, 0), (8, 0), (9, 0), (10, 0)] rfl rfl rfl ?_
      refine sd_vv rfl rfl rfl (vv_move rfl) ?_
      have B14 := (Bx.kz Bw5 Kw6)
      refine sd_vv rfl rfl rfl (vv_loadW agg_23 rfl B14 rfl) ?_
      refine sd_vv rfl rfl rfl (vv_move rfl) ?_
      refine sd_vv rfl rfl rfl (vv_cvIU cv_3_24 rfl) ?_
      refine sd_vv rfl rfl rfl (vv_fieldAddr fa_28_3 rfl) ?_
      refine sd_vv rfl rfl rfl (vv_fieldAddr fa_26_1 rfl) ?_
      refine sd_vv rfl rfl rfl (vv_load1 (v := wv p1.Group.Q) one_24 rfl B13 rfl) ?_
      have hb := bnd hm; clear hm; obtain ⟨x7, hx7, hm⟩ := hb
      refine sd_ev rfl rfl rfl (ev_call en_215 rfl (ref02_Number_w (drv p0 (un8 40#8) 0#64) (wd a6) p1.Group.Q _ hx7 _)) ?_
      rintro _ w7 ⟨rfl, Gw7⟩
      have z15 := Gw7.size
      refine sd_ev rfl rfl rfl (ev_litT [x7] uwc bsl_160_1 rfl rfl (ws_of rfl) rfl rfl rfl) ?_
      rintro vw8 w8 ⟨gw8, hbw8, Ow8, Gw8⟩
      have z16 := Gw8.size
      have lt17 := Ow8.lth
      have B18 := (Own.gr (Own.gr Fw6_0 Gw7) Gw8)
      have hb := bnd hm; clear hm; obtain ⟨l8, hl8, hm⟩ := hb
      refine sd_ev rfl rfl rfl (ev_appT (l := a4) (m := [x7]) (c := uwc) apt_160 rfl rfl B18 (Own.rd Ow8) hl8 (by decide)) ?_
      rintro vw9 w9 ⟨zw9, gw9, Ow9, Aw9, qw9, rw9⟩
      have z19 := Aw9.size
      refine sd_vv rfl rfl rfl (vv_assign rfl) ?_
      refine sd_nil ?_
      refine block_n ?_
      refine then_n ?_
      -- region 5 ref.go:47
      refine sw_region [(0, 0), (1, 0), (2, 0)] rfl rfl rfl ?_
      refine sd_vv rfl rfl rfl (vv_move rfl) ?_
      refine sd_vv rfl rfl rfl (vv_add (k := .i64) (a := a6) (b := 1) rfl rfl) ?_
      refine sd_vv rfl rfl rfl (vv_assign rfl) ?_
      refine sd_nil ?_
      have K_20 : Kz [] w5 w9 := (Kz.ka (Kz.gr (Kz.gr Kw6 Gw7) Gw8) Aw9 (tk1 ((pv_0 (A := (fun x => w5.heap.size ≤ x)) Fw6_1) : zy5 = 0 ∨ w5.heap.size ≤ gy5)))
      subst hrec1
      refine ⟨rfl, ⟨n1, l8, w64 (a6 + 1), vw9, zw9, gw9⟩, ?_, ⟨hm, Ow9, ⟨(pv_app (A := (fun x => w5.heap.size ≤ x)) rw9 (pv_0 (A := (fun x => w5.heap.size ≤ x)) Fw6_1))⟩, K_20⟩, Nat.lt_succ_self _⟩
      repeat' first | exact trivial | refine ⟨rfl, ?_⟩
    ·
      replace hm := ite_f (of_decide_eq_false c1) hm
      refine sw_exit ?_
      refine then_x ?_
      refine then_x ?_
      refine block_x ?_
      refine then_n ?_
      refine sw_seq ?_
      -- region 7 ref.go:50
      refine sw_region [(0, 0), (1, 0)] rfl rfl rfl ?_
      refine sd_vv rfl rfl rfl (vv_move rfl) ?_
      refine sd_vv rfl rfl rfl (vv_assign rfl) ?_
      refine sd_done ?_
      refine sw_ret ?_
      have X21 : Gr w w6 := (Gr.kz X10 Kw6)
      have hr := Option.some.inj hm
      subst hr
      refine ⟨_, _, rfl, res_1 rfl (rv_tmp rfl), ?_⟩
      exact ⟨vy5, zy5, gy5, rfl, Fw6_0, ⟨(pv_0 (A := (fun x => w.heap.size ≤ x)) Fw6_1)⟩, X21⟩

set_option maxHeartbeats 2000000 in
theorem ref04_ValueOf_w (p0 : BitVec 64) (p1 : List (BitVec 64)) (p2 : BitVec 64) (vp1 : Value) (zp1 gp1 op1 : Nat) (r : BitVec 64) (hm : ref04_ValueOf p0 p1 p2 = some r) (w : World) (hp1 : Rd w zp1 gp1 op1 1 vp1 (p1.map uwc))  :
    Calls Tryz.prog 204 [wv p0, vp1, wv p2].toArray w fun e w' => ∃ v, e = .returned v ∧ (v = wv r ∧ Gr w w') := by
  have lt1 := hp1.lth
  unfold ref04_ValueOf at hm
  refine calls_of_sw (R := fun v w' => v = wv r ∧ Gr w w') 32 Tryz.func204 rfl rfl rfl ?_
  refine sw_seq ?_
  -- region 0 ref.go:62
  refine sw_region [(0, 0)] rfl rfl rfl ?_
  refine sd_vv rfl rfl rfl (vv_assign rfl) ?_
  refine sd_done ?_
  refine sw_seq ?_
  -- region 1 ref.go:63
  refine sw_region [(0, 0)] rfl rfl rfl ?_
  refine sd_vv rfl rfl rfl (vv_assign rfl) ?_
  refine sd_done ?_
  refine sw_seq ?_
  -- region 2 ref.go:64
  refine sw_region [(0, 0)] rfl rfl rfl ?_
  refine sd_vv rfl rfl rfl (vv_assign rfl) ?_
  refine sd_done ?_
  refine sw_seq ?_
  refine sw_seq ?_
  -- region 3 ref.go:65
  refine sw_region [(0, 0)] rfl rfl rfl ?_
  refine sd_vv rfl rfl rfl (vv_assign rfl) ?_
  refine sd_done ?_
  refine sw_block ?_
  refine sw_loopD (α := Nat × BitVec 64 × BitVec 64 × Int) [7, 8, 9, 10, 11, 12, 13, 14, 15, 16, 17, 18, 19, 20, 21, 22, 23, 24, 25, 26, 27, 28, 29, 30] (fun ⟨n1, a4, a5, a6⟩ => [(7, wv a4), (8, wv a5), (9, .int .i64 a6)]) (fun ⟨n1, a4, a5, a6⟩ wr => (fixN (ref04_ValueOf_L1 p0 p1 p2) n1 (a4, a5, a6) = some r) ∧ Kz [] w wr) (fun ⟨n1, a4, a5, a6⟩ => n1) ⟨FUEL, 0#64, 1#64, 0⟩ ?_ ?_ ?_
  · repeat' first | exact trivial | refine ⟨rfl, ?_⟩
  · exact ⟨hm, Kz.refl _ _⟩
  · clear hm; rintro ⟨n1, a4, a5, a6⟩ w1 ⟨hm, Kw1⟩
    have z2 := Kw1.size
    have hb := fix_succ hm; clear hm; obtain ⟨n1, rfl, hm⟩ := hb
    generalize hrec1 : fixN (ref04_ValueOf_L1 p0 p1 p2) n1 = rec1 at hm
    unfold ref04_ValueOf_L1 at hm
    try dsimp only at hm
    refine sw_seq ?_
    refine sw_seq ?_
    -- region 4 ref.go:65
    refine sw_region [(0, 0), (1, 0), (2, 0), (3, 0)] rfl rfl rfl ?_
    refine sd_vv rfl rfl rfl (vv_move rfl) ?_
    refine sd_vv rfl rfl rfl (vv_move rfl) ?_
    have B3 := (Rd.kz hp1 Kw1)
    refine sd_vv rfl rfl rfl (vv_lenT (l := p1) (c := uwc) Tryz.underlying160 rfl B3) ?_
    refine sd_vv rfl rfl rfl (vv_lss (a := a6) (b := (p1.length : Int)) rfl rfl) ?_
    refine sd_done ?_
    refine sw_cond rfl (fun c1 => ?_) (fun c1 => ?_)
    ·
      replace hm := ite_t (of_decide_eq_true c1) hm
      refine sw_skip ?_
      refine then_n ?_
      refine sw_seq ?_
      refine sw_block ?_
      refine sw_seq ?_
      -- region 6 ref.go:66
      refine sw_region [(0, 0), (1, 0), (2, 0), (3, 0), (4, 0), (5, 0), (6, 0), (7, 0), (8, 0), (9, 0), (10, 0)] rfl rfl rfl ?_
      refine sd_vv rfl rfl rfl (vv_move rfl) ?_
      refine sd_vv rfl rfl rfl (vv_move rfl) ?_
      refine sd_vv rfl rfl rfl (vv_move rfl) ?_
      have hb := bnd hm; clear hm; obtain ⟨y7, hy7, hm⟩ := hb
      refine sd_vv rfl rfl rfl (vv_ixT (i := a6) Tryz.underlying160 (one_24).siz rfl B3 rfl hy7) ?_
      refine sd_vv rfl rfl rfl (vv_el1T (q := 0) (u := wv y7) one_24 rfl B3 hy7 (by first | rfl | omega) rfl) ?_
      refine sd_vv rfl rfl rfl (vv_move rfl) ?_
      refine sd_vv rfl rfl rfl (vv_umul (a := y7) (b := a5) rfl rfl) ?_
      refine sd_vv rfl rfl rfl (vv_uadd (a := a4) (b := y7 * a5) rfl rfl) ?_
      refine sd_vv rfl rfl rfl (vv_move rfl) ?_
      have hb := bnd hm; clear hm; obtain ⟨x8, hx8, hm⟩ := hb
      refine sd_vv rfl rfl rfl (vv_remU (c := a4 + (y7 * a5)) (d := p0) rfl rfl hx8) ?_
      refine sd_vv rfl rfl rfl (vv_assign rfl) ?_
      refine sd_done ?_
      -- region 7 ref.go:67
      refine sw_region [(0, 0), (1, 0), (2, 0), (3, 0), (4, 0), (5, 0)] rfl rfl rfl ?_
      refine sd_vv rfl rfl rfl (vv_move rfl) ?_
      refine sd_vv rfl rfl rfl (vv_move rfl) ?_
      refine sd_vv rfl rfl rfl (vv_umul (a := a5) (b := p2) rfl rfl) ?_
      refine sd_vv rfl rfl rfl (vv_move rfl) ?_
      have hb := bnd hm; clear hm; obtain ⟨x9, hx9, hm⟩ := hb
      refine sd_vv rfl rfl rfl (vv_remU (c := a5 * p2) (d := p0) rfl rfl hx9) ?_
      refine sd_vv rfl rfl rfl (vv_assign rfl) ?_
      refine sd_nil ?_
      refine block_n ?_
      refine then_n ?_
      -- region 5 ref.go:65
      refine sw_region [(0, 0), (1, 0), (2, 0)] rfl rfl rfl ?_
      refine sd_vv rfl rfl rfl (vv_move rfl) ?_
      refine sd_vv rfl rfl rfl (vv_add (k := .i64) (a := a6) (b := 1) rfl rfl) ?_
      refine sd_vv rfl rfl rfl (vv_assign rfl) ?_
      refine sd_nil ?_
      have K_4 : Kz [] w w1 := Kw1
      subst hrec1
      refine ⟨rfl, ⟨n1, x8, x9, w64 (a6 + 1)⟩, ?_, ⟨hm, K_4⟩, Nat.lt_succ_self _⟩
      repeat' first | exact trivial | refine ⟨rfl, ?_⟩
    ·
      replace hm := ite_f (of_decide_eq_false c1) hm
      refine sw_exit ?_
      refine then_x ?_
      refine then_x ?_
      refine block_x ?_
      refine then_n ?_
      refine sw_seq ?_
      -- region 8 ref.go:69
      refine sw_region [(0, 0), (1, 0)] rfl rfl rfl ?_
      refine sd_vv rfl rfl rfl (vv_move rfl) ?_
      refine sd_vv rfl rfl rfl (vv_assign rfl) ?_
      refine sd_done ?_
      refine sw_ret ?_
      have X5 : Gr w w1 := (Gr.kz (Gr.refl w) Kw1)
      have hr := Option.some.inj hm
      subst hr
      refine ⟨_, _, rfl, res_1 rfl (rv_tmp rfl), ?_⟩
      exact ⟨rfl, X5⟩

set_option maxHeartbeats 2000000 in
theorem ref04_SecretOf_w (p0 : W2) (p1 : TScheme) (p2 : Int)  (r : TSecret) (hm : ref04_SecretOf p0 p1 p2 = some r) (w : World)   :
    Calls Tryz.prog 143 [kv p0, .agg (TScheme.cs p1).toArray, .int .i64 p2].toArray w fun e w' => ∃ v, e = .returned v ∧ (∃ (ur0_1 : Value) (zr0_1 : Nat) (gr0_1 : Nat), v = .agg (TSecret.cs r ur0_1).toArray ∧ Own w' zr0_1 gr0_1 92 18 ur0_1 (r.Labels.map TLabel.cs) ∧ Hdn (zr0_1 = 0 ∨ w.heap.size ≤ gr0_1) ∧ Gr w w') := by
  unfold ref04_SecretOf at hm
  refine calls_of_sw (R := fun v w' => ∃ (ur0_1 : Value) (zr0_1 : Nat) (gr0_1 : Nat), v = .agg (TSecret.cs r ur0_1).toArray ∧ Own w' zr0_1 gr0_1 92 18 ur0_1 (r.Labels.map TLabel.cs) ∧ Hdn (zr0_1 = 0 ∨ w.heap.size ≤ gr0_1) ∧ Gr w w') 23 Tryz.func143 rfl rfl rfl ?_
  refine sw_seq ?_
  -- region 0 ref.go:158
  refine sw_region [(0, 0), (1, 0), (2, 0)] rfl rfl rfl ?_
  refine sd_ev rfl rfl rfl (ev_box (cs := kb p0) rfl rfl) ?_
  rintro _ w1 ⟨b1, rfl, hbw1, Bw1, Gw1⟩
  have z1 := Gw1.size
  have lt2 := Bw1.lt
  refine sd_ev rfl rfl rfl (ev_box (cs := TScheme.cs p1) rfl rfl) ?_
  rintro _ w2 ⟨b2, rfl, hbw2, Bw2, Gw2⟩
  have z3 := Gw2.size
  have lt4 := Bw2.lt
  refine sd_ev rfl rfl rfl (ev_alloc (cs := TSecret.cs (TSecret.mk 0 [] (TPoint.mk 0#64 0#64)) (.slice none 0 0)) zv_33 rfl) ?_
  rintro _ w3 ⟨b3, rfl, hbw3, Bw3, Gw3⟩
  have z5 := Gw3.size
  have lt6 := Bw3.lt
  refine sd_done ?_
  refine sw_seq ?_
  -- region 1 ref.go:159
  refine sw_region [(0, 0), (1, 0), (2, 0), (3, 0)] rfl rfl rfl ?_
  refine sd_vv rfl rfl rfl (vv_move rfl) ?_
  refine sd_vv rfl rfl rfl (vv_cvIU cv_3_24 rfl) ?_
  refine sd_vv rfl rfl rfl (vv_uadd (a := wd p2) (b := 1#64) rfl rfl) ?_
  refine sd_vv rfl rfl rfl (vv_assign rfl) ?_
  refine sd_done ?_
  refine sw_seq ?_
  -- region 2 ref.go:160 DRAWS
  refine sw_drawN [([b3])] [] (.leaf [(0, 10), (1, 10), (2, 10), (3, 10), (4, 10), (5, 10), (6, 10), (8, 10), (7, 0), (9, 0), (10, 10), (11, 10), (12, 0)]) (by kernel_rfl) (by kernel_rfl) rfl (by kernel_rfl) ?_
  intro w4 Gw4 zw4
  refine sdz_leaf ?_
  refine dd_hn 0 rfl rfl rfl rfl (Kp.refl ([b3]) w4) (fun w hS => vv_move rfl) ?_
  refine dd_hn 0 rfl rfl rfl rfl (Kp.refl ([b3]) w4) (fun w hS => vv_move rfl) ?_
  refine dd_hn 0 rfl rfl rfl rfl (Kp.refl ([b3]) w4) (fun w hS => vv_fieldAddr fa_28_3 rfl) ?_
  refine dd_hn 0 rfl rfl rfl rfl (Kp.refl ([b3]) w4) (fun w hS => vv_fieldAddr fa_26_1 rfl) ?_
  have B7 := (Bx.gr (Bx.gr Bw2 Gw3) Gw4)
  refine dd_hn 0 rfl rfl rfl rfl (Kp.refl ([b3]) w4) (fun w hS => vv_load1 (v := wv p1.Group.Q) one_24 rfl (Bx.kp B7 hS) rfl) ?_
  have B8 := (Bx.gr (Bx.gr (Bx.gr Bw1 Gw2) Gw3) Gw4)
  refine dd_hn 0 rfl rfl rfl rfl (Kp.refl ([b3]) w4) (fun w hS => vv_loadW agg_23 rfl (Bx.kp B8 hS) rfl) ?_
  refine dd_hn 0 rfl rfl rfl rfl (Kp.refl ([b3]) w4) (fun w hS => vv_loadW agg_28 rfl (Bx.kp B7 hS) rfl) ?_
  refine dd_hn 0 rfl rfl rfl rfl (Kp.refl ([b3]) w4) (fun w hS => vv_move rfl) ?_
  have hb := bnd hm; clear hm; obtain ⟨x1, hx1, hm⟩ := hb
  refine dd_z [] rfl rfl rfl (ev_call en_205 rfl (ref04_CoefficientsOf_w p0 p1 _ hx1 _)) ⟨fun _ => tk0, trivial⟩ ?_
  rintro u5_r0_s w5 ⟨_, z5_r0_s, g5_r0_s, rfl, O5_r0_s, f5_r0_s, Gw5⟩
  have z9 := Gw5.size
  have lt10 := O5_r0_s.lth
  refine ⟨Kz.ofGr Gw5, ?_⟩
  have hb := bnd hm; clear hm; obtain ⟨x2, hx2, hm⟩ := hb
  refine dd_z [] rfl rfl rfl (ev_call en_204 rfl (ref04_ValueOf_w p1.Group.Q x1 ((wd p2) + 1#64) _ _ _ _ _ hx2 _ (Own.rd O5_r0_s))) ⟨fun _ => tk0, trivial⟩ ?_
  rintro _ w6 ⟨rfl, Gw6⟩
  have z11 := Gw6.size
  refine ⟨Kz.ofGr Gw6, ?_⟩
  have S12 := (Kp.gr (Kp.gr (Kp.refl ([b3]) w4) Gw5) Gw6)
  refine dd_hn 0 rfl rfl rfl rfl S12 (fun w hS => vv_build (cs := TPoint.cs (TPoint.mk ((wd p2) + 1#64) x2)) bs_31 rfl rfl) ?_
  refine dd_hn 0 rfl rfl rfl rfl S12 (fun w hS => vv_build (cs := TSecret.cs (TSecret.mk p2 [] (TPoint.mk ((wd p2) + 1#64) x2)) (.slice none 0 0)) bs_33 rfl (fill_M rfl rfl rfl (fill_M rfl rfl rfl rfl))) ?_
  have B13 := (Bx.gr (Bx.gr (Bx.gr Bw3 Gw4) Gw5) Gw6)
  refine dd_z [(1, b3)] rfl rfl rfl (ev_stM (cs' := TSecret.cs (TSecret.mk p2 [] (TPoint.mk ((wd p2) + 1#64) x2)) (.slice none 0 0)) (vs := TSecret.cs (TSecret.mk p2 [] (TPoint.mk ((wd p2) + 1#64) x2)) (.slice none 0 0)) (agg_33).siz rfl rfl rfl rfl (TSecret.cs_ones _ _ rfl) B13 rfl rfl) ⟨fun _ => tk0, trivial⟩ ?_
  rintro _ w7 ⟨Bw7, Mw7⟩
  have z14 := Mw7.size
  refine ⟨Kz.ofMd Mw7, ?_⟩
  refine sd_done ?_
  refine sw_ret ?_
  have X15 : Gr w w7 := (Gr.md (Gr.trans (Gr.trans (Gr.trans (Gr.trans (Gr.trans (Gr.trans (Gr.refl w) Gw1) Gw2) Gw3) Gw4) Gw5) Gw6) Mw7)
  have hr := Option.some.inj hm
  subst hr
  refine ⟨_, _, rfl, res_1 rfl (rv_cellW agg_33 rfl Bw7 rfl), ?_⟩
  exact ⟨(.slice none 0 0), 0, 0, rfl, (own_nil _ 0 92 18), ⟨.inl rfl⟩, X15⟩

set_option maxHeartbeats 2000000 in
theorem ref04_Secret_w (p0 : W2) (p1 : TScheme) (p2 : Int)  (r : TSecret × Int) (hm : ref04_Secret p0 p1 p2 = some r) (w : World)   :
    Calls Tryz.prog 62 [kv p0, .agg (TScheme.cs p1).toArray, .int .i64 p2].toArray w fun e w' => ∃ v, e = .returned v ∧ (∃ (ur0_1 : Value) (zr0_1 : Nat) (gr0_1 : Nat), v = .tuple [.agg (TSecret.cs r.1 ur0_1).toArray, .int .i64 r.2].toArray ∧ Own w' zr0_1 gr0_1 92 18 ur0_1 (r.1.Labels.map TLabel.cs) ∧ Hdn (zr0_1 = 0 ∨ w.heap.size ≤ gr0_1) ∧ Gr w w') := by
  unfold ref04_Secret at hm
  refine calls_of_sw (R := fun v w' => ∃ (ur0_1 : Value) (zr0_1 : Nat) (gr0_1 : Nat), v = .tuple [.agg (TSecret.cs r.1 ur0_1).toArray, .int .i64 r.2].toArray ∧ Own w' zr0_1 gr0_1 92 18 ur0_1 (r.1.Labels.map TLabel.cs) ∧ Hdn (zr0_1 = 0 ∨ w.heap.size ≤ gr0_1) ∧ Gr w w') 26 Tryz.func62 rfl rfl rfl ?_
  refine sw_seq ?_
  -- region 0 ref.go:164
  refine sw_region [(0, 0), (1, 0), (2, 0), (3, 0)] rfl rfl rfl ?_
  refine sd_ev rfl rfl rfl (ev_box (cs := kb p0) rfl rfl) ?_
  rintro _ w1 ⟨b1, rfl, hbw1, Bw1, Gw1⟩
  have z1 := Gw1.size
  have lt2 := Bw1.lt
  refine sd_ev rfl rfl rfl (ev_box (cs := TScheme.cs p1) rfl rfl) ?_
  rintro _ w2 ⟨b2, rfl, hbw2, Bw2, Gw2⟩
  have z3 := Gw2.size
  have lt4 := Bw2.lt
  refine sd_ev rfl rfl rfl (ev_alloc (cs := TSecret.cs (TSecret.mk 0 [] (TPoint.mk 0#64 0#64)) (.slice none 0 0)) zv_33 rfl) ?_
  rintro _ w3 ⟨b3, rfl, hbw3, Bw3, Gw3⟩
  have z5 := Gw3.size
  have lt6 := Bw3.lt
  refine sd_vv rfl rfl rfl (vv_assign rfl) ?_
  refine sd_done ?_
  refine sw_seq ?_
  refine sw_seq ?_
  -- region 1 ref.go:165
  refine sw_region [(0, 0), (1, 0), (2, 0)] rfl rfl rfl ?_
  have B7 := (Bx.gr Bw2 Gw3)
  refine sd_vv rfl rfl rfl (vv_loadW agg_28 rfl B7 rfl) ?_
  have hb := bnd hm; clear hm; obtain ⟨x1, hx1, hm⟩ := hb
  refine sd_ev rfl rfl rfl (ev_call en_141 rfl (ref04_Valid_w p1 _ hx1 _)) ?_
  rintro _ w4 ⟨rfl, Gw4⟩
  have z8 := Gw4.size
  refine sd_vv rfl rfl rfl (vv_not rfl) ?_
  refine sd_done ?_
  refine sw_cond rfl (fun c1 => ?_) (fun c1 => ?_)
  ·
    replace hm := cnd_t c1 hm
    refine sw_seq ?_
    -- region 2 ref.go:166
    refine sw_region [(0, 0), (1, 0), (2, 0)] rfl rfl rfl ?_
    refine sd_vv rfl rfl rfl (vv_build (cs := TSecret.cs (TSecret.mk 0 [] (TPoint.mk 0#64 0#64)) (.slice none 0 0)) bs_33 rfl rfl) ?_
    have B9 := (Bx.gr Bw3 Gw4)
    refine sd_ev rfl rfl rfl (ev_stM (cs' := TSecret.cs (TSecret.mk 0 [] (TPoint.mk 0#64 0#64)) (.slice none 0 0)) (vs := TSecret.cs (TSecret.mk 0 [] (TPoint.mk 0#64 0#64)) (.slice none 0 0)) (agg_33).siz rfl rfl rfl rfl (TSecret.cs_ones _ _ rfl) B9 rfl rfl) ?_
    rintro _ w5 ⟨Bw5, Mw5⟩
    have z10 := Mw5.size
    refine sd_vv rfl rfl rfl (vv_assign rfl) ?_
    refine sd_done ?_
    refine sw_ret ?_
    refine then_r ?_
    have X11 : Gr w w5 := (Gr.md (Gr.trans (Gr.trans (Gr.trans (Gr.trans (Gr.refl w) Gw1) Gw2) Gw3) Gw4) Mw5)
    have hr := Option.some.inj hm
    subst hr
    refine ⟨_, _, rfl, res_2 rfl (rv_cellW agg_33 rfl Bw5 rfl) (rv_tmp rfl), ?_⟩
    exact ⟨(.slice none 0 0), 0, 0, rfl, (own_nil _ 0 92 18), ⟨.inl rfl⟩, X11⟩
  ·
    replace hm := cnd_f c1 hm
    refine sw_skip ?_
    refine then_n ?_
    refine sw_seq ?_
    have X12 : Gr w w4 := (Gr.trans (Gr.trans (Gr.trans (Gr.trans (Gr.refl w) Gw1) Gw2) Gw3) Gw4)
    refine sw_joinD (β := Bool) [12, 13, 14, 15, 16, 17, 18, 19, 20] (fun a2 => [(20, .bool a2)]) (fun a2 wr => (ref04_Secret_J1 p0 p1 p2 a2 = some r) ∧ Kz [] w4 wr) ?_ ?_
    · clear hm; rintro a2 w6 ⟨hm, Kw6⟩
      have z13 := Kw6.size
      unfold ref04_Secret_J1 at hm
      refine sw_cond rfl (fun c2 => ?_) (fun c2 => ?_)
      ·
        replace hm := cnd_t c2 hm
        refine sw_seq ?_
        -- region 4 ref.go:169
        refine sw_region [(0, 0), (1, 0), (2, 0)] rfl rfl rfl ?_
        refine sd_vv rfl rfl rfl (vv_build (cs := TSecret.cs (TSecret.mk 0 [] (TPoint.mk 0#64 0#64)) (.slice none 0 0)) bs_33 rfl rfl) ?_
        have B14 := (Bx.kz (Bx.gr Bw3 Gw4) Kw6)
        refine sd_ev rfl rfl rfl (ev_stM (cs' := TSecret.cs (TSecret.mk 0 [] (TPoint.mk 0#64 0#64)) (.slice none 0 0)) (vs := TSecret.cs (TSecret.mk 0 [] (TPoint.mk 0#64 0#64)) (.slice none 0 0)) (agg_33).siz rfl rfl rfl rfl (TSecret.cs_ones _ _ rfl) B14 rfl rfl) ?_
        rintro _ w7 ⟨Bw7, Mw7⟩
        have z15 := Mw7.size
        refine sd_vv rfl rfl rfl (vv_assign rfl) ?_
        refine sd_done ?_
        refine sw_ret ?_
        refine then_r ?_
        have X16 : Gr w w7 := (Gr.md (Gr.kz X12 Kw6) Mw7)
        have hr := Option.some.inj hm
        subst hr
        refine ⟨_, _, rfl, res_2 rfl (rv_cellW agg_33 rfl Bw7 rfl) (rv_tmp rfl), ?_⟩
        exact ⟨(.slice none 0 0), 0, 0, rfl, (own_nil _ 0 92 18), ⟨.inl rfl⟩, X16⟩
      ·
        replace hm := cnd_f c2 hm
        refine sw_skip ?_
        refine then_n ?_
        refine sw_seq ?_
        -- region 5 ref.go:171
        refine sw_region [(0, 0), (1, 0), (2, 0), (3, 0), (4, 0), (5, 0)] rfl rfl rfl ?_
        have B17 := (Bx.kz (Bx.gr (Bx.gr (Bx.gr Bw1 Gw2) Gw3) Gw4) Kw6)
        refine sd_vv rfl rfl rfl (vv_loadW agg_23 rfl B17 rfl) ?_
        have B18 := (Bx.kz (Bx.gr B7 Gw4) Kw6)
        refine sd_vv rfl rfl rfl (vv_loadW agg_28 rfl B18 rfl) ?_
        refine sd_vv rfl rfl rfl (vv_move rfl) ?_
        have hb := bnd hm; clear hm; obtain ⟨x3, hx3, hm⟩ := hb
        refine sd_ev rfl rfl rfl (ev_call en_143 rfl (ref04_SecretOf_w p0 p1 p2 _ hx3 _)) ?_
        rintro _ w8 ⟨u8_r0_1, z8_r0_1, g8_r0_1, rfl, O8_r0_1, f8_r0_1, Gw8⟩
        have z19 := Gw8.size
        have lt20 := O8_r0_1.lth
        have B21 := (Bx.gr (Bx.kz (Bx.gr Bw3 Gw4) Kw6) Gw8)
        refine sd_ev rfl rfl rfl (ev_stM (cs' := TSecret.cs x3 u8_r0_1) (vs := TSecret.cs x3 u8_r0_1) (agg_33).siz rfl rfl rfl rfl (TSecret.cs_ones _ _ (Own.oneB O8_r0_1)) B21 rfl rfl) ?_
        rintro _ w9 ⟨Bw9, Mw9⟩
        have z22 := Mw9.size
        refine sd_vv rfl rfl rfl (vv_assign rfl) ?_
        refine sd_done ?_
        refine sw_ret ?_
        have B23 := (Own.md O8_r0_1 Mw9 (tk1 ((pv_0 (A := (fun x => x ≠ b3)) f8_r0_1) : z8_r0_1 = 0 ∨ g8_r0_1 ≠ b3)))
        have X24 : Gr w w9 := (Gr.md (Gr.trans (Gr.kz X12 Kw6) Gw8) Mw9)
        have hr := Option.some.inj hm
        subst hr
        refine ⟨_, _, rfl, res_2 rfl (rv_cellW agg_33 rfl Bw9 rfl) (rv_tmp rfl), ?_⟩
        exact ⟨u8_r0_1, z8_r0_1, g8_r0_1, rfl, B23, ⟨(pv_0 (A := (fun x => w.heap.size ≤ x)) f8_r0_1)⟩, X24⟩
    ·
      -- region 3 ref.go:168
      refine sw_region [(0, 0), (1, 0), (2, 0), (3, 0), (4, 0), (5, 0), (6, 0), (7, 0), (8, 0)] rfl rfl rfl ?_
      refine sd_vv rfl rfl rfl (vv_move rfl) ?_
      refine sd_vv rfl rfl rfl (vv_lss (a := p2) (b := 0) rfl rfl) ?_
      refine sd_split rfl rfl rfl (vv_move rfl) (fun c3 => ?_) (fun c3 => ?_)
      ·
        replace hm := ite_t (of_decide_eq_true c3) hm
        refine sd_skip rfl rfl rfl ?_
        refine sd_skip rfl rfl rfl ?_
        refine sd_skip rfl rfl rfl ?_
        refine sd_skip rfl rfl rfl ?_
        refine sd_skip rfl rfl rfl ?_
        refine sd_vv rfl rfl rfl (vv_pickT rfl rfl) ?_
        refine sd_nil ?_
        have K_25 : Kz [] w4 w4 := (Kz.refl _ _)
        refine ⟨rfl, true, ?_, hm, K_25⟩
        repeat' first | exact trivial | refine ⟨rfl, ?_⟩
      ·
        replace hm := ite_f (of_decide_eq_false c3) hm
        refine sd_vv rfl rfl rfl (vv_move rfl) ?_
        refine sd_vv rfl rfl rfl (vv_fieldAddr fa_28_1 rfl) ?_
        have B26 := (Bx.gr B7 Gw4)
        refine sd_vv rfl rfl rfl (vv_load1 (v := .int .i64 p1.Depth) one_3 rfl B26 rfl) ?_
        have hb := bnd hm; clear hm; obtain ⟨x4, hx4, hm⟩ := hb
        refine sd_ev rfl rfl rfl (ev_call en_142 rfl (ref03_Receivers_w p1.Depth _ hx4 _)) ?_
        rintro _ w10 ⟨rfl, Gw10⟩
        have z27 := Gw10.size
        refine sd_vv rfl rfl rfl (vv_geq (a := p2) (b := x4) rfl rfl) ?_
        refine sd_vv rfl rfl rfl (vv_pickF rfl rfl) ?_
        refine sd_nil ?_
        have K_28 : Kz [] w4 w10 := (Kz.gr (Kz.refl _ _) Gw10)
        refine ⟨rfl, (decide (x4 ≤ p2)), ?_, hm, K_28⟩
        repeat' first | exact trivial | refine ⟨rfl, ?_⟩

set_option maxHeartbeats 2000000 in
theorem poly_Check_w (p0 : TScheme)  (r : Int) (hm : poly_Check p0 = some r) (w : World)   :
    Calls Tryz.prog 139 [.agg (TScheme.cs p0).toArray].toArray w fun e w' => ∃ v, e = .returned v ∧ (v = .int .i64 r ∧ Gr w w') := by
  unfold poly_Check at hm
  refine calls_of_sw (R := fun v w' => v = .int .i64 r ∧ Gr w w') 6 Tryz.func139 rfl rfl rfl ?_
  refine sw_seq ?_
  -- region 0 poly.go:51
  refine sw_region [(0, 0), (1, 0)] rfl rfl rfl ?_
  refine sd_ev rfl rfl rfl (ev_box (cs := TScheme.cs p0) rfl rfl) ?_
  rintro _ w1 ⟨b1, rfl, hbw1, Bw1, Gw1⟩
  have z1 := Gw1.size
  have lt2 := Bw1.lt
  refine sd_vv rfl rfl rfl (vv_assign rfl) ?_
  refine sd_done ?_
  refine sw_seq ?_
  refine sw_seq ?_
  -- region 1 poly.go:52
  refine sw_region [(0, 0), (1, 0), (2, 0)] rfl rfl rfl ?_
  refine sd_vv rfl rfl rfl (vv_loadW agg_28 rfl Bw1 rfl) ?_
  have hb := bnd hm; clear hm; obtain ⟨x1, hx1, hm⟩ := hb
  refine sd_ev rfl rfl rfl (ev_call en_98 rfl (poly_valid_w p0 _ hx1 _)) ?_
  rintro _ w2 ⟨rfl, Gw2⟩
  have z3 := Gw2.size
  refine sd_vv rfl rfl rfl (vv_not rfl) ?_
  refine sd_done ?_
  refine sw_cond rfl (fun c1 => ?_) (fun c1 => ?_)
  ·
    replace hm := cnd_t c1 hm
    refine sw_seq ?_
    -- region 2 poly.go:53
    refine sw_region [(0, 0)] rfl rfl rfl ?_
    refine sd_vv rfl rfl rfl (vv_assign rfl) ?_
    refine sd_done ?_
    refine sw_ret ?_
    refine then_r ?_
    have X4 : Gr w w2 := (Gr.trans (Gr.trans (Gr.refl w) Gw1) Gw2)
    have hr := Option.some.inj hm
    subst hr
    refine ⟨_, _, rfl, res_1 rfl (rv_tmp rfl), ?_⟩
    exact ⟨rfl, X4⟩
  ·
    replace hm := cnd_f c1 hm
    refine sw_skip ?_
    refine then_n ?_
    refine sw_seq ?_
    -- region 3 poly.go:55
    refine sw_region [(0, 0)] rfl rfl rfl ?_
    refine sd_vv rfl rfl rfl (vv_assign rfl) ?_
    refine sd_done ?_
    refine sw_ret ?_
    have X5 : Gr w w2 := (Gr.trans (Gr.trans (Gr.refl w) Gw1) Gw2)
    have hr := Option.some.inj hm
    subst hr
    refine ⟨_, _, rfl, res_1 rfl (rv_tmp rfl), ?_⟩
    exact ⟨rfl, X5⟩

set_option maxHeartbeats 2000000 in
theorem ref04_Check_w (p0 : TScheme)  (r : Int) (hm : ref04_Check p0 = some r) (w : World)   :
    Calls Tryz.prog 66 [.agg (TScheme.cs p0).toArray].toArray w fun e w' => ∃ v, e = .returned v ∧ (v = .int .i64 r ∧ Gr w w') := by
  unfold ref04_Check at hm
  refine calls_of_sw (R := fun v w' => v = .int .i64 r ∧ Gr w w') 6 Tryz.func66 rfl rfl rfl ?_
  refine sw_seq ?_
  -- region 0 ref.go:36
  refine sw_region [(0, 0), (1, 0)] rfl rfl rfl ?_
  refine sd_ev rfl rfl rfl (ev_box (cs := TScheme.cs p0) rfl rfl) ?_
  rintro _ w1 ⟨b1, rfl, hbw1, Bw1, Gw1⟩
  have z1 := Gw1.size
  have lt2 := Bw1.lt
  refine sd_vv rfl rfl rfl (vv_assign rfl) ?_
  refine sd_done ?_
  refine sw_seq ?_
  refine sw_seq ?_
  -- region 1 ref.go:37
  refine sw_region [(0, 0), (1, 0), (2, 0)] rfl rfl rfl ?_
  refine sd_vv rfl rfl rfl (vv_loadW agg_28 rfl Bw1 rfl) ?_
  have hb := bnd hm; clear hm; obtain ⟨x1, hx1, hm⟩ := hb
  refine sd_ev rfl rfl rfl (ev_call en_141 rfl (ref04_Valid_w p0 _ hx1 _)) ?_
  rintro _ w2 ⟨rfl, Gw2⟩
  have z3 := Gw2.size
  refine sd_vv rfl rfl rfl (vv_not rfl) ?_
  refine sd_done ?_
  refine sw_cond rfl (fun c1 => ?_) (fun c1 => ?_)
  ·
    replace hm := cnd_t c1 hm
    refine sw_seq ?_
    -- region 2 ref.go:38
    refine sw_region [(0, 0)] rfl rfl rfl ?_
    refine sd_vv rfl rfl rfl (vv_assign rfl) ?_
    refine sd_done ?_
    refine sw_ret ?_
    refine then_r ?_
    have X4 : Gr w w2 := (Gr.trans (Gr.trans (Gr.refl w) Gw1) Gw2)
    have hr := Option.some.inj hm
    subst hr
    refine ⟨_, _, rfl, res_1 rfl (rv_tmp rfl), ?_⟩
    exact ⟨rfl, X4⟩
  ·
    replace hm := cnd_f c1 hm
    refine sw_skip ?_
    refine then_n ?_
    refine sw_seq ?_
    -- region 3 ref.go:40
    refine sw_region [(0, 0)] rfl rfl rfl ?_
    refine sd_vv rfl rfl rfl (vv_assign rfl) ?_
    refine sd_done ?_
    refine sw_ret ?_
    have X5 : Gr w w2 := (Gr.trans (Gr.trans (Gr.refl w) Gw1) Gw2)
    have hr := Option.some.inj hm
    subst hr
    refine ⟨_, _, rfl, res_1 rfl (rv_tmp rfl), ?_⟩
    exact ⟨rfl, X5⟩
end Go.Proofs.YtjdffpglgkefmaaGreat.Mx
