/- Walks that follow mirrors: St. Printed by mx.py. -/
import Derived.Test.YtecempahccgijaaWSt
import Derived.Test.YtecempahccgijaaStM
set_option linter.unusedVariables false
set_option linter.unusedSimpArgs false
set_option maxRecDepth 100000
namespace Go.Proofs.Ytecempahccgijaa.Mx
open Go Go.RowKit Go.Sx
theorem en_56 : En Try.prog 56 := fun _ _ => by kernel_rfl
theorem en_31 : En Try.prog 31 := fun _ _ => by kernel_rfl
theorem en_59 : En Try.prog 59 := fun _ _ => by kernel_rfl
theorem fa_74_0 : FA Try.prog 74 0 0 := fun _ _ _ => by kernel_rfl
theorem fa_74_2 : FA Try.prog 74 2 2 := fun _ _ _ => by kernel_rfl
theorem zv_72 : ZV Try.prog 72 (.agg [.int .u64 0, .int .u64 0].toArray) := fun _ => by kernel_rfl
theorem bs_72 : BS Try.prog 72 (fun i => [(0, 1), (1, 1)][i]?) [.int .u64 0, .int .u64 0] := bs_mk Try.underlying72 zv_72 ⟨rfl, (one_23).siz, rfl, (one_23).siz, trivial⟩
theorem eqc_72 : EqC Try.prog 2 72 [.u64, .u64] := eqc_struct Try.underlying72 (by kernel_rfl) agg_72 (show EqF _ 1 _ _ _ from (eqf_cons (ks1 := [.u64]) (ks2 := [.u64]) rfl (by simp) (eqc_23.up (by decide)) (eqf_cons (ks1 := [.u64]) (ks2 := []) rfl (by simp) (eqc_23.up (by decide)) (eqf_nil _))))
theorem eqt_72 : EqT Try.prog 72 [.u64, .u64] := ⟨by kernel_rfl, agg_72, 2, by decide, eqc_72⟩
theorem en_60 : En Try.prog 60 := fun _ _ => by kernel_rfl
theorem eqc_81 : EqC Try.prog 3 81 [.i64, .i64, .u8, .u8, .u8, .u8, .u8, .u8, .u8, .u8, .u8, .u8, .u8, .u8, .u8, .u8, .u8, .u8] := eqc_struct Try.underlying81 (by kernel_rfl) agg_81 (show EqF _ 2 _ _ _ from (eqf_cons (ks1 := [.i64]) (ks2 := [.i64, .u8, .u8, .u8, .u8, .u8, .u8, .u8, .u8, .u8, .u8, .u8, .u8, .u8, .u8, .u8, .u8]) rfl (by simp) (eqc_3.up (by decide)) (eqf_cons (ks1 := [.i64]) (ks2 := [.u8, .u8, .u8, .u8, .u8, .u8, .u8, .u8, .u8, .u8, .u8, .u8, .u8, .u8, .u8, .u8]) rfl (by simp) (eqc_3.up (by decide)) (eqf_cons (ks1 := [.u8, .u8, .u8, .u8, .u8, .u8, .u8, .u8, .u8, .u8, .u8, .u8, .u8, .u8, .u8, .u8]) (ks2 := []) rfl (by simp) (eqc_26.up (by decide)) (eqf_nil _)))))
theorem eqt_81 : EqT Try.prog 81 [.i64, .i64, .u8, .u8, .u8, .u8, .u8, .u8, .u8, .u8, .u8, .u8, .u8, .u8, .u8, .u8, .u8, .u8] := ⟨by kernel_rfl, agg_81, 3, by decide, eqc_81⟩

set_option maxHeartbeats 16000000 in
theorem law03_CoverStores_w (p0 : W2) (p1 : TScheme) (p2 : Int)  (r : Bool) (hm : law03_CoverStores p0 p1 p2 = some r) (w : World)   :
    Calls Try.prog 13 [kv p0, .agg (TScheme.cs p1).toArray, .int .i64 p2].toArray w fun e w' => ∃ v, e = .returned v ∧ (v = .bool r ∧ Gr w w') := by
  unfold law03_CoverStores at hm
  refine calls_of_sw (R := fun v w' => v = .bool r ∧ Gr w w') 176 Try.func13 rfl rfl rfl ?_
  refine sw_seq ?_
  -- region 0 outright.go:315
  refine sw_region [(0, 0), (1, 0), (2, 0)] rfl rfl rfl ?_
  refine sd_ev rfl rfl rfl (ev_box (cs := kb p0) rfl rfl) ?_
  rintro _ w1 ⟨b1, rfl, hbw1, Bw1, Gw1⟩
  have z1 := Gw1.size
  have lt2 := Bw1.lt
  refine sd_ev rfl rfl rfl (ev_box (cs := TScheme.cs p1) rfl rfl) ?_
  rintro _ w2 ⟨b2, rfl, hbw2, Bw2, Gw2⟩
  have z3 := Gw2.size
  have lt4 := Bw2.lt
  refine sd_vv rfl rfl rfl (vv_assign rfl) ?_
  refine sd_done ?_
  refine sw_seq ?_
  -- region 1 outright.go:316
  refine sw_region [(0, 0), (1, 0)] rfl rfl rfl ?_
  have hb := bnd hm; clear hm; obtain ⟨x1, hx1, hm⟩ := hb
  refine sd_ev rfl rfl rfl (ev_call en_56 rfl (law03_alive_w _ hx1 _)) ?_
  rintro _ w3 ⟨rfl, Gw3⟩
  have z5 := Gw3.size
  refine sd_vv rfl rfl rfl (vv_assign rfl) ?_
  refine sd_done ?_
  refine sw_seq ?_
  -- region 2 outright.go:317
  refine sw_region [(0, 0), (1, 0), (2, 0), (3, 0), (4, 0), (5, 0), (6, 0), (7, 0), (8, 0), (9, 0)] rfl rfl rfl ?_
  have B6 := (Bx.gr (Bx.gr Bw1 Gw2) Gw3)
  refine sd_vv rfl rfl rfl (vv_loadW agg_26 rfl B6 rfl) ?_
  have B7 := (Bx.gr Bw2 Gw3)
  refine sd_vv rfl rfl rfl (vv_loadW agg_45 rfl B7 rfl) ?_
  refine sd_vv rfl rfl rfl (vv_move rfl) ?_
  have hb := bnd hm; clear hm; obtain ⟨x2, hx2, hm⟩ := hb
  refine sd_ev rfl rfl rfl (ev_call en_40 rfl (cover_Secret_w p0 p1 p2 _ hx2 _)) ?_
  rintro _ w4 ⟨u4_r0_1, z4_r0_1, g4_r0_1, rfl, O4_r0_1, f4_r0_1, Gw4⟩
  have z8 := Gw4.size
  have lt9 := O4_r0_1.lth
  refine sd_vv rfl rfl rfl (vv_move rfl) ?_
  refine sd_vv rfl rfl rfl (vv_extract rfl rfl) ?_
  refine sd_vv rfl rfl rfl (vv_extract rfl rfl) ?_
  refine sd_ev rfl rfl rfl (ev_alloc (cs := TSecret.cs (TSecret.mk 0 [] (TPoint.mk 0#64 0#64)) (.slice none 0 0)) zv_74 rfl) ?_
  rintro _ w5 ⟨b5, rfl, hbw5, Bw5, Gw5⟩
  have z10 := Gw5.size
  have lt11 := Bw5.lt
  have B12 := (Own.gr O4_r0_1 Gw5)
  refine sd_ev rfl rfl rfl (ev_stM (cs' := TSecret.cs x2.1 u4_r0_1) (vs := TSecret.cs x2.1 u4_r0_1) (agg_74).siz rfl rfl rfl rfl (TSecret.cs_ones _ _ (Own.oneB B12)) Bw5 rfl rfl) ?_
  rintro _ w6 ⟨Bw6, Mw6⟩
  have z13 := Mw6.size
  refine sd_vv rfl rfl rfl (vv_assign rfl) ?_
  refine sd_done ?_
  refine sw_seq ?_
  -- region 3 outright.go:318
  refine sw_region [(0, 0), (1, 0), (2, 0), (3, 0), (4, 0), (5, 0), (6, 0)] rfl rfl rfl ?_
  have B14 := (Bx.md (Bx.gr (Bx.gr B7 Gw4) Gw5) Mw6)
  refine sd_vv rfl rfl rfl (vv_loadW agg_45 rfl B14 rfl) ?_
  have hb := bnd hm; clear hm; obtain ⟨x3, hx3, hm⟩ := hb
  refine sd_ev rfl rfl rfl (ev_call en_31 rfl (cover_Storage_w p1 _ hx3 _)) ?_
  rintro _ w7 ⟨rfl, Gw7⟩
  have z15 := Gw7.size
  refine sd_vv rfl rfl rfl (vv_move rfl) ?_
  refine sd_vv rfl rfl rfl (vv_extract rfl rfl) ?_
  refine sd_vv rfl rfl rfl (vv_extract rfl rfl) ?_
  refine sd_vv rfl rfl rfl (vv_assign rfl) ?_
  refine sd_vv rfl rfl rfl (vv_assign rfl) ?_
  refine sd_done ?_
  refine sw_seq ?_
  have X16 : Gr w w7 := (Gr.trans (Gr.md (Gr.trans (Gr.trans (Gr.trans (Gr.trans (Gr.trans (Gr.refl w) Gw1) Gw2) Gw3) Gw4) Gw5) Mw6) Gw7)
  refine sw_joinD (β := Bool) [33, 34, 35, 36, 37, 38, 39, 40, 41, 42, 43, 44, 45, 46] (fun a4 => [(46, .bool a4)]) (fun a4 wr => (law03_CoverStores_J1 p0 p1 p2 x1 x2 x3 a4 = some r) ∧ Kz [] w7 wr) ?_ ?_
  · clear hm; rintro a4 w8 ⟨hm, Kw8⟩
    have z17 := Kw8.size
    unfold law03_CoverStores_J1 at hm
    refine sw_cond rfl (fun c1 => ?_) (fun c1 => ?_)
    ·
      replace hm := cnd_t c1 hm
      refine sw_seq ?_
      -- region 5 outright.go:320
      refine sw_region [(0, 0), (1, 0), (2, 0), (3, 0), (4, 0), (5, 0)] rfl rfl rfl ?_
      refine sd_vv rfl rfl rfl (vv_move rfl) ?_
      refine sd_split rfl rfl rfl (vv_move rfl) (fun c2 => ?_) (fun c2 => ?_)
      ·
        replace hm := cnd_t c2 hm
        refine sd_vv rfl rfl rfl (vv_move rfl) ?_
        refine sd_vv rfl rfl rfl (vv_neq (a := x2.2) (b := 0) rfl rfl) ?_
        refine sd_vv rfl rfl rfl (vv_pickT rfl rfl) ?_
        refine sd_vv rfl rfl rfl (vv_assign rfl) ?_
        refine sd_done ?_
        refine sw_ret ?_
        refine then_r ?_
        have X18 : Gr w w8 := (Gr.kz X16 Kw8)
        have hr := Option.some.inj hm
        subst hr
        refine ⟨_, _, rfl, res_1 rfl (rv_tmp rfl), ?_⟩
        exact ⟨rfl, X18⟩
      ·
        replace hm := cnd_f c2 hm
        refine sd_skip rfl rfl rfl ?_
        refine sd_skip rfl rfl rfl ?_
        refine sd_vv rfl rfl rfl (vv_pickF rfl rfl) ?_
        refine sd_vv rfl rfl rfl (vv_assign rfl) ?_
        refine sd_done ?_
        refine sw_ret ?_
        refine then_r ?_
        have X19 : Gr w w8 := (Gr.kz X16 Kw8)
        have hr := Option.some.inj hm
        subst hr
        refine ⟨_, _, rfl, res_1 rfl (rv_tmp rfl), ?_⟩
        exact ⟨rfl, X19⟩
    ·
      replace hm := cnd_f c1 hm
      refine sw_skip ?_
      refine then_n ?_
      refine sw_seq ?_
      have X20 : Gr w w8 := (Gr.kz X16 Kw8)
      refine sw_joinD (β := Bool) [52, 53, 54, 55, 56, 57, 58, 59, 60, 61, 62, 63, 64, 65, 66, 67, 68, 69, 70, 71, 72, 73, 74, 75, 76] (fun a5 => [(76, .bool a5)]) (fun a5 wr => (law03_CoverStores_J2 p0 p1 p2 x1 x2 a5 = some r) ∧ Kz [] w8 wr) ?_ ?_
      · clear hm; rintro a5 w9 ⟨hm, Kw9⟩
        have z21 := Kw9.size
        unfold law03_CoverStores_J2 at hm
        refine sw_cond rfl (fun c3 => ?_) (fun c3 => ?_)
        ·
          replace hm := cnd_t c3 hm
          refine sw_seq ?_
          -- region 7 outright.go:323
          refine sw_region [(0, 0)] rfl rfl rfl ?_
          refine sd_vv rfl rfl rfl (vv_assign rfl) ?_
          refine sd_done ?_
          refine sw_ret ?_
          refine then_r ?_
          have X22 : Gr w w9 := (Gr.kz X20 Kw9)
          have hr := Option.some.inj hm
          subst hr
          refine ⟨_, _, rfl, res_1 rfl (rv_tmp rfl), ?_⟩
          exact ⟨rfl, X22⟩
        ·
          replace hm := cnd_f c3 hm
          refine sw_skip ?_
          refine then_n ?_
          have X23 : Gr w w9 := (Gr.kz X20 Kw9)
          refine sw_joinD (β := TSecret × Int × Nat × Value × Nat × Nat) [12, 13, 77, 78, 79, 80, 81, 82, 83, 84, 85] (fun ⟨a7, a9, bq6, vy8, zy8, gy8⟩ => [(12, .pointer (some ⟨bq6, 0, none⟩)), (13, .int .i64 a9)]) (fun ⟨a7, a9, bq6, vy8, zy8, gy8⟩ wr => (law03_CoverStores_J3 p1 p2 x1 x2 a7 a9 = some r) ∧ Own wr zy8 gy8 81 18 vy8 (a7.Labels.map TLabel.cs) ∧ Hdn (zy8 = 0 ∨ w9.heap.size ≤ gy8) ∧ Bx wr bq6 74 (TSecret.cs a7 vy8) ∧ w9.heap.size ≤ bq6 ∧ Hdn (zy8 = 0 ∨ gy8 ≠ bq6) ∧ Kz [] w9 wr) ?_ ?_
          · clear hm; rintro ⟨a7, a9, bq6, vy8, zy8, gy8⟩ w10 ⟨hm, Fw10_0, Fw10_1, Fw10_2, Fw10_3, Fw10_4, Kw10⟩
            have z24 := Kw10.size
            have lt25 := Fw10_0.lth
            have lt26 := Fw10_2.lt
            unfold law03_CoverStores_J3 at hm
            refine sw_seq ?_
            -- region 9 outright.go:326
            refine sw_region [(0, 0), (1, 0), (2, 0), (3, 0), (4, 0), (5, 0)] rfl rfl rfl ?_
            refine sd_vv rfl rfl rfl (vv_fieldAddr fa_45_1 rfl) ?_
            have B27 := (Bx.kz (Bx.kz (Bx.kz (Bx.gr B14 Gw7) Kw8) Kw9) Kw10)
            refine sd_vv rfl rfl rfl (vv_load1 (v := .int .i64 p1.Depth) one_3 rfl B27 rfl) ?_
            have hb := bnd hm; clear hm; obtain ⟨n10, hn10, hm⟩ := hb
            refine sd_vv rfl rfl rfl (vv_shlI (a := 1) (b := p1.Depth) rfl rfl hn10) ?_
            refine sd_vv rfl rfl rfl (vv_move rfl) ?_
            refine sd_vv rfl rfl rfl (vv_add (k := .i64) (a := shlI 1 n10) (b := p2) rfl rfl) ?_
            refine sd_vv rfl rfl rfl (vv_assign rfl) ?_
            refine sd_done ?_
            refine sw_seq ?_
            refine sw_seq ?_
            -- region 10 outright.go:327
            refine sw_region [(0, 0)] rfl rfl rfl ?_
            refine sd_vv rfl rfl rfl (vv_assign rfl) ?_
            refine sd_done ?_
            refine sw_block ?_
            have X28 : Gr w w10 := (Gr.kz X23 Kw10)
            have B29 := (Own.kz (Own.kz (Own.kz (Own.gr (Own.md B12 Mw6 (tk1 ((pv_lt (A := (fun x => x ≠ b5)) lt9) : z4_r0_1 = 0 ∨ g4_r0_1 ≠ b5))) Gw7) Kw8) Kw9) Kw10)
            refine sw_loopD (α := Nat × Int) [6, 15, 16, 17, 18, 19, 91, 92, 93, 94, 95, 96, 97, 98, 99, 100, 101, 102, 103, 104, 105, 106, 107, 108, 109, 110, 111, 112, 113, 114, 115, 116, 117, 118, 119, 120, 121, 122, 123, 124, 125, 126, 127, 128, 129, 130, 131, 132, 133, 134, 135, 136, 137, 138, 139, 140, 141, 142, 143, 144, 145, 146, 147, 148, 149, 150, 151, 152, 153, 154, 155, 156, 157, 158, 159, 160, 161, 162, 163, 164, 165, 166, 167, 168, 169, 170] (fun ⟨n4, a12⟩ => [(6, .bool false), (15, .int .i64 a12)]) (fun ⟨n4, a12⟩ wr => (fixN (law03_CoverStores_L4 p1 p2 x1 x2 a7 a9 n10) n4 a12 = some r) ∧ Kz [] w10 wr) (fun ⟨n4, a12⟩ => n4) ⟨FUEL, 0⟩ ?_ ?_ ?_
            · repeat' first | exact trivial | refine ⟨rfl, ?_⟩
            · exact ⟨hm, Kz.refl _ _⟩
            · clear hm; rintro ⟨n4, a12⟩ w11 ⟨hm, Kw11⟩
              have z30 := Kw11.size
              have hb := fix_succ hm; clear hm; obtain ⟨n4, rfl, hm⟩ := hb
              generalize hrec4 : fixN (law03_CoverStores_L4 p1 p2 x1 x2 a7 a9 n10) n4 = rec4 at hm
              unfold law03_CoverStores_L4 at hm
              try dsimp only at hm
              refine sw_seq ?_
              refine sw_seq ?_
              -- region 11 outright.go:327
              refine sw_region [(0, 0), (1, 0), (2, 0), (3, 0), (4, 0)] rfl rfl rfl ?_
              refine sd_vv rfl rfl rfl (vv_move rfl) ?_
              refine sd_vv rfl rfl rfl (vv_fieldAddr fa_74_1 rfl) ?_
              have B31 := (Bx.kz (Bx.kz (Bx.kz (Bx.kz (Bx.gr Bw6 Gw7) Kw8) Kw9) Kw10) Kw11)
              refine sd_vv rfl rfl rfl (vv_load1 (v := u4_r0_1) one_70 rfl B31 rfl) ?_
              have B32 := (Own.kz B29 Kw11)
              refine sd_vv rfl rfl rfl (vv_lenT (l := x2.1.Labels) (c := TLabel.cs) Try.underlying70 rfl (Own.rd B32)) ?_
              refine sd_vv rfl rfl rfl (vv_lss (a := a12) (b := (x2.1.Labels.length : Int)) rfl rfl) ?_
              refine sd_done ?_
              refine sw_cond rfl (fun c4 => ?_) (fun c4 => ?_)
              ·
                replace hm := ite_t (of_decide_eq_true c4) hm
                refine sw_skip ?_
                refine then_n ?_
                refine sw_seq ?_
                refine sw_block ?_
                refine sw_seq ?_
                -- region 13 outright.go:328
                refine sw_region [(0, 0), (1, 0), (2, 0), (3, 0), (4, 0), (5, 0), (6, 0)] rfl rfl rfl ?_
                refine sd_vv rfl rfl rfl (vv_fieldAddr fa_74_1 rfl) ?_
                refine sd_vv rfl rfl rfl (vv_load1 (v := u4_r0_1) one_70 rfl B31 rfl) ?_
                refine sd_vv rfl rfl rfl (vv_move rfl) ?_
                have hb := bnd hm; clear hm; obtain ⟨y13, hy13, hm⟩ := hb
                refine sd_vv rfl rfl rfl (vv_ixT (i := a12) Try.underlying70 (agg_81).siz rfl (Own.rd B32) rfl hy13) ?_
                refine sd_vv rfl rfl rfl (vv_elWT agg_81 rfl (Own.rd B32) hy13 (by first | rfl | omega)) ?_
                refine sd_ev rfl rfl rfl (ev_alloc (cs := TLabel.cs (TLabel.mk 0 0 k0)) zv_81 rfl) ?_
                rintro _ w12 ⟨b12, rfl, hbw12, Bw12, Gw12⟩
                have z33 := Gw12.size
                have lt34 := Bw12.lt
                refine sd_ev rfl rfl rfl (ev_stM (cs' := TLabel.cs y13) (vs := TLabel.cs y13) (agg_81).siz rfl rfl rfl rfl rfl Bw12 rfl rfl) ?_
                rintro _ w13 ⟨Bw13, Mw13⟩
                have z35 := Mw13.size
                refine sd_done ?_
                refine sw_seq ?_
                have X36 : Gr w w13 := (Gr.md (Gr.trans (Gr.kz X28 Kw11) Gw12) Mw13)
                refine sw_joinD (β := Bool) [103, 104, 105, 106, 107, 108, 109, 110, 111, 112, 113, 114, 115, 116, 117, 118, 119, 120, 121, 122, 123] (fun a14 => [(123, .bool a14)]) (fun a14 wr => (law03_CoverStores_J5 p1 x2 a7 a12 rec4 y13 a14 = some r) ∧ Kz [] w13 wr) ?_ ?_
                · clear hm; rintro a14 w14 ⟨hm, Kw14⟩
                  have z37 := Kw14.size
                  unfold law03_CoverStores_J5 at hm
                  refine sw_cond rfl (fun c5 => ?_) (fun c5 => ?_)
                  ·
                    replace hm := cnd_t c5 hm
                    refine sw_seq ?_
                    -- region 15 outright.go:330
                    refine sw_region [(0, 0)] rfl rfl rfl ?_
                    refine sd_vv rfl rfl rfl (vv_assign rfl) ?_
                    refine sd_done ?_
                    refine sw_ret ?_
                    refine then_r ?_
                    refine block_r ?_
                    refine then_r ?_
                    refine then_r ?_
                    refine block_r ?_
                    refine then_r ?_
                    have X38 : Gr w w14 := (Gr.kz X36 Kw14)
                    have hr := Option.some.inj hm
                    subst hr
                    refine ⟨_, _, rfl, res_1 rfl (rv_tmp rfl), ?_⟩
                    exact ⟨rfl, X38⟩
                  ·
                    replace hm := cnd_f c5 hm
                    refine sw_skip ?_
                    refine then_n ?_
                    refine sw_seq ?_
                    refine sw_seq ?_
                    -- region 16 outright.go:332
                    refine sw_region [(0, 0)] rfl rfl rfl ?_
                    refine sd_vv rfl rfl rfl (vv_assign rfl) ?_
                    refine sd_done ?_
                    refine sw_block ?_
                    have X39 : Gr w w14 := (Gr.kz X36 Kw14)
                    have B40 := (Own.kz (Own.md (Own.gr B32 Gw12) Mw13 (tk1 ((pv_lt (A := (fun x => x ≠ b12)) lt9) : z4_r0_1 = 0 ∨ g4_r0_1 ≠ b12))) Kw14)
                    have B41 := (Own.kz (Own.md (Own.gr (Own.kz Fw10_0 Kw11) Gw12) Mw13 (tk1 ((pv_lt (A := (fun x => x ≠ b12)) lt25) : zy8 = 0 ∨ gy8 ≠ b12))) Kw14)
                    refine sw_loopD (α := Nat × Int) [6, 17, 124, 125, 126, 127, 128, 129, 130, 131, 132, 133, 134, 135, 136, 137, 138, 139, 140, 141, 142, 143, 144, 145, 146, 147, 148] (fun ⟨n6, a16⟩ => [(6, .bool false), (17, .int .i64 a16)]) (fun ⟨n6, a16⟩ wr => (fixN (law03_CoverStores_L6 p1 x2 a7 a12 rec4 y13) n6 a16 = some r) ∧ Kz [] w14 wr) (fun ⟨n6, a16⟩ => n6) ⟨FUEL, 0⟩ ?_ ?_ ?_
                    · repeat' first | exact trivial | refine ⟨rfl, ?_⟩
                    · exact ⟨hm, Kz.refl _ _⟩
                    · clear hm; rintro ⟨n6, a16⟩ w15 ⟨hm, Kw15⟩
                      have z42 := Kw15.size
                      have hb := fix_succ hm; clear hm; obtain ⟨n6, rfl, hm⟩ := hb
                      generalize hrec6 : fixN (law03_CoverStores_L6 p1 x2 a7 a12 rec4 y13) n6 = rec6 at hm
                      unfold law03_CoverStores_L6 at hm
                      try dsimp only at hm
                      refine sw_seq ?_
                      refine sw_seq ?_
                      -- region 17 outright.go:332
                      refine sw_region [(0, 0), (1, 0), (2, 0)] rfl rfl rfl ?_
                      refine sd_vv rfl rfl rfl (vv_move rfl) ?_
                      refine sd_vv rfl rfl rfl (vv_move rfl) ?_
                      refine sd_vv rfl rfl rfl (vv_lss (a := a16) (b := a12) rfl rfl) ?_
                      refine sd_done ?_
                      refine sw_cond rfl (fun c6 => ?_) (fun c6 => ?_)
                      ·
                        replace hm := ite_t (of_decide_eq_true c6) hm
                        refine sw_skip ?_
                        refine then_n ?_
                        refine sw_seq ?_
                        refine sw_block ?_
                        have X43 : Gr w w15 := (Gr.kz X39 Kw15)
                        refine sw_joinD (β := Bool) [129, 130, 131, 132, 133, 134, 135, 136, 137, 138, 139, 140, 141, 142, 143, 144, 145, 146, 147, 148] (fun a17 => [(148, .bool a17)]) (fun a17 wr => (law03_CoverStores_J7 a16 rec6 a17 = some r) ∧ Kz [] w15 wr) ?_ ?_
                        · clear hm; rintro a17 w16 ⟨hm, Kw16⟩
                          have z44 := Kw16.size
                          unfold law03_CoverStores_J7 at hm
                          refine sw_cond rfl (fun c7 => ?_) (fun c7 => ?_)
                          ·
                            replace hm := cnd_t c7 hm
                            refine sw_seq ?_
                            -- region 20 outright.go:334
                            refine sw_region [(0, 0)] rfl rfl rfl ?_
                            refine sd_vv rfl rfl rfl (vv_assign rfl) ?_
                            refine sd_done ?_
                            refine sw_ret ?_
                            refine block_r ?_
                            refine then_r ?_
                            refine then_r ?_
                            refine block_r ?_
                            refine then_r ?_
                            refine block_r ?_
                            refine then_r ?_
                            refine then_r ?_
                            refine block_r ?_
                            refine then_r ?_
                            have X45 : Gr w w16 := (Gr.kz X43 Kw16)
                            have hr := Option.some.inj hm
                            subst hr
                            refine ⟨_, _, rfl, res_1 rfl (rv_tmp rfl), ?_⟩
                            exact ⟨rfl, X45⟩
                          ·
                            replace hm := cnd_f c7 hm
                            refine sw_skip ?_
                            refine block_n ?_
                            refine then_n ?_
                            -- region 18 outright.go:332
                            refine sw_region [(0, 0), (1, 0), (2, 0)] rfl rfl rfl ?_
                            refine sd_vv rfl rfl rfl (vv_move rfl) ?_
                            refine sd_vv rfl rfl rfl (vv_add (k := .i64) (a := a16) (b := 1) rfl rfl) ?_
                            refine sd_vv rfl rfl rfl (vv_assign rfl) ?_
                            refine sd_nil ?_
                            have K_46 : Kz [] w14 w16 := (Kz.kz Kw15 Kw16)
                            subst hrec6
                            refine ⟨rfl, ⟨n6, w64 (a16 + 1)⟩, ?_, ⟨hm, K_46⟩, Nat.lt_succ_self _⟩
                            repeat' first | exact trivial | refine ⟨rfl, ?_⟩
                        ·
                          -- region 19 outright.go:333 DRAWS
                          refine sw_drawN [([])] [] (.leaf [(0, 10), (1, 10), (2, 10), (3, 10), (4, 10), (5, 10), (6, 10), (7, 10), (8, 10), (9, 10), (10, 10), (11, 10), (12, 10), (13, 10), (14, 10), (15, 10), (16, 10), (17, 10), (18, 10), (19, 10)]) (by kernel_rfl) (by kernel_rfl) rfl (by kernel_rfl) ?_
                          intro w17 Gw17 zw17
                          refine sdz_leaf ?_
                          refine dd_hn 0 rfl rfl rfl rfl (Kp.refl ([]) w17) (fun w hS => vv_fieldAddr fa_74_1 rfl) ?_
                          have B47 := (Bx.gr (Bx.kz (Bx.kz (Bx.md (Bx.gr B31 Gw12) Mw13) Kw14) Kw15) Gw17)
                          refine dd_hn 0 rfl rfl rfl rfl (Kp.refl ([]) w17) (fun w hS => vv_load1 (v := u4_r0_1) one_70 rfl (Bx.kp B47 hS) rfl) ?_
                          refine dd_hn 0 rfl rfl rfl rfl (Kp.refl ([]) w17) (fun w hS => vv_move rfl) ?_
                          have hb := bnd hm; clear hm; obtain ⟨y18, hy18, hm⟩ := hb
                          have B48 := (Own.gr (Own.kz B40 Kw15) Gw17)
                          refine dd_hn 0 rfl rfl rfl rfl (Kp.refl ([]) w17) (fun w hS => vv_ixT (i := a16) Try.underlying70 (agg_81).siz rfl (Own.rd (Own.kp B48 hS)) rfl hy18) ?_
                          refine dd_hn 0 rfl rfl rfl rfl (Kp.refl ([]) w17) (fun w hS => vv_fieldAddr fa_81_0 rfl) ?_
                          refine dd_hn 0 rfl rfl rfl rfl (Kp.refl ([]) w17) (fun w hS => vv_el1T (q := 0) (u := .int .i64 y18.Node) one_3 rfl (Own.rd (Own.kp B48 hS)) hy18 (by first | rfl | omega) rfl) ?_
                          refine dd_hn 0 rfl rfl rfl rfl (Kp.refl ([]) w17) (fun w hS => vv_fieldAddr fa_81_0 rfl) ?_
                          have B49 := (Bx.gr (Bx.kz (Bx.kz Bw13 Kw14) Kw15) Gw17)
                          refine dd_hn 0 rfl rfl rfl rfl (Kp.refl ([]) w17) (fun w hS => vv_load1 (v := .int .i64 y13.Node) one_3 rfl (Bx.kp B49 hS) rfl) ?_
                          refine dd_hn 0 rfl rfl rfl rfl (Kp.refl ([]) w17) (fun w hS => vv_eql (a := y18.Node) (b := y13.Node) rfl rfl) ?_
                          refine dd_pn 0 rfl rfl rfl rfl (Kp.refl ([]) w17) (fun w hS => vv_move rfl) (fun c8 => ?_) (fun c8 => ?_)
                          ·
                            replace hm := ite_t (of_decide_eq_true c8) hm
                            refine dd_hn 0 rfl rfl rfl rfl (Kp.refl ([]) w17) (fun w hS => vv_fieldAddr fa_74_1 rfl) ?_
                            refine dd_hn 0 rfl rfl rfl rfl (Kp.refl ([]) w17) (fun w hS => vv_load1 (v := u4_r0_1) one_70 rfl (Bx.kp B47 hS) rfl) ?_
                            refine dd_hn 0 rfl rfl rfl rfl (Kp.refl ([]) w17) (fun w hS => vv_move rfl) ?_
                            have hb := bnd hm; clear hm; obtain ⟨y19, hy19, hm⟩ := hb
                            refine dd_hn 0 rfl rfl rfl rfl (Kp.refl ([]) w17) (fun w hS => vv_ixT (i := a16) Try.underlying70 (agg_81).siz rfl (Own.rd (Own.kp B48 hS)) rfl hy19) ?_
                            refine dd_hn 0 rfl rfl rfl rfl (Kp.refl ([]) w17) (fun w hS => vv_fieldAddr fa_81_1 rfl) ?_
                            refine dd_hn 0 rfl rfl rfl rfl (Kp.refl ([]) w17) (fun w hS => vv_el1T (q := 1) (u := .int .i64 y19.Minus) one_3 rfl (Own.rd (Own.kp B48 hS)) hy19 (by first | rfl | omega) rfl) ?_
                            refine dd_hn 0 rfl rfl rfl rfl (Kp.refl ([]) w17) (fun w hS => vv_fieldAddr fa_81_1 rfl) ?_
                            refine dd_hn 0 rfl rfl rfl rfl (Kp.refl ([]) w17) (fun w hS => vv_load1 (v := .int .i64 y13.Minus) one_3 rfl (Bx.kp B49 hS) rfl) ?_
                            refine dd_hn 0 rfl rfl rfl rfl (Kp.refl ([]) w17) (fun w hS => vv_eql (a := y19.Minus) (b := y13.Minus) rfl rfl) ?_
                            refine dd_hn 0 rfl rfl rfl rfl (Kp.refl ([]) w17) (fun w hS => vv_pickT rfl rfl) ?_
                            refine sd_nil ?_
                            have K_50 : Kz [] w15 w17 := (Kz.gr (Kz.refl _ _) Gw17)
                            refine ⟨rfl, (decide (y19.Minus = y13.Minus)), ?_, hm, K_50⟩
                            repeat' first | exact trivial | refine ⟨rfl, ?_⟩
                          ·
                            replace hm := ite_f (of_decide_eq_false c8) hm
                            refine dd_sn 0 rfl rfl rfl rfl (Kp.refl ([]) w17) ?_
                            refine dd_sn 0 rfl rfl rfl rfl (Kp.refl ([]) w17) ?_
                            refine dd_sn 0 rfl rfl rfl rfl (Kp.refl ([]) w17) ?_
                            refine dd_sn 0 rfl rfl rfl rfl (Kp.refl ([]) w17) ?_
                            refine dd_sn 0 rfl rfl rfl rfl (Kp.refl ([]) w17) ?_
                            refine dd_sn 0 rfl rfl rfl rfl (Kp.refl ([]) w17) ?_
                            refine dd_sn 0 rfl rfl rfl rfl (Kp.refl ([]) w17) ?_
                            refine dd_sn 0 rfl rfl rfl rfl (Kp.refl ([]) w17) ?_
                            refine dd_sn 0 rfl rfl rfl rfl (Kp.refl ([]) w17) ?_
                            refine dd_hn 0 rfl rfl rfl rfl (Kp.refl ([]) w17) (fun w hS => vv_pickF rfl rfl) ?_
                            refine sd_nil ?_
                            have K_51 : Kz [] w15 w17 := (Kz.gr (Kz.refl _ _) Gw17)
                            refine ⟨rfl, false, ?_, hm, K_51⟩
                            repeat' first | exact trivial | refine ⟨rfl, ?_⟩
                      ·
                        replace hm := ite_f (of_decide_eq_false c6) hm
                        refine sw_exit ?_
                        refine then_x ?_
                        refine then_x ?_
                        refine block_x ?_
                        refine then_n ?_
                        refine sw_seq ?_
                        -- region 21 outright.go:337
                        refine sw_region [(0, 0), (1, 0), (2, 0), (3, 0)] rfl rfl rfl ?_
                        refine sd_vv rfl rfl rfl (vv_fieldAddr fa_45_0 rfl) ?_
                        have B52 := (Bx.kz (Bx.kz (Bx.md (Bx.gr (Bx.kz B27 Kw11) Gw12) Mw13) Kw14) Kw15)
                        refine sd_vv rfl rfl rfl (vv_load1 (v := bv p1.Kind) one_5 rfl B52 rfl) ?_
                        refine sd_vv rfl rfl rfl (vv_neqB (p := p1.Kind) (q := 3#8) rfl rfl) ?_
                        refine sd_vv rfl rfl rfl (vv_assign rfl) ?_
                        refine sd_done ?_
                        refine sw_seq ?_
                        refine sw_seq ?_
                        -- region 22 outright.go:338
                        refine sw_region [(0, 0)] rfl rfl rfl ?_
                        refine sd_vv rfl rfl rfl (vv_assign rfl) ?_
                        refine sd_done ?_
                        refine sw_block ?_
                        have X53 : Gr w w15 := (Gr.kz X39 Kw15)
                        have B54 := (Own.kz B40 Kw15)
                        have B55 := (Own.kz B41 Kw15)
                        refine sw_loopD (α := Nat × Bool × Int) [18, 19, 152, 153, 154, 155, 156, 157, 158, 159, 160, 161, 162, 163, 164, 165, 166, 167, 168] (fun ⟨n8, a22, a23⟩ => [(18, .bool a22), (19, .int .i64 a23)]) (fun ⟨n8, a22, a23⟩ wr => (fixN (law03_CoverStores_L8 a7 a12 rec4 y13) n8 (a22, a23) = some r) ∧ Kz [] w15 wr) (fun ⟨n8, a22, a23⟩ => n8) ⟨FUEL, decide (p1.Kind ≠ 3#8), 0⟩ ?_ ?_ ?_
                        · repeat' first | exact trivial | refine ⟨rfl, ?_⟩
                        · exact ⟨hm, Kz.refl _ _⟩
                        · clear hm; rintro ⟨n8, a22, a23⟩ w18 ⟨hm, Kw18⟩
                          have z56 := Kw18.size
                          have hb := fix_succ hm; clear hm; obtain ⟨n8, rfl, hm⟩ := hb
                          generalize hrec8 : fixN (law03_CoverStores_L8 a7 a12 rec4 y13) n8 = rec8 at hm
                          unfold law03_CoverStores_L8 at hm
                          try dsimp only at hm
                          refine sw_seq ?_
                          refine sw_seq ?_
                          -- region 23 outright.go:338
                          refine sw_region [(0, 0), (1, 0), (2, 0), (3, 0), (4, 0)] rfl rfl rfl ?_
                          refine sd_vv rfl rfl rfl (vv_move rfl) ?_
                          refine sd_vv rfl rfl rfl (vv_fieldAddr fa_74_1 rfl) ?_
                          have B57 := (Bx.kz (Bx.kz (Bx.kz (Bx.md (Bx.gr (Bx.kz Fw10_2 Kw11) Gw12) Mw13) Kw14) Kw15) Kw18)
                          refine sd_vv rfl rfl rfl (vv_load1 (v := vy8) one_70 rfl B57 rfl) ?_
                          have B58 := (Own.kz B55 Kw18)
                          refine sd_vv rfl rfl rfl (vv_lenT (l := a7.Labels) (c := TLabel.cs) Try.underlying70 rfl (Own.rd B58)) ?_
                          refine sd_vv rfl rfl rfl (vv_lss (a := a23) (b := (a7.Labels.length : Int)) rfl rfl) ?_
                          refine sd_done ?_
                          refine sw_cond rfl (fun c9 => ?_) (fun c9 => ?_)
                          ·
                            replace hm := ite_t (of_decide_eq_true c9) hm
                            refine sw_skip ?_
                            refine then_n ?_
                            refine sw_seq ?_
                            refine sw_block ?_
                            -- region 25 outright.go:339 DRAWS
                            refine sw_drawN [([])] [] (.leaf [(0, 10), (1, 10), (2, 10), (3, 10), (4, 10), (5, 10), (6, 10), (7, 10), (8, 10), (9, 10), (10, 10)]) (by kernel_rfl) (by kernel_rfl) rfl (by kernel_rfl) ?_
                            intro w19 Gw19 zw19
                            refine sdz_leaf ?_
                            refine dd_hn 0 rfl rfl rfl rfl (Kp.refl ([]) w19) (fun w hS => vv_move rfl) ?_
                            refine dd_pn 0 rfl rfl rfl rfl (Kp.refl ([]) w19) (fun w hS => vv_move rfl) (fun c10 => ?_) (fun c10 => ?_)
                            ·
                              replace hm := cnd_t c10 hm
                              refine dd_sn 0 rfl rfl rfl rfl (Kp.refl ([]) w19) ?_
                              refine dd_sn 0 rfl rfl rfl rfl (Kp.refl ([]) w19) ?_
                              refine dd_sn 0 rfl rfl rfl rfl (Kp.refl ([]) w19) ?_
                              refine dd_sn 0 rfl rfl rfl rfl (Kp.refl ([]) w19) ?_
                              refine dd_sn 0 rfl rfl rfl rfl (Kp.refl ([]) w19) ?_
                              refine dd_sn 0 rfl rfl rfl rfl (Kp.refl ([]) w19) ?_
                              refine dd_sn 0 rfl rfl rfl rfl (Kp.refl ([]) w19) ?_
                              refine dd_hn 0 rfl rfl rfl rfl (Kp.refl ([]) w19) (fun w hS => vv_pickT rfl rfl) ?_
                              refine dd_hn 0 rfl rfl rfl rfl (Kp.refl ([]) w19) (fun w hS => vv_assign rfl) ?_
                              refine sd_nil ?_
                              refine block_n ?_
                              refine then_n ?_
                              -- region 24 outright.go:338
                              refine sw_region [(0, 0), (1, 0), (2, 0)] rfl rfl rfl ?_
                              refine sd_vv rfl rfl rfl (vv_move rfl) ?_
                              refine sd_vv rfl rfl rfl (vv_add (k := .i64) (a := a23) (b := 1) rfl rfl) ?_
                              refine sd_vv rfl rfl rfl (vv_assign rfl) ?_
                              refine sd_nil ?_
                              have K_59 : Kz [] w15 w19 := (Kz.gr Kw18 Gw19)
                              subst hrec8
                              refine ⟨rfl, ⟨n8, true, w64 (a23 + 1)⟩, ?_, ⟨hm, K_59⟩, Nat.lt_succ_self _⟩
                              repeat' first | exact trivial | refine ⟨rfl, ?_⟩
                            ·
                              replace hm := cnd_f c10 hm
                              refine dd_hn 0 rfl rfl rfl rfl (Kp.refl ([]) w19) (fun w hS => vv_fieldAddr fa_74_1 rfl) ?_
                              have B60 := (Bx.gr B57 Gw19)
                              refine dd_hn 0 rfl rfl rfl rfl (Kp.refl ([]) w19) (fun w hS => vv_load1 (v := vy8) one_70 rfl (Bx.kp B60 hS) rfl) ?_
                              refine dd_hn 0 rfl rfl rfl rfl (Kp.refl ([]) w19) (fun w hS => vv_move rfl) ?_
                              have hb := bnd hm; clear hm; obtain ⟨y24, hy24, hm⟩ := hb
                              have B61 := (Own.gr B58 Gw19)
                              refine dd_hn 0 rfl rfl rfl rfl (Kp.refl ([]) w19) (fun w hS => vv_ixT (i := a23) Try.underlying70 (agg_81).siz rfl (Own.rd (Own.kp B61 hS)) rfl hy24) ?_
                              refine dd_hn 0 rfl rfl rfl rfl (Kp.refl ([]) w19) (fun w hS => vv_elWT agg_81 rfl (Own.rd (Own.kp B61 hS)) hy24 (by first | rfl | omega)) ?_
                              have B62 := (Bx.gr (Bx.kz (Bx.kz (Bx.kz Bw13 Kw14) Kw15) Kw18) Gw19)
                              refine dd_hn 0 rfl rfl rfl rfl (Kp.refl ([]) w19) (fun w hS => vv_loadW agg_81 rfl (Bx.kp B62 hS) rfl) ?_
                              refine dd_hn 0 rfl rfl rfl rfl (Kp.refl ([]) w19) (fun w hS => vv_eqlS (cf := TLabel.cs) (a := y24) (b := y13) eqt_81 rfl rfl rfl rfl (fun h => TLabel.cs_inj h)) ?_
                              refine dd_hn 0 rfl rfl rfl rfl (Kp.refl ([]) w19) (fun w hS => vv_pickF rfl rfl) ?_
                              refine dd_hn 0 rfl rfl rfl rfl (Kp.refl ([]) w19) (fun w hS => vv_assign rfl) ?_
                              refine sd_nil ?_
                              refine block_n ?_
                              refine then_n ?_
                              -- region 24 outright.go:338
                              refine sw_region [(0, 0), (1, 0), (2, 0)] rfl rfl rfl ?_
                              refine sd_vv rfl rfl rfl (vv_move rfl) ?_
                              refine sd_vv rfl rfl rfl (vv_add (k := .i64) (a := a23) (b := 1) rfl rfl) ?_
                              refine sd_vv rfl rfl rfl (vv_assign rfl) ?_
                              refine sd_nil ?_
                              have K_63 : Kz [] w15 w19 := (Kz.gr Kw18 Gw19)
                              subst hrec8
                              refine ⟨rfl, ⟨n8, decide (y24 = y13), w64 (a23 + 1)⟩, ?_, ⟨hm, K_63⟩, Nat.lt_succ_self _⟩
                              repeat' first | exact trivial | refine ⟨rfl, ?_⟩
                          ·
                            replace hm := ite_f (of_decide_eq_false c9) hm
                            refine sw_exit ?_
                            refine then_x ?_
                            refine then_x ?_
                            refine block_x ?_
                            refine then_n ?_
                            refine sw_seq ?_
                            -- region 26 outright.go:341
                            refine sw_region [(0, 0), (1, 0)] rfl rfl rfl ?_
                            refine sd_vv rfl rfl rfl (vv_move rfl) ?_
                            refine sd_vv rfl rfl rfl (vv_not rfl) ?_
                            refine sd_done ?_
                            refine sw_cond rfl (fun c11 => ?_) (fun c11 => ?_)
                            ·
                              replace hm := cnd_t c11 hm
                              refine sw_seq ?_
                              -- region 27 outright.go:342
                              refine sw_region [(0, 0)] rfl rfl rfl ?_
                              refine sd_vv rfl rfl rfl (vv_assign rfl) ?_
                              refine sd_done ?_
                              refine sw_ret ?_
                              refine block_r ?_
                              refine then_r ?_
                              refine then_r ?_
                              refine block_r ?_
                              refine then_r ?_
                              have X64 : Gr w w18 := (Gr.kz X53 Kw18)
                              have hr := Option.some.inj hm
                              subst hr
                              refine ⟨_, _, rfl, res_1 rfl (rv_tmp rfl), ?_⟩
                              exact ⟨rfl, X64⟩
                            ·
                              replace hm := cnd_f c11 hm
                              refine sw_skip ?_
                              refine block_n ?_
                              refine then_n ?_
                              -- region 12 outright.go:327
                              refine sw_region [(0, 0), (1, 0), (2, 0)] rfl rfl rfl ?_
                              refine sd_vv rfl rfl rfl (vv_move rfl) ?_
                              refine sd_vv rfl rfl rfl (vv_add (k := .i64) (a := a12) (b := 1) rfl rfl) ?_
                              refine sd_vv rfl rfl rfl (vv_assign rfl) ?_
                              refine sd_nil ?_
                              have K_65 : Kz [] w10 w18 := (Kz.kz (Kz.kz (Kz.kz (Kz.md (Kz.gr Kw11 Gw12) Mw13) Kw14) Kw15) Kw18)
                              subst hrec4
                              refine ⟨rfl, ⟨n4, w64 (a12 + 1)⟩, ?_, ⟨hm, K_65⟩, Nat.lt_succ_self _⟩
                              repeat' first | exact trivial | refine ⟨rfl, ?_⟩
                ·
                  -- region 14 outright.go:329
                  refine sw_region [(0, 0), (1, 0), (2, 0), (3, 0), (4, 0), (5, 0), (6, 0), (7, 0), (8, 0), (9, 0), (10, 0), (11, 0), (12, 0), (13, 0), (14, 0), (15, 0), (16, 0), (17, 0), (18, 0), (19, 0), (20, 0)] rfl rfl rfl ?_
                  refine sd_vv rfl rfl rfl (vv_fieldAddr fa_81_0 rfl) ?_
                  refine sd_vv rfl rfl rfl (vv_load1 (v := .int .i64 y13.Node) one_3 rfl Bw13 rfl) ?_
                  refine sd_vv rfl rfl rfl (vv_lss (a := y13.Node) (b := 1) rfl rfl) ?_
                  refine sd_split rfl rfl rfl (vv_move rfl) (fun c12 => ?_) (fun c12 => ?_)
                  ·
                    replace hm := ite_t (of_decide_eq_true c12) hm
                    refine sd_skip rfl rfl rfl ?_
                    refine sd_skip rfl rfl rfl ?_
                    refine sd_skip rfl rfl rfl ?_
                    refine sd_skip rfl rfl rfl ?_
                    refine sd_skip rfl rfl rfl ?_
                    refine sd_vv rfl rfl rfl (vv_pickT rfl rfl) ?_
                    refine sd_vv rfl rfl rfl (vv_move rfl) ?_
                    refine sd_skip rfl rfl rfl ?_
                    refine sd_skip rfl rfl rfl ?_
                    refine sd_skip rfl rfl rfl ?_
                    refine sd_skip rfl rfl rfl ?_
                    refine sd_skip rfl rfl rfl ?_
                    refine sd_skip rfl rfl rfl ?_
                    refine sd_skip rfl rfl rfl ?_
                    refine sd_skip rfl rfl rfl ?_
                    refine sd_skip rfl rfl rfl ?_
                    refine sd_vv rfl rfl rfl (vv_pickT rfl rfl) ?_
                    refine sd_nil ?_
                    have K_66 : Kz [] w13 w13 := (Kz.refl _ _)
                    refine ⟨rfl, true, ?_, hm, K_66⟩
                    repeat' first | exact trivial | refine ⟨rfl, ?_⟩
                  ·
                    replace hm := ite_f (of_decide_eq_false c12) hm
                    refine sd_vv rfl rfl rfl (vv_move rfl) ?_
                    refine sd_vv rfl rfl rfl (vv_fieldAddr fa_81_0 rfl) ?_
                    refine sd_vv rfl rfl rfl (vv_load1 (v := .int .i64 y13.Node) one_3 rfl Bw13 rfl) ?_
                    have hb := bnd hm; clear hm; obtain ⟨x25, hx25, hm⟩ := hb
                    refine sd_ev rfl rfl rfl (ev_call en_60 rfl (ref03_Below_w (w64 ((shlI 1 n10) + p2)) y13.Node _ hx25 _)) ?_
                    rintro _ w20 ⟨rfl, Gw20⟩
                    have z67 := Gw20.size
                    refine sd_vv rfl rfl rfl (vv_not rfl) ?_
                    refine sd_vv rfl rfl rfl (vv_pickF rfl rfl) ?_
                    refine sd_split rfl rfl rfl (vv_move rfl) (fun c13 => ?_) (fun c13 => ?_)
                    ·
                      replace hm := cnd_t c13 hm
                      refine sd_skip rfl rfl rfl ?_
                      refine sd_skip rfl rfl rfl ?_
                      refine sd_skip rfl rfl rfl ?_
                      refine sd_skip rfl rfl rfl ?_
                      refine sd_skip rfl rfl rfl ?_
                      refine sd_skip rfl rfl rfl ?_
                      refine sd_skip rfl rfl rfl ?_
                      refine sd_skip rfl rfl rfl ?_
                      refine sd_skip rfl rfl rfl ?_
                      refine sd_vv rfl rfl rfl (vv_pickT rfl rfl) ?_
                      refine sd_nil ?_
                      have K_68 : Kz [] w13 w20 := (Kz.gr (Kz.refl _ _) Gw20)
                      refine ⟨rfl, true, ?_, hm, K_68⟩
                      repeat' first | exact trivial | refine ⟨rfl, ?_⟩
                    ·
                      replace hm := cnd_f c13 hm
                      refine sd_vv rfl rfl rfl (vv_fieldAddr fa_81_1 rfl) ?_
                      have B69 := (Bx.gr Bw13 Gw20)
                      refine sd_vv rfl rfl rfl (vv_load1 (v := .int .i64 y13.Minus) one_3 rfl B69 rfl) ?_
                      refine sd_vv rfl rfl rfl (vv_neq (a := y13.Minus) (b := 0) rfl rfl) ?_
                      refine sd_split rfl rfl rfl (vv_move rfl) (fun c14 => ?_) (fun c14 => ?_)
                      ·
                        replace hm := ite_t (of_decide_eq_true c14) hm
                        refine sd_vv rfl rfl rfl (vv_move rfl) ?_
                        refine sd_vv rfl rfl rfl (vv_fieldAddr fa_81_1 rfl) ?_
                        refine sd_vv rfl rfl rfl (vv_load1 (v := .int .i64 y13.Minus) one_3 rfl B69 rfl) ?_
                        have hb := bnd hm; clear hm; obtain ⟨x26, hx26, hm⟩ := hb
                        refine sd_ev rfl rfl rfl (ev_call en_60 rfl (ref03_Below_w (w64 ((shlI 1 n10) + p2)) y13.Minus _ hx26 _)) ?_
                        rintro _ w21 ⟨rfl, Gw21⟩
                        have z70 := Gw21.size
                        refine sd_vv rfl rfl rfl (vv_pickT rfl rfl) ?_
                        refine sd_vv rfl rfl rfl (vv_pickF rfl rfl) ?_
                        refine sd_nil ?_
                        have K_71 : Kz [] w13 w21 := (Kz.gr (Kz.gr (Kz.refl _ _) Gw20) Gw21)
                        refine ⟨rfl, x26, ?_, hm, K_71⟩
                        repeat' first | exact trivial | refine ⟨rfl, ?_⟩
                      ·
                        replace hm := ite_f (of_decide_eq_false c14) hm
                        refine sd_skip rfl rfl rfl ?_
                        refine sd_skip rfl rfl rfl ?_
                        refine sd_skip rfl rfl rfl ?_
                        refine sd_skip rfl rfl rfl ?_
                        refine sd_vv rfl rfl rfl (vv_pickF rfl rfl) ?_
                        refine sd_vv rfl rfl rfl (vv_pickF rfl rfl) ?_
                        refine sd_nil ?_
                        have K_72 : Kz [] w13 w20 := (Kz.gr (Kz.refl _ _) Gw20)
                        refine ⟨rfl, false, ?_, hm, K_72⟩
                        repeat' first | exact trivial | refine ⟨rfl, ?_⟩
              ·
                replace hm := ite_f (of_decide_eq_false c4) hm
                refine sw_exit ?_
                refine then_x ?_
                refine then_x ?_
                refine block_x ?_
                refine then_n ?_
                refine sw_seq ?_
                -- region 28 outright.go:345
                refine sw_region [(0, 0), (1, 0), (2, 0), (3, 0), (4, 0), (5, 0)] rfl rfl rfl ?_
                refine sd_vv rfl rfl rfl (vv_move rfl) ?_
                refine sd_split rfl rfl rfl (vv_move rfl) (fun c15 => ?_) (fun c15 => ?_)
                ·
                  replace hm := cnd_t c15 hm
                  refine sd_vv rfl rfl rfl (vv_move rfl) ?_
                  refine sd_vv rfl rfl rfl (vv_eql (a := a9) (b := 0) rfl rfl) ?_
                  refine sd_vv rfl rfl rfl (vv_pickT rfl rfl) ?_
                  refine sd_vv rfl rfl rfl (vv_assign rfl) ?_
                  refine sd_done ?_
                  refine sw_ret ?_
                  have X73 : Gr w w11 := (Gr.kz X28 Kw11)
                  have hr := Option.some.inj hm
                  subst hr
                  refine ⟨_, _, rfl, res_1 rfl (rv_tmp rfl), ?_⟩
                  exact ⟨rfl, X73⟩
                ·
                  replace hm := cnd_f c15 hm
                  refine sd_skip rfl rfl rfl ?_
                  refine sd_skip rfl rfl rfl ?_
                  refine sd_vv rfl rfl rfl (vv_pickF rfl rfl) ?_
                  refine sd_vv rfl rfl rfl (vv_assign rfl) ?_
                  refine sd_done ?_
                  refine sw_ret ?_
                  have X74 : Gr w w11 := (Gr.kz X28 Kw11)
                  have hr := Option.some.inj hm
                  subst hr
                  refine ⟨_, _, rfl, res_1 rfl (rv_tmp rfl), ?_⟩
                  exact ⟨rfl, X74⟩
          ·
            -- region 8 outright.go:325 DRAWS
            refine sw_drawN [([])] [] (.fork [(0, 10), (1, 10), (2, 10), (4, 10)] (.fork [(3, 0)] (.leaf [(5, 0), (6, 10), (7, 10), (8, 10), (9, 0), (10, 0), (11, 10)]) (.leaf [(9, 0), (5, 0), (6, 10), (7, 10), (8, 10), (10, 0), (11, 10)])) (.leaf [(9, 0), (3, 0), (5, 0), (6, 10), (7, 10), (8, 10), (10, 0), (11, 10)])) (by kernel_rfl) (by kernel_rfl) rfl (by kernel_rfl) ?_
            intro w22 Gw22 zw22
            refine sdz_fork ?_
            have B75 := (Bx.gr (Bx.kz (Bx.kz (Bx.gr (Bx.md (Bx.gr (Bx.gr B6 Gw4) Gw5) Mw6) Gw7) Kw8) Kw9) Gw22)
            refine dd_hn 0 rfl rfl rfl rfl (Kp.refl ([]) w22) (fun w hS => vv_loadW agg_26 rfl (Bx.kp B75 hS) rfl) ?_
            refine dd_hn 0 rfl rfl rfl rfl (Kp.refl ([]) w22) (fun w hS => vv_fieldAddr fa_45_1 rfl) ?_
            have B76 := (Bx.gr (Bx.kz (Bx.kz (Bx.gr B14 Gw7) Kw8) Kw9) Gw22)
            refine dd_hn 0 rfl rfl rfl rfl (Kp.refl ([]) w22) (fun w hS => vv_load1 (v := .int .i64 p1.Depth) one_3 rfl (Bx.kp B76 hS) rfl) ?_
            refine dd_hn 0 rfl rfl rfl rfl (Kp.refl ([]) w22) (fun w hS => vv_move rfl) ?_
            refine sd_fork ?_ ?_
            ·
              refine sdz_fork ?_
              have hb := bnd hm; clear hm; obtain ⟨x27, hx27, hm⟩ := hb
              refine dd_z [] rfl rfl rfl (ev_call en_58 rfl (law03_of_w 2#8 p1.Depth _ hx27 _)) ⟨fun _ => tk0, trivial⟩ ?_
              rintro _ w23 ⟨rfl, Gw23⟩
              have z77 := Gw23.size
              refine ⟨Kz.ofGr Gw23, ?_⟩
              refine sd_fork ?_ ?_
              ·
                refine sdz_leaf ?_
                have hb := bnd hm; clear hm; obtain ⟨x28, hx28, hm⟩ := hb
                refine dd_z [] rfl rfl rfl (ev_call en_40 rfl (cover_Secret_w p0 x27 p2 _ hx28 _)) ⟨fun _ => tk0, trivial⟩ ?_
                rintro _ w24 ⟨u24_r0_1, z24_r0_1, g24_r0_1, rfl, O24_r0_1, f24_r0_1, Gw24⟩
                have z78 := Gw24.size
                have lt79 := O24_r0_1.lth
                refine ⟨Kz.ofGr Gw24, ?_⟩
                have S80 := (Kp.gr (Kp.gr (Kp.refl ([]) w22) Gw23) Gw24)
                refine dd_hn 0 rfl rfl rfl rfl S80 (fun w hS => vv_move rfl) ?_
                refine dd_hn 0 rfl rfl rfl rfl S80 (fun w hS => vv_extract rfl rfl) ?_
                refine dd_hn 0 rfl rfl rfl rfl S80 (fun w hS => vv_extract rfl rfl) ?_
                refine dd_z [] rfl rfl rfl (ev_alloc (cs := TSecret.cs (TSecret.mk 0 [] (TPoint.mk 0#64 0#64)) (.slice none 0 0)) zv_74 rfl) ⟨fun _ => tk0, trivial⟩ ?_
                rintro _ w25 ⟨b25, rfl, hbw25, Bw25, Gw25⟩
                have z81 := Gw25.size
                have lt82 := Bw25.lt
                refine ⟨Kz.ofGr Gw25, ?_⟩
                have B83 := (Own.gr O24_r0_1 Gw25)
                refine dd_z [(1, b25)] rfl rfl rfl (ev_stM (cs' := TSecret.cs x28.1 u24_r0_1) (vs := TSecret.cs x28.1 u24_r0_1) (agg_74).siz rfl rfl rfl rfl (TSecret.cs_ones _ _ (Own.oneB B83)) Bw25 rfl rfl) ⟨fun _ => tk0, trivial⟩ ?_
                rintro _ w26 ⟨Bw26, Mw26⟩
                have z84 := Mw26.size
                refine ⟨Kz.ofMd Mw26, ?_⟩
                have S85 := (Kp.md (Kp.gr S80 Gw25) Mw26)
                refine dd_hn 0 rfl rfl rfl rfl S85 (fun w hS => vv_assign rfl) ?_
                refine sd_nil ?_
                have K_86 : Kz [] w9 w26 := (Kz.md (Kz.gr (Kz.gr (Kz.gr (Kz.gr (Kz.refl _ _) Gw22) Gw23) Gw24) Gw25) Mw26)
                have B87 := (Own.md B83 Mw26 (tk1 ((pv_lt (A := (fun x => x ≠ b25)) lt79) : z24_r0_1 = 0 ∨ g24_r0_1 ≠ b25)))
                refine ⟨rfl, ⟨x28.1, x28.2, b25, u24_r0_1, z24_r0_1, g24_r0_1⟩, ?_, hm, B87, ⟨(pv_0 (A := (fun x => w9.heap.size ≤ x)) f24_r0_1)⟩, Bw26, (by omega), ⟨(pv_lt (A := (fun x => x ≠ b25)) lt79)⟩, K_86⟩
                repeat' first | exact trivial | refine ⟨rfl, ?_⟩
              ·
                refine sdz_leaf ?_
                refine dd_z [] rfl rfl rfl (ev_alloc (cs := TSecret.cs (TSecret.mk 0 [] (TPoint.mk 0#64 0#64)) (.slice none 0 0)) zv_74 rfl) ⟨fun _ => tk0, trivial⟩ ?_
                rintro _ w27 ⟨b27, rfl, hbw27, Bw27, Gw27⟩
                have z88 := Gw27.size
                have lt89 := Bw27.lt
                refine ⟨Kz.ofGr Gw27, ?_⟩
                have hb := bnd hm; clear hm; obtain ⟨x29, hx29, hm⟩ := hb
                refine dd_z [] rfl rfl rfl (ev_call en_40 rfl (cover_Secret_w p0 x27 p2 _ hx29 _)) ⟨fun _ => tk0, trivial⟩ ?_
                rintro _ w28 ⟨u28_r0_1, z28_r0_1, g28_r0_1, rfl, O28_r0_1, f28_r0_1, Gw28⟩
                have z90 := Gw28.size
                have lt91 := O28_r0_1.lth
                refine ⟨Kz.ofGr Gw28, ?_⟩
                have S92 := (Kp.gr (Kp.gr (Kp.gr (Kp.refl ([]) w22) Gw23) Gw27) Gw28)
                refine dd_hn 0 rfl rfl rfl rfl S92 (fun w hS => vv_move rfl) ?_
                refine dd_hn 0 rfl rfl rfl rfl S92 (fun w hS => vv_extract rfl rfl) ?_
                refine dd_hn 0 rfl rfl rfl rfl S92 (fun w hS => vv_extract rfl rfl) ?_
                have B93 := (Bx.gr Bw27 Gw28)
                refine dd_z [(1, b27)] rfl rfl rfl (ev_stM (cs' := TSecret.cs x29.1 u28_r0_1) (vs := TSecret.cs x29.1 u28_r0_1) (agg_74).siz rfl rfl rfl rfl (TSecret.cs_ones _ _ (Own.oneB O28_r0_1)) B93 rfl rfl) ⟨fun _ => tk0, trivial⟩ ?_
                rintro _ w29 ⟨Bw29, Mw29⟩
                have z94 := Mw29.size
                refine ⟨Kz.ofMd Mw29, ?_⟩
                have S95 := (Kp.md S92 Mw29)
                refine dd_hn 0 rfl rfl rfl rfl S95 (fun w hS => vv_assign rfl) ?_
                refine sd_nil ?_
                have K_96 : Kz [] w9 w29 := (Kz.md (Kz.gr (Kz.gr (Kz.gr (Kz.gr (Kz.refl _ _) Gw22) Gw23) Gw27) Gw28) Mw29)
                have B97 := (Own.md O28_r0_1 Mw29 (tk1 ((pv_0 (A := (fun x => x ≠ b27)) f28_r0_1) : z28_r0_1 = 0 ∨ g28_r0_1 ≠ b27)))
                refine ⟨rfl, ⟨x29.1, x29.2, b27, u28_r0_1, z28_r0_1, g28_r0_1⟩, ?_, hm, B97, ⟨(pv_0 (A := (fun x => w9.heap.size ≤ x)) f28_r0_1)⟩, Bw29, (by omega), ⟨(pv_0 (A := (fun x => x ≠ b27)) f28_r0_1)⟩, K_96⟩
                repeat' first | exact trivial | refine ⟨rfl, ?_⟩
            ·
              refine sdz_leaf ?_
              refine dd_z [] rfl rfl rfl (ev_alloc (cs := TSecret.cs (TSecret.mk 0 [] (TPoint.mk 0#64 0#64)) (.slice none 0 0)) zv_74 rfl) ⟨fun _ => tk0, trivial⟩ ?_
              rintro _ w30 ⟨b30, rfl, hbw30, Bw30, Gw30⟩
              have z98 := Gw30.size
              have lt99 := Bw30.lt
              refine ⟨Kz.ofGr Gw30, ?_⟩
              have hb := bnd hm; clear hm; obtain ⟨x30, hx30, hm⟩ := hb
              refine dd_z [] rfl rfl rfl (ev_call en_58 rfl (law03_of_w 2#8 p1.Depth _ hx30 _)) ⟨fun _ => tk0, trivial⟩ ?_
              rintro _ w31 ⟨rfl, Gw31⟩
              have z100 := Gw31.size
              refine ⟨Kz.ofGr Gw31, ?_⟩
              have hb := bnd hm; clear hm; obtain ⟨x31, hx31, hm⟩ := hb
              refine dd_z [] rfl rfl rfl (ev_call en_40 rfl (cover_Secret_w p0 x30 p2 _ hx31 _)) ⟨fun _ => tk0, trivial⟩ ?_
              rintro _ w32 ⟨u32_r0_1, z32_r0_1, g32_r0_1, rfl, O32_r0_1, f32_r0_1, Gw32⟩
              have z101 := Gw32.size
              have lt102 := O32_r0_1.lth
              refine ⟨Kz.ofGr Gw32, ?_⟩
              have S103 := (Kp.gr (Kp.gr (Kp.gr (Kp.refl ([]) w22) Gw30) Gw31) Gw32)
              refine dd_hn 0 rfl rfl rfl rfl S103 (fun w hS => vv_move rfl) ?_
              refine dd_hn 0 rfl rfl rfl rfl S103 (fun w hS => vv_extract rfl rfl) ?_
              refine dd_hn 0 rfl rfl rfl rfl S103 (fun w hS => vv_extract rfl rfl) ?_
              have B104 := (Bx.gr (Bx.gr Bw30 Gw31) Gw32)
              refine dd_z [(1, b30)] rfl rfl rfl (ev_stM (cs' := TSecret.cs x31.1 u32_r0_1) (vs := TSecret.cs x31.1 u32_r0_1) (agg_74).siz rfl rfl rfl rfl (TSecret.cs_ones _ _ (Own.oneB O32_r0_1)) B104 rfl rfl) ⟨fun _ => tk0, trivial⟩ ?_
              rintro _ w33 ⟨Bw33, Mw33⟩
              have z105 := Mw33.size
              refine ⟨Kz.ofMd Mw33, ?_⟩
              have S106 := (Kp.md S103 Mw33)
              refine dd_hn 0 rfl rfl rfl rfl S106 (fun w hS => vv_assign rfl) ?_
              refine sd_nil ?_
              have K_107 : Kz [] w9 w33 := (Kz.md (Kz.gr (Kz.gr (Kz.gr (Kz.gr (Kz.refl _ _) Gw22) Gw30) Gw31) Gw32) Mw33)
              have B108 := (Own.md O32_r0_1 Mw33 (tk1 ((pv_0 (A := (fun x => x ≠ b30)) f32_r0_1) : z32_r0_1 = 0 ∨ g32_r0_1 ≠ b30)))
              refine ⟨rfl, ⟨x31.1, x31.2, b30, u32_r0_1, z32_r0_1, g32_r0_1⟩, ?_, hm, B108, ⟨(pv_0 (A := (fun x => w9.heap.size ≤ x)) f32_r0_1)⟩, Bw33, (by omega), ⟨(pv_0 (A := (fun x => x ≠ b30)) f32_r0_1)⟩, K_107⟩
              repeat' first | exact trivial | refine ⟨rfl, ?_⟩
      ·
        -- region 6 outright.go:322
        refine sw_region [(0, 0), (1, 0), (2, 0), (3, 0), (4, 0), (5, 0), (6, 0), (7, 0), (8, 0), (9, 0), (10, 0), (11, 0), (12, 0), (13, 0), (14, 0), (15, 0), (16, 0), (17, 0), (18, 0), (19, 0), (20, 0), (21, 0), (22, 0), (23, 0), (24, 0)] rfl rfl rfl ?_
        refine sd_vv rfl rfl rfl (vv_move rfl) ?_
        refine sd_vv rfl rfl rfl (vv_neq (a := x2.2) (b := 0) rfl rfl) ?_
        refine sd_split rfl rfl rfl (vv_move rfl) (fun c16 => ?_) (fun c16 => ?_)
        ·
          replace hm := ite_t (of_decide_eq_true c16) hm
          refine sd_skip rfl rfl rfl ?_
          refine sd_skip rfl rfl rfl ?_
          refine sd_vv rfl rfl rfl (vv_pickT rfl rfl) ?_
          refine sd_vv rfl rfl rfl (vv_move rfl) ?_
          refine sd_skip rfl rfl rfl ?_
          refine sd_skip rfl rfl rfl ?_
          refine sd_skip rfl rfl rfl ?_
          refine sd_skip rfl rfl rfl ?_
          refine sd_skip rfl rfl rfl ?_
          refine sd_vv rfl rfl rfl (vv_pickT rfl rfl) ?_
          refine sd_vv rfl rfl rfl (vv_move rfl) ?_
          refine sd_skip rfl rfl rfl ?_
          refine sd_skip rfl rfl rfl ?_
          refine sd_skip rfl rfl rfl ?_
          refine sd_skip rfl rfl rfl ?_
          refine sd_vv rfl rfl rfl (vv_pickT rfl rfl) ?_
          refine sd_vv rfl rfl rfl (vv_move rfl) ?_
          refine sd_skip rfl rfl rfl ?_
          refine sd_skip rfl rfl rfl ?_
          refine sd_skip rfl rfl rfl ?_
          refine sd_skip rfl rfl rfl ?_
          refine sd_vv rfl rfl rfl (vv_pickT rfl rfl) ?_
          refine sd_nil ?_
          have K_109 : Kz [] w8 w8 := (Kz.refl _ _)
          refine ⟨rfl, true, ?_, hm, K_109⟩
          repeat' first | exact trivial | refine ⟨rfl, ?_⟩
        ·
          replace hm := ite_f (of_decide_eq_false c16) hm
          refine sd_vv rfl rfl rfl (vv_move rfl) ?_
          refine sd_vv rfl rfl rfl (vv_neq (a := x3.2) (b := 0) rfl rfl) ?_
          refine sd_vv rfl rfl rfl (vv_pickF rfl rfl) ?_
          refine sd_split rfl rfl rfl (vv_move rfl) (fun c17 => ?_) (fun c17 => ?_)
          ·
            replace hm := ite_t (of_decide_eq_true c17) hm
            refine sd_skip rfl rfl rfl ?_
            refine sd_skip rfl rfl rfl ?_
            refine sd_skip rfl rfl rfl ?_
            refine sd_skip rfl rfl rfl ?_
            refine sd_skip rfl rfl rfl ?_
            refine sd_vv rfl rfl rfl (vv_pickT rfl rfl) ?_
            refine sd_vv rfl rfl rfl (vv_move rfl) ?_
            refine sd_skip rfl rfl rfl ?_
            refine sd_skip rfl rfl rfl ?_
            refine sd_skip rfl rfl rfl ?_
            refine sd_skip rfl rfl rfl ?_
            refine sd_vv rfl rfl rfl (vv_pickT rfl rfl) ?_
            refine sd_vv rfl rfl rfl (vv_move rfl) ?_
            refine sd_skip rfl rfl rfl ?_
            refine sd_skip rfl rfl rfl ?_
            refine sd_skip rfl rfl rfl ?_
            refine sd_skip rfl rfl rfl ?_
            refine sd_vv rfl rfl rfl (vv_pickT rfl rfl) ?_
            refine sd_nil ?_
            have K_110 : Kz [] w8 w8 := (Kz.refl _ _)
            refine ⟨rfl, true, ?_, hm, K_110⟩
            repeat' first | exact trivial | refine ⟨rfl, ?_⟩
          ·
            replace hm := ite_f (of_decide_eq_false c17) hm
            refine sd_vv rfl rfl rfl (vv_fieldAddr fa_74_1 rfl) ?_
            have B111 := (Bx.kz (Bx.gr Bw6 Gw7) Kw8)
            refine sd_vv rfl rfl rfl (vv_load1 (v := u4_r0_1) one_70 rfl B111 rfl) ?_
            have B112 := (Own.kz (Own.gr (Own.md B12 Mw6 (tk1 ((pv_lt (A := (fun x => x ≠ b5)) lt9) : z4_r0_1 = 0 ∨ g4_r0_1 ≠ b5))) Gw7) Kw8)
            refine sd_vv rfl rfl rfl (vv_lenT (l := x2.1.Labels) (c := TLabel.cs) Try.underlying70 rfl (Own.rd B112)) ?_
            refine sd_vv rfl rfl rfl (vv_move rfl) ?_
            refine sd_vv rfl rfl rfl (vv_neq (a := (x2.1.Labels.length : Int)) (b := x3.1) rfl rfl) ?_
            refine sd_vv rfl rfl rfl (vv_pickF rfl rfl) ?_
            refine sd_split rfl rfl rfl (vv_move rfl) (fun c18 => ?_) (fun c18 => ?_)
            ·
              replace hm := ite_t (of_decide_eq_true c18) hm
              refine sd_skip rfl rfl rfl ?_
              refine sd_skip rfl rfl rfl ?_
              refine sd_skip rfl rfl rfl ?_
              refine sd_skip rfl rfl rfl ?_
              refine sd_vv rfl rfl rfl (vv_pickT rfl rfl) ?_
              refine sd_vv rfl rfl rfl (vv_move rfl) ?_
              refine sd_skip rfl rfl rfl ?_
              refine sd_skip rfl rfl rfl ?_
              refine sd_skip rfl rfl rfl ?_
              refine sd_skip rfl rfl rfl ?_
              refine sd_vv rfl rfl rfl (vv_pickT rfl rfl) ?_
              refine sd_nil ?_
              have K_113 : Kz [] w8 w8 := (Kz.refl _ _)
              refine ⟨rfl, true, ?_, hm, K_113⟩
              repeat' first | exact trivial | refine ⟨rfl, ?_⟩
            ·
              replace hm := ite_f (of_decide_eq_false c18) hm
              refine sd_vv rfl rfl rfl (vv_fieldAddr fa_74_0 rfl) ?_
              refine sd_vv rfl rfl rfl (vv_load1 (v := .int .i64 x2.1.Receiver) one_3 rfl B111 rfl) ?_
              refine sd_vv rfl rfl rfl (vv_move rfl) ?_
              refine sd_vv rfl rfl rfl (vv_neq (a := x2.1.Receiver) (b := p2) rfl rfl) ?_
              refine sd_vv rfl rfl rfl (vv_pickF rfl rfl) ?_
              refine sd_split rfl rfl rfl (vv_move rfl) (fun c19 => ?_) (fun c19 => ?_)
              ·
                replace hm := ite_t (of_decide_eq_true c19) hm
                refine sd_skip rfl rfl rfl ?_
                refine sd_skip rfl rfl rfl ?_
                refine sd_skip rfl rfl rfl ?_
                refine sd_skip rfl rfl rfl ?_
                refine sd_vv rfl rfl rfl (vv_pickT rfl rfl) ?_
                refine sd_nil ?_
                have K_114 : Kz [] w8 w8 := (Kz.refl _ _)
                refine ⟨rfl, true, ?_, hm, K_114⟩
                repeat' first | exact trivial | refine ⟨rfl, ?_⟩
              ·
                replace hm := ite_f (of_decide_eq_false c19) hm
                refine sd_vv rfl rfl rfl (vv_fieldAddr fa_74_2 rfl) ?_
                refine sd_vv rfl rfl rfl (vv_loadM (vs := TPoint.cs x2.1.Share) agg_72 rfl B111 rfl rfl) ?_
                refine sd_vv rfl rfl rfl (vv_build (cs := TPoint.cs (TPoint.mk 0#64 0#64)) bs_72 rfl rfl) ?_
                refine sd_vv rfl rfl rfl (vv_neqS (cf := TPoint.cs) (a := x2.1.Share) (b := (TPoint.mk 0#64 0#64)) eqt_72 rfl rfl rfl rfl (fun h => TPoint.cs_inj h)) ?_
                refine sd_vv rfl rfl rfl (vv_pickF rfl rfl) ?_
                refine sd_nil ?_
                have K_115 : Kz [] w8 w8 := (Kz.refl _ _)
                refine ⟨rfl, (decide (x2.1.Share ≠ (TPoint.mk 0#64 0#64))), ?_, hm, K_115⟩
                repeat' first | exact trivial | refine ⟨rfl, ?_⟩
  ·
    -- region 4 outright.go:319
    refine sw_region [(0, 0), (1, 0), (2, 0), (3, 0), (4, 0), (5, 0), (6, 0), (7, 0), (8, 0), (9, 0), (10, 0), (11, 0), (12, 0), (13, 0)] rfl rfl rfl ?_
    have B116 := (Bx.gr B14 Gw7)
    refine sd_vv rfl rfl rfl (vv_loadW agg_45 rfl B116 rfl) ?_
    have hb := bnd hm; clear hm; obtain ⟨x32, hx32, hm⟩ := hb
    refine sd_ev rfl rfl rfl (ev_call en_59 rfl (ref03_Valid_w p1 _ hx32 _)) ?_
    rintro _ w34 ⟨rfl, Gw34⟩
    have z117 := Gw34.size
    refine sd_vv rfl rfl rfl (vv_not rfl) ?_
    refine sd_split rfl rfl rfl (vv_move rfl) (fun c20 => ?_) (fun c20 => ?_)
    ·
      replace hm := cnd_t c20 hm
      refine sd_skip rfl rfl rfl ?_
      refine sd_skip rfl rfl rfl ?_
      refine sd_vv rfl rfl rfl (vv_pickT rfl rfl) ?_
      refine sd_vv rfl rfl rfl (vv_move rfl) ?_
      refine sd_skip rfl rfl rfl ?_
      refine sd_skip rfl rfl rfl ?_
      refine sd_skip rfl rfl rfl ?_
      refine sd_skip rfl rfl rfl ?_
      refine sd_skip rfl rfl rfl ?_
      refine sd_vv rfl rfl rfl (vv_pickT rfl rfl) ?_
      refine sd_nil ?_
      have K_118 : Kz [] w7 w34 := (Kz.gr (Kz.refl _ _) Gw34)
      refine ⟨rfl, true, ?_, hm, K_118⟩
      repeat' first | exact trivial | refine ⟨rfl, ?_⟩
    ·
      replace hm := cnd_f c20 hm
      refine sd_vv rfl rfl rfl (vv_move rfl) ?_
      refine sd_vv rfl rfl rfl (vv_lss (a := p2) (b := 0) rfl rfl) ?_
      refine sd_vv rfl rfl rfl (vv_pickF rfl rfl) ?_
      refine sd_split rfl rfl rfl (vv_move rfl) (fun c21 => ?_) (fun c21 => ?_)
      ·
        replace hm := ite_t (of_decide_eq_true c21) hm
        refine sd_skip rfl rfl rfl ?_
        refine sd_skip rfl rfl rfl ?_
        refine sd_skip rfl rfl rfl ?_
        refine sd_skip rfl rfl rfl ?_
        refine sd_skip rfl rfl rfl ?_
        refine sd_vv rfl rfl rfl (vv_pickT rfl rfl) ?_
        refine sd_nil ?_
        have K_119 : Kz [] w7 w34 := (Kz.gr (Kz.refl _ _) Gw34)
        refine ⟨rfl, true, ?_, hm, K_119⟩
        repeat' first | exact trivial | refine ⟨rfl, ?_⟩
      ·
        replace hm := ite_f (of_decide_eq_false c21) hm
        refine sd_vv rfl rfl rfl (vv_move rfl) ?_
        refine sd_vv rfl rfl rfl (vv_fieldAddr fa_45_1 rfl) ?_
        have B120 := (Bx.gr B116 Gw34)
        refine sd_vv rfl rfl rfl (vv_load1 (v := .int .i64 p1.Depth) one_3 rfl B120 rfl) ?_
        have hb := bnd hm; clear hm; obtain ⟨n33, hn33, hm⟩ := hb
        refine sd_vv rfl rfl rfl (vv_shlI (a := 1) (b := p1.Depth) rfl rfl hn33) ?_
        refine sd_vv rfl rfl rfl (vv_geq (a := p2) (b := shlI 1 n33) rfl rfl) ?_
        refine sd_vv rfl rfl rfl (vv_pickF rfl rfl) ?_
        refine sd_nil ?_
        have K_121 : Kz [] w7 w34 := (Kz.gr (Kz.refl _ _) Gw34)
        refine ⟨rfl, (decide (shlI 1 n33 ≤ p2)), ?_, hm, K_121⟩
        repeat' first | exact trivial | refine ⟨rfl, ?_⟩
end Go.Proofs.Ytecempahccgijaa.Mx
