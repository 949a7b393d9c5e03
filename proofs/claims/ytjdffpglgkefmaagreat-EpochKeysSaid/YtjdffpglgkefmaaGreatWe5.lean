/- Walks that follow mirrors: We5. Printed by mx.py. -/
import Derived.Test.YtjdffpglgkefmaaGreatWl
import Derived.Test.YtjdffpglgkefmaaGreatWe5M
set_option linter.unusedVariables false
set_option linter.unusedSimpArgs false
set_option maxRecDepth 100000
namespace Go.Proofs.YtjdffpglgkefmaaGreat.Mx
open Go Go.RowKit Go.Sx
theorem en_61 : En Tryz.prog 61 := fun _ _ => by kernel_rfl
theorem zv_122 : ZV Tryz.prog 122 (.agg [.nilFunc, .nilFunc, .nilFunc, .nilFunc].toArray) := fun _ => by kernel_rfl
theorem one_40 : One Tryz.prog 40 := fun _ => ⟨by kernel_rfl, by kernel_rfl⟩
theorem one_36 : One Tryz.prog 36 := fun _ => ⟨by kernel_rfl, by kernel_rfl⟩
theorem one_58 : One Tryz.prog 58 := fun _ => ⟨by kernel_rfl, by kernel_rfl⟩
theorem one_106 : One Tryz.prog 106 := fun _ => ⟨by kernel_rfl, by kernel_rfl⟩
theorem bs_122 : BS Tryz.prog 122 (fun i => [(0, 1), (1, 1), (2, 1), (3, 1)][i]?) [.nilFunc, .nilFunc, .nilFunc, .nilFunc] := bs_mk Tryz.underlying122 zv_122 ⟨rfl, (one_40).siz, rfl, (one_36).siz, rfl, (one_58).siz, rfl, (one_106).siz, trivial⟩
theorem agg_122 : Agg Tryz.prog 122 4 := fun _ => ⟨by kernel_rfl, by kernel_rfl⟩
theorem zv_206 : ZV Tryz.prog 206 (.agg [.nilFunc, .nilFunc, .nilFunc, .nilFunc, .nilFunc, .nilFunc, .nilFunc, .nilFunc, .nilFunc, .nilFunc, .nilFunc, .nilFunc, .nilFunc, .nilFunc, .nilFunc, .nilFunc, .nilFunc, .nilFunc, .nilFunc, .nilFunc].toArray) := fun _ => by kernel_rfl
theorem ba_206 : BA Tryz.prog 206 4 [.nilFunc, .nilFunc, .nilFunc, .nilFunc, .nilFunc, .nilFunc, .nilFunc, .nilFunc, .nilFunc, .nilFunc, .nilFunc, .nilFunc, .nilFunc, .nilFunc, .nilFunc, .nilFunc, .nilFunc, .nilFunc, .nilFunc, .nilFunc] := ⟨_, _, Tryz.underlying206, (agg_122).siz, zv_206⟩
theorem agg_206 : Agg Tryz.prog 206 20 := fun _ => ⟨by kernel_rfl, by kernel_rfl⟩
theorem cv_5_3 : CV Tryz.prog 5 3 .i64 := fun _ _ _ => by kernel_rfl
theorem fa_122_0 : FA Tryz.prog 122 0 0 := fun _ _ _ => by kernel_rfl
theorem en_121 : En Tryz.prog 121 := fun _ _ => by kernel_rfl
theorem fa_122_1 : FA Tryz.prog 122 1 1 := fun _ _ _ => by kernel_rfl
theorem en_137 : En Tryz.prog 137 := fun _ _ => by kernel_rfl
theorem en_139 : En Tryz.prog 139 := fun _ _ => by kernel_rfl
theorem en_140 : En Tryz.prog 140 := fun _ _ => by kernel_rfl
theorem en_65 : En Tryz.prog 65 := fun _ _ => by kernel_rfl
theorem en_66 : En Tryz.prog 66 := fun _ _ => by kernel_rfl
theorem en_20 : En Tryz.prog 20 := fun _ _ => by kernel_rfl
theorem en_62 : En Tryz.prog 62 := fun _ _ => by kernel_rfl
theorem en_63 : En Tryz.prog 63 := fun _ _ => by kernel_rfl
theorem fa_33_0 : FA Tryz.prog 33 0 0 := fun _ _ _ => by kernel_rfl
theorem fa_33_2 : FA Tryz.prog 33 2 2 := fun _ _ _ => by kernel_rfl
theorem eqc_31 : EqC Tryz.prog 2 31 [.i .u64, .i .u64] := eqc_struct Tryz.underlying31 (by kernel_rfl) agg_31 (show EqF _ 1 _ _ _ from (eqf_cons (ks1 := [.i .u64]) (ks2 := [.i .u64]) rfl (by simp) (eqc_24.up (by decide)) (eqf_cons (ks1 := [.i .u64]) (ks2 := []) rfl (by simp) (eqc_24.up (by decide)) (eqf_nil _))))
theorem eqt_31 : EqT Tryz.prog 31 [.i .u64, .i .u64] := ⟨by kernel_rfl, agg_31, 2, by decide, eqc_31⟩
theorem eqc_23 : EqC Tryz.prog 2 23 [.i .u8, .i .u8, .i .u8, .i .u8, .i .u8, .i .u8, .i .u8, .i .u8, .i .u8, .i .u8, .i .u8, .i .u8, .i .u8, .i .u8, .i .u8, .i .u8] := eqc_array (ks := [.i .u8]) Tryz.underlying23 (infoE (by kernel_rfl)).choose_spec (by kernel_rfl) agg_23 eqc_5
theorem eqc_92 : EqC Tryz.prog 3 92 [.i .i64, .i .i64, .i .u8, .i .u8, .i .u8, .i .u8, .i .u8, .i .u8, .i .u8, .i .u8, .i .u8, .i .u8, .i .u8, .i .u8, .i .u8, .i .u8, .i .u8, .i .u8] := eqc_struct Tryz.underlying92 (by kernel_rfl) agg_92 (show EqF _ 2 _ _ _ from (eqf_cons (ks1 := [.i .i64]) (ks2 := [.i .i64, .i .u8, .i .u8, .i .u8, .i .u8, .i .u8, .i .u8, .i .u8, .i .u8, .i .u8, .i .u8, .i .u8, .i .u8, .i .u8, .i .u8, .i .u8, .i .u8]) rfl (by simp) (eqc_3.up (by decide)) (eqf_cons (ks1 := [.i .i64]) (ks2 := [.i .u8, .i .u8, .i .u8, .i .u8, .i .u8, .i .u8, .i .u8, .i .u8, .i .u8, .i .u8, .i .u8, .i .u8, .i .u8, .i .u8, .i .u8, .i .u8]) rfl (by simp) (eqc_3.up (by decide)) (eqf_cons (ks1 := [.i .u8, .i .u8, .i .u8, .i .u8, .i .u8, .i .u8, .i .u8, .i .u8, .i .u8, .i .u8, .i .u8, .i .u8, .i .u8, .i .u8, .i .u8, .i .u8]) (ks2 := []) rfl (by simp) (eqc_23.up (by decide)) (eqf_nil _)))))
theorem eqt_92 : EqT Tryz.prog 92 [.i .i64, .i .i64, .i .u8, .i .u8, .i .u8, .i .u8, .i .u8, .i .u8, .i .u8, .i .u8, .i .u8, .i .u8, .i .u8, .i .u8, .i .u8, .i .u8, .i .u8, .i .u8] := ⟨by kernel_rfl, agg_92, 3, by decide, eqc_92⟩

set_option maxHeartbeats 2000000 in
theorem epoch_Secret_w (p0 : W2) (p1 : TScheme) (p2 : Int)  (r : TSecret × Int) (hm : epoch_Secret p0 p1 p2 = some r) (w : World)   :
    Calls Tryz.prog 13 [kv p0, .agg (TScheme.cs p1).toArray, .int .i64 p2].toArray w fun e w' => ∃ v, e = .returned v ∧ (∃ (ur0_1 : Value) (zr0_1 : Nat) (gr0_1 : Nat), v = .tuple [.agg (TSecret.cs r.1 ur0_1).toArray, .int .i64 r.2].toArray ∧ Own w' zr0_1 gr0_1 92 18 ur0_1 (r.1.Labels.map TLabel.cs) ∧ Hdn (zr0_1 = 0 ∨ w.heap.size ≤ gr0_1) ∧ Gr w w') := by
  unfold epoch_Secret at hm
  refine calls_of_sw (R := fun v w' => ∃ (ur0_1 : Value) (zr0_1 : Nat) (gr0_1 : Nat), v = .tuple [.agg (TSecret.cs r.1 ur0_1).toArray, .int .i64 r.2].toArray ∧ Own w' zr0_1 gr0_1 92 18 ur0_1 (r.1.Labels.map TLabel.cs) ∧ Hdn (zr0_1 = 0 ∨ w.heap.size ≤ gr0_1) ∧ Gr w w') 27 Tryz.func13 rfl rfl rfl ?_
  refine sw_seq ?_
  -- region 0 epoch.go:158
  refine sw_region [(0, 0), (1, 0), (2, 0), (3, 0)] rfl rfl rfl ?_
  refine sd_ev rfl rfl rfl (ev_box (cs := kb p0) rfl rfl) ?_
  rintro _ w1 ⟨b1, rfl, hbw1, Bw1, Gw1⟩
  have z1 := Gw1.size
  have lt2 := Bw1.lt
  refine sd_ev rfl rfl rfl (ev_box (cs := TScheme.cs p1) rfl rfl) ?_
  rintro _ w2 ⟨b2, rfl, hbw2, Bw2, Gw2⟩
  have z3 := Gw2.size
  have lt4 := Bw2.lt
  refine sd_ev rfl rfl rfl (ev_alloc (cs := TSecret.cs (TSecret.mk 0 [] (TPoint.mk 0#64 0#64)) (.slice none 0 0)) zv_33 rfl) ?_
  rintro _ w3 ⟨b3, rfl, hbw3, Bw3, Gw3⟩
  have z5 := Gw3.size
  have lt6 := Bw3.lt
  refine sd_vv rfl rfl rfl (vv_assign rfl) ?_
  refine sd_done ?_
  refine sw_seq ?_
  -- region 1 epoch.go:159
  refine sw_region [(0, 0), (1, 0), (2, 0), (3, 0), (4, 0), (5, 0), (6, 0), (7, 0)] rfl rfl rfl ?_
  have B7 := (Bx.gr Bw2 Gw3)
  refine sd_vv rfl rfl rfl (vv_loadW agg_28 rfl B7 rfl) ?_
  -- in place: headend/epoch.systemOf
  refine sd_inl 33 Tryz.func61 rfl rfl rfl en_61 rfl rfl rfl rfl rfl ?_
  refine sw_seq ?_
  -- region 0 epoch.go:141
  refine sw_region [(0, 0), (1, 0), (2, 0)] rfl rfl rfl ?_
  refine sd_ev rfl rfl rfl (ev_box (cs := TScheme.cs p1) rfl rfl) ?_
  rintro _ w4 ⟨b4, rfl, hbw4, Bw4, Gw4⟩
  have z8 := Gw4.size
  have lt9 := Bw4.lt
  refine sd_ev rfl rfl rfl (ev_alloc (cs := [.nilFunc, .nilFunc, .nilFunc, .nilFunc]) zv_122 rfl) ?_
  rintro _ w5 ⟨b5, rfl, hbw5, Bw5, Gw5⟩
  have z10 := Gw5.size
  have lt11 := Bw5.lt
  refine sd_vv rfl rfl rfl (vv_assign rfl) ?_
  refine sd_done ?_
  refine sw_seq ?_
  -- region 1 epoch.go:142
  refine sw_region [(0, 0), (1, 0), (2, 0)] rfl rfl rfl ?_
  refine sd_vv rfl rfl rfl (vv_build (cs := [.func (.func 121) #[] #[], .func (.func 137) #[] #[], .func (.func 53) #[] #[], .func (.func 138) #[] #[]]) bs_122 rfl rfl) ?_
  refine sd_ev rfl rfl rfl (ev_alloc (cs := [.nilFunc, .nilFunc, .nilFunc, .nilFunc]) zv_122 rfl) ?_
  rintro _ w6 ⟨b6, rfl, hbw6, Bw6, Gw6⟩
  have z12 := Gw6.size
  have lt13 := Bw6.lt
  refine sd_ev rfl rfl rfl (ev_stM (cs' := [.func (.func 121) #[] #[], .func (.func 137) #[] #[], .func (.func 53) #[] #[], .func (.func 138) #[] #[]]) (vs := [.func (.func 121) #[] #[], .func (.func 137) #[] #[], .func (.func 53) #[] #[], .func (.func 138) #[] #[]]) (agg_122).siz rfl rfl rfl rfl rfl Bw6 rfl rfl) ?_
  rintro _ w7 ⟨Bw7, Mw7⟩
  have z14 := Mw7.size
  refine sd_done ?_
  refine sw_seq ?_
  -- region 2 epoch.go:143
  refine sw_region [(0, 0), (1, 0), (2, 0), (3, 0), (4, 0), (5, 0), (6, 0), (7, 0)] rfl rfl rfl ?_
  refine sd_vv rfl rfl rfl (vv_build (cs := [.nilFunc, .nilFunc, .nilFunc, .nilFunc]) bs_122 rfl rfl) ?_
  refine sd_vv rfl rfl rfl (vv_loadM (vs := [.func (.func 121) #[] #[], .func (.func 137) #[] #[], .func (.func 53) #[] #[], .func (.func 138) #[] #[]]) agg_122 rfl Bw7 rfl rfl) ?_
  refine sd_vv rfl rfl rfl (vv_loadM (vs := [.func (.func 121) #[] #[], .func (.func 137) #[] #[], .func (.func 53) #[] #[], .func (.func 138) #[] #[]]) agg_122 rfl Bw7 rfl rfl) ?_
  refine sd_vv rfl rfl rfl (vv_loadM (vs := [.func (.func 121) #[] #[], .func (.func 137) #[] #[], .func (.func 53) #[] #[], .func (.func 138) #[] #[]]) agg_122 rfl Bw7 rfl rfl) ?_
  refine sd_vv rfl rfl rfl (vv_build (cs := [.func (.func 139) #[] #[], .func (.func 140) #[] #[], .func (.func 50) #[] #[], .func (.func 49) #[] #[]]) bs_122 rfl rfl) ?_
  refine sd_vv rfl rfl rfl (vv_buildA (cs := [.nilFunc, .nilFunc, .nilFunc, .nilFunc, .func (.func 121) #[] #[], .func (.func 137) #[] #[], .func (.func 53) #[] #[], .func (.func 138) #[] #[], .func (.func 121) #[] #[], .func (.func 137) #[] #[], .func (.func 53) #[] #[], .func (.func 138) #[] #[], .func (.func 121) #[] #[], .func (.func 137) #[] #[], .func (.func 53) #[] #[], .func (.func 138) #[] #[], .func (.func 139) #[] #[], .func (.func 140) #[] #[], .func (.func 50) #[] #[], .func (.func 49) #[] #[]]) ba_206 rfl rfl) ?_
  refine sd_ev rfl rfl rfl (ev_alloc (cs := [.nilFunc, .nilFunc, .nilFunc, .nilFunc, .nilFunc, .nilFunc, .nilFunc, .nilFunc, .nilFunc, .nilFunc, .nilFunc, .nilFunc, .nilFunc, .nilFunc, .nilFunc, .nilFunc, .nilFunc, .nilFunc, .nilFunc, .nilFunc]) zv_206 rfl) ?_
  rintro _ w8 ⟨b8, rfl, hbw8, Bw8, Gw8⟩
  have z15 := Gw8.size
  have lt16 := Bw8.lt
  refine sd_ev rfl rfl rfl (ev_stM (cs' := [.nilFunc, .nilFunc, .nilFunc, .nilFunc, .func (.func 121) #[] #[], .func (.func 137) #[] #[], .func (.func 53) #[] #[], .func (.func 138) #[] #[], .func (.func 121) #[] #[], .func (.func 137) #[] #[], .func (.func 53) #[] #[], .func (.func 138) #[] #[], .func (.func 121) #[] #[], .func (.func 137) #[] #[], .func (.func 53) #[] #[], .func (.func 138) #[] #[], .func (.func 139) #[] #[], .func (.func 140) #[] #[], .func (.func 50) #[] #[], .func (.func 49) #[] #[]]) (vs := [.nilFunc, .nilFunc, .nilFunc, .nilFunc, .func (.func 121) #[] #[], .func (.func 137) #[] #[], .func (.func 53) #[] #[], .func (.func 138) #[] #[], .func (.func 121) #[] #[], .func (.func 137) #[] #[], .func (.func 53) #[] #[], .func (.func 138) #[] #[], .func (.func 121) #[] #[], .func (.func 137) #[] #[], .func (.func 53) #[] #[], .func (.func 138) #[] #[], .func (.func 139) #[] #[], .func (.func 140) #[] #[], .func (.func 50) #[] #[], .func (.func 49) #[] #[]]) (agg_206).siz rfl rfl rfl rfl rfl Bw8 rfl rfl) ?_
  rintro _ w9 ⟨Bw9, Mw9⟩
  have z17 := Mw9.size
  refine sd_done ?_
  refine sw_seq ?_
  have X18 : Gr w w9 := (Gr.md (Gr.trans (Gr.md (Gr.trans (Gr.trans (Gr.trans (Gr.trans (Gr.trans (Gr.trans (Gr.refl w) Gw1) Gw2) Gw3) Gw4) Gw5) Gw6) Mw7) Gw8) Mw9)
  refine sw_joinD (β := Bool) [14, 15, 16, 17, 18, 19, 20, 21, 22] (fun a1 => [(22, .bool a1)]) (fun a1 wr => (epoch_Secret_J1 p0 p1 p2 a1 = some r) ∧ Kz [] w9 wr) ?_ ?_
  · clear hm; rintro a1 w10 ⟨hm, Kw10⟩
    have z19 := Kw10.size
    unfold epoch_Secret_J1 at hm
    refine sw_cond rfl (fun c1 => ?_) (fun c1 => ?_)
    ·
      replace hm := cnd_t c1 hm
      refine sw_seq ?_
      -- region 4 epoch.go:145
      refine sw_region [(0, 0), (1, 0), (2, 0)] rfl rfl rfl ?_
      refine sd_vv rfl rfl rfl (vv_build (cs := [.nilFunc, .nilFunc, .nilFunc, .nilFunc]) bs_122 rfl rfl) ?_
      have B20 := (Bx.kz (Bx.md (Bx.gr (Bx.md (Bx.gr Bw5 Gw6) Mw7) Gw8) Mw9) Kw10)
      refine sd_ev rfl rfl rfl (ev_stM (cs' := [.nilFunc, .nilFunc, .nilFunc, .nilFunc]) (vs := [.nilFunc, .nilFunc, .nilFunc, .nilFunc]) (agg_122).siz rfl rfl rfl rfl rfl B20 rfl rfl) ?_
      rintro _ w11 ⟨Bw11, Mw11⟩
      have z21 := Mw11.size
      refine sd_vv rfl rfl rfl (vv_assign rfl) ?_
      refine sd_done ?_
      refine sw_ret ?_
      refine then_r ?_
      refine ⟨_, _, rfl, res_2 rfl (rv_cellW agg_122 rfl Bw11 rfl) (rv_tmp rfl), ?_⟩
      refine sd_vv rfl rfl rfl (vv_move rfl) ?_
      refine sd_vv rfl rfl rfl (vv_extract rfl rfl) ?_
      refine sd_vv rfl rfl rfl (vv_extract rfl rfl) ?_
      refine sd_ev rfl rfl rfl (ev_alloc (cs := [.nilFunc, .nilFunc, .nilFunc, .nilFunc]) zv_122 rfl) ?_
      rintro _ w12 ⟨b12, rfl, hbw12, Bw12, Gw12⟩
      have z22 := Gw12.size
      have lt23 := Bw12.lt
      refine sd_ev rfl rfl rfl (ev_stM (cs' := [.nilFunc, .nilFunc, .nilFunc, .nilFunc]) (vs := [.nilFunc, .nilFunc, .nilFunc, .nilFunc]) (agg_122).siz rfl rfl rfl rfl rfl Bw12 rfl rfl) ?_
      rintro _ w13 ⟨Bw13, Mw13⟩
      have z24 := Mw13.size
      refine sd_vv rfl rfl rfl (vv_assign rfl) ?_
      refine sd_done ?_
      refine sw_seq ?_
      refine sw_seq ?_
      -- region 2 epoch.go:160
      refine sw_region [(0, 0), (1, 0)] rfl rfl rfl ?_
      refine sd_vv rfl rfl rfl (vv_move rfl) ?_
      refine sd_vv rfl rfl rfl (vv_neq (a := 2) (b := 0) rfl rfl) ?_
      refine sd_done ?_
      refine sw_condT rfl ?_
      refine sw_seq ?_
      -- region 3 epoch.go:161
      refine sw_region [(0, 0), (1, 0), (2, 0), (3, 0)] rfl rfl rfl ?_
      refine sd_vv rfl rfl rfl (vv_build (cs := TSecret.cs (TSecret.mk 0 [] (TPoint.mk 0#64 0#64)) (.slice none 0 0)) bs_33 rfl rfl) ?_
      refine sd_vv rfl rfl rfl (vv_move rfl) ?_
      have B25 := (Bx.md (Bx.gr (Bx.md (Bx.kz (Bx.md (Bx.gr (Bx.md (Bx.gr (Bx.gr (Bx.gr Bw3 Gw4) Gw5) Gw6) Mw7) Gw8) Mw9) Kw10) Mw11) Gw12) Mw13)
      refine sd_ev rfl rfl rfl (ev_stM (cs' := TSecret.cs (TSecret.mk 0 [] (TPoint.mk 0#64 0#64)) (.slice none 0 0)) (vs := TSecret.cs (TSecret.mk 0 [] (TPoint.mk 0#64 0#64)) (.slice none 0 0)) (agg_33).siz rfl rfl rfl rfl (TSecret.cs_ones _ _ rfl) B25 rfl rfl) ?_
      rintro _ w14 ⟨Bw14, Mw14⟩
      have z26 := Mw14.size
      refine sd_vv rfl rfl rfl (vv_assign rfl) ?_
      refine sd_done ?_
      refine sw_ret ?_
      refine then_r ?_
      have X27 : Gr w w14 := (Gr.md (Gr.md (Gr.trans (Gr.md (Gr.kz X18 Kw10) Mw11) Gw12) Mw13) Mw14)
      have hr := Option.some.inj hm
      subst hr
      refine ⟨_, _, rfl, res_2 rfl (rv_cellW agg_33 rfl Bw14 rfl) (rv_tmp rfl), ?_⟩
      exact ⟨(.slice none 0 0), 0, 0, rfl, (own_nil _ 0 92 18), ⟨.inl rfl⟩, X27⟩
    ·
      replace hm := cnd_f c1 hm
      refine sw_skip ?_
      refine then_n ?_
      refine sw_seq ?_
      -- region 5 epoch.go:147
      refine sw_region [(0, 0), (1, 0), (2, 0), (3, 0), (4, 0), (5, 0)] rfl rfl rfl ?_
      refine sd_vv rfl rfl rfl (vv_fieldAddr fa_28_0 rfl) ?_
      have B28 := (Bx.kz (Bx.md (Bx.gr (Bx.md (Bx.gr (Bx.gr Bw4 Gw5) Gw6) Mw7) Gw8) Mw9) Kw10)
      refine sd_vv rfl rfl rfl (vv_load1 (v := bv p1.Kind) one_5 rfl B28 rfl) ?_
      by_cases c2 : (un8 p1.Kind = 1 ∨ un8 p1.Kind = 2 ∨ un8 p1.Kind = 3)
      ·
        replace hm := ite_t c2 hm
        refine sd_vv rfl rfl rfl (vv_ixJ Tryz.underlying206 (agg_122).siz rfl rfl (by omega)) ?_
        have B29 := (Bx.kz Bw9 Kw10)
        refine sd_vv rfl rfl rfl (vv_loadM (vs := [.func (.func 121) #[] #[], .func (.func 137) #[] #[], .func (.func 53) #[] #[], .func (.func 138) #[] #[]]) agg_122 rfl B29 (by rcases c2 with h | h | h <;> rw [h] <;> rfl) rfl) ?_
        refine sd_ev rfl rfl rfl (ev_alloc (cs := [.nilFunc, .nilFunc, .nilFunc, .nilFunc]) zv_122 rfl) ?_
        rintro _ w15 ⟨b15, rfl, hbw15, Bw15, Gw15⟩
        have z30 := Gw15.size
        have lt31 := Bw15.lt
        refine sd_ev rfl rfl rfl (ev_stM (cs' := [.func (.func 121) #[] #[], .func (.func 137) #[] #[], .func (.func 53) #[] #[], .func (.func 138) #[] #[]]) (vs := [.func (.func 121) #[] #[], .func (.func 137) #[] #[], .func (.func 53) #[] #[], .func (.func 138) #[] #[]]) (agg_122).siz rfl rfl rfl rfl rfl Bw15 rfl rfl) ?_
        rintro _ w16 ⟨Bw16, Mw16⟩
        have z32 := Mw16.size
        refine sd_done ?_
        refine sw_seq ?_
        -- region 6 epoch.go:148 DRAWS
        refine sw_drawN [([b5])] [] (.leaf [(0, 10), (1, 10), (2, 10), (3, 10), (4, 0), (5, 0), (6, 10)]) (by kernel_rfl) (by kernel_rfl) rfl (by kernel_rfl) ?_
        intro w17 Gw17 zw17
        refine sdz_leaf ?_
        have B33 := (Bx.gr Bw16 Gw17)
        refine dd_hn 0 rfl rfl rfl rfl (Kp.refl ([b5]) w17) (fun w hS => vv_loadM (vs := [.func (.func 121) #[] #[], .func (.func 137) #[] #[], .func (.func 53) #[] #[], .func (.func 138) #[] #[]]) agg_122 rfl (Bx.kp B33 hS) rfl rfl) ?_
        refine dd_hn 0 rfl rfl rfl rfl (Kp.refl ([b5]) w17) (fun w hS => vv_fieldAddr fa_122_0 rfl) ?_
        refine dd_hn 0 rfl rfl rfl rfl (Kp.refl ([b5]) w17) (fun w hS => vv_load1 (v := .func (.func 121) #[] #[]) one_40 rfl (Bx.kp B33 hS) rfl) ?_
        have B34 := (Bx.gr (Bx.md (Bx.gr B28 Gw15) Mw16) Gw17)
        refine dd_hn 0 rfl rfl rfl rfl (Kp.refl ([b5]) w17) (fun w hS => vv_loadW agg_28 rfl (Bx.kp B34 hS) rfl) ?_
        have hb := bnd hm; clear hm; obtain ⟨x2, hx2, hm⟩ := hb
        refine dd_z [] rfl rfl rfl (ev_callV en_121 rfl rfl (cover_Check_w p1 _ hx2 _)) ⟨fun _ => tk0, trivial⟩ ?_
        rintro _ w18 ⟨rfl, Gw18⟩
        have z35 := Gw18.size
        refine ⟨Kz.ofGr Gw18, ?_⟩
        have B36 := (Bx.gr (Bx.gr (Bx.md (Bx.gr (Bx.kz (Bx.md (Bx.gr (Bx.md (Bx.gr Bw5 Gw6) Mw7) Gw8) Mw9) Kw10) Gw15) Mw16) Gw17) Gw18)
        refine dd_z [(1, b5)] rfl rfl rfl (ev_stM (cs' := [.func (.func 121) #[] #[], .func (.func 137) #[] #[], .func (.func 53) #[] #[], .func (.func 138) #[] #[]]) (vs := [.func (.func 121) #[] #[], .func (.func 137) #[] #[], .func (.func 53) #[] #[], .func (.func 138) #[] #[]]) (agg_122).siz rfl rfl rfl rfl rfl B36 rfl rfl) ⟨fun _ => tk0, trivial⟩ ?_
        rintro _ w19 ⟨Bw19, Mw19⟩
        have z37 := Mw19.size
        refine ⟨Kz.ofMd Mw19, ?_⟩
        have S38 := (Kp.md (Kp.gr (Kp.refl ([b5]) w17) Gw18) Mw19)
        refine dd_hn 0 rfl rfl rfl rfl S38 (fun w hS => vv_assign rfl) ?_
        refine sd_done ?_
        refine sw_ret ?_
        refine ⟨_, _, rfl, res_2 rfl (rv_cellW agg_122 rfl Bw19 rfl) (rv_tmp rfl), ?_⟩
        refine sd_vv rfl rfl rfl (vv_move rfl) ?_
        refine sd_vv rfl rfl rfl (vv_extract rfl rfl) ?_
        refine sd_vv rfl rfl rfl (vv_extract rfl rfl) ?_
        refine sd_ev rfl rfl rfl (ev_alloc (cs := [.nilFunc, .nilFunc, .nilFunc, .nilFunc]) zv_122 rfl) ?_
        rintro _ w20 ⟨b20, rfl, hbw20, Bw20, Gw20⟩
        have z39 := Gw20.size
        have lt40 := Bw20.lt
        refine sd_ev rfl rfl rfl (ev_stM (cs' := [.func (.func 121) #[] #[], .func (.func 137) #[] #[], .func (.func 53) #[] #[], .func (.func 138) #[] #[]]) (vs := [.func (.func 121) #[] #[], .func (.func 137) #[] #[], .func (.func 53) #[] #[], .func (.func 138) #[] #[]]) (agg_122).siz rfl rfl rfl rfl rfl Bw20 rfl rfl) ?_
        rintro _ w21 ⟨Bw21, Mw21⟩
        have z41 := Mw21.size
        refine sd_vv rfl rfl rfl (vv_assign rfl) ?_
        refine sd_done ?_
        refine sw_seq ?_
        refine sw_seq ?_
        -- region 2 epoch.go:160
        refine sw_region [(0, 0), (1, 0)] rfl rfl rfl ?_
        refine sd_vv rfl rfl rfl (vv_move rfl) ?_
        refine sd_vv rfl rfl rfl (vv_neq (a := x2) (b := 0) rfl rfl) ?_
        refine sd_done ?_
        refine sw_cond rfl (fun c3 => ?_) (fun c3 => ?_)
        ·
          replace hm := ite_t (of_decide_eq_true c3) hm
          refine sw_seq ?_
          -- region 3 epoch.go:161
          refine sw_region [(0, 0), (1, 0), (2, 0), (3, 0)] rfl rfl rfl ?_
          refine sd_vv rfl rfl rfl (vv_build (cs := TSecret.cs (TSecret.mk 0 [] (TPoint.mk 0#64 0#64)) (.slice none 0 0)) bs_33 rfl rfl) ?_
          refine sd_vv rfl rfl rfl (vv_move rfl) ?_
          have B42 := (Bx.md (Bx.gr (Bx.md (Bx.gr (Bx.gr (Bx.md (Bx.gr (Bx.kz (Bx.md (Bx.gr (Bx.md (Bx.gr (Bx.gr (Bx.gr Bw3 Gw4) Gw5) Gw6) Mw7) Gw8) Mw9) Kw10) Gw15) Mw16) Gw17) Gw18) Mw19) Gw20) Mw21)
          refine sd_ev rfl rfl rfl (ev_stM (cs' := TSecret.cs (TSecret.mk 0 [] (TPoint.mk 0#64 0#64)) (.slice none 0 0)) (vs := TSecret.cs (TSecret.mk 0 [] (TPoint.mk 0#64 0#64)) (.slice none 0 0)) (agg_33).siz rfl rfl rfl rfl (TSecret.cs_ones _ _ rfl) B42 rfl rfl) ?_
          rintro _ w22 ⟨Bw22, Mw22⟩
          have z43 := Mw22.size
          refine sd_vv rfl rfl rfl (vv_assign rfl) ?_
          refine sd_done ?_
          refine sw_ret ?_
          refine then_r ?_
          have X44 : Gr w w22 := (Gr.md (Gr.md (Gr.trans (Gr.md (Gr.trans (Gr.trans (Gr.md (Gr.trans (Gr.kz X18 Kw10) Gw15) Mw16) Gw17) Gw18) Mw19) Gw20) Mw21) Mw22)
          have hr := Option.some.inj hm
          subst hr
          refine ⟨_, _, rfl, res_2 rfl (rv_cellW agg_33 rfl Bw22 rfl) (rv_tmp rfl), ?_⟩
          exact ⟨(.slice none 0 0), 0, 0, rfl, (own_nil _ 0 92 18), ⟨.inl rfl⟩, X44⟩
        ·
          replace hm := ite_f (of_decide_eq_false c3) hm
          refine sw_skip ?_
          refine then_n ?_
          refine sw_seq ?_
          -- region 4 epoch.go:163
          refine sw_region [(0, 0), (1, 0), (2, 0), (3, 0), (4, 0), (5, 0), (6, 0), (7, 0), (8, 0), (9, 0)] rfl rfl rfl ?_
          refine sd_vv rfl rfl rfl (vv_fieldAddr fa_122_1 rfl) ?_
          refine sd_vv rfl rfl rfl (vv_load1 (v := .func (.func 137) #[] #[]) one_36 rfl Bw21 rfl) ?_
          have B45 := (Bx.md (Bx.gr (Bx.md (Bx.gr (Bx.gr (Bx.md (Bx.gr (Bx.kz (Bx.md (Bx.gr (Bx.md (Bx.gr (Bx.gr (Bx.gr (Bx.gr (Bx.gr Bw1 Gw2) Gw3) Gw4) Gw5) Gw6) Mw7) Gw8) Mw9) Kw10) Gw15) Mw16) Gw17) Gw18) Mw19) Gw20) Mw21)
          refine sd_vv rfl rfl rfl (vv_loadW agg_23 rfl B45 rfl) ?_
          have B46 := (Bx.md (Bx.gr (Bx.md (Bx.gr (Bx.gr (Bx.md (Bx.gr (Bx.kz (Bx.md (Bx.gr (Bx.md (Bx.gr (Bx.gr (Bx.gr B7 Gw4) Gw5) Gw6) Mw7) Gw8) Mw9) Kw10) Gw15) Mw16) Gw17) Gw18) Mw19) Gw20) Mw21)
          refine sd_vv rfl rfl rfl (vv_loadW agg_28 rfl B46 rfl) ?_
          refine sd_vv rfl rfl rfl (vv_move rfl) ?_
          have hb := bnd hm; clear hm; obtain ⟨x3, hx3, hm⟩ := hb
          refine sd_ev rfl rfl rfl (ev_callV en_137 rfl rfl (cover_Secret_w p0 p1 p2 _ hx3 _)) ?_
          rintro _ w23 ⟨u23_r0_1, z23_r0_1, g23_r0_1, rfl, O23_r0_1, f23_r0_1, Gw23⟩
          have z47 := Gw23.size
          have lt48 := O23_r0_1.lth
          refine sd_vv rfl rfl rfl (vv_extract rfl rfl) ?_
          refine sd_vv rfl rfl rfl (vv_extract rfl rfl) ?_
          have B49 := (Bx.gr (Bx.md (Bx.gr (Bx.md (Bx.gr (Bx.gr (Bx.md (Bx.gr (Bx.kz (Bx.md (Bx.gr (Bx.md (Bx.gr (Bx.gr (Bx.gr Bw3 Gw4) Gw5) Gw6) Mw7) Gw8) Mw9) Kw10) Gw15) Mw16) Gw17) Gw18) Mw19) Gw20) Mw21) Gw23)
          refine sd_ev rfl rfl rfl (ev_stM (cs' := TSecret.cs x3.1 u23_r0_1) (vs := TSecret.cs x3.1 u23_r0_1) (agg_33).siz rfl rfl rfl rfl (TSecret.cs_ones _ _ (Own.oneB O23_r0_1)) B49 rfl rfl) ?_
          rintro _ w24 ⟨Bw24, Mw24⟩
          have z50 := Mw24.size
          refine sd_vv rfl rfl rfl (vv_assign rfl) ?_
          refine sd_done ?_
          refine sw_ret ?_
          have B51 := (Own.md O23_r0_1 Mw24 (tk1 ((pv_0 (A := (fun x => x ≠ b3)) f23_r0_1) : z23_r0_1 = 0 ∨ g23_r0_1 ≠ b3)))
          have X52 : Gr w w24 := (Gr.md (Gr.trans (Gr.md (Gr.trans (Gr.md (Gr.trans (Gr.trans (Gr.md (Gr.trans (Gr.kz X18 Kw10) Gw15) Mw16) Gw17) Gw18) Mw19) Gw20) Mw21) Gw23) Mw24)
          have hr := Option.some.inj hm
          subst hr
          refine ⟨_, _, rfl, res_2 rfl (rv_cellW agg_33 rfl Bw24 rfl) (rv_tmp rfl), ?_⟩
          exact ⟨u23_r0_1, z23_r0_1, g23_r0_1, rfl, B51, ⟨(pv_0 (A := (fun x => w.heap.size ≤ x)) f23_r0_1)⟩, X52⟩
      ·
        replace hm := ite_f c2 hm
        by_cases c4 : (un8 p1.Kind = 4)
        ·
          replace hm := ite_t c4 hm
          refine sd_vv rfl rfl rfl (vv_ixJ Tryz.underlying206 (agg_122).siz rfl rfl (by omega)) ?_
          have B53 := (Bx.kz Bw9 Kw10)
          refine sd_vv rfl rfl rfl (vv_loadM (vs := [.func (.func 139) #[] #[], .func (.func 140) #[] #[], .func (.func 50) #[] #[], .func (.func 49) #[] #[]]) agg_122 rfl B53 (by rw [c4]; rfl) rfl) ?_
          refine sd_ev rfl rfl rfl (ev_alloc (cs := [.nilFunc, .nilFunc, .nilFunc, .nilFunc]) zv_122 rfl) ?_
          rintro _ w25 ⟨b25, rfl, hbw25, Bw25, Gw25⟩
          have z54 := Gw25.size
          have lt55 := Bw25.lt
          refine sd_ev rfl rfl rfl (ev_stM (cs' := [.func (.func 139) #[] #[], .func (.func 140) #[] #[], .func (.func 50) #[] #[], .func (.func 49) #[] #[]]) (vs := [.func (.func 139) #[] #[], .func (.func 140) #[] #[], .func (.func 50) #[] #[], .func (.func 49) #[] #[]]) (agg_122).siz rfl rfl rfl rfl rfl Bw25 rfl rfl) ?_
          rintro _ w26 ⟨Bw26, Mw26⟩
          have z56 := Mw26.size
          refine sd_done ?_
          refine sw_seq ?_
          -- region 6 epoch.go:148 DRAWS
          refine sw_drawN [([b5])] [] (.leaf [(0, 10), (1, 10), (2, 10), (3, 10), (4, 0), (5, 0), (6, 10)]) (by kernel_rfl) (by kernel_rfl) rfl (by kernel_rfl) ?_
          intro w27 Gw27 zw27
          refine sdz_leaf ?_
          have B57 := (Bx.gr Bw26 Gw27)
          refine dd_hn 0 rfl rfl rfl rfl (Kp.refl ([b5]) w27) (fun w hS => vv_loadM (vs := [.func (.func 139) #[] #[], .func (.func 140) #[] #[], .func (.func 50) #[] #[], .func (.func 49) #[] #[]]) agg_122 rfl (Bx.kp B57 hS) rfl rfl) ?_
          refine dd_hn 0 rfl rfl rfl rfl (Kp.refl ([b5]) w27) (fun w hS => vv_fieldAddr fa_122_0 rfl) ?_
          refine dd_hn 0 rfl rfl rfl rfl (Kp.refl ([b5]) w27) (fun w hS => vv_load1 (v := .func (.func 139) #[] #[]) one_40 rfl (Bx.kp B57 hS) rfl) ?_
          have B58 := (Bx.gr (Bx.md (Bx.gr B28 Gw25) Mw26) Gw27)
          refine dd_hn 0 rfl rfl rfl rfl (Kp.refl ([b5]) w27) (fun w hS => vv_loadW agg_28 rfl (Bx.kp B58 hS) rfl) ?_
          have hb := bnd hm; clear hm; obtain ⟨x4, hx4, hm⟩ := hb
          refine dd_z [] rfl rfl rfl (ev_callV en_139 rfl rfl (poly_Check_w p1 _ hx4 _)) ⟨fun _ => tk0, trivial⟩ ?_
          rintro _ w28 ⟨rfl, Gw28⟩
          have z59 := Gw28.size
          refine ⟨Kz.ofGr Gw28, ?_⟩
          have B60 := (Bx.gr (Bx.gr (Bx.md (Bx.gr (Bx.kz (Bx.md (Bx.gr (Bx.md (Bx.gr Bw5 Gw6) Mw7) Gw8) Mw9) Kw10) Gw25) Mw26) Gw27) Gw28)
          refine dd_z [(1, b5)] rfl rfl rfl (ev_stM (cs' := [.func (.func 139) #[] #[], .func (.func 140) #[] #[], .func (.func 50) #[] #[], .func (.func 49) #[] #[]]) (vs := [.func (.func 139) #[] #[], .func (.func 140) #[] #[], .func (.func 50) #[] #[], .func (.func 49) #[] #[]]) (agg_122).siz rfl rfl rfl rfl rfl B60 rfl rfl) ⟨fun _ => tk0, trivial⟩ ?_
          rintro _ w29 ⟨Bw29, Mw29⟩
          have z61 := Mw29.size
          refine ⟨Kz.ofMd Mw29, ?_⟩
          have S62 := (Kp.md (Kp.gr (Kp.refl ([b5]) w27) Gw28) Mw29)
          refine dd_hn 0 rfl rfl rfl rfl S62 (fun w hS => vv_assign rfl) ?_
          refine sd_done ?_
          refine sw_ret ?_
          refine ⟨_, _, rfl, res_2 rfl (rv_cellW agg_122 rfl Bw29 rfl) (rv_tmp rfl), ?_⟩
          refine sd_vv rfl rfl rfl (vv_move rfl) ?_
          refine sd_vv rfl rfl rfl (vv_extract rfl rfl) ?_
          refine sd_vv rfl rfl rfl (vv_extract rfl rfl) ?_
          refine sd_ev rfl rfl rfl (ev_alloc (cs := [.nilFunc, .nilFunc, .nilFunc, .nilFunc]) zv_122 rfl) ?_
          rintro _ w30 ⟨b30, rfl, hbw30, Bw30, Gw30⟩
          have z63 := Gw30.size
          have lt64 := Bw30.lt
          refine sd_ev rfl rfl rfl (ev_stM (cs' := [.func (.func 139) #[] #[], .func (.func 140) #[] #[], .func (.func 50) #[] #[], .func (.func 49) #[] #[]]) (vs := [.func (.func 139) #[] #[], .func (.func 140) #[] #[], .func (.func 50) #[] #[], .func (.func 49) #[] #[]]) (agg_122).siz rfl rfl rfl rfl rfl Bw30 rfl rfl) ?_
          rintro _ w31 ⟨Bw31, Mw31⟩
          have z65 := Mw31.size
          refine sd_vv rfl rfl rfl (vv_assign rfl) ?_
          refine sd_done ?_
          refine sw_seq ?_
          refine sw_seq ?_
          -- region 2 epoch.go:160
          refine sw_region [(0, 0), (1, 0)] rfl rfl rfl ?_
          refine sd_vv rfl rfl rfl (vv_move rfl) ?_
          refine sd_vv rfl rfl rfl (vv_neq (a := x4) (b := 0) rfl rfl) ?_
          refine sd_done ?_
          refine sw_cond rfl (fun c5 => ?_) (fun c5 => ?_)
          ·
            replace hm := ite_t (of_decide_eq_true c5) hm
            refine sw_seq ?_
            -- region 3 epoch.go:161
            refine sw_region [(0, 0), (1, 0), (2, 0), (3, 0)] rfl rfl rfl ?_
            refine sd_vv rfl rfl rfl (vv_build (cs := TSecret.cs (TSecret.mk 0 [] (TPoint.mk 0#64 0#64)) (.slice none 0 0)) bs_33 rfl rfl) ?_
            refine sd_vv rfl rfl rfl (vv_move rfl) ?_
            have B66 := (Bx.md (Bx.gr (Bx.md (Bx.gr (Bx.gr (Bx.md (Bx.gr (Bx.kz (Bx.md (Bx.gr (Bx.md (Bx.gr (Bx.gr (Bx.gr Bw3 Gw4) Gw5) Gw6) Mw7) Gw8) Mw9) Kw10) Gw25) Mw26) Gw27) Gw28) Mw29) Gw30) Mw31)
            refine sd_ev rfl rfl rfl (ev_stM (cs' := TSecret.cs (TSecret.mk 0 [] (TPoint.mk 0#64 0#64)) (.slice none 0 0)) (vs := TSecret.cs (TSecret.mk 0 [] (TPoint.mk 0#64 0#64)) (.slice none 0 0)) (agg_33).siz rfl rfl rfl rfl (TSecret.cs_ones _ _ rfl) B66 rfl rfl) ?_
            rintro _ w32 ⟨Bw32, Mw32⟩
            have z67 := Mw32.size
            refine sd_vv rfl rfl rfl (vv_assign rfl) ?_
            refine sd_done ?_
            refine sw_ret ?_
            refine then_r ?_
            have X68 : Gr w w32 := (Gr.md (Gr.md (Gr.trans (Gr.md (Gr.trans (Gr.trans (Gr.md (Gr.trans (Gr.kz X18 Kw10) Gw25) Mw26) Gw27) Gw28) Mw29) Gw30) Mw31) Mw32)
            have hr := Option.some.inj hm
            subst hr
            refine ⟨_, _, rfl, res_2 rfl (rv_cellW agg_33 rfl Bw32 rfl) (rv_tmp rfl), ?_⟩
            exact ⟨(.slice none 0 0), 0, 0, rfl, (own_nil _ 0 92 18), ⟨.inl rfl⟩, X68⟩
          ·
            replace hm := ite_f (of_decide_eq_false c5) hm
            refine sw_skip ?_
            refine then_n ?_
            refine sw_seq ?_
            -- region 4 epoch.go:163
            refine sw_region [(0, 0), (1, 0), (2, 0), (3, 0), (4, 0), (5, 0), (6, 0), (7, 0), (8, 0), (9, 0)] rfl rfl rfl ?_
            refine sd_vv rfl rfl rfl (vv_fieldAddr fa_122_1 rfl) ?_
            refine sd_vv rfl rfl rfl (vv_load1 (v := .func (.func 140) #[] #[]) one_36 rfl Bw31 rfl) ?_
            have B69 := (Bx.md (Bx.gr (Bx.md (Bx.gr (Bx.gr (Bx.md (Bx.gr (Bx.kz (Bx.md (Bx.gr (Bx.md (Bx.gr (Bx.gr (Bx.gr (Bx.gr (Bx.gr Bw1 Gw2) Gw3) Gw4) Gw5) Gw6) Mw7) Gw8) Mw9) Kw10) Gw25) Mw26) Gw27) Gw28) Mw29) Gw30) Mw31)
            refine sd_vv rfl rfl rfl (vv_loadW agg_23 rfl B69 rfl) ?_
            have B70 := (Bx.md (Bx.gr (Bx.md (Bx.gr (Bx.gr (Bx.md (Bx.gr (Bx.kz (Bx.md (Bx.gr (Bx.md (Bx.gr (Bx.gr (Bx.gr B7 Gw4) Gw5) Gw6) Mw7) Gw8) Mw9) Kw10) Gw25) Mw26) Gw27) Gw28) Mw29) Gw30) Mw31)
            refine sd_vv rfl rfl rfl (vv_loadW agg_28 rfl B70 rfl) ?_
            refine sd_vv rfl rfl rfl (vv_move rfl) ?_
            have hb := bnd hm; clear hm; obtain ⟨x5, hx5, hm⟩ := hb
            refine sd_ev rfl rfl rfl (ev_callV en_140 rfl rfl (poly_Secret_w p0 p1 p2 _ hx5 _)) ?_
            rintro _ w33 ⟨u33_r0_1, z33_r0_1, g33_r0_1, rfl, O33_r0_1, f33_r0_1, Gw33⟩
            have z71 := Gw33.size
            have lt72 := O33_r0_1.lth
            refine sd_vv rfl rfl rfl (vv_extract rfl rfl) ?_
            refine sd_vv rfl rfl rfl (vv_extract rfl rfl) ?_
            have B73 := (Bx.gr (Bx.md (Bx.gr (Bx.md (Bx.gr (Bx.gr (Bx.md (Bx.gr (Bx.kz (Bx.md (Bx.gr (Bx.md (Bx.gr (Bx.gr (Bx.gr Bw3 Gw4) Gw5) Gw6) Mw7) Gw8) Mw9) Kw10) Gw25) Mw26) Gw27) Gw28) Mw29) Gw30) Mw31) Gw33)
            refine sd_ev rfl rfl rfl (ev_stM (cs' := TSecret.cs x5.1 u33_r0_1) (vs := TSecret.cs x5.1 u33_r0_1) (agg_33).siz rfl rfl rfl rfl (TSecret.cs_ones _ _ (Own.oneB O33_r0_1)) B73 rfl rfl) ?_
            rintro _ w34 ⟨Bw34, Mw34⟩
            have z74 := Mw34.size
            refine sd_vv rfl rfl rfl (vv_assign rfl) ?_
            refine sd_done ?_
            refine sw_ret ?_
            have B75 := (Own.md O33_r0_1 Mw34 (tk1 ((pv_0 (A := (fun x => x ≠ b3)) f33_r0_1) : z33_r0_1 = 0 ∨ g33_r0_1 ≠ b3)))
            have X76 : Gr w w34 := (Gr.md (Gr.trans (Gr.md (Gr.trans (Gr.md (Gr.trans (Gr.trans (Gr.md (Gr.trans (Gr.kz X18 Kw10) Gw25) Mw26) Gw27) Gw28) Mw29) Gw30) Mw31) Gw33) Mw34)
            have hr := Option.some.inj hm
            subst hr
            refine ⟨_, _, rfl, res_2 rfl (rv_cellW agg_33 rfl Bw34 rfl) (rv_tmp rfl), ?_⟩
            exact ⟨u33_r0_1, z33_r0_1, g33_r0_1, rfl, B75, ⟨(pv_0 (A := (fun x => w.heap.size ≤ x)) f33_r0_1)⟩, X76⟩
        ·
          replace hm := ite_f c4 hm
          cases hm
  ·
    -- region 3 epoch.go:144
    refine sw_region [(0, 0), (1, 0), (2, 0), (3, 0), (4, 0), (5, 0), (6, 0), (7, 0), (8, 0)] rfl rfl rfl ?_
    refine sd_vv rfl rfl rfl (vv_fieldAddr fa_28_0 rfl) ?_
    have B77 := (Bx.md (Bx.gr (Bx.md (Bx.gr (Bx.gr Bw4 Gw5) Gw6) Mw7) Gw8) Mw9)
    refine sd_vv rfl rfl rfl (vv_load1 (v := bv p1.Kind) one_5 rfl B77 rfl) ?_
    refine sd_vv rfl rfl rfl (vv_lssB (p := p1.Kind) (q := 1#8) rfl rfl) ?_
    refine sd_split rfl rfl rfl (vv_move rfl) (fun c6 => ?_) (fun c6 => ?_)
    ·
      replace hm := ite_t (of_decide_eq_true c6) hm
      refine sd_skip rfl rfl rfl ?_
      refine sd_skip rfl rfl rfl ?_
      refine sd_skip rfl rfl rfl ?_
      refine sd_skip rfl rfl rfl ?_
      refine sd_vv rfl rfl rfl (vv_pickT rfl rfl) ?_
      refine sd_nil ?_
      have K_78 : Kz [] w9 w9 := (Kz.refl _ _)
      refine ⟨rfl, true, ?_, hm, K_78⟩
      repeat' first | exact trivial | refine ⟨rfl, ?_⟩
    ·
      replace hm := ite_f (of_decide_eq_false c6) hm
      refine sd_vv rfl rfl rfl (vv_fieldAddr fa_28_0 rfl) ?_
      refine sd_vv rfl rfl rfl (vv_load1 (v := bv p1.Kind) one_5 rfl B77 rfl) ?_
      refine sd_vv rfl rfl rfl (vv_cvBI cv_5_3 rfl) ?_
      refine sd_vv rfl rfl rfl (vv_geq (a := un8 p1.Kind) (b := 5) rfl rfl) ?_
      refine sd_vv rfl rfl rfl (vv_pickF rfl rfl) ?_
      refine sd_nil ?_
      have K_79 : Kz [] w9 w9 := (Kz.refl _ _)
      refine ⟨rfl, (decide ((5 : Int) ≤ un8 p1.Kind)), ?_, hm, K_79⟩
      repeat' first | exact trivial | refine ⟨rfl, ?_⟩

set_option maxHeartbeats 2000000 in
theorem epoch_CheckScheme_w (p0 : TScheme)  (r : Int) (hm : epoch_CheckScheme p0 = some r) (w : World)   :
    Calls Tryz.prog 19 [.agg (TScheme.cs p0).toArray].toArray w fun e w' => ∃ v, e = .returned v ∧ (v = .int .i64 r ∧ Gr w w') := by
  unfold epoch_CheckScheme at hm
  refine calls_of_sw (R := fun v w' => v = .int .i64 r ∧ Gr w w') 11 Tryz.func19 rfl rfl rfl ?_
  refine sw_seq ?_
  -- region 0 epoch.go:152
  refine sw_region [(0, 0), (1, 0)] rfl rfl rfl ?_
  refine sd_ev rfl rfl rfl (ev_box (cs := TScheme.cs p0) rfl rfl) ?_
  rintro _ w1 ⟨b1, rfl, hbw1, Bw1, Gw1⟩
  have z1 := Gw1.size
  have lt2 := Bw1.lt
  refine sd_vv rfl rfl rfl (vv_assign rfl) ?_
  refine sd_done ?_
  refine sw_seq ?_
  -- region 1 epoch.go:153
  refine sw_region [(0, 0), (1, 0), (2, 0), (3, 0), (4, 0), (5, 0), (6, 0), (7, 0)] rfl rfl rfl ?_
  refine sd_vv rfl rfl rfl (vv_loadW agg_28 rfl Bw1 rfl) ?_
  -- in place: headend/epoch.systemOf
  refine sd_inl 33 Tryz.func61 rfl rfl rfl en_61 rfl rfl rfl rfl rfl ?_
  refine sw_seq ?_
  -- region 0 epoch.go:141
  refine sw_region [(0, 0), (1, 0), (2, 0)] rfl rfl rfl ?_
  refine sd_ev rfl rfl rfl (ev_box (cs := TScheme.cs p0) rfl rfl) ?_
  rintro _ w2 ⟨b2, rfl, hbw2, Bw2, Gw2⟩
  have z3 := Gw2.size
  have lt4 := Bw2.lt
  refine sd_ev rfl rfl rfl (ev_alloc (cs := [.nilFunc, .nilFunc, .nilFunc, .nilFunc]) zv_122 rfl) ?_
  rintro _ w3 ⟨b3, rfl, hbw3, Bw3, Gw3⟩
  have z5 := Gw3.size
  have lt6 := Bw3.lt
  refine sd_vv rfl rfl rfl (vv_assign rfl) ?_
  refine sd_done ?_
  refine sw_seq ?_
  -- region 1 epoch.go:142
  refine sw_region [(0, 0), (1, 0), (2, 0)] rfl rfl rfl ?_
  refine sd_vv rfl rfl rfl (vv_build (cs := [.func (.func 121) #[] #[], .func (.func 137) #[] #[], .func (.func 53) #[] #[], .func (.func 138) #[] #[]]) bs_122 rfl rfl) ?_
  refine sd_ev rfl rfl rfl (ev_alloc (cs := [.nilFunc, .nilFunc, .nilFunc, .nilFunc]) zv_122 rfl) ?_
  rintro _ w4 ⟨b4, rfl, hbw4, Bw4, Gw4⟩
  have z7 := Gw4.size
  have lt8 := Bw4.lt
  refine sd_ev rfl rfl rfl (ev_stM (cs' := [.func (.func 121) #[] #[], .func (.func 137) #[] #[], .func (.func 53) #[] #[], .func (.func 138) #[] #[]]) (vs := [.func (.func 121) #[] #[], .func (.func 137) #[] #[], .func (.func 53) #[] #[], .func (.func 138) #[] #[]]) (agg_122).siz rfl rfl rfl rfl rfl Bw4 rfl rfl) ?_
  rintro _ w5 ⟨Bw5, Mw5⟩
  have z9 := Mw5.size
  refine sd_done ?_
  refine sw_seq ?_
  -- region 2 epoch.go:143
  refine sw_region [(0, 0), (1, 0), (2, 0), (3, 0), (4, 0), (5, 0), (6, 0), (7, 0)] rfl rfl rfl ?_
  refine sd_vv rfl rfl rfl (vv_build (cs := [.nilFunc, .nilFunc, .nilFunc, .nilFunc]) bs_122 rfl rfl) ?_
  refine sd_vv rfl rfl rfl (vv_loadM (vs := [.func (.func 121) #[] #[], .func (.func 137) #[] #[], .func (.func 53) #[] #[], .func (.func 138) #[] #[]]) agg_122 rfl Bw5 rfl rfl) ?_
  refine sd_vv rfl rfl rfl (vv_loadM (vs := [.func (.func 121) #[] #[], .func (.func 137) #[] #[], .func (.func 53) #[] #[], .func (.func 138) #[] #[]]) agg_122 rfl Bw5 rfl rfl) ?_
  refine sd_vv rfl rfl rfl (vv_loadM (vs := [.func (.func 121) #[] #[], .func (.func 137) #[] #[], .func (.func 53) #[] #[], .func (.func 138) #[] #[]]) agg_122 rfl Bw5 rfl rfl) ?_
  refine sd_vv rfl rfl rfl (vv_build (cs := [.func (.func 139) #[] #[], .func (.func 140) #[] #[], .func (.func 50) #[] #[], .func (.func 49) #[] #[]]) bs_122 rfl rfl) ?_
  refine sd_vv rfl rfl rfl (vv_buildA (cs := [.nilFunc, .nilFunc, .nilFunc, .nilFunc, .func (.func 121) #[] #[], .func (.func 137) #[] #[], .func (.func 53) #[] #[], .func (.func 138) #[] #[], .func (.func 121) #[] #[], .func (.func 137) #[] #[], .func (.func 53) #[] #[], .func (.func 138) #[] #[], .func (.func 121) #[] #[], .func (.func 137) #[] #[], .func (.func 53) #[] #[], .func (.func 138) #[] #[], .func (.func 139) #[] #[], .func (.func 140) #[] #[], .func (.func 50) #[] #[], .func (.func 49) #[] #[]]) ba_206 rfl rfl) ?_
  refine sd_ev rfl rfl rfl (ev_alloc (cs := [.nilFunc, .nilFunc, .nilFunc, .nilFunc, .nilFunc, .nilFunc, .nilFunc, .nilFunc, .nilFunc, .nilFunc, .nilFunc, .nilFunc, .nilFunc, .nilFunc, .nilFunc, .nilFunc, .nilFunc, .nilFunc, .nilFunc, .nilFunc]) zv_206 rfl) ?_
  rintro _ w6 ⟨b6, rfl, hbw6, Bw6, Gw6⟩
  have z10 := Gw6.size
  have lt11 := Bw6.lt
  refine sd_ev rfl rfl rfl (ev_stM (cs' := [.nilFunc, .nilFunc, .nilFunc, .nilFunc, .func (.func 121) #[] #[], .func (.func 137) #[] #[], .func (.func 53) #[] #[], .func (.func 138) #[] #[], .func (.func 121) #[] #[], .func (.func 137) #[] #[], .func (.func 53) #[] #[], .func (.func 138) #[] #[], .func (.func 121) #[] #[], .func (.func 137) #[] #[], .func (.func 53) #[] #[], .func (.func 138) #[] #[], .func (.func 139) #[] #[], .func (.func 140) #[] #[], .func (.func 50) #[] #[], .func (.func 49) #[] #[]]) (vs := [.nilFunc, .nilFunc, .nilFunc, .nilFunc, .func (.func 121) #[] #[], .func (.func 137) #[] #[], .func (.func 53) #[] #[], .func (.func 138) #[] #[], .func (.func 121) #[] #[], .func (.func 137) #[] #[], .func (.func 53) #[] #[], .func (.func 138) #[] #[], .func (.func 121) #[] #[], .func (.func 137) #[] #[], .func (.func 53) #[] #[], .func (.func 138) #[] #[], .func (.func 139) #[] #[], .func (.func 140) #[] #[], .func (.func 50) #[] #[], .func (.func 49) #[] #[]]) (agg_206).siz rfl rfl rfl rfl rfl Bw6 rfl rfl) ?_
  rintro _ w7 ⟨Bw7, Mw7⟩
  have z12 := Mw7.size
  refine sd_done ?_
  refine sw_seq ?_
  have X13 : Gr w w7 := (Gr.md (Gr.trans (Gr.md (Gr.trans (Gr.trans (Gr.trans (Gr.trans (Gr.refl w) Gw1) Gw2) Gw3) Gw4) Mw5) Gw6) Mw7)
  refine sw_joinD (β := Bool) [14, 15, 16, 17, 18, 19, 20, 21, 22] (fun a1 => [(22, .bool a1)]) (fun a1 wr => (epoch_CheckScheme_J1 p0 a1 = some r) ∧ Kz [] w7 wr) ?_ ?_
  · clear hm; rintro a1 w8 ⟨hm, Kw8⟩
    have z14 := Kw8.size
    unfold epoch_CheckScheme_J1 at hm
    refine sw_cond rfl (fun c1 => ?_) (fun c1 => ?_)
    ·
      replace hm := cnd_t c1 hm
      refine sw_seq ?_
      -- region 4 epoch.go:145
      refine sw_region [(0, 0), (1, 0), (2, 0)] rfl rfl rfl ?_
      refine sd_vv rfl rfl rfl (vv_build (cs := [.nilFunc, .nilFunc, .nilFunc, .nilFunc]) bs_122 rfl rfl) ?_
      have B15 := (Bx.kz (Bx.md (Bx.gr (Bx.md (Bx.gr Bw3 Gw4) Mw5) Gw6) Mw7) Kw8)
      refine sd_ev rfl rfl rfl (ev_stM (cs' := [.nilFunc, .nilFunc, .nilFunc, .nilFunc]) (vs := [.nilFunc, .nilFunc, .nilFunc, .nilFunc]) (agg_122).siz rfl rfl rfl rfl rfl B15 rfl rfl) ?_
      rintro _ w9 ⟨Bw9, Mw9⟩
      have z16 := Mw9.size
      refine sd_vv rfl rfl rfl (vv_assign rfl) ?_
      refine sd_done ?_
      refine sw_ret ?_
      refine then_r ?_
      refine ⟨_, _, rfl, res_2 rfl (rv_cellW agg_122 rfl Bw9 rfl) (rv_tmp rfl), ?_⟩
      refine sd_vv rfl rfl rfl (vv_move rfl) ?_
      refine sd_vv rfl rfl rfl (vv_extract rfl rfl) ?_
      refine sd_vv rfl rfl rfl (vv_extract rfl rfl) ?_
      refine sd_ev rfl rfl rfl (ev_alloc (cs := [.nilFunc, .nilFunc, .nilFunc, .nilFunc]) zv_122 rfl) ?_
      rintro _ w10 ⟨b10, rfl, hbw10, Bw10, Gw10⟩
      have z17 := Gw10.size
      have lt18 := Bw10.lt
      refine sd_ev rfl rfl rfl (ev_stM (cs' := [.nilFunc, .nilFunc, .nilFunc, .nilFunc]) (vs := [.nilFunc, .nilFunc, .nilFunc, .nilFunc]) (agg_122).siz rfl rfl rfl rfl rfl Bw10 rfl rfl) ?_
      rintro _ w11 ⟨Bw11, Mw11⟩
      have z19 := Mw11.size
      refine sd_vv rfl rfl rfl (vv_assign rfl) ?_
      refine sd_done ?_
      refine sw_seq ?_
      -- region 2 epoch.go:154
      refine sw_region [(0, 0), (1, 0)] rfl rfl rfl ?_
      refine sd_vv rfl rfl rfl (vv_move rfl) ?_
      refine sd_vv rfl rfl rfl (vv_assign rfl) ?_
      refine sd_done ?_
      refine sw_ret ?_
      have X20 : Gr w w11 := (Gr.md (Gr.trans (Gr.md (Gr.kz X13 Kw8) Mw9) Gw10) Mw11)
      have hr := Option.some.inj hm
      subst hr
      refine ⟨_, _, rfl, res_1 rfl (rv_tmp rfl), ?_⟩
      exact ⟨rfl, X20⟩
    ·
      replace hm := cnd_f c1 hm
      refine sw_skip ?_
      refine then_n ?_
      refine sw_seq ?_
      -- region 5 epoch.go:147
      refine sw_region [(0, 0), (1, 0), (2, 0), (3, 0), (4, 0), (5, 0)] rfl rfl rfl ?_
      refine sd_vv rfl rfl rfl (vv_fieldAddr fa_28_0 rfl) ?_
      have B21 := (Bx.kz (Bx.md (Bx.gr (Bx.md (Bx.gr (Bx.gr Bw2 Gw3) Gw4) Mw5) Gw6) Mw7) Kw8)
      refine sd_vv rfl rfl rfl (vv_load1 (v := bv p0.Kind) one_5 rfl B21 rfl) ?_
      by_cases c2 : (un8 p0.Kind = 1 ∨ un8 p0.Kind = 2 ∨ un8 p0.Kind = 3)
      ·
        replace hm := ite_t c2 hm
        refine sd_vv rfl rfl rfl (vv_ixJ Tryz.underlying206 (agg_122).siz rfl rfl (by omega)) ?_
        have B22 := (Bx.kz Bw7 Kw8)
        refine sd_vv rfl rfl rfl (vv_loadM (vs := [.func (.func 121) #[] #[], .func (.func 137) #[] #[], .func (.func 53) #[] #[], .func (.func 138) #[] #[]]) agg_122 rfl B22 (by rcases c2 with h | h | h <;> rw [h] <;> rfl) rfl) ?_
        refine sd_ev rfl rfl rfl (ev_alloc (cs := [.nilFunc, .nilFunc, .nilFunc, .nilFunc]) zv_122 rfl) ?_
        rintro _ w12 ⟨b12, rfl, hbw12, Bw12, Gw12⟩
        have z23 := Gw12.size
        have lt24 := Bw12.lt
        refine sd_ev rfl rfl rfl (ev_stM (cs' := [.func (.func 121) #[] #[], .func (.func 137) #[] #[], .func (.func 53) #[] #[], .func (.func 138) #[] #[]]) (vs := [.func (.func 121) #[] #[], .func (.func 137) #[] #[], .func (.func 53) #[] #[], .func (.func 138) #[] #[]]) (agg_122).siz rfl rfl rfl rfl rfl Bw12 rfl rfl) ?_
        rintro _ w13 ⟨Bw13, Mw13⟩
        have z25 := Mw13.size
        refine sd_done ?_
        refine sw_seq ?_
        -- region 6 epoch.go:148 DRAWS
        refine sw_drawN [([b3])] [] (.leaf [(0, 10), (1, 10), (2, 10), (3, 10), (4, 0), (5, 0), (6, 10)]) (by kernel_rfl) (by kernel_rfl) rfl (by kernel_rfl) ?_
        intro w14 Gw14 zw14
        refine sdz_leaf ?_
        have B26 := (Bx.gr Bw13 Gw14)
        refine dd_hn 0 rfl rfl rfl rfl (Kp.refl ([b3]) w14) (fun w hS => vv_loadM (vs := [.func (.func 121) #[] #[], .func (.func 137) #[] #[], .func (.func 53) #[] #[], .func (.func 138) #[] #[]]) agg_122 rfl (Bx.kp B26 hS) rfl rfl) ?_
        refine dd_hn 0 rfl rfl rfl rfl (Kp.refl ([b3]) w14) (fun w hS => vv_fieldAddr fa_122_0 rfl) ?_
        refine dd_hn 0 rfl rfl rfl rfl (Kp.refl ([b3]) w14) (fun w hS => vv_load1 (v := .func (.func 121) #[] #[]) one_40 rfl (Bx.kp B26 hS) rfl) ?_
        have B27 := (Bx.gr (Bx.md (Bx.gr B21 Gw12) Mw13) Gw14)
        refine dd_hn 0 rfl rfl rfl rfl (Kp.refl ([b3]) w14) (fun w hS => vv_loadW agg_28 rfl (Bx.kp B27 hS) rfl) ?_
        have hb := bnd hm; clear hm; obtain ⟨x2, hx2, hm⟩ := hb
        refine dd_z [] rfl rfl rfl (ev_callV en_121 rfl rfl (cover_Check_w p0 _ hx2 _)) ⟨fun _ => tk0, trivial⟩ ?_
        rintro _ w15 ⟨rfl, Gw15⟩
        have z28 := Gw15.size
        refine ⟨Kz.ofGr Gw15, ?_⟩
        have B29 := (Bx.gr (Bx.gr (Bx.md (Bx.gr (Bx.kz (Bx.md (Bx.gr (Bx.md (Bx.gr Bw3 Gw4) Mw5) Gw6) Mw7) Kw8) Gw12) Mw13) Gw14) Gw15)
        refine dd_z [(1, b3)] rfl rfl rfl (ev_stM (cs' := [.func (.func 121) #[] #[], .func (.func 137) #[] #[], .func (.func 53) #[] #[], .func (.func 138) #[] #[]]) (vs := [.func (.func 121) #[] #[], .func (.func 137) #[] #[], .func (.func 53) #[] #[], .func (.func 138) #[] #[]]) (agg_122).siz rfl rfl rfl rfl rfl B29 rfl rfl) ⟨fun _ => tk0, trivial⟩ ?_
        rintro _ w16 ⟨Bw16, Mw16⟩
        have z30 := Mw16.size
        refine ⟨Kz.ofMd Mw16, ?_⟩
        have S31 := (Kp.md (Kp.gr (Kp.refl ([b3]) w14) Gw15) Mw16)
        refine dd_hn 0 rfl rfl rfl rfl S31 (fun w hS => vv_assign rfl) ?_
        refine sd_done ?_
        refine sw_ret ?_
        refine ⟨_, _, rfl, res_2 rfl (rv_cellW agg_122 rfl Bw16 rfl) (rv_tmp rfl), ?_⟩
        refine sd_vv rfl rfl rfl (vv_move rfl) ?_
        refine sd_vv rfl rfl rfl (vv_extract rfl rfl) ?_
        refine sd_vv rfl rfl rfl (vv_extract rfl rfl) ?_
        refine sd_ev rfl rfl rfl (ev_alloc (cs := [.nilFunc, .nilFunc, .nilFunc, .nilFunc]) zv_122 rfl) ?_
        rintro _ w17 ⟨b17, rfl, hbw17, Bw17, Gw17⟩
        have z32 := Gw17.size
        have lt33 := Bw17.lt
        refine sd_ev rfl rfl rfl (ev_stM (cs' := [.func (.func 121) #[] #[], .func (.func 137) #[] #[], .func (.func 53) #[] #[], .func (.func 138) #[] #[]]) (vs := [.func (.func 121) #[] #[], .func (.func 137) #[] #[], .func (.func 53) #[] #[], .func (.func 138) #[] #[]]) (agg_122).siz rfl rfl rfl rfl rfl Bw17 rfl rfl) ?_
        rintro _ w18 ⟨Bw18, Mw18⟩
        have z34 := Mw18.size
        refine sd_vv rfl rfl rfl (vv_assign rfl) ?_
        refine sd_done ?_
        refine sw_seq ?_
        -- region 2 epoch.go:154
        refine sw_region [(0, 0), (1, 0)] rfl rfl rfl ?_
        refine sd_vv rfl rfl rfl (vv_move rfl) ?_
        refine sd_vv rfl rfl rfl (vv_assign rfl) ?_
        refine sd_done ?_
        refine sw_ret ?_
        have X35 : Gr w w18 := (Gr.md (Gr.trans (Gr.md (Gr.trans (Gr.trans (Gr.md (Gr.trans (Gr.kz X13 Kw8) Gw12) Mw13) Gw14) Gw15) Mw16) Gw17) Mw18)
        have hr := Option.some.inj hm
        subst hr
        refine ⟨_, _, rfl, res_1 rfl (rv_tmp rfl), ?_⟩
        exact ⟨rfl, X35⟩
      ·
        replace hm := ite_f c2 hm
        by_cases c3 : (un8 p0.Kind = 4)
        ·
          replace hm := ite_t c3 hm
          refine sd_vv rfl rfl rfl (vv_ixJ Tryz.underlying206 (agg_122).siz rfl rfl (by omega)) ?_
          have B36 := (Bx.kz Bw7 Kw8)
          refine sd_vv rfl rfl rfl (vv_loadM (vs := [.func (.func 139) #[] #[], .func (.func 140) #[] #[], .func (.func 50) #[] #[], .func (.func 49) #[] #[]]) agg_122 rfl B36 (by rw [c3]; rfl) rfl) ?_
          refine sd_ev rfl rfl rfl (ev_alloc (cs := [.nilFunc, .nilFunc, .nilFunc, .nilFunc]) zv_122 rfl) ?_
          rintro _ w19 ⟨b19, rfl, hbw19, Bw19, Gw19⟩
          have z37 := Gw19.size
          have lt38 := Bw19.lt
          refine sd_ev rfl rfl rfl (ev_stM (cs' := [.func (.func 139) #[] #[], .func (.func 140) #[] #[], .func (.func 50) #[] #[], .func (.func 49) #[] #[]]) (vs := [.func (.func 139) #[] #[], .func (.func 140) #[] #[], .func (.func 50) #[] #[], .func (.func 49) #[] #[]]) (agg_122).siz rfl rfl rfl rfl rfl Bw19 rfl rfl) ?_
          rintro _ w20 ⟨Bw20, Mw20⟩
          have z39 := Mw20.size
          refine sd_done ?_
          refine sw_seq ?_
          -- region 6 epoch.go:148 DRAWS
          refine sw_drawN [([b3])] [] (.leaf [(0, 10), (1, 10), (2, 10), (3, 10), (4, 0), (5, 0), (6, 10)]) (by kernel_rfl) (by kernel_rfl) rfl (by kernel_rfl) ?_
          intro w21 Gw21 zw21
          refine sdz_leaf ?_
          have B40 := (Bx.gr Bw20 Gw21)
          refine dd_hn 0 rfl rfl rfl rfl (Kp.refl ([b3]) w21) (fun w hS => vv_loadM (vs := [.func (.func 139) #[] #[], .func (.func 140) #[] #[], .func (.func 50) #[] #[], .func (.func 49) #[] #[]]) agg_122 rfl (Bx.kp B40 hS) rfl rfl) ?_
          refine dd_hn 0 rfl rfl rfl rfl (Kp.refl ([b3]) w21) (fun w hS => vv_fieldAddr fa_122_0 rfl) ?_
          refine dd_hn 0 rfl rfl rfl rfl (Kp.refl ([b3]) w21) (fun w hS => vv_load1 (v := .func (.func 139) #[] #[]) one_40 rfl (Bx.kp B40 hS) rfl) ?_
          have B41 := (Bx.gr (Bx.md (Bx.gr B21 Gw19) Mw20) Gw21)
          refine dd_hn 0 rfl rfl rfl rfl (Kp.refl ([b3]) w21) (fun w hS => vv_loadW agg_28 rfl (Bx.kp B41 hS) rfl) ?_
          have hb := bnd hm; clear hm; obtain ⟨x3, hx3, hm⟩ := hb
          refine dd_z [] rfl rfl rfl (ev_callV en_139 rfl rfl (poly_Check_w p0 _ hx3 _)) ⟨fun _ => tk0, trivial⟩ ?_
          rintro _ w22 ⟨rfl, Gw22⟩
          have z42 := Gw22.size
          refine ⟨Kz.ofGr Gw22, ?_⟩
          have B43 := (Bx.gr (Bx.gr (Bx.md (Bx.gr (Bx.kz (Bx.md (Bx.gr (Bx.md (Bx.gr Bw3 Gw4) Mw5) Gw6) Mw7) Kw8) Gw19) Mw20) Gw21) Gw22)
          refine dd_z [(1, b3)] rfl rfl rfl (ev_stM (cs' := [.func (.func 139) #[] #[], .func (.func 140) #[] #[], .func (.func 50) #[] #[], .func (.func 49) #[] #[]]) (vs := [.func (.func 139) #[] #[], .func (.func 140) #[] #[], .func (.func 50) #[] #[], .func (.func 49) #[] #[]]) (agg_122).siz rfl rfl rfl rfl rfl B43 rfl rfl) ⟨fun _ => tk0, trivial⟩ ?_
          rintro _ w23 ⟨Bw23, Mw23⟩
          have z44 := Mw23.size
          refine ⟨Kz.ofMd Mw23, ?_⟩
          have S45 := (Kp.md (Kp.gr (Kp.refl ([b3]) w21) Gw22) Mw23)
          refine dd_hn 0 rfl rfl rfl rfl S45 (fun w hS => vv_assign rfl) ?_
          refine sd_done ?_
          refine sw_ret ?_
          refine ⟨_, _, rfl, res_2 rfl (rv_cellW agg_122 rfl Bw23 rfl) (rv_tmp rfl), ?_⟩
          refine sd_vv rfl rfl rfl (vv_move rfl) ?_
          refine sd_vv rfl rfl rfl (vv_extract rfl rfl) ?_
          refine sd_vv rfl rfl rfl (vv_extract rfl rfl) ?_
          refine sd_ev rfl rfl rfl (ev_alloc (cs := [.nilFunc, .nilFunc, .nilFunc, .nilFunc]) zv_122 rfl) ?_
          rintro _ w24 ⟨b24, rfl, hbw24, Bw24, Gw24⟩
          have z46 := Gw24.size
          have lt47 := Bw24.lt
          refine sd_ev rfl rfl rfl (ev_stM (cs' := [.func (.func 139) #[] #[], .func (.func 140) #[] #[], .func (.func 50) #[] #[], .func (.func 49) #[] #[]]) (vs := [.func (.func 139) #[] #[], .func (.func 140) #[] #[], .func (.func 50) #[] #[], .func (.func 49) #[] #[]]) (agg_122).siz rfl rfl rfl rfl rfl Bw24 rfl rfl) ?_
          rintro _ w25 ⟨Bw25, Mw25⟩
          have z48 := Mw25.size
          refine sd_vv rfl rfl rfl (vv_assign rfl) ?_
          refine sd_done ?_
          refine sw_seq ?_
          -- region 2 epoch.go:154
          refine sw_region [(0, 0), (1, 0)] rfl rfl rfl ?_
          refine sd_vv rfl rfl rfl (vv_move rfl) ?_
          refine sd_vv rfl rfl rfl (vv_assign rfl) ?_
          refine sd_done ?_
          refine sw_ret ?_
          have X49 : Gr w w25 := (Gr.md (Gr.trans (Gr.md (Gr.trans (Gr.trans (Gr.md (Gr.trans (Gr.kz X13 Kw8) Gw19) Mw20) Gw21) Gw22) Mw23) Gw24) Mw25)
          have hr := Option.some.inj hm
          subst hr
          refine ⟨_, _, rfl, res_1 rfl (rv_tmp rfl), ?_⟩
          exact ⟨rfl, X49⟩
        ·
          replace hm := ite_f c3 hm
          cases hm
  ·
    -- region 3 epoch.go:144
    refine sw_region [(0, 0), (1, 0), (2, 0), (3, 0), (4, 0), (5, 0), (6, 0), (7, 0), (8, 0)] rfl rfl rfl ?_
    refine sd_vv rfl rfl rfl (vv_fieldAddr fa_28_0 rfl) ?_
    have B50 := (Bx.md (Bx.gr (Bx.md (Bx.gr (Bx.gr Bw2 Gw3) Gw4) Mw5) Gw6) Mw7)
    refine sd_vv rfl rfl rfl (vv_load1 (v := bv p0.Kind) one_5 rfl B50 rfl) ?_
    refine sd_vv rfl rfl rfl (vv_lssB (p := p0.Kind) (q := 1#8) rfl rfl) ?_
    refine sd_split rfl rfl rfl (vv_move rfl) (fun c4 => ?_) (fun c4 => ?_)
    ·
      replace hm := ite_t (of_decide_eq_true c4) hm
      refine sd_skip rfl rfl rfl ?_
      refine sd_skip rfl rfl rfl ?_
      refine sd_skip rfl rfl rfl ?_
      refine sd_skip rfl rfl rfl ?_
      refine sd_vv rfl rfl rfl (vv_pickT rfl rfl) ?_
      refine sd_nil ?_
      have K_51 : Kz [] w7 w7 := (Kz.refl _ _)
      refine ⟨rfl, true, ?_, hm, K_51⟩
      repeat' first | exact trivial | refine ⟨rfl, ?_⟩
    ·
      replace hm := ite_f (of_decide_eq_false c4) hm
      refine sd_vv rfl rfl rfl (vv_fieldAddr fa_28_0 rfl) ?_
      refine sd_vv rfl rfl rfl (vv_load1 (v := bv p0.Kind) one_5 rfl B50 rfl) ?_
      refine sd_vv rfl rfl rfl (vv_cvBI cv_5_3 rfl) ?_
      refine sd_vv rfl rfl rfl (vv_geq (a := un8 p0.Kind) (b := 5) rfl rfl) ?_
      refine sd_vv rfl rfl rfl (vv_pickF rfl rfl) ?_
      refine sd_nil ?_
      have K_52 : Kz [] w7 w7 := (Kz.refl _ _)
      refine ⟨rfl, (decide ((5 : Int) ≤ un8 p0.Kind)), ?_, hm, K_52⟩
      repeat' first | exact trivial | refine ⟨rfl, ?_⟩

set_option maxHeartbeats 2000000 in
theorem epoch_Session_w (p0 : W2) (p1 : Int)  (r : W2) (hm : epoch_Session p0 p1 = some r) (w : World)   :
    Calls Tryz.prog 15 [kv p0, .int .i64 p1].toArray w fun e w' => ∃ v, e = .returned v ∧ (v = kv r ∧ Gr w w') := by
  unfold epoch_Session at hm
  refine calls_of_sw (R := fun v w' => v = kv r ∧ Gr w w') 9 Tryz.func15 rfl rfl rfl ?_
  refine sw_seq ?_
  -- region 0 epoch.go:114
  refine sw_region [(0, 0), (1, 0)] rfl rfl rfl ?_
  refine sd_ev rfl rfl rfl (ev_box (cs := kb p0) rfl rfl) ?_
  rintro _ w1 ⟨b1, rfl, hbw1, Bw1, Gw1⟩
  have z1 := Gw1.size
  have lt2 := Bw1.lt
  refine sd_ev rfl rfl rfl (ev_alloc (cs := kb k0) zv_23 rfl) ?_
  rintro _ w2 ⟨b2, rfl, hbw2, Bw2, Gw2⟩
  have z3 := Gw2.size
  have lt4 := Bw2.lt
  refine sd_done ?_
  refine sw_seq ?_
  -- region 1 epoch.go:115
  refine sw_region [(0, 0), (1, 0), (2, 0), (3, 0), (4, 0)] rfl rfl rfl ?_
  have B5 := (Bx.gr Bw1 Gw2)
  refine sd_vv rfl rfl rfl (vv_loadW agg_23 rfl B5 rfl) ?_
  refine sd_vv rfl rfl rfl (vv_move rfl) ?_
  refine sd_vv rfl rfl rfl (vv_cvIU cv_3_24 rfl) ?_
  refine sd_ev rfl rfl rfl (ev_call en_48 rfl (derive_c p0 (un8 50#8) (un8_nn _) (un8_le _) (wd p1) _)) ?_
  rintro _ w3 ⟨rfl, Gw3⟩
  have z6 := Gw3.size
  have B7 := (Bx.gr Bw2 Gw3)
  refine sd_ev rfl rfl rfl (ev_stM (cs' := kb (drv p0 (un8 50#8) (wd p1))) (vs := kb (drv p0 (un8 50#8) (wd p1))) (agg_23).siz rfl rfl rfl rfl rfl B7 rfl (by obtain ⟨kk0, hk0⟩ := ex_of (drv p0 (un8 50#8) (wd p1)); rw [← hk0]; first | done | rfl)) ?_
  rintro _ w4 ⟨Bw4, Mw4⟩
  have z8 := Mw4.size
  refine sd_done ?_
  refine sw_ret ?_
  have X9 : Gr w w4 := (Gr.md (Gr.trans (Gr.trans (Gr.trans (Gr.refl w) Gw1) Gw2) Gw3) Mw4)
  have hr := Option.some.inj hm
  subst hr
  refine ⟨_, _, rfl, res_1 rfl (rv_cellW agg_23 rfl Bw4 rfl), ?_⟩
  exact ⟨rfl, X9⟩

set_option maxHeartbeats 2000000 in
theorem epoch_Word_w (p0 : W2) (p1 : Int)  (r : W2) (hm : epoch_Word p0 p1 = some r) (w : World)   :
    Calls Tryz.prog 17 [kv p0, .int .i64 p1].toArray w fun e w' => ∃ v, e = .returned v ∧ (v = kv r ∧ Gr w w') := by
  unfold epoch_Word at hm
  refine calls_of_sw (R := fun v w' => v = kv r ∧ Gr w w') 9 Tryz.func17 rfl rfl rfl ?_
  refine sw_seq ?_
  -- region 0 epoch.go:119
  refine sw_region [(0, 0), (1, 0)] rfl rfl rfl ?_
  refine sd_ev rfl rfl rfl (ev_box (cs := kb p0) rfl rfl) ?_
  rintro _ w1 ⟨b1, rfl, hbw1, Bw1, Gw1⟩
  have z1 := Gw1.size
  have lt2 := Bw1.lt
  refine sd_ev rfl rfl rfl (ev_alloc (cs := kb k0) zv_23 rfl) ?_
  rintro _ w2 ⟨b2, rfl, hbw2, Bw2, Gw2⟩
  have z3 := Gw2.size
  have lt4 := Bw2.lt
  refine sd_done ?_
  refine sw_seq ?_
  -- region 1 epoch.go:120
  refine sw_region [(0, 0), (1, 0), (2, 0), (3, 0), (4, 0)] rfl rfl rfl ?_
  have B5 := (Bx.gr Bw1 Gw2)
  refine sd_vv rfl rfl rfl (vv_loadW agg_23 rfl B5 rfl) ?_
  refine sd_vv rfl rfl rfl (vv_move rfl) ?_
  refine sd_vv rfl rfl rfl (vv_cvIU cv_3_24 rfl) ?_
  refine sd_ev rfl rfl rfl (ev_call en_48 rfl (derive_c p0 (un8 51#8) (un8_nn _) (un8_le _) (wd p1) _)) ?_
  rintro _ w3 ⟨rfl, Gw3⟩
  have z6 := Gw3.size
  have B7 := (Bx.gr Bw2 Gw3)
  refine sd_ev rfl rfl rfl (ev_stM (cs' := kb (drv p0 (un8 51#8) (wd p1))) (vs := kb (drv p0 (un8 51#8) (wd p1))) (agg_23).siz rfl rfl rfl rfl rfl B7 rfl (by obtain ⟨kk0, hk0⟩ := ex_of (drv p0 (un8 51#8) (wd p1)); rw [← hk0]; first | done | rfl)) ?_
  rintro _ w4 ⟨Bw4, Mw4⟩
  have z8 := Mw4.size
  refine sd_done ?_
  refine sw_ret ?_
  have X9 : Gr w w4 := (Gr.md (Gr.trans (Gr.trans (Gr.trans (Gr.refl w) Gw1) Gw2) Gw3) Mw4)
  have hr := Option.some.inj hm
  subst hr
  refine ⟨_, _, rfl, res_1 rfl (rv_cellW agg_23 rfl Bw4 rfl), ?_⟩
  exact ⟨rfl, X9⟩

set_option maxHeartbeats 2000000 in
theorem ref05_CheckScheme_w (p0 : TScheme)  (r : Int) (hm : ref05_CheckScheme p0 = some r) (w : World)   :
    Calls Tryz.prog 20 [.agg (TScheme.cs p0).toArray].toArray w fun e w' => ∃ v, e = .returned v ∧ (v = .int .i64 r ∧ Gr w w') := by
  unfold ref05_CheckScheme at hm
  refine calls_of_sw (R := fun v w' => v = .int .i64 r ∧ Gr w w') 18 Tryz.func20 rfl rfl rfl ?_
  refine sw_seq ?_
  -- region 0 ref.go:150
  refine sw_region [(0, 0), (1, 0)] rfl rfl rfl ?_
  refine sd_ev rfl rfl rfl (ev_box (cs := TScheme.cs p0) rfl rfl) ?_
  rintro _ w1 ⟨b1, rfl, hbw1, Bw1, Gw1⟩
  have z1 := Gw1.size
  have lt2 := Bw1.lt
  refine sd_vv rfl rfl rfl (vv_assign rfl) ?_
  refine sd_done ?_
  refine sw_seq ?_
  have X3 : Gr w w1 := (Gr.trans (Gr.refl w) Gw1)
  refine sw_joinD (β := Bool) [3, 4, 5, 6, 7, 8, 9, 10] (fun a1 => [(10, .bool a1)]) (fun a1 wr => (ref05_CheckScheme_J1 p0 a1 = some r) ∧ Kz [] w1 wr) ?_ ?_
  · clear hm; rintro a1 w2 ⟨hm, Kw2⟩
    have z4 := Kw2.size
    unfold ref05_CheckScheme_J1 at hm
    refine sw_cond rfl (fun c1 => ?_) (fun c1 => ?_)
    ·
      replace hm := cnd_t c1 hm
      refine sw_seq ?_
      -- region 2 ref.go:152
      refine sw_region [(0, 0), (1, 0), (2, 0)] rfl rfl rfl ?_
      have B5 := (Bx.kz Bw1 Kw2)
      refine sd_vv rfl rfl rfl (vv_loadW agg_28 rfl B5 rfl) ?_
      have hb := bnd hm; clear hm; obtain ⟨x2, hx2, hm⟩ := hb
      refine sd_ev rfl rfl rfl (ev_call en_65 rfl (ref03_Check_w p0 _ hx2 _)) ?_
      rintro _ w3 ⟨rfl, Gw3⟩
      have z6 := Gw3.size
      refine sd_vv rfl rfl rfl (vv_assign rfl) ?_
      refine sd_done ?_
      refine sw_ret ?_
      refine then_r ?_
      have X7 : Gr w w3 := (Gr.trans (Gr.kz X3 Kw2) Gw3)
      have hr := Option.some.inj hm
      subst hr
      refine ⟨_, _, rfl, res_1 rfl (rv_tmp rfl), ?_⟩
      exact ⟨rfl, X7⟩
    ·
      replace hm := cnd_f c1 hm
      refine sw_skip ?_
      refine then_n ?_
      refine sw_seq ?_
      refine sw_seq ?_
      -- region 3 ref.go:154
      refine sw_region [(0, 0), (1, 0), (2, 0)] rfl rfl rfl ?_
      refine sd_vv rfl rfl rfl (vv_fieldAddr fa_28_0 rfl) ?_
      have B8 := (Bx.kz Bw1 Kw2)
      refine sd_vv rfl rfl rfl (vv_load1 (v := bv p0.Kind) one_5 rfl B8 rfl) ?_
      refine sd_vv rfl rfl rfl (vv_eqlB (p := p0.Kind) (q := 4#8) rfl rfl) ?_
      refine sd_done ?_
      refine sw_cond rfl (fun c2 => ?_) (fun c2 => ?_)
      ·
        replace hm := ite_t (of_decide_eq_true c2) hm
        refine sw_seq ?_
        -- region 4 ref.go:155
        refine sw_region [(0, 0), (1, 0), (2, 0)] rfl rfl rfl ?_
        refine sd_vv rfl rfl rfl (vv_loadW agg_28 rfl B8 rfl) ?_
        have hb := bnd hm; clear hm; obtain ⟨x3, hx3, hm⟩ := hb
        refine sd_ev rfl rfl rfl (ev_call en_66 rfl (ref04_Check_w p0 _ hx3 _)) ?_
        rintro _ w4 ⟨rfl, Gw4⟩
        have z9 := Gw4.size
        refine sd_vv rfl rfl rfl (vv_assign rfl) ?_
        refine sd_done ?_
        refine sw_ret ?_
        refine then_r ?_
        have X10 : Gr w w4 := (Gr.trans (Gr.kz X3 Kw2) Gw4)
        have hr := Option.some.inj hm
        subst hr
        refine ⟨_, _, rfl, res_1 rfl (rv_tmp rfl), ?_⟩
        exact ⟨rfl, X10⟩
      ·
        replace hm := ite_f (of_decide_eq_false c2) hm
        refine sw_skip ?_
        refine then_n ?_
        refine sw_seq ?_
        -- region 5 ref.go:157
        refine sw_region [(0, 0)] rfl rfl rfl ?_
        refine sd_vv rfl rfl rfl (vv_assign rfl) ?_
        refine sd_done ?_
        refine sw_ret ?_
        have X11 : Gr w w2 := (Gr.kz X3 Kw2)
        have hr := Option.some.inj hm
        subst hr
        refine ⟨_, _, rfl, res_1 rfl (rv_tmp rfl), ?_⟩
        exact ⟨rfl, X11⟩
  ·
    -- region 1 ref.go:151
    refine sw_region [(0, 0), (1, 0), (2, 0), (3, 0), (4, 0), (5, 0), (6, 0), (7, 0)] rfl rfl rfl ?_
    refine sd_vv rfl rfl rfl (vv_fieldAddr fa_28_0 rfl) ?_
    refine sd_vv rfl rfl rfl (vv_load1 (v := bv p0.Kind) one_5 rfl Bw1 rfl) ?_
    refine sd_vv rfl rfl rfl (vv_geqB (p := p0.Kind) (q := 1#8) rfl rfl) ?_
    refine sd_split rfl rfl rfl (vv_move rfl) (fun c3 => ?_) (fun c3 => ?_)
    ·
      replace hm := ite_t (of_decide_eq_true c3) hm
      refine sd_vv rfl rfl rfl (vv_fieldAddr fa_28_0 rfl) ?_
      refine sd_vv rfl rfl rfl (vv_load1 (v := bv p0.Kind) one_5 rfl Bw1 rfl) ?_
      refine sd_vv rfl rfl rfl (vv_leqB (p := p0.Kind) (q := 3#8) rfl rfl) ?_
      refine sd_vv rfl rfl rfl (vv_pickT rfl rfl) ?_
      refine sd_nil ?_
      have K_12 : Kz [] w1 w1 := (Kz.refl _ _)
      refine ⟨rfl, (decide (p0.Kind ≤ 3#8)), ?_, hm, K_12⟩
      repeat' first | exact trivial | refine ⟨rfl, ?_⟩
    ·
      replace hm := ite_f (of_decide_eq_false c3) hm
      refine sd_skip rfl rfl rfl ?_
      refine sd_skip rfl rfl rfl ?_
      refine sd_skip rfl rfl rfl ?_
      refine sd_vv rfl rfl rfl (vv_pickF rfl rfl) ?_
      refine sd_nil ?_
      have K_13 : Kz [] w1 w1 := (Kz.refl _ _)
      refine ⟨rfl, false, ?_, hm, K_13⟩
      repeat' first | exact trivial | refine ⟨rfl, ?_⟩

set_option maxHeartbeats 2000000 in
theorem ref05_Secret_w (p0 : W2) (p1 : TScheme) (p2 : Int)  (r : TSecret × Int) (hm : ref05_Secret p0 p1 p2 = some r) (w : World)   :
    Calls Tryz.prog 14 [kv p0, .agg (TScheme.cs p1).toArray, .int .i64 p2].toArray w fun e w' => ∃ v, e = .returned v ∧ (∃ (ur0_1 : Value) (zr0_1 : Nat) (gr0_1 : Nat), v = .tuple [.agg (TSecret.cs r.1 ur0_1).toArray, .int .i64 r.2].toArray ∧ Own w' zr0_1 gr0_1 92 18 ur0_1 (r.1.Labels.map TLabel.cs) ∧ Hdn (zr0_1 = 0 ∨ w.heap.size ≤ gr0_1) ∧ Gr w w') := by
  unfold ref05_Secret at hm
  refine calls_of_sw (R := fun v w' => ∃ (ur0_1 : Value) (zr0_1 : Nat) (gr0_1 : Nat), v = .tuple [.agg (TSecret.cs r.1 ur0_1).toArray, .int .i64 r.2].toArray ∧ Own w' zr0_1 gr0_1 92 18 ur0_1 (r.1.Labels.map TLabel.cs) ∧ Hdn (zr0_1 = 0 ∨ w.heap.size ≤ gr0_1) ∧ Gr w w') 30 Tryz.func14 rfl rfl rfl ?_
  refine sw_seq ?_
  -- region 0 ref.go:161
  refine sw_region [(0, 0), (1, 0), (2, 0), (3, 0)] rfl rfl rfl ?_
  refine sd_ev rfl rfl rfl (ev_box (cs := kb p0) rfl rfl) ?_
  rintro _ w1 ⟨b1, rfl, hbw1, Bw1, Gw1⟩
  have z1 := Gw1.size
  have lt2 := Bw1.lt
  refine sd_ev rfl rfl rfl (ev_box (cs := TScheme.cs p1) rfl rfl) ?_
  rintro _ w2 ⟨b2, rfl, hbw2, Bw2, Gw2⟩
  have z3 := Gw2.size
  have lt4 := Bw2.lt
  refine sd_ev rfl rfl rfl (ev_alloc (cs := TSecret.cs (TSecret.mk 0 [] (TPoint.mk 0#64 0#64)) (.slice none 0 0)) zv_33 rfl) ?_
  rintro _ w3 ⟨b3, rfl, hbw3, Bw3, Gw3⟩
  have z5 := Gw3.size
  have lt6 := Bw3.lt
  refine sd_vv rfl rfl rfl (vv_assign rfl) ?_
  refine sd_done ?_
  refine sw_seq ?_
  refine sw_seq ?_
  -- region 1 ref.go:162
  refine sw_region [(0, 0), (1, 0), (2, 0)] rfl rfl rfl ?_
  have B7 := (Bx.gr Bw2 Gw3)
  refine sd_vv rfl rfl rfl (vv_loadW agg_28 rfl B7 rfl) ?_
  have hb := bnd hm; clear hm; obtain ⟨x1, hx1, hm⟩ := hb
  refine sd_ev rfl rfl rfl (ev_call en_20 rfl (ref05_CheckScheme_w p1 _ hx1 _)) ?_
  rintro _ w4 ⟨rfl, Gw4⟩
  have z8 := Gw4.size
  refine sd_vv rfl rfl rfl (vv_assign rfl) ?_
  refine sd_done ?_
  refine sw_seq ?_
  -- region 2 ref.go:162
  refine sw_region [(0, 0), (1, 0)] rfl rfl rfl ?_
  refine sd_vv rfl rfl rfl (vv_move rfl) ?_
  refine sd_vv rfl rfl rfl (vv_neq (a := x1) (b := 0) rfl rfl) ?_
  refine sd_done ?_
  refine sw_cond rfl (fun c1 => ?_) (fun c1 => ?_)
  ·
    replace hm := ite_t (of_decide_eq_true c1) hm
    refine sw_seq ?_
    -- region 3 ref.go:163
    refine sw_region [(0, 0), (1, 0), (2, 0), (3, 0)] rfl rfl rfl ?_
    refine sd_vv rfl rfl rfl (vv_build (cs := TSecret.cs (TSecret.mk 0 [] (TPoint.mk 0#64 0#64)) (.slice none 0 0)) bs_33 rfl rfl) ?_
    refine sd_vv rfl rfl rfl (vv_move rfl) ?_
    have B9 := (Bx.gr Bw3 Gw4)
    refine sd_ev rfl rfl rfl (ev_stM (cs' := TSecret.cs (TSecret.mk 0 [] (TPoint.mk 0#64 0#64)) (.slice none 0 0)) (vs := TSecret.cs (TSecret.mk 0 [] (TPoint.mk 0#64 0#64)) (.slice none 0 0)) (agg_33).siz rfl rfl rfl rfl (TSecret.cs_ones _ _ rfl) B9 rfl rfl) ?_
    rintro _ w5 ⟨Bw5, Mw5⟩
    have z10 := Mw5.size
    refine sd_vv rfl rfl rfl (vv_assign rfl) ?_
    refine sd_done ?_
    refine sw_ret ?_
    refine then_r ?_
    have X11 : Gr w w5 := (Gr.md (Gr.trans (Gr.trans (Gr.trans (Gr.trans (Gr.refl w) Gw1) Gw2) Gw3) Gw4) Mw5)
    have hr := Option.some.inj hm
    subst hr
    refine ⟨_, _, rfl, res_2 rfl (rv_cellW agg_33 rfl Bw5 rfl) (rv_tmp rfl), ?_⟩
    exact ⟨(.slice none 0 0), 0, 0, rfl, (own_nil _ 0 92 18), ⟨.inl rfl⟩, X11⟩
  ·
    replace hm := ite_f (of_decide_eq_false c1) hm
    refine sw_skip ?_
    refine then_n ?_
    refine sw_seq ?_
    refine sw_seq ?_
    -- region 4 ref.go:165
    refine sw_region [(0, 0), (1, 0), (2, 0)] rfl rfl rfl ?_
    refine sd_vv rfl rfl rfl (vv_fieldAddr fa_28_0 rfl) ?_
    have B12 := (Bx.gr B7 Gw4)
    refine sd_vv rfl rfl rfl (vv_load1 (v := bv p1.Kind) one_5 rfl B12 rfl) ?_
    refine sd_vv rfl rfl rfl (vv_eqlB (p := p1.Kind) (q := 4#8) rfl rfl) ?_
    refine sd_done ?_
    refine sw_cond rfl (fun c2 => ?_) (fun c2 => ?_)
    ·
      replace hm := ite_t (of_decide_eq_true c2) hm
      refine sw_seq ?_
      -- region 5 ref.go:166
      refine sw_region [(0, 0), (1, 0), (2, 0), (3, 0), (4, 0), (5, 0), (6, 0), (7, 0)] rfl rfl rfl ?_
      have B13 := (Bx.gr (Bx.gr (Bx.gr Bw1 Gw2) Gw3) Gw4)
      refine sd_vv rfl rfl rfl (vv_loadW agg_23 rfl B13 rfl) ?_
      refine sd_vv rfl rfl rfl (vv_loadW agg_28 rfl B12 rfl) ?_
      refine sd_vv rfl rfl rfl (vv_move rfl) ?_
      have hb := bnd hm; clear hm; obtain ⟨x2, hx2, hm⟩ := hb
      refine sd_ev rfl rfl rfl (ev_call en_62 rfl (ref04_Secret_w p0 p1 p2 _ hx2 _)) ?_
      rintro _ w6 ⟨u6_r0_1, z6_r0_1, g6_r0_1, rfl, O6_r0_1, f6_r0_1, Gw6⟩
      have z14 := Gw6.size
      have lt15 := O6_r0_1.lth
      refine sd_vv rfl rfl rfl (vv_extract rfl rfl) ?_
      refine sd_vv rfl rfl rfl (vv_extract rfl rfl) ?_
      have B16 := (Bx.gr (Bx.gr Bw3 Gw4) Gw6)
      refine sd_ev rfl rfl rfl (ev_stM (cs' := TSecret.cs x2.1 u6_r0_1) (vs := TSecret.cs x2.1 u6_r0_1) (agg_33).siz rfl rfl rfl rfl (TSecret.cs_ones _ _ (Own.oneB O6_r0_1)) B16 rfl rfl) ?_
      rintro _ w7 ⟨Bw7, Mw7⟩
      have z17 := Mw7.size
      refine sd_vv rfl rfl rfl (vv_assign rfl) ?_
      refine sd_done ?_
      refine sw_ret ?_
      refine then_r ?_
      have B18 := (Own.md O6_r0_1 Mw7 (tk1 ((pv_0 (A := (fun x => x ≠ b3)) f6_r0_1) : z6_r0_1 = 0 ∨ g6_r0_1 ≠ b3)))
      have X19 : Gr w w7 := (Gr.md (Gr.trans (Gr.trans (Gr.trans (Gr.trans (Gr.trans (Gr.refl w) Gw1) Gw2) Gw3) Gw4) Gw6) Mw7)
      have hr := Option.some.inj hm
      subst hr
      refine ⟨_, _, rfl, res_2 rfl (rv_cellW agg_33 rfl Bw7 rfl) (rv_tmp rfl), ?_⟩
      exact ⟨u6_r0_1, z6_r0_1, g6_r0_1, rfl, B18, ⟨(pv_0 (A := (fun x => w.heap.size ≤ x)) f6_r0_1)⟩, X19⟩
    ·
      replace hm := ite_f (of_decide_eq_false c2) hm
      refine sw_skip ?_
      refine then_n ?_
      refine sw_seq ?_
      -- region 6 ref.go:168
      refine sw_region [(0, 0), (1, 0), (2, 0), (3, 0), (4, 0), (5, 0), (6, 0), (7, 0)] rfl rfl rfl ?_
      have B20 := (Bx.gr (Bx.gr (Bx.gr Bw1 Gw2) Gw3) Gw4)
      refine sd_vv rfl rfl rfl (vv_loadW agg_23 rfl B20 rfl) ?_
      refine sd_vv rfl rfl rfl (vv_loadW agg_28 rfl B12 rfl) ?_
      refine sd_vv rfl rfl rfl (vv_move rfl) ?_
      have hb := bnd hm; clear hm; obtain ⟨x3, hx3, hm⟩ := hb
      refine sd_ev rfl rfl rfl (ev_call en_63 rfl (ref03_Secret_w p0 p1 p2 _ hx3 _)) ?_
      rintro _ w8 ⟨u8_r0_1, z8_r0_1, g8_r0_1, rfl, O8_r0_1, f8_r0_1, Gw8⟩
      have z21 := Gw8.size
      have lt22 := O8_r0_1.lth
      refine sd_vv rfl rfl rfl (vv_extract rfl rfl) ?_
      refine sd_vv rfl rfl rfl (vv_extract rfl rfl) ?_
      have B23 := (Bx.gr (Bx.gr Bw3 Gw4) Gw8)
      refine sd_ev rfl rfl rfl (ev_stM (cs' := TSecret.cs x3.1 u8_r0_1) (vs := TSecret.cs x3.1 u8_r0_1) (agg_33).siz rfl rfl rfl rfl (TSecret.cs_ones _ _ (Own.oneB O8_r0_1)) B23 rfl rfl) ?_
      rintro _ w9 ⟨Bw9, Mw9⟩
      have z24 := Mw9.size
      refine sd_vv rfl rfl rfl (vv_assign rfl) ?_
      refine sd_done ?_
      refine sw_ret ?_
      have B25 := (Own.md O8_r0_1 Mw9 (tk1 ((pv_0 (A := (fun x => x ≠ b3)) f8_r0_1) : z8_r0_1 = 0 ∨ g8_r0_1 ≠ b3)))
      have X26 : Gr w w9 := (Gr.md (Gr.trans (Gr.trans (Gr.trans (Gr.trans (Gr.trans (Gr.refl w) Gw1) Gw2) Gw3) Gw4) Gw8) Mw9)
      have hr := Option.some.inj hm
      subst hr
      refine ⟨_, _, rfl, res_2 rfl (rv_cellW agg_33 rfl Bw9 rfl) (rv_tmp rfl), ?_⟩
      exact ⟨u8_r0_1, z8_r0_1, g8_r0_1, rfl, B25, ⟨(pv_0 (A := (fun x => w.heap.size ≤ x)) f8_r0_1)⟩, X26⟩

set_option maxHeartbeats 2000000 in
theorem ref05_Session_w (p0 : W2) (p1 : Int)  (r : W2) (hm : ref05_Session p0 p1 = some r) (w : World)   :
    Calls Tryz.prog 16 [kv p0, .int .i64 p1].toArray w fun e w' => ∃ v, e = .returned v ∧ (v = kv r ∧ Gr w w') := by
  unfold ref05_Session at hm
  refine calls_of_sw (R := fun v w' => v = kv r ∧ Gr w w') 9 Tryz.func16 rfl rfl rfl ?_
  refine sw_seq ?_
  -- region 0 ref.go:140
  refine sw_region [(0, 0), (1, 0)] rfl rfl rfl ?_
  refine sd_ev rfl rfl rfl (ev_box (cs := kb p0) rfl rfl) ?_
  rintro _ w1 ⟨b1, rfl, hbw1, Bw1, Gw1⟩
  have z1 := Gw1.size
  have lt2 := Bw1.lt
  refine sd_ev rfl rfl rfl (ev_alloc (cs := kb k0) zv_23 rfl) ?_
  rintro _ w2 ⟨b2, rfl, hbw2, Bw2, Gw2⟩
  have z3 := Gw2.size
  have lt4 := Bw2.lt
  refine sd_done ?_
  refine sw_seq ?_
  -- region 1 ref.go:141
  refine sw_region [(0, 0), (1, 0), (2, 0), (3, 0), (4, 0)] rfl rfl rfl ?_
  have B5 := (Bx.gr Bw1 Gw2)
  refine sd_vv rfl rfl rfl (vv_loadW agg_23 rfl B5 rfl) ?_
  refine sd_vv rfl rfl rfl (vv_move rfl) ?_
  refine sd_vv rfl rfl rfl (vv_cvIU cv_3_24 rfl) ?_
  refine sd_ev rfl rfl rfl (ev_call en_64 rfl (rderive_c p0 (un8 50#8) (un8_nn _) (un8_le _) (wd p1) _)) ?_
  rintro _ w3 ⟨rfl, Gw3⟩
  have z6 := Gw3.size
  have B7 := (Bx.gr Bw2 Gw3)
  refine sd_ev rfl rfl rfl (ev_stM (cs' := kb (drv p0 (un8 50#8) (wd p1))) (vs := kb (drv p0 (un8 50#8) (wd p1))) (agg_23).siz rfl rfl rfl rfl rfl B7 rfl (by obtain ⟨kk0, hk0⟩ := ex_of (drv p0 (un8 50#8) (wd p1)); rw [← hk0]; first | done | rfl)) ?_
  rintro _ w4 ⟨Bw4, Mw4⟩
  have z8 := Mw4.size
  refine sd_done ?_
  refine sw_ret ?_
  have X9 : Gr w w4 := (Gr.md (Gr.trans (Gr.trans (Gr.trans (Gr.refl w) Gw1) Gw2) Gw3) Mw4)
  have hr := Option.some.inj hm
  subst hr
  refine ⟨_, _, rfl, res_1 rfl (rv_cellW agg_23 rfl Bw4 rfl), ?_⟩
  exact ⟨rfl, X9⟩

set_option maxHeartbeats 2000000 in
theorem ref05_Word_w (p0 : W2) (p1 : Int)  (r : W2) (hm : ref05_Word p0 p1 = some r) (w : World)   :
    Calls Tryz.prog 18 [kv p0, .int .i64 p1].toArray w fun e w' => ∃ v, e = .returned v ∧ (v = kv r ∧ Gr w w') := by
  unfold ref05_Word at hm
  refine calls_of_sw (R := fun v w' => v = kv r ∧ Gr w w') 9 Tryz.func18 rfl rfl rfl ?_
  refine sw_seq ?_
  -- region 0 ref.go:145
  refine sw_region [(0, 0), (1, 0)] rfl rfl rfl ?_
  refine sd_ev rfl rfl rfl (ev_box (cs := kb p0) rfl rfl) ?_
  rintro _ w1 ⟨b1, rfl, hbw1, Bw1, Gw1⟩
  have z1 := Gw1.size
  have lt2 := Bw1.lt
  refine sd_ev rfl rfl rfl (ev_alloc (cs := kb k0) zv_23 rfl) ?_
  rintro _ w2 ⟨b2, rfl, hbw2, Bw2, Gw2⟩
  have z3 := Gw2.size
  have lt4 := Bw2.lt
  refine sd_done ?_
  refine sw_seq ?_
  -- region 1 ref.go:146
  refine sw_region [(0, 0), (1, 0), (2, 0), (3, 0), (4, 0)] rfl rfl rfl ?_
  have B5 := (Bx.gr Bw1 Gw2)
  refine sd_vv rfl rfl rfl (vv_loadW agg_23 rfl B5 rfl) ?_
  refine sd_vv rfl rfl rfl (vv_move rfl) ?_
  refine sd_vv rfl rfl rfl (vv_cvIU cv_3_24 rfl) ?_
  refine sd_ev rfl rfl rfl (ev_call en_64 rfl (rderive_c p0 (un8 51#8) (un8_nn _) (un8_le _) (wd p1) _)) ?_
  rintro _ w3 ⟨rfl, Gw3⟩
  have z6 := Gw3.size
  have B7 := (Bx.gr Bw2 Gw3)
  refine sd_ev rfl rfl rfl (ev_stM (cs' := kb (drv p0 (un8 51#8) (wd p1))) (vs := kb (drv p0 (un8 51#8) (wd p1))) (agg_23).siz rfl rfl rfl rfl rfl B7 rfl (by obtain ⟨kk0, hk0⟩ := ex_of (drv p0 (un8 51#8) (wd p1)); rw [← hk0]; first | done | rfl)) ?_
  rintro _ w4 ⟨Bw4, Mw4⟩
  have z8 := Mw4.size
  refine sd_done ?_
  refine sw_ret ?_
  have X9 : Gr w w4 := (Gr.md (Gr.trans (Gr.trans (Gr.trans (Gr.refl w) Gw1) Gw2) Gw3) Mw4)
  have hr := Option.some.inj hm
  subst hr
  refine ⟨_, _, rfl, res_1 rfl (rv_cellW agg_23 rfl Bw4 rfl), ?_⟩
  exact ⟨rfl, X9⟩

set_option maxHeartbeats 2000000 in
theorem ref05_SameSecret_w (p0 : TSecret) (p1 : TSecret) (vp0_1 : Value) (zp0_1 gp0_1 op0_1 : Nat) (vp1_1 : Value) (zp1_1 gp1_1 op1_1 : Nat) (r : Bool) (hm : ref05_SameSecret p0 p1 = some r) (w : World) (hp0_1 : Rd w zp0_1 gp0_1 op0_1 18 vp0_1 (p0.Labels.map TLabel.cs)) (hp1_1 : Rd w zp1_1 gp1_1 op1_1 18 vp1_1 (p1.Labels.map TLabel.cs))  :
    Calls Tryz.prog 21 [.agg (TSecret.cs p0 vp0_1).toArray, .agg (TSecret.cs p1 vp1_1).toArray].toArray w fun e w' => ∃ v, e = .returned v ∧ (v = .bool r ∧ Gr w w') := by
  have lt1 := hp0_1.lth
  have lt2 := hp1_1.lth
  unfold ref05_SameSecret at hm
  refine calls_of_sw (R := fun v w' => v = .bool r ∧ Gr w w') 45 Tryz.func21 rfl rfl rfl ?_
  refine sw_seq ?_
  -- region 0 ref.go:491
  refine sw_region [(0, 0), (1, 0), (2, 0)] rfl rfl rfl ?_
  refine sd_ev rfl rfl rfl (ev_box (cs := TSecret.cs p0 vp0_1) rfl rfl) ?_
  rintro _ w1 ⟨b1, rfl, hbw1, Bw1, Gw1⟩
  have z3 := Gw1.size
  have lt4 := Bw1.lt
  refine sd_ev rfl rfl rfl (ev_box (cs := TSecret.cs p1 vp1_1) rfl rfl) ?_
  rintro _ w2 ⟨b2, rfl, hbw2, Bw2, Gw2⟩
  have z5 := Gw2.size
  have lt6 := Bw2.lt
  refine sd_vv rfl rfl rfl (vv_assign rfl) ?_
  refine sd_done ?_
  refine sw_seq ?_
  have X7 : Gr w w2 := (Gr.trans (Gr.trans (Gr.refl w) Gw1) Gw2)
  refine sw_joinD (β := Bool) [6, 7, 8, 9, 10, 11, 12, 13, 14, 15, 16, 17, 18, 19, 20, 21, 22, 23, 24, 25, 26] (fun a1 => [(26, .bool a1)]) (fun a1 wr => (ref05_SameSecret_J1 p0 p1 a1 = some r) ∧ Kz [] w2 wr) ?_ ?_
  · clear hm; rintro a1 w3 ⟨hm, Kw3⟩
    have z8 := Kw3.size
    unfold ref05_SameSecret_J1 at hm
    refine sw_cond rfl (fun c1 => ?_) (fun c1 => ?_)
    ·
      replace hm := cnd_t c1 hm
      refine sw_seq ?_
      -- region 2 ref.go:493
      refine sw_region [(0, 0)] rfl rfl rfl ?_
      refine sd_vv rfl rfl rfl (vv_assign rfl) ?_
      refine sd_done ?_
      refine sw_ret ?_
      refine then_r ?_
      have X9 : Gr w w3 := (Gr.kz X7 Kw3)
      have hr := Option.some.inj hm
      subst hr
      refine ⟨_, _, rfl, res_1 rfl (rv_tmp rfl), ?_⟩
      exact ⟨rfl, X9⟩
    ·
      replace hm := cnd_f c1 hm
      refine sw_skip ?_
      refine then_n ?_
      refine sw_seq ?_
      refine sw_seq ?_
      -- region 3 ref.go:495
      refine sw_region [(0, 0)] rfl rfl rfl ?_
      refine sd_vv rfl rfl rfl (vv_assign rfl) ?_
      refine sd_done ?_
      refine sw_block ?_
      have X10 : Gr w w3 := (Gr.kz X7 Kw3)
      have B11 := (Rd.kz (Rd.gr (Rd.gr hp0_1 Gw1) Gw2) Kw3)
      have B12 := (Rd.kz (Rd.gr (Rd.gr hp1_1 Gw1) Gw2) Kw3)
      refine sw_loopD (α := Nat × Int) [4, 5, 27, 28, 29, 30, 31, 32, 33, 34, 35, 36, 37, 38, 39, 40, 41, 42, 43, 44] (fun ⟨n2, a3⟩ => [(4, .bool false), (5, .int .i64 a3)]) (fun ⟨n2, a3⟩ wr => (fixN (ref05_SameSecret_L2 p0 p1) n2 a3 = some r) ∧ Kz [] w3 wr) (fun ⟨n2, a3⟩ => n2) ⟨FUEL, 0⟩ ?_ ?_ ?_
      · repeat' first | exact trivial | refine ⟨rfl, ?_⟩
      · exact ⟨hm, Kz.refl _ _⟩
      · clear hm; rintro ⟨n2, a3⟩ w4 ⟨hm, Kw4⟩
        have z13 := Kw4.size
        have hb := fix_succ hm; clear hm; obtain ⟨n2, rfl, hm⟩ := hb
        generalize hrec2 : fixN (ref05_SameSecret_L2 p0 p1) n2 = rec2 at hm
        unfold ref05_SameSecret_L2 at hm
        try dsimp only at hm
        refine sw_seq ?_
        refine sw_seq ?_
        -- region 4 ref.go:495
        refine sw_region [(0, 0), (1, 0), (2, 0), (3, 0), (4, 0)] rfl rfl rfl ?_
        refine sd_vv rfl rfl rfl (vv_move rfl) ?_
        refine sd_vv rfl rfl rfl (vv_fieldAddr fa_33_1 rfl) ?_
        have B14 := (Bx.kz (Bx.kz (Bx.gr Bw1 Gw2) Kw3) Kw4)
        refine sd_vv rfl rfl rfl (vv_load1 (v := vp0_1) one_29 rfl B14 rfl) ?_
        have B15 := (Rd.kz B11 Kw4)
        refine sd_vv rfl rfl rfl (vv_lenT (l := p0.Labels) (c := TLabel.cs) Tryz.underlying29 rfl B15) ?_
        refine sd_vv rfl rfl rfl (vv_lss (a := a3) (b := (p0.Labels.length : Int)) rfl rfl) ?_
        refine sd_done ?_
        refine sw_cond rfl (fun c2 => ?_) (fun c2 => ?_)
        ·
          replace hm := ite_t (of_decide_eq_true c2) hm
          refine sw_skip ?_
          refine then_n ?_
          refine sw_seq ?_
          refine sw_block ?_
          refine sw_seq ?_
          -- region 6 ref.go:496 DRAWS
          refine sw_drawN [([])] [] (.leaf [(0, 10), (1, 10), (2, 10), (3, 10), (4, 10), (5, 10), (6, 10), (7, 10), (8, 10), (9, 10), (10, 10)]) (by kernel_rfl) (by kernel_rfl) rfl (by kernel_rfl) ?_
          intro w5 Gw5 zw5
          refine sdz_leaf ?_
          refine dd_hn 0 rfl rfl rfl rfl (Kp.refl ([]) w5) (fun w hS => vv_fieldAddr fa_33_1 rfl) ?_
          have B16 := (Bx.gr B14 Gw5)
          refine dd_hn 0 rfl rfl rfl rfl (Kp.refl ([]) w5) (fun w hS => vv_load1 (v := vp0_1) one_29 rfl (Bx.kp B16 hS) rfl) ?_
          refine dd_hn 0 rfl rfl rfl rfl (Kp.refl ([]) w5) (fun w hS => vv_move rfl) ?_
          have hb := bnd hm; clear hm; obtain ⟨y4, hy4, hm⟩ := hb
          have B17 := (Rd.gr B15 Gw5)
          refine dd_hn 0 rfl rfl rfl rfl (Kp.refl ([]) w5) (fun w hS => vv_ixT (i := a3) Tryz.underlying29 (agg_92).siz rfl (Rd.kp B17 hS) rfl hy4) ?_
          refine dd_hn 0 rfl rfl rfl rfl (Kp.refl ([]) w5) (fun w hS => vv_elWT agg_92 rfl (Rd.kp B17 hS) hy4 (by first | rfl | omega)) ?_
          refine dd_hn 0 rfl rfl rfl rfl (Kp.refl ([]) w5) (fun w hS => vv_fieldAddr fa_33_1 rfl) ?_
          have B18 := (Bx.gr (Bx.kz (Bx.kz Bw2 Kw3) Kw4) Gw5)
          refine dd_hn 0 rfl rfl rfl rfl (Kp.refl ([]) w5) (fun w hS => vv_load1 (v := vp1_1) one_29 rfl (Bx.kp B18 hS) rfl) ?_
          refine dd_hn 0 rfl rfl rfl rfl (Kp.refl ([]) w5) (fun w hS => vv_move rfl) ?_
          have hb := bnd hm; clear hm; obtain ⟨y5, hy5, hm⟩ := hb
          have B19 := (Rd.gr (Rd.kz B12 Kw4) Gw5)
          refine dd_hn 0 rfl rfl rfl rfl (Kp.refl ([]) w5) (fun w hS => vv_ixT (i := a3) Tryz.underlying29 (agg_92).siz rfl (Rd.kp B19 hS) rfl hy5) ?_
          refine dd_hn 0 rfl rfl rfl rfl (Kp.refl ([]) w5) (fun w hS => vv_elWT agg_92 rfl (Rd.kp B19 hS) hy5 (by first | rfl | omega)) ?_
          refine dd_hn 0 rfl rfl rfl rfl (Kp.refl ([]) w5) (fun w hS => vv_neqS (cf := TLabel.cs) (a := y4) (b := y5) eqt_92 rfl rfl rfl rfl (fun h => TLabel.cs_inj h)) ?_
          refine sd_done ?_
          refine sw_cond rfl (fun c3 => ?_) (fun c3 => ?_)
          ·
            replace hm := ite_t (of_decide_eq_true c3) hm
            refine sw_seq ?_
            -- region 7 ref.go:497
            refine sw_region [(0, 0)] rfl rfl rfl ?_
            refine sd_vv rfl rfl rfl (vv_assign rfl) ?_
            refine sd_done ?_
            refine sw_ret ?_
            refine block_r ?_
            refine then_r ?_
            refine then_r ?_
            refine block_r ?_
            refine then_r ?_
            have X20 : Gr w w5 := (Gr.trans (Gr.kz X10 Kw4) Gw5)
            have hr := Option.some.inj hm
            subst hr
            refine ⟨_, _, rfl, res_1 rfl (rv_tmp rfl), ?_⟩
            exact ⟨rfl, X20⟩
          ·
            replace hm := ite_f (of_decide_eq_false c3) hm
            refine sw_skip ?_
            refine block_n ?_
            refine then_n ?_
            -- region 5 ref.go:495
            refine sw_region [(0, 0), (1, 0), (2, 0)] rfl rfl rfl ?_
            refine sd_vv rfl rfl rfl (vv_move rfl) ?_
            refine sd_vv rfl rfl rfl (vv_add (k := .i64) (a := a3) (b := 1) rfl rfl) ?_
            refine sd_vv rfl rfl rfl (vv_assign rfl) ?_
            refine sd_nil ?_
            have K_21 : Kz [] w3 w5 := (Kz.gr Kw4 Gw5)
            subst hrec2
            refine ⟨rfl, ⟨n2, w64 (a3 + 1)⟩, ?_, ⟨hm, K_21⟩, Nat.lt_succ_self _⟩
            repeat' first | exact trivial | refine ⟨rfl, ?_⟩
        ·
          replace hm := ite_f (of_decide_eq_false c2) hm
          refine sw_exit ?_
          refine then_x ?_
          refine then_x ?_
          refine block_x ?_
          refine then_n ?_
          refine sw_seq ?_
          -- region 8 ref.go:500
          refine sw_region [(0, 0)] rfl rfl rfl ?_
          refine sd_vv rfl rfl rfl (vv_assign rfl) ?_
          refine sd_done ?_
          refine sw_ret ?_
          have X22 : Gr w w4 := (Gr.kz X10 Kw4)
          have hr := Option.some.inj hm
          subst hr
          refine ⟨_, _, rfl, res_1 rfl (rv_tmp rfl), ?_⟩
          exact ⟨rfl, X22⟩
  ·
    -- region 1 ref.go:492
    refine sw_region [(0, 0), (1, 0), (2, 0), (3, 0), (4, 0), (5, 0), (6, 0), (7, 0), (8, 0), (9, 0), (10, 0), (11, 0), (12, 0), (13, 0), (14, 0), (15, 0), (16, 0), (17, 0), (18, 0), (19, 0), (20, 0)] rfl rfl rfl ?_
    refine sd_vv rfl rfl rfl (vv_fieldAddr fa_33_0 rfl) ?_
    have B23 := (Bx.gr Bw1 Gw2)
    refine sd_vv rfl rfl rfl (vv_load1 (v := .int .i64 p0.Receiver) one_3 rfl B23 rfl) ?_
    refine sd_vv rfl rfl rfl (vv_fieldAddr fa_33_0 rfl) ?_
    refine sd_vv rfl rfl rfl (vv_load1 (v := .int .i64 p1.Receiver) one_3 rfl Bw2 rfl) ?_
    refine sd_vv rfl rfl rfl (vv_neq (a := p0.Receiver) (b := p1.Receiver) rfl rfl) ?_
    refine sd_split rfl rfl rfl (vv_move rfl) (fun c4 => ?_) (fun c4 => ?_)
    ·
      replace hm := ite_t (of_decide_eq_true c4) hm
      refine sd_skip rfl rfl rfl ?_
      refine sd_skip rfl rfl rfl ?_
      refine sd_skip rfl rfl rfl ?_
      refine sd_skip rfl rfl rfl ?_
      refine sd_skip rfl rfl rfl ?_
      refine sd_vv rfl rfl rfl (vv_pickT rfl rfl) ?_
      refine sd_vv rfl rfl rfl (vv_move rfl) ?_
      refine sd_skip rfl rfl rfl ?_
      refine sd_skip rfl rfl rfl ?_
      refine sd_skip rfl rfl rfl ?_
      refine sd_skip rfl rfl rfl ?_
      refine sd_skip rfl rfl rfl ?_
      refine sd_skip rfl rfl rfl ?_
      refine sd_skip rfl rfl rfl ?_
      refine sd_vv rfl rfl rfl (vv_pickT rfl rfl) ?_
      refine sd_nil ?_
      have K_24 : Kz [] w2 w2 := (Kz.refl _ _)
      refine ⟨rfl, true, ?_, hm, K_24⟩
      repeat' first | exact trivial | refine ⟨rfl, ?_⟩
    ·
      replace hm := ite_f (of_decide_eq_false c4) hm
      refine sd_vv rfl rfl rfl (vv_fieldAddr fa_33_2 rfl) ?_
      refine sd_vv rfl rfl rfl (vv_loadM (vs := TPoint.cs p0.Share) agg_31 rfl B23 rfl rfl) ?_
      refine sd_vv rfl rfl rfl (vv_fieldAddr fa_33_2 rfl) ?_
      refine sd_vv rfl rfl rfl (vv_loadM (vs := TPoint.cs p1.Share) agg_31 rfl Bw2 rfl rfl) ?_
      refine sd_vv rfl rfl rfl (vv_neqS (cf := TPoint.cs) (a := p0.Share) (b := p1.Share) eqt_31 rfl rfl rfl rfl (fun h => TPoint.cs_inj h)) ?_
      refine sd_vv rfl rfl rfl (vv_pickF rfl rfl) ?_
      refine sd_split rfl rfl rfl (vv_move rfl) (fun c5 => ?_) (fun c5 => ?_)
      ·
        replace hm := ite_t (of_decide_eq_true c5) hm
        refine sd_skip rfl rfl rfl ?_
        refine sd_skip rfl rfl rfl ?_
        refine sd_skip rfl rfl rfl ?_
        refine sd_skip rfl rfl rfl ?_
        refine sd_skip rfl rfl rfl ?_
        refine sd_skip rfl rfl rfl ?_
        refine sd_skip rfl rfl rfl ?_
        refine sd_vv rfl rfl rfl (vv_pickT rfl rfl) ?_
        refine sd_nil ?_
        have K_25 : Kz [] w2 w2 := (Kz.refl _ _)
        refine ⟨rfl, true, ?_, hm, K_25⟩
        repeat' first | exact trivial | refine ⟨rfl, ?_⟩
      ·
        replace hm := ite_f (of_decide_eq_false c5) hm
        refine sd_vv rfl rfl rfl (vv_fieldAddr fa_33_1 rfl) ?_
        refine sd_vv rfl rfl rfl (vv_load1 (v := vp0_1) one_29 rfl B23 rfl) ?_
        have B26 := (Rd.gr (Rd.gr hp0_1 Gw1) Gw2)
        refine sd_vv rfl rfl rfl (vv_lenT (l := p0.Labels) (c := TLabel.cs) Tryz.underlying29 rfl B26) ?_
        refine sd_vv rfl rfl rfl (vv_fieldAddr fa_33_1 rfl) ?_
        refine sd_vv rfl rfl rfl (vv_load1 (v := vp1_1) one_29 rfl Bw2 rfl) ?_
        have B27 := (Rd.gr (Rd.gr hp1_1 Gw1) Gw2)
        refine sd_vv rfl rfl rfl (vv_lenT (l := p1.Labels) (c := TLabel.cs) Tryz.underlying29 rfl B27) ?_
        refine sd_vv rfl rfl rfl (vv_neq (a := (p0.Labels.length : Int)) (b := (p1.Labels.length : Int)) rfl rfl) ?_
        refine sd_vv rfl rfl rfl (vv_pickF rfl rfl) ?_
        refine sd_nil ?_
        have K_28 : Kz [] w2 w2 := (Kz.refl _ _)
        refine ⟨rfl, (decide ((p0.Labels.length : Int) ≠ (p1.Labels.length : Int))), ?_, hm, K_28⟩
        repeat' first | exact trivial | refine ⟨rfl, ?_⟩
end Go.Proofs.YtjdffpglgkefmaaGreat.Mx
