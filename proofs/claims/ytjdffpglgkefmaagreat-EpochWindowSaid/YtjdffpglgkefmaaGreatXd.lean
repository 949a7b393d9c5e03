/- Walks that follow mirrors: Xd. Printed by mx.py. -/
import Derived.Test.YtjdffpglgkefmaaGreatXc
import Derived.Test.YtjdffpglgkefmaaGreatZd
set_option linter.unusedVariables false
set_option linter.unusedSimpArgs false
set_option maxRecDepth 100000
set_option maxHeartbeats 2000000
namespace Go.Proofs.YtjdffpglgkefmaaGreat.Mx
open Go Go.RowKit Go.Sx
theorem agg_65 : Agg Tryz.prog 65 5 := fun _ => ⟨by kernel_rfl, by kernel_rfl⟩
theorem fa_65_1 : FA Tryz.prog 65 1 1 := fun _ _ _ => by kernel_rfl
theorem fa_65_0 : FA Tryz.prog 65 0 0 := fun _ _ _ => by kernel_rfl
theorem fa_65_2 : FA Tryz.prog 65 2 2 := fun _ _ _ => by kernel_rfl
theorem fa_65_3 : FA Tryz.prog 65 3 3 := fun _ _ _ => by kernel_rfl
theorem fa_65_4 : FA Tryz.prog 65 4 4 := fun _ _ _ => by kernel_rfl
theorem en_56 : En Tryz.prog 56 := fun _ _ => by kernel_rfl
theorem en_67 : En Tryz.prog 67 := fun _ _ => by kernel_rfl
theorem en_173 : En Tryz.prog 173 := fun _ _ => by kernel_rfl
theorem en_91 : En Tryz.prog 91 := fun _ _ => by kernel_rfl
theorem en_92 : En Tryz.prog 92 := fun _ _ => by kernel_rfl
theorem en_90 : En Tryz.prog 90 := fun _ _ => by kernel_rfl
theorem zv_3 : ZV Tryz.prog 3 (.int .i64 0) := fun _ => by kernel_rfl
theorem bsl_44_1 : BSl Tryz.prog 44 1 3 1 [.int .i64 0] := bsl_mk Tryz.underlying44 (one_3).siz zv_3 rfl rfl (by kernel_rfl)
theorem apt_44 : ApT Tryz.prog 44 3 1 8 := apt_mk Tryz.underlying44 rfl (by kernel_rfl)
theorem en_93 : En Tryz.prog 93 := fun _ _ => by kernel_rfl
theorem en_174 : En Tryz.prog 174 := fun _ _ => by kernel_rfl
theorem cv_5_3 : CV Tryz.prog 5 3 .i64 := fun _ _ _ => by kernel_rfl
theorem en_94 : En Tryz.prog 94 := fun _ _ => by kernel_rfl
theorem en_95 : En Tryz.prog 95 := fun _ _ => by kernel_rfl
theorem zv_52 : ZV Tryz.prog 52 (.agg [.int .u8 0, .int .i64 0, .slice none 0 0, .int .u64 0, .slice none 0 0, .int .u8 0, .int .u8 0, .int .u8 0, .int .u8 0, .int .u8 0, .int .u8 0, .int .u8 0, .int .u8 0, .int .u8 0, .int .u8 0, .int .u8 0, .int .u8 0, .int .u8 0, .int .u8 0, .int .u8 0, .int .u8 0, .int .u8 0, .int .u8 0, .int .u8 0, .int .u8 0, .int .u8 0, .int .u8 0, .int .u8 0, .int .u8 0, .int .u8 0, .int .u8 0, .int .u8 0, .int .u8 0, .int .u8 0, .int .u8 0, .int .u8 0, .int .u8 0, .int .u8 0, .int .u64 0, .slice none 0 0, .int .u8 0, .int .u8 0, .int .u8 0, .int .u8 0, .int .u8 0, .int .u8 0, .int .u8 0, .int .u8 0, .int .u8 0, .int .u8 0, .int .u8 0, .int .u8 0, .int .u8 0, .int .u8 0, .int .u8 0, .int .u8 0].toArray) := fun _ => by kernel_rfl
theorem en_61 : En Tryz.prog 61 := fun _ _ => by kernel_rfl
theorem zv_122 : ZV Tryz.prog 122 (.agg [.nilFunc, .nilFunc, .nilFunc, .nilFunc].toArray) := fun _ => by kernel_rfl
theorem one_40 : One Tryz.prog 40 := fun _ => ⟨by kernel_rfl, by kernel_rfl⟩
theorem one_36 : One Tryz.prog 36 := fun _ => ⟨by kernel_rfl, by kernel_rfl⟩
theorem one_58 : One Tryz.prog 58 := fun _ => ⟨by kernel_rfl, by kernel_rfl⟩
theorem one_106 : One Tryz.prog 106 := fun _ => ⟨by kernel_rfl, by kernel_rfl⟩
theorem bs_122 : BS Tryz.prog 122 (fun i => [(0, 1), (1, 1), (2, 1), (3, 1)][i]?) [.nilFunc, .nilFunc, .nilFunc, .nilFunc] := bs_mk Tryz.underlying122 zv_122 ⟨rfl, (one_40).siz, rfl, (one_36).siz, rfl, (one_58).siz, rfl, (one_106).siz, trivial⟩
theorem agg_122 : Agg Tryz.prog 122 4 := fun _ => ⟨by kernel_rfl, by kernel_rfl⟩
theorem zv_206 : ZV Tryz.prog 206 (.agg [.nilFunc, .nilFunc, .nilFunc, .nilFunc, .nilFunc, .nilFunc, .nilFunc, .nilFunc, .nilFunc, .nilFunc, .nilFunc, .nilFunc, .nilFunc, .nilFunc, .nilFunc, .nilFunc, .nilFunc, .nilFunc, .nilFunc, .nilFunc].toArray) := fun _ => by kernel_rfl
theorem ba_206 : BA Tryz.prog 206 4 [.nilFunc, .nilFunc, .nilFunc, .nilFunc, .nilFunc, .nilFunc, .nilFunc, .nilFunc, .nilFunc, .nilFunc, .nilFunc, .nilFunc, .nilFunc, .nilFunc, .nilFunc, .nilFunc, .nilFunc, .nilFunc, .nilFunc, .nilFunc] := ⟨_, _, Tryz.underlying206, (agg_122).siz, zv_206⟩
theorem agg_206 : Agg Tryz.prog 206 20 := fun _ => ⟨by kernel_rfl, by kernel_rfl⟩
theorem fa_122_0 : FA Tryz.prog 122 0 0 := fun _ _ _ => by kernel_rfl
theorem en_51 : En Tryz.prog 51 := fun _ _ => by kernel_rfl
theorem en_52 : En Tryz.prog 52 := fun _ _ => by kernel_rfl
theorem fa_122_3 : FA Tryz.prog 122 3 3 := fun _ _ _ => by kernel_rfl
theorem en_15 : En Tryz.prog 15 := fun _ _ => by kernel_rfl
theorem en_138 : En Tryz.prog 138 := fun _ _ => by kernel_rfl
theorem en_139 : En Tryz.prog 139 := fun _ _ => by kernel_rfl
theorem en_49 : En Tryz.prog 49 := fun _ _ => by kernel_rfl
theorem en_23 : En Tryz.prog 23 := fun _ _ => by kernel_rfl
theorem one_50 : One Tryz.prog 50 := fun _ => ⟨by kernel_rfl, by kernel_rfl⟩
theorem bs_52 : BS Tryz.prog 52 (fun i => [(0, 1), (1, 1), (2, 35), (37, 1), (38, 1), (39, 1), (40, 16)][i]?) [.int .u8 0, .int .i64 0, .slice none 0 0, .int .u64 0, .slice none 0 0, .int .u8 0, .int .u8 0, .int .u8 0, .int .u8 0, .int .u8 0, .int .u8 0, .int .u8 0, .int .u8 0, .int .u8 0, .int .u8 0, .int .u8 0, .int .u8 0, .int .u8 0, .int .u8 0, .int .u8 0, .int .u8 0, .int .u8 0, .int .u8 0, .int .u8 0, .int .u8 0, .int .u8 0, .int .u8 0, .int .u8 0, .int .u8 0, .int .u8 0, .int .u8 0, .int .u8 0, .int .u8 0, .int .u8 0, .int .u8 0, .int .u8 0, .int .u8 0, .int .u8 0, .int .u64 0, .slice none 0 0, .int .u8 0, .int .u8 0, .int .u8 0, .int .u8 0, .int .u8 0, .int .u8 0, .int .u8 0, .int .u8 0, .int .u8 0, .int .u8 0, .int .u8 0, .int .u8 0, .int .u8 0, .int .u8 0, .int .u8 0, .int .u8 0] := bs_mk Tryz.underlying52 zv_52 ⟨rfl, (one_5).siz, rfl, (one_3).siz, rfl, (agg_48).siz, rfl, (one_5).siz, rfl, (one_24).siz, rfl, (one_50).siz, rfl, (agg_23).siz, trivial⟩
theorem agg_52 : Agg Tryz.prog 52 56 := fun _ => ⟨by kernel_rfl, by kernel_rfl⟩
theorem zv_223 : ZV Tryz.prog 223 (.agg [.slice none 0 0].toArray) := fun _ => by kernel_rfl
theorem bs_223 : BS Tryz.prog 223 (fun i => [(0, 1)][i]?) [.slice none 0 0] := bs_mk Tryz.underlying223 zv_223 ⟨rfl, (one_50).siz, trivial⟩
theorem fa_52_0 : FA Tryz.prog 52 0 0 := fun _ _ _ => by kernel_rfl
theorem fa_223_0 : FA Tryz.prog 223 0 0 := fun _ _ _ => by kernel_rfl
theorem cv_24_5 : CV Tryz.prog 24 5 .u8 := fun _ _ _ => by kernel_rfl
theorem zv_5 : ZV Tryz.prog 5 (.int .u8 0) := fun _ => by kernel_rfl
theorem bsl_50_1 : BSl Tryz.prog 50 1 5 1 [.int .u8 0] := bsl_mk Tryz.underlying50 (one_5).siz zv_5 rfl rfl (by kernel_rfl)
theorem apt_50 : ApT Tryz.prog 50 5 1 1 := apt_mk Tryz.underlying50 rfl (by kernel_rfl)
theorem en_166 : En Tryz.prog 166 := fun _ _ => by kernel_rfl
theorem fa_52_3 : FA Tryz.prog 52 3 37 := fun _ _ _ => by kernel_rfl
theorem fa_52_4 : FA Tryz.prog 52 4 38 := fun _ _ _ => by kernel_rfl
theorem fa_52_5 : FA Tryz.prog 52 5 39 := fun _ _ _ => by kernel_rfl
theorem fa_52_1 : FA Tryz.prog 52 1 1 := fun _ _ _ => by kernel_rfl
theorem fa_52_2 : FA Tryz.prog 52 2 2 := fun _ _ _ => by kernel_rfl
theorem en_167 : En Tryz.prog 167 := fun _ _ => by kernel_rfl
theorem en_165 : En Tryz.prog 165 := fun _ _ => by kernel_rfl
theorem en_164 : En Tryz.prog 164 := fun _ _ => by kernel_rfl
theorem en_163 : En Tryz.prog 163 := fun _ _ => by kernel_rfl
theorem en_78 : En Tryz.prog 78 := fun _ _ => by kernel_rfl
theorem en_77 : En Tryz.prog 77 := fun _ _ => by kernel_rfl
theorem en_74 : En Tryz.prog 74 := fun _ _ => by kernel_rfl
theorem fa_52_6 : FA Tryz.prog 52 6 40 := fun _ _ _ => by kernel_rfl
theorem en_44 : En Tryz.prog 44 := fun _ _ => by kernel_rfl
theorem en_17 : En Tryz.prog 17 := fun _ _ => by kernel_rfl
theorem cv_3_5 : CV Tryz.prog 3 5 .u8 := fun _ _ _ => by kernel_rfl
theorem bs_233 : BS Tryz.prog 233 (fun i => [(0, 1), (1, 1)][i]?) [.int .u64 0, .int .u64 0] := bs_mk Tryz.underlying233 zv_233 ⟨rfl, (one_24).siz, rfl, (one_24).siz, trivial⟩
theorem en_178 : En Tryz.prog 178 := fun _ _ => by kernel_rfl
theorem en_97 : En Tryz.prog 97 := fun _ _ => by kernel_rfl
theorem en_76 : En Tryz.prog 76 := fun _ _ => by kernel_rfl
theorem zv_78 : ZV Tryz.prog 78 (.agg [.int .i64 0, .slice none 0 0, .int .u64 0, .int .u64 0, .int .i64 0, .bool false, .int .i64 0, .int .u8 0, .int .u8 0, .int .u8 0, .int .u8 0, .int .u8 0, .int .u8 0, .int .u8 0, .int .u8 0, .int .u8 0, .int .u8 0, .int .u8 0, .int .u8 0, .int .u8 0, .int .u8 0, .int .u8 0, .int .u8 0, .bool false, .int .i64 0, .int .u8 0, .int .u8 0, .int .u8 0, .int .u8 0, .int .u8 0, .int .u8 0, .int .u8 0, .int .u8 0, .int .u8 0, .int .u8 0, .int .u8 0, .int .u8 0, .int .u8 0, .int .u8 0, .int .u8 0, .int .u8 0].toArray) := fun _ => by kernel_rfl
theorem en_19 : En Tryz.prog 19 := fun _ _ => by kernel_rfl
theorem en_81 : En Tryz.prog 81 := fun _ _ => by kernel_rfl
theorem agg_76 : Agg Tryz.prog 76 36 := fun _ => ⟨by kernel_rfl, by kernel_rfl⟩
theorem bs_78 : BS Tryz.prog 78 (fun i => [(0, 4), (4, 1), (5, 36)][i]?) [.int .i64 0, .slice none 0 0, .int .u64 0, .int .u64 0, .int .i64 0, .bool false, .int .i64 0, .int .u8 0, .int .u8 0, .int .u8 0, .int .u8 0, .int .u8 0, .int .u8 0, .int .u8 0, .int .u8 0, .int .u8 0, .int .u8 0, .int .u8 0, .int .u8 0, .int .u8 0, .int .u8 0, .int .u8 0, .int .u8 0, .bool false, .int .i64 0, .int .u8 0, .int .u8 0, .int .u8 0, .int .u8 0, .int .u8 0, .int .u8 0, .int .u8 0, .int .u8 0, .int .u8 0, .int .u8 0, .int .u8 0, .int .u8 0, .int .u8 0, .int .u8 0, .int .u8 0, .int .u8 0] := bs_mk Tryz.underlying78 zv_78 ⟨rfl, (agg_33).siz, rfl, (one_3).siz, rfl, (agg_76).siz, trivial⟩
theorem agg_78 : Agg Tryz.prog 78 41 := fun _ => ⟨by kernel_rfl, by kernel_rfl⟩
theorem fa_122_1 : FA Tryz.prog 122 1 1 := fun _ _ _ => by kernel_rfl
theorem en_137 : En Tryz.prog 137 := fun _ _ => by kernel_rfl
theorem en_140 : En Tryz.prog 140 := fun _ _ => by kernel_rfl
theorem en_13 : En Tryz.prog 13 := fun _ _ => by kernel_rfl
theorem epoch_CheckAir_w {p0 r} (hm : epoch_CheckAir p0 = some r) {w : World} :
    Calls Tryz.prog 56 [.agg (TAir.cs p0).toArray].toArray w fun e w' => ∃ v, e = .returned v ∧ (v = .int .i64 r ∧ Gr w w') := by
 unfold epoch_CheckAir at hm
 refine calls_of_sw 78 Tryz.func56 rfl rfl rfl<|qs 2 rfl<|qe rfl (ev_box (cs := TAir.cs p0) rfl rfl) ?_
 rintro _ w1 ⟨b1, rfl, hbw1, Bw1, G1⟩
 have z1 := G1.size
 have lt2 := Bw1.lt
 refine qm rfl<|sd_done<|sw_seq ?_
 have X3 := ((Gr.refl w).trans G1)
 refine qj (β := Bool) (rg 4 31) (fun a1 => [(34, .bool a1)]) (fun a1 wr => (epoch_CheckAir_J1 p0 a1 = some r) ∧ Kz [] w1 wr) ?_ ?_
 · refine qg 31 rfl<|qv rfl (vv_fieldAddr fa_65_1 rfl)<|qv rfl (vv_load1 (v := .int .i64 p0.Word) one_3 rfl Bw1 rfl)<|qv rfl (vv_lss (a := p0.Word) (b := 1) rfl rfl)<|qp rfl (vv_move rfl) (fun c7 => ?_) (fun c7 => ?_)
   · replace hm := iT c7 hm
     refine qk rfl<|qk rfl<|qk rfl<|qm rfl<|qm rfl<|qk rfl<|qk rfl ?_
     refine qk rfl<|qk rfl<|qk rfl<|qm rfl<|qm rfl<|qk rfl<|qk rfl ?_
     refine qk rfl<|qk rfl<|qk rfl<|qk rfl<|qm rfl<|qm rfl<|qk rfl ?_
     refine qk rfl<|qk rfl<|qk rfl<|qk rfl<|qk rfl<|qm rfl<|sd_nil ?_
     exact ⟨rfl, true, sbq, hm, kz0⟩
   replace hm := iF c7 hm
   refine qv rfl (vv_fieldAddr fa_65_1 rfl)<|qv rfl (vv_load1 (v := .int .i64 p0.Word) one_3 rfl Bw1 rfl)<|qv rfl (vv_gtr (a := p0.Word) (b := 1000) rfl rfl)<|qm rfl<|qp rfl (vv_move rfl) (fun c8 => ?_) (fun c8 => ?_)
   · replace hm := iT c8 hm
     refine qk rfl<|qk rfl<|qk rfl<|qk rfl<|qk rfl<|qm rfl<|qm rfl ?_
     refine qk rfl<|qk rfl<|qk rfl<|qk rfl<|qk rfl<|qk rfl<|qm rfl ?_
     refine qm rfl<|qk rfl<|qk rfl<|qk rfl<|qk rfl<|qk rfl<|qk rfl ?_
     refine qm rfl<|sd_nil ?_
     exact ⟨rfl, true, sbq, hm, kz0⟩
   replace hm := iF c8 hm
   refine qv rfl (vv_fieldAddr fa_65_0 rfl)<|qv rfl (vv_load1 (v := .int .i64 p0.Epoch) one_3 rfl Bw1 rfl)<|qv rfl (vv_fieldAddr fa_65_1 rfl)<|qv rfl (vv_load1 (v := .int .i64 p0.Word) one_3 rfl Bw1 rfl)<|qv rfl (vv_lss (a := p0.Epoch) (b := p0.Word) rfl rfl)<|qm rfl<|qp rfl (vv_move rfl) (fun c9 => ?_) (fun c9 => ?_)
   · replace hm := iT c9 hm
     refine qk rfl<|qk rfl<|qk rfl<|qk rfl<|qk rfl<|qk rfl<|qm rfl ?_
     refine qm rfl<|qk rfl<|qk rfl<|qk rfl<|qk rfl<|qk rfl<|qk rfl ?_
     refine qm rfl<|sd_nil ?_
     exact ⟨rfl, true, sbq, hm, kz0⟩
   replace hm := iF c9 hm
   refine qv rfl (vv_fieldAddr fa_65_0 rfl)<|qv rfl (vv_load1 (v := .int .i64 p0.Epoch) one_3 rfl Bw1 rfl)<|qv rfl (vv_fieldAddr fa_65_1 rfl)<|qv rfl (vv_load1 (v := .int .i64 p0.Word) one_3 rfl Bw1 rfl)<|qv rfl (vv_mul (k := .i64) (a := 1000) (b := p0.Word) rfl rfl)<|qv rfl (vv_gtr (a := p0.Epoch) (b := w64 (1000 * p0.Word)) rfl rfl)<|qm rfl ?_
   refine qp rfl (vv_move rfl) (fun c10 => ?_) (fun c10 => ?_)
   · replace hm := iT c10 hm
     refine qk rfl<|qk rfl<|qk rfl<|qk rfl<|qk rfl<|qk rfl<|qm rfl ?_
     refine sd_nil ?_
     exact ⟨rfl, true, sbq, hm, kz0⟩
   replace hm := iF c10 hm
   refine qv rfl (vv_fieldAddr fa_65_0 rfl)<|qv rfl (vv_load1 (v := .int .i64 p0.Epoch) one_3 rfl Bw1 rfl)<|qv rfl (vv_fieldAddr fa_65_1 rfl)<|qv rfl (vv_load1 (v := .int .i64 p0.Word) one_3 rfl Bw1 rfl) ?_
   obtain ⟨x3, hx3, hm⟩ := bnd hm
   refine qv rfl (vv_remI (a := p0.Epoch) (b := p0.Word) rfl rfl hx3)<|qv rfl (vv_neq (a := x3) (b := 0) rfl rfl)<|qm rfl<|sd_nil ?_
   exact ⟨rfl, (decide (x3 ≠ 0)), sbq, hm, kz0⟩
 clear hm; rintro a1 w2 ⟨hm, K2⟩
 have z4 := K2.size
 unfold epoch_CheckAir_J1 at hm
 refine sw_cond rfl (fun c1 => ?_) (fun c1 => ?_)
 · replace hm := cnd_t c1 hm
   refine qs 1 rfl<|qm rfl<|qb ?_
   have X5 := (X3.kz K2)
   cases hm
   refine ⟨_, _, rfl, res_1 rfl (rv_tmp rfl), ?_⟩
   exact ⟨rfl, X5⟩
 replace hm := cnd_f c1 hm
 refine qu<|qs 4 rfl<|qv rfl (vv_fieldAddr fa_65_1 rfl) ?_
 have B6 := (Bw1.kz K2)
 refine qv rfl (vv_load1 (v := .int .i64 p0.Word) one_3 rfl B6 rfl)<|qv rfl (vv_mul (k := .i64) (a := 3) (b := p0.Word) rfl rfl)<|qm rfl<|sd_done<|sw_seq ?_
 have X7 := (X3.kz K2)
 refine qj (β := Bool) (rg 38 40) (fun a2 => [(77, .bool a2)]) (fun a2 wr => (epoch_CheckAir_J2 a2 = some r) ∧ Kz [] w2 wr) ?_ ?_
 · refine qg 40 rfl<|qv rfl (vv_fieldAddr fa_65_2 rfl)<|qv rfl (vv_load1 (v := .int .i64 p0.Early) one_3 rfl B6 rfl)<|qv rfl (vv_fieldAddr fa_65_3 rfl)<|qv rfl (vv_load1 (v := .int .i64 p0.Drift) one_3 rfl B6 rfl)<|qv rfl (vv_fieldAddr fa_65_4 rfl)<|qv rfl (vv_load1 (v := .int .i64 p0.Delay) one_3 rfl B6 rfl) ?_
   refine qv rfl (vv_minK3 rfl rfl rfl)<|qv rfl (vv_lss (a := mnI (mnI p0.Early p0.Drift) p0.Delay) (b := 0) rfl rfl)<|qp rfl (vv_move rfl) (fun c3 => ?_) (fun c3 => ?_)
   · replace hm := iT c3 hm
     refine qk rfl<|qk rfl<|qk rfl<|qk rfl<|qm rfl<|qm rfl<|qk rfl ?_
     refine qk rfl<|qk rfl<|qk rfl<|qm rfl<|qm rfl<|qk rfl<|qk rfl ?_
     refine qk rfl<|qk rfl<|qk rfl<|qk rfl<|qk rfl<|qk rfl<|qm rfl ?_
     refine qm rfl<|qk rfl<|qk rfl<|qk rfl<|qk rfl<|qk rfl<|qk rfl ?_
     refine qk rfl<|qk rfl<|qm rfl<|sd_nil ?_
     exact ⟨rfl, true, sbq, hm, kz0⟩
   replace hm := iF c3 hm
   refine qv rfl (vv_fieldAddr fa_65_3 rfl)<|qv rfl (vv_load1 (v := .int .i64 p0.Drift) one_3 rfl B6 rfl)<|qm rfl<|qv rfl (vv_geq (a := p0.Drift) (b := w64 (3 * p0.Word)) rfl rfl)<|qm rfl<|qp rfl (vv_move rfl) (fun c4 => ?_) (fun c4 => ?_)
   · replace hm := iT c4 hm
     refine qk rfl<|qk rfl<|qk rfl<|qk rfl<|qm rfl<|qm rfl<|qk rfl ?_
     refine qk rfl<|qk rfl<|qk rfl<|qk rfl<|qk rfl<|qk rfl<|qk rfl ?_
     refine qm rfl<|qm rfl<|qk rfl<|qk rfl<|qk rfl<|qk rfl<|qk rfl ?_
     refine qk rfl<|qk rfl<|qk rfl<|qm rfl<|sd_nil ?_
     exact ⟨rfl, true, sbq, hm, kz0⟩
   replace hm := iF c4 hm
   refine qv rfl (vv_fieldAddr fa_65_4 rfl)<|qv rfl (vv_load1 (v := .int .i64 p0.Delay) one_3 rfl B6 rfl)<|qm rfl<|qv rfl (vv_geq (a := p0.Delay) (b := w64 (3 * p0.Word)) rfl rfl)<|qm rfl<|qp rfl (vv_move rfl) (fun c5 => ?_) (fun c5 => ?_)
   · replace hm := iT c5 hm
     refine qk rfl<|qk rfl<|qk rfl<|qk rfl<|qk rfl<|qk rfl<|qk rfl ?_
     refine qk rfl<|qm rfl<|qm rfl<|qk rfl<|qk rfl<|qk rfl<|qk rfl ?_
     refine qk rfl<|qk rfl<|qk rfl<|qk rfl<|qm rfl<|sd_nil ?_
     exact ⟨rfl, true, sbq, hm, kz0⟩
   replace hm := iF c5 hm
   refine qv rfl (vv_fieldAddr fa_65_3 rfl)<|qv rfl (vv_load1 (v := .int .i64 p0.Drift) one_3 rfl B6 rfl)<|qv rfl (vv_mul (k := .i64) (a := 2) (b := p0.Drift) rfl rfl)<|qv rfl (vv_fieldAddr fa_65_4 rfl)<|qv rfl (vv_load1 (v := .int .i64 p0.Delay) one_3 rfl B6 rfl)<|qv rfl (vv_add (k := .i64) (a := w64 (2 * p0.Drift)) (b := p0.Delay) rfl rfl)<|qm rfl ?_
   refine qv rfl (vv_geq (a := w64 ((w64 (2 * p0.Drift)) + p0.Delay)) (b := w64 (3 * p0.Word)) rfl rfl)<|qm rfl<|qp rfl (vv_move rfl) (fun c6 => ?_) (fun c6 => ?_)
   · replace hm := iT c6 hm
     refine qk rfl<|qk rfl<|qk rfl<|qk rfl<|qk rfl<|qk rfl<|qk rfl ?_
     refine qk rfl<|qm rfl<|sd_nil ?_
     exact ⟨rfl, true, sbq, hm, kz0⟩
   replace hm := iF c6 hm
   refine qv rfl (vv_fieldAddr fa_65_2 rfl)<|qv rfl (vv_load1 (v := .int .i64 p0.Early) one_3 rfl B6 rfl)<|qv rfl (vv_fieldAddr fa_65_0 rfl)<|qv rfl (vv_load1 (v := .int .i64 p0.Epoch) one_3 rfl B6 rfl)<|qv rfl (vv_fieldAddr fa_65_4 rfl)<|qv rfl (vv_load1 (v := .int .i64 p0.Delay) one_3 rfl B6 rfl)<|qv rfl (vv_sub (k := .i64) (a := p0.Epoch) (b := p0.Delay) rfl rfl) ?_
   refine qv rfl (vv_gtr (a := p0.Early) (b := w64 (p0.Epoch - p0.Delay)) rfl rfl)<|qm rfl<|sd_nil ?_
   exact ⟨rfl, (decide (w64 (p0.Epoch - p0.Delay) < p0.Early)), sbq, hm, kz0⟩
 clear hm; rintro a2 w3 ⟨hm, K3⟩
 have z8 := K3.size
 unfold epoch_CheckAir_J2 at hm
 refine sw_cond rfl (fun c2 => ?_) (fun c2 => ?_)
 · replace hm := cnd_t c2 hm
   refine qs 1 rfl<|qm rfl<|qb ?_
   have X9 := (X7.kz K3)
   cases hm
   refine ⟨_, _, rfl, res_1 rfl (rv_tmp rfl), ?_⟩
   exact ⟨rfl, X9⟩
 replace hm := cnd_f c2 hm
 refine qu<|qs 1 rfl<|qm rfl<|sd_done<|sw_ret ?_
 have X10 := (X7.kz K3)
 cases hm
 refine ⟨_, _, rfl, res_1 rfl (rv_tmp rfl), ?_⟩
 exact ⟨rfl, X10⟩
theorem epoch_isTick_w {p0 r} (hm : epoch_isTick p0 = some r) {w : World} :
    Calls Tryz.prog 67 [.int .i64 p0].toArray w fun e w' => ∃ v, e = .returned v ∧ (v = .bool r ∧ Gr w w') := by
 unfold epoch_isTick at hm
 refine calls_of_sw 9 Tryz.func67 rfl rfl rfl<|qs 1 rfl<|qm rfl<|qd 7 rfl ?_
 refine qm rfl<|qv rfl (vv_geq (a := p0) (b := 0) rfl rfl)<|qp rfl (vv_move rfl) (fun c1 => ?_) (fun c1 => ?_)
 · replace hm := iT c1 hm
   refine qm rfl<|qv rfl (vv_leq (a := p0) (b := 1099511627776) rfl rfl)<|qm rfl<|qm rfl<|sd_done<|sw_ret ?_
   cases hm
   refine ⟨_, _, rfl, res_1 rfl (rv_tmp rfl), ?_⟩
   exact ⟨rfl, (Gr.refl w)⟩
 replace hm := iF c1 hm
 refine qk rfl<|qk rfl<|qm rfl<|qm rfl<|sd_done<|sw_ret ?_
 cases hm
 refine ⟨_, _, rfl, res_1 rfl (rv_tmp rfl), ?_⟩
 exact ⟨rfl, (Gr.refl w)⟩
theorem epoch_EpochOf_1_w {p0 r} (hm : epoch_EpochOf_1 p0 = some r) {w : World} :
    Calls Tryz.prog 173 [.agg (TAir.cs p0).toArray].toArray w fun e w' => ∃ v, e = .returned v ∧ (v = .int .i64 r ∧ Gr w w') := by
 unfold epoch_EpochOf_1 at hm
 refine calls_of_sw 5 Tryz.func173 rfl rfl rfl<|qs 2 rfl<|qe rfl (ev_box (cs := TAir.cs p0) rfl rfl) ?_
 rintro _ w1 ⟨b1, rfl, hbw1, Bw1, G1⟩
 have z1 := G1.size
 have lt2 := Bw1.lt
 refine qm rfl<|qd 3 rfl<|qv rfl (vv_fieldAddr fa_65_0 rfl)<|qv rfl (vv_load1 (v := .int .i64 p0.Epoch) one_3 rfl Bw1 rfl)<|qm rfl ?_
 refine sd_done<|sw_ret ?_
 have X3 := ((Gr.refl w).trans G1)
 cases hm
 refine ⟨_, _, rfl, res_1 rfl (rv_tmp rfl), ?_⟩
 exact ⟨rfl, X3⟩
theorem epoch_divided_epoch_EpochOf_1_w {p0 p1 r} (hm : epoch_divided_epoch_EpochOf_1 p0 p1 = some r) {w : World} :
    Calls Tryz.prog 91 [.agg (TAir.cs p0).toArray, .int .i64 p1, .func (.func 173) [].toArray [].toArray].toArray w fun e w' => ∃ v, e = .returned v ∧ (v = .tuple [.int .i64 r.1, .int .i64 r.2].toArray ∧ Gr w w') := by
 unfold epoch_divided_epoch_EpochOf_1 at hm
 refine calls_of_sw 22 Tryz.func91 rfl rfl rfl<|qs 3 rfl<|qe rfl (ev_box (cs := TAir.cs p0) rfl rfl) ?_
 rintro _ w1 ⟨b1, rfl, hbw1, Bw1, G1⟩
 have z1 := G1.size
 have lt2 := Bw1.lt
 refine qm rfl<|qm rfl<|sd_done<|sw_seq<|qs 3 rfl<|qv rfl (vv_loadW agg_65 rfl Bw1 rfl) ?_
 obtain ⟨x1, hx1, hm⟩ := bnd hm
 refine qe rfl (eC en_56 rfl (epoch_CheckAir_w hx1)) ?_
 rintro _ w2 ⟨rfl, G2⟩
 have z3 := G2.size
 refine qm rfl<|qd 2 rfl<|qm rfl<|qv rfl (vv_neq (a := x1) (b := 0) rfl rfl)<|sd_done ?_
 refine sw_cond rfl (fun c1 => ?_) (fun c1 => ?_)
 · replace hm := iT c1 hm
   refine qs 3 rfl<|qm rfl<|qm rfl<|qm rfl<|sd_done<|sw_ret ?_
   refine then_r ?_
   have X4 := (((Gr.refl w).trans G1).trans G2)
   cases hm
   refine ⟨_, _, rfl, res_2 rfl (rv_tmp rfl) (rv_tmp rfl), ?_⟩
   exact ⟨rfl, X4⟩
 replace hm := iF c1 hm
 refine qu<|sw_seq<|qs 3 rfl<|qm rfl ?_
 obtain ⟨x2, hx2, hm⟩ := bnd hm
 refine qe rfl (eC en_67 rfl (epoch_isTick_w hx2)) ?_
 rintro _ w3 ⟨rfl, G3⟩
 have z5 := G3.size
 refine qv rfl (vv_not rfl)<|sd_done<|sw_cond rfl (fun c2 => ?_) (fun c2 => ?_)
 · replace hm := cnd_t c2 hm
   refine qs 2 rfl<|qm rfl<|qm rfl<|sd_done<|sw_ret<|then_r ?_
   have X6 := ((((Gr.refl w).trans G1).trans G2).trans G3)
   cases hm
   refine ⟨_, _, rfl, res_2 rfl (rv_tmp rfl) (rv_tmp rfl), ?_⟩
   exact ⟨rfl, X6⟩
 replace hm := cnd_f c2 hm
 refine qu<|qs 7 rfl<|qm rfl<|qm rfl ?_
 have B7 := ((Bw1.gr G2).gr G3)
 refine qv rfl (vv_loadW agg_65 rfl B7 rfl) ?_
 obtain ⟨x3, hx3, hm⟩ := bnd hm
 refine qe rfl (ev_callV en_173 rfl rfl (epoch_EpochOf_1_w hx3)) ?_
 rintro _ w4 ⟨rfl, G4⟩
 have z8 := G4.size
 obtain ⟨x4, hx4, hm⟩ := bnd hm
 refine qv rfl (vv_quoI (a := p1) (b := x3) rfl rfl hx4)<|qm rfl<|qm rfl<|sd_done<|sw_ret ?_
 have X9 := (((((Gr.refl w).trans G1).trans G2).trans G3).trans G4)
 cases hm
 refine ⟨_, _, rfl, res_2 rfl (rv_tmp rfl) (rv_tmp rfl), ?_⟩
 exact ⟨rfl, X9⟩
theorem epoch_EpochOf_w {p0 p1 r} (hm : epoch_EpochOf p0 p1 = some r) {w : World} :
    Calls Tryz.prog 90 [.agg (TAir.cs p0).toArray, .int .i64 p1].toArray w fun e w' => ∃ v, e = .returned v ∧ (v = .tuple [.int .i64 r.1, .int .i64 r.2].toArray ∧ Gr w w') := by
 unfold epoch_EpochOf at hm
 refine calls_of_sw 11 Tryz.func90 rfl rfl rfl<|qs 3 rfl<|qe rfl (ev_box (cs := TAir.cs p0) rfl rfl) ?_
 rintro _ w1 ⟨b1, rfl, hbw1, Bw1, G1⟩
 have z1 := G1.size
 have lt2 := Bw1.lt
 refine qm rfl<|qm rfl<|qd 7 rfl<|qv rfl (vv_loadW agg_65 rfl Bw1 rfl)<|qm rfl ?_
 obtain ⟨x1, hx1, hm⟩ := bnd hm
 refine qe rfl (eC en_91 rfl (epoch_divided_epoch_EpochOf_1_w hx1)) ?_
 rintro _ w2 ⟨rfl, G2⟩
 have z3 := G2.size
 refine qm rfl<|qm rfl<|qm rfl<|qm rfl<|sd_done<|sw_ret ?_
 have X4 := (((Gr.refl w).trans G1).trans G2)
 cases hm
 refine ⟨_, _, rfl, res_2 rfl (rv_tmp rfl) (rv_tmp rfl), ?_⟩
 exact ⟨rfl, X4⟩
theorem epoch_PeriodOf_1_w {p0 r} (hm : epoch_PeriodOf_1 p0 = some r) {w : World} :
    Calls Tryz.prog 92 [.agg (TAir.cs p0).toArray].toArray w fun e w' => ∃ v, e = .returned v ∧ (v = .int .i64 r ∧ Gr w w') := by
 unfold epoch_PeriodOf_1 at hm
 refine calls_of_sw 5 Tryz.func92 rfl rfl rfl<|qs 2 rfl<|qe rfl (ev_box (cs := TAir.cs p0) rfl rfl) ?_
 rintro _ w1 ⟨b1, rfl, hbw1, Bw1, G1⟩
 have z1 := G1.size
 have lt2 := Bw1.lt
 refine qm rfl<|qd 3 rfl<|qv rfl (vv_fieldAddr fa_65_1 rfl)<|qv rfl (vv_load1 (v := .int .i64 p0.Word) one_3 rfl Bw1 rfl)<|qm rfl ?_
 refine sd_done<|sw_ret ?_
 have X3 := ((Gr.refl w).trans G1)
 cases hm
 refine ⟨_, _, rfl, res_1 rfl (rv_tmp rfl), ?_⟩
 exact ⟨rfl, X3⟩
theorem epoch_divided_epoch_PeriodOf_1_w {p0 p1 r} (hm : epoch_divided_epoch_PeriodOf_1 p0 p1 = some r) {w : World} :
    Calls Tryz.prog 91 [.agg (TAir.cs p0).toArray, .int .i64 p1, .func (.func 92) [].toArray [].toArray].toArray w fun e w' => ∃ v, e = .returned v ∧ (v = .tuple [.int .i64 r.1, .int .i64 r.2].toArray ∧ Gr w w') := by
 unfold epoch_divided_epoch_PeriodOf_1 at hm
 refine calls_of_sw 22 Tryz.func91 rfl rfl rfl<|qs 3 rfl<|qe rfl (ev_box (cs := TAir.cs p0) rfl rfl) ?_
 rintro _ w1 ⟨b1, rfl, hbw1, Bw1, G1⟩
 have z1 := G1.size
 have lt2 := Bw1.lt
 refine qm rfl<|qm rfl<|sd_done<|sw_seq<|qs 3 rfl<|qv rfl (vv_loadW agg_65 rfl Bw1 rfl) ?_
 obtain ⟨x1, hx1, hm⟩ := bnd hm
 refine qe rfl (eC en_56 rfl (epoch_CheckAir_w hx1)) ?_
 rintro _ w2 ⟨rfl, G2⟩
 have z3 := G2.size
 refine qm rfl<|qd 2 rfl<|qm rfl<|qv rfl (vv_neq (a := x1) (b := 0) rfl rfl)<|sd_done ?_
 refine sw_cond rfl (fun c1 => ?_) (fun c1 => ?_)
 · replace hm := iT c1 hm
   refine qs 3 rfl<|qm rfl<|qm rfl<|qm rfl<|sd_done<|sw_ret ?_
   refine then_r ?_
   have X4 := (((Gr.refl w).trans G1).trans G2)
   cases hm
   refine ⟨_, _, rfl, res_2 rfl (rv_tmp rfl) (rv_tmp rfl), ?_⟩
   exact ⟨rfl, X4⟩
 replace hm := iF c1 hm
 refine qu<|sw_seq<|qs 3 rfl<|qm rfl ?_
 obtain ⟨x2, hx2, hm⟩ := bnd hm
 refine qe rfl (eC en_67 rfl (epoch_isTick_w hx2)) ?_
 rintro _ w3 ⟨rfl, G3⟩
 have z5 := G3.size
 refine qv rfl (vv_not rfl)<|sd_done<|sw_cond rfl (fun c2 => ?_) (fun c2 => ?_)
 · replace hm := cnd_t c2 hm
   refine qs 2 rfl<|qm rfl<|qm rfl<|sd_done<|sw_ret<|then_r ?_
   have X6 := ((((Gr.refl w).trans G1).trans G2).trans G3)
   cases hm
   refine ⟨_, _, rfl, res_2 rfl (rv_tmp rfl) (rv_tmp rfl), ?_⟩
   exact ⟨rfl, X6⟩
 replace hm := cnd_f c2 hm
 refine qu<|qs 7 rfl<|qm rfl<|qm rfl ?_
 have B7 := ((Bw1.gr G2).gr G3)
 refine qv rfl (vv_loadW agg_65 rfl B7 rfl) ?_
 obtain ⟨x3, hx3, hm⟩ := bnd hm
 refine qe rfl (ev_callV en_92 rfl rfl (epoch_PeriodOf_1_w hx3)) ?_
 rintro _ w4 ⟨rfl, G4⟩
 have z8 := G4.size
 obtain ⟨x4, hx4, hm⟩ := bnd hm
 refine qv rfl (vv_quoI (a := p1) (b := x3) rfl rfl hx4)<|qm rfl<|qm rfl<|sd_done<|sw_ret ?_
 have X9 := (((((Gr.refl w).trans G1).trans G2).trans G3).trans G4)
 cases hm
 refine ⟨_, _, rfl, res_2 rfl (rv_tmp rfl) (rv_tmp rfl), ?_⟩
 exact ⟨rfl, X9⟩
theorem epoch_PeriodOf_w {p0 p1 r} (hm : epoch_PeriodOf p0 p1 = some r) {w : World} :
    Calls Tryz.prog 44 [.agg (TAir.cs p0).toArray, .int .i64 p1].toArray w fun e w' => ∃ v, e = .returned v ∧ (v = .tuple [.int .i64 r.1, .int .i64 r.2].toArray ∧ Gr w w') := by
 unfold epoch_PeriodOf at hm
 refine calls_of_sw 11 Tryz.func44 rfl rfl rfl<|qs 3 rfl<|qe rfl (ev_box (cs := TAir.cs p0) rfl rfl) ?_
 rintro _ w1 ⟨b1, rfl, hbw1, Bw1, G1⟩
 have z1 := G1.size
 have lt2 := Bw1.lt
 refine qm rfl<|qm rfl<|qd 7 rfl<|qv rfl (vv_loadW agg_65 rfl Bw1 rfl)<|qm rfl ?_
 obtain ⟨x1, hx1, hm⟩ := bnd hm
 refine qe rfl (eC en_91 rfl (epoch_divided_epoch_PeriodOf_1_w hx1)) ?_
 rintro _ w2 ⟨rfl, G2⟩
 have z3 := G2.size
 refine qm rfl<|qm rfl<|qm rfl<|qm rfl<|sd_done<|sw_ret ?_
 have X4 := (((Gr.refl w).trans G1).trans G2)
 cases hm
 refine ⟨_, _, rfl, res_2 rfl (rv_tmp rfl) (rv_tmp rfl), ?_⟩
 exact ⟨rfl, X4⟩
theorem epoch_Due_w {p0 p1 r} (hm : epoch_Due p0 p1 = some r) {w : World} :
    Calls Tryz.prog 46 [.agg (TAir.cs p0).toArray, .int .i64 p1].toArray w fun e w' => ∃ v, e = .returned v ∧ (∃ ur0_s zr0_s gr0_s, v = .tuple [ur0_s, .int .i64 r.2].toArray ∧ Own w' zr0_s gr0_s 3 1 ur0_s (r.1.map ic) ∧ Hdn (zr0_s = 0 ∨ w.heap.size ≤ gr0_s) ∧ Gr w w') := by
 unfold epoch_Due at hm
 refine calls_of_sw 36 Tryz.func46 rfl rfl rfl<|qs 3 rfl<|qe rfl (ev_box (cs := TAir.cs p0) rfl rfl) ?_
 rintro _ w1 ⟨b1, rfl, hbw1, Bw1, G1⟩
 have z1 := G1.size
 have lt2 := Bw1.lt
 refine qm rfl<|qm rfl<|qd 8 rfl<|qv rfl (vv_loadW agg_65 rfl Bw1 rfl)<|qm rfl ?_
 obtain ⟨x1, hx1, hm⟩ := bnd hm
 refine qe rfl (eC en_90 rfl (epoch_EpochOf_w hx1)) ?_
 rintro _ w2 ⟨rfl, G2⟩
 have z3 := G2.size
 refine qm rfl<|qm rfl<|qm rfl<|qm rfl<|qm rfl<|sd_done<|sw_seq ?_
 refine qs 2 rfl<|qm rfl<|qv rfl (vv_neq (a := x1.2) (b := 0) rfl rfl)<|sd_done<|sw_cond rfl (fun c1 => ?_) (fun c1 => ?_)
 · replace hm := iT c1 hm
   refine qs 3 rfl<|qm rfl<|qm rfl<|qm rfl<|sd_done<|sw_ret ?_
   refine then_r ?_
   have X4 := (((Gr.refl w).trans G1).trans G2)
   cases hm
   refine ⟨_, _, rfl, res_2 rfl (rv_tmp rfl) (rv_tmp rfl), ?_⟩
   exact ⟨(.slice none 0 0), 0, 0, rfl, (own_nil _ 0 3 1), ⟨.inl rfl⟩, X4⟩
 replace hm := iF c1 hm
 refine qu<|qs 3 rfl<|qm rfl<|qe rfl (ev_litT [x1.1] ic bsl_44_1 rfl rfl (ws_of rfl) rfl rfl rfl) ?_
 rintro vw3 w3 ⟨gw3, hbw3, Ow3, G3⟩
 have z5 := G3.size
 have lt6 := Ow3.lth
 refine qm rfl<|sd_done<|sw_seq<|qs 10 rfl<|qm rfl<|qm rfl ?_
 refine qv rfl (vv_add (k := .i64) (a := x1.1) (b := 1) rfl rfl)<|qv rfl (vv_fieldAddr fa_65_0 rfl) ?_
 have B7 := ((Bw1.gr G2).gr G3)
 refine qv rfl (vv_load1 (v := .int .i64 p0.Epoch) one_3 rfl B7 rfl)<|qv rfl (vv_mul (k := .i64) (a := w64 (x1.1 + 1)) (b := p0.Epoch) rfl rfl)<|qv rfl (vv_fieldAddr fa_65_2 rfl)<|qv rfl (vv_load1 (v := .int .i64 p0.Early) one_3 rfl B7 rfl)<|qv rfl (vv_sub (k := .i64) (a := w64 ((w64 (x1.1 + 1)) * p0.Epoch)) (b := p0.Early) rfl rfl)<|qv rfl (vv_geq (a := p1) (b := w64 ((w64 ((w64 (x1.1 + 1)) * p0.Epoch)) - p0.Early)) rfl rfl)<|sd_done ?_
 refine cnF rfl (fun c2 => ?_) (fun c2 => ?_)
 · replace hm := iF c2 hm
   refine qu<|qs 3 rfl<|qm rfl<|qm rfl<|qm rfl ?_
   refine sd_done<|sw_ret ?_
   have X13 := ((((Gr.refl w).trans G1).trans G2).trans G3)
   cases hm
   refine ⟨_, _, rfl, res_2 rfl (rv_tmp rfl) (rv_tmp rfl), ?_⟩
   exact ⟨vw3, 1, gw3, rfl, Ow3, ⟨(.inr tk0)⟩, X13⟩
 replace hm := iT c2 hm
 refine qg 6 rfl<|qm rfl<|qm rfl<|qv rfl (vv_add (k := .i64) (a := x1.1) (b := 1) rfl rfl)<|qe rfl (ev_litT [w64 (x1.1 + 1)] ic bsl_44_1 rfl rfl (ws_of rfl) rfl rfl rfl) ?_
 rintro vw4 w4 ⟨gw4, hbw4, Ow4, G4⟩
 have z8 := G4.size
 have lt9 := Ow4.lth
 have B10 := (Ow3.gr G4)
 obtain ⟨l2, hl2, hm⟩ := bnd hm
 refine qe rfl (ev_appT (l := [x1.1]) (m := [w64 (x1.1 + 1)]) (c := ic) apt_44 rfl rfl B10 (Own.rd Ow4) hl2 (by decide)) ?_
 rintro vw5 w5 ⟨zw5, gw5, Ow5, Aw5, qw5, rw5⟩
 have z11 := Aw5.size
 refine qm rfl<|qd 3 rfl<|qm rfl<|qm rfl<|qm rfl ?_
 refine sd_done<|sw_ret ?_
 have X12 := ((((((Gr.refl w).trans G1).trans G2).trans G3).trans G4).ka Aw5 (tk1 ((.inr tk0) : 1 = 0 ∨ w.heap.size ≤ gw3)))
 cases hm
 refine ⟨_, _, rfl, res_2 rfl (rv_tmp rfl) (rv_tmp rfl), ?_⟩
 exact ⟨vw5, zw5, gw5, rfl, Ow5, ⟨(pv_app (A := (fun x => w.heap.size ≤ x)) rw5 (.inr tk0))⟩, X12⟩
theorem epoch_isLocal_w {p0 r} (hm : epoch_isLocal p0 = some r) {w : World} :
    Calls Tryz.prog 93 [.int .i64 p0].toArray w fun e w' => ∃ v, e = .returned v ∧ (v = .bool r ∧ Gr w w') := by
 unfold epoch_isLocal at hm
 refine calls_of_sw 9 Tryz.func93 rfl rfl rfl<|qs 1 rfl<|qm rfl<|qd 7 rfl ?_
 refine qm rfl<|qv rfl (vv_geq (a := p0) (b := (-1099511627776)) rfl rfl)<|qp rfl (vv_move rfl) (fun c1 => ?_) (fun c1 => ?_)
 · replace hm := iT c1 hm
   refine qm rfl<|qv rfl (vv_leq (a := p0) (b := 2199023255552) rfl rfl)<|qm rfl<|qm rfl<|sd_done<|sw_ret ?_
   cases hm
   refine ⟨_, _, rfl, res_1 rfl (rv_tmp rfl), ?_⟩
   exact ⟨rfl, (Gr.refl w)⟩
 replace hm := iF c1 hm
 refine qk rfl<|qk rfl<|qm rfl<|qm rfl<|sd_done<|sw_ret ?_
 cases hm
 refine ⟨_, _, rfl, res_1 rfl (rv_tmp rfl), ?_⟩
 exact ⟨rfl, (Gr.refl w)⟩
theorem epoch_span_w {p0 p1 r} (hm : epoch_span p0 p1 = some r) {w : World} :
    Calls Tryz.prog 174 [.agg (TAir.cs p0).toArray, .int .i64 p1].toArray w fun e w' => ∃ v, e = .returned v ∧ (v = .tuple [.int .i64 r.1, .int .i64 r.2].toArray ∧ Gr w w') := by
 unfold epoch_span at hm
 refine calls_of_sw 18 Tryz.func174 rfl rfl rfl<|qs 3 rfl<|qe rfl (ev_box (cs := TAir.cs p0) rfl rfl) ?_
 rintro _ w1 ⟨b1, rfl, hbw1, Bw1, G1⟩
 have z1 := G1.size
 have lt2 := Bw1.lt
 refine qm rfl<|qm rfl<|sd_done<|sw_seq<|dw [([])] [] (.leaf [(0,10),(1,10),(2,10),(3,10),(4,10),(5,10),(6,10),(7,10),(8,10),(9,10),(10,10),(11,10),(12,10),(13,10)]) ?_
 intro w2 G2 zw2
 refine sdz_leaf<|dm 0 rfl rfl<|dh 0 rfl rfl (fun w hS => vv_fieldAddr fa_65_3 rfl) ?_
 have B3 := (Bw1.gr G2)
 refine dh 0 rfl rfl (fun w hS => vv_load1 (v := .int .i64 p0.Drift) one_3 rfl (Bx.kp B3 hS) rfl)<|dh 0 rfl rfl (fun w hS => vv_sub (k := .i64) (a := p1) (b := p0.Drift) rfl rfl)<|dh 0 rfl rfl (fun w hS => vv_fieldAddr fa_65_4 rfl)<|dh 0 rfl rfl (fun w hS => vv_load1 (v := .int .i64 p0.Delay) one_3 rfl (Bx.kp B3 hS) rfl)<|dh 0 rfl rfl (fun w hS => vv_sub (k := .i64) (a := w64 (p1 - p0.Drift)) (b := p0.Delay) rfl rfl)<|dh 0 rfl rfl (fun w hS => vv_maxK rfl rfl)<|dm 0 rfl rfl ?_
 refine dh 0 rfl rfl (fun w hS => vv_fieldAddr fa_65_3 rfl)<|dh 0 rfl rfl (fun w hS => vv_load1 (v := .int .i64 p0.Drift) one_3 rfl (Bx.kp B3 hS) rfl)<|dh 0 rfl rfl (fun w hS => vv_add (k := .i64) (a := p1) (b := p0.Drift) rfl rfl)<|dm 0 rfl rfl<|dm 0 rfl rfl<|sd_done<|sw_ret ?_
 have X4 := (((Gr.refl w).trans G1).trans G2)
 cases hm
 refine ⟨_, _, rfl, res_2 rfl (rv_tmp rfl) (rv_tmp rfl), ?_⟩
 exact ⟨rfl, X4⟩
theorem epoch_period_w {p0 p1 p2 r} (hm : epoch_period p0 p1 p2 = some r) {w : World} :
    Calls Tryz.prog 94 [.agg (TAir.cs p0).toArray, .int .i64 p1, bv p2].toArray w fun e w' => ∃ v, e = .returned v ∧ (v = .tuple [.int .i64 r.1, .bool r.2].toArray ∧ Gr w w') := by
 unfold epoch_period at hm
 refine calls_of_sw 39 Tryz.func94 rfl rfl rfl<|qs 3 rfl<|qe rfl (ev_box (cs := TAir.cs p0) rfl rfl) ?_
 rintro _ w1 ⟨b1, rfl, hbw1, Bw1, G1⟩
 have z1 := G1.size
 have lt2 := Bw1.lt
 refine qm rfl<|qm rfl<|qd 8 rfl<|qv rfl (vv_loadW agg_65 rfl Bw1 rfl)<|qm rfl ?_
 obtain ⟨x1, hx1, hm⟩ := bnd hm
 refine qe rfl (eC en_174 rfl (epoch_span_w hx1)) ?_
 rintro _ w2 ⟨rfl, G2⟩
 have z3 := G2.size
 refine qm rfl<|qm rfl<|qm rfl<|qm rfl<|qm rfl<|sd_done<|sw_seq ?_
 refine qs 2 rfl<|qm rfl<|qv rfl (vv_lss (a := x1.2) (b := 0) rfl rfl)<|sd_done<|sw_cond rfl (fun c1 => ?_) (fun c1 => ?_)
 · replace hm := iT c1 hm
   refine qs 2 rfl<|qm rfl<|qm rfl<|sd_done<|sw_ret<|then_r ?_
   have X4 := (((Gr.refl w).trans G1).trans G2)
   cases hm
   refine ⟨_, _, rfl, res_2 rfl (rv_tmp rfl) (rv_tmp rfl), ?_⟩
   exact ⟨rfl, X4⟩
 replace hm := iF c1 hm
 refine qu<|qs 5 rfl<|qm rfl<|qv rfl (vv_fieldAddr fa_65_1 rfl) ?_
 have B5 := (Bw1.gr G2)
 refine qv rfl (vv_load1 (v := .int .i64 p0.Word) one_3 rfl B5 rfl) ?_
 obtain ⟨x2, hx2, hm⟩ := bnd hm
 refine qv rfl (vv_quoI (a := x1.1) (b := p0.Word) rfl rfl hx2)<|qm rfl<|qd 10 rfl<|qm rfl<|qm rfl ?_
 refine qv rfl (vv_cvBI cv_5_3 rfl)<|qm rfl ?_
 obtain ⟨x3, hx3, hm⟩ := bnd hm
 refine qv rfl (vv_remI (a := x2) (b := 4) rfl rfl hx3)<|qv rfl (vv_sub (k := .i64) (a := un8 p2) (b := x3) rfl rfl)<|qv rfl (vv_add (k := .i64) (a := w64 ((un8 p2) - x3)) (b := 4) rfl rfl) ?_
 obtain ⟨x4, hx4, hm⟩ := bnd hm
 refine qv rfl (vv_remI (a := w64 ((w64 ((un8 p2) - x3)) + 4)) (b := 4) rfl rfl hx4)<|qv rfl (vv_add (k := .i64) (a := x2) (b := x4) rfl rfl)<|qm rfl<|sd_done<|sw_seq<|dw [([])] [] (.leaf [(0,10),(1,10),(2,10),(3,10),(4,10),(5,10),(6,10),(7,10),(8,10)]) ?_
 intro w3 G3 zw3
 refine sdz_leaf<|dm 0 rfl rfl<|dm 0 rfl rfl<|dm 0 rfl rfl<|dh 0 rfl rfl (fun w hS => vv_fieldAddr fa_65_1 rfl) ?_
 have B6 := (B5.gr G3)
 refine dh 0 rfl rfl (fun w hS => vv_load1 (v := .int .i64 p0.Word) one_3 rfl (Bx.kp B6 hS) rfl) ?_
 obtain ⟨x5, hx5, hm⟩ := bnd hm
 refine dh 0 rfl rfl (fun w hS => vv_quoI (a := x1.2) (b := p0.Word) rfl rfl hx5)<|dh 0 rfl rfl (fun w hS => vv_leq (a := w64 (x2 + x4)) (b := x5) rfl rfl)<|dm 0 rfl rfl<|dm 0 rfl rfl<|sd_done<|sw_ret ?_
 have X7 := ((((Gr.refl w).trans G1).trans G2).trans G3)
 cases hm
 refine ⟨_, _, rfl, res_2 rfl (rv_tmp rfl) (rv_tmp rfl), ?_⟩
 exact ⟨rfl, X7⟩
theorem epoch_Resolve_w {p0 p1 p2 r} (hm : epoch_Resolve p0 p1 p2 = some r) {w : World} :
    Calls Tryz.prog 45 [.agg (TAir.cs p0).toArray, .int .i64 p1, bv p2].toArray w fun e w' => ∃ v, e = .returned v ∧ (v = .tuple [.int .i64 r.1, .int .i64 r.2].toArray ∧ Gr w w') := by
 unfold epoch_Resolve at hm
 refine calls_of_sw 33 Tryz.func45 rfl rfl rfl<|qs 3 rfl<|qe rfl (ev_box (cs := TAir.cs p0) rfl rfl) ?_
 rintro _ w1 ⟨b1, rfl, hbw1, Bw1, G1⟩
 have z1 := G1.size
 have lt2 := Bw1.lt
 refine qm rfl<|qm rfl<|sd_done<|sw_seq<|qs 3 rfl<|qv rfl (vv_loadW agg_65 rfl Bw1 rfl) ?_
 obtain ⟨x1, hx1, hm⟩ := bnd hm
 refine qe rfl (eC en_56 rfl (epoch_CheckAir_w hx1)) ?_
 rintro _ w2 ⟨rfl, G2⟩
 have z3 := G2.size
 refine qm rfl<|qd 2 rfl<|qm rfl<|qv rfl (vv_neq (a := x1) (b := 0) rfl rfl)<|sd_done ?_
 refine sw_cond rfl (fun c1 => ?_) (fun c1 => ?_)
 · replace hm := iT c1 hm
   refine qs 3 rfl<|qm rfl<|qm rfl<|qm rfl<|sd_done<|sw_ret ?_
   refine then_r ?_
   have X4 := (((Gr.refl w).trans G1).trans G2)
   cases hm
   refine ⟨_, _, rfl, res_2 rfl (rv_tmp rfl) (rv_tmp rfl), ?_⟩
   exact ⟨rfl, X4⟩
 replace hm := iF c1 hm
 refine qu<|sw_seq ?_
 have X5 := (((Gr.refl w).trans G1).trans G2)
 refine qj (β := Bool) (rg 16 7) (fun a2 => [(22, .bool a2)]) (fun a2 wr => (epoch_Resolve_J1 p0 p1 p2 a2 = some r) ∧ Kz [] w2 wr) ?_ ?_
 · refine qg 7 rfl<|qm rfl ?_
   obtain ⟨x4, hx4, hm⟩ := bnd hm
   refine qe rfl (eC en_93 rfl (epoch_isLocal_w hx4)) ?_
   rintro _ w5 ⟨rfl, G5⟩
   have z12 := G5.size
   refine qv rfl (vv_not rfl)<|qp rfl (vv_move rfl) (fun c4 => ?_) (fun c4 => ?_)
   · replace hm := cnd_t c4 hm
     refine qk rfl<|qk rfl<|qm rfl<|sd_nil ?_
     exact ⟨rfl, true, sbq, hm, (kz0.gr G5)⟩
   replace hm := cnd_f c4 hm
   refine qm rfl<|qv rfl (vv_gtrB (p := p2) (q := 3#8) rfl rfl)<|qm rfl<|sd_nil ?_
   exact ⟨rfl, (decide (3#8 < p2)), sbq, hm, (kz0.gr G5)⟩
 clear hm; rintro a2 w3 ⟨hm, K3⟩
 have z6 := K3.size
 unfold epoch_Resolve_J1 at hm
 refine sw_cond rfl (fun c2 => ?_) (fun c2 => ?_)
 · replace hm := cnd_t c2 hm
   refine qs 2 rfl<|qm rfl<|qm rfl<|sd_done<|sw_ret<|then_r ?_
   have X7 := (X5.kz K3)
   cases hm
   refine ⟨_, _, rfl, res_2 rfl (rv_tmp rfl) (rv_tmp rfl), ?_⟩
   exact ⟨rfl, X7⟩
 replace hm := cnd_f c2 hm
 refine qu<|qs 9 rfl ?_
 have B8 := ((Bw1.gr G2).kz K3)
 refine qv rfl (vv_loadW agg_65 rfl B8 rfl)<|qm rfl<|qm rfl ?_
 obtain ⟨x3, hx3, hm⟩ := bnd hm
 refine qe rfl (eC en_94 rfl (epoch_period_w hx3)) ?_
 rintro _ w4 ⟨rfl, G4⟩
 have z9 := G4.size
 refine qm rfl<|qm rfl<|qm rfl<|qm rfl<|qm rfl<|sd_done<|sw_seq ?_
 refine qs 2 rfl<|qm rfl<|qv rfl (vv_not rfl)<|sd_done<|sw_cond rfl (fun c3 => ?_) (fun c3 => ?_)
 · replace hm := cnd_t c3 hm
   refine qs 2 rfl<|qm rfl<|qm rfl<|sd_done<|sw_ret<|then_r ?_
   have X10 := ((X5.kz K3).trans G4)
   cases hm
   refine ⟨_, _, rfl, res_2 rfl (rv_tmp rfl) (rv_tmp rfl), ?_⟩
   exact ⟨rfl, X10⟩
 replace hm := cnd_f c3 hm
 refine qu<|qs 3 rfl<|qm rfl<|qm rfl<|qm rfl ?_
 refine sd_done<|sw_ret ?_
 have X11 := ((X5.kz K3).trans G4)
 cases hm
 refine ⟨_, _, rfl, res_2 rfl (rv_tmp rfl) (rv_tmp rfl), ?_⟩
 exact ⟨rfl, X11⟩
theorem epoch_timely_w {p0 p1 p2 r} (hm : epoch_timely p0 p1 p2 = some r) {w : World} :
    Calls Tryz.prog 95 [.agg (TAir.cs p0).toArray, .int .i64 p1, .int .i64 p2].toArray w fun e w' => ∃ v, e = .returned v ∧ (v = .bool r ∧ Gr w w') := by
 unfold epoch_timely at hm
 refine calls_of_sw 36 Tryz.func95 rfl rfl rfl<|qs 2 rfl<|qe rfl (ev_box (cs := TAir.cs p0) rfl rfl) ?_
 rintro _ w1 ⟨b1, rfl, hbw1, Bw1, G1⟩
 have z1 := G1.size
 have lt2 := Bw1.lt
 refine qm rfl<|qd 8 rfl<|qv rfl (vv_loadW agg_65 rfl Bw1 rfl)<|qm rfl ?_
 obtain ⟨x1, hx1, hm⟩ := bnd hm
 refine qe rfl (eC en_174 rfl (epoch_span_w hx1)) ?_
 rintro _ w2 ⟨rfl, G2⟩
 have z3 := G2.size
 refine qm rfl<|qm rfl<|qm rfl<|qm rfl<|qm rfl<|sd_done<|sw_seq ?_
 refine qg 22 rfl<|qm rfl<|qv rfl (vv_geq (a := x1.2) (b := 0) rfl rfl)<|qpF rfl (vv_move rfl) (fun c1 => ?_) (fun c1 => ?_)
 · replace hm := iF c1 hm
   refine qk rfl<|qk rfl<|qk rfl<|qk rfl<|qk rfl<|qk rfl<|qm rfl ?_
   refine qm rfl<|qk rfl<|qk rfl<|qk rfl<|qk rfl<|qk rfl<|qk rfl ?_
   refine qk rfl<|qk rfl<|qk rfl<|qm rfl<|qm rfl<|sd_done<|sw_ret ?_
   have X7 := (((Gr.refl w).trans G1).trans G2)
   cases hm
   refine ⟨_, _, rfl, res_1 rfl (rv_tmp rfl), ?_⟩
   exact ⟨rfl, X7⟩
 replace hm := iT c1 hm
 refine qm rfl<|qv rfl (vv_fieldAddr fa_65_0 rfl) ?_
 have B4 := (Bw1.gr G2)
 refine qv rfl (vv_load1 (v := .int .i64 p0.Epoch) one_3 rfl B4 rfl) ?_
 obtain ⟨x2, hx2, hm⟩ := bnd hm
 refine qv rfl (vv_quoI (a := x1.1) (b := p0.Epoch) rfl rfl hx2)<|qm rfl<|qv rfl (vv_leq (a := x2) (b := p2) rfl rfl)<|qm rfl<|qpF rfl (vv_move rfl) (fun c2 => ?_) (fun c2 => ?_)
 · replace hm := iF c2 hm
   refine qk rfl<|qk rfl<|qk rfl<|qk rfl<|qk rfl<|qk rfl<|qk rfl ?_
   refine qk rfl<|qk rfl<|qm rfl<|qm rfl<|sd_done<|sw_ret ?_
   have X6 := (((Gr.refl w).trans G1).trans G2)
   cases hm
   refine ⟨_, _, rfl, res_1 rfl (rv_tmp rfl), ?_⟩
   exact ⟨rfl, X6⟩
 replace hm := iT c2 hm
 refine qm rfl<|qm rfl<|qv rfl (vv_fieldAddr fa_65_0 rfl)<|qv rfl (vv_load1 (v := .int .i64 p0.Epoch) one_3 rfl B4 rfl)<|qv rfl (vv_mul (k := .i64) (a := p2) (b := p0.Epoch) rfl rfl)<|qv rfl (vv_fieldAddr fa_65_2 rfl)<|qv rfl (vv_load1 (v := .int .i64 p0.Early) one_3 rfl B4 rfl) ?_
 refine qv rfl (vv_sub (k := .i64) (a := w64 (p2 * p0.Epoch)) (b := p0.Early) rfl rfl)<|qv rfl (vv_geq (a := x1.2) (b := w64 ((w64 (p2 * p0.Epoch)) - p0.Early)) rfl rfl)<|qm rfl<|qm rfl<|sd_done<|sw_ret ?_
 have X5 := (((Gr.refl w).trans G1).trans G2)
 cases hm
 refine ⟨_, _, rfl, res_1 rfl (rv_tmp rfl), ?_⟩
 exact ⟨rfl, X5⟩
theorem epoch_InTime_w {p0 p1 p2 r} (hm : epoch_InTime p0 p1 p2 = some r) {w : World} :
    Calls Tryz.prog 47 [.agg (TAir.cs p0).toArray, .int .i64 p1, .int .i64 p2].toArray w fun e w' => ∃ v, e = .returned v ∧ (v = .tuple [.bool r.1, .int .i64 r.2].toArray ∧ Gr w w') := by
 unfold epoch_InTime at hm
 refine calls_of_sw 26 Tryz.func47 rfl rfl rfl<|qs 3 rfl<|qe rfl (ev_box (cs := TAir.cs p0) rfl rfl) ?_
 rintro _ w1 ⟨b1, rfl, hbw1, Bw1, G1⟩
 have z1 := G1.size
 have lt2 := Bw1.lt
 refine qm rfl<|qm rfl<|sd_done<|sw_seq<|qs 3 rfl<|qv rfl (vv_loadW agg_65 rfl Bw1 rfl) ?_
 obtain ⟨x1, hx1, hm⟩ := bnd hm
 refine qe rfl (eC en_56 rfl (epoch_CheckAir_w hx1)) ?_
 rintro _ w2 ⟨rfl, G2⟩
 have z3 := G2.size
 refine qm rfl<|qd 2 rfl<|qm rfl<|qv rfl (vv_neq (a := x1) (b := 0) rfl rfl)<|sd_done ?_
 refine sw_cond rfl (fun c1 => ?_) (fun c1 => ?_)
 · replace hm := iT c1 hm
   refine qs 3 rfl<|qm rfl<|qm rfl<|qm rfl<|sd_done<|sw_ret ?_
   refine then_r ?_
   have X4 := (((Gr.refl w).trans G1).trans G2)
   cases hm
   refine ⟨_, _, rfl, res_2 rfl (rv_tmp rfl) (rv_tmp rfl), ?_⟩
   exact ⟨rfl, X4⟩
 replace hm := iF c1 hm
 refine qu<|sw_seq ?_
 have X5 := (((Gr.refl w).trans G1).trans G2)
 refine qj (β := Bool) (rg 14 8) (fun a2 => [(21, .bool a2)]) (fun a2 wr => (epoch_InTime_J1 p0 p1 p2 a2 = some r) ∧ Kz [] w2 wr) ?_ ?_
 · refine qg 8 rfl<|qm rfl ?_
   obtain ⟨x4, hx4, hm⟩ := bnd hm
   refine qe rfl (eC en_93 rfl (epoch_isLocal_w hx4)) ?_
   rintro _ w5 ⟨rfl, G5⟩
   have z11 := G5.size
   refine qv rfl (vv_not rfl)<|qp rfl (vv_move rfl) (fun c3 => ?_) (fun c3 => ?_)
   · replace hm := cnd_t c3 hm
     refine qk rfl<|qk rfl<|qk rfl<|qm rfl<|sd_nil ?_
     exact ⟨rfl, true, sbq, hm, (kz0.gr G5)⟩
   replace hm := cnd_f c3 hm
   refine qm rfl ?_
   obtain ⟨x5, hx5, hm⟩ := bnd hm
   refine qe rfl (eC en_67 rfl (epoch_isTick_w hx5)) ?_
   rintro _ w6 ⟨rfl, G6⟩
   have z13 := G6.size
   refine qv rfl (vv_not rfl)<|qm rfl<|sd_nil ?_
   exact ⟨rfl, (!x5), sbq, hm, ((kz0.gr G5).gr G6)⟩
 clear hm; rintro a2 w3 ⟨hm, K3⟩
 have z6 := K3.size
 unfold epoch_InTime_J1 at hm
 refine sw_cond rfl (fun c2 => ?_) (fun c2 => ?_)
 · replace hm := cnd_t c2 hm
   refine qs 2 rfl<|qm rfl<|qm rfl<|sd_done<|sw_ret<|then_r ?_
   have X7 := (X5.kz K3)
   cases hm
   refine ⟨_, _, rfl, res_2 rfl (rv_tmp rfl) (rv_tmp rfl), ?_⟩
   exact ⟨rfl, X7⟩
 replace hm := cnd_f c2 hm
 refine qu<|qs 6 rfl ?_
 have B8 := ((Bw1.gr G2).kz K3)
 refine qv rfl (vv_loadW agg_65 rfl B8 rfl)<|qm rfl<|qm rfl ?_
 obtain ⟨x3, hx3, hm⟩ := bnd hm
 refine qe rfl (eC en_95 rfl (epoch_timely_w hx3)) ?_
 rintro _ w4 ⟨rfl, G4⟩
 have z9 := G4.size
 refine qm rfl<|qm rfl<|sd_done<|sw_ret ?_
 have X10 := ((X5.kz K3).trans G4)
 cases hm
 refine ⟨_, _, rfl, res_2 rfl (rv_tmp rfl) (rv_tmp rfl), ?_⟩
 exact ⟨rfl, X10⟩
theorem epoch_Session_w {p0 p1 r} (hm : epoch_Session p0 p1 = some r) {w : World} :
    Calls Tryz.prog 15 [kv p0, .int .i64 p1].toArray w fun e w' => ∃ v, e = .returned v ∧ (v = kv r ∧ Gr w w') := by
 unfold epoch_Session at hm
 refine calls_of_sw 9 Tryz.func15 rfl rfl rfl<|qs 2 rfl<|qe rfl (ev_box (cs := kb p0) rfl rfl) ?_
 rintro _ w1 ⟨b1, rfl, hbw1, Bw1, G1⟩
 have z1 := G1.size
 have lt2 := Bw1.lt
 refine qe rfl (ev_alloc (cs := kb k0) zv_23 rfl) ?_
 rintro _ w2 ⟨b2, rfl, hbw2, Bw2, G2⟩
 have z3 := G2.size
 have lt4 := Bw2.lt
 refine qd 5 rfl ?_
 have B5 := (Bw1.gr G2)
 refine qv rfl (vv_loadW agg_23 rfl B5 rfl)<|qm rfl<|qv rfl (vv_cvIU cv_3_24 rfl)<|qe rfl (eC en_48 rfl (derive_c p0 (un8 50#8) (un8_nn _) (un8_le _) (wd p1) _)) ?_
 rintro _ w3 ⟨rfl, G3⟩
 have z6 := G3.size
 have B7 := (Bw2.gr G3)
 refine qe rfl (ev_stW agg_23 rfl rfl rfl B7 rfl rfl) ?_
 rintro _ w4 ⟨Bw4, M4⟩
 have z8 := M4.size
 refine sd_done<|sw_ret ?_
 have X9 := (((((Gr.refl w).trans G1).trans G2).trans G3).md M4)
 cases hm
 refine ⟨_, _, rfl, res_1 rfl (rv_cellW agg_23 rfl Bw4 rfl), ?_⟩
 exact ⟨rfl, X9⟩
theorem epoch_covered_w {p0 p1 p2 p3 p4 vp2 zp2 gp2 op2 r} (hm : epoch_covered p0 p1 p2 p3 p4 = some r) {w : World} (hp2 : Rd w zp2 gp2 op2 1 vp2 (p2.map ic)) :
    Calls Tryz.prog 138 [kv p0, .agg (TScheme.cs p1).toArray, vp2, kv p3, wv p4].toArray w fun e w' => ∃ v, e = .returned v ∧ (∃ ur0_0 zr0_0 gr0_0 ur0_2 zr0_2 gr0_2, v = .tuple [.agg (THeader.cs r.1 ur0_0 ur0_2).toArray, .int .i64 r.2].toArray ∧ Own w' zr0_0 gr0_0 133 18 ur0_0 (r.1.Items.map TItem.cs) ∧ Hdn (zr0_0 = 0 ∨ w.heap.size ≤ gr0_0) ∧ Own w' zr0_2 gr0_2 31 2 ur0_2 (r.1.Points.map TPoint.cs) ∧ Hdn (zr0_2 = 0 ∨ w.heap.size ≤ gr0_2) ∧ Hdn (zr0_2 = 0 ∨ zr0_0 = 0 ∨ gr0_2 ≠ gr0_0) ∧ Gr w w') := by
 have lt1 := hp2.lth
 unfold epoch_covered at hm
 refine calls_of_sw 31 Tryz.func138 rfl rfl rfl<|qs 5 rfl<|qe rfl (ev_box (cs := kb p0) rfl rfl) ?_
 rintro _ w1 ⟨b1, rfl, hbw1, Bw1, G1⟩
 have z2 := G1.size
 have lt3 := Bw1.lt
 refine qe rfl (ev_box (cs := TScheme.cs p1) rfl rfl) ?_
 rintro _ w2 ⟨b2, rfl, hbw2, Bw2, G2⟩
 have z4 := G2.size
 have lt5 := Bw2.lt
 refine qe rfl (ev_box (cs := kb p3) rfl rfl) ?_
 rintro _ w3 ⟨b3, rfl, hbw3, Bw3, G3⟩
 have z6 := G3.size
 have lt7 := Bw3.lt
 refine qe rfl (ev_alloc (cs := THeader.cs (THeader.mk [] 0#64 [] k0 k0) (.slice none 0 0) (.slice none 0 0)) zv_48 rfl) ?_
 rintro _ w4 ⟨b4, rfl, hbw4, Bw4, G4⟩
 have z8 := G4.size
 have lt9 := Bw4.lt
 refine qm rfl<|qd 8 rfl ?_
 have Y1 := Gr.trans G3 G4
 have B10 := (Bw2.gr Y1)
 refine qv rfl (vv_loadW agg_28 rfl B10 rfl)<|qm rfl ?_
 have Y2 := Gr.trans (Gr.trans G1 G2) Y1
 have B11 := (hp2.gr Y2)
 obtain ⟨x1, hx1, hm⟩ := bnd hm
 refine qe rfl (eC en_51 rfl (cover_Cover_w hx1 B11)) ?_
 rintro _ w5 ⟨u5_r0_s, z5_r0_s, g5_r0_s, rfl, O5_r0_s, f5_r0_s, G5⟩
 have z12 := G5.size
 have lt13 := O5_r0_s.lth
 refine qm rfl<|qm rfl<|qm rfl<|qm rfl<|qm rfl<|sd_done<|sw_seq ?_
 refine qs 2 rfl<|qm rfl<|qv rfl (vv_neq (a := x1.2) (b := 0) rfl rfl)<|sd_done<|sw_cond rfl (fun c1 => ?_) (fun c1 => ?_)
 · replace hm := iT c1 hm
   refine qs 4 rfl<|qv rfl (vv_build (cs := THeader.cs (THeader.mk [] 0#64 [] k0 k0) (.slice none 0 0) (.slice none 0 0)) bs_48 rfl (by kernel_rfl))<|qm rfl ?_
   have B14 := (Bw4.gr G5)
   refine qe rfl (ev_stW agg_48 rfl rfl (THeader.cs_ones _ _ _ rfl rfl) B14 rfl rfl) ?_
   rintro _ w6 ⟨Bw6, M6⟩
   have z15 := M6.size
   refine qm rfl<|qb ?_
   have X16 := ((((Gr.refl w).trans Y2).trans G5).md M6)
   cases hm
   refine ⟨_, _, rfl, res_2 rfl (rv_cellW agg_48 rfl Bw6 rfl) (rv_tmp rfl), ?_⟩
   exact ⟨(.slice none 0 0), 0, 0, (.slice none 0 0), 0, 0, rfl, (own_nil _ 0 133 18), ⟨.inl rfl⟩, (own_nil _ 0 31 2), ⟨.inl rfl⟩, ⟨(.inl rfl)⟩, X16⟩
 replace hm := iF c1 hm
 refine qu<|qs 9 rfl ?_
 have Y3 := Gr.trans (Gr.trans G2 Y1) G5
 have B17 := (Bw1.gr Y3)
 refine qv rfl (vv_loadW agg_23 rfl B17 rfl) ?_
 have B18 := (B10.gr G5)
 refine qv rfl (vv_loadW agg_28 rfl B18 rfl)<|qm rfl ?_
 have Y4 := Gr.trans G4 G5
 have B19 := (Bw3.gr Y4)
 refine qv rfl (vv_loadW agg_23 rfl B19 rfl) ?_
 obtain ⟨x2, hx2, hm⟩ := bnd hm
 refine qe rfl (eC en_52 rfl (cover_Seal_w hx2 (Own.rd O5_r0_s))) ?_
 rintro _ w7 ⟨u7_r0_0, z7_r0_0, g7_r0_0, u7_r0_2, z7_r0_2, g7_r0_2, rfl, O7_r0_0, f7_r0_0, O7_r0_2, f7_r0_2, d7_0, G7⟩
 have z20 := G7.size
 have lt21 := O7_r0_0.lth
 have lt22 := O7_r0_2.lth
 refine qm rfl<|qm rfl ?_
 have B23 := ((Bw4.gr G5).gr G7)
 refine qe rfl (ev_stW agg_48 rfl rfl (THeader.cs_ones _ _ _ (Own.oneB O7_r0_0) (Own.oneB O7_r0_2)) B23 rfl rfl) ?_
 rintro _ w8 ⟨Bw8, M8⟩
 have z24 := M8.size
 refine qm rfl<|sd_done<|sw_ret ?_
 have B25 := (O7_r0_0.md M8 (pb_0 f7_r0_0))
 have B26 := (O7_r0_2.md M8 (pb_0 f7_r0_2))
 have X27 := (((((Gr.refl w).trans Y2).trans G5).trans G7).md M8)
 cases hm
 refine ⟨_, _, rfl, res_2 rfl (rv_cellW agg_48 rfl Bw8 rfl) (rv_tmp rfl), ?_⟩
 exact ⟨u7_r0_0, z7_r0_0, g7_r0_0, u7_r0_2, z7_r0_2, g7_r0_2, rfl, B25, ⟨(pv_0 (A := (fun x => w.heap.size ≤ x)) f7_r0_0)⟩, B26, ⟨(pv_0 (A := (fun x => w.heap.size ≤ x)) f7_r0_2)⟩, ⟨(tk1 d7_0.o)⟩, X27⟩
theorem epoch_Seal_w {p0 p1 p2 p3 vp3 zp3 gp3 op3 r} (hm : epoch_Seal p0 p1 p2 p3 = some r) {w : World} (hp3 : Rd w zp3 gp3 op3 1 vp3 (p3.map ic)) :
    Calls Tryz.prog 23 [kv p0, .agg (TScheme.cs p1).toArray, .int .i64 p2, vp3].toArray w fun e w' => ∃ v, e = .returned v ∧ (∃ ur0_0 zr0_0 gr0_0 ur0_2 zr0_2 gr0_2, v = .tuple [.agg (THeader.cs r.1 ur0_0 ur0_2).toArray, .int .i64 r.2].toArray ∧ Own w' zr0_0 gr0_0 133 18 ur0_0 (r.1.Items.map TItem.cs) ∧ Hdn (zr0_0 = 0 ∨ w.heap.size ≤ gr0_0) ∧ Own w' zr0_2 gr0_2 31 2 ur0_2 (r.1.Points.map TPoint.cs) ∧ Hdn (zr0_2 = 0 ∨ w.heap.size ≤ gr0_2) ∧ Hdn (zr0_2 = 0 ∨ zr0_0 = 0 ∨ gr0_2 ≠ gr0_0) ∧ Gr w w') := by
 have lt1 := hp3.lth
 unfold epoch_Seal at hm
 refine calls_of_sw 38 Tryz.func23 rfl rfl rfl<|qs 4 rfl<|qe rfl (ev_box (cs := kb p0) rfl rfl) ?_
 rintro _ w1 ⟨b1, rfl, hbw1, Bw1, G1⟩
 have z2 := G1.size
 have lt3 := Bw1.lt
 refine qe rfl (ev_box (cs := TScheme.cs p1) rfl rfl) ?_
 rintro _ w2 ⟨b2, rfl, hbw2, Bw2, G2⟩
 have z4 := G2.size
 have lt5 := Bw2.lt
 refine qe rfl (ev_alloc (cs := THeader.cs (THeader.mk [] 0#64 [] k0 k0) (.slice none 0 0) (.slice none 0 0)) zv_48 rfl) ?_
 rintro _ w3 ⟨b3, rfl, hbw3, Bw3, G3⟩
 have z6 := G3.size
 have lt7 := Bw3.lt
 refine qm rfl<|qd 8 rfl ?_
 have B8 := (Bw2.gr G3)
 refine qv rfl (vv_loadW agg_28 rfl B8 rfl)<|sd_inl 33 Tryz.func61 rfl rfl rfl en_61 rfl rfl rfl rfl rfl<|qs 3 rfl<|qe rfl (ev_box (cs := TScheme.cs p1) rfl rfl) ?_
 rintro _ w4 ⟨b4, rfl, hbw4, Bw4, G4⟩
 have z9 := G4.size
 have lt10 := Bw4.lt
 refine qe rfl (ev_alloc (cs := [.nilFunc, .nilFunc, .nilFunc, .nilFunc]) zv_122 rfl) ?_
 rintro _ w5 ⟨b5, rfl, hbw5, Bw5, G5⟩
 have z11 := G5.size
 have lt12 := Bw5.lt
 refine qm rfl<|qd 3 rfl<|qv rfl (vv_build (cs := [.func (.func 121) #[] #[], .func (.func 137) #[] #[], .func (.func 53) #[] #[], .func (.func 138) #[] #[]]) bs_122 rfl rfl)<|qe rfl (ev_alloc (cs := [.nilFunc, .nilFunc, .nilFunc, .nilFunc]) zv_122 rfl) ?_
 rintro _ w6 ⟨b6, rfl, hbw6, Bw6, G6⟩
 have z13 := G6.size
 have lt14 := Bw6.lt
 refine qe rfl (ev_stW agg_122 rfl rfl rfl Bw6 rfl rfl) ?_
 rintro _ w7 ⟨Bw7, M7⟩
 have z15 := M7.size
 refine qd 8 rfl<|qv rfl (vv_build (cs := [.nilFunc, .nilFunc, .nilFunc, .nilFunc]) bs_122 rfl rfl)<|qv rfl (vv_loadM (vs := [.func (.func 121) #[] #[], .func (.func 137) #[] #[], .func (.func 53) #[] #[], .func (.func 138) #[] #[]]) agg_122 rfl Bw7 rfl rfl)<|qv rfl (vv_loadM (vs := [.func (.func 121) #[] #[], .func (.func 137) #[] #[], .func (.func 53) #[] #[], .func (.func 138) #[] #[]]) agg_122 rfl Bw7 rfl rfl)<|qv rfl (vv_loadM (vs := [.func (.func 121) #[] #[], .func (.func 137) #[] #[], .func (.func 53) #[] #[], .func (.func 138) #[] #[]]) agg_122 rfl Bw7 rfl rfl) ?_
 refine qv rfl (vv_build (cs := [.func (.func 139) #[] #[], .func (.func 140) #[] #[], .func (.func 50) #[] #[], .func (.func 49) #[] #[]]) bs_122 rfl rfl)<|qv rfl (vv_buildA (cs := [.nilFunc, .nilFunc, .nilFunc, .nilFunc, .func (.func 121) #[] #[], .func (.func 137) #[] #[], .func (.func 53) #[] #[], .func (.func 138) #[] #[], .func (.func 121) #[] #[], .func (.func 137) #[] #[], .func (.func 53) #[] #[], .func (.func 138) #[] #[], .func (.func 121) #[] #[], .func (.func 137) #[] #[], .func (.func 53) #[] #[], .func (.func 138) #[] #[], .func (.func 139) #[] #[], .func (.func 140) #[] #[], .func (.func 50) #[] #[], .func (.func 49) #[] #[]]) ba_206 rfl rfl)<|qe rfl (ev_alloc (cs := [.nilFunc, .nilFunc, .nilFunc, .nilFunc, .nilFunc, .nilFunc, .nilFunc, .nilFunc, .nilFunc, .nilFunc, .nilFunc, .nilFunc, .nilFunc, .nilFunc, .nilFunc, .nilFunc, .nilFunc, .nilFunc, .nilFunc, .nilFunc]) zv_206 rfl) ?_
 rintro _ w8 ⟨b8, rfl, hbw8, Bw8, G8⟩
 have z16 := G8.size
 have lt17 := Bw8.lt
 refine qe rfl (ev_stW agg_206 rfl rfl rfl Bw8 rfl rfl) ?_
 rintro _ w9 ⟨Bw9, M9⟩
 have z18 := M9.size
 refine sd_done<|sw_seq ?_
 have Y1 := Gr.trans (Gr.trans (Gr.trans (Gr.trans (Gr.trans G1 G2) G3) G4) G5) G6
 have X19 := (((((Gr.refl w).trans Y1).md M7).trans G8).md M9)
 refine qj (β := Bool) (rg 14 9) (fun a1 => [(22, .bool a1)]) (fun a1 wr => (epoch_Seal_J1 p0 p1 p2 p3 a1 = some r) ∧ Kz [] w9 wr) ?_ ?_
 · refine qg 9 rfl<|qv rfl (vv_fieldAddr fa_28_0 rfl) ?_
   have Y2 := Gr.trans G5 G6
   have B100 := ((((Bw4.gr Y2).md M7).gr G8).md M9)
   refine qv rfl (vv_load1 (v := bv p1.Kind) one_5 rfl B100 rfl)<|qv rfl (vv_lssB (p := p1.Kind) (q := 1#8) rfl rfl)<|qp rfl (vv_move rfl) (fun c8 => ?_) (fun c8 => ?_)
   · replace hm := iT c8 hm
     refine qk rfl<|qk rfl<|qk rfl<|qk rfl<|qm rfl<|sd_nil ?_
     exact ⟨rfl, true, sbq, hm, kz0⟩
   replace hm := iF c8 hm
   refine qv rfl (vv_fieldAddr fa_28_0 rfl)<|qv rfl (vv_load1 (v := bv p1.Kind) one_5 rfl B100 rfl)<|qv rfl (vv_cvBI cv_5_3 rfl)<|qv rfl (vv_geq (a := un8 p1.Kind) (b := 5) rfl rfl)<|qm rfl<|sd_nil ?_
   exact ⟨rfl, (decide ((5 : Int) ≤ un8 p1.Kind)), sbq, hm, kz0⟩
 clear hm; rintro a1 w10 ⟨hm, K10⟩
 have z20 := K10.size
 unfold epoch_Seal_J1 at hm
 refine sw_cond rfl (fun c1 => ?_) (fun c1 => ?_)
 · replace hm := cnd_t c1 hm
   refine qs 3 rfl<|qv rfl (vv_build (cs := [.nilFunc, .nilFunc, .nilFunc, .nilFunc]) bs_122 rfl rfl) ?_
   have B21 := (((((Bw5.gr G6).md M7).gr G8).md M9).kz K10)
   refine qe rfl (ev_stW agg_122 rfl rfl rfl B21 rfl rfl) ?_
   rintro _ w11 ⟨Bw11, M11⟩
   have z22 := M11.size
   refine qm rfl<|qb<|⟨_, _, rfl, res_2 rfl (rv_cellW agg_122 rfl Bw11 rfl) (rv_tmp rfl), ?_⟩
   refine qm rfl<|qm rfl<|qm rfl<|qe rfl (ev_alloc (cs := [.nilFunc, .nilFunc, .nilFunc, .nilFunc]) zv_122 rfl) ?_
   rintro _ w12 ⟨b12, rfl, hbw12, Bw12, G12⟩
   have z23 := G12.size
   have lt24 := Bw12.lt
   refine qe rfl (ev_stW agg_122 rfl rfl rfl Bw12 rfl rfl) ?_
   rintro _ w13 ⟨Bw13, M13⟩
   have z25 := M13.size
   refine qm rfl<|sd_done<|sw_seq<|qs 2 rfl<|qm rfl<|qv rfl (vv_neq (a := 2) (b := 0) rfl rfl) ?_
   refine sd_done<|sw_condT rfl<|qs 4 rfl<|qv rfl (vv_build (cs := THeader.cs (THeader.mk [] 0#64 [] k0 k0) (.slice none 0 0) (.slice none 0 0)) bs_48 rfl (by kernel_rfl))<|qm rfl ?_
   have Y3 := Gr.trans (Gr.trans G4 G5) G6
   have B26 := ((((((((Bw3.gr Y3).md M7).gr G8).md M9).kz K10).md M11).gr G12).md M13)
   refine qe rfl (ev_stW agg_48 rfl rfl (THeader.cs_ones _ _ _ rfl rfl) B26 rfl rfl) ?_
   rintro _ w14 ⟨Bw14, M14⟩
   have z27 := M14.size
   refine qm rfl<|qb ?_
   have X28 := (((((X19.kz K10).md M11).trans G12).md M13).md M14)
   cases hm
   refine ⟨_, _, rfl, res_2 rfl (rv_cellW agg_48 rfl Bw14 rfl) (rv_tmp rfl), ?_⟩
   exact ⟨(.slice none 0 0), 0, 0, (.slice none 0 0), 0, 0, rfl, (own_nil _ 0 133 18), ⟨.inl rfl⟩, (own_nil _ 0 31 2), ⟨.inl rfl⟩, ⟨(.inl rfl)⟩, X28⟩
 replace hm := cnd_f c1 hm
 refine qu<|qs 6 rfl<|qv rfl (vv_fieldAddr fa_28_0 rfl) ?_
 have Y4 := Gr.trans G5 G6
 have B29 := (((((Bw4.gr Y4).md M7).gr G8).md M9).kz K10)
 refine qv rfl (vv_load1 (v := bv p1.Kind) one_5 rfl B29 rfl) ?_
 by_cases c2 : (un8 p1.Kind = 1 ∨ un8 p1.Kind = 2 ∨ un8 p1.Kind = 3)
 · replace hm := ite_t c2 hm
   refine qv rfl (vv_ixJ Tryz.underlying206 (agg_122).siz rfl rfl (by omega)) ?_
   have B30 := (Bw9.kz K10)
   refine qv rfl (vv_loadM (vs := [.func (.func 121) #[] #[], .func (.func 137) #[] #[], .func (.func 53) #[] #[], .func (.func 138) #[] #[]]) agg_122 rfl B30 (by rcases c2 with h | h | h <;> rw [h] <;> rfl) rfl)<|qe rfl (ev_alloc (cs := [.nilFunc, .nilFunc, .nilFunc, .nilFunc]) zv_122 rfl) ?_
   rintro _ w15 ⟨b15, rfl, hbw15, Bw15, G15⟩
   have z31 := G15.size
   have lt32 := Bw15.lt
   refine qe rfl (ev_stW agg_122 rfl rfl rfl Bw15 rfl rfl) ?_
   rintro _ w16 ⟨Bw16, M16⟩
   have z33 := M16.size
   refine sd_done<|sw_seq<|dw [([b5])] [] (.leaf [(0,10),(1,10),(2,10),(3,10),(4,0),(5,0),(6,10)]) ?_
   intro w17 G17 zw17
   refine sdz_leaf ?_
   have B34 := (Bw16.gr G17)
   refine dh 0 rfl rfl (fun w hS => vv_loadM (vs := [.func (.func 121) #[] #[], .func (.func 137) #[] #[], .func (.func 53) #[] #[], .func (.func 138) #[] #[]]) agg_122 rfl (Bx.kp B34 hS) rfl rfl)<|dh 0 rfl rfl (fun w hS => vv_fieldAddr fa_122_0 rfl)<|dh 0 rfl rfl (fun w hS => vv_load1 (v := .func (.func 121) #[] #[]) one_40 rfl (Bx.kp B34 hS) rfl) ?_
   have B35 := (((B29.gr G15).md M16).gr G17)
   refine dh 0 rfl rfl (fun w hS => vv_loadW agg_28 rfl (Bx.kp B35 hS) rfl) ?_
   obtain ⟨x2, hx2, hm⟩ := bnd hm
   refine qz [] rfl (ev_callV en_121 rfl rfl (cover_Check_w hx2)) ⟨fun _ => tk0, trivial⟩ ?_
   rintro _ w18 ⟨rfl, G18⟩
   have z36 := G18.size
   refine kG G18 ?_
   have Y5 := Gr.trans G17 G18
   have B37 := ((((((((Bw5.gr G6).md M7).gr G8).md M9).kz K10).gr G15).md M16).gr Y5)
   refine qz [(1, b5)] rfl (ev_stW agg_122 rfl rfl rfl B37 rfl rfl) ⟨fun _ => tk0, trivial⟩ ?_
   rintro _ w19 ⟨Bw19, M19⟩
   have z38 := M19.size
   refine kM M19 ?_
   have S39 := (((Kp.refl ([b5]) w17).gr G18).md M19)
   refine dn 0 rfl rfl S39<|sd_done<|sw_ret<|⟨_, _, rfl, res_2 rfl (rv_cellW agg_122 rfl Bw19 rfl) (rv_tmp rfl), ?_⟩
   refine qm rfl<|qm rfl<|qm rfl<|qe rfl (ev_alloc (cs := [.nilFunc, .nilFunc, .nilFunc, .nilFunc]) zv_122 rfl) ?_
   rintro _ w20 ⟨b20, rfl, hbw20, Bw20, G20⟩
   have z40 := G20.size
   have lt41 := Bw20.lt
   refine qe rfl (ev_stW agg_122 rfl rfl rfl Bw20 rfl rfl) ?_
   rintro _ w21 ⟨Bw21, M21⟩
   have z42 := M21.size
   refine qm rfl<|sd_done<|sw_seq<|qs 2 rfl<|qm rfl<|qv rfl (vv_neq (a := x2) (b := 0) rfl rfl) ?_
   refine sd_done<|sw_cond rfl (fun c3 => ?_) (fun c3 => ?_)
   · replace hm := iT c3 hm
     refine qs 4 rfl<|qv rfl (vv_build (cs := THeader.cs (THeader.mk [] 0#64 [] k0 k0) (.slice none 0 0) (.slice none 0 0)) bs_48 rfl (by kernel_rfl))<|qm rfl ?_
     have Y6 := Gr.trans G4 Y4
     have B43 := (((((((((((Bw3.gr Y6).md M7).gr G8).md M9).kz K10).gr G15).md M16).gr Y5).md M19).gr G20).md M21)
     refine qe rfl (ev_stW agg_48 rfl rfl (THeader.cs_ones _ _ _ rfl rfl) B43 rfl rfl) ?_
     rintro _ w22 ⟨Bw22, M22⟩
     have z44 := M22.size
     refine qm rfl<|qb ?_
     have X45 := ((((((((X19.kz K10).trans G15).md M16).trans Y5).md M19).trans G20).md M21).md M22)
     cases hm
     refine ⟨_, _, rfl, res_2 rfl (rv_cellW agg_48 rfl Bw22 rfl) (rv_tmp rfl), ?_⟩
     exact ⟨(.slice none 0 0), 0, 0, (.slice none 0 0), 0, 0, rfl, (own_nil _ 0 133 18), ⟨.inl rfl⟩, (own_nil _ 0 31 2), ⟨.inl rfl⟩, ⟨(.inl rfl)⟩, X45⟩
   replace hm := iF c3 hm
   refine qu<|sw_seq<|qs 3 rfl<|qm rfl ?_
   obtain ⟨x3, hx3, hm⟩ := bnd hm
   refine qe rfl (eC en_67 rfl (epoch_isTick_w hx3)) ?_
   rintro _ w23 ⟨rfl, G23⟩
   have z46 := G23.size
   refine qv rfl (vv_not rfl)<|sd_done<|sw_cond rfl (fun c4 => ?_) (fun c4 => ?_)
   · replace hm := cnd_t c4 hm
     refine qs 3 rfl<|qv rfl (vv_build (cs := THeader.cs (THeader.mk [] 0#64 [] k0 k0) (.slice none 0 0) (.slice none 0 0)) bs_48 rfl (by kernel_rfl)) ?_
     have Y7 := Gr.trans G4 Y4
     have B47 := ((((((((((((Bw3.gr Y7).md M7).gr G8).md M9).kz K10).gr G15).md M16).gr Y5).md M19).gr G20).md M21).gr G23)
     refine qe rfl (ev_stW agg_48 rfl rfl (THeader.cs_ones _ _ _ rfl rfl) B47 rfl rfl) ?_
     rintro _ w24 ⟨Bw24, M24⟩
     have z48 := M24.size
     refine qm rfl<|qb ?_
     have X49 := (((((((((X19.kz K10).trans G15).md M16).trans Y5).md M19).trans G20).md M21).trans G23).md M24)
     cases hm
     refine ⟨_, _, rfl, res_2 rfl (rv_cellW agg_48 rfl Bw24 rfl) (rv_tmp rfl), ?_⟩
     exact ⟨(.slice none 0 0), 0, 0, (.slice none 0 0), 0, 0, rfl, (own_nil _ 0 133 18), ⟨.inl rfl⟩, (own_nil _ 0 31 2), ⟨.inl rfl⟩, ⟨(.inl rfl)⟩, X49⟩
   replace hm := cnd_f c4 hm
   refine qu<|sw_seq<|dw [([b3])] [] (.leaf [(0,10),(1,10),(2,10),(3,10),(4,10),(5,10),(6,10),(8,10),(9,10),(7,0),(10,0),(11,10),(12,10),(13,0),(14,10)]) ?_
   intro w25 G25 zw25
   refine sdz_leaf<|dh 0 rfl rfl (fun w hS => vv_fieldAddr fa_122_3 rfl) ?_
   have Y8 := Gr.trans G23 G25
   have B50 := (Bw21.gr Y8)
   refine dh 0 rfl rfl (fun w hS => vv_load1 (v := .func (.func 138) #[] #[]) one_106 rfl (Bx.kp B50 hS) rfl) ?_
   have Y9 := Gr.trans (Gr.trans (Gr.trans G2 G3) G4) Y4
   have B51 := ((((((((((((Bw1.gr Y9).md M7).gr G8).md M9).kz K10).gr G15).md M16).gr Y5).md M19).gr G20).md M21).gr Y8)
   refine dh 0 rfl rfl (fun w hS => vv_loadW agg_23 rfl (Bx.kp B51 hS) rfl) ?_
   have Y10 := Gr.trans G4 Y4
   have B52 := ((((((((((((B8.gr Y10).md M7).gr G8).md M9).kz K10).gr G15).md M16).gr Y5).md M19).gr G20).md M21).gr Y8)
   refine dh 0 rfl rfl (fun w hS => vv_loadW agg_28 rfl (Bx.kp B52 hS) rfl)<|dm 0 rfl rfl<|dh 0 rfl rfl (fun w hS => vv_loadW agg_23 rfl (Bx.kp B51 hS) rfl)<|dm 0 rfl rfl<|dm 0 rfl rfl<|dh 0 rfl rfl (fun w hS => vv_cvIU cv_3_24 rfl) ?_
   obtain ⟨x4, hx4, hm⟩ := bnd hm
   refine qz [] rfl (eC en_15 rfl (epoch_Session_w hx4)) ⟨fun _ => tk0, trivial⟩ ?_
   rintro _ w26 ⟨rfl, G26⟩
   have z53 := G26.size
   refine kG G26 ?_
   have B54 := (((((((((((((hp3.gr Y1).md M7 (pb_lt lt1)).gr G8).md M9 (pb_lt lt1)).kz K10).gr G15).md M16 (pb_lt lt1)).gr Y5).md M19 (pb_lt lt1)).gr G20).md M21 (pb_lt lt1)).gr Y8).gr G26)
   obtain ⟨x5, hx5, hm⟩ := bnd hm
   refine qz [] rfl (ev_callV en_138 rfl rfl (epoch_covered_w hx5 B54)) ⟨fun _ => tk0, trivial⟩ ?_
   rintro _ w27 ⟨u27_r0_0, z27_r0_0, g27_r0_0, u27_r0_2, z27_r0_2, g27_r0_2, rfl, O27_r0_0, f27_r0_0, O27_r0_2, f27_r0_2, d27_0, G27⟩
   have z55 := G27.size
   have lt56 := O27_r0_0.lth
   have lt57 := O27_r0_2.lth
   refine kG G27 ?_
   have S58 := (((Kp.refl ([b3]) w25).gr G26).gr G27)
   refine dn 0 rfl rfl S58<|dn 0 rfl rfl S58 ?_
   have B59 := ((((((((((((((Bw3.gr Y10).md M7).gr G8).md M9).kz K10).gr G15).md M16).gr Y5).md M19).gr G20).md M21).gr Y8).gr G26).gr G27)
   refine qz [(1, b3)] rfl (ev_stW agg_48 rfl rfl (THeader.cs_ones _ _ _ (Own.oneB O27_r0_0) (Own.oneB O27_r0_2)) B59 rfl rfl) ⟨fun _ => tk0, trivial⟩ ?_
   rintro _ w28 ⟨Bw28, M28⟩
   have z60 := M28.size
   refine kM M28 ?_
   have S61 := (S58.md M28)
   refine dn 0 rfl rfl S61<|sd_done<|sw_ret ?_
   have B62 := (O27_r0_0.md M28 (pb_0 f27_r0_0))
   have B63 := (O27_r0_2.md M28 (pb_0 f27_r0_2))
   have X64 := (((((((((((X19.kz K10).trans G15).md M16).trans Y5).md M19).trans G20).md M21).trans Y8).trans G26).trans G27).md M28)
   cases hm
   refine ⟨_, _, rfl, res_2 rfl (rv_cellW agg_48 rfl Bw28 rfl) (rv_tmp rfl), ?_⟩
   exact ⟨u27_r0_0, z27_r0_0, g27_r0_0, u27_r0_2, z27_r0_2, g27_r0_2, rfl, B62, ⟨(pv_0 (A := (fun x => w.heap.size ≤ x)) f27_r0_0)⟩, B63, ⟨(pv_0 (A := (fun x => w.heap.size ≤ x)) f27_r0_2)⟩, ⟨(tk1 d27_0.o)⟩, X64⟩
 replace hm := ite_f c2 hm
 by_cases c5 : (un8 p1.Kind = 4)
 · replace hm := ite_t c5 hm
   refine qv rfl (vv_ixJ Tryz.underlying206 (agg_122).siz rfl rfl (by omega)) ?_
   have B65 := (Bw9.kz K10)
   refine qv rfl (vv_loadM (vs := [.func (.func 139) #[] #[], .func (.func 140) #[] #[], .func (.func 50) #[] #[], .func (.func 49) #[] #[]]) agg_122 rfl B65 (by rw [c5]; rfl) rfl)<|qe rfl (ev_alloc (cs := [.nilFunc, .nilFunc, .nilFunc, .nilFunc]) zv_122 rfl) ?_
   rintro _ w29 ⟨b29, rfl, hbw29, Bw29, G29⟩
   have z66 := G29.size
   have lt67 := Bw29.lt
   refine qe rfl (ev_stW agg_122 rfl rfl rfl Bw29 rfl rfl) ?_
   rintro _ w30 ⟨Bw30, M30⟩
   have z68 := M30.size
   refine sd_done<|sw_seq<|dw [([b5])] [] (.leaf [(0,10),(1,10),(2,10),(3,10),(4,0),(5,0),(6,10)]) ?_
   intro w31 G31 zw31
   refine sdz_leaf ?_
   have B69 := (Bw30.gr G31)
   refine dh 0 rfl rfl (fun w hS => vv_loadM (vs := [.func (.func 139) #[] #[], .func (.func 140) #[] #[], .func (.func 50) #[] #[], .func (.func 49) #[] #[]]) agg_122 rfl (Bx.kp B69 hS) rfl rfl)<|dh 0 rfl rfl (fun w hS => vv_fieldAddr fa_122_0 rfl)<|dh 0 rfl rfl (fun w hS => vv_load1 (v := .func (.func 139) #[] #[]) one_40 rfl (Bx.kp B69 hS) rfl) ?_
   have B70 := (((B29.gr G29).md M30).gr G31)
   refine dh 0 rfl rfl (fun w hS => vv_loadW agg_28 rfl (Bx.kp B70 hS) rfl) ?_
   obtain ⟨x6, hx6, hm⟩ := bnd hm
   refine qz [] rfl (ev_callV en_139 rfl rfl (poly_Check_w hx6)) ⟨fun _ => tk0, trivial⟩ ?_
   rintro _ w32 ⟨rfl, G32⟩
   have z71 := G32.size
   refine kG G32 ?_
   have Y11 := Gr.trans G31 G32
   have B72 := ((((((((Bw5.gr G6).md M7).gr G8).md M9).kz K10).gr G29).md M30).gr Y11)
   refine qz [(1, b5)] rfl (ev_stW agg_122 rfl rfl rfl B72 rfl rfl) ⟨fun _ => tk0, trivial⟩ ?_
   rintro _ w33 ⟨Bw33, M33⟩
   have z73 := M33.size
   refine kM M33 ?_
   have S74 := (((Kp.refl ([b5]) w31).gr G32).md M33)
   refine dn 0 rfl rfl S74<|sd_done<|sw_ret<|⟨_, _, rfl, res_2 rfl (rv_cellW agg_122 rfl Bw33 rfl) (rv_tmp rfl), ?_⟩
   refine qm rfl<|qm rfl<|qm rfl<|qe rfl (ev_alloc (cs := [.nilFunc, .nilFunc, .nilFunc, .nilFunc]) zv_122 rfl) ?_
   rintro _ w34 ⟨b34, rfl, hbw34, Bw34, G34⟩
   have z75 := G34.size
   have lt76 := Bw34.lt
   refine qe rfl (ev_stW agg_122 rfl rfl rfl Bw34 rfl rfl) ?_
   rintro _ w35 ⟨Bw35, M35⟩
   have z77 := M35.size
   refine qm rfl<|sd_done<|sw_seq<|qs 2 rfl<|qm rfl<|qv rfl (vv_neq (a := x6) (b := 0) rfl rfl) ?_
   refine sd_done<|sw_cond rfl (fun c6 => ?_) (fun c6 => ?_)
   · replace hm := iT c6 hm
     refine qs 4 rfl<|qv rfl (vv_build (cs := THeader.cs (THeader.mk [] 0#64 [] k0 k0) (.slice none 0 0) (.slice none 0 0)) bs_48 rfl (by kernel_rfl))<|qm rfl ?_
     have Y12 := Gr.trans G4 Y4
     have B78 := (((((((((((Bw3.gr Y12).md M7).gr G8).md M9).kz K10).gr G29).md M30).gr Y11).md M33).gr G34).md M35)
     refine qe rfl (ev_stW agg_48 rfl rfl (THeader.cs_ones _ _ _ rfl rfl) B78 rfl rfl) ?_
     rintro _ w36 ⟨Bw36, M36⟩
     have z79 := M36.size
     refine qm rfl<|qb ?_
     have X80 := ((((((((X19.kz K10).trans G29).md M30).trans Y11).md M33).trans G34).md M35).md M36)
     cases hm
     refine ⟨_, _, rfl, res_2 rfl (rv_cellW agg_48 rfl Bw36 rfl) (rv_tmp rfl), ?_⟩
     exact ⟨(.slice none 0 0), 0, 0, (.slice none 0 0), 0, 0, rfl, (own_nil _ 0 133 18), ⟨.inl rfl⟩, (own_nil _ 0 31 2), ⟨.inl rfl⟩, ⟨(.inl rfl)⟩, X80⟩
   replace hm := iF c6 hm
   refine qu<|sw_seq<|qs 3 rfl<|qm rfl ?_
   obtain ⟨x7, hx7, hm⟩ := bnd hm
   refine qe rfl (eC en_67 rfl (epoch_isTick_w hx7)) ?_
   rintro _ w37 ⟨rfl, G37⟩
   have z81 := G37.size
   refine qv rfl (vv_not rfl)<|sd_done<|sw_cond rfl (fun c7 => ?_) (fun c7 => ?_)
   · replace hm := cnd_t c7 hm
     refine qs 3 rfl<|qv rfl (vv_build (cs := THeader.cs (THeader.mk [] 0#64 [] k0 k0) (.slice none 0 0) (.slice none 0 0)) bs_48 rfl (by kernel_rfl)) ?_
     have Y13 := Gr.trans G4 Y4
     have B82 := ((((((((((((Bw3.gr Y13).md M7).gr G8).md M9).kz K10).gr G29).md M30).gr Y11).md M33).gr G34).md M35).gr G37)
     refine qe rfl (ev_stW agg_48 rfl rfl (THeader.cs_ones _ _ _ rfl rfl) B82 rfl rfl) ?_
     rintro _ w38 ⟨Bw38, M38⟩
     have z83 := M38.size
     refine qm rfl<|qb ?_
     have X84 := (((((((((X19.kz K10).trans G29).md M30).trans Y11).md M33).trans G34).md M35).trans G37).md M38)
     cases hm
     refine ⟨_, _, rfl, res_2 rfl (rv_cellW agg_48 rfl Bw38 rfl) (rv_tmp rfl), ?_⟩
     exact ⟨(.slice none 0 0), 0, 0, (.slice none 0 0), 0, 0, rfl, (own_nil _ 0 133 18), ⟨.inl rfl⟩, (own_nil _ 0 31 2), ⟨.inl rfl⟩, ⟨(.inl rfl)⟩, X84⟩
   replace hm := cnd_f c7 hm
   refine qu<|sw_seq<|dw [([b3])] [] (.leaf [(0,10),(1,10),(2,10),(3,10),(4,10),(5,10),(6,10),(8,10),(9,10),(7,0),(10,0),(11,10),(12,10),(13,0),(14,10)]) ?_
   intro w39 G39 zw39
   refine sdz_leaf<|dh 0 rfl rfl (fun w hS => vv_fieldAddr fa_122_3 rfl) ?_
   have Y14 := Gr.trans G37 G39
   have B85 := (Bw35.gr Y14)
   refine dh 0 rfl rfl (fun w hS => vv_load1 (v := .func (.func 49) #[] #[]) one_106 rfl (Bx.kp B85 hS) rfl) ?_
   have Y15 := Gr.trans (Gr.trans (Gr.trans G2 G3) G4) Y4
   have B86 := ((((((((((((Bw1.gr Y15).md M7).gr G8).md M9).kz K10).gr G29).md M30).gr Y11).md M33).gr G34).md M35).gr Y14)
   refine dh 0 rfl rfl (fun w hS => vv_loadW agg_23 rfl (Bx.kp B86 hS) rfl) ?_
   have Y16 := Gr.trans G4 Y4
   have B87 := ((((((((((((B8.gr Y16).md M7).gr G8).md M9).kz K10).gr G29).md M30).gr Y11).md M33).gr G34).md M35).gr Y14)
   refine dh 0 rfl rfl (fun w hS => vv_loadW agg_28 rfl (Bx.kp B87 hS) rfl)<|dm 0 rfl rfl<|dh 0 rfl rfl (fun w hS => vv_loadW agg_23 rfl (Bx.kp B86 hS) rfl)<|dm 0 rfl rfl<|dm 0 rfl rfl<|dh 0 rfl rfl (fun w hS => vv_cvIU cv_3_24 rfl) ?_
   obtain ⟨x8, hx8, hm⟩ := bnd hm
   refine qz [] rfl (eC en_15 rfl (epoch_Session_w hx8)) ⟨fun _ => tk0, trivial⟩ ?_
   rintro _ w40 ⟨rfl, G40⟩
   have z88 := G40.size
   refine kG G40 ?_
   have B89 := (((((((((((((hp3.gr Y1).md M7 (pb_lt lt1)).gr G8).md M9 (pb_lt lt1)).kz K10).gr G29).md M30 (pb_lt lt1)).gr Y11).md M33 (pb_lt lt1)).gr G34).md M35 (pb_lt lt1)).gr Y14).gr G40)
   obtain ⟨x9, hx9, hm⟩ := bnd hm
   refine qz [] rfl (ev_callV en_49 rfl rfl (poly_Seal_w hx9 B89)) ⟨fun _ => tk0, trivial⟩ ?_
   rintro _ w41 ⟨u41_r0_0, z41_r0_0, g41_r0_0, u41_r0_2, z41_r0_2, g41_r0_2, rfl, O41_r0_0, f41_r0_0, O41_r0_2, f41_r0_2, d41_0, G41⟩
   have z90 := G41.size
   have lt91 := O41_r0_0.lth
   have lt92 := O41_r0_2.lth
   refine kG G41 ?_
   have S93 := (((Kp.refl ([b3]) w39).gr G40).gr G41)
   refine dn 0 rfl rfl S93<|dn 0 rfl rfl S93 ?_
   have B94 := ((((((((((((((Bw3.gr Y16).md M7).gr G8).md M9).kz K10).gr G29).md M30).gr Y11).md M33).gr G34).md M35).gr Y14).gr G40).gr G41)
   refine qz [(1, b3)] rfl (ev_stW agg_48 rfl rfl (THeader.cs_ones _ _ _ (Own.oneB O41_r0_0) (Own.oneB O41_r0_2)) B94 rfl rfl) ⟨fun _ => tk0, trivial⟩ ?_
   rintro _ w42 ⟨Bw42, M42⟩
   have z95 := M42.size
   refine kM M42 ?_
   have S96 := (S93.md M42)
   refine dn 0 rfl rfl S96<|sd_done<|sw_ret ?_
   have B97 := (O41_r0_0.md M42 (pb_0 f41_r0_0))
   have B98 := (O41_r0_2.md M42 (pb_0 f41_r0_2))
   have X99 := (((((((((((X19.kz K10).trans G29).md M30).trans Y11).md M33).trans G34).md M35).trans Y14).trans G40).trans G41).md M42)
   cases hm
   refine ⟨_, _, rfl, res_2 rfl (rv_cellW agg_48 rfl Bw42 rfl) (rv_tmp rfl), ?_⟩
   exact ⟨u41_r0_0, z41_r0_0, g41_r0_0, u41_r0_2, z41_r0_2, g41_r0_2, rfl, B97, ⟨(pv_0 (A := (fun x => w.heap.size ≤ x)) f41_r0_0)⟩, B98, ⟨(pv_0 (A := (fun x => w.heap.size ≤ x)) f41_r0_2)⟩, ⟨(tk1 d41_0.o)⟩, X99⟩
 replace hm := ite_f c5 hm
 cases hm
theorem epoch_writer_put_w {p0 p1 p2 bp0 vp0_0 zp0_0 gp0_0 r} (hm : epoch_writer_put p0 p1 p2 = some r) {w : World} (hbp0 : Bx w bp0 223 (Tepoch_writer.cs p0 vp0_0)) (hp0_0 : Own w zp0_0 gp0_0 5 1 vp0_0 (p0.out.map bvc)) (ne0 : Hdn (zp0_0 = 0 ∨ gp0_0 ≠ bp0)) :
    Calls Tryz.prog 166 [.pointer (some ⟨bp0, 0, none⟩), wv p1, .int .i64 p2].toArray w fun e w' => ∃ v, e = .returned v ∧ (∃ ub0_0 zb0_0 gb0_0, v = .tuple #[] ∧ Own w' zb0_0 gb0_0 5 1 ub0_0 (r.out.map bvc) ∧ Hdn (zb0_0 = 0 ∨ (gb0_0 = gp0_0 ∧ zp0_0 ≠ 0) ∨ w.heap.size ≤ gb0_0) ∧ Bx w' bp0 223 (Tepoch_writer.cs r ub0_0) ∧ Kz [(zp0_0, gp0_0), (1, bp0)] w w') := by
 have lt1 := hp0_0.lth
 have lt2 := hbp0.lt
 unfold epoch_writer_put at hm
 refine calls_of_sw 26 Tryz.func166 rfl rfl rfl<|qs 3 rfl<|qm rfl<|qv rfl (vv_sub (k := .i64) (a := p2) (b := 1) rfl rfl)<|qm rfl<|sd_done ?_
 refine sw_block<|sw_loopD (α := Nat × Int × List (BitVec 8) × Value × Nat × Nat) ([2] ++ rg 8 18) (fun ⟨n1, a4, a5, vy6, zy6, gy6⟩ => [(2, .int .i64 a4)]) (fun ⟨n1, a4, a5, vy6, zy6, gy6⟩ wr => (fixN (epoch_writer_put_L1 p1) n1 (a4, a5) = some r) ∧ Own wr zy6 gy6 5 1 vy6 (a5.map bvc) ∧ Hdn (zy6 = 0 ∨ (gy6 = gp0_0 ∧ zp0_0 ≠ 0) ∨ w.heap.size ≤ gy6) ∧ Bx wr bp0 223 (Tepoch_writer.cs (Tepoch_writer.mk a5) vy6) ∧ Kz [(1, bp0), (zp0_0, gp0_0)] w wr) (fun ⟨n1, a4, a5, vy6, zy6, gy6⟩ => n1) ⟨FUEL, w64 (p2 - 1), p0.out, vp0_0, zp0_0, gp0_0⟩ ?_ ?_ ?_
 · exact sbq
 · exact ⟨hm, hp0_0, ⟨tk0⟩, hbp0, Kz.refl _ _⟩
 clear hm; rintro ⟨n1, a4, a5, vy6, zy6, gy6⟩ w1 ⟨hm, Fw1_0, Fw1_1, Fw1_2, K1⟩
 have z3 := K1.size
 have lt4 := Fw1_0.lth
 have lt5 := Fw1_2.lt
 have hb := fix_succ hm; clear hm; obtain ⟨n1, rfl, hm⟩ := hb
 generalize hrec1 : fixN (epoch_writer_put_L1 p1) n1 = rec1 at hm
 unfold epoch_writer_put_L1 at hm
 try dsimp only at hm
 refine sw_seq<|qs 2 rfl<|qm rfl<|qv rfl (vv_geq (a := a4) (b := 0) rfl rfl)<|sd_done<|cnF rfl (fun c1 => ?_) (fun c1 => ?_)
 · replace hm := iF c1 hm
   refine sw_exit<|then_x<|then_x<|block_x ?_
   have X16 := ((Kz.refl [(zp0_0, gp0_0), (1, bp0)] w).kz K1 (tk1 (tk0 : zp0_0 = 0 ∨ (gp0_0 = gp0_0 ∧ zp0_0 ≠ 0) ∨ w.heap.size ≤ gp0_0)))
   cases hm
   refine ⟨_, _, rfl, res_none rfl, ?_⟩
   exact ⟨vy6, zy6, gy6, rfl, Fw1_0, ⟨(pv_1 (A := (fun x => (x = gp0_0 ∧ zp0_0 ≠ 0) ∨ w.heap.size ≤ x)) Fw1_1 tk0)⟩, Fw1_2, X16⟩
 replace hm := iT c1 hm
 refine qu<|sw_seq<|sw_block<|dw [([bp0] ++ zf zy6 gy6),([] ++ zf zy6 gy6)] [(14, [1])] (.leaf [(0,10),(1,10),(2,10),(3,10),(4,11),(5,10),(6,10),(7,10),(8,10),(9,10),(10,0),(11,0),(12,10),(13,10),(14,0)]) ?_
 intro w2 G2 zw2
 refine sdz_leaf<|dn 0 rfl rfl (Kp.refl ([bp0] ++ zf zy6 gy6) w2)<|dn 0 rfl rfl (Kp.refl ([bp0] ++ zf zy6 gy6) w2)<|qh 0 rfl rfl (Kp.refl ([bp0] ++ zf zy6 gy6) w2) (fun w hS => vv_nilCheck rfl rfl)<|qh 0 rfl rfl (Kp.refl ([bp0] ++ zf zy6 gy6) w2) (fun w hS => vv_fieldAddr fa_223_0 rfl) ?_
 have B6 := (Fw1_2.gr G2)
 refine qh 1 rfl rfl (Kp.refl ([] ++ zf zy6 gy6) w2) (fun w hS => vv_load1 (v := vy6) one_50 rfl (Bx.kp B6 hS (tk1 (pb_1 (b := bp0) Fw1_1 (tk2 lt1.o ne0.o)))) rfl)<|dn 0 rfl rfl (Kp.refl ([bp0] ++ zf zy6 gy6) w2)<|dn 0 rfl rfl (Kp.refl ([bp0] ++ zf zy6 gy6) w2)<|qh 0 rfl rfl (Kp.refl ([bp0] ++ zf zy6 gy6) w2) (fun w hS => vv_mul (k := .i64) (a := 8) (b := a4) rfl rfl) ?_
 obtain ⟨n7, hn7, hm⟩ := bnd hm
 refine qh 0 rfl rfl (Kp.refl ([bp0] ++ zf zy6 gy6) w2) (fun w hS => vv_shrU (c := p1) (b := (w64 (8 * a4))) rfl rfl hn7)<|qh 0 rfl rfl (Kp.refl ([bp0] ++ zf zy6 gy6) w2) (fun w hS => vv_cvUB cv_24_5 rfl)<|qz [] rfl (ev_litT [(p1 >>> n7).setWidth 8] bvc bsl_50_1 rfl rfl (ws_of rfl) rfl rfl rfl) ⟨fun _ => tk0, fun _ => tk0, trivial⟩ ?_
 rintro vw3 w3 ⟨gw3, hbw3, Ow3, G3⟩
 have z7 := G3.size
 have lt8 := Ow3.lth
 refine kG G3 ?_
 have B9 := ((Fw1_0.gr G2).gr G3)
 obtain ⟨l8, hl8, hm⟩ := bnd hm
 refine qz [(zy6, gy6)] rfl (ev_appT (l := a5) (m := [(p1 >>> n7).setWidth 8]) (c := bvc) apt_50 rfl rfl B9 (Own.rd Ow3) hl8 (by decide)) ⟨fun _ => (tk1 (tk0 : zy6 = 0 ∨ (gy6 = gy6 ∧ zy6 ≠ 0) ∨ w2.heap.size ≤ gy6)), fun _ => (tk1 (tk0 : zy6 = 0 ∨ (gy6 = gy6 ∧ zy6 ≠ 0) ∨ w2.heap.size ≤ gy6)), trivial⟩ ?_
 rintro vw4 w4 ⟨zw4, gw4, Ow4, Aw4, qw4, rw4⟩
 have z10 := Aw4.size
 refine ⟨Kz.ofKa Aw4, ?_⟩
 have S11 := (((Kp.refl ([bp0] ++ zf zy6 gy6) w2).gr G3).ka Aw4 (tk1 (tk0 : zy6 = 0 ∨ (gy6 = gy6 ∧ zy6 ≠ 0) ∨ w2.heap.size ≤ gy6)))
 refine qh 0 rfl rfl S11 (fun w hS => vv_nilCheck rfl rfl)<|qh 0 rfl rfl S11 (fun w hS => vv_fieldAddr fa_223_0 rfl) ?_
 have B12 := ((B6.gr G3).ka Aw4 (tk1 (pb_1 (b := bp0) Fw1_1 (tk2 lt1.o ne0.o))))
 refine qz [(1, bp0)] rfl (ev_st1 (cs' := Tepoch_writer.cs (Tepoch_writer.mk l8) vw4) (one_50).siz rfl rfl (Own.oneB Ow4) B12 rfl rfl) ⟨fun _ => tk0, nofun, trivial⟩ ?_
 rintro _ w5 ⟨Bw5, M5⟩
 have z13 := M5.size
 refine kM M5<|sd_nil<|block_n<|then_n<|qg 3 rfl<|qm rfl<|qv rfl (vv_sub (k := .i64) (a := a4) (b := 1) rfl rfl) ?_
 refine qm rfl<|sd_nil ?_
 have K_14 : Kz [(1, bp0), (zp0_0, gp0_0)] w w5 := ((((K1.gr G2).gr G3).ka Aw4 (tk1 (pv_1 (A := (fun x => (x = gp0_0 ∧ zp0_0 ≠ 0) ∨ w.heap.size ≤ x)) Fw1_1 tk0))).md M5)
 have B15 := (Ow4.md M5 (pb_app rw4 (pb_1 Fw1_1 (tk2 lt1.o ne0.o))))
 subst hrec1
 exact ⟨rfl, ⟨n1, w64 (a4 - 1), l8, vw4, zw4, gw4⟩, sbq, ⟨hm, B15, ⟨(pv_app (A := (fun x => (x = gp0_0 ∧ zp0_0 ≠ 0) ∨ w.heap.size ≤ x)) rw4 (pv_1 (A := (fun x => (x = gp0_0 ∧ zp0_0 ≠ 0) ∨ w.heap.size ≤ x)) Fw1_1 tk0))⟩, Bw5, K_14⟩, Nat.lt_succ_self _⟩
theorem epoch_writer_key_w {p0 p1 bp0 vp0_0 zp0_0 gp0_0 r} (hm : epoch_writer_key p0 p1 = some r) {w : World} (hbp0 : Bx w bp0 223 (Tepoch_writer.cs p0 vp0_0)) (hp0_0 : Own w zp0_0 gp0_0 5 1 vp0_0 (p0.out.map bvc)) (ne0 : Hdn (zp0_0 = 0 ∨ gp0_0 ≠ bp0)) :
    Calls Tryz.prog 167 [.pointer (some ⟨bp0, 0, none⟩), kv p1].toArray w fun e w' => ∃ v, e = .returned v ∧ (∃ ub0_0 zb0_0 gb0_0, v = .tuple #[] ∧ Own w' zb0_0 gb0_0 5 1 ub0_0 (r.out.map bvc) ∧ Hdn (zb0_0 = 0 ∨ (gb0_0 = gp0_0 ∧ zp0_0 ≠ 0) ∨ w.heap.size ≤ gb0_0) ∧ Bx w' bp0 223 (Tepoch_writer.cs r ub0_0) ∧ Kz [(zp0_0, gp0_0), (1, bp0)] w w') := by
 have lt1 := hp0_0.lth
 have lt2 := hbp0.lt
 unfold epoch_writer_key at hm
 refine calls_of_sw 13 Tryz.func167 rfl rfl rfl<|qs 1 rfl<|qe rfl (ev_box (cs := kb p1) rfl rfl) ?_
 rintro _ w1 ⟨b1, rfl, hbw1, Bw1, G1⟩
 have z3 := G1.size
 have lt4 := Bw1.lt
 refine sd_done<|dw [([bp0] ++ zf zp0_0 gp0_0),([] ++ zf zp0_0 gp0_0)] [(9, [1])] (.leaf [(0,10),(1,10),(2,10),(3,10),(4,11),(5,10),(6,0),(7,10),(8,10),(9,0)]) ?_
 intro w2 G2 zw2
 refine sdz_leaf<|dn 0 rfl rfl (Kp.refl ([bp0] ++ zf zp0_0 gp0_0) w2)<|dn 0 rfl rfl (Kp.refl ([bp0] ++ zf zp0_0 gp0_0) w2)<|qh 0 rfl rfl (Kp.refl ([bp0] ++ zf zp0_0 gp0_0) w2) (fun w hS => vv_nilCheck rfl rfl)<|qh 0 rfl rfl (Kp.refl ([bp0] ++ zf zp0_0 gp0_0) w2) (fun w hS => vv_fieldAddr fa_223_0 rfl) ?_
 have B5 := ((hbp0.gr G1).gr G2)
 refine qh 1 rfl rfl (Kp.refl ([] ++ zf zp0_0 gp0_0) w2) (fun w hS => vv_load1 (v := vp0_0) one_50 rfl (Bx.kp B5 hS (tk1 ((tk2 lt1.o ne0.o) : zp0_0 = 0 ∨ gp0_0 ≠ bp0))) rfl) ?_
 have B6 := (Bw1.gr G2)
 have Rk7 := rd_key (o := 0) (p := p1) B6 rfl
 have lt8 := Rk7.lth
 refine qh 0 rfl rfl (Kp.refl ([bp0] ++ zf zp0_0 gp0_0) w2) (fun w hS => vv_sliceA (n := 16) (l := 0) (h := 16) Tryz.underlying23 (one_5).siz rfl rfl rfl (by decide) (by decide) (by decide)) ?_
 have B9 := ((hp0_0.gr G1).gr G2)
 obtain ⟨l1, hl1, hm⟩ := bnd hm
 refine qz [(zp0_0, gp0_0)] rfl (ev_appT (l := p0.out) (m := kby p1) (c := bvc) apt_50 rfl rfl B9 Rk7 hl1 (by decide)) ⟨fun _ => (tk1 (tk0 : zp0_0 = 0 ∨ (gp0_0 = gp0_0 ∧ zp0_0 ≠ 0) ∨ w2.heap.size ≤ gp0_0)), fun _ => (tk1 (tk0 : zp0_0 = 0 ∨ (gp0_0 = gp0_0 ∧ zp0_0 ≠ 0) ∨ w2.heap.size ≤ gp0_0)), trivial⟩ ?_
 rintro vw3 w3 ⟨zw3, gw3, Ow3, Aw3, qw3, rw3⟩
 have z10 := Aw3.size
 refine ⟨Kz.ofKa Aw3, ?_⟩
 have S11 := ((Kp.refl ([bp0] ++ zf zp0_0 gp0_0) w2).ka Aw3 (tk1 (tk0 : zp0_0 = 0 ∨ (gp0_0 = gp0_0 ∧ zp0_0 ≠ 0) ∨ w2.heap.size ≤ gp0_0)))
 refine qh 0 rfl rfl S11 (fun w hS => vv_nilCheck rfl rfl)<|qh 0 rfl rfl S11 (fun w hS => vv_fieldAddr fa_223_0 rfl) ?_
 have B12 := (B5.ka Aw3 (tk1 ((tk2 lt1.o ne0.o) : zp0_0 = 0 ∨ gp0_0 ≠ bp0)))
 refine qz [(1, bp0)] rfl (ev_st1 (cs' := Tepoch_writer.cs (Tepoch_writer.mk l1) vw3) (one_50).siz rfl rfl (Own.oneB Ow3) B12 rfl rfl) ⟨fun _ => tk0, nofun, trivial⟩ ?_
 rintro _ w4 ⟨Bw4, M4⟩
 have z13 := M4.size
 refine kM M4<|sd_nil ?_
 have B14 := (Ow3.md M4 (pb_app rw3 (tk2 lt1.o ne0.o)))
 have X15 := (((((Kz.refl [(zp0_0, gp0_0), (1, bp0)] w).gr G1).gr G2).ka Aw3 (tk1 (tk0 : zp0_0 = 0 ∨ (gp0_0 = gp0_0 ∧ zp0_0 ≠ 0) ∨ w.heap.size ≤ gp0_0))).md M4)
 cases hm
 refine ⟨_, _, rfl, res_none rfl, ?_⟩
 exact ⟨vw3, zw3, gw3, rfl, B14, ⟨(pv_app (A := (fun x => (x = gp0_0 ∧ zp0_0 ≠ 0) ∨ w.heap.size ≤ x)) rw3 tk0)⟩, Bw4, X15⟩
theorem epoch_body_w {p0 vp0_2 zp0_2 gp0_2 op0_2 vp0_4 zp0_4 gp0_4 op0_4 vp0_39 zp0_39 gp0_39 op0_39 r} (hm : epoch_body p0 = some r) {w : World} (hp0_2 : Rd w zp0_2 gp0_2 op0_2 18 vp0_2 (p0.Head.Items.map TItem.cs)) (hp0_4 : Rd w zp0_4 gp0_4 op0_4 2 vp0_4 (p0.Head.Points.map TPoint.cs)) (hp0_39 : Rd w zp0_39 gp0_39 op0_39 1 vp0_39 (p0.Data.map bvc)) :
    Calls Tryz.prog 78 [.agg (TPacket.cs p0 vp0_2 vp0_4 vp0_39).toArray].toArray w fun e w' => ∃ v, e = .returned v ∧ (∃ ur0_s zr0_s gr0_s, v = ur0_s ∧ Own w' zr0_s gr0_s 5 1 ur0_s (r.map bvc) ∧ Hdn (zr0_s = 0 ∨ w.heap.size ≤ gr0_s) ∧ Gr w w') := by
 have lt1 := hp0_2.lth
 have lt2 := hp0_4.lth
 have lt3 := hp0_39.lth
 unfold epoch_body at hm
 refine calls_of_sw 120 Tryz.func78 rfl rfl rfl<|qs 2 rfl<|qe rfl (ev_box (cs := TPacket.cs p0 vp0_2 vp0_4 vp0_39) rfl rfl) ?_
 rintro _ w1 ⟨b1, rfl, hbw1, Bw1, G1⟩
 have z4 := G1.size
 have lt5 := Bw1.lt
 refine qm rfl<|qd 3 rfl<|qv rfl (vv_build (cs := Tepoch_writer.cs (Tepoch_writer.mk []) (.slice none 0 0)) bs_223 rfl rfl)<|qe rfl (ev_box (cs := Tepoch_writer.cs (Tepoch_writer.mk []) (.slice none 0 0)) rfl rfl) ?_
 rintro _ w2 ⟨b2, rfl, hbw2, Bw2, G2⟩
 have z6 := G2.size
 have lt7 := Bw2.lt
 refine qm rfl<|qd 5 rfl<|qm rfl<|qv rfl (vv_fieldAddr fa_52_0 rfl) ?_
 have B8 := (Bw1.gr G2)
 refine qv rfl (vv_load1 (v := bv p0.Kind) one_5 rfl B8 rfl)<|qv rfl (vv_cvBU cv_5_24 rfl) ?_
 obtain ⟨x1, hx1, hm⟩ := bnd hm
 refine qe rfl (eC en_166 rfl (epoch_writer_put_w hx1 Bw2 (own_nil _ 0 5 1) ⟨tk0⟩)) ?_
 rintro _ w3 ⟨u3_b0_0, z3_b0_0, g3_b0_0, rfl, O3_b0_0, f3_b0_0, Bk3_0, K3⟩
 have z9 := K3.size
 have lt10 := O3_b0_0.lth
 refine sd_done<|sw_seq<|qs 3 rfl<|qv rfl (vv_fieldAddr fa_52_0 rfl) ?_
 have B11 := (B8.kz K3)
 refine qv rfl (vv_load1 (v := bv p0.Kind) one_5 rfl B11 rfl)<|qv rfl (vv_eqlB (p := p0.Kind) (q := 2#8) rfl rfl)<|sd_done<|sw_cond rfl (fun c1 => ?_) (fun c1 => ?_)
 · replace hm := iT c1 hm
   refine qs 5 rfl<|qm rfl<|qv rfl (vv_fieldAddr fa_52_3 rfl)<|qv rfl (vv_load1 (v := bv p0.Low) one_5 rfl B11 rfl)<|qv rfl (vv_cvBU cv_5_24 rfl) ?_
   obtain ⟨x2, hx2, hm⟩ := bnd hm
   refine qe rfl (eC en_166 rfl (epoch_writer_put_w hx2 Bk3_0 O3_b0_0 ⟨(tk1 (pb_1 (b := b2) f3_b0_0 (.inl rfl)))⟩)) ?_
   rintro _ w4 ⟨u4_b0_0, z4_b0_0, g4_b0_0, rfl, O4_b0_0, f4_b0_0, Bk4_0, K4⟩
   have z12 := K4.size
   have lt13 := O4_b0_0.lth
   refine qd 4 rfl<|qm rfl<|qv rfl (vv_fieldAddr fa_52_4 rfl) ?_
   have B14 := (B11.kz K4 (tk1 (pb_1 (b := b1) f3_b0_0 (.inl rfl))))
   refine qv rfl (vv_load1 (v := wv p0.Number) one_24 rfl B14 rfl) ?_
   obtain ⟨x3, hx3, hm⟩ := bnd hm
   refine qe rfl (eC en_166 rfl (epoch_writer_put_w hx3 Bk4_0 O4_b0_0 ⟨(tk1 (pb_1 (b := b2) f4_b0_0 (pb_1 f3_b0_0 (.inl rfl))))⟩)) ?_
   rintro _ w5 ⟨u5_b0_0, z5_b0_0, g5_b0_0, rfl, O5_b0_0, f5_b0_0, Bk5_0, K5⟩
   have z15 := K5.size
   have lt16 := O5_b0_0.lth
   refine qd 6 rfl<|qm rfl<|qv rfl (vv_fieldAddr fa_52_5 rfl) ?_
   have B17 := (B14.kz K5 (tk1 (pb_1 (b := b1) f4_b0_0 (pb_1 f3_b0_0 (.inl rfl)))))
   refine qv rfl (vv_load1 (v := vp0_39) one_50 rfl B17 rfl) ?_
   have Y1 := Gr.trans G1 G2
   have B18 := ((((hp0_39.gr Y1).kz K3 (tk1 (pb_lt (b := b2) lt3))).kz K4 (tk2 ((pv_sw (pv_1 (A := (fun x => zp0_39 = 0 ∨ x ≠ gp0_39)) f3_b0_0 (.inl rfl) (fun x hx => (tk1 lt3.o)))) : zp0_39 = 0 ∨ z3_b0_0 = 0 ∨ gp0_39 ≠ g3_b0_0) (pb_lt (b := b2) lt3))).kz K5 (tk2 ((pv_sw (pv_1 (A := (fun x => zp0_39 = 0 ∨ x ≠ gp0_39)) f4_b0_0 (pv_1 (A := (fun x => zp0_39 = 0 ∨ x ≠ gp0_39)) f3_b0_0 (.inl rfl) (fun x hx => (tk1 lt3.o))) (fun x hx => (tk1 lt3.o)))) : zp0_39 = 0 ∨ z4_b0_0 = 0 ∨ gp0_39 ≠ g4_b0_0) (pb_lt (b := b2) lt3)))
   refine qv rfl (vv_lenT (l := p0.Data) (c := bvc) Tryz.underlying50 rfl B18)<|qv rfl (vv_cvIU cv_3_24 rfl) ?_
   obtain ⟨x4, hx4, hm⟩ := bnd hm
   refine qe rfl (eC en_166 rfl (epoch_writer_put_w hx4 Bk5_0 O5_b0_0 ⟨(tk1 (pb_1 (b := b2) f5_b0_0 (pb_1 f4_b0_0 (pb_1 f3_b0_0 (.inl rfl)))))⟩)) ?_
   rintro _ w6 ⟨u6_b0_0, z6_b0_0, g6_b0_0, rfl, O6_b0_0, f6_b0_0, Bk6_0, K6⟩
   have z19 := K6.size
   have lt20 := O6_b0_0.lth
   refine sd_done<|sw_seq<|dw [([] ++ zf z6_b0_0 g6_b0_0)] [] (.leaf [(0,10),(1,10),(2,10),(3,10),(4,10),(5,10),(6,0),(7,10)]) ?_
   intro w7 G7 zw7
   refine sdz_leaf<|dn 0 rfl rfl (Kp.refl ([] ++ zf z6_b0_0 g6_b0_0) w7)<|qh 0 rfl rfl (Kp.refl ([] ++ zf z6_b0_0 g6_b0_0) w7) (fun w hS => vv_nilCheck rfl rfl)<|qh 0 rfl rfl (Kp.refl ([] ++ zf z6_b0_0 g6_b0_0) w7) (fun w hS => vv_fieldAddr fa_223_0 rfl) ?_
   have B21 := (Bk6_0.gr G7)
   refine qh 0 rfl rfl (Kp.refl ([] ++ zf z6_b0_0 g6_b0_0) w7) (fun w hS => vv_load1 (v := u6_b0_0) one_50 rfl (Bx.kp B21 hS (tk1 (pb_1 (b := b2) f6_b0_0 (pb_1 f5_b0_0 (pb_1 f4_b0_0 (pb_1 f3_b0_0 (.inl rfl))))))) rfl)<|qh 0 rfl rfl (Kp.refl ([] ++ zf z6_b0_0 g6_b0_0) w7) (fun w hS => vv_fieldAddr fa_52_5 rfl) ?_
   have B22 := ((B17.kz K6 (tk1 (pb_1 (b := b1) f5_b0_0 (pb_1 f4_b0_0 (pb_1 f3_b0_0 (.inl rfl)))))).gr G7)
   refine qh 0 rfl rfl (Kp.refl ([] ++ zf z6_b0_0 g6_b0_0) w7) (fun w hS => vv_load1 (v := vp0_39) one_50 rfl (Bx.kp B22 hS (tk1 (pb_1 (b := b1) f6_b0_0 (pb_1 f5_b0_0 (pb_1 f4_b0_0 (pb_1 f3_b0_0 (.inl rfl))))))) rfl) ?_
   have B23 := (O6_b0_0.gr G7)
   have B24 := ((B18.kz K6 (tk2 ((pv_sw (pv_1 (A := (fun x => zp0_39 = 0 ∨ x ≠ gp0_39)) f5_b0_0 (pv_1 (A := (fun x => zp0_39 = 0 ∨ x ≠ gp0_39)) f4_b0_0 (pv_1 (A := (fun x => zp0_39 = 0 ∨ x ≠ gp0_39)) f3_b0_0 (.inl rfl) (fun x hx => (tk1 lt3.o))) (fun x hx => (tk1 lt3.o))) (fun x hx => (tk1 lt3.o)))) : zp0_39 = 0 ∨ z5_b0_0 = 0 ∨ gp0_39 ≠ g5_b0_0) (pb_lt (b := b2) lt3))).gr G7)
   obtain ⟨l5, hl5, hm⟩ := bnd hm
   refine qz [(z6_b0_0, g6_b0_0)] rfl (ev_appT (l := x4.out) (m := p0.Data) (c := bvc) apt_50 rfl rfl B23 B24 hl5 (by decide)) ⟨fun _ => (tk1 (tk0 : z6_b0_0 = 0 ∨ (g6_b0_0 = g6_b0_0 ∧ z6_b0_0 ≠ 0) ∨ w7.heap.size ≤ g6_b0_0)), trivial⟩ ?_
   rintro vw8 w8 ⟨zw8, gw8, Ow8, Aw8, qw8, rw8⟩
   have z25 := Aw8.size
   refine ⟨Kz.ofKa Aw8, ?_⟩
   have S26 := ((Kp.refl ([] ++ zf z6_b0_0 g6_b0_0) w7).ka Aw8 (tk1 (tk0 : z6_b0_0 = 0 ∨ (g6_b0_0 = g6_b0_0 ∧ z6_b0_0 ≠ 0) ∨ w7.heap.size ≤ g6_b0_0)))
   refine dn 0 rfl rfl S26<|qb ?_
   have X27 := ((((((((Gr.refl w).trans Y1).kz K3).kz K4 (tk1 (pv_1 (A := (fun x => w.heap.size ≤ x)) f3_b0_0 (.inl rfl)))).kz K5 (tk1 (pv_1 (A := (fun x => w.heap.size ≤ x)) f4_b0_0 (pv_1 (A := (fun x => w.heap.size ≤ x)) f3_b0_0 (.inl rfl))))).kz K6 (tk1 (pv_1 (A := (fun x => w.heap.size ≤ x)) f5_b0_0 (pv_1 (A := (fun x => w.heap.size ≤ x)) f4_b0_0 (pv_1 (A := (fun x => w.heap.size ≤ x)) f3_b0_0 (.inl rfl)))))).trans G7).ka Aw8 (tk1 (pv_1 (A := (fun x => w.heap.size ≤ x)) f6_b0_0 (pv_1 (A := (fun x => w.heap.size ≤ x)) f5_b0_0 (pv_1 (A := (fun x => w.heap.size ≤ x)) f4_b0_0 (pv_1 (A := (fun x => w.heap.size ≤ x)) f3_b0_0 (.inl rfl)))))))
   cases hm
   refine ⟨_, _, rfl, res_1 rfl (rv_tmp rfl), ?_⟩
   exact ⟨vw8, zw8, gw8, rfl, Ow8, ⟨(pv_app (A := (fun x => w.heap.size ≤ x)) rw8 (pv_1 (A := (fun x => w.heap.size ≤ x)) f6_b0_0 (pv_1 (A := (fun x => w.heap.size ≤ x)) f5_b0_0 (pv_1 (A := (fun x => w.heap.size ≤ x)) f4_b0_0 (pv_1 (A := (fun x => w.heap.size ≤ x)) f3_b0_0 (.inl rfl))))))⟩, X27⟩
 replace hm := iF c1 hm
 refine qu<|qs 5 rfl<|qm rfl<|qv rfl (vv_fieldAddr fa_52_1 rfl)<|qv rfl (vv_load1 (v := .int .i64 p0.Epoch) one_3 rfl B11 rfl) ?_
 refine qv rfl (vv_cvIU cv_3_24 rfl) ?_
 obtain ⟨x6, hx6, hm⟩ := bnd hm
 refine qe rfl (eC en_166 rfl (epoch_writer_put_w hx6 Bk3_0 O3_b0_0 ⟨(tk1 (pb_1 (b := b2) f3_b0_0 (.inl rfl)))⟩)) ?_
 rintro _ w9 ⟨u9_b0_0, z9_b0_0, g9_b0_0, rfl, O9_b0_0, f9_b0_0, Bk9_0, K9⟩
 have z28 := K9.size
 have lt29 := O9_b0_0.lth
 refine qd 7 rfl<|qm rfl<|qv rfl (vv_fieldAddr fa_52_2 rfl)<|qv rfl (vv_fieldAddr fa_48_0 rfl) ?_
 have B30 := (B11.kz K9 (tk1 (pb_1 (b := b1) f3_b0_0 (.inl rfl))))
 refine qv rfl (vv_load1 (v := vp0_2) one_45 rfl B30 rfl) ?_
 have Y2 := Gr.trans G1 G2
 have B31 := (((hp0_2.gr Y2).kz K3 (tk1 (pb_lt (b := b2) lt1))).kz K9 (tk2 ((pv_sw (pv_1 (A := (fun x => zp0_2 = 0 ∨ x ≠ gp0_2)) f3_b0_0 (.inl rfl) (fun x hx => (tk1 lt1.o)))) : zp0_2 = 0 ∨ z3_b0_0 = 0 ∨ gp0_2 ≠ g3_b0_0) (pb_lt (b := b2) lt1)))
 refine qv rfl (vv_lenT (l := p0.Head.Items) (c := TItem.cs) Tryz.underlying45 rfl B31)<|qv rfl (vv_cvIU cv_3_24 rfl) ?_
 obtain ⟨x7, hx7, hm⟩ := bnd hm
 refine qe rfl (eC en_166 rfl (epoch_writer_put_w hx7 Bk9_0 O9_b0_0 ⟨(tk1 (pb_1 (b := b2) f9_b0_0 (pb_1 f3_b0_0 (.inl rfl))))⟩)) ?_
 rintro _ w10 ⟨u10_b0_0, z10_b0_0, g10_b0_0, rfl, O10_b0_0, f10_b0_0, Bk10_0, K10⟩
 have z32 := K10.size
 have lt33 := O10_b0_0.lth
 refine sd_done<|sw_seq<|qs 5 rfl<|qv rfl (vv_fieldAddr fa_52_2 rfl)<|qv rfl (vv_fieldAddr fa_48_0 rfl) ?_
 have B34 := (B30.kz K10 (tk1 (pb_1 (b := b1) f9_b0_0 (pb_1 f3_b0_0 (.inl rfl)))))
 refine qv rfl (vv_load1 (v := vp0_2) one_45 rfl B34 rfl) ?_
 have B35 := (B31.kz K10 (tk2 ((pv_sw (pv_1 (A := (fun x => zp0_2 = 0 ∨ x ≠ gp0_2)) f9_b0_0 (pv_1 (A := (fun x => zp0_2 = 0 ∨ x ≠ gp0_2)) f3_b0_0 (.inl rfl) (fun x hx => (tk1 lt1.o))) (fun x hx => (tk1 lt1.o)))) : zp0_2 = 0 ∨ z9_b0_0 = 0 ∨ gp0_2 ≠ g9_b0_0) (pb_lt (b := b2) lt1)))
 refine qv rfl (vv_lenT (l := p0.Head.Items) (c := TItem.cs) Tryz.underlying45 rfl B35)<|qm rfl<|sd_done<|sw_block ?_
 have X36 := (((((Gr.refl w).trans Y2).kz K3).kz K9 (tk1 (pv_1 (A := (fun x => w.heap.size ≤ x)) f3_b0_0 (.inl rfl)))).kz K10 (tk1 (pv_1 (A := (fun x => w.heap.size ≤ x)) f9_b0_0 (pv_1 (A := (fun x => w.heap.size ≤ x)) f3_b0_0 (.inl rfl)))))
 have B37 := ((((hp0_4.gr Y2).kz K3 (tk1 (pb_lt (b := b2) lt2))).kz K9 (tk2 ((pv_sw (pv_1 (A := (fun x => zp0_4 = 0 ∨ x ≠ gp0_4)) f3_b0_0 (.inl rfl) (fun x hx => (tk1 lt2.o)))) : zp0_4 = 0 ∨ z3_b0_0 = 0 ∨ gp0_4 ≠ g3_b0_0) (pb_lt (b := b2) lt2))).kz K10 (tk2 ((pv_sw (pv_1 (A := (fun x => zp0_4 = 0 ∨ x ≠ gp0_4)) f9_b0_0 (pv_1 (A := (fun x => zp0_4 = 0 ∨ x ≠ gp0_4)) f3_b0_0 (.inl rfl) (fun x hx => (tk1 lt2.o))) (fun x hx => (tk1 lt2.o)))) : zp0_4 = 0 ∨ z9_b0_0 = 0 ∨ gp0_4 ≠ g9_b0_0) (pb_lt (b := b2) lt2)))
 have B38 := ((((hp0_39.gr Y2).kz K3 (tk1 (pb_lt (b := b2) lt3))).kz K9 (tk2 ((pv_sw (pv_1 (A := (fun x => zp0_39 = 0 ∨ x ≠ gp0_39)) f3_b0_0 (.inl rfl) (fun x hx => (tk1 lt3.o)))) : zp0_39 = 0 ∨ z3_b0_0 = 0 ∨ gp0_39 ≠ g3_b0_0) (pb_lt (b := b2) lt3))).kz K10 (tk2 ((pv_sw (pv_1 (A := (fun x => zp0_39 = 0 ∨ x ≠ gp0_39)) f9_b0_0 (pv_1 (A := (fun x => zp0_39 = 0 ∨ x ≠ gp0_39)) f3_b0_0 (.inl rfl) (fun x hx => (tk1 lt3.o))) (fun x hx => (tk1 lt3.o)))) : zp0_39 = 0 ∨ z9_b0_0 = 0 ∨ gp0_39 ≠ g9_b0_0) (pb_lt (b := b2) lt3)))
 refine sw_loopD (α := Nat × Int × Tepoch_writer × Value × Nat × Nat) ([5] ++ rg 56 21) (fun ⟨n1, a11, a12, vy13, zy13, gy13⟩ => [(56, .int .i64 a11)]) (fun ⟨n1, a11, a12, vy13, zy13, gy13⟩ wr => (fixN (epoch_body_L1 p0) n1 (a11, a12) = some r) ∧ Own wr zy13 gy13 5 1 vy13 (a12.out.map bvc) ∧ Hdn (zy13 = 0 ∨ (gy13 = g10_b0_0 ∧ z10_b0_0 ≠ 0) ∨ w10.heap.size ≤ gy13) ∧ Bx wr b2 223 (Tepoch_writer.cs a12 vy13) ∧ Kz [(1, b2), (z10_b0_0, g10_b0_0)] w10 wr) (fun ⟨n1, a11, a12, vy13, zy13, gy13⟩ => n1) ⟨FUEL, 0, x7, u10_b0_0, z10_b0_0, g10_b0_0⟩ ?_ ?_ ?_
 · exact sbq
 · exact ⟨hm, O10_b0_0, ⟨tk0⟩, Bk10_0, Kz.refl _ _⟩
 clear hm; rintro ⟨n1, a11, a12, vy13, zy13, gy13⟩ w11 ⟨hm, Fw11_0, Fw11_1, Fw11_2, K11⟩
 have z39 := K11.size
 have lt40 := Fw11_0.lth
 have lt41 := Fw11_2.lt
 have hb := fix_succ hm; clear hm; obtain ⟨n1, rfl, hm⟩ := hb
 generalize hrec1 : fixN (epoch_body_L1 p0) n1 = rec1 at hm
 unfold epoch_body_L1 at hm
 try dsimp only at hm
 refine qs 1 rfl<|qv rfl (vv_lss (a := a11) (b := (p0.Head.Items.length : Int)) rfl rfl)<|sd_done<|sw_seq<|sw_cond rfl (fun c2 => ?_) (fun c2 => ?_)
 · replace hm := iT c2 hm
   refine qu<|sw_seq<|sw_block<|qs 4 rfl ?_
   obtain ⟨y14, hy14, hm⟩ := bnd hm
   have B42 := (B35.kz K11 (tk2 ((pv_sw (pv_1 (A := (fun x => zp0_2 = 0 ∨ x ≠ gp0_2)) f10_b0_0 (pv_1 (A := (fun x => zp0_2 = 0 ∨ x ≠ gp0_2)) f9_b0_0 (pv_1 (A := (fun x => zp0_2 = 0 ∨ x ≠ gp0_2)) f3_b0_0 (.inl rfl) (fun x hx => (tk1 lt1.o))) (fun x hx => (tk1 lt1.o))) (fun x hx => (tk1 lt1.o)))) : zp0_2 = 0 ∨ z10_b0_0 = 0 ∨ gp0_2 ≠ g10_b0_0) (pb_lt (b := b2) lt1)))
   refine qv rfl (vv_ixT (i := a11) Tryz.underlying45 (agg_133).siz rfl B42 rfl hy14)<|qv rfl (vv_elWT agg_133 rfl B42 hy14 (by first | rfl | omega))<|qe rfl (ev_alloc (cs := TItem.cs (TItem.mk (TSubset.mk 0 0) k0)) zv_133 rfl) ?_
   rintro _ w12 ⟨b12, rfl, hbw12, Bw12, G12⟩
   have z43 := G12.size
   have lt44 := Bw12.lt
   refine qe rfl (ev_stW agg_133 rfl rfl rfl Bw12 rfl rfl) ?_
   rintro _ w13 ⟨Bw13, M13⟩
   have z45 := M13.size
   refine qd 6 rfl<|qm rfl<|qv rfl (vv_fieldAddr fa_133_0 rfl)<|qv rfl (vv_fieldAddr fa_131_0 rfl)<|qv rfl (vv_load1 (v := .int .i64 y14.Subset.Node) one_3 rfl Bw13 rfl) ?_
   refine qv rfl (vv_cvIU cv_3_24 rfl) ?_
   have B46 := ((Fw11_2.gr G12).md M13)
   have B47 := ((Fw11_0.gr G12).md M13 (pb_lt lt40))
   obtain ⟨x15, hx15, hm⟩ := bnd hm
   refine qe rfl (eC en_166 rfl (epoch_writer_put_w hx15 B46 B47 ⟨(tk1 (pb_1 (b := b2) Fw11_1 (pb_1 f10_b0_0 (pb_1 f9_b0_0 (pb_1 f3_b0_0 (.inl rfl))))))⟩)) ?_
   rintro _ w14 ⟨u14_b0_0, z14_b0_0, g14_b0_0, rfl, O14_b0_0, f14_b0_0, Bk14_0, K14⟩
   have z48 := K14.size
   have lt49 := O14_b0_0.lth
   refine qd 6 rfl<|qm rfl<|qv rfl (vv_fieldAddr fa_133_0 rfl)<|qv rfl (vv_fieldAddr fa_131_1 rfl) ?_
   have B50 := (Bw13.kz K14 (tk1 (pb_lt (b := b12) lt40)))
   refine qv rfl (vv_load1 (v := .int .i64 y14.Subset.Minus) one_3 rfl B50 rfl)<|qv rfl (vv_cvIU cv_3_24 rfl) ?_
   obtain ⟨x16, hx16, hm⟩ := bnd hm
   refine qe rfl (eC en_166 rfl (epoch_writer_put_w hx16 Bk14_0 O14_b0_0 ⟨(tk1 (pb_1 (b := b2) f14_b0_0 (pb_1 Fw11_1 (pb_1 f10_b0_0 (pb_1 f9_b0_0 (pb_1 f3_b0_0 (.inl rfl)))))))⟩)) ?_
   rintro _ w15 ⟨u15_b0_0, z15_b0_0, g15_b0_0, rfl, O15_b0_0, f15_b0_0, Bk15_0, K15⟩
   have z51 := K15.size
   have lt52 := O15_b0_0.lth
   refine sd_done<|qg 4 rfl<|qm rfl<|qv rfl (vv_fieldAddr fa_133_1 rfl) ?_
   have B53 := (B50.kz K15 (tk1 (pb_1 (b := b12) f14_b0_0 (pb_lt lt40))))
   refine qv rfl (vv_loadM (vs := kb y14.Box) agg_23 rfl B53 rfl rfl) ?_
   obtain ⟨x17, hx17, hm⟩ := bnd hm
   refine qe rfl (eC en_167 rfl (epoch_writer_key_w hx17 Bk15_0 O15_b0_0 ⟨(tk1 (pb_1 (b := b2) f15_b0_0 (pb_1 f14_b0_0 (pb_1 Fw11_1 (pb_1 f10_b0_0 (pb_1 f9_b0_0 (pb_1 f3_b0_0 (.inl rfl))))))))⟩)) ?_
   rintro _ w16 ⟨u16_b0_0, z16_b0_0, g16_b0_0, rfl, O16_b0_0, f16_b0_0, Bk16_0, K16⟩
   have z54 := K16.size
   have lt55 := O16_b0_0.lth
   refine sd_nil<|block_n<|then_n<|qg 2 rfl<|qv rfl (vv_add (k := .i64) (a := a11) (b := 1) rfl rfl)<|qm rfl<|sd_nil ?_
   have K_56 : Kz [(1, b2), (z10_b0_0, g10_b0_0)] w10 w16 := (((((K11.gr G12).md M13).kz K14 (tk1 (pv_1 (A := (fun x => (x = g10_b0_0 ∧ z10_b0_0 ≠ 0) ∨ w10.heap.size ≤ x)) Fw11_1 tk0))).kz K15 (tk1 (pv_1 (A := (fun x => (x = g10_b0_0 ∧ z10_b0_0 ≠ 0) ∨ w10.heap.size ≤ x)) f14_b0_0 (pv_1 (A := (fun x => (x = g10_b0_0 ∧ z10_b0_0 ≠ 0) ∨ w10.heap.size ≤ x)) Fw11_1 tk0)))).kz K16 (tk1 (pv_1 (A := (fun x => (x = g10_b0_0 ∧ z10_b0_0 ≠ 0) ∨ w10.heap.size ≤ x)) f15_b0_0 (pv_1 (A := (fun x => (x = g10_b0_0 ∧ z10_b0_0 ≠ 0) ∨ w10.heap.size ≤ x)) f14_b0_0 (pv_1 (A := (fun x => (x = g10_b0_0 ∧ z10_b0_0 ≠ 0) ∨ w10.heap.size ≤ x)) Fw11_1 tk0)))))
   subst hrec1
   exact ⟨rfl, ⟨n1, w64 (a11 + 1), x17, u16_b0_0, z16_b0_0, g16_b0_0⟩, sbq, ⟨hm, O16_b0_0, ⟨(pv_1 (A := (fun x => (x = g10_b0_0 ∧ z10_b0_0 ≠ 0) ∨ w10.heap.size ≤ x)) f16_b0_0 (pv_1 (A := (fun x => (x = g10_b0_0 ∧ z10_b0_0 ≠ 0) ∨ w10.heap.size ≤ x)) f15_b0_0 (pv_1 (A := (fun x => (x = g10_b0_0 ∧ z10_b0_0 ≠ 0) ∨ w10.heap.size ≤ x)) f14_b0_0 (pv_1 (A := (fun x => (x = g10_b0_0 ∧ z10_b0_0 ≠ 0) ∨ w10.heap.size ≤ x)) Fw11_1 tk0))))⟩, Bk16_0, K_56⟩, Nat.lt_succ_self _⟩
 replace hm := iF c2 hm
 refine sw_exit<|then_x<|then_x<|block_x<|then_n<|qs 5 rfl ?_
 refine qm rfl<|qv rfl (vv_fieldAddr fa_52_2 rfl)<|qv rfl (vv_fieldAddr fa_48_1 rfl) ?_
 have B57 := (B34.kz K11 (tk1 (pb_1 (b := b1) f10_b0_0 (pb_1 f9_b0_0 (pb_1 f3_b0_0 (.inl rfl))))))
 refine qv rfl (vv_load1 (v := wv p0.Head.Base) one_24 rfl B57 rfl) ?_
 obtain ⟨x18, hx18, hm⟩ := bnd hm
 refine qe rfl (eC en_166 rfl (epoch_writer_put_w hx18 Fw11_2 Fw11_0 ⟨(tk1 (pb_1 (b := b2) Fw11_1 (pb_1 f10_b0_0 (pb_1 f9_b0_0 (pb_1 f3_b0_0 (.inl rfl))))))⟩)) ?_
 rintro _ w17 ⟨u17_b0_0, z17_b0_0, g17_b0_0, rfl, O17_b0_0, f17_b0_0, Bk17_0, K17⟩
 have z58 := K17.size
 have lt59 := O17_b0_0.lth
 refine qd 7 rfl<|qm rfl<|qv rfl (vv_fieldAddr fa_52_2 rfl)<|qv rfl (vv_fieldAddr fa_48_2 rfl) ?_
 have B60 := (B57.kz K17 (tk1 (pb_1 (b := b1) Fw11_1 (pb_1 f10_b0_0 (pb_1 f9_b0_0 (pb_1 f3_b0_0 (.inl rfl)))))))
 refine qv rfl (vv_load1 (v := vp0_4) one_46 rfl B60 rfl) ?_
 have B61 := ((B37.kz K11 (tk2 ((pv_sw (pv_1 (A := (fun x => zp0_4 = 0 ∨ x ≠ gp0_4)) f10_b0_0 (pv_1 (A := (fun x => zp0_4 = 0 ∨ x ≠ gp0_4)) f9_b0_0 (pv_1 (A := (fun x => zp0_4 = 0 ∨ x ≠ gp0_4)) f3_b0_0 (.inl rfl) (fun x hx => (tk1 lt2.o))) (fun x hx => (tk1 lt2.o))) (fun x hx => (tk1 lt2.o)))) : zp0_4 = 0 ∨ z10_b0_0 = 0 ∨ gp0_4 ≠ g10_b0_0) (pb_lt (b := b2) lt2))).kz K17 (tk2 ((pv_sw (pv_1 (A := (fun x => zp0_4 = 0 ∨ x ≠ gp0_4)) Fw11_1 (pv_1 (A := (fun x => zp0_4 = 0 ∨ x ≠ gp0_4)) f10_b0_0 (pv_1 (A := (fun x => zp0_4 = 0 ∨ x ≠ gp0_4)) f9_b0_0 (pv_1 (A := (fun x => zp0_4 = 0 ∨ x ≠ gp0_4)) f3_b0_0 (.inl rfl) (fun x hx => (tk1 lt2.o))) (fun x hx => (tk1 lt2.o))) (fun x hx => (tk1 lt2.o))) (fun x hx => (tk1 lt2.o)))) : zp0_4 = 0 ∨ zy13 = 0 ∨ gp0_4 ≠ gy13) (pb_lt (b := b2) lt2)))
 refine qv rfl (vv_lenT (l := p0.Head.Points) (c := TPoint.cs) Tryz.underlying46 rfl B61)<|qv rfl (vv_cvIU cv_3_24 rfl) ?_
 obtain ⟨x19, hx19, hm⟩ := bnd hm
 refine qe rfl (eC en_166 rfl (epoch_writer_put_w hx19 Bk17_0 O17_b0_0 ⟨(tk1 (pb_1 (b := b2) f17_b0_0 (pb_1 Fw11_1 (pb_1 f10_b0_0 (pb_1 f9_b0_0 (pb_1 f3_b0_0 (.inl rfl)))))))⟩)) ?_
 rintro _ w18 ⟨u18_b0_0, z18_b0_0, g18_b0_0, rfl, O18_b0_0, f18_b0_0, Bk18_0, K18⟩
 have z62 := K18.size
 have lt63 := O18_b0_0.lth
 refine sd_done<|sw_seq<|qs 5 rfl<|qv rfl (vv_fieldAddr fa_52_2 rfl)<|qv rfl (vv_fieldAddr fa_48_2 rfl) ?_
 have B64 := (B60.kz K18 (tk1 (pb_1 (b := b1) f17_b0_0 (pb_1 Fw11_1 (pb_1 f10_b0_0 (pb_1 f9_b0_0 (pb_1 f3_b0_0 (.inl rfl))))))))
 refine qv rfl (vv_load1 (v := vp0_4) one_46 rfl B64 rfl) ?_
 have B65 := (B61.kz K18 (tk2 ((pv_sw (pv_1 (A := (fun x => zp0_4 = 0 ∨ x ≠ gp0_4)) f17_b0_0 (pv_1 (A := (fun x => zp0_4 = 0 ∨ x ≠ gp0_4)) Fw11_1 (pv_1 (A := (fun x => zp0_4 = 0 ∨ x ≠ gp0_4)) f10_b0_0 (pv_1 (A := (fun x => zp0_4 = 0 ∨ x ≠ gp0_4)) f9_b0_0 (pv_1 (A := (fun x => zp0_4 = 0 ∨ x ≠ gp0_4)) f3_b0_0 (.inl rfl) (fun x hx => (tk1 lt2.o))) (fun x hx => (tk1 lt2.o))) (fun x hx => (tk1 lt2.o))) (fun x hx => (tk1 lt2.o))) (fun x hx => (tk1 lt2.o)))) : zp0_4 = 0 ∨ z17_b0_0 = 0 ∨ gp0_4 ≠ g17_b0_0) (pb_lt (b := b2) lt2)))
 refine qv rfl (vv_lenT (l := p0.Head.Points) (c := TPoint.cs) Tryz.underlying46 rfl B65)<|qm rfl<|sd_done<|sw_block ?_
 have X66 := (((X36.kz K11 (tk1 (pv_1 (A := (fun x => w.heap.size ≤ x)) f10_b0_0 (pv_1 (A := (fun x => w.heap.size ≤ x)) f9_b0_0 (pv_1 (A := (fun x => w.heap.size ≤ x)) f3_b0_0 (.inl rfl)))))).kz K17 (tk1 (pv_1 (A := (fun x => w.heap.size ≤ x)) Fw11_1 (pv_1 (A := (fun x => w.heap.size ≤ x)) f10_b0_0 (pv_1 (A := (fun x => w.heap.size ≤ x)) f9_b0_0 (pv_1 (A := (fun x => w.heap.size ≤ x)) f3_b0_0 (.inl rfl))))))).kz K18 (tk1 (pv_1 (A := (fun x => w.heap.size ≤ x)) f17_b0_0 (pv_1 (A := (fun x => w.heap.size ≤ x)) Fw11_1 (pv_1 (A := (fun x => w.heap.size ≤ x)) f10_b0_0 (pv_1 (A := (fun x => w.heap.size ≤ x)) f9_b0_0 (pv_1 (A := (fun x => w.heap.size ≤ x)) f3_b0_0 (.inl rfl))))))))
 have B67 := (((B35.kz K11 (tk2 ((pv_sw (pv_1 (A := (fun x => zp0_2 = 0 ∨ x ≠ gp0_2)) f10_b0_0 (pv_1 (A := (fun x => zp0_2 = 0 ∨ x ≠ gp0_2)) f9_b0_0 (pv_1 (A := (fun x => zp0_2 = 0 ∨ x ≠ gp0_2)) f3_b0_0 (.inl rfl) (fun x hx => (tk1 lt1.o))) (fun x hx => (tk1 lt1.o))) (fun x hx => (tk1 lt1.o)))) : zp0_2 = 0 ∨ z10_b0_0 = 0 ∨ gp0_2 ≠ g10_b0_0) (pb_lt (b := b2) lt1))).kz K17 (tk2 ((pv_sw (pv_1 (A := (fun x => zp0_2 = 0 ∨ x ≠ gp0_2)) Fw11_1 (pv_1 (A := (fun x => zp0_2 = 0 ∨ x ≠ gp0_2)) f10_b0_0 (pv_1 (A := (fun x => zp0_2 = 0 ∨ x ≠ gp0_2)) f9_b0_0 (pv_1 (A := (fun x => zp0_2 = 0 ∨ x ≠ gp0_2)) f3_b0_0 (.inl rfl) (fun x hx => (tk1 lt1.o))) (fun x hx => (tk1 lt1.o))) (fun x hx => (tk1 lt1.o))) (fun x hx => (tk1 lt1.o)))) : zp0_2 = 0 ∨ zy13 = 0 ∨ gp0_2 ≠ gy13) (pb_lt (b := b2) lt1))).kz K18 (tk2 ((pv_sw (pv_1 (A := (fun x => zp0_2 = 0 ∨ x ≠ gp0_2)) f17_b0_0 (pv_1 (A := (fun x => zp0_2 = 0 ∨ x ≠ gp0_2)) Fw11_1 (pv_1 (A := (fun x => zp0_2 = 0 ∨ x ≠ gp0_2)) f10_b0_0 (pv_1 (A := (fun x => zp0_2 = 0 ∨ x ≠ gp0_2)) f9_b0_0 (pv_1 (A := (fun x => zp0_2 = 0 ∨ x ≠ gp0_2)) f3_b0_0 (.inl rfl) (fun x hx => (tk1 lt1.o))) (fun x hx => (tk1 lt1.o))) (fun x hx => (tk1 lt1.o))) (fun x hx => (tk1 lt1.o))) (fun x hx => (tk1 lt1.o)))) : zp0_2 = 0 ∨ z17_b0_0 = 0 ∨ gp0_2 ≠ g17_b0_0) (pb_lt (b := b2) lt1)))
 have B68 := (((B38.kz K11 (tk2 ((pv_sw (pv_1 (A := (fun x => zp0_39 = 0 ∨ x ≠ gp0_39)) f10_b0_0 (pv_1 (A := (fun x => zp0_39 = 0 ∨ x ≠ gp0_39)) f9_b0_0 (pv_1 (A := (fun x => zp0_39 = 0 ∨ x ≠ gp0_39)) f3_b0_0 (.inl rfl) (fun x hx => (tk1 lt3.o))) (fun x hx => (tk1 lt3.o))) (fun x hx => (tk1 lt3.o)))) : zp0_39 = 0 ∨ z10_b0_0 = 0 ∨ gp0_39 ≠ g10_b0_0) (pb_lt (b := b2) lt3))).kz K17 (tk2 ((pv_sw (pv_1 (A := (fun x => zp0_39 = 0 ∨ x ≠ gp0_39)) Fw11_1 (pv_1 (A := (fun x => zp0_39 = 0 ∨ x ≠ gp0_39)) f10_b0_0 (pv_1 (A := (fun x => zp0_39 = 0 ∨ x ≠ gp0_39)) f9_b0_0 (pv_1 (A := (fun x => zp0_39 = 0 ∨ x ≠ gp0_39)) f3_b0_0 (.inl rfl) (fun x hx => (tk1 lt3.o))) (fun x hx => (tk1 lt3.o))) (fun x hx => (tk1 lt3.o))) (fun x hx => (tk1 lt3.o)))) : zp0_39 = 0 ∨ zy13 = 0 ∨ gp0_39 ≠ gy13) (pb_lt (b := b2) lt3))).kz K18 (tk2 ((pv_sw (pv_1 (A := (fun x => zp0_39 = 0 ∨ x ≠ gp0_39)) f17_b0_0 (pv_1 (A := (fun x => zp0_39 = 0 ∨ x ≠ gp0_39)) Fw11_1 (pv_1 (A := (fun x => zp0_39 = 0 ∨ x ≠ gp0_39)) f10_b0_0 (pv_1 (A := (fun x => zp0_39 = 0 ∨ x ≠ gp0_39)) f9_b0_0 (pv_1 (A := (fun x => zp0_39 = 0 ∨ x ≠ gp0_39)) f3_b0_0 (.inl rfl) (fun x hx => (tk1 lt3.o))) (fun x hx => (tk1 lt3.o))) (fun x hx => (tk1 lt3.o))) (fun x hx => (tk1 lt3.o))) (fun x hx => (tk1 lt3.o)))) : zp0_39 = 0 ∨ z17_b0_0 = 0 ∨ gp0_39 ≠ g17_b0_0) (pb_lt (b := b2) lt3)))
 refine sw_loopD (α := Nat × Int × Tepoch_writer × Value × Nat × Nat) ([7] ++ rg 93 13) (fun ⟨n2, a23, a24, vy25, zy25, gy25⟩ => [(93, .int .i64 a23)]) (fun ⟨n2, a23, a24, vy25, zy25, gy25⟩ wr => (fixN (epoch_body_L2 p0) n2 (a23, a24) = some r) ∧ Own wr zy25 gy25 5 1 vy25 (a24.out.map bvc) ∧ Hdn (zy25 = 0 ∨ (gy25 = g18_b0_0 ∧ z18_b0_0 ≠ 0) ∨ w18.heap.size ≤ gy25) ∧ Bx wr b2 223 (Tepoch_writer.cs a24 vy25) ∧ Kz [(1, b2), (z18_b0_0, g18_b0_0)] w18 wr) (fun ⟨n2, a23, a24, vy25, zy25, gy25⟩ => n2) ⟨FUEL, 0, x19, u18_b0_0, z18_b0_0, g18_b0_0⟩ ?_ ?_ ?_
 · exact sbq
 · exact ⟨hm, O18_b0_0, ⟨tk0⟩, Bk18_0, Kz.refl _ _⟩
 clear hm; rintro ⟨n2, a23, a24, vy25, zy25, gy25⟩ w19 ⟨hm, Fw19_0, Fw19_1, Fw19_2, K19⟩
 have z69 := K19.size
 have lt70 := Fw19_0.lth
 have lt71 := Fw19_2.lt
 have hb := fix_succ hm; clear hm; obtain ⟨n2, rfl, hm⟩ := hb
 generalize hrec2 : fixN (epoch_body_L2 p0) n2 = rec2 at hm
 unfold epoch_body_L2 at hm
 try dsimp only at hm
 refine qs 1 rfl<|qv rfl (vv_lss (a := a23) (b := (p0.Head.Points.length : Int)) rfl rfl)<|sd_done<|sw_seq<|sw_cond rfl (fun c3 => ?_) (fun c3 => ?_)
 · replace hm := iT c3 hm
   refine qu<|sw_seq<|sw_block<|qs 4 rfl ?_
   obtain ⟨y26, hy26, hm⟩ := bnd hm
   have B72 := (B65.kz K19 (tk2 ((pv_sw (pv_1 (A := (fun x => zp0_4 = 0 ∨ x ≠ gp0_4)) f18_b0_0 (pv_1 (A := (fun x => zp0_4 = 0 ∨ x ≠ gp0_4)) f17_b0_0 (pv_1 (A := (fun x => zp0_4 = 0 ∨ x ≠ gp0_4)) Fw11_1 (pv_1 (A := (fun x => zp0_4 = 0 ∨ x ≠ gp0_4)) f10_b0_0 (pv_1 (A := (fun x => zp0_4 = 0 ∨ x ≠ gp0_4)) f9_b0_0 (pv_1 (A := (fun x => zp0_4 = 0 ∨ x ≠ gp0_4)) f3_b0_0 (.inl rfl) (fun x hx => (tk1 lt2.o))) (fun x hx => (tk1 lt2.o))) (fun x hx => (tk1 lt2.o))) (fun x hx => (tk1 lt2.o))) (fun x hx => (tk1 lt2.o))) (fun x hx => (tk1 lt2.o)))) : zp0_4 = 0 ∨ z18_b0_0 = 0 ∨ gp0_4 ≠ g18_b0_0) (pb_lt (b := b2) lt2)))
   refine qv rfl (vv_ixT (i := a23) Tryz.underlying46 (agg_31).siz rfl B72 rfl hy26)<|qv rfl (vv_elWT agg_31 rfl B72 hy26 (by first | rfl | omega))<|qe rfl (ev_alloc (cs := TPoint.cs (TPoint.mk 0#64 0#64)) zv_31 rfl) ?_
   rintro _ w20 ⟨b20, rfl, hbw20, Bw20, G20⟩
   have z73 := G20.size
   have lt74 := Bw20.lt
   refine qe rfl (ev_stW agg_31 rfl rfl rfl Bw20 rfl rfl) ?_
   rintro _ w21 ⟨Bw21, M21⟩
   have z75 := M21.size
   refine qd 4 rfl<|qm rfl<|qv rfl (vv_fieldAddr fa_31_0 rfl)<|qv rfl (vv_load1 (v := wv y26.X) one_24 rfl Bw21 rfl) ?_
   have B76 := ((Fw19_2.gr G20).md M21)
   have B77 := ((Fw19_0.gr G20).md M21 (pb_lt lt70))
   obtain ⟨x27, hx27, hm⟩ := bnd hm
   refine qe rfl (eC en_166 rfl (epoch_writer_put_w hx27 B76 B77 ⟨(tk1 (pb_1 (b := b2) Fw19_1 (pb_1 f18_b0_0 (pb_1 f17_b0_0 (pb_1 Fw11_1 (pb_1 f10_b0_0 (pb_1 f9_b0_0 (pb_1 f3_b0_0 (.inl rfl)))))))))⟩)) ?_
   rintro _ w22 ⟨u22_b0_0, z22_b0_0, g22_b0_0, rfl, O22_b0_0, f22_b0_0, Bk22_0, K22⟩
   have z78 := K22.size
   have lt79 := O22_b0_0.lth
   refine sd_done<|qg 4 rfl<|qm rfl<|qv rfl (vv_fieldAddr fa_31_1 rfl) ?_
   have B80 := (Bw21.kz K22 (tk1 (pb_lt (b := b20) lt70)))
   refine qv rfl (vv_load1 (v := wv y26.Y) one_24 rfl B80 rfl) ?_
   obtain ⟨x28, hx28, hm⟩ := bnd hm
   refine qe rfl (eC en_166 rfl (epoch_writer_put_w hx28 Bk22_0 O22_b0_0 ⟨(tk1 (pb_1 (b := b2) f22_b0_0 (pb_1 Fw19_1 (pb_1 f18_b0_0 (pb_1 f17_b0_0 (pb_1 Fw11_1 (pb_1 f10_b0_0 (pb_1 f9_b0_0 (pb_1 f3_b0_0 (.inl rfl))))))))))⟩)) ?_
   rintro _ w23 ⟨u23_b0_0, z23_b0_0, g23_b0_0, rfl, O23_b0_0, f23_b0_0, Bk23_0, K23⟩
   have z81 := K23.size
   have lt82 := O23_b0_0.lth
   refine sd_nil<|block_n<|then_n<|qg 2 rfl<|qv rfl (vv_add (k := .i64) (a := a23) (b := 1) rfl rfl)<|qm rfl<|sd_nil ?_
   have K_83 : Kz [(1, b2), (z18_b0_0, g18_b0_0)] w18 w23 := ((((K19.gr G20).md M21).kz K22 (tk1 (pv_1 (A := (fun x => (x = g18_b0_0 ∧ z18_b0_0 ≠ 0) ∨ w18.heap.size ≤ x)) Fw19_1 tk0))).kz K23 (tk1 (pv_1 (A := (fun x => (x = g18_b0_0 ∧ z18_b0_0 ≠ 0) ∨ w18.heap.size ≤ x)) f22_b0_0 (pv_1 (A := (fun x => (x = g18_b0_0 ∧ z18_b0_0 ≠ 0) ∨ w18.heap.size ≤ x)) Fw19_1 tk0))))
   subst hrec2
   exact ⟨rfl, ⟨n2, w64 (a23 + 1), x28, u23_b0_0, z23_b0_0, g23_b0_0⟩, sbq, ⟨hm, O23_b0_0, ⟨(pv_1 (A := (fun x => (x = g18_b0_0 ∧ z18_b0_0 ≠ 0) ∨ w18.heap.size ≤ x)) f23_b0_0 (pv_1 (A := (fun x => (x = g18_b0_0 ∧ z18_b0_0 ≠ 0) ∨ w18.heap.size ≤ x)) f22_b0_0 (pv_1 (A := (fun x => (x = g18_b0_0 ∧ z18_b0_0 ≠ 0) ∨ w18.heap.size ≤ x)) Fw19_1 tk0)))⟩, Bk23_0, K_83⟩, Nat.lt_succ_self _⟩
 replace hm := iF c3 hm
 refine sw_exit<|then_x<|then_x<|block_x<|then_n<|qs 5 rfl ?_
 refine qm rfl<|qv rfl (vv_fieldAddr fa_52_2 rfl)<|qv rfl (vv_fieldAddr fa_48_3 rfl) ?_
 have B84 := (B64.kz K19 (tk1 (pb_1 (b := b1) f18_b0_0 (pb_1 f17_b0_0 (pb_1 Fw11_1 (pb_1 f10_b0_0 (pb_1 f9_b0_0 (pb_1 f3_b0_0 (.inl rfl)))))))))
 refine qv rfl (vv_loadM (vs := kb p0.Head.Box) agg_23 rfl B84 rfl rfl) ?_
 obtain ⟨x29, hx29, hm⟩ := bnd hm
 refine qe rfl (eC en_167 rfl (epoch_writer_key_w hx29 Fw19_2 Fw19_0 ⟨(tk1 (pb_1 (b := b2) Fw19_1 (pb_1 f18_b0_0 (pb_1 f17_b0_0 (pb_1 Fw11_1 (pb_1 f10_b0_0 (pb_1 f9_b0_0 (pb_1 f3_b0_0 (.inl rfl)))))))))⟩)) ?_
 rintro _ w24 ⟨u24_b0_0, z24_b0_0, g24_b0_0, rfl, O24_b0_0, f24_b0_0, Bk24_0, K24⟩
 have z85 := K24.size
 have lt86 := O24_b0_0.lth
 refine qd 5 rfl<|qm rfl<|qv rfl (vv_fieldAddr fa_52_2 rfl)<|qv rfl (vv_fieldAddr fa_48_4 rfl) ?_
 have B87 := (B84.kz K24 (tk1 (pb_1 (b := b1) Fw19_1 (pb_1 f18_b0_0 (pb_1 f17_b0_0 (pb_1 Fw11_1 (pb_1 f10_b0_0 (pb_1 f9_b0_0 (pb_1 f3_b0_0 (.inl rfl))))))))))
 refine qv rfl (vv_loadM (vs := kb p0.Head.Check) agg_23 rfl B87 rfl rfl) ?_
 obtain ⟨x30, hx30, hm⟩ := bnd hm
 refine qe rfl (eC en_167 rfl (epoch_writer_key_w hx30 Bk24_0 O24_b0_0 ⟨(tk1 (pb_1 (b := b2) f24_b0_0 (pb_1 Fw19_1 (pb_1 f18_b0_0 (pb_1 f17_b0_0 (pb_1 Fw11_1 (pb_1 f10_b0_0 (pb_1 f9_b0_0 (pb_1 f3_b0_0 (.inl rfl))))))))))⟩)) ?_
 rintro _ w25 ⟨u25_b0_0, z25_b0_0, g25_b0_0, rfl, O25_b0_0, f25_b0_0, Bk25_0, K25⟩
 have z88 := K25.size
 have lt89 := O25_b0_0.lth
 refine qd 5 rfl<|qm rfl<|qv rfl (vv_nilCheck rfl rfl)<|qv rfl (vv_fieldAddr fa_223_0 rfl)<|qv rfl (vv_load1 (v := u25_b0_0) one_50 rfl Bk25_0 rfl) ?_
 refine qm rfl<|sd_done<|sw_ret ?_
 have X90 := (((X66.kz K19 (tk1 (pv_1 (A := (fun x => w.heap.size ≤ x)) f18_b0_0 (pv_1 (A := (fun x => w.heap.size ≤ x)) f17_b0_0 (pv_1 (A := (fun x => w.heap.size ≤ x)) Fw11_1 (pv_1 (A := (fun x => w.heap.size ≤ x)) f10_b0_0 (pv_1 (A := (fun x => w.heap.size ≤ x)) f9_b0_0 (pv_1 (A := (fun x => w.heap.size ≤ x)) f3_b0_0 (.inl rfl))))))))).kz K24 (tk1 (pv_1 (A := (fun x => w.heap.size ≤ x)) Fw19_1 (pv_1 (A := (fun x => w.heap.size ≤ x)) f18_b0_0 (pv_1 (A := (fun x => w.heap.size ≤ x)) f17_b0_0 (pv_1 (A := (fun x => w.heap.size ≤ x)) Fw11_1 (pv_1 (A := (fun x => w.heap.size ≤ x)) f10_b0_0 (pv_1 (A := (fun x => w.heap.size ≤ x)) f9_b0_0 (pv_1 (A := (fun x => w.heap.size ≤ x)) f3_b0_0 (.inl rfl)))))))))).kz K25 (tk1 (pv_1 (A := (fun x => w.heap.size ≤ x)) f24_b0_0 (pv_1 (A := (fun x => w.heap.size ≤ x)) Fw19_1 (pv_1 (A := (fun x => w.heap.size ≤ x)) f18_b0_0 (pv_1 (A := (fun x => w.heap.size ≤ x)) f17_b0_0 (pv_1 (A := (fun x => w.heap.size ≤ x)) Fw11_1 (pv_1 (A := (fun x => w.heap.size ≤ x)) f10_b0_0 (pv_1 (A := (fun x => w.heap.size ≤ x)) f9_b0_0 (pv_1 (A := (fun x => w.heap.size ≤ x)) f3_b0_0 (.inl rfl)))))))))))
 cases hm
 refine ⟨_, _, rfl, res_1 rfl (rv_tmp rfl), ?_⟩
 exact ⟨u25_b0_0, z25_b0_0, g25_b0_0, rfl, O25_b0_0, ⟨(pv_1 (A := (fun x => w.heap.size ≤ x)) f25_b0_0 (pv_1 (A := (fun x => w.heap.size ≤ x)) f24_b0_0 (pv_1 (A := (fun x => w.heap.size ≤ x)) Fw19_1 (pv_1 (A := (fun x => w.heap.size ≤ x)) f18_b0_0 (pv_1 (A := (fun x => w.heap.size ≤ x)) f17_b0_0 (pv_1 (A := (fun x => w.heap.size ≤ x)) Fw11_1 (pv_1 (A := (fun x => w.heap.size ≤ x)) f10_b0_0 (pv_1 (A := (fun x => w.heap.size ≤ x)) f9_b0_0 (pv_1 (A := (fun x => w.heap.size ≤ x)) f3_b0_0 (.inl rfl))))))))))⟩, X90⟩
theorem cipher_xor_w {p0 p1 r} (hm : cipher_xor p0 p1 = some r) {w : World} :
    Calls Tryz.prog 165 [kv p0, kv p1].toArray w fun e w' => ∃ v, e = .returned v ∧ (v = kv r ∧ Gr w w') := by
 unfold cipher_xor at hm
 refine calls_of_sw 23 Tryz.func165 rfl rfl rfl<|qs 3 rfl<|qe rfl (ev_box (cs := kb p0) rfl rfl) ?_
 rintro _ w1 ⟨b1, rfl, hbw1, Bw1, G1⟩
 have z1 := G1.size
 have lt2 := Bw1.lt
 refine qe rfl (ev_box (cs := kb p1) rfl rfl) ?_
 rintro _ w2 ⟨b2, rfl, hbw2, Bw2, G2⟩
 have z3 := G2.size
 have lt4 := Bw2.lt
 refine qe rfl (ev_alloc (cs := kb k0) zv_23 rfl) ?_
 rintro _ w3 ⟨b3, rfl, hbw3, Bw3, G3⟩
 have z5 := G3.size
 have lt6 := Bw3.lt
 refine sd_done<|sw_seq<|qs 3 rfl ?_
 have B7 := ((Bw1.gr G2).gr G3)
 refine qv rfl (vv_loadW agg_23 rfl B7 rfl) ?_
 have B8 := (Bw2.gr G3)
 refine qv rfl (vv_loadW agg_23 rfl B8 rfl)<|qv rfl (vv_eqlS (cf := kb) (a := p0) (b := p1) eqt_23 rfl rfl rfl rfl (fun h => kb_inj h))<|sd_done<|sw_cond rfl (fun c1 => ?_) (fun c1 => ?_)
 · replace hm := iT c1 hm
   refine qs 2 rfl<|qv rfl (vv_buildZ bz_23)<|qe rfl (ev_stW agg_23 rfl rfl rfl Bw3 rfl rfl) ?_
   rintro _ w4 ⟨Bw4, M4⟩
   have z9 := M4.size
   refine qb ?_
   have X10 := (((((Gr.refl w).trans G1).trans G2).trans G3).md M4)
   cases hm
   refine ⟨_, _, rfl, res_1 rfl (rv_cellW agg_23 rfl Bw4 rfl), ?_⟩
   exact ⟨rfl, X10⟩
 replace hm := iF c1 hm
 refine qu<|sw_seq<|qs 1 rfl<|qm rfl<|sd_done ?_
 refine sw_block ?_
 have X11 := ((((Gr.refl w).trans G1).trans G2).trans G3)
 refine sw_loopD (α := Nat × Int × W2) ([5] ++ rg 10 12) (fun ⟨n1, a3, a4⟩ => [(10, .int .i64 a3)]) (fun ⟨n1, a3, a4⟩ wr => (fixN (cipher_xor_L1 p1) n1 (a3, a4) = some r) ∧ Bx wr b1 23 (kb a4) ∧ Kz [(1, b1)] w3 wr) (fun ⟨n1, a3, a4⟩ => n1) ⟨FUEL, 0, p0⟩ ?_ ?_ ?_
 · exact sbq
 · exact ⟨hm, B7, Kz.refl _ _⟩
 clear hm; rintro ⟨n1, a3, a4⟩ w5 ⟨hm, Fw5_0, K5⟩
 have z12 := K5.size
 have lt13 := Fw5_0.lt
 have hb := fix_succ hm; clear hm; obtain ⟨n1, rfl, hm⟩ := hb
 generalize hrec1 : fixN (cipher_xor_L1 p1) n1 = rec1 at hm
 unfold cipher_xor_L1 at hm
 try dsimp only at hm
 refine qs 1 rfl<|qv rfl (vv_lss (a := a3) (b := 16) rfl rfl)<|sd_done<|sw_seq<|cnF rfl (fun c2 => ?_) (fun c2 => ?_)
 · replace hm := iF c2 hm
   refine sw_exit<|then_x<|then_x<|block_x<|then_n<|qs 2 rfl ?_
   refine qv rfl (vv_loadW agg_23 rfl Fw5_0 rfl) ?_
   have B18 := (Bw3.kz K5)
   refine qe rfl (ev_stW agg_23 rfl rfl rfl B18 rfl rfl) ?_
   rintro _ w8 ⟨Bw8, M8⟩
   have z19 := M8.size
   refine sd_done<|sw_ret ?_
   have X20 := ((X11.kz K5).md M8)
   cases hm
   refine ⟨_, _, rfl, res_1 rfl (rv_cellW agg_23 rfl Bw8 rfl), ?_⟩
   exact ⟨rfl, X20⟩
 replace hm := iT c2 hm
 refine qu<|sw_seq<|sw_block<|qs 2 rfl<|qm rfl ?_
 refine qm rfl<|sd_done<|dw [([b1]),([])] [(8, [1])] (.leaf [(0,10),(1,10),(2,11),(3,10),(4,10),(5,10),(6,10),(7,10),(8,0)]) ?_
 intro w6 G6 zw6
 refine sdz_leaf<|dm 0 rfl rfl ?_
 obtain ⟨y5, hy5, hm⟩ := bnd hm
 refine dh 0 rfl rfl (fun w hS => vv_ixK (i := a3) (p := a4) Tryz.underlying23 (one_5).siz rfl rfl hy5) ?_
 have B14 := (Fw5_0.gr G6)
 refine dh 1 rfl rfl (fun w hS => vv_ldK (off := 0) (p := a4) (i := a3) one_5 rfl (Bx.kp B14 hS) rfl hy5 (by omega))<|dm 0 rfl rfl ?_
 obtain ⟨y6, hy6, hm⟩ := bnd hm
 refine dh 0 rfl rfl (fun w hS => vv_ixK (i := a3) (p := p1) Tryz.underlying23 (one_5).siz rfl rfl hy6) ?_
 have B15 := ((B8.kz K5).gr G6)
 refine dh 0 rfl rfl (fun w hS => vv_ldK (off := 0) (p := p1) (i := a3) one_5 rfl (Bx.kp B15 hS) rfl hy6 (by omega))<|dh 0 rfl rfl (fun w hS => vv_xorB (a := y5) (b := y6) rfl rfl) ?_
 obtain ⟨y7, hy7, hm⟩ := bnd hm
 refine dh 0 rfl rfl (fun w hS => vv_ixK (i := a3) (p := a4) Tryz.underlying23 (one_5).siz rfl rfl hy7) ?_
 obtain ⟨x8, hx8, hm⟩ := bnd hm
 refine qz [(1, b1)] rfl (ev_stK (off := 0) (p := a4) (q := x8) (i := a3) (cs' := kb x8) (one_5).siz rfl rfl B14 rfl hx8 rfl rfl rfl) ⟨fun _ => tk0, nofun, trivial⟩ ?_
 rintro _ w7 ⟨Bw7, M7⟩
 have z16 := M7.size
 refine kM M7<|sd_nil<|block_n<|then_n<|qg 2 rfl<|qv rfl (vv_add (k := .i64) (a := a3) (b := 1) rfl rfl)<|qm rfl ?_
 refine sd_nil ?_
 have K_17 : Kz [(1, b1)] w3 w7 := ((K5.gr G6).md M7)
 subst hrec1
 exact ⟨rfl, ⟨n1, w64 (a3 + 1), x8⟩, sbq, ⟨hm, Bw7, K_17⟩, Nat.lt_succ_self _⟩
theorem cipher_Mac_1_w {p0 p1 p2 bp2 r} (hm : cipher_Mac_1 p0 p1 p2 = some r) {w : World} (hbp2 : Bx w bp2 23 (kb p2)) :
    Calls Tryz.prog 164 [kv p0, kv p1, .pointer (some ⟨bp2, 0, none⟩)].toArray w fun e w' => ∃ v, e = .returned v ∧ (v = kv r ∧ Gr w w') := by
 have lt1 := hbp2.lt
 unfold cipher_Mac_1 at hm
 refine calls_of_sw 11 Tryz.func164 rfl rfl rfl<|qs 3 rfl<|qe rfl (ev_box (cs := kb p0) rfl rfl) ?_
 rintro _ w1 ⟨b1, rfl, hbw1, Bw1, G1⟩
 have z2 := G1.size
 have lt3 := Bw1.lt
 refine qe rfl (ev_box (cs := kb p1) rfl rfl) ?_
 rintro _ w2 ⟨b2, rfl, hbw2, Bw2, G2⟩
 have z4 := G2.size
 have lt5 := Bw2.lt
 refine qe rfl (ev_alloc (cs := kb k0) zv_23 rfl) ?_
 rintro _ w3 ⟨b3, rfl, hbw3, Bw3, G3⟩
 have z6 := G3.size
 have lt7 := Bw3.lt
 refine sd_done<|sw_seq<|dw [([b3])] [] (.leaf [(0,10),(1,10),(2,10),(3,0),(4,0),(5,0)]) ?_
 intro w4 G4 zw4
 refine sdz_leaf ?_
 have Y1 := Gr.trans (Gr.trans (Gr.trans G1 G2) G3) G4
 have B8 := (hbp2.gr Y1)
 refine dh 0 rfl rfl (fun w hS => vv_loadW agg_23 rfl (Bx.kp B8 hS) rfl) ?_
 have Y2 := Gr.trans (Gr.trans G2 G3) G4
 have B9 := (Bw1.gr Y2)
 refine dh 0 rfl rfl (fun w hS => vv_loadW agg_23 rfl (Bx.kp B9 hS) rfl) ?_
 have Y3 := Gr.trans G3 G4
 have B10 := (Bw2.gr Y3)
 refine dh 0 rfl rfl (fun w hS => vv_loadW agg_23 rfl (Bx.kp B10 hS) rfl) ?_
 obtain ⟨x1, hx1, hm⟩ := bnd hm
 refine qz [] rfl (eC en_165 rfl (cipher_xor_w hx1)) ⟨fun _ => tk0, trivial⟩ ?_
 rintro _ w5 ⟨rfl, G5⟩
 have z11 := G5.size
 refine kG G5<|qz [] rfl (eC en_96 rfl (encr_c p2 x1 _)) ⟨fun _ => tk0, trivial⟩ ?_
 rintro _ w6 ⟨rfl, G6⟩
 have z12 := G6.size
 refine kG G6 ?_
 have B13 := (((Bw3.gr G4).gr G5).gr G6)
 refine qz [(1, b3)] rfl (ev_stW agg_23 rfl rfl rfl B13 rfl rfl) ⟨fun _ => tk0, trivial⟩ ?_
 rintro _ w7 ⟨Bw7, M7⟩
 have z14 := M7.size
 refine kM M7<|sd_done<|sw_ret ?_
 have X15 := (((((Gr.refl w).trans Y1).trans G5).trans G6).md M7)
 cases hm
 refine ⟨_, _, rfl, res_1 rfl (rv_cellW agg_23 rfl Bw7 rfl), ?_⟩
 exact ⟨rfl, X15⟩
theorem cipher_fold_cipher_Mac_1_w {p0 p1 p2_0 vp1 zp1 gp1 op1 bp2_0 r} (hm : cipher_fold_cipher_Mac_1 p0 p1 p2_0 = some r) {w : World} (hp1 : Rd w zp1 gp1 op1 1 vp1 (p1.map bvc)) (hbp2_0 : Bx w bp2_0 23 (kb p2_0)) :
    Calls Tryz.prog 163 [kv p0, vp1, .func (.func 164) [].toArray [.pointer (some ⟨bp2_0, 0, none⟩)].toArray].toArray w fun e w' => ∃ v, e = .returned v ∧ (v = kv r ∧ Gr w w') := by
 have lt1 := hp1.lth
 have lt2 := hbp2_0.lt
 unfold cipher_fold_cipher_Mac_1 at hm
 refine calls_of_sw 21 Tryz.func163 rfl rfl rfl<|qs 2 rfl<|qe rfl (ev_box (cs := kb p0) rfl rfl) ?_
 rintro _ w1 ⟨b1, rfl, hbw1, Bw1, G1⟩
 have z3 := G1.size
 have lt4 := Bw1.lt
 refine qe rfl (ev_alloc (cs := kb k0) zv_23 rfl) ?_
 rintro _ w2 ⟨b2, rfl, hbw2, Bw2, G2⟩
 have z5 := G2.size
 have lt6 := Bw2.lt
 refine sd_done<|sw_seq<|sw_block ?_
 have X7 := (((Gr.refl w).trans G1).trans G2)
 have B8 := ((hp1.gr G1).gr G2)
 have B9 := (Bw1.gr G2)
 refine sw_loopD (α := Nat × List (BitVec 8) × W2 × Value × Nat × Nat × Nat) ([1] ++ rg 7 13) (fun ⟨n1, a4, a6, vy5, zy5, gy5, oy5⟩ => [(1, vy5)]) (fun ⟨n1, a4, a6, vy5, zy5, gy5, oy5⟩ wr => (fixN (cipher_fold_cipher_Mac_1_L1 p2_0) n1 (a4, a6) = some r) ∧ Rd wr zy5 gy5 oy5 1 vy5 (a4.map bvc) ∧ Hdn (zy5 = 0 ∨ (gy5 = gp1 ∧ zp1 ≠ 0) ∨ w2.heap.size ≤ gy5) ∧ Bx wr b1 23 (kb a6) ∧ Kz [(1, b1)] w2 wr) (fun ⟨n1, a4, a6, vy5, zy5, gy5, oy5⟩ => n1) ⟨FUEL, p1, p0, vp1, zp1, gp1, op1⟩ ?_ ?_ ?_
 · exact sbq
 · exact ⟨hm, B8, ⟨tk0⟩, B9, Kz.refl _ _⟩
 clear hm; rintro ⟨n1, a4, a6, vy5, zy5, gy5, oy5⟩ w3 ⟨hm, Fw3_0, Fw3_1, Fw3_2, K3⟩
 have z10 := K3.size
 have lt11 := Fw3_0.lth
 have lt12 := Fw3_2.lt
 have hb := fix_succ hm; clear hm; obtain ⟨n1, rfl, hm⟩ := hb
 generalize hrec1 : fixN (cipher_fold_cipher_Mac_1_L1 p2_0) n1 = rec1 at hm
 unfold cipher_fold_cipher_Mac_1_L1 at hm
 try dsimp only at hm
 refine sw_seq<|qs 3 rfl<|qm rfl<|qv rfl (vv_lenT (l := a4) (c := bvc) Tryz.underlying50 rfl Fw3_0)<|qv rfl (vv_gtr (a := (a4.length : Int)) (b := 0) rfl rfl)<|sd_done ?_
 refine cnF rfl (fun c1 => ?_) (fun c1 => ?_)
 · replace hm := iF c1 hm
   refine sw_exit<|then_x<|then_x<|block_x<|then_n<|qs 2 rfl ?_
   refine qv rfl (vv_loadW agg_23 rfl Fw3_2 rfl) ?_
   have B29 := (Bw2.kz K3)
   refine qe rfl (ev_stW agg_23 rfl rfl rfl B29 rfl rfl) ?_
   rintro _ w8 ⟨Bw8, M8⟩
   have z30 := M8.size
   refine sd_done<|sw_ret ?_
   have X31 := ((X7.kz K3).md M8)
   cases hm
   refine ⟨_, _, rfl, res_1 rfl (rv_cellW agg_23 rfl Bw8 rfl), ?_⟩
   exact ⟨rfl, X31⟩
 replace hm := iT c1 hm
 refine qu<|sw_block<|qs 1 rfl<|qe rfl (ev_alloc (cs := kb k0) zv_23 rfl) ?_
 rintro _ w4 ⟨b4, rfl, hbw4, Bw4, G4⟩
 have z13 := G4.size
 have lt14 := Bw4.lt
 refine qd 6 rfl<|qm rfl ?_
 have Rk15 := rd_key (o := 0) (p := k0) Bw4 rfl
 have lt16 := Rk15.lth
 refine qv rfl (vv_sliceA (n := 16) (l := 0) (h := 16) Tryz.underlying23 (one_5).siz rfl rfl rfl (by decide) (by decide) (by decide))<|qm rfl ?_
 have B17 := (Fw3_0.gr G4)
 refine qe rfl (ev_copyK (off := 0) (p := k0) (s := a4) (cs' := kb (ofB (copyL (kby k0) a4))) apt_50 rfl rfl Bw4 rfl B17 rfl rfl) ?_
 rintro _ w5 ⟨rfl, Bw5, M5⟩
 have z18 := M5.size
 obtain ⟨l7, hl7, hm⟩ := bnd hm
 have B19 := (B17.md M5 (pb_lt lt11))
 refine qt rfl (vv_sliT (P := Tryz.prog) (lo := copyN (kby k0) a4) (hi := (a4.length : Int)) (l := a4) (c := bvc) Tryz.underlying50 (one_5).siz rfl B19 ⟨_, rfl⟩ rfl hl7) ?_
 rintro v20 o20 R20
 have lt21 := R20.lth
 refine qm rfl<|sd_done<|qg 5 rfl<|qm rfl ?_
 have B22 := ((Fw3_2.gr G4).md M5)
 refine qv rfl (vv_loadW agg_23 rfl B22 rfl)<|qv rfl (vv_loadW agg_23 rfl Bw5 rfl) ?_
 have B23 := (((((hbp2_0.gr G1).gr G2).kz K3).gr G4).md M5)
 obtain ⟨x8, hx8, hm⟩ := bnd hm
 refine qe rfl (ev_callV en_164 rfl rfl (cipher_Mac_1_w hx8 B23)) ?_
 rintro _ w6 ⟨rfl, G6⟩
 have z24 := G6.size
 have B25 := (B22.gr G6)
 refine qe rfl (ev_stW agg_23 rfl rfl rfl B25 rfl rfl) ?_
 rintro _ w7 ⟨Bw7, M7⟩
 have z26 := M7.size
 refine sd_nil<|block_n ?_
 have K_27 : Kz [(1, b1)] w2 w7 := ((((K3.gr G4).md M5).gr G6).md M7)
 have B28 := ((R20.gr G6).md M7 (pb_1 Fw3_1 (pb_lt lt1)))
 subst hrec1
 exact ⟨rfl, ⟨n1, l7, x8, v20, zy5, gy5, o20⟩, sbq, ⟨hm, B28, ⟨(pv_1 (A := (fun x => (x = gp1 ∧ zp1 ≠ 0) ∨ w2.heap.size ≤ x)) Fw3_1 tk0)⟩, Bw7, K_27⟩, Nat.lt_succ_self _⟩
theorem cipher_Mac_w {p0 p1 vp1 zp1 gp1 op1 r} (hm : cipher_Mac p0 p1 = some r) {w : World} (hp1 : Rd w zp1 gp1 op1 1 vp1 (p1.map bvc)) :
    Calls Tryz.prog 77 [kv p0, vp1].toArray w fun e w' => ∃ v, e = .returned v ∧ (v = .tuple [kv r.1, .int .i64 r.2].toArray ∧ Gr w w') := by
 have lt1 := hp1.lth
 unfold cipher_Mac at hm
 refine calls_of_sw 20 Tryz.func77 rfl rfl rfl<|qs 3 rfl<|qe rfl (ev_box (cs := kb p0) rfl rfl) ?_
 rintro _ w1 ⟨b1, rfl, hbw1, Bw1, G1⟩
 have z2 := G1.size
 have lt3 := Bw1.lt
 refine qe rfl (ev_alloc (cs := kb k0) zv_23 rfl) ?_
 rintro _ w2 ⟨b2, rfl, hbw2, Bw2, G2⟩
 have z4 := G2.size
 have lt5 := Bw2.lt
 refine qm rfl<|sd_done<|sw_seq<|qs 3 rfl<|qm rfl ?_
 have B6 := ((hp1.gr G1).gr G2)
 refine qv rfl (vv_lenT (l := p1) (c := bvc) Tryz.underlying50 rfl B6)<|qv rfl (vv_gtr (a := (p1.length : Int)) (b := 16384) rfl rfl)<|sd_done<|sw_cond rfl (fun c1 => ?_) (fun c1 => ?_)
 · replace hm := iT c1 hm
   refine qs 3 rfl<|qv rfl (vv_buildZ bz_23)<|qe rfl (ev_stW agg_23 rfl rfl rfl Bw2 rfl rfl) ?_
   rintro _ w3 ⟨Bw3, M3⟩
   have z7 := M3.size
   refine qm rfl<|qb ?_
   have X8 := ((((Gr.refl w).trans G1).trans G2).md M3)
   cases hm
   refine ⟨_, _, rfl, res_2 rfl (rv_cellW agg_23 rfl Bw3 rfl) (rv_tmp rfl), ?_⟩
   exact ⟨rfl, X8⟩
 replace hm := iF c1 hm
 refine qu<|qs 7 rfl ?_
 have B9 := (Bw1.gr G2)
 refine qv rfl (vv_loadW agg_23 rfl B9 rfl)<|qm rfl<|qv rfl (vv_lenT (l := p1) (c := bvc) Tryz.underlying50 rfl B6)<|qv rfl (vv_cvIU cv_3_24 rfl)<|qe rfl (eC en_48 rfl (derive_c p0 (un8 2#8) (un8_nn _) (un8_le _) (wd (p1.length : Int)) _)) ?_
 rintro _ w4 ⟨rfl, G4⟩
 have z10 := G4.size
 refine qe rfl (ev_alloc (cs := kb k0) zv_23 rfl) ?_
 rintro _ w5 ⟨b5, rfl, hbw5, Bw5, G5⟩
 have z11 := G5.size
 have lt12 := Bw5.lt
 refine qe rfl (ev_stW agg_23 rfl rfl rfl Bw5 rfl rfl) ?_
 rintro _ w6 ⟨Bw6, M6⟩
 have z13 := M6.size
 refine qd 6 rfl<|qv rfl (vv_loadW agg_23 rfl Bw6 rfl)<|qm rfl<|qv rfl (vv_makeFunc rfl rfl) ?_
 have Y1 := Gr.trans G4 G5
 have B14 := ((B6.gr Y1).md M6 (pb_lt lt1))
 have B15 := ((B9.gr Y1).md M6)
 obtain ⟨x1, hx1, hm⟩ := bnd hm
 refine qe rfl (eC en_163 rfl (cipher_fold_cipher_Mac_1_w hx1 B14 B15)) ?_
 rintro _ w7 ⟨rfl, G7⟩
 have z16 := G7.size
 have B17 := (((Bw2.gr Y1).md M6).gr G7)
 refine qe rfl (ev_stW agg_23 rfl rfl rfl B17 rfl rfl) ?_
 rintro _ w8 ⟨Bw8, M8⟩
 have z18 := M8.size
 refine qm rfl<|sd_done<|sw_ret ?_
 have X19 := (((((((Gr.refl w).trans G1).trans G2).trans Y1).md M6).trans G7).md M8)
 cases hm
 refine ⟨_, _, rfl, res_2 rfl (rv_cellW agg_23 rfl Bw8 rfl) (rv_tmp rfl), ?_⟩
 exact ⟨rfl, X19⟩
theorem epoch_headMac_w {p0 p1 vp1_2 zp1_2 gp1_2 op1_2 vp1_4 zp1_4 gp1_4 op1_4 vp1_39 zp1_39 gp1_39 op1_39 r} (hm : epoch_headMac p0 p1 = some r) {w : World} (hp1_2 : Rd w zp1_2 gp1_2 op1_2 18 vp1_2 (p1.Head.Items.map TItem.cs)) (hp1_4 : Rd w zp1_4 gp1_4 op1_4 2 vp1_4 (p1.Head.Points.map TPoint.cs)) (hp1_39 : Rd w zp1_39 gp1_39 op1_39 1 vp1_39 (p1.Data.map bvc)) :
    Calls Tryz.prog 74 [kv p0, .agg (TPacket.cs p1 vp1_2 vp1_4 vp1_39).toArray].toArray w fun e w' => ∃ v, e = .returned v ∧ (v = kv r ∧ Gr w w') := by
 have lt1 := hp1_2.lth
 have lt2 := hp1_4.lth
 have lt3 := hp1_39.lth
 unfold epoch_headMac at hm
 refine calls_of_sw 19 Tryz.func74 rfl rfl rfl<|qs 3 rfl<|qe rfl (ev_box (cs := kb p0) rfl rfl) ?_
 rintro _ w1 ⟨b1, rfl, hbw1, Bw1, G1⟩
 have z4 := G1.size
 have lt5 := Bw1.lt
 refine qe rfl (ev_box (cs := TPacket.cs p1 vp1_2 vp1_4 vp1_39) rfl rfl) ?_
 rintro _ w2 ⟨b2, rfl, hbw2, Bw2, G2⟩
 have z6 := G2.size
 have lt7 := Bw2.lt
 refine qe rfl (ev_alloc (cs := kb k0) zv_23 rfl) ?_
 rintro _ w3 ⟨b3, rfl, hbw3, Bw3, G3⟩
 have z8 := G3.size
 have lt9 := Bw3.lt
 refine sd_done ?_
 have Y1 := Gr.trans (Gr.trans G1 G2) G3
 have X10 := ((Gr.refl w).trans Y1)
 refine qj (β := W2 × Nat) (rg 5 13) (fun ⟨a2, bq1⟩ => [(5, .pointer (some ⟨bq1, 0, none⟩))]) (fun ⟨a2, bq1⟩ wr => (epoch_headMac_J1 a2 = some r) ∧ Bx wr bq1 23 (kb a2) ∧ w3.heap.size ≤ bq1 ∧ Kz [] w3 wr) ?_ ?_
 · refine dw [([])] [] (.fork [(0,10),(1,10),(2,10),(3,10),(5,10)] (.fork [(4,0)] (.fork [(6,0)] (.leaf [(7,0),(8,10),(9,10),(10,10),(11,0),(12,0),(13,10)]) (.leaf [(11,0),(7,0),(8,10),(9,10),(10,10),(12,0),(13,10)])) (.leaf [(11,0),(6,0),(7,0),(8,10),(9,10),(10,10),(12,0),(13,10)])) (.leaf [(11,0),(4,0),(6,0),(7,0),(8,10),(9,10),(10,10),(12,0),(13,10)])) ?_
   intro w6 G6 zw6
   refine sdz_fork ?_
   have Y2 := Gr.trans (Gr.trans G2 G3) G6
   have B16 := (Bw1.gr Y2)
   refine dh 0 rfl rfl (fun w hS => vv_loadW agg_23 rfl (Bx.kp B16 hS) rfl)<|dh 0 rfl rfl (fun w hS => vv_fieldAddr fa_52_1 rfl) ?_
   have Y3 := Gr.trans G3 G6
   have B17 := (Bw2.gr Y3)
   refine dh 0 rfl rfl (fun w hS => vv_load1 (v := .int .i64 p1.Epoch) one_3 rfl (Bx.kp B17 hS) rfl)<|dh 0 rfl rfl (fun w hS => vv_cvIU cv_3_24 rfl)<|dh 0 rfl rfl (fun w hS => vv_loadW agg_52 rfl (Bx.kp B17 hS) rfl)<|sd_fork ?_ ?_
   · refine sdz_fork<|qz [] rfl (eC en_48 rfl (derive_c p0 (un8 52#8) (un8_nn _) (un8_le _) (wd p1.Epoch) _)) ⟨fun _ => tk0, trivial⟩ ?_
     rintro _ w7 ⟨rfl, G7⟩
     have z18 := G7.size
     refine kG G7<|sd_fork ?_ ?_
     · refine sdz_fork ?_
       have Y4 := Gr.trans (Gr.trans Y1 G6) G7
       have B19 := (hp1_2.gr Y4)
       have B20 := (hp1_4.gr Y4)
       have B21 := (hp1_39.gr Y4)
       obtain ⟨x3, hx3, hm⟩ := bnd hm
       refine qz [] rfl (eC en_78 rfl (epoch_body_w hx3 B19 B20 B21)) ⟨fun _ => tk0, trivial⟩ ?_
       rintro u8_r0_s w8 ⟨_, z8_r0_s, g8_r0_s, rfl, O8_r0_s, f8_r0_s, G8⟩
       have z22 := G8.size
       have lt23 := O8_r0_s.lth
       refine kG G8<|sd_fork ?_ ?_
       · refine sdz_leaf ?_
         obtain ⟨x4, hx4, hm⟩ := bnd hm
         refine qz [] rfl (eC en_77 rfl (cipher_Mac_w hx4 (Own.rd O8_r0_s))) ⟨fun _ => tk0, trivial⟩ ?_
         rintro _ w9 ⟨rfl, G9⟩
         have z24 := G9.size
         refine kG G9 ?_
         have S25 := ((((Kp.refl ([]) w6).gr G7).gr G8).gr G9)
         refine dn 0 rfl rfl S25<|dn 0 rfl rfl S25<|dn 0 rfl rfl S25<|qz [] rfl (ev_alloc (cs := kb k0) zv_23 rfl) ⟨fun _ => tk0, trivial⟩ ?_
         rintro _ w10 ⟨b10, rfl, hbw10, Bw10, G10⟩
         have z26 := G10.size
         have lt27 := Bw10.lt
         refine kG G10<|qz [(1, b10)] rfl (ev_stW agg_23 rfl rfl rfl Bw10 rfl rfl) ⟨fun _ => tk0, trivial⟩ ?_
         rintro _ w11 ⟨Bw11, M11⟩
         have z28 := M11.size
         refine kM M11 ?_
         have S29 := ((S25.gr G10).md M11)
         refine dn 0 rfl rfl S29<|sd_nil ?_
         exact ⟨rfl, ⟨x4.1, b10⟩, sbq, hm, Bw11, (by omega), ((((((kz0.gr G6).gr G7).gr G8).gr G9).gr G10).md M11)⟩
       refine sdz_leaf<|qz [] rfl (ev_alloc (cs := kb k0) zv_23 rfl) ⟨fun _ => tk0, trivial⟩ ?_
       rintro _ w12 ⟨b12, rfl, hbw12, Bw12, G12⟩
       have z31 := G12.size
       have lt32 := Bw12.lt
       refine kG G12 ?_
       have B33 := (O8_r0_s.gr G12)
       obtain ⟨x5, hx5, hm⟩ := bnd hm
       refine qz [] rfl (eC en_77 rfl (cipher_Mac_w hx5 (Own.rd B33))) ⟨fun _ => tk0, trivial⟩ ?_
       rintro _ w13 ⟨rfl, G13⟩
       have z34 := G13.size
       refine kG G13 ?_
       have Y5 := Gr.trans (Gr.trans (Gr.trans G7 G8) G12) G13
       have S35 := ((Kp.refl ([]) w6).gr Y5)
       refine dn 0 rfl rfl S35<|dn 0 rfl rfl S35<|dn 0 rfl rfl S35 ?_
       have B36 := (Bw12.gr G13)
       refine qz [(1, b12)] rfl (ev_stW agg_23 rfl rfl rfl B36 rfl rfl) ⟨fun _ => tk0, trivial⟩ ?_
       rintro _ w14 ⟨Bw14, M14⟩
       have z37 := M14.size
       refine kM M14 ?_
       have S38 := (S35.md M14)
       refine dn 0 rfl rfl S38<|sd_nil ?_
       exact ⟨rfl, ⟨x5.1, b12⟩, sbq, hm, Bw14, (by omega), (((kz0.gr G6).gr Y5).md M14)⟩
     refine sdz_leaf<|qz [] rfl (ev_alloc (cs := kb k0) zv_23 rfl) ⟨fun _ => tk0, trivial⟩ ?_
     rintro _ w15 ⟨b15, rfl, hbw15, Bw15, G15⟩
     have z40 := G15.size
     have lt41 := Bw15.lt
     refine kG G15 ?_
     have Y6 := Gr.trans (Gr.trans (Gr.trans Y1 G6) G7) G15
     have B42 := (hp1_2.gr Y6)
     have B43 := (hp1_4.gr Y6)
     have B44 := (hp1_39.gr Y6)
     obtain ⟨x6, hx6, hm⟩ := bnd hm
     refine qz [] rfl (eC en_78 rfl (epoch_body_w hx6 B42 B43 B44)) ⟨fun _ => tk0, trivial⟩ ?_
     rintro u16_r0_s w16 ⟨_, z16_r0_s, g16_r0_s, rfl, O16_r0_s, f16_r0_s, G16⟩
     have z45 := G16.size
     have lt46 := O16_r0_s.lth
     refine kG G16 ?_
     obtain ⟨x7, hx7, hm⟩ := bnd hm
     refine qz [] rfl (eC en_77 rfl (cipher_Mac_w hx7 (Own.rd O16_r0_s))) ⟨fun _ => tk0, trivial⟩ ?_
     rintro _ w17 ⟨rfl, G17⟩
     have z47 := G17.size
     refine kG G17 ?_
     have Y7 := Gr.trans (Gr.trans (Gr.trans G7 G15) G16) G17
     have S48 := ((Kp.refl ([]) w6).gr Y7)
     refine dn 0 rfl rfl S48<|dn 0 rfl rfl S48<|dn 0 rfl rfl S48 ?_
     have B49 := ((Bw15.gr G16).gr G17)
     refine qz [(1, b15)] rfl (ev_stW agg_23 rfl rfl rfl B49 rfl rfl) ⟨fun _ => tk0, trivial⟩ ?_
     rintro _ w18 ⟨Bw18, M18⟩
     have z50 := M18.size
     refine kM M18 ?_
     have S51 := (S48.md M18)
     refine dn 0 rfl rfl S51<|sd_nil ?_
     exact ⟨rfl, ⟨x7.1, b15⟩, sbq, hm, Bw18, (by omega), (((kz0.gr G6).gr Y7).md M18)⟩
   refine sdz_leaf<|qz [] rfl (ev_alloc (cs := kb k0) zv_23 rfl) ⟨fun _ => tk0, trivial⟩ ?_
   rintro _ w19 ⟨b19, rfl, hbw19, Bw19, G19⟩
   have z53 := G19.size
   have lt54 := Bw19.lt
   refine kG G19<|qz [] rfl (eC en_48 rfl (derive_c p0 (un8 52#8) (un8_nn _) (un8_le _) (wd p1.Epoch) _)) ⟨fun _ => tk0, trivial⟩ ?_
   rintro _ w20 ⟨rfl, G20⟩
   have z55 := G20.size
   refine kG G20 ?_
   have Y8 := Gr.trans (Gr.trans (Gr.trans Y1 G6) G19) G20
   have B56 := (hp1_2.gr Y8)
   have B57 := (hp1_4.gr Y8)
   have B58 := (hp1_39.gr Y8)
   obtain ⟨x8, hx8, hm⟩ := bnd hm
   refine qz [] rfl (eC en_78 rfl (epoch_body_w hx8 B56 B57 B58)) ⟨fun _ => tk0, trivial⟩ ?_
   rintro u21_r0_s w21 ⟨_, z21_r0_s, g21_r0_s, rfl, O21_r0_s, f21_r0_s, G21⟩
   have z59 := G21.size
   have lt60 := O21_r0_s.lth
   refine kG G21 ?_
   obtain ⟨x9, hx9, hm⟩ := bnd hm
   refine qz [] rfl (eC en_77 rfl (cipher_Mac_w hx9 (Own.rd O21_r0_s))) ⟨fun _ => tk0, trivial⟩ ?_
   rintro _ w22 ⟨rfl, G22⟩
   have z61 := G22.size
   refine kG G22 ?_
   have Y9 := Gr.trans (Gr.trans (Gr.trans G19 G20) G21) G22
   have S62 := ((Kp.refl ([]) w6).gr Y9)
   refine dn 0 rfl rfl S62<|dn 0 rfl rfl S62<|dn 0 rfl rfl S62 ?_
   have Y10 := Gr.trans (Gr.trans G20 G21) G22
   have B63 := (Bw19.gr Y10)
   refine qz [(1, b19)] rfl (ev_stW agg_23 rfl rfl rfl B63 rfl rfl) ⟨fun _ => tk0, trivial⟩ ?_
   rintro _ w23 ⟨Bw23, M23⟩
   have z64 := M23.size
   refine kM M23 ?_
   have S65 := (S62.md M23)
   refine dn 0 rfl rfl S65<|sd_nil ?_
   exact ⟨rfl, ⟨x9.1, b19⟩, sbq, hm, Bw23, (by omega), (((kz0.gr G6).gr Y9).md M23)⟩
 clear hm; rintro ⟨a2, bq1⟩ w4 ⟨hm, Fw4_0, Fw4_1, K4⟩
 have z11 := K4.size
 have lt12 := Fw4_0.lt
 unfold epoch_headMac_J1 at hm
 refine qs 2 rfl<|qv rfl (vv_loadW agg_23 rfl Fw4_0 rfl) ?_
 have B13 := (Bw3.kz K4)
 refine qe rfl (ev_stW agg_23 rfl rfl rfl B13 rfl rfl) ?_
 rintro _ w5 ⟨Bw5, M5⟩
 have z14 := M5.size
 refine sd_done<|sw_ret ?_
 have X15 := ((X10.kz K4).md M5)
 cases hm
 refine ⟨_, _, rfl, res_1 rfl (rv_cellW agg_23 rfl Bw5 rfl), ?_⟩
 exact ⟨rfl, X15⟩
theorem epoch_Head_w {p0 p1 p2 p3 vp3 zp3 gp3 op3 r} (hm : epoch_Head p0 p1 p2 p3 = some r) {w : World} (hp3 : Rd w zp3 gp3 op3 1 vp3 (p3.map ic)) :
    Calls Tryz.prog 29 [kv p0, .agg (TScheme.cs p1).toArray, .int .i64 p2, vp3].toArray w fun e w' => ∃ v, e = .returned v ∧ (∃ ur0_2 zr0_2 gr0_2 ur0_4 zr0_4 gr0_4 ur0_39 zr0_39 gr0_39, v = .tuple [.agg (TPacket.cs r.1 ur0_2 ur0_4 ur0_39).toArray, .int .i64 r.2].toArray ∧ Own w' zr0_2 gr0_2 133 18 ur0_2 (r.1.Head.Items.map TItem.cs) ∧ Hdn (zr0_2 = 0 ∨ w.heap.size ≤ gr0_2) ∧ Own w' zr0_4 gr0_4 31 2 ur0_4 (r.1.Head.Points.map TPoint.cs) ∧ Hdn (zr0_4 = 0 ∨ w.heap.size ≤ gr0_4) ∧ Own w' zr0_39 gr0_39 5 1 ur0_39 (r.1.Data.map bvc) ∧ Hdn (zr0_39 = 0 ∨ w.heap.size ≤ gr0_39) ∧ Hdn (zr0_4 = 0 ∨ zr0_2 = 0 ∨ gr0_4 ≠ gr0_2) ∧ Hdn (zr0_39 = 0 ∨ zr0_2 = 0 ∨ gr0_39 ≠ gr0_2) ∧ Hdn (zr0_39 = 0 ∨ zr0_4 = 0 ∨ gr0_39 ≠ gr0_4) ∧ Gr w w') := by
 have lt1 := hp3.lth
 unfold epoch_Head at hm
 refine calls_of_sw 35 Tryz.func29 rfl rfl rfl<|qs 4 rfl<|qe rfl (ev_box (cs := kb p0) rfl rfl) ?_
 rintro _ w1 ⟨b1, rfl, hbw1, Bw1, G1⟩
 have z2 := G1.size
 have lt3 := Bw1.lt
 refine qe rfl (ev_box (cs := TScheme.cs p1) rfl rfl) ?_
 rintro _ w2 ⟨b2, rfl, hbw2, Bw2, G2⟩
 have z4 := G2.size
 have lt5 := Bw2.lt
 refine qe rfl (ev_alloc (cs := TPacket.cs (TPacket.mk 0#8 0 (THeader.mk [] 0#64 [] k0 k0) 0#8 0#64 [] k0) (.slice none 0 0) (.slice none 0 0) (.slice none 0 0)) zv_52 rfl) ?_
 rintro _ w3 ⟨b3, rfl, hbw3, Bw3, G3⟩
 have z6 := G3.size
 have lt7 := Bw3.lt
 refine qm rfl<|qd 11 rfl ?_
 have Y1 := Gr.trans G2 G3
 have B8 := (Bw1.gr Y1)
 refine qv rfl (vv_loadW agg_23 rfl B8 rfl) ?_
 have B9 := (Bw2.gr G3)
 refine qv rfl (vv_loadW agg_28 rfl B9 rfl)<|qm rfl<|qm rfl ?_
 have B10 := ((hp3.gr G1).gr Y1)
 obtain ⟨x1, hx1, hm⟩ := bnd hm
 refine qe rfl (eC en_23 rfl (epoch_Seal_w hx1 B10)) ?_
 rintro _ w4 ⟨u4_r0_0, z4_r0_0, g4_r0_0, u4_r0_2, z4_r0_2, g4_r0_2, rfl, O4_r0_0, f4_r0_0, O4_r0_2, f4_r0_2, d4_0, G4⟩
 have z11 := G4.size
 have lt12 := O4_r0_0.lth
 have lt13 := O4_r0_2.lth
 refine qm rfl<|qm rfl<|qm rfl<|qe rfl (ev_alloc (cs := THeader.cs (THeader.mk [] 0#64 [] k0 k0) (.slice none 0 0) (.slice none 0 0)) zv_48 rfl) ?_
 rintro _ w5 ⟨b5, rfl, hbw5, Bw5, G5⟩
 have z14 := G5.size
 have lt15 := Bw5.lt
 have B16 := (O4_r0_0.gr G5)
 have B17 := (O4_r0_2.gr G5)
 refine qe rfl (ev_stW agg_48 rfl rfl (THeader.cs_ones _ _ _ (Own.oneB B16) (Own.oneB B17)) Bw5 rfl rfl) ?_
 rintro _ w6 ⟨Bw6, M6⟩
 have z18 := M6.size
 refine qm rfl<|sd_done<|sw_seq<|qs 2 rfl<|qm rfl<|qv rfl (vv_neq (a := x1.2) (b := 0) rfl rfl) ?_
 refine sd_done<|sw_cond rfl (fun c1 => ?_) (fun c1 => ?_)
 · replace hm := iT c1 hm
   refine qs 4 rfl<|qv rfl (vv_build (cs := TPacket.cs (TPacket.mk 0#8 0 (THeader.mk [] 0#64 [] k0 k0) 0#8 0#64 [] k0) (.slice none 0 0) (.slice none 0 0) (.slice none 0 0)) bs_52 rfl (by kernel_rfl))<|qm rfl ?_
   have Y2 := Gr.trans G4 G5
   have B19 := ((Bw3.gr Y2).md M6)
   refine qe rfl (ev_stW agg_52 rfl rfl (TPacket.cs_ones _ _ _ _ rfl rfl rfl) B19 rfl rfl) ?_
   rintro _ w7 ⟨Bw7, M7⟩
   have z20 := M7.size
   refine qm rfl<|qb ?_
   have X21 := ((((((Gr.refl w).trans G1).trans Y1).trans Y2).md M6).md M7)
   cases hm
   refine ⟨_, _, rfl, res_2 rfl (rv_cellW agg_52 rfl Bw7 rfl) (rv_tmp rfl), ?_⟩
   exact ⟨(.slice none 0 0), 0, 0, (.slice none 0 0), 0, 0, (.slice none 0 0), 0, 0, rfl, (own_nil _ 0 133 18), ⟨.inl rfl⟩, (own_nil _ 0 31 2), ⟨.inl rfl⟩, (own_nil _ 0 5 1), ⟨.inl rfl⟩, ⟨(.inl rfl)⟩, ⟨(.inl rfl)⟩, ⟨(.inl rfl)⟩, X21⟩
 replace hm := iF c1 hm
 refine qu<|qs 5 rfl<|qm rfl<|qv rfl (vv_loadW agg_48 rfl Bw6 rfl)<|qv rfl (vv_build (cs := TPacket.cs (TPacket.mk 1#8 p2 x1.1 0#8 0#64 [] k0) u4_r0_0 u4_r0_2 (.slice none 0 0)) bs_52 rfl (fill_M rfl rfl rfl (fill_M rfl rfl rfl (fill_M rfl rfl rfl (by kernel_rfl))))) ?_
 refine qe rfl (ev_alloc (cs := TPacket.cs (TPacket.mk 0#8 0 (THeader.mk [] 0#64 [] k0 k0) 0#8 0#64 [] k0) (.slice none 0 0) (.slice none 0 0) (.slice none 0 0)) zv_52 rfl) ?_
 rintro _ w8 ⟨b8, rfl, hbw8, Bw8, G8⟩
 have z22 := G8.size
 have lt23 := Bw8.lt
 have B24 := ((B16.md M6 (pb_lt lt12)).gr G8)
 have B25 := ((B17.md M6 (pb_lt lt13)).gr G8)
 refine qe rfl (ev_stW agg_52 rfl rfl (TPacket.cs_ones _ _ _ _ (Own.oneB B24) (Own.oneB B25) rfl) Bw8 rfl rfl) ?_
 rintro _ w9 ⟨Bw9, M9⟩
 have z26 := M9.size
 refine sd_done<|sw_seq<|dw [([b8]),([])] [(6, [1])] (.leaf [(0,10),(1,10),(3,11),(2,0),(4,0),(5,10),(6,0)]) ?_
 intro w10 G10 zw10
 refine sdz_leaf ?_
 have Y3 := Gr.trans G4 G5
 have B27 := (((((B8.gr Y3).md M6).gr G8).md M9).gr G10)
 refine dh 0 rfl rfl (fun w hS => vv_loadW agg_23 rfl (Bx.kp B27 hS) rfl)<|dm 0 rfl rfl ?_
 have B28 := (Bw9.gr G10)
 refine dh 1 rfl rfl (fun w hS => vv_loadW agg_52 rfl (Bx.kp B28 hS) rfl) ?_
 obtain ⟨x2, hx2, hm⟩ := bnd hm
 refine qz [] rfl (eC en_15 rfl (epoch_Session_w hx2)) ⟨fun _ => tk0, fun _ => tk0, trivial⟩ ?_
 rintro _ w11 ⟨rfl, G11⟩
 have z29 := G11.size
 refine kG G11 ?_
 have Y4 := Gr.trans G10 G11
 have B30 := ((B24.md M9 (pb_lt lt12)).gr Y4)
 have B31 := ((B25.md M9 (pb_lt lt13)).gr Y4)
 obtain ⟨x3, hx3, hm⟩ := bnd hm
 refine qz [] rfl (eC en_74 rfl (epoch_headMac_w hx3 (Own.rd B30) (Own.rd B31) (Own.rd (own_nil _ 0 5 1)))) ⟨fun _ => tk0, fun _ => tk0, trivial⟩ ?_
 rintro _ w12 ⟨rfl, G12⟩
 have z32 := G12.size
 refine kG G12 ?_
 have Y5 := Gr.trans G11 G12
 have S33 := ((Kp.refl ([b8]) w10).gr Y5)
 refine qh 0 rfl rfl S33 (fun w hS => vv_fieldAddr fa_52_6 rfl) ?_
 have B34 := (B28.gr Y5)
 refine qz [(1, b8)] rfl (ev_stM (cs' := TPacket.cs (TPacket.mk 1#8 p2 x1.1 0#8 0#64 [] x3) u4_r0_0 u4_r0_2 (.slice none 0 0)) (vs := kb x3) (agg_23).siz rfl rfl rfl rfl rfl B34 rfl rfl) ⟨fun _ => tk0, nofun, trivial⟩ ?_
 rintro _ w13 ⟨Bw13, M13⟩
 have z35 := M13.size
 refine kM M13<|qd 3 rfl<|qv rfl (vv_loadW agg_52 rfl Bw13 rfl) ?_
 have B36 := (((((((Bw3.gr Y3).md M6).gr G8).md M9).gr Y4).gr G12).md M13)
 have B37 := ((B30.gr G12).md M13 (pb_lt lt12))
 have B38 := ((B31.gr G12).md M13 (pb_lt lt13))
 refine qe rfl (ev_stW agg_52 rfl rfl (TPacket.cs_ones _ _ _ _ (Own.oneB B37) (Own.oneB B38) rfl) B36 rfl rfl) ?_
 rintro _ w14 ⟨Bw14, M14⟩
 have z39 := M14.size
 refine qm rfl<|sd_done<|sw_ret ?_
 have B40 := (B37.md M14 (pb_0 f4_r0_0))
 have B41 := (B38.md M14 (pb_0 f4_r0_2))
 have X42 := (((((((((((Gr.refl w).trans G1).trans Y1).trans Y3).md M6).trans G8).md M9).trans Y4).trans G12).md M13).md M14)
 cases hm
 refine ⟨_, _, rfl, res_2 rfl (rv_cellW agg_52 rfl Bw14 rfl) (rv_tmp rfl), ?_⟩
 exact ⟨u4_r0_0, z4_r0_0, g4_r0_0, u4_r0_2, z4_r0_2, g4_r0_2, (.slice none 0 0), 0, 0, rfl, B40, ⟨(pv_0 (A := (fun x => w.heap.size ≤ x)) f4_r0_0)⟩, B41, ⟨(pv_0 (A := (fun x => w.heap.size ≤ x)) f4_r0_2)⟩, (own_nil _ 0 5 1), ⟨.inl rfl⟩, ⟨(tk1 d4_0.o)⟩, ⟨(.inl rfl)⟩, ⟨(.inl rfl)⟩, X42⟩
theorem epoch_Word_w {p0 p1 r} (hm : epoch_Word p0 p1 = some r) {w : World} :
    Calls Tryz.prog 17 [kv p0, .int .i64 p1].toArray w fun e w' => ∃ v, e = .returned v ∧ (v = kv r ∧ Gr w w') := by
 unfold epoch_Word at hm
 refine calls_of_sw 9 Tryz.func17 rfl rfl rfl<|qs 2 rfl<|qe rfl (ev_box (cs := kb p0) rfl rfl) ?_
 rintro _ w1 ⟨b1, rfl, hbw1, Bw1, G1⟩
 have z1 := G1.size
 have lt2 := Bw1.lt
 refine qe rfl (ev_alloc (cs := kb k0) zv_23 rfl) ?_
 rintro _ w2 ⟨b2, rfl, hbw2, Bw2, G2⟩
 have z3 := G2.size
 have lt4 := Bw2.lt
 refine qd 5 rfl ?_
 have B5 := (Bw1.gr G2)
 refine qv rfl (vv_loadW agg_23 rfl B5 rfl)<|qm rfl<|qv rfl (vv_cvIU cv_3_24 rfl)<|qe rfl (eC en_48 rfl (derive_c p0 (un8 51#8) (un8_nn _) (un8_le _) (wd p1) _)) ?_
 rintro _ w3 ⟨rfl, G3⟩
 have z6 := G3.size
 have B7 := (Bw2.gr G3)
 refine qe rfl (ev_stW agg_23 rfl rfl rfl B7 rfl rfl) ?_
 rintro _ w4 ⟨Bw4, M4⟩
 have z8 := M4.size
 refine sd_done<|sw_ret ?_
 have X9 := (((((Gr.refl w).trans G1).trans G2).trans G3).md M4)
 cases hm
 refine ⟨_, _, rfl, res_1 rfl (rv_cellW agg_23 rfl Bw4 rfl), ?_⟩
 exact ⟨rfl, X9⟩
theorem cipher_pair_block_w {p0 r} (hm : cipher_pair_block p0 = some r) {w : World} :
    Calls Tryz.prog 178 [.agg (Tcipher_pair.cs p0).toArray].toArray w fun e w' => ∃ v, e = .returned v ∧ (v = kv r ∧ Gr w w') := by
 unfold cipher_pair_block at hm
 refine calls_of_sw 29 Tryz.func178 rfl rfl rfl<|qs 2 rfl<|qe rfl (ev_box (cs := Tcipher_pair.cs p0) rfl rfl) ?_
 rintro _ w1 ⟨b1, rfl, hbw1, Bw1, G1⟩
 have z1 := G1.size
 have lt2 := Bw1.lt
 refine qe rfl (ev_alloc (cs := kb k0) zv_23 rfl) ?_
 rintro _ w2 ⟨b2, rfl, hbw2, Bw2, G2⟩
 have z3 := G2.size
 have lt4 := Bw2.lt
 refine qd 1 rfl<|qe rfl (ev_alloc (cs := kb k0) zv_23 rfl) ?_
 rintro _ w3 ⟨b3, rfl, hbw3, Bw3, G3⟩
 have z5 := G3.size
 have lt6 := Bw3.lt
 refine sd_done<|sw_seq<|qs 1 rfl<|qm rfl<|sd_done<|sw_block ?_
 have X7 := ((((Gr.refl w).trans G1).trans G2).trans G3)
 refine sw_loopD (α := Nat × Int × W2) (rg 4 24) (fun ⟨n1, a3, a4⟩ => [(5, .int .i64 a3)]) (fun ⟨n1, a3, a4⟩ wr => (fixN (cipher_pair_block_L1 p0) n1 (a3, a4) = some r) ∧ Bx wr b3 23 (kb a4) ∧ Kz [(1, b3)] w3 wr) (fun ⟨n1, a3, a4⟩ => n1) ⟨FUEL, 0, k0⟩ ?_ ?_ ?_
 · exact sbq
 · exact ⟨hm, Bw3, Kz.refl _ _⟩
 clear hm; rintro ⟨n1, a3, a4⟩ w4 ⟨hm, Fw4_0, K4⟩
 have z8 := K4.size
 have lt9 := Fw4_0.lt
 have hb := fix_succ hm; clear hm; obtain ⟨n1, rfl, hm⟩ := hb
 generalize hrec1 : fixN (cipher_pair_block_L1 p0) n1 = rec1 at hm
 unfold cipher_pair_block_L1 at hm
 try dsimp only at hm
 refine qs 1 rfl<|qv rfl (vv_lss (a := a3) (b := 8) rfl rfl)<|sd_done<|sw_seq<|cnF rfl (fun c1 => ?_) (fun c1 => ?_)
 · replace hm := iF c1 hm
   refine sw_exit<|then_x<|then_x<|block_x<|then_n<|qs 2 rfl ?_
   refine qv rfl (vv_loadW agg_23 rfl Fw4_0 rfl) ?_
   have B16 := ((Bw2.gr G3).kz K4)
   refine qe rfl (ev_stW agg_23 rfl rfl rfl B16 rfl rfl) ?_
   rintro _ w8 ⟨Bw8, M8⟩
   have z17 := M8.size
   refine sd_done<|sw_ret ?_
   have X18 := ((X7.kz K4).md M8)
   cases hm
   refine ⟨_, _, rfl, res_1 rfl (rv_cellW agg_23 rfl Bw8 rfl), ?_⟩
   exact ⟨rfl, X18⟩
 replace hm := iT c1 hm
 refine qu<|sw_seq<|sw_block<|qs 2 rfl<|qm rfl ?_
 refine qm rfl<|sd_done<|dw [([b3])] [] (.leaf [(0,10),(1,10),(2,10),(3,10),(4,10),(5,10),(6,10),(7,10),(8,10),(9,10),(10,10),(11,10),(12,10),(13,10),(14,10),(15,10),(16,10),(17,10),(18,0),(19,10),(20,0)]) ?_
 intro w5 G5 zw5
 refine sdz_leaf<|dm 0 rfl rfl<|dm 0 rfl rfl<|dh 0 rfl rfl (fun w hS => vv_add (k := .i64) (a := 8) (b := a3) rfl rfl)<|dh 0 rfl rfl (fun w hS => vv_fieldAddr fa_233_0 rfl) ?_
 have B10 := ((((Bw1.gr G2).gr G3).kz K4).gr G5)
 refine dh 0 rfl rfl (fun w hS => vv_load1 (v := wv p0.x) one_24 rfl (Bx.kp B10 hS) rfl)<|dm 0 rfl rfl<|dh 0 rfl rfl (fun w hS => vv_mul (k := .i64) (a := 8) (b := a3) rfl rfl)<|dh 0 rfl rfl (fun w hS => vv_sub (k := .i64) (a := 56) (b := w64 (8 * a3)) rfl rfl) ?_
 obtain ⟨n5, hn5, hm⟩ := bnd hm
 refine dh 0 rfl rfl (fun w hS => vv_shrU (c := p0.x) (b := (w64 (56 - (w64 (8 * a3))))) rfl rfl hn5)<|dh 0 rfl rfl (fun w hS => vv_cvUB cv_24_5 rfl)<|dh 0 rfl rfl (fun w hS => vv_fieldAddr fa_233_1 rfl)<|dh 0 rfl rfl (fun w hS => vv_load1 (v := wv p0.y) one_24 rfl (Bx.kp B10 hS) rfl)<|dm 0 rfl rfl<|dh 0 rfl rfl (fun w hS => vv_mul (k := .i64) (a := 8) (b := a3) rfl rfl)<|dh 0 rfl rfl (fun w hS => vv_sub (k := .i64) (a := 56) (b := w64 (8 * a3)) rfl rfl) ?_
 obtain ⟨n6, hn6, hm⟩ := bnd hm
 refine dh 0 rfl rfl (fun w hS => vv_shrU (c := p0.y) (b := (w64 (56 - (w64 (8 * a3))))) rfl rfl hn6)<|dh 0 rfl rfl (fun w hS => vv_cvUB cv_24_5 rfl) ?_
 obtain ⟨y7, hy7, hm⟩ := bnd hm
 refine dh 0 rfl rfl (fun w hS => vv_ixK (i := a3) (p := a4) Tryz.underlying23 (one_5).siz rfl rfl hy7) ?_
 have B11 := (Fw4_0.gr G5)
 obtain ⟨x8, hx8, hm⟩ := bnd hm
 refine qz [(1, b3)] rfl (ev_stK (off := 0) (p := a4) (q := x8) (i := a3) (cs' := kb x8) (one_5).siz rfl rfl B11 rfl hx8 rfl rfl rfl) ⟨fun _ => tk0, trivial⟩ ?_
 rintro _ w6 ⟨Bw6, M6⟩
 have z12 := M6.size
 refine kM M6 ?_
 obtain ⟨y9, hy9, hm⟩ := bnd hm
 have S13 := ((Kp.refl ([b3]) w5).md M6)
 refine qh 0 rfl rfl S13 (fun w hS => vv_ixK (i := w64 (8 + a3)) (p := x8) Tryz.underlying23 (one_5).siz rfl rfl hy9) ?_
 obtain ⟨x10, hx10, hm⟩ := bnd hm
 refine qz [(1, b3)] rfl (ev_stK (off := 0) (p := x8) (q := x10) (i := w64 (8 + a3)) (cs' := kb x10) (one_5).siz rfl rfl Bw6 rfl hx10 rfl rfl rfl) ⟨fun _ => tk0, trivial⟩ ?_
 rintro _ w7 ⟨Bw7, M7⟩
 have z14 := M7.size
 refine kM M7<|sd_nil<|block_n<|then_n<|qg 2 rfl<|qv rfl (vv_add (k := .i64) (a := a3) (b := 1) rfl rfl)<|qm rfl ?_
 refine sd_nil ?_
 have K_15 : Kz [(1, b3)] w3 w7 := (((K4.gr G5).md M6).md M7)
 subst hrec1
 exact ⟨rfl, ⟨n1, w64 (a3 + 1), x10⟩, sbq, ⟨hm, Bw7, K_15⟩, Nat.lt_succ_self _⟩
theorem cipher_blockOf_w {p0 p1 p2 r} (hm : cipher_blockOf p0 p1 p2 = some r) {w : World} :
    Calls Tryz.prog 97 [bv p0, wv p1, wv p2].toArray w fun e w' => ∃ v, e = .returned v ∧ (v = kv r ∧ Gr w w') := by
 unfold cipher_blockOf at hm
 refine calls_of_sw 15 Tryz.func97 rfl rfl rfl<|qs 1 rfl<|qe rfl (ev_alloc (cs := kb k0) zv_23 rfl) ?_
 rintro _ w1 ⟨b1, rfl, hbw1, Bw1, G1⟩
 have z1 := G1.size
 have lt2 := Bw1.lt
 refine qd 9 rfl<|qm rfl<|qv rfl (vv_cvBU cv_5_24 rfl) ?_
 obtain ⟨n1, hn1, hm⟩ := bnd hm
 refine qv rfl (vv_shlU (c := p0.setWidth 64) (b := (un 56#64)) rfl rfl hn1)<|qm rfl<|qv rfl (vv_uor (a := (p0.setWidth 64) <<< n1) (b := p1) rfl rfl)<|qm rfl<|qv rfl (vv_build (cs := Tcipher_pair.cs (Tcipher_pair.mk (((p0.setWidth 64) <<< n1) ||| p1) p2)) bs_233 rfl rfl) ?_
 obtain ⟨x2, hx2, hm⟩ := bnd hm
 refine qe rfl (eC en_178 rfl (cipher_pair_block_w hx2)) ?_
 rintro _ w2 ⟨rfl, G2⟩
 have z3 := G2.size
 have B4 := (Bw1.gr G2)
 refine qe rfl (ev_stW agg_23 rfl rfl rfl B4 rfl rfl) ?_
 rintro _ w3 ⟨Bw3, M3⟩
 have z5 := M3.size
 refine sd_done<|sw_ret ?_
 have X6 := ((((Gr.refl w).trans G1).trans G2).md M3)
 cases hm
 refine ⟨_, _, rfl, res_1 rfl (rv_cellW agg_23 rfl Bw3 rfl), ?_⟩
 exact ⟨rfl, X6⟩
theorem cipher_Stream_w {p0 p1 p2 vp2 zp2 gp2 op2 r} (hm : cipher_Stream p0 p1 p2 = some r) {w : World} (hp2 : Rd w zp2 gp2 op2 1 vp2 (p2.map bvc)) :
    Calls Tryz.prog 76 [kv p0, wv p1, vp2].toArray w fun e w' => ∃ v, e = .returned v ∧ (∃ ur0_s zr0_s gr0_s, v = .tuple [ur0_s, .int .i64 r.2].toArray ∧ Own w' zr0_s gr0_s 5 1 ur0_s (r.1.map bvc) ∧ Hdn (zr0_s = 0 ∨ w.heap.size ≤ gr0_s) ∧ Gr w w') := by
 have lt1 := hp2.lth
 unfold cipher_Stream at hm
 refine calls_of_sw 46 Tryz.func76 rfl rfl rfl<|qs 3 rfl<|qe rfl (ev_box (cs := kb p0) rfl rfl) ?_
 rintro _ w1 ⟨b1, rfl, hbw1, Bw1, G1⟩
 have z2 := G1.size
 have lt3 := Bw1.lt
 refine qm rfl<|qm rfl<|sd_done<|sw_seq<|qs 3 rfl<|qm rfl ?_
 have B4 := (hp2.gr G1)
 refine qv rfl (vv_lenT (l := p2) (c := bvc) Tryz.underlying50 rfl B4)<|qv rfl (vv_gtr (a := (p2.length : Int)) (b := 16384) rfl rfl)<|sd_done<|sw_cond rfl (fun c1 => ?_) (fun c1 => ?_)
 · replace hm := iT c1 hm
   refine qs 2 rfl<|qm rfl<|qm rfl<|sd_done<|sw_ret<|then_r ?_
   have X5 := ((Gr.refl w).trans G1)
   cases hm
   refine ⟨_, _, rfl, res_2 rfl (rv_tmp rfl) (rv_tmp rfl), ?_⟩
   exact ⟨(.slice none 0 0), 0, 0, rfl, (own_nil _ 0 5 1), ⟨.inl rfl⟩, X5⟩
 replace hm := iF c1 hm
 refine qu<|qs 4 rfl<|qm rfl<|qv rfl (vv_lenT (l := p2) (c := bvc) Tryz.underlying50 rfl B4) ?_
 obtain ⟨l1, hl1, hm⟩ := bnd hm
 refine qe rfl (ev_mkT (c := bvc) (a := 0#8) apt_50 zv_5 rfl ⟨rfl, rfl⟩ rfl hl1 (by decide)) ?_
 rintro vw2 w2 ⟨gw2, hbw2, Ow2, G2⟩
 have z6 := G2.size
 have lt7 := Ow2.lth
 refine qm rfl<|qd 1 rfl<|qe rfl (ev_alloc (cs := kb k0) zv_23 rfl) ?_
 rintro _ w3 ⟨b3, rfl, hbw3, Bw3, G3⟩
 have z8 := G3.size
 have lt9 := Bw3.lt
 refine sd_done<|sw_seq<|qs 3 rfl<|qm rfl ?_
 have B10 := ((B4.gr G2).gr G3)
 refine qv rfl (vv_lenT (l := p2) (c := bvc) Tryz.underlying50 rfl B10)<|qm rfl<|sd_done<|sw_block ?_
 have X11 := ((((Gr.refl w).trans G1).trans G2).trans G3)
 have B12 := (Ow2.gr G3)
 refine sw_loopD (α := Nat × List (BitVec 8) × Int × W2 × Value × Nat × Nat) ([8, 10, 11] ++ rg 20 25) (fun ⟨n1, a6, a8, a9, vy7, zy7, gy7⟩ => [(8, vy7), (20, .int .i64 a8)]) (fun ⟨n1, a6, a8, a9, vy7, zy7, gy7⟩ wr => (fixN (cipher_Stream_L1 p0 p1 p2) n1 (a6, a8, a9) = some r) ∧ Own wr zy7 gy7 5 1 vy7 (a6.map bvc) ∧ Hdn (zy7 = 0 ∨ (gy7 = gw2 ∧ 1 ≠ 0) ∨ w3.heap.size ≤ gy7) ∧ Bx wr b3 23 (kb a9) ∧ Kz [(1, b3), (1, gw2)] w3 wr) (fun ⟨n1, a6, a8, a9, vy7, zy7, gy7⟩ => n1) ⟨FUEL, l1, 0, k0, vw2, 1, gw2⟩ ?_ ?_ ?_
 · exact sbq
 · exact ⟨hm, B12, ⟨tk0⟩, Bw3, Kz.refl _ _⟩
 clear hm; rintro ⟨n1, a6, a8, a9, vy7, zy7, gy7⟩ w4 ⟨hm, Fw4_0, Fw4_1, Fw4_2, K4⟩
 have z13 := K4.size
 have lt14 := Fw4_0.lth
 have lt15 := Fw4_2.lt
 have hb := fix_succ hm; clear hm; obtain ⟨n1, rfl, hm⟩ := hb
 generalize hrec1 : fixN (cipher_Stream_L1 p0 p1 p2) n1 = rec1 at hm
 unfold cipher_Stream_L1 at hm
 try dsimp only at hm
 refine qs 1 rfl<|qv rfl (vv_lss (a := a8) (b := (p2.length : Int)) rfl rfl)<|sd_done<|sw_seq<|cnF rfl (fun c2 => ?_) (fun c2 => ?_)
 · replace hm := iF c2 hm
   refine sw_exit<|then_x<|then_x<|block_x<|then_n<|qs 3 rfl ?_
   refine qm rfl<|qm rfl<|qm rfl<|sd_done<|sw_ret ?_
   have X32 := (X11.kz K4 (tk1 ((.inr tk0) : 1 = 0 ∨ w.heap.size ≤ gw2)))
   cases hm
   refine ⟨_, _, rfl, res_2 rfl (rv_tmp rfl) (rv_tmp rfl), ?_⟩
   exact ⟨vy7, zy7, gy7, rfl, Fw4_0, ⟨(pv_1 (A := (fun x => w.heap.size ≤ x)) Fw4_1 (.inr tk0))⟩, X32⟩
 replace hm := iT c2 hm
 refine qu<|sw_seq<|sw_block<|qs 5 rfl<|qm rfl ?_
 obtain ⟨y10, hy10, hm⟩ := bnd hm
 have B16 := (B10.kz K4 (tk2 ((pv_sw (.inr (tk1 lt1.o))) : zp2 = 0 ∨ 1 = 0 ∨ gp2 ≠ gw2) (pb_lt (b := b3) lt1)))
 refine qv rfl (vv_ixT (i := a8) Tryz.underlying50 (one_5).siz rfl B16 rfl hy10)<|qv rfl (vv_el1T (q := 0) (u := bv y10) one_5 rfl B16 hy10 (by first | rfl | omega) rfl)<|qm rfl<|qm rfl<|sd_done ?_
 have X17 := (X11.kz K4 (tk1 ((.inr tk0) : 1 = 0 ∨ w.heap.size ≤ gw2)))
 refine qj (β := W2) (rg 25 10) (fun a11 => []) (fun a11 wr => (cipher_Stream_J2 a6 a8 rec1 y10 a11 = some r) ∧ Bx wr b3 23 (kb a11) ∧ Kz [(1, b3)] w4 wr) ?_ ?_
 · refine qs 3 rfl<|qm rfl ?_
   obtain ⟨x15, hx15, hm⟩ := bnd hm
   refine qv rfl (vv_remI (a := a8) (b := 16) rfl rfl hx15)<|qv rfl (vv_eql (a := x15) (b := 0) rfl rfl)<|sd_done<|cnF rfl (fun c3 => ?_) (fun c3 => ?_)
   · replace hm := iF c3 hm
     refine sw_skip ?_
     exact ⟨rfl, a9, sbq, hm, Fw4_2, (Kz.refl _ _)⟩
   replace hm := iT c3 hm
   refine dw [([b3])] [] (.leaf [(0,10),(1,10),(2,10),(3,10),(4,10),(5,0),(6,0),(7,0)]) ?_
   intro w7 G7 zw7
   refine sdz_leaf ?_
   have B25 := ((((Bw1.gr G2).gr G3).kz K4 (tk1 ((.inr tk0) : 1 = 0 ∨ gw2 ≠ b1))).gr G7)
   refine dh 0 rfl rfl (fun w hS => vv_loadW agg_23 rfl (Bx.kp B25 hS) rfl)<|dm 0 rfl rfl ?_
   obtain ⟨x16, hx16, hm⟩ := bnd hm
   refine dh 0 rfl rfl (fun w hS => vv_quoI (a := a8) (b := 16) rfl rfl hx16)<|dh 0 rfl rfl (fun w hS => vv_cvIU cv_3_24 rfl)<|dm 0 rfl rfl ?_
   obtain ⟨x17, hx17, hm⟩ := bnd hm
   refine qz [] rfl (eC en_97 rfl (cipher_blockOf_w hx17)) ⟨fun _ => tk0, trivial⟩ ?_
   rintro _ w8 ⟨rfl, G8⟩
   have z26 := G8.size
   refine kG G8<|qz [] rfl (eC en_96 rfl (encr_c p0 x17 _)) ⟨fun _ => tk0, trivial⟩ ?_
   rintro _ w9 ⟨rfl, G9⟩
   have z27 := G9.size
   refine kG G9 ?_
   have B28 := (((Fw4_2.gr G7).gr G8).gr G9)
   refine qz [(1, b3)] rfl (ev_stW agg_23 rfl rfl rfl B28 rfl rfl) ⟨fun _ => tk0, trivial⟩ ?_
   rintro _ w10 ⟨Bw10, M10⟩
   have z29 := M10.size
   refine kM M10<|sd_nil ?_
   exact ⟨rfl, (encr p0 x17), sbq, hm, Bw10, ((((Kz.gr (Kz.refl _ _) G7).gr G8).gr G9).md M10)⟩
 clear hm; rintro a11 w5 ⟨hm, Fw5_0, K5⟩
 have z18 := K5.size
 have lt19 := Fw5_0.lt
 unfold cipher_Stream_J2 at hm
 refine qg 10 rfl<|qm rfl<|qm rfl<|qm rfl<|qm rfl ?_
 obtain ⟨x12, hx12, hm⟩ := bnd hm
 refine qv rfl (vv_remI (a := a8) (b := 16) rfl rfl hx12) ?_
 obtain ⟨y13, hy13, hm⟩ := bnd hm
 refine qv rfl (vv_ixK (i := x12) (p := a11) Tryz.underlying23 (one_5).siz rfl rfl hy13)<|qv rfl (vv_ldK (off := 0) (p := a11) (i := x12) one_5 rfl Fw5_0 rfl hy13 (by omega))<|qv rfl (vv_xorB (a := y10) (b := y13) rfl rfl) ?_
 obtain ⟨y14, hy14, hm⟩ := bnd hm
 have B20 := (Fw4_0.kz K5 (tk1 (pb_1 (b := b3) Fw4_1 (pb_lt lt7))))
 refine qv rfl (vv_ixT (i := a8) Tryz.underlying50 (one_5).siz rfl (Own.rd B20) rfl hy14) ?_
 have zo21 := Own.z1 B20 hy14
 refine qe rfl (ev_stEl (i := a8) (q := 0) (a' := y10 ^^^ y13) (vs := [bv (y10 ^^^ y13)]) (c := bvc) (one_5).siz rfl rfl rfl rfl rfl B20 hy14 (by first | rfl | omega) rfl rfl ⟨rfl, rfl⟩) ?_
 rintro _ w6 ⟨Ow6, M6⟩
 have z22 := M6.size
 refine sd_nil<|block_n<|then_n<|qg 2 rfl<|qv rfl (vv_add (k := .i64) (a := a8) (b := 1) rfl rfl)<|qm rfl<|sd_nil ?_
 have K_23 : Kz [(1, b3), (1, gw2)] w3 w6 := ((K4.kz K5).md M6 (tk1 (pv_1 (A := (fun x => (x = gw2 ∧ 1 ≠ 0) ∨ w3.heap.size ≤ x)) Fw4_1 tk0)))
 have B24 := (Fw5_0.md M6 (tk1 (pb_1 (b := b3) Fw4_1 (pb_lt lt7))))
 subst hrec1
 exact ⟨rfl, ⟨n1, a6.set a8.toNat (y10 ^^^ y13), w64 (a8 + 1), a11, vy7, zy7, gy7⟩, sbq, ⟨hm, Ow6, ⟨(pv_1 (A := (fun x => (x = gw2 ∧ 1 ≠ 0) ∨ w3.heap.size ≤ x)) Fw4_1 tk0)⟩, B24, K_23⟩, Nat.lt_succ_self _⟩
theorem epoch_Content_w {p0 p1 p2 p3 p4 vp4 zp4 gp4 op4 r} (hm : epoch_Content p0 p1 p2 p3 p4 = some r) {w : World} (hp4 : Rd w zp4 gp4 op4 1 vp4 (p4.map bvc)) :
    Calls Tryz.prog 31 [kv p0, .agg (TAir.cs p1).toArray, .int .i64 p2, wv p3, vp4].toArray w fun e w' => ∃ v, e = .returned v ∧ (∃ ur0_2 zr0_2 gr0_2 ur0_4 zr0_4 gr0_4 ur0_39 zr0_39 gr0_39, v = .tuple [.agg (TPacket.cs r.1 ur0_2 ur0_4 ur0_39).toArray, .int .i64 r.2].toArray ∧ Own w' zr0_2 gr0_2 133 18 ur0_2 (r.1.Head.Items.map TItem.cs) ∧ Hdn (zr0_2 = 0 ∨ w.heap.size ≤ gr0_2) ∧ Own w' zr0_4 gr0_4 31 2 ur0_4 (r.1.Head.Points.map TPoint.cs) ∧ Hdn (zr0_4 = 0 ∨ w.heap.size ≤ gr0_4) ∧ Own w' zr0_39 gr0_39 5 1 ur0_39 (r.1.Data.map bvc) ∧ Hdn (zr0_39 = 0 ∨ w.heap.size ≤ gr0_39) ∧ Hdn (zr0_4 = 0 ∨ zr0_2 = 0 ∨ gr0_4 ≠ gr0_2) ∧ Hdn (zr0_39 = 0 ∨ zr0_2 = 0 ∨ gr0_39 ≠ gr0_2) ∧ Hdn (zr0_39 = 0 ∨ zr0_4 = 0 ∨ gr0_39 ≠ gr0_4) ∧ Gr w w') := by
 have lt1 := hp4.lth
 unfold epoch_Content at hm
 refine calls_of_sw 65 Tryz.func31 rfl rfl rfl<|qs 4 rfl<|qe rfl (ev_box (cs := kb p0) rfl rfl) ?_
 rintro _ w1 ⟨b1, rfl, hbw1, Bw1, G1⟩
 have z2 := G1.size
 have lt3 := Bw1.lt
 refine qe rfl (ev_box (cs := TAir.cs p1) rfl rfl) ?_
 rintro _ w2 ⟨b2, rfl, hbw2, Bw2, G2⟩
 have z4 := G2.size
 have lt5 := Bw2.lt
 refine qe rfl (ev_alloc (cs := TPacket.cs (TPacket.mk 0#8 0 (THeader.mk [] 0#64 [] k0 k0) 0#8 0#64 [] k0) (.slice none 0 0) (.slice none 0 0) (.slice none 0 0)) zv_52 rfl) ?_
 rintro _ w3 ⟨b3, rfl, hbw3, Bw3, G3⟩
 have z6 := G3.size
 have lt7 := Bw3.lt
 refine qm rfl<|qd 8 rfl ?_
 have B8 := (Bw2.gr G3)
 refine qv rfl (vv_loadW agg_65 rfl B8 rfl)<|qm rfl ?_
 obtain ⟨x1, hx1, hm⟩ := bnd hm
 refine qe rfl (eC en_44 rfl (epoch_PeriodOf_w hx1)) ?_
 rintro _ w4 ⟨rfl, G4⟩
 have z9 := G4.size
 refine qm rfl<|qm rfl<|qm rfl<|qm rfl<|qm rfl<|sd_done<|sw_seq ?_
 refine qs 2 rfl<|qm rfl<|qv rfl (vv_neq (a := x1.2) (b := 0) rfl rfl)<|sd_done<|sw_cond rfl (fun c1 => ?_) (fun c1 => ?_)
 · replace hm := iT c1 hm
   refine qs 4 rfl<|qv rfl (vv_build (cs := TPacket.cs (TPacket.mk 0#8 0 (THeader.mk [] 0#64 [] k0 k0) 0#8 0#64 [] k0) (.slice none 0 0) (.slice none 0 0) (.slice none 0 0)) bs_52 rfl (by kernel_rfl))<|qm rfl ?_
   have B10 := (Bw3.gr G4)
   refine qe rfl (ev_stW agg_52 rfl rfl (TPacket.cs_ones _ _ _ _ rfl rfl rfl) B10 rfl rfl) ?_
   rintro _ w5 ⟨Bw5, M5⟩
   have z11 := M5.size
   refine qm rfl<|qb ?_
   have Y1 := Gr.trans (Gr.trans (Gr.trans G1 G2) G3) G4
   have X12 := (((Gr.refl w).trans Y1).md M5)
   cases hm
   refine ⟨_, _, rfl, res_2 rfl (rv_cellW agg_52 rfl Bw5 rfl) (rv_tmp rfl), ?_⟩
   exact ⟨(.slice none 0 0), 0, 0, (.slice none 0 0), 0, 0, (.slice none 0 0), 0, 0, rfl, (own_nil _ 0 133 18), ⟨.inl rfl⟩, (own_nil _ 0 31 2), ⟨.inl rfl⟩, (own_nil _ 0 5 1), ⟨.inl rfl⟩, ⟨(.inl rfl)⟩, ⟨(.inl rfl)⟩, ⟨(.inl rfl)⟩, X12⟩
 replace hm := iF c1 hm
 refine qu<|sw_seq<|qs 3 rfl<|qm rfl ?_
 have Y2 := Gr.trans (Gr.trans (Gr.trans G1 G2) G3) G4
 have B13 := (hp4.gr Y2)
 refine qv rfl (vv_lenT (l := p4) (c := bvc) Tryz.underlying50 rfl B13)<|qv rfl (vv_gtr (a := (p4.length : Int)) (b := 256) rfl rfl)<|sd_done<|sw_cond rfl (fun c2 => ?_) (fun c2 => ?_)
 · replace hm := iT c2 hm
   refine qs 3 rfl<|qv rfl (vv_build (cs := TPacket.cs (TPacket.mk 0#8 0 (THeader.mk [] 0#64 [] k0 k0) 0#8 0#64 [] k0) (.slice none 0 0) (.slice none 0 0) (.slice none 0 0)) bs_52 rfl (by kernel_rfl)) ?_
   have B14 := (Bw3.gr G4)
   refine qe rfl (ev_stW agg_52 rfl rfl (TPacket.cs_ones _ _ _ _ rfl rfl rfl) B14 rfl rfl) ?_
   rintro _ w6 ⟨Bw6, M6⟩
   have z15 := M6.size
   refine qm rfl<|qb ?_
   have X16 := (((Gr.refl w).trans Y2).md M6)
   cases hm
   refine ⟨_, _, rfl, res_2 rfl (rv_cellW agg_52 rfl Bw6 rfl) (rv_tmp rfl), ?_⟩
   exact ⟨(.slice none 0 0), 0, 0, (.slice none 0 0), 0, 0, (.slice none 0 0), 0, 0, rfl, (own_nil _ 0 133 18), ⟨.inl rfl⟩, (own_nil _ 0 31 2), ⟨.inl rfl⟩, (own_nil _ 0 5 1), ⟨.inl rfl⟩, ⟨(.inl rfl)⟩, ⟨(.inl rfl)⟩, ⟨(.inl rfl)⟩, X16⟩
 replace hm := iF c2 hm
 refine qu ?_
 have X17 := ((Gr.refl w).trans Y2)
 refine qj (β := W2 × Nat) ([14] ++ rg 30 8) (fun ⟨a3, bq2⟩ => [(14, .pointer (some ⟨bq2, 0, none⟩))]) (fun ⟨a3, bq2⟩ wr => (epoch_Content_J1 p3 p4 x1 a3 = some r) ∧ Bx wr bq2 23 (kb a3) ∧ w4.heap.size ≤ bq2 ∧ Kz [] w4 wr) ?_ ?_
 · refine dw [([])] [] (.fork [(0,10),(1,10),(2,10),(3,10),(4,10),(6,10)] (.fork [(5,0)] (.leaf [(7,0),(8,0),(9,0)]) (.leaf [(8,0),(7,0),(9,0)])) (.leaf [(8,0),(5,0),(7,0),(9,0)])) ?_
   intro w18 G18 zw18
   refine sdz_fork ?_
   have B47 := ((((Bw1.gr G2).gr G3).gr G4).gr G18)
   refine dh 0 rfl rfl (fun w hS => vv_loadW agg_23 rfl (Bx.kp B47 hS) rfl)<|dm 0 rfl rfl<|dh 0 rfl rfl (fun w hS => vv_fieldAddr fa_65_0 rfl) ?_
   have B48 := ((B8.gr G4).gr G18)
   refine dh 0 rfl rfl (fun w hS => vv_load1 (v := .int .i64 p1.Epoch) one_3 rfl (Bx.kp B48 hS) rfl) ?_
   obtain ⟨x8, hx8, hm⟩ := bnd hm
   refine dh 0 rfl rfl (fun w hS => vv_quoI (a := p2) (b := p1.Epoch) rfl rfl hx8)<|dm 0 rfl rfl<|sd_fork ?_ ?_
   · refine sdz_fork ?_
     obtain ⟨x9, hx9, hm⟩ := bnd hm
     refine qz [] rfl (eC en_15 rfl (epoch_Session_w hx9)) ⟨fun _ => tk0, trivial⟩ ?_
     rintro _ w19 ⟨rfl, G19⟩
     have z49 := G19.size
     refine kG G19<|sd_fork ?_ ?_
     · refine sdz_leaf ?_
       obtain ⟨x10, hx10, hm⟩ := bnd hm
       refine qz [] rfl (eC en_17 rfl (epoch_Word_w hx10)) ⟨fun _ => tk0, trivial⟩ ?_
       rintro _ w20 ⟨rfl, G20⟩
       have z50 := G20.size
       refine kG G20<|qz [] rfl (ev_alloc (cs := kb k0) zv_23 rfl) ⟨fun _ => tk0, trivial⟩ ?_
       rintro _ w21 ⟨b21, rfl, hbw21, Bw21, G21⟩
       have z51 := G21.size
       have lt52 := Bw21.lt
       refine kG G21<|qz [(1, b21)] rfl (ev_stW agg_23 rfl rfl rfl Bw21 rfl rfl) ⟨fun _ => tk0, trivial⟩ ?_
       rintro _ w22 ⟨Bw22, M22⟩
       have z53 := M22.size
       refine kM M22<|sd_nil ?_
       exact ⟨rfl, ⟨x10, b21⟩, sbq, hm, Bw22, (by omega), (((((kz0.gr G18).gr G19).gr G20).gr G21).md M22)⟩
     refine sdz_leaf<|qz [] rfl (ev_alloc (cs := kb k0) zv_23 rfl) ⟨fun _ => tk0, trivial⟩ ?_
     rintro _ w23 ⟨b23, rfl, hbw23, Bw23, G23⟩
     have z55 := G23.size
     have lt56 := Bw23.lt
     refine kG G23 ?_
     obtain ⟨x11, hx11, hm⟩ := bnd hm
     refine qz [] rfl (eC en_17 rfl (epoch_Word_w hx11)) ⟨fun _ => tk0, trivial⟩ ?_
     rintro _ w24 ⟨rfl, G24⟩
     have z57 := G24.size
     refine kG G24 ?_
     have B58 := (Bw23.gr G24)
     refine qz [(1, b23)] rfl (ev_stW agg_23 rfl rfl rfl B58 rfl rfl) ⟨fun _ => tk0, trivial⟩ ?_
     rintro _ w25 ⟨Bw25, M25⟩
     have z59 := M25.size
     refine kM M25<|sd_nil ?_
     exact ⟨rfl, ⟨x11, b23⟩, sbq, hm, Bw25, (by omega), (((((kz0.gr G18).gr G19).gr G23).gr G24).md M25)⟩
   refine sdz_leaf<|qz [] rfl (ev_alloc (cs := kb k0) zv_23 rfl) ⟨fun _ => tk0, trivial⟩ ?_
   rintro _ w26 ⟨b26, rfl, hbw26, Bw26, G26⟩
   have z61 := G26.size
   have lt62 := Bw26.lt
   refine kG G26 ?_
   obtain ⟨x12, hx12, hm⟩ := bnd hm
   refine qz [] rfl (eC en_15 rfl (epoch_Session_w hx12)) ⟨fun _ => tk0, trivial⟩ ?_
   rintro _ w27 ⟨rfl, G27⟩
   have z63 := G27.size
   refine kG G27 ?_
   obtain ⟨x13, hx13, hm⟩ := bnd hm
   refine qz [] rfl (eC en_17 rfl (epoch_Word_w hx13)) ⟨fun _ => tk0, trivial⟩ ?_
   rintro _ w28 ⟨rfl, G28⟩
   have z64 := G28.size
   refine kG G28 ?_
   have B65 := ((Bw26.gr G27).gr G28)
   refine qz [(1, b26)] rfl (ev_stW agg_23 rfl rfl rfl B65 rfl rfl) ⟨fun _ => tk0, trivial⟩ ?_
   rintro _ w29 ⟨Bw29, M29⟩
   have z66 := M29.size
   refine kM M29<|sd_nil ?_
   exact ⟨rfl, ⟨x13, b26⟩, sbq, hm, Bw29, (by omega), (((((kz0.gr G18).gr G26).gr G27).gr G28).md M29)⟩
 clear hm; rintro ⟨a3, bq2⟩ w7 ⟨hm, Fw7_0, Fw7_1, K7⟩
 have z18 := K7.size
 have lt19 := Fw7_0.lt
 unfold epoch_Content_J1 at hm
 refine qs 7 rfl<|qm rfl ?_
 obtain ⟨x4, hx4, hm⟩ := bnd hm
 refine qv rfl (vv_remI (a := x1.1) (b := 4) rfl rfl hx4)<|qv rfl (vv_cvIB cv_3_5 rfl)<|qm rfl<|qv rfl (vv_build (cs := TPacket.cs (TPacket.mk 2#8 0 (THeader.mk [] 0#64 [] k0 k0) (wd8 x4) p3 [] k0) (.slice none 0 0) (.slice none 0 0) (.slice none 0 0)) bs_52 rfl (by kernel_rfl))<|qe rfl (ev_alloc (cs := TPacket.cs (TPacket.mk 0#8 0 (THeader.mk [] 0#64 [] k0 k0) 0#8 0#64 [] k0) (.slice none 0 0) (.slice none 0 0) (.slice none 0 0)) zv_52 rfl) ?_
 rintro _ w8 ⟨b8, rfl, hbw8, Bw8, G8⟩
 have z20 := G8.size
 have lt21 := Bw8.lt
 refine qe rfl (ev_stW agg_52 rfl rfl (TPacket.cs_ones _ _ _ _ rfl rfl rfl) Bw8 rfl rfl) ?_
 rintro _ w9 ⟨Bw9, M9⟩
 have z22 := M9.size
 refine sd_done<|sw_seq<|qs 10 rfl ?_
 have B23 := ((Fw7_0.gr G8).md M9)
 refine qv rfl (vv_loadW agg_23 rfl B23 rfl)<|qm rfl<|qm rfl ?_
 have B24 := (((B13.kz K7).gr G8).md M9 (pb_lt lt1))
 obtain ⟨x5, hx5, hm⟩ := bnd hm
 refine qe rfl (eC en_76 rfl (cipher_Stream_w hx5 B24)) ?_
 rintro _ w10 ⟨u10_r0_s, z10_r0_s, g10_r0_s, rfl, O10_r0_s, f10_r0_s, G10⟩
 have z25 := G10.size
 have lt26 := O10_r0_s.lth
 refine qm rfl<|qm rfl<|qm rfl<|qv rfl (vv_fieldAddr fa_52_5 rfl) ?_
 have B27 := (Bw9.gr G10)
 refine qe rfl (ev_st1 (cs' := TPacket.cs (TPacket.mk 2#8 0 (THeader.mk [] 0#64 [] k0 k0) (wd8 x4) p3 x5.1 k0) (.slice none 0 0) (.slice none 0 0) u10_r0_s) (one_50).siz rfl rfl (Own.oneB O10_r0_s) B27 rfl rfl) ?_
 rintro _ w11 ⟨Bw11, M11⟩
 have z28 := M11.size
 refine qm rfl<|qd 2 rfl<|qm rfl<|qv rfl (vv_neq (a := x5.2) (b := 0) rfl rfl)<|sd_done ?_
 refine sw_cond rfl (fun c3 => ?_) (fun c3 => ?_)
 · replace hm := iT c3 hm
   refine qs 4 rfl<|qv rfl (vv_build (cs := TPacket.cs (TPacket.mk 0#8 0 (THeader.mk [] 0#64 [] k0 k0) 0#8 0#64 [] k0) (.slice none 0 0) (.slice none 0 0) (.slice none 0 0)) bs_52 rfl (by kernel_rfl))<|qm rfl ?_
   have B29 := ((((((Bw3.gr G4).kz K7).gr G8).md M9).gr G10).md M11)
   refine qe rfl (ev_stW agg_52 rfl rfl (TPacket.cs_ones _ _ _ _ rfl rfl rfl) B29 rfl rfl) ?_
   rintro _ w12 ⟨Bw12, M12⟩
   have z30 := M12.size
   refine qm rfl<|qb ?_
   have X31 := ((((((X17.kz K7).trans G8).md M9).trans G10).md M11).md M12)
   cases hm
   refine ⟨_, _, rfl, res_2 rfl (rv_cellW agg_52 rfl Bw12 rfl) (rv_tmp rfl), ?_⟩
   exact ⟨(.slice none 0 0), 0, 0, (.slice none 0 0), 0, 0, (.slice none 0 0), 0, 0, rfl, (own_nil _ 0 133 18), ⟨.inl rfl⟩, (own_nil _ 0 31 2), ⟨.inl rfl⟩, (own_nil _ 0 5 1), ⟨.inl rfl⟩, ⟨(.inl rfl)⟩, ⟨(.inl rfl)⟩, ⟨(.inl rfl)⟩, X31⟩
 replace hm := iF c3 hm
 refine qu<|sw_seq<|dw [([b8]),([])] [(8, [1])] (.leaf [(0,10),(1,11),(2,0),(3,0),(4,10),(5,10),(6,10),(7,10),(8,0),(9,10)]) ?_
 intro w13 G13 zw13
 refine sdz_leaf ?_
 have B32 := (((B23.gr G10).md M11).gr G13)
 refine dh 0 rfl rfl (fun w hS => vv_loadW agg_23 rfl (Bx.kp B32 hS) rfl) ?_
 have B33 := (Bw11.gr G13)
 refine dh 1 rfl rfl (fun w hS => vv_loadW agg_52 rfl (Bx.kp B33 hS) rfl) ?_
 have B34 := ((O10_r0_s.md M11 (pb_0 f10_r0_s)).gr G13)
 obtain ⟨x6, hx6, hm⟩ := bnd hm
 refine qz [] rfl (eC en_78 rfl (epoch_body_w hx6 (Own.rd (own_nil _ 0 133 18)) (Own.rd (own_nil _ 0 31 2)) (Own.rd B34))) ⟨fun _ => tk0, fun _ => tk0, trivial⟩ ?_
 rintro u14_r0_s w14 ⟨_, z14_r0_s, g14_r0_s, rfl, O14_r0_s, f14_r0_s, G14⟩
 have z35 := G14.size
 have lt36 := O14_r0_s.lth
 refine kG G14 ?_
 obtain ⟨x7, hx7, hm⟩ := bnd hm
 refine qz [] rfl (eC en_77 rfl (cipher_Mac_w hx7 (Own.rd O14_r0_s))) ⟨fun _ => tk0, fun _ => tk0, trivial⟩ ?_
 rintro _ w15 ⟨rfl, G15⟩
 have z37 := G15.size
 refine kG G15 ?_
 have Y3 := Gr.trans G14 G15
 have S38 := ((Kp.refl ([b8]) w13).gr Y3)
 refine dn 0 rfl rfl S38<|dn 0 rfl rfl S38<|dn 0 rfl rfl S38<|qh 0 rfl rfl S38 (fun w hS => vv_fieldAddr fa_52_6 rfl) ?_
 have B39 := (B33.gr Y3)
 refine qz [(1, b8)] rfl (ev_stM (cs' := TPacket.cs (TPacket.mk 2#8 0 (THeader.mk [] 0#64 [] k0 k0) (wd8 x4) p3 x5.1 x7.1) (.slice none 0 0) (.slice none 0 0) u10_r0_s) (vs := kb x7.1) (agg_23).siz rfl rfl rfl rfl rfl B39 rfl rfl) ⟨fun _ => tk0, nofun, trivial⟩ ?_
 rintro _ w16 ⟨Bw16, M16⟩
 have z40 := M16.size
 refine kM M16 ?_
 have S41 := (S38.md M16)
 refine dn 0 rfl rfl S41<|qd 4 rfl<|qv rfl (vv_loadW agg_52 rfl Bw16 rfl)<|qm rfl ?_
 have B42 := (((((((((Bw3.gr G4).kz K7).gr G8).md M9).gr G10).md M11).gr G13).gr Y3).md M16)
 have B43 := ((B34.gr Y3).md M16 (pb_0 f10_r0_s))
 refine qe rfl (ev_stW agg_52 rfl rfl (TPacket.cs_ones _ _ _ _ rfl rfl (Own.oneB B43)) B42 rfl rfl) ?_
 rintro _ w17 ⟨Bw17, M17⟩
 have z44 := M17.size
 refine qm rfl<|sd_done<|sw_ret ?_
 have B45 := (B43.md M17 (pb_0 f10_r0_s))
 have X46 := (((((((((X17.kz K7).trans G8).md M9).trans G10).md M11).trans G13).trans Y3).md M16).md M17)
 cases hm
 refine ⟨_, _, rfl, res_2 rfl (rv_cellW agg_52 rfl Bw17 rfl) (rv_tmp rfl), ?_⟩
 exact ⟨(.slice none 0 0), 0, 0, (.slice none 0 0), 0, 0, u10_r0_s, z10_r0_s, g10_r0_s, rfl, (own_nil _ 0 133 18), ⟨.inl rfl⟩, (own_nil _ 0 31 2), ⟨.inl rfl⟩, B45, ⟨(pv_0 (A := (fun x => w.heap.size ≤ x)) f10_r0_s)⟩, ⟨(.inl rfl)⟩, ⟨(.inr (.inl rfl))⟩, ⟨(.inr (.inl rfl))⟩, X46⟩
theorem epoch_CheckScheme_w {p0 r} (hm : epoch_CheckScheme p0 = some r) {w : World} :
    Calls Tryz.prog 19 [.agg (TScheme.cs p0).toArray].toArray w fun e w' => ∃ v, e = .returned v ∧ (v = .int .i64 r ∧ Gr w w') := by
 unfold epoch_CheckScheme at hm
 refine calls_of_sw 11 Tryz.func19 rfl rfl rfl<|qs 2 rfl<|qe rfl (ev_box (cs := TScheme.cs p0) rfl rfl) ?_
 rintro _ w1 ⟨b1, rfl, hbw1, Bw1, G1⟩
 have z1 := G1.size
 have lt2 := Bw1.lt
 refine qm rfl<|qd 8 rfl<|qv rfl (vv_loadW agg_28 rfl Bw1 rfl)<|sd_inl 33 Tryz.func61 rfl rfl rfl en_61 rfl rfl rfl rfl rfl<|sw_seq ?_
 refine qg 3 rfl<|qe rfl (ev_box (cs := TScheme.cs p0) rfl rfl) ?_
 rintro _ w2 ⟨b2, rfl, hbw2, Bw2, G2⟩
 have z3 := G2.size
 have lt4 := Bw2.lt
 refine qe rfl (ev_alloc (cs := [.nilFunc, .nilFunc, .nilFunc, .nilFunc]) zv_122 rfl) ?_
 rintro _ w3 ⟨b3, rfl, hbw3, Bw3, G3⟩
 have z5 := G3.size
 have lt6 := Bw3.lt
 refine qm rfl<|qd 3 rfl<|qv rfl (vv_build (cs := [.func (.func 121) #[] #[], .func (.func 137) #[] #[], .func (.func 53) #[] #[], .func (.func 138) #[] #[]]) bs_122 rfl rfl)<|qe rfl (ev_alloc (cs := [.nilFunc, .nilFunc, .nilFunc, .nilFunc]) zv_122 rfl) ?_
 rintro _ w4 ⟨b4, rfl, hbw4, Bw4, G4⟩
 have z7 := G4.size
 have lt8 := Bw4.lt
 refine qe rfl (ev_stW agg_122 rfl rfl rfl Bw4 rfl rfl) ?_
 rintro _ w5 ⟨Bw5, M5⟩
 have z9 := M5.size
 refine qd 8 rfl<|qv rfl (vv_build (cs := [.nilFunc, .nilFunc, .nilFunc, .nilFunc]) bs_122 rfl rfl)<|qv rfl (vv_loadM (vs := [.func (.func 121) #[] #[], .func (.func 137) #[] #[], .func (.func 53) #[] #[], .func (.func 138) #[] #[]]) agg_122 rfl Bw5 rfl rfl)<|qv rfl (vv_loadM (vs := [.func (.func 121) #[] #[], .func (.func 137) #[] #[], .func (.func 53) #[] #[], .func (.func 138) #[] #[]]) agg_122 rfl Bw5 rfl rfl)<|qv rfl (vv_loadM (vs := [.func (.func 121) #[] #[], .func (.func 137) #[] #[], .func (.func 53) #[] #[], .func (.func 138) #[] #[]]) agg_122 rfl Bw5 rfl rfl) ?_
 refine qv rfl (vv_build (cs := [.func (.func 139) #[] #[], .func (.func 140) #[] #[], .func (.func 50) #[] #[], .func (.func 49) #[] #[]]) bs_122 rfl rfl)<|qv rfl (vv_buildA (cs := [.nilFunc, .nilFunc, .nilFunc, .nilFunc, .func (.func 121) #[] #[], .func (.func 137) #[] #[], .func (.func 53) #[] #[], .func (.func 138) #[] #[], .func (.func 121) #[] #[], .func (.func 137) #[] #[], .func (.func 53) #[] #[], .func (.func 138) #[] #[], .func (.func 121) #[] #[], .func (.func 137) #[] #[], .func (.func 53) #[] #[], .func (.func 138) #[] #[], .func (.func 139) #[] #[], .func (.func 140) #[] #[], .func (.func 50) #[] #[], .func (.func 49) #[] #[]]) ba_206 rfl rfl)<|qe rfl (ev_alloc (cs := [.nilFunc, .nilFunc, .nilFunc, .nilFunc, .nilFunc, .nilFunc, .nilFunc, .nilFunc, .nilFunc, .nilFunc, .nilFunc, .nilFunc, .nilFunc, .nilFunc, .nilFunc, .nilFunc, .nilFunc, .nilFunc, .nilFunc, .nilFunc]) zv_206 rfl) ?_
 rintro _ w6 ⟨b6, rfl, hbw6, Bw6, G6⟩
 have z10 := G6.size
 have lt11 := Bw6.lt
 refine qe rfl (ev_stW agg_206 rfl rfl rfl Bw6 rfl rfl) ?_
 rintro _ w7 ⟨Bw7, M7⟩
 have z12 := M7.size
 refine sd_done<|sw_seq ?_
 have X13 := ((((((((Gr.refl w).trans G1).trans G2).trans G3).trans G4).md M5).trans G6).md M7)
 refine qj (β := Bool) (rg 14 9) (fun a1 => [(22, .bool a1)]) (fun a1 wr => (epoch_CheckScheme_J1 p0 a1 = some r) ∧ Kz [] w7 wr) ?_ ?_
 · refine qg 9 rfl<|qv rfl (vv_fieldAddr fa_28_0 rfl) ?_
   have B50 := (((((Bw2.gr G3).gr G4).md M5).gr G6).md M7)
   refine qv rfl (vv_load1 (v := bv p0.Kind) one_5 rfl B50 rfl)<|qv rfl (vv_lssB (p := p0.Kind) (q := 1#8) rfl rfl)<|qp rfl (vv_move rfl) (fun c4 => ?_) (fun c4 => ?_)
   · replace hm := iT c4 hm
     refine qk rfl<|qk rfl<|qk rfl<|qk rfl<|qm rfl<|sd_nil ?_
     exact ⟨rfl, true, sbq, hm, kz0⟩
   replace hm := iF c4 hm
   refine qv rfl (vv_fieldAddr fa_28_0 rfl)<|qv rfl (vv_load1 (v := bv p0.Kind) one_5 rfl B50 rfl)<|qv rfl (vv_cvBI cv_5_3 rfl)<|qv rfl (vv_geq (a := un8 p0.Kind) (b := 5) rfl rfl)<|qm rfl<|sd_nil ?_
   exact ⟨rfl, (decide ((5 : Int) ≤ un8 p0.Kind)), sbq, hm, kz0⟩
 clear hm; rintro a1 w8 ⟨hm, K8⟩
 have z14 := K8.size
 unfold epoch_CheckScheme_J1 at hm
 refine sw_cond rfl (fun c1 => ?_) (fun c1 => ?_)
 · replace hm := cnd_t c1 hm
   refine qs 3 rfl<|qv rfl (vv_build (cs := [.nilFunc, .nilFunc, .nilFunc, .nilFunc]) bs_122 rfl rfl) ?_
   have B15 := (((((Bw3.gr G4).md M5).gr G6).md M7).kz K8)
   refine qe rfl (ev_stW agg_122 rfl rfl rfl B15 rfl rfl) ?_
   rintro _ w9 ⟨Bw9, M9⟩
   have z16 := M9.size
   refine qm rfl<|qb<|⟨_, _, rfl, res_2 rfl (rv_cellW agg_122 rfl Bw9 rfl) (rv_tmp rfl), ?_⟩
   refine qm rfl<|qm rfl<|qm rfl<|qe rfl (ev_alloc (cs := [.nilFunc, .nilFunc, .nilFunc, .nilFunc]) zv_122 rfl) ?_
   rintro _ w10 ⟨b10, rfl, hbw10, Bw10, G10⟩
   have z17 := G10.size
   have lt18 := Bw10.lt
   refine qe rfl (ev_stW agg_122 rfl rfl rfl Bw10 rfl rfl) ?_
   rintro _ w11 ⟨Bw11, M11⟩
   have z19 := M11.size
   refine qm rfl<|qd 2 rfl<|qm rfl<|qm rfl<|sd_done ?_
   refine sw_ret ?_
   have X20 := ((((X13.kz K8).md M9).trans G10).md M11)
   cases hm
   refine ⟨_, _, rfl, res_1 rfl (rv_tmp rfl), ?_⟩
   exact ⟨rfl, X20⟩
 replace hm := cnd_f c1 hm
 refine qu<|qs 6 rfl<|qv rfl (vv_fieldAddr fa_28_0 rfl) ?_
 have B21 := ((((((Bw2.gr G3).gr G4).md M5).gr G6).md M7).kz K8)
 refine qv rfl (vv_load1 (v := bv p0.Kind) one_5 rfl B21 rfl) ?_
 by_cases c2 : (un8 p0.Kind = 1 ∨ un8 p0.Kind = 2 ∨ un8 p0.Kind = 3)
 · replace hm := ite_t c2 hm
   refine qv rfl (vv_ixJ Tryz.underlying206 (agg_122).siz rfl rfl (by omega)) ?_
   have B22 := (Bw7.kz K8)
   refine qv rfl (vv_loadM (vs := [.func (.func 121) #[] #[], .func (.func 137) #[] #[], .func (.func 53) #[] #[], .func (.func 138) #[] #[]]) agg_122 rfl B22 (by rcases c2 with h | h | h <;> rw [h] <;> rfl) rfl)<|qe rfl (ev_alloc (cs := [.nilFunc, .nilFunc, .nilFunc, .nilFunc]) zv_122 rfl) ?_
   rintro _ w12 ⟨b12, rfl, hbw12, Bw12, G12⟩
   have z23 := G12.size
   have lt24 := Bw12.lt
   refine qe rfl (ev_stW agg_122 rfl rfl rfl Bw12 rfl rfl) ?_
   rintro _ w13 ⟨Bw13, M13⟩
   have z25 := M13.size
   refine sd_done<|sw_seq<|dw [([b3])] [] (.leaf [(0,10),(1,10),(2,10),(3,10),(4,0),(5,0),(6,10)]) ?_
   intro w14 G14 zw14
   refine sdz_leaf ?_
   have B26 := (Bw13.gr G14)
   refine dh 0 rfl rfl (fun w hS => vv_loadM (vs := [.func (.func 121) #[] #[], .func (.func 137) #[] #[], .func (.func 53) #[] #[], .func (.func 138) #[] #[]]) agg_122 rfl (Bx.kp B26 hS) rfl rfl)<|dh 0 rfl rfl (fun w hS => vv_fieldAddr fa_122_0 rfl)<|dh 0 rfl rfl (fun w hS => vv_load1 (v := .func (.func 121) #[] #[]) one_40 rfl (Bx.kp B26 hS) rfl) ?_
   have B27 := (((B21.gr G12).md M13).gr G14)
   refine dh 0 rfl rfl (fun w hS => vv_loadW agg_28 rfl (Bx.kp B27 hS) rfl) ?_
   obtain ⟨x2, hx2, hm⟩ := bnd hm
   refine qz [] rfl (ev_callV en_121 rfl rfl (cover_Check_w hx2)) ⟨fun _ => tk0, trivial⟩ ?_
   rintro _ w15 ⟨rfl, G15⟩
   have z28 := G15.size
   refine kG G15 ?_
   have B29 := (((((((((Bw3.gr G4).md M5).gr G6).md M7).kz K8).gr G12).md M13).gr G14).gr G15)
   refine qz [(1, b3)] rfl (ev_stW agg_122 rfl rfl rfl B29 rfl rfl) ⟨fun _ => tk0, trivial⟩ ?_
   rintro _ w16 ⟨Bw16, M16⟩
   have z30 := M16.size
   refine kM M16 ?_
   have S31 := (((Kp.refl ([b3]) w14).gr G15).md M16)
   refine dn 0 rfl rfl S31<|sd_done<|sw_ret<|⟨_, _, rfl, res_2 rfl (rv_cellW agg_122 rfl Bw16 rfl) (rv_tmp rfl), ?_⟩
   refine qm rfl<|qm rfl<|qm rfl<|qe rfl (ev_alloc (cs := [.nilFunc, .nilFunc, .nilFunc, .nilFunc]) zv_122 rfl) ?_
   rintro _ w17 ⟨b17, rfl, hbw17, Bw17, G17⟩
   have z32 := G17.size
   have lt33 := Bw17.lt
   refine qe rfl (ev_stW agg_122 rfl rfl rfl Bw17 rfl rfl) ?_
   rintro _ w18 ⟨Bw18, M18⟩
   have z34 := M18.size
   refine qm rfl<|qd 2 rfl<|qm rfl<|qm rfl<|sd_done ?_
   refine sw_ret ?_
   have X35 := ((((((((X13.kz K8).trans G12).md M13).trans G14).trans G15).md M16).trans G17).md M18)
   cases hm
   refine ⟨_, _, rfl, res_1 rfl (rv_tmp rfl), ?_⟩
   exact ⟨rfl, X35⟩
 replace hm := ite_f c2 hm
 by_cases c3 : (un8 p0.Kind = 4)
 · replace hm := ite_t c3 hm
   refine qv rfl (vv_ixJ Tryz.underlying206 (agg_122).siz rfl rfl (by omega)) ?_
   have B36 := (Bw7.kz K8)
   refine qv rfl (vv_loadM (vs := [.func (.func 139) #[] #[], .func (.func 140) #[] #[], .func (.func 50) #[] #[], .func (.func 49) #[] #[]]) agg_122 rfl B36 (by rw [c3]; rfl) rfl)<|qe rfl (ev_alloc (cs := [.nilFunc, .nilFunc, .nilFunc, .nilFunc]) zv_122 rfl) ?_
   rintro _ w19 ⟨b19, rfl, hbw19, Bw19, G19⟩
   have z37 := G19.size
   have lt38 := Bw19.lt
   refine qe rfl (ev_stW agg_122 rfl rfl rfl Bw19 rfl rfl) ?_
   rintro _ w20 ⟨Bw20, M20⟩
   have z39 := M20.size
   refine sd_done<|sw_seq<|dw [([b3])] [] (.leaf [(0,10),(1,10),(2,10),(3,10),(4,0),(5,0),(6,10)]) ?_
   intro w21 G21 zw21
   refine sdz_leaf ?_
   have B40 := (Bw20.gr G21)
   refine dh 0 rfl rfl (fun w hS => vv_loadM (vs := [.func (.func 139) #[] #[], .func (.func 140) #[] #[], .func (.func 50) #[] #[], .func (.func 49) #[] #[]]) agg_122 rfl (Bx.kp B40 hS) rfl rfl)<|dh 0 rfl rfl (fun w hS => vv_fieldAddr fa_122_0 rfl)<|dh 0 rfl rfl (fun w hS => vv_load1 (v := .func (.func 139) #[] #[]) one_40 rfl (Bx.kp B40 hS) rfl) ?_
   have B41 := (((B21.gr G19).md M20).gr G21)
   refine dh 0 rfl rfl (fun w hS => vv_loadW agg_28 rfl (Bx.kp B41 hS) rfl) ?_
   obtain ⟨x3, hx3, hm⟩ := bnd hm
   refine qz [] rfl (ev_callV en_139 rfl rfl (poly_Check_w hx3)) ⟨fun _ => tk0, trivial⟩ ?_
   rintro _ w22 ⟨rfl, G22⟩
   have z42 := G22.size
   refine kG G22 ?_
   have B43 := (((((((((Bw3.gr G4).md M5).gr G6).md M7).kz K8).gr G19).md M20).gr G21).gr G22)
   refine qz [(1, b3)] rfl (ev_stW agg_122 rfl rfl rfl B43 rfl rfl) ⟨fun _ => tk0, trivial⟩ ?_
   rintro _ w23 ⟨Bw23, M23⟩
   have z44 := M23.size
   refine kM M23 ?_
   have S45 := (((Kp.refl ([b3]) w21).gr G22).md M23)
   refine dn 0 rfl rfl S45<|sd_done<|sw_ret<|⟨_, _, rfl, res_2 rfl (rv_cellW agg_122 rfl Bw23 rfl) (rv_tmp rfl), ?_⟩
   refine qm rfl<|qm rfl<|qm rfl<|qe rfl (ev_alloc (cs := [.nilFunc, .nilFunc, .nilFunc, .nilFunc]) zv_122 rfl) ?_
   rintro _ w24 ⟨b24, rfl, hbw24, Bw24, G24⟩
   have z46 := G24.size
   have lt47 := Bw24.lt
   refine qe rfl (ev_stW agg_122 rfl rfl rfl Bw24 rfl rfl) ?_
   rintro _ w25 ⟨Bw25, M25⟩
   have z48 := M25.size
   refine qm rfl<|qd 2 rfl<|qm rfl<|qm rfl<|sd_done ?_
   refine sw_ret ?_
   have X49 := ((((((((X13.kz K8).trans G19).md M20).trans G21).trans G22).md M23).trans G24).md M25)
   cases hm
   refine ⟨_, _, rfl, res_1 rfl (rv_tmp rfl), ?_⟩
   exact ⟨rfl, X49⟩
 replace hm := ite_f c3 hm
 cases hm
theorem epoch_both_w {p0 p1 r} (hm : epoch_both p0 p1 = some r) {w : World} :
    Calls Tryz.prog 81 [.agg (TScheme.cs p0).toArray, .agg (TAir.cs p1).toArray].toArray w fun e w' => ∃ v, e = .returned v ∧ (v = .int .i64 r ∧ Gr w w') := by
 unfold epoch_both at hm
 refine calls_of_sw 13 Tryz.func81 rfl rfl rfl<|qs 3 rfl<|qe rfl (ev_box (cs := TScheme.cs p0) rfl rfl) ?_
 rintro _ w1 ⟨b1, rfl, hbw1, Bw1, G1⟩
 have z1 := G1.size
 have lt2 := Bw1.lt
 refine qe rfl (ev_box (cs := TAir.cs p1) rfl rfl) ?_
 rintro _ w2 ⟨b2, rfl, hbw2, Bw2, G2⟩
 have z3 := G2.size
 have lt4 := Bw2.lt
 refine qm rfl<|sd_done<|sw_seq<|qs 3 rfl ?_
 have B5 := (Bw1.gr G2)
 refine qv rfl (vv_loadW agg_28 rfl B5 rfl) ?_
 obtain ⟨x1, hx1, hm⟩ := bnd hm
 refine qe rfl (eC en_19 rfl (epoch_CheckScheme_w hx1)) ?_
 rintro _ w3 ⟨rfl, G3⟩
 have z6 := G3.size
 refine qm rfl<|qd 2 rfl<|qm rfl<|qv rfl (vv_neq (a := x1) (b := 0) rfl rfl)<|sd_done ?_
 refine sw_cond rfl (fun c1 => ?_) (fun c1 => ?_)
 · replace hm := iT c1 hm
   refine qs 2 rfl<|qm rfl<|qm rfl<|sd_done<|sw_ret<|then_r ?_
   have X7 := ((((Gr.refl w).trans G1).trans G2).trans G3)
   cases hm
   refine ⟨_, _, rfl, res_1 rfl (rv_tmp rfl), ?_⟩
   exact ⟨rfl, X7⟩
 replace hm := iF c1 hm
 refine qu<|qs 3 rfl ?_
 have B8 := (Bw2.gr G3)
 refine qv rfl (vv_loadW agg_65 rfl B8 rfl) ?_
 obtain ⟨x2, hx2, hm⟩ := bnd hm
 refine qe rfl (eC en_56 rfl (epoch_CheckAir_w hx2)) ?_
 rintro _ w4 ⟨rfl, G4⟩
 have z9 := G4.size
 refine qm rfl<|sd_done<|sw_ret ?_
 have X10 := (((((Gr.refl w).trans G1).trans G2).trans G3).trans G4)
 cases hm
 refine ⟨_, _, rfl, res_1 rfl (rv_tmp rfl), ?_⟩
 exact ⟨rfl, X10⟩
theorem epoch_Secret_w {p0 p1 p2 r} (hm : epoch_Secret p0 p1 p2 = some r) {w : World} :
    Calls Tryz.prog 13 [kv p0, .agg (TScheme.cs p1).toArray, .int .i64 p2].toArray w fun e w' => ∃ v, e = .returned v ∧ (∃ ur0_1 zr0_1 gr0_1, v = .tuple [.agg (TSecret.cs r.1 ur0_1).toArray, .int .i64 r.2].toArray ∧ Own w' zr0_1 gr0_1 92 18 ur0_1 (r.1.Labels.map TLabel.cs) ∧ Hdn (zr0_1 = 0 ∨ w.heap.size ≤ gr0_1) ∧ Gr w w') := by
 unfold epoch_Secret at hm
 refine calls_of_sw 27 Tryz.func13 rfl rfl rfl<|qs 4 rfl<|qe rfl (ev_box (cs := kb p0) rfl rfl) ?_
 rintro _ w1 ⟨b1, rfl, hbw1, Bw1, G1⟩
 have z1 := G1.size
 have lt2 := Bw1.lt
 refine qe rfl (ev_box (cs := TScheme.cs p1) rfl rfl) ?_
 rintro _ w2 ⟨b2, rfl, hbw2, Bw2, G2⟩
 have z3 := G2.size
 have lt4 := Bw2.lt
 refine qe rfl (ev_alloc (cs := TSecret.cs (TSecret.mk 0 [] (TPoint.mk 0#64 0#64)) (.slice none 0 0)) zv_33 rfl) ?_
 rintro _ w3 ⟨b3, rfl, hbw3, Bw3, G3⟩
 have z5 := G3.size
 have lt6 := Bw3.lt
 refine qm rfl<|qd 8 rfl ?_
 have B7 := (Bw2.gr G3)
 refine qv rfl (vv_loadW agg_28 rfl B7 rfl)<|sd_inl 33 Tryz.func61 rfl rfl rfl en_61 rfl rfl rfl rfl rfl<|qs 3 rfl<|qe rfl (ev_box (cs := TScheme.cs p1) rfl rfl) ?_
 rintro _ w4 ⟨b4, rfl, hbw4, Bw4, G4⟩
 have z8 := G4.size
 have lt9 := Bw4.lt
 refine qe rfl (ev_alloc (cs := [.nilFunc, .nilFunc, .nilFunc, .nilFunc]) zv_122 rfl) ?_
 rintro _ w5 ⟨b5, rfl, hbw5, Bw5, G5⟩
 have z10 := G5.size
 have lt11 := Bw5.lt
 refine qm rfl<|qd 3 rfl<|qv rfl (vv_build (cs := [.func (.func 121) #[] #[], .func (.func 137) #[] #[], .func (.func 53) #[] #[], .func (.func 138) #[] #[]]) bs_122 rfl rfl)<|qe rfl (ev_alloc (cs := [.nilFunc, .nilFunc, .nilFunc, .nilFunc]) zv_122 rfl) ?_
 rintro _ w6 ⟨b6, rfl, hbw6, Bw6, G6⟩
 have z12 := G6.size
 have lt13 := Bw6.lt
 refine qe rfl (ev_stW agg_122 rfl rfl rfl Bw6 rfl rfl) ?_
 rintro _ w7 ⟨Bw7, M7⟩
 have z14 := M7.size
 refine qd 8 rfl<|qv rfl (vv_build (cs := [.nilFunc, .nilFunc, .nilFunc, .nilFunc]) bs_122 rfl rfl)<|qv rfl (vv_loadM (vs := [.func (.func 121) #[] #[], .func (.func 137) #[] #[], .func (.func 53) #[] #[], .func (.func 138) #[] #[]]) agg_122 rfl Bw7 rfl rfl)<|qv rfl (vv_loadM (vs := [.func (.func 121) #[] #[], .func (.func 137) #[] #[], .func (.func 53) #[] #[], .func (.func 138) #[] #[]]) agg_122 rfl Bw7 rfl rfl)<|qv rfl (vv_loadM (vs := [.func (.func 121) #[] #[], .func (.func 137) #[] #[], .func (.func 53) #[] #[], .func (.func 138) #[] #[]]) agg_122 rfl Bw7 rfl rfl) ?_
 refine qv rfl (vv_build (cs := [.func (.func 139) #[] #[], .func (.func 140) #[] #[], .func (.func 50) #[] #[], .func (.func 49) #[] #[]]) bs_122 rfl rfl)<|qv rfl (vv_buildA (cs := [.nilFunc, .nilFunc, .nilFunc, .nilFunc, .func (.func 121) #[] #[], .func (.func 137) #[] #[], .func (.func 53) #[] #[], .func (.func 138) #[] #[], .func (.func 121) #[] #[], .func (.func 137) #[] #[], .func (.func 53) #[] #[], .func (.func 138) #[] #[], .func (.func 121) #[] #[], .func (.func 137) #[] #[], .func (.func 53) #[] #[], .func (.func 138) #[] #[], .func (.func 139) #[] #[], .func (.func 140) #[] #[], .func (.func 50) #[] #[], .func (.func 49) #[] #[]]) ba_206 rfl rfl)<|qe rfl (ev_alloc (cs := [.nilFunc, .nilFunc, .nilFunc, .nilFunc, .nilFunc, .nilFunc, .nilFunc, .nilFunc, .nilFunc, .nilFunc, .nilFunc, .nilFunc, .nilFunc, .nilFunc, .nilFunc, .nilFunc, .nilFunc, .nilFunc, .nilFunc, .nilFunc]) zv_206 rfl) ?_
 rintro _ w8 ⟨b8, rfl, hbw8, Bw8, G8⟩
 have z15 := G8.size
 have lt16 := Bw8.lt
 refine qe rfl (ev_stW agg_206 rfl rfl rfl Bw8 rfl rfl) ?_
 rintro _ w9 ⟨Bw9, M9⟩
 have z17 := M9.size
 refine sd_done<|sw_seq ?_
 have X18 := ((((((((((Gr.refl w).trans G1).trans G2).trans G3).trans G4).trans G5).trans G6).md M7).trans G8).md M9)
 refine qj (β := Bool) (rg 14 9) (fun a1 => [(22, .bool a1)]) (fun a1 wr => (epoch_Secret_J1 p0 p1 p2 a1 = some r) ∧ Kz [] w9 wr) ?_ ?_
 · refine qg 9 rfl<|qv rfl (vv_fieldAddr fa_28_0 rfl) ?_
   have Y1 := Gr.trans G5 G6
   have B77 := ((((Bw4.gr Y1).md M7).gr G8).md M9)
   refine qv rfl (vv_load1 (v := bv p1.Kind) one_5 rfl B77 rfl)<|qv rfl (vv_lssB (p := p1.Kind) (q := 1#8) rfl rfl)<|qp rfl (vv_move rfl) (fun c6 => ?_) (fun c6 => ?_)
   · replace hm := iT c6 hm
     refine qk rfl<|qk rfl<|qk rfl<|qk rfl<|qm rfl<|sd_nil ?_
     exact ⟨rfl, true, sbq, hm, kz0⟩
   replace hm := iF c6 hm
   refine qv rfl (vv_fieldAddr fa_28_0 rfl)<|qv rfl (vv_load1 (v := bv p1.Kind) one_5 rfl B77 rfl)<|qv rfl (vv_cvBI cv_5_3 rfl)<|qv rfl (vv_geq (a := un8 p1.Kind) (b := 5) rfl rfl)<|qm rfl<|sd_nil ?_
   exact ⟨rfl, (decide ((5 : Int) ≤ un8 p1.Kind)), sbq, hm, kz0⟩
 clear hm; rintro a1 w10 ⟨hm, K10⟩
 have z19 := K10.size
 unfold epoch_Secret_J1 at hm
 refine sw_cond rfl (fun c1 => ?_) (fun c1 => ?_)
 · replace hm := cnd_t c1 hm
   refine qs 3 rfl<|qv rfl (vv_build (cs := [.nilFunc, .nilFunc, .nilFunc, .nilFunc]) bs_122 rfl rfl) ?_
   have B20 := (((((Bw5.gr G6).md M7).gr G8).md M9).kz K10)
   refine qe rfl (ev_stW agg_122 rfl rfl rfl B20 rfl rfl) ?_
   rintro _ w11 ⟨Bw11, M11⟩
   have z21 := M11.size
   refine qm rfl<|qb<|⟨_, _, rfl, res_2 rfl (rv_cellW agg_122 rfl Bw11 rfl) (rv_tmp rfl), ?_⟩
   refine qm rfl<|qm rfl<|qm rfl<|qe rfl (ev_alloc (cs := [.nilFunc, .nilFunc, .nilFunc, .nilFunc]) zv_122 rfl) ?_
   rintro _ w12 ⟨b12, rfl, hbw12, Bw12, G12⟩
   have z22 := G12.size
   have lt23 := Bw12.lt
   refine qe rfl (ev_stW agg_122 rfl rfl rfl Bw12 rfl rfl) ?_
   rintro _ w13 ⟨Bw13, M13⟩
   have z24 := M13.size
   refine qm rfl<|sd_done<|sw_seq<|qs 2 rfl<|qm rfl<|qv rfl (vv_neq (a := 2) (b := 0) rfl rfl) ?_
   refine sd_done<|sw_condT rfl<|qs 4 rfl<|qv rfl (vv_build (cs := TSecret.cs (TSecret.mk 0 [] (TPoint.mk 0#64 0#64)) (.slice none 0 0)) bs_33 rfl rfl)<|qm rfl ?_
   have Y2 := Gr.trans (Gr.trans G4 G5) G6
   have B25 := ((((((((Bw3.gr Y2).md M7).gr G8).md M9).kz K10).md M11).gr G12).md M13)
   refine qe rfl (ev_stW agg_33 rfl rfl (TSecret.cs_ones _ _ rfl) B25 rfl rfl) ?_
   rintro _ w14 ⟨Bw14, M14⟩
   have z26 := M14.size
   refine qm rfl<|qb ?_
   have X27 := (((((X18.kz K10).md M11).trans G12).md M13).md M14)
   cases hm
   refine ⟨_, _, rfl, res_2 rfl (rv_cellW agg_33 rfl Bw14 rfl) (rv_tmp rfl), ?_⟩
   exact ⟨(.slice none 0 0), 0, 0, rfl, (own_nil _ 0 92 18), ⟨.inl rfl⟩, X27⟩
 replace hm := cnd_f c1 hm
 refine qu<|qs 6 rfl<|qv rfl (vv_fieldAddr fa_28_0 rfl) ?_
 have Y3 := Gr.trans G5 G6
 have B28 := (((((Bw4.gr Y3).md M7).gr G8).md M9).kz K10)
 refine qv rfl (vv_load1 (v := bv p1.Kind) one_5 rfl B28 rfl) ?_
 by_cases c2 : (un8 p1.Kind = 1 ∨ un8 p1.Kind = 2 ∨ un8 p1.Kind = 3)
 · replace hm := ite_t c2 hm
   refine qv rfl (vv_ixJ Tryz.underlying206 (agg_122).siz rfl rfl (by omega)) ?_
   have B29 := (Bw9.kz K10)
   refine qv rfl (vv_loadM (vs := [.func (.func 121) #[] #[], .func (.func 137) #[] #[], .func (.func 53) #[] #[], .func (.func 138) #[] #[]]) agg_122 rfl B29 (by rcases c2 with h | h | h <;> rw [h] <;> rfl) rfl)<|qe rfl (ev_alloc (cs := [.nilFunc, .nilFunc, .nilFunc, .nilFunc]) zv_122 rfl) ?_
   rintro _ w15 ⟨b15, rfl, hbw15, Bw15, G15⟩
   have z30 := G15.size
   have lt31 := Bw15.lt
   refine qe rfl (ev_stW agg_122 rfl rfl rfl Bw15 rfl rfl) ?_
   rintro _ w16 ⟨Bw16, M16⟩
   have z32 := M16.size
   refine sd_done<|sw_seq<|dw [([b5])] [] (.leaf [(0,10),(1,10),(2,10),(3,10),(4,0),(5,0),(6,10)]) ?_
   intro w17 G17 zw17
   refine sdz_leaf ?_
   have B33 := (Bw16.gr G17)
   refine dh 0 rfl rfl (fun w hS => vv_loadM (vs := [.func (.func 121) #[] #[], .func (.func 137) #[] #[], .func (.func 53) #[] #[], .func (.func 138) #[] #[]]) agg_122 rfl (Bx.kp B33 hS) rfl rfl)<|dh 0 rfl rfl (fun w hS => vv_fieldAddr fa_122_0 rfl)<|dh 0 rfl rfl (fun w hS => vv_load1 (v := .func (.func 121) #[] #[]) one_40 rfl (Bx.kp B33 hS) rfl) ?_
   have B34 := (((B28.gr G15).md M16).gr G17)
   refine dh 0 rfl rfl (fun w hS => vv_loadW agg_28 rfl (Bx.kp B34 hS) rfl) ?_
   obtain ⟨x2, hx2, hm⟩ := bnd hm
   refine qz [] rfl (ev_callV en_121 rfl rfl (cover_Check_w hx2)) ⟨fun _ => tk0, trivial⟩ ?_
   rintro _ w18 ⟨rfl, G18⟩
   have z35 := G18.size
   refine kG G18 ?_
   have Y4 := Gr.trans G17 G18
   have B36 := ((((((((Bw5.gr G6).md M7).gr G8).md M9).kz K10).gr G15).md M16).gr Y4)
   refine qz [(1, b5)] rfl (ev_stW agg_122 rfl rfl rfl B36 rfl rfl) ⟨fun _ => tk0, trivial⟩ ?_
   rintro _ w19 ⟨Bw19, M19⟩
   have z37 := M19.size
   refine kM M19 ?_
   have S38 := (((Kp.refl ([b5]) w17).gr G18).md M19)
   refine dn 0 rfl rfl S38<|sd_done<|sw_ret<|⟨_, _, rfl, res_2 rfl (rv_cellW agg_122 rfl Bw19 rfl) (rv_tmp rfl), ?_⟩
   refine qm rfl<|qm rfl<|qm rfl<|qe rfl (ev_alloc (cs := [.nilFunc, .nilFunc, .nilFunc, .nilFunc]) zv_122 rfl) ?_
   rintro _ w20 ⟨b20, rfl, hbw20, Bw20, G20⟩
   have z39 := G20.size
   have lt40 := Bw20.lt
   refine qe rfl (ev_stW agg_122 rfl rfl rfl Bw20 rfl rfl) ?_
   rintro _ w21 ⟨Bw21, M21⟩
   have z41 := M21.size
   refine qm rfl<|sd_done<|sw_seq<|qs 2 rfl<|qm rfl<|qv rfl (vv_neq (a := x2) (b := 0) rfl rfl) ?_
   refine sd_done<|sw_cond rfl (fun c3 => ?_) (fun c3 => ?_)
   · replace hm := iT c3 hm
     refine qs 4 rfl<|qv rfl (vv_build (cs := TSecret.cs (TSecret.mk 0 [] (TPoint.mk 0#64 0#64)) (.slice none 0 0)) bs_33 rfl rfl)<|qm rfl ?_
     have Y5 := Gr.trans G4 Y3
     have B42 := (((((((((((Bw3.gr Y5).md M7).gr G8).md M9).kz K10).gr G15).md M16).gr Y4).md M19).gr G20).md M21)
     refine qe rfl (ev_stW agg_33 rfl rfl (TSecret.cs_ones _ _ rfl) B42 rfl rfl) ?_
     rintro _ w22 ⟨Bw22, M22⟩
     have z43 := M22.size
     refine qm rfl<|qb ?_
     have X44 := ((((((((X18.kz K10).trans G15).md M16).trans Y4).md M19).trans G20).md M21).md M22)
     cases hm
     refine ⟨_, _, rfl, res_2 rfl (rv_cellW agg_33 rfl Bw22 rfl) (rv_tmp rfl), ?_⟩
     exact ⟨(.slice none 0 0), 0, 0, rfl, (own_nil _ 0 92 18), ⟨.inl rfl⟩, X44⟩
   replace hm := iF c3 hm
   refine qu<|qs 10 rfl<|qv rfl (vv_fieldAddr fa_122_1 rfl)<|qv rfl (vv_load1 (v := .func (.func 137) #[] #[]) one_36 rfl Bw21 rfl) ?_
   have Y6 := Gr.trans (Gr.trans (Gr.trans G2 G3) G4) Y3
   have B45 := (((((((((((Bw1.gr Y6).md M7).gr G8).md M9).kz K10).gr G15).md M16).gr Y4).md M19).gr G20).md M21)
   refine qv rfl (vv_loadW agg_23 rfl B45 rfl) ?_
   have Y7 := Gr.trans G4 Y3
   have B46 := (((((((((((B7.gr Y7).md M7).gr G8).md M9).kz K10).gr G15).md M16).gr Y4).md M19).gr G20).md M21)
   refine qv rfl (vv_loadW agg_28 rfl B46 rfl)<|qm rfl ?_
   obtain ⟨x3, hx3, hm⟩ := bnd hm
   refine qe rfl (ev_callV en_137 rfl rfl (cover_Secret_w hx3)) ?_
   rintro _ w23 ⟨u23_r0_1, z23_r0_1, g23_r0_1, rfl, O23_r0_1, f23_r0_1, G23⟩
   have z47 := G23.size
   have lt48 := O23_r0_1.lth
   refine qm rfl<|qm rfl ?_
   have B49 := ((((((((((((Bw3.gr Y7).md M7).gr G8).md M9).kz K10).gr G15).md M16).gr Y4).md M19).gr G20).md M21).gr G23)
   refine qe rfl (ev_stW agg_33 rfl rfl (TSecret.cs_ones _ _ (Own.oneB O23_r0_1)) B49 rfl rfl) ?_
   rintro _ w24 ⟨Bw24, M24⟩
   have z50 := M24.size
   refine qm rfl<|sd_done<|sw_ret ?_
   have B51 := (O23_r0_1.md M24 (pb_0 f23_r0_1))
   have X52 := (((((((((X18.kz K10).trans G15).md M16).trans Y4).md M19).trans G20).md M21).trans G23).md M24)
   cases hm
   refine ⟨_, _, rfl, res_2 rfl (rv_cellW agg_33 rfl Bw24 rfl) (rv_tmp rfl), ?_⟩
   exact ⟨u23_r0_1, z23_r0_1, g23_r0_1, rfl, B51, ⟨(pv_0 (A := (fun x => w.heap.size ≤ x)) f23_r0_1)⟩, X52⟩
 replace hm := ite_f c2 hm
 by_cases c4 : (un8 p1.Kind = 4)
 · replace hm := ite_t c4 hm
   refine qv rfl (vv_ixJ Tryz.underlying206 (agg_122).siz rfl rfl (by omega)) ?_
   have B53 := (Bw9.kz K10)
   refine qv rfl (vv_loadM (vs := [.func (.func 139) #[] #[], .func (.func 140) #[] #[], .func (.func 50) #[] #[], .func (.func 49) #[] #[]]) agg_122 rfl B53 (by rw [c4]; rfl) rfl)<|qe rfl (ev_alloc (cs := [.nilFunc, .nilFunc, .nilFunc, .nilFunc]) zv_122 rfl) ?_
   rintro _ w25 ⟨b25, rfl, hbw25, Bw25, G25⟩
   have z54 := G25.size
   have lt55 := Bw25.lt
   refine qe rfl (ev_stW agg_122 rfl rfl rfl Bw25 rfl rfl) ?_
   rintro _ w26 ⟨Bw26, M26⟩
   have z56 := M26.size
   refine sd_done<|sw_seq<|dw [([b5])] [] (.leaf [(0,10),(1,10),(2,10),(3,10),(4,0),(5,0),(6,10)]) ?_
   intro w27 G27 zw27
   refine sdz_leaf ?_
   have B57 := (Bw26.gr G27)
   refine dh 0 rfl rfl (fun w hS => vv_loadM (vs := [.func (.func 139) #[] #[], .func (.func 140) #[] #[], .func (.func 50) #[] #[], .func (.func 49) #[] #[]]) agg_122 rfl (Bx.kp B57 hS) rfl rfl)<|dh 0 rfl rfl (fun w hS => vv_fieldAddr fa_122_0 rfl)<|dh 0 rfl rfl (fun w hS => vv_load1 (v := .func (.func 139) #[] #[]) one_40 rfl (Bx.kp B57 hS) rfl) ?_
   have B58 := (((B28.gr G25).md M26).gr G27)
   refine dh 0 rfl rfl (fun w hS => vv_loadW agg_28 rfl (Bx.kp B58 hS) rfl) ?_
   obtain ⟨x4, hx4, hm⟩ := bnd hm
   refine qz [] rfl (ev_callV en_139 rfl rfl (poly_Check_w hx4)) ⟨fun _ => tk0, trivial⟩ ?_
   rintro _ w28 ⟨rfl, G28⟩
   have z59 := G28.size
   refine kG G28 ?_
   have Y8 := Gr.trans G27 G28
   have B60 := ((((((((Bw5.gr G6).md M7).gr G8).md M9).kz K10).gr G25).md M26).gr Y8)
   refine qz [(1, b5)] rfl (ev_stW agg_122 rfl rfl rfl B60 rfl rfl) ⟨fun _ => tk0, trivial⟩ ?_
   rintro _ w29 ⟨Bw29, M29⟩
   have z61 := M29.size
   refine kM M29 ?_
   have S62 := (((Kp.refl ([b5]) w27).gr G28).md M29)
   refine dn 0 rfl rfl S62<|sd_done<|sw_ret<|⟨_, _, rfl, res_2 rfl (rv_cellW agg_122 rfl Bw29 rfl) (rv_tmp rfl), ?_⟩
   refine qm rfl<|qm rfl<|qm rfl<|qe rfl (ev_alloc (cs := [.nilFunc, .nilFunc, .nilFunc, .nilFunc]) zv_122 rfl) ?_
   rintro _ w30 ⟨b30, rfl, hbw30, Bw30, G30⟩
   have z63 := G30.size
   have lt64 := Bw30.lt
   refine qe rfl (ev_stW agg_122 rfl rfl rfl Bw30 rfl rfl) ?_
   rintro _ w31 ⟨Bw31, M31⟩
   have z65 := M31.size
   refine qm rfl<|sd_done<|sw_seq<|qs 2 rfl<|qm rfl<|qv rfl (vv_neq (a := x4) (b := 0) rfl rfl) ?_
   refine sd_done<|sw_cond rfl (fun c5 => ?_) (fun c5 => ?_)
   · replace hm := iT c5 hm
     refine qs 4 rfl<|qv rfl (vv_build (cs := TSecret.cs (TSecret.mk 0 [] (TPoint.mk 0#64 0#64)) (.slice none 0 0)) bs_33 rfl rfl)<|qm rfl ?_
     have Y9 := Gr.trans G4 Y3
     have B66 := (((((((((((Bw3.gr Y9).md M7).gr G8).md M9).kz K10).gr G25).md M26).gr Y8).md M29).gr G30).md M31)
     refine qe rfl (ev_stW agg_33 rfl rfl (TSecret.cs_ones _ _ rfl) B66 rfl rfl) ?_
     rintro _ w32 ⟨Bw32, M32⟩
     have z67 := M32.size
     refine qm rfl<|qb ?_
     have X68 := ((((((((X18.kz K10).trans G25).md M26).trans Y8).md M29).trans G30).md M31).md M32)
     cases hm
     refine ⟨_, _, rfl, res_2 rfl (rv_cellW agg_33 rfl Bw32 rfl) (rv_tmp rfl), ?_⟩
     exact ⟨(.slice none 0 0), 0, 0, rfl, (own_nil _ 0 92 18), ⟨.inl rfl⟩, X68⟩
   replace hm := iF c5 hm
   refine qu<|qs 10 rfl<|qv rfl (vv_fieldAddr fa_122_1 rfl)<|qv rfl (vv_load1 (v := .func (.func 140) #[] #[]) one_36 rfl Bw31 rfl) ?_
   have Y10 := Gr.trans (Gr.trans (Gr.trans G2 G3) G4) Y3
   have B69 := (((((((((((Bw1.gr Y10).md M7).gr G8).md M9).kz K10).gr G25).md M26).gr Y8).md M29).gr G30).md M31)
   refine qv rfl (vv_loadW agg_23 rfl B69 rfl) ?_
   have Y11 := Gr.trans G4 Y3
   have B70 := (((((((((((B7.gr Y11).md M7).gr G8).md M9).kz K10).gr G25).md M26).gr Y8).md M29).gr G30).md M31)
   refine qv rfl (vv_loadW agg_28 rfl B70 rfl)<|qm rfl ?_
   obtain ⟨x5, hx5, hm⟩ := bnd hm
   refine qe rfl (ev_callV en_140 rfl rfl (poly_Secret_w hx5)) ?_
   rintro _ w33 ⟨u33_r0_1, z33_r0_1, g33_r0_1, rfl, O33_r0_1, f33_r0_1, G33⟩
   have z71 := G33.size
   have lt72 := O33_r0_1.lth
   refine qm rfl<|qm rfl ?_
   have B73 := ((((((((((((Bw3.gr Y11).md M7).gr G8).md M9).kz K10).gr G25).md M26).gr Y8).md M29).gr G30).md M31).gr G33)
   refine qe rfl (ev_stW agg_33 rfl rfl (TSecret.cs_ones _ _ (Own.oneB O33_r0_1)) B73 rfl rfl) ?_
   rintro _ w34 ⟨Bw34, M34⟩
   have z74 := M34.size
   refine qm rfl<|sd_done<|sw_ret ?_
   have B75 := (O33_r0_1.md M34 (pb_0 f33_r0_1))
   have X76 := (((((((((X18.kz K10).trans G25).md M26).trans Y8).md M29).trans G30).md M31).trans G33).md M34)
   cases hm
   refine ⟨_, _, rfl, res_2 rfl (rv_cellW agg_33 rfl Bw34 rfl) (rv_tmp rfl), ?_⟩
   exact ⟨u33_r0_1, z33_r0_1, g33_r0_1, rfl, B75, ⟨(pv_0 (A := (fun x => w.heap.size ≤ x)) f33_r0_1)⟩, X76⟩
 replace hm := ite_f c4 hm
 cases hm
theorem epoch_New_w {p0 p1 p2 p3 p4 r} (hm : epoch_New p0 p1 p2 p3 p4 = some r) {w : World} :
    Calls Tryz.prog 35 [kv p0, .agg (TScheme.cs p1).toArray, .agg (TAir.cs p2).toArray, .int .i64 p3, .int .i64 p4].toArray w fun e w' => ∃ v, e = .returned v ∧ (∃ ur0_1 zr0_1 gr0_1, v = .tuple [.agg (TReceiver.cs r.1 ur0_1).toArray, .int .i64 r.2].toArray ∧ Own w' zr0_1 gr0_1 92 18 ur0_1 (r.1.Secret.Labels.map TLabel.cs) ∧ Hdn (zr0_1 = 0 ∨ w.heap.size ≤ gr0_1) ∧ Gr w w') := by
 unfold epoch_New at hm
 refine calls_of_sw 48 Tryz.func35 rfl rfl rfl<|qs 5 rfl<|qe rfl (ev_box (cs := kb p0) rfl rfl) ?_
 rintro _ w1 ⟨b1, rfl, hbw1, Bw1, G1⟩
 have z1 := G1.size
 have lt2 := Bw1.lt
 refine qe rfl (ev_box (cs := TScheme.cs p1) rfl rfl) ?_
 rintro _ w2 ⟨b2, rfl, hbw2, Bw2, G2⟩
 have z3 := G2.size
 have lt4 := Bw2.lt
 refine qe rfl (ev_box (cs := TAir.cs p2) rfl rfl) ?_
 rintro _ w3 ⟨b3, rfl, hbw3, Bw3, G3⟩
 have z5 := G3.size
 have lt6 := Bw3.lt
 refine qe rfl (ev_alloc (cs := TReceiver.cs (TReceiver.mk (TSecret.mk 0 [] (TPoint.mk 0#64 0#64)) 0 (TA2_Slot.mk (TSlot.mk false 0 k0) (TSlot.mk false 0 k0))) (.slice none 0 0)) zv_78 rfl) ?_
 rintro _ w4 ⟨b4, rfl, hbw4, Bw4, G4⟩
 have z7 := G4.size
 have lt8 := Bw4.lt
 refine qm rfl<|sd_done<|sw_seq<|qs 4 rfl ?_
 have Y1 := Gr.trans G3 G4
 have B9 := (Bw2.gr Y1)
 refine qv rfl (vv_loadW agg_28 rfl B9 rfl) ?_
 have B10 := (Bw3.gr G4)
 refine qv rfl (vv_loadW agg_65 rfl B10 rfl) ?_
 obtain ⟨x1, hx1, hm⟩ := bnd hm
 refine qe rfl (eC en_81 rfl (epoch_both_w hx1)) ?_
 rintro _ w5 ⟨rfl, G5⟩
 have z11 := G5.size
 refine qm rfl<|qd 2 rfl<|qm rfl<|qv rfl (vv_neq (a := x1) (b := 0) rfl rfl)<|sd_done ?_
 refine sw_cond rfl (fun c1 => ?_) (fun c1 => ?_)
 · replace hm := iT c1 hm
   refine qs 4 rfl<|qv rfl (vv_build (cs := TReceiver.cs (TReceiver.mk (TSecret.mk 0 [] (TPoint.mk 0#64 0#64)) 0 (TA2_Slot.mk (TSlot.mk false 0 k0) (TSlot.mk false 0 k0))) (.slice none 0 0)) bs_78 rfl (by kernel_rfl))<|qm rfl ?_
   have B12 := (Bw4.gr G5)
   refine qe rfl (ev_stW agg_78 rfl rfl (TReceiver.cs_ones _ _ rfl) B12 rfl rfl) ?_
   rintro _ w6 ⟨Bw6, M6⟩
   have z13 := M6.size
   refine qm rfl<|qb ?_
   have Y2 := Gr.trans (Gr.trans (Gr.trans G1 G2) Y1) G5
   have X14 := (((Gr.refl w).trans Y2).md M6)
   cases hm
   refine ⟨_, _, rfl, res_2 rfl (rv_cellW agg_78 rfl Bw6 rfl) (rv_tmp rfl), ?_⟩
   exact ⟨(.slice none 0 0), 0, 0, rfl, (own_nil _ 0 92 18), ⟨.inl rfl⟩, X14⟩
 replace hm := iF c1 hm
 refine qu<|sw_seq ?_
 have Y3 := Gr.trans (Gr.trans (Gr.trans G1 G2) Y1) G5
 have X15 := ((Gr.refl w).trans Y3)
 refine qj (β := Bool) (rg 22 11) (fun a2 => [(32, .bool a2)]) (fun a2 wr => (epoch_New_J1 p0 p1 p3 p4 a2 = some r) ∧ Kz [] w5 wr) ?_ ?_
 · refine qg 11 rfl<|qm rfl<|qv rfl (vv_fieldAddr fa_65_3 rfl) ?_
   have B36 := (B10.gr G5)
   refine qv rfl (vv_load1 (v := .int .i64 p2.Drift) one_3 rfl B36 rfl)<|qv rfl (vv_negI (a := p2.Drift) rfl)<|qv rfl (vv_lss (a := p4) (b := w64 (-p2.Drift)) rfl rfl)<|qp rfl (vv_move rfl) (fun c4 => ?_) (fun c4 => ?_)
   · replace hm := iT c4 hm
     refine qk rfl<|qk rfl<|qk rfl<|qk rfl<|qm rfl<|sd_nil ?_
     exact ⟨rfl, true, sbq, hm, kz0⟩
   replace hm := iF c4 hm
   refine qm rfl<|qv rfl (vv_fieldAddr fa_65_3 rfl)<|qv rfl (vv_load1 (v := .int .i64 p2.Drift) one_3 rfl B36 rfl)<|qv rfl (vv_gtr (a := p4) (b := p2.Drift) rfl rfl)<|qm rfl<|sd_nil ?_
   exact ⟨rfl, (decide (p2.Drift < p4)), sbq, hm, kz0⟩
 clear hm; rintro a2 w7 ⟨hm, K7⟩
 have z16 := K7.size
 unfold epoch_New_J1 at hm
 refine sw_cond rfl (fun c2 => ?_) (fun c2 => ?_)
 · replace hm := cnd_t c2 hm
   refine qs 3 rfl<|qv rfl (vv_build (cs := TReceiver.cs (TReceiver.mk (TSecret.mk 0 [] (TPoint.mk 0#64 0#64)) 0 (TA2_Slot.mk (TSlot.mk false 0 k0) (TSlot.mk false 0 k0))) (.slice none 0 0)) bs_78 rfl (by kernel_rfl)) ?_
   have B17 := ((Bw4.gr G5).kz K7)
   refine qe rfl (ev_stW agg_78 rfl rfl (TReceiver.cs_ones _ _ rfl) B17 rfl rfl) ?_
   rintro _ w8 ⟨Bw8, M8⟩
   have z18 := M8.size
   refine qm rfl<|qb ?_
   have X19 := ((X15.kz K7).md M8)
   cases hm
   refine ⟨_, _, rfl, res_2 rfl (rv_cellW agg_78 rfl Bw8 rfl) (rv_tmp rfl), ?_⟩
   exact ⟨(.slice none 0 0), 0, 0, rfl, (own_nil _ 0 92 18), ⟨.inl rfl⟩, X19⟩
 replace hm := cnd_f c2 hm
 refine qu<|qs 10 rfl ?_
 have Y4 := Gr.trans (Gr.trans G2 Y1) G5
 have B20 := ((Bw1.gr Y4).kz K7)
 refine qv rfl (vv_loadW agg_23 rfl B20 rfl) ?_
 have B21 := ((B9.gr G5).kz K7)
 refine qv rfl (vv_loadW agg_28 rfl B21 rfl)<|qm rfl ?_
 obtain ⟨x3, hx3, hm⟩ := bnd hm
 refine qe rfl (eC en_13 rfl (epoch_Secret_w hx3)) ?_
 rintro _ w9 ⟨u9_r0_1, z9_r0_1, g9_r0_1, rfl, O9_r0_1, f9_r0_1, G9⟩
 have z22 := G9.size
 have lt23 := O9_r0_1.lth
 refine qm rfl<|qm rfl<|qm rfl<|qe rfl (ev_alloc (cs := TSecret.cs (TSecret.mk 0 [] (TPoint.mk 0#64 0#64)) (.slice none 0 0)) zv_33 rfl) ?_
 rintro _ w10 ⟨b10, rfl, hbw10, Bw10, G10⟩
 have z24 := G10.size
 have lt25 := Bw10.lt
 have B26 := (O9_r0_1.gr G10)
 refine qe rfl (ev_stW agg_33 rfl rfl (TSecret.cs_ones _ _ (Own.oneB B26)) Bw10 rfl rfl) ?_
 rintro _ w11 ⟨Bw11, M11⟩
 have z27 := M11.size
 refine qm rfl<|sd_done<|sw_seq<|qs 2 rfl<|qm rfl<|qv rfl (vv_neq (a := x3.2) (b := 0) rfl rfl) ?_
 refine sd_done<|sw_cond rfl (fun c3 => ?_) (fun c3 => ?_)
 · replace hm := iT c3 hm
   refine qs 4 rfl<|qv rfl (vv_build (cs := TReceiver.cs (TReceiver.mk (TSecret.mk 0 [] (TPoint.mk 0#64 0#64)) 0 (TA2_Slot.mk (TSlot.mk false 0 k0) (TSlot.mk false 0 k0))) (.slice none 0 0)) bs_78 rfl (by kernel_rfl))<|qm rfl ?_
   have Y5 := Gr.trans G9 G10
   have B28 := ((((Bw4.gr G5).kz K7).gr Y5).md M11)
   refine qe rfl (ev_stW agg_78 rfl rfl (TReceiver.cs_ones _ _ rfl) B28 rfl rfl) ?_
   rintro _ w12 ⟨Bw12, M12⟩
   have z29 := M12.size
   refine qm rfl<|qb ?_
   have X30 := ((((X15.kz K7).trans Y5).md M11).md M12)
   cases hm
   refine ⟨_, _, rfl, res_2 rfl (rv_cellW agg_78 rfl Bw12 rfl) (rv_tmp rfl), ?_⟩
   exact ⟨(.slice none 0 0), 0, 0, rfl, (own_nil _ 0 92 18), ⟨.inl rfl⟩, X30⟩
 replace hm := iF c3 hm
 refine qu<|qs 5 rfl<|qv rfl (vv_loadW agg_33 rfl Bw11 rfl)<|qm rfl<|qv rfl (vv_build (cs := TReceiver.cs (TReceiver.mk x3.1 p4 (TA2_Slot.mk (TSlot.mk false 0 k0) (TSlot.mk false 0 k0))) u9_r0_1) bs_78 rfl (fill_M rfl rfl rfl (fill_M rfl rfl rfl (by kernel_rfl)))) ?_
 have Y6 := Gr.trans G9 G10
 have B31 := ((((Bw4.gr G5).kz K7).gr Y6).md M11)
 have B32 := (B26.md M11 (pb_lt lt23))
 refine qe rfl (ev_stW agg_78 rfl rfl (TReceiver.cs_ones _ _ (Own.oneB B32)) B31 rfl rfl) ?_
 rintro _ w13 ⟨Bw13, M13⟩
 have z33 := M13.size
 refine qm rfl<|sd_done<|sw_ret ?_
 have B34 := (B32.md M13 (pb_0 f9_r0_1))
 have X35 := ((((X15.kz K7).trans Y6).md M11).md M13)
 cases hm
 refine ⟨_, _, rfl, res_2 rfl (rv_cellW agg_78 rfl Bw13 rfl) (rv_tmp rfl), ?_⟩
 exact ⟨u9_r0_1, z9_r0_1, g9_r0_1, rfl, B34, ⟨(pv_0 (A := (fun x => w.heap.size ≤ x)) f9_r0_1)⟩, X35⟩
end Go.Proofs.YtjdffpglgkefmaaGreat.Mx
