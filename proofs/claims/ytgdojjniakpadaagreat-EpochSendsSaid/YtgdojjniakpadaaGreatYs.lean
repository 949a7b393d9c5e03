/- Walks that follow mirrors: Ys. Printed by mx.py. -/
import Derived.Test.YtgdojjniakpadaaGreatYc
import Derived.Test.YtgdojjniakpadaaGreatZd
set_option linter.unusedVariables false
set_option linter.unusedSimpArgs false
set_option maxRecDepth 100000
set_option maxHeartbeats 2000000
namespace Go.Proofs.YtgdojjniakpadaaGreat.Mx
open Go Go.RowKit Go.Sx
theorem zv_38 : ZV Tryz.prog 38 (.agg [.int .u8 0, .int .i64 0, .slice none 0 0, .int .u64 0, .slice none 0 0, .int .u8 0, .int .u8 0, .int .u8 0, .int .u8 0, .int .u8 0, .int .u8 0, .int .u8 0, .int .u8 0, .int .u8 0, .int .u8 0, .int .u8 0, .int .u8 0, .int .u8 0, .int .u8 0, .int .u8 0, .int .u8 0, .int .u8 0, .int .u8 0, .int .u8 0, .int .u8 0, .int .u8 0, .int .u8 0, .int .u8 0, .int .u8 0, .int .u8 0, .int .u8 0, .int .u8 0, .int .u8 0, .int .u8 0, .int .u8 0, .int .u8 0, .int .u8 0, .int .u8 0, .int .u64 0, .slice none 0 0, .int .u8 0, .int .u8 0, .int .u8 0, .int .u8 0, .int .u8 0, .int .u8 0, .int .u8 0, .int .u8 0, .int .u8 0, .int .u8 0, .int .u8 0, .int .u8 0, .int .u8 0, .int .u8 0, .int .u8 0, .int .u8 0].toArray) := fun _ => by kernel_rfl
theorem en_85 : En Tryz.prog 85 := fun _ _ => by kernel_rfl
theorem zv_180 : ZV Tryz.prog 180 (.agg [.nilFunc, .nilFunc, .nilFunc, .nilFunc].toArray) := fun _ => by kernel_rfl
theorem one_85 : One Tryz.prog 85 := fun _ => ⟨by kernel_rfl, by kernel_rfl⟩
theorem one_107 : One Tryz.prog 107 := fun _ => ⟨by kernel_rfl, by kernel_rfl⟩
theorem one_110 : One Tryz.prog 110 := fun _ => ⟨by kernel_rfl, by kernel_rfl⟩
theorem one_178 : One Tryz.prog 178 := fun _ => ⟨by kernel_rfl, by kernel_rfl⟩
theorem bs_180 : BS Tryz.prog 180 (fun i => [(0, 1), (1, 1), (2, 1), (3, 1)][i]?) [.nilFunc, .nilFunc, .nilFunc, .nilFunc] := bs_mk Tryz.underlying180 zv_180 ⟨rfl, (one_85).siz, rfl, (one_107).siz, rfl, (one_110).siz, rfl, (one_178).siz, trivial⟩
theorem agg_180 : Agg Tryz.prog 180 4 := fun _ => ⟨by kernel_rfl, by kernel_rfl⟩
theorem zv_228 : ZV Tryz.prog 228 (.agg [.nilFunc, .nilFunc, .nilFunc, .nilFunc, .nilFunc, .nilFunc, .nilFunc, .nilFunc, .nilFunc, .nilFunc, .nilFunc, .nilFunc, .nilFunc, .nilFunc, .nilFunc, .nilFunc, .nilFunc, .nilFunc, .nilFunc, .nilFunc].toArray) := fun _ => by kernel_rfl
theorem ba_228 : BA Tryz.prog 228 4 [.nilFunc, .nilFunc, .nilFunc, .nilFunc, .nilFunc, .nilFunc, .nilFunc, .nilFunc, .nilFunc, .nilFunc, .nilFunc, .nilFunc, .nilFunc, .nilFunc, .nilFunc, .nilFunc, .nilFunc, .nilFunc, .nilFunc, .nilFunc] := ⟨_, _, Tryz.underlying228, (agg_180).siz, zv_228⟩
theorem agg_228 : Agg Tryz.prog 228 20 := fun _ => ⟨by kernel_rfl, by kernel_rfl⟩
theorem cv_5_3 : CV Tryz.prog 5 3 .i64 := fun _ _ _ => by kernel_rfl
theorem fa_180_0 : FA Tryz.prog 180 0 0 := fun _ _ _ => by kernel_rfl
theorem en_60 : En Tryz.prog 60 := fun _ _ => by kernel_rfl
theorem en_210 : En Tryz.prog 210 := fun _ _ => by kernel_rfl
theorem en_211 : En Tryz.prog 211 := fun _ _ => by kernel_rfl
theorem fa_180_3 : FA Tryz.prog 180 3 3 := fun _ _ _ => by kernel_rfl
theorem en_38 : En Tryz.prog 38 := fun _ _ => by kernel_rfl
theorem en_131 : En Tryz.prog 131 := fun _ _ => by kernel_rfl
theorem en_132 : En Tryz.prog 132 := fun _ _ => by kernel_rfl
theorem en_135 : En Tryz.prog 135 := fun _ _ => by kernel_rfl
theorem en_42 : En Tryz.prog 42 := fun _ _ => by kernel_rfl
theorem one_32 : One Tryz.prog 32 := fun _ => ⟨by kernel_rfl, by kernel_rfl⟩
theorem bs_38 : BS Tryz.prog 38 (fun i => [(0, 1), (1, 1), (2, 35), (37, 1), (38, 1), (39, 1), (40, 16)][i]?) [.int .u8 0, .int .i64 0, .slice none 0 0, .int .u64 0, .slice none 0 0, .int .u8 0, .int .u8 0, .int .u8 0, .int .u8 0, .int .u8 0, .int .u8 0, .int .u8 0, .int .u8 0, .int .u8 0, .int .u8 0, .int .u8 0, .int .u8 0, .int .u8 0, .int .u8 0, .int .u8 0, .int .u8 0, .int .u8 0, .int .u8 0, .int .u8 0, .int .u8 0, .int .u8 0, .int .u8 0, .int .u8 0, .int .u8 0, .int .u8 0, .int .u8 0, .int .u8 0, .int .u8 0, .int .u8 0, .int .u8 0, .int .u8 0, .int .u8 0, .int .u8 0, .int .u64 0, .slice none 0 0, .int .u8 0, .int .u8 0, .int .u8 0, .int .u8 0, .int .u8 0, .int .u8 0, .int .u8 0, .int .u8 0, .int .u8 0, .int .u8 0, .int .u8 0, .int .u8 0, .int .u8 0, .int .u8 0, .int .u8 0, .int .u8 0] := bs_mk Tryz.underlying38 zv_38 ⟨rfl, (one_5).siz, rfl, (one_3).siz, rfl, (agg_36).siz, rfl, (one_5).siz, rfl, (one_24).siz, rfl, (one_32).siz, rfl, (agg_23).siz, trivial⟩
theorem agg_38 : Agg Tryz.prog 38 56 := fun _ => ⟨by kernel_rfl, by kernel_rfl⟩
theorem zv_214 : ZV Tryz.prog 214 (.agg [.slice none 0 0].toArray) := fun _ => by kernel_rfl
theorem bs_214 : BS Tryz.prog 214 (fun i => [(0, 1)][i]?) [.slice none 0 0] := bs_mk Tryz.underlying214 zv_214 ⟨rfl, (one_32).siz, trivial⟩
theorem fa_38_0 : FA Tryz.prog 38 0 0 := fun _ _ _ => by kernel_rfl
theorem fa_214_0 : FA Tryz.prog 214 0 0 := fun _ _ _ => by kernel_rfl
theorem cv_24_5 : CV Tryz.prog 24 5 .u8 := fun _ _ _ => by kernel_rfl
theorem zv_5 : ZV Tryz.prog 5 (.int .u8 0) := fun _ => by kernel_rfl
theorem bsl_32_1 : BSl Tryz.prog 32 1 5 1 [.int .u8 0] := bsl_mk Tryz.underlying32 (one_5).siz zv_5 rfl rfl (by kernel_rfl)
theorem apt_32 : ApT Tryz.prog 32 5 1 1 := apt_mk Tryz.underlying32 rfl (by kernel_rfl)
theorem en_112 : En Tryz.prog 112 := fun _ _ => by kernel_rfl
theorem fa_38_3 : FA Tryz.prog 38 3 37 := fun _ _ _ => by kernel_rfl
theorem fa_38_4 : FA Tryz.prog 38 4 38 := fun _ _ _ => by kernel_rfl
theorem fa_38_5 : FA Tryz.prog 38 5 39 := fun _ _ _ => by kernel_rfl
theorem fa_38_1 : FA Tryz.prog 38 1 1 := fun _ _ _ => by kernel_rfl
theorem fa_38_2 : FA Tryz.prog 38 2 2 := fun _ _ _ => by kernel_rfl
theorem fa_173_0 : FA Tryz.prog 173 0 0 := fun _ _ _ => by kernel_rfl
theorem fa_173_1 : FA Tryz.prog 173 1 2 := fun _ _ _ => by kernel_rfl
theorem en_113 : En Tryz.prog 113 := fun _ _ => by kernel_rfl
theorem fa_50_0 : FA Tryz.prog 50 0 0 := fun _ _ _ => by kernel_rfl
theorem fa_50_1 : FA Tryz.prog 50 1 1 := fun _ _ _ => by kernel_rfl
theorem fa_36_4 : FA Tryz.prog 36 4 19 := fun _ _ _ => by kernel_rfl
theorem eqc_23 : EqC Tryz.prog 2 23 [.i .u8, .i .u8, .i .u8, .i .u8, .i .u8, .i .u8, .i .u8, .i .u8, .i .u8, .i .u8, .i .u8, .i .u8, .i .u8, .i .u8, .i .u8, .i .u8] := eqc_array (ks := [.i .u8]) Tryz.underlying23 (infoE (by kernel_rfl)).choose_spec (by kernel_rfl) agg_23 eqc_5
theorem eqt_23 : EqT Tryz.prog 23 [.i .u8, .i .u8, .i .u8, .i .u8, .i .u8, .i .u8, .i .u8, .i .u8, .i .u8, .i .u8, .i .u8, .i .u8, .i .u8, .i .u8, .i .u8, .i .u8] := ⟨by kernel_rfl, agg_23, 2, by decide, eqc_23⟩
theorem en_111 : En Tryz.prog 111 := fun _ _ => by kernel_rfl
theorem en_110 : En Tryz.prog 110 := fun _ _ => by kernel_rfl
theorem en_109 : En Tryz.prog 109 := fun _ _ => by kernel_rfl
theorem en_52 : En Tryz.prog 52 := fun _ _ => by kernel_rfl
theorem en_51 : En Tryz.prog 51 := fun _ _ => by kernel_rfl
theorem en_44 : En Tryz.prog 44 := fun _ _ => by kernel_rfl
theorem fa_38_6 : FA Tryz.prog 38 6 40 := fun _ _ _ => by kernel_rfl
theorem en_172 : En Tryz.prog 172 := fun _ _ => by kernel_rfl
theorem en_173 : En Tryz.prog 173 := fun _ _ => by kernel_rfl
theorem en_98 : En Tryz.prog 98 := fun _ _ => by kernel_rfl
theorem en_65 : En Tryz.prog 65 := fun _ _ => by kernel_rfl
theorem en_47 : En Tryz.prog 47 := fun _ _ => by kernel_rfl
theorem en_99 : En Tryz.prog 99 := fun _ _ => by kernel_rfl
theorem en_100 : En Tryz.prog 100 := fun _ _ => by kernel_rfl
theorem en_101 : En Tryz.prog 101 := fun _ _ => by kernel_rfl
theorem en_45 : En Tryz.prog 45 := fun _ _ => by kernel_rfl
theorem cv_3_155 : CV Tryz.prog 3 155 .u64 := fun _ _ _ => by kernel_rfl
theorem en_186 : En Tryz.prog 186 := fun _ _ => by kernel_rfl
theorem cv_3_5 : CV Tryz.prog 3 5 .u8 := fun _ _ _ => by kernel_rfl
theorem bsl_32_2 : BSl Tryz.prog 32 2 5 1 [.int .u8 0, .int .u8 0] := bsl_mk Tryz.underlying32 (one_5).siz zv_5 rfl rfl (by kernel_rfl)
theorem en_182 : En Tryz.prog 182 := fun _ _ => by kernel_rfl
theorem en_289 : En Tryz.prog 289 := fun _ _ => by kernel_rfl
theorem en_184 : En Tryz.prog 184 := fun _ _ => by kernel_rfl
theorem en_183 : En Tryz.prog 183 := fun _ _ => by kernel_rfl
theorem en_104 : En Tryz.prog 104 := fun _ _ => by kernel_rfl
theorem en_102 : En Tryz.prog 102 := fun _ _ => by kernel_rfl
theorem en_46 : En Tryz.prog 46 := fun _ _ => by kernel_rfl
theorem agg_30 : Agg Tryz.prog 30 5 := fun _ => ⟨by kernel_rfl, by kernel_rfl⟩
theorem fa_30_1 : FA Tryz.prog 30 1 1 := fun _ _ _ => by kernel_rfl
theorem fa_30_0 : FA Tryz.prog 30 0 0 := fun _ _ _ => by kernel_rfl
theorem fa_30_2 : FA Tryz.prog 30 2 2 := fun _ _ _ => by kernel_rfl
theorem fa_30_3 : FA Tryz.prog 30 3 3 := fun _ _ _ => by kernel_rfl
theorem fa_30_4 : FA Tryz.prog 30 4 4 := fun _ _ _ => by kernel_rfl
theorem en_26 : En Tryz.prog 26 := fun _ _ => by kernel_rfl
theorem en_106 : En Tryz.prog 106 := fun _ _ => by kernel_rfl
theorem en_105 : En Tryz.prog 105 := fun _ _ => by kernel_rfl
theorem en_48 : En Tryz.prog 48 := fun _ _ => by kernel_rfl
theorem en_49 : En Tryz.prog 49 := fun _ _ => by kernel_rfl
theorem bs_278 : BS Tryz.prog 278 (fun i => [(0, 1), (1, 1)][i]?) [.int .u64 0, .int .u64 0] := bs_mk Tryz.underlying278 zv_278 ⟨rfl, (one_24).siz, rfl, (one_24).siz, trivial⟩
theorem en_190 : En Tryz.prog 190 := fun _ _ => by kernel_rfl
theorem en_108 : En Tryz.prog 108 := fun _ _ => by kernel_rfl
theorem en_50 : En Tryz.prog 50 := fun _ _ => by kernel_rfl
theorem en_114 : En Tryz.prog 114 := fun _ _ => by kernel_rfl
theorem en_53 : En Tryz.prog 53 := fun _ _ => by kernel_rfl
theorem en_115 : En Tryz.prog 115 := fun _ _ => by kernel_rfl
theorem en_290 : En Tryz.prog 290 := fun _ _ => by kernel_rfl
theorem en_185 : En Tryz.prog 185 := fun _ _ => by kernel_rfl
theorem en_191 : En Tryz.prog 191 := fun _ _ => by kernel_rfl
theorem en_116 : En Tryz.prog 116 := fun _ _ => by kernel_rfl
theorem en_54 : En Tryz.prog 54 := fun _ _ => by kernel_rfl
theorem eqc_171 : EqC Tryz.prog 2 171 [.i .i64, .i .i64] := eqc_struct Tryz.underlying171 (by kernel_rfl) agg_171 (show EqF _ 1 _ _ _ from (eqf_cons (ks1 := [.i .i64]) (ks2 := [.i .i64]) rfl (by simp) (eqc_3.up (by decide)) (eqf_cons (ks1 := [.i .i64]) (ks2 := []) rfl (by simp) (eqc_3.up (by decide)) (eqf_nil _))))
theorem eqc_173 : EqC Tryz.prog 3 173 [.i .i64, .i .i64, .i .u8, .i .u8, .i .u8, .i .u8, .i .u8, .i .u8, .i .u8, .i .u8, .i .u8, .i .u8, .i .u8, .i .u8, .i .u8, .i .u8, .i .u8, .i .u8] := eqc_struct Tryz.underlying173 (by kernel_rfl) agg_173 (show EqF _ 2 _ _ _ from (eqf_cons (ks1 := [.i .i64, .i .i64]) (ks2 := [.i .u8, .i .u8, .i .u8, .i .u8, .i .u8, .i .u8, .i .u8, .i .u8, .i .u8, .i .u8, .i .u8, .i .u8, .i .u8, .i .u8, .i .u8, .i .u8]) rfl (by simp) (eqc_171.up (by decide)) (eqf_cons (ks1 := [.i .u8, .i .u8, .i .u8, .i .u8, .i .u8, .i .u8, .i .u8, .i .u8, .i .u8, .i .u8, .i .u8, .i .u8, .i .u8, .i .u8, .i .u8, .i .u8]) (ks2 := []) rfl (by simp) (eqc_23.up (by decide)) (eqf_nil _))))
theorem eqt_173 : EqT Tryz.prog 173 [.i .i64, .i .i64, .i .u8, .i .u8, .i .u8, .i .u8, .i .u8, .i .u8, .i .u8, .i .u8, .i .u8, .i .u8, .i .u8, .i .u8, .i .u8, .i .u8, .i .u8, .i .u8] := ⟨by kernel_rfl, agg_173, 3, by decide, eqc_173⟩
theorem eqc_50 : EqC Tryz.prog 2 50 [.i .u64, .i .u64] := eqc_struct Tryz.underlying50 (by kernel_rfl) agg_50 (show EqF _ 1 _ _ _ from (eqf_cons (ks1 := [.i .u64]) (ks2 := [.i .u64]) rfl (by simp) (eqc_24.up (by decide)) (eqf_cons (ks1 := [.i .u64]) (ks2 := []) rfl (by simp) (eqc_24.up (by decide)) (eqf_nil _))))
theorem eqt_50 : EqT Tryz.prog 50 [.i .u64, .i .u64] := ⟨by kernel_rfl, agg_50, 2, by decide, eqc_50⟩
theorem en_55 : En Tryz.prog 55 := fun _ _ => by kernel_rfl
theorem epoch_isTick_w {p0 r} (hm : epoch_isTick p0 = some r) {w : World} :
    Calls Tryz.prog 60 [.int .i64 p0].toArray w fun e w' => ∃ v, e = .returned v ∧ (v = .bool r ∧ Gr w w') := by
 unfold epoch_isTick at hm
 refine calls_of_sw 9 Tryz.func60 rfl rfl rfl<|qs 1 rfl<|qm rfl<|qd 7 rfl ?_
 refine qm rfl<|qv rfl (vv_geq (a := p0) (b := 0) rfl rfl)<|qp rfl (vv_move rfl) (fun c1 => ?_) (fun c1 => ?_)
 · replace hm := iT c1 hm
   refine qm rfl<|qv rfl (vv_leq (a := p0) (b := 1099511627776) rfl rfl)<|qm rfl<|qm rfl<|sd_done<|sw_ret ?_
   cases hm
   refine ⟨_, _, rfl, res_1 rfl (rv_tmp rfl), ?_⟩
   exact ⟨rfl, (Gr.refl w)⟩
 replace hm := iF c1 hm
 refine qk rfl<|qk rfl<|qm rfl<|qm rfl<|sd_done<|sw_ret ?_
 cases hm
 refine ⟨_, _, rfl, res_1 rfl (rv_tmp rfl), ?_⟩
 exact ⟨rfl, (Gr.refl w)⟩
theorem epoch_Session_w {p0 p1 r} (hm : epoch_Session p0 p1 = some r) {w : World} :
    Calls Tryz.prog 38 [kv p0, .int .i64 p1].toArray w fun e w' => ∃ v, e = .returned v ∧ (v = kv r ∧ Gr w w') := by
 unfold epoch_Session at hm
 refine calls_of_sw 9 Tryz.func38 rfl rfl rfl<|qs 2 rfl<|qe rfl (ev_box (cs := kb p0) rfl rfl) ?_
 rintro _ w1 ⟨b1, rfl, hbw1, Bw1, G1⟩
 have z1 := G1.size
 have lt2 := Bw1.lt
 refine qe rfl (ev_alloc (cs := kb k0) zv_23 rfl) ?_
 rintro _ w2 ⟨b2, rfl, hbw2, Bw2, G2⟩
 have z3 := G2.size
 have lt4 := Bw2.lt
 refine qd 5 rfl ?_
 have B5 := (Bw1.gr G2)
 refine qv rfl (vv_loadW agg_23 rfl B5 rfl)<|qm rfl<|qv rfl (vv_cvIU cv_3_24 rfl)<|qe rfl (eC en_90 rfl (derive_c p0 (un8 50#8) (un8_nn _) (un8_le _) (wd p1) _)) ?_
 rintro _ w3 ⟨rfl, G3⟩
 have z6 := G3.size
 have B7 := (Bw2.gr G3)
 refine qe rfl (ev_stW agg_23 rfl rfl rfl B7 rfl rfl) ?_
 rintro _ w4 ⟨Bw4, M4⟩
 have z8 := M4.size
 refine sd_done<|sw_ret ?_
 have X9 := (((((Gr.refl w).trans G1).trans G2).trans G3).md M4)
 cases hm
 refine ⟨_, _, rfl, res_1 rfl (rv_cellW agg_23 rfl Bw4 rfl), ?_⟩
 exact ⟨rfl, X9⟩
theorem epoch_covered_w {p0 p1 p2 p3 p4 vp2 zp2 gp2 op2 r} (hm : epoch_covered p0 p1 p2 p3 p4 = some r) {w : World} (hp2 : Rd w zp2 gp2 op2 1 vp2 (p2.map ic)) :
    Calls Tryz.prog 131 [kv p0, .agg (TScheme.cs p1).toArray, vp2, kv p3, wv p4].toArray w fun e w' => ∃ v, e = .returned v ∧ (∃ ur0_0 zr0_0 gr0_0 ur0_2 zr0_2 gr0_2, v = .tuple [.agg (THeader.cs r.1 ur0_0 ur0_2).toArray, .int .i64 r.2].toArray ∧ Own w' zr0_0 gr0_0 173 18 ur0_0 (r.1.Items.map TItem.cs) ∧ Hdn (zr0_0 = 0 ∨ w.heap.size ≤ gr0_0) ∧ Own w' zr0_2 gr0_2 50 2 ur0_2 (r.1.Points.map TPoint.cs) ∧ Hdn (zr0_2 = 0 ∨ w.heap.size ≤ gr0_2) ∧ Hdn (zr0_2 = 0 ∨ zr0_0 = 0 ∨ gr0_2 ≠ gr0_0) ∧ Gr w w') := by
 have lt1 := hp2.lth
 unfold epoch_covered at hm
 refine calls_of_sw 31 Tryz.func131 rfl rfl rfl<|qs 5 rfl<|qe rfl (ev_box (cs := kb p0) rfl rfl) ?_
 rintro _ w1 ⟨b1, rfl, hbw1, Bw1, G1⟩
 have z2 := G1.size
 have lt3 := Bw1.lt
 refine qe rfl (ev_box (cs := TScheme.cs p1) rfl rfl) ?_
 rintro _ w2 ⟨b2, rfl, hbw2, Bw2, G2⟩
 have z4 := G2.size
 have lt5 := Bw2.lt
 refine qe rfl (ev_box (cs := kb p3) rfl rfl) ?_
 rintro _ w3 ⟨b3, rfl, hbw3, Bw3, G3⟩
 have z6 := G3.size
 have lt7 := Bw3.lt
 refine qe rfl (ev_alloc (cs := THeader.cs (THeader.mk [] 0#64 [] k0 k0) (.slice none 0 0) (.slice none 0 0)) zv_36 rfl) ?_
 rintro _ w4 ⟨b4, rfl, hbw4, Bw4, G4⟩
 have z8 := G4.size
 have lt9 := Bw4.lt
 refine qm rfl<|qd 8 rfl ?_
 have Y1 := Gr.trans G3 G4
 have B10 := (Bw2.gr Y1)
 refine qv rfl (vv_loadW agg_28 rfl B10 rfl)<|qm rfl ?_
 have Y2 := Gr.trans (Gr.trans G1 G2) Y1
 have B11 := (hp2.gr Y2)
 obtain ⟨x1, hx1, hm⟩ := bnd hm
 refine qe rfl (eC en_210 rfl (cover_Cover_w hx1 B11)) ?_
 rintro _ w5 ⟨u5_r0_s, z5_r0_s, g5_r0_s, rfl, O5_r0_s, f5_r0_s, G5⟩
 have z12 := G5.size
 have lt13 := O5_r0_s.lth
 refine qm rfl<|qm rfl<|qm rfl<|qm rfl<|qm rfl<|sd_done<|sw_seq ?_
 refine qs 2 rfl<|qm rfl<|qv rfl (vv_neq (a := x1.2) (b := 0) rfl rfl)<|sd_done<|sw_cond rfl (fun c1 => ?_) (fun c1 => ?_)
 · replace hm := iT c1 hm
   refine qs 4 rfl<|qv rfl (vv_build (cs := THeader.cs (THeader.mk [] 0#64 [] k0 k0) (.slice none 0 0) (.slice none 0 0)) bs_36 rfl (by kernel_rfl))<|qm rfl ?_
   have B14 := (Bw4.gr G5)
   refine qe rfl (ev_stW agg_36 rfl rfl (THeader.cs_ones _ _ _ rfl rfl) B14 rfl rfl) ?_
   rintro _ w6 ⟨Bw6, M6⟩
   have z15 := M6.size
   refine qm rfl<|qb ?_
   have X16 := ((((Gr.refl w).trans Y2).trans G5).md M6)
   cases hm
   refine ⟨_, _, rfl, res_2 rfl (rv_cellW agg_36 rfl Bw6 rfl) (rv_tmp rfl), ?_⟩
   exact ⟨(.slice none 0 0), 0, 0, (.slice none 0 0), 0, 0, rfl, (own_nil _ 0 173 18), ⟨.inl rfl⟩, (own_nil _ 0 50 2), ⟨.inl rfl⟩, ⟨(.inl rfl)⟩, X16⟩
 replace hm := iF c1 hm
 refine qu<|qs 9 rfl ?_
 have Y3 := Gr.trans (Gr.trans G2 Y1) G5
 have B17 := (Bw1.gr Y3)
 refine qv rfl (vv_loadW agg_23 rfl B17 rfl) ?_
 have B18 := (B10.gr G5)
 refine qv rfl (vv_loadW agg_28 rfl B18 rfl)<|qm rfl ?_
 have Y4 := Gr.trans G4 G5
 have B19 := (Bw3.gr Y4)
 refine qv rfl (vv_loadW agg_23 rfl B19 rfl) ?_
 obtain ⟨x2, hx2, hm⟩ := bnd hm
 refine qe rfl (eC en_211 rfl (cover_Seal_w hx2 (Own.rd O5_r0_s))) ?_
 rintro _ w7 ⟨u7_r0_0, z7_r0_0, g7_r0_0, u7_r0_2, z7_r0_2, g7_r0_2, rfl, O7_r0_0, f7_r0_0, O7_r0_2, f7_r0_2, d7_0, G7⟩
 have z20 := G7.size
 have lt21 := O7_r0_0.lth
 have lt22 := O7_r0_2.lth
 refine qm rfl<|qm rfl ?_
 have B23 := ((Bw4.gr G5).gr G7)
 refine qe rfl (ev_stW agg_36 rfl rfl (THeader.cs_ones _ _ _ (Own.oneB O7_r0_0) (Own.oneB O7_r0_2)) B23 rfl rfl) ?_
 rintro _ w8 ⟨Bw8, M8⟩
 have z24 := M8.size
 refine qm rfl<|sd_done<|sw_ret ?_
 have B25 := (O7_r0_0.md M8 (pb_0 f7_r0_0))
 have B26 := (O7_r0_2.md M8 (pb_0 f7_r0_2))
 have X27 := (((((Gr.refl w).trans Y2).trans G5).trans G7).md M8)
 cases hm
 refine ⟨_, _, rfl, res_2 rfl (rv_cellW agg_36 rfl Bw8 rfl) (rv_tmp rfl), ?_⟩
 exact ⟨u7_r0_0, z7_r0_0, g7_r0_0, u7_r0_2, z7_r0_2, g7_r0_2, rfl, B25, ⟨(pv_0 (A := (fun x => w.heap.size ≤ x)) f7_r0_0)⟩, B26, ⟨(pv_0 (A := (fun x => w.heap.size ≤ x)) f7_r0_2)⟩, ⟨(tk1 d7_0.o)⟩, X27⟩
theorem epoch_Seal_w {p0 p1 p2 p3 vp3 zp3 gp3 op3 r} (hm : epoch_Seal p0 p1 p2 p3 = some r) {w : World} (hp3 : Rd w zp3 gp3 op3 1 vp3 (p3.map ic)) :
    Calls Tryz.prog 42 [kv p0, .agg (TScheme.cs p1).toArray, .int .i64 p2, vp3].toArray w fun e w' => ∃ v, e = .returned v ∧ (∃ ur0_0 zr0_0 gr0_0 ur0_2 zr0_2 gr0_2, v = .tuple [.agg (THeader.cs r.1 ur0_0 ur0_2).toArray, .int .i64 r.2].toArray ∧ Own w' zr0_0 gr0_0 173 18 ur0_0 (r.1.Items.map TItem.cs) ∧ Hdn (zr0_0 = 0 ∨ w.heap.size ≤ gr0_0) ∧ Own w' zr0_2 gr0_2 50 2 ur0_2 (r.1.Points.map TPoint.cs) ∧ Hdn (zr0_2 = 0 ∨ w.heap.size ≤ gr0_2) ∧ Hdn (zr0_2 = 0 ∨ zr0_0 = 0 ∨ gr0_2 ≠ gr0_0) ∧ Gr w w') := by
 have lt1 := hp3.lth
 unfold epoch_Seal at hm
 refine calls_of_sw 38 Tryz.func42 rfl rfl rfl<|qs 4 rfl<|qe rfl (ev_box (cs := kb p0) rfl rfl) ?_
 rintro _ w1 ⟨b1, rfl, hbw1, Bw1, G1⟩
 have z2 := G1.size
 have lt3 := Bw1.lt
 refine qe rfl (ev_box (cs := TScheme.cs p1) rfl rfl) ?_
 rintro _ w2 ⟨b2, rfl, hbw2, Bw2, G2⟩
 have z4 := G2.size
 have lt5 := Bw2.lt
 refine qe rfl (ev_alloc (cs := THeader.cs (THeader.mk [] 0#64 [] k0 k0) (.slice none 0 0) (.slice none 0 0)) zv_36 rfl) ?_
 rintro _ w3 ⟨b3, rfl, hbw3, Bw3, G3⟩
 have z6 := G3.size
 have lt7 := Bw3.lt
 refine qm rfl<|qd 8 rfl ?_
 have B8 := (Bw2.gr G3)
 refine qv rfl (vv_loadW agg_28 rfl B8 rfl)<|sd_inl 33 Tryz.func85 rfl rfl rfl en_85 rfl rfl rfl rfl rfl<|qs 3 rfl<|qe rfl (ev_box (cs := TScheme.cs p1) rfl rfl) ?_
 rintro _ w4 ⟨b4, rfl, hbw4, Bw4, G4⟩
 have z9 := G4.size
 have lt10 := Bw4.lt
 refine qe rfl (ev_alloc (cs := [.nilFunc, .nilFunc, .nilFunc, .nilFunc]) zv_180 rfl) ?_
 rintro _ w5 ⟨b5, rfl, hbw5, Bw5, G5⟩
 have z11 := G5.size
 have lt12 := Bw5.lt
 refine qm rfl<|qd 3 rfl<|qv rfl (vv_build (cs := [.func (.func 128) #[] #[], .func (.func 129) #[] #[], .func (.func 130) #[] #[], .func (.func 131) #[] #[]]) bs_180 rfl rfl)<|qe rfl (ev_alloc (cs := [.nilFunc, .nilFunc, .nilFunc, .nilFunc]) zv_180 rfl) ?_
 rintro _ w6 ⟨b6, rfl, hbw6, Bw6, G6⟩
 have z13 := G6.size
 have lt14 := Bw6.lt
 refine qe rfl (ev_stW agg_180 rfl rfl rfl Bw6 rfl rfl) ?_
 rintro _ w7 ⟨Bw7, M7⟩
 have z15 := M7.size
 refine qd 8 rfl<|qv rfl (vv_build (cs := [.nilFunc, .nilFunc, .nilFunc, .nilFunc]) bs_180 rfl rfl)<|qv rfl (vv_loadM (vs := [.func (.func 128) #[] #[], .func (.func 129) #[] #[], .func (.func 130) #[] #[], .func (.func 131) #[] #[]]) agg_180 rfl Bw7 rfl rfl)<|qv rfl (vv_loadM (vs := [.func (.func 128) #[] #[], .func (.func 129) #[] #[], .func (.func 130) #[] #[], .func (.func 131) #[] #[]]) agg_180 rfl Bw7 rfl rfl)<|qv rfl (vv_loadM (vs := [.func (.func 128) #[] #[], .func (.func 129) #[] #[], .func (.func 130) #[] #[], .func (.func 131) #[] #[]]) agg_180 rfl Bw7 rfl rfl) ?_
 refine qv rfl (vv_build (cs := [.func (.func 132) #[] #[], .func (.func 133) #[] #[], .func (.func 134) #[] #[], .func (.func 135) #[] #[]]) bs_180 rfl rfl)<|qv rfl (vv_buildA (cs := [.nilFunc, .nilFunc, .nilFunc, .nilFunc, .func (.func 128) #[] #[], .func (.func 129) #[] #[], .func (.func 130) #[] #[], .func (.func 131) #[] #[], .func (.func 128) #[] #[], .func (.func 129) #[] #[], .func (.func 130) #[] #[], .func (.func 131) #[] #[], .func (.func 128) #[] #[], .func (.func 129) #[] #[], .func (.func 130) #[] #[], .func (.func 131) #[] #[], .func (.func 132) #[] #[], .func (.func 133) #[] #[], .func (.func 134) #[] #[], .func (.func 135) #[] #[]]) ba_228 rfl rfl)<|qe rfl (ev_alloc (cs := [.nilFunc, .nilFunc, .nilFunc, .nilFunc, .nilFunc, .nilFunc, .nilFunc, .nilFunc, .nilFunc, .nilFunc, .nilFunc, .nilFunc, .nilFunc, .nilFunc, .nilFunc, .nilFunc, .nilFunc, .nilFunc, .nilFunc, .nilFunc]) zv_228 rfl) ?_
 rintro _ w8 ⟨b8, rfl, hbw8, Bw8, G8⟩
 have z16 := G8.size
 have lt17 := Bw8.lt
 refine qe rfl (ev_stW agg_228 rfl rfl rfl Bw8 rfl rfl) ?_
 rintro _ w9 ⟨Bw9, M9⟩
 have z18 := M9.size
 refine sd_done<|sw_seq ?_
 have Y1 := Gr.trans (Gr.trans (Gr.trans (Gr.trans (Gr.trans G1 G2) G3) G4) G5) G6
 have X19 := (((((Gr.refl w).trans Y1).md M7).trans G8).md M9)
 refine qj (β := Bool) (rg 14 9) (fun a1 => [(22, .bool a1)]) (fun a1 wr => (epoch_Seal_J1 p0 p1 p2 p3 a1 = some r) ∧ Kz [] w9 wr) ?_ ?_
 · refine qg 9 rfl<|qv rfl (vv_fieldAddr fa_28_0 rfl) ?_
   have Y2 := Gr.trans G5 G6
   have B100 := ((((Bw4.gr Y2).md M7).gr G8).md M9)
   refine qv rfl (vv_load1 (v := bv p1.Kind) one_5 rfl B100 rfl)<|qv rfl (vv_lssB (p := p1.Kind) (q := 1#8) rfl rfl)<|qp rfl (vv_move rfl) (fun c8 => ?_) (fun c8 => ?_)
   · replace hm := iT c8 hm
     refine qk rfl<|qk rfl<|qk rfl<|qk rfl<|qm rfl<|sd_nil ?_
     exact ⟨rfl, true, sbq, hm, kz0⟩
   replace hm := iF c8 hm
   refine qv rfl (vv_fieldAddr fa_28_0 rfl)<|qv rfl (vv_load1 (v := bv p1.Kind) one_5 rfl B100 rfl)<|qv rfl (vv_cvBI cv_5_3 rfl)<|qv rfl (vv_geq (a := un8 p1.Kind) (b := 5) rfl rfl)<|qm rfl<|sd_nil ?_
   exact ⟨rfl, (decide ((5 : Int) ≤ un8 p1.Kind)), sbq, hm, kz0⟩
 clear hm; rintro a1 w10 ⟨hm, K10⟩
 have z20 := K10.size
 unfold epoch_Seal_J1 at hm
 refine sw_cond rfl (fun c1 => ?_) (fun c1 => ?_)
 · replace hm := cnd_t c1 hm
   refine qs 3 rfl<|qv rfl (vv_build (cs := [.nilFunc, .nilFunc, .nilFunc, .nilFunc]) bs_180 rfl rfl) ?_
   have B21 := (((((Bw5.gr G6).md M7).gr G8).md M9).kz K10)
   refine qe rfl (ev_stW agg_180 rfl rfl rfl B21 rfl rfl) ?_
   rintro _ w11 ⟨Bw11, M11⟩
   have z22 := M11.size
   refine qm rfl<|qb<|⟨_, _, rfl, res_2 rfl (rv_cellW agg_180 rfl Bw11 rfl) (rv_tmp rfl), ?_⟩
   refine qm rfl<|qm rfl<|qm rfl<|qe rfl (ev_alloc (cs := [.nilFunc, .nilFunc, .nilFunc, .nilFunc]) zv_180 rfl) ?_
   rintro _ w12 ⟨b12, rfl, hbw12, Bw12, G12⟩
   have z23 := G12.size
   have lt24 := Bw12.lt
   refine qe rfl (ev_stW agg_180 rfl rfl rfl Bw12 rfl rfl) ?_
   rintro _ w13 ⟨Bw13, M13⟩
   have z25 := M13.size
   refine qm rfl<|sd_done<|sw_seq<|qs 2 rfl<|qm rfl<|qv rfl (vv_neq (a := 2) (b := 0) rfl rfl) ?_
   refine sd_done<|sw_condT rfl<|qs 4 rfl<|qv rfl (vv_build (cs := THeader.cs (THeader.mk [] 0#64 [] k0 k0) (.slice none 0 0) (.slice none 0 0)) bs_36 rfl (by kernel_rfl))<|qm rfl ?_
   have Y3 := Gr.trans (Gr.trans G4 G5) G6
   have B26 := ((((((((Bw3.gr Y3).md M7).gr G8).md M9).kz K10).md M11).gr G12).md M13)
   refine qe rfl (ev_stW agg_36 rfl rfl (THeader.cs_ones _ _ _ rfl rfl) B26 rfl rfl) ?_
   rintro _ w14 ⟨Bw14, M14⟩
   have z27 := M14.size
   refine qm rfl<|qb ?_
   have X28 := (((((X19.kz K10).md M11).trans G12).md M13).md M14)
   cases hm
   refine ⟨_, _, rfl, res_2 rfl (rv_cellW agg_36 rfl Bw14 rfl) (rv_tmp rfl), ?_⟩
   exact ⟨(.slice none 0 0), 0, 0, (.slice none 0 0), 0, 0, rfl, (own_nil _ 0 173 18), ⟨.inl rfl⟩, (own_nil _ 0 50 2), ⟨.inl rfl⟩, ⟨(.inl rfl)⟩, X28⟩
 replace hm := cnd_f c1 hm
 refine qu<|qs 6 rfl<|qv rfl (vv_fieldAddr fa_28_0 rfl) ?_
 have Y4 := Gr.trans G5 G6
 have B29 := (((((Bw4.gr Y4).md M7).gr G8).md M9).kz K10)
 refine qv rfl (vv_load1 (v := bv p1.Kind) one_5 rfl B29 rfl) ?_
 by_cases c2 : (un8 p1.Kind = 1 ∨ un8 p1.Kind = 2 ∨ un8 p1.Kind = 3)
 · replace hm := ite_t c2 hm
   refine qv rfl (vv_ixJ Tryz.underlying228 (agg_180).siz rfl rfl (by omega)) ?_
   have B30 := (Bw9.kz K10)
   refine qv rfl (vv_loadM (vs := [.func (.func 128) #[] #[], .func (.func 129) #[] #[], .func (.func 130) #[] #[], .func (.func 131) #[] #[]]) agg_180 rfl B30 (by rcases c2 with h | h | h <;> rw [h] <;> rfl) rfl)<|qe rfl (ev_alloc (cs := [.nilFunc, .nilFunc, .nilFunc, .nilFunc]) zv_180 rfl) ?_
   rintro _ w15 ⟨b15, rfl, hbw15, Bw15, G15⟩
   have z31 := G15.size
   have lt32 := Bw15.lt
   refine qe rfl (ev_stW agg_180 rfl rfl rfl Bw15 rfl rfl) ?_
   rintro _ w16 ⟨Bw16, M16⟩
   have z33 := M16.size
   refine sd_done<|sw_seq<|dw [([b5])] [] (.leaf [(0,10),(1,10),(2,10),(3,10),(4,0),(5,0),(6,10)]) ?_
   intro w17 G17 zw17
   refine sdz_leaf ?_
   have B34 := (Bw16.gr G17)
   refine dh 0 rfl rfl (fun w hS => vv_loadM (vs := [.func (.func 128) #[] #[], .func (.func 129) #[] #[], .func (.func 130) #[] #[], .func (.func 131) #[] #[]]) agg_180 rfl (Bx.kp B34 hS) rfl rfl)<|dh 0 rfl rfl (fun w hS => vv_fieldAddr fa_180_0 rfl)<|dh 0 rfl rfl (fun w hS => vv_load1 (v := .func (.func 128) #[] #[]) one_85 rfl (Bx.kp B34 hS) rfl) ?_
   have B35 := (((B29.gr G15).md M16).gr G17)
   refine dh 0 rfl rfl (fun w hS => vv_loadW agg_28 rfl (Bx.kp B35 hS) rfl) ?_
   obtain ⟨x2, hx2, hm⟩ := bnd hm
   refine qz [] rfl (ev_callV en_128 rfl rfl (cover_Check_w hx2)) ⟨fun _ => tk0, trivial⟩ ?_
   rintro _ w18 ⟨rfl, G18⟩
   have z36 := G18.size
   refine kG G18 ?_
   have Y5 := Gr.trans G17 G18
   have B37 := ((((((((Bw5.gr G6).md M7).gr G8).md M9).kz K10).gr G15).md M16).gr Y5)
   refine qz [(1, b5)] rfl (ev_stW agg_180 rfl rfl rfl B37 rfl rfl) ⟨fun _ => tk0, trivial⟩ ?_
   rintro _ w19 ⟨Bw19, M19⟩
   have z38 := M19.size
   refine kM M19 ?_
   have S39 := (((Kp.refl ([b5]) w17).gr G18).md M19)
   refine dn 0 rfl rfl S39<|sd_done<|sw_ret<|⟨_, _, rfl, res_2 rfl (rv_cellW agg_180 rfl Bw19 rfl) (rv_tmp rfl), ?_⟩
   refine qm rfl<|qm rfl<|qm rfl<|qe rfl (ev_alloc (cs := [.nilFunc, .nilFunc, .nilFunc, .nilFunc]) zv_180 rfl) ?_
   rintro _ w20 ⟨b20, rfl, hbw20, Bw20, G20⟩
   have z40 := G20.size
   have lt41 := Bw20.lt
   refine qe rfl (ev_stW agg_180 rfl rfl rfl Bw20 rfl rfl) ?_
   rintro _ w21 ⟨Bw21, M21⟩
   have z42 := M21.size
   refine qm rfl<|sd_done<|sw_seq<|qs 2 rfl<|qm rfl<|qv rfl (vv_neq (a := x2) (b := 0) rfl rfl) ?_
   refine sd_done<|sw_cond rfl (fun c3 => ?_) (fun c3 => ?_)
   · replace hm := iT c3 hm
     refine qs 4 rfl<|qv rfl (vv_build (cs := THeader.cs (THeader.mk [] 0#64 [] k0 k0) (.slice none 0 0) (.slice none 0 0)) bs_36 rfl (by kernel_rfl))<|qm rfl ?_
     have Y6 := Gr.trans G4 Y4
     have B43 := (((((((((((Bw3.gr Y6).md M7).gr G8).md M9).kz K10).gr G15).md M16).gr Y5).md M19).gr G20).md M21)
     refine qe rfl (ev_stW agg_36 rfl rfl (THeader.cs_ones _ _ _ rfl rfl) B43 rfl rfl) ?_
     rintro _ w22 ⟨Bw22, M22⟩
     have z44 := M22.size
     refine qm rfl<|qb ?_
     have X45 := ((((((((X19.kz K10).trans G15).md M16).trans Y5).md M19).trans G20).md M21).md M22)
     cases hm
     refine ⟨_, _, rfl, res_2 rfl (rv_cellW agg_36 rfl Bw22 rfl) (rv_tmp rfl), ?_⟩
     exact ⟨(.slice none 0 0), 0, 0, (.slice none 0 0), 0, 0, rfl, (own_nil _ 0 173 18), ⟨.inl rfl⟩, (own_nil _ 0 50 2), ⟨.inl rfl⟩, ⟨(.inl rfl)⟩, X45⟩
   replace hm := iF c3 hm
   refine qu<|sw_seq<|qs 3 rfl<|qm rfl ?_
   obtain ⟨x3, hx3, hm⟩ := bnd hm
   refine qe rfl (eC en_60 rfl (epoch_isTick_w hx3)) ?_
   rintro _ w23 ⟨rfl, G23⟩
   have z46 := G23.size
   refine qv rfl (vv_not rfl)<|sd_done<|sw_cond rfl (fun c4 => ?_) (fun c4 => ?_)
   · replace hm := cnd_t c4 hm
     refine qs 3 rfl<|qv rfl (vv_build (cs := THeader.cs (THeader.mk [] 0#64 [] k0 k0) (.slice none 0 0) (.slice none 0 0)) bs_36 rfl (by kernel_rfl)) ?_
     have Y7 := Gr.trans G4 Y4
     have B47 := ((((((((((((Bw3.gr Y7).md M7).gr G8).md M9).kz K10).gr G15).md M16).gr Y5).md M19).gr G20).md M21).gr G23)
     refine qe rfl (ev_stW agg_36 rfl rfl (THeader.cs_ones _ _ _ rfl rfl) B47 rfl rfl) ?_
     rintro _ w24 ⟨Bw24, M24⟩
     have z48 := M24.size
     refine qm rfl<|qb ?_
     have X49 := (((((((((X19.kz K10).trans G15).md M16).trans Y5).md M19).trans G20).md M21).trans G23).md M24)
     cases hm
     refine ⟨_, _, rfl, res_2 rfl (rv_cellW agg_36 rfl Bw24 rfl) (rv_tmp rfl), ?_⟩
     exact ⟨(.slice none 0 0), 0, 0, (.slice none 0 0), 0, 0, rfl, (own_nil _ 0 173 18), ⟨.inl rfl⟩, (own_nil _ 0 50 2), ⟨.inl rfl⟩, ⟨(.inl rfl)⟩, X49⟩
   replace hm := cnd_f c4 hm
   refine qu<|sw_seq<|dw [([b3])] [] (.leaf [(0,10),(1,10),(2,10),(3,10),(4,10),(5,10),(6,10),(8,10),(9,10),(7,0),(10,0),(11,10),(12,10),(13,0),(14,10)]) ?_
   intro w25 G25 zw25
   refine sdz_leaf<|dh 0 rfl rfl (fun w hS => vv_fieldAddr fa_180_3 rfl) ?_
   have Y8 := Gr.trans G23 G25
   have B50 := (Bw21.gr Y8)
   refine dh 0 rfl rfl (fun w hS => vv_load1 (v := .func (.func 131) #[] #[]) one_178 rfl (Bx.kp B50 hS) rfl) ?_
   have Y9 := Gr.trans (Gr.trans (Gr.trans G2 G3) G4) Y4
   have B51 := ((((((((((((Bw1.gr Y9).md M7).gr G8).md M9).kz K10).gr G15).md M16).gr Y5).md M19).gr G20).md M21).gr Y8)
   refine dh 0 rfl rfl (fun w hS => vv_loadW agg_23 rfl (Bx.kp B51 hS) rfl) ?_
   have Y10 := Gr.trans G4 Y4
   have B52 := ((((((((((((B8.gr Y10).md M7).gr G8).md M9).kz K10).gr G15).md M16).gr Y5).md M19).gr G20).md M21).gr Y8)
   refine dh 0 rfl rfl (fun w hS => vv_loadW agg_28 rfl (Bx.kp B52 hS) rfl)<|dm 0 rfl rfl<|dh 0 rfl rfl (fun w hS => vv_loadW agg_23 rfl (Bx.kp B51 hS) rfl)<|dm 0 rfl rfl<|dm 0 rfl rfl<|dh 0 rfl rfl (fun w hS => vv_cvIU cv_3_24 rfl) ?_
   obtain ⟨x4, hx4, hm⟩ := bnd hm
   refine qz [] rfl (eC en_38 rfl (epoch_Session_w hx4)) ⟨fun _ => tk0, trivial⟩ ?_
   rintro _ w26 ⟨rfl, G26⟩
   have z53 := G26.size
   refine kG G26 ?_
   have B54 := (((((((((((((hp3.gr Y1).md M7 (pb_lt lt1)).gr G8).md M9 (pb_lt lt1)).kz K10).gr G15).md M16 (pb_lt lt1)).gr Y5).md M19 (pb_lt lt1)).gr G20).md M21 (pb_lt lt1)).gr Y8).gr G26)
   obtain ⟨x5, hx5, hm⟩ := bnd hm
   refine qz [] rfl (ev_callV en_131 rfl rfl (epoch_covered_w hx5 B54)) ⟨fun _ => tk0, trivial⟩ ?_
   rintro _ w27 ⟨u27_r0_0, z27_r0_0, g27_r0_0, u27_r0_2, z27_r0_2, g27_r0_2, rfl, O27_r0_0, f27_r0_0, O27_r0_2, f27_r0_2, d27_0, G27⟩
   have z55 := G27.size
   have lt56 := O27_r0_0.lth
   have lt57 := O27_r0_2.lth
   refine kG G27 ?_
   have S58 := (((Kp.refl ([b3]) w25).gr G26).gr G27)
   refine dn 0 rfl rfl S58<|dn 0 rfl rfl S58 ?_
   have B59 := ((((((((((((((Bw3.gr Y10).md M7).gr G8).md M9).kz K10).gr G15).md M16).gr Y5).md M19).gr G20).md M21).gr Y8).gr G26).gr G27)
   refine qz [(1, b3)] rfl (ev_stW agg_36 rfl rfl (THeader.cs_ones _ _ _ (Own.oneB O27_r0_0) (Own.oneB O27_r0_2)) B59 rfl rfl) ⟨fun _ => tk0, trivial⟩ ?_
   rintro _ w28 ⟨Bw28, M28⟩
   have z60 := M28.size
   refine kM M28 ?_
   have S61 := (S58.md M28)
   refine dn 0 rfl rfl S61<|sd_done<|sw_ret ?_
   have B62 := (O27_r0_0.md M28 (pb_0 f27_r0_0))
   have B63 := (O27_r0_2.md M28 (pb_0 f27_r0_2))
   have X64 := (((((((((((X19.kz K10).trans G15).md M16).trans Y5).md M19).trans G20).md M21).trans Y8).trans G26).trans G27).md M28)
   cases hm
   refine ⟨_, _, rfl, res_2 rfl (rv_cellW agg_36 rfl Bw28 rfl) (rv_tmp rfl), ?_⟩
   exact ⟨u27_r0_0, z27_r0_0, g27_r0_0, u27_r0_2, z27_r0_2, g27_r0_2, rfl, B62, ⟨(pv_0 (A := (fun x => w.heap.size ≤ x)) f27_r0_0)⟩, B63, ⟨(pv_0 (A := (fun x => w.heap.size ≤ x)) f27_r0_2)⟩, ⟨(tk1 d27_0.o)⟩, X64⟩
 replace hm := ite_f c2 hm
 by_cases c5 : (un8 p1.Kind = 4)
 · replace hm := ite_t c5 hm
   refine qv rfl (vv_ixJ Tryz.underlying228 (agg_180).siz rfl rfl (by omega)) ?_
   have B65 := (Bw9.kz K10)
   refine qv rfl (vv_loadM (vs := [.func (.func 132) #[] #[], .func (.func 133) #[] #[], .func (.func 134) #[] #[], .func (.func 135) #[] #[]]) agg_180 rfl B65 (by rw [c5]; rfl) rfl)<|qe rfl (ev_alloc (cs := [.nilFunc, .nilFunc, .nilFunc, .nilFunc]) zv_180 rfl) ?_
   rintro _ w29 ⟨b29, rfl, hbw29, Bw29, G29⟩
   have z66 := G29.size
   have lt67 := Bw29.lt
   refine qe rfl (ev_stW agg_180 rfl rfl rfl Bw29 rfl rfl) ?_
   rintro _ w30 ⟨Bw30, M30⟩
   have z68 := M30.size
   refine sd_done<|sw_seq<|dw [([b5])] [] (.leaf [(0,10),(1,10),(2,10),(3,10),(4,0),(5,0),(6,10)]) ?_
   intro w31 G31 zw31
   refine sdz_leaf ?_
   have B69 := (Bw30.gr G31)
   refine dh 0 rfl rfl (fun w hS => vv_loadM (vs := [.func (.func 132) #[] #[], .func (.func 133) #[] #[], .func (.func 134) #[] #[], .func (.func 135) #[] #[]]) agg_180 rfl (Bx.kp B69 hS) rfl rfl)<|dh 0 rfl rfl (fun w hS => vv_fieldAddr fa_180_0 rfl)<|dh 0 rfl rfl (fun w hS => vv_load1 (v := .func (.func 132) #[] #[]) one_85 rfl (Bx.kp B69 hS) rfl) ?_
   have B70 := (((B29.gr G29).md M30).gr G31)
   refine dh 0 rfl rfl (fun w hS => vv_loadW agg_28 rfl (Bx.kp B70 hS) rfl) ?_
   obtain ⟨x6, hx6, hm⟩ := bnd hm
   refine qz [] rfl (ev_callV en_132 rfl rfl (poly_Check_w hx6)) ⟨fun _ => tk0, trivial⟩ ?_
   rintro _ w32 ⟨rfl, G32⟩
   have z71 := G32.size
   refine kG G32 ?_
   have Y11 := Gr.trans G31 G32
   have B72 := ((((((((Bw5.gr G6).md M7).gr G8).md M9).kz K10).gr G29).md M30).gr Y11)
   refine qz [(1, b5)] rfl (ev_stW agg_180 rfl rfl rfl B72 rfl rfl) ⟨fun _ => tk0, trivial⟩ ?_
   rintro _ w33 ⟨Bw33, M33⟩
   have z73 := M33.size
   refine kM M33 ?_
   have S74 := (((Kp.refl ([b5]) w31).gr G32).md M33)
   refine dn 0 rfl rfl S74<|sd_done<|sw_ret<|⟨_, _, rfl, res_2 rfl (rv_cellW agg_180 rfl Bw33 rfl) (rv_tmp rfl), ?_⟩
   refine qm rfl<|qm rfl<|qm rfl<|qe rfl (ev_alloc (cs := [.nilFunc, .nilFunc, .nilFunc, .nilFunc]) zv_180 rfl) ?_
   rintro _ w34 ⟨b34, rfl, hbw34, Bw34, G34⟩
   have z75 := G34.size
   have lt76 := Bw34.lt
   refine qe rfl (ev_stW agg_180 rfl rfl rfl Bw34 rfl rfl) ?_
   rintro _ w35 ⟨Bw35, M35⟩
   have z77 := M35.size
   refine qm rfl<|sd_done<|sw_seq<|qs 2 rfl<|qm rfl<|qv rfl (vv_neq (a := x6) (b := 0) rfl rfl) ?_
   refine sd_done<|sw_cond rfl (fun c6 => ?_) (fun c6 => ?_)
   · replace hm := iT c6 hm
     refine qs 4 rfl<|qv rfl (vv_build (cs := THeader.cs (THeader.mk [] 0#64 [] k0 k0) (.slice none 0 0) (.slice none 0 0)) bs_36 rfl (by kernel_rfl))<|qm rfl ?_
     have Y12 := Gr.trans G4 Y4
     have B78 := (((((((((((Bw3.gr Y12).md M7).gr G8).md M9).kz K10).gr G29).md M30).gr Y11).md M33).gr G34).md M35)
     refine qe rfl (ev_stW agg_36 rfl rfl (THeader.cs_ones _ _ _ rfl rfl) B78 rfl rfl) ?_
     rintro _ w36 ⟨Bw36, M36⟩
     have z79 := M36.size
     refine qm rfl<|qb ?_
     have X80 := ((((((((X19.kz K10).trans G29).md M30).trans Y11).md M33).trans G34).md M35).md M36)
     cases hm
     refine ⟨_, _, rfl, res_2 rfl (rv_cellW agg_36 rfl Bw36 rfl) (rv_tmp rfl), ?_⟩
     exact ⟨(.slice none 0 0), 0, 0, (.slice none 0 0), 0, 0, rfl, (own_nil _ 0 173 18), ⟨.inl rfl⟩, (own_nil _ 0 50 2), ⟨.inl rfl⟩, ⟨(.inl rfl)⟩, X80⟩
   replace hm := iF c6 hm
   refine qu<|sw_seq<|qs 3 rfl<|qm rfl ?_
   obtain ⟨x7, hx7, hm⟩ := bnd hm
   refine qe rfl (eC en_60 rfl (epoch_isTick_w hx7)) ?_
   rintro _ w37 ⟨rfl, G37⟩
   have z81 := G37.size
   refine qv rfl (vv_not rfl)<|sd_done<|sw_cond rfl (fun c7 => ?_) (fun c7 => ?_)
   · replace hm := cnd_t c7 hm
     refine qs 3 rfl<|qv rfl (vv_build (cs := THeader.cs (THeader.mk [] 0#64 [] k0 k0) (.slice none 0 0) (.slice none 0 0)) bs_36 rfl (by kernel_rfl)) ?_
     have Y13 := Gr.trans G4 Y4
     have B82 := ((((((((((((Bw3.gr Y13).md M7).gr G8).md M9).kz K10).gr G29).md M30).gr Y11).md M33).gr G34).md M35).gr G37)
     refine qe rfl (ev_stW agg_36 rfl rfl (THeader.cs_ones _ _ _ rfl rfl) B82 rfl rfl) ?_
     rintro _ w38 ⟨Bw38, M38⟩
     have z83 := M38.size
     refine qm rfl<|qb ?_
     have X84 := (((((((((X19.kz K10).trans G29).md M30).trans Y11).md M33).trans G34).md M35).trans G37).md M38)
     cases hm
     refine ⟨_, _, rfl, res_2 rfl (rv_cellW agg_36 rfl Bw38 rfl) (rv_tmp rfl), ?_⟩
     exact ⟨(.slice none 0 0), 0, 0, (.slice none 0 0), 0, 0, rfl, (own_nil _ 0 173 18), ⟨.inl rfl⟩, (own_nil _ 0 50 2), ⟨.inl rfl⟩, ⟨(.inl rfl)⟩, X84⟩
   replace hm := cnd_f c7 hm
   refine qu<|sw_seq<|dw [([b3])] [] (.leaf [(0,10),(1,10),(2,10),(3,10),(4,10),(5,10),(6,10),(8,10),(9,10),(7,0),(10,0),(11,10),(12,10),(13,0),(14,10)]) ?_
   intro w39 G39 zw39
   refine sdz_leaf<|dh 0 rfl rfl (fun w hS => vv_fieldAddr fa_180_3 rfl) ?_
   have Y14 := Gr.trans G37 G39
   have B85 := (Bw35.gr Y14)
   refine dh 0 rfl rfl (fun w hS => vv_load1 (v := .func (.func 135) #[] #[]) one_178 rfl (Bx.kp B85 hS) rfl) ?_
   have Y15 := Gr.trans (Gr.trans (Gr.trans G2 G3) G4) Y4
   have B86 := ((((((((((((Bw1.gr Y15).md M7).gr G8).md M9).kz K10).gr G29).md M30).gr Y11).md M33).gr G34).md M35).gr Y14)
   refine dh 0 rfl rfl (fun w hS => vv_loadW agg_23 rfl (Bx.kp B86 hS) rfl) ?_
   have Y16 := Gr.trans G4 Y4
   have B87 := ((((((((((((B8.gr Y16).md M7).gr G8).md M9).kz K10).gr G29).md M30).gr Y11).md M33).gr G34).md M35).gr Y14)
   refine dh 0 rfl rfl (fun w hS => vv_loadW agg_28 rfl (Bx.kp B87 hS) rfl)<|dm 0 rfl rfl<|dh 0 rfl rfl (fun w hS => vv_loadW agg_23 rfl (Bx.kp B86 hS) rfl)<|dm 0 rfl rfl<|dm 0 rfl rfl<|dh 0 rfl rfl (fun w hS => vv_cvIU cv_3_24 rfl) ?_
   obtain ⟨x8, hx8, hm⟩ := bnd hm
   refine qz [] rfl (eC en_38 rfl (epoch_Session_w hx8)) ⟨fun _ => tk0, trivial⟩ ?_
   rintro _ w40 ⟨rfl, G40⟩
   have z88 := G40.size
   refine kG G40 ?_
   have B89 := (((((((((((((hp3.gr Y1).md M7 (pb_lt lt1)).gr G8).md M9 (pb_lt lt1)).kz K10).gr G29).md M30 (pb_lt lt1)).gr Y11).md M33 (pb_lt lt1)).gr G34).md M35 (pb_lt lt1)).gr Y14).gr G40)
   obtain ⟨x9, hx9, hm⟩ := bnd hm
   refine qz [] rfl (ev_callV en_135 rfl rfl (poly_Seal_w hx9 B89)) ⟨fun _ => tk0, trivial⟩ ?_
   rintro _ w41 ⟨u41_r0_0, z41_r0_0, g41_r0_0, u41_r0_2, z41_r0_2, g41_r0_2, rfl, O41_r0_0, f41_r0_0, O41_r0_2, f41_r0_2, d41_0, G41⟩
   have z90 := G41.size
   have lt91 := O41_r0_0.lth
   have lt92 := O41_r0_2.lth
   refine kG G41 ?_
   have S93 := (((Kp.refl ([b3]) w39).gr G40).gr G41)
   refine dn 0 rfl rfl S93<|dn 0 rfl rfl S93 ?_
   have B94 := ((((((((((((((Bw3.gr Y16).md M7).gr G8).md M9).kz K10).gr G29).md M30).gr Y11).md M33).gr G34).md M35).gr Y14).gr G40).gr G41)
   refine qz [(1, b3)] rfl (ev_stW agg_36 rfl rfl (THeader.cs_ones _ _ _ (Own.oneB O41_r0_0) (Own.oneB O41_r0_2)) B94 rfl rfl) ⟨fun _ => tk0, trivial⟩ ?_
   rintro _ w42 ⟨Bw42, M42⟩
   have z95 := M42.size
   refine kM M42 ?_
   have S96 := (S93.md M42)
   refine dn 0 rfl rfl S96<|sd_done<|sw_ret ?_
   have B97 := (O41_r0_0.md M42 (pb_0 f41_r0_0))
   have B98 := (O41_r0_2.md M42 (pb_0 f41_r0_2))
   have X99 := (((((((((((X19.kz K10).trans G29).md M30).trans Y11).md M33).trans G34).md M35).trans Y14).trans G40).trans G41).md M42)
   cases hm
   refine ⟨_, _, rfl, res_2 rfl (rv_cellW agg_36 rfl Bw42 rfl) (rv_tmp rfl), ?_⟩
   exact ⟨u41_r0_0, z41_r0_0, g41_r0_0, u41_r0_2, z41_r0_2, g41_r0_2, rfl, B97, ⟨(pv_0 (A := (fun x => w.heap.size ≤ x)) f41_r0_0)⟩, B98, ⟨(pv_0 (A := (fun x => w.heap.size ≤ x)) f41_r0_2)⟩, ⟨(tk1 d41_0.o)⟩, X99⟩
 replace hm := ite_f c5 hm
 cases hm
theorem epoch_writer_put_w {p0 p1 p2 bp0 vp0_0 zp0_0 gp0_0 r} (hm : epoch_writer_put p0 p1 p2 = some r) {w : World} (hbp0 : Bx w bp0 214 (Tepoch_writer.cs p0 vp0_0)) (hp0_0 : Own w zp0_0 gp0_0 5 1 vp0_0 (p0.out.map bvc)) (ne0 : Hdn (zp0_0 = 0 ∨ gp0_0 ≠ bp0)) :
    Calls Tryz.prog 112 [.pointer (some ⟨bp0, 0, none⟩), wv p1, .int .i64 p2].toArray w fun e w' => ∃ v, e = .returned v ∧ (∃ ub0_0 zb0_0 gb0_0, v = .tuple #[] ∧ Own w' zb0_0 gb0_0 5 1 ub0_0 (r.out.map bvc) ∧ Hdn (zb0_0 = 0 ∨ (gb0_0 = gp0_0 ∧ zp0_0 ≠ 0) ∨ w.heap.size ≤ gb0_0) ∧ Bx w' bp0 214 (Tepoch_writer.cs r ub0_0) ∧ Kz [(zp0_0, gp0_0), (1, bp0)] w w') := by
 have lt1 := hp0_0.lth
 have lt2 := hbp0.lt
 unfold epoch_writer_put at hm
 refine calls_of_sw 26 Tryz.func112 rfl rfl rfl<|qs 3 rfl<|qm rfl<|qv rfl (vv_sub (k := .i64) (a := p2) (b := 1) rfl rfl)<|qm rfl<|sd_done ?_
 refine sw_block<|sw_loopD (α := Nat × Int × List (BitVec 8) × Value × Nat × Nat) ([2] ++ rg 8 18) (fun ⟨n1, a4, a5, vy6, zy6, gy6⟩ => [(2, .int .i64 a4)]) (fun ⟨n1, a4, a5, vy6, zy6, gy6⟩ wr => (fixN (epoch_writer_put_L1 p1) n1 (a4, a5) = some r) ∧ Own wr zy6 gy6 5 1 vy6 (a5.map bvc) ∧ Hdn (zy6 = 0 ∨ (gy6 = gp0_0 ∧ zp0_0 ≠ 0) ∨ w.heap.size ≤ gy6) ∧ Bx wr bp0 214 (Tepoch_writer.cs (Tepoch_writer.mk a5) vy6) ∧ Kz [(1, bp0), (zp0_0, gp0_0)] w wr) (fun ⟨n1, a4, a5, vy6, zy6, gy6⟩ => n1) ⟨FUEL, w64 (p2 - 1), p0.out, vp0_0, zp0_0, gp0_0⟩ ?_ ?_ ?_
 · exact sbq
 · exact ⟨hm, hp0_0, ⟨tk0⟩, hbp0, Kz.refl _ _⟩
 clear hm; rintro ⟨n1, a4, a5, vy6, zy6, gy6⟩ w1 ⟨hm, Fw1_0, Fw1_1, Fw1_2, K1⟩
 have z3 := K1.size
 have lt4 := Fw1_0.lth
 have lt5 := Fw1_2.lt
 have hb := fix_succ hm; clear hm; obtain ⟨n1, rfl, hm⟩ := hb
 generalize hrec1 : fixN (epoch_writer_put_L1 p1) n1 = rec1 at hm
 unfold epoch_writer_put_L1 at hm
 try dsimp only at hm
 refine sw_seq<|qs 2 rfl<|qm rfl<|qv rfl (vv_geq (a := a4) (b := 0) rfl rfl)<|sd_done<|cnF rfl (fun c1 => ?_) (fun c1 => ?_)
 · replace hm := iF c1 hm
   refine sw_exit<|then_x<|then_x<|block_x ?_
   have X16 := ((Kz.refl [(zp0_0, gp0_0), (1, bp0)] w).kz K1 (tk1 (tk0 : zp0_0 = 0 ∨ (gp0_0 = gp0_0 ∧ zp0_0 ≠ 0) ∨ w.heap.size ≤ gp0_0)))
   cases hm
   refine ⟨_, _, rfl, res_none rfl, ?_⟩
   exact ⟨vy6, zy6, gy6, rfl, Fw1_0, ⟨(pv_1 (A := (fun x => (x = gp0_0 ∧ zp0_0 ≠ 0) ∨ w.heap.size ≤ x)) Fw1_1 tk0)⟩, Fw1_2, X16⟩
 replace hm := iT c1 hm
 refine qu<|sw_seq<|sw_block<|dw [([bp0] ++ zf zy6 gy6),([] ++ zf zy6 gy6)] [(14, [1])] (.leaf [(0,10),(1,10),(2,10),(3,10),(4,11),(5,10),(6,10),(7,10),(8,10),(9,10),(10,0),(11,0),(12,10),(13,10),(14,0)]) ?_
 intro w2 G2 zw2
 refine sdz_leaf<|dn 0 rfl rfl (Kp.refl ([bp0] ++ zf zy6 gy6) w2)<|dn 0 rfl rfl (Kp.refl ([bp0] ++ zf zy6 gy6) w2)<|qh 0 rfl rfl (Kp.refl ([bp0] ++ zf zy6 gy6) w2) (fun w hS => vv_nilCheck rfl rfl)<|qh 0 rfl rfl (Kp.refl ([bp0] ++ zf zy6 gy6) w2) (fun w hS => vv_fieldAddr fa_214_0 rfl) ?_
 have B6 := (Fw1_2.gr G2)
 refine qh 1 rfl rfl (Kp.refl ([] ++ zf zy6 gy6) w2) (fun w hS => vv_load1 (v := vy6) one_32 rfl (Bx.kp B6 hS (tk1 (pb_1 (b := bp0) Fw1_1 (tk2 lt1.o ne0.o)))) rfl)<|dn 0 rfl rfl (Kp.refl ([bp0] ++ zf zy6 gy6) w2)<|dn 0 rfl rfl (Kp.refl ([bp0] ++ zf zy6 gy6) w2)<|qh 0 rfl rfl (Kp.refl ([bp0] ++ zf zy6 gy6) w2) (fun w hS => vv_mul (k := .i64) (a := 8) (b := a4) rfl rfl) ?_
 obtain ⟨nn7, hnn7, hm⟩ := bnd hm
 refine qh 0 rfl rfl (Kp.refl ([bp0] ++ zf zy6 gy6) w2) (fun w hS => vv_shrU (c := p1) (b := (w64 (8 * a4))) rfl rfl hnn7)<|qh 0 rfl rfl (Kp.refl ([bp0] ++ zf zy6 gy6) w2) (fun w hS => vv_cvUB cv_24_5 rfl)<|qz [] rfl (ev_litT [(p1 >>> nn7).setWidth 8] bvc bsl_32_1 rfl rfl (ws_of rfl) rfl rfl rfl) ⟨fun _ => tk0, fun _ => tk0, trivial⟩ ?_
 rintro vw3 w3 ⟨gw3, hbw3, Ow3, G3⟩
 have z7 := G3.size
 have lt8 := Ow3.lth
 refine kG G3 ?_
 have B9 := ((Fw1_0.gr G2).gr G3)
 obtain ⟨l8, hl8, hm⟩ := bnd hm
 refine qz [(zy6, gy6)] rfl (ev_appT (l := a5) (m := [(p1 >>> nn7).setWidth 8]) (c := bvc) apt_32 rfl rfl B9 (Own.rd Ow3) hl8 (by decide)) ⟨fun _ => (tk1 (tk0 : zy6 = 0 ∨ (gy6 = gy6 ∧ zy6 ≠ 0) ∨ w2.heap.size ≤ gy6)), fun _ => (tk1 (tk0 : zy6 = 0 ∨ (gy6 = gy6 ∧ zy6 ≠ 0) ∨ w2.heap.size ≤ gy6)), trivial⟩ ?_
 rintro vw4 w4 ⟨zw4, gw4, Ow4, Aw4, qw4, rw4⟩
 have z10 := Aw4.size
 refine ⟨Kz.ofKa Aw4, ?_⟩
 have S11 := (((Kp.refl ([bp0] ++ zf zy6 gy6) w2).gr G3).ka Aw4 (tk1 (tk0 : zy6 = 0 ∨ (gy6 = gy6 ∧ zy6 ≠ 0) ∨ w2.heap.size ≤ gy6)))
 refine qh 0 rfl rfl S11 (fun w hS => vv_nilCheck rfl rfl)<|qh 0 rfl rfl S11 (fun w hS => vv_fieldAddr fa_214_0 rfl) ?_
 have B12 := ((B6.gr G3).ka Aw4 (tk1 (pb_1 (b := bp0) Fw1_1 (tk2 lt1.o ne0.o))))
 refine qz [(1, bp0)] rfl (ev_st1 (cs' := Tepoch_writer.cs (Tepoch_writer.mk l8) vw4) (one_32).siz rfl rfl (Own.oneB Ow4) B12 rfl rfl) ⟨fun _ => tk0, nofun, trivial⟩ ?_
 rintro _ w5 ⟨Bw5, M5⟩
 have z13 := M5.size
 refine kM M5<|sd_nil<|block_n<|then_n<|qg 3 rfl<|qm rfl<|qv rfl (vv_sub (k := .i64) (a := a4) (b := 1) rfl rfl) ?_
 refine qm rfl<|sd_nil ?_
 have K_14 : Kz [(1, bp0), (zp0_0, gp0_0)] w w5 := ((((K1.gr G2).gr G3).ka Aw4 (tk1 (pv_1 (A := (fun x => (x = gp0_0 ∧ zp0_0 ≠ 0) ∨ w.heap.size ≤ x)) Fw1_1 tk0))).md M5)
 have B15 := (Ow4.md M5 (pb_app rw4 (pb_1 Fw1_1 (tk2 lt1.o ne0.o))))
 subst hrec1
 exact ⟨rfl, ⟨n1, w64 (a4 - 1), l8, vw4, zw4, gw4⟩, sbq, ⟨hm, B15, ⟨(pv_app (A := (fun x => (x = gp0_0 ∧ zp0_0 ≠ 0) ∨ w.heap.size ≤ x)) rw4 (pv_1 (A := (fun x => (x = gp0_0 ∧ zp0_0 ≠ 0) ∨ w.heap.size ≤ x)) Fw1_1 tk0))⟩, Bw5, K_14⟩, Nat.lt_succ_self _⟩
theorem epoch_writer_key_w {p0 p1 bp0 vp0_0 zp0_0 gp0_0 r} (hm : epoch_writer_key p0 p1 = some r) {w : World} (hbp0 : Bx w bp0 214 (Tepoch_writer.cs p0 vp0_0)) (hp0_0 : Own w zp0_0 gp0_0 5 1 vp0_0 (p0.out.map bvc)) (ne0 : Hdn (zp0_0 = 0 ∨ gp0_0 ≠ bp0)) :
    Calls Tryz.prog 113 [.pointer (some ⟨bp0, 0, none⟩), kv p1].toArray w fun e w' => ∃ v, e = .returned v ∧ (∃ ub0_0 zb0_0 gb0_0, v = .tuple #[] ∧ Own w' zb0_0 gb0_0 5 1 ub0_0 (r.out.map bvc) ∧ Hdn (zb0_0 = 0 ∨ (gb0_0 = gp0_0 ∧ zp0_0 ≠ 0) ∨ w.heap.size ≤ gb0_0) ∧ Bx w' bp0 214 (Tepoch_writer.cs r ub0_0) ∧ Kz [(zp0_0, gp0_0), (1, bp0)] w w') := by
 have lt1 := hp0_0.lth
 have lt2 := hbp0.lt
 unfold epoch_writer_key at hm
 refine calls_of_sw 13 Tryz.func113 rfl rfl rfl<|qs 1 rfl<|qe rfl (ev_box (cs := kb p1) rfl rfl) ?_
 rintro _ w1 ⟨b1, rfl, hbw1, Bw1, G1⟩
 have z3 := G1.size
 have lt4 := Bw1.lt
 refine sd_done<|dw [([bp0] ++ zf zp0_0 gp0_0),([] ++ zf zp0_0 gp0_0)] [(9, [1])] (.leaf [(0,10),(1,10),(2,10),(3,10),(4,11),(5,10),(6,0),(7,10),(8,10),(9,0)]) ?_
 intro w2 G2 zw2
 refine sdz_leaf<|dn 0 rfl rfl (Kp.refl ([bp0] ++ zf zp0_0 gp0_0) w2)<|dn 0 rfl rfl (Kp.refl ([bp0] ++ zf zp0_0 gp0_0) w2)<|qh 0 rfl rfl (Kp.refl ([bp0] ++ zf zp0_0 gp0_0) w2) (fun w hS => vv_nilCheck rfl rfl)<|qh 0 rfl rfl (Kp.refl ([bp0] ++ zf zp0_0 gp0_0) w2) (fun w hS => vv_fieldAddr fa_214_0 rfl) ?_
 have B5 := ((hbp0.gr G1).gr G2)
 refine qh 1 rfl rfl (Kp.refl ([] ++ zf zp0_0 gp0_0) w2) (fun w hS => vv_load1 (v := vp0_0) one_32 rfl (Bx.kp B5 hS (tk1 ((tk2 lt1.o ne0.o) : zp0_0 = 0 ∨ gp0_0 ≠ bp0))) rfl) ?_
 have B6 := (Bw1.gr G2)
 have Rk7 := rd_key (o := 0) (p := p1) B6 rfl
 have lt8 := Rk7.lth
 refine qh 0 rfl rfl (Kp.refl ([bp0] ++ zf zp0_0 gp0_0) w2) (fun w hS => vv_sliceA (n := 16) (l := 0) (h := 16) Tryz.underlying23 (one_5).siz rfl rfl rfl (by decide) (by decide) (by decide)) ?_
 have B9 := ((hp0_0.gr G1).gr G2)
 obtain ⟨l1, hl1, hm⟩ := bnd hm
 refine qz [(zp0_0, gp0_0)] rfl (ev_appT (l := p0.out) (m := kby p1) (c := bvc) apt_32 rfl rfl B9 Rk7 hl1 (by decide)) ⟨fun _ => (tk1 (tk0 : zp0_0 = 0 ∨ (gp0_0 = gp0_0 ∧ zp0_0 ≠ 0) ∨ w2.heap.size ≤ gp0_0)), fun _ => (tk1 (tk0 : zp0_0 = 0 ∨ (gp0_0 = gp0_0 ∧ zp0_0 ≠ 0) ∨ w2.heap.size ≤ gp0_0)), trivial⟩ ?_
 rintro vw3 w3 ⟨zw3, gw3, Ow3, Aw3, qw3, rw3⟩
 have z10 := Aw3.size
 refine ⟨Kz.ofKa Aw3, ?_⟩
 have S11 := ((Kp.refl ([bp0] ++ zf zp0_0 gp0_0) w2).ka Aw3 (tk1 (tk0 : zp0_0 = 0 ∨ (gp0_0 = gp0_0 ∧ zp0_0 ≠ 0) ∨ w2.heap.size ≤ gp0_0)))
 refine qh 0 rfl rfl S11 (fun w hS => vv_nilCheck rfl rfl)<|qh 0 rfl rfl S11 (fun w hS => vv_fieldAddr fa_214_0 rfl) ?_
 have B12 := (B5.ka Aw3 (tk1 ((tk2 lt1.o ne0.o) : zp0_0 = 0 ∨ gp0_0 ≠ bp0)))
 refine qz [(1, bp0)] rfl (ev_st1 (cs' := Tepoch_writer.cs (Tepoch_writer.mk l1) vw3) (one_32).siz rfl rfl (Own.oneB Ow3) B12 rfl rfl) ⟨fun _ => tk0, nofun, trivial⟩ ?_
 rintro _ w4 ⟨Bw4, M4⟩
 have z13 := M4.size
 refine kM M4<|sd_nil ?_
 have B14 := (Ow3.md M4 (pb_app rw3 (tk2 lt1.o ne0.o)))
 have X15 := (((((Kz.refl [(zp0_0, gp0_0), (1, bp0)] w).gr G1).gr G2).ka Aw3 (tk1 (tk0 : zp0_0 = 0 ∨ (gp0_0 = gp0_0 ∧ zp0_0 ≠ 0) ∨ w.heap.size ≤ gp0_0))).md M4)
 cases hm
 refine ⟨_, _, rfl, res_none rfl, ?_⟩
 exact ⟨vw3, zw3, gw3, rfl, B14, ⟨(pv_app (A := (fun x => (x = gp0_0 ∧ zp0_0 ≠ 0) ∨ w.heap.size ≤ x)) rw3 tk0)⟩, Bw4, X15⟩
theorem epoch_body_w {p0 vp0_2 zp0_2 gp0_2 op0_2 vp0_4 zp0_4 gp0_4 op0_4 vp0_39 zp0_39 gp0_39 op0_39 r} (hm : epoch_body p0 = some r) {w : World} (hp0_2 : Rd w zp0_2 gp0_2 op0_2 18 vp0_2 (p0.Head.Items.map TItem.cs)) (hp0_4 : Rd w zp0_4 gp0_4 op0_4 2 vp0_4 (p0.Head.Points.map TPoint.cs)) (hp0_39 : Rd w zp0_39 gp0_39 op0_39 1 vp0_39 (p0.Data.map bvc)) :
    Calls Tryz.prog 52 [.agg (TPacket.cs p0 vp0_2 vp0_4 vp0_39).toArray].toArray w fun e w' => ∃ v, e = .returned v ∧ (∃ ur0_s zr0_s gr0_s, v = ur0_s ∧ Own w' zr0_s gr0_s 5 1 ur0_s (r.map bvc) ∧ Hdn (zr0_s = 0 ∨ w.heap.size ≤ gr0_s) ∧ Gr w w') := by
 have lt1 := hp0_2.lth
 have lt2 := hp0_4.lth
 have lt3 := hp0_39.lth
 unfold epoch_body at hm
 refine calls_of_sw 120 Tryz.func52 rfl rfl rfl<|qs 2 rfl<|qe rfl (ev_box (cs := TPacket.cs p0 vp0_2 vp0_4 vp0_39) rfl rfl) ?_
 rintro _ w1 ⟨b1, rfl, hbw1, Bw1, G1⟩
 have z4 := G1.size
 have lt5 := Bw1.lt
 refine qm rfl<|qd 3 rfl<|qv rfl (vv_build (cs := Tepoch_writer.cs (Tepoch_writer.mk []) (.slice none 0 0)) bs_214 rfl rfl)<|qe rfl (ev_box (cs := Tepoch_writer.cs (Tepoch_writer.mk []) (.slice none 0 0)) rfl rfl) ?_
 rintro _ w2 ⟨b2, rfl, hbw2, Bw2, G2⟩
 have z6 := G2.size
 have lt7 := Bw2.lt
 refine qm rfl<|qd 5 rfl<|qm rfl<|qv rfl (vv_fieldAddr fa_38_0 rfl) ?_
 have B8 := (Bw1.gr G2)
 refine qv rfl (vv_load1 (v := bv p0.Kind) one_5 rfl B8 rfl)<|qv rfl (vv_cvBU cv_5_24 rfl) ?_
 obtain ⟨x1, hx1, hm⟩ := bnd hm
 refine qe rfl (eC en_112 rfl (epoch_writer_put_w hx1 Bw2 (own_nil _ 0 5 1) ⟨tk0⟩)) ?_
 rintro _ w3 ⟨u3_b0_0, z3_b0_0, g3_b0_0, rfl, O3_b0_0, f3_b0_0, Bk3_0, K3⟩
 have z9 := K3.size
 have lt10 := O3_b0_0.lth
 refine sd_done<|sw_seq<|qs 3 rfl<|qv rfl (vv_fieldAddr fa_38_0 rfl) ?_
 have B11 := (B8.kz K3)
 refine qv rfl (vv_load1 (v := bv p0.Kind) one_5 rfl B11 rfl)<|qv rfl (vv_eqlB (p := p0.Kind) (q := 2#8) rfl rfl)<|sd_done<|sw_cond rfl (fun c1 => ?_) (fun c1 => ?_)
 · replace hm := iT c1 hm
   refine qs 5 rfl<|qm rfl<|qv rfl (vv_fieldAddr fa_38_3 rfl)<|qv rfl (vv_load1 (v := bv p0.Low) one_5 rfl B11 rfl)<|qv rfl (vv_cvBU cv_5_24 rfl) ?_
   obtain ⟨x2, hx2, hm⟩ := bnd hm
   refine qe rfl (eC en_112 rfl (epoch_writer_put_w hx2 Bk3_0 O3_b0_0 ⟨(tk1 (pb_1 (b := b2) f3_b0_0 (.inl rfl)))⟩)) ?_
   rintro _ w4 ⟨u4_b0_0, z4_b0_0, g4_b0_0, rfl, O4_b0_0, f4_b0_0, Bk4_0, K4⟩
   have z12 := K4.size
   have lt13 := O4_b0_0.lth
   refine qd 4 rfl<|qm rfl<|qv rfl (vv_fieldAddr fa_38_4 rfl) ?_
   have B14 := (B11.kz K4 (tk1 (pb_1 (b := b1) f3_b0_0 (.inl rfl))))
   refine qv rfl (vv_load1 (v := wv p0.Number) one_24 rfl B14 rfl) ?_
   obtain ⟨x3, hx3, hm⟩ := bnd hm
   refine qe rfl (eC en_112 rfl (epoch_writer_put_w hx3 Bk4_0 O4_b0_0 ⟨(tk1 (pb_1 (b := b2) f4_b0_0 (pb_1 f3_b0_0 (.inl rfl))))⟩)) ?_
   rintro _ w5 ⟨u5_b0_0, z5_b0_0, g5_b0_0, rfl, O5_b0_0, f5_b0_0, Bk5_0, K5⟩
   have z15 := K5.size
   have lt16 := O5_b0_0.lth
   refine qd 6 rfl<|qm rfl<|qv rfl (vv_fieldAddr fa_38_5 rfl) ?_
   have B17 := (B14.kz K5 (tk1 (pb_1 (b := b1) f4_b0_0 (pb_1 f3_b0_0 (.inl rfl)))))
   refine qv rfl (vv_load1 (v := vp0_39) one_32 rfl B17 rfl) ?_
   have Y1 := Gr.trans G1 G2
   have B18 := ((((hp0_39.gr Y1).kz K3 (tk1 (pb_lt (b := b2) lt3))).kz K4 (tk2 ((pv_sw (pv_1 (A := (fun x => zp0_39 = 0 ∨ x ≠ gp0_39)) f3_b0_0 (.inl rfl) (fun x hx => (tk1 lt3.o)))) : zp0_39 = 0 ∨ z3_b0_0 = 0 ∨ gp0_39 ≠ g3_b0_0) (pb_lt (b := b2) lt3))).kz K5 (tk2 ((pv_sw (pv_1 (A := (fun x => zp0_39 = 0 ∨ x ≠ gp0_39)) f4_b0_0 (pv_1 (A := (fun x => zp0_39 = 0 ∨ x ≠ gp0_39)) f3_b0_0 (.inl rfl) (fun x hx => (tk1 lt3.o))) (fun x hx => (tk1 lt3.o)))) : zp0_39 = 0 ∨ z4_b0_0 = 0 ∨ gp0_39 ≠ g4_b0_0) (pb_lt (b := b2) lt3)))
   refine qv rfl (vv_lenT (l := p0.Data) (c := bvc) Tryz.underlying32 rfl B18)<|qv rfl (vv_cvIU cv_3_24 rfl) ?_
   obtain ⟨x4, hx4, hm⟩ := bnd hm
   refine qe rfl (eC en_112 rfl (epoch_writer_put_w hx4 Bk5_0 O5_b0_0 ⟨(tk1 (pb_1 (b := b2) f5_b0_0 (pb_1 f4_b0_0 (pb_1 f3_b0_0 (.inl rfl)))))⟩)) ?_
   rintro _ w6 ⟨u6_b0_0, z6_b0_0, g6_b0_0, rfl, O6_b0_0, f6_b0_0, Bk6_0, K6⟩
   have z19 := K6.size
   have lt20 := O6_b0_0.lth
   refine sd_done<|sw_seq<|dw [([] ++ zf z6_b0_0 g6_b0_0)] [] (.leaf [(0,10),(1,10),(2,10),(3,10),(4,10),(5,10),(6,0),(7,10)]) ?_
   intro w7 G7 zw7
   refine sdz_leaf<|dn 0 rfl rfl (Kp.refl ([] ++ zf z6_b0_0 g6_b0_0) w7)<|qh 0 rfl rfl (Kp.refl ([] ++ zf z6_b0_0 g6_b0_0) w7) (fun w hS => vv_nilCheck rfl rfl)<|qh 0 rfl rfl (Kp.refl ([] ++ zf z6_b0_0 g6_b0_0) w7) (fun w hS => vv_fieldAddr fa_214_0 rfl) ?_
   have B21 := (Bk6_0.gr G7)
   refine qh 0 rfl rfl (Kp.refl ([] ++ zf z6_b0_0 g6_b0_0) w7) (fun w hS => vv_load1 (v := u6_b0_0) one_32 rfl (Bx.kp B21 hS (tk1 (pb_1 (b := b2) f6_b0_0 (pb_1 f5_b0_0 (pb_1 f4_b0_0 (pb_1 f3_b0_0 (.inl rfl))))))) rfl)<|qh 0 rfl rfl (Kp.refl ([] ++ zf z6_b0_0 g6_b0_0) w7) (fun w hS => vv_fieldAddr fa_38_5 rfl) ?_
   have B22 := ((B17.kz K6 (tk1 (pb_1 (b := b1) f5_b0_0 (pb_1 f4_b0_0 (pb_1 f3_b0_0 (.inl rfl)))))).gr G7)
   refine qh 0 rfl rfl (Kp.refl ([] ++ zf z6_b0_0 g6_b0_0) w7) (fun w hS => vv_load1 (v := vp0_39) one_32 rfl (Bx.kp B22 hS (tk1 (pb_1 (b := b1) f6_b0_0 (pb_1 f5_b0_0 (pb_1 f4_b0_0 (pb_1 f3_b0_0 (.inl rfl))))))) rfl) ?_
   have B23 := (O6_b0_0.gr G7)
   have B24 := ((B18.kz K6 (tk2 ((pv_sw (pv_1 (A := (fun x => zp0_39 = 0 ∨ x ≠ gp0_39)) f5_b0_0 (pv_1 (A := (fun x => zp0_39 = 0 ∨ x ≠ gp0_39)) f4_b0_0 (pv_1 (A := (fun x => zp0_39 = 0 ∨ x ≠ gp0_39)) f3_b0_0 (.inl rfl) (fun x hx => (tk1 lt3.o))) (fun x hx => (tk1 lt3.o))) (fun x hx => (tk1 lt3.o)))) : zp0_39 = 0 ∨ z5_b0_0 = 0 ∨ gp0_39 ≠ g5_b0_0) (pb_lt (b := b2) lt3))).gr G7)
   obtain ⟨l5, hl5, hm⟩ := bnd hm
   refine qz [(z6_b0_0, g6_b0_0)] rfl (ev_appT (l := x4.out) (m := p0.Data) (c := bvc) apt_32 rfl rfl B23 B24 hl5 (by decide)) ⟨fun _ => (tk1 (tk0 : z6_b0_0 = 0 ∨ (g6_b0_0 = g6_b0_0 ∧ z6_b0_0 ≠ 0) ∨ w7.heap.size ≤ g6_b0_0)), trivial⟩ ?_
   rintro vw8 w8 ⟨zw8, gw8, Ow8, Aw8, qw8, rw8⟩
   have z25 := Aw8.size
   refine ⟨Kz.ofKa Aw8, ?_⟩
   have S26 := ((Kp.refl ([] ++ zf z6_b0_0 g6_b0_0) w7).ka Aw8 (tk1 (tk0 : z6_b0_0 = 0 ∨ (g6_b0_0 = g6_b0_0 ∧ z6_b0_0 ≠ 0) ∨ w7.heap.size ≤ g6_b0_0)))
   refine dn 0 rfl rfl S26<|qb ?_
   have X27 := ((((((((Gr.refl w).trans Y1).kz K3).kz K4 (tk1 (pv_1 (A := (fun x => w.heap.size ≤ x)) f3_b0_0 (.inl rfl)))).kz K5 (tk1 (pv_1 (A := (fun x => w.heap.size ≤ x)) f4_b0_0 (pv_1 (A := (fun x => w.heap.size ≤ x)) f3_b0_0 (.inl rfl))))).kz K6 (tk1 (pv_1 (A := (fun x => w.heap.size ≤ x)) f5_b0_0 (pv_1 (A := (fun x => w.heap.size ≤ x)) f4_b0_0 (pv_1 (A := (fun x => w.heap.size ≤ x)) f3_b0_0 (.inl rfl)))))).trans G7).ka Aw8 (tk1 (pv_1 (A := (fun x => w.heap.size ≤ x)) f6_b0_0 (pv_1 (A := (fun x => w.heap.size ≤ x)) f5_b0_0 (pv_1 (A := (fun x => w.heap.size ≤ x)) f4_b0_0 (pv_1 (A := (fun x => w.heap.size ≤ x)) f3_b0_0 (.inl rfl)))))))
   cases hm
   refine ⟨_, _, rfl, res_1 rfl (rv_tmp rfl), ?_⟩
   exact ⟨vw8, zw8, gw8, rfl, Ow8, ⟨(pv_app (A := (fun x => w.heap.size ≤ x)) rw8 (pv_1 (A := (fun x => w.heap.size ≤ x)) f6_b0_0 (pv_1 (A := (fun x => w.heap.size ≤ x)) f5_b0_0 (pv_1 (A := (fun x => w.heap.size ≤ x)) f4_b0_0 (pv_1 (A := (fun x => w.heap.size ≤ x)) f3_b0_0 (.inl rfl))))))⟩, X27⟩
 replace hm := iF c1 hm
 refine qu<|qs 5 rfl<|qm rfl<|qv rfl (vv_fieldAddr fa_38_1 rfl)<|qv rfl (vv_load1 (v := .int .i64 p0.Epoch) one_3 rfl B11 rfl) ?_
 refine qv rfl (vv_cvIU cv_3_24 rfl) ?_
 obtain ⟨x6, hx6, hm⟩ := bnd hm
 refine qe rfl (eC en_112 rfl (epoch_writer_put_w hx6 Bk3_0 O3_b0_0 ⟨(tk1 (pb_1 (b := b2) f3_b0_0 (.inl rfl)))⟩)) ?_
 rintro _ w9 ⟨u9_b0_0, z9_b0_0, g9_b0_0, rfl, O9_b0_0, f9_b0_0, Bk9_0, K9⟩
 have z28 := K9.size
 have lt29 := O9_b0_0.lth
 refine qd 7 rfl<|qm rfl<|qv rfl (vv_fieldAddr fa_38_2 rfl)<|qv rfl (vv_fieldAddr fa_36_0 rfl) ?_
 have B30 := (B11.kz K9 (tk1 (pb_1 (b := b1) f3_b0_0 (.inl rfl))))
 refine qv rfl (vv_load1 (v := vp0_2) one_33 rfl B30 rfl) ?_
 have Y2 := Gr.trans G1 G2
 have B31 := (((hp0_2.gr Y2).kz K3 (tk1 (pb_lt (b := b2) lt1))).kz K9 (tk2 ((pv_sw (pv_1 (A := (fun x => zp0_2 = 0 ∨ x ≠ gp0_2)) f3_b0_0 (.inl rfl) (fun x hx => (tk1 lt1.o)))) : zp0_2 = 0 ∨ z3_b0_0 = 0 ∨ gp0_2 ≠ g3_b0_0) (pb_lt (b := b2) lt1)))
 refine qv rfl (vv_lenT (l := p0.Head.Items) (c := TItem.cs) Tryz.underlying33 rfl B31)<|qv rfl (vv_cvIU cv_3_24 rfl) ?_
 obtain ⟨x7, hx7, hm⟩ := bnd hm
 refine qe rfl (eC en_112 rfl (epoch_writer_put_w hx7 Bk9_0 O9_b0_0 ⟨(tk1 (pb_1 (b := b2) f9_b0_0 (pb_1 f3_b0_0 (.inl rfl))))⟩)) ?_
 rintro _ w10 ⟨u10_b0_0, z10_b0_0, g10_b0_0, rfl, O10_b0_0, f10_b0_0, Bk10_0, K10⟩
 have z32 := K10.size
 have lt33 := O10_b0_0.lth
 refine sd_done<|sw_seq<|qs 5 rfl<|qv rfl (vv_fieldAddr fa_38_2 rfl)<|qv rfl (vv_fieldAddr fa_36_0 rfl) ?_
 have B34 := (B30.kz K10 (tk1 (pb_1 (b := b1) f9_b0_0 (pb_1 f3_b0_0 (.inl rfl)))))
 refine qv rfl (vv_load1 (v := vp0_2) one_33 rfl B34 rfl) ?_
 have B35 := (B31.kz K10 (tk2 ((pv_sw (pv_1 (A := (fun x => zp0_2 = 0 ∨ x ≠ gp0_2)) f9_b0_0 (pv_1 (A := (fun x => zp0_2 = 0 ∨ x ≠ gp0_2)) f3_b0_0 (.inl rfl) (fun x hx => (tk1 lt1.o))) (fun x hx => (tk1 lt1.o)))) : zp0_2 = 0 ∨ z9_b0_0 = 0 ∨ gp0_2 ≠ g9_b0_0) (pb_lt (b := b2) lt1)))
 refine qv rfl (vv_lenT (l := p0.Head.Items) (c := TItem.cs) Tryz.underlying33 rfl B35)<|qm rfl<|sd_done<|sw_block ?_
 have X36 := (((((Gr.refl w).trans Y2).kz K3).kz K9 (tk1 (pv_1 (A := (fun x => w.heap.size ≤ x)) f3_b0_0 (.inl rfl)))).kz K10 (tk1 (pv_1 (A := (fun x => w.heap.size ≤ x)) f9_b0_0 (pv_1 (A := (fun x => w.heap.size ≤ x)) f3_b0_0 (.inl rfl)))))
 have B37 := ((((hp0_4.gr Y2).kz K3 (tk1 (pb_lt (b := b2) lt2))).kz K9 (tk2 ((pv_sw (pv_1 (A := (fun x => zp0_4 = 0 ∨ x ≠ gp0_4)) f3_b0_0 (.inl rfl) (fun x hx => (tk1 lt2.o)))) : zp0_4 = 0 ∨ z3_b0_0 = 0 ∨ gp0_4 ≠ g3_b0_0) (pb_lt (b := b2) lt2))).kz K10 (tk2 ((pv_sw (pv_1 (A := (fun x => zp0_4 = 0 ∨ x ≠ gp0_4)) f9_b0_0 (pv_1 (A := (fun x => zp0_4 = 0 ∨ x ≠ gp0_4)) f3_b0_0 (.inl rfl) (fun x hx => (tk1 lt2.o))) (fun x hx => (tk1 lt2.o)))) : zp0_4 = 0 ∨ z9_b0_0 = 0 ∨ gp0_4 ≠ g9_b0_0) (pb_lt (b := b2) lt2)))
 have B38 := ((((hp0_39.gr Y2).kz K3 (tk1 (pb_lt (b := b2) lt3))).kz K9 (tk2 ((pv_sw (pv_1 (A := (fun x => zp0_39 = 0 ∨ x ≠ gp0_39)) f3_b0_0 (.inl rfl) (fun x hx => (tk1 lt3.o)))) : zp0_39 = 0 ∨ z3_b0_0 = 0 ∨ gp0_39 ≠ g3_b0_0) (pb_lt (b := b2) lt3))).kz K10 (tk2 ((pv_sw (pv_1 (A := (fun x => zp0_39 = 0 ∨ x ≠ gp0_39)) f9_b0_0 (pv_1 (A := (fun x => zp0_39 = 0 ∨ x ≠ gp0_39)) f3_b0_0 (.inl rfl) (fun x hx => (tk1 lt3.o))) (fun x hx => (tk1 lt3.o)))) : zp0_39 = 0 ∨ z9_b0_0 = 0 ∨ gp0_39 ≠ g9_b0_0) (pb_lt (b := b2) lt3)))
 refine sw_loopD (α := Nat × Int × Tepoch_writer × Value × Nat × Nat) ([5] ++ rg 56 21) (fun ⟨n1, a11, a12, vy13, zy13, gy13⟩ => [(56, .int .i64 a11)]) (fun ⟨n1, a11, a12, vy13, zy13, gy13⟩ wr => (fixN (epoch_body_L1 p0) n1 (a11, a12) = some r) ∧ Own wr zy13 gy13 5 1 vy13 (a12.out.map bvc) ∧ Hdn (zy13 = 0 ∨ (gy13 = g10_b0_0 ∧ z10_b0_0 ≠ 0) ∨ w10.heap.size ≤ gy13) ∧ Bx wr b2 214 (Tepoch_writer.cs a12 vy13) ∧ Kz [(1, b2), (z10_b0_0, g10_b0_0)] w10 wr) (fun ⟨n1, a11, a12, vy13, zy13, gy13⟩ => n1) ⟨FUEL, 0, x7, u10_b0_0, z10_b0_0, g10_b0_0⟩ ?_ ?_ ?_
 · exact sbq
 · exact ⟨hm, O10_b0_0, ⟨tk0⟩, Bk10_0, Kz.refl _ _⟩
 clear hm; rintro ⟨n1, a11, a12, vy13, zy13, gy13⟩ w11 ⟨hm, Fw11_0, Fw11_1, Fw11_2, K11⟩
 have z39 := K11.size
 have lt40 := Fw11_0.lth
 have lt41 := Fw11_2.lt
 have hb := fix_succ hm; clear hm; obtain ⟨n1, rfl, hm⟩ := hb
 generalize hrec1 : fixN (epoch_body_L1 p0) n1 = rec1 at hm
 unfold epoch_body_L1 at hm
 try dsimp only at hm
 refine qs 1 rfl<|qv rfl (vv_lss (a := a11) (b := (p0.Head.Items.length : Int)) rfl rfl)<|sd_done<|sw_seq<|sw_cond rfl (fun c2 => ?_) (fun c2 => ?_)
 · replace hm := iT c2 hm
   refine qu<|sw_seq<|sw_block<|qs 4 rfl ?_
   obtain ⟨y14, hy14, hm⟩ := bnd hm
   have B42 := (B35.kz K11 (tk2 ((pv_sw (pv_1 (A := (fun x => zp0_2 = 0 ∨ x ≠ gp0_2)) f10_b0_0 (pv_1 (A := (fun x => zp0_2 = 0 ∨ x ≠ gp0_2)) f9_b0_0 (pv_1 (A := (fun x => zp0_2 = 0 ∨ x ≠ gp0_2)) f3_b0_0 (.inl rfl) (fun x hx => (tk1 lt1.o))) (fun x hx => (tk1 lt1.o))) (fun x hx => (tk1 lt1.o)))) : zp0_2 = 0 ∨ z10_b0_0 = 0 ∨ gp0_2 ≠ g10_b0_0) (pb_lt (b := b2) lt1)))
   refine qv rfl (vv_ixT (i := a11) Tryz.underlying33 (agg_173).siz rfl B42 rfl hy14)<|qv rfl (vv_elWT agg_173 rfl B42 hy14 (by first | rfl | omega))<|qe rfl (ev_alloc (cs := TItem.cs (TItem.mk (TSubset.mk 0 0) k0)) zv_173 rfl) ?_
   rintro _ w12 ⟨b12, rfl, hbw12, Bw12, G12⟩
   have z43 := G12.size
   have lt44 := Bw12.lt
   refine qe rfl (ev_stW agg_173 rfl rfl rfl Bw12 rfl rfl) ?_
   rintro _ w13 ⟨Bw13, M13⟩
   have z45 := M13.size
   refine qd 6 rfl<|qm rfl<|qv rfl (vv_fieldAddr fa_173_0 rfl)<|qv rfl (vv_fieldAddr fa_171_0 rfl)<|qv rfl (vv_load1 (v := .int .i64 y14.Subset.Node) one_3 rfl Bw13 rfl) ?_
   refine qv rfl (vv_cvIU cv_3_24 rfl) ?_
   have B46 := ((Fw11_2.gr G12).md M13)
   have B47 := ((Fw11_0.gr G12).md M13 (pb_lt lt40))
   obtain ⟨x15, hx15, hm⟩ := bnd hm
   refine qe rfl (eC en_112 rfl (epoch_writer_put_w hx15 B46 B47 ⟨(tk1 (pb_1 (b := b2) Fw11_1 (pb_1 f10_b0_0 (pb_1 f9_b0_0 (pb_1 f3_b0_0 (.inl rfl))))))⟩)) ?_
   rintro _ w14 ⟨u14_b0_0, z14_b0_0, g14_b0_0, rfl, O14_b0_0, f14_b0_0, Bk14_0, K14⟩
   have z48 := K14.size
   have lt49 := O14_b0_0.lth
   refine qd 6 rfl<|qm rfl<|qv rfl (vv_fieldAddr fa_173_0 rfl)<|qv rfl (vv_fieldAddr fa_171_1 rfl) ?_
   have B50 := (Bw13.kz K14 (tk1 (pb_lt (b := b12) lt40)))
   refine qv rfl (vv_load1 (v := .int .i64 y14.Subset.Minus) one_3 rfl B50 rfl)<|qv rfl (vv_cvIU cv_3_24 rfl) ?_
   obtain ⟨x16, hx16, hm⟩ := bnd hm
   refine qe rfl (eC en_112 rfl (epoch_writer_put_w hx16 Bk14_0 O14_b0_0 ⟨(tk1 (pb_1 (b := b2) f14_b0_0 (pb_1 Fw11_1 (pb_1 f10_b0_0 (pb_1 f9_b0_0 (pb_1 f3_b0_0 (.inl rfl)))))))⟩)) ?_
   rintro _ w15 ⟨u15_b0_0, z15_b0_0, g15_b0_0, rfl, O15_b0_0, f15_b0_0, Bk15_0, K15⟩
   have z51 := K15.size
   have lt52 := O15_b0_0.lth
   refine sd_done<|qg 4 rfl<|qm rfl<|qv rfl (vv_fieldAddr fa_173_1 rfl) ?_
   have B53 := (B50.kz K15 (tk1 (pb_1 (b := b12) f14_b0_0 (pb_lt lt40))))
   refine qv rfl (vv_loadM (vs := kb y14.Box) agg_23 rfl B53 rfl rfl) ?_
   obtain ⟨x17, hx17, hm⟩ := bnd hm
   refine qe rfl (eC en_113 rfl (epoch_writer_key_w hx17 Bk15_0 O15_b0_0 ⟨(tk1 (pb_1 (b := b2) f15_b0_0 (pb_1 f14_b0_0 (pb_1 Fw11_1 (pb_1 f10_b0_0 (pb_1 f9_b0_0 (pb_1 f3_b0_0 (.inl rfl))))))))⟩)) ?_
   rintro _ w16 ⟨u16_b0_0, z16_b0_0, g16_b0_0, rfl, O16_b0_0, f16_b0_0, Bk16_0, K16⟩
   have z54 := K16.size
   have lt55 := O16_b0_0.lth
   refine sd_nil<|block_n<|then_n<|qg 2 rfl<|qv rfl (vv_add (k := .i64) (a := a11) (b := 1) rfl rfl)<|qm rfl<|sd_nil ?_
   have K_56 : Kz [(1, b2), (z10_b0_0, g10_b0_0)] w10 w16 := (((((K11.gr G12).md M13).kz K14 (tk1 (pv_1 (A := (fun x => (x = g10_b0_0 ∧ z10_b0_0 ≠ 0) ∨ w10.heap.size ≤ x)) Fw11_1 tk0))).kz K15 (tk1 (pv_1 (A := (fun x => (x = g10_b0_0 ∧ z10_b0_0 ≠ 0) ∨ w10.heap.size ≤ x)) f14_b0_0 (pv_1 (A := (fun x => (x = g10_b0_0 ∧ z10_b0_0 ≠ 0) ∨ w10.heap.size ≤ x)) Fw11_1 tk0)))).kz K16 (tk1 (pv_1 (A := (fun x => (x = g10_b0_0 ∧ z10_b0_0 ≠ 0) ∨ w10.heap.size ≤ x)) f15_b0_0 (pv_1 (A := (fun x => (x = g10_b0_0 ∧ z10_b0_0 ≠ 0) ∨ w10.heap.size ≤ x)) f14_b0_0 (pv_1 (A := (fun x => (x = g10_b0_0 ∧ z10_b0_0 ≠ 0) ∨ w10.heap.size ≤ x)) Fw11_1 tk0)))))
   subst hrec1
   exact ⟨rfl, ⟨n1, w64 (a11 + 1), x17, u16_b0_0, z16_b0_0, g16_b0_0⟩, sbq, ⟨hm, O16_b0_0, ⟨(pv_1 (A := (fun x => (x = g10_b0_0 ∧ z10_b0_0 ≠ 0) ∨ w10.heap.size ≤ x)) f16_b0_0 (pv_1 (A := (fun x => (x = g10_b0_0 ∧ z10_b0_0 ≠ 0) ∨ w10.heap.size ≤ x)) f15_b0_0 (pv_1 (A := (fun x => (x = g10_b0_0 ∧ z10_b0_0 ≠ 0) ∨ w10.heap.size ≤ x)) f14_b0_0 (pv_1 (A := (fun x => (x = g10_b0_0 ∧ z10_b0_0 ≠ 0) ∨ w10.heap.size ≤ x)) Fw11_1 tk0))))⟩, Bk16_0, K_56⟩, Nat.lt_succ_self _⟩
 replace hm := iF c2 hm
 refine sw_exit<|then_x<|then_x<|block_x<|then_n<|qs 5 rfl ?_
 refine qm rfl<|qv rfl (vv_fieldAddr fa_38_2 rfl)<|qv rfl (vv_fieldAddr fa_36_1 rfl) ?_
 have B57 := (B34.kz K11 (tk1 (pb_1 (b := b1) f10_b0_0 (pb_1 f9_b0_0 (pb_1 f3_b0_0 (.inl rfl))))))
 refine qv rfl (vv_load1 (v := wv p0.Head.Base) one_24 rfl B57 rfl) ?_
 obtain ⟨x18, hx18, hm⟩ := bnd hm
 refine qe rfl (eC en_112 rfl (epoch_writer_put_w hx18 Fw11_2 Fw11_0 ⟨(tk1 (pb_1 (b := b2) Fw11_1 (pb_1 f10_b0_0 (pb_1 f9_b0_0 (pb_1 f3_b0_0 (.inl rfl))))))⟩)) ?_
 rintro _ w17 ⟨u17_b0_0, z17_b0_0, g17_b0_0, rfl, O17_b0_0, f17_b0_0, Bk17_0, K17⟩
 have z58 := K17.size
 have lt59 := O17_b0_0.lth
 refine qd 7 rfl<|qm rfl<|qv rfl (vv_fieldAddr fa_38_2 rfl)<|qv rfl (vv_fieldAddr fa_36_2 rfl) ?_
 have B60 := (B57.kz K17 (tk1 (pb_1 (b := b1) Fw11_1 (pb_1 f10_b0_0 (pb_1 f9_b0_0 (pb_1 f3_b0_0 (.inl rfl)))))))
 refine qv rfl (vv_load1 (v := vp0_4) one_34 rfl B60 rfl) ?_
 have B61 := ((B37.kz K11 (tk2 ((pv_sw (pv_1 (A := (fun x => zp0_4 = 0 ∨ x ≠ gp0_4)) f10_b0_0 (pv_1 (A := (fun x => zp0_4 = 0 ∨ x ≠ gp0_4)) f9_b0_0 (pv_1 (A := (fun x => zp0_4 = 0 ∨ x ≠ gp0_4)) f3_b0_0 (.inl rfl) (fun x hx => (tk1 lt2.o))) (fun x hx => (tk1 lt2.o))) (fun x hx => (tk1 lt2.o)))) : zp0_4 = 0 ∨ z10_b0_0 = 0 ∨ gp0_4 ≠ g10_b0_0) (pb_lt (b := b2) lt2))).kz K17 (tk2 ((pv_sw (pv_1 (A := (fun x => zp0_4 = 0 ∨ x ≠ gp0_4)) Fw11_1 (pv_1 (A := (fun x => zp0_4 = 0 ∨ x ≠ gp0_4)) f10_b0_0 (pv_1 (A := (fun x => zp0_4 = 0 ∨ x ≠ gp0_4)) f9_b0_0 (pv_1 (A := (fun x => zp0_4 = 0 ∨ x ≠ gp0_4)) f3_b0_0 (.inl rfl) (fun x hx => (tk1 lt2.o))) (fun x hx => (tk1 lt2.o))) (fun x hx => (tk1 lt2.o))) (fun x hx => (tk1 lt2.o)))) : zp0_4 = 0 ∨ zy13 = 0 ∨ gp0_4 ≠ gy13) (pb_lt (b := b2) lt2)))
 refine qv rfl (vv_lenT (l := p0.Head.Points) (c := TPoint.cs) Tryz.underlying34 rfl B61)<|qv rfl (vv_cvIU cv_3_24 rfl) ?_
 obtain ⟨x19, hx19, hm⟩ := bnd hm
 refine qe rfl (eC en_112 rfl (epoch_writer_put_w hx19 Bk17_0 O17_b0_0 ⟨(tk1 (pb_1 (b := b2) f17_b0_0 (pb_1 Fw11_1 (pb_1 f10_b0_0 (pb_1 f9_b0_0 (pb_1 f3_b0_0 (.inl rfl)))))))⟩)) ?_
 rintro _ w18 ⟨u18_b0_0, z18_b0_0, g18_b0_0, rfl, O18_b0_0, f18_b0_0, Bk18_0, K18⟩
 have z62 := K18.size
 have lt63 := O18_b0_0.lth
 refine sd_done<|sw_seq<|qs 5 rfl<|qv rfl (vv_fieldAddr fa_38_2 rfl)<|qv rfl (vv_fieldAddr fa_36_2 rfl) ?_
 have B64 := (B60.kz K18 (tk1 (pb_1 (b := b1) f17_b0_0 (pb_1 Fw11_1 (pb_1 f10_b0_0 (pb_1 f9_b0_0 (pb_1 f3_b0_0 (.inl rfl))))))))
 refine qv rfl (vv_load1 (v := vp0_4) one_34 rfl B64 rfl) ?_
 have B65 := (B61.kz K18 (tk2 ((pv_sw (pv_1 (A := (fun x => zp0_4 = 0 ∨ x ≠ gp0_4)) f17_b0_0 (pv_1 (A := (fun x => zp0_4 = 0 ∨ x ≠ gp0_4)) Fw11_1 (pv_1 (A := (fun x => zp0_4 = 0 ∨ x ≠ gp0_4)) f10_b0_0 (pv_1 (A := (fun x => zp0_4 = 0 ∨ x ≠ gp0_4)) f9_b0_0 (pv_1 (A := (fun x => zp0_4 = 0 ∨ x ≠ gp0_4)) f3_b0_0 (.inl rfl) (fun x hx => (tk1 lt2.o))) (fun x hx => (tk1 lt2.o))) (fun x hx => (tk1 lt2.o))) (fun x hx => (tk1 lt2.o))) (fun x hx => (tk1 lt2.o)))) : zp0_4 = 0 ∨ z17_b0_0 = 0 ∨ gp0_4 ≠ g17_b0_0) (pb_lt (b := b2) lt2)))
 refine qv rfl (vv_lenT (l := p0.Head.Points) (c := TPoint.cs) Tryz.underlying34 rfl B65)<|qm rfl<|sd_done<|sw_block ?_
 have X66 := (((X36.kz K11 (tk1 (pv_1 (A := (fun x => w.heap.size ≤ x)) f10_b0_0 (pv_1 (A := (fun x => w.heap.size ≤ x)) f9_b0_0 (pv_1 (A := (fun x => w.heap.size ≤ x)) f3_b0_0 (.inl rfl)))))).kz K17 (tk1 (pv_1 (A := (fun x => w.heap.size ≤ x)) Fw11_1 (pv_1 (A := (fun x => w.heap.size ≤ x)) f10_b0_0 (pv_1 (A := (fun x => w.heap.size ≤ x)) f9_b0_0 (pv_1 (A := (fun x => w.heap.size ≤ x)) f3_b0_0 (.inl rfl))))))).kz K18 (tk1 (pv_1 (A := (fun x => w.heap.size ≤ x)) f17_b0_0 (pv_1 (A := (fun x => w.heap.size ≤ x)) Fw11_1 (pv_1 (A := (fun x => w.heap.size ≤ x)) f10_b0_0 (pv_1 (A := (fun x => w.heap.size ≤ x)) f9_b0_0 (pv_1 (A := (fun x => w.heap.size ≤ x)) f3_b0_0 (.inl rfl))))))))
 have B67 := (((B35.kz K11 (tk2 ((pv_sw (pv_1 (A := (fun x => zp0_2 = 0 ∨ x ≠ gp0_2)) f10_b0_0 (pv_1 (A := (fun x => zp0_2 = 0 ∨ x ≠ gp0_2)) f9_b0_0 (pv_1 (A := (fun x => zp0_2 = 0 ∨ x ≠ gp0_2)) f3_b0_0 (.inl rfl) (fun x hx => (tk1 lt1.o))) (fun x hx => (tk1 lt1.o))) (fun x hx => (tk1 lt1.o)))) : zp0_2 = 0 ∨ z10_b0_0 = 0 ∨ gp0_2 ≠ g10_b0_0) (pb_lt (b := b2) lt1))).kz K17 (tk2 ((pv_sw (pv_1 (A := (fun x => zp0_2 = 0 ∨ x ≠ gp0_2)) Fw11_1 (pv_1 (A := (fun x => zp0_2 = 0 ∨ x ≠ gp0_2)) f10_b0_0 (pv_1 (A := (fun x => zp0_2 = 0 ∨ x ≠ gp0_2)) f9_b0_0 (pv_1 (A := (fun x => zp0_2 = 0 ∨ x ≠ gp0_2)) f3_b0_0 (.inl rfl) (fun x hx => (tk1 lt1.o))) (fun x hx => (tk1 lt1.o))) (fun x hx => (tk1 lt1.o))) (fun x hx => (tk1 lt1.o)))) : zp0_2 = 0 ∨ zy13 = 0 ∨ gp0_2 ≠ gy13) (pb_lt (b := b2) lt1))).kz K18 (tk2 ((pv_sw (pv_1 (A := (fun x => zp0_2 = 0 ∨ x ≠ gp0_2)) f17_b0_0 (pv_1 (A := (fun x => zp0_2 = 0 ∨ x ≠ gp0_2)) Fw11_1 (pv_1 (A := (fun x => zp0_2 = 0 ∨ x ≠ gp0_2)) f10_b0_0 (pv_1 (A := (fun x => zp0_2 = 0 ∨ x ≠ gp0_2)) f9_b0_0 (pv_1 (A := (fun x => zp0_2 = 0 ∨ x ≠ gp0_2)) f3_b0_0 (.inl rfl) (fun x hx => (tk1 lt1.o))) (fun x hx => (tk1 lt1.o))) (fun x hx => (tk1 lt1.o))) (fun x hx => (tk1 lt1.o))) (fun x hx => (tk1 lt1.o)))) : zp0_2 = 0 ∨ z17_b0_0 = 0 ∨ gp0_2 ≠ g17_b0_0) (pb_lt (b := b2) lt1)))
 have B68 := (((B38.kz K11 (tk2 ((pv_sw (pv_1 (A := (fun x => zp0_39 = 0 ∨ x ≠ gp0_39)) f10_b0_0 (pv_1 (A := (fun x => zp0_39 = 0 ∨ x ≠ gp0_39)) f9_b0_0 (pv_1 (A := (fun x => zp0_39 = 0 ∨ x ≠ gp0_39)) f3_b0_0 (.inl rfl) (fun x hx => (tk1 lt3.o))) (fun x hx => (tk1 lt3.o))) (fun x hx => (tk1 lt3.o)))) : zp0_39 = 0 ∨ z10_b0_0 = 0 ∨ gp0_39 ≠ g10_b0_0) (pb_lt (b := b2) lt3))).kz K17 (tk2 ((pv_sw (pv_1 (A := (fun x => zp0_39 = 0 ∨ x ≠ gp0_39)) Fw11_1 (pv_1 (A := (fun x => zp0_39 = 0 ∨ x ≠ gp0_39)) f10_b0_0 (pv_1 (A := (fun x => zp0_39 = 0 ∨ x ≠ gp0_39)) f9_b0_0 (pv_1 (A := (fun x => zp0_39 = 0 ∨ x ≠ gp0_39)) f3_b0_0 (.inl rfl) (fun x hx => (tk1 lt3.o))) (fun x hx => (tk1 lt3.o))) (fun x hx => (tk1 lt3.o))) (fun x hx => (tk1 lt3.o)))) : zp0_39 = 0 ∨ zy13 = 0 ∨ gp0_39 ≠ gy13) (pb_lt (b := b2) lt3))).kz K18 (tk2 ((pv_sw (pv_1 (A := (fun x => zp0_39 = 0 ∨ x ≠ gp0_39)) f17_b0_0 (pv_1 (A := (fun x => zp0_39 = 0 ∨ x ≠ gp0_39)) Fw11_1 (pv_1 (A := (fun x => zp0_39 = 0 ∨ x ≠ gp0_39)) f10_b0_0 (pv_1 (A := (fun x => zp0_39 = 0 ∨ x ≠ gp0_39)) f9_b0_0 (pv_1 (A := (fun x => zp0_39 = 0 ∨ x ≠ gp0_39)) f3_b0_0 (.inl rfl) (fun x hx => (tk1 lt3.o))) (fun x hx => (tk1 lt3.o))) (fun x hx => (tk1 lt3.o))) (fun x hx => (tk1 lt3.o))) (fun x hx => (tk1 lt3.o)))) : zp0_39 = 0 ∨ z17_b0_0 = 0 ∨ gp0_39 ≠ g17_b0_0) (pb_lt (b := b2) lt3)))
 refine sw_loopD (α := Nat × Int × Tepoch_writer × Value × Nat × Nat) ([7] ++ rg 93 13) (fun ⟨n2, a23, a24, vy25, zy25, gy25⟩ => [(93, .int .i64 a23)]) (fun ⟨n2, a23, a24, vy25, zy25, gy25⟩ wr => (fixN (epoch_body_L2 p0) n2 (a23, a24) = some r) ∧ Own wr zy25 gy25 5 1 vy25 (a24.out.map bvc) ∧ Hdn (zy25 = 0 ∨ (gy25 = g18_b0_0 ∧ z18_b0_0 ≠ 0) ∨ w18.heap.size ≤ gy25) ∧ Bx wr b2 214 (Tepoch_writer.cs a24 vy25) ∧ Kz [(1, b2), (z18_b0_0, g18_b0_0)] w18 wr) (fun ⟨n2, a23, a24, vy25, zy25, gy25⟩ => n2) ⟨FUEL, 0, x19, u18_b0_0, z18_b0_0, g18_b0_0⟩ ?_ ?_ ?_
 · exact sbq
 · exact ⟨hm, O18_b0_0, ⟨tk0⟩, Bk18_0, Kz.refl _ _⟩
 clear hm; rintro ⟨n2, a23, a24, vy25, zy25, gy25⟩ w19 ⟨hm, Fw19_0, Fw19_1, Fw19_2, K19⟩
 have z69 := K19.size
 have lt70 := Fw19_0.lth
 have lt71 := Fw19_2.lt
 have hb := fix_succ hm; clear hm; obtain ⟨n2, rfl, hm⟩ := hb
 generalize hrec2 : fixN (epoch_body_L2 p0) n2 = rec2 at hm
 unfold epoch_body_L2 at hm
 try dsimp only at hm
 refine qs 1 rfl<|qv rfl (vv_lss (a := a23) (b := (p0.Head.Points.length : Int)) rfl rfl)<|sd_done<|sw_seq<|sw_cond rfl (fun c3 => ?_) (fun c3 => ?_)
 · replace hm := iT c3 hm
   refine qu<|sw_seq<|sw_block<|qs 4 rfl ?_
   obtain ⟨y26, hy26, hm⟩ := bnd hm
   have B72 := (B65.kz K19 (tk2 ((pv_sw (pv_1 (A := (fun x => zp0_4 = 0 ∨ x ≠ gp0_4)) f18_b0_0 (pv_1 (A := (fun x => zp0_4 = 0 ∨ x ≠ gp0_4)) f17_b0_0 (pv_1 (A := (fun x => zp0_4 = 0 ∨ x ≠ gp0_4)) Fw11_1 (pv_1 (A := (fun x => zp0_4 = 0 ∨ x ≠ gp0_4)) f10_b0_0 (pv_1 (A := (fun x => zp0_4 = 0 ∨ x ≠ gp0_4)) f9_b0_0 (pv_1 (A := (fun x => zp0_4 = 0 ∨ x ≠ gp0_4)) f3_b0_0 (.inl rfl) (fun x hx => (tk1 lt2.o))) (fun x hx => (tk1 lt2.o))) (fun x hx => (tk1 lt2.o))) (fun x hx => (tk1 lt2.o))) (fun x hx => (tk1 lt2.o))) (fun x hx => (tk1 lt2.o)))) : zp0_4 = 0 ∨ z18_b0_0 = 0 ∨ gp0_4 ≠ g18_b0_0) (pb_lt (b := b2) lt2)))
   refine qv rfl (vv_ixT (i := a23) Tryz.underlying34 (agg_50).siz rfl B72 rfl hy26)<|qv rfl (vv_elWT agg_50 rfl B72 hy26 (by first | rfl | omega))<|qe rfl (ev_alloc (cs := TPoint.cs (TPoint.mk 0#64 0#64)) zv_50 rfl) ?_
   rintro _ w20 ⟨b20, rfl, hbw20, Bw20, G20⟩
   have z73 := G20.size
   have lt74 := Bw20.lt
   refine qe rfl (ev_stW agg_50 rfl rfl rfl Bw20 rfl rfl) ?_
   rintro _ w21 ⟨Bw21, M21⟩
   have z75 := M21.size
   refine qd 4 rfl<|qm rfl<|qv rfl (vv_fieldAddr fa_50_0 rfl)<|qv rfl (vv_load1 (v := wv y26.X) one_24 rfl Bw21 rfl) ?_
   have B76 := ((Fw19_2.gr G20).md M21)
   have B77 := ((Fw19_0.gr G20).md M21 (pb_lt lt70))
   obtain ⟨x27, hx27, hm⟩ := bnd hm
   refine qe rfl (eC en_112 rfl (epoch_writer_put_w hx27 B76 B77 ⟨(tk1 (pb_1 (b := b2) Fw19_1 (pb_1 f18_b0_0 (pb_1 f17_b0_0 (pb_1 Fw11_1 (pb_1 f10_b0_0 (pb_1 f9_b0_0 (pb_1 f3_b0_0 (.inl rfl)))))))))⟩)) ?_
   rintro _ w22 ⟨u22_b0_0, z22_b0_0, g22_b0_0, rfl, O22_b0_0, f22_b0_0, Bk22_0, K22⟩
   have z78 := K22.size
   have lt79 := O22_b0_0.lth
   refine sd_done<|qg 4 rfl<|qm rfl<|qv rfl (vv_fieldAddr fa_50_1 rfl) ?_
   have B80 := (Bw21.kz K22 (tk1 (pb_lt (b := b20) lt70)))
   refine qv rfl (vv_load1 (v := wv y26.Y) one_24 rfl B80 rfl) ?_
   obtain ⟨x28, hx28, hm⟩ := bnd hm
   refine qe rfl (eC en_112 rfl (epoch_writer_put_w hx28 Bk22_0 O22_b0_0 ⟨(tk1 (pb_1 (b := b2) f22_b0_0 (pb_1 Fw19_1 (pb_1 f18_b0_0 (pb_1 f17_b0_0 (pb_1 Fw11_1 (pb_1 f10_b0_0 (pb_1 f9_b0_0 (pb_1 f3_b0_0 (.inl rfl))))))))))⟩)) ?_
   rintro _ w23 ⟨u23_b0_0, z23_b0_0, g23_b0_0, rfl, O23_b0_0, f23_b0_0, Bk23_0, K23⟩
   have z81 := K23.size
   have lt82 := O23_b0_0.lth
   refine sd_nil<|block_n<|then_n<|qg 2 rfl<|qv rfl (vv_add (k := .i64) (a := a23) (b := 1) rfl rfl)<|qm rfl<|sd_nil ?_
   have K_83 : Kz [(1, b2), (z18_b0_0, g18_b0_0)] w18 w23 := ((((K19.gr G20).md M21).kz K22 (tk1 (pv_1 (A := (fun x => (x = g18_b0_0 ∧ z18_b0_0 ≠ 0) ∨ w18.heap.size ≤ x)) Fw19_1 tk0))).kz K23 (tk1 (pv_1 (A := (fun x => (x = g18_b0_0 ∧ z18_b0_0 ≠ 0) ∨ w18.heap.size ≤ x)) f22_b0_0 (pv_1 (A := (fun x => (x = g18_b0_0 ∧ z18_b0_0 ≠ 0) ∨ w18.heap.size ≤ x)) Fw19_1 tk0))))
   subst hrec2
   exact ⟨rfl, ⟨n2, w64 (a23 + 1), x28, u23_b0_0, z23_b0_0, g23_b0_0⟩, sbq, ⟨hm, O23_b0_0, ⟨(pv_1 (A := (fun x => (x = g18_b0_0 ∧ z18_b0_0 ≠ 0) ∨ w18.heap.size ≤ x)) f23_b0_0 (pv_1 (A := (fun x => (x = g18_b0_0 ∧ z18_b0_0 ≠ 0) ∨ w18.heap.size ≤ x)) f22_b0_0 (pv_1 (A := (fun x => (x = g18_b0_0 ∧ z18_b0_0 ≠ 0) ∨ w18.heap.size ≤ x)) Fw19_1 tk0)))⟩, Bk23_0, K_83⟩, Nat.lt_succ_self _⟩
 replace hm := iF c3 hm
 refine sw_exit<|then_x<|then_x<|block_x<|then_n<|qs 5 rfl ?_
 refine qm rfl<|qv rfl (vv_fieldAddr fa_38_2 rfl)<|qv rfl (vv_fieldAddr fa_36_3 rfl) ?_
 have B84 := (B64.kz K19 (tk1 (pb_1 (b := b1) f18_b0_0 (pb_1 f17_b0_0 (pb_1 Fw11_1 (pb_1 f10_b0_0 (pb_1 f9_b0_0 (pb_1 f3_b0_0 (.inl rfl)))))))))
 refine qv rfl (vv_loadM (vs := kb p0.Head.Box) agg_23 rfl B84 rfl rfl) ?_
 obtain ⟨x29, hx29, hm⟩ := bnd hm
 refine qe rfl (eC en_113 rfl (epoch_writer_key_w hx29 Fw19_2 Fw19_0 ⟨(tk1 (pb_1 (b := b2) Fw19_1 (pb_1 f18_b0_0 (pb_1 f17_b0_0 (pb_1 Fw11_1 (pb_1 f10_b0_0 (pb_1 f9_b0_0 (pb_1 f3_b0_0 (.inl rfl)))))))))⟩)) ?_
 rintro _ w24 ⟨u24_b0_0, z24_b0_0, g24_b0_0, rfl, O24_b0_0, f24_b0_0, Bk24_0, K24⟩
 have z85 := K24.size
 have lt86 := O24_b0_0.lth
 refine qd 5 rfl<|qm rfl<|qv rfl (vv_fieldAddr fa_38_2 rfl)<|qv rfl (vv_fieldAddr fa_36_4 rfl) ?_
 have B87 := (B84.kz K24 (tk1 (pb_1 (b := b1) Fw19_1 (pb_1 f18_b0_0 (pb_1 f17_b0_0 (pb_1 Fw11_1 (pb_1 f10_b0_0 (pb_1 f9_b0_0 (pb_1 f3_b0_0 (.inl rfl))))))))))
 refine qv rfl (vv_loadM (vs := kb p0.Head.Check) agg_23 rfl B87 rfl rfl) ?_
 obtain ⟨x30, hx30, hm⟩ := bnd hm
 refine qe rfl (eC en_113 rfl (epoch_writer_key_w hx30 Bk24_0 O24_b0_0 ⟨(tk1 (pb_1 (b := b2) f24_b0_0 (pb_1 Fw19_1 (pb_1 f18_b0_0 (pb_1 f17_b0_0 (pb_1 Fw11_1 (pb_1 f10_b0_0 (pb_1 f9_b0_0 (pb_1 f3_b0_0 (.inl rfl))))))))))⟩)) ?_
 rintro _ w25 ⟨u25_b0_0, z25_b0_0, g25_b0_0, rfl, O25_b0_0, f25_b0_0, Bk25_0, K25⟩
 have z88 := K25.size
 have lt89 := O25_b0_0.lth
 refine qd 5 rfl<|qm rfl<|qv rfl (vv_nilCheck rfl rfl)<|qv rfl (vv_fieldAddr fa_214_0 rfl)<|qv rfl (vv_load1 (v := u25_b0_0) one_32 rfl Bk25_0 rfl) ?_
 refine qm rfl<|sd_done<|sw_ret ?_
 have X90 := (((X66.kz K19 (tk1 (pv_1 (A := (fun x => w.heap.size ≤ x)) f18_b0_0 (pv_1 (A := (fun x => w.heap.size ≤ x)) f17_b0_0 (pv_1 (A := (fun x => w.heap.size ≤ x)) Fw11_1 (pv_1 (A := (fun x => w.heap.size ≤ x)) f10_b0_0 (pv_1 (A := (fun x => w.heap.size ≤ x)) f9_b0_0 (pv_1 (A := (fun x => w.heap.size ≤ x)) f3_b0_0 (.inl rfl))))))))).kz K24 (tk1 (pv_1 (A := (fun x => w.heap.size ≤ x)) Fw19_1 (pv_1 (A := (fun x => w.heap.size ≤ x)) f18_b0_0 (pv_1 (A := (fun x => w.heap.size ≤ x)) f17_b0_0 (pv_1 (A := (fun x => w.heap.size ≤ x)) Fw11_1 (pv_1 (A := (fun x => w.heap.size ≤ x)) f10_b0_0 (pv_1 (A := (fun x => w.heap.size ≤ x)) f9_b0_0 (pv_1 (A := (fun x => w.heap.size ≤ x)) f3_b0_0 (.inl rfl)))))))))).kz K25 (tk1 (pv_1 (A := (fun x => w.heap.size ≤ x)) f24_b0_0 (pv_1 (A := (fun x => w.heap.size ≤ x)) Fw19_1 (pv_1 (A := (fun x => w.heap.size ≤ x)) f18_b0_0 (pv_1 (A := (fun x => w.heap.size ≤ x)) f17_b0_0 (pv_1 (A := (fun x => w.heap.size ≤ x)) Fw11_1 (pv_1 (A := (fun x => w.heap.size ≤ x)) f10_b0_0 (pv_1 (A := (fun x => w.heap.size ≤ x)) f9_b0_0 (pv_1 (A := (fun x => w.heap.size ≤ x)) f3_b0_0 (.inl rfl)))))))))))
 cases hm
 refine ⟨_, _, rfl, res_1 rfl (rv_tmp rfl), ?_⟩
 exact ⟨u25_b0_0, z25_b0_0, g25_b0_0, rfl, O25_b0_0, ⟨(pv_1 (A := (fun x => w.heap.size ≤ x)) f25_b0_0 (pv_1 (A := (fun x => w.heap.size ≤ x)) f24_b0_0 (pv_1 (A := (fun x => w.heap.size ≤ x)) Fw19_1 (pv_1 (A := (fun x => w.heap.size ≤ x)) f18_b0_0 (pv_1 (A := (fun x => w.heap.size ≤ x)) f17_b0_0 (pv_1 (A := (fun x => w.heap.size ≤ x)) Fw11_1 (pv_1 (A := (fun x => w.heap.size ≤ x)) f10_b0_0 (pv_1 (A := (fun x => w.heap.size ≤ x)) f9_b0_0 (pv_1 (A := (fun x => w.heap.size ≤ x)) f3_b0_0 (.inl rfl))))))))))⟩, X90⟩
theorem cipher_xor_w {p0 p1 r} (hm : cipher_xor p0 p1 = some r) {w : World} :
    Calls Tryz.prog 111 [kv p0, kv p1].toArray w fun e w' => ∃ v, e = .returned v ∧ (v = kv r ∧ Gr w w') := by
 unfold cipher_xor at hm
 refine calls_of_sw 23 Tryz.func111 rfl rfl rfl<|qs 3 rfl<|qe rfl (ev_box (cs := kb p0) rfl rfl) ?_
 rintro _ w1 ⟨b1, rfl, hbw1, Bw1, G1⟩
 have z1 := G1.size
 have lt2 := Bw1.lt
 refine qe rfl (ev_box (cs := kb p1) rfl rfl) ?_
 rintro _ w2 ⟨b2, rfl, hbw2, Bw2, G2⟩
 have z3 := G2.size
 have lt4 := Bw2.lt
 refine qe rfl (ev_alloc (cs := kb k0) zv_23 rfl) ?_
 rintro _ w3 ⟨b3, rfl, hbw3, Bw3, G3⟩
 have z5 := G3.size
 have lt6 := Bw3.lt
 refine sd_done<|sw_seq<|qs 3 rfl ?_
 have B7 := ((Bw1.gr G2).gr G3)
 refine qv rfl (vv_loadW agg_23 rfl B7 rfl) ?_
 have B8 := (Bw2.gr G3)
 refine qv rfl (vv_loadW agg_23 rfl B8 rfl)<|qv rfl (vv_eqlS (cf := kb) (a := p0) (b := p1) eqt_23 rfl rfl rfl rfl (fun h => kb_inj h))<|sd_done<|sw_cond rfl (fun c1 => ?_) (fun c1 => ?_)
 · replace hm := iT c1 hm
   refine qs 2 rfl<|qv rfl (vv_buildZ bz_23)<|qe rfl (ev_stW agg_23 rfl rfl rfl Bw3 rfl rfl) ?_
   rintro _ w4 ⟨Bw4, M4⟩
   have z9 := M4.size
   refine qb ?_
   have X10 := (((((Gr.refl w).trans G1).trans G2).trans G3).md M4)
   cases hm
   refine ⟨_, _, rfl, res_1 rfl (rv_cellW agg_23 rfl Bw4 rfl), ?_⟩
   exact ⟨rfl, X10⟩
 replace hm := iF c1 hm
 refine qu<|sw_seq<|qs 1 rfl<|qm rfl<|sd_done ?_
 refine sw_block ?_
 have X11 := ((((Gr.refl w).trans G1).trans G2).trans G3)
 refine sw_loopD (α := Nat × Int × W2) ([5] ++ rg 10 12) (fun ⟨n1, a3, a4⟩ => [(10, .int .i64 a3)]) (fun ⟨n1, a3, a4⟩ wr => (fixN (cipher_xor_L1 p1) n1 (a3, a4) = some r) ∧ Bx wr b1 23 (kb a4) ∧ Kz [(1, b1)] w3 wr) (fun ⟨n1, a3, a4⟩ => n1) ⟨FUEL, 0, p0⟩ ?_ ?_ ?_
 · exact sbq
 · exact ⟨hm, B7, Kz.refl _ _⟩
 clear hm; rintro ⟨n1, a3, a4⟩ w5 ⟨hm, Fw5_0, K5⟩
 have z12 := K5.size
 have lt13 := Fw5_0.lt
 have hb := fix_succ hm; clear hm; obtain ⟨n1, rfl, hm⟩ := hb
 generalize hrec1 : fixN (cipher_xor_L1 p1) n1 = rec1 at hm
 unfold cipher_xor_L1 at hm
 try dsimp only at hm
 refine qs 1 rfl<|qv rfl (vv_lss (a := a3) (b := 16) rfl rfl)<|sd_done<|sw_seq<|cnF rfl (fun c2 => ?_) (fun c2 => ?_)
 · replace hm := iF c2 hm
   refine sw_exit<|then_x<|then_x<|block_x<|then_n<|qs 2 rfl ?_
   refine qv rfl (vv_loadW agg_23 rfl Fw5_0 rfl) ?_
   have B18 := (Bw3.kz K5)
   refine qe rfl (ev_stW agg_23 rfl rfl rfl B18 rfl rfl) ?_
   rintro _ w8 ⟨Bw8, M8⟩
   have z19 := M8.size
   refine sd_done<|sw_ret ?_
   have X20 := ((X11.kz K5).md M8)
   cases hm
   refine ⟨_, _, rfl, res_1 rfl (rv_cellW agg_23 rfl Bw8 rfl), ?_⟩
   exact ⟨rfl, X20⟩
 replace hm := iT c2 hm
 refine qu<|sw_seq<|sw_block<|qs 2 rfl<|qm rfl ?_
 refine qm rfl<|sd_done<|dw [([b1]),([])] [(8, [1])] (.leaf [(0,10),(1,10),(2,11),(3,10),(4,10),(5,10),(6,10),(7,10),(8,0)]) ?_
 intro w6 G6 zw6
 refine sdz_leaf<|dm 0 rfl rfl ?_
 obtain ⟨y5, hy5, hm⟩ := bnd hm
 refine dh 0 rfl rfl (fun w hS => vv_ixK (i := a3) (p := a4) Tryz.underlying23 (one_5).siz rfl rfl hy5) ?_
 have B14 := (Fw5_0.gr G6)
 refine dh 1 rfl rfl (fun w hS => vv_ldK (off := 0) (p := a4) (i := a3) one_5 rfl (Bx.kp B14 hS) rfl hy5 (by omega))<|dm 0 rfl rfl ?_
 obtain ⟨y6, hy6, hm⟩ := bnd hm
 refine dh 0 rfl rfl (fun w hS => vv_ixK (i := a3) (p := p1) Tryz.underlying23 (one_5).siz rfl rfl hy6) ?_
 have B15 := ((B8.kz K5).gr G6)
 refine dh 0 rfl rfl (fun w hS => vv_ldK (off := 0) (p := p1) (i := a3) one_5 rfl (Bx.kp B15 hS) rfl hy6 (by omega))<|dh 0 rfl rfl (fun w hS => vv_xorB (a := y5) (b := y6) rfl rfl) ?_
 obtain ⟨y7, hy7, hm⟩ := bnd hm
 refine dh 0 rfl rfl (fun w hS => vv_ixK (i := a3) (p := a4) Tryz.underlying23 (one_5).siz rfl rfl hy7) ?_
 obtain ⟨x8, hx8, hm⟩ := bnd hm
 refine qz [(1, b1)] rfl (ev_stK (off := 0) (p := a4) (q := x8) (i := a3) (cs' := kb x8) (one_5).siz rfl rfl B14 rfl hx8 rfl rfl rfl) ⟨fun _ => tk0, nofun, trivial⟩ ?_
 rintro _ w7 ⟨Bw7, M7⟩
 have z16 := M7.size
 refine kM M7<|sd_nil<|block_n<|then_n<|qg 2 rfl<|qv rfl (vv_add (k := .i64) (a := a3) (b := 1) rfl rfl)<|qm rfl ?_
 refine sd_nil ?_
 have K_17 : Kz [(1, b1)] w3 w7 := ((K5.gr G6).md M7)
 subst hrec1
 exact ⟨rfl, ⟨n1, w64 (a3 + 1), x8⟩, sbq, ⟨hm, Bw7, K_17⟩, Nat.lt_succ_self _⟩
theorem cipher_Mac_1_w {p0 p1 p2 bp2 r} (hm : cipher_Mac_1 p0 p1 p2 = some r) {w : World} (hbp2 : Bx w bp2 23 (kb p2)) :
    Calls Tryz.prog 110 [kv p0, kv p1, .pointer (some ⟨bp2, 0, none⟩)].toArray w fun e w' => ∃ v, e = .returned v ∧ (v = kv r ∧ Gr w w') := by
 have lt1 := hbp2.lt
 unfold cipher_Mac_1 at hm
 refine calls_of_sw 11 Tryz.func110 rfl rfl rfl<|qs 3 rfl<|qe rfl (ev_box (cs := kb p0) rfl rfl) ?_
 rintro _ w1 ⟨b1, rfl, hbw1, Bw1, G1⟩
 have z2 := G1.size
 have lt3 := Bw1.lt
 refine qe rfl (ev_box (cs := kb p1) rfl rfl) ?_
 rintro _ w2 ⟨b2, rfl, hbw2, Bw2, G2⟩
 have z4 := G2.size
 have lt5 := Bw2.lt
 refine qe rfl (ev_alloc (cs := kb k0) zv_23 rfl) ?_
 rintro _ w3 ⟨b3, rfl, hbw3, Bw3, G3⟩
 have z6 := G3.size
 have lt7 := Bw3.lt
 refine sd_done<|sw_seq<|dw [([b3])] [] (.leaf [(0,10),(1,10),(2,10),(3,0),(4,0),(5,0)]) ?_
 intro w4 G4 zw4
 refine sdz_leaf ?_
 have Y1 := Gr.trans (Gr.trans (Gr.trans G1 G2) G3) G4
 have B8 := (hbp2.gr Y1)
 refine dh 0 rfl rfl (fun w hS => vv_loadW agg_23 rfl (Bx.kp B8 hS) rfl) ?_
 have Y2 := Gr.trans (Gr.trans G2 G3) G4
 have B9 := (Bw1.gr Y2)
 refine dh 0 rfl rfl (fun w hS => vv_loadW agg_23 rfl (Bx.kp B9 hS) rfl) ?_
 have Y3 := Gr.trans G3 G4
 have B10 := (Bw2.gr Y3)
 refine dh 0 rfl rfl (fun w hS => vv_loadW agg_23 rfl (Bx.kp B10 hS) rfl) ?_
 obtain ⟨x1, hx1, hm⟩ := bnd hm
 refine qz [] rfl (eC en_111 rfl (cipher_xor_w hx1)) ⟨fun _ => tk0, trivial⟩ ?_
 rintro _ w5 ⟨rfl, G5⟩
 have z11 := G5.size
 refine kG G5<|qz [] rfl (eC en_107 rfl (encr_c p2 x1 _)) ⟨fun _ => tk0, trivial⟩ ?_
 rintro _ w6 ⟨rfl, G6⟩
 have z12 := G6.size
 refine kG G6 ?_
 have B13 := (((Bw3.gr G4).gr G5).gr G6)
 refine qz [(1, b3)] rfl (ev_stW agg_23 rfl rfl rfl B13 rfl rfl) ⟨fun _ => tk0, trivial⟩ ?_
 rintro _ w7 ⟨Bw7, M7⟩
 have z14 := M7.size
 refine kM M7<|sd_done<|sw_ret ?_
 have X15 := (((((Gr.refl w).trans Y1).trans G5).trans G6).md M7)
 cases hm
 refine ⟨_, _, rfl, res_1 rfl (rv_cellW agg_23 rfl Bw7 rfl), ?_⟩
 exact ⟨rfl, X15⟩
theorem cipher_fold_cipher_Mac_1_w {p0 p1 p2_0 vp1 zp1 gp1 op1 bp2_0 r} (hm : cipher_fold_cipher_Mac_1 p0 p1 p2_0 = some r) {w : World} (hp1 : Rd w zp1 gp1 op1 1 vp1 (p1.map bvc)) (hbp2_0 : Bx w bp2_0 23 (kb p2_0)) :
    Calls Tryz.prog 109 [kv p0, vp1, .func (.func 110) [].toArray [.pointer (some ⟨bp2_0, 0, none⟩)].toArray].toArray w fun e w' => ∃ v, e = .returned v ∧ (v = kv r ∧ Gr w w') := by
 have lt1 := hp1.lth
 have lt2 := hbp2_0.lt
 unfold cipher_fold_cipher_Mac_1 at hm
 refine calls_of_sw 21 Tryz.func109 rfl rfl rfl<|qs 2 rfl<|qe rfl (ev_box (cs := kb p0) rfl rfl) ?_
 rintro _ w1 ⟨b1, rfl, hbw1, Bw1, G1⟩
 have z3 := G1.size
 have lt4 := Bw1.lt
 refine qe rfl (ev_alloc (cs := kb k0) zv_23 rfl) ?_
 rintro _ w2 ⟨b2, rfl, hbw2, Bw2, G2⟩
 have z5 := G2.size
 have lt6 := Bw2.lt
 refine sd_done<|sw_seq<|sw_block ?_
 have X7 := (((Gr.refl w).trans G1).trans G2)
 have B8 := ((hp1.gr G1).gr G2)
 have B9 := (Bw1.gr G2)
 refine sw_loopD (α := Nat × List (BitVec 8) × W2 × Value × Nat × Nat × Nat) ([1] ++ rg 7 13) (fun ⟨n1, a4, a6, vy5, zy5, gy5, oy5⟩ => [(1, vy5)]) (fun ⟨n1, a4, a6, vy5, zy5, gy5, oy5⟩ wr => (fixN (cipher_fold_cipher_Mac_1_L1 p2_0) n1 (a4, a6) = some r) ∧ Rd wr zy5 gy5 oy5 1 vy5 (a4.map bvc) ∧ Hdn (zy5 = 0 ∨ (gy5 = gp1 ∧ zp1 ≠ 0) ∨ w2.heap.size ≤ gy5) ∧ Bx wr b1 23 (kb a6) ∧ Kz [(1, b1)] w2 wr) (fun ⟨n1, a4, a6, vy5, zy5, gy5, oy5⟩ => n1) ⟨FUEL, p1, p0, vp1, zp1, gp1, op1⟩ ?_ ?_ ?_
 · exact sbq
 · exact ⟨hm, B8, ⟨tk0⟩, B9, Kz.refl _ _⟩
 clear hm; rintro ⟨n1, a4, a6, vy5, zy5, gy5, oy5⟩ w3 ⟨hm, Fw3_0, Fw3_1, Fw3_2, K3⟩
 have z10 := K3.size
 have lt11 := Fw3_0.lth
 have lt12 := Fw3_2.lt
 have hb := fix_succ hm; clear hm; obtain ⟨n1, rfl, hm⟩ := hb
 generalize hrec1 : fixN (cipher_fold_cipher_Mac_1_L1 p2_0) n1 = rec1 at hm
 unfold cipher_fold_cipher_Mac_1_L1 at hm
 try dsimp only at hm
 refine sw_seq<|qs 3 rfl<|qm rfl<|qv rfl (vv_lenT (l := a4) (c := bvc) Tryz.underlying32 rfl Fw3_0)<|qv rfl (vv_gtr (a := (a4.length : Int)) (b := 0) rfl rfl)<|sd_done ?_
 refine cnF rfl (fun c1 => ?_) (fun c1 => ?_)
 · replace hm := iF c1 hm
   refine sw_exit<|then_x<|then_x<|block_x<|then_n<|qs 2 rfl ?_
   refine qv rfl (vv_loadW agg_23 rfl Fw3_2 rfl) ?_
   have B29 := (Bw2.kz K3)
   refine qe rfl (ev_stW agg_23 rfl rfl rfl B29 rfl rfl) ?_
   rintro _ w8 ⟨Bw8, M8⟩
   have z30 := M8.size
   refine sd_done<|sw_ret ?_
   have X31 := ((X7.kz K3).md M8)
   cases hm
   refine ⟨_, _, rfl, res_1 rfl (rv_cellW agg_23 rfl Bw8 rfl), ?_⟩
   exact ⟨rfl, X31⟩
 replace hm := iT c1 hm
 refine qu<|sw_block<|qs 1 rfl<|qe rfl (ev_alloc (cs := kb k0) zv_23 rfl) ?_
 rintro _ w4 ⟨b4, rfl, hbw4, Bw4, G4⟩
 have z13 := G4.size
 have lt14 := Bw4.lt
 refine qd 6 rfl<|qm rfl ?_
 have Rk15 := rd_key (o := 0) (p := k0) Bw4 rfl
 have lt16 := Rk15.lth
 refine qv rfl (vv_sliceA (n := 16) (l := 0) (h := 16) Tryz.underlying23 (one_5).siz rfl rfl rfl (by decide) (by decide) (by decide))<|qm rfl ?_
 have B17 := (Fw3_0.gr G4)
 refine qe rfl (ev_copyK (off := 0) (p := k0) (s := a4) (cs' := kb (ofB (copyL (kby k0) a4))) apt_32 rfl rfl Bw4 rfl B17 rfl rfl) ?_
 rintro _ w5 ⟨rfl, Bw5, M5⟩
 have z18 := M5.size
 obtain ⟨l7, hl7, hm⟩ := bnd hm
 have B19 := (B17.md M5 (pb_lt lt11))
 refine qt rfl (vv_sliT (P := Tryz.prog) (lo := copyN (kby k0) a4) (hi := (a4.length : Int)) (l := a4) (c := bvc) Tryz.underlying32 (one_5).siz rfl B19 ⟨_, rfl⟩ rfl hl7) ?_
 rintro v20 o20 R20
 have lt21 := R20.lth
 refine qm rfl<|sd_done<|qg 5 rfl<|qm rfl ?_
 have B22 := ((Fw3_2.gr G4).md M5)
 refine qv rfl (vv_loadW agg_23 rfl B22 rfl)<|qv rfl (vv_loadW agg_23 rfl Bw5 rfl) ?_
 have B23 := (((((hbp2_0.gr G1).gr G2).kz K3).gr G4).md M5)
 obtain ⟨x8, hx8, hm⟩ := bnd hm
 refine qe rfl (ev_callV en_110 rfl rfl (cipher_Mac_1_w hx8 B23)) ?_
 rintro _ w6 ⟨rfl, G6⟩
 have z24 := G6.size
 have B25 := (B22.gr G6)
 refine qe rfl (ev_stW agg_23 rfl rfl rfl B25 rfl rfl) ?_
 rintro _ w7 ⟨Bw7, M7⟩
 have z26 := M7.size
 refine sd_nil<|block_n ?_
 have K_27 : Kz [(1, b1)] w2 w7 := ((((K3.gr G4).md M5).gr G6).md M7)
 have B28 := ((R20.gr G6).md M7 (pb_1 Fw3_1 (pb_lt lt1)))
 subst hrec1
 exact ⟨rfl, ⟨n1, l7, x8, v20, zy5, gy5, o20⟩, sbq, ⟨hm, B28, ⟨(pv_1 (A := (fun x => (x = gp1 ∧ zp1 ≠ 0) ∨ w2.heap.size ≤ x)) Fw3_1 tk0)⟩, Bw7, K_27⟩, Nat.lt_succ_self _⟩
theorem cipher_Mac_w {p0 p1 vp1 zp1 gp1 op1 r} (hm : cipher_Mac p0 p1 = some r) {w : World} (hp1 : Rd w zp1 gp1 op1 1 vp1 (p1.map bvc)) :
    Calls Tryz.prog 51 [kv p0, vp1].toArray w fun e w' => ∃ v, e = .returned v ∧ (v = .tuple [kv r.1, .int .i64 r.2].toArray ∧ Gr w w') := by
 have lt1 := hp1.lth
 unfold cipher_Mac at hm
 refine calls_of_sw 20 Tryz.func51 rfl rfl rfl<|qs 3 rfl<|qe rfl (ev_box (cs := kb p0) rfl rfl) ?_
 rintro _ w1 ⟨b1, rfl, hbw1, Bw1, G1⟩
 have z2 := G1.size
 have lt3 := Bw1.lt
 refine qe rfl (ev_alloc (cs := kb k0) zv_23 rfl) ?_
 rintro _ w2 ⟨b2, rfl, hbw2, Bw2, G2⟩
 have z4 := G2.size
 have lt5 := Bw2.lt
 refine qm rfl<|sd_done<|sw_seq<|qs 3 rfl<|qm rfl ?_
 have B6 := ((hp1.gr G1).gr G2)
 refine qv rfl (vv_lenT (l := p1) (c := bvc) Tryz.underlying32 rfl B6)<|qv rfl (vv_gtr (a := (p1.length : Int)) (b := 16384) rfl rfl)<|sd_done<|sw_cond rfl (fun c1 => ?_) (fun c1 => ?_)
 · replace hm := iT c1 hm
   refine qs 3 rfl<|qv rfl (vv_buildZ bz_23)<|qe rfl (ev_stW agg_23 rfl rfl rfl Bw2 rfl rfl) ?_
   rintro _ w3 ⟨Bw3, M3⟩
   have z7 := M3.size
   refine qm rfl<|qb ?_
   have X8 := ((((Gr.refl w).trans G1).trans G2).md M3)
   cases hm
   refine ⟨_, _, rfl, res_2 rfl (rv_cellW agg_23 rfl Bw3 rfl) (rv_tmp rfl), ?_⟩
   exact ⟨rfl, X8⟩
 replace hm := iF c1 hm
 refine qu<|qs 7 rfl ?_
 have B9 := (Bw1.gr G2)
 refine qv rfl (vv_loadW agg_23 rfl B9 rfl)<|qm rfl<|qv rfl (vv_lenT (l := p1) (c := bvc) Tryz.underlying32 rfl B6)<|qv rfl (vv_cvIU cv_3_24 rfl)<|qe rfl (eC en_90 rfl (derive_c p0 (un8 2#8) (un8_nn _) (un8_le _) (wd (p1.length : Int)) _)) ?_
 rintro _ w4 ⟨rfl, G4⟩
 have z10 := G4.size
 refine qe rfl (ev_alloc (cs := kb k0) zv_23 rfl) ?_
 rintro _ w5 ⟨b5, rfl, hbw5, Bw5, G5⟩
 have z11 := G5.size
 have lt12 := Bw5.lt
 refine qe rfl (ev_stW agg_23 rfl rfl rfl Bw5 rfl rfl) ?_
 rintro _ w6 ⟨Bw6, M6⟩
 have z13 := M6.size
 refine qd 6 rfl<|qv rfl (vv_loadW agg_23 rfl Bw6 rfl)<|qm rfl<|qv rfl (vv_makeFunc rfl rfl) ?_
 have Y1 := Gr.trans G4 G5
 have B14 := ((B6.gr Y1).md M6 (pb_lt lt1))
 have B15 := ((B9.gr Y1).md M6)
 obtain ⟨x1, hx1, hm⟩ := bnd hm
 refine qe rfl (eC en_109 rfl (cipher_fold_cipher_Mac_1_w hx1 B14 B15)) ?_
 rintro _ w7 ⟨rfl, G7⟩
 have z16 := G7.size
 have B17 := (((Bw2.gr Y1).md M6).gr G7)
 refine qe rfl (ev_stW agg_23 rfl rfl rfl B17 rfl rfl) ?_
 rintro _ w8 ⟨Bw8, M8⟩
 have z18 := M8.size
 refine qm rfl<|sd_done<|sw_ret ?_
 have X19 := (((((((Gr.refl w).trans G1).trans G2).trans Y1).md M6).trans G7).md M8)
 cases hm
 refine ⟨_, _, rfl, res_2 rfl (rv_cellW agg_23 rfl Bw8 rfl) (rv_tmp rfl), ?_⟩
 exact ⟨rfl, X19⟩
theorem epoch_headMac_w {p0 p1 vp1_2 zp1_2 gp1_2 op1_2 vp1_4 zp1_4 gp1_4 op1_4 vp1_39 zp1_39 gp1_39 op1_39 r} (hm : epoch_headMac p0 p1 = some r) {w : World} (hp1_2 : Rd w zp1_2 gp1_2 op1_2 18 vp1_2 (p1.Head.Items.map TItem.cs)) (hp1_4 : Rd w zp1_4 gp1_4 op1_4 2 vp1_4 (p1.Head.Points.map TPoint.cs)) (hp1_39 : Rd w zp1_39 gp1_39 op1_39 1 vp1_39 (p1.Data.map bvc)) :
    Calls Tryz.prog 44 [kv p0, .agg (TPacket.cs p1 vp1_2 vp1_4 vp1_39).toArray].toArray w fun e w' => ∃ v, e = .returned v ∧ (v = kv r ∧ Gr w w') := by
 have lt1 := hp1_2.lth
 have lt2 := hp1_4.lth
 have lt3 := hp1_39.lth
 unfold epoch_headMac at hm
 refine calls_of_sw 19 Tryz.func44 rfl rfl rfl<|qs 3 rfl<|qe rfl (ev_box (cs := kb p0) rfl rfl) ?_
 rintro _ w1 ⟨b1, rfl, hbw1, Bw1, G1⟩
 have z4 := G1.size
 have lt5 := Bw1.lt
 refine qe rfl (ev_box (cs := TPacket.cs p1 vp1_2 vp1_4 vp1_39) rfl rfl) ?_
 rintro _ w2 ⟨b2, rfl, hbw2, Bw2, G2⟩
 have z6 := G2.size
 have lt7 := Bw2.lt
 refine qe rfl (ev_alloc (cs := kb k0) zv_23 rfl) ?_
 rintro _ w3 ⟨b3, rfl, hbw3, Bw3, G3⟩
 have z8 := G3.size
 have lt9 := Bw3.lt
 refine sd_done ?_
 have Y1 := Gr.trans (Gr.trans G1 G2) G3
 have X10 := ((Gr.refl w).trans Y1)
 refine qj (β := W2 × Nat) (rg 5 13) (fun ⟨a2, bq1⟩ => [(5, .pointer (some ⟨bq1, 0, none⟩))]) (fun ⟨a2, bq1⟩ wr => (epoch_headMac_J1 a2 = some r) ∧ Bx wr bq1 23 (kb a2) ∧ w3.heap.size ≤ bq1 ∧ Kz [] w3 wr) ?_ ?_
 · refine dw [([])] [] (.fork [(0,10),(1,10),(2,10),(3,10),(5,10)] (.fork [(4,0)] (.fork [(6,0)] (.leaf [(7,0),(8,10),(9,10),(10,10),(11,0),(12,0),(13,10)]) (.leaf [(11,0),(7,0),(8,10),(9,10),(10,10),(12,0),(13,10)])) (.leaf [(11,0),(6,0),(7,0),(8,10),(9,10),(10,10),(12,0),(13,10)])) (.leaf [(11,0),(4,0),(6,0),(7,0),(8,10),(9,10),(10,10),(12,0),(13,10)])) ?_
   intro w6 G6 zw6
   refine sdz_fork ?_
   have Y2 := Gr.trans (Gr.trans G2 G3) G6
   have B16 := (Bw1.gr Y2)
   refine dh 0 rfl rfl (fun w hS => vv_loadW agg_23 rfl (Bx.kp B16 hS) rfl)<|dh 0 rfl rfl (fun w hS => vv_fieldAddr fa_38_1 rfl) ?_
   have Y3 := Gr.trans G3 G6
   have B17 := (Bw2.gr Y3)
   refine dh 0 rfl rfl (fun w hS => vv_load1 (v := .int .i64 p1.Epoch) one_3 rfl (Bx.kp B17 hS) rfl)<|dh 0 rfl rfl (fun w hS => vv_cvIU cv_3_24 rfl)<|dh 0 rfl rfl (fun w hS => vv_loadW agg_38 rfl (Bx.kp B17 hS) rfl)<|sd_fork ?_ ?_
   · refine sdz_fork<|qz [] rfl (eC en_90 rfl (derive_c p0 (un8 52#8) (un8_nn _) (un8_le _) (wd p1.Epoch) _)) ⟨fun _ => tk0, trivial⟩ ?_
     rintro _ w7 ⟨rfl, G7⟩
     have z18 := G7.size
     refine kG G7<|sd_fork ?_ ?_
     · refine sdz_fork ?_
       have Y4 := Gr.trans (Gr.trans Y1 G6) G7
       have B19 := (hp1_2.gr Y4)
       have B20 := (hp1_4.gr Y4)
       have B21 := (hp1_39.gr Y4)
       obtain ⟨x3, hx3, hm⟩ := bnd hm
       refine qz [] rfl (eC en_52 rfl (epoch_body_w hx3 B19 B20 B21)) ⟨fun _ => tk0, trivial⟩ ?_
       rintro u8_r0_s w8 ⟨_, z8_r0_s, g8_r0_s, rfl, O8_r0_s, f8_r0_s, G8⟩
       have z22 := G8.size
       have lt23 := O8_r0_s.lth
       refine kG G8<|sd_fork ?_ ?_
       · refine sdz_leaf ?_
         obtain ⟨x4, hx4, hm⟩ := bnd hm
         refine qz [] rfl (eC en_51 rfl (cipher_Mac_w hx4 (Own.rd O8_r0_s))) ⟨fun _ => tk0, trivial⟩ ?_
         rintro _ w9 ⟨rfl, G9⟩
         have z24 := G9.size
         refine kG G9 ?_
         have S25 := ((((Kp.refl ([]) w6).gr G7).gr G8).gr G9)
         refine dn 0 rfl rfl S25<|dn 0 rfl rfl S25<|dn 0 rfl rfl S25<|qz [] rfl (ev_alloc (cs := kb k0) zv_23 rfl) ⟨fun _ => tk0, trivial⟩ ?_
         rintro _ w10 ⟨b10, rfl, hbw10, Bw10, G10⟩
         have z26 := G10.size
         have lt27 := Bw10.lt
         refine kG G10<|qz [(1, b10)] rfl (ev_stW agg_23 rfl rfl rfl Bw10 rfl rfl) ⟨fun _ => tk0, trivial⟩ ?_
         rintro _ w11 ⟨Bw11, M11⟩
         have z28 := M11.size
         refine kM M11 ?_
         have S29 := ((S25.gr G10).md M11)
         refine dn 0 rfl rfl S29<|sd_nil ?_
         exact ⟨rfl, ⟨x4.1, b10⟩, sbq, hm, Bw11, (by omega), ((((((kz0.gr G6).gr G7).gr G8).gr G9).gr G10).md M11)⟩
       refine sdz_leaf<|qz [] rfl (ev_alloc (cs := kb k0) zv_23 rfl) ⟨fun _ => tk0, trivial⟩ ?_
       rintro _ w12 ⟨b12, rfl, hbw12, Bw12, G12⟩
       have z31 := G12.size
       have lt32 := Bw12.lt
       refine kG G12 ?_
       have B33 := (O8_r0_s.gr G12)
       obtain ⟨x5, hx5, hm⟩ := bnd hm
       refine qz [] rfl (eC en_51 rfl (cipher_Mac_w hx5 (Own.rd B33))) ⟨fun _ => tk0, trivial⟩ ?_
       rintro _ w13 ⟨rfl, G13⟩
       have z34 := G13.size
       refine kG G13 ?_
       have Y5 := Gr.trans (Gr.trans (Gr.trans G7 G8) G12) G13
       have S35 := ((Kp.refl ([]) w6).gr Y5)
       refine dn 0 rfl rfl S35<|dn 0 rfl rfl S35<|dn 0 rfl rfl S35 ?_
       have B36 := (Bw12.gr G13)
       refine qz [(1, b12)] rfl (ev_stW agg_23 rfl rfl rfl B36 rfl rfl) ⟨fun _ => tk0, trivial⟩ ?_
       rintro _ w14 ⟨Bw14, M14⟩
       have z37 := M14.size
       refine kM M14 ?_
       have S38 := (S35.md M14)
       refine dn 0 rfl rfl S38<|sd_nil ?_
       exact ⟨rfl, ⟨x5.1, b12⟩, sbq, hm, Bw14, (by omega), (((kz0.gr G6).gr Y5).md M14)⟩
     refine sdz_leaf<|qz [] rfl (ev_alloc (cs := kb k0) zv_23 rfl) ⟨fun _ => tk0, trivial⟩ ?_
     rintro _ w15 ⟨b15, rfl, hbw15, Bw15, G15⟩
     have z40 := G15.size
     have lt41 := Bw15.lt
     refine kG G15 ?_
     have Y6 := Gr.trans (Gr.trans (Gr.trans Y1 G6) G7) G15
     have B42 := (hp1_2.gr Y6)
     have B43 := (hp1_4.gr Y6)
     have B44 := (hp1_39.gr Y6)
     obtain ⟨x6, hx6, hm⟩ := bnd hm
     refine qz [] rfl (eC en_52 rfl (epoch_body_w hx6 B42 B43 B44)) ⟨fun _ => tk0, trivial⟩ ?_
     rintro u16_r0_s w16 ⟨_, z16_r0_s, g16_r0_s, rfl, O16_r0_s, f16_r0_s, G16⟩
     have z45 := G16.size
     have lt46 := O16_r0_s.lth
     refine kG G16 ?_
     obtain ⟨x7, hx7, hm⟩ := bnd hm
     refine qz [] rfl (eC en_51 rfl (cipher_Mac_w hx7 (Own.rd O16_r0_s))) ⟨fun _ => tk0, trivial⟩ ?_
     rintro _ w17 ⟨rfl, G17⟩
     have z47 := G17.size
     refine kG G17 ?_
     have Y7 := Gr.trans (Gr.trans (Gr.trans G7 G15) G16) G17
     have S48 := ((Kp.refl ([]) w6).gr Y7)
     refine dn 0 rfl rfl S48<|dn 0 rfl rfl S48<|dn 0 rfl rfl S48 ?_
     have B49 := ((Bw15.gr G16).gr G17)
     refine qz [(1, b15)] rfl (ev_stW agg_23 rfl rfl rfl B49 rfl rfl) ⟨fun _ => tk0, trivial⟩ ?_
     rintro _ w18 ⟨Bw18, M18⟩
     have z50 := M18.size
     refine kM M18 ?_
     have S51 := (S48.md M18)
     refine dn 0 rfl rfl S51<|sd_nil ?_
     exact ⟨rfl, ⟨x7.1, b15⟩, sbq, hm, Bw18, (by omega), (((kz0.gr G6).gr Y7).md M18)⟩
   refine sdz_leaf<|qz [] rfl (ev_alloc (cs := kb k0) zv_23 rfl) ⟨fun _ => tk0, trivial⟩ ?_
   rintro _ w19 ⟨b19, rfl, hbw19, Bw19, G19⟩
   have z53 := G19.size
   have lt54 := Bw19.lt
   refine kG G19<|qz [] rfl (eC en_90 rfl (derive_c p0 (un8 52#8) (un8_nn _) (un8_le _) (wd p1.Epoch) _)) ⟨fun _ => tk0, trivial⟩ ?_
   rintro _ w20 ⟨rfl, G20⟩
   have z55 := G20.size
   refine kG G20 ?_
   have Y8 := Gr.trans (Gr.trans (Gr.trans Y1 G6) G19) G20
   have B56 := (hp1_2.gr Y8)
   have B57 := (hp1_4.gr Y8)
   have B58 := (hp1_39.gr Y8)
   obtain ⟨x8, hx8, hm⟩ := bnd hm
   refine qz [] rfl (eC en_52 rfl (epoch_body_w hx8 B56 B57 B58)) ⟨fun _ => tk0, trivial⟩ ?_
   rintro u21_r0_s w21 ⟨_, z21_r0_s, g21_r0_s, rfl, O21_r0_s, f21_r0_s, G21⟩
   have z59 := G21.size
   have lt60 := O21_r0_s.lth
   refine kG G21 ?_
   obtain ⟨x9, hx9, hm⟩ := bnd hm
   refine qz [] rfl (eC en_51 rfl (cipher_Mac_w hx9 (Own.rd O21_r0_s))) ⟨fun _ => tk0, trivial⟩ ?_
   rintro _ w22 ⟨rfl, G22⟩
   have z61 := G22.size
   refine kG G22 ?_
   have Y9 := Gr.trans (Gr.trans (Gr.trans G19 G20) G21) G22
   have S62 := ((Kp.refl ([]) w6).gr Y9)
   refine dn 0 rfl rfl S62<|dn 0 rfl rfl S62<|dn 0 rfl rfl S62 ?_
   have Y10 := Gr.trans (Gr.trans G20 G21) G22
   have B63 := (Bw19.gr Y10)
   refine qz [(1, b19)] rfl (ev_stW agg_23 rfl rfl rfl B63 rfl rfl) ⟨fun _ => tk0, trivial⟩ ?_
   rintro _ w23 ⟨Bw23, M23⟩
   have z64 := M23.size
   refine kM M23 ?_
   have S65 := (S62.md M23)
   refine dn 0 rfl rfl S65<|sd_nil ?_
   exact ⟨rfl, ⟨x9.1, b19⟩, sbq, hm, Bw23, (by omega), (((kz0.gr G6).gr Y9).md M23)⟩
 clear hm; rintro ⟨a2, bq1⟩ w4 ⟨hm, Fw4_0, Fw4_1, K4⟩
 have z11 := K4.size
 have lt12 := Fw4_0.lt
 unfold epoch_headMac_J1 at hm
 refine qs 2 rfl<|qv rfl (vv_loadW agg_23 rfl Fw4_0 rfl) ?_
 have B13 := (Bw3.kz K4)
 refine qe rfl (ev_stW agg_23 rfl rfl rfl B13 rfl rfl) ?_
 rintro _ w5 ⟨Bw5, M5⟩
 have z14 := M5.size
 refine sd_done<|sw_ret ?_
 have X15 := ((X10.kz K4).md M5)
 cases hm
 refine ⟨_, _, rfl, res_1 rfl (rv_cellW agg_23 rfl Bw5 rfl), ?_⟩
 exact ⟨rfl, X15⟩
theorem epoch_Head_w {p0 p1 p2 p3 vp3 zp3 gp3 op3 r} (hm : epoch_Head p0 p1 p2 p3 = some r) {w : World} (hp3 : Rd w zp3 gp3 op3 1 vp3 (p3.map ic)) :
    Calls Tryz.prog 8 [kv p0, .agg (TScheme.cs p1).toArray, .int .i64 p2, vp3].toArray w fun e w' => ∃ v, e = .returned v ∧ (∃ ur0_2 zr0_2 gr0_2 ur0_4 zr0_4 gr0_4 ur0_39 zr0_39 gr0_39, v = .tuple [.agg (TPacket.cs r.1 ur0_2 ur0_4 ur0_39).toArray, .int .i64 r.2].toArray ∧ Own w' zr0_2 gr0_2 173 18 ur0_2 (r.1.Head.Items.map TItem.cs) ∧ Hdn (zr0_2 = 0 ∨ w.heap.size ≤ gr0_2) ∧ Own w' zr0_4 gr0_4 50 2 ur0_4 (r.1.Head.Points.map TPoint.cs) ∧ Hdn (zr0_4 = 0 ∨ w.heap.size ≤ gr0_4) ∧ Own w' zr0_39 gr0_39 5 1 ur0_39 (r.1.Data.map bvc) ∧ Hdn (zr0_39 = 0 ∨ w.heap.size ≤ gr0_39) ∧ Hdn (zr0_4 = 0 ∨ zr0_2 = 0 ∨ gr0_4 ≠ gr0_2) ∧ Hdn (zr0_39 = 0 ∨ zr0_2 = 0 ∨ gr0_39 ≠ gr0_2) ∧ Hdn (zr0_39 = 0 ∨ zr0_4 = 0 ∨ gr0_39 ≠ gr0_4) ∧ Gr w w') := by
 have lt1 := hp3.lth
 unfold epoch_Head at hm
 refine calls_of_sw 35 Tryz.func8 rfl rfl rfl<|qs 4 rfl<|qe rfl (ev_box (cs := kb p0) rfl rfl) ?_
 rintro _ w1 ⟨b1, rfl, hbw1, Bw1, G1⟩
 have z2 := G1.size
 have lt3 := Bw1.lt
 refine qe rfl (ev_box (cs := TScheme.cs p1) rfl rfl) ?_
 rintro _ w2 ⟨b2, rfl, hbw2, Bw2, G2⟩
 have z4 := G2.size
 have lt5 := Bw2.lt
 refine qe rfl (ev_alloc (cs := TPacket.cs (TPacket.mk 0#8 0 (THeader.mk [] 0#64 [] k0 k0) 0#8 0#64 [] k0) (.slice none 0 0) (.slice none 0 0) (.slice none 0 0)) zv_38 rfl) ?_
 rintro _ w3 ⟨b3, rfl, hbw3, Bw3, G3⟩
 have z6 := G3.size
 have lt7 := Bw3.lt
 refine qm rfl<|qd 11 rfl ?_
 have Y1 := Gr.trans G2 G3
 have B8 := (Bw1.gr Y1)
 refine qv rfl (vv_loadW agg_23 rfl B8 rfl) ?_
 have B9 := (Bw2.gr G3)
 refine qv rfl (vv_loadW agg_28 rfl B9 rfl)<|qm rfl<|qm rfl ?_
 have B10 := ((hp3.gr G1).gr Y1)
 obtain ⟨x1, hx1, hm⟩ := bnd hm
 refine qe rfl (eC en_42 rfl (epoch_Seal_w hx1 B10)) ?_
 rintro _ w4 ⟨u4_r0_0, z4_r0_0, g4_r0_0, u4_r0_2, z4_r0_2, g4_r0_2, rfl, O4_r0_0, f4_r0_0, O4_r0_2, f4_r0_2, d4_0, G4⟩
 have z11 := G4.size
 have lt12 := O4_r0_0.lth
 have lt13 := O4_r0_2.lth
 refine qm rfl<|qm rfl<|qm rfl<|qe rfl (ev_alloc (cs := THeader.cs (THeader.mk [] 0#64 [] k0 k0) (.slice none 0 0) (.slice none 0 0)) zv_36 rfl) ?_
 rintro _ w5 ⟨b5, rfl, hbw5, Bw5, G5⟩
 have z14 := G5.size
 have lt15 := Bw5.lt
 have B16 := (O4_r0_0.gr G5)
 have B17 := (O4_r0_2.gr G5)
 refine qe rfl (ev_stW agg_36 rfl rfl (THeader.cs_ones _ _ _ (Own.oneB B16) (Own.oneB B17)) Bw5 rfl rfl) ?_
 rintro _ w6 ⟨Bw6, M6⟩
 have z18 := M6.size
 refine qm rfl<|sd_done<|sw_seq<|qs 2 rfl<|qm rfl<|qv rfl (vv_neq (a := x1.2) (b := 0) rfl rfl) ?_
 refine sd_done<|sw_cond rfl (fun c1 => ?_) (fun c1 => ?_)
 · replace hm := iT c1 hm
   refine qs 4 rfl<|qv rfl (vv_build (cs := TPacket.cs (TPacket.mk 0#8 0 (THeader.mk [] 0#64 [] k0 k0) 0#8 0#64 [] k0) (.slice none 0 0) (.slice none 0 0) (.slice none 0 0)) bs_38 rfl (by kernel_rfl))<|qm rfl ?_
   have Y2 := Gr.trans G4 G5
   have B19 := ((Bw3.gr Y2).md M6)
   refine qe rfl (ev_stW agg_38 rfl rfl (TPacket.cs_ones _ _ _ _ rfl rfl rfl) B19 rfl rfl) ?_
   rintro _ w7 ⟨Bw7, M7⟩
   have z20 := M7.size
   refine qm rfl<|qb ?_
   have X21 := ((((((Gr.refl w).trans G1).trans Y1).trans Y2).md M6).md M7)
   cases hm
   refine ⟨_, _, rfl, res_2 rfl (rv_cellW agg_38 rfl Bw7 rfl) (rv_tmp rfl), ?_⟩
   exact ⟨(.slice none 0 0), 0, 0, (.slice none 0 0), 0, 0, (.slice none 0 0), 0, 0, rfl, (own_nil _ 0 173 18), ⟨.inl rfl⟩, (own_nil _ 0 50 2), ⟨.inl rfl⟩, (own_nil _ 0 5 1), ⟨.inl rfl⟩, ⟨(.inl rfl)⟩, ⟨(.inl rfl)⟩, ⟨(.inl rfl)⟩, X21⟩
 replace hm := iF c1 hm
 refine qu<|qs 5 rfl<|qm rfl<|qv rfl (vv_loadW agg_36 rfl Bw6 rfl)<|qv rfl (vv_build (cs := TPacket.cs (TPacket.mk 1#8 p2 x1.1 0#8 0#64 [] k0) u4_r0_0 u4_r0_2 (.slice none 0 0)) bs_38 rfl (fill_M rfl rfl rfl (fill_M rfl rfl rfl (fill_M rfl rfl rfl (by kernel_rfl))))) ?_
 refine qe rfl (ev_alloc (cs := TPacket.cs (TPacket.mk 0#8 0 (THeader.mk [] 0#64 [] k0 k0) 0#8 0#64 [] k0) (.slice none 0 0) (.slice none 0 0) (.slice none 0 0)) zv_38 rfl) ?_
 rintro _ w8 ⟨b8, rfl, hbw8, Bw8, G8⟩
 have z22 := G8.size
 have lt23 := Bw8.lt
 have B24 := ((B16.md M6 (pb_lt lt12)).gr G8)
 have B25 := ((B17.md M6 (pb_lt lt13)).gr G8)
 refine qe rfl (ev_stW agg_38 rfl rfl (TPacket.cs_ones _ _ _ _ (Own.oneB B24) (Own.oneB B25) rfl) Bw8 rfl rfl) ?_
 rintro _ w9 ⟨Bw9, M9⟩
 have z26 := M9.size
 refine sd_done<|sw_seq<|dw [([b8]),([])] [(6, [1])] (.leaf [(0,10),(1,10),(3,11),(2,0),(4,0),(5,10),(6,0)]) ?_
 intro w10 G10 zw10
 refine sdz_leaf ?_
 have Y3 := Gr.trans G4 G5
 have B27 := (((((B8.gr Y3).md M6).gr G8).md M9).gr G10)
 refine dh 0 rfl rfl (fun w hS => vv_loadW agg_23 rfl (Bx.kp B27 hS) rfl)<|dm 0 rfl rfl ?_
 have B28 := (Bw9.gr G10)
 refine dh 1 rfl rfl (fun w hS => vv_loadW agg_38 rfl (Bx.kp B28 hS) rfl) ?_
 obtain ⟨x2, hx2, hm⟩ := bnd hm
 refine qz [] rfl (eC en_38 rfl (epoch_Session_w hx2)) ⟨fun _ => tk0, fun _ => tk0, trivial⟩ ?_
 rintro _ w11 ⟨rfl, G11⟩
 have z29 := G11.size
 refine kG G11 ?_
 have Y4 := Gr.trans G10 G11
 have B30 := ((B24.md M9 (pb_lt lt12)).gr Y4)
 have B31 := ((B25.md M9 (pb_lt lt13)).gr Y4)
 obtain ⟨x3, hx3, hm⟩ := bnd hm
 refine qz [] rfl (eC en_44 rfl (epoch_headMac_w hx3 (Own.rd B30) (Own.rd B31) (Own.rd (own_nil _ 0 5 1)))) ⟨fun _ => tk0, fun _ => tk0, trivial⟩ ?_
 rintro _ w12 ⟨rfl, G12⟩
 have z32 := G12.size
 refine kG G12 ?_
 have Y5 := Gr.trans G11 G12
 have S33 := ((Kp.refl ([b8]) w10).gr Y5)
 refine qh 0 rfl rfl S33 (fun w hS => vv_fieldAddr fa_38_6 rfl) ?_
 have B34 := (B28.gr Y5)
 refine qz [(1, b8)] rfl (ev_stM (cs' := TPacket.cs (TPacket.mk 1#8 p2 x1.1 0#8 0#64 [] x3) u4_r0_0 u4_r0_2 (.slice none 0 0)) (vs := kb x3) (agg_23).siz rfl rfl rfl rfl rfl B34 rfl rfl) ⟨fun _ => tk0, nofun, trivial⟩ ?_
 rintro _ w13 ⟨Bw13, M13⟩
 have z35 := M13.size
 refine kM M13<|qd 3 rfl<|qv rfl (vv_loadW agg_38 rfl Bw13 rfl) ?_
 have B36 := (((((((Bw3.gr Y3).md M6).gr G8).md M9).gr Y4).gr G12).md M13)
 have B37 := ((B30.gr G12).md M13 (pb_lt lt12))
 have B38 := ((B31.gr G12).md M13 (pb_lt lt13))
 refine qe rfl (ev_stW agg_38 rfl rfl (TPacket.cs_ones _ _ _ _ (Own.oneB B37) (Own.oneB B38) rfl) B36 rfl rfl) ?_
 rintro _ w14 ⟨Bw14, M14⟩
 have z39 := M14.size
 refine qm rfl<|sd_done<|sw_ret ?_
 have B40 := (B37.md M14 (pb_0 f4_r0_0))
 have B41 := (B38.md M14 (pb_0 f4_r0_2))
 have X42 := (((((((((((Gr.refl w).trans G1).trans Y1).trans Y3).md M6).trans G8).md M9).trans Y4).trans G12).md M13).md M14)
 cases hm
 refine ⟨_, _, rfl, res_2 rfl (rv_cellW agg_38 rfl Bw14 rfl) (rv_tmp rfl), ?_⟩
 exact ⟨u4_r0_0, z4_r0_0, g4_r0_0, u4_r0_2, z4_r0_2, g4_r0_2, (.slice none 0 0), 0, 0, rfl, B40, ⟨(pv_0 (A := (fun x => w.heap.size ≤ x)) f4_r0_0)⟩, B41, ⟨(pv_0 (A := (fun x => w.heap.size ≤ x)) f4_r0_2)⟩, (own_nil _ 0 5 1), ⟨.inl rfl⟩, ⟨(tk1 d4_0.o)⟩, ⟨(.inl rfl)⟩, ⟨(.inl rfl)⟩, X42⟩
theorem ref05_CheckScheme_w {p0 r} (hm : ref05_CheckScheme p0 = some r) {w : World} :
    Calls Tryz.prog 98 [.agg (TScheme.cs p0).toArray].toArray w fun e w' => ∃ v, e = .returned v ∧ (v = .int .i64 r ∧ Gr w w') := by
 unfold ref05_CheckScheme at hm
 refine calls_of_sw 18 Tryz.func98 rfl rfl rfl<|qs 2 rfl<|qe rfl (ev_box (cs := TScheme.cs p0) rfl rfl) ?_
 rintro _ w1 ⟨b1, rfl, hbw1, Bw1, G1⟩
 have z1 := G1.size
 have lt2 := Bw1.lt
 refine qm rfl<|sd_done<|sw_seq ?_
 have X3 := ((Gr.refl w).trans G1)
 refine qj (β := Bool) (rg 3 8) (fun a1 => [(10, .bool a1)]) (fun a1 wr => (ref05_CheckScheme_J1 p0 a1 = some r) ∧ Kz [] w1 wr) ?_ ?_
 · refine qg 8 rfl<|qv rfl (vv_fieldAddr fa_28_0 rfl)<|qv rfl (vv_load1 (v := bv p0.Kind) one_5 rfl Bw1 rfl)<|qv rfl (vv_geqB (p := p0.Kind) (q := 1#8) rfl rfl)<|qpF rfl (vv_move rfl) (fun c3 => ?_) (fun c3 => ?_)
   · replace hm := iF c3 hm
     refine qk rfl<|qk rfl<|qk rfl<|qm rfl<|sd_nil ?_
     exact ⟨rfl, false, sbq, hm, kz0⟩
   replace hm := iT c3 hm
   refine qv rfl (vv_fieldAddr fa_28_0 rfl)<|qv rfl (vv_load1 (v := bv p0.Kind) one_5 rfl Bw1 rfl)<|qv rfl (vv_leqB (p := p0.Kind) (q := 3#8) rfl rfl)<|qm rfl<|sd_nil ?_
   exact ⟨rfl, (decide (p0.Kind ≤ 3#8)), sbq, hm, kz0⟩
 clear hm; rintro a1 w2 ⟨hm, K2⟩
 have z4 := K2.size
 unfold ref05_CheckScheme_J1 at hm
 refine sw_cond rfl (fun c1 => ?_) (fun c1 => ?_)
 · replace hm := cnd_t c1 hm
   refine qs 3 rfl ?_
   have B5 := (Bw1.kz K2)
   refine qv rfl (vv_loadW agg_28 rfl B5 rfl) ?_
   obtain ⟨x2, hx2, hm⟩ := bnd hm
   refine qe rfl (eC en_172 rfl (ref03_Check_w hx2)) ?_
   rintro _ w3 ⟨rfl, G3⟩
   have z6 := G3.size
   refine qm rfl<|qb ?_
   have X7 := ((X3.kz K2).trans G3)
   cases hm
   refine ⟨_, _, rfl, res_1 rfl (rv_tmp rfl), ?_⟩
   exact ⟨rfl, X7⟩
 replace hm := cnd_f c1 hm
 refine qu<|sw_seq<|qs 3 rfl<|qv rfl (vv_fieldAddr fa_28_0 rfl) ?_
 have B8 := (Bw1.kz K2)
 refine qv rfl (vv_load1 (v := bv p0.Kind) one_5 rfl B8 rfl)<|qv rfl (vv_eqlB (p := p0.Kind) (q := 4#8) rfl rfl)<|sd_done<|cnF rfl (fun c2 => ?_) (fun c2 => ?_)
 · replace hm := iF c2 hm
   refine qu<|qs 1 rfl<|qm rfl<|sd_done<|sw_ret ?_
   have X11 := (X3.kz K2)
   cases hm
   refine ⟨_, _, rfl, res_1 rfl (rv_tmp rfl), ?_⟩
   exact ⟨rfl, X11⟩
 replace hm := iT c2 hm
 refine qs 3 rfl<|qv rfl (vv_loadW agg_28 rfl B8 rfl) ?_
 obtain ⟨x3, hx3, hm⟩ := bnd hm
 refine qe rfl (eC en_173 rfl (ref04_Check_w hx3)) ?_
 rintro _ w4 ⟨rfl, G4⟩
 have z9 := G4.size
 refine qm rfl<|qb ?_
 have X10 := ((X3.kz K2).trans G4)
 cases hm
 refine ⟨_, _, rfl, res_1 rfl (rv_tmp rfl), ?_⟩
 exact ⟨rfl, X10⟩
theorem ref05_Tick_w {p0 r} (hm : ref05_Tick p0 = some r) {w : World} :
    Calls Tryz.prog 65 [.int .i64 p0].toArray w fun e w' => ∃ v, e = .returned v ∧ (v = .bool r ∧ Gr w w') := by
 unfold ref05_Tick at hm
 refine calls_of_sw 9 Tryz.func65 rfl rfl rfl<|qs 1 rfl<|qm rfl<|qd 7 rfl ?_
 refine qm rfl<|qv rfl (vv_geq (a := p0) (b := 0) rfl rfl)<|qp rfl (vv_move rfl) (fun c1 => ?_) (fun c1 => ?_)
 · replace hm := iT c1 hm
   refine qm rfl<|qv rfl (vv_leq (a := p0) (b := 1099511627776) rfl rfl)<|qm rfl<|qm rfl<|sd_done<|sw_ret ?_
   cases hm
   refine ⟨_, _, rfl, res_1 rfl (rv_tmp rfl), ?_⟩
   exact ⟨rfl, (Gr.refl w)⟩
 replace hm := iF c1 hm
 refine qk rfl<|qk rfl<|qm rfl<|qm rfl<|sd_done<|sw_ret ?_
 cases hm
 refine ⟨_, _, rfl, res_1 rfl (rv_tmp rfl), ?_⟩
 exact ⟨rfl, (Gr.refl w)⟩
theorem ref05_Session_w {p0 p1 r} (hm : ref05_Session p0 p1 = some r) {w : World} :
    Calls Tryz.prog 47 [kv p0, .int .i64 p1].toArray w fun e w' => ∃ v, e = .returned v ∧ (v = kv r ∧ Gr w w') := by
 unfold ref05_Session at hm
 refine calls_of_sw 9 Tryz.func47 rfl rfl rfl<|qs 2 rfl<|qe rfl (ev_box (cs := kb p0) rfl rfl) ?_
 rintro _ w1 ⟨b1, rfl, hbw1, Bw1, G1⟩
 have z1 := G1.size
 have lt2 := Bw1.lt
 refine qe rfl (ev_alloc (cs := kb k0) zv_23 rfl) ?_
 rintro _ w2 ⟨b2, rfl, hbw2, Bw2, G2⟩
 have z3 := G2.size
 have lt4 := Bw2.lt
 refine qd 5 rfl ?_
 have B5 := (Bw1.gr G2)
 refine qv rfl (vv_loadW agg_23 rfl B5 rfl)<|qm rfl<|qv rfl (vv_cvIU cv_3_24 rfl)<|qe rfl (eC en_103 rfl (rderive_c p0 (un8 50#8) (un8_nn _) (un8_le _) (wd p1) _)) ?_
 rintro _ w3 ⟨rfl, G3⟩
 have z6 := G3.size
 have B7 := (Bw2.gr G3)
 refine qe rfl (ev_stW agg_23 rfl rfl rfl B7 rfl rfl) ?_
 rintro _ w4 ⟨Bw4, M4⟩
 have z8 := M4.size
 refine sd_done<|sw_ret ?_
 have X9 := (((((Gr.refl w).trans G1).trans G2).trans G3).md M4)
 cases hm
 refine ⟨_, _, rfl, res_1 rfl (rv_cellW agg_23 rfl Bw4 rfl), ?_⟩
 exact ⟨rfl, X9⟩
theorem ref05_Seal_w {p0 p1 p2 p3 vp3 zp3 gp3 op3 r} (hm : ref05_Seal p0 p1 p2 p3 = some r) {w : World} (hp3 : Rd w zp3 gp3 op3 1 vp3 (p3.map ic)) :
    Calls Tryz.prog 45 [kv p0, .agg (TScheme.cs p1).toArray, .int .i64 p2, vp3].toArray w fun e w' => ∃ v, e = .returned v ∧ (∃ ur0_0 zr0_0 gr0_0 ur0_2 zr0_2 gr0_2, v = .tuple [.agg (THeader.cs r.1 ur0_0 ur0_2).toArray, .int .i64 r.2].toArray ∧ Own w' zr0_0 gr0_0 173 18 ur0_0 (r.1.Items.map TItem.cs) ∧ Hdn (zr0_0 = 0 ∨ w.heap.size ≤ gr0_0) ∧ Own w' zr0_2 gr0_2 50 2 ur0_2 (r.1.Points.map TPoint.cs) ∧ Hdn (zr0_2 = 0 ∨ w.heap.size ≤ gr0_2) ∧ Hdn (zr0_2 = 0 ∨ zr0_0 = 0 ∨ gr0_2 ≠ gr0_0) ∧ Gr w w') := by
 have lt1 := hp3.lth
 unfold ref05_Seal at hm
 refine calls_of_sw 56 Tryz.func45 rfl rfl rfl<|qs 4 rfl<|qe rfl (ev_box (cs := kb p0) rfl rfl) ?_
 rintro _ w1 ⟨b1, rfl, hbw1, Bw1, G1⟩
 have z2 := G1.size
 have lt3 := Bw1.lt
 refine qe rfl (ev_box (cs := TScheme.cs p1) rfl rfl) ?_
 rintro _ w2 ⟨b2, rfl, hbw2, Bw2, G2⟩
 have z4 := G2.size
 have lt5 := Bw2.lt
 refine qe rfl (ev_alloc (cs := THeader.cs (THeader.mk [] 0#64 [] k0 k0) (.slice none 0 0) (.slice none 0 0)) zv_36 rfl) ?_
 rintro _ w3 ⟨b3, rfl, hbw3, Bw3, G3⟩
 have z6 := G3.size
 have lt7 := Bw3.lt
 refine qm rfl<|sd_done<|sw_seq<|qs 3 rfl ?_
 have B8 := (Bw2.gr G3)
 refine qv rfl (vv_loadW agg_28 rfl B8 rfl) ?_
 obtain ⟨x1, hx1, hm⟩ := bnd hm
 refine qe rfl (eC en_98 rfl (ref05_CheckScheme_w hx1)) ?_
 rintro _ w4 ⟨rfl, G4⟩
 have z9 := G4.size
 refine qm rfl<|qd 2 rfl<|qm rfl<|qv rfl (vv_neq (a := x1) (b := 0) rfl rfl)<|sd_done ?_
 refine sw_cond rfl (fun c1 => ?_) (fun c1 => ?_)
 · replace hm := iT c1 hm
   refine qs 4 rfl<|qv rfl (vv_build (cs := THeader.cs (THeader.mk [] 0#64 [] k0 k0) (.slice none 0 0) (.slice none 0 0)) bs_36 rfl (by kernel_rfl))<|qm rfl ?_
   have B10 := (Bw3.gr G4)
   refine qe rfl (ev_stW agg_36 rfl rfl (THeader.cs_ones _ _ _ rfl rfl) B10 rfl rfl) ?_
   rintro _ w5 ⟨Bw5, M5⟩
   have z11 := M5.size
   refine qm rfl<|qb ?_
   have Y1 := Gr.trans (Gr.trans (Gr.trans G1 G2) G3) G4
   have X12 := (((Gr.refl w).trans Y1).md M5)
   cases hm
   refine ⟨_, _, rfl, res_2 rfl (rv_cellW agg_36 rfl Bw5 rfl) (rv_tmp rfl), ?_⟩
   exact ⟨(.slice none 0 0), 0, 0, (.slice none 0 0), 0, 0, rfl, (own_nil _ 0 173 18), ⟨.inl rfl⟩, (own_nil _ 0 50 2), ⟨.inl rfl⟩, ⟨(.inl rfl)⟩, X12⟩
 replace hm := iF c1 hm
 refine qu<|sw_seq<|qs 3 rfl<|qm rfl ?_
 obtain ⟨x2, hx2, hm⟩ := bnd hm
 refine qe rfl (eC en_65 rfl (ref05_Tick_w hx2)) ?_
 rintro _ w6 ⟨rfl, G6⟩
 have z13 := G6.size
 refine qv rfl (vv_not rfl)<|sd_done<|sw_cond rfl (fun c2 => ?_) (fun c2 => ?_)
 · replace hm := cnd_t c2 hm
   refine qs 3 rfl<|qv rfl (vv_build (cs := THeader.cs (THeader.mk [] 0#64 [] k0 k0) (.slice none 0 0) (.slice none 0 0)) bs_36 rfl (by kernel_rfl)) ?_
   have Y2 := Gr.trans G4 G6
   have B14 := (Bw3.gr Y2)
   refine qe rfl (ev_stW agg_36 rfl rfl (THeader.cs_ones _ _ _ rfl rfl) B14 rfl rfl) ?_
   rintro _ w7 ⟨Bw7, M7⟩
   have z15 := M7.size
   refine qm rfl<|qb ?_
   have Y3 := Gr.trans (Gr.trans (Gr.trans G1 G2) G3) Y2
   have X16 := (((Gr.refl w).trans Y3).md M7)
   cases hm
   refine ⟨_, _, rfl, res_2 rfl (rv_cellW agg_36 rfl Bw7 rfl) (rv_tmp rfl), ?_⟩
   exact ⟨(.slice none 0 0), 0, 0, (.slice none 0 0), 0, 0, rfl, (own_nil _ 0 173 18), ⟨.inl rfl⟩, (own_nil _ 0 50 2), ⟨.inl rfl⟩, ⟨(.inl rfl)⟩, X16⟩
 replace hm := cnd_f c2 hm
 refine qu<|qs 5 rfl ?_
 have Y4 := Gr.trans (Gr.trans (Gr.trans G2 G3) G4) G6
 have B17 := (Bw1.gr Y4)
 refine qv rfl (vv_loadW agg_23 rfl B17 rfl)<|qm rfl ?_
 obtain ⟨x3, hx3, hm⟩ := bnd hm
 refine qe rfl (eC en_47 rfl (ref05_Session_w hx3)) ?_
 rintro _ w8 ⟨rfl, G8⟩
 have z18 := G8.size
 refine qe rfl (ev_alloc (cs := kb k0) zv_23 rfl) ?_
 rintro _ w9 ⟨b9, rfl, hbw9, Bw9, G9⟩
 have z19 := G9.size
 have lt20 := Bw9.lt
 refine qe rfl (ev_stW agg_23 rfl rfl rfl Bw9 rfl rfl) ?_
 rintro _ w10 ⟨Bw10, M10⟩
 have z21 := M10.size
 refine sd_done<|sw_seq<|qs 3 rfl<|qv rfl (vv_fieldAddr fa_28_0 rfl) ?_
 have Y5 := Gr.trans (Gr.trans (Gr.trans G4 G6) G8) G9
 have B22 := ((B8.gr Y5).md M10)
 refine qv rfl (vv_load1 (v := bv p1.Kind) one_5 rfl B22 rfl)<|qv rfl (vv_eqlB (p := p1.Kind) (q := 4#8) rfl rfl)<|sd_done<|sw_cond rfl (fun c3 => ?_) (fun c3 => ?_)
 · replace hm := iT c3 hm
   refine qs 11 rfl ?_
   have Y6 := Gr.trans G8 G9
   have B23 := ((B17.gr Y6).md M10)
   refine qv rfl (vv_loadW agg_23 rfl B23 rfl)<|qv rfl (vv_loadW agg_28 rfl B22 rfl)<|qm rfl<|qv rfl (vv_loadW agg_23 rfl Bw10 rfl)<|qm rfl<|qv rfl (vv_cvIU cv_3_24 rfl) ?_
   have Y7 := Gr.trans (Gr.trans G1 Y4) Y6
   have B24 := ((hp3.gr Y7).md M10 (pb_lt lt1))
   obtain ⟨x4, hx4, hm⟩ := bnd hm
   refine qe rfl (eC en_99 rfl (ref04_Seal_w hx4 B24)) ?_
   rintro _ w11 ⟨u11_r0_0, z11_r0_0, g11_r0_0, u11_r0_2, z11_r0_2, g11_r0_2, rfl, O11_r0_0, f11_r0_0, O11_r0_2, f11_r0_2, d11_0, G11⟩
   have z25 := G11.size
   have lt26 := O11_r0_0.lth
   have lt27 := O11_r0_2.lth
   refine qm rfl<|qm rfl ?_
   have B28 := (((Bw3.gr Y5).md M10).gr G11)
   refine qe rfl (ev_stW agg_36 rfl rfl (THeader.cs_ones _ _ _ (Own.oneB O11_r0_0) (Own.oneB O11_r0_2)) B28 rfl rfl) ?_
   rintro _ w12 ⟨Bw12, M12⟩
   have z29 := M12.size
   refine qm rfl<|qb ?_
   have B30 := (O11_r0_0.md M12 (pb_0 f11_r0_0))
   have B31 := (O11_r0_2.md M12 (pb_0 f11_r0_2))
   have X32 := (((((Gr.refl w).trans Y7).md M10).trans G11).md M12)
   cases hm
   refine ⟨_, _, rfl, res_2 rfl (rv_cellW agg_36 rfl Bw12 rfl) (rv_tmp rfl), ?_⟩
   exact ⟨u11_r0_0, z11_r0_0, g11_r0_0, u11_r0_2, z11_r0_2, g11_r0_2, rfl, B30, ⟨(pv_0 (A := (fun x => w.heap.size ≤ x)) f11_r0_0)⟩, B31, ⟨(pv_0 (A := (fun x => w.heap.size ≤ x)) f11_r0_2)⟩, ⟨(tk1 d11_0.o)⟩, X32⟩
 replace hm := iF c3 hm
 refine qu<|qs 8 rfl<|qv rfl (vv_loadW agg_28 rfl B22 rfl)<|qm rfl ?_
 have Y8 := Gr.trans (Gr.trans (Gr.trans G1 Y4) G8) G9
 have B33 := ((hp3.gr Y8).md M10 (pb_lt lt1))
 obtain ⟨x5, hx5, hm⟩ := bnd hm
 refine qe rfl (eC en_100 rfl (ref03_Cover_w hx5 B33)) ?_
 rintro _ w13 ⟨u13_r0_s, z13_r0_s, g13_r0_s, rfl, O13_r0_s, f13_r0_s, G13⟩
 have z34 := G13.size
 have lt35 := O13_r0_s.lth
 refine qm rfl<|qm rfl<|qm rfl<|qm rfl<|qm rfl<|sd_done<|sw_seq ?_
 refine qs 2 rfl<|qm rfl<|qv rfl (vv_neq (a := x5.2) (b := 0) rfl rfl)<|sd_done<|sw_cond rfl (fun c4 => ?_) (fun c4 => ?_)
 · replace hm := iT c4 hm
   refine qs 4 rfl<|qv rfl (vv_build (cs := THeader.cs (THeader.mk [] 0#64 [] k0 k0) (.slice none 0 0) (.slice none 0 0)) bs_36 rfl (by kernel_rfl))<|qm rfl ?_
   have B36 := (((Bw3.gr Y5).md M10).gr G13)
   refine qe rfl (ev_stW agg_36 rfl rfl (THeader.cs_ones _ _ _ rfl rfl) B36 rfl rfl) ?_
   rintro _ w14 ⟨Bw14, M14⟩
   have z37 := M14.size
   refine qm rfl<|qb ?_
   have X38 := (((((Gr.refl w).trans Y8).md M10).trans G13).md M14)
   cases hm
   refine ⟨_, _, rfl, res_2 rfl (rv_cellW agg_36 rfl Bw14 rfl) (rv_tmp rfl), ?_⟩
   exact ⟨(.slice none 0 0), 0, 0, (.slice none 0 0), 0, 0, rfl, (own_nil _ 0 173 18), ⟨.inl rfl⟩, (own_nil _ 0 50 2), ⟨.inl rfl⟩, ⟨(.inl rfl)⟩, X38⟩
 replace hm := iF c4 hm
 refine qu<|qs 9 rfl ?_
 have Y9 := Gr.trans G8 G9
 have B39 := (((B17.gr Y9).md M10).gr G13)
 refine qv rfl (vv_loadW agg_23 rfl B39 rfl) ?_
 have B40 := (B22.gr G13)
 refine qv rfl (vv_loadW agg_28 rfl B40 rfl)<|qm rfl ?_
 have B41 := (Bw10.gr G13)
 refine qv rfl (vv_loadW agg_23 rfl B41 rfl) ?_
 obtain ⟨x6, hx6, hm⟩ := bnd hm
 refine qe rfl (eC en_101 rfl (ref03_Seal_w hx6 (Own.rd O13_r0_s))) ?_
 rintro _ w15 ⟨u15_r0_0, z15_r0_0, g15_r0_0, u15_r0_2, z15_r0_2, g15_r0_2, rfl, O15_r0_0, f15_r0_0, O15_r0_2, f15_r0_2, d15_0, G15⟩
 have z42 := G15.size
 have lt43 := O15_r0_0.lth
 have lt44 := O15_r0_2.lth
 refine qm rfl<|qm rfl ?_
 have B45 := ((((Bw3.gr Y5).md M10).gr G13).gr G15)
 refine qe rfl (ev_stW agg_36 rfl rfl (THeader.cs_ones _ _ _ (Own.oneB O15_r0_0) (Own.oneB O15_r0_2)) B45 rfl rfl) ?_
 rintro _ w16 ⟨Bw16, M16⟩
 have z46 := M16.size
 refine qm rfl<|sd_done<|sw_ret ?_
 have B47 := (O15_r0_0.md M16 (pb_0 f15_r0_0))
 have B48 := (O15_r0_2.md M16 (pb_0 f15_r0_2))
 have X49 := ((((((Gr.refl w).trans Y8).md M10).trans G13).trans G15).md M16)
 cases hm
 refine ⟨_, _, rfl, res_2 rfl (rv_cellW agg_36 rfl Bw16 rfl) (rv_tmp rfl), ?_⟩
 exact ⟨u15_r0_0, z15_r0_0, g15_r0_0, u15_r0_2, z15_r0_2, g15_r0_2, rfl, B47, ⟨(pv_0 (A := (fun x => w.heap.size ≤ x)) f15_r0_0)⟩, B48, ⟨(pv_0 (A := (fun x => w.heap.size ≤ x)) f15_r0_2)⟩, ⟨(tk1 d15_0.o)⟩, X49⟩
theorem ref05_number_w {p0 p1 p2 vp0 zp0 gp0 r} (hm : ref05_number p0 p1 p2 = some r) {w : World} (hp0 : Own w zp0 gp0 5 1 vp0 (p0.map bvc)) :
    Calls Tryz.prog 186 [vp0, wv p1, .int .i64 p2].toArray w fun e w' => ∃ v, e = .returned v ∧ (∃ ur0_s zr0_s gr0_s, v = ur0_s ∧ Own w' zr0_s gr0_s 5 1 ur0_s (r.map bvc) ∧ Hdn (zr0_s = 0 ∨ (gr0_s = gp0 ∧ zp0 ≠ 0) ∨ w.heap.size ≤ gr0_s) ∧ Kz [(zp0, gp0)] w w') := by
 have lt1 := hp0.lth
 unfold ref05_number at hm
 refine calls_of_sw 24 Tryz.func186 rfl rfl rfl<|qs 1 rfl<|qm rfl<|sd_done<|sw_seq<|sw_seq ?_
 refine qg 3 rfl<|qm rfl<|qv rfl (vv_sub (k := .i64) (a := p2) (b := 1) rfl rfl)<|qm rfl<|sd_done<|sw_block<|sw_loopD (α := Nat × List (BitVec 8) × Int × Value × Nat × Nat) ([0, 7] ++ rg 10 13) (fun ⟨n1, a4, a6, vy5, zy5, gy5⟩ => [(0, vy5), (7, .int .i64 a6)]) (fun ⟨n1, a4, a6, vy5, zy5, gy5⟩ wr => (fixN (ref05_number_L1 p1) n1 (a4, a6) = some r) ∧ Own wr zy5 gy5 5 1 vy5 (a4.map bvc) ∧ Hdn (zy5 = 0 ∨ (gy5 = gp0 ∧ zp0 ≠ 0) ∨ w.heap.size ≤ gy5) ∧ Kz [(zp0, gp0)] w wr) (fun ⟨n1, a4, a6, vy5, zy5, gy5⟩ => n1) ⟨FUEL, p0, w64 (p2 - 1), vp0, zp0, gp0⟩ ?_ ?_ ?_
 · exact sbq
 · exact ⟨hm, hp0, ⟨tk0⟩, Kz.refl _ _⟩
 clear hm; rintro ⟨n1, a4, a6, vy5, zy5, gy5⟩ w1 ⟨hm, Fw1_0, Fw1_1, K1⟩
 have z2 := K1.size
 have lt3 := Fw1_0.lth
 have hb := fix_succ hm; clear hm; obtain ⟨n1, rfl, hm⟩ := hb
 generalize hrec1 : fixN (ref05_number_L1 p1) n1 = rec1 at hm
 unfold ref05_number_L1 at hm
 try dsimp only at hm
 refine sw_seq<|qs 2 rfl<|qm rfl<|qv rfl (vv_geq (a := a6) (b := 0) rfl rfl)<|sd_done<|cnF rfl (fun c1 => ?_) (fun c1 => ?_)
 · replace hm := iF c1 hm
   refine sw_exit<|then_x<|then_x<|block_x<|then_n<|qs 2 rfl ?_
   refine qm rfl<|qm rfl<|sd_done<|sw_ret ?_
   have X9 := ((Kz.refl [(zp0, gp0)] w).kz K1 (tk1 (tk0 : zp0 = 0 ∨ (gp0 = gp0 ∧ zp0 ≠ 0) ∨ w.heap.size ≤ gp0)))
   cases hm
   refine ⟨_, _, rfl, res_1 rfl (rv_tmp rfl), ?_⟩
   exact ⟨vy5, zy5, gy5, rfl, Fw1_0, ⟨(pv_1 (A := (fun x => (x = gp0 ∧ zp0 ≠ 0) ∨ w.heap.size ≤ x)) Fw1_1 tk0)⟩, X9⟩
 replace hm := iT c1 hm
 refine qu<|sw_seq<|sw_block<|qg 10 rfl<|qm rfl<|qm rfl ?_
 refine qm rfl<|qv rfl (vv_mul (k := .i64) (a := 8) (b := a6) rfl rfl)<|qv rfl (vv_cvIU cv_3_155 rfl) ?_
 obtain ⟨nn7, hnn7, hm⟩ := bnd hm
 refine qv rfl (vv_shrU (c := p1) (b := (un (wd (w64 (8 * a6))))) rfl rfl hnn7)<|qv rfl (vv_cvUB cv_24_5 rfl)<|qe rfl (ev_litT [(p1 >>> nn7).setWidth 8] bvc bsl_32_1 rfl rfl (ws_of rfl) rfl rfl rfl) ?_
 rintro vw2 w2 ⟨gw2, hbw2, Ow2, G2⟩
 have z4 := G2.size
 have lt5 := Ow2.lth
 have B6 := (Fw1_0.gr G2)
 obtain ⟨l8, hl8, hm⟩ := bnd hm
 refine qe rfl (ev_appT (l := a4) (m := [(p1 >>> nn7).setWidth 8]) (c := bvc) apt_32 rfl rfl B6 (Own.rd Ow2) hl8 (by decide)) ?_
 rintro vw3 w3 ⟨zw3, gw3, Ow3, Aw3, qw3, rw3⟩
 have z7 := Aw3.size
 refine qm rfl<|sd_nil<|block_n<|then_n<|qg 3 rfl<|qm rfl<|qv rfl (vv_sub (k := .i64) (a := a6) (b := 1) rfl rfl) ?_
 refine qm rfl<|sd_nil ?_
 have K_8 : Kz [(zp0, gp0)] w w3 := ((K1.gr G2).ka Aw3 (tk1 (pv_1 (A := (fun x => (x = gp0 ∧ zp0 ≠ 0) ∨ w.heap.size ≤ x)) Fw1_1 tk0)))
 subst hrec1
 exact ⟨rfl, ⟨n1, l8, w64 (a6 - 1), vw3, zw3, gw3⟩, sbq, ⟨hm, Ow3, ⟨(pv_app (A := (fun x => (x = gp0 ∧ zp0 ≠ 0) ∨ w.heap.size ≤ x)) rw3 (pv_1 (A := (fun x => (x = gp0 ∧ zp0 ≠ 0) ∨ w.heap.size ≤ x)) Fw1_1 tk0))⟩, K_8⟩, Nat.lt_succ_self _⟩
theorem ref05_Body_w {p0 vp0_2 zp0_2 gp0_2 op0_2 vp0_4 zp0_4 gp0_4 op0_4 vp0_39 zp0_39 gp0_39 op0_39 r} (hm : ref05_Body p0 = some r) {w : World} (hp0_2 : Rd w zp0_2 gp0_2 op0_2 18 vp0_2 (p0.Head.Items.map TItem.cs)) (hp0_4 : Rd w zp0_4 gp0_4 op0_4 2 vp0_4 (p0.Head.Points.map TPoint.cs)) (hp0_39 : Rd w zp0_39 gp0_39 op0_39 1 vp0_39 (p0.Data.map bvc)) :
    Calls Tryz.prog 104 [.agg (TPacket.cs p0 vp0_2 vp0_4 vp0_39).toArray].toArray w fun e w' => ∃ v, e = .returned v ∧ (∃ ur0_s zr0_s gr0_s, v = ur0_s ∧ Own w' zr0_s gr0_s 5 1 ur0_s (r.map bvc) ∧ Hdn (zr0_s = 0 ∨ w.heap.size ≤ gr0_s) ∧ Gr w w') := by
 have lt1 := hp0_2.lth
 have lt2 := hp0_4.lth
 have lt3 := hp0_39.lth
 unfold ref05_Body at hm
 refine calls_of_sw 123 Tryz.func104 rfl rfl rfl<|qs 2 rfl<|qe rfl (ev_box (cs := TPacket.cs p0 vp0_2 vp0_4 vp0_39) rfl rfl) ?_
 rintro _ w1 ⟨b1, rfl, hbw1, Bw1, G1⟩
 have z4 := G1.size
 have lt5 := Bw1.lt
 refine qm rfl<|qd 4 rfl<|qv rfl (vv_fieldAddr fa_38_0 rfl)<|qv rfl (vv_load1 (v := bv p0.Kind) one_5 rfl Bw1 rfl)<|qe rfl (ev_litT [p0.Kind] bvc bsl_32_1 rfl rfl (ws_of rfl) rfl rfl rfl) ?_
 rintro vw2 w2 ⟨gw2, hbw2, Ow2, G2⟩
 have z6 := G2.size
 have lt7 := Ow2.lth
 refine qm rfl<|sd_done<|sw_seq<|qs 3 rfl<|qv rfl (vv_fieldAddr fa_38_0 rfl) ?_
 have B8 := (Bw1.gr G2)
 refine qv rfl (vv_load1 (v := bv p0.Kind) one_5 rfl B8 rfl)<|qv rfl (vv_eqlB (p := p0.Kind) (q := 2#8) rfl rfl)<|sd_done<|sw_cond rfl (fun c1 => ?_) (fun c1 => ?_)
 · replace hm := iT c1 hm
   refine qs 6 rfl<|qm rfl<|qv rfl (vv_fieldAddr fa_38_3 rfl)<|qv rfl (vv_load1 (v := bv p0.Low) one_5 rfl B8 rfl)<|qe rfl (ev_litT [p0.Low] bvc bsl_32_1 rfl rfl (ws_of rfl) rfl rfl rfl) ?_
   rintro vw3 w3 ⟨gw3, hbw3, Ow3, G3⟩
   have z9 := G3.size
   have lt10 := Ow3.lth
   have B11 := (Ow2.gr G3)
   obtain ⟨l1, hl1, hm⟩ := bnd hm
   refine qe rfl (ev_appT (l := [p0.Kind]) (m := [p0.Low]) (c := bvc) apt_32 rfl rfl B11 (Own.rd Ow3) hl1 (by decide)) ?_
   rintro vw4 w4 ⟨zw4, gw4, Ow4, Aw4, qw4, rw4⟩
   have z12 := Aw4.size
   refine qm rfl<|qd 5 rfl<|qm rfl<|qv rfl (vv_fieldAddr fa_38_4 rfl) ?_
   have B13 := ((B8.gr G3).ka Aw4 (tk1 ((.inr tk0) : 1 = 0 ∨ gw2 ≠ b1)))
   refine qv rfl (vv_load1 (v := wv p0.Number) one_24 rfl B13 rfl) ?_
   obtain ⟨x2, hx2, hm⟩ := bnd hm
   refine qe rfl (eC en_186 rfl (ref05_number_w hx2 Ow4)) ?_
   rintro u5_r0_s w5 ⟨_, z5_r0_s, g5_r0_s, rfl, O5_r0_s, f5_r0_s, K5⟩
   have z14 := K5.size
   have lt15 := O5_r0_s.lth
   refine qm rfl<|qd 7 rfl<|qm rfl<|qv rfl (vv_fieldAddr fa_38_5 rfl) ?_
   have B16 := (B13.kz K5 (tk1 (pb_app (b := b1) rw4 (.inr tk0))))
   refine qv rfl (vv_load1 (v := vp0_39) one_32 rfl B16 rfl) ?_
   have B17 := (((((hp0_39.gr G1).gr G2).gr G3).ka Aw4 (tk1 ((pv_sw (.inr (tk1 lt3.o))) : zp0_39 = 0 ∨ 1 = 0 ∨ gp0_39 ≠ gw2))).kz K5 (tk1 ((pv_sw (pv_app (A := (fun x => zp0_39 = 0 ∨ x ≠ gp0_39)) rw4 (.inr (tk1 lt3.o)) (fun x hx => (tk1 lt3.o)))) : zp0_39 = 0 ∨ zw4 = 0 ∨ gp0_39 ≠ gw4)))
   refine qv rfl (vv_lenT (l := p0.Data) (c := bvc) Tryz.underlying32 rfl B17)<|qv rfl (vv_cvIU cv_3_24 rfl) ?_
   obtain ⟨x3, hx3, hm⟩ := bnd hm
   refine qe rfl (eC en_186 rfl (ref05_number_w hx3 O5_r0_s)) ?_
   rintro u6_r0_s w6 ⟨_, z6_r0_s, g6_r0_s, rfl, O6_r0_s, f6_r0_s, K6⟩
   have z18 := K6.size
   have lt19 := O6_r0_s.lth
   refine qm rfl<|qd 5 rfl<|qm rfl<|qv rfl (vv_fieldAddr fa_38_5 rfl) ?_
   have B20 := (B16.kz K6 (tk1 (pb_1 (b := b1) f5_r0_s (pb_app rw4 (.inr tk0)))))
   refine qv rfl (vv_load1 (v := vp0_39) one_32 rfl B20 rfl) ?_
   have B21 := (B17.kz K6 (tk1 ((pv_sw (pv_1 (A := (fun x => zp0_39 = 0 ∨ x ≠ gp0_39)) f5_r0_s (pv_app (A := (fun x => zp0_39 = 0 ∨ x ≠ gp0_39)) rw4 (.inr (tk1 lt3.o)) (fun x hx => (tk1 lt3.o))) (fun x hx => (tk1 lt3.o)))) : zp0_39 = 0 ∨ z5_r0_s = 0 ∨ gp0_39 ≠ g5_r0_s)))
   obtain ⟨l4, hl4, hm⟩ := bnd hm
   refine qe rfl (ev_appT (l := x3) (m := p0.Data) (c := bvc) apt_32 rfl rfl O6_r0_s B21 hl4 (by decide)) ?_
   rintro vw7 w7 ⟨zw7, gw7, Ow7, Aw7, qw7, rw7⟩
   have z22 := Aw7.size
   refine qm rfl<|qb ?_
   have X23 := ((((((((Gr.refl w).trans G1).trans G2).trans G3).ka Aw4 (tk1 ((.inr tk0) : 1 = 0 ∨ w.heap.size ≤ gw2))).kz K5 (tk1 (pv_app (A := (fun x => w.heap.size ≤ x)) rw4 (.inr tk0)))).kz K6 (tk1 (pv_1 (A := (fun x => w.heap.size ≤ x)) f5_r0_s (pv_app (A := (fun x => w.heap.size ≤ x)) rw4 (.inr tk0))))).ka Aw7 (tk1 (pv_1 (A := (fun x => w.heap.size ≤ x)) f6_r0_s (pv_1 (A := (fun x => w.heap.size ≤ x)) f5_r0_s (pv_app (A := (fun x => w.heap.size ≤ x)) rw4 (.inr tk0))))))
   cases hm
   refine ⟨_, _, rfl, res_1 rfl (rv_tmp rfl), ?_⟩
   exact ⟨vw7, zw7, gw7, rfl, Ow7, ⟨(pv_app (A := (fun x => w.heap.size ≤ x)) rw7 (pv_1 (A := (fun x => w.heap.size ≤ x)) f6_r0_s (pv_1 (A := (fun x => w.heap.size ≤ x)) f5_r0_s (pv_app (A := (fun x => w.heap.size ≤ x)) rw4 (.inr tk0)))))⟩, X23⟩
 replace hm := iF c1 hm
 refine qu<|qs 6 rfl<|qm rfl<|qv rfl (vv_fieldAddr fa_38_1 rfl)<|qv rfl (vv_load1 (v := .int .i64 p0.Epoch) one_3 rfl B8 rfl) ?_
 refine qv rfl (vv_cvIU cv_3_24 rfl) ?_
 obtain ⟨x5, hx5, hm⟩ := bnd hm
 refine qe rfl (eC en_186 rfl (ref05_number_w hx5 Ow2)) ?_
 rintro u8_r0_s w8 ⟨_, z8_r0_s, g8_r0_s, rfl, O8_r0_s, f8_r0_s, K8⟩
 have z24 := K8.size
 have lt25 := O8_r0_s.lth
 refine qm rfl<|qd 9 rfl<|qm rfl<|qv rfl (vv_fieldAddr fa_38_2 rfl)<|qv rfl (vv_fieldAddr fa_36_0 rfl) ?_
 have B26 := (B8.kz K8 (tk1 ((.inr tk0) : 1 = 0 ∨ gw2 ≠ b1)))
 refine qv rfl (vv_load1 (v := vp0_2) one_33 rfl B26 rfl) ?_
 have Y1 := Gr.trans G1 G2
 have B27 := ((hp0_2.gr Y1).kz K8 (tk1 ((pv_sw (.inr (tk1 lt1.o))) : zp0_2 = 0 ∨ 1 = 0 ∨ gp0_2 ≠ gw2)))
 refine qv rfl (vv_lenT (l := p0.Head.Items) (c := TItem.cs) Tryz.underlying33 rfl B27)<|qv rfl (vv_cvIB cv_3_5 rfl)<|qe rfl (ev_litT [wd8 (p0.Head.Items.length : Int)] bvc bsl_32_1 rfl rfl (ws_of rfl) rfl rfl rfl) ?_
 rintro vw9 w9 ⟨gw9, hbw9, Ow9, G9⟩
 have z28 := G9.size
 have lt29 := Ow9.lth
 have B30 := (O8_r0_s.gr G9)
 obtain ⟨l6, hl6, hm⟩ := bnd hm
 refine qe rfl (ev_appT (l := x5) (m := [wd8 (p0.Head.Items.length : Int)]) (c := bvc) apt_32 rfl rfl B30 (Own.rd Ow9) hl6 (by decide)) ?_
 rintro vw10 w10 ⟨zw10, gw10, Ow10, Aw10, qw10, rw10⟩
 have z31 := Aw10.size
 refine qm rfl<|sd_done<|sw_seq<|qs 1 rfl<|qm rfl<|sd_done ?_
 refine sw_block ?_
 have X32 := (((((Gr.refl w).trans Y1).kz K8 (tk1 ((.inr tk0) : 1 = 0 ∨ w.heap.size ≤ gw2))).trans G9).ka Aw10 (tk1 (pv_1 (A := (fun x => w.heap.size ≤ x)) f8_r0_s (.inr tk0))))
 have B33 := ((B27.gr G9).ka Aw10 (tk1 ((pv_sw (pv_1 (A := (fun x => zp0_2 = 0 ∨ x ≠ gp0_2)) f8_r0_s (.inr (tk1 lt1.o)) (fun x hx => (tk1 lt1.o)))) : zp0_2 = 0 ∨ z8_r0_s = 0 ∨ gp0_2 ≠ g8_r0_s)))
 have B34 := ((((hp0_4.gr Y1).kz K8 (tk1 ((pv_sw (.inr (tk1 lt2.o))) : zp0_4 = 0 ∨ 1 = 0 ∨ gp0_4 ≠ gw2))).gr G9).ka Aw10 (tk1 ((pv_sw (pv_1 (A := (fun x => zp0_4 = 0 ∨ x ≠ gp0_4)) f8_r0_s (.inr (tk1 lt2.o)) (fun x hx => (tk1 lt2.o)))) : zp0_4 = 0 ∨ z8_r0_s = 0 ∨ gp0_4 ≠ g8_r0_s)))
 have B35 := ((((hp0_39.gr Y1).kz K8 (tk1 ((pv_sw (.inr (tk1 lt3.o))) : zp0_39 = 0 ∨ 1 = 0 ∨ gp0_39 ≠ gw2))).gr G9).ka Aw10 (tk1 ((pv_sw (pv_1 (A := (fun x => zp0_39 = 0 ∨ x ≠ gp0_39)) f8_r0_s (.inr (tk1 lt3.o)) (fun x hx => (tk1 lt3.o)))) : zp0_39 = 0 ∨ z8_r0_s = 0 ∨ gp0_39 ≠ g8_r0_s)))
 have B36 := (Ow9.ka Aw10 (tk1 ((.inr (tk1 lt25.o)) : 1 = 0 ∨ z8_r0_s = 0 ∨ gw9 ≠ g8_r0_s)))
 refine sw_loopD (α := Nat × List (BitVec 8) × Int × Value × Nat × Nat) ([3, 4, 5] ++ rg 45 29) (fun ⟨n1, a10, a12, vy11, zy11, gy11⟩ => [(3, vy11), (4, .int .i64 a12)]) (fun ⟨n1, a10, a12, vy11, zy11, gy11⟩ wr => (fixN (ref05_Body_L1 p0) n1 (a10, a12) = some r) ∧ Own wr zy11 gy11 5 1 vy11 (a10.map bvc) ∧ Hdn (zy11 = 0 ∨ (gy11 = gw10 ∧ zw10 ≠ 0) ∨ w10.heap.size ≤ gy11) ∧ Kz [(zw10, gw10)] w10 wr) (fun ⟨n1, a10, a12, vy11, zy11, gy11⟩ => n1) ⟨FUEL, l6, 0, vw10, zw10, gw10⟩ ?_ ?_ ?_
 · exact sbq
 · exact ⟨hm, Ow10, ⟨tk0⟩, Kz.refl _ _⟩
 clear hm; rintro ⟨n1, a10, a12, vy11, zy11, gy11⟩ w11 ⟨hm, Fw11_0, Fw11_1, K11⟩
 have z37 := K11.size
 have lt38 := Fw11_0.lth
 have hb := fix_succ hm; clear hm; obtain ⟨n1, rfl, hm⟩ := hb
 generalize hrec1 : fixN (ref05_Body_L1 p0) n1 = rec1 at hm
 unfold ref05_Body_L1 at hm
 try dsimp only at hm
 refine sw_seq<|qs 6 rfl<|qm rfl<|qv rfl (vv_fieldAddr fa_38_2 rfl)<|qv rfl (vv_fieldAddr fa_36_0 rfl) ?_
 have B39 := (((B26.gr G9).ka Aw10 (tk1 (pb_1 (b := b1) f8_r0_s (.inr tk0)))).kz K11 (tk1 (pb_app (b := b1) rw10 (pb_1 f8_r0_s (.inr tk0)))))
 refine qv rfl (vv_load1 (v := vp0_2) one_33 rfl B39 rfl) ?_
 have B40 := (B33.kz K11 (tk1 ((pv_sw (pv_app (A := (fun x => zp0_2 = 0 ∨ x ≠ gp0_2)) rw10 (pv_1 (A := (fun x => zp0_2 = 0 ∨ x ≠ gp0_2)) f8_r0_s (.inr (tk1 lt1.o)) (fun x hx => (tk1 lt1.o))) (fun x hx => (tk1 lt1.o)))) : zp0_2 = 0 ∨ zw10 = 0 ∨ gp0_2 ≠ gw10)))
 refine qv rfl (vv_lenT (l := p0.Head.Items) (c := TItem.cs) Tryz.underlying33 rfl B40)<|qv rfl (vv_lss (a := a12) (b := (p0.Head.Items.length : Int)) rfl rfl)<|sd_done<|sw_cond rfl (fun c2 => ?_) (fun c2 => ?_)
 · replace hm := iT c2 hm
   refine qu<|sw_seq<|sw_block<|qs 8 rfl<|qv rfl (vv_fieldAddr fa_38_2 rfl) ?_
   refine qv rfl (vv_fieldAddr fa_36_0 rfl)<|qv rfl (vv_load1 (v := vp0_2) one_33 rfl B39 rfl)<|qm rfl ?_
   obtain ⟨y13, hy13, hm⟩ := bnd hm
   refine qv rfl (vv_ixT (i := a12) Tryz.underlying33 (agg_173).siz rfl B40 rfl hy13)<|qv rfl (vv_elWT agg_173 rfl B40 hy13 (by first | rfl | omega))<|qe rfl (ev_alloc (cs := TItem.cs (TItem.mk (TSubset.mk 0 0) k0)) zv_173 rfl) ?_
   rintro _ w12 ⟨b12, rfl, hbw12, Bw12, G12⟩
   have z41 := G12.size
   have lt42 := Bw12.lt
   refine qe rfl (ev_stW agg_173 rfl rfl rfl Bw12 rfl rfl) ?_
   rintro _ w13 ⟨Bw13, M13⟩
   have z43 := M13.size
   refine qd 12 rfl<|qm rfl<|qv rfl (vv_fieldAddr fa_173_0 rfl)<|qv rfl (vv_fieldAddr fa_171_0 rfl)<|qv rfl (vv_load1 (v := .int .i64 y13.Subset.Node) one_3 rfl Bw13 rfl) ?_
   refine qv rfl (vv_cvIB cv_3_5 rfl)<|qv rfl (vv_fieldAddr fa_173_0 rfl)<|qv rfl (vv_fieldAddr fa_171_1 rfl)<|qv rfl (vv_load1 (v := .int .i64 y13.Subset.Minus) one_3 rfl Bw13 rfl)<|qv rfl (vv_cvIB cv_3_5 rfl)<|qe rfl (ev_litT [wd8 y13.Subset.Node, wd8 y13.Subset.Minus] bvc bsl_32_2 rfl rfl (ws_of rfl) rfl rfl rfl) ?_
   rintro vw14 w14 ⟨gw14, hbw14, Ow14, G14⟩
   have z44 := G14.size
   have lt45 := Ow14.lth
   have B46 := (((Fw11_0.gr G12).md M13 (pb_lt lt38)).gr G14)
   obtain ⟨l14, hl14, hm⟩ := bnd hm
   refine qe rfl (ev_appT (l := a10) (m := [wd8 y13.Subset.Node, wd8 y13.Subset.Minus]) (c := bvc) apt_32 rfl rfl B46 (Own.rd Ow14) hl14 (by decide)) ?_
   rintro vw15 w15 ⟨zw15, gw15, Ow15, Aw15, qw15, rw15⟩
   have z47 := Aw15.size
   refine qm rfl<|sd_done<|qg 5 rfl<|qm rfl<|qv rfl (vv_fieldAddr fa_173_1 rfl) ?_
   have B48 := ((Bw13.gr G14).ka Aw15 (tk1 (pb_lt (b := b12) lt38)))
   have Rk49 := rd_key (o := 2) (p := y13.Box) B48 rfl
   have lt50 := Rk49.lth
   refine qv rfl (vv_sliceA (n := 16) (l := 0) (h := 16) Tryz.underlying23 (one_5).siz rfl rfl rfl (by decide) (by decide) (by decide)) ?_
   obtain ⟨l15, hl15, hm⟩ := bnd hm
   refine qe rfl (ev_appT (l := l14) (m := kby y13.Box) (c := bvc) apt_32 rfl rfl Ow15 Rk49 hl15 (by decide)) ?_
   rintro vw16 w16 ⟨zw16, gw16, Ow16, Aw16, qw16, rw16⟩
   have z51 := Aw16.size
   refine qm rfl<|sd_nil<|block_n<|then_n<|qg 3 rfl<|qm rfl<|qv rfl (vv_add (k := .i64) (a := a12) (b := 1) rfl rfl) ?_
   refine qm rfl<|sd_nil ?_
   have K_52 : Kz [(zw10, gw10)] w10 w16 := (((((K11.gr G12).md M13).gr G14).ka Aw15 (tk1 (pv_1 (A := (fun x => (x = gw10 ∧ zw10 ≠ 0) ∨ w10.heap.size ≤ x)) Fw11_1 tk0))).ka Aw16 (tk1 (pv_app (A := (fun x => (x = gw10 ∧ zw10 ≠ 0) ∨ w10.heap.size ≤ x)) rw15 (pv_1 (A := (fun x => (x = gw10 ∧ zw10 ≠ 0) ∨ w10.heap.size ≤ x)) Fw11_1 tk0))))
   subst hrec1
   exact ⟨rfl, ⟨n1, l15, w64 (a12 + 1), vw16, zw16, gw16⟩, sbq, ⟨hm, Ow16, ⟨(pv_app (A := (fun x => (x = gw10 ∧ zw10 ≠ 0) ∨ w10.heap.size ≤ x)) rw16 (pv_app (A := (fun x => (x = gw10 ∧ zw10 ≠ 0) ∨ w10.heap.size ≤ x)) rw15 (pv_1 (A := (fun x => (x = gw10 ∧ zw10 ≠ 0) ∨ w10.heap.size ≤ x)) Fw11_1 tk0)))⟩, K_52⟩, Nat.lt_succ_self _⟩
 replace hm := iF c2 hm
 refine sw_exit<|then_x<|then_x<|block_x<|then_n<|qs 6 rfl ?_
 refine qm rfl<|qv rfl (vv_fieldAddr fa_38_2 rfl)<|qv rfl (vv_fieldAddr fa_36_1 rfl)<|qv rfl (vv_load1 (v := wv p0.Head.Base) one_24 rfl B39 rfl) ?_
 obtain ⟨x16, hx16, hm⟩ := bnd hm
 refine qe rfl (eC en_186 rfl (ref05_number_w hx16 Fw11_0)) ?_
 rintro u17_r0_s w17 ⟨_, z17_r0_s, g17_r0_s, rfl, O17_r0_s, f17_r0_s, K17⟩
 have z53 := K17.size
 have lt54 := O17_r0_s.lth
 refine qm rfl<|qd 9 rfl<|qm rfl<|qv rfl (vv_fieldAddr fa_38_2 rfl)<|qv rfl (vv_fieldAddr fa_36_2 rfl) ?_
 have B55 := (B39.kz K17 (tk1 (pb_1 (b := b1) Fw11_1 (pb_app rw10 (pb_1 f8_r0_s (.inr tk0))))))
 refine qv rfl (vv_load1 (v := vp0_4) one_34 rfl B55 rfl) ?_
 have B56 := ((B34.kz K11 (tk1 ((pv_sw (pv_app (A := (fun x => zp0_4 = 0 ∨ x ≠ gp0_4)) rw10 (pv_1 (A := (fun x => zp0_4 = 0 ∨ x ≠ gp0_4)) f8_r0_s (.inr (tk1 lt2.o)) (fun x hx => (tk1 lt2.o))) (fun x hx => (tk1 lt2.o)))) : zp0_4 = 0 ∨ zw10 = 0 ∨ gp0_4 ≠ gw10))).kz K17 (tk1 ((pv_sw (pv_1 (A := (fun x => zp0_4 = 0 ∨ x ≠ gp0_4)) Fw11_1 (pv_app (A := (fun x => zp0_4 = 0 ∨ x ≠ gp0_4)) rw10 (pv_1 (A := (fun x => zp0_4 = 0 ∨ x ≠ gp0_4)) f8_r0_s (.inr (tk1 lt2.o)) (fun x hx => (tk1 lt2.o))) (fun x hx => (tk1 lt2.o))) (fun x hx => (tk1 lt2.o)))) : zp0_4 = 0 ∨ zy11 = 0 ∨ gp0_4 ≠ gy11)))
 refine qv rfl (vv_lenT (l := p0.Head.Points) (c := TPoint.cs) Tryz.underlying34 rfl B56)<|qv rfl (vv_cvIB cv_3_5 rfl)<|qe rfl (ev_litT [wd8 (p0.Head.Points.length : Int)] bvc bsl_32_1 rfl rfl (ws_of rfl) rfl rfl rfl) ?_
 rintro vw18 w18 ⟨gw18, hbw18, Ow18, G18⟩
 have z57 := G18.size
 have lt58 := Ow18.lth
 have B59 := (O17_r0_s.gr G18)
 obtain ⟨l17, hl17, hm⟩ := bnd hm
 refine qe rfl (ev_appT (l := x16) (m := [wd8 (p0.Head.Points.length : Int)]) (c := bvc) apt_32 rfl rfl B59 (Own.rd Ow18) hl17 (by decide)) ?_
 rintro vw19 w19 ⟨zw19, gw19, Ow19, Aw19, qw19, rw19⟩
 have z60 := Aw19.size
 refine qm rfl<|sd_done<|sw_seq<|qs 1 rfl<|qm rfl<|sd_done ?_
 refine sw_block ?_
 have X61 := ((((X32.kz K11 (tk1 (pv_app (A := (fun x => w.heap.size ≤ x)) rw10 (pv_1 (A := (fun x => w.heap.size ≤ x)) f8_r0_s (.inr tk0))))).kz K17 (tk1 (pv_1 (A := (fun x => w.heap.size ≤ x)) Fw11_1 (pv_app (A := (fun x => w.heap.size ≤ x)) rw10 (pv_1 (A := (fun x => w.heap.size ≤ x)) f8_r0_s (.inr tk0)))))).trans G18).ka Aw19 (tk1 (pv_1 (A := (fun x => w.heap.size ≤ x)) f17_r0_s (pv_1 (A := (fun x => w.heap.size ≤ x)) Fw11_1 (pv_app (A := (fun x => w.heap.size ≤ x)) rw10 (pv_1 (A := (fun x => w.heap.size ≤ x)) f8_r0_s (.inr tk0)))))))
 have B62 := (((B40.kz K17 (tk1 ((pv_sw (pv_1 (A := (fun x => zp0_2 = 0 ∨ x ≠ gp0_2)) Fw11_1 (pv_app (A := (fun x => zp0_2 = 0 ∨ x ≠ gp0_2)) rw10 (pv_1 (A := (fun x => zp0_2 = 0 ∨ x ≠ gp0_2)) f8_r0_s (.inr (tk1 lt1.o)) (fun x hx => (tk1 lt1.o))) (fun x hx => (tk1 lt1.o))) (fun x hx => (tk1 lt1.o)))) : zp0_2 = 0 ∨ zy11 = 0 ∨ gp0_2 ≠ gy11))).gr G18).ka Aw19 (tk1 ((pv_sw (pv_1 (A := (fun x => zp0_2 = 0 ∨ x ≠ gp0_2)) f17_r0_s (pv_1 (A := (fun x => zp0_2 = 0 ∨ x ≠ gp0_2)) Fw11_1 (pv_app (A := (fun x => zp0_2 = 0 ∨ x ≠ gp0_2)) rw10 (pv_1 (A := (fun x => zp0_2 = 0 ∨ x ≠ gp0_2)) f8_r0_s (.inr (tk1 lt1.o)) (fun x hx => (tk1 lt1.o))) (fun x hx => (tk1 lt1.o))) (fun x hx => (tk1 lt1.o))) (fun x hx => (tk1 lt1.o)))) : zp0_2 = 0 ∨ z17_r0_s = 0 ∨ gp0_2 ≠ g17_r0_s)))
 have B63 := ((B56.gr G18).ka Aw19 (tk1 ((pv_sw (pv_1 (A := (fun x => zp0_4 = 0 ∨ x ≠ gp0_4)) f17_r0_s (pv_1 (A := (fun x => zp0_4 = 0 ∨ x ≠ gp0_4)) Fw11_1 (pv_app (A := (fun x => zp0_4 = 0 ∨ x ≠ gp0_4)) rw10 (pv_1 (A := (fun x => zp0_4 = 0 ∨ x ≠ gp0_4)) f8_r0_s (.inr (tk1 lt2.o)) (fun x hx => (tk1 lt2.o))) (fun x hx => (tk1 lt2.o))) (fun x hx => (tk1 lt2.o))) (fun x hx => (tk1 lt2.o)))) : zp0_4 = 0 ∨ z17_r0_s = 0 ∨ gp0_4 ≠ g17_r0_s)))
 have B64 := ((((B35.kz K11 (tk1 ((pv_sw (pv_app (A := (fun x => zp0_39 = 0 ∨ x ≠ gp0_39)) rw10 (pv_1 (A := (fun x => zp0_39 = 0 ∨ x ≠ gp0_39)) f8_r0_s (.inr (tk1 lt3.o)) (fun x hx => (tk1 lt3.o))) (fun x hx => (tk1 lt3.o)))) : zp0_39 = 0 ∨ zw10 = 0 ∨ gp0_39 ≠ gw10))).kz K17 (tk1 ((pv_sw (pv_1 (A := (fun x => zp0_39 = 0 ∨ x ≠ gp0_39)) Fw11_1 (pv_app (A := (fun x => zp0_39 = 0 ∨ x ≠ gp0_39)) rw10 (pv_1 (A := (fun x => zp0_39 = 0 ∨ x ≠ gp0_39)) f8_r0_s (.inr (tk1 lt3.o)) (fun x hx => (tk1 lt3.o))) (fun x hx => (tk1 lt3.o))) (fun x hx => (tk1 lt3.o)))) : zp0_39 = 0 ∨ zy11 = 0 ∨ gp0_39 ≠ gy11))).gr G18).ka Aw19 (tk1 ((pv_sw (pv_1 (A := (fun x => zp0_39 = 0 ∨ x ≠ gp0_39)) f17_r0_s (pv_1 (A := (fun x => zp0_39 = 0 ∨ x ≠ gp0_39)) Fw11_1 (pv_app (A := (fun x => zp0_39 = 0 ∨ x ≠ gp0_39)) rw10 (pv_1 (A := (fun x => zp0_39 = 0 ∨ x ≠ gp0_39)) f8_r0_s (.inr (tk1 lt3.o)) (fun x hx => (tk1 lt3.o))) (fun x hx => (tk1 lt3.o))) (fun x hx => (tk1 lt3.o))) (fun x hx => (tk1 lt3.o)))) : zp0_39 = 0 ∨ z17_r0_s = 0 ∨ gp0_39 ≠ g17_r0_s)))
 have B65 := ((((B36.kz K11 (tk1 ((pv_sw (pv_app (A := (fun x => 1 = 0 ∨ x ≠ gw9)) rw10 (pv_sw (.inr (tk1 lt25.o))) (fun x hx => (tk1 lt29.o)))) : 1 = 0 ∨ zw10 = 0 ∨ gw9 ≠ gw10))).kz K17 (tk1 ((pv_sw (pv_1 (A := (fun x => 1 = 0 ∨ x ≠ gw9)) Fw11_1 (pv_app (A := (fun x => 1 = 0 ∨ x ≠ gw9)) rw10 (pv_sw (.inr (tk1 lt25.o))) (fun x hx => (tk1 lt29.o))) (fun x hx => (tk1 lt29.o)))) : 1 = 0 ∨ zy11 = 0 ∨ gw9 ≠ gy11))).gr G18).ka Aw19 (tk1 ((pv_sw (pv_1 (A := (fun x => 1 = 0 ∨ x ≠ gw9)) f17_r0_s (pv_1 (A := (fun x => 1 = 0 ∨ x ≠ gw9)) Fw11_1 (pv_app (A := (fun x => 1 = 0 ∨ x ≠ gw9)) rw10 (pv_sw (.inr (tk1 lt25.o))) (fun x hx => (tk1 lt29.o))) (fun x hx => (tk1 lt29.o))) (fun x hx => (tk1 lt29.o)))) : 1 = 0 ∨ z17_r0_s = 0 ∨ gw9 ≠ g17_r0_s)))
 have B66 := (Ow18.ka Aw19 (tk1 ((.inr (tk1 lt54.o)) : 1 = 0 ∨ z17_r0_s = 0 ∨ gw18 ≠ g17_r0_s)))
 refine sw_loopD (α := Nat × List (BitVec 8) × Int × Value × Nat × Nat) ([3, 6] ++ rg 87 26) (fun ⟨n2, a21, a23, vy22, zy22, gy22⟩ => [(3, vy22), (6, .int .i64 a23)]) (fun ⟨n2, a21, a23, vy22, zy22, gy22⟩ wr => (fixN (ref05_Body_L2 p0) n2 (a21, a23) = some r) ∧ Own wr zy22 gy22 5 1 vy22 (a21.map bvc) ∧ Hdn (zy22 = 0 ∨ (gy22 = gw19 ∧ zw19 ≠ 0) ∨ w19.heap.size ≤ gy22) ∧ Kz [(zw19, gw19)] w19 wr) (fun ⟨n2, a21, a23, vy22, zy22, gy22⟩ => n2) ⟨FUEL, l17, 0, vw19, zw19, gw19⟩ ?_ ?_ ?_
 · exact sbq
 · exact ⟨hm, Ow19, ⟨tk0⟩, Kz.refl _ _⟩
 clear hm; rintro ⟨n2, a21, a23, vy22, zy22, gy22⟩ w20 ⟨hm, Fw20_0, Fw20_1, K20⟩
 have z67 := K20.size
 have lt68 := Fw20_0.lth
 have hb := fix_succ hm; clear hm; obtain ⟨n2, rfl, hm⟩ := hb
 generalize hrec2 : fixN (ref05_Body_L2 p0) n2 = rec2 at hm
 unfold ref05_Body_L2 at hm
 try dsimp only at hm
 refine sw_seq<|qs 6 rfl<|qm rfl<|qv rfl (vv_fieldAddr fa_38_2 rfl)<|qv rfl (vv_fieldAddr fa_36_2 rfl) ?_
 have B69 := (((B55.gr G18).ka Aw19 (tk1 (pb_1 (b := b1) f17_r0_s (pb_1 Fw11_1 (pb_app rw10 (pb_1 f8_r0_s (.inr tk0))))))).kz K20 (tk1 (pb_app (b := b1) rw19 (pb_1 f17_r0_s (pb_1 Fw11_1 (pb_app rw10 (pb_1 f8_r0_s (.inr tk0))))))))
 refine qv rfl (vv_load1 (v := vp0_4) one_34 rfl B69 rfl) ?_
 have B70 := (B63.kz K20 (tk1 ((pv_sw (pv_app (A := (fun x => zp0_4 = 0 ∨ x ≠ gp0_4)) rw19 (pv_1 (A := (fun x => zp0_4 = 0 ∨ x ≠ gp0_4)) f17_r0_s (pv_1 (A := (fun x => zp0_4 = 0 ∨ x ≠ gp0_4)) Fw11_1 (pv_app (A := (fun x => zp0_4 = 0 ∨ x ≠ gp0_4)) rw10 (pv_1 (A := (fun x => zp0_4 = 0 ∨ x ≠ gp0_4)) f8_r0_s (.inr (tk1 lt2.o)) (fun x hx => (tk1 lt2.o))) (fun x hx => (tk1 lt2.o))) (fun x hx => (tk1 lt2.o))) (fun x hx => (tk1 lt2.o))) (fun x hx => (tk1 lt2.o)))) : zp0_4 = 0 ∨ zw19 = 0 ∨ gp0_4 ≠ gw19)))
 refine qv rfl (vv_lenT (l := p0.Head.Points) (c := TPoint.cs) Tryz.underlying34 rfl B70)<|qv rfl (vv_lss (a := a23) (b := (p0.Head.Points.length : Int)) rfl rfl)<|sd_done<|sw_cond rfl (fun c3 => ?_) (fun c3 => ?_)
 · replace hm := iT c3 hm
   refine qu<|sw_seq<|sw_block<|qs 10 rfl<|qm rfl ?_
   refine qv rfl (vv_fieldAddr fa_38_2 rfl)<|qv rfl (vv_fieldAddr fa_36_2 rfl)<|qv rfl (vv_load1 (v := vp0_4) one_34 rfl B69 rfl)<|qm rfl ?_
   obtain ⟨y24, hy24, hm⟩ := bnd hm
   refine qv rfl (vv_ixT (i := a23) Tryz.underlying34 (agg_50).siz rfl B70 rfl hy24)<|qv rfl (vv_fieldAddr fa_50_0 rfl)<|qv rfl (vv_el1T (q := 0) (u := wv y24.X) one_24 rfl B70 hy24 (by first | rfl | omega) rfl) ?_
   obtain ⟨x25, hx25, hm⟩ := bnd hm
   refine qe rfl (eC en_186 rfl (ref05_number_w hx25 Fw20_0)) ?_
   rintro u21_r0_s w21 ⟨_, z21_r0_s, g21_r0_s, rfl, O21_r0_s, f21_r0_s, K21⟩
   have z71 := K21.size
   have lt72 := O21_r0_s.lth
   refine qm rfl<|sd_done<|qg 10 rfl<|qm rfl<|qv rfl (vv_fieldAddr fa_38_2 rfl)<|qv rfl (vv_fieldAddr fa_36_2 rfl) ?_
   have B73 := (B69.kz K21 (tk1 (pb_1 (b := b1) Fw20_1 (pb_app rw19 (pb_1 f17_r0_s (pb_1 Fw11_1 (pb_app rw10 (pb_1 f8_r0_s (.inr tk0)))))))))
   refine qv rfl (vv_load1 (v := vp0_4) one_34 rfl B73 rfl)<|qm rfl ?_
   obtain ⟨y26, hy26, hm⟩ := bnd hm
   have B74 := (B70.kz K21 (tk1 ((pv_sw (pv_1 (A := (fun x => zp0_4 = 0 ∨ x ≠ gp0_4)) Fw20_1 (pv_app (A := (fun x => zp0_4 = 0 ∨ x ≠ gp0_4)) rw19 (pv_1 (A := (fun x => zp0_4 = 0 ∨ x ≠ gp0_4)) f17_r0_s (pv_1 (A := (fun x => zp0_4 = 0 ∨ x ≠ gp0_4)) Fw11_1 (pv_app (A := (fun x => zp0_4 = 0 ∨ x ≠ gp0_4)) rw10 (pv_1 (A := (fun x => zp0_4 = 0 ∨ x ≠ gp0_4)) f8_r0_s (.inr (tk1 lt2.o)) (fun x hx => (tk1 lt2.o))) (fun x hx => (tk1 lt2.o))) (fun x hx => (tk1 lt2.o))) (fun x hx => (tk1 lt2.o))) (fun x hx => (tk1 lt2.o))) (fun x hx => (tk1 lt2.o)))) : zp0_4 = 0 ∨ zy22 = 0 ∨ gp0_4 ≠ gy22)))
   refine qv rfl (vv_ixT (i := a23) Tryz.underlying34 (agg_50).siz rfl B74 rfl hy26)<|qv rfl (vv_fieldAddr fa_50_1 rfl)<|qv rfl (vv_el1T (q := 1) (u := wv y26.Y) one_24 rfl B74 hy26 (by first | rfl | omega) rfl) ?_
   obtain ⟨x27, hx27, hm⟩ := bnd hm
   refine qe rfl (eC en_186 rfl (ref05_number_w hx27 O21_r0_s)) ?_
   rintro u22_r0_s w22 ⟨_, z22_r0_s, g22_r0_s, rfl, O22_r0_s, f22_r0_s, K22⟩
   have z75 := K22.size
   have lt76 := O22_r0_s.lth
   refine qm rfl<|sd_nil<|block_n<|then_n<|qg 3 rfl<|qm rfl<|qv rfl (vv_add (k := .i64) (a := a23) (b := 1) rfl rfl) ?_
   refine qm rfl<|sd_nil ?_
   have K_77 : Kz [(zw19, gw19)] w19 w22 := ((K20.kz K21 (tk1 (pv_1 (A := (fun x => (x = gw19 ∧ zw19 ≠ 0) ∨ w19.heap.size ≤ x)) Fw20_1 tk0))).kz K22 (tk1 (pv_1 (A := (fun x => (x = gw19 ∧ zw19 ≠ 0) ∨ w19.heap.size ≤ x)) f21_r0_s (pv_1 (A := (fun x => (x = gw19 ∧ zw19 ≠ 0) ∨ w19.heap.size ≤ x)) Fw20_1 tk0))))
   subst hrec2
   exact ⟨rfl, ⟨n2, x27, w64 (a23 + 1), u22_r0_s, z22_r0_s, g22_r0_s⟩, sbq, ⟨hm, O22_r0_s, ⟨(pv_1 (A := (fun x => (x = gw19 ∧ zw19 ≠ 0) ∨ w19.heap.size ≤ x)) f22_r0_s (pv_1 (A := (fun x => (x = gw19 ∧ zw19 ≠ 0) ∨ w19.heap.size ≤ x)) f21_r0_s (pv_1 (A := (fun x => (x = gw19 ∧ zw19 ≠ 0) ∨ w19.heap.size ≤ x)) Fw20_1 tk0)))⟩, K_77⟩, Nat.lt_succ_self _⟩
 replace hm := iF c3 hm
 refine sw_exit<|then_x<|then_x<|block_x<|then_n<|qs 6 rfl ?_
 refine qm rfl<|qv rfl (vv_fieldAddr fa_38_2 rfl)<|qv rfl (vv_fieldAddr fa_36_3 rfl) ?_
 have Rk78 := rd_key (o := 5) (p := p0.Head.Box) B69 rfl
 have lt79 := Rk78.lth
 refine qv rfl (vv_sliceA (n := 16) (l := 0) (h := 16) Tryz.underlying23 (one_5).siz rfl rfl rfl (by decide) (by decide) (by decide)) ?_
 obtain ⟨l28, hl28, hm⟩ := bnd hm
 refine qe rfl (ev_appT (l := a21) (m := kby p0.Head.Box) (c := bvc) apt_32 rfl rfl Fw20_0 Rk78 hl28 (by decide)) ?_
 rintro vw23 w23 ⟨zw23, gw23, Ow23, Aw23, qw23, rw23⟩
 have z80 := Aw23.size
 refine qm rfl<|qd 6 rfl<|qm rfl<|qv rfl (vv_fieldAddr fa_38_2 rfl)<|qv rfl (vv_fieldAddr fa_36_4 rfl) ?_
 have B81 := (B69.ka Aw23 (tk1 (pb_1 (b := b1) Fw20_1 (pb_app rw19 (pb_1 f17_r0_s (pb_1 Fw11_1 (pb_app rw10 (pb_1 f8_r0_s (.inr tk0)))))))))
 have Rk82 := rd_key (o := 21) (p := p0.Head.Check) B81 rfl
 have lt83 := Rk82.lth
 refine qv rfl (vv_sliceA (n := 16) (l := 0) (h := 16) Tryz.underlying23 (one_5).siz rfl rfl rfl (by decide) (by decide) (by decide)) ?_
 obtain ⟨l29, hl29, hm⟩ := bnd hm
 refine qe rfl (ev_appT (l := l28) (m := kby p0.Head.Check) (c := bvc) apt_32 rfl rfl Ow23 Rk82 hl29 (by decide)) ?_
 rintro vw24 w24 ⟨zw24, gw24, Ow24, Aw24, qw24, rw24⟩
 have z84 := Aw24.size
 refine qm rfl<|sd_done<|sw_ret ?_
 have X85 := (((X61.kz K20 (tk1 (pv_app (A := (fun x => w.heap.size ≤ x)) rw19 (pv_1 (A := (fun x => w.heap.size ≤ x)) f17_r0_s (pv_1 (A := (fun x => w.heap.size ≤ x)) Fw11_1 (pv_app (A := (fun x => w.heap.size ≤ x)) rw10 (pv_1 (A := (fun x => w.heap.size ≤ x)) f8_r0_s (.inr tk0)))))))).ka Aw23 (tk1 (pv_1 (A := (fun x => w.heap.size ≤ x)) Fw20_1 (pv_app (A := (fun x => w.heap.size ≤ x)) rw19 (pv_1 (A := (fun x => w.heap.size ≤ x)) f17_r0_s (pv_1 (A := (fun x => w.heap.size ≤ x)) Fw11_1 (pv_app (A := (fun x => w.heap.size ≤ x)) rw10 (pv_1 (A := (fun x => w.heap.size ≤ x)) f8_r0_s (.inr tk0))))))))).ka Aw24 (tk1 (pv_app (A := (fun x => w.heap.size ≤ x)) rw23 (pv_1 (A := (fun x => w.heap.size ≤ x)) Fw20_1 (pv_app (A := (fun x => w.heap.size ≤ x)) rw19 (pv_1 (A := (fun x => w.heap.size ≤ x)) f17_r0_s (pv_1 (A := (fun x => w.heap.size ≤ x)) Fw11_1 (pv_app (A := (fun x => w.heap.size ≤ x)) rw10 (pv_1 (A := (fun x => w.heap.size ≤ x)) f8_r0_s (.inr tk0))))))))))
 cases hm
 refine ⟨_, _, rfl, res_1 rfl (rv_tmp rfl), ?_⟩
 exact ⟨vw24, zw24, gw24, rfl, Ow24, ⟨(pv_app (A := (fun x => w.heap.size ≤ x)) rw24 (pv_app (A := (fun x => w.heap.size ≤ x)) rw23 (pv_1 (A := (fun x => w.heap.size ≤ x)) Fw20_1 (pv_app (A := (fun x => w.heap.size ≤ x)) rw19 (pv_1 (A := (fun x => w.heap.size ≤ x)) f17_r0_s (pv_1 (A := (fun x => w.heap.size ≤ x)) Fw11_1 (pv_app (A := (fun x => w.heap.size ≤ x)) rw10 (pv_1 (A := (fun x => w.heap.size ≤ x)) f8_r0_s (.inr tk0)))))))))⟩, X85⟩
theorem ref02_portions_w {p0 vp0 zp0 gp0 op0 r} (hm : ref02_portions p0 = some r) {w : World} (hp0 : Rd w zp0 gp0 op0 1 vp0 (p0.map bvc)) :
    Calls Tryz.prog 182 [vp0].toArray w fun e w' => ∃ v, e = .returned v ∧ (v = .int .i64 r ∧ Gr w w') := by
 have lt1 := hp0.lth
 unfold ref02_portions at hm
 refine calls_of_sw 7 Tryz.func182 rfl rfl rfl<|qs 1 rfl<|qm rfl<|qd 5 rfl ?_
 refine qm rfl<|qv rfl (vv_lenT (l := p0) (c := bvc) Tryz.underlying32 rfl hp0)<|qv rfl (vv_add (k := .i64) (a := (p0.length : Int)) (b := 15) rfl rfl) ?_
 obtain ⟨x1, hx1, hm⟩ := bnd hm
 refine qv rfl (vv_quoI (a := w64 ((p0.length : Int) + 15)) (b := 16) rfl rfl hx1)<|qm rfl<|sd_done<|sw_ret ?_
 cases hm
 refine ⟨_, _, rfl, res_1 rfl (rv_tmp rfl), ?_⟩
 exact ⟨rfl, (Gr.refl w)⟩
theorem ref02_key_w {p0 vp0 zp0 gp0 op0 r} (hm : ref02_key p0 = some r) {w : World} (hp0 : Rd w zp0 gp0 op0 1 vp0 (p0.map bvc)) :
    Calls Tryz.prog 289 [vp0].toArray w fun e w' => ∃ v, e = .returned v ∧ (v = kv r ∧ Gr w w') := by
 have lt1 := hp0.lth
 unfold ref02_key at hm
 refine calls_of_sw 22 Tryz.func289 rfl rfl rfl<|qs 1 rfl<|qe rfl (ev_alloc (cs := kb k0) zv_23 rfl) ?_
 rintro _ w1 ⟨b1, rfl, hbw1, Bw1, G1⟩
 have z2 := G1.size
 have lt3 := Bw1.lt
 refine qd 1 rfl<|qe rfl (ev_alloc (cs := kb k0) zv_23 rfl) ?_
 rintro _ w2 ⟨b2, rfl, hbw2, Bw2, G2⟩
 have z4 := G2.size
 have lt5 := Bw2.lt
 refine sd_done<|sw_seq<|qs 1 rfl<|qm rfl<|sd_done<|sw_block ?_
 have X6 := (((Gr.refl w).trans G1).trans G2)
 have B7 := ((hp0.gr G1).gr G2)
 refine sw_loopD (α := Nat × Int × W2) (rg 4 17) (fun ⟨n1, a3, a4⟩ => [(4, .int .i64 a3)]) (fun ⟨n1, a3, a4⟩ wr => (fixN (ref02_key_L1 p0) n1 (a3, a4) = some r) ∧ Bx wr b2 23 (kb a4) ∧ Kz [(1, b2)] w2 wr) (fun ⟨n1, a3, a4⟩ => n1) ⟨FUEL, 0, k0⟩ ?_ ?_ ?_
 · exact sbq
 · exact ⟨hm, Bw2, Kz.refl _ _⟩
 clear hm; rintro ⟨n1, a3, a4⟩ w3 ⟨hm, Fw3_0, K3⟩
 have z8 := K3.size
 have lt9 := Fw3_0.lt
 have hb := fix_succ hm; clear hm; obtain ⟨n1, rfl, hm⟩ := hb
 generalize hrec1 : fixN (ref02_key_L1 p0) n1 = rec1 at hm
 unfold ref02_key_L1 at hm
 try dsimp only at hm
 refine sw_seq ?_
 have X10 := (X6.kz K3)
 refine qj (β := Bool) (rg 5 8) (fun a5 => [(12, .bool a5)]) (fun a5 wr => (ref02_key_J2 p0 a3 a4 rec1 a5 = some r) ∧ Kz [] w3 wr) ?_ ?_
 · refine qg 8 rfl<|qm rfl<|qv rfl (vv_lss (a := a3) (b := 16) rfl rfl)<|qpF rfl (vv_move rfl) (fun c2 => ?_) (fun c2 => ?_)
   · replace hm := iF c2 hm
     refine qk rfl<|qk rfl<|qk rfl<|qk rfl<|qm rfl<|sd_nil ?_
     exact ⟨rfl, false, sbq, hm, kz0⟩
   replace hm := iT c2 hm
   refine qm rfl<|qm rfl ?_
   have B20 := (B7.kz K3 (tk1 (pb_lt (b := b2) lt1)))
   refine qv rfl (vv_lenT (l := p0) (c := bvc) Tryz.underlying32 rfl B20)<|qv rfl (vv_lss (a := a3) (b := (p0.length : Int)) rfl rfl)<|qm rfl<|sd_nil ?_
   exact ⟨rfl, (decide (a3 < (p0.length : Int))), sbq, hm, kz0⟩
 clear hm; rintro a5 w4 ⟨hm, K4⟩
 have z11 := K4.size
 unfold ref02_key_J2 at hm
 refine cnF rfl (fun c1 => ?_) (fun c1 => ?_)
 · replace hm := cnd_f c1 hm
   refine sw_exit<|then_x<|then_x<|block_x<|then_n<|qs 2 rfl ?_
   have B16 := (Fw3_0.kz K4)
   refine qv rfl (vv_loadW agg_23 rfl B16 rfl) ?_
   have B17 := (((Bw1.gr G2).kz K3).kz K4)
   refine qe rfl (ev_stW agg_23 rfl rfl rfl B17 rfl rfl) ?_
   rintro _ w6 ⟨Bw6, M6⟩
   have z18 := M6.size
   refine sd_done<|sw_ret ?_
   have X19 := ((X10.kz K4).md M6)
   cases hm
   refine ⟨_, _, rfl, res_1 rfl (rv_cellW agg_23 rfl Bw6 rfl), ?_⟩
   exact ⟨rfl, X19⟩
 replace hm := cnd_t c1 hm
 refine qu<|sw_seq<|sw_block<|qg 7 rfl<|qm rfl<|qm rfl ?_
 refine qm rfl ?_
 obtain ⟨y6, hy6, hm⟩ := bnd hm
 have B12 := ((B7.kz K3 (tk1 (pb_lt (b := b2) lt1))).kz K4)
 refine qv rfl (vv_ixT (i := a3) Tryz.underlying32 (one_5).siz rfl B12 rfl hy6)<|qv rfl (vv_el1T (q := 0) (u := bv y6) one_5 rfl B12 hy6 (by first | rfl | omega) rfl) ?_
 obtain ⟨y7, hy7, hm⟩ := bnd hm
 refine qv rfl (vv_ixK (i := a3) (p := a4) Tryz.underlying23 (one_5).siz rfl rfl hy7) ?_
 have B13 := (Fw3_0.kz K4)
 obtain ⟨x8, hx8, hm⟩ := bnd hm
 refine qe rfl (ev_stK (off := 0) (p := a4) (q := x8) (i := a3) (cs' := kb x8) (one_5).siz rfl rfl B13 rfl hx8 rfl rfl rfl) ?_
 rintro _ w5 ⟨Bw5, M5⟩
 have z14 := M5.size
 refine sd_nil<|block_n<|then_n<|qg 3 rfl<|qm rfl<|qv rfl (vv_add (k := .i64) (a := a3) (b := 1) rfl rfl)<|qm rfl ?_
 refine sd_nil ?_
 have K_15 : Kz [(1, b2)] w2 w5 := ((K3.kz K4).md M5)
 subst hrec1
 exact ⟨rfl, ⟨n1, w64 (a3 + 1), x8⟩, sbq, ⟨hm, Bw5, K_15⟩, Nat.lt_succ_self _⟩
theorem ref02_portion_w {p0 p1 vp0 zp0 gp0 op0 r} (hm : ref02_portion p0 p1 = some r) {w : World} (hp0 : Rd w zp0 gp0 op0 1 vp0 (p0.map bvc)) :
    Calls Tryz.prog 184 [vp0, .int .i64 p1].toArray w fun e w' => ∃ v, e = .returned v ∧ (v = kv r ∧ Gr w w') := by
 have lt1 := hp0.lth
 unfold ref02_portion at hm
 refine calls_of_sw 10 Tryz.func184 rfl rfl rfl<|qs 1 rfl<|qe rfl (ev_alloc (cs := kb k0) zv_23 rfl) ?_
 rintro _ w1 ⟨b1, rfl, hbw1, Bw1, G1⟩
 have z2 := G1.size
 have lt3 := Bw1.lt
 refine qd 6 rfl<|qm rfl<|qm rfl<|qv rfl (vv_mul (k := .i64) (a := 16) (b := p1) rfl rfl) ?_
 obtain ⟨l1, hl1, hm⟩ := bnd hm
 have B4 := (hp0.gr G1)
 refine qt rfl (vv_sliT (P := Tryz.prog) (lo := w64 (16 * p1)) (hi := (p0.length : Int)) (l := p0) (c := bvc) Tryz.underlying32 (one_5).siz rfl B4 ⟨_, rfl⟩ rfl hl1) ?_
 rintro v5 o5 R5
 have lt6 := R5.lth
 obtain ⟨x2, hx2, hm⟩ := bnd hm
 refine qe rfl (eC en_289 rfl (ref02_key_w hx2 R5)) ?_
 rintro _ w2 ⟨rfl, G2⟩
 have z7 := G2.size
 have B8 := (Bw1.gr G2)
 refine qe rfl (ev_stW agg_23 rfl rfl rfl B8 rfl rfl) ?_
 rintro _ w3 ⟨Bw3, M3⟩
 have z9 := M3.size
 refine sd_done<|sw_ret ?_
 have X10 := ((((Gr.refl w).trans G1).trans G2).md M3)
 cases hm
 refine ⟨_, _, rfl, res_1 rfl (rv_cellW agg_23 rfl Bw3 rfl), ?_⟩
 exact ⟨rfl, X10⟩
theorem ref02_Xor_w {p0 p1 r} (hm : ref02_Xor p0 p1 = some r) {w : World} :
    Calls Tryz.prog 183 [kv p0, kv p1].toArray w fun e w' => ∃ v, e = .returned v ∧ (v = kv r ∧ Gr w w') := by
 unfold ref02_Xor at hm
 refine calls_of_sw 20 Tryz.func183 rfl rfl rfl<|qs 3 rfl<|qe rfl (ev_box (cs := kb p0) rfl rfl) ?_
 rintro _ w1 ⟨b1, rfl, hbw1, Bw1, G1⟩
 have z1 := G1.size
 have lt2 := Bw1.lt
 refine qe rfl (ev_box (cs := kb p1) rfl rfl) ?_
 rintro _ w2 ⟨b2, rfl, hbw2, Bw2, G2⟩
 have z3 := G2.size
 have lt4 := Bw2.lt
 refine qe rfl (ev_alloc (cs := kb k0) zv_23 rfl) ?_
 rintro _ w3 ⟨b3, rfl, hbw3, Bw3, G3⟩
 have z5 := G3.size
 have lt6 := Bw3.lt
 refine sd_done<|sw_seq<|qs 1 rfl<|qm rfl<|sd_done<|sw_block ?_
 have X7 := ((((Gr.refl w).trans G1).trans G2).trans G3)
 have B8 := ((Bw1.gr G2).gr G3)
 refine sw_loopD (α := Nat × Int × W2) (rg 5 14) (fun ⟨n1, a3, a4⟩ => [(5, .int .i64 a3)]) (fun ⟨n1, a3, a4⟩ wr => (fixN (ref02_Xor_L1 p1) n1 (a3, a4) = some r) ∧ Bx wr b1 23 (kb a4) ∧ Kz [(1, b1)] w3 wr) (fun ⟨n1, a3, a4⟩ => n1) ⟨FUEL, 0, p0⟩ ?_ ?_ ?_
 · exact sbq
 · exact ⟨hm, B8, Kz.refl _ _⟩
 clear hm; rintro ⟨n1, a3, a4⟩ w4 ⟨hm, Fw4_0, K4⟩
 have z9 := K4.size
 have lt10 := Fw4_0.lt
 have hb := fix_succ hm; clear hm; obtain ⟨n1, rfl, hm⟩ := hb
 generalize hrec1 : fixN (ref02_Xor_L1 p1) n1 = rec1 at hm
 unfold ref02_Xor_L1 at hm
 try dsimp only at hm
 refine sw_seq<|qs 2 rfl<|qm rfl<|qv rfl (vv_lss (a := a3) (b := 16) rfl rfl)<|sd_done<|cnF rfl (fun c1 => ?_) (fun c1 => ?_)
 · replace hm := iF c1 hm
   refine sw_exit<|then_x<|then_x<|block_x<|then_n<|qs 2 rfl ?_
   refine qv rfl (vv_loadW agg_23 rfl Fw4_0 rfl) ?_
   have B15 := (Bw3.kz K4)
   refine qe rfl (ev_stW agg_23 rfl rfl rfl B15 rfl rfl) ?_
   rintro _ w7 ⟨Bw7, M7⟩
   have z16 := M7.size
   refine sd_done<|sw_ret ?_
   have X17 := ((X7.kz K4).md M7)
   cases hm
   refine ⟨_, _, rfl, res_1 rfl (rv_cellW agg_23 rfl Bw7 rfl), ?_⟩
   exact ⟨rfl, X17⟩
 replace hm := iT c1 hm
 refine qu<|sw_seq<|sw_block<|dw [([b1]),([])] [(9, [1])] (.leaf [(0,10),(1,10),(2,10),(3,11),(4,10),(5,10),(6,10),(7,10),(8,10),(9,0)]) ?_
 intro w5 G5 zw5
 refine sdz_leaf<|dm 0 rfl rfl<|dm 0 rfl rfl ?_
 obtain ⟨y5, hy5, hm⟩ := bnd hm
 refine dh 0 rfl rfl (fun w hS => vv_ixK (i := a3) (p := a4) Tryz.underlying23 (one_5).siz rfl rfl hy5) ?_
 have B11 := (Fw4_0.gr G5)
 refine dh 1 rfl rfl (fun w hS => vv_ldK (off := 0) (p := a4) (i := a3) one_5 rfl (Bx.kp B11 hS) rfl hy5 (by omega))<|dm 0 rfl rfl ?_
 obtain ⟨y6, hy6, hm⟩ := bnd hm
 refine dh 0 rfl rfl (fun w hS => vv_ixK (i := a3) (p := p1) Tryz.underlying23 (one_5).siz rfl rfl hy6) ?_
 have B12 := (((Bw2.gr G3).kz K4).gr G5)
 refine dh 0 rfl rfl (fun w hS => vv_ldK (off := 0) (p := p1) (i := a3) one_5 rfl (Bx.kp B12 hS) rfl hy6 (by omega))<|dh 0 rfl rfl (fun w hS => vv_xorB (a := y5) (b := y6) rfl rfl) ?_
 obtain ⟨y7, hy7, hm⟩ := bnd hm
 refine dh 0 rfl rfl (fun w hS => vv_ixK (i := a3) (p := a4) Tryz.underlying23 (one_5).siz rfl rfl hy7) ?_
 obtain ⟨x8, hx8, hm⟩ := bnd hm
 refine qz [(1, b1)] rfl (ev_stK (off := 0) (p := a4) (q := x8) (i := a3) (cs' := kb x8) (one_5).siz rfl rfl B11 rfl hx8 rfl rfl rfl) ⟨fun _ => tk0, nofun, trivial⟩ ?_
 rintro _ w6 ⟨Bw6, M6⟩
 have z13 := M6.size
 refine kM M6<|sd_nil<|block_n<|then_n<|qg 3 rfl<|qm rfl<|qv rfl (vv_add (k := .i64) (a := a3) (b := 1) rfl rfl) ?_
 refine qm rfl<|sd_nil ?_
 have K_14 : Kz [(1, b1)] w3 w6 := ((K4.gr G5).md M6)
 subst hrec1
 exact ⟨rfl, ⟨n1, w64 (a3 + 1), x8⟩, sbq, ⟨hm, Bw6, K_14⟩, Nat.lt_succ_self _⟩
theorem ref02_Tag_w {p0 p1 vp1 zp1 gp1 op1 r} (hm : ref02_Tag p0 p1 = some r) {w : World} (hp1 : Rd w zp1 gp1 op1 1 vp1 (p1.map bvc)) :
    Calls Tryz.prog 102 [kv p0, vp1].toArray w fun e w' => ∃ v, e = .returned v ∧ (v = kv r ∧ Gr w w') := by
 have lt1 := hp1.lth
 unfold ref02_Tag at hm
 refine calls_of_sw 26 Tryz.func102 rfl rfl rfl<|qs 2 rfl<|qe rfl (ev_box (cs := kb p0) rfl rfl) ?_
 rintro _ w1 ⟨b1, rfl, hbw1, Bw1, G1⟩
 have z2 := G1.size
 have lt3 := Bw1.lt
 refine qe rfl (ev_alloc (cs := kb k0) zv_23 rfl) ?_
 rintro _ w2 ⟨b2, rfl, hbw2, Bw2, G2⟩
 have z4 := G2.size
 have lt5 := Bw2.lt
 refine qd 7 rfl ?_
 have B6 := (Bw1.gr G2)
 refine qv rfl (vv_loadW agg_23 rfl B6 rfl)<|qm rfl ?_
 have B7 := ((hp1.gr G1).gr G2)
 refine qv rfl (vv_lenT (l := p1) (c := bvc) Tryz.underlying32 rfl B7)<|qv rfl (vv_cvIU cv_3_24 rfl)<|qe rfl (eC en_103 rfl (rderive_c p0 (un8 2#8) (un8_nn _) (un8_le _) (wd (p1.length : Int)) _)) ?_
 rintro _ w3 ⟨rfl, G3⟩
 have z8 := G3.size
 refine qe rfl (ev_alloc (cs := kb k0) zv_23 rfl) ?_
 rintro _ w4 ⟨b4, rfl, hbw4, Bw4, G4⟩
 have z9 := G4.size
 have lt10 := Bw4.lt
 refine qe rfl (ev_stW agg_23 rfl rfl rfl Bw4 rfl rfl) ?_
 rintro _ w5 ⟨Bw5, M5⟩
 have z11 := M5.size
 refine sd_done<|sw_seq<|qs 1 rfl<|qm rfl<|sd_done<|sw_block ?_
 have X12 := ((((((Gr.refl w).trans G1).trans G2).trans G3).trans G4).md M5)
 have Y1 := Gr.trans G3 G4
 have B13 := ((B7.gr Y1).md M5 (pb_lt lt1))
 refine sw_loopD (α := Nat × Int × W2) ([6] ++ rg 12 13) (fun ⟨n1, a3, a4⟩ => [(6, .int .i64 a3)]) (fun ⟨n1, a3, a4⟩ wr => (fixN (ref02_Tag_L1 p0 p1) n1 (a3, a4) = some r) ∧ Bx wr b4 23 (kb a4) ∧ Kz [(1, b4)] w5 wr) (fun ⟨n1, a3, a4⟩ => n1) ⟨FUEL, 0, drv p0 (un8 2#8) (wd (p1.length : Int))⟩ ?_ ?_ ?_
 · exact sbq
 · exact ⟨hm, Bw5, Kz.refl _ _⟩
 clear hm; rintro ⟨n1, a3, a4⟩ w6 ⟨hm, Fw6_0, K6⟩
 have z14 := K6.size
 have lt15 := Fw6_0.lt
 have hb := fix_succ hm; clear hm; obtain ⟨n1, rfl, hm⟩ := hb
 generalize hrec1 : fixN (ref02_Tag_L1 p0 p1) n1 = rec1 at hm
 unfold ref02_Tag_L1 at hm
 try dsimp only at hm
 refine sw_seq<|qs 4 rfl<|qm rfl<|qm rfl ?_
 have B16 := (B13.kz K6 (tk1 (pb_lt (b := b4) lt1)))
 obtain ⟨x5, hx5, hm⟩ := bnd hm
 refine qe rfl (eC en_182 rfl (ref02_portions_w hx5 B16)) ?_
 rintro _ w7 ⟨rfl, G7⟩
 have z17 := G7.size
 refine qv rfl (vv_lss (a := a3) (b := x5) rfl rfl)<|sd_done<|cnF rfl (fun c1 => ?_) (fun c1 => ?_)
 · replace hm := iF c1 hm
   refine sw_exit<|then_x<|then_x<|block_x<|then_n<|qs 2 rfl ?_
   have B27 := (Fw6_0.gr G7)
   refine qv rfl (vv_loadW agg_23 rfl B27 rfl) ?_
   have B28 := ((((Bw2.gr Y1).md M5).kz K6).gr G7)
   refine qe rfl (ev_stW agg_23 rfl rfl rfl B28 rfl rfl) ?_
   rintro _ w13 ⟨Bw13, M13⟩
   have z29 := M13.size
   refine sd_done<|sw_ret ?_
   have X30 := (((X12.kz K6).trans G7).md M13)
   cases hm
   refine ⟨_, _, rfl, res_1 rfl (rv_cellW agg_23 rfl Bw13 rfl), ?_⟩
   exact ⟨rfl, X30⟩
 replace hm := iT c1 hm
 refine qu<|sw_seq<|sw_block<|dw [([b4]),([])] [(7, [1])] (.leaf [(0,10),(1,11),(2,10),(3,10),(4,0),(5,0),(6,0),(7,0)]) ?_
 intro w8 G8 zw8
 refine sdz_leaf ?_
 have Y2 := Gr.trans G7 G8
 have B18 := ((((B6.gr Y1).md M5).kz K6).gr Y2)
 refine dh 0 rfl rfl (fun w hS => vv_loadW agg_23 rfl (Bx.kp B18 hS) rfl) ?_
 have B19 := (Fw6_0.gr Y2)
 refine dh 1 rfl rfl (fun w hS => vv_loadW agg_23 rfl (Bx.kp B19 hS) rfl)<|dm 0 rfl rfl<|dm 0 rfl rfl ?_
 have B20 := (B16.gr Y2)
 obtain ⟨x6, hx6, hm⟩ := bnd hm
 refine qz [] rfl (eC en_184 rfl (ref02_portion_w hx6 B20)) ⟨fun _ => tk0, fun _ => tk0, trivial⟩ ?_
 rintro _ w9 ⟨rfl, G9⟩
 have z21 := G9.size
 refine kG G9 ?_
 obtain ⟨x7, hx7, hm⟩ := bnd hm
 refine qz [] rfl (eC en_183 rfl (ref02_Xor_w hx7)) ⟨fun _ => tk0, fun _ => tk0, trivial⟩ ?_
 rintro _ w10 ⟨rfl, G10⟩
 have z22 := G10.size
 refine kG G10<|qz [] rfl (eC en_180 rfl (rencr_c p0 x7 _)) ⟨fun _ => tk0, fun _ => tk0, trivial⟩ ?_
 rintro _ w11 ⟨rfl, G11⟩
 have z23 := G11.size
 refine kG G11 ?_
 have B24 := (((B19.gr G9).gr G10).gr G11)
 refine qz [(1, b4)] rfl (ev_stW agg_23 rfl rfl rfl B24 rfl rfl) ⟨fun _ => tk0, nofun, trivial⟩ ?_
 rintro _ w12 ⟨Bw12, M12⟩
 have z25 := M12.size
 refine kM M12<|sd_nil<|block_n<|then_n<|qg 3 rfl<|qm rfl<|qv rfl (vv_add (k := .i64) (a := a3) (b := 1) rfl rfl) ?_
 refine qm rfl<|sd_nil ?_
 have K_26 : Kz [(1, b4)] w5 w12 := (((((K6.gr Y2).gr G9).gr G10).gr G11).md M12)
 subst hrec1
 exact ⟨rfl, ⟨n1, w64 (a3 + 1), encr p0 x7⟩, sbq, ⟨hm, Bw12, K_26⟩, Nat.lt_succ_self _⟩
theorem ref05_Sealed_w {p0 p1 vp1_2 zp1_2 gp1_2 op1_2 vp1_4 zp1_4 gp1_4 op1_4 vp1_39 zp1_39 gp1_39 op1_39 r} (hm : ref05_Sealed p0 p1 = some r) {w : World} (hp1_2 : Rd w zp1_2 gp1_2 op1_2 18 vp1_2 (p1.Head.Items.map TItem.cs)) (hp1_4 : Rd w zp1_4 gp1_4 op1_4 2 vp1_4 (p1.Head.Points.map TPoint.cs)) (hp1_39 : Rd w zp1_39 gp1_39 op1_39 1 vp1_39 (p1.Data.map bvc)) :
    Calls Tryz.prog 46 [kv p0, .agg (TPacket.cs p1 vp1_2 vp1_4 vp1_39).toArray].toArray w fun e w' => ∃ v, e = .returned v ∧ (v = kv r ∧ Gr w w') := by
 have lt1 := hp1_2.lth
 have lt2 := hp1_4.lth
 have lt3 := hp1_39.lth
 unfold ref05_Sealed at hm
 refine calls_of_sw 13 Tryz.func46 rfl rfl rfl<|qs 3 rfl<|qe rfl (ev_box (cs := kb p0) rfl rfl) ?_
 rintro _ w1 ⟨b1, rfl, hbw1, Bw1, G1⟩
 have z4 := G1.size
 have lt5 := Bw1.lt
 refine qe rfl (ev_box (cs := TPacket.cs p1 vp1_2 vp1_4 vp1_39) rfl rfl) ?_
 rintro _ w2 ⟨b2, rfl, hbw2, Bw2, G2⟩
 have z6 := G2.size
 have lt7 := Bw2.lt
 refine qe rfl (ev_alloc (cs := kb k0) zv_23 rfl) ?_
 rintro _ w3 ⟨b3, rfl, hbw3, Bw3, G3⟩
 have z8 := G3.size
 have lt9 := Bw3.lt
 refine sd_done<|sw_seq<|dw [([b3])] [] (.leaf [(0,10),(1,10),(2,10),(3,10),(5,10),(4,0),(6,0),(7,0),(8,0)]) ?_
 intro w4 G4 zw4
 refine sdz_leaf ?_
 have Y1 := Gr.trans (Gr.trans G2 G3) G4
 have B10 := (Bw1.gr Y1)
 refine dh 0 rfl rfl (fun w hS => vv_loadW agg_23 rfl (Bx.kp B10 hS) rfl)<|dh 0 rfl rfl (fun w hS => vv_fieldAddr fa_38_1 rfl) ?_
 have Y2 := Gr.trans G3 G4
 have B11 := (Bw2.gr Y2)
 refine dh 0 rfl rfl (fun w hS => vv_load1 (v := .int .i64 p1.Epoch) one_3 rfl (Bx.kp B11 hS) rfl)<|dh 0 rfl rfl (fun w hS => vv_cvIU cv_3_24 rfl)<|dh 0 rfl rfl (fun w hS => vv_loadW agg_38 rfl (Bx.kp B11 hS) rfl)<|qz [] rfl (eC en_103 rfl (rderive_c p0 (un8 52#8) (un8_nn _) (un8_le _) (wd p1.Epoch) _)) ⟨fun _ => tk0, trivial⟩ ?_
 rintro _ w5 ⟨rfl, G5⟩
 have z12 := G5.size
 refine kG G5 ?_
 have Y3 := Gr.trans (Gr.trans G1 Y1) G5
 have B13 := (hp1_2.gr Y3)
 have B14 := (hp1_4.gr Y3)
 have B15 := (hp1_39.gr Y3)
 obtain ⟨x1, hx1, hm⟩ := bnd hm
 refine qz [] rfl (eC en_104 rfl (ref05_Body_w hx1 B13 B14 B15)) ⟨fun _ => tk0, trivial⟩ ?_
 rintro u6_r0_s w6 ⟨_, z6_r0_s, g6_r0_s, rfl, O6_r0_s, f6_r0_s, G6⟩
 have z16 := G6.size
 have lt17 := O6_r0_s.lth
 refine kG G6 ?_
 obtain ⟨x2, hx2, hm⟩ := bnd hm
 refine qz [] rfl (eC en_102 rfl (ref02_Tag_w hx2 (Own.rd O6_r0_s))) ⟨fun _ => tk0, trivial⟩ ?_
 rintro _ w7 ⟨rfl, G7⟩
 have z18 := G7.size
 refine kG G7 ?_
 have Y4 := Gr.trans (Gr.trans (Gr.trans G4 G5) G6) G7
 have B19 := (Bw3.gr Y4)
 refine qz [(1, b3)] rfl (ev_stW agg_23 rfl rfl rfl B19 rfl rfl) ⟨fun _ => tk0, trivial⟩ ?_
 rintro _ w8 ⟨Bw8, M8⟩
 have z20 := M8.size
 refine kM M8<|sd_done<|sw_ret ?_
 have X21 := (((((Gr.refl w).trans Y3).trans G6).trans G7).md M8)
 cases hm
 refine ⟨_, _, rfl, res_1 rfl (rv_cellW agg_23 rfl Bw8 rfl), ?_⟩
 exact ⟨rfl, X21⟩
theorem ref05_Head_w {p0 p1 p2 p3 vp3 zp3 gp3 op3 r} (hm : ref05_Head p0 p1 p2 p3 = some r) {w : World} (hp3 : Rd w zp3 gp3 op3 1 vp3 (p3.map ic)) :
    Calls Tryz.prog 9 [kv p0, .agg (TScheme.cs p1).toArray, .int .i64 p2, vp3].toArray w fun e w' => ∃ v, e = .returned v ∧ (∃ ur0_2 zr0_2 gr0_2 ur0_4 zr0_4 gr0_4 ur0_39 zr0_39 gr0_39, v = .tuple [.agg (TPacket.cs r.1 ur0_2 ur0_4 ur0_39).toArray, .int .i64 r.2].toArray ∧ Own w' zr0_2 gr0_2 173 18 ur0_2 (r.1.Head.Items.map TItem.cs) ∧ Hdn (zr0_2 = 0 ∨ w.heap.size ≤ gr0_2) ∧ Own w' zr0_4 gr0_4 50 2 ur0_4 (r.1.Head.Points.map TPoint.cs) ∧ Hdn (zr0_4 = 0 ∨ w.heap.size ≤ gr0_4) ∧ Own w' zr0_39 gr0_39 5 1 ur0_39 (r.1.Data.map bvc) ∧ Hdn (zr0_39 = 0 ∨ w.heap.size ≤ gr0_39) ∧ Hdn (zr0_4 = 0 ∨ zr0_2 = 0 ∨ gr0_4 ≠ gr0_2) ∧ Hdn (zr0_39 = 0 ∨ zr0_2 = 0 ∨ gr0_39 ≠ gr0_2) ∧ Hdn (zr0_39 = 0 ∨ zr0_4 = 0 ∨ gr0_39 ≠ gr0_4) ∧ Gr w w') := by
 have lt1 := hp3.lth
 unfold ref05_Head at hm
 refine calls_of_sw 35 Tryz.func9 rfl rfl rfl<|qs 4 rfl<|qe rfl (ev_box (cs := kb p0) rfl rfl) ?_
 rintro _ w1 ⟨b1, rfl, hbw1, Bw1, G1⟩
 have z2 := G1.size
 have lt3 := Bw1.lt
 refine qe rfl (ev_box (cs := TScheme.cs p1) rfl rfl) ?_
 rintro _ w2 ⟨b2, rfl, hbw2, Bw2, G2⟩
 have z4 := G2.size
 have lt5 := Bw2.lt
 refine qe rfl (ev_alloc (cs := TPacket.cs (TPacket.mk 0#8 0 (THeader.mk [] 0#64 [] k0 k0) 0#8 0#64 [] k0) (.slice none 0 0) (.slice none 0 0) (.slice none 0 0)) zv_38 rfl) ?_
 rintro _ w3 ⟨b3, rfl, hbw3, Bw3, G3⟩
 have z6 := G3.size
 have lt7 := Bw3.lt
 refine qm rfl<|qd 11 rfl ?_
 have Y1 := Gr.trans G2 G3
 have B8 := (Bw1.gr Y1)
 refine qv rfl (vv_loadW agg_23 rfl B8 rfl) ?_
 have B9 := (Bw2.gr G3)
 refine qv rfl (vv_loadW agg_28 rfl B9 rfl)<|qm rfl<|qm rfl ?_
 have B10 := ((hp3.gr G1).gr Y1)
 obtain ⟨x1, hx1, hm⟩ := bnd hm
 refine qe rfl (eC en_45 rfl (ref05_Seal_w hx1 B10)) ?_
 rintro _ w4 ⟨u4_r0_0, z4_r0_0, g4_r0_0, u4_r0_2, z4_r0_2, g4_r0_2, rfl, O4_r0_0, f4_r0_0, O4_r0_2, f4_r0_2, d4_0, G4⟩
 have z11 := G4.size
 have lt12 := O4_r0_0.lth
 have lt13 := O4_r0_2.lth
 refine qm rfl<|qm rfl<|qm rfl<|qe rfl (ev_alloc (cs := THeader.cs (THeader.mk [] 0#64 [] k0 k0) (.slice none 0 0) (.slice none 0 0)) zv_36 rfl) ?_
 rintro _ w5 ⟨b5, rfl, hbw5, Bw5, G5⟩
 have z14 := G5.size
 have lt15 := Bw5.lt
 have B16 := (O4_r0_0.gr G5)
 have B17 := (O4_r0_2.gr G5)
 refine qe rfl (ev_stW agg_36 rfl rfl (THeader.cs_ones _ _ _ (Own.oneB B16) (Own.oneB B17)) Bw5 rfl rfl) ?_
 rintro _ w6 ⟨Bw6, M6⟩
 have z18 := M6.size
 refine qm rfl<|sd_done<|sw_seq<|qs 2 rfl<|qm rfl<|qv rfl (vv_neq (a := x1.2) (b := 0) rfl rfl) ?_
 refine sd_done<|sw_cond rfl (fun c1 => ?_) (fun c1 => ?_)
 · replace hm := iT c1 hm
   refine qs 4 rfl<|qv rfl (vv_build (cs := TPacket.cs (TPacket.mk 0#8 0 (THeader.mk [] 0#64 [] k0 k0) 0#8 0#64 [] k0) (.slice none 0 0) (.slice none 0 0) (.slice none 0 0)) bs_38 rfl (by kernel_rfl))<|qm rfl ?_
   have Y2 := Gr.trans G4 G5
   have B19 := ((Bw3.gr Y2).md M6)
   refine qe rfl (ev_stW agg_38 rfl rfl (TPacket.cs_ones _ _ _ _ rfl rfl rfl) B19 rfl rfl) ?_
   rintro _ w7 ⟨Bw7, M7⟩
   have z20 := M7.size
   refine qm rfl<|qb ?_
   have X21 := ((((((Gr.refl w).trans G1).trans Y1).trans Y2).md M6).md M7)
   cases hm
   refine ⟨_, _, rfl, res_2 rfl (rv_cellW agg_38 rfl Bw7 rfl) (rv_tmp rfl), ?_⟩
   exact ⟨(.slice none 0 0), 0, 0, (.slice none 0 0), 0, 0, (.slice none 0 0), 0, 0, rfl, (own_nil _ 0 173 18), ⟨.inl rfl⟩, (own_nil _ 0 50 2), ⟨.inl rfl⟩, (own_nil _ 0 5 1), ⟨.inl rfl⟩, ⟨(.inl rfl)⟩, ⟨(.inl rfl)⟩, ⟨(.inl rfl)⟩, X21⟩
 replace hm := iF c1 hm
 refine qu<|qs 5 rfl<|qm rfl<|qv rfl (vv_loadW agg_36 rfl Bw6 rfl)<|qv rfl (vv_build (cs := TPacket.cs (TPacket.mk 1#8 p2 x1.1 0#8 0#64 [] k0) u4_r0_0 u4_r0_2 (.slice none 0 0)) bs_38 rfl (fill_M rfl rfl rfl (fill_M rfl rfl rfl (fill_M rfl rfl rfl (by kernel_rfl))))) ?_
 refine qe rfl (ev_alloc (cs := TPacket.cs (TPacket.mk 0#8 0 (THeader.mk [] 0#64 [] k0 k0) 0#8 0#64 [] k0) (.slice none 0 0) (.slice none 0 0) (.slice none 0 0)) zv_38 rfl) ?_
 rintro _ w8 ⟨b8, rfl, hbw8, Bw8, G8⟩
 have z22 := G8.size
 have lt23 := Bw8.lt
 have B24 := ((B16.md M6 (pb_lt lt12)).gr G8)
 have B25 := ((B17.md M6 (pb_lt lt13)).gr G8)
 refine qe rfl (ev_stW agg_38 rfl rfl (TPacket.cs_ones _ _ _ _ (Own.oneB B24) (Own.oneB B25) rfl) Bw8 rfl rfl) ?_
 rintro _ w9 ⟨Bw9, M9⟩
 have z26 := M9.size
 refine sd_done<|sw_seq<|dw [([b8]),([])] [(6, [1])] (.leaf [(0,10),(1,10),(3,11),(2,0),(4,0),(5,10),(6,0)]) ?_
 intro w10 G10 zw10
 refine sdz_leaf ?_
 have Y3 := Gr.trans G4 G5
 have B27 := (((((B8.gr Y3).md M6).gr G8).md M9).gr G10)
 refine dh 0 rfl rfl (fun w hS => vv_loadW agg_23 rfl (Bx.kp B27 hS) rfl)<|dm 0 rfl rfl ?_
 have B28 := (Bw9.gr G10)
 refine dh 1 rfl rfl (fun w hS => vv_loadW agg_38 rfl (Bx.kp B28 hS) rfl) ?_
 obtain ⟨x2, hx2, hm⟩ := bnd hm
 refine qz [] rfl (eC en_47 rfl (ref05_Session_w hx2)) ⟨fun _ => tk0, fun _ => tk0, trivial⟩ ?_
 rintro _ w11 ⟨rfl, G11⟩
 have z29 := G11.size
 refine kG G11 ?_
 have Y4 := Gr.trans G10 G11
 have B30 := ((B24.md M9 (pb_lt lt12)).gr Y4)
 have B31 := ((B25.md M9 (pb_lt lt13)).gr Y4)
 obtain ⟨x3, hx3, hm⟩ := bnd hm
 refine qz [] rfl (eC en_46 rfl (ref05_Sealed_w hx3 (Own.rd B30) (Own.rd B31) (Own.rd (own_nil _ 0 5 1)))) ⟨fun _ => tk0, fun _ => tk0, trivial⟩ ?_
 rintro _ w12 ⟨rfl, G12⟩
 have z32 := G12.size
 refine kG G12 ?_
 have Y5 := Gr.trans G11 G12
 have S33 := ((Kp.refl ([b8]) w10).gr Y5)
 refine qh 0 rfl rfl S33 (fun w hS => vv_fieldAddr fa_38_6 rfl) ?_
 have B34 := (B28.gr Y5)
 refine qz [(1, b8)] rfl (ev_stM (cs' := TPacket.cs (TPacket.mk 1#8 p2 x1.1 0#8 0#64 [] x3) u4_r0_0 u4_r0_2 (.slice none 0 0)) (vs := kb x3) (agg_23).siz rfl rfl rfl rfl rfl B34 rfl rfl) ⟨fun _ => tk0, nofun, trivial⟩ ?_
 rintro _ w13 ⟨Bw13, M13⟩
 have z35 := M13.size
 refine kM M13<|qd 3 rfl<|qv rfl (vv_loadW agg_38 rfl Bw13 rfl) ?_
 have B36 := (((((((Bw3.gr Y3).md M6).gr G8).md M9).gr Y4).gr G12).md M13)
 have B37 := ((B30.gr G12).md M13 (pb_lt lt12))
 have B38 := ((B31.gr G12).md M13 (pb_lt lt13))
 refine qe rfl (ev_stW agg_38 rfl rfl (TPacket.cs_ones _ _ _ _ (Own.oneB B37) (Own.oneB B38) rfl) B36 rfl rfl) ?_
 rintro _ w14 ⟨Bw14, M14⟩
 have z39 := M14.size
 refine qm rfl<|sd_done<|sw_ret ?_
 have B40 := (B37.md M14 (pb_0 f4_r0_0))
 have B41 := (B38.md M14 (pb_0 f4_r0_2))
 have X42 := (((((((((((Gr.refl w).trans G1).trans Y1).trans Y3).md M6).trans G8).md M9).trans Y4).trans G12).md M13).md M14)
 cases hm
 refine ⟨_, _, rfl, res_2 rfl (rv_cellW agg_38 rfl Bw14 rfl) (rv_tmp rfl), ?_⟩
 exact ⟨u4_r0_0, z4_r0_0, g4_r0_0, u4_r0_2, z4_r0_2, g4_r0_2, (.slice none 0 0), 0, 0, rfl, B40, ⟨(pv_0 (A := (fun x => w.heap.size ≤ x)) f4_r0_0)⟩, B41, ⟨(pv_0 (A := (fun x => w.heap.size ≤ x)) f4_r0_2)⟩, (own_nil _ 0 5 1), ⟨.inl rfl⟩, ⟨(tk1 d4_0.o)⟩, ⟨(.inl rfl)⟩, ⟨(.inl rfl)⟩, X42⟩
theorem epoch_CheckAir_w {p0 r} (hm : epoch_CheckAir p0 = some r) {w : World} :
    Calls Tryz.prog 26 [.agg (TAir.cs p0).toArray].toArray w fun e w' => ∃ v, e = .returned v ∧ (v = .int .i64 r ∧ Gr w w') := by
 unfold epoch_CheckAir at hm
 refine calls_of_sw 78 Tryz.func26 rfl rfl rfl<|qs 2 rfl<|qe rfl (ev_box (cs := TAir.cs p0) rfl rfl) ?_
 rintro _ w1 ⟨b1, rfl, hbw1, Bw1, G1⟩
 have z1 := G1.size
 have lt2 := Bw1.lt
 refine qm rfl<|sd_done<|sw_seq ?_
 have X3 := ((Gr.refl w).trans G1)
 refine qj (β := Bool) (rg 4 31) (fun a1 => [(34, .bool a1)]) (fun a1 wr => (epoch_CheckAir_J1 p0 a1 = some r) ∧ Kz [] w1 wr) ?_ ?_
 · refine qg 31 rfl<|qv rfl (vv_fieldAddr fa_30_1 rfl)<|qv rfl (vv_load1 (v := .int .i64 p0.Word) one_3 rfl Bw1 rfl)<|qv rfl (vv_lss (a := p0.Word) (b := 1) rfl rfl)<|qp rfl (vv_move rfl) (fun c7 => ?_) (fun c7 => ?_)
   · replace hm := iT c7 hm
     refine qk rfl<|qk rfl<|qk rfl<|qm rfl<|qm rfl<|qk rfl<|qk rfl ?_
     refine qk rfl<|qk rfl<|qk rfl<|qm rfl<|qm rfl<|qk rfl<|qk rfl ?_
     refine qk rfl<|qk rfl<|qk rfl<|qk rfl<|qm rfl<|qm rfl<|qk rfl ?_
     refine qk rfl<|qk rfl<|qk rfl<|qk rfl<|qk rfl<|qm rfl<|sd_nil ?_
     exact ⟨rfl, true, sbq, hm, kz0⟩
   replace hm := iF c7 hm
   refine qv rfl (vv_fieldAddr fa_30_1 rfl)<|qv rfl (vv_load1 (v := .int .i64 p0.Word) one_3 rfl Bw1 rfl)<|qv rfl (vv_gtr (a := p0.Word) (b := 1000) rfl rfl)<|qm rfl<|qp rfl (vv_move rfl) (fun c8 => ?_) (fun c8 => ?_)
   · replace hm := iT c8 hm
     refine qk rfl<|qk rfl<|qk rfl<|qk rfl<|qk rfl<|qm rfl<|qm rfl ?_
     refine qk rfl<|qk rfl<|qk rfl<|qk rfl<|qk rfl<|qk rfl<|qm rfl ?_
     refine qm rfl<|qk rfl<|qk rfl<|qk rfl<|qk rfl<|qk rfl<|qk rfl ?_
     refine qm rfl<|sd_nil ?_
     exact ⟨rfl, true, sbq, hm, kz0⟩
   replace hm := iF c8 hm
   refine qv rfl (vv_fieldAddr fa_30_0 rfl)<|qv rfl (vv_load1 (v := .int .i64 p0.Epoch) one_3 rfl Bw1 rfl)<|qv rfl (vv_fieldAddr fa_30_1 rfl)<|qv rfl (vv_load1 (v := .int .i64 p0.Word) one_3 rfl Bw1 rfl)<|qv rfl (vv_lss (a := p0.Epoch) (b := p0.Word) rfl rfl)<|qm rfl<|qp rfl (vv_move rfl) (fun c9 => ?_) (fun c9 => ?_)
   · replace hm := iT c9 hm
     refine qk rfl<|qk rfl<|qk rfl<|qk rfl<|qk rfl<|qk rfl<|qm rfl ?_
     refine qm rfl<|qk rfl<|qk rfl<|qk rfl<|qk rfl<|qk rfl<|qk rfl ?_
     refine qm rfl<|sd_nil ?_
     exact ⟨rfl, true, sbq, hm, kz0⟩
   replace hm := iF c9 hm
   refine qv rfl (vv_fieldAddr fa_30_0 rfl)<|qv rfl (vv_load1 (v := .int .i64 p0.Epoch) one_3 rfl Bw1 rfl)<|qv rfl (vv_fieldAddr fa_30_1 rfl)<|qv rfl (vv_load1 (v := .int .i64 p0.Word) one_3 rfl Bw1 rfl)<|qv rfl (vv_mul (k := .i64) (a := 1000) (b := p0.Word) rfl rfl)<|qv rfl (vv_gtr (a := p0.Epoch) (b := w64 (1000 * p0.Word)) rfl rfl)<|qm rfl ?_
   refine qp rfl (vv_move rfl) (fun c10 => ?_) (fun c10 => ?_)
   · replace hm := iT c10 hm
     refine qk rfl<|qk rfl<|qk rfl<|qk rfl<|qk rfl<|qk rfl<|qm rfl ?_
     refine sd_nil ?_
     exact ⟨rfl, true, sbq, hm, kz0⟩
   replace hm := iF c10 hm
   refine qv rfl (vv_fieldAddr fa_30_0 rfl)<|qv rfl (vv_load1 (v := .int .i64 p0.Epoch) one_3 rfl Bw1 rfl)<|qv rfl (vv_fieldAddr fa_30_1 rfl)<|qv rfl (vv_load1 (v := .int .i64 p0.Word) one_3 rfl Bw1 rfl) ?_
   obtain ⟨x3, hx3, hm⟩ := bnd hm
   refine qv rfl (vv_remI (a := p0.Epoch) (b := p0.Word) rfl rfl hx3)<|qv rfl (vv_neq (a := x3) (b := 0) rfl rfl)<|qm rfl<|sd_nil ?_
   exact ⟨rfl, (decide (x3 ≠ 0)), sbq, hm, kz0⟩
 clear hm; rintro a1 w2 ⟨hm, K2⟩
 have z4 := K2.size
 unfold epoch_CheckAir_J1 at hm
 refine sw_cond rfl (fun c1 => ?_) (fun c1 => ?_)
 · replace hm := cnd_t c1 hm
   refine qs 1 rfl<|qm rfl<|qb ?_
   have X5 := (X3.kz K2)
   cases hm
   refine ⟨_, _, rfl, res_1 rfl (rv_tmp rfl), ?_⟩
   exact ⟨rfl, X5⟩
 replace hm := cnd_f c1 hm
 refine qu<|qs 4 rfl<|qv rfl (vv_fieldAddr fa_30_1 rfl) ?_
 have B6 := (Bw1.kz K2)
 refine qv rfl (vv_load1 (v := .int .i64 p0.Word) one_3 rfl B6 rfl)<|qv rfl (vv_mul (k := .i64) (a := 3) (b := p0.Word) rfl rfl)<|qm rfl<|sd_done<|sw_seq ?_
 have X7 := (X3.kz K2)
 refine qj (β := Bool) (rg 38 40) (fun a2 => [(77, .bool a2)]) (fun a2 wr => (epoch_CheckAir_J2 a2 = some r) ∧ Kz [] w2 wr) ?_ ?_
 · refine qg 40 rfl<|qv rfl (vv_fieldAddr fa_30_2 rfl)<|qv rfl (vv_load1 (v := .int .i64 p0.Early) one_3 rfl B6 rfl)<|qv rfl (vv_fieldAddr fa_30_3 rfl)<|qv rfl (vv_load1 (v := .int .i64 p0.Drift) one_3 rfl B6 rfl)<|qv rfl (vv_fieldAddr fa_30_4 rfl)<|qv rfl (vv_load1 (v := .int .i64 p0.Delay) one_3 rfl B6 rfl) ?_
   refine qv rfl (vv_minK3 rfl rfl rfl)<|qv rfl (vv_lss (a := mnI (mnI p0.Early p0.Drift) p0.Delay) (b := 0) rfl rfl)<|qp rfl (vv_move rfl) (fun c3 => ?_) (fun c3 => ?_)
   · replace hm := iT c3 hm
     refine qk rfl<|qk rfl<|qk rfl<|qk rfl<|qm rfl<|qm rfl<|qk rfl ?_
     refine qk rfl<|qk rfl<|qk rfl<|qm rfl<|qm rfl<|qk rfl<|qk rfl ?_
     refine qk rfl<|qk rfl<|qk rfl<|qk rfl<|qk rfl<|qk rfl<|qm rfl ?_
     refine qm rfl<|qk rfl<|qk rfl<|qk rfl<|qk rfl<|qk rfl<|qk rfl ?_
     refine qk rfl<|qk rfl<|qm rfl<|sd_nil ?_
     exact ⟨rfl, true, sbq, hm, kz0⟩
   replace hm := iF c3 hm
   refine qv rfl (vv_fieldAddr fa_30_3 rfl)<|qv rfl (vv_load1 (v := .int .i64 p0.Drift) one_3 rfl B6 rfl)<|qm rfl<|qv rfl (vv_geq (a := p0.Drift) (b := w64 (3 * p0.Word)) rfl rfl)<|qm rfl<|qp rfl (vv_move rfl) (fun c4 => ?_) (fun c4 => ?_)
   · replace hm := iT c4 hm
     refine qk rfl<|qk rfl<|qk rfl<|qk rfl<|qm rfl<|qm rfl<|qk rfl ?_
     refine qk rfl<|qk rfl<|qk rfl<|qk rfl<|qk rfl<|qk rfl<|qk rfl ?_
     refine qm rfl<|qm rfl<|qk rfl<|qk rfl<|qk rfl<|qk rfl<|qk rfl ?_
     refine qk rfl<|qk rfl<|qk rfl<|qm rfl<|sd_nil ?_
     exact ⟨rfl, true, sbq, hm, kz0⟩
   replace hm := iF c4 hm
   refine qv rfl (vv_fieldAddr fa_30_4 rfl)<|qv rfl (vv_load1 (v := .int .i64 p0.Delay) one_3 rfl B6 rfl)<|qm rfl<|qv rfl (vv_geq (a := p0.Delay) (b := w64 (3 * p0.Word)) rfl rfl)<|qm rfl<|qp rfl (vv_move rfl) (fun c5 => ?_) (fun c5 => ?_)
   · replace hm := iT c5 hm
     refine qk rfl<|qk rfl<|qk rfl<|qk rfl<|qk rfl<|qk rfl<|qk rfl ?_
     refine qk rfl<|qm rfl<|qm rfl<|qk rfl<|qk rfl<|qk rfl<|qk rfl ?_
     refine qk rfl<|qk rfl<|qk rfl<|qk rfl<|qm rfl<|sd_nil ?_
     exact ⟨rfl, true, sbq, hm, kz0⟩
   replace hm := iF c5 hm
   refine qv rfl (vv_fieldAddr fa_30_3 rfl)<|qv rfl (vv_load1 (v := .int .i64 p0.Drift) one_3 rfl B6 rfl)<|qv rfl (vv_mul (k := .i64) (a := 2) (b := p0.Drift) rfl rfl)<|qv rfl (vv_fieldAddr fa_30_4 rfl)<|qv rfl (vv_load1 (v := .int .i64 p0.Delay) one_3 rfl B6 rfl)<|qv rfl (vv_add (k := .i64) (a := w64 (2 * p0.Drift)) (b := p0.Delay) rfl rfl)<|qm rfl ?_
   refine qv rfl (vv_geq (a := w64 ((w64 (2 * p0.Drift)) + p0.Delay)) (b := w64 (3 * p0.Word)) rfl rfl)<|qm rfl<|qp rfl (vv_move rfl) (fun c6 => ?_) (fun c6 => ?_)
   · replace hm := iT c6 hm
     refine qk rfl<|qk rfl<|qk rfl<|qk rfl<|qk rfl<|qk rfl<|qk rfl ?_
     refine qk rfl<|qm rfl<|sd_nil ?_
     exact ⟨rfl, true, sbq, hm, kz0⟩
   replace hm := iF c6 hm
   refine qv rfl (vv_fieldAddr fa_30_2 rfl)<|qv rfl (vv_load1 (v := .int .i64 p0.Early) one_3 rfl B6 rfl)<|qv rfl (vv_fieldAddr fa_30_0 rfl)<|qv rfl (vv_load1 (v := .int .i64 p0.Epoch) one_3 rfl B6 rfl)<|qv rfl (vv_fieldAddr fa_30_4 rfl)<|qv rfl (vv_load1 (v := .int .i64 p0.Delay) one_3 rfl B6 rfl)<|qv rfl (vv_sub (k := .i64) (a := p0.Epoch) (b := p0.Delay) rfl rfl) ?_
   refine qv rfl (vv_gtr (a := p0.Early) (b := w64 (p0.Epoch - p0.Delay)) rfl rfl)<|qm rfl<|sd_nil ?_
   exact ⟨rfl, (decide (w64 (p0.Epoch - p0.Delay) < p0.Early)), sbq, hm, kz0⟩
 clear hm; rintro a2 w3 ⟨hm, K3⟩
 have z8 := K3.size
 unfold epoch_CheckAir_J2 at hm
 refine sw_cond rfl (fun c2 => ?_) (fun c2 => ?_)
 · replace hm := cnd_t c2 hm
   refine qs 1 rfl<|qm rfl<|qb ?_
   have X9 := (X7.kz K3)
   cases hm
   refine ⟨_, _, rfl, res_1 rfl (rv_tmp rfl), ?_⟩
   exact ⟨rfl, X9⟩
 replace hm := cnd_f c2 hm
 refine qu<|qs 1 rfl<|qm rfl<|sd_done<|sw_ret ?_
 have X10 := (X7.kz K3)
 cases hm
 refine ⟨_, _, rfl, res_1 rfl (rv_tmp rfl), ?_⟩
 exact ⟨rfl, X10⟩
theorem epoch_PeriodOf_1_w {p0 r} (hm : epoch_PeriodOf_1 p0 = some r) {w : World} :
    Calls Tryz.prog 106 [.agg (TAir.cs p0).toArray].toArray w fun e w' => ∃ v, e = .returned v ∧ (v = .int .i64 r ∧ Gr w w') := by
 unfold epoch_PeriodOf_1 at hm
 refine calls_of_sw 5 Tryz.func106 rfl rfl rfl<|qs 2 rfl<|qe rfl (ev_box (cs := TAir.cs p0) rfl rfl) ?_
 rintro _ w1 ⟨b1, rfl, hbw1, Bw1, G1⟩
 have z1 := G1.size
 have lt2 := Bw1.lt
 refine qm rfl<|qd 3 rfl<|qv rfl (vv_fieldAddr fa_30_1 rfl)<|qv rfl (vv_load1 (v := .int .i64 p0.Word) one_3 rfl Bw1 rfl)<|qm rfl ?_
 refine sd_done<|sw_ret ?_
 have X3 := ((Gr.refl w).trans G1)
 cases hm
 refine ⟨_, _, rfl, res_1 rfl (rv_tmp rfl), ?_⟩
 exact ⟨rfl, X3⟩
theorem epoch_divided_epoch_PeriodOf_1_w {p0 p1 r} (hm : epoch_divided_epoch_PeriodOf_1 p0 p1 = some r) {w : World} :
    Calls Tryz.prog 105 [.agg (TAir.cs p0).toArray, .int .i64 p1, .func (.func 106) [].toArray [].toArray].toArray w fun e w' => ∃ v, e = .returned v ∧ (v = .tuple [.int .i64 r.1, .int .i64 r.2].toArray ∧ Gr w w') := by
 unfold epoch_divided_epoch_PeriodOf_1 at hm
 refine calls_of_sw 22 Tryz.func105 rfl rfl rfl<|qs 3 rfl<|qe rfl (ev_box (cs := TAir.cs p0) rfl rfl) ?_
 rintro _ w1 ⟨b1, rfl, hbw1, Bw1, G1⟩
 have z1 := G1.size
 have lt2 := Bw1.lt
 refine qm rfl<|qm rfl<|sd_done<|sw_seq<|qs 3 rfl<|qv rfl (vv_loadW agg_30 rfl Bw1 rfl) ?_
 obtain ⟨x1, hx1, hm⟩ := bnd hm
 refine qe rfl (eC en_26 rfl (epoch_CheckAir_w hx1)) ?_
 rintro _ w2 ⟨rfl, G2⟩
 have z3 := G2.size
 refine qm rfl<|qd 2 rfl<|qm rfl<|qv rfl (vv_neq (a := x1) (b := 0) rfl rfl)<|sd_done ?_
 refine sw_cond rfl (fun c1 => ?_) (fun c1 => ?_)
 · replace hm := iT c1 hm
   refine qs 3 rfl<|qm rfl<|qm rfl<|qm rfl<|sd_done<|sw_ret ?_
   refine then_r ?_
   have X4 := (((Gr.refl w).trans G1).trans G2)
   cases hm
   refine ⟨_, _, rfl, res_2 rfl (rv_tmp rfl) (rv_tmp rfl), ?_⟩
   exact ⟨rfl, X4⟩
 replace hm := iF c1 hm
 refine qu<|sw_seq<|qs 3 rfl<|qm rfl ?_
 obtain ⟨x2, hx2, hm⟩ := bnd hm
 refine qe rfl (eC en_60 rfl (epoch_isTick_w hx2)) ?_
 rintro _ w3 ⟨rfl, G3⟩
 have z5 := G3.size
 refine qv rfl (vv_not rfl)<|sd_done<|sw_cond rfl (fun c2 => ?_) (fun c2 => ?_)
 · replace hm := cnd_t c2 hm
   refine qs 2 rfl<|qm rfl<|qm rfl<|sd_done<|sw_ret<|then_r ?_
   have X6 := ((((Gr.refl w).trans G1).trans G2).trans G3)
   cases hm
   refine ⟨_, _, rfl, res_2 rfl (rv_tmp rfl) (rv_tmp rfl), ?_⟩
   exact ⟨rfl, X6⟩
 replace hm := cnd_f c2 hm
 refine qu<|qs 7 rfl<|qm rfl<|qm rfl ?_
 have B7 := ((Bw1.gr G2).gr G3)
 refine qv rfl (vv_loadW agg_30 rfl B7 rfl) ?_
 obtain ⟨x3, hx3, hm⟩ := bnd hm
 refine qe rfl (ev_callV en_106 rfl rfl (epoch_PeriodOf_1_w hx3)) ?_
 rintro _ w4 ⟨rfl, G4⟩
 have z8 := G4.size
 obtain ⟨x4, hx4, hm⟩ := bnd hm
 refine qv rfl (vv_quoI (a := p1) (b := x3) rfl rfl hx4)<|qm rfl<|qm rfl<|sd_done<|sw_ret ?_
 have X9 := (((((Gr.refl w).trans G1).trans G2).trans G3).trans G4)
 cases hm
 refine ⟨_, _, rfl, res_2 rfl (rv_tmp rfl) (rv_tmp rfl), ?_⟩
 exact ⟨rfl, X9⟩
theorem epoch_PeriodOf_w {p0 p1 r} (hm : epoch_PeriodOf p0 p1 = some r) {w : World} :
    Calls Tryz.prog 48 [.agg (TAir.cs p0).toArray, .int .i64 p1].toArray w fun e w' => ∃ v, e = .returned v ∧ (v = .tuple [.int .i64 r.1, .int .i64 r.2].toArray ∧ Gr w w') := by
 unfold epoch_PeriodOf at hm
 refine calls_of_sw 11 Tryz.func48 rfl rfl rfl<|qs 3 rfl<|qe rfl (ev_box (cs := TAir.cs p0) rfl rfl) ?_
 rintro _ w1 ⟨b1, rfl, hbw1, Bw1, G1⟩
 have z1 := G1.size
 have lt2 := Bw1.lt
 refine qm rfl<|qm rfl<|qd 7 rfl<|qv rfl (vv_loadW agg_30 rfl Bw1 rfl)<|qm rfl ?_
 obtain ⟨x1, hx1, hm⟩ := bnd hm
 refine qe rfl (eC en_105 rfl (epoch_divided_epoch_PeriodOf_1_w hx1)) ?_
 rintro _ w2 ⟨rfl, G2⟩
 have z3 := G2.size
 refine qm rfl<|qm rfl<|qm rfl<|qm rfl<|sd_done<|sw_ret ?_
 have X4 := (((Gr.refl w).trans G1).trans G2)
 cases hm
 refine ⟨_, _, rfl, res_2 rfl (rv_tmp rfl) (rv_tmp rfl), ?_⟩
 exact ⟨rfl, X4⟩
theorem epoch_Word_w {p0 p1 r} (hm : epoch_Word p0 p1 = some r) {w : World} :
    Calls Tryz.prog 49 [kv p0, .int .i64 p1].toArray w fun e w' => ∃ v, e = .returned v ∧ (v = kv r ∧ Gr w w') := by
 unfold epoch_Word at hm
 refine calls_of_sw 9 Tryz.func49 rfl rfl rfl<|qs 2 rfl<|qe rfl (ev_box (cs := kb p0) rfl rfl) ?_
 rintro _ w1 ⟨b1, rfl, hbw1, Bw1, G1⟩
 have z1 := G1.size
 have lt2 := Bw1.lt
 refine qe rfl (ev_alloc (cs := kb k0) zv_23 rfl) ?_
 rintro _ w2 ⟨b2, rfl, hbw2, Bw2, G2⟩
 have z3 := G2.size
 have lt4 := Bw2.lt
 refine qd 5 rfl ?_
 have B5 := (Bw1.gr G2)
 refine qv rfl (vv_loadW agg_23 rfl B5 rfl)<|qm rfl<|qv rfl (vv_cvIU cv_3_24 rfl)<|qe rfl (eC en_90 rfl (derive_c p0 (un8 51#8) (un8_nn _) (un8_le _) (wd p1) _)) ?_
 rintro _ w3 ⟨rfl, G3⟩
 have z6 := G3.size
 have B7 := (Bw2.gr G3)
 refine qe rfl (ev_stW agg_23 rfl rfl rfl B7 rfl rfl) ?_
 rintro _ w4 ⟨Bw4, M4⟩
 have z8 := M4.size
 refine sd_done<|sw_ret ?_
 have X9 := (((((Gr.refl w).trans G1).trans G2).trans G3).md M4)
 cases hm
 refine ⟨_, _, rfl, res_1 rfl (rv_cellW agg_23 rfl Bw4 rfl), ?_⟩
 exact ⟨rfl, X9⟩
theorem cipher_pair_block_w {p0 r} (hm : cipher_pair_block p0 = some r) {w : World} :
    Calls Tryz.prog 190 [.agg (Tcipher_pair.cs p0).toArray].toArray w fun e w' => ∃ v, e = .returned v ∧ (v = kv r ∧ Gr w w') := by
 unfold cipher_pair_block at hm
 refine calls_of_sw 29 Tryz.func190 rfl rfl rfl<|qs 2 rfl<|qe rfl (ev_box (cs := Tcipher_pair.cs p0) rfl rfl) ?_
 rintro _ w1 ⟨b1, rfl, hbw1, Bw1, G1⟩
 have z1 := G1.size
 have lt2 := Bw1.lt
 refine qe rfl (ev_alloc (cs := kb k0) zv_23 rfl) ?_
 rintro _ w2 ⟨b2, rfl, hbw2, Bw2, G2⟩
 have z3 := G2.size
 have lt4 := Bw2.lt
 refine qd 1 rfl<|qe rfl (ev_alloc (cs := kb k0) zv_23 rfl) ?_
 rintro _ w3 ⟨b3, rfl, hbw3, Bw3, G3⟩
 have z5 := G3.size
 have lt6 := Bw3.lt
 refine sd_done<|sw_seq<|qs 1 rfl<|qm rfl<|sd_done<|sw_block ?_
 have X7 := ((((Gr.refl w).trans G1).trans G2).trans G3)
 refine sw_loopD (α := Nat × Int × W2) (rg 4 24) (fun ⟨n1, a3, a4⟩ => [(5, .int .i64 a3)]) (fun ⟨n1, a3, a4⟩ wr => (fixN (cipher_pair_block_L1 p0) n1 (a3, a4) = some r) ∧ Bx wr b3 23 (kb a4) ∧ Kz [(1, b3)] w3 wr) (fun ⟨n1, a3, a4⟩ => n1) ⟨FUEL, 0, k0⟩ ?_ ?_ ?_
 · exact sbq
 · exact ⟨hm, Bw3, Kz.refl _ _⟩
 clear hm; rintro ⟨n1, a3, a4⟩ w4 ⟨hm, Fw4_0, K4⟩
 have z8 := K4.size
 have lt9 := Fw4_0.lt
 have hb := fix_succ hm; clear hm; obtain ⟨n1, rfl, hm⟩ := hb
 generalize hrec1 : fixN (cipher_pair_block_L1 p0) n1 = rec1 at hm
 unfold cipher_pair_block_L1 at hm
 try dsimp only at hm
 refine qs 1 rfl<|qv rfl (vv_lss (a := a3) (b := 8) rfl rfl)<|sd_done<|sw_seq<|cnF rfl (fun c1 => ?_) (fun c1 => ?_)
 · replace hm := iF c1 hm
   refine sw_exit<|then_x<|then_x<|block_x<|then_n<|qs 2 rfl ?_
   refine qv rfl (vv_loadW agg_23 rfl Fw4_0 rfl) ?_
   have B16 := ((Bw2.gr G3).kz K4)
   refine qe rfl (ev_stW agg_23 rfl rfl rfl B16 rfl rfl) ?_
   rintro _ w8 ⟨Bw8, M8⟩
   have z17 := M8.size
   refine sd_done<|sw_ret ?_
   have X18 := ((X7.kz K4).md M8)
   cases hm
   refine ⟨_, _, rfl, res_1 rfl (rv_cellW agg_23 rfl Bw8 rfl), ?_⟩
   exact ⟨rfl, X18⟩
 replace hm := iT c1 hm
 refine qu<|sw_seq<|sw_block<|qs 2 rfl<|qm rfl ?_
 refine qm rfl<|sd_done<|dw [([b3])] [] (.leaf [(0,10),(1,10),(2,10),(3,10),(4,10),(5,10),(6,10),(7,10),(8,10),(9,10),(10,10),(11,10),(12,10),(13,10),(14,10),(15,10),(16,10),(17,10),(18,0),(19,10),(20,0)]) ?_
 intro w5 G5 zw5
 refine sdz_leaf<|dm 0 rfl rfl<|dm 0 rfl rfl<|dh 0 rfl rfl (fun w hS => vv_add (k := .i64) (a := 8) (b := a3) rfl rfl)<|dh 0 rfl rfl (fun w hS => vv_fieldAddr fa_278_0 rfl) ?_
 have B10 := ((((Bw1.gr G2).gr G3).kz K4).gr G5)
 refine dh 0 rfl rfl (fun w hS => vv_load1 (v := wv p0.x) one_24 rfl (Bx.kp B10 hS) rfl)<|dm 0 rfl rfl<|dh 0 rfl rfl (fun w hS => vv_mul (k := .i64) (a := 8) (b := a3) rfl rfl)<|dh 0 rfl rfl (fun w hS => vv_sub (k := .i64) (a := 56) (b := w64 (8 * a3)) rfl rfl) ?_
 obtain ⟨nn5, hnn5, hm⟩ := bnd hm
 refine dh 0 rfl rfl (fun w hS => vv_shrU (c := p0.x) (b := (w64 (56 - (w64 (8 * a3))))) rfl rfl hnn5)<|dh 0 rfl rfl (fun w hS => vv_cvUB cv_24_5 rfl)<|dh 0 rfl rfl (fun w hS => vv_fieldAddr fa_278_1 rfl)<|dh 0 rfl rfl (fun w hS => vv_load1 (v := wv p0.y) one_24 rfl (Bx.kp B10 hS) rfl)<|dm 0 rfl rfl<|dh 0 rfl rfl (fun w hS => vv_mul (k := .i64) (a := 8) (b := a3) rfl rfl)<|dh 0 rfl rfl (fun w hS => vv_sub (k := .i64) (a := 56) (b := w64 (8 * a3)) rfl rfl) ?_
 obtain ⟨nn6, hnn6, hm⟩ := bnd hm
 refine dh 0 rfl rfl (fun w hS => vv_shrU (c := p0.y) (b := (w64 (56 - (w64 (8 * a3))))) rfl rfl hnn6)<|dh 0 rfl rfl (fun w hS => vv_cvUB cv_24_5 rfl) ?_
 obtain ⟨y7, hy7, hm⟩ := bnd hm
 refine dh 0 rfl rfl (fun w hS => vv_ixK (i := a3) (p := a4) Tryz.underlying23 (one_5).siz rfl rfl hy7) ?_
 have B11 := (Fw4_0.gr G5)
 obtain ⟨x8, hx8, hm⟩ := bnd hm
 refine qz [(1, b3)] rfl (ev_stK (off := 0) (p := a4) (q := x8) (i := a3) (cs' := kb x8) (one_5).siz rfl rfl B11 rfl hx8 rfl rfl rfl) ⟨fun _ => tk0, trivial⟩ ?_
 rintro _ w6 ⟨Bw6, M6⟩
 have z12 := M6.size
 refine kM M6 ?_
 obtain ⟨y9, hy9, hm⟩ := bnd hm
 have S13 := ((Kp.refl ([b3]) w5).md M6)
 refine qh 0 rfl rfl S13 (fun w hS => vv_ixK (i := w64 (8 + a3)) (p := x8) Tryz.underlying23 (one_5).siz rfl rfl hy9) ?_
 obtain ⟨x10, hx10, hm⟩ := bnd hm
 refine qz [(1, b3)] rfl (ev_stK (off := 0) (p := x8) (q := x10) (i := w64 (8 + a3)) (cs' := kb x10) (one_5).siz rfl rfl Bw6 rfl hx10 rfl rfl rfl) ⟨fun _ => tk0, trivial⟩ ?_
 rintro _ w7 ⟨Bw7, M7⟩
 have z14 := M7.size
 refine kM M7<|sd_nil<|block_n<|then_n<|qg 2 rfl<|qv rfl (vv_add (k := .i64) (a := a3) (b := 1) rfl rfl)<|qm rfl ?_
 refine sd_nil ?_
 have K_15 : Kz [(1, b3)] w3 w7 := (((K4.gr G5).md M6).md M7)
 subst hrec1
 exact ⟨rfl, ⟨n1, w64 (a3 + 1), x10⟩, sbq, ⟨hm, Bw7, K_15⟩, Nat.lt_succ_self _⟩
theorem cipher_blockOf_w {p0 p1 p2 r} (hm : cipher_blockOf p0 p1 p2 = some r) {w : World} :
    Calls Tryz.prog 108 [bv p0, wv p1, wv p2].toArray w fun e w' => ∃ v, e = .returned v ∧ (v = kv r ∧ Gr w w') := by
 unfold cipher_blockOf at hm
 refine calls_of_sw 15 Tryz.func108 rfl rfl rfl<|qs 1 rfl<|qe rfl (ev_alloc (cs := kb k0) zv_23 rfl) ?_
 rintro _ w1 ⟨b1, rfl, hbw1, Bw1, G1⟩
 have z1 := G1.size
 have lt2 := Bw1.lt
 refine qd 9 rfl<|qm rfl<|qv rfl (vv_cvBU cv_5_24 rfl) ?_
 obtain ⟨nn1, hnn1, hm⟩ := bnd hm
 refine qv rfl (vv_shlU (c := p0.setWidth 64) (b := (un 56#64)) rfl rfl hnn1)<|qm rfl<|qv rfl (vv_uor (a := (p0.setWidth 64) <<< nn1) (b := p1) rfl rfl)<|qm rfl<|qv rfl (vv_build (cs := Tcipher_pair.cs (Tcipher_pair.mk (((p0.setWidth 64) <<< nn1) ||| p1) p2)) bs_278 rfl rfl) ?_
 obtain ⟨x2, hx2, hm⟩ := bnd hm
 refine qe rfl (eC en_190 rfl (cipher_pair_block_w hx2)) ?_
 rintro _ w2 ⟨rfl, G2⟩
 have z3 := G2.size
 have B4 := (Bw1.gr G2)
 refine qe rfl (ev_stW agg_23 rfl rfl rfl B4 rfl rfl) ?_
 rintro _ w3 ⟨Bw3, M3⟩
 have z5 := M3.size
 refine sd_done<|sw_ret ?_
 have X6 := ((((Gr.refl w).trans G1).trans G2).md M3)
 cases hm
 refine ⟨_, _, rfl, res_1 rfl (rv_cellW agg_23 rfl Bw3 rfl), ?_⟩
 exact ⟨rfl, X6⟩
theorem cipher_Stream_w {p0 p1 p2 vp2 zp2 gp2 op2 r} (hm : cipher_Stream p0 p1 p2 = some r) {w : World} (hp2 : Rd w zp2 gp2 op2 1 vp2 (p2.map bvc)) :
    Calls Tryz.prog 50 [kv p0, wv p1, vp2].toArray w fun e w' => ∃ v, e = .returned v ∧ (∃ ur0_s zr0_s gr0_s, v = .tuple [ur0_s, .int .i64 r.2].toArray ∧ Own w' zr0_s gr0_s 5 1 ur0_s (r.1.map bvc) ∧ Hdn (zr0_s = 0 ∨ w.heap.size ≤ gr0_s) ∧ Gr w w') := by
 have lt1 := hp2.lth
 unfold cipher_Stream at hm
 refine calls_of_sw 46 Tryz.func50 rfl rfl rfl<|qs 3 rfl<|qe rfl (ev_box (cs := kb p0) rfl rfl) ?_
 rintro _ w1 ⟨b1, rfl, hbw1, Bw1, G1⟩
 have z2 := G1.size
 have lt3 := Bw1.lt
 refine qm rfl<|qm rfl<|sd_done<|sw_seq<|qs 3 rfl<|qm rfl ?_
 have B4 := (hp2.gr G1)
 refine qv rfl (vv_lenT (l := p2) (c := bvc) Tryz.underlying32 rfl B4)<|qv rfl (vv_gtr (a := (p2.length : Int)) (b := 16384) rfl rfl)<|sd_done<|sw_cond rfl (fun c1 => ?_) (fun c1 => ?_)
 · replace hm := iT c1 hm
   refine qs 2 rfl<|qm rfl<|qm rfl<|sd_done<|sw_ret<|then_r ?_
   have X5 := ((Gr.refl w).trans G1)
   cases hm
   refine ⟨_, _, rfl, res_2 rfl (rv_tmp rfl) (rv_tmp rfl), ?_⟩
   exact ⟨(.slice none 0 0), 0, 0, rfl, (own_nil _ 0 5 1), ⟨.inl rfl⟩, X5⟩
 replace hm := iF c1 hm
 refine qu<|qs 4 rfl<|qm rfl<|qv rfl (vv_lenT (l := p2) (c := bvc) Tryz.underlying32 rfl B4) ?_
 obtain ⟨l1, hl1, hm⟩ := bnd hm
 refine qe rfl (ev_mkT (c := bvc) (a := 0#8) apt_32 zv_5 rfl ⟨rfl, rfl⟩ rfl hl1 (by decide)) ?_
 rintro vw2 w2 ⟨gw2, hbw2, Ow2, G2⟩
 have z6 := G2.size
 have lt7 := Ow2.lth
 refine qm rfl<|qd 1 rfl<|qe rfl (ev_alloc (cs := kb k0) zv_23 rfl) ?_
 rintro _ w3 ⟨b3, rfl, hbw3, Bw3, G3⟩
 have z8 := G3.size
 have lt9 := Bw3.lt
 refine sd_done<|sw_seq<|qs 3 rfl<|qm rfl ?_
 have B10 := ((B4.gr G2).gr G3)
 refine qv rfl (vv_lenT (l := p2) (c := bvc) Tryz.underlying32 rfl B10)<|qm rfl<|sd_done<|sw_block ?_
 have X11 := ((((Gr.refl w).trans G1).trans G2).trans G3)
 have B12 := (Ow2.gr G3)
 refine sw_loopD (α := Nat × List (BitVec 8) × Int × W2 × Value × Nat × Nat) ([8, 10, 11] ++ rg 20 25) (fun ⟨n1, a6, a8, a9, vy7, zy7, gy7⟩ => [(8, vy7), (20, .int .i64 a8)]) (fun ⟨n1, a6, a8, a9, vy7, zy7, gy7⟩ wr => (fixN (cipher_Stream_L1 p0 p1 p2) n1 (a6, a8, a9) = some r) ∧ Own wr zy7 gy7 5 1 vy7 (a6.map bvc) ∧ Hdn (zy7 = 0 ∨ (gy7 = gw2 ∧ 1 ≠ 0) ∨ w3.heap.size ≤ gy7) ∧ Bx wr b3 23 (kb a9) ∧ Kz [(1, b3), (1, gw2)] w3 wr) (fun ⟨n1, a6, a8, a9, vy7, zy7, gy7⟩ => n1) ⟨FUEL, l1, 0, k0, vw2, 1, gw2⟩ ?_ ?_ ?_
 · exact sbq
 · exact ⟨hm, B12, ⟨tk0⟩, Bw3, Kz.refl _ _⟩
 clear hm; rintro ⟨n1, a6, a8, a9, vy7, zy7, gy7⟩ w4 ⟨hm, Fw4_0, Fw4_1, Fw4_2, K4⟩
 have z13 := K4.size
 have lt14 := Fw4_0.lth
 have lt15 := Fw4_2.lt
 have hb := fix_succ hm; clear hm; obtain ⟨n1, rfl, hm⟩ := hb
 generalize hrec1 : fixN (cipher_Stream_L1 p0 p1 p2) n1 = rec1 at hm
 unfold cipher_Stream_L1 at hm
 try dsimp only at hm
 refine qs 1 rfl<|qv rfl (vv_lss (a := a8) (b := (p2.length : Int)) rfl rfl)<|sd_done<|sw_seq<|cnF rfl (fun c2 => ?_) (fun c2 => ?_)
 · replace hm := iF c2 hm
   refine sw_exit<|then_x<|then_x<|block_x<|then_n<|qs 3 rfl ?_
   refine qm rfl<|qm rfl<|qm rfl<|sd_done<|sw_ret ?_
   have X32 := (X11.kz K4 (tk1 ((.inr tk0) : 1 = 0 ∨ w.heap.size ≤ gw2)))
   cases hm
   refine ⟨_, _, rfl, res_2 rfl (rv_tmp rfl) (rv_tmp rfl), ?_⟩
   exact ⟨vy7, zy7, gy7, rfl, Fw4_0, ⟨(pv_1 (A := (fun x => w.heap.size ≤ x)) Fw4_1 (.inr tk0))⟩, X32⟩
 replace hm := iT c2 hm
 refine qu<|sw_seq<|sw_block<|qs 5 rfl<|qm rfl ?_
 obtain ⟨y10, hy10, hm⟩ := bnd hm
 have B16 := (B10.kz K4 (tk2 ((pv_sw (.inr (tk1 lt1.o))) : zp2 = 0 ∨ 1 = 0 ∨ gp2 ≠ gw2) (pb_lt (b := b3) lt1)))
 refine qv rfl (vv_ixT (i := a8) Tryz.underlying32 (one_5).siz rfl B16 rfl hy10)<|qv rfl (vv_el1T (q := 0) (u := bv y10) one_5 rfl B16 hy10 (by first | rfl | omega) rfl)<|qm rfl<|qm rfl<|sd_done ?_
 have X17 := (X11.kz K4 (tk1 ((.inr tk0) : 1 = 0 ∨ w.heap.size ≤ gw2)))
 refine qj (β := W2) (rg 25 10) (fun a11 => []) (fun a11 wr => (cipher_Stream_J2 a6 a8 rec1 y10 a11 = some r) ∧ Bx wr b3 23 (kb a11) ∧ Kz [(1, b3)] w4 wr) ?_ ?_
 · refine qs 3 rfl<|qm rfl ?_
   obtain ⟨x15, hx15, hm⟩ := bnd hm
   refine qv rfl (vv_remI (a := a8) (b := 16) rfl rfl hx15)<|qv rfl (vv_eql (a := x15) (b := 0) rfl rfl)<|sd_done<|cnF rfl (fun c3 => ?_) (fun c3 => ?_)
   · replace hm := iF c3 hm
     refine sw_skip ?_
     exact ⟨rfl, a9, sbq, hm, Fw4_2, (Kz.refl _ _)⟩
   replace hm := iT c3 hm
   refine dw [([b3])] [] (.leaf [(0,10),(1,10),(2,10),(3,10),(4,10),(5,0),(6,0),(7,0)]) ?_
   intro w7 G7 zw7
   refine sdz_leaf ?_
   have B25 := ((((Bw1.gr G2).gr G3).kz K4 (tk1 ((.inr tk0) : 1 = 0 ∨ gw2 ≠ b1))).gr G7)
   refine dh 0 rfl rfl (fun w hS => vv_loadW agg_23 rfl (Bx.kp B25 hS) rfl)<|dm 0 rfl rfl ?_
   obtain ⟨x16, hx16, hm⟩ := bnd hm
   refine dh 0 rfl rfl (fun w hS => vv_quoI (a := a8) (b := 16) rfl rfl hx16)<|dh 0 rfl rfl (fun w hS => vv_cvIU cv_3_24 rfl)<|dm 0 rfl rfl ?_
   obtain ⟨x17, hx17, hm⟩ := bnd hm
   refine qz [] rfl (eC en_108 rfl (cipher_blockOf_w hx17)) ⟨fun _ => tk0, trivial⟩ ?_
   rintro _ w8 ⟨rfl, G8⟩
   have z26 := G8.size
   refine kG G8<|qz [] rfl (eC en_107 rfl (encr_c p0 x17 _)) ⟨fun _ => tk0, trivial⟩ ?_
   rintro _ w9 ⟨rfl, G9⟩
   have z27 := G9.size
   refine kG G9 ?_
   have B28 := (((Fw4_2.gr G7).gr G8).gr G9)
   refine qz [(1, b3)] rfl (ev_stW agg_23 rfl rfl rfl B28 rfl rfl) ⟨fun _ => tk0, trivial⟩ ?_
   rintro _ w10 ⟨Bw10, M10⟩
   have z29 := M10.size
   refine kM M10<|sd_nil ?_
   exact ⟨rfl, (encr p0 x17), sbq, hm, Bw10, ((((Kz.gr (Kz.refl _ _) G7).gr G8).gr G9).md M10)⟩
 clear hm; rintro a11 w5 ⟨hm, Fw5_0, K5⟩
 have z18 := K5.size
 have lt19 := Fw5_0.lt
 unfold cipher_Stream_J2 at hm
 refine qg 10 rfl<|qm rfl<|qm rfl<|qm rfl<|qm rfl ?_
 obtain ⟨x12, hx12, hm⟩ := bnd hm
 refine qv rfl (vv_remI (a := a8) (b := 16) rfl rfl hx12) ?_
 obtain ⟨y13, hy13, hm⟩ := bnd hm
 refine qv rfl (vv_ixK (i := x12) (p := a11) Tryz.underlying23 (one_5).siz rfl rfl hy13)<|qv rfl (vv_ldK (off := 0) (p := a11) (i := x12) one_5 rfl Fw5_0 rfl hy13 (by omega))<|qv rfl (vv_xorB (a := y10) (b := y13) rfl rfl) ?_
 obtain ⟨y14, hy14, hm⟩ := bnd hm
 have B20 := (Fw4_0.kz K5 (tk1 (pb_1 (b := b3) Fw4_1 (pb_lt lt7))))
 refine qv rfl (vv_ixT (i := a8) Tryz.underlying32 (one_5).siz rfl (Own.rd B20) rfl hy14) ?_
 have zo21 := Own.z1 B20 hy14
 refine qe rfl (ev_stEl (i := a8) (q := 0) (a' := y10 ^^^ y13) (vs := [bv (y10 ^^^ y13)]) (c := bvc) (one_5).siz rfl rfl rfl rfl rfl B20 hy14 (by first | rfl | omega) rfl rfl ⟨rfl, rfl⟩) ?_
 rintro _ w6 ⟨Ow6, M6⟩
 have z22 := M6.size
 refine sd_nil<|block_n<|then_n<|qg 2 rfl<|qv rfl (vv_add (k := .i64) (a := a8) (b := 1) rfl rfl)<|qm rfl<|sd_nil ?_
 have K_23 : Kz [(1, b3), (1, gw2)] w3 w6 := ((K4.kz K5).md M6 (tk1 (pv_1 (A := (fun x => (x = gw2 ∧ 1 ≠ 0) ∨ w3.heap.size ≤ x)) Fw4_1 tk0)))
 have B24 := (Fw5_0.md M6 (tk1 (pb_1 (b := b3) Fw4_1 (pb_lt lt7))))
 subst hrec1
 exact ⟨rfl, ⟨n1, a6.set a8.toNat (y10 ^^^ y13), w64 (a8 + 1), a11, vy7, zy7, gy7⟩, sbq, ⟨hm, Ow6, ⟨(pv_1 (A := (fun x => (x = gw2 ∧ 1 ≠ 0) ∨ w3.heap.size ≤ x)) Fw4_1 tk0)⟩, B24, K_23⟩, Nat.lt_succ_self _⟩
theorem epoch_Content_w {p0 p1 p2 p3 p4 vp4 zp4 gp4 op4 r} (hm : epoch_Content p0 p1 p2 p3 p4 = some r) {w : World} (hp4 : Rd w zp4 gp4 op4 1 vp4 (p4.map bvc)) :
    Calls Tryz.prog 10 [kv p0, .agg (TAir.cs p1).toArray, .int .i64 p2, wv p3, vp4].toArray w fun e w' => ∃ v, e = .returned v ∧ (∃ ur0_2 zr0_2 gr0_2 ur0_4 zr0_4 gr0_4 ur0_39 zr0_39 gr0_39, v = .tuple [.agg (TPacket.cs r.1 ur0_2 ur0_4 ur0_39).toArray, .int .i64 r.2].toArray ∧ Own w' zr0_2 gr0_2 173 18 ur0_2 (r.1.Head.Items.map TItem.cs) ∧ Hdn (zr0_2 = 0 ∨ w.heap.size ≤ gr0_2) ∧ Own w' zr0_4 gr0_4 50 2 ur0_4 (r.1.Head.Points.map TPoint.cs) ∧ Hdn (zr0_4 = 0 ∨ w.heap.size ≤ gr0_4) ∧ Own w' zr0_39 gr0_39 5 1 ur0_39 (r.1.Data.map bvc) ∧ Hdn (zr0_39 = 0 ∨ w.heap.size ≤ gr0_39) ∧ Hdn (zr0_4 = 0 ∨ zr0_2 = 0 ∨ gr0_4 ≠ gr0_2) ∧ Hdn (zr0_39 = 0 ∨ zr0_2 = 0 ∨ gr0_39 ≠ gr0_2) ∧ Hdn (zr0_39 = 0 ∨ zr0_4 = 0 ∨ gr0_39 ≠ gr0_4) ∧ Gr w w') := by
 have lt1 := hp4.lth
 unfold epoch_Content at hm
 refine calls_of_sw 65 Tryz.func10 rfl rfl rfl<|qs 4 rfl<|qe rfl (ev_box (cs := kb p0) rfl rfl) ?_
 rintro _ w1 ⟨b1, rfl, hbw1, Bw1, G1⟩
 have z2 := G1.size
 have lt3 := Bw1.lt
 refine qe rfl (ev_box (cs := TAir.cs p1) rfl rfl) ?_
 rintro _ w2 ⟨b2, rfl, hbw2, Bw2, G2⟩
 have z4 := G2.size
 have lt5 := Bw2.lt
 refine qe rfl (ev_alloc (cs := TPacket.cs (TPacket.mk 0#8 0 (THeader.mk [] 0#64 [] k0 k0) 0#8 0#64 [] k0) (.slice none 0 0) (.slice none 0 0) (.slice none 0 0)) zv_38 rfl) ?_
 rintro _ w3 ⟨b3, rfl, hbw3, Bw3, G3⟩
 have z6 := G3.size
 have lt7 := Bw3.lt
 refine qm rfl<|qd 8 rfl ?_
 have B8 := (Bw2.gr G3)
 refine qv rfl (vv_loadW agg_30 rfl B8 rfl)<|qm rfl ?_
 obtain ⟨x1, hx1, hm⟩ := bnd hm
 refine qe rfl (eC en_48 rfl (epoch_PeriodOf_w hx1)) ?_
 rintro _ w4 ⟨rfl, G4⟩
 have z9 := G4.size
 refine qm rfl<|qm rfl<|qm rfl<|qm rfl<|qm rfl<|sd_done<|sw_seq ?_
 refine qs 2 rfl<|qm rfl<|qv rfl (vv_neq (a := x1.2) (b := 0) rfl rfl)<|sd_done<|sw_cond rfl (fun c1 => ?_) (fun c1 => ?_)
 · replace hm := iT c1 hm
   refine qs 4 rfl<|qv rfl (vv_build (cs := TPacket.cs (TPacket.mk 0#8 0 (THeader.mk [] 0#64 [] k0 k0) 0#8 0#64 [] k0) (.slice none 0 0) (.slice none 0 0) (.slice none 0 0)) bs_38 rfl (by kernel_rfl))<|qm rfl ?_
   have B10 := (Bw3.gr G4)
   refine qe rfl (ev_stW agg_38 rfl rfl (TPacket.cs_ones _ _ _ _ rfl rfl rfl) B10 rfl rfl) ?_
   rintro _ w5 ⟨Bw5, M5⟩
   have z11 := M5.size
   refine qm rfl<|qb ?_
   have Y1 := Gr.trans (Gr.trans (Gr.trans G1 G2) G3) G4
   have X12 := (((Gr.refl w).trans Y1).md M5)
   cases hm
   refine ⟨_, _, rfl, res_2 rfl (rv_cellW agg_38 rfl Bw5 rfl) (rv_tmp rfl), ?_⟩
   exact ⟨(.slice none 0 0), 0, 0, (.slice none 0 0), 0, 0, (.slice none 0 0), 0, 0, rfl, (own_nil _ 0 173 18), ⟨.inl rfl⟩, (own_nil _ 0 50 2), ⟨.inl rfl⟩, (own_nil _ 0 5 1), ⟨.inl rfl⟩, ⟨(.inl rfl)⟩, ⟨(.inl rfl)⟩, ⟨(.inl rfl)⟩, X12⟩
 replace hm := iF c1 hm
 refine qu<|sw_seq<|qs 3 rfl<|qm rfl ?_
 have Y2 := Gr.trans (Gr.trans (Gr.trans G1 G2) G3) G4
 have B13 := (hp4.gr Y2)
 refine qv rfl (vv_lenT (l := p4) (c := bvc) Tryz.underlying32 rfl B13)<|qv rfl (vv_gtr (a := (p4.length : Int)) (b := 256) rfl rfl)<|sd_done<|sw_cond rfl (fun c2 => ?_) (fun c2 => ?_)
 · replace hm := iT c2 hm
   refine qs 3 rfl<|qv rfl (vv_build (cs := TPacket.cs (TPacket.mk 0#8 0 (THeader.mk [] 0#64 [] k0 k0) 0#8 0#64 [] k0) (.slice none 0 0) (.slice none 0 0) (.slice none 0 0)) bs_38 rfl (by kernel_rfl)) ?_
   have B14 := (Bw3.gr G4)
   refine qe rfl (ev_stW agg_38 rfl rfl (TPacket.cs_ones _ _ _ _ rfl rfl rfl) B14 rfl rfl) ?_
   rintro _ w6 ⟨Bw6, M6⟩
   have z15 := M6.size
   refine qm rfl<|qb ?_
   have X16 := (((Gr.refl w).trans Y2).md M6)
   cases hm
   refine ⟨_, _, rfl, res_2 rfl (rv_cellW agg_38 rfl Bw6 rfl) (rv_tmp rfl), ?_⟩
   exact ⟨(.slice none 0 0), 0, 0, (.slice none 0 0), 0, 0, (.slice none 0 0), 0, 0, rfl, (own_nil _ 0 173 18), ⟨.inl rfl⟩, (own_nil _ 0 50 2), ⟨.inl rfl⟩, (own_nil _ 0 5 1), ⟨.inl rfl⟩, ⟨(.inl rfl)⟩, ⟨(.inl rfl)⟩, ⟨(.inl rfl)⟩, X16⟩
 replace hm := iF c2 hm
 refine qu ?_
 have X17 := ((Gr.refl w).trans Y2)
 refine qj (β := W2 × Nat) ([14] ++ rg 30 8) (fun ⟨a3, bq2⟩ => [(14, .pointer (some ⟨bq2, 0, none⟩))]) (fun ⟨a3, bq2⟩ wr => (epoch_Content_J1 p3 p4 x1 a3 = some r) ∧ Bx wr bq2 23 (kb a3) ∧ w4.heap.size ≤ bq2 ∧ Kz [] w4 wr) ?_ ?_
 · refine dw [([])] [] (.fork [(0,10),(1,10),(2,10),(3,10),(4,10),(6,10)] (.fork [(5,0)] (.leaf [(7,0),(8,0),(9,0)]) (.leaf [(8,0),(7,0),(9,0)])) (.leaf [(8,0),(5,0),(7,0),(9,0)])) ?_
   intro w18 G18 zw18
   refine sdz_fork ?_
   have B47 := ((((Bw1.gr G2).gr G3).gr G4).gr G18)
   refine dh 0 rfl rfl (fun w hS => vv_loadW agg_23 rfl (Bx.kp B47 hS) rfl)<|dm 0 rfl rfl<|dh 0 rfl rfl (fun w hS => vv_fieldAddr fa_30_0 rfl) ?_
   have B48 := ((B8.gr G4).gr G18)
   refine dh 0 rfl rfl (fun w hS => vv_load1 (v := .int .i64 p1.Epoch) one_3 rfl (Bx.kp B48 hS) rfl) ?_
   obtain ⟨x8, hx8, hm⟩ := bnd hm
   refine dh 0 rfl rfl (fun w hS => vv_quoI (a := p2) (b := p1.Epoch) rfl rfl hx8)<|dm 0 rfl rfl<|sd_fork ?_ ?_
   · refine sdz_fork ?_
     obtain ⟨x9, hx9, hm⟩ := bnd hm
     refine qz [] rfl (eC en_38 rfl (epoch_Session_w hx9)) ⟨fun _ => tk0, trivial⟩ ?_
     rintro _ w19 ⟨rfl, G19⟩
     have z49 := G19.size
     refine kG G19<|sd_fork ?_ ?_
     · refine sdz_leaf ?_
       obtain ⟨x10, hx10, hm⟩ := bnd hm
       refine qz [] rfl (eC en_49 rfl (epoch_Word_w hx10)) ⟨fun _ => tk0, trivial⟩ ?_
       rintro _ w20 ⟨rfl, G20⟩
       have z50 := G20.size
       refine kG G20<|qz [] rfl (ev_alloc (cs := kb k0) zv_23 rfl) ⟨fun _ => tk0, trivial⟩ ?_
       rintro _ w21 ⟨b21, rfl, hbw21, Bw21, G21⟩
       have z51 := G21.size
       have lt52 := Bw21.lt
       refine kG G21<|qz [(1, b21)] rfl (ev_stW agg_23 rfl rfl rfl Bw21 rfl rfl) ⟨fun _ => tk0, trivial⟩ ?_
       rintro _ w22 ⟨Bw22, M22⟩
       have z53 := M22.size
       refine kM M22<|sd_nil ?_
       exact ⟨rfl, ⟨x10, b21⟩, sbq, hm, Bw22, (by omega), (((((kz0.gr G18).gr G19).gr G20).gr G21).md M22)⟩
     refine sdz_leaf<|qz [] rfl (ev_alloc (cs := kb k0) zv_23 rfl) ⟨fun _ => tk0, trivial⟩ ?_
     rintro _ w23 ⟨b23, rfl, hbw23, Bw23, G23⟩
     have z55 := G23.size
     have lt56 := Bw23.lt
     refine kG G23 ?_
     obtain ⟨x11, hx11, hm⟩ := bnd hm
     refine qz [] rfl (eC en_49 rfl (epoch_Word_w hx11)) ⟨fun _ => tk0, trivial⟩ ?_
     rintro _ w24 ⟨rfl, G24⟩
     have z57 := G24.size
     refine kG G24 ?_
     have B58 := (Bw23.gr G24)
     refine qz [(1, b23)] rfl (ev_stW agg_23 rfl rfl rfl B58 rfl rfl) ⟨fun _ => tk0, trivial⟩ ?_
     rintro _ w25 ⟨Bw25, M25⟩
     have z59 := M25.size
     refine kM M25<|sd_nil ?_
     exact ⟨rfl, ⟨x11, b23⟩, sbq, hm, Bw25, (by omega), (((((kz0.gr G18).gr G19).gr G23).gr G24).md M25)⟩
   refine sdz_leaf<|qz [] rfl (ev_alloc (cs := kb k0) zv_23 rfl) ⟨fun _ => tk0, trivial⟩ ?_
   rintro _ w26 ⟨b26, rfl, hbw26, Bw26, G26⟩
   have z61 := G26.size
   have lt62 := Bw26.lt
   refine kG G26 ?_
   obtain ⟨x12, hx12, hm⟩ := bnd hm
   refine qz [] rfl (eC en_38 rfl (epoch_Session_w hx12)) ⟨fun _ => tk0, trivial⟩ ?_
   rintro _ w27 ⟨rfl, G27⟩
   have z63 := G27.size
   refine kG G27 ?_
   obtain ⟨x13, hx13, hm⟩ := bnd hm
   refine qz [] rfl (eC en_49 rfl (epoch_Word_w hx13)) ⟨fun _ => tk0, trivial⟩ ?_
   rintro _ w28 ⟨rfl, G28⟩
   have z64 := G28.size
   refine kG G28 ?_
   have B65 := ((Bw26.gr G27).gr G28)
   refine qz [(1, b26)] rfl (ev_stW agg_23 rfl rfl rfl B65 rfl rfl) ⟨fun _ => tk0, trivial⟩ ?_
   rintro _ w29 ⟨Bw29, M29⟩
   have z66 := M29.size
   refine kM M29<|sd_nil ?_
   exact ⟨rfl, ⟨x13, b26⟩, sbq, hm, Bw29, (by omega), (((((kz0.gr G18).gr G26).gr G27).gr G28).md M29)⟩
 clear hm; rintro ⟨a3, bq2⟩ w7 ⟨hm, Fw7_0, Fw7_1, K7⟩
 have z18 := K7.size
 have lt19 := Fw7_0.lt
 unfold epoch_Content_J1 at hm
 refine qs 7 rfl<|qm rfl ?_
 obtain ⟨x4, hx4, hm⟩ := bnd hm
 refine qv rfl (vv_remI (a := x1.1) (b := 4) rfl rfl hx4)<|qv rfl (vv_cvIB cv_3_5 rfl)<|qm rfl<|qv rfl (vv_build (cs := TPacket.cs (TPacket.mk 2#8 0 (THeader.mk [] 0#64 [] k0 k0) (wd8 x4) p3 [] k0) (.slice none 0 0) (.slice none 0 0) (.slice none 0 0)) bs_38 rfl (by kernel_rfl))<|qe rfl (ev_alloc (cs := TPacket.cs (TPacket.mk 0#8 0 (THeader.mk [] 0#64 [] k0 k0) 0#8 0#64 [] k0) (.slice none 0 0) (.slice none 0 0) (.slice none 0 0)) zv_38 rfl) ?_
 rintro _ w8 ⟨b8, rfl, hbw8, Bw8, G8⟩
 have z20 := G8.size
 have lt21 := Bw8.lt
 refine qe rfl (ev_stW agg_38 rfl rfl (TPacket.cs_ones _ _ _ _ rfl rfl rfl) Bw8 rfl rfl) ?_
 rintro _ w9 ⟨Bw9, M9⟩
 have z22 := M9.size
 refine sd_done<|sw_seq<|qs 10 rfl ?_
 have B23 := ((Fw7_0.gr G8).md M9)
 refine qv rfl (vv_loadW agg_23 rfl B23 rfl)<|qm rfl<|qm rfl ?_
 have B24 := (((B13.kz K7).gr G8).md M9 (pb_lt lt1))
 obtain ⟨x5, hx5, hm⟩ := bnd hm
 refine qe rfl (eC en_50 rfl (cipher_Stream_w hx5 B24)) ?_
 rintro _ w10 ⟨u10_r0_s, z10_r0_s, g10_r0_s, rfl, O10_r0_s, f10_r0_s, G10⟩
 have z25 := G10.size
 have lt26 := O10_r0_s.lth
 refine qm rfl<|qm rfl<|qm rfl<|qv rfl (vv_fieldAddr fa_38_5 rfl) ?_
 have B27 := (Bw9.gr G10)
 refine qe rfl (ev_st1 (cs' := TPacket.cs (TPacket.mk 2#8 0 (THeader.mk [] 0#64 [] k0 k0) (wd8 x4) p3 x5.1 k0) (.slice none 0 0) (.slice none 0 0) u10_r0_s) (one_32).siz rfl rfl (Own.oneB O10_r0_s) B27 rfl rfl) ?_
 rintro _ w11 ⟨Bw11, M11⟩
 have z28 := M11.size
 refine qm rfl<|qd 2 rfl<|qm rfl<|qv rfl (vv_neq (a := x5.2) (b := 0) rfl rfl)<|sd_done ?_
 refine sw_cond rfl (fun c3 => ?_) (fun c3 => ?_)
 · replace hm := iT c3 hm
   refine qs 4 rfl<|qv rfl (vv_build (cs := TPacket.cs (TPacket.mk 0#8 0 (THeader.mk [] 0#64 [] k0 k0) 0#8 0#64 [] k0) (.slice none 0 0) (.slice none 0 0) (.slice none 0 0)) bs_38 rfl (by kernel_rfl))<|qm rfl ?_
   have B29 := ((((((Bw3.gr G4).kz K7).gr G8).md M9).gr G10).md M11)
   refine qe rfl (ev_stW agg_38 rfl rfl (TPacket.cs_ones _ _ _ _ rfl rfl rfl) B29 rfl rfl) ?_
   rintro _ w12 ⟨Bw12, M12⟩
   have z30 := M12.size
   refine qm rfl<|qb ?_
   have X31 := ((((((X17.kz K7).trans G8).md M9).trans G10).md M11).md M12)
   cases hm
   refine ⟨_, _, rfl, res_2 rfl (rv_cellW agg_38 rfl Bw12 rfl) (rv_tmp rfl), ?_⟩
   exact ⟨(.slice none 0 0), 0, 0, (.slice none 0 0), 0, 0, (.slice none 0 0), 0, 0, rfl, (own_nil _ 0 173 18), ⟨.inl rfl⟩, (own_nil _ 0 50 2), ⟨.inl rfl⟩, (own_nil _ 0 5 1), ⟨.inl rfl⟩, ⟨(.inl rfl)⟩, ⟨(.inl rfl)⟩, ⟨(.inl rfl)⟩, X31⟩
 replace hm := iF c3 hm
 refine qu<|sw_seq<|dw [([b8]),([])] [(8, [1])] (.leaf [(0,10),(1,11),(2,0),(3,0),(4,10),(5,10),(6,10),(7,10),(8,0),(9,10)]) ?_
 intro w13 G13 zw13
 refine sdz_leaf ?_
 have B32 := (((B23.gr G10).md M11).gr G13)
 refine dh 0 rfl rfl (fun w hS => vv_loadW agg_23 rfl (Bx.kp B32 hS) rfl) ?_
 have B33 := (Bw11.gr G13)
 refine dh 1 rfl rfl (fun w hS => vv_loadW agg_38 rfl (Bx.kp B33 hS) rfl) ?_
 have B34 := ((O10_r0_s.md M11 (pb_0 f10_r0_s)).gr G13)
 obtain ⟨x6, hx6, hm⟩ := bnd hm
 refine qz [] rfl (eC en_52 rfl (epoch_body_w hx6 (Own.rd (own_nil _ 0 173 18)) (Own.rd (own_nil _ 0 50 2)) (Own.rd B34))) ⟨fun _ => tk0, fun _ => tk0, trivial⟩ ?_
 rintro u14_r0_s w14 ⟨_, z14_r0_s, g14_r0_s, rfl, O14_r0_s, f14_r0_s, G14⟩
 have z35 := G14.size
 have lt36 := O14_r0_s.lth
 refine kG G14 ?_
 obtain ⟨x7, hx7, hm⟩ := bnd hm
 refine qz [] rfl (eC en_51 rfl (cipher_Mac_w hx7 (Own.rd O14_r0_s))) ⟨fun _ => tk0, fun _ => tk0, trivial⟩ ?_
 rintro _ w15 ⟨rfl, G15⟩
 have z37 := G15.size
 refine kG G15 ?_
 have Y3 := Gr.trans G14 G15
 have S38 := ((Kp.refl ([b8]) w13).gr Y3)
 refine dn 0 rfl rfl S38<|dn 0 rfl rfl S38<|dn 0 rfl rfl S38<|qh 0 rfl rfl S38 (fun w hS => vv_fieldAddr fa_38_6 rfl) ?_
 have B39 := (B33.gr Y3)
 refine qz [(1, b8)] rfl (ev_stM (cs' := TPacket.cs (TPacket.mk 2#8 0 (THeader.mk [] 0#64 [] k0 k0) (wd8 x4) p3 x5.1 x7.1) (.slice none 0 0) (.slice none 0 0) u10_r0_s) (vs := kb x7.1) (agg_23).siz rfl rfl rfl rfl rfl B39 rfl rfl) ⟨fun _ => tk0, nofun, trivial⟩ ?_
 rintro _ w16 ⟨Bw16, M16⟩
 have z40 := M16.size
 refine kM M16 ?_
 have S41 := (S38.md M16)
 refine dn 0 rfl rfl S41<|qd 4 rfl<|qv rfl (vv_loadW agg_38 rfl Bw16 rfl)<|qm rfl ?_
 have B42 := (((((((((Bw3.gr G4).kz K7).gr G8).md M9).gr G10).md M11).gr G13).gr Y3).md M16)
 have B43 := ((B34.gr Y3).md M16 (pb_0 f10_r0_s))
 refine qe rfl (ev_stW agg_38 rfl rfl (TPacket.cs_ones _ _ _ _ rfl rfl (Own.oneB B43)) B42 rfl rfl) ?_
 rintro _ w17 ⟨Bw17, M17⟩
 have z44 := M17.size
 refine qm rfl<|sd_done<|sw_ret ?_
 have B45 := (B43.md M17 (pb_0 f10_r0_s))
 have X46 := (((((((((X17.kz K7).trans G8).md M9).trans G10).md M11).trans G13).trans Y3).md M16).md M17)
 cases hm
 refine ⟨_, _, rfl, res_2 rfl (rv_cellW agg_38 rfl Bw17 rfl) (rv_tmp rfl), ?_⟩
 exact ⟨(.slice none 0 0), 0, 0, (.slice none 0 0), 0, 0, u10_r0_s, z10_r0_s, g10_r0_s, rfl, (own_nil _ 0 173 18), ⟨.inl rfl⟩, (own_nil _ 0 50 2), ⟨.inl rfl⟩, B45, ⟨(pv_0 (A := (fun x => w.heap.size ≤ x)) f10_r0_s)⟩, ⟨(.inl rfl)⟩, ⟨(.inr (.inl rfl))⟩, ⟨(.inr (.inl rfl))⟩, X46⟩
theorem ref05_ValidAir_w {p0 r} (hm : ref05_ValidAir p0 = some r) {w : World} :
    Calls Tryz.prog 114 [.agg (TAir.cs p0).toArray].toArray w fun e w' => ∃ v, e = .returned v ∧ (v = .bool r ∧ Gr w w') := by
 unfold ref05_ValidAir at hm
 refine calls_of_sw 84 Tryz.func114 rfl rfl rfl<|qs 2 rfl<|qe rfl (ev_box (cs := TAir.cs p0) rfl rfl) ?_
 rintro _ w1 ⟨b1, rfl, hbw1, Bw1, G1⟩
 have z1 := G1.size
 have lt2 := Bw1.lt
 refine qm rfl<|sd_done<|sw_seq ?_
 have X3 := ((Gr.refl w).trans G1)
 refine qj (β := Bool) (rg 3 31) (fun a1 => [(33, .bool a1)]) (fun a1 wr => (ref05_ValidAir_J1 p0 a1 = some r) ∧ Kz [] w1 wr) ?_ ?_
 · refine qg 31 rfl<|qv rfl (vv_fieldAddr fa_30_1 rfl)<|qv rfl (vv_load1 (v := .int .i64 p0.Word) one_3 rfl Bw1 rfl)<|qv rfl (vv_lss (a := p0.Word) (b := 1) rfl rfl)<|qp rfl (vv_move rfl) (fun c9 => ?_) (fun c9 => ?_)
   · replace hm := iT c9 hm
     refine qk rfl<|qk rfl<|qk rfl<|qm rfl<|qm rfl<|qk rfl<|qk rfl ?_
     refine qk rfl<|qk rfl<|qk rfl<|qm rfl<|qm rfl<|qk rfl<|qk rfl ?_
     refine qk rfl<|qk rfl<|qk rfl<|qk rfl<|qm rfl<|qm rfl<|qk rfl ?_
     refine qk rfl<|qk rfl<|qk rfl<|qk rfl<|qk rfl<|qm rfl<|sd_nil ?_
     exact ⟨rfl, true, sbq, hm, kz0⟩
   replace hm := iF c9 hm
   refine qv rfl (vv_fieldAddr fa_30_1 rfl)<|qv rfl (vv_load1 (v := .int .i64 p0.Word) one_3 rfl Bw1 rfl)<|qv rfl (vv_gtr (a := p0.Word) (b := 1000) rfl rfl)<|qm rfl<|qp rfl (vv_move rfl) (fun c10 => ?_) (fun c10 => ?_)
   · replace hm := iT c10 hm
     refine qk rfl<|qk rfl<|qk rfl<|qk rfl<|qk rfl<|qm rfl<|qm rfl ?_
     refine qk rfl<|qk rfl<|qk rfl<|qk rfl<|qk rfl<|qk rfl<|qm rfl ?_
     refine qm rfl<|qk rfl<|qk rfl<|qk rfl<|qk rfl<|qk rfl<|qk rfl ?_
     refine qm rfl<|sd_nil ?_
     exact ⟨rfl, true, sbq, hm, kz0⟩
   replace hm := iF c10 hm
   refine qv rfl (vv_fieldAddr fa_30_0 rfl)<|qv rfl (vv_load1 (v := .int .i64 p0.Epoch) one_3 rfl Bw1 rfl)<|qv rfl (vv_fieldAddr fa_30_1 rfl)<|qv rfl (vv_load1 (v := .int .i64 p0.Word) one_3 rfl Bw1 rfl)<|qv rfl (vv_lss (a := p0.Epoch) (b := p0.Word) rfl rfl)<|qm rfl<|qp rfl (vv_move rfl) (fun c11 => ?_) (fun c11 => ?_)
   · replace hm := iT c11 hm
     refine qk rfl<|qk rfl<|qk rfl<|qk rfl<|qk rfl<|qk rfl<|qm rfl ?_
     refine qm rfl<|qk rfl<|qk rfl<|qk rfl<|qk rfl<|qk rfl<|qk rfl ?_
     refine qm rfl<|sd_nil ?_
     exact ⟨rfl, true, sbq, hm, kz0⟩
   replace hm := iF c11 hm
   refine qv rfl (vv_fieldAddr fa_30_0 rfl)<|qv rfl (vv_load1 (v := .int .i64 p0.Epoch) one_3 rfl Bw1 rfl)<|qv rfl (vv_fieldAddr fa_30_1 rfl)<|qv rfl (vv_load1 (v := .int .i64 p0.Word) one_3 rfl Bw1 rfl)<|qv rfl (vv_mul (k := .i64) (a := 1000) (b := p0.Word) rfl rfl)<|qv rfl (vv_gtr (a := p0.Epoch) (b := w64 (1000 * p0.Word)) rfl rfl)<|qm rfl ?_
   refine qp rfl (vv_move rfl) (fun c12 => ?_) (fun c12 => ?_)
   · replace hm := iT c12 hm
     refine qk rfl<|qk rfl<|qk rfl<|qk rfl<|qk rfl<|qk rfl<|qm rfl ?_
     refine sd_nil ?_
     exact ⟨rfl, true, sbq, hm, kz0⟩
   replace hm := iF c12 hm
   refine qv rfl (vv_fieldAddr fa_30_0 rfl)<|qv rfl (vv_load1 (v := .int .i64 p0.Epoch) one_3 rfl Bw1 rfl)<|qv rfl (vv_fieldAddr fa_30_1 rfl)<|qv rfl (vv_load1 (v := .int .i64 p0.Word) one_3 rfl Bw1 rfl) ?_
   obtain ⟨x3, hx3, hm⟩ := bnd hm
   refine qv rfl (vv_remI (a := p0.Epoch) (b := p0.Word) rfl rfl hx3)<|qv rfl (vv_neq (a := x3) (b := 0) rfl rfl)<|qm rfl<|sd_nil ?_
   exact ⟨rfl, (decide (x3 ≠ 0)), sbq, hm, kz0⟩
 clear hm; rintro a1 w2 ⟨hm, K2⟩
 have z4 := K2.size
 unfold ref05_ValidAir_J1 at hm
 refine sw_cond rfl (fun c1 => ?_) (fun c1 => ?_)
 · replace hm := cnd_t c1 hm
   refine qs 1 rfl<|qm rfl<|qb ?_
   have X5 := (X3.kz K2)
   cases hm
   refine ⟨_, _, rfl, res_1 rfl (rv_tmp rfl), ?_⟩
   exact ⟨rfl, X5⟩
 replace hm := cnd_f c1 hm
 refine qu<|sw_seq ?_
 have X6 := (X3.kz K2)
 refine qj (β := Bool) (rg 34 30) (fun a2 => [(63, .bool a2)]) (fun a2 wr => (ref05_ValidAir_J2 p0 a2 = some r) ∧ Kz [] w2 wr) ?_ ?_
 · refine qg 30 rfl<|qv rfl (vv_fieldAddr fa_30_2 rfl) ?_
   have B12 := (Bw1.kz K2)
   refine qv rfl (vv_load1 (v := .int .i64 p0.Early) one_3 rfl B12 rfl)<|qv rfl (vv_lss (a := p0.Early) (b := 0) rfl rfl)<|qp rfl (vv_move rfl) (fun c4 => ?_) (fun c4 => ?_)
   · replace hm := iT c4 hm
     refine qk rfl<|qk rfl<|qk rfl<|qm rfl<|qm rfl<|qk rfl<|qk rfl ?_
     refine qk rfl<|qm rfl<|qm rfl<|qk rfl<|qk rfl<|qk rfl<|qk rfl ?_
     refine qk rfl<|qm rfl<|qm rfl<|qk rfl<|qk rfl<|qk rfl<|qm rfl ?_
     refine qm rfl<|qk rfl<|qk rfl<|qk rfl<|qm rfl<|sd_nil ?_
     exact ⟨rfl, true, sbq, hm, kz0⟩
   replace hm := iF c4 hm
   refine qv rfl (vv_fieldAddr fa_30_3 rfl)<|qv rfl (vv_load1 (v := .int .i64 p0.Drift) one_3 rfl B12 rfl)<|qv rfl (vv_lss (a := p0.Drift) (b := 0) rfl rfl)<|qm rfl<|qp rfl (vv_move rfl) (fun c5 => ?_) (fun c5 => ?_)
   · replace hm := iT c5 hm
     refine qk rfl<|qk rfl<|qk rfl<|qm rfl<|qm rfl<|qk rfl<|qk rfl ?_
     refine qk rfl<|qk rfl<|qk rfl<|qm rfl<|qm rfl<|qk rfl<|qk rfl ?_
     refine qk rfl<|qm rfl<|qm rfl<|qk rfl<|qk rfl<|qk rfl<|qm rfl ?_
     refine sd_nil ?_
     exact ⟨rfl, true, sbq, hm, kz0⟩
   replace hm := iF c5 hm
   refine qv rfl (vv_fieldAddr fa_30_4 rfl)<|qv rfl (vv_load1 (v := .int .i64 p0.Delay) one_3 rfl B12 rfl)<|qv rfl (vv_lss (a := p0.Delay) (b := 0) rfl rfl)<|qm rfl<|qp rfl (vv_move rfl) (fun c6 => ?_) (fun c6 => ?_)
   · replace hm := iT c6 hm
     refine qk rfl<|qk rfl<|qk rfl<|qk rfl<|qk rfl<|qm rfl<|qm rfl ?_
     refine qk rfl<|qk rfl<|qk rfl<|qm rfl<|qm rfl<|qk rfl<|qk rfl ?_
     refine qk rfl<|qm rfl<|sd_nil ?_
     exact ⟨rfl, true, sbq, hm, kz0⟩
   replace hm := iF c6 hm
   refine qv rfl (vv_fieldAddr fa_30_2 rfl)<|qv rfl (vv_load1 (v := .int .i64 p0.Early) one_3 rfl B12 rfl)<|qv rfl (vv_fieldAddr fa_30_0 rfl)<|qv rfl (vv_load1 (v := .int .i64 p0.Epoch) one_3 rfl B12 rfl)<|qv rfl (vv_gtr (a := p0.Early) (b := p0.Epoch) rfl rfl)<|qm rfl<|qp rfl (vv_move rfl) (fun c7 => ?_) (fun c7 => ?_)
   · replace hm := iT c7 hm
     refine qk rfl<|qk rfl<|qk rfl<|qm rfl<|qm rfl<|qk rfl<|qk rfl ?_
     refine qk rfl<|qm rfl<|sd_nil ?_
     exact ⟨rfl, true, sbq, hm, kz0⟩
   replace hm := iF c7 hm
   refine qv rfl (vv_fieldAddr fa_30_3 rfl)<|qv rfl (vv_load1 (v := .int .i64 p0.Drift) one_3 rfl B12 rfl)<|qv rfl (vv_gtr (a := p0.Drift) (b := 3000) rfl rfl)<|qm rfl<|qp rfl (vv_move rfl) (fun c8 => ?_) (fun c8 => ?_)
   · replace hm := iT c8 hm
     refine qk rfl<|qk rfl<|qk rfl<|qm rfl<|sd_nil ?_
     exact ⟨rfl, true, sbq, hm, kz0⟩
   replace hm := iF c8 hm
   refine qv rfl (vv_fieldAddr fa_30_4 rfl)<|qv rfl (vv_load1 (v := .int .i64 p0.Delay) one_3 rfl B12 rfl)<|qv rfl (vv_gtr (a := p0.Delay) (b := 3000) rfl rfl)<|qm rfl<|sd_nil ?_
   exact ⟨rfl, (decide ((3000 : Int) < p0.Delay)), sbq, hm, kz0⟩
 clear hm; rintro a2 w3 ⟨hm, K3⟩
 have z7 := K3.size
 unfold ref05_ValidAir_J2 at hm
 refine sw_cond rfl (fun c2 => ?_) (fun c2 => ?_)
 · replace hm := cnd_t c2 hm
   refine qs 1 rfl<|qm rfl<|qb ?_
   have X8 := (X6.kz K3)
   cases hm
   refine ⟨_, _, rfl, res_1 rfl (rv_tmp rfl), ?_⟩
   exact ⟨rfl, X8⟩
 replace hm := cnd_f c2 hm
 refine qu<|qs 21 rfl<|qv rfl (vv_fieldAddr fa_30_3 rfl) ?_
 have B9 := ((Bw1.kz K2).kz K3)
 refine qv rfl (vv_load1 (v := .int .i64 p0.Drift) one_3 rfl B9 rfl)<|qv rfl (vv_mul (k := .i64) (a := 2) (b := p0.Drift) rfl rfl)<|qv rfl (vv_fieldAddr fa_30_4 rfl)<|qv rfl (vv_load1 (v := .int .i64 p0.Delay) one_3 rfl B9 rfl)<|qv rfl (vv_add (k := .i64) (a := w64 (2 * p0.Drift)) (b := p0.Delay) rfl rfl)<|qv rfl (vv_fieldAddr fa_30_1 rfl)<|qv rfl (vv_load1 (v := .int .i64 p0.Word) one_3 rfl B9 rfl) ?_
 refine qv rfl (vv_mul (k := .i64) (a := 3) (b := p0.Word) rfl rfl)<|qv rfl (vv_lss (a := w64 ((w64 (2 * p0.Drift)) + p0.Delay)) (b := w64 (3 * p0.Word)) rfl rfl)<|qpF rfl (vv_move rfl) (fun c3 => ?_) (fun c3 => ?_)
 · replace hm := iF c3 hm
   refine qk rfl<|qk rfl<|qk rfl<|qk rfl<|qk rfl<|qk rfl<|qk rfl ?_
   refine qk rfl<|qm rfl<|qm rfl<|sd_done<|sw_ret ?_
   have X11 := (X6.kz K3)
   cases hm
   refine ⟨_, _, rfl, res_1 rfl (rv_tmp rfl), ?_⟩
   exact ⟨rfl, X11⟩
 replace hm := iT c3 hm
 refine qv rfl (vv_fieldAddr fa_30_2 rfl)<|qv rfl (vv_load1 (v := .int .i64 p0.Early) one_3 rfl B9 rfl)<|qv rfl (vv_fieldAddr fa_30_4 rfl)<|qv rfl (vv_load1 (v := .int .i64 p0.Delay) one_3 rfl B9 rfl)<|qv rfl (vv_add (k := .i64) (a := p0.Early) (b := p0.Delay) rfl rfl)<|qv rfl (vv_fieldAddr fa_30_0 rfl)<|qv rfl (vv_load1 (v := .int .i64 p0.Epoch) one_3 rfl B9 rfl) ?_
 refine qv rfl (vv_leq (a := w64 (p0.Early + p0.Delay)) (b := p0.Epoch) rfl rfl)<|qm rfl<|qm rfl<|sd_done<|sw_ret ?_
 have X10 := (X6.kz K3)
 cases hm
 refine ⟨_, _, rfl, res_1 rfl (rv_tmp rfl), ?_⟩
 exact ⟨rfl, X10⟩
theorem ref05_aired_w {p0 p1 r} (hm : ref05_aired p0 p1 = some r) {w : World} :
    Calls Tryz.prog 53 [.agg (TAir.cs p0).toArray, .int .i64 p1].toArray w fun e w' => ∃ v, e = .returned v ∧ (v = .int .i64 r ∧ Gr w w') := by
 unfold ref05_aired at hm
 refine calls_of_sw 11 Tryz.func53 rfl rfl rfl<|qs 2 rfl<|qe rfl (ev_box (cs := TAir.cs p0) rfl rfl) ?_
 rintro _ w1 ⟨b1, rfl, hbw1, Bw1, G1⟩
 have z1 := G1.size
 have lt2 := Bw1.lt
 refine qm rfl<|sd_done<|sw_seq<|qs 3 rfl<|qv rfl (vv_loadW agg_30 rfl Bw1 rfl) ?_
 obtain ⟨x1, hx1, hm⟩ := bnd hm
 refine qe rfl (eC en_114 rfl (ref05_ValidAir_w hx1)) ?_
 rintro _ w2 ⟨rfl, G2⟩
 have z3 := G2.size
 refine qv rfl (vv_not rfl)<|sd_done<|sw_cond rfl (fun c1 => ?_) (fun c1 => ?_)
 · replace hm := cnd_t c1 hm
   refine qs 1 rfl<|qm rfl<|qb ?_
   have X4 := (((Gr.refl w).trans G1).trans G2)
   cases hm
   refine ⟨_, _, rfl, res_1 rfl (rv_tmp rfl), ?_⟩
   exact ⟨rfl, X4⟩
 replace hm := cnd_f c1 hm
 refine qu<|sw_seq<|qs 3 rfl<|qm rfl ?_
 obtain ⟨x2, hx2, hm⟩ := bnd hm
 refine qe rfl (eC en_65 rfl (ref05_Tick_w hx2)) ?_
 rintro _ w3 ⟨rfl, G3⟩
 have z5 := G3.size
 refine qv rfl (vv_not rfl)<|sd_done<|sw_cond rfl (fun c2 => ?_) (fun c2 => ?_)
 · replace hm := cnd_t c2 hm
   refine qs 1 rfl<|qm rfl<|qb ?_
   have X6 := ((((Gr.refl w).trans G1).trans G2).trans G3)
   cases hm
   refine ⟨_, _, rfl, res_1 rfl (rv_tmp rfl), ?_⟩
   exact ⟨rfl, X6⟩
 replace hm := cnd_f c2 hm
 refine qu<|qs 1 rfl<|qm rfl<|sd_done<|sw_ret ?_
 have X7 := ((((Gr.refl w).trans G1).trans G2).trans G3)
 cases hm
 refine ⟨_, _, rfl, res_1 rfl (rv_tmp rfl), ?_⟩
 exact ⟨rfl, X7⟩
theorem ref05_Word_w {p0 p1 r} (hm : ref05_Word p0 p1 = some r) {w : World} :
    Calls Tryz.prog 115 [kv p0, .int .i64 p1].toArray w fun e w' => ∃ v, e = .returned v ∧ (v = kv r ∧ Gr w w') := by
 unfold ref05_Word at hm
 refine calls_of_sw 9 Tryz.func115 rfl rfl rfl<|qs 2 rfl<|qe rfl (ev_box (cs := kb p0) rfl rfl) ?_
 rintro _ w1 ⟨b1, rfl, hbw1, Bw1, G1⟩
 have z1 := G1.size
 have lt2 := Bw1.lt
 refine qe rfl (ev_alloc (cs := kb k0) zv_23 rfl) ?_
 rintro _ w2 ⟨b2, rfl, hbw2, Bw2, G2⟩
 have z3 := G2.size
 have lt4 := Bw2.lt
 refine qd 5 rfl ?_
 have B5 := (Bw1.gr G2)
 refine qv rfl (vv_loadW agg_23 rfl B5 rfl)<|qm rfl<|qv rfl (vv_cvIU cv_3_24 rfl)<|qe rfl (eC en_103 rfl (rderive_c p0 (un8 51#8) (un8_nn _) (un8_le _) (wd p1) _)) ?_
 rintro _ w3 ⟨rfl, G3⟩
 have z6 := G3.size
 have B7 := (Bw2.gr G3)
 refine qe rfl (ev_stW agg_23 rfl rfl rfl B7 rfl rfl) ?_
 rintro _ w4 ⟨Bw4, M4⟩
 have z8 := M4.size
 refine sd_done<|sw_ret ?_
 have X9 := (((((Gr.refl w).trans G1).trans G2).trans G3).md M4)
 cases hm
 refine ⟨_, _, rfl, res_1 rfl (rv_cellW agg_23 rfl Bw4 rfl), ?_⟩
 exact ⟨rfl, X9⟩
theorem ref02_Bytes_w {p0 p1 r} (hm : ref02_Bytes p0 p1 = some r) {w : World} :
    Calls Tryz.prog 290 [wv p0, .int .i64 p1].toArray w fun e w' => ∃ v, e = .returned v ∧ (∃ ur0_s zr0_s gr0_s, v = ur0_s ∧ Own w' zr0_s gr0_s 5 1 ur0_s (r.map bvc) ∧ Hdn (zr0_s = 0 ∨ w.heap.size ≤ gr0_s) ∧ Gr w w') := by
 unfold ref02_Bytes at hm
 refine calls_of_sw 21 Tryz.func290 rfl rfl rfl<|qs 1 rfl<|qm rfl<|qd 1 rfl ?_
 refine qm rfl<|sd_done<|sw_seq<|qs 1 rfl<|qm rfl<|sd_done ?_
 refine sw_block<|sw_loopD (α := Nat × BitVec 64 × List (BitVec 8) × Int × Value × Nat × Nat) ([0] ++ rg 5 15) (fun ⟨n1, a5, a6, a8, vy7, zy7, gy7⟩ => [(0, wv a5), (5, vy7), (6, .int .i64 a8)]) (fun ⟨n1, a5, a6, a8, vy7, zy7, gy7⟩ wr => (fixN (ref02_Bytes_L1 p1) n1 (a5, a6, a8) = some r) ∧ Own wr zy7 gy7 5 1 vy7 (a6.map bvc) ∧ Hdn (zy7 = 0 ∨ w.heap.size ≤ gy7) ∧ Kz [] w wr) (fun ⟨n1, a5, a6, a8, vy7, zy7, gy7⟩ => n1) ⟨FUEL, p0, [], 0, (.slice none 0 0), 0, 0⟩ ?_ ?_ ?_
 · exact sbq
 · exact ⟨hm, (own_nil _ 0 5 1), ⟨(.inl rfl)⟩, Kz.refl _ _⟩
 clear hm; rintro ⟨n1, a5, a6, a8, vy7, zy7, gy7⟩ w1 ⟨hm, Fw1_0, Fw1_1, K1⟩
 have z1 := K1.size
 have lt2 := Fw1_0.lth
 have hb := fix_succ hm; clear hm; obtain ⟨n1, rfl, hm⟩ := hb
 generalize hrec1 : fixN (ref02_Bytes_L1 p1) n1 = rec1 at hm
 unfold ref02_Bytes_L1 at hm
 try dsimp only at hm
 refine sw_seq<|qs 3 rfl<|qm rfl<|qm rfl<|qv rfl (vv_lss (a := a8) (b := p1) rfl rfl)<|sd_done ?_
 refine cnF rfl (fun c1 => ?_) (fun c1 => ?_)
 · replace hm := iF c1 hm
   refine sw_exit<|then_x<|then_x<|block_x<|then_n<|qs 2 rfl ?_
   refine qm rfl<|qm rfl<|sd_done<|sw_ret ?_
   have X8 := ((Gr.refl w).kz K1)
   cases hm
   refine ⟨_, _, rfl, res_1 rfl (rv_tmp rfl), ?_⟩
   exact ⟨vy7, zy7, gy7, rfl, Fw1_0, ⟨(pv_0 (A := (fun x => w.heap.size ≤ x)) Fw1_1)⟩, X8⟩
 replace hm := iT c1 hm
 refine qu<|sw_seq<|sw_block<|qs 7 rfl<|qm rfl ?_
 obtain ⟨x9, hx9, hm⟩ := bnd hm
 refine qv rfl (vv_remU (c := a5) (d := 256#64) rfl rfl hx9)<|qv rfl (vv_cvUB cv_24_5 rfl)<|qe rfl (ev_litT [x9.setWidth 8] bvc bsl_32_1 rfl rfl (ws_of rfl) rfl rfl rfl) ?_
 rintro vw2 w2 ⟨gw2, hbw2, Ow2, G2⟩
 have z3 := G2.size
 have lt4 := Ow2.lth
 refine qm rfl ?_
 have B5 := (Fw1_0.gr G2)
 obtain ⟨l10, hl10, hm⟩ := bnd hm
 refine qe rfl (ev_appT (l := [x9.setWidth 8]) (m := a6) (c := bvc) apt_32 rfl rfl Ow2 (Own.rd B5) hl10 (by decide)) ?_
 rintro vw3 w3 ⟨zw3, gw3, Ow3, Aw3, qw3, rw3⟩
 have z6 := Aw3.size
 refine qm rfl<|sd_done<|qg 3 rfl<|qm rfl ?_
 obtain ⟨x11, hx11, hm⟩ := bnd hm
 refine qv rfl (vv_quoU (c := a5) (d := 256#64) rfl rfl hx11)<|qm rfl<|sd_nil<|block_n<|then_n<|qg 3 rfl<|qm rfl ?_
 refine qv rfl (vv_add (k := .i64) (a := a8) (b := 1) rfl rfl)<|qm rfl<|sd_nil ?_
 have K_7 : Kz [] w w3 := ((K1.gr G2).ka Aw3 (tk1 ((.inr tk0) : 1 = 0 ∨ w.heap.size ≤ gw2)))
 subst hrec1
 exact ⟨rfl, ⟨n1, x11, l10, w64 (a8 + 1), vw3, zw3, gw3⟩, sbq, ⟨hm, Ow3, ⟨(pv_app (A := (fun x => w.heap.size ≤ x)) rw3 (.inr tk0))⟩, K_7⟩, Nat.lt_succ_self _⟩
theorem ref02_Block_w {p0 p1 p2 r} (hm : ref02_Block p0 p1 p2 = some r) {w : World} :
    Calls Tryz.prog 185 [bv p0, wv p1, wv p2].toArray w fun e w' => ∃ v, e = .returned v ∧ (v = kv r ∧ Gr w w') := by
 unfold ref02_Block at hm
 refine calls_of_sw 18 Tryz.func185 rfl rfl rfl<|qs 1 rfl<|qe rfl (ev_alloc (cs := kb k0) zv_23 rfl) ?_
 rintro _ w1 ⟨b1, rfl, hbw1, Bw1, G1⟩
 have z1 := G1.size
 have lt2 := Bw1.lt
 refine qd 6 rfl<|qm rfl<|qe rfl (ev_litT [p0] bvc bsl_32_1 rfl rfl (ws_of rfl) rfl rfl rfl) ?_
 rintro vw2 w2 ⟨gw2, hbw2, Ow2, G2⟩
 have z3 := G2.size
 have lt4 := Ow2.lth
 refine qm rfl ?_
 obtain ⟨x1, hx1, hm⟩ := bnd hm
 refine qe rfl (eC en_290 rfl (ref02_Bytes_w hx1)) ?_
 rintro u3_r0_s w3 ⟨_, z3_r0_s, g3_r0_s, rfl, O3_r0_s, f3_r0_s, G3⟩
 have z5 := G3.size
 have lt6 := O3_r0_s.lth
 have B7 := (Ow2.gr G3)
 obtain ⟨l2, hl2, hm⟩ := bnd hm
 refine qe rfl (ev_appT (l := [p0]) (m := x1) (c := bvc) apt_32 rfl rfl B7 (Own.rd O3_r0_s) hl2 (by decide)) ?_
 rintro vw4 w4 ⟨zw4, gw4, Ow4, Aw4, qw4, rw4⟩
 have z8 := Aw4.size
 refine qm rfl<|qd 6 rfl<|qm rfl<|qm rfl ?_
 obtain ⟨x3, hx3, hm⟩ := bnd hm
 refine qe rfl (eC en_290 rfl (ref02_Bytes_w hx3)) ?_
 rintro u5_r0_s w5 ⟨_, z5_r0_s, g5_r0_s, rfl, O5_r0_s, f5_r0_s, G5⟩
 have z9 := G5.size
 have lt10 := O5_r0_s.lth
 have B11 := (Ow4.gr G5)
 obtain ⟨l4, hl4, hm⟩ := bnd hm
 refine qe rfl (ev_appT (l := l2) (m := x3) (c := bvc) apt_32 rfl rfl B11 (Own.rd O5_r0_s) hl4 (by decide)) ?_
 rintro vw6 w6 ⟨zw6, gw6, Ow6, Aw6, qw6, rw6⟩
 have z12 := Aw6.size
 obtain ⟨x5, hx5, hm⟩ := bnd hm
 refine qe rfl (eC en_289 rfl (ref02_key_w hx5 (Own.rd Ow6))) ?_
 rintro _ w7 ⟨rfl, G7⟩
 have z13 := G7.size
 have B14 := ((((((Bw1.gr G2).gr G3).ka Aw4 (tk1 ((.inr tk0) : 1 = 0 ∨ gw2 ≠ b1))).gr G5).ka Aw6 (tk1 (pb_app (b := b1) rw4 (.inr tk0)))).gr G7)
 refine qe rfl (ev_stW agg_23 rfl rfl rfl B14 rfl rfl) ?_
 rintro _ w8 ⟨Bw8, M8⟩
 have z15 := M8.size
 refine sd_done<|sw_ret ?_
 have X16 := (((((((((Gr.refl w).trans G1).trans G2).trans G3).ka Aw4 (tk1 ((.inr tk0) : 1 = 0 ∨ w.heap.size ≤ gw2))).trans G5).ka Aw6 (tk1 (pv_app (A := (fun x => w.heap.size ≤ x)) rw4 (.inr tk0)))).trans G7).md M8)
 cases hm
 refine ⟨_, _, rfl, res_1 rfl (rv_cellW agg_23 rfl Bw8 rfl), ?_⟩
 exact ⟨rfl, X16⟩
theorem ref02_Stream_w {p0 p1 p2 vp2 zp2 gp2 op2 r} (hm : ref02_Stream p0 p1 p2 = some r) {w : World} (hp2 : Rd w zp2 gp2 op2 1 vp2 (p2.map bvc)) :
    Calls Tryz.prog 191 [kv p0, wv p1, vp2].toArray w fun e w' => ∃ v, e = .returned v ∧ (∃ ur0_s zr0_s gr0_s, v = .tuple [ur0_s, .int .i64 r.2].toArray ∧ Own w' zr0_s gr0_s 5 1 ur0_s (r.1.map bvc) ∧ Hdn (zr0_s = 0 ∨ w.heap.size ≤ gr0_s) ∧ Gr w w') := by
 have lt1 := hp2.lth
 unfold ref02_Stream at hm
 refine calls_of_sw 51 Tryz.func191 rfl rfl rfl<|qs 3 rfl<|qe rfl (ev_box (cs := kb p0) rfl rfl) ?_
 rintro _ w1 ⟨b1, rfl, hbw1, Bw1, G1⟩
 have z2 := G1.size
 have lt3 := Bw1.lt
 refine qm rfl<|qm rfl<|sd_done<|sw_seq<|qs 3 rfl<|qm rfl ?_
 have B4 := (hp2.gr G1)
 refine qv rfl (vv_lenT (l := p2) (c := bvc) Tryz.underlying32 rfl B4)<|qv rfl (vv_gtr (a := (p2.length : Int)) (b := 16384) rfl rfl)<|sd_done<|sw_cond rfl (fun c1 => ?_) (fun c1 => ?_)
 · replace hm := iT c1 hm
   refine qs 2 rfl<|qm rfl<|qm rfl<|sd_done<|sw_ret<|then_r ?_
   have X5 := ((Gr.refl w).trans G1)
   cases hm
   refine ⟨_, _, rfl, res_2 rfl (rv_tmp rfl) (rv_tmp rfl), ?_⟩
   exact ⟨(.slice none 0 0), 0, 0, rfl, (own_nil _ 0 5 1), ⟨.inl rfl⟩, X5⟩
 replace hm := iF c1 hm
 refine qu<|qs 1 rfl<|qm rfl<|sd_done<|sw_seq ?_
 refine qs 1 rfl<|qm rfl<|sd_done<|sw_block ?_
 have X6 := ((Gr.refl w).trans G1)
 refine sw_loopD (α := Nat × List (BitVec 8) × Int × Value × Nat × Nat) ([8, 9, 10, 11] ++ rg 15 35) (fun ⟨n1, a4, a6, vy5, zy5, gy5⟩ => [(8, vy5), (9, .int .i64 a6)]) (fun ⟨n1, a4, a6, vy5, zy5, gy5⟩ wr => (fixN (ref02_Stream_L1 p0 p1 p2) n1 (a4, a6) = some r) ∧ Own wr zy5 gy5 5 1 vy5 (a4.map bvc) ∧ Hdn (zy5 = 0 ∨ w1.heap.size ≤ gy5) ∧ Kz [] w1 wr) (fun ⟨n1, a4, a6, vy5, zy5, gy5⟩ => n1) ⟨FUEL, [], 0, (.slice none 0 0), 0, 0⟩ ?_ ?_ ?_
 · exact sbq
 · exact ⟨hm, (own_nil _ 0 5 1), ⟨(.inl rfl)⟩, Kz.refl _ _⟩
 clear hm; rintro ⟨n1, a4, a6, vy5, zy5, gy5⟩ w2 ⟨hm, Fw2_0, Fw2_1, K2⟩
 have z7 := K2.size
 have lt8 := Fw2_0.lth
 have hb := fix_succ hm; clear hm; obtain ⟨n1, rfl, hm⟩ := hb
 generalize hrec1 : fixN (ref02_Stream_L1 p0 p1 p2) n1 = rec1 at hm
 unfold ref02_Stream_L1 at hm
 try dsimp only at hm
 refine sw_seq<|qs 4 rfl<|qm rfl<|qm rfl ?_
 have B9 := (B4.kz K2)
 obtain ⟨x7, hx7, hm⟩ := bnd hm
 refine qe rfl (eC en_182 rfl (ref02_portions_w hx7 B9)) ?_
 rintro _ w3 ⟨rfl, G3⟩
 have z10 := G3.size
 refine qv rfl (vv_lss (a := a6) (b := x7) rfl rfl)<|sd_done<|cnF rfl (fun c2 => ?_) (fun c2 => ?_)
 · replace hm := iF c2 hm
   refine sw_exit<|then_x<|then_x<|block_x<|then_n<|qs 3 rfl ?_
   refine qm rfl<|qm rfl<|qm rfl<|sd_done<|sw_ret ?_
   have B73 := (Fw2_0.gr G3)
   have X74 := ((X6.kz K2).trans G3)
   cases hm
   refine ⟨_, _, rfl, res_2 rfl (rv_tmp rfl) (rv_tmp rfl), ?_⟩
   exact ⟨vy5, zy5, gy5, rfl, B73, ⟨(pv_0 (A := (fun x => w.heap.size ≤ x)) Fw2_1)⟩, X74⟩
 replace hm := iT c2 hm
 refine qu<|sw_seq<|sw_block ?_
 have X11 := ((X6.kz K2).trans G3)
 refine qj (β := W2 × Nat) ([10] ++ rg 21 10) (fun ⟨a9, bq8⟩ => [(10, .pointer (some ⟨bq8, 0, none⟩))]) (fun ⟨a9, bq8⟩ wr => (ref02_Stream_J2 p2 a4 a6 rec1 a9 = some r) ∧ Bx wr bq8 23 (kb a9) ∧ w3.heap.size ≤ bq8 ∧ Kz [] w3 wr) ?_ ?_
 · refine dw [([])] [] (.fork [(0,10),(1,10),(3,10),(4,10),(5,10),(6,10)] (.fork [(2,0)] (.fork [(7,0)] (.fork [(8,0)] (.leaf [(9,0),(10,0),(11,0)]) (.leaf [(10,0),(9,0),(11,0)])) (.leaf [(10,0),(8,0),(9,0),(11,0)])) (.leaf [(10,0),(7,0),(8,0),(9,0),(11,0)])) (.leaf [(10,0),(2,0),(7,0),(8,0),(9,0),(11,0)])) ?_
   intro w9 G9 zw9
   refine sdz_fork<|dm 0 rfl rfl<|dm 0 rfl rfl ?_
   have B32 := (((Bw1.kz K2).gr G3).gr G9)
   refine dh 0 rfl rfl (fun w hS => vv_loadW agg_23 rfl (Bx.kp B32 hS) rfl)<|dm 0 rfl rfl<|dh 0 rfl rfl (fun w hS => vv_cvIU cv_3_24 rfl)<|dm 0 rfl rfl<|sd_fork ?_ ?_
   · refine sdz_fork ?_
     have B33 := ((B9.gr G3).gr G9)
     obtain ⟨x19, hx19, hm⟩ := bnd hm
     refine qz [] rfl (eC en_184 rfl (ref02_portion_w hx19 B33)) ⟨fun _ => tk0, trivial⟩ ?_
     rintro _ w10 ⟨rfl, G10⟩
     have z34 := G10.size
     refine kG G10<|sd_fork ?_ ?_
     · refine sdz_fork ?_
       obtain ⟨x20, hx20, hm⟩ := bnd hm
       refine qz [] rfl (eC en_185 rfl (ref02_Block_w hx20)) ⟨fun _ => tk0, trivial⟩ ?_
       rintro _ w11 ⟨rfl, G11⟩
       have z35 := G11.size
       refine kG G11<|sd_fork ?_ ?_
       · refine sdz_fork<|qz [] rfl (eC en_180 rfl (rencr_c p0 x20 _)) ⟨fun _ => tk0, trivial⟩ ?_
         rintro _ w12 ⟨rfl, G12⟩
         have z36 := G12.size
         refine kG G12<|sd_fork ?_ ?_
         · refine sdz_leaf ?_
           obtain ⟨x21, hx21, hm⟩ := bnd hm
           refine qz [] rfl (eC en_183 rfl (ref02_Xor_w hx21)) ⟨fun _ => tk0, trivial⟩ ?_
           rintro _ w13 ⟨rfl, G13⟩
           have z37 := G13.size
           refine kG G13<|qz [] rfl (ev_alloc (cs := kb k0) zv_23 rfl) ⟨fun _ => tk0, trivial⟩ ?_
           rintro _ w14 ⟨b14, rfl, hbw14, Bw14, G14⟩
           have z38 := G14.size
           have lt39 := Bw14.lt
           refine kG G14<|qz [(1, b14)] rfl (ev_stW agg_23 rfl rfl rfl Bw14 rfl rfl) ⟨fun _ => tk0, trivial⟩ ?_
           rintro _ w15 ⟨Bw15, M15⟩
           have z40 := M15.size
           refine kM M15<|sd_nil ?_
           exact ⟨rfl, ⟨x21, b14⟩, sbq, hm, Bw15, (by omega), (((((((kz0.gr G9).gr G10).gr G11).gr G12).gr G13).gr G14).md M15)⟩
         refine sdz_leaf<|qz [] rfl (ev_alloc (cs := kb k0) zv_23 rfl) ⟨fun _ => tk0, trivial⟩ ?_
         rintro _ w16 ⟨b16, rfl, hbw16, Bw16, G16⟩
         have z42 := G16.size
         have lt43 := Bw16.lt
         refine kG G16 ?_
         obtain ⟨x22, hx22, hm⟩ := bnd hm
         refine qz [] rfl (eC en_183 rfl (ref02_Xor_w hx22)) ⟨fun _ => tk0, trivial⟩ ?_
         rintro _ w17 ⟨rfl, G17⟩
         have z44 := G17.size
         refine kG G17 ?_
         have B45 := (Bw16.gr G17)
         refine qz [(1, b16)] rfl (ev_stW agg_23 rfl rfl rfl B45 rfl rfl) ⟨fun _ => tk0, trivial⟩ ?_
         rintro _ w18 ⟨Bw18, M18⟩
         have z46 := M18.size
         refine kM M18<|sd_nil ?_
         exact ⟨rfl, ⟨x22, b16⟩, sbq, hm, Bw18, (by omega), (((((((kz0.gr G9).gr G10).gr G11).gr G12).gr G16).gr G17).md M18)⟩
       refine sdz_leaf<|qz [] rfl (ev_alloc (cs := kb k0) zv_23 rfl) ⟨fun _ => tk0, trivial⟩ ?_
       rintro _ w19 ⟨b19, rfl, hbw19, Bw19, G19⟩
       have z48 := G19.size
       have lt49 := Bw19.lt
       refine kG G19<|qz [] rfl (eC en_180 rfl (rencr_c p0 x20 _)) ⟨fun _ => tk0, trivial⟩ ?_
       rintro _ w20 ⟨rfl, G20⟩
       have z50 := G20.size
       refine kG G20 ?_
       obtain ⟨x23, hx23, hm⟩ := bnd hm
       refine qz [] rfl (eC en_183 rfl (ref02_Xor_w hx23)) ⟨fun _ => tk0, trivial⟩ ?_
       rintro _ w21 ⟨rfl, G21⟩
       have z51 := G21.size
       refine kG G21 ?_
       have B52 := ((Bw19.gr G20).gr G21)
       refine qz [(1, b19)] rfl (ev_stW agg_23 rfl rfl rfl B52 rfl rfl) ⟨fun _ => tk0, trivial⟩ ?_
       rintro _ w22 ⟨Bw22, M22⟩
       have z53 := M22.size
       refine kM M22<|sd_nil ?_
       exact ⟨rfl, ⟨x23, b19⟩, sbq, hm, Bw22, (by omega), (((((((kz0.gr G9).gr G10).gr G11).gr G19).gr G20).gr G21).md M22)⟩
     refine sdz_leaf<|qz [] rfl (ev_alloc (cs := kb k0) zv_23 rfl) ⟨fun _ => tk0, trivial⟩ ?_
     rintro _ w23 ⟨b23, rfl, hbw23, Bw23, G23⟩
     have z55 := G23.size
     have lt56 := Bw23.lt
     refine kG G23 ?_
     obtain ⟨x24, hx24, hm⟩ := bnd hm
     refine qz [] rfl (eC en_185 rfl (ref02_Block_w hx24)) ⟨fun _ => tk0, trivial⟩ ?_
     rintro _ w24 ⟨rfl, G24⟩
     have z57 := G24.size
     refine kG G24<|qz [] rfl (eC en_180 rfl (rencr_c p0 x24 _)) ⟨fun _ => tk0, trivial⟩ ?_
     rintro _ w25 ⟨rfl, G25⟩
     have z58 := G25.size
     refine kG G25 ?_
     obtain ⟨x25, hx25, hm⟩ := bnd hm
     refine qz [] rfl (eC en_183 rfl (ref02_Xor_w hx25)) ⟨fun _ => tk0, trivial⟩ ?_
     rintro _ w26 ⟨rfl, G26⟩
     have z59 := G26.size
     refine kG G26 ?_
     have B60 := (((Bw23.gr G24).gr G25).gr G26)
     refine qz [(1, b23)] rfl (ev_stW agg_23 rfl rfl rfl B60 rfl rfl) ⟨fun _ => tk0, trivial⟩ ?_
     rintro _ w27 ⟨Bw27, M27⟩
     have z61 := M27.size
     refine kM M27<|sd_nil ?_
     exact ⟨rfl, ⟨x25, b23⟩, sbq, hm, Bw27, (by omega), (((((((kz0.gr G9).gr G10).gr G23).gr G24).gr G25).gr G26).md M27)⟩
   refine sdz_leaf<|qz [] rfl (ev_alloc (cs := kb k0) zv_23 rfl) ⟨fun _ => tk0, trivial⟩ ?_
   rintro _ w28 ⟨b28, rfl, hbw28, Bw28, G28⟩
   have z63 := G28.size
   have lt64 := Bw28.lt
   refine kG G28 ?_
   have B65 := (((B9.gr G3).gr G9).gr G28)
   obtain ⟨x26, hx26, hm⟩ := bnd hm
   refine qz [] rfl (eC en_184 rfl (ref02_portion_w hx26 B65)) ⟨fun _ => tk0, trivial⟩ ?_
   rintro _ w29 ⟨rfl, G29⟩
   have z66 := G29.size
   refine kG G29 ?_
   obtain ⟨x27, hx27, hm⟩ := bnd hm
   refine qz [] rfl (eC en_185 rfl (ref02_Block_w hx27)) ⟨fun _ => tk0, trivial⟩ ?_
   rintro _ w30 ⟨rfl, G30⟩
   have z67 := G30.size
   refine kG G30<|qz [] rfl (eC en_180 rfl (rencr_c p0 x27 _)) ⟨fun _ => tk0, trivial⟩ ?_
   rintro _ w31 ⟨rfl, G31⟩
   have z68 := G31.size
   refine kG G31 ?_
   obtain ⟨x28, hx28, hm⟩ := bnd hm
   refine qz [] rfl (eC en_183 rfl (ref02_Xor_w hx28)) ⟨fun _ => tk0, trivial⟩ ?_
   rintro _ w32 ⟨rfl, G32⟩
   have z69 := G32.size
   refine kG G32 ?_
   have Y1 := Gr.trans (Gr.trans (Gr.trans G29 G30) G31) G32
   have B70 := (Bw28.gr Y1)
   refine qz [(1, b28)] rfl (ev_stW agg_23 rfl rfl rfl B70 rfl rfl) ⟨fun _ => tk0, trivial⟩ ?_
   rintro _ w33 ⟨Bw33, M33⟩
   have z71 := M33.size
   refine kM M33<|sd_nil ?_
   exact ⟨rfl, ⟨x28, b28⟩, sbq, hm, Bw33, (by omega), ((((kz0.gr G9).gr G28).gr Y1).md M33)⟩
 clear hm; rintro ⟨a9, bq8⟩ w4 ⟨hm, Fw4_0, Fw4_1, K4⟩
 have z12 := K4.size
 have lt13 := Fw4_0.lt
 unfold ref02_Stream_J2 at hm
 refine qs 1 rfl<|qm rfl<|sd_done<|sw_block ?_
 have X14 := (X11.kz K4)
 have B15 := ((B9.gr G3).kz K4)
 have B16 := ((Fw2_0.gr G3).kz K4)
 refine sw_loopD (α := Nat × List (BitVec 8) × Int × Value × Nat × Nat) ([8, 11] ++ rg 31 19) (fun ⟨n3, a13, a15, vy14, zy14, gy14⟩ => [(8, vy14), (11, .int .i64 a15)]) (fun ⟨n3, a13, a15, vy14, zy14, gy14⟩ wr => (fixN (ref02_Stream_L3 p2 a6 rec1 a9) n3 (a13, a15) = some r) ∧ Own wr zy14 gy14 5 1 vy14 (a13.map bvc) ∧ Hdn (zy14 = 0 ∨ (gy14 = gy5 ∧ zy5 ≠ 0) ∨ w4.heap.size ≤ gy14) ∧ Kz [(zy5, gy5)] w4 wr) (fun ⟨n3, a13, a15, vy14, zy14, gy14⟩ => n3) ⟨FUEL, a4, 0, vy5, zy5, gy5⟩ ?_ ?_ ?_
 · exact sbq
 · exact ⟨hm, B16, ⟨tk0⟩, Kz.refl _ _⟩
 clear hm; rintro ⟨n3, a13, a15, vy14, zy14, gy14⟩ w5 ⟨hm, Fw5_0, Fw5_1, K5⟩
 have z17 := K5.size
 have lt18 := Fw5_0.lth
 have hb := fix_succ hm; clear hm; obtain ⟨n3, rfl, hm⟩ := hb
 generalize hrec3 : fixN (ref02_Stream_L3 p2 a6 rec1 a9) n3 = rec3 at hm
 unfold ref02_Stream_L3 at hm
 try dsimp only at hm
 refine sw_seq ?_
 have X19 := (X14.kz K5 (tk1 (pv_0 (A := (fun x => w.heap.size ≤ x)) Fw2_1)))
 refine qj (β := Bool) (rg 31 11) (fun a16 => [(41, .bool a16)]) (fun a16 wr => (ref02_Stream_J4 a6 rec1 a9 a13 a15 rec3 a16 = some r) ∧ Kz [] w5 wr) ?_ ?_
 · refine qg 11 rfl<|qm rfl<|qv rfl (vv_lss (a := a15) (b := 16) rfl rfl)<|qpF rfl (vv_move rfl) (fun c4 => ?_) (fun c4 => ?_)
   · replace hm := iF c4 hm
     refine qk rfl<|qk rfl<|qk rfl<|qk rfl<|qk rfl<|qk rfl<|qk rfl ?_
     refine qm rfl<|sd_nil ?_
     exact ⟨rfl, false, sbq, hm, kz0⟩
   replace hm := iT c4 hm
   refine qm rfl<|qv rfl (vv_mul (k := .i64) (a := 16) (b := a6) rfl rfl)<|qm rfl<|qv rfl (vv_add (k := .i64) (a := w64 (16 * a6)) (b := a15) rfl rfl)<|qm rfl ?_
   have B29 := (B15.kz K5 (tk1 ((pv_sw (pv_0 (A := (fun x => zp2 = 0 ∨ x ≠ gp2)) Fw2_1 (fun x hx => (tk1 lt1.o)))) : zp2 = 0 ∨ zy5 = 0 ∨ gp2 ≠ gy5)))
   refine qv rfl (vv_lenT (l := p2) (c := bvc) Tryz.underlying32 rfl B29)<|qv rfl (vv_lss (a := w64 ((w64 (16 * a6)) + a15)) (b := (p2.length : Int)) rfl rfl)<|qm rfl<|sd_nil ?_
   exact ⟨rfl, (decide (w64 ((w64 (16 * a6)) + a15) < (p2.length : Int))), sbq, hm, kz0⟩
 clear hm; rintro a16 w6 ⟨hm, K6⟩
 have z20 := K6.size
 unfold ref02_Stream_J4 at hm
 refine cnF rfl (fun c3 => ?_) (fun c3 => ?_)
 · replace hm := cnd_f c3 hm
   refine sw_exit<|then_x<|then_x<|block_x<|block_n<|then_n<|qg 3 rfl ?_
   refine qm rfl<|qv rfl (vv_add (k := .i64) (a := a6) (b := 1) rfl rfl)<|qm rfl<|sd_nil ?_
   have K_27 : Kz [] w1 w6 := ((((K2.gr G3).kz K4).kz K5 (tk1 (pv_0 (A := (fun x => w1.heap.size ≤ x)) Fw2_1))).kz K6)
   have B28 := (Fw5_0.kz K6)
   subst hrec1
   exact ⟨rfl, ⟨n1, a13, w64 (a6 + 1), vy14, zy14, gy14⟩, sbq, ⟨hm, B28, ⟨(pv_1 (A := (fun x => w1.heap.size ≤ x)) Fw5_1 (pv_0 (A := (fun x => w1.heap.size ≤ x)) Fw2_1))⟩, K_27⟩, Nat.lt_succ_self _⟩
 replace hm := cnd_t c3 hm
 refine qu<|sw_seq<|sw_block<|qg 7 rfl<|qm rfl<|qm rfl ?_
 obtain ⟨y17, hy17, hm⟩ := bnd hm
 refine qv rfl (vv_ixK (i := a15) (p := a9) Tryz.underlying23 (one_5).siz rfl rfl hy17) ?_
 have B21 := ((Fw4_0.kz K5 (tk1 (pb_lt (b := bq8) lt8))).kz K6)
 refine qv rfl (vv_ldK (off := 0) (p := a9) (i := a15) one_5 rfl B21 rfl hy17 (by omega))<|qe rfl (ev_litT [y17] bvc bsl_32_1 rfl rfl (ws_of rfl) rfl rfl rfl) ?_
 rintro vw7 w7 ⟨gw7, hbw7, Ow7, G7⟩
 have z22 := G7.size
 have lt23 := Ow7.lth
 have B24 := ((Fw5_0.kz K6).gr G7)
 obtain ⟨l18, hl18, hm⟩ := bnd hm
 refine qe rfl (ev_appT (l := a13) (m := [y17]) (c := bvc) apt_32 rfl rfl B24 (Own.rd Ow7) hl18 (by decide)) ?_
 rintro vw8 w8 ⟨zw8, gw8, Ow8, Aw8, qw8, rw8⟩
 have z25 := Aw8.size
 refine qm rfl<|sd_nil<|block_n<|then_n<|qg 3 rfl<|qm rfl<|qv rfl (vv_add (k := .i64) (a := a15) (b := 1) rfl rfl) ?_
 refine qm rfl<|sd_nil ?_
 have K_26 : Kz [(zy5, gy5)] w4 w8 := (((K5.kz K6).gr G7).ka Aw8 (tk1 (pv_1 (A := (fun x => (x = gy5 ∧ zy5 ≠ 0) ∨ w4.heap.size ≤ x)) Fw5_1 tk0)))
 subst hrec3
 exact ⟨rfl, ⟨n3, l18, w64 (a15 + 1), vw8, zw8, gw8⟩, sbq, ⟨hm, Ow8, ⟨(pv_app (A := (fun x => (x = gy5 ∧ zy5 ≠ 0) ∨ w4.heap.size ≤ x)) rw8 (pv_1 (A := (fun x => (x = gy5 ∧ zy5 ≠ 0) ∨ w4.heap.size ≤ x)) Fw5_1 tk0))⟩, K_26⟩, Nat.lt_succ_self _⟩
theorem ref05_stream_w {p0 p1 p2 vp2 zp2 gp2 op2 r} (hm : ref05_stream p0 p1 p2 = some r) {w : World} (hp2 : Rd w zp2 gp2 op2 1 vp2 (p2.map bvc)) :
    Calls Tryz.prog 116 [kv p0, wv p1, vp2].toArray w fun e w' => ∃ v, e = .returned v ∧ (∃ ur0_s zr0_s gr0_s, v = ur0_s ∧ Own w' zr0_s gr0_s 5 1 ur0_s (r.map bvc) ∧ Hdn (zr0_s = 0 ∨ w.heap.size ≤ gr0_s) ∧ Gr w w') := by
 have lt1 := hp2.lth
 unfold ref05_stream at hm
 refine calls_of_sw 17 Tryz.func116 rfl rfl rfl<|qs 2 rfl<|qe rfl (ev_box (cs := kb p0) rfl rfl) ?_
 rintro _ w1 ⟨b1, rfl, hbw1, Bw1, G1⟩
 have z2 := G1.size
 have lt3 := Bw1.lt
 refine qm rfl<|qd 9 rfl<|qv rfl (vv_loadW agg_23 rfl Bw1 rfl)<|qm rfl<|qm rfl ?_
 have B4 := (hp2.gr G1)
 obtain ⟨x1, hx1, hm⟩ := bnd hm
 refine qe rfl (eC en_191 rfl (ref02_Stream_w hx1 B4)) ?_
 rintro _ w2 ⟨u2_r0_s, z2_r0_s, g2_r0_s, rfl, O2_r0_s, f2_r0_s, G2⟩
 have z5 := G2.size
 have lt6 := O2_r0_s.lth
 refine qm rfl<|qm rfl<|qm rfl<|qm rfl<|qm rfl<|sd_done<|sw_seq ?_
 refine qg 2 rfl<|qm rfl<|qm rfl<|sd_done<|sw_ret ?_
 have X7 := (((Gr.refl w).trans G1).trans G2)
 cases hm
 refine ⟨_, _, rfl, res_1 rfl (rv_tmp rfl), ?_⟩
 exact ⟨u2_r0_s, z2_r0_s, g2_r0_s, rfl, O2_r0_s, ⟨(pv_0 (A := (fun x => w.heap.size ≤ x)) f2_r0_s)⟩, X7⟩
theorem ref05_Sent_w {p0 p1 p2 p3 p4 vp4 zp4 gp4 op4 r} (hm : ref05_Sent p0 p1 p2 p3 p4 = some r) {w : World} (hp4 : Rd w zp4 gp4 op4 1 vp4 (p4.map bvc)) :
    Calls Tryz.prog 54 [kv p0, .agg (TAir.cs p1).toArray, .int .i64 p2, wv p3, vp4].toArray w fun e w' => ∃ v, e = .returned v ∧ (∃ ur0_2 zr0_2 gr0_2 ur0_4 zr0_4 gr0_4 ur0_39 zr0_39 gr0_39, v = .agg (TPacket.cs r ur0_2 ur0_4 ur0_39).toArray ∧ Own w' zr0_2 gr0_2 173 18 ur0_2 (r.Head.Items.map TItem.cs) ∧ Hdn (zr0_2 = 0 ∨ w.heap.size ≤ gr0_2) ∧ Own w' zr0_4 gr0_4 50 2 ur0_4 (r.Head.Points.map TPoint.cs) ∧ Hdn (zr0_4 = 0 ∨ w.heap.size ≤ gr0_4) ∧ Own w' zr0_39 gr0_39 5 1 ur0_39 (r.Data.map bvc) ∧ Hdn (zr0_39 = 0 ∨ w.heap.size ≤ gr0_39) ∧ Hdn (zr0_4 = 0 ∨ zr0_2 = 0 ∨ gr0_4 ≠ gr0_2) ∧ Hdn (zr0_39 = 0 ∨ zr0_2 = 0 ∨ gr0_39 ≠ gr0_2) ∧ Hdn (zr0_39 = 0 ∨ zr0_4 = 0 ∨ gr0_39 ≠ gr0_4) ∧ Gr w w') := by
 have lt1 := hp4.lth
 unfold ref05_Sent at hm
 refine calls_of_sw 42 Tryz.func54 rfl rfl rfl<|qs 3 rfl<|qe rfl (ev_box (cs := kb p0) rfl rfl) ?_
 rintro _ w1 ⟨b1, rfl, hbw1, Bw1, G1⟩
 have z2 := G1.size
 have lt3 := Bw1.lt
 refine qe rfl (ev_box (cs := TAir.cs p1) rfl rfl) ?_
 rintro _ w2 ⟨b2, rfl, hbw2, Bw2, G2⟩
 have z4 := G2.size
 have lt5 := Bw2.lt
 refine qe rfl (ev_alloc (cs := TPacket.cs (TPacket.mk 0#8 0 (THeader.mk [] 0#64 [] k0 k0) 0#8 0#64 [] k0) (.slice none 0 0) (.slice none 0 0) (.slice none 0 0)) zv_38 rfl) ?_
 rintro _ w3 ⟨b3, rfl, hbw3, Bw3, G3⟩
 have z6 := G3.size
 have lt7 := Bw3.lt
 refine sd_done ?_
 have Y1 := Gr.trans (Gr.trans G1 G2) G3
 have X8 := ((Gr.refl w).trans Y1)
 refine qj (β := W2 × Nat) ([11] ++ rg 13 11) (fun ⟨a2, bq1⟩ => [(11, .pointer (some ⟨bq1, 0, none⟩))]) (fun ⟨a2, bq1⟩ wr => (ref05_Sent_J1 p1 p2 p3 p4 a2 = some r) ∧ Bx wr bq1 23 (kb a2) ∧ w3.heap.size ≤ bq1 ∧ Kz [] w3 wr) ?_ ?_
 · refine dw [([])] [] (.fork [(0,10),(1,10),(2,10),(3,10),(4,10),(6,10),(7,10),(8,10),(9,10)] (.fork [(5,0)] (.leaf [(10,0),(11,0),(12,0)]) (.leaf [(11,0),(10,0),(12,0)])) (.leaf [(11,0),(5,0),(10,0),(12,0)])) ?_
   intro w18 G18 zw18
   refine sdz_fork ?_
   have B59 := (((Bw1.gr G2).gr G3).gr G18)
   refine dh 0 rfl rfl (fun w hS => vv_loadW agg_23 rfl (Bx.kp B59 hS) rfl)<|dm 0 rfl rfl<|dh 0 rfl rfl (fun w hS => vv_fieldAddr fa_30_0 rfl) ?_
   have B60 := ((Bw2.gr G3).gr G18)
   refine dh 0 rfl rfl (fun w hS => vv_load1 (v := .int .i64 p1.Epoch) one_3 rfl (Bx.kp B60 hS) rfl) ?_
   obtain ⟨x15, hx15, hm⟩ := bnd hm
   refine dh 0 rfl rfl (fun w hS => vv_quoI (a := p2) (b := p1.Epoch) rfl rfl hx15)<|dm 0 rfl rfl<|dh 0 rfl rfl (fun w hS => vv_fieldAddr fa_30_1 rfl)<|dh 0 rfl rfl (fun w hS => vv_load1 (v := .int .i64 p1.Word) one_3 rfl (Bx.kp B60 hS) rfl) ?_
   obtain ⟨x16, hx16, hm⟩ := bnd hm
   refine dh 0 rfl rfl (fun w hS => vv_quoI (a := p2) (b := p1.Word) rfl rfl hx16)<|sd_fork ?_ ?_
   · refine sdz_fork ?_
     obtain ⟨x17, hx17, hm⟩ := bnd hm
     refine qz [] rfl (eC en_47 rfl (ref05_Session_w hx17)) ⟨fun _ => tk0, trivial⟩ ?_
     rintro _ w19 ⟨rfl, G19⟩
     have z61 := G19.size
     refine kG G19<|sd_fork ?_ ?_
     · refine sdz_leaf ?_
       obtain ⟨x18, hx18, hm⟩ := bnd hm
       refine qz [] rfl (eC en_115 rfl (ref05_Word_w hx18)) ⟨fun _ => tk0, trivial⟩ ?_
       rintro _ w20 ⟨rfl, G20⟩
       have z62 := G20.size
       refine kG G20<|qz [] rfl (ev_alloc (cs := kb k0) zv_23 rfl) ⟨fun _ => tk0, trivial⟩ ?_
       rintro _ w21 ⟨b21, rfl, hbw21, Bw21, G21⟩
       have z63 := G21.size
       have lt64 := Bw21.lt
       refine kG G21<|qz [(1, b21)] rfl (ev_stW agg_23 rfl rfl rfl Bw21 rfl rfl) ⟨fun _ => tk0, trivial⟩ ?_
       rintro _ w22 ⟨Bw22, M22⟩
       have z65 := M22.size
       refine kM M22<|sd_nil ?_
       exact ⟨rfl, ⟨x18, b21⟩, sbq, hm, Bw22, (by omega), (((((kz0.gr G18).gr G19).gr G20).gr G21).md M22)⟩
     refine sdz_leaf<|qz [] rfl (ev_alloc (cs := kb k0) zv_23 rfl) ⟨fun _ => tk0, trivial⟩ ?_
     rintro _ w23 ⟨b23, rfl, hbw23, Bw23, G23⟩
     have z67 := G23.size
     have lt68 := Bw23.lt
     refine kG G23 ?_
     obtain ⟨x19, hx19, hm⟩ := bnd hm
     refine qz [] rfl (eC en_115 rfl (ref05_Word_w hx19)) ⟨fun _ => tk0, trivial⟩ ?_
     rintro _ w24 ⟨rfl, G24⟩
     have z69 := G24.size
     refine kG G24 ?_
     have B70 := (Bw23.gr G24)
     refine qz [(1, b23)] rfl (ev_stW agg_23 rfl rfl rfl B70 rfl rfl) ⟨fun _ => tk0, trivial⟩ ?_
     rintro _ w25 ⟨Bw25, M25⟩
     have z71 := M25.size
     refine kM M25<|sd_nil ?_
     exact ⟨rfl, ⟨x19, b23⟩, sbq, hm, Bw25, (by omega), (((((kz0.gr G18).gr G19).gr G23).gr G24).md M25)⟩
   refine sdz_leaf<|qz [] rfl (ev_alloc (cs := kb k0) zv_23 rfl) ⟨fun _ => tk0, trivial⟩ ?_
   rintro _ w26 ⟨b26, rfl, hbw26, Bw26, G26⟩
   have z73 := G26.size
   have lt74 := Bw26.lt
   refine kG G26 ?_
   obtain ⟨x20, hx20, hm⟩ := bnd hm
   refine qz [] rfl (eC en_47 rfl (ref05_Session_w hx20)) ⟨fun _ => tk0, trivial⟩ ?_
   rintro _ w27 ⟨rfl, G27⟩
   have z75 := G27.size
   refine kG G27 ?_
   obtain ⟨x21, hx21, hm⟩ := bnd hm
   refine qz [] rfl (eC en_115 rfl (ref05_Word_w hx21)) ⟨fun _ => tk0, trivial⟩ ?_
   rintro _ w28 ⟨rfl, G28⟩
   have z76 := G28.size
   refine kG G28 ?_
   have B77 := ((Bw26.gr G27).gr G28)
   refine qz [(1, b26)] rfl (ev_stW agg_23 rfl rfl rfl B77 rfl rfl) ⟨fun _ => tk0, trivial⟩ ?_
   rintro _ w29 ⟨Bw29, M29⟩
   have z78 := M29.size
   refine kM M29<|sd_nil ?_
   exact ⟨rfl, ⟨x21, b26⟩, sbq, hm, Bw29, (by omega), (((((kz0.gr G18).gr G26).gr G27).gr G28).md M29)⟩
 clear hm; rintro ⟨a2, bq1⟩ w4 ⟨hm, Fw4_0, Fw4_1, K4⟩
 have z9 := K4.size
 have lt10 := Fw4_0.lt
 unfold ref05_Sent_J1 at hm
 have X11 := (X8.kz K4)
 refine qj (β := BitVec 8 × List (BitVec 8) × Nat × Value × Nat × Nat × Value × Nat × Nat × Value × Nat × Nat) ([12] ++ rg 24 12) (fun ⟨a4, a5, bq3, vy6, zy6, gy6, vy7, zy7, gy7, vy8, zy8, gy8⟩ => [(12, .pointer (some ⟨bq3, 0, none⟩))]) (fun ⟨a4, a5, bq3, vy6, zy6, gy6, vy7, zy7, gy7, vy8, zy8, gy8⟩ wr => (ref05_Sent_J2 p3 a2 a4 a5 = some r) ∧ Own wr zy6 gy6 173 18 vy6 ([].map TItem.cs) ∧ Hdn (zy6 = 0 ∨ w4.heap.size ≤ gy6) ∧ Own wr zy7 gy7 50 2 vy7 ([].map TPoint.cs) ∧ Hdn (zy7 = 0 ∨ w4.heap.size ≤ gy7) ∧ Own wr zy8 gy8 5 1 vy8 (a5.map bvc) ∧ Hdn (zy8 = 0 ∨ w4.heap.size ≤ gy8) ∧ Bx wr bq3 38 (TPacket.cs (TPacket.mk 2#8 0 (THeader.mk [] 0#64 [] k0 k0) a4 p3 a5 k0) vy6 vy7 vy8) ∧ w4.heap.size ≤ bq3 ∧ Hdn (zy7 = 0 ∨ zy6 = 0 ∨ gy7 ≠ gy6) ∧ Hdn (zy8 = 0 ∨ zy6 = 0 ∨ gy8 ≠ gy6) ∧ Hdn (zy8 = 0 ∨ zy7 = 0 ∨ gy8 ≠ gy7) ∧ Hdn (zy6 = 0 ∨ gy6 ≠ bq3) ∧ Hdn (zy7 = 0 ∨ gy7 ≠ bq3) ∧ Hdn (zy8 = 0 ∨ gy8 ≠ bq3) ∧ Kz [] w4 wr) ?_ ?_
 · refine dw [([])] [] (.fork [(0,10),(1,10),(2,10),(3,10),(4,10),(5,10),(6,10),(7,10),(8,10),(9,10)] (.leaf [(10,0),(11,10),(12,0),(13,0)]) (.leaf [(12,0),(10,0),(11,10),(13,0)])) ?_
   intro w11 G11 zw11
   refine sdz_fork<|dm 0 rfl rfl<|dh 0 rfl rfl (fun w hS => vv_fieldAddr fa_30_1 rfl) ?_
   have B37 := (((Bw2.gr G3).kz K4).gr G11)
   refine dh 0 rfl rfl (fun w hS => vv_load1 (v := .int .i64 p1.Word) one_3 rfl (Bx.kp B37 hS) rfl) ?_
   obtain ⟨x11, hx11, hm⟩ := bnd hm
   refine dh 0 rfl rfl (fun w hS => vv_quoI (a := p2) (b := p1.Word) rfl rfl hx11) ?_
   obtain ⟨x12, hx12, hm⟩ := bnd hm
   refine dh 0 rfl rfl (fun w hS => vv_remI (a := x11) (b := 4) rfl rfl hx12)<|dh 0 rfl rfl (fun w hS => vv_cvIB cv_3_5 rfl)<|dm 0 rfl rfl ?_
   have B38 := (Fw4_0.gr G11)
   refine dh 0 rfl rfl (fun w hS => vv_loadW agg_23 rfl (Bx.kp B38 hS) rfl)<|dm 0 rfl rfl<|dm 0 rfl rfl<|sd_fork ?_ ?_
   · refine sdz_leaf ?_
     have B39 := (((hp4.gr Y1).kz K4).gr G11)
     obtain ⟨x13, hx13, hm⟩ := bnd hm
     refine qz [] rfl (eC en_116 rfl (ref05_stream_w hx13 B39)) ⟨fun _ => tk0, trivial⟩ ?_
     rintro u12_r0_s w12 ⟨_, z12_r0_s, g12_r0_s, rfl, O12_r0_s, f12_r0_s, G12⟩
     have z40 := G12.size
     have lt41 := O12_r0_s.lth
     refine kG G12 ?_
     have S42 := ((Kp.refl ([]) w11).gr G12)
     refine qh 0 rfl rfl S42 (fun w hS => vv_build (cs := TPacket.cs (TPacket.mk 2#8 0 (THeader.mk [] 0#64 [] k0 k0) (wd8 x12) p3 x13 k0) (.slice none 0 0) (.slice none 0 0) u12_r0_s) bs_38 rfl (fill_M rfl rfl rfl (fill_M rfl rfl rfl (fill_M rfl rfl rfl (fill_1 rfl (Own.oneB O12_r0_s) rfl (by kernel_rfl))))))<|qz [] rfl (ev_alloc (cs := TPacket.cs (TPacket.mk 0#8 0 (THeader.mk [] 0#64 [] k0 k0) 0#8 0#64 [] k0) (.slice none 0 0) (.slice none 0 0) (.slice none 0 0)) zv_38 rfl) ⟨fun _ => tk0, trivial⟩ ?_
     rintro _ w13 ⟨b13, rfl, hbw13, Bw13, G13⟩
     have z43 := G13.size
     have lt44 := Bw13.lt
     refine kG G13 ?_
     have B45 := (O12_r0_s.gr G13)
     refine qz [(1, b13)] rfl (ev_stW agg_38 rfl rfl (TPacket.cs_ones _ _ _ _ rfl rfl (Own.oneB B45)) Bw13 rfl rfl) ⟨fun _ => tk0, trivial⟩ ?_
     rintro _ w14 ⟨Bw14, M14⟩
     have z46 := M14.size
     refine kM M14<|sd_nil ?_
     have K_47 : Kz [] w4 w14 := ((((Kz.gr (Kz.refl _ _) G11).gr G12).gr G13).md M14)
     have B48 := (B45.md M14 (pb_lt lt41))
     exact ⟨rfl, ⟨wd8 x12, x13, b13, (.slice none 0 0), 0, 0, (.slice none 0 0), 0, 0, u12_r0_s, z12_r0_s, g12_r0_s⟩, sbq, hm, (own_nil _ 0 173 18), ⟨(.inl rfl)⟩, (own_nil _ 0 50 2), ⟨(.inl rfl)⟩, B48, ⟨(pv_0 (A := (fun x => w4.heap.size ≤ x)) f12_r0_s)⟩, Bw14, (by omega), ⟨(.inl rfl)⟩, ⟨(.inr (.inl rfl))⟩, ⟨(.inr (.inl rfl))⟩, ⟨.inl rfl⟩, ⟨.inl rfl⟩, ⟨(pv_lt (A := (fun x => x ≠ b13)) lt41)⟩, K_47⟩
   refine sdz_leaf<|qz [] rfl (ev_alloc (cs := TPacket.cs (TPacket.mk 0#8 0 (THeader.mk [] 0#64 [] k0 k0) 0#8 0#64 [] k0) (.slice none 0 0) (.slice none 0 0) (.slice none 0 0)) zv_38 rfl) ⟨fun _ => tk0, trivial⟩ ?_
   rintro _ w15 ⟨b15, rfl, hbw15, Bw15, G15⟩
   have z49 := G15.size
   have lt50 := Bw15.lt
   refine kG G15 ?_
   have B51 := ((((hp4.gr Y1).kz K4).gr G11).gr G15)
   obtain ⟨x14, hx14, hm⟩ := bnd hm
   refine qz [] rfl (eC en_116 rfl (ref05_stream_w hx14 B51)) ⟨fun _ => tk0, trivial⟩ ?_
   rintro u16_r0_s w16 ⟨_, z16_r0_s, g16_r0_s, rfl, O16_r0_s, f16_r0_s, G16⟩
   have z52 := G16.size
   have lt53 := O16_r0_s.lth
   refine kG G16 ?_
   have S54 := (((Kp.refl ([]) w11).gr G15).gr G16)
   refine qh 0 rfl rfl S54 (fun w hS => vv_build (cs := TPacket.cs (TPacket.mk 2#8 0 (THeader.mk [] 0#64 [] k0 k0) (wd8 x12) p3 x14 k0) (.slice none 0 0) (.slice none 0 0) u16_r0_s) bs_38 rfl (fill_M rfl rfl rfl (fill_M rfl rfl rfl (fill_M rfl rfl rfl (fill_1 rfl (Own.oneB O16_r0_s) rfl (by kernel_rfl)))))) ?_
   have B55 := (Bw15.gr G16)
   refine qz [(1, b15)] rfl (ev_stW agg_38 rfl rfl (TPacket.cs_ones _ _ _ _ rfl rfl (Own.oneB O16_r0_s)) B55 rfl rfl) ⟨fun _ => tk0, trivial⟩ ?_
   rintro _ w17 ⟨Bw17, M17⟩
   have z56 := M17.size
   refine kM M17<|sd_nil ?_
   have K_57 : Kz [] w4 w17 := ((((Kz.gr (Kz.refl _ _) G11).gr G15).gr G16).md M17)
   have B58 := (O16_r0_s.md M17 (pb_0 f16_r0_s))
   exact ⟨rfl, ⟨wd8 x12, x14, b15, (.slice none 0 0), 0, 0, (.slice none 0 0), 0, 0, u16_r0_s, z16_r0_s, g16_r0_s⟩, sbq, hm, (own_nil _ 0 173 18), ⟨(.inl rfl)⟩, (own_nil _ 0 50 2), ⟨(.inl rfl)⟩, B58, ⟨(pv_0 (A := (fun x => w4.heap.size ≤ x)) f16_r0_s)⟩, Bw17, (by omega), ⟨(.inl rfl)⟩, ⟨(.inr (.inl rfl))⟩, ⟨(.inr (.inl rfl))⟩, ⟨.inl rfl⟩, ⟨.inl rfl⟩, ⟨(pv_0 (A := (fun x => x ≠ b15)) f16_r0_s)⟩, K_57⟩
 clear hm; rintro ⟨a4, a5, bq3, vy6, zy6, gy6, vy7, zy7, gy7, vy8, zy8, gy8⟩ w5 ⟨hm, Fw5_0, Fw5_1, Fw5_2, Fw5_3, Fw5_4, Fw5_5, Fw5_6, Fw5_7, Fw5_8, Fw5_9, Fw5_10, Fw5_11, Fw5_12, Fw5_13, K5⟩
 have z12 := K5.size
 have lt13 := Fw5_0.lth
 have lt14 := Fw5_2.lth
 have lt15 := Fw5_4.lth
 have lt16 := Fw5_6.lt
 unfold ref05_Sent_J2 at hm
 refine sw_seq<|dw [([bq3]),([])] [(5, [1])] (.leaf [(0,10),(1,11),(2,0),(3,0),(4,10),(5,0)]) ?_
 intro w6 G6 zw6
 refine sdz_leaf ?_
 have B17 := ((Fw4_0.kz K5).gr G6)
 refine dh 0 rfl rfl (fun w hS => vv_loadW agg_23 rfl (Bx.kp B17 hS) rfl) ?_
 have B18 := (Fw5_6.gr G6)
 refine dh 1 rfl rfl (fun w hS => vv_loadW agg_38 rfl (Bx.kp B18 hS) rfl) ?_
 have B19 := (Fw5_0.gr G6)
 have B20 := (Fw5_2.gr G6)
 have B21 := (Fw5_4.gr G6)
 obtain ⟨x9, hx9, hm⟩ := bnd hm
 refine qz [] rfl (eC en_104 rfl (ref05_Body_w hx9 (Own.rd B19) (Own.rd B20) (Own.rd B21))) ⟨fun _ => tk0, fun _ => tk0, trivial⟩ ?_
 rintro u7_r0_s w7 ⟨_, z7_r0_s, g7_r0_s, rfl, O7_r0_s, f7_r0_s, G7⟩
 have z22 := G7.size
 have lt23 := O7_r0_s.lth
 refine kG G7 ?_
 obtain ⟨x10, hx10, hm⟩ := bnd hm
 refine qz [] rfl (eC en_102 rfl (ref02_Tag_w hx10 (Own.rd O7_r0_s))) ⟨fun _ => tk0, fun _ => tk0, trivial⟩ ?_
 rintro _ w8 ⟨rfl, G8⟩
 have z24 := G8.size
 refine kG G8 ?_
 have Y2 := Gr.trans G7 G8
 have S25 := ((Kp.refl ([bq3]) w6).gr Y2)
 refine qh 0 rfl rfl S25 (fun w hS => vv_fieldAddr fa_38_6 rfl) ?_
 have B26 := (B18.gr Y2)
 refine qz [(1, bq3)] rfl (ev_stM (cs' := TPacket.cs (TPacket.mk 2#8 0 (THeader.mk [] 0#64 [] k0 k0) a4 p3 a5 x10) vy6 vy7 vy8) (vs := kb x10) (agg_23).siz rfl rfl rfl rfl rfl B26 rfl rfl) ⟨fun _ => tk0, nofun, trivial⟩ ?_
 rintro _ w9 ⟨Bw9, M9⟩
 have z27 := M9.size
 refine kM M9<|qd 2 rfl<|qv rfl (vv_loadW agg_38 rfl Bw9 rfl) ?_
 have B28 := (((((Bw3.kz K4).kz K5).gr G6).gr Y2).md M9)
 have B29 := ((B19.gr Y2).md M9 (tk1 ((tk1 Fw5_11.o) : zy6 = 0 ∨ gy6 ≠ bq3)))
 have B30 := ((B20.gr Y2).md M9 (tk1 ((tk1 Fw5_12.o) : zy7 = 0 ∨ gy7 ≠ bq3)))
 have B31 := ((B21.gr Y2).md M9 (tk1 ((tk1 Fw5_13.o) : zy8 = 0 ∨ gy8 ≠ bq3)))
 refine qe rfl (ev_stW agg_38 rfl rfl (TPacket.cs_ones _ _ _ _ (Own.oneB B29) (Own.oneB B30) (Own.oneB B31)) B28 rfl rfl) ?_
 rintro _ w10 ⟨Bw10, M10⟩
 have z32 := M10.size
 refine sd_done<|sw_ret ?_
 have B33 := (B29.md M10 (pb_0 Fw5_1))
 have B34 := (B30.md M10 (pb_0 Fw5_3))
 have B35 := (B31.md M10 (pb_0 Fw5_5))
 have X36 := (((((X11.kz K5).trans G6).trans Y2).md M9).md M10)
 cases hm
 refine ⟨_, _, rfl, res_1 rfl (rv_cellW agg_38 rfl Bw10 rfl), ?_⟩
 exact ⟨vy6, zy6, gy6, vy7, zy7, gy7, vy8, zy8, gy8, rfl, B33, ⟨(pv_0 (A := (fun x => w.heap.size ≤ x)) Fw5_1)⟩, B34, ⟨(pv_0 (A := (fun x => w.heap.size ≤ x)) Fw5_3)⟩, B35, ⟨(pv_0 (A := (fun x => w.heap.size ≤ x)) Fw5_5)⟩, ⟨(tk1 Fw5_8.o)⟩, ⟨(tk1 Fw5_9.o)⟩, ⟨(tk1 Fw5_10.o)⟩, X36⟩
theorem ref05_Content_w {p0 p1 p2 p3 p4 vp4 zp4 gp4 op4 r} (hm : ref05_Content p0 p1 p2 p3 p4 = some r) {w : World} (hp4 : Rd w zp4 gp4 op4 1 vp4 (p4.map bvc)) :
    Calls Tryz.prog 11 [kv p0, .agg (TAir.cs p1).toArray, .int .i64 p2, wv p3, vp4].toArray w fun e w' => ∃ v, e = .returned v ∧ (∃ ur0_2 zr0_2 gr0_2 ur0_4 zr0_4 gr0_4 ur0_39 zr0_39 gr0_39, v = .tuple [.agg (TPacket.cs r.1 ur0_2 ur0_4 ur0_39).toArray, .int .i64 r.2].toArray ∧ Own w' zr0_2 gr0_2 173 18 ur0_2 (r.1.Head.Items.map TItem.cs) ∧ Hdn (zr0_2 = 0 ∨ w.heap.size ≤ gr0_2) ∧ Own w' zr0_4 gr0_4 50 2 ur0_4 (r.1.Head.Points.map TPoint.cs) ∧ Hdn (zr0_4 = 0 ∨ w.heap.size ≤ gr0_4) ∧ Own w' zr0_39 gr0_39 5 1 ur0_39 (r.1.Data.map bvc) ∧ Hdn (zr0_39 = 0 ∨ w.heap.size ≤ gr0_39) ∧ Hdn (zr0_4 = 0 ∨ zr0_2 = 0 ∨ gr0_4 ≠ gr0_2) ∧ Hdn (zr0_39 = 0 ∨ zr0_2 = 0 ∨ gr0_39 ≠ gr0_2) ∧ Hdn (zr0_39 = 0 ∨ zr0_4 = 0 ∨ gr0_39 ≠ gr0_4) ∧ Gr w w') := by
 have lt1 := hp4.lth
 unfold ref05_Content at hm
 refine calls_of_sw 30 Tryz.func11 rfl rfl rfl<|qs 4 rfl<|qe rfl (ev_box (cs := kb p0) rfl rfl) ?_
 rintro _ w1 ⟨b1, rfl, hbw1, Bw1, G1⟩
 have z2 := G1.size
 have lt3 := Bw1.lt
 refine qe rfl (ev_box (cs := TAir.cs p1) rfl rfl) ?_
 rintro _ w2 ⟨b2, rfl, hbw2, Bw2, G2⟩
 have z4 := G2.size
 have lt5 := Bw2.lt
 refine qe rfl (ev_alloc (cs := TPacket.cs (TPacket.mk 0#8 0 (THeader.mk [] 0#64 [] k0 k0) 0#8 0#64 [] k0) (.slice none 0 0) (.slice none 0 0) (.slice none 0 0)) zv_38 rfl) ?_
 rintro _ w3 ⟨b3, rfl, hbw3, Bw3, G3⟩
 have z6 := G3.size
 have lt7 := Bw3.lt
 refine qm rfl<|sd_done<|sw_seq<|qs 4 rfl ?_
 have B8 := (Bw2.gr G3)
 refine qv rfl (vv_loadW agg_30 rfl B8 rfl)<|qm rfl ?_
 obtain ⟨x1, hx1, hm⟩ := bnd hm
 refine qe rfl (eC en_53 rfl (ref05_aired_w hx1)) ?_
 rintro _ w4 ⟨rfl, G4⟩
 have z9 := G4.size
 refine qm rfl<|qd 2 rfl<|qm rfl<|qv rfl (vv_neq (a := x1) (b := 0) rfl rfl)<|sd_done ?_
 refine sw_cond rfl (fun c1 => ?_) (fun c1 => ?_)
 · replace hm := iT c1 hm
   refine qs 4 rfl<|qv rfl (vv_build (cs := TPacket.cs (TPacket.mk 0#8 0 (THeader.mk [] 0#64 [] k0 k0) 0#8 0#64 [] k0) (.slice none 0 0) (.slice none 0 0) (.slice none 0 0)) bs_38 rfl (by kernel_rfl))<|qm rfl ?_
   have B10 := (Bw3.gr G4)
   refine qe rfl (ev_stW agg_38 rfl rfl (TPacket.cs_ones _ _ _ _ rfl rfl rfl) B10 rfl rfl) ?_
   rintro _ w5 ⟨Bw5, M5⟩
   have z11 := M5.size
   refine qm rfl<|qb ?_
   have Y1 := Gr.trans (Gr.trans (Gr.trans G1 G2) G3) G4
   have X12 := (((Gr.refl w).trans Y1).md M5)
   cases hm
   refine ⟨_, _, rfl, res_2 rfl (rv_cellW agg_38 rfl Bw5 rfl) (rv_tmp rfl), ?_⟩
   exact ⟨(.slice none 0 0), 0, 0, (.slice none 0 0), 0, 0, (.slice none 0 0), 0, 0, rfl, (own_nil _ 0 173 18), ⟨.inl rfl⟩, (own_nil _ 0 50 2), ⟨.inl rfl⟩, (own_nil _ 0 5 1), ⟨.inl rfl⟩, ⟨(.inl rfl)⟩, ⟨(.inl rfl)⟩, ⟨(.inl rfl)⟩, X12⟩
 replace hm := iF c1 hm
 refine qu<|sw_seq<|qs 3 rfl<|qm rfl ?_
 have Y2 := Gr.trans (Gr.trans (Gr.trans G1 G2) G3) G4
 have B13 := (hp4.gr Y2)
 refine qv rfl (vv_lenT (l := p4) (c := bvc) Tryz.underlying32 rfl B13)<|qv rfl (vv_gtr (a := (p4.length : Int)) (b := 256) rfl rfl)<|sd_done<|sw_cond rfl (fun c2 => ?_) (fun c2 => ?_)
 · replace hm := iT c2 hm
   refine qs 3 rfl<|qv rfl (vv_build (cs := TPacket.cs (TPacket.mk 0#8 0 (THeader.mk [] 0#64 [] k0 k0) 0#8 0#64 [] k0) (.slice none 0 0) (.slice none 0 0) (.slice none 0 0)) bs_38 rfl (by kernel_rfl)) ?_
   have B14 := (Bw3.gr G4)
   refine qe rfl (ev_stW agg_38 rfl rfl (TPacket.cs_ones _ _ _ _ rfl rfl rfl) B14 rfl rfl) ?_
   rintro _ w6 ⟨Bw6, M6⟩
   have z15 := M6.size
   refine qm rfl<|qb ?_
   have X16 := (((Gr.refl w).trans Y2).md M6)
   cases hm
   refine ⟨_, _, rfl, res_2 rfl (rv_cellW agg_38 rfl Bw6 rfl) (rv_tmp rfl), ?_⟩
   exact ⟨(.slice none 0 0), 0, 0, (.slice none 0 0), 0, 0, (.slice none 0 0), 0, 0, rfl, (own_nil _ 0 173 18), ⟨.inl rfl⟩, (own_nil _ 0 50 2), ⟨.inl rfl⟩, (own_nil _ 0 5 1), ⟨.inl rfl⟩, ⟨(.inl rfl)⟩, ⟨(.inl rfl)⟩, ⟨(.inl rfl)⟩, X16⟩
 replace hm := iF c2 hm
 refine qu<|qs 8 rfl ?_
 have Y3 := Gr.trans (Gr.trans G2 G3) G4
 have B17 := (Bw1.gr Y3)
 refine qv rfl (vv_loadW agg_23 rfl B17 rfl) ?_
 have B18 := (B8.gr G4)
 refine qv rfl (vv_loadW agg_30 rfl B18 rfl)<|qm rfl<|qm rfl<|qm rfl ?_
 obtain ⟨x2, hx2, hm⟩ := bnd hm
 refine qe rfl (eC en_54 rfl (ref05_Sent_w hx2 B13)) ?_
 rintro _ w7 ⟨u7_r0_2, z7_r0_2, g7_r0_2, u7_r0_4, z7_r0_4, g7_r0_4, u7_r0_39, z7_r0_39, g7_r0_39, rfl, O7_r0_2, f7_r0_2, O7_r0_4, f7_r0_4, O7_r0_39, f7_r0_39, d7_0, d7_1, d7_2, G7⟩
 have z19 := G7.size
 have lt20 := O7_r0_2.lth
 have lt21 := O7_r0_4.lth
 have lt22 := O7_r0_39.lth
 have B23 := ((Bw3.gr G4).gr G7)
 refine qe rfl (ev_stW agg_38 rfl rfl (TPacket.cs_ones _ _ _ _ (Own.oneB O7_r0_2) (Own.oneB O7_r0_4) (Own.oneB O7_r0_39)) B23 rfl rfl) ?_
 rintro _ w8 ⟨Bw8, M8⟩
 have z24 := M8.size
 refine qm rfl<|sd_done<|sw_ret ?_
 have B25 := (O7_r0_2.md M8 (pb_0 f7_r0_2))
 have B26 := (O7_r0_4.md M8 (pb_0 f7_r0_4))
 have B27 := (O7_r0_39.md M8 (pb_0 f7_r0_39))
 have X28 := ((((Gr.refl w).trans Y2).trans G7).md M8)
 cases hm
 refine ⟨_, _, rfl, res_2 rfl (rv_cellW agg_38 rfl Bw8 rfl) (rv_tmp rfl), ?_⟩
 exact ⟨u7_r0_2, z7_r0_2, g7_r0_2, u7_r0_4, z7_r0_4, g7_r0_4, u7_r0_39, z7_r0_39, g7_r0_39, rfl, B25, ⟨(pv_0 (A := (fun x => w.heap.size ≤ x)) f7_r0_2)⟩, B26, ⟨(pv_0 (A := (fun x => w.heap.size ≤ x)) f7_r0_4)⟩, B27, ⟨(pv_0 (A := (fun x => w.heap.size ≤ x)) f7_r0_39)⟩, ⟨(tk1 d7_0.o)⟩, ⟨(tk1 d7_1.o)⟩, ⟨(tk1 d7_2.o)⟩, X28⟩
theorem ref05_SameHeader_w {p0 p1 vp0_0 zp0_0 gp0_0 op0_0 vp0_2 zp0_2 gp0_2 op0_2 vp1_0 zp1_0 gp1_0 op1_0 vp1_2 zp1_2 gp1_2 op1_2 r} (hm : ref05_SameHeader p0 p1 = some r) {w : World} (hp0_0 : Rd w zp0_0 gp0_0 op0_0 18 vp0_0 (p0.Items.map TItem.cs)) (hp0_2 : Rd w zp0_2 gp0_2 op0_2 2 vp0_2 (p0.Points.map TPoint.cs)) (hp1_0 : Rd w zp1_0 gp1_0 op1_0 18 vp1_0 (p1.Items.map TItem.cs)) (hp1_2 : Rd w zp1_2 gp1_2 op1_2 2 vp1_2 (p1.Points.map TPoint.cs)) :
    Calls Tryz.prog 55 [.agg (THeader.cs p0 vp0_0 vp0_2).toArray, .agg (THeader.cs p1 vp1_0 vp1_2).toArray].toArray w fun e w' => ∃ v, e = .returned v ∧ (v = .bool r ∧ Gr w w') := by
 have lt1 := hp0_0.lth
 have lt2 := hp0_2.lth
 have lt3 := hp1_0.lth
 have lt4 := hp1_2.lth
 unfold ref05_SameHeader at hm
 refine calls_of_sw 80 Tryz.func55 rfl rfl rfl<|qs 3 rfl<|qe rfl (ev_box (cs := THeader.cs p0 vp0_0 vp0_2) rfl rfl) ?_
 rintro _ w1 ⟨b1, rfl, hbw1, Bw1, G1⟩
 have z5 := G1.size
 have lt6 := Bw1.lt
 refine qe rfl (ev_box (cs := THeader.cs p1 vp1_0 vp1_2) rfl rfl) ?_
 rintro _ w2 ⟨b2, rfl, hbw2, Bw2, G2⟩
 have z7 := G2.size
 have lt8 := Bw2.lt
 refine qm rfl<|sd_done<|sw_seq ?_
 have Y1 := Gr.trans G1 G2
 have X9 := ((Gr.refl w).trans Y1)
 refine qj (β := Bool) (rg 7 37) (fun a1 => [(43, .bool a1)]) (fun a1 wr => (ref05_SameHeader_J1 p0 p1 a1 = some r) ∧ Kz [] w2 wr) ?_ ?_
 · refine qg 37 rfl<|qv rfl (vv_fieldAddr fa_36_0 rfl) ?_
   have B40 := (Bw1.gr G2)
   refine qv rfl (vv_load1 (v := vp0_0) one_33 rfl B40 rfl) ?_
   have B41 := (hp0_0.gr Y1)
   refine qv rfl (vv_lenT (l := p0.Items) (c := TItem.cs) Tryz.underlying33 rfl B41)<|qv rfl (vv_fieldAddr fa_36_0 rfl)<|qv rfl (vv_load1 (v := vp1_0) one_33 rfl Bw2 rfl) ?_
   have B42 := (hp1_0.gr Y1)
   refine qv rfl (vv_lenT (l := p1.Items) (c := TItem.cs) Tryz.underlying33 rfl B42)<|qv rfl (vv_neq (a := (p0.Items.length : Int)) (b := (p1.Items.length : Int)) rfl rfl)<|qp rfl (vv_move rfl) (fun c6 => ?_) (fun c6 => ?_)
   · replace hm := iT c6 hm
     refine qk rfl<|qk rfl<|qk rfl<|qk rfl<|qk rfl<|qk rfl<|qk rfl ?_
     refine qm rfl<|qm rfl<|qk rfl<|qk rfl<|qk rfl<|qk rfl<|qk rfl ?_
     refine qm rfl<|qm rfl<|qk rfl<|qk rfl<|qk rfl<|qk rfl<|qk rfl ?_
     refine qm rfl<|qm rfl<|qk rfl<|qk rfl<|qk rfl<|qk rfl<|qk rfl ?_
     refine qm rfl<|sd_nil ?_
     exact ⟨rfl, true, sbq, hm, kz0⟩
   replace hm := iF c6 hm
   refine qv rfl (vv_fieldAddr fa_36_2 rfl)<|qv rfl (vv_load1 (v := vp0_2) one_34 rfl B40 rfl) ?_
   have B44 := (hp0_2.gr Y1)
   refine qv rfl (vv_lenT (l := p0.Points) (c := TPoint.cs) Tryz.underlying34 rfl B44)<|qv rfl (vv_fieldAddr fa_36_2 rfl)<|qv rfl (vv_load1 (v := vp1_2) one_34 rfl Bw2 rfl) ?_
   have B45 := (hp1_2.gr Y1)
   refine qv rfl (vv_lenT (l := p1.Points) (c := TPoint.cs) Tryz.underlying34 rfl B45)<|qv rfl (vv_neq (a := (p0.Points.length : Int)) (b := (p1.Points.length : Int)) rfl rfl)<|qm rfl<|qp rfl (vv_move rfl) (fun c7 => ?_) (fun c7 => ?_)
   · replace hm := iT c7 hm
     refine qk rfl<|qk rfl<|qk rfl<|qk rfl<|qk rfl<|qm rfl<|qm rfl ?_
     refine qk rfl<|qk rfl<|qk rfl<|qk rfl<|qk rfl<|qm rfl<|qm rfl ?_
     refine qk rfl<|qk rfl<|qk rfl<|qk rfl<|qk rfl<|qm rfl<|sd_nil ?_
     exact ⟨rfl, true, sbq, hm, kz0⟩
   replace hm := iF c7 hm
   refine qv rfl (vv_fieldAddr fa_36_1 rfl)<|qv rfl (vv_load1 (v := wv p0.Base) one_24 rfl B40 rfl)<|qv rfl (vv_fieldAddr fa_36_1 rfl)<|qv rfl (vv_load1 (v := wv p1.Base) one_24 rfl Bw2 rfl)<|qv rfl (vv_neqU (c := p0.Base) (d := p1.Base) rfl rfl)<|qm rfl<|qp rfl (vv_move rfl) (fun c8 => ?_) (fun c8 => ?_)
   · replace hm := iT c8 hm
     refine qk rfl<|qk rfl<|qk rfl<|qk rfl<|qk rfl<|qm rfl<|qm rfl ?_
     refine qk rfl<|qk rfl<|qk rfl<|qk rfl<|qk rfl<|qm rfl<|sd_nil ?_
     exact ⟨rfl, true, sbq, hm, kz0⟩
   replace hm := iF c8 hm
   refine qv rfl (vv_fieldAddr fa_36_3 rfl)<|qv rfl (vv_loadM (vs := kb p0.Box) agg_23 rfl B40 rfl rfl)<|qv rfl (vv_fieldAddr fa_36_3 rfl)<|qv rfl (vv_loadM (vs := kb p1.Box) agg_23 rfl Bw2 rfl rfl)<|qv rfl (vv_neqS (cf := kb) (a := p0.Box) (b := p1.Box) eqt_23 rfl rfl rfl rfl (fun h => kb_inj h))<|qm rfl<|qp rfl (vv_move rfl) (fun c9 => ?_) (fun c9 => ?_)
   · replace hm := iT c9 hm
     refine qk rfl<|qk rfl<|qk rfl<|qk rfl<|qk rfl<|qm rfl<|sd_nil ?_
     exact ⟨rfl, true, sbq, hm, kz0⟩
   replace hm := iF c9 hm
   refine qv rfl (vv_fieldAddr fa_36_4 rfl)<|qv rfl (vv_loadM (vs := kb p0.Check) agg_23 rfl B40 rfl rfl)<|qv rfl (vv_fieldAddr fa_36_4 rfl)<|qv rfl (vv_loadM (vs := kb p1.Check) agg_23 rfl Bw2 rfl rfl)<|qv rfl (vv_neqS (cf := kb) (a := p0.Check) (b := p1.Check) eqt_23 rfl rfl rfl rfl (fun h => kb_inj h))<|qm rfl<|sd_nil ?_
   exact ⟨rfl, (decide (p0.Check ≠ p1.Check)), sbq, hm, kz0⟩
 clear hm; rintro a1 w3 ⟨hm, K3⟩
 have z10 := K3.size
 unfold ref05_SameHeader_J1 at hm
 refine sw_cond rfl (fun c1 => ?_) (fun c1 => ?_)
 · replace hm := cnd_t c1 hm
   refine qs 1 rfl<|qm rfl<|qb ?_
   have X11 := (X9.kz K3)
   cases hm
   refine ⟨_, _, rfl, res_1 rfl (rv_tmp rfl), ?_⟩
   exact ⟨rfl, X11⟩
 replace hm := cnd_f c1 hm
 refine qu<|sw_seq<|qs 1 rfl<|qm rfl<|sd_done ?_
 refine sw_block ?_
 have X12 := (X9.kz K3)
 have B13 := ((hp0_0.gr Y1).kz K3)
 have B14 := ((hp0_2.gr Y1).kz K3)
 have B15 := ((hp1_0.gr Y1).kz K3)
 have B16 := ((hp1_2.gr Y1).kz K3)
 refine sw_loopD (α := Nat × Int) ([4, 5] ++ rg 44 18) (fun ⟨n2, a3⟩ => [(4, .bool false), (5, .int .i64 a3)]) (fun ⟨n2, a3⟩ wr => (fixN (ref05_SameHeader_L2 p0 p1) n2 a3 = some r) ∧ Kz [] w3 wr) (fun ⟨n2, a3⟩ => n2) ⟨FUEL, 0⟩ ?_ ?_ ?_
 · exact sbq
 · exact ⟨hm, Kz.refl _ _⟩
 clear hm; rintro ⟨n2, a3⟩ w4 ⟨hm, K4⟩
 have z17 := K4.size
 have hb := fix_succ hm; clear hm; obtain ⟨n2, rfl, hm⟩ := hb
 generalize hrec2 : fixN (ref05_SameHeader_L2 p0 p1) n2 = rec2 at hm
 unfold ref05_SameHeader_L2 at hm
 try dsimp only at hm
 refine sw_seq<|qs 5 rfl<|qm rfl<|qv rfl (vv_fieldAddr fa_36_0 rfl) ?_
 have B18 := (((Bw1.gr G2).kz K3).kz K4)
 refine qv rfl (vv_load1 (v := vp0_0) one_33 rfl B18 rfl) ?_
 have B19 := (B13.kz K4)
 refine qv rfl (vv_lenT (l := p0.Items) (c := TItem.cs) Tryz.underlying33 rfl B19)<|qv rfl (vv_lss (a := a3) (b := (p0.Items.length : Int)) rfl rfl)<|sd_done<|sw_cond rfl (fun c2 => ?_) (fun c2 => ?_)
 · replace hm := iT c2 hm
   refine qu<|sw_seq<|sw_block<|sw_seq<|dw [([])] [] (.leaf [(0,10),(1,10),(2,10),(3,10),(4,10),(5,10),(6,10),(7,10),(8,10),(9,10),(10,10)]) ?_
   intro w5 G5 zw5
   refine sdz_leaf<|dh 0 rfl rfl (fun w hS => vv_fieldAddr fa_36_0 rfl) ?_
   have B20 := (B18.gr G5)
   refine dh 0 rfl rfl (fun w hS => vv_load1 (v := vp0_0) one_33 rfl (Bx.kp B20 hS) rfl)<|dm 0 rfl rfl ?_
   obtain ⟨y4, hy4, hm⟩ := bnd hm
   have B21 := (B19.gr G5)
   refine dh 0 rfl rfl (fun w hS => vv_ixT (i := a3) Tryz.underlying33 (agg_173).siz rfl (Rd.kp B21 hS) rfl hy4)<|dh 0 rfl rfl (fun w hS => vv_elWT agg_173 rfl (Rd.kp B21 hS) hy4 (by first | rfl | omega))<|dh 0 rfl rfl (fun w hS => vv_fieldAddr fa_36_0 rfl) ?_
   have B22 := (((Bw2.kz K3).kz K4).gr G5)
   refine dh 0 rfl rfl (fun w hS => vv_load1 (v := vp1_0) one_33 rfl (Bx.kp B22 hS) rfl)<|dm 0 rfl rfl ?_
   obtain ⟨y5, hy5, hm⟩ := bnd hm
   have B23 := ((B15.kz K4).gr G5)
   refine dh 0 rfl rfl (fun w hS => vv_ixT (i := a3) Tryz.underlying33 (agg_173).siz rfl (Rd.kp B23 hS) rfl hy5)<|dh 0 rfl rfl (fun w hS => vv_elWT agg_173 rfl (Rd.kp B23 hS) hy5 (by first | rfl | omega))<|dh 0 rfl rfl (fun w hS => vv_neqS (cf := TItem.cs) (a := y4) (b := y5) eqt_173 rfl rfl rfl rfl (fun h => TItem.cs_inj h))<|sd_done<|sw_cond rfl (fun c3 => ?_) (fun c3 => ?_)
   · replace hm := iT c3 hm
     refine qs 1 rfl<|qm rfl<|sd_done<|sw_ret<|block_r<|then_r ?_
     refine then_r<|block_r<|then_r ?_
     have X24 := ((X12.kz K4).trans G5)
     cases hm
     refine ⟨_, _, rfl, res_1 rfl (rv_tmp rfl), ?_⟩
     exact ⟨rfl, X24⟩
   replace hm := iF c3 hm
   refine sw_skip<|block_n<|then_n<|qg 3 rfl<|qm rfl<|qv rfl (vv_add (k := .i64) (a := a3) (b := 1) rfl rfl)<|qm rfl ?_
   refine sd_nil ?_
   have K_25 : Kz [] w3 w5 := (K4.gr G5)
   subst hrec2
   exact ⟨rfl, ⟨n2, w64 (a3 + 1)⟩, sbq, ⟨hm, K_25⟩, Nat.lt_succ_self _⟩
 replace hm := iF c2 hm
 refine sw_exit<|then_x<|then_x<|block_x<|then_n<|sw_seq<|sw_seq ?_
 refine qg 1 rfl<|qm rfl<|sd_done<|sw_block ?_
 have X26 := (X12.kz K4)
 have B27 := (B14.kz K4)
 have B28 := (B15.kz K4)
 have B29 := (B16.kz K4)
 refine sw_loopD (α := Nat × Int) ([4, 6] ++ rg 62 18) (fun ⟨n3, a7⟩ => [(4, .bool false), (6, .int .i64 a7)]) (fun ⟨n3, a7⟩ wr => (fixN (ref05_SameHeader_L3 p0 p1) n3 a7 = some r) ∧ Kz [] w4 wr) (fun ⟨n3, a7⟩ => n3) ⟨FUEL, 0⟩ ?_ ?_ ?_
 · exact sbq
 · exact ⟨hm, Kz.refl _ _⟩
 clear hm; rintro ⟨n3, a7⟩ w6 ⟨hm, K6⟩
 have z30 := K6.size
 have hb := fix_succ hm; clear hm; obtain ⟨n3, rfl, hm⟩ := hb
 generalize hrec3 : fixN (ref05_SameHeader_L3 p0 p1) n3 = rec3 at hm
 unfold ref05_SameHeader_L3 at hm
 try dsimp only at hm
 refine sw_seq<|qs 5 rfl<|qm rfl<|qv rfl (vv_fieldAddr fa_36_2 rfl) ?_
 have B31 := (B18.kz K6)
 refine qv rfl (vv_load1 (v := vp0_2) one_34 rfl B31 rfl) ?_
 have B32 := (B27.kz K6)
 refine qv rfl (vv_lenT (l := p0.Points) (c := TPoint.cs) Tryz.underlying34 rfl B32)<|qv rfl (vv_lss (a := a7) (b := (p0.Points.length : Int)) rfl rfl)<|sd_done<|cnF rfl (fun c4 => ?_) (fun c4 => ?_)
 · replace hm := iF c4 hm
   refine sw_exit<|then_x<|then_x<|block_x<|then_n<|qs 1 rfl ?_
   refine qm rfl<|sd_done<|sw_ret ?_
   have X39 := (X26.kz K6)
   cases hm
   refine ⟨_, _, rfl, res_1 rfl (rv_tmp rfl), ?_⟩
   exact ⟨rfl, X39⟩
 replace hm := iT c4 hm
 refine qu<|sw_seq<|sw_block<|sw_seq<|dw [([])] [] (.leaf [(0,10),(1,10),(2,10),(3,10),(4,10),(5,10),(6,10),(7,10),(8,10),(9,10),(10,10)]) ?_
 intro w7 G7 zw7
 refine sdz_leaf<|dh 0 rfl rfl (fun w hS => vv_fieldAddr fa_36_2 rfl) ?_
 have B33 := (B31.gr G7)
 refine dh 0 rfl rfl (fun w hS => vv_load1 (v := vp0_2) one_34 rfl (Bx.kp B33 hS) rfl)<|dm 0 rfl rfl ?_
 obtain ⟨y8, hy8, hm⟩ := bnd hm
 have B34 := (B32.gr G7)
 refine dh 0 rfl rfl (fun w hS => vv_ixT (i := a7) Tryz.underlying34 (agg_50).siz rfl (Rd.kp B34 hS) rfl hy8)<|dh 0 rfl rfl (fun w hS => vv_elWT agg_50 rfl (Rd.kp B34 hS) hy8 (by first | rfl | omega))<|dh 0 rfl rfl (fun w hS => vv_fieldAddr fa_36_2 rfl) ?_
 have B35 := ((((Bw2.kz K3).kz K4).kz K6).gr G7)
 refine dh 0 rfl rfl (fun w hS => vv_load1 (v := vp1_2) one_34 rfl (Bx.kp B35 hS) rfl)<|dm 0 rfl rfl ?_
 obtain ⟨y9, hy9, hm⟩ := bnd hm
 have B36 := ((B29.kz K6).gr G7)
 refine dh 0 rfl rfl (fun w hS => vv_ixT (i := a7) Tryz.underlying34 (agg_50).siz rfl (Rd.kp B36 hS) rfl hy9)<|dh 0 rfl rfl (fun w hS => vv_elWT agg_50 rfl (Rd.kp B36 hS) hy9 (by first | rfl | omega))<|dh 0 rfl rfl (fun w hS => vv_neqS (cf := TPoint.cs) (a := y8) (b := y9) eqt_50 rfl rfl rfl rfl (fun h => TPoint.cs_inj h))<|sd_done<|sw_cond rfl (fun c5 => ?_) (fun c5 => ?_)
 · replace hm := iT c5 hm
   refine qs 1 rfl<|qm rfl<|sd_done<|sw_ret<|block_r<|then_r ?_
   refine then_r<|block_r<|then_r ?_
   have X37 := ((X26.kz K6).trans G7)
   cases hm
   refine ⟨_, _, rfl, res_1 rfl (rv_tmp rfl), ?_⟩
   exact ⟨rfl, X37⟩
 replace hm := iF c5 hm
 refine sw_skip<|block_n<|then_n<|qg 3 rfl<|qm rfl<|qv rfl (vv_add (k := .i64) (a := a7) (b := 1) rfl rfl)<|qm rfl ?_
 refine sd_nil ?_
 have K_38 : Kz [] w4 w7 := (K6.gr G7)
 subst hrec3
 exact ⟨rfl, ⟨n3, w64 (a7 + 1)⟩, sbq, ⟨hm, K_38⟩, Nat.lt_succ_self _⟩
theorem ref05_SamePacket_w {p0 p1 vp0_2 zp0_2 gp0_2 op0_2 vp0_4 zp0_4 gp0_4 op0_4 vp0_39 zp0_39 gp0_39 op0_39 vp1_2 zp1_2 gp1_2 op1_2 vp1_4 zp1_4 gp1_4 op1_4 vp1_39 zp1_39 gp1_39 op1_39 r} (hm : ref05_SamePacket p0 p1 = some r) {w : World} (hp0_2 : Rd w zp0_2 gp0_2 op0_2 18 vp0_2 (p0.Head.Items.map TItem.cs)) (hp0_4 : Rd w zp0_4 gp0_4 op0_4 2 vp0_4 (p0.Head.Points.map TPoint.cs)) (hp0_39 : Rd w zp0_39 gp0_39 op0_39 1 vp0_39 (p0.Data.map bvc)) (hp1_2 : Rd w zp1_2 gp1_2 op1_2 18 vp1_2 (p1.Head.Items.map TItem.cs)) (hp1_4 : Rd w zp1_4 gp1_4 op1_4 2 vp1_4 (p1.Head.Points.map TPoint.cs)) (hp1_39 : Rd w zp1_39 gp1_39 op1_39 1 vp1_39 (p1.Data.map bvc)) :
    Calls Tryz.prog 12 [.agg (TPacket.cs p0 vp0_2 vp0_4 vp0_39).toArray, .agg (TPacket.cs p1 vp1_2 vp1_4 vp1_39).toArray].toArray w fun e w' => ∃ v, e = .returned v ∧ (v = .bool r ∧ Gr w w') := by
 have lt1 := hp0_2.lth
 have lt2 := hp0_4.lth
 have lt3 := hp0_39.lth
 have lt4 := hp1_2.lth
 have lt5 := hp1_4.lth
 have lt6 := hp1_39.lth
 unfold ref05_SamePacket at hm
 refine calls_of_sw 54 Tryz.func12 rfl rfl rfl<|qs 3 rfl<|qe rfl (ev_box (cs := TPacket.cs p0 vp0_2 vp0_4 vp0_39) rfl rfl) ?_
 rintro _ w1 ⟨b1, rfl, hbw1, Bw1, G1⟩
 have z7 := G1.size
 have lt8 := Bw1.lt
 refine qe rfl (ev_box (cs := TPacket.cs p1 vp1_2 vp1_4 vp1_39) rfl rfl) ?_
 rintro _ w2 ⟨b2, rfl, hbw2, Bw2, G2⟩
 have z9 := G2.size
 have lt10 := Bw2.lt
 refine qm rfl<|qd 50 rfl<|qv rfl (vv_fieldAddr fa_38_0 rfl) ?_
 have B11 := (Bw1.gr G2)
 refine qv rfl (vv_load1 (v := bv p0.Kind) one_5 rfl B11 rfl)<|qv rfl (vv_fieldAddr fa_38_0 rfl)<|qv rfl (vv_load1 (v := bv p1.Kind) one_5 rfl Bw2 rfl)<|qv rfl (vv_eqlB (p := p0.Kind) (q := p1.Kind) rfl rfl)<|qpF rfl (vv_move rfl) (fun c1 => ?_) (fun c1 => ?_)
 · replace hm := iF c1 hm
   refine qk rfl<|qk rfl<|qk rfl<|qk rfl<|qk rfl<|qm rfl<|qm rfl ?_
   refine qk rfl<|qk rfl<|qk rfl<|qk rfl<|qk rfl<|qm rfl<|qm rfl ?_
   refine qk rfl<|qk rfl<|qk rfl<|qk rfl<|qk rfl<|qm rfl<|qm rfl ?_
   refine qk rfl<|qk rfl<|qk rfl<|qk rfl<|qk rfl<|qm rfl<|qm rfl ?_
   refine qk rfl<|qk rfl<|qk rfl<|qk rfl<|qk rfl<|qk rfl<|qk rfl ?_
   refine qm rfl<|qm rfl<|qk rfl<|qk rfl<|qk rfl<|qk rfl<|qk rfl ?_
   refine qm rfl<|qm rfl<|sd_done<|sw_ret ?_
   have Y1 := Gr.trans G1 G2
   have X27 := ((Gr.refl w).trans Y1)
   cases hm
   refine ⟨_, _, rfl, res_1 rfl (rv_tmp rfl), ?_⟩
   exact ⟨rfl, X27⟩
 replace hm := iT c1 hm
 refine qv rfl (vv_fieldAddr fa_38_1 rfl)<|qv rfl (vv_load1 (v := .int .i64 p0.Epoch) one_3 rfl B11 rfl)<|qv rfl (vv_fieldAddr fa_38_1 rfl)<|qv rfl (vv_load1 (v := .int .i64 p1.Epoch) one_3 rfl Bw2 rfl)<|qv rfl (vv_eql (a := p0.Epoch) (b := p1.Epoch) rfl rfl)<|qm rfl<|qpF rfl (vv_move rfl) (fun c2 => ?_) (fun c2 => ?_)
 · replace hm := iF c2 hm
   refine qk rfl<|qk rfl<|qk rfl<|qk rfl<|qk rfl<|qm rfl<|qm rfl ?_
   refine qk rfl<|qk rfl<|qk rfl<|qk rfl<|qk rfl<|qm rfl<|qm rfl ?_
   refine qk rfl<|qk rfl<|qk rfl<|qk rfl<|qk rfl<|qm rfl<|qm rfl ?_
   refine qk rfl<|qk rfl<|qk rfl<|qk rfl<|qk rfl<|qk rfl<|qk rfl ?_
   refine qm rfl<|qm rfl<|qk rfl<|qk rfl<|qk rfl<|qk rfl<|qk rfl ?_
   refine qm rfl<|qm rfl<|sd_done<|sw_ret ?_
   have Y2 := Gr.trans G1 G2
   have X26 := ((Gr.refl w).trans Y2)
   cases hm
   refine ⟨_, _, rfl, res_1 rfl (rv_tmp rfl), ?_⟩
   exact ⟨rfl, X26⟩
 replace hm := iT c2 hm
 refine qv rfl (vv_fieldAddr fa_38_2 rfl)<|qv rfl (vv_loadM (vs := THeader.cs p0.Head vp0_2 vp0_4) agg_36 rfl B11 rfl rfl)<|qv rfl (vv_fieldAddr fa_38_2 rfl)<|qv rfl (vv_loadM (vs := THeader.cs p1.Head vp1_2 vp1_4) agg_36 rfl Bw2 rfl rfl) ?_
 have Y3 := Gr.trans G1 G2
 have B12 := (hp0_2.gr Y3)
 have B13 := (hp0_4.gr Y3)
 have B14 := (hp1_2.gr Y3)
 have B15 := (hp1_4.gr Y3)
 obtain ⟨x1, hx1, hm⟩ := bnd hm
 refine qe rfl (eC en_55 rfl (ref05_SameHeader_w hx1 B12 B13 B14 B15)) ?_
 rintro _ w3 ⟨rfl, G3⟩
 have z16 := G3.size
 refine qm rfl<|qpF rfl (vv_move rfl) (fun c3 => ?_) (fun c3 => ?_)
 · replace hm := cnd_f c3 hm
   refine qk rfl<|qk rfl<|qk rfl<|qk rfl<|qk rfl<|qm rfl<|qm rfl ?_
   refine qk rfl<|qk rfl<|qk rfl<|qk rfl<|qk rfl<|qm rfl<|qm rfl ?_
   refine qk rfl<|qk rfl<|qk rfl<|qk rfl<|qk rfl<|qk rfl<|qk rfl ?_
   refine qm rfl<|qm rfl<|qk rfl<|qk rfl<|qk rfl<|qk rfl<|qk rfl ?_
   refine qm rfl<|qm rfl<|sd_done<|sw_ret ?_
   have Y4 := Gr.trans Y3 G3
   have X25 := ((Gr.refl w).trans Y4)
   cases hm
   refine ⟨_, _, rfl, res_1 rfl (rv_tmp rfl), ?_⟩
   exact ⟨rfl, X25⟩
 replace hm := cnd_t c3 hm
 refine qv rfl (vv_fieldAddr fa_38_3 rfl) ?_
 have B17 := (B11.gr G3)
 refine qv rfl (vv_load1 (v := bv p0.Low) one_5 rfl B17 rfl)<|qv rfl (vv_fieldAddr fa_38_3 rfl) ?_
 have B18 := (Bw2.gr G3)
 refine qv rfl (vv_load1 (v := bv p1.Low) one_5 rfl B18 rfl)<|qv rfl (vv_eqlB (p := p0.Low) (q := p1.Low) rfl rfl)<|qm rfl<|qpF rfl (vv_move rfl) (fun c4 => ?_) (fun c4 => ?_)
 · replace hm := iF c4 hm
   refine qk rfl<|qk rfl<|qk rfl<|qk rfl<|qk rfl<|qm rfl<|qm rfl ?_
   refine qk rfl<|qk rfl<|qk rfl<|qk rfl<|qk rfl<|qk rfl<|qk rfl ?_
   refine qm rfl<|qm rfl<|qk rfl<|qk rfl<|qk rfl<|qk rfl<|qk rfl ?_
   refine qm rfl<|qm rfl<|sd_done<|sw_ret ?_
   have Y5 := Gr.trans Y3 G3
   have X24 := ((Gr.refl w).trans Y5)
   cases hm
   refine ⟨_, _, rfl, res_1 rfl (rv_tmp rfl), ?_⟩
   exact ⟨rfl, X24⟩
 replace hm := iT c4 hm
 refine qv rfl (vv_fieldAddr fa_38_4 rfl)<|qv rfl (vv_load1 (v := wv p0.Number) one_24 rfl B17 rfl)<|qv rfl (vv_fieldAddr fa_38_4 rfl)<|qv rfl (vv_load1 (v := wv p1.Number) one_24 rfl B18 rfl)<|qv rfl (vv_eqlU (c := p0.Number) (d := p1.Number) rfl rfl)<|qm rfl<|qpF rfl (vv_move rfl) (fun c5 => ?_) (fun c5 => ?_)
 · replace hm := iF c5 hm
   refine qk rfl<|qk rfl<|qk rfl<|qk rfl<|qk rfl<|qk rfl<|qk rfl ?_
   refine qm rfl<|qm rfl<|qk rfl<|qk rfl<|qk rfl<|qk rfl<|qk rfl ?_
   refine qm rfl<|qm rfl<|sd_done<|sw_ret ?_
   have Y6 := Gr.trans Y3 G3
   have X23 := ((Gr.refl w).trans Y6)
   cases hm
   refine ⟨_, _, rfl, res_1 rfl (rv_tmp rfl), ?_⟩
   exact ⟨rfl, X23⟩
 replace hm := iT c5 hm
 refine qv rfl (vv_fieldAddr fa_38_5 rfl)<|qv rfl (vv_load1 (v := vp0_39) one_32 rfl B17 rfl) ?_
 have Y7 := Gr.trans Y3 G3
 have B19 := (hp0_39.gr Y7)
 refine qv rfl (vv_b2s (l := p0.Data) Tryz.underlying32 Tryz.underlying5 Tryz.underlying9 rfl B19)<|qv rfl (vv_fieldAddr fa_38_5 rfl)<|qv rfl (vv_load1 (v := vp1_39) one_32 rfl B18 rfl) ?_
 have B20 := (hp1_39.gr Y7)
 refine qv rfl (vv_b2s (l := p1.Data) Tryz.underlying32 Tryz.underlying5 Tryz.underlying9 rfl B20)<|qv rfl (vv_eqlT (l := p0.Data) (m := p1.Data) rfl rfl)<|qm rfl<|qpF rfl (vv_move rfl) (fun c6 => ?_) (fun c6 => ?_)
 · replace hm := iF c6 hm
   refine qk rfl<|qk rfl<|qk rfl<|qk rfl<|qk rfl<|qm rfl<|qm rfl ?_
   refine sd_done<|sw_ret ?_
   have X22 := ((Gr.refl w).trans Y7)
   cases hm
   refine ⟨_, _, rfl, res_1 rfl (rv_tmp rfl), ?_⟩
   exact ⟨rfl, X22⟩
 replace hm := iT c6 hm
 refine qv rfl (vv_fieldAddr fa_38_6 rfl)<|qv rfl (vv_loadM (vs := kb p0.Mac) agg_23 rfl B17 rfl rfl)<|qv rfl (vv_fieldAddr fa_38_6 rfl)<|qv rfl (vv_loadM (vs := kb p1.Mac) agg_23 rfl B18 rfl rfl)<|qv rfl (vv_eqlS (cf := kb) (a := p0.Mac) (b := p1.Mac) eqt_23 rfl rfl rfl rfl (fun h => kb_inj h))<|qm rfl<|qm rfl ?_
 refine sd_done<|sw_ret ?_
 have X21 := ((Gr.refl w).trans Y7)
 cases hm
 refine ⟨_, _, rfl, res_1 rfl (rv_tmp rfl), ?_⟩
 exact ⟨rfl, X21⟩
end Go.Proofs.YtgdojjniakpadaaGreat.Mx
