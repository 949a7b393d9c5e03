/- Walks that follow mirrors: Ye. Printed by mx.py. -/
import Derived.Test.YtjdffpglgkefmaaGreatYd
import Derived.Test.YtjdffpglgkefmaaGreatZd
set_option linter.unusedVariables false
set_option linter.unusedSimpArgs false
set_option maxRecDepth 100000
set_option maxHeartbeats 2000000
namespace Go.Proofs.YtjdffpglgkefmaaGreat.Mx
open Go Go.RowKit Go.Sx
theorem en_61 : En Tryz.prog 61 := fun _ _ => by kernel_rfl
theorem zv_122 : ZV Tryz.prog 122 (.agg [.nilFunc, .nilFunc, .nilFunc, .nilFunc].toArray) := fun _ => by kernel_rfl
theorem one_40 : One Tryz.prog 40 := fun _ => ⟨by kernel_rfl, by kernel_rfl⟩
theorem one_36 : One Tryz.prog 36 := fun _ => ⟨by kernel_rfl, by kernel_rfl⟩
theorem one_58 : One Tryz.prog 58 := fun _ => ⟨by kernel_rfl, by kernel_rfl⟩
theorem one_106 : One Tryz.prog 106 := fun _ => ⟨by kernel_rfl, by kernel_rfl⟩
theorem bs_122 : BS Tryz.prog 122 (fun i => [(0, 1), (1, 1), (2, 1), (3, 1)][i]?) [.nilFunc, .nilFunc, .nilFunc, .nilFunc] := bs_mk Tryz.underlying122 zv_122 ⟨rfl, (one_40).siz, rfl, (one_36).siz, rfl, (one_58).siz, rfl, (one_106).siz, trivial⟩
theorem agg_122 : Agg Tryz.prog 122 4 := fun _ => ⟨by kernel_rfl, by kernel_rfl⟩
theorem zv_206 : ZV Tryz.prog 206 (.agg [.nilFunc, .nilFunc, .nilFunc, .nilFunc, .nilFunc, .nilFunc, .nilFunc, .nilFunc, .nilFunc, .nilFunc, .nilFunc, .nilFunc, .nilFunc, .nilFunc, .nilFunc, .nilFunc, .nilFunc, .nilFunc, .nilFunc, .nilFunc].toArray) := fun _ => by kernel_rfl
theorem ba_206 : BA Tryz.prog 206 4 [.nilFunc, .nilFunc, .nilFunc, .nilFunc, .nilFunc, .nilFunc, .nilFunc, .nilFunc, .nilFunc, .nilFunc, .nilFunc, .nilFunc, .nilFunc, .nilFunc, .nilFunc, .nilFunc, .nilFunc, .nilFunc, .nilFunc, .nilFunc] := ⟨_, _, Tryz.underlying206, (agg_122).siz, zv_206⟩
theorem agg_206 : Agg Tryz.prog 206 20 := fun _ => ⟨by kernel_rfl, by kernel_rfl⟩
theorem cv_5_3 : CV Tryz.prog 5 3 .i64 := fun _ _ _ => by kernel_rfl
theorem fa_122_0 : FA Tryz.prog 122 0 0 := fun _ _ _ => by kernel_rfl
theorem en_67 : En Tryz.prog 67 := fun _ _ => by kernel_rfl
theorem en_51 : En Tryz.prog 51 := fun _ _ => by kernel_rfl
theorem en_52 : En Tryz.prog 52 := fun _ _ => by kernel_rfl
theorem fa_122_3 : FA Tryz.prog 122 3 3 := fun _ _ _ => by kernel_rfl
theorem en_15 : En Tryz.prog 15 := fun _ _ => by kernel_rfl
theorem en_138 : En Tryz.prog 138 := fun _ _ => by kernel_rfl
theorem en_139 : En Tryz.prog 139 := fun _ _ => by kernel_rfl
theorem en_49 : En Tryz.prog 49 := fun _ _ => by kernel_rfl
theorem fa_122_2 : FA Tryz.prog 122 2 2 := fun _ _ _ => by kernel_rfl
theorem en_53 : En Tryz.prog 53 := fun _ _ => by kernel_rfl
theorem en_50 : En Tryz.prog 50 := fun _ _ => by kernel_rfl
theorem en_65 : En Tryz.prog 65 := fun _ _ => by kernel_rfl
theorem en_66 : En Tryz.prog 66 := fun _ _ => by kernel_rfl
theorem en_20 : En Tryz.prog 20 := fun _ _ => by kernel_rfl
theorem en_68 : En Tryz.prog 68 := fun _ _ => by kernel_rfl
theorem en_16 : En Tryz.prog 16 := fun _ _ => by kernel_rfl
theorem en_69 : En Tryz.prog 69 := fun _ _ => by kernel_rfl
theorem en_70 : En Tryz.prog 70 := fun _ _ => by kernel_rfl
theorem en_71 : En Tryz.prog 71 := fun _ _ => by kernel_rfl
theorem en_72 : En Tryz.prog 72 := fun _ _ => by kernel_rfl
theorem en_73 : En Tryz.prog 73 := fun _ _ => by kernel_rfl
theorem fa_52_2 : FA Tryz.prog 52 2 2 := fun _ _ _ => by kernel_rfl
theorem fa_52_5 : FA Tryz.prog 52 5 39 := fun _ _ _ => by kernel_rfl
theorem one_50 : One Tryz.prog 50 := fun _ => ⟨by kernel_rfl, by kernel_rfl⟩
theorem eqc_131 : EqC Tryz.prog 2 131 [.i .i64, .i .i64] := eqc_struct Tryz.underlying131 (by kernel_rfl) agg_131 (show EqF _ 1 _ _ _ from (eqf_cons (ks1 := [.i .i64]) (ks2 := [.i .i64]) rfl (by simp) (eqc_3.up (by decide)) (eqf_cons (ks1 := [.i .i64]) (ks2 := []) rfl (by simp) (eqc_3.up (by decide)) (eqf_nil _))))
theorem eqc_133 : EqC Tryz.prog 3 133 [.i .i64, .i .i64, .i .u8, .i .u8, .i .u8, .i .u8, .i .u8, .i .u8, .i .u8, .i .u8, .i .u8, .i .u8, .i .u8, .i .u8, .i .u8, .i .u8, .i .u8, .i .u8] := eqc_struct Tryz.underlying133 (by kernel_rfl) agg_133 (show EqF _ 2 _ _ _ from (eqf_cons (ks1 := [.i .i64, .i .i64]) (ks2 := [.i .u8, .i .u8, .i .u8, .i .u8, .i .u8, .i .u8, .i .u8, .i .u8, .i .u8, .i .u8, .i .u8, .i .u8, .i .u8, .i .u8, .i .u8, .i .u8]) rfl (by simp) (eqc_131.up (by decide)) (eqf_cons (ks1 := [.i .u8, .i .u8, .i .u8, .i .u8, .i .u8, .i .u8, .i .u8, .i .u8, .i .u8, .i .u8, .i .u8, .i .u8, .i .u8, .i .u8, .i .u8, .i .u8]) (ks2 := []) rfl (by simp) (eqc_23.up (by decide)) (eqf_nil _))))
theorem eqt_133 : EqT Tryz.prog 133 [.i .i64, .i .i64, .i .u8, .i .u8, .i .u8, .i .u8, .i .u8, .i .u8, .i .u8, .i .u8, .i .u8, .i .u8, .i .u8, .i .u8, .i .u8, .i .u8, .i .u8, .i .u8] := ⟨by kernel_rfl, agg_133, 3, by decide, eqc_133⟩
theorem eqc_31 : EqC Tryz.prog 2 31 [.i .u64, .i .u64] := eqc_struct Tryz.underlying31 (by kernel_rfl) agg_31 (show EqF _ 1 _ _ _ from (eqf_cons (ks1 := [.i .u64]) (ks2 := [.i .u64]) rfl (by simp) (eqc_24.up (by decide)) (eqf_cons (ks1 := [.i .u64]) (ks2 := []) rfl (by simp) (eqc_24.up (by decide)) (eqf_nil _))))
theorem eqt_31 : EqT Tryz.prog 31 [.i .u64, .i .u64] := ⟨by kernel_rfl, agg_31, 2, by decide, eqc_31⟩
theorem epoch_isTick_w {p0 r} (hm : epoch_isTick p0 = some r) {w : World} :
    Calls Tryz.prog 67 [.int .i64 p0].toArray w fun e w' => ∃ v, e = .returned v ∧ (v = .bool r ∧ Gr w w') := by
 unfold epoch_isTick at hm
 refine calls_of_sw 9 Tryz.func67 rfl rfl rfl<|qs 1 rfl<|qm rfl<|qd 7 rfl<|qm rfl<|qv rfl (vv_geq (a := p0) (b := 0) rfl rfl)<|qp rfl (vv_move rfl) (fun c1 => ?_) (fun c1 => ?_)
 · replace hm := iT c1 hm
   refine qm rfl<|qv rfl (vv_leq (a := p0) (b := 1099511627776) rfl rfl)<|qm rfl<|qm rfl<|sd_done<|sw_ret ?_
   cases hm
   refine ⟨_, _, rfl, res_1 rfl (rv_tmp rfl), ?_⟩
   exact ⟨rfl, (Gr.refl w)⟩
 replace hm := iF c1 hm
 refine qk rfl<|qk rfl<|qm rfl<|qm rfl<|sd_done<|sw_ret ?_
 cases hm
 refine ⟨_, _, rfl, res_1 rfl (rv_tmp rfl), ?_⟩
 exact ⟨rfl, (Gr.refl w)⟩
theorem epoch_Session_w {p0 p1 r} (hm : epoch_Session p0 p1 = some r) {w : World} :
    Calls Tryz.prog 15 [kv p0, .int .i64 p1].toArray w fun e w' => ∃ v, e = .returned v ∧ (v = kv r ∧ Gr w w') := by
 unfold epoch_Session at hm
 refine calls_of_sw 9 Tryz.func15 rfl rfl rfl<|qs 2 rfl<|qe rfl (ev_box (cs := kb p0) rfl rfl) ?_
 rintro _ w1 ⟨b1, rfl, hbw1, Bw1, G1⟩
 have lt2 := Bw1.lt
 refine qe rfl (ev_alloc (cs := kb k0) zv_23 rfl) ?_
 rintro _ w2 ⟨b2, rfl, hbw2, Bw2, G2⟩
 refine qd 5 rfl ?_
 have B5 := (Bw1.gr G2)
 refine qv rfl (vv_loadW agg_23 rfl B5 rfl)<|qm rfl<|qv rfl (vv_cvIU cv_3_24 rfl)<|qe rfl (eC en_48 rfl (derive_c p0 (un8 50#8) (un8_nn _) (un8_le _) (wd p1) _)) ?_
 rintro _ w3 ⟨rfl, G3⟩
 have B7 := (Bw2.gr G3)
 refine qe rfl (ev_stW agg_23 rfl rfl rfl B7 rfl rfl) ?_
 rintro _ w4 ⟨Bw4, M4⟩
 refine sd_done<|sw_ret ?_
 have X9 := (((((Gr.refl w).trans G1).trans G2).trans G3).md M4)
 cases hm
 refine ⟨_, _, rfl, res_1 rfl (rv_cellW agg_23 rfl Bw4 rfl), ?_⟩
 exact ⟨rfl, X9⟩
theorem epoch_covered_w {p0 p1 p2 p3 p4 vp2 zp2 gp2 op2 r} (hm : epoch_covered p0 p1 p2 p3 p4 = some r) {w : World} (hp2 : Rd w zp2 gp2 op2 1 vp2 (p2.map ic)) :
    Calls Tryz.prog 138 [kv p0, .agg (TScheme.cs p1).toArray, vp2, kv p3, wv p4].toArray w fun e w' => ∃ v, e = .returned v ∧ (∃ ur0_0 zr0_0 gr0_0 ur0_2 zr0_2 gr0_2, v = .tuple [.agg (THeader.cs r.1 ur0_0 ur0_2).toArray, .int .i64 r.2].toArray ∧ Own w' zr0_0 gr0_0 133 18 ur0_0 (r.1.Items.map TItem.cs) ∧ Hdn (zr0_0 = 0 ∨ w.heap.size ≤ gr0_0) ∧ Own w' zr0_2 gr0_2 31 2 ur0_2 (r.1.Points.map TPoint.cs) ∧ Hdn (zr0_2 = 0 ∨ w.heap.size ≤ gr0_2) ∧ Hdn (zr0_2 = 0 ∨ zr0_0 = 0 ∨ gr0_2 ≠ gr0_0) ∧ Gr w w') := by
 unfold epoch_covered at hm
 refine calls_of_sw 31 Tryz.func138 rfl rfl rfl<|qs 5 rfl<|qe rfl (ev_box (cs := kb p0) rfl rfl) ?_
 rintro _ w1 ⟨b1, rfl, hbw1, Bw1, G1⟩
 have lt3 := Bw1.lt
 refine qe rfl (ev_box (cs := TScheme.cs p1) rfl rfl) ?_
 rintro _ w2 ⟨b2, rfl, hbw2, Bw2, G2⟩
 have lt5 := Bw2.lt
 refine qe rfl (ev_box (cs := kb p3) rfl rfl) ?_
 rintro _ w3 ⟨b3, rfl, hbw3, Bw3, G3⟩
 have lt7 := Bw3.lt
 refine qe rfl (ev_alloc (cs := THeader.cs (THeader.mk [] 0#64 [] k0 k0) (.slice none 0 0) (.slice none 0 0)) zv_48 rfl) ?_
 rintro _ w4 ⟨b4, rfl, hbw4, Bw4, G4⟩
 have lt9 := Bw4.lt
 refine qm rfl<|qd 8 rfl ?_
 have Y1 := Gr.trans G3 G4
 have B10 := (Bw2.gr Y1)
 refine qv rfl (vv_loadW agg_28 rfl B10 rfl)<|qm rfl ?_
 have Y2 := Gr.trans (Gr.trans G1 G2) Y1
 have B11 := (hp2.gr Y2)
 obtain ⟨x1, hx1, hm⟩ := bnd hm
 refine qe rfl (eC en_51 rfl (cover_Cover_w hx1 B11)) ?_
 rintro _ w5 ⟨u5_r0_s, z5_r0_s, g5_r0_s, rfl, O5_r0_s, f5_r0_s, G5⟩
 have z12 := G5.size
 refine qm rfl<|qm rfl<|qm rfl<|qm rfl<|qm rfl<|sd_done<|sw_seq<|qs 2 rfl<|qm rfl<|qv rfl (vv_neq (a := x1.2) (b := 0) rfl rfl)<|sd_done<|sw_cond rfl (fun c1 => ?_) (fun c1 => ?_)
 · replace hm := iT c1 hm
   refine qs 4 rfl<|qv rfl (vv_build (cs := THeader.cs (THeader.mk [] 0#64 [] k0 k0) (.slice none 0 0) (.slice none 0 0)) bs_48 rfl (by kernel_rfl))<|qm rfl ?_
   have B14 := (Bw4.gr G5)
   refine qe rfl (ev_stW agg_48 rfl rfl (THeader.cs_ones _ _ _ rfl rfl) B14 rfl rfl) ?_
   rintro _ w6 ⟨Bw6, M6⟩
   refine qm rfl<|qb ?_
   have X16 := ((((Gr.refl w).trans Y2).trans G5).md M6)
   cases hm
   refine ⟨_, _, rfl, res_2 rfl (rv_cellW agg_48 rfl Bw6 rfl) (rv_tmp rfl), ?_⟩
   exact ⟨(.slice none 0 0), 0, 0, (.slice none 0 0), 0, 0, rfl, (own_nil _ 0 133 18), ⟨.inl rfl⟩, (own_nil _ 0 31 2), ⟨.inl rfl⟩, ⟨(.inl rfl)⟩, X16⟩
 replace hm := iF c1 hm
 refine qu<|qs 9 rfl ?_
 have Y3 := Gr.trans (Gr.trans G2 Y1) G5
 have B17 := (Bw1.gr Y3)
 refine qv rfl (vv_loadW agg_23 rfl B17 rfl) ?_
 have B18 := (B10.gr G5)
 refine qv rfl (vv_loadW agg_28 rfl B18 rfl)<|qm rfl ?_
 have Y4 := Gr.trans G4 G5
 have B19 := (Bw3.gr Y4)
 refine qv rfl (vv_loadW agg_23 rfl B19 rfl) ?_
 obtain ⟨x2, hx2, hm⟩ := bnd hm
 refine qe rfl (eC en_52 rfl (cover_Seal_w hx2 (Own.rd O5_r0_s))) ?_
 rintro _ w7 ⟨u7_r0_0, z7_r0_0, g7_r0_0, u7_r0_2, z7_r0_2, g7_r0_2, rfl, O7_r0_0, f7_r0_0, O7_r0_2, f7_r0_2, d7_0, G7⟩
 refine qm rfl<|qm rfl ?_
 have B23 := ((Bw4.gr G5).gr G7)
 refine qe rfl (ev_stW agg_48 rfl rfl (THeader.cs_ones _ _ _ (Own.oneB O7_r0_0) (Own.oneB O7_r0_2)) B23 rfl rfl) ?_
 rintro _ w8 ⟨Bw8, M8⟩
 refine qm rfl<|sd_done<|sw_ret ?_
 have B25 := (O7_r0_0.md M8 (pb_0 f7_r0_0))
 have B26 := (O7_r0_2.md M8 (pb_0 f7_r0_2))
 have X27 := (((((Gr.refl w).trans Y2).trans G5).trans G7).md M8)
 cases hm
 refine ⟨_, _, rfl, res_2 rfl (rv_cellW agg_48 rfl Bw8 rfl) (rv_tmp rfl), ?_⟩
 exact ⟨u7_r0_0, z7_r0_0, g7_r0_0, u7_r0_2, z7_r0_2, g7_r0_2, rfl, B25, ⟨(pv_0 (A := (fun x => w.heap.size ≤ x)) f7_r0_0)⟩, B26, ⟨(pv_0 (A := (fun x => w.heap.size ≤ x)) f7_r0_2)⟩, ⟨(tk1 d7_0.o)⟩, X27⟩
theorem epoch_Seal_w {p0 p1 p2 p3 vp3 zp3 gp3 op3 r} (hm : epoch_Seal p0 p1 p2 p3 = some r) {w : World} (hp3 : Rd w zp3 gp3 op3 1 vp3 (p3.map ic)) :
    Calls Tryz.prog 23 [kv p0, .agg (TScheme.cs p1).toArray, .int .i64 p2, vp3].toArray w fun e w' => ∃ v, e = .returned v ∧ (∃ ur0_0 zr0_0 gr0_0 ur0_2 zr0_2 gr0_2, v = .tuple [.agg (THeader.cs r.1 ur0_0 ur0_2).toArray, .int .i64 r.2].toArray ∧ Own w' zr0_0 gr0_0 133 18 ur0_0 (r.1.Items.map TItem.cs) ∧ Hdn (zr0_0 = 0 ∨ w.heap.size ≤ gr0_0) ∧ Own w' zr0_2 gr0_2 31 2 ur0_2 (r.1.Points.map TPoint.cs) ∧ Hdn (zr0_2 = 0 ∨ w.heap.size ≤ gr0_2) ∧ Hdn (zr0_2 = 0 ∨ zr0_0 = 0 ∨ gr0_2 ≠ gr0_0) ∧ Gr w w') := by
 have lt1 := hp3.lth
 unfold epoch_Seal at hm
 refine calls_of_sw 38 Tryz.func23 rfl rfl rfl<|qs 4 rfl<|qe rfl (ev_box (cs := kb p0) rfl rfl) ?_
 rintro _ w1 ⟨b1, rfl, hbw1, Bw1, G1⟩
 have lt3 := Bw1.lt
 refine qe rfl (ev_box (cs := TScheme.cs p1) rfl rfl) ?_
 rintro _ w2 ⟨b2, rfl, hbw2, Bw2, G2⟩
 have lt5 := Bw2.lt
 refine qe rfl (ev_alloc (cs := THeader.cs (THeader.mk [] 0#64 [] k0 k0) (.slice none 0 0) (.slice none 0 0)) zv_48 rfl) ?_
 rintro _ w3 ⟨b3, rfl, hbw3, Bw3, G3⟩
 have lt7 := Bw3.lt
 refine qm rfl<|qd 8 rfl ?_
 have B8 := (Bw2.gr G3)
 refine qv rfl (vv_loadW agg_28 rfl B8 rfl)<|sd_inl 33 Tryz.func61 rfl rfl rfl en_61 rfl rfl rfl rfl rfl<|qs 3 rfl<|qe rfl (ev_box (cs := TScheme.cs p1) rfl rfl) ?_
 rintro _ w4 ⟨b4, rfl, hbw4, Bw4, G4⟩
 have lt10 := Bw4.lt
 refine qe rfl (ev_alloc (cs := [.nilFunc, .nilFunc, .nilFunc, .nilFunc]) zv_122 rfl) ?_
 rintro _ w5 ⟨b5, rfl, hbw5, Bw5, G5⟩
 have lt12 := Bw5.lt
 refine qm rfl<|qd 3 rfl<|qv rfl (vv_build (cs := [.func (.func 121) #[] #[], .func (.func 137) #[] #[], .func (.func 53) #[] #[], .func (.func 138) #[] #[]]) bs_122 rfl rfl)<|qe rfl (ev_alloc (cs := [.nilFunc, .nilFunc, .nilFunc, .nilFunc]) zv_122 rfl) ?_
 rintro _ w6 ⟨b6, rfl, hbw6, Bw6, G6⟩
 have lt14 := Bw6.lt
 refine qe rfl (ev_stW agg_122 rfl rfl rfl Bw6 rfl rfl) ?_
 rintro _ w7 ⟨Bw7, M7⟩
 have z15 := M7.size
 refine qd 8 rfl<|qv rfl (vv_build (cs := [.nilFunc, .nilFunc, .nilFunc, .nilFunc]) bs_122 rfl rfl)<|qv rfl (vv_loadM (vs := [.func (.func 121) #[] #[], .func (.func 137) #[] #[], .func (.func 53) #[] #[], .func (.func 138) #[] #[]]) agg_122 rfl Bw7 rfl rfl)<|qv rfl (vv_loadM (vs := [.func (.func 121) #[] #[], .func (.func 137) #[] #[], .func (.func 53) #[] #[], .func (.func 138) #[] #[]]) agg_122 rfl Bw7 rfl rfl)<|qv rfl (vv_loadM (vs := [.func (.func 121) #[] #[], .func (.func 137) #[] #[], .func (.func 53) #[] #[], .func (.func 138) #[] #[]]) agg_122 rfl Bw7 rfl rfl)<|qv rfl (vv_build (cs := [.func (.func 139) #[] #[], .func (.func 140) #[] #[], .func (.func 50) #[] #[], .func (.func 49) #[] #[]]) bs_122 rfl rfl)<|qv rfl (vv_buildA (cs := [.nilFunc, .nilFunc, .nilFunc, .nilFunc, .func (.func 121) #[] #[], .func (.func 137) #[] #[], .func (.func 53) #[] #[], .func (.func 138) #[] #[], .func (.func 121) #[] #[], .func (.func 137) #[] #[], .func (.func 53) #[] #[], .func (.func 138) #[] #[], .func (.func 121) #[] #[], .func (.func 137) #[] #[], .func (.func 53) #[] #[], .func (.func 138) #[] #[], .func (.func 139) #[] #[], .func (.func 140) #[] #[], .func (.func 50) #[] #[], .func (.func 49) #[] #[]]) ba_206 rfl rfl)<|qe rfl (ev_alloc (cs := [.nilFunc, .nilFunc, .nilFunc, .nilFunc, .nilFunc, .nilFunc, .nilFunc, .nilFunc, .nilFunc, .nilFunc, .nilFunc, .nilFunc, .nilFunc, .nilFunc, .nilFunc, .nilFunc, .nilFunc, .nilFunc, .nilFunc, .nilFunc]) zv_206 rfl) ?_
 rintro _ w8 ⟨b8, rfl, hbw8, Bw8, G8⟩
 have lt17 := Bw8.lt
 refine qe rfl (ev_stW agg_206 rfl rfl rfl Bw8 rfl rfl) ?_
 rintro _ w9 ⟨Bw9, M9⟩
 have z18 := M9.size
 refine sd_done<|sw_seq ?_
 have Y1 := Gr.trans (Gr.trans (Gr.trans (Gr.trans (Gr.trans G1 G2) G3) G4) G5) G6
 have X19 := (((((Gr.refl w).trans Y1).md M7).trans G8).md M9)
 refine qj (β := Bool) (rg 14 9) (fun a1 => [(22, .bool a1)]) (fun a1 wr => (epoch_Seal_J1 p0 p1 p2 p3 a1 = some r) ∧ Kz [] w9 wr) ?_ ?_
 · refine qg 9 rfl<|qv rfl (vv_fieldAddr fa_28_0 rfl) ?_
   have Y2 := Gr.trans G5 G6
   have B100 := ((((Bw4.gr Y2).md M7).gr G8).md M9)
   refine qv rfl (vv_load1 (v := bv p1.Kind) one_5 rfl B100 rfl)<|qv rfl (vv_lssB (p := p1.Kind) (q := 1#8) rfl rfl)<|qp rfl (vv_move rfl) (fun c8 => ?_) (fun c8 => ?_)
   · replace hm := iT c8 hm
     refine qk rfl<|qk rfl<|qk rfl<|qk rfl<|qm rfl<|sd_nil ?_
     exact ⟨rfl, true, sbq, hm, kz0⟩
   replace hm := iF c8 hm
   refine qv rfl (vv_fieldAddr fa_28_0 rfl)<|qv rfl (vv_load1 (v := bv p1.Kind) one_5 rfl B100 rfl)<|qv rfl (vv_cvBI cv_5_3 rfl)<|qv rfl (vv_geq (a := un8 p1.Kind) (b := 5) rfl rfl)<|qm rfl<|sd_nil ?_
   exact ⟨rfl, (decide ((5 : Int) ≤ un8 p1.Kind)), sbq, hm, kz0⟩
 clear hm; rintro a1 w10 ⟨hm, K10⟩
 have z20 := K10.size
 unfold epoch_Seal_J1 at hm
 refine sw_cond rfl (fun c1 => ?_) (fun c1 => ?_)
 · replace hm := cnd_t c1 hm
   refine qs 3 rfl<|qv rfl (vv_build (cs := [.nilFunc, .nilFunc, .nilFunc, .nilFunc]) bs_122 rfl rfl) ?_
   have B21 := (((((Bw5.gr G6).md M7).gr G8).md M9).kz K10)
   refine qe rfl (ev_stW agg_122 rfl rfl rfl B21 rfl rfl) ?_
   rintro _ w11 ⟨Bw11, M11⟩
   have z22 := M11.size
   refine qm rfl<|qb<|⟨_, _, rfl, res_2 rfl (rv_cellW agg_122 rfl Bw11 rfl) (rv_tmp rfl), ?_⟩
   refine qm rfl<|qm rfl<|qm rfl<|qe rfl (ev_alloc (cs := [.nilFunc, .nilFunc, .nilFunc, .nilFunc]) zv_122 rfl) ?_
   rintro _ w12 ⟨b12, rfl, hbw12, Bw12, G12⟩
   refine qe rfl (ev_stW agg_122 rfl rfl rfl Bw12 rfl rfl) ?_
   rintro _ w13 ⟨Bw13, M13⟩
   refine qm rfl<|sd_done<|sw_seq<|qs 2 rfl<|qm rfl<|qv rfl (vv_neq (a := 2) (b := 0) rfl rfl)<|sd_done<|sw_condT rfl<|qs 4 rfl<|qv rfl (vv_build (cs := THeader.cs (THeader.mk [] 0#64 [] k0 k0) (.slice none 0 0) (.slice none 0 0)) bs_48 rfl (by kernel_rfl))<|qm rfl ?_
   have Y3 := Gr.trans (Gr.trans G4 G5) G6
   have B26 := ((((((((Bw3.gr Y3).md M7).gr G8).md M9).kz K10).md M11).gr G12).md M13)
   refine qe rfl (ev_stW agg_48 rfl rfl (THeader.cs_ones _ _ _ rfl rfl) B26 rfl rfl) ?_
   rintro _ w14 ⟨Bw14, M14⟩
   refine qm rfl<|qb ?_
   have X28 := (((((X19.kz K10).md M11).trans G12).md M13).md M14)
   cases hm
   refine ⟨_, _, rfl, res_2 rfl (rv_cellW agg_48 rfl Bw14 rfl) (rv_tmp rfl), ?_⟩
   exact ⟨(.slice none 0 0), 0, 0, (.slice none 0 0), 0, 0, rfl, (own_nil _ 0 133 18), ⟨.inl rfl⟩, (own_nil _ 0 31 2), ⟨.inl rfl⟩, ⟨(.inl rfl)⟩, X28⟩
 replace hm := cnd_f c1 hm
 refine qu<|qs 6 rfl<|qv rfl (vv_fieldAddr fa_28_0 rfl) ?_
 have Y4 := Gr.trans G5 G6
 have B29 := (((((Bw4.gr Y4).md M7).gr G8).md M9).kz K10)
 refine qv rfl (vv_load1 (v := bv p1.Kind) one_5 rfl B29 rfl) ?_
 by_cases c2 : (un8 p1.Kind = 1 ∨ un8 p1.Kind = 2 ∨ un8 p1.Kind = 3)
 · replace hm := ite_t c2 hm
   refine qv rfl (vv_ixJ Tryz.underlying206 (agg_122).siz rfl rfl (by omega)) ?_
   have B30 := (Bw9.kz K10)
   refine qv rfl (vv_loadM (vs := [.func (.func 121) #[] #[], .func (.func 137) #[] #[], .func (.func 53) #[] #[], .func (.func 138) #[] #[]]) agg_122 rfl B30 (by rcases c2 with h | h | h <;> rw [h] <;> rfl) rfl)<|qe rfl (ev_alloc (cs := [.nilFunc, .nilFunc, .nilFunc, .nilFunc]) zv_122 rfl) ?_
   rintro _ w15 ⟨b15, rfl, hbw15, Bw15, G15⟩
   have lt32 := Bw15.lt
   refine qe rfl (ev_stW agg_122 rfl rfl rfl Bw15 rfl rfl) ?_
   rintro _ w16 ⟨Bw16, M16⟩
   have z33 := M16.size
   refine sd_done<|sw_seq<|dw [([b5])] [] (.leaf [(0,10),(1,10),(2,10),(3,10),(4,0),(5,0),(6,10)]) ?_
   intro w17 G17 zw17
   refine sdz_leaf ?_
   have B34 := (Bw16.gr G17)
   refine dh 0 rfl rfl (fun w hS => vv_loadM (vs := [.func (.func 121) #[] #[], .func (.func 137) #[] #[], .func (.func 53) #[] #[], .func (.func 138) #[] #[]]) agg_122 rfl (Bx.kp B34 hS) rfl rfl)<|dh 0 rfl rfl (fun w hS => vv_fieldAddr fa_122_0 rfl)<|dh 0 rfl rfl (fun w hS => vv_load1 (v := .func (.func 121) #[] #[]) one_40 rfl (Bx.kp B34 hS) rfl) ?_
   have B35 := (((B29.gr G15).md M16).gr G17)
   refine dh 0 rfl rfl (fun w hS => vv_loadW agg_28 rfl (Bx.kp B35 hS) rfl) ?_
   obtain ⟨x2, hx2, hm⟩ := bnd hm
   refine qz [] rfl (ev_callV en_121 rfl rfl (cover_Check_w hx2)) ⟨fun _ => tk0, trivial⟩ ?_
   rintro _ w18 ⟨rfl, G18⟩
   have z36 := G18.size
   refine kG G18 ?_
   have Y5 := Gr.trans G17 G18
   have B37 := ((((((((Bw5.gr G6).md M7).gr G8).md M9).kz K10).gr G15).md M16).gr Y5)
   refine qz [(1, b5)] rfl (ev_stW agg_122 rfl rfl rfl B37 rfl rfl) ⟨fun _ => tk0, trivial⟩ ?_
   rintro _ w19 ⟨Bw19, M19⟩
   have z38 := M19.size
   refine kM M19 ?_
   have S39 := (((Kp.refl ([b5]) w17).gr G18).md M19)
   refine dn 0 rfl rfl S39<|sd_done<|sw_ret<|⟨_, _, rfl, res_2 rfl (rv_cellW agg_122 rfl Bw19 rfl) (rv_tmp rfl), ?_⟩
   refine qm rfl<|qm rfl<|qm rfl<|qe rfl (ev_alloc (cs := [.nilFunc, .nilFunc, .nilFunc, .nilFunc]) zv_122 rfl) ?_
   rintro _ w20 ⟨b20, rfl, hbw20, Bw20, G20⟩
   have lt41 := Bw20.lt
   refine qe rfl (ev_stW agg_122 rfl rfl rfl Bw20 rfl rfl) ?_
   rintro _ w21 ⟨Bw21, M21⟩
   have z42 := M21.size
   refine qm rfl<|sd_done<|sw_seq<|qs 2 rfl<|qm rfl<|qv rfl (vv_neq (a := x2) (b := 0) rfl rfl)<|sd_done<|sw_cond rfl (fun c3 => ?_) (fun c3 => ?_)
   · replace hm := iT c3 hm
     refine qs 4 rfl<|qv rfl (vv_build (cs := THeader.cs (THeader.mk [] 0#64 [] k0 k0) (.slice none 0 0) (.slice none 0 0)) bs_48 rfl (by kernel_rfl))<|qm rfl ?_
     have Y6 := Gr.trans G4 Y4
     have B43 := (((((((((((Bw3.gr Y6).md M7).gr G8).md M9).kz K10).gr G15).md M16).gr Y5).md M19).gr G20).md M21)
     refine qe rfl (ev_stW agg_48 rfl rfl (THeader.cs_ones _ _ _ rfl rfl) B43 rfl rfl) ?_
     rintro _ w22 ⟨Bw22, M22⟩
     refine qm rfl<|qb ?_
     have X45 := ((((((((X19.kz K10).trans G15).md M16).trans Y5).md M19).trans G20).md M21).md M22)
     cases hm
     refine ⟨_, _, rfl, res_2 rfl (rv_cellW agg_48 rfl Bw22 rfl) (rv_tmp rfl), ?_⟩
     exact ⟨(.slice none 0 0), 0, 0, (.slice none 0 0), 0, 0, rfl, (own_nil _ 0 133 18), ⟨.inl rfl⟩, (own_nil _ 0 31 2), ⟨.inl rfl⟩, ⟨(.inl rfl)⟩, X45⟩
   replace hm := iF c3 hm
   refine qu<|sw_seq<|qs 3 rfl<|qm rfl ?_
   obtain ⟨x3, hx3, hm⟩ := bnd hm
   refine qe rfl (eC en_67 rfl (epoch_isTick_w hx3)) ?_
   rintro _ w23 ⟨rfl, G23⟩
   have z46 := G23.size
   refine qv rfl (vv_not rfl)<|sd_done<|sw_cond rfl (fun c4 => ?_) (fun c4 => ?_)
   · replace hm := cnd_t c4 hm
     refine qs 3 rfl<|qv rfl (vv_build (cs := THeader.cs (THeader.mk [] 0#64 [] k0 k0) (.slice none 0 0) (.slice none 0 0)) bs_48 rfl (by kernel_rfl)) ?_
     have Y7 := Gr.trans G4 Y4
     have B47 := ((((((((((((Bw3.gr Y7).md M7).gr G8).md M9).kz K10).gr G15).md M16).gr Y5).md M19).gr G20).md M21).gr G23)
     refine qe rfl (ev_stW agg_48 rfl rfl (THeader.cs_ones _ _ _ rfl rfl) B47 rfl rfl) ?_
     rintro _ w24 ⟨Bw24, M24⟩
     refine qm rfl<|qb ?_
     have X49 := (((((((((X19.kz K10).trans G15).md M16).trans Y5).md M19).trans G20).md M21).trans G23).md M24)
     cases hm
     refine ⟨_, _, rfl, res_2 rfl (rv_cellW agg_48 rfl Bw24 rfl) (rv_tmp rfl), ?_⟩
     exact ⟨(.slice none 0 0), 0, 0, (.slice none 0 0), 0, 0, rfl, (own_nil _ 0 133 18), ⟨.inl rfl⟩, (own_nil _ 0 31 2), ⟨.inl rfl⟩, ⟨(.inl rfl)⟩, X49⟩
   replace hm := cnd_f c4 hm
   refine qu<|sw_seq<|dw [([b3])] [] (.leaf [(0,10),(1,10),(2,10),(3,10),(4,10),(5,10),(6,10),(8,10),(9,10),(7,0),(10,0),(11,10),(12,10),(13,0),(14,10)]) ?_
   intro w25 G25 zw25
   refine sdz_leaf<|dh 0 rfl rfl (fun w hS => vv_fieldAddr fa_122_3 rfl) ?_
   have Y8 := Gr.trans G23 G25
   have B50 := (Bw21.gr Y8)
   refine dh 0 rfl rfl (fun w hS => vv_load1 (v := .func (.func 138) #[] #[]) one_106 rfl (Bx.kp B50 hS) rfl) ?_
   have Y9 := Gr.trans (Gr.trans (Gr.trans G2 G3) G4) Y4
   have B51 := ((((((((((((Bw1.gr Y9).md M7).gr G8).md M9).kz K10).gr G15).md M16).gr Y5).md M19).gr G20).md M21).gr Y8)
   refine dh 0 rfl rfl (fun w hS => vv_loadW agg_23 rfl (Bx.kp B51 hS) rfl) ?_
   have Y10 := Gr.trans G4 Y4
   have B52 := ((((((((((((B8.gr Y10).md M7).gr G8).md M9).kz K10).gr G15).md M16).gr Y5).md M19).gr G20).md M21).gr Y8)
   refine dh 0 rfl rfl (fun w hS => vv_loadW agg_28 rfl (Bx.kp B52 hS) rfl)<|dm 0 rfl rfl<|dh 0 rfl rfl (fun w hS => vv_loadW agg_23 rfl (Bx.kp B51 hS) rfl)<|dm 0 rfl rfl<|dm 0 rfl rfl<|dh 0 rfl rfl (fun w hS => vv_cvIU cv_3_24 rfl) ?_
   obtain ⟨x4, hx4, hm⟩ := bnd hm
   refine qz [] rfl (eC en_15 rfl (epoch_Session_w hx4)) ⟨fun _ => tk0, trivial⟩ ?_
   rintro _ w26 ⟨rfl, G26⟩
   have z53 := G26.size
   refine kG G26 ?_
   have B54 := (((((((((((((hp3.gr Y1).md M7 (pb_lt lt1)).gr G8).md M9 (pb_lt lt1)).kz K10).gr G15).md M16 (pb_lt lt1)).gr Y5).md M19 (pb_lt lt1)).gr G20).md M21 (pb_lt lt1)).gr Y8).gr G26)
   obtain ⟨x5, hx5, hm⟩ := bnd hm
   refine qz [] rfl (ev_callV en_138 rfl rfl (epoch_covered_w hx5 B54)) ⟨fun _ => tk0, trivial⟩ ?_
   rintro _ w27 ⟨u27_r0_0, z27_r0_0, g27_r0_0, u27_r0_2, z27_r0_2, g27_r0_2, rfl, O27_r0_0, f27_r0_0, O27_r0_2, f27_r0_2, d27_0, G27⟩
   refine kG G27 ?_
   have S58 := (((Kp.refl ([b3]) w25).gr G26).gr G27)
   refine dn 0 rfl rfl S58<|dn 0 rfl rfl S58 ?_
   have B59 := ((((((((((((((Bw3.gr Y10).md M7).gr G8).md M9).kz K10).gr G15).md M16).gr Y5).md M19).gr G20).md M21).gr Y8).gr G26).gr G27)
   refine qz [(1, b3)] rfl (ev_stW agg_48 rfl rfl (THeader.cs_ones _ _ _ (Own.oneB O27_r0_0) (Own.oneB O27_r0_2)) B59 rfl rfl) ⟨fun _ => tk0, trivial⟩ ?_
   rintro _ w28 ⟨Bw28, M28⟩
   refine kM M28 ?_
   have S61 := (S58.md M28)
   refine dn 0 rfl rfl S61<|sd_done<|sw_ret ?_
   have B62 := (O27_r0_0.md M28 (pb_0 f27_r0_0))
   have B63 := (O27_r0_2.md M28 (pb_0 f27_r0_2))
   have X64 := (((((((((((X19.kz K10).trans G15).md M16).trans Y5).md M19).trans G20).md M21).trans Y8).trans G26).trans G27).md M28)
   cases hm
   refine ⟨_, _, rfl, res_2 rfl (rv_cellW agg_48 rfl Bw28 rfl) (rv_tmp rfl), ?_⟩
   exact ⟨u27_r0_0, z27_r0_0, g27_r0_0, u27_r0_2, z27_r0_2, g27_r0_2, rfl, B62, ⟨(pv_0 (A := (fun x => w.heap.size ≤ x)) f27_r0_0)⟩, B63, ⟨(pv_0 (A := (fun x => w.heap.size ≤ x)) f27_r0_2)⟩, ⟨(tk1 d27_0.o)⟩, X64⟩
 replace hm := ite_f c2 hm
 by_cases c5 : (un8 p1.Kind = 4)
 · replace hm := ite_t c5 hm
   refine qv rfl (vv_ixJ Tryz.underlying206 (agg_122).siz rfl rfl (by omega)) ?_
   have B65 := (Bw9.kz K10)
   refine qv rfl (vv_loadM (vs := [.func (.func 139) #[] #[], .func (.func 140) #[] #[], .func (.func 50) #[] #[], .func (.func 49) #[] #[]]) agg_122 rfl B65 (by rw [c5]; rfl) rfl)<|qe rfl (ev_alloc (cs := [.nilFunc, .nilFunc, .nilFunc, .nilFunc]) zv_122 rfl) ?_
   rintro _ w29 ⟨b29, rfl, hbw29, Bw29, G29⟩
   have lt67 := Bw29.lt
   refine qe rfl (ev_stW agg_122 rfl rfl rfl Bw29 rfl rfl) ?_
   rintro _ w30 ⟨Bw30, M30⟩
   have z68 := M30.size
   refine sd_done<|sw_seq<|dw [([b5])] [] (.leaf [(0,10),(1,10),(2,10),(3,10),(4,0),(5,0),(6,10)]) ?_
   intro w31 G31 zw31
   refine sdz_leaf ?_
   have B69 := (Bw30.gr G31)
   refine dh 0 rfl rfl (fun w hS => vv_loadM (vs := [.func (.func 139) #[] #[], .func (.func 140) #[] #[], .func (.func 50) #[] #[], .func (.func 49) #[] #[]]) agg_122 rfl (Bx.kp B69 hS) rfl rfl)<|dh 0 rfl rfl (fun w hS => vv_fieldAddr fa_122_0 rfl)<|dh 0 rfl rfl (fun w hS => vv_load1 (v := .func (.func 139) #[] #[]) one_40 rfl (Bx.kp B69 hS) rfl) ?_
   have B70 := (((B29.gr G29).md M30).gr G31)
   refine dh 0 rfl rfl (fun w hS => vv_loadW agg_28 rfl (Bx.kp B70 hS) rfl) ?_
   obtain ⟨x6, hx6, hm⟩ := bnd hm
   refine qz [] rfl (ev_callV en_139 rfl rfl (poly_Check_w hx6)) ⟨fun _ => tk0, trivial⟩ ?_
   rintro _ w32 ⟨rfl, G32⟩
   have z71 := G32.size
   refine kG G32 ?_
   have Y11 := Gr.trans G31 G32
   have B72 := ((((((((Bw5.gr G6).md M7).gr G8).md M9).kz K10).gr G29).md M30).gr Y11)
   refine qz [(1, b5)] rfl (ev_stW agg_122 rfl rfl rfl B72 rfl rfl) ⟨fun _ => tk0, trivial⟩ ?_
   rintro _ w33 ⟨Bw33, M33⟩
   have z73 := M33.size
   refine kM M33 ?_
   have S74 := (((Kp.refl ([b5]) w31).gr G32).md M33)
   refine dn 0 rfl rfl S74<|sd_done<|sw_ret<|⟨_, _, rfl, res_2 rfl (rv_cellW agg_122 rfl Bw33 rfl) (rv_tmp rfl), ?_⟩
   refine qm rfl<|qm rfl<|qm rfl<|qe rfl (ev_alloc (cs := [.nilFunc, .nilFunc, .nilFunc, .nilFunc]) zv_122 rfl) ?_
   rintro _ w34 ⟨b34, rfl, hbw34, Bw34, G34⟩
   have lt76 := Bw34.lt
   refine qe rfl (ev_stW agg_122 rfl rfl rfl Bw34 rfl rfl) ?_
   rintro _ w35 ⟨Bw35, M35⟩
   have z77 := M35.size
   refine qm rfl<|sd_done<|sw_seq<|qs 2 rfl<|qm rfl<|qv rfl (vv_neq (a := x6) (b := 0) rfl rfl)<|sd_done<|sw_cond rfl (fun c6 => ?_) (fun c6 => ?_)
   · replace hm := iT c6 hm
     refine qs 4 rfl<|qv rfl (vv_build (cs := THeader.cs (THeader.mk [] 0#64 [] k0 k0) (.slice none 0 0) (.slice none 0 0)) bs_48 rfl (by kernel_rfl))<|qm rfl ?_
     have Y12 := Gr.trans G4 Y4
     have B78 := (((((((((((Bw3.gr Y12).md M7).gr G8).md M9).kz K10).gr G29).md M30).gr Y11).md M33).gr G34).md M35)
     refine qe rfl (ev_stW agg_48 rfl rfl (THeader.cs_ones _ _ _ rfl rfl) B78 rfl rfl) ?_
     rintro _ w36 ⟨Bw36, M36⟩
     refine qm rfl<|qb ?_
     have X80 := ((((((((X19.kz K10).trans G29).md M30).trans Y11).md M33).trans G34).md M35).md M36)
     cases hm
     refine ⟨_, _, rfl, res_2 rfl (rv_cellW agg_48 rfl Bw36 rfl) (rv_tmp rfl), ?_⟩
     exact ⟨(.slice none 0 0), 0, 0, (.slice none 0 0), 0, 0, rfl, (own_nil _ 0 133 18), ⟨.inl rfl⟩, (own_nil _ 0 31 2), ⟨.inl rfl⟩, ⟨(.inl rfl)⟩, X80⟩
   replace hm := iF c6 hm
   refine qu<|sw_seq<|qs 3 rfl<|qm rfl ?_
   obtain ⟨x7, hx7, hm⟩ := bnd hm
   refine qe rfl (eC en_67 rfl (epoch_isTick_w hx7)) ?_
   rintro _ w37 ⟨rfl, G37⟩
   have z81 := G37.size
   refine qv rfl (vv_not rfl)<|sd_done<|sw_cond rfl (fun c7 => ?_) (fun c7 => ?_)
   · replace hm := cnd_t c7 hm
     refine qs 3 rfl<|qv rfl (vv_build (cs := THeader.cs (THeader.mk [] 0#64 [] k0 k0) (.slice none 0 0) (.slice none 0 0)) bs_48 rfl (by kernel_rfl)) ?_
     have Y13 := Gr.trans G4 Y4
     have B82 := ((((((((((((Bw3.gr Y13).md M7).gr G8).md M9).kz K10).gr G29).md M30).gr Y11).md M33).gr G34).md M35).gr G37)
     refine qe rfl (ev_stW agg_48 rfl rfl (THeader.cs_ones _ _ _ rfl rfl) B82 rfl rfl) ?_
     rintro _ w38 ⟨Bw38, M38⟩
     refine qm rfl<|qb ?_
     have X84 := (((((((((X19.kz K10).trans G29).md M30).trans Y11).md M33).trans G34).md M35).trans G37).md M38)
     cases hm
     refine ⟨_, _, rfl, res_2 rfl (rv_cellW agg_48 rfl Bw38 rfl) (rv_tmp rfl), ?_⟩
     exact ⟨(.slice none 0 0), 0, 0, (.slice none 0 0), 0, 0, rfl, (own_nil _ 0 133 18), ⟨.inl rfl⟩, (own_nil _ 0 31 2), ⟨.inl rfl⟩, ⟨(.inl rfl)⟩, X84⟩
   replace hm := cnd_f c7 hm
   refine qu<|sw_seq<|dw [([b3])] [] (.leaf [(0,10),(1,10),(2,10),(3,10),(4,10),(5,10),(6,10),(8,10),(9,10),(7,0),(10,0),(11,10),(12,10),(13,0),(14,10)]) ?_
   intro w39 G39 zw39
   refine sdz_leaf<|dh 0 rfl rfl (fun w hS => vv_fieldAddr fa_122_3 rfl) ?_
   have Y14 := Gr.trans G37 G39
   have B85 := (Bw35.gr Y14)
   refine dh 0 rfl rfl (fun w hS => vv_load1 (v := .func (.func 49) #[] #[]) one_106 rfl (Bx.kp B85 hS) rfl) ?_
   have Y15 := Gr.trans (Gr.trans (Gr.trans G2 G3) G4) Y4
   have B86 := ((((((((((((Bw1.gr Y15).md M7).gr G8).md M9).kz K10).gr G29).md M30).gr Y11).md M33).gr G34).md M35).gr Y14)
   refine dh 0 rfl rfl (fun w hS => vv_loadW agg_23 rfl (Bx.kp B86 hS) rfl) ?_
   have Y16 := Gr.trans G4 Y4
   have B87 := ((((((((((((B8.gr Y16).md M7).gr G8).md M9).kz K10).gr G29).md M30).gr Y11).md M33).gr G34).md M35).gr Y14)
   refine dh 0 rfl rfl (fun w hS => vv_loadW agg_28 rfl (Bx.kp B87 hS) rfl)<|dm 0 rfl rfl<|dh 0 rfl rfl (fun w hS => vv_loadW agg_23 rfl (Bx.kp B86 hS) rfl)<|dm 0 rfl rfl<|dm 0 rfl rfl<|dh 0 rfl rfl (fun w hS => vv_cvIU cv_3_24 rfl) ?_
   obtain ⟨x8, hx8, hm⟩ := bnd hm
   refine qz [] rfl (eC en_15 rfl (epoch_Session_w hx8)) ⟨fun _ => tk0, trivial⟩ ?_
   rintro _ w40 ⟨rfl, G40⟩
   have z88 := G40.size
   refine kG G40 ?_
   have B89 := (((((((((((((hp3.gr Y1).md M7 (pb_lt lt1)).gr G8).md M9 (pb_lt lt1)).kz K10).gr G29).md M30 (pb_lt lt1)).gr Y11).md M33 (pb_lt lt1)).gr G34).md M35 (pb_lt lt1)).gr Y14).gr G40)
   obtain ⟨x9, hx9, hm⟩ := bnd hm
   refine qz [] rfl (ev_callV en_49 rfl rfl (poly_Seal_w hx9 B89)) ⟨fun _ => tk0, trivial⟩ ?_
   rintro _ w41 ⟨u41_r0_0, z41_r0_0, g41_r0_0, u41_r0_2, z41_r0_2, g41_r0_2, rfl, O41_r0_0, f41_r0_0, O41_r0_2, f41_r0_2, d41_0, G41⟩
   refine kG G41 ?_
   have S93 := (((Kp.refl ([b3]) w39).gr G40).gr G41)
   refine dn 0 rfl rfl S93<|dn 0 rfl rfl S93 ?_
   have B94 := ((((((((((((((Bw3.gr Y16).md M7).gr G8).md M9).kz K10).gr G29).md M30).gr Y11).md M33).gr G34).md M35).gr Y14).gr G40).gr G41)
   refine qz [(1, b3)] rfl (ev_stW agg_48 rfl rfl (THeader.cs_ones _ _ _ (Own.oneB O41_r0_0) (Own.oneB O41_r0_2)) B94 rfl rfl) ⟨fun _ => tk0, trivial⟩ ?_
   rintro _ w42 ⟨Bw42, M42⟩
   refine kM M42 ?_
   have S96 := (S93.md M42)
   refine dn 0 rfl rfl S96<|sd_done<|sw_ret ?_
   have B97 := (O41_r0_0.md M42 (pb_0 f41_r0_0))
   have B98 := (O41_r0_2.md M42 (pb_0 f41_r0_2))
   have X99 := (((((((((((X19.kz K10).trans G29).md M30).trans Y11).md M33).trans G34).md M35).trans Y14).trans G40).trans G41).md M42)
   cases hm
   refine ⟨_, _, rfl, res_2 rfl (rv_cellW agg_48 rfl Bw42 rfl) (rv_tmp rfl), ?_⟩
   exact ⟨u41_r0_0, z41_r0_0, g41_r0_0, u41_r0_2, z41_r0_2, g41_r0_2, rfl, B97, ⟨(pv_0 (A := (fun x => w.heap.size ≤ x)) f41_r0_0)⟩, B98, ⟨(pv_0 (A := (fun x => w.heap.size ≤ x)) f41_r0_2)⟩, ⟨(tk1 d41_0.o)⟩, X99⟩
 replace hm := ite_f c5 hm
 cases hm
theorem epoch_Open_w {p0 p1 p2 vp1_1 zp1_1 gp1_1 op1_1 vp2_0 zp2_0 gp2_0 op2_0 vp2_2 zp2_2 gp2_2 op2_2 r} (hm : epoch_Open p0 p1 p2 = some r) {w : World} (hp1_1 : Rd w zp1_1 gp1_1 op1_1 18 vp1_1 (p1.Labels.map TLabel.cs)) (hp2_0 : Rd w zp2_0 gp2_0 op2_0 18 vp2_0 (p2.Items.map TItem.cs)) (hp2_2 : Rd w zp2_2 gp2_2 op2_2 2 vp2_2 (p2.Points.map TPoint.cs)) :
    Calls Tryz.prog 25 [.agg (TScheme.cs p0).toArray, .agg (TSecret.cs p1 vp1_1).toArray, .agg (THeader.cs p2 vp2_0 vp2_2).toArray].toArray w fun e w' => ∃ v, e = .returned v ∧ (v = .tuple [kv r.1, .int .i64 r.2].toArray ∧ Gr w w') := by
 have lt1 := hp1_1.lth
 have lt2 := hp2_0.lth
 have lt3 := hp2_2.lth
 unfold epoch_Open at hm
 refine calls_of_sw 27 Tryz.func25 rfl rfl rfl<|qs 5 rfl<|qe rfl (ev_box (cs := TScheme.cs p0) rfl rfl) ?_
 rintro _ w1 ⟨b1, rfl, hbw1, Bw1, G1⟩
 have lt5 := Bw1.lt
 refine qe rfl (ev_box (cs := TSecret.cs p1 vp1_1) rfl rfl) ?_
 rintro _ w2 ⟨b2, rfl, hbw2, Bw2, G2⟩
 have lt7 := Bw2.lt
 refine qe rfl (ev_box (cs := THeader.cs p2 vp2_0 vp2_2) rfl rfl) ?_
 rintro _ w3 ⟨b3, rfl, hbw3, Bw3, G3⟩
 have lt9 := Bw3.lt
 refine qe rfl (ev_alloc (cs := kb k0) zv_23 rfl) ?_
 rintro _ w4 ⟨b4, rfl, hbw4, Bw4, G4⟩
 have lt11 := Bw4.lt
 refine qm rfl<|qd 8 rfl ?_
 have Y1 := Gr.trans (Gr.trans G2 G3) G4
 have B12 := (Bw1.gr Y1)
 refine qv rfl (vv_loadW agg_28 rfl B12 rfl)<|sd_inl 33 Tryz.func61 rfl rfl rfl en_61 rfl rfl rfl rfl rfl<|qs 3 rfl<|qe rfl (ev_box (cs := TScheme.cs p0) rfl rfl) ?_
 rintro _ w5 ⟨b5, rfl, hbw5, Bw5, G5⟩
 have lt14 := Bw5.lt
 refine qe rfl (ev_alloc (cs := [.nilFunc, .nilFunc, .nilFunc, .nilFunc]) zv_122 rfl) ?_
 rintro _ w6 ⟨b6, rfl, hbw6, Bw6, G6⟩
 have lt16 := Bw6.lt
 refine qm rfl<|qd 3 rfl<|qv rfl (vv_build (cs := [.func (.func 121) #[] #[], .func (.func 137) #[] #[], .func (.func 53) #[] #[], .func (.func 138) #[] #[]]) bs_122 rfl rfl)<|qe rfl (ev_alloc (cs := [.nilFunc, .nilFunc, .nilFunc, .nilFunc]) zv_122 rfl) ?_
 rintro _ w7 ⟨b7, rfl, hbw7, Bw7, G7⟩
 have lt18 := Bw7.lt
 refine qe rfl (ev_stW agg_122 rfl rfl rfl Bw7 rfl rfl) ?_
 rintro _ w8 ⟨Bw8, M8⟩
 have z19 := M8.size
 refine qd 8 rfl<|qv rfl (vv_build (cs := [.nilFunc, .nilFunc, .nilFunc, .nilFunc]) bs_122 rfl rfl)<|qv rfl (vv_loadM (vs := [.func (.func 121) #[] #[], .func (.func 137) #[] #[], .func (.func 53) #[] #[], .func (.func 138) #[] #[]]) agg_122 rfl Bw8 rfl rfl)<|qv rfl (vv_loadM (vs := [.func (.func 121) #[] #[], .func (.func 137) #[] #[], .func (.func 53) #[] #[], .func (.func 138) #[] #[]]) agg_122 rfl Bw8 rfl rfl)<|qv rfl (vv_loadM (vs := [.func (.func 121) #[] #[], .func (.func 137) #[] #[], .func (.func 53) #[] #[], .func (.func 138) #[] #[]]) agg_122 rfl Bw8 rfl rfl)<|qv rfl (vv_build (cs := [.func (.func 139) #[] #[], .func (.func 140) #[] #[], .func (.func 50) #[] #[], .func (.func 49) #[] #[]]) bs_122 rfl rfl)<|qv rfl (vv_buildA (cs := [.nilFunc, .nilFunc, .nilFunc, .nilFunc, .func (.func 121) #[] #[], .func (.func 137) #[] #[], .func (.func 53) #[] #[], .func (.func 138) #[] #[], .func (.func 121) #[] #[], .func (.func 137) #[] #[], .func (.func 53) #[] #[], .func (.func 138) #[] #[], .func (.func 121) #[] #[], .func (.func 137) #[] #[], .func (.func 53) #[] #[], .func (.func 138) #[] #[], .func (.func 139) #[] #[], .func (.func 140) #[] #[], .func (.func 50) #[] #[], .func (.func 49) #[] #[]]) ba_206 rfl rfl)<|qe rfl (ev_alloc (cs := [.nilFunc, .nilFunc, .nilFunc, .nilFunc, .nilFunc, .nilFunc, .nilFunc, .nilFunc, .nilFunc, .nilFunc, .nilFunc, .nilFunc, .nilFunc, .nilFunc, .nilFunc, .nilFunc, .nilFunc, .nilFunc, .nilFunc, .nilFunc]) zv_206 rfl) ?_
 rintro _ w9 ⟨b9, rfl, hbw9, Bw9, G9⟩
 have lt21 := Bw9.lt
 refine qe rfl (ev_stW agg_206 rfl rfl rfl Bw9 rfl rfl) ?_
 rintro _ w10 ⟨Bw10, M10⟩
 have z22 := M10.size
 refine sd_done<|sw_seq ?_
 have Y2 := Gr.trans (Gr.trans (Gr.trans (Gr.trans G1 Y1) G5) G6) G7
 have X23 := (((((Gr.refl w).trans Y2).md M8).trans G9).md M10)
 refine qj (β := Bool) (rg 14 9) (fun a1 => [(22, .bool a1)]) (fun a1 wr => (epoch_Open_J1 p0 p1 p2 a1 = some r) ∧ Kz [] w10 wr) ?_ ?_
 · refine qg 9 rfl<|qv rfl (vv_fieldAddr fa_28_0 rfl) ?_
   have Y3 := Gr.trans G6 G7
   have B86 := ((((Bw5.gr Y3).md M8).gr G9).md M10)
   refine qv rfl (vv_load1 (v := bv p0.Kind) one_5 rfl B86 rfl)<|qv rfl (vv_lssB (p := p0.Kind) (q := 1#8) rfl rfl)<|qp rfl (vv_move rfl) (fun c6 => ?_) (fun c6 => ?_)
   · replace hm := iT c6 hm
     refine qk rfl<|qk rfl<|qk rfl<|qk rfl<|qm rfl<|sd_nil ?_
     exact ⟨rfl, true, sbq, hm, kz0⟩
   replace hm := iF c6 hm
   refine qv rfl (vv_fieldAddr fa_28_0 rfl)<|qv rfl (vv_load1 (v := bv p0.Kind) one_5 rfl B86 rfl)<|qv rfl (vv_cvBI cv_5_3 rfl)<|qv rfl (vv_geq (a := un8 p0.Kind) (b := 5) rfl rfl)<|qm rfl<|sd_nil ?_
   exact ⟨rfl, (decide ((5 : Int) ≤ un8 p0.Kind)), sbq, hm, kz0⟩
 clear hm; rintro a1 w11 ⟨hm, K11⟩
 have z24 := K11.size
 unfold epoch_Open_J1 at hm
 refine sw_cond rfl (fun c1 => ?_) (fun c1 => ?_)
 · replace hm := cnd_t c1 hm
   refine qs 3 rfl<|qv rfl (vv_build (cs := [.nilFunc, .nilFunc, .nilFunc, .nilFunc]) bs_122 rfl rfl) ?_
   have B25 := (((((Bw6.gr G7).md M8).gr G9).md M10).kz K11)
   refine qe rfl (ev_stW agg_122 rfl rfl rfl B25 rfl rfl) ?_
   rintro _ w12 ⟨Bw12, M12⟩
   have z26 := M12.size
   refine qm rfl<|qb<|⟨_, _, rfl, res_2 rfl (rv_cellW agg_122 rfl Bw12 rfl) (rv_tmp rfl), ?_⟩
   refine qm rfl<|qm rfl<|qm rfl<|qe rfl (ev_alloc (cs := [.nilFunc, .nilFunc, .nilFunc, .nilFunc]) zv_122 rfl) ?_
   rintro _ w13 ⟨b13, rfl, hbw13, Bw13, G13⟩
   refine qe rfl (ev_stW agg_122 rfl rfl rfl Bw13 rfl rfl) ?_
   rintro _ w14 ⟨Bw14, M14⟩
   refine qm rfl<|sd_done<|sw_seq<|qs 2 rfl<|qm rfl<|qv rfl (vv_neq (a := 2) (b := 0) rfl rfl)<|sd_done<|sw_condT rfl<|qs 4 rfl<|qv rfl (vv_buildZ bz_23)<|qm rfl ?_
   have Y4 := Gr.trans (Gr.trans G5 G6) G7
   have B30 := ((((((((Bw4.gr Y4).md M8).gr G9).md M10).kz K11).md M12).gr G13).md M14)
   refine qe rfl (ev_stW agg_23 rfl rfl rfl B30 rfl rfl) ?_
   rintro _ w15 ⟨Bw15, M15⟩
   refine qm rfl<|qb ?_
   have X32 := (((((X23.kz K11).md M12).trans G13).md M14).md M15)
   cases hm
   refine ⟨_, _, rfl, res_2 rfl (rv_cellW agg_23 rfl Bw15 rfl) (rv_tmp rfl), ?_⟩
   exact ⟨rfl, X32⟩
 replace hm := cnd_f c1 hm
 refine qu<|qs 6 rfl<|qv rfl (vv_fieldAddr fa_28_0 rfl) ?_
 have Y5 := Gr.trans G6 G7
 have B33 := (((((Bw5.gr Y5).md M8).gr G9).md M10).kz K11)
 refine qv rfl (vv_load1 (v := bv p0.Kind) one_5 rfl B33 rfl) ?_
 by_cases c2 : (un8 p0.Kind = 1 ∨ un8 p0.Kind = 2 ∨ un8 p0.Kind = 3)
 · replace hm := ite_t c2 hm
   refine qv rfl (vv_ixJ Tryz.underlying206 (agg_122).siz rfl rfl (by omega)) ?_
   have B34 := (Bw10.kz K11)
   refine qv rfl (vv_loadM (vs := [.func (.func 121) #[] #[], .func (.func 137) #[] #[], .func (.func 53) #[] #[], .func (.func 138) #[] #[]]) agg_122 rfl B34 (by rcases c2 with h | h | h <;> rw [h] <;> rfl) rfl)<|qe rfl (ev_alloc (cs := [.nilFunc, .nilFunc, .nilFunc, .nilFunc]) zv_122 rfl) ?_
   rintro _ w16 ⟨b16, rfl, hbw16, Bw16, G16⟩
   have lt36 := Bw16.lt
   refine qe rfl (ev_stW agg_122 rfl rfl rfl Bw16 rfl rfl) ?_
   rintro _ w17 ⟨Bw17, M17⟩
   have z37 := M17.size
   refine sd_done<|sw_seq<|dw [([b6])] [] (.leaf [(0,10),(1,10),(2,10),(3,10),(4,0),(5,0),(6,10)]) ?_
   intro w18 G18 zw18
   refine sdz_leaf ?_
   have B38 := (Bw17.gr G18)
   refine dh 0 rfl rfl (fun w hS => vv_loadM (vs := [.func (.func 121) #[] #[], .func (.func 137) #[] #[], .func (.func 53) #[] #[], .func (.func 138) #[] #[]]) agg_122 rfl (Bx.kp B38 hS) rfl rfl)<|dh 0 rfl rfl (fun w hS => vv_fieldAddr fa_122_0 rfl)<|dh 0 rfl rfl (fun w hS => vv_load1 (v := .func (.func 121) #[] #[]) one_40 rfl (Bx.kp B38 hS) rfl) ?_
   have B39 := (((B33.gr G16).md M17).gr G18)
   refine dh 0 rfl rfl (fun w hS => vv_loadW agg_28 rfl (Bx.kp B39 hS) rfl) ?_
   obtain ⟨x2, hx2, hm⟩ := bnd hm
   refine qz [] rfl (ev_callV en_121 rfl rfl (cover_Check_w hx2)) ⟨fun _ => tk0, trivial⟩ ?_
   rintro _ w19 ⟨rfl, G19⟩
   have z40 := G19.size
   refine kG G19 ?_
   have Y6 := Gr.trans G18 G19
   have B41 := ((((((((Bw6.gr G7).md M8).gr G9).md M10).kz K11).gr G16).md M17).gr Y6)
   refine qz [(1, b6)] rfl (ev_stW agg_122 rfl rfl rfl B41 rfl rfl) ⟨fun _ => tk0, trivial⟩ ?_
   rintro _ w20 ⟨Bw20, M20⟩
   have z42 := M20.size
   refine kM M20 ?_
   have S43 := (((Kp.refl ([b6]) w18).gr G19).md M20)
   refine dn 0 rfl rfl S43<|sd_done<|sw_ret<|⟨_, _, rfl, res_2 rfl (rv_cellW agg_122 rfl Bw20 rfl) (rv_tmp rfl), ?_⟩
   refine qm rfl<|qm rfl<|qm rfl<|qe rfl (ev_alloc (cs := [.nilFunc, .nilFunc, .nilFunc, .nilFunc]) zv_122 rfl) ?_
   rintro _ w21 ⟨b21, rfl, hbw21, Bw21, G21⟩
   refine qe rfl (ev_stW agg_122 rfl rfl rfl Bw21 rfl rfl) ?_
   rintro _ w22 ⟨Bw22, M22⟩
   refine qm rfl<|sd_done<|sw_seq<|qs 2 rfl<|qm rfl<|qv rfl (vv_neq (a := x2) (b := 0) rfl rfl)<|sd_done<|sw_cond rfl (fun c3 => ?_) (fun c3 => ?_)
   · replace hm := iT c3 hm
     refine qs 4 rfl<|qv rfl (vv_buildZ bz_23)<|qm rfl ?_
     have Y7 := Gr.trans G5 Y5
     have B47 := (((((((((((Bw4.gr Y7).md M8).gr G9).md M10).kz K11).gr G16).md M17).gr Y6).md M20).gr G21).md M22)
     refine qe rfl (ev_stW agg_23 rfl rfl rfl B47 rfl rfl) ?_
     rintro _ w23 ⟨Bw23, M23⟩
     refine qm rfl<|qb ?_
     have X49 := ((((((((X23.kz K11).trans G16).md M17).trans Y6).md M20).trans G21).md M22).md M23)
     cases hm
     refine ⟨_, _, rfl, res_2 rfl (rv_cellW agg_23 rfl Bw23 rfl) (rv_tmp rfl), ?_⟩
     exact ⟨rfl, X49⟩
   replace hm := iF c3 hm
   refine qu<|qs 10 rfl<|qv rfl (vv_fieldAddr fa_122_2 rfl)<|qv rfl (vv_load1 (v := .func (.func 53) #[] #[]) one_58 rfl Bw22 rfl) ?_
   have Y8 := Gr.trans G5 Y5
   have B50 := (((((((((((B12.gr Y8).md M8).gr G9).md M10).kz K11).gr G16).md M17).gr Y6).md M20).gr G21).md M22)
   refine qv rfl (vv_loadW agg_28 rfl B50 rfl) ?_
   have Y9 := Gr.trans (Gr.trans G3 G4) Y8
   have B51 := (((((((((((Bw2.gr Y9).md M8).gr G9).md M10).kz K11).gr G16).md M17).gr Y6).md M20).gr G21).md M22)
   refine qv rfl (vv_loadW agg_33 rfl B51 rfl) ?_
   have Y10 := Gr.trans G4 Y8
   have B52 := (((((((((((Bw3.gr Y10).md M8).gr G9).md M10).kz K11).gr G16).md M17).gr Y6).md M20).gr G21).md M22)
   refine qv rfl (vv_loadW agg_48 rfl B52 rfl) ?_
   have B53 := (((((((((((hp1_1.gr Y2).md M8 (pb_lt lt1)).gr G9).md M10 (pb_lt lt1)).kz K11).gr G16).md M17 (pb_lt lt1)).gr Y6).md M20 (pb_lt lt1)).gr G21).md M22 (pb_lt lt1))
   have B54 := (((((((((((hp2_0.gr Y2).md M8 (pb_lt lt2)).gr G9).md M10 (pb_lt lt2)).kz K11).gr G16).md M17 (pb_lt lt2)).gr Y6).md M20 (pb_lt lt2)).gr G21).md M22 (pb_lt lt2))
   have B55 := (((((((((((hp2_2.gr Y2).md M8 (pb_lt lt3)).gr G9).md M10 (pb_lt lt3)).kz K11).gr G16).md M17 (pb_lt lt3)).gr Y6).md M20 (pb_lt lt3)).gr G21).md M22 (pb_lt lt3))
   obtain ⟨x3, hx3, hm⟩ := bnd hm
   refine qe rfl (ev_callV en_53 rfl rfl (cover_Open_w hx3 B53 B54 B55)) ?_
   rintro _ w24 ⟨rfl, G24⟩
   refine qm rfl<|qm rfl ?_
   have B57 := ((((((((((((Bw4.gr Y8).md M8).gr G9).md M10).kz K11).gr G16).md M17).gr Y6).md M20).gr G21).md M22).gr G24)
   refine qe rfl (ev_stW agg_23 rfl rfl rfl B57 rfl rfl) ?_
   rintro _ w25 ⟨Bw25, M25⟩
   refine qm rfl<|sd_done<|sw_ret ?_
   have X59 := (((((((((X23.kz K11).trans G16).md M17).trans Y6).md M20).trans G21).md M22).trans G24).md M25)
   cases hm
   refine ⟨_, _, rfl, res_2 rfl (rv_cellW agg_23 rfl Bw25 rfl) (rv_tmp rfl), ?_⟩
   exact ⟨rfl, X59⟩
 replace hm := ite_f c2 hm
 by_cases c4 : (un8 p0.Kind = 4)
 · replace hm := ite_t c4 hm
   refine qv rfl (vv_ixJ Tryz.underlying206 (agg_122).siz rfl rfl (by omega)) ?_
   have B60 := (Bw10.kz K11)
   refine qv rfl (vv_loadM (vs := [.func (.func 139) #[] #[], .func (.func 140) #[] #[], .func (.func 50) #[] #[], .func (.func 49) #[] #[]]) agg_122 rfl B60 (by rw [c4]; rfl) rfl)<|qe rfl (ev_alloc (cs := [.nilFunc, .nilFunc, .nilFunc, .nilFunc]) zv_122 rfl) ?_
   rintro _ w26 ⟨b26, rfl, hbw26, Bw26, G26⟩
   have lt62 := Bw26.lt
   refine qe rfl (ev_stW agg_122 rfl rfl rfl Bw26 rfl rfl) ?_
   rintro _ w27 ⟨Bw27, M27⟩
   have z63 := M27.size
   refine sd_done<|sw_seq<|dw [([b6])] [] (.leaf [(0,10),(1,10),(2,10),(3,10),(4,0),(5,0),(6,10)]) ?_
   intro w28 G28 zw28
   refine sdz_leaf ?_
   have B64 := (Bw27.gr G28)
   refine dh 0 rfl rfl (fun w hS => vv_loadM (vs := [.func (.func 139) #[] #[], .func (.func 140) #[] #[], .func (.func 50) #[] #[], .func (.func 49) #[] #[]]) agg_122 rfl (Bx.kp B64 hS) rfl rfl)<|dh 0 rfl rfl (fun w hS => vv_fieldAddr fa_122_0 rfl)<|dh 0 rfl rfl (fun w hS => vv_load1 (v := .func (.func 139) #[] #[]) one_40 rfl (Bx.kp B64 hS) rfl) ?_
   have B65 := (((B33.gr G26).md M27).gr G28)
   refine dh 0 rfl rfl (fun w hS => vv_loadW agg_28 rfl (Bx.kp B65 hS) rfl) ?_
   obtain ⟨x4, hx4, hm⟩ := bnd hm
   refine qz [] rfl (ev_callV en_139 rfl rfl (poly_Check_w hx4)) ⟨fun _ => tk0, trivial⟩ ?_
   rintro _ w29 ⟨rfl, G29⟩
   have z66 := G29.size
   refine kG G29 ?_
   have Y11 := Gr.trans G28 G29
   have B67 := ((((((((Bw6.gr G7).md M8).gr G9).md M10).kz K11).gr G26).md M27).gr Y11)
   refine qz [(1, b6)] rfl (ev_stW agg_122 rfl rfl rfl B67 rfl rfl) ⟨fun _ => tk0, trivial⟩ ?_
   rintro _ w30 ⟨Bw30, M30⟩
   have z68 := M30.size
   refine kM M30 ?_
   have S69 := (((Kp.refl ([b6]) w28).gr G29).md M30)
   refine dn 0 rfl rfl S69<|sd_done<|sw_ret<|⟨_, _, rfl, res_2 rfl (rv_cellW agg_122 rfl Bw30 rfl) (rv_tmp rfl), ?_⟩
   refine qm rfl<|qm rfl<|qm rfl<|qe rfl (ev_alloc (cs := [.nilFunc, .nilFunc, .nilFunc, .nilFunc]) zv_122 rfl) ?_
   rintro _ w31 ⟨b31, rfl, hbw31, Bw31, G31⟩
   refine qe rfl (ev_stW agg_122 rfl rfl rfl Bw31 rfl rfl) ?_
   rintro _ w32 ⟨Bw32, M32⟩
   refine qm rfl<|sd_done<|sw_seq<|qs 2 rfl<|qm rfl<|qv rfl (vv_neq (a := x4) (b := 0) rfl rfl)<|sd_done<|sw_cond rfl (fun c5 => ?_) (fun c5 => ?_)
   · replace hm := iT c5 hm
     refine qs 4 rfl<|qv rfl (vv_buildZ bz_23)<|qm rfl ?_
     have Y12 := Gr.trans G5 Y5
     have B73 := (((((((((((Bw4.gr Y12).md M8).gr G9).md M10).kz K11).gr G26).md M27).gr Y11).md M30).gr G31).md M32)
     refine qe rfl (ev_stW agg_23 rfl rfl rfl B73 rfl rfl) ?_
     rintro _ w33 ⟨Bw33, M33⟩
     refine qm rfl<|qb ?_
     have X75 := ((((((((X23.kz K11).trans G26).md M27).trans Y11).md M30).trans G31).md M32).md M33)
     cases hm
     refine ⟨_, _, rfl, res_2 rfl (rv_cellW agg_23 rfl Bw33 rfl) (rv_tmp rfl), ?_⟩
     exact ⟨rfl, X75⟩
   replace hm := iF c5 hm
   refine qu<|qs 10 rfl<|qv rfl (vv_fieldAddr fa_122_2 rfl)<|qv rfl (vv_load1 (v := .func (.func 50) #[] #[]) one_58 rfl Bw32 rfl) ?_
   have Y13 := Gr.trans G5 Y5
   have B76 := (((((((((((B12.gr Y13).md M8).gr G9).md M10).kz K11).gr G26).md M27).gr Y11).md M30).gr G31).md M32)
   refine qv rfl (vv_loadW agg_28 rfl B76 rfl) ?_
   have Y14 := Gr.trans (Gr.trans G3 G4) Y13
   have B77 := (((((((((((Bw2.gr Y14).md M8).gr G9).md M10).kz K11).gr G26).md M27).gr Y11).md M30).gr G31).md M32)
   refine qv rfl (vv_loadW agg_33 rfl B77 rfl) ?_
   have Y15 := Gr.trans G4 Y13
   have B78 := (((((((((((Bw3.gr Y15).md M8).gr G9).md M10).kz K11).gr G26).md M27).gr Y11).md M30).gr G31).md M32)
   refine qv rfl (vv_loadW agg_48 rfl B78 rfl) ?_
   have B79 := (((((((((((hp1_1.gr Y2).md M8 (pb_lt lt1)).gr G9).md M10 (pb_lt lt1)).kz K11).gr G26).md M27 (pb_lt lt1)).gr Y11).md M30 (pb_lt lt1)).gr G31).md M32 (pb_lt lt1))
   have B80 := (((((((((((hp2_0.gr Y2).md M8 (pb_lt lt2)).gr G9).md M10 (pb_lt lt2)).kz K11).gr G26).md M27 (pb_lt lt2)).gr Y11).md M30 (pb_lt lt2)).gr G31).md M32 (pb_lt lt2))
   have B81 := (((((((((((hp2_2.gr Y2).md M8 (pb_lt lt3)).gr G9).md M10 (pb_lt lt3)).kz K11).gr G26).md M27 (pb_lt lt3)).gr Y11).md M30 (pb_lt lt3)).gr G31).md M32 (pb_lt lt3))
   obtain ⟨x5, hx5, hm⟩ := bnd hm
   refine qe rfl (ev_callV en_50 rfl rfl (poly_Open_w hx5 B79 B80 B81)) ?_
   rintro _ w34 ⟨rfl, G34⟩
   refine qm rfl<|qm rfl ?_
   have B83 := ((((((((((((Bw4.gr Y13).md M8).gr G9).md M10).kz K11).gr G26).md M27).gr Y11).md M30).gr G31).md M32).gr G34)
   refine qe rfl (ev_stW agg_23 rfl rfl rfl B83 rfl rfl) ?_
   rintro _ w35 ⟨Bw35, M35⟩
   refine qm rfl<|sd_done<|sw_ret ?_
   have X85 := (((((((((X23.kz K11).trans G26).md M27).trans Y11).md M30).trans G31).md M32).trans G34).md M35)
   cases hm
   refine ⟨_, _, rfl, res_2 rfl (rv_cellW agg_23 rfl Bw35 rfl) (rv_tmp rfl), ?_⟩
   exact ⟨rfl, X85⟩
 replace hm := ite_f c4 hm
 cases hm
theorem ref05_CheckScheme_w {p0 r} (hm : ref05_CheckScheme p0 = some r) {w : World} :
    Calls Tryz.prog 20 [.agg (TScheme.cs p0).toArray].toArray w fun e w' => ∃ v, e = .returned v ∧ (v = .int .i64 r ∧ Gr w w') := by
 unfold ref05_CheckScheme at hm
 refine calls_of_sw 18 Tryz.func20 rfl rfl rfl<|qs 2 rfl<|qe rfl (ev_box (cs := TScheme.cs p0) rfl rfl) ?_
 rintro _ w1 ⟨b1, rfl, hbw1, Bw1, G1⟩
 refine qm rfl<|sd_done<|sw_seq ?_
 have X3 := ((Gr.refl w).trans G1)
 refine qj (β := Bool) (rg 3 8) (fun a1 => [(10, .bool a1)]) (fun a1 wr => (ref05_CheckScheme_J1 p0 a1 = some r) ∧ Kz [] w1 wr) ?_ ?_
 · refine qg 8 rfl<|qv rfl (vv_fieldAddr fa_28_0 rfl)<|qv rfl (vv_load1 (v := bv p0.Kind) one_5 rfl Bw1 rfl)<|qv rfl (vv_geqB (p := p0.Kind) (q := 1#8) rfl rfl)<|qpF rfl (vv_move rfl) (fun c3 => ?_) (fun c3 => ?_)
   · replace hm := iF c3 hm
     refine qk rfl<|qk rfl<|qk rfl<|qm rfl<|sd_nil ?_
     exact ⟨rfl, false, sbq, hm, kz0⟩
   replace hm := iT c3 hm
   refine qv rfl (vv_fieldAddr fa_28_0 rfl)<|qv rfl (vv_load1 (v := bv p0.Kind) one_5 rfl Bw1 rfl)<|qv rfl (vv_leqB (p := p0.Kind) (q := 3#8) rfl rfl)<|qm rfl<|sd_nil ?_
   exact ⟨rfl, (decide (p0.Kind ≤ 3#8)), sbq, hm, kz0⟩
 clear hm; rintro a1 w2 ⟨hm, K2⟩
 unfold ref05_CheckScheme_J1 at hm
 refine sw_cond rfl (fun c1 => ?_) (fun c1 => ?_)
 · replace hm := cnd_t c1 hm
   refine qs 3 rfl ?_
   have B5 := (Bw1.kz K2)
   refine qv rfl (vv_loadW agg_28 rfl B5 rfl) ?_
   obtain ⟨x2, hx2, hm⟩ := bnd hm
   refine qe rfl (eC en_65 rfl (ref03_Check_w hx2)) ?_
   rintro _ w3 ⟨rfl, G3⟩
   refine qm rfl<|qb ?_
   have X7 := ((X3.kz K2).trans G3)
   cases hm
   refine ⟨_, _, rfl, res_1 rfl (rv_tmp rfl), ?_⟩
   exact ⟨rfl, X7⟩
 replace hm := cnd_f c1 hm
 refine qu<|sw_seq<|qs 3 rfl<|qv rfl (vv_fieldAddr fa_28_0 rfl) ?_
 have B8 := (Bw1.kz K2)
 refine qv rfl (vv_load1 (v := bv p0.Kind) one_5 rfl B8 rfl)<|qv rfl (vv_eqlB (p := p0.Kind) (q := 4#8) rfl rfl)<|sd_done<|cnF rfl (fun c2 => ?_) (fun c2 => ?_)
 · replace hm := iF c2 hm
   refine qu<|qs 1 rfl<|qm rfl<|sd_done<|sw_ret ?_
   have X11 := (X3.kz K2)
   cases hm
   refine ⟨_, _, rfl, res_1 rfl (rv_tmp rfl), ?_⟩
   exact ⟨rfl, X11⟩
 replace hm := iT c2 hm
 refine qs 3 rfl<|qv rfl (vv_loadW agg_28 rfl B8 rfl) ?_
 obtain ⟨x3, hx3, hm⟩ := bnd hm
 refine qe rfl (eC en_66 rfl (ref04_Check_w hx3)) ?_
 rintro _ w4 ⟨rfl, G4⟩
 refine qm rfl<|qb ?_
 have X10 := ((X3.kz K2).trans G4)
 cases hm
 refine ⟨_, _, rfl, res_1 rfl (rv_tmp rfl), ?_⟩
 exact ⟨rfl, X10⟩
theorem ref05_Tick_w {p0 r} (hm : ref05_Tick p0 = some r) {w : World} :
    Calls Tryz.prog 68 [.int .i64 p0].toArray w fun e w' => ∃ v, e = .returned v ∧ (v = .bool r ∧ Gr w w') := by
 unfold ref05_Tick at hm
 refine calls_of_sw 9 Tryz.func68 rfl rfl rfl<|qs 1 rfl<|qm rfl<|qd 7 rfl<|qm rfl<|qv rfl (vv_geq (a := p0) (b := 0) rfl rfl)<|qp rfl (vv_move rfl) (fun c1 => ?_) (fun c1 => ?_)
 · replace hm := iT c1 hm
   refine qm rfl<|qv rfl (vv_leq (a := p0) (b := 1099511627776) rfl rfl)<|qm rfl<|qm rfl<|sd_done<|sw_ret ?_
   cases hm
   refine ⟨_, _, rfl, res_1 rfl (rv_tmp rfl), ?_⟩
   exact ⟨rfl, (Gr.refl w)⟩
 replace hm := iF c1 hm
 refine qk rfl<|qk rfl<|qm rfl<|qm rfl<|sd_done<|sw_ret ?_
 cases hm
 refine ⟨_, _, rfl, res_1 rfl (rv_tmp rfl), ?_⟩
 exact ⟨rfl, (Gr.refl w)⟩
theorem ref05_Session_w {p0 p1 r} (hm : ref05_Session p0 p1 = some r) {w : World} :
    Calls Tryz.prog 16 [kv p0, .int .i64 p1].toArray w fun e w' => ∃ v, e = .returned v ∧ (v = kv r ∧ Gr w w') := by
 unfold ref05_Session at hm
 refine calls_of_sw 9 Tryz.func16 rfl rfl rfl<|qs 2 rfl<|qe rfl (ev_box (cs := kb p0) rfl rfl) ?_
 rintro _ w1 ⟨b1, rfl, hbw1, Bw1, G1⟩
 have lt2 := Bw1.lt
 refine qe rfl (ev_alloc (cs := kb k0) zv_23 rfl) ?_
 rintro _ w2 ⟨b2, rfl, hbw2, Bw2, G2⟩
 refine qd 5 rfl ?_
 have B5 := (Bw1.gr G2)
 refine qv rfl (vv_loadW agg_23 rfl B5 rfl)<|qm rfl<|qv rfl (vv_cvIU cv_3_24 rfl)<|qe rfl (eC en_64 rfl (rderive_c p0 (un8 50#8) (un8_nn _) (un8_le _) (wd p1) _)) ?_
 rintro _ w3 ⟨rfl, G3⟩
 have B7 := (Bw2.gr G3)
 refine qe rfl (ev_stW agg_23 rfl rfl rfl B7 rfl rfl) ?_
 rintro _ w4 ⟨Bw4, M4⟩
 refine sd_done<|sw_ret ?_
 have X9 := (((((Gr.refl w).trans G1).trans G2).trans G3).md M4)
 cases hm
 refine ⟨_, _, rfl, res_1 rfl (rv_cellW agg_23 rfl Bw4 rfl), ?_⟩
 exact ⟨rfl, X9⟩
theorem ref05_Seal_w {p0 p1 p2 p3 vp3 zp3 gp3 op3 r} (hm : ref05_Seal p0 p1 p2 p3 = some r) {w : World} (hp3 : Rd w zp3 gp3 op3 1 vp3 (p3.map ic)) :
    Calls Tryz.prog 24 [kv p0, .agg (TScheme.cs p1).toArray, .int .i64 p2, vp3].toArray w fun e w' => ∃ v, e = .returned v ∧ (∃ ur0_0 zr0_0 gr0_0 ur0_2 zr0_2 gr0_2, v = .tuple [.agg (THeader.cs r.1 ur0_0 ur0_2).toArray, .int .i64 r.2].toArray ∧ Own w' zr0_0 gr0_0 133 18 ur0_0 (r.1.Items.map TItem.cs) ∧ Hdn (zr0_0 = 0 ∨ w.heap.size ≤ gr0_0) ∧ Own w' zr0_2 gr0_2 31 2 ur0_2 (r.1.Points.map TPoint.cs) ∧ Hdn (zr0_2 = 0 ∨ w.heap.size ≤ gr0_2) ∧ Hdn (zr0_2 = 0 ∨ zr0_0 = 0 ∨ gr0_2 ≠ gr0_0) ∧ Gr w w') := by
 have lt1 := hp3.lth
 unfold ref05_Seal at hm
 refine calls_of_sw 56 Tryz.func24 rfl rfl rfl<|qs 4 rfl<|qe rfl (ev_box (cs := kb p0) rfl rfl) ?_
 rintro _ w1 ⟨b1, rfl, hbw1, Bw1, G1⟩
 have lt3 := Bw1.lt
 refine qe rfl (ev_box (cs := TScheme.cs p1) rfl rfl) ?_
 rintro _ w2 ⟨b2, rfl, hbw2, Bw2, G2⟩
 have lt5 := Bw2.lt
 refine qe rfl (ev_alloc (cs := THeader.cs (THeader.mk [] 0#64 [] k0 k0) (.slice none 0 0) (.slice none 0 0)) zv_48 rfl) ?_
 rintro _ w3 ⟨b3, rfl, hbw3, Bw3, G3⟩
 have lt7 := Bw3.lt
 refine qm rfl<|sd_done<|sw_seq<|qs 3 rfl ?_
 have B8 := (Bw2.gr G3)
 refine qv rfl (vv_loadW agg_28 rfl B8 rfl) ?_
 obtain ⟨x1, hx1, hm⟩ := bnd hm
 refine qe rfl (eC en_20 rfl (ref05_CheckScheme_w hx1)) ?_
 rintro _ w4 ⟨rfl, G4⟩
 have z9 := G4.size
 refine qm rfl<|qd 2 rfl<|qm rfl<|qv rfl (vv_neq (a := x1) (b := 0) rfl rfl)<|sd_done<|sw_cond rfl (fun c1 => ?_) (fun c1 => ?_)
 · replace hm := iT c1 hm
   refine qs 4 rfl<|qv rfl (vv_build (cs := THeader.cs (THeader.mk [] 0#64 [] k0 k0) (.slice none 0 0) (.slice none 0 0)) bs_48 rfl (by kernel_rfl))<|qm rfl ?_
   have B10 := (Bw3.gr G4)
   refine qe rfl (ev_stW agg_48 rfl rfl (THeader.cs_ones _ _ _ rfl rfl) B10 rfl rfl) ?_
   rintro _ w5 ⟨Bw5, M5⟩
   refine qm rfl<|qb ?_
   have Y1 := Gr.trans (Gr.trans (Gr.trans G1 G2) G3) G4
   have X12 := (((Gr.refl w).trans Y1).md M5)
   cases hm
   refine ⟨_, _, rfl, res_2 rfl (rv_cellW agg_48 rfl Bw5 rfl) (rv_tmp rfl), ?_⟩
   exact ⟨(.slice none 0 0), 0, 0, (.slice none 0 0), 0, 0, rfl, (own_nil _ 0 133 18), ⟨.inl rfl⟩, (own_nil _ 0 31 2), ⟨.inl rfl⟩, ⟨(.inl rfl)⟩, X12⟩
 replace hm := iF c1 hm
 refine qu<|sw_seq<|qs 3 rfl<|qm rfl ?_
 obtain ⟨x2, hx2, hm⟩ := bnd hm
 refine qe rfl (eC en_68 rfl (ref05_Tick_w hx2)) ?_
 rintro _ w6 ⟨rfl, G6⟩
 have z13 := G6.size
 refine qv rfl (vv_not rfl)<|sd_done<|sw_cond rfl (fun c2 => ?_) (fun c2 => ?_)
 · replace hm := cnd_t c2 hm
   refine qs 3 rfl<|qv rfl (vv_build (cs := THeader.cs (THeader.mk [] 0#64 [] k0 k0) (.slice none 0 0) (.slice none 0 0)) bs_48 rfl (by kernel_rfl)) ?_
   have Y2 := Gr.trans G4 G6
   have B14 := (Bw3.gr Y2)
   refine qe rfl (ev_stW agg_48 rfl rfl (THeader.cs_ones _ _ _ rfl rfl) B14 rfl rfl) ?_
   rintro _ w7 ⟨Bw7, M7⟩
   refine qm rfl<|qb ?_
   have Y3 := Gr.trans (Gr.trans (Gr.trans G1 G2) G3) Y2
   have X16 := (((Gr.refl w).trans Y3).md M7)
   cases hm
   refine ⟨_, _, rfl, res_2 rfl (rv_cellW agg_48 rfl Bw7 rfl) (rv_tmp rfl), ?_⟩
   exact ⟨(.slice none 0 0), 0, 0, (.slice none 0 0), 0, 0, rfl, (own_nil _ 0 133 18), ⟨.inl rfl⟩, (own_nil _ 0 31 2), ⟨.inl rfl⟩, ⟨(.inl rfl)⟩, X16⟩
 replace hm := cnd_f c2 hm
 refine qu<|qs 5 rfl ?_
 have Y4 := Gr.trans (Gr.trans (Gr.trans G2 G3) G4) G6
 have B17 := (Bw1.gr Y4)
 refine qv rfl (vv_loadW agg_23 rfl B17 rfl)<|qm rfl ?_
 obtain ⟨x3, hx3, hm⟩ := bnd hm
 refine qe rfl (eC en_16 rfl (ref05_Session_w hx3)) ?_
 rintro _ w8 ⟨rfl, G8⟩
 have z18 := G8.size
 refine qe rfl (ev_alloc (cs := kb k0) zv_23 rfl) ?_
 rintro _ w9 ⟨b9, rfl, hbw9, Bw9, G9⟩
 have z19 := G9.size
 have lt20 := Bw9.lt
 refine qe rfl (ev_stW agg_23 rfl rfl rfl Bw9 rfl rfl) ?_
 rintro _ w10 ⟨Bw10, M10⟩
 have z21 := M10.size
 refine sd_done<|sw_seq<|qs 3 rfl<|qv rfl (vv_fieldAddr fa_28_0 rfl) ?_
 have Y5 := Gr.trans (Gr.trans (Gr.trans G4 G6) G8) G9
 have B22 := ((B8.gr Y5).md M10)
 refine qv rfl (vv_load1 (v := bv p1.Kind) one_5 rfl B22 rfl)<|qv rfl (vv_eqlB (p := p1.Kind) (q := 4#8) rfl rfl)<|sd_done<|sw_cond rfl (fun c3 => ?_) (fun c3 => ?_)
 · replace hm := iT c3 hm
   refine qs 11 rfl ?_
   have Y6 := Gr.trans G8 G9
   have B23 := ((B17.gr Y6).md M10)
   refine qv rfl (vv_loadW agg_23 rfl B23 rfl)<|qv rfl (vv_loadW agg_28 rfl B22 rfl)<|qm rfl<|qv rfl (vv_loadW agg_23 rfl Bw10 rfl)<|qm rfl<|qv rfl (vv_cvIU cv_3_24 rfl) ?_
   have Y7 := Gr.trans (Gr.trans G1 Y4) Y6
   have B24 := ((hp3.gr Y7).md M10 (pb_lt lt1))
   obtain ⟨x4, hx4, hm⟩ := bnd hm
   refine qe rfl (eC en_69 rfl (ref04_Seal_w hx4 B24)) ?_
   rintro _ w11 ⟨u11_r0_0, z11_r0_0, g11_r0_0, u11_r0_2, z11_r0_2, g11_r0_2, rfl, O11_r0_0, f11_r0_0, O11_r0_2, f11_r0_2, d11_0, G11⟩
   refine qm rfl<|qm rfl ?_
   have B28 := (((Bw3.gr Y5).md M10).gr G11)
   refine qe rfl (ev_stW agg_48 rfl rfl (THeader.cs_ones _ _ _ (Own.oneB O11_r0_0) (Own.oneB O11_r0_2)) B28 rfl rfl) ?_
   rintro _ w12 ⟨Bw12, M12⟩
   refine qm rfl<|qb ?_
   have B30 := (O11_r0_0.md M12 (pb_0 f11_r0_0))
   have B31 := (O11_r0_2.md M12 (pb_0 f11_r0_2))
   have X32 := (((((Gr.refl w).trans Y7).md M10).trans G11).md M12)
   cases hm
   refine ⟨_, _, rfl, res_2 rfl (rv_cellW agg_48 rfl Bw12 rfl) (rv_tmp rfl), ?_⟩
   exact ⟨u11_r0_0, z11_r0_0, g11_r0_0, u11_r0_2, z11_r0_2, g11_r0_2, rfl, B30, ⟨(pv_0 (A := (fun x => w.heap.size ≤ x)) f11_r0_0)⟩, B31, ⟨(pv_0 (A := (fun x => w.heap.size ≤ x)) f11_r0_2)⟩, ⟨(tk1 d11_0.o)⟩, X32⟩
 replace hm := iF c3 hm
 refine qu<|qs 8 rfl<|qv rfl (vv_loadW agg_28 rfl B22 rfl)<|qm rfl ?_
 have Y8 := Gr.trans (Gr.trans (Gr.trans G1 Y4) G8) G9
 have B33 := ((hp3.gr Y8).md M10 (pb_lt lt1))
 obtain ⟨x5, hx5, hm⟩ := bnd hm
 refine qe rfl (eC en_70 rfl (ref03_Cover_w hx5 B33)) ?_
 rintro _ w13 ⟨u13_r0_s, z13_r0_s, g13_r0_s, rfl, O13_r0_s, f13_r0_s, G13⟩
 have z34 := G13.size
 refine qm rfl<|qm rfl<|qm rfl<|qm rfl<|qm rfl<|sd_done<|sw_seq<|qs 2 rfl<|qm rfl<|qv rfl (vv_neq (a := x5.2) (b := 0) rfl rfl)<|sd_done<|sw_cond rfl (fun c4 => ?_) (fun c4 => ?_)
 · replace hm := iT c4 hm
   refine qs 4 rfl<|qv rfl (vv_build (cs := THeader.cs (THeader.mk [] 0#64 [] k0 k0) (.slice none 0 0) (.slice none 0 0)) bs_48 rfl (by kernel_rfl))<|qm rfl ?_
   have B36 := (((Bw3.gr Y5).md M10).gr G13)
   refine qe rfl (ev_stW agg_48 rfl rfl (THeader.cs_ones _ _ _ rfl rfl) B36 rfl rfl) ?_
   rintro _ w14 ⟨Bw14, M14⟩
   refine qm rfl<|qb ?_
   have X38 := (((((Gr.refl w).trans Y8).md M10).trans G13).md M14)
   cases hm
   refine ⟨_, _, rfl, res_2 rfl (rv_cellW agg_48 rfl Bw14 rfl) (rv_tmp rfl), ?_⟩
   exact ⟨(.slice none 0 0), 0, 0, (.slice none 0 0), 0, 0, rfl, (own_nil _ 0 133 18), ⟨.inl rfl⟩, (own_nil _ 0 31 2), ⟨.inl rfl⟩, ⟨(.inl rfl)⟩, X38⟩
 replace hm := iF c4 hm
 refine qu<|qs 9 rfl ?_
 have Y9 := Gr.trans G8 G9
 have B39 := (((B17.gr Y9).md M10).gr G13)
 refine qv rfl (vv_loadW agg_23 rfl B39 rfl) ?_
 have B40 := (B22.gr G13)
 refine qv rfl (vv_loadW agg_28 rfl B40 rfl)<|qm rfl ?_
 have B41 := (Bw10.gr G13)
 refine qv rfl (vv_loadW agg_23 rfl B41 rfl) ?_
 obtain ⟨x6, hx6, hm⟩ := bnd hm
 refine qe rfl (eC en_71 rfl (ref03_Seal_w hx6 (Own.rd O13_r0_s))) ?_
 rintro _ w15 ⟨u15_r0_0, z15_r0_0, g15_r0_0, u15_r0_2, z15_r0_2, g15_r0_2, rfl, O15_r0_0, f15_r0_0, O15_r0_2, f15_r0_2, d15_0, G15⟩
 refine qm rfl<|qm rfl ?_
 have B45 := ((((Bw3.gr Y5).md M10).gr G13).gr G15)
 refine qe rfl (ev_stW agg_48 rfl rfl (THeader.cs_ones _ _ _ (Own.oneB O15_r0_0) (Own.oneB O15_r0_2)) B45 rfl rfl) ?_
 rintro _ w16 ⟨Bw16, M16⟩
 refine qm rfl<|sd_done<|sw_ret ?_
 have B47 := (O15_r0_0.md M16 (pb_0 f15_r0_0))
 have B48 := (O15_r0_2.md M16 (pb_0 f15_r0_2))
 have X49 := ((((((Gr.refl w).trans Y8).md M10).trans G13).trans G15).md M16)
 cases hm
 refine ⟨_, _, rfl, res_2 rfl (rv_cellW agg_48 rfl Bw16 rfl) (rv_tmp rfl), ?_⟩
 exact ⟨u15_r0_0, z15_r0_0, g15_r0_0, u15_r0_2, z15_r0_2, g15_r0_2, rfl, B47, ⟨(pv_0 (A := (fun x => w.heap.size ≤ x)) f15_r0_0)⟩, B48, ⟨(pv_0 (A := (fun x => w.heap.size ≤ x)) f15_r0_2)⟩, ⟨(tk1 d15_0.o)⟩, X49⟩
theorem ref05_Open_w {p0 p1 p2 vp1_1 zp1_1 gp1_1 op1_1 vp2_0 zp2_0 gp2_0 op2_0 vp2_2 zp2_2 gp2_2 op2_2 r} (hm : ref05_Open p0 p1 p2 = some r) {w : World} (hp1_1 : Rd w zp1_1 gp1_1 op1_1 18 vp1_1 (p1.Labels.map TLabel.cs)) (hp2_0 : Rd w zp2_0 gp2_0 op2_0 18 vp2_0 (p2.Items.map TItem.cs)) (hp2_2 : Rd w zp2_2 gp2_2 op2_2 2 vp2_2 (p2.Points.map TPoint.cs)) :
    Calls Tryz.prog 26 [.agg (TScheme.cs p0).toArray, .agg (TSecret.cs p1 vp1_1).toArray, .agg (THeader.cs p2 vp2_0 vp2_2).toArray].toArray w fun e w' => ∃ v, e = .returned v ∧ (v = .tuple [kv r.1, .int .i64 r.2].toArray ∧ Gr w w') := by
 unfold ref05_Open at hm
 refine calls_of_sw 30 Tryz.func26 rfl rfl rfl<|qs 5 rfl<|qe rfl (ev_box (cs := TScheme.cs p0) rfl rfl) ?_
 rintro _ w1 ⟨b1, rfl, hbw1, Bw1, G1⟩
 have lt5 := Bw1.lt
 refine qe rfl (ev_box (cs := TSecret.cs p1 vp1_1) rfl rfl) ?_
 rintro _ w2 ⟨b2, rfl, hbw2, Bw2, G2⟩
 have lt7 := Bw2.lt
 refine qe rfl (ev_box (cs := THeader.cs p2 vp2_0 vp2_2) rfl rfl) ?_
 rintro _ w3 ⟨b3, rfl, hbw3, Bw3, G3⟩
 have lt9 := Bw3.lt
 refine qe rfl (ev_alloc (cs := kb k0) zv_23 rfl) ?_
 rintro _ w4 ⟨b4, rfl, hbw4, Bw4, G4⟩
 refine qm rfl<|sd_done<|sw_seq<|qs 3 rfl ?_
 have Y1 := Gr.trans (Gr.trans G2 G3) G4
 have B12 := (Bw1.gr Y1)
 refine qv rfl (vv_loadW agg_28 rfl B12 rfl) ?_
 obtain ⟨x1, hx1, hm⟩ := bnd hm
 refine qe rfl (eC en_20 rfl (ref05_CheckScheme_w hx1)) ?_
 rintro _ w5 ⟨rfl, G5⟩
 refine qm rfl<|qd 2 rfl<|qm rfl<|qv rfl (vv_neq (a := x1) (b := 0) rfl rfl)<|sd_done<|sw_cond rfl (fun c1 => ?_) (fun c1 => ?_)
 · replace hm := iT c1 hm
   refine qs 4 rfl<|qv rfl (vv_buildZ bz_23)<|qm rfl ?_
   have B14 := (Bw4.gr G5)
   refine qe rfl (ev_stW agg_23 rfl rfl rfl B14 rfl rfl) ?_
   rintro _ w6 ⟨Bw6, M6⟩
   refine qm rfl<|qb ?_
   have Y2 := Gr.trans (Gr.trans G1 Y1) G5
   have X16 := (((Gr.refl w).trans Y2).md M6)
   cases hm
   refine ⟨_, _, rfl, res_2 rfl (rv_cellW agg_23 rfl Bw6 rfl) (rv_tmp rfl), ?_⟩
   exact ⟨rfl, X16⟩
 replace hm := iF c1 hm
 refine qu<|sw_seq<|qs 3 rfl<|qv rfl (vv_fieldAddr fa_28_0 rfl) ?_
 have B17 := (B12.gr G5)
 refine qv rfl (vv_load1 (v := bv p0.Kind) one_5 rfl B17 rfl)<|qv rfl (vv_eqlB (p := p0.Kind) (q := 4#8) rfl rfl)<|sd_done<|sw_cond rfl (fun c2 => ?_) (fun c2 => ?_)
 · replace hm := iT c2 hm
   refine qs 8 rfl<|qv rfl (vv_loadW agg_28 rfl B17 rfl) ?_
   have Y3 := Gr.trans (Gr.trans G3 G4) G5
   have B18 := (Bw2.gr Y3)
   refine qv rfl (vv_loadW agg_33 rfl B18 rfl) ?_
   have Y4 := Gr.trans G4 G5
   have B19 := (Bw3.gr Y4)
   refine qv rfl (vv_loadW agg_48 rfl B19 rfl) ?_
   have Y5 := Gr.trans (Gr.trans G1 Y1) G5
   have B20 := (hp1_1.gr Y5)
   have B21 := (hp2_0.gr Y5)
   have B22 := (hp2_2.gr Y5)
   obtain ⟨x2, hx2, hm⟩ := bnd hm
   refine qe rfl (eC en_72 rfl (ref04_Open_w hx2 B20 B21 B22)) ?_
   rintro _ w7 ⟨rfl, G7⟩
   refine qm rfl<|qm rfl ?_
   have B24 := ((Bw4.gr G5).gr G7)
   refine qe rfl (ev_stW agg_23 rfl rfl rfl B24 rfl rfl) ?_
   rintro _ w8 ⟨Bw8, M8⟩
   refine qm rfl<|qb ?_
   have X26 := ((((Gr.refl w).trans Y5).trans G7).md M8)
   cases hm
   refine ⟨_, _, rfl, res_2 rfl (rv_cellW agg_23 rfl Bw8 rfl) (rv_tmp rfl), ?_⟩
   exact ⟨rfl, X26⟩
 replace hm := iF c2 hm
 refine qu<|qs 8 rfl<|qv rfl (vv_loadW agg_28 rfl B17 rfl) ?_
 have Y6 := Gr.trans (Gr.trans G3 G4) G5
 have B27 := (Bw2.gr Y6)
 refine qv rfl (vv_loadW agg_33 rfl B27 rfl) ?_
 have Y7 := Gr.trans G4 G5
 have B28 := (Bw3.gr Y7)
 refine qv rfl (vv_loadW agg_48 rfl B28 rfl) ?_
 have Y8 := Gr.trans (Gr.trans G1 Y1) G5
 have B29 := (hp1_1.gr Y8)
 have B30 := (hp2_0.gr Y8)
 have B31 := (hp2_2.gr Y8)
 obtain ⟨x3, hx3, hm⟩ := bnd hm
 refine qe rfl (eC en_73 rfl (ref03_Open_w hx3 B29 B30 B31)) ?_
 rintro _ w9 ⟨rfl, G9⟩
 refine qm rfl<|qm rfl ?_
 have B33 := ((Bw4.gr G5).gr G9)
 refine qe rfl (ev_stW agg_23 rfl rfl rfl B33 rfl rfl) ?_
 rintro _ w10 ⟨Bw10, M10⟩
 refine qm rfl<|sd_done<|sw_ret ?_
 have X35 := ((((Gr.refl w).trans Y8).trans G9).md M10)
 cases hm
 refine ⟨_, _, rfl, res_2 rfl (rv_cellW agg_23 rfl Bw10 rfl) (rv_tmp rfl), ?_⟩
 exact ⟨rfl, X35⟩
theorem ref05_Great_w {p0 p1 vp0_1 zp0_1 gp0_1 op0_1 vp1_2 zp1_2 gp1_2 op1_2 vp1_4 zp1_4 gp1_4 op1_4 vp1_39 zp1_39 gp1_39 op1_39 r} (hm : ref05_Great p0 p1 = some r) {w : World} (hp0_1 : Rd w zp0_1 gp0_1 op0_1 18 vp0_1 (p0.Labels.map TLabel.cs)) (hp1_2 : Rd w zp1_2 gp1_2 op1_2 18 vp1_2 (p1.Head.Items.map TItem.cs)) (hp1_4 : Rd w zp1_4 gp1_4 op1_4 2 vp1_4 (p1.Head.Points.map TPoint.cs)) (hp1_39 : Rd w zp1_39 gp1_39 op1_39 1 vp1_39 (p1.Data.map bvc)) :
    Calls Tryz.prog 22 [.agg (TSecret.cs p0 vp0_1).toArray, .agg (TPacket.cs p1 vp1_2 vp1_4 vp1_39).toArray].toArray w fun e w' => ∃ v, e = .returned v ∧ (v = .bool r ∧ Gr w w') := by
 unfold ref05_Great at hm
 refine calls_of_sw 29 Tryz.func22 rfl rfl rfl<|qs 3 rfl<|qe rfl (ev_box (cs := TSecret.cs p0 vp0_1) rfl rfl) ?_
 rintro _ w1 ⟨b1, rfl, hbw1, Bw1, G1⟩
 refine qe rfl (ev_box (cs := TPacket.cs p1 vp1_2 vp1_4 vp1_39) rfl rfl) ?_
 rintro _ w2 ⟨b2, rfl, hbw2, Bw2, G2⟩
 refine qm rfl<|qd 25 rfl<|qv rfl (vv_fieldAddr fa_33_1 rfl) ?_
 have B9 := (Bw1.gr G2)
 refine qv rfl (vv_load1 (v := vp0_1) one_29 rfl B9 rfl) ?_
 have Y1 := Gr.trans G1 G2
 have B10 := (hp0_1.gr Y1)
 refine qv rfl (vv_lenT (l := p0.Labels) (c := TLabel.cs) Tryz.underlying29 rfl B10)<|qv rfl (vv_gtr (a := (p0.Labels.length : Int)) (b := 100) rfl rfl)<|qp rfl (vv_move rfl) (fun c1 => ?_) (fun c1 => ?_)
 · replace hm := iT c1 hm
   refine qk rfl<|qk rfl<|qk rfl<|qk rfl<|qk rfl<|qm rfl<|qm rfl<|qk rfl<|qk rfl<|qk rfl<|qk rfl<|qk rfl<|qm rfl ?_
   refine qm rfl<|qk rfl<|qk rfl<|qk rfl<|qk rfl<|qm rfl<|qm rfl<|sd_done<|sw_ret ?_
   have X11 := ((Gr.refl w).trans Y1)
   cases hm
   refine ⟨_, _, rfl, res_1 rfl (rv_tmp rfl), ?_⟩
   exact ⟨rfl, X11⟩
 replace hm := iF c1 hm
 refine qv rfl (vv_fieldAddr fa_52_2 rfl)<|qv rfl (vv_fieldAddr fa_48_0 rfl)<|qv rfl (vv_load1 (v := vp1_2) one_45 rfl Bw2 rfl) ?_
 have B12 := (hp1_2.gr Y1)
 refine qv rfl (vv_lenT (l := p1.Head.Items) (c := TItem.cs) Tryz.underlying45 rfl B12)<|qv rfl (vv_gtr (a := (p1.Head.Items.length : Int)) (b := 100) rfl rfl)<|qm rfl<|qp rfl (vv_move rfl) (fun c2 => ?_) (fun c2 => ?_)
 · replace hm := iT c2 hm
   refine qk rfl<|qk rfl<|qk rfl<|qk rfl<|qk rfl<|qm rfl<|qm rfl<|qk rfl<|qk rfl<|qk rfl<|qk rfl<|qm rfl<|qm rfl ?_
   refine sd_done<|sw_ret ?_
   have X13 := ((Gr.refl w).trans Y1)
   cases hm
   refine ⟨_, _, rfl, res_1 rfl (rv_tmp rfl), ?_⟩
   exact ⟨rfl, X13⟩
 replace hm := iF c2 hm
 refine qv rfl (vv_fieldAddr fa_52_2 rfl)<|qv rfl (vv_fieldAddr fa_48_2 rfl)<|qv rfl (vv_load1 (v := vp1_4) one_46 rfl Bw2 rfl) ?_
 have B14 := (hp1_4.gr Y1)
 refine qv rfl (vv_lenT (l := p1.Head.Points) (c := TPoint.cs) Tryz.underlying46 rfl B14)<|qv rfl (vv_gtr (a := (p1.Head.Points.length : Int)) (b := 50) rfl rfl)<|qm rfl<|qp rfl (vv_move rfl) (fun c3 => ?_) (fun c3 => ?_)
 · replace hm := iT c3 hm
   refine qk rfl<|qk rfl<|qk rfl<|qk rfl<|qm rfl<|qm rfl<|sd_done<|sw_ret ?_
   have X15 := ((Gr.refl w).trans Y1)
   cases hm
   refine ⟨_, _, rfl, res_1 rfl (rv_tmp rfl), ?_⟩
   exact ⟨rfl, X15⟩
 replace hm := iF c3 hm
 refine qv rfl (vv_fieldAddr fa_52_5 rfl)<|qv rfl (vv_load1 (v := vp1_39) one_50 rfl Bw2 rfl) ?_
 have B16 := (hp1_39.gr Y1)
 refine qv rfl (vv_lenT (l := p1.Data) (c := bvc) Tryz.underlying50 rfl B16)<|qv rfl (vv_gtr (a := (p1.Data.length : Int)) (b := 1000) rfl rfl)<|qm rfl<|qm rfl<|sd_done<|sw_ret ?_
 have X17 := ((Gr.refl w).trans Y1)
 cases hm
 refine ⟨_, _, rfl, res_1 rfl (rv_tmp rfl), ?_⟩
 exact ⟨rfl, X17⟩
theorem ref05_SameHeader_w {p0 p1 vp0_0 zp0_0 gp0_0 op0_0 vp0_2 zp0_2 gp0_2 op0_2 vp1_0 zp1_0 gp1_0 op1_0 vp1_2 zp1_2 gp1_2 op1_2 r} (hm : ref05_SameHeader p0 p1 = some r) {w : World} (hp0_0 : Rd w zp0_0 gp0_0 op0_0 18 vp0_0 (p0.Items.map TItem.cs)) (hp0_2 : Rd w zp0_2 gp0_2 op0_2 2 vp0_2 (p0.Points.map TPoint.cs)) (hp1_0 : Rd w zp1_0 gp1_0 op1_0 18 vp1_0 (p1.Items.map TItem.cs)) (hp1_2 : Rd w zp1_2 gp1_2 op1_2 2 vp1_2 (p1.Points.map TPoint.cs)) :
    Calls Tryz.prog 27 [.agg (THeader.cs p0 vp0_0 vp0_2).toArray, .agg (THeader.cs p1 vp1_0 vp1_2).toArray].toArray w fun e w' => ∃ v, e = .returned v ∧ (v = .bool r ∧ Gr w w') := by
 unfold ref05_SameHeader at hm
 refine calls_of_sw 80 Tryz.func27 rfl rfl rfl<|qs 3 rfl<|qe rfl (ev_box (cs := THeader.cs p0 vp0_0 vp0_2) rfl rfl) ?_
 rintro _ w1 ⟨b1, rfl, hbw1, Bw1, G1⟩
 refine qe rfl (ev_box (cs := THeader.cs p1 vp1_0 vp1_2) rfl rfl) ?_
 rintro _ w2 ⟨b2, rfl, hbw2, Bw2, G2⟩
 refine qm rfl<|sd_done<|sw_seq ?_
 have Y1 := Gr.trans G1 G2
 have X9 := ((Gr.refl w).trans Y1)
 refine qj (β := Bool) (rg 7 37) (fun a1 => [(43, .bool a1)]) (fun a1 wr => (ref05_SameHeader_J1 p0 p1 a1 = some r) ∧ Kz [] w2 wr) ?_ ?_
 · refine qg 37 rfl<|qv rfl (vv_fieldAddr fa_48_0 rfl) ?_
   have B40 := (Bw1.gr G2)
   refine qv rfl (vv_load1 (v := vp0_0) one_45 rfl B40 rfl) ?_
   have B41 := (hp0_0.gr Y1)
   refine qv rfl (vv_lenT (l := p0.Items) (c := TItem.cs) Tryz.underlying45 rfl B41)<|qv rfl (vv_fieldAddr fa_48_0 rfl)<|qv rfl (vv_load1 (v := vp1_0) one_45 rfl Bw2 rfl) ?_
   have B42 := (hp1_0.gr Y1)
   refine qv rfl (vv_lenT (l := p1.Items) (c := TItem.cs) Tryz.underlying45 rfl B42)<|qv rfl (vv_neq (a := (p0.Items.length : Int)) (b := (p1.Items.length : Int)) rfl rfl)<|qp rfl (vv_move rfl) (fun c6 => ?_) (fun c6 => ?_)
   · replace hm := iT c6 hm
     refine qk rfl<|qk rfl<|qk rfl<|qk rfl<|qk rfl<|qk rfl<|qk rfl<|qm rfl<|qm rfl<|qk rfl<|qk rfl<|qk rfl<|qk rfl ?_
     refine qk rfl<|qm rfl<|qm rfl<|qk rfl<|qk rfl<|qk rfl<|qk rfl<|qk rfl<|qm rfl<|qm rfl<|qk rfl<|qk rfl<|qk rfl ?_
     refine qk rfl<|qk rfl<|qm rfl<|sd_nil ?_
     exact ⟨rfl, true, sbq, hm, kz0⟩
   replace hm := iF c6 hm
   refine qv rfl (vv_fieldAddr fa_48_2 rfl)<|qv rfl (vv_load1 (v := vp0_2) one_46 rfl B40 rfl) ?_
   have B44 := (hp0_2.gr Y1)
   refine qv rfl (vv_lenT (l := p0.Points) (c := TPoint.cs) Tryz.underlying46 rfl B44)<|qv rfl (vv_fieldAddr fa_48_2 rfl)<|qv rfl (vv_load1 (v := vp1_2) one_46 rfl Bw2 rfl) ?_
   have B45 := (hp1_2.gr Y1)
   refine qv rfl (vv_lenT (l := p1.Points) (c := TPoint.cs) Tryz.underlying46 rfl B45)<|qv rfl (vv_neq (a := (p0.Points.length : Int)) (b := (p1.Points.length : Int)) rfl rfl)<|qm rfl<|qp rfl (vv_move rfl) (fun c7 => ?_) (fun c7 => ?_)
   · replace hm := iT c7 hm
     refine qk rfl<|qk rfl<|qk rfl<|qk rfl<|qk rfl<|qm rfl<|qm rfl<|qk rfl<|qk rfl<|qk rfl<|qk rfl<|qk rfl<|qm rfl ?_
     refine qm rfl<|qk rfl<|qk rfl<|qk rfl<|qk rfl<|qk rfl<|qm rfl<|sd_nil ?_
     exact ⟨rfl, true, sbq, hm, kz0⟩
   replace hm := iF c7 hm
   refine qv rfl (vv_fieldAddr fa_48_1 rfl)<|qv rfl (vv_load1 (v := wv p0.Base) one_24 rfl B40 rfl)<|qv rfl (vv_fieldAddr fa_48_1 rfl)<|qv rfl (vv_load1 (v := wv p1.Base) one_24 rfl Bw2 rfl)<|qv rfl (vv_neqU (c := p0.Base) (d := p1.Base) rfl rfl)<|qm rfl<|qp rfl (vv_move rfl) (fun c8 => ?_) (fun c8 => ?_)
   · replace hm := iT c8 hm
     refine qk rfl<|qk rfl<|qk rfl<|qk rfl<|qk rfl<|qm rfl<|qm rfl<|qk rfl<|qk rfl<|qk rfl<|qk rfl<|qk rfl<|qm rfl ?_
     refine sd_nil ?_
     exact ⟨rfl, true, sbq, hm, kz0⟩
   replace hm := iF c8 hm
   refine qv rfl (vv_fieldAddr fa_48_3 rfl)<|qv rfl (vv_loadM (vs := kb p0.Box) agg_23 rfl B40 rfl rfl)<|qv rfl (vv_fieldAddr fa_48_3 rfl)<|qv rfl (vv_loadM (vs := kb p1.Box) agg_23 rfl Bw2 rfl rfl)<|qv rfl (vv_neqS (cf := kb) (a := p0.Box) (b := p1.Box) eqt_23 rfl rfl rfl rfl (fun h => kb_inj h))<|qm rfl<|qp rfl (vv_move rfl) (fun c9 => ?_) (fun c9 => ?_)
   · replace hm := iT c9 hm
     refine qk rfl<|qk rfl<|qk rfl<|qk rfl<|qk rfl<|qm rfl<|sd_nil ?_
     exact ⟨rfl, true, sbq, hm, kz0⟩
   replace hm := iF c9 hm
   refine qv rfl (vv_fieldAddr fa_48_4 rfl)<|qv rfl (vv_loadM (vs := kb p0.Check) agg_23 rfl B40 rfl rfl)<|qv rfl (vv_fieldAddr fa_48_4 rfl)<|qv rfl (vv_loadM (vs := kb p1.Check) agg_23 rfl Bw2 rfl rfl)<|qv rfl (vv_neqS (cf := kb) (a := p0.Check) (b := p1.Check) eqt_23 rfl rfl rfl rfl (fun h => kb_inj h))<|qm rfl<|sd_nil ?_
   exact ⟨rfl, (decide (p0.Check ≠ p1.Check)), sbq, hm, kz0⟩
 clear hm; rintro a1 w3 ⟨hm, K3⟩
 unfold ref05_SameHeader_J1 at hm
 refine sw_cond rfl (fun c1 => ?_) (fun c1 => ?_)
 · replace hm := cnd_t c1 hm
   refine qs 1 rfl<|qm rfl<|qb ?_
   have X11 := (X9.kz K3)
   cases hm
   refine ⟨_, _, rfl, res_1 rfl (rv_tmp rfl), ?_⟩
   exact ⟨rfl, X11⟩
 replace hm := cnd_f c1 hm
 refine qu<|sw_seq<|qs 1 rfl<|qm rfl<|sd_done<|sw_block ?_
 have X12 := (X9.kz K3)
 have B13 := ((hp0_0.gr Y1).kz K3)
 have B14 := ((hp0_2.gr Y1).kz K3)
 have B15 := ((hp1_0.gr Y1).kz K3)
 have B16 := ((hp1_2.gr Y1).kz K3)
 refine sw_loopD (α := Nat × Int) ([4, 5] ++ rg 44 18) (fun ⟨n2, a3⟩ => [(4, .bool false), (5, .int .i64 a3)]) (fun ⟨n2, a3⟩ wr => (fixN (ref05_SameHeader_L2 p0 p1) n2 a3 = some r) ∧ Kz [] w3 wr) (fun ⟨n2, a3⟩ => n2) ⟨FUEL, 0⟩ ?_ ?_ ?_
 · exact sbq
 · exact ⟨hm, Kz.refl _ _⟩
 clear hm; rintro ⟨n2, a3⟩ w4 ⟨hm, K4⟩
 have hb := fix_succ hm; clear hm; obtain ⟨n2, rfl, hm⟩ := hb
 generalize hrec2 : fixN (ref05_SameHeader_L2 p0 p1) n2 = rec2 at hm
 unfold ref05_SameHeader_L2 at hm
 try dsimp only at hm
 refine sw_seq<|qs 5 rfl<|qm rfl<|qv rfl (vv_fieldAddr fa_48_0 rfl) ?_
 have B18 := (((Bw1.gr G2).kz K3).kz K4)
 refine qv rfl (vv_load1 (v := vp0_0) one_45 rfl B18 rfl) ?_
 have B19 := (B13.kz K4)
 refine qv rfl (vv_lenT (l := p0.Items) (c := TItem.cs) Tryz.underlying45 rfl B19)<|qv rfl (vv_lss (a := a3) (b := (p0.Items.length : Int)) rfl rfl)<|sd_done<|sw_cond rfl (fun c2 => ?_) (fun c2 => ?_)
 · replace hm := iT c2 hm
   refine qu<|sw_seq<|sw_block<|sw_seq<|dw [([])] [] (.leaf [(0,10),(1,10),(2,10),(3,10),(4,10),(5,10),(6,10),(7,10),(8,10),(9,10),(10,10)]) ?_
   intro w5 G5 zw5
   refine sdz_leaf<|dh 0 rfl rfl (fun w hS => vv_fieldAddr fa_48_0 rfl) ?_
   have B20 := (B18.gr G5)
   refine dh 0 rfl rfl (fun w hS => vv_load1 (v := vp0_0) one_45 rfl (Bx.kp B20 hS) rfl)<|dm 0 rfl rfl ?_
   obtain ⟨y4, hy4, hm⟩ := bnd hm
   have B21 := (B19.gr G5)
   refine dh 0 rfl rfl (fun w hS => vv_ixT (i := a3) Tryz.underlying45 (agg_133).siz rfl (Rd.kp B21 hS) rfl hy4)<|dh 0 rfl rfl (fun w hS => vv_elWT agg_133 rfl (Rd.kp B21 hS) hy4 (by first | rfl | omega))<|dh 0 rfl rfl (fun w hS => vv_fieldAddr fa_48_0 rfl) ?_
   have B22 := (((Bw2.kz K3).kz K4).gr G5)
   refine dh 0 rfl rfl (fun w hS => vv_load1 (v := vp1_0) one_45 rfl (Bx.kp B22 hS) rfl)<|dm 0 rfl rfl ?_
   obtain ⟨y5, hy5, hm⟩ := bnd hm
   have B23 := ((B15.kz K4).gr G5)
   refine dh 0 rfl rfl (fun w hS => vv_ixT (i := a3) Tryz.underlying45 (agg_133).siz rfl (Rd.kp B23 hS) rfl hy5)<|dh 0 rfl rfl (fun w hS => vv_elWT agg_133 rfl (Rd.kp B23 hS) hy5 (by first | rfl | omega))<|dh 0 rfl rfl (fun w hS => vv_neqS (cf := TItem.cs) (a := y4) (b := y5) eqt_133 rfl rfl rfl rfl (fun h => TItem.cs_inj h))<|sd_done<|sw_cond rfl (fun c3 => ?_) (fun c3 => ?_)
   · replace hm := iT c3 hm
     refine qs 1 rfl<|qm rfl<|sd_done<|sw_ret<|block_r<|then_r<|then_r<|block_r<|then_r ?_
     have X24 := ((X12.kz K4).trans G5)
     cases hm
     refine ⟨_, _, rfl, res_1 rfl (rv_tmp rfl), ?_⟩
     exact ⟨rfl, X24⟩
   replace hm := iF c3 hm
   refine sw_skip<|block_n<|then_n<|qg 3 rfl<|qm rfl<|qv rfl (vv_add (k := .i64) (a := a3) (b := 1) rfl rfl)<|qm rfl<|sd_nil ?_
   have K_25 : Kz [] w3 w5 := (K4.gr G5)
   subst hrec2
   exact ⟨rfl, ⟨n2, w64 (a3 + 1)⟩, sbq, ⟨hm, K_25⟩, Nat.lt_succ_self _⟩
 replace hm := iF c2 hm
 refine sw_exit<|then_x<|then_x<|block_x<|then_n<|sw_seq<|qs 1 rfl<|qm rfl<|sd_done<|sw_block ?_
 have X26 := (X12.kz K4)
 have B27 := (B14.kz K4)
 have B29 := (B16.kz K4)
 refine sw_loopD (α := Nat × Int) ([4, 6] ++ rg 62 18) (fun ⟨n3, a7⟩ => [(4, .bool false), (6, .int .i64 a7)]) (fun ⟨n3, a7⟩ wr => (fixN (ref05_SameHeader_L3 p0 p1) n3 a7 = some r) ∧ Kz [] w4 wr) (fun ⟨n3, a7⟩ => n3) ⟨FUEL, 0⟩ ?_ ?_ ?_
 · exact sbq
 · exact ⟨hm, Kz.refl _ _⟩
 clear hm; rintro ⟨n3, a7⟩ w6 ⟨hm, K6⟩
 have hb := fix_succ hm; clear hm; obtain ⟨n3, rfl, hm⟩ := hb
 generalize hrec3 : fixN (ref05_SameHeader_L3 p0 p1) n3 = rec3 at hm
 unfold ref05_SameHeader_L3 at hm
 try dsimp only at hm
 refine sw_seq<|qs 5 rfl<|qm rfl<|qv rfl (vv_fieldAddr fa_48_2 rfl) ?_
 have B31 := (B18.kz K6)
 refine qv rfl (vv_load1 (v := vp0_2) one_46 rfl B31 rfl) ?_
 have B32 := (B27.kz K6)
 refine qv rfl (vv_lenT (l := p0.Points) (c := TPoint.cs) Tryz.underlying46 rfl B32)<|qv rfl (vv_lss (a := a7) (b := (p0.Points.length : Int)) rfl rfl)<|sd_done<|cnF rfl (fun c4 => ?_) (fun c4 => ?_)
 · replace hm := iF c4 hm
   refine sw_exit<|then_x<|then_x<|block_x<|then_n<|qs 1 rfl<|qm rfl<|sd_done<|sw_ret ?_
   have X39 := (X26.kz K6)
   cases hm
   refine ⟨_, _, rfl, res_1 rfl (rv_tmp rfl), ?_⟩
   exact ⟨rfl, X39⟩
 replace hm := iT c4 hm
 refine qu<|sw_seq<|sw_block<|sw_seq<|dw [([])] [] (.leaf [(0,10),(1,10),(2,10),(3,10),(4,10),(5,10),(6,10),(7,10),(8,10),(9,10),(10,10)]) ?_
 intro w7 G7 zw7
 refine sdz_leaf<|dh 0 rfl rfl (fun w hS => vv_fieldAddr fa_48_2 rfl) ?_
 have B33 := (B31.gr G7)
 refine dh 0 rfl rfl (fun w hS => vv_load1 (v := vp0_2) one_46 rfl (Bx.kp B33 hS) rfl)<|dm 0 rfl rfl ?_
 obtain ⟨y8, hy8, hm⟩ := bnd hm
 have B34 := (B32.gr G7)
 refine dh 0 rfl rfl (fun w hS => vv_ixT (i := a7) Tryz.underlying46 (agg_31).siz rfl (Rd.kp B34 hS) rfl hy8)<|dh 0 rfl rfl (fun w hS => vv_elWT agg_31 rfl (Rd.kp B34 hS) hy8 (by first | rfl | omega))<|dh 0 rfl rfl (fun w hS => vv_fieldAddr fa_48_2 rfl) ?_
 have B35 := ((((Bw2.kz K3).kz K4).kz K6).gr G7)
 refine dh 0 rfl rfl (fun w hS => vv_load1 (v := vp1_2) one_46 rfl (Bx.kp B35 hS) rfl)<|dm 0 rfl rfl ?_
 obtain ⟨y9, hy9, hm⟩ := bnd hm
 have B36 := ((B29.kz K6).gr G7)
 refine dh 0 rfl rfl (fun w hS => vv_ixT (i := a7) Tryz.underlying46 (agg_31).siz rfl (Rd.kp B36 hS) rfl hy9)<|dh 0 rfl rfl (fun w hS => vv_elWT agg_31 rfl (Rd.kp B36 hS) hy9 (by first | rfl | omega))<|dh 0 rfl rfl (fun w hS => vv_neqS (cf := TPoint.cs) (a := y8) (b := y9) eqt_31 rfl rfl rfl rfl (fun h => TPoint.cs_inj h))<|sd_done<|sw_cond rfl (fun c5 => ?_) (fun c5 => ?_)
 · replace hm := iT c5 hm
   refine qs 1 rfl<|qm rfl<|sd_done<|sw_ret<|block_r<|then_r<|then_r<|block_r<|then_r ?_
   have X37 := ((X26.kz K6).trans G7)
   cases hm
   refine ⟨_, _, rfl, res_1 rfl (rv_tmp rfl), ?_⟩
   exact ⟨rfl, X37⟩
 replace hm := iF c5 hm
 refine sw_skip<|block_n<|then_n<|qg 3 rfl<|qm rfl<|qv rfl (vv_add (k := .i64) (a := a7) (b := 1) rfl rfl)<|qm rfl<|sd_nil ?_
 have K_38 : Kz [] w4 w7 := (K6.gr G7)
 subst hrec3
 exact ⟨rfl, ⟨n3, w64 (a7 + 1)⟩, sbq, ⟨hm, K_38⟩, Nat.lt_succ_self _⟩
end Go.Proofs.YtjdffpglgkefmaaGreat.Mx
