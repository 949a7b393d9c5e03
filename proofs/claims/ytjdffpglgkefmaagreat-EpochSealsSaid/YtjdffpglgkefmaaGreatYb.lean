/- Walks that follow mirrors: Yb. Printed by mx.py. -/
import Derived.Test.YtjdffpglgkefmaaGreatYa
import Derived.Test.YtjdffpglgkefmaaGreatZd
set_option linter.unusedVariables false
set_option linter.unusedSimpArgs false
set_option maxRecDepth 100000
set_option maxHeartbeats 2000000
namespace Go.Proofs.YtjdffpglgkefmaaGreat.Mx
open Go Go.RowKit Go.Sx
theorem bz_23 : BZ Tryz.prog 23 (kv k0) := fun _ => by kernel_rfl
theorem fa_48_1 : FA Tryz.prog 48 1 1 := fun _ _ _ => by kernel_rfl
theorem fa_48_2 : FA Tryz.prog 48 2 2 := fun _ _ _ => by kernel_rfl
theorem fa_48_3 : FA Tryz.prog 48 3 3 := fun _ _ _ => by kernel_rfl
theorem eqc_23 : EqC Tryz.prog 2 23 [.i .u8, .i .u8, .i .u8, .i .u8, .i .u8, .i .u8, .i .u8, .i .u8, .i .u8, .i .u8, .i .u8, .i .u8, .i .u8, .i .u8, .i .u8, .i .u8] := eqc_array (ks := [.i .u8]) Tryz.underlying23 (infoE (by kernel_rfl)).choose_spec (by kernel_rfl) agg_23 eqc_5
theorem eqt_23 : EqT Tryz.prog 23 [.i .u8, .i .u8, .i .u8, .i .u8, .i .u8, .i .u8, .i .u8, .i .u8, .i .u8, .i .u8, .i .u8, .i .u8, .i .u8, .i .u8, .i .u8, .i .u8] := ⟨by kernel_rfl, agg_23, 2, by decide, eqc_23⟩
theorem fa_133_0 : FA Tryz.prog 133 0 0 := fun _ _ _ => by kernel_rfl
theorem en_123 : En Tryz.prog 123 := fun _ _ => by kernel_rfl
theorem en_200 : En Tryz.prog 200 := fun _ _ => by kernel_rfl
theorem en_125 : En Tryz.prog 125 := fun _ _ => by kernel_rfl
theorem agg_33 : Agg Tryz.prog 33 4 := fun _ => ⟨by kernel_rfl, by kernel_rfl⟩
theorem fa_33_1 : FA Tryz.prog 33 1 1 := fun _ _ _ => by kernel_rfl
theorem one_29 : One Tryz.prog 29 := fun _ => ⟨by kernel_rfl, by kernel_rfl⟩
theorem agg_92 : Agg Tryz.prog 92 18 := fun _ => ⟨by kernel_rfl, by kernel_rfl⟩
theorem zv_92 : ZV Tryz.prog 92 (.agg [.int .i64 0, .int .i64 0, .int .u8 0, .int .u8 0, .int .u8 0, .int .u8 0, .int .u8 0, .int .u8 0, .int .u8 0, .int .u8 0, .int .u8 0, .int .u8 0, .int .u8 0, .int .u8 0, .int .u8 0, .int .u8 0, .int .u8 0, .int .u8 0].toArray) := fun _ => by kernel_rfl
theorem fa_92_0 : FA Tryz.prog 92 0 0 := fun _ _ _ => by kernel_rfl
theorem fa_92_1 : FA Tryz.prog 92 1 1 := fun _ _ _ => by kernel_rfl
theorem en_201 : En Tryz.prog 201 := fun _ _ => by kernel_rfl
theorem fa_92_2 : FA Tryz.prog 92 2 2 := fun _ _ _ => by kernel_rfl
theorem en_126 : En Tryz.prog 126 := fun _ _ => by kernel_rfl
theorem fa_133_1 : FA Tryz.prog 133 1 2 := fun _ _ _ => by kernel_rfl
theorem en_111 : En Tryz.prog 111 := fun _ _ => by kernel_rfl
theorem fa_48_4 : FA Tryz.prog 48 4 19 := fun _ _ _ => by kernel_rfl
theorem en_159 : En Tryz.prog 159 := fun _ _ => by kernel_rfl
theorem en_225 : En Tryz.prog 225 := fun _ _ => by kernel_rfl
theorem en_160 : En Tryz.prog 160 := fun _ _ => by kernel_rfl
theorem cv_5_24 : CV Tryz.prog 5 24 .u64 := fun _ _ _ => by kernel_rfl
theorem en_254 : En Tryz.prog 254 := fun _ _ => by kernel_rfl
theorem en_208 : En Tryz.prog 208 := fun _ _ => by kernel_rfl
theorem zv_24 : ZV Tryz.prog 24 (.int .u64 0) := fun _ => by kernel_rfl
theorem bsl_160_1 : BSl Tryz.prog 160 1 24 1 [.int .u64 0] := bsl_mk Tryz.underlying160 (one_24).siz zv_24 rfl rfl (by kernel_rfl)
theorem en_210 : En Tryz.prog 210 := fun _ _ => by kernel_rfl
theorem en_211 : En Tryz.prog 211 := fun _ _ => by kernel_rfl
theorem apt_160 : ApT Tryz.prog 160 24 1 8 := apt_mk Tryz.underlying160 rfl (by kernel_rfl)
theorem en_209 : En Tryz.prog 209 := fun _ _ => by kernel_rfl
theorem cv_24_5 : CV Tryz.prog 24 5 .u8 := fun _ _ _ => by kernel_rfl
theorem zv_5 : ZV Tryz.prog 5 (.int .u8 0) := fun _ => by kernel_rfl
theorem bsl_50_1 : BSl Tryz.prog 50 1 5 1 [.int .u8 0] := bsl_mk Tryz.underlying50 (one_5).siz zv_5 rfl rfl (by kernel_rfl)
theorem apt_50 : ApT Tryz.prog 50 5 1 1 := apt_mk Tryz.underlying50 rfl (by kernel_rfl)
theorem en_213 : En Tryz.prog 213 := fun _ _ => by kernel_rfl
theorem en_214 : En Tryz.prog 214 := fun _ _ => by kernel_rfl
theorem en_212 : En Tryz.prog 212 := fun _ _ => by kernel_rfl
theorem en_157 : En Tryz.prog 157 := fun _ _ => by kernel_rfl
theorem cover_Open_1_w {p0 p1 bp1 r} (hm : cover_Open_1 p0 p1 = some r) {w : World} (hbp1 : Bx w bp1 175 (Tcover_tree.cs p1)) :
    Calls Tryz.prog 123 [.agg (TItem.cs p0).toArray, .pointer (some ⟨bp1, 0, none⟩)].toArray w fun e w' => ∃ v, e = .returned v ∧ (v = .bool r ∧ Gr w w') := by
 unfold cover_Open_1 at hm
 refine calls_of_sw 9 Tryz.func123 rfl rfl rfl<|qs 2 rfl<|qe rfl (ev_box (cs := TItem.cs p0) rfl rfl) ?_
 rintro _ w1 ⟨b1, rfl, hbw1, Bw1, G1⟩
 refine qm rfl<|qd 6 rfl ?_
 have B4 := (hbp1.gr G1)
 refine qv rfl (vv_loadW agg_175 rfl B4 rfl)<|qv rfl (vv_fieldAddr fa_133_0 rfl)<|qv rfl (vv_loadM (vs := TSubset.cs p0.Subset) agg_131 rfl Bw1 rfl rfl) ?_
 obtain ⟨x1, hx1, hm⟩ := bnd hm
 refine qe rfl (eC en_124 rfl (cover_tree_subset_w hx1)) ?_
 rintro _ w2 ⟨rfl, G2⟩
 refine qv rfl (vv_not rfl)<|qm rfl<|sd_done<|sw_ret ?_
 have X6 := (((Gr.refl w).trans G1).trans G2)
 cases hm
 refine ⟨_, _, rfl, res_1 rfl (rv_tmp rfl), ?_⟩
 exact ⟨rfl, X6⟩
theorem slices_IndexFunc_c205_cover_Open_1_w {p0 p1_0 vp0 zp0 gp0 op0 bp1_0 r} (hm : slices_IndexFunc_c205_cover_Open_1 p0 p1_0 = some r) {w : World} (hp0 : Rd w zp0 gp0 op0 18 vp0 (p0.map TItem.cs)) (hbp1_0 : Bx w bp1_0 175 (Tcover_tree.cs p1_0)) :
    Calls Tryz.prog 200 [vp0, .func (.func 123) [].toArray [.pointer (some ⟨bp1_0, 0, none⟩)].toArray].toArray w fun e w' => ∃ v, e = .returned v ∧ (v = .int .i64 r ∧ Gr w w') := by
 unfold slices_IndexFunc_c205_cover_Open_1 at hm
 refine calls_of_sw 19 Tryz.func200 rfl rfl rfl<|qs 1 rfl<|qm rfl<|sd_done<|sw_seq<|qs 3 rfl<|qm rfl<|qv rfl (vv_lenT (l := p0) (c := TItem.cs) Tryz.underlying45 rfl hp0)<|qm rfl<|sd_done<|sw_block ?_
 refine sw_loopD (α := Nat × Int) ([4, 5] ++ rg 8 11) (fun ⟨n1, a2⟩ => [(4, .int .i64 0), (8, .int .i64 a2)]) (fun ⟨n1, a2⟩ wr => (fixN (slices_IndexFunc_c205_cover_Open_1_L1 p0 p1_0) n1 a2 = some r) ∧ Kz [] w wr) (fun ⟨n1, a2⟩ => n1) ⟨FUEL, 0⟩ ?_ ?_ ?_
 · exact sbq
 · exact ⟨hm, Kz.refl _ _⟩
 clear hm; rintro ⟨n1, a2⟩ w1 ⟨hm, K1⟩
 have hb := fix_succ hm; clear hm; obtain ⟨n1, rfl, hm⟩ := hb
 generalize hrec1 : fixN (slices_IndexFunc_c205_cover_Open_1_L1 p0 p1_0) n1 = rec1 at hm
 unfold slices_IndexFunc_c205_cover_Open_1_L1 at hm
 try dsimp only at hm
 refine qs 1 rfl<|qv rfl (vv_lss (a := a2) (b := (p0.length : Int)) rfl rfl)<|sd_done<|sw_seq<|cnF rfl (fun c1 => ?_) (fun c1 => ?_)
 · replace hm := iF c1 hm
   refine sw_exit<|then_x<|then_x<|block_x<|then_n<|qs 1 rfl<|qm rfl<|sd_done<|sw_ret ?_
   have X9 := ((Gr.refl w).kz K1)
   cases hm
   refine ⟨_, _, rfl, res_1 rfl (rv_tmp rfl), ?_⟩
   exact ⟨rfl, X9⟩
 replace hm := iT c1 hm
 refine qu<|sw_seq<|sw_block<|qs 2 rfl<|qm rfl<|qm rfl<|qd 6 rfl<|qm rfl<|qm rfl ?_
 refine qm rfl ?_
 obtain ⟨y3, hy3, hm⟩ := bnd hm
 have B4 := (hp0.kz K1)
 refine qv rfl (vv_ixT (i := a2) Tryz.underlying45 (agg_133).siz rfl B4 rfl hy3)<|qv rfl (vv_elWT agg_133 rfl B4 hy3 (by first | rfl | omega)) ?_
 have B5 := (hbp1_0.kz K1)
 obtain ⟨x4, hx4, hm⟩ := bnd hm
 refine qe rfl (ev_callV en_123 rfl rfl (cover_Open_1_w hx4 B5)) ?_
 rintro _ w2 ⟨rfl, G2⟩
 refine sd_done<|sw_cond rfl (fun c2 => ?_) (fun c2 => ?_)
 · replace hm := cnd_t c2 hm
   refine qs 2 rfl<|qm rfl<|qm rfl<|sd_done<|sw_ret<|block_r<|then_r<|then_r<|block_r<|then_r ?_
   have X7 := (((Gr.refl w).kz K1).trans G2)
   cases hm
   refine ⟨_, _, rfl, res_1 rfl (rv_tmp rfl), ?_⟩
   exact ⟨rfl, X7⟩
 replace hm := cnd_f c2 hm
 refine sw_skip<|block_n<|then_n<|qg 2 rfl<|qv rfl (vv_add (k := .i64) (a := a2) (b := 1) rfl rfl)<|qm rfl<|sd_nil ?_
 have K_8 : Kz [] w w2 := (K1.gr G2)
 subst hrec1
 exact ⟨rfl, ⟨n1, w64 (a2 + 1)⟩, sbq, ⟨hm, K_8⟩, Nat.lt_succ_self _⟩
theorem slices_ContainsFunc_9968_cover_Open_1_w {p0 p1_0 vp0 zp0 gp0 op0 bp1_0 r} (hm : slices_ContainsFunc_9968_cover_Open_1 p0 p1_0 = some r) {w : World} (hp0 : Rd w zp0 gp0 op0 18 vp0 (p0.map TItem.cs)) (hbp1_0 : Bx w bp1_0 175 (Tcover_tree.cs p1_0)) :
    Calls Tryz.prog 125 [vp0, .func (.func 123) [].toArray [.pointer (some ⟨bp1_0, 0, none⟩)].toArray].toArray w fun e w' => ∃ v, e = .returned v ∧ (v = .bool r ∧ Gr w w') := by
 unfold slices_ContainsFunc_9968_cover_Open_1 at hm
 refine calls_of_sw 9 Tryz.func125 rfl rfl rfl<|qs 1 rfl<|qm rfl<|qd 5 rfl<|qm rfl<|qm rfl ?_
 obtain ⟨x1, hx1, hm⟩ := bnd hm
 refine qe rfl (eC en_200 rfl (slices_IndexFunc_c205_cover_Open_1_w hx1 hp0 hbp1_0)) ?_
 rintro _ w1 ⟨rfl, G1⟩
 refine qv rfl (vv_geq (a := x1) (b := 0) rfl rfl)<|qm rfl<|sd_done<|sw_ret ?_
 have X4 := ((Gr.refl w).trans G1)
 cases hm
 refine ⟨_, _, rfl, res_1 rfl (rv_tmp rfl), ?_⟩
 exact ⟨rfl, X4⟩
theorem cover_tree_leads_w {p0 p1 p2 r} (hm : cover_tree_leads p0 p1 p2 = some r) {w : World} :
    Calls Tryz.prog 201 [.agg (Tcover_tree.cs p0).toArray, .agg (TLabel.cs p1).toArray, .agg (TSubset.cs p2).toArray].toArray w fun e w' => ∃ v, e = .returned v ∧ (v = .bool r ∧ Gr w w') := by
 unfold cover_tree_leads at hm
 refine calls_of_sw 38 Tryz.func201 rfl rfl rfl<|qs 4 rfl<|qe rfl (ev_box (cs := Tcover_tree.cs p0) rfl rfl) ?_
 rintro _ w1 ⟨b1, rfl, hbw1, Bw1, G1⟩
 refine qe rfl (ev_box (cs := TLabel.cs p1) rfl rfl) ?_
 rintro _ w2 ⟨b2, rfl, hbw2, Bw2, G2⟩
 refine qe rfl (ev_box (cs := TSubset.cs p2) rfl rfl) ?_
 rintro _ w3 ⟨b3, rfl, hbw3, Bw3, G3⟩
 refine qm rfl<|sd_done<|sw_seq<|qs 5 rfl<|qv rfl (vv_fieldAddr fa_92_0 rfl) ?_
 have B7 := (Bw2.gr G3)
 refine qv rfl (vv_load1 (v := .int .i64 p1.Node) one_3 rfl B7 rfl)<|qv rfl (vv_fieldAddr fa_131_0 rfl)<|qv rfl (vv_load1 (v := .int .i64 p2.Node) one_3 rfl Bw3 rfl)<|qv rfl (vv_neq (a := p1.Node) (b := p2.Node) rfl rfl)<|sd_done<|sw_cond rfl (fun c1 => ?_) (fun c1 => ?_)
 · replace hm := iT c1 hm
   refine qs 1 rfl<|qm rfl<|qb ?_
   have X8 := ((((Gr.refl w).trans G1).trans G2).trans G3)
   cases hm
   refine ⟨_, _, rfl, res_1 rfl (rv_tmp rfl), ?_⟩
   exact ⟨rfl, X8⟩
 replace hm := iF c1 hm
 refine qu<|sw_seq ?_
 have X9 := ((((Gr.refl w).trans G1).trans G2).trans G3)
 refine qj (β := Bool) (rg 13 8) (fun a1 => [(20, .bool a1)]) (fun a1 wr => (cover_tree_leads_J1 p1 p2 a1 = some r) ∧ Kz [] w3 wr) ?_ ?_
 · refine qg 8 rfl<|qv rfl (vv_fieldAddr fa_175_0 rfl) ?_
   have B20 := ((Bw1.gr G2).gr G3)
   refine qv rfl (vv_load1 (v := bv p0.kind) one_5 rfl B20 rfl)<|qv rfl (vv_eqlB (p := p0.kind) (q := 1#8) rfl rfl)<|qp rfl (vv_move rfl) (fun c4 => ?_) (fun c4 => ?_)
   · replace hm := iT c4 hm
     refine qk rfl<|qk rfl<|qk rfl<|qm rfl<|sd_nil ?_
     exact ⟨rfl, true, sbq, hm, kz0⟩
   replace hm := iF c4 hm
   refine qv rfl (vv_fieldAddr fa_131_1 rfl)<|qv rfl (vv_load1 (v := .int .i64 p2.Minus) one_3 rfl Bw3 rfl)<|qv rfl (vv_eql (a := p2.Minus) (b := 0) rfl rfl)<|qm rfl<|sd_nil ?_
   exact ⟨rfl, (decide (p2.Minus = 0)), sbq, hm, kz0⟩
 clear hm; rintro a1 w4 ⟨hm, K4⟩
 unfold cover_tree_leads_J1 at hm
 refine sw_cond rfl (fun c2 => ?_) (fun c2 => ?_)
 · replace hm := cnd_t c2 hm
   refine qs 6 rfl<|qv rfl (vv_fieldAddr fa_92_1 rfl) ?_
   have B11 := (B7.kz K4)
   refine qv rfl (vv_load1 (v := .int .i64 p1.Minus) one_3 rfl B11 rfl)<|qv rfl (vv_fieldAddr fa_131_1 rfl) ?_
   have B12 := (Bw3.kz K4)
   refine qv rfl (vv_load1 (v := .int .i64 p2.Minus) one_3 rfl B12 rfl)<|qv rfl (vv_eql (a := p1.Minus) (b := p2.Minus) rfl rfl)<|qm rfl<|qb ?_
   have X13 := (X9.kz K4)
   cases hm
   refine ⟨_, _, rfl, res_1 rfl (rv_tmp rfl), ?_⟩
   exact ⟨rfl, X13⟩
 replace hm := cnd_f c2 hm
 refine qu<|qs 3 rfl<|qv rfl (vv_fieldAddr fa_92_1 rfl) ?_
 have B14 := (B7.kz K4)
 refine qv rfl (vv_load1 (v := .int .i64 p1.Minus) one_3 rfl B14 rfl)<|qm rfl<|qd 11 rfl<|qm rfl<|qv rfl (vv_fieldAddr fa_92_0 rfl)<|qv rfl (vv_load1 (v := .int .i64 p1.Node) one_3 rfl B14 rfl) ?_
 obtain ⟨x2, hx2, hm⟩ := bnd hm
 refine qe rfl (eC en_199 rfl (cover_node_below_w hx2)) ?_
 rintro _ w5 ⟨rfl, G5⟩
 refine qpF rfl (vv_move rfl) (fun c3 => ?_) (fun c3 => ?_)
 · replace hm := cnd_f c3 hm
   refine qk rfl<|qk rfl<|qk rfl<|qk rfl<|qm rfl<|qm rfl<|sd_done<|sw_ret ?_
   have X19 := ((X9.kz K4).trans G5)
   cases hm
   refine ⟨_, _, rfl, res_1 rfl (rv_tmp rfl), ?_⟩
   exact ⟨rfl, X19⟩
 replace hm := cnd_t c3 hm
 refine qv rfl (vv_fieldAddr fa_131_1 rfl) ?_
 have B16 := ((Bw3.kz K4).gr G5)
 refine qv rfl (vv_load1 (v := .int .i64 p2.Minus) one_3 rfl B16 rfl)<|qm rfl ?_
 obtain ⟨x3, hx3, hm⟩ := bnd hm
 refine qe rfl (eC en_199 rfl (cover_node_below_w hx3)) ?_
 rintro _ w6 ⟨rfl, G6⟩
 refine qm rfl<|qm rfl<|sd_done<|sw_ret ?_
 have X18 := (((X9.kz K4).trans G5).trans G6)
 cases hm
 refine ⟨_, _, rfl, res_1 rfl (rv_tmp rfl), ?_⟩
 exact ⟨rfl, X18⟩
theorem cover_tree_find_w {p0 p1 p2 vp1_1 zp1_1 gp1_1 op1_1 r} (hm : cover_tree_find p0 p1 p2 = some r) {w : World} (hp1_1 : Rd w zp1_1 gp1_1 op1_1 18 vp1_1 (p1.Labels.map TLabel.cs)) :
    Calls Tryz.prog 126 [.agg (Tcover_tree.cs p0).toArray, .agg (TSecret.cs p1 vp1_1).toArray, .agg (TSubset.cs p2).toArray].toArray w fun e w' => ∃ v, e = .returned v ∧ (v = .tuple [kv r.1, .bool r.2].toArray ∧ Gr w w') := by
 unfold cover_tree_find at hm
 refine calls_of_sw 44 Tryz.func126 rfl rfl rfl<|qs 5 rfl<|qe rfl (ev_box (cs := Tcover_tree.cs p0) rfl rfl) ?_
 rintro _ w1 ⟨b1, rfl, hbw1, Bw1, G1⟩
 have lt3 := Bw1.lt
 refine qe rfl (ev_box (cs := TSecret.cs p1 vp1_1) rfl rfl) ?_
 rintro _ w2 ⟨b2, rfl, hbw2, Bw2, G2⟩
 have lt5 := Bw2.lt
 refine qe rfl (ev_box (cs := TSubset.cs p2) rfl rfl) ?_
 rintro _ w3 ⟨b3, rfl, hbw3, Bw3, G3⟩
 have lt7 := Bw3.lt
 refine qe rfl (ev_alloc (cs := kb k0) zv_23 rfl) ?_
 rintro _ w4 ⟨b4, rfl, hbw4, Bw4, G4⟩
 have lt9 := Bw4.lt
 refine qm rfl<|sd_done<|sw_seq<|qs 4 rfl<|qv rfl (vv_fieldAddr fa_33_1 rfl) ?_
 have Y1 := Gr.trans G3 G4
 have B10 := (Bw2.gr Y1)
 refine qv rfl (vv_load1 (v := vp1_1) one_29 rfl B10 rfl) ?_
 have B11 := (((hp1_1.gr G1).gr G2).gr Y1)
 refine qv rfl (vv_lenT (l := p1.Labels) (c := TLabel.cs) Tryz.underlying29 rfl B11)<|qm rfl<|sd_done<|sw_block ?_
 have X12 := ((((Gr.refl w).trans G1).trans G2).trans Y1)
 refine sw_loopD (α := Nat × Int) ([7, 9] ++ rg 13 30) (fun ⟨n1, a2⟩ => [(7, .bool false), (13, .int .i64 a2)]) (fun ⟨n1, a2⟩ wr => (fixN (cover_tree_find_L1 p0 p1 p2) n1 a2 = some r) ∧ Kz [] w4 wr) (fun ⟨n1, a2⟩ => n1) ⟨FUEL, 0⟩ ?_ ?_ ?_
 · exact sbq
 · exact ⟨hm, Kz.refl _ _⟩
 clear hm; rintro ⟨n1, a2⟩ w5 ⟨hm, K5⟩
 have z13 := K5.size
 have hb := fix_succ hm; clear hm; obtain ⟨n1, rfl, hm⟩ := hb
 generalize hrec1 : fixN (cover_tree_find_L1 p0 p1 p2) n1 = rec1 at hm
 unfold cover_tree_find_L1 at hm
 try dsimp only at hm
 refine qs 1 rfl<|qv rfl (vv_lss (a := a2) (b := (p1.Labels.length : Int)) rfl rfl)<|sd_done<|sw_seq<|cnF rfl (fun c1 => ?_) (fun c1 => ?_)
 · replace hm := iF c1 hm
   refine sw_exit<|then_x<|then_x<|block_x<|then_n<|qs 3 rfl<|qv rfl (vv_buildZ bz_23) ?_
   have B39 := (Bw4.kz K5)
   refine qe rfl (ev_stW agg_23 rfl rfl rfl B39 rfl rfl) ?_
   rintro _ w14 ⟨Bw14, M14⟩
   refine qm rfl<|sd_done<|sw_ret ?_
   have X41 := ((X12.kz K5).md M14)
   cases hm
   refine ⟨_, _, rfl, res_2 rfl (rv_cellW agg_23 rfl Bw14 rfl) (rv_tmp rfl), ?_⟩
   exact ⟨rfl, X41⟩
 replace hm := iT c1 hm
 refine qu<|sw_seq<|sw_block<|qs 4 rfl ?_
 obtain ⟨y3, hy3, hm⟩ := bnd hm
 have B14 := (B11.kz K5)
 refine qv rfl (vv_ixT (i := a2) Tryz.underlying29 (agg_92).siz rfl B14 rfl hy3)<|qv rfl (vv_elWT agg_92 rfl B14 hy3 (by first | rfl | omega))<|qe rfl (ev_alloc (cs := TLabel.cs (TLabel.mk 0 0 k0)) zv_92 rfl) ?_
 rintro _ w6 ⟨b6, rfl, hbw6, Bw6, G6⟩
 refine qe rfl (ev_stW agg_92 rfl rfl rfl Bw6 rfl rfl) ?_
 rintro _ w7 ⟨Bw7, M7⟩
 refine sd_done<|sw_seq<|sw_block<|qs 6 rfl ?_
 have B18 := (((((Bw1.gr G2).gr Y1).kz K5).gr G6).md M7)
 refine qv rfl (vv_loadW agg_175 rfl B18 rfl)<|qv rfl (vv_loadW agg_92 rfl Bw7 rfl) ?_
 have B19 := ((((Bw3.gr G4).kz K5).gr G6).md M7)
 refine qv rfl (vv_loadW agg_131 rfl B19 rfl) ?_
 obtain ⟨x4, hx4, hm⟩ := bnd hm
 refine qe rfl (eC en_201 rfl (cover_tree_leads_w hx4)) ?_
 rintro _ w8 ⟨rfl, G8⟩
 refine qv rfl (vv_not rfl)<|qm rfl<|sd_done<|sw_cond rfl (fun c2 => ?_) (fun c2 => ?_)
 · replace hm := cnd_t c2 hm
   refine sw_exit<|block_o rfl<|then_x<|block_x<|then_n<|qg 2 rfl<|qv rfl (vv_add (k := .i64) (a := a2) (b := 1) rfl rfl)<|qm rfl<|sd_nil ?_
   have K_21 : Kz [] w4 w8 := (((K5.gr G6).md M7).gr G8)
   subst hrec1
   exact ⟨rfl, ⟨n1, w64 (a2 + 1)⟩, sbq, ⟨hm, K_21⟩, Nat.lt_succ_self _⟩
 replace hm := cnd_f c2 hm
 have X22 := ((((X12.kz K5).trans G6).md M7).trans G8)
 refine qj (β := Bool) (rg 23 9) (fun a5 => [(23, .bool a5)]) (fun a5 wr => (cover_tree_find_J2 p2 y3 a5 = some r) ∧ Kz [] w8 wr) ?_ ?_
 · refine qg 9 rfl<|qv rfl (vv_fieldAddr fa_175_0 rfl) ?_
   have B35 := (B18.gr G8)
   refine qv rfl (vv_load1 (v := bv p0.kind) one_5 rfl B35 rfl)<|qv rfl (vv_eqlB (p := p0.kind) (q := 1#8) rfl rfl)<|qp rfl (vv_move rfl) (fun c4 => ?_) (fun c4 => ?_)
   · replace hm := iT c4 hm
     refine qk rfl<|qk rfl<|qk rfl<|qm rfl<|qm rfl<|sd_nil ?_
     exact ⟨rfl, true, sbq, hm, kz0⟩
   replace hm := iF c4 hm
   refine qv rfl (vv_fieldAddr fa_131_1 rfl) ?_
   have B37 := (B19.gr G8)
   refine qv rfl (vv_load1 (v := .int .i64 p2.Minus) one_3 rfl B37 rfl)<|qv rfl (vv_eql (a := p2.Minus) (b := 0) rfl rfl)<|qm rfl<|qm rfl<|sd_nil ?_
   exact ⟨rfl, (decide (p2.Minus = 0)), sbq, hm, kz0⟩
 clear hm; rintro a5 w9 ⟨hm, K9⟩
 unfold cover_tree_find_J2 at hm
 refine sw_cond rfl (fun c3 => ?_) (fun c3 => ?_)
 · replace hm := cnd_t c3 hm
   refine qs 4 rfl<|qv rfl (vv_fieldAddr fa_92_2 rfl) ?_
   have B24 := ((Bw7.gr G8).kz K9)
   refine qv rfl (vv_loadM (vs := kb y3.Key) agg_23 rfl B24 rfl rfl) ?_
   have B25 := (((((Bw4.kz K5).gr G6).md M7).gr G8).kz K9)
   refine qe rfl (ev_stW agg_23 rfl rfl rfl B25 rfl rfl) ?_
   rintro _ w10 ⟨Bw10, M10⟩
   refine qm rfl<|sd_done<|sw_ret<|block_r<|then_r<|block_r<|then_r<|then_r<|block_r<|then_r ?_
   have X27 := ((X22.kz K9).md M10)
   cases hm
   refine ⟨_, _, rfl, res_2 rfl (rv_cellW agg_23 rfl Bw10 rfl) (rv_tmp rfl), ?_⟩
   exact ⟨rfl, X27⟩
 replace hm := cnd_f c3 hm
 refine sw_skip<|block_n<|then_n<|qs 10 rfl<|qv rfl (vv_fieldAddr fa_92_2 rfl) ?_
 have B28 := ((Bw7.gr G8).kz K9)
 refine qv rfl (vv_loadM (vs := kb y3.Key) agg_23 rfl B28 rfl rfl)<|qv rfl (vv_fieldAddr fa_92_1 rfl)<|qv rfl (vv_load1 (v := .int .i64 y3.Minus) one_3 rfl B28 rfl)<|qv rfl (vv_fieldAddr fa_131_1 rfl) ?_
 have B29 := ((B19.gr G8).kz K9)
 refine qv rfl (vv_load1 (v := .int .i64 p2.Minus) one_3 rfl B29 rfl) ?_
 obtain ⟨x6, hx6, hm⟩ := bnd hm
 refine qe rfl (eC en_197 rfl (cover_descend_w hx6)) ?_
 rintro _ w11 ⟨rfl, G11⟩
 obtain ⟨x7, hx7, hm⟩ := bnd hm
 refine qe rfl (eC en_196 rfl (cover_middle_w hx7)) ?_
 rintro _ w12 ⟨rfl, G12⟩
 have B32 := (((((((Bw4.kz K5).gr G6).md M7).gr G8).kz K9).gr G11).gr G12)
 refine qe rfl (ev_stW agg_23 rfl rfl rfl B32 rfl rfl) ?_
 rintro _ w13 ⟨Bw13, M13⟩
 refine qm rfl<|sd_done<|sw_ret<|block_r<|then_r<|then_r<|block_r<|then_r ?_
 have X34 := ((((X22.kz K9).trans G11).trans G12).md M13)
 cases hm
 refine ⟨_, _, rfl, res_2 rfl (rv_cellW agg_23 rfl Bw13 rfl) (rv_tmp rfl), ?_⟩
 exact ⟨rfl, X34⟩
theorem cover_Open_w {p0 p1 p2 vp1_1 zp1_1 gp1_1 op1_1 vp2_0 zp2_0 gp2_0 op2_0 vp2_2 zp2_2 gp2_2 op2_2 r} (hm : cover_Open p0 p1 p2 = some r) {w : World} (hp1_1 : Rd w zp1_1 gp1_1 op1_1 18 vp1_1 (p1.Labels.map TLabel.cs)) (hp2_0 : Rd w zp2_0 gp2_0 op2_0 18 vp2_0 (p2.Items.map TItem.cs)) (hp2_2 : Rd w zp2_2 gp2_2 op2_2 2 vp2_2 (p2.Points.map TPoint.cs)) :
    Calls Tryz.prog 53 [.agg (TScheme.cs p0).toArray, .agg (TSecret.cs p1 vp1_1).toArray, .agg (THeader.cs p2 vp2_0 vp2_2).toArray].toArray w fun e w' => ∃ v, e = .returned v ∧ (v = .tuple [kv r.1, .int .i64 r.2].toArray ∧ Gr w w') := by
 have lt1 := hp1_1.lth
 have lt2 := hp2_0.lth
 have lt3 := hp2_2.lth
 unfold cover_Open at hm
 refine calls_of_sw 82 Tryz.func53 rfl rfl rfl<|qs 5 rfl<|qe rfl (ev_box (cs := TScheme.cs p0) rfl rfl) ?_
 rintro _ w1 ⟨b1, rfl, hbw1, Bw1, G1⟩
 have lt5 := Bw1.lt
 refine qe rfl (ev_box (cs := TSecret.cs p1 vp1_1) rfl rfl) ?_
 rintro _ w2 ⟨b2, rfl, hbw2, Bw2, G2⟩
 have lt7 := Bw2.lt
 refine qe rfl (ev_box (cs := THeader.cs p2 vp2_0 vp2_2) rfl rfl) ?_
 rintro _ w3 ⟨b3, rfl, hbw3, Bw3, G3⟩
 have lt9 := Bw3.lt
 refine qe rfl (ev_alloc (cs := kb k0) zv_23 rfl) ?_
 rintro _ w4 ⟨b4, rfl, hbw4, Bw4, G4⟩
 have lt11 := Bw4.lt
 refine qm rfl<|qd 8 rfl ?_
 have Y1 := Gr.trans (Gr.trans G2 G3) G4
 have B12 := (Bw1.gr Y1)
 refine qv rfl (vv_loadW agg_28 rfl B12 rfl) ?_
 obtain ⟨x1, hx1, hm⟩ := bnd hm
 refine qe rfl (eC en_112 rfl (cover_enter_w hx1 (Own.rd (own_nil _ 0 131 2)))) ?_
 rintro _ w5 ⟨rfl, G5⟩
 have z13 := G5.size
 refine qm rfl<|qm rfl<|qm rfl<|qe rfl (ev_alloc (cs := Tcover_tree.cs (Tcover_tree.mk 0#8 0 0)) zv_175 rfl) ?_
 rintro _ w6 ⟨b6, rfl, hbw6, Bw6, G6⟩
 have lt15 := Bw6.lt
 refine qe rfl (ev_stW agg_175 rfl rfl rfl Bw6 rfl rfl) ?_
 rintro _ w7 ⟨Bw7, M7⟩
 have z16 := M7.size
 refine qm rfl<|sd_done<|sw_seq<|qs 2 rfl<|qm rfl<|qv rfl (vv_neq (a := x1.2) (b := 0) rfl rfl)<|sd_done<|sw_cond rfl (fun c1 => ?_) (fun c1 => ?_)
 · replace hm := iT c1 hm
   refine qs 4 rfl<|qv rfl (vv_buildZ bz_23)<|qm rfl ?_
   have Y2 := Gr.trans G5 G6
   have B17 := ((Bw4.gr Y2).md M7)
   refine qe rfl (ev_stW agg_23 rfl rfl rfl B17 rfl rfl) ?_
   rintro _ w8 ⟨Bw8, M8⟩
   refine qm rfl<|qb ?_
   have Y3 := Gr.trans (Gr.trans G1 Y1) Y2
   have X19 := ((((Gr.refl w).trans Y3).md M7).md M8)
   cases hm
   refine ⟨_, _, rfl, res_2 rfl (rv_cellW agg_23 rfl Bw8 rfl) (rv_tmp rfl), ?_⟩
   exact ⟨rfl, X19⟩
 replace hm := iF c1 hm
 refine qu<|qs 2 rfl<|qv rfl (vv_makeFunc rfl rfl)<|qm rfl<|sd_done<|sw_seq ?_
 have Y4 := Gr.trans (Gr.trans (Gr.trans G1 Y1) G5) G6
 have X20 := (((Gr.refl w).trans Y4).md M7)
 refine qj (β := Bool) (rg 26 27) (fun a2 => [(52, .bool a2)]) (fun a2 wr => (cover_Open_J1 p1 p2 x1 a2 = some r) ∧ Kz [] w7 wr) ?_ ?_
 · refine qg 27 rfl<|qv rfl (vv_fieldAddr fa_48_0 rfl) ?_
   have Y5 := Gr.trans (Gr.trans G4 G5) G6
   have B60 := ((Bw3.gr Y5).md M7)
   refine qv rfl (vv_load1 (v := vp2_0) one_45 rfl B60 rfl) ?_
   have B61 := ((hp2_0.gr Y4).md M7 (pb_lt lt2))
   refine qv rfl (vv_lenT (l := p2.Items) (c := TItem.cs) Tryz.underlying45 rfl B61)<|qv rfl (vv_gtr (a := (p2.Items.length : Int)) (b := 64) rfl rfl)<|qp rfl (vv_move rfl) (fun c6 => ?_) (fun c6 => ?_)
   · replace hm := iT c6 hm
     refine qk rfl<|qk rfl<|qk rfl<|qm rfl<|qm rfl<|qk rfl<|qk rfl<|qk rfl<|qk rfl<|qm rfl<|qm rfl<|qk rfl<|qk rfl ?_
     refine qk rfl<|qk rfl<|qm rfl<|qm rfl<|qk rfl<|qk rfl<|qk rfl<|qk rfl<|qm rfl<|sd_nil ?_
     exact ⟨rfl, true, sbq, hm, kz0⟩
   replace hm := iF c6 hm
   refine qv rfl (vv_fieldAddr fa_48_1 rfl)<|qv rfl (vv_load1 (v := wv p2.Base) one_24 rfl B60 rfl)<|qv rfl (vv_neqU (c := p2.Base) (d := 0#64) rfl rfl)<|qm rfl<|qp rfl (vv_move rfl) (fun c7 => ?_) (fun c7 => ?_)
   · replace hm := iT c7 hm
     refine qk rfl<|qk rfl<|qk rfl<|qk rfl<|qm rfl<|qm rfl<|qk rfl<|qk rfl<|qk rfl<|qk rfl<|qm rfl<|qm rfl<|qk rfl ?_
     refine qk rfl<|qk rfl<|qk rfl<|qm rfl<|sd_nil ?_
     exact ⟨rfl, true, sbq, hm, kz0⟩
   replace hm := iF c7 hm
   refine qv rfl (vv_fieldAddr fa_48_2 rfl)<|qv rfl (vv_load1 (v := vp2_2) one_46 rfl B60 rfl) ?_
   have B64 := ((hp2_2.gr Y4).md M7 (pb_lt lt3))
   refine qv rfl (vv_lenT (l := p2.Points) (c := TPoint.cs) Tryz.underlying46 rfl B64)<|qv rfl (vv_gtr (a := (p2.Points.length : Int)) (b := 0) rfl rfl)<|qm rfl<|qp rfl (vv_move rfl) (fun c8 => ?_) (fun c8 => ?_)
   · replace hm := iT c8 hm
     refine qk rfl<|qk rfl<|qk rfl<|qk rfl<|qm rfl<|qm rfl<|qk rfl<|qk rfl<|qk rfl<|qk rfl<|qm rfl<|sd_nil ?_
     exact ⟨rfl, true, sbq, hm, kz0⟩
   replace hm := iF c8 hm
   refine qv rfl (vv_fieldAddr fa_48_3 rfl)<|qv rfl (vv_loadM (vs := kb p2.Box) agg_23 rfl B60 rfl rfl)<|qv rfl (vv_buildZ bz_23)<|qv rfl (vv_neqS (cf := kb) (a := p2.Box) (b := k0) eqt_23 rfl rfl rfl rfl (fun h => kb_inj h))<|qm rfl<|qp rfl (vv_move rfl) (fun c9 => ?_) (fun c9 => ?_)
   · replace hm := iT c9 hm
     refine qk rfl<|qk rfl<|qk rfl<|qk rfl<|qm rfl<|sd_nil ?_
     exact ⟨rfl, true, sbq, hm, kz0⟩
   replace hm := iF c9 hm
   refine qv rfl (vv_fieldAddr fa_48_0 rfl)<|qv rfl (vv_load1 (v := vp2_0) one_45 rfl B60 rfl)<|qm rfl ?_
   obtain ⟨x7, hx7, hm⟩ := bnd hm
   refine qe rfl (eC en_125 rfl (slices_ContainsFunc_9968_cover_Open_1_w hx7 B61 Bw7)) ?_
   rintro _ w24 ⟨rfl, G24⟩
   refine qm rfl<|sd_nil ?_
   exact ⟨rfl, x7, sbq, hm, (kz0.gr G24)⟩
 clear hm; rintro a2 w9 ⟨hm, K9⟩
 have z21 := K9.size
 unfold cover_Open_J1 at hm
 refine sw_cond rfl (fun c2 => ?_) (fun c2 => ?_)
 · replace hm := cnd_t c2 hm
   refine qs 3 rfl<|qv rfl (vv_buildZ bz_23) ?_
   have Y6 := Gr.trans G5 G6
   have B22 := (((Bw4.gr Y6).md M7).kz K9)
   refine qe rfl (ev_stW agg_23 rfl rfl rfl B22 rfl rfl) ?_
   rintro _ w10 ⟨Bw10, M10⟩
   refine qm rfl<|qb ?_
   have X24 := ((X20.kz K9).md M10)
   cases hm
   refine ⟨_, _, rfl, res_2 rfl (rv_cellW agg_23 rfl Bw10 rfl) (rv_tmp rfl), ?_⟩
   exact ⟨rfl, X24⟩
 replace hm := cnd_f c2 hm
 refine qu<|sw_seq<|qs 4 rfl<|qv rfl (vv_fieldAddr fa_48_0 rfl) ?_
 have Y7 := Gr.trans (Gr.trans G4 G5) G6
 have B25 := (((Bw3.gr Y7).md M7).kz K9)
 refine qv rfl (vv_load1 (v := vp2_0) one_45 rfl B25 rfl) ?_
 have B26 := (((hp2_0.gr Y4).md M7 (pb_lt lt2)).kz K9)
 refine qv rfl (vv_lenT (l := p2.Items) (c := TItem.cs) Tryz.underlying45 rfl B26)<|qm rfl<|sd_done<|sw_block ?_
 have X27 := (X20.kz K9)
 have B28 := (((hp1_1.gr Y4).md M7 (pb_lt lt1)).kz K9)
 refine sw_loopD (α := Nat × Int) ([7, 12, 13, 14, 15] ++ rg 57 24) (fun ⟨n2, a4⟩ => [(7, .int .i64 0), (57, .int .i64 a4)]) (fun ⟨n2, a4⟩ wr => (fixN (cover_Open_L2 p1 p2 x1) n2 a4 = some r) ∧ Kz [] w9 wr) (fun ⟨n2, a4⟩ => n2) ⟨FUEL, 0⟩ ?_ ?_ ?_
 · exact sbq
 · exact ⟨hm, Kz.refl _ _⟩
 clear hm; rintro ⟨n2, a4⟩ w11 ⟨hm, K11⟩
 have z30 := K11.size
 have hb := fix_succ hm; clear hm; obtain ⟨n2, rfl, hm⟩ := hb
 generalize hrec2 : fixN (cover_Open_L2 p1 p2 x1) n2 = rec2 at hm
 unfold cover_Open_L2 at hm
 try dsimp only at hm
 refine qs 1 rfl<|qv rfl (vv_lss (a := a4) (b := (p2.Items.length : Int)) rfl rfl)<|sd_done<|sw_seq<|cnF rfl (fun c3 => ?_) (fun c3 => ?_)
 · replace hm := iF c3 hm
   refine sw_exit<|then_x<|then_x<|block_x<|then_n<|qs 3 rfl<|qv rfl (vv_buildZ bz_23) ?_
   have Y8 := Gr.trans G5 G6
   have B57 := ((((Bw4.gr Y8).md M7).kz K9).kz K11)
   refine qe rfl (ev_stW agg_23 rfl rfl rfl B57 rfl rfl) ?_
   rintro _ w23 ⟨Bw23, M23⟩
   refine qm rfl<|sd_done<|sw_ret ?_
   have X59 := ((X27.kz K11).md M23)
   cases hm
   refine ⟨_, _, rfl, res_2 rfl (rv_cellW agg_23 rfl Bw23 rfl) (rv_tmp rfl), ?_⟩
   exact ⟨rfl, X59⟩
 replace hm := iT c3 hm
 refine qu<|sw_seq<|sw_block<|qs 4 rfl ?_
 obtain ⟨y5, hy5, hm⟩ := bnd hm
 have B31 := (B26.kz K11)
 refine qv rfl (vv_ixT (i := a4) Tryz.underlying45 (agg_133).siz rfl B31 rfl hy5)<|qv rfl (vv_elWT agg_133 rfl B31 hy5 (by first | rfl | omega))<|qe rfl (ev_alloc (cs := TItem.cs (TItem.mk (TSubset.mk 0 0) k0)) zv_133 rfl) ?_
 rintro _ w12 ⟨b12, rfl, hbw12, Bw12, G12⟩
 have lt33 := Bw12.lt
 refine qe rfl (ev_stW agg_133 rfl rfl rfl Bw12 rfl rfl) ?_
 rintro _ w13 ⟨Bw13, M13⟩
 have z34 := M13.size
 refine qd 11 rfl ?_
 have B35 := ((((Bw7.kz K9).kz K11).gr G12).md M13)
 refine qv rfl (vv_loadW agg_175 rfl B35 rfl) ?_
 have Y9 := Gr.trans G3 Y7
 have B36 := ((((((Bw2.gr Y9).md M7).kz K9).kz K11).gr G12).md M13)
 refine qv rfl (vv_loadW agg_33 rfl B36 rfl)<|qv rfl (vv_fieldAddr fa_133_0 rfl)<|qv rfl (vv_loadM (vs := TSubset.cs y5.Subset) agg_131 rfl Bw13 rfl rfl) ?_
 have B37 := (((B28.kz K11).gr G12).md M13 (pb_lt lt1))
 obtain ⟨x6, hx6, hm⟩ := bnd hm
 refine qe rfl (eC en_126 rfl (cover_tree_find_w hx6 B37)) ?_
 rintro _ w14 ⟨rfl, G14⟩
 have z38 := G14.size
 refine qm rfl<|qm rfl<|qm rfl<|qe rfl (ev_alloc (cs := kb k0) zv_23 rfl) ?_
 rintro _ w15 ⟨b15, rfl, hbw15, Bw15, G15⟩
 have lt40 := Bw15.lt
 refine qe rfl (ev_stW agg_23 rfl rfl rfl Bw15 rfl rfl) ?_
 rintro _ w16 ⟨Bw16, M16⟩
 have z41 := M16.size
 refine qm rfl<|qd 1 rfl<|qm rfl<|sd_done<|cnF rfl (fun c4 => ?_) (fun c4 => ?_)
 · replace hm := cnd_f c4 hm
   refine sw_skip<|block_n<|then_n<|qg 2 rfl<|qv rfl (vv_add (k := .i64) (a := a4) (b := 1) rfl rfl)<|qm rfl<|sd_nil ?_
   have Y10 := Gr.trans G14 G15
   have K_56 : Kz [] w9 w16 := ((((K11.gr G12).md M13).gr Y10).md M16)
   subst hrec2
   exact ⟨rfl, ⟨n2, w64 (a4 + 1)⟩, sbq, ⟨hm, K_56⟩, Nat.lt_succ_self _⟩
 replace hm := cnd_t c4 hm
 refine qs 6 rfl<|qv rfl (vv_loadW agg_23 rfl Bw16 rfl)<|qv rfl (vv_fieldAddr fa_133_1 rfl) ?_
 have Y11 := Gr.trans G14 G15
 have B42 := ((Bw13.gr Y11).md M16)
 refine qv rfl (vv_loadM (vs := kb y5.Box) agg_23 rfl B42 rfl rfl)<|qe rfl (eC en_111 rfl (decr_c x6.1 y5.Box _)) ?_
 rintro _ w17 ⟨rfl, G17⟩
 have z43 := G17.size
 refine qe rfl (ev_alloc (cs := kb k0) zv_23 rfl) ?_
 rintro _ w18 ⟨b18, rfl, hbw18, Bw18, G18⟩
 refine qe rfl (ev_stW agg_23 rfl rfl rfl Bw18 rfl rfl) ?_
 rintro _ w19 ⟨Bw19, M19⟩
 refine sd_done<|sw_seq<|dw [([])] [] (.leaf [(0,10),(2,10),(3,10),(1,0),(4,10)]) ?_
 intro w20 G20 zw20
 refine sdz_leaf ?_
 have B47 := (Bw19.gr G20)
 refine dh 0 rfl rfl (fun w hS => vv_loadW agg_23 rfl (Bx.kp B47 hS) rfl)<|dh 0 rfl rfl (fun w hS => vv_fieldAddr fa_48_4 rfl) ?_
 have Y12 := Gr.trans G17 G18
 have B48 := ((((((((B25.kz K11).gr G12).md M13).gr Y11).md M16).gr Y12).md M19).gr G20)
 refine dh 0 rfl rfl (fun w hS => vv_loadM (vs := kb p2.Check) agg_23 rfl (Bx.kp B48 hS) rfl rfl)<|qz [] rfl (eC en_48 rfl (derive_c (decr x6.1 y5.Box) (un8 53#8) (un8_nn _) (un8_le _) 0#64 _)) ⟨fun _ => tk0, trivial⟩ ?_
 rintro _ w21 ⟨rfl, G21⟩
 refine kG G21 ?_
 have S50 := ((Kp.refl ([]) w20).gr G21)
 refine qh 0 rfl rfl S50 (fun w hS => vv_eqlS (cf := kb) (a := drv (decr x6.1 y5.Box) (un8 53#8) 0#64) (b := p2.Check) eqt_23 rfl rfl rfl rfl (fun h => kb_inj h))<|sd_done<|cnF rfl (fun c5 => ?_) (fun c5 => ?_)
 · replace hm := iF c5 hm
   refine sw_skip<|block_n<|then_n<|qg 2 rfl<|qv rfl (vv_add (k := .i64) (a := a4) (b := 1) rfl rfl)<|qm rfl<|sd_nil ?_
   have K_55 : Kz [] w9 w21 := ((((((((K11.gr G12).md M13).gr Y11).md M16).gr Y12).md M19).gr G20).gr G21)
   subst hrec2
   exact ⟨rfl, ⟨n2, w64 (a4 + 1)⟩, sbq, ⟨hm, K_55⟩, Nat.lt_succ_self _⟩
 replace hm := iT c5 hm
 refine qs 3 rfl ?_
 have B51 := (B47.gr G21)
 refine qv rfl (vv_loadW agg_23 rfl B51 rfl) ?_
 have Y13 := Gr.trans G5 G6
 have B52 := ((((((((((((Bw4.gr Y13).md M7).kz K9).kz K11).gr G12).md M13).gr Y11).md M16).gr Y12).md M19).gr G20).gr G21)
 refine qe rfl (ev_stW agg_23 rfl rfl rfl B52 rfl rfl) ?_
 rintro _ w22 ⟨Bw22, M22⟩
 refine qm rfl<|sd_done<|sw_ret<|block_r<|then_r<|then_r<|block_r<|then_r ?_
 have X54 := ((((((((((X27.kz K11).trans G12).md M13).trans Y11).md M16).trans Y12).md M19).trans G20).trans G21).md M22)
 cases hm
 refine ⟨_, _, rfl, res_2 rfl (rv_cellW agg_23 rfl Bw22 rfl) (rv_tmp rfl), ?_⟩
 exact ⟨rfl, X54⟩
theorem ref03_ValidHeader_w {p0 p1 vp1_0 zp1_0 gp1_0 op1_0 vp1_2 zp1_2 gp1_2 op1_2 r} (hm : ref03_ValidHeader p0 p1 = some r) {w : World} (hp1_0 : Rd w zp1_0 gp1_0 op1_0 18 vp1_0 (p1.Items.map TItem.cs)) (hp1_2 : Rd w zp1_2 gp1_2 op1_2 2 vp1_2 (p1.Points.map TPoint.cs)) :
    Calls Tryz.prog 159 [.agg (TScheme.cs p0).toArray, .agg (THeader.cs p1 vp1_0 vp1_2).toArray].toArray w fun e w' => ∃ v, e = .returned v ∧ (v = .bool r ∧ Gr w w') := by
 unfold ref03_ValidHeader at hm
 refine calls_of_sw 43 Tryz.func159 rfl rfl rfl<|qs 3 rfl<|qe rfl (ev_box (cs := TScheme.cs p0) rfl rfl) ?_
 rintro _ w1 ⟨b1, rfl, hbw1, Bw1, G1⟩
 refine qe rfl (ev_box (cs := THeader.cs p1 vp1_0 vp1_2) rfl rfl) ?_
 rintro _ w2 ⟨b2, rfl, hbw2, Bw2, G2⟩
 refine qm rfl<|sd_done<|sw_seq ?_
 have Y1 := Gr.trans G1 G2
 have X7 := ((Gr.refl w).trans Y1)
 refine qj (β := Bool) (rg 6 21) (fun a1 => [(26, .bool a1)]) (fun a1 wr => (ref03_ValidHeader_J1 p0 p1 a1 = some r) ∧ Kz [] w2 wr) ?_ ?_
 · refine qg 21 rfl<|qv rfl (vv_fieldAddr fa_48_0 rfl)<|qv rfl (vv_load1 (v := vp1_0) one_45 rfl Bw2 rfl) ?_
   have B24 := (hp1_0.gr Y1)
   refine qv rfl (vv_lenT (l := p1.Items) (c := TItem.cs) Tryz.underlying45 rfl B24)<|qv rfl (vv_gtr (a := (p1.Items.length : Int)) (b := 64) rfl rfl)<|qp rfl (vv_move rfl) (fun c4 => ?_) (fun c4 => ?_)
   · replace hm := iT c4 hm
     refine qk rfl<|qk rfl<|qk rfl<|qm rfl<|qm rfl<|qk rfl<|qk rfl<|qk rfl<|qk rfl<|qm rfl<|qm rfl<|qk rfl<|qk rfl ?_
     refine qk rfl<|qk rfl<|qm rfl<|sd_nil ?_
     exact ⟨rfl, true, sbq, hm, kz0⟩
   replace hm := iF c4 hm
   refine qv rfl (vv_fieldAddr fa_48_1 rfl)<|qv rfl (vv_load1 (v := wv p1.Base) one_24 rfl Bw2 rfl)<|qv rfl (vv_neqU (c := p1.Base) (d := 0#64) rfl rfl)<|qm rfl<|qp rfl (vv_move rfl) (fun c5 => ?_) (fun c5 => ?_)
   · replace hm := iT c5 hm
     refine qk rfl<|qk rfl<|qk rfl<|qk rfl<|qm rfl<|qm rfl<|qk rfl<|qk rfl<|qk rfl<|qk rfl<|qm rfl<|sd_nil ?_
     exact ⟨rfl, true, sbq, hm, kz0⟩
   replace hm := iF c5 hm
   refine qv rfl (vv_fieldAddr fa_48_2 rfl)<|qv rfl (vv_load1 (v := vp1_2) one_46 rfl Bw2 rfl) ?_
   have B27 := (hp1_2.gr Y1)
   refine qv rfl (vv_lenT (l := p1.Points) (c := TPoint.cs) Tryz.underlying46 rfl B27)<|qv rfl (vv_neq (a := (p1.Points.length : Int)) (b := 0) rfl rfl)<|qm rfl<|qp rfl (vv_move rfl) (fun c6 => ?_) (fun c6 => ?_)
   · replace hm := iT c6 hm
     refine qk rfl<|qk rfl<|qk rfl<|qk rfl<|qm rfl<|sd_nil ?_
     exact ⟨rfl, true, sbq, hm, kz0⟩
   replace hm := iF c6 hm
   refine qv rfl (vv_fieldAddr fa_48_3 rfl)<|qv rfl (vv_loadM (vs := kb p1.Box) agg_23 rfl Bw2 rfl rfl)<|qv rfl (vv_buildZ bz_23)<|qv rfl (vv_neqS (cf := kb) (a := p1.Box) (b := k0) eqt_23 rfl rfl rfl rfl (fun h => kb_inj h))<|qm rfl<|sd_nil ?_
   exact ⟨rfl, (decide (p1.Box ≠ k0)), sbq, hm, kz0⟩
 clear hm; rintro a1 w3 ⟨hm, K3⟩
 unfold ref03_ValidHeader_J1 at hm
 refine sw_cond rfl (fun c1 => ?_) (fun c1 => ?_)
 · replace hm := cnd_t c1 hm
   refine qs 1 rfl<|qm rfl<|qb ?_
   have X9 := (X7.kz K3)
   cases hm
   refine ⟨_, _, rfl, res_1 rfl (rv_tmp rfl), ?_⟩
   exact ⟨rfl, X9⟩
 replace hm := cnd_f c1 hm
 refine qu<|sw_seq<|qs 1 rfl<|qm rfl<|sd_done<|sw_block ?_
 have X10 := (X7.kz K3)
 have B11 := ((hp1_0.gr Y1).kz K3)
 refine sw_loopD (α := Nat × Int) ([4, 5] ++ rg 27 16) (fun ⟨n2, a3⟩ => [(4, .bool false), (5, .int .i64 a3)]) (fun ⟨n2, a3⟩ wr => (fixN (ref03_ValidHeader_L2 p0 p1) n2 a3 = some r) ∧ Kz [] w3 wr) (fun ⟨n2, a3⟩ => n2) ⟨FUEL, 0⟩ ?_ ?_ ?_
 · exact sbq
 · exact ⟨hm, Kz.refl _ _⟩
 clear hm; rintro ⟨n2, a3⟩ w4 ⟨hm, K4⟩
 have hb := fix_succ hm; clear hm; obtain ⟨n2, rfl, hm⟩ := hb
 generalize hrec2 : fixN (ref03_ValidHeader_L2 p0 p1) n2 = rec2 at hm
 unfold ref03_ValidHeader_L2 at hm
 try dsimp only at hm
 refine sw_seq<|qs 5 rfl<|qm rfl<|qv rfl (vv_fieldAddr fa_48_0 rfl) ?_
 have B14 := ((Bw2.kz K3).kz K4)
 refine qv rfl (vv_load1 (v := vp1_0) one_45 rfl B14 rfl) ?_
 have B15 := (B11.kz K4)
 refine qv rfl (vv_lenT (l := p1.Items) (c := TItem.cs) Tryz.underlying45 rfl B15)<|qv rfl (vv_lss (a := a3) (b := (p1.Items.length : Int)) rfl rfl)<|sd_done<|cnF rfl (fun c2 => ?_) (fun c2 => ?_)
 · replace hm := iF c2 hm
   refine sw_exit<|then_x<|then_x<|block_x<|then_n<|qs 1 rfl<|qm rfl<|sd_done<|sw_ret ?_
   have X23 := (X10.kz K4)
   cases hm
   refine ⟨_, _, rfl, res_1 rfl (rv_tmp rfl), ?_⟩
   exact ⟨rfl, X23⟩
 replace hm := iT c2 hm
 refine qu<|sw_seq<|sw_block<|sw_seq<|dw [([])] [] (.leaf [(0,10),(1,10),(2,10),(3,10),(4,10),(5,10),(6,10),(7,0),(8,10)]) ?_
 intro w5 G5 zw5
 refine sdz_leaf ?_
 have B16 := ((((Bw1.gr G2).kz K3).kz K4).gr G5)
 refine dh 0 rfl rfl (fun w hS => vv_loadW agg_28 rfl (Bx.kp B16 hS) rfl)<|dh 0 rfl rfl (fun w hS => vv_fieldAddr fa_48_0 rfl) ?_
 have B17 := (B14.gr G5)
 refine dh 0 rfl rfl (fun w hS => vv_load1 (v := vp1_0) one_45 rfl (Bx.kp B17 hS) rfl)<|dm 0 rfl rfl ?_
 obtain ⟨y4, hy4, hm⟩ := bnd hm
 have B18 := (B15.gr G5)
 refine dh 0 rfl rfl (fun w hS => vv_ixT (i := a3) Tryz.underlying45 (agg_133).siz rfl (Rd.kp B18 hS) rfl hy4)<|dh 0 rfl rfl (fun w hS => vv_fieldAddr fa_133_0 rfl)<|dh 0 rfl rfl (fun w hS => vv_elMT (q := 0) (vs := TSubset.cs y4.Subset) agg_131 rfl (Rd.kp B18 hS) hy4 (by first | rfl | omega) rfl rfl) ?_
 obtain ⟨x5, hx5, hm⟩ := bnd hm
 refine qz [] rfl (eC en_152 rfl (ref03_IsSubset_w hx5)) ⟨fun _ => tk0, trivial⟩ ?_
 rintro _ w6 ⟨rfl, G6⟩
 refine kG G6 ?_
 have S20 := ((Kp.refl ([]) w5).gr G6)
 refine qh 0 rfl rfl S20 (fun w hS => vv_not rfl)<|sd_done<|sw_cond rfl (fun c3 => ?_) (fun c3 => ?_)
 · replace hm := cnd_t c3 hm
   refine qs 1 rfl<|qm rfl<|sd_done<|sw_ret<|block_r<|then_r<|then_r<|block_r<|then_r ?_
   have X21 := (((X10.kz K4).trans G5).trans G6)
   cases hm
   refine ⟨_, _, rfl, res_1 rfl (rv_tmp rfl), ?_⟩
   exact ⟨rfl, X21⟩
 replace hm := cnd_f c3 hm
 refine sw_skip<|block_n<|then_n<|qg 3 rfl<|qm rfl<|qv rfl (vv_add (k := .i64) (a := a3) (b := 1) rfl rfl)<|qm rfl<|sd_nil ?_
 have K_22 : Kz [] w3 w6 := ((K4.gr G5).gr G6)
 subst hrec2
 exact ⟨rfl, ⟨n2, w64 (a3 + 1)⟩, sbq, ⟨hm, K_22⟩, Nat.lt_succ_self _⟩
theorem ref03_leads_w {p0 p1 p2 p3 r} (hm : ref03_leads p0 p1 p2 p3 = some r) {w : World} :
    Calls Tryz.prog 225 [.agg (TScheme.cs p0).toArray, .int .i64 p1, .int .i64 p2, .agg (TSubset.cs p3).toArray].toArray w fun e w' => ∃ v, e = .returned v ∧ (v = .bool r ∧ Gr w w') := by
 unfold ref03_leads at hm
 refine calls_of_sw 46 Tryz.func225 rfl rfl rfl<|qs 3 rfl<|qe rfl (ev_box (cs := TScheme.cs p0) rfl rfl) ?_
 rintro _ w1 ⟨b1, rfl, hbw1, Bw1, G1⟩
 refine qe rfl (ev_box (cs := TSubset.cs p3) rfl rfl) ?_
 rintro _ w2 ⟨b2, rfl, hbw2, Bw2, G2⟩
 refine qm rfl<|sd_done<|sw_seq ?_
 have X5 := (((Gr.refl w).trans G1).trans G2)
 refine qj (β := Bool) (rg 9 8) (fun a1 => [(16, .bool a1)]) (fun a1 wr => (ref03_leads_J1 p1 p2 p3 a1 = some r) ∧ Kz [] w2 wr) ?_ ?_
 · refine qg 8 rfl<|qv rfl (vv_fieldAddr fa_28_0 rfl) ?_
   have B18 := (Bw1.gr G2)
   refine qv rfl (vv_load1 (v := bv p0.Kind) one_5 rfl B18 rfl)<|qv rfl (vv_eqlB (p := p0.Kind) (q := 1#8) rfl rfl)<|qp rfl (vv_move rfl) (fun c6 => ?_) (fun c6 => ?_)
   · replace hm := iT c6 hm
     refine qk rfl<|qk rfl<|qk rfl<|qm rfl<|sd_nil ?_
     exact ⟨rfl, true, sbq, hm, kz0⟩
   replace hm := iF c6 hm
   refine qv rfl (vv_fieldAddr fa_131_1 rfl)<|qv rfl (vv_load1 (v := .int .i64 p3.Minus) one_3 rfl Bw2 rfl)<|qv rfl (vv_eql (a := p3.Minus) (b := 0) rfl rfl)<|qm rfl<|sd_nil ?_
   exact ⟨rfl, (decide (p3.Minus = 0)), sbq, hm, kz0⟩
 clear hm; rintro a1 w3 ⟨hm, K3⟩
 unfold ref03_leads_J1 at hm
 refine sw_cond rfl (fun c1 => ?_) (fun c1 => ?_)
 · replace hm := cnd_t c1 hm
   refine qs 11 rfl<|qm rfl<|qv rfl (vv_fieldAddr fa_131_0 rfl) ?_
   have B7 := (Bw2.kz K3)
   refine qv rfl (vv_load1 (v := .int .i64 p3.Node) one_3 rfl B7 rfl)<|qv rfl (vv_eql (a := p1) (b := p3.Node) rfl rfl)<|qpF rfl (vv_move rfl) (fun c2 => ?_) (fun c2 => ?_)
   · replace hm := iF c2 hm
     refine qk rfl<|qk rfl<|qk rfl<|qk rfl<|qm rfl<|qm rfl<|qb ?_
     have X9 := (X5.kz K3)
     cases hm
     refine ⟨_, _, rfl, res_1 rfl (rv_tmp rfl), ?_⟩
     exact ⟨rfl, X9⟩
   replace hm := iT c2 hm
   refine qm rfl<|qv rfl (vv_fieldAddr fa_131_1 rfl)<|qv rfl (vv_load1 (v := .int .i64 p3.Minus) one_3 rfl B7 rfl)<|qv rfl (vv_eql (a := p2) (b := p3.Minus) rfl rfl)<|qm rfl<|qm rfl<|qb ?_
   have X8 := (X5.kz K3)
   cases hm
   refine ⟨_, _, rfl, res_1 rfl (rv_tmp rfl), ?_⟩
   exact ⟨rfl, X8⟩
 replace hm := cnd_f c1 hm
 refine qu<|qs 20 rfl<|qm rfl<|qv rfl (vv_fieldAddr fa_131_0 rfl) ?_
 have B10 := (Bw2.kz K3)
 refine qv rfl (vv_load1 (v := .int .i64 p3.Node) one_3 rfl B10 rfl)<|qv rfl (vv_eql (a := p1) (b := p3.Node) rfl rfl)<|qpF rfl (vv_move rfl) (fun c3 => ?_) (fun c3 => ?_)
 · replace hm := iF c3 hm
   refine qk rfl<|qk rfl<|qm rfl<|qm rfl<|qk rfl<|qk rfl<|qk rfl<|qm rfl<|qm rfl<|qk rfl<|qk rfl<|qk rfl<|qk rfl ?_
   refine qm rfl<|qm rfl<|sd_done<|sw_ret ?_
   have X17 := (X5.kz K3)
   cases hm
   refine ⟨_, _, rfl, res_1 rfl (rv_tmp rfl), ?_⟩
   exact ⟨rfl, X17⟩
 replace hm := iT c3 hm
 refine qm rfl<|qv rfl (vv_geq (a := p2) (b := 1) rfl rfl)<|qm rfl<|qpF rfl (vv_move rfl) (fun c4 => ?_) (fun c4 => ?_)
 · replace hm := iF c4 hm
   refine qk rfl<|qk rfl<|qk rfl<|qm rfl<|qm rfl<|qk rfl<|qk rfl<|qk rfl<|qk rfl<|qm rfl<|qm rfl<|sd_done<|sw_ret ?_
   have X16 := (X5.kz K3)
   cases hm
   refine ⟨_, _, rfl, res_1 rfl (rv_tmp rfl), ?_⟩
   exact ⟨rfl, X16⟩
 replace hm := iT c4 hm
 refine qm rfl<|qm rfl ?_
 obtain ⟨x2, hx2, hm⟩ := bnd hm
 refine qe rfl (eC en_221 rfl (ref03_Below_w hx2)) ?_
 rintro _ w4 ⟨rfl, G4⟩
 refine qm rfl<|qpF rfl (vv_move rfl) (fun c5 => ?_) (fun c5 => ?_)
 · replace hm := cnd_f c5 hm
   refine qk rfl<|qk rfl<|qk rfl<|qk rfl<|qm rfl<|qm rfl<|sd_done<|sw_ret ?_
   have X15 := ((X5.kz K3).trans G4)
   cases hm
   refine ⟨_, _, rfl, res_1 rfl (rv_tmp rfl), ?_⟩
   exact ⟨rfl, X15⟩
 replace hm := cnd_t c5 hm
 refine qv rfl (vv_fieldAddr fa_131_1 rfl) ?_
 have B12 := (B10.gr G4)
 refine qv rfl (vv_load1 (v := .int .i64 p3.Minus) one_3 rfl B12 rfl)<|qm rfl ?_
 obtain ⟨x3, hx3, hm⟩ := bnd hm
 refine qe rfl (eC en_221 rfl (ref03_Below_w hx3)) ?_
 rintro _ w5 ⟨rfl, G5⟩
 refine qm rfl<|qm rfl<|sd_done<|sw_ret ?_
 have X14 := (((X5.kz K3).trans G4).trans G5)
 cases hm
 refine ⟨_, _, rfl, res_1 rfl (rv_tmp rfl), ?_⟩
 exact ⟨rfl, X14⟩
theorem ref03_Leads_w {p0 p1 p2 vp1_1 zp1_1 gp1_1 op1_1 r} (hm : ref03_Leads p0 p1 p2 = some r) {w : World} (hp1_1 : Rd w zp1_1 gp1_1 op1_1 18 vp1_1 (p1.Labels.map TLabel.cs)) :
    Calls Tryz.prog 160 [.agg (TScheme.cs p0).toArray, .agg (TSecret.cs p1 vp1_1).toArray, .agg (TSubset.cs p2).toArray].toArray w fun e w' => ∃ v, e = .returned v ∧ (v = .tuple [kv r.1, .bool r.2].toArray ∧ Gr w w') := by
 unfold ref03_Leads at hm
 refine calls_of_sw 49 Tryz.func160 rfl rfl rfl<|qs 5 rfl<|qe rfl (ev_box (cs := TScheme.cs p0) rfl rfl) ?_
 rintro _ w1 ⟨b1, rfl, hbw1, Bw1, G1⟩
 have lt3 := Bw1.lt
 refine qe rfl (ev_box (cs := TSecret.cs p1 vp1_1) rfl rfl) ?_
 rintro _ w2 ⟨b2, rfl, hbw2, Bw2, G2⟩
 have lt5 := Bw2.lt
 refine qe rfl (ev_box (cs := TSubset.cs p2) rfl rfl) ?_
 rintro _ w3 ⟨b3, rfl, hbw3, Bw3, G3⟩
 have lt7 := Bw3.lt
 refine qe rfl (ev_alloc (cs := kb k0) zv_23 rfl) ?_
 rintro _ w4 ⟨b4, rfl, hbw4, Bw4, G4⟩
 have lt9 := Bw4.lt
 refine qm rfl<|sd_done<|sw_seq<|qs 1 rfl<|qm rfl<|sd_done<|sw_block ?_
 have Y1 := Gr.trans (Gr.trans (Gr.trans G1 G2) G3) G4
 have X10 := ((Gr.refl w).trans Y1)
 have B11 := (hp1_1.gr Y1)
 refine sw_loopD (α := Nat × Int) (rg 7 41) (fun ⟨n1, a2⟩ => [(7, .bool false), (8, .int .i64 a2)]) (fun ⟨n1, a2⟩ wr => (fixN (ref03_Leads_L1 p0 p1 p2) n1 a2 = some r) ∧ Kz [] w4 wr) (fun ⟨n1, a2⟩ => n1) ⟨FUEL, 0⟩ ?_ ?_ ?_
 · exact sbq
 · exact ⟨hm, Kz.refl _ _⟩
 clear hm; rintro ⟨n1, a2⟩ w5 ⟨hm, K5⟩
 have z12 := K5.size
 have hb := fix_succ hm; clear hm; obtain ⟨n1, rfl, hm⟩ := hb
 generalize hrec1 : fixN (ref03_Leads_L1 p0 p1 p2) n1 = rec1 at hm
 unfold ref03_Leads_L1 at hm
 try dsimp only at hm
 refine sw_seq<|qs 5 rfl<|qm rfl<|qv rfl (vv_fieldAddr fa_33_1 rfl) ?_
 have Y2 := Gr.trans G3 G4
 have B13 := ((Bw2.gr Y2).kz K5)
 refine qv rfl (vv_load1 (v := vp1_1) one_29 rfl B13 rfl) ?_
 have B14 := (B11.kz K5)
 refine qv rfl (vv_lenT (l := p1.Labels) (c := TLabel.cs) Tryz.underlying29 rfl B14)<|qv rfl (vv_lss (a := a2) (b := (p1.Labels.length : Int)) rfl rfl)<|sd_done<|cnF rfl (fun c1 => ?_) (fun c1 => ?_)
 · replace hm := iF c1 hm
   refine sw_exit<|then_x<|then_x<|block_x<|then_n<|qs 3 rfl<|qv rfl (vv_buildZ bz_23) ?_
   have B39 := (Bw4.kz K5)
   refine qe rfl (ev_stW agg_23 rfl rfl rfl B39 rfl rfl) ?_
   rintro _ w14 ⟨Bw14, M14⟩
   refine qm rfl<|sd_done<|sw_ret ?_
   have X41 := ((X10.kz K5).md M14)
   cases hm
   refine ⟨_, _, rfl, res_2 rfl (rv_cellW agg_23 rfl Bw14 rfl) (rv_tmp rfl), ?_⟩
   exact ⟨rfl, X41⟩
 replace hm := iT c1 hm
 refine qu<|sw_seq<|sw_block<|qs 7 rfl<|qv rfl (vv_fieldAddr fa_33_1 rfl)<|qv rfl (vv_load1 (v := vp1_1) one_29 rfl B13 rfl)<|qm rfl ?_
 obtain ⟨y3, hy3, hm⟩ := bnd hm
 refine qv rfl (vv_ixT (i := a2) Tryz.underlying29 (agg_92).siz rfl B14 rfl hy3)<|qv rfl (vv_elWT agg_92 rfl B14 hy3 (by first | rfl | omega))<|qe rfl (ev_alloc (cs := TLabel.cs (TLabel.mk 0 0 k0)) zv_92 rfl) ?_
 rintro _ w6 ⟨b6, rfl, hbw6, Bw6, G6⟩
 refine qe rfl (ev_stW agg_92 rfl rfl rfl Bw6 rfl rfl) ?_
 rintro _ w7 ⟨Bw7, M7⟩
 refine sd_done<|sw_seq<|qs 8 rfl ?_
 have B18 := (((((Bw1.gr G2).gr Y2).kz K5).gr G6).md M7)
 refine qv rfl (vv_loadW agg_28 rfl B18 rfl)<|qv rfl (vv_fieldAddr fa_92_0 rfl)<|qv rfl (vv_load1 (v := .int .i64 y3.Node) one_3 rfl Bw7 rfl)<|qv rfl (vv_fieldAddr fa_92_1 rfl)<|qv rfl (vv_load1 (v := .int .i64 y3.Minus) one_3 rfl Bw7 rfl) ?_
 have B19 := ((((Bw3.gr G4).kz K5).gr G6).md M7)
 refine qv rfl (vv_loadW agg_131 rfl B19 rfl) ?_
 obtain ⟨x4, hx4, hm⟩ := bnd hm
 refine qe rfl (eC en_225 rfl (ref03_leads_w hx4)) ?_
 rintro _ w8 ⟨rfl, G8⟩
 refine qv rfl (vv_not rfl)<|sd_done<|sw_cond rfl (fun c2 => ?_) (fun c2 => ?_)
 · replace hm := cnd_t c2 hm
   refine sw_exit<|then_x<|block_x<|then_n<|qg 3 rfl<|qm rfl<|qv rfl (vv_add (k := .i64) (a := a2) (b := 1) rfl rfl)<|qm rfl<|sd_nil ?_
   have K_21 : Kz [] w4 w8 := (((K5.gr G6).md M7).gr G8)
   subst hrec1
   exact ⟨rfl, ⟨n1, w64 (a2 + 1)⟩, sbq, ⟨hm, K_21⟩, Nat.lt_succ_self _⟩
 replace hm := cnd_f c2 hm
 refine qu<|sw_seq ?_
 have X22 := ((((X10.kz K5).trans G6).md M7).trans G8)
 refine qj (β := Bool) (rg 30 8) (fun a5 => [(37, .bool a5)]) (fun a5 wr => (ref03_Leads_J2 p2 y3 a5 = some r) ∧ Kz [] w8 wr) ?_ ?_
 · refine qg 8 rfl<|qv rfl (vv_fieldAddr fa_28_0 rfl) ?_
   have B35 := (B18.gr G8)
   refine qv rfl (vv_load1 (v := bv p0.Kind) one_5 rfl B35 rfl)<|qv rfl (vv_eqlB (p := p0.Kind) (q := 1#8) rfl rfl)<|qp rfl (vv_move rfl) (fun c4 => ?_) (fun c4 => ?_)
   · replace hm := iT c4 hm
     refine qk rfl<|qk rfl<|qk rfl<|qm rfl<|sd_nil ?_
     exact ⟨rfl, true, sbq, hm, kz0⟩
   replace hm := iF c4 hm
   refine qv rfl (vv_fieldAddr fa_131_1 rfl) ?_
   have B37 := (B19.gr G8)
   refine qv rfl (vv_load1 (v := .int .i64 p2.Minus) one_3 rfl B37 rfl)<|qv rfl (vv_eql (a := p2.Minus) (b := 0) rfl rfl)<|qm rfl<|sd_nil ?_
   exact ⟨rfl, (decide (p2.Minus = 0)), sbq, hm, kz0⟩
 clear hm; rintro a5 w9 ⟨hm, K9⟩
 unfold ref03_Leads_J2 at hm
 refine sw_cond rfl (fun c3 => ?_) (fun c3 => ?_)
 · replace hm := cnd_t c3 hm
   refine qs 4 rfl<|qv rfl (vv_fieldAddr fa_92_2 rfl) ?_
   have B24 := ((Bw7.gr G8).kz K9)
   refine qv rfl (vv_loadM (vs := kb y3.Key) agg_23 rfl B24 rfl rfl) ?_
   have B25 := (((((Bw4.kz K5).gr G6).md M7).gr G8).kz K9)
   refine qe rfl (ev_stW agg_23 rfl rfl rfl B25 rfl rfl) ?_
   rintro _ w10 ⟨Bw10, M10⟩
   refine qm rfl<|qb<|block_r<|then_r<|then_r<|block_r<|then_r ?_
   have X27 := ((X22.kz K9).md M10)
   cases hm
   refine ⟨_, _, rfl, res_2 rfl (rv_cellW agg_23 rfl Bw10 rfl) (rv_tmp rfl), ?_⟩
   exact ⟨rfl, X27⟩
 replace hm := cnd_f c3 hm
 refine qu<|qs 10 rfl<|qv rfl (vv_fieldAddr fa_92_2 rfl) ?_
 have B28 := ((Bw7.gr G8).kz K9)
 refine qv rfl (vv_loadM (vs := kb y3.Key) agg_23 rfl B28 rfl rfl)<|qv rfl (vv_fieldAddr fa_92_1 rfl)<|qv rfl (vv_load1 (v := .int .i64 y3.Minus) one_3 rfl B28 rfl)<|qv rfl (vv_fieldAddr fa_131_1 rfl) ?_
 have B29 := ((B19.gr G8).kz K9)
 refine qv rfl (vv_load1 (v := .int .i64 p2.Minus) one_3 rfl B29 rfl) ?_
 obtain ⟨x6, hx6, hm⟩ := bnd hm
 refine qe rfl (eC en_226 rfl (ref03_down_w hx6)) ?_
 rintro _ w11 ⟨rfl, G11⟩
 refine qe rfl (eC en_64 rfl (rderive_c x6 (un8 33#8) (un8_nn _) (un8_le _) 0#64 _)) ?_
 rintro _ w12 ⟨rfl, G12⟩
 have B32 := (((((((Bw4.kz K5).gr G6).md M7).gr G8).kz K9).gr G11).gr G12)
 refine qe rfl (ev_stW agg_23 rfl rfl rfl B32 rfl rfl) ?_
 rintro _ w13 ⟨Bw13, M13⟩
 refine qm rfl<|sd_done<|sw_ret<|block_r<|then_r<|then_r<|block_r<|then_r ?_
 have X34 := ((((X22.kz K9).trans G11).trans G12).md M13)
 cases hm
 refine ⟨_, _, rfl, res_2 rfl (rv_cellW agg_23 rfl Bw13 rfl) (rv_tmp rfl), ?_⟩
 exact ⟨rfl, X34⟩
theorem ref02_Value_w {p0 vp0 zp0 gp0 op0 r} (hm : ref02_Value p0 = some r) {w : World} (hp0 : Rd w zp0 gp0 op0 1 vp0 (p0.map bvc)) :
    Calls Tryz.prog 254 [vp0].toArray w fun e w' => ∃ v, e = .returned v ∧ (v = wv r ∧ Gr w w') := by
 unfold ref02_Value at hm
 refine calls_of_sw 20 Tryz.func254 rfl rfl rfl<|qs 1 rfl<|qm rfl<|qd 1 rfl<|qm rfl<|sd_done<|sw_seq<|qs 1 rfl<|qm rfl ?_
 refine sd_done<|sw_block<|sw_loopD (α := Nat × BitVec 64 × Int) (rg 3 16) (fun ⟨n1, a3, a4⟩ => [(3, wv a3), (4, .int .i64 a4)]) (fun ⟨n1, a3, a4⟩ wr => (fixN (ref02_Value_L1 p0) n1 (a3, a4) = some r) ∧ Kz [] w wr) (fun ⟨n1, a3, a4⟩ => n1) ⟨FUEL, 0#64, 0⟩ ?_ ?_ ?_
 · exact sbq
 · exact ⟨hm, Kz.refl _ _⟩
 clear hm; rintro ⟨n1, a3, a4⟩ w1 ⟨hm, K1⟩
 have hb := fix_succ hm; clear hm; obtain ⟨n1, rfl, hm⟩ := hb
 generalize hrec1 : fixN (ref02_Value_L1 p0) n1 = rec1 at hm
 unfold ref02_Value_L1 at hm
 try dsimp only at hm
 refine sw_seq<|qs 4 rfl<|qm rfl<|qm rfl ?_
 have B3 := (hp0.kz K1)
 refine qv rfl (vv_lenT (l := p0) (c := bvc) Tryz.underlying50 rfl B3)<|qv rfl (vv_lss (a := a4) (b := (p0.length : Int)) rfl rfl)<|sd_done<|cnF rfl (fun c1 => ?_) (fun c1 => ?_)
 · replace hm := iF c1 hm
   refine sw_exit<|then_x<|then_x<|block_x<|then_n<|qs 2 rfl<|qm rfl<|qm rfl<|sd_done<|sw_ret ?_
   have X5 := ((Gr.refl w).kz K1)
   cases hm
   refine ⟨_, _, rfl, res_1 rfl (rv_tmp rfl), ?_⟩
   exact ⟨rfl, X5⟩
 replace hm := iT c1 hm
 refine qu<|sw_seq<|sw_block<|qg 9 rfl<|qm rfl<|qv rfl (vv_umul (a := 256#64) (b := a3) rfl rfl)<|qm rfl<|qm rfl ?_
 obtain ⟨y5, hy5, hm⟩ := bnd hm
 refine qv rfl (vv_ixT (i := a4) Tryz.underlying50 (one_5).siz rfl B3 rfl hy5)<|qv rfl (vv_el1T (q := 0) (u := bv y5) one_5 rfl B3 hy5 (by first | rfl | omega) rfl)<|qv rfl (vv_cvBU cv_5_24 rfl)<|qv rfl (vv_uadd (a := 256#64 * a3) (b := y5.setWidth 64) rfl rfl)<|qm rfl<|sd_nil<|block_n<|then_n<|qg 3 rfl<|qm rfl<|qv rfl (vv_add (k := .i64) (a := a4) (b := 1) rfl rfl)<|qm rfl<|sd_nil ?_
 have K_4 : Kz [] w w1 := K1
 subst hrec1
 exact ⟨rfl, ⟨n1, (256#64 * a3) + (y5.setWidth 64), w64 (a4 + 1)⟩, sbq, ⟨hm, K_4⟩, Nat.lt_succ_self _⟩
theorem ref02_words_w {p0 r} (hm : ref02_words p0 = some r) {w : World} :
    Calls Tryz.prog 208 [kv p0].toArray w fun e w' => ∃ v, e = .returned v ∧ (v = .tuple [wv r.1, wv r.2].toArray ∧ Gr w w') := by
 unfold ref02_words at hm
 refine calls_of_sw 8 Tryz.func208 rfl rfl rfl<|qs 3 rfl<|qe rfl (ev_box (cs := kb p0) rfl rfl) ?_
 rintro _ w1 ⟨b1, rfl, hbw1, Bw1, G1⟩
 refine qm rfl<|qm rfl<|sd_done<|sw_seq<|dw [([])] [] (.leaf [(0,10),(2,10),(1,0),(3,0),(4,10),(5,10)]) ?_
 intro w2 G2 zw2
 refine sdz_leaf ?_
 have B3 := (Bw1.gr G2)
 have Rk4 := rd_keyP (o := 0) (lo := 0) (hi := 8) (p := p0) B3 rfl (by decide) (by decide)
 refine dh 0 rfl rfl (fun w hS => vv_sliceA (n := 16) (l := 0) (h := 8) Tryz.underlying23 (one_5).siz rfl rfl ⟨_, rfl⟩ (by decide) (by decide) (by decide)) ?_
 have Rk6 := rd_keyP (o := 0) (lo := 8) (hi := 16) (p := p0) B3 rfl (by decide) (by decide)
 refine dh 0 rfl rfl (fun w hS => vv_sliceA (n := 16) (l := 8) (h := 16) Tryz.underlying23 (one_5).siz rfl ⟨_, rfl⟩ rfl (by decide) (by decide) (by decide)) ?_
 obtain ⟨x1, hx1, hm⟩ := bnd hm
 refine qz [] rfl (eC en_254 rfl (ref02_Value_w hx1 Rk4)) ⟨fun _ => tk0, trivial⟩ ?_
 rintro _ w3 ⟨rfl, G3⟩
 refine kG G3 ?_
 have B9 := (Rk6.gr G3)
 obtain ⟨x2, hx2, hm⟩ := bnd hm
 refine qz [] rfl (eC en_254 rfl (ref02_Value_w hx2 B9)) ⟨fun _ => tk0, trivial⟩ ?_
 rintro _ w4 ⟨rfl, G4⟩
 refine kG G4 ?_
 have S11 := (((Kp.refl ([]) w2).gr G3).gr G4)
 refine dn 0 rfl rfl S11<|dn 0 rfl rfl S11<|sd_done<|sw_ret ?_
 have X12 := (((((Gr.refl w).trans G1).trans G2).trans G3).trans G4)
 cases hm
 refine ⟨_, _, rfl, res_2 rfl (rv_tmp rfl) (rv_tmp rfl), ?_⟩
 exact ⟨rfl, X12⟩
theorem ref02_rotr_w {p0 p1 r} (hm : ref02_rotr p0 p1 = some r) {w : World} :
    Calls Tryz.prog 210 [wv p0, .int .i64 p1].toArray w fun e w' => ∃ v, e = .returned v ∧ (v = wv r ∧ Gr w w') := by
 unfold ref02_rotr at hm
 refine calls_of_sw 13 Tryz.func210 rfl rfl rfl<|qs 1 rfl<|qm rfl<|sd_done<|sw_seq<|dw [([])] [] (.leaf [(0,10),(1,10),(2,10),(3,10),(4,10),(5,10),(6,10),(7,10),(8,10)]) ?_
 intro w1 G1 zw1
 refine sdz_leaf<|dm 0 rfl rfl<|dm 0 rfl rfl ?_
 obtain ⟨n1, hn1, hm⟩ := bnd hm
 refine dh 0 rfl rfl (fun w hS => vv_shrU (c := p0) (b := p1) rfl rfl hn1)<|dm 0 rfl rfl<|dm 0 rfl rfl<|dh 0 rfl rfl (fun w hS => vv_sub (k := .i64) (a := 64) (b := p1) rfl rfl) ?_
 obtain ⟨n2, hn2, hm⟩ := bnd hm
 refine dh 0 rfl rfl (fun w hS => vv_shlU (c := p0) (b := (w64 (64 - p1))) rfl rfl hn2)<|dh 0 rfl rfl (fun w hS => vv_uor (a := p0 >>> n1) (b := p0 <<< n2) rfl rfl)<|dm 0 rfl rfl<|sd_done<|sw_ret ?_
 have X1 := ((Gr.refl w).trans G1)
 cases hm
 refine ⟨_, _, rfl, res_1 rfl (rv_tmp rfl), ?_⟩
 exact ⟨rfl, X1⟩
theorem ref02_rotl_w {p0 p1 r} (hm : ref02_rotl p0 p1 = some r) {w : World} :
    Calls Tryz.prog 211 [wv p0, .int .i64 p1].toArray w fun e w' => ∃ v, e = .returned v ∧ (v = wv r ∧ Gr w w') := by
 unfold ref02_rotl at hm
 refine calls_of_sw 9 Tryz.func211 rfl rfl rfl<|qs 1 rfl<|qm rfl<|qd 5 rfl<|qm rfl<|qm rfl<|qv rfl (vv_sub (k := .i64) (a := 64) (b := p1) rfl rfl) ?_
 obtain ⟨x1, hx1, hm⟩ := bnd hm
 refine qe rfl (eC en_210 rfl (ref02_rotr_w hx1)) ?_
 rintro _ w1 ⟨rfl, G1⟩
 refine qm rfl<|sd_done<|sw_ret ?_
 have X2 := ((Gr.refl w).trans G1)
 cases hm
 refine ⟨_, _, rfl, res_1 rfl (rv_tmp rfl), ?_⟩
 exact ⟨rfl, X2⟩
theorem ref02_roundKeys_w {p0 r} (hm : ref02_roundKeys p0 = some r) {w : World} :
    Calls Tryz.prog 209 [kv p0].toArray w fun e w' => ∃ v, e = .returned v ∧ (∃ ur0_s zr0_s gr0_s, v = ur0_s ∧ Own w' zr0_s gr0_s 24 1 ur0_s (r.map uwc) ∧ Hdn (zr0_s = 0 ∨ w.heap.size ≤ gr0_s) ∧ Gr w w') := by
 unfold ref02_roundKeys at hm
 refine calls_of_sw 34 Tryz.func209 rfl rfl rfl<|qs 2 rfl<|qe rfl (ev_box (cs := kb p0) rfl rfl) ?_
 rintro _ w1 ⟨b1, rfl, hbw1, Bw1, G1⟩
 have lt2 := Bw1.lt
 refine qm rfl<|qd 7 rfl<|qv rfl (vv_loadW agg_23 rfl Bw1 rfl) ?_
 obtain ⟨x1, hx1, hm⟩ := bnd hm
 refine qe rfl (eC en_208 rfl (ref02_words_w hx1)) ?_
 rintro _ w2 ⟨rfl, G2⟩
 have z3 := G2.size
 refine qm rfl<|qm rfl<|qm rfl<|qm rfl<|qm rfl<|qd 3 rfl<|qm rfl<|qe rfl (ev_litT [x1.2] uwc bsl_160_1 rfl rfl (ws_of rfl) rfl rfl rfl) ?_
 rintro vw3 w3 ⟨gw3, hbw3, Ow3, G3⟩
 have z4 := G3.size
 refine qm rfl<|sd_done<|sw_seq<|qs 1 rfl<|qm rfl<|sd_done<|sw_block ?_
 have X6 := ((((Gr.refl w).trans G1).trans G2).trans G3)
 refine sw_loopD (α := Nat × BitVec 64 × BitVec 64 × List (BitVec 64) × Int × Value × Nat × Nat) ([3, 4, 5, 6] ++ rg 14 19) (fun ⟨n1, a7, a8, a9, a11, vy10, zy10, gy10⟩ => [(3, wv a7), (4, wv a8), (5, vy10), (6, .int .i64 a11)]) (fun ⟨n1, a7, a8, a9, a11, vy10, zy10, gy10⟩ wr => (fixN (ref02_roundKeys_L1) n1 (a7, a8, a9, a11) = some r) ∧ Own wr zy10 gy10 24 1 vy10 (a9.map uwc) ∧ Hdn (zy10 = 0 ∨ (gy10 = gw3 ∧ 1 ≠ 0) ∨ w3.heap.size ≤ gy10) ∧ Kz [(1, gw3)] w3 wr) (fun ⟨n1, a7, a8, a9, a11, vy10, zy10, gy10⟩ => n1) ⟨FUEL, x1.1, x1.2, [x1.2], 0, vw3, 1, gw3⟩ ?_ ?_ ?_
 · exact sbq
 · exact ⟨hm, Ow3, ⟨tk0⟩, Kz.refl _ _⟩
 clear hm; rintro ⟨n1, a7, a8, a9, a11, vy10, zy10, gy10⟩ w4 ⟨hm, Fw4_0, Fw4_1, K4⟩
 have z7 := K4.size
 have hb := fix_succ hm; clear hm; obtain ⟨n1, rfl, hm⟩ := hb
 generalize hrec1 : fixN (ref02_roundKeys_L1) n1 = rec1 at hm
 unfold ref02_roundKeys_L1 at hm
 try dsimp only at hm
 refine sw_seq<|qs 2 rfl<|qm rfl<|qv rfl (vv_lss (a := a11) (b := 31) rfl rfl)<|sd_done<|cnF rfl (fun c1 => ?_) (fun c1 => ?_)
 · replace hm := iF c1 hm
   refine sw_exit<|then_x<|then_x<|block_x<|then_n<|qs 2 rfl<|qm rfl<|qm rfl<|sd_done<|sw_ret ?_
   have X16 := (X6.kz K4 (tk1 ((.inr tk0) : 1 = 0 ∨ w.heap.size ≤ gw3)))
   cases hm
   refine ⟨_, _, rfl, res_1 rfl (rv_tmp rfl), ?_⟩
   exact ⟨vy10, zy10, gy10, rfl, Fw4_0, ⟨(pv_1 (A := (fun x => w.heap.size ≤ x)) Fw4_1 (.inr tk0))⟩, X16⟩
 replace hm := iT c1 hm
 refine qu<|sw_seq<|sw_block<|qs 8 rfl<|qm rfl<|qm rfl ?_
 obtain ⟨x12, hx12, hm⟩ := bnd hm
 refine qe rfl (eC en_210 rfl (ref02_rotr_w hx12)) ?_
 rintro _ w5 ⟨rfl, G5⟩
 have z9 := G5.size
 refine qv rfl (vv_uadd (a := a8) (b := x12) rfl rfl)<|qm rfl<|qv rfl (vv_cvIU cv_3_24 rfl)<|qv rfl (vv_uxor (a := a8 + x12) (b := wd a11) rfl rfl)<|qm rfl<|qd 5 rfl<|qm rfl ?_
 obtain ⟨x13, hx13, hm⟩ := bnd hm
 refine qe rfl (eC en_211 rfl (ref02_rotl_w hx13)) ?_
 rintro _ w6 ⟨rfl, G6⟩
 have z10 := G6.size
 refine qm rfl<|qv rfl (vv_uxor (a := x13) (b := (a8 + x12) ^^^ (wd a11)) rfl rfl)<|qm rfl<|sd_done<|qg 5 rfl<|qm rfl<|qm rfl<|qe rfl (ev_litT [x13 ^^^ ((a8 + x12) ^^^ (wd a11))] uwc bsl_160_1 rfl rfl (ws_of rfl) rfl rfl rfl) ?_
 rintro vw7 w7 ⟨gw7, hbw7, Ow7, G7⟩
 have z11 := G7.size
 have B13 := (((Fw4_0.gr G5).gr G6).gr G7)
 obtain ⟨l14, hl14, hm⟩ := bnd hm
 refine qe rfl (ev_appT (l := a9) (m := [x13 ^^^ ((a8 + x12) ^^^ (wd a11))]) (c := uwc) apt_160 rfl rfl B13 (Own.rd Ow7) hl14 (by decide)) ?_
 rintro vw8 w8 ⟨zw8, gw8, Ow8, Aw8, qw8, rw8⟩
 refine qm rfl<|sd_nil<|block_n<|then_n<|qg 3 rfl<|qm rfl<|qv rfl (vv_add (k := .i64) (a := a11) (b := 1) rfl rfl)<|qm rfl<|sd_nil ?_
 have K_15 : Kz [(1, gw3)] w3 w8 := ((((K4.gr G5).gr G6).gr G7).ka Aw8 (tk1 (pv_1 (A := (fun x => (x = gw3 ∧ 1 ≠ 0) ∨ w3.heap.size ≤ x)) Fw4_1 tk0)))
 subst hrec1
 exact ⟨rfl, ⟨n1, (a8 + x12) ^^^ (wd a11), x13 ^^^ ((a8 + x12) ^^^ (wd a11)), l14, w64 (a11 + 1), vw8, zw8, gw8⟩, sbq, ⟨hm, Ow8, ⟨(pv_app (A := (fun x => (x = gw3 ∧ 1 ≠ 0) ∨ w3.heap.size ≤ x)) rw8 (pv_1 (A := (fun x => (x = gw3 ∧ 1 ≠ 0) ∨ w3.heap.size ≤ x)) Fw4_1 tk0))⟩, K_15⟩, Nat.lt_succ_self _⟩
theorem ref02_Bytes_w {p0 p1 r} (hm : ref02_Bytes p0 p1 = some r) {w : World} :
    Calls Tryz.prog 213 [wv p0, .int .i64 p1].toArray w fun e w' => ∃ v, e = .returned v ∧ (∃ ur0_s zr0_s gr0_s, v = ur0_s ∧ Own w' zr0_s gr0_s 5 1 ur0_s (r.map bvc) ∧ Hdn (zr0_s = 0 ∨ w.heap.size ≤ gr0_s) ∧ Gr w w') := by
 unfold ref02_Bytes at hm
 refine calls_of_sw 21 Tryz.func213 rfl rfl rfl<|qs 1 rfl<|qm rfl<|qd 1 rfl<|qm rfl<|sd_done<|sw_seq<|qs 1 rfl<|qm rfl ?_
 refine sd_done<|sw_block<|sw_loopD (α := Nat × BitVec 64 × List (BitVec 8) × Int × Value × Nat × Nat) ([0] ++ rg 5 15) (fun ⟨n1, a5, a6, a8, vy7, zy7, gy7⟩ => [(0, wv a5), (5, vy7), (6, .int .i64 a8)]) (fun ⟨n1, a5, a6, a8, vy7, zy7, gy7⟩ wr => (fixN (ref02_Bytes_L1 p1) n1 (a5, a6, a8) = some r) ∧ Own wr zy7 gy7 5 1 vy7 (a6.map bvc) ∧ Hdn (zy7 = 0 ∨ w.heap.size ≤ gy7) ∧ Kz [] w wr) (fun ⟨n1, a5, a6, a8, vy7, zy7, gy7⟩ => n1) ⟨FUEL, p0, [], 0, (.slice none 0 0), 0, 0⟩ ?_ ?_ ?_
 · exact sbq
 · exact ⟨hm, (own_nil _ 0 5 1), ⟨(.inl rfl)⟩, Kz.refl _ _⟩
 clear hm; rintro ⟨n1, a5, a6, a8, vy7, zy7, gy7⟩ w1 ⟨hm, Fw1_0, Fw1_1, K1⟩
 have z1 := K1.size
 have hb := fix_succ hm; clear hm; obtain ⟨n1, rfl, hm⟩ := hb
 generalize hrec1 : fixN (ref02_Bytes_L1 p1) n1 = rec1 at hm
 unfold ref02_Bytes_L1 at hm
 try dsimp only at hm
 refine sw_seq<|qs 3 rfl<|qm rfl<|qm rfl<|qv rfl (vv_lss (a := a8) (b := p1) rfl rfl)<|sd_done<|cnF rfl (fun c1 => ?_) (fun c1 => ?_)
 · replace hm := iF c1 hm
   refine sw_exit<|then_x<|then_x<|block_x<|then_n<|qs 2 rfl<|qm rfl<|qm rfl<|sd_done<|sw_ret ?_
   have X8 := ((Gr.refl w).kz K1)
   cases hm
   refine ⟨_, _, rfl, res_1 rfl (rv_tmp rfl), ?_⟩
   exact ⟨vy7, zy7, gy7, rfl, Fw1_0, ⟨(pv_0 (A := (fun x => w.heap.size ≤ x)) Fw1_1)⟩, X8⟩
 replace hm := iT c1 hm
 refine qu<|sw_seq<|sw_block<|qs 7 rfl<|qm rfl ?_
 obtain ⟨x9, hx9, hm⟩ := bnd hm
 refine qv rfl (vv_remU (c := a5) (d := 256#64) rfl rfl hx9)<|qv rfl (vv_cvUB cv_24_5 rfl)<|qe rfl (ev_litT [x9.setWidth 8] bvc bsl_50_1 rfl rfl (ws_of rfl) rfl rfl rfl) ?_
 rintro vw2 w2 ⟨gw2, hbw2, Ow2, G2⟩
 have z3 := G2.size
 refine qm rfl ?_
 have B5 := (Fw1_0.gr G2)
 obtain ⟨l10, hl10, hm⟩ := bnd hm
 refine qe rfl (ev_appT (l := [x9.setWidth 8]) (m := a6) (c := bvc) apt_50 rfl rfl Ow2 (Own.rd B5) hl10 (by decide)) ?_
 rintro vw3 w3 ⟨zw3, gw3, Ow3, Aw3, qw3, rw3⟩
 refine qm rfl<|sd_done<|qg 3 rfl<|qm rfl ?_
 obtain ⟨x11, hx11, hm⟩ := bnd hm
 refine qv rfl (vv_quoU (c := a5) (d := 256#64) rfl rfl hx11)<|qm rfl<|sd_nil<|block_n<|then_n<|qg 3 rfl<|qm rfl<|qv rfl (vv_add (k := .i64) (a := a8) (b := 1) rfl rfl)<|qm rfl<|sd_nil ?_
 have K_7 : Kz [] w w3 := ((K1.gr G2).ka Aw3 (tk1 ((.inr tk0) : 1 = 0 ∨ w.heap.size ≤ gw2)))
 subst hrec1
 exact ⟨rfl, ⟨n1, x11, l10, w64 (a8 + 1), vw3, zw3, gw3⟩, sbq, ⟨hm, Ow3, ⟨(pv_app (A := (fun x => w.heap.size ≤ x)) rw3 (.inr tk0))⟩, K_7⟩, Nat.lt_succ_self _⟩
theorem ref02_key_w {p0 vp0 zp0 gp0 op0 r} (hm : ref02_key p0 = some r) {w : World} (hp0 : Rd w zp0 gp0 op0 1 vp0 (p0.map bvc)) :
    Calls Tryz.prog 214 [vp0].toArray w fun e w' => ∃ v, e = .returned v ∧ (v = kv r ∧ Gr w w') := by
 have lt1 := hp0.lth
 unfold ref02_key at hm
 refine calls_of_sw 22 Tryz.func214 rfl rfl rfl<|qs 1 rfl<|qe rfl (ev_alloc (cs := kb k0) zv_23 rfl) ?_
 rintro _ w1 ⟨b1, rfl, hbw1, Bw1, G1⟩
 have lt3 := Bw1.lt
 refine qd 1 rfl<|qe rfl (ev_alloc (cs := kb k0) zv_23 rfl) ?_
 rintro _ w2 ⟨b2, rfl, hbw2, Bw2, G2⟩
 refine sd_done<|sw_seq<|qs 1 rfl<|qm rfl<|sd_done<|sw_block ?_
 have X6 := (((Gr.refl w).trans G1).trans G2)
 have B7 := ((hp0.gr G1).gr G2)
 refine sw_loopD (α := Nat × Int × W2) (rg 4 17) (fun ⟨n1, a3, a4⟩ => [(4, .int .i64 a3)]) (fun ⟨n1, a3, a4⟩ wr => (fixN (ref02_key_L1 p0) n1 (a3, a4) = some r) ∧ Bx wr b2 23 (kb a4) ∧ Kz [(1, b2)] w2 wr) (fun ⟨n1, a3, a4⟩ => n1) ⟨FUEL, 0, k0⟩ ?_ ?_ ?_
 · exact sbq
 · exact ⟨hm, Bw2, Kz.refl _ _⟩
 clear hm; rintro ⟨n1, a3, a4⟩ w3 ⟨hm, Fw3_0, K3⟩
 have hb := fix_succ hm; clear hm; obtain ⟨n1, rfl, hm⟩ := hb
 generalize hrec1 : fixN (ref02_key_L1 p0) n1 = rec1 at hm
 unfold ref02_key_L1 at hm
 try dsimp only at hm
 refine sw_seq ?_
 have X10 := (X6.kz K3)
 refine qj (β := Bool) (rg 5 8) (fun a5 => [(12, .bool a5)]) (fun a5 wr => (ref02_key_J2 p0 a3 a4 rec1 a5 = some r) ∧ Kz [] w3 wr) ?_ ?_
 · refine qg 8 rfl<|qm rfl<|qv rfl (vv_lss (a := a3) (b := 16) rfl rfl)<|qpF rfl (vv_move rfl) (fun c2 => ?_) (fun c2 => ?_)
   · replace hm := iF c2 hm
     refine qk rfl<|qk rfl<|qk rfl<|qk rfl<|qm rfl<|sd_nil ?_
     exact ⟨rfl, false, sbq, hm, kz0⟩
   replace hm := iT c2 hm
   refine qm rfl<|qm rfl ?_
   have B20 := (B7.kz K3 (tk1 (pb_lt (b := b2) lt1)))
   refine qv rfl (vv_lenT (l := p0) (c := bvc) Tryz.underlying50 rfl B20)<|qv rfl (vv_lss (a := a3) (b := (p0.length : Int)) rfl rfl)<|qm rfl<|sd_nil ?_
   exact ⟨rfl, (decide (a3 < (p0.length : Int))), sbq, hm, kz0⟩
 clear hm; rintro a5 w4 ⟨hm, K4⟩
 unfold ref02_key_J2 at hm
 refine cnF rfl (fun c1 => ?_) (fun c1 => ?_)
 · replace hm := cnd_f c1 hm
   refine sw_exit<|then_x<|then_x<|block_x<|then_n<|qs 2 rfl ?_
   have B16 := (Fw3_0.kz K4)
   refine qv rfl (vv_loadW agg_23 rfl B16 rfl) ?_
   have B17 := (((Bw1.gr G2).kz K3).kz K4)
   refine qe rfl (ev_stW agg_23 rfl rfl rfl B17 rfl rfl) ?_
   rintro _ w6 ⟨Bw6, M6⟩
   refine sd_done<|sw_ret ?_
   have X19 := ((X10.kz K4).md M6)
   cases hm
   refine ⟨_, _, rfl, res_1 rfl (rv_cellW agg_23 rfl Bw6 rfl), ?_⟩
   exact ⟨rfl, X19⟩
 replace hm := cnd_t c1 hm
 refine qu<|sw_seq<|sw_block<|qg 7 rfl<|qm rfl<|qm rfl<|qm rfl ?_
 obtain ⟨y6, hy6, hm⟩ := bnd hm
 have B12 := ((B7.kz K3 (tk1 (pb_lt (b := b2) lt1))).kz K4)
 refine qv rfl (vv_ixT (i := a3) Tryz.underlying50 (one_5).siz rfl B12 rfl hy6)<|qv rfl (vv_el1T (q := 0) (u := bv y6) one_5 rfl B12 hy6 (by first | rfl | omega) rfl) ?_
 obtain ⟨y7, hy7, hm⟩ := bnd hm
 refine qv rfl (vv_ixK (i := a3) (p := a4) Tryz.underlying23 (one_5).siz rfl rfl hy7) ?_
 have B13 := (Fw3_0.kz K4)
 obtain ⟨x8, hx8, hm⟩ := bnd hm
 refine qe rfl (ev_stK (off := 0) (p := a4) (q := x8) (i := a3) (cs' := kb x8) (one_5).siz rfl rfl B13 rfl hx8 rfl rfl rfl) ?_
 rintro _ w5 ⟨Bw5, M5⟩
 refine sd_nil<|block_n<|then_n<|qg 3 rfl<|qm rfl<|qv rfl (vv_add (k := .i64) (a := a3) (b := 1) rfl rfl)<|qm rfl<|sd_nil ?_
 have K_15 : Kz [(1, b2)] w2 w5 := ((K3.kz K4).md M5)
 subst hrec1
 exact ⟨rfl, ⟨n1, w64 (a3 + 1), x8⟩, sbq, ⟨hm, Bw5, K_15⟩, Nat.lt_succ_self _⟩
theorem ref02_block_w {p0 p1 r} (hm : ref02_block p0 p1 = some r) {w : World} :
    Calls Tryz.prog 212 [wv p0, wv p1].toArray w fun e w' => ∃ v, e = .returned v ∧ (v = kv r ∧ Gr w w') := by
 unfold ref02_block at hm
 refine calls_of_sw 11 Tryz.func212 rfl rfl rfl<|qs 1 rfl<|qe rfl (ev_alloc (cs := kb k0) zv_23 rfl) ?_
 rintro _ w1 ⟨b1, rfl, hbw1, Bw1, G1⟩
 have lt2 := Bw1.lt
 refine qd 7 rfl<|qm rfl ?_
 obtain ⟨x1, hx1, hm⟩ := bnd hm
 refine qe rfl (eC en_213 rfl (ref02_Bytes_w hx1)) ?_
 rintro u2_r0_s w2 ⟨_, z2_r0_s, g2_r0_s, rfl, O2_r0_s, f2_r0_s, G2⟩
 refine qm rfl ?_
 obtain ⟨x2, hx2, hm⟩ := bnd hm
 refine qe rfl (eC en_213 rfl (ref02_Bytes_w hx2)) ?_
 rintro u3_r0_s w3 ⟨_, z3_r0_s, g3_r0_s, rfl, O3_r0_s, f3_r0_s, G3⟩
 have B7 := (O2_r0_s.gr G3)
 obtain ⟨l3, hl3, hm⟩ := bnd hm
 refine qe rfl (ev_appT (l := x1) (m := x2) (c := bvc) apt_50 rfl rfl B7 (Own.rd O3_r0_s) hl3 (by decide)) ?_
 rintro vw4 w4 ⟨zw4, gw4, Ow4, Aw4, qw4, rw4⟩
 obtain ⟨x4, hx4, hm⟩ := bnd hm
 refine qe rfl (eC en_214 rfl (ref02_key_w hx4 (Own.rd Ow4))) ?_
 rintro _ w5 ⟨rfl, G5⟩
 have B10 := ((((Bw1.gr G2).gr G3).ka Aw4 (tk1 (pb_0 (b := b1) f2_r0_s))).gr G5)
 refine qe rfl (ev_stW agg_23 rfl rfl rfl B10 rfl rfl) ?_
 rintro _ w6 ⟨Bw6, M6⟩
 refine sd_done<|sw_ret ?_
 have X12 := (((((((Gr.refl w).trans G1).trans G2).trans G3).ka Aw4 (tk1 (pv_0 (A := (fun x => w.heap.size ≤ x)) f2_r0_s))).trans G5).md M6)
 cases hm
 refine ⟨_, _, rfl, res_1 rfl (rv_cellW agg_23 rfl Bw6 rfl), ?_⟩
 exact ⟨rfl, X12⟩
theorem ref02_Decrypt_w {p0 p1 r} (hm : ref02_Decrypt p0 p1 = some r) {w : World} :
    Calls Tryz.prog 157 [kv p0, kv p1].toArray w fun e w' => ∃ v, e = .returned v ∧ (v = kv r ∧ Gr w w') := by
 unfold ref02_Decrypt at hm
 refine calls_of_sw 36 Tryz.func157 rfl rfl rfl<|qs 3 rfl<|qe rfl (ev_box (cs := kb p0) rfl rfl) ?_
 rintro _ w1 ⟨b1, rfl, hbw1, Bw1, G1⟩
 have lt2 := Bw1.lt
 refine qe rfl (ev_box (cs := kb p1) rfl rfl) ?_
 rintro _ w2 ⟨b2, rfl, hbw2, Bw2, G2⟩
 have lt4 := Bw2.lt
 refine qe rfl (ev_alloc (cs := kb k0) zv_23 rfl) ?_
 rintro _ w3 ⟨b3, rfl, hbw3, Bw3, G3⟩
 refine qd 7 rfl ?_
 have B7 := (Bw2.gr G3)
 refine qv rfl (vv_loadW agg_23 rfl B7 rfl) ?_
 obtain ⟨x1, hx1, hm⟩ := bnd hm
 refine qe rfl (eC en_208 rfl (ref02_words_w hx1)) ?_
 rintro _ w4 ⟨rfl, G4⟩
 refine qm rfl<|qm rfl<|qm rfl<|qm rfl<|qm rfl<|qd 3 rfl ?_
 have B9 := (((Bw1.gr G2).gr G3).gr G4)
 refine qv rfl (vv_loadW agg_23 rfl B9 rfl) ?_
 obtain ⟨x2, hx2, hm⟩ := bnd hm
 refine qe rfl (eC en_209 rfl (ref02_roundKeys_w hx2)) ?_
 rintro u5_r0_s w5 ⟨_, z5_r0_s, g5_r0_s, rfl, O5_r0_s, f5_r0_s, G5⟩
 refine qm rfl<|sd_done<|sw_seq<|qs 1 rfl<|qm rfl<|sd_done<|sw_block ?_
 have X12 := ((((((Gr.refl w).trans G1).trans G2).trans G3).trans G4).trans G5)
 refine sw_loopD (α := Nat × BitVec 64 × BitVec 64 × Int) ([5, 6, 8] ++ rg 16 17) (fun ⟨n1, a6, a7, a8⟩ => [(5, wv a6), (6, wv a7), (8, .int .i64 a8)]) (fun ⟨n1, a6, a7, a8⟩ wr => (fixN (ref02_Decrypt_L1 x2) n1 (a6, a7, a8) = some r) ∧ Kz [] w5 wr) (fun ⟨n1, a6, a7, a8⟩ => n1) ⟨FUEL, x1.1, x1.2, 31⟩ ?_ ?_ ?_
 · exact sbq
 · exact ⟨hm, Kz.refl _ _⟩
 clear hm; rintro ⟨n1, a6, a7, a8⟩ w6 ⟨hm, K6⟩
 have hb := fix_succ hm; clear hm; obtain ⟨n1, rfl, hm⟩ := hb
 generalize hrec1 : fixN (ref02_Decrypt_L1 x2) n1 = rec1 at hm
 unfold ref02_Decrypt_L1 at hm
 try dsimp only at hm
 refine sw_seq<|qs 2 rfl<|qm rfl<|qv rfl (vv_geq (a := a8) (b := 0) rfl rfl)<|sd_done<|cnF rfl (fun c1 => ?_) (fun c1 => ?_)
 · replace hm := iF c1 hm
   refine sw_exit<|then_x<|then_x<|block_x<|then_n<|qs 4 rfl<|qm rfl<|qm rfl ?_
   obtain ⟨x12, hx12, hm⟩ := bnd hm
   refine qe rfl (eC en_212 rfl (ref02_block_w hx12)) ?_
   rintro _ w9 ⟨rfl, G9⟩
   have B19 := ((((Bw3.gr G4).gr G5).kz K6).gr G9)
   refine qe rfl (ev_stW agg_23 rfl rfl rfl B19 rfl rfl) ?_
   rintro _ w10 ⟨Bw10, M10⟩
   refine sd_done<|sw_ret ?_
   have X21 := (((X12.kz K6).trans G9).md M10)
   cases hm
   refine ⟨_, _, rfl, res_1 rfl (rv_cellW agg_23 rfl Bw10 rfl), ?_⟩
   exact ⟨rfl, X21⟩
 replace hm := iT c1 hm
 refine qu<|sw_seq<|sw_block<|qs 5 rfl<|qm rfl<|qm rfl<|qv rfl (vv_uxor (a := a7) (b := a6) rfl rfl) ?_
 obtain ⟨x9, hx9, hm⟩ := bnd hm
 refine qe rfl (eC en_210 rfl (ref02_rotr_w hx9)) ?_
 rintro _ w7 ⟨rfl, G7⟩
 refine qm rfl<|sd_done<|qg 10 rfl<|qm rfl<|qm rfl<|qm rfl ?_
 obtain ⟨y10, hy10, hm⟩ := bnd hm
 have B15 := ((O5_r0_s.kz K6).gr G7)
 refine qv rfl (vv_ixT (i := a8) Tryz.underlying160 (one_24).siz rfl (Own.rd B15) rfl hy10)<|qv rfl (vv_el1T (q := 0) (u := wv y10) one_24 rfl (Own.rd B15) hy10 (by first | rfl | omega) rfl)<|qv rfl (vv_uxor (a := a6) (b := y10) rfl rfl)<|qm rfl<|qv rfl (vv_usub (a := a6 ^^^ y10) (b := x9) rfl rfl) ?_
 obtain ⟨x11, hx11, hm⟩ := bnd hm
 refine qe rfl (eC en_211 rfl (ref02_rotl_w hx11)) ?_
 rintro _ w8 ⟨rfl, G8⟩
 refine qm rfl<|sd_nil<|block_n<|then_n<|qg 3 rfl<|qm rfl<|qv rfl (vv_sub (k := .i64) (a := a8) (b := 1) rfl rfl)<|qm rfl<|sd_nil ?_
 have K_17 : Kz [] w5 w8 := ((K6.gr G7).gr G8)
 subst hrec1
 exact ⟨rfl, ⟨n1, x11, x9, w64 (a8 - 1)⟩, sbq, ⟨hm, K_17⟩, Nat.lt_succ_self _⟩
theorem ref03_Open_w {p0 p1 p2 vp1_1 zp1_1 gp1_1 op1_1 vp2_0 zp2_0 gp2_0 op2_0 vp2_2 zp2_2 gp2_2 op2_2 r} (hm : ref03_Open p0 p1 p2 = some r) {w : World} (hp1_1 : Rd w zp1_1 gp1_1 op1_1 18 vp1_1 (p1.Labels.map TLabel.cs)) (hp2_0 : Rd w zp2_0 gp2_0 op2_0 18 vp2_0 (p2.Items.map TItem.cs)) (hp2_2 : Rd w zp2_2 gp2_2 op2_2 2 vp2_2 (p2.Points.map TPoint.cs)) :
    Calls Tryz.prog 73 [.agg (TScheme.cs p0).toArray, .agg (TSecret.cs p1 vp1_1).toArray, .agg (THeader.cs p2 vp2_0 vp2_2).toArray].toArray w fun e w' => ∃ v, e = .returned v ∧ (v = .tuple [kv r.1, .int .i64 r.2].toArray ∧ Gr w w') := by
 unfold ref03_Open at hm
 refine calls_of_sw 57 Tryz.func73 rfl rfl rfl<|qs 5 rfl<|qe rfl (ev_box (cs := TScheme.cs p0) rfl rfl) ?_
 rintro _ w1 ⟨b1, rfl, hbw1, Bw1, G1⟩
 have lt5 := Bw1.lt
 refine qe rfl (ev_box (cs := TSecret.cs p1 vp1_1) rfl rfl) ?_
 rintro _ w2 ⟨b2, rfl, hbw2, Bw2, G2⟩
 have lt7 := Bw2.lt
 refine qe rfl (ev_box (cs := THeader.cs p2 vp2_0 vp2_2) rfl rfl) ?_
 rintro _ w3 ⟨b3, rfl, hbw3, Bw3, G3⟩
 have lt9 := Bw3.lt
 refine qe rfl (ev_alloc (cs := kb k0) zv_23 rfl) ?_
 rintro _ w4 ⟨b4, rfl, hbw4, Bw4, G4⟩
 refine qm rfl<|sd_done<|sw_seq<|qs 3 rfl ?_
 have Y1 := Gr.trans (Gr.trans G2 G3) G4
 have B12 := (Bw1.gr Y1)
 refine qv rfl (vv_loadW agg_28 rfl B12 rfl) ?_
 obtain ⟨x1, hx1, hm⟩ := bnd hm
 refine qe rfl (eC en_144 rfl (ref03_Valid_w hx1)) ?_
 rintro _ w5 ⟨rfl, G5⟩
 refine qv rfl (vv_not rfl)<|sd_done<|sw_cond rfl (fun c1 => ?_) (fun c1 => ?_)
 · replace hm := cnd_t c1 hm
   refine qs 3 rfl<|qv rfl (vv_buildZ bz_23) ?_
   have B14 := (Bw4.gr G5)
   refine qe rfl (ev_stW agg_23 rfl rfl rfl B14 rfl rfl) ?_
   rintro _ w6 ⟨Bw6, M6⟩
   refine qm rfl<|qb ?_
   have Y2 := Gr.trans (Gr.trans G1 Y1) G5
   have X16 := (((Gr.refl w).trans Y2).md M6)
   cases hm
   refine ⟨_, _, rfl, res_2 rfl (rv_cellW agg_23 rfl Bw6 rfl) (rv_tmp rfl), ?_⟩
   exact ⟨rfl, X16⟩
 replace hm := cnd_f c1 hm
 refine qu<|sw_seq<|qs 4 rfl ?_
 have B17 := (B12.gr G5)
 refine qv rfl (vv_loadW agg_28 rfl B17 rfl) ?_
 have Y3 := Gr.trans G4 G5
 have B18 := (Bw3.gr Y3)
 refine qv rfl (vv_loadW agg_48 rfl B18 rfl) ?_
 have Y4 := Gr.trans (Gr.trans G1 Y1) G5
 have B19 := (hp2_0.gr Y4)
 have B20 := (hp2_2.gr Y4)
 obtain ⟨x2, hx2, hm⟩ := bnd hm
 refine qe rfl (eC en_159 rfl (ref03_ValidHeader_w hx2 B19 B20)) ?_
 rintro _ w7 ⟨rfl, G7⟩
 refine qv rfl (vv_not rfl)<|sd_done<|sw_cond rfl (fun c2 => ?_) (fun c2 => ?_)
 · replace hm := cnd_t c2 hm
   refine qs 3 rfl<|qv rfl (vv_buildZ bz_23) ?_
   have Y5 := Gr.trans G5 G7
   have B22 := (Bw4.gr Y5)
   refine qe rfl (ev_stW agg_23 rfl rfl rfl B22 rfl rfl) ?_
   rintro _ w8 ⟨Bw8, M8⟩
   refine qm rfl<|qb ?_
   have X24 := ((((Gr.refl w).trans Y4).trans G7).md M8)
   cases hm
   refine ⟨_, _, rfl, res_2 rfl (rv_cellW agg_23 rfl Bw8 rfl) (rv_tmp rfl), ?_⟩
   exact ⟨rfl, X24⟩
 replace hm := cnd_f c2 hm
 refine qu<|sw_seq<|qs 1 rfl<|qm rfl<|sd_done<|sw_block ?_
 have X25 := (((Gr.refl w).trans Y4).trans G7)
 have B26 := ((hp1_1.gr Y4).gr G7)
 have B27 := (B19.gr G7)
 refine sw_loopD (α := Nat × Int) (rg 7 5 ++ rg 21 35) (fun ⟨n1, a4⟩ => [(7, .int .i64 0), (8, .int .i64 a4)]) (fun ⟨n1, a4⟩ wr => (fixN (ref03_Open_L1 p0 p1 p2) n1 a4 = some r) ∧ Kz [] w7 wr) (fun ⟨n1, a4⟩ => n1) ⟨FUEL, 0⟩ ?_ ?_ ?_
 · exact sbq
 · exact ⟨hm, Kz.refl _ _⟩
 clear hm; rintro ⟨n1, a4⟩ w9 ⟨hm, K9⟩
 have hb := fix_succ hm; clear hm; obtain ⟨n1, rfl, hm⟩ := hb
 generalize hrec1 : fixN (ref03_Open_L1 p0 p1 p2) n1 = rec1 at hm
 unfold ref03_Open_L1 at hm
 try dsimp only at hm
 refine sw_seq<|qs 5 rfl<|qm rfl<|qv rfl (vv_fieldAddr fa_48_0 rfl) ?_
 have B30 := ((B18.gr G7).kz K9)
 refine qv rfl (vv_load1 (v := vp2_0) one_45 rfl B30 rfl) ?_
 have B31 := (B27.kz K9)
 refine qv rfl (vv_lenT (l := p2.Items) (c := TItem.cs) Tryz.underlying45 rfl B31)<|qv rfl (vv_lss (a := a4) (b := (p2.Items.length : Int)) rfl rfl)<|sd_done<|cnF rfl (fun c3 => ?_) (fun c3 => ?_)
 · replace hm := iF c3 hm
   refine sw_exit<|then_x<|then_x<|block_x<|then_n<|qs 3 rfl<|qv rfl (vv_buildZ bz_23) ?_
   have Y6 := Gr.trans G5 G7
   have B83 := ((Bw4.gr Y6).kz K9)
   refine qe rfl (ev_stW agg_23 rfl rfl rfl B83 rfl rfl) ?_
   rintro _ w29 ⟨Bw29, M29⟩
   refine qm rfl<|sd_done<|sw_ret ?_
   have X85 := ((X25.kz K9).md M29)
   cases hm
   refine ⟨_, _, rfl, res_2 rfl (rv_cellW agg_23 rfl Bw29 rfl) (rv_tmp rfl), ?_⟩
   exact ⟨rfl, X85⟩
 replace hm := iT c3 hm
 refine qu<|sw_seq<|sw_block ?_
 have X32 := (X25.kz K9)
 refine qj (β := W2 × Bool × Nat) ([9, 10] ++ rg 28 12) (fun ⟨a6, a7, bq5⟩ => [(9, .pointer (some ⟨bq5, 0, none⟩)), (10, .bool a7)]) (fun ⟨a6, a7, bq5⟩ wr => (ref03_Open_J2 p2 a4 rec1 a6 a7 = some r) ∧ Bx wr bq5 23 (kb a6) ∧ w9.heap.size ≤ bq5 ∧ Kz [] w9 wr) ?_ ?_
 · refine dw [([])] [] (.fork [(0,10),(1,10),(2,10),(3,10),(4,10),(5,10),(6,10),(7,10)] (.leaf [(8,0),(9,10),(10,10),(11,10),(12,0),(13,0),(14,10)]) (.leaf [(12,0),(8,0),(9,10),(10,10),(11,10),(13,0),(14,10)])) ?_
   intro w22 G22 zw22
   refine sdz_fork ?_
   have B62 := (((B17.gr G7).kz K9).gr G22)
   refine dh 0 rfl rfl (fun w hS => vv_loadW agg_28 rfl (Bx.kp B62 hS) rfl) ?_
   have Y7 := Gr.trans (Gr.trans G3 Y3) G7
   have B63 := (((Bw2.gr Y7).kz K9).gr G22)
   refine dh 0 rfl rfl (fun w hS => vv_loadW agg_33 rfl (Bx.kp B63 hS) rfl)<|dh 0 rfl rfl (fun w hS => vv_fieldAddr fa_48_0 rfl) ?_
   have B64 := (B30.gr G22)
   refine dh 0 rfl rfl (fun w hS => vv_load1 (v := vp2_0) one_45 rfl (Bx.kp B64 hS) rfl)<|dm 0 rfl rfl ?_
   obtain ⟨y13, hy13, hm⟩ := bnd hm
   have B65 := (B31.gr G22)
   refine dh 0 rfl rfl (fun w hS => vv_ixT (i := a4) Tryz.underlying45 (agg_133).siz rfl (Rd.kp B65 hS) rfl hy13)<|dh 0 rfl rfl (fun w hS => vv_fieldAddr fa_133_0 rfl)<|dh 0 rfl rfl (fun w hS => vv_elMT (q := 0) (vs := TSubset.cs y13.Subset) agg_131 rfl (Rd.kp B65 hS) hy13 (by first | rfl | omega) rfl rfl)<|sd_fork ?_ ?_
   · refine sdz_leaf ?_
     have B66 := ((B26.kz K9).gr G22)
     obtain ⟨x14, hx14, hm⟩ := bnd hm
     refine qz [] rfl (eC en_160 rfl (ref03_Leads_w hx14 B66)) ⟨fun _ => tk0, trivial⟩ ?_
     rintro _ w23 ⟨rfl, G23⟩
     have z67 := G23.size
     refine kG G23 ?_
     have S68 := ((Kp.refl ([]) w22).gr G23)
     refine dn 0 rfl rfl S68<|dn 0 rfl rfl S68<|dn 0 rfl rfl S68<|qz [] rfl (ev_alloc (cs := kb k0) zv_23 rfl) ⟨fun _ => tk0, trivial⟩ ?_
     rintro _ w24 ⟨b24, rfl, hbw24, Bw24, G24⟩
     refine kG G24<|qz [(1, b24)] rfl (ev_stW agg_23 rfl rfl rfl Bw24 rfl rfl) ⟨fun _ => tk0, trivial⟩ ?_
     rintro _ w25 ⟨Bw25, M25⟩
     refine kM M25 ?_
     have S72 := ((S68.gr G24).md M25)
     refine dn 0 rfl rfl S72<|sd_nil ?_
     exact ⟨rfl, ⟨x14.1, x14.2, b24⟩, sbq, hm, Bw25, (by omega), ((((kz0.gr G22).gr G23).gr G24).md M25)⟩
   refine sdz_leaf<|qz [] rfl (ev_alloc (cs := kb k0) zv_23 rfl) ⟨fun _ => tk0, trivial⟩ ?_
   rintro _ w26 ⟨b26, rfl, hbw26, Bw26, G26⟩
   refine kG G26 ?_
   have B76 := (((B26.kz K9).gr G22).gr G26)
   obtain ⟨x15, hx15, hm⟩ := bnd hm
   refine qz [] rfl (eC en_160 rfl (ref03_Leads_w hx15 B76)) ⟨fun _ => tk0, trivial⟩ ?_
   rintro _ w27 ⟨rfl, G27⟩
   refine kG G27 ?_
   have S78 := (((Kp.refl ([]) w22).gr G26).gr G27)
   refine dn 0 rfl rfl S78<|dn 0 rfl rfl S78<|dn 0 rfl rfl S78 ?_
   have B79 := (Bw26.gr G27)
   refine qz [(1, b26)] rfl (ev_stW agg_23 rfl rfl rfl B79 rfl rfl) ⟨fun _ => tk0, trivial⟩ ?_
   rintro _ w28 ⟨Bw28, M28⟩
   refine kM M28 ?_
   have S81 := (S78.md M28)
   refine dn 0 rfl rfl S81<|sd_nil ?_
   exact ⟨rfl, ⟨x15.1, x15.2, b26⟩, sbq, hm, Bw28, (by omega), ((((kz0.gr G22).gr G26).gr G27).md M28)⟩
 clear hm; rintro ⟨a6, a7, bq5⟩ w10 ⟨hm, Fw10_0, Fw10_1, K10⟩
 unfold ref03_Open_J2 at hm
 refine sw_seq<|qs 2 rfl<|qm rfl<|qv rfl (vv_not rfl)<|sd_done<|sw_cond rfl (fun c4 => ?_) (fun c4 => ?_)
 · replace hm := cnd_t c4 hm
   refine sw_exit<|then_x<|block_x<|then_n<|qg 3 rfl<|qm rfl<|qv rfl (vv_add (k := .i64) (a := a4) (b := 1) rfl rfl)<|qm rfl<|sd_nil ?_
   have K_35 : Kz [] w7 w10 := (K9.kz K10)
   subst hrec1
   exact ⟨rfl, ⟨n1, w64 (a4 + 1)⟩, sbq, ⟨hm, K_35⟩, Nat.lt_succ_self _⟩
 replace hm := cnd_f c4 hm
 refine qu ?_
 have X36 := (X32.kz K10)
 refine qj (β := W2 × Nat) ([11] ++ rg 42 8) (fun ⟨a9, bq8⟩ => [(11, .pointer (some ⟨bq8, 0, none⟩))]) (fun ⟨a9, bq8⟩ wr => (ref03_Open_J3 p2 a4 rec1 a9 = some r) ∧ Bx wr bq8 23 (kb a9) ∧ w10.heap.size ≤ bq8 ∧ Kz [] w10 wr) ?_ ?_
 · refine dw [([])] [] (.fork [(0,10),(1,10),(2,10),(3,10),(4,10),(5,10),(6,10)] (.leaf [(7,0),(8,0),(9,0)]) (.leaf [(8,0),(7,0),(9,0)])) ?_
   intro w15 G15 zw15
   refine sdz_fork ?_
   have B48 := (Fw10_0.gr G15)
   refine dh 0 rfl rfl (fun w hS => vv_loadW agg_23 rfl (Bx.kp B48 hS) rfl)<|dh 0 rfl rfl (fun w hS => vv_fieldAddr fa_48_0 rfl) ?_
   have B49 := ((B30.kz K10).gr G15)
   refine dh 0 rfl rfl (fun w hS => vv_load1 (v := vp2_0) one_45 rfl (Bx.kp B49 hS) rfl)<|dm 0 rfl rfl ?_
   obtain ⟨y10, hy10, hm⟩ := bnd hm
   have B50 := ((B31.kz K10).gr G15)
   refine dh 0 rfl rfl (fun w hS => vv_ixT (i := a4) Tryz.underlying45 (agg_133).siz rfl (Rd.kp B50 hS) rfl hy10)<|dh 0 rfl rfl (fun w hS => vv_fieldAddr fa_133_1 rfl)<|dh 0 rfl rfl (fun w hS => vv_elMT (q := 2) (vs := kb y10.Box) agg_23 rfl (Rd.kp B50 hS) hy10 (by first | rfl | omega) rfl rfl)<|sd_fork ?_ ?_
   · refine sdz_leaf ?_
     obtain ⟨x11, hx11, hm⟩ := bnd hm
     refine qz [] rfl (eC en_157 rfl (ref02_Decrypt_w hx11)) ⟨fun _ => tk0, trivial⟩ ?_
     rintro _ w16 ⟨rfl, G16⟩
     have z51 := G16.size
     refine kG G16<|qz [] rfl (ev_alloc (cs := kb k0) zv_23 rfl) ⟨fun _ => tk0, trivial⟩ ?_
     rintro _ w17 ⟨b17, rfl, hbw17, Bw17, G17⟩
     refine kG G17<|qz [(1, b17)] rfl (ev_stW agg_23 rfl rfl rfl Bw17 rfl rfl) ⟨fun _ => tk0, trivial⟩ ?_
     rintro _ w18 ⟨Bw18, M18⟩
     refine kM M18<|sd_nil ?_
     exact ⟨rfl, ⟨x11, b17⟩, sbq, hm, Bw18, (by omega), ((((kz0.gr G15).gr G16).gr G17).md M18)⟩
   refine sdz_leaf<|qz [] rfl (ev_alloc (cs := kb k0) zv_23 rfl) ⟨fun _ => tk0, trivial⟩ ?_
   rintro _ w19 ⟨b19, rfl, hbw19, Bw19, G19⟩
   refine kG G19 ?_
   obtain ⟨x12, hx12, hm⟩ := bnd hm
   refine qz [] rfl (eC en_157 rfl (ref02_Decrypt_w hx12)) ⟨fun _ => tk0, trivial⟩ ?_
   rintro _ w20 ⟨rfl, G20⟩
   refine kG G20 ?_
   have B59 := (Bw19.gr G20)
   refine qz [(1, b19)] rfl (ev_stW agg_23 rfl rfl rfl B59 rfl rfl) ⟨fun _ => tk0, trivial⟩ ?_
   rintro _ w21 ⟨Bw21, M21⟩
   refine kM M21<|sd_nil ?_
   exact ⟨rfl, ⟨x12, b19⟩, sbq, hm, Bw21, (by omega), ((((kz0.gr G15).gr G19).gr G20).md M21)⟩
 clear hm; rintro ⟨a9, bq8⟩ w11 ⟨hm, Fw11_0, Fw11_1, K11⟩
 unfold ref03_Open_J3 at hm
 refine sw_seq<|dw [([])] [] (.leaf [(0,10),(2,10),(3,10),(1,0),(4,10)]) ?_
 intro w12 G12 zw12
 refine sdz_leaf ?_
 have B39 := (Fw11_0.gr G12)
 refine dh 0 rfl rfl (fun w hS => vv_loadW agg_23 rfl (Bx.kp B39 hS) rfl)<|dh 0 rfl rfl (fun w hS => vv_fieldAddr fa_48_4 rfl) ?_
 have B40 := (((B30.kz K10).kz K11).gr G12)
 refine dh 0 rfl rfl (fun w hS => vv_loadM (vs := kb p2.Check) agg_23 rfl (Bx.kp B40 hS) rfl rfl)<|qz [] rfl (eC en_64 rfl (rderive_c a9 (un8 53#8) (un8_nn _) (un8_le _) 0#64 _)) ⟨fun _ => tk0, trivial⟩ ?_
 rintro _ w13 ⟨rfl, G13⟩
 refine kG G13 ?_
 have S42 := ((Kp.refl ([]) w12).gr G13)
 refine qh 0 rfl rfl S42 (fun w hS => vv_eqlS (cf := kb) (a := drv a9 (un8 53#8) 0#64) (b := p2.Check) eqt_23 rfl rfl rfl rfl (fun h => kb_inj h))<|sd_done<|cnF rfl (fun c5 => ?_) (fun c5 => ?_)
 · replace hm := iF c5 hm
   refine sw_skip<|block_n<|then_n<|qg 3 rfl<|qm rfl<|qv rfl (vv_add (k := .i64) (a := a4) (b := 1) rfl rfl)<|qm rfl<|sd_nil ?_
   have K_47 : Kz [] w7 w13 := ((((K9.kz K10).kz K11).gr G12).gr G13)
   subst hrec1
   exact ⟨rfl, ⟨n1, w64 (a4 + 1)⟩, sbq, ⟨hm, K_47⟩, Nat.lt_succ_self _⟩
 replace hm := iT c5 hm
 refine qs 3 rfl ?_
 have B43 := (B39.gr G13)
 refine qv rfl (vv_loadW agg_23 rfl B43 rfl) ?_
 have Y8 := Gr.trans G5 G7
 have B44 := ((((((Bw4.gr Y8).kz K9).kz K10).kz K11).gr G12).gr G13)
 refine qe rfl (ev_stW agg_23 rfl rfl rfl B44 rfl rfl) ?_
 rintro _ w14 ⟨Bw14, M14⟩
 refine qm rfl<|sd_done<|sw_ret<|block_r<|then_r<|then_r<|block_r<|then_r ?_
 have X46 := ((((X36.kz K11).trans G12).trans G13).md M14)
 cases hm
 refine ⟨_, _, rfl, res_2 rfl (rv_cellW agg_23 rfl Bw14 rfl) (rv_tmp rfl), ?_⟩
 exact ⟨rfl, X46⟩
end Go.Proofs.YtjdffpglgkefmaaGreat.Mx
