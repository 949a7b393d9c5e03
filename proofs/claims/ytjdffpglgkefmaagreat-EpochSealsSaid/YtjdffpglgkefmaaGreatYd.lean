/- Walks that follow mirrors: Yd. Printed by mx.py. -/
import Derived.Test.YtjdffpglgkefmaaGreatYc
import Derived.Test.YtjdffpglgkefmaaGreatZd
set_option linter.unusedVariables false
set_option linter.unusedSimpArgs false
set_option maxRecDepth 100000
set_option maxHeartbeats 2000000
namespace Go.Proofs.YtjdffpglgkefmaaGreat.Mx
open Go Go.RowKit Go.Sx
theorem fa_31_0 : FA Tryz.prog 31 0 0 := fun _ _ _ => by kernel_rfl
theorem en_184 : En Tryz.prog 184 := fun _ _ => by kernel_rfl
theorem en_238 : En Tryz.prog 238 := fun _ _ => by kernel_rfl
theorem en_183 : En Tryz.prog 183 := fun _ _ => by kernel_rfl
theorem en_107 : En Tryz.prog 107 := fun _ _ => by kernel_rfl
theorem bsl_46_0 : BSl Tryz.prog 46 0 31 2 [] := bsl_nil Tryz.underlying46 (agg_31).siz
theorem fa_33_2 : FA Tryz.prog 33 2 2 := fun _ _ _ => by kernel_rfl
theorem en_182 : En Tryz.prog 182 := fun _ _ => by kernel_rfl
theorem fa_31_1 : FA Tryz.prog 31 1 1 := fun _ _ _ => by kernel_rfl
theorem en_106 : En Tryz.prog 106 := fun _ _ => by kernel_rfl
theorem en_109 : En Tryz.prog 109 := fun _ _ => by kernel_rfl
theorem cv_24_2 : CV Tryz.prog 24 2 .i64 := fun _ _ _ => by kernel_rfl
theorem cv_2_24 : CV Tryz.prog 2 24 .u64 := fun _ _ _ => by kernel_rfl
theorem en_185 : En Tryz.prog 185 := fun _ _ => by kernel_rfl
theorem en_110 : En Tryz.prog 110 := fun _ _ => by kernel_rfl
theorem en_154 : En Tryz.prog 154 := fun _ _ => by kernel_rfl
theorem en_224 : En Tryz.prog 224 := fun _ _ => by kernel_rfl
theorem en_223 : En Tryz.prog 223 := fun _ _ => by kernel_rfl
theorem en_156 : En Tryz.prog 156 := fun _ _ => by kernel_rfl
theorem poly_distinct_1_w {p0 p1 bp1 r} (hm : poly_distinct_1 p0 p1 = some r) {w : World} (hbp1 : Bx w bp1 31 (TPoint.cs p1)) :
    Calls Tryz.prog 184 [.agg (TPoint.cs p0).toArray, .pointer (some ⟨bp1, 0, none⟩)].toArray w fun e w' => ∃ v, e = .returned v ∧ (v = .bool r ∧ Gr w w') := by
 unfold poly_distinct_1 at hm
 refine calls_of_sw 9 Tryz.func184 rfl rfl rfl<|qs 2 rfl<|qe rfl (ev_box (cs := TPoint.cs p0) rfl rfl) ?_
 rintro _ w1 ⟨b1, rfl, hbw1, Bw1, G1⟩
 refine qm rfl<|qd 6 rfl<|qv rfl (vv_fieldAddr fa_31_0 rfl)<|qv rfl (vv_load1 (v := wv p0.X) one_24 rfl Bw1 rfl)<|qv rfl (vv_fieldAddr fa_31_0 rfl) ?_
 have B4 := (hbp1.gr G1)
 refine qv rfl (vv_load1 (v := wv p1.X) one_24 rfl B4 rfl)<|qv rfl (vv_eqlU (c := p0.X) (d := p1.X) rfl rfl)<|qm rfl<|sd_done<|sw_ret ?_
 have X5 := ((Gr.refl w).trans G1)
 cases hm
 refine ⟨_, _, rfl, res_1 rfl (rv_tmp rfl), ?_⟩
 exact ⟨rfl, X5⟩
theorem slices_IndexFunc_7a5d_poly_distinct_1_w {p0 p1_0 vp0 zp0 gp0 op0 bp1_0 r} (hm : slices_IndexFunc_7a5d_poly_distinct_1 p0 p1_0 = some r) {w : World} (hp0 : Rd w zp0 gp0 op0 2 vp0 (p0.map TPoint.cs)) (hbp1_0 : Bx w bp1_0 31 (TPoint.cs p1_0)) :
    Calls Tryz.prog 238 [vp0, .func (.func 184) [].toArray [.pointer (some ⟨bp1_0, 0, none⟩)].toArray].toArray w fun e w' => ∃ v, e = .returned v ∧ (v = .int .i64 r ∧ Gr w w') := by
 unfold slices_IndexFunc_7a5d_poly_distinct_1 at hm
 refine calls_of_sw 19 Tryz.func238 rfl rfl rfl<|qs 1 rfl<|qm rfl<|sd_done<|sw_seq<|qs 3 rfl<|qm rfl<|qv rfl (vv_lenT (l := p0) (c := TPoint.cs) Tryz.underlying46 rfl hp0)<|qm rfl<|sd_done<|sw_block ?_
 refine sw_loopD (α := Nat × Int) ([4, 5] ++ rg 8 11) (fun ⟨n1, a2⟩ => [(4, .int .i64 0), (8, .int .i64 a2)]) (fun ⟨n1, a2⟩ wr => (fixN (slices_IndexFunc_7a5d_poly_distinct_1_L1 p0 p1_0) n1 a2 = some r) ∧ Kz [] w wr) (fun ⟨n1, a2⟩ => n1) ⟨FUEL, 0⟩ ?_ ?_ ?_
 · exact sbq
 · exact ⟨hm, Kz.refl _ _⟩
 clear hm; rintro ⟨n1, a2⟩ w1 ⟨hm, K1⟩
 have hb := fix_succ hm; clear hm; obtain ⟨n1, rfl, hm⟩ := hb
 generalize hrec1 : fixN (slices_IndexFunc_7a5d_poly_distinct_1_L1 p0 p1_0) n1 = rec1 at hm
 unfold slices_IndexFunc_7a5d_poly_distinct_1_L1 at hm
 try dsimp only at hm
 refine qs 1 rfl<|qv rfl (vv_lss (a := a2) (b := (p0.length : Int)) rfl rfl)<|sd_done<|sw_seq<|cnF rfl (fun c1 => ?_) (fun c1 => ?_)
 · replace hm := iF c1 hm
   refine sw_exit<|then_x<|then_x<|block_x<|then_n<|qs 1 rfl<|qm rfl<|sd_done<|sw_ret ?_
   have X9 := ((Gr.refl w).kz K1)
   cases hm
   refine ⟨_, _, rfl, res_1 rfl (rv_tmp rfl), ?_⟩
   exact ⟨rfl, X9⟩
 replace hm := iT c1 hm
 refine qu<|sw_seq<|sw_block<|qs 2 rfl<|qm rfl<|qm rfl<|qd 6 rfl<|qm rfl<|qm rfl ?_
 refine qm rfl ?_
 obtain ⟨y3, hy3, hm⟩ := bnd hm
 have B4 := (hp0.kz K1)
 refine qv rfl (vv_ixT (i := a2) Tryz.underlying46 (agg_31).siz rfl B4 rfl hy3)<|qv rfl (vv_elWT agg_31 rfl B4 hy3 (by first | rfl | omega)) ?_
 have B5 := (hbp1_0.kz K1)
 obtain ⟨x4, hx4, hm⟩ := bnd hm
 refine qe rfl (ev_callV en_184 rfl rfl (poly_distinct_1_w hx4 B5)) ?_
 rintro _ w2 ⟨rfl, G2⟩
 refine sd_done<|sw_cond rfl (fun c2 => ?_) (fun c2 => ?_)
 · replace hm := cnd_t c2 hm
   refine qs 2 rfl<|qm rfl<|qm rfl<|sd_done<|sw_ret<|block_r<|then_r<|then_r<|block_r<|then_r ?_
   have X7 := (((Gr.refl w).kz K1).trans G2)
   cases hm
   refine ⟨_, _, rfl, res_1 rfl (rv_tmp rfl), ?_⟩
   exact ⟨rfl, X7⟩
 replace hm := cnd_f c2 hm
 refine sw_skip<|block_n<|then_n<|qg 2 rfl<|qv rfl (vv_add (k := .i64) (a := a2) (b := 1) rfl rfl)<|qm rfl<|sd_nil ?_
 have K_8 : Kz [] w w2 := (K1.gr G2)
 subst hrec1
 exact ⟨rfl, ⟨n1, w64 (a2 + 1)⟩, sbq, ⟨hm, K_8⟩, Nat.lt_succ_self _⟩
theorem slices_ContainsFunc_9e39_poly_distinct_1_w {p0 p1_0 vp0 zp0 gp0 op0 bp1_0 r} (hm : slices_ContainsFunc_9e39_poly_distinct_1 p0 p1_0 = some r) {w : World} (hp0 : Rd w zp0 gp0 op0 2 vp0 (p0.map TPoint.cs)) (hbp1_0 : Bx w bp1_0 31 (TPoint.cs p1_0)) :
    Calls Tryz.prog 183 [vp0, .func (.func 184) [].toArray [.pointer (some ⟨bp1_0, 0, none⟩)].toArray].toArray w fun e w' => ∃ v, e = .returned v ∧ (v = .bool r ∧ Gr w w') := by
 unfold slices_ContainsFunc_9e39_poly_distinct_1 at hm
 refine calls_of_sw 9 Tryz.func183 rfl rfl rfl<|qs 1 rfl<|qm rfl<|qd 5 rfl<|qm rfl<|qm rfl ?_
 obtain ⟨x1, hx1, hm⟩ := bnd hm
 refine qe rfl (eC en_238 rfl (slices_IndexFunc_7a5d_poly_distinct_1_w hx1 hp0 hbp1_0)) ?_
 rintro _ w1 ⟨rfl, G1⟩
 refine qv rfl (vv_geq (a := x1) (b := 0) rfl rfl)<|qm rfl<|sd_done<|sw_ret ?_
 have X4 := ((Gr.refl w).trans G1)
 cases hm
 refine ⟨_, _, rfl, res_1 rfl (rv_tmp rfl), ?_⟩
 exact ⟨rfl, X4⟩
theorem poly_distinct_w {p0 vp0 zp0 gp0 op0 r} (hm : poly_distinct p0 = some r) {w : World} (hp0 : Rd w zp0 gp0 op0 2 vp0 (p0.map TPoint.cs)) :
    Calls Tryz.prog 107 [vp0].toArray w fun e w' => ∃ v, e = .returned v ∧ (v = .bool r ∧ Gr w w') := by
 have lt1 := hp0.lth
 unfold poly_distinct at hm
 refine calls_of_sw 18 Tryz.func107 rfl rfl rfl<|qs 1 rfl<|qm rfl<|sd_done<|sw_seq<|qs 3 rfl<|qm rfl<|qv rfl (vv_lenT (l := p0) (c := TPoint.cs) Tryz.underlying46 rfl hp0)<|qm rfl<|sd_done<|sw_block ?_
 refine sw_loopD (α := Nat × Int) ([2, 3, 4] ++ rg 7 11) (fun ⟨n1, a2⟩ => [(2, .bool false), (7, .int .i64 a2)]) (fun ⟨n1, a2⟩ wr => (fixN (poly_distinct_L1 p0) n1 a2 = some r) ∧ Kz [] w wr) (fun ⟨n1, a2⟩ => n1) ⟨FUEL, 0⟩ ?_ ?_ ?_
 · exact sbq
 · exact ⟨hm, Kz.refl _ _⟩
 clear hm; rintro ⟨n1, a2⟩ w1 ⟨hm, K1⟩
 have z2 := K1.size
 have hb := fix_succ hm; clear hm; obtain ⟨n1, rfl, hm⟩ := hb
 generalize hrec1 : fixN (poly_distinct_L1 p0) n1 = rec1 at hm
 unfold poly_distinct_L1 at hm
 try dsimp only at hm
 refine qs 1 rfl<|qv rfl (vv_lss (a := a2) (b := (p0.length : Int)) rfl rfl)<|sd_done<|sw_seq<|cnF rfl (fun c1 => ?_) (fun c1 => ?_)
 · replace hm := iF c1 hm
   refine sw_exit<|then_x<|then_x<|block_x<|then_n<|qs 1 rfl<|qm rfl<|sd_done<|sw_ret ?_
   have X13 := ((Gr.refl w).kz K1)
   cases hm
   refine ⟨_, _, rfl, res_1 rfl (rv_tmp rfl), ?_⟩
   exact ⟨rfl, X13⟩
 replace hm := iT c1 hm
 refine qu<|sw_seq<|sw_block<|qs 6 rfl<|qm rfl ?_
 obtain ⟨y3, hy3, hm⟩ := bnd hm
 have B3 := (hp0.kz K1)
 refine qv rfl (vv_ixT (i := a2) Tryz.underlying46 (agg_31).siz rfl B3 rfl hy3)<|qv rfl (vv_elWT agg_31 rfl B3 hy3 (by first | rfl | omega))<|qe rfl (ev_alloc (cs := TPoint.cs (TPoint.mk 0#64 0#64)) zv_31 rfl) ?_
 rintro _ w2 ⟨b2, rfl, hbw2, Bw2, G2⟩
 refine qm rfl<|qe rfl (ev_stW agg_31 rfl rfl rfl Bw2 rfl rfl) ?_
 rintro _ w3 ⟨Bw3, M3⟩
 refine qd 5 rfl<|qm rfl<|qm rfl ?_
 obtain ⟨l4, hl4, hm⟩ := bnd hm
 have B7 := ((B3.gr G2).md M3 (pb_lt lt1))
 refine qt rfl (vv_sliT (P := Tryz.prog) (lo := 0) (hi := a2) (l := p0) (c := TPoint.cs) Tryz.underlying46 (agg_31).siz rfl B7 rfl ⟨_, rfl⟩ hl4) ?_
 rintro v8 o8 R8
 refine qv rfl (vv_makeFunc rfl rfl) ?_
 obtain ⟨x5, hx5, hm⟩ := bnd hm
 refine qe rfl (eC en_183 rfl (slices_ContainsFunc_9e39_poly_distinct_1_w hx5 R8 Bw3)) ?_
 rintro _ w4 ⟨rfl, G4⟩
 refine sd_done<|sw_cond rfl (fun c2 => ?_) (fun c2 => ?_)
 · replace hm := cnd_t c2 hm
   refine qs 1 rfl<|qm rfl<|sd_done<|sw_ret<|block_r<|then_r<|then_r<|block_r<|then_r ?_
   have X11 := (((((Gr.refl w).kz K1).trans G2).md M3).trans G4)
   cases hm
   refine ⟨_, _, rfl, res_1 rfl (rv_tmp rfl), ?_⟩
   exact ⟨rfl, X11⟩
 replace hm := cnd_f c2 hm
 refine sw_skip<|block_n<|then_n<|qg 2 rfl<|qv rfl (vv_add (k := .i64) (a := a2) (b := 1) rfl rfl)<|qm rfl<|sd_nil ?_
 have K_12 : Kz [] w w4 := (((K1.gr G2).md M3).gr G4)
 subst hrec1
 exact ⟨rfl, ⟨n1, w64 (a2 + 1)⟩, sbq, ⟨hm, K_12⟩, Nat.lt_succ_self _⟩
theorem slices_Clone_3bad_w {p0 vp0 zp0 gp0 op0 r} (hm : slices_Clone_3bad p0 = some r) {w : World} (hp0 : Rd w zp0 gp0 op0 2 vp0 (p0.map TPoint.cs)) :
    Calls Tryz.prog 182 [vp0].toArray w fun e w' => ∃ v, e = .returned v ∧ (∃ ur0_s zr0_s gr0_s, v = ur0_s ∧ Own w' zr0_s gr0_s 31 2 ur0_s (r.map TPoint.cs) ∧ Hdn (zr0_s = 0 ∨ w.heap.size ≤ gr0_s) ∧ Gr w w') := by
 unfold slices_Clone_3bad at hm
 refine calls_of_sw 8 Tryz.func182 rfl rfl rfl<|qs 1 rfl<|qm rfl<|sd_done<|sw_seq<|qs 2 rfl<|qm rfl ?_
 rcases rd_nilOr hp0 with ⟨ca2, hv2, hl2⟩ | ⟨aa2, ka2, ca2, hv2⟩
 · replace hm : (some []) = some r := by rw [hl2] at hm; exact hm
   refine qv rfl (vv_eqlNil Tryz.underlying46 rfl hv2)<|sd_done<|sw_condT rfl<|qs 1 rfl<|qm rfl<|qb ?_
   cases hm
   refine ⟨_, _, rfl, res_1 rfl (rv_tmp rfl), ?_⟩
   exact ⟨(.slice none 0 0), 0, 0, rfl, (own_nil _ 0 31 2), ⟨.inl rfl⟩, (Gr.refl w)⟩
 skip
 refine qv rfl (vv_eqlNil Tryz.underlying46 rfl hv2)<|sd_done<|sw_condF rfl<|qu<|qs 4 rfl<|qe rfl (ev_litT ([] : List TPoint) TPoint.cs bsl_46_0 rfl rfl (ws_of rfl) rfl rfl rfl) ?_
 rintro vw1 w1 ⟨gw1, hbw1, Ow1, G1⟩
 have z3 := G1.size
 refine qm rfl ?_
 have B5 := (hp0.gr G1)
 obtain ⟨l1, hl1, hm⟩ := bnd hm
 refine qe rfl (ev_appT (l := ([] : List TPoint)) (m := p0) (c := TPoint.cs) apt_46 rfl rfl Ow1 B5 hl1 (by decide)) ?_
 rintro vw2 w2 ⟨zw2, gw2, Ow2, Aw2, qw2, rw2⟩
 refine qm rfl<|sd_done<|sw_ret ?_
 have X7 := (((Gr.refl w).trans G1).ka Aw2 (tk1 ((.inr tk0) : 1 = 0 ∨ w.heap.size ≤ gw1)))
 cases hm
 refine ⟨_, _, rfl, res_1 rfl (rv_tmp rfl), ?_⟩
 exact ⟨vw2, zw2, gw2, rfl, Ow2, ⟨(pv_app (A := (fun x => w.heap.size ≤ x)) rw2 (.inr tk0))⟩, X7⟩
theorem poly_fits_w {p0 p1 p2 vp1_1 zp1_1 gp1_1 op1_1 vp2_0 zp2_0 gp2_0 op2_0 vp2_2 zp2_2 gp2_2 op2_2 r} (hm : poly_fits p0 p1 p2 = some r) {w : World} (hp1_1 : Rd w zp1_1 gp1_1 op1_1 18 vp1_1 (p1.Labels.map TLabel.cs)) (hp2_0 : Rd w zp2_0 gp2_0 op2_0 18 vp2_0 (p2.Items.map TItem.cs)) (hp2_2 : Rd w zp2_2 gp2_2 op2_2 2 vp2_2 (p2.Points.map TPoint.cs)) :
    Calls Tryz.prog 106 [.agg (TScheme.cs p0).toArray, .agg (TSecret.cs p1 vp1_1).toArray, .agg (THeader.cs p2 vp2_0 vp2_2).toArray].toArray w fun e w' => ∃ v, e = .returned v ∧ (v = .bool r ∧ Gr w w') := by
 unfold poly_fits at hm
 refine calls_of_sw 91 Tryz.func106 rfl rfl rfl<|qs 4 rfl<|qe rfl (ev_box (cs := TScheme.cs p0) rfl rfl) ?_
 rintro _ w1 ⟨b1, rfl, hbw1, Bw1, G1⟩
 have lt5 := Bw1.lt
 refine qe rfl (ev_box (cs := TSecret.cs p1 vp1_1) rfl rfl) ?_
 rintro _ w2 ⟨b2, rfl, hbw2, Bw2, G2⟩
 have lt7 := Bw2.lt
 refine qe rfl (ev_box (cs := THeader.cs p2 vp2_0 vp2_2) rfl rfl) ?_
 rintro _ w3 ⟨b3, rfl, hbw3, Bw3, G3⟩
 have lt9 := Bw3.lt
 refine qm rfl<|sd_done<|sw_scope ?_
 have Y1 := Gr.trans (Gr.trans G1 G2) G3
 have X10 := ((Gr.refl w).trans Y1)
 refine qj (β := Bool) ([7] ++ rg 10 30) (fun a1 => [(7, .bool a1)]) (fun a1 wr => (poly_fits_J1 p0 p1 p2 a1 = some r) ∧ Kz [] w3 wr) ?_ ?_
 · refine qg 31 rfl<|qv rfl (vv_fieldAddr fa_48_0 rfl)<|qv rfl (vv_load1 (v := vp2_0) one_45 rfl Bw3 rfl) ?_
   have B54 := (hp2_0.gr Y1)
   refine qv rfl (vv_lenT (l := p2.Items) (c := TItem.cs) Tryz.underlying45 rfl B54)<|qv rfl (vv_eql (a := (p2.Items.length : Int)) (b := 0) rfl rfl)<|qpF rfl (vv_move rfl) (fun c7 => ?_) (fun c7 => ?_)
   · replace hm := iF c7 hm
     refine qk rfl<|qk rfl<|qk rfl<|qm rfl<|qm rfl<|qk rfl<|qk rfl<|qk rfl<|qk rfl<|qk rfl<|qk rfl<|qm rfl<|qm rfl ?_
     refine qk rfl<|qk rfl<|qk rfl<|qk rfl<|qk rfl<|qk rfl<|qm rfl<|qm rfl<|qk rfl<|qk rfl<|qk rfl<|qm rfl<|qm rfl ?_
     refine sd_nil ?_
     exact ⟨rfl, false, sbq, hm, kz0⟩
   replace hm := iT c7 hm
   refine qv rfl (vv_fieldAddr fa_48_1 rfl)<|qv rfl (vv_load1 (v := wv p2.Base) one_24 rfl Bw3 rfl)<|qv rfl (vv_geqU (c := p2.Base) (d := 1#64) rfl rfl)<|qm rfl<|qpF rfl (vv_move rfl) (fun c8 => ?_) (fun c8 => ?_)
   · replace hm := iF c8 hm
     refine qk rfl<|qk rfl<|qk rfl<|qk rfl<|qk rfl<|qk rfl<|qm rfl<|qm rfl<|qk rfl<|qk rfl<|qk rfl<|qk rfl<|qk rfl ?_
     refine qk rfl<|qm rfl<|qm rfl<|qk rfl<|qk rfl<|qk rfl<|qm rfl<|qm rfl<|sd_nil ?_
     exact ⟨rfl, false, sbq, hm, kz0⟩
   replace hm := iT c8 hm
   refine qv rfl (vv_fieldAddr fa_48_1 rfl)<|qv rfl (vv_load1 (v := wv p2.Base) one_24 rfl Bw3 rfl)<|qv rfl (vv_fieldAddr fa_28_3 rfl)<|qv rfl (vv_fieldAddr fa_26_0 rfl) ?_
   have Y2 := Gr.trans G2 G3
   have B55 := (Bw1.gr Y2)
   refine qv rfl (vv_load1 (v := wv p0.Group.P) one_24 rfl B55 rfl)<|qv rfl (vv_lssU (c := p2.Base) (d := p0.Group.P) rfl rfl)<|qm rfl<|qpF rfl (vv_move rfl) (fun c9 => ?_) (fun c9 => ?_)
   · replace hm := iF c9 hm
     refine qk rfl<|qk rfl<|qk rfl<|qk rfl<|qk rfl<|qk rfl<|qm rfl<|qm rfl<|qk rfl<|qk rfl<|qk rfl<|qm rfl<|qm rfl ?_
     refine sd_nil ?_
     exact ⟨rfl, false, sbq, hm, kz0⟩
   replace hm := iT c9 hm
   refine qv rfl (vv_fieldAddr fa_48_2 rfl)<|qv rfl (vv_load1 (v := vp2_2) one_46 rfl Bw3 rfl) ?_
   have B56 := (hp2_2.gr Y1)
   refine qv rfl (vv_lenT (l := p2.Points) (c := TPoint.cs) Tryz.underlying46 rfl B56)<|qv rfl (vv_fieldAddr fa_28_2 rfl)<|qv rfl (vv_load1 (v := .int .i64 p0.Degree) one_3 rfl B55 rfl)<|qv rfl (vv_eql (a := (p2.Points.length : Int)) (b := p0.Degree) rfl rfl)<|qm rfl<|qpF rfl (vv_move rfl) (fun c10 => ?_) (fun c10 => ?_)
   · replace hm := iF c10 hm
     refine qk rfl<|qk rfl<|qk rfl<|qm rfl<|qm rfl<|sd_nil ?_
     exact ⟨rfl, false, sbq, hm, kz0⟩
   replace hm := iT c10 hm
   refine qv rfl (vv_fieldAddr fa_48_2 rfl)<|qv rfl (vv_load1 (v := vp2_2) one_46 rfl Bw3 rfl) ?_
   obtain ⟨x15, hx15, hm⟩ := bnd hm
   refine qe rfl (eC en_107 rfl (poly_distinct_w hx15 B56)) ?_
   rintro _ w17 ⟨rfl, G17⟩
   refine qm rfl<|qm rfl<|sd_nil ?_
   exact ⟨rfl, x15, sbq, hm, (kz0.gr G17)⟩
 clear hm; rintro a1 w4 ⟨hm, K4⟩
 have z11 := K4.size
 unfold poly_fits_J1 at hm
 refine sw_seq<|sw_label<|then_n ?_
 have X12 := (X10.kz K4)
 refine qj (β := Bool) ([7, 9] ++ rg 40 41) (fun a2 => [(7, .bool a2)]) (fun a2 wr => (poly_fits_J2 p0 p1 a2 = some r) ∧ Kz [] w4 wr) ?_ ?_
 · refine qj (β := List TPoint × Int × Value × Nat × Nat) (rg 40 11) (fun ⟨a3, a5, vy4, zy4, gy4⟩ => [(48, vy4), (49, .int .i64 a5), (50, .int .i64 0)]) (fun ⟨a3, a5, vy4, zy4, gy4⟩ wr => (poly_fits_J3 p0 p1 a1 a3 a5 = some r) ∧ Own wr zy4 gy4 31 2 vy4 (a3.map TPoint.cs) ∧ Hdn (zy4 = 0 ∨ w4.heap.size ≤ gy4) ∧ Kz [] w4 wr) ?_ ?_
   · refine dw [([])] [] (.fork [(0,10),(1,10),(3,10),(4,10),(5,10),(6,10),(10,10)] (.leaf [(2,0),(7,0),(8,0),(9,0)]) (.leaf [(7,0),(2,0),(8,0),(9,0)])) ?_
     intro w10 G10 zw10
     refine sdz_fork<|dh 0 rfl rfl (fun w hS => vv_fieldAddr fa_48_2 rfl) ?_
     have B36 := ((Bw3.kz K4).gr G10)
     refine dh 0 rfl rfl (fun w hS => vv_load1 (v := vp2_2) one_46 rfl (Bx.kp B36 hS) rfl)<|dh 0 rfl rfl (fun w hS => vv_fieldAddr fa_33_2 rfl)<|dh 0 rfl rfl (fun w hS => vv_fieldAddr fa_31_0 rfl) ?_
     have B37 := (((Bw2.gr G3).kz K4).gr G10)
     refine dh 0 rfl rfl (fun w hS => vv_load1 (v := wv p1.Share.X) one_24 rfl (Bx.kp B37 hS) rfl)<|dh 0 rfl rfl (fun w hS => vv_build (cs := TPoint.cs (TPoint.mk p1.Share.X 1#64)) bs_31 rfl rfl)<|dm 0 rfl rfl<|sd_fork ?_ ?_
     · refine sdz_leaf ?_
       have B38 := (((hp2_2.gr Y1).kz K4).gr G10)
       obtain ⟨x11, hx11, hm⟩ := bnd hm
       refine qz [] rfl (eC en_182 rfl (slices_Clone_3bad_w hx11 B38)) ⟨fun _ => tk0, trivial⟩ ?_
       rintro u11_r0_s w11 ⟨_, z11_r0_s, g11_r0_s, rfl, O11_r0_s, f11_r0_s, G11⟩
       have z39 := G11.size
       refine kG G11<|qz [] rfl (ev_litT [(TPoint.mk p1.Share.X 1#64)] TPoint.cs bsl_46_1 rfl rfl (ws_of rfl) rfl rfl rfl) ⟨fun _ => tk0, trivial⟩ ?_
       rintro vw12 w12 ⟨gw12, hbw12, Ow12, G12⟩
       have z41 := G12.size
       refine kG G12 ?_
       have B43 := (O11_r0_s.gr G12)
       obtain ⟨l12, hl12, hm⟩ := bnd hm
       refine qz [(z11_r0_s, g11_r0_s)] rfl (ev_appT (l := x11) (m := [(TPoint.mk p1.Share.X 1#64)]) (c := TPoint.cs) apt_46 rfl rfl B43 (Own.rd Ow12) hl12 (by decide)) ⟨fun _ => (tk1 (pv_0 (A := (fun x => w10.heap.size ≤ x)) f11_r0_s)), trivial⟩ ?_
       rintro vw13 w13 ⟨zw13, gw13, Ow13, Aw13, qw13, rw13⟩
       refine ⟨Kz.ofKa Aw13, ?_⟩
       refine qw rfl (vv_lenT (l := l12) (c := TPoint.cs) Tryz.underlying46 rfl (Own.rd Ow13))<|sd_nil ?_
       exact ⟨rfl, ⟨l12, (l12.length : Int), vw13, zw13, gw13⟩, sbq, hm, Ow13, ⟨(pv_app (A := (fun x => w4.heap.size ≤ x)) rw13 (pv_0 (A := (fun x => w4.heap.size ≤ x)) f11_r0_s))⟩, ((((kz0.gr G10).gr G11).gr G12).ka Aw13 (tk1 (pv_0 (A := (fun x => w4.heap.size ≤ x)) f11_r0_s)))⟩
     refine sdz_leaf<|qz [] rfl (ev_litT [(TPoint.mk p1.Share.X 1#64)] TPoint.cs bsl_46_1 rfl rfl (ws_of rfl) rfl rfl rfl) ⟨fun _ => tk0, trivial⟩ ?_
     rintro vw14 w14 ⟨gw14, hbw14, Ow14, G14⟩
     have z46 := G14.size
     refine kG G14 ?_
     have B48 := ((((hp2_2.gr Y1).kz K4).gr G10).gr G14)
     obtain ⟨x13, hx13, hm⟩ := bnd hm
     refine qz [] rfl (eC en_182 rfl (slices_Clone_3bad_w hx13 B48)) ⟨fun _ => tk0, trivial⟩ ?_
     rintro u15_r0_s w15 ⟨_, z15_r0_s, g15_r0_s, rfl, O15_r0_s, f15_r0_s, G15⟩
     have z49 := G15.size
     refine kG G15 ?_
     have B51 := (Ow14.gr G15)
     obtain ⟨l14, hl14, hm⟩ := bnd hm
     refine qz [(z15_r0_s, g15_r0_s)] rfl (ev_appT (l := x13) (m := [(TPoint.mk p1.Share.X 1#64)]) (c := TPoint.cs) apt_46 rfl rfl O15_r0_s (Own.rd B51) hl14 (by decide)) ⟨fun _ => (tk1 (pv_0 (A := (fun x => w10.heap.size ≤ x)) f15_r0_s)), trivial⟩ ?_
     rintro vw16 w16 ⟨zw16, gw16, Ow16, Aw16, qw16, rw16⟩
     refine ⟨Kz.ofKa Aw16, ?_⟩
     refine qw rfl (vv_lenT (l := l14) (c := TPoint.cs) Tryz.underlying46 rfl (Own.rd Ow16))<|sd_nil ?_
     exact ⟨rfl, ⟨l14, (l14.length : Int), vw16, zw16, gw16⟩, sbq, hm, Ow16, ⟨(pv_app (A := (fun x => w4.heap.size ≤ x)) rw16 (pv_0 (A := (fun x => w4.heap.size ≤ x)) f15_r0_s))⟩, ((((kz0.gr G10).gr G14).gr G15).ka Aw16 (tk1 (pv_0 (A := (fun x => w4.heap.size ≤ x)) f15_r0_s)))⟩
   clear hm; rintro ⟨a3, a5, vy4, zy4, gy4⟩ w6 ⟨hm, Fw6_0, Fw6_1, K6⟩
   have z18 := K6.size
   unfold poly_fits_J3 at hm
   refine sw_block ?_
   refine sw_loopD (α := Nat × Bool × Int) ([7, 9] ++ rg 50 31) (fun ⟨n4, a8, a9⟩ => [(7, .bool a8), (50, .int .i64 a9)]) (fun ⟨n4, a8, a9⟩ wr => (fixN (poly_fits_L4 p0 p1 a3 a5) n4 (a8, a9) = some r) ∧ Kz [] w6 wr) (fun ⟨n4, a8, a9⟩ => n4) ⟨FUEL, a1, 0⟩ ?_ ?_ ?_
   · exact sbq
   · exact ⟨hm, Kz.refl _ _⟩
   clear hm; rintro ⟨n4, a8, a9⟩ w7 ⟨hm, K7⟩
   have z24 := K7.size
   have hb := fix_succ hm; clear hm; obtain ⟨n4, rfl, hm⟩ := hb
   generalize hrec4 : fixN (poly_fits_L4 p0 p1 a3 a5) n4 = rec4 at hm
   unfold poly_fits_L4 at hm
   try dsimp only at hm
   refine qs 1 rfl<|qv rfl (vv_lss (a := a9) (b := a5) rfl rfl)<|sd_done<|sw_seq<|cnF rfl (fun c2 => ?_) (fun c2 => ?_)
   · replace hm := iF c2 hm
     refine sw_exit<|then_x<|then_x<|block_x ?_
     exact ⟨rfl, a8, sbq, hm, ((kz0.kz K6).kz K7)⟩
   replace hm := iT c2 hm
   refine qu<|sw_seq<|sw_block<|qs 4 rfl ?_
   obtain ⟨y10, hy10, hm⟩ := bnd hm
   have B25 := (Fw6_0.kz K7)
   refine qv rfl (vv_ixT (i := a9) Tryz.underlying46 (agg_31).siz rfl (Own.rd B25) rfl hy10)<|qv rfl (vv_elWT agg_31 rfl (Own.rd B25) hy10 (by first | rfl | omega))<|qe rfl (ev_alloc (cs := TPoint.cs (TPoint.mk 0#64 0#64)) zv_31 rfl) ?_
   rintro _ w8 ⟨b8, rfl, hbw8, Bw8, G8⟩
   refine qe rfl (ev_stW agg_31 rfl rfl rfl Bw8 rfl rfl) ?_
   rintro _ w9 ⟨Bw9, M9⟩
   refine sd_done<|sw_seq<|qs 2 rfl<|qm rfl<|qv rfl (vv_not rfl)<|sd_done<|sw_cond rfl (fun c3 => ?_) (fun c3 => ?_)
   · replace hm := cnd_t c3 hm
     refine sw_exit<|then_x<|block_o rfl<|then_x<|then_x<|block_x ?_
     exact ⟨rfl, a8, sbq, hm, ((((kz0.kz K6).kz K7).gr G8).md M9)⟩
   replace hm := cnd_f c3 hm
   refine qu<|qg 25 rfl<|qv rfl (vv_fieldAddr fa_31_0 rfl)<|qv rfl (vv_load1 (v := wv y10.X) one_24 rfl Bw9 rfl)<|qv rfl (vv_geqU (c := y10.X) (d := 1#64) rfl rfl)<|qpF rfl (vv_move rfl) (fun c4 => ?_) (fun c4 => ?_)
   · replace hm := iF c4 hm
     refine qk rfl<|qk rfl<|qk rfl<|qk rfl<|qk rfl<|qk rfl<|qm rfl<|qm rfl<|qk rfl<|qk rfl<|qk rfl<|qm rfl<|qm rfl ?_
     refine qk rfl<|qk rfl<|qk rfl<|qk rfl<|qk rfl<|qk rfl<|qm rfl<|qm rfl<|sd_nil<|block_n<|then_n<|qg 2 rfl<|qv rfl (vv_add (k := .i64) (a := a9) (b := 1) rfl rfl) ?_
     refine qm rfl<|sd_nil ?_
     have K_34 : Kz [] w6 w9 := ((K7.gr G8).md M9)
     subst hrec4
     exact ⟨rfl, ⟨n4, false, w64 (a9 + 1)⟩, sbq, ⟨hm, K_34⟩, Nat.lt_succ_self _⟩
   replace hm := iT c4 hm
   refine qv rfl (vv_fieldAddr fa_31_0 rfl)<|qv rfl (vv_load1 (v := wv y10.X) one_24 rfl Bw9 rfl)<|qv rfl (vv_fieldAddr fa_28_3 rfl)<|qv rfl (vv_fieldAddr fa_26_1 rfl) ?_
   have Y3 := Gr.trans G2 G3
   have B30 := ((((((Bw1.gr Y3).kz K4).kz K6).kz K7).gr G8).md M9)
   refine qv rfl (vv_load1 (v := wv p0.Group.Q) one_24 rfl B30 rfl)<|qv rfl (vv_lssU (c := y10.X) (d := p0.Group.Q) rfl rfl)<|qm rfl<|qpF rfl (vv_move rfl) (fun c5 => ?_) (fun c5 => ?_)
   · replace hm := iF c5 hm
     refine qk rfl<|qk rfl<|qk rfl<|qm rfl<|qm rfl<|qk rfl<|qk rfl<|qk rfl<|qk rfl<|qk rfl<|qk rfl<|qm rfl<|qm rfl ?_
     refine sd_nil<|block_n<|then_n<|qg 2 rfl<|qv rfl (vv_add (k := .i64) (a := a9) (b := 1) rfl rfl)<|qm rfl<|sd_nil ?_
     have K_33 : Kz [] w6 w9 := ((K7.gr G8).md M9)
     subst hrec4
     exact ⟨rfl, ⟨n4, false, w64 (a9 + 1)⟩, sbq, ⟨hm, K_33⟩, Nat.lt_succ_self _⟩
   replace hm := iT c5 hm
   refine qv rfl (vv_fieldAddr fa_31_1 rfl)<|qv rfl (vv_load1 (v := wv y10.Y) one_24 rfl Bw9 rfl)<|qv rfl (vv_geqU (c := y10.Y) (d := 1#64) rfl rfl)<|qm rfl<|qpF rfl (vv_move rfl) (fun c6 => ?_) (fun c6 => ?_)
   · replace hm := iF c6 hm
     refine qk rfl<|qk rfl<|qk rfl<|qk rfl<|qk rfl<|qk rfl<|qm rfl<|qm rfl<|sd_nil<|block_n<|then_n<|qg 2 rfl<|qv rfl (vv_add (k := .i64) (a := a9) (b := 1) rfl rfl) ?_
     refine qm rfl<|sd_nil ?_
     have K_32 : Kz [] w6 w9 := ((K7.gr G8).md M9)
     subst hrec4
     exact ⟨rfl, ⟨n4, false, w64 (a9 + 1)⟩, sbq, ⟨hm, K_32⟩, Nat.lt_succ_self _⟩
   replace hm := iT c6 hm
   refine qv rfl (vv_fieldAddr fa_31_1 rfl)<|qv rfl (vv_load1 (v := wv y10.Y) one_24 rfl Bw9 rfl)<|qv rfl (vv_fieldAddr fa_28_3 rfl)<|qv rfl (vv_fieldAddr fa_26_0 rfl)<|qv rfl (vv_load1 (v := wv p0.Group.P) one_24 rfl B30 rfl)<|qv rfl (vv_lssU (c := y10.Y) (d := p0.Group.P) rfl rfl)<|qm rfl<|qm rfl<|sd_nil<|block_n<|then_n<|qg 2 rfl<|qv rfl (vv_add (k := .i64) (a := a9) (b := 1) rfl rfl) ?_
   refine qm rfl<|sd_nil ?_
   have K_31 : Kz [] w6 w9 := ((K7.gr G8).md M9)
   subst hrec4
   exact ⟨rfl, ⟨n4, decide (y10.Y < p0.Group.P), w64 (a9 + 1)⟩, sbq, ⟨hm, K_31⟩, Nat.lt_succ_self _⟩
 clear hm; rintro a2 w5 ⟨hm, K5⟩
 unfold poly_fits_J2 at hm
 refine qs 11 rfl<|qm rfl<|qpF rfl (vv_move rfl) (fun c1 => ?_) (fun c1 => ?_)
 · replace hm := cnd_f c1 hm
   refine qk rfl<|qk rfl<|qk rfl<|qk rfl<|qk rfl<|qk rfl<|qk rfl<|qm rfl<|qm rfl<|sd_done<|sw_ret<|scope_r ?_
   have X17 := (X12.kz K5)
   cases hm
   refine ⟨_, _, rfl, res_1 rfl (rv_tmp rfl), ?_⟩
   exact ⟨rfl, X17⟩
 replace hm := cnd_t c1 hm
 refine qv rfl (vv_fieldAddr fa_33_2 rfl)<|qv rfl (vv_fieldAddr fa_31_1 rfl) ?_
 have B14 := (((Bw2.gr G3).kz K4).kz K5)
 refine qv rfl (vv_load1 (v := wv p1.Share.Y) one_24 rfl B14 rfl)<|qv rfl (vv_fieldAddr fa_28_3 rfl)<|qv rfl (vv_fieldAddr fa_26_1 rfl) ?_
 have Y4 := Gr.trans G2 G3
 have B15 := (((Bw1.gr Y4).kz K4).kz K5)
 refine qv rfl (vv_load1 (v := wv p0.Group.Q) one_24 rfl B15 rfl)<|qv rfl (vv_lssU (c := p1.Share.Y) (d := p0.Group.Q) rfl rfl)<|qm rfl<|qm rfl<|sd_done<|sw_ret<|scope_r ?_
 have X16 := (X12.kz K5)
 cases hm
 refine ⟨_, _, rfl, res_1 rfl (rv_tmp rfl), ?_⟩
 exact ⟨rfl, X16⟩
theorem poly_field_sub_w {p0 p1 p2 r} (hm : poly_field_sub p0 p1 p2 = some r) {w : World} :
    Calls Tryz.prog 109 [wv p0, wv p1, wv p2].toArray w fun e w' => ∃ v, e = .returned v ∧ (v = wv r ∧ Gr w w') := by
 unfold poly_field_sub at hm
 refine calls_of_sw 14 Tryz.func109 rfl rfl rfl<|qs 1 rfl<|qm rfl<|qd 8 rfl<|qm rfl<|qm rfl<|qv rfl (vv_uadd (a := p1) (b := p0) rfl rfl)<|qm rfl<|qv rfl (vv_usub (a := p1 + p0) (b := p2) rfl rfl)<|qm rfl ?_
 obtain ⟨x1, hx1, hm⟩ := bnd hm
 refine qv rfl (vv_remU (c := (p1 + p0) - p2) (d := p0) rfl rfl hx1)<|qm rfl<|sd_done<|sw_ret ?_
 cases hm
 refine ⟨_, _, rfl, res_1 rfl (rv_tmp rfl), ?_⟩
 exact ⟨rfl, (Gr.refl w)⟩
theorem number_InvMod_w {p0 p1 r} (hm : number_InvMod p0 p1 = some r) {w : World} :
    Calls Tryz.prog 185 [wv p0, wv p1].toArray w fun e w' => ∃ v, e = .returned v ∧ (v = .tuple [wv r.1, .int .i64 r.2].toArray ∧ Gr w w') := by
 unfold number_InvMod at hm
 refine calls_of_sw 50 Tryz.func185 rfl rfl rfl<|qs 2 rfl<|qm rfl<|qm rfl<|sd_done<|sw_seq<|qs 3 rfl<|qm rfl ?_
 obtain ⟨x1, hx1, hm⟩ := bnd hm
 refine qe rfl (eC en_236 rfl (number_modulus_w hx1)) ?_
 rintro _ w1 ⟨rfl, G1⟩
 refine qv rfl (vv_not rfl)<|sd_done<|sw_cond rfl (fun c1 => ?_) (fun c1 => ?_)
 · replace hm := cnd_t c1 hm
   refine qs 2 rfl<|qm rfl<|qm rfl<|qb ?_
   have X2 := ((Gr.refl w).trans G1)
   cases hm
   refine ⟨_, _, rfl, res_2 rfl (rv_tmp rfl) (rv_tmp rfl), ?_⟩
   exact ⟨rfl, X2⟩
 replace hm := cnd_f c1 hm
 refine qu<|sw_seq<|dw [([])] [] (.leaf [(0,10),(1,10),(2,10),(3,10),(4,10),(5,10),(6,10),(7,10)]) ?_
 intro w2 G2 zw2
 refine sdz_leaf<|dm 0 rfl rfl<|dh 0 rfl rfl (fun w hS => vv_cvUI cv_24_2 rfl)<|dm 0 rfl rfl<|dm 0 rfl rfl ?_
 obtain ⟨x2, hx2, hm⟩ := bnd hm
 refine dh 0 rfl rfl (fun w hS => vv_remU (c := p0) (d := p1) rfl rfl hx2)<|dh 0 rfl rfl (fun w hS => vv_cvUI cv_24_2 rfl)<|dm 0 rfl rfl<|dm 0 rfl rfl<|qd 2 rfl<|qm rfl<|qm rfl<|sd_done<|sw_seq<|sw_block ?_
 have X3 := (((Gr.refl w).trans G1).trans G2)
 refine sw_loopD (α := Nat × Int × Int × Int × Int) (rg 6 5 ++ rg 20 17) (fun ⟨n1, a7, a8, a9, a10⟩ => [(6, .int .i64 a7), (7, .int .i64 a8), (8, .int .i64 a9), (9, .int .i64 a10)]) (fun ⟨n1, a7, a8, a9, a10⟩ wr => (fixN (number_InvMod_L1 p1) n1 (a7, a8, a9, a10) = some r) ∧ Kz [] w2 wr) (fun ⟨n1, a7, a8, a9, a10⟩ => n1) ⟨FUEL, w64 (un p1), w64 (un x2), 0, 1⟩ ?_ ?_ ?_
 · exact sbq
 · exact ⟨hm, Kz.refl _ _⟩
 clear hm; rintro ⟨n1, a7, a8, a9, a10⟩ w3 ⟨hm, K3⟩
 have hb := fix_succ hm; clear hm; obtain ⟨n1, rfl, hm⟩ := hb
 generalize hrec1 : fixN (number_InvMod_L1 p1) n1 = rec1 at hm
 unfold number_InvMod_L1 at hm
 try dsimp only at hm
 refine sw_seq<|qs 2 rfl<|qm rfl<|qv rfl (vv_neq (a := a8) (b := 0) rfl rfl)<|sd_done<|sw_cond rfl (fun c2 => ?_) (fun c2 => ?_)
 · replace hm := iT c2 hm
   refine qu<|sw_block<|qs 4 rfl<|qm rfl<|qm rfl ?_
   obtain ⟨x11, hx11, hm⟩ := bnd hm
   refine qv rfl (vv_quoI (a := a7) (b := a8) rfl rfl hx11)<|qm rfl<|qd 8 rfl<|qm rfl<|qm rfl<|qm rfl<|qm rfl<|qv rfl (vv_mul (k := .i64) (a := x11) (b := a8) rfl rfl)<|qv rfl (vv_sub (k := .i64) (a := a7) (b := w64 (x11 * a8)) rfl rfl)<|qm rfl<|qm rfl ?_
   refine sd_done<|qg 8 rfl<|qm rfl<|qm rfl<|qm rfl<|qm rfl<|qv rfl (vv_mul (k := .i64) (a := x11) (b := a10) rfl rfl)<|qv rfl (vv_sub (k := .i64) (a := a9) (b := w64 (x11 * a10)) rfl rfl)<|qm rfl<|qm rfl<|sd_nil<|block_n ?_
   have K_5 : Kz [] w2 w3 := K3
   subst hrec1
   exact ⟨rfl, ⟨n1, a8, w64 (a7 - (w64 (x11 * a8))), a10, w64 (a9 - (w64 (x11 * a10)))⟩, sbq, ⟨hm, K_5⟩, Nat.lt_succ_self _⟩
 replace hm := iF c2 hm
 refine sw_exit<|then_x<|then_x<|block_x<|then_n<|sw_seq<|qs 2 rfl<|qm rfl<|qv rfl (vv_neq (a := a7) (b := 1) rfl rfl)<|sd_done<|sw_cond rfl (fun c3 => ?_) (fun c3 => ?_)
 · replace hm := iT c3 hm
   refine qs 2 rfl<|qm rfl<|qm rfl<|qb ?_
   have X6 := (X3.kz K3)
   cases hm
   refine ⟨_, _, rfl, res_2 rfl (rv_tmp rfl) (rv_tmp rfl), ?_⟩
   exact ⟨rfl, X6⟩
 replace hm := iF c3 hm
 refine qu<|qs 13 rfl<|qm rfl<|qm rfl<|qv rfl (vv_cvUI cv_24_2 rfl) ?_
 obtain ⟨x12, hx12, hm⟩ := bnd hm
 refine qv rfl (vv_remI (a := a9) (b := w64 (un p1)) rfl rfl hx12)<|qm rfl<|qv rfl (vv_cvUI cv_24_2 rfl)<|qv rfl (vv_add (k := .i64) (a := x12) (b := w64 (un p1)) rfl rfl)<|qm rfl<|qv rfl (vv_cvUI cv_24_2 rfl) ?_
 obtain ⟨x13, hx13, hm⟩ := bnd hm
 refine qv rfl (vv_remI (a := w64 (x12 + (w64 (un p1)))) (b := w64 (un p1)) rfl rfl hx13)<|qv rfl (vv_cvIU cv_2_24 rfl)<|qm rfl<|qm rfl<|sd_done<|sw_ret ?_
 have X7 := (X3.kz K3)
 cases hm
 refine ⟨_, _, rfl, res_2 rfl (rv_tmp rfl) (rv_tmp rfl), ?_⟩
 exact ⟨rfl, X7⟩
theorem poly_field_div_w {p0 p1 p2 r} (hm : poly_field_div p0 p1 p2 = some r) {w : World} :
    Calls Tryz.prog 110 [wv p0, wv p1, wv p2].toArray w fun e w' => ∃ v, e = .returned v ∧ (v = wv r ∧ Gr w w') := by
 unfold poly_field_div at hm
 refine calls_of_sw 20 Tryz.func110 rfl rfl rfl<|qs 1 rfl<|qm rfl<|qd 8 rfl<|qm rfl<|qm rfl ?_
 obtain ⟨x1, hx1, hm⟩ := bnd hm
 refine qe rfl (eC en_185 rfl (number_InvMod_w hx1)) ?_
 rintro _ w1 ⟨rfl, G1⟩
 refine qm rfl<|qm rfl<|qm rfl<|qm rfl<|qm rfl<|qd 6 rfl<|qm rfl<|qm rfl<|qm rfl<|qe rfl (ev_litT [p1, x1.1] uwc bsl_160_2 rfl rfl (ws_of rfl) rfl rfl rfl) ?_
 rintro vw2 w2 ⟨gw2, hbw2, Ow2, G2⟩
 obtain ⟨x2, hx2, hm⟩ := bnd hm
 refine qe rfl (eC en_108 rfl (poly_field_mul_w hx2 (Own.rd Ow2))) ?_
 rintro _ w3 ⟨rfl, G3⟩
 refine qm rfl<|sd_done<|sw_ret ?_
 have X5 := ((((Gr.refl w).trans G1).trans G2).trans G3)
 cases hm
 refine ⟨_, _, rfl, res_1 rfl (rv_tmp rfl), ?_⟩
 exact ⟨rfl, X5⟩
theorem poly_Open_w {p0 p1 p2 vp1_1 zp1_1 gp1_1 op1_1 vp2_0 zp2_0 gp2_0 op2_0 vp2_2 zp2_2 gp2_2 op2_2 r} (hm : poly_Open p0 p1 p2 = some r) {w : World} (hp1_1 : Rd w zp1_1 gp1_1 op1_1 18 vp1_1 (p1.Labels.map TLabel.cs)) (hp2_0 : Rd w zp2_0 gp2_0 op2_0 18 vp2_0 (p2.Items.map TItem.cs)) (hp2_2 : Rd w zp2_2 gp2_2 op2_2 2 vp2_2 (p2.Points.map TPoint.cs)) :
    Calls Tryz.prog 50 [.agg (TScheme.cs p0).toArray, .agg (TSecret.cs p1 vp1_1).toArray, .agg (THeader.cs p2 vp2_0 vp2_2).toArray].toArray w fun e w' => ∃ v, e = .returned v ∧ (v = .tuple [kv r.1, .int .i64 r.2].toArray ∧ Gr w w') := by
 have lt1 := hp1_1.lth
 have lt2 := hp2_0.lth
 have lt3 := hp2_2.lth
 unfold poly_Open at hm
 refine calls_of_sw 111 Tryz.func50 rfl rfl rfl<|qs 5 rfl<|qe rfl (ev_box (cs := TScheme.cs p0) rfl rfl) ?_
 rintro _ w1 ⟨b1, rfl, hbw1, Bw1, G1⟩
 have lt5 := Bw1.lt
 refine qe rfl (ev_box (cs := TSecret.cs p1 vp1_1) rfl rfl) ?_
 rintro _ w2 ⟨b2, rfl, hbw2, Bw2, G2⟩
 have lt7 := Bw2.lt
 refine qe rfl (ev_box (cs := THeader.cs p2 vp2_0 vp2_2) rfl rfl) ?_
 rintro _ w3 ⟨b3, rfl, hbw3, Bw3, G3⟩
 have lt9 := Bw3.lt
 refine qe rfl (ev_alloc (cs := kb k0) zv_23 rfl) ?_
 rintro _ w4 ⟨b4, rfl, hbw4, Bw4, G4⟩
 have lt11 := Bw4.lt
 refine qm rfl<|sd_done<|sw_seq<|qs 3 rfl ?_
 have Y1 := Gr.trans (Gr.trans G2 G3) G4
 have B12 := (Bw1.gr Y1)
 refine qv rfl (vv_loadW agg_28 rfl B12 rfl) ?_
 obtain ⟨x1, hx1, hm⟩ := bnd hm
 refine qe rfl (eC en_98 rfl (poly_valid_w hx1)) ?_
 rintro _ w5 ⟨rfl, G5⟩
 have z13 := G5.size
 refine qv rfl (vv_not rfl)<|sd_done<|sw_cond rfl (fun c1 => ?_) (fun c1 => ?_)
 · replace hm := cnd_t c1 hm
   refine qs 3 rfl<|qv rfl (vv_buildZ bz_23) ?_
   have B14 := (Bw4.gr G5)
   refine qe rfl (ev_stW agg_23 rfl rfl rfl B14 rfl rfl) ?_
   rintro _ w6 ⟨Bw6, M6⟩
   refine qm rfl<|qb ?_
   have Y2 := Gr.trans (Gr.trans G1 Y1) G5
   have X16 := (((Gr.refl w).trans Y2).md M6)
   cases hm
   refine ⟨_, _, rfl, res_2 rfl (rv_cellW agg_23 rfl Bw6 rfl) (rv_tmp rfl), ?_⟩
   exact ⟨rfl, X16⟩
 replace hm := cnd_f c1 hm
 refine qu<|sw_seq<|qs 5 rfl ?_
 have B17 := (B12.gr G5)
 refine qv rfl (vv_loadW agg_28 rfl B17 rfl) ?_
 have Y3 := Gr.trans (Gr.trans G3 G4) G5
 have B18 := (Bw2.gr Y3)
 refine qv rfl (vv_loadW agg_33 rfl B18 rfl) ?_
 have Y4 := Gr.trans G4 G5
 have B19 := (Bw3.gr Y4)
 refine qv rfl (vv_loadW agg_48 rfl B19 rfl) ?_
 have Y5 := Gr.trans (Gr.trans G1 Y1) G5
 have B20 := (hp1_1.gr Y5)
 have B21 := (hp2_0.gr Y5)
 have B22 := (hp2_2.gr Y5)
 obtain ⟨x2, hx2, hm⟩ := bnd hm
 refine qe rfl (eC en_106 rfl (poly_fits_w hx2 B20 B21 B22)) ?_
 rintro _ w7 ⟨rfl, G7⟩
 have z23 := G7.size
 refine qv rfl (vv_not rfl)<|sd_done<|sw_cond rfl (fun c2 => ?_) (fun c2 => ?_)
 · replace hm := cnd_t c2 hm
   refine qs 3 rfl<|qv rfl (vv_buildZ bz_23) ?_
   have Y6 := Gr.trans G5 G7
   have B24 := (Bw4.gr Y6)
   refine qe rfl (ev_stW agg_23 rfl rfl rfl B24 rfl rfl) ?_
   rintro _ w8 ⟨Bw8, M8⟩
   refine qm rfl<|qb ?_
   have X26 := ((((Gr.refl w).trans Y5).trans G7).md M8)
   cases hm
   refine ⟨_, _, rfl, res_2 rfl (rv_cellW agg_23 rfl Bw8 rfl) (rv_tmp rfl), ?_⟩
   exact ⟨rfl, X26⟩
 replace hm := cnd_f c2 hm
 refine qu<|sw_seq<|dw [([])] [] (.leaf [(0,10),(1,10),(2,10),(3,10),(4,10),(5,10),(6,10),(7,10),(8,10),(12,10),(13,10),(9,0),(10,10),(11,0),(14,0),(15,10)]) ?_
 intro w9 G9 zw9
 refine sdz_leaf<|dh 0 rfl rfl (fun w hS => vv_fieldAddr fa_33_2 rfl)<|dh 0 rfl rfl (fun w hS => vv_fieldAddr fa_31_0 rfl) ?_
 have Y7 := Gr.trans G7 G9
 have B27 := (B18.gr Y7)
 refine dh 0 rfl rfl (fun w hS => vv_load1 (v := wv p1.Share.X) one_24 rfl (Bx.kp B27 hS) rfl) ?_
 have B28 := (B17.gr Y7)
 refine dh 0 rfl rfl (fun w hS => vv_loadW agg_28 rfl (Bx.kp B28 hS) rfl)<|dh 0 rfl rfl (fun w hS => vv_fieldAddr fa_48_1 rfl) ?_
 have B29 := (B19.gr Y7)
 refine dh 0 rfl rfl (fun w hS => vv_load1 (v := wv p2.Base) one_24 rfl (Bx.kp B29 hS) rfl)<|dh 0 rfl rfl (fun w hS => vv_fieldAddr fa_33_2 rfl)<|dh 0 rfl rfl (fun w hS => vv_fieldAddr fa_31_1 rfl)<|dh 0 rfl rfl (fun w hS => vv_load1 (v := wv p1.Share.Y) one_24 rfl (Bx.kp B27 hS) rfl)<|dh 0 rfl rfl (fun w hS => vv_fieldAddr fa_48_2 rfl)<|dh 0 rfl rfl (fun w hS => vv_load1 (v := vp2_2) one_46 rfl (Bx.kp B29 hS) rfl) ?_
 obtain ⟨x3, hx3, hm⟩ := bnd hm
 refine qz [] rfl (eC en_101 rfl (poly_power_w hx3)) ⟨fun _ => tk0, trivial⟩ ?_
 rintro _ w10 ⟨rfl, G10⟩
 have z30 := G10.size
 refine kG G10 ?_
 have S31 := ((Kp.refl ([]) w9).gr G10)
 refine qh 0 rfl rfl S31 (fun w hS => vv_build (cs := TPoint.cs (TPoint.mk p1.Share.X x3)) bs_31 rfl rfl)<|qz [] rfl (ev_litT [(TPoint.mk p1.Share.X x3)] TPoint.cs bsl_46_1 rfl rfl (ws_of rfl) rfl rfl rfl) ⟨fun _ => tk0, trivial⟩ ?_
 rintro vw11 w11 ⟨gw11, hbw11, Ow11, G11⟩
 have z32 := G11.size
 refine kG G11 ?_
 have Y8 := Gr.trans (Gr.trans Y7 G10) G11
 have B34 := (B22.gr Y8)
 obtain ⟨l4, hl4, hm⟩ := bnd hm
 refine qz [(1, gw11)] rfl (ev_appT (l := [(TPoint.mk p1.Share.X x3)]) (m := p2.Points) (c := TPoint.cs) apt_46 rfl rfl Ow11 B34 hl4 (by decide)) ⟨fun _ => (tk1 ((.inr tk0) : 1 = 0 ∨ w9.heap.size ≤ gw11)), trivial⟩ ?_
 rintro vw12 w12 ⟨zw12, gw12, Ow12, Aw12, qw12, rw12⟩
 have z35 := Aw12.size
 refine ⟨Kz.ofKa Aw12, ?_⟩
 have S36 := ((S31.gr G11).ka Aw12 (tk1 ((.inr tk0) : 1 = 0 ∨ w9.heap.size ≤ gw11)))
 refine dn 0 rfl rfl S36<|sd_done<|sw_seq<|qs 3 rfl<|qm rfl ?_
 obtain ⟨x5, hx5, hm⟩ := bnd hm
 refine qe rfl (eC en_107 rfl (poly_distinct_w hx5 (Own.rd Ow12))) ?_
 rintro _ w13 ⟨rfl, G13⟩
 have z37 := G13.size
 refine qv rfl (vv_not rfl)<|sd_done<|sw_cond rfl (fun c3 => ?_) (fun c3 => ?_)
 · replace hm := cnd_t c3 hm
   refine qs 3 rfl<|qv rfl (vv_buildZ bz_23) ?_
   have Y9 := Gr.trans G5 Y8
   have B38 := (((Bw4.gr Y9).ka Aw12 (tk1 ((.inr tk0) : 1 = 0 ∨ gw11 ≠ b4))).gr G13)
   refine qe rfl (ev_stW agg_23 rfl rfl rfl B38 rfl rfl) ?_
   rintro _ w14 ⟨Bw14, M14⟩
   refine qm rfl<|qb ?_
   have X40 := ((((((Gr.refl w).trans Y5).trans Y8).ka Aw12 (tk1 ((.inr tk0) : 1 = 0 ∨ w.heap.size ≤ gw11))).trans G13).md M14)
   cases hm
   refine ⟨_, _, rfl, res_2 rfl (rv_cellW agg_23 rfl Bw14 rfl) (rv_tmp rfl), ?_⟩
   exact ⟨rfl, X40⟩
 replace hm := cnd_f c3 hm
 refine qu<|qs 5 rfl<|qv rfl (vv_fieldAddr fa_28_3 rfl)<|qv rfl (vv_fieldAddr fa_26_1 rfl) ?_
 have Y10 := Gr.trans G10 G11
 have B41 := (((B28.gr Y10).ka Aw12 (tk1 ((.inr tk0) : 1 = 0 ∨ gw11 ≠ b1))).gr G13)
 refine qv rfl (vv_load1 (v := wv p0.Group.Q) one_24 rfl B41 rfl)<|qm rfl<|qm rfl<|sd_done<|sw_seq<|qs 3 rfl<|qm rfl ?_
 have B42 := (Ow12.gr G13)
 refine qv rfl (vv_lenT (l := l4) (c := TPoint.cs) Tryz.underlying46 rfl (Own.rd B42))<|qm rfl<|sd_done<|sw_block ?_
 have X43 := (((((Gr.refl w).trans Y5).trans Y8).ka Aw12 (tk1 ((.inr tk0) : 1 = 0 ∨ w.heap.size ≤ gw11))).trans G13)
 have B44 := (((B20.gr Y8).ka Aw12 (tk1 ((pv_sw (.inr (tk1 lt1.o))) : zp1_1 = 0 ∨ 1 = 0 ∨ gp1_1 ≠ gw11))).gr G13)
 have B45 := (((B21.gr Y8).ka Aw12 (tk1 ((pv_sw (.inr (tk1 lt2.o))) : zp2_0 = 0 ∨ 1 = 0 ∨ gp2_0 ≠ gw11))).gr G13)
 have B46 := ((B34.ka Aw12 (tk1 ((pv_sw (.inr (tk1 lt3.o))) : zp2_2 = 0 ∨ 1 = 0 ∨ gp2_2 ≠ gw11))).gr G13)
 refine sw_loopD (α := Nat × BitVec 64 × Int) (rg 10 7 ++ rg 52 47) (fun ⟨n1, a8, a9⟩ => [(10, wv a8), (52, .int .i64 a9)]) (fun ⟨n1, a8, a9⟩ wr => (fixN (poly_Open_L1 p0 p2 l4) n1 (a8, a9) = some r) ∧ Kz [] w13 wr) (fun ⟨n1, a8, a9⟩ => n1) ⟨FUEL, 1#64, 0⟩ ?_ ?_ ?_
 · exact sbq
 · exact ⟨hm, Kz.refl _ _⟩
 clear hm; rintro ⟨n1, a8, a9⟩ w15 ⟨hm, K15⟩
 have z47 := K15.size
 have hb := fix_succ hm; clear hm; obtain ⟨n1, rfl, hm⟩ := hb
 generalize hrec1 : fixN (poly_Open_L1 p0 p2 l4) n1 = rec1 at hm
 unfold poly_Open_L1 at hm
 try dsimp only at hm
 refine qs 1 rfl<|qv rfl (vv_lss (a := a9) (b := (l4.length : Int)) rfl rfl)<|sd_done<|sw_seq<|cnF rfl (fun c4 => ?_) (fun c4 => ?_)
 · replace hm := iF c4 hm
   refine sw_exit<|then_x<|then_x<|block_x<|then_n ?_
   have X83 := (X43.kz K15)
   refine qj (β := W2 × Nat) ([17] ++ rg 99 5) (fun ⟨a25, bq24⟩ => [(17, .pointer (some ⟨bq24, 0, none⟩))]) (fun ⟨a25, bq24⟩ wr => (poly_Open_J3 p2 a25 = some r) ∧ Bx wr bq24 23 (kb a25) ∧ w15.heap.size ≤ bq24 ∧ Kz [] w15 wr) ?_ ?_
   · refine dw [([])] [] (.fork [(0,10),(2,10),(3,10)] (.fork [(1,0)] (.leaf [(4,0),(5,0),(6,0)]) (.leaf [(5,0),(4,0),(6,0)])) (.leaf [(5,0),(1,0),(4,0),(6,0)])) ?_
     intro w37 G37 zw37
     refine sdz_fork<|dm 0 rfl rfl<|dh 0 rfl rfl (fun w hS => vv_fieldAddr fa_48_3 rfl) ?_
     have B97 := (((((B29.gr Y10).ka Aw12 (tk1 ((.inr tk0) : 1 = 0 ∨ gw11 ≠ b3))).gr G13).kz K15).gr G37)
     refine dh 0 rfl rfl (fun w hS => vv_loadM (vs := kb p2.Box) agg_23 rfl (Bx.kp B97 hS) rfl rfl)<|sd_fork ?_ ?_
     · refine sdz_fork ?_
       obtain ⟨x26, hx26, hm⟩ := bnd hm
       refine qz [] rfl (eC en_105 rfl (poly_maskKey_w hx26)) ⟨fun _ => tk0, trivial⟩ ?_
       rintro _ w38 ⟨rfl, G38⟩
       have z98 := G38.size
       refine kG G38<|sd_fork ?_ ?_
       · refine sdz_leaf<|qz [] rfl (eC en_111 rfl (decr_c x26 p2.Box _)) ⟨fun _ => tk0, trivial⟩ ?_
         rintro _ w39 ⟨rfl, G39⟩
         have z99 := G39.size
         refine kG G39<|qz [] rfl (ev_alloc (cs := kb k0) zv_23 rfl) ⟨fun _ => tk0, trivial⟩ ?_
         rintro _ w40 ⟨b40, rfl, hbw40, Bw40, G40⟩
         refine kG G40<|qz [(1, b40)] rfl (ev_stW agg_23 rfl rfl rfl Bw40 rfl rfl) ⟨fun _ => tk0, trivial⟩ ?_
         rintro _ w41 ⟨Bw41, M41⟩
         refine kM M41<|sd_nil ?_
         exact ⟨rfl, ⟨decr x26 p2.Box, b40⟩, sbq, hm, Bw41, (by omega), (((((kz0.gr G37).gr G38).gr G39).gr G40).md M41)⟩
       refine sdz_leaf<|qz [] rfl (ev_alloc (cs := kb k0) zv_23 rfl) ⟨fun _ => tk0, trivial⟩ ?_
       rintro _ w42 ⟨b42, rfl, hbw42, Bw42, G42⟩
       refine kG G42<|qz [] rfl (eC en_111 rfl (decr_c x26 p2.Box _)) ⟨fun _ => tk0, trivial⟩ ?_
       rintro _ w43 ⟨rfl, G43⟩
       refine kG G43 ?_
       have B107 := (Bw42.gr G43)
       refine qz [(1, b42)] rfl (ev_stW agg_23 rfl rfl rfl B107 rfl rfl) ⟨fun _ => tk0, trivial⟩ ?_
       rintro _ w44 ⟨Bw44, M44⟩
       refine kM M44<|sd_nil ?_
       exact ⟨rfl, ⟨decr x26 p2.Box, b42⟩, sbq, hm, Bw44, (by omega), (((((kz0.gr G37).gr G38).gr G42).gr G43).md M44)⟩
     refine sdz_leaf<|qz [] rfl (ev_alloc (cs := kb k0) zv_23 rfl) ⟨fun _ => tk0, trivial⟩ ?_
     rintro _ w45 ⟨b45, rfl, hbw45, Bw45, G45⟩
     refine kG G45 ?_
     obtain ⟨x27, hx27, hm⟩ := bnd hm
     refine qz [] rfl (eC en_105 rfl (poly_maskKey_w hx27)) ⟨fun _ => tk0, trivial⟩ ?_
     rintro _ w46 ⟨rfl, G46⟩
     refine kG G46<|qz [] rfl (eC en_111 rfl (decr_c x27 p2.Box _)) ⟨fun _ => tk0, trivial⟩ ?_
     rintro _ w47 ⟨rfl, G47⟩
     refine kG G47 ?_
     have B114 := ((Bw45.gr G46).gr G47)
     refine qz [(1, b45)] rfl (ev_stW agg_23 rfl rfl rfl B114 rfl rfl) ⟨fun _ => tk0, trivial⟩ ?_
     rintro _ w48 ⟨Bw48, M48⟩
     refine kM M48<|sd_nil ?_
     exact ⟨rfl, ⟨decr x27 p2.Box, b45⟩, sbq, hm, Bw48, (by omega), (((((kz0.gr G37).gr G45).gr G46).gr G47).md M48)⟩
   clear hm; rintro ⟨a25, bq24⟩ w32 ⟨hm, Fw32_0, Fw32_1, K32⟩
   unfold poly_Open_J3 at hm
   refine sw_seq<|sw_seq<|dw [([])] [] (.leaf [(0,10),(2,10),(3,10),(1,0),(4,10)]) ?_
   intro w33 G33 zw33
   refine sdz_leaf ?_
   have B86 := (Fw32_0.gr G33)
   refine dh 0 rfl rfl (fun w hS => vv_loadW agg_23 rfl (Bx.kp B86 hS) rfl)<|dh 0 rfl rfl (fun w hS => vv_fieldAddr fa_48_4 rfl) ?_
   have B87 := ((((((B29.gr Y10).ka Aw12 (tk1 ((.inr tk0) : 1 = 0 ∨ gw11 ≠ b3))).gr G13).kz K15).kz K32).gr G33)
   refine dh 0 rfl rfl (fun w hS => vv_loadM (vs := kb p2.Check) agg_23 rfl (Bx.kp B87 hS) rfl rfl)<|qz [] rfl (eC en_48 rfl (derive_c a25 (un8 53#8) (un8_nn _) (un8_le _) 0#64 _)) ⟨fun _ => tk0, trivial⟩ ?_
   rintro _ w34 ⟨rfl, G34⟩
   refine kG G34 ?_
   have S89 := ((Kp.refl ([]) w33).gr G34)
   refine qh 0 rfl rfl S89 (fun w hS => vv_neqS (cf := kb) (a := drv a25 (un8 53#8) 0#64) (b := p2.Check) eqt_23 rfl rfl rfl rfl (fun h => kb_inj h))<|sd_done<|sw_cond rfl (fun c7 => ?_) (fun c7 => ?_)
   · replace hm := iT c7 hm
     refine qs 3 rfl<|qv rfl (vv_buildZ bz_23) ?_
     have Y11 := Gr.trans G5 Y8
     have Y12 := Gr.trans G33 G34
     have B90 := ((((((Bw4.gr Y11).ka Aw12 (tk1 ((.inr tk0) : 1 = 0 ∨ gw11 ≠ b4))).gr G13).kz K15).kz K32).gr Y12)
     refine qe rfl (ev_stW agg_23 rfl rfl rfl B90 rfl rfl) ?_
     rintro _ w35 ⟨Bw35, M35⟩
     refine qm rfl<|qb ?_
     have X92 := (((X83.kz K32).trans Y12).md M35)
     cases hm
     refine ⟨_, _, rfl, res_2 rfl (rv_cellW agg_23 rfl Bw35 rfl) (rv_tmp rfl), ?_⟩
     exact ⟨rfl, X92⟩
   replace hm := iF c7 hm
   refine qu<|qs 3 rfl ?_
   have B93 := (B86.gr G34)
   refine qv rfl (vv_loadW agg_23 rfl B93 rfl) ?_
   have Y13 := Gr.trans G5 Y8
   have Y14 := Gr.trans G33 G34
   have B94 := ((((((Bw4.gr Y13).ka Aw12 (tk1 ((.inr tk0) : 1 = 0 ∨ gw11 ≠ b4))).gr G13).kz K15).kz K32).gr Y14)
   refine qe rfl (ev_stW agg_23 rfl rfl rfl B94 rfl rfl) ?_
   rintro _ w36 ⟨Bw36, M36⟩
   refine qm rfl<|sd_done<|sw_ret ?_
   have X96 := (((X83.kz K32).trans Y14).md M36)
   cases hm
   refine ⟨_, _, rfl, res_2 rfl (rv_cellW agg_23 rfl Bw36 rfl) (rv_tmp rfl), ?_⟩
   exact ⟨rfl, X96⟩
 replace hm := iT c4 hm
 refine qu<|sw_seq<|sw_block<|qs 6 rfl<|qm rfl ?_
 obtain ⟨y10, hy10, hm⟩ := bnd hm
 have B48 := (B42.kz K15)
 refine qv rfl (vv_ixT (i := a9) Tryz.underlying46 (agg_31).siz rfl (Own.rd B48) rfl hy10)<|qv rfl (vv_elWT agg_31 rfl (Own.rd B48) hy10 (by first | rfl | omega))<|qe rfl (ev_alloc (cs := TPoint.cs (TPoint.mk 0#64 0#64)) zv_31 rfl) ?_
 rintro _ w16 ⟨b16, rfl, hbw16, Bw16, G16⟩
 have lt50 := Bw16.lt
 refine qm rfl<|qe rfl (ev_stW agg_31 rfl rfl rfl Bw16 rfl rfl) ?_
 rintro _ w17 ⟨Bw17, M17⟩
 have z51 := M17.size
 refine qd 2 rfl<|qm rfl<|qm rfl<|sd_done<|sw_seq<|qs 3 rfl<|qm rfl ?_
 have B52 := ((B48.gr G16).md M17 (pb_lt qw12))
 refine qv rfl (vv_lenT (l := l4) (c := TPoint.cs) Tryz.underlying46 rfl (Own.rd B52))<|qm rfl<|sd_done<|sw_block ?_
 refine sw_loopD (α := Nat × BitVec 64 × BitVec 64 × Int) ([13, 14, 15, 16] ++ rg 59 25) (fun ⟨n2, a14, a15, a16⟩ => [(13, wv a14), (14, wv a15), (59, .int .i64 a16)]) (fun ⟨n2, a14, a15, a16⟩ wr => (fixN (poly_Open_L2 p0 l4 a8 a9 rec1 y10) n2 (a14, a15, a16) = some r) ∧ Kz [] w17 wr) (fun ⟨n2, a14, a15, a16⟩ => n2) ⟨FUEL, 1#64, 1#64, 0⟩ ?_ ?_ ?_
 · exact sbq
 · exact ⟨hm, Kz.refl _ _⟩
 clear hm; rintro ⟨n2, a14, a15, a16⟩ w18 ⟨hm, K18⟩
 have z57 := K18.size
 have hb := fix_succ hm; clear hm; obtain ⟨n2, rfl, hm⟩ := hb
 generalize hrec2 : fixN (poly_Open_L2 p0 l4 a8 a9 rec1 y10) n2 = rec2 at hm
 unfold poly_Open_L2 at hm
 try dsimp only at hm
 refine qs 1 rfl<|qv rfl (vv_lss (a := a16) (b := (l4.length : Int)) rfl rfl)<|sd_done<|sw_seq<|cnF rfl (fun c5 => ?_) (fun c5 => ?_)
 · replace hm := iF c5 hm
   refine sw_exit<|then_x<|then_x<|block_x<|then_n<|dw [([])] [] (.leaf [(0,10),(1,10),(2,10),(3,10),(4,10),(5,10),(6,10),(7,10),(8,10),(9,10),(10,0),(11,0),(12,0),(13,0),(14,10)]) ?_
   intro w27 G27 zw27
   refine sdz_leaf<|dh 0 rfl rfl (fun w hS => vv_fieldAddr fa_28_3 rfl)<|dh 0 rfl rfl (fun w hS => vv_fieldAddr fa_26_0 rfl) ?_
   have B74 := (((((B41.kz K15).gr G16).md M17).kz K18).gr G27)
   refine dh 0 rfl rfl (fun w hS => vv_load1 (v := wv p0.Group.P) one_24 rfl (Bx.kp B74 hS) rfl)<|dm 0 rfl rfl<|dh 0 rfl rfl (fun w hS => vv_loadW agg_28 rfl (Bx.kp B74 hS) rfl)<|dh 0 rfl rfl (fun w hS => vv_fieldAddr fa_31_1 rfl) ?_
   have B75 := ((Bw17.kz K18).gr G27)
   refine dh 0 rfl rfl (fun w hS => vv_load1 (v := wv y10.Y) one_24 rfl (Bx.kp B75 hS) rfl)<|dm 0 rfl rfl<|dm 0 rfl rfl<|dm 0 rfl rfl ?_
   obtain ⟨x21, hx21, hm⟩ := bnd hm
   refine qz [] rfl (eC en_110 rfl (poly_field_div_w hx21)) ⟨fun _ => tk0, trivial⟩ ?_
   rintro _ w28 ⟨rfl, G28⟩
   refine kG G28 ?_
   obtain ⟨x22, hx22, hm⟩ := bnd hm
   refine qz [] rfl (eC en_101 rfl (poly_power_w hx22)) ⟨fun _ => tk0, trivial⟩ ?_
   rintro _ w29 ⟨rfl, G29⟩
   refine kG G29<|qz [] rfl (ev_litT [a8, x22] uwc bsl_160_2 rfl rfl (ws_of rfl) rfl rfl rfl) ⟨fun _ => tk0, trivial⟩ ?_
   rintro vw30 w30 ⟨gw30, hbw30, Ow30, G30⟩
   refine kG G30 ?_
   obtain ⟨x23, hx23, hm⟩ := bnd hm
   refine qz [] rfl (eC en_108 rfl (poly_field_mul_w hx23 (Own.rd Ow30))) ⟨fun _ => tk0, trivial⟩ ?_
   rintro _ w31 ⟨rfl, G31⟩
   refine kG G31 ?_
   have Y15 := Gr.trans (Gr.trans (Gr.trans G28 G29) G30) G31
   have S81 := ((Kp.refl ([]) w27).gr Y15)
   refine dn 0 rfl rfl S81<|sd_nil<|block_n<|then_n<|qg 2 rfl<|qv rfl (vv_add (k := .i64) (a := a9) (b := 1) rfl rfl)<|qm rfl<|sd_nil ?_
   have K_82 : Kz [] w13 w31 := (((((K15.gr G16).md M17).kz K18).gr G27).gr Y15)
   subst hrec1
   exact ⟨rfl, ⟨n1, x23, w64 (a9 + 1)⟩, sbq, ⟨hm, K_82⟩, Nat.lt_succ_self _⟩
 replace hm := iT c5 hm
 refine qu<|sw_seq<|sw_block<|qs 6 rfl<|qm rfl ?_
 obtain ⟨y17, hy17, hm⟩ := bnd hm
 have B58 := (B52.kz K18)
 refine qv rfl (vv_ixT (i := a16) Tryz.underlying46 (agg_31).siz rfl (Own.rd B58) rfl hy17)<|qv rfl (vv_elWT agg_31 rfl (Own.rd B58) hy17 (by first | rfl | omega))<|qe rfl (ev_alloc (cs := TPoint.cs (TPoint.mk 0#64 0#64)) zv_31 rfl) ?_
 rintro _ w19 ⟨b19, rfl, hbw19, Bw19, G19⟩
 refine qm rfl<|qe rfl (ev_stW agg_31 rfl rfl rfl Bw19 rfl rfl) ?_
 rintro _ w20 ⟨Bw20, M20⟩
 refine qd 3 rfl<|qm rfl<|qm rfl<|qv rfl (vv_neq (a := a16) (b := a9) rfl rfl)<|sd_done<|cnF rfl (fun c6 => ?_) (fun c6 => ?_)
 · replace hm := iF c6 hm
   refine sw_skip<|block_n<|then_n<|qg 2 rfl<|qv rfl (vv_add (k := .i64) (a := a16) (b := 1) rfl rfl)<|qm rfl<|sd_nil ?_
   have K_73 : Kz [] w17 w20 := ((K18.gr G19).md M20)
   subst hrec2
   exact ⟨rfl, ⟨n2, a14, a15, w64 (a16 + 1)⟩, sbq, ⟨hm, K_73⟩, Nat.lt_succ_self _⟩
 replace hm := iT c6 hm
 refine dw [([])] [] (.leaf [(0,10),(1,10),(2,10),(3,10),(6,10),(7,10),(8,10),(9,10),(10,10),(11,10),(12,10),(4,0),(5,0),(13,0),(14,0),(15,0),(16,10),(17,10)]) ?_
 intro w21 G21 zw21
 refine sdz_leaf<|dm 0 rfl rfl<|dm 0 rfl rfl<|dh 0 rfl rfl (fun w hS => vv_fieldAddr fa_31_0 rfl) ?_
 have B62 := (Bw20.gr G21)
 refine dh 0 rfl rfl (fun w hS => vv_load1 (v := wv y17.X) one_24 rfl (Bx.kp B62 hS) rfl)<|dm 0 rfl rfl<|dm 0 rfl rfl<|dm 0 rfl rfl<|dh 0 rfl rfl (fun w hS => vv_fieldAddr fa_31_0 rfl)<|dh 0 rfl rfl (fun w hS => vv_load1 (v := wv y17.X) one_24 rfl (Bx.kp B62 hS) rfl)<|dh 0 rfl rfl (fun w hS => vv_fieldAddr fa_31_0 rfl) ?_
 have B63 := ((((Bw17.kz K18).gr G19).md M20).gr G21)
 refine dh 0 rfl rfl (fun w hS => vv_load1 (v := wv y10.X) one_24 rfl (Bx.kp B63 hS) rfl)<|qz [] rfl (ev_litT [a14, y17.X] uwc bsl_160_2 rfl rfl (ws_of rfl) rfl rfl rfl) ⟨fun _ => tk0, trivial⟩ ?_
 rintro vw22 w22 ⟨gw22, hbw22, Ow22, G22⟩
 refine kG G22 ?_
 obtain ⟨x18, hx18, hm⟩ := bnd hm
 refine qz [] rfl (eC en_108 rfl (poly_field_mul_w hx18 (Own.rd Ow22))) ⟨fun _ => tk0, trivial⟩ ?_
 rintro _ w23 ⟨rfl, G23⟩
 refine kG G23 ?_
 obtain ⟨x19, hx19, hm⟩ := bnd hm
 refine qz [] rfl (eC en_109 rfl (poly_field_sub_w hx19)) ⟨fun _ => tk0, trivial⟩ ?_
 rintro _ w24 ⟨rfl, G24⟩
 refine kG G24<|qz [] rfl (ev_litT [a15, x19] uwc bsl_160_2 rfl rfl (ws_of rfl) rfl rfl rfl) ⟨fun _ => tk0, trivial⟩ ?_
 rintro vw25 w25 ⟨gw25, hbw25, Ow25, G25⟩
 refine kG G25 ?_
 obtain ⟨x20, hx20, hm⟩ := bnd hm
 refine qz [] rfl (eC en_108 rfl (poly_field_mul_w hx20 (Own.rd Ow25))) ⟨fun _ => tk0, trivial⟩ ?_
 rintro _ w26 ⟨rfl, G26⟩
 refine kG G26 ?_
 have Y16 := Gr.trans (Gr.trans (Gr.trans (Gr.trans G22 G23) G24) G25) G26
 have S71 := ((Kp.refl ([]) w21).gr Y16)
 refine dn 0 rfl rfl S71<|dn 0 rfl rfl S71<|sd_nil<|block_n<|then_n<|qg 2 rfl<|qv rfl (vv_add (k := .i64) (a := a16) (b := 1) rfl rfl)<|qm rfl<|sd_nil ?_
 have K_72 : Kz [] w17 w26 := ((((K18.gr G19).md M20).gr G21).gr Y16)
 subst hrec2
 exact ⟨rfl, ⟨n2, x18, x20, w64 (a16 + 1)⟩, sbq, ⟨hm, K_72⟩, Nat.lt_succ_self _⟩
theorem ref04_ValidHeader_w {p0 p1 vp1_0 zp1_0 gp1_0 op1_0 vp1_2 zp1_2 gp1_2 op1_2 r} (hm : ref04_ValidHeader p0 p1 = some r) {w : World} (hp1_0 : Rd w zp1_0 gp1_0 op1_0 18 vp1_0 (p1.Items.map TItem.cs)) (hp1_2 : Rd w zp1_2 gp1_2 op1_2 2 vp1_2 (p1.Points.map TPoint.cs)) :
    Calls Tryz.prog 154 [.agg (TScheme.cs p0).toArray, .agg (THeader.cs p1 vp1_0 vp1_2).toArray].toArray w fun e w' => ∃ v, e = .returned v ∧ (v = .bool r ∧ Gr w w') := by
 have lt1 := hp1_0.lth
 have lt2 := hp1_2.lth
 unfold ref04_ValidHeader at hm
 refine calls_of_sw 83 Tryz.func154 rfl rfl rfl<|qs 3 rfl<|qe rfl (ev_box (cs := TScheme.cs p0) rfl rfl) ?_
 rintro _ w1 ⟨b1, rfl, hbw1, Bw1, G1⟩
 have lt4 := Bw1.lt
 refine qe rfl (ev_box (cs := THeader.cs p1 vp1_0 vp1_2) rfl rfl) ?_
 rintro _ w2 ⟨b2, rfl, hbw2, Bw2, G2⟩
 have lt6 := Bw2.lt
 refine qm rfl<|sd_done<|sw_seq ?_
 have Y1 := Gr.trans G1 G2
 have X7 := ((Gr.refl w).trans Y1)
 refine qj (β := Bool) (rg 8 25) (fun a1 => [(32, .bool a1)]) (fun a1 wr => (ref04_ValidHeader_J1 p0 p1 a1 = some r) ∧ Kz [] w2 wr) ?_ ?_
 · refine qg 25 rfl<|qv rfl (vv_fieldAddr fa_48_0 rfl)<|qv rfl (vv_load1 (v := vp1_0) one_45 rfl Bw2 rfl) ?_
   have B38 := (hp1_0.gr Y1)
   refine qv rfl (vv_lenT (l := p1.Items) (c := TItem.cs) Tryz.underlying45 rfl B38)<|qv rfl (vv_neq (a := (p1.Items.length : Int)) (b := 0) rfl rfl)<|qp rfl (vv_move rfl) (fun c9 => ?_) (fun c9 => ?_)
   · replace hm := iT c9 hm
     refine qk rfl<|qk rfl<|qk rfl<|qm rfl<|qm rfl<|qk rfl<|qk rfl<|qk rfl<|qk rfl<|qk rfl<|qk rfl<|qm rfl<|qm rfl ?_
     refine qk rfl<|qk rfl<|qk rfl<|qk rfl<|qk rfl<|qk rfl<|qm rfl<|sd_nil ?_
     exact ⟨rfl, true, sbq, hm, kz0⟩
   replace hm := iF c9 hm
   refine qv rfl (vv_fieldAddr fa_48_1 rfl)<|qv rfl (vv_load1 (v := wv p1.Base) one_24 rfl Bw2 rfl)<|qv rfl (vv_lssU (c := p1.Base) (d := 1#64) rfl rfl)<|qm rfl<|qp rfl (vv_move rfl) (fun c10 => ?_) (fun c10 => ?_)
   · replace hm := iT c10 hm
     refine qk rfl<|qk rfl<|qk rfl<|qk rfl<|qk rfl<|qk rfl<|qm rfl<|qm rfl<|qk rfl<|qk rfl<|qk rfl<|qk rfl<|qk rfl ?_
     refine qk rfl<|qm rfl<|sd_nil ?_
     exact ⟨rfl, true, sbq, hm, kz0⟩
   replace hm := iF c10 hm
   refine qv rfl (vv_fieldAddr fa_48_1 rfl)<|qv rfl (vv_load1 (v := wv p1.Base) one_24 rfl Bw2 rfl)<|qv rfl (vv_fieldAddr fa_28_3 rfl)<|qv rfl (vv_fieldAddr fa_26_0 rfl) ?_
   have B41 := (Bw1.gr G2)
   refine qv rfl (vv_load1 (v := wv p0.Group.P) one_24 rfl B41 rfl)<|qv rfl (vv_geqU (c := p1.Base) (d := p0.Group.P) rfl rfl)<|qm rfl<|qp rfl (vv_move rfl) (fun c11 => ?_) (fun c11 => ?_)
   · replace hm := iT c11 hm
     refine qk rfl<|qk rfl<|qk rfl<|qk rfl<|qk rfl<|qk rfl<|qm rfl<|sd_nil ?_
     exact ⟨rfl, true, sbq, hm, kz0⟩
   replace hm := iF c11 hm
   refine qv rfl (vv_fieldAddr fa_48_2 rfl)<|qv rfl (vv_load1 (v := vp1_2) one_46 rfl Bw2 rfl) ?_
   have B43 := (hp1_2.gr Y1)
   refine qv rfl (vv_lenT (l := p1.Points) (c := TPoint.cs) Tryz.underlying46 rfl B43)<|qv rfl (vv_fieldAddr fa_28_2 rfl)<|qv rfl (vv_load1 (v := .int .i64 p0.Degree) one_3 rfl B41 rfl)<|qv rfl (vv_neq (a := (p1.Points.length : Int)) (b := p0.Degree) rfl rfl)<|qm rfl<|sd_nil ?_
   exact ⟨rfl, (decide ((p1.Points.length : Int) ≠ p0.Degree)), sbq, hm, kz0⟩
 clear hm; rintro a1 w3 ⟨hm, K3⟩
 have z8 := K3.size
 unfold ref04_ValidHeader_J1 at hm
 refine sw_cond rfl (fun c1 => ?_) (fun c1 => ?_)
 · replace hm := cnd_t c1 hm
   refine qs 1 rfl<|qm rfl<|qb ?_
   have X9 := (X7.kz K3)
   cases hm
   refine ⟨_, _, rfl, res_1 rfl (rv_tmp rfl), ?_⟩
   exact ⟨rfl, X9⟩
 replace hm := cnd_f c1 hm
 refine qu<|sw_seq<|qs 1 rfl<|qm rfl<|sd_done<|sw_block ?_
 have X10 := (X7.kz K3)
 have B11 := ((hp1_0.gr Y1).kz K3)
 have B12 := ((hp1_2.gr Y1).kz K3)
 refine sw_loopD (α := Nat × Int) ([4, 5, 6, 7] ++ rg 33 50) (fun ⟨n2, a3⟩ => [(4, .bool false), (5, .int .i64 a3)]) (fun ⟨n2, a3⟩ wr => (fixN (ref04_ValidHeader_L2 p0 p1) n2 a3 = some r) ∧ Kz [] w3 wr) (fun ⟨n2, a3⟩ => n2) ⟨FUEL, 0⟩ ?_ ?_ ?_
 · exact sbq
 · exact ⟨hm, Kz.refl _ _⟩
 clear hm; rintro ⟨n2, a3⟩ w4 ⟨hm, K4⟩
 have z13 := K4.size
 have hb := fix_succ hm; clear hm; obtain ⟨n2, rfl, hm⟩ := hb
 generalize hrec2 : fixN (ref04_ValidHeader_L2 p0 p1) n2 = rec2 at hm
 unfold ref04_ValidHeader_L2 at hm
 try dsimp only at hm
 refine sw_seq<|qs 5 rfl<|qm rfl<|qv rfl (vv_fieldAddr fa_48_2 rfl) ?_
 have B14 := ((Bw2.kz K3).kz K4)
 refine qv rfl (vv_load1 (v := vp1_2) one_46 rfl B14 rfl) ?_
 have B15 := (B12.kz K4)
 refine qv rfl (vv_lenT (l := p1.Points) (c := TPoint.cs) Tryz.underlying46 rfl B15)<|qv rfl (vv_lss (a := a3) (b := (p1.Points.length : Int)) rfl rfl)<|sd_done<|cnF rfl (fun c2 => ?_) (fun c2 => ?_)
 · replace hm := iF c2 hm
   refine sw_exit<|then_x<|then_x<|block_x<|then_n<|qs 1 rfl<|qm rfl<|sd_done<|sw_ret ?_
   have X37 := (X10.kz K4)
   cases hm
   refine ⟨_, _, rfl, res_1 rfl (rv_tmp rfl), ?_⟩
   exact ⟨rfl, X37⟩
 replace hm := iT c2 hm
 refine qu<|sw_seq<|sw_block<|qs 7 rfl<|qv rfl (vv_fieldAddr fa_48_2 rfl)<|qv rfl (vv_load1 (v := vp1_2) one_46 rfl B14 rfl)<|qm rfl ?_
 obtain ⟨y4, hy4, hm⟩ := bnd hm
 refine qv rfl (vv_ixT (i := a3) Tryz.underlying46 (agg_31).siz rfl B15 rfl hy4)<|qv rfl (vv_elWT agg_31 rfl B15 hy4 (by first | rfl | omega))<|qe rfl (ev_alloc (cs := TPoint.cs (TPoint.mk 0#64 0#64)) zv_31 rfl) ?_
 rintro _ w5 ⟨b5, rfl, hbw5, Bw5, G5⟩
 refine qe rfl (ev_stW agg_31 rfl rfl rfl Bw5 rfl rfl) ?_
 rintro _ w6 ⟨Bw6, M6⟩
 refine sd_done<|sw_seq ?_
 have X19 := (((X10.kz K4).trans G5).md M6)
 refine qj (β := Bool) (rg 45 24) (fun a5 => [(68, .bool a5)]) (fun a5 wr => (ref04_ValidHeader_J3 p1 a3 rec2 y4 a5 = some r) ∧ Kz [] w6 wr) ?_ ?_
 · refine qg 24 rfl<|qv rfl (vv_fieldAddr fa_31_0 rfl)<|qv rfl (vv_load1 (v := wv y4.X) one_24 rfl Bw6 rfl)<|qv rfl (vv_lssU (c := y4.X) (d := 1#64) rfl rfl)<|qp rfl (vv_move rfl) (fun c6 => ?_) (fun c6 => ?_)
   · replace hm := iT c6 hm
     refine qk rfl<|qk rfl<|qk rfl<|qk rfl<|qk rfl<|qk rfl<|qm rfl<|qm rfl<|qk rfl<|qk rfl<|qk rfl<|qm rfl<|qm rfl ?_
     refine qk rfl<|qk rfl<|qk rfl<|qk rfl<|qk rfl<|qk rfl<|qm rfl<|sd_nil ?_
     exact ⟨rfl, true, sbq, hm, kz0⟩
   replace hm := iF c6 hm
   refine qv rfl (vv_fieldAddr fa_31_0 rfl)<|qv rfl (vv_load1 (v := wv y4.X) one_24 rfl Bw6 rfl)<|qv rfl (vv_fieldAddr fa_28_3 rfl)<|qv rfl (vv_fieldAddr fa_26_1 rfl) ?_
   have B33 := (((((Bw1.gr G2).kz K3).kz K4).gr G5).md M6)
   refine qv rfl (vv_load1 (v := wv p0.Group.Q) one_24 rfl B33 rfl)<|qv rfl (vv_geqU (c := y4.X) (d := p0.Group.Q) rfl rfl)<|qm rfl<|qp rfl (vv_move rfl) (fun c7 => ?_) (fun c7 => ?_)
   · replace hm := iT c7 hm
     refine qk rfl<|qk rfl<|qk rfl<|qm rfl<|qm rfl<|qk rfl<|qk rfl<|qk rfl<|qk rfl<|qk rfl<|qk rfl<|qm rfl<|sd_nil ?_
     exact ⟨rfl, true, sbq, hm, kz0⟩
   replace hm := iF c7 hm
   refine qv rfl (vv_fieldAddr fa_31_1 rfl)<|qv rfl (vv_load1 (v := wv y4.Y) one_24 rfl Bw6 rfl)<|qv rfl (vv_lssU (c := y4.Y) (d := 1#64) rfl rfl)<|qm rfl<|qp rfl (vv_move rfl) (fun c8 => ?_) (fun c8 => ?_)
   · replace hm := iT c8 hm
     refine qk rfl<|qk rfl<|qk rfl<|qk rfl<|qk rfl<|qk rfl<|qm rfl<|sd_nil ?_
     exact ⟨rfl, true, sbq, hm, kz0⟩
   replace hm := iF c8 hm
   refine qv rfl (vv_fieldAddr fa_31_1 rfl)<|qv rfl (vv_load1 (v := wv y4.Y) one_24 rfl Bw6 rfl)<|qv rfl (vv_fieldAddr fa_28_3 rfl)<|qv rfl (vv_fieldAddr fa_26_0 rfl)<|qv rfl (vv_load1 (v := wv p0.Group.P) one_24 rfl B33 rfl)<|qv rfl (vv_geqU (c := y4.Y) (d := p0.Group.P) rfl rfl)<|qm rfl<|sd_nil ?_
   exact ⟨rfl, (decide (p0.Group.P ≤ y4.Y)), sbq, hm, kz0⟩
 clear hm; rintro a5 w7 ⟨hm, K7⟩
 unfold ref04_ValidHeader_J3 at hm
 refine sw_cond rfl (fun c3 => ?_) (fun c3 => ?_)
 · replace hm := cnd_t c3 hm
   refine qs 1 rfl<|qm rfl<|qb<|block_r<|then_r<|then_r<|block_r<|then_r ?_
   have X21 := (X19.kz K7)
   cases hm
   refine ⟨_, _, rfl, res_1 rfl (rv_tmp rfl), ?_⟩
   exact ⟨rfl, X21⟩
 replace hm := cnd_f c3 hm
 refine qu<|qs 1 rfl<|qm rfl<|sd_done<|sw_block ?_
 have X22 := (X19.kz K7)
 have B24 := (((B15.gr G5).md M6 (pb_lt lt2)).kz K7)
 refine sw_loopD (α := Nat × Int) ([4, 7] ++ rg 69 14) (fun ⟨n4, a7⟩ => [(4, .bool false), (7, .int .i64 a7)]) (fun ⟨n4, a7⟩ wr => (fixN (ref04_ValidHeader_L4 p1 a3 rec2 y4) n4 a7 = some r) ∧ Kz [] w7 wr) (fun ⟨n4, a7⟩ => n4) ⟨FUEL, 0⟩ ?_ ?_ ?_
 · exact sbq
 · exact ⟨hm, Kz.refl _ _⟩
 clear hm; rintro ⟨n4, a7⟩ w8 ⟨hm, K8⟩
 have hb := fix_succ hm; clear hm; obtain ⟨n4, rfl, hm⟩ := hb
 generalize hrec4 : fixN (ref04_ValidHeader_L4 p1 a3 rec2 y4) n4 = rec4 at hm
 unfold ref04_ValidHeader_L4 at hm
 try dsimp only at hm
 refine sw_seq<|qs 3 rfl<|qm rfl<|qm rfl<|qv rfl (vv_lss (a := a7) (b := a3) rfl rfl)<|sd_done<|cnF rfl (fun c4 => ?_) (fun c4 => ?_)
 · replace hm := iF c4 hm
   refine sw_exit<|then_x<|then_x<|block_x<|block_n<|then_n<|qg 3 rfl<|qm rfl<|qv rfl (vv_add (k := .i64) (a := a3) (b := 1) rfl rfl)<|qm rfl<|sd_nil ?_
   have K_31 : Kz [] w3 w8 := ((((K4.gr G5).md M6).kz K7).kz K8)
   subst hrec2
   exact ⟨rfl, ⟨n2, w64 (a3 + 1)⟩, sbq, ⟨hm, K_31⟩, Nat.lt_succ_self _⟩
 replace hm := iT c4 hm
 refine qu<|sw_seq<|sw_block<|sw_seq<|dw [([])] [] (.leaf [(0,10),(1,10),(2,10),(3,10),(4,10),(5,10),(6,10),(7,10),(8,10)]) ?_
 intro w9 G9 zw9
 refine sdz_leaf<|dh 0 rfl rfl (fun w hS => vv_fieldAddr fa_48_2 rfl) ?_
 have B26 := (((((B14.gr G5).md M6).kz K7).kz K8).gr G9)
 refine dh 0 rfl rfl (fun w hS => vv_load1 (v := vp1_2) one_46 rfl (Bx.kp B26 hS) rfl)<|dm 0 rfl rfl ?_
 obtain ⟨y8, hy8, hm⟩ := bnd hm
 have B27 := ((B24.kz K8).gr G9)
 refine dh 0 rfl rfl (fun w hS => vv_ixT (i := a7) Tryz.underlying46 (agg_31).siz rfl (Rd.kp B27 hS) rfl hy8)<|dh 0 rfl rfl (fun w hS => vv_fieldAddr fa_31_0 rfl)<|dh 0 rfl rfl (fun w hS => vv_el1T (q := 0) (u := wv y8.X) one_24 rfl (Rd.kp B27 hS) hy8 (by first | rfl | omega) rfl)<|dh 0 rfl rfl (fun w hS => vv_fieldAddr fa_31_0 rfl) ?_
 have B28 := (((Bw6.kz K7).kz K8).gr G9)
 refine dh 0 rfl rfl (fun w hS => vv_load1 (v := wv y4.X) one_24 rfl (Bx.kp B28 hS) rfl)<|dh 0 rfl rfl (fun w hS => vv_eqlU (c := y8.X) (d := y4.X) rfl rfl)<|sd_done<|sw_cond rfl (fun c5 => ?_) (fun c5 => ?_)
 · replace hm := iT c5 hm
   refine qs 1 rfl<|qm rfl<|sd_done<|sw_ret<|block_r<|then_r<|then_r<|block_r<|block_r<|then_r<|then_r<|block_r ?_
   refine then_r ?_
   have X29 := ((X22.kz K8).trans G9)
   cases hm
   refine ⟨_, _, rfl, res_1 rfl (rv_tmp rfl), ?_⟩
   exact ⟨rfl, X29⟩
 replace hm := iF c5 hm
 refine sw_skip<|block_n<|then_n<|qg 3 rfl<|qm rfl<|qv rfl (vv_add (k := .i64) (a := a7) (b := 1) rfl rfl)<|qm rfl<|sd_nil ?_
 have K_30 : Kz [] w7 w9 := (K8.gr G9)
 subst hrec4
 exact ⟨rfl, ⟨n4, w64 (a7 + 1)⟩, sbq, ⟨hm, K_30⟩, Nat.lt_succ_self _⟩
theorem ref04_minus_w {p0 p1 p2 r} (hm : ref04_minus p0 p1 p2 = some r) {w : World} :
    Calls Tryz.prog 224 [wv p0, wv p1, wv p2].toArray w fun e w' => ∃ v, e = .returned v ∧ (v = wv r ∧ Gr w w') := by
 unfold ref04_minus at hm
 refine calls_of_sw 16 Tryz.func224 rfl rfl rfl<|qs 1 rfl<|qm rfl<|qd 10 rfl<|qm rfl<|qm rfl<|qv rfl (vv_uadd (a := p1) (b := p0) rfl rfl)<|qm rfl<|qm rfl ?_
 obtain ⟨x1, hx1, hm⟩ := bnd hm
 refine qv rfl (vv_remU (c := p2) (d := p0) rfl rfl hx1)<|qv rfl (vv_usub (a := p1 + p0) (b := x1) rfl rfl)<|qm rfl ?_
 obtain ⟨x2, hx2, hm⟩ := bnd hm
 refine qv rfl (vv_remU (c := (p1 + p0) - x1) (d := p0) rfl rfl hx2)<|qm rfl<|sd_done<|sw_ret ?_
 cases hm
 refine ⟨_, _, rfl, res_1 rfl (rv_tmp rfl), ?_⟩
 exact ⟨rfl, (Gr.refl w)⟩
theorem ref01_Inverse_w {p0 p1 r} (hm : ref01_Inverse p0 p1 = some r) {w : World} :
    Calls Tryz.prog 223 [wv p0, wv p1].toArray w fun e w' => ∃ v, e = .returned v ∧ (v = .tuple [wv r.1, .bool r.2].toArray ∧ Gr w w') := by
 unfold ref01_Inverse at hm
 refine calls_of_sw 45 Tryz.func223 rfl rfl rfl<|qs 2 rfl<|qm rfl<|qm rfl<|sd_done<|sw_seq<|dw [([])] [] (.leaf [(0,10),(1,10),(2,10),(3,10),(4,10),(5,10),(6,10)]) ?_
 intro w1 G1 zw1
 refine sdz_leaf<|dm 0 rfl rfl<|dm 0 rfl rfl ?_
 obtain ⟨x1, hx1, hm⟩ := bnd hm
 refine dh 0 rfl rfl (fun w hS => vv_remU (c := p0) (d := p1) rfl rfl hx1)<|dm 0 rfl rfl ?_
 obtain ⟨x2, hx2, hm⟩ := bnd hm
 refine dh 0 rfl rfl (fun w hS => vv_remU (c := 1#64) (d := p1) rfl rfl hx2)<|dm 0 rfl rfl<|dm 0 rfl rfl<|qd 3 rfl<|qm rfl<|qm rfl<|qm rfl<|sd_done<|sw_seq<|sw_block ?_
 have X1 := ((Gr.refl w).trans G1)
 refine sw_loopD (α := Nat × BitVec 64 × BitVec 64 × BitVec 64 × BitVec 64) (rg 6 5 ++ rg 17 25) (fun ⟨n1, a7, a8, a9, a10⟩ => [(6, wv a7), (7, wv a8), (8, wv a9), (9, wv a10)]) (fun ⟨n1, a7, a8, a9, a10⟩ wr => (fixN (ref01_Inverse_L1 p1) n1 (a7, a8, a9, a10) = some r) ∧ Kz [] w1 wr) (fun ⟨n1, a7, a8, a9, a10⟩ => n1) ⟨FUEL, x1, x2, p1, 0#64⟩ ?_ ?_ ?_
 · exact sbq
 · exact ⟨hm, Kz.refl _ _⟩
 clear hm; rintro ⟨n1, a7, a8, a9, a10⟩ w2 ⟨hm, K2⟩
 have hb := fix_succ hm; clear hm; obtain ⟨n1, rfl, hm⟩ := hb
 generalize hrec1 : fixN (ref01_Inverse_L1 p1) n1 = rec1 at hm
 unfold ref01_Inverse_L1 at hm
 try dsimp only at hm
 refine sw_seq<|qs 2 rfl<|qm rfl<|qv rfl (vv_neqU (c := a9) (d := 0#64) rfl rfl)<|sd_done<|cnF rfl (fun c1 => ?_) (fun c1 => ?_)
 · replace hm := iF c1 hm
   refine sw_exit<|then_x<|then_x<|block_x<|then_n<|qs 5 rfl<|qm rfl<|qm rfl<|qv rfl (vv_eqlU (c := a7) (d := 1#64) rfl rfl)<|qm rfl<|qm rfl<|sd_done ?_
   refine sw_ret ?_
   have X4 := (X1.kz K2)
   cases hm
   refine ⟨_, _, rfl, res_2 rfl (rv_tmp rfl) (rv_tmp rfl), ?_⟩
   exact ⟨rfl, X4⟩
 replace hm := iT c1 hm
 refine qu<|sw_block<|qs 4 rfl<|qm rfl<|qm rfl ?_
 obtain ⟨x11, hx11, hm⟩ := bnd hm
 refine qv rfl (vv_quoU (c := a7) (d := a9) rfl rfl hx11)<|qm rfl<|qd 8 rfl<|qm rfl<|qm rfl<|qm rfl<|qm rfl<|qv rfl (vv_umul (a := x11) (b := a9) rfl rfl)<|qv rfl (vv_usub (a := a7) (b := x11 * a9) rfl rfl)<|qm rfl<|qm rfl ?_
 refine sd_done<|dw [([])] [] (.leaf [(0,10),(1,10),(2,10),(3,10),(4,10),(5,10),(6,10),(7,10),(8,10),(9,10),(10,10),(11,10),(12,10),(13,10),(14,10),(15,10)]) ?_
 intro w3 G3 zw3
 refine sdz_leaf<|dm 0 rfl rfl<|dm 0 rfl rfl<|dm 0 rfl rfl<|dm 0 rfl rfl<|dm 0 rfl rfl ?_
 obtain ⟨x12, hx12, hm⟩ := bnd hm
 refine dh 0 rfl rfl (fun w hS => vv_remU (c := x11) (d := p1) rfl rfl hx12)<|dm 0 rfl rfl<|dh 0 rfl rfl (fun w hS => vv_umul (a := x12) (b := a10) rfl rfl)<|dm 0 rfl rfl ?_
 obtain ⟨x13, hx13, hm⟩ := bnd hm
 refine dh 0 rfl rfl (fun w hS => vv_remU (c := x12 * a10) (d := p1) rfl rfl hx13)<|dh 0 rfl rfl (fun w hS => vv_usub (a := p1) (b := x13) rfl rfl)<|dh 0 rfl rfl (fun w hS => vv_uadd (a := a8) (b := p1 - x13) rfl rfl)<|dm 0 rfl rfl ?_
 obtain ⟨x14, hx14, hm⟩ := bnd hm
 refine dh 0 rfl rfl (fun w hS => vv_remU (c := a8 + (p1 - x13)) (d := p1) rfl rfl hx14)<|dm 0 rfl rfl<|dm 0 rfl rfl<|sd_nil<|block_n ?_
 have K_3 : Kz [] w1 w3 := (K2.gr G3)
 subst hrec1
 exact ⟨rfl, ⟨n1, a9, a10, a7 - (x11 * a9), x14⟩, sbq, ⟨hm, K_3⟩, Nat.lt_succ_self _⟩
theorem ref04_factor_w {p0 p1 p2 vp1 zp1 gp1 op1 r} (hm : ref04_factor p0 p1 p2 = some r) {w : World} (hp1 : Rd w zp1 gp1 op1 1 vp1 (p1.map uwc)) :
    Calls Tryz.prog 156 [wv p0, vp1, .int .i64 p2].toArray w fun e w' => ∃ v, e = .returned v ∧ (v = wv r ∧ Gr w w') := by
 unfold ref04_factor at hm
 refine calls_of_sw 48 Tryz.func156 rfl rfl rfl<|qs 1 rfl<|qm rfl<|qd 1 rfl<|qm rfl<|sd_done<|sw_seq<|qs 1 rfl<|qm rfl ?_
 refine sd_done<|sw_block<|sw_loopD (α := Nat × BitVec 64 × Int) (rg 7 40) (fun ⟨n1, a3, a4⟩ => [(7, wv a3), (8, .int .i64 a4)]) (fun ⟨n1, a3, a4⟩ wr => (fixN (ref04_factor_L1 p0 p1 p2) n1 (a3, a4) = some r) ∧ Kz [] w wr) (fun ⟨n1, a3, a4⟩ => n1) ⟨FUEL, 1#64, 0⟩ ?_ ?_ ?_
 · exact sbq
 · exact ⟨hm, Kz.refl _ _⟩
 clear hm; rintro ⟨n1, a3, a4⟩ w1 ⟨hm, K1⟩
 have hb := fix_succ hm; clear hm; obtain ⟨n1, rfl, hm⟩ := hb
 generalize hrec1 : fixN (ref04_factor_L1 p0 p1 p2) n1 = rec1 at hm
 unfold ref04_factor_L1 at hm
 try dsimp only at hm
 refine sw_seq<|qs 4 rfl<|qm rfl<|qm rfl ?_
 have B3 := (hp1.kz K1)
 refine qv rfl (vv_lenT (l := p1) (c := uwc) Tryz.underlying160 rfl B3)<|qv rfl (vv_lss (a := a4) (b := (p1.length : Int)) rfl rfl)<|sd_done<|cnF rfl (fun c1 => ?_) (fun c1 => ?_)
 · replace hm := iF c1 hm
   refine sw_exit<|then_x<|then_x<|block_x<|then_n<|qs 2 rfl<|qm rfl<|qm rfl<|sd_done<|sw_ret ?_
   have X11 := ((Gr.refl w).kz K1)
   cases hm
   refine ⟨_, _, rfl, res_1 rfl (rv_tmp rfl), ?_⟩
   exact ⟨rfl, X11⟩
 replace hm := iT c1 hm
 refine qu<|sw_seq<|sw_block<|sw_seq<|qs 3 rfl<|qm rfl<|qm rfl<|qv rfl (vv_eql (a := a4) (b := p2) rfl rfl)<|sd_done<|sw_cond rfl (fun c2 => ?_) (fun c2 => ?_)
 · replace hm := iT c2 hm
   refine sw_exit<|then_x<|block_x<|then_n<|qg 3 rfl<|qm rfl<|qv rfl (vv_add (k := .i64) (a := a4) (b := 1) rfl rfl)<|qm rfl<|sd_nil ?_
   have K_4 : Kz [] w w1 := K1
   subst hrec1
   exact ⟨rfl, ⟨n1, a3, w64 (a4 + 1)⟩, sbq, ⟨hm, K_4⟩, Nat.lt_succ_self _⟩
 replace hm := iF c2 hm
 refine qu<|sw_seq<|dw [([])] [] (.leaf [(0,10),(1,10),(2,10),(3,10),(4,10),(5,10),(6,10),(7,10),(8,10),(10,10),(9,0),(11,0),(12,10),(13,10),(14,10),(15,10),(16,10)]) ?_
 intro w2 G2 zw2
 refine sdz_leaf<|dm 0 rfl rfl<|dm 0 rfl rfl<|dm 0 rfl rfl ?_
 obtain ⟨y5, hy5, hm⟩ := bnd hm
 have B5 := (B3.gr G2)
 refine dh 0 rfl rfl (fun w hS => vv_ixT (i := a4) Tryz.underlying160 (one_24).siz rfl (Rd.kp B5 hS) rfl hy5)<|dh 0 rfl rfl (fun w hS => vv_el1T (q := 0) (u := wv y5) one_24 rfl (Rd.kp B5 hS) hy5 (by first | rfl | omega) rfl)<|dm 0 rfl rfl<|dm 0 rfl rfl ?_
 obtain ⟨y6, hy6, hm⟩ := bnd hm
 refine dh 0 rfl rfl (fun w hS => vv_ixT (i := p2) Tryz.underlying160 (one_24).siz rfl (Rd.kp B5 hS) rfl hy6)<|dh 0 rfl rfl (fun w hS => vv_el1T (q := 0) (u := wv y6) one_24 rfl (Rd.kp B5 hS) hy6 (by first | rfl | omega) rfl)<|dm 0 rfl rfl ?_
 obtain ⟨x7, hx7, hm⟩ := bnd hm
 refine qz [] rfl (eC en_224 rfl (ref04_minus_w hx7)) ⟨fun _ => tk0, trivial⟩ ?_
 rintro _ w3 ⟨rfl, G3⟩
 refine kG G3 ?_
 obtain ⟨x8, hx8, hm⟩ := bnd hm
 refine qz [] rfl (eC en_223 rfl (ref01_Inverse_w hx8)) ⟨fun _ => tk0, trivial⟩ ?_
 rintro _ w4 ⟨rfl, G4⟩
 refine kG G4 ?_
 have S8 := (((Kp.refl ([]) w2).gr G3).gr G4)
 refine dn 0 rfl rfl S8<|dn 0 rfl rfl S8<|dn 0 rfl rfl S8<|dn 0 rfl rfl S8<|dn 0 rfl rfl S8<|sd_done<|qg 13 rfl<|qm rfl<|qm rfl<|qm rfl ?_
 obtain ⟨y9, hy9, hm⟩ := bnd hm
 have B9 := ((B5.gr G3).gr G4)
 refine qv rfl (vv_ixT (i := a4) Tryz.underlying160 (one_24).siz rfl B9 rfl hy9)<|qv rfl (vv_el1T (q := 0) (u := wv y9) one_24 rfl B9 hy9 (by first | rfl | omega) rfl)<|qv rfl (vv_umul (a := a3) (b := y9) rfl rfl)<|qm rfl ?_
 obtain ⟨x10, hx10, hm⟩ := bnd hm
 refine qv rfl (vv_remU (c := a3 * y9) (d := p0) rfl rfl hx10)<|qm rfl<|qv rfl (vv_umul (a := x10) (b := x8.1) rfl rfl)<|qm rfl ?_
 obtain ⟨x11, hx11, hm⟩ := bnd hm
 refine qv rfl (vv_remU (c := x10 * x8.1) (d := p0) rfl rfl hx11)<|qm rfl<|sd_nil<|block_n<|then_n<|qg 3 rfl<|qm rfl<|qv rfl (vv_add (k := .i64) (a := a4) (b := 1) rfl rfl)<|qm rfl<|sd_nil ?_
 have K_10 : Kz [] w w4 := (((K1.gr G2).gr G3).gr G4)
 subst hrec1
 exact ⟨rfl, ⟨n1, x11, w64 (a4 + 1)⟩, sbq, ⟨hm, K_10⟩, Nat.lt_succ_self _⟩
theorem ref04_Open_w {p0 p1 p2 vp1_1 zp1_1 gp1_1 op1_1 vp2_0 zp2_0 gp2_0 op2_0 vp2_2 zp2_2 gp2_2 op2_2 r} (hm : ref04_Open p0 p1 p2 = some r) {w : World} (hp1_1 : Rd w zp1_1 gp1_1 op1_1 18 vp1_1 (p1.Labels.map TLabel.cs)) (hp2_0 : Rd w zp2_0 gp2_0 op2_0 18 vp2_0 (p2.Items.map TItem.cs)) (hp2_2 : Rd w zp2_2 gp2_2 op2_2 2 vp2_2 (p2.Points.map TPoint.cs)) :
    Calls Tryz.prog 72 [.agg (TScheme.cs p0).toArray, .agg (TSecret.cs p1 vp1_1).toArray, .agg (THeader.cs p2 vp2_0 vp2_2).toArray].toArray w fun e w' => ∃ v, e = .returned v ∧ (v = .tuple [kv r.1, .int .i64 r.2].toArray ∧ Gr w w') := by
 have lt1 := hp1_1.lth
 have lt2 := hp2_0.lth
 have lt3 := hp2_2.lth
 unfold ref04_Open at hm
 refine calls_of_sw 131 Tryz.func72 rfl rfl rfl<|qs 5 rfl<|qe rfl (ev_box (cs := TScheme.cs p0) rfl rfl) ?_
 rintro _ w1 ⟨b1, rfl, hbw1, Bw1, G1⟩
 have lt5 := Bw1.lt
 refine qe rfl (ev_box (cs := TSecret.cs p1 vp1_1) rfl rfl) ?_
 rintro _ w2 ⟨b2, rfl, hbw2, Bw2, G2⟩
 have lt7 := Bw2.lt
 refine qe rfl (ev_box (cs := THeader.cs p2 vp2_0 vp2_2) rfl rfl) ?_
 rintro _ w3 ⟨b3, rfl, hbw3, Bw3, G3⟩
 have lt9 := Bw3.lt
 refine qe rfl (ev_alloc (cs := kb k0) zv_23 rfl) ?_
 rintro _ w4 ⟨b4, rfl, hbw4, Bw4, G4⟩
 have lt11 := Bw4.lt
 refine qm rfl<|sd_done<|sw_seq<|qs 3 rfl ?_
 have Y1 := Gr.trans (Gr.trans G2 G3) G4
 have B12 := (Bw1.gr Y1)
 refine qv rfl (vv_loadW agg_28 rfl B12 rfl) ?_
 obtain ⟨x1, hx1, hm⟩ := bnd hm
 refine qe rfl (eC en_141 rfl (ref04_Valid_w hx1)) ?_
 rintro _ w5 ⟨rfl, G5⟩
 have z13 := G5.size
 refine qv rfl (vv_not rfl)<|sd_done<|sw_cond rfl (fun c1 => ?_) (fun c1 => ?_)
 · replace hm := cnd_t c1 hm
   refine qs 3 rfl<|qv rfl (vv_buildZ bz_23) ?_
   have B14 := (Bw4.gr G5)
   refine qe rfl (ev_stW agg_23 rfl rfl rfl B14 rfl rfl) ?_
   rintro _ w6 ⟨Bw6, M6⟩
   refine qm rfl<|qb ?_
   have Y2 := Gr.trans (Gr.trans G1 Y1) G5
   have X16 := (((Gr.refl w).trans Y2).md M6)
   cases hm
   refine ⟨_, _, rfl, res_2 rfl (rv_cellW agg_23 rfl Bw6 rfl) (rv_tmp rfl), ?_⟩
   exact ⟨rfl, X16⟩
 replace hm := cnd_f c1 hm
 refine qu<|sw_seq<|dw [([])] [] (.leaf [(0,10),(1,10),(2,10),(3,10),(4,10),(5,10),(6,10),(7,10)]) ?_
 intro w7 G7 zw7
 refine sdz_leaf<|dh 0 rfl rfl (fun w hS => vv_fieldAddr fa_28_3 rfl)<|dh 0 rfl rfl (fun w hS => vv_fieldAddr fa_26_0 rfl) ?_
 have Y3 := Gr.trans G5 G7
 have B17 := (B12.gr Y3)
 refine dh 0 rfl rfl (fun w hS => vv_load1 (v := wv p0.Group.P) one_24 rfl (Bx.kp B17 hS) rfl)<|dh 0 rfl rfl (fun w hS => vv_fieldAddr fa_28_3 rfl)<|dh 0 rfl rfl (fun w hS => vv_fieldAddr fa_26_1 rfl)<|dh 0 rfl rfl (fun w hS => vv_load1 (v := wv p0.Group.Q) one_24 rfl (Bx.kp B17 hS) rfl)<|dm 0 rfl rfl<|dm 0 rfl rfl<|sd_done<|sw_seq ?_
 have Y4 := Gr.trans (Gr.trans G1 Y1) Y3
 have X18 := ((Gr.refl w).trans Y4)
 refine qj (β := Bool) (rg 26 24) (fun a2 => [(49, .bool a2)]) (fun a2 wr => (ref04_Open_J1 p0 p1 p2 a2 = some r) ∧ Kz [] w7 wr) ?_ ?_
 · refine qg 24 rfl<|qv rfl (vv_loadW agg_28 rfl B17 rfl) ?_
   have Y5 := Gr.trans G4 Y3
   have B104 := (Bw3.gr Y5)
   refine qv rfl (vv_loadW agg_48 rfl B104 rfl) ?_
   have B105 := (hp2_0.gr Y4)
   have B106 := (hp2_2.gr Y4)
   obtain ⟨x34, hx34, hm⟩ := bnd hm
   refine qe rfl (eC en_154 rfl (ref04_ValidHeader_w hx34 B105 B106)) ?_
   rintro _ w41 ⟨rfl, G41⟩
   refine qv rfl (vv_not rfl)<|qp rfl (vv_move rfl) (fun c7 => ?_) (fun c7 => ?_)
   · replace hm := cnd_t c7 hm
     refine qk rfl<|qk rfl<|qk rfl<|qk rfl<|qm rfl<|qm rfl<|qk rfl<|qk rfl<|qk rfl<|qk rfl<|qk rfl<|qm rfl<|qm rfl ?_
     refine qk rfl<|qk rfl<|qk rfl<|qk rfl<|qk rfl<|qm rfl<|sd_nil ?_
     exact ⟨rfl, true, sbq, hm, (kz0.gr G41)⟩
   replace hm := cnd_f c7 hm
   refine qv rfl (vv_fieldAddr fa_33_2 rfl)<|qv rfl (vv_fieldAddr fa_31_0 rfl) ?_
   have B109 := (((Bw2.gr G3).gr Y5).gr G41)
   refine qv rfl (vv_load1 (v := wv p1.Share.X) one_24 rfl B109 rfl)<|qv rfl (vv_lssU (c := p1.Share.X) (d := 1#64) rfl rfl)<|qm rfl<|qp rfl (vv_move rfl) (fun c8 => ?_) (fun c8 => ?_)
   · replace hm := iT c8 hm
     refine qk rfl<|qk rfl<|qk rfl<|qk rfl<|qk rfl<|qm rfl<|qm rfl<|qk rfl<|qk rfl<|qk rfl<|qk rfl<|qk rfl<|qm rfl ?_
     refine sd_nil ?_
     exact ⟨rfl, true, sbq, hm, (kz0.gr G41)⟩
   replace hm := iF c8 hm
   refine qv rfl (vv_fieldAddr fa_33_2 rfl)<|qv rfl (vv_fieldAddr fa_31_0 rfl)<|qv rfl (vv_load1 (v := wv p1.Share.X) one_24 rfl B109 rfl)<|qm rfl<|qv rfl (vv_geqU (c := p1.Share.X) (d := p0.Group.Q) rfl rfl)<|qm rfl<|qp rfl (vv_move rfl) (fun c9 => ?_) (fun c9 => ?_)
   · replace hm := iT c9 hm
     refine qk rfl<|qk rfl<|qk rfl<|qk rfl<|qk rfl<|qm rfl<|sd_nil ?_
     exact ⟨rfl, true, sbq, hm, (kz0.gr G41)⟩
   replace hm := iF c9 hm
   refine qv rfl (vv_fieldAddr fa_33_2 rfl)<|qv rfl (vv_fieldAddr fa_31_1 rfl)<|qv rfl (vv_load1 (v := wv p1.Share.Y) one_24 rfl B109 rfl)<|qm rfl<|qv rfl (vv_geqU (c := p1.Share.Y) (d := p0.Group.Q) rfl rfl)<|qm rfl<|sd_nil ?_
   exact ⟨rfl, (decide (p0.Group.Q ≤ p1.Share.Y)), sbq, hm, (kz0.gr G41)⟩
 clear hm; rintro a2 w8 ⟨hm, K8⟩
 have z19 := K8.size
 unfold ref04_Open_J1 at hm
 refine sw_cond rfl (fun c2 => ?_) (fun c2 => ?_)
 · replace hm := cnd_t c2 hm
   refine qs 3 rfl<|qv rfl (vv_buildZ bz_23) ?_
   have B20 := ((Bw4.gr Y3).kz K8)
   refine qe rfl (ev_stW agg_23 rfl rfl rfl B20 rfl rfl) ?_
   rintro _ w9 ⟨Bw9, M9⟩
   refine qm rfl<|qb ?_
   have X22 := ((X18.kz K8).md M9)
   cases hm
   refine ⟨_, _, rfl, res_2 rfl (rv_cellW agg_23 rfl Bw9 rfl) (rv_tmp rfl), ?_⟩
   exact ⟨rfl, X22⟩
 replace hm := cnd_f c2 hm
 refine qu<|qs 5 rfl<|qv rfl (vv_fieldAddr fa_33_2 rfl)<|qv rfl (vv_fieldAddr fa_31_0 rfl) ?_
 have Y6 := Gr.trans (Gr.trans G3 G4) Y3
 have B23 := ((Bw2.gr Y6).kz K8)
 refine qv rfl (vv_load1 (v := wv p1.Share.X) one_24 rfl B23 rfl)<|qe rfl (ev_litT [p1.Share.X] uwc bsl_160_1 rfl rfl (ws_of rfl) rfl rfl rfl) ?_
 rintro vw10 w10 ⟨gw10, hbw10, Ow10, G10⟩
 have z24 := G10.size
 have lt25 := Ow10.lth
 refine qm rfl<|qd 9 rfl<|qv rfl (vv_fieldAddr fa_48_1 rfl) ?_
 have Y7 := Gr.trans G4 Y3
 have B26 := (((Bw3.gr Y7).kz K8).gr G10)
 refine qv rfl (vv_load1 (v := wv p2.Base) one_24 rfl B26 rfl)<|qv rfl (vv_fieldAddr fa_33_2 rfl)<|qv rfl (vv_fieldAddr fa_31_1 rfl) ?_
 have B27 := (B23.gr G10)
 refine qv rfl (vv_load1 (v := wv p1.Share.Y) one_24 rfl B27 rfl)<|qm rfl ?_
 obtain ⟨x3, hx3, hm⟩ := bnd hm
 refine qe rfl (eC en_155 rfl (ref01_Power_w hx3)) ?_
 rintro _ w11 ⟨rfl, G11⟩
 have z28 := G11.size
 refine qe rfl (ev_litT [x3] uwc bsl_160_1 rfl rfl (ws_of rfl) rfl rfl rfl) ?_
 rintro vw12 w12 ⟨gw12, hbw12, Ow12, G12⟩
 have z29 := G12.size
 refine qm rfl<|sd_done<|sw_seq<|qs 1 rfl<|qm rfl<|sd_done<|sw_block ?_
 have Y8 := Gr.trans (Gr.trans G10 G11) G12
 have X31 := ((X18.kz K8).trans Y8)
 have B32 := (((hp1_1.gr Y4).kz K8).gr Y8)
 have B33 := (((hp2_0.gr Y4).kz K8).gr Y8)
 have B34 := (((hp2_2.gr Y4).kz K8).gr Y8)
 have Y9 := Gr.trans G11 G12
 have B35 := (Ow10.gr Y9)
 refine sw_loopD (α := Nat × List (BitVec 64) × List (BitVec 64) × Int × Value × Nat × Nat × Value × Nat × Nat) ([7, 10, 11, 12] ++ rg 63 36) (fun ⟨n2, a9, a11, a13, vy10, zy10, gy10, vy12, zy12, gy12⟩ => [(7, .int .i64 0), (10, vy10), (11, vy12), (12, .int .i64 a13)]) (fun ⟨n2, a9, a11, a13, vy10, zy10, gy10, vy12, zy12, gy12⟩ wr => (fixN (ref04_Open_L2 p0 p1 p2) n2 (a9, a11, a13) = some r) ∧ Own wr zy10 gy10 24 1 vy10 (a9.map uwc) ∧ Hdn (zy10 = 0 ∨ (gy10 = gw10 ∧ 1 ≠ 0) ∨ w12.heap.size ≤ gy10) ∧ Own wr zy12 gy12 24 1 vy12 (a11.map uwc) ∧ Hdn (zy12 = 0 ∨ (gy12 = gw12 ∧ 1 ≠ 0) ∨ w12.heap.size ≤ gy12) ∧ Hdn (zy12 = 0 ∨ zy10 = 0 ∨ gy12 ≠ gy10) ∧ Kz [(1, gw10), (1, gw12)] w12 wr) (fun ⟨n2, a9, a11, a13, vy10, zy10, gy10, vy12, zy12, gy12⟩ => n2) ⟨FUEL, [p1.Share.X], [x3], 0, vw10, 1, gw10, vw12, 1, gw12⟩ ?_ ?_ ?_
 · exact sbq
 · exact ⟨hm, B35, ⟨tk0⟩, Ow12, ⟨tk0⟩, ⟨(.inr (tk1 lt25.o))⟩, Kz.refl _ _⟩
 clear hm; rintro ⟨n2, a9, a11, a13, vy10, zy10, gy10, vy12, zy12, gy12⟩ w13 ⟨hm, Fw13_0, Fw13_1, Fw13_2, Fw13_3, Fw13_4, K13⟩
 have z36 := K13.size
 have lt38 := Fw13_2.lth
 have hb := fix_succ hm; clear hm; obtain ⟨n2, rfl, hm⟩ := hb
 generalize hrec2 : fixN (ref04_Open_L2 p0 p1 p2) n2 = rec2 at hm
 unfold ref04_Open_L2 at hm
 try dsimp only at hm
 refine sw_seq<|qs 5 rfl<|qm rfl<|qv rfl (vv_fieldAddr fa_48_2 rfl) ?_
 have B39 := ((B26.gr Y9).kz K13 (tk2 ((.inr tk0) : 1 = 0 ∨ gw10 ≠ b3) ((.inr tk0) : 1 = 0 ∨ gw12 ≠ b3)))
 refine qv rfl (vv_load1 (v := vp2_2) one_46 rfl B39 rfl) ?_
 have B40 := (B34.kz K13 (tk2 ((pv_sw (.inr (tk1 lt3.o))) : zp2_2 = 0 ∨ 1 = 0 ∨ gp2_2 ≠ gw10) ((pv_sw (.inr (tk1 lt3.o))) : zp2_2 = 0 ∨ 1 = 0 ∨ gp2_2 ≠ gw12)))
 refine qv rfl (vv_lenT (l := p2.Points) (c := TPoint.cs) Tryz.underlying46 rfl B40)<|qv rfl (vv_lss (a := a13) (b := (p2.Points.length : Int)) rfl rfl)<|sd_done<|sw_cond rfl (fun c3 => ?_) (fun c3 => ?_)
 · replace hm := iT c3 hm
   refine qu<|sw_seq<|sw_block<|sw_seq<|sw_seq<|dw [([])] [] (.leaf [(0,10),(1,10),(2,10),(3,10),(4,10),(5,10),(6,10),(7,10),(8,10),(9,10)]) ?_
   intro w14 G14 zw14
   refine sdz_leaf<|dh 0 rfl rfl (fun w hS => vv_fieldAddr fa_48_2 rfl) ?_
   have B41 := (B39.gr G14)
   refine dh 0 rfl rfl (fun w hS => vv_load1 (v := vp2_2) one_46 rfl (Bx.kp B41 hS) rfl)<|dm 0 rfl rfl ?_
   obtain ⟨y14, hy14, hm⟩ := bnd hm
   have B42 := (B40.gr G14)
   refine dh 0 rfl rfl (fun w hS => vv_ixT (i := a13) Tryz.underlying46 (agg_31).siz rfl (Rd.kp B42 hS) rfl hy14)<|dh 0 rfl rfl (fun w hS => vv_fieldAddr fa_31_0 rfl)<|dh 0 rfl rfl (fun w hS => vv_el1T (q := 0) (u := wv y14.X) one_24 rfl (Rd.kp B42 hS) hy14 (by first | rfl | omega) rfl)<|dh 0 rfl rfl (fun w hS => vv_fieldAddr fa_33_2 rfl)<|dh 0 rfl rfl (fun w hS => vv_fieldAddr fa_31_0 rfl) ?_
   have B43 := (((B27.gr Y9).kz K13 (tk2 ((.inr tk0) : 1 = 0 ∨ gw10 ≠ b2) ((.inr tk0) : 1 = 0 ∨ gw12 ≠ b2))).gr G14)
   refine dh 0 rfl rfl (fun w hS => vv_load1 (v := wv p1.Share.X) one_24 rfl (Bx.kp B43 hS) rfl)<|dh 0 rfl rfl (fun w hS => vv_eqlU (c := y14.X) (d := p1.Share.X) rfl rfl)<|sd_done<|sw_cond rfl (fun c4 => ?_) (fun c4 => ?_)
   · replace hm := iT c4 hm
     refine qs 3 rfl<|qv rfl (vv_buildZ bz_23) ?_
     have B44 := (((((Bw4.gr Y3).kz K8).gr Y8).kz K13 (tk2 ((.inr tk0) : 1 = 0 ∨ gw10 ≠ b4) ((.inr tk0) : 1 = 0 ∨ gw12 ≠ b4))).gr G14)
     refine qe rfl (ev_stW agg_23 rfl rfl rfl B44 rfl rfl) ?_
     rintro _ w15 ⟨Bw15, M15⟩
     refine qm rfl<|qb<|block_r<|then_r<|then_r<|block_r<|then_r ?_
     have X46 := (((X31.kz K13 (tk2 ((.inr tk0) : 1 = 0 ∨ w.heap.size ≤ gw10) ((.inr tk0) : 1 = 0 ∨ w.heap.size ≤ gw12))).trans G14).md M15)
     cases hm
     refine ⟨_, _, rfl, res_2 rfl (rv_cellW agg_23 rfl Bw15 rfl) (rv_tmp rfl), ?_⟩
     exact ⟨rfl, X46⟩
   replace hm := iF c4 hm
   refine qu<|qs 10 rfl<|qm rfl<|qv rfl (vv_fieldAddr fa_48_2 rfl)<|qv rfl (vv_load1 (v := vp2_2) one_46 rfl B41 rfl)<|qm rfl ?_
   obtain ⟨y15, hy15, hm⟩ := bnd hm
   refine qv rfl (vv_ixT (i := a13) Tryz.underlying46 (agg_31).siz rfl B42 rfl hy15)<|qv rfl (vv_fieldAddr fa_31_0 rfl)<|qv rfl (vv_el1T (q := 0) (u := wv y15.X) one_24 rfl B42 hy15 (by first | rfl | omega) rfl)<|qe rfl (ev_litT [y15.X] uwc bsl_160_1 rfl rfl (ws_of rfl) rfl rfl rfl) ?_
   rintro vw16 w16 ⟨gw16, hbw16, Ow16, G16⟩
   have z47 := G16.size
   have B49 := ((Fw13_0.gr G14).gr G16)
   obtain ⟨l16, hl16, hm⟩ := bnd hm
   refine qe rfl (ev_appT (l := a9) (m := [y15.X]) (c := uwc) apt_160 rfl rfl B49 (Own.rd Ow16) hl16 (by decide)) ?_
   rintro vw17 w17 ⟨zw17, gw17, Ow17, Aw17, qw17, rw17⟩
   have z50 := Aw17.size
   refine qm rfl<|sd_done<|qg 10 rfl<|qm rfl<|qv rfl (vv_fieldAddr fa_48_2 rfl) ?_
   have B51 := ((B41.gr G16).ka Aw17 (tk1 (pb_1 (b := b3) Fw13_1 (.inr tk0))))
   refine qv rfl (vv_load1 (v := vp2_2) one_46 rfl B51 rfl)<|qm rfl ?_
   obtain ⟨y17, hy17, hm⟩ := bnd hm
   have B52 := ((B42.gr G16).ka Aw17 (tk1 ((pv_sw (pv_1 (A := (fun x => zp2_2 = 0 ∨ x ≠ gp2_2)) Fw13_1 (.inr (tk1 lt3.o)) (fun x hx => (tk1 lt3.o)))) : zp2_2 = 0 ∨ zy10 = 0 ∨ gp2_2 ≠ gy10)))
   refine qv rfl (vv_ixT (i := a13) Tryz.underlying46 (agg_31).siz rfl B52 rfl hy17)<|qv rfl (vv_fieldAddr fa_31_1 rfl)<|qv rfl (vv_el1T (q := 1) (u := wv y17.Y) one_24 rfl B52 hy17 (by first | rfl | omega) rfl)<|qe rfl (ev_litT [y17.Y] uwc bsl_160_1 rfl rfl (ws_of rfl) rfl rfl rfl) ?_
   rintro vw18 w18 ⟨gw18, hbw18, Ow18, G18⟩
   have z53 := G18.size
   have B55 := ((((Fw13_2.gr G14).gr G16).ka Aw17 (tk1 ((tk1 Fw13_4.o) : zy12 = 0 ∨ zy10 = 0 ∨ gy12 ≠ gy10))).gr G18)
   obtain ⟨l18, hl18, hm⟩ := bnd hm
   refine qe rfl (ev_appT (l := a11) (m := [y17.Y]) (c := uwc) apt_160 rfl rfl B55 (Own.rd Ow18) hl18 (by decide)) ?_
   rintro vw19 w19 ⟨zw19, gw19, Ow19, Aw19, qw19, rw19⟩
   refine qm rfl<|sd_nil<|block_n<|then_n<|qg 3 rfl<|qm rfl<|qv rfl (vv_add (k := .i64) (a := a13) (b := 1) rfl rfl)<|qm rfl<|sd_nil ?_
   have K_57 : Kz [(1, gw10), (1, gw12)] w12 w19 := (((((K13.gr G14).gr G16).ka Aw17 (tk1 (pv_1 (A := (fun x => (x = gw10 ∧ 1 ≠ 0) ∨ (x = gw12 ∧ 1 ≠ 0) ∨ w12.heap.size ≤ x)) Fw13_1 tk0))).gr G18).ka Aw19 (tk1 (pv_1 (A := (fun x => (x = gw10 ∧ 1 ≠ 0) ∨ (x = gw12 ∧ 1 ≠ 0) ∨ w12.heap.size ≤ x)) Fw13_3 tk0)))
   have B58 := ((Ow17.gr G18).ka Aw19 (tk1 (pv_app (A := (fun x => zy12 = 0 ∨ x ≠ gy12)) rw17 (tk1 Fw13_4.o) (fun x hx => (tk1 lt38.o)))))
   subst hrec2
   exact ⟨rfl, ⟨n2, l16, l18, w64 (a13 + 1), vw17, zw17, gw17, vw19, zw19, gw19⟩, sbq, ⟨hm, B58, ⟨(pv_app (A := (fun x => (x = gw10 ∧ 1 ≠ 0) ∨ w12.heap.size ≤ x)) rw17 (pv_1 (A := (fun x => (x = gw10 ∧ 1 ≠ 0) ∨ w12.heap.size ≤ x)) Fw13_1 tk0))⟩, Ow19, ⟨(pv_app (A := (fun x => (x = gw12 ∧ 1 ≠ 0) ∨ w12.heap.size ≤ x)) rw19 (pv_1 (A := (fun x => (x = gw12 ∧ 1 ≠ 0) ∨ w12.heap.size ≤ x)) Fw13_3 tk0))⟩, ⟨(pv_app (A := (fun x => zw17 = 0 ∨ x ≠ gw17)) rw19 (pv_sw (pv_app (A := (fun x => zy12 = 0 ∨ x ≠ gy12)) rw17 (tk1 Fw13_4.o) (fun x hx => (tk1 lt38.o)))) (fun x hx => (tk1 qw17.o)))⟩, K_57⟩, Nat.lt_succ_self _⟩
 replace hm := iF c3 hm
 refine sw_exit<|then_x<|then_x<|block_x<|then_n<|qs 1 rfl<|qm rfl<|sd_done<|sw_seq<|qs 1 rfl<|qm rfl ?_
 refine sd_done<|sw_block ?_
 have X59 := (X31.kz K13 (tk2 ((.inr tk0) : 1 = 0 ∨ w.heap.size ≤ gw10) ((.inr tk0) : 1 = 0 ∨ w.heap.size ≤ gw12)))
 refine sw_loopD (α := Nat × BitVec 64 × Int) ([13, 14] ++ rg 99 20) (fun ⟨n3, a21, a22⟩ => [(13, wv a21), (14, .int .i64 a22)]) (fun ⟨n3, a21, a22⟩ wr => (fixN (ref04_Open_L3 p0 p2 a9 a11) n3 (a21, a22) = some r) ∧ Kz [] w13 wr) (fun ⟨n3, a21, a22⟩ => n3) ⟨FUEL, 1#64, 0⟩ ?_ ?_ ?_
 · exact sbq
 · exact ⟨hm, Kz.refl _ _⟩
 clear hm; rintro ⟨n3, a21, a22⟩ w20 ⟨hm, K20⟩
 have hb := fix_succ hm; clear hm; obtain ⟨n3, rfl, hm⟩ := hb
 generalize hrec3 : fixN (ref04_Open_L3 p0 p2 a9 a11) n3 = rec3 at hm
 unfold ref04_Open_L3 at hm
 try dsimp only at hm
 refine sw_seq<|qs 4 rfl<|qm rfl<|qm rfl ?_
 have B63 := (Fw13_0.kz K20)
 refine qv rfl (vv_lenT (l := a9) (c := uwc) Tryz.underlying160 rfl (Own.rd B63))<|qv rfl (vv_lss (a := a22) (b := (a9.length : Int)) rfl rfl)<|sd_done<|sw_cond rfl (fun c5 => ?_) (fun c5 => ?_)
 · replace hm := iT c5 hm
   refine qu<|sw_seq<|sw_block<|dw [([])] [] (.leaf [(0,10),(1,10),(2,10),(3,10),(4,10),(5,10),(6,10),(7,10),(9,10),(12,10),(8,0),(10,0),(11,10),(13,10),(14,10)]) ?_
   intro w21 G21 zw21
   refine sdz_leaf<|dm 0 rfl rfl<|dm 0 rfl rfl<|dm 0 rfl rfl ?_
   obtain ⟨y23, hy23, hm⟩ := bnd hm
   have B64 := ((Fw13_2.kz K20).gr G21)
   refine dh 0 rfl rfl (fun w hS => vv_ixT (i := a22) Tryz.underlying160 (one_24).siz rfl (Own.rd (Own.kp B64 hS)) rfl hy23)<|dh 0 rfl rfl (fun w hS => vv_el1T (q := 0) (u := wv y23) one_24 rfl (Own.rd (Own.kp B64 hS)) hy23 (by first | rfl | omega) rfl)<|dm 0 rfl rfl<|dm 0 rfl rfl<|dm 0 rfl rfl<|dm 0 rfl rfl<|dm 0 rfl rfl ?_
   have B65 := (B63.gr G21)
   obtain ⟨x24, hx24, hm⟩ := bnd hm
   refine qz [] rfl (eC en_156 rfl (ref04_factor_w hx24 (Own.rd B65))) ⟨fun _ => tk0, trivial⟩ ?_
   rintro _ w22 ⟨rfl, G22⟩
   refine kG G22 ?_
   obtain ⟨x25, hx25, hm⟩ := bnd hm
   refine qz [] rfl (eC en_155 rfl (ref01_Power_w hx25)) ⟨fun _ => tk0, trivial⟩ ?_
   rintro _ w23 ⟨rfl, G23⟩
   refine kG G23 ?_
   have S68 := (((Kp.refl ([]) w21).gr G22).gr G23)
   refine qh 0 rfl rfl S68 (fun w hS => vv_umul (a := a21) (b := x25) rfl rfl) ?_
   obtain ⟨x26, hx26, hm⟩ := bnd hm
   refine qh 0 rfl rfl S68 (fun w hS => vv_remU (c := a21 * x25) (d := p0.Group.P) rfl rfl hx26)<|dn 0 rfl rfl S68<|sd_nil<|block_n<|then_n<|qg 3 rfl<|qm rfl<|qv rfl (vv_add (k := .i64) (a := a22) (b := 1) rfl rfl)<|qm rfl<|sd_nil ?_
   have K_69 : Kz [] w13 w23 := (((K20.gr G21).gr G22).gr G23)
   subst hrec3
   exact ⟨rfl, ⟨n3, x26, w64 (a22 + 1)⟩, sbq, ⟨hm, K_69⟩, Nat.lt_succ_self _⟩
 replace hm := iF c5 hm
 refine sw_exit<|then_x<|then_x<|block_x<|then_n ?_
 have X70 := (X59.kz K20)
 refine qj (β := W2 × Nat) ([15] ++ rg 119 5) (fun ⟨a28, bq27⟩ => [(15, .pointer (some ⟨bq27, 0, none⟩))]) (fun ⟨a28, bq27⟩ wr => (ref04_Open_J4 p2 a28 = some r) ∧ Bx wr bq27 23 (kb a28) ∧ w20.heap.size ≤ bq27 ∧ Kz [] w20 wr) ?_ ?_
 · refine dw [([])] [] (.fork [(0,10),(2,10),(3,10)] (.fork [(1,0)] (.leaf [(4,0),(5,0),(6,0)]) (.leaf [(5,0),(4,0),(6,0)])) (.leaf [(5,0),(1,0),(4,0),(6,0)])) ?_
   intro w29 G29 zw29
   refine sdz_fork<|dm 0 rfl rfl<|dh 0 rfl rfl (fun w hS => vv_fieldAddr fa_48_3 rfl) ?_
   have B84 := ((B39.kz K20).gr G29)
   refine dh 0 rfl rfl (fun w hS => vv_loadM (vs := kb p2.Box) agg_23 rfl (Bx.kp B84 hS) rfl rfl)<|sd_fork ?_ ?_
   · refine sdz_fork ?_
     obtain ⟨x29, hx29, hm⟩ := bnd hm
     refine qz [] rfl (eC en_158 rfl (ref04_MaskKey_w hx29)) ⟨fun _ => tk0, trivial⟩ ?_
     rintro _ w30 ⟨rfl, G30⟩
     have z85 := G30.size
     refine kG G30<|sd_fork ?_ ?_
     · refine sdz_leaf ?_
       obtain ⟨x30, hx30, hm⟩ := bnd hm
       refine qz [] rfl (eC en_157 rfl (ref02_Decrypt_w hx30)) ⟨fun _ => tk0, trivial⟩ ?_
       rintro _ w31 ⟨rfl, G31⟩
       have z86 := G31.size
       refine kG G31<|qz [] rfl (ev_alloc (cs := kb k0) zv_23 rfl) ⟨fun _ => tk0, trivial⟩ ?_
       rintro _ w32 ⟨b32, rfl, hbw32, Bw32, G32⟩
       refine kG G32<|qz [(1, b32)] rfl (ev_stW agg_23 rfl rfl rfl Bw32 rfl rfl) ⟨fun _ => tk0, trivial⟩ ?_
       rintro _ w33 ⟨Bw33, M33⟩
       refine kM M33<|sd_nil ?_
       exact ⟨rfl, ⟨x30, b32⟩, sbq, hm, Bw33, (by omega), (((((kz0.gr G29).gr G30).gr G31).gr G32).md M33)⟩
     refine sdz_leaf<|qz [] rfl (ev_alloc (cs := kb k0) zv_23 rfl) ⟨fun _ => tk0, trivial⟩ ?_
     rintro _ w34 ⟨b34, rfl, hbw34, Bw34, G34⟩
     refine kG G34 ?_
     obtain ⟨x31, hx31, hm⟩ := bnd hm
     refine qz [] rfl (eC en_157 rfl (ref02_Decrypt_w hx31)) ⟨fun _ => tk0, trivial⟩ ?_
     rintro _ w35 ⟨rfl, G35⟩
     refine kG G35 ?_
     have B94 := (Bw34.gr G35)
     refine qz [(1, b34)] rfl (ev_stW agg_23 rfl rfl rfl B94 rfl rfl) ⟨fun _ => tk0, trivial⟩ ?_
     rintro _ w36 ⟨Bw36, M36⟩
     refine kM M36<|sd_nil ?_
     exact ⟨rfl, ⟨x31, b34⟩, sbq, hm, Bw36, (by omega), (((((kz0.gr G29).gr G30).gr G34).gr G35).md M36)⟩
   refine sdz_leaf<|qz [] rfl (ev_alloc (cs := kb k0) zv_23 rfl) ⟨fun _ => tk0, trivial⟩ ?_
   rintro _ w37 ⟨b37, rfl, hbw37, Bw37, G37⟩
   refine kG G37 ?_
   obtain ⟨x32, hx32, hm⟩ := bnd hm
   refine qz [] rfl (eC en_158 rfl (ref04_MaskKey_w hx32)) ⟨fun _ => tk0, trivial⟩ ?_
   rintro _ w38 ⟨rfl, G38⟩
   refine kG G38 ?_
   obtain ⟨x33, hx33, hm⟩ := bnd hm
   refine qz [] rfl (eC en_157 rfl (ref02_Decrypt_w hx33)) ⟨fun _ => tk0, trivial⟩ ?_
   rintro _ w39 ⟨rfl, G39⟩
   refine kG G39 ?_
   have B101 := ((Bw37.gr G38).gr G39)
   refine qz [(1, b37)] rfl (ev_stW agg_23 rfl rfl rfl B101 rfl rfl) ⟨fun _ => tk0, trivial⟩ ?_
   rintro _ w40 ⟨Bw40, M40⟩
   refine kM M40<|sd_nil ?_
   exact ⟨rfl, ⟨x33, b37⟩, sbq, hm, Bw40, (by omega), (((((kz0.gr G29).gr G37).gr G38).gr G39).md M40)⟩
 clear hm; rintro ⟨a28, bq27⟩ w24 ⟨hm, Fw24_0, Fw24_1, K24⟩
 unfold ref04_Open_J4 at hm
 refine sw_seq<|sw_seq<|dw [([])] [] (.leaf [(0,10),(2,10),(3,10),(1,0),(4,10)]) ?_
 intro w25 G25 zw25
 refine sdz_leaf ?_
 have B73 := (Fw24_0.gr G25)
 refine dh 0 rfl rfl (fun w hS => vv_loadW agg_23 rfl (Bx.kp B73 hS) rfl)<|dh 0 rfl rfl (fun w hS => vv_fieldAddr fa_48_4 rfl) ?_
 have B74 := (((B39.kz K20).kz K24).gr G25)
 refine dh 0 rfl rfl (fun w hS => vv_loadM (vs := kb p2.Check) agg_23 rfl (Bx.kp B74 hS) rfl rfl)<|qz [] rfl (eC en_64 rfl (rderive_c a28 (un8 53#8) (un8_nn _) (un8_le _) 0#64 _)) ⟨fun _ => tk0, trivial⟩ ?_
 rintro _ w26 ⟨rfl, G26⟩
 refine kG G26 ?_
 have S76 := ((Kp.refl ([]) w25).gr G26)
 refine qh 0 rfl rfl S76 (fun w hS => vv_neqS (cf := kb) (a := drv a28 (un8 53#8) 0#64) (b := p2.Check) eqt_23 rfl rfl rfl rfl (fun h => kb_inj h))<|sd_done<|sw_cond rfl (fun c6 => ?_) (fun c6 => ?_)
 · replace hm := iT c6 hm
   refine qs 3 rfl<|qv rfl (vv_buildZ bz_23) ?_
   have Y10 := Gr.trans G25 G26
   have B77 := (((((((Bw4.gr Y3).kz K8).gr Y8).kz K13 (tk2 ((.inr tk0) : 1 = 0 ∨ gw10 ≠ b4) ((.inr tk0) : 1 = 0 ∨ gw12 ≠ b4))).kz K20).kz K24).gr Y10)
   refine qe rfl (ev_stW agg_23 rfl rfl rfl B77 rfl rfl) ?_
   rintro _ w27 ⟨Bw27, M27⟩
   refine qm rfl<|qb ?_
   have X79 := (((X70.kz K24).trans Y10).md M27)
   cases hm
   refine ⟨_, _, rfl, res_2 rfl (rv_cellW agg_23 rfl Bw27 rfl) (rv_tmp rfl), ?_⟩
   exact ⟨rfl, X79⟩
 replace hm := iF c6 hm
 refine qu<|qs 3 rfl ?_
 have B80 := (B73.gr G26)
 refine qv rfl (vv_loadW agg_23 rfl B80 rfl) ?_
 have Y11 := Gr.trans G25 G26
 have B81 := (((((((Bw4.gr Y3).kz K8).gr Y8).kz K13 (tk2 ((.inr tk0) : 1 = 0 ∨ gw10 ≠ b4) ((.inr tk0) : 1 = 0 ∨ gw12 ≠ b4))).kz K20).kz K24).gr Y11)
 refine qe rfl (ev_stW agg_23 rfl rfl rfl B81 rfl rfl) ?_
 rintro _ w28 ⟨Bw28, M28⟩
 refine qm rfl<|sd_done<|sw_ret ?_
 have X83 := (((X70.kz K24).trans Y11).md M28)
 cases hm
 refine ⟨_, _, rfl, res_2 rfl (rv_cellW agg_23 rfl Bw28 rfl) (rv_tmp rfl), ?_⟩
 exact ⟨rfl, X83⟩
end Go.Proofs.YtjdffpglgkefmaaGreat.Mx
