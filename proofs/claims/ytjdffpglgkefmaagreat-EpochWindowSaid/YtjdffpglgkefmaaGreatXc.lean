/- Walks that follow mirrors: Xc. Printed by mx.py. -/
import Derived.Test.YtjdffpglgkefmaaGreatXb
import Derived.Test.YtjdffpglgkefmaaGreatZd
set_option linter.unusedVariables false
set_option linter.unusedSimpArgs false
set_option maxRecDepth 100000
set_option maxHeartbeats 2000000
namespace Go.Proofs.YtjdffpglgkefmaaGreat.Mx
open Go Go.RowKit Go.Sx
theorem zv_161 : ZV Tryz.prog 161 (.slice none 0 0) := fun _ => by kernel_rfl
theorem zv_163 : ZV Tryz.prog 163 (.int .u64 0) := fun _ => by kernel_rfl
theorem zv_167 : ZV Tryz.prog 167 (.nilFunc) := fun _ => by kernel_rfl
theorem one_167 : One Tryz.prog 167 := fun _ => ⟨by kernel_rfl, by kernel_rfl⟩
theorem en_104 : En Tryz.prog 104 := fun _ _ => by kernel_rfl
theorem en_102 : En Tryz.prog 102 := fun _ _ => by kernel_rfl
theorem poly_Seal_1_w {p0 p1 p2 p3 p4 bp1 bp2 vp2_0 zp2_0 gp2_0 op2_0 vp2_2 zp2_2 gp2_2 op2_2 bp3 vp3_0 zp3_0 gp3_0 op3_0 bp4 r} (hm : poly_Seal_1 p0 p1 p2 p3 p4 = some r) {w : World} (hbp1 : Bx w bp1 28 (TScheme.cs p1)) (hbp2 : Bx w bp2 48 (THeader.cs p2 vp2_0 vp2_2)) (hp2_0 : Rd w zp2_0 gp2_0 op2_0 18 vp2_0 (p2.Items.map TItem.cs)) (hp2_2 : Rd w zp2_2 gp2_2 op2_2 2 vp2_2 (p2.Points.map TPoint.cs)) (hbp3 : Bx w bp3 161 ([vp3_0])) (hp3_0 : Rd w zp3_0 gp3_0 op3_0 1 vp3_0 (p3.map uwc)) (hbp4 : Bx w bp4 163 ([wv p4])) :
    Calls Tryz.prog 102 [wv p0, .pointer (some ⟨bp1, 0, none⟩), .pointer (some ⟨bp2, 0, none⟩), .pointer (some ⟨bp3, 0, none⟩), .pointer (some ⟨bp4, 0, none⟩)].toArray w fun e w' => ∃ v, e = .returned v ∧ (v = wv r ∧ Gr w w') := by
 have lt1 := hbp1.lt
 have lt2 := hp2_0.lth
 have lt3 := hp2_2.lth
 have lt4 := hbp2.lt
 have lt5 := hp3_0.lth
 have lt6 := hbp3.lt
 have lt7 := hbp4.lt
 unfold poly_Seal_1 at hm
 refine calls_of_sw 15 Tryz.func102 rfl rfl rfl<|qs 1 rfl<|qm rfl<|sd_done<|sw_seq<|dw [([])] [] (.leaf [(0,10),(1,10),(2,10),(3,10),(4,10),(5,10),(6,0),(7,0),(8,10)]) ?_
 intro w1 G1 zw1
 refine sdz_leaf ?_
 have B8 := (hbp1.gr G1)
 refine dh 0 rfl rfl (fun w hS => vv_loadW agg_28 rfl (Bx.kp B8 hS) rfl)<|dh 0 rfl rfl (fun w hS => vv_fieldAddr fa_48_1 rfl) ?_
 have B9 := (hbp2.gr G1)
 refine dh 0 rfl rfl (fun w hS => vv_load1 (v := wv p2.Base) one_24 rfl (Bx.kp B9 hS) rfl) ?_
 have B10 := (hbp3.gr G1)
 refine dh 0 rfl rfl (fun w hS => vv_load1 (v := vp3_0) one_161 rfl (Bx.kp B10 hS) rfl) ?_
 have B11 := (hbp4.gr G1)
 refine dh 0 rfl rfl (fun w hS => vv_load1 (v := wv p4) one_163 rfl (Bx.kp B11 hS) rfl)<|dm 0 rfl rfl ?_
 have B12 := (hp3_0.gr G1)
 obtain ⟨x1, hx1, hm⟩ := bnd hm
 refine qz [] rfl (eC en_103 rfl (poly_polynomial_at_w hx1 B12)) ⟨fun _ => tk0, trivial⟩ ?_
 rintro _ w2 ⟨rfl, G2⟩
 have z13 := G2.size
 refine kG G2 ?_
 obtain ⟨x2, hx2, hm⟩ := bnd hm
 refine qz [] rfl (eC en_101 rfl (poly_power_w hx2)) ⟨fun _ => tk0, trivial⟩ ?_
 rintro _ w3 ⟨rfl, G3⟩
 have z14 := G3.size
 refine kG G3 ?_
 have S15 := (((Kp.refl ([]) w1).gr G2).gr G3)
 refine dn 0 rfl rfl S15<|sd_done<|sw_ret ?_
 have X16 := ((((Gr.refl w).trans G1).trans G2).trans G3)
 cases hm
 refine ⟨_, _, rfl, res_1 rfl (rv_tmp rfl), ?_⟩
 exact ⟨rfl, X16⟩
theorem poly_Seal_w {p0 p1 p2 p3 p4 vp2 zp2 gp2 op2 r} (hm : poly_Seal p0 p1 p2 p3 p4 = some r) {w : World} (hp2 : Rd w zp2 gp2 op2 1 vp2 (p2.map ic)) :
    Calls Tryz.prog 49 [kv p0, .agg (TScheme.cs p1).toArray, vp2, kv p3, wv p4].toArray w fun e w' => ∃ v, e = .returned v ∧ (∃ ur0_0 zr0_0 gr0_0 ur0_2 zr0_2 gr0_2, v = .tuple [.agg (THeader.cs r.1 ur0_0 ur0_2).toArray, .int .i64 r.2].toArray ∧ Own w' zr0_0 gr0_0 133 18 ur0_0 (r.1.Items.map TItem.cs) ∧ Hdn (zr0_0 = 0 ∨ w.heap.size ≤ gr0_0) ∧ Own w' zr0_2 gr0_2 31 2 ur0_2 (r.1.Points.map TPoint.cs) ∧ Hdn (zr0_2 = 0 ∨ w.heap.size ≤ gr0_2) ∧ Hdn (zr0_2 = 0 ∨ zr0_0 = 0 ∨ gr0_2 ≠ gr0_0) ∧ Gr w w') := by
 have lt1 := hp2.lth
 unfold poly_Seal at hm
 refine calls_of_sw 123 Tryz.func49 rfl rfl rfl<|qs 5 rfl<|qe rfl (ev_box (cs := kb p0) rfl rfl) ?_
 rintro _ w1 ⟨b1, rfl, hbw1, Bw1, G1⟩
 have z2 := G1.size
 have lt3 := Bw1.lt
 refine qe rfl (ev_box (cs := TScheme.cs p1) rfl rfl) ?_
 rintro _ w2 ⟨b2, rfl, hbw2, Bw2, G2⟩
 have z4 := G2.size
 have lt5 := Bw2.lt
 refine qe rfl (ev_box (cs := kb p3) rfl rfl) ?_
 rintro _ w3 ⟨b3, rfl, hbw3, Bw3, G3⟩
 have z6 := G3.size
 have lt7 := Bw3.lt
 refine qe rfl (ev_alloc (cs := THeader.cs (THeader.mk [] 0#64 [] k0 k0) (.slice none 0 0) (.slice none 0 0)) zv_48 rfl) ?_
 rintro _ w4 ⟨b4, rfl, hbw4, Bw4, G4⟩
 have z8 := G4.size
 have lt9 := Bw4.lt
 refine qm rfl<|sd_done<|sw_seq<|qs 3 rfl ?_
 have Y1 := Gr.trans G3 G4
 have B10 := (Bw2.gr Y1)
 refine qv rfl (vv_loadW agg_28 rfl B10 rfl) ?_
 obtain ⟨x1, hx1, hm⟩ := bnd hm
 refine qe rfl (eC en_98 rfl (poly_valid_w hx1)) ?_
 rintro _ w5 ⟨rfl, G5⟩
 have z11 := G5.size
 refine qv rfl (vv_not rfl)<|sd_done<|sw_cond rfl (fun c1 => ?_) (fun c1 => ?_)
 · replace hm := cnd_t c1 hm
   refine qs 3 rfl<|qv rfl (vv_build (cs := THeader.cs (THeader.mk [] 0#64 [] k0 k0) (.slice none 0 0) (.slice none 0 0)) bs_48 rfl (by kernel_rfl)) ?_
   have B12 := (Bw4.gr G5)
   refine qe rfl (ev_stW agg_48 rfl rfl (THeader.cs_ones _ _ _ rfl rfl) B12 rfl rfl) ?_
   rintro _ w6 ⟨Bw6, M6⟩
   have z13 := M6.size
   refine qm rfl<|qb ?_
   have Y2 := Gr.trans (Gr.trans (Gr.trans G1 G2) Y1) G5
   have X14 := (((Gr.refl w).trans Y2).md M6)
   cases hm
   refine ⟨_, _, rfl, res_2 rfl (rv_cellW agg_48 rfl Bw6 rfl) (rv_tmp rfl), ?_⟩
   exact ⟨(.slice none 0 0), 0, 0, (.slice none 0 0), 0, 0, rfl, (own_nil _ 0 133 18), ⟨.inl rfl⟩, (own_nil _ 0 31 2), ⟨.inl rfl⟩, ⟨(.inl rfl)⟩, X14⟩
 replace hm := cnd_f c1 hm
 refine qu<|sw_seq<|qs 3 rfl<|qm rfl ?_
 have Y3 := Gr.trans (Gr.trans (Gr.trans G1 G2) Y1) G5
 have B15 := (hp2.gr Y3)
 refine qv rfl (vv_lenT (l := p2) (c := ic) Tryz.underlying44 rfl B15)<|qm rfl<|sd_done<|sw_block ?_
 have X16 := ((Gr.refl w).trans Y3)
 refine sw_loopD (α := Nat × Int) ([11, 12, 13] ++ rg 29 29) (fun ⟨n1, a3⟩ => [(11, .int .i64 0), (29, .int .i64 a3)]) (fun ⟨n1, a3⟩ wr => (fixN (poly_Seal_L1 p0 p1 p2 p3 p4) n1 a3 = some r) ∧ Kz [] w5 wr) (fun ⟨n1, a3⟩ => n1) ⟨FUEL, 0⟩ ?_ ?_ ?_
 · exact sbq
 · exact ⟨hm, Kz.refl _ _⟩
 clear hm; rintro ⟨n1, a3⟩ w7 ⟨hm, K7⟩
 have z17 := K7.size
 have hb := fix_succ hm; clear hm; obtain ⟨n1, rfl, hm⟩ := hb
 generalize hrec1 : fixN (poly_Seal_L1 p0 p1 p2 p3 p4) n1 = rec1 at hm
 unfold poly_Seal_L1 at hm
 try dsimp only at hm
 refine qs 1 rfl<|qv rfl (vv_lss (a := a3) (b := (p2.length : Int)) rfl rfl)<|sd_done<|sw_seq<|sw_cond rfl (fun c2 => ?_) (fun c2 => ?_)
 · replace hm := iT c2 hm
   refine qu<|sw_seq<|sw_block<|qs 5 rfl<|qm rfl ?_
   obtain ⟨y4, hy4, hm⟩ := bnd hm
   have B18 := (B15.kz K7)
   refine qv rfl (vv_ixT (i := a3) Tryz.underlying44 (one_3).siz rfl B18 rfl hy4)<|qv rfl (vv_el1T (q := 0) (u := .int .i64 y4) one_3 rfl B18 hy4 (by first | rfl | omega) rfl)<|qm rfl<|qm rfl<|sd_done ?_
   have X19 := (X16.kz K7)
   refine qj (β := Bool) (rg 34 22) (fun a5 => [(55, .bool a5)]) (fun a5 wr => (poly_Seal_J2 a3 rec1 a5 = some r) ∧ Kz [] w7 wr) ?_ ?_
   · refine qg 22 rfl<|qm rfl<|qv rfl (vv_lss (a := y4) (b := 0) rfl rfl)<|qp rfl (vv_move rfl) (fun c4 => ?_) (fun c4 => ?_)
     · replace hm := iT c4 hm
       refine qk rfl<|qk rfl<|qk rfl<|qk rfl<|qk rfl<|qm rfl<|qm rfl ?_
       refine qk rfl<|qk rfl<|qk rfl<|qk rfl<|qk rfl<|qk rfl<|qk rfl ?_
       refine qk rfl<|qk rfl<|qk rfl<|qk rfl<|qm rfl<|sd_nil ?_
       exact ⟨rfl, true, sbq, hm, kz0⟩
     replace hm := iF c4 hm
     refine qm rfl<|qv rfl (vv_fieldAddr fa_28_1 rfl) ?_
     have B26 := ((B10.gr G5).kz K7)
     refine qv rfl (vv_load1 (v := .int .i64 p1.Depth) one_3 rfl B26 rfl) ?_
     obtain ⟨n6, hn6, hm⟩ := bnd hm
     refine qv rfl (vv_shlI (a := 1) (b := p1.Depth) rfl rfl hn6)<|qv rfl (vv_geq (a := y4) (b := shlI 1 n6) rfl rfl)<|qm rfl<|qp rfl (vv_move rfl) (fun c5 => ?_) (fun c5 => ?_)
     · replace hm := iT c5 hm
       refine qk rfl<|qk rfl<|qk rfl<|qk rfl<|qk rfl<|qk rfl<|qk rfl ?_
       refine qk rfl<|qk rfl<|qk rfl<|qk rfl<|qm rfl<|sd_nil ?_
       exact ⟨rfl, true, sbq, hm, kz0⟩
     replace hm := iF c5 hm
     refine qm rfl<|qv rfl (vv_gtr (a := a3) (b := 0) rfl rfl)<|qpF rfl (vv_move rfl) (fun c6 => ?_) (fun c6 => ?_)
     · replace hm := iF c6 hm
       refine qk rfl<|qk rfl<|qk rfl<|qk rfl<|qk rfl<|qk rfl<|qk rfl ?_
       refine qm rfl<|qm rfl<|sd_nil ?_
       exact ⟨rfl, false, sbq, hm, kz0⟩
     replace hm := iT c6 hm
     refine qm rfl<|qm rfl<|qm rfl<|qv rfl (vv_sub (k := .i64) (a := a3) (b := 1) rfl rfl) ?_
     obtain ⟨y7, hy7, hm⟩ := bnd hm
     refine qv rfl (vv_ixT (i := w64 (a3 - 1)) Tryz.underlying44 (one_3).siz rfl B18 rfl hy7)<|qv rfl (vv_el1T (q := 0) (u := .int .i64 y7) one_3 rfl B18 hy7 (by first | rfl | omega) rfl)<|qv rfl (vv_leq (a := y4) (b := y7) rfl rfl)<|qm rfl<|qm rfl<|sd_nil ?_
     exact ⟨rfl, (decide (y4 ≤ y7)), sbq, hm, kz0⟩
   clear hm; rintro a5 w8 ⟨hm, K8⟩
   have z20 := K8.size
   unfold poly_Seal_J2 at hm
   refine cnF rfl (fun c3 => ?_) (fun c3 => ?_)
   · replace hm := cnd_f c3 hm
     refine sw_skip<|block_n<|then_n<|qg 2 rfl<|qv rfl (vv_add (k := .i64) (a := a3) (b := 1) rfl rfl)<|qm rfl<|sd_nil ?_
     have K_24 : Kz [] w5 w8 := (K7.kz K8)
     subst hrec1
     exact ⟨rfl, ⟨n1, w64 (a3 + 1)⟩, sbq, ⟨hm, K_24⟩, Nat.lt_succ_self _⟩
   replace hm := cnd_t c3 hm
   refine qs 3 rfl<|qv rfl (vv_build (cs := THeader.cs (THeader.mk [] 0#64 [] k0 k0) (.slice none 0 0) (.slice none 0 0)) bs_48 rfl (by kernel_rfl)) ?_
   have B21 := (((Bw4.gr G5).kz K7).kz K8)
   refine qe rfl (ev_stW agg_48 rfl rfl (THeader.cs_ones _ _ _ rfl rfl) B21 rfl rfl) ?_
   rintro _ w9 ⟨Bw9, M9⟩
   have z22 := M9.size
   refine qm rfl<|sd_done<|sw_ret<|block_r<|then_r<|then_r<|block_r ?_
   refine then_r ?_
   have X23 := ((X19.kz K8).md M9)
   cases hm
   refine ⟨_, _, rfl, res_2 rfl (rv_cellW agg_48 rfl Bw9 rfl) (rv_tmp rfl), ?_⟩
   exact ⟨(.slice none 0 0), 0, 0, (.slice none 0 0), 0, 0, rfl, (own_nil _ 0 133 18), ⟨.inl rfl⟩, (own_nil _ 0 31 2), ⟨.inl rfl⟩, ⟨(.inl rfl)⟩, X23⟩
 replace hm := iF c2 hm
 refine sw_exit<|then_x<|then_x<|block_x<|then_n<|sw_seq<|sw_seq ?_
 refine qg 5 rfl<|qm rfl ?_
 have B30 := (B15.kz K7)
 refine qv rfl (vv_lenT (l := p2) (c := ic) Tryz.underlying44 rfl B30)<|qv rfl (vv_fieldAddr fa_28_2 rfl) ?_
 have B31 := ((B10.gr G5).kz K7)
 refine qv rfl (vv_load1 (v := .int .i64 p1.Degree) one_3 rfl B31 rfl)<|qv rfl (vv_gtr (a := (p2.length : Int)) (b := p1.Degree) rfl rfl)<|sd_done<|sw_cond rfl (fun c7 => ?_) (fun c7 => ?_)
 · replace hm := iT c7 hm
   refine qs 3 rfl<|qv rfl (vv_build (cs := THeader.cs (THeader.mk [] 0#64 [] k0 k0) (.slice none 0 0) (.slice none 0 0)) bs_48 rfl (by kernel_rfl)) ?_
   have B32 := ((Bw4.gr G5).kz K7)
   refine qe rfl (ev_stW agg_48 rfl rfl (THeader.cs_ones _ _ _ rfl rfl) B32 rfl rfl) ?_
   rintro _ w10 ⟨Bw10, M10⟩
   have z33 := M10.size
   refine qm rfl<|qb ?_
   have X34 := ((X16.kz K7).md M10)
   cases hm
   refine ⟨_, _, rfl, res_2 rfl (rv_cellW agg_48 rfl Bw10 rfl) (rv_tmp rfl), ?_⟩
   exact ⟨(.slice none 0 0), 0, 0, (.slice none 0 0), 0, 0, rfl, (own_nil _ 0 133 18), ⟨.inl rfl⟩, (own_nil _ 0 31 2), ⟨.inl rfl⟩, ⟨(.inl rfl)⟩, X34⟩
 replace hm := iF c7 hm
 refine qu ?_
 have X35 := (X16.kz K7)
 refine qj (β := List (BitVec 64) × Nat × Value × Nat × Nat × Nat) ([14, 15] ++ rg 64 6) (fun ⟨a9, bq8, vy10, zy10, gy10, bq11⟩ => [(14, .pointer (some ⟨bq8, 0, none⟩)), (15, .pointer (some ⟨bq11, 0, none⟩))]) (fun ⟨a9, bq8, vy10, zy10, gy10, bq11⟩ wr => (poly_Seal_J3 p0 p1 p2 p3 p4 a9 = some r) ∧ Own wr zy10 gy10 24 1 vy10 (a9.map uwc) ∧ Hdn (zy10 = 0 ∨ w7.heap.size ≤ gy10) ∧ Bx wr bq8 161 ([vy10]) ∧ w7.heap.size ≤ bq8 ∧ Bx wr bq11 163 ([wv p1.Group.Q]) ∧ w7.heap.size ≤ bq11 ∧ Hdn (zy10 = 0 ∨ gy10 ≠ bq8) ∧ bq11 ≠ bq8 ∧ Hdn (zy10 = 0 ∨ gy10 ≠ bq11) ∧ Kz [] w7 wr) ?_ ?_
 · refine dw [([])] [] (.fork [(0,10),(1,10),(3,10),(4,10),(5,10)] (.fork [(2,0)] (.leaf [(6,0),(7,0),(8,0),(9,0)]) (.leaf [(7,0),(6,0),(8,0),(9,0)])) (.fork [] (.fork [(6,0)] (.leaf [(2,0),(7,0),(8,0),(9,0)]) (.leaf [(7,0),(2,0),(8,0),(9,0)])) (.fork [(7,0)] (.leaf [(2,0),(6,0),(8,0),(9,0)]) (.leaf [(6,0),(2,0),(8,0),(9,0)])))) ?_
   intro w48 G48 zw48
   refine sdz_fork ?_
   have Y4 := Gr.trans (Gr.trans G2 Y1) G5
   have B156 := (((Bw1.gr Y4).kz K7).gr G48)
   refine dh 0 rfl rfl (fun w hS => vv_loadW agg_23 rfl (Bx.kp B156 hS) rfl) ?_
   have B157 := (B31.gr G48)
   refine dh 0 rfl rfl (fun w hS => vv_loadW agg_28 rfl (Bx.kp B157 hS) rfl)<|dh 0 rfl rfl (fun w hS => vv_fieldAddr fa_28_3 rfl)<|dh 0 rfl rfl (fun w hS => vv_fieldAddr fa_26_1 rfl)<|dh 0 rfl rfl (fun w hS => vv_load1 (v := wv p1.Group.Q) one_24 rfl (Bx.kp B157 hS) rfl)<|sd_fork ?_ (sdz_fork (sd_fork ?_ ?_))
   · refine sdz_fork ?_
     obtain ⟨x39, hx39, hm⟩ := bnd hm
     refine qz [] rfl (eC en_99 rfl (poly_secret_w hx39)) ⟨fun _ => tk0, trivial⟩ ?_
     rintro u49_r0_s w49 ⟨_, z49_r0_s, g49_r0_s, rfl, O49_r0_s, f49_r0_s, G49⟩
     have z158 := G49.size
     have lt159 := O49_r0_s.lth
     refine kG G49<|sd_fork ?_ ?_
     · refine sdz_leaf<|qz [] rfl (ev_alloc (cs := [(.slice none 0 0)]) zv_161 rfl) ⟨fun _ => tk0, trivial⟩ ?_
       rintro _ w50 ⟨b50, rfl, hbw50, Bw50, G50⟩
       have z160 := G50.size
       have lt161 := Bw50.lt
       refine kG G50<|qz [] rfl (ev_alloc (cs := [wv 0#64]) zv_163 rfl) ⟨fun _ => tk0, trivial⟩ ?_
       rintro _ w51 ⟨b51, rfl, hbw51, Bw51, G51⟩
       have z162 := G51.size
       have lt163 := Bw51.lt
       refine kG G51 ?_
       have B164 := (Bw50.gr G51)
       have B165 := ((O49_r0_s.gr G50).gr G51)
       refine qz [(1, b50)] rfl (ev_st1 (cs' := [u49_r0_s]) (one_161).siz rfl rfl (Own.oneB B165) B164 rfl rfl) ⟨fun _ => tk0, trivial⟩ ?_
       rintro _ w52 ⟨Bw52, M52⟩
       have z166 := M52.size
       refine kM M52 ?_
       have B167 := (Bw51.md M52)
       refine qz [(1, b51)] rfl (ev_st1 (cs' := [wv p1.Group.Q]) (one_163).siz rfl rfl rfl B167 rfl rfl) ⟨fun _ => tk0, trivial⟩ ?_
       rintro _ w53 ⟨Bw53, M53⟩
       have z168 := M53.size
       refine kM M53<|sd_nil ?_
       have K_169 : Kz [] w7 w53 := ((((((Kz.gr (Kz.refl _ _) G48).gr G49).gr G50).gr G51).md M52).md M53)
       have B170 := ((B165.md M52 (pb_lt lt159)).md M53 (pb_lt lt159))
       have B171 := (Bw52.md M53)
       exact ⟨rfl, ⟨x39, b50, u49_r0_s, z49_r0_s, g49_r0_s, b51⟩, sbq, hm, B170, ⟨(pv_0 (A := (fun x => w7.heap.size ≤ x)) f49_r0_s)⟩, B171, (by omega), Bw53, (by omega), ⟨(pv_lt (A := (fun x => x ≠ b50)) lt159)⟩, (by omega), ⟨(pv_lt (A := (fun x => x ≠ b51)) lt159)⟩, K_169⟩
     refine sdz_leaf<|qz [] rfl (ev_alloc (cs := [wv 0#64]) zv_163 rfl) ⟨fun _ => tk0, trivial⟩ ?_
     rintro _ w54 ⟨b54, rfl, hbw54, Bw54, G54⟩
     have z172 := G54.size
     have lt173 := Bw54.lt
     refine kG G54<|qz [] rfl (ev_alloc (cs := [(.slice none 0 0)]) zv_161 rfl) ⟨fun _ => tk0, trivial⟩ ?_
     rintro _ w55 ⟨b55, rfl, hbw55, Bw55, G55⟩
     have z174 := G55.size
     have lt175 := Bw55.lt
     refine kG G55 ?_
     have B176 := ((O49_r0_s.gr G54).gr G55)
     refine qz [(1, b55)] rfl (ev_st1 (cs' := [u49_r0_s]) (one_161).siz rfl rfl (Own.oneB B176) Bw55 rfl rfl) ⟨fun _ => tk0, trivial⟩ ?_
     rintro _ w56 ⟨Bw56, M56⟩
     have z177 := M56.size
     refine kM M56 ?_
     have B178 := ((Bw54.gr G55).md M56)
     refine qz [(1, b54)] rfl (ev_st1 (cs' := [wv p1.Group.Q]) (one_163).siz rfl rfl rfl B178 rfl rfl) ⟨fun _ => tk0, trivial⟩ ?_
     rintro _ w57 ⟨Bw57, M57⟩
     have z179 := M57.size
     refine kM M57<|sd_nil ?_
     have K_180 : Kz [] w7 w57 := ((((((Kz.gr (Kz.refl _ _) G48).gr G49).gr G54).gr G55).md M56).md M57)
     have B181 := ((B176.md M56 (pb_lt lt159)).md M57 (pb_lt lt159))
     have B182 := (Bw56.md M57)
     exact ⟨rfl, ⟨x39, b55, u49_r0_s, z49_r0_s, g49_r0_s, b54⟩, sbq, hm, B181, ⟨(pv_0 (A := (fun x => w7.heap.size ≤ x)) f49_r0_s)⟩, B182, (by omega), Bw57, (by omega), ⟨(pv_lt (A := (fun x => x ≠ b55)) lt159)⟩, (by omega), ⟨(pv_lt (A := (fun x => x ≠ b54)) lt159)⟩, K_180⟩
   · refine sdz_fork<|qz [] rfl (ev_alloc (cs := [(.slice none 0 0)]) zv_161 rfl) ⟨fun _ => tk0, trivial⟩ ?_
     rintro _ w58 ⟨b58, rfl, hbw58, Bw58, G58⟩
     have z183 := G58.size
     have lt184 := Bw58.lt
     refine kG G58<|sd_fork ?_ ?_
     · refine sdz_leaf ?_
       obtain ⟨x40, hx40, hm⟩ := bnd hm
       refine qz [] rfl (eC en_99 rfl (poly_secret_w hx40)) ⟨fun _ => tk0, trivial⟩ ?_
       rintro u59_r0_s w59 ⟨_, z59_r0_s, g59_r0_s, rfl, O59_r0_s, f59_r0_s, G59⟩
       have z185 := G59.size
       have lt186 := O59_r0_s.lth
       refine kG G59<|qz [] rfl (ev_alloc (cs := [wv 0#64]) zv_163 rfl) ⟨fun _ => tk0, trivial⟩ ?_
       rintro _ w60 ⟨b60, rfl, hbw60, Bw60, G60⟩
       have z187 := G60.size
       have lt188 := Bw60.lt
       refine kG G60 ?_
       have B189 := ((Bw58.gr G59).gr G60)
       have B190 := (O59_r0_s.gr G60)
       refine qz [(1, b58)] rfl (ev_st1 (cs' := [u59_r0_s]) (one_161).siz rfl rfl (Own.oneB B190) B189 rfl rfl) ⟨fun _ => tk0, trivial⟩ ?_
       rintro _ w61 ⟨Bw61, M61⟩
       have z191 := M61.size
       refine kM M61 ?_
       have B192 := (Bw60.md M61)
       refine qz [(1, b60)] rfl (ev_st1 (cs' := [wv p1.Group.Q]) (one_163).siz rfl rfl rfl B192 rfl rfl) ⟨fun _ => tk0, trivial⟩ ?_
       rintro _ w62 ⟨Bw62, M62⟩
       have z193 := M62.size
       refine kM M62<|sd_nil ?_
       have K_194 : Kz [] w7 w62 := ((((((Kz.gr (Kz.refl _ _) G48).gr G58).gr G59).gr G60).md M61).md M62)
       have B195 := ((B190.md M61 (pb_0 f59_r0_s)).md M62 (pb_lt lt186))
       have B196 := (Bw61.md M62)
       exact ⟨rfl, ⟨x40, b58, u59_r0_s, z59_r0_s, g59_r0_s, b60⟩, sbq, hm, B195, ⟨(pv_0 (A := (fun x => w7.heap.size ≤ x)) f59_r0_s)⟩, B196, (by omega), Bw62, (by omega), ⟨(pv_0 (A := (fun x => x ≠ b58)) f59_r0_s)⟩, (by omega), ⟨(pv_lt (A := (fun x => x ≠ b60)) lt186)⟩, K_194⟩
     refine sdz_leaf<|qz [] rfl (ev_alloc (cs := [wv 0#64]) zv_163 rfl) ⟨fun _ => tk0, trivial⟩ ?_
     rintro _ w63 ⟨b63, rfl, hbw63, Bw63, G63⟩
     have z197 := G63.size
     have lt198 := Bw63.lt
     refine kG G63 ?_
     obtain ⟨x41, hx41, hm⟩ := bnd hm
     refine qz [] rfl (eC en_99 rfl (poly_secret_w hx41)) ⟨fun _ => tk0, trivial⟩ ?_
     rintro u65_r0_s w65 ⟨_, z65_r0_s, g65_r0_s, rfl, O65_r0_s, f65_r0_s, G65⟩
     have z199 := G65.size
     have lt200 := O65_r0_s.lth
     refine kG G65 ?_
     have B201 := ((Bw58.gr G63).gr G65)
     refine qz [(1, b58)] rfl (ev_st1 (cs' := [u65_r0_s]) (one_161).siz rfl rfl (Own.oneB O65_r0_s) B201 rfl rfl) ⟨fun _ => tk0, trivial⟩ ?_
     rintro _ w66 ⟨Bw66, M66⟩
     have z202 := M66.size
     refine kM M66 ?_
     have B203 := ((Bw63.gr G65).md M66)
     refine qz [(1, b63)] rfl (ev_st1 (cs' := [wv p1.Group.Q]) (one_163).siz rfl rfl rfl B203 rfl rfl) ⟨fun _ => tk0, trivial⟩ ?_
     rintro _ w67 ⟨Bw67, M67⟩
     have z204 := M67.size
     refine kM M67<|sd_nil ?_
     have K_205 : Kz [] w7 w67 := ((((((Kz.gr (Kz.refl _ _) G48).gr G58).gr G63).gr G65).md M66).md M67)
     have B206 := ((O65_r0_s.md M66 (pb_0 f65_r0_s)).md M67 (pb_0 f65_r0_s))
     have B207 := (Bw66.md M67)
     exact ⟨rfl, ⟨x41, b58, u65_r0_s, z65_r0_s, g65_r0_s, b63⟩, sbq, hm, B206, ⟨(pv_0 (A := (fun x => w7.heap.size ≤ x)) f65_r0_s)⟩, B207, (by omega), Bw67, (by omega), ⟨(pv_0 (A := (fun x => x ≠ b58)) f65_r0_s)⟩, (by omega), ⟨(pv_0 (A := (fun x => x ≠ b63)) f65_r0_s)⟩, K_205⟩
   refine sdz_fork<|qz [] rfl (ev_alloc (cs := [wv 0#64]) zv_163 rfl) ⟨fun _ => tk0, trivial⟩ ?_
   rintro _ w68 ⟨b68, rfl, hbw68, Bw68, G68⟩
   have z208 := G68.size
   have lt209 := Bw68.lt
   refine kG G68<|sd_fork ?_ ?_
   · refine sdz_leaf ?_
     obtain ⟨x42, hx42, hm⟩ := bnd hm
     refine qz [] rfl (eC en_99 rfl (poly_secret_w hx42)) ⟨fun _ => tk0, trivial⟩ ?_
     rintro u69_r0_s w69 ⟨_, z69_r0_s, g69_r0_s, rfl, O69_r0_s, f69_r0_s, G69⟩
     have z210 := G69.size
     have lt211 := O69_r0_s.lth
     refine kG G69<|qz [] rfl (ev_alloc (cs := [(.slice none 0 0)]) zv_161 rfl) ⟨fun _ => tk0, trivial⟩ ?_
     rintro _ w70 ⟨b70, rfl, hbw70, Bw70, G70⟩
     have z212 := G70.size
     have lt213 := Bw70.lt
     refine kG G70 ?_
     have B214 := (O69_r0_s.gr G70)
     refine qz [(1, b70)] rfl (ev_st1 (cs' := [u69_r0_s]) (one_161).siz rfl rfl (Own.oneB B214) Bw70 rfl rfl) ⟨fun _ => tk0, trivial⟩ ?_
     rintro _ w71 ⟨Bw71, M71⟩
     have z215 := M71.size
     refine kM M71 ?_
     have B216 := (((Bw68.gr G69).gr G70).md M71)
     refine qz [(1, b68)] rfl (ev_st1 (cs' := [wv p1.Group.Q]) (one_163).siz rfl rfl rfl B216 rfl rfl) ⟨fun _ => tk0, trivial⟩ ?_
     rintro _ w72 ⟨Bw72, M72⟩
     have z217 := M72.size
     refine kM M72<|sd_nil ?_
     have K_218 : Kz [] w7 w72 := ((((((Kz.gr (Kz.refl _ _) G48).gr G68).gr G69).gr G70).md M71).md M72)
     have B219 := ((B214.md M71 (pb_lt lt211)).md M72 (pb_0 f69_r0_s))
     have B220 := (Bw71.md M72)
     exact ⟨rfl, ⟨x42, b70, u69_r0_s, z69_r0_s, g69_r0_s, b68⟩, sbq, hm, B219, ⟨(pv_0 (A := (fun x => w7.heap.size ≤ x)) f69_r0_s)⟩, B220, (by omega), Bw72, (by omega), ⟨(pv_lt (A := (fun x => x ≠ b70)) lt211)⟩, (by omega), ⟨(pv_0 (A := (fun x => x ≠ b68)) f69_r0_s)⟩, K_218⟩
   refine sdz_leaf<|qz [] rfl (ev_alloc (cs := [(.slice none 0 0)]) zv_161 rfl) ⟨fun _ => tk0, trivial⟩ ?_
   rintro _ w73 ⟨b73, rfl, hbw73, Bw73, G73⟩
   have z221 := G73.size
   have lt222 := Bw73.lt
   refine kG G73 ?_
   obtain ⟨x43, hx43, hm⟩ := bnd hm
   refine qz [] rfl (eC en_99 rfl (poly_secret_w hx43)) ⟨fun _ => tk0, trivial⟩ ?_
   rintro u74_r0_s w74 ⟨_, z74_r0_s, g74_r0_s, rfl, O74_r0_s, f74_r0_s, G74⟩
   have z223 := G74.size
   have lt224 := O74_r0_s.lth
   refine kG G74 ?_
   have B225 := (Bw73.gr G74)
   refine qz [(1, b73)] rfl (ev_st1 (cs' := [u74_r0_s]) (one_161).siz rfl rfl (Own.oneB O74_r0_s) B225 rfl rfl) ⟨fun _ => tk0, trivial⟩ ?_
   rintro _ w75 ⟨Bw75, M75⟩
   have z226 := M75.size
   refine kM M75 ?_
   have B227 := (((Bw68.gr G73).gr G74).md M75)
   refine qz [(1, b68)] rfl (ev_st1 (cs' := [wv p1.Group.Q]) (one_163).siz rfl rfl rfl B227 rfl rfl) ⟨fun _ => tk0, trivial⟩ ?_
   rintro _ w76 ⟨Bw76, M76⟩
   have z228 := M76.size
   refine kM M76<|sd_nil ?_
   have K_229 : Kz [] w7 w76 := ((((((Kz.gr (Kz.refl _ _) G48).gr G68).gr G73).gr G74).md M75).md M76)
   have B230 := ((O74_r0_s.md M75 (pb_0 f74_r0_s)).md M76 (pb_0 f74_r0_s))
   have B231 := (Bw75.md M76)
   exact ⟨rfl, ⟨x43, b73, u74_r0_s, z74_r0_s, g74_r0_s, b68⟩, sbq, hm, B230, ⟨(pv_0 (A := (fun x => w7.heap.size ≤ x)) f74_r0_s)⟩, B231, (by omega), Bw76, (by omega), ⟨(pv_0 (A := (fun x => x ≠ b73)) f74_r0_s)⟩, (by omega), ⟨(pv_0 (A := (fun x => x ≠ b68)) f74_r0_s)⟩, K_229⟩
 clear hm; rintro ⟨a9, bq8, vy10, zy10, gy10, bq11⟩ w11 ⟨hm, Fw11_0, Fw11_1, Fw11_2, Fw11_3, Fw11_4, Fw11_5, Fw11_6, Fw11_7, Fw11_8, K11⟩
 have z36 := K11.size
 have lt37 := Fw11_0.lth
 have lt38 := Fw11_2.lt
 have lt39 := Fw11_4.lt
 unfold poly_Seal_J3 at hm
 refine sw_seq<|dw [([])] [] (.leaf [(0,10),(1,10),(3,10),(4,10),(5,10),(6,10),(2,0),(7,0),(8,10),(9,10)]) ?_
 intro w12 G12 zw12
 refine sdz_leaf ?_
 have Y5 := Gr.trans (Gr.trans G2 Y1) G5
 have B40 := ((((Bw1.gr Y5).kz K7).kz K11).gr G12)
 refine dh 0 rfl rfl (fun w hS => vv_loadW agg_23 rfl (Bx.kp B40 hS) rfl)<|dm 0 rfl rfl<|dh 0 rfl rfl (fun w hS => vv_fieldAddr fa_28_3 rfl)<|dh 0 rfl rfl (fun w hS => vv_fieldAddr fa_26_1 rfl) ?_
 have B41 := ((B31.kz K11).gr G12)
 refine dh 0 rfl rfl (fun w hS => vv_load1 (v := wv p1.Group.Q) one_24 rfl (Bx.kp B41 hS) rfl)<|dh 0 rfl rfl (fun w hS => vv_usub (a := p1.Group.Q) (b := 1#64) rfl rfl)<|qz [] rfl (eC en_48 rfl (derive_c p0 (un8 41#8) (un8_nn _) (un8_le _) p4 _)) ⟨fun _ => tk0, trivial⟩ ?_
 rintro _ w13 ⟨rfl, G13⟩
 have z42 := G13.size
 refine kG G13 ?_
 obtain ⟨x12, hx12, hm⟩ := bnd hm
 refine qz [] rfl (eC en_100 rfl (cipher_Number_w hx12)) ⟨fun _ => tk0, trivial⟩ ?_
 rintro _ w14 ⟨rfl, G14⟩
 have z43 := G14.size
 refine kG G14 ?_
 have Y6 := Gr.trans G13 G14
 have S44 := ((Kp.refl ([]) w12).gr Y6)
 refine qh 0 rfl rfl S44 (fun w hS => vv_uadd (a := 1#64) (b := x12) rfl rfl)<|dn 0 rfl rfl S44<|sd_done ?_
 have Y7 := Gr.trans G12 Y6
 have X45 := ((X35.kz K11).trans Y7)
 refine qj (β := BitVec 64 × Nat × Value × Nat × Nat × Value × Nat × Nat) ([17] ++ rg 79 9) (fun ⟨a14, bq13, vy15, zy15, gy15, vy16, zy16, gy16⟩ => [(17, .pointer (some ⟨bq13, 0, none⟩))]) (fun ⟨a14, bq13, vy15, zy15, gy15, vy16, zy16, gy16⟩ wr => (poly_Seal_J4 p1 p2 p3 a9 a14 = some r) ∧ Own wr zy15 gy15 133 18 vy15 ([].map TItem.cs) ∧ Hdn (zy15 = 0 ∨ w14.heap.size ≤ gy15) ∧ Own wr zy16 gy16 31 2 vy16 ([].map TPoint.cs) ∧ Hdn (zy16 = 0 ∨ w14.heap.size ≤ gy16) ∧ Bx wr bq13 48 (THeader.cs (THeader.mk [] a14 [] k0 (drv p3 (un8 53#8) 0#64)) vy15 vy16) ∧ w14.heap.size ≤ bq13 ∧ Hdn (zy16 = 0 ∨ zy15 = 0 ∨ gy16 ≠ gy15) ∧ Hdn (zy15 = 0 ∨ gy15 ≠ bq13) ∧ Hdn (zy16 = 0 ∨ gy16 ≠ bq13) ∧ Kz [] w14 wr) ?_ ?_
 · refine dw [([])] [] (.fork [(0,10),(1,10),(2,10),(3,10),(4,10),(6,10)] (.fork [(5,0)] (.leaf [(7,0),(8,10),(9,0),(10,0)]) (.leaf [(9,0),(7,0),(8,10),(10,0)])) (.leaf [(9,0),(5,0),(7,0),(8,10),(10,0)])) ?_
   intro w36 G36 zw36
   refine sdz_fork ?_
   have B132 := ((B41.gr Y6).gr G36)
   refine dh 0 rfl rfl (fun w hS => vv_loadW agg_28 rfl (Bx.kp B132 hS) rfl)<|dh 0 rfl rfl (fun w hS => vv_fieldAddr fa_28_3 rfl)<|dh 0 rfl rfl (fun w hS => vv_fieldAddr fa_26_2 rfl)<|dh 0 rfl rfl (fun w hS => vv_load1 (v := wv p1.Group.G) one_24 rfl (Bx.kp B132 hS) rfl)<|dm 0 rfl rfl ?_
   have Y8 := Gr.trans G4 G5
   have B133 := (((((Bw3.gr Y8).kz K7).kz K11).gr Y7).gr G36)
   refine dh 0 rfl rfl (fun w hS => vv_loadW agg_23 rfl (Bx.kp B133 hS) rfl)<|sd_fork ?_ ?_
   · refine sdz_fork ?_
     obtain ⟨x37, hx37, hm⟩ := bnd hm
     refine qz [] rfl (eC en_101 rfl (poly_power_w hx37)) ⟨fun _ => tk0, trivial⟩ ?_
     rintro _ w37 ⟨rfl, G37⟩
     have z134 := G37.size
     refine kG G37<|sd_fork ?_ ?_
     · refine sdz_leaf<|qz [] rfl (eC en_48 rfl (derive_c p3 (un8 53#8) (un8_nn _) (un8_le _) 0#64 _)) ⟨fun _ => tk0, trivial⟩ ?_
       rintro _ w38 ⟨rfl, G38⟩
       have z135 := G38.size
       refine kG G38 ?_
       have S136 := (((Kp.refl ([]) w36).gr G37).gr G38)
       refine qh 0 rfl rfl S136 (fun w hS => vv_build (cs := THeader.cs (THeader.mk [] x37 [] k0 (drv p3 (un8 53#8) 0#64)) (.slice none 0 0) (.slice none 0 0)) bs_48 rfl (by obtain ⟨kk0, hk0⟩ := ex_of (drv p3 (un8 53#8) 0#64); rw [← hk0]; exact (fill_M rfl rfl rfl (fill_M rfl rfl rfl (by kernel_rfl)))))<|qz [] rfl (ev_alloc (cs := THeader.cs (THeader.mk [] 0#64 [] k0 k0) (.slice none 0 0) (.slice none 0 0)) zv_48 rfl) ⟨fun _ => tk0, trivial⟩ ?_
       rintro _ w39 ⟨b39, rfl, hbw39, Bw39, G39⟩
       have z137 := G39.size
       have lt138 := Bw39.lt
       refine kG G39<|qz [(1, b39)] rfl (ev_stW agg_48 rfl rfl (THeader.cs_ones _ _ _ rfl rfl) Bw39 rfl rfl) ⟨fun _ => tk0, trivial⟩ ?_
       rintro _ w40 ⟨Bw40, M40⟩
       have z139 := M40.size
       refine kM M40<|sd_nil ?_
       exact ⟨rfl, ⟨x37, b39, (.slice none 0 0), 0, 0, (.slice none 0 0), 0, 0⟩, sbq, hm, (own_nil _ 0 133 18), ⟨(.inl rfl)⟩, (own_nil _ 0 31 2), ⟨(.inl rfl)⟩, Bw40, (by omega), ⟨(.inl rfl)⟩, ⟨.inl rfl⟩, ⟨.inl rfl⟩, (((((kz0.gr G36).gr G37).gr G38).gr G39).md M40)⟩
     refine sdz_leaf<|qz [] rfl (ev_alloc (cs := THeader.cs (THeader.mk [] 0#64 [] k0 k0) (.slice none 0 0) (.slice none 0 0)) zv_48 rfl) ⟨fun _ => tk0, trivial⟩ ?_
     rintro _ w41 ⟨b41, rfl, hbw41, Bw41, G41⟩
     have z141 := G41.size
     have lt142 := Bw41.lt
     refine kG G41<|qz [] rfl (eC en_48 rfl (derive_c p3 (un8 53#8) (un8_nn _) (un8_le _) 0#64 _)) ⟨fun _ => tk0, trivial⟩ ?_
     rintro _ w42 ⟨rfl, G42⟩
     have z143 := G42.size
     refine kG G42 ?_
     have S144 := ((((Kp.refl ([]) w36).gr G37).gr G41).gr G42)
     refine qh 0 rfl rfl S144 (fun w hS => vv_build (cs := THeader.cs (THeader.mk [] x37 [] k0 (drv p3 (un8 53#8) 0#64)) (.slice none 0 0) (.slice none 0 0)) bs_48 rfl (by obtain ⟨kk0, hk0⟩ := ex_of (drv p3 (un8 53#8) 0#64); rw [← hk0]; exact (fill_M rfl rfl rfl (fill_M rfl rfl rfl (by kernel_rfl))))) ?_
     have B145 := (Bw41.gr G42)
     refine qz [(1, b41)] rfl (ev_stW agg_48 rfl rfl (THeader.cs_ones _ _ _ rfl rfl) B145 rfl rfl) ⟨fun _ => tk0, trivial⟩ ?_
     rintro _ w43 ⟨Bw43, M43⟩
     have z146 := M43.size
     refine kM M43<|sd_nil ?_
     exact ⟨rfl, ⟨x37, b41, (.slice none 0 0), 0, 0, (.slice none 0 0), 0, 0⟩, sbq, hm, (own_nil _ 0 133 18), ⟨(.inl rfl)⟩, (own_nil _ 0 31 2), ⟨(.inl rfl)⟩, Bw43, (by omega), ⟨(.inl rfl)⟩, ⟨.inl rfl⟩, ⟨.inl rfl⟩, (((((kz0.gr G36).gr G37).gr G41).gr G42).md M43)⟩
   refine sdz_leaf<|qz [] rfl (ev_alloc (cs := THeader.cs (THeader.mk [] 0#64 [] k0 k0) (.slice none 0 0) (.slice none 0 0)) zv_48 rfl) ⟨fun _ => tk0, trivial⟩ ?_
   rintro _ w44 ⟨b44, rfl, hbw44, Bw44, G44⟩
   have z148 := G44.size
   have lt149 := Bw44.lt
   refine kG G44 ?_
   obtain ⟨x38, hx38, hm⟩ := bnd hm
   refine qz [] rfl (eC en_101 rfl (poly_power_w hx38)) ⟨fun _ => tk0, trivial⟩ ?_
   rintro _ w45 ⟨rfl, G45⟩
   have z150 := G45.size
   refine kG G45<|qz [] rfl (eC en_48 rfl (derive_c p3 (un8 53#8) (un8_nn _) (un8_le _) 0#64 _)) ⟨fun _ => tk0, trivial⟩ ?_
   rintro _ w46 ⟨rfl, G46⟩
   have z151 := G46.size
   refine kG G46 ?_
   have S152 := ((((Kp.refl ([]) w36).gr G44).gr G45).gr G46)
   refine qh 0 rfl rfl S152 (fun w hS => vv_build (cs := THeader.cs (THeader.mk [] x38 [] k0 (drv p3 (un8 53#8) 0#64)) (.slice none 0 0) (.slice none 0 0)) bs_48 rfl (by obtain ⟨kk0, hk0⟩ := ex_of (drv p3 (un8 53#8) 0#64); rw [← hk0]; exact (fill_M rfl rfl rfl (fill_M rfl rfl rfl (by kernel_rfl))))) ?_
   have B153 := ((Bw44.gr G45).gr G46)
   refine qz [(1, b44)] rfl (ev_stW agg_48 rfl rfl (THeader.cs_ones _ _ _ rfl rfl) B153 rfl rfl) ⟨fun _ => tk0, trivial⟩ ?_
   rintro _ w47 ⟨Bw47, M47⟩
   have z154 := M47.size
   refine kM M47<|sd_nil ?_
   exact ⟨rfl, ⟨x38, b44, (.slice none 0 0), 0, 0, (.slice none 0 0), 0, 0⟩, sbq, hm, (own_nil _ 0 133 18), ⟨(.inl rfl)⟩, (own_nil _ 0 31 2), ⟨(.inl rfl)⟩, Bw47, (by omega), ⟨(.inl rfl)⟩, ⟨.inl rfl⟩, ⟨.inl rfl⟩, (((((kz0.gr G36).gr G44).gr G45).gr G46).md M47)⟩
 clear hm; rintro ⟨a14, bq13, vy15, zy15, gy15, vy16, zy16, gy16⟩ w15 ⟨hm, Fw15_0, Fw15_1, Fw15_2, Fw15_3, Fw15_4, Fw15_5, Fw15_6, Fw15_7, Fw15_8, K15⟩
 have z46 := K15.size
 have lt47 := Fw15_0.lth
 have lt48 := Fw15_2.lth
 have lt49 := Fw15_4.lt
 unfold poly_Seal_J4 at hm
 refine qs 3 rfl<|qv rfl (vv_makeFunc rfl rfl)<|qe rfl (ev_alloc zv_167 rfl) ?_
 rintro _ w16 ⟨b16, rfl, hbw16, Bw16, G16⟩
 have z50 := G16.size
 have lt51 := Bw16.lt
 refine qe rfl (ev_st1 (one_167).siz rfl rfl rfl Bw16 rfl rfl) ?_
 rintro _ w17 ⟨Bw17, M17⟩
 have z52 := M17.size
 refine qd 2 rfl<|qv rfl (vv_makeFunc rfl rfl)<|qm rfl<|sd_done<|sw_seq ?_
 refine qs 3 rfl<|qm rfl ?_
 have B53 := (((((B30.kz K11).gr Y7).kz K15).gr G16).md M17 (pb_lt lt1))
 refine qv rfl (vv_lenT (l := p2) (c := ic) Tryz.underlying44 rfl B53)<|qm rfl<|sd_done<|sw_block ?_
 have X54 := (((X45.kz K15).trans G16).md M17)
 have B55 := ((((Fw11_0.gr Y7).kz K15).gr G16).md M17 (pb_lt lt37))
 have B56 := ((Fw15_0.gr G16).md M17 (pb_lt lt47))
 have B57 := ((Fw15_2.gr G16).md M17 (pb_lt lt48))
 have B58 := ((Fw15_4.gr G16).md M17)
 refine sw_loopD (α := Nat × Int × List TPoint × Value × Nat × Nat) ([21] ++ rg 92 9) (fun ⟨n5, a20, a21, vy22, zy22, gy22⟩ => [(92, .int .i64 a20)]) (fun ⟨n5, a20, a21, vy22, zy22, gy22⟩ wr => (fixN (poly_Seal_L5 p1 p2 p3 a9 a14) n5 (a20, a21) = some r) ∧ Own wr zy22 gy22 31 2 vy22 (a21.map TPoint.cs) ∧ Hdn (zy22 = 0 ∨ (gy22 = gy16 ∧ zy16 ≠ 0) ∨ w17.heap.size ≤ gy22) ∧ Bx wr bq13 48 (THeader.cs (THeader.mk [] a14 a21 k0 (drv p3 (un8 53#8) 0#64)) vy15 vy22) ∧ Kz [(1, bq13), (zy16, gy16)] w17 wr) (fun ⟨n5, a20, a21, vy22, zy22, gy22⟩ => n5) ⟨FUEL, 0, [], vy16, zy16, gy16⟩ ?_ ?_ ?_
 · exact sbq
 · exact ⟨hm, B57, ⟨tk0⟩, B58, Kz.refl _ _⟩
 clear hm; rintro ⟨n5, a20, a21, vy22, zy22, gy22⟩ w18 ⟨hm, Fw18_0, Fw18_1, Fw18_2, K18⟩
 have z59 := K18.size
 have lt60 := Fw18_0.lth
 have lt61 := Fw18_2.lt
 have hb := fix_succ hm; clear hm; obtain ⟨n5, rfl, hm⟩ := hb
 generalize hrec5 : fixN (poly_Seal_L5 p1 p2 p3 a9 a14) n5 = rec5 at hm
 unfold poly_Seal_L5 at hm
 try dsimp only at hm
 refine qs 1 rfl<|qv rfl (vv_lss (a := a20) (b := (p2.length : Int)) rfl rfl)<|sd_done<|sw_seq<|sw_cond rfl (fun c8 => ?_) (fun c8 => ?_)
 · replace hm := iT c8 hm
   refine qu<|sw_seq<|sw_block<|qs 3 rfl ?_
   obtain ⟨y23, hy23, hm⟩ := bnd hm
   have B62 := (B53.kz K18 (tk2 ((pv_sw (pv_0 (A := (fun x => zp2 = 0 ∨ x ≠ gp2)) Fw15_3 (fun x hx => (tk1 lt1.o)))) : zp2 = 0 ∨ zy16 = 0 ∨ gp2 ≠ gy16) (pb_lt (b := bq13) lt1)))
   refine qv rfl (vv_ixT (i := a20) Tryz.underlying44 (one_3).siz rfl B62 rfl hy23)<|qv rfl (vv_el1T (q := 0) (u := .int .i64 y23) one_3 rfl B62 hy23 (by first | rfl | omega) rfl)<|qm rfl<|sd_done<|qg 4 rfl<|qm rfl<|qm rfl ?_
   refine qv rfl (vv_add (k := .i64) (a := y23) (b := 1) rfl rfl)<|sd_inl 16 Tryz.func104 rfl rfl rfl en_104 rfl rfl rfl rfl rfl<|dw [([bq13] ++ zf zy22 gy22),([] ++ zf zy22 gy22)] [(12, [1])] (.leaf [(0,10),(1,11),(2,10),(3,10),(4,10),(5,10),(6,10),(7,0),(8,10),(9,0),(10,0),(11,10),(12,0)]) ?_
   intro w19 G19 zw19
   refine sdz_leaf<|qh 0 rfl rfl (Kp.refl ([bq13] ++ zf zy22 gy22) w19) (fun w hS => vv_fieldAddr fa_48_2 rfl) ?_
   have B63 := (Fw18_2.gr G19)
   refine qh 1 rfl rfl (Kp.refl ([] ++ zf zy22 gy22) w19) (fun w hS => vv_load1 (v := vy22) one_46 rfl (Bx.kp B63 hS (tk1 (pb_1 (b := bq13) Fw18_1 (tk1 Fw15_8.o)))) rfl)<|dn 0 rfl rfl (Kp.refl ([bq13] ++ zf zy22 gy22) w19)<|qh 0 rfl rfl (Kp.refl ([bq13] ++ zf zy22 gy22) w19) (fun w hS => vv_cvIU cv_3_24 rfl) ?_
   have B64 := ((Bw17.kz K18 (tk1 (pb_lt (b := b16) lt48))).gr G19)
   refine qh 0 rfl rfl (Kp.refl ([bq13] ++ zf zy22 gy22) w19) (fun w hS => vv_load1 one_167 rfl (Bx.kp B64 hS (tk1 (pb_1 (b := b16) Fw18_1 (pb_lt lt48)))) rfl)<|dn 0 rfl rfl (Kp.refl ([bq13] ++ zf zy22 gy22) w19)<|qh 0 rfl rfl (Kp.refl ([bq13] ++ zf zy22 gy22) w19) (fun w hS => vv_cvIU cv_3_24 rfl) ?_
   have B65 := ((((((B41.gr Y6).kz K15).gr G16).md M17).kz K18 (tk1 (pb_0 (b := b2) Fw15_3))).gr G19)
   have B66 := ((B56.kz K18 (tk2 ((tk1 Fw15_6.o) : zy15 = 0 ∨ zy16 = 0 ∨ gy15 ≠ gy16) ((tk1 Fw15_7.o) : zy15 = 0 ∨ gy15 ≠ bq13))).gr G19)
   have B67 := (Fw18_0.gr G19)
   have B68 := ((((((Fw11_2.gr Y7).kz K15).gr G16).md M17).kz K18 (tk1 (pb_0 (b := bq8) Fw15_3))).gr G19)
   have B69 := ((B55.kz K18 (tk2 ((pv_sw (pv_0 (A := (fun x => zy10 = 0 ∨ x ≠ gy10)) Fw15_3 (fun x hx => (tk1 lt37.o)))) : zy10 = 0 ∨ zy16 = 0 ∨ gy10 ≠ gy16) (pb_lt (b := bq13) lt37))).gr G19)
   have B70 := ((((((Fw11_4.gr Y7).kz K15).gr G16).md M17).kz K18 (tk1 (pb_0 (b := bq11) Fw15_3))).gr G19)
   obtain ⟨x24, hx24, hm⟩ := bnd hm
   refine qz [] rfl (ev_callV en_102 rfl rfl (poly_Seal_1_w hx24 B65 B63 (Own.rd B66) (Own.rd B67) B68 (Own.rd B69) B70)) ⟨fun _ => tk0, fun _ => tk0, trivial⟩ ?_
   rintro _ w20 ⟨rfl, G20⟩
   have z71 := G20.size
   refine kG G20 ?_
   have S72 := ((Kp.refl ([bq13] ++ zf zy22 gy22) w19).gr G20)
   refine qh 0 rfl rfl S72 (fun w hS => vv_build (cs := TPoint.cs (TPoint.mk (wd (w64 (y23 + 1))) x24)) bs_31 rfl rfl)<|qz [] rfl (ev_litT [(TPoint.mk (wd (w64 (y23 + 1))) x24)] TPoint.cs bsl_46_1 rfl rfl (ws_of rfl) rfl rfl rfl) ⟨fun _ => tk0, fun _ => tk0, trivial⟩ ?_
   rintro vw21 w21 ⟨gw21, hbw21, Ow21, G21⟩
   have z73 := G21.size
   have lt74 := Ow21.lth
   refine kG G21 ?_
   have B75 := ((B67.gr G20).gr G21)
   obtain ⟨l25, hl25, hm⟩ := bnd hm
   refine qz [(zy22, gy22)] rfl (ev_appT (l := a21) (m := [(TPoint.mk (wd (w64 (y23 + 1))) x24)]) (c := TPoint.cs) apt_46 rfl rfl B75 (Own.rd Ow21) hl25 (by decide)) ⟨fun _ => (tk1 (tk0 : zy22 = 0 ∨ (gy22 = gy22 ∧ zy22 ≠ 0) ∨ w19.heap.size ≤ gy22)), fun _ => (tk1 (tk0 : zy22 = 0 ∨ (gy22 = gy22 ∧ zy22 ≠ 0) ∨ w19.heap.size ≤ gy22)), trivial⟩ ?_
   rintro vw22 w22 ⟨zw22, gw22, Ow22, Aw22, qw22, rw22⟩
   have z76 := Aw22.size
   refine ⟨Kz.ofKa Aw22, ?_⟩
   have S77 := ((S72.gr G21).ka Aw22 (tk1 (tk0 : zy22 = 0 ∨ (gy22 = gy22 ∧ zy22 ≠ 0) ∨ w19.heap.size ≤ gy22)))
   refine qh 0 rfl rfl S77 (fun w hS => vv_fieldAddr fa_48_2 rfl) ?_
   have B78 := (((B63.gr G20).gr G21).ka Aw22 (tk1 (pb_1 (b := bq13) Fw18_1 (tk1 Fw15_8.o))))
   refine qz [(1, bq13)] rfl (ev_st1 (cs' := THeader.cs (THeader.mk [] a14 l25 k0 (drv p3 (un8 53#8) 0#64)) vy15 vw22) (one_46).siz rfl rfl (Own.oneB Ow22) B78 rfl rfl) ⟨fun _ => tk0, nofun, trivial⟩ ?_
   rintro _ w23 ⟨Bw23, M23⟩
   have z79 := M23.size
   refine kM M23<|sd_nil<|⟨_, _, rfl, res_none rfl, ?_⟩
   refine sd_nil<|block_n<|then_n<|qg 2 rfl<|qv rfl (vv_add (k := .i64) (a := a20) (b := 1) rfl rfl)<|qm rfl<|sd_nil ?_
   have K_80 : Kz [(1, bq13), (zy16, gy16)] w17 w23 := (((((K18.gr G19).gr G20).gr G21).ka Aw22 (tk1 (pv_1 (A := (fun x => (x = gy16 ∧ zy16 ≠ 0) ∨ w17.heap.size ≤ x)) Fw18_1 tk0))).md M23)
   have B81 := (Ow22.md M23 (pb_app rw22 (pb_1 Fw18_1 (tk1 Fw15_8.o))))
   subst hrec5
   exact ⟨rfl, ⟨n5, w64 (a20 + 1), l25, vw22, zw22, gw22⟩, sbq, ⟨hm, B81, ⟨(pv_app (A := (fun x => (x = gy16 ∧ zy16 ≠ 0) ∨ w17.heap.size ≤ x)) rw22 (pv_1 (A := (fun x => (x = gy16 ∧ zy16 ≠ 0) ∨ w17.heap.size ≤ x)) Fw18_1 tk0))⟩, Bw23, K_80⟩, Nat.lt_succ_self _⟩
 replace hm := iF c8 hm
 refine sw_exit<|then_x<|then_x<|block_x<|then_n<|sw_seq<|sw_seq ?_
 refine qg 5 rfl<|qv rfl (vv_fieldAddr fa_28_1 rfl) ?_
 have B82 := (((((B41.gr Y6).kz K15).gr G16).md M17).kz K18 (tk1 (pb_0 (b := b2) Fw15_3)))
 refine qv rfl (vv_load1 (v := .int .i64 p1.Depth) one_3 rfl B82 rfl) ?_
 obtain ⟨n26, hn26, hm⟩ := bnd hm
 refine qv rfl (vv_shlI (a := 1) (b := p1.Depth) rfl rfl hn26)<|qv rfl (vv_add (k := .i64) (a := shlI 1 n26) (b := 1) rfl rfl)<|qm rfl<|sd_done<|sw_block ?_
 have X83 := (X54.kz K18 (tk1 (pv_0 (A := (fun x => w.heap.size ≤ x)) Fw15_3)))
 have B84 := (B53.kz K18 (tk2 ((pv_sw (pv_0 (A := (fun x => zp2 = 0 ∨ x ≠ gp2)) Fw15_3 (fun x hx => (tk1 lt1.o)))) : zp2 = 0 ∨ zy16 = 0 ∨ gp2 ≠ gy16) (pb_lt (b := bq13) lt1)))
 have B85 := (B55.kz K18 (tk2 ((pv_sw (pv_0 (A := (fun x => zy10 = 0 ∨ x ≠ gy10)) Fw15_3 (fun x hx => (tk1 lt37.o)))) : zy10 = 0 ∨ zy16 = 0 ∨ gy10 ≠ gy16) (pb_lt (b := bq13) lt37)))
 have B86 := (B56.kz K18 (tk2 ((tk1 Fw15_6.o) : zy15 = 0 ∨ zy16 = 0 ∨ gy15 ≠ gy16) ((tk1 Fw15_7.o) : zy15 = 0 ∨ gy15 ≠ bq13)))
 refine sw_loopD (α := Nat × Int × List TPoint × Value × Nat × Nat) ([22] ++ rg 105 11) (fun ⟨n6, a30, a31, vy32, zy32, gy32⟩ => [(22, .int .i64 a30)]) (fun ⟨n6, a30, a31, vy32, zy32, gy32⟩ wr => (fixN (poly_Seal_L6 p1 p3 a9 a14) n6 (a30, a31) = some r) ∧ Own wr zy32 gy32 31 2 vy32 (a31.map TPoint.cs) ∧ Hdn (zy32 = 0 ∨ (gy32 = gy22 ∧ zy22 ≠ 0) ∨ w18.heap.size ≤ gy32) ∧ Bx wr bq13 48 (THeader.cs (THeader.mk [] a14 a31 k0 (drv p3 (un8 53#8) 0#64)) vy15 vy32) ∧ Kz [(1, bq13), (zy22, gy22)] w18 wr) (fun ⟨n6, a30, a31, vy32, zy32, gy32⟩ => n6) ⟨FUEL, w64 ((shlI 1 n26) + 1), a21, vy22, zy22, gy22⟩ ?_ ?_ ?_
 · exact sbq
 · exact ⟨hm, Fw18_0, ⟨tk0⟩, Fw18_2, Kz.refl _ _⟩
 clear hm; rintro ⟨n6, a30, a31, vy32, zy32, gy32⟩ w24 ⟨hm, Fw24_0, Fw24_1, Fw24_2, K24⟩
 have z87 := K24.size
 have lt88 := Fw24_0.lth
 have lt89 := Fw24_2.lt
 have hb := fix_succ hm; clear hm; obtain ⟨n6, rfl, hm⟩ := hb
 generalize hrec6 : fixN (poly_Seal_L6 p1 p3 a9 a14) n6 = rec6 at hm
 unfold poly_Seal_L6 at hm
 try dsimp only at hm
 refine sw_seq<|qs 6 rfl<|qv rfl (vv_fieldAddr fa_48_2 rfl)<|qv rfl (vv_load1 (v := vy32) one_46 rfl Fw24_2 rfl)<|qv rfl (vv_lenT (l := a31) (c := TPoint.cs) Tryz.underlying46 rfl (Own.rd Fw24_0))<|qv rfl (vv_fieldAddr fa_28_2 rfl) ?_
 have B90 := (B82.kz K24 (tk1 (pb_1 (b := b2) Fw18_1 (pb_0 Fw15_3))))
 refine qv rfl (vv_load1 (v := .int .i64 p1.Degree) one_3 rfl B90 rfl)<|qv rfl (vv_lss (a := (a31.length : Int)) (b := p1.Degree) rfl rfl)<|sd_done<|sw_cond rfl (fun c9 => ?_) (fun c9 => ?_)
 · replace hm := iT c9 hm
   refine qu<|sw_seq<|sw_block<|qg 3 rfl<|qm rfl<|qm rfl ?_
   refine sd_inl 16 Tryz.func104 rfl rfl rfl en_104 rfl rfl rfl rfl rfl<|dw [([bq13] ++ zf zy32 gy32),([] ++ zf zy32 gy32)] [(12, [1])] (.leaf [(0,10),(1,11),(2,10),(3,10),(4,10),(5,10),(6,10),(7,0),(8,10),(9,0),(10,0),(11,10),(12,0)]) ?_
   intro w25 G25 zw25
   refine sdz_leaf<|qh 0 rfl rfl (Kp.refl ([bq13] ++ zf zy32 gy32) w25) (fun w hS => vv_fieldAddr fa_48_2 rfl) ?_
   have B91 := (Fw24_2.gr G25)
   refine qh 1 rfl rfl (Kp.refl ([] ++ zf zy32 gy32) w25) (fun w hS => vv_load1 (v := vy32) one_46 rfl (Bx.kp B91 hS (tk1 (pb_1 (b := bq13) Fw24_1 (pb_1 Fw18_1 (tk1 Fw15_8.o))))) rfl)<|dn 0 rfl rfl (Kp.refl ([bq13] ++ zf zy32 gy32) w25)<|qh 0 rfl rfl (Kp.refl ([bq13] ++ zf zy32 gy32) w25) (fun w hS => vv_cvIU cv_3_24 rfl) ?_
   have B92 := (((Bw17.kz K18 (tk1 (pb_lt (b := b16) lt48))).kz K24 (tk1 (pb_1 (b := b16) Fw18_1 (pb_lt lt48)))).gr G25)
   refine qh 0 rfl rfl (Kp.refl ([bq13] ++ zf zy32 gy32) w25) (fun w hS => vv_load1 one_167 rfl (Bx.kp B92 hS (tk1 (pb_1 (b := b16) Fw24_1 (pb_1 Fw18_1 (pb_lt lt48))))) rfl)<|dn 0 rfl rfl (Kp.refl ([bq13] ++ zf zy32 gy32) w25)<|qh 0 rfl rfl (Kp.refl ([bq13] ++ zf zy32 gy32) w25) (fun w hS => vv_cvIU cv_3_24 rfl) ?_
   have B93 := (B90.gr G25)
   have B94 := ((B86.kz K24 (tk2 ((pv_sw (pv_1 (A := (fun x => zy15 = 0 ∨ x ≠ gy15)) Fw18_1 (tk1 Fw15_6.o) (fun x hx => (tk1 lt47.o)))) : zy15 = 0 ∨ zy22 = 0 ∨ gy15 ≠ gy22) ((tk1 Fw15_7.o) : zy15 = 0 ∨ gy15 ≠ bq13))).gr G25)
   have B95 := (Fw24_0.gr G25)
   have B96 := (((((((Fw11_2.gr Y7).kz K15).gr G16).md M17).kz K18 (tk1 (pb_0 (b := bq8) Fw15_3))).kz K24 (tk1 (pb_1 (b := bq8) Fw18_1 (pb_0 Fw15_3)))).gr G25)
   have B97 := ((B85.kz K24 (tk2 ((pv_sw (pv_1 (A := (fun x => zy10 = 0 ∨ x ≠ gy10)) Fw18_1 (pv_0 (A := (fun x => zy10 = 0 ∨ x ≠ gy10)) Fw15_3 (fun x hx => (tk1 lt37.o))) (fun x hx => (tk1 lt37.o)))) : zy10 = 0 ∨ zy22 = 0 ∨ gy10 ≠ gy22) (pb_lt (b := bq13) lt37))).gr G25)
   have B98 := (((((((Fw11_4.gr Y7).kz K15).gr G16).md M17).kz K18 (tk1 (pb_0 (b := bq11) Fw15_3))).kz K24 (tk1 (pb_1 (b := bq11) Fw18_1 (pb_0 Fw15_3)))).gr G25)
   obtain ⟨x33, hx33, hm⟩ := bnd hm
   refine qz [] rfl (ev_callV en_102 rfl rfl (poly_Seal_1_w hx33 B93 B91 (Own.rd B94) (Own.rd B95) B96 (Own.rd B97) B98)) ⟨fun _ => tk0, fun _ => tk0, trivial⟩ ?_
   rintro _ w26 ⟨rfl, G26⟩
   have z99 := G26.size
   refine kG G26 ?_
   have S100 := ((Kp.refl ([bq13] ++ zf zy32 gy32) w25).gr G26)
   refine qh 0 rfl rfl S100 (fun w hS => vv_build (cs := TPoint.cs (TPoint.mk (wd a30) x33)) bs_31 rfl rfl)<|qz [] rfl (ev_litT [(TPoint.mk (wd a30) x33)] TPoint.cs bsl_46_1 rfl rfl (ws_of rfl) rfl rfl rfl) ⟨fun _ => tk0, fun _ => tk0, trivial⟩ ?_
   rintro vw27 w27 ⟨gw27, hbw27, Ow27, G27⟩
   have z101 := G27.size
   have lt102 := Ow27.lth
   refine kG G27 ?_
   have B103 := ((B95.gr G26).gr G27)
   obtain ⟨l34, hl34, hm⟩ := bnd hm
   refine qz [(zy32, gy32)] rfl (ev_appT (l := a31) (m := [(TPoint.mk (wd a30) x33)]) (c := TPoint.cs) apt_46 rfl rfl B103 (Own.rd Ow27) hl34 (by decide)) ⟨fun _ => (tk1 (tk0 : zy32 = 0 ∨ (gy32 = gy32 ∧ zy32 ≠ 0) ∨ w25.heap.size ≤ gy32)), fun _ => (tk1 (tk0 : zy32 = 0 ∨ (gy32 = gy32 ∧ zy32 ≠ 0) ∨ w25.heap.size ≤ gy32)), trivial⟩ ?_
   rintro vw28 w28 ⟨zw28, gw28, Ow28, Aw28, qw28, rw28⟩
   have z104 := Aw28.size
   refine ⟨Kz.ofKa Aw28, ?_⟩
   have S105 := ((S100.gr G27).ka Aw28 (tk1 (tk0 : zy32 = 0 ∨ (gy32 = gy32 ∧ zy32 ≠ 0) ∨ w25.heap.size ≤ gy32)))
   refine qh 0 rfl rfl S105 (fun w hS => vv_fieldAddr fa_48_2 rfl) ?_
   have B106 := (((B91.gr G26).gr G27).ka Aw28 (tk1 (pb_1 (b := bq13) Fw24_1 (pb_1 Fw18_1 (tk1 Fw15_8.o)))))
   refine qz [(1, bq13)] rfl (ev_st1 (cs' := THeader.cs (THeader.mk [] a14 l34 k0 (drv p3 (un8 53#8) 0#64)) vy15 vw28) (one_46).siz rfl rfl (Own.oneB Ow28) B106 rfl rfl) ⟨fun _ => tk0, nofun, trivial⟩ ?_
   rintro _ w29 ⟨Bw29, M29⟩
   have z107 := M29.size
   refine kM M29<|sd_nil<|⟨_, _, rfl, res_none rfl, ?_⟩
   refine sd_nil<|block_n<|then_n<|qg 3 rfl<|qm rfl<|qv rfl (vv_add (k := .i64) (a := a30) (b := 1) rfl rfl)<|qm rfl ?_
   refine sd_nil ?_
   have K_108 : Kz [(1, bq13), (zy22, gy22)] w18 w29 := (((((K24.gr G25).gr G26).gr G27).ka Aw28 (tk1 (pv_1 (A := (fun x => (x = gy22 ∧ zy22 ≠ 0) ∨ w18.heap.size ≤ x)) Fw24_1 tk0))).md M29)
   have B109 := (Ow28.md M29 (pb_app rw28 (pb_1 Fw24_1 (pb_1 Fw18_1 (tk1 Fw15_8.o)))))
   subst hrec6
   exact ⟨rfl, ⟨n6, w64 (a30 + 1), l34, vw28, zw28, gw28⟩, sbq, ⟨hm, B109, ⟨(pv_app (A := (fun x => (x = gy22 ∧ zy22 ≠ 0) ∨ w18.heap.size ≤ x)) rw28 (pv_1 (A := (fun x => (x = gy22 ∧ zy22 ≠ 0) ∨ w18.heap.size ≤ x)) Fw24_1 tk0))⟩, Bw29, K_108⟩, Nat.lt_succ_self _⟩
 replace hm := iF c9 hm
 refine sw_exit<|then_x<|then_x<|block_x<|then_n<|sw_seq<|dw [([bq13])] [] (.leaf [(0,10),(3,10),(1,0),(2,0),(4,0),(5,10),(6,0)]) ?_
 intro w30 G30 zw30
 refine sdz_leaf ?_
 have B110 := (((Bw17.kz K18 (tk1 (pb_lt (b := b16) lt48))).kz K24 (tk1 (pb_1 (b := b16) Fw18_1 (pb_lt lt48)))).gr G30)
 refine dh 0 rfl rfl (fun w hS => vv_load1 one_167 rfl (Bx.kp B110 hS) rfl) ?_
 have Y9 := Gr.trans G4 G5
 have B111 := ((((((((((Bw3.gr Y9).kz K7).kz K11).gr Y7).kz K15).gr G16).md M17).kz K18 (tk1 (pb_0 (b := b3) Fw15_3))).kz K24 (tk1 (pb_1 (b := b3) Fw18_1 (pb_0 Fw15_3)))).gr G30)
 refine dh 0 rfl rfl (fun w hS => vv_loadW agg_23 rfl (Bx.kp B111 hS) rfl) ?_
 have B112 := (B90.gr G30)
 have B113 := (Fw24_2.gr G30)
 have B114 := ((B86.kz K24 (tk2 ((pv_sw (pv_1 (A := (fun x => zy15 = 0 ∨ x ≠ gy15)) Fw18_1 (tk1 Fw15_6.o) (fun x hx => (tk1 lt47.o)))) : zy15 = 0 ∨ zy22 = 0 ∨ gy15 ≠ gy22) ((tk1 Fw15_7.o) : zy15 = 0 ∨ gy15 ≠ bq13))).gr G30)
 have B115 := (Fw24_0.gr G30)
 have B116 := (((((((Fw11_2.gr Y7).kz K15).gr G16).md M17).kz K18 (tk1 (pb_0 (b := bq8) Fw15_3))).kz K24 (tk1 (pb_1 (b := bq8) Fw18_1 (pb_0 Fw15_3)))).gr G30)
 have B117 := ((B85.kz K24 (tk2 ((pv_sw (pv_1 (A := (fun x => zy10 = 0 ∨ x ≠ gy10)) Fw18_1 (pv_0 (A := (fun x => zy10 = 0 ∨ x ≠ gy10)) Fw15_3 (fun x hx => (tk1 lt37.o))) (fun x hx => (tk1 lt37.o)))) : zy10 = 0 ∨ zy22 = 0 ∨ gy10 ≠ gy22) (pb_lt (b := bq13) lt37))).gr G30)
 have B118 := (((((((Fw11_4.gr Y7).kz K15).gr G16).md M17).kz K18 (tk1 (pb_0 (b := bq11) Fw15_3))).kz K24 (tk1 (pb_1 (b := bq11) Fw18_1 (pb_0 Fw15_3)))).gr G30)
 obtain ⟨x35, hx35, hm⟩ := bnd hm
 refine qz [] rfl (ev_callV en_102 rfl rfl (poly_Seal_1_w hx35 B112 B113 (Own.rd B114) (Own.rd B115) B116 (Own.rd B117) B118)) ⟨fun _ => tk0, trivial⟩ ?_
 rintro _ w31 ⟨rfl, G31⟩
 have z119 := G31.size
 refine kG G31 ?_
 obtain ⟨x36, hx36, hm⟩ := bnd hm
 refine qz [] rfl (eC en_105 rfl (poly_maskKey_w hx36)) ⟨fun _ => tk0, trivial⟩ ?_
 rintro _ w32 ⟨rfl, G32⟩
 have z120 := G32.size
 refine kG G32<|qz [] rfl (eC en_96 rfl (encr_c x36 p3 _)) ⟨fun _ => tk0, trivial⟩ ?_
 rintro _ w33 ⟨rfl, G33⟩
 have z121 := G33.size
 refine kG G33 ?_
 have Y10 := Gr.trans (Gr.trans G31 G32) G33
 have S122 := ((Kp.refl ([bq13]) w30).gr Y10)
 refine qh 0 rfl rfl S122 (fun w hS => vv_fieldAddr fa_48_3 rfl) ?_
 have B123 := (B113.gr Y10)
 refine qz [(1, bq13)] rfl (ev_stM (cs' := THeader.cs (THeader.mk [] a14 a31 (encr x36 p3) (drv p3 (un8 53#8) 0#64)) vy15 vy32) (vs := kb (encr x36 p3)) (agg_23).siz rfl rfl rfl rfl rfl B123 rfl (by obtain ⟨kk0, hk0⟩ := ex_of (drv p3 (un8 53#8) 0#64); rw [← hk0]; obtain ⟨kk1, hk1⟩ := ex_of (encr x36 p3); rw [← hk1]; first | done | rfl)) ⟨fun _ => tk0, trivial⟩ ?_
 rintro _ w34 ⟨Bw34, M34⟩
 have z124 := M34.size
 refine kM M34<|qd 3 rfl<|qv rfl (vv_loadW agg_48 rfl Bw34 rfl) ?_
 have B125 := ((((((((((((Bw4.gr G5).kz K7).kz K11).gr Y7).kz K15).gr G16).md M17).kz K18 (tk1 (pb_0 (b := b4) Fw15_3))).kz K24 (tk1 (pb_1 (b := b4) Fw18_1 (pb_0 Fw15_3)))).gr G30).gr Y10).md M34)
 have B126 := ((B114.gr Y10).md M34 (tk1 ((tk1 Fw15_7.o) : zy15 = 0 ∨ gy15 ≠ bq13)))
 have B127 := ((B115.gr Y10).md M34 (pb_1 Fw24_1 (pb_1 Fw18_1 (tk1 Fw15_8.o))))
 refine qe rfl (ev_stW agg_48 rfl rfl (THeader.cs_ones _ _ _ (Own.oneB B126) (Own.oneB B127)) B125 rfl rfl) ?_
 rintro _ w35 ⟨Bw35, M35⟩
 have z128 := M35.size
 refine qm rfl<|sd_done<|sw_ret ?_
 have B129 := (B126.md M35 (pb_0 Fw15_1))
 have B130 := (B127.md M35 (pb_1 Fw24_1 (pb_1 Fw18_1 (pb_0 Fw15_3))))
 have X131 := (((((X83.kz K24 (tk1 (pv_1 (A := (fun x => w.heap.size ≤ x)) Fw18_1 (pv_0 (A := (fun x => w.heap.size ≤ x)) Fw15_3)))).trans G30).trans Y10).md M34).md M35)
 cases hm
 refine ⟨_, _, rfl, res_2 rfl (rv_cellW agg_48 rfl Bw35 rfl) (rv_tmp rfl), ?_⟩
 exact ⟨vy15, zy15, gy15, vy32, zy32, gy32, rfl, B129, ⟨(pv_0 (A := (fun x => w.heap.size ≤ x)) Fw15_1)⟩, B130, ⟨(pv_1 (A := (fun x => w.heap.size ≤ x)) Fw24_1 (pv_1 (A := (fun x => w.heap.size ≤ x)) Fw18_1 (pv_0 (A := (fun x => w.heap.size ≤ x)) Fw15_3)))⟩, ⟨(pv_1 (A := (fun x => zy15 = 0 ∨ x ≠ gy15)) Fw24_1 (pv_1 (A := (fun x => zy15 = 0 ∨ x ≠ gy15)) Fw18_1 (tk1 Fw15_6.o) (fun x hx => (tk1 lt47.o))) (fun x hx => (tk1 lt47.o)))⟩, X131⟩
end Go.Proofs.YtjdffpglgkefmaaGreat.Mx
