/- Walks that follow mirrors: Gd. Printed by mx.py. -/
import Derived.Test.YtopkalcefepilaaGf
import Derived.Test.YtopkalcefepilaaZd
set_option linter.unusedVariables false
set_option linter.unusedSimpArgs false
set_option maxRecDepth 100000
set_option maxHeartbeats 2000000
namespace Go.Proofs.Ytopkalcefepilaa.Mx
open Go Go.RowKit Go.Sx
theorem en_98 : En Try.prog 98 := fun _ _ => by kernel_rfl
theorem en_63 : En Try.prog 63 := fun _ _ => by kernel_rfl
theorem bsl_74_1 : BSl Try.prog 74 1 114 2 [.int .i64 0, .int .i64 0] := bsl_mk Try.underlying74 (agg_114).siz zv_114 rfl rfl (by kernel_rfl)
theorem mpt_115 : MpT Try.prog 115 116 4 := ⟨Try.underlying115, Try.underlying116, fun _ => by kernel_rfl⟩
theorem zv_74 : ZV Try.prog 74 (.slice none 0 0) := fun _ => by kernel_rfl
theorem one_74 : One Try.prog 74 := fun _ => ⟨by kernel_rfl, by kernel_rfl⟩
theorem apt_74 : ApT Try.prog 74 114 2 16 := apt_mk Try.underlying74 rfl (by kernel_rfl)
theorem en_65 : En Try.prog 65 := fun _ _ => by kernel_rfl
theorem en_69 : En Try.prog 69 := fun _ _ => by kernel_rfl
theorem cover_tree_receiver_w {p0 p1 r} (hm : cover_tree_receiver p0 p1 = some r) {w : World} :
    Calls Try.prog 98 [.agg (Tcover_tree.cs p0).toArray, .int .i64 p1].toArray w fun e w' => ∃ v, e = .returned v ∧ (v = .bool r ∧ Gr w w') := by
 unfold cover_tree_receiver at hm
 refine calls_of_sw 13 Try.func98 rfl rfl rfl<|qs 2 rfl<|qe rfl (ev_box (cs := Tcover_tree.cs p0) rfl rfl) ?_
 rintro _ w1 ⟨b1, rfl, hbw1, Bw1, G1⟩
 have z1 := G1.size
 have lt2 := Bw1.lt
 refine qm rfl<|qd 9 rfl<|qm rfl<|qv rfl (vv_geq (a := p1) (b := 0) rfl rfl)<|qpF rfl (vv_move rfl) (fun c1 => ?_) (fun c1 => ?_)
 · replace hm := iF c1 hm
   refine qk rfl<|qk rfl<|qk rfl<|qk rfl<|qm rfl<|qm rfl<|sd_done ?_
   refine sw_ret ?_
   have X5 := ((Gr.refl w).trans G1)
   cases hm
   refine ⟨_, _, rfl, res_1 rfl (rv_tmp rfl), ?_⟩
   exact ⟨rfl, X5⟩
 replace hm := iT c1 hm
 refine qm rfl<|qv rfl (vv_loadW agg_109 rfl Bw1 rfl) ?_
 obtain ⟨x1, hx1, hm⟩ := bnd hm
 refine qe rfl (eC en_99 rfl (cover_tree_size_w hx1)) ?_
 rintro _ w2 ⟨rfl, G2⟩
 have z3 := G2.size
 refine qv rfl (vv_lss (a := p1) (b := x1) rfl rfl)<|qm rfl<|qm rfl<|sd_done<|sw_ret ?_
 have X4 := (((Gr.refl w).trans G1).trans G2)
 cases hm
 refine ⟨_, _, rfl, res_1 rfl (rv_tmp rfl), ?_⟩
 exact ⟨rfl, X4⟩
theorem cover_tree_list_w {p0 p1 vp1 zp1 gp1 op1 r} (hm : cover_tree_list p0 p1 = some r) {w : World} (hp1 : Rd w zp1 gp1 op1 1 vp1 (p1.map ic)) :
    Calls Try.prog 63 [.agg (Tcover_tree.cs p0).toArray, vp1].toArray w fun e w' => ∃ v, e = .returned v ∧ (v = .bool r ∧ Gr w w') := by
 have lt1 := hp1.lth
 unfold cover_tree_list at hm
 refine calls_of_sw 32 Try.func63 rfl rfl rfl<|qs 2 rfl<|qe rfl (ev_box (cs := Tcover_tree.cs p0) rfl rfl) ?_
 rintro _ w1 ⟨b1, rfl, hbw1, Bw1, G1⟩
 have z2 := G1.size
 have lt3 := Bw1.lt
 refine qm rfl<|sd_done<|sw_seq<|qs 3 rfl<|qm rfl ?_
 have B4 := (hp1.gr G1)
 refine qv rfl (vv_lenT (l := p1) (c := ic) Try.underlying32 rfl B4)<|qm rfl<|sd_done<|sw_block ?_
 have X5 := ((Gr.refl w).trans G1)
 refine sw_loopD (α := Nat × Int) ([4, 5, 6] ++ rg 9 23) (fun ⟨n1, a2⟩ => [(4, .bool false), (9, .int .i64 a2)]) (fun ⟨n1, a2⟩ wr => (fixN (cover_tree_list_L1 p0 p1) n1 a2 = some r) ∧ Kz [] w1 wr) (fun ⟨n1, a2⟩ => n1) ⟨FUEL, 0⟩ ?_ ?_ ?_
 · exact sbq
 · exact ⟨hm, Kz.refl _ _⟩
 clear hm; rintro ⟨n1, a2⟩ w2 ⟨hm, K2⟩
 have z6 := K2.size
 have hb := fix_succ hm; clear hm; obtain ⟨n1, rfl, hm⟩ := hb
 generalize hrec1 : fixN (cover_tree_list_L1 p0 p1) n1 = rec1 at hm
 unfold cover_tree_list_L1 at hm
 try dsimp only at hm
 refine qs 1 rfl<|qv rfl (vv_lss (a := a2) (b := (p1.length : Int)) rfl rfl)<|sd_done<|sw_seq<|cnF rfl (fun c1 => ?_) (fun c1 => ?_)
 · replace hm := iF c1 hm
   refine sw_exit<|then_x<|then_x<|block_x<|then_n<|qs 1 rfl ?_
   refine qm rfl<|sd_done<|sw_ret ?_
   have X18 := (X5.kz K2)
   cases hm
   refine ⟨_, _, rfl, res_1 rfl (rv_tmp rfl), ?_⟩
   exact ⟨rfl, X18⟩
 replace hm := iT c1 hm
 refine qu<|sw_seq<|sw_block<|qs 5 rfl<|qm rfl ?_
 obtain ⟨y3, hy3, hm⟩ := bnd hm
 have B7 := (B4.kz K2)
 refine qv rfl (vv_ixT (i := a2) Try.underlying32 (one_3).siz rfl B7 rfl hy3)<|qv rfl (vv_el1T (q := 0) (u := .int .i64 y3) one_3 rfl B7 hy3 (by first | rfl | omega) rfl)<|qm rfl<|qm rfl<|sd_done ?_
 have X8 := (X5.kz K2)
 refine qj (β := Bool) (rg 14 17) (fun a4 => [(30, .bool a4)]) (fun a4 wr => (cover_tree_list_J2 a2 rec1 a4 = some r) ∧ Kz [] w2 wr) ?_ ?_
 · refine qg 17 rfl ?_
   have B12 := (Bw1.kz K2)
   refine qv rfl (vv_loadW agg_109 rfl B12 rfl)<|qm rfl ?_
   obtain ⟨x5, hx5, hm⟩ := bnd hm
   refine qe rfl (eC en_98 rfl (cover_tree_receiver_w hx5)) ?_
   rintro _ w4 ⟨rfl, G4⟩
   have z13 := G4.size
   refine qv rfl (vv_not rfl)<|qp rfl (vv_move rfl) (fun c3 => ?_) (fun c3 => ?_)
   · replace hm := cnd_t c3 hm
     refine qk rfl<|qk rfl<|qk rfl<|qk rfl<|qk rfl<|qk rfl<|qk rfl ?_
     refine qk rfl<|qk rfl<|qk rfl<|qk rfl<|qm rfl<|sd_nil ?_
     exact ⟨rfl, true, sbq, hm, (kz0.gr G4)⟩
   replace hm := cnd_f c3 hm
   refine qm rfl<|qv rfl (vv_gtr (a := a2) (b := 0) rfl rfl)<|qpF rfl (vv_move rfl) (fun c4 => ?_) (fun c4 => ?_)
   · replace hm := iF c4 hm
     refine qk rfl<|qk rfl<|qk rfl<|qk rfl<|qk rfl<|qk rfl<|qk rfl ?_
     refine qm rfl<|qm rfl<|sd_nil ?_
     exact ⟨rfl, false, sbq, hm, (kz0.gr G4)⟩
   replace hm := iT c4 hm
   refine qm rfl<|qm rfl<|qm rfl<|qv rfl (vv_sub (k := .i64) (a := a2) (b := 1) rfl rfl) ?_
   obtain ⟨y6, hy6, hm⟩ := bnd hm
   have B15 := (B7.gr G4)
   refine qv rfl (vv_ixT (i := w64 (a2 - 1)) Try.underlying32 (one_3).siz rfl B15 rfl hy6)<|qv rfl (vv_el1T (q := 0) (u := .int .i64 y6) one_3 rfl B15 hy6 (by first | rfl | omega) rfl)<|qv rfl (vv_leq (a := y3) (b := y6) rfl rfl)<|qm rfl<|qm rfl<|sd_nil ?_
   exact ⟨rfl, (decide (y3 ≤ y6)), sbq, hm, (kz0.gr G4)⟩
 clear hm; rintro a4 w3 ⟨hm, K3⟩
 have z9 := K3.size
 unfold cover_tree_list_J2 at hm
 refine sw_cond rfl (fun c2 => ?_) (fun c2 => ?_)
 · replace hm := cnd_t c2 hm
   refine qs 1 rfl<|qm rfl<|sd_done<|sw_ret<|block_r<|then_r ?_
   refine then_r<|block_r<|then_r ?_
   have X10 := (X8.kz K3)
   cases hm
   refine ⟨_, _, rfl, res_1 rfl (rv_tmp rfl), ?_⟩
   exact ⟨rfl, X10⟩
 replace hm := cnd_f c2 hm
 refine sw_skip<|block_n<|then_n<|qg 2 rfl<|qv rfl (vv_add (k := .i64) (a := a2) (b := 1) rfl rfl)<|qm rfl<|sd_nil ?_
 have K_11 : Kz [] w1 w3 := (K2.kz K3)
 subst hrec1
 exact ⟨rfl, ⟨n1, w64 (a2 + 1)⟩, sbq, ⟨hm, K_11⟩, Nat.lt_succ_self _⟩
theorem cover_Cover_1_w {p0 p1 p2 bp2 vp2_0 zp2_0 gp2_0 r} (hm : cover_Cover_1 p0 p1 p2 = some r) {w : World} (hbp2 : Bx w bp2 74 ([vp2_0])) (hp2_0 : Own w zp2_0 gp2_0 114 2 vp2_0 (p2.map TSubset.cs)) (ne0 : Hdn (zp2_0 = 0 ∨ gp2_0 ≠ bp2)) :
    Calls Try.prog 65 [.int .i64 p0, .int .i64 p1, .pointer (some ⟨bp2, 0, none⟩)].toArray w fun e w' => ∃ v, e = .returned v ∧ (∃ ub0_s zb0_s gb0_s, v = .tuple #[] ∧ Own w' zb0_s gb0_s 114 2 ub0_s (r.map TSubset.cs) ∧ Hdn (zb0_s = 0 ∨ (gb0_s = gp2_0 ∧ zp2_0 ≠ 0) ∨ w.heap.size ≤ gb0_s) ∧ Bx w' bp2 74 ([ub0_s]) ∧ Kz [(zp2_0, gp2_0), (1, bp2)] w w') := by
 have lt1 := hp2_0.lth
 have lt2 := hbp2.lt
 unfold cover_Cover_1 at hm
 refine calls_of_sw 11 Try.func65 rfl rfl rfl<|qg 7 rfl<|qv rfl (vv_load1 (v := vp2_0) one_74 rfl hbp2 rfl)<|qm rfl<|qm rfl<|qv rfl (vv_build (cs := TSubset.cs (TSubset.mk p0 p1)) bs_114 rfl rfl)<|qe rfl (ev_litT [(TSubset.mk p0 p1)] TSubset.cs bsl_74_1 rfl rfl (ws_of rfl) rfl rfl rfl) ?_
 rintro vw1 w1 ⟨gw1, hbw1, Ow1, G1⟩
 have z3 := G1.size
 have lt4 := Ow1.lth
 have B5 := (hp2_0.gr G1)
 obtain ⟨l1, hl1, hm⟩ := bnd hm
 refine qe rfl (ev_appT (l := p2) (m := [(TSubset.mk p0 p1)]) (c := TSubset.cs) apt_74 rfl rfl B5 (Own.rd Ow1) hl1 (by decide)) ?_
 rintro vw2 w2 ⟨zw2, gw2, Ow2, Aw2, qw2, rw2⟩
 have z6 := Aw2.size
 have B7 := ((hbp2.gr G1).ka Aw2 (tk1 ((tk2 lt1.o ne0.o) : zp2_0 = 0 ∨ gp2_0 ≠ bp2)))
 refine qe rfl (ev_st1 (cs' := [vw2]) (one_74).siz rfl rfl (Own.oneB Ow2) B7 rfl rfl) ?_
 rintro _ w3 ⟨Bw3, M3⟩
 have z8 := M3.size
 refine sd_nil ?_
 have B9 := (Ow2.md M3 (pb_app rw2 (tk2 lt1.o ne0.o)))
 have X10 := ((((Kz.refl [(zp2_0, gp2_0), (1, bp2)] w).gr G1).ka Aw2 (tk1 (tk0 : zp2_0 = 0 ∨ (gp2_0 = gp2_0 ∧ zp2_0 ≠ 0) ∨ w.heap.size ≤ gp2_0))).md M3)
 cases hm
 refine ⟨_, _, rfl, res_none rfl, ?_⟩
 exact ⟨vw2, zw2, gw2, rfl, B9, ⟨(pv_app (A := (fun x => (x = gp2_0 ∧ zp2_0 ≠ 0) ∨ w.heap.size ≤ x)) rw2 tk0)⟩, Bw3, X10⟩
theorem cover_Cover_w {p0 p1 vp1 zp1 gp1 op1 r} (hm : cover_Cover p0 p1 = some r) {w : World} (hp1 : Rd w zp1 gp1 op1 1 vp1 (p1.map ic)) :
    Calls Try.prog 35 [.agg (TScheme.cs p0).toArray, vp1].toArray w fun e w' => ∃ v, e = .returned v ∧ (∃ ur0_s zr0_s gr0_s, v = .tuple [ur0_s, .int .i64 r.2].toArray ∧ Own w' zr0_s gr0_s 114 2 ur0_s (r.1.map TSubset.cs) ∧ Hdn (zr0_s = 0 ∨ w.heap.size ≤ gr0_s) ∧ Gr w w') := by
 have lt1 := hp1.lth
 unfold cover_Cover at hm
 refine calls_of_sw 134 Try.func35 rfl rfl rfl<|qs 3 rfl<|qe rfl (ev_box (cs := TScheme.cs p0) rfl rfl) ?_
 rintro _ w1 ⟨b1, rfl, hbw1, Bw1, G1⟩
 have z2 := G1.size
 have lt3 := Bw1.lt
 refine qm rfl<|qm rfl<|qd 8 rfl<|qv rfl (vv_loadW agg_26 rfl Bw1 rfl) ?_
 obtain ⟨x1, hx1, hm⟩ := bnd hm
 refine qe rfl (eC en_62 rfl (cover_enter_w hx1 (Own.rd (own_nil _ 0 114 2)))) ?_
 rintro _ w2 ⟨rfl, G2⟩
 have z4 := G2.size
 refine qm rfl<|qm rfl<|qm rfl<|qe rfl (ev_alloc (cs := Tcover_tree.cs (Tcover_tree.mk 0#8 0 0)) zv_109 rfl) ?_
 rintro _ w3 ⟨b3, rfl, hbw3, Bw3, G3⟩
 have z5 := G3.size
 have lt6 := Bw3.lt
 refine qe rfl (ev_stW agg_109 rfl rfl rfl Bw3 rfl rfl) ?_
 rintro _ w4 ⟨Bw4, M4⟩
 have z7 := M4.size
 refine qm rfl<|sd_done<|sw_seq<|qs 2 rfl<|qm rfl<|qv rfl (vv_neq (a := x1.2) (b := 0) rfl rfl) ?_
 refine sd_done<|sw_cond rfl (fun c1 => ?_) (fun c1 => ?_)
 · replace hm := iT c1 hm
   refine qs 3 rfl<|qm rfl<|qm rfl<|qm rfl<|sd_done<|sw_ret ?_
   refine then_r ?_
   have Y1 := Gr.trans (Gr.trans G1 G2) G3
   have X8 := (((Gr.refl w).trans Y1).md M4)
   cases hm
   refine ⟨_, _, rfl, res_2 rfl (rv_tmp rfl) (rv_tmp rfl), ?_⟩
   exact ⟨(.slice none 0 0), 0, 0, rfl, (own_nil _ 0 114 2), ⟨.inl rfl⟩, X8⟩
 replace hm := iF c1 hm
 refine qu<|sw_seq<|qs 4 rfl<|qv rfl (vv_loadW agg_109 rfl Bw4 rfl)<|qm rfl ?_
 have Y2 := Gr.trans (Gr.trans G1 G2) G3
 have B9 := ((hp1.gr Y2).md M4 (pb_lt lt1))
 obtain ⟨x2, hx2, hm⟩ := bnd hm
 refine qe rfl (eC en_63 rfl (cover_tree_list_w hx2 B9)) ?_
 rintro _ w5 ⟨rfl, G5⟩
 have z10 := G5.size
 refine qv rfl (vv_not rfl)<|sd_done<|sw_cond rfl (fun c2 => ?_) (fun c2 => ?_)
 · replace hm := cnd_t c2 hm
   refine qs 2 rfl<|qm rfl<|qm rfl<|sd_done<|sw_ret<|then_r ?_
   have X11 := ((((Gr.refl w).trans Y2).md M4).trans G5)
   cases hm
   refine ⟨_, _, rfl, res_2 rfl (rv_tmp rfl) (rv_tmp rfl), ?_⟩
   exact ⟨(.slice none 0 0), 0, 0, rfl, (own_nil _ 0 114 2), ⟨.inl rfl⟩, X11⟩
 replace hm := cnd_f c2 hm
 refine qu<|sw_seq<|qs 3 rfl<|qm rfl ?_
 have B12 := (B9.gr G5)
 refine qv rfl (vv_lenT (l := p1) (c := ic) Try.underlying32 rfl B12)<|qv rfl (vv_eql (a := (p1.length : Int)) (b := 0) rfl rfl)<|sd_done<|sw_cond rfl (fun c3 => ?_) (fun c3 => ?_)
 · replace hm := iT c3 hm
   refine qs 4 rfl<|qv rfl (vv_build (cs := TSubset.cs (TSubset.mk 1 0)) bs_114 rfl rfl)<|qe rfl (ev_litT [(TSubset.mk 1 0)] TSubset.cs bsl_74_1 rfl rfl (ws_of rfl) rfl rfl rfl) ?_
   rintro vw6 w6 ⟨gw6, hbw6, Ow6, G6⟩
   have z13 := G6.size
   have lt14 := Ow6.lth
   refine qm rfl<|qm rfl<|qb ?_
   have X15 := (((((Gr.refl w).trans Y2).md M4).trans G5).trans G6)
   cases hm
   refine ⟨_, _, rfl, res_2 rfl (rv_tmp rfl) (rv_tmp rfl), ?_⟩
   exact ⟨vw6, 1, gw6, rfl, Ow6, ⟨(.inr tk0)⟩, X15⟩
 replace hm := iF c3 hm
 refine qu<|qs 2 rfl<|qe rfl (ev_makeMap) ?_
 rintro _ w7 ⟨b7, rfl, hbw7, Bw7, G7⟩
 have z16 := G7.size
 have lt17 := Bw7.lt
 refine qm rfl<|sd_done<|sw_seq<|qs 3 rfl<|qm rfl ?_
 have B18 := (B12.gr G7)
 refine qv rfl (vv_lenT (l := p1) (c := ic) Try.underlying32 rfl B18)<|qm rfl<|sd_done<|sw_block ?_
 have X19 := (((((Gr.refl w).trans Y2).md M4).trans G5).trans G7)
 refine sw_loopD (α := Nat × Int × List Int) ([10, 11] ++ rg 37 14) (fun ⟨n1, a5, a6⟩ => [(37, .int .i64 a5)]) (fun ⟨n1, a5, a6⟩ wr => (fixN (cover_Cover_L1 p1 x1) n1 (a5, a6) = some r) ∧ Mo wr b7 a6 ∧ Kz [(1, b7)] w7 wr) (fun ⟨n1, a5, a6⟩ => n1) ⟨FUEL, 0, []⟩ ?_ ?_ ?_
 · exact sbq
 · exact ⟨hm, Bw7, Kz.refl _ _⟩
 clear hm; rintro ⟨n1, a5, a6⟩ w8 ⟨hm, Fw8_0, K8⟩
 have z20 := K8.size
 have lt21 := Fw8_0.lt
 have hb := fix_succ hm; clear hm; obtain ⟨n1, rfl, hm⟩ := hb
 generalize hrec1 : fixN (cover_Cover_L1 p1 x1) n1 = rec1 at hm
 unfold cover_Cover_L1 at hm
 try dsimp only at hm
 refine qs 1 rfl<|qv rfl (vv_lss (a := a5) (b := (p1.length : Int)) rfl rfl)<|sd_done<|sw_seq<|sw_cond rfl (fun c4 => ?_) (fun c4 => ?_)
 · replace hm := iT c4 hm
   refine qu<|sw_seq<|sw_block<|qs 3 rfl ?_
   obtain ⟨y7, hy7, hm⟩ := bnd hm
   have B22 := (B18.kz K8 (tk1 (pb_lt (b := b7) lt1)))
   refine qv rfl (vv_ixT (i := a5) Try.underlying32 (one_3).siz rfl B22 rfl hy7)<|qv rfl (vv_el1T (q := 0) (u := .int .i64 y7) one_3 rfl B22 hy7 (by first | rfl | omega) rfl)<|qm rfl<|qd 4 rfl ?_
   have B23 := (((Bw4.gr G5).gr G7).kz K8)
   refine qv rfl (vv_loadW agg_109 rfl B23 rfl)<|qm rfl ?_
   obtain ⟨x8, hx8, hm⟩ := bnd hm
   refine qe rfl (eC en_64 rfl (cover_tree_leaf_w hx8)) ?_
   rintro _ w9 ⟨rfl, G9⟩
   have z24 := G9.size
   refine qm rfl<|sd_done<|sw_block ?_
   have X25 := ((X19.kz K8).trans G9)
   have B26 := (B22.gr G9)
   have B27 := (Fw8_0.gr G9)
   refine sw_loopD (α := Nat × Int × List Int) ([11] ++ rg 44 6) (fun ⟨n2, a11, a12⟩ => [(11, .int .i64 a11)]) (fun ⟨n2, a11, a12⟩ wr => (fixN (cover_Cover_L2 a5 rec1) n2 (a11, a12) = some r) ∧ Mo wr b7 a12 ∧ Kz [(1, b7)] w9 wr) (fun ⟨n2, a11, a12⟩ => n2) ⟨FUEL, x8, a6⟩ ?_ ?_ ?_
   · exact sbq
   · exact ⟨hm, B27, Kz.refl _ _⟩
   clear hm; rintro ⟨n2, a11, a12⟩ w10 ⟨hm, Fw10_0, K10⟩
   have z28 := K10.size
   have lt29 := Fw10_0.lt
   have hb := fix_succ hm; clear hm; obtain ⟨n2, rfl, hm⟩ := hb
   generalize hrec2 : fixN (cover_Cover_L2 a5 rec1) n2 = rec2 at hm
   unfold cover_Cover_L2 at hm
   try dsimp only at hm
   refine sw_seq<|qs 2 rfl<|qm rfl<|qv rfl (vv_gtr (a := a11) (b := 0) rfl rfl)<|sd_done<|cnF rfl (fun c5 => ?_) (fun c5 => ?_)
   · replace hm := iF c5 hm
     refine sw_exit<|then_x<|then_x<|block_x<|block_n<|then_n<|qg 2 rfl ?_
     refine qv rfl (vv_add (k := .i64) (a := a5) (b := 1) rfl rfl)<|qm rfl<|sd_nil ?_
     have K_32 : Kz [(1, b7)] w7 w10 := ((K8.gr G9).kz K10)
     subst hrec1
     exact ⟨rfl, ⟨n1, w64 (a5 + 1), a12⟩, sbq, ⟨hm, Fw10_0, K_32⟩, Nat.lt_succ_self _⟩
   replace hm := iT c5 hm
   refine qu<|sw_seq<|sw_block<|qg 3 rfl<|qm rfl<|qm rfl ?_
   refine qe rfl (ev_mapUpd (k := a11) mpt_115 rfl rfl rfl Fw10_0) ?_
   rintro _ w11 ⟨Bw11, M11⟩
   have z30 := M11.size
   refine sd_nil<|block_n<|then_n<|qg 3 rfl<|qm rfl ?_
   obtain ⟨nn13, hnn13, hm⟩ := bnd hm
   refine qv rfl (vv_shrI (a := a11) (b := (un 1#64)) rfl rfl hnn13)<|qm rfl<|sd_nil ?_
   have K_31 : Kz [(1, b7)] w9 w11 := (K10.md M11)
   subst hrec2
   exact ⟨rfl, ⟨n2, shrI a11 nn13, insS a12 a11⟩, sbq, ⟨hm, Bw11, K_31⟩, Nat.lt_succ_self _⟩
 replace hm := iF c4 hm
 refine sw_exit<|then_x<|then_x<|block_x<|then_n<|qs 1 rfl ?_
 refine qe rfl (ev_alloc (cs := [(.slice none 0 0)]) zv_74 rfl) ?_
 rintro _ w12 ⟨b12, rfl, hbw12, Bw12, G12⟩
 have z33 := G12.size
 have lt34 := Bw12.lt
 refine qd 2 rfl<|qv rfl (vv_makeFunc rfl rfl)<|qm rfl<|sd_done<|sw_seq ?_
 refine qs 2 rfl<|qm rfl ?_
 have B35 := (Fw8_0.gr G12)
 refine qe rfl (ev_rangeM mpt_115 rfl B35) ?_
 rintro _ w13 ⟨b13, rfl, hbw13, Bw13, G13⟩
 have z36 := G13.size
 have lt37 := Bw13.lt
 refine sd_done<|sw_block ?_
 have X38 := (((X19.kz K8).trans G12).trans G13)
 have B39 := (((B18.kz K8 (tk1 (pb_lt (b := b7) lt1))).gr G12).gr G13)
 have B40 := (B35.gr G13)
 have B41 := (Bw12.gr G13)
 refine sw_loopD (α := Nat × List TSubset × Value × Nat × Nat × List Int) ([14, 15, 16] ++ rg 54 77) (fun ⟨n3, a16, vy17, zy17, gy17, rem⟩ => []) (fun ⟨n3, a16, vy17, zy17, gy17, rem⟩ wr => (rngM (cover_Cover_S3 x1 a6) cover_Cover_E3 n3 rem a16 = some r) ∧ Own wr zy17 gy17 114 2 vy17 (a16.map TSubset.cs) ∧ Hdn (zy17 = 0 ∨ w13.heap.size ≤ gy17) ∧ Bx wr b12 74 [vy17] ∧ Mi wr b13 b7 a6 rem ∧ Kz [(1, b12), (1, b13)] w13 wr) (fun ⟨n3, a16, vy17, zy17, gy17, rem⟩ => n3) ⟨FUEL, [], (.slice none 0 0), 0, 0, a6⟩ ?_ ?_ ?_
 · exact sbq
 · exact ⟨hm, (own_nil _ 0 114 2), ⟨(.inl rfl)⟩, B41, Bw13, Kz.refl _ _⟩
 clear hm; rintro ⟨n3, a16, vy17, zy17, gy17, rem3⟩ w14 ⟨hm, Fw14_0, Fw14_1, Fw14_2, Iw14, K14⟩
 have z42 := K14.size
 have lt43 := Fw14_0.lth
 have lt44 := Fw14_2.lt
 have lt45 := Iw14.lt
 refine qs 2 rfl ?_
 have B46 := (B40.kz K14)
 refine qe rfl (ev_nextM rfl B46 Iw14) ?_
 rintro _ w15 (⟨rfl, hr, G15⟩ | ⟨k18, hk, rfl, MKw15, M15⟩)
 · have z47 := G15.size
   replace hm := rngM_nil hm hr
   unfold cover_Cover_E3 at hm
   try dsimp only at hm
   refine qm rfl<|sd_done<|sw_seq<|sw_condF rfl<|sw_exit<|then_x<|then_x ?_
   refine block_x<|then_n<|qs 2 rfl ?_
   have B48 := (Fw14_2.gr G15)
   refine qv rfl (vv_load1 (v := vy17) one_74 rfl B48 rfl) ?_
   have B49 := (Fw14_0.gr G15)
   obtain ⟨l19, hl19, hm⟩ := bnd hm
   refine qe rfl (eC en_69 rfl (sortSub_c hl19 _ _ _ _ B49)) ?_
   rintro _ w16 ⟨Ow16, K16⟩
   have z50 := K16.size
   refine qd 3 rfl ?_
   have B51 := (B48.kz K16 (tk1 (pb_0 (b := b12) Fw14_1)))
   refine qv rfl (vv_load1 (v := vy17) one_74 rfl B51 rfl)<|qm rfl<|qm rfl<|sd_done<|sw_ret ?_
   have X52 := (((X38.kz K14).trans G15).kz K16 (tk1 (pv_0 (A := (fun x => w.heap.size ≤ x)) Fw14_1)))
   cases hm
   refine ⟨_, _, rfl, res_2 rfl (rv_tmp rfl) (rv_tmp rfl), ?_⟩
   exact ⟨vy17, zy17, gy17, rfl, Ow16, ⟨(pv_0 (A := (fun x => w.heap.size ≤ x)) Fw14_1)⟩, X52⟩
 have z53 := M15.size
 have hb := rngM_at hm hk; clear hm; obtain ⟨n3, rfl, hm⟩ := hb
 generalize hnx3 : rngM (cover_Cover_S3 x1 a6) cover_Cover_E3 n3 (rem3.filter (· ≠ k18)) = nx3 at hm
 unfold cover_Cover_S3 at hm
 try dsimp only at hm
 refine qm rfl<|sd_done<|sw_seq<|sw_condT rfl<|qu<|sw_block ?_
 refine qs 3 rfl ?_
 have B54 := (B46.md M15)
 refine qv rfl (vv_entryM rfl B54 MKw15)<|qm rfl<|qm rfl<|sd_done<|sw_seq<|qs 3 rfl ?_
 refine qv rfl (vv_fieldAddr fa_109_0 rfl) ?_
 have B55 := (((((((Bw4.gr G5).gr G7).kz K8).gr G12).gr G13).kz K14).md M15)
 refine qv rfl (vv_load1 (v := bv x1.1.kind) one_5 rfl B55 rfl)<|qv rfl (vv_eqlB (p := x1.1.kind) (q := 1#8) rfl rfl)<|sd_done<|sw_cond rfl (fun c6 => ?_) (fun c6 => ?_)
 · replace hm := iT c6 hm
   refine sw_seq ?_
   have X56 := ((X38.kz K14).md M15)
   refine qj (β := Bool) (rg 61 9) (fun a20 => [(69, .bool a20)]) (fun a20 wr => (cover_Cover_J4 a16 nx3 k18 a20 = some r) ∧ Kz [] w15 wr) ?_ ?_
   · refine qg 9 rfl<|qm rfl<|qv rfl (vv_gtr (a := k18) (b := 1) rfl rfl)<|qpF rfl (vv_move rfl) (fun c8 => ?_) (fun c8 => ?_)
     · replace hm := iF c8 hm
       refine qk rfl<|qk rfl<|qk rfl<|qk rfl<|qk rfl<|qm rfl<|sd_nil ?_
       exact ⟨rfl, false, sbq, hm, kz0⟩
     replace hm := iT c8 hm
     refine qm rfl<|qm rfl ?_
     obtain ⟨x23, hx23, hm⟩ := bnd hm
     refine qe rfl (eC en_66 rfl (cover_node_sibling_w hx23)) ?_
     rintro _ w20 ⟨rfl, G20⟩
     have z69 := G20.size
     have B70 := (B54.gr G20)
     refine qv rfl (vv_lookup (k := x23) (ks := a6) mpt_115 rfl rfl B70)<|qv rfl (vv_notD rfl)<|qm rfl<|sd_nil ?_
     exact ⟨rfl, (decide (¬ (x23 ∈ a6))), sbq, hm, (kz0.gr G20)⟩
   clear hm; rintro a20 w17 ⟨hm, K17⟩
   have z57 := K17.size
   unfold cover_Cover_J4 at hm
   refine cnF rfl (fun c7 => ?_) (fun c7 => ?_)
   · replace hm := cnd_f c7 hm
     refine qu<|sw_exit<|then_x<|block_x ?_
     have K_65 : Kz [(1, b12), (1, b13)] w13 w17 := ((K14.md M15).kz K17)
     have B66 := ((Fw14_0.md M15 (pb_0 Fw14_1)).kz K17)
     have B67 := ((Fw14_2.md M15).kz K17)
     have B68 := (Mi.kz (Mk.mi MKw15) K17)
     subst hnx3
     exact ⟨rfl, ⟨n3, a16, vy17, zy17, gy17, (rem3.filter (· ≠ k18))⟩, sbq, ⟨hm, B66, ⟨(pv_0 (A := (fun x => w13.heap.size ≤ x)) Fw14_1)⟩, B67, B68, K_65⟩, Nat.lt_succ_self _⟩
   replace hm := cnd_t c7 hm
   refine qg 4 rfl<|qm rfl<|qm rfl ?_
   obtain ⟨x21, hx21, hm⟩ := bnd hm
   refine qe rfl (eC en_66 rfl (cover_node_sibling_w hx21)) ?_
   rintro _ w18 ⟨rfl, G18⟩
   have z58 := G18.size
   have B59 := (((Fw14_2.md M15).kz K17).gr G18)
   have B60 := (((Fw14_0.md M15 (pb_0 Fw14_1)).kz K17).gr G18)
   obtain ⟨x22, hx22, hm⟩ := bnd hm
   refine qe rfl (ev_callV en_65 rfl rfl (cover_Cover_1_w hx22 B59 B60 ⟨(tk1 (pb_0 (b := b12) Fw14_1))⟩)) ?_
   rintro _ w19 ⟨u19_b0_s, z19_b0_s, g19_b0_s, rfl, O19_b0_s, f19_b0_s, Bk19_0, K19⟩
   have z61 := K19.size
   have lt62 := O19_b0_s.lth
   refine sd_done<|sw_exit<|then_x<|block_x ?_
   have K_63 : Kz [(1, b12), (1, b13)] w13 w19 := ((((K14.md M15).kz K17).gr G18).kz K19 (tk1 (pv_0 (A := (fun x => w13.heap.size ≤ x)) Fw14_1)))
   have B64 := (Mi.kz (Mi.gr (Mi.kz (Mk.mi MKw15) K17) G18) K19 (tk1 (pb_0 (b := b13) Fw14_1)))
   subst hnx3
   exact ⟨rfl, ⟨n3, x22, u19_b0_s, z19_b0_s, g19_b0_s, (rem3.filter (· ≠ k18))⟩, sbq, ⟨hm, O19_b0_s, ⟨(pv_1 (A := (fun x => w13.heap.size ≤ x)) f19_b0_s (pv_0 (A := (fun x => w13.heap.size ≤ x)) Fw14_1))⟩, Bk19_0, B64, K_63⟩, Nat.lt_succ_self _⟩
 replace hm := iF c6 hm
 refine qu<|sw_seq ?_
 have X73 := ((X38.kz K14).md M15)
 refine qj (β := Bool) (rg 74 9) (fun a24 => [(82, .bool a24)]) (fun a24 wr => (cover_Cover_J5 x1 a6 a16 nx3 k18 a24 = some r) ∧ Kz [] w15 wr) ?_ ?_
 · refine qg 9 rfl<|qm rfl<|qv rfl (vv_gtr (a := k18) (b := 1) rfl rfl)<|qpF rfl (vv_move rfl) (fun c16 => ?_) (fun c16 => ?_)
   · replace hm := iF c16 hm
     refine qk rfl<|qk rfl<|qk rfl<|qk rfl<|qk rfl<|qm rfl<|sd_nil ?_
     exact ⟨rfl, false, sbq, hm, kz0⟩
   replace hm := iT c16 hm
   refine qm rfl<|qm rfl ?_
   obtain ⟨x35, hx35, hm⟩ := bnd hm
   refine qe rfl (eC en_66 rfl (cover_node_sibling_w hx35)) ?_
   rintro _ w29 ⟨rfl, G29⟩
   have z115 := G29.size
   have B116 := (B54.gr G29)
   refine qv rfl (vv_lookup (k := x35) (ks := a6) mpt_115 rfl rfl B116)<|qv rfl (vv_notD rfl)<|qm rfl<|sd_nil ?_
   exact ⟨rfl, (decide (¬ (x35 ∈ a6))), sbq, hm, (kz0.gr G29)⟩
 clear hm; rintro a24 w21 ⟨hm, K21⟩
 have z74 := K21.size
 unfold cover_Cover_J5 at hm
 refine sw_cond rfl (fun c9 => ?_) (fun c9 => ?_)
 · replace hm := cnd_t c9 hm
   refine sw_exit<|then_x<|block_x ?_
   have K_75 : Kz [(1, b12), (1, b13)] w13 w21 := ((K14.md M15).kz K21)
   have B76 := ((Fw14_0.md M15 (pb_0 Fw14_1)).kz K21)
   have B77 := ((Fw14_2.md M15).kz K21)
   have B78 := (Mi.kz (Mk.mi MKw15) K21)
   subst hnx3
   exact ⟨rfl, ⟨n3, a16, vy17, zy17, gy17, (rem3.filter (· ≠ k18))⟩, sbq, ⟨hm, B76, ⟨(pv_0 (A := (fun x => w13.heap.size ≤ x)) Fw14_1)⟩, B77, B78, K_75⟩, Nat.lt_succ_self _⟩
 replace hm := cnd_f c9 hm
 refine qu<|qs 2 rfl<|qm rfl<|qm rfl<|sd_done ?_
 refine sw_seq<|sw_block ?_
 have X79 := (X73.kz K21)
 have B80 := (((B39.kz K14 (tk2 (pb_lt (b := b12) lt1) (pb_lt (b := b13) lt1))).md M15 (pb_lt lt1)).kz K21)
 have B81 := ((Fw14_0.md M15 (pb_0 Fw14_1)).kz K21)
 refine sw_loopD (α := Nat × Int) ([15] ++ rg 84 18) (fun ⟨n6, a26⟩ => [(15, .int .i64 a26)]) (fun ⟨n6, a26⟩ wr => (fixN (cover_Cover_L6 x1 a6 a16 nx3 k18) n6 a26 = some r) ∧ Kz [] w21 wr) (fun ⟨n6, a26⟩ => n6) ⟨FUEL, k18⟩ ?_ ?_ ?_
 · exact sbq
 · exact ⟨hm, Kz.refl _ _⟩
 clear hm; rintro ⟨n6, a26⟩ w22 ⟨hm, K22⟩
 have z82 := K22.size
 have hb := fix_succ hm; clear hm; obtain ⟨n6, rfl, hm⟩ := hb
 generalize hrec6 : fixN (cover_Cover_L6 x1 a6 a16 nx3 k18) n6 = rec6 at hm
 unfold cover_Cover_L6 at hm
 try dsimp only at hm
 refine sw_seq<|qs 10 rfl<|qm rfl<|qm rfl<|qv rfl (vv_mul (k := .i64) (a := 2) (b := a26) rfl rfl) ?_
 have B83 := ((B54.kz K21).kz K22)
 refine qv rfl (vv_lookup (k := w64 (2 * a26)) (ks := a6) mpt_115 rfl rfl B83)<|qm rfl<|qm rfl<|qv rfl (vv_mul (k := .i64) (a := 2) (b := a26) rfl rfl)<|qv rfl (vv_add (k := .i64) (a := w64 (2 * a26)) (b := 1) rfl rfl)<|qv rfl (vv_lookup (k := w64 ((w64 (2 * a26)) + 1)) (ks := a6) mpt_115 rfl rfl B83)<|qv rfl (vv_neqL Try.underlying4 rfl rfl) ?_
 refine sd_done<|sw_cond rfl (fun c10 => ?_) (fun c10 => ?_)
 · replace hm := cnd_t c10 hm
   refine qu<|sw_block<|qs 3 rfl<|qm rfl<|qv rfl (vv_mul (k := .i64) (a := a26) (b := 2) rfl rfl) ?_
   refine qm rfl<|qd 4 rfl<|qm rfl<|qm rfl<|qv rfl (vv_lookup (k := w64 (a26 * 2)) (ks := a6) mpt_115 rfl rfl B83) ?_
   refine qv rfl (vv_notD rfl)<|sd_done<|cnF rfl (fun c11 => ?_) (fun c11 => ?_)
   · replace hm := iF c11 hm
     refine sw_skip<|block_n ?_
     have K_85 : Kz [] w21 w22 := K22
     subst hrec6
     exact ⟨rfl, ⟨n6, w64 (a26 * 2)⟩, sbq, ⟨hm, K_85⟩, Nat.lt_succ_self _⟩
   replace hm := iT c11 hm
   refine qg 3 rfl<|qm rfl<|qv rfl (vv_add (k := .i64) (a := w64 (a26 * 2)) (b := 1) rfl rfl)<|qm rfl<|sd_nil<|block_n ?_
   have K_84 : Kz [] w21 w22 := K22
   subst hrec6
   exact ⟨rfl, ⟨n6, w64 ((w64 (a26 * 2)) + 1)⟩, sbq, ⟨hm, K_84⟩, Nat.lt_succ_self _⟩
 replace hm := cnd_f c10 hm
 refine sw_exit<|then_x<|then_x<|block_x<|then_n<|sw_seq<|sw_seq ?_
 refine qg 3 rfl<|qm rfl<|qm rfl<|qv rfl (vv_eql (a := a26) (b := k18) rfl rfl)<|sd_done<|sw_cond rfl (fun c12 => ?_) (fun c12 => ?_)
 · replace hm := iT c12 hm
   refine sw_exit<|then_x<|block_x ?_
   have K_86 : Kz [(1, b12), (1, b13)] w13 w22 := (((K14.md M15).kz K21).kz K22)
   have B87 := (B81.kz K22)
   have B88 := (((Fw14_2.md M15).kz K21).kz K22)
   have B89 := (Mi.kz (Mi.kz (Mk.mi MKw15) K21) K22)
   subst hnx3
   exact ⟨rfl, ⟨n3, a16, vy17, zy17, gy17, (rem3.filter (· ≠ k18))⟩, sbq, ⟨hm, B87, ⟨(pv_0 (A := (fun x => w13.heap.size ≤ x)) Fw14_1)⟩, B88, B89, K_86⟩, Nat.lt_succ_self _⟩
 replace hm := iF c12 hm
 refine qu ?_
 have X90 := (X79.kz K22)
 refine qj (β := Int × List TSubset × Value × Nat × Nat) ([14, 16] ++ rg 105 22) (fun ⟨a27, a28, vy29, zy29, gy29⟩ => [(14, .int .i64 a27)]) (fun ⟨a27, a28, vy29, zy29, gy29⟩ wr => (cover_Cover_J7 nx3 a26 a27 a28 = some r) ∧ Own wr zy29 gy29 114 2 vy29 (a28.map TSubset.cs) ∧ Hdn (zy29 = 0 ∨ (gy29 = gy17 ∧ zy17 ≠ 0) ∨ w22.heap.size ≤ gy29) ∧ Bx wr b12 74 [vy29] ∧ Kz [(1, b12), (zy17, gy17)] w22 wr) ?_ ?_
 · refine qs 5 rfl ?_
   have B98 := ((B55.kz K21).kz K22)
   refine qv rfl (vv_loadW agg_109 rfl B98 rfl)<|qm rfl<|qm rfl ?_
   obtain ⟨x31, hx31, hm⟩ := bnd hm
   refine qe rfl (eC en_67 rfl (cover_tree_cut_w hx31)) ?_
   rintro _ w25 ⟨rfl, G25⟩
   have z99 := G25.size
   refine qm rfl<|sd_done ?_
   have X100 := (X90.trans G25)
   refine qj (β := Bool) (rg 109 13) (fun a32 => [(121, .bool a32)]) (fun a32 wr => (cover_Cover_J8 a16 nx3 k18 a26 x31 a32 = some r) ∧ Kz [] w25 wr) ?_ ?_
   · refine qg 13 rfl<|qm rfl<|qv rfl (vv_neq (a := x31) (b := 0) rfl rfl)<|qpF rfl (vv_move rfl) (fun c14 => ?_) (fun c14 => ?_)
     · replace hm := iF c14 hm
       refine qk rfl<|qk rfl<|qk rfl<|qm rfl<|qm rfl<|qk rfl<|qk rfl ?_
       refine qk rfl<|qk rfl<|qm rfl<|sd_nil ?_
       exact ⟨rfl, false, sbq, hm, kz0⟩
     replace hm := iT c14 hm
     refine qv rfl (vv_fieldAddr fa_109_0 rfl) ?_
     have B110 := (B98.gr G25)
     refine qv rfl (vv_load1 (v := bv x1.1.kind) one_5 rfl B110 rfl)<|qv rfl (vv_eqlB (p := x1.1.kind) (q := 3#8) rfl rfl)<|qm rfl<|qpF rfl (vv_move rfl) (fun c15 => ?_) (fun c15 => ?_)
     · replace hm := iF c15 hm
       refine qk rfl<|qk rfl<|qk rfl<|qk rfl<|qm rfl<|sd_nil ?_
       exact ⟨rfl, false, sbq, hm, kz0⟩
     replace hm := iT c15 hm
     refine qv rfl (vv_loadW agg_109 rfl B110 rfl)<|qm rfl ?_
     obtain ⟨x34, hx34, hm⟩ := bnd hm
     refine qe rfl (eC en_68 rfl (cover_tree_special_w hx34)) ?_
     rintro _ w28 ⟨rfl, G28⟩
     have z111 := G28.size
     refine qv rfl (vv_not rfl)<|qm rfl<|sd_nil ?_
     exact ⟨rfl, (!x34), sbq, hm, (kz0.gr G28)⟩
   clear hm; rintro a32 w26 ⟨hm, K26⟩
   have z101 := K26.size
   unfold cover_Cover_J8 at hm
   refine cnF rfl (fun c13 => ?_) (fun c13 => ?_)
   · replace hm := cnd_f c13 hm
     refine sw_skip ?_
     have K_107 : Kz [(1, b12), (zy17, gy17)] w22 w26 := ((Kz.gr (Kz.refl _ _) G25).kz K26)
     have B108 := (((B81.kz K22).gr G25).kz K26)
     have B109 := (((((Fw14_2.md M15).kz K21).kz K22).gr G25).kz K26)
     exact ⟨rfl, ⟨k18, a16, vy17, zy17, gy17⟩, sbq, hm, B108, ⟨tk0⟩, B109, K_107⟩
   replace hm := cnd_t c13 hm
   refine qs 4 rfl<|qm rfl<|qm rfl<|qm rfl ?_
   have B102 := (((((Fw14_2.md M15).kz K21).kz K22).gr G25).kz K26)
   have B103 := (((B81.kz K22).gr G25).kz K26)
   obtain ⟨x33, hx33, hm⟩ := bnd hm
   refine qe rfl (ev_callV en_65 rfl rfl (cover_Cover_1_w hx33 B102 B103 ⟨(tk1 (pb_0 (b := b12) Fw14_1))⟩)) ?_
   rintro _ w27 ⟨u27_b0_s, z27_b0_s, g27_b0_s, rfl, O27_b0_s, f27_b0_s, Bk27_0, K27⟩
   have z104 := K27.size
   have lt105 := O27_b0_s.lth
   refine sd_done<|qg 2 rfl<|qm rfl<|qm rfl<|sd_nil ?_
   exact ⟨rfl, ⟨x31, x33, u27_b0_s, z27_b0_s, g27_b0_s⟩, sbq, hm, O27_b0_s, ⟨(pv_1 (A := (fun x => (x = gy17 ∧ zy17 ≠ 0) ∨ w22.heap.size ≤ x)) f27_b0_s tk0)⟩, Bk27_0, (((Kz.gr (Kz.refl _ _) G25).kz K26).kz K27 (tk1 (tk0 : zy17 = 0 ∨ (gy17 = gy17 ∧ zy17 ≠ 0) ∨ w22.heap.size ≤ gy17)))⟩
 clear hm; rintro ⟨a27, a28, vy29, zy29, gy29⟩ w23 ⟨hm, Fw23_0, Fw23_1, Fw23_2, K23⟩
 have z91 := K23.size
 have lt92 := Fw23_0.lth
 have lt93 := Fw23_2.lt
 unfold cover_Cover_J7 at hm
 refine qg 4 rfl<|qm rfl<|qm rfl<|qm rfl ?_
 obtain ⟨x30, hx30, hm⟩ := bnd hm
 refine qe rfl (ev_callV en_65 rfl rfl (cover_Cover_1_w hx30 Fw23_2 Fw23_0 ⟨(tk1 (pb_1 (b := b12) Fw23_1 (pb_0 Fw14_1)))⟩)) ?_
 rintro _ w24 ⟨u24_b0_s, z24_b0_s, g24_b0_s, rfl, O24_b0_s, f24_b0_s, Bk24_0, K24⟩
 have z94 := K24.size
 have lt95 := O24_b0_s.lth
 refine sd_nil<|block_n ?_
 have K_96 : Kz [(1, b12), (1, b13)] w13 w24 := (((((K14.md M15).kz K21).kz K22).kz K23 (tk1 (pv_0 (A := (fun x => w13.heap.size ≤ x)) Fw14_1))).kz K24 (tk1 (pv_1 (A := (fun x => w13.heap.size ≤ x)) Fw23_1 (pv_0 (A := (fun x => w13.heap.size ≤ x)) Fw14_1))))
 have B97 := (Mi.kz (Mi.kz (Mi.kz (Mi.kz (Mk.mi MKw15) K21) K22) K23 (tk1 (pb_0 (b := b13) Fw14_1))) K24 (tk1 (pb_1 (b := b13) Fw23_1 (pb_0 Fw14_1))))
 subst hnx3
 exact ⟨rfl, ⟨n3, x30, u24_b0_s, z24_b0_s, g24_b0_s, (rem3.filter (· ≠ k18))⟩, sbq, ⟨hm, O24_b0_s, ⟨(pv_1 (A := (fun x => w13.heap.size ≤ x)) f24_b0_s (pv_1 (A := (fun x => w13.heap.size ≤ x)) Fw23_1 (pv_0 (A := (fun x => w13.heap.size ≤ x)) Fw14_1)))⟩, Bk24_0, B97, K_96⟩, Nat.lt_succ_self _⟩
end Go.Proofs.Ytopkalcefepilaa.Mx
