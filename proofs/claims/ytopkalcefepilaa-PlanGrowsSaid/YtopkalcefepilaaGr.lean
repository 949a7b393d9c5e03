/- Walks that follow mirrors: Gr. Printed by mx.py. -/
import Derived.Test.YtopkalcefepilaaGf
import Derived.Test.YtopkalcefepilaaZc
set_option linter.unusedVariables false
set_option linter.unusedSimpArgs false
set_option maxRecDepth 100000
set_option maxHeartbeats 2000000
namespace Go.Proofs.Ytopkalcefepilaa.Mx
open Go Go.RowKit Go.Sx
theorem en_33 : En Try.prog 33 := fun _ _ => by kernel_rfl
theorem cv_3_5 : CV Try.prog 3 5 .u8 := fun _ _ _ => by kernel_rfl
theorem law10_PlanGrows_w {p0 p1 r} (hm : law10_PlanGrows p0 p1 = some r) {w : World} :
    Calls Try.prog 6 [.int .i64 p0, .int .i64 p1].toArray w fun e w' => ∃ v, e = .returned v ∧ (v = .bool r ∧ Gr w w') := by
 unfold law10_PlanGrows at hm
 refine calls_of_sw 134 Try.func6 rfl rfl rfl<|qs 1 rfl<|qm rfl<|qd 2 rfl ?_
 obtain ⟨x1, hx1, hm⟩ := bnd hm
 refine qe rfl (eC en_33 rfl (law10_alive_w hx1)) ?_
 rintro _ w1 ⟨rfl, G1⟩
 have z1 := G1.size
 refine qm rfl<|qd 9 rfl<|qm rfl ?_
 obtain ⟨x2, hx2, hm⟩ := bnd hm
 refine qe rfl (eC en_34 rfl (law10_tree_w hx2)) ?_
 rintro _ w2 ⟨rfl, G2⟩
 have z2 := G2.size
 refine qm rfl ?_
 obtain ⟨x3, hx3, hm⟩ := bnd hm
 refine qe rfl (eC en_14 rfl (plan_Worst_w hx3)) ?_
 rintro _ w3 ⟨rfl, G3⟩
 have z3 := G3.size
 refine qm rfl<|qm rfl<|qm rfl<|qm rfl<|qm rfl<|sd_done<|sw_seq ?_
 refine qg 9 rfl<|qm rfl ?_
 obtain ⟨x4, hx4, hm⟩ := bnd hm
 refine qe rfl (eC en_34 rfl (law10_tree_w hx4)) ?_
 rintro _ w4 ⟨rfl, G4⟩
 have z4 := G4.size
 refine qm rfl ?_
 obtain ⟨x5, hx5, hm⟩ := bnd hm
 refine qe rfl (eC en_14 rfl (plan_Worst_w hx5)) ?_
 rintro _ w5 ⟨rfl, G5⟩
 have z5 := G5.size
 refine qm rfl<|qm rfl<|qm rfl<|qm rfl<|qm rfl<|sd_done<|sw_seq ?_
 refine qg 9 rfl<|qm rfl ?_
 obtain ⟨x6, hx6, hm⟩ := bnd hm
 refine qe rfl (eC en_34 rfl (law10_tree_w hx6)) ?_
 rintro _ w6 ⟨rfl, G6⟩
 have z6 := G6.size
 refine qm rfl ?_
 obtain ⟨x7, hx7, hm⟩ := bnd hm
 refine qe rfl (eC en_14 rfl (plan_Worst_w hx7)) ?_
 rintro _ w7 ⟨rfl, G7⟩
 have z7 := G7.size
 refine qm rfl<|qm rfl<|qm rfl<|qm rfl<|qm rfl<|sd_done<|sw_seq ?_
 have X8 := ((((((((Gr.refl w).trans G1).trans G2).trans G3).trans G4).trans G5).trans G6).trans G7)
 refine qj (β := Bool) (rg 38 10) (fun a8 => [(47, .bool a8)]) (fun a8 wr => (law10_PlanGrows_J1 p0 p1 x1 x3 x5 x7 a8 = some r) ∧ Kz [] w7 wr) ?_ ?_
 · refine qg 10 rfl<|qm rfl<|qv rfl (vv_neq (a := x3.2) (b := 0) rfl rfl)<|qp rfl (vv_move rfl) (fun c16 => ?_) (fun c16 => ?_)
   · replace hm := iT c16 hm
     refine qk rfl<|qk rfl<|qm rfl<|qm rfl<|qk rfl<|qk rfl<|qm rfl ?_
     refine sd_nil ?_
     exact ⟨rfl, true, sbq, hm, kz0⟩
   replace hm := iF c16 hm
   refine qm rfl<|qv rfl (vv_neq (a := x5.2) (b := 0) rfl rfl)<|qm rfl<|qp rfl (vv_move rfl) (fun c17 => ?_) (fun c17 => ?_)
   · replace hm := iT c17 hm
     refine qk rfl<|qk rfl<|qm rfl<|sd_nil ?_
     exact ⟨rfl, true, sbq, hm, kz0⟩
   replace hm := iF c17 hm
   refine qm rfl<|qv rfl (vv_neq (a := x7.2) (b := 0) rfl rfl)<|qm rfl<|sd_nil ?_
   exact ⟨rfl, (decide (x7.2 ≠ 0)), sbq, hm, kz0⟩
 clear hm; rintro a8 w8 ⟨hm, K8⟩
 have z9 := K8.size
 unfold law10_PlanGrows_J1 at hm
 refine sw_cond rfl (fun c1 => ?_) (fun c1 => ?_)
 · replace hm := cnd_t c1 hm
   refine qs 12 rfl<|qm rfl<|qpF rfl (vv_move rfl) (fun c2 => ?_) (fun c2 => ?_)
   · replace hm := cnd_f c2 hm
     refine qk rfl<|qk rfl<|qk rfl<|qm rfl<|qm rfl<|qk rfl<|qk rfl ?_
     refine qk rfl<|qm rfl<|qm rfl<|qb ?_
     have X12 := (X8.kz K8)
     cases hm
     refine ⟨_, _, rfl, res_1 rfl (rv_tmp rfl), ?_⟩
     exact ⟨rfl, X12⟩
   replace hm := cnd_t c2 hm
   refine qm rfl<|qm rfl<|qv rfl (vv_eql (a := x3.2) (b := x5.2) rfl rfl)<|qm rfl<|qp rfl (vv_move rfl) (fun c3 => ?_) (fun c3 => ?_)
   · replace hm := iT c3 hm
     refine qm rfl<|qm rfl<|qv rfl (vv_eql (a := x5.2) (b := x7.2) rfl rfl)<|qm rfl<|qm rfl<|sd_done<|sw_ret ?_
     refine then_r ?_
     have X10 := (X8.kz K8)
     cases hm
     refine ⟨_, _, rfl, res_1 rfl (rv_tmp rfl), ?_⟩
     exact ⟨rfl, X10⟩
   replace hm := iF c3 hm
   refine qk rfl<|qk rfl<|qk rfl<|qm rfl<|qm rfl<|sd_done<|sw_ret ?_
   refine then_r ?_
   have X11 := (X8.kz K8)
   cases hm
   refine ⟨_, _, rfl, res_1 rfl (rv_tmp rfl), ?_⟩
   exact ⟨rfl, X11⟩
 replace hm := cnd_f c1 hm
 refine qu<|sw_seq ?_
 have X13 := (X8.kz K8)
 refine qj (β := Bool) (rg 59 30) (fun a9 => [(88, .bool a9)]) (fun a9 wr => (law10_PlanGrows_J2 p0 p1 x1 x3 x5 x7 a9 = some r) ∧ Kz [] w8 wr) ?_ ?_
 · refine qg 30 rfl<|qm rfl<|qm rfl<|qm rfl<|qv rfl (vv_mul (k := .i64) (a := p1) (b := p0) rfl rfl)<|qv rfl (vv_maxK rfl rfl)<|qv rfl (vv_gtr (a := x3.1) (b := mxI 1 (w64 (p1 * p0))) rfl rfl) ?_
   refine qp rfl (vv_move rfl) (fun c12 => ?_) (fun c12 => ?_)
   · replace hm := iT c12 hm
     refine qk rfl<|qk rfl<|qk rfl<|qk rfl<|qk rfl<|qk rfl<|qm rfl ?_
     refine qm rfl<|qk rfl<|qk rfl<|qk rfl<|qm rfl<|qm rfl<|qk rfl ?_
     refine qk rfl<|qk rfl<|qk rfl<|qm rfl<|qm rfl<|qk rfl<|qk rfl ?_
     refine qk rfl<|qm rfl<|sd_nil ?_
     exact ⟨rfl, true, sbq, hm, kz0⟩
   replace hm := iF c12 hm
   refine qm rfl<|qm rfl<|qv rfl (vv_mul (k := .i64) (a := 2) (b := p1) rfl rfl)<|qv rfl (vv_sub (k := .i64) (a := w64 (2 * p1)) (b := 1) rfl rfl)<|qv rfl (vv_maxK rfl rfl)<|qv rfl (vv_gtr (a := x5.1) (b := mxI 1 (w64 ((w64 (2 * p1)) - 1))) rfl rfl)<|qm rfl ?_
   refine qp rfl (vv_move rfl) (fun c13 => ?_) (fun c13 => ?_)
   · replace hm := iT c13 hm
     refine qk rfl<|qk rfl<|qk rfl<|qm rfl<|qm rfl<|qk rfl<|qk rfl ?_
     refine qk rfl<|qk rfl<|qm rfl<|qm rfl<|qk rfl<|qk rfl<|qk rfl ?_
     refine qm rfl<|sd_nil ?_
     exact ⟨rfl, true, sbq, hm, kz0⟩
   replace hm := iF c13 hm
   refine qm rfl<|qm rfl<|qv rfl (vv_lss (a := x7.1) (b := x5.1) rfl rfl)<|qm rfl<|qp rfl (vv_move rfl) (fun c14 => ?_) (fun c14 => ?_)
   · replace hm := iT c14 hm
     refine qk rfl<|qk rfl<|qk rfl<|qk rfl<|qm rfl<|qm rfl<|qk rfl ?_
     refine qk rfl<|qk rfl<|qm rfl<|sd_nil ?_
     exact ⟨rfl, true, sbq, hm, kz0⟩
   replace hm := iF c14 hm
   refine qm rfl<|qm rfl<|qv rfl (vv_mul (k := .i64) (a := 2) (b := x5.1) rfl rfl)<|qv rfl (vv_gtr (a := x7.1) (b := w64 (2 * x5.1)) rfl rfl)<|qm rfl<|qp rfl (vv_move rfl) (fun c15 => ?_) (fun c15 => ?_)
   · replace hm := iT c15 hm
     refine qk rfl<|qk rfl<|qk rfl<|qm rfl<|sd_nil ?_
     exact ⟨rfl, true, sbq, hm, kz0⟩
   replace hm := iF c15 hm
   refine qm rfl<|qm rfl<|qv rfl (vv_gtr (a := x5.1) (b := x3.1) rfl rfl)<|qm rfl<|sd_nil ?_
   exact ⟨rfl, (decide (x3.1 < x5.1)), sbq, hm, kz0⟩
 clear hm; rintro a9 w9 ⟨hm, K9⟩
 have z14 := K9.size
 unfold law10_PlanGrows_J2 at hm
 refine sw_cond rfl (fun c4 => ?_) (fun c4 => ?_)
 · replace hm := cnd_t c4 hm
   refine qs 1 rfl<|qm rfl<|qb ?_
   have X15 := (X13.kz K9)
   cases hm
   refine ⟨_, _, rfl, res_1 rfl (rv_tmp rfl), ?_⟩
   exact ⟨rfl, X15⟩
 replace hm := cnd_f c4 hm
 refine qu<|sw_seq<|qs 2 rfl<|qm rfl<|qv rfl (vv_eql (a := p1) (b := 0) rfl rfl) ?_
 refine sd_done<|sw_cond rfl (fun c5 => ?_) (fun c5 => ?_)
 · replace hm := iT c5 hm
   refine qs 14 rfl<|qm rfl<|qpF rfl (vv_move rfl) (fun c6 => ?_) (fun c6 => ?_)
   · replace hm := cnd_f c6 hm
     refine qk rfl<|qk rfl<|qm rfl<|qm rfl<|qk rfl<|qk rfl<|qm rfl ?_
     refine qm rfl<|qk rfl<|qk rfl<|qm rfl<|qm rfl<|sd_done<|sw_ret ?_
     refine then_r ?_
     have X19 := (X13.kz K9)
     cases hm
     refine ⟨_, _, rfl, res_1 rfl (rv_tmp rfl), ?_⟩
     exact ⟨rfl, X19⟩
   replace hm := cnd_t c6 hm
   refine qm rfl<|qv rfl (vv_eql (a := x3.1) (b := 1) rfl rfl)<|qm rfl<|qpF rfl (vv_move rfl) (fun c7 => ?_) (fun c7 => ?_)
   · replace hm := iF c7 hm
     refine qk rfl<|qk rfl<|qm rfl<|qm rfl<|qk rfl<|qk rfl<|qm rfl ?_
     refine qm rfl<|qb ?_
     have X18 := (X13.kz K9)
     cases hm
     refine ⟨_, _, rfl, res_1 rfl (rv_tmp rfl), ?_⟩
     exact ⟨rfl, X18⟩
   replace hm := iT c7 hm
   refine qm rfl<|qv rfl (vv_eql (a := x5.1) (b := 1) rfl rfl)<|qm rfl<|qp rfl (vv_move rfl) (fun c8 => ?_) (fun c8 => ?_)
   · replace hm := iT c8 hm
     refine qm rfl<|qv rfl (vv_eql (a := x7.1) (b := 1) rfl rfl)<|qm rfl<|qm rfl<|sd_done<|sw_ret<|then_r ?_
     have X16 := (X13.kz K9)
     cases hm
     refine ⟨_, _, rfl, res_1 rfl (rv_tmp rfl), ?_⟩
     exact ⟨rfl, X16⟩
   replace hm := iF c8 hm
   refine qk rfl<|qk rfl<|qm rfl<|qm rfl<|sd_done<|sw_ret<|then_r ?_
   have X17 := (X13.kz K9)
   cases hm
   refine ⟨_, _, rfl, res_1 rfl (rv_tmp rfl), ?_⟩
   exact ⟨rfl, X17⟩
 replace hm := iF c5 hm
 refine qu<|sw_seq<|qs 6 rfl<|qm rfl<|qm rfl ?_
 refine qm rfl<|qe rfl (ev_litT [x3.1, x5.1, x7.1] ic bsl_32_3 rfl rfl (ws_of rfl) rfl rfl rfl) ?_
 rintro vw10 w10 ⟨gw10, hbw10, Ow10, G10⟩
 have z20 := G10.size
 have lt21 := Ow10.lth
 refine qv rfl (vv_lenT (l := [x3.1, x5.1, x7.1]) (c := ic) Try.underlying32 rfl (Own.rd Ow10))<|qm rfl<|sd_done<|sw_block ?_
 have X22 := ((X13.kz K9).trans G10)
 refine sw_loopD (α := Nat × Int) ([4, 12, 13, 14, 15] ++ rg 109 24) (fun ⟨n3, a11⟩ => [(4, .bool false), (109, .int .i64 a11)]) (fun ⟨n3, a11⟩ wr => (fixN (law10_PlanGrows_L3 p0 p1 x1 x3 x5 x7) n3 a11 = some r) ∧ Kz [] w10 wr) (fun ⟨n3, a11⟩ => n3) ⟨FUEL, 0⟩ ?_ ?_ ?_
 · exact sbq
 · exact ⟨hm, Kz.refl _ _⟩
 clear hm; rintro ⟨n3, a11⟩ w11 ⟨hm, K11⟩
 have z23 := K11.size
 have hb := fix_succ hm; clear hm; obtain ⟨n3, rfl, hm⟩ := hb
 generalize hrec3 : fixN (law10_PlanGrows_L3 p0 p1 x1 x3 x5 x7) n3 = rec3 at hm
 unfold law10_PlanGrows_L3 at hm
 try dsimp only at hm
 refine qs 1 rfl<|qv rfl (vv_lss (a := a11) (b := ([x3.1, x5.1, x7.1].length : Int)) rfl rfl)<|sd_done<|sw_seq<|cnF rfl (fun c9 => ?_) (fun c9 => ?_)
 · replace hm := iF c9 hm
   refine sw_exit<|then_x<|then_x<|block_x<|then_n<|qs 2 rfl ?_
   refine qm rfl<|qm rfl<|sd_done<|sw_ret ?_
   have X33 := (X22.kz K11)
   cases hm
   refine ⟨_, _, rfl, res_1 rfl (rv_tmp rfl), ?_⟩
   exact ⟨rfl, X33⟩
 replace hm := iT c9 hm
 refine qu<|sw_seq<|sw_block<|qs 5 rfl<|qm rfl ?_
 obtain ⟨y12, hy12, hm⟩ := bnd hm
 have B24 := (Ow10.kz K11)
 refine qv rfl (vv_ixT (i := a11) Try.underlying32 (one_3).siz rfl (Own.rd B24) rfl hy12)<|qv rfl (vv_el1T (q := 0) (u := .int .i64 y12) one_3 rfl (Own.rd B24) hy12 (by first | rfl | omega) rfl)<|qm rfl<|qm rfl<|qd 13 rfl ?_
 refine qm rfl<|qv rfl (vv_add (k := .i64) (a := a11) (b := 1) rfl rfl)<|qv rfl (vv_cvIB cv_3_5 rfl)<|qm rfl ?_
 obtain ⟨x13, hx13, hm⟩ := bnd hm
 refine qe rfl (eC en_34 rfl (law10_tree_w hx13)) ?_
 rintro _ w12 ⟨rfl, G12⟩
 have z25 := G12.size
 refine qm rfl<|qv rfl (vv_sub (k := .i64) (a := p1) (b := 1) rfl rfl) ?_
 obtain ⟨x14, hx14, hm⟩ := bnd hm
 refine qe rfl (eC en_14 rfl (plan_Worst_w hx14)) ?_
 rintro _ w13 ⟨rfl, G13⟩
 have z26 := G13.size
 refine qm rfl<|qm rfl<|qm rfl<|qm rfl<|qm rfl<|sd_done ?_
 have X27 := (((X22.kz K11).trans G12).trans G13)
 refine qj (β := Bool) (rg 125 7) (fun a15 => [(131, .bool a15)]) (fun a15 wr => (law10_PlanGrows_J4 a11 rec3 a15 = some r) ∧ Kz [] w13 wr) ?_ ?_
 · refine qg 7 rfl<|qm rfl<|qv rfl (vv_neq (a := x14.2) (b := 0) rfl rfl)<|qp rfl (vv_move rfl) (fun c11 => ?_) (fun c11 => ?_)
   · replace hm := iT c11 hm
     refine qk rfl<|qk rfl<|qk rfl<|qm rfl<|sd_nil ?_
     exact ⟨rfl, true, sbq, hm, kz0⟩
   replace hm := iF c11 hm
   refine qm rfl<|qm rfl<|qv rfl (vv_gtr (a := x14.1) (b := y12) rfl rfl)<|qm rfl<|sd_nil ?_
   exact ⟨rfl, (decide (y12 < x14.1)), sbq, hm, kz0⟩
 clear hm; rintro a15 w14 ⟨hm, K14⟩
 have z28 := K14.size
 unfold law10_PlanGrows_J4 at hm
 refine sw_cond rfl (fun c10 => ?_) (fun c10 => ?_)
 · replace hm := cnd_t c10 hm
   refine qs 1 rfl<|qm rfl<|sd_done<|sw_ret<|block_r<|then_r ?_
   refine then_r<|block_r<|then_r ?_
   have X29 := (X27.kz K14)
   cases hm
   refine ⟨_, _, rfl, res_1 rfl (rv_tmp rfl), ?_⟩
   exact ⟨rfl, X29⟩
 replace hm := cnd_f c10 hm
 refine sw_skip<|block_n<|then_n<|qg 2 rfl<|qv rfl (vv_add (k := .i64) (a := a11) (b := 1) rfl rfl)<|qm rfl<|sd_nil ?_
 have K_30 : Kz [] w10 w14 := (((K11.gr G12).gr G13).kz K14)
 subst hrec3
 exact ⟨rfl, ⟨n3, w64 (a11 + 1)⟩, sbq, ⟨hm, K_30⟩, Nat.lt_succ_self _⟩
end Go.Proofs.Ytopkalcefepilaa.Mx
