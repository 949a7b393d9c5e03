/- Walks that follow mirrors: Ru. Printed by mx.py. -/
import Derived.Test.YtopkalcefepilaaGb
import Derived.Test.YtopkalcefepilaaZd
set_option linter.unusedVariables false
set_option linter.unusedSimpArgs false
set_option maxRecDepth 100000
set_option maxHeartbeats 30000000
namespace Go.Proofs.Ytopkalcefepilaa.Mx
open Go Go.RowKit Go.Sx
theorem en_33 : En Try.prog 33 := fun _ _ => by kernel_rfl
theorem bsl_32_4 : BSl Try.prog 32 4 3 1 [.int .i64 0, .int .i64 0, .int .i64 0, .int .i64 0] := bsl_mk Try.underlying32 (one_3).siz zv_3 rfl rfl (by kernel_rfl)
theorem en_23 : En Try.prog 23 := fun _ _ => by kernel_rfl
theorem law10_PlanRules_w {p0 p1 r} (hm : law10_PlanRules p0 p1 = some r) {w : World} :
    Calls Try.prog 8 [.agg (TScheme.cs p0).toArray, .int .i64 p1].toArray w fun e w' => ∃ v, e = .returned v ∧ (v = .bool r ∧ Gr w w') := by
 unfold law10_PlanRules at hm
 refine calls_of_sw 248 Try.func8 rfl rfl rfl<|qs 2 rfl<|qe rfl (ev_box (cs := TScheme.cs p0) rfl rfl) ?_
 rintro _ w1 ⟨b1, rfl, hbw1, Bw1, G1⟩
 have z1 := G1.size
 have lt2 := Bw1.lt
 refine qm rfl<|qd 2 rfl ?_
 obtain ⟨x1, hx1, hm⟩ := bnd hm
 refine qe rfl (eC en_33 rfl (law10_alive_w hx1)) ?_
 rintro _ w2 ⟨rfl, G2⟩
 have z3 := G2.size
 refine qm rfl<|qd 7 rfl ?_
 have B4 := (Bw1.gr G2)
 refine qv rfl (vv_loadW agg_26 rfl B4 rfl) ?_
 obtain ⟨x2, hx2, hm⟩ := bnd hm
 refine qe rfl (eC en_20 rfl (plan_Tables_w p0 _ hx2 _)) ?_
 rintro _ w3 ⟨u3_r0_s, z3_r0_s, g3_r0_s, F3_r0_s, rfl, O3_r0_s, f3_r0_s, p3_r0_s, G3⟩
 have z5 := G3.size
 have fl6 := O3_r0_s.flt
 have lt7 := O3_r0_s.lth
 refine qm rfl<|qm rfl<|qm rfl<|qm rfl<|qm rfl<|sd_done<|sw_seq ?_
 refine qs 2 rfl<|qm rfl<|qv rfl (vv_neq (a := x2.2) (b := 0) rfl rfl)<|sd_done<|sw_cond rfl (fun c1 => ?_) (fun c1 => ?_)
 · replace hm := iT c1 hm
   refine qs 7 rfl<|qm rfl<|qpF rfl (vv_move rfl) (fun c2 => ?_) (fun c2 => ?_)
   · replace hm := cnd_f c2 hm
     refine qk rfl<|qk rfl<|qk rfl<|qm rfl<|qm rfl<|sd_done<|sw_ret ?_
     refine then_r ?_
     have Y1 := Gr.trans (Gr.trans G1 G2) G3
     have X9 := ((Gr.refl w).trans Y1)
     cases hm
     refine ⟨_, _, rfl, res_1 rfl (rv_tmp rfl), ?_⟩
     exact ⟨rfl, X9⟩
   replace hm := cnd_t c2 hm
   refine qm rfl<|qv rfl (vv_lenD (l := x2.1) Try.underlying39 rfl (OwnD.rd O3_r0_s))<|qv rfl (vv_eql (a := (x2.1.length : Int)) (b := 0) rfl rfl)<|qm rfl<|qm rfl<|sd_done<|sw_ret ?_
   refine then_r ?_
   have Y2 := Gr.trans (Gr.trans G1 G2) G3
   have X8 := ((Gr.refl w).trans Y2)
   cases hm
   refine ⟨_, _, rfl, res_1 rfl (rv_tmp rfl), ?_⟩
   exact ⟨rfl, X8⟩
 replace hm := iF c1 hm
 refine qu<|sw_seq ?_
 have Y3 := Gr.trans (Gr.trans G1 G2) G3
 have X10 := ((Gr.refl w).trans Y3)
 refine qj (β := Bool) (rg 34 34) (fun a3 => [(67, .bool a3)]) (fun a3 wr => (law10_PlanRules_J1 p0 p1 x1 x2 a3 = some r) ∧ Kz [] w3 wr) ?_ ?_
 · refine qg 34 rfl<|qv rfl (vv_fieldAddr fa_26_0 rfl) ?_
   have B119 := (B4.gr G3)
   refine qv rfl (vv_load1 (v := bv p0.Kind) one_5 rfl B119 rfl)<|qv rfl (vv_lssB (p := p0.Kind) (q := 1#8) rfl rfl)<|qp rfl (vv_move rfl) (fun c25 => ?_) (fun c25 => ?_)
   · replace hm := iT c25 hm
     refine qk rfl<|qk rfl<|qk rfl<|qm rfl<|qm rfl<|qk rfl<|qk rfl ?_
     refine qk rfl<|qm rfl<|qm rfl<|qk rfl<|qk rfl<|qk rfl<|qm rfl ?_
     refine qm rfl<|qk rfl<|qk rfl<|qk rfl<|qk rfl<|qk rfl<|qk rfl ?_
     refine qk rfl<|qk rfl<|qm rfl<|qm rfl<|qk rfl<|qk rfl<|qk rfl ?_
     refine qk rfl<|qm rfl<|sd_nil ?_
     exact ⟨rfl, true, sbq, hm, kz0⟩
   replace hm := iF c25 hm
   refine qv rfl (vv_fieldAddr fa_26_0 rfl)<|qv rfl (vv_load1 (v := bv p0.Kind) one_5 rfl B119 rfl)<|qv rfl (vv_gtrB (p := p0.Kind) (q := 3#8) rfl rfl)<|qm rfl<|qp rfl (vv_move rfl) (fun c26 => ?_) (fun c26 => ?_)
   · replace hm := iT c26 hm
     refine qk rfl<|qk rfl<|qk rfl<|qm rfl<|qm rfl<|qk rfl<|qk rfl ?_
     refine qk rfl<|qm rfl<|qm rfl<|qk rfl<|qk rfl<|qk rfl<|qk rfl ?_
     refine qk rfl<|qk rfl<|qk rfl<|qk rfl<|qm rfl<|qm rfl<|qk rfl ?_
     refine qk rfl<|qk rfl<|qk rfl<|qm rfl<|sd_nil ?_
     exact ⟨rfl, true, sbq, hm, kz0⟩
   replace hm := iF c26 hm
   refine qv rfl (vv_fieldAddr fa_26_1 rfl)<|qv rfl (vv_load1 (v := .int .i64 p0.Depth) one_3 rfl B119 rfl)<|qv rfl (vv_lss (a := p0.Depth) (b := 0) rfl rfl)<|qm rfl<|qp rfl (vv_move rfl) (fun c27 => ?_) (fun c27 => ?_)
   · replace hm := iT c27 hm
     refine qk rfl<|qk rfl<|qk rfl<|qm rfl<|qm rfl<|qk rfl<|qk rfl ?_
     refine qk rfl<|qk rfl<|qk rfl<|qk rfl<|qk rfl<|qk rfl<|qm rfl ?_
     refine qm rfl<|qk rfl<|qk rfl<|qk rfl<|qk rfl<|qm rfl<|sd_nil ?_
     exact ⟨rfl, true, sbq, hm, kz0⟩
   replace hm := iF c27 hm
   refine qv rfl (vv_fieldAddr fa_26_1 rfl)<|qv rfl (vv_load1 (v := .int .i64 p0.Depth) one_3 rfl B119 rfl)<|qv rfl (vv_gtr (a := p0.Depth) (b := 6) rfl rfl)<|qm rfl<|qp rfl (vv_move rfl) (fun c28 => ?_) (fun c28 => ?_)
   · replace hm := iT c28 hm
     refine qk rfl<|qk rfl<|qk rfl<|qk rfl<|qk rfl<|qk rfl<|qk rfl ?_
     refine qk rfl<|qm rfl<|qm rfl<|qk rfl<|qk rfl<|qk rfl<|qk rfl ?_
     refine qm rfl<|sd_nil ?_
     exact ⟨rfl, true, sbq, hm, kz0⟩
   replace hm := iF c28 hm
   refine qm rfl<|qv rfl (vv_lenD (l := x2.1) Try.underlying39 rfl (OwnD.rd O3_r0_s))<|qe rfl (ev_litT [0, 1, 2, 4] ic bsl_32_4 rfl rfl (ws_of rfl) rfl rfl rfl) ?_
   rintro vw19 w19 ⟨gw19, hbw19, Ow19, G19⟩
   have z124 := G19.size
   have lt125 := Ow19.lth
   refine qv rfl (vv_fieldAddr fa_26_0 rfl) ?_
   have B126 := (B119.gr G19)
   refine qv rfl (vv_load1 (v := bv p0.Kind) one_5 rfl B126 rfl) ?_
   obtain ⟨y57, hy57, hm⟩ := bnd hm
   refine qv rfl (vv_ixT (i := un8 p0.Kind) Try.underlying32 (one_3).siz rfl (Own.rd Ow19) rfl hy57)<|qv rfl (vv_el1T (q := 0) (u := .int .i64 y57) one_3 rfl (Own.rd Ow19) hy57 (by first | rfl | omega) rfl)<|qv rfl (vv_neq (a := (x2.1.length : Int)) (b := y57) rfl rfl)<|qm rfl<|qp rfl (vv_move rfl) (fun c29 => ?_) (fun c29 => ?_)
   · replace hm := iT c29 hm
     refine qk rfl<|qk rfl<|qk rfl<|qk rfl<|qm rfl<|sd_nil ?_
     exact ⟨rfl, true, sbq, hm, (kz0.gr G19)⟩
   replace hm := iF c29 hm
   refine qv rfl (vv_loadW agg_26 rfl B126 rfl)<|qm rfl ?_
   have B128 := (O3_r0_s.gr G19)
   obtain ⟨x58, hx58, hm⟩ := bnd hm
   refine qe rfl (eC en_23 rfl (plan_CheckTables_w p0 x2.1 _ _ _ _ _ _ hx58 _ (OwnD.rd B128))) ?_
   rintro _ w20 ⟨rfl, G20⟩
   have z129 := G20.size
   refine qv rfl (vv_neq (a := x58) (b := 0) rfl rfl)<|qm rfl<|sd_nil ?_
   exact ⟨rfl, (decide (x58 ≠ 0)), sbq, hm, ((kz0.gr G19).gr G20)⟩
 clear hm; rintro a3 w4 ⟨hm, K4⟩
 have z11 := K4.size
 unfold law10_PlanRules_J1 at hm
 refine sw_cond rfl (fun c3 => ?_) (fun c3 => ?_)
 · replace hm := cnd_t c3 hm
   refine qs 1 rfl<|qm rfl<|qb ?_
   have X12 := (X10.kz K4)
   cases hm
   refine ⟨_, _, rfl, res_1 rfl (rv_tmp rfl), ?_⟩
   exact ⟨rfl, X12⟩
 replace hm := cnd_f c3 hm
 refine qu<|sw_seq<|qs 3 rfl<|qm rfl ?_
 have B13 := (O3_r0_s.kz K4 tk0 (fun x hx => tk0))
 refine qv rfl (vv_lenD (l := x2.1) Try.underlying39 rfl (OwnD.rd B13))<|qm rfl<|sd_done<|sw_block ?_
 have X14 := (X10.kz K4)
 refine sw_loopD (α := Nat × Int) ([4, 9, 10] ++ rg 70 26) (fun ⟨n2, a5⟩ => [(4, .bool false), (70, .int .i64 a5)]) (fun ⟨n2, a5⟩ wr => (fixN (law10_PlanRules_L2 p0 p1 x1 x2) n2 a5 = some r) ∧ Kz [] w4 wr) (fun ⟨n2, a5⟩ => n2) ⟨FUEL, 0⟩ ?_ ?_ ?_
 · exact sbq
 · exact ⟨hm, Kz.refl _ _⟩
 clear hm; rintro ⟨n2, a5⟩ w5 ⟨hm, K5⟩
 have z15 := K5.size
 have hb := fix_succ hm; clear hm; obtain ⟨n2, rfl, hm⟩ := hb
 generalize hrec2 : fixN (law10_PlanRules_L2 p0 p1 x1 x2) n2 = rec2 at hm
 unfold law10_PlanRules_L2 at hm
 try dsimp only at hm
 refine qs 1 rfl<|qv rfl (vv_lss (a := a5) (b := (x2.1.length : Int)) rfl rfl)<|sd_done<|sw_seq<|sw_cond rfl (fun c4 => ?_) (fun c4 => ?_)
 · replace hm := iT c4 hm
   refine qu<|sw_seq<|sw_block<|qs 3 rfl ?_
   obtain ⟨y6, hy6, hm⟩ := bnd hm
   have B16 := (B13.kz K5 tk0 (fun x hx => tk0))
   refine qv rfl (vv_ixD (i := a5) Try.underlying39 (one_73).siz rfl (OwnD.rd B16) rfl hy6) ?_
   obtain ⟨lg17, x17_, z17_, g17_, o17_, R17, gx17, Q17, pf17⟩ := atSd (OwnD.rd B16) hy6
   have lt18 := Q17.lth
   refine qv rfl (vv_el1T (c := (fun p => [p.2])) (q := 0) (u := x17_) one_73 rfl R17 gx17 (by first | rfl | omega) rfl)<|qm rfl<|sd_done<|sw_seq<|qs 6 rfl<|qm rfl ?_
   refine qv rfl (vv_lenD (l := y6) Try.underlying73 rfl Q17)<|qv rfl (vv_fieldAddr fa_26_1 rfl) ?_
   have B19 := (((B4.gr G3).kz K4).kz K5)
   refine qv rfl (vv_load1 (v := .int .i64 p0.Depth) one_3 rfl B19 rfl)<|qv rfl (vv_add (k := .i64) (a := p0.Depth) (b := 1) rfl rfl)<|qv rfl (vv_neq (a := (y6.length : Int)) (b := w64 (p0.Depth + 1)) rfl rfl)<|sd_done<|sw_cond rfl (fun c5 => ?_) (fun c5 => ?_)
   · replace hm := iT c5 hm
     refine qs 1 rfl<|qm rfl<|qb<|block_r ?_
     refine then_r<|then_r<|block_r<|then_r ?_
     have X20 := (X14.kz K5)
     cases hm
     refine ⟨_, _, rfl, res_1 rfl (rv_tmp rfl), ?_⟩
     exact ⟨rfl, X20⟩
   replace hm := iF c5 hm
   refine qu<|qs 3 rfl<|qm rfl<|qv rfl (vv_lenD (l := y6) Try.underlying73 rfl Q17)<|qm rfl ?_
   refine sd_done<|sw_block ?_
   have X21 := (X14.kz K5)
   refine sw_loopD (α := Nat × Int) ([4, 10] ++ rg 82 13) (fun ⟨n3, a8⟩ => [(4, .bool false), (82, .int .i64 a8)]) (fun ⟨n3, a8⟩ wr => (fixN (law10_PlanRules_L3 a5 rec2 y6) n3 a8 = some r) ∧ Kz [] w5 wr) (fun ⟨n3, a8⟩ => n3) ⟨FUEL, 0⟩ ?_ ?_ ?_
   · exact sbq
   · exact ⟨hm, Kz.refl _ _⟩
   clear hm; rintro ⟨n3, a8⟩ w6 ⟨hm, K6⟩
   have z22 := K6.size
   have hb := fix_succ hm; clear hm; obtain ⟨n3, rfl, hm⟩ := hb
   generalize hrec3 : fixN (law10_PlanRules_L3 a5 rec2 y6) n3 = rec3 at hm
   unfold law10_PlanRules_L3 at hm
   try dsimp only at hm
   refine qs 1 rfl<|qv rfl (vv_lss (a := a8) (b := (y6.length : Int)) rfl rfl)<|sd_done<|sw_seq<|cnF rfl (fun c6 => ?_) (fun c6 => ?_)
   · replace hm := iF c6 hm
     refine sw_exit<|then_x<|then_x<|block_x<|block_n<|then_n<|qg 2 rfl ?_
     refine qv rfl (vv_add (k := .i64) (a := a5) (b := 1) rfl rfl)<|qm rfl<|sd_nil ?_
     have K_28 : Kz [] w4 w6 := (K5.kz K6)
     subst hrec2
     exact ⟨rfl, ⟨n2, w64 (a5 + 1)⟩, sbq, ⟨hm, K_28⟩, Nat.lt_succ_self _⟩
   replace hm := iT c6 hm
   refine qu<|sw_seq<|sw_block<|qs 2 rfl<|qm rfl ?_
   refine qm rfl<|sd_done<|sw_seq<|dw [([])] [] (.leaf [(0,10),(1,10),(2,10),(3,10),(4,10),(5,10),(6,10),(7,10),(8,10)]) ?_
   intro w7 G7 zw7
   refine sdz_leaf<|dm 0 rfl rfl<|dm 0 rfl rfl ?_
   obtain ⟨y9, hy9, hm⟩ := bnd hm
   have B23 := ((Q17.kz K6 tk0 (fun x hx => tk0)).gr G7)
   refine dh 0 rfl rfl (fun w hS => vv_ixD (i := a8) Try.underlying73 (one_32).siz rfl (RdD.kp B23 hS (.inr List.not_mem_nil) (fun _ _ => List.not_mem_nil)) rfl hy9) ?_
   obtain ⟨lg24, x24_, z24_, g24_, o24_, R24, gx24, Q24, pf24⟩ := atSl B23 hy9
   have lt25 := Q24.lth
   refine dh 0 rfl rfl (fun w hS => vv_el1T (c := (fun p => [p.2])) (q := 0) (u := x24_) one_32 rfl (Rd.kp R24 hS (.inr List.not_mem_nil)) gx24 (by first | rfl | omega) rfl)<|dh 0 rfl rfl (fun w hS => vv_lenT (l := y9) (c := ic) Try.underlying32 rfl (Rd.kp Q24 hS))<|dm 0 rfl rfl ?_
   obtain ⟨nn10, hnn10, hm⟩ := bnd hm
   refine dh 0 rfl rfl (fun w hS => vv_shlI (a := 1) (b := a8) rfl rfl hnn10)<|dh 0 rfl rfl (fun w hS => vv_add (k := .i64) (a := 1) (b := shlI 1 nn10) rfl rfl)<|dh 0 rfl rfl (fun w hS => vv_neq (a := (y9.length : Int)) (b := w64 (1 + (shlI 1 nn10))) rfl rfl)<|sd_done<|sw_cond rfl (fun c7 => ?_) (fun c7 => ?_)
   · replace hm := iT c7 hm
     refine qs 1 rfl<|qm rfl<|sd_done<|sw_ret<|block_r<|then_r ?_
     refine then_r<|block_r<|block_r<|then_r<|then_r<|block_r<|then_r ?_
     have X26 := ((X21.kz K6).trans G7)
     cases hm
     refine ⟨_, _, rfl, res_1 rfl (rv_tmp rfl), ?_⟩
     exact ⟨rfl, X26⟩
   replace hm := iF c7 hm
   refine sw_skip<|block_n<|then_n<|qg 2 rfl<|qv rfl (vv_add (k := .i64) (a := a8) (b := 1) rfl rfl)<|qm rfl<|sd_nil ?_
   have K_27 : Kz [] w5 w7 := (K6.gr G7)
   subst hrec3
   exact ⟨rfl, ⟨n3, w64 (a8 + 1)⟩, sbq, ⟨hm, K_27⟩, Nat.lt_succ_self _⟩
 replace hm := iF c4 hm
 refine sw_exit<|then_x<|then_x<|block_x<|then_n<|qs 4 rfl ?_
 refine qm rfl ?_
 obtain ⟨y11, hy11, hm⟩ := bnd hm
 have B29 := (B13.kz K5 tk0 (fun x hx => tk0))
 refine qv rfl (vv_ixD (i := 0) Try.underlying39 (one_73).siz rfl (OwnD.rd B29) rfl hy11) ?_
 obtain ⟨lg30, x30_, z30_, g30_, o30_, R30, gx30, Q30, pf30⟩ := atSd (OwnD.rd B29) hy11
 have lt31 := Q30.lth
 refine qv rfl (vv_el1T (c := (fun p => [p.2])) (q := 0) (u := x30_) one_73 rfl R30 gx30 (by first | rfl | omega) rfl)<|qm rfl<|sd_done<|sw_seq<|qs 1 rfl<|qm rfl ?_
 refine sd_done<|sw_block ?_
 have X32 := (X14.kz K5)
 refine sw_loopD (α := Nat × Int) ([4, 12, 13, 14, 15] ++ rg 99 105) (fun ⟨n4, a13⟩ => [(4, .bool false), (12, .int .i64 a13)]) (fun ⟨n4, a13⟩ wr => (fixN (law10_PlanRules_L4 p0 p1 x1 x2 y11) n4 a13 = some r) ∧ Kz [] w5 wr) (fun ⟨n4, a13⟩ => n4) ⟨FUEL, 1⟩ ?_ ?_ ?_
 · exact sbq
 · exact ⟨hm, Kz.refl _ _⟩
 clear hm; rintro ⟨n4, a13⟩ w8 ⟨hm, K8⟩
 have z33 := K8.size
 have hb := fix_succ hm; clear hm; obtain ⟨n4, rfl, hm⟩ := hb
 generalize hrec4 : fixN (law10_PlanRules_L4 p0 p1 x1 x2 y11) n4 = rec4 at hm
 unfold law10_PlanRules_L4 at hm
 try dsimp only at hm
 refine sw_seq<|qs 4 rfl<|qm rfl<|qv rfl (vv_fieldAddr fa_26_1 rfl) ?_
 have B34 := ((((B4.gr G3).kz K4).kz K5).kz K8)
 refine qv rfl (vv_load1 (v := .int .i64 p0.Depth) one_3 rfl B34 rfl)<|qv rfl (vv_leq (a := a13) (b := p0.Depth) rfl rfl)<|sd_done<|cnF rfl (fun c8 => ?_) (fun c8 => ?_)
 · replace hm := iF c8 hm
   refine sw_exit<|then_x<|then_x<|block_x<|then_n<|qs 8 rfl ?_
   refine qv rfl (vv_loadW agg_26 rfl B34 rfl)<|qm rfl ?_
   obtain ⟨x48, hx48, hm⟩ := bnd hm
   refine qe rfl (eC en_14 rfl (plan_Worst_w hx48)) ?_
   rintro _ w16 ⟨rfl, G16⟩
   have z97 := G16.size
   refine qm rfl<|qm rfl<|qm rfl<|qm rfl<|qm rfl<|sd_done<|sw_seq ?_
   refine qs 2 rfl<|qm rfl<|qv rfl (vv_neq (a := x48.2) (b := 0) rfl rfl)<|sd_done<|sw_cond rfl (fun c20 => ?_) (fun c20 => ?_)
   · replace hm := iT c20 hm
     refine qs 6 rfl<|qm rfl<|qp rfl (vv_move rfl) (fun c21 => ?_) (fun c21 => ?_)
     · replace hm := cnd_t c21 hm
       refine qm rfl<|qv rfl (vv_eql (a := x48.2) (b := 2) rfl rfl)<|qm rfl<|qm rfl<|sd_done<|sw_ret<|then_r ?_
       have X98 := ((X32.kz K8).trans G16)
       cases hm
       refine ⟨_, _, rfl, res_1 rfl (rv_tmp rfl), ?_⟩
       exact ⟨rfl, X98⟩
     replace hm := cnd_f c21 hm
     refine qk rfl<|qk rfl<|qm rfl<|qm rfl<|sd_done<|sw_ret<|then_r ?_
     have X99 := ((X32.kz K8).trans G16)
     cases hm
     refine ⟨_, _, rfl, res_1 rfl (rv_tmp rfl), ?_⟩
     exact ⟨rfl, X99⟩
   replace hm := iF c20 hm
   refine qu<|qs 1 rfl<|qm rfl<|sd_done<|sw_seq ?_
   refine qs 1 rfl<|qm rfl<|sd_done<|sw_block ?_
   have X100 := ((X32.kz K8).trans G16)
   have B101 := ((B29.kz K8 tk0 (fun x hx => tk0)).gr G16)
   have B102 := ((Q30.kz K8 tk0 (fun x hx => tk0)).gr G16)
   refine sw_loopD (α := Nat × Int × Int) ([18, 19] ++ rg 217 25) (fun ⟨n10, a51, a52⟩ => [(18, .int .i64 a51), (19, .int .i64 a52)]) (fun ⟨n10, a51, a52⟩ wr => (fixN (law10_PlanRules_L10 p0 p1 x1 y11 x48) n10 (a51, a52) = some r) ∧ Kz [] w16 wr) (fun ⟨n10, a51, a52⟩ => n10) ⟨FUEL, 1, 1⟩ ?_ ?_ ?_
   · exact sbq
   · exact ⟨hm, Kz.refl _ _⟩
   clear hm; rintro ⟨n10, a51, a52⟩ w17 ⟨hm, K17⟩
   have z103 := K17.size
   have hb := fix_succ hm; clear hm; obtain ⟨n10, rfl, hm⟩ := hb
   generalize hrec10 : fixN (law10_PlanRules_L10 p0 p1 x1 y11 x48) n10 = rec10 at hm
   unfold law10_PlanRules_L10 at hm
   try dsimp only at hm
   refine sw_seq ?_
   have X104 := (X100.kz K17)
   refine qj (β := Bool) (rg 217 13) (fun a53 => [(229, .bool a53)]) (fun a53 wr => (law10_PlanRules_J11 p0 x1 y11 x48 a51 a52 rec10 a53 = some r) ∧ Kz [] w17 wr) ?_ ?_
   · refine qg 13 rfl<|qm rfl<|qm rfl<|qv rfl (vv_leq (a := a52) (b := p1) rfl rfl)<|qpF rfl (vv_move rfl) (fun c24 => ?_) (fun c24 => ?_)
     · replace hm := iF c24 hm
       refine qk rfl<|qk rfl<|qk rfl<|qk rfl<|qk rfl<|qk rfl<|qk rfl ?_
       refine qk rfl<|qm rfl<|sd_nil ?_
       exact ⟨rfl, false, sbq, hm, kz0⟩
     replace hm := iT c24 hm
     refine qm rfl<|qm rfl<|qv rfl (vv_fieldAddr fa_26_1 rfl) ?_
     have B113 := ((B34.gr G16).kz K17)
     refine qv rfl (vv_load1 (v := .int .i64 p0.Depth) one_3 rfl B113 rfl) ?_
     obtain ⟨y56, hy56, hm⟩ := bnd hm
     have B114 := (B102.kz K17 tk0 (fun x hx => tk0))
     refine qv rfl (vv_ixD (i := p0.Depth) Try.underlying73 (one_32).siz rfl B114 rfl hy56) ?_
     obtain ⟨lg115, x115_, z115_, g115_, o115_, R115, gx115, Q115, pf115⟩ := atSl B114 hy56
     have lt116 := Q115.lth
     refine qv rfl (vv_el1T (c := (fun p => [p.2])) (q := 0) (u := x115_) one_32 rfl R115 gx115 (by first | rfl | omega) rfl)<|qv rfl (vv_lenT (l := y56) (c := ic) Try.underlying32 rfl Q115)<|qv rfl (vv_lss (a := a52) (b := (y56.length : Int)) rfl rfl)<|qm rfl<|sd_nil ?_
     exact ⟨rfl, (decide (a52 < (y56.length : Int))), sbq, hm, kz0⟩
   clear hm; rintro a53 w18 ⟨hm, K18⟩
   have z105 := K18.size
   unfold law10_PlanRules_J11 at hm
   refine cnF rfl (fun c22 => ?_) (fun c22 => ?_)
   · replace hm := cnd_f c22 hm
     refine sw_exit<|then_x<|then_x<|block_x<|then_n<|qs 7 rfl ?_
     refine qm rfl<|qp rfl (vv_move rfl) (fun c23 => ?_) (fun c23 => ?_)
     · replace hm := cnd_t c23 hm
       refine qm rfl<|qm rfl<|qv rfl (vv_eql (a := x48.1) (b := a51) rfl rfl)<|qm rfl<|qm rfl<|sd_done<|sw_ret ?_
       have X111 := (X104.kz K18)
       cases hm
       refine ⟨_, _, rfl, res_1 rfl (rv_tmp rfl), ?_⟩
       exact ⟨rfl, X111⟩
     replace hm := cnd_f c23 hm
     refine qk rfl<|qk rfl<|qk rfl<|qm rfl<|qm rfl<|sd_done<|sw_ret ?_
     have X112 := (X104.kz K18)
     cases hm
     refine ⟨_, _, rfl, res_1 rfl (rv_tmp rfl), ?_⟩
     exact ⟨rfl, X112⟩
   replace hm := cnd_t c22 hm
   refine qu<|sw_seq<|sw_block<|qg 11 rfl<|qm rfl<|qm rfl ?_
   refine qv rfl (vv_fieldAddr fa_26_1 rfl) ?_
   have B106 := (((B34.gr G16).kz K17).kz K18)
   refine qv rfl (vv_load1 (v := .int .i64 p0.Depth) one_3 rfl B106 rfl) ?_
   obtain ⟨y54, hy54, hm⟩ := bnd hm
   have B107 := ((B102.kz K17 tk0 (fun x hx => tk0)).kz K18 tk0 (fun x hx => tk0))
   refine qv rfl (vv_ixD (i := p0.Depth) Try.underlying73 (one_32).siz rfl B107 rfl hy54) ?_
   obtain ⟨lg108, x108_, z108_, g108_, o108_, R108, gx108, Q108, pf108⟩ := atSl B107 hy54
   have lt109 := Q108.lth
   refine qv rfl (vv_el1T (c := (fun p => [p.2])) (q := 0) (u := x108_) one_32 rfl R108 gx108 (by first | rfl | omega) rfl)<|qm rfl ?_
   obtain ⟨y55, hy55, hm⟩ := bnd hm
   refine qv rfl (vv_ixT (i := a52) Try.underlying32 (one_3).siz rfl Q108 rfl hy55)<|qv rfl (vv_el1T (q := 0) (u := .int .i64 y55) one_3 rfl Q108 hy55 (by first | rfl | omega) rfl)<|qv rfl (vv_maxK rfl rfl)<|qm rfl<|sd_nil<|block_n<|then_n ?_
   refine qg 3 rfl<|qm rfl<|qv rfl (vv_add (k := .i64) (a := a52) (b := 1) rfl rfl)<|qm rfl<|sd_nil ?_
   have K_110 : Kz [] w16 w18 := (K17.kz K18)
   subst hrec10
   exact ⟨rfl, ⟨n10, mxI a51 y55, w64 (a52 + 1)⟩, sbq, ⟨hm, K_110⟩, Nat.lt_succ_self _⟩
 replace hm := iT c8 hm
 refine qu<|sw_seq<|sw_block<|qs 1 rfl<|qm rfl ?_
 refine sd_done<|sw_block ?_
 have X35 := (X32.kz K8)
 have B36 := (B29.kz K8 tk0 (fun x hx => tk0))
 have B37 := (Q30.kz K8 tk0 (fun x hx => tk0))
 refine sw_loopD (α := Nat × Int) ([4, 13, 14, 15] ++ rg 105 99) (fun ⟨n5, a15⟩ => [(4, .bool false), (13, .int .i64 a15)]) (fun ⟨n5, a15⟩ wr => (fixN (law10_PlanRules_L5 p0 x2 y11 a13 rec4) n5 a15 = some r) ∧ Kz [] w8 wr) (fun ⟨n5, a15⟩ => n5) ⟨FUEL, 0⟩ ?_ ?_ ?_
 · exact sbq
 · exact ⟨hm, Kz.refl _ _⟩
 clear hm; rintro ⟨n5, a15⟩ w9 ⟨hm, K9⟩
 have z38 := K9.size
 have hb := fix_succ hm; clear hm; obtain ⟨n5, rfl, hm⟩ := hb
 generalize hrec5 : fixN (law10_PlanRules_L5 p0 x2 y11 a13 rec4) n5 = rec5 at hm
 unfold law10_PlanRules_L5 at hm
 try dsimp only at hm
 refine sw_seq<|qs 5 rfl<|qm rfl<|qm rfl<|qv rfl (vv_sub (k := .i64) (a := a13) (b := 1) rfl rfl) ?_
 obtain ⟨nn16, hnn16, hm⟩ := bnd hm
 refine qv rfl (vv_shlI (a := 1) (b := (w64 (a13 - 1))) rfl rfl hnn16)<|qv rfl (vv_leq (a := a15) (b := shlI 1 nn16) rfl rfl)<|sd_done<|cnF rfl (fun c9 => ?_) (fun c9 => ?_)
 · replace hm := iF c9 hm
   refine sw_exit<|then_x<|then_x<|block_x<|block_n<|then_n<|qg 3 rfl ?_
   refine qm rfl<|qv rfl (vv_add (k := .i64) (a := a13) (b := 1) rfl rfl)<|qm rfl<|sd_nil ?_
   have K_96 : Kz [] w5 w9 := (K8.kz K9)
   subst hrec4
   exact ⟨rfl, ⟨n4, w64 (a13 + 1)⟩, sbq, ⟨hm, K_96⟩, Nat.lt_succ_self _⟩
 replace hm := iT c9 hm
 refine qu<|sw_seq<|sw_block<|qs 1 rfl<|qm rfl ?_
 refine sd_done<|sw_block ?_
 have X39 := (X35.kz K9)
 have B40 := (B36.kz K9 tk0 (fun x hx => tk0))
 have B41 := (B37.kz K9 tk0 (fun x hx => tk0))
 refine sw_loopD (α := Nat × Int) ([4, 14, 15] ++ rg 112 92) (fun ⟨n6, a18⟩ => [(4, .bool false), (14, .int .i64 a18)]) (fun ⟨n6, a18⟩ wr => (fixN (law10_PlanRules_L6 p0 x2 y11 a13 a15 rec5) n6 a18 = some r) ∧ Kz [] w9 wr) (fun ⟨n6, a18⟩ => n6) ⟨FUEL, 0⟩ ?_ ?_ ?_
 · exact sbq
 · exact ⟨hm, Kz.refl _ _⟩
 clear hm; rintro ⟨n6, a18⟩ w10 ⟨hm, K10⟩
 have z42 := K10.size
 have hb := fix_succ hm; clear hm; obtain ⟨n6, rfl, hm⟩ := hb
 generalize hrec6 : fixN (law10_PlanRules_L6 p0 x2 y11 a13 a15 rec5) n6 = rec6 at hm
 unfold law10_PlanRules_L6 at hm
 try dsimp only at hm
 refine sw_seq<|qs 5 rfl<|qm rfl<|qm rfl<|qv rfl (vv_sub (k := .i64) (a := a13) (b := 1) rfl rfl) ?_
 obtain ⟨nn19, hnn19, hm⟩ := bnd hm
 refine qv rfl (vv_shlI (a := 1) (b := (w64 (a13 - 1))) rfl rfl hnn19)<|qv rfl (vv_leq (a := a18) (b := shlI 1 nn19) rfl rfl)<|sd_done<|cnF rfl (fun c10 => ?_) (fun c10 => ?_)
 · replace hm := iF c10 hm
   refine sw_exit<|then_x<|then_x<|block_x<|block_n<|then_n<|qg 3 rfl ?_
   refine qm rfl<|qv rfl (vv_add (k := .i64) (a := a15) (b := 1) rfl rfl)<|qm rfl<|sd_nil ?_
   have K_95 : Kz [] w8 w10 := (K9.kz K10)
   subst hrec5
   exact ⟨rfl, ⟨n5, w64 (a15 + 1)⟩, sbq, ⟨hm, K_95⟩, Nat.lt_succ_self _⟩
 replace hm := iT c10 hm
 refine qu<|sw_seq<|sw_block ?_
 have X43 := (X39.kz K10)
 refine qj (β := Bool) ([15] ++ rg 119 6) (fun a20 => [(15, .bool a20)]) (fun a20 wr => (law10_PlanRules_J7 p0 x2 y11 a13 a15 a18 rec6 a20 = some r) ∧ Kz [] w10 wr) ?_ ?_
 · refine qg 7 rfl<|qm rfl<|qv rfl (vv_gtr (a := a15) (b := 0) rfl rfl)<|qp rfl (vv_move rfl) (fun c19 => ?_) (fun c19 => ?_)
   · replace hm := iT c19 hm
     refine qm rfl<|qv rfl (vv_gtr (a := a18) (b := 0) rfl rfl)<|qm rfl<|qm rfl<|sd_nil ?_
     exact ⟨rfl, (decide ((0 : Int) < a18)), sbq, hm, kz0⟩
   replace hm := iF c19 hm
   refine qk rfl<|qk rfl<|qm rfl<|qm rfl<|sd_nil ?_
   exact ⟨rfl, false, sbq, hm, kz0⟩
 clear hm; rintro a20 w11 ⟨hm, K11⟩
 have z44 := K11.size
 unfold law10_PlanRules_J7 at hm
 refine sw_seq ?_
 have X45 := (X43.kz K11)
 refine qj (β := Bool) (rg 125 41) (fun a21 => [(165, .bool a21)]) (fun a21 wr => (law10_PlanRules_J8 p0 x2 y11 a13 a15 a18 rec6 a20 a21 = some r) ∧ Kz [] w11 wr) ?_ ?_
 · refine dw [([])] [] (.leaf [(0,10),(1,10),(2,10),(3,10),(4,10),(5,10),(6,10),(7,10),(8,10),(9,10),(10,10),(11,10),(12,10),(13,10),(14,10),(15,10),(16,10),(17,10),(18,10),(19,10),(20,10),(21,10),(22,10),(23,10),(24,10),(25,10),(26,10),(27,10),(28,10),(29,10),(30,10),(31,10),(32,10),(33,10),(34,10),(35,10),(36,10),(37,10),(38,10),(39,10),(40,10)]) ?_
   intro w15 G15 zw15
   refine sdz_leaf<|dh 0 rfl rfl (fun w hS => vv_fieldAddr fa_26_0 rfl) ?_
   have B66 := ((((B34.kz K9).kz K10).kz K11).gr G15)
   refine dh 0 rfl rfl (fun w hS => vv_load1 (v := bv p0.Kind) one_5 rfl (Bx.kp B66 hS) rfl)<|dh 0 rfl rfl (fun w hS => vv_eqlB (p := p0.Kind) (q := 1#8) rfl rfl)<|qqF 0 rfl rfl (Kp.refl ([]) w15) (fun w hS => vv_move rfl) (fun c15 => ?_) (fun c15 => ?_)
   · replace hm := iF c15 hm
     refine dx 0 rfl rfl<|dx 0 rfl rfl<|dx 0 rfl rfl<|dx 0 rfl rfl<|dm 0 rfl rfl<|dm 0 rfl rfl<|dm 0 rfl rfl ?_
     refine dm 0 rfl rfl<|qqF 0 rfl rfl (Kp.refl ([]) w15) (fun w hS => vv_move rfl) (fun c18 => ?_) (fun c18 => ?_)
     · replace hm := cnd_f c18 hm
       refine dx 0 rfl rfl<|dx 0 rfl rfl<|dx 0 rfl rfl<|dx 0 rfl rfl<|dx 0 rfl rfl<|dx 0 rfl rfl<|dx 0 rfl rfl ?_
       refine dx 0 rfl rfl<|dx 0 rfl rfl<|dx 0 rfl rfl<|dx 0 rfl rfl<|dx 0 rfl rfl<|dx 0 rfl rfl<|dx 0 rfl rfl ?_
       refine dx 0 rfl rfl<|dx 0 rfl rfl<|dx 0 rfl rfl<|dx 0 rfl rfl<|dx 0 rfl rfl<|dx 0 rfl rfl<|dx 0 rfl rfl ?_
       refine dx 0 rfl rfl<|dx 0 rfl rfl<|dx 0 rfl rfl<|dx 0 rfl rfl<|dx 0 rfl rfl<|dx 0 rfl rfl<|dm 0 rfl rfl ?_
       refine sd_nil ?_
       exact ⟨rfl, false, sbq, hm, (kz0.gr G15)⟩
     replace hm := cnd_t c18 hm
     refine dm 0 rfl rfl<|dm 0 rfl rfl ?_
     obtain ⟨y42, hy42, hm⟩ := bnd hm
     have B84 := (((B41.kz K10 tk0 (fun x hx => tk0)).kz K11 tk0 (fun x hx => tk0)).gr G15)
     refine dh 0 rfl rfl (fun w hS => vv_ixD (i := a13) Try.underlying73 (one_32).siz rfl (RdD.kp B84 hS (.inr List.not_mem_nil) (fun _ _ => List.not_mem_nil)) rfl hy42) ?_
     obtain ⟨lg85, x85_, z85_, g85_, o85_, R85, gx85, Q85, pf85⟩ := atSl B84 hy42
     have lt86 := Q85.lth
     refine dh 0 rfl rfl (fun w hS => vv_el1T (c := (fun p => [p.2])) (q := 0) (u := x85_) one_32 rfl (Rd.kp R85 hS (.inr List.not_mem_nil)) gx85 (by first | rfl | omega) rfl)<|dm 0 rfl rfl<|dm 0 rfl rfl<|dh 0 rfl rfl (fun w hS => vv_add (k := .i64) (a := a15) (b := a18) rfl rfl) ?_
     obtain ⟨y43, hy43, hm⟩ := bnd hm
     refine dh 0 rfl rfl (fun w hS => vv_ixT (i := w64 (a15 + a18)) Try.underlying32 (one_3).siz rfl (Rd.kp Q85 hS) rfl hy43)<|dh 0 rfl rfl (fun w hS => vv_el1T (q := 0) (u := .int .i64 y43) one_3 rfl (Rd.kp Q85 hS) hy43 (by first | rfl | omega) rfl)<|dm 0 rfl rfl<|dm 0 rfl rfl<|dh 0 rfl rfl (fun w hS => vv_sub (k := .i64) (a := a13) (b := 1) rfl rfl) ?_
     obtain ⟨y44, hy44, hm⟩ := bnd hm
     refine dh 0 rfl rfl (fun w hS => vv_ixD (i := w64 (a13 - 1)) Try.underlying73 (one_32).siz rfl (RdD.kp B84 hS (.inr List.not_mem_nil) (fun _ _ => List.not_mem_nil)) rfl hy44) ?_
     obtain ⟨lg87, x87_, z87_, g87_, o87_, R87, gx87, Q87, pf87⟩ := atSl B84 hy44
     have lt88 := Q87.lth
     refine dh 0 rfl rfl (fun w hS => vv_el1T (c := (fun p => [p.2])) (q := 0) (u := x87_) one_32 rfl (Rd.kp R87 hS (.inr List.not_mem_nil)) gx87 (by first | rfl | omega) rfl)<|dm 0 rfl rfl ?_
     obtain ⟨y45, hy45, hm⟩ := bnd hm
     refine dh 0 rfl rfl (fun w hS => vv_ixT (i := a15) Try.underlying32 (one_3).siz rfl (Rd.kp Q87 hS) rfl hy45)<|dh 0 rfl rfl (fun w hS => vv_el1T (q := 0) (u := .int .i64 y45) one_3 rfl (Rd.kp Q87 hS) hy45 (by first | rfl | omega) rfl)<|dm 0 rfl rfl<|dm 0 rfl rfl<|dh 0 rfl rfl (fun w hS => vv_sub (k := .i64) (a := a13) (b := 1) rfl rfl) ?_
     obtain ⟨y46, hy46, hm⟩ := bnd hm
     refine dh 0 rfl rfl (fun w hS => vv_ixD (i := w64 (a13 - 1)) Try.underlying73 (one_32).siz rfl (RdD.kp B84 hS (.inr List.not_mem_nil) (fun _ _ => List.not_mem_nil)) rfl hy46) ?_
     obtain ⟨lg89, x89_, z89_, g89_, o89_, R89, gx89, Q89, pf89⟩ := atSl B84 hy46
     have lt90 := Q89.lth
     refine dh 0 rfl rfl (fun w hS => vv_el1T (c := (fun p => [p.2])) (q := 0) (u := x89_) one_32 rfl (Rd.kp R89 hS (.inr List.not_mem_nil)) gx89 (by first | rfl | omega) rfl)<|dm 0 rfl rfl ?_
     obtain ⟨y47, hy47, hm⟩ := bnd hm
     refine dh 0 rfl rfl (fun w hS => vv_ixT (i := a18) Try.underlying32 (one_3).siz rfl (Rd.kp Q89 hS) rfl hy47)<|dh 0 rfl rfl (fun w hS => vv_el1T (q := 0) (u := .int .i64 y47) one_3 rfl (Rd.kp Q89 hS) hy47 (by first | rfl | omega) rfl)<|dh 0 rfl rfl (fun w hS => vv_add (k := .i64) (a := y45) (b := y47) rfl rfl)<|dh 0 rfl rfl (fun w hS => vv_lss (a := y43) (b := w64 (y45 + y47)) rfl rfl)<|dm 0 rfl rfl<|sd_nil ?_
     exact ⟨rfl, (decide (y43 < w64 (y45 + y47))), sbq, hm, (kz0.gr G15)⟩
   replace hm := iT c15 hm
   refine dm 0 rfl rfl<|dm 0 rfl rfl<|dh 0 rfl rfl (fun w hS => vv_add (k := .i64) (a := a15) (b := a18) rfl rfl)<|dh 0 rfl rfl (fun w hS => vv_gtr (a := w64 (a15 + a18)) (b := 0) rfl rfl)<|dm 0 rfl rfl<|qq 0 rfl rfl (Kp.refl ([]) w15) (fun w hS => vv_move rfl) (fun c16 => ?_) (fun c16 => ?_)
   · replace hm := iT c16 hm
     refine dx 0 rfl rfl<|dm 0 rfl rfl<|dm 0 rfl rfl<|dm 0 rfl rfl<|dm 0 rfl rfl ?_
     obtain ⟨y30, hy30, hm⟩ := bnd hm
     have B67 := (((B41.kz K10 tk0 (fun x hx => tk0)).kz K11 tk0 (fun x hx => tk0)).gr G15)
     refine dh 0 rfl rfl (fun w hS => vv_ixD (i := a13) Try.underlying73 (one_32).siz rfl (RdD.kp B67 hS (.inr List.not_mem_nil) (fun _ _ => List.not_mem_nil)) rfl hy30) ?_
     obtain ⟨lg68, x68_, z68_, g68_, o68_, R68, gx68, Q68, pf68⟩ := atSl B67 hy30
     have lt69 := Q68.lth
     refine dh 0 rfl rfl (fun w hS => vv_el1T (c := (fun p => [p.2])) (q := 0) (u := x68_) one_32 rfl (Rd.kp R68 hS (.inr List.not_mem_nil)) gx68 (by first | rfl | omega) rfl)<|dm 0 rfl rfl<|dm 0 rfl rfl<|dh 0 rfl rfl (fun w hS => vv_add (k := .i64) (a := a15) (b := a18) rfl rfl) ?_
     obtain ⟨y31, hy31, hm⟩ := bnd hm
     refine dh 0 rfl rfl (fun w hS => vv_ixT (i := w64 (a15 + a18)) Try.underlying32 (one_3).siz rfl (Rd.kp Q68 hS) rfl hy31)<|dh 0 rfl rfl (fun w hS => vv_el1T (q := 0) (u := .int .i64 y31) one_3 rfl (Rd.kp Q68 hS) hy31 (by first | rfl | omega) rfl)<|dm 0 rfl rfl<|dm 0 rfl rfl<|dh 0 rfl rfl (fun w hS => vv_sub (k := .i64) (a := a13) (b := 1) rfl rfl) ?_
     obtain ⟨y32, hy32, hm⟩ := bnd hm
     refine dh 0 rfl rfl (fun w hS => vv_ixD (i := w64 (a13 - 1)) Try.underlying73 (one_32).siz rfl (RdD.kp B67 hS (.inr List.not_mem_nil) (fun _ _ => List.not_mem_nil)) rfl hy32) ?_
     obtain ⟨lg70, x70_, z70_, g70_, o70_, R70, gx70, Q70, pf70⟩ := atSl B67 hy32
     have lt71 := Q70.lth
     refine dh 0 rfl rfl (fun w hS => vv_el1T (c := (fun p => [p.2])) (q := 0) (u := x70_) one_32 rfl (Rd.kp R70 hS (.inr List.not_mem_nil)) gx70 (by first | rfl | omega) rfl)<|dm 0 rfl rfl ?_
     obtain ⟨y33, hy33, hm⟩ := bnd hm
     refine dh 0 rfl rfl (fun w hS => vv_ixT (i := a15) Try.underlying32 (one_3).siz rfl (Rd.kp Q70 hS) rfl hy33)<|dh 0 rfl rfl (fun w hS => vv_el1T (q := 0) (u := .int .i64 y33) one_3 rfl (Rd.kp Q70 hS) hy33 (by first | rfl | omega) rfl)<|dm 0 rfl rfl<|dm 0 rfl rfl<|dh 0 rfl rfl (fun w hS => vv_sub (k := .i64) (a := a13) (b := 1) rfl rfl) ?_
     obtain ⟨y34, hy34, hm⟩ := bnd hm
     refine dh 0 rfl rfl (fun w hS => vv_ixD (i := w64 (a13 - 1)) Try.underlying73 (one_32).siz rfl (RdD.kp B67 hS (.inr List.not_mem_nil) (fun _ _ => List.not_mem_nil)) rfl hy34) ?_
     obtain ⟨lg72, x72_, z72_, g72_, o72_, R72, gx72, Q72, pf72⟩ := atSl B67 hy34
     have lt73 := Q72.lth
     refine dh 0 rfl rfl (fun w hS => vv_el1T (c := (fun p => [p.2])) (q := 0) (u := x72_) one_32 rfl (Rd.kp R72 hS (.inr List.not_mem_nil)) gx72 (by first | rfl | omega) rfl)<|dm 0 rfl rfl ?_
     obtain ⟨y35, hy35, hm⟩ := bnd hm
     refine dh 0 rfl rfl (fun w hS => vv_ixT (i := a18) Try.underlying32 (one_3).siz rfl (Rd.kp Q72 hS) rfl hy35)<|dh 0 rfl rfl (fun w hS => vv_el1T (q := 0) (u := .int .i64 y35) one_3 rfl (Rd.kp Q72 hS) hy35 (by first | rfl | omega) rfl)<|dh 0 rfl rfl (fun w hS => vv_add (k := .i64) (a := y33) (b := y35) rfl rfl)<|dh 0 rfl rfl (fun w hS => vv_lss (a := y31) (b := w64 (y33 + y35)) rfl rfl)<|dm 0 rfl rfl<|sd_nil ?_
     exact ⟨rfl, (decide (y31 < w64 (y33 + y35))), sbq, hm, (kz0.gr G15)⟩
   replace hm := iF c16 hm
   refine dm 0 rfl rfl<|dm 0 rfl rfl<|qqF 0 rfl rfl (Kp.refl ([]) w15) (fun w hS => vv_move rfl) (fun c17 => ?_) (fun c17 => ?_)
   · replace hm := cnd_f c17 hm
     refine dx 0 rfl rfl<|dx 0 rfl rfl<|dx 0 rfl rfl<|dx 0 rfl rfl<|dx 0 rfl rfl<|dx 0 rfl rfl<|dx 0 rfl rfl ?_
     refine dx 0 rfl rfl<|dx 0 rfl rfl<|dx 0 rfl rfl<|dx 0 rfl rfl<|dx 0 rfl rfl<|dx 0 rfl rfl<|dx 0 rfl rfl ?_
     refine dx 0 rfl rfl<|dx 0 rfl rfl<|dx 0 rfl rfl<|dx 0 rfl rfl<|dx 0 rfl rfl<|dx 0 rfl rfl<|dx 0 rfl rfl ?_
     refine dx 0 rfl rfl<|dx 0 rfl rfl<|dx 0 rfl rfl<|dx 0 rfl rfl<|dx 0 rfl rfl<|dx 0 rfl rfl<|dm 0 rfl rfl ?_
     refine sd_nil ?_
     exact ⟨rfl, false, sbq, hm, (kz0.gr G15)⟩
   replace hm := cnd_t c17 hm
   refine dm 0 rfl rfl<|dm 0 rfl rfl ?_
   obtain ⟨y36, hy36, hm⟩ := bnd hm
   have B75 := (((B41.kz K10 tk0 (fun x hx => tk0)).kz K11 tk0 (fun x hx => tk0)).gr G15)
   refine dh 0 rfl rfl (fun w hS => vv_ixD (i := a13) Try.underlying73 (one_32).siz rfl (RdD.kp B75 hS (.inr List.not_mem_nil) (fun _ _ => List.not_mem_nil)) rfl hy36) ?_
   obtain ⟨lg76, x76_, z76_, g76_, o76_, R76, gx76, Q76, pf76⟩ := atSl B75 hy36
   have lt77 := Q76.lth
   refine dh 0 rfl rfl (fun w hS => vv_el1T (c := (fun p => [p.2])) (q := 0) (u := x76_) one_32 rfl (Rd.kp R76 hS (.inr List.not_mem_nil)) gx76 (by first | rfl | omega) rfl)<|dm 0 rfl rfl<|dm 0 rfl rfl<|dh 0 rfl rfl (fun w hS => vv_add (k := .i64) (a := a15) (b := a18) rfl rfl) ?_
   obtain ⟨y37, hy37, hm⟩ := bnd hm
   refine dh 0 rfl rfl (fun w hS => vv_ixT (i := w64 (a15 + a18)) Try.underlying32 (one_3).siz rfl (Rd.kp Q76 hS) rfl hy37)<|dh 0 rfl rfl (fun w hS => vv_el1T (q := 0) (u := .int .i64 y37) one_3 rfl (Rd.kp Q76 hS) hy37 (by first | rfl | omega) rfl)<|dm 0 rfl rfl<|dm 0 rfl rfl<|dh 0 rfl rfl (fun w hS => vv_sub (k := .i64) (a := a13) (b := 1) rfl rfl) ?_
   obtain ⟨y38, hy38, hm⟩ := bnd hm
   refine dh 0 rfl rfl (fun w hS => vv_ixD (i := w64 (a13 - 1)) Try.underlying73 (one_32).siz rfl (RdD.kp B75 hS (.inr List.not_mem_nil) (fun _ _ => List.not_mem_nil)) rfl hy38) ?_
   obtain ⟨lg78, x78_, z78_, g78_, o78_, R78, gx78, Q78, pf78⟩ := atSl B75 hy38
   have lt79 := Q78.lth
   refine dh 0 rfl rfl (fun w hS => vv_el1T (c := (fun p => [p.2])) (q := 0) (u := x78_) one_32 rfl (Rd.kp R78 hS (.inr List.not_mem_nil)) gx78 (by first | rfl | omega) rfl)<|dm 0 rfl rfl ?_
   obtain ⟨y39, hy39, hm⟩ := bnd hm
   refine dh 0 rfl rfl (fun w hS => vv_ixT (i := a15) Try.underlying32 (one_3).siz rfl (Rd.kp Q78 hS) rfl hy39)<|dh 0 rfl rfl (fun w hS => vv_el1T (q := 0) (u := .int .i64 y39) one_3 rfl (Rd.kp Q78 hS) hy39 (by first | rfl | omega) rfl)<|dm 0 rfl rfl<|dm 0 rfl rfl<|dh 0 rfl rfl (fun w hS => vv_sub (k := .i64) (a := a13) (b := 1) rfl rfl) ?_
   obtain ⟨y40, hy40, hm⟩ := bnd hm
   refine dh 0 rfl rfl (fun w hS => vv_ixD (i := w64 (a13 - 1)) Try.underlying73 (one_32).siz rfl (RdD.kp B75 hS (.inr List.not_mem_nil) (fun _ _ => List.not_mem_nil)) rfl hy40) ?_
   obtain ⟨lg80, x80_, z80_, g80_, o80_, R80, gx80, Q80, pf80⟩ := atSl B75 hy40
   have lt81 := Q80.lth
   refine dh 0 rfl rfl (fun w hS => vv_el1T (c := (fun p => [p.2])) (q := 0) (u := x80_) one_32 rfl (Rd.kp R80 hS (.inr List.not_mem_nil)) gx80 (by first | rfl | omega) rfl)<|dm 0 rfl rfl ?_
   obtain ⟨y41, hy41, hm⟩ := bnd hm
   refine dh 0 rfl rfl (fun w hS => vv_ixT (i := a18) Try.underlying32 (one_3).siz rfl (Rd.kp Q80 hS) rfl hy41)<|dh 0 rfl rfl (fun w hS => vv_el1T (q := 0) (u := .int .i64 y41) one_3 rfl (Rd.kp Q80 hS) hy41 (by first | rfl | omega) rfl)<|dh 0 rfl rfl (fun w hS => vv_add (k := .i64) (a := y39) (b := y41) rfl rfl)<|dh 0 rfl rfl (fun w hS => vv_lss (a := y37) (b := w64 (y39 + y41)) rfl rfl)<|dm 0 rfl rfl<|sd_nil ?_
   exact ⟨rfl, (decide (y37 < w64 (y39 + y41))), sbq, hm, (kz0.gr G15)⟩
 clear hm; rintro a21 w12 ⟨hm, K12⟩
 have z46 := K12.size
 unfold law10_PlanRules_J8 at hm
 refine sw_cond rfl (fun c11 => ?_) (fun c11 => ?_)
 · replace hm := cnd_t c11 hm
   refine qs 1 rfl<|qm rfl<|qb<|block_r ?_
   refine then_r<|then_r<|block_r<|block_r<|then_r<|then_r<|block_r ?_
   refine block_r<|then_r<|then_r<|block_r<|then_r ?_
   have X47 := (X45.kz K12)
   cases hm
   refine ⟨_, _, rfl, res_1 rfl (rv_tmp rfl), ?_⟩
   exact ⟨rfl, X47⟩
 replace hm := cnd_f c11 hm
 refine qu ?_
 have X48 := (X45.kz K12)
 refine qj (β := Bool) (rg 166 38) (fun a22 => [(203, .bool a22)]) (fun a22 wr => (law10_PlanRules_J9 a18 rec6 a22 = some r) ∧ Kz [] w12 wr) ?_ ?_
 · refine dw [([])] [] (.leaf [(0,10),(1,10),(2,10),(3,10),(4,10),(5,10),(6,10),(7,10),(8,10),(9,10),(10,10),(11,10),(12,10),(13,10),(14,10),(15,10),(16,10),(17,10),(18,10),(19,10),(20,10),(21,10),(22,10),(23,10),(24,10),(25,10),(26,10),(27,10),(28,10),(29,10),(30,10),(31,10),(32,10),(33,10),(34,10),(35,10),(36,10),(37,10)]) ?_
   intro w14 G14 zw14
   refine sdz_leaf<|dm 0 rfl rfl<|qqF 0 rfl rfl (Kp.refl ([]) w14) (fun w hS => vv_move rfl) (fun c13 => ?_) (fun c13 => ?_)
   · replace hm := cnd_f c13 hm
     refine dx 0 rfl rfl<|dx 0 rfl rfl<|dx 0 rfl rfl<|dm 0 rfl rfl<|dm 0 rfl rfl<|dx 0 rfl rfl<|dx 0 rfl rfl ?_
     refine dx 0 rfl rfl<|dx 0 rfl rfl<|dx 0 rfl rfl<|dx 0 rfl rfl<|dx 0 rfl rfl<|dx 0 rfl rfl<|dx 0 rfl rfl ?_
     refine dx 0 rfl rfl<|dx 0 rfl rfl<|dx 0 rfl rfl<|dx 0 rfl rfl<|dx 0 rfl rfl<|dx 0 rfl rfl<|dx 0 rfl rfl ?_
     refine dx 0 rfl rfl<|dx 0 rfl rfl<|dx 0 rfl rfl<|dx 0 rfl rfl<|dx 0 rfl rfl<|dx 0 rfl rfl<|dx 0 rfl rfl ?_
     refine dx 0 rfl rfl<|dx 0 rfl rfl<|dx 0 rfl rfl<|dx 0 rfl rfl<|dx 0 rfl rfl<|dx 0 rfl rfl<|dx 0 rfl rfl ?_
     refine dm 0 rfl rfl<|sd_nil ?_
     exact ⟨rfl, false, sbq, hm, (kz0.gr G14)⟩
   replace hm := cnd_t c13 hm
   refine dh 0 rfl rfl (fun w hS => vv_fieldAddr fa_26_0 rfl) ?_
   have B52 := (((((B34.kz K9).kz K10).kz K11).kz K12).gr G14)
   refine dh 0 rfl rfl (fun w hS => vv_load1 (v := bv p0.Kind) one_5 rfl (Bx.kp B52 hS) rfl)<|dh 0 rfl rfl (fun w hS => vv_gtrB (p := p0.Kind) (q := 1#8) rfl rfl)<|dm 0 rfl rfl<|qqF 0 rfl rfl (Kp.refl ([]) w14) (fun w hS => vv_move rfl) (fun c14 => ?_) (fun c14 => ?_)
   · replace hm := iF c14 hm
     refine dx 0 rfl rfl<|dx 0 rfl rfl<|dx 0 rfl rfl<|dx 0 rfl rfl<|dx 0 rfl rfl<|dx 0 rfl rfl<|dx 0 rfl rfl ?_
     refine dx 0 rfl rfl<|dx 0 rfl rfl<|dx 0 rfl rfl<|dx 0 rfl rfl<|dx 0 rfl rfl<|dx 0 rfl rfl<|dx 0 rfl rfl ?_
     refine dx 0 rfl rfl<|dx 0 rfl rfl<|dx 0 rfl rfl<|dx 0 rfl rfl<|dx 0 rfl rfl<|dx 0 rfl rfl<|dx 0 rfl rfl ?_
     refine dx 0 rfl rfl<|dx 0 rfl rfl<|dx 0 rfl rfl<|dx 0 rfl rfl<|dx 0 rfl rfl<|dx 0 rfl rfl<|dx 0 rfl rfl ?_
     refine dx 0 rfl rfl<|dx 0 rfl rfl<|dm 0 rfl rfl<|sd_nil ?_
     exact ⟨rfl, false, sbq, hm, (kz0.gr G14)⟩
   replace hm := iT c14 hm
   refine dm 0 rfl rfl ?_
   obtain ⟨y23, hy23, hm⟩ := bnd hm
   have B53 := ((((B40.kz K10 tk0 (fun x hx => tk0)).kz K11 tk0 (fun x hx => tk0)).kz K12 tk0 (fun x hx => tk0)).gr G14)
   refine dh 0 rfl rfl (fun w hS => vv_ixD (i := 1) Try.underlying39 (one_73).siz rfl (OwnD.rd (OwnD.kp B53 hS (.inr List.not_mem_nil) (fun _ _ => List.not_mem_nil))) rfl hy23) ?_
   obtain ⟨lg54, x54_, z54_, g54_, o54_, R54, gx54, Q54, pf54⟩ := atSd (OwnD.rd B53) hy23
   have lt55 := Q54.lth
   refine dh 0 rfl rfl (fun w hS => vv_el1T (c := (fun p => [p.2])) (q := 0) (u := x54_) one_73 rfl (Rd.kp R54 hS (.inr List.not_mem_nil)) gx54 (by first | rfl | omega) rfl)<|dm 0 rfl rfl ?_
   obtain ⟨y24, hy24, hm⟩ := bnd hm
   refine dh 0 rfl rfl (fun w hS => vv_ixD (i := a13) Try.underlying73 (one_32).siz rfl (RdD.kp Q54 hS (.inr List.not_mem_nil) (fun _ _ => List.not_mem_nil)) rfl hy24) ?_
   obtain ⟨lg56, x56_, z56_, g56_, o56_, R56, gx56, Q56, pf56⟩ := atSl Q54 hy24
   have lt57 := Q56.lth
   refine dh 0 rfl rfl (fun w hS => vv_el1T (c := (fun p => [p.2])) (q := 0) (u := x56_) one_32 rfl (Rd.kp R56 hS (.inr List.not_mem_nil)) gx56 (by first | rfl | omega) rfl)<|dm 0 rfl rfl<|dm 0 rfl rfl<|dh 0 rfl rfl (fun w hS => vv_add (k := .i64) (a := a15) (b := a18) rfl rfl) ?_
   obtain ⟨y25, hy25, hm⟩ := bnd hm
   refine dh 0 rfl rfl (fun w hS => vv_ixT (i := w64 (a15 + a18)) Try.underlying32 (one_3).siz rfl (Rd.kp Q56 hS) rfl hy25)<|dh 0 rfl rfl (fun w hS => vv_el1T (q := 0) (u := .int .i64 y25) one_3 rfl (Rd.kp Q56 hS) hy25 (by first | rfl | omega) rfl)<|dm 0 rfl rfl<|dm 0 rfl rfl<|dh 0 rfl rfl (fun w hS => vv_sub (k := .i64) (a := a13) (b := 1) rfl rfl) ?_
   obtain ⟨y26, hy26, hm⟩ := bnd hm
   have B58 := ((((B41.kz K10 tk0 (fun x hx => tk0)).kz K11 tk0 (fun x hx => tk0)).kz K12 tk0 (fun x hx => tk0)).gr G14)
   refine dh 0 rfl rfl (fun w hS => vv_ixD (i := w64 (a13 - 1)) Try.underlying73 (one_32).siz rfl (RdD.kp B58 hS (.inr List.not_mem_nil) (fun _ _ => List.not_mem_nil)) rfl hy26) ?_
   obtain ⟨lg59, x59_, z59_, g59_, o59_, R59, gx59, Q59, pf59⟩ := atSl B58 hy26
   have lt60 := Q59.lth
   refine dh 0 rfl rfl (fun w hS => vv_el1T (c := (fun p => [p.2])) (q := 0) (u := x59_) one_32 rfl (Rd.kp R59 hS (.inr List.not_mem_nil)) gx59 (by first | rfl | omega) rfl)<|dm 0 rfl rfl ?_
   obtain ⟨y27, hy27, hm⟩ := bnd hm
   refine dh 0 rfl rfl (fun w hS => vv_ixT (i := a15) Try.underlying32 (one_3).siz rfl (Rd.kp Q59 hS) rfl hy27)<|dh 0 rfl rfl (fun w hS => vv_el1T (q := 0) (u := .int .i64 y27) one_3 rfl (Rd.kp Q59 hS) hy27 (by first | rfl | omega) rfl)<|dh 0 rfl rfl (fun w hS => vv_add (k := .i64) (a := 1) (b := y27) rfl rfl)<|dm 0 rfl rfl<|dm 0 rfl rfl<|dh 0 rfl rfl (fun w hS => vv_sub (k := .i64) (a := a13) (b := 1) rfl rfl) ?_
   obtain ⟨y28, hy28, hm⟩ := bnd hm
   refine dh 0 rfl rfl (fun w hS => vv_ixD (i := w64 (a13 - 1)) Try.underlying73 (one_32).siz rfl (RdD.kp B58 hS (.inr List.not_mem_nil) (fun _ _ => List.not_mem_nil)) rfl hy28) ?_
   obtain ⟨lg61, x61_, z61_, g61_, o61_, R61, gx61, Q61, pf61⟩ := atSl B58 hy28
   have lt62 := Q61.lth
   refine dh 0 rfl rfl (fun w hS => vv_el1T (c := (fun p => [p.2])) (q := 0) (u := x61_) one_32 rfl (Rd.kp R61 hS (.inr List.not_mem_nil)) gx61 (by first | rfl | omega) rfl)<|dm 0 rfl rfl ?_
   obtain ⟨y29, hy29, hm⟩ := bnd hm
   refine dh 0 rfl rfl (fun w hS => vv_ixT (i := a18) Try.underlying32 (one_3).siz rfl (Rd.kp Q61 hS) rfl hy29)<|dh 0 rfl rfl (fun w hS => vv_el1T (q := 0) (u := .int .i64 y29) one_3 rfl (Rd.kp Q61 hS) hy29 (by first | rfl | omega) rfl)<|dh 0 rfl rfl (fun w hS => vv_add (k := .i64) (a := w64 (1 + y27)) (b := y29) rfl rfl)<|dh 0 rfl rfl (fun w hS => vv_lss (a := y25) (b := w64 ((w64 (1 + y27)) + y29)) rfl rfl)<|dm 0 rfl rfl<|sd_nil ?_
   exact ⟨rfl, (decide (y25 < w64 ((w64 (1 + y27)) + y29))), sbq, hm, (kz0.gr G14)⟩
 clear hm; rintro a22 w13 ⟨hm, K13⟩
 have z49 := K13.size
 unfold law10_PlanRules_J9 at hm
 refine sw_cond rfl (fun c12 => ?_) (fun c12 => ?_)
 · replace hm := cnd_t c12 hm
   refine qs 1 rfl<|qm rfl<|sd_done<|sw_ret<|block_r<|then_r ?_
   refine then_r<|block_r<|block_r<|then_r<|then_r<|block_r<|block_r ?_
   refine then_r<|then_r<|block_r<|then_r ?_
   have X50 := (X48.kz K13)
   cases hm
   refine ⟨_, _, rfl, res_1 rfl (rv_tmp rfl), ?_⟩
   exact ⟨rfl, X50⟩
 replace hm := cnd_f c12 hm
 refine sw_skip<|block_n<|then_n<|qg 3 rfl<|qm rfl<|qv rfl (vv_add (k := .i64) (a := a18) (b := 1) rfl rfl)<|qm rfl ?_
 refine sd_nil ?_
 have K_51 : Kz [] w9 w13 := (((K10.kz K11).kz K12).kz K13)
 subst hrec6
 exact ⟨rfl, ⟨n6, w64 (a18 + 1)⟩, sbq, ⟨hm, K_51⟩, Nat.lt_succ_self _⟩
end Go.Proofs.Ytopkalcefepilaa.Mx
