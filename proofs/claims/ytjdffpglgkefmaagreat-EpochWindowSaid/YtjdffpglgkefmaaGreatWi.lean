/- Walks that follow mirrors: Wi. Printed by mx.py. -/
import Derived.Test.YtjdffpglgkefmaaGreatXg
import Derived.Test.YtjdffpglgkefmaaGreatZd
set_option linter.unusedVariables false
set_option linter.unusedSimpArgs false
set_option maxRecDepth 100000
set_option maxHeartbeats 2000000
namespace Go.Proofs.YtjdffpglgkefmaaGreat.Mx
open Go Go.RowKit Go.Sx
theorem en_42 : En Tryz.prog 42 := fun _ _ => by kernel_rfl
theorem en_43 : En Tryz.prog 43 := fun _ _ => by kernel_rfl
theorem law05_EpochWindow_w {p0 p1 p2 p3 p4 r} (hm : law05_EpochWindow p0 p1 p2 p3 p4 = some r) {w : World} :
    Calls Tryz.prog 8 [.agg (TAir.cs p0).toArray, .int .i64 p1, .int .i64 p2, .int .i64 p3, .int .i64 p4].toArray w fun e w' => ∃ v, e = .returned v ∧ (v = .bool r ∧ Gr w w') := by
 unfold law05_EpochWindow at hm
 refine calls_of_sw 165 Tryz.func8 rfl rfl rfl<|qs 2 rfl<|qe rfl (ev_box (cs := TAir.cs p0) rfl rfl) ?_
 rintro _ w1 ⟨b1, rfl, hbw1, Bw1, G1⟩
 have z1 := G1.size
 have lt2 := Bw1.lt
 refine qm rfl<|qd 2 rfl ?_
 obtain ⟨x1, hx1, hm⟩ := bnd hm
 refine qe rfl (eC en_42 rfl (law05_alive_w hx1)) ?_
 rintro _ w2 ⟨rfl, G2⟩
 have z3 := G2.size
 refine qm rfl<|sd_done<|sw_seq ?_
 have X4 := (((Gr.refl w).trans G1).trans G2)
 refine qj (β := Bool) (rg 22 34) (fun a2 => [(55, .bool a2)]) (fun a2 wr => (law05_EpochWindow_J1 p0 p1 p2 p3 p4 x1 a2 = some r) ∧ Kz [] w2 wr) ?_ ?_
 · refine qg 34 rfl ?_
   have B42 := (Bw1.gr G2)
   refine qv rfl (vv_loadW agg_65 rfl B42 rfl) ?_
   obtain ⟨x13, hx13, hm⟩ := bnd hm
   refine qe rfl (eC en_43 rfl (ref05_ValidAir_w hx13)) ?_
   rintro _ w12 ⟨rfl, G12⟩
   have z43 := G12.size
   refine qv rfl (vv_not rfl)<|qp rfl (vv_move rfl) (fun c13 => ?_) (fun c13 => ?_)
   · replace hm := cnd_t c13 hm
     refine qk rfl<|qk rfl<|qm rfl<|qm rfl<|qk rfl<|qk rfl<|qm rfl ?_
     refine qm rfl<|qk rfl<|qk rfl<|qm rfl<|qm rfl<|qk rfl<|qk rfl ?_
     refine qk rfl<|qk rfl<|qm rfl<|qm rfl<|qk rfl<|qk rfl<|qk rfl ?_
     refine qk rfl<|qk rfl<|qm rfl<|qm rfl<|qk rfl<|qk rfl<|qk rfl ?_
     refine qk rfl<|qm rfl<|sd_nil ?_
     exact ⟨rfl, true, sbq, hm, (kz0.gr G12)⟩
   replace hm := cnd_f c13 hm
   refine qm rfl<|qv rfl (vv_lss (a := p1) (b := 0) rfl rfl)<|qm rfl<|qp rfl (vv_move rfl) (fun c14 => ?_) (fun c14 => ?_)
   · replace hm := iT c14 hm
     refine qk rfl<|qk rfl<|qm rfl<|qm rfl<|qk rfl<|qk rfl<|qm rfl ?_
     refine qm rfl<|qk rfl<|qk rfl<|qk rfl<|qk rfl<|qm rfl<|qm rfl ?_
     refine qk rfl<|qk rfl<|qk rfl<|qk rfl<|qk rfl<|qm rfl<|qm rfl ?_
     refine qk rfl<|qk rfl<|qk rfl<|qk rfl<|qm rfl<|sd_nil ?_
     exact ⟨rfl, true, sbq, hm, (kz0.gr G12)⟩
   replace hm := iF c14 hm
   refine qm rfl<|qv rfl (vv_gtr (a := p1) (b := 1099511624776) rfl rfl)<|qm rfl<|qp rfl (vv_move rfl) (fun c15 => ?_) (fun c15 => ?_)
   · replace hm := iT c15 hm
     refine qk rfl<|qk rfl<|qm rfl<|qm rfl<|qk rfl<|qk rfl<|qk rfl ?_
     refine qk rfl<|qm rfl<|qm rfl<|qk rfl<|qk rfl<|qk rfl<|qk rfl ?_
     refine qk rfl<|qm rfl<|qm rfl<|qk rfl<|qk rfl<|qk rfl<|qk rfl ?_
     refine qm rfl<|sd_nil ?_
     exact ⟨rfl, true, sbq, hm, (kz0.gr G12)⟩
   replace hm := iF c15 hm
   refine qm rfl<|qv rfl (vv_lss (a := p2) (b := 0) rfl rfl)<|qm rfl<|qp rfl (vv_move rfl) (fun c16 => ?_) (fun c16 => ?_)
   · replace hm := iT c16 hm
     refine qk rfl<|qk rfl<|qk rfl<|qk rfl<|qm rfl<|qm rfl<|qk rfl ?_
     refine qk rfl<|qk rfl<|qk rfl<|qk rfl<|qm rfl<|qm rfl<|qk rfl ?_
     refine qk rfl<|qk rfl<|qk rfl<|qm rfl<|sd_nil ?_
     exact ⟨rfl, true, sbq, hm, (kz0.gr G12)⟩
   replace hm := iF c16 hm
   refine qm rfl<|qv rfl (vv_fieldAddr fa_65_4 rfl) ?_
   have B48 := (B42.gr G12)
   refine qv rfl (vv_load1 (v := .int .i64 p0.Delay) one_3 rfl B48 rfl)<|qv rfl (vv_gtr (a := p2) (b := p0.Delay) rfl rfl)<|qm rfl<|qp rfl (vv_move rfl) (fun c17 => ?_) (fun c17 => ?_)
   · replace hm := iT c17 hm
     refine qk rfl<|qk rfl<|qk rfl<|qk rfl<|qk rfl<|qm rfl<|qm rfl ?_
     refine qk rfl<|qk rfl<|qk rfl<|qk rfl<|qm rfl<|sd_nil ?_
     exact ⟨rfl, true, sbq, hm, (kz0.gr G12)⟩
   replace hm := iF c17 hm
   refine qm rfl<|qv rfl (vv_fieldAddr fa_65_3 rfl)<|qv rfl (vv_load1 (v := .int .i64 p0.Drift) one_3 rfl B48 rfl)<|qv rfl (vv_negI (a := p0.Drift) rfl)<|qv rfl (vv_lss (a := p3) (b := w64 (-p0.Drift)) rfl rfl)<|qm rfl<|qp rfl (vv_move rfl) (fun c18 => ?_) (fun c18 => ?_)
   · replace hm := iT c18 hm
     refine qk rfl<|qk rfl<|qk rfl<|qk rfl<|qm rfl<|sd_nil ?_
     exact ⟨rfl, true, sbq, hm, (kz0.gr G12)⟩
   replace hm := iF c18 hm
   refine qm rfl<|qv rfl (vv_fieldAddr fa_65_3 rfl)<|qv rfl (vv_load1 (v := .int .i64 p0.Drift) one_3 rfl B48 rfl)<|qv rfl (vv_gtr (a := p3) (b := p0.Drift) rfl rfl)<|qm rfl<|sd_nil ?_
   exact ⟨rfl, (decide (p0.Drift < p3)), sbq, hm, (kz0.gr G12)⟩
 clear hm; rintro a2 w3 ⟨hm, K3⟩
 have z5 := K3.size
 unfold law05_EpochWindow_J1 at hm
 refine sw_cond rfl (fun c1 => ?_) (fun c1 => ?_)
 · replace hm := cnd_t c1 hm
   refine qs 2 rfl<|qm rfl<|qm rfl<|sd_done<|sw_ret<|then_r ?_
   have X6 := (X4.kz K3)
   cases hm
   refine ⟨_, _, rfl, res_1 rfl (rv_tmp rfl), ?_⟩
   exact ⟨rfl, X6⟩
 replace hm := cnd_f c1 hm
 refine qu<|qs 8 rfl ?_
 have B7 := ((Bw1.gr G2).kz K3)
 refine qv rfl (vv_loadW agg_65 rfl B7 rfl)<|qm rfl ?_
 obtain ⟨x3, hx3, hm⟩ := bnd hm
 refine qe rfl (eC en_46 rfl (epoch_Due_w hx3)) ?_
 rintro _ w4 ⟨u4_r0_s, z4_r0_s, g4_r0_s, rfl, O4_r0_s, f4_r0_s, G4⟩
 have z8 := G4.size
 have lt9 := O4_r0_s.lth
 refine qm rfl<|qm rfl<|qm rfl<|qm rfl<|qm rfl<|sd_done<|sw_seq ?_
 have X10 := ((X4.kz K3).trans G4)
 refine qj (β := Bool) (rg 63 7) (fun a4 => [(69, .bool a4)]) (fun a4 wr => (law05_EpochWindow_J2 p0 p1 p2 p3 p4 x1 x3 a4 = some r) ∧ Kz [] w4 wr) ?_ ?_
 · refine qg 7 rfl<|qm rfl<|qv rfl (vv_neq (a := x3.2) (b := 0) rfl rfl)<|qp rfl (vv_move rfl) (fun c12 => ?_) (fun c12 => ?_)
   · replace hm := iT c12 hm
     refine qk rfl<|qk rfl<|qk rfl<|qm rfl<|sd_nil ?_
     exact ⟨rfl, true, sbq, hm, kz0⟩
   replace hm := iF c12 hm
   refine qm rfl<|qv rfl (vv_lenT (l := x3.1) (c := ic) Tryz.underlying44 rfl (Own.rd O4_r0_s))<|qv rfl (vv_eql (a := (x3.1.length : Int)) (b := 0) rfl rfl)<|qm rfl<|sd_nil ?_
   exact ⟨rfl, (decide ((x3.1.length : Int) = 0)), sbq, hm, kz0⟩
 clear hm; rintro a4 w5 ⟨hm, K5⟩
 have z11 := K5.size
 unfold law05_EpochWindow_J2 at hm
 refine sw_cond rfl (fun c2 => ?_) (fun c2 => ?_)
 · replace hm := cnd_t c2 hm
   refine qs 1 rfl<|qm rfl<|qb ?_
   have X12 := (X10.kz K5)
   cases hm
   refine ⟨_, _, rfl, res_1 rfl (rv_tmp rfl), ?_⟩
   exact ⟨rfl, X12⟩
 replace hm := cnd_f c2 hm
 refine qu<|sw_seq<|qs 3 rfl<|qm rfl ?_
 have B13 := (O4_r0_s.kz K5)
 refine qv rfl (vv_lenT (l := x3.1) (c := ic) Tryz.underlying44 rfl (Own.rd B13))<|qm rfl<|sd_done<|sw_block ?_
 have X14 := (X10.kz K5)
 refine sw_loopD (α := Nat × Int) ([10, 14, 15, 16] ++ rg 72 24) (fun ⟨n3, a6⟩ => [(10, .bool false), (72, .int .i64 a6)]) (fun ⟨n3, a6⟩ wr => (fixN (law05_EpochWindow_L3 p0 p1 p2 p3 p4 x1 x3) n3 a6 = some r) ∧ Kz [] w5 wr) (fun ⟨n3, a6⟩ => n3) ⟨FUEL, 0⟩ ?_ ?_ ?_
 · exact sbq
 · exact ⟨hm, Kz.refl _ _⟩
 clear hm; rintro ⟨n3, a6⟩ w6 ⟨hm, K6⟩
 have z15 := K6.size
 have hb := fix_succ hm; clear hm; obtain ⟨n3, rfl, hm⟩ := hb
 generalize hrec3 : fixN (law05_EpochWindow_L3 p0 p1 p2 p3 p4 x1 x3) n3 = rec3 at hm
 unfold law05_EpochWindow_L3 at hm
 try dsimp only at hm
 refine qs 1 rfl<|qv rfl (vv_lss (a := a6) (b := (x3.1.length : Int)) rfl rfl)<|sd_done<|sw_seq<|sw_cond rfl (fun c3 => ?_) (fun c3 => ?_)
 · replace hm := iT c3 hm
   refine qu<|sw_seq<|sw_block<|qs 2 rfl<|qm rfl ?_
   refine qm rfl<|sd_done<|sw_seq<|dw [([])] [] (.leaf [(0,10),(1,10),(2,10),(3,10),(4,10),(5,10),(6,10),(7,10),(8,10),(9,10),(10,0),(11,10),(12,10),(13,10),(14,10),(15,10)]) ?_
   intro w7 G7 zw7
   refine sdz_leaf ?_
   have B16 := ((((B7.gr G4).kz K5).kz K6).gr G7)
   refine dh 0 rfl rfl (fun w hS => vv_loadW agg_65 rfl (Bx.kp B16 hS) rfl)<|dm 0 rfl rfl<|dm 0 rfl rfl<|dh 0 rfl rfl (fun w hS => vv_add (k := .i64) (a := p1) (b := p2) rfl rfl)<|dm 0 rfl rfl<|dh 0 rfl rfl (fun w hS => vv_add (k := .i64) (a := w64 (p1 + p2)) (b := p3) rfl rfl)<|dm 0 rfl rfl ?_
   refine dm 0 rfl rfl ?_
   obtain ⟨y7, hy7, hm⟩ := bnd hm
   have B17 := ((B13.kz K6).gr G7)
   refine dh 0 rfl rfl (fun w hS => vv_ixT (i := a6) Tryz.underlying44 (one_3).siz rfl (Own.rd (Own.kp B17 hS)) rfl hy7)<|dh 0 rfl rfl (fun w hS => vv_el1T (q := 0) (u := .int .i64 y7) one_3 rfl (Own.rd (Own.kp B17 hS)) hy7 (by first | rfl | omega) rfl) ?_
   obtain ⟨x8, hx8, hm⟩ := bnd hm
   refine qz [] rfl (eC en_47 rfl (epoch_InTime_w hx8)) ⟨fun _ => tk0, trivial⟩ ?_
   rintro _ w8 ⟨rfl, G8⟩
   have z18 := G8.size
   refine kG G8 ?_
   have S19 := ((Kp.refl ([]) w7).gr G8)
   refine dn 0 rfl rfl S19<|dn 0 rfl rfl S19<|dn 0 rfl rfl S19<|dn 0 rfl rfl S19<|dn 0 rfl rfl S19<|sd_done ?_
   have X20 := (((X14.kz K6).trans G7).trans G8)
   refine qj (β := Bool) (rg 89 6) (fun a9 => [(94, .bool a9)]) (fun a9 wr => (law05_EpochWindow_J4 a6 rec3 a9 = some r) ∧ Kz [] w8 wr) ?_ ?_
   · refine qg 6 rfl<|qm rfl<|qv rfl (vv_neq (a := x8.2) (b := 0) rfl rfl)<|qp rfl (vv_move rfl) (fun c5 => ?_) (fun c5 => ?_)
     · replace hm := iT c5 hm
       refine qk rfl<|qk rfl<|qm rfl<|sd_nil ?_
       exact ⟨rfl, true, sbq, hm, kz0⟩
     replace hm := iF c5 hm
     refine qm rfl<|qv rfl (vv_not rfl)<|qm rfl<|sd_nil ?_
     exact ⟨rfl, (!x8.1), sbq, hm, kz0⟩
   clear hm; rintro a9 w9 ⟨hm, K9⟩
   have z21 := K9.size
   unfold law05_EpochWindow_J4 at hm
   refine sw_cond rfl (fun c4 => ?_) (fun c4 => ?_)
   · replace hm := cnd_t c4 hm
     refine qs 1 rfl<|qm rfl<|sd_done<|sw_ret<|block_r<|then_r ?_
     refine then_r<|block_r<|then_r ?_
     have X22 := (X20.kz K9)
     cases hm
     refine ⟨_, _, rfl, res_1 rfl (rv_tmp rfl), ?_⟩
     exact ⟨rfl, X22⟩
   replace hm := cnd_f c4 hm
   refine sw_skip<|block_n<|then_n<|qg 2 rfl<|qv rfl (vv_add (k := .i64) (a := a6) (b := 1) rfl rfl)<|qm rfl<|sd_nil ?_
   have K_23 : Kz [] w5 w9 := (((K6.gr G7).gr G8).kz K9)
   subst hrec3
   exact ⟨rfl, ⟨n3, w64 (a6 + 1)⟩, sbq, ⟨hm, K_23⟩, Nat.lt_succ_self _⟩
 replace hm := iF c3 hm
 refine sw_exit<|then_x<|then_x<|block_x<|then_n<|sw_seq ?_
 have X26 := (X14.kz K6)
 refine qj (β := Bool) (rg 96 10) (fun a10 => [(105, .bool a10)]) (fun a10 wr => (law05_EpochWindow_J5 p0 p1 p2 p3 p4 x1 a10 = some r) ∧ Kz [] w6 wr) ?_ ?_
 · refine qg 10 rfl<|qm rfl<|qv rfl (vv_lss (a := p4) (b := 0) rfl rfl)<|qp rfl (vv_move rfl) (fun c11 => ?_) (fun c11 => ?_)
   · replace hm := iT c11 hm
     refine qk rfl<|qk rfl<|qk rfl<|qk rfl<|qk rfl<|qk rfl<|qm rfl ?_
     refine sd_nil ?_
     exact ⟨rfl, true, sbq, hm, kz0⟩
   replace hm := iF c11 hm
   refine qm rfl<|qv rfl (vv_fieldAddr fa_65_0 rfl) ?_
   have B38 := (((B7.gr G4).kz K5).kz K6)
   refine qv rfl (vv_load1 (v := .int .i64 p0.Epoch) one_3 rfl B38 rfl) ?_
   obtain ⟨x12, hx12, hm⟩ := bnd hm
   refine qv rfl (vv_quoI (a := 1099511627776) (b := p0.Epoch) rfl rfl hx12)<|qv rfl (vv_sub (k := .i64) (a := x12) (b := 2) rfl rfl)<|qv rfl (vv_gtr (a := p4) (b := w64 (x12 - 2)) rfl rfl)<|qm rfl<|sd_nil ?_
   exact ⟨rfl, (decide (w64 (x12 - 2) < p4)), sbq, hm, kz0⟩
 clear hm; rintro a10 w10 ⟨hm, K10⟩
 have z27 := K10.size
 unfold law05_EpochWindow_J5 at hm
 refine sw_cond rfl (fun c6 => ?_) (fun c6 => ?_)
 · replace hm := cnd_t c6 hm
   refine qs 2 rfl<|qm rfl<|qm rfl<|sd_done<|sw_ret<|then_r ?_
   have X28 := (X26.kz K10)
   cases hm
   refine ⟨_, _, rfl, res_1 rfl (rv_tmp rfl), ?_⟩
   exact ⟨rfl, X28⟩
 replace hm := cnd_f c6 hm
 refine qu<|qs 13 rfl ?_
 have B29 := ((((B7.gr G4).kz K5).kz K6).kz K10)
 refine qv rfl (vv_loadW agg_65 rfl B29 rfl)<|qm rfl<|qm rfl<|qv rfl (vv_add (k := .i64) (a := p1) (b := p2) rfl rfl)<|qm rfl<|qv rfl (vv_add (k := .i64) (a := w64 (p1 + p2)) (b := p3) rfl rfl)<|qm rfl ?_
 obtain ⟨x11, hx11, hm⟩ := bnd hm
 refine qe rfl (eC en_47 rfl (epoch_InTime_w hx11)) ?_
 rintro _ w11 ⟨rfl, G11⟩
 have z30 := G11.size
 refine qm rfl<|qm rfl<|qm rfl<|qm rfl<|qm rfl<|sd_done<|sw_seq ?_
 refine qg 18 rfl<|qm rfl<|qm rfl<|qv rfl (vv_add (k := .i64) (a := p1) (b := p2) rfl rfl)<|qm rfl<|qv rfl (vv_add (k := .i64) (a := p4) (b := 1) rfl rfl)<|qv rfl (vv_fieldAddr fa_65_0 rfl) ?_
 have B31 := (B29.gr G11)
 refine qv rfl (vv_load1 (v := .int .i64 p0.Epoch) one_3 rfl B31 rfl)<|qv rfl (vv_mul (k := .i64) (a := w64 (p4 + 1)) (b := p0.Epoch) rfl rfl)<|qv rfl (vv_sub (k := .i64) (a := w64 ((w64 (p4 + 1)) * p0.Epoch)) (b := 1) rfl rfl)<|qv rfl (vv_fieldAddr fa_65_3 rfl)<|qv rfl (vv_load1 (v := .int .i64 p0.Drift) one_3 rfl B31 rfl)<|qv rfl (vv_mul (k := .i64) (a := 2) (b := p0.Drift) rfl rfl)<|qv rfl (vv_add (k := .i64) (a := w64 ((w64 ((w64 (p4 + 1)) * p0.Epoch)) - 1)) (b := w64 (2 * p0.Drift)) rfl rfl) ?_
 refine qv rfl (vv_fieldAddr fa_65_4 rfl)<|qv rfl (vv_load1 (v := .int .i64 p0.Delay) one_3 rfl B31 rfl)<|qv rfl (vv_add (k := .i64) (a := w64 ((w64 ((w64 ((w64 (p4 + 1)) * p0.Epoch)) - 1)) + (w64 (2 * p0.Drift)))) (b := p0.Delay) rfl rfl)<|qv rfl (vv_gtr (a := w64 (p1 + p2)) (b := w64 ((w64 ((w64 ((w64 ((w64 (p4 + 1)) * p0.Epoch)) - 1)) + (w64 (2 * p0.Drift)))) + p0.Delay)) rfl rfl)<|qm rfl<|sd_done<|sw_seq ?_
 refine qg 16 rfl<|qm rfl<|qm rfl<|qv rfl (vv_add (k := .i64) (a := p1) (b := p2) rfl rfl)<|qm rfl<|qv rfl (vv_fieldAddr fa_65_0 rfl)<|qv rfl (vv_load1 (v := .int .i64 p0.Epoch) one_3 rfl B31 rfl) ?_
 refine qv rfl (vv_mul (k := .i64) (a := p4) (b := p0.Epoch) rfl rfl)<|qv rfl (vv_fieldAddr fa_65_2 rfl)<|qv rfl (vv_load1 (v := .int .i64 p0.Early) one_3 rfl B31 rfl)<|qv rfl (vv_sub (k := .i64) (a := w64 (p4 * p0.Epoch)) (b := p0.Early) rfl rfl)<|qv rfl (vv_fieldAddr fa_65_3 rfl)<|qv rfl (vv_load1 (v := .int .i64 p0.Drift) one_3 rfl B31 rfl)<|qv rfl (vv_mul (k := .i64) (a := 2) (b := p0.Drift) rfl rfl) ?_
 refine qv rfl (vv_sub (k := .i64) (a := w64 ((w64 (p4 * p0.Epoch)) - p0.Early)) (b := w64 (2 * p0.Drift)) rfl rfl)<|qv rfl (vv_lss (a := w64 (p1 + p2)) (b := w64 ((w64 ((w64 (p4 * p0.Epoch)) - p0.Early)) - (w64 (2 * p0.Drift)))) rfl rfl)<|qm rfl<|qd 16 rfl<|qm rfl ?_
 refine qpF rfl (vv_move rfl) (fun c7 => ?_) (fun c7 => ?_)
 · replace hm := cnd_f c7 hm
   refine qk rfl<|qk rfl<|qm rfl<|qm rfl<|qk rfl<|qk rfl<|qk rfl ?_
   refine qk rfl<|qk rfl<|qk rfl<|qk rfl<|qk rfl<|qm rfl<|qm rfl ?_
   refine sd_done<|sw_ret ?_
   have X36 := ((X26.kz K10).trans G11)
   cases hm
   refine ⟨_, _, rfl, res_1 rfl (rv_tmp rfl), ?_⟩
   exact ⟨rfl, X36⟩
 replace hm := cnd_t c7 hm
 refine qm rfl<|qv rfl (vv_eql (a := x11.2) (b := 0) rfl rfl)<|qm rfl<|qpF rfl (vv_move rfl) (fun c8 => ?_) (fun c8 => ?_)
 · replace hm := iF c8 hm
   refine qk rfl<|qk rfl<|qk rfl<|qk rfl<|qk rfl<|qk rfl<|qk rfl ?_
   refine qk rfl<|qm rfl<|qm rfl<|sd_done<|sw_ret ?_
   have X35 := ((X26.kz K10).trans G11)
   cases hm
   refine ⟨_, _, rfl, res_1 rfl (rv_tmp rfl), ?_⟩
   exact ⟨rfl, X35⟩
 replace hm := iT c8 hm
 refine qm rfl<|qpF rfl (vv_move rfl) (fun c9 => ?_) (fun c9 => ?_)
 · replace hm := cnd_f c9 hm
   refine qk rfl<|qk rfl<|qk rfl<|qk rfl<|qm rfl<|qv rfl (vv_not rfl)<|qm rfl ?_
   refine qm rfl<|sd_done<|sw_ret ?_
   have X34 := ((X26.kz K10).trans G11)
   cases hm
   refine ⟨_, _, rfl, res_1 rfl (rv_tmp rfl), ?_⟩
   exact ⟨rfl, X34⟩
 replace hm := cnd_t c9 hm
 refine qm rfl<|qp rfl (vv_move rfl) (fun c10 => ?_) (fun c10 => ?_)
 · replace hm := iT c10 hm
   refine qk rfl<|qm rfl<|qm rfl<|qv rfl (vv_not rfl)<|qm rfl<|qm rfl<|sd_done ?_
   refine sw_ret ?_
   have X32 := ((X26.kz K10).trans G11)
   cases hm
   refine ⟨_, _, rfl, res_1 rfl (rv_tmp rfl), ?_⟩
   exact ⟨rfl, X32⟩
 replace hm := iF c10 hm
 refine qm rfl<|qm rfl<|qm rfl<|qv rfl (vv_notD rfl)<|qm rfl<|qm rfl<|sd_done ?_
 refine sw_ret ?_
 have X33 := ((X26.kz K10).trans G11)
 cases hm
 refine ⟨_, _, rfl, res_1 rfl (rv_tmp rfl), ?_⟩
 exact ⟨rfl, X33⟩
end Go.Proofs.YtjdffpglgkefmaaGreat.Mx
