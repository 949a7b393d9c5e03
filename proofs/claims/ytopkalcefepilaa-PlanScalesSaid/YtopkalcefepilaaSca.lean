/- Walks that follow mirrors: Sca. Printed by mx.py. -/
import Derived.Test.YtopkalcefepilaaGf
import Derived.Test.YtopkalcefepilaaZc
set_option linter.unusedVariables false
set_option linter.unusedSimpArgs false
set_option maxRecDepth 100000
set_option maxHeartbeats 2000000
namespace Go.Proofs.Ytopkalcefepilaa.Mx
open Go Go.RowKit Go.Sx
theorem en_33 : En Try.prog 33 := fun _ _ => by kernel_rfl
theorem law10_PlanScales_w {p0 p1 p2 r} (hm : law10_PlanScales p0 p1 p2 = some r) {w : World} :
    Calls Try.prog 7 [.agg (TNeed.cs p0).toArray, .int .i64 p1, .int .i64 p2].toArray w fun e w' => ∃ v, e = .returned v ∧ (v = .bool r ∧ Gr w w') := by
 unfold law10_PlanScales at hm
 refine calls_of_sw 194 Try.func7 rfl rfl rfl<|qs 2 rfl<|qe rfl (ev_box (cs := TNeed.cs p0) rfl rfl) ?_
 rintro _ w1 ⟨b1, rfl, hbw1, Bw1, G1⟩
 have z1 := G1.size
 have lt2 := Bw1.lt
 refine qm rfl<|qd 2 rfl ?_
 obtain ⟨x1, hx1, hm⟩ := bnd hm
 refine qe rfl (eC en_33 rfl (law10_alive_w hx1)) ?_
 rintro _ w2 ⟨rfl, G2⟩
 have z3 := G2.size
 refine qm rfl<|sd_done<|sw_seq ?_
 have X4 := (((Gr.refl w).trans G1).trans G2)
 refine qj (β := Bool) (rg 17 14) (fun a2 => [(30, .bool a2)]) (fun a2 wr => (law10_PlanScales_J1 p0 p1 p2 x1 a2 = some r) ∧ Kz [] w2 wr) ?_ ?_
 · refine qg 14 rfl<|qm rfl<|qv rfl (vv_lss (a := p1) (b := 1) rfl rfl)<|qp rfl (vv_move rfl) (fun c21 => ?_) (fun c21 => ?_)
   · replace hm := iT c21 hm
     refine qk rfl<|qk rfl<|qm rfl<|qm rfl<|qk rfl<|qk rfl<|qm rfl ?_
     refine qm rfl<|qk rfl<|qk rfl<|qm rfl<|sd_nil ?_
     exact ⟨rfl, true, sbq, hm, kz0⟩
   replace hm := iF c21 hm
   refine qm rfl<|qv rfl (vv_gtr (a := p1) (b := 1000) rfl rfl)<|qm rfl<|qp rfl (vv_move rfl) (fun c22 => ?_) (fun c22 => ?_)
   · replace hm := iT c22 hm
     refine qk rfl<|qk rfl<|qm rfl<|qm rfl<|qk rfl<|qk rfl<|qm rfl ?_
     refine sd_nil ?_
     exact ⟨rfl, true, sbq, hm, kz0⟩
   replace hm := iF c22 hm
   refine qm rfl<|qv rfl (vv_lss (a := p2) (b := 0) rfl rfl)<|qm rfl<|qp rfl (vv_move rfl) (fun c23 => ?_) (fun c23 => ?_)
   · replace hm := iT c23 hm
     refine qk rfl<|qk rfl<|qm rfl<|sd_nil ?_
     exact ⟨rfl, true, sbq, hm, kz0⟩
   replace hm := iF c23 hm
   refine qm rfl<|qv rfl (vv_gtr (a := p2) (b := 10000) rfl rfl)<|qm rfl<|sd_nil ?_
   exact ⟨rfl, (decide ((10000 : Int) < p2)), sbq, hm, kz0⟩
 clear hm; rintro a2 w3 ⟨hm, K3⟩
 have z5 := K3.size
 unfold law10_PlanScales_J1 at hm
 refine sw_cond rfl (fun c1 => ?_) (fun c1 => ?_)
 · replace hm := cnd_t c1 hm
   refine qs 2 rfl<|qm rfl<|qm rfl<|sd_done<|sw_ret<|then_r ?_
   have X6 := (X4.kz K3)
   cases hm
   refine ⟨_, _, rfl, res_1 rfl (rv_tmp rfl), ?_⟩
   exact ⟨rfl, X6⟩
 replace hm := cnd_f c1 hm
 refine qu<|qs 8 rfl ?_
 have B7 := ((Bw1.gr G2).kz K3)
 refine qv rfl (vv_loadW agg_50 rfl B7 rfl) ?_
 obtain ⟨x3, hx3, hm⟩ := bnd hm
 refine qe rfl (eC en_27 rfl (plan_Make_w hx3)) ?_
 rintro _ w4 ⟨u4_r0_0, z4_r0_0, g4_r0_0, F4_r0_0, rfl, O4_r0_0, f4_r0_0, p4_r0_0, G4⟩
 have z8 := G4.size
 have fl9 := O4_r0_0.flt
 have lt10 := O4_r0_0.lth
 refine qm rfl<|qm rfl<|qm rfl<|qe rfl (ev_alloc (cs := TPlan.cs (TPlan.mk [] 0#8) (.slice none 0 0)) zv_59 rfl) ?_
 rintro _ w5 ⟨b5, rfl, hbw5, Bw5, G5⟩
 have z11 := G5.size
 have lt12 := Bw5.lt
 have B13 := (O4_r0_0.gr G5)
 refine qe rfl (ev_stW agg_59 rfl rfl (TPlan.cs_ones _ _ (OwnD.oneB B13)) Bw5 rfl rfl) ?_
 rintro _ w6 ⟨Bw6, M6⟩
 have z14 := M6.size
 refine qm rfl<|qd 3 rfl ?_
 have B15 := (((B7.gr G4).gr G5).md M6)
 refine qv rfl (vv_loadW agg_50 rfl B15 rfl)<|qe rfl (ev_alloc (cs := TNeed.cs (TNeed.mk 0 0 0 0 0 0 (TGroup.mk 0#64 0#64 0#64))) zv_50 rfl) ?_
 rintro _ w7 ⟨b7, rfl, hbw7, Bw7, G7⟩
 have z16 := G7.size
 have lt17 := Bw7.lt
 refine qe rfl (ev_stW agg_50 rfl rfl rfl Bw7 rfl rfl) ?_
 rintro _ w8 ⟨Bw8, M8⟩
 have z18 := M8.size
 refine qd 12 rfl<|qv rfl (vv_fieldAddr fa_50_4 rfl)<|qv rfl (vv_load1 (v := .int .i64 p0.HeaderPrice) one_3 rfl Bw8 rfl)<|qm rfl<|qv rfl (vv_mul (k := .i64) (a := p0.HeaderPrice) (b := p1) rfl rfl) ?_
 refine qv rfl (vv_fieldAddr fa_50_5 rfl)<|qv rfl (vv_load1 (v := .int .i64 p0.StoragePrice) one_3 rfl Bw8 rfl)<|qm rfl<|qv rfl (vv_mul (k := .i64) (a := p0.StoragePrice) (b := p1) rfl rfl)<|qv rfl (vv_fieldAddr fa_50_4 rfl)<|qe rfl (ev_st1 (cs' := TNeed.cs (TNeed.mk p0.Depth p0.Revoked p0.Storage p0.Headers (w64 (p0.HeaderPrice * p1)) p0.StoragePrice p0.Group)) (one_3).siz rfl rfl rfl Bw8 rfl rfl) ?_
 rintro _ w9 ⟨Bw9, M9⟩
 have z19 := M9.size
 refine qv rfl (vv_fieldAddr fa_50_5 rfl)<|qe rfl (ev_st1 (cs' := TNeed.cs (TNeed.mk p0.Depth p0.Revoked p0.Storage p0.Headers (w64 (p0.HeaderPrice * p1)) (w64 (p0.StoragePrice * p1)) p0.Group)) (one_3).siz rfl rfl rfl Bw9 rfl rfl) ?_
 rintro _ w10 ⟨Bw10, M10⟩
 have z20 := M10.size
 refine sd_done<|sw_seq ?_
 have X21 := ((((((((X4.kz K3).trans G4).trans G5).md M6).trans G7).md M8).md M9).md M10)
 refine qj (β := Bool) (rg 48 22) (fun a4 => [(69, .bool a4)]) (fun a4 wr => (law10_PlanScales_J2 p0 p1 p2 x1 x3 a4 = some r) ∧ Kz [] w10 wr) ?_ ?_
 · refine qg 22 rfl<|qm rfl<|qv rfl (vv_neq (a := x3.2) (b := 0) rfl rfl)<|qp rfl (vv_move rfl) (fun c17 => ?_) (fun c17 => ?_)
   · replace hm := iT c17 hm
     refine qk rfl<|qk rfl<|qk rfl<|qm rfl<|qm rfl<|qk rfl<|qk rfl ?_
     refine qk rfl<|qm rfl<|qm rfl<|qk rfl<|qk rfl<|qk rfl<|qm rfl ?_
     refine qm rfl<|qk rfl<|qk rfl<|qk rfl<|qm rfl<|sd_nil ?_
     exact ⟨rfl, true, sbq, hm, kz0⟩
   replace hm := iF c17 hm
   refine qv rfl (vv_fieldAddr fa_50_4 rfl) ?_
   have B86 := ((((B15.gr G7).md M8).md M9).md M10)
   refine qv rfl (vv_load1 (v := .int .i64 p0.HeaderPrice) one_3 rfl B86 rfl)<|qv rfl (vv_lss (a := p0.HeaderPrice) (b := 0) rfl rfl)<|qm rfl<|qp rfl (vv_move rfl) (fun c18 => ?_) (fun c18 => ?_)
   · replace hm := iT c18 hm
     refine qk rfl<|qk rfl<|qk rfl<|qm rfl<|qm rfl<|qk rfl<|qk rfl ?_
     refine qk rfl<|qm rfl<|qm rfl<|qk rfl<|qk rfl<|qk rfl<|qm rfl ?_
     refine sd_nil ?_
     exact ⟨rfl, true, sbq, hm, kz0⟩
   replace hm := iF c18 hm
   refine qv rfl (vv_fieldAddr fa_50_5 rfl)<|qv rfl (vv_load1 (v := .int .i64 p0.StoragePrice) one_3 rfl B86 rfl)<|qv rfl (vv_lss (a := p0.StoragePrice) (b := 0) rfl rfl)<|qm rfl<|qp rfl (vv_move rfl) (fun c19 => ?_) (fun c19 => ?_)
   · replace hm := iT c19 hm
     refine qk rfl<|qk rfl<|qk rfl<|qm rfl<|qm rfl<|qk rfl<|qk rfl ?_
     refine qk rfl<|qm rfl<|sd_nil ?_
     exact ⟨rfl, true, sbq, hm, kz0⟩
   replace hm := iF c19 hm
   refine qv rfl (vv_fieldAddr fa_50_4 rfl)<|qv rfl (vv_load1 (v := .int .i64 (w64 (p0.HeaderPrice * p1))) one_3 rfl Bw10 rfl)<|qv rfl (vv_gtr (a := w64 (p0.HeaderPrice * p1)) (b := 1000) rfl rfl)<|qm rfl<|qp rfl (vv_move rfl) (fun c20 => ?_) (fun c20 => ?_)
   · replace hm := iT c20 hm
     refine qk rfl<|qk rfl<|qk rfl<|qm rfl<|sd_nil ?_
     exact ⟨rfl, true, sbq, hm, kz0⟩
   replace hm := iF c20 hm
   refine qv rfl (vv_fieldAddr fa_50_5 rfl)<|qv rfl (vv_load1 (v := .int .i64 (w64 (p0.StoragePrice * p1))) one_3 rfl Bw10 rfl)<|qv rfl (vv_gtr (a := w64 (p0.StoragePrice * p1)) (b := 1000) rfl rfl)<|qm rfl<|sd_nil ?_
   exact ⟨rfl, (decide ((1000 : Int) < w64 (p0.StoragePrice * p1))), sbq, hm, kz0⟩
 clear hm; rintro a4 w11 ⟨hm, K11⟩
 have z22 := K11.size
 unfold law10_PlanScales_J2 at hm
 refine sw_cond rfl (fun c2 => ?_) (fun c2 => ?_)
 · replace hm := cnd_t c2 hm
   refine qs 2 rfl<|qm rfl<|qm rfl<|sd_done<|sw_ret<|then_r ?_
   have X23 := (X21.kz K11)
   cases hm
   refine ⟨_, _, rfl, res_1 rfl (rv_tmp rfl), ?_⟩
   exact ⟨rfl, X23⟩
 replace hm := cnd_f c2 hm
 refine qu<|qs 8 rfl ?_
 have B24 := (Bw10.kz K11)
 refine qv rfl (vv_loadW agg_50 rfl B24 rfl) ?_
 obtain ⟨x5, hx5, hm⟩ := bnd hm
 refine qe rfl (eC en_27 rfl (plan_Make_w hx5)) ?_
 rintro _ w12 ⟨u12_r0_0, z12_r0_0, g12_r0_0, F12_r0_0, rfl, O12_r0_0, f12_r0_0, p12_r0_0, G12⟩
 have z25 := G12.size
 have fl26 := O12_r0_0.flt
 have lt27 := O12_r0_0.lth
 refine qm rfl<|qm rfl<|qm rfl<|qe rfl (ev_alloc (cs := TPlan.cs (TPlan.mk [] 0#8) (.slice none 0 0)) zv_59 rfl) ?_
 rintro _ w13 ⟨b13, rfl, hbw13, Bw13, G13⟩
 have z28 := G13.size
 have lt29 := Bw13.lt
 have B30 := (O12_r0_0.gr G13)
 refine qe rfl (ev_stW agg_59 rfl rfl (TPlan.cs_ones _ _ (OwnD.oneB B30)) Bw13 rfl rfl) ?_
 rintro _ w14 ⟨Bw14, M14⟩
 have z31 := M14.size
 refine qm rfl<|sd_done<|sw_seq ?_
 have Y1 := Gr.trans G12 G13
 have X32 := (((X21.kz K11).trans Y1).md M14)
 refine qj (β := Bool) (rg 76 26) (fun a6 => [(101, .bool a6)]) (fun a6 wr => (law10_PlanScales_J3 p0 p1 p2 x1 x3 x5 a6 = some r) ∧ Kz [] w14 wr) ?_ ?_
 · refine qg 26 rfl<|qm rfl<|qv rfl (vv_neq (a := x5.2) (b := 0) rfl rfl)<|qp rfl (vv_move rfl) (fun c13 => ?_) (fun c13 => ?_)
   · replace hm := iT c13 hm
     refine qk rfl<|qk rfl<|qk rfl<|qk rfl<|qm rfl<|qm rfl<|qk rfl ?_
     refine qk rfl<|qk rfl<|qk rfl<|qm rfl<|qm rfl<|qk rfl<|qk rfl ?_
     refine qk rfl<|qk rfl<|qk rfl<|qm rfl<|qm rfl<|qk rfl<|qk rfl ?_
     refine qk rfl<|qm rfl<|sd_nil ?_
     exact ⟨rfl, true, sbq, hm, kz0⟩
   replace hm := iF c13 hm
   refine qv rfl (vv_fieldAddr fa_59_0 rfl) ?_
   have B78 := (((((((Bw6.gr G7).md M8).md M9).md M10).kz K11).gr Y1).md M14)
   refine qv rfl (vv_load1 (v := u4_r0_0) one_57 rfl B78 rfl) ?_
   have B79 := ((((((((B13.md M6 (tk1 (pb_lt (b := b5) lt10)) (fun x hx => .inr (by have := fl9 x hx; omega))).gr G7).md M8 (tk1 (pb_lt (b := b7) lt10)) (fun x hx => .inr (by have := fl9 x hx; omega))).md M9 (tk1 (pb_lt (b := b7) lt10)) (fun x hx => .inr (by have := fl9 x hx; omega))).md M10 (tk1 (pb_lt (b := b7) lt10)) (fun x hx => .inr (by have := fl9 x hx; omega))).kz K11 tk0 (fun x hx => tk0)).gr Y1).md M14 (tk1 (pb_lt (b := b13) lt10)) (fun x hx => .inr (by have := fl9 x hx; omega)))
   refine qv rfl (vv_lenD (l := x3.1.Choices) Try.underlying57 rfl (OwnD.rd B79))<|qv rfl (vv_neq (a := (x3.1.Choices.length : Int)) (b := 4) rfl rfl)<|qm rfl<|qp rfl (vv_move rfl) (fun c14 => ?_) (fun c14 => ?_)
   · replace hm := iT c14 hm
     refine qk rfl<|qk rfl<|qk rfl<|qk rfl<|qm rfl<|qm rfl<|qk rfl ?_
     refine qk rfl<|qk rfl<|qk rfl<|qk rfl<|qm rfl<|qm rfl<|qk rfl ?_
     refine qk rfl<|qk rfl<|qm rfl<|sd_nil ?_
     exact ⟨rfl, true, sbq, hm, kz0⟩
   replace hm := iF c14 hm
   refine qv rfl (vv_fieldAddr fa_59_0 rfl)<|qv rfl (vv_load1 (v := u12_r0_0) one_57 rfl Bw14 rfl) ?_
   have B81 := (B30.md M14 (tk1 (pb_lt (b := b13) lt27)) (fun x hx => .inr (by have := fl26 x hx; omega)))
   refine qv rfl (vv_lenD (l := x5.1.Choices) Try.underlying57 rfl (OwnD.rd B81))<|qv rfl (vv_neq (a := (x5.1.Choices.length : Int)) (b := 4) rfl rfl)<|qm rfl<|qp rfl (vv_move rfl) (fun c15 => ?_) (fun c15 => ?_)
   · replace hm := iT c15 hm
     refine qk rfl<|qk rfl<|qk rfl<|qk rfl<|qk rfl<|qm rfl<|qm rfl ?_
     refine qk rfl<|qk rfl<|qk rfl<|qm rfl<|sd_nil ?_
     exact ⟨rfl, true, sbq, hm, kz0⟩
   replace hm := iF c15 hm
   refine qv rfl (vv_fieldAddr fa_59_1 rfl)<|qv rfl (vv_load1 (v := bv x5.1.Best) one_5 rfl Bw14 rfl)<|qv rfl (vv_fieldAddr fa_59_1 rfl)<|qv rfl (vv_load1 (v := bv x3.1.Best) one_5 rfl B78 rfl)<|qv rfl (vv_neqB (p := x5.1.Best) (q := x3.1.Best) rfl rfl)<|qm rfl<|qp rfl (vv_move rfl) (fun c16 => ?_) (fun c16 => ?_)
   · replace hm := iT c16 hm
     refine qk rfl<|qk rfl<|qk rfl<|qm rfl<|sd_nil ?_
     exact ⟨rfl, true, sbq, hm, kz0⟩
   replace hm := iF c16 hm
   refine qv rfl (vv_fieldAddr fa_59_1 rfl)<|qv rfl (vv_load1 (v := bv x3.1.Best) one_5 rfl B78 rfl)<|qv rfl (vv_gtrB (p := x3.1.Best) (q := 4#8) rfl rfl)<|qm rfl<|sd_nil ?_
   exact ⟨rfl, (decide (4#8 < x3.1.Best)), sbq, hm, kz0⟩
 clear hm; rintro a6 w15 ⟨hm, K15⟩
 have z33 := K15.size
 unfold law10_PlanScales_J3 at hm
 refine sw_cond rfl (fun c3 => ?_) (fun c3 => ?_)
 · replace hm := cnd_t c3 hm
   refine qs 1 rfl<|qm rfl<|qb ?_
   have X34 := (X32.kz K15)
   cases hm
   refine ⟨_, _, rfl, res_1 rfl (rv_tmp rfl), ?_⟩
   exact ⟨rfl, X34⟩
 replace hm := cnd_f c3 hm
 refine qu<|sw_seq<|qs 4 rfl<|qv rfl (vv_fieldAddr fa_59_0 rfl) ?_
 have B35 := ((((((((Bw6.gr G7).md M8).md M9).md M10).kz K11).gr Y1).md M14).kz K15)
 refine qv rfl (vv_load1 (v := u4_r0_0) one_57 rfl B35 rfl) ?_
 have B36 := (((((((((B13.md M6 (tk1 (pb_lt (b := b5) lt10)) (fun x hx => .inr (by have := fl9 x hx; omega))).gr G7).md M8 (tk1 (pb_lt (b := b7) lt10)) (fun x hx => .inr (by have := fl9 x hx; omega))).md M9 (tk1 (pb_lt (b := b7) lt10)) (fun x hx => .inr (by have := fl9 x hx; omega))).md M10 (tk1 (pb_lt (b := b7) lt10)) (fun x hx => .inr (by have := fl9 x hx; omega))).kz K11 tk0 (fun x hx => tk0)).gr Y1).md M14 (tk1 (pb_lt (b := b13) lt10)) (fun x hx => .inr (by have := fl9 x hx; omega))).kz K15 tk0 (fun x hx => tk0))
 refine qv rfl (vv_lenD (l := x3.1.Choices) Try.underlying57 rfl (OwnD.rd B36))<|qm rfl<|sd_done<|sw_block ?_
 have X37 := (X32.kz K15)
 have B38 := ((B30.md M14 (tk1 (pb_lt (b := b13) lt27)) (fun x hx => .inr (by have := fl26 x hx; omega))).kz K15 tk0 (fun x hx => tk0))
 refine sw_loopD (α := Nat × Int) ([6, 13] ++ rg 105 34) (fun ⟨n4, a8⟩ => [(6, .bool false), (105, .int .i64 a8)]) (fun ⟨n4, a8⟩ wr => (fixN (law10_PlanScales_L4 p0 p1 p2 x1 x3 x5) n4 a8 = some r) ∧ Kz [] w15 wr) (fun ⟨n4, a8⟩ => n4) ⟨FUEL, 0⟩ ?_ ?_ ?_
 · exact sbq
 · exact ⟨hm, Kz.refl _ _⟩
 clear hm; rintro ⟨n4, a8⟩ w16 ⟨hm, K16⟩
 have z39 := K16.size
 have hb := fix_succ hm; clear hm; obtain ⟨n4, rfl, hm⟩ := hb
 generalize hrec4 : fixN (law10_PlanScales_L4 p0 p1 p2 x1 x3 x5) n4 = rec4 at hm
 unfold law10_PlanScales_L4 at hm
 try dsimp only at hm
 refine qs 1 rfl<|qv rfl (vv_lss (a := a8) (b := (x3.1.Choices.length : Int)) rfl rfl)<|sd_done<|sw_seq<|sw_cond rfl (fun c4 => ?_) (fun c4 => ?_)
 · replace hm := iT c4 hm
   refine qu<|sw_seq<|sw_block<|qs 2 rfl<|qm rfl ?_
   refine qm rfl<|sd_done ?_
   have X40 := (X37.kz K16)
   refine qj (β := Bool) (rg 108 30) (fun a9 => [(137, .bool a9)]) (fun a9 wr => (law10_PlanScales_J5 a8 rec4 a9 = some r) ∧ Kz [] w16 wr) ?_ ?_
   · refine dw [([])] [] (.leaf [(0,10),(1,10),(2,10),(3,10),(4,10),(5,10),(6,10),(7,10),(8,10),(9,10),(10,10),(11,10),(12,10),(13,10),(14,10),(15,10),(16,10),(17,10),(18,10),(19,10),(20,10),(21,10),(22,10),(23,10),(24,10),(25,10),(26,10),(27,10),(28,10),(29,10)]) ?_
     intro w18 G18 zw18
     refine sdz_leaf<|dh 0 rfl rfl (fun w hS => vv_fieldAddr fa_59_0 rfl) ?_
     have B44 := (((Bw14.kz K15).kz K16).gr G18)
     refine dh 0 rfl rfl (fun w hS => vv_load1 (v := u12_r0_0) one_57 rfl (Bx.kp B44 hS) rfl)<|dm 0 rfl rfl ?_
     obtain ⟨y10, hy10, hm⟩ := bnd hm
     have B45 := ((B38.kz K16 tk0 (fun x hx => tk0)).gr G18)
     refine dh 0 rfl rfl (fun w hS => vv_ixD (i := a8) Try.underlying57 (agg_52).siz rfl (OwnD.rd (OwnD.kp B45 hS (.inr List.not_mem_nil) (fun _ _ => List.not_mem_nil))) rfl hy10)<|dh 0 rfl rfl (fun w hS => vv_fieldAddr fa_52_6 rfl)<|dh 0 rfl rfl (fun w hS => vv_elD1 (q := 6) (u := .int .i64 y10.Cost) one_3 rfl (OwnD.rd (OwnD.kp B45 hS (.inr List.not_mem_nil) (fun _ _ => List.not_mem_nil))) hy10 (by first | rfl | omega) (fun _ => rfl))<|dm 0 rfl rfl<|dh 0 rfl rfl (fun w hS => vv_fieldAddr fa_59_0 rfl) ?_
     have B46 := ((B35.kz K16).gr G18)
     refine dh 0 rfl rfl (fun w hS => vv_load1 (v := u4_r0_0) one_57 rfl (Bx.kp B46 hS) rfl)<|dm 0 rfl rfl ?_
     obtain ⟨y11, hy11, hm⟩ := bnd hm
     have B47 := ((B36.kz K16 tk0 (fun x hx => tk0)).gr G18)
     refine dh 0 rfl rfl (fun w hS => vv_ixD (i := a8) Try.underlying57 (agg_52).siz rfl (OwnD.rd (OwnD.kp B47 hS (.inr List.not_mem_nil) (fun _ _ => List.not_mem_nil))) rfl hy11)<|dh 0 rfl rfl (fun w hS => vv_fieldAddr fa_52_6 rfl)<|dh 0 rfl rfl (fun w hS => vv_elD1 (q := 6) (u := .int .i64 y11.Cost) one_3 rfl (OwnD.rd (OwnD.kp B47 hS (.inr List.not_mem_nil) (fun _ _ => List.not_mem_nil))) hy11 (by first | rfl | omega) (fun _ => rfl))<|dh 0 rfl rfl (fun w hS => vv_mul (k := .i64) (a := p1) (b := y11.Cost) rfl rfl)<|dh 0 rfl rfl (fun w hS => vv_neq (a := y10.Cost) (b := w64 (p1 * y11.Cost)) rfl rfl)<|qq 0 rfl rfl (Kp.refl ([]) w18) (fun w hS => vv_move rfl) (fun c6 => ?_) (fun c6 => ?_)
     · replace hm := iT c6 hm
       refine dx 0 rfl rfl<|dx 0 rfl rfl<|dx 0 rfl rfl<|dx 0 rfl rfl<|dx 0 rfl rfl<|dx 0 rfl rfl<|dx 0 rfl rfl ?_
       refine dx 0 rfl rfl<|dx 0 rfl rfl<|dx 0 rfl rfl<|dx 0 rfl rfl<|dx 0 rfl rfl<|dx 0 rfl rfl<|dm 0 rfl rfl ?_
       refine sd_nil ?_
       exact ⟨rfl, true, sbq, hm, (kz0.gr G18)⟩
     replace hm := iF c6 hm
     refine dh 0 rfl rfl (fun w hS => vv_fieldAddr fa_59_0 rfl)<|dh 0 rfl rfl (fun w hS => vv_load1 (v := u12_r0_0) one_57 rfl (Bx.kp B44 hS) rfl)<|dm 0 rfl rfl ?_
     obtain ⟨y12, hy12, hm⟩ := bnd hm
     refine dh 0 rfl rfl (fun w hS => vv_ixD (i := a8) Try.underlying57 (agg_52).siz rfl (OwnD.rd (OwnD.kp B45 hS (.inr List.not_mem_nil) (fun _ _ => List.not_mem_nil))) rfl hy12)<|dh 0 rfl rfl (fun w hS => vv_fieldAddr fa_52_4 rfl)<|dh 0 rfl rfl (fun w hS => vv_elD1 (q := 4) (u := .int .i64 y12.Header) one_3 rfl (OwnD.rd (OwnD.kp B45 hS (.inr List.not_mem_nil) (fun _ _ => List.not_mem_nil))) hy12 (by first | rfl | omega) (fun _ => rfl))<|dh 0 rfl rfl (fun w hS => vv_fieldAddr fa_59_0 rfl)<|dh 0 rfl rfl (fun w hS => vv_load1 (v := u4_r0_0) one_57 rfl (Bx.kp B46 hS) rfl)<|dm 0 rfl rfl ?_
     obtain ⟨y13, hy13, hm⟩ := bnd hm
     refine dh 0 rfl rfl (fun w hS => vv_ixD (i := a8) Try.underlying57 (agg_52).siz rfl (OwnD.rd (OwnD.kp B47 hS (.inr List.not_mem_nil) (fun _ _ => List.not_mem_nil))) rfl hy13)<|dh 0 rfl rfl (fun w hS => vv_fieldAddr fa_52_4 rfl)<|dh 0 rfl rfl (fun w hS => vv_elD1 (q := 4) (u := .int .i64 y13.Header) one_3 rfl (OwnD.rd (OwnD.kp B47 hS (.inr List.not_mem_nil) (fun _ _ => List.not_mem_nil))) hy13 (by first | rfl | omega) (fun _ => rfl))<|dh 0 rfl rfl (fun w hS => vv_neq (a := y12.Header) (b := y13.Header) rfl rfl)<|dm 0 rfl rfl<|sd_nil ?_
     exact ⟨rfl, (decide (y12.Header ≠ y13.Header)), sbq, hm, (kz0.gr G18)⟩
   clear hm; rintro a9 w17 ⟨hm, K17⟩
   have z41 := K17.size
   unfold law10_PlanScales_J5 at hm
   refine sw_cond rfl (fun c5 => ?_) (fun c5 => ?_)
   · replace hm := cnd_t c5 hm
     refine qs 1 rfl<|qm rfl<|sd_done<|sw_ret<|block_r<|then_r ?_
     refine then_r<|block_r<|then_r ?_
     have X42 := (X40.kz K17)
     cases hm
     refine ⟨_, _, rfl, res_1 rfl (rv_tmp rfl), ?_⟩
     exact ⟨rfl, X42⟩
   replace hm := cnd_f c5 hm
   refine sw_skip<|block_n<|then_n<|qg 2 rfl<|qv rfl (vv_add (k := .i64) (a := a8) (b := 1) rfl rfl)<|qm rfl<|sd_nil ?_
   have K_43 : Kz [] w15 w17 := (K16.kz K17)
   subst hrec4
   exact ⟨rfl, ⟨n4, w64 (a8 + 1)⟩, sbq, ⟨hm, K_43⟩, Nat.lt_succ_self _⟩
 replace hm := iF c4 hm
 refine sw_exit<|then_x<|then_x<|block_x<|then_n<|qs 2 rfl ?_
 have B50 := (((((((((B15.gr G7).md M8).md M9).md M10).kz K11).gr Y1).md M14).kz K15).kz K16)
 refine qv rfl (vv_loadW agg_50 rfl B50 rfl) ?_
 have B51 := ((((B24.gr Y1).md M14).kz K15).kz K16)
 refine qe rfl (ev_stW agg_50 rfl rfl rfl B51 rfl rfl) ?_
 rintro _ w19 ⟨Bw19, M19⟩
 have z52 := M19.size
 refine qd 7 rfl<|qv rfl (vv_fieldAddr fa_50_2 rfl) ?_
 have B53 := (B50.md M19)
 refine qv rfl (vv_load1 (v := .int .i64 p0.Storage) one_3 rfl B53 rfl)<|qm rfl<|qv rfl (vv_add (k := .i64) (a := p0.Storage) (b := p2) rfl rfl)<|qv rfl (vv_minK rfl rfl)<|qv rfl (vv_fieldAddr fa_50_2 rfl)<|qe rfl (ev_st1 (cs' := TNeed.cs (TNeed.mk p0.Depth p0.Revoked (mnI (w64 (p0.Storage + p2)) 10000) p0.Headers p0.HeaderPrice p0.StoragePrice p0.Group)) (one_3).siz rfl rfl rfl Bw19 rfl rfl) ?_
 rintro _ w20 ⟨Bw20, M20⟩
 have z54 := M20.size
 refine qd 8 rfl<|qv rfl (vv_loadW agg_50 rfl Bw20 rfl) ?_
 obtain ⟨x14, hx14, hm⟩ := bnd hm
 refine qe rfl (eC en_27 rfl (plan_Make_w hx14)) ?_
 rintro _ w21 ⟨u21_r0_0, z21_r0_0, g21_r0_0, F21_r0_0, rfl, O21_r0_0, f21_r0_0, p21_r0_0, G21⟩
 have z55 := G21.size
 have fl56 := O21_r0_0.flt
 have lt57 := O21_r0_0.lth
 refine qm rfl<|qm rfl<|qm rfl<|qe rfl (ev_alloc (cs := TPlan.cs (TPlan.mk [] 0#8) (.slice none 0 0)) zv_59 rfl) ?_
 rintro _ w22 ⟨b22, rfl, hbw22, Bw22, G22⟩
 have z58 := G22.size
 have lt59 := Bw22.lt
 have B60 := (O21_r0_0.gr G22)
 refine qe rfl (ev_stW agg_59 rfl rfl (TPlan.cs_ones _ _ (OwnD.oneB B60)) Bw22 rfl rfl) ?_
 rintro _ w23 ⟨Bw23, M23⟩
 have z61 := M23.size
 refine qm rfl<|sd_done<|sw_seq ?_
 have X62 := ((((((X37.kz K16).md M19).md M20).trans G21).trans G22).md M23)
 refine qj (β := Bool) (rg 151 13) (fun a15 => [(163, .bool a15)]) (fun a15 wr => (law10_PlanScales_J6 x1 x3 x14 a15 = some r) ∧ Kz [] w23 wr) ?_ ?_
 · refine qg 13 rfl<|qm rfl<|qv rfl (vv_neq (a := x14.2) (b := 0) rfl rfl)<|qp rfl (vv_move rfl) (fun c11 => ?_) (fun c11 => ?_)
   · replace hm := iT c11 hm
     refine qk rfl<|qk rfl<|qk rfl<|qk rfl<|qm rfl<|qm rfl<|qk rfl ?_
     refine qk rfl<|qk rfl<|qm rfl<|sd_nil ?_
     exact ⟨rfl, true, sbq, hm, kz0⟩
   replace hm := iF c11 hm
   refine qv rfl (vv_fieldAddr fa_59_0 rfl)<|qv rfl (vv_load1 (v := u21_r0_0) one_57 rfl Bw23 rfl) ?_
   have B74 := (B60.md M23 (tk1 (pb_lt (b := b22) lt57)) (fun x hx => .inr (by have := fl56 x hx; omega)))
   refine qv rfl (vv_lenD (l := x14.1.Choices) Try.underlying57 rfl (OwnD.rd B74))<|qv rfl (vv_neq (a := (x14.1.Choices.length : Int)) (b := 4) rfl rfl)<|qm rfl<|qp rfl (vv_move rfl) (fun c12 => ?_) (fun c12 => ?_)
   · replace hm := iT c12 hm
     refine qk rfl<|qk rfl<|qk rfl<|qm rfl<|sd_nil ?_
     exact ⟨rfl, true, sbq, hm, kz0⟩
   replace hm := iF c12 hm
   refine qv rfl (vv_fieldAddr fa_59_1 rfl)<|qv rfl (vv_load1 (v := bv x14.1.Best) one_5 rfl Bw23 rfl)<|qv rfl (vv_gtrB (p := x14.1.Best) (q := 4#8) rfl rfl)<|qm rfl<|sd_nil ?_
   exact ⟨rfl, (decide (4#8 < x14.1.Best)), sbq, hm, kz0⟩
 clear hm; rintro a15 w24 ⟨hm, K24⟩
 have z63 := K24.size
 unfold law10_PlanScales_J6 at hm
 refine sw_cond rfl (fun c7 => ?_) (fun c7 => ?_)
 · replace hm := cnd_t c7 hm
   refine qs 1 rfl<|qm rfl<|qb ?_
   have X64 := (X62.kz K24)
   cases hm
   refine ⟨_, _, rfl, res_1 rfl (rv_tmp rfl), ?_⟩
   exact ⟨rfl, X64⟩
 replace hm := cnd_f c7 hm
 refine qu<|sw_seq<|dw [([])] [] (.leaf [(0,10),(1,10),(2,10),(3,10),(4,10),(5,10),(6,10),(7,10),(8,10),(9,10),(10,10),(11,10),(12,10),(13,10),(14,10),(15,10),(16,10),(17,10),(18,10),(19,10),(20,10),(21,10),(22,10),(23,10),(24,10),(25,10),(26,10),(27,10),(28,10),(29,10),(30,10)]) ?_
 intro w25 G25 zw25
 refine sdz_leaf<|dm 0 rfl rfl<|qqF 0 rfl rfl (Kp.refl ([]) w25) (fun w hS => vv_move rfl) (fun c8 => ?_) (fun c8 => ?_)
 · replace hm := cnd_f c8 hm
   refine dx 0 rfl rfl<|dx 0 rfl rfl<|dx 0 rfl rfl<|dx 0 rfl rfl<|dx 0 rfl rfl<|dx 0 rfl rfl<|dx 0 rfl rfl ?_
   refine dx 0 rfl rfl<|dx 0 rfl rfl<|dx 0 rfl rfl<|dx 0 rfl rfl<|dx 0 rfl rfl<|dx 0 rfl rfl<|dx 0 rfl rfl ?_
   refine dx 0 rfl rfl<|dx 0 rfl rfl<|dx 0 rfl rfl<|dx 0 rfl rfl<|dx 0 rfl rfl<|dx 0 rfl rfl<|dx 0 rfl rfl ?_
   refine dx 0 rfl rfl<|dx 0 rfl rfl<|dx 0 rfl rfl<|dx 0 rfl rfl<|dx 0 rfl rfl<|dx 0 rfl rfl<|dm 0 rfl rfl ?_
   refine dm 0 rfl rfl<|sd_done<|sw_ret ?_
   have X72 := ((X62.kz K24).trans G25)
   cases hm
   refine ⟨_, _, rfl, res_1 rfl (rv_tmp rfl), ?_⟩
   exact ⟨rfl, X72⟩
 replace hm := cnd_t c8 hm
 refine dh 0 rfl rfl (fun w hS => vv_fieldAddr fa_59_1 rfl) ?_
 have B65 := ((((((((B35.kz K16).md M19).md M20).gr G21).gr G22).md M23).kz K24).gr G25)
 refine dh 0 rfl rfl (fun w hS => vv_load1 (v := bv x3.1.Best) one_5 rfl (Bx.kp B65 hS) rfl)<|dh 0 rfl rfl (fun w hS => vv_eqlB (p := x3.1.Best) (q := 0#8) rfl rfl)<|qq 0 rfl rfl (Kp.refl ([]) w25) (fun w hS => vv_move rfl) (fun c9 => ?_) (fun c9 => ?_)
 · replace hm := iT c9 hm
   refine dx 0 rfl rfl<|dx 0 rfl rfl<|dx 0 rfl rfl<|dx 0 rfl rfl<|dx 0 rfl rfl<|dx 0 rfl rfl<|dx 0 rfl rfl ?_
   refine dx 0 rfl rfl<|dx 0 rfl rfl<|dx 0 rfl rfl<|dx 0 rfl rfl<|dx 0 rfl rfl<|dx 0 rfl rfl<|dx 0 rfl rfl ?_
   refine dx 0 rfl rfl<|dx 0 rfl rfl<|dx 0 rfl rfl<|dx 0 rfl rfl<|dx 0 rfl rfl<|dx 0 rfl rfl<|dx 0 rfl rfl ?_
   refine dx 0 rfl rfl<|dm 0 rfl rfl<|dm 0 rfl rfl<|dm 0 rfl rfl<|sd_done<|sw_ret ?_
   have X66 := ((X62.kz K24).trans G25)
   cases hm
   refine ⟨_, _, rfl, res_1 rfl (rv_tmp rfl), ?_⟩
   exact ⟨rfl, X66⟩
 replace hm := iF c9 hm
 refine dh 0 rfl rfl (fun w hS => vv_fieldAddr fa_59_1 rfl) ?_
 have B67 := ((Bw23.kz K24).gr G25)
 refine dh 0 rfl rfl (fun w hS => vv_load1 (v := bv x14.1.Best) one_5 rfl (Bx.kp B67 hS) rfl)<|dh 0 rfl rfl (fun w hS => vv_gtrB (p := x14.1.Best) (q := 0#8) rfl rfl)<|qqF 0 rfl rfl (Kp.refl ([]) w25) (fun w hS => vv_move rfl) (fun c10 => ?_) (fun c10 => ?_)
 · replace hm := iF c10 hm
   refine dx 0 rfl rfl<|dx 0 rfl rfl<|dx 0 rfl rfl<|dx 0 rfl rfl<|dx 0 rfl rfl<|dx 0 rfl rfl<|dx 0 rfl rfl ?_
   refine dx 0 rfl rfl<|dx 0 rfl rfl<|dx 0 rfl rfl<|dx 0 rfl rfl<|dx 0 rfl rfl<|dx 0 rfl rfl<|dx 0 rfl rfl ?_
   refine dx 0 rfl rfl<|dx 0 rfl rfl<|dx 0 rfl rfl<|dm 0 rfl rfl<|dm 0 rfl rfl<|dm 0 rfl rfl<|dm 0 rfl rfl ?_
   refine sd_done<|sw_ret ?_
   have X71 := ((X62.kz K24).trans G25)
   cases hm
   refine ⟨_, _, rfl, res_1 rfl (rv_tmp rfl), ?_⟩
   exact ⟨rfl, X71⟩
 replace hm := iT c10 hm
 refine dh 0 rfl rfl (fun w hS => vv_fieldAddr fa_59_0 rfl)<|dh 0 rfl rfl (fun w hS => vv_load1 (v := u21_r0_0) one_57 rfl (Bx.kp B67 hS) rfl)<|dh 0 rfl rfl (fun w hS => vv_fieldAddr fa_59_1 rfl)<|dh 0 rfl rfl (fun w hS => vv_load1 (v := bv x14.1.Best) one_5 rfl (Bx.kp B67 hS) rfl)<|dh 0 rfl rfl (fun w hS => vv_subB (p := x14.1.Best) (q := 1#8) rfl rfl) ?_
 obtain ⟨y16, hy16, hm⟩ := bnd hm
 have B68 := (((B60.md M23 (tk1 (pb_lt (b := b22) lt57)) (fun x hx => .inr (by have := fl56 x hx; omega))).kz K24 tk0 (fun x hx => tk0)).gr G25)
 refine dh 0 rfl rfl (fun w hS => vv_ixD (i := un8 (x14.1.Best - 1#8)) Try.underlying57 (agg_52).siz rfl (OwnD.rd (OwnD.kp B68 hS (.inr List.not_mem_nil) (fun _ _ => List.not_mem_nil))) rfl hy16)<|dh 0 rfl rfl (fun w hS => vv_fieldAddr fa_52_6 rfl)<|dh 0 rfl rfl (fun w hS => vv_elD1 (q := 6) (u := .int .i64 y16.Cost) one_3 rfl (OwnD.rd (OwnD.kp B68 hS (.inr List.not_mem_nil) (fun _ _ => List.not_mem_nil))) hy16 (by first | rfl | omega) (fun _ => rfl))<|dh 0 rfl rfl (fun w hS => vv_fieldAddr fa_59_0 rfl)<|dh 0 rfl rfl (fun w hS => vv_load1 (v := u4_r0_0) one_57 rfl (Bx.kp B65 hS) rfl)<|dh 0 rfl rfl (fun w hS => vv_fieldAddr fa_59_1 rfl)<|dh 0 rfl rfl (fun w hS => vv_load1 (v := bv x3.1.Best) one_5 rfl (Bx.kp B65 hS) rfl) ?_
 refine dh 0 rfl rfl (fun w hS => vv_subB (p := x3.1.Best) (q := 1#8) rfl rfl) ?_
 obtain ⟨y17, hy17, hm⟩ := bnd hm
 have B69 := ((((((((B36.kz K16 tk0 (fun x hx => tk0)).md M19 (tk1 (pb_lt (b := b7) lt10)) (fun x hx => .inr (by have := fl9 x hx; omega))).md M20 (tk1 (pb_lt (b := b7) lt10)) (fun x hx => .inr (by have := fl9 x hx; omega))).gr G21).gr G22).md M23 (tk1 (pb_lt (b := b22) lt10)) (fun x hx => .inr (by have := fl9 x hx; omega))).kz K24 tk0 (fun x hx => tk0)).gr G25)
 refine dh 0 rfl rfl (fun w hS => vv_ixD (i := un8 (x3.1.Best - 1#8)) Try.underlying57 (agg_52).siz rfl (OwnD.rd (OwnD.kp B69 hS (.inr List.not_mem_nil) (fun _ _ => List.not_mem_nil))) rfl hy17)<|dh 0 rfl rfl (fun w hS => vv_fieldAddr fa_52_6 rfl)<|dh 0 rfl rfl (fun w hS => vv_elD1 (q := 6) (u := .int .i64 y17.Cost) one_3 rfl (OwnD.rd (OwnD.kp B69 hS (.inr List.not_mem_nil) (fun _ _ => List.not_mem_nil))) hy17 (by first | rfl | omega) (fun _ => rfl))<|dh 0 rfl rfl (fun w hS => vv_leq (a := y16.Cost) (b := y17.Cost) rfl rfl)<|dm 0 rfl rfl<|dm 0 rfl rfl<|dm 0 rfl rfl ?_
 refine dm 0 rfl rfl<|sd_done<|sw_ret ?_
 have X70 := ((X62.kz K24).trans G25)
 cases hm
 refine ⟨_, _, rfl, res_1 rfl (rv_tmp rfl), ?_⟩
 exact ⟨rfl, X70⟩
end Go.Proofs.Ytopkalcefepilaa.Mx
