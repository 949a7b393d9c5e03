/- Walks that follow mirrors: Le. Printed by mx.py. -/
import Derived.Test.YtopkalcefepilaaGk
import Derived.Test.YtopkalcefepilaaZd
set_option linter.unusedVariables false
set_option linter.unusedSimpArgs false
set_option maxRecDepth 100000
set_option maxHeartbeats 2000000
namespace Go.Proofs.Ytopkalcefepilaa.Mx
open Go Go.RowKit Go.Sx
theorem en_33 : En Try.prog 33 := fun _ _ => by kernel_rfl
theorem en_36 : En Try.prog 36 := fun _ _ => by kernel_rfl
theorem cv_3_5 : CV Try.prog 3 5 .u8 := fun _ _ _ => by kernel_rfl
theorem law10_PlanLeast_w {p0 r} (hm : law10_PlanLeast p0 = some r) {w : World} :
    Calls Try.prog 11 [.agg (TNeed.cs p0).toArray].toArray w fun e w' => ∃ v, e = .returned v ∧ (v = .bool r ∧ Gr w w') := by
 unfold law10_PlanLeast at hm
 refine calls_of_sw 155 Try.func11 rfl rfl rfl<|qs 2 rfl<|qe rfl (ev_box (cs := TNeed.cs p0) rfl rfl) ?_
 rintro _ w1 ⟨b1, rfl, hbw1, Bw1, G1⟩
 have z1 := G1.size
 have lt2 := Bw1.lt
 refine qm rfl<|qd 2 rfl ?_
 obtain ⟨x1, hx1, hm⟩ := bnd hm
 refine qe rfl (eC en_33 rfl (law10_alive_w hx1)) ?_
 rintro _ w2 ⟨rfl, G2⟩
 have z3 := G2.size
 refine qm rfl<|qd 8 rfl ?_
 have B4 := (Bw1.gr G2)
 refine qv rfl (vv_loadW agg_50 rfl B4 rfl) ?_
 obtain ⟨x2, hx2, hm⟩ := bnd hm
 refine qe rfl (eC en_27 rfl (plan_Make_w hx2)) ?_
 rintro _ w3 ⟨u3_r0_0, z3_r0_0, g3_r0_0, F3_r0_0, rfl, O3_r0_0, f3_r0_0, p3_r0_0, G3⟩
 have z5 := G3.size
 have fl6 := O3_r0_0.flt
 have lt7 := O3_r0_0.lth
 refine qm rfl<|qm rfl<|qm rfl<|qe rfl (ev_alloc (cs := TPlan.cs (TPlan.mk [] 0#8) (.slice none 0 0)) zv_59 rfl) ?_
 rintro _ w4 ⟨b4, rfl, hbw4, Bw4, G4⟩
 have z8 := G4.size
 have lt9 := Bw4.lt
 have B10 := (O3_r0_0.gr G4)
 refine qe rfl (ev_stW agg_59 rfl rfl (TPlan.cs_ones _ _ (OwnD.oneB B10)) Bw4 rfl rfl) ?_
 rintro _ w5 ⟨Bw5, M5⟩
 have z11 := M5.size
 refine qm rfl<|sd_done<|sw_seq<|qs 2 rfl<|qm rfl<|qv rfl (vv_neq (a := x2.2) (b := 0) rfl rfl) ?_
 refine sd_done<|sw_cond rfl (fun c1 => ?_) (fun c1 => ?_)
 · replace hm := iT c1 hm
   refine qs 13 rfl<|qm rfl<|qpF rfl (vv_move rfl) (fun c2 => ?_) (fun c2 => ?_)
   · replace hm := cnd_f c2 hm
     refine qk rfl<|qk rfl<|qk rfl<|qk rfl<|qm rfl<|qm rfl<|qk rfl ?_
     refine qk rfl<|qk rfl<|qm rfl<|qm rfl<|sd_done<|sw_ret<|then_r ?_
     have Y1 := Gr.trans (Gr.trans (Gr.trans G1 G2) G3) G4
     have X15 := (((Gr.refl w).trans Y1).md M5)
     cases hm
     refine ⟨_, _, rfl, res_1 rfl (rv_tmp rfl), ?_⟩
     exact ⟨rfl, X15⟩
   replace hm := cnd_t c2 hm
   refine qv rfl (vv_fieldAddr fa_59_0 rfl)<|qv rfl (vv_load1 (v := u3_r0_0) one_57 rfl Bw5 rfl) ?_
   have B12 := (B10.md M5 (tk1 (pb_lt (b := b4) lt7)) (fun x hx => .inr (by have := fl6 x hx; omega)))
   refine qv rfl (vv_lenD (l := x2.1.Choices) Try.underlying57 rfl (OwnD.rd B12))<|qv rfl (vv_eql (a := (x2.1.Choices.length : Int)) (b := 0) rfl rfl)<|qm rfl<|qp rfl (vv_move rfl) (fun c3 => ?_) (fun c3 => ?_)
   · replace hm := iT c3 hm
     refine qv rfl (vv_fieldAddr fa_59_1 rfl)<|qv rfl (vv_load1 (v := bv x2.1.Best) one_5 rfl Bw5 rfl)<|qv rfl (vv_eqlB (p := x2.1.Best) (q := 0#8) rfl rfl)<|qm rfl<|qm rfl<|sd_done<|sw_ret ?_
     refine then_r ?_
     have Y2 := Gr.trans (Gr.trans (Gr.trans G1 G2) G3) G4
     have X13 := (((Gr.refl w).trans Y2).md M5)
     cases hm
     refine ⟨_, _, rfl, res_1 rfl (rv_tmp rfl), ?_⟩
     exact ⟨rfl, X13⟩
   replace hm := iF c3 hm
   refine qk rfl<|qk rfl<|qk rfl<|qm rfl<|qm rfl<|sd_done<|sw_ret ?_
   refine then_r ?_
   have Y3 := Gr.trans (Gr.trans (Gr.trans G1 G2) G3) G4
   have X14 := (((Gr.refl w).trans Y3).md M5)
   cases hm
   refine ⟨_, _, rfl, res_1 rfl (rv_tmp rfl), ?_⟩
   exact ⟨rfl, X14⟩
 replace hm := iF c1 hm
 refine qu<|sw_seq ?_
 have Y4 := Gr.trans (Gr.trans (Gr.trans G1 G2) G3) G4
 have X16 := (((Gr.refl w).trans Y4).md M5)
 refine qj (β := Bool) (rg 30 15) (fun a3 => [(44, .bool a3)]) (fun a3 wr => (law10_PlanLeast_J1 p0 x1 x2 a3 = some r) ∧ Kz [] w5 wr) ?_ ?_
 · refine qg 15 rfl<|qv rfl (vv_fieldAddr fa_59_0 rfl)<|qv rfl (vv_load1 (v := u3_r0_0) one_57 rfl Bw5 rfl) ?_
   have B70 := (B10.md M5 (tk1 (pb_lt (b := b4) lt7)) (fun x hx => .inr (by have := fl6 x hx; omega)))
   refine qv rfl (vv_lenD (l := x2.1.Choices) Try.underlying57 rfl (OwnD.rd B70))<|qv rfl (vv_neq (a := (x2.1.Choices.length : Int)) (b := 4) rfl rfl)<|qp rfl (vv_move rfl) (fun c19 => ?_) (fun c19 => ?_)
   · replace hm := iT c19 hm
     refine qk rfl<|qk rfl<|qk rfl<|qm rfl<|qm rfl<|qk rfl<|qk rfl ?_
     refine qk rfl<|qk rfl<|qm rfl<|sd_nil ?_
     exact ⟨rfl, true, sbq, hm, kz0⟩
   replace hm := iF c19 hm
   refine qv rfl (vv_fieldAddr fa_59_1 rfl)<|qv rfl (vv_load1 (v := bv x2.1.Best) one_5 rfl Bw5 rfl)<|qv rfl (vv_gtrB (p := x2.1.Best) (q := 4#8) rfl rfl)<|qm rfl<|qp rfl (vv_move rfl) (fun c20 => ?_) (fun c20 => ?_)
   · replace hm := iT c20 hm
     refine qk rfl<|qk rfl<|qk rfl<|qk rfl<|qm rfl<|sd_nil ?_
     exact ⟨rfl, true, sbq, hm, kz0⟩
   replace hm := iF c20 hm
   have Y5 := Gr.trans G3 G4
   have B73 := ((B4.gr Y5).md M5)
   refine qv rfl (vv_loadW agg_50 rfl B73 rfl)<|qv rfl (vv_loadW agg_59 rfl Bw5 rfl) ?_
   obtain ⟨x15, hx15, hm⟩ := bnd hm
   refine qe rfl (eC en_36 rfl (plan_Check_w hx15 (OwnD.rd B70))) ?_
   rintro _ w17 ⟨rfl, G17⟩
   have z74 := G17.size
   refine qv rfl (vv_neq (a := x15) (b := 0) rfl rfl)<|qm rfl<|sd_nil ?_
   exact ⟨rfl, (decide (x15 ≠ 0)), sbq, hm, (kz0.gr G17)⟩
 clear hm; rintro a3 w6 ⟨hm, K6⟩
 have z17 := K6.size
 unfold law10_PlanLeast_J1 at hm
 refine sw_cond rfl (fun c4 => ?_) (fun c4 => ?_)
 · replace hm := cnd_t c4 hm
   refine qs 1 rfl<|qm rfl<|qb ?_
   have X18 := (X16.kz K6)
   cases hm
   refine ⟨_, _, rfl, res_1 rfl (rv_tmp rfl), ?_⟩
   exact ⟨rfl, X18⟩
 replace hm := cnd_f c4 hm
 refine qu<|sw_seq<|qs 4 rfl<|qv rfl (vv_fieldAddr fa_59_0 rfl) ?_
 have B19 := (Bw5.kz K6)
 refine qv rfl (vv_load1 (v := u3_r0_0) one_57 rfl B19 rfl) ?_
 have B20 := ((B10.md M5 (tk1 (pb_lt (b := b4) lt7)) (fun x hx => .inr (by have := fl6 x hx; omega))).kz K6 tk0 (fun x hx => tk0))
 refine qv rfl (vv_lenD (l := x2.1.Choices) Try.underlying57 rfl (OwnD.rd B20))<|qm rfl<|sd_done<|sw_block ?_
 have X21 := (X16.kz K6)
 refine sw_loopD (α := Nat × Int) ([2, 6, 7, 8, 9] ++ rg 48 91) (fun ⟨n2, a5⟩ => [(2, .bool false), (48, .int .i64 a5)]) (fun ⟨n2, a5⟩ wr => (fixN (law10_PlanLeast_L2 p0 x1 x2) n2 a5 = some r) ∧ Kz [] w6 wr) (fun ⟨n2, a5⟩ => n2) ⟨FUEL, 0⟩ ?_ ?_ ?_
 · exact sbq
 · exact ⟨hm, Kz.refl _ _⟩
 clear hm; rintro ⟨n2, a5⟩ w7 ⟨hm, K7⟩
 have z22 := K7.size
 have hb := fix_succ hm; clear hm; obtain ⟨n2, rfl, hm⟩ := hb
 generalize hrec2 : fixN (law10_PlanLeast_L2 p0 x1 x2) n2 = rec2 at hm
 unfold law10_PlanLeast_L2 at hm
 try dsimp only at hm
 refine qs 1 rfl<|qv rfl (vv_lss (a := a5) (b := (x2.1.Choices.length : Int)) rfl rfl)<|sd_done<|sw_seq<|cnF rfl (fun c5 => ?_) (fun c5 => ?_)
 · replace hm := iF c5 hm
   refine sw_exit<|then_x<|then_x<|block_x<|then_n<|qs 17 rfl ?_
   refine qm rfl<|qpF rfl (vv_move rfl) (fun c17 => ?_) (fun c17 => ?_)
   · replace hm := cnd_f c17 hm
     refine qk rfl<|qk rfl<|qk rfl<|qk rfl<|qk rfl<|qk rfl<|qk rfl ?_
     refine qk rfl<|qk rfl<|qk rfl<|qk rfl<|qk rfl<|qk rfl<|qm rfl ?_
     refine qm rfl<|sd_done<|sw_ret ?_
     have X69 := (X21.kz K7)
     cases hm
     refine ⟨_, _, rfl, res_1 rfl (rv_tmp rfl), ?_⟩
     exact ⟨rfl, X69⟩
   replace hm := cnd_t c17 hm
   refine qv rfl (vv_fieldAddr fa_59_1 rfl) ?_
   have B65 := (B19.kz K7)
   refine qv rfl (vv_load1 (v := bv x2.1.Best) one_5 rfl B65 rfl)<|qv rfl (vv_eqlB (p := x2.1.Best) (q := 0#8) rfl rfl)<|qp rfl (vv_move rfl) (fun c18 => ?_) (fun c18 => ?_)
   · replace hm := iT c18 hm
     refine qk rfl<|qk rfl<|qk rfl<|qk rfl<|qk rfl<|qk rfl<|qk rfl ?_
     refine qk rfl<|qm rfl<|qm rfl<|qm rfl<|sd_done<|sw_ret ?_
     have X66 := (X21.kz K7)
     cases hm
     refine ⟨_, _, rfl, res_1 rfl (rv_tmp rfl), ?_⟩
     exact ⟨rfl, X66⟩
   replace hm := iF c18 hm
   refine qv rfl (vv_fieldAddr fa_59_0 rfl)<|qv rfl (vv_load1 (v := u3_r0_0) one_57 rfl B65 rfl)<|qv rfl (vv_fieldAddr fa_59_1 rfl)<|qv rfl (vv_load1 (v := bv x2.1.Best) one_5 rfl B65 rfl)<|qv rfl (vv_subB (p := x2.1.Best) (q := 1#8) rfl rfl) ?_
   obtain ⟨y14, hy14, hm⟩ := bnd hm
   have B67 := (B20.kz K7 tk0 (fun x hx => tk0))
   refine qv rfl (vv_ixD (i := un8 (x2.1.Best - 1#8)) Try.underlying57 (agg_52).siz rfl (OwnD.rd B67) rfl hy14)<|qv rfl (vv_fieldAddr fa_52_1 rfl)<|qv rfl (vv_elD1 (q := 1) (u := .bool y14.Fits) one_4 rfl (OwnD.rd B67) hy14 (by first | rfl | omega) (fun _ => rfl))<|qm rfl<|qm rfl<|qm rfl<|sd_done ?_
   refine sw_ret ?_
   have X68 := (X21.kz K7)
   cases hm
   refine ⟨_, _, rfl, res_1 rfl (rv_tmp rfl), ?_⟩
   exact ⟨rfl, X68⟩
 replace hm := iT c5 hm
 refine qu<|sw_seq<|sw_block<|qs 6 rfl<|qm rfl ?_
 obtain ⟨y6, hy6, hm⟩ := bnd hm
 have B23 := (B20.kz K7 tk0 (fun x hx => tk0))
 refine qv rfl (vv_ixD (i := a5) Try.underlying57 (agg_52).siz rfl (OwnD.rd B23) rfl hy6) ?_
 obtain ⟨lg24, x24_, z24_, g24_, o24_, R24, gx24, Q24, pf24⟩ := atSt (OwnD.rd B23) hy6
 have lt25 := Q24.lth
 refine qv rfl (vv_elWT (c := (fun p => TChoice.cs p.1 p.2)) agg_52 rfl R24 gx24 (by first | rfl | omega))<|qe rfl (ev_alloc (cs := TChoice.cs (TChoice.mk 0#8 false 0 0 0 0 0 []) (.slice none 0 0)) zv_52 rfl) ?_
 rintro _ w8 ⟨b8, rfl, hbw8, Bw8, G8⟩
 have z26 := G8.size
 have lt27 := Bw8.lt
 refine qm rfl ?_
 have B28 := (Q24.gr G8)
 refine qe rfl (ev_stW agg_52 rfl rfl (TChoice.cs_ones _ _ (Rd.oneB B28)) Bw8 rfl rfl) ?_
 rintro _ w9 ⟨Bw9, M9⟩
 have z29 := M9.size
 refine qd 11 rfl ?_
 have Y6 := Gr.trans G3 G4
 have B30 := ((((((B4.gr Y6).md M5).kz K6).kz K7).gr G8).md M9)
 refine qv rfl (vv_loadW agg_50 rfl B30 rfl)<|qm rfl<|qv rfl (vv_add (k := .i64) (a := a5) (b := 1) rfl rfl)<|qv rfl (vv_cvIB cv_3_5 rfl) ?_
 obtain ⟨x7, hx7, hm⟩ := bnd hm
 refine qe rfl (eC en_25 rfl (plan_Choose_w hx7)) ?_
 rintro _ w10 ⟨u10_r0_7, z10_r0_7, g10_r0_7, rfl, O10_r0_7, f10_r0_7, G10⟩
 have z31 := G10.size
 have lt32 := O10_r0_7.lth
 refine qm rfl<|qm rfl<|qm rfl<|qe rfl (ev_alloc (cs := TChoice.cs (TChoice.mk 0#8 false 0 0 0 0 0 []) (.slice none 0 0)) zv_52 rfl) ?_
 rintro _ w11 ⟨b11, rfl, hbw11, Bw11, G11⟩
 have z33 := G11.size
 have lt34 := Bw11.lt
 have B35 := (O10_r0_7.gr G11)
 refine qe rfl (ev_stW agg_52 rfl rfl (TChoice.cs_ones _ _ (Own.oneB B35)) Bw11 rfl rfl) ?_
 rintro _ w12 ⟨Bw12, M12⟩
 have z36 := M12.size
 refine qm rfl<|sd_done<|sw_seq ?_
 have Y7 := Gr.trans G10 G11
 have X37 := (((((X21.kz K7).trans G8).md M9).trans Y7).md M12)
 refine qj (β := Bool) (rg 61 27) (fun a8 => [(87, .bool a8)]) (fun a8 wr => (law10_PlanLeast_J3 x2 a5 rec2 y6 a8 = some r) ∧ Kz [] w12 wr) ?_ ?_
 · refine qg 27 rfl<|qm rfl<|qv rfl (vv_neq (a := x7.2) (b := 0) rfl rfl)<|qp rfl (vv_move rfl) (fun c13 => ?_) (fun c13 => ?_)
   · replace hm := iT c13 hm
     refine qk rfl<|qk rfl<|qk rfl<|qk rfl<|qm rfl<|qm rfl<|qk rfl ?_
     refine qk rfl<|qk rfl<|qk rfl<|qk rfl<|qk rfl<|qm rfl<|qm rfl ?_
     refine qk rfl<|qk rfl<|qk rfl<|qk rfl<|qk rfl<|qk rfl<|qk rfl ?_
     refine qk rfl<|qk rfl<|qm rfl<|sd_nil ?_
     exact ⟨rfl, true, sbq, hm, kz0⟩
   replace hm := iF c13 hm
   have B55 := ((Bw9.gr Y7).md M12)
   refine qv rfl (vv_loadW agg_52 rfl B55 rfl)<|qv rfl (vv_loadW agg_52 rfl Bw12 rfl) ?_
   have B56 := (((B28.md M9 (tk1 ((fA_in1 pf24 (fun x hx => .inr (by have := fl6 x hx; omega))) : z24_ = 0 ∨ g24_ ≠ b8))).gr Y7).md M12 (tk1 ((fA_in1 pf24 (fun x hx => .inr (by have := fl6 x hx; omega))) : z24_ = 0 ∨ g24_ ≠ b11)))
   have B57 := (B35.md M12 (pb_lt lt32))
   obtain ⟨x13, hx13, hm⟩ := bnd hm
   refine qe rfl (eC en_31 rfl (ref10_SameChoice_w hx13 B56 (Own.rd B57))) ?_
   rintro _ w16 ⟨rfl, G16⟩
   have z58 := G16.size
   refine qv rfl (vv_not rfl)<|qm rfl<|qp rfl (vv_move rfl) (fun c14 => ?_) (fun c14 => ?_)
   · replace hm := cnd_t c14 hm
     refine qk rfl<|qk rfl<|qk rfl<|qk rfl<|qk rfl<|qk rfl<|qm rfl ?_
     refine qm rfl<|qk rfl<|qk rfl<|qk rfl<|qk rfl<|qk rfl<|qk rfl ?_
     refine qk rfl<|qk rfl<|qk rfl<|qm rfl<|sd_nil ?_
     exact ⟨rfl, true, sbq, hm, (kz0.gr G16)⟩
   replace hm := cnd_f c14 hm
   refine qv rfl (vv_fieldAddr fa_52_0 rfl) ?_
   have B60 := (B55.gr G16)
   refine qv rfl (vv_load1 (v := bv y6.Kind) one_5 rfl B60 rfl)<|qm rfl<|qv rfl (vv_add (k := .i64) (a := a5) (b := 1) rfl rfl)<|qv rfl (vv_cvIB cv_3_5 rfl)<|qv rfl (vv_neqB (p := y6.Kind) (q := wd8 (w64 (a5 + 1))) rfl rfl)<|qm rfl<|qp rfl (vv_move rfl) (fun c15 => ?_) (fun c15 => ?_)
   · replace hm := iT c15 hm
     refine qk rfl<|qk rfl<|qk rfl<|qk rfl<|qk rfl<|qk rfl<|qk rfl ?_
     refine qk rfl<|qk rfl<|qm rfl<|sd_nil ?_
     exact ⟨rfl, true, sbq, hm, (kz0.gr G16)⟩
   replace hm := iF c15 hm
   refine qv rfl (vv_fieldAddr fa_52_1 rfl)<|qv rfl (vv_load1 (v := .bool y6.Fits) one_4 rfl B60 rfl)<|qpF rfl (vv_move rfl) (fun c16 => ?_) (fun c16 => ?_)
   · replace hm := cnd_f c16 hm
     refine qk rfl<|qk rfl<|qk rfl<|qk rfl<|qk rfl<|qm rfl<|qm rfl ?_
     refine sd_nil ?_
     exact ⟨rfl, false, sbq, hm, (kz0.gr G16)⟩
   replace hm := cnd_t c16 hm
   refine qv rfl (vv_fieldAddr fa_52_5 rfl)<|qv rfl (vv_load1 (v := .int .i64 y6.Storage) one_3 rfl B60 rfl)<|qv rfl (vv_fieldAddr fa_50_2 rfl) ?_
   have B62 := (((B30.gr Y7).md M12).gr G16)
   refine qv rfl (vv_load1 (v := .int .i64 p0.Storage) one_3 rfl B62 rfl)<|qv rfl (vv_gtr (a := y6.Storage) (b := p0.Storage) rfl rfl)<|qm rfl<|qm rfl<|sd_nil ?_
   exact ⟨rfl, (decide (p0.Storage < y6.Storage)), sbq, hm, (kz0.gr G16)⟩
 clear hm; rintro a8 w13 ⟨hm, K13⟩
 have z38 := K13.size
 unfold law10_PlanLeast_J3 at hm
 refine sw_cond rfl (fun c6 => ?_) (fun c6 => ?_)
 · replace hm := cnd_t c6 hm
   refine qs 1 rfl<|qm rfl<|qb<|block_r ?_
   refine then_r<|then_r<|block_r<|then_r ?_
   have X39 := (X37.kz K13)
   cases hm
   refine ⟨_, _, rfl, res_1 rfl (rv_tmp rfl), ?_⟩
   exact ⟨rfl, X39⟩
 replace hm := cnd_f c6 hm
 refine qu<|sw_seq<|qs 3 rfl<|qv rfl (vv_fieldAddr fa_52_1 rfl) ?_
 have B40 := (((Bw9.gr Y7).md M12).kz K13)
 refine qv rfl (vv_load1 (v := .bool y6.Fits) one_4 rfl B40 rfl)<|qv rfl (vv_not rfl)<|sd_done<|sw_cond rfl (fun c7 => ?_) (fun c7 => ?_)
 · replace hm := cnd_t c7 hm
   refine sw_exit<|then_x<|block_x<|then_n<|qg 2 rfl<|qv rfl (vv_add (k := .i64) (a := a5) (b := 1) rfl rfl)<|qm rfl ?_
   refine sd_nil ?_
   have K_41 : Kz [] w6 w13 := (((((K7.gr G8).md M9).gr Y7).md M12).kz K13)
   subst hrec2
   exact ⟨rfl, ⟨n2, w64 (a5 + 1)⟩, sbq, ⟨hm, K_41⟩, Nat.lt_succ_self _⟩
 replace hm := cnd_f c7 hm
 refine qu ?_
 have X42 := (X37.kz K13)
 refine qj (β := Bool) (rg 91 47) (fun a9 => [(137, .bool a9)]) (fun a9 wr => (law10_PlanLeast_J4 a5 rec2 a9 = some r) ∧ Kz [] w13 wr) ?_ ?_
 · refine dw [([])] [] (.leaf [(0,10),(1,10),(2,10),(3,10),(4,10),(5,10),(6,10),(7,10),(8,10),(9,10),(10,10),(11,10),(12,10),(13,10),(14,10),(15,10),(16,10),(17,10),(18,10),(19,10),(20,10),(21,10),(22,10),(23,10),(24,10),(25,10),(26,10),(27,10),(28,10),(29,10),(30,10),(31,10),(32,10),(33,10),(34,10),(35,10),(36,10),(37,10),(38,10),(39,10),(40,10),(41,10),(42,10),(43,10),(44,10),(45,10),(46,10)]) ?_
   intro w15 G15 zw15
   refine sdz_leaf<|dh 0 rfl rfl (fun w hS => vv_fieldAddr fa_59_1 rfl) ?_
   have B46 := (((((((B19.kz K7).gr G8).md M9).gr Y7).md M12).kz K13).gr G15)
   refine dh 0 rfl rfl (fun w hS => vv_load1 (v := bv x2.1.Best) one_5 rfl (Bx.kp B46 hS) rfl)<|dh 0 rfl rfl (fun w hS => vv_eqlB (p := x2.1.Best) (q := 0#8) rfl rfl)<|qq 0 rfl rfl (Kp.refl ([]) w15) (fun w hS => vv_move rfl) (fun c9 => ?_) (fun c9 => ?_)
   · replace hm := iT c9 hm
     refine dx 0 rfl rfl<|dx 0 rfl rfl<|dx 0 rfl rfl<|dx 0 rfl rfl<|dx 0 rfl rfl<|dx 0 rfl rfl<|dx 0 rfl rfl ?_
     refine dx 0 rfl rfl<|dx 0 rfl rfl<|dm 0 rfl rfl<|dm 0 rfl rfl<|dx 0 rfl rfl<|dx 0 rfl rfl<|dx 0 rfl rfl ?_
     refine dx 0 rfl rfl<|dx 0 rfl rfl<|dx 0 rfl rfl<|dx 0 rfl rfl<|dx 0 rfl rfl<|dx 0 rfl rfl<|dx 0 rfl rfl ?_
     refine dx 0 rfl rfl<|dm 0 rfl rfl<|dm 0 rfl rfl<|dx 0 rfl rfl<|dx 0 rfl rfl<|dx 0 rfl rfl<|dx 0 rfl rfl ?_
     refine dx 0 rfl rfl<|dx 0 rfl rfl<|dx 0 rfl rfl<|dx 0 rfl rfl<|dx 0 rfl rfl<|dx 0 rfl rfl<|dx 0 rfl rfl ?_
     refine dx 0 rfl rfl<|dx 0 rfl rfl<|dx 0 rfl rfl<|dx 0 rfl rfl<|dx 0 rfl rfl<|dx 0 rfl rfl<|dx 0 rfl rfl ?_
     refine dm 0 rfl rfl<|sd_nil ?_
     exact ⟨rfl, true, sbq, hm, (kz0.gr G15)⟩
   replace hm := iF c9 hm
   refine dh 0 rfl rfl (fun w hS => vv_fieldAddr fa_59_0 rfl)<|dh 0 rfl rfl (fun w hS => vv_load1 (v := u3_r0_0) one_57 rfl (Bx.kp B46 hS) rfl)<|dh 0 rfl rfl (fun w hS => vv_fieldAddr fa_59_1 rfl)<|dh 0 rfl rfl (fun w hS => vv_load1 (v := bv x2.1.Best) one_5 rfl (Bx.kp B46 hS) rfl)<|dh 0 rfl rfl (fun w hS => vv_subB (p := x2.1.Best) (q := 1#8) rfl rfl) ?_
   obtain ⟨y10, hy10, hm⟩ := bnd hm
   have B48 := ((((((B23.gr G8).md M9 (tk1 (pb_lt (b := b8) lt7)) (fun x hx => .inr (by have := fl6 x hx; omega))).gr Y7).md M12 (tk1 (pb_lt (b := b11) lt7)) (fun x hx => .inr (by have := fl6 x hx; omega))).kz K13 tk0 (fun x hx => tk0)).gr G15)
   refine dh 0 rfl rfl (fun w hS => vv_ixD (i := un8 (x2.1.Best - 1#8)) Try.underlying57 (agg_52).siz rfl (OwnD.rd (OwnD.kp B48 hS (.inr List.not_mem_nil) (fun _ _ => List.not_mem_nil))) rfl hy10)<|dh 0 rfl rfl (fun w hS => vv_fieldAddr fa_52_1 rfl)<|dh 0 rfl rfl (fun w hS => vv_elD1 (q := 1) (u := .bool y10.Fits) one_4 rfl (OwnD.rd (OwnD.kp B48 hS (.inr List.not_mem_nil) (fun _ _ => List.not_mem_nil))) hy10 (by first | rfl | omega) (fun _ => rfl))<|dh 0 rfl rfl (fun w hS => vv_not rfl)<|dm 0 rfl rfl<|qq 0 rfl rfl (Kp.refl ([]) w15) (fun w hS => vv_move rfl) (fun c10 => ?_) (fun c10 => ?_)
   · replace hm := cnd_t c10 hm
     refine dx 0 rfl rfl<|dx 0 rfl rfl<|dx 0 rfl rfl<|dx 0 rfl rfl<|dx 0 rfl rfl<|dx 0 rfl rfl<|dx 0 rfl rfl ?_
     refine dx 0 rfl rfl<|dx 0 rfl rfl<|dx 0 rfl rfl<|dx 0 rfl rfl<|dm 0 rfl rfl<|dm 0 rfl rfl<|dx 0 rfl rfl ?_
     refine dx 0 rfl rfl<|dx 0 rfl rfl<|dx 0 rfl rfl<|dx 0 rfl rfl<|dx 0 rfl rfl<|dx 0 rfl rfl<|dx 0 rfl rfl ?_
     refine dx 0 rfl rfl<|dx 0 rfl rfl<|dx 0 rfl rfl<|dx 0 rfl rfl<|dx 0 rfl rfl<|dx 0 rfl rfl<|dx 0 rfl rfl ?_
     refine dx 0 rfl rfl<|dx 0 rfl rfl<|dx 0 rfl rfl<|dm 0 rfl rfl<|sd_nil ?_
     exact ⟨rfl, true, sbq, hm, (kz0.gr G15)⟩
   replace hm := cnd_f c10 hm
   refine dh 0 rfl rfl (fun w hS => vv_fieldAddr fa_52_6 rfl) ?_
   have B50 := (B40.gr G15)
   refine dh 0 rfl rfl (fun w hS => vv_load1 (v := .int .i64 y6.Cost) one_3 rfl (Bx.kp B50 hS) rfl)<|dh 0 rfl rfl (fun w hS => vv_fieldAddr fa_59_0 rfl)<|dh 0 rfl rfl (fun w hS => vv_load1 (v := u3_r0_0) one_57 rfl (Bx.kp B46 hS) rfl)<|dh 0 rfl rfl (fun w hS => vv_fieldAddr fa_59_1 rfl)<|dh 0 rfl rfl (fun w hS => vv_load1 (v := bv x2.1.Best) one_5 rfl (Bx.kp B46 hS) rfl)<|dh 0 rfl rfl (fun w hS => vv_subB (p := x2.1.Best) (q := 1#8) rfl rfl) ?_
   obtain ⟨y11, hy11, hm⟩ := bnd hm
   refine dh 0 rfl rfl (fun w hS => vv_ixD (i := un8 (x2.1.Best - 1#8)) Try.underlying57 (agg_52).siz rfl (OwnD.rd (OwnD.kp B48 hS (.inr List.not_mem_nil) (fun _ _ => List.not_mem_nil))) rfl hy11)<|dh 0 rfl rfl (fun w hS => vv_fieldAddr fa_52_6 rfl)<|dh 0 rfl rfl (fun w hS => vv_elD1 (q := 6) (u := .int .i64 y11.Cost) one_3 rfl (OwnD.rd (OwnD.kp B48 hS (.inr List.not_mem_nil) (fun _ _ => List.not_mem_nil))) hy11 (by first | rfl | omega) (fun _ => rfl))<|dh 0 rfl rfl (fun w hS => vv_lss (a := y6.Cost) (b := y11.Cost) rfl rfl)<|dm 0 rfl rfl<|qq 0 rfl rfl (Kp.refl ([]) w15) (fun w hS => vv_move rfl) (fun c11 => ?_) (fun c11 => ?_)
   · replace hm := iT c11 hm
     refine dx 0 rfl rfl<|dx 0 rfl rfl<|dx 0 rfl rfl<|dx 0 rfl rfl<|dx 0 rfl rfl<|dx 0 rfl rfl<|dx 0 rfl rfl ?_
     refine dx 0 rfl rfl<|dx 0 rfl rfl<|dx 0 rfl rfl<|dx 0 rfl rfl<|dx 0 rfl rfl<|dx 0 rfl rfl<|dx 0 rfl rfl ?_
     refine dx 0 rfl rfl<|dx 0 rfl rfl<|dx 0 rfl rfl<|dx 0 rfl rfl<|dm 0 rfl rfl<|sd_nil ?_
     exact ⟨rfl, true, sbq, hm, (kz0.gr G15)⟩
   replace hm := iF c11 hm
   refine dh 0 rfl rfl (fun w hS => vv_fieldAddr fa_52_6 rfl)<|dh 0 rfl rfl (fun w hS => vv_load1 (v := .int .i64 y6.Cost) one_3 rfl (Bx.kp B50 hS) rfl)<|dh 0 rfl rfl (fun w hS => vv_fieldAddr fa_59_0 rfl)<|dh 0 rfl rfl (fun w hS => vv_load1 (v := u3_r0_0) one_57 rfl (Bx.kp B46 hS) rfl)<|dh 0 rfl rfl (fun w hS => vv_fieldAddr fa_59_1 rfl)<|dh 0 rfl rfl (fun w hS => vv_load1 (v := bv x2.1.Best) one_5 rfl (Bx.kp B46 hS) rfl)<|dh 0 rfl rfl (fun w hS => vv_subB (p := x2.1.Best) (q := 1#8) rfl rfl) ?_
   obtain ⟨y12, hy12, hm⟩ := bnd hm
   refine dh 0 rfl rfl (fun w hS => vv_ixD (i := un8 (x2.1.Best - 1#8)) Try.underlying57 (agg_52).siz rfl (OwnD.rd (OwnD.kp B48 hS (.inr List.not_mem_nil) (fun _ _ => List.not_mem_nil))) rfl hy12)<|dh 0 rfl rfl (fun w hS => vv_fieldAddr fa_52_6 rfl)<|dh 0 rfl rfl (fun w hS => vv_elD1 (q := 6) (u := .int .i64 y12.Cost) one_3 rfl (OwnD.rd (OwnD.kp B48 hS (.inr List.not_mem_nil) (fun _ _ => List.not_mem_nil))) hy12 (by first | rfl | omega) (fun _ => rfl))<|dh 0 rfl rfl (fun w hS => vv_eql (a := y6.Cost) (b := y12.Cost) rfl rfl)<|qqF 0 rfl rfl (Kp.refl ([]) w15) (fun w hS => vv_move rfl) (fun c12 => ?_) (fun c12 => ?_)
   · replace hm := iF c12 hm
     refine dx 0 rfl rfl<|dx 0 rfl rfl<|dx 0 rfl rfl<|dx 0 rfl rfl<|dx 0 rfl rfl<|dm 0 rfl rfl<|dm 0 rfl rfl ?_
     refine sd_nil ?_
     exact ⟨rfl, false, sbq, hm, (kz0.gr G15)⟩
   replace hm := iT c12 hm
   refine dh 0 rfl rfl (fun w hS => vv_fieldAddr fa_52_0 rfl)<|dh 0 rfl rfl (fun w hS => vv_load1 (v := bv y6.Kind) one_5 rfl (Bx.kp B50 hS) rfl)<|dh 0 rfl rfl (fun w hS => vv_fieldAddr fa_59_1 rfl)<|dh 0 rfl rfl (fun w hS => vv_load1 (v := bv x2.1.Best) one_5 rfl (Bx.kp B46 hS) rfl)<|dh 0 rfl rfl (fun w hS => vv_lssB (p := y6.Kind) (q := x2.1.Best) rfl rfl)<|dm 0 rfl rfl<|dm 0 rfl rfl ?_
   refine sd_nil ?_
   exact ⟨rfl, (decide (y6.Kind < x2.1.Best)), sbq, hm, (kz0.gr G15)⟩
 clear hm; rintro a9 w14 ⟨hm, K14⟩
 have z43 := K14.size
 unfold law10_PlanLeast_J4 at hm
 refine sw_cond rfl (fun c8 => ?_) (fun c8 => ?_)
 · replace hm := cnd_t c8 hm
   refine qs 1 rfl<|qm rfl<|sd_done<|sw_ret<|block_r<|then_r ?_
   refine then_r<|block_r<|then_r ?_
   have X44 := (X42.kz K14)
   cases hm
   refine ⟨_, _, rfl, res_1 rfl (rv_tmp rfl), ?_⟩
   exact ⟨rfl, X44⟩
 replace hm := cnd_f c8 hm
 refine sw_skip<|block_n<|then_n<|qg 2 rfl<|qv rfl (vv_add (k := .i64) (a := a5) (b := 1) rfl rfl)<|qm rfl<|sd_nil ?_
 have K_45 : Kz [] w6 w14 := ((((((K7.gr G8).md M9).gr Y7).md M12).kz K13).kz K14)
 subst hrec2
 exact ⟨rfl, ⟨n2, w64 (a5 + 1)⟩, sbq, ⟨hm, K_45⟩, Nat.lt_succ_self _⟩
end Go.Proofs.Ytopkalcefepilaa.Mx
