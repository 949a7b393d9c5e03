/- Walks that follow mirrors: Re. Printed by mx.py. -/
import Derived.Test.YtopkalcefepilaaGb
import Derived.Test.YtopkalcefepilaaZf
set_option linter.unusedVariables false
set_option linter.unusedSimpArgs false
set_option maxRecDepth 100000
set_option maxHeartbeats 2000000
namespace Go.Proofs.Ytopkalcefepilaa.Mx
open Go Go.RowKit Go.Sx
theorem en_33 : En Try.prog 33 := fun _ _ => by kernel_rfl
theorem cv_5_3 : CV Try.prog 5 3 .i64 := fun _ _ _ => by kernel_rfl
theorem en_36 : En Try.prog 36 := fun _ _ => by kernel_rfl
theorem law10_PlanRefuses_w {p0 p1 p2 p3 p4 vp4 zp4 gp4 op4 r} (hm : law10_PlanRefuses p0 p1 p2 p3 p4 = some r) {w : World} (hp4 : Rd w zp4 gp4 op4 1 vp4 (p4.map ic)) :
    Calls Try.prog 12 [.agg (TNeed.cs p0).toArray, bv p1, bv p2, .int .i64 p3, vp4].toArray w fun e w' => ∃ v, e = .returned v ∧ (v = .bool r ∧ Gr w w') := by
 have lt1 := hp4.lth
 unfold law10_PlanRefuses at hm
 refine calls_of_sw 172 Try.func12 rfl rfl rfl<|qs 2 rfl<|qe rfl (ev_box (cs := TNeed.cs p0) rfl rfl) ?_
 rintro _ w1 ⟨b1, rfl, hbw1, Bw1, G1⟩
 have z2 := G1.size
 have lt3 := Bw1.lt
 refine qm rfl<|qd 2 rfl ?_
 obtain ⟨x1, hx1, hm⟩ := bnd hm
 refine qe rfl (eC en_33 rfl (law10_alive_w hx1)) ?_
 rintro _ w2 ⟨rfl, G2⟩
 have z4 := G2.size
 refine qm rfl<|qd 8 rfl ?_
 have B5 := (Bw1.gr G2)
 refine qv rfl (vv_loadW agg_50 rfl B5 rfl) ?_
 obtain ⟨x2, hx2, hm⟩ := bnd hm
 refine qe rfl (eC en_27 rfl (plan_Make_w hx2)) ?_
 rintro _ w3 ⟨u3_r0_0, z3_r0_0, g3_r0_0, F3_r0_0, rfl, O3_r0_0, f3_r0_0, p3_r0_0, G3⟩
 have z6 := G3.size
 have fl7 := O3_r0_0.flt
 have lt8 := O3_r0_0.lth
 refine qm rfl<|qm rfl<|qm rfl<|qe rfl (ev_alloc (cs := TPlan.cs (TPlan.mk [] 0#8) (.slice none 0 0)) zv_59 rfl) ?_
 rintro _ w4 ⟨b4, rfl, hbw4, Bw4, G4⟩
 have z9 := G4.size
 have lt10 := Bw4.lt
 have B11 := (O3_r0_0.gr G4)
 refine qe rfl (ev_stW agg_59 rfl rfl (TPlan.cs_ones _ _ (OwnD.oneB B11)) Bw4 rfl rfl) ?_
 rintro _ w5 ⟨Bw5, M5⟩
 have z12 := M5.size
 refine qm rfl<|sd_done<|sw_seq ?_
 have Y1 := Gr.trans (Gr.trans (Gr.trans G1 G2) G3) G4
 have X13 := (((Gr.refl w).trans Y1).md M5)
 refine qj (β := Bool) (rg 24 15) (fun a3 => [(38, .bool a3)]) (fun a3 wr => (law10_PlanRefuses_J1 p0 p1 p2 p3 p4 x1 x2 a3 = some r) ∧ Kz [] w5 wr) ?_ ?_
 · refine qg 15 rfl<|qm rfl<|qv rfl (vv_neq (a := x2.2) (b := 0) rfl rfl)<|qp rfl (vv_move rfl) (fun c14 => ?_) (fun c14 => ?_)
   · replace hm := iT c14 hm
     refine qk rfl<|qk rfl<|qk rfl<|qm rfl<|qm rfl<|qk rfl<|qk rfl ?_
     refine qm rfl<|qm rfl<|qk rfl<|qk rfl<|qm rfl<|sd_nil ?_
     exact ⟨rfl, true, sbq, hm, kz0⟩
   replace hm := iF c14 hm
   refine qm rfl ?_
   have B107 := ((hp4.gr Y1).md M5 (pb_lt lt1))
   refine qv rfl (vv_lenT (l := p4) (c := ic) Try.underlying32 rfl B107)<|qv rfl (vv_gtr (a := (p4.length : Int)) (b := 100) rfl rfl)<|qm rfl<|qp rfl (vv_move rfl) (fun c15 => ?_) (fun c15 => ?_)
   · replace hm := iT c15 hm
     refine qk rfl<|qk rfl<|qm rfl<|qm rfl<|qk rfl<|qk rfl<|qm rfl ?_
     refine sd_nil ?_
     exact ⟨rfl, true, sbq, hm, kz0⟩
   replace hm := iF c15 hm
   refine qm rfl<|qv rfl (vv_eql (a := p3) (b := 0) rfl rfl)<|qm rfl<|qp rfl (vv_move rfl) (fun c16 => ?_) (fun c16 => ?_)
   · replace hm := iT c16 hm
     refine qk rfl<|qk rfl<|qm rfl<|sd_nil ?_
     exact ⟨rfl, true, sbq, hm, kz0⟩
   replace hm := iF c16 hm
   refine qm rfl<|qv rfl (vv_not rfl)<|qm rfl<|sd_nil ?_
   exact ⟨rfl, (!x1), sbq, hm, kz0⟩
 clear hm; rintro a3 w6 ⟨hm, K6⟩
 have z14 := K6.size
 unfold law10_PlanRefuses_J1 at hm
 refine sw_cond rfl (fun c1 => ?_) (fun c1 => ?_)
 · replace hm := cnd_t c1 hm
   refine qs 2 rfl<|qm rfl<|qm rfl<|sd_done<|sw_ret<|then_r ?_
   have X15 := (X13.kz K6)
   cases hm
   refine ⟨_, _, rfl, res_1 rfl (rv_tmp rfl), ?_⟩
   exact ⟨rfl, X15⟩
 replace hm := cnd_f c1 hm
 refine qu<|sw_seq<|qs 4 rfl<|qv rfl (vv_fieldAddr fa_59_0 rfl) ?_
 have B16 := (Bw5.kz K6)
 refine qv rfl (vv_load1 (v := u3_r0_0) one_57 rfl B16 rfl) ?_
 have B17 := ((B11.md M5 (tk1 (pb_lt (b := b4) lt8)) (fun x hx => .inr (by have := fl7 x hx; omega))).kz K6 tk0 (fun x hx => tk0))
 refine qv rfl (vv_lenD (l := x2.1.Choices) Try.underlying57 rfl (OwnD.rd B17))<|qv rfl (vv_neq (a := (x2.1.Choices.length : Int)) (b := 4) rfl rfl)<|sd_done<|sw_cond rfl (fun c2 => ?_) (fun c2 => ?_)
 · replace hm := iT c2 hm
   refine qs 1 rfl<|qm rfl<|qb ?_
   have X18 := (X13.kz K6)
   cases hm
   refine ⟨_, _, rfl, res_1 rfl (rv_tmp rfl), ?_⟩
   exact ⟨rfl, X18⟩
 replace hm := iF c2 hm
 refine qu<|qs 6 rfl<|qv rfl (vv_fieldAddr fa_59_0 rfl)<|qv rfl (vv_load1 (v := u3_r0_0) one_57 rfl B16 rfl)<|qm rfl ?_
 obtain ⟨x4, hx4, hm⟩ := bnd hm
 refine qv rfl (vv_remB (a := p1) (b := 4#8) rfl rfl hx4) ?_
 obtain ⟨y5, hy5, hm⟩ := bnd hm
 refine qv rfl (vv_ixD (i := un8 x4) Try.underlying57 (agg_52).siz rfl (OwnD.rd B17) rfl hy5)<|qm rfl<|sd_done ?_
 have X19 := (X13.kz K6)
 refine qj (β := List TChoice × List Nat) ([10, 15, 16, 17] ++ rg 49 49) (fun ⟨a6, Fy7⟩ => [(10, .bool false)]) (fun ⟨a6, Fy7⟩ wr => (law10_PlanRefuses_J2 p0 p2 p3 x1 x2 x4 a6 = some r) ∧ OwnD rp_52 wr z3_r0_0 g3_r0_0 52 u3_r0_0 Fy7 a6 ∧ Hdn (z3_r0_0 = 0 ∨ (g3_r0_0 = g3_r0_0 ∧ z3_r0_0 ≠ 0) ∨ w6.heap.size ≤ g3_r0_0) ∧ (∀ x ∈ Fy7, Pv F3_r0_0 [(zp4, gp4)] w6.heap.size x) ∧ Bx wr b4 59 (TPlan.cs (TPlan.mk a6 x2.1.Best) u3_r0_0) ∧ Kz [(1, b4), (z3_r0_0, g3_r0_0)] w6 wr) ?_ ?_
 · refine qs 4 rfl<|qm rfl<|qv rfl (vv_cvBI cv_5_3 rfl) ?_
   obtain ⟨x26, hx26, hm⟩ := bnd hm
   refine qv rfl (vv_remI (a := un8 p1) (b := 4) rfl rfl hx26)<|qv rfl (vv_lss (a := x26) (b := 3) rfl rfl)<|sd_done<|cnF rfl (fun c10 => ?_) (fun c10 => ?_)
   · replace hm := iF c10 hm
     refine sw_skip ?_
     exact ⟨rfl, ⟨x2.1.Choices, F3_r0_0⟩, sbq, hm, B17, ⟨tk0⟩, (fun x hx => .inl (hx)), B16, (Kz.refl _ _)⟩
   replace hm := iT c10 hm
   refine sw_seq<|dw [([])] [] (.leaf [(0,10),(1,10),(2,10),(4,10),(5,10),(7,10),(3,0),(6,0),(8,0),(9,10),(10,10),(11,10),(12,10),(13,10)]) ?_
   intro w17 G17 zw17
   refine sdz_leaf<|dm 0 rfl rfl<|dh 0 rfl rfl (fun w hS => vv_nilCheck rfl rfl)<|dh 0 rfl rfl (fun w hS => vv_fieldAddr fa_52_0 rfl)<|dh 0 rfl rfl (fun w hS => vv_fieldAddr fa_50_0 rfl) ?_
   have Y2 := Gr.trans G3 G4
   have B60 := ((((B5.gr Y2).md M5).kz K6).gr G17)
   refine dh 0 rfl rfl (fun w hS => vv_load1 (v := .int .i64 p0.Depth) one_3 rfl (Bx.kp B60 hS) rfl)<|dm 0 rfl rfl ?_
   have B61 := (B17.gr G17)
   refine qw rfl (vv_elD1 (q := 0) (u := bv y5.Kind) one_5 rfl (OwnD.rd B61) hy5 (by first | rfl | omega) (fun _ => rfl)) ?_
   obtain ⟨x27, hx27, hm⟩ := bnd hm
   refine qz [] rfl (eC en_34 rfl (law10_tree_w hx27)) ⟨fun _ => tk0, trivial⟩ ?_
   rintro _ w18 ⟨rfl, G18⟩
   have z62 := G18.size
   refine kG G18 ?_
   have Y3 := Gr.trans G17 G18
   have B63 := ((((hp4.gr Y1).md M5 (pb_lt lt1)).kz K6).gr Y3)
   obtain ⟨x28, hx28, hm⟩ := bnd hm
   refine qz [] rfl (eC en_35 rfl (cover_Cover_w hx28 B63)) ⟨fun _ => tk0, trivial⟩ ?_
   rintro _ w19 ⟨u19_r0_s, z19_r0_s, g19_r0_s, rfl, O19_r0_s, f19_r0_s, G19⟩
   have z64 := G19.size
   have lt65 := O19_r0_s.lth
   refine kG G19 ?_
   have Y4 := Gr.trans G18 G19
   have S66 := ((Kp.refl ([]) w17).gr Y4)
   refine dn 0 rfl rfl S66<|dn 0 rfl rfl S66<|dn 0 rfl rfl S66<|dn 0 rfl rfl S66<|dn 0 rfl rfl S66<|sd_done ?_
   have Y5 := Gr.trans Y3 G19
   have X67 := (X19.trans Y5)
   refine qj (β := Bool) (rg 65 9) (fun a29 => [(73, .bool a29)]) (fun a29 wr => (law10_PlanRefuses_J4 p0 p2 p3 p4 x1 x2 x4 y5 x28 a29 = some r) ∧ Kz [] w19 wr) ?_ ?_
   · refine qg 9 rfl<|qm rfl<|qv rfl (vv_eql (a := x28.2) (b := 0) rfl rfl)<|qpF rfl (vv_move rfl) (fun c13 => ?_) (fun c13 => ?_)
     · replace hm := iF c13 hm
       refine qk rfl<|qk rfl<|qk rfl<|qk rfl<|qk rfl<|qm rfl<|sd_nil ?_
       exact ⟨rfl, false, sbq, hm, kz0⟩
     replace hm := iT c13 hm
     refine qm rfl ?_
     have B101 := (B63.gr G19)
     refine qv rfl (vv_lenT (l := p4) (c := ic) Try.underlying32 rfl B101)<|qv rfl (vv_fieldAddr fa_50_1 rfl) ?_
     have B102 := (B60.gr Y4)
     refine qv rfl (vv_load1 (v := .int .i64 p0.Revoked) one_3 rfl B102 rfl)<|qv rfl (vv_leq (a := (p4.length : Int)) (b := p0.Revoked) rfl rfl)<|qm rfl<|sd_nil ?_
     exact ⟨rfl, (decide ((p4.length : Int) ≤ p0.Revoked)), sbq, hm, kz0⟩
   clear hm; rintro a29 w20 ⟨hm, K20⟩
   have z68 := K20.size
   unfold law10_PlanRefuses_J4 at hm
   refine cnF rfl (fun c11 => ?_) (fun c11 => ?_)
   · replace hm := cnd_f c11 hm
     refine sw_skip ?_
     have K_98 : Kz [(1, b4), (z3_r0_0, g3_r0_0)] w6 w20 := (((Kz.gr (Kz.refl _ _) G17).gr Y4).kz K20)
     have B99 := ((B61.gr Y4).kz K20 tk0 (fun x hx => tk0))
     have B100 := ((B16.gr Y5).kz K20)
     exact ⟨rfl, ⟨x2.1.Choices, F3_r0_0⟩, sbq, hm, B99, ⟨tk0⟩, (fun x hx => .inl (hx)), B100, K_98⟩
   replace hm := cnd_t c11 hm
   refine qs 5 rfl<|qm rfl<|qv rfl (vv_nilCheck rfl rfl)<|qv rfl (vv_fieldAddr fa_52_7 rfl) ?_
   have B69 := ((B61.gr Y4).kz K20 tk0 (fun x hx => tk0))
   obtain ⟨lg70, x70_, z70_, g70_, o70_, R70, gx70, Q70, pf70⟩ := atSt (OwnD.rd B69) hy5
   have lt71 := Q70.lth
   refine qv rfl (vv_el1T (c := (fun p => TChoice.cs p.1 p.2)) (q := 7) (u := x70_) one_32 rfl R70 gx70 (by first | rfl | omega) rfl)<|qm rfl<|qd 5 rfl<|qm rfl<|qm rfl ?_
   refine qv rfl (vv_nilCheck rfl rfl)<|qv rfl (vv_fieldAddr fa_52_7 rfl) ?_
   have zo72 := OwnD.z1 B69 hy5
   have B73 := ((B63.gr G19).kz K20)
   refine qe rfl (ev_stElD (i := un8 x4) (q := 7) (a' := (TChoice.mk y5.Kind y5.Fits y5.Items y5.Points y5.Header y5.Storage y5.Cost p4)) (vs := [vp4]) (F2 := zf zp4 gp4) (one_32).siz rfl rfl (cells1 (Rd.oneB B73)) rfl (by simp [ones, (Rd.oneB B73)]) B69 hy5 (by first | rfl | omega) rfl (fun x0 h => ⟨vp4, rfl, _, _, _, B73, in_r (in_zf _ _)⟩) (zf_lt B73.lth.o) (fA_zf (A := fun x => z3_r0_0 = 0 ∨ x ≠ g3_r0_0) (pv_sw (pv_0 (A := (fun x => zp4 = 0 ∨ x ≠ gp4)) f3_r0_0 (fun x hx => (tk1 lt1.o)))))) ?_
   rintro _ w21 ⟨Ow21, M21⟩
   have z74 := M21.size
   have fl75 := Ow21.flt
   refine sd_done<|sw_seq ?_
   have X76 := ((X67.kz K20).md M21 (tk1 (pv_0 (A := (fun x => w.heap.size ≤ x)) f3_r0_0)))
   refine qj (β := Bool) (rg 82 12) (fun a30 => [(93, .bool a30)]) (fun a30 wr => (law10_PlanRefuses_J5 p0 p2 p3 p4 x1 x2 x4 y5 a30 = some r) ∧ Kz [] w21 wr) ?_ ?_
   · refine dw [([])] [] (.fork [(0,10),(1,10),(4,10),(5,10),(6,10),(7,10),(8,10)] (.leaf [(2,0),(3,10),(9,0),(10,10),(11,10)]) (.leaf [(9,0),(10,10),(2,0),(3,10),(11,10)])) ?_
     intro w24 G24 zw24
     refine sdz_fork ?_
     have B86 := ((((B60.gr Y4).kz K20).md M21 (tk1 (pb_0 (b := b1) f3_r0_0))).gr G24)
     refine dh 0 rfl rfl (fun w hS => vv_loadW agg_50 rfl (Bx.kp B86 hS) rfl) ?_
     have B87 := ((((B16.gr Y5).kz K20).md M21 (tk1 (pb_lt (b := b4) lt8))).gr G24)
     refine dh 0 rfl rfl (fun w hS => vv_loadW agg_59 rfl (Bx.kp B87 hS) rfl)<|dm 0 rfl rfl ?_
     have B88 := (((O19_r0_s.kz K20).md M21 (tk1 (pv_0 (A := (fun x => z3_r0_0 = 0 ∨ x ≠ g3_r0_0)) f19_r0_s (fun x hx => (tk1 lt8.o))))).gr G24)
     refine dh 0 rfl rfl (fun w hS => vv_lenT (l := x28.1) (c := TSubset.cs) Try.underlying74 rfl (Own.rd (Own.kp B88 hS)))<|dm 0 rfl rfl<|dh 0 rfl rfl (fun w hS => vv_nilCheck rfl rfl)<|dh 0 rfl rfl (fun w hS => vv_fieldAddr fa_52_2 rfl) ?_
     obtain ⟨x32, hx32, hm⟩ := bnd hm
     obtain ⟨y33, hy33, hm⟩ := bnd hm
     refine sd_fork ?_ ?_
     · refine sdz_leaf ?_
       have B89 := (Ow21.gr G24)
       refine qz [] rfl (eC en_36 rfl (plan_Check_w hx32 (OwnD.rd B89))) ⟨fun _ => tk0, trivial⟩ ?_
       rintro _ w25 ⟨rfl, G25⟩
       have z90 := G25.size
       refine kG G25 ?_
       have S91 := ((Kp.refl ([]) w24).gr G25)
       refine qh 0 rfl rfl S91 (fun w hS => vv_eql (a := x32) (b := 0) rfl rfl) ?_
       have B92 := (B89.gr G25)
       refine qw rfl (vv_elD1 (q := 2) (u := .int .i64 y33.Items) one_3 rfl (OwnD.rd B92) hy33 (by first | rfl | omega) (fun _ => rfl))<|qh 0 rfl rfl S91 (fun w hS => vv_eql (a := (x28.1.length : Int)) (b := y33.Items) rfl rfl)<|qh 0 rfl rfl S91 (fun w hS => vv_neqL Try.underlying4 rfl rfl)<|sd_nil ?_
       exact ⟨rfl, ((decide (x32 = 0)) != (decide ((x28.1.length : Int) = y33.Items))), sbq, hm, ((kz0.gr G24).gr G25)⟩
     refine sdz_leaf ?_
     have B94 := (Ow21.gr G24)
     refine qw rfl (vv_elD1 (q := 2) (u := .int .i64 y33.Items) one_3 rfl (OwnD.rd B94) hy33 (by first | rfl | omega) (fun _ => rfl))<|dh 0 rfl rfl (fun w hS => vv_eql (a := (x28.1.length : Int)) (b := y33.Items) rfl rfl)<|qz [] rfl (eC en_36 rfl (plan_Check_w hx32 (OwnD.rd B94))) ⟨fun _ => tk0, trivial⟩ ?_
     rintro _ w26 ⟨rfl, G26⟩
     have z95 := G26.size
     refine kG G26 ?_
     have S96 := ((Kp.refl ([]) w24).gr G26)
     refine qh 0 rfl rfl S96 (fun w hS => vv_eql (a := x32) (b := 0) rfl rfl)<|qh 0 rfl rfl S96 (fun w hS => vv_neqL Try.underlying4 rfl rfl)<|sd_nil ?_
     exact ⟨rfl, ((decide (x32 = 0)) != (decide ((x28.1.length : Int) = y33.Items))), sbq, hm, ((kz0.gr G24).gr G26)⟩
   clear hm; rintro a30 w22 ⟨hm, K22⟩
   have z77 := K22.size
   unfold law10_PlanRefuses_J5 at hm
   refine sw_cond rfl (fun c12 => ?_) (fun c12 => ?_)
   · replace hm := cnd_t c12 hm
     refine qs 1 rfl<|qm rfl<|qb<|then_r ?_
     have X78 := (X76.kz K22)
     cases hm
     refine ⟨_, _, rfl, res_1 rfl (rv_tmp rfl), ?_⟩
     exact ⟨rfl, X78⟩
   replace hm := cnd_f c12 hm
   refine qu<|qg 5 rfl<|qm rfl<|qm rfl<|qv rfl (vv_nilCheck rfl rfl)<|qv rfl (vv_fieldAddr fa_52_7 rfl) ?_
   obtain ⟨y31, hy31, hm⟩ := bnd hm
   have B79 := (Ow21.kz K22 tk0 (fun x hx => tk0))
   have zo80 := OwnD.z1 B79 hy31
   have B81 := ((Q70.md M21 (tk1 ((fA_in (A := fun x => z3_r0_0 = 0 ∨ x ≠ g3_r0_0) pf70 (fun x hx => Exists.elim O3_r0_0 fun lg h => h.2.2.2.2.imp id fun k => k x hx)) : z70_ = 0 ∨ z3_r0_0 = 0 ∨ g70_ ≠ g3_r0_0))).kz K22)
   refine qe rfl (ev_stElD (i := un8 x4) (q := 7) (a' := (TChoice.mk y31.Kind y31.Fits y31.Items y31.Points y31.Header y31.Storage y31.Cost y5.Witness)) (vs := [x70_]) (F2 := zf z70_ g70_) (one_32).siz rfl rfl (cells1 (Rd.oneB B81)) rfl (by simp [ones, (Rd.oneB B81)]) B79 hy31 (by first | rfl | omega) rfl (fun x0 h => ⟨x70_, rfl, _, _, _, B81, in_r (in_zf _ _)⟩) (zf_lt B81.lth.o) (fA_zf (A := fun x => z3_r0_0 = 0 ∨ x ≠ g3_r0_0) (fA_in (A := fun x => z3_r0_0 = 0 ∨ x ≠ g3_r0_0) pf70 (fun x hx => Exists.elim O3_r0_0 fun lg h => h.2.2.2.2.imp id fun k => k x hx)))) ?_
   rintro _ w23 ⟨Ow23, M23⟩
   have z82 := M23.size
   have fl83 := Ow23.flt
   refine sd_nil ?_
   have K_84 : Kz [(1, b4), (z3_r0_0, g3_r0_0)] w6 w23 := ((((((Kz.gr (Kz.refl _ _) G17).gr Y4).kz K20).md M21 (tk1 (tk0 : z3_r0_0 = 0 ∨ (g3_r0_0 = g3_r0_0 ∧ z3_r0_0 ≠ 0) ∨ w6.heap.size ≤ g3_r0_0))).kz K22).md M23 (tk1 (tk0 : z3_r0_0 = 0 ∨ (g3_r0_0 = g3_r0_0 ∧ z3_r0_0 ≠ 0) ∨ w6.heap.size ≤ g3_r0_0)))
   have B85 := (((((B16.gr Y5).kz K20).md M21 (tk1 (pb_lt (b := b4) lt8))).kz K22).md M23 (tk1 (pb_lt (b := b4) lt8)))
   exact ⟨rfl, ⟨(x2.1.Choices.set (un8 x4).toNat (TChoice.mk y5.Kind y5.Fits y5.Items y5.Points y5.Header y5.Storage y5.Cost p4)).set (un8 x4).toNat (TChoice.mk y31.Kind y31.Fits y31.Items y31.Points y31.Header y31.Storage y31.Cost y5.Witness), ((F3_r0_0 ++ (zf zp4 gp4)) ++ (zf z70_ g70_))⟩, sbq, hm, Ow23, ⟨tk0⟩, (fA_app (fA_app (fun x hx => .inl (hx)) (fA_zf (A := (Pv F3_r0_0 [(zp4, gp4)] w6.heap.size)) (pv_Pv tk0))) (fA_zf (A := (Pv F3_r0_0 [(zp4, gp4)] w6.heap.size)) (fA_in (A := (Pv F3_r0_0 [(zp4, gp4)] w6.heap.size)) pf70 (fun x hx => .inl (hx))))), B85, K_84⟩
 clear hm; rintro ⟨a6, Fy7⟩ w7 ⟨hm, Fw7_0, Fw7_1, Fw7_2, Fw7_3, K7⟩
 have z20 := K7.size
 have fl21 := Fw7_0.flt
 have lt22 := Fw7_0.lth
 have lt23 := Fw7_3.lt
 unfold law10_PlanRefuses_J2 at hm
 have X24 := (X19.kz K7 (tk1 (pv_0 (A := (fun x => w.heap.size ≤ x)) f3_r0_0)))
 refine qj (β := List TChoice × BitVec 8 × List Nat) (rg 98 67) (fun ⟨a8, a9, Fy10⟩ => []) (fun ⟨a8, a9, Fy10⟩ wr => (law10_PlanRefuses_J3 p0 x1 a8 a9 = some r) ∧ OwnD rp_52 wr z3_r0_0 g3_r0_0 52 u3_r0_0 Fy10 a8 ∧ Hdn (z3_r0_0 = 0 ∨ (g3_r0_0 = g3_r0_0 ∧ z3_r0_0 ≠ 0) ∨ w7.heap.size ≤ g3_r0_0) ∧ (∀ x ∈ Fy10, Pv Fy7 [] w7.heap.size x) ∧ Bx wr b4 59 (TPlan.cs (TPlan.mk a8 a9) u3_r0_0) ∧ Kz [(1, b4), (z3_r0_0, g3_r0_0)] w7 wr) ?_ ?_
 · refine qs 2 rfl<|qm rfl ?_
   obtain ⟨x12, hx12, hm⟩ := bnd hm
   refine qv rfl (vv_remB (a := p2) (b := 7#8) rfl rfl hx12)<|sd_done<|sw_block<|qs 2 rfl<|qv rfl (vv_eqlB (p := x12) (q := 0#8) rfl rfl)<|qm rfl ?_
   refine sd_done<|sw_cond rfl (fun c4 => ?_) (fun c4 => ?_)
   · replace hm := iT c4 hm
     refine qg 9 rfl<|qm rfl<|qv rfl (vv_nilCheck rfl rfl)<|qv rfl (vv_fieldAddr fa_52_2 rfl) ?_
     obtain ⟨y13, hy13, hm⟩ := bnd hm
     refine qv rfl (vv_elD1 (q := 2) (u := .int .i64 y13.Items) one_3 rfl (OwnD.rd Fw7_0) hy13 (by first | rfl | omega) (fun _ => rfl))<|qm rfl<|qv rfl (vv_add (k := .i64) (a := y13.Items) (b := p3) rfl rfl)<|qv rfl (vv_nilCheck rfl rfl)<|qv rfl (vv_fieldAddr fa_52_2 rfl) ?_
     obtain ⟨y14, hy14, hm⟩ := bnd hm
     have zo33 := OwnD.z1 Fw7_0 hy14
     refine qe rfl (ev_stElD0 (i := un8 x4) (q := 2) (a' := (TChoice.mk y14.Kind y14.Fits (w64 (y13.Items + p3)) y14.Points y14.Header y14.Storage y14.Cost y14.Witness)) (vs := [.int .i64 (w64 (y13.Items + p3))]) (one_3).siz rfl rfl rfl rfl rfl Fw7_0 hy14 (by first | rfl | omega) rfl (fun _ h => ⟨rfl, h⟩)) ?_
     rintro _ w10 ⟨Ow10, M10⟩
     have z34 := M10.size
     refine sd_nil<|block_n ?_
     have K_35 : Kz [(1, b4), (z3_r0_0, g3_r0_0)] w7 w10 := (Kz.md (Kz.refl _ _) M10 (tk1 (tk0 : z3_r0_0 = 0 ∨ (g3_r0_0 = g3_r0_0 ∧ z3_r0_0 ≠ 0) ∨ w7.heap.size ≤ g3_r0_0)))
     have B36 := (Fw7_3.md M10 (tk1 (pb_1 (b := b4) Fw7_1 (pb_lt lt8))))
     exact ⟨rfl, ⟨a6.set (un8 x4).toNat (TChoice.mk y14.Kind y14.Fits (w64 (y13.Items + p3)) y14.Points y14.Header y14.Storage y14.Cost y14.Witness), x2.1.Best, Fy7⟩, sbq, hm, Ow10, ⟨tk0⟩, (fun x hx => .inl (hx)), B36, K_35⟩
   replace hm := iF c4 hm
   refine qs 2 rfl<|qv rfl (vv_eqlB (p := x12) (q := 1#8) rfl rfl)<|qm rfl<|sd_done<|sw_cond rfl (fun c5 => ?_) (fun c5 => ?_)
   · replace hm := iT c5 hm
     refine qg 9 rfl<|qm rfl<|qv rfl (vv_nilCheck rfl rfl)<|qv rfl (vv_fieldAddr fa_52_3 rfl) ?_
     obtain ⟨y15, hy15, hm⟩ := bnd hm
     refine qv rfl (vv_elD1 (q := 3) (u := .int .i64 y15.Points) one_3 rfl (OwnD.rd Fw7_0) hy15 (by first | rfl | omega) (fun _ => rfl))<|qm rfl<|qv rfl (vv_add (k := .i64) (a := y15.Points) (b := p3) rfl rfl)<|qv rfl (vv_nilCheck rfl rfl)<|qv rfl (vv_fieldAddr fa_52_3 rfl) ?_
     obtain ⟨y16, hy16, hm⟩ := bnd hm
     have zo37 := OwnD.z1 Fw7_0 hy16
     refine qe rfl (ev_stElD0 (i := un8 x4) (q := 3) (a' := (TChoice.mk y16.Kind y16.Fits y16.Items (w64 (y15.Points + p3)) y16.Header y16.Storage y16.Cost y16.Witness)) (vs := [.int .i64 (w64 (y15.Points + p3))]) (one_3).siz rfl rfl rfl rfl rfl Fw7_0 hy16 (by first | rfl | omega) rfl (fun _ h => ⟨rfl, h⟩)) ?_
     rintro _ w11 ⟨Ow11, M11⟩
     have z38 := M11.size
     refine sd_nil<|block_n ?_
     have K_39 : Kz [(1, b4), (z3_r0_0, g3_r0_0)] w7 w11 := (Kz.md (Kz.refl _ _) M11 (tk1 (tk0 : z3_r0_0 = 0 ∨ (g3_r0_0 = g3_r0_0 ∧ z3_r0_0 ≠ 0) ∨ w7.heap.size ≤ g3_r0_0)))
     have B40 := (Fw7_3.md M11 (tk1 (pb_1 (b := b4) Fw7_1 (pb_lt lt8))))
     exact ⟨rfl, ⟨a6.set (un8 x4).toNat (TChoice.mk y16.Kind y16.Fits y16.Items (w64 (y15.Points + p3)) y16.Header y16.Storage y16.Cost y16.Witness), x2.1.Best, Fy7⟩, sbq, hm, Ow11, ⟨tk0⟩, (fun x hx => .inl (hx)), B40, K_39⟩
   replace hm := iF c5 hm
   refine qs 2 rfl<|qv rfl (vv_eqlB (p := x12) (q := 2#8) rfl rfl)<|qm rfl<|sd_done<|sw_cond rfl (fun c6 => ?_) (fun c6 => ?_)
   · replace hm := iT c6 hm
     refine qg 9 rfl<|qm rfl<|qv rfl (vv_nilCheck rfl rfl)<|qv rfl (vv_fieldAddr fa_52_4 rfl) ?_
     obtain ⟨y17, hy17, hm⟩ := bnd hm
     refine qv rfl (vv_elD1 (q := 4) (u := .int .i64 y17.Header) one_3 rfl (OwnD.rd Fw7_0) hy17 (by first | rfl | omega) (fun _ => rfl))<|qm rfl<|qv rfl (vv_add (k := .i64) (a := y17.Header) (b := p3) rfl rfl)<|qv rfl (vv_nilCheck rfl rfl)<|qv rfl (vv_fieldAddr fa_52_4 rfl) ?_
     obtain ⟨y18, hy18, hm⟩ := bnd hm
     have zo41 := OwnD.z1 Fw7_0 hy18
     refine qe rfl (ev_stElD0 (i := un8 x4) (q := 4) (a' := (TChoice.mk y18.Kind y18.Fits y18.Items y18.Points (w64 (y17.Header + p3)) y18.Storage y18.Cost y18.Witness)) (vs := [.int .i64 (w64 (y17.Header + p3))]) (one_3).siz rfl rfl rfl rfl rfl Fw7_0 hy18 (by first | rfl | omega) rfl (fun _ h => ⟨rfl, h⟩)) ?_
     rintro _ w12 ⟨Ow12, M12⟩
     have z42 := M12.size
     refine sd_nil<|block_n ?_
     have K_43 : Kz [(1, b4), (z3_r0_0, g3_r0_0)] w7 w12 := (Kz.md (Kz.refl _ _) M12 (tk1 (tk0 : z3_r0_0 = 0 ∨ (g3_r0_0 = g3_r0_0 ∧ z3_r0_0 ≠ 0) ∨ w7.heap.size ≤ g3_r0_0)))
     have B44 := (Fw7_3.md M12 (tk1 (pb_1 (b := b4) Fw7_1 (pb_lt lt8))))
     exact ⟨rfl, ⟨a6.set (un8 x4).toNat (TChoice.mk y18.Kind y18.Fits y18.Items y18.Points (w64 (y17.Header + p3)) y18.Storage y18.Cost y18.Witness), x2.1.Best, Fy7⟩, sbq, hm, Ow12, ⟨tk0⟩, (fun x hx => .inl (hx)), B44, K_43⟩
   replace hm := iF c6 hm
   refine qs 2 rfl<|qv rfl (vv_eqlB (p := x12) (q := 3#8) rfl rfl)<|qm rfl<|sd_done<|sw_cond rfl (fun c7 => ?_) (fun c7 => ?_)
   · replace hm := iT c7 hm
     refine qg 9 rfl<|qm rfl<|qv rfl (vv_nilCheck rfl rfl)<|qv rfl (vv_fieldAddr fa_52_5 rfl) ?_
     obtain ⟨y19, hy19, hm⟩ := bnd hm
     refine qv rfl (vv_elD1 (q := 5) (u := .int .i64 y19.Storage) one_3 rfl (OwnD.rd Fw7_0) hy19 (by first | rfl | omega) (fun _ => rfl))<|qm rfl<|qv rfl (vv_add (k := .i64) (a := y19.Storage) (b := p3) rfl rfl)<|qv rfl (vv_nilCheck rfl rfl)<|qv rfl (vv_fieldAddr fa_52_5 rfl) ?_
     obtain ⟨y20, hy20, hm⟩ := bnd hm
     have zo45 := OwnD.z1 Fw7_0 hy20
     refine qe rfl (ev_stElD0 (i := un8 x4) (q := 5) (a' := (TChoice.mk y20.Kind y20.Fits y20.Items y20.Points y20.Header (w64 (y19.Storage + p3)) y20.Cost y20.Witness)) (vs := [.int .i64 (w64 (y19.Storage + p3))]) (one_3).siz rfl rfl rfl rfl rfl Fw7_0 hy20 (by first | rfl | omega) rfl (fun _ h => ⟨rfl, h⟩)) ?_
     rintro _ w13 ⟨Ow13, M13⟩
     have z46 := M13.size
     refine sd_nil<|block_n ?_
     have K_47 : Kz [(1, b4), (z3_r0_0, g3_r0_0)] w7 w13 := (Kz.md (Kz.refl _ _) M13 (tk1 (tk0 : z3_r0_0 = 0 ∨ (g3_r0_0 = g3_r0_0 ∧ z3_r0_0 ≠ 0) ∨ w7.heap.size ≤ g3_r0_0)))
     have B48 := (Fw7_3.md M13 (tk1 (pb_1 (b := b4) Fw7_1 (pb_lt lt8))))
     exact ⟨rfl, ⟨a6.set (un8 x4).toNat (TChoice.mk y20.Kind y20.Fits y20.Items y20.Points y20.Header (w64 (y19.Storage + p3)) y20.Cost y20.Witness), x2.1.Best, Fy7⟩, sbq, hm, Ow13, ⟨tk0⟩, (fun x hx => .inl (hx)), B48, K_47⟩
   replace hm := iF c7 hm
   refine qs 2 rfl<|qv rfl (vv_eqlB (p := x12) (q := 4#8) rfl rfl)<|qm rfl<|sd_done<|sw_cond rfl (fun c8 => ?_) (fun c8 => ?_)
   · replace hm := iT c8 hm
     refine qg 9 rfl<|qm rfl<|qv rfl (vv_nilCheck rfl rfl)<|qv rfl (vv_fieldAddr fa_52_6 rfl) ?_
     obtain ⟨y21, hy21, hm⟩ := bnd hm
     refine qv rfl (vv_elD1 (q := 6) (u := .int .i64 y21.Cost) one_3 rfl (OwnD.rd Fw7_0) hy21 (by first | rfl | omega) (fun _ => rfl))<|qm rfl<|qv rfl (vv_add (k := .i64) (a := y21.Cost) (b := p3) rfl rfl)<|qv rfl (vv_nilCheck rfl rfl)<|qv rfl (vv_fieldAddr fa_52_6 rfl) ?_
     obtain ⟨y22, hy22, hm⟩ := bnd hm
     have zo49 := OwnD.z1 Fw7_0 hy22
     refine qe rfl (ev_stElD0 (i := un8 x4) (q := 6) (a' := (TChoice.mk y22.Kind y22.Fits y22.Items y22.Points y22.Header y22.Storage (w64 (y21.Cost + p3)) y22.Witness)) (vs := [.int .i64 (w64 (y21.Cost + p3))]) (one_3).siz rfl rfl rfl rfl rfl Fw7_0 hy22 (by first | rfl | omega) rfl (fun _ h => ⟨rfl, h⟩)) ?_
     rintro _ w14 ⟨Ow14, M14⟩
     have z50 := M14.size
     refine sd_nil<|block_n ?_
     have K_51 : Kz [(1, b4), (z3_r0_0, g3_r0_0)] w7 w14 := (Kz.md (Kz.refl _ _) M14 (tk1 (tk0 : z3_r0_0 = 0 ∨ (g3_r0_0 = g3_r0_0 ∧ z3_r0_0 ≠ 0) ∨ w7.heap.size ≤ g3_r0_0)))
     have B52 := (Fw7_3.md M14 (tk1 (pb_1 (b := b4) Fw7_1 (pb_lt lt8))))
     exact ⟨rfl, ⟨a6.set (un8 x4).toNat (TChoice.mk y22.Kind y22.Fits y22.Items y22.Points y22.Header y22.Storage (w64 (y21.Cost + p3)) y22.Witness), x2.1.Best, Fy7⟩, sbq, hm, Ow14, ⟨tk0⟩, (fun x hx => .inl (hx)), B52, K_51⟩
   replace hm := iF c8 hm
   refine qs 2 rfl<|qv rfl (vv_eqlB (p := x12) (q := 5#8) rfl rfl)<|qm rfl<|sd_done<|cnF rfl (fun c9 => ?_) (fun c9 => ?_)
   · replace hm := iF c9 hm
     refine qg 6 rfl<|qv rfl (vv_fieldAddr fa_59_1 rfl)<|qv rfl (vv_load1 (v := bv x2.1.Best) one_5 rfl Fw7_3 rfl)<|qv rfl (vv_addB (p := x2.1.Best) (q := 1#8) rfl rfl) ?_
     obtain ⟨x25, hx25, hm⟩ := bnd hm
     refine qv rfl (vv_remB (a := x2.1.Best + 1#8) (b := 5#8) rfl rfl hx25)<|qv rfl (vv_fieldAddr fa_59_1 rfl)<|qe rfl (ev_st1 (cs' := TPlan.cs (TPlan.mk a6 x25) u3_r0_0) (one_5).siz rfl rfl rfl Fw7_3 rfl rfl) ?_
     rintro _ w16 ⟨Bw16, M16⟩
     have z57 := M16.size
     refine sd_nil<|block_n ?_
     have K_58 : Kz [(1, b4), (z3_r0_0, g3_r0_0)] w7 w16 := (Kz.md (Kz.refl _ _) M16)
     have B59 := (Fw7_0.md M16 (tk1 (pb_1 (b := b4) Fw7_1 (pb_lt lt8))) (fA_pv (A := fun x => 1 = 0 ∨ x ≠ b4) Fw7_2 (fun x hx => .inr (by have := fl7 x hx; omega)) (mz_cons (or_1 (pv_lt (A := (fun x => x ≠ b4)) lt1)) mz_nil) (fun x hx => .inr (by omega))))
     exact ⟨rfl, ⟨a6, x25, Fy7⟩, sbq, hm, B59, ⟨tk0⟩, (fun x hx => .inl (hx)), Bw16, K_58⟩
   replace hm := iT c9 hm
   refine qg 9 rfl<|qm rfl<|qm rfl<|qv rfl (vv_nilCheck rfl rfl)<|qv rfl (vv_fieldAddr fa_52_1 rfl) ?_
   obtain ⟨y23, hy23, hm⟩ := bnd hm
   refine qv rfl (vv_elD1 (q := 1) (u := .bool y23.Fits) one_4 rfl (OwnD.rd Fw7_0) hy23 (by first | rfl | omega) (fun _ => rfl))<|qv rfl (vv_not rfl)<|qv rfl (vv_nilCheck rfl rfl)<|qv rfl (vv_fieldAddr fa_52_1 rfl) ?_
   obtain ⟨y24, hy24, hm⟩ := bnd hm
   have zo53 := OwnD.z1 Fw7_0 hy24
   refine qe rfl (ev_stElD0 (i := un8 x4) (q := 1) (a' := (TChoice.mk y24.Kind (!y23.Fits) y24.Items y24.Points y24.Header y24.Storage y24.Cost y24.Witness)) (vs := [.bool (!y23.Fits)]) (one_4).siz rfl rfl rfl rfl rfl Fw7_0 hy24 (by first | rfl | omega) rfl (fun _ h => ⟨rfl, h⟩)) ?_
   rintro _ w15 ⟨Ow15, M15⟩
   have z54 := M15.size
   refine sd_nil<|block_n ?_
   have K_55 : Kz [(1, b4), (z3_r0_0, g3_r0_0)] w7 w15 := (Kz.md (Kz.refl _ _) M15 (tk1 (tk0 : z3_r0_0 = 0 ∨ (g3_r0_0 = g3_r0_0 ∧ z3_r0_0 ≠ 0) ∨ w7.heap.size ≤ g3_r0_0)))
   have B56 := (Fw7_3.md M15 (tk1 (pb_1 (b := b4) Fw7_1 (pb_lt lt8))))
   exact ⟨rfl, ⟨a6.set (un8 x4).toNat (TChoice.mk y24.Kind (!y23.Fits) y24.Items y24.Points y24.Header y24.Storage y24.Cost y24.Witness), x2.1.Best, Fy7⟩, sbq, hm, Ow15, ⟨tk0⟩, (fun x hx => .inl (hx)), B56, K_55⟩
 clear hm; rintro ⟨a8, a9, Fy10⟩ w8 ⟨hm, Fw8_0, Fw8_1, Fw8_2, Fw8_3, K8⟩
 have z25 := K8.size
 have fl26 := Fw8_0.flt
 have lt27 := Fw8_0.lth
 have lt28 := Fw8_3.lt
 unfold law10_PlanRefuses_J3 at hm
 refine qs 8 rfl<|qm rfl<|qpF rfl (vv_move rfl) (fun c3 => ?_) (fun c3 => ?_)
 · replace hm := cnd_f c3 hm
   refine qk rfl<|qk rfl<|qk rfl<|qk rfl<|qm rfl<|qm rfl<|sd_done ?_
   refine sw_ret ?_
   have X32 := (X24.kz K8 (tk1 (pv_1 (A := (fun x => w.heap.size ≤ x)) Fw7_1 (pv_0 (A := (fun x => w.heap.size ≤ x)) f3_r0_0))))
   cases hm
   refine ⟨_, _, rfl, res_1 rfl (rv_tmp rfl), ?_⟩
   exact ⟨rfl, X32⟩
 replace hm := cnd_t c3 hm
 have Y6 := Gr.trans G3 G4
 have B29 := (((((B5.gr Y6).md M5).kz K6).kz K7 (tk1 (pb_0 (b := b1) f3_r0_0))).kz K8 (tk1 (pb_1 (b := b1) Fw7_1 (pb_0 f3_r0_0))))
 refine qv rfl (vv_loadW agg_50 rfl B29 rfl)<|qv rfl (vv_loadW agg_59 rfl Fw8_3 rfl) ?_
 obtain ⟨x11, hx11, hm⟩ := bnd hm
 refine qe rfl (eC en_36 rfl (plan_Check_w hx11 (OwnD.rd Fw8_0))) ?_
 rintro _ w9 ⟨rfl, G9⟩
 have z30 := G9.size
 refine qv rfl (vv_eql (a := x11) (b := 100) rfl rfl)<|qm rfl<|qm rfl<|sd_done<|sw_ret ?_
 have X31 := ((X24.kz K8 (tk1 (pv_1 (A := (fun x => w.heap.size ≤ x)) Fw7_1 (pv_0 (A := (fun x => w.heap.size ≤ x)) f3_r0_0)))).trans G9)
 cases hm
 refine ⟨_, _, rfl, res_1 rfl (rv_tmp rfl), ?_⟩
 exact ⟨rfl, X31⟩
end Go.Proofs.Ytopkalcefepilaa.Mx
