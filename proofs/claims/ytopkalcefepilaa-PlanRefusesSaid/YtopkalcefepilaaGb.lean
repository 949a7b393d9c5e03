/- Walks that follow mirrors: Gb. Printed by mx.py. -/
import Derived.Test.YtopkalcefepilaaGk
import Derived.Test.YtopkalcefepilaaZd
set_option linter.unusedVariables false
set_option linter.unusedSimpArgs false
set_option maxRecDepth 100000
set_option maxHeartbeats 2000000
namespace Go.Proofs.Ytopkalcefepilaa.Mx
open Go Go.RowKit Go.Sx
theorem bsl_32_0 : BSl Try.prog 32 0 3 1 [] := bsl_nil Try.underlying32 (one_3).siz
theorem en_47 : En Try.prog 47 := fun _ _ => by kernel_rfl
theorem zv_32 : ZV Try.prog 32 (.slice none 0 0) := fun _ => by kernel_rfl
theorem bsl_73_1 : BSl Try.prog 73 1 32 1 [.slice none 0 0] := bsl_mk Try.underlying73 (one_32).siz zv_32 rfl rfl (by kernel_rfl)
theorem apt_73 : ApT Try.prog 73 32 1 24 := apt_mk Try.underlying73 rfl (by kernel_rfl)
theorem zv_73 : ZV Try.prog 73 (.slice none 0 0) := fun _ => by kernel_rfl
theorem one_73 : One Try.prog 73 := fun _ => ⟨by kernel_rfl, by kernel_rfl⟩
theorem bsl_39_1 : BSl Try.prog 39 1 73 1 [.slice none 0 0] := bsl_mk Try.underlying39 (one_73).siz zv_73 rfl rfl (by kernel_rfl)
theorem apt_39 : ApT Try.prog 39 73 1 24 := apt_mk Try.underlying39 rfl (by kernel_rfl)
theorem en_20 : En Try.prog 20 := fun _ _ => by kernel_rfl
theorem en_52 : En Try.prog 52 := fun _ _ => by kernel_rfl
theorem en_51 : En Try.prog 51 := fun _ _ => by kernel_rfl
theorem en_50 : En Try.prog 50 := fun _ _ => by kernel_rfl
theorem en_53 : En Try.prog 53 := fun _ _ => by kernel_rfl
theorem slices_Clone_8a9f_w {p0 vp0 zp0 gp0 op0 r} (hm : slices_Clone_8a9f p0 = some r) {w : World} (hp0 : Rd w zp0 gp0 op0 1 vp0 (p0.map ic)) :
    Calls Try.prog 47 [vp0].toArray w fun e w' => ∃ v, e = .returned v ∧ (∃ ur0_s zr0_s gr0_s, v = ur0_s ∧ Own w' zr0_s gr0_s 3 1 ur0_s (r.map ic) ∧ Hdn (zr0_s = 0 ∨ w.heap.size ≤ gr0_s) ∧ Gr w w') := by
 have lt1 := hp0.lth
 unfold slices_Clone_8a9f at hm
 refine calls_of_sw 8 Try.func47 rfl rfl rfl<|qs 1 rfl<|qm rfl<|sd_done<|sw_seq<|sw_seq ?_
 refine qg 2 rfl<|qm rfl ?_
 rcases rd_nilOr hp0 with ⟨ca2, hv2, hl2⟩ | ⟨aa2, ka2, ca2, hv2⟩
 · replace hm : (some []) = some r := by rw [hl2] at hm; exact hm
   refine qv rfl (vv_eqlNil Try.underlying32 rfl hv2)<|sd_done<|sw_condT rfl<|qs 1 rfl<|qm rfl<|sd_done ?_
   refine sw_ret<|then_r ?_
   cases hm
   refine ⟨_, _, rfl, res_1 rfl (rv_tmp rfl), ?_⟩
   exact ⟨(.slice none 0 0), 0, 0, rfl, (own_nil _ 0 3 1), ⟨.inl rfl⟩, (Gr.refl w)⟩
 skip
 refine qv rfl (vv_eqlNil Try.underlying32 rfl hv2)<|sd_done<|sw_condF rfl<|qu<|qs 4 rfl ?_
 refine qe rfl (ev_litT ([] : List Int) ic bsl_32_0 rfl rfl (ws_of rfl) rfl rfl rfl) ?_
 rintro vw1 w1 ⟨gw1, hbw1, Ow1, G1⟩
 have z3 := G1.size
 have lt4 := Ow1.lth
 refine qm rfl ?_
 have B5 := (hp0.gr G1)
 obtain ⟨l1, hl1, hm⟩ := bnd hm
 refine qe rfl (ev_appT (l := ([] : List Int)) (m := p0) (c := ic) apt_32 rfl rfl Ow1 B5 hl1 (by decide)) ?_
 rintro vw2 w2 ⟨zw2, gw2, Ow2, Aw2, qw2, rw2⟩
 have z6 := Aw2.size
 refine qm rfl<|sd_done<|sw_ret ?_
 have X7 := (((Gr.refl w).trans G1).ka Aw2 (tk1 ((.inr tk0) : 1 = 0 ∨ w.heap.size ≤ gw1)))
 cases hm
 refine ⟨_, _, rfl, res_1 rfl (rv_tmp rfl), ?_⟩
 exact ⟨vw2, zw2, gw2, rfl, Ow2, ⟨(pv_app (A := (fun x => w.heap.size ≤ x)) rw2 (.inr tk0))⟩, X7⟩
theorem plan_Tables_w (p0 : TScheme)  (r : List (List (List Int)) × Int) (hm : plan_Tables p0 = some r) (w : World)   :
    Calls Try.prog 20 [.agg (TScheme.cs p0).toArray].toArray w fun e w' => ∃ v, e = .returned v ∧ (∃ (ur0_s : Value) (zr0_s : Nat) (gr0_s : Nat) (Fr0_s : List Nat), v = .tuple [ur0_s, .int .i64 r.2].toArray ∧ OwnD (rpSd (rpSl 1 ic)) w' zr0_s gr0_s 73 ur0_s Fr0_s r.1 ∧ Hdn (zr0_s = 0 ∨ w.heap.size ≤ gr0_s) ∧ (∀ x ∈ Fr0_s, Pv [] [] w.heap.size x) ∧ Gr w w') := by
 unfold plan_Tables at hm
 refine calls_of_sw 45 Try.func20 rfl rfl rfl<|qs 3 rfl<|qe rfl (ev_box (cs := TScheme.cs p0) rfl rfl) ?_
 rintro _ w1 ⟨b1, rfl, hbw1, Bw1, G1⟩
 have z1 := G1.size
 have lt2 := Bw1.lt
 refine qm rfl<|qm rfl<|sd_done<|sw_seq<|qs 3 rfl<|qv rfl (vv_loadW agg_26 rfl Bw1 rfl) ?_
 obtain ⟨x1, hx1, hm⟩ := bnd hm
 refine qe rfl (eC en_45 rfl (cover_Check_w hx1)) ?_
 rintro _ w2 ⟨rfl, G2⟩
 have z3 := G2.size
 refine qm rfl<|qd 2 rfl<|qm rfl<|qv rfl (vv_neq (a := x1) (b := 0) rfl rfl)<|sd_done ?_
 refine sw_cond rfl (fun c1 => ?_) (fun c1 => ?_)
 · replace hm := iT c1 hm
   refine qs 3 rfl<|qm rfl<|qm rfl<|qm rfl<|sd_done<|sw_ret ?_
   refine then_r ?_
   have X4 := (((Gr.refl w).trans G1).trans G2)
   cases hm
   refine ⟨_, _, rfl, res_2 rfl (rv_tmp rfl) (rv_tmp rfl), ?_⟩
   exact ⟨(.slice none 0 0), 0, 0, [], rfl, (ownD_nil (rpSd (rpSl 1 ic)) _ 0 73), ⟨.inl rfl⟩, fA_nil, X4⟩
 replace hm := iF c1 hm
 refine qu<|qs 3 rfl ?_
 have B5 := (Bw1.gr G2)
 refine qv rfl (vv_loadW agg_26 rfl B5 rfl) ?_
 obtain ⟨x2, hx2, hm⟩ := bnd hm
 refine qe rfl (eC en_46 rfl (plan_newTables_w hx2)) ?_
 rintro _ w3 ⟨k3_p0_0, u3_p00_7, z3_p00_7, g3_p00_7, u3_p00_8, z3_p00_8, g3_p00_8, u3_p00_9, z3_p00_9, g3_p00_9, u3_p00_10, z3_p00_10, g3_p00_10, rfl, O3_p0_0, f3_p0_0, O3_p00_7, f3_p00_7, e3_p00_7, O3_p00_8, f3_p00_8, e3_p00_8, O3_p00_9, f3_p00_9, e3_p00_9, O3_p00_10, f3_p00_10, e3_p00_10, d3_0, d3_1, d3_2, d3_3, d3_4, d3_5, G3⟩
 have z6 := G3.size
 have lt7 := O3_p00_7.lth
 have lt8 := O3_p00_8.lth
 have lt9 := O3_p00_9.lth
 have lt10 := O3_p00_10.lth
 have lt11 := O3_p0_0.lt
 refine qm rfl<|qd 1 rfl<|qm rfl<|sd_done<|sw_seq ?_
 refine qs 5 rfl<|qm rfl<|qv rfl (vv_nilCheck rfl rfl)<|qv rfl (vv_fieldAddr fa_96_3 rfl)<|qv rfl (vv_load1 (v := .int .i64 x2.states) one_3 rfl O3_p0_0 rfl)<|qm rfl ?_
 refine sd_done<|sw_block ?_
 have X12 := ((((Gr.refl w).trans G1).trans G2).trans G3)
 refine sw_loopD (α := Nat × List (List (List Int)) × Int × Value × Nat × Nat × List Nat) ([6, 7, 8, 9] ++ rg 21 23) (fun ⟨n1, a6, a8, vy7, zy7, gy7, Fy7⟩ => [(6, vy7), (21, .int .i64 a8)]) (fun ⟨n1, a6, a8, vy7, zy7, gy7, Fy7⟩ wr => (fixN (plan_Tables_L1 p0 x2) n1 (a6, a8) = some r) ∧ OwnD (rpSd (rpSl 1 ic)) wr zy7 gy7 73 vy7 Fy7 a6 ∧ Hdn (zy7 = 0 ∨ w3.heap.size ≤ gy7) ∧ (∀ x ∈ Fy7, Pv [] [] w3.heap.size x) ∧ Kz [] w3 wr) (fun ⟨n1, a6, a8, vy7, zy7, gy7, Fy7⟩ => n1) ⟨FUEL, [], 0, (.slice none 0 0), 0, 0, []⟩ ?_ ?_ ?_
 · exact sbq
 · exact ⟨hm, (ownD_nil (rpSd (rpSl 1 ic)) _ 0 73), ⟨(.inl rfl)⟩, fA_nil, Kz.refl _ _⟩
 clear hm; rintro ⟨n1, a6, a8, vy7, zy7, gy7, Fy7⟩ w4 ⟨hm, Fw4_0, Fw4_1, Fw4_2, K4⟩
 have z13 := K4.size
 have fl14 := Fw4_0.flt
 have lt15 := Fw4_0.lth
 have hb := fix_succ hm; clear hm; obtain ⟨n1, rfl, hm⟩ := hb
 generalize hrec1 : fixN (plan_Tables_L1 p0 x2) n1 = rec1 at hm
 unfold plan_Tables_L1 at hm
 try dsimp only at hm
 refine qs 1 rfl<|qv rfl (vv_lss (a := a8) (b := x2.states) rfl rfl)<|sd_done<|sw_seq<|cnF rfl (fun c2 => ?_) (fun c2 => ?_)
 · replace hm := iF c2 hm
   refine sw_exit<|then_x<|then_x<|block_x<|then_n<|qs 3 rfl ?_
   refine qm rfl<|qm rfl<|qm rfl<|sd_done<|sw_ret ?_
   have X48 := (X12.kz K4)
   cases hm
   refine ⟨_, _, rfl, res_2 rfl (rv_tmp rfl) (rv_tmp rfl), ?_⟩
   exact ⟨vy7, zy7, gy7, Fy7, rfl, Fw4_0, ⟨(pv_0 (A := (fun x => w.heap.size ≤ x)) Fw4_1)⟩, (fA_pv (A := (Pv [] [] w.heap.size)) Fw4_2 fA_nil mz_nil (fun x hx => .inr (.inr (by omega)))), X48⟩
 replace hm := iT c2 hm
 refine qu<|sw_seq<|sw_block<|qs 2 rfl<|qm rfl ?_
 refine qm rfl<|qd 1 rfl<|qm rfl<|sd_done<|sw_seq ?_
 refine qs 4 rfl<|qv rfl (vv_fieldAddr fa_26_1 rfl) ?_
 have B16 := ((B5.gr G3).kz K4)
 refine qv rfl (vv_load1 (v := .int .i64 p0.Depth) one_3 rfl B16 rfl)<|qv rfl (vv_add (k := .i64) (a := p0.Depth) (b := 1) rfl rfl)<|qm rfl<|sd_done<|sw_block ?_
 have X17 := (X12.kz K4)
 have B18 := (O3_p00_7.kz K4)
 have B19 := (O3_p00_8.kz K4)
 have B20 := (O3_p00_9.kz K4)
 have B21 := (O3_p00_10.kz K4)
 refine sw_loopD (α := Nat × List (List Int) × Int × Value × Nat × Nat × List Nat) ([8, 9] ++ rg 27 12) (fun ⟨n2, a12, a14, vy13, zy13, gy13, Fy13⟩ => [(8, vy13), (27, .int .i64 a14)]) (fun ⟨n2, a12, a14, vy13, zy13, gy13, Fy13⟩ wr => (fixN (plan_Tables_L2 p0 x2 a6 a8 rec1) n2 (a12, a14) = some r) ∧ OwnD (rpSl 1 ic) wr zy13 gy13 32 vy13 Fy13 a12 ∧ Hdn (zy13 = 0 ∨ w4.heap.size ≤ gy13) ∧ (∀ x ∈ Fy13, Pv [] [] w4.heap.size x) ∧ Kz [] w4 wr) (fun ⟨n2, a12, a14, vy13, zy13, gy13, Fy13⟩ => n2) ⟨FUEL, [], 0, (.slice none 0 0), 0, 0, []⟩ ?_ ?_ ?_
 · exact sbq
 · exact ⟨hm, (ownD_nil (rpSl 1 ic) _ 0 32), ⟨(.inl rfl)⟩, fA_nil, Kz.refl _ _⟩
 clear hm; rintro ⟨n2, a12, a14, vy13, zy13, gy13, Fy13⟩ w5 ⟨hm, Fw5_0, Fw5_1, Fw5_2, K5⟩
 have z22 := K5.size
 have fl23 := Fw5_0.flt
 have lt24 := Fw5_0.lth
 have hb := fix_succ hm; clear hm; obtain ⟨n2, rfl, hm⟩ := hb
 generalize hrec2 : fixN (plan_Tables_L2 p0 x2 a6 a8 rec1) n2 = rec2 at hm
 unfold plan_Tables_L2 at hm
 try dsimp only at hm
 refine qs 1 rfl<|qv rfl (vv_lss (a := a14) (b := w64 (p0.Depth + 1)) rfl rfl)<|sd_done<|sw_seq<|sw_cond rfl (fun c3 => ?_) (fun c3 => ?_)
 · replace hm := iT c3 hm
   refine qu<|sw_seq<|sw_block<|qs 2 rfl<|qm rfl ?_
   refine qm rfl<|sd_done<|qg 9 rfl<|qm rfl<|qm rfl<|qm rfl<|qm rfl ?_
   have B25 := ((O3_p0_0.kz K4).kz K5)
   have B26 := (B18.kz K5)
   have B27 := (B19.kz K5)
   have B28 := (B20.kz K5)
   have B29 := (B21.kz K5)
   obtain ⟨x15, hx15, hm⟩ := bnd hm
   refine qe rfl (eC en_48 rfl (plan_tables_at_w hx15 B25 (Own.rd B26) (Own.rd B27) (Own.rd B28) (Own.rd B29))) ?_
   rintro u6_r0_s w6 ⟨_, z6_r0_s, g6_r0_s, o6_r0_s, rfl, O6_r0_s, f6_r0_s, G6⟩
   have z30 := G6.size
   have lt31 := O6_r0_s.lth
   obtain ⟨x16, hx16, hm⟩ := bnd hm
   refine qe rfl (eC en_47 rfl (slices_Clone_8a9f_w hx16 O6_r0_s)) ?_
   rintro u7_r0_s w7 ⟨_, z7_r0_s, g7_r0_s, rfl, O7_r0_s, f7_r0_s, G7⟩
   have z32 := G7.size
   have lt33 := O7_r0_s.lth
   refine qe rfl (ev_litD (R := (rpSl 1 ic)) (F := (zf z7_r0_s g7_r0_s)) [(x16, u7_r0_s)] bsl_73_1 rfl (fill_1 rfl (Own.oneB O7_r0_s) rfl rfl) rfl rfl rfl (by simp only [List.mem_cons, List.not_mem_nil, or_false]; rintro p rfl; exact ⟨_, _, _, (Own.rd O7_r0_s), (in_zf _ _)⟩) (zf_lt O7_r0_s.lth.o)) ?_
   rintro vw8 w8 ⟨gw8, hbw8, Ow8, G8⟩
   have z34 := G8.size
   have fl35 := Ow8.flt
   have lt36 := Ow8.lth
   have B37 := (((Fw5_0.gr G6).gr G7).gr G8)
   obtain ⟨l17, hl17, hm⟩ := bnd hm
   refine qe rfl (ev_appD (l := a12) (m := [x16]) apt_73 rfl rfl B37 (OwnD.rd Ow8) hl17 (by decide) (fA_zf (A := fun x => zy13 = 0 ∨ x ≠ gy13) (pv_0 (A := (fun x => zy13 = 0 ∨ x ≠ gy13)) f7_r0_s (fun x hx => (tk1 lt24.o))))) ?_
   rintro vw9 w9 ⟨zw9, gw9, Ow9, Aw9, qw9, rw9⟩
   have z38 := Aw9.size
   have fl39 := Ow9.flt
   refine qm rfl<|sd_nil<|block_n<|then_n<|qg 2 rfl<|qv rfl (vv_add (k := .i64) (a := a14) (b := 1) rfl rfl)<|qm rfl ?_
   refine sd_nil ?_
   have K_40 : Kz [] w4 w9 := ((((K5.gr G6).gr G7).gr G8).ka Aw9 (tk1 (pv_0 (A := (fun x => w4.heap.size ≤ x)) Fw5_1)))
   subst hrec2
   exact ⟨rfl, ⟨n2, l17, w64 (a14 + 1), vw9, zw9, gw9, (Fy13 ++ (zf z7_r0_s g7_r0_s))⟩, sbq, ⟨hm, Ow9, ⟨(pv_app (A := (fun x => w4.heap.size ≤ x)) rw9 (pv_0 (A := (fun x => w4.heap.size ≤ x)) Fw5_1))⟩, (fA_app (fA_pv (A := (Pv [] [] w4.heap.size)) Fw5_2 fA_nil mz_nil (fun x hx => .inr (.inr (by omega)))) (fA_zf (A := (Pv [] [] w4.heap.size)) (pv_Pv (pv_0 (A := (fun x => Mz [] x ∨ w4.heap.size ≤ x)) f7_r0_s)))), K_40⟩, Nat.lt_succ_self _⟩
 replace hm := iF c3 hm
 refine sw_exit<|then_x<|then_x<|block_x<|then_n<|qg 5 rfl<|qm rfl ?_
 refine qm rfl<|qe rfl (ev_litD (R := (rpSd (rpSl 1 ic))) (F := ((zf zy13 gy13) ++ Fy13)) [(a12, vy13)] bsl_39_1 rfl (fill_1 rfl (OwnD.oneB Fw5_0) rfl rfl) rfl rfl rfl (by simp only [List.mem_cons, List.not_mem_nil, or_false]; rintro p rfl; exact (rpSd_mk (OwnD.rd Fw5_0) (in_l (in_zf _ _)) (fun b hb => List.mem_append_right _ (hb)))) (fA_app (A := fun b => b < _) (zf_lt Fw5_0.lth.o) Fw5_0.flt)) ?_
 rintro vw10 w10 ⟨gw10, hbw10, Ow10, G10⟩
 have z41 := G10.size
 have fl42 := Ow10.flt
 have lt43 := Ow10.lth
 have B44 := ((Fw4_0.kz K5 tk0 (fun x hx => tk0)).gr G10)
 obtain ⟨l18, hl18, hm⟩ := bnd hm
 refine qe rfl (ev_appD (l := a6) (m := [a12]) apt_39 rfl rfl B44 (OwnD.rd Ow10) hl18 (by decide) (fA_app (fA_zf (A := fun x => zy7 = 0 ∨ x ≠ gy7) (pv_0 (A := (fun x => zy7 = 0 ∨ x ≠ gy7)) Fw5_1 (fun x hx => (tk1 lt15.o)))) (fA_pv (A := fun x => zy7 = 0 ∨ x ≠ gy7) Fw5_2 fA_nil mz_nil (fun x hx => (tk1 lt15.o))))) ?_
 rintro vw11 w11 ⟨zw11, gw11, Ow11, Aw11, qw11, rw11⟩
 have z45 := Aw11.size
 have fl46 := Ow11.flt
 refine qm rfl<|sd_nil<|block_n<|then_n<|qg 2 rfl<|qv rfl (vv_add (k := .i64) (a := a8) (b := 1) rfl rfl)<|qm rfl ?_
 refine sd_nil ?_
 have K_47 : Kz [] w3 w11 := (((K4.kz K5).gr G10).ka Aw11 (tk1 (pv_0 (A := (fun x => w3.heap.size ≤ x)) Fw4_1)))
 subst hrec1
 exact ⟨rfl, ⟨n1, l18, w64 (a8 + 1), vw11, zw11, gw11, (Fy7 ++ ((zf zy13 gy13) ++ Fy13))⟩, sbq, ⟨hm, Ow11, ⟨(pv_app (A := (fun x => w3.heap.size ≤ x)) rw11 (pv_0 (A := (fun x => w3.heap.size ≤ x)) Fw4_1))⟩, (fA_app (fA_pv (A := (Pv [] [] w3.heap.size)) Fw4_2 fA_nil mz_nil (fun x hx => .inr (.inr (by omega)))) (fA_app (fA_zf (A := (Pv [] [] w3.heap.size)) (pv_Pv (pv_0 (A := (fun x => Mz [] x ∨ w3.heap.size ≤ x)) Fw5_1))) (fA_pv (A := (Pv [] [] w3.heap.size)) Fw5_2 fA_nil mz_nil (fun x hx => .inr (.inr (by omega)))))), K_47⟩, Nat.lt_succ_self _⟩
theorem slices_Equal_dd32_w {p0 p1 vp0 zp0 gp0 op0 vp1 zp1 gp1 op1 r} (hm : slices_Equal_dd32 p0 p1 = some r) {w : World} (hp0 : Rd w zp0 gp0 op0 1 vp0 (p0.map ic)) (hp1 : Rd w zp1 gp1 op1 1 vp1 (p1.map ic)) :
    Calls Try.prog 52 [vp0, vp1].toArray w fun e w' => ∃ v, e = .returned v ∧ (v = .bool r ∧ Gr w w') := by
 have lt1 := hp0.lth
 have lt2 := hp1.lth
 unfold slices_Equal_dd32 at hm
 refine calls_of_sw 26 Try.func52 rfl rfl rfl<|qs 1 rfl<|qm rfl<|sd_done<|sw_seq<|sw_seq ?_
 refine qg 5 rfl<|qm rfl<|qv rfl (vv_lenT (l := p0) (c := ic) Try.underlying32 rfl hp0)<|qm rfl<|qv rfl (vv_lenT (l := p1) (c := ic) Try.underlying32 rfl hp1)<|qv rfl (vv_neq (a := (p0.length : Int)) (b := (p1.length : Int)) rfl rfl)<|sd_done ?_
 refine sw_cond rfl (fun c1 => ?_) (fun c1 => ?_)
 · replace hm := iT c1 hm
   refine qs 1 rfl<|qm rfl<|qb ?_
   cases hm
   refine ⟨_, _, rfl, res_1 rfl (rv_tmp rfl), ?_⟩
   exact ⟨rfl, (Gr.refl w)⟩
 replace hm := iF c1 hm
 refine qu<|sw_seq<|qs 3 rfl<|qm rfl<|qv rfl (vv_lenT (l := p0) (c := ic) Try.underlying32 rfl hp0) ?_
 refine qm rfl<|sd_done<|sw_block<|sw_loopD (α := Nat × Int) ([4, 5] ++ rg 13 13) (fun ⟨n1, a2⟩ => [(4, .bool false), (13, .int .i64 a2)]) (fun ⟨n1, a2⟩ wr => (fixN (slices_Equal_dd32_L1 p0 p1) n1 a2 = some r) ∧ Kz [] w wr) (fun ⟨n1, a2⟩ => n1) ⟨FUEL, 0⟩ ?_ ?_ ?_
 · exact sbq
 · exact ⟨hm, Kz.refl _ _⟩
 clear hm; rintro ⟨n1, a2⟩ w1 ⟨hm, K1⟩
 have z3 := K1.size
 have hb := fix_succ hm; clear hm; obtain ⟨n1, rfl, hm⟩ := hb
 generalize hrec1 : fixN (slices_Equal_dd32_L1 p0 p1) n1 = rec1 at hm
 unfold slices_Equal_dd32_L1 at hm
 try dsimp only at hm
 refine qs 1 rfl<|qv rfl (vv_lss (a := a2) (b := (p0.length : Int)) rfl rfl)<|sd_done<|sw_seq<|cnF rfl (fun c2 => ?_) (fun c2 => ?_)
 · replace hm := iF c2 hm
   refine sw_exit<|then_x<|then_x<|block_x<|then_n<|qs 1 rfl ?_
   refine qm rfl<|sd_done<|sw_ret ?_
   have X8 := ((Gr.refl w).kz K1)
   cases hm
   refine ⟨_, _, rfl, res_1 rfl (rv_tmp rfl), ?_⟩
   exact ⟨rfl, X8⟩
 replace hm := iT c2 hm
 refine qu<|sw_seq<|sw_block<|qs 2 rfl<|qm rfl ?_
 refine qm rfl<|sd_done<|sw_seq<|dw [([])] [] (.leaf [(0,10),(1,10),(2,10),(3,10),(4,10),(5,10),(6,10),(7,10),(8,10)]) ?_
 intro w2 G2 zw2
 refine sdz_leaf<|dm 0 rfl rfl<|dm 0 rfl rfl ?_
 obtain ⟨y3, hy3, hm⟩ := bnd hm
 have B4 := ((hp0.kz K1).gr G2)
 refine dh 0 rfl rfl (fun w hS => vv_ixT (i := a2) Try.underlying32 (one_3).siz rfl (Rd.kp B4 hS) rfl hy3)<|dh 0 rfl rfl (fun w hS => vv_el1T (q := 0) (u := .int .i64 y3) one_3 rfl (Rd.kp B4 hS) hy3 (by first | rfl | omega) rfl)<|dm 0 rfl rfl<|dm 0 rfl rfl ?_
 obtain ⟨y4, hy4, hm⟩ := bnd hm
 have B5 := ((hp1.kz K1).gr G2)
 refine dh 0 rfl rfl (fun w hS => vv_ixT (i := a2) Try.underlying32 (one_3).siz rfl (Rd.kp B5 hS) rfl hy4)<|dh 0 rfl rfl (fun w hS => vv_el1T (q := 0) (u := .int .i64 y4) one_3 rfl (Rd.kp B5 hS) hy4 (by first | rfl | omega) rfl)<|dh 0 rfl rfl (fun w hS => vv_neq (a := y3) (b := y4) rfl rfl)<|sd_done<|sw_cond rfl (fun c3 => ?_) (fun c3 => ?_)
 · replace hm := iT c3 hm
   refine qs 1 rfl<|qm rfl<|sd_done<|sw_ret<|block_r<|then_r ?_
   refine then_r<|block_r<|then_r ?_
   have X6 := (((Gr.refl w).kz K1).trans G2)
   cases hm
   refine ⟨_, _, rfl, res_1 rfl (rv_tmp rfl), ?_⟩
   exact ⟨rfl, X6⟩
 replace hm := iF c3 hm
 refine sw_skip<|block_n<|then_n<|qg 2 rfl<|qv rfl (vv_add (k := .i64) (a := a2) (b := 1) rfl rfl)<|qm rfl<|sd_nil ?_
 have K_7 : Kz [] w w2 := (K1.gr G2)
 subst hrec1
 exact ⟨rfl, ⟨n1, w64 (a2 + 1)⟩, sbq, ⟨hm, K_7⟩, Nat.lt_succ_self _⟩
theorem slices_EqualFunc_2be1_slices_Equal_dd32_w {p0 p1 vp0 zp0 gp0 op0 Fp0 vp1 zp1 gp1 op1 Fp1 r} (hm : slices_EqualFunc_2be1_slices_Equal_dd32 p0 p1 = some r) {w : World} (hp0 : RdD (rpSl 1 ic) w zp0 gp0 op0 vp0 Fp0 p0) (hp1 : RdD (rpSl 1 ic) w zp1 gp1 op1 vp1 Fp1 p1) :
    Calls Try.prog 51 [vp0, vp1, .func (.func 52) [].toArray [].toArray].toArray w fun e w' => ∃ v, e = .returned v ∧ (v = .bool r ∧ Gr w w') := by
 have fl1 := hp0.flt
 have lt2 := hp0.lth
 have fl3 := hp1.flt
 have lt4 := hp1.lth
 unfold slices_EqualFunc_2be1_slices_Equal_dd32 at hm
 refine calls_of_sw 32 Try.func51 rfl rfl rfl<|qs 1 rfl<|qm rfl<|sd_done<|sw_seq<|sw_seq ?_
 refine qg 5 rfl<|qm rfl<|qv rfl (vv_lenD (l := p0) Try.underlying73 rfl hp0)<|qm rfl<|qv rfl (vv_lenD (l := p1) Try.underlying73 rfl hp1)<|qv rfl (vv_neq (a := (p0.length : Int)) (b := (p1.length : Int)) rfl rfl)<|sd_done ?_
 refine sw_cond rfl (fun c1 => ?_) (fun c1 => ?_)
 · replace hm := iT c1 hm
   refine qs 1 rfl<|qm rfl<|qb ?_
   cases hm
   refine ⟨_, _, rfl, res_1 rfl (rv_tmp rfl), ?_⟩
   exact ⟨rfl, (Gr.refl w)⟩
 replace hm := iF c1 hm
 refine qu<|sw_seq<|qs 3 rfl<|qm rfl<|qv rfl (vv_lenD (l := p0) Try.underlying73 rfl hp0) ?_
 refine qm rfl<|sd_done<|sw_block<|sw_loopD (α := Nat × Int) ([6, 7, 8, 9] ++ rg 17 15) (fun ⟨n1, a2⟩ => [(6, .bool false), (17, .int .i64 a2)]) (fun ⟨n1, a2⟩ wr => (fixN (slices_EqualFunc_2be1_slices_Equal_dd32_L1 p0 p1) n1 a2 = some r) ∧ Kz [] w wr) (fun ⟨n1, a2⟩ => n1) ⟨FUEL, 0⟩ ?_ ?_ ?_
 · exact sbq
 · exact ⟨hm, Kz.refl _ _⟩
 clear hm; rintro ⟨n1, a2⟩ w1 ⟨hm, K1⟩
 have z5 := K1.size
 have hb := fix_succ hm; clear hm; obtain ⟨n1, rfl, hm⟩ := hb
 generalize hrec1 : fixN (slices_EqualFunc_2be1_slices_Equal_dd32_L1 p0 p1) n1 = rec1 at hm
 unfold slices_EqualFunc_2be1_slices_Equal_dd32_L1 at hm
 try dsimp only at hm
 refine qs 1 rfl<|qv rfl (vv_lss (a := a2) (b := (p0.length : Int)) rfl rfl)<|sd_done<|sw_seq<|cnF rfl (fun c2 => ?_) (fun c2 => ?_)
 · replace hm := iF c2 hm
   refine sw_exit<|then_x<|then_x<|block_x<|then_n<|qs 1 rfl ?_
   refine qm rfl<|sd_done<|sw_ret ?_
   have X15 := ((Gr.refl w).kz K1)
   cases hm
   refine ⟨_, _, rfl, res_1 rfl (rv_tmp rfl), ?_⟩
   exact ⟨rfl, X15⟩
 replace hm := iT c2 hm
 refine qu<|sw_seq<|sw_block<|qs 5 rfl<|qm rfl ?_
 obtain ⟨y3, hy3, hm⟩ := bnd hm
 have B6 := (hp0.kz K1 tk0 (fun x hx => tk0))
 refine qv rfl (vv_ixD (i := a2) Try.underlying73 (one_32).siz rfl B6 rfl hy3) ?_
 obtain ⟨lg7, x7_, z7_, g7_, o7_, R7, gx7, Q7, pf7⟩ := atSl B6 hy3
 have lt8 := Q7.lth
 refine qv rfl (vv_el1T (c := (fun p => [p.2])) (q := 0) (u := x7_) one_32 rfl R7 gx7 (by first | rfl | omega) rfl)<|qm rfl<|qm rfl<|qd 5 rfl<|qm rfl ?_
 refine qm rfl ?_
 obtain ⟨y4, hy4, hm⟩ := bnd hm
 have B9 := (hp1.kz K1 tk0 (fun x hx => tk0))
 refine qv rfl (vv_ixD (i := a2) Try.underlying73 (one_32).siz rfl B9 rfl hy4) ?_
 obtain ⟨lg10, x10_, z10_, g10_, o10_, R10, gx10, Q10, pf10⟩ := atSl B9 hy4
 have lt11 := Q10.lth
 refine qv rfl (vv_el1T (c := (fun p => [p.2])) (q := 0) (u := x10_) one_32 rfl R10 gx10 (by first | rfl | omega) rfl)<|qm rfl<|qd 5 rfl<|qm rfl<|qm rfl ?_
 refine qm rfl ?_
 obtain ⟨x5, hx5, hm⟩ := bnd hm
 refine qe rfl (ev_callV en_52 rfl rfl (slices_Equal_dd32_w hx5 Q7 Q10)) ?_
 rintro _ w2 ⟨rfl, G2⟩
 have z12 := G2.size
 refine qv rfl (vv_not rfl)<|sd_done<|sw_cond rfl (fun c3 => ?_) (fun c3 => ?_)
 · replace hm := cnd_t c3 hm
   refine qs 1 rfl<|qm rfl<|sd_done<|sw_ret<|block_r<|then_r ?_
   refine then_r<|block_r<|then_r ?_
   have X13 := (((Gr.refl w).kz K1).trans G2)
   cases hm
   refine ⟨_, _, rfl, res_1 rfl (rv_tmp rfl), ?_⟩
   exact ⟨rfl, X13⟩
 replace hm := cnd_f c3 hm
 refine sw_skip<|block_n<|then_n<|qg 2 rfl<|qv rfl (vv_add (k := .i64) (a := a2) (b := 1) rfl rfl)<|qm rfl<|sd_nil ?_
 have K_14 : Kz [] w w2 := (K1.gr G2)
 subst hrec1
 exact ⟨rfl, ⟨n1, w64 (a2 + 1)⟩, sbq, ⟨hm, K_14⟩, Nat.lt_succ_self _⟩
theorem plan_CheckTables_1_w {p0 p1 vp0 zp0 gp0 op0 Fp0 vp1 zp1 gp1 op1 Fp1 r} (hm : plan_CheckTables_1 p0 p1 = some r) {w : World} (hp0 : RdD (rpSl 1 ic) w zp0 gp0 op0 vp0 Fp0 p0) (hp1 : RdD (rpSl 1 ic) w zp1 gp1 op1 vp1 Fp1 p1) :
    Calls Try.prog 50 [vp0, vp1].toArray w fun e w' => ∃ v, e = .returned v ∧ (v = .bool r ∧ Gr w w') := by
 have fl1 := hp0.flt
 have lt2 := hp0.lth
 have fl3 := hp1.flt
 have lt4 := hp1.lth
 unfold plan_CheckTables_1 at hm
 refine calls_of_sw 8 Try.func50 rfl rfl rfl<|qs 1 rfl<|qm rfl<|qd 4 rfl ?_
 refine qm rfl<|qm rfl ?_
 obtain ⟨x1, hx1, hm⟩ := bnd hm
 refine qe rfl (eC en_51 rfl (slices_EqualFunc_2be1_slices_Equal_dd32_w hx1 hp0 hp1)) ?_
 rintro _ w1 ⟨rfl, G1⟩
 have z5 := G1.size
 refine qm rfl<|sd_done<|sw_ret ?_
 have X6 := ((Gr.refl w).trans G1)
 cases hm
 refine ⟨_, _, rfl, res_1 rfl (rv_tmp rfl), ?_⟩
 exact ⟨rfl, X6⟩
theorem slices_EqualFunc_83f6_plan_CheckTables_1_w (p0 : List (List (List Int))) (p1 : List (List (List Int))) (vp0 : Value) (zp0 gp0 op0 : Nat) (Fp0 : List Nat) (vp1 : Value) (zp1 gp1 op1 : Nat) (Fp1 : List Nat) (r : Bool) (hm : slices_EqualFunc_83f6_plan_CheckTables_1 p0 p1 = some r) (w : World) (hp0 : RdD (rpSd (rpSl 1 ic)) w zp0 gp0 op0 vp0 Fp0 p0) (hp1 : RdD (rpSd (rpSl 1 ic)) w zp1 gp1 op1 vp1 Fp1 p1)  :
    Calls Try.prog 53 [vp0, vp1, .func (.func 50) [].toArray [].toArray].toArray w fun e w' => ∃ v, e = .returned v ∧ (v = .bool r ∧ Gr w w') := by
 have fl1 := hp0.flt
 have lt2 := hp0.lth
 have fl3 := hp1.flt
 have lt4 := hp1.lth
 unfold slices_EqualFunc_83f6_plan_CheckTables_1 at hm
 refine calls_of_sw 32 Try.func53 rfl rfl rfl<|qs 1 rfl<|qm rfl<|sd_done<|sw_seq<|sw_seq ?_
 refine qg 5 rfl<|qm rfl<|qv rfl (vv_lenD (l := p0) Try.underlying39 rfl hp0)<|qm rfl<|qv rfl (vv_lenD (l := p1) Try.underlying39 rfl hp1)<|qv rfl (vv_neq (a := (p0.length : Int)) (b := (p1.length : Int)) rfl rfl)<|sd_done ?_
 refine sw_cond rfl (fun c1 => ?_) (fun c1 => ?_)
 · replace hm := iT c1 hm
   refine qs 1 rfl<|qm rfl<|qb ?_
   cases hm
   refine ⟨_, _, rfl, res_1 rfl (rv_tmp rfl), ?_⟩
   exact ⟨rfl, (Gr.refl w)⟩
 replace hm := iF c1 hm
 refine qu<|sw_seq<|qs 3 rfl<|qm rfl<|qv rfl (vv_lenD (l := p0) Try.underlying39 rfl hp0) ?_
 refine qm rfl<|sd_done<|sw_block<|sw_loopD (α := Nat × Int) ([6, 7, 8, 9] ++ rg 17 15) (fun ⟨n1, a2⟩ => [(6, .bool false), (17, .int .i64 a2)]) (fun ⟨n1, a2⟩ wr => (fixN (slices_EqualFunc_83f6_plan_CheckTables_1_L1 p0 p1) n1 a2 = some r) ∧ Kz [] w wr) (fun ⟨n1, a2⟩ => n1) ⟨FUEL, 0⟩ ?_ ?_ ?_
 · exact sbq
 · exact ⟨hm, Kz.refl _ _⟩
 clear hm; rintro ⟨n1, a2⟩ w1 ⟨hm, K1⟩
 have z5 := K1.size
 have hb := fix_succ hm; clear hm; obtain ⟨n1, rfl, hm⟩ := hb
 generalize hrec1 : fixN (slices_EqualFunc_83f6_plan_CheckTables_1_L1 p0 p1) n1 = rec1 at hm
 unfold slices_EqualFunc_83f6_plan_CheckTables_1_L1 at hm
 try dsimp only at hm
 refine qs 1 rfl<|qv rfl (vv_lss (a := a2) (b := (p0.length : Int)) rfl rfl)<|sd_done<|sw_seq<|cnF rfl (fun c2 => ?_) (fun c2 => ?_)
 · replace hm := iF c2 hm
   refine sw_exit<|then_x<|then_x<|block_x<|then_n<|qs 1 rfl ?_
   refine qm rfl<|sd_done<|sw_ret ?_
   have X15 := ((Gr.refl w).kz K1)
   cases hm
   refine ⟨_, _, rfl, res_1 rfl (rv_tmp rfl), ?_⟩
   exact ⟨rfl, X15⟩
 replace hm := iT c2 hm
 refine qu<|sw_seq<|sw_block<|qs 5 rfl<|qm rfl ?_
 obtain ⟨y3, hy3, hm⟩ := bnd hm
 have B6 := (hp0.kz K1 tk0 (fun x hx => tk0))
 refine qv rfl (vv_ixD (i := a2) Try.underlying39 (one_73).siz rfl B6 rfl hy3) ?_
 obtain ⟨lg7, x7_, z7_, g7_, o7_, R7, gx7, Q7, pf7⟩ := atSd B6 hy3
 have lt8 := Q7.lth
 refine qv rfl (vv_el1T (c := (fun p => [p.2])) (q := 0) (u := x7_) one_73 rfl R7 gx7 (by first | rfl | omega) rfl)<|qm rfl<|qm rfl<|qd 5 rfl<|qm rfl ?_
 refine qm rfl ?_
 obtain ⟨y4, hy4, hm⟩ := bnd hm
 have B9 := (hp1.kz K1 tk0 (fun x hx => tk0))
 refine qv rfl (vv_ixD (i := a2) Try.underlying39 (one_73).siz rfl B9 rfl hy4) ?_
 obtain ⟨lg10, x10_, z10_, g10_, o10_, R10, gx10, Q10, pf10⟩ := atSd B9 hy4
 have lt11 := Q10.lth
 refine qv rfl (vv_el1T (c := (fun p => [p.2])) (q := 0) (u := x10_) one_73 rfl R10 gx10 (by first | rfl | omega) rfl)<|qm rfl<|qd 5 rfl<|qm rfl<|qm rfl ?_
 refine qm rfl ?_
 obtain ⟨x5, hx5, hm⟩ := bnd hm
 refine qe rfl (ev_callV en_50 rfl rfl (plan_CheckTables_1_w hx5 Q7 Q10)) ?_
 rintro _ w2 ⟨rfl, G2⟩
 have z12 := G2.size
 refine qv rfl (vv_not rfl)<|sd_done<|sw_cond rfl (fun c3 => ?_) (fun c3 => ?_)
 · replace hm := cnd_t c3 hm
   refine qs 1 rfl<|qm rfl<|sd_done<|sw_ret<|block_r<|then_r ?_
   refine then_r<|block_r<|then_r ?_
   have X13 := (((Gr.refl w).kz K1).trans G2)
   cases hm
   refine ⟨_, _, rfl, res_1 rfl (rv_tmp rfl), ?_⟩
   exact ⟨rfl, X13⟩
 replace hm := cnd_f c3 hm
 refine sw_skip<|block_n<|then_n<|qg 2 rfl<|qv rfl (vv_add (k := .i64) (a := a2) (b := 1) rfl rfl)<|qm rfl<|sd_nil ?_
 have K_14 : Kz [] w w2 := (K1.gr G2)
 subst hrec1
 exact ⟨rfl, ⟨n1, w64 (a2 + 1)⟩, sbq, ⟨hm, K_14⟩, Nat.lt_succ_self _⟩
theorem plan_CheckTables_w (p0 : TScheme) (p1 : List (List (List Int))) (vp1 : Value) (zp1 gp1 op1 : Nat) (Fp1 : List Nat) (r : Int) (hm : plan_CheckTables p0 p1 = some r) (w : World) (hp1 : RdD (rpSd (rpSl 1 ic)) w zp1 gp1 op1 vp1 Fp1 p1)  :
    Calls Try.prog 23 [.agg (TScheme.cs p0).toArray, vp1].toArray w fun e w' => ∃ v, e = .returned v ∧ (v = .int .i64 r ∧ Gr w w') := by
 have fl1 := hp1.flt
 have lt2 := hp1.lth
 unfold plan_CheckTables at hm
 refine calls_of_sw 21 Try.func23 rfl rfl rfl<|qs 2 rfl<|qe rfl (ev_box (cs := TScheme.cs p0) rfl rfl) ?_
 rintro _ w1 ⟨b1, rfl, hbw1, Bw1, G1⟩
 have z3 := G1.size
 have lt4 := Bw1.lt
 refine qm rfl<|qd 7 rfl<|qv rfl (vv_loadW agg_26 rfl Bw1 rfl) ?_
 obtain ⟨x1, hx1, hm⟩ := bnd hm
 refine qe rfl (eC en_20 rfl (plan_Tables_w p0 _ hx1 _)) ?_
 rintro _ w2 ⟨u2_r0_s, z2_r0_s, g2_r0_s, F2_r0_s, rfl, O2_r0_s, f2_r0_s, p2_r0_s, G2⟩
 have z5 := G2.size
 have fl6 := O2_r0_s.flt
 have lt7 := O2_r0_s.lth
 refine qm rfl<|qm rfl<|qm rfl<|qm rfl<|qm rfl<|sd_done<|sw_seq ?_
 refine qs 2 rfl<|qm rfl<|qv rfl (vv_neq (a := x1.2) (b := 0) rfl rfl)<|sd_done<|sw_cond rfl (fun c1 => ?_) (fun c1 => ?_)
 · replace hm := iT c1 hm
   refine qs 2 rfl<|qm rfl<|qm rfl<|sd_done<|sw_ret<|then_r ?_
   have Y1 := Gr.trans G1 G2
   have X8 := ((Gr.refl w).trans Y1)
   cases hm
   refine ⟨_, _, rfl, res_1 rfl (rv_tmp rfl), ?_⟩
   exact ⟨rfl, X8⟩
 replace hm := iF c1 hm
 refine qu<|qs 1 rfl<|qm rfl<|sd_done<|sw_seq ?_
 refine qs 5 rfl<|qm rfl<|qm rfl<|qm rfl ?_
 have Y2 := Gr.trans G1 G2
 have B9 := (hp1.gr Y2)
 obtain ⟨x2, hx2, hm⟩ := bnd hm
 refine qe rfl (eC en_53 rfl (slices_EqualFunc_83f6_plan_CheckTables_1_w x1.1 p1 _ _ _ _ _ _ _ _ _ _ _ hx2 _ (OwnD.rd O2_r0_s) B9)) ?_
 rintro _ w3 ⟨rfl, G3⟩
 have z10 := G3.size
 refine qv rfl (vv_not rfl)<|sd_done<|sw_cond rfl (fun c2 => ?_) (fun c2 => ?_)
 · replace hm := cnd_t c2 hm
   refine qs 1 rfl<|qm rfl<|qb ?_
   have X11 := (((Gr.refl w).trans Y2).trans G3)
   cases hm
   refine ⟨_, _, rfl, res_1 rfl (rv_tmp rfl), ?_⟩
   exact ⟨rfl, X11⟩
 replace hm := cnd_f c2 hm
 refine qu<|qs 1 rfl<|qm rfl<|sd_done<|sw_ret ?_
 have X12 := (((Gr.refl w).trans Y2).trans G3)
 cases hm
 refine ⟨_, _, rfl, res_1 rfl (rv_tmp rfl), ?_⟩
 exact ⟨rfl, X12⟩
end Go.Proofs.Ytopkalcefepilaa.Mx
