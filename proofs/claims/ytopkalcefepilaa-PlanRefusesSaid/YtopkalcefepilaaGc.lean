/- Walks that follow mirrors: Gc. Printed by mx.py. -/
import Derived.Test.YtopkalcefepilaaGh
import Derived.Test.YtopkalcefepilaaZd
set_option linter.unusedVariables false
set_option linter.unusedSimpArgs false
set_option maxRecDepth 100000
set_option maxHeartbeats 2000000
namespace Go.Proofs.Ytopkalcefepilaa.Mx
open Go Go.RowKit Go.Sx
theorem en_96 : En Try.prog 96 := fun _ _ => by kernel_rfl
theorem en_117 : En Try.prog 117 := fun _ _ => by kernel_rfl
theorem en_95 : En Try.prog 95 := fun _ _ => by kernel_rfl
theorem fa_50_0 : FA Try.prog 50 0 0 := fun _ _ _ => by kernel_rfl
theorem en_59 : En Try.prog 59 := fun _ _ => by kernel_rfl
theorem fa_50_1 : FA Try.prog 50 1 1 := fun _ _ _ => by kernel_rfl
theorem fa_50_2 : FA Try.prog 50 2 2 := fun _ _ _ => by kernel_rfl
theorem fa_50_3 : FA Try.prog 50 3 3 := fun _ _ _ => by kernel_rfl
theorem fa_50_4 : FA Try.prog 50 4 4 := fun _ _ _ => by kernel_rfl
theorem fa_50_5 : FA Try.prog 50 5 5 := fun _ _ _ => by kernel_rfl
theorem bsl_32_3 : BSl Try.prog 32 3 3 1 [.int .i64 0, .int .i64 0, .int .i64 0] := bsl_mk Try.underlying32 (one_3).siz zv_3 rfl rfl (by kernel_rfl)
theorem zv_52 : ZV Try.prog 52 (.agg [.int .u8 0, .bool false, .int .i64 0, .int .i64 0, .int .i64 0, .int .i64 0, .int .i64 0, .slice none 0 0].toArray) := fun _ => by kernel_rfl
theorem agg_50 : Agg Try.prog 50 9 := fun _ => ⟨by kernel_rfl, by kernel_rfl⟩
theorem en_29 : En Try.prog 29 := fun _ _ => by kernel_rfl
theorem bs_52 : BS Try.prog 52 (fun i => [(0, 1), (1, 1), (2, 1), (3, 1), (4, 1), (5, 1), (6, 1), (7, 1)][i]?) [.int .u8 0, .bool false, .int .i64 0, .int .i64 0, .int .i64 0, .int .i64 0, .int .i64 0, .slice none 0 0] := bs_mk Try.underlying52 zv_52 ⟨rfl, (one_5).siz, rfl, (one_4).siz, rfl, (one_3).siz, rfl, (one_3).siz, rfl, (one_3).siz, rfl, (one_3).siz, rfl, (one_3).siz, rfl, (one_32).siz, trivial⟩
theorem agg_52 : Agg Try.prog 52 8 := fun _ => ⟨by kernel_rfl, by kernel_rfl⟩
theorem fa_50_6 : FA Try.prog 50 6 6 := fun _ _ _ => by kernel_rfl
theorem fa_24_0 : FA Try.prog 24 0 0 := fun _ _ _ => by kernel_rfl
theorem en_133 : En Try.prog 133 := fun _ _ => by kernel_rfl
theorem fa_24_1 : FA Try.prog 24 1 1 := fun _ _ _ => by kernel_rfl
theorem fa_24_2 : FA Try.prog 24 2 2 := fun _ _ _ => by kernel_rfl
theorem en_134 : En Try.prog 134 := fun _ _ => by kernel_rfl
theorem fa_26_2 : FA Try.prog 26 2 2 := fun _ _ _ => by kernel_rfl
theorem fa_26_3 : FA Try.prog 26 3 3 := fun _ _ _ => by kernel_rfl
theorem en_112 : En Try.prog 112 := fun _ _ => by kernel_rfl
theorem cv_3_22 : CV Try.prog 3 22 .u64 := fun _ _ _ => by kernel_rfl
theorem en_90 : En Try.prog 90 := fun _ _ => by kernel_rfl
theorem en_54 : En Try.prog 54 := fun _ _ => by kernel_rfl
theorem fa_52_3 : FA Try.prog 52 3 3 := fun _ _ _ => by kernel_rfl
theorem fa_52_5 : FA Try.prog 52 5 5 := fun _ _ _ => by kernel_rfl
theorem agg_114 : Agg Try.prog 114 2 := fun _ => ⟨by kernel_rfl, by kernel_rfl⟩
theorem zv_114 : ZV Try.prog 114 (.agg [.int .i64 0, .int .i64 0].toArray) := fun _ => by kernel_rfl
theorem fa_114_0 : FA Try.prog 114 0 0 := fun _ _ _ => by kernel_rfl
theorem fa_114_1 : FA Try.prog 114 1 1 := fun _ _ _ => by kernel_rfl
theorem en_99 : En Try.prog 99 := fun _ _ => by kernel_rfl
theorem en_118 : En Try.prog 118 := fun _ _ => by kernel_rfl
theorem fa_109_0 : FA Try.prog 109 0 0 := fun _ _ _ => by kernel_rfl
theorem cv_116_118 : CV Try.prog 116 118 .u64 := fun _ _ _ => by kernel_rfl
theorem en_104 : En Try.prog 104 := fun _ _ => by kernel_rfl
theorem en_102 : En Try.prog 102 := fun _ _ => by kernel_rfl
theorem en_119 : En Try.prog 119 := fun _ _ => by kernel_rfl
theorem en_68 : En Try.prog 68 := fun _ _ => by kernel_rfl
theorem en_101 : En Try.prog 101 := fun _ _ => by kernel_rfl
theorem zv_116 : ZV Try.prog 116 (.int .i64 0) := fun _ => by kernel_rfl
theorem one_116 : One Try.prog 116 := fun _ => ⟨by kernel_rfl, by kernel_rfl⟩
theorem en_114 : En Try.prog 114 := fun _ _ => by kernel_rfl
theorem one_122 : One Try.prog 122 := fun _ => ⟨by kernel_rfl, by kernel_rfl⟩
theorem en_120 : En Try.prog 120 := fun _ _ => by kernel_rfl
theorem en_100 : En Try.prog 100 := fun _ _ => by kernel_rfl
theorem en_67 : En Try.prog 67 := fun _ _ => by kernel_rfl
theorem en_97 : En Try.prog 97 := fun _ _ => by kernel_rfl
theorem en_62 : En Try.prog 62 := fun _ _ => by kernel_rfl
theorem en_91 : En Try.prog 91 := fun _ _ => by kernel_rfl
theorem en_64 : En Try.prog 64 := fun _ _ => by kernel_rfl
theorem one_164 : One Try.prog 164 := fun _ => ⟨by kernel_rfl, by kernel_rfl⟩
theorem en_66 : En Try.prog 66 := fun _ _ => by kernel_rfl
theorem bs_114 : BS Try.prog 114 (fun i => [(0, 1), (1, 1)][i]?) [.int .i64 0, .int .i64 0] := bs_mk Try.underlying114 zv_114 ⟨rfl, (one_3).siz, rfl, (one_3).siz, trivial⟩
theorem en_113 : En Try.prog 113 := fun _ _ => by kernel_rfl
theorem en_55 : En Try.prog 55 := fun _ _ => by kernel_rfl
theorem fa_52_2 : FA Try.prog 52 2 2 := fun _ _ _ => by kernel_rfl
theorem fa_52_7 : FA Try.prog 52 7 7 := fun _ _ _ => by kernel_rfl
theorem fa_52_4 : FA Try.prog 52 4 4 := fun _ _ _ => by kernel_rfl
theorem fa_52_6 : FA Try.prog 52 6 6 := fun _ _ _ => by kernel_rfl
theorem fa_52_1 : FA Try.prog 52 1 1 := fun _ _ _ => by kernel_rfl
noncomputable def rp_52 : Rp TChoice := rpSt 8 TChoice.cs (fun a => a.Witness) 1 ic (fun a v h => ⟨rfl, TChoice.cs_ones a v h⟩)
theorem zv_59 : ZV Try.prog 59 (.agg [.slice none 0 0, .int .u8 0].toArray) := fun _ => by kernel_rfl
theorem en_25 : En Try.prog 25 := fun _ _ => by kernel_rfl
theorem one_57 : One Try.prog 57 := fun _ => ⟨by kernel_rfl, by kernel_rfl⟩
theorem bs_59 : BS Try.prog 59 (fun i => [(0, 1), (1, 1)][i]?) [.slice none 0 0, .int .u8 0] := bs_mk Try.underlying59 zv_59 ⟨rfl, (one_57).siz, rfl, (one_5).siz, trivial⟩
theorem agg_59 : Agg Try.prog 59 2 := fun _ => ⟨by kernel_rfl, by kernel_rfl⟩
theorem fa_59_0 : FA Try.prog 59 0 0 := fun _ _ _ => by kernel_rfl
theorem bsl_57_1 : BSl Try.prog 57 1 52 8 [.int .u8 0, .bool false, .int .i64 0, .int .i64 0, .int .i64 0, .int .i64 0, .int .i64 0, .slice none 0 0] := bsl_mk Try.underlying57 (agg_52).siz zv_52 rfl rfl (by kernel_rfl)
theorem apt_57 : ApT Try.prog 57 52 8 72 := apt_mk Try.underlying57 rfl (by kernel_rfl)
theorem fa_59_1 : FA Try.prog 59 1 1 := fun _ _ _ => by kernel_rfl
theorem plan_within_1_w {p0 p1 bp1 r} (hm : plan_within_1 p0 p1 = some r) {w : World} (hbp1 : Bx w bp1 3 ([.int .i64 p1])) :
    Calls Try.prog 96 [.int .i64 p0, .pointer (some ⟨bp1, 0, none⟩)].toArray w fun e w' => ∃ v, e = .returned v ∧ (v = .bool r ∧ Gr w w') := by
 have lt1 := hbp1.lt
 unfold plan_within_1 at hm
 refine calls_of_sw 11 Try.func96 rfl rfl rfl<|qs 1 rfl<|qm rfl<|qd 8 rfl ?_
 refine qm rfl<|qv rfl (vv_lss (a := p0) (b := 0) rfl rfl)<|qp rfl (vv_move rfl) (fun c1 => ?_) (fun c1 => ?_)
 · replace hm := iT c1 hm
   refine qk rfl<|qk rfl<|qk rfl<|qm rfl<|qm rfl<|sd_done<|sw_ret ?_
   cases hm
   refine ⟨_, _, rfl, res_1 rfl (rv_tmp rfl), ?_⟩
   exact ⟨rfl, (Gr.refl w)⟩
 replace hm := iF c1 hm
 refine qm rfl<|qv rfl (vv_load1 (v := .int .i64 p1) one_3 rfl hbp1 rfl)<|qv rfl (vv_gtr (a := p0) (b := p1) rfl rfl)<|qm rfl<|qm rfl<|sd_done<|sw_ret ?_
 cases hm
 refine ⟨_, _, rfl, res_1 rfl (rv_tmp rfl), ?_⟩
 exact ⟨rfl, (Gr.refl w)⟩
theorem slices_IndexFunc_7bbb_plan_within_1_w {p0 p1_0 vp0 zp0 gp0 op0 bp1_0 r} (hm : slices_IndexFunc_7bbb_plan_within_1 p0 p1_0 = some r) {w : World} (hp0 : Rd w zp0 gp0 op0 1 vp0 (p0.map ic)) (hbp1_0 : Bx w bp1_0 3 ([.int .i64 p1_0])) :
    Calls Try.prog 117 [vp0, .func (.func 96) [].toArray [.pointer (some ⟨bp1_0, 0, none⟩)].toArray].toArray w fun e w' => ∃ v, e = .returned v ∧ (v = .int .i64 r ∧ Gr w w') := by
 have lt1 := hp0.lth
 have lt2 := hbp1_0.lt
 unfold slices_IndexFunc_7bbb_plan_within_1 at hm
 refine calls_of_sw 19 Try.func117 rfl rfl rfl<|qs 1 rfl<|qm rfl<|sd_done<|sw_seq<|sw_seq ?_
 refine qg 3 rfl<|qm rfl<|qv rfl (vv_lenT (l := p0) (c := ic) Try.underlying32 rfl hp0)<|qm rfl<|sd_done<|sw_block<|sw_loopD (α := Nat × Int) ([4, 5] ++ rg 8 11) (fun ⟨n1, a2⟩ => [(4, .int .i64 0), (8, .int .i64 a2)]) (fun ⟨n1, a2⟩ wr => (fixN (slices_IndexFunc_7bbb_plan_within_1_L1 p0 p1_0) n1 a2 = some r) ∧ Kz [] w wr) (fun ⟨n1, a2⟩ => n1) ⟨FUEL, 0⟩ ?_ ?_ ?_
 · exact sbq
 · exact ⟨hm, Kz.refl _ _⟩
 clear hm; rintro ⟨n1, a2⟩ w1 ⟨hm, K1⟩
 have z3 := K1.size
 have hb := fix_succ hm; clear hm; obtain ⟨n1, rfl, hm⟩ := hb
 generalize hrec1 : fixN (slices_IndexFunc_7bbb_plan_within_1_L1 p0 p1_0) n1 = rec1 at hm
 unfold slices_IndexFunc_7bbb_plan_within_1_L1 at hm
 try dsimp only at hm
 refine qs 1 rfl<|qv rfl (vv_lss (a := a2) (b := (p0.length : Int)) rfl rfl)<|sd_done<|sw_seq<|cnF rfl (fun c1 => ?_) (fun c1 => ?_)
 · replace hm := iF c1 hm
   refine sw_exit<|then_x<|then_x<|block_x<|then_n<|qs 1 rfl ?_
   refine qm rfl<|sd_done<|sw_ret ?_
   have X9 := ((Gr.refl w).kz K1)
   cases hm
   refine ⟨_, _, rfl, res_1 rfl (rv_tmp rfl), ?_⟩
   exact ⟨rfl, X9⟩
 replace hm := iT c1 hm
 refine qu<|sw_seq<|sw_block<|qs 2 rfl<|qm rfl ?_
 refine qm rfl<|qd 6 rfl<|qm rfl<|qm rfl<|qm rfl ?_
 obtain ⟨y3, hy3, hm⟩ := bnd hm
 have B4 := (hp0.kz K1)
 refine qv rfl (vv_ixT (i := a2) Try.underlying32 (one_3).siz rfl B4 rfl hy3)<|qv rfl (vv_el1T (q := 0) (u := .int .i64 y3) one_3 rfl B4 hy3 (by first | rfl | omega) rfl) ?_
 have B5 := (hbp1_0.kz K1)
 obtain ⟨x4, hx4, hm⟩ := bnd hm
 refine qe rfl (ev_callV en_96 rfl rfl (plan_within_1_w hx4 B5)) ?_
 rintro _ w2 ⟨rfl, G2⟩
 have z6 := G2.size
 refine sd_done<|sw_cond rfl (fun c2 => ?_) (fun c2 => ?_)
 · replace hm := cnd_t c2 hm
   refine qs 2 rfl<|qm rfl<|qm rfl<|sd_done<|sw_ret<|block_r ?_
   refine then_r<|then_r<|block_r<|then_r ?_
   have X7 := (((Gr.refl w).kz K1).trans G2)
   cases hm
   refine ⟨_, _, rfl, res_1 rfl (rv_tmp rfl), ?_⟩
   exact ⟨rfl, X7⟩
 replace hm := cnd_f c2 hm
 refine sw_skip<|block_n<|then_n<|qg 2 rfl<|qv rfl (vv_add (k := .i64) (a := a2) (b := 1) rfl rfl)<|qm rfl<|sd_nil ?_
 have K_8 : Kz [] w w2 := (K1.gr G2)
 subst hrec1
 exact ⟨rfl, ⟨n1, w64 (a2 + 1)⟩, sbq, ⟨hm, K_8⟩, Nat.lt_succ_self _⟩
theorem slices_ContainsFunc_5954_plan_within_1_w {p0 p1_0 vp0 zp0 gp0 op0 bp1_0 r} (hm : slices_ContainsFunc_5954_plan_within_1 p0 p1_0 = some r) {w : World} (hp0 : Rd w zp0 gp0 op0 1 vp0 (p0.map ic)) (hbp1_0 : Bx w bp1_0 3 ([.int .i64 p1_0])) :
    Calls Try.prog 95 [vp0, .func (.func 96) [].toArray [.pointer (some ⟨bp1_0, 0, none⟩)].toArray].toArray w fun e w' => ∃ v, e = .returned v ∧ (v = .bool r ∧ Gr w w') := by
 have lt1 := hp0.lth
 have lt2 := hbp1_0.lt
 unfold slices_ContainsFunc_5954_plan_within_1 at hm
 refine calls_of_sw 9 Try.func95 rfl rfl rfl<|qs 1 rfl<|qm rfl<|qd 5 rfl ?_
 refine qm rfl<|qm rfl ?_
 obtain ⟨x1, hx1, hm⟩ := bnd hm
 refine qe rfl (eC en_117 rfl (slices_IndexFunc_7bbb_plan_within_1_w hx1 hp0 hbp1_0)) ?_
 rintro _ w1 ⟨rfl, G1⟩
 have z3 := G1.size
 refine qv rfl (vv_geq (a := x1) (b := 0) rfl rfl)<|qm rfl<|sd_done<|sw_ret ?_
 have X4 := ((Gr.refl w).trans G1)
 cases hm
 refine ⟨_, _, rfl, res_1 rfl (rv_tmp rfl), ?_⟩
 exact ⟨rfl, X4⟩
theorem plan_within_w {p0 p1 vp1 zp1 gp1 op1 r} (hm : plan_within p0 p1 = some r) {w : World} (hp1 : Rd w zp1 gp1 op1 1 vp1 (p1.map ic)) :
    Calls Try.prog 59 [.int .i64 p0, vp1].toArray w fun e w' => ∃ v, e = .returned v ∧ (v = .bool r ∧ Gr w w') := by
 have lt1 := hp1.lth
 unfold plan_within at hm
 refine calls_of_sw 9 Try.func59 rfl rfl rfl<|qs 2 rfl<|qe rfl (ev_box (cs := [.int .i64 p0]) rfl rfl) ?_
 rintro _ w1 ⟨b1, rfl, hbw1, Bw1, G1⟩
 have z2 := G1.size
 have lt3 := Bw1.lt
 refine qm rfl<|qd 5 rfl<|qm rfl<|qv rfl (vv_makeFunc rfl rfl) ?_
 have B4 := (hp1.gr G1)
 obtain ⟨x1, hx1, hm⟩ := bnd hm
 refine qe rfl (eC en_95 rfl (slices_ContainsFunc_5954_plan_within_1_w hx1 B4 Bw1)) ?_
 rintro _ w2 ⟨rfl, G2⟩
 have z5 := G2.size
 refine qv rfl (vv_not rfl)<|qm rfl<|sd_done<|sw_ret ?_
 have X6 := (((Gr.refl w).trans G1).trans G2)
 cases hm
 refine ⟨_, _, rfl, res_1 rfl (rv_tmp rfl), ?_⟩
 exact ⟨rfl, X6⟩
theorem plan_CheckNeed_w {p0 r} (hm : plan_CheckNeed p0 = some r) {w : World} :
    Calls Try.prog 29 [.agg (TNeed.cs p0).toArray].toArray w fun e w' => ∃ v, e = .returned v ∧ (v = .int .i64 r ∧ Gr w w') := by
 unfold plan_CheckNeed at hm
 refine calls_of_sw 36 Try.func29 rfl rfl rfl<|qs 2 rfl<|qe rfl (ev_box (cs := TNeed.cs p0) rfl rfl) ?_
 rintro _ w1 ⟨b1, rfl, hbw1, Bw1, G1⟩
 have z1 := G1.size
 have lt2 := Bw1.lt
 refine qm rfl<|sd_done<|sw_seq ?_
 have X3 := ((Gr.refl w).trans G1)
 refine qj (β := Bool) (rg 3 33) (fun a1 => [(35, .bool a1)]) (fun a1 wr => (plan_CheckNeed_J1 a1 = some r) ∧ Kz [] w1 wr) ?_ ?_
 · refine dw [([])] [] (.leaf [(0,10),(1,10),(2,0),(3,0),(4,10),(5,10),(6,10),(7,10),(8,10),(9,10),(10,10),(11,0),(12,0),(13,10),(14,10),(15,10),(16,10),(17,10),(18,0),(19,0),(20,10),(21,10),(22,10),(23,10),(24,10),(25,10),(26,10),(27,10),(28,10),(29,0),(30,0),(31,10),(32,10)]) ?_
   intro w3 G3 zw3
   refine sdz_leaf<|dh 0 rfl rfl (fun w hS => vv_fieldAddr fa_50_0 rfl) ?_
   have B7 := (Bw1.gr G3)
   refine dh 0 rfl rfl (fun w hS => vv_load1 (v := .int .i64 p0.Depth) one_3 rfl (Bx.kp B7 hS) rfl)<|qz [] rfl (ev_litT [p0.Depth] ic bsl_32_1 rfl rfl (ws_of rfl) rfl rfl rfl) ⟨fun _ => tk0, trivial⟩ ?_
   rintro vw4 w4 ⟨gw4, hbw4, Ow4, G4⟩
   have z8 := G4.size
   have lt9 := Ow4.lth
   refine kG G4 ?_
   obtain ⟨x2, hx2, hm⟩ := bnd hm
   refine qz [] rfl (eC en_59 rfl (plan_within_w hx2 (Own.rd Ow4))) ⟨fun _ => tk0, trivial⟩ ?_
   rintro _ w5 ⟨rfl, G5⟩
   have z10 := G5.size
   refine kG G5 ?_
   have Y1 := Gr.trans G4 G5
   have S11 := ((Kp.refl ([]) w3).gr Y1)
   refine qh 0 rfl rfl S11 (fun w hS => vv_not rfl)<|qq 0 rfl rfl S11 (fun w hS => vv_move rfl) (fun c2 => ?_) (fun c2 => ?_)
   · replace hm := cnd_t c2 hm
     refine qx 0 rfl rfl S11<|qx 0 rfl rfl S11<|qx 0 rfl rfl S11<|qx 0 rfl rfl S11<|qx 0 rfl rfl S11<|qy rfl<|qy rfl ?_
     refine qx 0 rfl rfl S11<|dn 0 rfl rfl S11<|dn 0 rfl rfl S11<|qx 0 rfl rfl S11<|qx 0 rfl rfl S11<|qy rfl<|qy rfl ?_
     refine qx 0 rfl rfl S11<|dn 0 rfl rfl S11<|dn 0 rfl rfl S11<|qx 0 rfl rfl S11<|qx 0 rfl rfl S11<|qx 0 rfl rfl S11<|qx 0 rfl rfl S11 ?_
     refine qx 0 rfl rfl S11<|qx 0 rfl rfl S11<|qy rfl<|qy rfl<|qx 0 rfl rfl S11<|dn 0 rfl rfl S11<|sd_nil ?_
     have Y2 := Gr.trans G3 Y1
     exact ⟨rfl, true, sbq, hm, (kz0.gr Y2)⟩
   replace hm := cnd_f c2 hm
   refine qh 0 rfl rfl S11 (fun w hS => vv_fieldAddr fa_50_0 rfl)<|qh 0 rfl rfl S11 (fun w hS => vv_load1 (v := .int .i64 p0.Depth) one_3 rfl (Bx.kp B7 hS) rfl) ?_
   obtain ⟨nn3, hnn3, hm⟩ := bnd hm
   refine qh 0 rfl rfl S11 (fun w hS => vv_shlI (a := 1) (b := p0.Depth) rfl rfl hnn3)<|qh 0 rfl rfl S11 (fun w hS => vv_fieldAddr fa_50_1 rfl)<|qh 0 rfl rfl S11 (fun w hS => vv_load1 (v := .int .i64 p0.Revoked) one_3 rfl (Bx.kp B7 hS) rfl)<|qz [] rfl (ev_litT [p0.Revoked] ic bsl_32_1 rfl rfl (ws_of rfl) rfl rfl rfl) ⟨fun _ => tk0, trivial⟩ ?_
   rintro vw6 w6 ⟨gw6, hbw6, Ow6, G6⟩
   have z13 := G6.size
   have lt14 := Ow6.lth
   refine kG G6 ?_
   obtain ⟨x4, hx4, hm⟩ := bnd hm
   refine qz [] rfl (eC en_59 rfl (plan_within_w hx4 (Own.rd Ow6))) ⟨fun _ => tk0, trivial⟩ ?_
   rintro _ w7 ⟨rfl, G7⟩
   have z15 := G7.size
   refine kG G7 ?_
   have Y3 := Gr.trans G6 G7
   have S16 := (S11.gr Y3)
   refine qh 0 rfl rfl S16 (fun w hS => vv_not rfl)<|dn 0 rfl rfl S16<|qq 0 rfl rfl S16 (fun w hS => vv_move rfl) (fun c3 => ?_) (fun c3 => ?_)
   · replace hm := cnd_t c3 hm
     refine qx 0 rfl rfl S16<|qx 0 rfl rfl S16<|qy rfl<|qy rfl<|qx 0 rfl rfl S16<|dn 0 rfl rfl S16<|dn 0 rfl rfl S16 ?_
     refine qx 0 rfl rfl S16<|qx 0 rfl rfl S16<|qx 0 rfl rfl S16<|qx 0 rfl rfl S16<|qx 0 rfl rfl S16<|qx 0 rfl rfl S16<|qy rfl ?_
     refine qy rfl<|qx 0 rfl rfl S16<|dn 0 rfl rfl S16<|sd_nil ?_
     have Y4 := Gr.trans (Gr.trans G3 Y1) Y3
     exact ⟨rfl, true, sbq, hm, (kz0.gr Y4)⟩
   replace hm := cnd_f c3 hm
   refine qh 0 rfl rfl S16 (fun w hS => vv_fieldAddr fa_50_2 rfl)<|qh 0 rfl rfl S16 (fun w hS => vv_load1 (v := .int .i64 p0.Storage) one_3 rfl (Bx.kp B7 hS) rfl)<|qz [] rfl (ev_litT [p0.Storage] ic bsl_32_1 rfl rfl (ws_of rfl) rfl rfl rfl) ⟨fun _ => tk0, trivial⟩ ?_
   rintro vw8 w8 ⟨gw8, hbw8, Ow8, G8⟩
   have z18 := G8.size
   have lt19 := Ow8.lth
   refine kG G8 ?_
   obtain ⟨x5, hx5, hm⟩ := bnd hm
   refine qz [] rfl (eC en_59 rfl (plan_within_w hx5 (Own.rd Ow8))) ⟨fun _ => tk0, trivial⟩ ?_
   rintro _ w9 ⟨rfl, G9⟩
   have z20 := G9.size
   refine kG G9 ?_
   have S21 := ((S16.gr G8).gr G9)
   refine qh 0 rfl rfl S21 (fun w hS => vv_not rfl)<|dn 0 rfl rfl S21<|qq 0 rfl rfl S21 (fun w hS => vv_move rfl) (fun c4 => ?_) (fun c4 => ?_)
   · replace hm := cnd_t c4 hm
     refine qx 0 rfl rfl S21<|qx 0 rfl rfl S21<|qx 0 rfl rfl S21<|qx 0 rfl rfl S21<|qx 0 rfl rfl S21<|qx 0 rfl rfl S21<|qy rfl ?_
     refine qy rfl<|qx 0 rfl rfl S21<|dn 0 rfl rfl S21<|sd_nil ?_
     have Y5 := Gr.trans (Gr.trans (Gr.trans (Gr.trans G3 Y1) Y3) G8) G9
     exact ⟨rfl, true, sbq, hm, (kz0.gr Y5)⟩
   replace hm := cnd_f c4 hm
   refine qh 0 rfl rfl S21 (fun w hS => vv_fieldAddr fa_50_3 rfl)<|qh 0 rfl rfl S21 (fun w hS => vv_load1 (v := .int .i64 p0.Headers) one_3 rfl (Bx.kp B7 hS) rfl)<|qh 0 rfl rfl S21 (fun w hS => vv_fieldAddr fa_50_4 rfl)<|qh 0 rfl rfl S21 (fun w hS => vv_load1 (v := .int .i64 p0.HeaderPrice) one_3 rfl (Bx.kp B7 hS) rfl)<|qh 0 rfl rfl S21 (fun w hS => vv_fieldAddr fa_50_5 rfl)<|qh 0 rfl rfl S21 (fun w hS => vv_load1 (v := .int .i64 p0.StoragePrice) one_3 rfl (Bx.kp B7 hS) rfl)<|qz [] rfl (ev_litT [p0.Headers, p0.HeaderPrice, p0.StoragePrice] ic bsl_32_3 rfl rfl (ws_of rfl) rfl rfl rfl) ⟨fun _ => tk0, trivial⟩ ?_
   rintro vw10 w10 ⟨gw10, hbw10, Ow10, G10⟩
   have z23 := G10.size
   have lt24 := Ow10.lth
   refine kG G10 ?_
   obtain ⟨x6, hx6, hm⟩ := bnd hm
   refine qz [] rfl (eC en_59 rfl (plan_within_w hx6 (Own.rd Ow10))) ⟨fun _ => tk0, trivial⟩ ?_
   rintro _ w11 ⟨rfl, G11⟩
   have z25 := G11.size
   refine kG G11 ?_
   have S26 := ((S21.gr G10).gr G11)
   refine qh 0 rfl rfl S26 (fun w hS => vv_not rfl)<|dn 0 rfl rfl S26<|sd_nil ?_
   exact ⟨rfl, (!x6), sbq, hm, (((((((kz0.gr G3).gr Y1).gr Y3).gr G8).gr G9).gr G10).gr G11)⟩
 clear hm; rintro a1 w2 ⟨hm, K2⟩
 have z4 := K2.size
 unfold plan_CheckNeed_J1 at hm
 refine sw_cond rfl (fun c1 => ?_) (fun c1 => ?_)
 · replace hm := cnd_t c1 hm
   refine qs 1 rfl<|qm rfl<|qb ?_
   have X5 := (X3.kz K2)
   cases hm
   refine ⟨_, _, rfl, res_1 rfl (rv_tmp rfl), ?_⟩
   exact ⟨rfl, X5⟩
 replace hm := cnd_f c1 hm
 refine qu<|qs 1 rfl<|qm rfl<|sd_done<|sw_ret ?_
 have X6 := (X3.kz K2)
 cases hm
 refine ⟨_, _, rfl, res_1 rfl (rv_tmp rfl), ?_⟩
 exact ⟨rfl, X6⟩
theorem number_prime_w {p0 r} (hm : number_prime p0 = some r) {w : World} :
    Calls Try.prog 133 [wv p0].toArray w fun e w' => ∃ v, e = .returned v ∧ (v = .bool r ∧ Gr w w') := by
 unfold number_prime at hm
 refine calls_of_sw 21 Try.func133 rfl rfl rfl<|qs 1 rfl<|qm rfl<|sd_done<|sw_seq<|qj (β := Bool) (rg 4 6) (fun a1 => [(9, .bool a1)]) (fun a1 wr => (number_prime_J1 p0 a1 = some r) ∧ Kz [] w wr) ?_ ?_
 · refine qg 6 rfl<|qm rfl<|qv rfl (vv_lssU (c := p0) (d := 2#64) rfl rfl)<|qp rfl (vv_move rfl) (fun c4 => ?_) (fun c4 => ?_)
   · replace hm := iT c4 hm
     refine qk rfl<|qk rfl<|qm rfl<|sd_nil ?_
     exact ⟨rfl, true, sbq, hm, kz0⟩
   replace hm := iF c4 hm
   refine qm rfl<|qv rfl (vv_gtrU (c := p0) (d := 1048575#64) rfl rfl)<|qm rfl<|sd_nil ?_
   exact ⟨rfl, (decide (1048575#64 < p0)), sbq, hm, kz0⟩
 clear hm; rintro a1 w1 ⟨hm, K1⟩
 have z1 := K1.size
 unfold number_prime_J1 at hm
 refine sw_cond rfl (fun c1 => ?_) (fun c1 => ?_)
 · replace hm := cnd_t c1 hm
   refine qs 1 rfl<|qm rfl<|qb ?_
   have X2 := ((Gr.refl w).kz K1)
   cases hm
   refine ⟨_, _, rfl, res_1 rfl (rv_tmp rfl), ?_⟩
   exact ⟨rfl, X2⟩
 replace hm := cnd_f c1 hm
 refine qu<|sw_seq<|qs 1 rfl<|qm rfl<|sd_done ?_
 refine sw_block ?_
 have X3 := ((Gr.refl w).kz K1)
 refine sw_loopD (α := Nat × BitVec 64) ([2, 3] ++ rg 10 11) (fun ⟨n2, a3⟩ => [(2, .bool false), (3, wv a3)]) (fun ⟨n2, a3⟩ wr => (fixN (number_prime_L2 p0) n2 a3 = some r) ∧ Kz [] w1 wr) (fun ⟨n2, a3⟩ => n2) ⟨FUEL, 2#64⟩ ?_ ?_ ?_
 · exact sbq
 · exact ⟨hm, Kz.refl _ _⟩
 clear hm; rintro ⟨n2, a3⟩ w2 ⟨hm, K2⟩
 have z4 := K2.size
 have hb := fix_succ hm; clear hm; obtain ⟨n2, rfl, hm⟩ := hb
 generalize hrec2 : fixN (number_prime_L2 p0) n2 = rec2 at hm
 unfold number_prime_L2 at hm
 try dsimp only at hm
 refine sw_seq<|qs 5 rfl<|qm rfl<|qm rfl<|qv rfl (vv_umul (a := a3) (b := a3) rfl rfl)<|qm rfl ?_
 refine qv rfl (vv_leqU (c := a3 * a3) (d := p0) rfl rfl)<|sd_done<|cnF rfl (fun c2 => ?_) (fun c2 => ?_)
 · replace hm := iF c2 hm
   refine sw_exit<|then_x<|then_x<|block_x<|then_n<|qs 1 rfl ?_
   refine qm rfl<|sd_done<|sw_ret ?_
   have X7 := (X3.kz K2)
   cases hm
   refine ⟨_, _, rfl, res_1 rfl (rv_tmp rfl), ?_⟩
   exact ⟨rfl, X7⟩
 replace hm := iT c2 hm
 refine qu<|sw_seq<|sw_block<|qs 4 rfl<|qm rfl ?_
 refine qm rfl ?_
 obtain ⟨x4, hx4, hm⟩ := bnd hm
 refine qv rfl (vv_remU (c := p0) (d := a3) rfl rfl hx4)<|qv rfl (vv_eqlU (c := x4) (d := 0#64) rfl rfl)<|sd_done<|sw_cond rfl (fun c3 => ?_) (fun c3 => ?_)
 · replace hm := iT c3 hm
   refine qs 1 rfl<|qm rfl<|sd_done<|sw_ret<|block_r<|then_r ?_
   refine then_r<|block_r<|then_r ?_
   have X5 := (X3.kz K2)
   cases hm
   refine ⟨_, _, rfl, res_1 rfl (rv_tmp rfl), ?_⟩
   exact ⟨rfl, X5⟩
 replace hm := iF c3 hm
 refine sw_skip<|block_n<|then_n<|qg 3 rfl<|qm rfl<|qv rfl (vv_uadd (a := a3) (b := 1#64) rfl rfl)<|qm rfl ?_
 refine sd_nil ?_
 have K_6 : Kz [] w1 w2 := K2
 subst hrec2
 exact ⟨rfl, ⟨n2, a3 + 1#64⟩, sbq, ⟨hm, K_6⟩, Nat.lt_succ_self _⟩
theorem number_power_w {p0 p1 p2 r} (hm : number_power p0 p1 p2 = some r) {w : World} :
    Calls Try.prog 134 [wv p0, wv p1, wv p2].toArray w fun e w' => ∃ v, e = .returned v ∧ (v = wv r ∧ Gr w w') := by
 unfold number_power at hm
 refine calls_of_sw 31 Try.func134 rfl rfl rfl<|qs 1 rfl<|qm rfl<|qd 3 rfl ?_
 refine qm rfl ?_
 obtain ⟨x1, hx1, hm⟩ := bnd hm
 refine qv rfl (vv_remU (c := 1#64) (d := p2) rfl rfl hx1)<|qm rfl<|sd_done<|sw_seq<|qs 4 rfl<|qm rfl ?_
 refine qm rfl ?_
 obtain ⟨x2, hx2, hm⟩ := bnd hm
 refine qv rfl (vv_remU (c := p0) (d := p2) rfl rfl hx2)<|qm rfl<|sd_done<|sw_block<|sw_loopD (α := Nat × BitVec 64 × BitVec 64 × BitVec 64) ([0, 1, 7] ++ rg 13 17) (fun ⟨n1, a6, a7, a8⟩ => [(0, wv a6), (1, wv a7), (7, wv a8)]) (fun ⟨n1, a6, a7, a8⟩ wr => (fixN (number_power_L1 p2) n1 (a6, a7, a8) = some r) ∧ Kz [] w wr) (fun ⟨n1, a6, a7, a8⟩ => n1) ⟨FUEL, x2, p1, x1⟩ ?_ ?_ ?_
 · exact sbq
 · exact ⟨hm, Kz.refl _ _⟩
 clear hm; rintro ⟨n1, a6, a7, a8⟩ w1 ⟨hm, K1⟩
 have z1 := K1.size
 have hb := fix_succ hm; clear hm; obtain ⟨n1, rfl, hm⟩ := hb
 generalize hrec1 : fixN (number_power_L1 p2) n1 = rec1 at hm
 unfold number_power_L1 at hm
 try dsimp only at hm
 refine sw_seq<|qs 2 rfl<|qm rfl<|qv rfl (vv_gtrU (c := a7) (d := 0#64) rfl rfl)<|sd_done<|cnF rfl (fun c1 => ?_) (fun c1 => ?_)
 · replace hm := iF c1 hm
   refine sw_exit<|then_x<|then_x<|block_x<|then_n<|qs 2 rfl ?_
   refine qm rfl<|qm rfl<|sd_done<|sw_ret ?_
   have X4 := ((Gr.refl w).kz K1)
   cases hm
   refine ⟨_, _, rfl, res_1 rfl (rv_tmp rfl), ?_⟩
   exact ⟨rfl, X4⟩
 replace hm := iT c1 hm
 refine qu<|sw_seq<|sw_block<|sw_seq<|qs 3 rfl ?_
 refine qm rfl<|qv rfl (vv_uand (a := a7) (b := 1#64) rfl rfl)<|qv rfl (vv_eqlU (c := a7 &&& 1#64) (d := 1#64) rfl rfl)<|sd_done<|cnF rfl (fun c2 => ?_) (fun c2 => ?_)
 · replace hm := iF c2 hm
   refine qu<|qg 6 rfl<|qm rfl<|qm rfl<|qv rfl (vv_umul (a := a6) (b := a6) rfl rfl)<|qm rfl ?_
   obtain ⟨x12, hx12, hm⟩ := bnd hm
   refine qv rfl (vv_remU (c := a6 * a6) (d := p2) rfl rfl hx12)<|qm rfl<|sd_nil<|block_n<|then_n<|qg 3 rfl<|qm rfl ?_
   obtain ⟨nn13, hnn13, hm⟩ := bnd hm
   refine qv rfl (vv_shrU (c := a7) (b := (un 1#64)) rfl rfl hnn13)<|qm rfl<|sd_nil ?_
   have K_3 : Kz [] w w1 := K1
   subst hrec1
   exact ⟨rfl, ⟨n1, x12, a7 >>> nn13, a8⟩, sbq, ⟨hm, K_3⟩, Nat.lt_succ_self _⟩
 replace hm := iT c2 hm
 refine qg 6 rfl<|qm rfl<|qm rfl<|qv rfl (vv_umul (a := a8) (b := a6) rfl rfl)<|qm rfl ?_
 obtain ⟨x9, hx9, hm⟩ := bnd hm
 refine qv rfl (vv_remU (c := a8 * a6) (d := p2) rfl rfl hx9)<|qm rfl<|sd_done<|qg 6 rfl<|qm rfl<|qm rfl<|qv rfl (vv_umul (a := a6) (b := a6) rfl rfl) ?_
 refine qm rfl ?_
 obtain ⟨x10, hx10, hm⟩ := bnd hm
 refine qv rfl (vv_remU (c := a6 * a6) (d := p2) rfl rfl hx10)<|qm rfl<|sd_nil<|block_n<|then_n<|qg 3 rfl<|qm rfl ?_
 obtain ⟨nn11, hnn11, hm⟩ := bnd hm
 refine qv rfl (vv_shrU (c := a7) (b := (un 1#64)) rfl rfl hnn11)<|qm rfl<|sd_nil ?_
 have K_2 : Kz [] w w1 := K1
 subst hrec1
 exact ⟨rfl, ⟨n1, x10, a7 >>> nn11, x9⟩, sbq, ⟨hm, K_2⟩, Nat.lt_succ_self _⟩
theorem number_CheckGroup_w {p0 r} (hm : number_CheckGroup p0 = some r) {w : World} :
    Calls Try.prog 112 [.agg (TGroup.cs p0).toArray].toArray w fun e w' => ∃ v, e = .returned v ∧ (v = .int .i64 r ∧ Gr w w') := by
 unfold number_CheckGroup at hm
 refine calls_of_sw 44 Try.func112 rfl rfl rfl<|qs 2 rfl<|qe rfl (ev_box (cs := TGroup.cs p0) rfl rfl) ?_
 rintro _ w1 ⟨b1, rfl, hbw1, Bw1, G1⟩
 have z1 := G1.size
 have lt2 := Bw1.lt
 refine qm rfl<|sd_done<|sw_seq ?_
 have X3 := ((Gr.refl w).trans G1)
 refine qj (β := Bool) (rg 3 41) (fun a1 => [(43, .bool a1)]) (fun a1 wr => (number_CheckGroup_J1 a1 = some r) ∧ Kz [] w1 wr) ?_ ?_
 · refine qg 41 rfl<|qv rfl (vv_fieldAddr fa_24_0 rfl)<|qv rfl (vv_load1 (v := wv p0.P) one_22 rfl Bw1 rfl) ?_
   obtain ⟨x2, hx2, hm⟩ := bnd hm
   refine qe rfl (eC en_133 rfl (number_prime_w hx2)) ?_
   rintro _ w3 ⟨rfl, G3⟩
   have z7 := G3.size
   refine qv rfl (vv_not rfl)<|qp rfl (vv_move rfl) (fun c2 => ?_) (fun c2 => ?_)
   · replace hm := cnd_t c2 hm
     refine qk rfl<|qk rfl<|qk rfl<|qk rfl<|qm rfl<|qm rfl<|qk rfl ?_
     refine qk rfl<|qk rfl<|qk rfl<|qk rfl<|qk rfl<|qk rfl<|qm rfl ?_
     refine qm rfl<|qk rfl<|qk rfl<|qk rfl<|qm rfl<|qm rfl<|qk rfl ?_
     refine qk rfl<|qk rfl<|qk rfl<|qk rfl<|qm rfl<|qm rfl<|qk rfl ?_
     refine qk rfl<|qk rfl<|qk rfl<|qk rfl<|qk rfl<|qk rfl<|qk rfl ?_
     refine qm rfl<|sd_nil ?_
     exact ⟨rfl, true, sbq, hm, (kz0.gr G3)⟩
   replace hm := cnd_f c2 hm
   refine qv rfl (vv_fieldAddr fa_24_1 rfl) ?_
   have B9 := (Bw1.gr G3)
   refine qv rfl (vv_load1 (v := wv p0.Q) one_22 rfl B9 rfl) ?_
   obtain ⟨x3, hx3, hm⟩ := bnd hm
   refine qe rfl (eC en_133 rfl (number_prime_w hx3)) ?_
   rintro _ w4 ⟨rfl, G4⟩
   have z10 := G4.size
   refine qv rfl (vv_not rfl)<|qm rfl<|qp rfl (vv_move rfl) (fun c3 => ?_) (fun c3 => ?_)
   · replace hm := cnd_t c3 hm
     refine qk rfl<|qk rfl<|qk rfl<|qk rfl<|qk rfl<|qk rfl<|qk rfl ?_
     refine qm rfl<|qm rfl<|qk rfl<|qk rfl<|qk rfl<|qm rfl<|qm rfl ?_
     refine qk rfl<|qk rfl<|qk rfl<|qk rfl<|qk rfl<|qm rfl<|qm rfl ?_
     refine qk rfl<|qk rfl<|qk rfl<|qk rfl<|qk rfl<|qk rfl<|qk rfl ?_
     refine qk rfl<|qm rfl<|sd_nil ?_
     have Y1 := Gr.trans G3 G4
     exact ⟨rfl, true, sbq, hm, (kz0.gr Y1)⟩
   replace hm := cnd_f c3 hm
   refine qv rfl (vv_fieldAddr fa_24_0 rfl) ?_
   have B12 := (B9.gr G4)
   refine qv rfl (vv_load1 (v := wv p0.P) one_22 rfl B12 rfl)<|qv rfl (vv_usub (a := p0.P) (b := 1#64) rfl rfl)<|qv rfl (vv_fieldAddr fa_24_1 rfl)<|qv rfl (vv_load1 (v := wv p0.Q) one_22 rfl B12 rfl) ?_
   obtain ⟨x4, hx4, hm⟩ := bnd hm
   refine qv rfl (vv_remU (c := p0.P - 1#64) (d := p0.Q) rfl rfl hx4)<|qv rfl (vv_neqU (c := x4) (d := 0#64) rfl rfl)<|qm rfl<|qp rfl (vv_move rfl) (fun c4 => ?_) (fun c4 => ?_)
   · replace hm := iT c4 hm
     refine qk rfl<|qk rfl<|qk rfl<|qm rfl<|qm rfl<|qk rfl<|qk rfl ?_
     refine qk rfl<|qk rfl<|qk rfl<|qm rfl<|qm rfl<|qk rfl<|qk rfl ?_
     refine qk rfl<|qk rfl<|qk rfl<|qk rfl<|qk rfl<|qk rfl<|qm rfl ?_
     refine sd_nil ?_
     have Y2 := Gr.trans G3 G4
     exact ⟨rfl, true, sbq, hm, (kz0.gr Y2)⟩
   replace hm := iF c4 hm
   refine qv rfl (vv_fieldAddr fa_24_2 rfl)<|qv rfl (vv_load1 (v := wv p0.G) one_22 rfl B12 rfl)<|qv rfl (vv_lssU (c := p0.G) (d := 2#64) rfl rfl)<|qm rfl<|qp rfl (vv_move rfl) (fun c5 => ?_) (fun c5 => ?_)
   · replace hm := iT c5 hm
     refine qk rfl<|qk rfl<|qk rfl<|qk rfl<|qk rfl<|qm rfl<|qm rfl ?_
     refine qk rfl<|qk rfl<|qk rfl<|qk rfl<|qk rfl<|qk rfl<|qk rfl ?_
     refine qk rfl<|qm rfl<|sd_nil ?_
     have Y3 := Gr.trans G3 G4
     exact ⟨rfl, true, sbq, hm, (kz0.gr Y3)⟩
   replace hm := iF c5 hm
   refine qv rfl (vv_fieldAddr fa_24_2 rfl)<|qv rfl (vv_load1 (v := wv p0.G) one_22 rfl B12 rfl)<|qv rfl (vv_fieldAddr fa_24_0 rfl)<|qv rfl (vv_load1 (v := wv p0.P) one_22 rfl B12 rfl)<|qv rfl (vv_geqU (c := p0.G) (d := p0.P) rfl rfl)<|qm rfl<|qp rfl (vv_move rfl) (fun c6 => ?_) (fun c6 => ?_)
   · replace hm := iT c6 hm
     refine qk rfl<|qk rfl<|qk rfl<|qk rfl<|qk rfl<|qk rfl<|qk rfl ?_
     refine qk rfl<|qm rfl<|sd_nil ?_
     have Y4 := Gr.trans G3 G4
     exact ⟨rfl, true, sbq, hm, (kz0.gr Y4)⟩
   replace hm := iF c6 hm
   refine qv rfl (vv_fieldAddr fa_24_2 rfl)<|qv rfl (vv_load1 (v := wv p0.G) one_22 rfl B12 rfl)<|qv rfl (vv_fieldAddr fa_24_1 rfl)<|qv rfl (vv_load1 (v := wv p0.Q) one_22 rfl B12 rfl)<|qv rfl (vv_fieldAddr fa_24_0 rfl)<|qv rfl (vv_load1 (v := wv p0.P) one_22 rfl B12 rfl) ?_
   obtain ⟨x5, hx5, hm⟩ := bnd hm
   refine qe rfl (eC en_134 rfl (number_power_w hx5)) ?_
   rintro _ w5 ⟨rfl, G5⟩
   have z16 := G5.size
   refine qv rfl (vv_neqU (c := x5) (d := 1#64) rfl rfl)<|qm rfl<|sd_nil ?_
   exact ⟨rfl, (decide (x5 ≠ 1#64)), sbq, hm, (((kz0.gr G3).gr G4).gr G5)⟩
 clear hm; rintro a1 w2 ⟨hm, K2⟩
 have z4 := K2.size
 unfold number_CheckGroup_J1 at hm
 refine sw_cond rfl (fun c1 => ?_) (fun c1 => ?_)
 · replace hm := cnd_t c1 hm
   refine qs 1 rfl<|qm rfl<|qb ?_
   have X5 := (X3.kz K2)
   cases hm
   refine ⟨_, _, rfl, res_1 rfl (rv_tmp rfl), ?_⟩
   exact ⟨rfl, X5⟩
 replace hm := cnd_f c1 hm
 refine qu<|qs 1 rfl<|qm rfl<|sd_done<|sw_ret ?_
 have X6 := (X3.kz K2)
 cases hm
 refine ⟨_, _, rfl, res_1 rfl (rv_tmp rfl), ?_⟩
 exact ⟨rfl, X6⟩
theorem poly_valid_w {p0 r} (hm : poly_valid p0 = some r) {w : World} :
    Calls Try.prog 90 [.agg (TScheme.cs p0).toArray].toArray w fun e w' => ∃ v, e = .returned v ∧ (v = .bool r ∧ Gr w w') := by
 unfold poly_valid at hm
 refine calls_of_sw 45 Try.func90 rfl rfl rfl<|qs 2 rfl<|qe rfl (ev_box (cs := TScheme.cs p0) rfl rfl) ?_
 rintro _ w1 ⟨b1, rfl, hbw1, Bw1, G1⟩
 have z1 := G1.size
 have lt2 := Bw1.lt
 refine qm rfl<|sd_done<|sw_seq<|dw [([])] [] (.leaf [(0,10),(1,10),(2,10),(3,10),(4,10),(5,10),(6,10),(7,10),(8,10),(9,10),(10,10),(11,10),(12,10),(13,10),(14,10),(15,10),(16,10),(17,10),(18,10),(19,10),(20,10),(21,10),(22,10),(23,10),(24,10),(25,10),(26,0),(27,10),(28,10),(29,10),(30,10),(31,10),(32,10),(33,10),(34,10),(35,10),(36,10),(37,10),(38,10),(39,10),(40,10),(41,10),(42,10)]) ?_
 intro w2 G2 zw2
 refine sdz_leaf<|dh 0 rfl rfl (fun w hS => vv_fieldAddr fa_26_0 rfl) ?_
 have B3 := (Bw1.gr G2)
 refine dh 0 rfl rfl (fun w hS => vv_load1 (v := bv p0.Kind) one_5 rfl (Bx.kp B3 hS) rfl)<|dh 0 rfl rfl (fun w hS => vv_eqlB (p := p0.Kind) (q := 4#8) rfl rfl)<|qqF 0 rfl rfl (Kp.refl ([]) w2) (fun w hS => vv_move rfl) (fun c1 => ?_) (fun c1 => ?_)
 · replace hm := iF c1 hm
   refine dx 0 rfl rfl<|dx 0 rfl rfl<|dx 0 rfl rfl<|dm 0 rfl rfl<|dm 0 rfl rfl<|dx 0 rfl rfl<|dx 0 rfl rfl ?_
   refine dx 0 rfl rfl<|dm 0 rfl rfl<|dm 0 rfl rfl<|dx 0 rfl rfl<|dx 0 rfl rfl<|dx 0 rfl rfl<|dm 0 rfl rfl ?_
   refine dm 0 rfl rfl<|dx 0 rfl rfl<|dx 0 rfl rfl<|dx 0 rfl rfl<|dm 0 rfl rfl<|dm 0 rfl rfl<|dx 0 rfl rfl ?_
   refine dx 0 rfl rfl<|qy rfl<|dx 0 rfl rfl<|dm 0 rfl rfl<|dm 0 rfl rfl<|dx 0 rfl rfl<|dx 0 rfl rfl ?_
   refine dx 0 rfl rfl<|dx 0 rfl rfl<|dx 0 rfl rfl<|dx 0 rfl rfl<|dx 0 rfl rfl<|dx 0 rfl rfl<|dx 0 rfl rfl ?_
   refine dx 0 rfl rfl<|dx 0 rfl rfl<|dm 0 rfl rfl<|dm 0 rfl rfl<|sd_done<|sw_ret ?_
   have Y1 := Gr.trans G1 G2
   have X12 := ((Gr.refl w).trans Y1)
   cases hm
   refine ⟨_, _, rfl, res_1 rfl (rv_tmp rfl), ?_⟩
   exact ⟨rfl, X12⟩
 replace hm := iT c1 hm
 refine dh 0 rfl rfl (fun w hS => vv_fieldAddr fa_26_1 rfl)<|dh 0 rfl rfl (fun w hS => vv_load1 (v := .int .i64 p0.Depth) one_3 rfl (Bx.kp B3 hS) rfl)<|dh 0 rfl rfl (fun w hS => vv_geq (a := p0.Depth) (b := 0) rfl rfl)<|dm 0 rfl rfl<|qqF 0 rfl rfl (Kp.refl ([]) w2) (fun w hS => vv_move rfl) (fun c2 => ?_) (fun c2 => ?_)
 · replace hm := iF c2 hm
   refine dx 0 rfl rfl<|dx 0 rfl rfl<|dx 0 rfl rfl<|dm 0 rfl rfl<|dm 0 rfl rfl<|dx 0 rfl rfl<|dx 0 rfl rfl ?_
   refine dx 0 rfl rfl<|dm 0 rfl rfl<|dm 0 rfl rfl<|dx 0 rfl rfl<|dx 0 rfl rfl<|dx 0 rfl rfl<|dm 0 rfl rfl ?_
   refine dm 0 rfl rfl<|dx 0 rfl rfl<|dx 0 rfl rfl<|qy rfl<|dx 0 rfl rfl<|dm 0 rfl rfl<|dm 0 rfl rfl ?_
   refine dx 0 rfl rfl<|dx 0 rfl rfl<|dx 0 rfl rfl<|dx 0 rfl rfl<|dx 0 rfl rfl<|dx 0 rfl rfl<|dx 0 rfl rfl ?_
   refine dx 0 rfl rfl<|dx 0 rfl rfl<|dx 0 rfl rfl<|dx 0 rfl rfl<|dm 0 rfl rfl<|dm 0 rfl rfl<|sd_done ?_
   refine sw_ret ?_
   have Y2 := Gr.trans G1 G2
   have X11 := ((Gr.refl w).trans Y2)
   cases hm
   refine ⟨_, _, rfl, res_1 rfl (rv_tmp rfl), ?_⟩
   exact ⟨rfl, X11⟩
 replace hm := iT c2 hm
 refine dh 0 rfl rfl (fun w hS => vv_fieldAddr fa_26_1 rfl)<|dh 0 rfl rfl (fun w hS => vv_load1 (v := .int .i64 p0.Depth) one_3 rfl (Bx.kp B3 hS) rfl)<|dh 0 rfl rfl (fun w hS => vv_leq (a := p0.Depth) (b := 6) rfl rfl)<|dm 0 rfl rfl<|qqF 0 rfl rfl (Kp.refl ([]) w2) (fun w hS => vv_move rfl) (fun c3 => ?_) (fun c3 => ?_)
 · replace hm := iF c3 hm
   refine dx 0 rfl rfl<|dx 0 rfl rfl<|dx 0 rfl rfl<|dm 0 rfl rfl<|dm 0 rfl rfl<|dx 0 rfl rfl<|dx 0 rfl rfl ?_
   refine dx 0 rfl rfl<|dm 0 rfl rfl<|dm 0 rfl rfl<|dx 0 rfl rfl<|dx 0 rfl rfl<|qy rfl<|dx 0 rfl rfl ?_
   refine dm 0 rfl rfl<|dm 0 rfl rfl<|dx 0 rfl rfl<|dx 0 rfl rfl<|dx 0 rfl rfl<|dx 0 rfl rfl<|dx 0 rfl rfl ?_
   refine dx 0 rfl rfl<|dx 0 rfl rfl<|dx 0 rfl rfl<|dx 0 rfl rfl<|dx 0 rfl rfl<|dx 0 rfl rfl<|dm 0 rfl rfl ?_
   refine dm 0 rfl rfl<|sd_done<|sw_ret ?_
   have Y3 := Gr.trans G1 G2
   have X10 := ((Gr.refl w).trans Y3)
   cases hm
   refine ⟨_, _, rfl, res_1 rfl (rv_tmp rfl), ?_⟩
   exact ⟨rfl, X10⟩
 replace hm := iT c3 hm
 refine dh 0 rfl rfl (fun w hS => vv_fieldAddr fa_26_2 rfl)<|dh 0 rfl rfl (fun w hS => vv_load1 (v := .int .i64 p0.Degree) one_3 rfl (Bx.kp B3 hS) rfl)<|dh 0 rfl rfl (fun w hS => vv_geq (a := p0.Degree) (b := 1) rfl rfl)<|dm 0 rfl rfl<|qqF 0 rfl rfl (Kp.refl ([]) w2) (fun w hS => vv_move rfl) (fun c4 => ?_) (fun c4 => ?_)
 · replace hm := iF c4 hm
   refine dx 0 rfl rfl<|dx 0 rfl rfl<|dx 0 rfl rfl<|dm 0 rfl rfl<|dm 0 rfl rfl<|dx 0 rfl rfl<|dx 0 rfl rfl ?_
   refine qy rfl<|dx 0 rfl rfl<|dm 0 rfl rfl<|dm 0 rfl rfl<|dx 0 rfl rfl<|dx 0 rfl rfl<|dx 0 rfl rfl ?_
   refine dx 0 rfl rfl<|dx 0 rfl rfl<|dx 0 rfl rfl<|dx 0 rfl rfl<|dx 0 rfl rfl<|dx 0 rfl rfl<|dx 0 rfl rfl ?_
   refine dx 0 rfl rfl<|dm 0 rfl rfl<|dm 0 rfl rfl<|sd_done<|sw_ret ?_
   have Y4 := Gr.trans G1 G2
   have X9 := ((Gr.refl w).trans Y4)
   cases hm
   refine ⟨_, _, rfl, res_1 rfl (rv_tmp rfl), ?_⟩
   exact ⟨rfl, X9⟩
 replace hm := iT c4 hm
 refine dh 0 rfl rfl (fun w hS => vv_fieldAddr fa_26_2 rfl)<|dh 0 rfl rfl (fun w hS => vv_load1 (v := .int .i64 p0.Degree) one_3 rfl (Bx.kp B3 hS) rfl)<|dh 0 rfl rfl (fun w hS => vv_leq (a := p0.Degree) (b := 8) rfl rfl)<|dm 0 rfl rfl<|qqF 0 rfl rfl (Kp.refl ([]) w2) (fun w hS => vv_move rfl) (fun c5 => ?_) (fun c5 => ?_)
 · replace hm := iF c5 hm
   refine dx 0 rfl rfl<|dx 0 rfl rfl<|qy rfl<|dx 0 rfl rfl<|dm 0 rfl rfl<|dm 0 rfl rfl<|dx 0 rfl rfl ?_
   refine dx 0 rfl rfl<|dx 0 rfl rfl<|dx 0 rfl rfl<|dx 0 rfl rfl<|dx 0 rfl rfl<|dx 0 rfl rfl<|dx 0 rfl rfl ?_
   refine dx 0 rfl rfl<|dx 0 rfl rfl<|dx 0 rfl rfl<|dm 0 rfl rfl<|dm 0 rfl rfl<|sd_done<|sw_ret ?_
   have Y5 := Gr.trans G1 G2
   have X8 := ((Gr.refl w).trans Y5)
   cases hm
   refine ⟨_, _, rfl, res_1 rfl (rv_tmp rfl), ?_⟩
   exact ⟨rfl, X8⟩
 replace hm := iT c5 hm
 refine dh 0 rfl rfl (fun w hS => vv_fieldAddr fa_26_3 rfl)<|dh 0 rfl rfl (fun w hS => vv_loadM (vs := TGroup.cs p0.Group) agg_24 rfl (Bx.kp B3 hS) rfl rfl) ?_
 obtain ⟨x1, hx1, hm⟩ := bnd hm
 refine qz [] rfl (eC en_112 rfl (number_CheckGroup_w hx1)) ⟨fun _ => tk0, trivial⟩ ?_
 rintro _ w3 ⟨rfl, G3⟩
 have z4 := G3.size
 refine kG G3 ?_
 have S5 := ((Kp.refl ([]) w2).gr G3)
 refine qh 0 rfl rfl S5 (fun w hS => vv_eql (a := x1) (b := 0) rfl rfl)<|dn 0 rfl rfl S5<|qqF 0 rfl rfl S5 (fun w hS => vv_move rfl) (fun c6 => ?_) (fun c6 => ?_)
 · replace hm := iF c6 hm
   refine qx 0 rfl rfl S5<|qx 0 rfl rfl S5<|qx 0 rfl rfl S5<|qx 0 rfl rfl S5<|qx 0 rfl rfl S5<|qx 0 rfl rfl S5<|qx 0 rfl rfl S5 ?_
   refine qx 0 rfl rfl S5<|qx 0 rfl rfl S5<|qx 0 rfl rfl S5<|qx 0 rfl rfl S5<|dn 0 rfl rfl S5<|dn 0 rfl rfl S5<|sd_done ?_
   refine sw_ret ?_
   have X7 := ((((Gr.refl w).trans G1).trans G2).trans G3)
   cases hm
   refine ⟨_, _, rfl, res_1 rfl (rv_tmp rfl), ?_⟩
   exact ⟨rfl, X7⟩
 replace hm := iT c6 hm
 refine qh 0 rfl rfl S5 (fun w hS => vv_fieldAddr fa_26_3 rfl)<|qh 0 rfl rfl S5 (fun w hS => vv_fieldAddr fa_24_1 rfl)<|qh 0 rfl rfl S5 (fun w hS => vv_load1 (v := wv p0.Group.Q) one_22 rfl (Bx.kp B3 hS) rfl)<|qh 0 rfl rfl S5 (fun w hS => vv_fieldAddr fa_26_1 rfl)<|qh 0 rfl rfl S5 (fun w hS => vv_load1 (v := .int .i64 p0.Depth) one_3 rfl (Bx.kp B3 hS) rfl) ?_
 obtain ⟨nn2, hnn2, hm⟩ := bnd hm
 refine qh 0 rfl rfl S5 (fun w hS => vv_shlI (a := 1) (b := p0.Depth) rfl rfl hnn2)<|qh 0 rfl rfl S5 (fun w hS => vv_fieldAddr fa_26_2 rfl)<|qh 0 rfl rfl S5 (fun w hS => vv_load1 (v := .int .i64 p0.Degree) one_3 rfl (Bx.kp B3 hS) rfl)<|qh 0 rfl rfl S5 (fun w hS => vv_add (k := .i64) (a := shlI 1 nn2) (b := p0.Degree) rfl rfl)<|qh 0 rfl rfl S5 (fun w hS => vv_cvIU cv_3_22 rfl)<|qh 0 rfl rfl S5 (fun w hS => vv_gtrU (c := p0.Group.Q) (d := wd (w64 ((shlI 1 nn2) + p0.Degree))) rfl rfl)<|dn 0 rfl rfl S5 ?_
 refine dn 0 rfl rfl S5<|sd_done<|sw_ret ?_
 have X6 := ((((Gr.refl w).trans G1).trans G2).trans G3)
 cases hm
 refine ⟨_, _, rfl, res_1 rfl (rv_tmp rfl), ?_⟩
 exact ⟨rfl, X6⟩
theorem poly_Check_w {p0 r} (hm : poly_Check p0 = some r) {w : World} :
    Calls Try.prog 54 [.agg (TScheme.cs p0).toArray].toArray w fun e w' => ∃ v, e = .returned v ∧ (v = .int .i64 r ∧ Gr w w') := by
 unfold poly_Check at hm
 refine calls_of_sw 6 Try.func54 rfl rfl rfl<|qs 2 rfl<|qe rfl (ev_box (cs := TScheme.cs p0) rfl rfl) ?_
 rintro _ w1 ⟨b1, rfl, hbw1, Bw1, G1⟩
 have z1 := G1.size
 have lt2 := Bw1.lt
 refine qm rfl<|sd_done<|sw_seq<|qs 3 rfl<|qv rfl (vv_loadW agg_26 rfl Bw1 rfl) ?_
 obtain ⟨x1, hx1, hm⟩ := bnd hm
 refine qe rfl (eC en_90 rfl (poly_valid_w hx1)) ?_
 rintro _ w2 ⟨rfl, G2⟩
 have z3 := G2.size
 refine qv rfl (vv_not rfl)<|sd_done<|sw_cond rfl (fun c1 => ?_) (fun c1 => ?_)
 · replace hm := cnd_t c1 hm
   refine qs 1 rfl<|qm rfl<|qb ?_
   have X4 := (((Gr.refl w).trans G1).trans G2)
   cases hm
   refine ⟨_, _, rfl, res_1 rfl (rv_tmp rfl), ?_⟩
   exact ⟨rfl, X4⟩
 replace hm := cnd_f c1 hm
 refine qu<|qs 1 rfl<|qm rfl<|sd_done<|sw_ret ?_
 have X5 := (((Gr.refl w).trans G1).trans G2)
 cases hm
 refine ⟨_, _, rfl, res_1 rfl (rv_tmp rfl), ?_⟩
 exact ⟨rfl, X5⟩
theorem cover_tree_size_w {p0 r} (hm : cover_tree_size p0 = some r) {w : World} :
    Calls Try.prog 99 [.agg (Tcover_tree.cs p0).toArray].toArray w fun e w' => ∃ v, e = .returned v ∧ (v = .int .i64 r ∧ Gr w w') := by
 unfold cover_tree_size at hm
 refine calls_of_sw 6 Try.func99 rfl rfl rfl<|qs 2 rfl<|qe rfl (ev_box (cs := Tcover_tree.cs p0) rfl rfl) ?_
 rintro _ w1 ⟨b1, rfl, hbw1, Bw1, G1⟩
 have z1 := G1.size
 have lt2 := Bw1.lt
 refine qm rfl<|qd 4 rfl<|qv rfl (vv_fieldAddr fa_109_1 rfl)<|qv rfl (vv_load1 (v := .int .i64 p0.depth) one_3 rfl Bw1 rfl) ?_
 obtain ⟨nn1, hnn1, hm⟩ := bnd hm
 refine qv rfl (vv_shlI (a := 1) (b := p0.depth) rfl rfl hnn1)<|qm rfl<|sd_done<|sw_ret ?_
 have X3 := ((Gr.refl w).trans G1)
 cases hm
 refine ⟨_, _, rfl, res_1 rfl (rv_tmp rfl), ?_⟩
 exact ⟨rfl, X3⟩
theorem cover_tree_has_w {p0 p1 r} (hm : cover_tree_has p0 p1 = some r) {w : World} :
    Calls Try.prog 118 [.agg (Tcover_tree.cs p0).toArray, .int .i64 p1].toArray w fun e w' => ∃ v, e = .returned v ∧ (v = .bool r ∧ Gr w w') := by
 unfold cover_tree_has at hm
 refine calls_of_sw 14 Try.func118 rfl rfl rfl<|qs 2 rfl<|qe rfl (ev_box (cs := Tcover_tree.cs p0) rfl rfl) ?_
 rintro _ w1 ⟨b1, rfl, hbw1, Bw1, G1⟩
 have z1 := G1.size
 have lt2 := Bw1.lt
 refine qm rfl<|qd 10 rfl<|qm rfl<|qv rfl (vv_geq (a := p1) (b := 1) rfl rfl)<|qpF rfl (vv_move rfl) (fun c1 => ?_) (fun c1 => ?_)
 · replace hm := iF c1 hm
   refine qk rfl<|qk rfl<|qk rfl<|qk rfl<|qk rfl<|qm rfl<|qm rfl ?_
   refine sd_done<|sw_ret ?_
   have X5 := ((Gr.refl w).trans G1)
   cases hm
   refine ⟨_, _, rfl, res_1 rfl (rv_tmp rfl), ?_⟩
   exact ⟨rfl, X5⟩
 replace hm := iT c1 hm
 refine qm rfl<|qv rfl (vv_loadW agg_109 rfl Bw1 rfl) ?_
 obtain ⟨x1, hx1, hm⟩ := bnd hm
 refine qe rfl (eC en_99 rfl (cover_tree_size_w hx1)) ?_
 rintro _ w2 ⟨rfl, G2⟩
 have z3 := G2.size
 refine qv rfl (vv_mul (k := .i64) (a := 2) (b := x1) rfl rfl)<|qv rfl (vv_lss (a := p1) (b := w64 (2 * x1)) rfl rfl)<|qm rfl<|qm rfl<|sd_done<|sw_ret ?_
 have X4 := (((Gr.refl w).trans G1).trans G2)
 cases hm
 refine ⟨_, _, rfl, res_1 rfl (rv_tmp rfl), ?_⟩
 exact ⟨rfl, X4⟩
theorem cover_node_level_w {p0 r} (hm : cover_node_level p0 = some r) {w : World} :
    Calls Try.prog 102 [.int .i64 p0].toArray w fun e w' => ∃ v, e = .returned v ∧ (v = .int .i64 r ∧ Gr w w') := by
 unfold cover_node_level at hm
 refine calls_of_sw 7 Try.func102 rfl rfl rfl<|qs 1 rfl<|qm rfl<|qd 5 rfl ?_
 refine qm rfl<|qv rfl (vv_cvIU cv_116_118 rfl)<|qe rfl (eC en_104 rfl (len_c (un (wd p0)) (un_nonneg _) (by have := un_le (wd p0); omega) _)) ?_
 rintro _ w1 ⟨rfl, G1⟩
 have z1 := G1.size
 refine qv rfl (vv_sub (k := .i64) (a := lg (un (wd p0))) (b := 1) rfl rfl)<|qm rfl<|sd_done<|sw_ret ?_
 have X2 := ((Gr.refl w).trans G1)
 cases hm
 refine ⟨_, _, rfl, res_1 rfl (rv_tmp rfl), ?_⟩
 exact ⟨rfl, X2⟩
theorem cover_node_below_w {p0 p1 r} (hm : cover_node_below p0 p1 = some r) {w : World} :
    Calls Try.prog 119 [.int .i64 p0, .int .i64 p1].toArray w fun e w' => ∃ v, e = .returned v ∧ (v = .bool r ∧ Gr w w') := by
 unfold cover_node_below at hm
 refine calls_of_sw 27 Try.func119 rfl rfl rfl<|qs 1 rfl<|qm rfl<|sd_done<|sw_seq<|qj (β := Bool) (rg 5 13) (fun a1 => [(17, .bool a1)]) (fun a1 wr => (cover_node_below_J1 p0 p1 a1 = some r) ∧ Kz [] w wr) ?_ ?_
 · refine qg 13 rfl<|qm rfl<|qv rfl (vv_lss (a := p0) (b := 1) rfl rfl)<|qp rfl (vv_move rfl) (fun c2 => ?_) (fun c2 => ?_)
   · replace hm := iT c2 hm
     refine qk rfl<|qk rfl<|qm rfl<|qm rfl<|qk rfl<|qk rfl<|qk rfl ?_
     refine qk rfl<|qk rfl<|qm rfl<|sd_nil ?_
     exact ⟨rfl, true, sbq, hm, kz0⟩
   replace hm := iF c2 hm
   refine qm rfl<|qv rfl (vv_lss (a := p1) (b := 1) rfl rfl)<|qm rfl<|qp rfl (vv_move rfl) (fun c3 => ?_) (fun c3 => ?_)
   · replace hm := iT c3 hm
     refine qk rfl<|qk rfl<|qk rfl<|qk rfl<|qk rfl<|qm rfl<|sd_nil ?_
     exact ⟨rfl, true, sbq, hm, kz0⟩
   replace hm := iF c3 hm
   refine qm rfl ?_
   obtain ⟨x5, hx5, hm⟩ := bnd hm
   refine qe rfl (eC en_102 rfl (cover_node_level_w hx5)) ?_
   rintro _ w4 ⟨rfl, G4⟩
   have z8 := G4.size
   refine qm rfl ?_
   obtain ⟨x6, hx6, hm⟩ := bnd hm
   refine qe rfl (eC en_102 rfl (cover_node_level_w hx6)) ?_
   rintro _ w5 ⟨rfl, G5⟩
   have z9 := G5.size
   refine qv rfl (vv_lss (a := x5) (b := x6) rfl rfl)<|qm rfl<|sd_nil ?_
   exact ⟨rfl, (decide (x5 < x6)), sbq, hm, ((kz0.gr G4).gr G5)⟩
 clear hm; rintro a1 w1 ⟨hm, K1⟩
 have z1 := K1.size
 unfold cover_node_below_J1 at hm
 refine sw_cond rfl (fun c1 => ?_) (fun c1 => ?_)
 · replace hm := cnd_t c1 hm
   refine qs 1 rfl<|qm rfl<|qb ?_
   have X2 := ((Gr.refl w).kz K1)
   cases hm
   refine ⟨_, _, rfl, res_1 rfl (rv_tmp rfl), ?_⟩
   exact ⟨rfl, X2⟩
 replace hm := cnd_f c1 hm
 refine qu<|qs 10 rfl<|qm rfl<|qm rfl ?_
 obtain ⟨x2, hx2, hm⟩ := bnd hm
 refine qe rfl (eC en_102 rfl (cover_node_level_w hx2)) ?_
 rintro _ w2 ⟨rfl, G2⟩
 have z3 := G2.size
 refine qm rfl ?_
 obtain ⟨x3, hx3, hm⟩ := bnd hm
 refine qe rfl (eC en_102 rfl (cover_node_level_w hx3)) ?_
 rintro _ w3 ⟨rfl, G3⟩
 have z4 := G3.size
 refine qv rfl (vv_sub (k := .i64) (a := x2) (b := x3) rfl rfl) ?_
 obtain ⟨nn4, hnn4, hm⟩ := bnd hm
 refine qv rfl (vv_shrI (a := p0) (b := (w64 (x2 - x3))) rfl rfl hnn4)<|qm rfl<|qv rfl (vv_eql (a := shrI p0 nn4) (b := p1) rfl rfl)<|qm rfl<|sd_done<|sw_ret ?_
 have X5 := ((((Gr.refl w).kz K1).trans G2).trans G3)
 cases hm
 refine ⟨_, _, rfl, res_1 rfl (rv_tmp rfl), ?_⟩
 exact ⟨rfl, X5⟩
theorem cover_tree_special_w {p0 p1 r} (hm : cover_tree_special p0 p1 = some r) {w : World} :
    Calls Try.prog 68 [.agg (Tcover_tree.cs p0).toArray, .int .i64 p1].toArray w fun e w' => ∃ v, e = .returned v ∧ (v = .bool r ∧ Gr w w') := by
 unfold cover_tree_special at hm
 refine calls_of_sw 11 Try.func68 rfl rfl rfl<|qs 2 rfl<|qe rfl (ev_box (cs := Tcover_tree.cs p0) rfl rfl) ?_
 rintro _ w1 ⟨b1, rfl, hbw1, Bw1, G1⟩
 have z1 := G1.size
 have lt2 := Bw1.lt
 refine qm rfl<|sd_done<|sw_seq<|dw [([])] [] (.leaf [(0,10),(2,10),(3,10),(1,0),(4,10),(5,10),(6,10)]) ?_
 intro w2 G2 zw2
 refine sdz_leaf<|dm 0 rfl rfl<|dh 0 rfl rfl (fun w hS => vv_fieldAddr fa_109_2 rfl) ?_
 have B3 := (Bw1.gr G2)
 refine dh 0 rfl rfl (fun w hS => vv_load1 (v := .int .i64 p0.stride) one_3 rfl (Bx.kp B3 hS) rfl) ?_
 obtain ⟨x1, hx1, hm⟩ := bnd hm
 refine qz [] rfl (eC en_102 rfl (cover_node_level_w hx1)) ⟨fun _ => tk0, trivial⟩ ?_
 rintro _ w3 ⟨rfl, G3⟩
 have z4 := G3.size
 refine kG G3 ?_
 obtain ⟨x2, hx2, hm⟩ := bnd hm
 have S5 := ((Kp.refl ([]) w2).gr G3)
 refine qh 0 rfl rfl S5 (fun w hS => vv_remI (a := x1) (b := p0.stride) rfl rfl hx2)<|qh 0 rfl rfl S5 (fun w hS => vv_eql (a := x2) (b := 0) rfl rfl)<|dn 0 rfl rfl S5<|sd_done<|sw_ret ?_
 have X6 := ((((Gr.refl w).trans G1).trans G2).trans G3)
 cases hm
 refine ⟨_, _, rfl, res_1 rfl (rv_tmp rfl), ?_⟩
 exact ⟨rfl, X6⟩
theorem cover_path_w {p0 p1 r} (hm : cover_path p0 p1 = some r) {w : World} :
    Calls Try.prog 101 [.int .i64 p0, .int .i64 p1].toArray w fun e w' => ∃ v, e = .returned v ∧ (∃ bc0 bc1, v = .func (.func 120) #[] [.pointer (some ⟨bc0, 0, none⟩), .pointer (some ⟨bc1, 0, none⟩)].toArray ∧ Bx w' bc0 116 ([.int .i64 r.1]) ∧ (w.heap.size ≤ bc0) ∧ Bx w' bc1 116 ([.int .i64 r.2]) ∧ (w.heap.size ≤ bc1) ∧ Gr w w') := by
 unfold cover_path at hm
 refine calls_of_sw 6 Try.func101 rfl rfl rfl<|qs 3 rfl<|qe rfl (ev_box (cs := [.int .i64 p0]) rfl rfl) ?_
 rintro _ w1 ⟨b1, rfl, hbw1, Bw1, G1⟩
 have z1 := G1.size
 have lt2 := Bw1.lt
 refine qe rfl (ev_box (cs := [.int .i64 p1]) rfl rfl) ?_
 rintro _ w2 ⟨b2, rfl, hbw2, Bw2, G2⟩
 have z3 := G2.size
 have lt4 := Bw2.lt
 refine qm rfl<|qd 2 rfl<|qv rfl (vv_makeFunc rfl rfl)<|qm rfl<|sd_done ?_
 refine sw_ret ?_
 have B5 := (Bw1.gr G2)
 have X6 := (((Gr.refl w).trans G1).trans G2)
 cases hm
 refine ⟨_, _, rfl, res_1 rfl (rv_tmp rfl), ?_⟩
 exact ⟨b1, b2, rfl, B5, by omega, Bw2, by omega, X6⟩
theorem cover_node_toward_w {p0 p1 r} (hm : cover_node_toward p0 p1 = some r) {w : World} :
    Calls Try.prog 114 [.int .i64 p0, .int .i64 p1].toArray w fun e w' => ∃ v, e = .returned v ∧ (v = .int .i64 r ∧ Gr w w') := by
 unfold cover_node_toward at hm
 refine calls_of_sw 13 Try.func114 rfl rfl rfl<|qs 1 rfl<|qm rfl<|qd 9 rfl ?_
 refine qm rfl<|qm rfl ?_
 obtain ⟨x1, hx1, hm⟩ := bnd hm
 refine qe rfl (eC en_102 rfl (cover_node_level_w hx1)) ?_
 rintro _ w1 ⟨rfl, G1⟩
 have z1 := G1.size
 refine qm rfl ?_
 obtain ⟨x2, hx2, hm⟩ := bnd hm
 refine qe rfl (eC en_102 rfl (cover_node_level_w hx2)) ?_
 rintro _ w2 ⟨rfl, G2⟩
 have z2 := G2.size
 refine qv rfl (vv_sub (k := .i64) (a := x1) (b := x2) rfl rfl)<|qv rfl (vv_sub (k := .i64) (a := w64 (x1 - x2)) (b := 1) rfl rfl) ?_
 obtain ⟨nn3, hnn3, hm⟩ := bnd hm
 refine qv rfl (vv_shrI (a := p1) (b := (w64 ((w64 (x1 - x2)) - 1))) rfl rfl hnn3)<|qm rfl<|sd_done<|sw_ret ?_
 have X3 := (((Gr.refl w).trans G1).trans G2)
 cases hm
 refine ⟨_, _, rfl, res_1 rfl (rv_tmp rfl), ?_⟩
 exact ⟨rfl, X3⟩
theorem cover_path_1_it (p1 : Int) (p2 : Int) (bp1 : Nat) (bp2 : Nat) (xs : List Int) (hm : cover_path_1 p1 p2 = some xs) (w0 : World) (hbp1 : Bx w0 bp1 116 ([.int .i64 p1])) (hbp2 : Bx w0 bp2 116 ([.int .i64 p2])) :
    IT Try.prog 120 [.pointer (some ⟨bp1, 0, none⟩), .pointer (some ⟨bp2, 0, none⟩)] (xs.map (fun (x : Int) => ([.int .i64 x] : List Value))) ([bp1] ++ [bp2]) w0 := by
 intro l J Jx w fp hG hJ hJx hcap h0 hY
 have c1 := Bx.gr hbp1 hG
 have lt2 := c1.lt
 have nb3 : bp1 ∉ fp := hcap _ (by simp)
 have c4 := Bx.gr hbp2 hG
 have lt5 := c4.lt
 have nb6 : bp2 ∉ fp := hcap _ (by simp)
 have hd := dr_0 xs
 unfold cover_path_1 at hm
 refine calls_of_sw 16 Try.func120 rfl rfl rfl<|qs 2 rfl<|qv rfl (vv_load1 (v := .int .i64 p1) one_116 rfl c1 rfl)<|qm rfl<|sd_done<|sw_block ?_
 refine sw_loopD (α := Nat × Int × Nat × List Nat × List Int) ([4] ++ rg 6 10) (fun ⟨n1, a2, kk, fpl, rl⟩ => [(4, .int .i64 a2)]) (fun ⟨n1, a2, kk, fpl, rl⟩ wr => (fixN (cover_path_1_L1 p2) n1 a2 = some rl) ∧ Dr xs kk rl ∧ J kk fpl wr ∧ (∀ c ∈ fpl, c ∈ fp ∨ w.heap.size ≤ c) ∧ Kp fp w wr ∧ Bx wr bp1 116 ([.int .i64 p1]) ∧ Bx wr bp2 116 ([.int .i64 p2]) ∧ bp1 ∉ fpl ∧ bp2 ∉ fpl ∧ True) (fun ⟨n1, a2, kk, fpl, rl⟩ => n1) ⟨FUEL, p1, 0, fp, xs⟩ ?_ ?_ ?_
 · exact sbq
 · exact ⟨hm, hd, h0, (fun c hc => Or.inl hc), (Kp.refl fp w), c1, c4, nb3, nb6, trivial⟩
 clear hm; rintro ⟨n1, a2, kk1, fpl1, rl1⟩ w1 ⟨hm, dl1, JLw1, sl1, KLw1, Sw1_0, Sw1_1, Nw1_0, Nw1_1, -⟩
 have z7 := KLw1.size
 have lt8 := Sw1_0.lt
 have lt9 := Sw1_1.lt
 have hb := fix_succ hm; clear hm; obtain ⟨n1, rfl, hm⟩ := hb
 generalize hrec1 : fixN (cover_path_1_L1 p2) n1 = rec1 at hm
 unfold cover_path_1_L1 at hm
 try dsimp only at hm
 refine sw_seq<|qs 3 rfl<|qm rfl<|qv rfl (vv_load1 (v := .int .i64 p2) one_116 rfl Sw1_1 rfl)<|qv rfl (vv_neq (a := a2) (b := p2) rfl rfl)<|sd_done ?_
 refine cnF rfl (fun c1 => ?_) (fun c1 => ?_)
 · replace hm := iF c1 hm
   refine sw_exit<|then_x<|then_x<|block_x ?_
   have he := Option.some.inj hm
   have hl := Dr.last (c := (fun (x : Int) => ([.int .i64 x] : List Value))) dl1 he.symm
   refine ⟨_, _, rfl, res_none rfl, KLw1, .inl ⟨_, sl1, ?_⟩⟩
   rw [← hl]; exact JLw1
 replace hm := iT c1 hm
 refine qu<|sw_block<|qs 4 rfl<|qm rfl<|qv rfl (vv_load1 (v := .int .i64 p2) one_116 rfl Sw1_1 rfl) ?_
 obtain ⟨x3, hx3, hm⟩ := bnd hm
 refine qe rfl (eC en_114 rfl (cover_node_toward_w hx3)) ?_
 rintro _ w2 ⟨rfl, G2⟩
 have z10 := G2.size
 refine qm rfl<|qd 4 rfl<|qm rfl<|qm rfl ?_
 have J12 := (hJ.gr JLw1 G2)
 have KI13 : Kp fp w w2 := (KLw1.gr G2)
 obtain ⟨rr11, hm, he11⟩ := yl_some hm
 have hx11 := Dr.at dl1 he11
 have hd11 := Dr.next dl1 he11
 have B14 := (Sw1_0.gr G2)
 have B15 := (Sw1_1.gr G2)
 refine qe rfl (ev_yield rfl rfl (hY _ _ _ _ (getm hx11) J12 KI13 sl1)) ?_
 rintro _ w3 ⟨bb, rfl, KF11, fp11, hg11, hJb⟩
 have z16 := KF11.size
 have sub11 : ∀ c ∈ fp11, c ∈ fp ∨ w.heap.size ≤ c := sub_grow sl1 hg11 (by omega)
 have nb17 := notin_grow hg11 Nw1_0 (by omega)
 have nb18 := notin_grow hg11 Nw1_1 (by omega)
 cases bb
 · have Jy11 : Jx (kk1 + 1) fp11 w3 := hJb
   refine qv rfl (vv_not rfl)<|sd_done<|sw_condT rfl<|sw_ret<|block_r<|then_r<|block_r ?_
   have KI19 : Kp fp w w3 := (KI13.trans KF11 sl1)
   exact ⟨_, _, rfl, res_none rfl, KI19, .inr ⟨_, _, sub11, (by rw [List.length_map]; exact (List.getElem?_eq_some_iff.1 hx11).1), Jy11⟩⟩
 have Jy11 : J (kk1 + 1) fp11 w3 := hJb
 refine qv rfl (vv_not rfl)<|sd_done<|sw_condF rfl<|sw_skip<|block_n ?_
 have KI20 : Kp fp w w3 := (KI13.trans KF11 sl1)
 have B21 := (Bx.kp B14 KF11 Nw1_0)
 have B22 := (Bx.kp B15 KF11 Nw1_1)
 subst hrec1
 exact ⟨rfl, ⟨n1, x3, (kk1 + 1), fp11, rr11⟩, sbq, ⟨hm, hd11, Jy11, sub11, KI20, B21, B22, nb17, nb18, trivial⟩, Nat.lt_succ_self _⟩
theorem cover_first_cover_path_1_cover_tree_special_w {p0_0 p0_1 p1_0 bp0_0 bp0_1 r} (hm : cover_first_cover_path_1_cover_tree_special p0_0 p0_1 p1_0 = some r) {w : World} (hbp0_0 : Bx w bp0_0 116 ([.int .i64 p0_0])) (hbp0_1 : Bx w bp0_1 116 ([.int .i64 p0_1])) :
    Calls Try.prog 100 [.func (.func 120) [].toArray [.pointer (some ⟨bp0_0, 0, none⟩), .pointer (some ⟨bp0_1, 0, none⟩)].toArray, .func (.func 68) [.agg (Tcover_tree.cs p1_0).toArray].toArray [].toArray].toArray w fun e w' => ∃ v, e = .returned v ∧ (v = .int .i64 r ∧ Gr w w') := by
 have lt1 := hbp0_0.lt
 have lt2 := hbp0_1.lt
 unfold cover_first_cover_path_1_cover_tree_special at hm
 refine calls_of_sw 12 Try.func100 rfl rfl rfl<|qs 2 rfl<|qe rfl (ev_box rfl rfl) ?_
 rintro _ w1 ⟨b1, rfl, hbw1, Bw1, G1⟩
 have z3 := G1.size
 have lt4 := Bw1.lt
 refine qe rfl (ev_alloc (cs := [.int .i64 0]) zv_116 rfl) ?_
 rintro _ w2 ⟨b2, rfl, hbw2, Bw2, G2⟩
 have z5 := G2.size
 have lt6 := Bw2.lt
 refine sd_done<|sw_seq<|qs 1 rfl<|qm rfl<|sd_done<|sw_block ?_
 have B7 := ((hbp0_0.gr G1).gr G2)
 have B8 := ((hbp0_1.gr G1).gr G2)
 obtain ⟨l1, hl1, hm⟩ := bnd hm
 have X9 := (((Gr.refl w).trans G1).trans G2)
 have B10 := (Bw1.gr G2)
 refine sw_rangeFunc (gf := 120) rfl en_120 (cover_path_1_it p0_0 p0_1 _ _ _ hl1 _ B7 B8) (by intro x hx; obtain ⟨a, _, rfl⟩ := List.mem_map.1 hx; rfl) rfl _ _ ([b2]) (stb_mk (α := Int) (fun a3 rk => itL (cover_first_cover_path_1_cover_tree_special_R1 p1_0) cover_first_cover_path_1_cover_tree_special_D1 (List.drop rk l1) a3 = some r) (fun a3 => ([b2])) (fun a3 W => Bx W b2 116 ([.int .i64 a3]) ∧ True) (by rintro a3 W ⟨F0, _⟩ b hb; have q0 := F0.lt; replace hb : b ∈ ([b2]) := hb; simp only [List.mem_cons, List.mem_append, mem_zf, List.not_mem_nil, or_false, false_or, not_or, ne_eq, List.nil_append, List.cons_append, true_and, and_true, false_and, and_false, not_true_eq_false, not_false_eq_true, or_true, true_or] at hb; omega) (by rintro a3 W W' ⟨F0, _⟩ E hs; replace hs : ∀ b ∈ ([b2]), W'.heap[b]? = W.heap[b]? := hs; exact ⟨(hs _ (by simp)).trans F0, trivial⟩)) (fun c => (stb_c (c = .ret) (stb_mk (α := Int) (fun a3 rk => cover_first_cover_path_1_cover_tree_special_X1_0 a3 = some r) (fun a3 => ([b2])) (fun a3 W => Bx W b2 116 ([.int .i64 a3]) ∧ True) (by rintro a3 W ⟨F0, _⟩ b hb; have q0 := F0.lt; replace hb : b ∈ ([b2]) := hb; simp only [List.mem_cons, List.mem_append, mem_zf, List.not_mem_nil, or_false, false_or, not_or, ne_eq, List.nil_append, List.cons_append, true_and, and_true, false_and, and_false, not_true_eq_false, not_false_eq_true, or_true, true_or] at hb; omega) (by rintro a3 W W' ⟨F0, _⟩ E hs; replace hs : ∀ b ∈ ([b2]), W'.heap[b]? = W.heap[b]? := hs; exact ⟨(hs _ (by simp)).trans F0, trivial⟩)))) (by intro b hb; simp only [List.mem_cons, List.mem_append, mem_zf, List.not_mem_nil, or_false, false_or, not_or, ne_eq, List.nil_append, List.cons_append, true_and, and_true, false_and, and_false, not_true_eq_false, not_false_eq_true, or_true, true_or] at hb ⊢; omega) ⟨0, hm, rfl, Bw2, trivial⟩ ?_ ?_ ?_
 · rintro l rk x fp w3 hl hx _ K3 hF hln hlt
   clear hm
   obtain ⟨e4, hxe, rfl⟩ := map_some hx
   have Zw3 : Kz [(1, b2)] w2 w3 := kz_of_kp K3 (by intro k hk; simp only [Nin, and_true, List.mem_cons, List.mem_append, mem_zf, List.not_mem_nil, or_false, false_or, not_or, ne_eq, List.nil_append, List.cons_append, true_and, and_true, false_and, and_false, not_true_eq_false, not_false_eq_true, or_true, true_or] at hk ⊢; omega)
   have z11 := K3.size
   refine qg 1 rfl<|qm rfl<|sd_nil<|⟨rfl, (Gr.refl _), ?_⟩
   rintro w4 M4 ⟨a3, hm, rfl, Fw4_0, -⟩
   have z12 := M4.size
   have lt13 := Fw4_0.lt
   replace hm := itL_at hm hxe
   generalize hnx1 : itL (cover_first_cover_path_1_cover_tree_special_R1 p1_0) cover_first_cover_path_1_cover_tree_special_D1 (List.drop (rk + 1) l1) = nx1 at hm
   unfold cover_first_cover_path_1_cover_tree_special_R1 at hm
   try dsimp only at hm
   refine sw_block<|qs 3 rfl ?_
   have B14 := ((B10.kz Zw3).md M4)
   refine qv rfl (vv_load1 one_122 rfl B14 rfl)<|qm rfl ?_
   obtain ⟨x5, hx5, hm⟩ := bnd hm
   refine qe rfl (ev_callV en_68 rfl rfl (cover_tree_special_w hx5)) ?_
   rintro _ w5 ⟨rfl, G5⟩
   have z15 := G5.size
   refine sd_done<|sw_cond rfl (fun c1 => ?_) (fun c1 => ?_)
   · replace hm := cnd_t c1 hm
     refine qs 2 rfl<|qm rfl ?_
     have B16 := (Fw4_0.gr G5)
     refine qe rfl (ev_st1 (cs' := [.int .i64 e4]) (one_116).siz rfl rfl rfl B16 rfl rfl) ?_
     rintro _ w6 ⟨Bw6, M6⟩
     have z17 := M6.size
     refine sd_done<|sw_ret<|block_r ?_
     have K_18 : Kz [(1, b2)] w4 w6 := ((Kz.gr (Kz.refl _ _) G5).md M6)
     have Kq18 : Kp ([b2]) w4 w6 := kp_of_kz K_18 (by intro k hk; simp only [Nin, and_true, List.mem_cons, List.mem_append, mem_zf, List.not_mem_nil, or_false, false_or, not_or, ne_eq, List.nil_append, List.cons_append, true_and, and_true, false_and, and_false, not_true_eq_false, not_false_eq_true, or_true, true_or] at hk ⊢; omega)
     exact ⟨Kq18, ([b2]), (by intro c hc; simp only [List.mem_cons, List.mem_append, mem_zf, List.not_mem_nil, or_false, false_or, not_or, ne_eq, List.nil_append, List.cons_append, true_and, and_true, false_and, and_false, not_true_eq_false, not_false_eq_true, or_true, true_or] at hc ⊢; omega), ⟨rfl, e4, hm, rfl, Bw6, trivial⟩⟩
   replace hm := cnd_f c1 hm
   refine sw_skip<|block_n ?_
   have B20 := (Fw4_0.gr G5)
   have K_19 : Kz [(1, b2)] w4 w5 := (Kz.gr (Kz.refl _ _) G5)
   have Kq19 : Kp ([b2]) w4 w5 := kp_of_kz K_19 (by intro k hk; simp only [Nin, and_true, List.mem_cons, List.mem_append, mem_zf, List.not_mem_nil, or_false, false_or, not_or, ne_eq, List.nil_append, List.cons_append, true_and, and_true, false_and, and_false, not_true_eq_false, not_false_eq_true, or_true, true_or] at hk ⊢; omega)
   subst hnx1
   exact ⟨Kq19, ([b2]), (by intro c hc; simp only [List.mem_cons, List.mem_append, mem_zf, List.not_mem_nil, or_false, false_or, not_or, ne_eq, List.nil_append, List.cons_append, true_and, and_true, false_and, and_false, not_true_eq_false, not_false_eq_true, or_true, true_or] at hc ⊢; omega), ⟨a3, hm, rfl, B20, trivial⟩⟩
 · clear hm; rintro Dw7 fp w7 hDw7 Dfw7 nw7 ⟨a3, hm, rfl, Fw7_0, -⟩ K7
   replace hm := itL_end hm
   have Zw7 : Kz [(1, b2)] w2 w7 := kz_of_kp K7 (by intro k hk; simp only [Nin, and_true, List.mem_cons, List.mem_append, mem_zf, List.not_mem_nil, or_false, false_or, not_or, ne_eq, List.nil_append, List.cons_append, true_and, and_true, false_and, and_false, not_true_eq_false, not_false_eq_true, or_true, true_or] at hk ⊢; omega)
   have z21 := K7.size
   have lt22 := Df.lt (w := w7) Dfw7
   simp only [List.mem_cons, List.mem_append, mem_zf, List.not_mem_nil, or_false, false_or, not_or, ne_eq, List.nil_append, List.cons_append, true_and, and_true, false_and, and_false, not_true_eq_false, not_false_eq_true, or_true, true_or, not_and] at nw7
   have lt23 := Fw7_0.lt
   unfold cover_first_cover_path_1_cover_tree_special_D1 at hm
   try dsimp only at hm
   refine block_n<|then_n<|qs 1 rfl<|qe rfl (ev_st1 (cs' := [.int .i64 0]) (one_116).siz rfl rfl rfl Fw7_0 rfl rfl) ?_
   rintro _ w8 ⟨Bw8, M8⟩
   have z24 := M8.size
   refine sd_done<|sw_ret ?_
   have DL25 := (Df.md Dfw7 M8)
   have L25 := Md.put (w := w8) Dw7 (.deferred none)
   have zL25 := L25.size
   have B26 := (Bw8.md L25)
   have X27 : Gr w (w8.putObj Dw7 (.deferred none)) := (((X9.kz Zw7).md M8).md L25)
   cases hm
   refine ⟨_, _, ⟨Dw7, rfl, DL25, rfl⟩, res_1 rfl (rv_cell1 one_116 rfl B26), ?_⟩
   exact ⟨rfl, X27⟩
 clear hm; rintro Dw9 c rk fp w9 hDw9 Dfw9 nw9 hle ⟨rfl, a3, hm, rfl, Fw9_0, -⟩ K9
 have Zw9 : Kz [(1, b2)] w2 w9 := kz_of_kp K9 (by intro k hk; simp only [Nin, and_true, List.mem_cons, List.mem_append, mem_zf, List.not_mem_nil, or_false, false_or, not_or, ne_eq, List.nil_append, List.cons_append, true_and, and_true, false_and, and_false, not_true_eq_false, not_false_eq_true, or_true, true_or] at hk ⊢; omega)
 have z28 := K9.size
 have lt29 := Df.lt (w := w9) Dfw9
 simp only [List.mem_cons, List.mem_append, mem_zf, List.not_mem_nil, or_false, false_or, not_or, ne_eq, List.nil_append, List.cons_append, true_and, and_true, false_and, and_false, not_true_eq_false, not_false_eq_true, or_true, true_or, not_and] at nw9
 have lt30 := Fw9_0.lt
 unfold cover_first_cover_path_1_cover_tree_special_X1_0 at hm
 try dsimp only at hm
 refine sw_ret<|block_r<|then_r ?_
 have DL31 := Dfw9
 have L31 := Md.put (w := w9) Dw9 (.deferred none)
 have zL31 := L31.size
 have B32 := (Fw9_0.md L31)
 have X33 : Gr w (w9.putObj Dw9 (.deferred none)) := ((X9.kz Zw9).md L31)
 cases hm
 refine ⟨_, _, ⟨Dw9, rfl, DL31, rfl⟩, res_1 rfl (rv_cell1 one_116 rfl B32), ?_⟩
 exact ⟨rfl, X33⟩
theorem cover_tree_cut_w {p0 p1 p2 r} (hm : cover_tree_cut p0 p1 p2 = some r) {w : World} :
    Calls Try.prog 67 [.agg (Tcover_tree.cs p0).toArray, .int .i64 p1, .int .i64 p2].toArray w fun e w' => ∃ v, e = .returned v ∧ (v = .int .i64 r ∧ Gr w w') := by
 unfold cover_tree_cut at hm
 refine calls_of_sw 14 Try.func67 rfl rfl rfl<|qs 2 rfl<|qe rfl (ev_box (cs := Tcover_tree.cs p0) rfl rfl) ?_
 rintro _ w1 ⟨b1, rfl, hbw1, Bw1, G1⟩
 have z1 := G1.size
 have lt2 := Bw1.lt
 refine qm rfl<|sd_done<|sw_seq<|dw [([])] [] (.leaf [(0,10),(1,10),(2,10),(4,10),(5,10),(3,0),(6,0),(7,10)]) ?_
 intro w2 G2 zw2
 refine sdz_leaf<|dm 0 rfl rfl<|dm 0 rfl rfl ?_
 obtain ⟨nn1, hnn1, hm⟩ := bnd hm
 refine dh 0 rfl rfl (fun w hS => vv_shrI (a := p2) (b := (un 1#64)) rfl rfl hnn1) ?_
 have B3 := (Bw1.gr G2)
 refine dh 0 rfl rfl (fun w hS => vv_loadW agg_109 rfl (Bx.kp B3 hS) rfl)<|dh 0 rfl rfl (fun w hS => vv_makeFunc rfl rfl) ?_
 obtain ⟨x2, hx2, hm⟩ := bnd hm
 refine qz [] rfl (eC en_101 rfl (cover_path_w hx2)) ⟨fun _ => tk0, trivial⟩ ?_
 rintro _ w3 ⟨k3_c0_0, k3_c0_1, rfl, O3_c0_0, f3_c0_0, O3_c0_1, f3_c0_1, G3⟩
 have z4 := G3.size
 have lt5 := O3_c0_0.lt
 have lt6 := O3_c0_1.lt
 refine kG G3 ?_
 obtain ⟨x3, hx3, hm⟩ := bnd hm
 refine qz [] rfl (eC en_100 rfl (cover_first_cover_path_1_cover_tree_special_w hx3 O3_c0_0 O3_c0_1)) ⟨fun _ => tk0, trivial⟩ ?_
 rintro _ w4 ⟨rfl, G4⟩
 have z7 := G4.size
 refine kG G4 ?_
 have S8 := (((Kp.refl ([]) w2).gr G3).gr G4)
 refine dn 0 rfl rfl S8<|sd_done<|sw_ret ?_
 have X9 := (((((Gr.refl w).trans G1).trans G2).trans G3).trans G4)
 cases hm
 refine ⟨_, _, rfl, res_1 rfl (rv_tmp rfl), ?_⟩
 exact ⟨rfl, X9⟩
theorem cover_tree_subset_w {p0 p1 r} (hm : cover_tree_subset p0 p1 = some r) {w : World} :
    Calls Try.prog 97 [.agg (Tcover_tree.cs p0).toArray, .agg (TSubset.cs p1).toArray].toArray w fun e w' => ∃ v, e = .returned v ∧ (v = .bool r ∧ Gr w w') := by
 unfold cover_tree_subset at hm
 refine calls_of_sw 68 Try.func97 rfl rfl rfl<|qs 3 rfl<|qe rfl (ev_box (cs := Tcover_tree.cs p0) rfl rfl) ?_
 rintro _ w1 ⟨b1, rfl, hbw1, Bw1, G1⟩
 have z1 := G1.size
 have lt2 := Bw1.lt
 refine qe rfl (ev_box (cs := TSubset.cs p1) rfl rfl) ?_
 rintro _ w2 ⟨b2, rfl, hbw2, Bw2, G2⟩
 have z3 := G2.size
 have lt4 := Bw2.lt
 refine qm rfl<|sd_done<|sw_seq<|dw [([])] [] (.leaf [(0,10),(1,10),(2,10),(3,10),(4,10),(5,10)]) ?_
 intro w3 G3 zw3
 refine sdz_leaf<|dh 0 rfl rfl (fun w hS => vv_fieldAddr fa_114_0 rfl) ?_
 have B5 := (Bw2.gr G3)
 refine dh 0 rfl rfl (fun w hS => vv_load1 (v := .int .i64 p1.Node) one_3 rfl (Bx.kp B5 hS) rfl)<|dh 0 rfl rfl (fun w hS => vv_fieldAddr fa_114_1 rfl)<|dh 0 rfl rfl (fun w hS => vv_load1 (v := .int .i64 p1.Minus) one_3 rfl (Bx.kp B5 hS) rfl)<|dm 0 rfl rfl<|dm 0 rfl rfl<|sd_done<|sw_seq ?_
 refine sw_block<|qs 6 rfl ?_
 have B6 := ((Bw1.gr G2).gr G3)
 refine qv rfl (vv_loadW agg_109 rfl B6 rfl)<|qv rfl (vv_fieldAddr fa_114_0 rfl)<|qv rfl (vv_load1 (v := .int .i64 p1.Node) one_3 rfl B5 rfl) ?_
 obtain ⟨x1, hx1, hm⟩ := bnd hm
 refine qe rfl (eC en_118 rfl (cover_tree_has_w hx1)) ?_
 rintro _ w4 ⟨rfl, G4⟩
 have z7 := G4.size
 refine qv rfl (vv_not rfl)<|qm rfl<|sd_done<|sw_cond rfl (fun c1 => ?_) (fun c1 => ?_)
 · replace hm := cnd_t c1 hm
   refine qs 1 rfl<|qm rfl<|sd_done<|sw_ret<|block_r<|then_r ?_
   have Y1 := Gr.trans (Gr.trans (Gr.trans G1 G2) G3) G4
   have X8 := ((Gr.refl w).trans Y1)
   cases hm
   refine ⟨_, _, rfl, res_1 rfl (rv_tmp rfl), ?_⟩
   exact ⟨rfl, X8⟩
 replace hm := cnd_f c1 hm
 have Y2 := Gr.trans (Gr.trans (Gr.trans G1 G2) G3) G4
 have X9 := ((Gr.refl w).trans Y2)
 refine qj (β := Bool) (rg 17 8) (fun a2 => [(17, .bool a2)]) (fun a2 wr => (cover_tree_subset_J1 p0 p1 a2 = some r) ∧ Kz [] w4 wr) ?_ ?_
 · refine qg 8 rfl<|qv rfl (vv_fieldAddr fa_109_0 rfl) ?_
   have B32 := (B6.gr G4)
   refine qv rfl (vv_load1 (v := bv p0.kind) one_5 rfl B32 rfl)<|qv rfl (vv_eqlB (p := p0.kind) (q := 1#8) rfl rfl)<|qp rfl (vv_move rfl) (fun c10 => ?_) (fun c10 => ?_)
   · replace hm := iT c10 hm
     refine qk rfl<|qk rfl<|qm rfl<|qm rfl<|sd_nil ?_
     exact ⟨rfl, true, sbq, hm, kz0⟩
   replace hm := iF c10 hm
   refine qm rfl<|qv rfl (vv_eql (a := p1.Minus) (b := 0) rfl rfl)<|qm rfl<|qm rfl<|sd_nil ?_
   exact ⟨rfl, (decide (p1.Minus = 0)), sbq, hm, kz0⟩
 clear hm; rintro a2 w5 ⟨hm, K5⟩
 have z10 := K5.size
 unfold cover_tree_subset_J1 at hm
 refine sw_cond rfl (fun c2 => ?_) (fun c2 => ?_)
 · replace hm := cnd_t c2 hm
   refine qs 12 rfl<|qm rfl<|qv rfl (vv_eql (a := p1.Minus) (b := 0) rfl rfl)<|qpF rfl (vv_move rfl) (fun c3 => ?_) (fun c3 => ?_)
   · replace hm := iF c3 hm
     refine qk rfl<|qk rfl<|qk rfl<|qk rfl<|qk rfl<|qk rfl<|qk rfl ?_
     refine qm rfl<|qm rfl<|sd_done<|sw_ret<|block_r<|then_r ?_
     have X14 := (X9.kz K5)
     cases hm
     refine ⟨_, _, rfl, res_1 rfl (rv_tmp rfl), ?_⟩
     exact ⟨rfl, X14⟩
   replace hm := iT c3 hm
   refine qv rfl (vv_fieldAddr fa_109_0 rfl) ?_
   have B11 := ((B6.gr G4).kz K5)
   refine qv rfl (vv_load1 (v := bv p0.kind) one_5 rfl B11 rfl)<|qv rfl (vv_eqlB (p := p0.kind) (q := 1#8) rfl rfl)<|qp rfl (vv_move rfl) (fun c4 => ?_) (fun c4 => ?_)
   · replace hm := iT c4 hm
     refine qk rfl<|qk rfl<|qm rfl<|qm rfl<|qm rfl<|sd_done<|sw_ret ?_
     refine block_r<|then_r ?_
     have X12 := (X9.kz K5)
     cases hm
     refine ⟨_, _, rfl, res_1 rfl (rv_tmp rfl), ?_⟩
     exact ⟨rfl, X12⟩
   replace hm := iF c4 hm
   refine qm rfl<|qv rfl (vv_eql (a := p1.Node) (b := 1) rfl rfl)<|qm rfl<|qm rfl<|qm rfl<|sd_done<|sw_ret ?_
   refine block_r<|then_r ?_
   have X13 := (X9.kz K5)
   cases hm
   refine ⟨_, _, rfl, res_1 rfl (rv_tmp rfl), ?_⟩
   exact ⟨rfl, X13⟩
 replace hm := cnd_f c2 hm
 have X15 := (X9.kz K5)
 refine qj (β := Bool) (rg 36 17) (fun a3 => [(36, .bool a3)]) (fun a3 wr => (cover_tree_subset_J2 p0 p1 a3 = some r) ∧ Kz [] w5 wr) ?_ ?_
 · refine qg 17 rfl ?_
   have B25 := ((B6.gr G4).kz K5)
   refine qv rfl (vv_loadW agg_109 rfl B25 rfl)<|qv rfl (vv_fieldAddr fa_114_1 rfl) ?_
   have B26 := ((B5.gr G4).kz K5)
   refine qv rfl (vv_load1 (v := .int .i64 p1.Minus) one_3 rfl B26 rfl) ?_
   obtain ⟨x6, hx6, hm⟩ := bnd hm
   refine qe rfl (eC en_118 rfl (cover_tree_has_w hx6)) ?_
   rintro _ w9 ⟨rfl, G9⟩
   have z27 := G9.size
   refine qv rfl (vv_not rfl)<|qp rfl (vv_move rfl) (fun c8 => ?_) (fun c8 => ?_)
   · replace hm := cnd_t c8 hm
     refine qk rfl<|qk rfl<|qk rfl<|qm rfl<|qm rfl<|qk rfl<|qk rfl ?_
     refine qk rfl<|qk rfl<|qm rfl<|qm rfl<|sd_nil ?_
     exact ⟨rfl, true, sbq, hm, (kz0.gr G9)⟩
   replace hm := cnd_f c8 hm
   refine qm rfl<|qm rfl<|qv rfl (vv_eql (a := p1.Minus) (b := p1.Node) rfl rfl)<|qm rfl<|qp rfl (vv_move rfl) (fun c9 => ?_) (fun c9 => ?_)
   · replace hm := iT c9 hm
     refine qk rfl<|qk rfl<|qk rfl<|qk rfl<|qm rfl<|qm rfl<|sd_nil ?_
     exact ⟨rfl, true, sbq, hm, (kz0.gr G9)⟩
   replace hm := iF c9 hm
   refine qm rfl<|qm rfl ?_
   obtain ⟨x7, hx7, hm⟩ := bnd hm
   refine qe rfl (eC en_119 rfl (cover_node_below_w hx7)) ?_
   rintro _ w10 ⟨rfl, G10⟩
   have z30 := G10.size
   refine qv rfl (vv_not rfl)<|qm rfl<|qm rfl<|sd_nil ?_
   exact ⟨rfl, (!x7), sbq, hm, ((kz0.gr G9).gr G10)⟩
 clear hm; rintro a3 w6 ⟨hm, K6⟩
 have z16 := K6.size
 unfold cover_tree_subset_J2 at hm
 refine sw_cond rfl (fun c5 => ?_) (fun c5 => ?_)
 · replace hm := cnd_t c5 hm
   refine qs 1 rfl<|qm rfl<|sd_done<|sw_ret<|block_r<|then_r ?_
   have X17 := (X15.kz K6)
   cases hm
   refine ⟨_, _, rfl, res_1 rfl (rv_tmp rfl), ?_⟩
   exact ⟨rfl, X17⟩
 replace hm := cnd_f c5 hm
 refine sw_skip<|block_n<|then_n<|qs 16 rfl<|qv rfl (vv_fieldAddr fa_109_0 rfl) ?_
 have B18 := (((B6.gr G4).kz K5).kz K6)
 refine qv rfl (vv_load1 (v := bv p0.kind) one_5 rfl B18 rfl)<|qv rfl (vv_eqlB (p := p0.kind) (q := 2#8) rfl rfl)<|qp rfl (vv_move rfl) (fun c6 => ?_) (fun c6 => ?_)
 · replace hm := iT c6 hm
   refine qk rfl<|qk rfl<|qk rfl<|qm rfl<|qm rfl<|qk rfl<|qk rfl ?_
   refine qk rfl<|qk rfl<|qk rfl<|qm rfl<|qm rfl<|sd_done<|sw_ret ?_
   have X19 := (X15.kz K6)
   cases hm
   refine ⟨_, _, rfl, res_1 rfl (rv_tmp rfl), ?_⟩
   exact ⟨rfl, X19⟩
 replace hm := iF c6 hm
 refine qv rfl (vv_loadW agg_109 rfl B18 rfl)<|qm rfl ?_
 obtain ⟨x4, hx4, hm⟩ := bnd hm
 refine qe rfl (eC en_68 rfl (cover_tree_special_w hx4)) ?_
 rintro _ w7 ⟨rfl, G7⟩
 have z20 := G7.size
 refine qm rfl<|qp rfl (vv_move rfl) (fun c7 => ?_) (fun c7 => ?_)
 · replace hm := cnd_t c7 hm
   refine qk rfl<|qk rfl<|qk rfl<|qk rfl<|qk rfl<|qm rfl<|qm rfl ?_
   refine sd_done<|sw_ret ?_
   have X21 := ((X15.kz K6).trans G7)
   cases hm
   refine ⟨_, _, rfl, res_1 rfl (rv_tmp rfl), ?_⟩
   exact ⟨rfl, X21⟩
 replace hm := cnd_f c7 hm
 have B22 := (B18.gr G7)
 refine qv rfl (vv_loadW agg_109 rfl B22 rfl)<|qm rfl<|qm rfl ?_
 obtain ⟨x5, hx5, hm⟩ := bnd hm
 refine qe rfl (eC en_67 rfl (cover_tree_cut_w hx5)) ?_
 rintro _ w8 ⟨rfl, G8⟩
 have z23 := G8.size
 refine qv rfl (vv_eql (a := x5) (b := 0) rfl rfl)<|qm rfl<|qm rfl<|sd_done<|sw_ret ?_
 have X24 := (((X15.kz K6).trans G7).trans G8)
 cases hm
 refine ⟨_, _, rfl, res_1 rfl (rv_tmp rfl), ?_⟩
 exact ⟨rfl, X24⟩
theorem cover_enter_w {p0 p1 vp1 zp1 gp1 op1 r} (hm : cover_enter p0 p1 = some r) {w : World} (hp1 : Rd w zp1 gp1 op1 2 vp1 (p1.map TSubset.cs)) :
    Calls Try.prog 62 [.agg (TScheme.cs p0).toArray, vp1].toArray w fun e w' => ∃ v, e = .returned v ∧ (v = .tuple [.agg (Tcover_tree.cs r.1).toArray, .int .i64 r.2].toArray ∧ Gr w w') := by
 have lt1 := hp1.lth
 unfold cover_enter at hm
 refine calls_of_sw 31 Try.func62 rfl rfl rfl<|qs 3 rfl<|qe rfl (ev_box (cs := TScheme.cs p0) rfl rfl) ?_
 rintro _ w1 ⟨b1, rfl, hbw1, Bw1, G1⟩
 have z2 := G1.size
 have lt3 := Bw1.lt
 refine qe rfl (ev_alloc (cs := Tcover_tree.cs (Tcover_tree.mk 0#8 0 0)) zv_109 rfl) ?_
 rintro _ w2 ⟨b2, rfl, hbw2, Bw2, G2⟩
 have z4 := G2.size
 have lt5 := Bw2.lt
 refine qm rfl<|qd 8 rfl ?_
 have B6 := (Bw1.gr G2)
 refine qv rfl (vv_loadW agg_26 rfl B6 rfl) ?_
 obtain ⟨x1, hx1, hm⟩ := bnd hm
 refine qe rfl (eC en_85 rfl (cover_treeOf_w hx1)) ?_
 rintro _ w3 ⟨rfl, G3⟩
 have z7 := G3.size
 refine qm rfl<|qm rfl<|qm rfl<|qe rfl (ev_alloc (cs := Tcover_tree.cs (Tcover_tree.mk 0#8 0 0)) zv_109 rfl) ?_
 rintro _ w4 ⟨b4, rfl, hbw4, Bw4, G4⟩
 have z8 := G4.size
 have lt9 := Bw4.lt
 refine qe rfl (ev_stW agg_109 rfl rfl rfl Bw4 rfl rfl) ?_
 rintro _ w5 ⟨Bw5, M5⟩
 have z10 := M5.size
 refine qm rfl<|sd_done<|sw_seq<|qs 2 rfl<|qm rfl<|qv rfl (vv_not rfl) ?_
 refine sd_done<|sw_cond rfl (fun c1 => ?_) (fun c1 => ?_)
 · replace hm := cnd_t c1 hm
   refine qs 3 rfl<|qv rfl (vv_build (cs := Tcover_tree.cs (Tcover_tree.mk 0#8 0 0)) bs_109 rfl rfl) ?_
   have Y1 := Gr.trans G3 G4
   have B11 := ((Bw2.gr Y1).md M5)
   refine qe rfl (ev_stW agg_109 rfl rfl rfl B11 rfl rfl) ?_
   rintro _ w6 ⟨Bw6, M6⟩
   have z12 := M6.size
   refine qm rfl<|qb ?_
   have Y2 := Gr.trans (Gr.trans G1 G2) Y1
   have X13 := ((((Gr.refl w).trans Y2).md M5).md M6)
   cases hm
   refine ⟨_, _, rfl, res_2 rfl (rv_cellW agg_109 rfl Bw6 rfl) (rv_tmp rfl), ?_⟩
   exact ⟨rfl, X13⟩
 replace hm := cnd_f c1 hm
 refine qu<|sw_seq<|qs 3 rfl<|qm rfl ?_
 have Y3 := Gr.trans (Gr.trans (Gr.trans G1 G2) G3) G4
 have B14 := ((hp1.gr Y3).md M5 (pb_lt lt1))
 refine qv rfl (vv_lenT (l := p1) (c := TSubset.cs) Try.underlying74 rfl B14)<|qm rfl<|sd_done<|sw_block ?_
 have X15 := (((Gr.refl w).trans Y3).md M5)
 refine sw_loopD (α := Nat × Int) ([5, 9] ++ rg 20 10) (fun ⟨n1, a3⟩ => [(5, .int .i64 0), (20, .int .i64 a3)]) (fun ⟨n1, a3⟩ wr => (fixN (cover_enter_L1 p1 x1) n1 a3 = some r) ∧ Kz [] w5 wr) (fun ⟨n1, a3⟩ => n1) ⟨FUEL, 0⟩ ?_ ?_ ?_
 · exact sbq
 · exact ⟨hm, Kz.refl _ _⟩
 clear hm; rintro ⟨n1, a3⟩ w7 ⟨hm, K7⟩
 have z16 := K7.size
 have hb := fix_succ hm; clear hm; obtain ⟨n1, rfl, hm⟩ := hb
 generalize hrec1 : fixN (cover_enter_L1 p1 x1) n1 = rec1 at hm
 unfold cover_enter_L1 at hm
 try dsimp only at hm
 refine qs 1 rfl<|qv rfl (vv_lss (a := a3) (b := (p1.length : Int)) rfl rfl)<|sd_done<|sw_seq<|cnF rfl (fun c2 => ?_) (fun c2 => ?_)
 · replace hm := iF c2 hm
   refine sw_exit<|then_x<|then_x<|block_x<|then_n<|qs 3 rfl ?_
   have B27 := (Bw5.kz K7)
   refine qv rfl (vv_loadW agg_109 rfl B27 rfl) ?_
   have Y4 := Gr.trans G3 G4
   have B28 := (((Bw2.gr Y4).md M5).kz K7)
   refine qe rfl (ev_stW agg_109 rfl rfl rfl B28 rfl rfl) ?_
   rintro _ w12 ⟨Bw12, M12⟩
   have z29 := M12.size
   refine qm rfl<|sd_done<|sw_ret ?_
   have X30 := ((X15.kz K7).md M12)
   cases hm
   refine ⟨_, _, rfl, res_2 rfl (rv_cellW agg_109 rfl Bw12 rfl) (rv_tmp rfl), ?_⟩
   exact ⟨rfl, X30⟩
 replace hm := iT c2 hm
 refine qu<|sw_seq<|sw_block<|qs 4 rfl ?_
 obtain ⟨y4, hy4, hm⟩ := bnd hm
 have B17 := (B14.kz K7)
 refine qv rfl (vv_ixT (i := a3) Try.underlying74 (agg_114).siz rfl B17 rfl hy4)<|qv rfl (vv_elWT agg_114 rfl B17 hy4 (by first | rfl | omega))<|qe rfl (ev_alloc (cs := TSubset.cs (TSubset.mk 0 0)) zv_114 rfl) ?_
 rintro _ w8 ⟨b8, rfl, hbw8, Bw8, G8⟩
 have z18 := G8.size
 have lt19 := Bw8.lt
 refine qe rfl (ev_stW agg_114 rfl rfl rfl Bw8 rfl rfl) ?_
 rintro _ w9 ⟨Bw9, M9⟩
 have z20 := M9.size
 refine qd 4 rfl ?_
 have B21 := (((Bw5.kz K7).gr G8).md M9)
 refine qv rfl (vv_loadW agg_109 rfl B21 rfl)<|qv rfl (vv_loadW agg_114 rfl Bw9 rfl) ?_
 obtain ⟨x5, hx5, hm⟩ := bnd hm
 refine qe rfl (eC en_97 rfl (cover_tree_subset_w hx5)) ?_
 rintro _ w10 ⟨rfl, G10⟩
 have z22 := G10.size
 refine qv rfl (vv_not rfl)<|sd_done<|cnF rfl (fun c3 => ?_) (fun c3 => ?_)
 · replace hm := cnd_f c3 hm
   refine sw_skip<|block_n<|then_n<|qg 2 rfl<|qv rfl (vv_add (k := .i64) (a := a3) (b := 1) rfl rfl)<|qm rfl<|sd_nil ?_
   have K_26 : Kz [] w5 w10 := (((K7.gr G8).md M9).gr G10)
   subst hrec1
   exact ⟨rfl, ⟨n1, w64 (a3 + 1)⟩, sbq, ⟨hm, K_26⟩, Nat.lt_succ_self _⟩
 replace hm := cnd_t c3 hm
 refine qs 3 rfl<|qv rfl (vv_build (cs := Tcover_tree.cs (Tcover_tree.mk 0#8 0 0)) bs_109 rfl rfl) ?_
 have Y5 := Gr.trans G3 G4
 have B23 := ((((((Bw2.gr Y5).md M5).kz K7).gr G8).md M9).gr G10)
 refine qe rfl (ev_stW agg_109 rfl rfl rfl B23 rfl rfl) ?_
 rintro _ w11 ⟨Bw11, M11⟩
 have z24 := M11.size
 refine qm rfl<|sd_done<|sw_ret<|block_r<|then_r<|then_r<|block_r ?_
 refine then_r ?_
 have X25 := (((((X15.kz K7).trans G8).md M9).trans G10).md M11)
 cases hm
 refine ⟨_, _, rfl, res_2 rfl (rv_cellW agg_109 rfl Bw11 rfl) (rv_tmp rfl), ?_⟩
 exact ⟨rfl, X25⟩
theorem cover_tree_labels_w {p0 p1 r} (hm : cover_tree_labels p0 p1 = some r) {w : World} :
    Calls Try.prog 91 [.agg (Tcover_tree.cs p0).toArray, .int .i64 p1].toArray w fun e w' => ∃ v, e = .returned v ∧ (∃ bc0 bc1, v = .func (.func 113) #[] [.pointer (some ⟨bc0, 0, none⟩), .pointer (some ⟨bc1, 0, none⟩)].toArray ∧ Bx w' bc0 109 (Tcover_tree.cs r.1) ∧ (w.heap.size ≤ bc0) ∧ Bx w' bc1 3 ([.int .i64 r.2]) ∧ (w.heap.size ≤ bc1) ∧ Gr w w') := by
 unfold cover_tree_labels at hm
 refine calls_of_sw 6 Try.func91 rfl rfl rfl<|qs 3 rfl<|qe rfl (ev_box (cs := Tcover_tree.cs p0) rfl rfl) ?_
 rintro _ w1 ⟨b1, rfl, hbw1, Bw1, G1⟩
 have z1 := G1.size
 have lt2 := Bw1.lt
 refine qe rfl (ev_box (cs := [.int .i64 p1]) rfl rfl) ?_
 rintro _ w2 ⟨b2, rfl, hbw2, Bw2, G2⟩
 have z3 := G2.size
 have lt4 := Bw2.lt
 refine qm rfl<|qd 2 rfl<|qv rfl (vv_makeFunc rfl rfl)<|qm rfl<|sd_done ?_
 refine sw_ret ?_
 have B5 := (Bw1.gr G2)
 have X6 := (((Gr.refl w).trans G1).trans G2)
 cases hm
 refine ⟨_, _, rfl, res_1 rfl (rv_tmp rfl), ?_⟩
 exact ⟨b1, b2, rfl, B5, by omega, Bw2, by omega, X6⟩
theorem cover_tree_leaf_w {p0 p1 r} (hm : cover_tree_leaf p0 p1 = some r) {w : World} :
    Calls Try.prog 64 [.agg (Tcover_tree.cs p0).toArray, .int .i64 p1].toArray w fun e w' => ∃ v, e = .returned v ∧ (v = .int .i64 r ∧ Gr w w') := by
 unfold cover_tree_leaf at hm
 refine calls_of_sw 9 Try.func64 rfl rfl rfl<|qs 2 rfl<|qe rfl (ev_box (cs := Tcover_tree.cs p0) rfl rfl) ?_
 rintro _ w1 ⟨b1, rfl, hbw1, Bw1, G1⟩
 have z1 := G1.size
 have lt2 := Bw1.lt
 refine qm rfl<|qd 5 rfl<|qv rfl (vv_loadW agg_109 rfl Bw1 rfl) ?_
 obtain ⟨x1, hx1, hm⟩ := bnd hm
 refine qe rfl (eC en_99 rfl (cover_tree_size_w hx1)) ?_
 rintro _ w2 ⟨rfl, G2⟩
 have z3 := G2.size
 refine qm rfl<|qv rfl (vv_add (k := .i64) (a := x1) (b := p1) rfl rfl)<|qm rfl<|sd_done<|sw_ret ?_
 have X4 := (((Gr.refl w).trans G1).trans G2)
 cases hm
 refine ⟨_, _, rfl, res_1 rfl (rv_tmp rfl), ?_⟩
 exact ⟨rfl, X4⟩
theorem cover_node_sibling_w {p0 r} (hm : cover_node_sibling p0 = some r) {w : World} :
    Calls Try.prog 66 [.int .i64 p0].toArray w fun e w' => ∃ v, e = .returned v ∧ (v = .int .i64 r ∧ Gr w w') := by
 unfold cover_node_sibling at hm
 refine calls_of_sw 5 Try.func66 rfl rfl rfl<|qs 1 rfl<|qm rfl<|qd 3 rfl ?_
 refine qm rfl<|qv rfl (vv_bitI (a := p0) (b := 1) (by simp) rfl rfl)<|qm rfl<|sd_done<|sw_ret ?_
 cases hm
 refine ⟨_, _, rfl, res_1 rfl (rv_tmp rfl), ?_⟩
 exact ⟨rfl, (Gr.refl w)⟩
theorem cover_tree_labels_1_it (p1 : Tcover_tree) (p2 : Int) (bp1 : Nat) (bp2 : Nat) (xs : List (Int × Int)) (hm : cover_tree_labels_1 p1 p2 = some xs) (w0 : World) (hbp1 : Bx w0 bp1 109 (Tcover_tree.cs p1)) (hbp2 : Bx w0 bp2 3 ([.int .i64 p2])) :
    IT Try.prog 113 [.pointer (some ⟨bp1, 0, none⟩), .pointer (some ⟨bp2, 0, none⟩)] (xs.map (fun (x : Int × Int) => ([.int .i64 x.1, .int .i64 x.2] : List Value))) ([bp1] ++ [bp2]) w0 := by
 intro l J Jx w fp hG hJ hJx hcap h0 hY
 have c1 := Bx.gr hbp1 hG
 have lt2 := c1.lt
 have nb3 : bp1 ∉ fp := hcap _ (by simp)
 have c4 := Bx.gr hbp2 hG
 have lt5 := c4.lt
 have nb6 : bp2 ∉ fp := hcap _ (by simp)
 have hd := dr_0 xs
 unfold cover_tree_labels_1 at hm
 refine calls_of_sw 48 Try.func113 rfl rfl rfl<|qs 1 rfl<|qe rfl (ev_box rfl rfl) ?_
 rintro _ w1 ⟨b1, rfl, hbw1, Bw1, G1⟩
 have z7 := G1.size
 have lt8 := Bw1.lt
 have nb9 : b1 ∉ fp := fun h => absurd (hJ.lt h0 _ h) (by omega)
 refine qd 4 rfl ?_
 have B10 := (c1.gr G1)
 refine qv rfl (vv_loadW agg_109 rfl B10 rfl) ?_
 have B11 := (c4.gr G1)
 refine qv rfl (vv_load1 (v := .int .i64 p2) one_3 rfl B11 rfl) ?_
 obtain ⟨x1, hx1, hm⟩ := bnd hm
 refine qe rfl (eC en_64 rfl (cover_tree_leaf_w hx1)) ?_
 rintro _ w2 ⟨rfl, G2⟩
 have J12 := (hJ.gr h0 G1)
 have z13 := G2.size
 refine qm rfl<|sd_done<|sw_seq<|qs 3 rfl ?_
 have B14 := (Bw1.gr G2)
 refine qv rfl (vv_load1 one_164 rfl B14 rfl) ?_
 have J16 := (hJ.gr J12 G2)
 have KI17 : Kp fp w w2 := (((Kp.refl fp w).gr G1).gr G2)
 obtain ⟨rr15, hm, he15⟩ := yl_some hm
 have hx15 := Dr.at hd he15
 have hd15 := Dr.next hd he15
 have B18 := (B10.gr G2)
 have B19 := (B11.gr G2)
 refine qe rfl (ev_yield rfl rfl (hY _ _ _ _ (getm hx15) J16 KI17 (fun c hc => Or.inl hc))) ?_
 rintro _ w3 ⟨bb, rfl, KF15, fp15, hg15, hJb⟩
 have z20 := KF15.size
 have sub15 : ∀ c ∈ fp15, c ∈ fp ∨ w.heap.size ≤ c := sub_grow (fun c hc => Or.inl hc) hg15 (by omega)
 have nb21 := notin_grow hg15 nb3 (by omega)
 have nb22 := notin_grow hg15 nb6 (by omega)
 have nb23 := notin_grow hg15 nb9 (by omega)
 cases bb
 · have Jy15 : Jx (0 + 1) fp15 w3 := hJb
   refine qv rfl (vv_not rfl)<|sd_done<|sw_condT rfl<|sw_ret<|then_r ?_
   have KI24 : Kp fp w w3 := (KI17.trans KF15 (fun c hc => Or.inl hc))
   exact ⟨_, _, rfl, res_none rfl, KI24, .inr ⟨_, _, sub15, (by rw [List.length_map]; exact (List.getElem?_eq_some_iff.1 hx15).1), Jy15⟩⟩
 have Jy15 : J (0 + 1) fp15 w3 := hJb
 refine qv rfl (vv_not rfl)<|sd_done<|sw_condF rfl<|qu<|qs 2 rfl ?_
 refine qe rfl (ev_alloc (cs := [.int .i64 0]) zv_116 rfl) ?_
 rintro _ w4 ⟨b4, rfl, hbw4, Bw4, G4⟩
 have z25 := G4.size
 have lt26 := Bw4.lt
 have nb27 : b4 ∉ fp15 := fun h => absurd (hJ.lt Jy15 _ h) (by omega)
 refine qe rfl (ev_st1 (cs' := [.int .i64 1]) (one_116).siz rfl rfl rfl Bw4 rfl rfl) ?_
 rintro _ w5 ⟨Bw5, M5⟩
 have z28 := M5.size
 refine sd_done<|sw_block ?_
 have J29 := (hJ.md (hJ.gr Jy15 G4) M5 nb27)
 have KI30 : Kp fp w w5 := (((KI17.trans KF15 (fun c hc => Or.inl hc)).gr G4).md M5 (Or.inr (by omega)))
 have B31 := (((Bx.kp B18 KF15 nb3).gr G4).md M5)
 have B32 := (((Bx.kp B19 KF15 nb6).gr G4).md M5)
 have B33 := (((Bx.kp B14 KF15 nb9).gr G4).md M5)
 refine sw_loopK (α := Nat × Int × Nat × Nat × List Nat × List (Int × Int)) ([5, 6, 7] ++ rg 14 34) (fun ⟨n1, a2, bq1_5, kk, fpl, rl⟩ => [(5, .pointer (some ⟨bq1_5, 0, none⟩))]) (fun ⟨n1, a2, bq1_5, kk, fpl, rl⟩ ks wr => (fixN (cover_tree_labels_1_L1 p1 x1) n1 a2 = some rl) ∧ Dr xs kk rl ∧ J kk fpl wr ∧ (∀ c ∈ fpl, c ∈ fp ∨ w.heap.size ≤ c) ∧ Kp fp w wr ∧ Bx wr bp1 109 (Tcover_tree.cs p1) ∧ Bx wr bp2 3 ([.int .i64 p2]) ∧ Bx wr b1 164 [.func (.yield l) #[] #[]] ∧ bp1 ∉ fpl ∧ bp2 ∉ fpl ∧ b1 ∉ fpl ∧ Bx wr bq1_5 116 ([.int .i64 a2]) ∧ bq1_5 ∉ fpl ∧ w.heap.size ≤ bq1_5 ∧ bq1_5 ≠ bp1 ∧ bq1_5 ≠ bp2 ∧ bq1_5 ≠ b1 ∧ MkI w.heap.size ks fpl wr) (fun ⟨n1, a2, bq1_5, kk, fpl, rl⟩ => n1) ⟨FUEL, 1, b4, (0 + 1), fp15, rr15⟩ [] rfl ?_ ?_ ?_
 · exact sbq
 · exact ⟨hm, hd15, J29, sub15, KI30, B31, B32, B33, nb21, nb22, nb23, Bw5, nb27, (by omega), (by omega), (by omega), (by omega), (mki_nil w.heap.size fp15 w5)⟩
 clear hm; rintro ⟨n1, a2, bq1_5, kk1, fpl1, rl1⟩ ks1 w6 ⟨hm, dl1, JLw6, sl1, KLw6, Sw6_0, Sw6_1, Sw6_2, Nw6_0, Nw6_1, Nw6_2, Pw6_0, Pw6_1, Pw6_2, Pw6_3, Pw6_4, Pw6_5, MKw6⟩
 have z34 := KLw6.size
 have lt35 := Sw6_0.lt
 have lt36 := Sw6_1.lt
 have lt37 := Sw6_2.lt
 have lt38 := Pw6_0.lt
 have hb := fix_succ hm; clear hm; obtain ⟨n1, rfl, hm⟩ := hb
 generalize hrec1 : fixN (cover_tree_labels_1_L1 p1 x1) n1 = rec1 at hm
 unfold cover_tree_labels_1_L1 at hm
 try dsimp only at hm
 refine sw_seq<|qs 3 rfl<|qv rfl (vv_load1 (v := .int .i64 a2) one_116 rfl Pw6_0 rfl)<|qm rfl<|qv rfl (vv_neq (a := a2) (b := x1) rfl rfl)<|sd_done ?_
 refine cnF rfl (fun c1 => ?_) (fun c1 => ?_)
 · replace hm := iF c1 hm
   refine sw_exit<|then_x<|then_x<|block_x ?_
   obtain ⟨wl161, lv161, kl161⟩ := MkI.leave MKw6
   have Jl161 := MkI.stb hJ MKw6 JLw6 kl161
   have Kl161 := MkI.trans MKw6 KLw6 kl161
   have he := Option.some.inj hm
   have hl := Dr.last (c := (fun (x : Int × Int) => ([.int .i64 x.1, .int .i64 x.2] : List Value))) dl1 he.symm
   refine ⟨_, _, lv161, res_none rfl, Kl161, .inl ⟨_, sl1, ?_⟩⟩
   rw [← hl]; exact Jl161
 replace hm := iT c1 hm
 refine qu<|sw_seq<|sw_block<|sw_seq<|qs 3 rfl ?_
 refine qv rfl (vv_fieldAddr fa_109_0 rfl)<|qv rfl (vv_load1 (v := bv p1.kind) one_5 rfl Sw6_0 rfl)<|qv rfl (vv_eqlB (p := p1.kind) (q := 1#8) rfl rfl)<|sd_done<|sw_cond rfl (fun c2 => ?_) (fun c2 => ?_)
 · replace hm := iT c2 hm
   refine sw_seq<|sw_seq<|dw [fpl1] [] (.leaf [(0,10),(1,10),(2,10),(3,0),(4,0),(5,0)]) ?_
   intro w7 G7 zw7
   refine sdz_leaf ?_
   have B39 := (Sw6_2.gr G7)
   refine qh 0 rfl rfl (Kp.refl fpl1 w7) (fun w hS => vv_load1 one_164 rfl (Bx.kp B39 hS Nw6_2) rfl) ?_
   have B40 := (Pw6_0.gr G7)
   refine qh 0 rfl rfl (Kp.refl fpl1 w7) (fun w hS => vv_load1 (v := .int .i64 a2) one_116 rfl (Bx.kp B40 hS Pw6_1) rfl)<|dn 0 rfl rfl (Kp.refl fpl1 w7) ?_
   obtain ⟨x3, hx3, hm⟩ := bnd hm
   refine qz [] rfl (eC en_114 rfl (cover_node_toward_w hx3)) ⟨fun _ => tk0, trivial⟩ ?_
   rintro _ w8 ⟨rfl, G8⟩
   have J41 := (hJ.gr JLw6 G7)
   have z42 := G8.size
   refine kG G8 ?_
   have J44 := (hJ.gr J41 G8)
   have Y1 := Gr.trans G7 G8
   have KI45 : Kp fp w w8 := (KLw6.gr Y1)
   obtain ⟨rr43, hm, he43⟩ := yl_some hm
   have hx43 := Dr.at dl1 he43
   have hd43 := Dr.next dl1 he43
   have B46 := (Sw6_0.gr Y1)
   have B47 := (Sw6_1.gr Y1)
   have B48 := (B39.gr G8)
   have B49 := (B40.gr G8)
   refine dd_y rfl rfl rfl (ev_yield rfl rfl (hY _ _ _ _ (getm hx43) J44 KI45 sl1)) ?_
   rintro _ w9 ⟨bb, rfl, KF43, fp43, hg43, hJb⟩
   refine ⟨fun S => Kp.trans S KF43 (fun b hb => Or.inl hb), ?_⟩
   have z50 := KF43.size
   have sub43 : ∀ c ∈ fp43, c ∈ fp ∨ w.heap.size ≤ c := sub_grow sl1 hg43 (by omega)
   have MK51 := (MKw6.gr Y1)
   have MK43 := MkI.kp MK51 KF43 hg43
   have nb52 := notin_grow hg43 Nw6_0 (by omega)
   have nb53 := notin_grow hg43 Nw6_1 (by omega)
   have nb54 := notin_grow hg43 Nw6_2 (by omega)
   have nb55 := notin_grow hg43 Pw6_1 (by omega)
   cases bb
   · have Jy43 : Jx (kk1 + 1) fp43 w9 := hJb
     refine qw rfl (vv_not rfl)<|sd_done<|sw_condT rfl<|sw_ret<|then_r<|then_r<|block_r ?_
     refine then_r<|then_r<|block_r ?_
     have KI56 : Kp fp w w9 := (KI45.trans KF43 sl1)
     obtain ⟨wl57, lv57, kl57⟩ := MkI.leave MK43
     have Jl57 := MkI.stb hJx MK43 Jy43 kl57
     have Kl57 := MkI.trans MK43 KI56 kl57
     exact ⟨_, _, lv57, res_none rfl, Kl57, .inr ⟨_, _, sub43, (by rw [List.length_map]; exact (List.getElem?_eq_some_iff.1 hx43).1), Jl57⟩⟩
   have Jy43 : J (kk1 + 1) fp43 w9 := hJb
   refine qw rfl (vv_not rfl)<|sd_done<|sw_condF rfl<|qu<|sw_exit<|then_x ?_
   refine block_x<|then_n<|sw_seq<|qs 1 rfl ?_
   have B58 := (Bx.kp B49 KF43 Pw6_1)
   refine qv rfl (vv_load1 (v := .int .i64 a2) one_116 rfl B58 rfl)<|sd_done<|qg 2 rfl<|qe rfl (ev_alloc (cs := [.int .i64 0]) zv_116 rfl) ?_
   rintro _ w10 ⟨b10, rfl, hbw10, Bw10, G10⟩
   have z59 := G10.size
   have lt60 := Bw10.lt
   have nb61 : b10 ∉ fp43 := fun h => absurd (hJ.lt Jy43 _ h) (by omega)
   refine qe rfl (ev_st1 (cs' := [.int .i64 a2]) (one_116).siz rfl rfl rfl Bw10 rfl rfl) ?_
   rintro _ w11 ⟨Bw11, M11⟩
   have J62 := (hJ.gr Jy43 G10)
   have MK63 := (MK43.gr G10)
   have z64 := M11.size
   refine sd_done<|qg 4 rfl<|qv rfl (vv_load1 (v := .int .i64 a2) one_116 rfl Bw11 rfl)<|qm rfl ?_
   obtain ⟨x4, hx4, hm⟩ := bnd hm
   refine qe rfl (eC en_114 rfl (cover_node_toward_w hx4)) ?_
   rintro _ w12 ⟨rfl, G12⟩
   have J65 := (hJ.md J62 M11 nb61)
   have z66 := G12.size
   have B67 := (Bw11.gr G12)
   refine qe rfl (ev_st1 (cs' := [.int .i64 x4]) (one_116).siz rfl rfl rfl B67 rfl rfl) ?_
   rintro _ w13 ⟨Bw13, M13⟩
   have J68 := (hJ.gr J65 G12)
   have MK69 := ((MK63.md M11 Bw10).gr G12)
   have z70 := M13.size
   refine sd_nil ?_
   have J71 := (hJ.md J68 M13 nb61)
   have KI72 : Kp fp w w13 := (((((KI45.trans KF43 sl1).gr G10).md M11 (Or.inr (by omega))).gr G12).md M13 (Or.inr (by omega)))
   have B73 := (((((Bx.kp B46 KF43 Nw6_0).gr G10).md M11).gr G12).md M13)
   have B74 := (((((Bx.kp B47 KF43 Nw6_1).gr G10).md M11).gr G12).md M13)
   have B75 := (((((Bx.kp B48 KF43 Nw6_2).gr G10).md M11).gr G12).md M13)
   have MK76 := (MK69.md M13 B67)
   subst hrec1
   exact ⟨⟨n1, x4, b10, (kk1 + 1), fp43, rr43⟩, ks1, rfl, sbq, ⟨hm, hd43, J71, sub43, KI72, B73, B74, B75, nb52, nb53, nb54, Bw13, nb61, (by omega), (by omega), (by omega), (by omega), MK76⟩, Nat.lt_succ_self _⟩
 replace hm := iF c2 hm
 refine qu<|qs 3 rfl<|qv rfl (vv_load1 (v := .int .i64 a2) one_116 rfl Pw6_0 rfl)<|qm rfl ?_
 obtain ⟨x5, hx5, hm⟩ := bnd hm
 refine qe rfl (eC en_101 rfl (cover_path_w hx5)) ?_
 rintro _ w14 ⟨k14_c0_0, k14_c0_1, rfl, O14_c0_0, f14_c0_0, O14_c0_1, f14_c0_1, G14⟩
 have z77 := G14.size
 have lt78 := O14_c0_0.lt
 have nb79 : k14_c0_0 ∉ fpl1 := fun h => absurd (hJ.lt JLw6 _ h) (by omega)
 have lt80 := O14_c0_1.lt
 have nb81 : k14_c0_1 ∉ fpl1 := fun h => absurd (hJ.lt JLw6 _ h) (by omega)
 refine sd_done<|sw_block ?_
 obtain ⟨l6, hl6, hm⟩ := bnd hm
 have J82 := (hJ.gr JLw6 G14)
 have KI83 : Kp fp w w14 := (KLw6.gr G14)
 have B84 := (Sw6_0.gr G14)
 have B85 := (Sw6_1.gr G14)
 have B86 := (Sw6_2.gr G14)
 have B87 := (Pw6_0.gr G14)
 have MK88 := (MKw6.gr G14)
 have MZ89 := MK88
 refine sw_rangeFunc (gf := 120) rfl en_120 (cover_path_1_it x5.1 x5.2 _ _ _ hl6 _ O14_c0_0 O14_c0_1) (by intro x hx; obtain ⟨a, _, rfl⟩ := List.mem_map.1 hx; rfl) rfl _ _ fpl1 (stb_mk (α := Nat × List Nat × (List (Int × Int))) (fun ⟨kk, fpl, rl⟩ rk => (itL (cover_tree_labels_1_R2 p1 a2) (cover_tree_labels_1_D2 x1 a2 rec1) (List.drop rk l6) () = some rl) ∧ Dr xs kk rl ∧ (∀ c ∈ fpl, c ∈ fp ∨ w.heap.size ≤ c) ∧ (∀ c ∈ fpl, c ∈ fpl1 ∨ w14.heap.size ≤ c)) (fun ⟨kk, fpl, rl⟩ => fpl) (fun ⟨kk, fpl, rl⟩ W => J kk fpl W) (by rintro ⟨kk, fpl, rl⟩ W h b hb; exact hJ.lt h b hb) (by rintro ⟨kk, fpl, rl⟩ W W' h he hs; exact hJ.keep h he hs)) (fun c => stb_c (c = .ret) (stb_mk (α := Nat × List Nat) (fun ⟨kk, fpl⟩ rk => kk ≤ xs.length ∧ (∀ c ∈ fpl, c ∈ fp ∨ w.heap.size ≤ c) ∧ (∀ c ∈ fpl, c ∈ fpl1 ∨ w14.heap.size ≤ c)) (fun ⟨kk, fpl⟩ => fpl) (fun ⟨kk, fpl⟩ W => Jx kk fpl W) (by rintro ⟨kk, fpl⟩ W h b hb; exact hJx.lt h b hb) (by rintro ⟨kk, fpl⟩ W W' h he hs; exact hJx.keep h he hs))) (by intro b hb; simp only [List.mem_cons, List.mem_append, mem_zf, List.not_mem_nil, or_false, false_or, not_or, ne_eq, List.nil_append, List.cons_append, true_and, and_true, false_and, and_false, not_true_eq_false, not_false_eq_true, or_true, true_or] at hb; rcases hb with rfl | rfl <;> first | exact ⟨nb79, by omega⟩ | exact ⟨nb81, by omega⟩) ⟨(kk1, fpl1, rl1), ⟨hm, dl1, sl1, fun c hc => Or.inl hc⟩, rfl, J82⟩ ?_ ?_ ?_
 · rintro l2 rk x fpr2 w15 hl hx hIr K15 hF hln hlt
   clear hm
   obtain ⟨e7, hxe, rfl⟩ := map_some hx
   obtain ⟨⟨_, fpa, _⟩, ⟨_, _, sa, sz⟩, ea, Ja⟩ := hIr
   replace ea : fpr2 = fpa := ea
   subst ea
   replace Ja : J _ fpr2 w15 := Ja
   have z90 := K15.size
   have nb91 := notin_grow hF Nw6_0 (by omega)
   have nb92 := notin_grow hF Nw6_1 (by omega)
   have nb93 := notin_grow hF Nw6_2 (by omega)
   have nb94 := notin_grow hF Pw6_1 (by omega)
   have nb95 := notin_grow hF nb79 (by omega)
   have nb96 := notin_grow hF nb81 (by omega)
   have MKw15 := MkI.kp MZ89 K15 hF
   refine qg 1 rfl<|qm rfl<|sd_nil<|⟨rfl, (Gr.refl _), ?_⟩
   rintro w16 M16 ⟨⟨kr2, fpb, rl2⟩, ⟨hm, dr2, sr2, s0r2⟩, eb, Jr2⟩
   replace eb : fpr2 = fpb := eb
   subst eb
   replace Jr2 : J kr2 fpr2 w16 := Jr2
   have z97 := M16.size
   replace hm := itL_at hm hxe
   generalize hnx2 : itL (cover_tree_labels_1_R2 p1 a2) (cover_tree_labels_1_D2 x1 a2 rec1) (List.drop (rk + 1) l6) = nx2 at hm
   unfold cover_tree_labels_1_R2 at hm
   try dsimp only at hm
   refine sw_block<|qs 3 rfl<|qm rfl ?_
   obtain ⟨x8, hx8, hm⟩ := bnd hm
   refine qe rfl (eC en_66 rfl (cover_node_sibling_w hx8)) ?_
   rintro _ w17 ⟨rfl, G17⟩
   have z98 := G17.size
   refine qm rfl<|qd 12 rfl ?_
   have B99 := (((Bx.kp B84 K15 Nw6_0).md M16).gr G17)
   refine qv rfl (vv_loadW agg_109 rfl B99 rfl) ?_
   have B100 := (((Bx.kp B87 K15 Pw6_1).md M16).gr G17)
   refine qv rfl (vv_load1 (v := .int .i64 a2) one_116 rfl B100 rfl)<|qm rfl<|qv rfl (vv_build (cs := TSubset.cs (TSubset.mk a2 x8)) bs_114 rfl rfl) ?_
   obtain ⟨x9, hx9, hm⟩ := bnd hm
   refine qe rfl (eC en_97 rfl (cover_tree_subset_w hx9)) ?_
   rintro _ w18 ⟨rfl, G18⟩
   have J101 := (hJ.gr Jr2 G17)
   have z102 := G18.size
   refine qpF rfl (vv_move rfl) (fun c3 => ?_) (fun c3 => ?_)
   · replace hm := cnd_f c3 hm
     refine qk rfl<|qk rfl<|qk rfl<|qk rfl<|qk rfl<|qm rfl<|sd_done ?_
     refine sw_condF rfl<|sw_skip<|block_n ?_
     have J122 := (hJ.gr J101 G18)
     subst hnx2
     have Y2 := Gr.trans G17 G18
     exact ⟨((Kp.refl fpr2 w16).gr Y2), fpr2, (fun c hc => Or.inl hc : ∀ c ∈ fpr2, c ∈ fpr2 ∨ w16.heap.size ≤ c), (kr2, fpr2, rl2), ⟨hm, dr2, sr2, (sub_grow s0r2 (fun c hc => Or.inl hc : ∀ c ∈ fpr2, c ∈ fpr2 ∨ w16.heap.size ≤ c) (by omega))⟩, rfl, J122⟩
   replace hm := cnd_t c3 hm
   have Y3 := Gr.trans G17 G18
   have B103 := (((Bx.kp B86 K15 Nw6_2).md M16).gr Y3)
   refine qv rfl (vv_load1 one_164 rfl B103 rfl) ?_
   have B104 := (B100.gr G18)
   refine qv rfl (vv_load1 (v := .int .i64 a2) one_116 rfl B104 rfl)<|qm rfl ?_
   have J106 := (hJ.gr J101 G18)
   have KI107 : Kp fp w w18 := (((KI83.trans K15 sl1).md M16 (Or.inr (by omega))).gr Y3)
   obtain ⟨rr105, hm, he105⟩ := yl_some hm
   have hx105 := Dr.at dr2 he105
   have hd105 := Dr.next dr2 he105
   have B108 := (B99.gr G18)
   have B109 := (((Bx.kp B85 K15 Nw6_1).md M16).gr Y3)
   have B110 := (((Bx.kp O14_c0_0 K15 nb79).md M16).gr Y3)
   have B111 := (((Bx.kp O14_c0_1 K15 nb81).md M16).gr Y3)
   refine qe rfl (ev_yield rfl rfl (hY _ _ _ _ (getm hx105) J106 KI107 sr2)) ?_
   rintro _ w19 ⟨bb, rfl, KF105, fp105, hg105, hJb⟩
   have z112 := KF105.size
   have sub105 : ∀ c ∈ fp105, c ∈ fp ∨ w.heap.size ≤ c := sub_grow sr2 hg105 (by omega)
   have subr105 := sub_grow (fun c hc => Or.inl hc : ∀ c ∈ fpr2, c ∈ fpr2 ∨ w16.heap.size ≤ c) hg105 (by omega)
   have MK113 := ((MkI.mdl MKw15 M16 MZ89 hl).gr Y3)
   have MK105 := MkI.kp MK113 KF105 hg105
   have nb114 := notin_grow hg105 nb91 (by omega)
   have nb115 := notin_grow hg105 nb92 (by omega)
   have nb116 := notin_grow hg105 nb93 (by omega)
   have nb117 := notin_grow hg105 nb94 (by omega)
   have nb118 := notin_grow hg105 nb95 (by omega)
   have nb119 := notin_grow hg105 nb96 (by omega)
   cases bb
   · have Jy105 : Jx (kr2 + 1) fp105 w19 := hJb
     refine qv rfl (vv_not rfl)<|qm rfl<|sd_done<|sw_condT rfl<|sw_ret<|block_r ?_
     exact ⟨(((Kp.refl fpr2 w16).gr Y3).trans KF105 (fun c hc => Or.inl hc : ∀ c ∈ fpr2, c ∈ fpr2 ∨ w16.heap.size ≤ c)), fp105, subr105, rfl, ((kr2 + 1), fp105), ⟨(List.getElem?_eq_some_iff.1 hx105).1, sub105, (sub_grow s0r2 subr105 (by omega))⟩, rfl, Jy105⟩
   have Jy105 : J (kr2 + 1) fp105 w19 := hJb
   refine qv rfl (vv_not rfl)<|qm rfl<|sd_done<|sw_condF rfl<|sw_skip<|block_n ?_
   subst hnx2
   exact ⟨(((Kp.refl fpr2 w16).gr Y3).trans KF105 (fun c hc => Or.inl hc : ∀ c ∈ fpr2, c ∈ fpr2 ∨ w16.heap.size ≤ c)), fp105, subr105, ((kr2 + 1), fp105, rr105), ⟨hm, hd105, sub105, (sub_grow s0r2 subr105 (by omega))⟩, rfl, Jy105⟩
 · clear hm; rintro Dw20 fpdw20 w20 hDw20 Dfw20 nw20 ⟨⟨kd, fpe, rd⟩, ⟨hm, dd, sd, s0d⟩, ed, Jd⟩ K20
   replace ed : fpdw20 = fpe := ed
   subst ed
   replace Jd : J kd fpdw20 w20 := Jd
   have z124 := K20.size
   have lt125 := Df.lt (w := w20) Dfw20
   have nb126 := notin_grow s0d Nw6_0 (by omega)
   have nb127 := notin_grow s0d Nw6_1 (by omega)
   have nb128 := notin_grow s0d Nw6_2 (by omega)
   have nb129 := notin_grow s0d Pw6_1 (by omega)
   have nb130 := notin_grow s0d nb79 (by omega)
   have nb131 := notin_grow s0d nb81 (by omega)
   have MKw20 := MkI.cons (MkI.kp MZ89 K20 s0d) MZ89 hDw20 (by omega) Dfw20 nw20
   replace hm := itL_end hm
   unfold cover_tree_labels_1_D2 at hm
   try dsimp only at hm
   refine block_n<|block_n<|then_n<|sw_seq<|qs 1 rfl ?_
   have B132 := (Bx.kp B87 K20 Pw6_1)
   refine qv rfl (vv_load1 (v := .int .i64 a2) one_116 rfl B132 rfl)<|sd_done<|qg 2 rfl<|qe rfl (ev_alloc (cs := [.int .i64 0]) zv_116 rfl) ?_
   rintro _ w21 ⟨b21, rfl, hbw21, Bw21, G21⟩
   have z133 := G21.size
   have lt134 := Bw21.lt
   have nb135 : b21 ∉ fpdw20 := fun h => absurd (hJ.lt Jd _ h) (by omega)
   refine qe rfl (ev_st1 (cs' := [.int .i64 a2]) (one_116).siz rfl rfl rfl Bw21 rfl rfl) ?_
   rintro _ w22 ⟨Bw22, M22⟩
   have J136 := (hJ.gr Jd G21)
   have MK137 := (MKw20.gr G21)
   have z138 := M22.size
   refine sd_done<|qg 4 rfl<|qv rfl (vv_load1 (v := .int .i64 a2) one_116 rfl Bw22 rfl)<|qm rfl ?_
   obtain ⟨x10, hx10, hm⟩ := bnd hm
   refine qe rfl (eC en_114 rfl (cover_node_toward_w hx10)) ?_
   rintro _ w23 ⟨rfl, G23⟩
   have J139 := (hJ.md J136 M22 nb135)
   have z140 := G23.size
   have B141 := (Bw22.gr G23)
   refine qe rfl (ev_st1 (cs' := [.int .i64 x10]) (one_116).siz rfl rfl rfl B141 rfl rfl) ?_
   rintro _ w24 ⟨Bw24, M24⟩
   have J142 := (hJ.gr J139 G23)
   have MK143 := ((MK137.md M22 Bw21).gr G23)
   have z144 := M24.size
   refine sd_nil ?_
   have J145 := (hJ.md J142 M24 nb135)
   have KI146 : Kp fp w w24 := (((((KI83.trans K20 sl1).gr G21).md M22 (Or.inr (by omega))).gr G23).md M24 (Or.inr (by omega)))
   have B147 := (((((Bx.kp B84 K20 Nw6_0).gr G21).md M22).gr G23).md M24)
   have B148 := (((((Bx.kp B85 K20 Nw6_1).gr G21).md M22).gr G23).md M24)
   have B149 := (((((Bx.kp B86 K20 Nw6_2).gr G21).md M22).gr G23).md M24)
   have MK150 := (MK143.md M24 B141)
   subst hrec1
   exact ⟨⟨n1, x10, b21, kd, fpdw20, rd⟩, (Dw20 :: ks1), rfl, sbq, ⟨hm, dd, J145, sd, KI146, B147, B148, B149, nb126, nb127, nb128, Bw24, nb135, (by omega), (by omega), (by omega), (by omega), MK150⟩, Nat.lt_succ_self _⟩
 clear hm; rintro Dw25 c rk fpdw25 w25 hDw25 Dfw25 nw25 hle ⟨rfl, ⟨kd, fpe⟩, ⟨led, sd, s0d⟩, ed, Jd⟩ K25
 replace ed : fpdw25 = fpe := ed
 subst ed
 replace Jd : Jx kd fpdw25 w25 := Jd
 have z151 := K25.size
 have lt152 := Df.lt (w := w25) Dfw25
 have nb153 := notin_grow s0d Nw6_0 (by omega)
 have nb154 := notin_grow s0d Nw6_1 (by omega)
 have nb155 := notin_grow s0d Nw6_2 (by omega)
 have nb156 := notin_grow s0d Pw6_1 (by omega)
 have nb157 := notin_grow s0d nb79 (by omega)
 have nb158 := notin_grow s0d nb81 (by omega)
 have MKw25 := MkI.cons (MkI.kp MZ89 K25 s0d) MZ89 hDw25 (by omega) Dfw25 nw25
 refine sw_ret<|block_r<|block_r<|then_r<|then_r<|block_r ?_
 have KI159 : Kp fp w w25 := (KI83.trans K25 sl1)
 obtain ⟨wl160, lv160, kl160⟩ := MkI.leave MKw25
 have Jl160 := MkI.stb hJx MKw25 Jd kl160
 have Kl160 := MkI.trans MKw25 KI159 kl160
 exact ⟨_, _, lv160, res_none rfl, Kl160, .inr ⟨_, _, sd, (by rw [List.length_map]; exact led), Jl160⟩⟩
theorem cover_Storage_w {p0 r} (hm : cover_Storage p0 = some r) {w : World} :
    Calls Try.prog 55 [.agg (TScheme.cs p0).toArray].toArray w fun e w' => ∃ v, e = .returned v ∧ (v = .tuple [.int .i64 r.1, .int .i64 r.2].toArray ∧ Gr w w') := by
 unfold cover_Storage at hm
 refine calls_of_sw 22 Try.func55 rfl rfl rfl<|qs 3 rfl<|qe rfl (ev_box (cs := TScheme.cs p0) rfl rfl) ?_
 rintro _ w1 ⟨b1, rfl, hbw1, Bw1, G1⟩
 have z1 := G1.size
 have lt2 := Bw1.lt
 refine qm rfl<|qm rfl<|qd 8 rfl<|qv rfl (vv_loadW agg_26 rfl Bw1 rfl) ?_
 obtain ⟨x1, hx1, hm⟩ := bnd hm
 refine qe rfl (eC en_62 rfl (cover_enter_w hx1 (Own.rd (own_nil _ 0 114 2)))) ?_
 rintro _ w2 ⟨rfl, G2⟩
 have z3 := G2.size
 refine qm rfl<|qm rfl<|qm rfl<|qe rfl (ev_alloc (cs := Tcover_tree.cs (Tcover_tree.mk 0#8 0 0)) zv_109 rfl) ?_
 rintro _ w3 ⟨b3, rfl, hbw3, Bw3, G3⟩
 have z4 := G3.size
 have lt5 := Bw3.lt
 refine qe rfl (ev_stW agg_109 rfl rfl rfl Bw3 rfl rfl) ?_
 rintro _ w4 ⟨Bw4, M4⟩
 have z6 := M4.size
 refine qm rfl<|sd_done<|sw_seq<|qs 2 rfl<|qm rfl<|qv rfl (vv_neq (a := x1.2) (b := 0) rfl rfl) ?_
 refine sd_done<|sw_cond rfl (fun c1 => ?_) (fun c1 => ?_)
 · replace hm := iT c1 hm
   refine qs 3 rfl<|qm rfl<|qm rfl<|qm rfl<|sd_done<|sw_ret ?_
   refine then_r ?_
   have X7 := (((((Gr.refl w).trans G1).trans G2).trans G3).md M4)
   cases hm
   refine ⟨_, _, rfl, res_2 rfl (rv_tmp rfl) (rv_tmp rfl), ?_⟩
   exact ⟨rfl, X7⟩
 replace hm := iF c1 hm
 refine qu<|qs 2 rfl<|qe rfl (ev_alloc (cs := [.int .i64 0]) zv_3 rfl) ?_
 rintro _ w5 ⟨b5, rfl, hbw5, Bw5, G5⟩
 have z8 := G5.size
 have lt9 := Bw5.lt
 refine qe rfl (ev_st1 (cs' := [.int .i64 0]) (one_3).siz rfl rfl rfl Bw5 rfl rfl) ?_
 rintro _ w6 ⟨Bw6, M6⟩
 have z10 := M6.size
 refine sd_done<|sw_seq<|qs 2 rfl ?_
 have B11 := ((Bw4.gr G5).md M6)
 refine qv rfl (vv_loadW agg_109 rfl B11 rfl) ?_
 obtain ⟨x2, hx2, hm⟩ := bnd hm
 refine qe rfl (eC en_91 rfl (cover_tree_labels_w hx2)) ?_
 rintro _ w7 ⟨k7_c0_0, k7_c0_1, rfl, O7_c0_0, f7_c0_0, O7_c0_1, f7_c0_1, G7⟩
 have z12 := G7.size
 have lt13 := O7_c0_0.lt
 have lt14 := O7_c0_1.lt
 refine sd_done<|sw_block ?_
 obtain ⟨l3, hl3, hm⟩ := bnd hm
 have X15 := ((((((((Gr.refl w).trans G1).trans G2).trans G3).md M4).trans G5).md M6).trans G7)
 have B16 := ((((((Bw1.gr G2).gr G3).md M4).gr G5).md M6).gr G7)
 have B17 := (B11.gr G7)
 have B18 := (Bw6.gr G7)
 refine sw_rangeFunc (gf := 113) rfl en_113 (cover_tree_labels_1_it x2.1 x2.2 _ _ _ hl3 _ O7_c0_0 O7_c0_1) (by intro x hx; obtain ⟨a, _, rfl⟩ := List.mem_map.1 hx; rfl) rfl _ (fun _ _ _ _ => False) ([b5]) (stb_mk (α := Int) (fun a5 rk => itL cover_Storage_R1 cover_Storage_D1 (List.drop rk l3) a5 = some r) (fun a5 => ([b5])) (fun a5 W => Bx W b5 3 ([.int .i64 a5]) ∧ True) (by rintro a5 W ⟨F0, _⟩ b hb; have q0 := F0.lt; replace hb : b ∈ ([b5]) := hb; simp only [List.mem_cons, List.mem_append, mem_zf, List.not_mem_nil, or_false, false_or, not_or, ne_eq, List.nil_append, List.cons_append, true_and, and_true, false_and, and_false, not_true_eq_false, not_false_eq_true, or_true, true_or] at hb; omega) (by rintro a5 W W' ⟨F0, _⟩ E hs; replace hs : ∀ b ∈ ([b5]), W'.heap[b]? = W.heap[b]? := hs; exact ⟨(hs _ (by simp)).trans F0, trivial⟩)) (fun _ => stb_false) (by intro b hb; simp only [List.mem_cons, List.mem_append, mem_zf, List.not_mem_nil, or_false, false_or, not_or, ne_eq, List.nil_append, List.cons_append, true_and, and_true, false_and, and_false, not_true_eq_false, not_false_eq_true, or_true, true_or] at hb ⊢; omega) ⟨0, hm, rfl, B18, trivial⟩ ?_ ?_ ?_
 · rintro l rk x fp w8 hl hx _ K8 hF hln hlt
   clear hm
   obtain ⟨⟨e6, e7⟩, hxe, rfl⟩ := map_some hx
   have Zw8 : Kz [(1, b5)] w7 w8 := kz_of_kp K8 (by intro k hk; simp only [Nin, and_true, List.mem_cons, List.mem_append, mem_zf, List.not_mem_nil, or_false, false_or, not_or, ne_eq, List.nil_append, List.cons_append, true_and, and_true, false_and, and_false, not_true_eq_false, not_false_eq_true, or_true, true_or] at hk ⊢; omega)
   have z19 := K8.size
   refine sw_skip<|⟨rfl, (Gr.refl _), ?_⟩
   rintro w9 M9 ⟨a5, hm, rfl, Fw9_0, -⟩
   have z20 := M9.size
   have lt21 := Fw9_0.lt
   replace hm := itL_at hm hxe
   generalize hnx1 : itL cover_Storage_R1 cover_Storage_D1 (List.drop (rk + 1) l3) = nx1 at hm
   unfold cover_Storage_R1 at hm
   try dsimp only at hm
   refine sw_block<|qg 3 rfl<|qv rfl (vv_load1 (v := .int .i64 a5) one_3 rfl Fw9_0 rfl)<|qv rfl (vv_add (k := .i64) (a := a5) (b := 1) rfl rfl)<|qe rfl (ev_st1 (cs' := [.int .i64 (w64 (a5 + 1))]) (one_3).siz rfl rfl rfl Fw9_0 rfl rfl) ?_
   rintro _ w10 ⟨Bw10, M10⟩
   have z22 := M10.size
   refine sd_nil<|block_n ?_
   have K_23 : Kz [(1, b5)] w9 w10 := (Kz.md (Kz.refl _ _) M10)
   have Kq23 : Kp ([b5]) w9 w10 := kp_of_kz K_23 (by intro k hk; simp only [Nin, and_true, List.mem_cons, List.mem_append, mem_zf, List.not_mem_nil, or_false, false_or, not_or, ne_eq, List.nil_append, List.cons_append, true_and, and_true, false_and, and_false, not_true_eq_false, not_false_eq_true, or_true, true_or] at hk ⊢; omega)
   subst hnx1
   exact ⟨Kq23, ([b5]), (by intro c hc; simp only [List.mem_cons, List.mem_append, mem_zf, List.not_mem_nil, or_false, false_or, not_or, ne_eq, List.nil_append, List.cons_append, true_and, and_true, false_and, and_false, not_true_eq_false, not_false_eq_true, or_true, true_or] at hc ⊢; omega), ⟨w64 (a5 + 1), hm, rfl, Bw10, trivial⟩⟩
 · clear hm; rintro Dw11 fp w11 hDw11 Dfw11 nw11 ⟨a5, hm, rfl, Fw11_0, -⟩ K11
   replace hm := itL_end hm
   have Zw11 : Kz [(1, b5)] w7 w11 := kz_of_kp K11 (by intro k hk; simp only [Nin, and_true, List.mem_cons, List.mem_append, mem_zf, List.not_mem_nil, or_false, false_or, not_or, ne_eq, List.nil_append, List.cons_append, true_and, and_true, false_and, and_false, not_true_eq_false, not_false_eq_true, or_true, true_or] at hk ⊢; omega)
   have z24 := K11.size
   have lt25 := Df.lt (w := w11) Dfw11
   simp only [List.mem_cons, List.mem_append, mem_zf, List.not_mem_nil, or_false, false_or, not_or, ne_eq, List.nil_append, List.cons_append, true_and, and_true, false_and, and_false, not_true_eq_false, not_false_eq_true, or_true, true_or, not_and] at nw11
   have lt26 := Fw11_0.lt
   unfold cover_Storage_D1 at hm
   try dsimp only at hm
   refine block_n<|then_n<|qs 3 rfl<|qv rfl (vv_load1 (v := .int .i64 a5) one_3 rfl Fw11_0 rfl)<|qm rfl<|qm rfl ?_
   refine sd_done<|sw_ret ?_
   have DL27 := Dfw11
   have L27 := Md.put (w := w11) Dw11 (.deferred none)
   have zL27 := L27.size
   have X28 : Gr w (w11.putObj Dw11 (.deferred none)) := ((X15.kz Zw11).md L27)
   cases hm
   refine ⟨_, _, ⟨Dw11, rfl, DL27, rfl⟩, res_2 rfl (rv_tmp rfl) (rv_tmp rfl), ?_⟩
   exact ⟨rfl, X28⟩
 rintro _ _ _ _ _ _ _ _ _ h _
 exact h.elim
theorem plan_Choose_w {p0 p1 r} (hm : plan_Choose p0 p1 = some r) {w : World} :
    Calls Try.prog 25 [.agg (TNeed.cs p0).toArray, bv p1].toArray w fun e w' => ∃ v, e = .returned v ∧ (∃ ur0_7 zr0_7 gr0_7, v = .tuple [.agg (TChoice.cs r.1 ur0_7).toArray, .int .i64 r.2].toArray ∧ Own w' zr0_7 gr0_7 3 1 ur0_7 (r.1.Witness.map ic) ∧ Hdn (zr0_7 = 0 ∨ w.heap.size ≤ gr0_7) ∧ Gr w w') := by
 unfold plan_Choose at hm
 refine calls_of_sw 112 Try.func25 rfl rfl rfl<|qs 3 rfl<|qe rfl (ev_box (cs := TNeed.cs p0) rfl rfl) ?_
 rintro _ w1 ⟨b1, rfl, hbw1, Bw1, G1⟩
 have z1 := G1.size
 have lt2 := Bw1.lt
 refine qe rfl (ev_alloc (cs := TChoice.cs (TChoice.mk 0#8 false 0 0 0 0 0 []) (.slice none 0 0)) zv_52 rfl) ?_
 rintro _ w2 ⟨b2, rfl, hbw2, Bw2, G2⟩
 have z3 := G2.size
 have lt4 := Bw2.lt
 refine qm rfl<|sd_done<|sw_seq<|qs 3 rfl ?_
 have B5 := (Bw1.gr G2)
 refine qv rfl (vv_loadW agg_50 rfl B5 rfl) ?_
 obtain ⟨x1, hx1, hm⟩ := bnd hm
 refine qe rfl (eC en_29 rfl (plan_CheckNeed_w hx1)) ?_
 rintro _ w3 ⟨rfl, G3⟩
 have z6 := G3.size
 refine qm rfl<|qd 2 rfl<|qm rfl<|qv rfl (vv_neq (a := x1) (b := 0) rfl rfl)<|sd_done ?_
 refine sw_cond rfl (fun c1 => ?_) (fun c1 => ?_)
 · replace hm := iT c1 hm
   refine qs 4 rfl<|qv rfl (vv_build (cs := TChoice.cs (TChoice.mk 0#8 false 0 0 0 0 0 []) (.slice none 0 0)) bs_52 rfl rfl)<|qm rfl ?_
   have B7 := (Bw2.gr G3)
   refine qe rfl (ev_stW agg_52 rfl rfl (TChoice.cs_ones _ _ rfl) B7 rfl rfl) ?_
   rintro _ w4 ⟨Bw4, M4⟩
   have z8 := M4.size
   refine qm rfl<|qb ?_
   have X9 := (((((Gr.refl w).trans G1).trans G2).trans G3).md M4)
   cases hm
   refine ⟨_, _, rfl, res_2 rfl (rv_cellW agg_52 rfl Bw4 rfl) (rv_tmp rfl), ?_⟩
   exact ⟨(.slice none 0 0), 0, 0, rfl, (own_nil _ 0 3 1), ⟨.inl rfl⟩, X9⟩
 replace hm := iF c1 hm
 refine qu<|qs 4 rfl<|qm rfl<|qv rfl (vv_build (cs := TChoice.cs (TChoice.mk p1 false 0 0 0 0 0 []) (.slice none 0 0)) bs_52 rfl rfl)<|qe rfl (ev_alloc (cs := TChoice.cs (TChoice.mk 0#8 false 0 0 0 0 0 []) (.slice none 0 0)) zv_52 rfl) ?_
 rintro _ w5 ⟨b5, rfl, hbw5, Bw5, G5⟩
 have z10 := G5.size
 have lt11 := Bw5.lt
 refine qe rfl (ev_stW agg_52 rfl rfl (TChoice.cs_ones _ _ rfl) Bw5 rfl rfl) ?_
 rintro _ w6 ⟨Bw6, M6⟩
 have z12 := M6.size
 refine sd_done ?_
 have X13 := ((((((Gr.refl w).trans G1).trans G2).trans G3).trans G5).md M6)
 refine qj (β := Int × Int × Int × List Int × Value × Nat × Nat) ([5] ++ rg 8 6 ++ rg 22 56) (fun ⟨a2, a3, a4, a5, vy6, zy6, gy6⟩ => [(5, .int .i64 0)]) (fun ⟨a2, a3, a4, a5, vy6, zy6, gy6⟩ wr => (plan_Choose_J1 p0 p1 a2 a3 a4 a5 = some r) ∧ Own wr zy6 gy6 3 1 vy6 (a5.map ic) ∧ Hdn (zy6 = 0 ∨ w6.heap.size ≤ gy6) ∧ Bx wr b5 52 (TChoice.cs (TChoice.mk p1 false a2 a3 0 a4 0 a5) vy6) ∧ Kz [(1, b5)] w6 wr) ?_ ?_
 · refine sw_block<|qj (β := Bool) (rg 50 7) (fun a8 => [(50, .bool a8)]) (fun a8 wr => (plan_Choose_J2 p0 p1 a8 = some r) ∧ Kz [] w6 wr) ?_ ?_
   · refine qg 7 rfl<|qm rfl<|qv rfl (vv_lssB (p := p1) (q := 1#8) rfl rfl)<|qp rfl (vv_move rfl) (fun c5 => ?_) (fun c5 => ?_)
     · replace hm := iT c5 hm
       refine qk rfl<|qk rfl<|qm rfl<|qm rfl<|sd_nil ?_
       exact ⟨rfl, true, sbq, hm, kz0⟩
     replace hm := iF c5 hm
     refine qm rfl<|qv rfl (vv_gtrB (p := p1) (q := 4#8) rfl rfl)<|qm rfl<|qm rfl<|sd_nil ?_
     exact ⟨rfl, (decide (4#8 < p1)), sbq, hm, kz0⟩
   clear hm; rintro a8 w13 ⟨hm, K13⟩
   have z28 := K13.size
   unfold plan_Choose_J2 at hm
   refine sw_cond rfl (fun c2 => ?_) (fun c2 => ?_)
   · replace hm := cnd_t c2 hm
     refine qs 3 rfl<|qv rfl (vv_build (cs := TChoice.cs (TChoice.mk 0#8 false 0 0 0 0 0 []) (.slice none 0 0)) bs_52 rfl rfl) ?_
     have Y1 := Gr.trans G3 G5
     have B29 := (((Bw2.gr Y1).md M6).kz K13)
     refine qe rfl (ev_stW agg_52 rfl rfl (TChoice.cs_ones _ _ rfl) B29 rfl rfl) ?_
     rintro _ w14 ⟨Bw14, M14⟩
     have z30 := M14.size
     refine qm rfl<|sd_done<|sw_ret<|block_r<|then_r ?_
     have X31 := ((X13.kz K13).md M14)
     cases hm
     refine ⟨_, _, rfl, res_2 rfl (rv_cellW agg_52 rfl Bw14 rfl) (rv_tmp rfl), ?_⟩
     exact ⟨(.slice none 0 0), 0, 0, rfl, (own_nil _ 0 3 1), ⟨.inl rfl⟩, X31⟩
   replace hm := cnd_f c2 hm
   refine qs 3 rfl<|qm rfl<|qv rfl (vv_eqlB (p := p1) (q := 4#8) rfl rfl)<|qm rfl<|sd_done<|sw_cond rfl (fun c3 => ?_) (fun c3 => ?_)
   · replace hm := iT c3 hm
     refine qs 11 rfl<|qm rfl<|qv rfl (vv_fieldAddr fa_50_0 rfl) ?_
     have Y2 := Gr.trans G3 G5
     have B32 := (((B5.gr Y2).md M6).kz K13)
     refine qv rfl (vv_load1 (v := .int .i64 p0.Depth) one_3 rfl B32 rfl)<|qv rfl (vv_fieldAddr fa_50_1 rfl)<|qv rfl (vv_load1 (v := .int .i64 p0.Revoked) one_3 rfl B32 rfl)<|qv rfl (vv_maxK rfl rfl)<|qv rfl (vv_fieldAddr fa_50_6 rfl)<|qv rfl (vv_loadM (vs := TGroup.cs p0.Group) agg_24 rfl B32 rfl rfl)<|qv rfl (vv_build (cs := TScheme.cs (TScheme.mk p1 p0.Depth (mxI p0.Revoked 1) p0.Group)) bs_26 rfl (fill_M rfl rfl rfl (fill_M rfl rfl rfl (fill_M rfl rfl rfl (fill_M rfl rfl rfl rfl))))) ?_
     refine qe rfl (ev_alloc (cs := TScheme.cs (TScheme.mk 0#8 0 0 (TGroup.mk 0#64 0#64 0#64))) zv_26 rfl) ?_
     rintro _ w15 ⟨b15, rfl, hbw15, Bw15, G15⟩
     have z33 := G15.size
     have lt34 := Bw15.lt
     refine qe rfl (ev_stW agg_26 rfl rfl rfl Bw15 rfl rfl) ?_
     rintro _ w16 ⟨Bw16, M16⟩
     have z35 := M16.size
     refine sd_done<|sw_seq<|qs 3 rfl<|qv rfl (vv_loadW agg_26 rfl Bw16 rfl) ?_
     obtain ⟨x9, hx9, hm⟩ := bnd hm
     refine qe rfl (eC en_54 rfl (poly_Check_w hx9)) ?_
     rintro _ w17 ⟨rfl, G17⟩
     have z36 := G17.size
     refine qv rfl (vv_neq (a := x9) (b := 0) rfl rfl)<|sd_done<|sw_cond rfl (fun c4 => ?_) (fun c4 => ?_)
     · replace hm := iT c4 hm
       refine qs 3 rfl ?_
       have B37 := ((((Bw6.kz K13).gr G15).md M16).gr G17)
       refine qv rfl (vv_loadW agg_52 rfl B37 rfl) ?_
       have B38 := ((((((Bw2.gr Y2).md M6).kz K13).gr G15).md M16).gr G17)
       refine qe rfl (ev_stW agg_52 rfl rfl (TChoice.cs_ones _ _ rfl) B38 rfl rfl) ?_
       rintro _ w18 ⟨Bw18, M18⟩
       have z39 := M18.size
       refine qm rfl<|qb<|block_r<|then_r ?_
       have X40 := (((((X13.kz K13).trans G15).md M16).trans G17).md M18)
       cases hm
       refine ⟨_, _, rfl, res_2 rfl (rv_cellW agg_52 rfl Bw18 rfl) (rv_tmp rfl), ?_⟩
       exact ⟨(.slice none 0 0), 0, 0, rfl, (own_nil _ 0 3 1), ⟨.inl rfl⟩, X40⟩
     replace hm := iF c4 hm
     refine qu<|qg 6 rfl<|qv rfl (vv_fieldAddr fa_26_2 rfl) ?_
     have B41 := (Bw16.gr G17)
     refine qv rfl (vv_load1 (v := .int .i64 (mxI p0.Revoked 1)) one_3 rfl B41 rfl)<|qv rfl (vv_fieldAddr fa_52_3 rfl) ?_
     have B42 := ((((Bw6.kz K13).gr G15).md M16).gr G17)
     refine qe rfl (ev_st1 (cs' := TChoice.cs (TChoice.mk p1 false 0 (mxI p0.Revoked 1) 0 0 0 []) (.slice none 0 0)) (one_3).siz rfl rfl rfl B42 rfl rfl) ?_
     rintro _ w19 ⟨Bw19, M19⟩
     have z43 := M19.size
     refine qv rfl (vv_fieldAddr fa_52_5 rfl)<|qe rfl (ev_st1 (cs' := TChoice.cs (TChoice.mk p1 false 0 (mxI p0.Revoked 1) 0 8 0 []) (.slice none 0 0)) (one_3).siz rfl rfl rfl Bw19 rfl rfl) ?_
     rintro _ w20 ⟨Bw20, M20⟩
     have z44 := M20.size
     refine sd_nil<|block_n ?_
     exact ⟨rfl, ⟨0, mxI p0.Revoked 1, 8, [], (.slice none 0 0), 0, 0⟩, sbq, hm, (own_nil _ 0 3 1), ⟨(.inl rfl)⟩, Bw20, ((((((Kz.kz (Kz.refl _ _) K13).gr G15).md M16).gr G17).md M19).md M20)⟩
   replace hm := iF c3 hm
   refine qs 6 rfl<|qm rfl<|qv rfl (vv_fieldAddr fa_50_0 rfl) ?_
   have Y3 := Gr.trans G3 G5
   have B46 := (((B5.gr Y3).md M6).kz K13)
   refine qv rfl (vv_load1 (v := .int .i64 p0.Depth) one_3 rfl B46 rfl)<|qv rfl (vv_build (cs := TScheme.cs (TScheme.mk p1 p0.Depth 0 (TGroup.mk 0#64 0#64 0#64))) bs_26 rfl rfl)<|qe rfl (ev_alloc (cs := TScheme.cs (TScheme.mk 0#8 0 0 (TGroup.mk 0#64 0#64 0#64))) zv_26 rfl) ?_
   rintro _ w21 ⟨b21, rfl, hbw21, Bw21, G21⟩
   have z47 := G21.size
   have lt48 := Bw21.lt
   refine qe rfl (ev_stW agg_26 rfl rfl rfl Bw21 rfl rfl) ?_
   rintro _ w22 ⟨Bw22, M22⟩
   have z49 := M22.size
   refine qd 3 rfl<|qv rfl (vv_loadW agg_26 rfl Bw22 rfl) ?_
   obtain ⟨x10, hx10, hm⟩ := bnd hm
   refine qe rfl (eC en_46 rfl (plan_newTables_w hx10)) ?_
   rintro _ w23 ⟨k23_p0_0, u23_p00_7, z23_p00_7, g23_p00_7, u23_p00_8, z23_p00_8, g23_p00_8, u23_p00_9, z23_p00_9, g23_p00_9, u23_p00_10, z23_p00_10, g23_p00_10, rfl, O23_p0_0, f23_p0_0, O23_p00_7, f23_p00_7, e23_p00_7, O23_p00_8, f23_p00_8, e23_p00_8, O23_p00_9, f23_p00_9, e23_p00_9, O23_p00_10, f23_p00_10, e23_p00_10, d23_0, d23_1, d23_2, d23_3, d23_4, d23_5, G23⟩
   have z50 := G23.size
   have lt51 := O23_p00_7.lth
   have lt52 := O23_p00_8.lth
   have lt53 := O23_p00_9.lth
   have lt54 := O23_p00_10.lth
   have lt55 := O23_p0_0.lt
   refine qm rfl<|qd 7 rfl ?_
   have B56 := (Bw22.gr G23)
   refine qv rfl (vv_loadW agg_26 rfl B56 rfl) ?_
   obtain ⟨x11, hx11, hm⟩ := bnd hm
   refine qe rfl (eC en_55 rfl (cover_Storage_w hx11)) ?_
   rintro _ w24 ⟨rfl, G24⟩
   have z57 := G24.size
   refine qm rfl<|qm rfl<|qm rfl<|qm rfl<|qm rfl<|sd_done<|sw_seq ?_
   refine qg 1 rfl<|qm rfl<|qd 10 rfl<|qm rfl<|qv rfl (vv_fieldAddr fa_50_1 rfl) ?_
   have B58 := ((((B46.gr G21).md M22).gr G23).gr G24)
   refine qv rfl (vv_load1 (v := .int .i64 p0.Revoked) one_3 rfl B58 rfl) ?_
   have B59 := (O23_p0_0.gr G24)
   have B60 := (O23_p00_7.gr G24)
   have B61 := (O23_p00_8.gr G24)
   have B62 := (O23_p00_9.gr G24)
   have B63 := (O23_p00_10.gr G24)
   obtain ⟨x12, hx12, hm⟩ := bnd hm
   refine qe rfl (eC en_39 rfl (plan_tables_worst_w hx12 B59 (Own.rd B60) (Own.rd B61) (Own.rd B62) (Own.rd B63))) ?_
   rintro _ w25 ⟨rfl, G25⟩
   have z64 := G25.size
   refine qm rfl<|qm rfl<|qm rfl<|qv rfl (vv_fieldAddr fa_52_2 rfl) ?_
   have B65 := ((((((Bw6.kz K13).gr G21).md M22).gr G23).gr G24).gr G25)
   refine qe rfl (ev_st1 (cs' := TChoice.cs (TChoice.mk p1 false x12.1 0 0 0 0 []) (.slice none 0 0)) (one_3).siz rfl rfl rfl B65 rfl rfl) ?_
   rintro _ w26 ⟨Bw26, M26⟩
   have z66 := M26.size
   refine qm rfl<|qd 4 rfl<|qm rfl<|qv rfl (vv_mul (k := .i64) (a := 16) (b := x11.1) rfl rfl)<|qv rfl (vv_fieldAddr fa_52_5 rfl) ?_
   refine qe rfl (ev_st1 (cs' := TChoice.cs (TChoice.mk p1 false x12.1 0 0 (w64 (16 * x11.1)) 0 []) (.slice none 0 0)) (one_3).siz rfl rfl rfl Bw26 rfl rfl) ?_
   rintro _ w27 ⟨Bw27, M27⟩
   have z67 := M27.size
   refine sd_done<|qg 7 rfl<|qm rfl<|qv rfl (vv_fieldAddr fa_26_1 rfl) ?_
   have B68 := ((((B56.gr G24).gr G25).md M26).md M27)
   refine qv rfl (vv_load1 (v := .int .i64 p0.Depth) one_3 rfl B68 rfl)<|qm rfl ?_
   have B69 := (((B59.gr G25).md M26).md M27)
   have B70 := (((B60.gr G25).md M26 (pb_0 f23_p00_7)).md M27 (pb_0 f23_p00_7))
   have B71 := (((B61.gr G25).md M26 (pb_0 f23_p00_8)).md M27 (pb_0 f23_p00_8))
   have B72 := (((B62.gr G25).md M26 (pb_0 f23_p00_9)).md M27 (pb_0 f23_p00_9))
   have B73 := (((B63.gr G25).md M26 (pb_0 f23_p00_10)).md M27 (pb_0 f23_p00_10))
   obtain ⟨x13, hx13, hm⟩ := bnd hm
   refine qe rfl (eC en_43 rfl (plan_tables_list_w x10 ([] : List Int) 1 0 p0.Depth x12.2 _ _ _ _ _ _ _ _ _ _ _ _ _ _ _ _ _ (.slice none 0 0) 0 0 _ hx13 _ B69 (Own.rd B70) (Own.rd B71) (Own.rd B72) (Own.rd B73) (own_nil _ 0 3 1) ⟨tk0⟩ ⟨tk0⟩ ⟨tk0⟩ ⟨tk0⟩ ⟨tk0⟩)) ?_
   rintro u28_r0_s w28 ⟨_, z28_r0_s, g28_r0_s, rfl, O28_r0_s, f28_r0_s, K28⟩
   have z74 := K28.size
   have lt75 := O28_r0_s.lth
   refine qv rfl (vv_fieldAddr fa_52_7 rfl) ?_
   have B76 := (Bw27.kz K28)
   refine qe rfl (ev_st1 (cs' := TChoice.cs (TChoice.mk p1 false x12.1 0 0 (w64 (16 * x11.1)) 0 x13) u28_r0_s) (one_32).siz rfl rfl (Own.oneB O28_r0_s) B76 rfl rfl) ?_
   rintro _ w29 ⟨Bw29, M29⟩
   have z77 := M29.size
   refine sd_nil<|block_n ?_
   have K_78 : Kz [(1, b5)] w6 w29 := ((((((((((Kz.kz (Kz.refl _ _) K13).gr G21).md M22).gr G23).gr G24).gr G25).md M26).md M27).kz K28).md M29)
   have B79 := (O28_r0_s.md M29 (pb_1 f28_r0_s (.inl rfl)))
   exact ⟨rfl, ⟨x12.1, 0, w64 (16 * x11.1), x13, u28_r0_s, z28_r0_s, g28_r0_s⟩, sbq, hm, B79, ⟨(pv_1 (A := (fun x => w6.heap.size ≤ x)) f28_r0_s (.inl rfl))⟩, Bw29, K_78⟩
 clear hm; rintro ⟨a2, a3, a4, a5, vy6, zy6, gy6⟩ w7 ⟨hm, Fw7_0, Fw7_1, Fw7_2, K7⟩
 have z14 := K7.size
 have lt15 := Fw7_0.lth
 have lt16 := Fw7_2.lt
 unfold plan_Choose_J1 at hm
 refine qs 10 rfl<|qv rfl (vv_fieldAddr fa_52_2 rfl)<|qv rfl (vv_load1 (v := .int .i64 a2) one_3 rfl Fw7_2 rfl)<|qv rfl (vv_mul (k := .i64) (a := 18) (b := a2) rfl rfl)<|qv rfl (vv_add (k := .i64) (a := 67) (b := w64 (18 * a2)) rfl rfl)<|qv rfl (vv_fieldAddr fa_52_3 rfl) ?_
 refine qv rfl (vv_load1 (v := .int .i64 a3) one_3 rfl Fw7_2 rfl)<|qv rfl (vv_mul (k := .i64) (a := 16) (b := a3) rfl rfl)<|qv rfl (vv_add (k := .i64) (a := w64 (67 + (w64 (18 * a2)))) (b := w64 (16 * a3)) rfl rfl)<|qv rfl (vv_fieldAddr fa_52_4 rfl)<|qe rfl (ev_st1 (cs' := TChoice.cs (TChoice.mk p1 false a2 a3 (w64 ((w64 (67 + (w64 (18 * a2)))) + (w64 (16 * a3)))) a4 0 a5) vy6) (one_3).siz rfl rfl rfl Fw7_2 rfl rfl) ?_
 rintro _ w8 ⟨Bw8, M8⟩
 have z17 := M8.size
 refine sd_done<|sw_seq<|dw [([b5]),([])] [(18, [1])] (.leaf [(0,10),(1,10),(2,10),(3,10),(4,10),(5,10),(6,11),(7,10),(8,10),(9,10),(10,10),(11,11),(12,10),(13,10),(14,10),(15,10),(16,10),(17,10),(18,0)]) ?_
 intro w9 G9 zw9
 refine sdz_leaf<|dh 0 rfl rfl (fun w hS => vv_fieldAddr fa_50_3 rfl) ?_
 have Y4 := Gr.trans G3 G5
 have B18 := (((((B5.gr Y4).md M6).kz K7).md M8).gr G9)
 refine dh 0 rfl rfl (fun w hS => vv_load1 (v := .int .i64 p0.Headers) one_3 rfl (Bx.kp B18 hS) rfl)<|dh 0 rfl rfl (fun w hS => vv_fieldAddr fa_50_4 rfl)<|dh 0 rfl rfl (fun w hS => vv_load1 (v := .int .i64 p0.HeaderPrice) one_3 rfl (Bx.kp B18 hS) rfl)<|dh 0 rfl rfl (fun w hS => vv_mul (k := .i64) (a := p0.Headers) (b := p0.HeaderPrice) rfl rfl)<|dh 0 rfl rfl (fun w hS => vv_fieldAddr fa_52_4 rfl) ?_
 have B19 := (Bw8.gr G9)
 refine dh 1 rfl rfl (fun w hS => vv_load1 (v := .int .i64 (w64 ((w64 (67 + (w64 (18 * a2)))) + (w64 (16 * a3))))) one_3 rfl (Bx.kp B19 hS) rfl)<|dh 0 rfl rfl (fun w hS => vv_mul (k := .i64) (a := w64 (p0.Headers * p0.HeaderPrice)) (b := w64 ((w64 (67 + (w64 (18 * a2)))) + (w64 (16 * a3)))) rfl rfl)<|dh 0 rfl rfl (fun w hS => vv_fieldAddr fa_50_5 rfl)<|dh 0 rfl rfl (fun w hS => vv_load1 (v := .int .i64 p0.StoragePrice) one_3 rfl (Bx.kp B18 hS) rfl)<|dh 0 rfl rfl (fun w hS => vv_fieldAddr fa_52_5 rfl)<|dh 1 rfl rfl (fun w hS => vv_load1 (v := .int .i64 a4) one_3 rfl (Bx.kp B19 hS) rfl)<|dh 0 rfl rfl (fun w hS => vv_mul (k := .i64) (a := p0.StoragePrice) (b := a4) rfl rfl) ?_
 refine dh 0 rfl rfl (fun w hS => vv_fieldAddr fa_50_0 rfl)<|dh 0 rfl rfl (fun w hS => vv_load1 (v := .int .i64 p0.Depth) one_3 rfl (Bx.kp B18 hS) rfl) ?_
 obtain ⟨nn7, hnn7, hm⟩ := bnd hm
 refine dh 0 rfl rfl (fun w hS => vv_shlI (a := w64 (p0.StoragePrice * a4)) (b := p0.Depth) rfl rfl hnn7)<|dh 0 rfl rfl (fun w hS => vv_add (k := .i64) (a := w64 ((w64 (p0.Headers * p0.HeaderPrice)) * (w64 ((w64 (67 + (w64 (18 * a2)))) + (w64 (16 * a3)))))) (b := shlI (w64 (p0.StoragePrice * a4)) nn7) rfl rfl)<|dh 0 rfl rfl (fun w hS => vv_fieldAddr fa_52_6 rfl)<|qz [(1, b5)] rfl (ev_st1 (cs' := TChoice.cs (TChoice.mk p1 false a2 a3 (w64 ((w64 (67 + (w64 (18 * a2)))) + (w64 (16 * a3)))) a4 (w64 ((w64 ((w64 (p0.Headers * p0.HeaderPrice)) * (w64 ((w64 (67 + (w64 (18 * a2)))) + (w64 (16 * a3)))))) + (shlI (w64 (p0.StoragePrice * a4)) nn7))) a5) vy6) (one_3).siz rfl rfl rfl B19 rfl rfl) ⟨fun _ => tk0, nofun, trivial⟩ ?_
 rintro _ w10 ⟨Bw10, M10⟩
 have z20 := M10.size
 refine kM M10<|qd 7 rfl<|qv rfl (vv_fieldAddr fa_52_5 rfl)<|qv rfl (vv_load1 (v := .int .i64 a4) one_3 rfl Bw10 rfl)<|qv rfl (vv_fieldAddr fa_50_2 rfl) ?_
 have B21 := (B18.md M10)
 refine qv rfl (vv_load1 (v := .int .i64 p0.Storage) one_3 rfl B21 rfl)<|qv rfl (vv_leq (a := a4) (b := p0.Storage) rfl rfl)<|qv rfl (vv_fieldAddr fa_52_1 rfl)<|qe rfl (ev_st1 (cs' := TChoice.cs (TChoice.mk p1 (decide (a4 ≤ p0.Storage)) a2 a3 (w64 ((w64 (67 + (w64 (18 * a2)))) + (w64 (16 * a3)))) a4 (w64 ((w64 ((w64 (p0.Headers * p0.HeaderPrice)) * (w64 ((w64 (67 + (w64 (18 * a2)))) + (w64 (16 * a3)))))) + (shlI (w64 (p0.StoragePrice * a4)) nn7))) a5) vy6) (one_4).siz rfl rfl rfl Bw10 rfl rfl) ?_
 rintro _ w11 ⟨Bw11, M11⟩
 have z22 := M11.size
 refine qd 3 rfl<|qv rfl (vv_loadW agg_52 rfl Bw11 rfl) ?_
 have B23 := (((((((Bw2.gr Y4).md M6).kz K7).md M8).gr G9).md M10).md M11)
 have B24 := ((((Fw7_0.md M8 (pb_0 Fw7_1)).gr G9).md M10 (pb_0 Fw7_1)).md M11 (pb_0 Fw7_1))
 refine qe rfl (ev_stW agg_52 rfl rfl (TChoice.cs_ones _ _ (Own.oneB B24)) B23 rfl rfl) ?_
 rintro _ w12 ⟨Bw12, M12⟩
 have z25 := M12.size
 refine qm rfl<|sd_done<|sw_ret ?_
 have B26 := (B24.md M12 (pb_0 Fw7_1))
 have X27 := ((((((X13.kz K7).md M8).trans G9).md M10).md M11).md M12)
 cases hm
 refine ⟨_, _, rfl, res_2 rfl (rv_cellW agg_52 rfl Bw12 rfl) (rv_tmp rfl), ?_⟩
 exact ⟨vy6, zy6, gy6, rfl, B26, ⟨(pv_0 (A := (fun x => w.heap.size ≤ x)) Fw7_1)⟩, X27⟩
theorem plan_Make_w {p0 r} (hm : plan_Make p0 = some r) {w : World} :
    Calls Try.prog 27 [.agg (TNeed.cs p0).toArray].toArray w fun e w' => ∃ v, e = .returned v ∧ (∃ ur0_0 zr0_0 gr0_0 Fr0_0, v = .tuple [.agg (TPlan.cs r.1 ur0_0).toArray, .int .i64 r.2].toArray ∧ OwnD rp_52 w' zr0_0 gr0_0 52 ur0_0 Fr0_0 r.1.Choices ∧ Hdn (zr0_0 = 0 ∨ w.heap.size ≤ gr0_0) ∧ (∀ x ∈ Fr0_0, Pv [] [] w.heap.size x) ∧ Gr w w') := by
 unfold plan_Make at hm
 refine calls_of_sw 51 Try.func27 rfl rfl rfl<|qs 3 rfl<|qe rfl (ev_box (cs := TNeed.cs p0) rfl rfl) ?_
 rintro _ w1 ⟨b1, rfl, hbw1, Bw1, G1⟩
 have z1 := G1.size
 have lt2 := Bw1.lt
 refine qe rfl (ev_alloc (cs := TPlan.cs (TPlan.mk [] 0#8) (.slice none 0 0)) zv_59 rfl) ?_
 rintro _ w2 ⟨b2, rfl, hbw2, Bw2, G2⟩
 have z3 := G2.size
 have lt4 := Bw2.lt
 refine qm rfl<|qd 1 rfl<|qe rfl (ev_alloc (cs := TPlan.cs (TPlan.mk [] 0#8) (.slice none 0 0)) zv_59 rfl) ?_
 rintro _ w3 ⟨b3, rfl, hbw3, Bw3, G3⟩
 have z5 := G3.size
 have lt6 := Bw3.lt
 refine sd_done<|sw_seq<|qs 1 rfl<|qm rfl<|sd_done<|sw_block ?_
 have X7 := ((((Gr.refl w).trans G1).trans G2).trans G3)
 refine sw_loopD (α := Nat × BitVec 8 × List TChoice × BitVec 8 × Value × Nat × Nat × List Nat) ([3] ++ rg 5 45) (fun ⟨n1, a5, a6, a7, vy8, zy8, gy8, Fy8⟩ => [(3, .int .i64 0), (5, bv a5)]) (fun ⟨n1, a5, a6, a7, vy8, zy8, gy8, Fy8⟩ wr => (fixN (plan_Make_L1 p0) n1 (a5, a6, a7) = some r) ∧ OwnD rp_52 wr zy8 gy8 52 vy8 Fy8 a6 ∧ Hdn (zy8 = 0 ∨ w3.heap.size ≤ gy8) ∧ (∀ x ∈ Fy8, Pv [] [] w3.heap.size x) ∧ Bx wr b3 59 (TPlan.cs (TPlan.mk a6 a7) vy8) ∧ Kz [(1, b3)] w3 wr) (fun ⟨n1, a5, a6, a7, vy8, zy8, gy8, Fy8⟩ => n1) ⟨FUEL, 1#8, [], 0#8, (.slice none 0 0), 0, 0, []⟩ ?_ ?_ ?_
 · exact sbq
 · exact ⟨hm, (ownD_nil rp_52 _ 0 52), ⟨(.inl rfl)⟩, fA_nil, Bw3, Kz.refl _ _⟩
 clear hm; rintro ⟨n1, a5, a6, a7, vy8, zy8, gy8, Fy8⟩ w4 ⟨hm, Fw4_0, Fw4_1, Fw4_2, Fw4_3, K4⟩
 have z8 := K4.size
 have fl9 := Fw4_0.flt
 have lt10 := Fw4_0.lth
 have lt11 := Fw4_3.lt
 have hb := fix_succ hm; clear hm; obtain ⟨n1, rfl, hm⟩ := hb
 generalize hrec1 : fixN (plan_Make_L1 p0) n1 = rec1 at hm
 unfold plan_Make_L1 at hm
 try dsimp only at hm
 refine sw_seq<|qs 2 rfl<|qm rfl<|qv rfl (vv_leqB (p := a5) (q := 4#8) rfl rfl)<|sd_done<|cnF rfl (fun c1 => ?_) (fun c1 => ?_)
 · replace hm := iF c1 hm
   refine sw_exit<|then_x<|then_x<|block_x<|then_n<|qs 3 rfl ?_
   refine qv rfl (vv_loadW agg_59 rfl Fw4_3 rfl) ?_
   have B47 := ((Bw2.gr G3).kz K4)
   refine qe rfl (ev_stW agg_59 rfl rfl (TPlan.cs_ones _ _ (OwnD.oneB Fw4_0)) B47 rfl rfl) ?_
   rintro _ w15 ⟨Bw15, M15⟩
   have z48 := M15.size
   refine qm rfl<|sd_done<|sw_ret ?_
   have B49 := (Fw4_0.md M15 (tk1 (pb_0 (b := b2) Fw4_1)) (fA_pv (A := fun x => 1 = 0 ∨ x ≠ b2) Fw4_2 fA_nil mz_nil (fun x hx => .inr (by omega))))
   have X50 := ((X7.kz K4).md M15)
   cases hm
   refine ⟨_, _, rfl, res_2 rfl (rv_cellW agg_59 rfl Bw15 rfl) (rv_tmp rfl), ?_⟩
   exact ⟨vy8, zy8, gy8, Fy8, rfl, B49, ⟨(pv_0 (A := (fun x => w.heap.size ≤ x)) Fw4_1)⟩, (fA_pv (A := (Pv [] [] w.heap.size)) Fw4_2 fA_nil mz_nil (fun x hx => .inr (.inr (by omega)))), X50⟩
 replace hm := iT c1 hm
 refine qu<|sw_seq<|sw_block<|qs 9 rfl ?_
 have B12 := (((Bw1.gr G2).gr G3).kz K4)
 refine qv rfl (vv_loadW agg_50 rfl B12 rfl)<|qm rfl ?_
 obtain ⟨x9, hx9, hm⟩ := bnd hm
 refine qe rfl (eC en_25 rfl (plan_Choose_w hx9)) ?_
 rintro _ w5 ⟨u5_r0_7, z5_r0_7, g5_r0_7, rfl, O5_r0_7, f5_r0_7, G5⟩
 have z13 := G5.size
 have lt14 := O5_r0_7.lth
 refine qm rfl<|qm rfl<|qm rfl<|qe rfl (ev_alloc (cs := TChoice.cs (TChoice.mk 0#8 false 0 0 0 0 0 []) (.slice none 0 0)) zv_52 rfl) ?_
 rintro _ w6 ⟨b6, rfl, hbw6, Bw6, G6⟩
 have z15 := G6.size
 have lt16 := Bw6.lt
 have B17 := (O5_r0_7.gr G6)
 refine qe rfl (ev_stW agg_52 rfl rfl (TChoice.cs_ones _ _ (Own.oneB B17)) Bw6 rfl rfl) ?_
 rintro _ w7 ⟨Bw7, M7⟩
 have z18 := M7.size
 refine qm rfl<|sd_done<|sw_seq<|qs 2 rfl<|qm rfl<|qv rfl (vv_neq (a := x9.2) (b := 0) rfl rfl) ?_
 refine sd_done<|sw_cond rfl (fun c2 => ?_) (fun c2 => ?_)
 · replace hm := iT c2 hm
   refine qs 4 rfl<|qv rfl (vv_build (cs := TPlan.cs (TPlan.mk [] 0#8) (.slice none 0 0)) bs_59 rfl rfl)<|qm rfl ?_
   have Y1 := Gr.trans G5 G6
   have B19 := ((((Bw2.gr G3).kz K4).gr Y1).md M7)
   refine qe rfl (ev_stW agg_59 rfl rfl (TPlan.cs_ones _ _ rfl) B19 rfl rfl) ?_
   rintro _ w8 ⟨Bw8, M8⟩
   have z20 := M8.size
   refine qm rfl<|qb<|block_r<|then_r<|then_r ?_
   refine block_r<|then_r ?_
   have X21 := ((((X7.kz K4).trans Y1).md M7).md M8)
   cases hm
   refine ⟨_, _, rfl, res_2 rfl (rv_cellW agg_59 rfl Bw8 rfl) (rv_tmp rfl), ?_⟩
   exact ⟨(.slice none 0 0), 0, 0, [], rfl, (ownD_nil rp_52 _ 0 52), ⟨.inl rfl⟩, fA_nil, X21⟩
 replace hm := iF c2 hm
 refine qu<|qs 7 rfl<|qv rfl (vv_fieldAddr fa_59_0 rfl) ?_
 have Y2 := Gr.trans G5 G6
 have B22 := ((Fw4_3.gr Y2).md M7)
 refine qv rfl (vv_load1 (v := vy8) one_57 rfl B22 rfl)<|qv rfl (vv_loadW agg_52 rfl Bw7 rfl) ?_
 have B23 := (B17.md M7 (pb_lt lt14))
 refine qe rfl (ev_litD (R := rp_52) (F := (zf z5_r0_7 g5_r0_7)) [(x9.1, u5_r0_7)] bsl_57_1 rfl rfl rfl rfl rfl (by simp only [List.mem_cons, List.not_mem_nil, or_false]; rintro p rfl; exact ⟨_, _, _, (Own.rd B23), (in_zf _ _)⟩) (zf_lt B23.lth.o)) ?_
 rintro vw9 w9 ⟨gw9, hbw9, Ow9, G9⟩
 have z24 := G9.size
 have fl25 := Ow9.flt
 have lt26 := Ow9.lth
 have B27 := (((Fw4_0.gr Y2).md M7 (tk1 (pb_lt (b := b6) lt10)) (fun x hx => .inr (by have := fl9 x hx; omega))).gr G9)
 obtain ⟨l10, hl10, hm⟩ := bnd hm
 refine qe rfl (ev_appD (l := a6) (m := [x9.1]) apt_57 rfl rfl B27 (OwnD.rd Ow9) hl10 (by decide) (fA_zf (A := fun x => zy8 = 0 ∨ x ≠ gy8) (pv_0 (A := (fun x => zy8 = 0 ∨ x ≠ gy8)) f5_r0_7 (fun x hx => (tk1 lt10.o))))) ?_
 rintro vw10 w10 ⟨zw10, gw10, Ow10, Aw10, qw10, rw10⟩
 have z28 := Aw10.size
 have fl29 := Ow10.flt
 refine qv rfl (vv_fieldAddr fa_59_0 rfl) ?_
 have B30 := ((B22.gr G9).ka Aw10 (tk1 (pb_0 (b := b3) Fw4_1)))
 refine qe rfl (ev_st1 (cs' := TPlan.cs (TPlan.mk l10 a7) vw10) (one_57).siz rfl rfl (OwnD.oneB Ow10) B30 rfl rfl) ?_
 rintro _ w11 ⟨Bw11, M11⟩
 have z31 := M11.size
 refine sd_done ?_
 have X32 := ((((((X7.kz K4).trans Y2).md M7).trans G9).ka Aw10 (tk1 (pv_0 (A := (fun x => w.heap.size ≤ x)) Fw4_1))).md M11)
 refine qj (β := Bool) (rg 28 20) (fun a11 => [(47, .bool a11)]) (fun a11 wr => (plan_Make_J2 a5 a7 rec1 l10 a11 = some r) ∧ Kz [] w11 wr) ?_ ?_
 · refine dw [([])] [] (.leaf [(0,10),(1,10),(2,10),(3,10),(4,10),(5,10),(6,10),(7,10),(8,10),(9,10),(10,10),(11,10),(12,10),(13,10),(14,10),(15,10),(16,10),(17,10),(18,10),(19,10)]) ?_
   intro w14 G14 zw14
   refine sdz_leaf<|dh 0 rfl rfl (fun w hS => vv_fieldAddr fa_52_1 rfl) ?_
   have B41 := ((((Bw7.gr G9).ka Aw10 (tk1 (pb_lt (b := b6) lt10))).md M11).gr G14)
   refine dh 0 rfl rfl (fun w hS => vv_load1 (v := .bool x9.1.Fits) one_4 rfl (Bx.kp B41 hS) rfl)<|qqF 0 rfl rfl (Kp.refl ([]) w14) (fun w hS => vv_move rfl) (fun c4 => ?_) (fun c4 => ?_)
   · replace hm := cnd_f c4 hm
     refine dx 0 rfl rfl<|dx 0 rfl rfl<|dx 0 rfl rfl<|dx 0 rfl rfl<|dx 0 rfl rfl<|dx 0 rfl rfl<|dx 0 rfl rfl ?_
     refine dx 0 rfl rfl<|dx 0 rfl rfl<|dx 0 rfl rfl<|dx 0 rfl rfl<|dx 0 rfl rfl<|dx 0 rfl rfl<|dx 0 rfl rfl ?_
     refine dx 0 rfl rfl<|dx 0 rfl rfl<|dm 0 rfl rfl<|sd_nil ?_
     exact ⟨rfl, false, sbq, hm, (kz0.gr G14)⟩
   replace hm := cnd_t c4 hm
   refine dh 0 rfl rfl (fun w hS => vv_fieldAddr fa_59_1 rfl) ?_
   have B42 := (Bw11.gr G14)
   refine dh 0 rfl rfl (fun w hS => vv_load1 (v := bv a7) one_5 rfl (Bx.kp B42 hS) rfl)<|dh 0 rfl rfl (fun w hS => vv_eqlB (p := a7) (q := 0#8) rfl rfl)<|qq 0 rfl rfl (Kp.refl ([]) w14) (fun w hS => vv_move rfl) (fun c5 => ?_) (fun c5 => ?_)
   · replace hm := iT c5 hm
     refine dx 0 rfl rfl<|dx 0 rfl rfl<|dx 0 rfl rfl<|dx 0 rfl rfl<|dx 0 rfl rfl<|dx 0 rfl rfl<|dx 0 rfl rfl ?_
     refine dx 0 rfl rfl<|dx 0 rfl rfl<|dx 0 rfl rfl<|dx 0 rfl rfl<|dm 0 rfl rfl<|dm 0 rfl rfl<|sd_nil ?_
     exact ⟨rfl, true, sbq, hm, (kz0.gr G14)⟩
   replace hm := iF c5 hm
   refine dh 0 rfl rfl (fun w hS => vv_fieldAddr fa_52_6 rfl)<|dh 0 rfl rfl (fun w hS => vv_load1 (v := .int .i64 x9.1.Cost) one_3 rfl (Bx.kp B41 hS) rfl)<|dh 0 rfl rfl (fun w hS => vv_fieldAddr fa_59_0 rfl)<|dh 0 rfl rfl (fun w hS => vv_load1 (v := vw10) one_57 rfl (Bx.kp B42 hS) rfl)<|dh 0 rfl rfl (fun w hS => vv_fieldAddr fa_59_1 rfl)<|dh 0 rfl rfl (fun w hS => vv_load1 (v := bv a7) one_5 rfl (Bx.kp B42 hS) rfl)<|dh 0 rfl rfl (fun w hS => vv_subB (p := a7) (q := 1#8) rfl rfl) ?_
   obtain ⟨y12, hy12, hm⟩ := bnd hm
   have B44 := ((Ow10.md M11 (tk1 (pb_app (b := b3) rw10 (pb_0 Fw4_1))) (fA_app (fA_pv (A := fun x => 1 = 0 ∨ x ≠ b3) Fw4_2 fA_nil mz_nil (fun x hx => .inr (by omega))) (fA_zf (A := fun x => 1 = 0 ∨ x ≠ b3) (or_1 (pv_0 (A := (fun x => x ≠ b3)) f5_r0_7))))).gr G14)
   refine dh 0 rfl rfl (fun w hS => vv_ixD (i := un8 (a7 - 1#8)) Try.underlying57 (agg_52).siz rfl (OwnD.rd (OwnD.kp B44 hS (.inr List.not_mem_nil) (fun _ _ => List.not_mem_nil))) rfl hy12)<|dh 0 rfl rfl (fun w hS => vv_fieldAddr fa_52_6 rfl)<|dh 0 rfl rfl (fun w hS => vv_elD1 (q := 6) (u := .int .i64 y12.Cost) one_3 rfl (OwnD.rd (OwnD.kp B44 hS (.inr List.not_mem_nil) (fun _ _ => List.not_mem_nil))) hy12 (by first | rfl | omega) (fun _ => rfl))<|dh 0 rfl rfl (fun w hS => vv_lss (a := x9.1.Cost) (b := y12.Cost) rfl rfl)<|dm 0 rfl rfl<|dm 0 rfl rfl<|sd_nil ?_
   exact ⟨rfl, (decide (x9.1.Cost < y12.Cost)), sbq, hm, (kz0.gr G14)⟩
 clear hm; rintro a11 w12 ⟨hm, K12⟩
 have z33 := K12.size
 unfold plan_Make_J2 at hm
 refine cnF rfl (fun c3 => ?_) (fun c3 => ?_)
 · replace hm := cnd_f c3 hm
   refine sw_skip<|block_n<|then_n<|qg 3 rfl<|qm rfl<|qv rfl (vv_addB (p := a5) (q := 1#8) rfl rfl)<|qm rfl ?_
   refine sd_nil ?_
   have K_38 : Kz [(1, b3)] w3 w12 := ((((((K4.gr Y2).md M7).gr G9).ka Aw10 (tk1 (pv_0 (A := (fun x => w3.heap.size ≤ x)) Fw4_1))).md M11).kz K12)
   have B39 := ((Ow10.md M11 (tk1 (pb_app (b := b3) rw10 (pb_0 Fw4_1))) (fA_app (fA_pv (A := fun x => 1 = 0 ∨ x ≠ b3) Fw4_2 fA_nil mz_nil (fun x hx => .inr (by omega))) (fA_zf (A := fun x => 1 = 0 ∨ x ≠ b3) (or_1 (pv_0 (A := (fun x => x ≠ b3)) f5_r0_7))))).kz K12 tk0 (fun x hx => tk0))
   have B40 := (Bw11.kz K12)
   subst hrec1
   exact ⟨rfl, ⟨n1, a5 + 1#8, l10, a7, vw10, zw10, gw10, (Fy8 ++ (zf z5_r0_7 g5_r0_7))⟩, sbq, ⟨hm, B39, ⟨(pv_app (A := (fun x => w3.heap.size ≤ x)) rw10 (pv_0 (A := (fun x => w3.heap.size ≤ x)) Fw4_1))⟩, (fA_app (fA_pv (A := (Pv [] [] w3.heap.size)) Fw4_2 fA_nil mz_nil (fun x hx => .inr (.inr (by omega)))) (fA_zf (A := (Pv [] [] w3.heap.size)) (pv_Pv (pv_0 (A := (fun x => Mz [] x ∨ w3.heap.size ≤ x)) f5_r0_7)))), B40, K_38⟩, Nat.lt_succ_self _⟩
 replace hm := cnd_t c3 hm
 refine qg 3 rfl<|qm rfl<|qv rfl (vv_fieldAddr fa_59_1 rfl) ?_
 have B34 := (Bw11.kz K12)
 refine qe rfl (ev_st1 (cs' := TPlan.cs (TPlan.mk l10 a5) vw10) (one_5).siz rfl rfl rfl B34 rfl rfl) ?_
 rintro _ w13 ⟨Bw13, M13⟩
 have z35 := M13.size
 refine sd_nil<|block_n<|then_n<|qg 3 rfl<|qm rfl<|qv rfl (vv_addB (p := a5) (q := 1#8) rfl rfl)<|qm rfl ?_
 refine sd_nil ?_
 have K_36 : Kz [(1, b3)] w3 w13 := (((((((K4.gr Y2).md M7).gr G9).ka Aw10 (tk1 (pv_0 (A := (fun x => w3.heap.size ≤ x)) Fw4_1))).md M11).kz K12).md M13)
 have B37 := (((Ow10.md M11 (tk1 (pb_app (b := b3) rw10 (pb_0 Fw4_1))) (fA_app (fA_pv (A := fun x => 1 = 0 ∨ x ≠ b3) Fw4_2 fA_nil mz_nil (fun x hx => .inr (by omega))) (fA_zf (A := fun x => 1 = 0 ∨ x ≠ b3) (or_1 (pv_0 (A := (fun x => x ≠ b3)) f5_r0_7))))).kz K12 tk0 (fun x hx => tk0)).md M13 (tk1 (pb_app (b := b3) rw10 (pb_0 Fw4_1))) (fA_app (fA_pv (A := fun x => 1 = 0 ∨ x ≠ b3) Fw4_2 fA_nil mz_nil (fun x hx => .inr (by omega))) (fA_zf (A := fun x => 1 = 0 ∨ x ≠ b3) (or_1 (pv_0 (A := (fun x => x ≠ b3)) f5_r0_7)))))
 subst hrec1
 exact ⟨rfl, ⟨n1, a5 + 1#8, l10, a5, vw10, zw10, gw10, (Fy8 ++ (zf z5_r0_7 g5_r0_7))⟩, sbq, ⟨hm, B37, ⟨(pv_app (A := (fun x => w3.heap.size ≤ x)) rw10 (pv_0 (A := (fun x => w3.heap.size ≤ x)) Fw4_1))⟩, (fA_app (fA_pv (A := (Pv [] [] w3.heap.size)) Fw4_2 fA_nil mz_nil (fun x hx => .inr (.inr (by omega)))) (fA_zf (A := (Pv [] [] w3.heap.size)) (pv_Pv (pv_0 (A := (fun x => Mz [] x ∨ w3.heap.size ≤ x)) f5_r0_7)))), Bw13, K_36⟩, Nat.lt_succ_self _⟩
end Go.Proofs.Ytopkalcefepilaa.Mx
