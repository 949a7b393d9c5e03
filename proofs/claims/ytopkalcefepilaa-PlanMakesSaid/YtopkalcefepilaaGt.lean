/- Walks that follow mirrors: Gt. Printed by mx.py. -/
import Derived.Test.YtopkalcefepilaaZd
import Derived.Test.YtopkalcefepilaaGb
set_option linter.unusedVariables false
set_option linter.unusedSimpArgs false
set_option maxRecDepth 100000
set_option maxHeartbeats 8000000
namespace Go.Proofs.Ytopkalcefepilaa.Mx
open Go Go.RowKit Go.Sx
theorem zv_24 : ZV Try.prog 24 (.agg [.int .u64 0, .int .u64 0, .int .u64 0].toArray) := fun _ => by kernel_rfl
theorem bs_24 : BS Try.prog 24 (fun i => [(0, 1), (1, 1), (2, 1)][i]?) [.int .u64 0, .int .u64 0, .int .u64 0] := bs_mk Try.underlying24 zv_24 ⟨rfl, (one_22).siz, rfl, (one_22).siz, rfl, (one_22).siz, trivial⟩
theorem eqt_24 : EqT Try.prog 24 [.i .u64, .i .u64, .i .u64] := ⟨by kernel_rfl, agg_24, 2, by decide, eqc_24⟩
theorem en_89 : En Try.prog 89 := fun _ _ => by kernel_rfl
theorem bsl_32_4 : BSl Try.prog 32 4 3 1 [.int .i64 0, .int .i64 0, .int .i64 0, .int .i64 0] := bsl_mk Try.underlying32 (one_3).siz zv_3 rfl rfl (by kernel_rfl)
theorem en_79 : En Try.prog 79 := fun _ _ => by kernel_rfl
theorem cv_3_118 : CV Try.prog 3 118 .u64 := fun _ _ _ => by kernel_rfl
theorem en_106 : En Try.prog 106 := fun _ _ => by kernel_rfl
theorem en_80 : En Try.prog 80 := fun _ _ => by kernel_rfl
theorem en_132 : En Try.prog 132 := fun _ _ => by kernel_rfl
theorem en_111 : En Try.prog 111 := fun _ _ => by kernel_rfl
theorem en_107 : En Try.prog 107 := fun _ _ => by kernel_rfl
theorem en_81 : En Try.prog 81 := fun _ _ => by kernel_rfl
theorem ref03_Valid_w {p0 r} (hm : ref03_Valid p0 = some r) {w : World} :
    Calls Try.prog 89 [.agg (TScheme.cs p0).toArray].toArray w fun e w' => ∃ v, e = .returned v ∧ (v = .bool r ∧ Gr w w') := by
 unfold ref03_Valid at hm
 refine calls_of_sw 32 Try.func89 rfl rfl rfl<|qs 2 rfl<|qe rfl (ev_box (cs := TScheme.cs p0) rfl rfl) ?_
 rintro _ w1 ⟨b1, rfl, hbw1, Bw1, G1⟩
 have z1 := G1.size
 have lt2 := Bw1.lt
 refine qm rfl<|qd 30 rfl<|qv rfl (vv_fieldAddr fa_26_0 rfl)<|qv rfl (vv_load1 (v := bv p0.Kind) one_5 rfl Bw1 rfl)<|qv rfl (vv_geqB (p := p0.Kind) (q := 1#8) rfl rfl) ?_
 refine qpF rfl (vv_move rfl) (fun c1 => ?_) (fun c1 => ?_)
 · replace hm := iF c1 hm
   refine qk rfl<|qk rfl<|qk rfl<|qm rfl<|qm rfl<|qk rfl<|qk rfl ?_
   refine qk rfl<|qm rfl<|qm rfl<|qk rfl<|qk rfl<|qk rfl<|qm rfl ?_
   refine qm rfl<|qk rfl<|qk rfl<|qk rfl<|qm rfl<|qm rfl<|qk rfl ?_
   refine qk rfl<|qk rfl<|qk rfl<|qm rfl<|qm rfl<|sd_done<|sw_ret ?_
   have X8 := ((Gr.refl w).trans G1)
   cases hm
   refine ⟨_, _, rfl, res_1 rfl (rv_tmp rfl), ?_⟩
   exact ⟨rfl, X8⟩
 replace hm := iT c1 hm
 refine qv rfl (vv_fieldAddr fa_26_0 rfl)<|qv rfl (vv_load1 (v := bv p0.Kind) one_5 rfl Bw1 rfl)<|qv rfl (vv_leqB (p := p0.Kind) (q := 3#8) rfl rfl)<|qm rfl<|qpF rfl (vv_move rfl) (fun c2 => ?_) (fun c2 => ?_)
 · replace hm := iF c2 hm
   refine qk rfl<|qk rfl<|qk rfl<|qm rfl<|qm rfl<|qk rfl<|qk rfl ?_
   refine qk rfl<|qm rfl<|qm rfl<|qk rfl<|qk rfl<|qk rfl<|qm rfl ?_
   refine qm rfl<|qk rfl<|qk rfl<|qk rfl<|qk rfl<|qm rfl<|qm rfl ?_
   refine sd_done<|sw_ret ?_
   have X7 := ((Gr.refl w).trans G1)
   cases hm
   refine ⟨_, _, rfl, res_1 rfl (rv_tmp rfl), ?_⟩
   exact ⟨rfl, X7⟩
 replace hm := iT c2 hm
 refine qv rfl (vv_fieldAddr fa_26_1 rfl)<|qv rfl (vv_load1 (v := .int .i64 p0.Depth) one_3 rfl Bw1 rfl)<|qv rfl (vv_geq (a := p0.Depth) (b := 0) rfl rfl)<|qm rfl<|qpF rfl (vv_move rfl) (fun c3 => ?_) (fun c3 => ?_)
 · replace hm := iF c3 hm
   refine qk rfl<|qk rfl<|qk rfl<|qm rfl<|qm rfl<|qk rfl<|qk rfl ?_
   refine qk rfl<|qm rfl<|qm rfl<|qk rfl<|qk rfl<|qk rfl<|qk rfl ?_
   refine qm rfl<|qm rfl<|sd_done<|sw_ret ?_
   have X6 := ((Gr.refl w).trans G1)
   cases hm
   refine ⟨_, _, rfl, res_1 rfl (rv_tmp rfl), ?_⟩
   exact ⟨rfl, X6⟩
 replace hm := iT c3 hm
 refine qv rfl (vv_fieldAddr fa_26_1 rfl)<|qv rfl (vv_load1 (v := .int .i64 p0.Depth) one_3 rfl Bw1 rfl)<|qv rfl (vv_leq (a := p0.Depth) (b := 6) rfl rfl)<|qm rfl<|qpF rfl (vv_move rfl) (fun c4 => ?_) (fun c4 => ?_)
 · replace hm := iF c4 hm
   refine qk rfl<|qk rfl<|qk rfl<|qm rfl<|qm rfl<|qk rfl<|qk rfl ?_
   refine qk rfl<|qk rfl<|qm rfl<|qm rfl<|sd_done<|sw_ret ?_
   have X5 := ((Gr.refl w).trans G1)
   cases hm
   refine ⟨_, _, rfl, res_1 rfl (rv_tmp rfl), ?_⟩
   exact ⟨rfl, X5⟩
 replace hm := iT c4 hm
 refine qv rfl (vv_fieldAddr fa_26_2 rfl)<|qv rfl (vv_load1 (v := .int .i64 p0.Degree) one_3 rfl Bw1 rfl)<|qv rfl (vv_eql (a := p0.Degree) (b := 0) rfl rfl)<|qm rfl<|qpF rfl (vv_move rfl) (fun c5 => ?_) (fun c5 => ?_)
 · replace hm := iF c5 hm
   refine qk rfl<|qk rfl<|qk rfl<|qk rfl<|qm rfl<|qm rfl<|sd_done ?_
   refine sw_ret ?_
   have X4 := ((Gr.refl w).trans G1)
   cases hm
   refine ⟨_, _, rfl, res_1 rfl (rv_tmp rfl), ?_⟩
   exact ⟨rfl, X4⟩
 replace hm := iT c5 hm
 refine qv rfl (vv_fieldAddr fa_26_3 rfl)<|qv rfl (vv_loadM (vs := TGroup.cs p0.Group) agg_24 rfl Bw1 rfl rfl)<|qv rfl (vv_build (cs := TGroup.cs (TGroup.mk 0#64 0#64 0#64)) bs_24 rfl rfl)<|qv rfl (vv_eqlS (cf := TGroup.cs) (a := p0.Group) (b := (TGroup.mk 0#64 0#64 0#64)) eqt_24 rfl rfl rfl rfl (fun h => TGroup.cs_inj h))<|qm rfl<|qm rfl<|sd_done ?_
 refine sw_ret ?_
 have X3 := ((Gr.refl w).trans G1)
 cases hm
 refine ⟨_, _, rfl, res_1 rfl (rv_tmp rfl), ?_⟩
 exact ⟨rfl, X3⟩
theorem ref03_Check_w {p0 r} (hm : ref03_Check p0 = some r) {w : World} :
    Calls Try.prog 49 [.agg (TScheme.cs p0).toArray].toArray w fun e w' => ∃ v, e = .returned v ∧ (v = .int .i64 r ∧ Gr w w') := by
 unfold ref03_Check at hm
 refine calls_of_sw 6 Try.func49 rfl rfl rfl<|qs 2 rfl<|qe rfl (ev_box (cs := TScheme.cs p0) rfl rfl) ?_
 rintro _ w1 ⟨b1, rfl, hbw1, Bw1, G1⟩
 have z1 := G1.size
 have lt2 := Bw1.lt
 refine qm rfl<|sd_done<|sw_seq<|qs 3 rfl<|qv rfl (vv_loadW agg_26 rfl Bw1 rfl) ?_
 obtain ⟨x1, hx1, hm⟩ := bnd hm
 refine qe rfl (eC en_89 rfl (ref03_Valid_w hx1)) ?_
 rintro _ w2 ⟨rfl, G2⟩
 have z3 := G2.size
 refine qv rfl (vv_not rfl)<|sd_done<|sw_cond rfl (fun c1 => ?_) (fun c1 => ?_)
 · replace hm := cnd_t c1 hm
   refine qs 1 rfl<|qm rfl<|qb ?_
   have X4 := (((Gr.refl w).trans G1).trans G2)
   cases hm
   refine ⟨_, _, rfl, res_1 rfl (rv_tmp rfl), ?_⟩
   exact ⟨rfl, X4⟩
 replace hm := cnd_f c1 hm
 refine qu<|qs 1 rfl<|qm rfl<|sd_done<|sw_ret ?_
 have X5 := (((Gr.refl w).trans G1).trans G2)
 cases hm
 refine ⟨_, _, rfl, res_1 rfl (rv_tmp rfl), ?_⟩
 exact ⟨rfl, X5⟩
theorem ref10_states_w {p0 r} (hm : ref10_states p0 = some r) {w : World} :
    Calls Try.prog 79 [bv p0].toArray w fun e w' => ∃ v, e = .returned v ∧ (v = .int .i64 r ∧ Gr w w') := by
 unfold ref10_states at hm
 refine calls_of_sw 7 Try.func79 rfl rfl rfl<|qs 1 rfl<|qm rfl<|qd 5 rfl ?_
 refine qe rfl (ev_litT [0, 1, 2, 4] ic bsl_32_4 rfl rfl (ws_of rfl) rfl rfl rfl) ?_
 rintro vw1 w1 ⟨gw1, hbw1, Ow1, G1⟩
 have z1 := G1.size
 have lt2 := Ow1.lth
 refine qm rfl ?_
 obtain ⟨y1, hy1, hm⟩ := bnd hm
 refine qv rfl (vv_ixT (i := un8 p0) Try.underlying32 (one_3).siz rfl (Own.rd Ow1) rfl hy1)<|qv rfl (vv_el1T (q := 0) (u := .int .i64 y1) one_3 rfl (Own.rd Ow1) hy1 (by first | rfl | omega) rfl)<|qm rfl<|sd_done<|sw_ret ?_
 have X3 := ((Gr.refl w).trans G1)
 cases hm
 refine ⟨_, _, rfl, res_1 rfl (rv_tmp rfl), ?_⟩
 exact ⟨rfl, X3⟩
theorem ref10_more_w {p0 r} (hm : ref10_more p0 = some r) {w : World} :
    Calls Try.prog 106 [.int .i64 p0].toArray w fun e w' => ∃ v, e = .returned v ∧ (v = .int .i64 r ∧ Gr w w') := by
 unfold ref10_more at hm
 refine calls_of_sw 7 Try.func106 rfl rfl rfl<|qs 1 rfl<|qm rfl<|qd 5 rfl ?_
 refine qe rfl (ev_litT [0, 1, 1, 2] ic bsl_32_4 rfl rfl (ws_of rfl) rfl rfl rfl) ?_
 rintro vw1 w1 ⟨gw1, hbw1, Ow1, G1⟩
 have z1 := G1.size
 have lt2 := Ow1.lth
 refine qm rfl ?_
 obtain ⟨y1, hy1, hm⟩ := bnd hm
 refine qv rfl (vv_ixT (i := p0) Try.underlying32 (one_3).siz rfl (Own.rd Ow1) rfl hy1)<|qv rfl (vv_el1T (q := 0) (u := .int .i64 y1) one_3 rfl (Own.rd Ow1) hy1 (by first | rfl | omega) rfl)<|qm rfl<|sd_done<|sw_ret ?_
 have X3 := ((Gr.refl w).trans G1)
 cases hm
 refine ⟨_, _, rfl, res_1 rfl (rv_tmp rfl), ?_⟩
 exact ⟨rfl, X3⟩
theorem ref10_start_w {p0 p1 p2 r} (hm : ref10_start p0 p1 p2 = some r) {w : World} :
    Calls Try.prog 80 [bv p0, .int .i64 p1, .int .i64 p2].toArray w fun e w' => ∃ v, e = .returned v ∧ (v = .int .i64 r ∧ Gr w w') := by
 unfold ref10_start at hm
 refine calls_of_sw 15 Try.func80 rfl rfl rfl<|qs 1 rfl<|qm rfl<|sd_done<|sw_seq<|sw_seq ?_
 refine qg 2 rfl<|qm rfl<|qv rfl (vv_eqlB (p := p0) (q := 1#8) rfl rfl)<|sd_done<|sw_cond rfl (fun c1 => ?_) (fun c1 => ?_)
 · replace hm := iT c1 hm
   refine qs 3 rfl<|qm rfl<|qv rfl (vv_sub (k := .i64) (a := 1) (b := p2) rfl rfl)<|qm rfl<|sd_done<|sw_ret ?_
   refine then_r ?_
   cases hm
   refine ⟨_, _, rfl, res_1 rfl (rv_tmp rfl), ?_⟩
   exact ⟨rfl, (Gr.refl w)⟩
 replace hm := iF c1 hm
 refine qu<|qs 5 rfl<|qm rfl<|qm rfl ?_
 obtain ⟨x1, hx1, hm⟩ := bnd hm
 refine qe rfl (eC en_106 rfl (ref10_more_w hx1)) ?_
 rintro _ w1 ⟨rfl, G1⟩
 have z1 := G1.size
 refine qv rfl (vv_mul (k := .i64) (a := p2) (b := x1) rfl rfl)<|qm rfl<|sd_done<|sw_ret ?_
 have X2 := ((Gr.refl w).trans G1)
 cases hm
 refine ⟨_, _, rfl, res_1 rfl (rv_tmp rfl), ?_⟩
 exact ⟨rfl, X2⟩
theorem ref03_Stride_w {p0 r} (hm : ref03_Stride p0 = some r) {w : World} :
    Calls Try.prog 132 [.int .i64 p0].toArray w fun e w' => ∃ v, e = .returned v ∧ (v = .int .i64 r ∧ Gr w w') := by
 unfold ref03_Stride at hm
 refine calls_of_sw 12 Try.func132 rfl rfl rfl<|qs 1 rfl<|qm rfl<|qd 1 rfl ?_
 refine qm rfl<|sd_done<|sw_seq<|sw_block<|sw_loopD (α := Nat × Int) (rg 3 8) (fun ⟨n1, a2⟩ => [(3, .int .i64 a2)]) (fun ⟨n1, a2⟩ wr => (fixN (ref03_Stride_L1 p0) n1 a2 = some r) ∧ Kz [] w wr) (fun ⟨n1, a2⟩ => n1) ⟨FUEL, 1⟩ ?_ ?_ ?_
 · exact sbq
 · exact ⟨hm, Kz.refl _ _⟩
 clear hm; rintro ⟨n1, a2⟩ w1 ⟨hm, K1⟩
 have z1 := K1.size
 have hb := fix_succ hm; clear hm; obtain ⟨n1, rfl, hm⟩ := hb
 generalize hrec1 : fixN (ref03_Stride_L1 p0) n1 = rec1 at hm
 unfold ref03_Stride_L1 at hm
 try dsimp only at hm
 refine sw_seq<|qs 5 rfl<|qm rfl<|qm rfl<|qv rfl (vv_mul (k := .i64) (a := a2) (b := a2) rfl rfl)<|qm rfl ?_
 refine qv rfl (vv_lss (a := w64 (a2 * a2)) (b := p0) rfl rfl)<|sd_done<|sw_cond rfl (fun c1 => ?_) (fun c1 => ?_)
 · replace hm := iT c1 hm
   refine qu<|sw_block<|qg 3 rfl<|qm rfl<|qv rfl (vv_add (k := .i64) (a := a2) (b := 1) rfl rfl)<|qm rfl ?_
   refine sd_nil<|block_n ?_
   have K_2 : Kz [] w w1 := K1
   subst hrec1
   exact ⟨rfl, ⟨n1, w64 (a2 + 1)⟩, sbq, ⟨hm, K_2⟩, Nat.lt_succ_self _⟩
 replace hm := iF c1 hm
 refine sw_exit<|then_x<|then_x<|block_x<|then_n<|qs 2 rfl ?_
 refine qm rfl<|qm rfl<|sd_done<|sw_ret ?_
 have X3 := ((Gr.refl w).kz K1)
 cases hm
 refine ⟨_, _, rfl, res_1 rfl (rv_tmp rfl), ?_⟩
 exact ⟨rfl, X3⟩
theorem ref10_below_w {p0 p1 p2 r} (hm : ref10_below p0 p1 p2 = some r) {w : World} :
    Calls Try.prog 111 [.agg (TScheme.cs p0).toArray, .int .i64 p1, .int .i64 p2].toArray w fun e w' => ∃ v, e = .returned v ∧ (v = .int .i64 r ∧ Gr w w') := by
 unfold ref10_below at hm
 refine calls_of_sw 33 Try.func111 rfl rfl rfl<|qs 2 rfl<|qe rfl (ev_box (cs := TScheme.cs p0) rfl rfl) ?_
 rintro _ w1 ⟨b1, rfl, hbw1, Bw1, G1⟩
 have z1 := G1.size
 have lt2 := Bw1.lt
 refine qm rfl<|sd_done<|sw_seq ?_
 have X3 := ((Gr.refl w).trans G1)
 refine qj (β := Bool) (rg 7 11) (fun a1 => [(17, .bool a1)]) (fun a1 wr => (ref10_below_J1 p0 p1 p2 a1 = some r) ∧ Kz [] w1 wr) ?_ ?_
 · refine qg 11 rfl<|qv rfl (vv_fieldAddr fa_26_0 rfl)<|qv rfl (vv_load1 (v := bv p0.Kind) one_5 rfl Bw1 rfl)<|qv rfl (vv_eqlB (p := p0.Kind) (q := 2#8) rfl rfl)<|qp rfl (vv_move rfl) (fun c3 => ?_) (fun c3 => ?_)
   · replace hm := iT c3 hm
     refine qk rfl<|qk rfl<|qm rfl<|qm rfl<|qk rfl<|qk rfl<|qm rfl ?_
     refine sd_nil ?_
     exact ⟨rfl, true, sbq, hm, kz0⟩
   replace hm := iF c3 hm
   refine qm rfl<|qv rfl (vv_eql (a := p1) (b := 1) rfl rfl)<|qm rfl<|qp rfl (vv_move rfl) (fun c4 => ?_) (fun c4 => ?_)
   · replace hm := iT c4 hm
     refine qk rfl<|qk rfl<|qm rfl<|sd_nil ?_
     exact ⟨rfl, true, sbq, hm, kz0⟩
   replace hm := iF c4 hm
   refine qm rfl<|qv rfl (vv_eql (a := p1) (b := 3) rfl rfl)<|qm rfl<|sd_nil ?_
   exact ⟨rfl, (decide (p1 = 3)), sbq, hm, kz0⟩
 clear hm; rintro a1 w2 ⟨hm, K2⟩
 have z4 := K2.size
 unfold ref10_below_J1 at hm
 refine sw_cond rfl (fun c1 => ?_) (fun c1 => ?_)
 · replace hm := cnd_t c1 hm
   refine qs 3 rfl<|qm rfl<|qv rfl (vv_maxK rfl rfl)<|qm rfl<|sd_done<|sw_ret ?_
   refine then_r ?_
   have X5 := (X3.kz K2)
   cases hm
   refine ⟨_, _, rfl, res_1 rfl (rv_tmp rfl), ?_⟩
   exact ⟨rfl, X5⟩
 replace hm := cnd_f c1 hm
 refine qu<|sw_seq<|sw_seq<|dw [([])] [] (.leaf [(0,10),(1,10),(2,10),(3,10),(4,10),(5,10),(6,0),(7,10),(8,10)]) ?_
 intro w3 G3 zw3
 refine sdz_leaf<|dh 0 rfl rfl (fun w hS => vv_fieldAddr fa_26_1 rfl) ?_
 have B6 := ((Bw1.kz K2).gr G3)
 refine dh 0 rfl rfl (fun w hS => vv_load1 (v := .int .i64 p0.Depth) one_3 rfl (Bx.kp B6 hS) rfl)<|dm 0 rfl rfl<|dh 0 rfl rfl (fun w hS => vv_sub (k := .i64) (a := p0.Depth) (b := p2) rfl rfl)<|dh 0 rfl rfl (fun w hS => vv_fieldAddr fa_26_1 rfl)<|dh 0 rfl rfl (fun w hS => vv_load1 (v := .int .i64 p0.Depth) one_3 rfl (Bx.kp B6 hS) rfl) ?_
 obtain ⟨x2, hx2, hm⟩ := bnd hm
 refine qz [] rfl (eC en_132 rfl (ref03_Stride_w hx2)) ⟨fun _ => tk0, trivial⟩ ?_
 rintro _ w4 ⟨rfl, G4⟩
 have z7 := G4.size
 refine kG G4 ?_
 obtain ⟨x3, hx3, hm⟩ := bnd hm
 have S8 := ((Kp.refl ([]) w3).gr G4)
 refine qh 0 rfl rfl S8 (fun w hS => vv_remI (a := w64 (p0.Depth - p2)) (b := x2) rfl rfl hx3)<|qh 0 rfl rfl S8 (fun w hS => vv_eql (a := x3) (b := 0) rfl rfl)<|sd_done<|cnF rfl (fun c2 => ?_) (fun c2 => ?_)
 · replace hm := iF c2 hm
   refine qu<|qs 1 rfl<|qm rfl<|sd_done<|sw_ret ?_
   have X12 := (((X3.kz K2).trans G3).trans G4)
   cases hm
   refine ⟨_, _, rfl, res_1 rfl (rv_tmp rfl), ?_⟩
   exact ⟨rfl, X12⟩
 replace hm := iT c2 hm
 refine qs 5 rfl<|qe rfl (ev_litT [1, 1, 3] ic bsl_32_3 rfl rfl (ws_of rfl) rfl rfl rfl) ?_
 rintro vw5 w5 ⟨gw5, hbw5, Ow5, G5⟩
 have z9 := G5.size
 have lt10 := Ow5.lth
 refine qm rfl ?_
 obtain ⟨y4, hy4, hm⟩ := bnd hm
 refine qv rfl (vv_ixT (i := p1) Try.underlying32 (one_3).siz rfl (Own.rd Ow5) rfl hy4)<|qv rfl (vv_el1T (q := 0) (u := .int .i64 y4) one_3 rfl (Own.rd Ow5) hy4 (by first | rfl | omega) rfl)<|qm rfl<|qb ?_
 have X11 := ((((X3.kz K2).trans G3).trans G4).trans G5)
 cases hm
 refine ⟨_, _, rfl, res_1 rfl (rv_tmp rfl), ?_⟩
 exact ⟨rfl, X11⟩
theorem ref10_value_w (p0 : TScheme) (p1 : List (List (List Int))) (p2 : Int) (p3 : Int) (p4 : Int) (p5 : Int) (vp1 : Value) (zp1 gp1 op1 : Nat) (Fp1 : List Nat) (r : Int) (hm : ref10_value p0 p1 p2 p3 p4 p5 = some r) (w : World) (hp1 : RdD (rpSd (rpSl 1 ic)) w zp1 gp1 op1 vp1 Fp1 p1)  :
    Calls Try.prog 107 [.agg (TScheme.cs p0).toArray, vp1, .int .i64 p2, .int .i64 p3, .int .i64 p4, .int .i64 p5].toArray w fun e w' => ∃ v, e = .returned v ∧ (v = .int .i64 r ∧ Gr w w') := by
 have fl1 := hp1.flt
 have lt2 := hp1.lth
 unfold ref10_value at hm
 refine calls_of_sw 86 Try.func107 rfl rfl rfl<|qs 2 rfl<|qe rfl (ev_box (cs := TScheme.cs p0) rfl rfl) ?_
 rintro _ w1 ⟨b1, rfl, hbw1, Bw1, G1⟩
 have z3 := G1.size
 have lt4 := Bw1.lt
 refine qm rfl<|sd_done<|sw_seq<|qs 3 rfl<|qv rfl (vv_fieldAddr fa_26_0 rfl)<|qv rfl (vv_load1 (v := bv p0.Kind) one_5 rfl Bw1 rfl) ?_
 refine qv rfl (vv_eqlB (p := p0.Kind) (q := 1#8) rfl rfl)<|sd_done<|sw_cond rfl (fun c1 => ?_) (fun c1 => ?_)
 · replace hm := iT c1 hm
   refine sw_seq<|dw [([])] [] (.leaf [(0,10),(1,10),(2,10),(3,10),(4,10),(5,10),(6,10),(7,10),(8,10),(9,10),(10,10),(11,10),(12,10),(13,10),(14,10),(15,10),(16,10),(17,10),(18,10),(19,10),(20,10),(21,10),(22,10),(23,10)]) ?_
   intro w2 G2 zw2
   refine sdz_leaf<|dm 0 rfl rfl ?_
   obtain ⟨y1, hy1, hm⟩ := bnd hm
   have B5 := ((hp1.gr G1).gr G2)
   refine dh 0 rfl rfl (fun w hS => vv_ixD (i := 0) Try.underlying39 (one_73).siz rfl (RdD.kp B5 hS (.inr List.not_mem_nil) (fun _ _ => List.not_mem_nil)) rfl hy1) ?_
   obtain ⟨lg6, x6_, z6_, g6_, o6_, R6, gx6, Q6, pf6⟩ := atSd B5 hy1
   have lt7 := Q6.lth
   refine dh 0 rfl rfl (fun w hS => vv_el1T (c := (fun p => [p.2])) (q := 0) (u := x6_) one_73 rfl (Rd.kp R6 hS (.inr List.not_mem_nil)) gx6 (by first | rfl | omega) rfl)<|dm 0 rfl rfl<|dh 0 rfl rfl (fun w hS => vv_sub (k := .i64) (a := p3) (b := 1) rfl rfl) ?_
   obtain ⟨y2, hy2, hm⟩ := bnd hm
   refine dh 0 rfl rfl (fun w hS => vv_ixD (i := w64 (p3 - 1)) Try.underlying73 (one_32).siz rfl (RdD.kp Q6 hS (.inr List.not_mem_nil) (fun _ _ => List.not_mem_nil)) rfl hy2) ?_
   obtain ⟨lg8, x8_, z8_, g8_, o8_, R8, gx8, Q8, pf8⟩ := atSl Q6 hy2
   have lt9 := Q8.lth
   refine dh 0 rfl rfl (fun w hS => vv_el1T (c := (fun p => [p.2])) (q := 0) (u := x8_) one_32 rfl (Rd.kp R8 hS (.inr List.not_mem_nil)) gx8 (by first | rfl | omega) rfl)<|dm 0 rfl rfl ?_
   obtain ⟨y3, hy3, hm⟩ := bnd hm
   refine dh 0 rfl rfl (fun w hS => vv_ixT (i := p5) Try.underlying32 (one_3).siz rfl (Rd.kp Q8 hS) rfl hy3)<|dh 0 rfl rfl (fun w hS => vv_el1T (q := 0) (u := .int .i64 y3) one_3 rfl (Rd.kp Q8 hS) hy3 (by first | rfl | omega) rfl)<|dm 0 rfl rfl ?_
   obtain ⟨y4, hy4, hm⟩ := bnd hm
   refine dh 0 rfl rfl (fun w hS => vv_ixD (i := 0) Try.underlying39 (one_73).siz rfl (RdD.kp B5 hS (.inr List.not_mem_nil) (fun _ _ => List.not_mem_nil)) rfl hy4) ?_
   obtain ⟨lg10, x10_, z10_, g10_, o10_, R10, gx10, Q10, pf10⟩ := atSd B5 hy4
   have lt11 := Q10.lth
   refine dh 0 rfl rfl (fun w hS => vv_el1T (c := (fun p => [p.2])) (q := 0) (u := x10_) one_73 rfl (Rd.kp R10 hS (.inr List.not_mem_nil)) gx10 (by first | rfl | omega) rfl)<|dm 0 rfl rfl<|dh 0 rfl rfl (fun w hS => vv_sub (k := .i64) (a := p3) (b := 1) rfl rfl) ?_
   obtain ⟨y5, hy5, hm⟩ := bnd hm
   refine dh 0 rfl rfl (fun w hS => vv_ixD (i := w64 (p3 - 1)) Try.underlying73 (one_32).siz rfl (RdD.kp Q10 hS (.inr List.not_mem_nil) (fun _ _ => List.not_mem_nil)) rfl hy5) ?_
   obtain ⟨lg12, x12_, z12_, g12_, o12_, R12, gx12, Q12, pf12⟩ := atSl Q10 hy5
   have lt13 := Q12.lth
   refine dh 0 rfl rfl (fun w hS => vv_el1T (c := (fun p => [p.2])) (q := 0) (u := x12_) one_32 rfl (Rd.kp R12 hS (.inr List.not_mem_nil)) gx12 (by first | rfl | omega) rfl)<|dm 0 rfl rfl<|dm 0 rfl rfl<|dh 0 rfl rfl (fun w hS => vv_sub (k := .i64) (a := p4) (b := p5) rfl rfl) ?_
   obtain ⟨y6, hy6, hm⟩ := bnd hm
   refine dh 0 rfl rfl (fun w hS => vv_ixT (i := w64 (p4 - p5)) Try.underlying32 (one_3).siz rfl (Rd.kp Q12 hS) rfl hy6)<|dh 0 rfl rfl (fun w hS => vv_el1T (q := 0) (u := .int .i64 y6) one_3 rfl (Rd.kp Q12 hS) hy6 (by first | rfl | omega) rfl)<|dh 0 rfl rfl (fun w hS => vv_add (k := .i64) (a := y3) (b := y6) rfl rfl)<|dm 0 rfl rfl<|sd_done<|sw_ret<|then_r ?_
   have X14 := (((Gr.refl w).trans G1).trans G2)
   cases hm
   refine ⟨_, _, rfl, res_1 rfl (rv_tmp rfl), ?_⟩
   exact ⟨rfl, X14⟩
 replace hm := iF c1 hm
 refine qu<|sw_seq ?_
 have X15 := ((Gr.refl w).trans G1)
 refine qj (β := Bool) (rg 39 7) (fun a7 => [(45, .bool a7)]) (fun a7 wr => (ref10_value_J1 p0 p1 p2 p3 p4 p5 a7 = some r) ∧ Kz [] w1 wr) ?_ ?_
 · refine qg 7 rfl<|qm rfl<|qv rfl (vv_gtr (a := p5) (b := 0) rfl rfl)<|qpF rfl (vv_move rfl) (fun c3 => ?_) (fun c3 => ?_)
   · replace hm := iF c3 hm
     refine qk rfl<|qk rfl<|qk rfl<|qm rfl<|sd_nil ?_
     exact ⟨rfl, false, sbq, hm, kz0⟩
   replace hm := iT c3 hm
   refine qm rfl<|qm rfl<|qv rfl (vv_lss (a := p5) (b := p4) rfl rfl)<|qm rfl<|sd_nil ?_
   exact ⟨rfl, (decide (p5 < p4)), sbq, hm, kz0⟩
 clear hm; rintro a7 w3 ⟨hm, K3⟩
 have z16 := K3.size
 unfold ref10_value_J1 at hm
 refine cnF rfl (fun c2 => ?_) (fun c2 => ?_)
 · replace hm := cnd_f c2 hm
   refine qu<|qs 15 rfl<|qm rfl ?_
   have B29 := (Bw1.kz K3)
   refine qv rfl (vv_loadW agg_26 rfl B29 rfl)<|qm rfl<|qm rfl ?_
   obtain ⟨x15, hx15, hm⟩ := bnd hm
   refine qe rfl (eC en_111 rfl (ref10_below_w hx15)) ?_
   rintro _ w6 ⟨rfl, G6⟩
   have z30 := G6.size
   obtain ⟨y16, hy16, hm⟩ := bnd hm
   have B31 := (((hp1.gr G1).kz K3 tk0 (fun x hx => tk0)).gr G6)
   refine qv rfl (vv_ixD (i := x15) Try.underlying39 (one_73).siz rfl B31 rfl hy16) ?_
   obtain ⟨lg32, x32_, z32_, g32_, o32_, R32, gx32, Q32, pf32⟩ := atSd B31 hy16
   have lt33 := Q32.lth
   refine qv rfl (vv_el1T (c := (fun p => [p.2])) (q := 0) (u := x32_) one_73 rfl R32 gx32 (by first | rfl | omega) rfl)<|qm rfl<|qv rfl (vv_sub (k := .i64) (a := p3) (b := 1) rfl rfl) ?_
   obtain ⟨y17, hy17, hm⟩ := bnd hm
   refine qv rfl (vv_ixD (i := w64 (p3 - 1)) Try.underlying73 (one_32).siz rfl Q32 rfl hy17) ?_
   obtain ⟨lg34, x34_, z34_, g34_, o34_, R34, gx34, Q34, pf34⟩ := atSl Q32 hy17
   have lt35 := Q34.lth
   refine qv rfl (vv_el1T (c := (fun p => [p.2])) (q := 0) (u := x34_) one_32 rfl R34 gx34 (by first | rfl | omega) rfl)<|qm rfl ?_
   obtain ⟨y18, hy18, hm⟩ := bnd hm
   refine qv rfl (vv_ixT (i := p4) Try.underlying32 (one_3).siz rfl Q34 rfl hy18)<|qv rfl (vv_el1T (q := 0) (u := .int .i64 y18) one_3 rfl Q34 hy18 (by first | rfl | omega) rfl)<|qm rfl<|sd_done<|sw_ret ?_
   have X36 := ((X15.kz K3).trans G6)
   cases hm
   refine ⟨_, _, rfl, res_1 rfl (rv_tmp rfl), ?_⟩
   exact ⟨rfl, X36⟩
 replace hm := cnd_t c2 hm
 refine sw_seq<|dw [([])] [] (.leaf [(0,10),(1,10),(2,10),(3,10),(4,10),(5,10),(6,10),(7,10),(8,10),(9,10),(10,10),(11,10),(12,10),(13,10),(14,10),(15,10),(16,10),(17,10),(18,10),(19,10),(20,10),(21,10),(22,10),(23,10),(24,0),(25,10),(26,10)]) ?_
 intro w4 G4 zw4
 refine sdz_leaf<|dm 0 rfl rfl ?_
 obtain ⟨y8, hy8, hm⟩ := bnd hm
 have B17 := (((hp1.gr G1).kz K3 tk0 (fun x hx => tk0)).gr G4)
 refine dh 0 rfl rfl (fun w hS => vv_ixD (i := 0) Try.underlying39 (one_73).siz rfl (RdD.kp B17 hS (.inr List.not_mem_nil) (fun _ _ => List.not_mem_nil)) rfl hy8) ?_
 obtain ⟨lg18, x18_, z18_, g18_, o18_, R18, gx18, Q18, pf18⟩ := atSd B17 hy8
 have lt19 := Q18.lth
 refine dh 0 rfl rfl (fun w hS => vv_el1T (c := (fun p => [p.2])) (q := 0) (u := x18_) one_73 rfl (Rd.kp R18 hS (.inr List.not_mem_nil)) gx18 (by first | rfl | omega) rfl)<|dm 0 rfl rfl<|dh 0 rfl rfl (fun w hS => vv_sub (k := .i64) (a := p3) (b := 1) rfl rfl) ?_
 obtain ⟨y9, hy9, hm⟩ := bnd hm
 refine dh 0 rfl rfl (fun w hS => vv_ixD (i := w64 (p3 - 1)) Try.underlying73 (one_32).siz rfl (RdD.kp Q18 hS (.inr List.not_mem_nil) (fun _ _ => List.not_mem_nil)) rfl hy9) ?_
 obtain ⟨lg20, x20_, z20_, g20_, o20_, R20, gx20, Q20, pf20⟩ := atSl Q18 hy9
 have lt21 := Q20.lth
 refine dh 0 rfl rfl (fun w hS => vv_el1T (c := (fun p => [p.2])) (q := 0) (u := x20_) one_32 rfl (Rd.kp R20 hS (.inr List.not_mem_nil)) gx20 (by first | rfl | omega) rfl)<|dm 0 rfl rfl ?_
 obtain ⟨y10, hy10, hm⟩ := bnd hm
 refine dh 0 rfl rfl (fun w hS => vv_ixT (i := p5) Try.underlying32 (one_3).siz rfl (Rd.kp Q20 hS) rfl hy10)<|dh 0 rfl rfl (fun w hS => vv_el1T (q := 0) (u := .int .i64 y10) one_3 rfl (Rd.kp Q20 hS) hy10 (by first | rfl | omega) rfl)<|dm 0 rfl rfl ?_
 obtain ⟨y11, hy11, hm⟩ := bnd hm
 refine dh 0 rfl rfl (fun w hS => vv_ixD (i := 0) Try.underlying39 (one_73).siz rfl (RdD.kp B17 hS (.inr List.not_mem_nil) (fun _ _ => List.not_mem_nil)) rfl hy11) ?_
 obtain ⟨lg22, x22_, z22_, g22_, o22_, R22, gx22, Q22, pf22⟩ := atSd B17 hy11
 have lt23 := Q22.lth
 refine dh 0 rfl rfl (fun w hS => vv_el1T (c := (fun p => [p.2])) (q := 0) (u := x22_) one_73 rfl (Rd.kp R22 hS (.inr List.not_mem_nil)) gx22 (by first | rfl | omega) rfl)<|dm 0 rfl rfl<|dh 0 rfl rfl (fun w hS => vv_sub (k := .i64) (a := p3) (b := 1) rfl rfl) ?_
 obtain ⟨y12, hy12, hm⟩ := bnd hm
 refine dh 0 rfl rfl (fun w hS => vv_ixD (i := w64 (p3 - 1)) Try.underlying73 (one_32).siz rfl (RdD.kp Q22 hS (.inr List.not_mem_nil) (fun _ _ => List.not_mem_nil)) rfl hy12) ?_
 obtain ⟨lg24, x24_, z24_, g24_, o24_, R24, gx24, Q24, pf24⟩ := atSl Q22 hy12
 have lt25 := Q24.lth
 refine dh 0 rfl rfl (fun w hS => vv_el1T (c := (fun p => [p.2])) (q := 0) (u := x24_) one_32 rfl (Rd.kp R24 hS (.inr List.not_mem_nil)) gx24 (by first | rfl | omega) rfl)<|dm 0 rfl rfl<|dm 0 rfl rfl<|dh 0 rfl rfl (fun w hS => vv_sub (k := .i64) (a := p4) (b := p5) rfl rfl) ?_
 obtain ⟨y13, hy13, hm⟩ := bnd hm
 refine dh 0 rfl rfl (fun w hS => vv_ixT (i := w64 (p4 - p5)) Try.underlying32 (one_3).siz rfl (Rd.kp Q24 hS) rfl hy13)<|dh 0 rfl rfl (fun w hS => vv_el1T (q := 0) (u := .int .i64 y13) one_3 rfl (Rd.kp Q24 hS) hy13 (by first | rfl | omega) rfl)<|dh 0 rfl rfl (fun w hS => vv_add (k := .i64) (a := y10) (b := y13) rfl rfl)<|dm 0 rfl rfl ?_
 obtain ⟨x14, hx14, hm⟩ := bnd hm
 refine qz [] rfl (eC en_106 rfl (ref10_more_w hx14)) ⟨fun _ => tk0, trivial⟩ ?_
 rintro _ w5 ⟨rfl, G5⟩
 have z26 := G5.size
 refine kG G5 ?_
 have S27 := ((Kp.refl ([]) w4).gr G5)
 refine qh 0 rfl rfl S27 (fun w hS => vv_add (k := .i64) (a := w64 (y10 + y13)) (b := x14) rfl rfl)<|dn 0 rfl rfl S27<|qb ?_
 have X28 := (((X15.kz K3).trans G4).trans G5)
 cases hm
 refine ⟨_, _, rfl, res_1 rfl (rv_tmp rfl), ?_⟩
 exact ⟨rfl, X28⟩
theorem ref10_best_w (p0 : TScheme) (p1 : List (List (List Int))) (p2 : Int) (p3 : Int) (p4 : Int) (vp1 : Value) (zp1 gp1 op1 : Nat) (Fp1 : List Nat) (r : Int × Int) (hm : ref10_best p0 p1 p2 p3 p4 = some r) (w : World) (hp1 : RdD (rpSd (rpSl 1 ic)) w zp1 gp1 op1 vp1 Fp1 p1)  :
    Calls Try.prog 81 [.agg (TScheme.cs p0).toArray, vp1, .int .i64 p2, .int .i64 p3, .int .i64 p4].toArray w fun e w' => ∃ v, e = .returned v ∧ (v = .tuple [.int .i64 r.1, .int .i64 r.2].toArray ∧ Gr w w') := by
 have fl1 := hp1.flt
 have lt2 := hp1.lth
 unfold ref10_best at hm
 refine calls_of_sw 46 Try.func81 rfl rfl rfl<|qs 3 rfl<|qe rfl (ev_box (cs := TScheme.cs p0) rfl rfl) ?_
 rintro _ w1 ⟨b1, rfl, hbw1, Bw1, G1⟩
 have z3 := G1.size
 have lt4 := Bw1.lt
 refine qm rfl<|qm rfl<|qd 5 rfl<|qm rfl<|qv rfl (vv_sub (k := .i64) (a := p3) (b := 1) rfl rfl) ?_
 refine qv rfl (vv_cvIU cv_3_118 rfl) ?_
 obtain ⟨nn1, hnn1, hm⟩ := bnd hm
 refine qv rfl (vv_shlI (a := 1) (b := (un (wd (w64 (p3 - 1))))) rfl rfl hnn1)<|qm rfl<|qd 2 rfl<|qm rfl<|qm rfl ?_
 refine sd_done<|sw_seq<|qs 5 rfl<|qm rfl<|qm rfl<|qv rfl (vv_sub (k := .i64) (a := p4) (b := shlI 1 nn1) rfl rfl) ?_
 refine qv rfl (vv_maxK rfl rfl)<|qm rfl<|sd_done<|sw_block ?_
 have X5 := ((Gr.refl w).trans G1)
 have B6 := (hp1.gr G1)
 refine sw_loopD (α := Nat × Int × Int × Int) ([13, 14, 15, 16] ++ rg 25 19) (fun ⟨n1, a5, a6, a7⟩ => [(13, .int .i64 a5), (14, .int .i64 a6), (15, .int .i64 a7)]) (fun ⟨n1, a5, a6, a7⟩ wr => (fixN (ref10_best_L1 p0 p1 p2 p3 p4 nn1) n1 (a5, a6, a7) = some r) ∧ Kz [] w1 wr) (fun ⟨n1, a5, a6, a7⟩ => n1) ⟨FUEL, (-1), (-1), mxI 0 (w64 (p4 - (shlI 1 nn1)))⟩ ?_ ?_ ?_
 · exact sbq
 · exact ⟨hm, Kz.refl _ _⟩
 clear hm; rintro ⟨n1, a5, a6, a7⟩ w2 ⟨hm, K2⟩
 have z7 := K2.size
 have hb := fix_succ hm; clear hm; obtain ⟨n1, rfl, hm⟩ := hb
 generalize hrec1 : fixN (ref10_best_L1 p0 p1 p2 p3 p4 nn1) n1 = rec1 at hm
 unfold ref10_best_L1 at hm
 try dsimp only at hm
 refine sw_seq<|qs 5 rfl<|qm rfl<|qm rfl<|qm rfl<|qv rfl (vv_minK rfl rfl) ?_
 refine qv rfl (vv_leq (a := a7) (b := mnI p4 (shlI 1 nn1)) rfl rfl)<|sd_done<|cnF rfl (fun c1 => ?_) (fun c1 => ?_)
 · replace hm := iF c1 hm
   refine sw_exit<|then_x<|then_x<|block_x<|then_n<|qs 4 rfl ?_
   refine qm rfl<|qm rfl<|qm rfl<|qm rfl<|sd_done<|sw_ret ?_
   have X13 := (X5.kz K2)
   cases hm
   refine ⟨_, _, rfl, res_2 rfl (rv_tmp rfl) (rv_tmp rfl), ?_⟩
   exact ⟨rfl, X13⟩
 replace hm := iT c1 hm
 refine qu<|sw_seq<|sw_block<|qs 8 rfl ?_
 have B8 := (Bw1.kz K2)
 refine qv rfl (vv_loadW agg_26 rfl B8 rfl)<|qm rfl<|qm rfl<|qm rfl<|qm rfl<|qm rfl ?_
 have B9 := (B6.kz K2 tk0 (fun x hx => tk0))
 obtain ⟨x8, hx8, hm⟩ := bnd hm
 refine qe rfl (eC en_107 rfl (ref10_value_w p0 p1 p2 p3 p4 a7 _ _ _ _ _ _ hx8 _ B9)) ?_
 rintro _ w3 ⟨rfl, G3⟩
 have z10 := G3.size
 refine qm rfl<|qd 3 rfl<|qm rfl<|qm rfl<|qv rfl (vv_gtr (a := x8) (b := a5) rfl rfl) ?_
 refine sd_done<|cnF rfl (fun c2 => ?_) (fun c2 => ?_)
 · replace hm := iF c2 hm
   refine sw_skip<|block_n<|then_n<|qg 3 rfl<|qm rfl<|qv rfl (vv_add (k := .i64) (a := a7) (b := 1) rfl rfl)<|qm rfl ?_
   refine sd_nil ?_
   have K_12 : Kz [] w1 w3 := (K2.gr G3)
   subst hrec1
   exact ⟨rfl, ⟨n1, a5, a6, w64 (a7 + 1)⟩, sbq, ⟨hm, K_12⟩, Nat.lt_succ_self _⟩
 replace hm := iT c2 hm
 refine qg 4 rfl<|qm rfl<|qm rfl<|qm rfl<|qm rfl<|sd_nil<|block_n ?_
 refine then_n<|qg 3 rfl<|qm rfl<|qv rfl (vv_add (k := .i64) (a := a7) (b := 1) rfl rfl)<|qm rfl<|sd_nil ?_
 have K_11 : Kz [] w1 w3 := (K2.gr G3)
 subst hrec1
 exact ⟨rfl, ⟨n1, x8, a7, w64 (a7 + 1)⟩, sbq, ⟨hm, K_11⟩, Nat.lt_succ_self _⟩
theorem ref10_TablesOf_w (p0 : TScheme)  (r : List (List (List Int))) (hm : ref10_TablesOf p0 = some r) (w : World)   :
    Calls Try.prog 42 [.agg (TScheme.cs p0).toArray].toArray w fun e w' => ∃ v, e = .returned v ∧ (∃ (ur0_s : Value) (zr0_s : Nat) (gr0_s : Nat) (Fr0_s : List Nat), v = ur0_s ∧ OwnD (rpSd (rpSl 1 ic)) w' zr0_s gr0_s 73 ur0_s Fr0_s r ∧ Hdn (zr0_s = 0 ∨ w.heap.size ≤ gr0_s) ∧ (∀ x ∈ Fr0_s, Pv [] [] w.heap.size x) ∧ Gr w w') := by
 unfold ref10_TablesOf at hm
 refine calls_of_sw 90 Try.func42 rfl rfl rfl<|qs 2 rfl<|qe rfl (ev_box (cs := TScheme.cs p0) rfl rfl) ?_
 rintro _ w1 ⟨b1, rfl, hbw1, Bw1, G1⟩
 have z1 := G1.size
 have lt2 := Bw1.lt
 refine qm rfl<|qd 5 rfl<|qv rfl (vv_fieldAddr fa_26_0 rfl)<|qv rfl (vv_load1 (v := bv p0.Kind) one_5 rfl Bw1 rfl) ?_
 obtain ⟨x1, hx1, hm⟩ := bnd hm
 refine qe rfl (eC en_79 rfl (ref10_states_w hx1)) ?_
 rintro _ w2 ⟨rfl, G2⟩
 have z3 := G2.size
 obtain ⟨l2, hl2, hm⟩ := bnd hm
 have X4 := (((Gr.refl w).trans G1).trans G2)
 have B5 := (Bw1.gr G2)
 refine qe rfl (ev_mkTab (e2 := 73) (e1 := 32) (e0 := 3) apt_39 zv_73 rfl hl2 (by decide)) ?_
 rintro vw3 w3 ⟨gw3, hbw3, Ow3, G3⟩
 have z6 := G3.size
 have tn7 : Hdn (1 = 0 ∨ w2.heap.size ≤ gw3) := ⟨.inr hbw3⟩
 have lt8 := Ow3.lth
 refine qm rfl<|sd_done<|sw_seq<|qs 1 rfl<|qm rfl<|sd_done ?_
 refine sw_block ?_
 have K_9 : Kz [] w2 w3 := ((Kz.refl [] w2).gr G3)
 have z10 := K_9.size
 refine sw_loopD (α := Nat × List (List (List Int)) × Int) (rg 3 5 ++ rg 12 77) (fun ⟨n1, a5, a6⟩ => [(3, vw3), (4, .int .i64 a6)]) (fun ⟨n1, a5, a6⟩ wr => (fixN (ref10_TablesOf_L1 p0) n1 (a5, a6) = some r) ∧ Tab 73 32 3 wr w2.heap.size 1 gw3 vw3 a5 ∧ Hdn (1 = 0 ∨ w2.heap.size ≤ gw3) ∧ Kz [] w2 wr) (fun ⟨n1, a5, a6⟩ => n1) ⟨FUEL, l2, 0⟩ ?_ ?_ ?_
 · exact sbq
 · exact ⟨hm, Ow3, ⟨(pv_0 (A := (fun x => w2.heap.size ≤ x)) tn7)⟩, K_9⟩
 clear hm; rintro ⟨n1, a5, a6⟩ w4 ⟨hm, Fw4_0, Fw4_1, K4⟩
 have z11 := K4.size
 have lt12 := Fw4_0.lth
 have hb := fix_succ hm; clear hm; obtain ⟨n1, rfl, hm⟩ := hb
 generalize hrec1 : fixN (ref10_TablesOf_L1 p0) n1 = rec1 at hm
 unfold ref10_TablesOf_L1 at hm
 try dsimp only at hm
 refine sw_seq<|qs 4 rfl<|qm rfl<|qv rfl (vv_fieldAddr fa_26_1 rfl) ?_
 have B13 := (B5.kz K4)
 refine qv rfl (vv_load1 (v := .int .i64 p0.Depth) one_3 rfl B13 rfl)<|qv rfl (vv_leq (a := a6) (b := p0.Depth) rfl rfl)<|sd_done<|cnF rfl (fun c1 => ?_) (fun c1 => ?_)
 · replace hm := iF c1 hm
   refine sw_exit<|then_x<|then_x<|block_x<|then_n<|qs 2 rfl ?_
   refine qm rfl<|qm rfl<|sd_done<|sw_ret ?_
   obtain ⟨Fz91, Oz91, pz91⟩ := Tab.ownD Fw4_0
   have fl92 := Oz91.flt
   have lt93 := Oz91.lth
   have X94 := (X4.kz K4)
   cases hm
   refine ⟨_, _, rfl, res_1 rfl (rv_tmp rfl), ?_⟩
   exact ⟨vw3, 1, gw3, Fz91, rfl, Oz91, ⟨(pv_0 (A := (fun x => w.heap.size ≤ x)) Fw4_1)⟩, (fA_pv (A := (Pv [] [] w.heap.size)) pz91 fA_nil mz_nil (fun x hx => .inr (.inr (by omega)))), X94⟩
 replace hm := iT c1 hm
 refine qu<|sw_seq<|sw_block<|sw_seq<|qs 1 rfl ?_
 refine qm rfl<|sd_done<|sw_block<|sw_loopD (α := Nat × List (List (List Int)) × Int) ([3, 5] ++ rg 18 20) (fun ⟨n2, a9, a10⟩ => [(3, vw3), (5, .int .i64 a10)]) (fun ⟨n2, a9, a10⟩ wr => (fixN (ref10_TablesOf_L2 p0 a6 rec1) n2 (a9, a10) = some r) ∧ Tab 73 32 3 wr w2.heap.size 1 gw3 vw3 a9 ∧ Hdn (1 = 0 ∨ w2.heap.size ≤ gw3) ∧ Kz [] w2 wr) (fun ⟨n2, a9, a10⟩ => n2) ⟨FUEL, a5, 0⟩ ?_ ?_ ?_
 · exact sbq
 · exact ⟨hm, Fw4_0, ⟨(pv_0 (A := (fun x => w2.heap.size ≤ x)) Fw4_1)⟩, K4⟩
 clear hm; rintro ⟨n2, a9, a10⟩ w5 ⟨hm, Fw5_0, Fw5_1, K5⟩
 have z14 := K5.size
 have lt15 := Fw5_0.lth
 have hb := fix_succ hm; clear hm; obtain ⟨n2, rfl, hm⟩ := hb
 generalize hrec2 : fixN (ref10_TablesOf_L2 p0 a6 rec1) n2 = rec2 at hm
 unfold ref10_TablesOf_L2 at hm
 try dsimp only at hm
 refine sw_seq<|qs 4 rfl<|qm rfl<|qm rfl ?_
 obtain ⟨Ft16, Rt16, pt16, lf16⟩ := Tab.rdD Fw5_0
 refine qv rfl (vv_lenD (l := a9) Try.underlying39 rfl Rt16)<|qv rfl (vv_lss (a := a10) (b := (a9.length : Int)) rfl rfl)<|sd_done<|sw_cond rfl (fun c2 => ?_) (fun c2 => ?_)
 · replace hm := iT c2 hm
   refine qu<|sw_seq<|sw_block ?_
   obtain ⟨y11, hy11, hm⟩ := bnd hm
   obtain ⟨hs17, qs17, vi17, zi17, gi17, Oo17, hi17, Om17, ql17, na17, nb17, neC17, cl17⟩ := Tab.app Fw5_0 hy11
   have lt18 := Oo17.lth
   have lt19 := Om17.lth
   refine dw [([] ++ zf zi17 gi17 ++ zf 1 gw3),([] ++ zf zi17 gi17)] [(14, [1])] (.leaf [(0,10),(1,10),(2,10),(3,10),(4,11),(5,11),(6,10),(7,10),(8,10),(9,10),(10,0),(11,0),(12,0),(13,11),(14,0)]) ?_
   intro w6 G6 zw6
   refine sdz_leaf<|dn 0 rfl rfl (Kp.refl ([] ++ zf zi17 gi17 ++ zf 1 gw3) w6)<|dn 0 rfl rfl (Kp.refl ([] ++ zf zi17 gi17 ++ zf 1 gw3) w6)<|dn 0 rfl rfl (Kp.refl ([] ++ zf zi17 gi17 ++ zf 1 gw3) w6)<|dn 0 rfl rfl (Kp.refl ([] ++ zf zi17 gi17 ++ zf 1 gw3) w6) ?_
   have B20 := (Oo17.gr G6)
   refine qh 1 rfl rfl (Kp.refl ([] ++ zf zi17 gi17) w6) (fun w hS => vv_ixT (l := hs17) (c := h1c) (i := a10) Try.underlying39 (one_73).siz rfl (Own.rd (Own.kp B20 hS (tk1 ((tk1 neC17.o) : 1 = 0 ∨ zi17 = 0 ∨ gw3 ≠ gi17)))) rfl hi17)<|qh 1 rfl rfl (Kp.refl ([] ++ zf zi17 gi17) w6) (fun w hS => vv_el1T (c := h1c) (q := 0) (u := vi17) one_73 rfl (Own.rd (Own.kp B20 hS (tk1 ((tk1 neC17.o) : 1 = 0 ∨ zi17 = 0 ∨ gw3 ≠ gi17)))) hi17 (by first | rfl | omega) rfl)<|dn 0 rfl rfl (Kp.refl ([] ++ zf zi17 gi17 ++ zf 1 gw3) w6)<|qh 0 rfl rfl (Kp.refl ([] ++ zf zi17 gi17 ++ zf 1 gw3) w6) (fun w hS => vv_cvIU cv_3_118 rfl) ?_
   obtain ⟨nn12, hnn12, hm⟩ := bnd hm
   refine qh 0 rfl rfl (Kp.refl ([] ++ zf zi17 gi17 ++ zf 1 gw3) w6) (fun w hS => vv_shlI (a := 1) (b := (un (wd a6))) rfl rfl hnn12)<|qh 0 rfl rfl (Kp.refl ([] ++ zf zi17 gi17 ++ zf 1 gw3) w6) (fun w hS => vv_add (k := .i64) (a := 1) (b := shlI 1 nn12) rfl rfl) ?_
   obtain ⟨l13, hl13, hm⟩ := bnd hm
   refine qz [] rfl (ev_mkT (c := ic) (a := 0) apt_32 zv_3 rfl ⟨rfl, rfl⟩ rfl hl13 (by decide)) ⟨fun _ => tk0, fun _ => tk0, trivial⟩ ?_
   rintro vw7 w7 ⟨gw7, hbw7, Ow7, G7⟩
   have z21 := G7.size
   have lt22 := Ow7.lth
   refine kG G7<|qz [] rfl (ev_litT [vw7] h1c bsl_73_1 rfl (fill_1 rfl (Own.oneB Ow7) rfl rfl) (lit_ws _ (Own.oneB Ow7)) rfl rfl rfl) ⟨fun _ => tk0, fun _ => tk0, trivial⟩ ?_
   rintro vw8 w8 ⟨gw8, hbw8, Ow8, G8⟩
   have z23 := G8.size
   have lt24 := Ow8.lth
   refine kG G8 ?_
   have Y1 := Gr.trans (Gr.trans G6 G7) G8
   have B25 := (Om17.gr Y1)
   obtain ⟨l14, hl14, hm⟩ := bnd hm
   obtain ⟨ha26, rfl⟩ := app_h (u := vw7) hl14 ql17
   refine qz [(zi17, gi17)] rfl (ev_appT (l := qs17) (m := [vw7]) (c := h1c) apt_73 rfl rfl B25 (Own.rd Ow8) ha26 (by decide)) ⟨fun _ => (tk1 (tk0 : zi17 = 0 ∨ (gi17 = gw3 ∧ 1 ≠ 0) ∨ (gi17 = gi17 ∧ zi17 ≠ 0) ∨ w6.heap.size ≤ gi17)), fun _ => (tk1 (tk0 : zi17 = 0 ∨ (gi17 = gw3 ∧ 1 ≠ 0) ∨ (gi17 = gi17 ∧ zi17 ≠ 0) ∨ w6.heap.size ≤ gi17)), trivial⟩ ?_
   rintro vw9 w9 ⟨zw9, gw9, Ow9, Aw9, qw9, rw9⟩
   have z27 := Aw9.size
   refine ⟨Kz.ofKa Aw9, ?_⟩
   have Y2 := Gr.trans G7 G8
   have S28 := (((Kp.refl ([] ++ zf zi17 gi17) w6).gr Y2).ka Aw9 (tk1 (tk0 : zi17 = 0 ∨ (gi17 = gw3 ∧ 1 ≠ 0) ∨ (gi17 = gi17 ∧ zi17 ≠ 0) ∨ w6.heap.size ≤ gi17)))
   refine qh 1 rfl rfl S28 (fun w hS => vv_ixT (l := hs17) (c := h1c) (i := a10) Try.underlying39 (one_73).siz rfl (Own.rd (Own.kp B20 hS (tk1 ((tk1 neC17.o) : 1 = 0 ∨ zi17 = 0 ∨ gw3 ≠ gi17)))) rfl hi17) ?_
   have B29 := ((B20.gr Y2).ka Aw9 (tk1 ((tk1 neC17.o) : 1 = 0 ∨ zi17 = 0 ∨ gw3 ≠ gi17)))
   have zo30 := Own.z1 (c := h1c) B29 hi17
   refine qz [(1, gw3)] rfl (ev_stEl (i := a10) (q := 0) (a' := vw9) (vs := [vw9]) (c := h1c) (one_73).siz rfl rfl (cells1 (Own.oneB Ow9)) rfl (by simp [ones, (Own.oneB Ow9)]) B29 hi17 (by first | rfl | omega) rfl rfl ⟨rfl, (by simp [h1c, ones, (Own.oneB Ow9)])⟩) ⟨fun _ => (tk4 (tk0 : 1 = 0 ∨ (gw3 = gw3 ∧ 1 ≠ 0) ∨ (gw3 = gi17 ∧ zi17 ≠ 0) ∨ w6.heap.size ≤ gw3) (tk0 : 1 = 0 ∨ (gw3 = gw3 ∧ 1 ≠ 0) ∨ (gw3 = gi17 ∧ zi17 ≠ 0) ∨ w6.heap.size ≤ gw3) (tk0 : 1 = 0 ∨ (gw3 = gw3 ∧ 1 ≠ 0) ∨ (gw3 = gi17 ∧ zi17 ≠ 0) ∨ w6.heap.size ≤ gw3) (tk0 : 1 = 0 ∨ (gw3 = gw3 ∧ 1 ≠ 0) ∨ (gw3 = gi17 ∧ zi17 ≠ 0) ∨ w6.heap.size ≤ gw3)), nofun, trivial⟩ ?_
   rintro _ w10 ⟨Ow10, M10⟩
   have z31 := M10.size
   refine kM M10 ?_
   have Kf17 : Kz [(1, gw3), (zi17, gi17)] w5 w10 := ((((Kz.refl _ w5).gr Y1).ka Aw9 (tk1 (tk0 : zi17 = 0 ∨ (gi17 = gw3 ∧ 1 ≠ 0) ∨ (gi17 = gi17 ∧ zi17 ≠ 0) ∨ w5.heap.size ≤ gi17))).md M10 (tk1 (tk0 : 1 = 0 ∨ (gw3 = gw3 ∧ 1 ≠ 0) ∨ (gw3 = gi17 ∧ zi17 ≠ 0) ∨ w5.heap.size ≤ gw3)))
   have B32 := (((Ow7.gr G8).ka Aw9 (tk1 ((.inr (tk1 lt19.o)) : 1 = 0 ∨ zi17 = 0 ∨ gw7 ≠ gi17))).md M10 (tk1 ((.inr (tk1 lt18.o)) : 1 = 0 ∨ 1 = 0 ∨ gw7 ≠ gw3)))
   have B33 := (Ow9.md M10 (tk1 (pv_app (A := (fun x => 1 = 0 ∨ x ≠ gw3)) rw9 (tk1 neC17.o) (fun x hx => (tk1 lt18.o)))))
   have Tb17 := cl17 _ _ _ _ _ _ _ Kf17.size (kz_b2 Kf17) (by omega) (by have := lt22.o; omega) B32 B33 ⟨(by have := rw9.o; omega)⟩ ⟨(pv_app (A := (fun x => 1 = 0 ∨ x ≠ gw7)) rw9 (pv_sw (.inr (tk1 lt19.o))) (fun x hx => (tk1 lt22.o)))⟩ ⟨(pv_app (A := (fun x => 1 = 0 ∨ x ≠ gw3)) rw9 (tk1 neC17.o) (fun x hx => (tk1 lt18.o)))⟩ Ow10 (by omega)
   have K_34 : Kz [] w2 w10 := (((((Kz.refl [] w2).kz K5).gr Y1).ka Aw9 (tk1 (pv_0 (A := (fun x => w2.heap.size ≤ x)) na17))).md M10 (tk1 (pv_0 (A := (fun x => w2.heap.size ≤ x)) nb17)))
   have z35 := K_34.size
   have lt36 := Tb17.lth
   refine sd_nil<|block_n<|then_n<|qg 3 rfl<|qm rfl<|qv rfl (vv_add (k := .i64) (a := a10) (b := 1) rfl rfl)<|qm rfl ?_
   refine sd_nil ?_
   have K_37 : Kz [] w2 w10 := (Kz.kz (Kz.refl _ _) K_34)
   subst hrec2
   exact ⟨rfl, ⟨n2, a9.set a10.toNat (y11 ++ [l13]), w64 (a10 + 1)⟩, sbq, ⟨hm, Tb17, ⟨(pv_0 (A := (fun x => w2.heap.size ≤ x)) Fw5_1)⟩, K_37⟩, Nat.lt_succ_self _⟩
 replace hm := iF c2 hm
 refine sw_exit<|then_x<|then_x<|block_x<|then_n<|qs 1 rfl ?_
 refine qm rfl<|sd_done<|sw_block<|sw_loopD (α := Nat × List (List (List Int)) × Int) ([3, 6, 7] ++ rg 38 51) (fun ⟨n3, a17, a18⟩ => [(3, vw3), (6, .int .i64 a18)]) (fun ⟨n3, a17, a18⟩ wr => (fixN (ref10_TablesOf_L3 p0 a6 rec1) n3 (a17, a18) = some r) ∧ Tab 73 32 3 wr w2.heap.size 1 gw3 vw3 a17 ∧ Hdn (1 = 0 ∨ w2.heap.size ≤ gw3) ∧ Kz [] w2 wr) (fun ⟨n3, a17, a18⟩ => n3) ⟨FUEL, a9, 0⟩ ?_ ?_ ?_
 · exact sbq
 · exact ⟨hm, Fw5_0, ⟨(pv_0 (A := (fun x => w2.heap.size ≤ x)) Fw5_1)⟩, K5⟩
 clear hm; rintro ⟨n3, a17, a18⟩ w11 ⟨hm, Fw11_0, Fw11_1, K11⟩
 have z38 := K11.size
 have lt39 := Fw11_0.lth
 have hb := fix_succ hm; clear hm; obtain ⟨n3, rfl, hm⟩ := hb
 generalize hrec3 : fixN (ref10_TablesOf_L3 p0 a6 rec1) n3 = rec3 at hm
 unfold ref10_TablesOf_L3 at hm
 try dsimp only at hm
 refine sw_seq<|qs 4 rfl<|qm rfl<|qm rfl ?_
 obtain ⟨Ft40, Rt40, pt40, lf40⟩ := Tab.rdD Fw11_0
 refine qv rfl (vv_lenD (l := a17) Try.underlying39 rfl Rt40)<|qv rfl (vv_lss (a := a18) (b := (a17.length : Int)) rfl rfl)<|sd_done<|cnF rfl (fun c3 => ?_) (fun c3 => ?_)
 · replace hm := iF c3 hm
   refine sw_exit<|then_x<|then_x<|block_x<|block_n<|then_n<|qg 3 rfl ?_
   refine qm rfl<|qv rfl (vv_add (k := .i64) (a := a6) (b := 1) rfl rfl)<|qm rfl<|sd_nil ?_
   have K_90 : Kz [] w2 w11 := (Kz.kz (Kz.refl _ _) K11)
   subst hrec1
   exact ⟨rfl, ⟨n1, a17, w64 (a6 + 1)⟩, sbq, ⟨hm, Fw11_0, ⟨(pv_0 (A := (fun x => w2.heap.size ≤ x)) Fw11_1)⟩, K_90⟩, Nat.lt_succ_self _⟩
 replace hm := iT c3 hm
 refine qu<|sw_seq<|sw_block<|qs 1 rfl<|qm rfl ?_
 refine sd_done<|sw_block<|sw_loopD (α := Nat × List (List (List Int)) × Int) ([3, 7] ++ rg 44 45) (fun ⟨n4, a21, a22⟩ => [(3, vw3), (7, .int .i64 a22)]) (fun ⟨n4, a21, a22⟩ wr => (fixN (ref10_TablesOf_L4 p0 a6 a18 rec3) n4 (a21, a22) = some r) ∧ Tab 73 32 3 wr w2.heap.size 1 gw3 vw3 a21 ∧ Hdn (1 = 0 ∨ w2.heap.size ≤ gw3) ∧ Kz [] w2 wr) (fun ⟨n4, a21, a22⟩ => n4) ⟨FUEL, a17, 0⟩ ?_ ?_ ?_
 · exact sbq
 · exact ⟨hm, Fw11_0, ⟨(pv_0 (A := (fun x => w2.heap.size ≤ x)) Fw11_1)⟩, K11⟩
 clear hm; rintro ⟨n4, a21, a22⟩ w12 ⟨hm, Fw12_0, Fw12_1, K12⟩
 have z41 := K12.size
 have lt42 := Fw12_0.lth
 have hb := fix_succ hm; clear hm; obtain ⟨n4, rfl, hm⟩ := hb
 generalize hrec4 : fixN (ref10_TablesOf_L4 p0 a6 a18 rec3) n4 = rec4 at hm
 unfold ref10_TablesOf_L4 at hm
 try dsimp only at hm
 refine sw_seq<|qs 5 rfl<|qm rfl<|qm rfl<|qv rfl (vv_cvIU cv_3_118 rfl) ?_
 obtain ⟨nn23, hnn23, hm⟩ := bnd hm
 refine qv rfl (vv_shlI (a := 1) (b := (un (wd a6))) rfl rfl hnn23)<|qv rfl (vv_leq (a := a22) (b := shlI 1 nn23) rfl rfl)<|sd_done<|cnF rfl (fun c4 => ?_) (fun c4 => ?_)
 · replace hm := iF c4 hm
   refine sw_exit<|then_x<|then_x<|block_x<|block_n<|then_n<|qg 3 rfl ?_
   refine qm rfl<|qv rfl (vv_add (k := .i64) (a := a18) (b := 1) rfl rfl)<|qm rfl<|sd_nil ?_
   have K_89 : Kz [] w2 w12 := (Kz.kz (Kz.refl _ _) K12)
   subst hrec3
   exact ⟨rfl, ⟨n3, a21, w64 (a18 + 1)⟩, sbq, ⟨hm, Fw12_0, ⟨(pv_0 (A := (fun x => w2.heap.size ≤ x)) Fw12_1)⟩, K_89⟩, Nat.lt_succ_self _⟩
 replace hm := iT c4 hm
 refine qu<|sw_seq<|sw_block ?_
 have X43 := (X4.kz K12)
 refine qj (β := Bool) (rg 51 6) (fun a24 => [(56, .bool a24)]) (fun a24 wr => (ref10_TablesOf_J5 p0 a6 a18 a21 a22 rec4 a24 = some r) ∧ Kz [] w12 wr) ?_ ?_
 · refine qg 6 rfl<|qm rfl<|qv rfl (vv_eql (a := a22) (b := 0) rfl rfl)<|qp rfl (vv_move rfl) (fun c6 => ?_) (fun c6 => ?_)
   · replace hm := iT c6 hm
     refine qk rfl<|qk rfl<|qm rfl<|sd_nil ?_
     exact ⟨rfl, true, sbq, hm, kz0⟩
   replace hm := iF c6 hm
   refine qm rfl<|qv rfl (vv_eql (a := a6) (b := 0) rfl rfl)<|qm rfl<|sd_nil ?_
   exact ⟨rfl, (decide (a6 = 0)), sbq, hm, kz0⟩
 clear hm; rintro a24 w13 ⟨hm, K13⟩
 have z44 := K13.size
 unfold ref10_TablesOf_J5 at hm
 refine sw_cond rfl (fun c5 => ?_) (fun c5 => ?_)
 · replace hm := cnd_t c5 hm
   have B45 := (Tab.kz Fw12_0 K13)
   obtain ⟨y25, hy25, hm⟩ := bnd hm
   obtain ⟨y26, hy26, hm⟩ := bnd hm
   obtain ⟨Ft46, Rt46, pt46, lf46⟩ := Tab.rdD B45
   obtain ⟨hs46, qs46, vi46, gi46, u46r, b46r, Ro46, hi46, Rm46, hj46, Or46, nb46, neA46, neB46, lg46, cl46⟩ := Tab.row B45 hy25 hy26
   have fl47 := Rt46.flt
   have lt48 := Rt46.lth
   have lt49 := Ro46.lth
   have lt50 := Rm46.lth
   have lt51 := Or46.lth
   refine dw [([] ++ zf 1 b46r),([])] [(14, [1])] (.leaf [(0,10),(1,10),(2,10),(3,10),(4,10),(5,10),(6,10),(7,10),(8,10),(9,10),(10,10),(11,10),(12,0),(13,11),(14,0)]) ?_
   intro w14 G14 zw14
   refine sdz_leaf<|dn 0 rfl rfl (Kp.refl ([] ++ zf 1 b46r) w14)<|dn 0 rfl rfl (Kp.refl ([] ++ zf 1 b46r) w14) ?_
   have B52 := (Ro46.gr G14)
   refine qh 0 rfl rfl (Kp.refl ([] ++ zf 1 b46r) w14) (fun w hS => vv_ixT (l := hs46) (c := h1c) (i := a18) Try.underlying39 (one_73).siz rfl (Rd.kp B52 hS (tk1 ((tk1 neA46.o) : 1 = 0 ∨ 1 = 0 ∨ gw3 ≠ b46r))) rfl hi46)<|qh 0 rfl rfl (Kp.refl ([] ++ zf 1 b46r) w14) (fun w hS => vv_el1T (c := h1c) (q := 0) (u := vi46) one_73 rfl (Rd.kp B52 hS (tk1 ((tk1 neA46.o) : 1 = 0 ∨ 1 = 0 ∨ gw3 ≠ b46r))) hi46 (by first | rfl | omega) rfl)<|dn 0 rfl rfl (Kp.refl ([] ++ zf 1 b46r) w14) ?_
   have B53 := (Rm46.gr G14)
   refine qh 0 rfl rfl (Kp.refl ([] ++ zf 1 b46r) w14) (fun w hS => vv_ixT (l := qs46) (c := h1c) (i := a6) Try.underlying73 (one_32).siz rfl (Rd.kp B53 hS (tk1 ((tk1 neB46.o) : 1 = 0 ∨ 1 = 0 ∨ gi46 ≠ b46r))) rfl hj46)<|qh 0 rfl rfl (Kp.refl ([] ++ zf 1 b46r) w14) (fun w hS => vv_el1T (c := h1c) (q := 0) (u := u46r) one_32 rfl (Rd.kp B53 hS (tk1 ((tk1 neB46.o) : 1 = 0 ∨ 1 = 0 ∨ gi46 ≠ b46r))) hj46 (by first | rfl | omega) rfl)<|dn 0 rfl rfl (Kp.refl ([] ++ zf 1 b46r) w14)<|qh 0 rfl rfl (Kp.refl ([] ++ zf 1 b46r) w14) (fun w hS => vv_fieldAddr fa_26_0 rfl) ?_
   have B54 := (((B5.kz K12).kz K13).gr G14)
   refine qh 0 rfl rfl (Kp.refl ([] ++ zf 1 b46r) w14) (fun w hS => vv_load1 (v := bv p0.Kind) one_5 rfl (Bx.kp B54 hS (tk1 (pb_0 (b := b1) nb46))) rfl)<|dn 0 rfl rfl (Kp.refl ([] ++ zf 1 b46r) w14)<|dn 0 rfl rfl (Kp.refl ([] ++ zf 1 b46r) w14) ?_
   obtain ⟨x27, hx27, hm⟩ := bnd hm
   refine qz [] rfl (eC en_80 rfl (ref10_start_w hx27)) ⟨fun _ => tk0, fun _ => tk0, trivial⟩ ?_
   rintro _ w15 ⟨rfl, G15⟩
   have z55 := G15.size
   refine kG G15 ?_
   obtain ⟨y28, hy28, hm⟩ := bnd hm
   have B56 := (Or46.gr G14)
   have S57 := ((Kp.refl ([]) w14).gr G15)
   refine qh 1 rfl rfl S57 (fun w hS => vv_ixT (i := a22) Try.underlying32 (one_3).siz rfl (Own.rd (Own.kp B56 hS)) rfl hy28) ?_
   have B58 := (B56.gr G15)
   have zo59 := Own.z1 B58 hy28
   refine qz [(1, b46r)] rfl (ev_stEl (i := a22) (q := 0) (a' := x27) (vs := [.int .i64 x27]) (c := ic) (one_3).siz rfl rfl rfl rfl rfl B58 hy28 (by first | rfl | omega) rfl rfl ⟨rfl, rfl⟩) ⟨fun _ => (tk1 (tk0 : 1 = 0 ∨ (b46r = b46r ∧ 1 ≠ 0) ∨ w14.heap.size ≤ b46r)), nofun, trivial⟩ ?_
   rintro _ w16 ⟨Ow16, M16⟩
   have z60 := M16.size
   refine kM M16 ?_
   have Kf46 : Kz [(1, b46r)] w13 w16 := ((((Kz.refl _ w13).gr G14).gr G15).md M16 (tk1 (tk0 : 1 = 0 ∨ (b46r = b46r ∧ 1 ≠ 0) ∨ w13.heap.size ≤ b46r)))
   have Tb46 := cl46 _ _ Kf46.size (kz_b1 Kf46) Ow16
   have K_61 : Kz [] w2 w16 := ((((((Kz.refl [] w2).kz K12).kz K13).gr G14).gr G15).md M16 (tk1 (pv_0 (A := (fun x => w2.heap.size ≤ x)) nb46)))
   have z62 := K_61.size
   have lt63 := Tb46.lth
   refine sd_nil<|block_n<|then_n<|qg 3 rfl<|qm rfl<|qv rfl (vv_add (k := .i64) (a := a22) (b := 1) rfl rfl)<|qm rfl ?_
   refine sd_nil ?_
   have K_64 : Kz [] w2 w16 := (Kz.kz (Kz.refl _ _) K_61)
   subst hrec4
   exact ⟨rfl, ⟨n4, a21.set a18.toNat (y25.set a6.toNat (y26.set a22.toNat x27)), w64 (a22 + 1)⟩, sbq, ⟨hm, Tb46, ⟨(pv_0 (A := (fun x => w2.heap.size ≤ x)) Fw12_1)⟩, K_64⟩, Nat.lt_succ_self _⟩
 replace hm := cnd_f c5 hm
 have B65 := (Tab.kz Fw12_0 K13)
 obtain ⟨y29, hy29, hm⟩ := bnd hm
 obtain ⟨y30, hy30, hm⟩ := bnd hm
 obtain ⟨Ft66, Rt66, pt66, lf66⟩ := Tab.rdD B65
 obtain ⟨hs66, qs66, vi66, gi66, u66r, b66r, Ro66, hi66, Rm66, hj66, Or66, nb66, neA66, neB66, lg66, cl66⟩ := Tab.row B65 hy29 hy30
 have fl67 := Rt66.flt
 have lt68 := Rt66.lth
 have lt69 := Ro66.lth
 have lt70 := Rm66.lth
 have lt71 := Or66.lth
 refine dw [([] ++ zf 1 b66r),([])] [(18, [1])] (.leaf [(0,10),(1,10),(2,10),(3,10),(4,10),(5,10),(6,10),(7,10),(8,10),(9,10),(10,10),(11,10),(12,10),(13,0),(14,10),(15,10),(16,10),(17,11),(18,0)]) ?_
 intro w17 G17 zw17
 refine sdz_leaf<|dn 0 rfl rfl (Kp.refl ([] ++ zf 1 b66r) w17)<|dn 0 rfl rfl (Kp.refl ([] ++ zf 1 b66r) w17) ?_
 have B72 := (Ro66.gr G17)
 refine qh 0 rfl rfl (Kp.refl ([] ++ zf 1 b66r) w17) (fun w hS => vv_ixT (l := hs66) (c := h1c) (i := a18) Try.underlying39 (one_73).siz rfl (Rd.kp B72 hS (tk1 ((tk1 neA66.o) : 1 = 0 ∨ 1 = 0 ∨ gw3 ≠ b66r))) rfl hi66)<|qh 0 rfl rfl (Kp.refl ([] ++ zf 1 b66r) w17) (fun w hS => vv_el1T (c := h1c) (q := 0) (u := vi66) one_73 rfl (Rd.kp B72 hS (tk1 ((tk1 neA66.o) : 1 = 0 ∨ 1 = 0 ∨ gw3 ≠ b66r))) hi66 (by first | rfl | omega) rfl)<|dn 0 rfl rfl (Kp.refl ([] ++ zf 1 b66r) w17) ?_
 have B73 := (Rm66.gr G17)
 refine qh 0 rfl rfl (Kp.refl ([] ++ zf 1 b66r) w17) (fun w hS => vv_ixT (l := qs66) (c := h1c) (i := a6) Try.underlying73 (one_32).siz rfl (Rd.kp B73 hS (tk1 ((tk1 neB66.o) : 1 = 0 ∨ 1 = 0 ∨ gi66 ≠ b66r))) rfl hj66)<|qh 0 rfl rfl (Kp.refl ([] ++ zf 1 b66r) w17) (fun w hS => vv_el1T (c := h1c) (q := 0) (u := u66r) one_32 rfl (Rd.kp B73 hS (tk1 ((tk1 neB66.o) : 1 = 0 ∨ 1 = 0 ∨ gi66 ≠ b66r))) hj66 (by first | rfl | omega) rfl)<|dn 0 rfl rfl (Kp.refl ([] ++ zf 1 b66r) w17) ?_
 have B74 := (((B5.kz K12).kz K13).gr G17)
 refine qh 0 rfl rfl (Kp.refl ([] ++ zf 1 b66r) w17) (fun w hS => vv_loadW agg_26 rfl (Bx.kp B74 hS (tk1 (pb_0 (b := b1) nb66))) rfl)<|dn 0 rfl rfl (Kp.refl ([] ++ zf 1 b66r) w17)<|dn 0 rfl rfl (Kp.refl ([] ++ zf 1 b66r) w17)<|dn 0 rfl rfl (Kp.refl ([] ++ zf 1 b66r) w17)<|dn 0 rfl rfl (Kp.refl ([] ++ zf 1 b66r) w17) ?_
 have B75 := (Rt66.gr G17)
 obtain ⟨x31, hx31, hm⟩ := bnd hm
 refine qz [] rfl (eC en_81 rfl (ref10_best_w p0 a21 a18 a6 a22 _ _ _ _ _ _ hx31 _ B75)) ⟨fun _ => tk0, fun _ => tk0, trivial⟩ ?_
 rintro _ w18 ⟨rfl, G18⟩
 have z76 := G18.size
 refine kG G18 ?_
 have S77 := ((Kp.refl ([] ++ zf 1 b66r) w17).gr G18)
 refine dn 0 rfl rfl S77<|dn 0 rfl rfl S77<|dn 0 rfl rfl S77 ?_
 obtain ⟨y32, hy32, hm⟩ := bnd hm
 have B78 := (Or66.gr G17)
 have S79 := ((Kp.refl ([]) w17).gr G18)
 refine qh 1 rfl rfl S79 (fun w hS => vv_ixT (i := a22) Try.underlying32 (one_3).siz rfl (Own.rd (Own.kp B78 hS)) rfl hy32) ?_
 have B80 := (B78.gr G18)
 have zo81 := Own.z1 B80 hy32
 refine qz [(1, b66r)] rfl (ev_stEl (i := a22) (q := 0) (a' := x31.1) (vs := [.int .i64 x31.1]) (c := ic) (one_3).siz rfl rfl rfl rfl rfl B80 hy32 (by first | rfl | omega) rfl rfl ⟨rfl, rfl⟩) ⟨fun _ => (tk1 (tk0 : 1 = 0 ∨ (b66r = b66r ∧ 1 ≠ 0) ∨ w17.heap.size ≤ b66r)), nofun, trivial⟩ ?_
 rintro _ w19 ⟨Ow19, M19⟩
 have z82 := M19.size
 refine kM M19 ?_
 have Kf66 : Kz [(1, b66r)] w13 w19 := ((((Kz.refl _ w13).gr G17).gr G18).md M19 (tk1 (tk0 : 1 = 0 ∨ (b66r = b66r ∧ 1 ≠ 0) ∨ w13.heap.size ≤ b66r)))
 have Tb66 := cl66 _ _ Kf66.size (kz_b1 Kf66) Ow19
 have K_83 : Kz [] w2 w19 := ((((((Kz.refl [] w2).kz K12).kz K13).gr G17).gr G18).md M19 (tk1 (pv_0 (A := (fun x => w2.heap.size ≤ x)) nb66)))
 have z84 := K_83.size
 have lt85 := Tb66.lth
 refine sd_nil<|block_n<|then_n<|qg 3 rfl<|qm rfl<|qv rfl (vv_add (k := .i64) (a := a22) (b := 1) rfl rfl)<|qm rfl ?_
 refine sd_nil ?_
 have K_86 : Kz [] w2 w19 := (Kz.kz (Kz.refl _ _) K_83)
 subst hrec4
 exact ⟨rfl, ⟨n4, a21.set a18.toNat (y29.set a6.toNat (y30.set a22.toNat x31.1)), w64 (a22 + 1)⟩, sbq, ⟨hm, Tb66, ⟨(pv_0 (A := (fun x => w2.heap.size ≤ x)) Fw12_1)⟩, K_86⟩, Nat.lt_succ_self _⟩
theorem ref10_SameTables_w (p0 : List (List (List Int))) (p1 : List (List (List Int))) (vp0 : Value) (zp0 gp0 op0 : Nat) (Fp0 : List Nat) (vp1 : Value) (zp1 gp1 op1 : Nat) (Fp1 : List Nat) (r : Bool) (hm : ref10_SameTables p0 p1 = some r) (w : World) (hp0 : RdD (rpSd (rpSl 1 ic)) w zp0 gp0 op0 vp0 Fp0 p0) (hp1 : RdD (rpSd (rpSl 1 ic)) w zp1 gp1 op1 vp1 Fp1 p1)  :
    Calls Try.prog 22 [vp0, vp1].toArray w fun e w' => ∃ v, e = .returned v ∧ (v = .bool r ∧ Gr w w') := by
 have fl1 := hp0.flt
 have lt2 := hp0.lth
 have fl3 := hp1.flt
 have lt4 := hp1.lth
 unfold ref10_SameTables at hm
 refine calls_of_sw 54 Try.func22 rfl rfl rfl<|qs 1 rfl<|qm rfl<|sd_done<|sw_seq<|sw_seq ?_
 refine qg 5 rfl<|qm rfl<|qv rfl (vv_lenD (l := p0) Try.underlying39 rfl hp0)<|qm rfl<|qv rfl (vv_lenD (l := p1) Try.underlying39 rfl hp1)<|qv rfl (vv_neq (a := (p0.length : Int)) (b := (p1.length : Int)) rfl rfl)<|sd_done ?_
 refine sw_cond rfl (fun c1 => ?_) (fun c1 => ?_)
 · replace hm := iT c1 hm
   refine qs 1 rfl<|qm rfl<|qb ?_
   cases hm
   refine ⟨_, _, rfl, res_1 rfl (rv_tmp rfl), ?_⟩
   exact ⟨rfl, (Gr.refl w)⟩
 replace hm := iF c1 hm
 refine qu<|sw_seq<|qs 1 rfl<|qm rfl<|sd_done ?_
 refine sw_block<|sw_loopD (α := Nat × Int) ([4, 5, 6] ++ rg 12 42) (fun ⟨n1, a2⟩ => [(4, .bool false), (5, .int .i64 a2)]) (fun ⟨n1, a2⟩ wr => (fixN (ref10_SameTables_L1 p0 p1) n1 a2 = some r) ∧ Kz [] w wr) (fun ⟨n1, a2⟩ => n1) ⟨FUEL, 0⟩ ?_ ?_ ?_
 · exact sbq
 · exact ⟨hm, Kz.refl _ _⟩
 clear hm; rintro ⟨n1, a2⟩ w1 ⟨hm, K1⟩
 have z5 := K1.size
 have hb := fix_succ hm; clear hm; obtain ⟨n1, rfl, hm⟩ := hb
 generalize hrec1 : fixN (ref10_SameTables_L1 p0 p1) n1 = rec1 at hm
 unfold ref10_SameTables_L1 at hm
 try dsimp only at hm
 refine sw_seq<|qs 4 rfl<|qm rfl<|qm rfl ?_
 have B6 := (hp0.kz K1 tk0 (fun x hx => tk0))
 refine qv rfl (vv_lenD (l := p0) Try.underlying39 rfl B6)<|qv rfl (vv_lss (a := a2) (b := (p0.length : Int)) rfl rfl)<|sd_done<|cnF rfl (fun c2 => ?_) (fun c2 => ?_)
 · replace hm := iF c2 hm
   refine sw_exit<|then_x<|then_x<|block_x<|then_n<|qs 1 rfl ?_
   refine qm rfl<|sd_done<|sw_ret ?_
   have X34 := ((Gr.refl w).kz K1)
   cases hm
   refine ⟨_, _, rfl, res_1 rfl (rv_tmp rfl), ?_⟩
   exact ⟨rfl, X34⟩
 replace hm := iT c2 hm
 refine qu<|sw_seq<|sw_block<|sw_seq<|sw_seq<|dw [([])] [] (.leaf [(0,10),(1,10),(2,10),(3,10),(4,10),(5,10),(6,10),(7,10),(8,10),(9,10),(10,10)]) ?_
 intro w2 G2 zw2
 refine sdz_leaf<|dm 0 rfl rfl<|dm 0 rfl rfl ?_
 obtain ⟨y3, hy3, hm⟩ := bnd hm
 have B7 := (B6.gr G2)
 refine dh 0 rfl rfl (fun w hS => vv_ixD (i := a2) Try.underlying39 (one_73).siz rfl (RdD.kp B7 hS (.inr List.not_mem_nil) (fun _ _ => List.not_mem_nil)) rfl hy3) ?_
 obtain ⟨lg8, x8_, z8_, g8_, o8_, R8, gx8, Q8, pf8⟩ := atSd B7 hy3
 have lt9 := Q8.lth
 refine dh 0 rfl rfl (fun w hS => vv_el1T (c := (fun p => [p.2])) (q := 0) (u := x8_) one_73 rfl (Rd.kp R8 hS (.inr List.not_mem_nil)) gx8 (by first | rfl | omega) rfl)<|dh 0 rfl rfl (fun w hS => vv_lenD (l := y3) Try.underlying73 rfl (RdD.kp Q8 hS (.inr List.not_mem_nil) (fun _ _ => List.not_mem_nil)))<|dm 0 rfl rfl<|dm 0 rfl rfl ?_
 obtain ⟨y4, hy4, hm⟩ := bnd hm
 have B10 := ((hp1.kz K1 tk0 (fun x hx => tk0)).gr G2)
 refine dh 0 rfl rfl (fun w hS => vv_ixD (i := a2) Try.underlying39 (one_73).siz rfl (RdD.kp B10 hS (.inr List.not_mem_nil) (fun _ _ => List.not_mem_nil)) rfl hy4) ?_
 obtain ⟨lg11, x11_, z11_, g11_, o11_, R11, gx11, Q11, pf11⟩ := atSd B10 hy4
 have lt12 := Q11.lth
 refine dh 0 rfl rfl (fun w hS => vv_el1T (c := (fun p => [p.2])) (q := 0) (u := x11_) one_73 rfl (Rd.kp R11 hS (.inr List.not_mem_nil)) gx11 (by first | rfl | omega) rfl)<|dh 0 rfl rfl (fun w hS => vv_lenD (l := y4) Try.underlying73 rfl (RdD.kp Q11 hS (.inr List.not_mem_nil) (fun _ _ => List.not_mem_nil)))<|dh 0 rfl rfl (fun w hS => vv_neq (a := (y3.length : Int)) (b := (y4.length : Int)) rfl rfl)<|sd_done<|sw_cond rfl (fun c3 => ?_) (fun c3 => ?_)
 · replace hm := iT c3 hm
   refine qs 1 rfl<|qm rfl<|qb<|block_r ?_
   refine then_r<|then_r<|block_r<|then_r ?_
   have X13 := (((Gr.refl w).kz K1).trans G2)
   cases hm
   refine ⟨_, _, rfl, res_1 rfl (rv_tmp rfl), ?_⟩
   exact ⟨rfl, X13⟩
 replace hm := iF c3 hm
 refine qu<|qs 1 rfl<|qm rfl<|sd_done<|sw_block ?_
 have X14 := (((Gr.refl w).kz K1).trans G2)
 refine sw_loopD (α := Nat × Int) ([4, 6] ++ rg 29 25) (fun ⟨n2, a6⟩ => [(4, .bool false), (6, .int .i64 a6)]) (fun ⟨n2, a6⟩ wr => (fixN (ref10_SameTables_L2 p0 p1 a2 rec1) n2 a6 = some r) ∧ Kz [] w2 wr) (fun ⟨n2, a6⟩ => n2) ⟨FUEL, 0⟩ ?_ ?_ ?_
 · exact sbq
 · exact ⟨hm, Kz.refl _ _⟩
 clear hm; rintro ⟨n2, a6⟩ w3 ⟨hm, K3⟩
 have z15 := K3.size
 have hb := fix_succ hm; clear hm; obtain ⟨n2, rfl, hm⟩ := hb
 generalize hrec2 : fixN (ref10_SameTables_L2 p0 p1 a2 rec1) n2 = rec2 at hm
 unfold ref10_SameTables_L2 at hm
 try dsimp only at hm
 refine sw_seq<|qs 7 rfl<|qm rfl<|qm rfl<|qm rfl ?_
 obtain ⟨y7, hy7, hm⟩ := bnd hm
 have B16 := (B7.kz K3 tk0 (fun x hx => tk0))
 refine qv rfl (vv_ixD (i := a2) Try.underlying39 (one_73).siz rfl B16 rfl hy7) ?_
 obtain ⟨lg17, x17_, z17_, g17_, o17_, R17, gx17, Q17, pf17⟩ := atSd B16 hy7
 have lt18 := Q17.lth
 refine qv rfl (vv_el1T (c := (fun p => [p.2])) (q := 0) (u := x17_) one_73 rfl R17 gx17 (by first | rfl | omega) rfl)<|qv rfl (vv_lenD (l := y7) Try.underlying73 rfl Q17)<|qv rfl (vv_lss (a := a6) (b := (y7.length : Int)) rfl rfl)<|sd_done<|cnF rfl (fun c4 => ?_) (fun c4 => ?_)
 · replace hm := iF c4 hm
   refine sw_exit<|then_x<|then_x<|block_x<|block_n<|then_n<|qg 3 rfl ?_
   refine qm rfl<|qv rfl (vv_add (k := .i64) (a := a2) (b := 1) rfl rfl)<|qm rfl<|sd_nil ?_
   have K_33 : Kz [] w w3 := ((K1.gr G2).kz K3)
   subst hrec1
   exact ⟨rfl, ⟨n1, w64 (a2 + 1)⟩, sbq, ⟨hm, K_33⟩, Nat.lt_succ_self _⟩
 replace hm := iT c4 hm
 refine qu<|sw_seq<|sw_block<|sw_seq<|dw [([])] [] (.leaf [(0,10),(1,10),(2,10),(3,10),(4,10),(5,10),(6,10),(7,10),(8,10),(9,10),(10,10),(11,10),(12,10),(13,10),(14,0),(15,10)]) ?_
 intro w4 G4 zw4
 refine sdz_leaf<|dm 0 rfl rfl<|dm 0 rfl rfl ?_
 obtain ⟨y8, hy8, hm⟩ := bnd hm
 have B19 := (B16.gr G4)
 refine dh 0 rfl rfl (fun w hS => vv_ixD (i := a2) Try.underlying39 (one_73).siz rfl (RdD.kp B19 hS (.inr List.not_mem_nil) (fun _ _ => List.not_mem_nil)) rfl hy8) ?_
 obtain ⟨lg20, x20_, z20_, g20_, o20_, R20, gx20, Q20, pf20⟩ := atSd B19 hy8
 have lt21 := Q20.lth
 refine dh 0 rfl rfl (fun w hS => vv_el1T (c := (fun p => [p.2])) (q := 0) (u := x20_) one_73 rfl (Rd.kp R20 hS (.inr List.not_mem_nil)) gx20 (by first | rfl | omega) rfl)<|dm 0 rfl rfl ?_
 obtain ⟨y9, hy9, hm⟩ := bnd hm
 refine dh 0 rfl rfl (fun w hS => vv_ixD (i := a6) Try.underlying73 (one_32).siz rfl (RdD.kp Q20 hS (.inr List.not_mem_nil) (fun _ _ => List.not_mem_nil)) rfl hy9) ?_
 obtain ⟨lg22, x22_, z22_, g22_, o22_, R22, gx22, Q22, pf22⟩ := atSl Q20 hy9
 have lt23 := Q22.lth
 refine dh 0 rfl rfl (fun w hS => vv_el1T (c := (fun p => [p.2])) (q := 0) (u := x22_) one_32 rfl (Rd.kp R22 hS (.inr List.not_mem_nil)) gx22 (by first | rfl | omega) rfl)<|dm 0 rfl rfl<|dm 0 rfl rfl ?_
 obtain ⟨y10, hy10, hm⟩ := bnd hm
 have B24 := ((B10.kz K3 tk0 (fun x hx => tk0)).gr G4)
 refine dh 0 rfl rfl (fun w hS => vv_ixD (i := a2) Try.underlying39 (one_73).siz rfl (RdD.kp B24 hS (.inr List.not_mem_nil) (fun _ _ => List.not_mem_nil)) rfl hy10) ?_
 obtain ⟨lg25, x25_, z25_, g25_, o25_, R25, gx25, Q25, pf25⟩ := atSd B24 hy10
 have lt26 := Q25.lth
 refine dh 0 rfl rfl (fun w hS => vv_el1T (c := (fun p => [p.2])) (q := 0) (u := x25_) one_73 rfl (Rd.kp R25 hS (.inr List.not_mem_nil)) gx25 (by first | rfl | omega) rfl)<|dm 0 rfl rfl ?_
 obtain ⟨y11, hy11, hm⟩ := bnd hm
 refine dh 0 rfl rfl (fun w hS => vv_ixD (i := a6) Try.underlying73 (one_32).siz rfl (RdD.kp Q25 hS (.inr List.not_mem_nil) (fun _ _ => List.not_mem_nil)) rfl hy11) ?_
 obtain ⟨lg27, x27_, z27_, g27_, o27_, R27, gx27, Q27, pf27⟩ := atSl Q25 hy11
 have lt28 := Q27.lth
 refine dh 0 rfl rfl (fun w hS => vv_el1T (c := (fun p => [p.2])) (q := 0) (u := x27_) one_32 rfl (Rd.kp R27 hS (.inr List.not_mem_nil)) gx27 (by first | rfl | omega) rfl) ?_
 obtain ⟨x12, hx12, hm⟩ := bnd hm
 refine qz [] rfl (eC en_18 rfl (ref03_SameInts_w hx12 Q22 Q27)) ⟨fun _ => tk0, trivial⟩ ?_
 rintro _ w5 ⟨rfl, G5⟩
 have z29 := G5.size
 refine kG G5 ?_
 have S30 := ((Kp.refl ([]) w4).gr G5)
 refine qh 0 rfl rfl S30 (fun w hS => vv_not rfl)<|sd_done<|sw_cond rfl (fun c5 => ?_) (fun c5 => ?_)
 · replace hm := cnd_t c5 hm
   refine qs 1 rfl<|qm rfl<|sd_done<|sw_ret<|block_r<|then_r ?_
   refine then_r<|block_r<|block_r<|then_r<|then_r<|block_r<|then_r ?_
   have X31 := (((X14.kz K3).trans G4).trans G5)
   cases hm
   refine ⟨_, _, rfl, res_1 rfl (rv_tmp rfl), ?_⟩
   exact ⟨rfl, X31⟩
 replace hm := cnd_f c5 hm
 refine sw_skip<|block_n<|then_n<|qg 3 rfl<|qm rfl<|qv rfl (vv_add (k := .i64) (a := a6) (b := 1) rfl rfl)<|qm rfl ?_
 refine sd_nil ?_
 have K_32 : Kz [] w2 w5 := ((K3.gr G4).gr G5)
 subst hrec2
 exact ⟨rfl, ⟨n2, w64 (a6 + 1)⟩, sbq, ⟨hm, K_32⟩, Nat.lt_succ_self _⟩
end Go.Proofs.Ytopkalcefepilaa.Mx
