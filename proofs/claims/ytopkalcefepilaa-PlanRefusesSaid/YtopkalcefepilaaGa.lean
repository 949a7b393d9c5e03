/- Walks that follow mirrors: Ga. Printed by mx.py. -/
import Derived.Test.YtopkalcefepilaaZc
import Derived.Test.YtopkalcefepilaaZf
import Derived.Test.YtopkalcefepilaaZd
import Derived.Test.YtopkalcefepilaaChecked
set_option linter.unusedVariables false
set_option linter.unusedSimpArgs false
set_option maxRecDepth 100000
set_option maxHeartbeats 30000000
namespace Go.Proofs.Ytopkalcefepilaa.Mx
open Go Go.RowKit Go.Sx
theorem agg_26 : Agg Try.prog 26 6 := fun _ => ⟨by kernel_rfl, by kernel_rfl⟩
theorem zv_109 : ZV Try.prog 109 (.agg [.int .u8 0, .int .i64 0, .int .i64 0].toArray) := fun _ => by kernel_rfl
theorem fa_26_0 : FA Try.prog 26 0 0 := fun _ _ _ => by kernel_rfl
theorem one_5 : One Try.prog 5 := fun _ => ⟨by kernel_rfl, by kernel_rfl⟩
theorem fa_26_1 : FA Try.prog 26 1 1 := fun _ _ _ => by kernel_rfl
theorem one_3 : One Try.prog 3 := fun _ => ⟨by kernel_rfl, by kernel_rfl⟩
theorem zv_26 : ZV Try.prog 26 (.agg [.int .u8 0, .int .i64 0, .int .i64 0, .int .u64 0, .int .u64 0, .int .u64 0].toArray) := fun _ => by kernel_rfl
theorem agg_24 : Agg Try.prog 24 3 := fun _ => ⟨by kernel_rfl, by kernel_rfl⟩
theorem bs_26 : BS Try.prog 26 (fun i => [(0, 1), (1, 1), (2, 1), (3, 3)][i]?) [.int .u8 0, .int .i64 0, .int .i64 0, .int .u64 0, .int .u64 0, .int .u64 0] := bs_mk Try.underlying26 zv_26 ⟨rfl, (one_5).siz, rfl, (one_3).siz, rfl, (one_3).siz, rfl, (agg_24).siz, trivial⟩
theorem one_22 : One Try.prog 22 := fun _ => ⟨by kernel_rfl, by kernel_rfl⟩
theorem eqc_22 : EqC Try.prog 1 22 [.i .u64] := eqc_int Try.underlying22 one_22
theorem eqc_24 : EqC Try.prog 2 24 [.i .u64, .i .u64, .i .u64] := eqc_struct Try.underlying24 (by kernel_rfl) agg_24 (show EqF _ 1 _ _ _ from (eqf_cons (ks1 := [.i .u64]) (ks2 := [.i .u64, .i .u64]) rfl (by simp) (eqc_22.up (by decide)) (eqf_cons (ks1 := [.i .u64]) (ks2 := [.i .u64]) rfl (by simp) (eqc_22.up (by decide)) (eqf_cons (ks1 := [.i .u64]) (ks2 := []) rfl (by simp) (eqc_22.up (by decide)) (eqf_nil _)))))
theorem eqc_3 : EqC Try.prog 1 3 [.i .i64] := eqc_int Try.underlying3 one_3
theorem eqc_5 : EqC Try.prog 1 5 [.i .u8] := eqc_int Try.underlying5 one_5
theorem eqc_26 : EqC Try.prog 3 26 [.i .u8, .i .i64, .i .i64, .i .u64, .i .u64, .i .u64] := eqc_struct Try.underlying26 (by kernel_rfl) agg_26 (show EqF _ 2 _ _ _ from (eqf_cons (ks1 := [.i .u8]) (ks2 := [.i .i64, .i .i64, .i .u64, .i .u64, .i .u64]) rfl (by simp) (eqc_5.up (by decide)) (eqf_cons (ks1 := [.i .i64]) (ks2 := [.i .i64, .i .u64, .i .u64, .i .u64]) rfl (by simp) (eqc_3.up (by decide)) (eqf_cons (ks1 := [.i .i64]) (ks2 := [.i .u64, .i .u64, .i .u64]) rfl (by simp) (eqc_3.up (by decide)) (eqf_cons (ks1 := [.i .u64, .i .u64, .i .u64]) (ks2 := []) rfl (by simp) (eqc_24.up (by decide)) (eqf_nil _))))))
theorem eqt_26 : EqT Try.prog 26 [.i .u8, .i .i64, .i .i64, .i .u64, .i .u64, .i .u64] := ⟨by kernel_rfl, agg_26, 3, by decide, eqc_26⟩
theorem bs_109 : BS Try.prog 109 (fun i => [(0, 1), (1, 1), (2, 1)][i]?) [.int .u8 0, .int .i64 0, .int .i64 0] := bs_mk Try.underlying109 zv_109 ⟨rfl, (one_5).siz, rfl, (one_3).siz, rfl, (one_3).siz, trivial⟩
theorem agg_109 : Agg Try.prog 109 3 := fun _ => ⟨by kernel_rfl, by kernel_rfl⟩
theorem fa_109_2 : FA Try.prog 109 2 2 := fun _ _ _ => by kernel_rfl
theorem fa_109_1 : FA Try.prog 109 1 1 := fun _ _ _ => by kernel_rfl
theorem en_85 : En Try.prog 85 := fun _ _ => by kernel_rfl
theorem zv_141 : ZV Try.prog 141 (.agg [.int .i64 0, .int .i64 0, .int .i64 0, .int .i64 0].toArray) := fun _ => by kernel_rfl
theorem ba_141 : BA Try.prog 141 1 [.int .i64 0, .int .i64 0, .int .i64 0, .int .i64 0] := ⟨_, _, Try.underlying141, (one_3).siz, zv_141⟩
theorem en_86 : En Try.prog 86 := fun _ _ => by kernel_rfl
theorem zv_96 : ZV Try.prog 96 (.agg [.int .u8 0, .int .i64 0, .int .i64 0, .int .u64 0, .int .u64 0, .int .u64 0, .int .i64 0, .slice none 0 0, .slice none 0 0, .slice none 0 0, .slice none 0 0, .int .i64 0].toArray) := fun _ => by kernel_rfl
theorem agg_94 : Agg Try.prog 94 4 := fun _ => ⟨by kernel_rfl, by kernel_rfl⟩
theorem bs_96 : BS Try.prog 96 (fun i => [(0, 6), (6, 1), (7, 4), (11, 1)][i]?) [.int .u8 0, .int .i64 0, .int .i64 0, .int .u64 0, .int .u64 0, .int .u64 0, .int .i64 0, .slice none 0 0, .slice none 0 0, .slice none 0 0, .slice none 0 0, .int .i64 0] := bs_mk Try.underlying96 zv_96 ⟨rfl, (agg_26).siz, rfl, (one_3).siz, rfl, (agg_94).siz, rfl, (one_3).siz, trivial⟩
theorem fa_96_3 : FA Try.prog 96 3 11 := fun _ _ _ => by kernel_rfl
theorem fa_96_2 : FA Try.prog 96 2 7 := fun _ _ _ => by kernel_rfl
theorem apt_32 : ApT Try.prog 32 3 1 8 := apt_mk Try.underlying32 rfl (by kernel_rfl)
theorem zv_3 : ZV Try.prog 3 (.int .i64 0) := fun _ => by kernel_rfl
theorem one_32 : One Try.prog 32 := fun _ => ⟨by kernel_rfl, by kernel_rfl⟩
theorem en_48 : En Try.prog 48 := fun _ _ => by kernel_rfl
theorem en_88 : En Try.prog 88 := fun _ _ => by kernel_rfl
theorem en_87 : En Try.prog 87 := fun _ _ => by kernel_rfl
theorem en_108 : En Try.prog 108 := fun _ _ => by kernel_rfl
theorem zv_4 : ZV Try.prog 4 (.bool false) := fun _ => by kernel_rfl
theorem one_4 : One Try.prog 4 := fun _ => ⟨by kernel_rfl, by kernel_rfl⟩
theorem one_131 : One Try.prog 131 := fun _ => ⟨by kernel_rfl, by kernel_rfl⟩
theorem one_83 : One Try.prog 83 := fun _ => ⟨by kernel_rfl, by kernel_rfl⟩
theorem fa_96_0 : FA Try.prog 96 0 0 := fun _ _ _ => by kernel_rfl
theorem fa_96_1 : FA Try.prog 96 1 6 := fun _ _ _ => by kernel_rfl
theorem en_83 : En Try.prog 83 := fun _ _ => by kernel_rfl
theorem en_110 : En Try.prog 110 := fun _ _ => by kernel_rfl
theorem en_109 : En Try.prog 109 := fun _ _ => by kernel_rfl
theorem en_131 : En Try.prog 131 := fun _ _ => by kernel_rfl
theorem en_74 : En Try.prog 74 := fun _ _ => by kernel_rfl
theorem en_82 : En Try.prog 82 := fun _ _ => by kernel_rfl
theorem cover_treeOf_w {p0 r} (hm : cover_treeOf p0 = some r) {w : World} :
    Calls Try.prog 85 [.agg (TScheme.cs p0).toArray].toArray w fun e w' => ∃ v, e = .returned v ∧ (v = .tuple [.agg (Tcover_tree.cs r.1).toArray, .bool r.2].toArray ∧ Gr w w') := by
 unfold cover_treeOf at hm
 refine calls_of_sw 51 Try.func85 rfl rfl rfl<|qs 3 rfl<|qe rfl (ev_box (cs := TScheme.cs p0) rfl rfl) ?_
 rintro _ w1 ⟨b1, rfl, hbw1, Bw1, G1⟩
 have z1 := G1.size
 have lt2 := Bw1.lt
 refine qe rfl (ev_alloc (cs := Tcover_tree.cs (Tcover_tree.mk 0#8 0 0)) zv_109 rfl) ?_
 rintro _ w2 ⟨b2, rfl, hbw2, Bw2, G2⟩
 have z3 := G2.size
 have lt4 := Bw2.lt
 refine qm rfl<|sd_done<|sw_seq ?_
 have X5 := (((Gr.refl w).trans G1).trans G2)
 refine qj (β := Bool) (rg 5 27) (fun a1 => [(31, .bool a1)]) (fun a1 wr => (cover_treeOf_J1 p0 a1 = some r) ∧ Kz [] w2 wr) ?_ ?_
 · refine qg 27 rfl<|qv rfl (vv_fieldAddr fa_26_0 rfl) ?_
   have B22 := (Bw1.gr G2)
   refine qv rfl (vv_load1 (v := bv p0.Kind) one_5 rfl B22 rfl)<|qv rfl (vv_lssB (p := p0.Kind) (q := 1#8) rfl rfl)<|qp rfl (vv_move rfl) (fun c3 => ?_) (fun c3 => ?_)
   · replace hm := iT c3 hm
     refine qk rfl<|qk rfl<|qk rfl<|qm rfl<|qm rfl<|qk rfl<|qk rfl ?_
     refine qk rfl<|qm rfl<|qm rfl<|qk rfl<|qk rfl<|qk rfl<|qm rfl ?_
     refine qm rfl<|qk rfl<|qk rfl<|qk rfl<|qk rfl<|qk rfl<|qk rfl ?_
     refine qk rfl<|qm rfl<|sd_nil ?_
     exact ⟨rfl, true, sbq, hm, kz0⟩
   replace hm := iF c3 hm
   refine qv rfl (vv_fieldAddr fa_26_0 rfl)<|qv rfl (vv_load1 (v := bv p0.Kind) one_5 rfl B22 rfl)<|qv rfl (vv_gtrB (p := p0.Kind) (q := 3#8) rfl rfl)<|qm rfl<|qp rfl (vv_move rfl) (fun c4 => ?_) (fun c4 => ?_)
   · replace hm := iT c4 hm
     refine qk rfl<|qk rfl<|qk rfl<|qm rfl<|qm rfl<|qk rfl<|qk rfl ?_
     refine qk rfl<|qm rfl<|qm rfl<|qk rfl<|qk rfl<|qk rfl<|qk rfl ?_
     refine qk rfl<|qk rfl<|qk rfl<|qm rfl<|sd_nil ?_
     exact ⟨rfl, true, sbq, hm, kz0⟩
   replace hm := iF c4 hm
   refine qv rfl (vv_fieldAddr fa_26_1 rfl)<|qv rfl (vv_load1 (v := .int .i64 p0.Depth) one_3 rfl B22 rfl)<|qv rfl (vv_lss (a := p0.Depth) (b := 0) rfl rfl)<|qm rfl<|qp rfl (vv_move rfl) (fun c5 => ?_) (fun c5 => ?_)
   · replace hm := iT c5 hm
     refine qk rfl<|qk rfl<|qk rfl<|qm rfl<|qm rfl<|qk rfl<|qk rfl ?_
     refine qk rfl<|qk rfl<|qk rfl<|qk rfl<|qk rfl<|qm rfl<|sd_nil ?_
     exact ⟨rfl, true, sbq, hm, kz0⟩
   replace hm := iF c5 hm
   refine qv rfl (vv_fieldAddr fa_26_1 rfl)<|qv rfl (vv_load1 (v := .int .i64 p0.Depth) one_3 rfl B22 rfl)<|qv rfl (vv_gtr (a := p0.Depth) (b := 6) rfl rfl)<|qm rfl<|qp rfl (vv_move rfl) (fun c6 => ?_) (fun c6 => ?_)
   · replace hm := iT c6 hm
     refine qk rfl<|qk rfl<|qk rfl<|qk rfl<|qk rfl<|qk rfl<|qk rfl ?_
     refine qm rfl<|sd_nil ?_
     exact ⟨rfl, true, sbq, hm, kz0⟩
   replace hm := iF c6 hm
   refine qv rfl (vv_loadW agg_26 rfl B22 rfl)<|qv rfl (vv_fieldAddr fa_26_0 rfl)<|qv rfl (vv_load1 (v := bv p0.Kind) one_5 rfl B22 rfl)<|qv rfl (vv_fieldAddr fa_26_1 rfl)<|qv rfl (vv_load1 (v := .int .i64 p0.Depth) one_3 rfl B22 rfl)<|qv rfl (vv_build (cs := TScheme.cs (TScheme.mk p0.Kind p0.Depth 0 (TGroup.mk 0#64 0#64 0#64))) bs_26 rfl rfl)<|qv rfl (vv_neqS (cf := TScheme.cs) (a := p0) (b := (TScheme.mk p0.Kind p0.Depth 0 (TGroup.mk 0#64 0#64 0#64))) eqt_26 rfl rfl rfl rfl (fun h => TScheme.cs_inj h)) ?_
   refine qm rfl<|sd_nil ?_
   exact ⟨rfl, (decide (p0 ≠ (TScheme.mk p0.Kind p0.Depth 0 (TGroup.mk 0#64 0#64 0#64)))), sbq, hm, kz0⟩
 clear hm; rintro a1 w3 ⟨hm, K3⟩
 have z6 := K3.size
 unfold cover_treeOf_J1 at hm
 refine sw_cond rfl (fun c1 => ?_) (fun c1 => ?_)
 · replace hm := cnd_t c1 hm
   refine qs 3 rfl<|qv rfl (vv_build (cs := Tcover_tree.cs (Tcover_tree.mk 0#8 0 0)) bs_109 rfl rfl) ?_
   have B7 := (Bw2.kz K3)
   refine qe rfl (ev_stW agg_109 rfl rfl rfl B7 rfl rfl) ?_
   rintro _ w4 ⟨Bw4, M4⟩
   have z8 := M4.size
   refine qm rfl<|qb ?_
   have X9 := ((X5.kz K3).md M4)
   cases hm
   refine ⟨_, _, rfl, res_2 rfl (rv_cellW agg_109 rfl Bw4 rfl) (rv_tmp rfl), ?_⟩
   exact ⟨rfl, X9⟩
 replace hm := cnd_f c1 hm
 refine qu<|qs 7 rfl<|qv rfl (vv_fieldAddr fa_26_0 rfl) ?_
 have B10 := ((Bw1.gr G2).kz K3)
 refine qv rfl (vv_load1 (v := bv p0.Kind) one_5 rfl B10 rfl)<|qv rfl (vv_fieldAddr fa_26_1 rfl)<|qv rfl (vv_load1 (v := .int .i64 p0.Depth) one_3 rfl B10 rfl)<|qv rfl (vv_build (cs := Tcover_tree.cs (Tcover_tree.mk p0.Kind p0.Depth 1)) bs_109 rfl rfl)<|qe rfl (ev_alloc (cs := Tcover_tree.cs (Tcover_tree.mk 0#8 0 0)) zv_109 rfl) ?_
 rintro _ w5 ⟨b5, rfl, hbw5, Bw5, G5⟩
 have z11 := G5.size
 have lt12 := Bw5.lt
 refine qe rfl (ev_stW agg_109 rfl rfl rfl Bw5 rfl rfl) ?_
 rintro _ w6 ⟨Bw6, M6⟩
 have z13 := M6.size
 refine sd_done<|sw_seq<|sw_block ?_
 have X14 := (((X5.kz K3).trans G5).md M6)
 refine sw_loopD (α := Nat × Int) (rg 38 12) (fun ⟨n2, a3⟩ => []) (fun ⟨n2, a3⟩ wr => (fixN (cover_treeOf_L2 p0) n2 a3 = some r) ∧ Bx wr b5 109 (Tcover_tree.cs (Tcover_tree.mk p0.Kind p0.Depth a3)) ∧ Kz [(1, b5)] w6 wr) (fun ⟨n2, a3⟩ => n2) ⟨FUEL, 1⟩ ?_ ?_ ?_
 · exact sbq
 · exact ⟨hm, Bw6, Kz.refl _ _⟩
 clear hm; rintro ⟨n2, a3⟩ w7 ⟨hm, Fw7_0, K7⟩
 have z15 := K7.size
 have lt16 := Fw7_0.lt
 have hb := fix_succ hm; clear hm; obtain ⟨n2, rfl, hm⟩ := hb
 generalize hrec2 : fixN (cover_treeOf_L2 p0) n2 = rec2 at hm
 unfold cover_treeOf_L2 at hm
 try dsimp only at hm
 refine sw_seq<|qs 8 rfl<|qv rfl (vv_fieldAddr fa_109_2 rfl)<|qv rfl (vv_load1 (v := .int .i64 a3) one_3 rfl Fw7_0 rfl)<|qv rfl (vv_fieldAddr fa_109_2 rfl)<|qv rfl (vv_load1 (v := .int .i64 a3) one_3 rfl Fw7_0 rfl) ?_
 refine qv rfl (vv_mul (k := .i64) (a := a3) (b := a3) rfl rfl)<|qv rfl (vv_fieldAddr fa_109_1 rfl)<|qv rfl (vv_load1 (v := .int .i64 p0.Depth) one_3 rfl Fw7_0 rfl)<|qv rfl (vv_lss (a := w64 (a3 * a3)) (b := p0.Depth) rfl rfl)<|sd_done<|sw_cond rfl (fun c2 => ?_) (fun c2 => ?_)
 · replace hm := iT c2 hm
   refine qu<|sw_block<|qg 5 rfl<|qv rfl (vv_fieldAddr fa_109_2 rfl)<|qv rfl (vv_load1 (v := .int .i64 a3) one_3 rfl Fw7_0 rfl)<|qv rfl (vv_add (k := .i64) (a := a3) (b := 1) rfl rfl) ?_
   refine qv rfl (vv_fieldAddr fa_109_2 rfl)<|qe rfl (ev_st1 (cs' := Tcover_tree.cs (Tcover_tree.mk p0.Kind p0.Depth (w64 (a3 + 1)))) (one_3).siz rfl rfl rfl Fw7_0 rfl rfl) ?_
   rintro _ w8 ⟨Bw8, M8⟩
   have z17 := M8.size
   refine sd_nil<|block_n ?_
   have K_18 : Kz [(1, b5)] w6 w8 := (K7.md M8)
   subst hrec2
   exact ⟨rfl, ⟨n2, w64 (a3 + 1)⟩, sbq, ⟨hm, Bw8, K_18⟩, Nat.lt_succ_self _⟩
 replace hm := iF c2 hm
 refine sw_exit<|then_x<|then_x<|block_x<|then_n<|qs 3 rfl ?_
 refine qv rfl (vv_loadW agg_109 rfl Fw7_0 rfl) ?_
 have B19 := ((((Bw2.kz K3).gr G5).md M6).kz K7)
 refine qe rfl (ev_stW agg_109 rfl rfl rfl B19 rfl rfl) ?_
 rintro _ w9 ⟨Bw9, M9⟩
 have z20 := M9.size
 refine qm rfl<|sd_done<|sw_ret ?_
 have X21 := ((X14.kz K7).md M9)
 cases hm
 refine ⟨_, _, rfl, res_2 rfl (rv_cellW agg_109 rfl Bw9 rfl) (rv_tmp rfl), ?_⟩
 exact ⟨rfl, X21⟩
theorem cover_Check_w {p0 r} (hm : cover_Check p0 = some r) {w : World} :
    Calls Try.prog 45 [.agg (TScheme.cs p0).toArray].toArray w fun e w' => ∃ v, e = .returned v ∧ (v = .int .i64 r ∧ Gr w w') := by
 unfold cover_Check at hm
 refine calls_of_sw 12 Try.func45 rfl rfl rfl<|qs 2 rfl<|qe rfl (ev_box (cs := TScheme.cs p0) rfl rfl) ?_
 rintro _ w1 ⟨b1, rfl, hbw1, Bw1, G1⟩
 have z1 := G1.size
 have lt2 := Bw1.lt
 refine qm rfl<|sd_done<|sw_seq<|qs 8 rfl<|qv rfl (vv_loadW agg_26 rfl Bw1 rfl) ?_
 obtain ⟨x1, hx1, hm⟩ := bnd hm
 refine qe rfl (eC en_85 rfl (cover_treeOf_w hx1)) ?_
 rintro _ w2 ⟨rfl, G2⟩
 have z3 := G2.size
 refine qm rfl<|qm rfl<|qm rfl<|qe rfl (ev_alloc (cs := Tcover_tree.cs (Tcover_tree.mk 0#8 0 0)) zv_109 rfl) ?_
 rintro _ w3 ⟨b3, rfl, hbw3, Bw3, G3⟩
 have z4 := G3.size
 have lt5 := Bw3.lt
 refine qe rfl (ev_stW agg_109 rfl rfl rfl Bw3 rfl rfl) ?_
 rintro _ w4 ⟨Bw4, M4⟩
 have z6 := M4.size
 refine qm rfl<|qd 2 rfl<|qm rfl<|qv rfl (vv_not rfl)<|sd_done ?_
 refine sw_cond rfl (fun c1 => ?_) (fun c1 => ?_)
 · replace hm := cnd_t c1 hm
   refine qs 1 rfl<|qm rfl<|qb ?_
   have X7 := (((((Gr.refl w).trans G1).trans G2).trans G3).md M4)
   cases hm
   refine ⟨_, _, rfl, res_1 rfl (rv_tmp rfl), ?_⟩
   exact ⟨rfl, X7⟩
 replace hm := cnd_f c1 hm
 refine qu<|qs 1 rfl<|qm rfl<|sd_done<|sw_ret ?_
 have X8 := (((((Gr.refl w).trans G1).trans G2).trans G3).md M4)
 cases hm
 refine ⟨_, _, rfl, res_1 rfl (rv_tmp rfl), ?_⟩
 exact ⟨rfl, X8⟩
theorem plan_stride_w {p0 r} (hm : plan_stride p0 = some r) {w : World} :
    Calls Try.prog 86 [.int .i64 p0].toArray w fun e w' => ∃ v, e = .returned v ∧ (v = .int .i64 r ∧ Gr w w') := by
 unfold plan_stride at hm
 refine calls_of_sw 12 Try.func86 rfl rfl rfl<|qs 1 rfl<|qm rfl<|qd 1 rfl ?_
 refine qm rfl<|sd_done<|sw_seq<|sw_block<|sw_loopD (α := Nat × Int) (rg 3 8) (fun ⟨n1, a2⟩ => [(3, .int .i64 a2)]) (fun ⟨n1, a2⟩ wr => (fixN (plan_stride_L1 p0) n1 a2 = some r) ∧ Kz [] w wr) (fun ⟨n1, a2⟩ => n1) ⟨FUEL, 1⟩ ?_ ?_ ?_
 · exact sbq
 · exact ⟨hm, Kz.refl _ _⟩
 clear hm; rintro ⟨n1, a2⟩ w1 ⟨hm, K1⟩
 have z1 := K1.size
 have hb := fix_succ hm; clear hm; obtain ⟨n1, rfl, hm⟩ := hb
 generalize hrec1 : fixN (plan_stride_L1 p0) n1 = rec1 at hm
 unfold plan_stride_L1 at hm
 try dsimp only at hm
 refine sw_seq<|qs 5 rfl<|qm rfl<|qm rfl<|qv rfl (vv_mul (k := .i64) (a := a2) (b := a2) rfl rfl)<|qm rfl ?_
 refine qv rfl (vv_lss (a := w64 (a2 * a2)) (b := p0) rfl rfl)<|sd_done<|sw_cond rfl (fun c1 => ?_) (fun c1 => ?_)
 · replace hm := iT c1 hm
   refine qu<|sw_block<|qg 3 rfl<|qm rfl<|qv rfl (vv_add (k := .i64) (a := a2) (b := 1) rfl rfl)<|qm rfl ?_
   refine sd_nil<|block_n ?_
   have K_2 : Kz [] w w1 := K1
   subst hrec1
   exact ⟨rfl, ⟨n1, w64 (a2 + 1)⟩, sbq, ⟨hm, K_2⟩, Nat.lt_succ_self _⟩
 replace hm := iF c1 hm
 refine sw_exit<|then_x<|then_x<|block_x<|then_n<|qs 2 rfl ?_
 refine qm rfl<|qm rfl<|sd_done<|sw_ret ?_
 have X3 := ((Gr.refl w).kz K1)
 cases hm
 refine ⟨_, _, rfl, res_1 rfl (rv_tmp rfl), ?_⟩
 exact ⟨rfl, X3⟩
theorem plan_width_w {p0 r} (hm : plan_width p0 = some r) {w : World} :
    Calls Try.prog 88 [.int .i64 p0].toArray w fun e w' => ∃ v, e = .returned v ∧ (v = .int .i64 r ∧ Gr w w') := by
 unfold plan_width at hm
 refine calls_of_sw 6 Try.func88 rfl rfl rfl<|qs 1 rfl<|qm rfl<|qd 4 rfl ?_
 refine qm rfl ?_
 obtain ⟨nn1, hnn1, hm⟩ := bnd hm
 refine qv rfl (vv_shlI (a := 1) (b := p0) rfl rfl hnn1)<|qv rfl (vv_add (k := .i64) (a := shlI 1 nn1) (b := 1) rfl rfl)<|qm rfl<|sd_done<|sw_ret ?_
 cases hm
 refine ⟨_, _, rfl, res_1 rfl (rv_tmp rfl), ?_⟩
 exact ⟨rfl, (Gr.refl w)⟩
theorem plan_tables_more_w {p0 p1 bp0 vp0_7 zp0_7 gp0_7 op0_7 vp0_8 zp0_8 gp0_8 op0_8 vp0_9 zp0_9 gp0_9 op0_9 vp0_10 zp0_10 gp0_10 op0_10 r} (hm : plan_tables_more p0 p1 = some r) {w : World} (hbp0 : Bx w bp0 96 (Tplan_tables.cs p0 vp0_7 vp0_8 vp0_9 vp0_10)) (hp0_7 : Rd w zp0_7 gp0_7 op0_7 1 vp0_7 (p0.rows.a0.map ic)) (hp0_8 : Rd w zp0_8 gp0_8 op0_8 1 vp0_8 (p0.rows.a1.map ic)) (hp0_9 : Rd w zp0_9 gp0_9 op0_9 1 vp0_9 (p0.rows.a2.map ic)) (hp0_10 : Rd w zp0_10 gp0_10 op0_10 1 vp0_10 (p0.rows.a3.map ic)) :
    Calls Try.prog 87 [.pointer (some ⟨bp0, 0, none⟩), .int .i64 p1].toArray w fun e w' => ∃ v, e = .returned v ∧ (v = .int .i64 r ∧ Gr w w') := by
 have lt1 := hp0_7.lth
 have lt2 := hp0_8.lth
 have lt3 := hp0_9.lth
 have lt4 := hp0_10.lth
 have lt5 := hbp0.lt
 unfold plan_tables_more at hm
 refine calls_of_sw 11 Try.func87 rfl rfl rfl<|qs 1 rfl<|qm rfl<|sd_done<|sw_seq<|sw_block ?_
 refine qs 3 rfl<|qm rfl<|qv rfl (vv_eql (a := p1) (b := 0) rfl rfl)<|qm rfl<|sd_done<|sw_cond rfl (fun c1 => ?_) (fun c1 => ?_)
 · replace hm := iT c1 hm
   refine qs 1 rfl<|qm rfl<|sd_done<|sw_ret<|block_r<|then_r ?_
   cases hm
   refine ⟨_, _, rfl, res_1 rfl (rv_tmp rfl), ?_⟩
   exact ⟨rfl, (Gr.refl w)⟩
 replace hm := iF c1 hm
 refine qs 3 rfl<|qm rfl<|qv rfl (vv_eql (a := p1) (b := 3) rfl rfl)<|qm rfl<|sd_done<|sw_cond rfl (fun c2 => ?_) (fun c2 => ?_)
 · replace hm := iT c2 hm
   refine qs 1 rfl<|qm rfl<|sd_done<|sw_ret<|block_r<|then_r ?_
   cases hm
   refine ⟨_, _, rfl, res_1 rfl (rv_tmp rfl), ?_⟩
   exact ⟨rfl, (Gr.refl w)⟩
 replace hm := iF c2 hm
 refine sw_skip<|block_n<|then_n<|qs 1 rfl<|qm rfl<|sd_done ?_
 refine sw_ret ?_
 cases hm
 refine ⟨_, _, rfl, res_1 rfl (rv_tmp rfl), ?_⟩
 exact ⟨rfl, (Gr.refl w)⟩
theorem plan_splits_w {p0 p1 r} (hm : plan_splits p0 p1 = some r) {w : World} :
    Calls Try.prog 108 [.int .i64 p0, .int .i64 p1].toArray w fun e w' => ∃ v, e = .returned v ∧ (∃ bc0 bc1, v = .func (.func 131) #[] [.pointer (some ⟨bc0, 0, none⟩), .pointer (some ⟨bc1, 0, none⟩)].toArray ∧ Bx w' bc0 3 ([.int .i64 r.1]) ∧ (w.heap.size ≤ bc0) ∧ Bx w' bc1 3 ([.int .i64 r.2]) ∧ (w.heap.size ≤ bc1) ∧ Gr w w') := by
 unfold plan_splits at hm
 refine calls_of_sw 6 Try.func108 rfl rfl rfl<|qs 3 rfl<|qe rfl (ev_box (cs := [.int .i64 p0]) rfl rfl) ?_
 rintro _ w1 ⟨b1, rfl, hbw1, Bw1, G1⟩
 have z1 := G1.size
 have lt2 := Bw1.lt
 refine qe rfl (ev_box (cs := [.int .i64 p1]) rfl rfl) ?_
 rintro _ w2 ⟨b2, rfl, hbw2, Bw2, G2⟩
 have z3 := G2.size
 have lt4 := Bw2.lt
 refine qm rfl<|qd 2 rfl<|qv rfl (vv_makeFunc rfl rfl)<|qm rfl<|sd_done ?_
 refine sw_ret ?_
 have B5 := (Bw1.gr G2)
 have X6 := (((Gr.refl w).trans G1).trans G2)
 cases hm
 refine ⟨_, _, rfl, res_1 rfl (rv_tmp rfl), ?_⟩
 exact ⟨b1, b2, rfl, B5, by omega, Bw2, by omega, X6⟩
theorem plan_splits_1_it (p1 : Int) (p2 : Int) (bp1 : Nat) (bp2 : Nat) (xs : List Int) (hm : plan_splits_1 p1 p2 = some xs) (w0 : World) (hbp1 : Bx w0 bp1 3 ([.int .i64 p1])) (hbp2 : Bx w0 bp2 3 ([.int .i64 p2])) :
    IT Try.prog 131 [.pointer (some ⟨bp1, 0, none⟩), .pointer (some ⟨bp2, 0, none⟩)] (xs.map (fun (x : Int) => ([.int .i64 x] : List Value))) ([bp1] ++ [bp2]) w0 := by
 intro l J Jx w fp hG hJ hJx hcap h0 hY
 have c1 := Bx.gr hbp1 hG
 have lt2 := c1.lt
 have nb3 : bp1 ∉ fp := hcap _ (by simp)
 have c4 := Bx.gr hbp2 hG
 have lt5 := c4.lt
 have nb6 : bp2 ∉ fp := hcap _ (by simp)
 have hd := dr_0 xs
 unfold plan_splits_1 at hm
 refine calls_of_sw 24 Try.func131 rfl rfl rfl<|qs 4 rfl<|qv rfl (vv_load1 (v := .int .i64 p1) one_3 rfl c1 rfl)<|qv rfl (vv_sub (k := .i64) (a := p1) (b := 1) rfl rfl) ?_
 obtain ⟨nn1, hnn1, hm⟩ := bnd hm
 refine qv rfl (vv_shlI (a := 1) (b := (w64 (p1 - 1))) rfl rfl hnn1)<|qm rfl<|qd 5 rfl<|qv rfl (vv_load1 (v := .int .i64 p2) one_3 rfl c4 rfl)<|qm rfl ?_
 refine qv rfl (vv_sub (k := .i64) (a := p2) (b := shlI 1 nn1) rfl rfl)<|qv rfl (vv_maxK rfl rfl)<|qm rfl<|sd_done<|sw_block<|sw_loopD (α := Nat × Int × Nat × List Nat × List Int) ([5] ++ rg 13 11) (fun ⟨n1, a3, kk, fpl, rl⟩ => [(5, .int .i64 a3)]) (fun ⟨n1, a3, kk, fpl, rl⟩ wr => (fixN (plan_splits_1_L1 p2 nn1) n1 a3 = some rl) ∧ Dr xs kk rl ∧ J kk fpl wr ∧ (∀ c ∈ fpl, c ∈ fp ∨ w.heap.size ≤ c) ∧ Kp fp w wr ∧ Bx wr bp1 3 ([.int .i64 p1]) ∧ Bx wr bp2 3 ([.int .i64 p2]) ∧ bp1 ∉ fpl ∧ bp2 ∉ fpl ∧ True) (fun ⟨n1, a3, kk, fpl, rl⟩ => n1) ⟨FUEL, mxI 0 (w64 (p2 - (shlI 1 nn1))), 0, fp, xs⟩ ?_ ?_ ?_
 · exact sbq
 · exact ⟨hm, hd, h0, (fun c hc => Or.inl hc), (Kp.refl fp w), c1, c4, nb3, nb6, trivial⟩
 clear hm; rintro ⟨n1, a3, kk1, fpl1, rl1⟩ w1 ⟨hm, dl1, JLw1, sl1, KLw1, Sw1_0, Sw1_1, Nw1_0, Nw1_1, -⟩
 have z7 := KLw1.size
 have lt8 := Sw1_0.lt
 have lt9 := Sw1_1.lt
 have hb := fix_succ hm; clear hm; obtain ⟨n1, rfl, hm⟩ := hb
 generalize hrec1 : fixN (plan_splits_1_L1 p2 nn1) n1 = rec1 at hm
 unfold plan_splits_1_L1 at hm
 try dsimp only at hm
 refine sw_seq<|qs 5 rfl<|qm rfl<|qv rfl (vv_load1 (v := .int .i64 p2) one_3 rfl Sw1_1 rfl)<|qm rfl<|qv rfl (vv_minK rfl rfl) ?_
 refine qv rfl (vv_leq (a := a3) (b := mnI p2 (shlI 1 nn1)) rfl rfl)<|sd_done<|cnF rfl (fun c1 => ?_) (fun c1 => ?_)
 · replace hm := iF c1 hm
   refine sw_exit<|then_x<|then_x<|block_x ?_
   have he := Option.some.inj hm
   have hl := Dr.last (c := (fun (x : Int) => ([.int .i64 x] : List Value))) dl1 he.symm
   refine ⟨_, _, rfl, res_none rfl, KLw1, .inl ⟨_, sl1, ?_⟩⟩
   rw [← hl]; exact JLw1
 replace hm := iT c1 hm
 refine qu<|sw_seq<|sw_block<|qs 4 rfl<|qm rfl ?_
 refine qm rfl ?_
 obtain ⟨rr10, hm, he10⟩ := yl_some hm
 have hx10 := Dr.at dl1 he10
 have hd10 := Dr.next dl1 he10
 refine qe rfl (ev_yield rfl rfl (hY _ _ _ _ (getm hx10) JLw1 KLw1 sl1)) ?_
 rintro _ w2 ⟨bb, rfl, KF10, fp10, hg10, hJb⟩
 have z11 := KF10.size
 have sub10 : ∀ c ∈ fp10, c ∈ fp ∨ w.heap.size ≤ c := sub_grow sl1 hg10 (by omega)
 have nb12 := notin_grow hg10 Nw1_0 (by omega)
 have nb13 := notin_grow hg10 Nw1_1 (by omega)
 cases bb
 · have Jy10 : Jx (kk1 + 1) fp10 w2 := hJb
   refine qv rfl (vv_not rfl)<|sd_done<|sw_condT rfl<|sw_ret<|block_r<|then_r<|then_r ?_
   refine block_r ?_
   have KI14 : Kp fp w w2 := (KLw1.trans KF10 sl1)
   exact ⟨_, _, rfl, res_none rfl, KI14, .inr ⟨_, _, sub10, (by rw [List.length_map]; exact (List.getElem?_eq_some_iff.1 hx10).1), Jy10⟩⟩
 have Jy10 : J (kk1 + 1) fp10 w2 := hJb
 refine qv rfl (vv_not rfl)<|sd_done<|sw_condF rfl<|sw_skip<|block_n<|then_n<|qg 3 rfl ?_
 refine qm rfl<|qv rfl (vv_add (k := .i64) (a := a3) (b := 1) rfl rfl)<|qm rfl<|sd_nil ?_
 have KI15 : Kp fp w w2 := (KLw1.trans KF10 sl1)
 have B16 := (Bx.kp Sw1_0 KF10 Nw1_0)
 have B17 := (Bx.kp Sw1_1 KF10 Nw1_1)
 subst hrec1
 exact ⟨rfl, ⟨n1, w64 (a3 + 1), (kk1 + 1), fp10, rr10⟩, sbq, ⟨hm, hd10, Jy10, sub10, KI15, B16, B17, nb12, nb13, trivial⟩, Nat.lt_succ_self _⟩
theorem plan_tables_at_w {p0 p1 p2 bp0 vp0_7 zp0_7 gp0_7 op0_7 vp0_8 zp0_8 gp0_8 op0_8 vp0_9 zp0_9 gp0_9 op0_9 vp0_10 zp0_10 gp0_10 op0_10 r} (hm : plan_tables_at p0 p1 p2 = some r) {w : World} (hbp0 : Bx w bp0 96 (Tplan_tables.cs p0 vp0_7 vp0_8 vp0_9 vp0_10)) (hp0_7 : Rd w zp0_7 gp0_7 op0_7 1 vp0_7 (p0.rows.a0.map ic)) (hp0_8 : Rd w zp0_8 gp0_8 op0_8 1 vp0_8 (p0.rows.a1.map ic)) (hp0_9 : Rd w zp0_9 gp0_9 op0_9 1 vp0_9 (p0.rows.a2.map ic)) (hp0_10 : Rd w zp0_10 gp0_10 op0_10 1 vp0_10 (p0.rows.a3.map ic)) :
    Calls Try.prog 48 [.pointer (some ⟨bp0, 0, none⟩), .int .i64 p1, .int .i64 p2].toArray w fun e w' => ∃ v, e = .returned v ∧ (∃ ur0_s zr0_s gr0_s or0_s, v = ur0_s ∧ Rd w' zr0_s gr0_s or0_s 1 ur0_s (r.map ic) ∧ Hdn (zr0_s = 0 ∨ (gr0_s = gp0_7 ∧ zp0_7 ≠ 0) ∨ (gr0_s = gp0_8 ∧ zp0_8 ≠ 0) ∨ (gr0_s = gp0_9 ∧ zp0_9 ≠ 0) ∨ (gr0_s = gp0_10 ∧ zp0_10 ≠ 0) ∨ w.heap.size ≤ gr0_s) ∧ Gr w w') := by
 have lt1 := hp0_7.lth
 have lt2 := hp0_8.lth
 have lt3 := hp0_9.lth
 have lt4 := hp0_10.lth
 have lt5 := hbp0.lt
 unfold plan_tables_at at hm
 refine calls_of_sw 28 Try.func48 rfl rfl rfl<|qs 1 rfl<|qm rfl<|qd 6 rfl ?_
 refine qm rfl ?_
 obtain ⟨nn1, hnn1, hm⟩ := bnd hm
 refine qv rfl (vv_shlI (a := 1) (b := p2) rfl rfl hnn1)<|qv rfl (vv_sub (k := .i64) (a := shlI 1 nn1) (b := 1) rfl rfl)<|qm rfl<|qv rfl (vv_add (k := .i64) (a := w64 ((shlI 1 nn1) - 1)) (b := p2) rfl rfl)<|qm rfl<|sd_done<|sw_seq ?_
 refine qg 5 rfl<|qm rfl<|qm rfl ?_
 obtain ⟨x2, hx2, hm⟩ := bnd hm
 refine qe rfl (eC en_88 rfl (plan_width_w hx2)) ?_
 rintro _ w1 ⟨rfl, G1⟩
 have z6 := G1.size
 refine qv rfl (vv_add (k := .i64) (a := w64 ((w64 ((shlI 1 nn1) - 1)) + p2)) (b := x2) rfl rfl)<|qm rfl<|qd 11 rfl<|qm rfl<|qm rfl ?_
 refine qv rfl (vv_nilCheck rfl rfl)<|qv rfl (vv_fieldAddr fa_96_2 rfl) ?_
 by_cases c1 : p1 = 0
 · replace hm := ite_t c1 hm
   refine qv rfl (vv_ixE 0 Try.underlying94 (one_32).siz rfl rfl c1 (by decide)) ?_
   have B7 := (hbp0.gr G1)
   refine qv rfl (vv_load1 (v := vp0_7) one_32 rfl B7 rfl)<|qm rfl<|qm rfl<|qm rfl ?_
   obtain ⟨l3, hl3, hm⟩ := bnd hm
   have B9 := (hp0_7.gr G1)
   refine qt rfl (vv_sliT3 (c := ic) Try.underlying32 (one_3).siz rfl B9 rfl rfl rfl hl3) ?_
   rintro v8 o8 R8
   have lt10 := R8.lth
   refine qm rfl<|sd_done<|sw_ret ?_
   have X11 := ((Gr.refl w).trans G1)
   cases hm
   refine ⟨_, _, rfl, res_1 rfl (rv_tmp rfl), ?_⟩
   exact ⟨v8, zp0_7, gp0_7, o8, rfl, R8, ⟨tk0⟩, X11⟩
 replace hm := ite_f c1 hm
 by_cases c2 : p1 = 1
 · replace hm := ite_t c2 hm
   refine qv rfl (vv_ixE 1 Try.underlying94 (one_32).siz rfl rfl c2 (by decide)) ?_
   have B12 := (hbp0.gr G1)
   refine qv rfl (vv_load1 (v := vp0_8) one_32 rfl B12 rfl)<|qm rfl<|qm rfl<|qm rfl ?_
   obtain ⟨l4, hl4, hm⟩ := bnd hm
   have B14 := (hp0_8.gr G1)
   refine qt rfl (vv_sliT3 (c := ic) Try.underlying32 (one_3).siz rfl B14 rfl rfl rfl hl4) ?_
   rintro v13 o13 R13
   have lt15 := R13.lth
   refine qm rfl<|sd_done<|sw_ret ?_
   have X16 := ((Gr.refl w).trans G1)
   cases hm
   refine ⟨_, _, rfl, res_1 rfl (rv_tmp rfl), ?_⟩
   exact ⟨v13, zp0_8, gp0_8, o13, rfl, R13, ⟨tk0⟩, X16⟩
 replace hm := ite_f c2 hm
 by_cases c3 : p1 = 2
 · replace hm := ite_t c3 hm
   refine qv rfl (vv_ixE 2 Try.underlying94 (one_32).siz rfl rfl c3 (by decide)) ?_
   have B17 := (hbp0.gr G1)
   refine qv rfl (vv_load1 (v := vp0_9) one_32 rfl B17 rfl)<|qm rfl<|qm rfl<|qm rfl ?_
   obtain ⟨l5, hl5, hm⟩ := bnd hm
   have B19 := (hp0_9.gr G1)
   refine qt rfl (vv_sliT3 (c := ic) Try.underlying32 (one_3).siz rfl B19 rfl rfl rfl hl5) ?_
   rintro v18 o18 R18
   have lt20 := R18.lth
   refine qm rfl<|sd_done<|sw_ret ?_
   have X21 := ((Gr.refl w).trans G1)
   cases hm
   refine ⟨_, _, rfl, res_1 rfl (rv_tmp rfl), ?_⟩
   exact ⟨v18, zp0_9, gp0_9, o18, rfl, R18, ⟨tk0⟩, X21⟩
 replace hm := ite_f c3 hm
 by_cases c4 : p1 = 3
 · replace hm := ite_t c4 hm
   refine qv rfl (vv_ixE 3 Try.underlying94 (one_32).siz rfl rfl c4 (by decide)) ?_
   have B22 := (hbp0.gr G1)
   refine qv rfl (vv_load1 (v := vp0_10) one_32 rfl B22 rfl)<|qm rfl<|qm rfl<|qm rfl ?_
   obtain ⟨l6, hl6, hm⟩ := bnd hm
   have B24 := (hp0_10.gr G1)
   refine qt rfl (vv_sliT3 (c := ic) Try.underlying32 (one_3).siz rfl B24 rfl rfl rfl hl6) ?_
   rintro v23 o23 R23
   have lt25 := R23.lth
   refine qm rfl<|sd_done<|sw_ret ?_
   have X26 := ((Gr.refl w).trans G1)
   cases hm
   refine ⟨_, _, rfl, res_1 rfl (rv_tmp rfl), ?_⟩
   exact ⟨v23, zp0_10, gp0_10, o23, rfl, R23, ⟨tk0⟩, X26⟩
 replace hm := ite_f c4 hm
 cases hm
theorem plan_tables_below_w {p0 p1 p2 bp0 vp0_7 zp0_7 gp0_7 op0_7 vp0_8 zp0_8 gp0_8 op0_8 vp0_9 zp0_9 gp0_9 op0_9 vp0_10 zp0_10 gp0_10 op0_10 r} (hm : plan_tables_below p0 p1 p2 = some r) {w : World} (hbp0 : Bx w bp0 96 (Tplan_tables.cs p0 vp0_7 vp0_8 vp0_9 vp0_10)) (hp0_7 : Rd w zp0_7 gp0_7 op0_7 1 vp0_7 (p0.rows.a0.map ic)) (hp0_8 : Rd w zp0_8 gp0_8 op0_8 1 vp0_8 (p0.rows.a1.map ic)) (hp0_9 : Rd w zp0_9 gp0_9 op0_9 1 vp0_9 (p0.rows.a2.map ic)) (hp0_10 : Rd w zp0_10 gp0_10 op0_10 1 vp0_10 (p0.rows.a3.map ic)) :
    Calls Try.prog 83 [.pointer (some ⟨bp0, 0, none⟩), .int .i64 p1, .int .i64 p2].toArray w fun e w' => ∃ v, e = .returned v ∧ (v = .int .i64 r ∧ Gr w w') := by
 have lt1 := hp0_7.lth
 have lt2 := hp0_8.lth
 have lt3 := hp0_9.lth
 have lt4 := hp0_10.lth
 have lt5 := hbp0.lt
 unfold plan_tables_below at hm
 refine calls_of_sw 43 Try.func83 rfl rfl rfl<|qs 1 rfl<|qm rfl<|sd_done<|sw_seq<|sw_seq ?_
 refine qg 6 rfl<|qm rfl<|qv rfl (vv_nilCheck rfl rfl)<|qv rfl (vv_fieldAddr fa_96_0 rfl)<|qv rfl (vv_fieldAddr fa_26_0 rfl)<|qv rfl (vv_load1 (v := bv p0.s.Kind) one_5 rfl hbp0 rfl)<|qv rfl (vv_eqlB (p := p0.s.Kind) (q := 2#8) rfl rfl) ?_
 refine sd_done<|sw_cond rfl (fun c1 => ?_) (fun c1 => ?_)
 · replace hm := iT c1 hm
   refine qs 1 rfl<|qm rfl<|qb ?_
   cases hm
   refine ⟨_, _, rfl, res_1 rfl (rv_tmp rfl), ?_⟩
   exact ⟨rfl, (Gr.refl w)⟩
 replace hm := iF c1 hm
 refine qu<|sw_seq<|dw [([])] [] (.leaf [(0,10),(1,10),(2,10),(3,10),(4,10),(5,10),(6,10),(7,10),(8,10),(9,10),(10,10),(11,10),(12,10),(13,10)]) ?_
 intro w1 G1 zw1
 refine sdz_leaf<|dm 0 rfl rfl<|dh 0 rfl rfl (fun w hS => vv_nilCheck rfl rfl)<|dh 0 rfl rfl (fun w hS => vv_fieldAddr fa_96_0 rfl)<|dh 0 rfl rfl (fun w hS => vv_fieldAddr fa_26_1 rfl) ?_
 have B6 := (hbp0.gr G1)
 refine dh 0 rfl rfl (fun w hS => vv_load1 (v := .int .i64 p0.s.Depth) one_3 rfl (Bx.kp B6 hS) rfl)<|dm 0 rfl rfl<|dh 0 rfl rfl (fun w hS => vv_sub (k := .i64) (a := p0.s.Depth) (b := p2) rfl rfl)<|dm 0 rfl rfl<|dh 0 rfl rfl (fun w hS => vv_nilCheck rfl rfl)<|dh 0 rfl rfl (fun w hS => vv_fieldAddr fa_96_1 rfl)<|dh 0 rfl rfl (fun w hS => vv_load1 (v := .int .i64 p0.stride) one_3 rfl (Bx.kp B6 hS) rfl) ?_
 obtain ⟨x1, hx1, hm⟩ := bnd hm
 refine dh 0 rfl rfl (fun w hS => vv_remI (a := w64 (p0.s.Depth - p2)) (b := p0.stride) rfl rfl hx1)<|dh 0 rfl rfl (fun w hS => vv_eql (a := x1) (b := 0) rfl rfl)<|dm 0 rfl rfl<|sd_done<|sw_seq<|sw_block ?_
 have X7 := ((Gr.refl w).trans G1)
 refine qj (β := Bool) (rg 27 6) (fun a2 => [(27, .bool a2)]) (fun a2 wr => (plan_tables_below_J1 p1 x1 a2 = some r) ∧ Kz [] w1 wr) ?_ ?_
 · refine qg 6 rfl<|qm rfl<|qv rfl (vv_eql (a := p1) (b := 0) rfl rfl)<|qp rfl (vv_move rfl) (fun c6 => ?_) (fun c6 => ?_)
   · replace hm := iT c6 hm
     refine qm rfl<|qm rfl<|qm rfl<|sd_nil ?_
     exact ⟨rfl, (decide (x1 = 0)), sbq, hm, kz0⟩
   replace hm := iF c6 hm
   refine qk rfl<|qm rfl<|qm rfl<|sd_nil ?_
   exact ⟨rfl, false, sbq, hm, kz0⟩
 clear hm; rintro a2 w2 ⟨hm, K2⟩
 have z8 := K2.size
 unfold plan_tables_below_J1 at hm
 refine sw_cond rfl (fun c2 => ?_) (fun c2 => ?_)
 · replace hm := cnd_t c2 hm
   refine qs 1 rfl<|qm rfl<|sd_done<|sw_ret<|block_r<|then_r ?_
   have X9 := (X7.kz K2)
   cases hm
   refine ⟨_, _, rfl, res_1 rfl (rv_tmp rfl), ?_⟩
   exact ⟨rfl, X9⟩
 replace hm := cnd_f c2 hm
 have X10 := (X7.kz K2)
 refine qj (β := Bool) (rg 33 6) (fun a3 => [(33, .bool a3)]) (fun a3 wr => (plan_tables_below_J2 p1 a3 = some r) ∧ Kz [] w2 wr) ?_ ?_
 · refine qg 6 rfl<|qm rfl<|qv rfl (vv_eql (a := p1) (b := 2) rfl rfl)<|qp rfl (vv_move rfl) (fun c5 => ?_) (fun c5 => ?_)
   · replace hm := iT c5 hm
     refine qm rfl<|qm rfl<|qm rfl<|sd_nil ?_
     exact ⟨rfl, (decide (x1 = 0)), sbq, hm, kz0⟩
   replace hm := iF c5 hm
   refine qk rfl<|qm rfl<|qm rfl<|sd_nil ?_
   exact ⟨rfl, false, sbq, hm, kz0⟩
 clear hm; rintro a3 w3 ⟨hm, K3⟩
 have z11 := K3.size
 unfold plan_tables_below_J2 at hm
 refine sw_cond rfl (fun c3 => ?_) (fun c3 => ?_)
 · replace hm := cnd_t c3 hm
   refine qs 1 rfl<|qm rfl<|sd_done<|sw_ret<|block_r<|then_r ?_
   have X12 := (X10.kz K3)
   cases hm
   refine ⟨_, _, rfl, res_1 rfl (rv_tmp rfl), ?_⟩
   exact ⟨rfl, X12⟩
 replace hm := cnd_f c3 hm
 refine qs 3 rfl<|qm rfl<|qv rfl (vv_eql (a := p1) (b := 0) rfl rfl)<|qm rfl<|sd_done<|sw_cond rfl (fun c4 => ?_) (fun c4 => ?_)
 · replace hm := iT c4 hm
   refine qs 1 rfl<|qm rfl<|sd_done<|sw_ret<|block_r<|then_r ?_
   have X13 := (X10.kz K3)
   cases hm
   refine ⟨_, _, rfl, res_1 rfl (rv_tmp rfl), ?_⟩
   exact ⟨rfl, X13⟩
 replace hm := iF c4 hm
 refine sw_skip<|block_n<|then_n<|qs 2 rfl<|qm rfl<|qm rfl ?_
 refine sd_done<|sw_ret ?_
 have X14 := (X10.kz K3)
 cases hm
 refine ⟨_, _, rfl, res_1 rfl (rv_tmp rfl), ?_⟩
 exact ⟨rfl, X14⟩
theorem plan_tables_value_w {p0 p1 p2 p3 p4 bp0 vp0_7 zp0_7 gp0_7 op0_7 vp0_8 zp0_8 gp0_8 op0_8 vp0_9 zp0_9 gp0_9 op0_9 vp0_10 zp0_10 gp0_10 op0_10 r} (hm : plan_tables_value p0 p1 p2 p3 p4 = some r) {w : World} (hbp0 : Bx w bp0 96 (Tplan_tables.cs p0 vp0_7 vp0_8 vp0_9 vp0_10)) (hp0_7 : Rd w zp0_7 gp0_7 op0_7 1 vp0_7 (p0.rows.a0.map ic)) (hp0_8 : Rd w zp0_8 gp0_8 op0_8 1 vp0_8 (p0.rows.a1.map ic)) (hp0_9 : Rd w zp0_9 gp0_9 op0_9 1 vp0_9 (p0.rows.a2.map ic)) (hp0_10 : Rd w zp0_10 gp0_10 op0_10 1 vp0_10 (p0.rows.a3.map ic)) :
    Calls Try.prog 110 [.pointer (some ⟨bp0, 0, none⟩), .int .i64 p1, .int .i64 p2, .int .i64 p3, .int .i64 p4].toArray w fun e w' => ∃ v, e = .returned v ∧ (v = .int .i64 r ∧ Gr w w') := by
 have lt1 := hp0_7.lth
 have lt2 := hp0_8.lth
 have lt3 := hp0_9.lth
 have lt4 := hp0_10.lth
 have lt5 := hbp0.lt
 unfold plan_tables_value at hm
 refine calls_of_sw 68 Try.func110 rfl rfl rfl<|qs 1 rfl<|qm rfl<|qd 5 rfl ?_
 refine qm rfl<|qm rfl<|qv rfl (vv_sub (k := .i64) (a := p2) (b := 1) rfl rfl) ?_
 obtain ⟨x1, hx1, hm⟩ := bnd hm
 refine qe rfl (eC en_48 rfl (plan_tables_at_w hx1 hbp0 hp0_7 hp0_8 hp0_9 hp0_10)) ?_
 rintro u1_r0_s w1 ⟨_, z1_r0_s, g1_r0_s, o1_r0_s, rfl, O1_r0_s, f1_r0_s, G1⟩
 have z6 := G1.size
 have lt7 := O1_r0_s.lth
 refine qm rfl<|sd_done<|sw_seq<|sw_block<|qs 7 rfl<|qm rfl ?_
 refine qv rfl (vv_nilCheck rfl rfl)<|qv rfl (vv_fieldAddr fa_96_0 rfl)<|qv rfl (vv_fieldAddr fa_26_0 rfl) ?_
 have B8 := (hbp0.gr G1)
 refine qv rfl (vv_load1 (v := bv p0.s.Kind) one_5 rfl B8 rfl)<|qv rfl (vv_eqlB (p := p0.s.Kind) (q := 1#8) rfl rfl)<|qm rfl<|sd_done<|sw_cond rfl (fun c1 => ?_) (fun c1 => ?_)
 · replace hm := iT c1 hm
   refine sw_seq<|dw [([])] [] (.leaf [(0,10),(1,10),(2,10),(3,10),(4,10),(5,10),(6,10),(7,10),(8,10),(9,10),(10,10),(11,10)]) ?_
   intro w2 G2 zw2
   refine sdz_leaf<|dm 0 rfl rfl<|dm 0 rfl rfl ?_
   obtain ⟨y2, hy2, hm⟩ := bnd hm
   have B9 := (O1_r0_s.gr G2)
   refine dh 0 rfl rfl (fun w hS => vv_ixT (i := p4) Try.underlying32 (one_3).siz rfl (Rd.kp B9 hS) rfl hy2)<|dh 0 rfl rfl (fun w hS => vv_el1T (q := 0) (u := .int .i64 y2) one_3 rfl (Rd.kp B9 hS) hy2 (by first | rfl | omega) rfl)<|dm 0 rfl rfl<|dm 0 rfl rfl<|dm 0 rfl rfl<|dh 0 rfl rfl (fun w hS => vv_sub (k := .i64) (a := p3) (b := p4) rfl rfl) ?_
   obtain ⟨y3, hy3, hm⟩ := bnd hm
   refine dh 0 rfl rfl (fun w hS => vv_ixT (i := w64 (p3 - p4)) Try.underlying32 (one_3).siz rfl (Rd.kp B9 hS) rfl hy3)<|dh 0 rfl rfl (fun w hS => vv_el1T (q := 0) (u := .int .i64 y3) one_3 rfl (Rd.kp B9 hS) hy3 (by first | rfl | omega) rfl)<|dh 0 rfl rfl (fun w hS => vv_add (k := .i64) (a := y2) (b := y3) rfl rfl)<|dm 0 rfl rfl<|sd_done<|sw_ret<|block_r ?_
   refine then_r ?_
   have X10 := (((Gr.refl w).trans G1).trans G2)
   cases hm
   refine ⟨_, _, rfl, res_1 rfl (rv_tmp rfl), ?_⟩
   exact ⟨rfl, X10⟩
 replace hm := iF c1 hm
 have X11 := ((Gr.refl w).trans G1)
 refine qj (β := Bool) (rg 34 8) (fun a4 => [(34, .bool a4)]) (fun a4 wr => (plan_tables_value_J1 p0 p1 p2 p3 p4 x1 a4 = some r) ∧ Kz [] w1 wr) ?_ ?_
 · refine qg 8 rfl<|qm rfl<|qv rfl (vv_gtr (a := p4) (b := 0) rfl rfl)<|qp rfl (vv_move rfl) (fun c3 => ?_) (fun c3 => ?_)
   · replace hm := iT c3 hm
     refine qm rfl<|qm rfl<|qv rfl (vv_lss (a := p4) (b := p3) rfl rfl)<|qm rfl<|qm rfl<|sd_nil ?_
     exact ⟨rfl, (decide (p4 < p3)), sbq, hm, kz0⟩
   replace hm := iF c3 hm
   refine qk rfl<|qk rfl<|qk rfl<|qm rfl<|qm rfl<|sd_nil ?_
   exact ⟨rfl, false, sbq, hm, kz0⟩
 clear hm; rintro a4 w3 ⟨hm, K3⟩
 have z12 := K3.size
 unfold plan_tables_value_J1 at hm
 refine cnF rfl (fun c2 => ?_) (fun c2 => ?_)
 · replace hm := cnd_f c2 hm
   refine sw_skip<|block_n<|then_n<|qs 12 rfl<|qm rfl<|qm rfl ?_
   refine qm rfl<|qm rfl ?_
   have B22 := (B8.kz K3)
   have B23 := ((hp0_7.gr G1).kz K3)
   have B24 := ((hp0_8.gr G1).kz K3)
   have B25 := ((hp0_9.gr G1).kz K3)
   have B26 := ((hp0_10.gr G1).kz K3)
   obtain ⟨x8, hx8, hm⟩ := bnd hm
   refine qe rfl (eC en_83 rfl (plan_tables_below_w hx8 B22 B23 B24 B25 B26)) ?_
   rintro _ w6 ⟨rfl, G6⟩
   have z27 := G6.size
   refine qm rfl<|qv rfl (vv_sub (k := .i64) (a := p2) (b := 1) rfl rfl) ?_
   have B28 := (B22.gr G6)
   have B29 := (B23.gr G6)
   have B30 := (B24.gr G6)
   have B31 := (B25.gr G6)
   have B32 := (B26.gr G6)
   obtain ⟨x9, hx9, hm⟩ := bnd hm
   refine qe rfl (eC en_48 rfl (plan_tables_at_w hx9 B28 B29 B30 B31 B32)) ?_
   rintro u7_r0_s w7 ⟨_, z7_r0_s, g7_r0_s, o7_r0_s, rfl, O7_r0_s, f7_r0_s, G7⟩
   have z33 := G7.size
   have lt34 := O7_r0_s.lth
   refine qm rfl ?_
   obtain ⟨y10, hy10, hm⟩ := bnd hm
   refine qv rfl (vv_ixT (i := p3) Try.underlying32 (one_3).siz rfl O7_r0_s rfl hy10)<|qv rfl (vv_el1T (q := 0) (u := .int .i64 y10) one_3 rfl O7_r0_s hy10 (by first | rfl | omega) rfl)<|qm rfl<|sd_done<|sw_ret ?_
   have X35 := (((X11.kz K3).trans G6).trans G7)
   cases hm
   refine ⟨_, _, rfl, res_1 rfl (rv_tmp rfl), ?_⟩
   exact ⟨rfl, X35⟩
 replace hm := cnd_t c2 hm
 refine sw_seq<|dw [([])] [] (.leaf [(0,10),(1,10),(2,10),(3,10),(4,10),(5,10),(6,10),(7,10),(8,10),(9,10),(10,10),(11,10),(12,10),(13,0),(14,10),(15,10)]) ?_
 intro w4 G4 zw4
 refine sdz_leaf<|dm 0 rfl rfl<|dm 0 rfl rfl ?_
 obtain ⟨y5, hy5, hm⟩ := bnd hm
 have B13 := ((O1_r0_s.kz K3).gr G4)
 refine dh 0 rfl rfl (fun w hS => vv_ixT (i := p4) Try.underlying32 (one_3).siz rfl (Rd.kp B13 hS) rfl hy5)<|dh 0 rfl rfl (fun w hS => vv_el1T (q := 0) (u := .int .i64 y5) one_3 rfl (Rd.kp B13 hS) hy5 (by first | rfl | omega) rfl)<|dm 0 rfl rfl<|dm 0 rfl rfl<|dm 0 rfl rfl<|dh 0 rfl rfl (fun w hS => vv_sub (k := .i64) (a := p3) (b := p4) rfl rfl) ?_
 obtain ⟨y6, hy6, hm⟩ := bnd hm
 refine dh 0 rfl rfl (fun w hS => vv_ixT (i := w64 (p3 - p4)) Try.underlying32 (one_3).siz rfl (Rd.kp B13 hS) rfl hy6)<|dh 0 rfl rfl (fun w hS => vv_el1T (q := 0) (u := .int .i64 y6) one_3 rfl (Rd.kp B13 hS) hy6 (by first | rfl | omega) rfl)<|dh 0 rfl rfl (fun w hS => vv_add (k := .i64) (a := y5) (b := y6) rfl rfl)<|dm 0 rfl rfl<|dm 0 rfl rfl ?_
 have B14 := ((B8.kz K3).gr G4)
 have B15 := (((hp0_7.gr G1).kz K3).gr G4)
 have B16 := (((hp0_8.gr G1).kz K3).gr G4)
 have B17 := (((hp0_9.gr G1).kz K3).gr G4)
 have B18 := (((hp0_10.gr G1).kz K3).gr G4)
 obtain ⟨x7, hx7, hm⟩ := bnd hm
 refine qz [] rfl (eC en_87 rfl (plan_tables_more_w hx7 B14 B15 B16 B17 B18)) ⟨fun _ => tk0, trivial⟩ ?_
 rintro _ w5 ⟨rfl, G5⟩
 have z19 := G5.size
 refine kG G5 ?_
 have S20 := ((Kp.refl ([]) w4).gr G5)
 refine qh 0 rfl rfl S20 (fun w hS => vv_add (k := .i64) (a := w64 (y5 + y6)) (b := x7) rfl rfl)<|dn 0 rfl rfl S20<|sd_done<|sw_ret<|block_r<|then_r ?_
 have X21 := (((X11.kz K3).trans G4).trans G5)
 cases hm
 refine ⟨_, _, rfl, res_1 rfl (rv_tmp rfl), ?_⟩
 exact ⟨rfl, X21⟩
theorem plan_tables_best_1_w {p0 p1_p p2 p3 p4 bp1 bp1_p vp1_p_7 zp1_p_7 gp1_p_7 op1_p_7 vp1_p_8 zp1_p_8 gp1_p_8 op1_p_8 vp1_p_9 zp1_p_9 gp1_p_9 op1_p_9 vp1_p_10 zp1_p_10 gp1_p_10 op1_p_10 bp2 bp3 bp4 r} (hm : plan_tables_best_1 p0 p1_p p2 p3 p4 = some r) {w : World} (hbp1_p : Bx w bp1_p 96 (Tplan_tables.cs p1_p vp1_p_7 vp1_p_8 vp1_p_9 vp1_p_10)) (hp1_p_7 : Rd w zp1_p_7 gp1_p_7 op1_p_7 1 vp1_p_7 (p1_p.rows.a0.map ic)) (hp1_p_8 : Rd w zp1_p_8 gp1_p_8 op1_p_8 1 vp1_p_8 (p1_p.rows.a1.map ic)) (hp1_p_9 : Rd w zp1_p_9 gp1_p_9 op1_p_9 1 vp1_p_9 (p1_p.rows.a2.map ic)) (hp1_p_10 : Rd w zp1_p_10 gp1_p_10 op1_p_10 1 vp1_p_10 (p1_p.rows.a3.map ic)) (hbp1 : Bx w bp1 83 [.pointer (some ⟨bp1_p, 0, none⟩)]) (hbp2 : Bx w bp2 3 ([.int .i64 p2])) (hbp3 : Bx w bp3 3 ([.int .i64 p3])) (hbp4 : Bx w bp4 3 ([.int .i64 p4])) :
    Calls Try.prog 109 [.int .i64 p0, .pointer (some ⟨bp1, 0, none⟩), .pointer (some ⟨bp2, 0, none⟩), .pointer (some ⟨bp3, 0, none⟩), .pointer (some ⟨bp4, 0, none⟩)].toArray w fun e w' => ∃ v, e = .returned v ∧ (v = .int .i64 r ∧ Gr w w') := by
 have lt1 := hp1_p_7.lth
 have lt2 := hp1_p_8.lth
 have lt3 := hp1_p_9.lth
 have lt4 := hp1_p_10.lth
 have lt5 := hbp1_p.lt
 have lt6 := hbp1.lt
 have lt7 := hbp2.lt
 have lt8 := hbp3.lt
 have lt9 := hbp4.lt
 unfold plan_tables_best_1 at hm
 refine calls_of_sw 13 Try.func109 rfl rfl rfl<|qs 1 rfl<|qm rfl<|qd 7 rfl ?_
 refine qv rfl (vv_load1 one_83 rfl hbp1 rfl)<|qv rfl (vv_load1 (v := .int .i64 p2) one_3 rfl hbp2 rfl)<|qv rfl (vv_load1 (v := .int .i64 p3) one_3 rfl hbp3 rfl)<|qv rfl (vv_load1 (v := .int .i64 p4) one_3 rfl hbp4 rfl)<|qm rfl ?_
 obtain ⟨x1, hx1, hm⟩ := bnd hm
 refine qe rfl (eC en_110 rfl (plan_tables_value_w hx1 hbp1_p hp1_p_7 hp1_p_8 hp1_p_9 hp1_p_10)) ?_
 rintro _ w1 ⟨rfl, G1⟩
 have z10 := G1.size
 refine qm rfl<|sd_done<|sw_ret ?_
 have X11 := ((Gr.refl w).trans G1)
 cases hm
 refine ⟨_, _, rfl, res_1 rfl (rv_tmp rfl), ?_⟩
 exact ⟨rfl, X11⟩
theorem plan_greatest_cbc1_plan_splits_1_plan_tables_best_1_w {p0_0 p0_1 p1_0_p p1_1 p1_2 p1_3 bp0_0 bp0_1 bp1_0 bp1_0_p vp1_0_p_7 zp1_0_p_7 gp1_0_p_7 op1_0_p_7 vp1_0_p_8 zp1_0_p_8 gp1_0_p_8 op1_0_p_8 vp1_0_p_9 zp1_0_p_9 gp1_0_p_9 op1_0_p_9 vp1_0_p_10 zp1_0_p_10 gp1_0_p_10 op1_0_p_10 bp1_1 bp1_2 bp1_3 r} (hm : plan_greatest_cbc1_plan_splits_1_plan_tables_best_1 p0_0 p0_1 p1_0_p p1_1 p1_2 p1_3 = some r) {w : World} (hbp0_0 : Bx w bp0_0 3 ([.int .i64 p0_0])) (hbp0_1 : Bx w bp0_1 3 ([.int .i64 p0_1])) (hbp1_0_p : Bx w bp1_0_p 96 (Tplan_tables.cs p1_0_p vp1_0_p_7 vp1_0_p_8 vp1_0_p_9 vp1_0_p_10)) (hp1_0_p_7 : Rd w zp1_0_p_7 gp1_0_p_7 op1_0_p_7 1 vp1_0_p_7 (p1_0_p.rows.a0.map ic)) (hp1_0_p_8 : Rd w zp1_0_p_8 gp1_0_p_8 op1_0_p_8 1 vp1_0_p_8 (p1_0_p.rows.a1.map ic)) (hp1_0_p_9 : Rd w zp1_0_p_9 gp1_0_p_9 op1_0_p_9 1 vp1_0_p_9 (p1_0_p.rows.a2.map ic)) (hp1_0_p_10 : Rd w zp1_0_p_10 gp1_0_p_10 op1_0_p_10 1 vp1_0_p_10 (p1_0_p.rows.a3.map ic)) (hbp1_0 : Bx w bp1_0 83 [.pointer (some ⟨bp1_0_p, 0, none⟩)]) (hbp1_1 : Bx w bp1_1 3 ([.int .i64 p1_1])) (hbp1_2 : Bx w bp1_2 3 ([.int .i64 p1_2])) (hbp1_3 : Bx w bp1_3 3 ([.int .i64 p1_3])) :
    Calls Try.prog 74 [.func (.func 131) [].toArray [.pointer (some ⟨bp0_0, 0, none⟩), .pointer (some ⟨bp0_1, 0, none⟩)].toArray, .func (.func 109) [].toArray [.pointer (some ⟨bp1_0, 0, none⟩), .pointer (some ⟨bp1_1, 0, none⟩), .pointer (some ⟨bp1_2, 0, none⟩), .pointer (some ⟨bp1_3, 0, none⟩)].toArray].toArray w fun e w' => ∃ v, e = .returned v ∧ (v = .tuple [.int .i64 r.1, .int .i64 r.2].toArray ∧ Gr w w') := by
 have lt1 := hbp0_0.lt
 have lt2 := hbp0_1.lt
 have lt3 := hp1_0_p_7.lth
 have lt4 := hp1_0_p_8.lth
 have lt5 := hp1_0_p_9.lth
 have lt6 := hp1_0_p_10.lth
 have lt7 := hbp1_0_p.lt
 have lt8 := hbp1_0.lt
 have lt9 := hbp1_1.lt
 have lt10 := hbp1_2.lt
 have lt11 := hbp1_3.lt
 unfold plan_greatest_cbc1_plan_splits_1_plan_tables_best_1 at hm
 refine calls_of_sw 24 Try.func74 rfl rfl rfl<|qs 3 rfl<|qe rfl (ev_box rfl rfl) ?_
 rintro _ w1 ⟨b1, rfl, hbw1, Bw1, G1⟩
 have z12 := G1.size
 have lt13 := Bw1.lt
 refine qe rfl (ev_alloc (cs := [.int .i64 0]) zv_3 rfl) ?_
 rintro _ w2 ⟨b2, rfl, hbw2, Bw2, G2⟩
 have z14 := G2.size
 have lt15 := Bw2.lt
 refine qe rfl (ev_alloc (cs := [.int .i64 0]) zv_3 rfl) ?_
 rintro _ w3 ⟨b3, rfl, hbw3, Bw3, G3⟩
 have z16 := G3.size
 have lt17 := Bw3.lt
 refine qd 2 rfl<|qe rfl (ev_alloc (cs := [.bool false]) zv_4 rfl) ?_
 rintro _ w4 ⟨b4, rfl, hbw4, Bw4, G4⟩
 have z18 := G4.size
 have lt19 := Bw4.lt
 refine qe rfl (ev_st1 (cs' := [.bool true]) (one_4).siz rfl rfl rfl Bw4 rfl rfl) ?_
 rintro _ w5 ⟨Bw5, M5⟩
 have z20 := M5.size
 refine sd_done<|sw_seq<|qs 1 rfl<|qm rfl<|sd_done<|sw_block ?_
 have Y1 := Gr.trans (Gr.trans (Gr.trans G1 G2) G3) G4
 have B21 := ((hbp0_0.gr Y1).md M5)
 have B22 := ((hbp0_1.gr Y1).md M5)
 obtain ⟨l1, hl1, hm⟩ := bnd hm
 have X23 := (((Gr.refl w).trans Y1).md M5)
 have B24 := ((hp1_0_p_7.gr Y1).md M5 (pb_lt lt3))
 have B25 := ((hp1_0_p_8.gr Y1).md M5 (pb_lt lt4))
 have B26 := ((hp1_0_p_9.gr Y1).md M5 (pb_lt lt5))
 have B27 := ((hp1_0_p_10.gr Y1).md M5 (pb_lt lt6))
 have B28 := ((hbp1_0_p.gr Y1).md M5)
 have B29 := ((hbp1_0.gr Y1).md M5)
 have B30 := ((hbp1_1.gr Y1).md M5)
 have B31 := ((hbp1_2.gr Y1).md M5)
 have B32 := ((hbp1_3.gr Y1).md M5)
 have Y2 := Gr.trans (Gr.trans G2 G3) G4
 have B33 := ((Bw1.gr Y2).md M5)
 have Y3 := Gr.trans G3 G4
 have B34 := ((Bw2.gr Y3).md M5)
 have B35 := ((Bw3.gr G4).md M5)
 refine sw_rangeFunc (gf := 131) rfl en_131 (plan_splits_1_it p0_0 p0_1 _ _ _ hl1 _ B21 B22) (by intro x hx; obtain ⟨a, _, rfl⟩ := List.mem_map.1 hx; rfl) rfl _ (fun _ _ _ _ => False) ([b2, b3, b4]) (stb_mk (α := Int × Int × Bool) (fun ⟨a5, a6, a7⟩ rk => itL (plan_greatest_cbc1_plan_splits_1_plan_tables_best_1_R1 p1_0_p p1_1 p1_2 p1_3) plan_greatest_cbc1_plan_splits_1_plan_tables_best_1_D1 (List.drop rk l1) (a5, a6, a7) = some r) (fun ⟨a5, a6, a7⟩ => ([b2, b3, b4])) (fun ⟨a5, a6, a7⟩ W => Bx W b2 3 ([.int .i64 a5]) ∧ Bx W b3 3 ([.int .i64 a6]) ∧ Bx W b4 4 ([.bool a7]) ∧ True) (by rintro ⟨a5, a6, a7⟩ W ⟨F0, F1, F2, _⟩ b hb; have q0 := F0.lt; have q1 := F1.lt; have q2 := F2.lt; replace hb : b ∈ ([b2, b3, b4]) := hb; simp only [List.mem_cons, List.mem_append, mem_zf, List.not_mem_nil, or_false, false_or, not_or, ne_eq, List.nil_append, List.cons_append, true_and, and_true, false_and, and_false, not_true_eq_false, not_false_eq_true, or_true, true_or] at hb; omega) (by rintro ⟨a5, a6, a7⟩ W W' ⟨F0, F1, F2, _⟩ E hs; replace hs : ∀ b ∈ ([b2, b3, b4]), W'.heap[b]? = W.heap[b]? := hs; exact ⟨(hs _ (by simp)).trans F0, (hs _ (by simp)).trans F1, (hs _ (by simp)).trans F2, trivial⟩)) (fun _ => stb_false) (by intro b hb; simp only [List.mem_cons, List.mem_append, mem_zf, List.not_mem_nil, or_false, false_or, not_or, ne_eq, List.nil_append, List.cons_append, true_and, and_true, false_and, and_false, not_true_eq_false, not_false_eq_true, or_true, true_or] at hb ⊢; omega) ⟨⟨0, 0, true⟩, hm, rfl, B34, B35, Bw5, trivial⟩ ?_ ?_ ?_
 · rintro l rk x fp w6 hl hx _ K6 hF hln hlt
   clear hm
   obtain ⟨e8, hxe, rfl⟩ := map_some hx
   have Zw6 : Kz [(1, b2), (1, b3), (1, b4)] w5 w6 := kz_of_kp K6 (by intro k hk; simp only [Nin, and_true, List.mem_cons, List.mem_append, mem_zf, List.not_mem_nil, or_false, false_or, not_or, ne_eq, List.nil_append, List.cons_append, true_and, and_true, false_and, and_false, not_true_eq_false, not_false_eq_true, or_true, true_or] at hk ⊢; omega)
   have z36 := K6.size
   refine qg 1 rfl<|qm rfl<|sd_nil<|⟨rfl, (Gr.refl _), ?_⟩
   rintro w7 M7 ⟨⟨a5, a6, a7⟩, hm, rfl, Fw7_0, Fw7_1, Fw7_2, -⟩
   have z37 := M7.size
   have lt38 := Fw7_0.lt
   have lt39 := Fw7_1.lt
   have lt40 := Fw7_2.lt
   replace hm := itL_at hm hxe
   generalize hnx1 : itL (plan_greatest_cbc1_plan_splits_1_plan_tables_best_1_R1 p1_0_p p1_1 p1_2 p1_3) plan_greatest_cbc1_plan_splits_1_plan_tables_best_1_D1 (List.drop (rk + 1) l1) = nx1 at hm
   unfold plan_greatest_cbc1_plan_splits_1_plan_tables_best_1_R1 at hm
   try dsimp only at hm
   refine sw_block<|qs 4 rfl ?_
   have B41 := ((B33.kz Zw6).md M7)
   refine qv rfl (vv_load1 one_131 rfl B41 rfl)<|qm rfl ?_
   have B42 := ((B28.kz Zw6).md M7)
   have B43 := ((B24.kz Zw6 (tk3 (pb_lt (b := b2) lt3) (pb_lt (b := b3) lt3) (pb_lt (b := b4) lt3))).md M7 (pb_lt lt3))
   have B44 := ((B25.kz Zw6 (tk3 (pb_lt (b := b2) lt4) (pb_lt (b := b3) lt4) (pb_lt (b := b4) lt4))).md M7 (pb_lt lt4))
   have B45 := ((B26.kz Zw6 (tk3 (pb_lt (b := b2) lt5) (pb_lt (b := b3) lt5) (pb_lt (b := b4) lt5))).md M7 (pb_lt lt5))
   have B46 := ((B27.kz Zw6 (tk3 (pb_lt (b := b2) lt6) (pb_lt (b := b3) lt6) (pb_lt (b := b4) lt6))).md M7 (pb_lt lt6))
   have B47 := ((B29.kz Zw6).md M7)
   have B48 := ((B30.kz Zw6).md M7)
   have B49 := ((B31.kz Zw6).md M7)
   have B50 := ((B32.kz Zw6).md M7)
   obtain ⟨x9, hx9, hm⟩ := bnd hm
   refine qe rfl (ev_callV en_109 rfl rfl (plan_tables_best_1_w hx9 B42 B43 B44 B45 B46 B47 B48 B49 B50)) ?_
   rintro _ w8 ⟨rfl, G8⟩
   have z51 := G8.size
   refine qm rfl<|sd_done ?_
   have X52 := (((X23.kz Zw6).md M7).trans G8)
   refine qj (β := Bool) (rg 14 6) (fun a10 => [(19, .bool a10)]) (fun a10 wr => (plan_greatest_cbc1_plan_splits_1_plan_tables_best_1_J2 a5 a6 a7 nx1 e8 x9 a10 = some r) ∧ Kz [] w8 wr) ?_ ?_
   · refine qg 6 rfl ?_
     have B67 := (Fw7_2.gr G8)
     refine qv rfl (vv_load1 (v := .bool a7) one_4 rfl B67 rfl)<|qp rfl (vv_move rfl) (fun c2 => ?_) (fun c2 => ?_)
     · replace hm := cnd_t c2 hm
       refine qk rfl<|qk rfl<|qk rfl<|qm rfl<|sd_nil ?_
       exact ⟨rfl, true, sbq, hm, kz0⟩
     replace hm := cnd_f c2 hm
     refine qm rfl ?_
     have B69 := (Fw7_0.gr G8)
     refine qv rfl (vv_load1 (v := .int .i64 a5) one_3 rfl B69 rfl)<|qv rfl (vv_gtr (a := x9) (b := a5) rfl rfl)<|qm rfl<|sd_nil ?_
     exact ⟨rfl, (decide (a5 < x9)), sbq, hm, kz0⟩
   clear hm; rintro a10 w9 ⟨hm, K9⟩
   have z53 := K9.size
   unfold plan_greatest_cbc1_plan_splits_1_plan_tables_best_1_J2 at hm
   refine cnF rfl (fun c1 => ?_) (fun c1 => ?_)
   · replace hm := cnd_f c1 hm
     refine sw_skip<|block_n ?_
     have B64 := ((Fw7_0.gr G8).kz K9)
     have B65 := ((Fw7_1.gr G8).kz K9)
     have B66 := ((Fw7_2.gr G8).kz K9)
     have K_63 : Kz [(1, b2), (1, b3), (1, b4)] w7 w9 := ((Kz.gr (Kz.refl _ _) G8).kz K9)
     have Kq63 : Kp ([b2, b3, b4]) w7 w9 := kp_of_kz K_63 (by intro k hk; simp only [Nin, and_true, List.mem_cons, List.mem_append, mem_zf, List.not_mem_nil, or_false, false_or, not_or, ne_eq, List.nil_append, List.cons_append, true_and, and_true, false_and, and_false, not_true_eq_false, not_false_eq_true, or_true, true_or] at hk ⊢; omega)
     subst hnx1
     exact ⟨Kq63, ([b2, b3, b4]), (by intro c hc; simp only [List.mem_cons, List.mem_append, mem_zf, List.not_mem_nil, or_false, false_or, not_or, ne_eq, List.nil_append, List.cons_append, true_and, and_true, false_and, and_false, not_true_eq_false, not_false_eq_true, or_true, true_or] at hc ⊢; omega), ⟨⟨a5, a6, a7⟩, hm, rfl, B64, B65, B66, trivial⟩⟩
   replace hm := cnd_t c1 hm
   refine qg 5 rfl<|qm rfl<|qm rfl ?_
   have B54 := ((Fw7_0.gr G8).kz K9)
   refine qe rfl (ev_st1 (cs' := [.int .i64 x9]) (one_3).siz rfl rfl rfl B54 rfl rfl) ?_
   rintro _ w10 ⟨Bw10, M10⟩
   have z55 := M10.size
   have B56 := (((Fw7_1.gr G8).kz K9).md M10)
   refine qe rfl (ev_st1 (cs' := [.int .i64 e8]) (one_3).siz rfl rfl rfl B56 rfl rfl) ?_
   rintro _ w11 ⟨Bw11, M11⟩
   have z57 := M11.size
   have B58 := ((((Fw7_2.gr G8).kz K9).md M10).md M11)
   refine qe rfl (ev_st1 (cs' := [.bool false]) (one_4).siz rfl rfl rfl B58 rfl rfl) ?_
   rintro _ w12 ⟨Bw12, M12⟩
   have z59 := M12.size
   refine sd_nil<|block_n ?_
   have B61 := ((Bw10.md M11).md M12)
   have B62 := (Bw11.md M12)
   have K_60 : Kz [(1, b2), (1, b3), (1, b4)] w7 w12 := (((((Kz.gr (Kz.refl _ _) G8).kz K9).md M10).md M11).md M12)
   have Kq60 : Kp ([b2, b3, b4]) w7 w12 := kp_of_kz K_60 (by intro k hk; simp only [Nin, and_true, List.mem_cons, List.mem_append, mem_zf, List.not_mem_nil, or_false, false_or, not_or, ne_eq, List.nil_append, List.cons_append, true_and, and_true, false_and, and_false, not_true_eq_false, not_false_eq_true, or_true, true_or] at hk ⊢; omega)
   subst hnx1
   exact ⟨Kq60, ([b2, b3, b4]), (by intro c hc; simp only [List.mem_cons, List.mem_append, mem_zf, List.not_mem_nil, or_false, false_or, not_or, ne_eq, List.nil_append, List.cons_append, true_and, and_true, false_and, and_false, not_true_eq_false, not_false_eq_true, or_true, true_or] at hc ⊢; omega), ⟨⟨x9, e8, false⟩, hm, rfl, B61, B62, Bw12, trivial⟩⟩
 · clear hm; rintro Dw13 fp w13 hDw13 Dfw13 nw13 ⟨⟨a5, a6, a7⟩, hm, rfl, Fw13_0, Fw13_1, Fw13_2, -⟩ K13
   replace hm := itL_end hm
   have Zw13 : Kz [(1, b2), (1, b3), (1, b4)] w5 w13 := kz_of_kp K13 (by intro k hk; simp only [Nin, and_true, List.mem_cons, List.mem_append, mem_zf, List.not_mem_nil, or_false, false_or, not_or, ne_eq, List.nil_append, List.cons_append, true_and, and_true, false_and, and_false, not_true_eq_false, not_false_eq_true, or_true, true_or] at hk ⊢; omega)
   have z71 := K13.size
   have lt72 := Df.lt (w := w13) Dfw13
   simp only [List.mem_cons, List.mem_append, mem_zf, List.not_mem_nil, or_false, false_or, not_or, ne_eq, List.nil_append, List.cons_append, true_and, and_true, false_and, and_false, not_true_eq_false, not_false_eq_true, or_true, true_or, not_and] at nw13
   have lt73 := Fw13_0.lt
   have lt74 := Fw13_1.lt
   have lt75 := Fw13_2.lt
   unfold plan_greatest_cbc1_plan_splits_1_plan_tables_best_1_D1 at hm
   try dsimp only at hm
   refine block_n<|then_n<|sw_seq<|dw [([b2, b3]),([b3]),([b2])] [(2, [1]),(3, [2])] (.leaf [(0,11),(1,12),(2,0),(3,0)]) ?_
   intro w14 G14 zw14
   refine sdz_leaf ?_
   have B76 := (Fw13_0.gr G14)
   refine dh 1 rfl rfl (fun w hS => vv_load1 (v := .int .i64 a5) one_3 rfl (Bx.kp B76 hS) rfl) ?_
   have B77 := (Fw13_1.gr G14)
   refine dh 2 rfl rfl (fun w hS => vv_load1 (v := .int .i64 a6) one_3 rfl (Bx.kp B77 hS) rfl)<|qz [(1, b2)] rfl (ev_st1 (cs' := [.int .i64 a5]) (one_3).siz rfl rfl rfl B76 rfl rfl) ⟨fun _ => tk0, nofun, fun _ => tk0, trivial⟩ ?_
   rintro _ w15 ⟨Bw15, M15⟩
   have z78 := M15.size
   refine kM M15 ?_
   have B79 := (B77.md M15)
   refine qz [(1, b3)] rfl (ev_st1 (cs' := [.int .i64 a6]) (one_3).siz rfl rfl rfl B79 rfl rfl) ⟨fun _ => tk0, fun _ => tk0, nofun, trivial⟩ ?_
   rintro _ w16 ⟨Bw16, M16⟩
   have z80 := M16.size
   refine kM M16<|sd_done<|sw_ret ?_
   have DL81 := (Df.md (Df.md (Df.gr Dfw13 G14) M15) M16)
   have L81 := Md.put (w := w16) Dw13 (.deferred none)
   have zL81 := L81.size
   have B82 := ((Bw15.md M16).md L81)
   have B83 := (Bw16.md L81)
   have X84 : Gr w (w16.putObj Dw13 (.deferred none)) := (((((X23.kz Zw13).trans G14).md M15).md M16).md L81)
   cases hm
   refine ⟨_, _, ⟨Dw13, rfl, DL81, rfl⟩, res_2 rfl (rv_cell1 one_3 rfl B82) (rv_cell1 one_3 rfl B83), ?_⟩
   exact ⟨rfl, X84⟩
 rintro _ _ _ _ _ _ _ _ _ h _
 exact h.elim
theorem plan_tables_best_w {p0 p1 p2 p3 bp0 vp0_7 zp0_7 gp0_7 op0_7 vp0_8 zp0_8 gp0_8 op0_8 vp0_9 zp0_9 gp0_9 op0_9 vp0_10 zp0_10 gp0_10 op0_10 r} (hm : plan_tables_best p0 p1 p2 p3 = some r) {w : World} (hbp0 : Bx w bp0 96 (Tplan_tables.cs p0 vp0_7 vp0_8 vp0_9 vp0_10)) (hp0_7 : Rd w zp0_7 gp0_7 op0_7 1 vp0_7 (p0.rows.a0.map ic)) (hp0_8 : Rd w zp0_8 gp0_8 op0_8 1 vp0_8 (p0.rows.a1.map ic)) (hp0_9 : Rd w zp0_9 gp0_9 op0_9 1 vp0_9 (p0.rows.a2.map ic)) (hp0_10 : Rd w zp0_10 gp0_10 op0_10 1 vp0_10 (p0.rows.a3.map ic)) :
    Calls Try.prog 82 [.pointer (some ⟨bp0, 0, none⟩), .int .i64 p1, .int .i64 p2, .int .i64 p3].toArray w fun e w' => ∃ v, e = .returned v ∧ (v = .tuple [.int .i64 r.1, .int .i64 r.2].toArray ∧ Gr w w') := by
 have lt1 := hp0_7.lth
 have lt2 := hp0_8.lth
 have lt3 := hp0_9.lth
 have lt4 := hp0_10.lth
 have lt5 := hbp0.lt
 unfold plan_tables_best at hm
 refine calls_of_sw 17 Try.func82 rfl rfl rfl<|qs 6 rfl<|qe rfl (ev_box rfl rfl) ?_
 rintro _ w1 ⟨b1, rfl, hbw1, Bw1, G1⟩
 have z6 := G1.size
 have lt7 := Bw1.lt
 refine qe rfl (ev_box (cs := [.int .i64 p1]) rfl rfl) ?_
 rintro _ w2 ⟨b2, rfl, hbw2, Bw2, G2⟩
 have z8 := G2.size
 have lt9 := Bw2.lt
 refine qe rfl (ev_box (cs := [.int .i64 p2]) rfl rfl) ?_
 rintro _ w3 ⟨b3, rfl, hbw3, Bw3, G3⟩
 have z10 := G3.size
 have lt11 := Bw3.lt
 refine qe rfl (ev_box (cs := [.int .i64 p3]) rfl rfl) ?_
 rintro _ w4 ⟨b4, rfl, hbw4, Bw4, G4⟩
 have z12 := G4.size
 have lt13 := Bw4.lt
 refine qm rfl<|qm rfl<|qd 9 rfl ?_
 have B14 := (Bw3.gr G4)
 refine qv rfl (vv_load1 (v := .int .i64 p2) one_3 rfl B14 rfl)<|qv rfl (vv_load1 (v := .int .i64 p3) one_3 rfl Bw4 rfl) ?_
 obtain ⟨x1, hx1, hm⟩ := bnd hm
 refine qe rfl (eC en_108 rfl (plan_splits_w hx1)) ?_
 rintro _ w5 ⟨k5_c0_0, k5_c0_1, rfl, O5_c0_0, f5_c0_0, O5_c0_1, f5_c0_1, G5⟩
 have z15 := G5.size
 have lt16 := O5_c0_0.lt
 have lt17 := O5_c0_1.lt
 refine qv rfl (vv_makeFunc rfl rfl) ?_
 have Y1 := Gr.trans (Gr.trans (Gr.trans (Gr.trans G1 G2) G3) G4) G5
 have B18 := (hbp0.gr Y1)
 have B19 := (hp0_7.gr Y1)
 have B20 := (hp0_8.gr Y1)
 have B21 := (hp0_9.gr Y1)
 have B22 := (hp0_10.gr Y1)
 have Y2 := Gr.trans (Gr.trans (Gr.trans G2 G3) G4) G5
 have B23 := (Bw1.gr Y2)
 have Y3 := Gr.trans (Gr.trans G3 G4) G5
 have B24 := (Bw2.gr Y3)
 have B25 := (B14.gr G5)
 have B26 := (Bw4.gr G5)
 obtain ⟨x2, hx2, hm⟩ := bnd hm
 refine qe rfl (eC en_74 rfl (plan_greatest_cbc1_plan_splits_1_plan_tables_best_1_w hx2 O5_c0_0 O5_c0_1 B18 B19 B20 B21 B22 B23 B24 B25 B26)) ?_
 rintro _ w6 ⟨rfl, G6⟩
 have z27 := G6.size
 refine qm rfl<|qm rfl<|qm rfl<|qm rfl<|sd_done<|sw_ret ?_
 have X28 := (((Gr.refl w).trans Y1).trans G6)
 cases hm
 refine ⟨_, _, rfl, res_2 rfl (rv_tmp rfl) (rv_tmp rfl), ?_⟩
 exact ⟨rfl, X28⟩
theorem plan_newTables_w {p0 r} (hm : plan_newTables p0 = some r) {w : World} :
    Calls Try.prog 46 [.agg (TScheme.cs p0).toArray].toArray w fun e w' => ∃ v, e = .returned v ∧ (∃ bc0 uc0_7 zc0_7 gc0_7 uc0_8 zc0_8 gc0_8 uc0_9 zc0_9 gc0_9 uc0_10 zc0_10 gc0_10, v = .pointer (some ⟨bc0, 0, none⟩) ∧ Bx w' bc0 96 (Tplan_tables.cs r uc0_7 uc0_8 uc0_9 uc0_10) ∧ (w.heap.size ≤ bc0) ∧ Own w' zc0_7 gc0_7 3 1 uc0_7 (r.rows.a0.map ic) ∧ Hdn (zc0_7 = 0 ∨ w.heap.size ≤ gc0_7) ∧ Hdn (zc0_7 = 0 ∨ gc0_7 ≠ bc0) ∧ Own w' zc0_8 gc0_8 3 1 uc0_8 (r.rows.a1.map ic) ∧ Hdn (zc0_8 = 0 ∨ w.heap.size ≤ gc0_8) ∧ Hdn (zc0_8 = 0 ∨ gc0_8 ≠ bc0) ∧ Own w' zc0_9 gc0_9 3 1 uc0_9 (r.rows.a2.map ic) ∧ Hdn (zc0_9 = 0 ∨ w.heap.size ≤ gc0_9) ∧ Hdn (zc0_9 = 0 ∨ gc0_9 ≠ bc0) ∧ Own w' zc0_10 gc0_10 3 1 uc0_10 (r.rows.a3.map ic) ∧ Hdn (zc0_10 = 0 ∨ w.heap.size ≤ gc0_10) ∧ Hdn (zc0_10 = 0 ∨ gc0_10 ≠ bc0) ∧ Hdn (zc0_8 = 0 ∨ zc0_7 = 0 ∨ gc0_8 ≠ gc0_7) ∧ Hdn (zc0_9 = 0 ∨ zc0_7 = 0 ∨ gc0_9 ≠ gc0_7) ∧ Hdn (zc0_9 = 0 ∨ zc0_8 = 0 ∨ gc0_9 ≠ gc0_8) ∧ Hdn (zc0_10 = 0 ∨ zc0_7 = 0 ∨ gc0_10 ≠ gc0_7) ∧ Hdn (zc0_10 = 0 ∨ zc0_8 = 0 ∨ gc0_10 ≠ gc0_8) ∧ Hdn (zc0_10 = 0 ∨ zc0_9 = 0 ∨ gc0_10 ≠ gc0_9) ∧ Gr w w') := by
 unfold plan_newTables at hm
 refine calls_of_sw 116 Try.func46 rfl rfl rfl<|qs 2 rfl<|qe rfl (ev_box (cs := TScheme.cs p0) rfl rfl) ?_
 rintro _ w1 ⟨b1, rfl, hbw1, Bw1, G1⟩
 have z1 := G1.size
 have lt2 := Bw1.lt
 refine qm rfl<|sd_done<|sw_seq<|dw [([])] [] (.leaf [(0,10),(1,10),(2,10),(4,10),(5,10),(6,10),(7,10),(3,0),(8,10),(9,0),(10,10)]) ?_
 intro w2 G2 zw2
 refine sdz_leaf ?_
 have B3 := (Bw1.gr G2)
 refine dh 0 rfl rfl (fun w hS => vv_loadW agg_26 rfl (Bx.kp B3 hS) rfl)<|dh 0 rfl rfl (fun w hS => vv_fieldAddr fa_26_1 rfl)<|dh 0 rfl rfl (fun w hS => vv_load1 (v := .int .i64 p0.Depth) one_3 rfl (Bx.kp B3 hS) rfl)<|dh 0 rfl rfl (fun w hS => vv_buildA (cs := TA4_i64.cs (TA4_i64.mk 0 1 2 4)) ba_141 rfl rfl)<|dh 0 rfl rfl (fun w hS => vv_fieldAddr fa_26_0 rfl)<|dh 0 rfl rfl (fun w hS => vv_load1 (v := bv p0.Kind) one_5 rfl (Bx.kp B3 hS) rfl) ?_
 obtain ⟨y1, hy1, hm⟩ := bnd hm
 refine dh 0 rfl rfl (fun w hS => vv_ixV1 (l := [0, 1, 2, 4]) (c := ic) (i := un8 p0.Kind) Try.underlying141 (one_3).siz one_3 rfl rfl rfl (ws_map _ (fun _ => rfl) (fun _ => rfl)) rfl hy1 rfl) ?_
 obtain ⟨x2, hx2, hm⟩ := bnd hm
 refine qz [] rfl (eC en_86 rfl (plan_stride_w hx2)) ⟨fun _ => tk0, trivial⟩ ?_
 rintro _ w3 ⟨rfl, G3⟩
 have z4 := G3.size
 refine kG G3 ?_
 have S5 := ((Kp.refl ([]) w2).gr G3)
 refine qh 0 rfl rfl S5 (fun w hS => vv_build (cs := Tplan_tables.cs (Tplan_tables.mk p0 x2 (TA4_slice.mk [] [] [] []) y1) (.slice none 0 0) (.slice none 0 0) (.slice none 0 0) (.slice none 0 0)) bs_96 rfl (fill_M rfl rfl rfl (fill_M rfl rfl rfl (fill_M rfl rfl rfl rfl))))<|qz [] rfl (ev_box (cs := Tplan_tables.cs (Tplan_tables.mk p0 x2 (TA4_slice.mk [] [] [] []) y1) (.slice none 0 0) (.slice none 0 0) (.slice none 0 0) (.slice none 0 0)) rfl rfl) ⟨fun _ => tk0, trivial⟩ ?_
 rintro _ w4 ⟨b4, rfl, hbw4, Bw4, G4⟩
 have z6 := G4.size
 have lt7 := Bw4.lt
 refine kG G4 ?_
 have S8 := (S5.gr G4)
 refine dn 0 rfl rfl S8<|sd_done<|sw_seq<|dw [([])] [] (.leaf [(0,10),(1,10),(2,10),(3,10),(4,10),(5,10),(6,10),(7,10),(8,10),(9,10)]) ?_
 intro w5 G5 zw5
 refine sdz_leaf<|dh 0 rfl rfl (fun w hS => vv_fieldAddr fa_26_1 rfl) ?_
 have B9 := (((B3.gr G3).gr G4).gr G5)
 refine dh 0 rfl rfl (fun w hS => vv_load1 (v := .int .i64 p0.Depth) one_3 rfl (Bx.kp B9 hS) rfl)<|dh 0 rfl rfl (fun w hS => vv_add (k := .i64) (a := p0.Depth) (b := 1) rfl rfl) ?_
 obtain ⟨nn3, hnn3, hm⟩ := bnd hm
 refine dh 0 rfl rfl (fun w hS => vv_shlI (a := 1) (b := (w64 (p0.Depth + 1))) rfl rfl hnn3)<|dh 0 rfl rfl (fun w hS => vv_sub (k := .i64) (a := shlI 1 nn3) (b := 1) rfl rfl)<|dh 0 rfl rfl (fun w hS => vv_fieldAddr fa_26_1 rfl)<|dh 0 rfl rfl (fun w hS => vv_load1 (v := .int .i64 p0.Depth) one_3 rfl (Bx.kp B9 hS) rfl)<|dh 0 rfl rfl (fun w hS => vv_add (k := .i64) (a := w64 ((shlI 1 nn3) - 1)) (b := p0.Depth) rfl rfl)<|dh 0 rfl rfl (fun w hS => vv_add (k := .i64) (a := w64 ((w64 ((shlI 1 nn3) - 1)) + p0.Depth)) (b := 1) rfl rfl)<|dm 0 rfl rfl ?_
 refine sd_done<|sw_seq<|qs 5 rfl<|qm rfl<|qv rfl (vv_nilCheck rfl rfl)<|qv rfl (vv_fieldAddr fa_96_3 rfl) ?_
 have B10 := (Bw4.gr G5)
 refine qv rfl (vv_load1 (v := .int .i64 y1) one_3 rfl B10 rfl)<|qm rfl<|sd_done<|sw_block ?_
 have X11 := ((((((Gr.refl w).trans G1).trans G2).trans G3).trans G4).trans G5)
 refine sw_loopD (α := Nat × Int × List Int × List Int × List Int × List Int × Value × Nat × Nat × Value × Nat × Nat × Value × Nat × Nat × Value × Nat × Nat) ([5] ++ rg 33 11) (fun ⟨n1, a16, a17, a18, a19, a20, vy21, zy21, gy21, vy22, zy22, gy22, vy23, zy23, gy23, vy24, zy24, gy24⟩ => [(33, .int .i64 a16)]) (fun ⟨n1, a16, a17, a18, a19, a20, vy21, zy21, gy21, vy22, zy22, gy22, vy23, zy23, gy23, vy24, zy24, gy24⟩ wr => (fixN (plan_newTables_L1 p0 y1 x2 nn3) n1 (a16, a17, a18, a19, a20) = some r) ∧ Own wr zy21 gy21 3 1 vy21 (a17.map ic) ∧ Hdn (zy21 = 0 ∨ w5.heap.size ≤ gy21) ∧ Own wr zy22 gy22 3 1 vy22 (a18.map ic) ∧ Hdn (zy22 = 0 ∨ w5.heap.size ≤ gy22) ∧ Own wr zy23 gy23 3 1 vy23 (a19.map ic) ∧ Hdn (zy23 = 0 ∨ w5.heap.size ≤ gy23) ∧ Own wr zy24 gy24 3 1 vy24 (a20.map ic) ∧ Hdn (zy24 = 0 ∨ w5.heap.size ≤ gy24) ∧ Hdn (zy22 = 0 ∨ zy21 = 0 ∨ gy22 ≠ gy21) ∧ Hdn (zy23 = 0 ∨ zy21 = 0 ∨ gy23 ≠ gy21) ∧ Hdn (zy23 = 0 ∨ zy22 = 0 ∨ gy23 ≠ gy22) ∧ Hdn (zy24 = 0 ∨ zy21 = 0 ∨ gy24 ≠ gy21) ∧ Hdn (zy24 = 0 ∨ zy22 = 0 ∨ gy24 ≠ gy22) ∧ Hdn (zy24 = 0 ∨ zy23 = 0 ∨ gy24 ≠ gy23) ∧ Bx wr b4 96 (Tplan_tables.cs (Tplan_tables.mk p0 x2 (TA4_slice.mk a17 a18 a19 a20) y1) vy21 vy22 vy23 vy24) ∧ Kz [(1, b4)] w5 wr) (fun ⟨n1, a16, a17, a18, a19, a20, vy21, zy21, gy21, vy22, zy22, gy22, vy23, zy23, gy23, vy24, zy24, gy24⟩ => n1) ⟨FUEL, 0, [], [], [], [], (.slice none 0 0), 0, 0, (.slice none 0 0), 0, 0, (.slice none 0 0), 0, 0, (.slice none 0 0), 0, 0⟩ ?_ ?_ ?_
 · exact sbq
 · exact ⟨hm, (own_nil _ 0 3 1), ⟨(.inl rfl)⟩, (own_nil _ 0 3 1), ⟨(.inl rfl)⟩, (own_nil _ 0 3 1), ⟨(.inl rfl)⟩, (own_nil _ 0 3 1), ⟨(.inl rfl)⟩, ⟨(.inl rfl)⟩, ⟨(.inl rfl)⟩, ⟨(.inl rfl)⟩, ⟨(.inl rfl)⟩, ⟨(.inl rfl)⟩, ⟨(.inl rfl)⟩, B10, Kz.refl _ _⟩
 clear hm; rintro ⟨n1, a16, a17, a18, a19, a20, vy21, zy21, gy21, vy22, zy22, gy22, vy23, zy23, gy23, vy24, zy24, gy24⟩ w6 ⟨hm, Fw6_0, Fw6_1, Fw6_2, Fw6_3, Fw6_4, Fw6_5, Fw6_6, Fw6_7, Fw6_8, Fw6_9, Fw6_10, Fw6_11, Fw6_12, Fw6_13, Fw6_14, K6⟩
 have z12 := K6.size
 have lt13 := Fw6_0.lth
 have lt14 := Fw6_2.lth
 have lt15 := Fw6_4.lth
 have lt16 := Fw6_6.lth
 have lt17 := Fw6_14.lt
 have hb := fix_succ hm; clear hm; obtain ⟨n1, rfl, hm⟩ := hb
 generalize hrec1 : fixN (plan_newTables_L1 p0 y1 x2 nn3) n1 = rec1 at hm
 unfold plan_newTables_L1 at hm
 try dsimp only at hm
 refine qs 1 rfl<|qv rfl (vv_lss (a := a16) (b := y1) rfl rfl)<|sd_done<|sw_seq<|sw_cond rfl (fun c1 => ?_) (fun c1 => ?_)
 · replace hm := iT c1 hm
   refine qu<|sw_seq<|sw_block<|qs 2 rfl<|qm rfl ?_
   refine qm rfl<|sd_done<|dw [([b4])] [] (.leaf [(0,10),(1,10),(2,10),(4,10),(5,10),(3,0),(6,10),(7,0)]) ?_
   intro w7 G7 zw7
   refine sdz_leaf<|dm 0 rfl rfl<|dm 0 rfl rfl<|dm 0 rfl rfl<|dh 0 rfl rfl (fun w hS => vv_nilCheck rfl rfl)<|dh 0 rfl rfl (fun w hS => vv_fieldAddr fa_96_2 rfl) ?_
   obtain ⟨l25, hl25, hm⟩ := bnd hm
   refine qz [] rfl (ev_mkT (c := ic) (a := 0) apt_32 zv_3 rfl ⟨rfl, rfl⟩ rfl hl25 (by decide)) ⟨fun _ => tk0, trivial⟩ ?_
   rintro vw8 w8 ⟨gw8, hbw8, Ow8, G8⟩
   have z18 := G8.size
   have lt19 := Ow8.lth
   refine kG G8 ?_
   by_cases c2 : a16 = 0
   · replace hm := ite_t c2 hm
     have S20 := ((Kp.refl ([b4]) w7).gr G8)
     refine qh 0 rfl rfl S20 (fun w hS => vv_ixE 0 Try.underlying94 (one_32).siz rfl rfl c2 (by decide)) ?_
     have Y1 := Gr.trans G7 G8
     have B21 := (Fw6_14.gr Y1)
     refine qz [(1, b4)] rfl (ev_st1 (cs' := Tplan_tables.cs (Tplan_tables.mk p0 x2 (TA4_slice.mk l25 a18 a19 a20) y1) vw8 vy22 vy23 vy24) (one_32).siz rfl rfl (Own.oneB Ow8) B21 rfl rfl) ⟨fun _ => tk0, trivial⟩ ?_
     rintro _ w9 ⟨Bw9, M9⟩
     have z22 := M9.size
     refine kM M9<|sd_nil<|block_n<|then_n<|qg 2 rfl<|qv rfl (vv_add (k := .i64) (a := a16) (b := 1) rfl rfl)<|qm rfl ?_
     refine sd_nil ?_
     have K_23 : Kz [(1, b4)] w5 w9 := ((K6.gr Y1).md M9)
     have B24 := (Ow8.md M9 (tk1 ((.inr tk0) : 1 = 0 ∨ gw8 ≠ b4)))
     have B25 := ((Fw6_2.gr Y1).md M9 (pb_0 Fw6_3))
     have B26 := ((Fw6_4.gr Y1).md M9 (pb_0 Fw6_5))
     have B27 := ((Fw6_6.gr Y1).md M9 (pb_0 Fw6_7))
     subst hrec1
     exact ⟨rfl, ⟨n1, w64 (a16 + 1), l25, a18, a19, a20, vw8, 1, gw8, vy22, zy22, gy22, vy23, zy23, gy23, vy24, zy24, gy24⟩, sbq, ⟨hm, B24, ⟨(.inr tk0)⟩, B25, ⟨(pv_0 (A := (fun x => w5.heap.size ≤ x)) Fw6_3)⟩, B26, ⟨(pv_0 (A := (fun x => w5.heap.size ≤ x)) Fw6_5)⟩, B27, ⟨(pv_0 (A := (fun x => w5.heap.size ≤ x)) Fw6_7)⟩, ⟨(pv_sw (.inr (tk1 lt14.o)))⟩, ⟨(pv_sw (.inr (tk1 lt15.o)))⟩, ⟨(tk1 Fw6_10.o)⟩, ⟨(pv_sw (.inr (tk1 lt16.o)))⟩, ⟨(tk1 Fw6_12.o)⟩, ⟨(tk1 Fw6_13.o)⟩, Bw9, K_23⟩, Nat.lt_succ_self _⟩
   replace hm := ite_f c2 hm
   by_cases c3 : a16 = 1
   · replace hm := ite_t c3 hm
     have S28 := ((Kp.refl ([b4]) w7).gr G8)
     refine qh 0 rfl rfl S28 (fun w hS => vv_ixE 1 Try.underlying94 (one_32).siz rfl rfl c3 (by decide)) ?_
     have Y2 := Gr.trans G7 G8
     have B29 := (Fw6_14.gr Y2)
     refine qz [(1, b4)] rfl (ev_st1 (cs' := Tplan_tables.cs (Tplan_tables.mk p0 x2 (TA4_slice.mk a17 l25 a19 a20) y1) vy21 vw8 vy23 vy24) (one_32).siz rfl rfl (Own.oneB Ow8) B29 rfl rfl) ⟨fun _ => tk0, trivial⟩ ?_
     rintro _ w10 ⟨Bw10, M10⟩
     have z30 := M10.size
     refine kM M10<|sd_nil<|block_n<|then_n<|qg 2 rfl<|qv rfl (vv_add (k := .i64) (a := a16) (b := 1) rfl rfl)<|qm rfl ?_
     refine sd_nil ?_
     have K_31 : Kz [(1, b4)] w5 w10 := ((K6.gr Y2).md M10)
     have B32 := ((Fw6_0.gr Y2).md M10 (pb_0 Fw6_1))
     have B33 := (Ow8.md M10 (tk1 ((.inr tk0) : 1 = 0 ∨ gw8 ≠ b4)))
     have B34 := ((Fw6_4.gr Y2).md M10 (pb_0 Fw6_5))
     have B35 := ((Fw6_6.gr Y2).md M10 (pb_0 Fw6_7))
     subst hrec1
     exact ⟨rfl, ⟨n1, w64 (a16 + 1), a17, l25, a19, a20, vy21, zy21, gy21, vw8, 1, gw8, vy23, zy23, gy23, vy24, zy24, gy24⟩, sbq, ⟨hm, B32, ⟨(pv_0 (A := (fun x => w5.heap.size ≤ x)) Fw6_1)⟩, B33, ⟨(.inr tk0)⟩, B34, ⟨(pv_0 (A := (fun x => w5.heap.size ≤ x)) Fw6_5)⟩, B35, ⟨(pv_0 (A := (fun x => w5.heap.size ≤ x)) Fw6_7)⟩, ⟨(.inr (tk1 lt13.o))⟩, ⟨(tk1 Fw6_9.o)⟩, ⟨(pv_sw (.inr (tk1 lt15.o)))⟩, ⟨(tk1 Fw6_11.o)⟩, ⟨(pv_sw (.inr (tk1 lt16.o)))⟩, ⟨(tk1 Fw6_13.o)⟩, Bw10, K_31⟩, Nat.lt_succ_self _⟩
   replace hm := ite_f c3 hm
   by_cases c4 : a16 = 2
   · replace hm := ite_t c4 hm
     have S36 := ((Kp.refl ([b4]) w7).gr G8)
     refine qh 0 rfl rfl S36 (fun w hS => vv_ixE 2 Try.underlying94 (one_32).siz rfl rfl c4 (by decide)) ?_
     have Y3 := Gr.trans G7 G8
     have B37 := (Fw6_14.gr Y3)
     refine qz [(1, b4)] rfl (ev_st1 (cs' := Tplan_tables.cs (Tplan_tables.mk p0 x2 (TA4_slice.mk a17 a18 l25 a20) y1) vy21 vy22 vw8 vy24) (one_32).siz rfl rfl (Own.oneB Ow8) B37 rfl rfl) ⟨fun _ => tk0, trivial⟩ ?_
     rintro _ w11 ⟨Bw11, M11⟩
     have z38 := M11.size
     refine kM M11<|sd_nil<|block_n<|then_n<|qg 2 rfl<|qv rfl (vv_add (k := .i64) (a := a16) (b := 1) rfl rfl)<|qm rfl ?_
     refine sd_nil ?_
     have K_39 : Kz [(1, b4)] w5 w11 := ((K6.gr Y3).md M11)
     have B40 := ((Fw6_0.gr Y3).md M11 (pb_0 Fw6_1))
     have B41 := ((Fw6_2.gr Y3).md M11 (pb_0 Fw6_3))
     have B42 := (Ow8.md M11 (tk1 ((.inr tk0) : 1 = 0 ∨ gw8 ≠ b4)))
     have B43 := ((Fw6_6.gr Y3).md M11 (pb_0 Fw6_7))
     subst hrec1
     exact ⟨rfl, ⟨n1, w64 (a16 + 1), a17, a18, l25, a20, vy21, zy21, gy21, vy22, zy22, gy22, vw8, 1, gw8, vy24, zy24, gy24⟩, sbq, ⟨hm, B40, ⟨(pv_0 (A := (fun x => w5.heap.size ≤ x)) Fw6_1)⟩, B41, ⟨(pv_0 (A := (fun x => w5.heap.size ≤ x)) Fw6_3)⟩, B42, ⟨(.inr tk0)⟩, B43, ⟨(pv_0 (A := (fun x => w5.heap.size ≤ x)) Fw6_7)⟩, ⟨(tk1 Fw6_8.o)⟩, ⟨(.inr (tk1 lt13.o))⟩, ⟨(.inr (tk1 lt14.o))⟩, ⟨(tk1 Fw6_11.o)⟩, ⟨(tk1 Fw6_12.o)⟩, ⟨(pv_sw (.inr (tk1 lt16.o)))⟩, Bw11, K_39⟩, Nat.lt_succ_self _⟩
   replace hm := ite_f c4 hm
   by_cases c5 : a16 = 3
   · replace hm := ite_t c5 hm
     have S44 := ((Kp.refl ([b4]) w7).gr G8)
     refine qh 0 rfl rfl S44 (fun w hS => vv_ixE 3 Try.underlying94 (one_32).siz rfl rfl c5 (by decide)) ?_
     have Y4 := Gr.trans G7 G8
     have B45 := (Fw6_14.gr Y4)
     refine qz [(1, b4)] rfl (ev_st1 (cs' := Tplan_tables.cs (Tplan_tables.mk p0 x2 (TA4_slice.mk a17 a18 a19 l25) y1) vy21 vy22 vy23 vw8) (one_32).siz rfl rfl (Own.oneB Ow8) B45 rfl rfl) ⟨fun _ => tk0, trivial⟩ ?_
     rintro _ w12 ⟨Bw12, M12⟩
     have z46 := M12.size
     refine kM M12<|sd_nil<|block_n<|then_n<|qg 2 rfl<|qv rfl (vv_add (k := .i64) (a := a16) (b := 1) rfl rfl)<|qm rfl ?_
     refine sd_nil ?_
     have K_47 : Kz [(1, b4)] w5 w12 := ((K6.gr Y4).md M12)
     have B48 := ((Fw6_0.gr Y4).md M12 (pb_0 Fw6_1))
     have B49 := ((Fw6_2.gr Y4).md M12 (pb_0 Fw6_3))
     have B50 := ((Fw6_4.gr Y4).md M12 (pb_0 Fw6_5))
     have B51 := (Ow8.md M12 (tk1 ((.inr tk0) : 1 = 0 ∨ gw8 ≠ b4)))
     subst hrec1
     exact ⟨rfl, ⟨n1, w64 (a16 + 1), a17, a18, a19, l25, vy21, zy21, gy21, vy22, zy22, gy22, vy23, zy23, gy23, vw8, 1, gw8⟩, sbq, ⟨hm, B48, ⟨(pv_0 (A := (fun x => w5.heap.size ≤ x)) Fw6_1)⟩, B49, ⟨(pv_0 (A := (fun x => w5.heap.size ≤ x)) Fw6_3)⟩, B50, ⟨(pv_0 (A := (fun x => w5.heap.size ≤ x)) Fw6_5)⟩, B51, ⟨(.inr tk0)⟩, ⟨(tk1 Fw6_8.o)⟩, ⟨(tk1 Fw6_9.o)⟩, ⟨(tk1 Fw6_10.o)⟩, ⟨(.inr (tk1 lt13.o))⟩, ⟨(.inr (tk1 lt14.o))⟩, ⟨(.inr (tk1 lt15.o))⟩, Bw12, K_47⟩, Nat.lt_succ_self _⟩
   replace hm := ite_f c5 hm
   cases hm
 replace hm := iF c1 hm
 refine sw_exit<|then_x<|then_x<|block_x<|then_n<|sw_seq<|sw_seq ?_
 refine qg 4 rfl<|qv rfl (vv_fieldAddr fa_26_1 rfl) ?_
 have B52 := (B9.kz K6)
 refine qv rfl (vv_load1 (v := .int .i64 p0.Depth) one_3 rfl B52 rfl)<|qv rfl (vv_add (k := .i64) (a := p0.Depth) (b := 1) rfl rfl)<|qm rfl<|sd_done<|sw_block ?_
 have X53 := (X11.kz K6)
 refine sw_loopD (α := Nat × Int × List Int × List Int × List Int × List Int) ([6, 7, 8, 9] ++ rg 47 68) (fun ⟨n2, a35, a36, a37, a38, a39⟩ => [(47, .int .i64 a35)]) (fun ⟨n2, a35, a36, a37, a38, a39⟩ wr => (fixN (plan_newTables_L2 p0 y1 x2) n2 (a35, a36, a37, a38, a39) = some r) ∧ Own wr zy21 gy21 3 1 vy21 (a36.map ic) ∧ Hdn (zy21 = 0 ∨ (gy21 = gy21 ∧ zy21 ≠ 0) ∨ w6.heap.size ≤ gy21) ∧ Own wr zy22 gy22 3 1 vy22 (a37.map ic) ∧ Hdn (zy22 = 0 ∨ (gy22 = gy22 ∧ zy22 ≠ 0) ∨ w6.heap.size ≤ gy22) ∧ Own wr zy23 gy23 3 1 vy23 (a38.map ic) ∧ Hdn (zy23 = 0 ∨ (gy23 = gy23 ∧ zy23 ≠ 0) ∨ w6.heap.size ≤ gy23) ∧ Own wr zy24 gy24 3 1 vy24 (a39.map ic) ∧ Hdn (zy24 = 0 ∨ (gy24 = gy24 ∧ zy24 ≠ 0) ∨ w6.heap.size ≤ gy24) ∧ Hdn (zy22 = 0 ∨ zy21 = 0 ∨ gy22 ≠ gy21) ∧ Hdn (zy23 = 0 ∨ zy21 = 0 ∨ gy23 ≠ gy21) ∧ Hdn (zy23 = 0 ∨ zy22 = 0 ∨ gy23 ≠ gy22) ∧ Hdn (zy24 = 0 ∨ zy21 = 0 ∨ gy24 ≠ gy21) ∧ Hdn (zy24 = 0 ∨ zy22 = 0 ∨ gy24 ≠ gy22) ∧ Hdn (zy24 = 0 ∨ zy23 = 0 ∨ gy24 ≠ gy23) ∧ Bx wr b4 96 (Tplan_tables.cs (Tplan_tables.mk p0 x2 (TA4_slice.mk a36 a37 a38 a39) y1) vy21 vy22 vy23 vy24) ∧ Kz [(1, b4), (zy21, gy21), (zy22, gy22), (zy23, gy23), (zy24, gy24)] w6 wr) (fun ⟨n2, a35, a36, a37, a38, a39⟩ => n2) ⟨FUEL, 0, a17, a18, a19, a20⟩ ?_ ?_ ?_
 · exact sbq
 · exact ⟨hm, Fw6_0, ⟨tk0⟩, Fw6_2, ⟨tk0⟩, Fw6_4, ⟨tk0⟩, Fw6_6, ⟨tk0⟩, ⟨(tk1 Fw6_8.o)⟩, ⟨(tk1 Fw6_9.o)⟩, ⟨(tk1 Fw6_10.o)⟩, ⟨(tk1 Fw6_11.o)⟩, ⟨(tk1 Fw6_12.o)⟩, ⟨(tk1 Fw6_13.o)⟩, Fw6_14, Kz.refl _ _⟩
 clear hm; rintro ⟨n2, a35, a36, a37, a38, a39⟩ w13 ⟨hm, Fw13_0, Fw13_1, Fw13_2, Fw13_3, Fw13_4, Fw13_5, Fw13_6, Fw13_7, Fw13_8, Fw13_9, Fw13_10, Fw13_11, Fw13_12, Fw13_13, Fw13_14, K13⟩
 have z54 := K13.size
 have lt55 := Fw13_0.lth
 have lt56 := Fw13_2.lth
 have lt57 := Fw13_4.lth
 have lt58 := Fw13_6.lth
 have lt59 := Fw13_14.lt
 have hb := fix_succ hm; clear hm; obtain ⟨n2, rfl, hm⟩ := hb
 generalize hrec2 : fixN (plan_newTables_L2 p0 y1 x2) n2 = rec2 at hm
 unfold plan_newTables_L2 at hm
 try dsimp only at hm
 refine qs 1 rfl<|qv rfl (vv_lss (a := a35) (b := w64 (p0.Depth + 1)) rfl rfl)<|sd_done<|sw_seq<|cnF rfl (fun c6 => ?_) (fun c6 => ?_)
 · replace hm := iF c6 hm
   refine sw_exit<|then_x<|then_x<|block_x<|then_n<|qs 2 rfl ?_
   refine qm rfl<|qm rfl<|sd_done<|sw_ret ?_
   have X293 := (X53.kz K13 (tk4 (pv_0 (A := (fun x => w.heap.size ≤ x)) Fw6_3) (pv_0 (A := (fun x => w.heap.size ≤ x)) Fw6_5) (pv_0 (A := (fun x => w.heap.size ≤ x)) Fw6_7) (pv_0 (A := (fun x => w.heap.size ≤ x)) Fw6_1)))
   cases hm
   refine ⟨_, _, rfl, res_1 rfl (rv_tmp rfl), ?_⟩
   exact ⟨b4, vy21, zy21, gy21, vy22, zy22, gy22, vy23, zy23, gy23, vy24, zy24, gy24, rfl, Fw13_14, by omega, Fw13_0, ⟨(pv_1 (A := (fun x => w.heap.size ≤ x)) Fw13_1 (pv_0 (A := (fun x => w.heap.size ≤ x)) Fw6_1))⟩, ⟨(pv_1 (A := (fun x => x ≠ b4)) Fw13_1 (pv_0 (A := (fun x => x ≠ b4)) Fw6_1))⟩, Fw13_2, ⟨(pv_1 (A := (fun x => w.heap.size ≤ x)) Fw13_3 (pv_0 (A := (fun x => w.heap.size ≤ x)) Fw6_3))⟩, ⟨(pv_1 (A := (fun x => x ≠ b4)) Fw13_3 (pv_0 (A := (fun x => x ≠ b4)) Fw6_3))⟩, Fw13_4, ⟨(pv_1 (A := (fun x => w.heap.size ≤ x)) Fw13_5 (pv_0 (A := (fun x => w.heap.size ≤ x)) Fw6_5))⟩, ⟨(pv_1 (A := (fun x => x ≠ b4)) Fw13_5 (pv_0 (A := (fun x => x ≠ b4)) Fw6_5))⟩, Fw13_6, ⟨(pv_1 (A := (fun x => w.heap.size ≤ x)) Fw13_7 (pv_0 (A := (fun x => w.heap.size ≤ x)) Fw6_7))⟩, ⟨(pv_1 (A := (fun x => x ≠ b4)) Fw13_7 (pv_0 (A := (fun x => x ≠ b4)) Fw6_7))⟩, ⟨(tk1 Fw13_8.o)⟩, ⟨(tk1 Fw13_9.o)⟩, ⟨(tk1 Fw13_10.o)⟩, ⟨(tk1 Fw13_11.o)⟩, ⟨(tk1 Fw13_12.o)⟩, ⟨(tk1 Fw13_13.o)⟩, X293⟩
 replace hm := iT c6 hm
 refine qu<|sw_seq<|sw_block<|qs 2 rfl<|qm rfl ?_
 refine qm rfl<|qd 5 rfl<|qm rfl<|qv rfl (vv_nilCheck rfl rfl)<|qv rfl (vv_fieldAddr fa_96_3 rfl) ?_
 refine qv rfl (vv_load1 (v := .int .i64 y1) one_3 rfl Fw13_14 rfl)<|qm rfl<|sd_done<|sw_block ?_
 have X60 := (X53.kz K13 (tk4 (pv_0 (A := (fun x => w.heap.size ≤ x)) Fw6_3) (pv_0 (A := (fun x => w.heap.size ≤ x)) Fw6_5) (pv_0 (A := (fun x => w.heap.size ≤ x)) Fw6_7) (pv_0 (A := (fun x => w.heap.size ≤ x)) Fw6_1)))
 refine sw_loopD (α := Nat × Int × List Int × List Int × List Int × List Int) ([7, 8, 9] ++ rg 54 60) (fun ⟨n3, a56, a57, a58, a59, a60⟩ => [(54, .int .i64 a56)]) (fun ⟨n3, a56, a57, a58, a59, a60⟩ wr => (fixN (plan_newTables_L3 p0 y1 x2 a35 rec2) n3 (a56, a57, a58, a59, a60) = some r) ∧ Own wr zy21 gy21 3 1 vy21 (a57.map ic) ∧ Hdn (zy21 = 0 ∨ (gy21 = gy21 ∧ zy21 ≠ 0) ∨ w13.heap.size ≤ gy21) ∧ Own wr zy22 gy22 3 1 vy22 (a58.map ic) ∧ Hdn (zy22 = 0 ∨ (gy22 = gy22 ∧ zy22 ≠ 0) ∨ w13.heap.size ≤ gy22) ∧ Own wr zy23 gy23 3 1 vy23 (a59.map ic) ∧ Hdn (zy23 = 0 ∨ (gy23 = gy23 ∧ zy23 ≠ 0) ∨ w13.heap.size ≤ gy23) ∧ Own wr zy24 gy24 3 1 vy24 (a60.map ic) ∧ Hdn (zy24 = 0 ∨ (gy24 = gy24 ∧ zy24 ≠ 0) ∨ w13.heap.size ≤ gy24) ∧ Hdn (zy22 = 0 ∨ zy21 = 0 ∨ gy22 ≠ gy21) ∧ Hdn (zy23 = 0 ∨ zy21 = 0 ∨ gy23 ≠ gy21) ∧ Hdn (zy23 = 0 ∨ zy22 = 0 ∨ gy23 ≠ gy22) ∧ Hdn (zy24 = 0 ∨ zy21 = 0 ∨ gy24 ≠ gy21) ∧ Hdn (zy24 = 0 ∨ zy22 = 0 ∨ gy24 ≠ gy22) ∧ Hdn (zy24 = 0 ∨ zy23 = 0 ∨ gy24 ≠ gy23) ∧ Bx wr b4 96 (Tplan_tables.cs (Tplan_tables.mk p0 x2 (TA4_slice.mk a57 a58 a59 a60) y1) vy21 vy22 vy23 vy24) ∧ Kz [(1, b4), (zy21, gy21), (zy22, gy22), (zy23, gy23), (zy24, gy24)] w13 wr) (fun ⟨n3, a56, a57, a58, a59, a60⟩ => n3) ⟨FUEL, 0, a36, a37, a38, a39⟩ ?_ ?_ ?_
 · exact sbq
 · exact ⟨hm, Fw13_0, ⟨tk0⟩, Fw13_2, ⟨tk0⟩, Fw13_4, ⟨tk0⟩, Fw13_6, ⟨tk0⟩, ⟨(tk1 Fw13_8.o)⟩, ⟨(tk1 Fw13_9.o)⟩, ⟨(tk1 Fw13_10.o)⟩, ⟨(tk1 Fw13_11.o)⟩, ⟨(tk1 Fw13_12.o)⟩, ⟨(tk1 Fw13_13.o)⟩, Fw13_14, Kz.refl _ _⟩
 clear hm; rintro ⟨n3, a56, a57, a58, a59, a60⟩ w14 ⟨hm, Fw14_0, Fw14_1, Fw14_2, Fw14_3, Fw14_4, Fw14_5, Fw14_6, Fw14_7, Fw14_8, Fw14_9, Fw14_10, Fw14_11, Fw14_12, Fw14_13, Fw14_14, K14⟩
 have z61 := K14.size
 have lt62 := Fw14_0.lth
 have lt63 := Fw14_2.lth
 have lt64 := Fw14_4.lth
 have lt65 := Fw14_6.lth
 have lt66 := Fw14_14.lt
 have hb := fix_succ hm; clear hm; obtain ⟨n3, rfl, hm⟩ := hb
 generalize hrec3 : fixN (plan_newTables_L3 p0 y1 x2 a35 rec2) n3 = rec3 at hm
 unfold plan_newTables_L3 at hm
 try dsimp only at hm
 refine qs 1 rfl<|qv rfl (vv_lss (a := a56) (b := y1) rfl rfl)<|sd_done<|sw_seq<|cnF rfl (fun c7 => ?_) (fun c7 => ?_)
 · replace hm := iF c7 hm
   refine sw_exit<|then_x<|then_x<|block_x<|block_n<|then_n<|qg 2 rfl ?_
   refine qv rfl (vv_add (k := .i64) (a := a35) (b := 1) rfl rfl)<|qm rfl<|sd_nil ?_
   have K_292 : Kz [(1, b4), (zy21, gy21), (zy22, gy22), (zy23, gy23), (zy24, gy24)] w6 w14 := (K13.kz K14 (tk4 (tk0 : zy21 = 0 ∨ (gy21 = gy21 ∧ zy21 ≠ 0) ∨ (gy21 = gy22 ∧ zy22 ≠ 0) ∨ (gy21 = gy23 ∧ zy23 ≠ 0) ∨ (gy21 = gy24 ∧ zy24 ≠ 0) ∨ w6.heap.size ≤ gy21) (tk0 : zy22 = 0 ∨ (gy22 = gy21 ∧ zy21 ≠ 0) ∨ (gy22 = gy22 ∧ zy22 ≠ 0) ∨ (gy22 = gy23 ∧ zy23 ≠ 0) ∨ (gy22 = gy24 ∧ zy24 ≠ 0) ∨ w6.heap.size ≤ gy22) (tk0 : zy23 = 0 ∨ (gy23 = gy21 ∧ zy21 ≠ 0) ∨ (gy23 = gy22 ∧ zy22 ≠ 0) ∨ (gy23 = gy23 ∧ zy23 ≠ 0) ∨ (gy23 = gy24 ∧ zy24 ≠ 0) ∨ w6.heap.size ≤ gy23) (tk0 : zy24 = 0 ∨ (gy24 = gy21 ∧ zy21 ≠ 0) ∨ (gy24 = gy22 ∧ zy22 ≠ 0) ∨ (gy24 = gy23 ∧ zy23 ≠ 0) ∨ (gy24 = gy24 ∧ zy24 ≠ 0) ∨ w6.heap.size ≤ gy24)))
   subst hrec2
   exact ⟨rfl, ⟨n2, w64 (a35 + 1), a57, a58, a59, a60⟩, sbq, ⟨hm, Fw14_0, ⟨tk0⟩, Fw14_2, ⟨tk0⟩, Fw14_4, ⟨tk0⟩, Fw14_6, ⟨tk0⟩, ⟨(tk1 Fw14_8.o)⟩, ⟨(tk1 Fw14_9.o)⟩, ⟨(tk1 Fw14_10.o)⟩, ⟨(tk1 Fw14_11.o)⟩, ⟨(tk1 Fw14_12.o)⟩, ⟨(tk1 Fw14_13.o)⟩, Fw14_14, K_292⟩, Nat.lt_succ_self _⟩
 replace hm := iT c7 hm
 refine qu<|sw_seq<|sw_block<|qs 2 rfl<|qm rfl ?_
 refine qm rfl<|qd 5 rfl<|qm rfl<|qm rfl<|qm rfl ?_
 refine sd_inl 28 Try.func48 rfl rfl rfl en_48 rfl rfl rfl rfl rfl<|qs 1 rfl<|qm rfl<|qd 6 rfl ?_
 refine qm rfl ?_
 obtain ⟨nn65, hnn65, hm⟩ := bnd hm
 refine qv rfl (vv_shlI (a := 1) (b := a35) rfl rfl hnn65)<|qv rfl (vv_sub (k := .i64) (a := shlI 1 nn65) (b := 1) rfl rfl)<|qm rfl<|qv rfl (vv_add (k := .i64) (a := w64 ((shlI 1 nn65) - 1)) (b := a35) rfl rfl)<|qm rfl<|sd_done<|sw_seq ?_
 refine qg 5 rfl<|qm rfl<|qm rfl ?_
 obtain ⟨x66, hx66, hm⟩ := bnd hm
 refine qe rfl (eC en_88 rfl (plan_width_w hx66)) ?_
 rintro _ w15 ⟨rfl, G15⟩
 have z67 := G15.size
 refine qv rfl (vv_add (k := .i64) (a := w64 ((w64 ((shlI 1 nn65) - 1)) + a35)) (b := x66) rfl rfl)<|qm rfl<|qd 11 rfl<|qm rfl<|qm rfl ?_
 refine qv rfl (vv_nilCheck rfl rfl)<|qv rfl (vv_fieldAddr fa_96_2 rfl) ?_
 by_cases c8 : a56 = 0
 · replace hm := ite_t c8 hm
   refine qv rfl (vv_ixE 0 Try.underlying94 (one_32).siz rfl rfl c8 (by decide)) ?_
   have B68 := (Fw14_14.gr G15)
   refine qv rfl (vv_load1 (v := vy21) one_32 rfl B68 rfl)<|qm rfl<|qm rfl<|qm rfl ?_
   have B69 := (Fw14_0.gr G15)
   obtain ⟨nn67, hnn67, hm⟩ := bnd hm
   refine qv rfl (vv_sliV (c := ic) Try.underlying32 (one_3).siz rfl B69 rfl rfl rfl hnn67)<|qm rfl<|sd_done<|sw_ret<|⟨_, _, rfl, res_1 rfl (rv_tmp rfl), ?_⟩
   refine qm rfl<|qd 3 rfl<|qm rfl<|qv rfl (vv_lenS Try.underlying32 rfl)<|qm rfl ?_
   refine sd_done<|sw_block ?_
   have X70 := ((X60.kz K14 (tk4 (pv_1 (A := (fun x => w.heap.size ≤ x)) Fw13_1 (pv_0 (A := (fun x => w.heap.size ≤ x)) Fw6_1)) (pv_1 (A := (fun x => w.heap.size ≤ x)) Fw13_3 (pv_0 (A := (fun x => w.heap.size ≤ x)) Fw6_3)) (pv_1 (A := (fun x => w.heap.size ≤ x)) Fw13_5 (pv_0 (A := (fun x => w.heap.size ≤ x)) Fw6_5)) (pv_1 (A := (fun x => w.heap.size ≤ x)) Fw13_7 (pv_0 (A := (fun x => w.heap.size ≤ x)) Fw6_7)))).trans G15)
   have B71 := (Fw14_2.gr G15)
   have B72 := (Fw14_4.gr G15)
   have B73 := (Fw14_6.gr G15)
   refine sw_loopD (α := Nat × Int × List Int) ([9] ++ rg 63 50) (fun ⟨n4, a71, a72⟩ => [(63, .int .i64 a71)]) (fun ⟨n4, a71, a72⟩ wr => (fixN (plan_newTables_L4 p0 y1 x2 a35 a56 a58 a59 a60 rec3 nn65 nn67) n4 (a71, a72) = some r) ∧ Own wr zy21 gy21 3 1 vy21 (a72.map ic) ∧ Hdn (zy21 = 0 ∨ (gy21 = gy21 ∧ zy21 ≠ 0) ∨ w15.heap.size ≤ gy21) ∧ Bx wr b4 96 (Tplan_tables.cs (Tplan_tables.mk p0 x2 (TA4_slice.mk a72 a58 a59 a60) y1) vy21 vy22 vy23 vy24) ∧ Kz [(1, b4), (zy21, gy21)] w15 wr) (fun ⟨n4, a71, a72⟩ => n4) ⟨FUEL, 0, a57⟩ ?_ ?_ ?_
   · exact sbq
   · exact ⟨hm, B69, ⟨tk0⟩, B68, Kz.refl _ _⟩
   clear hm; rintro ⟨n4, a71, a72⟩ w16 ⟨hm, Fw16_0, Fw16_1, Fw16_2, K16⟩
   have z74 := K16.size
   have lt75 := Fw16_0.lth
   have lt76 := Fw16_2.lt
   have hb := fix_succ hm; clear hm; obtain ⟨n4, rfl, hm⟩ := hb
   generalize hrec4 : fixN (plan_newTables_L4 p0 y1 x2 a35 a56 a58 a59 a60 rec3 nn65 nn67) n4 = rec4 at hm
   unfold plan_newTables_L4 at hm
   try dsimp only at hm
   refine qs 1 rfl<|qv rfl (vv_lss (a := a71) (b := (nn67 : Int)) rfl rfl)<|sd_done<|sw_seq<|cnF rfl (fun c9 => ?_) (fun c9 => ?_)
   · replace hm := iF c9 hm
     refine sw_exit<|then_x<|then_x<|block_x<|block_n<|then_n<|qg 2 rfl ?_
     refine qv rfl (vv_add (k := .i64) (a := a56) (b := 1) rfl rfl)<|qm rfl<|sd_nil ?_
     have K_120 : Kz [(1, b4), (zy21, gy21), (zy22, gy22), (zy23, gy23), (zy24, gy24)] w13 w16 := ((K14.gr G15).kz K16 (tk1 (tk0 : zy21 = 0 ∨ (gy21 = gy21 ∧ zy21 ≠ 0) ∨ (gy21 = gy22 ∧ zy22 ≠ 0) ∨ (gy21 = gy23 ∧ zy23 ≠ 0) ∨ (gy21 = gy24 ∧ zy24 ≠ 0) ∨ w13.heap.size ≤ gy21)))
     have B121 := (B71.kz K16 (tk2 ((tk1 Fw14_8.o) : zy22 = 0 ∨ zy21 = 0 ∨ gy22 ≠ gy21) (pb_1 (b := b4) Fw14_3 (pb_0 Fw6_3))))
     have B122 := (B72.kz K16 (tk2 ((tk1 Fw14_9.o) : zy23 = 0 ∨ zy21 = 0 ∨ gy23 ≠ gy21) (pb_1 (b := b4) Fw14_5 (pb_0 Fw6_5))))
     have B123 := (B73.kz K16 (tk2 ((tk1 Fw14_11.o) : zy24 = 0 ∨ zy21 = 0 ∨ gy24 ≠ gy21) (pb_1 (b := b4) Fw14_7 (pb_0 Fw6_7))))
     subst hrec3
     exact ⟨rfl, ⟨n3, w64 (a56 + 1), a72, a58, a59, a60⟩, sbq, ⟨hm, Fw16_0, ⟨tk0⟩, B121, ⟨tk0⟩, B122, ⟨tk0⟩, B123, ⟨tk0⟩, ⟨(pv_sw (pv_1 (A := (fun x => zy22 = 0 ∨ x ≠ gy22)) Fw16_1 (pv_sw (pv_1 (A := (fun x => zy21 = 0 ∨ x ≠ gy21)) Fw14_3 (tk1 Fw6_8.o) (fun x hx => (tk1 lt13.o)))) (fun x hx => (tk1 lt63.o))))⟩, ⟨(pv_sw (pv_1 (A := (fun x => zy23 = 0 ∨ x ≠ gy23)) Fw16_1 (pv_sw (pv_1 (A := (fun x => zy21 = 0 ∨ x ≠ gy21)) Fw14_5 (tk1 Fw6_9.o) (fun x hx => (tk1 lt13.o)))) (fun x hx => (tk1 lt64.o))))⟩, ⟨(tk1 Fw14_10.o)⟩, ⟨(pv_sw (pv_1 (A := (fun x => zy24 = 0 ∨ x ≠ gy24)) Fw16_1 (pv_sw (pv_1 (A := (fun x => zy21 = 0 ∨ x ≠ gy21)) Fw14_7 (tk1 Fw6_11.o) (fun x hx => (tk1 lt13.o)))) (fun x hx => (tk1 lt65.o))))⟩, ⟨(tk1 Fw14_12.o)⟩, ⟨(tk1 Fw14_13.o)⟩, Fw16_2, K_120⟩, Nat.lt_succ_self _⟩
   replace hm := iT c9 hm
   refine qu<|sw_seq<|sw_block<|qs 2 rfl<|qm rfl ?_
   refine qm rfl<|sd_done<|sw_block ?_
   have X77 := (X70.kz K16 (tk1 (pv_1 (A := (fun x => w.heap.size ≤ x)) Fw14_1 (pv_0 (A := (fun x => w.heap.size ≤ x)) Fw6_1))))
   refine qj (β := Bool) (rg 77 8) (fun a74 => [(77, .bool a74)]) (fun a74 wr => (plan_newTables_J5 p0 y1 x2 a35 a56 a58 a59 a60 nn65 nn67 a71 a72 rec4 a74 = some r) ∧ Kz [] w16 wr) ?_ ?_
   · refine qg 8 rfl<|qv rfl (vv_fieldAddr fa_26_0 rfl) ?_
     have B117 := ((((B52.kz K13 (tk4 (pb_0 (b := b1) Fw6_3) (pb_0 (b := b1) Fw6_5) (pb_0 (b := b1) Fw6_7) (pb_0 (b := b1) Fw6_1))).kz K14 (tk4 (pb_1 (b := b1) Fw13_1 (pb_0 Fw6_1)) (pb_1 (b := b1) Fw13_3 (pb_0 Fw6_3)) (pb_1 (b := b1) Fw13_5 (pb_0 Fw6_5)) (pb_1 (b := b1) Fw13_7 (pb_0 Fw6_7)))).gr G15).kz K16 (tk1 (pb_1 (b := b1) Fw14_1 (pb_0 Fw6_1))))
     refine qv rfl (vv_load1 (v := bv p0.Kind) one_5 rfl B117 rfl)<|qv rfl (vv_eqlB (p := p0.Kind) (q := 1#8) rfl rfl)<|qp rfl (vv_move rfl) (fun c15 => ?_) (fun c15 => ?_)
     · replace hm := iT c15 hm
       refine qm rfl<|qv rfl (vv_eql (a := a71) (b := 0) rfl rfl)<|qm rfl<|qm rfl<|sd_nil ?_
       exact ⟨rfl, (decide (a71 = 0)), sbq, hm, kz0⟩
     replace hm := iF c15 hm
     refine qk rfl<|qk rfl<|qm rfl<|qm rfl<|sd_nil ?_
     exact ⟨rfl, false, sbq, hm, kz0⟩
   clear hm; rintro a74 w17 ⟨hm, K17⟩
   have z78 := K17.size
   unfold plan_newTables_J5 at hm
   refine sw_cond rfl (fun c10 => ?_) (fun c10 => ?_)
   · replace hm := cnd_t c10 hm
     refine qg 4 rfl<|qm rfl<|qm rfl ?_
     obtain ⟨j75, hj75, hm⟩ := bnd hm
     obtain ⟨y76, hy76, hm⟩ := bnd hm
     refine qv rfl (vv_ixVw (sz := 1) rfl (viewG_nn hnn67) Try.underlying32 (one_3).siz rfl rfl hj75) ?_
     have B79 := (Fw16_0.kz K17)
     have zo80 := Own.z1 B79 hy76
     refine qe rfl (ev_stEl (i := j75) (q := 0) (a' := 1) (vs := [.int .i64 1]) (c := ic) (one_3).siz rfl rfl rfl rfl rfl B79 hy76 (by first | rfl | omega) rfl rfl ⟨rfl, rfl⟩) ?_
     rintro _ w18 ⟨Ow18, M18⟩
     have z81 := M18.size
     refine sd_nil<|block_n<|block_n<|then_n<|qg 2 rfl<|qv rfl (vv_add (k := .i64) (a := a71) (b := 1) rfl rfl)<|qm rfl ?_
     refine sd_nil ?_
     have K_82 : Kz [(1, b4), (zy21, gy21)] w15 w18 := ((K16.kz K17).md M18 (tk1 (tk0 : zy21 = 0 ∨ (gy21 = gy21 ∧ zy21 ≠ 0) ∨ w15.heap.size ≤ gy21)))
     have B83 := ((Fw16_2.kz K17).md M18 (tk1 (pb_1 (b := b4) Fw16_1 (pb_0 Fw6_1))))
     subst hrec4
     exact ⟨rfl, ⟨n4, w64 (a71 + 1), a72.set j75.toNat 1⟩, sbq, ⟨hm, Ow18, ⟨tk0⟩, B83, K_82⟩, Nat.lt_succ_self _⟩
   replace hm := cnd_f c10 hm
   have X84 := (X77.kz K17)
   refine qj (β := Bool) (rg 88 12) (fun a77 => [(88, .bool a77)]) (fun a77 wr => (plan_newTables_J6 p0 y1 x2 a35 a56 a58 a59 a60 nn65 nn67 a71 a72 rec4 a77 = some r) ∧ Kz [] w17 wr) ?_ ?_
   · refine qg 12 rfl<|qm rfl<|qv rfl (vv_eql (a := a71) (b := 0) rfl rfl)<|qp rfl (vv_move rfl) (fun c13 => ?_) (fun c13 => ?_)
     · replace hm := iT c13 hm
       refine qk rfl<|qk rfl<|qk rfl<|qk rfl<|qk rfl<|qk rfl<|qk rfl ?_
       refine qm rfl<|qm rfl<|sd_nil ?_
       exact ⟨rfl, true, sbq, hm, kz0⟩
     replace hm := iF c13 hm
     refine qv rfl (vv_fieldAddr fa_26_0 rfl) ?_
     have B114 := (((((B52.kz K13 (tk4 (pb_0 (b := b1) Fw6_3) (pb_0 (b := b1) Fw6_5) (pb_0 (b := b1) Fw6_7) (pb_0 (b := b1) Fw6_1))).kz K14 (tk4 (pb_1 (b := b1) Fw13_1 (pb_0 Fw6_1)) (pb_1 (b := b1) Fw13_3 (pb_0 Fw6_3)) (pb_1 (b := b1) Fw13_5 (pb_0 Fw6_5)) (pb_1 (b := b1) Fw13_7 (pb_0 Fw6_7)))).gr G15).kz K16 (tk1 (pb_1 (b := b1) Fw14_1 (pb_0 Fw6_1)))).kz K17)
     refine qv rfl (vv_load1 (v := bv p0.Kind) one_5 rfl B114 rfl)<|qv rfl (vv_eqlB (p := p0.Kind) (q := 1#8) rfl rfl)<|qp rfl (vv_move rfl) (fun c14 => ?_) (fun c14 => ?_)
     · replace hm := iT c14 hm
       refine qm rfl<|qv rfl (vv_eql (a := a35) (b := 0) rfl rfl)<|qm rfl<|qm rfl<|qm rfl<|sd_nil ?_
       exact ⟨rfl, (decide (a35 = 0)), sbq, hm, kz0⟩
     replace hm := iF c14 hm
     refine qk rfl<|qk rfl<|qm rfl<|qm rfl<|qm rfl<|sd_nil ?_
     exact ⟨rfl, false, sbq, hm, kz0⟩
   clear hm; rintro a77 w19 ⟨hm, K19⟩
   have z85 := K19.size
   unfold plan_newTables_J6 at hm
   refine sw_cond rfl (fun c11 => ?_) (fun c11 => ?_)
   · replace hm := cnd_t c11 hm
     refine qg 4 rfl<|qm rfl<|qm rfl ?_
     obtain ⟨j78, hj78, hm⟩ := bnd hm
     obtain ⟨y79, hy79, hm⟩ := bnd hm
     refine qv rfl (vv_ixVw (sz := 1) rfl (viewG_nn hnn67) Try.underlying32 (one_3).siz rfl rfl hj78) ?_
     have B86 := ((Fw16_0.kz K17).kz K19)
     have zo87 := Own.z1 B86 hy79
     refine qe rfl (ev_stEl (i := j78) (q := 0) (a' := 0) (vs := [.int .i64 0]) (c := ic) (one_3).siz rfl rfl rfl rfl rfl B86 hy79 (by first | rfl | omega) rfl rfl ⟨rfl, rfl⟩) ?_
     rintro _ w20 ⟨Ow20, M20⟩
     have z88 := M20.size
     refine sd_nil<|block_n<|block_n<|then_n<|qg 2 rfl<|qv rfl (vv_add (k := .i64) (a := a71) (b := 1) rfl rfl)<|qm rfl ?_
     refine sd_nil ?_
     have K_89 : Kz [(1, b4), (zy21, gy21)] w15 w20 := (((K16.kz K17).kz K19).md M20 (tk1 (tk0 : zy21 = 0 ∨ (gy21 = gy21 ∧ zy21 ≠ 0) ∨ w15.heap.size ≤ gy21)))
     have B90 := (((Fw16_2.kz K17).kz K19).md M20 (tk1 (pb_1 (b := b4) Fw16_1 (pb_0 Fw6_1))))
     subst hrec4
     exact ⟨rfl, ⟨n4, w64 (a71 + 1), a72.set j78.toNat 0⟩, sbq, ⟨hm, Ow20, ⟨tk0⟩, B90, K_89⟩, Nat.lt_succ_self _⟩
   replace hm := cnd_f c11 hm
   refine qs 3 rfl<|qm rfl<|qv rfl (vv_eql (a := a35) (b := 0) rfl rfl)<|qm rfl<|sd_done<|sw_cond rfl (fun c12 => ?_) (fun c12 => ?_)
   · replace hm := iT c12 hm
     refine qg 7 rfl<|qm rfl<|qm rfl<|qm rfl<|qm rfl ?_
     have B91 := ((Fw16_2.kz K17).kz K19)
     have B92 := ((Fw16_0.kz K17).kz K19)
     have B93 := (((B71.kz K16 (tk2 ((tk1 Fw14_8.o) : zy22 = 0 ∨ zy21 = 0 ∨ gy22 ≠ gy21) (pb_1 (b := b4) Fw14_3 (pb_0 Fw6_3)))).kz K17).kz K19)
     have B94 := (((B72.kz K16 (tk2 ((tk1 Fw14_9.o) : zy23 = 0 ∨ zy21 = 0 ∨ gy23 ≠ gy21) (pb_1 (b := b4) Fw14_5 (pb_0 Fw6_5)))).kz K17).kz K19)
     have B95 := (((B73.kz K16 (tk2 ((tk1 Fw14_11.o) : zy24 = 0 ∨ zy21 = 0 ∨ gy24 ≠ gy21) (pb_1 (b := b4) Fw14_7 (pb_0 Fw6_7)))).kz K17).kz K19)
     obtain ⟨x80, hx80, hm⟩ := bnd hm
     refine qe rfl (eC en_87 rfl (plan_tables_more_w hx80 B91 (Own.rd B92) (Own.rd B93) (Own.rd B94) (Own.rd B95))) ?_
     rintro _ w21 ⟨rfl, G21⟩
     have z96 := G21.size
     obtain ⟨j81, hj81, hm⟩ := bnd hm
     obtain ⟨y82, hy82, hm⟩ := bnd hm
     refine qv rfl (vv_ixVw (sz := 1) rfl (viewG_nn hnn67) Try.underlying32 (one_3).siz rfl rfl hj81) ?_
     have B97 := (B92.gr G21)
     have zo98 := Own.z1 B97 hy82
     refine qe rfl (ev_stEl (i := j81) (q := 0) (a' := x80) (vs := [.int .i64 x80]) (c := ic) (one_3).siz rfl rfl rfl rfl rfl B97 hy82 (by first | rfl | omega) rfl rfl ⟨rfl, rfl⟩) ?_
     rintro _ w22 ⟨Ow22, M22⟩
     have z99 := M22.size
     refine sd_nil<|block_n<|block_n<|then_n<|qg 2 rfl<|qv rfl (vv_add (k := .i64) (a := a71) (b := 1) rfl rfl)<|qm rfl ?_
     refine sd_nil ?_
     have K_100 : Kz [(1, b4), (zy21, gy21)] w15 w22 := ((((K16.kz K17).kz K19).gr G21).md M22 (tk1 (tk0 : zy21 = 0 ∨ (gy21 = gy21 ∧ zy21 ≠ 0) ∨ w15.heap.size ≤ gy21)))
     have B101 := ((B91.gr G21).md M22 (tk1 (pb_1 (b := b4) Fw16_1 (pb_0 Fw6_1))))
     subst hrec4
     exact ⟨rfl, ⟨n4, w64 (a71 + 1), a72.set j81.toNat x80⟩, sbq, ⟨hm, Ow22, ⟨tk0⟩, B101, K_100⟩, Nat.lt_succ_self _⟩
   replace hm := iF c12 hm
   refine qg 12 rfl<|qm rfl<|qm rfl<|qm rfl<|qm rfl<|qm rfl<|qm rfl ?_
   have B102 := ((Fw16_2.kz K17).kz K19)
   have B103 := ((Fw16_0.kz K17).kz K19)
   have B104 := (((B71.kz K16 (tk2 ((tk1 Fw14_8.o) : zy22 = 0 ∨ zy21 = 0 ∨ gy22 ≠ gy21) (pb_1 (b := b4) Fw14_3 (pb_0 Fw6_3)))).kz K17).kz K19)
   have B105 := (((B72.kz K16 (tk2 ((tk1 Fw14_9.o) : zy23 = 0 ∨ zy21 = 0 ∨ gy23 ≠ gy21) (pb_1 (b := b4) Fw14_5 (pb_0 Fw6_5)))).kz K17).kz K19)
   have B106 := (((B73.kz K16 (tk2 ((tk1 Fw14_11.o) : zy24 = 0 ∨ zy21 = 0 ∨ gy24 ≠ gy21) (pb_1 (b := b4) Fw14_7 (pb_0 Fw6_7)))).kz K17).kz K19)
   obtain ⟨x83, hx83, hm⟩ := bnd hm
   refine qe rfl (eC en_82 rfl (plan_tables_best_w hx83 B102 (Own.rd B103) (Own.rd B104) (Own.rd B105) (Own.rd B106))) ?_
   rintro _ w23 ⟨rfl, G23⟩
   have z107 := G23.size
   refine qm rfl<|qm rfl<|qm rfl ?_
   obtain ⟨j84, hj84, hm⟩ := bnd hm
   obtain ⟨y85, hy85, hm⟩ := bnd hm
   refine qv rfl (vv_ixVw (sz := 1) rfl (viewG_nn hnn67) Try.underlying32 (one_3).siz rfl rfl hj84) ?_
   have B108 := (B103.gr G23)
   have zo109 := Own.z1 B108 hy85
   refine qe rfl (ev_stEl (i := j84) (q := 0) (a' := x83.1) (vs := [.int .i64 x83.1]) (c := ic) (one_3).siz rfl rfl rfl rfl rfl B108 hy85 (by first | rfl | omega) rfl rfl ⟨rfl, rfl⟩) ?_
   rintro _ w24 ⟨Ow24, M24⟩
   have z110 := M24.size
   refine sd_nil<|block_n<|block_n<|then_n<|qg 2 rfl<|qv rfl (vv_add (k := .i64) (a := a71) (b := 1) rfl rfl)<|qm rfl ?_
   refine sd_nil ?_
   have K_111 : Kz [(1, b4), (zy21, gy21)] w15 w24 := ((((K16.kz K17).kz K19).gr G23).md M24 (tk1 (tk0 : zy21 = 0 ∨ (gy21 = gy21 ∧ zy21 ≠ 0) ∨ w15.heap.size ≤ gy21)))
   have B112 := ((B102.gr G23).md M24 (tk1 (pb_1 (b := b4) Fw16_1 (pb_0 Fw6_1))))
   subst hrec4
   exact ⟨rfl, ⟨n4, w64 (a71 + 1), a72.set j84.toNat x83.1⟩, sbq, ⟨hm, Ow24, ⟨tk0⟩, B112, K_111⟩, Nat.lt_succ_self _⟩
 replace hm := ite_f c8 hm
 by_cases c16 : a56 = 1
 · replace hm := ite_t c16 hm
   refine qv rfl (vv_ixE 1 Try.underlying94 (one_32).siz rfl rfl c16 (by decide)) ?_
   have B124 := (Fw14_14.gr G15)
   refine qv rfl (vv_load1 (v := vy22) one_32 rfl B124 rfl)<|qm rfl<|qm rfl<|qm rfl ?_
   have B125 := (Fw14_2.gr G15)
   obtain ⟨nn86, hnn86, hm⟩ := bnd hm
   refine qv rfl (vv_sliV (c := ic) Try.underlying32 (one_3).siz rfl B125 rfl rfl rfl hnn86)<|qm rfl<|sd_done<|sw_ret<|⟨_, _, rfl, res_1 rfl (rv_tmp rfl), ?_⟩
   refine qm rfl<|qd 3 rfl<|qm rfl<|qv rfl (vv_lenS Try.underlying32 rfl)<|qm rfl ?_
   refine sd_done<|sw_block ?_
   have X126 := ((X60.kz K14 (tk4 (pv_1 (A := (fun x => w.heap.size ≤ x)) Fw13_1 (pv_0 (A := (fun x => w.heap.size ≤ x)) Fw6_1)) (pv_1 (A := (fun x => w.heap.size ≤ x)) Fw13_3 (pv_0 (A := (fun x => w.heap.size ≤ x)) Fw6_3)) (pv_1 (A := (fun x => w.heap.size ≤ x)) Fw13_5 (pv_0 (A := (fun x => w.heap.size ≤ x)) Fw6_5)) (pv_1 (A := (fun x => w.heap.size ≤ x)) Fw13_7 (pv_0 (A := (fun x => w.heap.size ≤ x)) Fw6_7)))).trans G15)
   have B127 := (Fw14_0.gr G15)
   have B128 := (Fw14_4.gr G15)
   have B129 := (Fw14_6.gr G15)
   refine sw_loopD (α := Nat × Int × List Int) ([9] ++ rg 63 50) (fun ⟨n7, a90, a91⟩ => [(63, .int .i64 a90)]) (fun ⟨n7, a90, a91⟩ wr => (fixN (plan_newTables_L7 p0 y1 x2 a35 a56 a57 a59 a60 rec3 nn65 nn86) n7 (a90, a91) = some r) ∧ Own wr zy22 gy22 3 1 vy22 (a91.map ic) ∧ Hdn (zy22 = 0 ∨ (gy22 = gy22 ∧ zy22 ≠ 0) ∨ w15.heap.size ≤ gy22) ∧ Bx wr b4 96 (Tplan_tables.cs (Tplan_tables.mk p0 x2 (TA4_slice.mk a57 a91 a59 a60) y1) vy21 vy22 vy23 vy24) ∧ Kz [(1, b4), (zy22, gy22)] w15 wr) (fun ⟨n7, a90, a91⟩ => n7) ⟨FUEL, 0, a58⟩ ?_ ?_ ?_
   · exact sbq
   · exact ⟨hm, B125, ⟨tk0⟩, B124, Kz.refl _ _⟩
   clear hm; rintro ⟨n7, a90, a91⟩ w25 ⟨hm, Fw25_0, Fw25_1, Fw25_2, K25⟩
   have z130 := K25.size
   have lt131 := Fw25_0.lth
   have lt132 := Fw25_2.lt
   have hb := fix_succ hm; clear hm; obtain ⟨n7, rfl, hm⟩ := hb
   generalize hrec7 : fixN (plan_newTables_L7 p0 y1 x2 a35 a56 a57 a59 a60 rec3 nn65 nn86) n7 = rec7 at hm
   unfold plan_newTables_L7 at hm
   try dsimp only at hm
   refine qs 1 rfl<|qv rfl (vv_lss (a := a90) (b := (nn86 : Int)) rfl rfl)<|sd_done<|sw_seq<|cnF rfl (fun c17 => ?_) (fun c17 => ?_)
   · replace hm := iF c17 hm
     refine sw_exit<|then_x<|then_x<|block_x<|block_n<|then_n<|qg 2 rfl ?_
     refine qv rfl (vv_add (k := .i64) (a := a56) (b := 1) rfl rfl)<|qm rfl<|sd_nil ?_
     have K_176 : Kz [(1, b4), (zy21, gy21), (zy22, gy22), (zy23, gy23), (zy24, gy24)] w13 w25 := ((K14.gr G15).kz K25 (tk1 (tk0 : zy22 = 0 ∨ (gy22 = gy21 ∧ zy21 ≠ 0) ∨ (gy22 = gy22 ∧ zy22 ≠ 0) ∨ (gy22 = gy23 ∧ zy23 ≠ 0) ∨ (gy22 = gy24 ∧ zy24 ≠ 0) ∨ w13.heap.size ≤ gy22)))
     have B177 := (B127.kz K25 (tk2 ((tk1 Fw14_8.o) : zy21 = 0 ∨ zy22 = 0 ∨ gy21 ≠ gy22) (pb_1 (b := b4) Fw14_1 (pb_0 Fw6_1))))
     have B178 := (B128.kz K25 (tk2 ((tk1 Fw14_10.o) : zy23 = 0 ∨ zy22 = 0 ∨ gy23 ≠ gy22) (pb_1 (b := b4) Fw14_5 (pb_0 Fw6_5))))
     have B179 := (B129.kz K25 (tk2 ((tk1 Fw14_12.o) : zy24 = 0 ∨ zy22 = 0 ∨ gy24 ≠ gy22) (pb_1 (b := b4) Fw14_7 (pb_0 Fw6_7))))
     subst hrec3
     exact ⟨rfl, ⟨n3, w64 (a56 + 1), a57, a91, a59, a60⟩, sbq, ⟨hm, B177, ⟨tk0⟩, Fw25_0, ⟨tk0⟩, B178, ⟨tk0⟩, B179, ⟨tk0⟩, ⟨(pv_1 (A := (fun x => zy21 = 0 ∨ x ≠ gy21)) Fw25_1 (pv_sw (pv_1 (A := (fun x => zy22 = 0 ∨ x ≠ gy22)) Fw14_1 (tk1 Fw6_8.o) (fun x hx => (tk1 lt14.o)))) (fun x hx => (tk1 lt62.o)))⟩, ⟨(tk1 Fw14_9.o)⟩, ⟨(pv_sw (pv_1 (A := (fun x => zy23 = 0 ∨ x ≠ gy23)) Fw25_1 (pv_sw (pv_1 (A := (fun x => zy22 = 0 ∨ x ≠ gy22)) Fw14_5 (tk1 Fw6_10.o) (fun x hx => (tk1 lt14.o)))) (fun x hx => (tk1 lt64.o))))⟩, ⟨(tk1 Fw14_11.o)⟩, ⟨(pv_sw (pv_1 (A := (fun x => zy24 = 0 ∨ x ≠ gy24)) Fw25_1 (pv_sw (pv_1 (A := (fun x => zy22 = 0 ∨ x ≠ gy22)) Fw14_7 (tk1 Fw6_12.o) (fun x hx => (tk1 lt14.o)))) (fun x hx => (tk1 lt65.o))))⟩, ⟨(tk1 Fw14_13.o)⟩, Fw25_2, K_176⟩, Nat.lt_succ_self _⟩
   replace hm := iT c17 hm
   refine qu<|sw_seq<|sw_block<|qs 2 rfl<|qm rfl ?_
   refine qm rfl<|sd_done<|sw_block ?_
   have X133 := (X126.kz K25 (tk1 (pv_1 (A := (fun x => w.heap.size ≤ x)) Fw14_3 (pv_0 (A := (fun x => w.heap.size ≤ x)) Fw6_3))))
   refine qj (β := Bool) (rg 77 8) (fun a93 => [(77, .bool a93)]) (fun a93 wr => (plan_newTables_J8 p0 y1 x2 a35 a56 a57 a59 a60 nn65 nn86 a90 a91 rec7 a93 = some r) ∧ Kz [] w25 wr) ?_ ?_
   · refine qg 8 rfl<|qv rfl (vv_fieldAddr fa_26_0 rfl) ?_
     have B173 := ((((B52.kz K13 (tk4 (pb_0 (b := b1) Fw6_3) (pb_0 (b := b1) Fw6_5) (pb_0 (b := b1) Fw6_7) (pb_0 (b := b1) Fw6_1))).kz K14 (tk4 (pb_1 (b := b1) Fw13_1 (pb_0 Fw6_1)) (pb_1 (b := b1) Fw13_3 (pb_0 Fw6_3)) (pb_1 (b := b1) Fw13_5 (pb_0 Fw6_5)) (pb_1 (b := b1) Fw13_7 (pb_0 Fw6_7)))).gr G15).kz K25 (tk1 (pb_1 (b := b1) Fw14_3 (pb_0 Fw6_3))))
     refine qv rfl (vv_load1 (v := bv p0.Kind) one_5 rfl B173 rfl)<|qv rfl (vv_eqlB (p := p0.Kind) (q := 1#8) rfl rfl)<|qp rfl (vv_move rfl) (fun c23 => ?_) (fun c23 => ?_)
     · replace hm := iT c23 hm
       refine qm rfl<|qv rfl (vv_eql (a := a90) (b := 0) rfl rfl)<|qm rfl<|qm rfl<|sd_nil ?_
       exact ⟨rfl, (decide (a90 = 0)), sbq, hm, kz0⟩
     replace hm := iF c23 hm
     refine qk rfl<|qk rfl<|qm rfl<|qm rfl<|sd_nil ?_
     exact ⟨rfl, false, sbq, hm, kz0⟩
   clear hm; rintro a93 w26 ⟨hm, K26⟩
   have z134 := K26.size
   unfold plan_newTables_J8 at hm
   refine sw_cond rfl (fun c18 => ?_) (fun c18 => ?_)
   · replace hm := cnd_t c18 hm
     refine qg 4 rfl<|qm rfl<|qm rfl ?_
     obtain ⟨j94, hj94, hm⟩ := bnd hm
     obtain ⟨y95, hy95, hm⟩ := bnd hm
     refine qv rfl (vv_ixVw (sz := 1) rfl (viewG_nn hnn86) Try.underlying32 (one_3).siz rfl rfl hj94) ?_
     have B135 := (Fw25_0.kz K26)
     have zo136 := Own.z1 B135 hy95
     refine qe rfl (ev_stEl (i := j94) (q := 0) (a' := 1) (vs := [.int .i64 1]) (c := ic) (one_3).siz rfl rfl rfl rfl rfl B135 hy95 (by first | rfl | omega) rfl rfl ⟨rfl, rfl⟩) ?_
     rintro _ w27 ⟨Ow27, M27⟩
     have z137 := M27.size
     refine sd_nil<|block_n<|block_n<|then_n<|qg 2 rfl<|qv rfl (vv_add (k := .i64) (a := a90) (b := 1) rfl rfl)<|qm rfl ?_
     refine sd_nil ?_
     have K_138 : Kz [(1, b4), (zy22, gy22)] w15 w27 := ((K25.kz K26).md M27 (tk1 (tk0 : zy22 = 0 ∨ (gy22 = gy22 ∧ zy22 ≠ 0) ∨ w15.heap.size ≤ gy22)))
     have B139 := ((Fw25_2.kz K26).md M27 (tk1 (pb_1 (b := b4) Fw25_1 (pb_0 Fw6_3))))
     subst hrec7
     exact ⟨rfl, ⟨n7, w64 (a90 + 1), a91.set j94.toNat 1⟩, sbq, ⟨hm, Ow27, ⟨tk0⟩, B139, K_138⟩, Nat.lt_succ_self _⟩
   replace hm := cnd_f c18 hm
   have X140 := (X133.kz K26)
   refine qj (β := Bool) (rg 88 12) (fun a96 => [(88, .bool a96)]) (fun a96 wr => (plan_newTables_J9 p0 y1 x2 a35 a56 a57 a59 a60 nn65 nn86 a90 a91 rec7 a96 = some r) ∧ Kz [] w26 wr) ?_ ?_
   · refine qg 12 rfl<|qm rfl<|qv rfl (vv_eql (a := a90) (b := 0) rfl rfl)<|qp rfl (vv_move rfl) (fun c21 => ?_) (fun c21 => ?_)
     · replace hm := iT c21 hm
       refine qk rfl<|qk rfl<|qk rfl<|qk rfl<|qk rfl<|qk rfl<|qk rfl ?_
       refine qm rfl<|qm rfl<|sd_nil ?_
       exact ⟨rfl, true, sbq, hm, kz0⟩
     replace hm := iF c21 hm
     refine qv rfl (vv_fieldAddr fa_26_0 rfl) ?_
     have B170 := (((((B52.kz K13 (tk4 (pb_0 (b := b1) Fw6_3) (pb_0 (b := b1) Fw6_5) (pb_0 (b := b1) Fw6_7) (pb_0 (b := b1) Fw6_1))).kz K14 (tk4 (pb_1 (b := b1) Fw13_1 (pb_0 Fw6_1)) (pb_1 (b := b1) Fw13_3 (pb_0 Fw6_3)) (pb_1 (b := b1) Fw13_5 (pb_0 Fw6_5)) (pb_1 (b := b1) Fw13_7 (pb_0 Fw6_7)))).gr G15).kz K25 (tk1 (pb_1 (b := b1) Fw14_3 (pb_0 Fw6_3)))).kz K26)
     refine qv rfl (vv_load1 (v := bv p0.Kind) one_5 rfl B170 rfl)<|qv rfl (vv_eqlB (p := p0.Kind) (q := 1#8) rfl rfl)<|qp rfl (vv_move rfl) (fun c22 => ?_) (fun c22 => ?_)
     · replace hm := iT c22 hm
       refine qm rfl<|qv rfl (vv_eql (a := a35) (b := 0) rfl rfl)<|qm rfl<|qm rfl<|qm rfl<|sd_nil ?_
       exact ⟨rfl, (decide (a35 = 0)), sbq, hm, kz0⟩
     replace hm := iF c22 hm
     refine qk rfl<|qk rfl<|qm rfl<|qm rfl<|qm rfl<|sd_nil ?_
     exact ⟨rfl, false, sbq, hm, kz0⟩
   clear hm; rintro a96 w28 ⟨hm, K28⟩
   have z141 := K28.size
   unfold plan_newTables_J9 at hm
   refine sw_cond rfl (fun c19 => ?_) (fun c19 => ?_)
   · replace hm := cnd_t c19 hm
     refine qg 4 rfl<|qm rfl<|qm rfl ?_
     obtain ⟨j97, hj97, hm⟩ := bnd hm
     obtain ⟨y98, hy98, hm⟩ := bnd hm
     refine qv rfl (vv_ixVw (sz := 1) rfl (viewG_nn hnn86) Try.underlying32 (one_3).siz rfl rfl hj97) ?_
     have B142 := ((Fw25_0.kz K26).kz K28)
     have zo143 := Own.z1 B142 hy98
     refine qe rfl (ev_stEl (i := j97) (q := 0) (a' := 0) (vs := [.int .i64 0]) (c := ic) (one_3).siz rfl rfl rfl rfl rfl B142 hy98 (by first | rfl | omega) rfl rfl ⟨rfl, rfl⟩) ?_
     rintro _ w29 ⟨Ow29, M29⟩
     have z144 := M29.size
     refine sd_nil<|block_n<|block_n<|then_n<|qg 2 rfl<|qv rfl (vv_add (k := .i64) (a := a90) (b := 1) rfl rfl)<|qm rfl ?_
     refine sd_nil ?_
     have K_145 : Kz [(1, b4), (zy22, gy22)] w15 w29 := (((K25.kz K26).kz K28).md M29 (tk1 (tk0 : zy22 = 0 ∨ (gy22 = gy22 ∧ zy22 ≠ 0) ∨ w15.heap.size ≤ gy22)))
     have B146 := (((Fw25_2.kz K26).kz K28).md M29 (tk1 (pb_1 (b := b4) Fw25_1 (pb_0 Fw6_3))))
     subst hrec7
     exact ⟨rfl, ⟨n7, w64 (a90 + 1), a91.set j97.toNat 0⟩, sbq, ⟨hm, Ow29, ⟨tk0⟩, B146, K_145⟩, Nat.lt_succ_self _⟩
   replace hm := cnd_f c19 hm
   refine qs 3 rfl<|qm rfl<|qv rfl (vv_eql (a := a35) (b := 0) rfl rfl)<|qm rfl<|sd_done<|sw_cond rfl (fun c20 => ?_) (fun c20 => ?_)
   · replace hm := iT c20 hm
     refine qg 7 rfl<|qm rfl<|qm rfl<|qm rfl<|qm rfl ?_
     have B147 := ((Fw25_2.kz K26).kz K28)
     have B148 := (((B127.kz K25 (tk2 ((tk1 Fw14_8.o) : zy21 = 0 ∨ zy22 = 0 ∨ gy21 ≠ gy22) (pb_1 (b := b4) Fw14_1 (pb_0 Fw6_1)))).kz K26).kz K28)
     have B149 := ((Fw25_0.kz K26).kz K28)
     have B150 := (((B128.kz K25 (tk2 ((tk1 Fw14_10.o) : zy23 = 0 ∨ zy22 = 0 ∨ gy23 ≠ gy22) (pb_1 (b := b4) Fw14_5 (pb_0 Fw6_5)))).kz K26).kz K28)
     have B151 := (((B129.kz K25 (tk2 ((tk1 Fw14_12.o) : zy24 = 0 ∨ zy22 = 0 ∨ gy24 ≠ gy22) (pb_1 (b := b4) Fw14_7 (pb_0 Fw6_7)))).kz K26).kz K28)
     obtain ⟨x99, hx99, hm⟩ := bnd hm
     refine qe rfl (eC en_87 rfl (plan_tables_more_w hx99 B147 (Own.rd B148) (Own.rd B149) (Own.rd B150) (Own.rd B151))) ?_
     rintro _ w30 ⟨rfl, G30⟩
     have z152 := G30.size
     obtain ⟨j100, hj100, hm⟩ := bnd hm
     obtain ⟨y101, hy101, hm⟩ := bnd hm
     refine qv rfl (vv_ixVw (sz := 1) rfl (viewG_nn hnn86) Try.underlying32 (one_3).siz rfl rfl hj100) ?_
     have B153 := (B149.gr G30)
     have zo154 := Own.z1 B153 hy101
     refine qe rfl (ev_stEl (i := j100) (q := 0) (a' := x99) (vs := [.int .i64 x99]) (c := ic) (one_3).siz rfl rfl rfl rfl rfl B153 hy101 (by first | rfl | omega) rfl rfl ⟨rfl, rfl⟩) ?_
     rintro _ w31 ⟨Ow31, M31⟩
     have z155 := M31.size
     refine sd_nil<|block_n<|block_n<|then_n<|qg 2 rfl<|qv rfl (vv_add (k := .i64) (a := a90) (b := 1) rfl rfl)<|qm rfl ?_
     refine sd_nil ?_
     have K_156 : Kz [(1, b4), (zy22, gy22)] w15 w31 := ((((K25.kz K26).kz K28).gr G30).md M31 (tk1 (tk0 : zy22 = 0 ∨ (gy22 = gy22 ∧ zy22 ≠ 0) ∨ w15.heap.size ≤ gy22)))
     have B157 := ((B147.gr G30).md M31 (tk1 (pb_1 (b := b4) Fw25_1 (pb_0 Fw6_3))))
     subst hrec7
     exact ⟨rfl, ⟨n7, w64 (a90 + 1), a91.set j100.toNat x99⟩, sbq, ⟨hm, Ow31, ⟨tk0⟩, B157, K_156⟩, Nat.lt_succ_self _⟩
   replace hm := iF c20 hm
   refine qg 12 rfl<|qm rfl<|qm rfl<|qm rfl<|qm rfl<|qm rfl<|qm rfl ?_
   have B158 := ((Fw25_2.kz K26).kz K28)
   have B159 := (((B127.kz K25 (tk2 ((tk1 Fw14_8.o) : zy21 = 0 ∨ zy22 = 0 ∨ gy21 ≠ gy22) (pb_1 (b := b4) Fw14_1 (pb_0 Fw6_1)))).kz K26).kz K28)
   have B160 := ((Fw25_0.kz K26).kz K28)
   have B161 := (((B128.kz K25 (tk2 ((tk1 Fw14_10.o) : zy23 = 0 ∨ zy22 = 0 ∨ gy23 ≠ gy22) (pb_1 (b := b4) Fw14_5 (pb_0 Fw6_5)))).kz K26).kz K28)
   have B162 := (((B129.kz K25 (tk2 ((tk1 Fw14_12.o) : zy24 = 0 ∨ zy22 = 0 ∨ gy24 ≠ gy22) (pb_1 (b := b4) Fw14_7 (pb_0 Fw6_7)))).kz K26).kz K28)
   obtain ⟨x102, hx102, hm⟩ := bnd hm
   refine qe rfl (eC en_82 rfl (plan_tables_best_w hx102 B158 (Own.rd B159) (Own.rd B160) (Own.rd B161) (Own.rd B162))) ?_
   rintro _ w32 ⟨rfl, G32⟩
   have z163 := G32.size
   refine qm rfl<|qm rfl<|qm rfl ?_
   obtain ⟨j103, hj103, hm⟩ := bnd hm
   obtain ⟨y104, hy104, hm⟩ := bnd hm
   refine qv rfl (vv_ixVw (sz := 1) rfl (viewG_nn hnn86) Try.underlying32 (one_3).siz rfl rfl hj103) ?_
   have B164 := (B160.gr G32)
   have zo165 := Own.z1 B164 hy104
   refine qe rfl (ev_stEl (i := j103) (q := 0) (a' := x102.1) (vs := [.int .i64 x102.1]) (c := ic) (one_3).siz rfl rfl rfl rfl rfl B164 hy104 (by first | rfl | omega) rfl rfl ⟨rfl, rfl⟩) ?_
   rintro _ w33 ⟨Ow33, M33⟩
   have z166 := M33.size
   refine sd_nil<|block_n<|block_n<|then_n<|qg 2 rfl<|qv rfl (vv_add (k := .i64) (a := a90) (b := 1) rfl rfl)<|qm rfl ?_
   refine sd_nil ?_
   have K_167 : Kz [(1, b4), (zy22, gy22)] w15 w33 := ((((K25.kz K26).kz K28).gr G32).md M33 (tk1 (tk0 : zy22 = 0 ∨ (gy22 = gy22 ∧ zy22 ≠ 0) ∨ w15.heap.size ≤ gy22)))
   have B168 := ((B158.gr G32).md M33 (tk1 (pb_1 (b := b4) Fw25_1 (pb_0 Fw6_3))))
   subst hrec7
   exact ⟨rfl, ⟨n7, w64 (a90 + 1), a91.set j103.toNat x102.1⟩, sbq, ⟨hm, Ow33, ⟨tk0⟩, B168, K_167⟩, Nat.lt_succ_self _⟩
 replace hm := ite_f c16 hm
 by_cases c24 : a56 = 2
 · replace hm := ite_t c24 hm
   refine qv rfl (vv_ixE 2 Try.underlying94 (one_32).siz rfl rfl c24 (by decide)) ?_
   have B180 := (Fw14_14.gr G15)
   refine qv rfl (vv_load1 (v := vy23) one_32 rfl B180 rfl)<|qm rfl<|qm rfl<|qm rfl ?_
   have B181 := (Fw14_4.gr G15)
   obtain ⟨nn105, hnn105, hm⟩ := bnd hm
   refine qv rfl (vv_sliV (c := ic) Try.underlying32 (one_3).siz rfl B181 rfl rfl rfl hnn105)<|qm rfl<|sd_done<|sw_ret<|⟨_, _, rfl, res_1 rfl (rv_tmp rfl), ?_⟩
   refine qm rfl<|qd 3 rfl<|qm rfl<|qv rfl (vv_lenS Try.underlying32 rfl)<|qm rfl ?_
   refine sd_done<|sw_block ?_
   have X182 := ((X60.kz K14 (tk4 (pv_1 (A := (fun x => w.heap.size ≤ x)) Fw13_1 (pv_0 (A := (fun x => w.heap.size ≤ x)) Fw6_1)) (pv_1 (A := (fun x => w.heap.size ≤ x)) Fw13_3 (pv_0 (A := (fun x => w.heap.size ≤ x)) Fw6_3)) (pv_1 (A := (fun x => w.heap.size ≤ x)) Fw13_5 (pv_0 (A := (fun x => w.heap.size ≤ x)) Fw6_5)) (pv_1 (A := (fun x => w.heap.size ≤ x)) Fw13_7 (pv_0 (A := (fun x => w.heap.size ≤ x)) Fw6_7)))).trans G15)
   have B183 := (Fw14_0.gr G15)
   have B184 := (Fw14_2.gr G15)
   have B185 := (Fw14_6.gr G15)
   refine sw_loopD (α := Nat × Int × List Int) ([9] ++ rg 63 50) (fun ⟨n10, a109, a110⟩ => [(63, .int .i64 a109)]) (fun ⟨n10, a109, a110⟩ wr => (fixN (plan_newTables_L10 p0 y1 x2 a35 a56 a57 a58 a60 rec3 nn65 nn105) n10 (a109, a110) = some r) ∧ Own wr zy23 gy23 3 1 vy23 (a110.map ic) ∧ Hdn (zy23 = 0 ∨ (gy23 = gy23 ∧ zy23 ≠ 0) ∨ w15.heap.size ≤ gy23) ∧ Bx wr b4 96 (Tplan_tables.cs (Tplan_tables.mk p0 x2 (TA4_slice.mk a57 a58 a110 a60) y1) vy21 vy22 vy23 vy24) ∧ Kz [(1, b4), (zy23, gy23)] w15 wr) (fun ⟨n10, a109, a110⟩ => n10) ⟨FUEL, 0, a59⟩ ?_ ?_ ?_
   · exact sbq
   · exact ⟨hm, B181, ⟨tk0⟩, B180, Kz.refl _ _⟩
   clear hm; rintro ⟨n10, a109, a110⟩ w34 ⟨hm, Fw34_0, Fw34_1, Fw34_2, K34⟩
   have z186 := K34.size
   have lt187 := Fw34_0.lth
   have lt188 := Fw34_2.lt
   have hb := fix_succ hm; clear hm; obtain ⟨n10, rfl, hm⟩ := hb
   generalize hrec10 : fixN (plan_newTables_L10 p0 y1 x2 a35 a56 a57 a58 a60 rec3 nn65 nn105) n10 = rec10 at hm
   unfold plan_newTables_L10 at hm
   try dsimp only at hm
   refine qs 1 rfl<|qv rfl (vv_lss (a := a109) (b := (nn105 : Int)) rfl rfl)<|sd_done<|sw_seq<|cnF rfl (fun c25 => ?_) (fun c25 => ?_)
   · replace hm := iF c25 hm
     refine sw_exit<|then_x<|then_x<|block_x<|block_n<|then_n<|qg 2 rfl ?_
     refine qv rfl (vv_add (k := .i64) (a := a56) (b := 1) rfl rfl)<|qm rfl<|sd_nil ?_
     have K_232 : Kz [(1, b4), (zy21, gy21), (zy22, gy22), (zy23, gy23), (zy24, gy24)] w13 w34 := ((K14.gr G15).kz K34 (tk1 (tk0 : zy23 = 0 ∨ (gy23 = gy21 ∧ zy21 ≠ 0) ∨ (gy23 = gy22 ∧ zy22 ≠ 0) ∨ (gy23 = gy23 ∧ zy23 ≠ 0) ∨ (gy23 = gy24 ∧ zy24 ≠ 0) ∨ w13.heap.size ≤ gy23)))
     have B233 := (B183.kz K34 (tk2 ((tk1 Fw14_9.o) : zy21 = 0 ∨ zy23 = 0 ∨ gy21 ≠ gy23) (pb_1 (b := b4) Fw14_1 (pb_0 Fw6_1))))
     have B234 := (B184.kz K34 (tk2 ((tk1 Fw14_10.o) : zy22 = 0 ∨ zy23 = 0 ∨ gy22 ≠ gy23) (pb_1 (b := b4) Fw14_3 (pb_0 Fw6_3))))
     have B235 := (B185.kz K34 (tk2 ((tk1 Fw14_13.o) : zy24 = 0 ∨ zy23 = 0 ∨ gy24 ≠ gy23) (pb_1 (b := b4) Fw14_7 (pb_0 Fw6_7))))
     subst hrec3
     exact ⟨rfl, ⟨n3, w64 (a56 + 1), a57, a58, a110, a60⟩, sbq, ⟨hm, B233, ⟨tk0⟩, B234, ⟨tk0⟩, Fw34_0, ⟨tk0⟩, B235, ⟨tk0⟩, ⟨(tk1 Fw14_8.o)⟩, ⟨(pv_1 (A := (fun x => zy21 = 0 ∨ x ≠ gy21)) Fw34_1 (pv_sw (pv_1 (A := (fun x => zy23 = 0 ∨ x ≠ gy23)) Fw14_1 (tk1 Fw6_9.o) (fun x hx => (tk1 lt15.o)))) (fun x hx => (tk1 lt62.o)))⟩, ⟨(pv_1 (A := (fun x => zy22 = 0 ∨ x ≠ gy22)) Fw34_1 (pv_sw (pv_1 (A := (fun x => zy23 = 0 ∨ x ≠ gy23)) Fw14_3 (tk1 Fw6_10.o) (fun x hx => (tk1 lt15.o)))) (fun x hx => (tk1 lt63.o)))⟩, ⟨(tk1 Fw14_11.o)⟩, ⟨(tk1 Fw14_12.o)⟩, ⟨(pv_sw (pv_1 (A := (fun x => zy24 = 0 ∨ x ≠ gy24)) Fw34_1 (pv_sw (pv_1 (A := (fun x => zy23 = 0 ∨ x ≠ gy23)) Fw14_7 (tk1 Fw6_13.o) (fun x hx => (tk1 lt15.o)))) (fun x hx => (tk1 lt65.o))))⟩, Fw34_2, K_232⟩, Nat.lt_succ_self _⟩
   replace hm := iT c25 hm
   refine qu<|sw_seq<|sw_block<|qs 2 rfl<|qm rfl ?_
   refine qm rfl<|sd_done<|sw_block ?_
   have X189 := (X182.kz K34 (tk1 (pv_1 (A := (fun x => w.heap.size ≤ x)) Fw14_5 (pv_0 (A := (fun x => w.heap.size ≤ x)) Fw6_5))))
   refine qj (β := Bool) (rg 77 8) (fun a112 => [(77, .bool a112)]) (fun a112 wr => (plan_newTables_J11 p0 y1 x2 a35 a56 a57 a58 a60 nn65 nn105 a109 a110 rec10 a112 = some r) ∧ Kz [] w34 wr) ?_ ?_
   · refine qg 8 rfl<|qv rfl (vv_fieldAddr fa_26_0 rfl) ?_
     have B229 := ((((B52.kz K13 (tk4 (pb_0 (b := b1) Fw6_3) (pb_0 (b := b1) Fw6_5) (pb_0 (b := b1) Fw6_7) (pb_0 (b := b1) Fw6_1))).kz K14 (tk4 (pb_1 (b := b1) Fw13_1 (pb_0 Fw6_1)) (pb_1 (b := b1) Fw13_3 (pb_0 Fw6_3)) (pb_1 (b := b1) Fw13_5 (pb_0 Fw6_5)) (pb_1 (b := b1) Fw13_7 (pb_0 Fw6_7)))).gr G15).kz K34 (tk1 (pb_1 (b := b1) Fw14_5 (pb_0 Fw6_5))))
     refine qv rfl (vv_load1 (v := bv p0.Kind) one_5 rfl B229 rfl)<|qv rfl (vv_eqlB (p := p0.Kind) (q := 1#8) rfl rfl)<|qp rfl (vv_move rfl) (fun c31 => ?_) (fun c31 => ?_)
     · replace hm := iT c31 hm
       refine qm rfl<|qv rfl (vv_eql (a := a109) (b := 0) rfl rfl)<|qm rfl<|qm rfl<|sd_nil ?_
       exact ⟨rfl, (decide (a109 = 0)), sbq, hm, kz0⟩
     replace hm := iF c31 hm
     refine qk rfl<|qk rfl<|qm rfl<|qm rfl<|sd_nil ?_
     exact ⟨rfl, false, sbq, hm, kz0⟩
   clear hm; rintro a112 w35 ⟨hm, K35⟩
   have z190 := K35.size
   unfold plan_newTables_J11 at hm
   refine sw_cond rfl (fun c26 => ?_) (fun c26 => ?_)
   · replace hm := cnd_t c26 hm
     refine qg 4 rfl<|qm rfl<|qm rfl ?_
     obtain ⟨j113, hj113, hm⟩ := bnd hm
     obtain ⟨y114, hy114, hm⟩ := bnd hm
     refine qv rfl (vv_ixVw (sz := 1) rfl (viewG_nn hnn105) Try.underlying32 (one_3).siz rfl rfl hj113) ?_
     have B191 := (Fw34_0.kz K35)
     have zo192 := Own.z1 B191 hy114
     refine qe rfl (ev_stEl (i := j113) (q := 0) (a' := 1) (vs := [.int .i64 1]) (c := ic) (one_3).siz rfl rfl rfl rfl rfl B191 hy114 (by first | rfl | omega) rfl rfl ⟨rfl, rfl⟩) ?_
     rintro _ w36 ⟨Ow36, M36⟩
     have z193 := M36.size
     refine sd_nil<|block_n<|block_n<|then_n<|qg 2 rfl<|qv rfl (vv_add (k := .i64) (a := a109) (b := 1) rfl rfl)<|qm rfl ?_
     refine sd_nil ?_
     have K_194 : Kz [(1, b4), (zy23, gy23)] w15 w36 := ((K34.kz K35).md M36 (tk1 (tk0 : zy23 = 0 ∨ (gy23 = gy23 ∧ zy23 ≠ 0) ∨ w15.heap.size ≤ gy23)))
     have B195 := ((Fw34_2.kz K35).md M36 (tk1 (pb_1 (b := b4) Fw34_1 (pb_0 Fw6_5))))
     subst hrec10
     exact ⟨rfl, ⟨n10, w64 (a109 + 1), a110.set j113.toNat 1⟩, sbq, ⟨hm, Ow36, ⟨tk0⟩, B195, K_194⟩, Nat.lt_succ_self _⟩
   replace hm := cnd_f c26 hm
   have X196 := (X189.kz K35)
   refine qj (β := Bool) (rg 88 12) (fun a115 => [(88, .bool a115)]) (fun a115 wr => (plan_newTables_J12 p0 y1 x2 a35 a56 a57 a58 a60 nn65 nn105 a109 a110 rec10 a115 = some r) ∧ Kz [] w35 wr) ?_ ?_
   · refine qg 12 rfl<|qm rfl<|qv rfl (vv_eql (a := a109) (b := 0) rfl rfl)<|qp rfl (vv_move rfl) (fun c29 => ?_) (fun c29 => ?_)
     · replace hm := iT c29 hm
       refine qk rfl<|qk rfl<|qk rfl<|qk rfl<|qk rfl<|qk rfl<|qk rfl ?_
       refine qm rfl<|qm rfl<|sd_nil ?_
       exact ⟨rfl, true, sbq, hm, kz0⟩
     replace hm := iF c29 hm
     refine qv rfl (vv_fieldAddr fa_26_0 rfl) ?_
     have B226 := (((((B52.kz K13 (tk4 (pb_0 (b := b1) Fw6_3) (pb_0 (b := b1) Fw6_5) (pb_0 (b := b1) Fw6_7) (pb_0 (b := b1) Fw6_1))).kz K14 (tk4 (pb_1 (b := b1) Fw13_1 (pb_0 Fw6_1)) (pb_1 (b := b1) Fw13_3 (pb_0 Fw6_3)) (pb_1 (b := b1) Fw13_5 (pb_0 Fw6_5)) (pb_1 (b := b1) Fw13_7 (pb_0 Fw6_7)))).gr G15).kz K34 (tk1 (pb_1 (b := b1) Fw14_5 (pb_0 Fw6_5)))).kz K35)
     refine qv rfl (vv_load1 (v := bv p0.Kind) one_5 rfl B226 rfl)<|qv rfl (vv_eqlB (p := p0.Kind) (q := 1#8) rfl rfl)<|qp rfl (vv_move rfl) (fun c30 => ?_) (fun c30 => ?_)
     · replace hm := iT c30 hm
       refine qm rfl<|qv rfl (vv_eql (a := a35) (b := 0) rfl rfl)<|qm rfl<|qm rfl<|qm rfl<|sd_nil ?_
       exact ⟨rfl, (decide (a35 = 0)), sbq, hm, kz0⟩
     replace hm := iF c30 hm
     refine qk rfl<|qk rfl<|qm rfl<|qm rfl<|qm rfl<|sd_nil ?_
     exact ⟨rfl, false, sbq, hm, kz0⟩
   clear hm; rintro a115 w37 ⟨hm, K37⟩
   have z197 := K37.size
   unfold plan_newTables_J12 at hm
   refine sw_cond rfl (fun c27 => ?_) (fun c27 => ?_)
   · replace hm := cnd_t c27 hm
     refine qg 4 rfl<|qm rfl<|qm rfl ?_
     obtain ⟨j116, hj116, hm⟩ := bnd hm
     obtain ⟨y117, hy117, hm⟩ := bnd hm
     refine qv rfl (vv_ixVw (sz := 1) rfl (viewG_nn hnn105) Try.underlying32 (one_3).siz rfl rfl hj116) ?_
     have B198 := ((Fw34_0.kz K35).kz K37)
     have zo199 := Own.z1 B198 hy117
     refine qe rfl (ev_stEl (i := j116) (q := 0) (a' := 0) (vs := [.int .i64 0]) (c := ic) (one_3).siz rfl rfl rfl rfl rfl B198 hy117 (by first | rfl | omega) rfl rfl ⟨rfl, rfl⟩) ?_
     rintro _ w38 ⟨Ow38, M38⟩
     have z200 := M38.size
     refine sd_nil<|block_n<|block_n<|then_n<|qg 2 rfl<|qv rfl (vv_add (k := .i64) (a := a109) (b := 1) rfl rfl)<|qm rfl ?_
     refine sd_nil ?_
     have K_201 : Kz [(1, b4), (zy23, gy23)] w15 w38 := (((K34.kz K35).kz K37).md M38 (tk1 (tk0 : zy23 = 0 ∨ (gy23 = gy23 ∧ zy23 ≠ 0) ∨ w15.heap.size ≤ gy23)))
     have B202 := (((Fw34_2.kz K35).kz K37).md M38 (tk1 (pb_1 (b := b4) Fw34_1 (pb_0 Fw6_5))))
     subst hrec10
     exact ⟨rfl, ⟨n10, w64 (a109 + 1), a110.set j116.toNat 0⟩, sbq, ⟨hm, Ow38, ⟨tk0⟩, B202, K_201⟩, Nat.lt_succ_self _⟩
   replace hm := cnd_f c27 hm
   refine qs 3 rfl<|qm rfl<|qv rfl (vv_eql (a := a35) (b := 0) rfl rfl)<|qm rfl<|sd_done<|sw_cond rfl (fun c28 => ?_) (fun c28 => ?_)
   · replace hm := iT c28 hm
     refine qg 7 rfl<|qm rfl<|qm rfl<|qm rfl<|qm rfl ?_
     have B203 := ((Fw34_2.kz K35).kz K37)
     have B204 := (((B183.kz K34 (tk2 ((tk1 Fw14_9.o) : zy21 = 0 ∨ zy23 = 0 ∨ gy21 ≠ gy23) (pb_1 (b := b4) Fw14_1 (pb_0 Fw6_1)))).kz K35).kz K37)
     have B205 := (((B184.kz K34 (tk2 ((tk1 Fw14_10.o) : zy22 = 0 ∨ zy23 = 0 ∨ gy22 ≠ gy23) (pb_1 (b := b4) Fw14_3 (pb_0 Fw6_3)))).kz K35).kz K37)
     have B206 := ((Fw34_0.kz K35).kz K37)
     have B207 := (((B185.kz K34 (tk2 ((tk1 Fw14_13.o) : zy24 = 0 ∨ zy23 = 0 ∨ gy24 ≠ gy23) (pb_1 (b := b4) Fw14_7 (pb_0 Fw6_7)))).kz K35).kz K37)
     obtain ⟨x118, hx118, hm⟩ := bnd hm
     refine qe rfl (eC en_87 rfl (plan_tables_more_w hx118 B203 (Own.rd B204) (Own.rd B205) (Own.rd B206) (Own.rd B207))) ?_
     rintro _ w39 ⟨rfl, G39⟩
     have z208 := G39.size
     obtain ⟨j119, hj119, hm⟩ := bnd hm
     obtain ⟨y120, hy120, hm⟩ := bnd hm
     refine qv rfl (vv_ixVw (sz := 1) rfl (viewG_nn hnn105) Try.underlying32 (one_3).siz rfl rfl hj119) ?_
     have B209 := (B206.gr G39)
     have zo210 := Own.z1 B209 hy120
     refine qe rfl (ev_stEl (i := j119) (q := 0) (a' := x118) (vs := [.int .i64 x118]) (c := ic) (one_3).siz rfl rfl rfl rfl rfl B209 hy120 (by first | rfl | omega) rfl rfl ⟨rfl, rfl⟩) ?_
     rintro _ w40 ⟨Ow40, M40⟩
     have z211 := M40.size
     refine sd_nil<|block_n<|block_n<|then_n<|qg 2 rfl<|qv rfl (vv_add (k := .i64) (a := a109) (b := 1) rfl rfl)<|qm rfl ?_
     refine sd_nil ?_
     have K_212 : Kz [(1, b4), (zy23, gy23)] w15 w40 := ((((K34.kz K35).kz K37).gr G39).md M40 (tk1 (tk0 : zy23 = 0 ∨ (gy23 = gy23 ∧ zy23 ≠ 0) ∨ w15.heap.size ≤ gy23)))
     have B213 := ((B203.gr G39).md M40 (tk1 (pb_1 (b := b4) Fw34_1 (pb_0 Fw6_5))))
     subst hrec10
     exact ⟨rfl, ⟨n10, w64 (a109 + 1), a110.set j119.toNat x118⟩, sbq, ⟨hm, Ow40, ⟨tk0⟩, B213, K_212⟩, Nat.lt_succ_self _⟩
   replace hm := iF c28 hm
   refine qg 12 rfl<|qm rfl<|qm rfl<|qm rfl<|qm rfl<|qm rfl<|qm rfl ?_
   have B214 := ((Fw34_2.kz K35).kz K37)
   have B215 := (((B183.kz K34 (tk2 ((tk1 Fw14_9.o) : zy21 = 0 ∨ zy23 = 0 ∨ gy21 ≠ gy23) (pb_1 (b := b4) Fw14_1 (pb_0 Fw6_1)))).kz K35).kz K37)
   have B216 := (((B184.kz K34 (tk2 ((tk1 Fw14_10.o) : zy22 = 0 ∨ zy23 = 0 ∨ gy22 ≠ gy23) (pb_1 (b := b4) Fw14_3 (pb_0 Fw6_3)))).kz K35).kz K37)
   have B217 := ((Fw34_0.kz K35).kz K37)
   have B218 := (((B185.kz K34 (tk2 ((tk1 Fw14_13.o) : zy24 = 0 ∨ zy23 = 0 ∨ gy24 ≠ gy23) (pb_1 (b := b4) Fw14_7 (pb_0 Fw6_7)))).kz K35).kz K37)
   obtain ⟨x121, hx121, hm⟩ := bnd hm
   refine qe rfl (eC en_82 rfl (plan_tables_best_w hx121 B214 (Own.rd B215) (Own.rd B216) (Own.rd B217) (Own.rd B218))) ?_
   rintro _ w41 ⟨rfl, G41⟩
   have z219 := G41.size
   refine qm rfl<|qm rfl<|qm rfl ?_
   obtain ⟨j122, hj122, hm⟩ := bnd hm
   obtain ⟨y123, hy123, hm⟩ := bnd hm
   refine qv rfl (vv_ixVw (sz := 1) rfl (viewG_nn hnn105) Try.underlying32 (one_3).siz rfl rfl hj122) ?_
   have B220 := (B217.gr G41)
   have zo221 := Own.z1 B220 hy123
   refine qe rfl (ev_stEl (i := j122) (q := 0) (a' := x121.1) (vs := [.int .i64 x121.1]) (c := ic) (one_3).siz rfl rfl rfl rfl rfl B220 hy123 (by first | rfl | omega) rfl rfl ⟨rfl, rfl⟩) ?_
   rintro _ w42 ⟨Ow42, M42⟩
   have z222 := M42.size
   refine sd_nil<|block_n<|block_n<|then_n<|qg 2 rfl<|qv rfl (vv_add (k := .i64) (a := a109) (b := 1) rfl rfl)<|qm rfl ?_
   refine sd_nil ?_
   have K_223 : Kz [(1, b4), (zy23, gy23)] w15 w42 := ((((K34.kz K35).kz K37).gr G41).md M42 (tk1 (tk0 : zy23 = 0 ∨ (gy23 = gy23 ∧ zy23 ≠ 0) ∨ w15.heap.size ≤ gy23)))
   have B224 := ((B214.gr G41).md M42 (tk1 (pb_1 (b := b4) Fw34_1 (pb_0 Fw6_5))))
   subst hrec10
   exact ⟨rfl, ⟨n10, w64 (a109 + 1), a110.set j122.toNat x121.1⟩, sbq, ⟨hm, Ow42, ⟨tk0⟩, B224, K_223⟩, Nat.lt_succ_self _⟩
 replace hm := ite_f c24 hm
 by_cases c32 : a56 = 3
 · replace hm := ite_t c32 hm
   refine qv rfl (vv_ixE 3 Try.underlying94 (one_32).siz rfl rfl c32 (by decide)) ?_
   have B236 := (Fw14_14.gr G15)
   refine qv rfl (vv_load1 (v := vy24) one_32 rfl B236 rfl)<|qm rfl<|qm rfl<|qm rfl ?_
   have B237 := (Fw14_6.gr G15)
   obtain ⟨nn124, hnn124, hm⟩ := bnd hm
   refine qv rfl (vv_sliV (c := ic) Try.underlying32 (one_3).siz rfl B237 rfl rfl rfl hnn124)<|qm rfl<|sd_done<|sw_ret<|⟨_, _, rfl, res_1 rfl (rv_tmp rfl), ?_⟩
   refine qm rfl<|qd 3 rfl<|qm rfl<|qv rfl (vv_lenS Try.underlying32 rfl)<|qm rfl ?_
   refine sd_done<|sw_block ?_
   have X238 := ((X60.kz K14 (tk4 (pv_1 (A := (fun x => w.heap.size ≤ x)) Fw13_1 (pv_0 (A := (fun x => w.heap.size ≤ x)) Fw6_1)) (pv_1 (A := (fun x => w.heap.size ≤ x)) Fw13_3 (pv_0 (A := (fun x => w.heap.size ≤ x)) Fw6_3)) (pv_1 (A := (fun x => w.heap.size ≤ x)) Fw13_5 (pv_0 (A := (fun x => w.heap.size ≤ x)) Fw6_5)) (pv_1 (A := (fun x => w.heap.size ≤ x)) Fw13_7 (pv_0 (A := (fun x => w.heap.size ≤ x)) Fw6_7)))).trans G15)
   have B239 := (Fw14_0.gr G15)
   have B240 := (Fw14_2.gr G15)
   have B241 := (Fw14_4.gr G15)
   refine sw_loopD (α := Nat × Int × List Int) ([9] ++ rg 63 50) (fun ⟨n13, a128, a129⟩ => [(63, .int .i64 a128)]) (fun ⟨n13, a128, a129⟩ wr => (fixN (plan_newTables_L13 p0 y1 x2 a35 a56 a57 a58 a59 rec3 nn65 nn124) n13 (a128, a129) = some r) ∧ Own wr zy24 gy24 3 1 vy24 (a129.map ic) ∧ Hdn (zy24 = 0 ∨ (gy24 = gy24 ∧ zy24 ≠ 0) ∨ w15.heap.size ≤ gy24) ∧ Bx wr b4 96 (Tplan_tables.cs (Tplan_tables.mk p0 x2 (TA4_slice.mk a57 a58 a59 a129) y1) vy21 vy22 vy23 vy24) ∧ Kz [(1, b4), (zy24, gy24)] w15 wr) (fun ⟨n13, a128, a129⟩ => n13) ⟨FUEL, 0, a60⟩ ?_ ?_ ?_
   · exact sbq
   · exact ⟨hm, B237, ⟨tk0⟩, B236, Kz.refl _ _⟩
   clear hm; rintro ⟨n13, a128, a129⟩ w43 ⟨hm, Fw43_0, Fw43_1, Fw43_2, K43⟩
   have z242 := K43.size
   have lt243 := Fw43_0.lth
   have lt244 := Fw43_2.lt
   have hb := fix_succ hm; clear hm; obtain ⟨n13, rfl, hm⟩ := hb
   generalize hrec13 : fixN (plan_newTables_L13 p0 y1 x2 a35 a56 a57 a58 a59 rec3 nn65 nn124) n13 = rec13 at hm
   unfold plan_newTables_L13 at hm
   try dsimp only at hm
   refine qs 1 rfl<|qv rfl (vv_lss (a := a128) (b := (nn124 : Int)) rfl rfl)<|sd_done<|sw_seq<|cnF rfl (fun c33 => ?_) (fun c33 => ?_)
   · replace hm := iF c33 hm
     refine sw_exit<|then_x<|then_x<|block_x<|block_n<|then_n<|qg 2 rfl ?_
     refine qv rfl (vv_add (k := .i64) (a := a56) (b := 1) rfl rfl)<|qm rfl<|sd_nil ?_
     have K_288 : Kz [(1, b4), (zy21, gy21), (zy22, gy22), (zy23, gy23), (zy24, gy24)] w13 w43 := ((K14.gr G15).kz K43 (tk1 (tk0 : zy24 = 0 ∨ (gy24 = gy21 ∧ zy21 ≠ 0) ∨ (gy24 = gy22 ∧ zy22 ≠ 0) ∨ (gy24 = gy23 ∧ zy23 ≠ 0) ∨ (gy24 = gy24 ∧ zy24 ≠ 0) ∨ w13.heap.size ≤ gy24)))
     have B289 := (B239.kz K43 (tk2 ((tk1 Fw14_11.o) : zy21 = 0 ∨ zy24 = 0 ∨ gy21 ≠ gy24) (pb_1 (b := b4) Fw14_1 (pb_0 Fw6_1))))
     have B290 := (B240.kz K43 (tk2 ((tk1 Fw14_12.o) : zy22 = 0 ∨ zy24 = 0 ∨ gy22 ≠ gy24) (pb_1 (b := b4) Fw14_3 (pb_0 Fw6_3))))
     have B291 := (B241.kz K43 (tk2 ((tk1 Fw14_13.o) : zy23 = 0 ∨ zy24 = 0 ∨ gy23 ≠ gy24) (pb_1 (b := b4) Fw14_5 (pb_0 Fw6_5))))
     subst hrec3
     exact ⟨rfl, ⟨n3, w64 (a56 + 1), a57, a58, a59, a129⟩, sbq, ⟨hm, B289, ⟨tk0⟩, B290, ⟨tk0⟩, B291, ⟨tk0⟩, Fw43_0, ⟨tk0⟩, ⟨(tk1 Fw14_8.o)⟩, ⟨(tk1 Fw14_9.o)⟩, ⟨(tk1 Fw14_10.o)⟩, ⟨(pv_1 (A := (fun x => zy21 = 0 ∨ x ≠ gy21)) Fw43_1 (pv_sw (pv_1 (A := (fun x => zy24 = 0 ∨ x ≠ gy24)) Fw14_1 (tk1 Fw6_11.o) (fun x hx => (tk1 lt16.o)))) (fun x hx => (tk1 lt62.o)))⟩, ⟨(pv_1 (A := (fun x => zy22 = 0 ∨ x ≠ gy22)) Fw43_1 (pv_sw (pv_1 (A := (fun x => zy24 = 0 ∨ x ≠ gy24)) Fw14_3 (tk1 Fw6_12.o) (fun x hx => (tk1 lt16.o)))) (fun x hx => (tk1 lt63.o)))⟩, ⟨(pv_1 (A := (fun x => zy23 = 0 ∨ x ≠ gy23)) Fw43_1 (pv_sw (pv_1 (A := (fun x => zy24 = 0 ∨ x ≠ gy24)) Fw14_5 (tk1 Fw6_13.o) (fun x hx => (tk1 lt16.o)))) (fun x hx => (tk1 lt64.o)))⟩, Fw43_2, K_288⟩, Nat.lt_succ_self _⟩
   replace hm := iT c33 hm
   refine qu<|sw_seq<|sw_block<|qs 2 rfl<|qm rfl ?_
   refine qm rfl<|sd_done<|sw_block ?_
   have X245 := (X238.kz K43 (tk1 (pv_1 (A := (fun x => w.heap.size ≤ x)) Fw14_7 (pv_0 (A := (fun x => w.heap.size ≤ x)) Fw6_7))))
   refine qj (β := Bool) (rg 77 8) (fun a131 => [(77, .bool a131)]) (fun a131 wr => (plan_newTables_J14 p0 y1 x2 a35 a56 a57 a58 a59 nn65 nn124 a128 a129 rec13 a131 = some r) ∧ Kz [] w43 wr) ?_ ?_
   · refine qg 8 rfl<|qv rfl (vv_fieldAddr fa_26_0 rfl) ?_
     have B285 := ((((B52.kz K13 (tk4 (pb_0 (b := b1) Fw6_3) (pb_0 (b := b1) Fw6_5) (pb_0 (b := b1) Fw6_7) (pb_0 (b := b1) Fw6_1))).kz K14 (tk4 (pb_1 (b := b1) Fw13_1 (pb_0 Fw6_1)) (pb_1 (b := b1) Fw13_3 (pb_0 Fw6_3)) (pb_1 (b := b1) Fw13_5 (pb_0 Fw6_5)) (pb_1 (b := b1) Fw13_7 (pb_0 Fw6_7)))).gr G15).kz K43 (tk1 (pb_1 (b := b1) Fw14_7 (pb_0 Fw6_7))))
     refine qv rfl (vv_load1 (v := bv p0.Kind) one_5 rfl B285 rfl)<|qv rfl (vv_eqlB (p := p0.Kind) (q := 1#8) rfl rfl)<|qp rfl (vv_move rfl) (fun c39 => ?_) (fun c39 => ?_)
     · replace hm := iT c39 hm
       refine qm rfl<|qv rfl (vv_eql (a := a128) (b := 0) rfl rfl)<|qm rfl<|qm rfl<|sd_nil ?_
       exact ⟨rfl, (decide (a128 = 0)), sbq, hm, kz0⟩
     replace hm := iF c39 hm
     refine qk rfl<|qk rfl<|qm rfl<|qm rfl<|sd_nil ?_
     exact ⟨rfl, false, sbq, hm, kz0⟩
   clear hm; rintro a131 w44 ⟨hm, K44⟩
   have z246 := K44.size
   unfold plan_newTables_J14 at hm
   refine sw_cond rfl (fun c34 => ?_) (fun c34 => ?_)
   · replace hm := cnd_t c34 hm
     refine qg 4 rfl<|qm rfl<|qm rfl ?_
     obtain ⟨j132, hj132, hm⟩ := bnd hm
     obtain ⟨y133, hy133, hm⟩ := bnd hm
     refine qv rfl (vv_ixVw (sz := 1) rfl (viewG_nn hnn124) Try.underlying32 (one_3).siz rfl rfl hj132) ?_
     have B247 := (Fw43_0.kz K44)
     have zo248 := Own.z1 B247 hy133
     refine qe rfl (ev_stEl (i := j132) (q := 0) (a' := 1) (vs := [.int .i64 1]) (c := ic) (one_3).siz rfl rfl rfl rfl rfl B247 hy133 (by first | rfl | omega) rfl rfl ⟨rfl, rfl⟩) ?_
     rintro _ w45 ⟨Ow45, M45⟩
     have z249 := M45.size
     refine sd_nil<|block_n<|block_n<|then_n<|qg 2 rfl<|qv rfl (vv_add (k := .i64) (a := a128) (b := 1) rfl rfl)<|qm rfl ?_
     refine sd_nil ?_
     have K_250 : Kz [(1, b4), (zy24, gy24)] w15 w45 := ((K43.kz K44).md M45 (tk1 (tk0 : zy24 = 0 ∨ (gy24 = gy24 ∧ zy24 ≠ 0) ∨ w15.heap.size ≤ gy24)))
     have B251 := ((Fw43_2.kz K44).md M45 (tk1 (pb_1 (b := b4) Fw43_1 (pb_0 Fw6_7))))
     subst hrec13
     exact ⟨rfl, ⟨n13, w64 (a128 + 1), a129.set j132.toNat 1⟩, sbq, ⟨hm, Ow45, ⟨tk0⟩, B251, K_250⟩, Nat.lt_succ_self _⟩
   replace hm := cnd_f c34 hm
   have X252 := (X245.kz K44)
   refine qj (β := Bool) (rg 88 12) (fun a134 => [(88, .bool a134)]) (fun a134 wr => (plan_newTables_J15 p0 y1 x2 a35 a56 a57 a58 a59 nn65 nn124 a128 a129 rec13 a134 = some r) ∧ Kz [] w44 wr) ?_ ?_
   · refine qg 12 rfl<|qm rfl<|qv rfl (vv_eql (a := a128) (b := 0) rfl rfl)<|qp rfl (vv_move rfl) (fun c37 => ?_) (fun c37 => ?_)
     · replace hm := iT c37 hm
       refine qk rfl<|qk rfl<|qk rfl<|qk rfl<|qk rfl<|qk rfl<|qk rfl ?_
       refine qm rfl<|qm rfl<|sd_nil ?_
       exact ⟨rfl, true, sbq, hm, kz0⟩
     replace hm := iF c37 hm
     refine qv rfl (vv_fieldAddr fa_26_0 rfl) ?_
     have B282 := (((((B52.kz K13 (tk4 (pb_0 (b := b1) Fw6_3) (pb_0 (b := b1) Fw6_5) (pb_0 (b := b1) Fw6_7) (pb_0 (b := b1) Fw6_1))).kz K14 (tk4 (pb_1 (b := b1) Fw13_1 (pb_0 Fw6_1)) (pb_1 (b := b1) Fw13_3 (pb_0 Fw6_3)) (pb_1 (b := b1) Fw13_5 (pb_0 Fw6_5)) (pb_1 (b := b1) Fw13_7 (pb_0 Fw6_7)))).gr G15).kz K43 (tk1 (pb_1 (b := b1) Fw14_7 (pb_0 Fw6_7)))).kz K44)
     refine qv rfl (vv_load1 (v := bv p0.Kind) one_5 rfl B282 rfl)<|qv rfl (vv_eqlB (p := p0.Kind) (q := 1#8) rfl rfl)<|qp rfl (vv_move rfl) (fun c38 => ?_) (fun c38 => ?_)
     · replace hm := iT c38 hm
       refine qm rfl<|qv rfl (vv_eql (a := a35) (b := 0) rfl rfl)<|qm rfl<|qm rfl<|qm rfl<|sd_nil ?_
       exact ⟨rfl, (decide (a35 = 0)), sbq, hm, kz0⟩
     replace hm := iF c38 hm
     refine qk rfl<|qk rfl<|qm rfl<|qm rfl<|qm rfl<|sd_nil ?_
     exact ⟨rfl, false, sbq, hm, kz0⟩
   clear hm; rintro a134 w46 ⟨hm, K46⟩
   have z253 := K46.size
   unfold plan_newTables_J15 at hm
   refine sw_cond rfl (fun c35 => ?_) (fun c35 => ?_)
   · replace hm := cnd_t c35 hm
     refine qg 4 rfl<|qm rfl<|qm rfl ?_
     obtain ⟨j135, hj135, hm⟩ := bnd hm
     obtain ⟨y136, hy136, hm⟩ := bnd hm
     refine qv rfl (vv_ixVw (sz := 1) rfl (viewG_nn hnn124) Try.underlying32 (one_3).siz rfl rfl hj135) ?_
     have B254 := ((Fw43_0.kz K44).kz K46)
     have zo255 := Own.z1 B254 hy136
     refine qe rfl (ev_stEl (i := j135) (q := 0) (a' := 0) (vs := [.int .i64 0]) (c := ic) (one_3).siz rfl rfl rfl rfl rfl B254 hy136 (by first | rfl | omega) rfl rfl ⟨rfl, rfl⟩) ?_
     rintro _ w47 ⟨Ow47, M47⟩
     have z256 := M47.size
     refine sd_nil<|block_n<|block_n<|then_n<|qg 2 rfl<|qv rfl (vv_add (k := .i64) (a := a128) (b := 1) rfl rfl)<|qm rfl ?_
     refine sd_nil ?_
     have K_257 : Kz [(1, b4), (zy24, gy24)] w15 w47 := (((K43.kz K44).kz K46).md M47 (tk1 (tk0 : zy24 = 0 ∨ (gy24 = gy24 ∧ zy24 ≠ 0) ∨ w15.heap.size ≤ gy24)))
     have B258 := (((Fw43_2.kz K44).kz K46).md M47 (tk1 (pb_1 (b := b4) Fw43_1 (pb_0 Fw6_7))))
     subst hrec13
     exact ⟨rfl, ⟨n13, w64 (a128 + 1), a129.set j135.toNat 0⟩, sbq, ⟨hm, Ow47, ⟨tk0⟩, B258, K_257⟩, Nat.lt_succ_self _⟩
   replace hm := cnd_f c35 hm
   refine qs 3 rfl<|qm rfl<|qv rfl (vv_eql (a := a35) (b := 0) rfl rfl)<|qm rfl<|sd_done<|sw_cond rfl (fun c36 => ?_) (fun c36 => ?_)
   · replace hm := iT c36 hm
     refine qg 7 rfl<|qm rfl<|qm rfl<|qm rfl<|qm rfl ?_
     have B259 := ((Fw43_2.kz K44).kz K46)
     have B260 := (((B239.kz K43 (tk2 ((tk1 Fw14_11.o) : zy21 = 0 ∨ zy24 = 0 ∨ gy21 ≠ gy24) (pb_1 (b := b4) Fw14_1 (pb_0 Fw6_1)))).kz K44).kz K46)
     have B261 := (((B240.kz K43 (tk2 ((tk1 Fw14_12.o) : zy22 = 0 ∨ zy24 = 0 ∨ gy22 ≠ gy24) (pb_1 (b := b4) Fw14_3 (pb_0 Fw6_3)))).kz K44).kz K46)
     have B262 := (((B241.kz K43 (tk2 ((tk1 Fw14_13.o) : zy23 = 0 ∨ zy24 = 0 ∨ gy23 ≠ gy24) (pb_1 (b := b4) Fw14_5 (pb_0 Fw6_5)))).kz K44).kz K46)
     have B263 := ((Fw43_0.kz K44).kz K46)
     obtain ⟨x137, hx137, hm⟩ := bnd hm
     refine qe rfl (eC en_87 rfl (plan_tables_more_w hx137 B259 (Own.rd B260) (Own.rd B261) (Own.rd B262) (Own.rd B263))) ?_
     rintro _ w48 ⟨rfl, G48⟩
     have z264 := G48.size
     obtain ⟨j138, hj138, hm⟩ := bnd hm
     obtain ⟨y139, hy139, hm⟩ := bnd hm
     refine qv rfl (vv_ixVw (sz := 1) rfl (viewG_nn hnn124) Try.underlying32 (one_3).siz rfl rfl hj138) ?_
     have B265 := (B263.gr G48)
     have zo266 := Own.z1 B265 hy139
     refine qe rfl (ev_stEl (i := j138) (q := 0) (a' := x137) (vs := [.int .i64 x137]) (c := ic) (one_3).siz rfl rfl rfl rfl rfl B265 hy139 (by first | rfl | omega) rfl rfl ⟨rfl, rfl⟩) ?_
     rintro _ w49 ⟨Ow49, M49⟩
     have z267 := M49.size
     refine sd_nil<|block_n<|block_n<|then_n<|qg 2 rfl<|qv rfl (vv_add (k := .i64) (a := a128) (b := 1) rfl rfl)<|qm rfl ?_
     refine sd_nil ?_
     have K_268 : Kz [(1, b4), (zy24, gy24)] w15 w49 := ((((K43.kz K44).kz K46).gr G48).md M49 (tk1 (tk0 : zy24 = 0 ∨ (gy24 = gy24 ∧ zy24 ≠ 0) ∨ w15.heap.size ≤ gy24)))
     have B269 := ((B259.gr G48).md M49 (tk1 (pb_1 (b := b4) Fw43_1 (pb_0 Fw6_7))))
     subst hrec13
     exact ⟨rfl, ⟨n13, w64 (a128 + 1), a129.set j138.toNat x137⟩, sbq, ⟨hm, Ow49, ⟨tk0⟩, B269, K_268⟩, Nat.lt_succ_self _⟩
   replace hm := iF c36 hm
   refine qg 12 rfl<|qm rfl<|qm rfl<|qm rfl<|qm rfl<|qm rfl<|qm rfl ?_
   have B270 := ((Fw43_2.kz K44).kz K46)
   have B271 := (((B239.kz K43 (tk2 ((tk1 Fw14_11.o) : zy21 = 0 ∨ zy24 = 0 ∨ gy21 ≠ gy24) (pb_1 (b := b4) Fw14_1 (pb_0 Fw6_1)))).kz K44).kz K46)
   have B272 := (((B240.kz K43 (tk2 ((tk1 Fw14_12.o) : zy22 = 0 ∨ zy24 = 0 ∨ gy22 ≠ gy24) (pb_1 (b := b4) Fw14_3 (pb_0 Fw6_3)))).kz K44).kz K46)
   have B273 := (((B241.kz K43 (tk2 ((tk1 Fw14_13.o) : zy23 = 0 ∨ zy24 = 0 ∨ gy23 ≠ gy24) (pb_1 (b := b4) Fw14_5 (pb_0 Fw6_5)))).kz K44).kz K46)
   have B274 := ((Fw43_0.kz K44).kz K46)
   obtain ⟨x140, hx140, hm⟩ := bnd hm
   refine qe rfl (eC en_82 rfl (plan_tables_best_w hx140 B270 (Own.rd B271) (Own.rd B272) (Own.rd B273) (Own.rd B274))) ?_
   rintro _ w50 ⟨rfl, G50⟩
   have z275 := G50.size
   refine qm rfl<|qm rfl<|qm rfl ?_
   obtain ⟨j141, hj141, hm⟩ := bnd hm
   obtain ⟨y142, hy142, hm⟩ := bnd hm
   refine qv rfl (vv_ixVw (sz := 1) rfl (viewG_nn hnn124) Try.underlying32 (one_3).siz rfl rfl hj141) ?_
   have B276 := (B274.gr G50)
   have zo277 := Own.z1 B276 hy142
   refine qe rfl (ev_stEl (i := j141) (q := 0) (a' := x140.1) (vs := [.int .i64 x140.1]) (c := ic) (one_3).siz rfl rfl rfl rfl rfl B276 hy142 (by first | rfl | omega) rfl rfl ⟨rfl, rfl⟩) ?_
   rintro _ w51 ⟨Ow51, M51⟩
   have z278 := M51.size
   refine sd_nil<|block_n<|block_n<|then_n<|qg 2 rfl<|qv rfl (vv_add (k := .i64) (a := a128) (b := 1) rfl rfl)<|qm rfl ?_
   refine sd_nil ?_
   have K_279 : Kz [(1, b4), (zy24, gy24)] w15 w51 := ((((K43.kz K44).kz K46).gr G50).md M51 (tk1 (tk0 : zy24 = 0 ∨ (gy24 = gy24 ∧ zy24 ≠ 0) ∨ w15.heap.size ≤ gy24)))
   have B280 := ((B270.gr G50).md M51 (tk1 (pb_1 (b := b4) Fw43_1 (pb_0 Fw6_7))))
   subst hrec13
   exact ⟨rfl, ⟨n13, w64 (a128 + 1), a129.set j141.toNat x140.1⟩, sbq, ⟨hm, Ow51, ⟨tk0⟩, B280, K_279⟩, Nat.lt_succ_self _⟩
 replace hm := ite_f c32 hm
 cases hm
end Go.Proofs.Ytopkalcefepilaa.Mx
