/- Walks that follow mirrors: Xb. Printed by mx.py. -/
import Derived.Test.YtjdffpglgkefmaaGreatXa
import Derived.Test.YtjdffpglgkefmaaGreatZd
set_option linter.unusedVariables false
set_option linter.unusedSimpArgs false
set_option maxRecDepth 100000
set_option maxHeartbeats 2000000
namespace Go.Proofs.YtjdffpglgkefmaaGreat.Mx
open Go Go.RowKit Go.Sx
theorem fa_26_0 : FA Tryz.prog 26 0 0 := fun _ _ _ => by kernel_rfl
theorem en_234 : En Tryz.prog 234 := fun _ _ => by kernel_rfl
theorem fa_26_1 : FA Tryz.prog 26 1 1 := fun _ _ _ => by kernel_rfl
theorem fa_26_2 : FA Tryz.prog 26 2 2 := fun _ _ _ => by kernel_rfl
theorem en_235 : En Tryz.prog 235 := fun _ _ => by kernel_rfl
theorem fa_28_2 : FA Tryz.prog 28 2 2 := fun _ _ _ => by kernel_rfl
theorem fa_28_3 : FA Tryz.prog 28 3 3 := fun _ _ _ => by kernel_rfl
theorem en_179 : En Tryz.prog 179 := fun _ _ => by kernel_rfl
theorem cv_3_24 : CV Tryz.prog 3 24 .u64 := fun _ _ _ => by kernel_rfl
theorem en_98 : En Tryz.prog 98 := fun _ _ => by kernel_rfl
theorem apt_161 : ApT Tryz.prog 161 24 1 8 := apt_mk Tryz.underlying161 rfl (by kernel_rfl)
theorem zv_24 : ZV Tryz.prog 24 (.int .u64 0) := fun _ => by kernel_rfl
theorem zv_233 : ZV Tryz.prog 233 (.agg [.int .u64 0, .int .u64 0].toArray) := fun _ => by kernel_rfl
theorem fa_233_0 : FA Tryz.prog 233 0 0 := fun _ _ _ => by kernel_rfl
theorem cv_5_24 : CV Tryz.prog 5 24 .u64 := fun _ _ _ => by kernel_rfl
theorem fa_233_1 : FA Tryz.prog 233 1 1 := fun _ _ _ => by kernel_rfl
theorem agg_233 : Agg Tryz.prog 233 2 := fun _ => ⟨by kernel_rfl, by kernel_rfl⟩
theorem en_175 : En Tryz.prog 175 := fun _ _ => by kernel_rfl
theorem f1_233_0 : F1 Tryz.prog 233 0 0 := f1_mk (fun _ _ => by kernel_rfl)
theorem en_100 : En Tryz.prog 100 := fun _ _ => by kernel_rfl
theorem en_181 : En Tryz.prog 181 := fun _ _ => by kernel_rfl
theorem one_161 : One Tryz.prog 161 := fun _ => ⟨by kernel_rfl, by kernel_rfl⟩
theorem one_163 : One Tryz.prog 163 := fun _ => ⟨by kernel_rfl, by kernel_rfl⟩
theorem bsl_160_2 : BSl Tryz.prog 160 2 24 1 [.int .u64 0, .int .u64 0] := bsl_mk Tryz.underlying160 (one_24).siz zv_24 rfl rfl (by kernel_rfl)
theorem en_108 : En Tryz.prog 108 := fun _ _ => by kernel_rfl
theorem en_237 : En Tryz.prog 237 := fun _ _ => by kernel_rfl
theorem en_99 : En Tryz.prog 99 := fun _ _ => by kernel_rfl
theorem en_103 : En Tryz.prog 103 := fun _ _ => by kernel_rfl
theorem zv_31 : ZV Tryz.prog 31 (.agg [.int .u64 0, .int .u64 0].toArray) := fun _ => by kernel_rfl
theorem bs_31 : BS Tryz.prog 31 (fun i => [(0, 1), (1, 1)][i]?) [.int .u64 0, .int .u64 0] := bs_mk Tryz.underlying31 zv_31 ⟨rfl, (one_24).siz, rfl, (one_24).siz, trivial⟩
theorem fa_31_0 : FA Tryz.prog 31 0 0 := fun _ _ _ => by kernel_rfl
theorem en_184 : En Tryz.prog 184 := fun _ _ => by kernel_rfl
theorem en_238 : En Tryz.prog 238 := fun _ _ => by kernel_rfl
theorem en_183 : En Tryz.prog 183 := fun _ _ => by kernel_rfl
theorem en_107 : En Tryz.prog 107 := fun _ _ => by kernel_rfl
theorem bsl_46_0 : BSl Tryz.prog 46 0 31 2 [] := bsl_nil Tryz.underlying46 (agg_31).siz
theorem apt_46 : ApT Tryz.prog 46 31 2 16 := apt_mk Tryz.underlying46 rfl (by kernel_rfl)
theorem fa_33_2 : FA Tryz.prog 33 2 2 := fun _ _ _ => by kernel_rfl
theorem en_182 : En Tryz.prog 182 := fun _ _ => by kernel_rfl
theorem bsl_46_1 : BSl Tryz.prog 46 1 31 2 [.int .u64 0, .int .u64 0] := bsl_mk Tryz.underlying46 (agg_31).siz zv_31 rfl rfl (by kernel_rfl)
theorem fa_31_1 : FA Tryz.prog 31 1 1 := fun _ _ _ => by kernel_rfl
theorem en_106 : En Tryz.prog 106 := fun _ _ => by kernel_rfl
theorem en_236 : En Tryz.prog 236 := fun _ _ => by kernel_rfl
theorem en_180 : En Tryz.prog 180 := fun _ _ => by kernel_rfl
theorem en_101 : En Tryz.prog 101 := fun _ _ => by kernel_rfl
theorem en_109 : En Tryz.prog 109 := fun _ _ => by kernel_rfl
theorem cv_24_2 : CV Tryz.prog 24 2 .i64 := fun _ _ _ => by kernel_rfl
theorem cv_2_24 : CV Tryz.prog 2 24 .u64 := fun _ _ _ => by kernel_rfl
theorem en_185 : En Tryz.prog 185 := fun _ _ => by kernel_rfl
theorem en_110 : En Tryz.prog 110 := fun _ _ => by kernel_rfl
theorem en_105 : En Tryz.prog 105 := fun _ _ => by kernel_rfl
theorem number_prime_w {p0 r} (hm : number_prime p0 = some r) {w : World} :
    Calls Tryz.prog 234 [wv p0].toArray w fun e w' => ∃ v, e = .returned v ∧ (v = .bool r ∧ Gr w w') := by
 unfold number_prime at hm
 refine calls_of_sw 21 Tryz.func234 rfl rfl rfl<|qs 1 rfl<|qm rfl<|sd_done<|sw_seq<|qj (β := Bool) (rg 4 6) (fun a1 => [(9, .bool a1)]) (fun a1 wr => (number_prime_J1 p0 a1 = some r) ∧ Kz [] w wr) ?_ ?_
 · refine qg 6 rfl<|qm rfl<|qv rfl (vv_lssU (c := p0) (d := 2#64) rfl rfl)<|qp rfl (vv_move rfl) (fun c4 => ?_) (fun c4 => ?_)
   · replace hm := iT c4 hm
     refine qk rfl<|qk rfl<|qm rfl<|sd_nil ?_
     exact ⟨rfl, true, sbq, hm, kz0⟩
   replace hm := iF c4 hm
   refine qm rfl<|qv rfl (vv_gtrU (c := p0) (d := 1048575#64) rfl rfl)<|qm rfl<|sd_nil ?_
   exact ⟨rfl, (decide (1048575#64 < p0)), sbq, hm, kz0⟩
 clear hm; rintro a1 w1 ⟨hm, K1⟩
 have z1 := K1.size
 unfold number_prime_J1 at hm
 refine sw_cond rfl (fun c1 => ?_) (fun c1 => ?_)
 · replace hm := cnd_t c1 hm
   refine qs 1 rfl<|qm rfl<|qb ?_
   have X2 := ((Gr.refl w).kz K1)
   cases hm
   refine ⟨_, _, rfl, res_1 rfl (rv_tmp rfl), ?_⟩
   exact ⟨rfl, X2⟩
 replace hm := cnd_f c1 hm
 refine qu<|sw_seq<|qs 1 rfl<|qm rfl<|sd_done ?_
 refine sw_block ?_
 have X3 := ((Gr.refl w).kz K1)
 refine sw_loopD (α := Nat × BitVec 64) ([2, 3] ++ rg 10 11) (fun ⟨n2, a3⟩ => [(2, .bool false), (3, wv a3)]) (fun ⟨n2, a3⟩ wr => (fixN (number_prime_L2 p0) n2 a3 = some r) ∧ Kz [] w1 wr) (fun ⟨n2, a3⟩ => n2) ⟨FUEL, 2#64⟩ ?_ ?_ ?_
 · exact sbq
 · exact ⟨hm, Kz.refl _ _⟩
 clear hm; rintro ⟨n2, a3⟩ w2 ⟨hm, K2⟩
 have z4 := K2.size
 have hb := fix_succ hm; clear hm; obtain ⟨n2, rfl, hm⟩ := hb
 generalize hrec2 : fixN (number_prime_L2 p0) n2 = rec2 at hm
 unfold number_prime_L2 at hm
 try dsimp only at hm
 refine sw_seq<|qs 5 rfl<|qm rfl<|qm rfl<|qv rfl (vv_umul (a := a3) (b := a3) rfl rfl)<|qm rfl ?_
 refine qv rfl (vv_leqU (c := a3 * a3) (d := p0) rfl rfl)<|sd_done<|cnF rfl (fun c2 => ?_) (fun c2 => ?_)
 · replace hm := iF c2 hm
   refine sw_exit<|then_x<|then_x<|block_x<|then_n<|qs 1 rfl ?_
   refine qm rfl<|sd_done<|sw_ret ?_
   have X7 := (X3.kz K2)
   cases hm
   refine ⟨_, _, rfl, res_1 rfl (rv_tmp rfl), ?_⟩
   exact ⟨rfl, X7⟩
 replace hm := iT c2 hm
 refine qu<|sw_seq<|sw_block<|qs 4 rfl<|qm rfl ?_
 refine qm rfl ?_
 obtain ⟨x4, hx4, hm⟩ := bnd hm
 refine qv rfl (vv_remU (c := p0) (d := a3) rfl rfl hx4)<|qv rfl (vv_eqlU (c := x4) (d := 0#64) rfl rfl)<|sd_done<|sw_cond rfl (fun c3 => ?_) (fun c3 => ?_)
 · replace hm := iT c3 hm
   refine qs 1 rfl<|qm rfl<|sd_done<|sw_ret<|block_r<|then_r ?_
   refine then_r<|block_r<|then_r ?_
   have X5 := (X3.kz K2)
   cases hm
   refine ⟨_, _, rfl, res_1 rfl (rv_tmp rfl), ?_⟩
   exact ⟨rfl, X5⟩
 replace hm := iF c3 hm
 refine sw_skip<|block_n<|then_n<|qg 3 rfl<|qm rfl<|qv rfl (vv_uadd (a := a3) (b := 1#64) rfl rfl)<|qm rfl ?_
 refine sd_nil ?_
 have K_6 : Kz [] w1 w2 := K2
 subst hrec2
 exact ⟨rfl, ⟨n2, a3 + 1#64⟩, sbq, ⟨hm, K_6⟩, Nat.lt_succ_self _⟩
theorem number_power_w {p0 p1 p2 r} (hm : number_power p0 p1 p2 = some r) {w : World} :
    Calls Tryz.prog 235 [wv p0, wv p1, wv p2].toArray w fun e w' => ∃ v, e = .returned v ∧ (v = wv r ∧ Gr w w') := by
 unfold number_power at hm
 refine calls_of_sw 31 Tryz.func235 rfl rfl rfl<|qs 1 rfl<|qm rfl<|qd 3 rfl ?_
 refine qm rfl ?_
 obtain ⟨x1, hx1, hm⟩ := bnd hm
 refine qv rfl (vv_remU (c := 1#64) (d := p2) rfl rfl hx1)<|qm rfl<|sd_done<|sw_seq<|qs 4 rfl<|qm rfl ?_
 refine qm rfl ?_
 obtain ⟨x2, hx2, hm⟩ := bnd hm
 refine qv rfl (vv_remU (c := p0) (d := p2) rfl rfl hx2)<|qm rfl<|sd_done<|sw_block<|sw_loopD (α := Nat × BitVec 64 × BitVec 64 × BitVec 64) ([0, 1, 7] ++ rg 13 17) (fun ⟨n1, a6, a7, a8⟩ => [(0, wv a6), (1, wv a7), (7, wv a8)]) (fun ⟨n1, a6, a7, a8⟩ wr => (fixN (number_power_L1 p2) n1 (a6, a7, a8) = some r) ∧ Kz [] w wr) (fun ⟨n1, a6, a7, a8⟩ => n1) ⟨FUEL, x2, p1, x1⟩ ?_ ?_ ?_
 · exact sbq
 · exact ⟨hm, Kz.refl _ _⟩
 clear hm; rintro ⟨n1, a6, a7, a8⟩ w1 ⟨hm, K1⟩
 have z1 := K1.size
 have hb := fix_succ hm; clear hm; obtain ⟨n1, rfl, hm⟩ := hb
 generalize hrec1 : fixN (number_power_L1 p2) n1 = rec1 at hm
 unfold number_power_L1 at hm
 try dsimp only at hm
 refine sw_seq<|qs 2 rfl<|qm rfl<|qv rfl (vv_gtrU (c := a7) (d := 0#64) rfl rfl)<|sd_done<|cnF rfl (fun c1 => ?_) (fun c1 => ?_)
 · replace hm := iF c1 hm
   refine sw_exit<|then_x<|then_x<|block_x<|then_n<|qs 2 rfl ?_
   refine qm rfl<|qm rfl<|sd_done<|sw_ret ?_
   have X4 := ((Gr.refl w).kz K1)
   cases hm
   refine ⟨_, _, rfl, res_1 rfl (rv_tmp rfl), ?_⟩
   exact ⟨rfl, X4⟩
 replace hm := iT c1 hm
 refine qu<|sw_seq<|sw_block<|sw_seq<|qs 3 rfl ?_
 refine qm rfl<|qv rfl (vv_uand (a := a7) (b := 1#64) rfl rfl)<|qv rfl (vv_eqlU (c := a7 &&& 1#64) (d := 1#64) rfl rfl)<|sd_done<|cnF rfl (fun c2 => ?_) (fun c2 => ?_)
 · replace hm := iF c2 hm
   refine qu<|qg 6 rfl<|qm rfl<|qm rfl<|qv rfl (vv_umul (a := a6) (b := a6) rfl rfl)<|qm rfl ?_
   obtain ⟨x12, hx12, hm⟩ := bnd hm
   refine qv rfl (vv_remU (c := a6 * a6) (d := p2) rfl rfl hx12)<|qm rfl<|sd_nil<|block_n<|then_n<|qg 3 rfl<|qm rfl ?_
   obtain ⟨n13, hn13, hm⟩ := bnd hm
   refine qv rfl (vv_shrU (c := a7) (b := (un 1#64)) rfl rfl hn13)<|qm rfl<|sd_nil ?_
   have K_3 : Kz [] w w1 := K1
   subst hrec1
   exact ⟨rfl, ⟨n1, x12, a7 >>> n13, a8⟩, sbq, ⟨hm, K_3⟩, Nat.lt_succ_self _⟩
 replace hm := iT c2 hm
 refine qg 6 rfl<|qm rfl<|qm rfl<|qv rfl (vv_umul (a := a8) (b := a6) rfl rfl)<|qm rfl ?_
 obtain ⟨x9, hx9, hm⟩ := bnd hm
 refine qv rfl (vv_remU (c := a8 * a6) (d := p2) rfl rfl hx9)<|qm rfl<|sd_done<|qg 6 rfl<|qm rfl<|qm rfl<|qv rfl (vv_umul (a := a6) (b := a6) rfl rfl) ?_
 refine qm rfl ?_
 obtain ⟨x10, hx10, hm⟩ := bnd hm
 refine qv rfl (vv_remU (c := a6 * a6) (d := p2) rfl rfl hx10)<|qm rfl<|sd_nil<|block_n<|then_n<|qg 3 rfl<|qm rfl ?_
 obtain ⟨n11, hn11, hm⟩ := bnd hm
 refine qv rfl (vv_shrU (c := a7) (b := (un 1#64)) rfl rfl hn11)<|qm rfl<|sd_nil ?_
 have K_2 : Kz [] w w1 := K1
 subst hrec1
 exact ⟨rfl, ⟨n1, x10, a7 >>> n11, x9⟩, sbq, ⟨hm, K_2⟩, Nat.lt_succ_self _⟩
theorem number_CheckGroup_w {p0 r} (hm : number_CheckGroup p0 = some r) {w : World} :
    Calls Tryz.prog 179 [.agg (TGroup.cs p0).toArray].toArray w fun e w' => ∃ v, e = .returned v ∧ (v = .int .i64 r ∧ Gr w w') := by
 unfold number_CheckGroup at hm
 refine calls_of_sw 44 Tryz.func179 rfl rfl rfl<|qs 2 rfl<|qe rfl (ev_box (cs := TGroup.cs p0) rfl rfl) ?_
 rintro _ w1 ⟨b1, rfl, hbw1, Bw1, G1⟩
 have z1 := G1.size
 have lt2 := Bw1.lt
 refine qm rfl<|sd_done<|sw_seq ?_
 have X3 := ((Gr.refl w).trans G1)
 refine qj (β := Bool) (rg 3 41) (fun a1 => [(43, .bool a1)]) (fun a1 wr => (number_CheckGroup_J1 a1 = some r) ∧ Kz [] w1 wr) ?_ ?_
 · refine qg 41 rfl<|qv rfl (vv_fieldAddr fa_26_0 rfl)<|qv rfl (vv_load1 (v := wv p0.P) one_24 rfl Bw1 rfl) ?_
   obtain ⟨x2, hx2, hm⟩ := bnd hm
   refine qe rfl (eC en_234 rfl (number_prime_w hx2)) ?_
   rintro _ w3 ⟨rfl, G3⟩
   have z7 := G3.size
   refine qv rfl (vv_not rfl)<|qp rfl (vv_move rfl) (fun c2 => ?_) (fun c2 => ?_)
   · replace hm := cnd_t c2 hm
     refine qk rfl<|qk rfl<|qk rfl<|qk rfl<|qm rfl<|qm rfl<|qk rfl ?_
     refine qk rfl<|qk rfl<|qk rfl<|qk rfl<|qk rfl<|qk rfl<|qm rfl ?_
     refine qm rfl<|qk rfl<|qk rfl<|qk rfl<|qm rfl<|qm rfl<|qk rfl ?_
     refine qk rfl<|qk rfl<|qk rfl<|qk rfl<|qm rfl<|qm rfl<|qk rfl ?_
     refine qk rfl<|qk rfl<|qk rfl<|qk rfl<|qk rfl<|qk rfl<|qk rfl ?_
     refine qm rfl<|sd_nil ?_
     exact ⟨rfl, true, sbq, hm, (kz0.gr G3)⟩
   replace hm := cnd_f c2 hm
   refine qv rfl (vv_fieldAddr fa_26_1 rfl) ?_
   have B9 := (Bw1.gr G3)
   refine qv rfl (vv_load1 (v := wv p0.Q) one_24 rfl B9 rfl) ?_
   obtain ⟨x3, hx3, hm⟩ := bnd hm
   refine qe rfl (eC en_234 rfl (number_prime_w hx3)) ?_
   rintro _ w4 ⟨rfl, G4⟩
   have z10 := G4.size
   refine qv rfl (vv_not rfl)<|qm rfl<|qp rfl (vv_move rfl) (fun c3 => ?_) (fun c3 => ?_)
   · replace hm := cnd_t c3 hm
     refine qk rfl<|qk rfl<|qk rfl<|qk rfl<|qk rfl<|qk rfl<|qk rfl ?_
     refine qm rfl<|qm rfl<|qk rfl<|qk rfl<|qk rfl<|qm rfl<|qm rfl ?_
     refine qk rfl<|qk rfl<|qk rfl<|qk rfl<|qk rfl<|qm rfl<|qm rfl ?_
     refine qk rfl<|qk rfl<|qk rfl<|qk rfl<|qk rfl<|qk rfl<|qk rfl ?_
     refine qk rfl<|qm rfl<|sd_nil ?_
     have Y1 := Gr.trans G3 G4
     exact ⟨rfl, true, sbq, hm, (kz0.gr Y1)⟩
   replace hm := cnd_f c3 hm
   refine qv rfl (vv_fieldAddr fa_26_0 rfl) ?_
   have B12 := (B9.gr G4)
   refine qv rfl (vv_load1 (v := wv p0.P) one_24 rfl B12 rfl)<|qv rfl (vv_usub (a := p0.P) (b := 1#64) rfl rfl)<|qv rfl (vv_fieldAddr fa_26_1 rfl)<|qv rfl (vv_load1 (v := wv p0.Q) one_24 rfl B12 rfl) ?_
   obtain ⟨x4, hx4, hm⟩ := bnd hm
   refine qv rfl (vv_remU (c := p0.P - 1#64) (d := p0.Q) rfl rfl hx4)<|qv rfl (vv_neqU (c := x4) (d := 0#64) rfl rfl)<|qm rfl<|qp rfl (vv_move rfl) (fun c4 => ?_) (fun c4 => ?_)
   · replace hm := iT c4 hm
     refine qk rfl<|qk rfl<|qk rfl<|qm rfl<|qm rfl<|qk rfl<|qk rfl ?_
     refine qk rfl<|qk rfl<|qk rfl<|qm rfl<|qm rfl<|qk rfl<|qk rfl ?_
     refine qk rfl<|qk rfl<|qk rfl<|qk rfl<|qk rfl<|qk rfl<|qm rfl ?_
     refine sd_nil ?_
     have Y2 := Gr.trans G3 G4
     exact ⟨rfl, true, sbq, hm, (kz0.gr Y2)⟩
   replace hm := iF c4 hm
   refine qv rfl (vv_fieldAddr fa_26_2 rfl)<|qv rfl (vv_load1 (v := wv p0.G) one_24 rfl B12 rfl)<|qv rfl (vv_lssU (c := p0.G) (d := 2#64) rfl rfl)<|qm rfl<|qp rfl (vv_move rfl) (fun c5 => ?_) (fun c5 => ?_)
   · replace hm := iT c5 hm
     refine qk rfl<|qk rfl<|qk rfl<|qk rfl<|qk rfl<|qm rfl<|qm rfl ?_
     refine qk rfl<|qk rfl<|qk rfl<|qk rfl<|qk rfl<|qk rfl<|qk rfl ?_
     refine qk rfl<|qm rfl<|sd_nil ?_
     have Y3 := Gr.trans G3 G4
     exact ⟨rfl, true, sbq, hm, (kz0.gr Y3)⟩
   replace hm := iF c5 hm
   refine qv rfl (vv_fieldAddr fa_26_2 rfl)<|qv rfl (vv_load1 (v := wv p0.G) one_24 rfl B12 rfl)<|qv rfl (vv_fieldAddr fa_26_0 rfl)<|qv rfl (vv_load1 (v := wv p0.P) one_24 rfl B12 rfl)<|qv rfl (vv_geqU (c := p0.G) (d := p0.P) rfl rfl)<|qm rfl<|qp rfl (vv_move rfl) (fun c6 => ?_) (fun c6 => ?_)
   · replace hm := iT c6 hm
     refine qk rfl<|qk rfl<|qk rfl<|qk rfl<|qk rfl<|qk rfl<|qk rfl ?_
     refine qk rfl<|qm rfl<|sd_nil ?_
     have Y4 := Gr.trans G3 G4
     exact ⟨rfl, true, sbq, hm, (kz0.gr Y4)⟩
   replace hm := iF c6 hm
   refine qv rfl (vv_fieldAddr fa_26_2 rfl)<|qv rfl (vv_load1 (v := wv p0.G) one_24 rfl B12 rfl)<|qv rfl (vv_fieldAddr fa_26_1 rfl)<|qv rfl (vv_load1 (v := wv p0.Q) one_24 rfl B12 rfl)<|qv rfl (vv_fieldAddr fa_26_0 rfl)<|qv rfl (vv_load1 (v := wv p0.P) one_24 rfl B12 rfl) ?_
   obtain ⟨x5, hx5, hm⟩ := bnd hm
   refine qe rfl (eC en_235 rfl (number_power_w hx5)) ?_
   rintro _ w5 ⟨rfl, G5⟩
   have z16 := G5.size
   refine qv rfl (vv_neqU (c := x5) (d := 1#64) rfl rfl)<|qm rfl<|sd_nil ?_
   exact ⟨rfl, (decide (x5 ≠ 1#64)), sbq, hm, (((kz0.gr G3).gr G4).gr G5)⟩
 clear hm; rintro a1 w2 ⟨hm, K2⟩
 have z4 := K2.size
 unfold number_CheckGroup_J1 at hm
 refine sw_cond rfl (fun c1 => ?_) (fun c1 => ?_)
 · replace hm := cnd_t c1 hm
   refine qs 1 rfl<|qm rfl<|qb ?_
   have X5 := (X3.kz K2)
   cases hm
   refine ⟨_, _, rfl, res_1 rfl (rv_tmp rfl), ?_⟩
   exact ⟨rfl, X5⟩
 replace hm := cnd_f c1 hm
 refine qu<|qs 1 rfl<|qm rfl<|sd_done<|sw_ret ?_
 have X6 := (X3.kz K2)
 cases hm
 refine ⟨_, _, rfl, res_1 rfl (rv_tmp rfl), ?_⟩
 exact ⟨rfl, X6⟩
theorem poly_valid_w {p0 r} (hm : poly_valid p0 = some r) {w : World} :
    Calls Tryz.prog 98 [.agg (TScheme.cs p0).toArray].toArray w fun e w' => ∃ v, e = .returned v ∧ (v = .bool r ∧ Gr w w') := by
 unfold poly_valid at hm
 refine calls_of_sw 45 Tryz.func98 rfl rfl rfl<|qs 2 rfl<|qe rfl (ev_box (cs := TScheme.cs p0) rfl rfl) ?_
 rintro _ w1 ⟨b1, rfl, hbw1, Bw1, G1⟩
 have z1 := G1.size
 have lt2 := Bw1.lt
 refine qm rfl<|sd_done<|sw_seq<|dw [([])] [] (.leaf [(0,10),(1,10),(2,10),(3,10),(4,10),(5,10),(6,10),(7,10),(8,10),(9,10),(10,10),(11,10),(12,10),(13,10),(14,10),(15,10),(16,10),(17,10),(18,10),(19,10),(20,10),(21,10),(22,10),(23,10),(24,10),(25,10),(26,0),(27,10),(28,10),(29,10),(30,10),(31,10),(32,10),(33,10),(34,10),(35,10),(36,10),(37,10),(38,10),(39,10),(40,10),(41,10),(42,10)]) ?_
 intro w2 G2 zw2
 refine sdz_leaf<|dh 0 rfl rfl (fun w hS => vv_fieldAddr fa_28_0 rfl) ?_
 have B3 := (Bw1.gr G2)
 refine dh 0 rfl rfl (fun w hS => vv_load1 (v := bv p0.Kind) one_5 rfl (Bx.kp B3 hS) rfl)<|dh 0 rfl rfl (fun w hS => vv_eqlB (p := p0.Kind) (q := 4#8) rfl rfl)<|qqF 0 rfl rfl (Kp.refl ([]) w2) (fun w hS => vv_move rfl) (fun c1 => ?_) (fun c1 => ?_)
 · replace hm := iF c1 hm
   refine dx 0 rfl rfl<|dx 0 rfl rfl<|dx 0 rfl rfl<|dm 0 rfl rfl<|dm 0 rfl rfl<|dx 0 rfl rfl<|dx 0 rfl rfl ?_
   refine dx 0 rfl rfl<|dm 0 rfl rfl<|dm 0 rfl rfl<|dx 0 rfl rfl<|dx 0 rfl rfl<|dx 0 rfl rfl<|dm 0 rfl rfl ?_
   refine dm 0 rfl rfl<|dx 0 rfl rfl<|dx 0 rfl rfl<|dx 0 rfl rfl<|dm 0 rfl rfl<|dm 0 rfl rfl<|dx 0 rfl rfl ?_
   refine dx 0 rfl rfl<|qy rfl<|dx 0 rfl rfl<|dm 0 rfl rfl<|dm 0 rfl rfl<|dx 0 rfl rfl<|dx 0 rfl rfl ?_
   refine dx 0 rfl rfl<|dx 0 rfl rfl<|dx 0 rfl rfl<|dx 0 rfl rfl<|dx 0 rfl rfl<|dx 0 rfl rfl<|dx 0 rfl rfl ?_
   refine dx 0 rfl rfl<|dx 0 rfl rfl<|dm 0 rfl rfl<|dm 0 rfl rfl<|sd_done<|sw_ret ?_
   have Y1 := Gr.trans G1 G2
   have X12 := ((Gr.refl w).trans Y1)
   cases hm
   refine ⟨_, _, rfl, res_1 rfl (rv_tmp rfl), ?_⟩
   exact ⟨rfl, X12⟩
 replace hm := iT c1 hm
 refine dh 0 rfl rfl (fun w hS => vv_fieldAddr fa_28_1 rfl)<|dh 0 rfl rfl (fun w hS => vv_load1 (v := .int .i64 p0.Depth) one_3 rfl (Bx.kp B3 hS) rfl)<|dh 0 rfl rfl (fun w hS => vv_geq (a := p0.Depth) (b := 0) rfl rfl)<|dm 0 rfl rfl<|qqF 0 rfl rfl (Kp.refl ([]) w2) (fun w hS => vv_move rfl) (fun c2 => ?_) (fun c2 => ?_)
 · replace hm := iF c2 hm
   refine dx 0 rfl rfl<|dx 0 rfl rfl<|dx 0 rfl rfl<|dm 0 rfl rfl<|dm 0 rfl rfl<|dx 0 rfl rfl<|dx 0 rfl rfl ?_
   refine dx 0 rfl rfl<|dm 0 rfl rfl<|dm 0 rfl rfl<|dx 0 rfl rfl<|dx 0 rfl rfl<|dx 0 rfl rfl<|dm 0 rfl rfl ?_
   refine dm 0 rfl rfl<|dx 0 rfl rfl<|dx 0 rfl rfl<|qy rfl<|dx 0 rfl rfl<|dm 0 rfl rfl<|dm 0 rfl rfl ?_
   refine dx 0 rfl rfl<|dx 0 rfl rfl<|dx 0 rfl rfl<|dx 0 rfl rfl<|dx 0 rfl rfl<|dx 0 rfl rfl<|dx 0 rfl rfl ?_
   refine dx 0 rfl rfl<|dx 0 rfl rfl<|dx 0 rfl rfl<|dx 0 rfl rfl<|dm 0 rfl rfl<|dm 0 rfl rfl<|sd_done ?_
   refine sw_ret ?_
   have Y2 := Gr.trans G1 G2
   have X11 := ((Gr.refl w).trans Y2)
   cases hm
   refine ⟨_, _, rfl, res_1 rfl (rv_tmp rfl), ?_⟩
   exact ⟨rfl, X11⟩
 replace hm := iT c2 hm
 refine dh 0 rfl rfl (fun w hS => vv_fieldAddr fa_28_1 rfl)<|dh 0 rfl rfl (fun w hS => vv_load1 (v := .int .i64 p0.Depth) one_3 rfl (Bx.kp B3 hS) rfl)<|dh 0 rfl rfl (fun w hS => vv_leq (a := p0.Depth) (b := 6) rfl rfl)<|dm 0 rfl rfl<|qqF 0 rfl rfl (Kp.refl ([]) w2) (fun w hS => vv_move rfl) (fun c3 => ?_) (fun c3 => ?_)
 · replace hm := iF c3 hm
   refine dx 0 rfl rfl<|dx 0 rfl rfl<|dx 0 rfl rfl<|dm 0 rfl rfl<|dm 0 rfl rfl<|dx 0 rfl rfl<|dx 0 rfl rfl ?_
   refine dx 0 rfl rfl<|dm 0 rfl rfl<|dm 0 rfl rfl<|dx 0 rfl rfl<|dx 0 rfl rfl<|qy rfl<|dx 0 rfl rfl ?_
   refine dm 0 rfl rfl<|dm 0 rfl rfl<|dx 0 rfl rfl<|dx 0 rfl rfl<|dx 0 rfl rfl<|dx 0 rfl rfl<|dx 0 rfl rfl ?_
   refine dx 0 rfl rfl<|dx 0 rfl rfl<|dx 0 rfl rfl<|dx 0 rfl rfl<|dx 0 rfl rfl<|dx 0 rfl rfl<|dm 0 rfl rfl ?_
   refine dm 0 rfl rfl<|sd_done<|sw_ret ?_
   have Y3 := Gr.trans G1 G2
   have X10 := ((Gr.refl w).trans Y3)
   cases hm
   refine ⟨_, _, rfl, res_1 rfl (rv_tmp rfl), ?_⟩
   exact ⟨rfl, X10⟩
 replace hm := iT c3 hm
 refine dh 0 rfl rfl (fun w hS => vv_fieldAddr fa_28_2 rfl)<|dh 0 rfl rfl (fun w hS => vv_load1 (v := .int .i64 p0.Degree) one_3 rfl (Bx.kp B3 hS) rfl)<|dh 0 rfl rfl (fun w hS => vv_geq (a := p0.Degree) (b := 1) rfl rfl)<|dm 0 rfl rfl<|qqF 0 rfl rfl (Kp.refl ([]) w2) (fun w hS => vv_move rfl) (fun c4 => ?_) (fun c4 => ?_)
 · replace hm := iF c4 hm
   refine dx 0 rfl rfl<|dx 0 rfl rfl<|dx 0 rfl rfl<|dm 0 rfl rfl<|dm 0 rfl rfl<|dx 0 rfl rfl<|dx 0 rfl rfl ?_
   refine qy rfl<|dx 0 rfl rfl<|dm 0 rfl rfl<|dm 0 rfl rfl<|dx 0 rfl rfl<|dx 0 rfl rfl<|dx 0 rfl rfl ?_
   refine dx 0 rfl rfl<|dx 0 rfl rfl<|dx 0 rfl rfl<|dx 0 rfl rfl<|dx 0 rfl rfl<|dx 0 rfl rfl<|dx 0 rfl rfl ?_
   refine dx 0 rfl rfl<|dm 0 rfl rfl<|dm 0 rfl rfl<|sd_done<|sw_ret ?_
   have Y4 := Gr.trans G1 G2
   have X9 := ((Gr.refl w).trans Y4)
   cases hm
   refine ⟨_, _, rfl, res_1 rfl (rv_tmp rfl), ?_⟩
   exact ⟨rfl, X9⟩
 replace hm := iT c4 hm
 refine dh 0 rfl rfl (fun w hS => vv_fieldAddr fa_28_2 rfl)<|dh 0 rfl rfl (fun w hS => vv_load1 (v := .int .i64 p0.Degree) one_3 rfl (Bx.kp B3 hS) rfl)<|dh 0 rfl rfl (fun w hS => vv_leq (a := p0.Degree) (b := 8) rfl rfl)<|dm 0 rfl rfl<|qqF 0 rfl rfl (Kp.refl ([]) w2) (fun w hS => vv_move rfl) (fun c5 => ?_) (fun c5 => ?_)
 · replace hm := iF c5 hm
   refine dx 0 rfl rfl<|dx 0 rfl rfl<|qy rfl<|dx 0 rfl rfl<|dm 0 rfl rfl<|dm 0 rfl rfl<|dx 0 rfl rfl ?_
   refine dx 0 rfl rfl<|dx 0 rfl rfl<|dx 0 rfl rfl<|dx 0 rfl rfl<|dx 0 rfl rfl<|dx 0 rfl rfl<|dx 0 rfl rfl ?_
   refine dx 0 rfl rfl<|dx 0 rfl rfl<|dx 0 rfl rfl<|dm 0 rfl rfl<|dm 0 rfl rfl<|sd_done<|sw_ret ?_
   have Y5 := Gr.trans G1 G2
   have X8 := ((Gr.refl w).trans Y5)
   cases hm
   refine ⟨_, _, rfl, res_1 rfl (rv_tmp rfl), ?_⟩
   exact ⟨rfl, X8⟩
 replace hm := iT c5 hm
 refine dh 0 rfl rfl (fun w hS => vv_fieldAddr fa_28_3 rfl)<|dh 0 rfl rfl (fun w hS => vv_loadM (vs := TGroup.cs p0.Group) agg_26 rfl (Bx.kp B3 hS) rfl rfl) ?_
 obtain ⟨x1, hx1, hm⟩ := bnd hm
 refine qz [] rfl (eC en_179 rfl (number_CheckGroup_w hx1)) ⟨fun _ => tk0, trivial⟩ ?_
 rintro _ w3 ⟨rfl, G3⟩
 have z4 := G3.size
 refine kG G3 ?_
 have S5 := ((Kp.refl ([]) w2).gr G3)
 refine qh 0 rfl rfl S5 (fun w hS => vv_eql (a := x1) (b := 0) rfl rfl)<|dn 0 rfl rfl S5<|qqF 0 rfl rfl S5 (fun w hS => vv_move rfl) (fun c6 => ?_) (fun c6 => ?_)
 · replace hm := iF c6 hm
   refine qx 0 rfl rfl S5<|qx 0 rfl rfl S5<|qx 0 rfl rfl S5<|qx 0 rfl rfl S5<|qx 0 rfl rfl S5<|qx 0 rfl rfl S5<|qx 0 rfl rfl S5 ?_
   refine qx 0 rfl rfl S5<|qx 0 rfl rfl S5<|qx 0 rfl rfl S5<|qx 0 rfl rfl S5<|dn 0 rfl rfl S5<|dn 0 rfl rfl S5<|sd_done ?_
   refine sw_ret ?_
   have X7 := ((((Gr.refl w).trans G1).trans G2).trans G3)
   cases hm
   refine ⟨_, _, rfl, res_1 rfl (rv_tmp rfl), ?_⟩
   exact ⟨rfl, X7⟩
 replace hm := iT c6 hm
 refine qh 0 rfl rfl S5 (fun w hS => vv_fieldAddr fa_28_3 rfl)<|qh 0 rfl rfl S5 (fun w hS => vv_fieldAddr fa_26_1 rfl)<|qh 0 rfl rfl S5 (fun w hS => vv_load1 (v := wv p0.Group.Q) one_24 rfl (Bx.kp B3 hS) rfl)<|qh 0 rfl rfl S5 (fun w hS => vv_fieldAddr fa_28_1 rfl)<|qh 0 rfl rfl S5 (fun w hS => vv_load1 (v := .int .i64 p0.Depth) one_3 rfl (Bx.kp B3 hS) rfl) ?_
 obtain ⟨n2, hn2, hm⟩ := bnd hm
 refine qh 0 rfl rfl S5 (fun w hS => vv_shlI (a := 1) (b := p0.Depth) rfl rfl hn2)<|qh 0 rfl rfl S5 (fun w hS => vv_fieldAddr fa_28_2 rfl)<|qh 0 rfl rfl S5 (fun w hS => vv_load1 (v := .int .i64 p0.Degree) one_3 rfl (Bx.kp B3 hS) rfl)<|qh 0 rfl rfl S5 (fun w hS => vv_add (k := .i64) (a := shlI 1 n2) (b := p0.Degree) rfl rfl)<|qh 0 rfl rfl S5 (fun w hS => vv_cvIU cv_3_24 rfl)<|qh 0 rfl rfl S5 (fun w hS => vv_gtrU (c := p0.Group.Q) (d := wd (w64 ((shlI 1 n2) + p0.Degree))) rfl rfl)<|dn 0 rfl rfl S5 ?_
 refine dn 0 rfl rfl S5<|sd_done<|sw_ret ?_
 have X6 := ((((Gr.refl w).trans G1).trans G2).trans G3)
 cases hm
 refine ⟨_, _, rfl, res_1 rfl (rv_tmp rfl), ?_⟩
 exact ⟨rfl, X6⟩
theorem poly_Check_w {p0 r} (hm : poly_Check p0 = some r) {w : World} :
    Calls Tryz.prog 139 [.agg (TScheme.cs p0).toArray].toArray w fun e w' => ∃ v, e = .returned v ∧ (v = .int .i64 r ∧ Gr w w') := by
 unfold poly_Check at hm
 refine calls_of_sw 6 Tryz.func139 rfl rfl rfl<|qs 2 rfl<|qe rfl (ev_box (cs := TScheme.cs p0) rfl rfl) ?_
 rintro _ w1 ⟨b1, rfl, hbw1, Bw1, G1⟩
 have z1 := G1.size
 have lt2 := Bw1.lt
 refine qm rfl<|sd_done<|sw_seq<|qs 3 rfl<|qv rfl (vv_loadW agg_28 rfl Bw1 rfl) ?_
 obtain ⟨x1, hx1, hm⟩ := bnd hm
 refine qe rfl (eC en_98 rfl (poly_valid_w hx1)) ?_
 rintro _ w2 ⟨rfl, G2⟩
 have z3 := G2.size
 refine qv rfl (vv_not rfl)<|sd_done<|sw_cond rfl (fun c1 => ?_) (fun c1 => ?_)
 · replace hm := cnd_t c1 hm
   refine qs 1 rfl<|qm rfl<|qb ?_
   have X4 := (((Gr.refl w).trans G1).trans G2)
   cases hm
   refine ⟨_, _, rfl, res_1 rfl (rv_tmp rfl), ?_⟩
   exact ⟨rfl, X4⟩
 replace hm := cnd_f c1 hm
 refine qu<|qs 1 rfl<|qm rfl<|sd_done<|sw_ret ?_
 have X5 := (((Gr.refl w).trans G1).trans G2)
 cases hm
 refine ⟨_, _, rfl, res_1 rfl (rv_tmp rfl), ?_⟩
 exact ⟨rfl, X5⟩
theorem cipher_wordsOf_w {p0 r} (hm : cipher_wordsOf p0 = some r) {w : World} :
    Calls Tryz.prog 175 [kv p0].toArray w fun e w' => ∃ v, e = .returned v ∧ (v = .agg (Tcipher_pair.cs r).toArray ∧ Gr w w') := by
 unfold cipher_wordsOf at hm
 refine calls_of_sw 29 Tryz.func175 rfl rfl rfl<|qs 2 rfl<|qe rfl (ev_box (cs := kb p0) rfl rfl) ?_
 rintro _ w1 ⟨b1, rfl, hbw1, Bw1, G1⟩
 have z1 := G1.size
 have lt2 := Bw1.lt
 refine qe rfl (ev_alloc (cs := Tcipher_pair.cs (Tcipher_pair.mk 0#64 0#64)) zv_233 rfl) ?_
 rintro _ w2 ⟨b2, rfl, hbw2, Bw2, G2⟩
 have z3 := G2.size
 have lt4 := Bw2.lt
 refine qd 1 rfl<|qe rfl (ev_alloc (cs := Tcipher_pair.cs (Tcipher_pair.mk 0#64 0#64)) zv_233 rfl) ?_
 rintro _ w3 ⟨b3, rfl, hbw3, Bw3, G3⟩
 have z5 := G3.size
 have lt6 := Bw3.lt
 refine sd_done<|sw_seq<|qs 1 rfl<|qm rfl<|sd_done<|sw_block ?_
 have X7 := ((((Gr.refl w).trans G1).trans G2).trans G3)
 refine sw_loopD (α := Nat × Int × BitVec 64 × BitVec 64) (rg 4 24) (fun ⟨n1, a4, a5, a6⟩ => [(5, .int .i64 a4)]) (fun ⟨n1, a4, a5, a6⟩ wr => (fixN (cipher_wordsOf_L1 p0) n1 (a4, a5, a6) = some r) ∧ Bx wr b3 233 (Tcipher_pair.cs (Tcipher_pair.mk a5 a6)) ∧ Kz [(1, b3)] w3 wr) (fun ⟨n1, a4, a5, a6⟩ => n1) ⟨FUEL, 0, 0#64, 0#64⟩ ?_ ?_ ?_
 · exact sbq
 · exact ⟨hm, Bw3, Kz.refl _ _⟩
 clear hm; rintro ⟨n1, a4, a5, a6⟩ w4 ⟨hm, Fw4_0, K4⟩
 have z8 := K4.size
 have lt9 := Fw4_0.lt
 have hb := fix_succ hm; clear hm; obtain ⟨n1, rfl, hm⟩ := hb
 generalize hrec1 : fixN (cipher_wordsOf_L1 p0) n1 = rec1 at hm
 unfold cipher_wordsOf_L1 at hm
 try dsimp only at hm
 refine qs 1 rfl<|qv rfl (vv_lss (a := a4) (b := 8) rfl rfl)<|sd_done<|sw_seq<|cnF rfl (fun c1 => ?_) (fun c1 => ?_)
 · replace hm := iF c1 hm
   refine sw_exit<|then_x<|then_x<|block_x<|then_n<|qs 2 rfl ?_
   refine qv rfl (vv_loadW agg_233 rfl Fw4_0 rfl) ?_
   have B16 := ((Bw2.gr G3).kz K4)
   refine qe rfl (ev_stW agg_233 rfl rfl rfl B16 rfl rfl) ?_
   rintro _ w8 ⟨Bw8, M8⟩
   have z17 := M8.size
   refine sd_done<|sw_ret ?_
   have X18 := ((X7.kz K4).md M8)
   cases hm
   refine ⟨_, _, rfl, res_1 rfl (rv_cellW agg_233 rfl Bw8 rfl), ?_⟩
   exact ⟨rfl, X18⟩
 replace hm := iT c1 hm
 refine qu<|sw_seq<|sw_block<|qs 2 rfl<|qm rfl ?_
 refine qm rfl<|sd_done<|dw [([b3]),([])] [(18, [1]),(20, [1])] (.leaf [(0,10),(1,11),(2,10),(3,10),(4,10),(5,10),(6,10),(7,10),(8,10),(9,11),(10,10),(11,10),(12,10),(13,10),(14,10),(15,10),(16,10),(17,10),(18,0),(19,10),(20,0)]) ?_
 intro w5 G5 zw5
 refine sdz_leaf<|dh 0 rfl rfl (fun w hS => vv_fieldAddr fa_233_0 rfl) ?_
 have B10 := (Fw4_0.gr G5)
 refine dh 1 rfl rfl (fun w hS => vv_load1 (v := wv a5) one_24 rfl (Bx.kp B10 hS) rfl) ?_
 obtain ⟨n7, hn7, hm⟩ := bnd hm
 refine dh 0 rfl rfl (fun w hS => vv_shlU (c := a5) (b := (un 8#64)) rfl rfl hn7)<|dm 0 rfl rfl ?_
 obtain ⟨y8, hy8, hm⟩ := bnd hm
 refine dh 0 rfl rfl (fun w hS => vv_ixK (i := a4) (p := p0) Tryz.underlying23 (one_5).siz rfl rfl hy8) ?_
 have B11 := ((((Bw1.gr G2).gr G3).kz K4).gr G5)
 refine dh 0 rfl rfl (fun w hS => vv_ldK (off := 0) (p := p0) (i := a4) one_5 rfl (Bx.kp B11 hS) rfl hy8 (by omega))<|dh 0 rfl rfl (fun w hS => vv_cvBU cv_5_24 rfl)<|dh 0 rfl rfl (fun w hS => vv_uor (a := a5 <<< n7) (b := y8.setWidth 64) rfl rfl)<|dh 0 rfl rfl (fun w hS => vv_fieldAddr fa_233_1 rfl)<|dh 1 rfl rfl (fun w hS => vv_load1 (v := wv a6) one_24 rfl (Bx.kp B10 hS) rfl) ?_
 obtain ⟨n9, hn9, hm⟩ := bnd hm
 refine dh 0 rfl rfl (fun w hS => vv_shlU (c := a6) (b := (un 8#64)) rfl rfl hn9)<|dm 0 rfl rfl<|dh 0 rfl rfl (fun w hS => vv_add (k := .i64) (a := 8) (b := a4) rfl rfl) ?_
 obtain ⟨y10, hy10, hm⟩ := bnd hm
 refine dh 0 rfl rfl (fun w hS => vv_ixK (i := w64 (8 + a4)) (p := p0) Tryz.underlying23 (one_5).siz rfl rfl hy10)<|dh 0 rfl rfl (fun w hS => vv_ldK (off := 0) (p := p0) (i := w64 (8 + a4)) one_5 rfl (Bx.kp B11 hS) rfl hy10 (by omega))<|dh 0 rfl rfl (fun w hS => vv_cvBU cv_5_24 rfl)<|dh 0 rfl rfl (fun w hS => vv_uor (a := a6 <<< n9) (b := y10.setWidth 64) rfl rfl)<|dh 0 rfl rfl (fun w hS => vv_fieldAddr fa_233_0 rfl)<|qz [(1, b3)] rfl (ev_st1 (cs' := Tcipher_pair.cs (Tcipher_pair.mk ((a5 <<< n7) ||| (y8.setWidth 64)) a6)) (one_24).siz rfl rfl rfl B10 rfl rfl) ⟨fun _ => tk0, nofun, trivial⟩ ?_
 rintro _ w6 ⟨Bw6, M6⟩
 have z12 := M6.size
 refine kM M6 ?_
 have S13 := ((Kp.refl ([b3]) w5).md M6)
 refine qh 0 rfl rfl S13 (fun w hS => vv_fieldAddr fa_233_1 rfl)<|qz [(1, b3)] rfl (ev_st1 (cs' := Tcipher_pair.cs (Tcipher_pair.mk ((a5 <<< n7) ||| (y8.setWidth 64)) ((a6 <<< n9) ||| (y10.setWidth 64)))) (one_24).siz rfl rfl rfl Bw6 rfl rfl) ⟨fun _ => tk0, nofun, trivial⟩ ?_
 rintro _ w7 ⟨Bw7, M7⟩
 have z14 := M7.size
 refine kM M7<|sd_nil<|block_n<|then_n<|qg 2 rfl<|qv rfl (vv_add (k := .i64) (a := a4) (b := 1) rfl rfl)<|qm rfl ?_
 refine sd_nil ?_
 have K_15 : Kz [(1, b3)] w3 w7 := (((K4.gr G5).md M6).md M7)
 subst hrec1
 exact ⟨rfl, ⟨n1, w64 (a4 + 1), (a5 <<< n7) ||| (y8.setWidth 64), (a6 <<< n9) ||| (y10.setWidth 64)⟩, sbq, ⟨hm, Bw7, K_15⟩, Nat.lt_succ_self _⟩
theorem cipher_Number_w {p0 p1 p2 r} (hm : cipher_Number p0 p1 p2 = some r) {w : World} :
    Calls Tryz.prog 100 [kv p0, wv p1, wv p2].toArray w fun e w' => ∃ v, e = .returned v ∧ (v = wv r ∧ Gr w w') := by
 unfold cipher_Number at hm
 refine calls_of_sw 16 Tryz.func100 rfl rfl rfl<|qs 2 rfl<|qe rfl (ev_box (cs := kb p0) rfl rfl) ?_
 rintro _ w1 ⟨b1, rfl, hbw1, Bw1, G1⟩
 have z1 := G1.size
 have lt2 := Bw1.lt
 refine qm rfl<|sd_done<|sw_seq<|qs 2 rfl<|qm rfl<|qv rfl (vv_eqlU (c := p2) (d := 0#64) rfl rfl) ?_
 refine sd_done<|sw_cond rfl (fun c1 => ?_) (fun c1 => ?_)
 · replace hm := iT c1 hm
   refine qs 1 rfl<|qm rfl<|qb ?_
   have X3 := ((Gr.refl w).trans G1)
   cases hm
   refine ⟨_, _, rfl, res_1 rfl (rv_tmp rfl), ?_⟩
   exact ⟨rfl, X3⟩
 replace hm := iF c1 hm
 refine qu<|qs 8 rfl<|qv rfl (vv_loadW agg_23 rfl Bw1 rfl)<|qm rfl<|qe rfl (eC en_48 rfl (derive_c p0 (un8 3#8) (un8_nn _) (un8_le _) p1 _)) ?_
 rintro _ w2 ⟨rfl, G2⟩
 have z4 := G2.size
 obtain ⟨x1, hx1, hm⟩ := bnd hm
 refine qe rfl (eC en_175 rfl (cipher_wordsOf_w hx1)) ?_
 rintro _ w3 ⟨rfl, G3⟩
 have z5 := G3.size
 refine qv rfl (vv_field1 (v := wv x1.x) f1_233_0 rfl rfl)<|qm rfl ?_
 obtain ⟨x2, hx2, hm⟩ := bnd hm
 refine qv rfl (vv_remU (c := x1.x) (d := p2) rfl rfl hx2)<|qm rfl<|sd_done<|sw_ret ?_
 have X6 := ((((Gr.refl w).trans G1).trans G2).trans G3)
 cases hm
 refine ⟨_, _, rfl, res_1 rfl (rv_tmp rfl), ?_⟩
 exact ⟨rfl, X6⟩
theorem poly_secret_w {p0 p1 r} (hm : poly_secret p0 p1 = some r) {w : World} :
    Calls Tryz.prog 99 [kv p0, .agg (TScheme.cs p1).toArray].toArray w fun e w' => ∃ v, e = .returned v ∧ (∃ ur0_s zr0_s gr0_s, v = ur0_s ∧ Own w' zr0_s gr0_s 24 1 ur0_s (r.map uwc) ∧ Hdn (zr0_s = 0 ∨ w.heap.size ≤ gr0_s) ∧ Gr w w') := by
 unfold poly_secret at hm
 refine calls_of_sw 31 Tryz.func99 rfl rfl rfl<|qs 3 rfl<|qe rfl (ev_box (cs := kb p0) rfl rfl) ?_
 rintro _ w1 ⟨b1, rfl, hbw1, Bw1, G1⟩
 have z1 := G1.size
 have lt2 := Bw1.lt
 refine qe rfl (ev_box (cs := TScheme.cs p1) rfl rfl) ?_
 rintro _ w2 ⟨b2, rfl, hbw2, Bw2, G2⟩
 have z3 := G2.size
 have lt4 := Bw2.lt
 refine qm rfl<|qd 4 rfl ?_
 have B5 := (Bw1.gr G2)
 refine qv rfl (vv_loadW agg_23 rfl B5 rfl)<|qe rfl (eC en_48 rfl (derive_c p0 (un8 40#8) (un8_nn _) (un8_le _) 0#64 _)) ?_
 rintro _ w3 ⟨rfl, G3⟩
 have z6 := G3.size
 refine qe rfl (ev_alloc (cs := kb k0) zv_23 rfl) ?_
 rintro _ w4 ⟨b4, rfl, hbw4, Bw4, G4⟩
 have z7 := G4.size
 have lt8 := Bw4.lt
 refine qe rfl (ev_stW agg_23 rfl rfl rfl Bw4 rfl rfl) ?_
 rintro _ w5 ⟨Bw5, M5⟩
 have z9 := M5.size
 refine qd 5 rfl<|qv rfl (vv_fieldAddr fa_28_2 rfl) ?_
 have B10 := (((Bw2.gr G3).gr G4).md M5)
 refine qv rfl (vv_load1 (v := .int .i64 p1.Degree) one_3 rfl B10 rfl)<|qv rfl (vv_add (k := .i64) (a := p1.Degree) (b := 1) rfl rfl) ?_
 obtain ⟨l1, hl1, hm⟩ := bnd hm
 refine qe rfl (ev_mkT (c := uwc) (a := 0#64) apt_161 zv_24 rfl ⟨rfl, rfl⟩ rfl hl1 (by decide)) ?_
 rintro vw6 w6 ⟨gw6, hbw6, Ow6, G6⟩
 have z11 := G6.size
 have lt12 := Ow6.lth
 refine qm rfl<|sd_done<|sw_seq<|qs 3 rfl<|qm rfl<|qv rfl (vv_lenT (l := l1) (c := uwc) Tryz.underlying161 rfl (Own.rd Ow6)) ?_
 refine qm rfl<|sd_done<|sw_block ?_
 have X13 := (((((((Gr.refl w).trans G1).trans G2).trans G3).trans G4).md M5).trans G6)
 refine sw_loopD (α := Nat × List (BitVec 64) × Int × Value × Nat × Nat) ([6, 7] ++ rg 16 14) (fun ⟨n1, a5, a7, vy6, zy6, gy6⟩ => [(6, vy6), (16, .int .i64 a7)]) (fun ⟨n1, a5, a7, vy6, zy6, gy6⟩ wr => (fixN (poly_secret_L1 p0 p1 l1) n1 (a5, a7) = some r) ∧ Own wr zy6 gy6 24 1 vy6 (a5.map uwc) ∧ Hdn (zy6 = 0 ∨ (gy6 = gw6 ∧ 1 ≠ 0) ∨ w6.heap.size ≤ gy6) ∧ Kz [(1, gw6)] w6 wr) (fun ⟨n1, a5, a7, vy6, zy6, gy6⟩ => n1) ⟨FUEL, l1, 0, vw6, 1, gw6⟩ ?_ ?_ ?_
 · exact sbq
 · exact ⟨hm, Ow6, ⟨tk0⟩, Kz.refl _ _⟩
 clear hm; rintro ⟨n1, a5, a7, vy6, zy6, gy6⟩ w7 ⟨hm, Fw7_0, Fw7_1, K7⟩
 have z14 := K7.size
 have lt15 := Fw7_0.lth
 have hb := fix_succ hm; clear hm; obtain ⟨n1, rfl, hm⟩ := hb
 generalize hrec1 : fixN (poly_secret_L1 p0 p1 l1) n1 = rec1 at hm
 unfold poly_secret_L1 at hm
 try dsimp only at hm
 refine qs 1 rfl<|qv rfl (vv_lss (a := a7) (b := (l1.length : Int)) rfl rfl)<|sd_done<|sw_seq<|cnF rfl (fun c1 => ?_) (fun c1 => ?_)
 · replace hm := iF c1 hm
   refine sw_exit<|then_x<|then_x<|block_x<|then_n<|qs 2 rfl ?_
   refine qm rfl<|qm rfl<|sd_done<|sw_ret ?_
   have X23 := (X13.kz K7 (tk1 ((.inr tk0) : 1 = 0 ∨ w.heap.size ≤ gw6)))
   cases hm
   refine ⟨_, _, rfl, res_1 rfl (rv_tmp rfl), ?_⟩
   exact ⟨vy6, zy6, gy6, rfl, Fw7_0, ⟨(pv_1 (A := (fun x => w.heap.size ≤ x)) Fw7_1 (.inr tk0))⟩, X23⟩
 replace hm := iT c1 hm
 refine qu<|sw_seq<|sw_block<|qs 2 rfl<|qm rfl ?_
 refine qm rfl<|sd_done<|qg 11 rfl<|qm rfl<|qm rfl ?_
 have B16 := ((Bw5.gr G6).kz K7 (tk1 ((.inr tk0) : 1 = 0 ∨ gw6 ≠ b4)))
 refine qv rfl (vv_loadW agg_23 rfl B16 rfl)<|qm rfl<|qv rfl (vv_cvIU cv_3_24 rfl)<|qv rfl (vv_fieldAddr fa_28_3 rfl)<|qv rfl (vv_fieldAddr fa_26_1 rfl) ?_
 have B17 := ((B10.gr G6).kz K7 (tk1 ((.inr tk0) : 1 = 0 ∨ gw6 ≠ b2)))
 refine qv rfl (vv_load1 (v := wv p1.Group.Q) one_24 rfl B17 rfl) ?_
 obtain ⟨x8, hx8, hm⟩ := bnd hm
 refine qe rfl (eC en_100 rfl (cipher_Number_w hx8)) ?_
 rintro _ w8 ⟨rfl, G8⟩
 have z18 := G8.size
 obtain ⟨y9, hy9, hm⟩ := bnd hm
 have B19 := (Fw7_0.gr G8)
 refine qv rfl (vv_ixT (i := a7) Tryz.underlying161 (one_24).siz rfl (Own.rd B19) rfl hy9) ?_
 have zo20 := Own.z1 B19 hy9
 refine qe rfl (ev_stEl (i := a7) (q := 0) (a' := x8) (vs := [wv x8]) (c := uwc) (one_24).siz rfl rfl rfl rfl rfl B19 hy9 (by first | rfl | omega) rfl rfl ⟨rfl, rfl⟩) ?_
 rintro _ w9 ⟨Ow9, M9⟩
 have z21 := M9.size
 refine sd_nil<|block_n<|then_n<|qg 2 rfl<|qv rfl (vv_add (k := .i64) (a := a7) (b := 1) rfl rfl)<|qm rfl<|sd_nil ?_
 have K_22 : Kz [(1, gw6)] w6 w9 := ((K7.gr G8).md M9 (tk1 (pv_1 (A := (fun x => (x = gw6 ∧ 1 ≠ 0) ∨ w6.heap.size ≤ x)) Fw7_1 tk0)))
 subst hrec1
 exact ⟨rfl, ⟨n1, a5.set a7.toNat x8, w64 (a7 + 1), vy6, zy6, gy6⟩, sbq, ⟨hm, Ow9, ⟨(pv_1 (A := (fun x => (x = gw6 ∧ 1 ≠ 0) ∨ w6.heap.size ≤ x)) Fw7_1 tk0)⟩, K_22⟩, Nat.lt_succ_self _⟩
theorem slices_Backward_dc0b_w {p0 vp0 zp0 gp0 op0 r} (hm : slices_Backward_dc0b p0 = some r) {w : World} (hp0 : Rd w zp0 gp0 op0 1 vp0 (p0.map uwc)) :
    Calls Tryz.prog 181 [vp0].toArray w fun e w' => ∃ v, e = .returned v ∧ (∃ bc0 uc0_s zc0_s gc0_s oc0_s, v = .func (.func 237) #[] [.pointer (some ⟨bc0, 0, none⟩)].toArray ∧ Bx w' bc0 161 ([uc0_s]) ∧ (w.heap.size ≤ bc0) ∧ Rd w' zc0_s gc0_s oc0_s 1 uc0_s (r.map uwc) ∧ Hdn (zc0_s = 0 ∨ (gc0_s = gp0 ∧ zp0 ≠ 0) ∨ w.heap.size ≤ gc0_s) ∧ Gr w w') := by
 have lt1 := hp0.lth
 unfold slices_Backward_dc0b at hm
 refine calls_of_sw 4 Tryz.func181 rfl rfl rfl<|qs 2 rfl<|qe rfl (ev_box (cs := [vp0]) rfl (cells1 (Rd.oneB hp0))) ?_
 rintro _ w1 ⟨b1, rfl, hbw1, Bw1, G1⟩
 have z2 := G1.size
 have lt3 := Bw1.lt
 refine qm rfl<|qd 2 rfl<|qv rfl (vv_makeFunc rfl rfl)<|qm rfl<|sd_done ?_
 refine sw_ret ?_
 have B4 := (hp0.gr G1)
 have X5 := ((Gr.refl w).trans G1)
 cases hm
 refine ⟨_, _, rfl, res_1 rfl (rv_tmp rfl), ?_⟩
 exact ⟨b1, vp0, zp0, gp0, op0, rfl, Bw1, by omega, B4, ⟨tk0⟩, X5⟩
theorem slices_Backward_1_20b1_it (p1 : List (BitVec 64)) (bp1 : Nat) (vp1_0 : Value) (zp1_0 gp1_0 op1_0 : Nat) (xs : List (Int × BitVec 64)) (hm : slices_Backward_1_20b1 p1 = some xs) (w0 : World) (hbp1 : Bx w0 bp1 161 ([vp1_0])) (hp1_0 : Rd w0 zp1_0 gp1_0 op1_0 1 vp1_0 (p1.map uwc)) :
    IT Tryz.prog 237 [.pointer (some ⟨bp1, 0, none⟩)] (xs.map (fun (x : Int × BitVec 64) => ([.int .i64 x.1, wv x.2] : List Value))) (zf zp1_0 gp1_0 ++ [bp1]) w0 := by
 intro l J Jx w fp hG hJ hJx hcap h0 hY
 have c1 := Rd.gr hp1_0 hG
 have lt2 := c1.lth
 have nb3 : zp1_0 = 0 ∨ gp1_0 ∉ fp := by by_cases hz : zp1_0 = 0; exact .inl hz; exact .inr (hcap _ (by simp [mem_zf, hz]))
 have c4 := Bx.gr hbp1 hG
 have lt5 := c4.lt
 have nb6 : bp1 ∉ fp := hcap _ (by simp)
 have hd := dr_0 xs
 unfold slices_Backward_1_20b1 at hm
 refine calls_of_sw 19 Tryz.func237 rfl rfl rfl<|qs 4 rfl<|qv rfl (vv_load1 (v := vp1_0) one_161 rfl c4 rfl)<|qv rfl (vv_lenT (l := p1) (c := uwc) Tryz.underlying161 rfl c1)<|qv rfl (vv_sub (k := .i64) (a := (p1.length : Int)) (b := 1) rfl rfl)<|qm rfl ?_
 refine sd_done<|sw_block<|sw_loopD (α := Nat × Int × Nat × List Nat × List (Int × BitVec 64)) ([3] ++ rg 7 12) (fun ⟨n1, a2, kk, fpl, rl⟩ => [(3, .int .i64 a2)]) (fun ⟨n1, a2, kk, fpl, rl⟩ wr => (fixN (slices_Backward_1_20b1_L1 p1) n1 a2 = some rl) ∧ Dr xs kk rl ∧ J kk fpl wr ∧ (∀ c ∈ fpl, c ∈ fp ∨ w.heap.size ≤ c) ∧ Kp fp w wr ∧ Rd wr zp1_0 gp1_0 op1_0 1 vp1_0 (p1.map uwc) ∧ Bx wr bp1 161 ([vp1_0]) ∧ (zp1_0 = 0 ∨ gp1_0 ∉ fpl) ∧ bp1 ∉ fpl ∧ True) (fun ⟨n1, a2, kk, fpl, rl⟩ => n1) ⟨FUEL, w64 ((p1.length : Int) - 1), 0, fp, xs⟩ ?_ ?_ ?_
 · exact sbq
 · exact ⟨hm, hd, h0, (fun c hc => Or.inl hc), (Kp.refl fp w), c1, c4, nb3, nb6, trivial⟩
 clear hm; rintro ⟨n1, a2, kk1, fpl1, rl1⟩ w1 ⟨hm, dl1, JLw1, sl1, KLw1, Sw1_0, Sw1_1, Nw1_0, Nw1_1, -⟩
 have z7 := KLw1.size
 have lt8 := Sw1_0.lth
 have lt9 := Sw1_1.lt
 have hb := fix_succ hm; clear hm; obtain ⟨n1, rfl, hm⟩ := hb
 generalize hrec1 : fixN (slices_Backward_1_20b1_L1 p1) n1 = rec1 at hm
 unfold slices_Backward_1_20b1_L1 at hm
 try dsimp only at hm
 refine sw_seq<|qs 2 rfl<|qm rfl<|qv rfl (vv_geq (a := a2) (b := 0) rfl rfl)<|sd_done<|cnF rfl (fun c1 => ?_) (fun c1 => ?_)
 · replace hm := iF c1 hm
   refine sw_exit<|then_x<|then_x<|block_x ?_
   have he := Option.some.inj hm
   have hl := Dr.last (c := (fun (x : Int × BitVec 64) => ([.int .i64 x.1, wv x.2] : List Value))) dl1 he.symm
   refine ⟨_, _, rfl, res_none rfl, KLw1, .inl ⟨_, sl1, ?_⟩⟩
   rw [← hl]; exact JLw1
 replace hm := iT c1 hm
 refine qu<|sw_seq<|sw_block<|qs 8 rfl<|qm rfl ?_
 refine qm rfl<|qv rfl (vv_load1 (v := vp1_0) one_161 rfl Sw1_1 rfl)<|qm rfl ?_
 obtain ⟨y3, hy3, hm⟩ := bnd hm
 refine qv rfl (vv_ixT (i := a2) Tryz.underlying161 (one_24).siz rfl Sw1_0 rfl hy3)<|qv rfl (vv_el1T (q := 0) (u := wv y3) one_24 rfl Sw1_0 hy3 (by first | rfl | omega) rfl) ?_
 obtain ⟨rr10, hm, he10⟩ := yl_some hm
 have hx10 := Dr.at dl1 he10
 have hd10 := Dr.next dl1 he10
 refine qe rfl (ev_yield rfl rfl (hY _ _ _ _ (getm hx10) JLw1 KLw1 sl1)) ?_
 rintro _ w2 ⟨bb, rfl, KF10, fp10, hg10, hJb⟩
 have z11 := KF10.size
 have sub10 : ∀ c ∈ fp10, c ∈ fp ∨ w.heap.size ≤ c := sub_grow sl1 hg10 (by omega)
 have nb12 := notin_growz hg10 Nw1_0 (by have := lt8.o; omega)
 have nb13 := notin_grow hg10 Nw1_1 (by omega)
 cases bb
 · have Jy10 : Jx (kk1 + 1) fp10 w2 := hJb
   refine qv rfl (vv_not rfl)<|sd_done<|sw_condT rfl<|sw_ret<|block_r<|then_r<|then_r ?_
   refine block_r ?_
   have KI14 : Kp fp w w2 := (KLw1.trans KF10 sl1)
   exact ⟨_, _, rfl, res_none rfl, KI14, .inr ⟨_, _, sub10, (by rw [List.length_map]; exact (List.getElem?_eq_some_iff.1 hx10).1), Jy10⟩⟩
 have Jy10 : J (kk1 + 1) fp10 w2 := hJb
 refine qv rfl (vv_not rfl)<|sd_done<|sw_condF rfl<|sw_skip<|block_n<|then_n<|qg 3 rfl ?_
 refine qm rfl<|qv rfl (vv_sub (k := .i64) (a := a2) (b := 1) rfl rfl)<|qm rfl<|sd_nil ?_
 have KI15 : Kp fp w w2 := (KLw1.trans KF10 sl1)
 have B16 := (Rd.kp Sw1_0 KF10 Nw1_0)
 have B17 := (Bx.kp Sw1_1 KF10 Nw1_1)
 subst hrec1
 exact ⟨rfl, ⟨n1, w64 (a2 - 1), (kk1 + 1), fp10, rr10⟩, sbq, ⟨hm, hd10, Jy10, sub10, KI15, B16, B17, nb12, nb13, trivial⟩, Nat.lt_succ_self _⟩
theorem poly_field_mul_w {p0 p1 vp1 zp1 gp1 op1 r} (hm : poly_field_mul p0 p1 = some r) {w : World} (hp1 : Rd w zp1 gp1 op1 1 vp1 (p1.map uwc)) :
    Calls Tryz.prog 108 [wv p0, vp1].toArray w fun e w' => ∃ v, e = .returned v ∧ (v = wv r ∧ Gr w w') := by
 have lt1 := hp1.lth
 unfold poly_field_mul at hm
 refine calls_of_sw 21 Tryz.func108 rfl rfl rfl<|qs 1 rfl<|qm rfl<|qd 1 rfl ?_
 refine qm rfl<|sd_done<|sw_seq<|qs 3 rfl<|qm rfl<|qv rfl (vv_lenT (l := p1) (c := uwc) Tryz.underlying160 rfl hp1) ?_
 refine qm rfl<|sd_done<|sw_block<|sw_loopD (α := Nat × BitVec 64 × Int) ([5, 7] ++ rg 10 10) (fun ⟨n1, a3, a4⟩ => [(5, wv a3), (10, .int .i64 a4)]) (fun ⟨n1, a3, a4⟩ wr => (fixN (poly_field_mul_L1 p0 p1) n1 (a3, a4) = some r) ∧ Kz [] w wr) (fun ⟨n1, a3, a4⟩ => n1) ⟨FUEL, 1#64, 0⟩ ?_ ?_ ?_
 · exact sbq
 · exact ⟨hm, Kz.refl _ _⟩
 clear hm; rintro ⟨n1, a3, a4⟩ w1 ⟨hm, K1⟩
 have z2 := K1.size
 have hb := fix_succ hm; clear hm; obtain ⟨n1, rfl, hm⟩ := hb
 generalize hrec1 : fixN (poly_field_mul_L1 p0 p1) n1 = rec1 at hm
 unfold poly_field_mul_L1 at hm
 try dsimp only at hm
 refine qs 1 rfl<|qv rfl (vv_lss (a := a4) (b := (p1.length : Int)) rfl rfl)<|sd_done<|sw_seq<|cnF rfl (fun c1 => ?_) (fun c1 => ?_)
 · replace hm := iF c1 hm
   refine sw_exit<|then_x<|then_x<|block_x<|then_n<|qs 2 rfl ?_
   refine qm rfl<|qm rfl<|sd_done<|sw_ret ?_
   have X5 := ((Gr.refl w).kz K1)
   cases hm
   refine ⟨_, _, rfl, res_1 rfl (rv_tmp rfl), ?_⟩
   exact ⟨rfl, X5⟩
 replace hm := iT c1 hm
 refine qu<|sw_seq<|sw_block<|qs 3 rfl ?_
 obtain ⟨y5, hy5, hm⟩ := bnd hm
 have B3 := (hp1.kz K1)
 refine qv rfl (vv_ixT (i := a4) Tryz.underlying160 (one_24).siz rfl B3 rfl hy5)<|qv rfl (vv_el1T (q := 0) (u := wv y5) one_24 rfl B3 hy5 (by first | rfl | omega) rfl)<|qm rfl<|sd_done<|qg 6 rfl<|qm rfl<|qm rfl ?_
 refine qv rfl (vv_umul (a := a3) (b := y5) rfl rfl)<|qm rfl ?_
 obtain ⟨x6, hx6, hm⟩ := bnd hm
 refine qv rfl (vv_remU (c := a3 * y5) (d := p0) rfl rfl hx6)<|qm rfl<|sd_nil<|block_n<|then_n<|qg 2 rfl<|qv rfl (vv_add (k := .i64) (a := a4) (b := 1) rfl rfl) ?_
 refine qm rfl<|sd_nil ?_
 have K_4 : Kz [] w w1 := K1
 subst hrec1
 exact ⟨rfl, ⟨n1, x6, w64 (a4 + 1)⟩, sbq, ⟨hm, K_4⟩, Nat.lt_succ_self _⟩
theorem poly_polynomial_at_w {p0 p1 p2 vp0 zp0 gp0 op0 r} (hm : poly_polynomial_at p0 p1 p2 = some r) {w : World} (hp0 : Rd w zp0 gp0 op0 1 vp0 (p0.map uwc)) :
    Calls Tryz.prog 103 [vp0, wv p1, wv p2].toArray w fun e w' => ∃ v, e = .returned v ∧ (v = wv r ∧ Gr w w') := by
 have lt1 := hp0.lth
 unfold poly_polynomial_at at hm
 refine calls_of_sw 24 Tryz.func103 rfl rfl rfl<|qs 3 rfl<|qe rfl (ev_box (cs := [wv p1]) rfl rfl) ?_
 rintro _ w1 ⟨b1, rfl, hbw1, Bw1, G1⟩
 have z2 := G1.size
 have lt3 := Bw1.lt
 refine qe rfl (ev_box (cs := [wv p2]) rfl rfl) ?_
 rintro _ w2 ⟨b2, rfl, hbw2, Bw2, G2⟩
 have z4 := G2.size
 have lt5 := Bw2.lt
 refine qm rfl<|qd 2 rfl<|qe rfl (ev_alloc (cs := [wv 0#64]) zv_24 rfl) ?_
 rintro _ w3 ⟨b3, rfl, hbw3, Bw3, G3⟩
 have z6 := G3.size
 have lt7 := Bw3.lt
 refine qe rfl (ev_st1 (cs' := [wv 0#64]) (one_24).siz rfl rfl rfl Bw3 rfl rfl) ?_
 rintro _ w4 ⟨Bw4, M4⟩
 have z8 := M4.size
 refine sd_done<|sw_seq<|qs 2 rfl<|qm rfl ?_
 have B9 := ((((hp0.gr G1).gr G2).gr G3).md M4 (pb_lt lt1))
 obtain ⟨x1, hx1, hm⟩ := bnd hm
 refine qe rfl (eC en_181 rfl (slices_Backward_dc0b_w hx1 B9)) ?_
 rintro _ w5 ⟨k5_c0_0, u5_c00_s, z5_c00_s, g5_c00_s, o5_c00_s, rfl, O5_c0_0, f5_c0_0, O5_c00_s, f5_c00_s, G5⟩
 have z10 := G5.size
 have lt11 := O5_c00_s.lth
 have lt12 := O5_c0_0.lt
 refine sd_done<|sw_block ?_
 obtain ⟨l2, hl2, hm⟩ := bnd hm
 have X13 := ((((((Gr.refl w).trans G1).trans G2).trans G3).md M4).trans G5)
 have B14 := (B9.gr G5)
 have B15 := ((((Bw1.gr G2).gr G3).md M4).gr G5)
 have B16 := (((Bw2.gr G3).md M4).gr G5)
 have B17 := (Bw4.gr G5)
 refine sw_rangeFunc (gf := 237) rfl en_237 (slices_Backward_1_20b1_it x1 _ _ _ _ _ _ hl2 _ O5_c0_0 O5_c00_s) (by intro x hx; obtain ⟨a, _, rfl⟩ := List.mem_map.1 hx; rfl) rfl _ (fun _ _ _ _ => False) ([b3]) (stb_mk (α := BitVec 64) (fun a4 rk => itL (poly_polynomial_at_R1 p1 p2) poly_polynomial_at_D1 (List.drop rk l2) a4 = some r) (fun a4 => ([b3])) (fun a4 W => Bx W b3 24 ([wv a4]) ∧ True) (by rintro a4 W ⟨F0, _⟩ b hb; have q0 := F0.lt; replace hb : b ∈ ([b3]) := hb; simp only [List.mem_cons, List.mem_append, mem_zf, List.not_mem_nil, or_false, false_or, not_or, ne_eq, List.nil_append, List.cons_append, true_and, and_true, false_and, and_false, not_true_eq_false, not_false_eq_true, or_true, true_or] at hb; omega) (by rintro a4 W W' ⟨F0, _⟩ E hs; replace hs : ∀ b ∈ ([b3]), W'.heap[b]? = W.heap[b]? := hs; exact ⟨(hs _ (by simp)).trans F0, trivial⟩)) (fun _ => stb_false) (by intro b hb; have := (pb_1 (b := b3) f5_c00_s (pb_lt lt1)); have := lt11.o; simp only [List.mem_cons, List.mem_append, mem_zf, List.not_mem_nil, or_false, false_or, not_or, ne_eq, List.nil_append, List.cons_append, true_and, and_true, false_and, and_false, not_true_eq_false, not_false_eq_true, or_true, true_or] at hb ⊢; omega) ⟨0#64, hm, rfl, B17, trivial⟩ ?_ ?_ ?_
 · rintro l rk x fp w6 hl hx _ K6 hF hln hlt
   clear hm
   obtain ⟨⟨e5, e6⟩, hxe, rfl⟩ := map_some hx
   have Zw6 : Kz [(1, b3)] w5 w6 := kz_of_kp K6 (by intro k hk; simp only [Nin, and_true, List.mem_cons, List.mem_append, mem_zf, List.not_mem_nil, or_false, false_or, not_or, ne_eq, List.nil_append, List.cons_append, true_and, and_true, false_and, and_false, not_true_eq_false, not_false_eq_true, or_true, true_or] at hk ⊢; omega)
   have z18 := K6.size
   refine qg 1 rfl<|qm rfl<|sd_nil<|⟨rfl, (Gr.refl _), ?_⟩
   rintro w7 M7 ⟨a4, hm, rfl, Fw7_0, -⟩
   have z19 := M7.size
   have lt20 := Fw7_0.lt
   replace hm := itL_at hm hxe
   generalize hnx1 : itL (poly_polynomial_at_R1 p1 p2) poly_polynomial_at_D1 (List.drop (rk + 1) l2) = nx1 at hm
   unfold poly_polynomial_at_R1 at hm
   try dsimp only at hm
   refine sw_block<|dw [([b3]),([])] [(9, [1])] (.leaf [(0,10),(1,11),(2,10),(5,10),(7,10),(3,0),(4,0),(6,10),(8,10),(9,0)]) ?_
   intro w8 G8 zw8
   refine sdz_leaf ?_
   have B21 := (((B15.kz Zw6).md M7).gr G8)
   refine dh 0 rfl rfl (fun w hS => vv_load1 (v := wv p1) one_163 rfl (Bx.kp B21 hS) rfl) ?_
   have B22 := (Fw7_0.gr G8)
   refine dh 1 rfl rfl (fun w hS => vv_load1 (v := wv a4) one_24 rfl (Bx.kp B22 hS) rfl) ?_
   have B23 := (((B16.kz Zw6).md M7).gr G8)
   refine dh 0 rfl rfl (fun w hS => vv_load1 (v := wv p2) one_24 rfl (Bx.kp B23 hS) rfl)<|dm 0 rfl rfl<|dh 0 rfl rfl (fun w hS => vv_load1 (v := wv p1) one_163 rfl (Bx.kp B21 hS) rfl)<|qz [] rfl (ev_litT [a4, p2] uwc bsl_160_2 rfl rfl (ws_of rfl) rfl rfl rfl) ⟨fun _ => tk0, fun _ => tk0, trivial⟩ ?_
   rintro vw9 w9 ⟨gw9, hbw9, Ow9, G9⟩
   have z24 := G9.size
   have lt25 := Ow9.lth
   refine kG G9 ?_
   obtain ⟨x7, hx7, hm⟩ := bnd hm
   refine qz [] rfl (eC en_108 rfl (poly_field_mul_w hx7 (Own.rd Ow9))) ⟨fun _ => tk0, fun _ => tk0, trivial⟩ ?_
   rintro _ w10 ⟨rfl, G10⟩
   have z26 := G10.size
   refine kG G10 ?_
   have S27 := (((Kp.refl ([b3]) w8).gr G9).gr G10)
   refine qh 0 rfl rfl S27 (fun w hS => vv_uadd (a := x7) (b := e6) rfl rfl) ?_
   obtain ⟨x8, hx8, hm⟩ := bnd hm
   refine qh 0 rfl rfl S27 (fun w hS => vv_remU (c := x7 + e6) (d := p1) rfl rfl hx8) ?_
   have B28 := ((B22.gr G9).gr G10)
   refine qz [(1, b3)] rfl (ev_st1 (cs' := [wv x8]) (one_24).siz rfl rfl rfl B28 rfl rfl) ⟨fun _ => tk0, nofun, trivial⟩ ?_
   rintro _ w11 ⟨Bw11, M11⟩
   have z29 := M11.size
   refine kM M11<|sd_nil<|block_n ?_
   have K_30 : Kz [(1, b3)] w7 w11 := ((((Kz.gr (Kz.refl _ _) G8).gr G9).gr G10).md M11)
   have Kq30 : Kp ([b3]) w7 w11 := kp_of_kz K_30 (by intro k hk; simp only [Nin, and_true, List.mem_cons, List.mem_append, mem_zf, List.not_mem_nil, or_false, false_or, not_or, ne_eq, List.nil_append, List.cons_append, true_and, and_true, false_and, and_false, not_true_eq_false, not_false_eq_true, or_true, true_or] at hk ⊢; omega)
   subst hnx1
   exact ⟨Kq30, ([b3]), (by intro c hc; simp only [List.mem_cons, List.mem_append, mem_zf, List.not_mem_nil, or_false, false_or, not_or, ne_eq, List.nil_append, List.cons_append, true_and, and_true, false_and, and_false, not_true_eq_false, not_false_eq_true, or_true, true_or] at hc ⊢; omega), ⟨x8, hm, rfl, Bw11, trivial⟩⟩
 · clear hm; rintro Dw12 fp w12 hDw12 Dfw12 nw12 ⟨a4, hm, rfl, Fw12_0, -⟩ K12
   replace hm := itL_end hm
   have Zw12 : Kz [(1, b3)] w5 w12 := kz_of_kp K12 (by intro k hk; simp only [Nin, and_true, List.mem_cons, List.mem_append, mem_zf, List.not_mem_nil, or_false, false_or, not_or, ne_eq, List.nil_append, List.cons_append, true_and, and_true, false_and, and_false, not_true_eq_false, not_false_eq_true, or_true, true_or] at hk ⊢; omega)
   have z31 := K12.size
   have lt32 := Df.lt (w := w12) Dfw12
   simp only [List.mem_cons, List.mem_append, mem_zf, List.not_mem_nil, or_false, false_or, not_or, ne_eq, List.nil_append, List.cons_append, true_and, and_true, false_and, and_false, not_true_eq_false, not_false_eq_true, or_true, true_or, not_and] at nw12
   have lt33 := Fw12_0.lt
   unfold poly_polynomial_at_D1 at hm
   try dsimp only at hm
   refine block_n<|then_n<|qs 2 rfl<|qv rfl (vv_load1 (v := wv a4) one_24 rfl Fw12_0 rfl)<|qm rfl<|sd_done ?_
   refine sw_ret ?_
   have DL34 := Dfw12
   have L34 := Md.put (w := w12) Dw12 (.deferred none)
   have zL34 := L34.size
   have X35 : Gr w (w12.putObj Dw12 (.deferred none)) := ((X13.kz Zw12).md L34)
   cases hm
   refine ⟨_, _, ⟨Dw12, rfl, DL34, rfl⟩, res_1 rfl (rv_tmp rfl), ?_⟩
   exact ⟨rfl, X35⟩
 rintro _ _ _ _ _ _ _ _ _ h _
 exact h.elim
theorem poly_Secret_w {p0 p1 p2 r} (hm : poly_Secret p0 p1 p2 = some r) {w : World} :
    Calls Tryz.prog 140 [kv p0, .agg (TScheme.cs p1).toArray, .int .i64 p2].toArray w fun e w' => ∃ v, e = .returned v ∧ (∃ ur0_1 zr0_1 gr0_1, v = .tuple [.agg (TSecret.cs r.1 ur0_1).toArray, .int .i64 r.2].toArray ∧ Own w' zr0_1 gr0_1 92 18 ur0_1 (r.1.Labels.map TLabel.cs) ∧ Hdn (zr0_1 = 0 ∨ w.heap.size ≤ gr0_1) ∧ Gr w w') := by
 unfold poly_Secret at hm
 refine calls_of_sw 38 Tryz.func140 rfl rfl rfl<|qs 4 rfl<|qe rfl (ev_box (cs := kb p0) rfl rfl) ?_
 rintro _ w1 ⟨b1, rfl, hbw1, Bw1, G1⟩
 have z1 := G1.size
 have lt2 := Bw1.lt
 refine qe rfl (ev_box (cs := TScheme.cs p1) rfl rfl) ?_
 rintro _ w2 ⟨b2, rfl, hbw2, Bw2, G2⟩
 have z3 := G2.size
 have lt4 := Bw2.lt
 refine qe rfl (ev_alloc (cs := TSecret.cs (TSecret.mk 0 [] (TPoint.mk 0#64 0#64)) (.slice none 0 0)) zv_33 rfl) ?_
 rintro _ w3 ⟨b3, rfl, hbw3, Bw3, G3⟩
 have z5 := G3.size
 have lt6 := Bw3.lt
 refine qm rfl<|sd_done<|sw_seq<|qs 3 rfl ?_
 have B7 := (Bw2.gr G3)
 refine qv rfl (vv_loadW agg_28 rfl B7 rfl) ?_
 obtain ⟨x1, hx1, hm⟩ := bnd hm
 refine qe rfl (eC en_98 rfl (poly_valid_w hx1)) ?_
 rintro _ w4 ⟨rfl, G4⟩
 have z8 := G4.size
 refine qv rfl (vv_not rfl)<|sd_done<|sw_cond rfl (fun c1 => ?_) (fun c1 => ?_)
 · replace hm := cnd_t c1 hm
   refine qs 3 rfl<|qv rfl (vv_build (cs := TSecret.cs (TSecret.mk 0 [] (TPoint.mk 0#64 0#64)) (.slice none 0 0)) bs_33 rfl rfl) ?_
   have B9 := (Bw3.gr G4)
   refine qe rfl (ev_stW agg_33 rfl rfl (TSecret.cs_ones _ _ rfl) B9 rfl rfl) ?_
   rintro _ w5 ⟨Bw5, M5⟩
   have z10 := M5.size
   refine qm rfl<|qb ?_
   have Y1 := Gr.trans (Gr.trans (Gr.trans G1 G2) G3) G4
   have X11 := (((Gr.refl w).trans Y1).md M5)
   cases hm
   refine ⟨_, _, rfl, res_2 rfl (rv_cellW agg_33 rfl Bw5 rfl) (rv_tmp rfl), ?_⟩
   exact ⟨(.slice none 0 0), 0, 0, rfl, (own_nil _ 0 92 18), ⟨.inl rfl⟩, X11⟩
 replace hm := cnd_f c1 hm
 refine qu<|sw_seq ?_
 have Y2 := Gr.trans (Gr.trans (Gr.trans G1 G2) G3) G4
 have X12 := ((Gr.refl w).trans Y2)
 refine qj (β := Bool) (rg 13 9) (fun a2 => [(21, .bool a2)]) (fun a2 wr => (poly_Secret_J1 p0 p1 p2 a2 = some r) ∧ Kz [] w4 wr) ?_ ?_
 · refine qg 9 rfl<|qm rfl<|qv rfl (vv_lss (a := p2) (b := 0) rfl rfl)<|qp rfl (vv_move rfl) (fun c3 => ?_) (fun c3 => ?_)
   · replace hm := iT c3 hm
     refine qk rfl<|qk rfl<|qk rfl<|qk rfl<|qk rfl<|qm rfl<|sd_nil ?_
     exact ⟨rfl, true, sbq, hm, kz0⟩
   replace hm := iF c3 hm
   refine qm rfl<|qv rfl (vv_fieldAddr fa_28_1 rfl) ?_
   have B28 := (B7.gr G4)
   refine qv rfl (vv_load1 (v := .int .i64 p1.Depth) one_3 rfl B28 rfl) ?_
   obtain ⟨n5, hn5, hm⟩ := bnd hm
   refine qv rfl (vv_shlI (a := 1) (b := p1.Depth) rfl rfl hn5)<|qv rfl (vv_geq (a := p2) (b := shlI 1 n5) rfl rfl)<|qm rfl<|sd_nil ?_
   exact ⟨rfl, (decide (shlI 1 n5 ≤ p2)), sbq, hm, kz0⟩
 clear hm; rintro a2 w6 ⟨hm, K6⟩
 have z13 := K6.size
 unfold poly_Secret_J1 at hm
 refine sw_cond rfl (fun c2 => ?_) (fun c2 => ?_)
 · replace hm := cnd_t c2 hm
   refine qs 3 rfl<|qv rfl (vv_build (cs := TSecret.cs (TSecret.mk 0 [] (TPoint.mk 0#64 0#64)) (.slice none 0 0)) bs_33 rfl rfl) ?_
   have B14 := ((Bw3.gr G4).kz K6)
   refine qe rfl (ev_stW agg_33 rfl rfl (TSecret.cs_ones _ _ rfl) B14 rfl rfl) ?_
   rintro _ w7 ⟨Bw7, M7⟩
   have z15 := M7.size
   refine qm rfl<|qb ?_
   have X16 := ((X12.kz K6).md M7)
   cases hm
   refine ⟨_, _, rfl, res_2 rfl (rv_cellW agg_33 rfl Bw7 rfl) (rv_tmp rfl), ?_⟩
   exact ⟨(.slice none 0 0), 0, 0, rfl, (own_nil _ 0 92 18), ⟨.inl rfl⟩, X16⟩
 replace hm := cnd_f c2 hm
 refine qu<|qs 4 rfl<|qm rfl<|qv rfl (vv_cvIU cv_3_24 rfl)<|qv rfl (vv_uadd (a := wd p2) (b := 1#64) rfl rfl) ?_
 refine qm rfl<|sd_done<|sw_seq<|dw [([b3])] [] (.leaf [(0,10),(1,10),(2,10),(3,10),(5,10),(6,10),(7,10),(8,10),(4,0),(9,0),(10,10),(11,10),(12,0),(13,10)]) ?_
 intro w8 G8 zw8
 refine sdz_leaf<|dm 0 rfl rfl<|dm 0 rfl rfl ?_
 have Y3 := Gr.trans (Gr.trans G2 G3) G4
 have B17 := (((Bw1.gr Y3).kz K6).gr G8)
 refine dh 0 rfl rfl (fun w hS => vv_loadW agg_23 rfl (Bx.kp B17 hS) rfl) ?_
 have B18 := (((B7.gr G4).kz K6).gr G8)
 refine dh 0 rfl rfl (fun w hS => vv_loadW agg_28 rfl (Bx.kp B18 hS) rfl)<|dh 0 rfl rfl (fun w hS => vv_fieldAddr fa_28_3 rfl)<|dh 0 rfl rfl (fun w hS => vv_fieldAddr fa_26_1 rfl)<|dh 0 rfl rfl (fun w hS => vv_load1 (v := wv p1.Group.Q) one_24 rfl (Bx.kp B18 hS) rfl)<|dm 0 rfl rfl ?_
 obtain ⟨x3, hx3, hm⟩ := bnd hm
 refine qz [] rfl (eC en_99 rfl (poly_secret_w hx3)) ⟨fun _ => tk0, trivial⟩ ?_
 rintro u9_r0_s w9 ⟨_, z9_r0_s, g9_r0_s, rfl, O9_r0_s, f9_r0_s, G9⟩
 have z19 := G9.size
 have lt20 := O9_r0_s.lth
 refine kG G9 ?_
 obtain ⟨x4, hx4, hm⟩ := bnd hm
 refine qz [] rfl (eC en_103 rfl (poly_polynomial_at_w hx4 (Own.rd O9_r0_s))) ⟨fun _ => tk0, trivial⟩ ?_
 rintro _ w10 ⟨rfl, G10⟩
 have z21 := G10.size
 refine kG G10 ?_
 have S22 := (((Kp.refl ([b3]) w8).gr G9).gr G10)
 refine qh 0 rfl rfl S22 (fun w hS => vv_build (cs := TPoint.cs (TPoint.mk ((wd p2) + 1#64) x4)) bs_31 rfl rfl)<|qh 0 rfl rfl S22 (fun w hS => vv_build (cs := TSecret.cs (TSecret.mk p2 [] (TPoint.mk ((wd p2) + 1#64) x4)) (.slice none 0 0)) bs_33 rfl (fill_M rfl rfl rfl (fill_M rfl rfl rfl rfl))) ?_
 have B23 := (((((Bw3.gr G4).kz K6).gr G8).gr G9).gr G10)
 refine qz [(1, b3)] rfl (ev_stW agg_33 rfl rfl (TSecret.cs_ones _ _ rfl) B23 rfl rfl) ⟨fun _ => tk0, trivial⟩ ?_
 rintro _ w11 ⟨Bw11, M11⟩
 have z24 := M11.size
 refine kM M11 ?_
 have S25 := (S22.md M11)
 refine dn 0 rfl rfl S25<|sd_done<|sw_ret ?_
 have X26 := (((((X12.kz K6).trans G8).trans G9).trans G10).md M11)
 cases hm
 refine ⟨_, _, rfl, res_2 rfl (rv_cellW agg_33 rfl Bw11 rfl) (rv_tmp rfl), ?_⟩
 exact ⟨(.slice none 0 0), 0, 0, rfl, (own_nil _ 0 92 18), ⟨.inl rfl⟩, X26⟩
theorem poly_distinct_1_w {p0 p1 bp1 r} (hm : poly_distinct_1 p0 p1 = some r) {w : World} (hbp1 : Bx w bp1 31 (TPoint.cs p1)) :
    Calls Tryz.prog 184 [.agg (TPoint.cs p0).toArray, .pointer (some ⟨bp1, 0, none⟩)].toArray w fun e w' => ∃ v, e = .returned v ∧ (v = .bool r ∧ Gr w w') := by
 have lt1 := hbp1.lt
 unfold poly_distinct_1 at hm
 refine calls_of_sw 9 Tryz.func184 rfl rfl rfl<|qs 2 rfl<|qe rfl (ev_box (cs := TPoint.cs p0) rfl rfl) ?_
 rintro _ w1 ⟨b1, rfl, hbw1, Bw1, G1⟩
 have z2 := G1.size
 have lt3 := Bw1.lt
 refine qm rfl<|qd 6 rfl<|qv rfl (vv_fieldAddr fa_31_0 rfl)<|qv rfl (vv_load1 (v := wv p0.X) one_24 rfl Bw1 rfl)<|qv rfl (vv_fieldAddr fa_31_0 rfl) ?_
 have B4 := (hbp1.gr G1)
 refine qv rfl (vv_load1 (v := wv p1.X) one_24 rfl B4 rfl)<|qv rfl (vv_eqlU (c := p0.X) (d := p1.X) rfl rfl)<|qm rfl<|sd_done<|sw_ret ?_
 have X5 := ((Gr.refl w).trans G1)
 cases hm
 refine ⟨_, _, rfl, res_1 rfl (rv_tmp rfl), ?_⟩
 exact ⟨rfl, X5⟩
theorem slices_IndexFunc_7a5d_poly_distinct_1_w {p0 p1_0 vp0 zp0 gp0 op0 bp1_0 r} (hm : slices_IndexFunc_7a5d_poly_distinct_1 p0 p1_0 = some r) {w : World} (hp0 : Rd w zp0 gp0 op0 2 vp0 (p0.map TPoint.cs)) (hbp1_0 : Bx w bp1_0 31 (TPoint.cs p1_0)) :
    Calls Tryz.prog 238 [vp0, .func (.func 184) [].toArray [.pointer (some ⟨bp1_0, 0, none⟩)].toArray].toArray w fun e w' => ∃ v, e = .returned v ∧ (v = .int .i64 r ∧ Gr w w') := by
 have lt1 := hp0.lth
 have lt2 := hbp1_0.lt
 unfold slices_IndexFunc_7a5d_poly_distinct_1 at hm
 refine calls_of_sw 19 Tryz.func238 rfl rfl rfl<|qs 1 rfl<|qm rfl<|sd_done<|sw_seq<|sw_seq ?_
 refine qg 3 rfl<|qm rfl<|qv rfl (vv_lenT (l := p0) (c := TPoint.cs) Tryz.underlying46 rfl hp0)<|qm rfl<|sd_done<|sw_block<|sw_loopD (α := Nat × Int) ([4, 5] ++ rg 8 11) (fun ⟨n1, a2⟩ => [(4, .int .i64 0), (8, .int .i64 a2)]) (fun ⟨n1, a2⟩ wr => (fixN (slices_IndexFunc_7a5d_poly_distinct_1_L1 p0 p1_0) n1 a2 = some r) ∧ Kz [] w wr) (fun ⟨n1, a2⟩ => n1) ⟨FUEL, 0⟩ ?_ ?_ ?_
 · exact sbq
 · exact ⟨hm, Kz.refl _ _⟩
 clear hm; rintro ⟨n1, a2⟩ w1 ⟨hm, K1⟩
 have z3 := K1.size
 have hb := fix_succ hm; clear hm; obtain ⟨n1, rfl, hm⟩ := hb
 generalize hrec1 : fixN (slices_IndexFunc_7a5d_poly_distinct_1_L1 p0 p1_0) n1 = rec1 at hm
 unfold slices_IndexFunc_7a5d_poly_distinct_1_L1 at hm
 try dsimp only at hm
 refine qs 1 rfl<|qv rfl (vv_lss (a := a2) (b := (p0.length : Int)) rfl rfl)<|sd_done<|sw_seq<|cnF rfl (fun c1 => ?_) (fun c1 => ?_)
 · replace hm := iF c1 hm
   refine sw_exit<|then_x<|then_x<|block_x<|then_n<|qs 1 rfl ?_
   refine qm rfl<|sd_done<|sw_ret ?_
   have X9 := ((Gr.refl w).kz K1)
   cases hm
   refine ⟨_, _, rfl, res_1 rfl (rv_tmp rfl), ?_⟩
   exact ⟨rfl, X9⟩
 replace hm := iT c1 hm
 refine qu<|sw_seq<|sw_block<|qs 2 rfl<|qm rfl ?_
 refine qm rfl<|qd 6 rfl<|qm rfl<|qm rfl<|qm rfl ?_
 obtain ⟨y3, hy3, hm⟩ := bnd hm
 have B4 := (hp0.kz K1)
 refine qv rfl (vv_ixT (i := a2) Tryz.underlying46 (agg_31).siz rfl B4 rfl hy3)<|qv rfl (vv_elWT agg_31 rfl B4 hy3 (by first | rfl | omega)) ?_
 have B5 := (hbp1_0.kz K1)
 obtain ⟨x4, hx4, hm⟩ := bnd hm
 refine qe rfl (ev_callV en_184 rfl rfl (poly_distinct_1_w hx4 B5)) ?_
 rintro _ w2 ⟨rfl, G2⟩
 have z6 := G2.size
 refine sd_done<|sw_cond rfl (fun c2 => ?_) (fun c2 => ?_)
 · replace hm := cnd_t c2 hm
   refine qs 2 rfl<|qm rfl<|qm rfl<|sd_done<|sw_ret<|block_r ?_
   refine then_r<|then_r<|block_r<|then_r ?_
   have X7 := (((Gr.refl w).kz K1).trans G2)
   cases hm
   refine ⟨_, _, rfl, res_1 rfl (rv_tmp rfl), ?_⟩
   exact ⟨rfl, X7⟩
 replace hm := cnd_f c2 hm
 refine sw_skip<|block_n<|then_n<|qg 2 rfl<|qv rfl (vv_add (k := .i64) (a := a2) (b := 1) rfl rfl)<|qm rfl<|sd_nil ?_
 have K_8 : Kz [] w w2 := (K1.gr G2)
 subst hrec1
 exact ⟨rfl, ⟨n1, w64 (a2 + 1)⟩, sbq, ⟨hm, K_8⟩, Nat.lt_succ_self _⟩
theorem slices_ContainsFunc_9e39_poly_distinct_1_w {p0 p1_0 vp0 zp0 gp0 op0 bp1_0 r} (hm : slices_ContainsFunc_9e39_poly_distinct_1 p0 p1_0 = some r) {w : World} (hp0 : Rd w zp0 gp0 op0 2 vp0 (p0.map TPoint.cs)) (hbp1_0 : Bx w bp1_0 31 (TPoint.cs p1_0)) :
    Calls Tryz.prog 183 [vp0, .func (.func 184) [].toArray [.pointer (some ⟨bp1_0, 0, none⟩)].toArray].toArray w fun e w' => ∃ v, e = .returned v ∧ (v = .bool r ∧ Gr w w') := by
 have lt1 := hp0.lth
 have lt2 := hbp1_0.lt
 unfold slices_ContainsFunc_9e39_poly_distinct_1 at hm
 refine calls_of_sw 9 Tryz.func183 rfl rfl rfl<|qs 1 rfl<|qm rfl<|qd 5 rfl ?_
 refine qm rfl<|qm rfl ?_
 obtain ⟨x1, hx1, hm⟩ := bnd hm
 refine qe rfl (eC en_238 rfl (slices_IndexFunc_7a5d_poly_distinct_1_w hx1 hp0 hbp1_0)) ?_
 rintro _ w1 ⟨rfl, G1⟩
 have z3 := G1.size
 refine qv rfl (vv_geq (a := x1) (b := 0) rfl rfl)<|qm rfl<|sd_done<|sw_ret ?_
 have X4 := ((Gr.refl w).trans G1)
 cases hm
 refine ⟨_, _, rfl, res_1 rfl (rv_tmp rfl), ?_⟩
 exact ⟨rfl, X4⟩
theorem poly_distinct_w {p0 vp0 zp0 gp0 op0 r} (hm : poly_distinct p0 = some r) {w : World} (hp0 : Rd w zp0 gp0 op0 2 vp0 (p0.map TPoint.cs)) :
    Calls Tryz.prog 107 [vp0].toArray w fun e w' => ∃ v, e = .returned v ∧ (v = .bool r ∧ Gr w w') := by
 have lt1 := hp0.lth
 unfold poly_distinct at hm
 refine calls_of_sw 18 Tryz.func107 rfl rfl rfl<|qs 1 rfl<|qm rfl<|sd_done<|sw_seq<|sw_seq ?_
 refine qg 3 rfl<|qm rfl<|qv rfl (vv_lenT (l := p0) (c := TPoint.cs) Tryz.underlying46 rfl hp0)<|qm rfl<|sd_done<|sw_block<|sw_loopD (α := Nat × Int) ([2, 3, 4] ++ rg 7 11) (fun ⟨n1, a2⟩ => [(2, .bool false), (7, .int .i64 a2)]) (fun ⟨n1, a2⟩ wr => (fixN (poly_distinct_L1 p0) n1 a2 = some r) ∧ Kz [] w wr) (fun ⟨n1, a2⟩ => n1) ⟨FUEL, 0⟩ ?_ ?_ ?_
 · exact sbq
 · exact ⟨hm, Kz.refl _ _⟩
 clear hm; rintro ⟨n1, a2⟩ w1 ⟨hm, K1⟩
 have z2 := K1.size
 have hb := fix_succ hm; clear hm; obtain ⟨n1, rfl, hm⟩ := hb
 generalize hrec1 : fixN (poly_distinct_L1 p0) n1 = rec1 at hm
 unfold poly_distinct_L1 at hm
 try dsimp only at hm
 refine qs 1 rfl<|qv rfl (vv_lss (a := a2) (b := (p0.length : Int)) rfl rfl)<|sd_done<|sw_seq<|cnF rfl (fun c1 => ?_) (fun c1 => ?_)
 · replace hm := iF c1 hm
   refine sw_exit<|then_x<|then_x<|block_x<|then_n<|qs 1 rfl ?_
   refine qm rfl<|sd_done<|sw_ret ?_
   have X13 := ((Gr.refl w).kz K1)
   cases hm
   refine ⟨_, _, rfl, res_1 rfl (rv_tmp rfl), ?_⟩
   exact ⟨rfl, X13⟩
 replace hm := iT c1 hm
 refine qu<|sw_seq<|sw_block<|qs 6 rfl<|qm rfl ?_
 obtain ⟨y3, hy3, hm⟩ := bnd hm
 have B3 := (hp0.kz K1)
 refine qv rfl (vv_ixT (i := a2) Tryz.underlying46 (agg_31).siz rfl B3 rfl hy3)<|qv rfl (vv_elWT agg_31 rfl B3 hy3 (by first | rfl | omega))<|qe rfl (ev_alloc (cs := TPoint.cs (TPoint.mk 0#64 0#64)) zv_31 rfl) ?_
 rintro _ w2 ⟨b2, rfl, hbw2, Bw2, G2⟩
 have z4 := G2.size
 have lt5 := Bw2.lt
 refine qm rfl<|qe rfl (ev_stW agg_31 rfl rfl rfl Bw2 rfl rfl) ?_
 rintro _ w3 ⟨Bw3, M3⟩
 have z6 := M3.size
 refine qd 5 rfl<|qm rfl<|qm rfl ?_
 obtain ⟨l4, hl4, hm⟩ := bnd hm
 have B7 := ((B3.gr G2).md M3 (pb_lt lt1))
 refine qt rfl (vv_sliT (P := Tryz.prog) (lo := 0) (hi := a2) (l := p0) (c := TPoint.cs) Tryz.underlying46 (agg_31).siz rfl B7 rfl ⟨_, rfl⟩ hl4) ?_
 rintro v8 o8 R8
 have lt9 := R8.lth
 refine qv rfl (vv_makeFunc rfl rfl) ?_
 obtain ⟨x5, hx5, hm⟩ := bnd hm
 refine qe rfl (eC en_183 rfl (slices_ContainsFunc_9e39_poly_distinct_1_w hx5 R8 Bw3)) ?_
 rintro _ w4 ⟨rfl, G4⟩
 have z10 := G4.size
 refine sd_done<|sw_cond rfl (fun c2 => ?_) (fun c2 => ?_)
 · replace hm := cnd_t c2 hm
   refine qs 1 rfl<|qm rfl<|sd_done<|sw_ret<|block_r<|then_r ?_
   refine then_r<|block_r<|then_r ?_
   have X11 := (((((Gr.refl w).kz K1).trans G2).md M3).trans G4)
   cases hm
   refine ⟨_, _, rfl, res_1 rfl (rv_tmp rfl), ?_⟩
   exact ⟨rfl, X11⟩
 replace hm := cnd_f c2 hm
 refine sw_skip<|block_n<|then_n<|qg 2 rfl<|qv rfl (vv_add (k := .i64) (a := a2) (b := 1) rfl rfl)<|qm rfl<|sd_nil ?_
 have K_12 : Kz [] w w4 := (((K1.gr G2).md M3).gr G4)
 subst hrec1
 exact ⟨rfl, ⟨n1, w64 (a2 + 1)⟩, sbq, ⟨hm, K_12⟩, Nat.lt_succ_self _⟩
theorem slices_Clone_3bad_w {p0 vp0 zp0 gp0 op0 r} (hm : slices_Clone_3bad p0 = some r) {w : World} (hp0 : Rd w zp0 gp0 op0 2 vp0 (p0.map TPoint.cs)) :
    Calls Tryz.prog 182 [vp0].toArray w fun e w' => ∃ v, e = .returned v ∧ (∃ ur0_s zr0_s gr0_s, v = ur0_s ∧ Own w' zr0_s gr0_s 31 2 ur0_s (r.map TPoint.cs) ∧ Hdn (zr0_s = 0 ∨ w.heap.size ≤ gr0_s) ∧ Gr w w') := by
 have lt1 := hp0.lth
 unfold slices_Clone_3bad at hm
 refine calls_of_sw 8 Tryz.func182 rfl rfl rfl<|qs 1 rfl<|qm rfl<|sd_done<|sw_seq<|sw_seq ?_
 refine qg 2 rfl<|qm rfl ?_
 rcases rd_nilOr hp0 with ⟨ca2, hv2, hl2⟩ | ⟨aa2, ka2, ca2, hv2⟩
 · replace hm : (some []) = some r := by rw [hl2] at hm; exact hm
   refine qv rfl (vv_eqlNil Tryz.underlying46 rfl hv2)<|sd_done<|sw_condT rfl<|qs 1 rfl<|qm rfl<|sd_done ?_
   refine sw_ret<|then_r ?_
   cases hm
   refine ⟨_, _, rfl, res_1 rfl (rv_tmp rfl), ?_⟩
   exact ⟨(.slice none 0 0), 0, 0, rfl, (own_nil _ 0 31 2), ⟨.inl rfl⟩, (Gr.refl w)⟩
 skip
 refine qv rfl (vv_eqlNil Tryz.underlying46 rfl hv2)<|sd_done<|sw_condF rfl<|qu<|qs 4 rfl ?_
 refine qe rfl (ev_litT ([] : List TPoint) TPoint.cs bsl_46_0 rfl rfl (ws_of rfl) rfl rfl rfl) ?_
 rintro vw1 w1 ⟨gw1, hbw1, Ow1, G1⟩
 have z3 := G1.size
 have lt4 := Ow1.lth
 refine qm rfl ?_
 have B5 := (hp0.gr G1)
 obtain ⟨l1, hl1, hm⟩ := bnd hm
 refine qe rfl (ev_appT (l := ([] : List TPoint)) (m := p0) (c := TPoint.cs) apt_46 rfl rfl Ow1 B5 hl1 (by decide)) ?_
 rintro vw2 w2 ⟨zw2, gw2, Ow2, Aw2, qw2, rw2⟩
 have z6 := Aw2.size
 refine qm rfl<|sd_done<|sw_ret ?_
 have X7 := (((Gr.refl w).trans G1).ka Aw2 (tk1 ((.inr tk0) : 1 = 0 ∨ w.heap.size ≤ gw1)))
 cases hm
 refine ⟨_, _, rfl, res_1 rfl (rv_tmp rfl), ?_⟩
 exact ⟨vw2, zw2, gw2, rfl, Ow2, ⟨(pv_app (A := (fun x => w.heap.size ≤ x)) rw2 (.inr tk0))⟩, X7⟩
theorem poly_fits_w {p0 p1 p2 vp1_1 zp1_1 gp1_1 op1_1 vp2_0 zp2_0 gp2_0 op2_0 vp2_2 zp2_2 gp2_2 op2_2 r} (hm : poly_fits p0 p1 p2 = some r) {w : World} (hp1_1 : Rd w zp1_1 gp1_1 op1_1 18 vp1_1 (p1.Labels.map TLabel.cs)) (hp2_0 : Rd w zp2_0 gp2_0 op2_0 18 vp2_0 (p2.Items.map TItem.cs)) (hp2_2 : Rd w zp2_2 gp2_2 op2_2 2 vp2_2 (p2.Points.map TPoint.cs)) :
    Calls Tryz.prog 106 [.agg (TScheme.cs p0).toArray, .agg (TSecret.cs p1 vp1_1).toArray, .agg (THeader.cs p2 vp2_0 vp2_2).toArray].toArray w fun e w' => ∃ v, e = .returned v ∧ (v = .bool r ∧ Gr w w') := by
 have lt1 := hp1_1.lth
 have lt2 := hp2_0.lth
 have lt3 := hp2_2.lth
 unfold poly_fits at hm
 refine calls_of_sw 91 Tryz.func106 rfl rfl rfl<|qs 4 rfl<|qe rfl (ev_box (cs := TScheme.cs p0) rfl rfl) ?_
 rintro _ w1 ⟨b1, rfl, hbw1, Bw1, G1⟩
 have z4 := G1.size
 have lt5 := Bw1.lt
 refine qe rfl (ev_box (cs := TSecret.cs p1 vp1_1) rfl rfl) ?_
 rintro _ w2 ⟨b2, rfl, hbw2, Bw2, G2⟩
 have z6 := G2.size
 have lt7 := Bw2.lt
 refine qe rfl (ev_box (cs := THeader.cs p2 vp2_0 vp2_2) rfl rfl) ?_
 rintro _ w3 ⟨b3, rfl, hbw3, Bw3, G3⟩
 have z8 := G3.size
 have lt9 := Bw3.lt
 refine qm rfl<|sd_done<|sw_scope ?_
 have Y1 := Gr.trans (Gr.trans G1 G2) G3
 have X10 := ((Gr.refl w).trans Y1)
 refine qj (β := Bool) ([7] ++ rg 10 30) (fun a1 => [(7, .bool a1)]) (fun a1 wr => (poly_fits_J1 p0 p1 p2 a1 = some r) ∧ Kz [] w3 wr) ?_ ?_
 · refine qg 31 rfl<|qv rfl (vv_fieldAddr fa_48_0 rfl)<|qv rfl (vv_load1 (v := vp2_0) one_45 rfl Bw3 rfl) ?_
   have B54 := (hp2_0.gr Y1)
   refine qv rfl (vv_lenT (l := p2.Items) (c := TItem.cs) Tryz.underlying45 rfl B54)<|qv rfl (vv_eql (a := (p2.Items.length : Int)) (b := 0) rfl rfl)<|qpF rfl (vv_move rfl) (fun c7 => ?_) (fun c7 => ?_)
   · replace hm := iF c7 hm
     refine qk rfl<|qk rfl<|qk rfl<|qm rfl<|qm rfl<|qk rfl<|qk rfl ?_
     refine qk rfl<|qk rfl<|qk rfl<|qk rfl<|qm rfl<|qm rfl<|qk rfl ?_
     refine qk rfl<|qk rfl<|qk rfl<|qk rfl<|qk rfl<|qm rfl<|qm rfl ?_
     refine qk rfl<|qk rfl<|qk rfl<|qm rfl<|qm rfl<|sd_nil ?_
     exact ⟨rfl, false, sbq, hm, kz0⟩
   replace hm := iT c7 hm
   refine qv rfl (vv_fieldAddr fa_48_1 rfl)<|qv rfl (vv_load1 (v := wv p2.Base) one_24 rfl Bw3 rfl)<|qv rfl (vv_geqU (c := p2.Base) (d := 1#64) rfl rfl)<|qm rfl<|qpF rfl (vv_move rfl) (fun c8 => ?_) (fun c8 => ?_)
   · replace hm := iF c8 hm
     refine qk rfl<|qk rfl<|qk rfl<|qk rfl<|qk rfl<|qk rfl<|qm rfl ?_
     refine qm rfl<|qk rfl<|qk rfl<|qk rfl<|qk rfl<|qk rfl<|qk rfl ?_
     refine qm rfl<|qm rfl<|qk rfl<|qk rfl<|qk rfl<|qm rfl<|qm rfl ?_
     refine sd_nil ?_
     exact ⟨rfl, false, sbq, hm, kz0⟩
   replace hm := iT c8 hm
   refine qv rfl (vv_fieldAddr fa_48_1 rfl)<|qv rfl (vv_load1 (v := wv p2.Base) one_24 rfl Bw3 rfl)<|qv rfl (vv_fieldAddr fa_28_3 rfl)<|qv rfl (vv_fieldAddr fa_26_0 rfl) ?_
   have Y2 := Gr.trans G2 G3
   have B55 := (Bw1.gr Y2)
   refine qv rfl (vv_load1 (v := wv p0.Group.P) one_24 rfl B55 rfl)<|qv rfl (vv_lssU (c := p2.Base) (d := p0.Group.P) rfl rfl)<|qm rfl<|qpF rfl (vv_move rfl) (fun c9 => ?_) (fun c9 => ?_)
   · replace hm := iF c9 hm
     refine qk rfl<|qk rfl<|qk rfl<|qk rfl<|qk rfl<|qk rfl<|qm rfl ?_
     refine qm rfl<|qk rfl<|qk rfl<|qk rfl<|qm rfl<|qm rfl<|sd_nil ?_
     exact ⟨rfl, false, sbq, hm, kz0⟩
   replace hm := iT c9 hm
   refine qv rfl (vv_fieldAddr fa_48_2 rfl)<|qv rfl (vv_load1 (v := vp2_2) one_46 rfl Bw3 rfl) ?_
   have B56 := (hp2_2.gr Y1)
   refine qv rfl (vv_lenT (l := p2.Points) (c := TPoint.cs) Tryz.underlying46 rfl B56)<|qv rfl (vv_fieldAddr fa_28_2 rfl)<|qv rfl (vv_load1 (v := .int .i64 p0.Degree) one_3 rfl B55 rfl)<|qv rfl (vv_eql (a := (p2.Points.length : Int)) (b := p0.Degree) rfl rfl)<|qm rfl<|qpF rfl (vv_move rfl) (fun c10 => ?_) (fun c10 => ?_)
   · replace hm := iF c10 hm
     refine qk rfl<|qk rfl<|qk rfl<|qm rfl<|qm rfl<|sd_nil ?_
     exact ⟨rfl, false, sbq, hm, kz0⟩
   replace hm := iT c10 hm
   refine qv rfl (vv_fieldAddr fa_48_2 rfl)<|qv rfl (vv_load1 (v := vp2_2) one_46 rfl Bw3 rfl) ?_
   obtain ⟨x15, hx15, hm⟩ := bnd hm
   refine qe rfl (eC en_107 rfl (poly_distinct_w hx15 B56)) ?_
   rintro _ w17 ⟨rfl, G17⟩
   have z57 := G17.size
   refine qm rfl<|qm rfl<|sd_nil ?_
   exact ⟨rfl, x15, sbq, hm, (kz0.gr G17)⟩
 clear hm; rintro a1 w4 ⟨hm, K4⟩
 have z11 := K4.size
 unfold poly_fits_J1 at hm
 refine sw_seq<|sw_label<|then_n ?_
 have X12 := (X10.kz K4)
 refine qj (β := Bool) ([7, 9] ++ rg 40 41) (fun a2 => [(7, .bool a2)]) (fun a2 wr => (poly_fits_J2 p0 p1 a2 = some r) ∧ Kz [] w4 wr) ?_ ?_
 · refine qj (β := List TPoint × Int × Value × Nat × Nat) (rg 40 11) (fun ⟨a3, a5, vy4, zy4, gy4⟩ => [(48, vy4), (49, .int .i64 a5), (50, .int .i64 0)]) (fun ⟨a3, a5, vy4, zy4, gy4⟩ wr => (poly_fits_J3 p0 p1 a1 a3 a5 = some r) ∧ Own wr zy4 gy4 31 2 vy4 (a3.map TPoint.cs) ∧ Hdn (zy4 = 0 ∨ w4.heap.size ≤ gy4) ∧ Kz [] w4 wr) ?_ ?_
   · refine dw [([])] [] (.fork [(0,10),(1,10),(3,10),(4,10),(5,10),(6,10),(10,10)] (.leaf [(2,0),(7,0),(8,0),(9,0)]) (.leaf [(7,0),(2,0),(8,0),(9,0)])) ?_
     intro w10 G10 zw10
     refine sdz_fork<|dh 0 rfl rfl (fun w hS => vv_fieldAddr fa_48_2 rfl) ?_
     have B36 := ((Bw3.kz K4).gr G10)
     refine dh 0 rfl rfl (fun w hS => vv_load1 (v := vp2_2) one_46 rfl (Bx.kp B36 hS) rfl)<|dh 0 rfl rfl (fun w hS => vv_fieldAddr fa_33_2 rfl)<|dh 0 rfl rfl (fun w hS => vv_fieldAddr fa_31_0 rfl) ?_
     have B37 := (((Bw2.gr G3).kz K4).gr G10)
     refine dh 0 rfl rfl (fun w hS => vv_load1 (v := wv p1.Share.X) one_24 rfl (Bx.kp B37 hS) rfl)<|dh 0 rfl rfl (fun w hS => vv_build (cs := TPoint.cs (TPoint.mk p1.Share.X 1#64)) bs_31 rfl rfl)<|dm 0 rfl rfl<|sd_fork ?_ ?_
     · refine sdz_leaf ?_
       have B38 := (((hp2_2.gr Y1).kz K4).gr G10)
       obtain ⟨x11, hx11, hm⟩ := bnd hm
       refine qz [] rfl (eC en_182 rfl (slices_Clone_3bad_w hx11 B38)) ⟨fun _ => tk0, trivial⟩ ?_
       rintro u11_r0_s w11 ⟨_, z11_r0_s, g11_r0_s, rfl, O11_r0_s, f11_r0_s, G11⟩
       have z39 := G11.size
       have lt40 := O11_r0_s.lth
       refine kG G11<|qz [] rfl (ev_litT [(TPoint.mk p1.Share.X 1#64)] TPoint.cs bsl_46_1 rfl rfl (ws_of rfl) rfl rfl rfl) ⟨fun _ => tk0, trivial⟩ ?_
       rintro vw12 w12 ⟨gw12, hbw12, Ow12, G12⟩
       have z41 := G12.size
       have lt42 := Ow12.lth
       refine kG G12 ?_
       have B43 := (O11_r0_s.gr G12)
       obtain ⟨l12, hl12, hm⟩ := bnd hm
       refine qz [(z11_r0_s, g11_r0_s)] rfl (ev_appT (l := x11) (m := [(TPoint.mk p1.Share.X 1#64)]) (c := TPoint.cs) apt_46 rfl rfl B43 (Own.rd Ow12) hl12 (by decide)) ⟨fun _ => (tk1 (pv_0 (A := (fun x => w10.heap.size ≤ x)) f11_r0_s)), trivial⟩ ?_
       rintro vw13 w13 ⟨zw13, gw13, Ow13, Aw13, qw13, rw13⟩
       have z44 := Aw13.size
       refine ⟨Kz.ofKa Aw13, ?_⟩
       refine qw rfl (vv_lenT (l := l12) (c := TPoint.cs) Tryz.underlying46 rfl (Own.rd Ow13))<|sd_nil ?_
       exact ⟨rfl, ⟨l12, (l12.length : Int), vw13, zw13, gw13⟩, sbq, hm, Ow13, ⟨(pv_app (A := (fun x => w4.heap.size ≤ x)) rw13 (pv_0 (A := (fun x => w4.heap.size ≤ x)) f11_r0_s))⟩, ((((kz0.gr G10).gr G11).gr G12).ka Aw13 (tk1 (pv_0 (A := (fun x => w4.heap.size ≤ x)) f11_r0_s)))⟩
     refine sdz_leaf<|qz [] rfl (ev_litT [(TPoint.mk p1.Share.X 1#64)] TPoint.cs bsl_46_1 rfl rfl (ws_of rfl) rfl rfl rfl) ⟨fun _ => tk0, trivial⟩ ?_
     rintro vw14 w14 ⟨gw14, hbw14, Ow14, G14⟩
     have z46 := G14.size
     have lt47 := Ow14.lth
     refine kG G14 ?_
     have B48 := ((((hp2_2.gr Y1).kz K4).gr G10).gr G14)
     obtain ⟨x13, hx13, hm⟩ := bnd hm
     refine qz [] rfl (eC en_182 rfl (slices_Clone_3bad_w hx13 B48)) ⟨fun _ => tk0, trivial⟩ ?_
     rintro u15_r0_s w15 ⟨_, z15_r0_s, g15_r0_s, rfl, O15_r0_s, f15_r0_s, G15⟩
     have z49 := G15.size
     have lt50 := O15_r0_s.lth
     refine kG G15 ?_
     have B51 := (Ow14.gr G15)
     obtain ⟨l14, hl14, hm⟩ := bnd hm
     refine qz [(z15_r0_s, g15_r0_s)] rfl (ev_appT (l := x13) (m := [(TPoint.mk p1.Share.X 1#64)]) (c := TPoint.cs) apt_46 rfl rfl O15_r0_s (Own.rd B51) hl14 (by decide)) ⟨fun _ => (tk1 (pv_0 (A := (fun x => w10.heap.size ≤ x)) f15_r0_s)), trivial⟩ ?_
     rintro vw16 w16 ⟨zw16, gw16, Ow16, Aw16, qw16, rw16⟩
     have z52 := Aw16.size
     refine ⟨Kz.ofKa Aw16, ?_⟩
     refine qw rfl (vv_lenT (l := l14) (c := TPoint.cs) Tryz.underlying46 rfl (Own.rd Ow16))<|sd_nil ?_
     exact ⟨rfl, ⟨l14, (l14.length : Int), vw16, zw16, gw16⟩, sbq, hm, Ow16, ⟨(pv_app (A := (fun x => w4.heap.size ≤ x)) rw16 (pv_0 (A := (fun x => w4.heap.size ≤ x)) f15_r0_s))⟩, ((((kz0.gr G10).gr G14).gr G15).ka Aw16 (tk1 (pv_0 (A := (fun x => w4.heap.size ≤ x)) f15_r0_s)))⟩
   clear hm; rintro ⟨a3, a5, vy4, zy4, gy4⟩ w6 ⟨hm, Fw6_0, Fw6_1, K6⟩
   have z18 := K6.size
   have lt19 := Fw6_0.lth
   unfold poly_fits_J3 at hm
   refine sw_block ?_
   have X20 := (X12.kz K6)
   have B21 := (((hp1_1.gr Y1).kz K4).kz K6)
   have B22 := (((hp2_0.gr Y1).kz K4).kz K6)
   have B23 := (((hp2_2.gr Y1).kz K4).kz K6)
   refine sw_loopD (α := Nat × Bool × Int) ([7, 9] ++ rg 50 31) (fun ⟨n4, a8, a9⟩ => [(7, .bool a8), (50, .int .i64 a9)]) (fun ⟨n4, a8, a9⟩ wr => (fixN (poly_fits_L4 p0 p1 a3 a5) n4 (a8, a9) = some r) ∧ Kz [] w6 wr) (fun ⟨n4, a8, a9⟩ => n4) ⟨FUEL, a1, 0⟩ ?_ ?_ ?_
   · exact sbq
   · exact ⟨hm, Kz.refl _ _⟩
   clear hm; rintro ⟨n4, a8, a9⟩ w7 ⟨hm, K7⟩
   have z24 := K7.size
   have hb := fix_succ hm; clear hm; obtain ⟨n4, rfl, hm⟩ := hb
   generalize hrec4 : fixN (poly_fits_L4 p0 p1 a3 a5) n4 = rec4 at hm
   unfold poly_fits_L4 at hm
   try dsimp only at hm
   refine qs 1 rfl<|qv rfl (vv_lss (a := a9) (b := a5) rfl rfl)<|sd_done<|sw_seq<|cnF rfl (fun c2 => ?_) (fun c2 => ?_)
   · replace hm := iF c2 hm
     refine sw_exit<|then_x<|then_x<|block_x ?_
     exact ⟨rfl, a8, sbq, hm, ((kz0.kz K6).kz K7)⟩
   replace hm := iT c2 hm
   refine qu<|sw_seq<|sw_block<|qs 4 rfl ?_
   obtain ⟨y10, hy10, hm⟩ := bnd hm
   have B25 := (Fw6_0.kz K7)
   refine qv rfl (vv_ixT (i := a9) Tryz.underlying46 (agg_31).siz rfl (Own.rd B25) rfl hy10)<|qv rfl (vv_elWT agg_31 rfl (Own.rd B25) hy10 (by first | rfl | omega))<|qe rfl (ev_alloc (cs := TPoint.cs (TPoint.mk 0#64 0#64)) zv_31 rfl) ?_
   rintro _ w8 ⟨b8, rfl, hbw8, Bw8, G8⟩
   have z26 := G8.size
   have lt27 := Bw8.lt
   refine qe rfl (ev_stW agg_31 rfl rfl rfl Bw8 rfl rfl) ?_
   rintro _ w9 ⟨Bw9, M9⟩
   have z28 := M9.size
   refine sd_done<|sw_seq<|qs 2 rfl<|qm rfl<|qv rfl (vv_not rfl)<|sd_done ?_
   refine sw_cond rfl (fun c3 => ?_) (fun c3 => ?_)
   · replace hm := cnd_t c3 hm
     refine sw_exit<|then_x<|block_o rfl<|then_x<|then_x<|block_x ?_
     exact ⟨rfl, a8, sbq, hm, ((((kz0.kz K6).kz K7).gr G8).md M9)⟩
   replace hm := cnd_f c3 hm
   refine qu<|qg 25 rfl<|qv rfl (vv_fieldAddr fa_31_0 rfl)<|qv rfl (vv_load1 (v := wv y10.X) one_24 rfl Bw9 rfl)<|qv rfl (vv_geqU (c := y10.X) (d := 1#64) rfl rfl)<|qpF rfl (vv_move rfl) (fun c4 => ?_) (fun c4 => ?_)
   · replace hm := iF c4 hm
     refine qk rfl<|qk rfl<|qk rfl<|qk rfl<|qk rfl<|qk rfl<|qm rfl ?_
     refine qm rfl<|qk rfl<|qk rfl<|qk rfl<|qm rfl<|qm rfl<|qk rfl ?_
     refine qk rfl<|qk rfl<|qk rfl<|qk rfl<|qk rfl<|qm rfl<|qm rfl ?_
     refine sd_nil<|block_n<|then_n<|qg 2 rfl<|qv rfl (vv_add (k := .i64) (a := a9) (b := 1) rfl rfl)<|qm rfl<|sd_nil ?_
     have K_34 : Kz [] w6 w9 := ((K7.gr G8).md M9)
     subst hrec4
     exact ⟨rfl, ⟨n4, false, w64 (a9 + 1)⟩, sbq, ⟨hm, K_34⟩, Nat.lt_succ_self _⟩
   replace hm := iT c4 hm
   refine qv rfl (vv_fieldAddr fa_31_0 rfl)<|qv rfl (vv_load1 (v := wv y10.X) one_24 rfl Bw9 rfl)<|qv rfl (vv_fieldAddr fa_28_3 rfl)<|qv rfl (vv_fieldAddr fa_26_1 rfl) ?_
   have Y3 := Gr.trans G2 G3
   have B30 := ((((((Bw1.gr Y3).kz K4).kz K6).kz K7).gr G8).md M9)
   refine qv rfl (vv_load1 (v := wv p0.Group.Q) one_24 rfl B30 rfl)<|qv rfl (vv_lssU (c := y10.X) (d := p0.Group.Q) rfl rfl)<|qm rfl<|qpF rfl (vv_move rfl) (fun c5 => ?_) (fun c5 => ?_)
   · replace hm := iF c5 hm
     refine qk rfl<|qk rfl<|qk rfl<|qm rfl<|qm rfl<|qk rfl<|qk rfl ?_
     refine qk rfl<|qk rfl<|qk rfl<|qk rfl<|qm rfl<|qm rfl<|sd_nil ?_
     refine block_n<|then_n<|qg 2 rfl<|qv rfl (vv_add (k := .i64) (a := a9) (b := 1) rfl rfl)<|qm rfl<|sd_nil ?_
     have K_33 : Kz [] w6 w9 := ((K7.gr G8).md M9)
     subst hrec4
     exact ⟨rfl, ⟨n4, false, w64 (a9 + 1)⟩, sbq, ⟨hm, K_33⟩, Nat.lt_succ_self _⟩
   replace hm := iT c5 hm
   refine qv rfl (vv_fieldAddr fa_31_1 rfl)<|qv rfl (vv_load1 (v := wv y10.Y) one_24 rfl Bw9 rfl)<|qv rfl (vv_geqU (c := y10.Y) (d := 1#64) rfl rfl)<|qm rfl<|qpF rfl (vv_move rfl) (fun c6 => ?_) (fun c6 => ?_)
   · replace hm := iF c6 hm
     refine qk rfl<|qk rfl<|qk rfl<|qk rfl<|qk rfl<|qk rfl<|qm rfl ?_
     refine qm rfl<|sd_nil<|block_n<|then_n<|qg 2 rfl<|qv rfl (vv_add (k := .i64) (a := a9) (b := 1) rfl rfl)<|qm rfl ?_
     refine sd_nil ?_
     have K_32 : Kz [] w6 w9 := ((K7.gr G8).md M9)
     subst hrec4
     exact ⟨rfl, ⟨n4, false, w64 (a9 + 1)⟩, sbq, ⟨hm, K_32⟩, Nat.lt_succ_self _⟩
   replace hm := iT c6 hm
   refine qv rfl (vv_fieldAddr fa_31_1 rfl)<|qv rfl (vv_load1 (v := wv y10.Y) one_24 rfl Bw9 rfl)<|qv rfl (vv_fieldAddr fa_28_3 rfl)<|qv rfl (vv_fieldAddr fa_26_0 rfl)<|qv rfl (vv_load1 (v := wv p0.Group.P) one_24 rfl B30 rfl)<|qv rfl (vv_lssU (c := y10.Y) (d := p0.Group.P) rfl rfl)<|qm rfl ?_
   refine qm rfl<|sd_nil<|block_n<|then_n<|qg 2 rfl<|qv rfl (vv_add (k := .i64) (a := a9) (b := 1) rfl rfl)<|qm rfl ?_
   refine sd_nil ?_
   have K_31 : Kz [] w6 w9 := ((K7.gr G8).md M9)
   subst hrec4
   exact ⟨rfl, ⟨n4, decide (y10.Y < p0.Group.P), w64 (a9 + 1)⟩, sbq, ⟨hm, K_31⟩, Nat.lt_succ_self _⟩
 clear hm; rintro a2 w5 ⟨hm, K5⟩
 have z13 := K5.size
 unfold poly_fits_J2 at hm
 refine qs 11 rfl<|qm rfl<|qpF rfl (vv_move rfl) (fun c1 => ?_) (fun c1 => ?_)
 · replace hm := cnd_f c1 hm
   refine qk rfl<|qk rfl<|qk rfl<|qk rfl<|qk rfl<|qk rfl<|qk rfl ?_
   refine qm rfl<|qm rfl<|sd_done<|sw_ret<|scope_r ?_
   have X17 := (X12.kz K5)
   cases hm
   refine ⟨_, _, rfl, res_1 rfl (rv_tmp rfl), ?_⟩
   exact ⟨rfl, X17⟩
 replace hm := cnd_t c1 hm
 refine qv rfl (vv_fieldAddr fa_33_2 rfl)<|qv rfl (vv_fieldAddr fa_31_1 rfl) ?_
 have B14 := (((Bw2.gr G3).kz K4).kz K5)
 refine qv rfl (vv_load1 (v := wv p1.Share.Y) one_24 rfl B14 rfl)<|qv rfl (vv_fieldAddr fa_28_3 rfl)<|qv rfl (vv_fieldAddr fa_26_1 rfl) ?_
 have Y4 := Gr.trans G2 G3
 have B15 := (((Bw1.gr Y4).kz K4).kz K5)
 refine qv rfl (vv_load1 (v := wv p0.Group.Q) one_24 rfl B15 rfl)<|qv rfl (vv_lssU (c := p1.Share.Y) (d := p0.Group.Q) rfl rfl)<|qm rfl<|qm rfl<|sd_done<|sw_ret<|scope_r ?_
 have X16 := (X12.kz K5)
 cases hm
 refine ⟨_, _, rfl, res_1 rfl (rv_tmp rfl), ?_⟩
 exact ⟨rfl, X16⟩
theorem number_modulus_w {p0 r} (hm : number_modulus p0 = some r) {w : World} :
    Calls Tryz.prog 236 [wv p0].toArray w fun e w' => ∃ v, e = .returned v ∧ (v = .bool r ∧ Gr w w') := by
 unfold number_modulus at hm
 refine calls_of_sw 9 Tryz.func236 rfl rfl rfl<|qs 1 rfl<|qm rfl<|qd 7 rfl ?_
 refine qm rfl<|qv rfl (vv_geqU (c := p0) (d := 1#64) rfl rfl)<|qp rfl (vv_move rfl) (fun c1 => ?_) (fun c1 => ?_)
 · replace hm := iT c1 hm
   refine qm rfl<|qv rfl (vv_lssU (c := p0) (d := 4294967296#64) rfl rfl)<|qm rfl<|qm rfl<|sd_done<|sw_ret ?_
   cases hm
   refine ⟨_, _, rfl, res_1 rfl (rv_tmp rfl), ?_⟩
   exact ⟨rfl, (Gr.refl w)⟩
 replace hm := iF c1 hm
 refine qk rfl<|qk rfl<|qm rfl<|qm rfl<|sd_done<|sw_ret ?_
 cases hm
 refine ⟨_, _, rfl, res_1 rfl (rv_tmp rfl), ?_⟩
 exact ⟨rfl, (Gr.refl w)⟩
theorem number_PowMod_w {p0 p1 p2 r} (hm : number_PowMod p0 p1 p2 = some r) {w : World} :
    Calls Tryz.prog 180 [wv p0, wv p1, wv p2].toArray w fun e w' => ∃ v, e = .returned v ∧ (v = .tuple [wv r.1, .int .i64 r.2].toArray ∧ Gr w w') := by
 unfold number_PowMod at hm
 refine calls_of_sw 15 Tryz.func180 rfl rfl rfl<|qs 2 rfl<|qm rfl<|qm rfl<|sd_done<|sw_seq ?_
 refine qs 3 rfl<|qm rfl ?_
 obtain ⟨x1, hx1, hm⟩ := bnd hm
 refine qe rfl (eC en_236 rfl (number_modulus_w hx1)) ?_
 rintro _ w1 ⟨rfl, G1⟩
 have z1 := G1.size
 refine qv rfl (vv_not rfl)<|sd_done<|sw_cond rfl (fun c1 => ?_) (fun c1 => ?_)
 · replace hm := cnd_t c1 hm
   refine qs 2 rfl<|qm rfl<|qm rfl<|sd_done<|sw_ret<|then_r ?_
   have X2 := ((Gr.refl w).trans G1)
   cases hm
   refine ⟨_, _, rfl, res_2 rfl (rv_tmp rfl) (rv_tmp rfl), ?_⟩
   exact ⟨rfl, X2⟩
 replace hm := cnd_f c1 hm
 refine qu<|qs 6 rfl<|qm rfl<|qm rfl<|qm rfl ?_
 obtain ⟨x2, hx2, hm⟩ := bnd hm
 refine qe rfl (eC en_235 rfl (number_power_w hx2)) ?_
 rintro _ w2 ⟨rfl, G2⟩
 have z3 := G2.size
 refine qm rfl<|qm rfl<|sd_done<|sw_ret ?_
 have X4 := (((Gr.refl w).trans G1).trans G2)
 cases hm
 refine ⟨_, _, rfl, res_2 rfl (rv_tmp rfl) (rv_tmp rfl), ?_⟩
 exact ⟨rfl, X4⟩
theorem poly_power_w {p0 p1 p2 r} (hm : poly_power p0 p1 p2 = some r) {w : World} :
    Calls Tryz.prog 101 [.agg (TScheme.cs p0).toArray, wv p1, wv p2].toArray w fun e w' => ∃ v, e = .returned v ∧ (v = wv r ∧ Gr w w') := by
 unfold poly_power at hm
 refine calls_of_sw 19 Tryz.func101 rfl rfl rfl<|qs 2 rfl<|qe rfl (ev_box (cs := TScheme.cs p0) rfl rfl) ?_
 rintro _ w1 ⟨b1, rfl, hbw1, Bw1, G1⟩
 have z1 := G1.size
 have lt2 := Bw1.lt
 refine qm rfl<|qd 11 rfl<|qm rfl<|qm rfl<|qv rfl (vv_fieldAddr fa_28_3 rfl) ?_
 refine qv rfl (vv_fieldAddr fa_26_0 rfl)<|qv rfl (vv_load1 (v := wv p0.Group.P) one_24 rfl Bw1 rfl) ?_
 obtain ⟨x1, hx1, hm⟩ := bnd hm
 refine qe rfl (eC en_180 rfl (number_PowMod_w hx1)) ?_
 rintro _ w2 ⟨rfl, G2⟩
 have z3 := G2.size
 refine qm rfl<|qm rfl<|qm rfl<|qm rfl<|qm rfl<|sd_done<|sw_seq ?_
 refine qg 2 rfl<|qm rfl<|qm rfl<|sd_done<|sw_ret ?_
 have X4 := (((Gr.refl w).trans G1).trans G2)
 cases hm
 refine ⟨_, _, rfl, res_1 rfl (rv_tmp rfl), ?_⟩
 exact ⟨rfl, X4⟩
theorem poly_field_sub_w {p0 p1 p2 r} (hm : poly_field_sub p0 p1 p2 = some r) {w : World} :
    Calls Tryz.prog 109 [wv p0, wv p1, wv p2].toArray w fun e w' => ∃ v, e = .returned v ∧ (v = wv r ∧ Gr w w') := by
 unfold poly_field_sub at hm
 refine calls_of_sw 14 Tryz.func109 rfl rfl rfl<|qs 1 rfl<|qm rfl<|qd 8 rfl ?_
 refine qm rfl<|qm rfl<|qv rfl (vv_uadd (a := p1) (b := p0) rfl rfl)<|qm rfl<|qv rfl (vv_usub (a := p1 + p0) (b := p2) rfl rfl)<|qm rfl ?_
 obtain ⟨x1, hx1, hm⟩ := bnd hm
 refine qv rfl (vv_remU (c := (p1 + p0) - p2) (d := p0) rfl rfl hx1)<|qm rfl<|sd_done<|sw_ret ?_
 cases hm
 refine ⟨_, _, rfl, res_1 rfl (rv_tmp rfl), ?_⟩
 exact ⟨rfl, (Gr.refl w)⟩
theorem number_InvMod_w {p0 p1 r} (hm : number_InvMod p0 p1 = some r) {w : World} :
    Calls Tryz.prog 185 [wv p0, wv p1].toArray w fun e w' => ∃ v, e = .returned v ∧ (v = .tuple [wv r.1, .int .i64 r.2].toArray ∧ Gr w w') := by
 unfold number_InvMod at hm
 refine calls_of_sw 50 Tryz.func185 rfl rfl rfl<|qs 2 rfl<|qm rfl<|qm rfl<|sd_done<|sw_seq ?_
 refine qs 3 rfl<|qm rfl ?_
 obtain ⟨x1, hx1, hm⟩ := bnd hm
 refine qe rfl (eC en_236 rfl (number_modulus_w hx1)) ?_
 rintro _ w1 ⟨rfl, G1⟩
 have z1 := G1.size
 refine qv rfl (vv_not rfl)<|sd_done<|sw_cond rfl (fun c1 => ?_) (fun c1 => ?_)
 · replace hm := cnd_t c1 hm
   refine qs 2 rfl<|qm rfl<|qm rfl<|sd_done<|sw_ret<|then_r ?_
   have X2 := ((Gr.refl w).trans G1)
   cases hm
   refine ⟨_, _, rfl, res_2 rfl (rv_tmp rfl) (rv_tmp rfl), ?_⟩
   exact ⟨rfl, X2⟩
 replace hm := cnd_f c1 hm
 refine qu<|sw_seq<|dw [([])] [] (.leaf [(0,10),(1,10),(2,10),(3,10),(4,10),(5,10),(6,10),(7,10)]) ?_
 intro w2 G2 zw2
 refine sdz_leaf<|dm 0 rfl rfl<|dh 0 rfl rfl (fun w hS => vv_cvUI cv_24_2 rfl)<|dm 0 rfl rfl<|dm 0 rfl rfl ?_
 obtain ⟨x2, hx2, hm⟩ := bnd hm
 refine dh 0 rfl rfl (fun w hS => vv_remU (c := p0) (d := p1) rfl rfl hx2)<|dh 0 rfl rfl (fun w hS => vv_cvUI cv_24_2 rfl)<|dm 0 rfl rfl<|dm 0 rfl rfl<|qd 2 rfl ?_
 refine qm rfl<|qm rfl<|sd_done<|sw_seq<|sw_block ?_
 have X3 := (((Gr.refl w).trans G1).trans G2)
 refine sw_loopD (α := Nat × Int × Int × Int × Int) (rg 6 5 ++ rg 20 17) (fun ⟨n1, a7, a8, a9, a10⟩ => [(6, .int .i64 a7), (7, .int .i64 a8), (8, .int .i64 a9), (9, .int .i64 a10)]) (fun ⟨n1, a7, a8, a9, a10⟩ wr => (fixN (number_InvMod_L1 p1) n1 (a7, a8, a9, a10) = some r) ∧ Kz [] w2 wr) (fun ⟨n1, a7, a8, a9, a10⟩ => n1) ⟨FUEL, w64 (un p1), w64 (un x2), 0, 1⟩ ?_ ?_ ?_
 · exact sbq
 · exact ⟨hm, Kz.refl _ _⟩
 clear hm; rintro ⟨n1, a7, a8, a9, a10⟩ w3 ⟨hm, K3⟩
 have z4 := K3.size
 have hb := fix_succ hm; clear hm; obtain ⟨n1, rfl, hm⟩ := hb
 generalize hrec1 : fixN (number_InvMod_L1 p1) n1 = rec1 at hm
 unfold number_InvMod_L1 at hm
 try dsimp only at hm
 refine sw_seq<|qs 2 rfl<|qm rfl<|qv rfl (vv_neq (a := a8) (b := 0) rfl rfl)<|sd_done<|sw_cond rfl (fun c2 => ?_) (fun c2 => ?_)
 · replace hm := iT c2 hm
   refine qu<|sw_block<|qs 4 rfl<|qm rfl<|qm rfl ?_
   obtain ⟨x11, hx11, hm⟩ := bnd hm
   refine qv rfl (vv_quoI (a := a7) (b := a8) rfl rfl hx11)<|qm rfl<|qd 8 rfl<|qm rfl<|qm rfl ?_
   refine qm rfl<|qm rfl<|qv rfl (vv_mul (k := .i64) (a := x11) (b := a8) rfl rfl)<|qv rfl (vv_sub (k := .i64) (a := a7) (b := w64 (x11 * a8)) rfl rfl)<|qm rfl<|qm rfl<|sd_done ?_
   refine qg 8 rfl<|qm rfl<|qm rfl<|qm rfl<|qm rfl<|qv rfl (vv_mul (k := .i64) (a := x11) (b := a10) rfl rfl)<|qv rfl (vv_sub (k := .i64) (a := a9) (b := w64 (x11 * a10)) rfl rfl) ?_
   refine qm rfl<|qm rfl<|sd_nil<|block_n ?_
   have K_5 : Kz [] w2 w3 := K3
   subst hrec1
   exact ⟨rfl, ⟨n1, a8, w64 (a7 - (w64 (x11 * a8))), a10, w64 (a9 - (w64 (x11 * a10)))⟩, sbq, ⟨hm, K_5⟩, Nat.lt_succ_self _⟩
 replace hm := iF c2 hm
 refine sw_exit<|then_x<|then_x<|block_x<|then_n<|sw_seq<|sw_seq ?_
 refine qg 2 rfl<|qm rfl<|qv rfl (vv_neq (a := a7) (b := 1) rfl rfl)<|sd_done<|sw_cond rfl (fun c3 => ?_) (fun c3 => ?_)
 · replace hm := iT c3 hm
   refine qs 2 rfl<|qm rfl<|qm rfl<|sd_done<|sw_ret<|then_r ?_
   have X6 := (X3.kz K3)
   cases hm
   refine ⟨_, _, rfl, res_2 rfl (rv_tmp rfl) (rv_tmp rfl), ?_⟩
   exact ⟨rfl, X6⟩
 replace hm := iF c3 hm
 refine qu<|qs 13 rfl<|qm rfl<|qm rfl<|qv rfl (vv_cvUI cv_24_2 rfl) ?_
 obtain ⟨x12, hx12, hm⟩ := bnd hm
 refine qv rfl (vv_remI (a := a9) (b := w64 (un p1)) rfl rfl hx12)<|qm rfl<|qv rfl (vv_cvUI cv_24_2 rfl)<|qv rfl (vv_add (k := .i64) (a := x12) (b := w64 (un p1)) rfl rfl)<|qm rfl<|qv rfl (vv_cvUI cv_24_2 rfl) ?_
 obtain ⟨x13, hx13, hm⟩ := bnd hm
 refine qv rfl (vv_remI (a := w64 (x12 + (w64 (un p1)))) (b := w64 (un p1)) rfl rfl hx13)<|qv rfl (vv_cvIU cv_2_24 rfl)<|qm rfl<|qm rfl<|sd_done<|sw_ret ?_
 have X7 := (X3.kz K3)
 cases hm
 refine ⟨_, _, rfl, res_2 rfl (rv_tmp rfl) (rv_tmp rfl), ?_⟩
 exact ⟨rfl, X7⟩
theorem poly_field_div_w {p0 p1 p2 r} (hm : poly_field_div p0 p1 p2 = some r) {w : World} :
    Calls Tryz.prog 110 [wv p0, wv p1, wv p2].toArray w fun e w' => ∃ v, e = .returned v ∧ (v = wv r ∧ Gr w w') := by
 unfold poly_field_div at hm
 refine calls_of_sw 20 Tryz.func110 rfl rfl rfl<|qs 1 rfl<|qm rfl<|qd 8 rfl ?_
 refine qm rfl<|qm rfl ?_
 obtain ⟨x1, hx1, hm⟩ := bnd hm
 refine qe rfl (eC en_185 rfl (number_InvMod_w hx1)) ?_
 rintro _ w1 ⟨rfl, G1⟩
 have z1 := G1.size
 refine qm rfl<|qm rfl<|qm rfl<|qm rfl<|qm rfl<|sd_done<|sw_seq ?_
 refine qg 6 rfl<|qm rfl<|qm rfl<|qm rfl<|qe rfl (ev_litT [p1, x1.1] uwc bsl_160_2 rfl rfl (ws_of rfl) rfl rfl rfl) ?_
 rintro vw2 w2 ⟨gw2, hbw2, Ow2, G2⟩
 have z2 := G2.size
 have lt3 := Ow2.lth
 obtain ⟨x2, hx2, hm⟩ := bnd hm
 refine qe rfl (eC en_108 rfl (poly_field_mul_w hx2 (Own.rd Ow2))) ?_
 rintro _ w3 ⟨rfl, G3⟩
 have z4 := G3.size
 refine qm rfl<|sd_done<|sw_ret ?_
 have X5 := ((((Gr.refl w).trans G1).trans G2).trans G3)
 cases hm
 refine ⟨_, _, rfl, res_1 rfl (rv_tmp rfl), ?_⟩
 exact ⟨rfl, X5⟩
theorem poly_maskKey_w {p0 r} (hm : poly_maskKey p0 = some r) {w : World} :
    Calls Tryz.prog 105 [wv p0].toArray w fun e w' => ∃ v, e = .returned v ∧ (v = kv r ∧ Gr w w') := by
 unfold poly_maskKey at hm
 refine calls_of_sw 6 Tryz.func105 rfl rfl rfl<|qs 1 rfl<|qe rfl (ev_alloc (cs := kb k0) zv_23 rfl) ?_
 rintro _ w1 ⟨b1, rfl, hbw1, Bw1, G1⟩
 have z1 := G1.size
 have lt2 := Bw1.lt
 refine qd 4 rfl<|qv rfl (vv_buildZ bz_23)<|qm rfl<|qe rfl (eC en_48 rfl (derive_c k0 (un8 42#8) (un8_nn _) (un8_le _) p0 _)) ?_
 rintro _ w2 ⟨rfl, G2⟩
 have z3 := G2.size
 have B4 := (Bw1.gr G2)
 refine qe rfl (ev_stW agg_23 rfl rfl rfl B4 rfl rfl) ?_
 rintro _ w3 ⟨Bw3, M3⟩
 have z5 := M3.size
 refine sd_done<|sw_ret ?_
 have X6 := ((((Gr.refl w).trans G1).trans G2).md M3)
 cases hm
 refine ⟨_, _, rfl, res_1 rfl (rv_cellW agg_23 rfl Bw3 rfl), ?_⟩
 exact ⟨rfl, X6⟩
theorem poly_Open_w {p0 p1 p2 vp1_1 zp1_1 gp1_1 op1_1 vp2_0 zp2_0 gp2_0 op2_0 vp2_2 zp2_2 gp2_2 op2_2 r} (hm : poly_Open p0 p1 p2 = some r) {w : World} (hp1_1 : Rd w zp1_1 gp1_1 op1_1 18 vp1_1 (p1.Labels.map TLabel.cs)) (hp2_0 : Rd w zp2_0 gp2_0 op2_0 18 vp2_0 (p2.Items.map TItem.cs)) (hp2_2 : Rd w zp2_2 gp2_2 op2_2 2 vp2_2 (p2.Points.map TPoint.cs)) :
    Calls Tryz.prog 50 [.agg (TScheme.cs p0).toArray, .agg (TSecret.cs p1 vp1_1).toArray, .agg (THeader.cs p2 vp2_0 vp2_2).toArray].toArray w fun e w' => ∃ v, e = .returned v ∧ (v = .tuple [kv r.1, .int .i64 r.2].toArray ∧ Gr w w') := by
 have lt1 := hp1_1.lth
 have lt2 := hp2_0.lth
 have lt3 := hp2_2.lth
 unfold poly_Open at hm
 refine calls_of_sw 111 Tryz.func50 rfl rfl rfl<|qs 5 rfl<|qe rfl (ev_box (cs := TScheme.cs p0) rfl rfl) ?_
 rintro _ w1 ⟨b1, rfl, hbw1, Bw1, G1⟩
 have z4 := G1.size
 have lt5 := Bw1.lt
 refine qe rfl (ev_box (cs := TSecret.cs p1 vp1_1) rfl rfl) ?_
 rintro _ w2 ⟨b2, rfl, hbw2, Bw2, G2⟩
 have z6 := G2.size
 have lt7 := Bw2.lt
 refine qe rfl (ev_box (cs := THeader.cs p2 vp2_0 vp2_2) rfl rfl) ?_
 rintro _ w3 ⟨b3, rfl, hbw3, Bw3, G3⟩
 have z8 := G3.size
 have lt9 := Bw3.lt
 refine qe rfl (ev_alloc (cs := kb k0) zv_23 rfl) ?_
 rintro _ w4 ⟨b4, rfl, hbw4, Bw4, G4⟩
 have z10 := G4.size
 have lt11 := Bw4.lt
 refine qm rfl<|sd_done<|sw_seq<|qs 3 rfl ?_
 have Y1 := Gr.trans (Gr.trans G2 G3) G4
 have B12 := (Bw1.gr Y1)
 refine qv rfl (vv_loadW agg_28 rfl B12 rfl) ?_
 obtain ⟨x1, hx1, hm⟩ := bnd hm
 refine qe rfl (eC en_98 rfl (poly_valid_w hx1)) ?_
 rintro _ w5 ⟨rfl, G5⟩
 have z13 := G5.size
 refine qv rfl (vv_not rfl)<|sd_done<|sw_cond rfl (fun c1 => ?_) (fun c1 => ?_)
 · replace hm := cnd_t c1 hm
   refine qs 3 rfl<|qv rfl (vv_buildZ bz_23) ?_
   have B14 := (Bw4.gr G5)
   refine qe rfl (ev_stW agg_23 rfl rfl rfl B14 rfl rfl) ?_
   rintro _ w6 ⟨Bw6, M6⟩
   have z15 := M6.size
   refine qm rfl<|qb ?_
   have Y2 := Gr.trans (Gr.trans G1 Y1) G5
   have X16 := (((Gr.refl w).trans Y2).md M6)
   cases hm
   refine ⟨_, _, rfl, res_2 rfl (rv_cellW agg_23 rfl Bw6 rfl) (rv_tmp rfl), ?_⟩
   exact ⟨rfl, X16⟩
 replace hm := cnd_f c1 hm
 refine qu<|sw_seq<|qs 5 rfl ?_
 have B17 := (B12.gr G5)
 refine qv rfl (vv_loadW agg_28 rfl B17 rfl) ?_
 have Y3 := Gr.trans (Gr.trans G3 G4) G5
 have B18 := (Bw2.gr Y3)
 refine qv rfl (vv_loadW agg_33 rfl B18 rfl) ?_
 have Y4 := Gr.trans G4 G5
 have B19 := (Bw3.gr Y4)
 refine qv rfl (vv_loadW agg_48 rfl B19 rfl) ?_
 have Y5 := Gr.trans (Gr.trans G1 Y1) G5
 have B20 := (hp1_1.gr Y5)
 have B21 := (hp2_0.gr Y5)
 have B22 := (hp2_2.gr Y5)
 obtain ⟨x2, hx2, hm⟩ := bnd hm
 refine qe rfl (eC en_106 rfl (poly_fits_w hx2 B20 B21 B22)) ?_
 rintro _ w7 ⟨rfl, G7⟩
 have z23 := G7.size
 refine qv rfl (vv_not rfl)<|sd_done<|sw_cond rfl (fun c2 => ?_) (fun c2 => ?_)
 · replace hm := cnd_t c2 hm
   refine qs 3 rfl<|qv rfl (vv_buildZ bz_23) ?_
   have Y6 := Gr.trans G5 G7
   have B24 := (Bw4.gr Y6)
   refine qe rfl (ev_stW agg_23 rfl rfl rfl B24 rfl rfl) ?_
   rintro _ w8 ⟨Bw8, M8⟩
   have z25 := M8.size
   refine qm rfl<|qb ?_
   have X26 := ((((Gr.refl w).trans Y5).trans G7).md M8)
   cases hm
   refine ⟨_, _, rfl, res_2 rfl (rv_cellW agg_23 rfl Bw8 rfl) (rv_tmp rfl), ?_⟩
   exact ⟨rfl, X26⟩
 replace hm := cnd_f c2 hm
 refine qu<|sw_seq<|dw [([])] [] (.leaf [(0,10),(1,10),(2,10),(3,10),(4,10),(5,10),(6,10),(7,10),(8,10),(12,10),(13,10),(9,0),(10,10),(11,0),(14,0),(15,10)]) ?_
 intro w9 G9 zw9
 refine sdz_leaf<|dh 0 rfl rfl (fun w hS => vv_fieldAddr fa_33_2 rfl)<|dh 0 rfl rfl (fun w hS => vv_fieldAddr fa_31_0 rfl) ?_
 have Y7 := Gr.trans G7 G9
 have B27 := (B18.gr Y7)
 refine dh 0 rfl rfl (fun w hS => vv_load1 (v := wv p1.Share.X) one_24 rfl (Bx.kp B27 hS) rfl) ?_
 have B28 := (B17.gr Y7)
 refine dh 0 rfl rfl (fun w hS => vv_loadW agg_28 rfl (Bx.kp B28 hS) rfl)<|dh 0 rfl rfl (fun w hS => vv_fieldAddr fa_48_1 rfl) ?_
 have B29 := (B19.gr Y7)
 refine dh 0 rfl rfl (fun w hS => vv_load1 (v := wv p2.Base) one_24 rfl (Bx.kp B29 hS) rfl)<|dh 0 rfl rfl (fun w hS => vv_fieldAddr fa_33_2 rfl)<|dh 0 rfl rfl (fun w hS => vv_fieldAddr fa_31_1 rfl)<|dh 0 rfl rfl (fun w hS => vv_load1 (v := wv p1.Share.Y) one_24 rfl (Bx.kp B27 hS) rfl)<|dh 0 rfl rfl (fun w hS => vv_fieldAddr fa_48_2 rfl)<|dh 0 rfl rfl (fun w hS => vv_load1 (v := vp2_2) one_46 rfl (Bx.kp B29 hS) rfl) ?_
 obtain ⟨x3, hx3, hm⟩ := bnd hm
 refine qz [] rfl (eC en_101 rfl (poly_power_w hx3)) ⟨fun _ => tk0, trivial⟩ ?_
 rintro _ w10 ⟨rfl, G10⟩
 have z30 := G10.size
 refine kG G10 ?_
 have S31 := ((Kp.refl ([]) w9).gr G10)
 refine qh 0 rfl rfl S31 (fun w hS => vv_build (cs := TPoint.cs (TPoint.mk p1.Share.X x3)) bs_31 rfl rfl)<|qz [] rfl (ev_litT [(TPoint.mk p1.Share.X x3)] TPoint.cs bsl_46_1 rfl rfl (ws_of rfl) rfl rfl rfl) ⟨fun _ => tk0, trivial⟩ ?_
 rintro vw11 w11 ⟨gw11, hbw11, Ow11, G11⟩
 have z32 := G11.size
 have lt33 := Ow11.lth
 refine kG G11 ?_
 have Y8 := Gr.trans (Gr.trans Y7 G10) G11
 have B34 := (B22.gr Y8)
 obtain ⟨l4, hl4, hm⟩ := bnd hm
 refine qz [(1, gw11)] rfl (ev_appT (l := [(TPoint.mk p1.Share.X x3)]) (m := p2.Points) (c := TPoint.cs) apt_46 rfl rfl Ow11 B34 hl4 (by decide)) ⟨fun _ => (tk1 ((.inr tk0) : 1 = 0 ∨ w9.heap.size ≤ gw11)), trivial⟩ ?_
 rintro vw12 w12 ⟨zw12, gw12, Ow12, Aw12, qw12, rw12⟩
 have z35 := Aw12.size
 refine ⟨Kz.ofKa Aw12, ?_⟩
 have S36 := ((S31.gr G11).ka Aw12 (tk1 ((.inr tk0) : 1 = 0 ∨ w9.heap.size ≤ gw11)))
 refine dn 0 rfl rfl S36<|sd_done<|sw_seq<|qs 3 rfl<|qm rfl ?_
 obtain ⟨x5, hx5, hm⟩ := bnd hm
 refine qe rfl (eC en_107 rfl (poly_distinct_w hx5 (Own.rd Ow12))) ?_
 rintro _ w13 ⟨rfl, G13⟩
 have z37 := G13.size
 refine qv rfl (vv_not rfl)<|sd_done<|sw_cond rfl (fun c3 => ?_) (fun c3 => ?_)
 · replace hm := cnd_t c3 hm
   refine qs 3 rfl<|qv rfl (vv_buildZ bz_23) ?_
   have Y9 := Gr.trans G5 Y8
   have B38 := (((Bw4.gr Y9).ka Aw12 (tk1 ((.inr tk0) : 1 = 0 ∨ gw11 ≠ b4))).gr G13)
   refine qe rfl (ev_stW agg_23 rfl rfl rfl B38 rfl rfl) ?_
   rintro _ w14 ⟨Bw14, M14⟩
   have z39 := M14.size
   refine qm rfl<|qb ?_
   have X40 := ((((((Gr.refl w).trans Y5).trans Y8).ka Aw12 (tk1 ((.inr tk0) : 1 = 0 ∨ w.heap.size ≤ gw11))).trans G13).md M14)
   cases hm
   refine ⟨_, _, rfl, res_2 rfl (rv_cellW agg_23 rfl Bw14 rfl) (rv_tmp rfl), ?_⟩
   exact ⟨rfl, X40⟩
 replace hm := cnd_f c3 hm
 refine qu<|qs 5 rfl<|qv rfl (vv_fieldAddr fa_28_3 rfl)<|qv rfl (vv_fieldAddr fa_26_1 rfl) ?_
 have Y10 := Gr.trans G10 G11
 have B41 := (((B28.gr Y10).ka Aw12 (tk1 ((.inr tk0) : 1 = 0 ∨ gw11 ≠ b1))).gr G13)
 refine qv rfl (vv_load1 (v := wv p0.Group.Q) one_24 rfl B41 rfl)<|qm rfl<|qm rfl<|sd_done<|sw_seq<|qs 3 rfl ?_
 refine qm rfl ?_
 have B42 := (Ow12.gr G13)
 refine qv rfl (vv_lenT (l := l4) (c := TPoint.cs) Tryz.underlying46 rfl (Own.rd B42))<|qm rfl<|sd_done<|sw_block ?_
 have X43 := (((((Gr.refl w).trans Y5).trans Y8).ka Aw12 (tk1 ((.inr tk0) : 1 = 0 ∨ w.heap.size ≤ gw11))).trans G13)
 have B44 := (((B20.gr Y8).ka Aw12 (tk1 ((pv_sw (.inr (tk1 lt1.o))) : zp1_1 = 0 ∨ 1 = 0 ∨ gp1_1 ≠ gw11))).gr G13)
 have B45 := (((B21.gr Y8).ka Aw12 (tk1 ((pv_sw (.inr (tk1 lt2.o))) : zp2_0 = 0 ∨ 1 = 0 ∨ gp2_0 ≠ gw11))).gr G13)
 have B46 := ((B34.ka Aw12 (tk1 ((pv_sw (.inr (tk1 lt3.o))) : zp2_2 = 0 ∨ 1 = 0 ∨ gp2_2 ≠ gw11))).gr G13)
 refine sw_loopD (α := Nat × BitVec 64 × Int) (rg 10 7 ++ rg 52 47) (fun ⟨n1, a8, a9⟩ => [(10, wv a8), (52, .int .i64 a9)]) (fun ⟨n1, a8, a9⟩ wr => (fixN (poly_Open_L1 p0 p2 l4) n1 (a8, a9) = some r) ∧ Kz [] w13 wr) (fun ⟨n1, a8, a9⟩ => n1) ⟨FUEL, 1#64, 0⟩ ?_ ?_ ?_
 · exact sbq
 · exact ⟨hm, Kz.refl _ _⟩
 clear hm; rintro ⟨n1, a8, a9⟩ w15 ⟨hm, K15⟩
 have z47 := K15.size
 have hb := fix_succ hm; clear hm; obtain ⟨n1, rfl, hm⟩ := hb
 generalize hrec1 : fixN (poly_Open_L1 p0 p2 l4) n1 = rec1 at hm
 unfold poly_Open_L1 at hm
 try dsimp only at hm
 refine qs 1 rfl<|qv rfl (vv_lss (a := a9) (b := (l4.length : Int)) rfl rfl)<|sd_done<|sw_seq<|cnF rfl (fun c4 => ?_) (fun c4 => ?_)
 · replace hm := iF c4 hm
   refine sw_exit<|then_x<|then_x<|block_x<|then_n ?_
   have X83 := (X43.kz K15)
   refine qj (β := W2 × Nat) ([17] ++ rg 99 5) (fun ⟨a25, bq24⟩ => [(17, .pointer (some ⟨bq24, 0, none⟩))]) (fun ⟨a25, bq24⟩ wr => (poly_Open_J3 p2 a25 = some r) ∧ Bx wr bq24 23 (kb a25) ∧ w15.heap.size ≤ bq24 ∧ Kz [] w15 wr) ?_ ?_
   · refine dw [([])] [] (.fork [(0,10),(2,10),(3,10)] (.fork [(1,0)] (.leaf [(4,0),(5,0),(6,0)]) (.leaf [(5,0),(4,0),(6,0)])) (.leaf [(5,0),(1,0),(4,0),(6,0)])) ?_
     intro w37 G37 zw37
     refine sdz_fork<|dm 0 rfl rfl<|dh 0 rfl rfl (fun w hS => vv_fieldAddr fa_48_3 rfl) ?_
     have B97 := (((((B29.gr Y10).ka Aw12 (tk1 ((.inr tk0) : 1 = 0 ∨ gw11 ≠ b3))).gr G13).kz K15).gr G37)
     refine dh 0 rfl rfl (fun w hS => vv_loadM (vs := kb p2.Box) agg_23 rfl (Bx.kp B97 hS) rfl rfl)<|sd_fork ?_ ?_
     · refine sdz_fork ?_
       obtain ⟨x26, hx26, hm⟩ := bnd hm
       refine qz [] rfl (eC en_105 rfl (poly_maskKey_w hx26)) ⟨fun _ => tk0, trivial⟩ ?_
       rintro _ w38 ⟨rfl, G38⟩
       have z98 := G38.size
       refine kG G38<|sd_fork ?_ ?_
       · refine sdz_leaf<|qz [] rfl (eC en_111 rfl (decr_c x26 p2.Box _)) ⟨fun _ => tk0, trivial⟩ ?_
         rintro _ w39 ⟨rfl, G39⟩
         have z99 := G39.size
         refine kG G39<|qz [] rfl (ev_alloc (cs := kb k0) zv_23 rfl) ⟨fun _ => tk0, trivial⟩ ?_
         rintro _ w40 ⟨b40, rfl, hbw40, Bw40, G40⟩
         have z100 := G40.size
         have lt101 := Bw40.lt
         refine kG G40<|qz [(1, b40)] rfl (ev_stW agg_23 rfl rfl rfl Bw40 rfl rfl) ⟨fun _ => tk0, trivial⟩ ?_
         rintro _ w41 ⟨Bw41, M41⟩
         have z102 := M41.size
         refine kM M41<|sd_nil ?_
         exact ⟨rfl, ⟨decr x26 p2.Box, b40⟩, sbq, hm, Bw41, (by omega), (((((kz0.gr G37).gr G38).gr G39).gr G40).md M41)⟩
       refine sdz_leaf<|qz [] rfl (ev_alloc (cs := kb k0) zv_23 rfl) ⟨fun _ => tk0, trivial⟩ ?_
       rintro _ w42 ⟨b42, rfl, hbw42, Bw42, G42⟩
       have z104 := G42.size
       have lt105 := Bw42.lt
       refine kG G42<|qz [] rfl (eC en_111 rfl (decr_c x26 p2.Box _)) ⟨fun _ => tk0, trivial⟩ ?_
       rintro _ w43 ⟨rfl, G43⟩
       have z106 := G43.size
       refine kG G43 ?_
       have B107 := (Bw42.gr G43)
       refine qz [(1, b42)] rfl (ev_stW agg_23 rfl rfl rfl B107 rfl rfl) ⟨fun _ => tk0, trivial⟩ ?_
       rintro _ w44 ⟨Bw44, M44⟩
       have z108 := M44.size
       refine kM M44<|sd_nil ?_
       exact ⟨rfl, ⟨decr x26 p2.Box, b42⟩, sbq, hm, Bw44, (by omega), (((((kz0.gr G37).gr G38).gr G42).gr G43).md M44)⟩
     refine sdz_leaf<|qz [] rfl (ev_alloc (cs := kb k0) zv_23 rfl) ⟨fun _ => tk0, trivial⟩ ?_
     rintro _ w45 ⟨b45, rfl, hbw45, Bw45, G45⟩
     have z110 := G45.size
     have lt111 := Bw45.lt
     refine kG G45 ?_
     obtain ⟨x27, hx27, hm⟩ := bnd hm
     refine qz [] rfl (eC en_105 rfl (poly_maskKey_w hx27)) ⟨fun _ => tk0, trivial⟩ ?_
     rintro _ w46 ⟨rfl, G46⟩
     have z112 := G46.size
     refine kG G46<|qz [] rfl (eC en_111 rfl (decr_c x27 p2.Box _)) ⟨fun _ => tk0, trivial⟩ ?_
     rintro _ w47 ⟨rfl, G47⟩
     have z113 := G47.size
     refine kG G47 ?_
     have B114 := ((Bw45.gr G46).gr G47)
     refine qz [(1, b45)] rfl (ev_stW agg_23 rfl rfl rfl B114 rfl rfl) ⟨fun _ => tk0, trivial⟩ ?_
     rintro _ w48 ⟨Bw48, M48⟩
     have z115 := M48.size
     refine kM M48<|sd_nil ?_
     exact ⟨rfl, ⟨decr x27 p2.Box, b45⟩, sbq, hm, Bw48, (by omega), (((((kz0.gr G37).gr G45).gr G46).gr G47).md M48)⟩
   clear hm; rintro ⟨a25, bq24⟩ w32 ⟨hm, Fw32_0, Fw32_1, K32⟩
   have z84 := K32.size
   have lt85 := Fw32_0.lt
   unfold poly_Open_J3 at hm
   refine sw_seq<|sw_seq<|dw [([])] [] (.leaf [(0,10),(2,10),(3,10),(1,0),(4,10)]) ?_
   intro w33 G33 zw33
   refine sdz_leaf ?_
   have B86 := (Fw32_0.gr G33)
   refine dh 0 rfl rfl (fun w hS => vv_loadW agg_23 rfl (Bx.kp B86 hS) rfl)<|dh 0 rfl rfl (fun w hS => vv_fieldAddr fa_48_4 rfl) ?_
   have B87 := ((((((B29.gr Y10).ka Aw12 (tk1 ((.inr tk0) : 1 = 0 ∨ gw11 ≠ b3))).gr G13).kz K15).kz K32).gr G33)
   refine dh 0 rfl rfl (fun w hS => vv_loadM (vs := kb p2.Check) agg_23 rfl (Bx.kp B87 hS) rfl rfl)<|qz [] rfl (eC en_48 rfl (derive_c a25 (un8 53#8) (un8_nn _) (un8_le _) 0#64 _)) ⟨fun _ => tk0, trivial⟩ ?_
   rintro _ w34 ⟨rfl, G34⟩
   have z88 := G34.size
   refine kG G34 ?_
   have S89 := ((Kp.refl ([]) w33).gr G34)
   refine qh 0 rfl rfl S89 (fun w hS => vv_neqS (cf := kb) (a := drv a25 (un8 53#8) 0#64) (b := p2.Check) eqt_23 rfl rfl rfl rfl (fun h => kb_inj h))<|sd_done<|sw_cond rfl (fun c7 => ?_) (fun c7 => ?_)
   · replace hm := iT c7 hm
     refine qs 3 rfl<|qv rfl (vv_buildZ bz_23) ?_
     have Y11 := Gr.trans G5 Y8
     have Y12 := Gr.trans G33 G34
     have B90 := ((((((Bw4.gr Y11).ka Aw12 (tk1 ((.inr tk0) : 1 = 0 ∨ gw11 ≠ b4))).gr G13).kz K15).kz K32).gr Y12)
     refine qe rfl (ev_stW agg_23 rfl rfl rfl B90 rfl rfl) ?_
     rintro _ w35 ⟨Bw35, M35⟩
     have z91 := M35.size
     refine qm rfl<|qb ?_
     have X92 := (((X83.kz K32).trans Y12).md M35)
     cases hm
     refine ⟨_, _, rfl, res_2 rfl (rv_cellW agg_23 rfl Bw35 rfl) (rv_tmp rfl), ?_⟩
     exact ⟨rfl, X92⟩
   replace hm := iF c7 hm
   refine qu<|qs 3 rfl ?_
   have B93 := (B86.gr G34)
   refine qv rfl (vv_loadW agg_23 rfl B93 rfl) ?_
   have Y13 := Gr.trans G5 Y8
   have Y14 := Gr.trans G33 G34
   have B94 := ((((((Bw4.gr Y13).ka Aw12 (tk1 ((.inr tk0) : 1 = 0 ∨ gw11 ≠ b4))).gr G13).kz K15).kz K32).gr Y14)
   refine qe rfl (ev_stW agg_23 rfl rfl rfl B94 rfl rfl) ?_
   rintro _ w36 ⟨Bw36, M36⟩
   have z95 := M36.size
   refine qm rfl<|sd_done<|sw_ret ?_
   have X96 := (((X83.kz K32).trans Y14).md M36)
   cases hm
   refine ⟨_, _, rfl, res_2 rfl (rv_cellW agg_23 rfl Bw36 rfl) (rv_tmp rfl), ?_⟩
   exact ⟨rfl, X96⟩
 replace hm := iT c4 hm
 refine qu<|sw_seq<|sw_block<|qs 6 rfl<|qm rfl ?_
 obtain ⟨y10, hy10, hm⟩ := bnd hm
 have B48 := (B42.kz K15)
 refine qv rfl (vv_ixT (i := a9) Tryz.underlying46 (agg_31).siz rfl (Own.rd B48) rfl hy10)<|qv rfl (vv_elWT agg_31 rfl (Own.rd B48) hy10 (by first | rfl | omega))<|qe rfl (ev_alloc (cs := TPoint.cs (TPoint.mk 0#64 0#64)) zv_31 rfl) ?_
 rintro _ w16 ⟨b16, rfl, hbw16, Bw16, G16⟩
 have z49 := G16.size
 have lt50 := Bw16.lt
 refine qm rfl<|qe rfl (ev_stW agg_31 rfl rfl rfl Bw16 rfl rfl) ?_
 rintro _ w17 ⟨Bw17, M17⟩
 have z51 := M17.size
 refine qd 2 rfl<|qm rfl<|qm rfl<|sd_done<|sw_seq ?_
 refine qs 3 rfl<|qm rfl ?_
 have B52 := ((B48.gr G16).md M17 (pb_lt qw12))
 refine qv rfl (vv_lenT (l := l4) (c := TPoint.cs) Tryz.underlying46 rfl (Own.rd B52))<|qm rfl<|sd_done<|sw_block ?_
 have X53 := (((X43.kz K15).trans G16).md M17)
 have B54 := (((B44.kz K15).gr G16).md M17 (pb_lt lt1))
 have B55 := (((B45.kz K15).gr G16).md M17 (pb_lt lt2))
 have B56 := (((B46.kz K15).gr G16).md M17 (pb_lt lt3))
 refine sw_loopD (α := Nat × BitVec 64 × BitVec 64 × Int) ([13, 14, 15, 16] ++ rg 59 25) (fun ⟨n2, a14, a15, a16⟩ => [(13, wv a14), (14, wv a15), (59, .int .i64 a16)]) (fun ⟨n2, a14, a15, a16⟩ wr => (fixN (poly_Open_L2 p0 l4 a8 a9 rec1 y10) n2 (a14, a15, a16) = some r) ∧ Kz [] w17 wr) (fun ⟨n2, a14, a15, a16⟩ => n2) ⟨FUEL, 1#64, 1#64, 0⟩ ?_ ?_ ?_
 · exact sbq
 · exact ⟨hm, Kz.refl _ _⟩
 clear hm; rintro ⟨n2, a14, a15, a16⟩ w18 ⟨hm, K18⟩
 have z57 := K18.size
 have hb := fix_succ hm; clear hm; obtain ⟨n2, rfl, hm⟩ := hb
 generalize hrec2 : fixN (poly_Open_L2 p0 l4 a8 a9 rec1 y10) n2 = rec2 at hm
 unfold poly_Open_L2 at hm
 try dsimp only at hm
 refine qs 1 rfl<|qv rfl (vv_lss (a := a16) (b := (l4.length : Int)) rfl rfl)<|sd_done<|sw_seq<|cnF rfl (fun c5 => ?_) (fun c5 => ?_)
 · replace hm := iF c5 hm
   refine sw_exit<|then_x<|then_x<|block_x<|then_n<|dw [([])] [] (.leaf [(0,10),(1,10),(2,10),(3,10),(4,10),(5,10),(6,10),(7,10),(8,10),(9,10),(10,0),(11,0),(12,0),(13,0),(14,10)]) ?_
   intro w27 G27 zw27
   refine sdz_leaf<|dh 0 rfl rfl (fun w hS => vv_fieldAddr fa_28_3 rfl)<|dh 0 rfl rfl (fun w hS => vv_fieldAddr fa_26_0 rfl) ?_
   have B74 := (((((B41.kz K15).gr G16).md M17).kz K18).gr G27)
   refine dh 0 rfl rfl (fun w hS => vv_load1 (v := wv p0.Group.P) one_24 rfl (Bx.kp B74 hS) rfl)<|dm 0 rfl rfl<|dh 0 rfl rfl (fun w hS => vv_loadW agg_28 rfl (Bx.kp B74 hS) rfl)<|dh 0 rfl rfl (fun w hS => vv_fieldAddr fa_31_1 rfl) ?_
   have B75 := ((Bw17.kz K18).gr G27)
   refine dh 0 rfl rfl (fun w hS => vv_load1 (v := wv y10.Y) one_24 rfl (Bx.kp B75 hS) rfl)<|dm 0 rfl rfl<|dm 0 rfl rfl<|dm 0 rfl rfl ?_
   obtain ⟨x21, hx21, hm⟩ := bnd hm
   refine qz [] rfl (eC en_110 rfl (poly_field_div_w hx21)) ⟨fun _ => tk0, trivial⟩ ?_
   rintro _ w28 ⟨rfl, G28⟩
   have z76 := G28.size
   refine kG G28 ?_
   obtain ⟨x22, hx22, hm⟩ := bnd hm
   refine qz [] rfl (eC en_101 rfl (poly_power_w hx22)) ⟨fun _ => tk0, trivial⟩ ?_
   rintro _ w29 ⟨rfl, G29⟩
   have z77 := G29.size
   refine kG G29<|qz [] rfl (ev_litT [a8, x22] uwc bsl_160_2 rfl rfl (ws_of rfl) rfl rfl rfl) ⟨fun _ => tk0, trivial⟩ ?_
   rintro vw30 w30 ⟨gw30, hbw30, Ow30, G30⟩
   have z78 := G30.size
   have lt79 := Ow30.lth
   refine kG G30 ?_
   obtain ⟨x23, hx23, hm⟩ := bnd hm
   refine qz [] rfl (eC en_108 rfl (poly_field_mul_w hx23 (Own.rd Ow30))) ⟨fun _ => tk0, trivial⟩ ?_
   rintro _ w31 ⟨rfl, G31⟩
   have z80 := G31.size
   refine kG G31 ?_
   have Y15 := Gr.trans (Gr.trans (Gr.trans G28 G29) G30) G31
   have S81 := ((Kp.refl ([]) w27).gr Y15)
   refine dn 0 rfl rfl S81<|sd_nil<|block_n<|then_n<|qg 2 rfl<|qv rfl (vv_add (k := .i64) (a := a9) (b := 1) rfl rfl)<|qm rfl ?_
   refine sd_nil ?_
   have K_82 : Kz [] w13 w31 := (((((K15.gr G16).md M17).kz K18).gr G27).gr Y15)
   subst hrec1
   exact ⟨rfl, ⟨n1, x23, w64 (a9 + 1)⟩, sbq, ⟨hm, K_82⟩, Nat.lt_succ_self _⟩
 replace hm := iT c5 hm
 refine qu<|sw_seq<|sw_block<|qs 6 rfl<|qm rfl ?_
 obtain ⟨y17, hy17, hm⟩ := bnd hm
 have B58 := (B52.kz K18)
 refine qv rfl (vv_ixT (i := a16) Tryz.underlying46 (agg_31).siz rfl (Own.rd B58) rfl hy17)<|qv rfl (vv_elWT agg_31 rfl (Own.rd B58) hy17 (by first | rfl | omega))<|qe rfl (ev_alloc (cs := TPoint.cs (TPoint.mk 0#64 0#64)) zv_31 rfl) ?_
 rintro _ w19 ⟨b19, rfl, hbw19, Bw19, G19⟩
 have z59 := G19.size
 have lt60 := Bw19.lt
 refine qm rfl<|qe rfl (ev_stW agg_31 rfl rfl rfl Bw19 rfl rfl) ?_
 rintro _ w20 ⟨Bw20, M20⟩
 have z61 := M20.size
 refine qd 3 rfl<|qm rfl<|qm rfl<|qv rfl (vv_neq (a := a16) (b := a9) rfl rfl)<|sd_done ?_
 refine cnF rfl (fun c6 => ?_) (fun c6 => ?_)
 · replace hm := iF c6 hm
   refine sw_skip<|block_n<|then_n<|qg 2 rfl<|qv rfl (vv_add (k := .i64) (a := a16) (b := 1) rfl rfl)<|qm rfl<|sd_nil ?_
   have K_73 : Kz [] w17 w20 := ((K18.gr G19).md M20)
   subst hrec2
   exact ⟨rfl, ⟨n2, a14, a15, w64 (a16 + 1)⟩, sbq, ⟨hm, K_73⟩, Nat.lt_succ_self _⟩
 replace hm := iT c6 hm
 refine dw [([])] [] (.leaf [(0,10),(1,10),(2,10),(3,10),(6,10),(7,10),(8,10),(9,10),(10,10),(11,10),(12,10),(4,0),(5,0),(13,0),(14,0),(15,0),(16,10),(17,10)]) ?_
 intro w21 G21 zw21
 refine sdz_leaf<|dm 0 rfl rfl<|dm 0 rfl rfl<|dh 0 rfl rfl (fun w hS => vv_fieldAddr fa_31_0 rfl) ?_
 have B62 := (Bw20.gr G21)
 refine dh 0 rfl rfl (fun w hS => vv_load1 (v := wv y17.X) one_24 rfl (Bx.kp B62 hS) rfl)<|dm 0 rfl rfl<|dm 0 rfl rfl<|dm 0 rfl rfl<|dh 0 rfl rfl (fun w hS => vv_fieldAddr fa_31_0 rfl)<|dh 0 rfl rfl (fun w hS => vv_load1 (v := wv y17.X) one_24 rfl (Bx.kp B62 hS) rfl)<|dh 0 rfl rfl (fun w hS => vv_fieldAddr fa_31_0 rfl) ?_
 have B63 := ((((Bw17.kz K18).gr G19).md M20).gr G21)
 refine dh 0 rfl rfl (fun w hS => vv_load1 (v := wv y10.X) one_24 rfl (Bx.kp B63 hS) rfl)<|qz [] rfl (ev_litT [a14, y17.X] uwc bsl_160_2 rfl rfl (ws_of rfl) rfl rfl rfl) ⟨fun _ => tk0, trivial⟩ ?_
 rintro vw22 w22 ⟨gw22, hbw22, Ow22, G22⟩
 have z64 := G22.size
 have lt65 := Ow22.lth
 refine kG G22 ?_
 obtain ⟨x18, hx18, hm⟩ := bnd hm
 refine qz [] rfl (eC en_108 rfl (poly_field_mul_w hx18 (Own.rd Ow22))) ⟨fun _ => tk0, trivial⟩ ?_
 rintro _ w23 ⟨rfl, G23⟩
 have z66 := G23.size
 refine kG G23 ?_
 obtain ⟨x19, hx19, hm⟩ := bnd hm
 refine qz [] rfl (eC en_109 rfl (poly_field_sub_w hx19)) ⟨fun _ => tk0, trivial⟩ ?_
 rintro _ w24 ⟨rfl, G24⟩
 have z67 := G24.size
 refine kG G24<|qz [] rfl (ev_litT [a15, x19] uwc bsl_160_2 rfl rfl (ws_of rfl) rfl rfl rfl) ⟨fun _ => tk0, trivial⟩ ?_
 rintro vw25 w25 ⟨gw25, hbw25, Ow25, G25⟩
 have z68 := G25.size
 have lt69 := Ow25.lth
 refine kG G25 ?_
 obtain ⟨x20, hx20, hm⟩ := bnd hm
 refine qz [] rfl (eC en_108 rfl (poly_field_mul_w hx20 (Own.rd Ow25))) ⟨fun _ => tk0, trivial⟩ ?_
 rintro _ w26 ⟨rfl, G26⟩
 have z70 := G26.size
 refine kG G26 ?_
 have Y16 := Gr.trans (Gr.trans (Gr.trans (Gr.trans G22 G23) G24) G25) G26
 have S71 := ((Kp.refl ([]) w21).gr Y16)
 refine dn 0 rfl rfl S71<|dn 0 rfl rfl S71<|sd_nil<|block_n<|then_n<|qg 2 rfl<|qv rfl (vv_add (k := .i64) (a := a16) (b := 1) rfl rfl) ?_
 refine qm rfl<|sd_nil ?_
 have K_72 : Kz [] w17 w26 := ((((K18.gr G19).md M20).gr G21).gr Y16)
 subst hrec2
 exact ⟨rfl, ⟨n2, x18, x20, w64 (a16 + 1)⟩, sbq, ⟨hm, K_72⟩, Nat.lt_succ_self _⟩
end Go.Proofs.YtjdffpglgkefmaaGreat.Mx
