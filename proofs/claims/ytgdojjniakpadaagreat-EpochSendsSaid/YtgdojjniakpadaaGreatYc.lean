/- Walks that follow mirrors: Yc. Printed by mx.py. -/
import Derived.Test.YtgdojjniakpadaaGreatYa
import Derived.Test.YtgdojjniakpadaaGreatZd
set_option linter.unusedVariables false
set_option linter.unusedSimpArgs false
set_option maxRecDepth 100000
set_option maxHeartbeats 2000000
namespace Go.Proofs.YtgdojjniakpadaaGreat.Mx
open Go Go.RowKit Go.Sx
theorem fa_26_0 : FA Tryz.prog 26 0 0 := fun _ _ _ => by kernel_rfl
theorem en_357 : En Tryz.prog 357 := fun _ _ => by kernel_rfl
theorem fa_26_1 : FA Tryz.prog 26 1 1 := fun _ _ _ => by kernel_rfl
theorem fa_26_2 : FA Tryz.prog 26 2 2 := fun _ _ _ => by kernel_rfl
theorem en_358 : En Tryz.prog 358 := fun _ _ => by kernel_rfl
theorem en_316 : En Tryz.prog 316 := fun _ _ => by kernel_rfl
theorem en_212 : En Tryz.prog 212 := fun _ _ => by kernel_rfl
theorem en_343 : En Tryz.prog 343 := fun _ _ => by kernel_rfl
theorem en_273 : En Tryz.prog 273 := fun _ _ => by kernel_rfl
theorem en_270 : En Tryz.prog 270 := fun _ _ => by kernel_rfl
theorem en_174 : En Tryz.prog 174 := fun _ _ => by kernel_rfl
theorem apt_309 : ApT Tryz.prog 309 24 1 8 := apt_mk Tryz.underlying309 rfl (by kernel_rfl)
theorem zv_24 : ZV Tryz.prog 24 (.int .u64 0) := fun _ => by kernel_rfl
theorem zv_278 : ZV Tryz.prog 278 (.agg [.int .u64 0, .int .u64 0].toArray) := fun _ => by kernel_rfl
theorem fa_278_0 : FA Tryz.prog 278 0 0 := fun _ _ _ => by kernel_rfl
theorem cv_5_24 : CV Tryz.prog 5 24 .u64 := fun _ _ _ => by kernel_rfl
theorem fa_278_1 : FA Tryz.prog 278 1 1 := fun _ _ _ => by kernel_rfl
theorem agg_278 : Agg Tryz.prog 278 2 := fun _ => ⟨by kernel_rfl, by kernel_rfl⟩
theorem en_187 : En Tryz.prog 187 := fun _ _ => by kernel_rfl
theorem f1_278_0 : F1 Tryz.prog 278 0 0 := f1_mk (fun _ _ => by kernel_rfl)
theorem en_222 : En Tryz.prog 222 := fun _ _ => by kernel_rfl
theorem en_213 : En Tryz.prog 213 := fun _ _ => by kernel_rfl
theorem zv_309 : ZV Tryz.prog 309 (.slice none 0 0) := fun _ => by kernel_rfl
theorem zv_312 : ZV Tryz.prog 312 (.int .u64 0) := fun _ => by kernel_rfl
theorem one_309 : One Tryz.prog 309 := fun _ => ⟨by kernel_rfl, by kernel_rfl⟩
theorem one_312 : One Tryz.prog 312 := fun _ => ⟨by kernel_rfl, by kernel_rfl⟩
theorem en_360 : En Tryz.prog 360 := fun _ _ => by kernel_rfl
theorem en_319 : En Tryz.prog 319 := fun _ _ => by kernel_rfl
theorem en_216 : En Tryz.prog 216 := fun _ _ => by kernel_rfl
theorem zv_320 : ZV Tryz.prog 320 (.nilFunc) := fun _ => by kernel_rfl
theorem one_320 : One Tryz.prog 320 := fun _ => ⟨by kernel_rfl, by kernel_rfl⟩
theorem en_224 : En Tryz.prog 224 := fun _ _ => by kernel_rfl
theorem en_317 : En Tryz.prog 317 := fun _ _ => by kernel_rfl
theorem bsl_308_2 : BSl Tryz.prog 308 2 24 1 [.int .u64 0, .int .u64 0] := bsl_mk Tryz.underlying308 (one_24).siz zv_24 rfl rfl (by kernel_rfl)
theorem en_218 : En Tryz.prog 218 := fun _ _ => by kernel_rfl
theorem en_359 : En Tryz.prog 359 := fun _ _ => by kernel_rfl
theorem fa_36_1 : FA Tryz.prog 36 1 1 := fun _ _ _ => by kernel_rfl
theorem en_214 : En Tryz.prog 214 := fun _ _ => by kernel_rfl
theorem fa_36_2 : FA Tryz.prog 36 2 2 := fun _ _ _ => by kernel_rfl
theorem en_223 : En Tryz.prog 223 := fun _ _ => by kernel_rfl
theorem zv_50 : ZV Tryz.prog 50 (.agg [.int .u64 0, .int .u64 0].toArray) := fun _ => by kernel_rfl
theorem bs_50 : BS Tryz.prog 50 (fun i => [(0, 1), (1, 1)][i]?) [.int .u64 0, .int .u64 0] := bs_mk Tryz.underlying50 zv_50 ⟨rfl, (one_24).siz, rfl, (one_24).siz, trivial⟩
theorem agg_50 : Agg Tryz.prog 50 2 := fun _ => ⟨by kernel_rfl, by kernel_rfl⟩
theorem bsl_34_1 : BSl Tryz.prog 34 1 50 2 [.int .u64 0, .int .u64 0] := bsl_mk Tryz.underlying34 (agg_50).siz zv_50 rfl rfl (by kernel_rfl)
theorem apt_34 : ApT Tryz.prog 34 50 2 16 := apt_mk Tryz.underlying34 rfl (by kernel_rfl)
theorem bz_23 : BZ Tryz.prog 23 (kv k0) := fun _ => by kernel_rfl
theorem en_221 : En Tryz.prog 221 := fun _ _ => by kernel_rfl
theorem fa_36_3 : FA Tryz.prog 36 3 3 := fun _ _ _ => by kernel_rfl
theorem en_344 : En Tryz.prog 344 := fun _ _ => by kernel_rfl
theorem en_272 : En Tryz.prog 272 := fun _ _ => by kernel_rfl
theorem bsl_308_1 : BSl Tryz.prog 308 1 24 1 [.int .u64 0] := bsl_mk Tryz.underlying308 (one_24).siz zv_24 rfl rfl (by kernel_rfl)
theorem apt_308 : ApT Tryz.prog 308 24 1 8 := apt_mk Tryz.underlying308 rfl (by kernel_rfl)
theorem en_271 : En Tryz.prog 271 := fun _ _ => by kernel_rfl
theorem en_274 : En Tryz.prog 274 := fun _ _ => by kernel_rfl
theorem en_275 : En Tryz.prog 275 := fun _ _ => by kernel_rfl
theorem en_176 : En Tryz.prog 176 := fun _ _ => by kernel_rfl
theorem number_prime_w {p0 r} (hm : number_prime p0 = some r) {w : World} :
    Calls Tryz.prog 357 [wv p0].toArray w fun e w' => ∃ v, e = .returned v ∧ (v = .bool r ∧ Gr w w') := by
 unfold number_prime at hm
 refine calls_of_sw 21 Tryz.func357 rfl rfl rfl<|qs 1 rfl<|qm rfl<|sd_done<|sw_seq<|qj (β := Bool) (rg 4 6) (fun a1 => [(9, .bool a1)]) (fun a1 wr => (number_prime_J1 p0 a1 = some r) ∧ Kz [] w wr) ?_ ?_
 · refine qg 6 rfl<|qm rfl<|qv rfl (vv_lssU (c := p0) (d := 2#64) rfl rfl)<|qp rfl (vv_move rfl) (fun c4 => ?_) (fun c4 => ?_)
   · replace hm := iT c4 hm
     refine qk rfl<|qk rfl<|qm rfl<|sd_nil ?_
     exact ⟨rfl, true, sbq, hm, kz0⟩
   replace hm := iF c4 hm
   refine qm rfl<|qv rfl (vv_gtrU (c := p0) (d := 1048575#64) rfl rfl)<|qm rfl<|sd_nil ?_
   exact ⟨rfl, (decide (1048575#64 < p0)), sbq, hm, kz0⟩
 clear hm; rintro a1 w1 ⟨hm, K1⟩
 have z1 := K1.size
 unfold number_prime_J1 at hm
 refine sw_cond rfl (fun c1 => ?_) (fun c1 => ?_)
 · replace hm := cnd_t c1 hm
   refine qs 1 rfl<|qm rfl<|qb ?_
   have X2 := ((Gr.refl w).kz K1)
   cases hm
   refine ⟨_, _, rfl, res_1 rfl (rv_tmp rfl), ?_⟩
   exact ⟨rfl, X2⟩
 replace hm := cnd_f c1 hm
 refine qu<|sw_seq<|qs 1 rfl<|qm rfl<|sd_done ?_
 refine sw_block ?_
 have X3 := ((Gr.refl w).kz K1)
 refine sw_loopD (α := Nat × BitVec 64) ([2, 3] ++ rg 10 11) (fun ⟨n2, a3⟩ => [(2, .bool false), (3, wv a3)]) (fun ⟨n2, a3⟩ wr => (fixN (number_prime_L2 p0) n2 a3 = some r) ∧ Kz [] w1 wr) (fun ⟨n2, a3⟩ => n2) ⟨FUEL, 2#64⟩ ?_ ?_ ?_
 · exact sbq
 · exact ⟨hm, Kz.refl _ _⟩
 clear hm; rintro ⟨n2, a3⟩ w2 ⟨hm, K2⟩
 have z4 := K2.size
 have hb := fix_succ hm; clear hm; obtain ⟨n2, rfl, hm⟩ := hb
 generalize hrec2 : fixN (number_prime_L2 p0) n2 = rec2 at hm
 unfold number_prime_L2 at hm
 try dsimp only at hm
 refine sw_seq<|qs 5 rfl<|qm rfl<|qm rfl<|qv rfl (vv_umul (a := a3) (b := a3) rfl rfl)<|qm rfl ?_
 refine qv rfl (vv_leqU (c := a3 * a3) (d := p0) rfl rfl)<|sd_done<|cnF rfl (fun c2 => ?_) (fun c2 => ?_)
 · replace hm := iF c2 hm
   refine sw_exit<|then_x<|then_x<|block_x<|then_n<|qs 1 rfl ?_
   refine qm rfl<|sd_done<|sw_ret ?_
   have X7 := (X3.kz K2)
   cases hm
   refine ⟨_, _, rfl, res_1 rfl (rv_tmp rfl), ?_⟩
   exact ⟨rfl, X7⟩
 replace hm := iT c2 hm
 refine qu<|sw_seq<|sw_block<|qs 4 rfl<|qm rfl ?_
 refine qm rfl ?_
 obtain ⟨x4, hx4, hm⟩ := bnd hm
 refine qv rfl (vv_remU (c := p0) (d := a3) rfl rfl hx4)<|qv rfl (vv_eqlU (c := x4) (d := 0#64) rfl rfl)<|sd_done<|sw_cond rfl (fun c3 => ?_) (fun c3 => ?_)
 · replace hm := iT c3 hm
   refine qs 1 rfl<|qm rfl<|sd_done<|sw_ret<|block_r<|then_r ?_
   refine then_r<|block_r<|then_r ?_
   have X5 := (X3.kz K2)
   cases hm
   refine ⟨_, _, rfl, res_1 rfl (rv_tmp rfl), ?_⟩
   exact ⟨rfl, X5⟩
 replace hm := iF c3 hm
 refine sw_skip<|block_n<|then_n<|qg 3 rfl<|qm rfl<|qv rfl (vv_uadd (a := a3) (b := 1#64) rfl rfl)<|qm rfl ?_
 refine sd_nil ?_
 have K_6 : Kz [] w1 w2 := K2
 subst hrec2
 exact ⟨rfl, ⟨n2, a3 + 1#64⟩, sbq, ⟨hm, K_6⟩, Nat.lt_succ_self _⟩
theorem number_power_w {p0 p1 p2 r} (hm : number_power p0 p1 p2 = some r) {w : World} :
    Calls Tryz.prog 358 [wv p0, wv p1, wv p2].toArray w fun e w' => ∃ v, e = .returned v ∧ (v = wv r ∧ Gr w w') := by
 unfold number_power at hm
 refine calls_of_sw 31 Tryz.func358 rfl rfl rfl<|qs 1 rfl<|qm rfl<|qd 3 rfl ?_
 refine qm rfl ?_
 obtain ⟨x1, hx1, hm⟩ := bnd hm
 refine qv rfl (vv_remU (c := 1#64) (d := p2) rfl rfl hx1)<|qm rfl<|sd_done<|sw_seq<|qs 4 rfl<|qm rfl ?_
 refine qm rfl ?_
 obtain ⟨x2, hx2, hm⟩ := bnd hm
 refine qv rfl (vv_remU (c := p0) (d := p2) rfl rfl hx2)<|qm rfl<|sd_done<|sw_block<|sw_loopD (α := Nat × BitVec 64 × BitVec 64 × BitVec 64) ([0, 1, 7] ++ rg 13 17) (fun ⟨n1, a6, a7, a8⟩ => [(0, wv a6), (1, wv a7), (7, wv a8)]) (fun ⟨n1, a6, a7, a8⟩ wr => (fixN (number_power_L1 p2) n1 (a6, a7, a8) = some r) ∧ Kz [] w wr) (fun ⟨n1, a6, a7, a8⟩ => n1) ⟨FUEL, x2, p1, x1⟩ ?_ ?_ ?_
 · exact sbq
 · exact ⟨hm, Kz.refl _ _⟩
 clear hm; rintro ⟨n1, a6, a7, a8⟩ w1 ⟨hm, K1⟩
 have z1 := K1.size
 have hb := fix_succ hm; clear hm; obtain ⟨n1, rfl, hm⟩ := hb
 generalize hrec1 : fixN (number_power_L1 p2) n1 = rec1 at hm
 unfold number_power_L1 at hm
 try dsimp only at hm
 refine sw_seq<|qs 2 rfl<|qm rfl<|qv rfl (vv_gtrU (c := a7) (d := 0#64) rfl rfl)<|sd_done<|cnF rfl (fun c1 => ?_) (fun c1 => ?_)
 · replace hm := iF c1 hm
   refine sw_exit<|then_x<|then_x<|block_x<|then_n<|qs 2 rfl ?_
   refine qm rfl<|qm rfl<|sd_done<|sw_ret ?_
   have X4 := ((Gr.refl w).kz K1)
   cases hm
   refine ⟨_, _, rfl, res_1 rfl (rv_tmp rfl), ?_⟩
   exact ⟨rfl, X4⟩
 replace hm := iT c1 hm
 refine qu<|sw_seq<|sw_block<|sw_seq<|qs 3 rfl ?_
 refine qm rfl<|qv rfl (vv_uand (a := a7) (b := 1#64) rfl rfl)<|qv rfl (vv_eqlU (c := a7 &&& 1#64) (d := 1#64) rfl rfl)<|sd_done<|cnF rfl (fun c2 => ?_) (fun c2 => ?_)
 · replace hm := iF c2 hm
   refine qu<|qg 6 rfl<|qm rfl<|qm rfl<|qv rfl (vv_umul (a := a6) (b := a6) rfl rfl)<|qm rfl ?_
   obtain ⟨x12, hx12, hm⟩ := bnd hm
   refine qv rfl (vv_remU (c := a6 * a6) (d := p2) rfl rfl hx12)<|qm rfl<|sd_nil<|block_n<|then_n<|qg 3 rfl<|qm rfl ?_
   obtain ⟨nn13, hnn13, hm⟩ := bnd hm
   refine qv rfl (vv_shrU (c := a7) (b := (un 1#64)) rfl rfl hnn13)<|qm rfl<|sd_nil ?_
   have K_3 : Kz [] w w1 := K1
   subst hrec1
   exact ⟨rfl, ⟨n1, x12, a7 >>> nn13, a8⟩, sbq, ⟨hm, K_3⟩, Nat.lt_succ_self _⟩
 replace hm := iT c2 hm
 refine qg 6 rfl<|qm rfl<|qm rfl<|qv rfl (vv_umul (a := a8) (b := a6) rfl rfl)<|qm rfl ?_
 obtain ⟨x9, hx9, hm⟩ := bnd hm
 refine qv rfl (vv_remU (c := a8 * a6) (d := p2) rfl rfl hx9)<|qm rfl<|sd_done<|qg 6 rfl<|qm rfl<|qm rfl<|qv rfl (vv_umul (a := a6) (b := a6) rfl rfl) ?_
 refine qm rfl ?_
 obtain ⟨x10, hx10, hm⟩ := bnd hm
 refine qv rfl (vv_remU (c := a6 * a6) (d := p2) rfl rfl hx10)<|qm rfl<|sd_nil<|block_n<|then_n<|qg 3 rfl<|qm rfl ?_
 obtain ⟨nn11, hnn11, hm⟩ := bnd hm
 refine qv rfl (vv_shrU (c := a7) (b := (un 1#64)) rfl rfl hnn11)<|qm rfl<|sd_nil ?_
 have K_2 : Kz [] w w1 := K1
 subst hrec1
 exact ⟨rfl, ⟨n1, x10, a7 >>> nn11, x9⟩, sbq, ⟨hm, K_2⟩, Nat.lt_succ_self _⟩
theorem number_CheckGroup_w {p0 r} (hm : number_CheckGroup p0 = some r) {w : World} :
    Calls Tryz.prog 316 [.agg (TGroup.cs p0).toArray].toArray w fun e w' => ∃ v, e = .returned v ∧ (v = .int .i64 r ∧ Gr w w') := by
 unfold number_CheckGroup at hm
 refine calls_of_sw 44 Tryz.func316 rfl rfl rfl<|qs 2 rfl<|qe rfl (ev_box (cs := TGroup.cs p0) rfl rfl) ?_
 rintro _ w1 ⟨b1, rfl, hbw1, Bw1, G1⟩
 have z1 := G1.size
 have lt2 := Bw1.lt
 refine qm rfl<|sd_done<|sw_seq ?_
 have X3 := ((Gr.refl w).trans G1)
 refine qj (β := Bool) (rg 3 41) (fun a1 => [(43, .bool a1)]) (fun a1 wr => (number_CheckGroup_J1 a1 = some r) ∧ Kz [] w1 wr) ?_ ?_
 · refine qg 41 rfl<|qv rfl (vv_fieldAddr fa_26_0 rfl)<|qv rfl (vv_load1 (v := wv p0.P) one_24 rfl Bw1 rfl) ?_
   obtain ⟨x2, hx2, hm⟩ := bnd hm
   refine qe rfl (eC en_357 rfl (number_prime_w hx2)) ?_
   rintro _ w3 ⟨rfl, G3⟩
   have z7 := G3.size
   refine qv rfl (vv_not rfl)<|qp rfl (vv_move rfl) (fun c2 => ?_) (fun c2 => ?_)
   · replace hm := cnd_t c2 hm
     refine qk rfl<|qk rfl<|qk rfl<|qk rfl<|qm rfl<|qm rfl<|qk rfl ?_
     refine qk rfl<|qk rfl<|qk rfl<|qk rfl<|qk rfl<|qk rfl<|qm rfl ?_
     refine qm rfl<|qk rfl<|qk rfl<|qk rfl<|qm rfl<|qm rfl<|qk rfl ?_
     refine qk rfl<|qk rfl<|qk rfl<|qk rfl<|qm rfl<|qm rfl<|qk rfl ?_
     refine qk rfl<|qk rfl<|qk rfl<|qk rfl<|qk rfl<|qk rfl<|qk rfl ?_
     refine qm rfl<|sd_nil ?_
     exact ⟨rfl, true, sbq, hm, (kz0.gr G3)⟩
   replace hm := cnd_f c2 hm
   refine qv rfl (vv_fieldAddr fa_26_1 rfl) ?_
   have B9 := (Bw1.gr G3)
   refine qv rfl (vv_load1 (v := wv p0.Q) one_24 rfl B9 rfl) ?_
   obtain ⟨x3, hx3, hm⟩ := bnd hm
   refine qe rfl (eC en_357 rfl (number_prime_w hx3)) ?_
   rintro _ w4 ⟨rfl, G4⟩
   have z10 := G4.size
   refine qv rfl (vv_not rfl)<|qm rfl<|qp rfl (vv_move rfl) (fun c3 => ?_) (fun c3 => ?_)
   · replace hm := cnd_t c3 hm
     refine qk rfl<|qk rfl<|qk rfl<|qk rfl<|qk rfl<|qk rfl<|qk rfl ?_
     refine qm rfl<|qm rfl<|qk rfl<|qk rfl<|qk rfl<|qm rfl<|qm rfl ?_
     refine qk rfl<|qk rfl<|qk rfl<|qk rfl<|qk rfl<|qm rfl<|qm rfl ?_
     refine qk rfl<|qk rfl<|qk rfl<|qk rfl<|qk rfl<|qk rfl<|qk rfl ?_
     refine qk rfl<|qm rfl<|sd_nil ?_
     have Y1 := Gr.trans G3 G4
     exact ⟨rfl, true, sbq, hm, (kz0.gr Y1)⟩
   replace hm := cnd_f c3 hm
   refine qv rfl (vv_fieldAddr fa_26_0 rfl) ?_
   have B12 := (B9.gr G4)
   refine qv rfl (vv_load1 (v := wv p0.P) one_24 rfl B12 rfl)<|qv rfl (vv_usub (a := p0.P) (b := 1#64) rfl rfl)<|qv rfl (vv_fieldAddr fa_26_1 rfl)<|qv rfl (vv_load1 (v := wv p0.Q) one_24 rfl B12 rfl) ?_
   obtain ⟨x4, hx4, hm⟩ := bnd hm
   refine qv rfl (vv_remU (c := p0.P - 1#64) (d := p0.Q) rfl rfl hx4)<|qv rfl (vv_neqU (c := x4) (d := 0#64) rfl rfl)<|qm rfl<|qp rfl (vv_move rfl) (fun c4 => ?_) (fun c4 => ?_)
   · replace hm := iT c4 hm
     refine qk rfl<|qk rfl<|qk rfl<|qm rfl<|qm rfl<|qk rfl<|qk rfl ?_
     refine qk rfl<|qk rfl<|qk rfl<|qm rfl<|qm rfl<|qk rfl<|qk rfl ?_
     refine qk rfl<|qk rfl<|qk rfl<|qk rfl<|qk rfl<|qk rfl<|qm rfl ?_
     refine sd_nil ?_
     have Y2 := Gr.trans G3 G4
     exact ⟨rfl, true, sbq, hm, (kz0.gr Y2)⟩
   replace hm := iF c4 hm
   refine qv rfl (vv_fieldAddr fa_26_2 rfl)<|qv rfl (vv_load1 (v := wv p0.G) one_24 rfl B12 rfl)<|qv rfl (vv_lssU (c := p0.G) (d := 2#64) rfl rfl)<|qm rfl<|qp rfl (vv_move rfl) (fun c5 => ?_) (fun c5 => ?_)
   · replace hm := iT c5 hm
     refine qk rfl<|qk rfl<|qk rfl<|qk rfl<|qk rfl<|qm rfl<|qm rfl ?_
     refine qk rfl<|qk rfl<|qk rfl<|qk rfl<|qk rfl<|qk rfl<|qk rfl ?_
     refine qk rfl<|qm rfl<|sd_nil ?_
     have Y3 := Gr.trans G3 G4
     exact ⟨rfl, true, sbq, hm, (kz0.gr Y3)⟩
   replace hm := iF c5 hm
   refine qv rfl (vv_fieldAddr fa_26_2 rfl)<|qv rfl (vv_load1 (v := wv p0.G) one_24 rfl B12 rfl)<|qv rfl (vv_fieldAddr fa_26_0 rfl)<|qv rfl (vv_load1 (v := wv p0.P) one_24 rfl B12 rfl)<|qv rfl (vv_geqU (c := p0.G) (d := p0.P) rfl rfl)<|qm rfl<|qp rfl (vv_move rfl) (fun c6 => ?_) (fun c6 => ?_)
   · replace hm := iT c6 hm
     refine qk rfl<|qk rfl<|qk rfl<|qk rfl<|qk rfl<|qk rfl<|qk rfl ?_
     refine qk rfl<|qm rfl<|sd_nil ?_
     have Y4 := Gr.trans G3 G4
     exact ⟨rfl, true, sbq, hm, (kz0.gr Y4)⟩
   replace hm := iF c6 hm
   refine qv rfl (vv_fieldAddr fa_26_2 rfl)<|qv rfl (vv_load1 (v := wv p0.G) one_24 rfl B12 rfl)<|qv rfl (vv_fieldAddr fa_26_1 rfl)<|qv rfl (vv_load1 (v := wv p0.Q) one_24 rfl B12 rfl)<|qv rfl (vv_fieldAddr fa_26_0 rfl)<|qv rfl (vv_load1 (v := wv p0.P) one_24 rfl B12 rfl) ?_
   obtain ⟨x5, hx5, hm⟩ := bnd hm
   refine qe rfl (eC en_358 rfl (number_power_w hx5)) ?_
   rintro _ w5 ⟨rfl, G5⟩
   have z16 := G5.size
   refine qv rfl (vv_neqU (c := x5) (d := 1#64) rfl rfl)<|qm rfl<|sd_nil ?_
   exact ⟨rfl, (decide (x5 ≠ 1#64)), sbq, hm, (((kz0.gr G3).gr G4).gr G5)⟩
 clear hm; rintro a1 w2 ⟨hm, K2⟩
 have z4 := K2.size
 unfold number_CheckGroup_J1 at hm
 refine sw_cond rfl (fun c1 => ?_) (fun c1 => ?_)
 · replace hm := cnd_t c1 hm
   refine qs 1 rfl<|qm rfl<|qb ?_
   have X5 := (X3.kz K2)
   cases hm
   refine ⟨_, _, rfl, res_1 rfl (rv_tmp rfl), ?_⟩
   exact ⟨rfl, X5⟩
 replace hm := cnd_f c1 hm
 refine qu<|qs 1 rfl<|qm rfl<|sd_done<|sw_ret ?_
 have X6 := (X3.kz K2)
 cases hm
 refine ⟨_, _, rfl, res_1 rfl (rv_tmp rfl), ?_⟩
 exact ⟨rfl, X6⟩
theorem poly_valid_w {p0 r} (hm : poly_valid p0 = some r) {w : World} :
    Calls Tryz.prog 212 [.agg (TScheme.cs p0).toArray].toArray w fun e w' => ∃ v, e = .returned v ∧ (v = .bool r ∧ Gr w w') := by
 unfold poly_valid at hm
 refine calls_of_sw 45 Tryz.func212 rfl rfl rfl<|qs 2 rfl<|qe rfl (ev_box (cs := TScheme.cs p0) rfl rfl) ?_
 rintro _ w1 ⟨b1, rfl, hbw1, Bw1, G1⟩
 have z1 := G1.size
 have lt2 := Bw1.lt
 refine qm rfl<|sd_done<|sw_seq<|dw [([])] [] (.leaf [(0,10),(1,10),(2,10),(3,10),(4,10),(5,10),(6,10),(7,10),(8,10),(9,10),(10,10),(11,10),(12,10),(13,10),(14,10),(15,10),(16,10),(17,10),(18,10),(19,10),(20,10),(21,10),(22,10),(23,10),(24,10),(25,10),(26,0),(27,10),(28,10),(29,10),(30,10),(31,10),(32,10),(33,10),(34,10),(35,10),(36,10),(37,10),(38,10),(39,10),(40,10),(41,10),(42,10)]) ?_
 intro w2 G2 zw2
 refine sdz_leaf<|dh 0 rfl rfl (fun w hS => vv_fieldAddr fa_28_0 rfl) ?_
 have B3 := (Bw1.gr G2)
 refine dh 0 rfl rfl (fun w hS => vv_load1 (v := bv p0.Kind) one_5 rfl (Bx.kp B3 hS) rfl)<|dh 0 rfl rfl (fun w hS => vv_eqlB (p := p0.Kind) (q := 4#8) rfl rfl)<|qqF 0 rfl rfl (Kp.refl ([]) w2) (fun w hS => vv_move rfl) (fun c1 => ?_) (fun c1 => ?_)
 · replace hm := iF c1 hm
   refine dx 0 rfl rfl<|dx 0 rfl rfl<|dx 0 rfl rfl<|dm 0 rfl rfl<|dm 0 rfl rfl<|dx 0 rfl rfl<|dx 0 rfl rfl ?_
   refine dx 0 rfl rfl<|dm 0 rfl rfl<|dm 0 rfl rfl<|dx 0 rfl rfl<|dx 0 rfl rfl<|dx 0 rfl rfl<|dm 0 rfl rfl ?_
   refine dm 0 rfl rfl<|dx 0 rfl rfl<|dx 0 rfl rfl<|dx 0 rfl rfl<|dm 0 rfl rfl<|dm 0 rfl rfl<|dx 0 rfl rfl ?_
   refine dx 0 rfl rfl<|qy rfl<|dx 0 rfl rfl<|dm 0 rfl rfl<|dm 0 rfl rfl<|dx 0 rfl rfl<|dx 0 rfl rfl ?_
   refine dx 0 rfl rfl<|dx 0 rfl rfl<|dx 0 rfl rfl<|dx 0 rfl rfl<|dx 0 rfl rfl<|dx 0 rfl rfl<|dx 0 rfl rfl ?_
   refine dx 0 rfl rfl<|dx 0 rfl rfl<|dm 0 rfl rfl<|dm 0 rfl rfl<|sd_done<|sw_ret ?_
   have Y1 := Gr.trans G1 G2
   have X12 := ((Gr.refl w).trans Y1)
   cases hm
   refine ⟨_, _, rfl, res_1 rfl (rv_tmp rfl), ?_⟩
   exact ⟨rfl, X12⟩
 replace hm := iT c1 hm
 refine dh 0 rfl rfl (fun w hS => vv_fieldAddr fa_28_1 rfl)<|dh 0 rfl rfl (fun w hS => vv_load1 (v := .int .i64 p0.Depth) one_3 rfl (Bx.kp B3 hS) rfl)<|dh 0 rfl rfl (fun w hS => vv_geq (a := p0.Depth) (b := 0) rfl rfl)<|dm 0 rfl rfl<|qqF 0 rfl rfl (Kp.refl ([]) w2) (fun w hS => vv_move rfl) (fun c2 => ?_) (fun c2 => ?_)
 · replace hm := iF c2 hm
   refine dx 0 rfl rfl<|dx 0 rfl rfl<|dx 0 rfl rfl<|dm 0 rfl rfl<|dm 0 rfl rfl<|dx 0 rfl rfl<|dx 0 rfl rfl ?_
   refine dx 0 rfl rfl<|dm 0 rfl rfl<|dm 0 rfl rfl<|dx 0 rfl rfl<|dx 0 rfl rfl<|dx 0 rfl rfl<|dm 0 rfl rfl ?_
   refine dm 0 rfl rfl<|dx 0 rfl rfl<|dx 0 rfl rfl<|qy rfl<|dx 0 rfl rfl<|dm 0 rfl rfl<|dm 0 rfl rfl ?_
   refine dx 0 rfl rfl<|dx 0 rfl rfl<|dx 0 rfl rfl<|dx 0 rfl rfl<|dx 0 rfl rfl<|dx 0 rfl rfl<|dx 0 rfl rfl ?_
   refine dx 0 rfl rfl<|dx 0 rfl rfl<|dx 0 rfl rfl<|dx 0 rfl rfl<|dm 0 rfl rfl<|dm 0 rfl rfl<|sd_done ?_
   refine sw_ret ?_
   have Y2 := Gr.trans G1 G2
   have X11 := ((Gr.refl w).trans Y2)
   cases hm
   refine ⟨_, _, rfl, res_1 rfl (rv_tmp rfl), ?_⟩
   exact ⟨rfl, X11⟩
 replace hm := iT c2 hm
 refine dh 0 rfl rfl (fun w hS => vv_fieldAddr fa_28_1 rfl)<|dh 0 rfl rfl (fun w hS => vv_load1 (v := .int .i64 p0.Depth) one_3 rfl (Bx.kp B3 hS) rfl)<|dh 0 rfl rfl (fun w hS => vv_leq (a := p0.Depth) (b := 6) rfl rfl)<|dm 0 rfl rfl<|qqF 0 rfl rfl (Kp.refl ([]) w2) (fun w hS => vv_move rfl) (fun c3 => ?_) (fun c3 => ?_)
 · replace hm := iF c3 hm
   refine dx 0 rfl rfl<|dx 0 rfl rfl<|dx 0 rfl rfl<|dm 0 rfl rfl<|dm 0 rfl rfl<|dx 0 rfl rfl<|dx 0 rfl rfl ?_
   refine dx 0 rfl rfl<|dm 0 rfl rfl<|dm 0 rfl rfl<|dx 0 rfl rfl<|dx 0 rfl rfl<|qy rfl<|dx 0 rfl rfl ?_
   refine dm 0 rfl rfl<|dm 0 rfl rfl<|dx 0 rfl rfl<|dx 0 rfl rfl<|dx 0 rfl rfl<|dx 0 rfl rfl<|dx 0 rfl rfl ?_
   refine dx 0 rfl rfl<|dx 0 rfl rfl<|dx 0 rfl rfl<|dx 0 rfl rfl<|dx 0 rfl rfl<|dx 0 rfl rfl<|dm 0 rfl rfl ?_
   refine dm 0 rfl rfl<|sd_done<|sw_ret ?_
   have Y3 := Gr.trans G1 G2
   have X10 := ((Gr.refl w).trans Y3)
   cases hm
   refine ⟨_, _, rfl, res_1 rfl (rv_tmp rfl), ?_⟩
   exact ⟨rfl, X10⟩
 replace hm := iT c3 hm
 refine dh 0 rfl rfl (fun w hS => vv_fieldAddr fa_28_2 rfl)<|dh 0 rfl rfl (fun w hS => vv_load1 (v := .int .i64 p0.Degree) one_3 rfl (Bx.kp B3 hS) rfl)<|dh 0 rfl rfl (fun w hS => vv_geq (a := p0.Degree) (b := 1) rfl rfl)<|dm 0 rfl rfl<|qqF 0 rfl rfl (Kp.refl ([]) w2) (fun w hS => vv_move rfl) (fun c4 => ?_) (fun c4 => ?_)
 · replace hm := iF c4 hm
   refine dx 0 rfl rfl<|dx 0 rfl rfl<|dx 0 rfl rfl<|dm 0 rfl rfl<|dm 0 rfl rfl<|dx 0 rfl rfl<|dx 0 rfl rfl ?_
   refine qy rfl<|dx 0 rfl rfl<|dm 0 rfl rfl<|dm 0 rfl rfl<|dx 0 rfl rfl<|dx 0 rfl rfl<|dx 0 rfl rfl ?_
   refine dx 0 rfl rfl<|dx 0 rfl rfl<|dx 0 rfl rfl<|dx 0 rfl rfl<|dx 0 rfl rfl<|dx 0 rfl rfl<|dx 0 rfl rfl ?_
   refine dx 0 rfl rfl<|dm 0 rfl rfl<|dm 0 rfl rfl<|sd_done<|sw_ret ?_
   have Y4 := Gr.trans G1 G2
   have X9 := ((Gr.refl w).trans Y4)
   cases hm
   refine ⟨_, _, rfl, res_1 rfl (rv_tmp rfl), ?_⟩
   exact ⟨rfl, X9⟩
 replace hm := iT c4 hm
 refine dh 0 rfl rfl (fun w hS => vv_fieldAddr fa_28_2 rfl)<|dh 0 rfl rfl (fun w hS => vv_load1 (v := .int .i64 p0.Degree) one_3 rfl (Bx.kp B3 hS) rfl)<|dh 0 rfl rfl (fun w hS => vv_leq (a := p0.Degree) (b := 8) rfl rfl)<|dm 0 rfl rfl<|qqF 0 rfl rfl (Kp.refl ([]) w2) (fun w hS => vv_move rfl) (fun c5 => ?_) (fun c5 => ?_)
 · replace hm := iF c5 hm
   refine dx 0 rfl rfl<|dx 0 rfl rfl<|qy rfl<|dx 0 rfl rfl<|dm 0 rfl rfl<|dm 0 rfl rfl<|dx 0 rfl rfl ?_
   refine dx 0 rfl rfl<|dx 0 rfl rfl<|dx 0 rfl rfl<|dx 0 rfl rfl<|dx 0 rfl rfl<|dx 0 rfl rfl<|dx 0 rfl rfl ?_
   refine dx 0 rfl rfl<|dx 0 rfl rfl<|dx 0 rfl rfl<|dm 0 rfl rfl<|dm 0 rfl rfl<|sd_done<|sw_ret ?_
   have Y5 := Gr.trans G1 G2
   have X8 := ((Gr.refl w).trans Y5)
   cases hm
   refine ⟨_, _, rfl, res_1 rfl (rv_tmp rfl), ?_⟩
   exact ⟨rfl, X8⟩
 replace hm := iT c5 hm
 refine dh 0 rfl rfl (fun w hS => vv_fieldAddr fa_28_3 rfl)<|dh 0 rfl rfl (fun w hS => vv_loadM (vs := TGroup.cs p0.Group) agg_26 rfl (Bx.kp B3 hS) rfl rfl) ?_
 obtain ⟨x1, hx1, hm⟩ := bnd hm
 refine qz [] rfl (eC en_316 rfl (number_CheckGroup_w hx1)) ⟨fun _ => tk0, trivial⟩ ?_
 rintro _ w3 ⟨rfl, G3⟩
 have z4 := G3.size
 refine kG G3 ?_
 have S5 := ((Kp.refl ([]) w2).gr G3)
 refine qh 0 rfl rfl S5 (fun w hS => vv_eql (a := x1) (b := 0) rfl rfl)<|dn 0 rfl rfl S5<|qqF 0 rfl rfl S5 (fun w hS => vv_move rfl) (fun c6 => ?_) (fun c6 => ?_)
 · replace hm := iF c6 hm
   refine qx 0 rfl rfl S5<|qx 0 rfl rfl S5<|qx 0 rfl rfl S5<|qx 0 rfl rfl S5<|qx 0 rfl rfl S5<|qx 0 rfl rfl S5<|qx 0 rfl rfl S5 ?_
   refine qx 0 rfl rfl S5<|qx 0 rfl rfl S5<|qx 0 rfl rfl S5<|qx 0 rfl rfl S5<|dn 0 rfl rfl S5<|dn 0 rfl rfl S5<|sd_done ?_
   refine sw_ret ?_
   have X7 := ((((Gr.refl w).trans G1).trans G2).trans G3)
   cases hm
   refine ⟨_, _, rfl, res_1 rfl (rv_tmp rfl), ?_⟩
   exact ⟨rfl, X7⟩
 replace hm := iT c6 hm
 refine qh 0 rfl rfl S5 (fun w hS => vv_fieldAddr fa_28_3 rfl)<|qh 0 rfl rfl S5 (fun w hS => vv_fieldAddr fa_26_1 rfl)<|qh 0 rfl rfl S5 (fun w hS => vv_load1 (v := wv p0.Group.Q) one_24 rfl (Bx.kp B3 hS) rfl)<|qh 0 rfl rfl S5 (fun w hS => vv_fieldAddr fa_28_1 rfl)<|qh 0 rfl rfl S5 (fun w hS => vv_load1 (v := .int .i64 p0.Depth) one_3 rfl (Bx.kp B3 hS) rfl) ?_
 obtain ⟨nn2, hnn2, hm⟩ := bnd hm
 refine qh 0 rfl rfl S5 (fun w hS => vv_shlI (a := 1) (b := p0.Depth) rfl rfl hnn2)<|qh 0 rfl rfl S5 (fun w hS => vv_fieldAddr fa_28_2 rfl)<|qh 0 rfl rfl S5 (fun w hS => vv_load1 (v := .int .i64 p0.Degree) one_3 rfl (Bx.kp B3 hS) rfl)<|qh 0 rfl rfl S5 (fun w hS => vv_add (k := .i64) (a := shlI 1 nn2) (b := p0.Degree) rfl rfl)<|qh 0 rfl rfl S5 (fun w hS => vv_cvIU cv_3_24 rfl)<|qh 0 rfl rfl S5 (fun w hS => vv_gtrU (c := p0.Group.Q) (d := wd (w64 ((shlI 1 nn2) + p0.Degree))) rfl rfl)<|dn 0 rfl rfl S5 ?_
 refine dn 0 rfl rfl S5<|sd_done<|sw_ret ?_
 have X6 := ((((Gr.refl w).trans G1).trans G2).trans G3)
 cases hm
 refine ⟨_, _, rfl, res_1 rfl (rv_tmp rfl), ?_⟩
 exact ⟨rfl, X6⟩
theorem poly_Check_w {p0 r} (hm : poly_Check p0 = some r) {w : World} :
    Calls Tryz.prog 132 [.agg (TScheme.cs p0).toArray].toArray w fun e w' => ∃ v, e = .returned v ∧ (v = .int .i64 r ∧ Gr w w') := by
 unfold poly_Check at hm
 refine calls_of_sw 6 Tryz.func132 rfl rfl rfl<|qs 2 rfl<|qe rfl (ev_box (cs := TScheme.cs p0) rfl rfl) ?_
 rintro _ w1 ⟨b1, rfl, hbw1, Bw1, G1⟩
 have z1 := G1.size
 have lt2 := Bw1.lt
 refine qm rfl<|sd_done<|sw_seq<|qs 3 rfl<|qv rfl (vv_loadW agg_28 rfl Bw1 rfl) ?_
 obtain ⟨x1, hx1, hm⟩ := bnd hm
 refine qe rfl (eC en_212 rfl (poly_valid_w hx1)) ?_
 rintro _ w2 ⟨rfl, G2⟩
 have z3 := G2.size
 refine qv rfl (vv_not rfl)<|sd_done<|sw_cond rfl (fun c1 => ?_) (fun c1 => ?_)
 · replace hm := cnd_t c1 hm
   refine qs 1 rfl<|qm rfl<|qb ?_
   have X4 := (((Gr.refl w).trans G1).trans G2)
   cases hm
   refine ⟨_, _, rfl, res_1 rfl (rv_tmp rfl), ?_⟩
   exact ⟨rfl, X4⟩
 replace hm := cnd_f c1 hm
 refine qu<|qs 1 rfl<|qm rfl<|sd_done<|sw_ret ?_
 have X5 := (((Gr.refl w).trans G1).trans G2)
 cases hm
 refine ⟨_, _, rfl, res_1 rfl (rv_tmp rfl), ?_⟩
 exact ⟨rfl, X5⟩
theorem ref01_IsPrime_w {p0 r} (hm : ref01_IsPrime p0 = some r) {w : World} :
    Calls Tryz.prog 343 [wv p0].toArray w fun e w' => ∃ v, e = .returned v ∧ (v = .bool r ∧ Gr w w') := by
 unfold ref01_IsPrime at hm
 refine calls_of_sw 17 Tryz.func343 rfl rfl rfl<|qs 1 rfl<|qm rfl<|sd_done<|sw_seq<|sw_seq ?_
 refine qg 1 rfl<|qm rfl<|sd_done<|sw_block<|sw_loopD (α := Nat × BitVec 64) (rg 2 13) (fun ⟨n1, a2⟩ => [(2, .bool false), (3, wv a2)]) (fun ⟨n1, a2⟩ wr => (fixN (ref01_IsPrime_L1 p0) n1 a2 = some r) ∧ Kz [] w wr) (fun ⟨n1, a2⟩ => n1) ⟨FUEL, 2#64⟩ ?_ ?_ ?_
 · exact sbq
 · exact ⟨hm, Kz.refl _ _⟩
 clear hm; rintro ⟨n1, a2⟩ w1 ⟨hm, K1⟩
 have z1 := K1.size
 have hb := fix_succ hm; clear hm; obtain ⟨n1, rfl, hm⟩ := hb
 generalize hrec1 : fixN (ref01_IsPrime_L1 p0) n1 = rec1 at hm
 unfold ref01_IsPrime_L1 at hm
 try dsimp only at hm
 refine sw_seq<|qs 5 rfl<|qm rfl<|qm rfl<|qv rfl (vv_umul (a := a2) (b := a2) rfl rfl)<|qm rfl ?_
 refine qv rfl (vv_leqU (c := a2 * a2) (d := p0) rfl rfl)<|sd_done<|cnF rfl (fun c1 => ?_) (fun c1 => ?_)
 · replace hm := iF c1 hm
   refine sw_exit<|then_x<|then_x<|block_x<|then_n<|qs 3 rfl ?_
   refine qm rfl<|qv rfl (vv_geqU (c := p0) (d := 2#64) rfl rfl)<|qm rfl<|sd_done<|sw_ret ?_
   have X4 := ((Gr.refl w).kz K1)
   cases hm
   refine ⟨_, _, rfl, res_1 rfl (rv_tmp rfl), ?_⟩
   exact ⟨rfl, X4⟩
 replace hm := iT c1 hm
 refine qu<|sw_seq<|sw_block<|qs 4 rfl<|qm rfl ?_
 refine qm rfl ?_
 obtain ⟨x3, hx3, hm⟩ := bnd hm
 refine qv rfl (vv_remU (c := p0) (d := a2) rfl rfl hx3)<|qv rfl (vv_eqlU (c := x3) (d := 0#64) rfl rfl)<|sd_done<|sw_cond rfl (fun c2 => ?_) (fun c2 => ?_)
 · replace hm := iT c2 hm
   refine qs 1 rfl<|qm rfl<|sd_done<|sw_ret<|block_r<|then_r ?_
   refine then_r<|block_r<|then_r ?_
   have X2 := ((Gr.refl w).kz K1)
   cases hm
   refine ⟨_, _, rfl, res_1 rfl (rv_tmp rfl), ?_⟩
   exact ⟨rfl, X2⟩
 replace hm := iF c2 hm
 refine sw_skip<|block_n<|then_n<|qg 3 rfl<|qm rfl<|qv rfl (vv_uadd (a := a2) (b := 1#64) rfl rfl)<|qm rfl ?_
 refine sd_nil ?_
 have K_3 : Kz [] w w1 := K1
 subst hrec1
 exact ⟨rfl, ⟨n1, a2 + 1#64⟩, sbq, ⟨hm, K_3⟩, Nat.lt_succ_self _⟩
theorem ref01_Power_w {p0 p1 p2 r} (hm : ref01_Power p0 p1 p2 = some r) {w : World} :
    Calls Tryz.prog 273 [wv p0, wv p1, wv p2].toArray w fun e w' => ∃ v, e = .returned v ∧ (v = wv r ∧ Gr w w') := by
 unfold ref01_Power at hm
 refine calls_of_sw 32 Tryz.func273 rfl rfl rfl<|qs 1 rfl<|qm rfl<|qd 3 rfl ?_
 refine qm rfl ?_
 obtain ⟨x1, hx1, hm⟩ := bnd hm
 refine qv rfl (vv_remU (c := 1#64) (d := p2) rfl rfl hx1)<|qm rfl<|qd 4 rfl<|qm rfl<|qm rfl ?_
 obtain ⟨x2, hx2, hm⟩ := bnd hm
 refine qv rfl (vv_remU (c := p0) (d := p2) rfl rfl hx2)<|qm rfl<|sd_done<|sw_seq<|sw_block<|sw_loopD (α := Nat × BitVec 64 × BitVec 64 × BitVec 64) ([1, 7, 8] ++ rg 14 17) (fun ⟨n1, a6, a7, a8⟩ => [(1, wv a6), (7, wv a7), (8, wv a8)]) (fun ⟨n1, a6, a7, a8⟩ wr => (fixN (ref01_Power_L1 p2) n1 (a6, a7, a8) = some r) ∧ Kz [] w wr) (fun ⟨n1, a6, a7, a8⟩ => n1) ⟨FUEL, p1, x1, x2⟩ ?_ ?_ ?_
 · exact sbq
 · exact ⟨hm, Kz.refl _ _⟩
 clear hm; rintro ⟨n1, a6, a7, a8⟩ w1 ⟨hm, K1⟩
 have z1 := K1.size
 have hb := fix_succ hm; clear hm; obtain ⟨n1, rfl, hm⟩ := hb
 generalize hrec1 : fixN (ref01_Power_L1 p2) n1 = rec1 at hm
 unfold ref01_Power_L1 at hm
 try dsimp only at hm
 refine sw_seq<|qs 2 rfl<|qm rfl<|qv rfl (vv_gtrU (c := a6) (d := 0#64) rfl rfl)<|sd_done<|cnF rfl (fun c1 => ?_) (fun c1 => ?_)
 · replace hm := iF c1 hm
   refine sw_exit<|then_x<|then_x<|block_x<|then_n<|qs 2 rfl ?_
   refine qm rfl<|qm rfl<|sd_done<|sw_ret ?_
   have X7 := ((Gr.refl w).kz K1)
   cases hm
   refine ⟨_, _, rfl, res_1 rfl (rv_tmp rfl), ?_⟩
   exact ⟨rfl, X7⟩
 replace hm := iT c1 hm
 refine qu<|sw_block ?_
 have X2 := ((Gr.refl w).kz K1)
 refine qj (β := BitVec 64) ([7] ++ rg 16 8) (fun a9 => [(7, wv a9)]) (fun a9 wr => (ref01_Power_J2 p2 a6 a8 rec1 a9 = some r) ∧ Kz [] w1 wr) ?_ ?_
 · refine qs 3 rfl<|qm rfl ?_
   obtain ⟨x12, hx12, hm⟩ := bnd hm
   refine qv rfl (vv_remU (c := a6) (d := 2#64) rfl rfl hx12)<|qv rfl (vv_eqlU (c := x12) (d := 1#64) rfl rfl)<|sd_done<|cnF rfl (fun c2 => ?_) (fun c2 => ?_)
   · replace hm := iF c2 hm
     refine sw_skip ?_
     exact ⟨rfl, a7, sbq, hm, kz0⟩
   replace hm := iT c2 hm
   refine qg 6 rfl<|qm rfl<|qm rfl<|qv rfl (vv_umul (a := a7) (b := a8) rfl rfl)<|qm rfl ?_
   obtain ⟨x13, hx13, hm⟩ := bnd hm
   refine qv rfl (vv_remU (c := a7 * a8) (d := p2) rfl rfl hx13)<|qm rfl<|sd_nil ?_
   exact ⟨rfl, x13, sbq, hm, kz0⟩
 clear hm; rintro a9 w2 ⟨hm, K2⟩
 have z3 := K2.size
 unfold ref01_Power_J2 at hm
 refine qs 6 rfl<|qm rfl<|qm rfl<|qv rfl (vv_umul (a := a8) (b := a8) rfl rfl)<|qm rfl ?_
 obtain ⟨x10, hx10, hm⟩ := bnd hm
 refine qv rfl (vv_remU (c := a8 * a8) (d := p2) rfl rfl hx10)<|qm rfl<|sd_done<|qg 3 rfl<|qm rfl ?_
 obtain ⟨x11, hx11, hm⟩ := bnd hm
 refine qv rfl (vv_quoU (c := a6) (d := 2#64) rfl rfl hx11)<|qm rfl<|sd_nil<|block_n ?_
 have K_4 : Kz [] w w2 := (K1.kz K2)
 subst hrec1
 exact ⟨rfl, ⟨n1, x11, a9, x10⟩, sbq, ⟨hm, K_4⟩, Nat.lt_succ_self _⟩
theorem ref01_ValidGroup_w {p0 r} (hm : ref01_ValidGroup p0 = some r) {w : World} :
    Calls Tryz.prog 270 [.agg (TGroup.cs p0).toArray].toArray w fun e w' => ∃ v, e = .returned v ∧ (v = .bool r ∧ Gr w w') := by
 unfold ref01_ValidGroup at hm
 refine calls_of_sw 52 Tryz.func270 rfl rfl rfl<|qs 2 rfl<|qe rfl (ev_box (cs := TGroup.cs p0) rfl rfl) ?_
 rintro _ w1 ⟨b1, rfl, hbw1, Bw1, G1⟩
 have z1 := G1.size
 have lt2 := Bw1.lt
 refine qm rfl<|sd_done<|sw_seq ?_
 have X3 := ((Gr.refl w).trans G1)
 refine qj (β := Bool) (rg 3 29) (fun a1 => [(31, .bool a1)]) (fun a1 wr => (ref01_ValidGroup_J1 p0 a1 = some r) ∧ Kz [] w1 wr) ?_ ?_
 · refine qg 29 rfl<|qv rfl (vv_fieldAddr fa_26_0 rfl)<|qv rfl (vv_load1 (v := wv p0.P) one_24 rfl Bw1 rfl)<|qv rfl (vv_gtrU (c := p0.P) (d := 1048575#64) rfl rfl)<|qp rfl (vv_move rfl) (fun c4 => ?_) (fun c4 => ?_)
   · replace hm := iT c4 hm
     refine qk rfl<|qk rfl<|qk rfl<|qk rfl<|qm rfl<|qm rfl<|qk rfl ?_
     refine qk rfl<|qk rfl<|qm rfl<|qm rfl<|qk rfl<|qk rfl<|qk rfl ?_
     refine qk rfl<|qm rfl<|qm rfl<|qk rfl<|qk rfl<|qk rfl<|qk rfl ?_
     refine qk rfl<|qk rfl<|qk rfl<|qm rfl<|sd_nil ?_
     exact ⟨rfl, true, sbq, hm, kz0⟩
   replace hm := iF c4 hm
   refine qv rfl (vv_fieldAddr fa_26_0 rfl)<|qv rfl (vv_load1 (v := wv p0.P) one_24 rfl Bw1 rfl) ?_
   obtain ⟨x3, hx3, hm⟩ := bnd hm
   refine qe rfl (eC en_343 rfl (ref01_IsPrime_w hx3)) ?_
   rintro _ w4 ⟨rfl, G4⟩
   have z12 := G4.size
   refine qv rfl (vv_not rfl)<|qm rfl<|qp rfl (vv_move rfl) (fun c5 => ?_) (fun c5 => ?_)
   · replace hm := cnd_t c5 hm
     refine qk rfl<|qk rfl<|qk rfl<|qm rfl<|qm rfl<|qk rfl<|qk rfl ?_
     refine qk rfl<|qk rfl<|qm rfl<|qm rfl<|qk rfl<|qk rfl<|qk rfl ?_
     refine qk rfl<|qk rfl<|qk rfl<|qk rfl<|qm rfl<|sd_nil ?_
     exact ⟨rfl, true, sbq, hm, (kz0.gr G4)⟩
   replace hm := cnd_f c5 hm
   refine qv rfl (vv_fieldAddr fa_26_1 rfl) ?_
   have B14 := (Bw1.gr G4)
   refine qv rfl (vv_load1 (v := wv p0.Q) one_24 rfl B14 rfl)<|qv rfl (vv_gtrU (c := p0.Q) (d := 1048575#64) rfl rfl)<|qm rfl<|qp rfl (vv_move rfl) (fun c6 => ?_) (fun c6 => ?_)
   · replace hm := iT c6 hm
     refine qk rfl<|qk rfl<|qk rfl<|qk rfl<|qm rfl<|qm rfl<|qk rfl ?_
     refine qk rfl<|qk rfl<|qk rfl<|qk rfl<|qk rfl<|qk rfl<|qm rfl ?_
     refine sd_nil ?_
     exact ⟨rfl, true, sbq, hm, (kz0.gr G4)⟩
   replace hm := iF c6 hm
   refine qv rfl (vv_fieldAddr fa_26_1 rfl)<|qv rfl (vv_load1 (v := wv p0.Q) one_24 rfl B14 rfl) ?_
   obtain ⟨x4, hx4, hm⟩ := bnd hm
   refine qe rfl (eC en_343 rfl (ref01_IsPrime_w hx4)) ?_
   rintro _ w5 ⟨rfl, G5⟩
   have z16 := G5.size
   refine qv rfl (vv_not rfl)<|qm rfl<|qp rfl (vv_move rfl) (fun c7 => ?_) (fun c7 => ?_)
   · replace hm := cnd_t c7 hm
     refine qk rfl<|qk rfl<|qk rfl<|qk rfl<|qk rfl<|qk rfl<|qk rfl ?_
     refine qm rfl<|sd_nil ?_
     exact ⟨rfl, true, sbq, hm, ((kz0.gr G4).gr G5)⟩
   replace hm := cnd_f c7 hm
   refine qv rfl (vv_fieldAddr fa_26_0 rfl) ?_
   have B18 := (B14.gr G5)
   refine qv rfl (vv_load1 (v := wv p0.P) one_24 rfl B18 rfl)<|qv rfl (vv_usub (a := p0.P) (b := 1#64) rfl rfl)<|qv rfl (vv_fieldAddr fa_26_1 rfl)<|qv rfl (vv_load1 (v := wv p0.Q) one_24 rfl B18 rfl) ?_
   obtain ⟨x5, hx5, hm⟩ := bnd hm
   refine qv rfl (vv_remU (c := p0.P - 1#64) (d := p0.Q) rfl rfl hx5)<|qv rfl (vv_neqU (c := x5) (d := 0#64) rfl rfl)<|qm rfl<|sd_nil ?_
   exact ⟨rfl, (decide (x5 ≠ 0#64)), sbq, hm, ((kz0.gr G4).gr G5)⟩
 clear hm; rintro a1 w2 ⟨hm, K2⟩
 have z4 := K2.size
 unfold ref01_ValidGroup_J1 at hm
 refine sw_cond rfl (fun c1 => ?_) (fun c1 => ?_)
 · replace hm := cnd_t c1 hm
   refine qs 1 rfl<|qm rfl<|qb ?_
   have X5 := (X3.kz K2)
   cases hm
   refine ⟨_, _, rfl, res_1 rfl (rv_tmp rfl), ?_⟩
   exact ⟨rfl, X5⟩
 replace hm := cnd_f c1 hm
 refine qu<|qs 21 rfl<|qv rfl (vv_fieldAddr fa_26_2 rfl) ?_
 have B6 := (Bw1.kz K2)
 refine qv rfl (vv_load1 (v := wv p0.G) one_24 rfl B6 rfl)<|qv rfl (vv_geqU (c := p0.G) (d := 2#64) rfl rfl)<|qpF rfl (vv_move rfl) (fun c2 => ?_) (fun c2 => ?_)
 · replace hm := iF c2 hm
   refine qk rfl<|qk rfl<|qk rfl<|qk rfl<|qk rfl<|qm rfl<|qm rfl ?_
   refine qk rfl<|qk rfl<|qk rfl<|qk rfl<|qk rfl<|qk rfl<|qk rfl ?_
   refine qk rfl<|qm rfl<|qm rfl<|sd_done<|sw_ret ?_
   have X10 := (X3.kz K2)
   cases hm
   refine ⟨_, _, rfl, res_1 rfl (rv_tmp rfl), ?_⟩
   exact ⟨rfl, X10⟩
 replace hm := iT c2 hm
 refine qv rfl (vv_fieldAddr fa_26_2 rfl)<|qv rfl (vv_load1 (v := wv p0.G) one_24 rfl B6 rfl)<|qv rfl (vv_fieldAddr fa_26_0 rfl)<|qv rfl (vv_load1 (v := wv p0.P) one_24 rfl B6 rfl)<|qv rfl (vv_lssU (c := p0.G) (d := p0.P) rfl rfl)<|qm rfl<|qpF rfl (vv_move rfl) (fun c3 => ?_) (fun c3 => ?_)
 · replace hm := iF c3 hm
   refine qk rfl<|qk rfl<|qk rfl<|qk rfl<|qk rfl<|qk rfl<|qk rfl ?_
   refine qk rfl<|qm rfl<|qm rfl<|sd_done<|sw_ret ?_
   have X9 := (X3.kz K2)
   cases hm
   refine ⟨_, _, rfl, res_1 rfl (rv_tmp rfl), ?_⟩
   exact ⟨rfl, X9⟩
 replace hm := iT c3 hm
 refine qv rfl (vv_fieldAddr fa_26_2 rfl)<|qv rfl (vv_load1 (v := wv p0.G) one_24 rfl B6 rfl)<|qv rfl (vv_fieldAddr fa_26_1 rfl)<|qv rfl (vv_load1 (v := wv p0.Q) one_24 rfl B6 rfl)<|qv rfl (vv_fieldAddr fa_26_0 rfl)<|qv rfl (vv_load1 (v := wv p0.P) one_24 rfl B6 rfl) ?_
 obtain ⟨x2, hx2, hm⟩ := bnd hm
 refine qe rfl (eC en_273 rfl (ref01_Power_w hx2)) ?_
 rintro _ w3 ⟨rfl, G3⟩
 have z7 := G3.size
 refine qv rfl (vv_eqlU (c := x2) (d := 1#64) rfl rfl)<|qm rfl<|qm rfl<|sd_done<|sw_ret ?_
 have X8 := ((X3.kz K2).trans G3)
 cases hm
 refine ⟨_, _, rfl, res_1 rfl (rv_tmp rfl), ?_⟩
 exact ⟨rfl, X8⟩
theorem ref04_Valid_w {p0 r} (hm : ref04_Valid p0 = some r) {w : World} :
    Calls Tryz.prog 174 [.agg (TScheme.cs p0).toArray].toArray w fun e w' => ∃ v, e = .returned v ∧ (v = .bool r ∧ Gr w w') := by
 unfold ref04_Valid at hm
 refine calls_of_sw 43 Tryz.func174 rfl rfl rfl<|qs 2 rfl<|qe rfl (ev_box (cs := TScheme.cs p0) rfl rfl) ?_
 rintro _ w1 ⟨b1, rfl, hbw1, Bw1, G1⟩
 have z1 := G1.size
 have lt2 := Bw1.lt
 refine qm rfl<|sd_done<|sw_seq ?_
 have X3 := ((Gr.refl w).trans G1)
 refine qj (β := Bool) (rg 3 29) (fun a1 => [(31, .bool a1)]) (fun a1 wr => (ref04_Valid_J1 p0 a1 = some r) ∧ Kz [] w1 wr) ?_ ?_
 · refine qg 29 rfl<|qv rfl (vv_fieldAddr fa_28_0 rfl)<|qv rfl (vv_load1 (v := bv p0.Kind) one_5 rfl Bw1 rfl)<|qv rfl (vv_neqB (p := p0.Kind) (q := 4#8) rfl rfl)<|qp rfl (vv_move rfl) (fun c2 => ?_) (fun c2 => ?_)
   · replace hm := iT c2 hm
     refine qk rfl<|qk rfl<|qk rfl<|qm rfl<|qm rfl<|qk rfl<|qk rfl ?_
     refine qk rfl<|qm rfl<|qm rfl<|qk rfl<|qk rfl<|qk rfl<|qm rfl ?_
     refine qm rfl<|qk rfl<|qk rfl<|qk rfl<|qm rfl<|qm rfl<|qk rfl ?_
     refine qk rfl<|qk rfl<|qk rfl<|qm rfl<|sd_nil ?_
     exact ⟨rfl, true, sbq, hm, kz0⟩
   replace hm := iF c2 hm
   refine qv rfl (vv_fieldAddr fa_28_1 rfl)<|qv rfl (vv_load1 (v := .int .i64 p0.Depth) one_3 rfl Bw1 rfl)<|qv rfl (vv_lss (a := p0.Depth) (b := 0) rfl rfl)<|qm rfl<|qp rfl (vv_move rfl) (fun c3 => ?_) (fun c3 => ?_)
   · replace hm := iT c3 hm
     refine qk rfl<|qk rfl<|qk rfl<|qm rfl<|qm rfl<|qk rfl<|qk rfl ?_
     refine qk rfl<|qm rfl<|qm rfl<|qk rfl<|qk rfl<|qk rfl<|qm rfl ?_
     refine qm rfl<|qk rfl<|qk rfl<|qk rfl<|qk rfl<|qm rfl<|sd_nil ?_
     exact ⟨rfl, true, sbq, hm, kz0⟩
   replace hm := iF c3 hm
   refine qv rfl (vv_fieldAddr fa_28_1 rfl)<|qv rfl (vv_load1 (v := .int .i64 p0.Depth) one_3 rfl Bw1 rfl)<|qv rfl (vv_gtr (a := p0.Depth) (b := 6) rfl rfl)<|qm rfl<|qp rfl (vv_move rfl) (fun c4 => ?_) (fun c4 => ?_)
   · replace hm := iT c4 hm
     refine qk rfl<|qk rfl<|qk rfl<|qm rfl<|qm rfl<|qk rfl<|qk rfl ?_
     refine qk rfl<|qm rfl<|qm rfl<|qk rfl<|qk rfl<|qk rfl<|qk rfl ?_
     refine qm rfl<|sd_nil ?_
     exact ⟨rfl, true, sbq, hm, kz0⟩
   replace hm := iF c4 hm
   refine qv rfl (vv_fieldAddr fa_28_2 rfl)<|qv rfl (vv_load1 (v := .int .i64 p0.Degree) one_3 rfl Bw1 rfl)<|qv rfl (vv_lss (a := p0.Degree) (b := 1) rfl rfl)<|qm rfl<|qp rfl (vv_move rfl) (fun c5 => ?_) (fun c5 => ?_)
   · replace hm := iT c5 hm
     refine qk rfl<|qk rfl<|qk rfl<|qm rfl<|qm rfl<|qk rfl<|qk rfl ?_
     refine qk rfl<|qk rfl<|qm rfl<|sd_nil ?_
     exact ⟨rfl, true, sbq, hm, kz0⟩
   replace hm := iF c5 hm
   refine qv rfl (vv_fieldAddr fa_28_2 rfl)<|qv rfl (vv_load1 (v := .int .i64 p0.Degree) one_3 rfl Bw1 rfl)<|qv rfl (vv_gtr (a := p0.Degree) (b := 8) rfl rfl)<|qm rfl<|qp rfl (vv_move rfl) (fun c6 => ?_) (fun c6 => ?_)
   · replace hm := iT c6 hm
     refine qk rfl<|qk rfl<|qk rfl<|qk rfl<|qm rfl<|sd_nil ?_
     exact ⟨rfl, true, sbq, hm, kz0⟩
   replace hm := iF c6 hm
   refine qv rfl (vv_fieldAddr fa_28_3 rfl)<|qv rfl (vv_loadM (vs := TGroup.cs p0.Group) agg_26 rfl Bw1 rfl rfl) ?_
   obtain ⟨x3, hx3, hm⟩ := bnd hm
   refine qe rfl (eC en_270 rfl (ref01_ValidGroup_w hx3)) ?_
   rintro _ w5 ⟨rfl, G5⟩
   have z15 := G5.size
   refine qv rfl (vv_not rfl)<|qm rfl<|sd_nil ?_
   exact ⟨rfl, (!x3), sbq, hm, (kz0.gr G5)⟩
 clear hm; rintro a1 w2 ⟨hm, K2⟩
 have z4 := K2.size
 unfold ref04_Valid_J1 at hm
 refine sw_cond rfl (fun c1 => ?_) (fun c1 => ?_)
 · replace hm := cnd_t c1 hm
   refine qs 1 rfl<|qm rfl<|qb ?_
   have X5 := (X3.kz K2)
   cases hm
   refine ⟨_, _, rfl, res_1 rfl (rv_tmp rfl), ?_⟩
   exact ⟨rfl, X5⟩
 replace hm := cnd_f c1 hm
 refine qu<|sw_seq<|dw [([])] [] (.leaf [(0,10),(1,10),(2,10),(3,10),(4,10),(6,10),(7,10),(5,0),(8,10),(9,10),(10,10),(11,10)]) ?_
 intro w3 G3 zw3
 refine sdz_leaf<|dh 0 rfl rfl (fun w hS => vv_fieldAddr fa_28_3 rfl)<|dh 0 rfl rfl (fun w hS => vv_fieldAddr fa_26_1 rfl) ?_
 have B6 := ((Bw1.kz K2).gr G3)
 refine dh 0 rfl rfl (fun w hS => vv_load1 (v := wv p0.Group.Q) one_24 rfl (Bx.kp B6 hS) rfl)<|dh 0 rfl rfl (fun w hS => vv_fieldAddr fa_28_1 rfl)<|dh 0 rfl rfl (fun w hS => vv_load1 (v := .int .i64 p0.Depth) one_3 rfl (Bx.kp B6 hS) rfl)<|dh 0 rfl rfl (fun w hS => vv_fieldAddr fa_28_2 rfl)<|dh 0 rfl rfl (fun w hS => vv_load1 (v := .int .i64 p0.Degree) one_3 rfl (Bx.kp B6 hS) rfl) ?_
 obtain ⟨x2, hx2, hm⟩ := bnd hm
 refine qz [] rfl (eC en_192 rfl (ref03_Receivers_w hx2)) ⟨fun _ => tk0, trivial⟩ ?_
 rintro _ w4 ⟨rfl, G4⟩
 have z7 := G4.size
 refine kG G4 ?_
 have S8 := ((Kp.refl ([]) w3).gr G4)
 refine qh 0 rfl rfl S8 (fun w hS => vv_add (k := .i64) (a := x2) (b := p0.Degree) rfl rfl)<|qh 0 rfl rfl S8 (fun w hS => vv_cvIU cv_3_24 rfl)<|qh 0 rfl rfl S8 (fun w hS => vv_gtrU (c := p0.Group.Q) (d := wd (w64 (x2 + p0.Degree))) rfl rfl)<|dn 0 rfl rfl S8<|sd_done<|sw_ret ?_
 have X9 := (((X3.kz K2).trans G3).trans G4)
 cases hm
 refine ⟨_, _, rfl, res_1 rfl (rv_tmp rfl), ?_⟩
 exact ⟨rfl, X9⟩
theorem ref04_Check_w {p0 r} (hm : ref04_Check p0 = some r) {w : World} :
    Calls Tryz.prog 173 [.agg (TScheme.cs p0).toArray].toArray w fun e w' => ∃ v, e = .returned v ∧ (v = .int .i64 r ∧ Gr w w') := by
 unfold ref04_Check at hm
 refine calls_of_sw 6 Tryz.func173 rfl rfl rfl<|qs 2 rfl<|qe rfl (ev_box (cs := TScheme.cs p0) rfl rfl) ?_
 rintro _ w1 ⟨b1, rfl, hbw1, Bw1, G1⟩
 have z1 := G1.size
 have lt2 := Bw1.lt
 refine qm rfl<|sd_done<|sw_seq<|qs 3 rfl<|qv rfl (vv_loadW agg_28 rfl Bw1 rfl) ?_
 obtain ⟨x1, hx1, hm⟩ := bnd hm
 refine qe rfl (eC en_174 rfl (ref04_Valid_w hx1)) ?_
 rintro _ w2 ⟨rfl, G2⟩
 have z3 := G2.size
 refine qv rfl (vv_not rfl)<|sd_done<|sw_cond rfl (fun c1 => ?_) (fun c1 => ?_)
 · replace hm := cnd_t c1 hm
   refine qs 1 rfl<|qm rfl<|qb ?_
   have X4 := (((Gr.refl w).trans G1).trans G2)
   cases hm
   refine ⟨_, _, rfl, res_1 rfl (rv_tmp rfl), ?_⟩
   exact ⟨rfl, X4⟩
 replace hm := cnd_f c1 hm
 refine qu<|qs 1 rfl<|qm rfl<|sd_done<|sw_ret ?_
 have X5 := (((Gr.refl w).trans G1).trans G2)
 cases hm
 refine ⟨_, _, rfl, res_1 rfl (rv_tmp rfl), ?_⟩
 exact ⟨rfl, X5⟩
theorem cipher_wordsOf_w {p0 r} (hm : cipher_wordsOf p0 = some r) {w : World} :
    Calls Tryz.prog 187 [kv p0].toArray w fun e w' => ∃ v, e = .returned v ∧ (v = .agg (Tcipher_pair.cs r).toArray ∧ Gr w w') := by
 unfold cipher_wordsOf at hm
 refine calls_of_sw 29 Tryz.func187 rfl rfl rfl<|qs 2 rfl<|qe rfl (ev_box (cs := kb p0) rfl rfl) ?_
 rintro _ w1 ⟨b1, rfl, hbw1, Bw1, G1⟩
 have z1 := G1.size
 have lt2 := Bw1.lt
 refine qe rfl (ev_alloc (cs := Tcipher_pair.cs (Tcipher_pair.mk 0#64 0#64)) zv_278 rfl) ?_
 rintro _ w2 ⟨b2, rfl, hbw2, Bw2, G2⟩
 have z3 := G2.size
 have lt4 := Bw2.lt
 refine qd 1 rfl<|qe rfl (ev_alloc (cs := Tcipher_pair.cs (Tcipher_pair.mk 0#64 0#64)) zv_278 rfl) ?_
 rintro _ w3 ⟨b3, rfl, hbw3, Bw3, G3⟩
 have z5 := G3.size
 have lt6 := Bw3.lt
 refine sd_done<|sw_seq<|qs 1 rfl<|qm rfl<|sd_done<|sw_block ?_
 have X7 := ((((Gr.refl w).trans G1).trans G2).trans G3)
 refine sw_loopD (α := Nat × Int × BitVec 64 × BitVec 64) (rg 4 24) (fun ⟨n1, a4, a5, a6⟩ => [(5, .int .i64 a4)]) (fun ⟨n1, a4, a5, a6⟩ wr => (fixN (cipher_wordsOf_L1 p0) n1 (a4, a5, a6) = some r) ∧ Bx wr b3 278 (Tcipher_pair.cs (Tcipher_pair.mk a5 a6)) ∧ Kz [(1, b3)] w3 wr) (fun ⟨n1, a4, a5, a6⟩ => n1) ⟨FUEL, 0, 0#64, 0#64⟩ ?_ ?_ ?_
 · exact sbq
 · exact ⟨hm, Bw3, Kz.refl _ _⟩
 clear hm; rintro ⟨n1, a4, a5, a6⟩ w4 ⟨hm, Fw4_0, K4⟩
 have z8 := K4.size
 have lt9 := Fw4_0.lt
 have hb := fix_succ hm; clear hm; obtain ⟨n1, rfl, hm⟩ := hb
 generalize hrec1 : fixN (cipher_wordsOf_L1 p0) n1 = rec1 at hm
 unfold cipher_wordsOf_L1 at hm
 try dsimp only at hm
 refine qs 1 rfl<|qv rfl (vv_lss (a := a4) (b := 8) rfl rfl)<|sd_done<|sw_seq<|cnF rfl (fun c1 => ?_) (fun c1 => ?_)
 · replace hm := iF c1 hm
   refine sw_exit<|then_x<|then_x<|block_x<|then_n<|qs 2 rfl ?_
   refine qv rfl (vv_loadW agg_278 rfl Fw4_0 rfl) ?_
   have B16 := ((Bw2.gr G3).kz K4)
   refine qe rfl (ev_stW agg_278 rfl rfl rfl B16 rfl rfl) ?_
   rintro _ w8 ⟨Bw8, M8⟩
   have z17 := M8.size
   refine sd_done<|sw_ret ?_
   have X18 := ((X7.kz K4).md M8)
   cases hm
   refine ⟨_, _, rfl, res_1 rfl (rv_cellW agg_278 rfl Bw8 rfl), ?_⟩
   exact ⟨rfl, X18⟩
 replace hm := iT c1 hm
 refine qu<|sw_seq<|sw_block<|qs 2 rfl<|qm rfl ?_
 refine qm rfl<|sd_done<|dw [([b3]),([])] [(18, [1]),(20, [1])] (.leaf [(0,10),(1,11),(2,10),(3,10),(4,10),(5,10),(6,10),(7,10),(8,10),(9,11),(10,10),(11,10),(12,10),(13,10),(14,10),(15,10),(16,10),(17,10),(18,0),(19,10),(20,0)]) ?_
 intro w5 G5 zw5
 refine sdz_leaf<|dh 0 rfl rfl (fun w hS => vv_fieldAddr fa_278_0 rfl) ?_
 have B10 := (Fw4_0.gr G5)
 refine dh 1 rfl rfl (fun w hS => vv_load1 (v := wv a5) one_24 rfl (Bx.kp B10 hS) rfl) ?_
 obtain ⟨nn7, hnn7, hm⟩ := bnd hm
 refine dh 0 rfl rfl (fun w hS => vv_shlU (c := a5) (b := (un 8#64)) rfl rfl hnn7)<|dm 0 rfl rfl ?_
 obtain ⟨y8, hy8, hm⟩ := bnd hm
 refine dh 0 rfl rfl (fun w hS => vv_ixK (i := a4) (p := p0) Tryz.underlying23 (one_5).siz rfl rfl hy8) ?_
 have B11 := ((((Bw1.gr G2).gr G3).kz K4).gr G5)
 refine dh 0 rfl rfl (fun w hS => vv_ldK (off := 0) (p := p0) (i := a4) one_5 rfl (Bx.kp B11 hS) rfl hy8 (by omega))<|dh 0 rfl rfl (fun w hS => vv_cvBU cv_5_24 rfl)<|dh 0 rfl rfl (fun w hS => vv_uor (a := a5 <<< nn7) (b := y8.setWidth 64) rfl rfl)<|dh 0 rfl rfl (fun w hS => vv_fieldAddr fa_278_1 rfl)<|dh 1 rfl rfl (fun w hS => vv_load1 (v := wv a6) one_24 rfl (Bx.kp B10 hS) rfl) ?_
 obtain ⟨nn9, hnn9, hm⟩ := bnd hm
 refine dh 0 rfl rfl (fun w hS => vv_shlU (c := a6) (b := (un 8#64)) rfl rfl hnn9)<|dm 0 rfl rfl<|dh 0 rfl rfl (fun w hS => vv_add (k := .i64) (a := 8) (b := a4) rfl rfl) ?_
 obtain ⟨y10, hy10, hm⟩ := bnd hm
 refine dh 0 rfl rfl (fun w hS => vv_ixK (i := w64 (8 + a4)) (p := p0) Tryz.underlying23 (one_5).siz rfl rfl hy10)<|dh 0 rfl rfl (fun w hS => vv_ldK (off := 0) (p := p0) (i := w64 (8 + a4)) one_5 rfl (Bx.kp B11 hS) rfl hy10 (by omega))<|dh 0 rfl rfl (fun w hS => vv_cvBU cv_5_24 rfl)<|dh 0 rfl rfl (fun w hS => vv_uor (a := a6 <<< nn9) (b := y10.setWidth 64) rfl rfl)<|dh 0 rfl rfl (fun w hS => vv_fieldAddr fa_278_0 rfl)<|qz [(1, b3)] rfl (ev_st1 (cs' := Tcipher_pair.cs (Tcipher_pair.mk ((a5 <<< nn7) ||| (y8.setWidth 64)) a6)) (one_24).siz rfl rfl rfl B10 rfl rfl) ⟨fun _ => tk0, nofun, trivial⟩ ?_
 rintro _ w6 ⟨Bw6, M6⟩
 have z12 := M6.size
 refine kM M6 ?_
 have S13 := ((Kp.refl ([b3]) w5).md M6)
 refine qh 0 rfl rfl S13 (fun w hS => vv_fieldAddr fa_278_1 rfl)<|qz [(1, b3)] rfl (ev_st1 (cs' := Tcipher_pair.cs (Tcipher_pair.mk ((a5 <<< nn7) ||| (y8.setWidth 64)) ((a6 <<< nn9) ||| (y10.setWidth 64)))) (one_24).siz rfl rfl rfl Bw6 rfl rfl) ⟨fun _ => tk0, nofun, trivial⟩ ?_
 rintro _ w7 ⟨Bw7, M7⟩
 have z14 := M7.size
 refine kM M7<|sd_nil<|block_n<|then_n<|qg 2 rfl<|qv rfl (vv_add (k := .i64) (a := a4) (b := 1) rfl rfl)<|qm rfl ?_
 refine sd_nil ?_
 have K_15 : Kz [(1, b3)] w3 w7 := (((K4.gr G5).md M6).md M7)
 subst hrec1
 exact ⟨rfl, ⟨n1, w64 (a4 + 1), (a5 <<< nn7) ||| (y8.setWidth 64), (a6 <<< nn9) ||| (y10.setWidth 64)⟩, sbq, ⟨hm, Bw7, K_15⟩, Nat.lt_succ_self _⟩
theorem cipher_Number_w {p0 p1 p2 r} (hm : cipher_Number p0 p1 p2 = some r) {w : World} :
    Calls Tryz.prog 222 [kv p0, wv p1, wv p2].toArray w fun e w' => ∃ v, e = .returned v ∧ (v = wv r ∧ Gr w w') := by
 unfold cipher_Number at hm
 refine calls_of_sw 16 Tryz.func222 rfl rfl rfl<|qs 2 rfl<|qe rfl (ev_box (cs := kb p0) rfl rfl) ?_
 rintro _ w1 ⟨b1, rfl, hbw1, Bw1, G1⟩
 have z1 := G1.size
 have lt2 := Bw1.lt
 refine qm rfl<|sd_done<|sw_seq<|qs 2 rfl<|qm rfl<|qv rfl (vv_eqlU (c := p2) (d := 0#64) rfl rfl) ?_
 refine sd_done<|sw_cond rfl (fun c1 => ?_) (fun c1 => ?_)
 · replace hm := iT c1 hm
   refine qs 1 rfl<|qm rfl<|qb ?_
   have X3 := ((Gr.refl w).trans G1)
   cases hm
   refine ⟨_, _, rfl, res_1 rfl (rv_tmp rfl), ?_⟩
   exact ⟨rfl, X3⟩
 replace hm := iF c1 hm
 refine qu<|qs 8 rfl<|qv rfl (vv_loadW agg_23 rfl Bw1 rfl)<|qm rfl<|qe rfl (eC en_90 rfl (derive_c p0 (un8 3#8) (un8_nn _) (un8_le _) p1 _)) ?_
 rintro _ w2 ⟨rfl, G2⟩
 have z4 := G2.size
 obtain ⟨x1, hx1, hm⟩ := bnd hm
 refine qe rfl (eC en_187 rfl (cipher_wordsOf_w hx1)) ?_
 rintro _ w3 ⟨rfl, G3⟩
 have z5 := G3.size
 refine qv rfl (vv_field1 (v := wv x1.x) f1_278_0 rfl rfl)<|qm rfl ?_
 obtain ⟨x2, hx2, hm⟩ := bnd hm
 refine qv rfl (vv_remU (c := x1.x) (d := p2) rfl rfl hx2)<|qm rfl<|sd_done<|sw_ret ?_
 have X6 := ((((Gr.refl w).trans G1).trans G2).trans G3)
 cases hm
 refine ⟨_, _, rfl, res_1 rfl (rv_tmp rfl), ?_⟩
 exact ⟨rfl, X6⟩
theorem poly_secret_w {p0 p1 r} (hm : poly_secret p0 p1 = some r) {w : World} :
    Calls Tryz.prog 213 [kv p0, .agg (TScheme.cs p1).toArray].toArray w fun e w' => ∃ v, e = .returned v ∧ (∃ ur0_s zr0_s gr0_s, v = ur0_s ∧ Own w' zr0_s gr0_s 24 1 ur0_s (r.map uwc) ∧ Hdn (zr0_s = 0 ∨ w.heap.size ≤ gr0_s) ∧ Gr w w') := by
 unfold poly_secret at hm
 refine calls_of_sw 31 Tryz.func213 rfl rfl rfl<|qs 3 rfl<|qe rfl (ev_box (cs := kb p0) rfl rfl) ?_
 rintro _ w1 ⟨b1, rfl, hbw1, Bw1, G1⟩
 have z1 := G1.size
 have lt2 := Bw1.lt
 refine qe rfl (ev_box (cs := TScheme.cs p1) rfl rfl) ?_
 rintro _ w2 ⟨b2, rfl, hbw2, Bw2, G2⟩
 have z3 := G2.size
 have lt4 := Bw2.lt
 refine qm rfl<|qd 4 rfl ?_
 have B5 := (Bw1.gr G2)
 refine qv rfl (vv_loadW agg_23 rfl B5 rfl)<|qe rfl (eC en_90 rfl (derive_c p0 (un8 40#8) (un8_nn _) (un8_le _) 0#64 _)) ?_
 rintro _ w3 ⟨rfl, G3⟩
 have z6 := G3.size
 refine qe rfl (ev_alloc (cs := kb k0) zv_23 rfl) ?_
 rintro _ w4 ⟨b4, rfl, hbw4, Bw4, G4⟩
 have z7 := G4.size
 have lt8 := Bw4.lt
 refine qe rfl (ev_stW agg_23 rfl rfl rfl Bw4 rfl rfl) ?_
 rintro _ w5 ⟨Bw5, M5⟩
 have z9 := M5.size
 refine qd 5 rfl<|qv rfl (vv_fieldAddr fa_28_2 rfl) ?_
 have B10 := (((Bw2.gr G3).gr G4).md M5)
 refine qv rfl (vv_load1 (v := .int .i64 p1.Degree) one_3 rfl B10 rfl)<|qv rfl (vv_add (k := .i64) (a := p1.Degree) (b := 1) rfl rfl) ?_
 obtain ⟨l1, hl1, hm⟩ := bnd hm
 refine qe rfl (ev_mkT (c := uwc) (a := 0#64) apt_309 zv_24 rfl ⟨rfl, rfl⟩ rfl hl1 (by decide)) ?_
 rintro vw6 w6 ⟨gw6, hbw6, Ow6, G6⟩
 have z11 := G6.size
 have lt12 := Ow6.lth
 refine qm rfl<|sd_done<|sw_seq<|qs 3 rfl<|qm rfl<|qv rfl (vv_lenT (l := l1) (c := uwc) Tryz.underlying309 rfl (Own.rd Ow6)) ?_
 refine qm rfl<|sd_done<|sw_block ?_
 have X13 := (((((((Gr.refl w).trans G1).trans G2).trans G3).trans G4).md M5).trans G6)
 refine sw_loopD (α := Nat × List (BitVec 64) × Int × Value × Nat × Nat) ([6, 7] ++ rg 16 14) (fun ⟨n1, a5, a7, vy6, zy6, gy6⟩ => [(6, vy6), (16, .int .i64 a7)]) (fun ⟨n1, a5, a7, vy6, zy6, gy6⟩ wr => (fixN (poly_secret_L1 p0 p1 l1) n1 (a5, a7) = some r) ∧ Own wr zy6 gy6 24 1 vy6 (a5.map uwc) ∧ Hdn (zy6 = 0 ∨ (gy6 = gw6 ∧ 1 ≠ 0) ∨ w6.heap.size ≤ gy6) ∧ Kz [(1, gw6)] w6 wr) (fun ⟨n1, a5, a7, vy6, zy6, gy6⟩ => n1) ⟨FUEL, l1, 0, vw6, 1, gw6⟩ ?_ ?_ ?_
 · exact sbq
 · exact ⟨hm, Ow6, ⟨tk0⟩, Kz.refl _ _⟩
 clear hm; rintro ⟨n1, a5, a7, vy6, zy6, gy6⟩ w7 ⟨hm, Fw7_0, Fw7_1, K7⟩
 have z14 := K7.size
 have lt15 := Fw7_0.lth
 have hb := fix_succ hm; clear hm; obtain ⟨n1, rfl, hm⟩ := hb
 generalize hrec1 : fixN (poly_secret_L1 p0 p1 l1) n1 = rec1 at hm
 unfold poly_secret_L1 at hm
 try dsimp only at hm
 refine qs 1 rfl<|qv rfl (vv_lss (a := a7) (b := (l1.length : Int)) rfl rfl)<|sd_done<|sw_seq<|cnF rfl (fun c1 => ?_) (fun c1 => ?_)
 · replace hm := iF c1 hm
   refine sw_exit<|then_x<|then_x<|block_x<|then_n<|qs 2 rfl ?_
   refine qm rfl<|qm rfl<|sd_done<|sw_ret ?_
   have X23 := (X13.kz K7 (tk1 ((.inr tk0) : 1 = 0 ∨ w.heap.size ≤ gw6)))
   cases hm
   refine ⟨_, _, rfl, res_1 rfl (rv_tmp rfl), ?_⟩
   exact ⟨vy6, zy6, gy6, rfl, Fw7_0, ⟨(pv_1 (A := (fun x => w.heap.size ≤ x)) Fw7_1 (.inr tk0))⟩, X23⟩
 replace hm := iT c1 hm
 refine qu<|sw_seq<|sw_block<|qs 2 rfl<|qm rfl ?_
 refine qm rfl<|sd_done<|qg 11 rfl<|qm rfl<|qm rfl ?_
 have B16 := ((Bw5.gr G6).kz K7 (tk1 ((.inr tk0) : 1 = 0 ∨ gw6 ≠ b4)))
 refine qv rfl (vv_loadW agg_23 rfl B16 rfl)<|qm rfl<|qv rfl (vv_cvIU cv_3_24 rfl)<|qv rfl (vv_fieldAddr fa_28_3 rfl)<|qv rfl (vv_fieldAddr fa_26_1 rfl) ?_
 have B17 := ((B10.gr G6).kz K7 (tk1 ((.inr tk0) : 1 = 0 ∨ gw6 ≠ b2)))
 refine qv rfl (vv_load1 (v := wv p1.Group.Q) one_24 rfl B17 rfl) ?_
 obtain ⟨x8, hx8, hm⟩ := bnd hm
 refine qe rfl (eC en_222 rfl (cipher_Number_w hx8)) ?_
 rintro _ w8 ⟨rfl, G8⟩
 have z18 := G8.size
 obtain ⟨y9, hy9, hm⟩ := bnd hm
 have B19 := (Fw7_0.gr G8)
 refine qv rfl (vv_ixT (i := a7) Tryz.underlying309 (one_24).siz rfl (Own.rd B19) rfl hy9) ?_
 have zo20 := Own.z1 B19 hy9
 refine qe rfl (ev_stEl (i := a7) (q := 0) (a' := x8) (vs := [wv x8]) (c := uwc) (one_24).siz rfl rfl rfl rfl rfl B19 hy9 (by first | rfl | omega) rfl rfl ⟨rfl, rfl⟩) ?_
 rintro _ w9 ⟨Ow9, M9⟩
 have z21 := M9.size
 refine sd_nil<|block_n<|then_n<|qg 2 rfl<|qv rfl (vv_add (k := .i64) (a := a7) (b := 1) rfl rfl)<|qm rfl<|sd_nil ?_
 have K_22 : Kz [(1, gw6)] w6 w9 := ((K7.gr G8).md M9 (tk1 (pv_1 (A := (fun x => (x = gw6 ∧ 1 ≠ 0) ∨ w6.heap.size ≤ x)) Fw7_1 tk0)))
 subst hrec1
 exact ⟨rfl, ⟨n1, a5.set a7.toNat x8, w64 (a7 + 1), vy6, zy6, gy6⟩, sbq, ⟨hm, Ow9, ⟨(pv_1 (A := (fun x => (x = gw6 ∧ 1 ≠ 0) ∨ w6.heap.size ≤ x)) Fw7_1 tk0)⟩, K_22⟩, Nat.lt_succ_self _⟩
theorem number_modulus_w {p0 r} (hm : number_modulus p0 = some r) {w : World} :
    Calls Tryz.prog 360 [wv p0].toArray w fun e w' => ∃ v, e = .returned v ∧ (v = .bool r ∧ Gr w w') := by
 unfold number_modulus at hm
 refine calls_of_sw 9 Tryz.func360 rfl rfl rfl<|qs 1 rfl<|qm rfl<|qd 7 rfl ?_
 refine qm rfl<|qv rfl (vv_geqU (c := p0) (d := 1#64) rfl rfl)<|qp rfl (vv_move rfl) (fun c1 => ?_) (fun c1 => ?_)
 · replace hm := iT c1 hm
   refine qm rfl<|qv rfl (vv_lssU (c := p0) (d := 4294967296#64) rfl rfl)<|qm rfl<|qm rfl<|sd_done<|sw_ret ?_
   cases hm
   refine ⟨_, _, rfl, res_1 rfl (rv_tmp rfl), ?_⟩
   exact ⟨rfl, (Gr.refl w)⟩
 replace hm := iF c1 hm
 refine qk rfl<|qk rfl<|qm rfl<|qm rfl<|sd_done<|sw_ret ?_
 cases hm
 refine ⟨_, _, rfl, res_1 rfl (rv_tmp rfl), ?_⟩
 exact ⟨rfl, (Gr.refl w)⟩
theorem number_PowMod_w {p0 p1 p2 r} (hm : number_PowMod p0 p1 p2 = some r) {w : World} :
    Calls Tryz.prog 319 [wv p0, wv p1, wv p2].toArray w fun e w' => ∃ v, e = .returned v ∧ (v = .tuple [wv r.1, .int .i64 r.2].toArray ∧ Gr w w') := by
 unfold number_PowMod at hm
 refine calls_of_sw 15 Tryz.func319 rfl rfl rfl<|qs 2 rfl<|qm rfl<|qm rfl<|sd_done<|sw_seq ?_
 refine qs 3 rfl<|qm rfl ?_
 obtain ⟨x1, hx1, hm⟩ := bnd hm
 refine qe rfl (eC en_360 rfl (number_modulus_w hx1)) ?_
 rintro _ w1 ⟨rfl, G1⟩
 have z1 := G1.size
 refine qv rfl (vv_not rfl)<|sd_done<|sw_cond rfl (fun c1 => ?_) (fun c1 => ?_)
 · replace hm := cnd_t c1 hm
   refine qs 2 rfl<|qm rfl<|qm rfl<|sd_done<|sw_ret<|then_r ?_
   have X2 := ((Gr.refl w).trans G1)
   cases hm
   refine ⟨_, _, rfl, res_2 rfl (rv_tmp rfl) (rv_tmp rfl), ?_⟩
   exact ⟨rfl, X2⟩
 replace hm := cnd_f c1 hm
 refine qu<|qs 6 rfl<|qm rfl<|qm rfl<|qm rfl ?_
 obtain ⟨x2, hx2, hm⟩ := bnd hm
 refine qe rfl (eC en_358 rfl (number_power_w hx2)) ?_
 rintro _ w2 ⟨rfl, G2⟩
 have z3 := G2.size
 refine qm rfl<|qm rfl<|sd_done<|sw_ret ?_
 have X4 := (((Gr.refl w).trans G1).trans G2)
 cases hm
 refine ⟨_, _, rfl, res_2 rfl (rv_tmp rfl) (rv_tmp rfl), ?_⟩
 exact ⟨rfl, X4⟩
theorem poly_power_w {p0 p1 p2 r} (hm : poly_power p0 p1 p2 = some r) {w : World} :
    Calls Tryz.prog 216 [.agg (TScheme.cs p0).toArray, wv p1, wv p2].toArray w fun e w' => ∃ v, e = .returned v ∧ (v = wv r ∧ Gr w w') := by
 unfold poly_power at hm
 refine calls_of_sw 19 Tryz.func216 rfl rfl rfl<|qs 2 rfl<|qe rfl (ev_box (cs := TScheme.cs p0) rfl rfl) ?_
 rintro _ w1 ⟨b1, rfl, hbw1, Bw1, G1⟩
 have z1 := G1.size
 have lt2 := Bw1.lt
 refine qm rfl<|qd 11 rfl<|qm rfl<|qm rfl<|qv rfl (vv_fieldAddr fa_28_3 rfl) ?_
 refine qv rfl (vv_fieldAddr fa_26_0 rfl)<|qv rfl (vv_load1 (v := wv p0.Group.P) one_24 rfl Bw1 rfl) ?_
 obtain ⟨x1, hx1, hm⟩ := bnd hm
 refine qe rfl (eC en_319 rfl (number_PowMod_w hx1)) ?_
 rintro _ w2 ⟨rfl, G2⟩
 have z3 := G2.size
 refine qm rfl<|qm rfl<|qm rfl<|qm rfl<|qm rfl<|sd_done<|sw_seq ?_
 refine qg 2 rfl<|qm rfl<|qm rfl<|sd_done<|sw_ret ?_
 have X4 := (((Gr.refl w).trans G1).trans G2)
 cases hm
 refine ⟨_, _, rfl, res_1 rfl (rv_tmp rfl), ?_⟩
 exact ⟨rfl, X4⟩
theorem slices_Backward_dc0b_w {p0 vp0 zp0 gp0 op0 r} (hm : slices_Backward_dc0b p0 = some r) {w : World} (hp0 : Rd w zp0 gp0 op0 1 vp0 (p0.map uwc)) :
    Calls Tryz.prog 317 [vp0].toArray w fun e w' => ∃ v, e = .returned v ∧ (∃ bc0 uc0_s zc0_s gc0_s oc0_s, v = .func (.func 359) #[] [.pointer (some ⟨bc0, 0, none⟩)].toArray ∧ Bx w' bc0 309 ([uc0_s]) ∧ (w.heap.size ≤ bc0) ∧ Rd w' zc0_s gc0_s oc0_s 1 uc0_s (r.map uwc) ∧ Hdn (zc0_s = 0 ∨ (gc0_s = gp0 ∧ zp0 ≠ 0) ∨ w.heap.size ≤ gc0_s) ∧ Gr w w') := by
 have lt1 := hp0.lth
 unfold slices_Backward_dc0b at hm
 refine calls_of_sw 4 Tryz.func317 rfl rfl rfl<|qs 2 rfl<|qe rfl (ev_box (cs := [vp0]) rfl (cells1 (Rd.oneB hp0))) ?_
 rintro _ w1 ⟨b1, rfl, hbw1, Bw1, G1⟩
 have z2 := G1.size
 have lt3 := Bw1.lt
 refine qm rfl<|qd 2 rfl<|qv rfl (vv_makeFunc rfl rfl)<|qm rfl<|sd_done ?_
 refine sw_ret ?_
 have B4 := (hp0.gr G1)
 have X5 := ((Gr.refl w).trans G1)
 cases hm
 refine ⟨_, _, rfl, res_1 rfl (rv_tmp rfl), ?_⟩
 exact ⟨b1, vp0, zp0, gp0, op0, rfl, Bw1, by omega, B4, ⟨tk0⟩, X5⟩
theorem slices_Backward_1_20b1_it (p1 : List (BitVec 64)) (bp1 : Nat) (vp1_0 : Value) (zp1_0 gp1_0 op1_0 : Nat) (xs : List (Int × BitVec 64)) (hm : slices_Backward_1_20b1 p1 = some xs) (w0 : World) (hbp1 : Bx w0 bp1 309 ([vp1_0])) (hp1_0 : Rd w0 zp1_0 gp1_0 op1_0 1 vp1_0 (p1.map uwc)) :
    IT Tryz.prog 359 [.pointer (some ⟨bp1, 0, none⟩)] (xs.map (fun (x : Int × BitVec 64) => ([.int .i64 x.1, wv x.2] : List Value))) (zf zp1_0 gp1_0 ++ [bp1]) w0 := by
 intro l J Jx w fp hG hJ hJx hcap h0 hY
 have c1 := Rd.gr hp1_0 hG
 have lt2 := c1.lth
 have nb3 : zp1_0 = 0 ∨ gp1_0 ∉ fp := by by_cases hz : zp1_0 = 0; exact .inl hz; exact .inr (hcap _ (by simp [mem_zf, hz]))
 have c4 := Bx.gr hbp1 hG
 have lt5 := c4.lt
 have nb6 : bp1 ∉ fp := hcap _ (by simp)
 have hd := dr_0 xs
 unfold slices_Backward_1_20b1 at hm
 refine calls_of_sw 19 Tryz.func359 rfl rfl rfl<|qs 4 rfl<|qv rfl (vv_load1 (v := vp1_0) one_309 rfl c4 rfl)<|qv rfl (vv_lenT (l := p1) (c := uwc) Tryz.underlying309 rfl c1)<|qv rfl (vv_sub (k := .i64) (a := (p1.length : Int)) (b := 1) rfl rfl)<|qm rfl ?_
 refine sd_done<|sw_block<|sw_loopD (α := Nat × Int × Nat × List Nat × List (Int × BitVec 64)) ([3] ++ rg 7 12) (fun ⟨n1, a2, kk, fpl, rl⟩ => [(3, .int .i64 a2)]) (fun ⟨n1, a2, kk, fpl, rl⟩ wr => (fixN (slices_Backward_1_20b1_L1 p1) n1 a2 = some rl) ∧ Dr xs kk rl ∧ J kk fpl wr ∧ (∀ c ∈ fpl, c ∈ fp ∨ w.heap.size ≤ c) ∧ Kp fp w wr ∧ Rd wr zp1_0 gp1_0 op1_0 1 vp1_0 (p1.map uwc) ∧ Bx wr bp1 309 ([vp1_0]) ∧ (zp1_0 = 0 ∨ gp1_0 ∉ fpl) ∧ bp1 ∉ fpl ∧ True) (fun ⟨n1, a2, kk, fpl, rl⟩ => n1) ⟨FUEL, w64 ((p1.length : Int) - 1), 0, fp, xs⟩ ?_ ?_ ?_
 · exact sbq
 · exact ⟨hm, hd, h0, (fun c hc => Or.inl hc), (Kp.refl fp w), c1, c4, nb3, nb6, trivial⟩
 clear hm; rintro ⟨n1, a2, kk1, fpl1, rl1⟩ w1 ⟨hm, dl1, JLw1, sl1, KLw1, Sw1_0, Sw1_1, Nw1_0, Nw1_1, -⟩
 have z7 := KLw1.size
 have lt8 := Sw1_0.lth
 have lt9 := Sw1_1.lt
 have hb := fix_succ hm; clear hm; obtain ⟨n1, rfl, hm⟩ := hb
 generalize hrec1 : fixN (slices_Backward_1_20b1_L1 p1) n1 = rec1 at hm
 unfold slices_Backward_1_20b1_L1 at hm
 try dsimp only at hm
 refine sw_seq<|qs 2 rfl<|qm rfl<|qv rfl (vv_geq (a := a2) (b := 0) rfl rfl)<|sd_done<|cnF rfl (fun c1 => ?_) (fun c1 => ?_)
 · replace hm := iF c1 hm
   refine sw_exit<|then_x<|then_x<|block_x ?_
   have he := Option.some.inj hm
   have hl := Dr.last (c := (fun (x : Int × BitVec 64) => ([.int .i64 x.1, wv x.2] : List Value))) dl1 he.symm
   refine ⟨_, _, rfl, res_none rfl, KLw1, .inl ⟨_, sl1, ?_⟩⟩
   rw [← hl]; exact JLw1
 replace hm := iT c1 hm
 refine qu<|sw_seq<|sw_block<|qs 8 rfl<|qm rfl ?_
 refine qm rfl<|qv rfl (vv_load1 (v := vp1_0) one_309 rfl Sw1_1 rfl)<|qm rfl ?_
 obtain ⟨y3, hy3, hm⟩ := bnd hm
 refine qv rfl (vv_ixT (i := a2) Tryz.underlying309 (one_24).siz rfl Sw1_0 rfl hy3)<|qv rfl (vv_el1T (q := 0) (u := wv y3) one_24 rfl Sw1_0 hy3 (by first | rfl | omega) rfl) ?_
 obtain ⟨rr10, hm, he10⟩ := yl_some hm
 have hx10 := Dr.at dl1 he10
 have hd10 := Dr.next dl1 he10
 refine qe rfl (ev_yield rfl rfl (hY _ _ _ _ (getm hx10) JLw1 KLw1 sl1)) ?_
 rintro _ w2 ⟨bb, rfl, KF10, fp10, hg10, hJb⟩
 have z11 := KF10.size
 have sub10 : ∀ c ∈ fp10, c ∈ fp ∨ w.heap.size ≤ c := sub_grow sl1 hg10 (by omega)
 have nb12 := notin_growz hg10 Nw1_0 (by have := lt8.o; omega)
 have nb13 := notin_grow hg10 Nw1_1 (by omega)
 cases bb
 · have Jy10 : Jx (kk1 + 1) fp10 w2 := hJb
   refine qv rfl (vv_not rfl)<|sd_done<|sw_condT rfl<|sw_ret<|block_r<|then_r<|then_r ?_
   refine block_r ?_
   have KI14 : Kp fp w w2 := (KLw1.trans KF10 sl1)
   exact ⟨_, _, rfl, res_none rfl, KI14, .inr ⟨_, _, sub10, (by rw [List.length_map]; exact (List.getElem?_eq_some_iff.1 hx10).1), Jy10⟩⟩
 have Jy10 : J (kk1 + 1) fp10 w2 := hJb
 refine qv rfl (vv_not rfl)<|sd_done<|sw_condF rfl<|sw_skip<|block_n<|then_n<|qg 3 rfl ?_
 refine qm rfl<|qv rfl (vv_sub (k := .i64) (a := a2) (b := 1) rfl rfl)<|qm rfl<|sd_nil ?_
 have KI15 : Kp fp w w2 := (KLw1.trans KF10 sl1)
 have B16 := (Rd.kp Sw1_0 KF10 Nw1_0)
 have B17 := (Bx.kp Sw1_1 KF10 Nw1_1)
 subst hrec1
 exact ⟨rfl, ⟨n1, w64 (a2 - 1), (kk1 + 1), fp10, rr10⟩, sbq, ⟨hm, hd10, Jy10, sub10, KI15, B16, B17, nb12, nb13, trivial⟩, Nat.lt_succ_self _⟩
theorem poly_field_mul_w {p0 p1 vp1 zp1 gp1 op1 r} (hm : poly_field_mul p0 p1 = some r) {w : World} (hp1 : Rd w zp1 gp1 op1 1 vp1 (p1.map uwc)) :
    Calls Tryz.prog 218 [wv p0, vp1].toArray w fun e w' => ∃ v, e = .returned v ∧ (v = wv r ∧ Gr w w') := by
 have lt1 := hp1.lth
 unfold poly_field_mul at hm
 refine calls_of_sw 21 Tryz.func218 rfl rfl rfl<|qs 1 rfl<|qm rfl<|qd 1 rfl ?_
 refine qm rfl<|sd_done<|sw_seq<|qs 3 rfl<|qm rfl<|qv rfl (vv_lenT (l := p1) (c := uwc) Tryz.underlying308 rfl hp1) ?_
 refine qm rfl<|sd_done<|sw_block<|sw_loopD (α := Nat × BitVec 64 × Int) ([5, 7] ++ rg 10 10) (fun ⟨n1, a3, a4⟩ => [(5, wv a3), (10, .int .i64 a4)]) (fun ⟨n1, a3, a4⟩ wr => (fixN (poly_field_mul_L1 p0 p1) n1 (a3, a4) = some r) ∧ Kz [] w wr) (fun ⟨n1, a3, a4⟩ => n1) ⟨FUEL, 1#64, 0⟩ ?_ ?_ ?_
 · exact sbq
 · exact ⟨hm, Kz.refl _ _⟩
 clear hm; rintro ⟨n1, a3, a4⟩ w1 ⟨hm, K1⟩
 have z2 := K1.size
 have hb := fix_succ hm; clear hm; obtain ⟨n1, rfl, hm⟩ := hb
 generalize hrec1 : fixN (poly_field_mul_L1 p0 p1) n1 = rec1 at hm
 unfold poly_field_mul_L1 at hm
 try dsimp only at hm
 refine qs 1 rfl<|qv rfl (vv_lss (a := a4) (b := (p1.length : Int)) rfl rfl)<|sd_done<|sw_seq<|cnF rfl (fun c1 => ?_) (fun c1 => ?_)
 · replace hm := iF c1 hm
   refine sw_exit<|then_x<|then_x<|block_x<|then_n<|qs 2 rfl ?_
   refine qm rfl<|qm rfl<|sd_done<|sw_ret ?_
   have X5 := ((Gr.refl w).kz K1)
   cases hm
   refine ⟨_, _, rfl, res_1 rfl (rv_tmp rfl), ?_⟩
   exact ⟨rfl, X5⟩
 replace hm := iT c1 hm
 refine qu<|sw_seq<|sw_block<|qs 3 rfl ?_
 obtain ⟨y5, hy5, hm⟩ := bnd hm
 have B3 := (hp1.kz K1)
 refine qv rfl (vv_ixT (i := a4) Tryz.underlying308 (one_24).siz rfl B3 rfl hy5)<|qv rfl (vv_el1T (q := 0) (u := wv y5) one_24 rfl B3 hy5 (by first | rfl | omega) rfl)<|qm rfl<|sd_done<|qg 6 rfl<|qm rfl<|qm rfl ?_
 refine qv rfl (vv_umul (a := a3) (b := y5) rfl rfl)<|qm rfl ?_
 obtain ⟨x6, hx6, hm⟩ := bnd hm
 refine qv rfl (vv_remU (c := a3 * y5) (d := p0) rfl rfl hx6)<|qm rfl<|sd_nil<|block_n<|then_n<|qg 2 rfl<|qv rfl (vv_add (k := .i64) (a := a4) (b := 1) rfl rfl) ?_
 refine qm rfl<|sd_nil ?_
 have K_4 : Kz [] w w1 := K1
 subst hrec1
 exact ⟨rfl, ⟨n1, x6, w64 (a4 + 1)⟩, sbq, ⟨hm, K_4⟩, Nat.lt_succ_self _⟩
theorem poly_polynomial_at_w {p0 p1 p2 vp0 zp0 gp0 op0 r} (hm : poly_polynomial_at p0 p1 p2 = some r) {w : World} (hp0 : Rd w zp0 gp0 op0 1 vp0 (p0.map uwc)) :
    Calls Tryz.prog 214 [vp0, wv p1, wv p2].toArray w fun e w' => ∃ v, e = .returned v ∧ (v = wv r ∧ Gr w w') := by
 have lt1 := hp0.lth
 unfold poly_polynomial_at at hm
 refine calls_of_sw 24 Tryz.func214 rfl rfl rfl<|qs 3 rfl<|qe rfl (ev_box (cs := [wv p1]) rfl rfl) ?_
 rintro _ w1 ⟨b1, rfl, hbw1, Bw1, G1⟩
 have z2 := G1.size
 have lt3 := Bw1.lt
 refine qe rfl (ev_box (cs := [wv p2]) rfl rfl) ?_
 rintro _ w2 ⟨b2, rfl, hbw2, Bw2, G2⟩
 have z4 := G2.size
 have lt5 := Bw2.lt
 refine qm rfl<|qd 2 rfl<|qe rfl (ev_alloc (cs := [wv 0#64]) zv_24 rfl) ?_
 rintro _ w3 ⟨b3, rfl, hbw3, Bw3, G3⟩
 have z6 := G3.size
 have lt7 := Bw3.lt
 refine qe rfl (ev_st1 (cs' := [wv 0#64]) (one_24).siz rfl rfl rfl Bw3 rfl rfl) ?_
 rintro _ w4 ⟨Bw4, M4⟩
 have z8 := M4.size
 refine sd_done<|sw_seq<|qs 2 rfl<|qm rfl ?_
 have B9 := ((((hp0.gr G1).gr G2).gr G3).md M4 (pb_lt lt1))
 obtain ⟨x1, hx1, hm⟩ := bnd hm
 refine qe rfl (eC en_317 rfl (slices_Backward_dc0b_w hx1 B9)) ?_
 rintro _ w5 ⟨k5_c0_0, u5_c00_s, z5_c00_s, g5_c00_s, o5_c00_s, rfl, O5_c0_0, f5_c0_0, O5_c00_s, f5_c00_s, G5⟩
 have z10 := G5.size
 have lt11 := O5_c00_s.lth
 have lt12 := O5_c0_0.lt
 refine sd_done<|sw_block ?_
 obtain ⟨l2, hl2, hm⟩ := bnd hm
 have X13 := ((((((Gr.refl w).trans G1).trans G2).trans G3).md M4).trans G5)
 have B14 := (B9.gr G5)
 have B15 := ((((Bw1.gr G2).gr G3).md M4).gr G5)
 have B16 := (((Bw2.gr G3).md M4).gr G5)
 have B17 := (Bw4.gr G5)
 refine sw_rangeFunc (gf := 359) rfl en_359 (slices_Backward_1_20b1_it x1 _ _ _ _ _ _ hl2 _ O5_c0_0 O5_c00_s) (by intro x hx; obtain ⟨a, _, rfl⟩ := List.mem_map.1 hx; rfl) rfl _ (fun _ _ _ _ => False) ([b3]) (stb_mk (α := BitVec 64) (fun a4 rk => itL (poly_polynomial_at_R1 p1 p2) poly_polynomial_at_D1 (List.drop rk l2) a4 = some r) (fun a4 => ([b3])) (fun a4 W => Bx W b3 24 ([wv a4]) ∧ True) (by rintro a4 W ⟨F0, _⟩ b hb; have q0 := F0.lt; replace hb : b ∈ ([b3]) := hb; simp only [List.mem_cons, List.mem_append, mem_zf, List.not_mem_nil, or_false, false_or, not_or, ne_eq, List.nil_append, List.cons_append, true_and, and_true, false_and, and_false, not_true_eq_false, not_false_eq_true, or_true, true_or] at hb; omega) (by rintro a4 W W' ⟨F0, _⟩ E hs; replace hs : ∀ b ∈ ([b3]), W'.heap[b]? = W.heap[b]? := hs; exact ⟨(hs _ (by simp)).trans F0, trivial⟩)) (fun _ => stb_false) (by intro b hb; have := (pb_1 (b := b3) f5_c00_s (pb_lt lt1)); have := lt11.o; simp only [List.mem_cons, List.mem_append, mem_zf, List.not_mem_nil, or_false, false_or, not_or, ne_eq, List.nil_append, List.cons_append, true_and, and_true, false_and, and_false, not_true_eq_false, not_false_eq_true, or_true, true_or] at hb ⊢; omega) ⟨0#64, hm, rfl, B17, trivial⟩ ?_ ?_ ?_
 · rintro l rk x fp w6 hl hx _ K6 hF hln hlt
   clear hm
   obtain ⟨⟨e5, e6⟩, hxe, rfl⟩ := map_some hx
   have Zw6 : Kz [(1, b3)] w5 w6 := kz_of_kp K6 (by intro k hk; simp only [Nin, and_true, List.mem_cons, List.mem_append, mem_zf, List.not_mem_nil, or_false, false_or, not_or, ne_eq, List.nil_append, List.cons_append, true_and, and_true, false_and, and_false, not_true_eq_false, not_false_eq_true, or_true, true_or] at hk ⊢; omega)
   have z18 := K6.size
   refine qg 1 rfl<|qm rfl<|sd_nil<|⟨rfl, (Gr.refl _), ?_⟩
   rintro w7 M7 ⟨a4, hm, rfl, Fw7_0, -⟩
   have z19 := M7.size
   have lt20 := Fw7_0.lt
   replace hm := itL_at hm hxe
   generalize hnx1 : itL (poly_polynomial_at_R1 p1 p2) poly_polynomial_at_D1 (List.drop (rk + 1) l2) = nx1 at hm
   unfold poly_polynomial_at_R1 at hm
   try dsimp only at hm
   refine sw_block<|dw [([b3]),([])] [(9, [1])] (.leaf [(0,10),(1,11),(2,10),(5,10),(7,10),(3,0),(4,0),(6,10),(8,10),(9,0)]) ?_
   intro w8 G8 zw8
   refine sdz_leaf ?_
   have B21 := (((B15.kz Zw6).md M7).gr G8)
   refine dh 0 rfl rfl (fun w hS => vv_load1 (v := wv p1) one_312 rfl (Bx.kp B21 hS) rfl) ?_
   have B22 := (Fw7_0.gr G8)
   refine dh 1 rfl rfl (fun w hS => vv_load1 (v := wv a4) one_24 rfl (Bx.kp B22 hS) rfl) ?_
   have B23 := (((B16.kz Zw6).md M7).gr G8)
   refine dh 0 rfl rfl (fun w hS => vv_load1 (v := wv p2) one_24 rfl (Bx.kp B23 hS) rfl)<|dm 0 rfl rfl<|dh 0 rfl rfl (fun w hS => vv_load1 (v := wv p1) one_312 rfl (Bx.kp B21 hS) rfl)<|qz [] rfl (ev_litT [a4, p2] uwc bsl_308_2 rfl rfl (ws_of rfl) rfl rfl rfl) ⟨fun _ => tk0, fun _ => tk0, trivial⟩ ?_
   rintro vw9 w9 ⟨gw9, hbw9, Ow9, G9⟩
   have z24 := G9.size
   have lt25 := Ow9.lth
   refine kG G9 ?_
   obtain ⟨x7, hx7, hm⟩ := bnd hm
   refine qz [] rfl (eC en_218 rfl (poly_field_mul_w hx7 (Own.rd Ow9))) ⟨fun _ => tk0, fun _ => tk0, trivial⟩ ?_
   rintro _ w10 ⟨rfl, G10⟩
   have z26 := G10.size
   refine kG G10 ?_
   have S27 := (((Kp.refl ([b3]) w8).gr G9).gr G10)
   refine qh 0 rfl rfl S27 (fun w hS => vv_uadd (a := x7) (b := e6) rfl rfl) ?_
   obtain ⟨x8, hx8, hm⟩ := bnd hm
   refine qh 0 rfl rfl S27 (fun w hS => vv_remU (c := x7 + e6) (d := p1) rfl rfl hx8) ?_
   have B28 := ((B22.gr G9).gr G10)
   refine qz [(1, b3)] rfl (ev_st1 (cs' := [wv x8]) (one_24).siz rfl rfl rfl B28 rfl rfl) ⟨fun _ => tk0, nofun, trivial⟩ ?_
   rintro _ w11 ⟨Bw11, M11⟩
   have z29 := M11.size
   refine kM M11<|sd_nil<|block_n ?_
   have K_30 : Kz [(1, b3)] w7 w11 := ((((Kz.gr (Kz.refl _ _) G8).gr G9).gr G10).md M11)
   have Kq30 : Kp ([b3]) w7 w11 := kp_of_kz K_30 (by intro k hk; simp only [Nin, and_true, List.mem_cons, List.mem_append, mem_zf, List.not_mem_nil, or_false, false_or, not_or, ne_eq, List.nil_append, List.cons_append, true_and, and_true, false_and, and_false, not_true_eq_false, not_false_eq_true, or_true, true_or] at hk ⊢; omega)
   subst hnx1
   exact ⟨Kq30, ([b3]), (by intro c hc; simp only [List.mem_cons, List.mem_append, mem_zf, List.not_mem_nil, or_false, false_or, not_or, ne_eq, List.nil_append, List.cons_append, true_and, and_true, false_and, and_false, not_true_eq_false, not_false_eq_true, or_true, true_or] at hc ⊢; omega), ⟨x8, hm, rfl, Bw11, trivial⟩⟩
 · clear hm; rintro Dw12 fp w12 hDw12 Dfw12 nw12 ⟨a4, hm, rfl, Fw12_0, -⟩ K12
   replace hm := itL_end hm
   have Zw12 : Kz [(1, b3)] w5 w12 := kz_of_kp K12 (by intro k hk; simp only [Nin, and_true, List.mem_cons, List.mem_append, mem_zf, List.not_mem_nil, or_false, false_or, not_or, ne_eq, List.nil_append, List.cons_append, true_and, and_true, false_and, and_false, not_true_eq_false, not_false_eq_true, or_true, true_or] at hk ⊢; omega)
   have z31 := K12.size
   have lt32 := Df.lt (w := w12) Dfw12
   simp only [List.mem_cons, List.mem_append, mem_zf, List.not_mem_nil, or_false, false_or, not_or, ne_eq, List.nil_append, List.cons_append, true_and, and_true, false_and, and_false, not_true_eq_false, not_false_eq_true, or_true, true_or, not_and] at nw12
   have lt33 := Fw12_0.lt
   unfold poly_polynomial_at_D1 at hm
   try dsimp only at hm
   refine block_n<|then_n<|qs 2 rfl<|qv rfl (vv_load1 (v := wv a4) one_24 rfl Fw12_0 rfl)<|qm rfl<|sd_done ?_
   refine sw_ret ?_
   have DL34 := Dfw12
   have L34 := Md.put (w := w12) Dw12 (.deferred none)
   have zL34 := L34.size
   have X35 : Gr w (w12.putObj Dw12 (.deferred none)) := ((X13.kz Zw12).md L34)
   cases hm
   refine ⟨_, _, ⟨Dw12, rfl, DL34, rfl⟩, res_1 rfl (rv_tmp rfl), ?_⟩
   exact ⟨rfl, X35⟩
 rintro _ _ _ _ _ _ _ _ _ h _
 exact h.elim
theorem poly_Seal_1_w {p0 p1 p2 p3 p4 bp1 bp2 vp2_0 zp2_0 gp2_0 op2_0 vp2_2 zp2_2 gp2_2 op2_2 bp3 vp3_0 zp3_0 gp3_0 op3_0 bp4 r} (hm : poly_Seal_1 p0 p1 p2 p3 p4 = some r) {w : World} (hbp1 : Bx w bp1 28 (TScheme.cs p1)) (hbp2 : Bx w bp2 36 (THeader.cs p2 vp2_0 vp2_2)) (hp2_0 : Rd w zp2_0 gp2_0 op2_0 18 vp2_0 (p2.Items.map TItem.cs)) (hp2_2 : Rd w zp2_2 gp2_2 op2_2 2 vp2_2 (p2.Points.map TPoint.cs)) (hbp3 : Bx w bp3 309 ([vp3_0])) (hp3_0 : Rd w zp3_0 gp3_0 op3_0 1 vp3_0 (p3.map uwc)) (hbp4 : Bx w bp4 312 ([wv p4])) :
    Calls Tryz.prog 223 [wv p0, .pointer (some ⟨bp1, 0, none⟩), .pointer (some ⟨bp2, 0, none⟩), .pointer (some ⟨bp3, 0, none⟩), .pointer (some ⟨bp4, 0, none⟩)].toArray w fun e w' => ∃ v, e = .returned v ∧ (v = wv r ∧ Gr w w') := by
 have lt1 := hbp1.lt
 have lt2 := hp2_0.lth
 have lt3 := hp2_2.lth
 have lt4 := hbp2.lt
 have lt5 := hp3_0.lth
 have lt6 := hbp3.lt
 have lt7 := hbp4.lt
 unfold poly_Seal_1 at hm
 refine calls_of_sw 15 Tryz.func223 rfl rfl rfl<|qs 1 rfl<|qm rfl<|sd_done<|sw_seq<|dw [([])] [] (.leaf [(0,10),(1,10),(2,10),(3,10),(4,10),(5,10),(6,0),(7,0),(8,10)]) ?_
 intro w1 G1 zw1
 refine sdz_leaf ?_
 have B8 := (hbp1.gr G1)
 refine dh 0 rfl rfl (fun w hS => vv_loadW agg_28 rfl (Bx.kp B8 hS) rfl)<|dh 0 rfl rfl (fun w hS => vv_fieldAddr fa_36_1 rfl) ?_
 have B9 := (hbp2.gr G1)
 refine dh 0 rfl rfl (fun w hS => vv_load1 (v := wv p2.Base) one_24 rfl (Bx.kp B9 hS) rfl) ?_
 have B10 := (hbp3.gr G1)
 refine dh 0 rfl rfl (fun w hS => vv_load1 (v := vp3_0) one_309 rfl (Bx.kp B10 hS) rfl) ?_
 have B11 := (hbp4.gr G1)
 refine dh 0 rfl rfl (fun w hS => vv_load1 (v := wv p4) one_312 rfl (Bx.kp B11 hS) rfl)<|dm 0 rfl rfl ?_
 have B12 := (hp3_0.gr G1)
 obtain ⟨x1, hx1, hm⟩ := bnd hm
 refine qz [] rfl (eC en_214 rfl (poly_polynomial_at_w hx1 B12)) ⟨fun _ => tk0, trivial⟩ ?_
 rintro _ w2 ⟨rfl, G2⟩
 have z13 := G2.size
 refine kG G2 ?_
 obtain ⟨x2, hx2, hm⟩ := bnd hm
 refine qz [] rfl (eC en_216 rfl (poly_power_w hx2)) ⟨fun _ => tk0, trivial⟩ ?_
 rintro _ w3 ⟨rfl, G3⟩
 have z14 := G3.size
 refine kG G3 ?_
 have S15 := (((Kp.refl ([]) w1).gr G2).gr G3)
 refine dn 0 rfl rfl S15<|sd_done<|sw_ret ?_
 have X16 := ((((Gr.refl w).trans G1).trans G2).trans G3)
 cases hm
 refine ⟨_, _, rfl, res_1 rfl (rv_tmp rfl), ?_⟩
 exact ⟨rfl, X16⟩
theorem poly_maskKey_w {p0 r} (hm : poly_maskKey p0 = some r) {w : World} :
    Calls Tryz.prog 221 [wv p0].toArray w fun e w' => ∃ v, e = .returned v ∧ (v = kv r ∧ Gr w w') := by
 unfold poly_maskKey at hm
 refine calls_of_sw 6 Tryz.func221 rfl rfl rfl<|qs 1 rfl<|qe rfl (ev_alloc (cs := kb k0) zv_23 rfl) ?_
 rintro _ w1 ⟨b1, rfl, hbw1, Bw1, G1⟩
 have z1 := G1.size
 have lt2 := Bw1.lt
 refine qd 4 rfl<|qv rfl (vv_buildZ bz_23)<|qm rfl<|qe rfl (eC en_90 rfl (derive_c k0 (un8 42#8) (un8_nn _) (un8_le _) p0 _)) ?_
 rintro _ w2 ⟨rfl, G2⟩
 have z3 := G2.size
 have B4 := (Bw1.gr G2)
 refine qe rfl (ev_stW agg_23 rfl rfl rfl B4 rfl rfl) ?_
 rintro _ w3 ⟨Bw3, M3⟩
 have z5 := M3.size
 refine sd_done<|sw_ret ?_
 have X6 := ((((Gr.refl w).trans G1).trans G2).md M3)
 cases hm
 refine ⟨_, _, rfl, res_1 rfl (rv_cellW agg_23 rfl Bw3 rfl), ?_⟩
 exact ⟨rfl, X6⟩
theorem poly_Seal_w {p0 p1 p2 p3 p4 vp2 zp2 gp2 op2 r} (hm : poly_Seal p0 p1 p2 p3 p4 = some r) {w : World} (hp2 : Rd w zp2 gp2 op2 1 vp2 (p2.map ic)) :
    Calls Tryz.prog 135 [kv p0, .agg (TScheme.cs p1).toArray, vp2, kv p3, wv p4].toArray w fun e w' => ∃ v, e = .returned v ∧ (∃ ur0_0 zr0_0 gr0_0 ur0_2 zr0_2 gr0_2, v = .tuple [.agg (THeader.cs r.1 ur0_0 ur0_2).toArray, .int .i64 r.2].toArray ∧ Own w' zr0_0 gr0_0 173 18 ur0_0 (r.1.Items.map TItem.cs) ∧ Hdn (zr0_0 = 0 ∨ w.heap.size ≤ gr0_0) ∧ Own w' zr0_2 gr0_2 50 2 ur0_2 (r.1.Points.map TPoint.cs) ∧ Hdn (zr0_2 = 0 ∨ w.heap.size ≤ gr0_2) ∧ Hdn (zr0_2 = 0 ∨ zr0_0 = 0 ∨ gr0_2 ≠ gr0_0) ∧ Gr w w') := by
 have lt1 := hp2.lth
 unfold poly_Seal at hm
 refine calls_of_sw 123 Tryz.func135 rfl rfl rfl<|qs 5 rfl<|qe rfl (ev_box (cs := kb p0) rfl rfl) ?_
 rintro _ w1 ⟨b1, rfl, hbw1, Bw1, G1⟩
 have z2 := G1.size
 have lt3 := Bw1.lt
 refine qe rfl (ev_box (cs := TScheme.cs p1) rfl rfl) ?_
 rintro _ w2 ⟨b2, rfl, hbw2, Bw2, G2⟩
 have z4 := G2.size
 have lt5 := Bw2.lt
 refine qe rfl (ev_box (cs := kb p3) rfl rfl) ?_
 rintro _ w3 ⟨b3, rfl, hbw3, Bw3, G3⟩
 have z6 := G3.size
 have lt7 := Bw3.lt
 refine qe rfl (ev_alloc (cs := THeader.cs (THeader.mk [] 0#64 [] k0 k0) (.slice none 0 0) (.slice none 0 0)) zv_36 rfl) ?_
 rintro _ w4 ⟨b4, rfl, hbw4, Bw4, G4⟩
 have z8 := G4.size
 have lt9 := Bw4.lt
 refine qm rfl<|sd_done<|sw_seq<|qs 3 rfl ?_
 have Y1 := Gr.trans G3 G4
 have B10 := (Bw2.gr Y1)
 refine qv rfl (vv_loadW agg_28 rfl B10 rfl) ?_
 obtain ⟨x1, hx1, hm⟩ := bnd hm
 refine qe rfl (eC en_212 rfl (poly_valid_w hx1)) ?_
 rintro _ w5 ⟨rfl, G5⟩
 have z11 := G5.size
 refine qv rfl (vv_not rfl)<|sd_done<|sw_cond rfl (fun c1 => ?_) (fun c1 => ?_)
 · replace hm := cnd_t c1 hm
   refine qs 3 rfl<|qv rfl (vv_build (cs := THeader.cs (THeader.mk [] 0#64 [] k0 k0) (.slice none 0 0) (.slice none 0 0)) bs_36 rfl (by kernel_rfl)) ?_
   have B12 := (Bw4.gr G5)
   refine qe rfl (ev_stW agg_36 rfl rfl (THeader.cs_ones _ _ _ rfl rfl) B12 rfl rfl) ?_
   rintro _ w6 ⟨Bw6, M6⟩
   have z13 := M6.size
   refine qm rfl<|qb ?_
   have Y2 := Gr.trans (Gr.trans (Gr.trans G1 G2) Y1) G5
   have X14 := (((Gr.refl w).trans Y2).md M6)
   cases hm
   refine ⟨_, _, rfl, res_2 rfl (rv_cellW agg_36 rfl Bw6 rfl) (rv_tmp rfl), ?_⟩
   exact ⟨(.slice none 0 0), 0, 0, (.slice none 0 0), 0, 0, rfl, (own_nil _ 0 173 18), ⟨.inl rfl⟩, (own_nil _ 0 50 2), ⟨.inl rfl⟩, ⟨(.inl rfl)⟩, X14⟩
 replace hm := cnd_f c1 hm
 refine qu<|sw_seq<|qs 3 rfl<|qm rfl ?_
 have Y3 := Gr.trans (Gr.trans (Gr.trans G1 G2) Y1) G5
 have B15 := (hp2.gr Y3)
 refine qv rfl (vv_lenT (l := p2) (c := ic) Tryz.underlying31 rfl B15)<|qm rfl<|sd_done<|sw_block ?_
 have X16 := ((Gr.refl w).trans Y3)
 refine sw_loopD (α := Nat × Int) ([11, 12, 13] ++ rg 29 29) (fun ⟨n1, a3⟩ => [(11, .int .i64 0), (29, .int .i64 a3)]) (fun ⟨n1, a3⟩ wr => (fixN (poly_Seal_L1 p0 p1 p2 p3 p4) n1 a3 = some r) ∧ Kz [] w5 wr) (fun ⟨n1, a3⟩ => n1) ⟨FUEL, 0⟩ ?_ ?_ ?_
 · exact sbq
 · exact ⟨hm, Kz.refl _ _⟩
 clear hm; rintro ⟨n1, a3⟩ w7 ⟨hm, K7⟩
 have z17 := K7.size
 have hb := fix_succ hm; clear hm; obtain ⟨n1, rfl, hm⟩ := hb
 generalize hrec1 : fixN (poly_Seal_L1 p0 p1 p2 p3 p4) n1 = rec1 at hm
 unfold poly_Seal_L1 at hm
 try dsimp only at hm
 refine qs 1 rfl<|qv rfl (vv_lss (a := a3) (b := (p2.length : Int)) rfl rfl)<|sd_done<|sw_seq<|sw_cond rfl (fun c2 => ?_) (fun c2 => ?_)
 · replace hm := iT c2 hm
   refine qu<|sw_seq<|sw_block<|qs 5 rfl<|qm rfl ?_
   obtain ⟨y4, hy4, hm⟩ := bnd hm
   have B18 := (B15.kz K7)
   refine qv rfl (vv_ixT (i := a3) Tryz.underlying31 (one_3).siz rfl B18 rfl hy4)<|qv rfl (vv_el1T (q := 0) (u := .int .i64 y4) one_3 rfl B18 hy4 (by first | rfl | omega) rfl)<|qm rfl<|qm rfl<|sd_done ?_
   have X19 := (X16.kz K7)
   refine qj (β := Bool) (rg 34 22) (fun a5 => [(55, .bool a5)]) (fun a5 wr => (poly_Seal_J2 a3 rec1 a5 = some r) ∧ Kz [] w7 wr) ?_ ?_
   · refine qg 22 rfl<|qm rfl<|qv rfl (vv_lss (a := y4) (b := 0) rfl rfl)<|qp rfl (vv_move rfl) (fun c4 => ?_) (fun c4 => ?_)
     · replace hm := iT c4 hm
       refine qk rfl<|qk rfl<|qk rfl<|qk rfl<|qk rfl<|qm rfl<|qm rfl ?_
       refine qk rfl<|qk rfl<|qk rfl<|qk rfl<|qk rfl<|qk rfl<|qk rfl ?_
       refine qk rfl<|qk rfl<|qk rfl<|qk rfl<|qm rfl<|sd_nil ?_
       exact ⟨rfl, true, sbq, hm, kz0⟩
     replace hm := iF c4 hm
     refine qm rfl<|qv rfl (vv_fieldAddr fa_28_1 rfl) ?_
     have B26 := ((B10.gr G5).kz K7)
     refine qv rfl (vv_load1 (v := .int .i64 p1.Depth) one_3 rfl B26 rfl) ?_
     obtain ⟨nn6, hnn6, hm⟩ := bnd hm
     refine qv rfl (vv_shlI (a := 1) (b := p1.Depth) rfl rfl hnn6)<|qv rfl (vv_geq (a := y4) (b := shlI 1 nn6) rfl rfl)<|qm rfl<|qp rfl (vv_move rfl) (fun c5 => ?_) (fun c5 => ?_)
     · replace hm := iT c5 hm
       refine qk rfl<|qk rfl<|qk rfl<|qk rfl<|qk rfl<|qk rfl<|qk rfl ?_
       refine qk rfl<|qk rfl<|qk rfl<|qk rfl<|qm rfl<|sd_nil ?_
       exact ⟨rfl, true, sbq, hm, kz0⟩
     replace hm := iF c5 hm
     refine qm rfl<|qv rfl (vv_gtr (a := a3) (b := 0) rfl rfl)<|qpF rfl (vv_move rfl) (fun c6 => ?_) (fun c6 => ?_)
     · replace hm := iF c6 hm
       refine qk rfl<|qk rfl<|qk rfl<|qk rfl<|qk rfl<|qk rfl<|qk rfl ?_
       refine qm rfl<|qm rfl<|sd_nil ?_
       exact ⟨rfl, false, sbq, hm, kz0⟩
     replace hm := iT c6 hm
     refine qm rfl<|qm rfl<|qm rfl<|qv rfl (vv_sub (k := .i64) (a := a3) (b := 1) rfl rfl) ?_
     obtain ⟨y7, hy7, hm⟩ := bnd hm
     refine qv rfl (vv_ixT (i := w64 (a3 - 1)) Tryz.underlying31 (one_3).siz rfl B18 rfl hy7)<|qv rfl (vv_el1T (q := 0) (u := .int .i64 y7) one_3 rfl B18 hy7 (by first | rfl | omega) rfl)<|qv rfl (vv_leq (a := y4) (b := y7) rfl rfl)<|qm rfl<|qm rfl<|sd_nil ?_
     exact ⟨rfl, (decide (y4 ≤ y7)), sbq, hm, kz0⟩
   clear hm; rintro a5 w8 ⟨hm, K8⟩
   have z20 := K8.size
   unfold poly_Seal_J2 at hm
   refine cnF rfl (fun c3 => ?_) (fun c3 => ?_)
   · replace hm := cnd_f c3 hm
     refine sw_skip<|block_n<|then_n<|qg 2 rfl<|qv rfl (vv_add (k := .i64) (a := a3) (b := 1) rfl rfl)<|qm rfl<|sd_nil ?_
     have K_24 : Kz [] w5 w8 := (K7.kz K8)
     subst hrec1
     exact ⟨rfl, ⟨n1, w64 (a3 + 1)⟩, sbq, ⟨hm, K_24⟩, Nat.lt_succ_self _⟩
   replace hm := cnd_t c3 hm
   refine qs 3 rfl<|qv rfl (vv_build (cs := THeader.cs (THeader.mk [] 0#64 [] k0 k0) (.slice none 0 0) (.slice none 0 0)) bs_36 rfl (by kernel_rfl)) ?_
   have B21 := (((Bw4.gr G5).kz K7).kz K8)
   refine qe rfl (ev_stW agg_36 rfl rfl (THeader.cs_ones _ _ _ rfl rfl) B21 rfl rfl) ?_
   rintro _ w9 ⟨Bw9, M9⟩
   have z22 := M9.size
   refine qm rfl<|sd_done<|sw_ret<|block_r<|then_r<|then_r<|block_r ?_
   refine then_r ?_
   have X23 := ((X19.kz K8).md M9)
   cases hm
   refine ⟨_, _, rfl, res_2 rfl (rv_cellW agg_36 rfl Bw9 rfl) (rv_tmp rfl), ?_⟩
   exact ⟨(.slice none 0 0), 0, 0, (.slice none 0 0), 0, 0, rfl, (own_nil _ 0 173 18), ⟨.inl rfl⟩, (own_nil _ 0 50 2), ⟨.inl rfl⟩, ⟨(.inl rfl)⟩, X23⟩
 replace hm := iF c2 hm
 refine sw_exit<|then_x<|then_x<|block_x<|then_n<|sw_seq<|sw_seq ?_
 refine qg 5 rfl<|qm rfl ?_
 have B30 := (B15.kz K7)
 refine qv rfl (vv_lenT (l := p2) (c := ic) Tryz.underlying31 rfl B30)<|qv rfl (vv_fieldAddr fa_28_2 rfl) ?_
 have B31 := ((B10.gr G5).kz K7)
 refine qv rfl (vv_load1 (v := .int .i64 p1.Degree) one_3 rfl B31 rfl)<|qv rfl (vv_gtr (a := (p2.length : Int)) (b := p1.Degree) rfl rfl)<|sd_done<|sw_cond rfl (fun c7 => ?_) (fun c7 => ?_)
 · replace hm := iT c7 hm
   refine qs 3 rfl<|qv rfl (vv_build (cs := THeader.cs (THeader.mk [] 0#64 [] k0 k0) (.slice none 0 0) (.slice none 0 0)) bs_36 rfl (by kernel_rfl)) ?_
   have B32 := ((Bw4.gr G5).kz K7)
   refine qe rfl (ev_stW agg_36 rfl rfl (THeader.cs_ones _ _ _ rfl rfl) B32 rfl rfl) ?_
   rintro _ w10 ⟨Bw10, M10⟩
   have z33 := M10.size
   refine qm rfl<|qb ?_
   have X34 := ((X16.kz K7).md M10)
   cases hm
   refine ⟨_, _, rfl, res_2 rfl (rv_cellW agg_36 rfl Bw10 rfl) (rv_tmp rfl), ?_⟩
   exact ⟨(.slice none 0 0), 0, 0, (.slice none 0 0), 0, 0, rfl, (own_nil _ 0 173 18), ⟨.inl rfl⟩, (own_nil _ 0 50 2), ⟨.inl rfl⟩, ⟨(.inl rfl)⟩, X34⟩
 replace hm := iF c7 hm
 refine qu ?_
 have X35 := (X16.kz K7)
 refine qj (β := List (BitVec 64) × Nat × Value × Nat × Nat × Nat) ([14, 15] ++ rg 64 6) (fun ⟨a9, bq8, vy10, zy10, gy10, bq11⟩ => [(14, .pointer (some ⟨bq8, 0, none⟩)), (15, .pointer (some ⟨bq11, 0, none⟩))]) (fun ⟨a9, bq8, vy10, zy10, gy10, bq11⟩ wr => (poly_Seal_J3 p0 p1 p2 p3 p4 a9 = some r) ∧ Own wr zy10 gy10 24 1 vy10 (a9.map uwc) ∧ Hdn (zy10 = 0 ∨ w7.heap.size ≤ gy10) ∧ Bx wr bq8 309 ([vy10]) ∧ w7.heap.size ≤ bq8 ∧ Bx wr bq11 312 ([wv p1.Group.Q]) ∧ w7.heap.size ≤ bq11 ∧ Hdn (zy10 = 0 ∨ gy10 ≠ bq8) ∧ bq11 ≠ bq8 ∧ Hdn (zy10 = 0 ∨ gy10 ≠ bq11) ∧ Kz [] w7 wr) ?_ ?_
 · refine dw [([])] [] (.fork [(0,10),(1,10),(3,10),(4,10),(5,10)] (.fork [(2,0)] (.leaf [(6,0),(7,0),(8,0),(9,0)]) (.leaf [(7,0),(6,0),(8,0),(9,0)])) (.fork [] (.fork [(6,0)] (.leaf [(2,0),(7,0),(8,0),(9,0)]) (.leaf [(7,0),(2,0),(8,0),(9,0)])) (.fork [(7,0)] (.leaf [(2,0),(6,0),(8,0),(9,0)]) (.leaf [(6,0),(2,0),(8,0),(9,0)])))) ?_
   intro w48 G48 zw48
   refine sdz_fork ?_
   have Y4 := Gr.trans (Gr.trans G2 Y1) G5
   have B156 := (((Bw1.gr Y4).kz K7).gr G48)
   refine dh 0 rfl rfl (fun w hS => vv_loadW agg_23 rfl (Bx.kp B156 hS) rfl) ?_
   have B157 := (B31.gr G48)
   refine dh 0 rfl rfl (fun w hS => vv_loadW agg_28 rfl (Bx.kp B157 hS) rfl)<|dh 0 rfl rfl (fun w hS => vv_fieldAddr fa_28_3 rfl)<|dh 0 rfl rfl (fun w hS => vv_fieldAddr fa_26_1 rfl)<|dh 0 rfl rfl (fun w hS => vv_load1 (v := wv p1.Group.Q) one_24 rfl (Bx.kp B157 hS) rfl)<|sd_fork ?_ (sdz_fork (sd_fork ?_ ?_))
   · refine sdz_fork ?_
     obtain ⟨x39, hx39, hm⟩ := bnd hm
     refine qz [] rfl (eC en_213 rfl (poly_secret_w hx39)) ⟨fun _ => tk0, trivial⟩ ?_
     rintro u49_r0_s w49 ⟨_, z49_r0_s, g49_r0_s, rfl, O49_r0_s, f49_r0_s, G49⟩
     have z158 := G49.size
     have lt159 := O49_r0_s.lth
     refine kG G49<|sd_fork ?_ ?_
     · refine sdz_leaf<|qz [] rfl (ev_alloc (cs := [(.slice none 0 0)]) zv_309 rfl) ⟨fun _ => tk0, trivial⟩ ?_
       rintro _ w50 ⟨b50, rfl, hbw50, Bw50, G50⟩
       have z160 := G50.size
       have lt161 := Bw50.lt
       refine kG G50<|qz [] rfl (ev_alloc (cs := [wv 0#64]) zv_312 rfl) ⟨fun _ => tk0, trivial⟩ ?_
       rintro _ w51 ⟨b51, rfl, hbw51, Bw51, G51⟩
       have z162 := G51.size
       have lt163 := Bw51.lt
       refine kG G51 ?_
       have B164 := (Bw50.gr G51)
       have B165 := ((O49_r0_s.gr G50).gr G51)
       refine qz [(1, b50)] rfl (ev_st1 (cs' := [u49_r0_s]) (one_309).siz rfl rfl (Own.oneB B165) B164 rfl rfl) ⟨fun _ => tk0, trivial⟩ ?_
       rintro _ w52 ⟨Bw52, M52⟩
       have z166 := M52.size
       refine kM M52 ?_
       have B167 := (Bw51.md M52)
       refine qz [(1, b51)] rfl (ev_st1 (cs' := [wv p1.Group.Q]) (one_312).siz rfl rfl rfl B167 rfl rfl) ⟨fun _ => tk0, trivial⟩ ?_
       rintro _ w53 ⟨Bw53, M53⟩
       have z168 := M53.size
       refine kM M53<|sd_nil ?_
       have K_169 : Kz [] w7 w53 := ((((((Kz.gr (Kz.refl _ _) G48).gr G49).gr G50).gr G51).md M52).md M53)
       have B170 := ((B165.md M52 (pb_lt lt159)).md M53 (pb_lt lt159))
       have B171 := (Bw52.md M53)
       exact ⟨rfl, ⟨x39, b50, u49_r0_s, z49_r0_s, g49_r0_s, b51⟩, sbq, hm, B170, ⟨(pv_0 (A := (fun x => w7.heap.size ≤ x)) f49_r0_s)⟩, B171, (by omega), Bw53, (by omega), ⟨(pv_lt (A := (fun x => x ≠ b50)) lt159)⟩, (by omega), ⟨(pv_lt (A := (fun x => x ≠ b51)) lt159)⟩, K_169⟩
     refine sdz_leaf<|qz [] rfl (ev_alloc (cs := [wv 0#64]) zv_312 rfl) ⟨fun _ => tk0, trivial⟩ ?_
     rintro _ w54 ⟨b54, rfl, hbw54, Bw54, G54⟩
     have z172 := G54.size
     have lt173 := Bw54.lt
     refine kG G54<|qz [] rfl (ev_alloc (cs := [(.slice none 0 0)]) zv_309 rfl) ⟨fun _ => tk0, trivial⟩ ?_
     rintro _ w55 ⟨b55, rfl, hbw55, Bw55, G55⟩
     have z174 := G55.size
     have lt175 := Bw55.lt
     refine kG G55 ?_
     have B176 := ((O49_r0_s.gr G54).gr G55)
     refine qz [(1, b55)] rfl (ev_st1 (cs' := [u49_r0_s]) (one_309).siz rfl rfl (Own.oneB B176) Bw55 rfl rfl) ⟨fun _ => tk0, trivial⟩ ?_
     rintro _ w56 ⟨Bw56, M56⟩
     have z177 := M56.size
     refine kM M56 ?_
     have B178 := ((Bw54.gr G55).md M56)
     refine qz [(1, b54)] rfl (ev_st1 (cs' := [wv p1.Group.Q]) (one_312).siz rfl rfl rfl B178 rfl rfl) ⟨fun _ => tk0, trivial⟩ ?_
     rintro _ w57 ⟨Bw57, M57⟩
     have z179 := M57.size
     refine kM M57<|sd_nil ?_
     have K_180 : Kz [] w7 w57 := ((((((Kz.gr (Kz.refl _ _) G48).gr G49).gr G54).gr G55).md M56).md M57)
     have B181 := ((B176.md M56 (pb_lt lt159)).md M57 (pb_lt lt159))
     have B182 := (Bw56.md M57)
     exact ⟨rfl, ⟨x39, b55, u49_r0_s, z49_r0_s, g49_r0_s, b54⟩, sbq, hm, B181, ⟨(pv_0 (A := (fun x => w7.heap.size ≤ x)) f49_r0_s)⟩, B182, (by omega), Bw57, (by omega), ⟨(pv_lt (A := (fun x => x ≠ b55)) lt159)⟩, (by omega), ⟨(pv_lt (A := (fun x => x ≠ b54)) lt159)⟩, K_180⟩
   · refine sdz_fork<|qz [] rfl (ev_alloc (cs := [(.slice none 0 0)]) zv_309 rfl) ⟨fun _ => tk0, trivial⟩ ?_
     rintro _ w58 ⟨b58, rfl, hbw58, Bw58, G58⟩
     have z183 := G58.size
     have lt184 := Bw58.lt
     refine kG G58<|sd_fork ?_ ?_
     · refine sdz_leaf ?_
       obtain ⟨x40, hx40, hm⟩ := bnd hm
       refine qz [] rfl (eC en_213 rfl (poly_secret_w hx40)) ⟨fun _ => tk0, trivial⟩ ?_
       rintro u59_r0_s w59 ⟨_, z59_r0_s, g59_r0_s, rfl, O59_r0_s, f59_r0_s, G59⟩
       have z185 := G59.size
       have lt186 := O59_r0_s.lth
       refine kG G59<|qz [] rfl (ev_alloc (cs := [wv 0#64]) zv_312 rfl) ⟨fun _ => tk0, trivial⟩ ?_
       rintro _ w60 ⟨b60, rfl, hbw60, Bw60, G60⟩
       have z187 := G60.size
       have lt188 := Bw60.lt
       refine kG G60 ?_
       have B189 := ((Bw58.gr G59).gr G60)
       have B190 := (O59_r0_s.gr G60)
       refine qz [(1, b58)] rfl (ev_st1 (cs' := [u59_r0_s]) (one_309).siz rfl rfl (Own.oneB B190) B189 rfl rfl) ⟨fun _ => tk0, trivial⟩ ?_
       rintro _ w61 ⟨Bw61, M61⟩
       have z191 := M61.size
       refine kM M61 ?_
       have B192 := (Bw60.md M61)
       refine qz [(1, b60)] rfl (ev_st1 (cs' := [wv p1.Group.Q]) (one_312).siz rfl rfl rfl B192 rfl rfl) ⟨fun _ => tk0, trivial⟩ ?_
       rintro _ w62 ⟨Bw62, M62⟩
       have z193 := M62.size
       refine kM M62<|sd_nil ?_
       have K_194 : Kz [] w7 w62 := ((((((Kz.gr (Kz.refl _ _) G48).gr G58).gr G59).gr G60).md M61).md M62)
       have B195 := ((B190.md M61 (pb_0 f59_r0_s)).md M62 (pb_lt lt186))
       have B196 := (Bw61.md M62)
       exact ⟨rfl, ⟨x40, b58, u59_r0_s, z59_r0_s, g59_r0_s, b60⟩, sbq, hm, B195, ⟨(pv_0 (A := (fun x => w7.heap.size ≤ x)) f59_r0_s)⟩, B196, (by omega), Bw62, (by omega), ⟨(pv_0 (A := (fun x => x ≠ b58)) f59_r0_s)⟩, (by omega), ⟨(pv_lt (A := (fun x => x ≠ b60)) lt186)⟩, K_194⟩
     refine sdz_leaf<|qz [] rfl (ev_alloc (cs := [wv 0#64]) zv_312 rfl) ⟨fun _ => tk0, trivial⟩ ?_
     rintro _ w63 ⟨b63, rfl, hbw63, Bw63, G63⟩
     have z197 := G63.size
     have lt198 := Bw63.lt
     refine kG G63 ?_
     obtain ⟨x41, hx41, hm⟩ := bnd hm
     refine qz [] rfl (eC en_213 rfl (poly_secret_w hx41)) ⟨fun _ => tk0, trivial⟩ ?_
     rintro u65_r0_s w65 ⟨_, z65_r0_s, g65_r0_s, rfl, O65_r0_s, f65_r0_s, G65⟩
     have z199 := G65.size
     have lt200 := O65_r0_s.lth
     refine kG G65 ?_
     have B201 := ((Bw58.gr G63).gr G65)
     refine qz [(1, b58)] rfl (ev_st1 (cs' := [u65_r0_s]) (one_309).siz rfl rfl (Own.oneB O65_r0_s) B201 rfl rfl) ⟨fun _ => tk0, trivial⟩ ?_
     rintro _ w66 ⟨Bw66, M66⟩
     have z202 := M66.size
     refine kM M66 ?_
     have B203 := ((Bw63.gr G65).md M66)
     refine qz [(1, b63)] rfl (ev_st1 (cs' := [wv p1.Group.Q]) (one_312).siz rfl rfl rfl B203 rfl rfl) ⟨fun _ => tk0, trivial⟩ ?_
     rintro _ w67 ⟨Bw67, M67⟩
     have z204 := M67.size
     refine kM M67<|sd_nil ?_
     have K_205 : Kz [] w7 w67 := ((((((Kz.gr (Kz.refl _ _) G48).gr G58).gr G63).gr G65).md M66).md M67)
     have B206 := ((O65_r0_s.md M66 (pb_0 f65_r0_s)).md M67 (pb_0 f65_r0_s))
     have B207 := (Bw66.md M67)
     exact ⟨rfl, ⟨x41, b58, u65_r0_s, z65_r0_s, g65_r0_s, b63⟩, sbq, hm, B206, ⟨(pv_0 (A := (fun x => w7.heap.size ≤ x)) f65_r0_s)⟩, B207, (by omega), Bw67, (by omega), ⟨(pv_0 (A := (fun x => x ≠ b58)) f65_r0_s)⟩, (by omega), ⟨(pv_0 (A := (fun x => x ≠ b63)) f65_r0_s)⟩, K_205⟩
   refine sdz_fork<|qz [] rfl (ev_alloc (cs := [wv 0#64]) zv_312 rfl) ⟨fun _ => tk0, trivial⟩ ?_
   rintro _ w68 ⟨b68, rfl, hbw68, Bw68, G68⟩
   have z208 := G68.size
   have lt209 := Bw68.lt
   refine kG G68<|sd_fork ?_ ?_
   · refine sdz_leaf ?_
     obtain ⟨x42, hx42, hm⟩ := bnd hm
     refine qz [] rfl (eC en_213 rfl (poly_secret_w hx42)) ⟨fun _ => tk0, trivial⟩ ?_
     rintro u69_r0_s w69 ⟨_, z69_r0_s, g69_r0_s, rfl, O69_r0_s, f69_r0_s, G69⟩
     have z210 := G69.size
     have lt211 := O69_r0_s.lth
     refine kG G69<|qz [] rfl (ev_alloc (cs := [(.slice none 0 0)]) zv_309 rfl) ⟨fun _ => tk0, trivial⟩ ?_
     rintro _ w70 ⟨b70, rfl, hbw70, Bw70, G70⟩
     have z212 := G70.size
     have lt213 := Bw70.lt
     refine kG G70 ?_
     have B214 := (O69_r0_s.gr G70)
     refine qz [(1, b70)] rfl (ev_st1 (cs' := [u69_r0_s]) (one_309).siz rfl rfl (Own.oneB B214) Bw70 rfl rfl) ⟨fun _ => tk0, trivial⟩ ?_
     rintro _ w71 ⟨Bw71, M71⟩
     have z215 := M71.size
     refine kM M71 ?_
     have B216 := (((Bw68.gr G69).gr G70).md M71)
     refine qz [(1, b68)] rfl (ev_st1 (cs' := [wv p1.Group.Q]) (one_312).siz rfl rfl rfl B216 rfl rfl) ⟨fun _ => tk0, trivial⟩ ?_
     rintro _ w72 ⟨Bw72, M72⟩
     have z217 := M72.size
     refine kM M72<|sd_nil ?_
     have K_218 : Kz [] w7 w72 := ((((((Kz.gr (Kz.refl _ _) G48).gr G68).gr G69).gr G70).md M71).md M72)
     have B219 := ((B214.md M71 (pb_lt lt211)).md M72 (pb_0 f69_r0_s))
     have B220 := (Bw71.md M72)
     exact ⟨rfl, ⟨x42, b70, u69_r0_s, z69_r0_s, g69_r0_s, b68⟩, sbq, hm, B219, ⟨(pv_0 (A := (fun x => w7.heap.size ≤ x)) f69_r0_s)⟩, B220, (by omega), Bw72, (by omega), ⟨(pv_lt (A := (fun x => x ≠ b70)) lt211)⟩, (by omega), ⟨(pv_0 (A := (fun x => x ≠ b68)) f69_r0_s)⟩, K_218⟩
   refine sdz_leaf<|qz [] rfl (ev_alloc (cs := [(.slice none 0 0)]) zv_309 rfl) ⟨fun _ => tk0, trivial⟩ ?_
   rintro _ w73 ⟨b73, rfl, hbw73, Bw73, G73⟩
   have z221 := G73.size
   have lt222 := Bw73.lt
   refine kG G73 ?_
   obtain ⟨x43, hx43, hm⟩ := bnd hm
   refine qz [] rfl (eC en_213 rfl (poly_secret_w hx43)) ⟨fun _ => tk0, trivial⟩ ?_
   rintro u74_r0_s w74 ⟨_, z74_r0_s, g74_r0_s, rfl, O74_r0_s, f74_r0_s, G74⟩
   have z223 := G74.size
   have lt224 := O74_r0_s.lth
   refine kG G74 ?_
   have B225 := (Bw73.gr G74)
   refine qz [(1, b73)] rfl (ev_st1 (cs' := [u74_r0_s]) (one_309).siz rfl rfl (Own.oneB O74_r0_s) B225 rfl rfl) ⟨fun _ => tk0, trivial⟩ ?_
   rintro _ w75 ⟨Bw75, M75⟩
   have z226 := M75.size
   refine kM M75 ?_
   have B227 := (((Bw68.gr G73).gr G74).md M75)
   refine qz [(1, b68)] rfl (ev_st1 (cs' := [wv p1.Group.Q]) (one_312).siz rfl rfl rfl B227 rfl rfl) ⟨fun _ => tk0, trivial⟩ ?_
   rintro _ w76 ⟨Bw76, M76⟩
   have z228 := M76.size
   refine kM M76<|sd_nil ?_
   have K_229 : Kz [] w7 w76 := ((((((Kz.gr (Kz.refl _ _) G48).gr G68).gr G73).gr G74).md M75).md M76)
   have B230 := ((O74_r0_s.md M75 (pb_0 f74_r0_s)).md M76 (pb_0 f74_r0_s))
   have B231 := (Bw75.md M76)
   exact ⟨rfl, ⟨x43, b73, u74_r0_s, z74_r0_s, g74_r0_s, b68⟩, sbq, hm, B230, ⟨(pv_0 (A := (fun x => w7.heap.size ≤ x)) f74_r0_s)⟩, B231, (by omega), Bw76, (by omega), ⟨(pv_0 (A := (fun x => x ≠ b73)) f74_r0_s)⟩, (by omega), ⟨(pv_0 (A := (fun x => x ≠ b68)) f74_r0_s)⟩, K_229⟩
 clear hm; rintro ⟨a9, bq8, vy10, zy10, gy10, bq11⟩ w11 ⟨hm, Fw11_0, Fw11_1, Fw11_2, Fw11_3, Fw11_4, Fw11_5, Fw11_6, Fw11_7, Fw11_8, K11⟩
 have z36 := K11.size
 have lt37 := Fw11_0.lth
 have lt38 := Fw11_2.lt
 have lt39 := Fw11_4.lt
 unfold poly_Seal_J3 at hm
 refine sw_seq<|dw [([])] [] (.leaf [(0,10),(1,10),(3,10),(4,10),(5,10),(6,10),(2,0),(7,0),(8,10),(9,10)]) ?_
 intro w12 G12 zw12
 refine sdz_leaf ?_
 have Y5 := Gr.trans (Gr.trans G2 Y1) G5
 have B40 := ((((Bw1.gr Y5).kz K7).kz K11).gr G12)
 refine dh 0 rfl rfl (fun w hS => vv_loadW agg_23 rfl (Bx.kp B40 hS) rfl)<|dm 0 rfl rfl<|dh 0 rfl rfl (fun w hS => vv_fieldAddr fa_28_3 rfl)<|dh 0 rfl rfl (fun w hS => vv_fieldAddr fa_26_1 rfl) ?_
 have B41 := ((B31.kz K11).gr G12)
 refine dh 0 rfl rfl (fun w hS => vv_load1 (v := wv p1.Group.Q) one_24 rfl (Bx.kp B41 hS) rfl)<|dh 0 rfl rfl (fun w hS => vv_usub (a := p1.Group.Q) (b := 1#64) rfl rfl)<|qz [] rfl (eC en_90 rfl (derive_c p0 (un8 41#8) (un8_nn _) (un8_le _) p4 _)) ⟨fun _ => tk0, trivial⟩ ?_
 rintro _ w13 ⟨rfl, G13⟩
 have z42 := G13.size
 refine kG G13 ?_
 obtain ⟨x12, hx12, hm⟩ := bnd hm
 refine qz [] rfl (eC en_222 rfl (cipher_Number_w hx12)) ⟨fun _ => tk0, trivial⟩ ?_
 rintro _ w14 ⟨rfl, G14⟩
 have z43 := G14.size
 refine kG G14 ?_
 have Y6 := Gr.trans G13 G14
 have S44 := ((Kp.refl ([]) w12).gr Y6)
 refine qh 0 rfl rfl S44 (fun w hS => vv_uadd (a := 1#64) (b := x12) rfl rfl)<|dn 0 rfl rfl S44<|sd_done ?_
 have Y7 := Gr.trans G12 Y6
 have X45 := ((X35.kz K11).trans Y7)
 refine qj (β := BitVec 64 × Nat × Value × Nat × Nat × Value × Nat × Nat) ([17] ++ rg 79 9) (fun ⟨a14, bq13, vy15, zy15, gy15, vy16, zy16, gy16⟩ => [(17, .pointer (some ⟨bq13, 0, none⟩))]) (fun ⟨a14, bq13, vy15, zy15, gy15, vy16, zy16, gy16⟩ wr => (poly_Seal_J4 p1 p2 p3 a9 a14 = some r) ∧ Own wr zy15 gy15 173 18 vy15 ([].map TItem.cs) ∧ Hdn (zy15 = 0 ∨ w14.heap.size ≤ gy15) ∧ Own wr zy16 gy16 50 2 vy16 ([].map TPoint.cs) ∧ Hdn (zy16 = 0 ∨ w14.heap.size ≤ gy16) ∧ Bx wr bq13 36 (THeader.cs (THeader.mk [] a14 [] k0 (drv p3 (un8 53#8) 0#64)) vy15 vy16) ∧ w14.heap.size ≤ bq13 ∧ Hdn (zy16 = 0 ∨ zy15 = 0 ∨ gy16 ≠ gy15) ∧ Hdn (zy15 = 0 ∨ gy15 ≠ bq13) ∧ Hdn (zy16 = 0 ∨ gy16 ≠ bq13) ∧ Kz [] w14 wr) ?_ ?_
 · refine dw [([])] [] (.fork [(0,10),(1,10),(2,10),(3,10),(4,10),(6,10)] (.fork [(5,0)] (.leaf [(7,0),(8,10),(9,0),(10,0)]) (.leaf [(9,0),(7,0),(8,10),(10,0)])) (.leaf [(9,0),(5,0),(7,0),(8,10),(10,0)])) ?_
   intro w36 G36 zw36
   refine sdz_fork ?_
   have B132 := ((B41.gr Y6).gr G36)
   refine dh 0 rfl rfl (fun w hS => vv_loadW agg_28 rfl (Bx.kp B132 hS) rfl)<|dh 0 rfl rfl (fun w hS => vv_fieldAddr fa_28_3 rfl)<|dh 0 rfl rfl (fun w hS => vv_fieldAddr fa_26_2 rfl)<|dh 0 rfl rfl (fun w hS => vv_load1 (v := wv p1.Group.G) one_24 rfl (Bx.kp B132 hS) rfl)<|dm 0 rfl rfl ?_
   have Y8 := Gr.trans G4 G5
   have B133 := (((((Bw3.gr Y8).kz K7).kz K11).gr Y7).gr G36)
   refine dh 0 rfl rfl (fun w hS => vv_loadW agg_23 rfl (Bx.kp B133 hS) rfl)<|sd_fork ?_ ?_
   · refine sdz_fork ?_
     obtain ⟨x37, hx37, hm⟩ := bnd hm
     refine qz [] rfl (eC en_216 rfl (poly_power_w hx37)) ⟨fun _ => tk0, trivial⟩ ?_
     rintro _ w37 ⟨rfl, G37⟩
     have z134 := G37.size
     refine kG G37<|sd_fork ?_ ?_
     · refine sdz_leaf<|qz [] rfl (eC en_90 rfl (derive_c p3 (un8 53#8) (un8_nn _) (un8_le _) 0#64 _)) ⟨fun _ => tk0, trivial⟩ ?_
       rintro _ w38 ⟨rfl, G38⟩
       have z135 := G38.size
       refine kG G38 ?_
       have S136 := (((Kp.refl ([]) w36).gr G37).gr G38)
       refine qh 0 rfl rfl S136 (fun w hS => vv_build (cs := THeader.cs (THeader.mk [] x37 [] k0 (drv p3 (un8 53#8) 0#64)) (.slice none 0 0) (.slice none 0 0)) bs_36 rfl (by obtain ⟨kk0, hk0⟩ := ex_of (drv p3 (un8 53#8) 0#64); rw [← hk0]; exact (fill_M rfl rfl rfl (fill_M rfl rfl rfl (by kernel_rfl)))))<|qz [] rfl (ev_alloc (cs := THeader.cs (THeader.mk [] 0#64 [] k0 k0) (.slice none 0 0) (.slice none 0 0)) zv_36 rfl) ⟨fun _ => tk0, trivial⟩ ?_
       rintro _ w39 ⟨b39, rfl, hbw39, Bw39, G39⟩
       have z137 := G39.size
       have lt138 := Bw39.lt
       refine kG G39<|qz [(1, b39)] rfl (ev_stW agg_36 rfl rfl (THeader.cs_ones _ _ _ rfl rfl) Bw39 rfl rfl) ⟨fun _ => tk0, trivial⟩ ?_
       rintro _ w40 ⟨Bw40, M40⟩
       have z139 := M40.size
       refine kM M40<|sd_nil ?_
       exact ⟨rfl, ⟨x37, b39, (.slice none 0 0), 0, 0, (.slice none 0 0), 0, 0⟩, sbq, hm, (own_nil _ 0 173 18), ⟨(.inl rfl)⟩, (own_nil _ 0 50 2), ⟨(.inl rfl)⟩, Bw40, (by omega), ⟨(.inl rfl)⟩, ⟨.inl rfl⟩, ⟨.inl rfl⟩, (((((kz0.gr G36).gr G37).gr G38).gr G39).md M40)⟩
     refine sdz_leaf<|qz [] rfl (ev_alloc (cs := THeader.cs (THeader.mk [] 0#64 [] k0 k0) (.slice none 0 0) (.slice none 0 0)) zv_36 rfl) ⟨fun _ => tk0, trivial⟩ ?_
     rintro _ w41 ⟨b41, rfl, hbw41, Bw41, G41⟩
     have z141 := G41.size
     have lt142 := Bw41.lt
     refine kG G41<|qz [] rfl (eC en_90 rfl (derive_c p3 (un8 53#8) (un8_nn _) (un8_le _) 0#64 _)) ⟨fun _ => tk0, trivial⟩ ?_
     rintro _ w42 ⟨rfl, G42⟩
     have z143 := G42.size
     refine kG G42 ?_
     have S144 := ((((Kp.refl ([]) w36).gr G37).gr G41).gr G42)
     refine qh 0 rfl rfl S144 (fun w hS => vv_build (cs := THeader.cs (THeader.mk [] x37 [] k0 (drv p3 (un8 53#8) 0#64)) (.slice none 0 0) (.slice none 0 0)) bs_36 rfl (by obtain ⟨kk0, hk0⟩ := ex_of (drv p3 (un8 53#8) 0#64); rw [← hk0]; exact (fill_M rfl rfl rfl (fill_M rfl rfl rfl (by kernel_rfl))))) ?_
     have B145 := (Bw41.gr G42)
     refine qz [(1, b41)] rfl (ev_stW agg_36 rfl rfl (THeader.cs_ones _ _ _ rfl rfl) B145 rfl rfl) ⟨fun _ => tk0, trivial⟩ ?_
     rintro _ w43 ⟨Bw43, M43⟩
     have z146 := M43.size
     refine kM M43<|sd_nil ?_
     exact ⟨rfl, ⟨x37, b41, (.slice none 0 0), 0, 0, (.slice none 0 0), 0, 0⟩, sbq, hm, (own_nil _ 0 173 18), ⟨(.inl rfl)⟩, (own_nil _ 0 50 2), ⟨(.inl rfl)⟩, Bw43, (by omega), ⟨(.inl rfl)⟩, ⟨.inl rfl⟩, ⟨.inl rfl⟩, (((((kz0.gr G36).gr G37).gr G41).gr G42).md M43)⟩
   refine sdz_leaf<|qz [] rfl (ev_alloc (cs := THeader.cs (THeader.mk [] 0#64 [] k0 k0) (.slice none 0 0) (.slice none 0 0)) zv_36 rfl) ⟨fun _ => tk0, trivial⟩ ?_
   rintro _ w44 ⟨b44, rfl, hbw44, Bw44, G44⟩
   have z148 := G44.size
   have lt149 := Bw44.lt
   refine kG G44 ?_
   obtain ⟨x38, hx38, hm⟩ := bnd hm
   refine qz [] rfl (eC en_216 rfl (poly_power_w hx38)) ⟨fun _ => tk0, trivial⟩ ?_
   rintro _ w45 ⟨rfl, G45⟩
   have z150 := G45.size
   refine kG G45<|qz [] rfl (eC en_90 rfl (derive_c p3 (un8 53#8) (un8_nn _) (un8_le _) 0#64 _)) ⟨fun _ => tk0, trivial⟩ ?_
   rintro _ w46 ⟨rfl, G46⟩
   have z151 := G46.size
   refine kG G46 ?_
   have S152 := ((((Kp.refl ([]) w36).gr G44).gr G45).gr G46)
   refine qh 0 rfl rfl S152 (fun w hS => vv_build (cs := THeader.cs (THeader.mk [] x38 [] k0 (drv p3 (un8 53#8) 0#64)) (.slice none 0 0) (.slice none 0 0)) bs_36 rfl (by obtain ⟨kk0, hk0⟩ := ex_of (drv p3 (un8 53#8) 0#64); rw [← hk0]; exact (fill_M rfl rfl rfl (fill_M rfl rfl rfl (by kernel_rfl))))) ?_
   have B153 := ((Bw44.gr G45).gr G46)
   refine qz [(1, b44)] rfl (ev_stW agg_36 rfl rfl (THeader.cs_ones _ _ _ rfl rfl) B153 rfl rfl) ⟨fun _ => tk0, trivial⟩ ?_
   rintro _ w47 ⟨Bw47, M47⟩
   have z154 := M47.size
   refine kM M47<|sd_nil ?_
   exact ⟨rfl, ⟨x38, b44, (.slice none 0 0), 0, 0, (.slice none 0 0), 0, 0⟩, sbq, hm, (own_nil _ 0 173 18), ⟨(.inl rfl)⟩, (own_nil _ 0 50 2), ⟨(.inl rfl)⟩, Bw47, (by omega), ⟨(.inl rfl)⟩, ⟨.inl rfl⟩, ⟨.inl rfl⟩, (((((kz0.gr G36).gr G44).gr G45).gr G46).md M47)⟩
 clear hm; rintro ⟨a14, bq13, vy15, zy15, gy15, vy16, zy16, gy16⟩ w15 ⟨hm, Fw15_0, Fw15_1, Fw15_2, Fw15_3, Fw15_4, Fw15_5, Fw15_6, Fw15_7, Fw15_8, K15⟩
 have z46 := K15.size
 have lt47 := Fw15_0.lth
 have lt48 := Fw15_2.lth
 have lt49 := Fw15_4.lt
 unfold poly_Seal_J4 at hm
 refine qs 3 rfl<|qv rfl (vv_makeFunc rfl rfl)<|qe rfl (ev_alloc zv_320 rfl) ?_
 rintro _ w16 ⟨b16, rfl, hbw16, Bw16, G16⟩
 have z50 := G16.size
 have lt51 := Bw16.lt
 refine qe rfl (ev_st1 (one_320).siz rfl rfl rfl Bw16 rfl rfl) ?_
 rintro _ w17 ⟨Bw17, M17⟩
 have z52 := M17.size
 refine qd 2 rfl<|qv rfl (vv_makeFunc rfl rfl)<|qm rfl<|sd_done<|sw_seq ?_
 refine qs 3 rfl<|qm rfl ?_
 have B53 := (((((B30.kz K11).gr Y7).kz K15).gr G16).md M17 (pb_lt lt1))
 refine qv rfl (vv_lenT (l := p2) (c := ic) Tryz.underlying31 rfl B53)<|qm rfl<|sd_done<|sw_block ?_
 have X54 := (((X45.kz K15).trans G16).md M17)
 have B55 := ((((Fw11_0.gr Y7).kz K15).gr G16).md M17 (pb_lt lt37))
 have B56 := ((Fw15_0.gr G16).md M17 (pb_lt lt47))
 have B57 := ((Fw15_2.gr G16).md M17 (pb_lt lt48))
 have B58 := ((Fw15_4.gr G16).md M17)
 refine sw_loopD (α := Nat × Int × List TPoint × Value × Nat × Nat) ([21] ++ rg 92 9) (fun ⟨n5, a20, a21, vy22, zy22, gy22⟩ => [(92, .int .i64 a20)]) (fun ⟨n5, a20, a21, vy22, zy22, gy22⟩ wr => (fixN (poly_Seal_L5 p1 p2 p3 a9 a14) n5 (a20, a21) = some r) ∧ Own wr zy22 gy22 50 2 vy22 (a21.map TPoint.cs) ∧ Hdn (zy22 = 0 ∨ (gy22 = gy16 ∧ zy16 ≠ 0) ∨ w17.heap.size ≤ gy22) ∧ Bx wr bq13 36 (THeader.cs (THeader.mk [] a14 a21 k0 (drv p3 (un8 53#8) 0#64)) vy15 vy22) ∧ Kz [(1, bq13), (zy16, gy16)] w17 wr) (fun ⟨n5, a20, a21, vy22, zy22, gy22⟩ => n5) ⟨FUEL, 0, [], vy16, zy16, gy16⟩ ?_ ?_ ?_
 · exact sbq
 · exact ⟨hm, B57, ⟨tk0⟩, B58, Kz.refl _ _⟩
 clear hm; rintro ⟨n5, a20, a21, vy22, zy22, gy22⟩ w18 ⟨hm, Fw18_0, Fw18_1, Fw18_2, K18⟩
 have z59 := K18.size
 have lt60 := Fw18_0.lth
 have lt61 := Fw18_2.lt
 have hb := fix_succ hm; clear hm; obtain ⟨n5, rfl, hm⟩ := hb
 generalize hrec5 : fixN (poly_Seal_L5 p1 p2 p3 a9 a14) n5 = rec5 at hm
 unfold poly_Seal_L5 at hm
 try dsimp only at hm
 refine qs 1 rfl<|qv rfl (vv_lss (a := a20) (b := (p2.length : Int)) rfl rfl)<|sd_done<|sw_seq<|sw_cond rfl (fun c8 => ?_) (fun c8 => ?_)
 · replace hm := iT c8 hm
   refine qu<|sw_seq<|sw_block<|qs 3 rfl ?_
   obtain ⟨y23, hy23, hm⟩ := bnd hm
   have B62 := (B53.kz K18 (tk2 ((pv_sw (pv_0 (A := (fun x => zp2 = 0 ∨ x ≠ gp2)) Fw15_3 (fun x hx => (tk1 lt1.o)))) : zp2 = 0 ∨ zy16 = 0 ∨ gp2 ≠ gy16) (pb_lt (b := bq13) lt1)))
   refine qv rfl (vv_ixT (i := a20) Tryz.underlying31 (one_3).siz rfl B62 rfl hy23)<|qv rfl (vv_el1T (q := 0) (u := .int .i64 y23) one_3 rfl B62 hy23 (by first | rfl | omega) rfl)<|qm rfl<|sd_done<|qg 4 rfl<|qm rfl<|qm rfl ?_
   refine qv rfl (vv_add (k := .i64) (a := y23) (b := 1) rfl rfl)<|sd_inl 16 Tryz.func224 rfl rfl rfl en_224 rfl rfl rfl rfl rfl<|dw [([bq13] ++ zf zy22 gy22),([] ++ zf zy22 gy22)] [(12, [1])] (.leaf [(0,10),(1,11),(2,10),(3,10),(4,10),(5,10),(6,10),(7,0),(8,10),(9,0),(10,0),(11,10),(12,0)]) ?_
   intro w19 G19 zw19
   refine sdz_leaf<|qh 0 rfl rfl (Kp.refl ([bq13] ++ zf zy22 gy22) w19) (fun w hS => vv_fieldAddr fa_36_2 rfl) ?_
   have B63 := (Fw18_2.gr G19)
   refine qh 1 rfl rfl (Kp.refl ([] ++ zf zy22 gy22) w19) (fun w hS => vv_load1 (v := vy22) one_34 rfl (Bx.kp B63 hS (tk1 (pb_1 (b := bq13) Fw18_1 (tk1 Fw15_8.o)))) rfl)<|dn 0 rfl rfl (Kp.refl ([bq13] ++ zf zy22 gy22) w19)<|qh 0 rfl rfl (Kp.refl ([bq13] ++ zf zy22 gy22) w19) (fun w hS => vv_cvIU cv_3_24 rfl) ?_
   have B64 := ((Bw17.kz K18 (tk1 (pb_lt (b := b16) lt48))).gr G19)
   refine qh 0 rfl rfl (Kp.refl ([bq13] ++ zf zy22 gy22) w19) (fun w hS => vv_load1 one_320 rfl (Bx.kp B64 hS (tk1 (pb_1 (b := b16) Fw18_1 (pb_lt lt48)))) rfl)<|dn 0 rfl rfl (Kp.refl ([bq13] ++ zf zy22 gy22) w19)<|qh 0 rfl rfl (Kp.refl ([bq13] ++ zf zy22 gy22) w19) (fun w hS => vv_cvIU cv_3_24 rfl) ?_
   have B65 := ((((((B41.gr Y6).kz K15).gr G16).md M17).kz K18 (tk1 (pb_0 (b := b2) Fw15_3))).gr G19)
   have B66 := ((B56.kz K18 (tk2 ((tk1 Fw15_6.o) : zy15 = 0 ∨ zy16 = 0 ∨ gy15 ≠ gy16) ((tk1 Fw15_7.o) : zy15 = 0 ∨ gy15 ≠ bq13))).gr G19)
   have B67 := (Fw18_0.gr G19)
   have B68 := ((((((Fw11_2.gr Y7).kz K15).gr G16).md M17).kz K18 (tk1 (pb_0 (b := bq8) Fw15_3))).gr G19)
   have B69 := ((B55.kz K18 (tk2 ((pv_sw (pv_0 (A := (fun x => zy10 = 0 ∨ x ≠ gy10)) Fw15_3 (fun x hx => (tk1 lt37.o)))) : zy10 = 0 ∨ zy16 = 0 ∨ gy10 ≠ gy16) (pb_lt (b := bq13) lt37))).gr G19)
   have B70 := ((((((Fw11_4.gr Y7).kz K15).gr G16).md M17).kz K18 (tk1 (pb_0 (b := bq11) Fw15_3))).gr G19)
   obtain ⟨x24, hx24, hm⟩ := bnd hm
   refine qz [] rfl (ev_callV en_223 rfl rfl (poly_Seal_1_w hx24 B65 B63 (Own.rd B66) (Own.rd B67) B68 (Own.rd B69) B70)) ⟨fun _ => tk0, fun _ => tk0, trivial⟩ ?_
   rintro _ w20 ⟨rfl, G20⟩
   have z71 := G20.size
   refine kG G20 ?_
   have S72 := ((Kp.refl ([bq13] ++ zf zy22 gy22) w19).gr G20)
   refine qh 0 rfl rfl S72 (fun w hS => vv_build (cs := TPoint.cs (TPoint.mk (wd (w64 (y23 + 1))) x24)) bs_50 rfl rfl)<|qz [] rfl (ev_litT [(TPoint.mk (wd (w64 (y23 + 1))) x24)] TPoint.cs bsl_34_1 rfl rfl (ws_of rfl) rfl rfl rfl) ⟨fun _ => tk0, fun _ => tk0, trivial⟩ ?_
   rintro vw21 w21 ⟨gw21, hbw21, Ow21, G21⟩
   have z73 := G21.size
   have lt74 := Ow21.lth
   refine kG G21 ?_
   have B75 := ((B67.gr G20).gr G21)
   obtain ⟨l25, hl25, hm⟩ := bnd hm
   refine qz [(zy22, gy22)] rfl (ev_appT (l := a21) (m := [(TPoint.mk (wd (w64 (y23 + 1))) x24)]) (c := TPoint.cs) apt_34 rfl rfl B75 (Own.rd Ow21) hl25 (by decide)) ⟨fun _ => (tk1 (tk0 : zy22 = 0 ∨ (gy22 = gy22 ∧ zy22 ≠ 0) ∨ w19.heap.size ≤ gy22)), fun _ => (tk1 (tk0 : zy22 = 0 ∨ (gy22 = gy22 ∧ zy22 ≠ 0) ∨ w19.heap.size ≤ gy22)), trivial⟩ ?_
   rintro vw22 w22 ⟨zw22, gw22, Ow22, Aw22, qw22, rw22⟩
   have z76 := Aw22.size
   refine ⟨Kz.ofKa Aw22, ?_⟩
   have S77 := ((S72.gr G21).ka Aw22 (tk1 (tk0 : zy22 = 0 ∨ (gy22 = gy22 ∧ zy22 ≠ 0) ∨ w19.heap.size ≤ gy22)))
   refine qh 0 rfl rfl S77 (fun w hS => vv_fieldAddr fa_36_2 rfl) ?_
   have B78 := (((B63.gr G20).gr G21).ka Aw22 (tk1 (pb_1 (b := bq13) Fw18_1 (tk1 Fw15_8.o))))
   refine qz [(1, bq13)] rfl (ev_st1 (cs' := THeader.cs (THeader.mk [] a14 l25 k0 (drv p3 (un8 53#8) 0#64)) vy15 vw22) (one_34).siz rfl rfl (Own.oneB Ow22) B78 rfl rfl) ⟨fun _ => tk0, nofun, trivial⟩ ?_
   rintro _ w23 ⟨Bw23, M23⟩
   have z79 := M23.size
   refine kM M23<|sd_nil<|⟨_, _, rfl, res_none rfl, ?_⟩
   refine sd_nil<|block_n<|then_n<|qg 2 rfl<|qv rfl (vv_add (k := .i64) (a := a20) (b := 1) rfl rfl)<|qm rfl<|sd_nil ?_
   have K_80 : Kz [(1, bq13), (zy16, gy16)] w17 w23 := (((((K18.gr G19).gr G20).gr G21).ka Aw22 (tk1 (pv_1 (A := (fun x => (x = gy16 ∧ zy16 ≠ 0) ∨ w17.heap.size ≤ x)) Fw18_1 tk0))).md M23)
   have B81 := (Ow22.md M23 (pb_app rw22 (pb_1 Fw18_1 (tk1 Fw15_8.o))))
   subst hrec5
   exact ⟨rfl, ⟨n5, w64 (a20 + 1), l25, vw22, zw22, gw22⟩, sbq, ⟨hm, B81, ⟨(pv_app (A := (fun x => (x = gy16 ∧ zy16 ≠ 0) ∨ w17.heap.size ≤ x)) rw22 (pv_1 (A := (fun x => (x = gy16 ∧ zy16 ≠ 0) ∨ w17.heap.size ≤ x)) Fw18_1 tk0))⟩, Bw23, K_80⟩, Nat.lt_succ_self _⟩
 replace hm := iF c8 hm
 refine sw_exit<|then_x<|then_x<|block_x<|then_n<|sw_seq<|sw_seq ?_
 refine qg 5 rfl<|qv rfl (vv_fieldAddr fa_28_1 rfl) ?_
 have B82 := (((((B41.gr Y6).kz K15).gr G16).md M17).kz K18 (tk1 (pb_0 (b := b2) Fw15_3)))
 refine qv rfl (vv_load1 (v := .int .i64 p1.Depth) one_3 rfl B82 rfl) ?_
 obtain ⟨nn26, hnn26, hm⟩ := bnd hm
 refine qv rfl (vv_shlI (a := 1) (b := p1.Depth) rfl rfl hnn26)<|qv rfl (vv_add (k := .i64) (a := shlI 1 nn26) (b := 1) rfl rfl)<|qm rfl<|sd_done<|sw_block ?_
 have X83 := (X54.kz K18 (tk1 (pv_0 (A := (fun x => w.heap.size ≤ x)) Fw15_3)))
 have B84 := (B53.kz K18 (tk2 ((pv_sw (pv_0 (A := (fun x => zp2 = 0 ∨ x ≠ gp2)) Fw15_3 (fun x hx => (tk1 lt1.o)))) : zp2 = 0 ∨ zy16 = 0 ∨ gp2 ≠ gy16) (pb_lt (b := bq13) lt1)))
 have B85 := (B55.kz K18 (tk2 ((pv_sw (pv_0 (A := (fun x => zy10 = 0 ∨ x ≠ gy10)) Fw15_3 (fun x hx => (tk1 lt37.o)))) : zy10 = 0 ∨ zy16 = 0 ∨ gy10 ≠ gy16) (pb_lt (b := bq13) lt37)))
 have B86 := (B56.kz K18 (tk2 ((tk1 Fw15_6.o) : zy15 = 0 ∨ zy16 = 0 ∨ gy15 ≠ gy16) ((tk1 Fw15_7.o) : zy15 = 0 ∨ gy15 ≠ bq13)))
 refine sw_loopD (α := Nat × Int × List TPoint × Value × Nat × Nat) ([22] ++ rg 105 11) (fun ⟨n6, a30, a31, vy32, zy32, gy32⟩ => [(22, .int .i64 a30)]) (fun ⟨n6, a30, a31, vy32, zy32, gy32⟩ wr => (fixN (poly_Seal_L6 p1 p3 a9 a14) n6 (a30, a31) = some r) ∧ Own wr zy32 gy32 50 2 vy32 (a31.map TPoint.cs) ∧ Hdn (zy32 = 0 ∨ (gy32 = gy22 ∧ zy22 ≠ 0) ∨ w18.heap.size ≤ gy32) ∧ Bx wr bq13 36 (THeader.cs (THeader.mk [] a14 a31 k0 (drv p3 (un8 53#8) 0#64)) vy15 vy32) ∧ Kz [(1, bq13), (zy22, gy22)] w18 wr) (fun ⟨n6, a30, a31, vy32, zy32, gy32⟩ => n6) ⟨FUEL, w64 ((shlI 1 nn26) + 1), a21, vy22, zy22, gy22⟩ ?_ ?_ ?_
 · exact sbq
 · exact ⟨hm, Fw18_0, ⟨tk0⟩, Fw18_2, Kz.refl _ _⟩
 clear hm; rintro ⟨n6, a30, a31, vy32, zy32, gy32⟩ w24 ⟨hm, Fw24_0, Fw24_1, Fw24_2, K24⟩
 have z87 := K24.size
 have lt88 := Fw24_0.lth
 have lt89 := Fw24_2.lt
 have hb := fix_succ hm; clear hm; obtain ⟨n6, rfl, hm⟩ := hb
 generalize hrec6 : fixN (poly_Seal_L6 p1 p3 a9 a14) n6 = rec6 at hm
 unfold poly_Seal_L6 at hm
 try dsimp only at hm
 refine sw_seq<|qs 6 rfl<|qv rfl (vv_fieldAddr fa_36_2 rfl)<|qv rfl (vv_load1 (v := vy32) one_34 rfl Fw24_2 rfl)<|qv rfl (vv_lenT (l := a31) (c := TPoint.cs) Tryz.underlying34 rfl (Own.rd Fw24_0))<|qv rfl (vv_fieldAddr fa_28_2 rfl) ?_
 have B90 := (B82.kz K24 (tk1 (pb_1 (b := b2) Fw18_1 (pb_0 Fw15_3))))
 refine qv rfl (vv_load1 (v := .int .i64 p1.Degree) one_3 rfl B90 rfl)<|qv rfl (vv_lss (a := (a31.length : Int)) (b := p1.Degree) rfl rfl)<|sd_done<|sw_cond rfl (fun c9 => ?_) (fun c9 => ?_)
 · replace hm := iT c9 hm
   refine qu<|sw_seq<|sw_block<|qg 3 rfl<|qm rfl<|qm rfl ?_
   refine sd_inl 16 Tryz.func224 rfl rfl rfl en_224 rfl rfl rfl rfl rfl<|dw [([bq13] ++ zf zy32 gy32),([] ++ zf zy32 gy32)] [(12, [1])] (.leaf [(0,10),(1,11),(2,10),(3,10),(4,10),(5,10),(6,10),(7,0),(8,10),(9,0),(10,0),(11,10),(12,0)]) ?_
   intro w25 G25 zw25
   refine sdz_leaf<|qh 0 rfl rfl (Kp.refl ([bq13] ++ zf zy32 gy32) w25) (fun w hS => vv_fieldAddr fa_36_2 rfl) ?_
   have B91 := (Fw24_2.gr G25)
   refine qh 1 rfl rfl (Kp.refl ([] ++ zf zy32 gy32) w25) (fun w hS => vv_load1 (v := vy32) one_34 rfl (Bx.kp B91 hS (tk1 (pb_1 (b := bq13) Fw24_1 (pb_1 Fw18_1 (tk1 Fw15_8.o))))) rfl)<|dn 0 rfl rfl (Kp.refl ([bq13] ++ zf zy32 gy32) w25)<|qh 0 rfl rfl (Kp.refl ([bq13] ++ zf zy32 gy32) w25) (fun w hS => vv_cvIU cv_3_24 rfl) ?_
   have B92 := (((Bw17.kz K18 (tk1 (pb_lt (b := b16) lt48))).kz K24 (tk1 (pb_1 (b := b16) Fw18_1 (pb_lt lt48)))).gr G25)
   refine qh 0 rfl rfl (Kp.refl ([bq13] ++ zf zy32 gy32) w25) (fun w hS => vv_load1 one_320 rfl (Bx.kp B92 hS (tk1 (pb_1 (b := b16) Fw24_1 (pb_1 Fw18_1 (pb_lt lt48))))) rfl)<|dn 0 rfl rfl (Kp.refl ([bq13] ++ zf zy32 gy32) w25)<|qh 0 rfl rfl (Kp.refl ([bq13] ++ zf zy32 gy32) w25) (fun w hS => vv_cvIU cv_3_24 rfl) ?_
   have B93 := (B90.gr G25)
   have B94 := ((B86.kz K24 (tk2 ((pv_sw (pv_1 (A := (fun x => zy15 = 0 ∨ x ≠ gy15)) Fw18_1 (tk1 Fw15_6.o) (fun x hx => (tk1 lt47.o)))) : zy15 = 0 ∨ zy22 = 0 ∨ gy15 ≠ gy22) ((tk1 Fw15_7.o) : zy15 = 0 ∨ gy15 ≠ bq13))).gr G25)
   have B95 := (Fw24_0.gr G25)
   have B96 := (((((((Fw11_2.gr Y7).kz K15).gr G16).md M17).kz K18 (tk1 (pb_0 (b := bq8) Fw15_3))).kz K24 (tk1 (pb_1 (b := bq8) Fw18_1 (pb_0 Fw15_3)))).gr G25)
   have B97 := ((B85.kz K24 (tk2 ((pv_sw (pv_1 (A := (fun x => zy10 = 0 ∨ x ≠ gy10)) Fw18_1 (pv_0 (A := (fun x => zy10 = 0 ∨ x ≠ gy10)) Fw15_3 (fun x hx => (tk1 lt37.o))) (fun x hx => (tk1 lt37.o)))) : zy10 = 0 ∨ zy22 = 0 ∨ gy10 ≠ gy22) (pb_lt (b := bq13) lt37))).gr G25)
   have B98 := (((((((Fw11_4.gr Y7).kz K15).gr G16).md M17).kz K18 (tk1 (pb_0 (b := bq11) Fw15_3))).kz K24 (tk1 (pb_1 (b := bq11) Fw18_1 (pb_0 Fw15_3)))).gr G25)
   obtain ⟨x33, hx33, hm⟩ := bnd hm
   refine qz [] rfl (ev_callV en_223 rfl rfl (poly_Seal_1_w hx33 B93 B91 (Own.rd B94) (Own.rd B95) B96 (Own.rd B97) B98)) ⟨fun _ => tk0, fun _ => tk0, trivial⟩ ?_
   rintro _ w26 ⟨rfl, G26⟩
   have z99 := G26.size
   refine kG G26 ?_
   have S100 := ((Kp.refl ([bq13] ++ zf zy32 gy32) w25).gr G26)
   refine qh 0 rfl rfl S100 (fun w hS => vv_build (cs := TPoint.cs (TPoint.mk (wd a30) x33)) bs_50 rfl rfl)<|qz [] rfl (ev_litT [(TPoint.mk (wd a30) x33)] TPoint.cs bsl_34_1 rfl rfl (ws_of rfl) rfl rfl rfl) ⟨fun _ => tk0, fun _ => tk0, trivial⟩ ?_
   rintro vw27 w27 ⟨gw27, hbw27, Ow27, G27⟩
   have z101 := G27.size
   have lt102 := Ow27.lth
   refine kG G27 ?_
   have B103 := ((B95.gr G26).gr G27)
   obtain ⟨l34, hl34, hm⟩ := bnd hm
   refine qz [(zy32, gy32)] rfl (ev_appT (l := a31) (m := [(TPoint.mk (wd a30) x33)]) (c := TPoint.cs) apt_34 rfl rfl B103 (Own.rd Ow27) hl34 (by decide)) ⟨fun _ => (tk1 (tk0 : zy32 = 0 ∨ (gy32 = gy32 ∧ zy32 ≠ 0) ∨ w25.heap.size ≤ gy32)), fun _ => (tk1 (tk0 : zy32 = 0 ∨ (gy32 = gy32 ∧ zy32 ≠ 0) ∨ w25.heap.size ≤ gy32)), trivial⟩ ?_
   rintro vw28 w28 ⟨zw28, gw28, Ow28, Aw28, qw28, rw28⟩
   have z104 := Aw28.size
   refine ⟨Kz.ofKa Aw28, ?_⟩
   have S105 := ((S100.gr G27).ka Aw28 (tk1 (tk0 : zy32 = 0 ∨ (gy32 = gy32 ∧ zy32 ≠ 0) ∨ w25.heap.size ≤ gy32)))
   refine qh 0 rfl rfl S105 (fun w hS => vv_fieldAddr fa_36_2 rfl) ?_
   have B106 := (((B91.gr G26).gr G27).ka Aw28 (tk1 (pb_1 (b := bq13) Fw24_1 (pb_1 Fw18_1 (tk1 Fw15_8.o)))))
   refine qz [(1, bq13)] rfl (ev_st1 (cs' := THeader.cs (THeader.mk [] a14 l34 k0 (drv p3 (un8 53#8) 0#64)) vy15 vw28) (one_34).siz rfl rfl (Own.oneB Ow28) B106 rfl rfl) ⟨fun _ => tk0, nofun, trivial⟩ ?_
   rintro _ w29 ⟨Bw29, M29⟩
   have z107 := M29.size
   refine kM M29<|sd_nil<|⟨_, _, rfl, res_none rfl, ?_⟩
   refine sd_nil<|block_n<|then_n<|qg 3 rfl<|qm rfl<|qv rfl (vv_add (k := .i64) (a := a30) (b := 1) rfl rfl)<|qm rfl ?_
   refine sd_nil ?_
   have K_108 : Kz [(1, bq13), (zy22, gy22)] w18 w29 := (((((K24.gr G25).gr G26).gr G27).ka Aw28 (tk1 (pv_1 (A := (fun x => (x = gy22 ∧ zy22 ≠ 0) ∨ w18.heap.size ≤ x)) Fw24_1 tk0))).md M29)
   have B109 := (Ow28.md M29 (pb_app rw28 (pb_1 Fw24_1 (pb_1 Fw18_1 (tk1 Fw15_8.o)))))
   subst hrec6
   exact ⟨rfl, ⟨n6, w64 (a30 + 1), l34, vw28, zw28, gw28⟩, sbq, ⟨hm, B109, ⟨(pv_app (A := (fun x => (x = gy22 ∧ zy22 ≠ 0) ∨ w18.heap.size ≤ x)) rw28 (pv_1 (A := (fun x => (x = gy22 ∧ zy22 ≠ 0) ∨ w18.heap.size ≤ x)) Fw24_1 tk0))⟩, Bw29, K_108⟩, Nat.lt_succ_self _⟩
 replace hm := iF c9 hm
 refine sw_exit<|then_x<|then_x<|block_x<|then_n<|sw_seq<|dw [([bq13])] [] (.leaf [(0,10),(3,10),(1,0),(2,0),(4,0),(5,10),(6,0)]) ?_
 intro w30 G30 zw30
 refine sdz_leaf ?_
 have B110 := (((Bw17.kz K18 (tk1 (pb_lt (b := b16) lt48))).kz K24 (tk1 (pb_1 (b := b16) Fw18_1 (pb_lt lt48)))).gr G30)
 refine dh 0 rfl rfl (fun w hS => vv_load1 one_320 rfl (Bx.kp B110 hS) rfl) ?_
 have Y9 := Gr.trans G4 G5
 have B111 := ((((((((((Bw3.gr Y9).kz K7).kz K11).gr Y7).kz K15).gr G16).md M17).kz K18 (tk1 (pb_0 (b := b3) Fw15_3))).kz K24 (tk1 (pb_1 (b := b3) Fw18_1 (pb_0 Fw15_3)))).gr G30)
 refine dh 0 rfl rfl (fun w hS => vv_loadW agg_23 rfl (Bx.kp B111 hS) rfl) ?_
 have B112 := (B90.gr G30)
 have B113 := (Fw24_2.gr G30)
 have B114 := ((B86.kz K24 (tk2 ((pv_sw (pv_1 (A := (fun x => zy15 = 0 ∨ x ≠ gy15)) Fw18_1 (tk1 Fw15_6.o) (fun x hx => (tk1 lt47.o)))) : zy15 = 0 ∨ zy22 = 0 ∨ gy15 ≠ gy22) ((tk1 Fw15_7.o) : zy15 = 0 ∨ gy15 ≠ bq13))).gr G30)
 have B115 := (Fw24_0.gr G30)
 have B116 := (((((((Fw11_2.gr Y7).kz K15).gr G16).md M17).kz K18 (tk1 (pb_0 (b := bq8) Fw15_3))).kz K24 (tk1 (pb_1 (b := bq8) Fw18_1 (pb_0 Fw15_3)))).gr G30)
 have B117 := ((B85.kz K24 (tk2 ((pv_sw (pv_1 (A := (fun x => zy10 = 0 ∨ x ≠ gy10)) Fw18_1 (pv_0 (A := (fun x => zy10 = 0 ∨ x ≠ gy10)) Fw15_3 (fun x hx => (tk1 lt37.o))) (fun x hx => (tk1 lt37.o)))) : zy10 = 0 ∨ zy22 = 0 ∨ gy10 ≠ gy22) (pb_lt (b := bq13) lt37))).gr G30)
 have B118 := (((((((Fw11_4.gr Y7).kz K15).gr G16).md M17).kz K18 (tk1 (pb_0 (b := bq11) Fw15_3))).kz K24 (tk1 (pb_1 (b := bq11) Fw18_1 (pb_0 Fw15_3)))).gr G30)
 obtain ⟨x35, hx35, hm⟩ := bnd hm
 refine qz [] rfl (ev_callV en_223 rfl rfl (poly_Seal_1_w hx35 B112 B113 (Own.rd B114) (Own.rd B115) B116 (Own.rd B117) B118)) ⟨fun _ => tk0, trivial⟩ ?_
 rintro _ w31 ⟨rfl, G31⟩
 have z119 := G31.size
 refine kG G31 ?_
 obtain ⟨x36, hx36, hm⟩ := bnd hm
 refine qz [] rfl (eC en_221 rfl (poly_maskKey_w hx36)) ⟨fun _ => tk0, trivial⟩ ?_
 rintro _ w32 ⟨rfl, G32⟩
 have z120 := G32.size
 refine kG G32<|qz [] rfl (eC en_107 rfl (encr_c x36 p3 _)) ⟨fun _ => tk0, trivial⟩ ?_
 rintro _ w33 ⟨rfl, G33⟩
 have z121 := G33.size
 refine kG G33 ?_
 have Y10 := Gr.trans (Gr.trans G31 G32) G33
 have S122 := ((Kp.refl ([bq13]) w30).gr Y10)
 refine qh 0 rfl rfl S122 (fun w hS => vv_fieldAddr fa_36_3 rfl) ?_
 have B123 := (B113.gr Y10)
 refine qz [(1, bq13)] rfl (ev_stM (cs' := THeader.cs (THeader.mk [] a14 a31 (encr x36 p3) (drv p3 (un8 53#8) 0#64)) vy15 vy32) (vs := kb (encr x36 p3)) (agg_23).siz rfl rfl rfl rfl rfl B123 rfl (by obtain ⟨kk0, hk0⟩ := ex_of (drv p3 (un8 53#8) 0#64); rw [← hk0]; obtain ⟨kk1, hk1⟩ := ex_of (encr x36 p3); rw [← hk1]; first | done | rfl)) ⟨fun _ => tk0, trivial⟩ ?_
 rintro _ w34 ⟨Bw34, M34⟩
 have z124 := M34.size
 refine kM M34<|qd 3 rfl<|qv rfl (vv_loadW agg_36 rfl Bw34 rfl) ?_
 have B125 := ((((((((((((Bw4.gr G5).kz K7).kz K11).gr Y7).kz K15).gr G16).md M17).kz K18 (tk1 (pb_0 (b := b4) Fw15_3))).kz K24 (tk1 (pb_1 (b := b4) Fw18_1 (pb_0 Fw15_3)))).gr G30).gr Y10).md M34)
 have B126 := ((B114.gr Y10).md M34 (tk1 ((tk1 Fw15_7.o) : zy15 = 0 ∨ gy15 ≠ bq13)))
 have B127 := ((B115.gr Y10).md M34 (pb_1 Fw24_1 (pb_1 Fw18_1 (tk1 Fw15_8.o))))
 refine qe rfl (ev_stW agg_36 rfl rfl (THeader.cs_ones _ _ _ (Own.oneB B126) (Own.oneB B127)) B125 rfl rfl) ?_
 rintro _ w35 ⟨Bw35, M35⟩
 have z128 := M35.size
 refine qm rfl<|sd_done<|sw_ret ?_
 have B129 := (B126.md M35 (pb_0 Fw15_1))
 have B130 := (B127.md M35 (pb_1 Fw24_1 (pb_1 Fw18_1 (pb_0 Fw15_3))))
 have X131 := (((((X83.kz K24 (tk1 (pv_1 (A := (fun x => w.heap.size ≤ x)) Fw18_1 (pv_0 (A := (fun x => w.heap.size ≤ x)) Fw15_3)))).trans G30).trans Y10).md M34).md M35)
 cases hm
 refine ⟨_, _, rfl, res_2 rfl (rv_cellW agg_36 rfl Bw35 rfl) (rv_tmp rfl), ?_⟩
 exact ⟨vy15, zy15, gy15, vy32, zy32, gy32, rfl, B129, ⟨(pv_0 (A := (fun x => w.heap.size ≤ x)) Fw15_1)⟩, B130, ⟨(pv_1 (A := (fun x => w.heap.size ≤ x)) Fw24_1 (pv_1 (A := (fun x => w.heap.size ≤ x)) Fw18_1 (pv_0 (A := (fun x => w.heap.size ≤ x)) Fw15_3)))⟩, ⟨(pv_1 (A := (fun x => zy15 = 0 ∨ x ≠ gy15)) Fw24_1 (pv_1 (A := (fun x => zy15 = 0 ∨ x ≠ gy15)) Fw18_1 (tk1 Fw15_6.o) (fun x hx => (tk1 lt47.o))) (fun x hx => (tk1 lt47.o)))⟩, X131⟩
theorem ref02_Value_w {p0 vp0 zp0 gp0 op0 r} (hm : ref02_Value p0 = some r) {w : World} (hp0 : Rd w zp0 gp0 op0 1 vp0 (p0.map bvc)) :
    Calls Tryz.prog 344 [vp0].toArray w fun e w' => ∃ v, e = .returned v ∧ (v = wv r ∧ Gr w w') := by
 have lt1 := hp0.lth
 unfold ref02_Value at hm
 refine calls_of_sw 20 Tryz.func344 rfl rfl rfl<|qs 1 rfl<|qm rfl<|qd 1 rfl ?_
 refine qm rfl<|sd_done<|sw_seq<|qs 1 rfl<|qm rfl<|sd_done ?_
 refine sw_block<|sw_loopD (α := Nat × BitVec 64 × Int) (rg 3 16) (fun ⟨n1, a3, a4⟩ => [(3, wv a3), (4, .int .i64 a4)]) (fun ⟨n1, a3, a4⟩ wr => (fixN (ref02_Value_L1 p0) n1 (a3, a4) = some r) ∧ Kz [] w wr) (fun ⟨n1, a3, a4⟩ => n1) ⟨FUEL, 0#64, 0⟩ ?_ ?_ ?_
 · exact sbq
 · exact ⟨hm, Kz.refl _ _⟩
 clear hm; rintro ⟨n1, a3, a4⟩ w1 ⟨hm, K1⟩
 have z2 := K1.size
 have hb := fix_succ hm; clear hm; obtain ⟨n1, rfl, hm⟩ := hb
 generalize hrec1 : fixN (ref02_Value_L1 p0) n1 = rec1 at hm
 unfold ref02_Value_L1 at hm
 try dsimp only at hm
 refine sw_seq<|qs 4 rfl<|qm rfl<|qm rfl ?_
 have B3 := (hp0.kz K1)
 refine qv rfl (vv_lenT (l := p0) (c := bvc) Tryz.underlying32 rfl B3)<|qv rfl (vv_lss (a := a4) (b := (p0.length : Int)) rfl rfl)<|sd_done<|cnF rfl (fun c1 => ?_) (fun c1 => ?_)
 · replace hm := iF c1 hm
   refine sw_exit<|then_x<|then_x<|block_x<|then_n<|qs 2 rfl ?_
   refine qm rfl<|qm rfl<|sd_done<|sw_ret ?_
   have X5 := ((Gr.refl w).kz K1)
   cases hm
   refine ⟨_, _, rfl, res_1 rfl (rv_tmp rfl), ?_⟩
   exact ⟨rfl, X5⟩
 replace hm := iT c1 hm
 refine qu<|sw_seq<|sw_block<|qg 9 rfl<|qm rfl<|qv rfl (vv_umul (a := 256#64) (b := a3) rfl rfl) ?_
 refine qm rfl<|qm rfl ?_
 obtain ⟨y5, hy5, hm⟩ := bnd hm
 refine qv rfl (vv_ixT (i := a4) Tryz.underlying32 (one_5).siz rfl B3 rfl hy5)<|qv rfl (vv_el1T (q := 0) (u := bv y5) one_5 rfl B3 hy5 (by first | rfl | omega) rfl)<|qv rfl (vv_cvBU cv_5_24 rfl)<|qv rfl (vv_uadd (a := 256#64 * a3) (b := y5.setWidth 64) rfl rfl)<|qm rfl<|sd_nil<|block_n ?_
 refine then_n<|qg 3 rfl<|qm rfl<|qv rfl (vv_add (k := .i64) (a := a4) (b := 1) rfl rfl)<|qm rfl<|sd_nil ?_
 have K_4 : Kz [] w w1 := K1
 subst hrec1
 exact ⟨rfl, ⟨n1, (256#64 * a3) + (y5.setWidth 64), w64 (a4 + 1)⟩, sbq, ⟨hm, K_4⟩, Nat.lt_succ_self _⟩
theorem ref02_Number_w {p0 p1 p2 r} (hm : ref02_Number p0 p1 p2 = some r) {w : World} :
    Calls Tryz.prog 272 [kv p0, wv p1, wv p2].toArray w fun e w' => ∃ v, e = .returned v ∧ (v = wv r ∧ Gr w w') := by
 unfold ref02_Number at hm
 refine calls_of_sw 17 Tryz.func272 rfl rfl rfl<|qs 2 rfl<|qe rfl (ev_box (cs := kb p0) rfl rfl) ?_
 rintro _ w1 ⟨b1, rfl, hbw1, Bw1, G1⟩
 have z1 := G1.size
 have lt2 := Bw1.lt
 refine qm rfl<|sd_done<|sw_seq<|qs 2 rfl<|qm rfl<|qv rfl (vv_eqlU (c := p2) (d := 0#64) rfl rfl) ?_
 refine sd_done<|sw_cond rfl (fun c1 => ?_) (fun c1 => ?_)
 · replace hm := iT c1 hm
   refine qs 1 rfl<|qm rfl<|qb ?_
   have X3 := ((Gr.refl w).trans G1)
   cases hm
   refine ⟨_, _, rfl, res_1 rfl (rv_tmp rfl), ?_⟩
   exact ⟨rfl, X3⟩
 replace hm := iF c1 hm
 refine qu<|qs 5 rfl<|qv rfl (vv_loadW agg_23 rfl Bw1 rfl)<|qm rfl<|qe rfl (eC en_103 rfl (rderive_c p0 (un8 3#8) (un8_nn _) (un8_le _) p1 _)) ?_
 rintro _ w2 ⟨rfl, G2⟩
 have z4 := G2.size
 refine qe rfl (ev_alloc (cs := kb k0) zv_23 rfl) ?_
 rintro _ w3 ⟨b3, rfl, hbw3, Bw3, G3⟩
 have z5 := G3.size
 have lt6 := Bw3.lt
 refine qe rfl (ev_stW agg_23 rfl rfl rfl Bw3 rfl rfl) ?_
 rintro _ w4 ⟨Bw4, M4⟩
 have z7 := M4.size
 refine qd 5 rfl ?_
 have Rk8 := rd_keyP (o := 0) (lo := 0) (hi := 8) (p := drv p0 (un8 3#8) p1) Bw4 rfl (by decide) (by decide)
 have lt9 := Rk8.lth
 refine qv rfl (vv_sliceA (n := 16) (l := 0) (h := 8) Tryz.underlying23 (one_5).siz rfl rfl ⟨_, rfl⟩ (by decide) (by decide) (by decide)) ?_
 obtain ⟨x1, hx1, hm⟩ := bnd hm
 refine qe rfl (eC en_344 rfl (ref02_Value_w hx1 Rk8)) ?_
 rintro _ w5 ⟨rfl, G5⟩
 have z10 := G5.size
 refine qm rfl ?_
 obtain ⟨x2, hx2, hm⟩ := bnd hm
 refine qv rfl (vv_remU (c := x1) (d := p2) rfl rfl hx2)<|qm rfl<|sd_done<|sw_ret ?_
 have X11 := ((((((Gr.refl w).trans G1).trans G2).trans G3).md M4).trans G5)
 cases hm
 refine ⟨_, _, rfl, res_1 rfl (rv_tmp rfl), ?_⟩
 exact ⟨rfl, X11⟩
theorem ref04_CoefficientsOf_w {p0 p1 r} (hm : ref04_CoefficientsOf p0 p1 = some r) {w : World} :
    Calls Tryz.prog 271 [kv p0, .agg (TScheme.cs p1).toArray].toArray w fun e w' => ∃ v, e = .returned v ∧ (∃ ur0_s zr0_s gr0_s, v = ur0_s ∧ Own w' zr0_s gr0_s 24 1 ur0_s (r.map uwc) ∧ Hdn (zr0_s = 0 ∨ w.heap.size ≤ gr0_s) ∧ Gr w w') := by
 unfold ref04_CoefficientsOf at hm
 refine calls_of_sw 27 Tryz.func271 rfl rfl rfl<|qs 3 rfl<|qe rfl (ev_box (cs := kb p0) rfl rfl) ?_
 rintro _ w1 ⟨b1, rfl, hbw1, Bw1, G1⟩
 have z1 := G1.size
 have lt2 := Bw1.lt
 refine qe rfl (ev_box (cs := TScheme.cs p1) rfl rfl) ?_
 rintro _ w2 ⟨b2, rfl, hbw2, Bw2, G2⟩
 have z3 := G2.size
 have lt4 := Bw2.lt
 refine qm rfl<|qd 1 rfl<|qm rfl<|sd_done<|sw_seq ?_
 refine qg 4 rfl ?_
 have B5 := (Bw1.gr G2)
 refine qv rfl (vv_loadW agg_23 rfl B5 rfl)<|qe rfl (eC en_103 rfl (rderive_c p0 (un8 40#8) (un8_nn _) (un8_le _) 0#64 _)) ?_
 rintro _ w3 ⟨rfl, G3⟩
 have z6 := G3.size
 refine qe rfl (ev_alloc (cs := kb k0) zv_23 rfl) ?_
 rintro _ w4 ⟨b4, rfl, hbw4, Bw4, G4⟩
 have z7 := G4.size
 have lt8 := Bw4.lt
 refine qe rfl (ev_stW agg_23 rfl rfl rfl Bw4 rfl rfl) ?_
 rintro _ w5 ⟨Bw5, M5⟩
 have z9 := M5.size
 refine sd_done<|sw_seq<|qs 1 rfl<|qm rfl<|sd_done<|sw_block ?_
 have X10 := ((((((Gr.refl w).trans G1).trans G2).trans G3).trans G4).md M5)
 refine sw_loopD (α := Nat × List (BitVec 64) × Int × Value × Nat × Nat) ([5, 7] ++ rg 10 16) (fun ⟨n1, a4, a6, vy5, zy5, gy5⟩ => [(5, vy5), (7, .int .i64 a6)]) (fun ⟨n1, a4, a6, vy5, zy5, gy5⟩ wr => (fixN (ref04_CoefficientsOf_L1 p0 p1) n1 (a4, a6) = some r) ∧ Own wr zy5 gy5 24 1 vy5 (a4.map uwc) ∧ Hdn (zy5 = 0 ∨ w5.heap.size ≤ gy5) ∧ Kz [] w5 wr) (fun ⟨n1, a4, a6, vy5, zy5, gy5⟩ => n1) ⟨FUEL, [], 0, (.slice none 0 0), 0, 0⟩ ?_ ?_ ?_
 · exact sbq
 · exact ⟨hm, (own_nil _ 0 24 1), ⟨(.inl rfl)⟩, Kz.refl _ _⟩
 clear hm; rintro ⟨n1, a4, a6, vy5, zy5, gy5⟩ w6 ⟨hm, Fw6_0, Fw6_1, K6⟩
 have z11 := K6.size
 have lt12 := Fw6_0.lth
 have hb := fix_succ hm; clear hm; obtain ⟨n1, rfl, hm⟩ := hb
 generalize hrec1 : fixN (ref04_CoefficientsOf_L1 p0 p1) n1 = rec1 at hm
 unfold ref04_CoefficientsOf_L1 at hm
 try dsimp only at hm
 refine sw_seq<|qs 4 rfl<|qm rfl<|qv rfl (vv_fieldAddr fa_28_2 rfl) ?_
 have B13 := ((((Bw2.gr G3).gr G4).md M5).kz K6)
 refine qv rfl (vv_load1 (v := .int .i64 p1.Degree) one_3 rfl B13 rfl)<|qv rfl (vv_leq (a := a6) (b := p1.Degree) rfl rfl)<|sd_done<|cnF rfl (fun c1 => ?_) (fun c1 => ?_)
 · replace hm := iF c1 hm
   refine sw_exit<|then_x<|then_x<|block_x<|then_n<|qs 2 rfl ?_
   refine qm rfl<|qm rfl<|sd_done<|sw_ret ?_
   have X21 := (X10.kz K6)
   cases hm
   refine ⟨_, _, rfl, res_1 rfl (rv_tmp rfl), ?_⟩
   exact ⟨vy5, zy5, gy5, rfl, Fw6_0, ⟨(pv_0 (A := (fun x => w.heap.size ≤ x)) Fw6_1)⟩, X21⟩
 replace hm := iT c1 hm
 refine qu<|sw_seq<|sw_block<|qg 11 rfl<|qm rfl ?_
 have B14 := (Bw5.kz K6)
 refine qv rfl (vv_loadW agg_23 rfl B14 rfl)<|qm rfl<|qv rfl (vv_cvIU cv_3_24 rfl)<|qv rfl (vv_fieldAddr fa_28_3 rfl)<|qv rfl (vv_fieldAddr fa_26_1 rfl)<|qv rfl (vv_load1 (v := wv p1.Group.Q) one_24 rfl B13 rfl) ?_
 obtain ⟨x7, hx7, hm⟩ := bnd hm
 refine qe rfl (eC en_272 rfl (ref02_Number_w hx7)) ?_
 rintro _ w7 ⟨rfl, G7⟩
 have z15 := G7.size
 refine qe rfl (ev_litT [x7] uwc bsl_308_1 rfl rfl (ws_of rfl) rfl rfl rfl) ?_
 rintro vw8 w8 ⟨gw8, hbw8, Ow8, G8⟩
 have z16 := G8.size
 have lt17 := Ow8.lth
 have B18 := ((Fw6_0.gr G7).gr G8)
 obtain ⟨l8, hl8, hm⟩ := bnd hm
 refine qe rfl (ev_appT (l := a4) (m := [x7]) (c := uwc) apt_308 rfl rfl B18 (Own.rd Ow8) hl8 (by decide)) ?_
 rintro vw9 w9 ⟨zw9, gw9, Ow9, Aw9, qw9, rw9⟩
 have z19 := Aw9.size
 refine qm rfl<|sd_nil<|block_n<|then_n<|qg 3 rfl<|qm rfl<|qv rfl (vv_add (k := .i64) (a := a6) (b := 1) rfl rfl) ?_
 refine qm rfl<|sd_nil ?_
 have K_20 : Kz [] w5 w9 := (((K6.gr G7).gr G8).ka Aw9 (tk1 (pv_0 (A := (fun x => w5.heap.size ≤ x)) Fw6_1)))
 subst hrec1
 exact ⟨rfl, ⟨n1, l8, w64 (a6 + 1), vw9, zw9, gw9⟩, sbq, ⟨hm, Ow9, ⟨(pv_app (A := (fun x => w5.heap.size ≤ x)) rw9 (pv_0 (A := (fun x => w5.heap.size ≤ x)) Fw6_1))⟩, K_20⟩, Nat.lt_succ_self _⟩
theorem ref04_ValueOf_w {p0 p1 p2 vp1 zp1 gp1 op1 r} (hm : ref04_ValueOf p0 p1 p2 = some r) {w : World} (hp1 : Rd w zp1 gp1 op1 1 vp1 (p1.map uwc)) :
    Calls Tryz.prog 274 [wv p0, vp1, wv p2].toArray w fun e w' => ∃ v, e = .returned v ∧ (v = wv r ∧ Gr w w') := by
 have lt1 := hp1.lth
 unfold ref04_ValueOf at hm
 refine calls_of_sw 32 Tryz.func274 rfl rfl rfl<|qs 1 rfl<|qm rfl<|qd 1 rfl ?_
 refine qm rfl<|qd 1 rfl<|qm rfl<|sd_done<|sw_seq ?_
 refine qs 1 rfl<|qm rfl<|sd_done<|sw_block<|sw_loopD (α := Nat × BitVec 64 × BitVec 64 × Int) (rg 7 24) (fun ⟨n1, a4, a5, a6⟩ => [(7, wv a4), (8, wv a5), (9, .int .i64 a6)]) (fun ⟨n1, a4, a5, a6⟩ wr => (fixN (ref04_ValueOf_L1 p0 p1 p2) n1 (a4, a5, a6) = some r) ∧ Kz [] w wr) (fun ⟨n1, a4, a5, a6⟩ => n1) ⟨FUEL, 0#64, 1#64, 0⟩ ?_ ?_ ?_
 · exact sbq
 · exact ⟨hm, Kz.refl _ _⟩
 clear hm; rintro ⟨n1, a4, a5, a6⟩ w1 ⟨hm, K1⟩
 have z2 := K1.size
 have hb := fix_succ hm; clear hm; obtain ⟨n1, rfl, hm⟩ := hb
 generalize hrec1 : fixN (ref04_ValueOf_L1 p0 p1 p2) n1 = rec1 at hm
 unfold ref04_ValueOf_L1 at hm
 try dsimp only at hm
 refine sw_seq<|qs 4 rfl<|qm rfl<|qm rfl ?_
 have B3 := (hp1.kz K1)
 refine qv rfl (vv_lenT (l := p1) (c := uwc) Tryz.underlying308 rfl B3)<|qv rfl (vv_lss (a := a6) (b := (p1.length : Int)) rfl rfl)<|sd_done<|cnF rfl (fun c1 => ?_) (fun c1 => ?_)
 · replace hm := iF c1 hm
   refine sw_exit<|then_x<|then_x<|block_x<|then_n<|qs 2 rfl ?_
   refine qm rfl<|qm rfl<|sd_done<|sw_ret ?_
   have X5 := ((Gr.refl w).kz K1)
   cases hm
   refine ⟨_, _, rfl, res_1 rfl (rv_tmp rfl), ?_⟩
   exact ⟨rfl, X5⟩
 replace hm := iT c1 hm
 refine qu<|sw_seq<|sw_block<|qs 11 rfl<|qm rfl ?_
 refine qm rfl<|qm rfl ?_
 obtain ⟨y7, hy7, hm⟩ := bnd hm
 refine qv rfl (vv_ixT (i := a6) Tryz.underlying308 (one_24).siz rfl B3 rfl hy7)<|qv rfl (vv_el1T (q := 0) (u := wv y7) one_24 rfl B3 hy7 (by first | rfl | omega) rfl)<|qm rfl<|qv rfl (vv_umul (a := y7) (b := a5) rfl rfl)<|qv rfl (vv_uadd (a := a4) (b := y7 * a5) rfl rfl)<|qm rfl ?_
 obtain ⟨x8, hx8, hm⟩ := bnd hm
 refine qv rfl (vv_remU (c := a4 + (y7 * a5)) (d := p0) rfl rfl hx8)<|qm rfl<|sd_done<|qg 6 rfl<|qm rfl<|qm rfl<|qv rfl (vv_umul (a := a5) (b := p2) rfl rfl) ?_
 refine qm rfl ?_
 obtain ⟨x9, hx9, hm⟩ := bnd hm
 refine qv rfl (vv_remU (c := a5 * p2) (d := p0) rfl rfl hx9)<|qm rfl<|sd_nil<|block_n<|then_n<|qg 3 rfl<|qm rfl ?_
 refine qv rfl (vv_add (k := .i64) (a := a6) (b := 1) rfl rfl)<|qm rfl<|sd_nil ?_
 have K_4 : Kz [] w w1 := K1
 subst hrec1
 exact ⟨rfl, ⟨n1, x8, x9, w64 (a6 + 1)⟩, sbq, ⟨hm, K_4⟩, Nat.lt_succ_self _⟩
theorem ref04_MaskKey_w {p0 r} (hm : ref04_MaskKey p0 = some r) {w : World} :
    Calls Tryz.prog 275 [wv p0].toArray w fun e w' => ∃ v, e = .returned v ∧ (v = kv r ∧ Gr w w') := by
 unfold ref04_MaskKey at hm
 refine calls_of_sw 6 Tryz.func275 rfl rfl rfl<|qs 1 rfl<|qe rfl (ev_alloc (cs := kb k0) zv_23 rfl) ?_
 rintro _ w1 ⟨b1, rfl, hbw1, Bw1, G1⟩
 have z1 := G1.size
 have lt2 := Bw1.lt
 refine qd 4 rfl<|qv rfl (vv_buildZ bz_23)<|qm rfl<|qe rfl (eC en_103 rfl (rderive_c k0 (un8 42#8) (un8_nn _) (un8_le _) p0 _)) ?_
 rintro _ w2 ⟨rfl, G2⟩
 have z3 := G2.size
 have B4 := (Bw1.gr G2)
 refine qe rfl (ev_stW agg_23 rfl rfl rfl B4 rfl rfl) ?_
 rintro _ w3 ⟨Bw3, M3⟩
 have z5 := M3.size
 refine sd_done<|sw_ret ?_
 have X6 := ((((Gr.refl w).trans G1).trans G2).md M3)
 cases hm
 refine ⟨_, _, rfl, res_1 rfl (rv_cellW agg_23 rfl Bw3 rfl), ?_⟩
 exact ⟨rfl, X6⟩
theorem ref04_SealOf_w {p0 p1 p2 p3 p4 vp2 zp2 gp2 op2 r} (hm : ref04_SealOf p0 p1 p2 p3 p4 = some r) {w : World} (hp2 : Rd w zp2 gp2 op2 1 vp2 (p2.map ic)) :
    Calls Tryz.prog 176 [kv p0, .agg (TScheme.cs p1).toArray, vp2, kv p3, wv p4].toArray w fun e w' => ∃ v, e = .returned v ∧ (∃ ur0_0 zr0_0 gr0_0 ur0_2 zr0_2 gr0_2, v = .agg (THeader.cs r ur0_0 ur0_2).toArray ∧ Own w' zr0_0 gr0_0 173 18 ur0_0 (r.Items.map TItem.cs) ∧ Hdn (zr0_0 = 0 ∨ w.heap.size ≤ gr0_0) ∧ Own w' zr0_2 gr0_2 50 2 ur0_2 (r.Points.map TPoint.cs) ∧ Hdn (zr0_2 = 0 ∨ w.heap.size ≤ gr0_2) ∧ Hdn (zr0_2 = 0 ∨ zr0_0 = 0 ∨ gr0_2 ≠ gr0_0) ∧ Gr w w') := by
 have lt1 := hp2.lth
 unfold ref04_SealOf at hm
 refine calls_of_sw 96 Tryz.func176 rfl rfl rfl<|qs 4 rfl<|qe rfl (ev_box (cs := kb p0) rfl rfl) ?_
 rintro _ w1 ⟨b1, rfl, hbw1, Bw1, G1⟩
 have z2 := G1.size
 have lt3 := Bw1.lt
 refine qe rfl (ev_box (cs := TScheme.cs p1) rfl rfl) ?_
 rintro _ w2 ⟨b2, rfl, hbw2, Bw2, G2⟩
 have z4 := G2.size
 have lt5 := Bw2.lt
 refine qe rfl (ev_box (cs := kb p3) rfl rfl) ?_
 rintro _ w3 ⟨b3, rfl, hbw3, Bw3, G3⟩
 have z6 := G3.size
 have lt7 := Bw3.lt
 refine qe rfl (ev_alloc (cs := THeader.cs (THeader.mk [] 0#64 [] k0 k0) (.slice none 0 0) (.slice none 0 0)) zv_36 rfl) ?_
 rintro _ w4 ⟨b4, rfl, hbw4, Bw4, G4⟩
 have z8 := G4.size
 have lt9 := Bw4.lt
 refine sd_done<|sw_seq<|dw [([])] [] (.leaf [(0,10),(1,10),(2,10),(3,10),(4,10),(5,10),(6,10),(7,10)]) ?_
 intro w5 G5 zw5
 refine sdz_leaf<|dh 0 rfl rfl (fun w hS => vv_fieldAddr fa_28_3 rfl)<|dh 0 rfl rfl (fun w hS => vv_fieldAddr fa_26_0 rfl) ?_
 have Y1 := Gr.trans (Gr.trans G3 G4) G5
 have B10 := (Bw2.gr Y1)
 refine dh 0 rfl rfl (fun w hS => vv_load1 (v := wv p1.Group.P) one_24 rfl (Bx.kp B10 hS) rfl)<|dh 0 rfl rfl (fun w hS => vv_fieldAddr fa_28_3 rfl)<|dh 0 rfl rfl (fun w hS => vv_fieldAddr fa_26_1 rfl)<|dh 0 rfl rfl (fun w hS => vv_load1 (v := wv p1.Group.Q) one_24 rfl (Bx.kp B10 hS) rfl)<|dm 0 rfl rfl<|dm 0 rfl rfl<|sd_done ?_
 refine qs 4 rfl ?_
 have B11 := ((Bw1.gr G2).gr Y1)
 refine qv rfl (vv_loadW agg_23 rfl B11 rfl)<|qv rfl (vv_loadW agg_28 rfl B10 rfl) ?_
 obtain ⟨x1, hx1, hm⟩ := bnd hm
 refine qe rfl (eC en_271 rfl (ref04_CoefficientsOf_w hx1)) ?_
 rintro u6_r0_s w6 ⟨_, z6_r0_s, g6_r0_s, rfl, O6_r0_s, f6_r0_s, G6⟩
 have z12 := G6.size
 have lt13 := O6_r0_s.lth
 refine qm rfl<|qd 8 rfl ?_
 have B14 := (B11.gr G6)
 refine qv rfl (vv_loadW agg_23 rfl B14 rfl)<|qm rfl<|qe rfl (eC en_103 rfl (rderive_c p0 (un8 41#8) (un8_nn _) (un8_le _) p4 _)) ?_
 rintro _ w7 ⟨rfl, G7⟩
 have z15 := G7.size
 refine qm rfl<|qv rfl (vv_usub (a := p1.Group.Q) (b := 1#64) rfl rfl) ?_
 obtain ⟨x2, hx2, hm⟩ := bnd hm
 refine qe rfl (eC en_272 rfl (ref02_Number_w hx2)) ?_
 rintro _ w8 ⟨rfl, G8⟩
 have z16 := G8.size
 refine qv rfl (vv_uadd (a := 1#64) (b := x2) rfl rfl)<|qm rfl<|sd_done ?_
 have Y2 := Gr.trans (Gr.trans (Gr.trans (Gr.trans (Gr.trans G1 G2) Y1) G6) G7) G8
 have X17 := ((Gr.refl w).trans Y2)
 refine qj (β := BitVec 64 × Nat × Value × Nat × Nat × Value × Nat × Nat) ([15] ++ rg 34 9) (fun ⟨a4, bq3, vy5, zy5, gy5, vy6, zy6, gy6⟩ => [(15, .pointer (some ⟨bq3, 0, none⟩))]) (fun ⟨a4, bq3, vy5, zy5, gy5, vy6, zy6, gy6⟩ wr => (ref04_SealOf_J1 p1 p2 p3 x1 a4 = some r) ∧ Own wr zy5 gy5 173 18 vy5 ([].map TItem.cs) ∧ Hdn (zy5 = 0 ∨ w8.heap.size ≤ gy5) ∧ Own wr zy6 gy6 50 2 vy6 ([].map TPoint.cs) ∧ Hdn (zy6 = 0 ∨ w8.heap.size ≤ gy6) ∧ Bx wr bq3 36 (THeader.cs (THeader.mk [] a4 [] k0 (drv p3 (un8 53#8) 0#64)) vy5 vy6) ∧ w8.heap.size ≤ bq3 ∧ Hdn (zy6 = 0 ∨ zy5 = 0 ∨ gy6 ≠ gy5) ∧ Hdn (zy5 = 0 ∨ gy5 ≠ bq3) ∧ Hdn (zy6 = 0 ∨ gy6 ≠ bq3) ∧ Kz [] w8 wr) ?_ ?_
 · refine dw [([])] [] (.fork [(0,10),(1,10),(2,10),(3,10),(4,10),(6,10)] (.fork [(5,0)] (.leaf [(7,0),(8,10),(9,0),(10,0)]) (.leaf [(9,0),(7,0),(8,10),(10,0)])) (.leaf [(9,0),(5,0),(7,0),(8,10),(10,0)])) ?_
   intro w26 G26 zw26
   refine sdz_fork<|dh 0 rfl rfl (fun w hS => vv_fieldAddr fa_28_3 rfl)<|dh 0 rfl rfl (fun w hS => vv_fieldAddr fa_26_2 rfl) ?_
   have Y3 := Gr.trans (Gr.trans (Gr.trans G6 G7) G8) G26
   have B66 := (B10.gr Y3)
   refine dh 0 rfl rfl (fun w hS => vv_load1 (v := wv p1.Group.G) one_24 rfl (Bx.kp B66 hS) rfl)<|dm 0 rfl rfl<|dm 0 rfl rfl ?_
   have B67 := (((Bw3.gr G4).gr G5).gr Y3)
   refine dh 0 rfl rfl (fun w hS => vv_loadW agg_23 rfl (Bx.kp B67 hS) rfl)<|sd_fork ?_ ?_
   · refine sdz_fork ?_
     obtain ⟨x22, hx22, hm⟩ := bnd hm
     refine qz [] rfl (eC en_273 rfl (ref01_Power_w hx22)) ⟨fun _ => tk0, trivial⟩ ?_
     rintro _ w27 ⟨rfl, G27⟩
     have z68 := G27.size
     refine kG G27<|sd_fork ?_ ?_
     · refine sdz_leaf<|qz [] rfl (eC en_103 rfl (rderive_c p3 (un8 53#8) (un8_nn _) (un8_le _) 0#64 _)) ⟨fun _ => tk0, trivial⟩ ?_
       rintro _ w28 ⟨rfl, G28⟩
       have z69 := G28.size
       refine kG G28 ?_
       have S70 := (((Kp.refl ([]) w26).gr G27).gr G28)
       refine qh 0 rfl rfl S70 (fun w hS => vv_build (cs := THeader.cs (THeader.mk [] x22 [] k0 (drv p3 (un8 53#8) 0#64)) (.slice none 0 0) (.slice none 0 0)) bs_36 rfl (by obtain ⟨kk0, hk0⟩ := ex_of (drv p3 (un8 53#8) 0#64); rw [← hk0]; exact (fill_M rfl rfl rfl (fill_M rfl rfl rfl (by kernel_rfl)))))<|qz [] rfl (ev_alloc (cs := THeader.cs (THeader.mk [] 0#64 [] k0 k0) (.slice none 0 0) (.slice none 0 0)) zv_36 rfl) ⟨fun _ => tk0, trivial⟩ ?_
       rintro _ w29 ⟨b29, rfl, hbw29, Bw29, G29⟩
       have z71 := G29.size
       have lt72 := Bw29.lt
       refine kG G29<|qz [(1, b29)] rfl (ev_stW agg_36 rfl rfl (THeader.cs_ones _ _ _ rfl rfl) Bw29 rfl rfl) ⟨fun _ => tk0, trivial⟩ ?_
       rintro _ w30 ⟨Bw30, M30⟩
       have z73 := M30.size
       refine kM M30<|sd_nil ?_
       exact ⟨rfl, ⟨x22, b29, (.slice none 0 0), 0, 0, (.slice none 0 0), 0, 0⟩, sbq, hm, (own_nil _ 0 173 18), ⟨(.inl rfl)⟩, (own_nil _ 0 50 2), ⟨(.inl rfl)⟩, Bw30, (by omega), ⟨(.inl rfl)⟩, ⟨.inl rfl⟩, ⟨.inl rfl⟩, (((((kz0.gr G26).gr G27).gr G28).gr G29).md M30)⟩
     refine sdz_leaf<|qz [] rfl (ev_alloc (cs := THeader.cs (THeader.mk [] 0#64 [] k0 k0) (.slice none 0 0) (.slice none 0 0)) zv_36 rfl) ⟨fun _ => tk0, trivial⟩ ?_
     rintro _ w31 ⟨b31, rfl, hbw31, Bw31, G31⟩
     have z75 := G31.size
     have lt76 := Bw31.lt
     refine kG G31<|qz [] rfl (eC en_103 rfl (rderive_c p3 (un8 53#8) (un8_nn _) (un8_le _) 0#64 _)) ⟨fun _ => tk0, trivial⟩ ?_
     rintro _ w32 ⟨rfl, G32⟩
     have z77 := G32.size
     refine kG G32 ?_
     have S78 := ((((Kp.refl ([]) w26).gr G27).gr G31).gr G32)
     refine qh 0 rfl rfl S78 (fun w hS => vv_build (cs := THeader.cs (THeader.mk [] x22 [] k0 (drv p3 (un8 53#8) 0#64)) (.slice none 0 0) (.slice none 0 0)) bs_36 rfl (by obtain ⟨kk0, hk0⟩ := ex_of (drv p3 (un8 53#8) 0#64); rw [← hk0]; exact (fill_M rfl rfl rfl (fill_M rfl rfl rfl (by kernel_rfl))))) ?_
     have B79 := (Bw31.gr G32)
     refine qz [(1, b31)] rfl (ev_stW agg_36 rfl rfl (THeader.cs_ones _ _ _ rfl rfl) B79 rfl rfl) ⟨fun _ => tk0, trivial⟩ ?_
     rintro _ w33 ⟨Bw33, M33⟩
     have z80 := M33.size
     refine kM M33<|sd_nil ?_
     exact ⟨rfl, ⟨x22, b31, (.slice none 0 0), 0, 0, (.slice none 0 0), 0, 0⟩, sbq, hm, (own_nil _ 0 173 18), ⟨(.inl rfl)⟩, (own_nil _ 0 50 2), ⟨(.inl rfl)⟩, Bw33, (by omega), ⟨(.inl rfl)⟩, ⟨.inl rfl⟩, ⟨.inl rfl⟩, (((((kz0.gr G26).gr G27).gr G31).gr G32).md M33)⟩
   refine sdz_leaf<|qz [] rfl (ev_alloc (cs := THeader.cs (THeader.mk [] 0#64 [] k0 k0) (.slice none 0 0) (.slice none 0 0)) zv_36 rfl) ⟨fun _ => tk0, trivial⟩ ?_
   rintro _ w34 ⟨b34, rfl, hbw34, Bw34, G34⟩
   have z82 := G34.size
   have lt83 := Bw34.lt
   refine kG G34 ?_
   obtain ⟨x23, hx23, hm⟩ := bnd hm
   refine qz [] rfl (eC en_273 rfl (ref01_Power_w hx23)) ⟨fun _ => tk0, trivial⟩ ?_
   rintro _ w35 ⟨rfl, G35⟩
   have z84 := G35.size
   refine kG G35<|qz [] rfl (eC en_103 rfl (rderive_c p3 (un8 53#8) (un8_nn _) (un8_le _) 0#64 _)) ⟨fun _ => tk0, trivial⟩ ?_
   rintro _ w36 ⟨rfl, G36⟩
   have z85 := G36.size
   refine kG G36 ?_
   have S86 := ((((Kp.refl ([]) w26).gr G34).gr G35).gr G36)
   refine qh 0 rfl rfl S86 (fun w hS => vv_build (cs := THeader.cs (THeader.mk [] x23 [] k0 (drv p3 (un8 53#8) 0#64)) (.slice none 0 0) (.slice none 0 0)) bs_36 rfl (by obtain ⟨kk0, hk0⟩ := ex_of (drv p3 (un8 53#8) 0#64); rw [← hk0]; exact (fill_M rfl rfl rfl (fill_M rfl rfl rfl (by kernel_rfl))))) ?_
   have B87 := ((Bw34.gr G35).gr G36)
   refine qz [(1, b34)] rfl (ev_stW agg_36 rfl rfl (THeader.cs_ones _ _ _ rfl rfl) B87 rfl rfl) ⟨fun _ => tk0, trivial⟩ ?_
   rintro _ w37 ⟨Bw37, M37⟩
   have z88 := M37.size
   refine kM M37<|sd_nil ?_
   exact ⟨rfl, ⟨x23, b34, (.slice none 0 0), 0, 0, (.slice none 0 0), 0, 0⟩, sbq, hm, (own_nil _ 0 173 18), ⟨(.inl rfl)⟩, (own_nil _ 0 50 2), ⟨(.inl rfl)⟩, Bw37, (by omega), ⟨(.inl rfl)⟩, ⟨.inl rfl⟩, ⟨.inl rfl⟩, (((((kz0.gr G26).gr G34).gr G35).gr G36).md M37)⟩
 clear hm; rintro ⟨a4, bq3, vy5, zy5, gy5, vy6, zy6, gy6⟩ w9 ⟨hm, Fw9_0, Fw9_1, Fw9_2, Fw9_3, Fw9_4, Fw9_5, Fw9_6, Fw9_7, Fw9_8, K9⟩
 have z18 := K9.size
 have lt19 := Fw9_0.lth
 have lt20 := Fw9_2.lth
 have lt21 := Fw9_4.lt
 unfold ref04_SealOf_J1 at hm
 refine sw_seq<|qs 1 rfl<|qm rfl<|sd_done<|sw_block ?_
 have X22 := (X17.kz K9)
 have B23 := ((hp2.gr Y2).kz K9)
 have Y4 := Gr.trans G7 G8
 have B24 := ((O6_r0_s.gr Y4).kz K9)
 refine sw_loopD (α := Nat × Int × List TPoint × Value × Nat × Nat) ([16, 17] ++ rg 43 41) (fun ⟨n2, a10, a11, vy12, zy12, gy12⟩ => [(16, .int .i64 a10)]) (fun ⟨n2, a10, a11, vy12, zy12, gy12⟩ wr => (fixN (ref04_SealOf_L2 p1 p2 p3 x1 a4) n2 (a10, a11) = some r) ∧ Own wr zy12 gy12 50 2 vy12 (a11.map TPoint.cs) ∧ Hdn (zy12 = 0 ∨ (gy12 = gy6 ∧ zy6 ≠ 0) ∨ w9.heap.size ≤ gy12) ∧ Bx wr bq3 36 (THeader.cs (THeader.mk [] a4 a11 k0 (drv p3 (un8 53#8) 0#64)) vy5 vy12) ∧ Kz [(1, bq3), (zy6, gy6)] w9 wr) (fun ⟨n2, a10, a11, vy12, zy12, gy12⟩ => n2) ⟨FUEL, 0, [], vy6, zy6, gy6⟩ ?_ ?_ ?_
 · exact sbq
 · exact ⟨hm, Fw9_2, ⟨tk0⟩, Fw9_4, Kz.refl _ _⟩
 clear hm; rintro ⟨n2, a10, a11, vy12, zy12, gy12⟩ w10 ⟨hm, Fw10_0, Fw10_1, Fw10_2, K10⟩
 have z25 := K10.size
 have lt26 := Fw10_0.lth
 have lt27 := Fw10_2.lt
 have hb := fix_succ hm; clear hm; obtain ⟨n2, rfl, hm⟩ := hb
 generalize hrec2 : fixN (ref04_SealOf_L2 p1 p2 p3 x1 a4) n2 = rec2 at hm
 unfold ref04_SealOf_L2 at hm
 try dsimp only at hm
 refine sw_seq<|qs 4 rfl<|qm rfl<|qv rfl (vv_fieldAddr fa_28_2 rfl) ?_
 have Y5 := Gr.trans G6 Y4
 have B28 := (((B10.gr Y5).kz K9).kz K10 (tk1 (pb_0 (b := b2) Fw9_3)))
 refine qv rfl (vv_load1 (v := .int .i64 p1.Degree) one_3 rfl B28 rfl)<|qv rfl (vv_lss (a := a10) (b := p1.Degree) rfl rfl)<|sd_done<|cnF rfl (fun c1 => ?_) (fun c1 => ?_)
 · replace hm := iF c1 hm
   refine sw_exit<|then_x<|then_x<|block_x<|then_n<|sw_seq<|dw [([bq3]),([])] [(11, [1])] (.leaf [(0,10),(1,11),(2,10),(3,10),(5,10),(8,10),(4,0),(6,0),(7,0),(9,0),(10,10),(11,0)]) ?_
   intro w19 G19 zw19
   refine sdz_leaf<|dh 0 rfl rfl (fun w hS => vv_fieldAddr fa_36_1 rfl) ?_
   have B49 := (Fw10_2.gr G19)
   refine dh 1 rfl rfl (fun w hS => vv_load1 (v := wv a4) one_24 rfl (Bx.kp B49 hS) rfl)<|dm 0 rfl rfl<|dm 0 rfl rfl<|dm 0 rfl rfl ?_
   have Y6 := Gr.trans (Gr.trans G4 G5) Y5
   have B50 := ((((Bw3.gr Y6).kz K9).kz K10 (tk1 (pb_0 (b := b3) Fw9_3))).gr G19)
   refine dh 0 rfl rfl (fun w hS => vv_loadW agg_23 rfl (Bx.kp B50 hS) rfl) ?_
   have B51 := ((B24.kz K10 (tk2 ((pv_sw (pv_0 (A := (fun x => z6_r0_s = 0 ∨ x ≠ g6_r0_s)) Fw9_3 (fun x hx => (tk1 lt13.o)))) : z6_r0_s = 0 ∨ zy6 = 0 ∨ g6_r0_s ≠ gy6) (pb_lt (b := bq3) lt13))).gr G19)
   obtain ⟨x19, hx19, hm⟩ := bnd hm
   refine qz [] rfl (eC en_274 rfl (ref04_ValueOf_w hx19 (Own.rd B51))) ⟨fun _ => tk0, fun _ => tk0, trivial⟩ ?_
   rintro _ w20 ⟨rfl, G20⟩
   have z52 := G20.size
   refine kG G20 ?_
   obtain ⟨x20, hx20, hm⟩ := bnd hm
   refine qz [] rfl (eC en_273 rfl (ref01_Power_w hx20)) ⟨fun _ => tk0, fun _ => tk0, trivial⟩ ?_
   rintro _ w21 ⟨rfl, G21⟩
   have z53 := G21.size
   refine kG G21 ?_
   obtain ⟨x21, hx21, hm⟩ := bnd hm
   refine qz [] rfl (eC en_275 rfl (ref04_MaskKey_w hx21)) ⟨fun _ => tk0, fun _ => tk0, trivial⟩ ?_
   rintro _ w22 ⟨rfl, G22⟩
   have z54 := G22.size
   refine kG G22<|qz [] rfl (eC en_180 rfl (rencr_c x21 p3 _)) ⟨fun _ => tk0, fun _ => tk0, trivial⟩ ?_
   rintro _ w23 ⟨rfl, G23⟩
   have z55 := G23.size
   refine kG G23 ?_
   have Y7 := Gr.trans (Gr.trans (Gr.trans G20 G21) G22) G23
   have S56 := ((Kp.refl ([bq3]) w19).gr Y7)
   refine qh 0 rfl rfl S56 (fun w hS => vv_fieldAddr fa_36_3 rfl) ?_
   have B57 := (B49.gr Y7)
   refine qz [(1, bq3)] rfl (ev_stM (cs' := THeader.cs (THeader.mk [] a4 a11 (encr x21 p3) (drv p3 (un8 53#8) 0#64)) vy5 vy12) (vs := kb (encr x21 p3)) (agg_23).siz rfl rfl rfl rfl rfl B57 rfl (by obtain ⟨kk0, hk0⟩ := ex_of (drv p3 (un8 53#8) 0#64); rw [← hk0]; obtain ⟨kk1, hk1⟩ := ex_of (encr x21 p3); rw [← hk1]; first | done | rfl)) ⟨fun _ => tk0, nofun, trivial⟩ ?_
   rintro _ w24 ⟨Bw24, M24⟩
   have z58 := M24.size
   refine kM M24<|qd 2 rfl<|qv rfl (vv_loadW agg_36 rfl Bw24 rfl) ?_
   have Y8 := Gr.trans G5 Y5
   have Y9 := Gr.trans G19 Y7
   have B59 := (((((Bw4.gr Y8).kz K9).kz K10 (tk1 (pb_0 (b := b4) Fw9_3))).gr Y9).md M24)
   have B60 := (((Fw9_0.kz K10 (tk2 ((tk1 Fw9_6.o) : zy5 = 0 ∨ zy6 = 0 ∨ gy5 ≠ gy6) ((tk1 Fw9_7.o) : zy5 = 0 ∨ gy5 ≠ bq3))).gr Y9).md M24 (tk1 ((tk1 Fw9_7.o) : zy5 = 0 ∨ gy5 ≠ bq3)))
   have B61 := ((Fw10_0.gr Y9).md M24 (pb_1 Fw10_1 (tk1 Fw9_8.o)))
   refine qe rfl (ev_stW agg_36 rfl rfl (THeader.cs_ones _ _ _ (Own.oneB B60) (Own.oneB B61)) B59 rfl rfl) ?_
   rintro _ w25 ⟨Bw25, M25⟩
   have z62 := M25.size
   refine sd_done<|sw_ret ?_
   have B63 := (B60.md M25 (pb_0 Fw9_1))
   have B64 := (B61.md M25 (pb_1 Fw10_1 (pb_0 Fw9_3)))
   have X65 := ((((X22.kz K10 (tk1 (pv_0 (A := (fun x => w.heap.size ≤ x)) Fw9_3))).trans Y9).md M24).md M25)
   cases hm
   refine ⟨_, _, rfl, res_1 rfl (rv_cellW agg_36 rfl Bw25 rfl), ?_⟩
   exact ⟨vy5, zy5, gy5, vy12, zy12, gy12, rfl, B63, ⟨(pv_0 (A := (fun x => w.heap.size ≤ x)) Fw9_1)⟩, B64, ⟨(pv_1 (A := (fun x => w.heap.size ≤ x)) Fw10_1 (pv_0 (A := (fun x => w.heap.size ≤ x)) Fw9_3))⟩, ⟨(pv_1 (A := (fun x => zy5 = 0 ∨ x ≠ gy5)) Fw10_1 (tk1 Fw9_6.o) (fun x hx => (tk1 lt19.o)))⟩, X65⟩
 replace hm := iT c1 hm
 refine qu<|sw_seq<|sw_block<|qs 11 rfl<|qv rfl (vv_fieldAddr fa_28_1 rfl) ?_
 refine qv rfl (vv_load1 (v := .int .i64 p1.Depth) one_3 rfl B28 rfl) ?_
 obtain ⟨x13, hx13, hm⟩ := bnd hm
 refine qe rfl (eC en_192 rfl (ref03_Receivers_w hx13)) ?_
 rintro _ w11 ⟨rfl, G11⟩
 have z29 := G11.size
 refine qv rfl (vv_add (k := .i64) (a := x13) (b := 1) rfl rfl)<|qm rfl<|qv rfl (vv_add (k := .i64) (a := w64 (x13 + 1)) (b := a10) rfl rfl)<|qm rfl ?_
 have B30 := ((B23.kz K10 (tk2 ((pv_sw (pv_0 (A := (fun x => zp2 = 0 ∨ x ≠ gp2)) Fw9_3 (fun x hx => (tk1 lt1.o)))) : zp2 = 0 ∨ zy6 = 0 ∨ gp2 ≠ gy6) (pb_lt (b := bq3) lt1))).gr G11)
 refine qv rfl (vv_lenT (l := p2) (c := ic) Tryz.underlying31 rfl B30)<|qv rfl (vv_sub (k := .i64) (a := w64 ((w64 (x13 + 1)) + a10)) (b := (p2.length : Int)) rfl rfl)<|qv rfl (vv_cvIU cv_3_24 rfl)<|qm rfl<|sd_done ?_
 have X31 := ((X22.kz K10 (tk1 (pv_0 (A := (fun x => w.heap.size ≤ x)) Fw9_3))).trans G11)
 refine qj (β := BitVec 64) ([17] ++ rg 59 10) (fun a14 => [(17, wv a14)]) (fun a14 wr => (ref04_SealOf_J3 p1 x1 a4 a10 a11 rec2 a14 = some r) ∧ Kz [] w11 wr) ?_ ?_
 · refine qs 4 rfl<|qm rfl<|qm rfl<|qv rfl (vv_lenT (l := p2) (c := ic) Tryz.underlying31 rfl B30)<|qv rfl (vv_lss (a := a10) (b := (p2.length : Int)) rfl rfl)<|sd_done ?_
   refine cnF rfl (fun c2 => ?_) (fun c2 => ?_)
   · replace hm := iF c2 hm
     refine sw_skip ?_
     exact ⟨rfl, (wd (w64 ((w64 ((w64 (x13 + 1)) + a10)) - (p2.length : Int)))), sbq, hm, kz0⟩
   replace hm := iT c2 hm
   refine qg 7 rfl<|qm rfl<|qm rfl ?_
   obtain ⟨y18, hy18, hm⟩ := bnd hm
   refine qv rfl (vv_ixT (i := a10) Tryz.underlying31 (one_3).siz rfl B30 rfl hy18)<|qv rfl (vv_el1T (q := 0) (u := .int .i64 y18) one_3 rfl B30 hy18 (by first | rfl | omega) rfl)<|qv rfl (vv_cvIU cv_3_24 rfl)<|qv rfl (vv_uadd (a := wd y18) (b := 1#64) rfl rfl)<|qm rfl<|sd_nil ?_
   exact ⟨rfl, ((wd y18) + 1#64), sbq, hm, kz0⟩
 clear hm; rintro a14 w12 ⟨hm, K12⟩
 have z32 := K12.size
 unfold ref04_SealOf_J3 at hm
 refine dw [([bq3] ++ zf zy12 gy12),([] ++ zf zy12 gy12)] [(15, [1])] (.leaf [(0,10),(1,11),(2,10),(3,10),(4,11),(5,10),(6,10),(7,10),(9,10),(8,0),(10,0),(11,10),(12,0),(13,0),(14,10),(15,0)]) ?_
 intro w13 G13 zw13
 refine sdz_leaf<|qh 0 rfl rfl (Kp.refl ([bq3] ++ zf zy12 gy12) w13) (fun w hS => vv_fieldAddr fa_36_2 rfl) ?_
 have B33 := (((Fw10_2.gr G11).kz K12).gr G13)
 refine qh 1 rfl rfl (Kp.refl ([] ++ zf zy12 gy12) w13) (fun w hS => vv_load1 (v := vy12) one_34 rfl (Bx.kp B33 hS (tk1 (pb_1 (b := bq3) Fw10_1 (tk1 Fw9_8.o)))) rfl)<|dn 0 rfl rfl (Kp.refl ([bq3] ++ zf zy12 gy12) w13)<|qh 0 rfl rfl (Kp.refl ([bq3] ++ zf zy12 gy12) w13) (fun w hS => vv_fieldAddr fa_36_1 rfl)<|qh 1 rfl rfl (Kp.refl ([] ++ zf zy12 gy12) w13) (fun w hS => vv_load1 (v := wv a4) one_24 rfl (Bx.kp B33 hS (tk1 (pb_1 (b := bq3) Fw10_1 (tk1 Fw9_8.o)))) rfl)<|dn 0 rfl rfl (Kp.refl ([bq3] ++ zf zy12 gy12) w13)<|dn 0 rfl rfl (Kp.refl ([bq3] ++ zf zy12 gy12) w13)<|dn 0 rfl rfl (Kp.refl ([bq3] ++ zf zy12 gy12) w13) ?_
 refine dn 0 rfl rfl (Kp.refl ([bq3] ++ zf zy12 gy12) w13) ?_
 have B34 := ((((B24.kz K10 (tk2 ((pv_sw (pv_0 (A := (fun x => z6_r0_s = 0 ∨ x ≠ g6_r0_s)) Fw9_3 (fun x hx => (tk1 lt13.o)))) : z6_r0_s = 0 ∨ zy6 = 0 ∨ g6_r0_s ≠ gy6) (pb_lt (b := bq3) lt13))).gr G11).kz K12).gr G13)
 obtain ⟨x15, hx15, hm⟩ := bnd hm
 refine qz [] rfl (eC en_274 rfl (ref04_ValueOf_w hx15 (Own.rd B34))) ⟨fun _ => tk0, fun _ => tk0, trivial⟩ ?_
 rintro _ w14 ⟨rfl, G14⟩
 have z35 := G14.size
 refine kG G14 ?_
 obtain ⟨x16, hx16, hm⟩ := bnd hm
 refine qz [] rfl (eC en_273 rfl (ref01_Power_w hx16)) ⟨fun _ => tk0, fun _ => tk0, trivial⟩ ?_
 rintro _ w15 ⟨rfl, G15⟩
 have z36 := G15.size
 refine kG G15 ?_
 have Y10 := Gr.trans G14 G15
 have S37 := ((Kp.refl ([bq3] ++ zf zy12 gy12) w13).gr Y10)
 refine qh 0 rfl rfl S37 (fun w hS => vv_build (cs := TPoint.cs (TPoint.mk a14 x16)) bs_50 rfl rfl)<|qz [] rfl (ev_litT [(TPoint.mk a14 x16)] TPoint.cs bsl_34_1 rfl rfl (ws_of rfl) rfl rfl rfl) ⟨fun _ => tk0, fun _ => tk0, trivial⟩ ?_
 rintro vw16 w16 ⟨gw16, hbw16, Ow16, G16⟩
 have z38 := G16.size
 have lt39 := Ow16.lth
 refine kG G16 ?_
 have B40 := (((((Fw10_0.gr G11).kz K12).gr G13).gr Y10).gr G16)
 obtain ⟨l17, hl17, hm⟩ := bnd hm
 refine qz [(zy12, gy12)] rfl (ev_appT (l := a11) (m := [(TPoint.mk a14 x16)]) (c := TPoint.cs) apt_34 rfl rfl B40 (Own.rd Ow16) hl17 (by decide)) ⟨fun _ => (tk1 (tk0 : zy12 = 0 ∨ (gy12 = gy12 ∧ zy12 ≠ 0) ∨ w13.heap.size ≤ gy12)), fun _ => (tk1 (tk0 : zy12 = 0 ∨ (gy12 = gy12 ∧ zy12 ≠ 0) ∨ w13.heap.size ≤ gy12)), trivial⟩ ?_
 rintro vw17 w17 ⟨zw17, gw17, Ow17, Aw17, qw17, rw17⟩
 have z41 := Aw17.size
 refine ⟨Kz.ofKa Aw17, ?_⟩
 have S42 := ((S37.gr G16).ka Aw17 (tk1 (tk0 : zy12 = 0 ∨ (gy12 = gy12 ∧ zy12 ≠ 0) ∨ w13.heap.size ≤ gy12)))
 refine qh 0 rfl rfl S42 (fun w hS => vv_fieldAddr fa_36_2 rfl) ?_
 have B43 := (((B33.gr Y10).gr G16).ka Aw17 (tk1 (pb_1 (b := bq3) Fw10_1 (tk1 Fw9_8.o))))
 refine qz [(1, bq3)] rfl (ev_st1 (cs' := THeader.cs (THeader.mk [] a4 l17 k0 (drv p3 (un8 53#8) 0#64)) vy5 vw17) (one_34).siz rfl rfl (Own.oneB Ow17) B43 rfl rfl) ⟨fun _ => tk0, nofun, trivial⟩ ?_
 rintro _ w18 ⟨Bw18, M18⟩
 have z44 := M18.size
 refine kM M18<|sd_nil<|block_n<|then_n<|qg 3 rfl<|qm rfl<|qv rfl (vv_add (k := .i64) (a := a10) (b := 1) rfl rfl) ?_
 refine qm rfl<|sd_nil ?_
 have K_45 : Kz [(1, bq3), (zy6, gy6)] w9 w18 := (((((((K10.gr G11).kz K12).gr G13).gr Y10).gr G16).ka Aw17 (tk1 (pv_1 (A := (fun x => (x = gy6 ∧ zy6 ≠ 0) ∨ w9.heap.size ≤ x)) Fw10_1 tk0))).md M18)
 have B46 := (Ow17.md M18 (pb_app rw17 (pb_1 Fw10_1 (tk1 Fw9_8.o))))
 subst hrec2
 exact ⟨rfl, ⟨n2, w64 (a10 + 1), l17, vw17, zw17, gw17⟩, sbq, ⟨hm, B46, ⟨(pv_app (A := (fun x => (x = gy6 ∧ zy6 ≠ 0) ∨ w9.heap.size ≤ x)) rw17 (pv_1 (A := (fun x => (x = gy6 ∧ zy6 ≠ 0) ∨ w9.heap.size ≤ x)) Fw10_1 tk0))⟩, Bw18, K_45⟩, Nat.lt_succ_self _⟩
theorem ref04_Seal_w {p0 p1 p2 p3 p4 vp2 zp2 gp2 op2 r} (hm : ref04_Seal p0 p1 p2 p3 p4 = some r) {w : World} (hp2 : Rd w zp2 gp2 op2 1 vp2 (p2.map ic)) :
    Calls Tryz.prog 99 [kv p0, .agg (TScheme.cs p1).toArray, vp2, kv p3, wv p4].toArray w fun e w' => ∃ v, e = .returned v ∧ (∃ ur0_0 zr0_0 gr0_0 ur0_2 zr0_2 gr0_2, v = .tuple [.agg (THeader.cs r.1 ur0_0 ur0_2).toArray, .int .i64 r.2].toArray ∧ Own w' zr0_0 gr0_0 173 18 ur0_0 (r.1.Items.map TItem.cs) ∧ Hdn (zr0_0 = 0 ∨ w.heap.size ≤ gr0_0) ∧ Own w' zr0_2 gr0_2 50 2 ur0_2 (r.1.Points.map TPoint.cs) ∧ Hdn (zr0_2 = 0 ∨ w.heap.size ≤ gr0_2) ∧ Hdn (zr0_2 = 0 ∨ zr0_0 = 0 ∨ gr0_2 ≠ gr0_0) ∧ Gr w w') := by
 have lt1 := hp2.lth
 unfold ref04_Seal at hm
 refine calls_of_sw 34 Tryz.func99 rfl rfl rfl<|qs 5 rfl<|qe rfl (ev_box (cs := kb p0) rfl rfl) ?_
 rintro _ w1 ⟨b1, rfl, hbw1, Bw1, G1⟩
 have z2 := G1.size
 have lt3 := Bw1.lt
 refine qe rfl (ev_box (cs := TScheme.cs p1) rfl rfl) ?_
 rintro _ w2 ⟨b2, rfl, hbw2, Bw2, G2⟩
 have z4 := G2.size
 have lt5 := Bw2.lt
 refine qe rfl (ev_box (cs := kb p3) rfl rfl) ?_
 rintro _ w3 ⟨b3, rfl, hbw3, Bw3, G3⟩
 have z6 := G3.size
 have lt7 := Bw3.lt
 refine qe rfl (ev_alloc (cs := THeader.cs (THeader.mk [] 0#64 [] k0 k0) (.slice none 0 0) (.slice none 0 0)) zv_36 rfl) ?_
 rintro _ w4 ⟨b4, rfl, hbw4, Bw4, G4⟩
 have z8 := G4.size
 have lt9 := Bw4.lt
 refine qm rfl<|sd_done<|sw_seq<|qs 3 rfl ?_
 have Y1 := Gr.trans G3 G4
 have B10 := (Bw2.gr Y1)
 refine qv rfl (vv_loadW agg_28 rfl B10 rfl) ?_
 obtain ⟨x1, hx1, hm⟩ := bnd hm
 refine qe rfl (eC en_174 rfl (ref04_Valid_w hx1)) ?_
 rintro _ w5 ⟨rfl, G5⟩
 have z11 := G5.size
 refine qv rfl (vv_not rfl)<|sd_done<|sw_cond rfl (fun c1 => ?_) (fun c1 => ?_)
 · replace hm := cnd_t c1 hm
   refine qs 3 rfl<|qv rfl (vv_build (cs := THeader.cs (THeader.mk [] 0#64 [] k0 k0) (.slice none 0 0) (.slice none 0 0)) bs_36 rfl (by kernel_rfl)) ?_
   have B12 := (Bw4.gr G5)
   refine qe rfl (ev_stW agg_36 rfl rfl (THeader.cs_ones _ _ _ rfl rfl) B12 rfl rfl) ?_
   rintro _ w6 ⟨Bw6, M6⟩
   have z13 := M6.size
   refine qm rfl<|qb ?_
   have Y2 := Gr.trans (Gr.trans (Gr.trans G1 G2) Y1) G5
   have X14 := (((Gr.refl w).trans Y2).md M6)
   cases hm
   refine ⟨_, _, rfl, res_2 rfl (rv_cellW agg_36 rfl Bw6 rfl) (rv_tmp rfl), ?_⟩
   exact ⟨(.slice none 0 0), 0, 0, (.slice none 0 0), 0, 0, rfl, (own_nil _ 0 173 18), ⟨.inl rfl⟩, (own_nil _ 0 50 2), ⟨.inl rfl⟩, ⟨(.inl rfl)⟩, X14⟩
 replace hm := cnd_f c1 hm
 refine qu<|sw_seq<|qs 5 rfl<|qv rfl (vv_fieldAddr fa_28_1 rfl) ?_
 have B15 := (B10.gr G5)
 refine qv rfl (vv_load1 (v := .int .i64 p1.Depth) one_3 rfl B15 rfl)<|qm rfl ?_
 have Y3 := Gr.trans (Gr.trans (Gr.trans G1 G2) Y1) G5
 have B16 := (hp2.gr Y3)
 obtain ⟨x2, hx2, hm⟩ := bnd hm
 refine qe rfl (eC en_175 rfl (ref03_IsList_w hx2 B16)) ?_
 rintro _ w7 ⟨rfl, G7⟩
 have z17 := G7.size
 refine qv rfl (vv_not rfl)<|sd_done<|sw_cond rfl (fun c2 => ?_) (fun c2 => ?_)
 · replace hm := cnd_t c2 hm
   refine qs 3 rfl<|qv rfl (vv_build (cs := THeader.cs (THeader.mk [] 0#64 [] k0 k0) (.slice none 0 0) (.slice none 0 0)) bs_36 rfl (by kernel_rfl)) ?_
   have Y4 := Gr.trans G5 G7
   have B18 := (Bw4.gr Y4)
   refine qe rfl (ev_stW agg_36 rfl rfl (THeader.cs_ones _ _ _ rfl rfl) B18 rfl rfl) ?_
   rintro _ w8 ⟨Bw8, M8⟩
   have z19 := M8.size
   refine qm rfl<|qb ?_
   have X20 := ((((Gr.refl w).trans Y3).trans G7).md M8)
   cases hm
   refine ⟨_, _, rfl, res_2 rfl (rv_cellW agg_36 rfl Bw8 rfl) (rv_tmp rfl), ?_⟩
   exact ⟨(.slice none 0 0), 0, 0, (.slice none 0 0), 0, 0, rfl, (own_nil _ 0 173 18), ⟨.inl rfl⟩, (own_nil _ 0 50 2), ⟨.inl rfl⟩, ⟨(.inl rfl)⟩, X20⟩
 replace hm := cnd_f c2 hm
 refine qu<|sw_seq<|qs 5 rfl<|qm rfl ?_
 have B21 := (B16.gr G7)
 refine qv rfl (vv_lenT (l := p2) (c := ic) Tryz.underlying31 rfl B21)<|qv rfl (vv_fieldAddr fa_28_2 rfl) ?_
 have B22 := (B15.gr G7)
 refine qv rfl (vv_load1 (v := .int .i64 p1.Degree) one_3 rfl B22 rfl)<|qv rfl (vv_gtr (a := (p2.length : Int)) (b := p1.Degree) rfl rfl)<|sd_done<|sw_cond rfl (fun c3 => ?_) (fun c3 => ?_)
 · replace hm := iT c3 hm
   refine qs 3 rfl<|qv rfl (vv_build (cs := THeader.cs (THeader.mk [] 0#64 [] k0 k0) (.slice none 0 0) (.slice none 0 0)) bs_36 rfl (by kernel_rfl)) ?_
   have Y5 := Gr.trans G5 G7
   have B23 := (Bw4.gr Y5)
   refine qe rfl (ev_stW agg_36 rfl rfl (THeader.cs_ones _ _ _ rfl rfl) B23 rfl rfl) ?_
   rintro _ w9 ⟨Bw9, M9⟩
   have z24 := M9.size
   refine qm rfl<|qb ?_
   have X25 := ((((Gr.refl w).trans Y3).trans G7).md M9)
   cases hm
   refine ⟨_, _, rfl, res_2 rfl (rv_cellW agg_36 rfl Bw9 rfl) (rv_tmp rfl), ?_⟩
   exact ⟨(.slice none 0 0), 0, 0, (.slice none 0 0), 0, 0, rfl, (own_nil _ 0 173 18), ⟨.inl rfl⟩, (own_nil _ 0 50 2), ⟨.inl rfl⟩, ⟨(.inl rfl)⟩, X25⟩
 replace hm := iF c3 hm
 refine qu<|qs 8 rfl ?_
 have Y6 := Gr.trans (Gr.trans (Gr.trans G2 Y1) G5) G7
 have B26 := (Bw1.gr Y6)
 refine qv rfl (vv_loadW agg_23 rfl B26 rfl)<|qv rfl (vv_loadW agg_28 rfl B22 rfl)<|qm rfl ?_
 have Y7 := Gr.trans (Gr.trans G4 G5) G7
 have B27 := (Bw3.gr Y7)
 refine qv rfl (vv_loadW agg_23 rfl B27 rfl)<|qm rfl ?_
 obtain ⟨x3, hx3, hm⟩ := bnd hm
 refine qe rfl (eC en_176 rfl (ref04_SealOf_w hx3 B21)) ?_
 rintro _ w10 ⟨u10_r0_0, z10_r0_0, g10_r0_0, u10_r0_2, z10_r0_2, g10_r0_2, rfl, O10_r0_0, f10_r0_0, O10_r0_2, f10_r0_2, d10_0, G10⟩
 have z28 := G10.size
 have lt29 := O10_r0_0.lth
 have lt30 := O10_r0_2.lth
 have B31 := (((Bw4.gr G5).gr G7).gr G10)
 refine qe rfl (ev_stW agg_36 rfl rfl (THeader.cs_ones _ _ _ (Own.oneB O10_r0_0) (Own.oneB O10_r0_2)) B31 rfl rfl) ?_
 rintro _ w11 ⟨Bw11, M11⟩
 have z32 := M11.size
 refine qm rfl<|sd_done<|sw_ret ?_
 have B33 := (O10_r0_0.md M11 (pb_0 f10_r0_0))
 have B34 := (O10_r0_2.md M11 (pb_0 f10_r0_2))
 have X35 := (((((Gr.refl w).trans Y3).trans G7).trans G10).md M11)
 cases hm
 refine ⟨_, _, rfl, res_2 rfl (rv_cellW agg_36 rfl Bw11 rfl) (rv_tmp rfl), ?_⟩
 exact ⟨u10_r0_0, z10_r0_0, g10_r0_0, u10_r0_2, z10_r0_2, g10_r0_2, rfl, B33, ⟨(pv_0 (A := (fun x => w.heap.size ≤ x)) f10_r0_0)⟩, B34, ⟨(pv_0 (A := (fun x => w.heap.size ≤ x)) f10_r0_2)⟩, ⟨(tk1 d10_0.o)⟩, X35⟩
end Go.Proofs.YtgdojjniakpadaaGreat.Mx
