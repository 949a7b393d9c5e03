/- Walks that follow mirrors: Ya. Printed by mx.py. -/
import Derived.Test.YtgdojjniakpadaaGreatZc
import Derived.Test.YtgdojjniakpadaaGreatZd
import Derived.Test.YtgdojjniakpadaaGreatZe
import Derived.Test.YtgdojjniakpadaaGreatChecked
set_option linter.unusedVariables false
set_option linter.unusedSimpArgs false
set_option maxRecDepth 100000
set_option maxHeartbeats 2000000
namespace Go.Proofs.YtgdojjniakpadaaGreat.Mx
open Go Go.RowKit Go.Sx
theorem agg_28 : Agg Tryz.prog 28 6 := fun _ => ⟨by kernel_rfl, by kernel_rfl⟩
theorem zv_290 : ZV Tryz.prog 290 (.agg [.int .u8 0, .int .i64 0, .int .i64 0].toArray) := fun _ => by kernel_rfl
theorem fa_28_0 : FA Tryz.prog 28 0 0 := fun _ _ _ => by kernel_rfl
theorem one_5 : One Tryz.prog 5 := fun _ => ⟨by kernel_rfl, by kernel_rfl⟩
theorem fa_28_1 : FA Tryz.prog 28 1 1 := fun _ _ _ => by kernel_rfl
theorem one_3 : One Tryz.prog 3 := fun _ => ⟨by kernel_rfl, by kernel_rfl⟩
theorem zv_28 : ZV Tryz.prog 28 (.agg [.int .u8 0, .int .i64 0, .int .i64 0, .int .u64 0, .int .u64 0, .int .u64 0].toArray) := fun _ => by kernel_rfl
theorem agg_26 : Agg Tryz.prog 26 3 := fun _ => ⟨by kernel_rfl, by kernel_rfl⟩
theorem bs_28 : BS Tryz.prog 28 (fun i => [(0, 1), (1, 1), (2, 1), (3, 3)][i]?) [.int .u8 0, .int .i64 0, .int .i64 0, .int .u64 0, .int .u64 0, .int .u64 0] := bs_mk Tryz.underlying28 zv_28 ⟨rfl, (one_5).siz, rfl, (one_3).siz, rfl, (one_3).siz, rfl, (agg_26).siz, trivial⟩
theorem one_24 : One Tryz.prog 24 := fun _ => ⟨by kernel_rfl, by kernel_rfl⟩
theorem eqc_24 : EqC Tryz.prog 1 24 [.i .u64] := eqc_int Tryz.underlying24 one_24
theorem eqc_26 : EqC Tryz.prog 2 26 [.i .u64, .i .u64, .i .u64] := eqc_struct Tryz.underlying26 (by kernel_rfl) agg_26 (show EqF _ 1 _ _ _ from (eqf_cons (ks1 := [.i .u64]) (ks2 := [.i .u64, .i .u64]) rfl (by simp) (eqc_24.up (by decide)) (eqf_cons (ks1 := [.i .u64]) (ks2 := [.i .u64]) rfl (by simp) (eqc_24.up (by decide)) (eqf_cons (ks1 := [.i .u64]) (ks2 := []) rfl (by simp) (eqc_24.up (by decide)) (eqf_nil _)))))
theorem eqc_3 : EqC Tryz.prog 1 3 [.i .i64] := eqc_int Tryz.underlying3 one_3
theorem eqc_5 : EqC Tryz.prog 1 5 [.i .u8] := eqc_int Tryz.underlying5 one_5
theorem eqc_28 : EqC Tryz.prog 3 28 [.i .u8, .i .i64, .i .i64, .i .u64, .i .u64, .i .u64] := eqc_struct Tryz.underlying28 (by kernel_rfl) agg_28 (show EqF _ 2 _ _ _ from (eqf_cons (ks1 := [.i .u8]) (ks2 := [.i .i64, .i .i64, .i .u64, .i .u64, .i .u64]) rfl (by simp) (eqc_5.up (by decide)) (eqf_cons (ks1 := [.i .i64]) (ks2 := [.i .i64, .i .u64, .i .u64, .i .u64]) rfl (by simp) (eqc_3.up (by decide)) (eqf_cons (ks1 := [.i .i64]) (ks2 := [.i .u64, .i .u64, .i .u64]) rfl (by simp) (eqc_3.up (by decide)) (eqf_cons (ks1 := [.i .u64, .i .u64, .i .u64]) (ks2 := []) rfl (by simp) (eqc_26.up (by decide)) (eqf_nil _))))))
theorem eqt_28 : EqT Tryz.prog 28 [.i .u8, .i .i64, .i .i64, .i .u64, .i .u64, .i .u64] := ⟨by kernel_rfl, agg_28, 3, by decide, eqc_28⟩
theorem bs_290 : BS Tryz.prog 290 (fun i => [(0, 1), (1, 1), (2, 1)][i]?) [.int .u8 0, .int .i64 0, .int .i64 0] := bs_mk Tryz.underlying290 zv_290 ⟨rfl, (one_5).siz, rfl, (one_3).siz, rfl, (one_3).siz, trivial⟩
theorem agg_290 : Agg Tryz.prog 290 3 := fun _ => ⟨by kernel_rfl, by kernel_rfl⟩
theorem fa_290_2 : FA Tryz.prog 290 2 2 := fun _ _ _ => by kernel_rfl
theorem fa_290_1 : FA Tryz.prog 290 1 1 := fun _ _ _ => by kernel_rfl
theorem en_199 : En Tryz.prog 199 := fun _ _ => by kernel_rfl
theorem fa_28_2 : FA Tryz.prog 28 2 2 := fun _ _ _ => by kernel_rfl
theorem fa_28_3 : FA Tryz.prog 28 3 3 := fun _ _ _ => by kernel_rfl
theorem zv_26 : ZV Tryz.prog 26 (.agg [.int .u64 0, .int .u64 0, .int .u64 0].toArray) := fun _ => by kernel_rfl
theorem bs_26 : BS Tryz.prog 26 (fun i => [(0, 1), (1, 1), (2, 1)][i]?) [.int .u64 0, .int .u64 0, .int .u64 0] := bs_mk Tryz.underlying26 zv_26 ⟨rfl, (one_24).siz, rfl, (one_24).siz, rfl, (one_24).siz, trivial⟩
theorem eqt_26 : EqT Tryz.prog 26 [.i .u64, .i .u64, .i .u64] := ⟨by kernel_rfl, agg_26, 2, by decide, eqc_26⟩
theorem en_177 : En Tryz.prog 177 := fun _ _ => by kernel_rfl
theorem agg_171 : Agg Tryz.prog 171 2 := fun _ => ⟨by kernel_rfl, by kernel_rfl⟩
theorem zv_171 : ZV Tryz.prog 171 (.agg [.int .i64 0, .int .i64 0].toArray) := fun _ => by kernel_rfl
theorem fa_171_0 : FA Tryz.prog 171 0 0 := fun _ _ _ => by kernel_rfl
theorem fa_171_1 : FA Tryz.prog 171 1 1 := fun _ _ _ => by kernel_rfl
theorem en_299 : En Tryz.prog 299 := fun _ _ => by kernel_rfl
theorem en_306 : En Tryz.prog 306 := fun _ _ => by kernel_rfl
theorem fa_290_0 : FA Tryz.prog 290 0 0 := fun _ _ _ => by kernel_rfl
theorem cv_298_155 : CV Tryz.prog 298 155 .u64 := fun _ _ _ => by kernel_rfl
theorem en_356 : En Tryz.prog 356 := fun _ _ => by kernel_rfl
theorem en_352 : En Tryz.prog 352 := fun _ _ => by kernel_rfl
theorem en_307 : En Tryz.prog 307 := fun _ _ => by kernel_rfl
theorem en_308 : En Tryz.prog 308 := fun _ _ => by kernel_rfl
theorem en_303 : En Tryz.prog 303 := fun _ _ => by kernel_rfl
theorem zv_298 : ZV Tryz.prog 298 (.int .i64 0) := fun _ => by kernel_rfl
theorem one_298 : One Tryz.prog 298 := fun _ => ⟨by kernel_rfl, by kernel_rfl⟩
theorem en_302 : En Tryz.prog 302 := fun _ _ => by kernel_rfl
theorem one_387 : One Tryz.prog 387 := fun _ => ⟨by kernel_rfl, by kernel_rfl⟩
theorem en_353 : En Tryz.prog 353 := fun _ _ => by kernel_rfl
theorem en_354 : En Tryz.prog 354 := fun _ _ => by kernel_rfl
theorem en_309 : En Tryz.prog 309 := fun _ _ => by kernel_rfl
theorem en_207 : En Tryz.prog 207 := fun _ _ => by kernel_rfl
theorem en_200 : En Tryz.prog 200 := fun _ _ => by kernel_rfl
theorem en_201 : En Tryz.prog 201 := fun _ _ => by kernel_rfl
theorem en_312 : En Tryz.prog 312 := fun _ _ => by kernel_rfl
theorem bs_171 : BS Tryz.prog 171 (fun i => [(0, 1), (1, 1)][i]?) [.int .i64 0, .int .i64 0] := bs_mk Tryz.underlying171 zv_171 ⟨rfl, (one_3).siz, rfl, (one_3).siz, trivial⟩
theorem bsl_202_1 : BSl Tryz.prog 202 1 171 2 [.int .i64 0, .int .i64 0] := bsl_mk Tryz.underlying202 (agg_171).siz zv_171 rfl rfl (by kernel_rfl)
theorem en_301 : En Tryz.prog 301 := fun _ _ => by kernel_rfl
theorem mpt_392 : MpT Tryz.prog 392 298 4 := ⟨Tryz.underlying392, Tryz.underlying298, fun _ => by kernel_rfl⟩
theorem zv_202 : ZV Tryz.prog 202 (.slice none 0 0) := fun _ => by kernel_rfl
theorem en_304 : En Tryz.prog 304 := fun _ _ => by kernel_rfl
theorem one_202 : One Tryz.prog 202 := fun _ => ⟨by kernel_rfl, by kernel_rfl⟩
theorem apt_202 : ApT Tryz.prog 202 171 2 16 := apt_mk Tryz.underlying202 rfl (by kernel_rfl)
theorem en_313 : En Tryz.prog 313 := fun _ _ => by kernel_rfl
theorem en_314 : En Tryz.prog 314 := fun _ _ => by kernel_rfl
theorem en_192 : En Tryz.prog 192 := fun _ _ => by kernel_rfl
theorem en_175 : En Tryz.prog 175 := fun _ _ => by kernel_rfl
theorem en_281 : En Tryz.prog 281 := fun _ _ => by kernel_rfl
theorem en_276 : En Tryz.prog 276 := fun _ _ => by kernel_rfl
theorem en_277 : En Tryz.prog 277 := fun _ _ => by kernel_rfl
theorem en_280 : En Tryz.prog 280 := fun _ _ => by kernel_rfl
theorem en_346 : En Tryz.prog 346 := fun _ _ => by kernel_rfl
theorem en_347 : En Tryz.prog 347 := fun _ _ => by kernel_rfl
theorem en_282 : En Tryz.prog 282 := fun _ _ => by kernel_rfl
theorem zv_3 : ZV Tryz.prog 3 (.int .i64 0) := fun _ => by kernel_rfl
theorem bsl_31_1 : BSl Tryz.prog 31 1 3 1 [.int .i64 0] := bsl_mk Tryz.underlying31 (one_3).siz zv_3 rfl rfl (by kernel_rfl)
theorem apt_31 : ApT Tryz.prog 31 3 1 8 := apt_mk Tryz.underlying31 rfl (by kernel_rfl)
theorem en_345 : En Tryz.prog 345 := fun _ _ => by kernel_rfl
theorem en_279 : En Tryz.prog 279 := fun _ _ => by kernel_rfl
theorem en_179 : En Tryz.prog 179 := fun _ _ => by kernel_rfl
theorem bsl_202_0 : BSl Tryz.prog 202 0 171 2 [] := bsl_nil Tryz.underlying202 (agg_171).siz
theorem en_278 : En Tryz.prog 278 := fun _ _ => by kernel_rfl
theorem en_178 : En Tryz.prog 178 := fun _ _ => by kernel_rfl
theorem zv_36 : ZV Tryz.prog 36 (.agg [.slice none 0 0, .int .u64 0, .slice none 0 0, .int .u8 0, .int .u8 0, .int .u8 0, .int .u8 0, .int .u8 0, .int .u8 0, .int .u8 0, .int .u8 0, .int .u8 0, .int .u8 0, .int .u8 0, .int .u8 0, .int .u8 0, .int .u8 0, .int .u8 0, .int .u8 0, .int .u8 0, .int .u8 0, .int .u8 0, .int .u8 0, .int .u8 0, .int .u8 0, .int .u8 0, .int .u8 0, .int .u8 0, .int .u8 0, .int .u8 0, .int .u8 0, .int .u8 0, .int .u8 0, .int .u8 0, .int .u8 0].toArray) := fun _ => by kernel_rfl
theorem en_128 : En Tryz.prog 128 := fun _ _ => by kernel_rfl
theorem one_33 : One Tryz.prog 33 := fun _ => ⟨by kernel_rfl, by kernel_rfl⟩
theorem one_34 : One Tryz.prog 34 := fun _ => ⟨by kernel_rfl, by kernel_rfl⟩
theorem agg_23 : Agg Tryz.prog 23 16 := fun _ => ⟨by kernel_rfl, by kernel_rfl⟩
theorem bs_36 : BS Tryz.prog 36 (fun i => [(0, 1), (1, 1), (2, 1), (3, 16), (19, 16)][i]?) [.slice none 0 0, .int .u64 0, .slice none 0 0, .int .u8 0, .int .u8 0, .int .u8 0, .int .u8 0, .int .u8 0, .int .u8 0, .int .u8 0, .int .u8 0, .int .u8 0, .int .u8 0, .int .u8 0, .int .u8 0, .int .u8 0, .int .u8 0, .int .u8 0, .int .u8 0, .int .u8 0, .int .u8 0, .int .u8 0, .int .u8 0, .int .u8 0, .int .u8 0, .int .u8 0, .int .u8 0, .int .u8 0, .int .u8 0, .int .u8 0, .int .u8 0, .int .u8 0, .int .u8 0, .int .u8 0, .int .u8 0] := bs_mk Tryz.underlying36 zv_36 ⟨rfl, (one_33).siz, rfl, (one_24).siz, rfl, (one_34).siz, rfl, (agg_23).siz, rfl, (agg_23).siz, trivial⟩
theorem agg_36 : Agg Tryz.prog 36 35 := fun _ => ⟨by kernel_rfl, by kernel_rfl⟩
theorem en_90 : En Tryz.prog 90 := fun _ _ => by kernel_rfl
theorem zv_23 : ZV Tryz.prog 23 (.agg [.int .u8 0, .int .u8 0, .int .u8 0, .int .u8 0, .int .u8 0, .int .u8 0, .int .u8 0, .int .u8 0, .int .u8 0, .int .u8 0, .int .u8 0, .int .u8 0, .int .u8 0, .int .u8 0, .int .u8 0, .int .u8 0].toArray) := fun _ => by kernel_rfl
theorem cv_298_24 : CV Tryz.prog 298 24 .u64 := fun _ _ _ => by kernel_rfl
theorem en_205 : En Tryz.prog 205 := fun _ _ => by kernel_rfl
theorem en_204 : En Tryz.prog 204 := fun _ _ => by kernel_rfl
theorem en_305 : En Tryz.prog 305 := fun _ _ => by kernel_rfl
theorem fa_36_0 : FA Tryz.prog 36 0 0 := fun _ _ _ => by kernel_rfl
theorem en_203 : En Tryz.prog 203 := fun _ _ => by kernel_rfl
theorem en_107 : En Tryz.prog 107 := fun _ _ => by kernel_rfl
theorem zv_173 : ZV Tryz.prog 173 (.agg [.int .i64 0, .int .i64 0, .int .u8 0, .int .u8 0, .int .u8 0, .int .u8 0, .int .u8 0, .int .u8 0, .int .u8 0, .int .u8 0, .int .u8 0, .int .u8 0, .int .u8 0, .int .u8 0, .int .u8 0, .int .u8 0, .int .u8 0, .int .u8 0].toArray) := fun _ => by kernel_rfl
theorem bs_173 : BS Tryz.prog 173 (fun i => [(0, 2), (2, 16)][i]?) [.int .i64 0, .int .i64 0, .int .u8 0, .int .u8 0, .int .u8 0, .int .u8 0, .int .u8 0, .int .u8 0, .int .u8 0, .int .u8 0, .int .u8 0, .int .u8 0, .int .u8 0, .int .u8 0, .int .u8 0, .int .u8 0, .int .u8 0, .int .u8 0] := bs_mk Tryz.underlying173 zv_173 ⟨rfl, (agg_171).siz, rfl, (agg_23).siz, trivial⟩
theorem agg_173 : Agg Tryz.prog 173 18 := fun _ => ⟨by kernel_rfl, by kernel_rfl⟩
theorem bsl_33_1 : BSl Tryz.prog 33 1 173 18 [.int .i64 0, .int .i64 0, .int .u8 0, .int .u8 0, .int .u8 0, .int .u8 0, .int .u8 0, .int .u8 0, .int .u8 0, .int .u8 0, .int .u8 0, .int .u8 0, .int .u8 0, .int .u8 0, .int .u8 0, .int .u8 0, .int .u8 0, .int .u8 0] := bsl_mk Tryz.underlying33 (agg_173).siz zv_173 rfl rfl (by kernel_rfl)
theorem apt_33 : ApT Tryz.prog 33 173 18 32 := apt_mk Tryz.underlying33 rfl (by kernel_rfl)
theorem en_103 : En Tryz.prog 103 := fun _ _ => by kernel_rfl
theorem cv_3_24 : CV Tryz.prog 3 24 .u64 := fun _ _ _ => by kernel_rfl
theorem en_375 : En Tryz.prog 375 := fun _ _ => by kernel_rfl
theorem en_348 : En Tryz.prog 348 := fun _ _ => by kernel_rfl
theorem en_288 : En Tryz.prog 288 := fun _ _ => by kernel_rfl
theorem en_181 : En Tryz.prog 181 := fun _ _ => by kernel_rfl
theorem en_180 : En Tryz.prog 180 := fun _ _ => by kernel_rfl
theorem cover_treeOf_w {p0 r} (hm : cover_treeOf p0 = some r) {w : World} :
    Calls Tryz.prog 199 [.agg (TScheme.cs p0).toArray].toArray w fun e w' => ∃ v, e = .returned v ∧ (v = .tuple [.agg (Tcover_tree.cs r.1).toArray, .bool r.2].toArray ∧ Gr w w') := by
 unfold cover_treeOf at hm
 refine calls_of_sw 51 Tryz.func199 rfl rfl rfl<|qs 3 rfl<|qe rfl (ev_box (cs := TScheme.cs p0) rfl rfl) ?_
 rintro _ w1 ⟨b1, rfl, hbw1, Bw1, G1⟩
 have z1 := G1.size
 have lt2 := Bw1.lt
 refine qe rfl (ev_alloc (cs := Tcover_tree.cs (Tcover_tree.mk 0#8 0 0)) zv_290 rfl) ?_
 rintro _ w2 ⟨b2, rfl, hbw2, Bw2, G2⟩
 have z3 := G2.size
 have lt4 := Bw2.lt
 refine qm rfl<|sd_done<|sw_seq ?_
 have X5 := (((Gr.refl w).trans G1).trans G2)
 refine qj (β := Bool) (rg 5 27) (fun a1 => [(31, .bool a1)]) (fun a1 wr => (cover_treeOf_J1 p0 a1 = some r) ∧ Kz [] w2 wr) ?_ ?_
 · refine qg 27 rfl<|qv rfl (vv_fieldAddr fa_28_0 rfl) ?_
   have B22 := (Bw1.gr G2)
   refine qv rfl (vv_load1 (v := bv p0.Kind) one_5 rfl B22 rfl)<|qv rfl (vv_lssB (p := p0.Kind) (q := 1#8) rfl rfl)<|qp rfl (vv_move rfl) (fun c3 => ?_) (fun c3 => ?_)
   · replace hm := iT c3 hm
     refine qk rfl<|qk rfl<|qk rfl<|qm rfl<|qm rfl<|qk rfl<|qk rfl ?_
     refine qk rfl<|qm rfl<|qm rfl<|qk rfl<|qk rfl<|qk rfl<|qm rfl ?_
     refine qm rfl<|qk rfl<|qk rfl<|qk rfl<|qk rfl<|qk rfl<|qk rfl ?_
     refine qk rfl<|qm rfl<|sd_nil ?_
     exact ⟨rfl, true, sbq, hm, kz0⟩
   replace hm := iF c3 hm
   refine qv rfl (vv_fieldAddr fa_28_0 rfl)<|qv rfl (vv_load1 (v := bv p0.Kind) one_5 rfl B22 rfl)<|qv rfl (vv_gtrB (p := p0.Kind) (q := 3#8) rfl rfl)<|qm rfl<|qp rfl (vv_move rfl) (fun c4 => ?_) (fun c4 => ?_)
   · replace hm := iT c4 hm
     refine qk rfl<|qk rfl<|qk rfl<|qm rfl<|qm rfl<|qk rfl<|qk rfl ?_
     refine qk rfl<|qm rfl<|qm rfl<|qk rfl<|qk rfl<|qk rfl<|qk rfl ?_
     refine qk rfl<|qk rfl<|qk rfl<|qm rfl<|sd_nil ?_
     exact ⟨rfl, true, sbq, hm, kz0⟩
   replace hm := iF c4 hm
   refine qv rfl (vv_fieldAddr fa_28_1 rfl)<|qv rfl (vv_load1 (v := .int .i64 p0.Depth) one_3 rfl B22 rfl)<|qv rfl (vv_lss (a := p0.Depth) (b := 0) rfl rfl)<|qm rfl<|qp rfl (vv_move rfl) (fun c5 => ?_) (fun c5 => ?_)
   · replace hm := iT c5 hm
     refine qk rfl<|qk rfl<|qk rfl<|qm rfl<|qm rfl<|qk rfl<|qk rfl ?_
     refine qk rfl<|qk rfl<|qk rfl<|qk rfl<|qk rfl<|qm rfl<|sd_nil ?_
     exact ⟨rfl, true, sbq, hm, kz0⟩
   replace hm := iF c5 hm
   refine qv rfl (vv_fieldAddr fa_28_1 rfl)<|qv rfl (vv_load1 (v := .int .i64 p0.Depth) one_3 rfl B22 rfl)<|qv rfl (vv_gtr (a := p0.Depth) (b := 6) rfl rfl)<|qm rfl<|qp rfl (vv_move rfl) (fun c6 => ?_) (fun c6 => ?_)
   · replace hm := iT c6 hm
     refine qk rfl<|qk rfl<|qk rfl<|qk rfl<|qk rfl<|qk rfl<|qk rfl ?_
     refine qm rfl<|sd_nil ?_
     exact ⟨rfl, true, sbq, hm, kz0⟩
   replace hm := iF c6 hm
   refine qv rfl (vv_loadW agg_28 rfl B22 rfl)<|qv rfl (vv_fieldAddr fa_28_0 rfl)<|qv rfl (vv_load1 (v := bv p0.Kind) one_5 rfl B22 rfl)<|qv rfl (vv_fieldAddr fa_28_1 rfl)<|qv rfl (vv_load1 (v := .int .i64 p0.Depth) one_3 rfl B22 rfl)<|qv rfl (vv_build (cs := TScheme.cs (TScheme.mk p0.Kind p0.Depth 0 (TGroup.mk 0#64 0#64 0#64))) bs_28 rfl rfl)<|qv rfl (vv_neqS (cf := TScheme.cs) (a := p0) (b := (TScheme.mk p0.Kind p0.Depth 0 (TGroup.mk 0#64 0#64 0#64))) eqt_28 rfl rfl rfl rfl (fun h => TScheme.cs_inj h)) ?_
   refine qm rfl<|sd_nil ?_
   exact ⟨rfl, (decide (p0 ≠ (TScheme.mk p0.Kind p0.Depth 0 (TGroup.mk 0#64 0#64 0#64)))), sbq, hm, kz0⟩
 clear hm; rintro a1 w3 ⟨hm, K3⟩
 have z6 := K3.size
 unfold cover_treeOf_J1 at hm
 refine sw_cond rfl (fun c1 => ?_) (fun c1 => ?_)
 · replace hm := cnd_t c1 hm
   refine qs 3 rfl<|qv rfl (vv_build (cs := Tcover_tree.cs (Tcover_tree.mk 0#8 0 0)) bs_290 rfl rfl) ?_
   have B7 := (Bw2.kz K3)
   refine qe rfl (ev_stW agg_290 rfl rfl rfl B7 rfl rfl) ?_
   rintro _ w4 ⟨Bw4, M4⟩
   have z8 := M4.size
   refine qm rfl<|qb ?_
   have X9 := ((X5.kz K3).md M4)
   cases hm
   refine ⟨_, _, rfl, res_2 rfl (rv_cellW agg_290 rfl Bw4 rfl) (rv_tmp rfl), ?_⟩
   exact ⟨rfl, X9⟩
 replace hm := cnd_f c1 hm
 refine qu<|qs 7 rfl<|qv rfl (vv_fieldAddr fa_28_0 rfl) ?_
 have B10 := ((Bw1.gr G2).kz K3)
 refine qv rfl (vv_load1 (v := bv p0.Kind) one_5 rfl B10 rfl)<|qv rfl (vv_fieldAddr fa_28_1 rfl)<|qv rfl (vv_load1 (v := .int .i64 p0.Depth) one_3 rfl B10 rfl)<|qv rfl (vv_build (cs := Tcover_tree.cs (Tcover_tree.mk p0.Kind p0.Depth 1)) bs_290 rfl rfl)<|qe rfl (ev_alloc (cs := Tcover_tree.cs (Tcover_tree.mk 0#8 0 0)) zv_290 rfl) ?_
 rintro _ w5 ⟨b5, rfl, hbw5, Bw5, G5⟩
 have z11 := G5.size
 have lt12 := Bw5.lt
 refine qe rfl (ev_stW agg_290 rfl rfl rfl Bw5 rfl rfl) ?_
 rintro _ w6 ⟨Bw6, M6⟩
 have z13 := M6.size
 refine sd_done<|sw_seq<|sw_block ?_
 have X14 := (((X5.kz K3).trans G5).md M6)
 refine sw_loopD (α := Nat × Int) (rg 38 12) (fun ⟨n2, a3⟩ => []) (fun ⟨n2, a3⟩ wr => (fixN (cover_treeOf_L2 p0) n2 a3 = some r) ∧ Bx wr b5 290 (Tcover_tree.cs (Tcover_tree.mk p0.Kind p0.Depth a3)) ∧ Kz [(1, b5)] w6 wr) (fun ⟨n2, a3⟩ => n2) ⟨FUEL, 1⟩ ?_ ?_ ?_
 · exact sbq
 · exact ⟨hm, Bw6, Kz.refl _ _⟩
 clear hm; rintro ⟨n2, a3⟩ w7 ⟨hm, Fw7_0, K7⟩
 have z15 := K7.size
 have lt16 := Fw7_0.lt
 have hb := fix_succ hm; clear hm; obtain ⟨n2, rfl, hm⟩ := hb
 generalize hrec2 : fixN (cover_treeOf_L2 p0) n2 = rec2 at hm
 unfold cover_treeOf_L2 at hm
 try dsimp only at hm
 refine sw_seq<|qs 8 rfl<|qv rfl (vv_fieldAddr fa_290_2 rfl)<|qv rfl (vv_load1 (v := .int .i64 a3) one_3 rfl Fw7_0 rfl)<|qv rfl (vv_fieldAddr fa_290_2 rfl)<|qv rfl (vv_load1 (v := .int .i64 a3) one_3 rfl Fw7_0 rfl) ?_
 refine qv rfl (vv_mul (k := .i64) (a := a3) (b := a3) rfl rfl)<|qv rfl (vv_fieldAddr fa_290_1 rfl)<|qv rfl (vv_load1 (v := .int .i64 p0.Depth) one_3 rfl Fw7_0 rfl)<|qv rfl (vv_lss (a := w64 (a3 * a3)) (b := p0.Depth) rfl rfl)<|sd_done<|sw_cond rfl (fun c2 => ?_) (fun c2 => ?_)
 · replace hm := iT c2 hm
   refine qu<|sw_block<|qg 5 rfl<|qv rfl (vv_fieldAddr fa_290_2 rfl)<|qv rfl (vv_load1 (v := .int .i64 a3) one_3 rfl Fw7_0 rfl)<|qv rfl (vv_add (k := .i64) (a := a3) (b := 1) rfl rfl) ?_
   refine qv rfl (vv_fieldAddr fa_290_2 rfl)<|qe rfl (ev_st1 (cs' := Tcover_tree.cs (Tcover_tree.mk p0.Kind p0.Depth (w64 (a3 + 1)))) (one_3).siz rfl rfl rfl Fw7_0 rfl rfl) ?_
   rintro _ w8 ⟨Bw8, M8⟩
   have z17 := M8.size
   refine sd_nil<|block_n ?_
   have K_18 : Kz [(1, b5)] w6 w8 := (K7.md M8)
   subst hrec2
   exact ⟨rfl, ⟨n2, w64 (a3 + 1)⟩, sbq, ⟨hm, Bw8, K_18⟩, Nat.lt_succ_self _⟩
 replace hm := iF c2 hm
 refine sw_exit<|then_x<|then_x<|block_x<|then_n<|qs 3 rfl ?_
 refine qv rfl (vv_loadW agg_290 rfl Fw7_0 rfl) ?_
 have B19 := ((((Bw2.kz K3).gr G5).md M6).kz K7)
 refine qe rfl (ev_stW agg_290 rfl rfl rfl B19 rfl rfl) ?_
 rintro _ w9 ⟨Bw9, M9⟩
 have z20 := M9.size
 refine qm rfl<|sd_done<|sw_ret ?_
 have X21 := ((X14.kz K7).md M9)
 cases hm
 refine ⟨_, _, rfl, res_2 rfl (rv_cellW agg_290 rfl Bw9 rfl) (rv_tmp rfl), ?_⟩
 exact ⟨rfl, X21⟩
theorem cover_Check_w {p0 r} (hm : cover_Check p0 = some r) {w : World} :
    Calls Tryz.prog 128 [.agg (TScheme.cs p0).toArray].toArray w fun e w' => ∃ v, e = .returned v ∧ (v = .int .i64 r ∧ Gr w w') := by
 unfold cover_Check at hm
 refine calls_of_sw 12 Tryz.func128 rfl rfl rfl<|qs 2 rfl<|qe rfl (ev_box (cs := TScheme.cs p0) rfl rfl) ?_
 rintro _ w1 ⟨b1, rfl, hbw1, Bw1, G1⟩
 have z1 := G1.size
 have lt2 := Bw1.lt
 refine qm rfl<|sd_done<|sw_seq<|qs 8 rfl<|qv rfl (vv_loadW agg_28 rfl Bw1 rfl) ?_
 obtain ⟨x1, hx1, hm⟩ := bnd hm
 refine qe rfl (eC en_199 rfl (cover_treeOf_w hx1)) ?_
 rintro _ w2 ⟨rfl, G2⟩
 have z3 := G2.size
 refine qm rfl<|qm rfl<|qm rfl<|qe rfl (ev_alloc (cs := Tcover_tree.cs (Tcover_tree.mk 0#8 0 0)) zv_290 rfl) ?_
 rintro _ w3 ⟨b3, rfl, hbw3, Bw3, G3⟩
 have z4 := G3.size
 have lt5 := Bw3.lt
 refine qe rfl (ev_stW agg_290 rfl rfl rfl Bw3 rfl rfl) ?_
 rintro _ w4 ⟨Bw4, M4⟩
 have z6 := M4.size
 refine qm rfl<|qd 2 rfl<|qm rfl<|qv rfl (vv_not rfl)<|sd_done ?_
 refine sw_cond rfl (fun c1 => ?_) (fun c1 => ?_)
 · replace hm := cnd_t c1 hm
   refine qs 1 rfl<|qm rfl<|qb ?_
   have X7 := (((((Gr.refl w).trans G1).trans G2).trans G3).md M4)
   cases hm
   refine ⟨_, _, rfl, res_1 rfl (rv_tmp rfl), ?_⟩
   exact ⟨rfl, X7⟩
 replace hm := cnd_f c1 hm
 refine qu<|qs 1 rfl<|qm rfl<|sd_done<|sw_ret ?_
 have X8 := (((((Gr.refl w).trans G1).trans G2).trans G3).md M4)
 cases hm
 refine ⟨_, _, rfl, res_1 rfl (rv_tmp rfl), ?_⟩
 exact ⟨rfl, X8⟩
theorem ref03_Valid_w {p0 r} (hm : ref03_Valid p0 = some r) {w : World} :
    Calls Tryz.prog 177 [.agg (TScheme.cs p0).toArray].toArray w fun e w' => ∃ v, e = .returned v ∧ (v = .bool r ∧ Gr w w') := by
 unfold ref03_Valid at hm
 refine calls_of_sw 32 Tryz.func177 rfl rfl rfl<|qs 2 rfl<|qe rfl (ev_box (cs := TScheme.cs p0) rfl rfl) ?_
 rintro _ w1 ⟨b1, rfl, hbw1, Bw1, G1⟩
 have z1 := G1.size
 have lt2 := Bw1.lt
 refine qm rfl<|qd 30 rfl<|qv rfl (vv_fieldAddr fa_28_0 rfl)<|qv rfl (vv_load1 (v := bv p0.Kind) one_5 rfl Bw1 rfl)<|qv rfl (vv_geqB (p := p0.Kind) (q := 1#8) rfl rfl) ?_
 refine qpF rfl (vv_move rfl) (fun c1 => ?_) (fun c1 => ?_)
 · replace hm := iF c1 hm
   refine qk rfl<|qk rfl<|qk rfl<|qm rfl<|qm rfl<|qk rfl<|qk rfl ?_
   refine qk rfl<|qm rfl<|qm rfl<|qk rfl<|qk rfl<|qk rfl<|qm rfl ?_
   refine qm rfl<|qk rfl<|qk rfl<|qk rfl<|qm rfl<|qm rfl<|qk rfl ?_
   refine qk rfl<|qk rfl<|qk rfl<|qm rfl<|qm rfl<|sd_done<|sw_ret ?_
   have X8 := ((Gr.refl w).trans G1)
   cases hm
   refine ⟨_, _, rfl, res_1 rfl (rv_tmp rfl), ?_⟩
   exact ⟨rfl, X8⟩
 replace hm := iT c1 hm
 refine qv rfl (vv_fieldAddr fa_28_0 rfl)<|qv rfl (vv_load1 (v := bv p0.Kind) one_5 rfl Bw1 rfl)<|qv rfl (vv_leqB (p := p0.Kind) (q := 3#8) rfl rfl)<|qm rfl<|qpF rfl (vv_move rfl) (fun c2 => ?_) (fun c2 => ?_)
 · replace hm := iF c2 hm
   refine qk rfl<|qk rfl<|qk rfl<|qm rfl<|qm rfl<|qk rfl<|qk rfl ?_
   refine qk rfl<|qm rfl<|qm rfl<|qk rfl<|qk rfl<|qk rfl<|qm rfl ?_
   refine qm rfl<|qk rfl<|qk rfl<|qk rfl<|qk rfl<|qm rfl<|qm rfl ?_
   refine sd_done<|sw_ret ?_
   have X7 := ((Gr.refl w).trans G1)
   cases hm
   refine ⟨_, _, rfl, res_1 rfl (rv_tmp rfl), ?_⟩
   exact ⟨rfl, X7⟩
 replace hm := iT c2 hm
 refine qv rfl (vv_fieldAddr fa_28_1 rfl)<|qv rfl (vv_load1 (v := .int .i64 p0.Depth) one_3 rfl Bw1 rfl)<|qv rfl (vv_geq (a := p0.Depth) (b := 0) rfl rfl)<|qm rfl<|qpF rfl (vv_move rfl) (fun c3 => ?_) (fun c3 => ?_)
 · replace hm := iF c3 hm
   refine qk rfl<|qk rfl<|qk rfl<|qm rfl<|qm rfl<|qk rfl<|qk rfl ?_
   refine qk rfl<|qm rfl<|qm rfl<|qk rfl<|qk rfl<|qk rfl<|qk rfl ?_
   refine qm rfl<|qm rfl<|sd_done<|sw_ret ?_
   have X6 := ((Gr.refl w).trans G1)
   cases hm
   refine ⟨_, _, rfl, res_1 rfl (rv_tmp rfl), ?_⟩
   exact ⟨rfl, X6⟩
 replace hm := iT c3 hm
 refine qv rfl (vv_fieldAddr fa_28_1 rfl)<|qv rfl (vv_load1 (v := .int .i64 p0.Depth) one_3 rfl Bw1 rfl)<|qv rfl (vv_leq (a := p0.Depth) (b := 6) rfl rfl)<|qm rfl<|qpF rfl (vv_move rfl) (fun c4 => ?_) (fun c4 => ?_)
 · replace hm := iF c4 hm
   refine qk rfl<|qk rfl<|qk rfl<|qm rfl<|qm rfl<|qk rfl<|qk rfl ?_
   refine qk rfl<|qk rfl<|qm rfl<|qm rfl<|sd_done<|sw_ret ?_
   have X5 := ((Gr.refl w).trans G1)
   cases hm
   refine ⟨_, _, rfl, res_1 rfl (rv_tmp rfl), ?_⟩
   exact ⟨rfl, X5⟩
 replace hm := iT c4 hm
 refine qv rfl (vv_fieldAddr fa_28_2 rfl)<|qv rfl (vv_load1 (v := .int .i64 p0.Degree) one_3 rfl Bw1 rfl)<|qv rfl (vv_eql (a := p0.Degree) (b := 0) rfl rfl)<|qm rfl<|qpF rfl (vv_move rfl) (fun c5 => ?_) (fun c5 => ?_)
 · replace hm := iF c5 hm
   refine qk rfl<|qk rfl<|qk rfl<|qk rfl<|qm rfl<|qm rfl<|sd_done ?_
   refine sw_ret ?_
   have X4 := ((Gr.refl w).trans G1)
   cases hm
   refine ⟨_, _, rfl, res_1 rfl (rv_tmp rfl), ?_⟩
   exact ⟨rfl, X4⟩
 replace hm := iT c5 hm
 refine qv rfl (vv_fieldAddr fa_28_3 rfl)<|qv rfl (vv_loadM (vs := TGroup.cs p0.Group) agg_26 rfl Bw1 rfl rfl)<|qv rfl (vv_build (cs := TGroup.cs (TGroup.mk 0#64 0#64 0#64)) bs_26 rfl rfl)<|qv rfl (vv_eqlS (cf := TGroup.cs) (a := p0.Group) (b := (TGroup.mk 0#64 0#64 0#64)) eqt_26 rfl rfl rfl rfl (fun h => TGroup.cs_inj h))<|qm rfl<|qm rfl<|sd_done ?_
 refine sw_ret ?_
 have X3 := ((Gr.refl w).trans G1)
 cases hm
 refine ⟨_, _, rfl, res_1 rfl (rv_tmp rfl), ?_⟩
 exact ⟨rfl, X3⟩
theorem ref03_Check_w {p0 r} (hm : ref03_Check p0 = some r) {w : World} :
    Calls Tryz.prog 172 [.agg (TScheme.cs p0).toArray].toArray w fun e w' => ∃ v, e = .returned v ∧ (v = .int .i64 r ∧ Gr w w') := by
 unfold ref03_Check at hm
 refine calls_of_sw 6 Tryz.func172 rfl rfl rfl<|qs 2 rfl<|qe rfl (ev_box (cs := TScheme.cs p0) rfl rfl) ?_
 rintro _ w1 ⟨b1, rfl, hbw1, Bw1, G1⟩
 have z1 := G1.size
 have lt2 := Bw1.lt
 refine qm rfl<|sd_done<|sw_seq<|qs 3 rfl<|qv rfl (vv_loadW agg_28 rfl Bw1 rfl) ?_
 obtain ⟨x1, hx1, hm⟩ := bnd hm
 refine qe rfl (eC en_177 rfl (ref03_Valid_w hx1)) ?_
 rintro _ w2 ⟨rfl, G2⟩
 have z3 := G2.size
 refine qv rfl (vv_not rfl)<|sd_done<|sw_cond rfl (fun c1 => ?_) (fun c1 => ?_)
 · replace hm := cnd_t c1 hm
   refine qs 1 rfl<|qm rfl<|qb ?_
   have X4 := (((Gr.refl w).trans G1).trans G2)
   cases hm
   refine ⟨_, _, rfl, res_1 rfl (rv_tmp rfl), ?_⟩
   exact ⟨rfl, X4⟩
 replace hm := cnd_f c1 hm
 refine qu<|qs 1 rfl<|qm rfl<|sd_done<|sw_ret ?_
 have X5 := (((Gr.refl w).trans G1).trans G2)
 cases hm
 refine ⟨_, _, rfl, res_1 rfl (rv_tmp rfl), ?_⟩
 exact ⟨rfl, X5⟩
theorem cover_tree_size_w {p0 r} (hm : cover_tree_size p0 = some r) {w : World} :
    Calls Tryz.prog 299 [.agg (Tcover_tree.cs p0).toArray].toArray w fun e w' => ∃ v, e = .returned v ∧ (v = .int .i64 r ∧ Gr w w') := by
 unfold cover_tree_size at hm
 refine calls_of_sw 6 Tryz.func299 rfl rfl rfl<|qs 2 rfl<|qe rfl (ev_box (cs := Tcover_tree.cs p0) rfl rfl) ?_
 rintro _ w1 ⟨b1, rfl, hbw1, Bw1, G1⟩
 have z1 := G1.size
 have lt2 := Bw1.lt
 refine qm rfl<|qd 4 rfl<|qv rfl (vv_fieldAddr fa_290_1 rfl)<|qv rfl (vv_load1 (v := .int .i64 p0.depth) one_3 rfl Bw1 rfl) ?_
 obtain ⟨nn1, hnn1, hm⟩ := bnd hm
 refine qv rfl (vv_shlI (a := 1) (b := p0.depth) rfl rfl hnn1)<|qm rfl<|sd_done<|sw_ret ?_
 have X3 := ((Gr.refl w).trans G1)
 cases hm
 refine ⟨_, _, rfl, res_1 rfl (rv_tmp rfl), ?_⟩
 exact ⟨rfl, X3⟩
theorem cover_tree_has_w {p0 p1 r} (hm : cover_tree_has p0 p1 = some r) {w : World} :
    Calls Tryz.prog 306 [.agg (Tcover_tree.cs p0).toArray, .int .i64 p1].toArray w fun e w' => ∃ v, e = .returned v ∧ (v = .bool r ∧ Gr w w') := by
 unfold cover_tree_has at hm
 refine calls_of_sw 14 Tryz.func306 rfl rfl rfl<|qs 2 rfl<|qe rfl (ev_box (cs := Tcover_tree.cs p0) rfl rfl) ?_
 rintro _ w1 ⟨b1, rfl, hbw1, Bw1, G1⟩
 have z1 := G1.size
 have lt2 := Bw1.lt
 refine qm rfl<|qd 10 rfl<|qm rfl<|qv rfl (vv_geq (a := p1) (b := 1) rfl rfl)<|qpF rfl (vv_move rfl) (fun c1 => ?_) (fun c1 => ?_)
 · replace hm := iF c1 hm
   refine qk rfl<|qk rfl<|qk rfl<|qk rfl<|qk rfl<|qm rfl<|qm rfl ?_
   refine sd_done<|sw_ret ?_
   have X5 := ((Gr.refl w).trans G1)
   cases hm
   refine ⟨_, _, rfl, res_1 rfl (rv_tmp rfl), ?_⟩
   exact ⟨rfl, X5⟩
 replace hm := iT c1 hm
 refine qm rfl<|qv rfl (vv_loadW agg_290 rfl Bw1 rfl) ?_
 obtain ⟨x1, hx1, hm⟩ := bnd hm
 refine qe rfl (eC en_299 rfl (cover_tree_size_w hx1)) ?_
 rintro _ w2 ⟨rfl, G2⟩
 have z3 := G2.size
 refine qv rfl (vv_mul (k := .i64) (a := 2) (b := x1) rfl rfl)<|qv rfl (vv_lss (a := p1) (b := w64 (2 * x1)) rfl rfl)<|qm rfl<|qm rfl<|sd_done<|sw_ret ?_
 have X4 := (((Gr.refl w).trans G1).trans G2)
 cases hm
 refine ⟨_, _, rfl, res_1 rfl (rv_tmp rfl), ?_⟩
 exact ⟨rfl, X4⟩
theorem cover_node_level_w {p0 r} (hm : cover_node_level p0 = some r) {w : World} :
    Calls Tryz.prog 352 [.int .i64 p0].toArray w fun e w' => ∃ v, e = .returned v ∧ (v = .int .i64 r ∧ Gr w w') := by
 unfold cover_node_level at hm
 refine calls_of_sw 7 Tryz.func352 rfl rfl rfl<|qs 1 rfl<|qm rfl<|qd 5 rfl ?_
 refine qm rfl<|qv rfl (vv_cvIU cv_298_155 rfl)<|qe rfl (eC en_356 rfl (len_c (un (wd p0)) (un_nonneg _) (by have := un_le (wd p0); omega) _)) ?_
 rintro _ w1 ⟨rfl, G1⟩
 have z1 := G1.size
 refine qv rfl (vv_sub (k := .i64) (a := lg (un (wd p0))) (b := 1) rfl rfl)<|qm rfl<|sd_done<|sw_ret ?_
 have X2 := ((Gr.refl w).trans G1)
 cases hm
 refine ⟨_, _, rfl, res_1 rfl (rv_tmp rfl), ?_⟩
 exact ⟨rfl, X2⟩
theorem cover_node_below_w {p0 p1 r} (hm : cover_node_below p0 p1 = some r) {w : World} :
    Calls Tryz.prog 307 [.int .i64 p0, .int .i64 p1].toArray w fun e w' => ∃ v, e = .returned v ∧ (v = .bool r ∧ Gr w w') := by
 unfold cover_node_below at hm
 refine calls_of_sw 27 Tryz.func307 rfl rfl rfl<|qs 1 rfl<|qm rfl<|sd_done<|sw_seq<|qj (β := Bool) (rg 5 13) (fun a1 => [(17, .bool a1)]) (fun a1 wr => (cover_node_below_J1 p0 p1 a1 = some r) ∧ Kz [] w wr) ?_ ?_
 · refine qg 13 rfl<|qm rfl<|qv rfl (vv_lss (a := p0) (b := 1) rfl rfl)<|qp rfl (vv_move rfl) (fun c2 => ?_) (fun c2 => ?_)
   · replace hm := iT c2 hm
     refine qk rfl<|qk rfl<|qm rfl<|qm rfl<|qk rfl<|qk rfl<|qk rfl ?_
     refine qk rfl<|qk rfl<|qm rfl<|sd_nil ?_
     exact ⟨rfl, true, sbq, hm, kz0⟩
   replace hm := iF c2 hm
   refine qm rfl<|qv rfl (vv_lss (a := p1) (b := 1) rfl rfl)<|qm rfl<|qp rfl (vv_move rfl) (fun c3 => ?_) (fun c3 => ?_)
   · replace hm := iT c3 hm
     refine qk rfl<|qk rfl<|qk rfl<|qk rfl<|qk rfl<|qm rfl<|sd_nil ?_
     exact ⟨rfl, true, sbq, hm, kz0⟩
   replace hm := iF c3 hm
   refine qm rfl ?_
   obtain ⟨x5, hx5, hm⟩ := bnd hm
   refine qe rfl (eC en_352 rfl (cover_node_level_w hx5)) ?_
   rintro _ w4 ⟨rfl, G4⟩
   have z8 := G4.size
   refine qm rfl ?_
   obtain ⟨x6, hx6, hm⟩ := bnd hm
   refine qe rfl (eC en_352 rfl (cover_node_level_w hx6)) ?_
   rintro _ w5 ⟨rfl, G5⟩
   have z9 := G5.size
   refine qv rfl (vv_lss (a := x5) (b := x6) rfl rfl)<|qm rfl<|sd_nil ?_
   exact ⟨rfl, (decide (x5 < x6)), sbq, hm, ((kz0.gr G4).gr G5)⟩
 clear hm; rintro a1 w1 ⟨hm, K1⟩
 have z1 := K1.size
 unfold cover_node_below_J1 at hm
 refine sw_cond rfl (fun c1 => ?_) (fun c1 => ?_)
 · replace hm := cnd_t c1 hm
   refine qs 1 rfl<|qm rfl<|qb ?_
   have X2 := ((Gr.refl w).kz K1)
   cases hm
   refine ⟨_, _, rfl, res_1 rfl (rv_tmp rfl), ?_⟩
   exact ⟨rfl, X2⟩
 replace hm := cnd_f c1 hm
 refine qu<|qs 10 rfl<|qm rfl<|qm rfl ?_
 obtain ⟨x2, hx2, hm⟩ := bnd hm
 refine qe rfl (eC en_352 rfl (cover_node_level_w hx2)) ?_
 rintro _ w2 ⟨rfl, G2⟩
 have z3 := G2.size
 refine qm rfl ?_
 obtain ⟨x3, hx3, hm⟩ := bnd hm
 refine qe rfl (eC en_352 rfl (cover_node_level_w hx3)) ?_
 rintro _ w3 ⟨rfl, G3⟩
 have z4 := G3.size
 refine qv rfl (vv_sub (k := .i64) (a := x2) (b := x3) rfl rfl) ?_
 obtain ⟨nn4, hnn4, hm⟩ := bnd hm
 refine qv rfl (vv_shrI (a := p0) (b := (w64 (x2 - x3))) rfl rfl hnn4)<|qm rfl<|qv rfl (vv_eql (a := shrI p0 nn4) (b := p1) rfl rfl)<|qm rfl<|sd_done<|sw_ret ?_
 have X5 := ((((Gr.refl w).kz K1).trans G2).trans G3)
 cases hm
 refine ⟨_, _, rfl, res_1 rfl (rv_tmp rfl), ?_⟩
 exact ⟨rfl, X5⟩
theorem cover_tree_special_w {p0 p1 r} (hm : cover_tree_special p0 p1 = some r) {w : World} :
    Calls Tryz.prog 308 [.agg (Tcover_tree.cs p0).toArray, .int .i64 p1].toArray w fun e w' => ∃ v, e = .returned v ∧ (v = .bool r ∧ Gr w w') := by
 unfold cover_tree_special at hm
 refine calls_of_sw 11 Tryz.func308 rfl rfl rfl<|qs 2 rfl<|qe rfl (ev_box (cs := Tcover_tree.cs p0) rfl rfl) ?_
 rintro _ w1 ⟨b1, rfl, hbw1, Bw1, G1⟩
 have z1 := G1.size
 have lt2 := Bw1.lt
 refine qm rfl<|sd_done<|sw_seq<|dw [([])] [] (.leaf [(0,10),(2,10),(3,10),(1,0),(4,10),(5,10),(6,10)]) ?_
 intro w2 G2 zw2
 refine sdz_leaf<|dm 0 rfl rfl<|dh 0 rfl rfl (fun w hS => vv_fieldAddr fa_290_2 rfl) ?_
 have B3 := (Bw1.gr G2)
 refine dh 0 rfl rfl (fun w hS => vv_load1 (v := .int .i64 p0.stride) one_3 rfl (Bx.kp B3 hS) rfl) ?_
 obtain ⟨x1, hx1, hm⟩ := bnd hm
 refine qz [] rfl (eC en_352 rfl (cover_node_level_w hx1)) ⟨fun _ => tk0, trivial⟩ ?_
 rintro _ w3 ⟨rfl, G3⟩
 have z4 := G3.size
 refine kG G3 ?_
 obtain ⟨x2, hx2, hm⟩ := bnd hm
 have S5 := ((Kp.refl ([]) w2).gr G3)
 refine qh 0 rfl rfl S5 (fun w hS => vv_remI (a := x1) (b := p0.stride) rfl rfl hx2)<|qh 0 rfl rfl S5 (fun w hS => vv_eql (a := x2) (b := 0) rfl rfl)<|dn 0 rfl rfl S5<|sd_done<|sw_ret ?_
 have X6 := ((((Gr.refl w).trans G1).trans G2).trans G3)
 cases hm
 refine ⟨_, _, rfl, res_1 rfl (rv_tmp rfl), ?_⟩
 exact ⟨rfl, X6⟩
theorem cover_path_w {p0 p1 r} (hm : cover_path p0 p1 = some r) {w : World} :
    Calls Tryz.prog 303 [.int .i64 p0, .int .i64 p1].toArray w fun e w' => ∃ v, e = .returned v ∧ (∃ bc0 bc1, v = .func (.func 353) #[] [.pointer (some ⟨bc0, 0, none⟩), .pointer (some ⟨bc1, 0, none⟩)].toArray ∧ Bx w' bc0 298 ([.int .i64 r.1]) ∧ (w.heap.size ≤ bc0) ∧ Bx w' bc1 298 ([.int .i64 r.2]) ∧ (w.heap.size ≤ bc1) ∧ Gr w w') := by
 unfold cover_path at hm
 refine calls_of_sw 6 Tryz.func303 rfl rfl rfl<|qs 3 rfl<|qe rfl (ev_box (cs := [.int .i64 p0]) rfl rfl) ?_
 rintro _ w1 ⟨b1, rfl, hbw1, Bw1, G1⟩
 have z1 := G1.size
 have lt2 := Bw1.lt
 refine qe rfl (ev_box (cs := [.int .i64 p1]) rfl rfl) ?_
 rintro _ w2 ⟨b2, rfl, hbw2, Bw2, G2⟩
 have z3 := G2.size
 have lt4 := Bw2.lt
 refine qm rfl<|qd 2 rfl<|qv rfl (vv_makeFunc rfl rfl)<|qm rfl<|sd_done ?_
 refine sw_ret ?_
 have B5 := (Bw1.gr G2)
 have X6 := (((Gr.refl w).trans G1).trans G2)
 cases hm
 refine ⟨_, _, rfl, res_1 rfl (rv_tmp rfl), ?_⟩
 exact ⟨b1, b2, rfl, B5, by omega, Bw2, by omega, X6⟩
theorem cover_node_toward_w {p0 p1 r} (hm : cover_node_toward p0 p1 = some r) {w : World} :
    Calls Tryz.prog 302 [.int .i64 p0, .int .i64 p1].toArray w fun e w' => ∃ v, e = .returned v ∧ (v = .int .i64 r ∧ Gr w w') := by
 unfold cover_node_toward at hm
 refine calls_of_sw 13 Tryz.func302 rfl rfl rfl<|qs 1 rfl<|qm rfl<|qd 9 rfl ?_
 refine qm rfl<|qm rfl ?_
 obtain ⟨x1, hx1, hm⟩ := bnd hm
 refine qe rfl (eC en_352 rfl (cover_node_level_w hx1)) ?_
 rintro _ w1 ⟨rfl, G1⟩
 have z1 := G1.size
 refine qm rfl ?_
 obtain ⟨x2, hx2, hm⟩ := bnd hm
 refine qe rfl (eC en_352 rfl (cover_node_level_w hx2)) ?_
 rintro _ w2 ⟨rfl, G2⟩
 have z2 := G2.size
 refine qv rfl (vv_sub (k := .i64) (a := x1) (b := x2) rfl rfl)<|qv rfl (vv_sub (k := .i64) (a := w64 (x1 - x2)) (b := 1) rfl rfl) ?_
 obtain ⟨nn3, hnn3, hm⟩ := bnd hm
 refine qv rfl (vv_shrI (a := p1) (b := (w64 ((w64 (x1 - x2)) - 1))) rfl rfl hnn3)<|qm rfl<|sd_done<|sw_ret ?_
 have X3 := (((Gr.refl w).trans G1).trans G2)
 cases hm
 refine ⟨_, _, rfl, res_1 rfl (rv_tmp rfl), ?_⟩
 exact ⟨rfl, X3⟩
theorem cover_path_1_it (p1 : Int) (p2 : Int) (bp1 : Nat) (bp2 : Nat) (xs : List Int) (hm : cover_path_1 p1 p2 = some xs) (w0 : World) (hbp1 : Bx w0 bp1 298 ([.int .i64 p1])) (hbp2 : Bx w0 bp2 298 ([.int .i64 p2])) :
    IT Tryz.prog 353 [.pointer (some ⟨bp1, 0, none⟩), .pointer (some ⟨bp2, 0, none⟩)] (xs.map (fun (x : Int) => ([.int .i64 x] : List Value))) ([bp1] ++ [bp2]) w0 := by
 intro l J Jx w fp hG hJ hJx hcap h0 hY
 have c1 := Bx.gr hbp1 hG
 have lt2 := c1.lt
 have nb3 : bp1 ∉ fp := hcap _ (by simp)
 have c4 := Bx.gr hbp2 hG
 have lt5 := c4.lt
 have nb6 : bp2 ∉ fp := hcap _ (by simp)
 have hd := dr_0 xs
 unfold cover_path_1 at hm
 refine calls_of_sw 16 Tryz.func353 rfl rfl rfl<|qs 2 rfl<|qv rfl (vv_load1 (v := .int .i64 p1) one_298 rfl c1 rfl)<|qm rfl<|sd_done<|sw_block ?_
 refine sw_loopD (α := Nat × Int × Nat × List Nat × List Int) ([4] ++ rg 6 10) (fun ⟨n1, a2, kk, fpl, rl⟩ => [(4, .int .i64 a2)]) (fun ⟨n1, a2, kk, fpl, rl⟩ wr => (fixN (cover_path_1_L1 p2) n1 a2 = some rl) ∧ Dr xs kk rl ∧ J kk fpl wr ∧ (∀ c ∈ fpl, c ∈ fp ∨ w.heap.size ≤ c) ∧ Kp fp w wr ∧ Bx wr bp1 298 ([.int .i64 p1]) ∧ Bx wr bp2 298 ([.int .i64 p2]) ∧ bp1 ∉ fpl ∧ bp2 ∉ fpl ∧ True) (fun ⟨n1, a2, kk, fpl, rl⟩ => n1) ⟨FUEL, p1, 0, fp, xs⟩ ?_ ?_ ?_
 · exact sbq
 · exact ⟨hm, hd, h0, (fun c hc => Or.inl hc), (Kp.refl fp w), c1, c4, nb3, nb6, trivial⟩
 clear hm; rintro ⟨n1, a2, kk1, fpl1, rl1⟩ w1 ⟨hm, dl1, JLw1, sl1, KLw1, Sw1_0, Sw1_1, Nw1_0, Nw1_1, -⟩
 have z7 := KLw1.size
 have lt8 := Sw1_0.lt
 have lt9 := Sw1_1.lt
 have hb := fix_succ hm; clear hm; obtain ⟨n1, rfl, hm⟩ := hb
 generalize hrec1 : fixN (cover_path_1_L1 p2) n1 = rec1 at hm
 unfold cover_path_1_L1 at hm
 try dsimp only at hm
 refine sw_seq<|qs 3 rfl<|qm rfl<|qv rfl (vv_load1 (v := .int .i64 p2) one_298 rfl Sw1_1 rfl)<|qv rfl (vv_neq (a := a2) (b := p2) rfl rfl)<|sd_done ?_
 refine cnF rfl (fun c1 => ?_) (fun c1 => ?_)
 · replace hm := iF c1 hm
   refine sw_exit<|then_x<|then_x<|block_x ?_
   have he := Option.some.inj hm
   have hl := Dr.last (c := (fun (x : Int) => ([.int .i64 x] : List Value))) dl1 he.symm
   refine ⟨_, _, rfl, res_none rfl, KLw1, .inl ⟨_, sl1, ?_⟩⟩
   rw [← hl]; exact JLw1
 replace hm := iT c1 hm
 refine qu<|sw_block<|qs 4 rfl<|qm rfl<|qv rfl (vv_load1 (v := .int .i64 p2) one_298 rfl Sw1_1 rfl) ?_
 obtain ⟨x3, hx3, hm⟩ := bnd hm
 refine qe rfl (eC en_302 rfl (cover_node_toward_w hx3)) ?_
 rintro _ w2 ⟨rfl, G2⟩
 have z10 := G2.size
 refine qm rfl<|qd 4 rfl<|qm rfl<|qm rfl ?_
 have J12 := (hJ.gr JLw1 G2)
 have KI13 : Kp fp w w2 := (KLw1.gr G2)
 obtain ⟨rr11, hm, he11⟩ := yl_some hm
 have hx11 := Dr.at dl1 he11
 have hd11 := Dr.next dl1 he11
 have B14 := (Sw1_0.gr G2)
 have B15 := (Sw1_1.gr G2)
 refine qe rfl (ev_yield rfl rfl (hY _ _ _ _ (getm hx11) J12 KI13 sl1)) ?_
 rintro _ w3 ⟨bb, rfl, KF11, fp11, hg11, hJb⟩
 have z16 := KF11.size
 have sub11 : ∀ c ∈ fp11, c ∈ fp ∨ w.heap.size ≤ c := sub_grow sl1 hg11 (by omega)
 have nb17 := notin_grow hg11 Nw1_0 (by omega)
 have nb18 := notin_grow hg11 Nw1_1 (by omega)
 cases bb
 · have Jy11 : Jx (kk1 + 1) fp11 w3 := hJb
   refine qv rfl (vv_not rfl)<|sd_done<|sw_condT rfl<|sw_ret<|block_r<|then_r<|block_r ?_
   have KI19 : Kp fp w w3 := (KI13.trans KF11 sl1)
   exact ⟨_, _, rfl, res_none rfl, KI19, .inr ⟨_, _, sub11, (by rw [List.length_map]; exact (List.getElem?_eq_some_iff.1 hx11).1), Jy11⟩⟩
 have Jy11 : J (kk1 + 1) fp11 w3 := hJb
 refine qv rfl (vv_not rfl)<|sd_done<|sw_condF rfl<|sw_skip<|block_n ?_
 have KI20 : Kp fp w w3 := (KI13.trans KF11 sl1)
 have B21 := (Bx.kp B14 KF11 Nw1_0)
 have B22 := (Bx.kp B15 KF11 Nw1_1)
 subst hrec1
 exact ⟨rfl, ⟨n1, x3, (kk1 + 1), fp11, rr11⟩, sbq, ⟨hm, hd11, Jy11, sub11, KI20, B21, B22, nb17, nb18, trivial⟩, Nat.lt_succ_self _⟩
theorem cover_first_cover_path_1_cover_tree_special_w {p0_0 p0_1 p1_0 bp0_0 bp0_1 r} (hm : cover_first_cover_path_1_cover_tree_special p0_0 p0_1 p1_0 = some r) {w : World} (hbp0_0 : Bx w bp0_0 298 ([.int .i64 p0_0])) (hbp0_1 : Bx w bp0_1 298 ([.int .i64 p0_1])) :
    Calls Tryz.prog 354 [.func (.func 353) [].toArray [.pointer (some ⟨bp0_0, 0, none⟩), .pointer (some ⟨bp0_1, 0, none⟩)].toArray, .func (.func 308) [.agg (Tcover_tree.cs p1_0).toArray].toArray [].toArray].toArray w fun e w' => ∃ v, e = .returned v ∧ (v = .int .i64 r ∧ Gr w w') := by
 have lt1 := hbp0_0.lt
 have lt2 := hbp0_1.lt
 unfold cover_first_cover_path_1_cover_tree_special at hm
 refine calls_of_sw 12 Tryz.func354 rfl rfl rfl<|qs 2 rfl<|qe rfl (ev_box rfl rfl) ?_
 rintro _ w1 ⟨b1, rfl, hbw1, Bw1, G1⟩
 have z3 := G1.size
 have lt4 := Bw1.lt
 refine qe rfl (ev_alloc (cs := [.int .i64 0]) zv_298 rfl) ?_
 rintro _ w2 ⟨b2, rfl, hbw2, Bw2, G2⟩
 have z5 := G2.size
 have lt6 := Bw2.lt
 refine sd_done<|sw_seq<|qs 1 rfl<|qm rfl<|sd_done<|sw_block ?_
 have B7 := ((hbp0_0.gr G1).gr G2)
 have B8 := ((hbp0_1.gr G1).gr G2)
 obtain ⟨l1, hl1, hm⟩ := bnd hm
 have X9 := (((Gr.refl w).trans G1).trans G2)
 have B10 := (Bw1.gr G2)
 refine sw_rangeFunc (gf := 353) rfl en_353 (cover_path_1_it p0_0 p0_1 _ _ _ hl1 _ B7 B8) (by intro x hx; obtain ⟨a, _, rfl⟩ := List.mem_map.1 hx; rfl) rfl _ _ ([b2]) (stb_mk (α := Int) (fun a3 rk => itL (cover_first_cover_path_1_cover_tree_special_R1 p1_0) cover_first_cover_path_1_cover_tree_special_D1 (List.drop rk l1) a3 = some r) (fun a3 => ([b2])) (fun a3 W => Bx W b2 298 ([.int .i64 a3]) ∧ True) (by rintro a3 W ⟨F0, _⟩ b hb; have q0 := F0.lt; replace hb : b ∈ ([b2]) := hb; simp only [List.mem_cons, List.mem_append, mem_zf, List.not_mem_nil, or_false, false_or, not_or, ne_eq, List.nil_append, List.cons_append, true_and, and_true, false_and, and_false, not_true_eq_false, not_false_eq_true, or_true, true_or] at hb; omega) (by rintro a3 W W' ⟨F0, _⟩ E hs; replace hs : ∀ b ∈ ([b2]), W'.heap[b]? = W.heap[b]? := hs; exact ⟨(hs _ (by simp)).trans F0, trivial⟩)) (fun c => (stb_c (c = .ret) (stb_mk (α := Int) (fun a3 rk => cover_first_cover_path_1_cover_tree_special_X1_0 a3 = some r) (fun a3 => ([b2])) (fun a3 W => Bx W b2 298 ([.int .i64 a3]) ∧ True) (by rintro a3 W ⟨F0, _⟩ b hb; have q0 := F0.lt; replace hb : b ∈ ([b2]) := hb; simp only [List.mem_cons, List.mem_append, mem_zf, List.not_mem_nil, or_false, false_or, not_or, ne_eq, List.nil_append, List.cons_append, true_and, and_true, false_and, and_false, not_true_eq_false, not_false_eq_true, or_true, true_or] at hb; omega) (by rintro a3 W W' ⟨F0, _⟩ E hs; replace hs : ∀ b ∈ ([b2]), W'.heap[b]? = W.heap[b]? := hs; exact ⟨(hs _ (by simp)).trans F0, trivial⟩)))) (by intro b hb; simp only [List.mem_cons, List.mem_append, mem_zf, List.not_mem_nil, or_false, false_or, not_or, ne_eq, List.nil_append, List.cons_append, true_and, and_true, false_and, and_false, not_true_eq_false, not_false_eq_true, or_true, true_or] at hb ⊢; omega) ⟨0, hm, rfl, Bw2, trivial⟩ ?_ ?_ ?_
 · rintro l rk x fp w3 hl hx _ K3 hF hln hlt
   clear hm
   obtain ⟨e4, hxe, rfl⟩ := map_some hx
   have Zw3 : Kz [(1, b2)] w2 w3 := kz_of_kp K3 (by intro k hk; simp only [Nin, and_true, List.mem_cons, List.mem_append, mem_zf, List.not_mem_nil, or_false, false_or, not_or, ne_eq, List.nil_append, List.cons_append, true_and, and_true, false_and, and_false, not_true_eq_false, not_false_eq_true, or_true, true_or] at hk ⊢; omega)
   have z11 := K3.size
   refine qg 1 rfl<|qm rfl<|sd_nil<|⟨rfl, (Gr.refl _), ?_⟩
   rintro w4 M4 ⟨a3, hm, rfl, Fw4_0, -⟩
   have z12 := M4.size
   have lt13 := Fw4_0.lt
   replace hm := itL_at hm hxe
   generalize hnx1 : itL (cover_first_cover_path_1_cover_tree_special_R1 p1_0) cover_first_cover_path_1_cover_tree_special_D1 (List.drop (rk + 1) l1) = nx1 at hm
   unfold cover_first_cover_path_1_cover_tree_special_R1 at hm
   try dsimp only at hm
   refine sw_block<|qs 3 rfl ?_
   have B14 := ((B10.kz Zw3).md M4)
   refine qv rfl (vv_load1 one_387 rfl B14 rfl)<|qm rfl ?_
   obtain ⟨x5, hx5, hm⟩ := bnd hm
   refine qe rfl (ev_callV en_308 rfl rfl (cover_tree_special_w hx5)) ?_
   rintro _ w5 ⟨rfl, G5⟩
   have z15 := G5.size
   refine sd_done<|sw_cond rfl (fun c1 => ?_) (fun c1 => ?_)
   · replace hm := cnd_t c1 hm
     refine qs 2 rfl<|qm rfl ?_
     have B16 := (Fw4_0.gr G5)
     refine qe rfl (ev_st1 (cs' := [.int .i64 e4]) (one_298).siz rfl rfl rfl B16 rfl rfl) ?_
     rintro _ w6 ⟨Bw6, M6⟩
     have z17 := M6.size
     refine sd_done<|sw_ret<|block_r ?_
     have K_18 : Kz [(1, b2)] w4 w6 := ((Kz.gr (Kz.refl _ _) G5).md M6)
     have Kq18 : Kp ([b2]) w4 w6 := kp_of_kz K_18 (by intro k hk; simp only [Nin, and_true, List.mem_cons, List.mem_append, mem_zf, List.not_mem_nil, or_false, false_or, not_or, ne_eq, List.nil_append, List.cons_append, true_and, and_true, false_and, and_false, not_true_eq_false, not_false_eq_true, or_true, true_or] at hk ⊢; omega)
     exact ⟨Kq18, ([b2]), (by intro c hc; simp only [List.mem_cons, List.mem_append, mem_zf, List.not_mem_nil, or_false, false_or, not_or, ne_eq, List.nil_append, List.cons_append, true_and, and_true, false_and, and_false, not_true_eq_false, not_false_eq_true, or_true, true_or] at hc ⊢; omega), ⟨rfl, e4, hm, rfl, Bw6, trivial⟩⟩
   replace hm := cnd_f c1 hm
   refine sw_skip<|block_n ?_
   have B20 := (Fw4_0.gr G5)
   have K_19 : Kz [(1, b2)] w4 w5 := (Kz.gr (Kz.refl _ _) G5)
   have Kq19 : Kp ([b2]) w4 w5 := kp_of_kz K_19 (by intro k hk; simp only [Nin, and_true, List.mem_cons, List.mem_append, mem_zf, List.not_mem_nil, or_false, false_or, not_or, ne_eq, List.nil_append, List.cons_append, true_and, and_true, false_and, and_false, not_true_eq_false, not_false_eq_true, or_true, true_or] at hk ⊢; omega)
   subst hnx1
   exact ⟨Kq19, ([b2]), (by intro c hc; simp only [List.mem_cons, List.mem_append, mem_zf, List.not_mem_nil, or_false, false_or, not_or, ne_eq, List.nil_append, List.cons_append, true_and, and_true, false_and, and_false, not_true_eq_false, not_false_eq_true, or_true, true_or] at hc ⊢; omega), ⟨a3, hm, rfl, B20, trivial⟩⟩
 · clear hm; rintro Dw7 fp w7 hDw7 Dfw7 nw7 ⟨a3, hm, rfl, Fw7_0, -⟩ K7
   replace hm := itL_end hm
   have Zw7 : Kz [(1, b2)] w2 w7 := kz_of_kp K7 (by intro k hk; simp only [Nin, and_true, List.mem_cons, List.mem_append, mem_zf, List.not_mem_nil, or_false, false_or, not_or, ne_eq, List.nil_append, List.cons_append, true_and, and_true, false_and, and_false, not_true_eq_false, not_false_eq_true, or_true, true_or] at hk ⊢; omega)
   have z21 := K7.size
   have lt22 := Df.lt (w := w7) Dfw7
   simp only [List.mem_cons, List.mem_append, mem_zf, List.not_mem_nil, or_false, false_or, not_or, ne_eq, List.nil_append, List.cons_append, true_and, and_true, false_and, and_false, not_true_eq_false, not_false_eq_true, or_true, true_or, not_and] at nw7
   have lt23 := Fw7_0.lt
   unfold cover_first_cover_path_1_cover_tree_special_D1 at hm
   try dsimp only at hm
   refine block_n<|then_n<|qs 1 rfl<|qe rfl (ev_st1 (cs' := [.int .i64 0]) (one_298).siz rfl rfl rfl Fw7_0 rfl rfl) ?_
   rintro _ w8 ⟨Bw8, M8⟩
   have z24 := M8.size
   refine sd_done<|sw_ret ?_
   have DL25 := (Df.md Dfw7 M8)
   have L25 := Md.put (w := w8) Dw7 (.deferred none)
   have zL25 := L25.size
   have B26 := (Bw8.md L25)
   have X27 : Gr w (w8.putObj Dw7 (.deferred none)) := (((X9.kz Zw7).md M8).md L25)
   cases hm
   refine ⟨_, _, ⟨Dw7, rfl, DL25, rfl⟩, res_1 rfl (rv_cell1 one_298 rfl B26), ?_⟩
   exact ⟨rfl, X27⟩
 clear hm; rintro Dw9 c rk fp w9 hDw9 Dfw9 nw9 hle ⟨rfl, a3, hm, rfl, Fw9_0, -⟩ K9
 have Zw9 : Kz [(1, b2)] w2 w9 := kz_of_kp K9 (by intro k hk; simp only [Nin, and_true, List.mem_cons, List.mem_append, mem_zf, List.not_mem_nil, or_false, false_or, not_or, ne_eq, List.nil_append, List.cons_append, true_and, and_true, false_and, and_false, not_true_eq_false, not_false_eq_true, or_true, true_or] at hk ⊢; omega)
 have z28 := K9.size
 have lt29 := Df.lt (w := w9) Dfw9
 simp only [List.mem_cons, List.mem_append, mem_zf, List.not_mem_nil, or_false, false_or, not_or, ne_eq, List.nil_append, List.cons_append, true_and, and_true, false_and, and_false, not_true_eq_false, not_false_eq_true, or_true, true_or, not_and] at nw9
 have lt30 := Fw9_0.lt
 unfold cover_first_cover_path_1_cover_tree_special_X1_0 at hm
 try dsimp only at hm
 refine sw_ret<|block_r<|then_r ?_
 have DL31 := Dfw9
 have L31 := Md.put (w := w9) Dw9 (.deferred none)
 have zL31 := L31.size
 have B32 := (Fw9_0.md L31)
 have X33 : Gr w (w9.putObj Dw9 (.deferred none)) := ((X9.kz Zw9).md L31)
 cases hm
 refine ⟨_, _, ⟨Dw9, rfl, DL31, rfl⟩, res_1 rfl (rv_cell1 one_298 rfl B32), ?_⟩
 exact ⟨rfl, X33⟩
theorem cover_tree_cut_w {p0 p1 p2 r} (hm : cover_tree_cut p0 p1 p2 = some r) {w : World} :
    Calls Tryz.prog 309 [.agg (Tcover_tree.cs p0).toArray, .int .i64 p1, .int .i64 p2].toArray w fun e w' => ∃ v, e = .returned v ∧ (v = .int .i64 r ∧ Gr w w') := by
 unfold cover_tree_cut at hm
 refine calls_of_sw 14 Tryz.func309 rfl rfl rfl<|qs 2 rfl<|qe rfl (ev_box (cs := Tcover_tree.cs p0) rfl rfl) ?_
 rintro _ w1 ⟨b1, rfl, hbw1, Bw1, G1⟩
 have z1 := G1.size
 have lt2 := Bw1.lt
 refine qm rfl<|sd_done<|sw_seq<|dw [([])] [] (.leaf [(0,10),(1,10),(2,10),(4,10),(5,10),(3,0),(6,0),(7,10)]) ?_
 intro w2 G2 zw2
 refine sdz_leaf<|dm 0 rfl rfl<|dm 0 rfl rfl ?_
 obtain ⟨nn1, hnn1, hm⟩ := bnd hm
 refine dh 0 rfl rfl (fun w hS => vv_shrI (a := p2) (b := (un 1#64)) rfl rfl hnn1) ?_
 have B3 := (Bw1.gr G2)
 refine dh 0 rfl rfl (fun w hS => vv_loadW agg_290 rfl (Bx.kp B3 hS) rfl)<|dh 0 rfl rfl (fun w hS => vv_makeFunc rfl rfl) ?_
 obtain ⟨x2, hx2, hm⟩ := bnd hm
 refine qz [] rfl (eC en_303 rfl (cover_path_w hx2)) ⟨fun _ => tk0, trivial⟩ ?_
 rintro _ w3 ⟨k3_c0_0, k3_c0_1, rfl, O3_c0_0, f3_c0_0, O3_c0_1, f3_c0_1, G3⟩
 have z4 := G3.size
 have lt5 := O3_c0_0.lt
 have lt6 := O3_c0_1.lt
 refine kG G3 ?_
 obtain ⟨x3, hx3, hm⟩ := bnd hm
 refine qz [] rfl (eC en_354 rfl (cover_first_cover_path_1_cover_tree_special_w hx3 O3_c0_0 O3_c0_1)) ⟨fun _ => tk0, trivial⟩ ?_
 rintro _ w4 ⟨rfl, G4⟩
 have z7 := G4.size
 refine kG G4 ?_
 have S8 := (((Kp.refl ([]) w2).gr G3).gr G4)
 refine dn 0 rfl rfl S8<|sd_done<|sw_ret ?_
 have X9 := (((((Gr.refl w).trans G1).trans G2).trans G3).trans G4)
 cases hm
 refine ⟨_, _, rfl, res_1 rfl (rv_tmp rfl), ?_⟩
 exact ⟨rfl, X9⟩
theorem cover_tree_subset_w {p0 p1 r} (hm : cover_tree_subset p0 p1 = some r) {w : World} :
    Calls Tryz.prog 207 [.agg (Tcover_tree.cs p0).toArray, .agg (TSubset.cs p1).toArray].toArray w fun e w' => ∃ v, e = .returned v ∧ (v = .bool r ∧ Gr w w') := by
 unfold cover_tree_subset at hm
 refine calls_of_sw 68 Tryz.func207 rfl rfl rfl<|qs 3 rfl<|qe rfl (ev_box (cs := Tcover_tree.cs p0) rfl rfl) ?_
 rintro _ w1 ⟨b1, rfl, hbw1, Bw1, G1⟩
 have z1 := G1.size
 have lt2 := Bw1.lt
 refine qe rfl (ev_box (cs := TSubset.cs p1) rfl rfl) ?_
 rintro _ w2 ⟨b2, rfl, hbw2, Bw2, G2⟩
 have z3 := G2.size
 have lt4 := Bw2.lt
 refine qm rfl<|sd_done<|sw_seq<|dw [([])] [] (.leaf [(0,10),(1,10),(2,10),(3,10),(4,10),(5,10)]) ?_
 intro w3 G3 zw3
 refine sdz_leaf<|dh 0 rfl rfl (fun w hS => vv_fieldAddr fa_171_0 rfl) ?_
 have B5 := (Bw2.gr G3)
 refine dh 0 rfl rfl (fun w hS => vv_load1 (v := .int .i64 p1.Node) one_3 rfl (Bx.kp B5 hS) rfl)<|dh 0 rfl rfl (fun w hS => vv_fieldAddr fa_171_1 rfl)<|dh 0 rfl rfl (fun w hS => vv_load1 (v := .int .i64 p1.Minus) one_3 rfl (Bx.kp B5 hS) rfl)<|dm 0 rfl rfl<|dm 0 rfl rfl<|sd_done<|sw_seq ?_
 refine sw_block<|qs 6 rfl ?_
 have B6 := ((Bw1.gr G2).gr G3)
 refine qv rfl (vv_loadW agg_290 rfl B6 rfl)<|qv rfl (vv_fieldAddr fa_171_0 rfl)<|qv rfl (vv_load1 (v := .int .i64 p1.Node) one_3 rfl B5 rfl) ?_
 obtain ⟨x1, hx1, hm⟩ := bnd hm
 refine qe rfl (eC en_306 rfl (cover_tree_has_w hx1)) ?_
 rintro _ w4 ⟨rfl, G4⟩
 have z7 := G4.size
 refine qv rfl (vv_not rfl)<|qm rfl<|sd_done<|sw_cond rfl (fun c1 => ?_) (fun c1 => ?_)
 · replace hm := cnd_t c1 hm
   refine qs 1 rfl<|qm rfl<|sd_done<|sw_ret<|block_r<|then_r ?_
   have Y1 := Gr.trans (Gr.trans (Gr.trans G1 G2) G3) G4
   have X8 := ((Gr.refl w).trans Y1)
   cases hm
   refine ⟨_, _, rfl, res_1 rfl (rv_tmp rfl), ?_⟩
   exact ⟨rfl, X8⟩
 replace hm := cnd_f c1 hm
 have Y2 := Gr.trans (Gr.trans (Gr.trans G1 G2) G3) G4
 have X9 := ((Gr.refl w).trans Y2)
 refine qj (β := Bool) (rg 17 8) (fun a2 => [(17, .bool a2)]) (fun a2 wr => (cover_tree_subset_J1 p0 p1 a2 = some r) ∧ Kz [] w4 wr) ?_ ?_
 · refine qg 8 rfl<|qv rfl (vv_fieldAddr fa_290_0 rfl) ?_
   have B32 := (B6.gr G4)
   refine qv rfl (vv_load1 (v := bv p0.kind) one_5 rfl B32 rfl)<|qv rfl (vv_eqlB (p := p0.kind) (q := 1#8) rfl rfl)<|qp rfl (vv_move rfl) (fun c10 => ?_) (fun c10 => ?_)
   · replace hm := iT c10 hm
     refine qk rfl<|qk rfl<|qm rfl<|qm rfl<|sd_nil ?_
     exact ⟨rfl, true, sbq, hm, kz0⟩
   replace hm := iF c10 hm
   refine qm rfl<|qv rfl (vv_eql (a := p1.Minus) (b := 0) rfl rfl)<|qm rfl<|qm rfl<|sd_nil ?_
   exact ⟨rfl, (decide (p1.Minus = 0)), sbq, hm, kz0⟩
 clear hm; rintro a2 w5 ⟨hm, K5⟩
 have z10 := K5.size
 unfold cover_tree_subset_J1 at hm
 refine sw_cond rfl (fun c2 => ?_) (fun c2 => ?_)
 · replace hm := cnd_t c2 hm
   refine qs 12 rfl<|qm rfl<|qv rfl (vv_eql (a := p1.Minus) (b := 0) rfl rfl)<|qpF rfl (vv_move rfl) (fun c3 => ?_) (fun c3 => ?_)
   · replace hm := iF c3 hm
     refine qk rfl<|qk rfl<|qk rfl<|qk rfl<|qk rfl<|qk rfl<|qk rfl ?_
     refine qm rfl<|qm rfl<|sd_done<|sw_ret<|block_r<|then_r ?_
     have X14 := (X9.kz K5)
     cases hm
     refine ⟨_, _, rfl, res_1 rfl (rv_tmp rfl), ?_⟩
     exact ⟨rfl, X14⟩
   replace hm := iT c3 hm
   refine qv rfl (vv_fieldAddr fa_290_0 rfl) ?_
   have B11 := ((B6.gr G4).kz K5)
   refine qv rfl (vv_load1 (v := bv p0.kind) one_5 rfl B11 rfl)<|qv rfl (vv_eqlB (p := p0.kind) (q := 1#8) rfl rfl)<|qp rfl (vv_move rfl) (fun c4 => ?_) (fun c4 => ?_)
   · replace hm := iT c4 hm
     refine qk rfl<|qk rfl<|qm rfl<|qm rfl<|qm rfl<|sd_done<|sw_ret ?_
     refine block_r<|then_r ?_
     have X12 := (X9.kz K5)
     cases hm
     refine ⟨_, _, rfl, res_1 rfl (rv_tmp rfl), ?_⟩
     exact ⟨rfl, X12⟩
   replace hm := iF c4 hm
   refine qm rfl<|qv rfl (vv_eql (a := p1.Node) (b := 1) rfl rfl)<|qm rfl<|qm rfl<|qm rfl<|sd_done<|sw_ret ?_
   refine block_r<|then_r ?_
   have X13 := (X9.kz K5)
   cases hm
   refine ⟨_, _, rfl, res_1 rfl (rv_tmp rfl), ?_⟩
   exact ⟨rfl, X13⟩
 replace hm := cnd_f c2 hm
 have X15 := (X9.kz K5)
 refine qj (β := Bool) (rg 36 17) (fun a3 => [(36, .bool a3)]) (fun a3 wr => (cover_tree_subset_J2 p0 p1 a3 = some r) ∧ Kz [] w5 wr) ?_ ?_
 · refine qg 17 rfl ?_
   have B25 := ((B6.gr G4).kz K5)
   refine qv rfl (vv_loadW agg_290 rfl B25 rfl)<|qv rfl (vv_fieldAddr fa_171_1 rfl) ?_
   have B26 := ((B5.gr G4).kz K5)
   refine qv rfl (vv_load1 (v := .int .i64 p1.Minus) one_3 rfl B26 rfl) ?_
   obtain ⟨x6, hx6, hm⟩ := bnd hm
   refine qe rfl (eC en_306 rfl (cover_tree_has_w hx6)) ?_
   rintro _ w9 ⟨rfl, G9⟩
   have z27 := G9.size
   refine qv rfl (vv_not rfl)<|qp rfl (vv_move rfl) (fun c8 => ?_) (fun c8 => ?_)
   · replace hm := cnd_t c8 hm
     refine qk rfl<|qk rfl<|qk rfl<|qm rfl<|qm rfl<|qk rfl<|qk rfl ?_
     refine qk rfl<|qk rfl<|qm rfl<|qm rfl<|sd_nil ?_
     exact ⟨rfl, true, sbq, hm, (kz0.gr G9)⟩
   replace hm := cnd_f c8 hm
   refine qm rfl<|qm rfl<|qv rfl (vv_eql (a := p1.Minus) (b := p1.Node) rfl rfl)<|qm rfl<|qp rfl (vv_move rfl) (fun c9 => ?_) (fun c9 => ?_)
   · replace hm := iT c9 hm
     refine qk rfl<|qk rfl<|qk rfl<|qk rfl<|qm rfl<|qm rfl<|sd_nil ?_
     exact ⟨rfl, true, sbq, hm, (kz0.gr G9)⟩
   replace hm := iF c9 hm
   refine qm rfl<|qm rfl ?_
   obtain ⟨x7, hx7, hm⟩ := bnd hm
   refine qe rfl (eC en_307 rfl (cover_node_below_w hx7)) ?_
   rintro _ w10 ⟨rfl, G10⟩
   have z30 := G10.size
   refine qv rfl (vv_not rfl)<|qm rfl<|qm rfl<|sd_nil ?_
   exact ⟨rfl, (!x7), sbq, hm, ((kz0.gr G9).gr G10)⟩
 clear hm; rintro a3 w6 ⟨hm, K6⟩
 have z16 := K6.size
 unfold cover_tree_subset_J2 at hm
 refine sw_cond rfl (fun c5 => ?_) (fun c5 => ?_)
 · replace hm := cnd_t c5 hm
   refine qs 1 rfl<|qm rfl<|sd_done<|sw_ret<|block_r<|then_r ?_
   have X17 := (X15.kz K6)
   cases hm
   refine ⟨_, _, rfl, res_1 rfl (rv_tmp rfl), ?_⟩
   exact ⟨rfl, X17⟩
 replace hm := cnd_f c5 hm
 refine sw_skip<|block_n<|then_n<|qs 16 rfl<|qv rfl (vv_fieldAddr fa_290_0 rfl) ?_
 have B18 := (((B6.gr G4).kz K5).kz K6)
 refine qv rfl (vv_load1 (v := bv p0.kind) one_5 rfl B18 rfl)<|qv rfl (vv_eqlB (p := p0.kind) (q := 2#8) rfl rfl)<|qp rfl (vv_move rfl) (fun c6 => ?_) (fun c6 => ?_)
 · replace hm := iT c6 hm
   refine qk rfl<|qk rfl<|qk rfl<|qm rfl<|qm rfl<|qk rfl<|qk rfl ?_
   refine qk rfl<|qk rfl<|qk rfl<|qm rfl<|qm rfl<|sd_done<|sw_ret ?_
   have X19 := (X15.kz K6)
   cases hm
   refine ⟨_, _, rfl, res_1 rfl (rv_tmp rfl), ?_⟩
   exact ⟨rfl, X19⟩
 replace hm := iF c6 hm
 refine qv rfl (vv_loadW agg_290 rfl B18 rfl)<|qm rfl ?_
 obtain ⟨x4, hx4, hm⟩ := bnd hm
 refine qe rfl (eC en_308 rfl (cover_tree_special_w hx4)) ?_
 rintro _ w7 ⟨rfl, G7⟩
 have z20 := G7.size
 refine qm rfl<|qp rfl (vv_move rfl) (fun c7 => ?_) (fun c7 => ?_)
 · replace hm := cnd_t c7 hm
   refine qk rfl<|qk rfl<|qk rfl<|qk rfl<|qk rfl<|qm rfl<|qm rfl ?_
   refine sd_done<|sw_ret ?_
   have X21 := ((X15.kz K6).trans G7)
   cases hm
   refine ⟨_, _, rfl, res_1 rfl (rv_tmp rfl), ?_⟩
   exact ⟨rfl, X21⟩
 replace hm := cnd_f c7 hm
 have B22 := (B18.gr G7)
 refine qv rfl (vv_loadW agg_290 rfl B22 rfl)<|qm rfl<|qm rfl ?_
 obtain ⟨x5, hx5, hm⟩ := bnd hm
 refine qe rfl (eC en_309 rfl (cover_tree_cut_w hx5)) ?_
 rintro _ w8 ⟨rfl, G8⟩
 have z23 := G8.size
 refine qv rfl (vv_eql (a := x5) (b := 0) rfl rfl)<|qm rfl<|qm rfl<|sd_done<|sw_ret ?_
 have X24 := (((X15.kz K6).trans G7).trans G8)
 cases hm
 refine ⟨_, _, rfl, res_1 rfl (rv_tmp rfl), ?_⟩
 exact ⟨rfl, X24⟩
theorem cover_enter_w {p0 p1 vp1 zp1 gp1 op1 r} (hm : cover_enter p0 p1 = some r) {w : World} (hp1 : Rd w zp1 gp1 op1 2 vp1 (p1.map TSubset.cs)) :
    Calls Tryz.prog 200 [.agg (TScheme.cs p0).toArray, vp1].toArray w fun e w' => ∃ v, e = .returned v ∧ (v = .tuple [.agg (Tcover_tree.cs r.1).toArray, .int .i64 r.2].toArray ∧ Gr w w') := by
 have lt1 := hp1.lth
 unfold cover_enter at hm
 refine calls_of_sw 31 Tryz.func200 rfl rfl rfl<|qs 3 rfl<|qe rfl (ev_box (cs := TScheme.cs p0) rfl rfl) ?_
 rintro _ w1 ⟨b1, rfl, hbw1, Bw1, G1⟩
 have z2 := G1.size
 have lt3 := Bw1.lt
 refine qe rfl (ev_alloc (cs := Tcover_tree.cs (Tcover_tree.mk 0#8 0 0)) zv_290 rfl) ?_
 rintro _ w2 ⟨b2, rfl, hbw2, Bw2, G2⟩
 have z4 := G2.size
 have lt5 := Bw2.lt
 refine qm rfl<|qd 8 rfl ?_
 have B6 := (Bw1.gr G2)
 refine qv rfl (vv_loadW agg_28 rfl B6 rfl) ?_
 obtain ⟨x1, hx1, hm⟩ := bnd hm
 refine qe rfl (eC en_199 rfl (cover_treeOf_w hx1)) ?_
 rintro _ w3 ⟨rfl, G3⟩
 have z7 := G3.size
 refine qm rfl<|qm rfl<|qm rfl<|qe rfl (ev_alloc (cs := Tcover_tree.cs (Tcover_tree.mk 0#8 0 0)) zv_290 rfl) ?_
 rintro _ w4 ⟨b4, rfl, hbw4, Bw4, G4⟩
 have z8 := G4.size
 have lt9 := Bw4.lt
 refine qe rfl (ev_stW agg_290 rfl rfl rfl Bw4 rfl rfl) ?_
 rintro _ w5 ⟨Bw5, M5⟩
 have z10 := M5.size
 refine qm rfl<|sd_done<|sw_seq<|qs 2 rfl<|qm rfl<|qv rfl (vv_not rfl) ?_
 refine sd_done<|sw_cond rfl (fun c1 => ?_) (fun c1 => ?_)
 · replace hm := cnd_t c1 hm
   refine qs 3 rfl<|qv rfl (vv_build (cs := Tcover_tree.cs (Tcover_tree.mk 0#8 0 0)) bs_290 rfl rfl) ?_
   have Y1 := Gr.trans G3 G4
   have B11 := ((Bw2.gr Y1).md M5)
   refine qe rfl (ev_stW agg_290 rfl rfl rfl B11 rfl rfl) ?_
   rintro _ w6 ⟨Bw6, M6⟩
   have z12 := M6.size
   refine qm rfl<|qb ?_
   have Y2 := Gr.trans (Gr.trans G1 G2) Y1
   have X13 := ((((Gr.refl w).trans Y2).md M5).md M6)
   cases hm
   refine ⟨_, _, rfl, res_2 rfl (rv_cellW agg_290 rfl Bw6 rfl) (rv_tmp rfl), ?_⟩
   exact ⟨rfl, X13⟩
 replace hm := cnd_f c1 hm
 refine qu<|sw_seq<|qs 3 rfl<|qm rfl ?_
 have Y3 := Gr.trans (Gr.trans (Gr.trans G1 G2) G3) G4
 have B14 := ((hp1.gr Y3).md M5 (pb_lt lt1))
 refine qv rfl (vv_lenT (l := p1) (c := TSubset.cs) Tryz.underlying202 rfl B14)<|qm rfl<|sd_done<|sw_block ?_
 have X15 := (((Gr.refl w).trans Y3).md M5)
 refine sw_loopD (α := Nat × Int) ([5, 9] ++ rg 20 10) (fun ⟨n1, a3⟩ => [(5, .int .i64 0), (20, .int .i64 a3)]) (fun ⟨n1, a3⟩ wr => (fixN (cover_enter_L1 p1 x1) n1 a3 = some r) ∧ Kz [] w5 wr) (fun ⟨n1, a3⟩ => n1) ⟨FUEL, 0⟩ ?_ ?_ ?_
 · exact sbq
 · exact ⟨hm, Kz.refl _ _⟩
 clear hm; rintro ⟨n1, a3⟩ w7 ⟨hm, K7⟩
 have z16 := K7.size
 have hb := fix_succ hm; clear hm; obtain ⟨n1, rfl, hm⟩ := hb
 generalize hrec1 : fixN (cover_enter_L1 p1 x1) n1 = rec1 at hm
 unfold cover_enter_L1 at hm
 try dsimp only at hm
 refine qs 1 rfl<|qv rfl (vv_lss (a := a3) (b := (p1.length : Int)) rfl rfl)<|sd_done<|sw_seq<|cnF rfl (fun c2 => ?_) (fun c2 => ?_)
 · replace hm := iF c2 hm
   refine sw_exit<|then_x<|then_x<|block_x<|then_n<|qs 3 rfl ?_
   have B27 := (Bw5.kz K7)
   refine qv rfl (vv_loadW agg_290 rfl B27 rfl) ?_
   have Y4 := Gr.trans G3 G4
   have B28 := (((Bw2.gr Y4).md M5).kz K7)
   refine qe rfl (ev_stW agg_290 rfl rfl rfl B28 rfl rfl) ?_
   rintro _ w12 ⟨Bw12, M12⟩
   have z29 := M12.size
   refine qm rfl<|sd_done<|sw_ret ?_
   have X30 := ((X15.kz K7).md M12)
   cases hm
   refine ⟨_, _, rfl, res_2 rfl (rv_cellW agg_290 rfl Bw12 rfl) (rv_tmp rfl), ?_⟩
   exact ⟨rfl, X30⟩
 replace hm := iT c2 hm
 refine qu<|sw_seq<|sw_block<|qs 4 rfl ?_
 obtain ⟨y4, hy4, hm⟩ := bnd hm
 have B17 := (B14.kz K7)
 refine qv rfl (vv_ixT (i := a3) Tryz.underlying202 (agg_171).siz rfl B17 rfl hy4)<|qv rfl (vv_elWT agg_171 rfl B17 hy4 (by first | rfl | omega))<|qe rfl (ev_alloc (cs := TSubset.cs (TSubset.mk 0 0)) zv_171 rfl) ?_
 rintro _ w8 ⟨b8, rfl, hbw8, Bw8, G8⟩
 have z18 := G8.size
 have lt19 := Bw8.lt
 refine qe rfl (ev_stW agg_171 rfl rfl rfl Bw8 rfl rfl) ?_
 rintro _ w9 ⟨Bw9, M9⟩
 have z20 := M9.size
 refine qd 4 rfl ?_
 have B21 := (((Bw5.kz K7).gr G8).md M9)
 refine qv rfl (vv_loadW agg_290 rfl B21 rfl)<|qv rfl (vv_loadW agg_171 rfl Bw9 rfl) ?_
 obtain ⟨x5, hx5, hm⟩ := bnd hm
 refine qe rfl (eC en_207 rfl (cover_tree_subset_w hx5)) ?_
 rintro _ w10 ⟨rfl, G10⟩
 have z22 := G10.size
 refine qv rfl (vv_not rfl)<|sd_done<|cnF rfl (fun c3 => ?_) (fun c3 => ?_)
 · replace hm := cnd_f c3 hm
   refine sw_skip<|block_n<|then_n<|qg 2 rfl<|qv rfl (vv_add (k := .i64) (a := a3) (b := 1) rfl rfl)<|qm rfl<|sd_nil ?_
   have K_26 : Kz [] w5 w10 := (((K7.gr G8).md M9).gr G10)
   subst hrec1
   exact ⟨rfl, ⟨n1, w64 (a3 + 1)⟩, sbq, ⟨hm, K_26⟩, Nat.lt_succ_self _⟩
 replace hm := cnd_t c3 hm
 refine qs 3 rfl<|qv rfl (vv_build (cs := Tcover_tree.cs (Tcover_tree.mk 0#8 0 0)) bs_290 rfl rfl) ?_
 have Y5 := Gr.trans G3 G4
 have B23 := ((((((Bw2.gr Y5).md M5).kz K7).gr G8).md M9).gr G10)
 refine qe rfl (ev_stW agg_290 rfl rfl rfl B23 rfl rfl) ?_
 rintro _ w11 ⟨Bw11, M11⟩
 have z24 := M11.size
 refine qm rfl<|sd_done<|sw_ret<|block_r<|then_r<|then_r<|block_r ?_
 refine then_r ?_
 have X25 := (((((X15.kz K7).trans G8).md M9).trans G10).md M11)
 cases hm
 refine ⟨_, _, rfl, res_2 rfl (rv_cellW agg_290 rfl Bw11 rfl) (rv_tmp rfl), ?_⟩
 exact ⟨rfl, X25⟩
theorem cover_tree_receiver_w {p0 p1 r} (hm : cover_tree_receiver p0 p1 = some r) {w : World} :
    Calls Tryz.prog 201 [.agg (Tcover_tree.cs p0).toArray, .int .i64 p1].toArray w fun e w' => ∃ v, e = .returned v ∧ (v = .bool r ∧ Gr w w') := by
 unfold cover_tree_receiver at hm
 refine calls_of_sw 13 Tryz.func201 rfl rfl rfl<|qs 2 rfl<|qe rfl (ev_box (cs := Tcover_tree.cs p0) rfl rfl) ?_
 rintro _ w1 ⟨b1, rfl, hbw1, Bw1, G1⟩
 have z1 := G1.size
 have lt2 := Bw1.lt
 refine qm rfl<|qd 9 rfl<|qm rfl<|qv rfl (vv_geq (a := p1) (b := 0) rfl rfl)<|qpF rfl (vv_move rfl) (fun c1 => ?_) (fun c1 => ?_)
 · replace hm := iF c1 hm
   refine qk rfl<|qk rfl<|qk rfl<|qk rfl<|qm rfl<|qm rfl<|sd_done ?_
   refine sw_ret ?_
   have X5 := ((Gr.refl w).trans G1)
   cases hm
   refine ⟨_, _, rfl, res_1 rfl (rv_tmp rfl), ?_⟩
   exact ⟨rfl, X5⟩
 replace hm := iT c1 hm
 refine qm rfl<|qv rfl (vv_loadW agg_290 rfl Bw1 rfl) ?_
 obtain ⟨x1, hx1, hm⟩ := bnd hm
 refine qe rfl (eC en_299 rfl (cover_tree_size_w hx1)) ?_
 rintro _ w2 ⟨rfl, G2⟩
 have z3 := G2.size
 refine qv rfl (vv_lss (a := p1) (b := x1) rfl rfl)<|qm rfl<|qm rfl<|sd_done<|sw_ret ?_
 have X4 := (((Gr.refl w).trans G1).trans G2)
 cases hm
 refine ⟨_, _, rfl, res_1 rfl (rv_tmp rfl), ?_⟩
 exact ⟨rfl, X4⟩
theorem cover_tree_list_w {p0 p1 vp1 zp1 gp1 op1 r} (hm : cover_tree_list p0 p1 = some r) {w : World} (hp1 : Rd w zp1 gp1 op1 1 vp1 (p1.map ic)) :
    Calls Tryz.prog 312 [.agg (Tcover_tree.cs p0).toArray, vp1].toArray w fun e w' => ∃ v, e = .returned v ∧ (v = .bool r ∧ Gr w w') := by
 have lt1 := hp1.lth
 unfold cover_tree_list at hm
 refine calls_of_sw 32 Tryz.func312 rfl rfl rfl<|qs 2 rfl<|qe rfl (ev_box (cs := Tcover_tree.cs p0) rfl rfl) ?_
 rintro _ w1 ⟨b1, rfl, hbw1, Bw1, G1⟩
 have z2 := G1.size
 have lt3 := Bw1.lt
 refine qm rfl<|sd_done<|sw_seq<|qs 3 rfl<|qm rfl ?_
 have B4 := (hp1.gr G1)
 refine qv rfl (vv_lenT (l := p1) (c := ic) Tryz.underlying31 rfl B4)<|qm rfl<|sd_done<|sw_block ?_
 have X5 := ((Gr.refl w).trans G1)
 refine sw_loopD (α := Nat × Int) ([4, 5, 6] ++ rg 9 23) (fun ⟨n1, a2⟩ => [(4, .bool false), (9, .int .i64 a2)]) (fun ⟨n1, a2⟩ wr => (fixN (cover_tree_list_L1 p0 p1) n1 a2 = some r) ∧ Kz [] w1 wr) (fun ⟨n1, a2⟩ => n1) ⟨FUEL, 0⟩ ?_ ?_ ?_
 · exact sbq
 · exact ⟨hm, Kz.refl _ _⟩
 clear hm; rintro ⟨n1, a2⟩ w2 ⟨hm, K2⟩
 have z6 := K2.size
 have hb := fix_succ hm; clear hm; obtain ⟨n1, rfl, hm⟩ := hb
 generalize hrec1 : fixN (cover_tree_list_L1 p0 p1) n1 = rec1 at hm
 unfold cover_tree_list_L1 at hm
 try dsimp only at hm
 refine qs 1 rfl<|qv rfl (vv_lss (a := a2) (b := (p1.length : Int)) rfl rfl)<|sd_done<|sw_seq<|cnF rfl (fun c1 => ?_) (fun c1 => ?_)
 · replace hm := iF c1 hm
   refine sw_exit<|then_x<|then_x<|block_x<|then_n<|qs 1 rfl ?_
   refine qm rfl<|sd_done<|sw_ret ?_
   have X18 := (X5.kz K2)
   cases hm
   refine ⟨_, _, rfl, res_1 rfl (rv_tmp rfl), ?_⟩
   exact ⟨rfl, X18⟩
 replace hm := iT c1 hm
 refine qu<|sw_seq<|sw_block<|qs 5 rfl<|qm rfl ?_
 obtain ⟨y3, hy3, hm⟩ := bnd hm
 have B7 := (B4.kz K2)
 refine qv rfl (vv_ixT (i := a2) Tryz.underlying31 (one_3).siz rfl B7 rfl hy3)<|qv rfl (vv_el1T (q := 0) (u := .int .i64 y3) one_3 rfl B7 hy3 (by first | rfl | omega) rfl)<|qm rfl<|qm rfl<|sd_done ?_
 have X8 := (X5.kz K2)
 refine qj (β := Bool) (rg 14 17) (fun a4 => [(30, .bool a4)]) (fun a4 wr => (cover_tree_list_J2 a2 rec1 a4 = some r) ∧ Kz [] w2 wr) ?_ ?_
 · refine qg 17 rfl ?_
   have B12 := (Bw1.kz K2)
   refine qv rfl (vv_loadW agg_290 rfl B12 rfl)<|qm rfl ?_
   obtain ⟨x5, hx5, hm⟩ := bnd hm
   refine qe rfl (eC en_201 rfl (cover_tree_receiver_w hx5)) ?_
   rintro _ w4 ⟨rfl, G4⟩
   have z13 := G4.size
   refine qv rfl (vv_not rfl)<|qp rfl (vv_move rfl) (fun c3 => ?_) (fun c3 => ?_)
   · replace hm := cnd_t c3 hm
     refine qk rfl<|qk rfl<|qk rfl<|qk rfl<|qk rfl<|qk rfl<|qk rfl ?_
     refine qk rfl<|qk rfl<|qk rfl<|qk rfl<|qm rfl<|sd_nil ?_
     exact ⟨rfl, true, sbq, hm, (kz0.gr G4)⟩
   replace hm := cnd_f c3 hm
   refine qm rfl<|qv rfl (vv_gtr (a := a2) (b := 0) rfl rfl)<|qpF rfl (vv_move rfl) (fun c4 => ?_) (fun c4 => ?_)
   · replace hm := iF c4 hm
     refine qk rfl<|qk rfl<|qk rfl<|qk rfl<|qk rfl<|qk rfl<|qk rfl ?_
     refine qm rfl<|qm rfl<|sd_nil ?_
     exact ⟨rfl, false, sbq, hm, (kz0.gr G4)⟩
   replace hm := iT c4 hm
   refine qm rfl<|qm rfl<|qm rfl<|qv rfl (vv_sub (k := .i64) (a := a2) (b := 1) rfl rfl) ?_
   obtain ⟨y6, hy6, hm⟩ := bnd hm
   have B15 := (B7.gr G4)
   refine qv rfl (vv_ixT (i := w64 (a2 - 1)) Tryz.underlying31 (one_3).siz rfl B15 rfl hy6)<|qv rfl (vv_el1T (q := 0) (u := .int .i64 y6) one_3 rfl B15 hy6 (by first | rfl | omega) rfl)<|qv rfl (vv_leq (a := y3) (b := y6) rfl rfl)<|qm rfl<|qm rfl<|sd_nil ?_
   exact ⟨rfl, (decide (y3 ≤ y6)), sbq, hm, (kz0.gr G4)⟩
 clear hm; rintro a4 w3 ⟨hm, K3⟩
 have z9 := K3.size
 unfold cover_tree_list_J2 at hm
 refine sw_cond rfl (fun c2 => ?_) (fun c2 => ?_)
 · replace hm := cnd_t c2 hm
   refine qs 1 rfl<|qm rfl<|sd_done<|sw_ret<|block_r<|then_r ?_
   refine then_r<|block_r<|then_r ?_
   have X10 := (X8.kz K3)
   cases hm
   refine ⟨_, _, rfl, res_1 rfl (rv_tmp rfl), ?_⟩
   exact ⟨rfl, X10⟩
 replace hm := cnd_f c2 hm
 refine sw_skip<|block_n<|then_n<|qg 2 rfl<|qv rfl (vv_add (k := .i64) (a := a2) (b := 1) rfl rfl)<|qm rfl<|sd_nil ?_
 have K_11 : Kz [] w1 w3 := (K2.kz K3)
 subst hrec1
 exact ⟨rfl, ⟨n1, w64 (a2 + 1)⟩, sbq, ⟨hm, K_11⟩, Nat.lt_succ_self _⟩
theorem cover_tree_leaf_w {p0 p1 r} (hm : cover_tree_leaf p0 p1 = some r) {w : World} :
    Calls Tryz.prog 301 [.agg (Tcover_tree.cs p0).toArray, .int .i64 p1].toArray w fun e w' => ∃ v, e = .returned v ∧ (v = .int .i64 r ∧ Gr w w') := by
 unfold cover_tree_leaf at hm
 refine calls_of_sw 9 Tryz.func301 rfl rfl rfl<|qs 2 rfl<|qe rfl (ev_box (cs := Tcover_tree.cs p0) rfl rfl) ?_
 rintro _ w1 ⟨b1, rfl, hbw1, Bw1, G1⟩
 have z1 := G1.size
 have lt2 := Bw1.lt
 refine qm rfl<|qd 5 rfl<|qv rfl (vv_loadW agg_290 rfl Bw1 rfl) ?_
 obtain ⟨x1, hx1, hm⟩ := bnd hm
 refine qe rfl (eC en_299 rfl (cover_tree_size_w hx1)) ?_
 rintro _ w2 ⟨rfl, G2⟩
 have z3 := G2.size
 refine qm rfl<|qv rfl (vv_add (k := .i64) (a := x1) (b := p1) rfl rfl)<|qm rfl<|sd_done<|sw_ret ?_
 have X4 := (((Gr.refl w).trans G1).trans G2)
 cases hm
 refine ⟨_, _, rfl, res_1 rfl (rv_tmp rfl), ?_⟩
 exact ⟨rfl, X4⟩
theorem cover_node_sibling_w {p0 r} (hm : cover_node_sibling p0 = some r) {w : World} :
    Calls Tryz.prog 304 [.int .i64 p0].toArray w fun e w' => ∃ v, e = .returned v ∧ (v = .int .i64 r ∧ Gr w w') := by
 unfold cover_node_sibling at hm
 refine calls_of_sw 5 Tryz.func304 rfl rfl rfl<|qs 1 rfl<|qm rfl<|qd 3 rfl ?_
 refine qm rfl<|qv rfl (vv_bitI (a := p0) (b := 1) (by simp) rfl rfl)<|qm rfl<|sd_done<|sw_ret ?_
 cases hm
 refine ⟨_, _, rfl, res_1 rfl (rv_tmp rfl), ?_⟩
 exact ⟨rfl, (Gr.refl w)⟩
theorem cover_Cover_1_w {p0 p1 p2 bp2 vp2_0 zp2_0 gp2_0 r} (hm : cover_Cover_1 p0 p1 p2 = some r) {w : World} (hbp2 : Bx w bp2 202 ([vp2_0])) (hp2_0 : Own w zp2_0 gp2_0 171 2 vp2_0 (p2.map TSubset.cs)) (ne0 : Hdn (zp2_0 = 0 ∨ gp2_0 ≠ bp2)) :
    Calls Tryz.prog 313 [.int .i64 p0, .int .i64 p1, .pointer (some ⟨bp2, 0, none⟩)].toArray w fun e w' => ∃ v, e = .returned v ∧ (∃ ub0_s zb0_s gb0_s, v = .tuple #[] ∧ Own w' zb0_s gb0_s 171 2 ub0_s (r.map TSubset.cs) ∧ Hdn (zb0_s = 0 ∨ (gb0_s = gp2_0 ∧ zp2_0 ≠ 0) ∨ w.heap.size ≤ gb0_s) ∧ Bx w' bp2 202 ([ub0_s]) ∧ Kz [(zp2_0, gp2_0), (1, bp2)] w w') := by
 have lt1 := hp2_0.lth
 have lt2 := hbp2.lt
 unfold cover_Cover_1 at hm
 refine calls_of_sw 11 Tryz.func313 rfl rfl rfl<|qg 7 rfl<|qv rfl (vv_load1 (v := vp2_0) one_202 rfl hbp2 rfl)<|qm rfl<|qm rfl<|qv rfl (vv_build (cs := TSubset.cs (TSubset.mk p0 p1)) bs_171 rfl rfl)<|qe rfl (ev_litT [(TSubset.mk p0 p1)] TSubset.cs bsl_202_1 rfl rfl (ws_of rfl) rfl rfl rfl) ?_
 rintro vw1 w1 ⟨gw1, hbw1, Ow1, G1⟩
 have z3 := G1.size
 have lt4 := Ow1.lth
 have B5 := (hp2_0.gr G1)
 obtain ⟨l1, hl1, hm⟩ := bnd hm
 refine qe rfl (ev_appT (l := p2) (m := [(TSubset.mk p0 p1)]) (c := TSubset.cs) apt_202 rfl rfl B5 (Own.rd Ow1) hl1 (by decide)) ?_
 rintro vw2 w2 ⟨zw2, gw2, Ow2, Aw2, qw2, rw2⟩
 have z6 := Aw2.size
 have B7 := ((hbp2.gr G1).ka Aw2 (tk1 ((tk2 lt1.o ne0.o) : zp2_0 = 0 ∨ gp2_0 ≠ bp2)))
 refine qe rfl (ev_st1 (cs' := [vw2]) (one_202).siz rfl rfl (Own.oneB Ow2) B7 rfl rfl) ?_
 rintro _ w3 ⟨Bw3, M3⟩
 have z8 := M3.size
 refine sd_nil ?_
 have B9 := (Ow2.md M3 (pb_app rw2 (tk2 lt1.o ne0.o)))
 have X10 := ((((Kz.refl [(zp2_0, gp2_0), (1, bp2)] w).gr G1).ka Aw2 (tk1 (tk0 : zp2_0 = 0 ∨ (gp2_0 = gp2_0 ∧ zp2_0 ≠ 0) ∨ w.heap.size ≤ gp2_0))).md M3)
 cases hm
 refine ⟨_, _, rfl, res_none rfl, ?_⟩
 exact ⟨vw2, zw2, gw2, rfl, B9, ⟨(pv_app (A := (fun x => (x = gp2_0 ∧ zp2_0 ≠ 0) ∨ w.heap.size ≤ x)) rw2 tk0)⟩, Bw3, X10⟩
theorem cover_Cover_w {p0 p1 vp1 zp1 gp1 op1 r} (hm : cover_Cover p0 p1 = some r) {w : World} (hp1 : Rd w zp1 gp1 op1 1 vp1 (p1.map ic)) :
    Calls Tryz.prog 210 [.agg (TScheme.cs p0).toArray, vp1].toArray w fun e w' => ∃ v, e = .returned v ∧ (∃ ur0_s zr0_s gr0_s, v = .tuple [ur0_s, .int .i64 r.2].toArray ∧ Own w' zr0_s gr0_s 171 2 ur0_s (r.1.map TSubset.cs) ∧ Hdn (zr0_s = 0 ∨ w.heap.size ≤ gr0_s) ∧ Gr w w') := by
 have lt1 := hp1.lth
 unfold cover_Cover at hm
 refine calls_of_sw 134 Tryz.func210 rfl rfl rfl<|qs 3 rfl<|qe rfl (ev_box (cs := TScheme.cs p0) rfl rfl) ?_
 rintro _ w1 ⟨b1, rfl, hbw1, Bw1, G1⟩
 have z2 := G1.size
 have lt3 := Bw1.lt
 refine qm rfl<|qm rfl<|qd 8 rfl<|qv rfl (vv_loadW agg_28 rfl Bw1 rfl) ?_
 obtain ⟨x1, hx1, hm⟩ := bnd hm
 refine qe rfl (eC en_200 rfl (cover_enter_w hx1 (Own.rd (own_nil _ 0 171 2)))) ?_
 rintro _ w2 ⟨rfl, G2⟩
 have z4 := G2.size
 refine qm rfl<|qm rfl<|qm rfl<|qe rfl (ev_alloc (cs := Tcover_tree.cs (Tcover_tree.mk 0#8 0 0)) zv_290 rfl) ?_
 rintro _ w3 ⟨b3, rfl, hbw3, Bw3, G3⟩
 have z5 := G3.size
 have lt6 := Bw3.lt
 refine qe rfl (ev_stW agg_290 rfl rfl rfl Bw3 rfl rfl) ?_
 rintro _ w4 ⟨Bw4, M4⟩
 have z7 := M4.size
 refine qm rfl<|sd_done<|sw_seq<|qs 2 rfl<|qm rfl<|qv rfl (vv_neq (a := x1.2) (b := 0) rfl rfl) ?_
 refine sd_done<|sw_cond rfl (fun c1 => ?_) (fun c1 => ?_)
 · replace hm := iT c1 hm
   refine qs 3 rfl<|qm rfl<|qm rfl<|qm rfl<|sd_done<|sw_ret ?_
   refine then_r ?_
   have Y1 := Gr.trans (Gr.trans G1 G2) G3
   have X8 := (((Gr.refl w).trans Y1).md M4)
   cases hm
   refine ⟨_, _, rfl, res_2 rfl (rv_tmp rfl) (rv_tmp rfl), ?_⟩
   exact ⟨(.slice none 0 0), 0, 0, rfl, (own_nil _ 0 171 2), ⟨.inl rfl⟩, X8⟩
 replace hm := iF c1 hm
 refine qu<|sw_seq<|qs 4 rfl<|qv rfl (vv_loadW agg_290 rfl Bw4 rfl)<|qm rfl ?_
 have Y2 := Gr.trans (Gr.trans G1 G2) G3
 have B9 := ((hp1.gr Y2).md M4 (pb_lt lt1))
 obtain ⟨x2, hx2, hm⟩ := bnd hm
 refine qe rfl (eC en_312 rfl (cover_tree_list_w hx2 B9)) ?_
 rintro _ w5 ⟨rfl, G5⟩
 have z10 := G5.size
 refine qv rfl (vv_not rfl)<|sd_done<|sw_cond rfl (fun c2 => ?_) (fun c2 => ?_)
 · replace hm := cnd_t c2 hm
   refine qs 2 rfl<|qm rfl<|qm rfl<|sd_done<|sw_ret<|then_r ?_
   have X11 := ((((Gr.refl w).trans Y2).md M4).trans G5)
   cases hm
   refine ⟨_, _, rfl, res_2 rfl (rv_tmp rfl) (rv_tmp rfl), ?_⟩
   exact ⟨(.slice none 0 0), 0, 0, rfl, (own_nil _ 0 171 2), ⟨.inl rfl⟩, X11⟩
 replace hm := cnd_f c2 hm
 refine qu<|sw_seq<|qs 3 rfl<|qm rfl ?_
 have B12 := (B9.gr G5)
 refine qv rfl (vv_lenT (l := p1) (c := ic) Tryz.underlying31 rfl B12)<|qv rfl (vv_eql (a := (p1.length : Int)) (b := 0) rfl rfl)<|sd_done<|sw_cond rfl (fun c3 => ?_) (fun c3 => ?_)
 · replace hm := iT c3 hm
   refine qs 4 rfl<|qv rfl (vv_build (cs := TSubset.cs (TSubset.mk 1 0)) bs_171 rfl rfl)<|qe rfl (ev_litT [(TSubset.mk 1 0)] TSubset.cs bsl_202_1 rfl rfl (ws_of rfl) rfl rfl rfl) ?_
   rintro vw6 w6 ⟨gw6, hbw6, Ow6, G6⟩
   have z13 := G6.size
   have lt14 := Ow6.lth
   refine qm rfl<|qm rfl<|qb ?_
   have X15 := (((((Gr.refl w).trans Y2).md M4).trans G5).trans G6)
   cases hm
   refine ⟨_, _, rfl, res_2 rfl (rv_tmp rfl) (rv_tmp rfl), ?_⟩
   exact ⟨vw6, 1, gw6, rfl, Ow6, ⟨(.inr tk0)⟩, X15⟩
 replace hm := iF c3 hm
 refine qu<|qs 2 rfl<|qe rfl (ev_makeMap) ?_
 rintro _ w7 ⟨b7, rfl, hbw7, Bw7, G7⟩
 have z16 := G7.size
 have lt17 := Bw7.lt
 refine qm rfl<|sd_done<|sw_seq<|qs 3 rfl<|qm rfl ?_
 have B18 := (B12.gr G7)
 refine qv rfl (vv_lenT (l := p1) (c := ic) Tryz.underlying31 rfl B18)<|qm rfl<|sd_done<|sw_block ?_
 have X19 := (((((Gr.refl w).trans Y2).md M4).trans G5).trans G7)
 refine sw_loopD (α := Nat × Int × List Int) ([10, 11] ++ rg 37 14) (fun ⟨n1, a5, a6⟩ => [(37, .int .i64 a5)]) (fun ⟨n1, a5, a6⟩ wr => (fixN (cover_Cover_L1 p1 x1) n1 (a5, a6) = some r) ∧ Mo wr b7 a6 ∧ Kz [(1, b7)] w7 wr) (fun ⟨n1, a5, a6⟩ => n1) ⟨FUEL, 0, []⟩ ?_ ?_ ?_
 · exact sbq
 · exact ⟨hm, Bw7, Kz.refl _ _⟩
 clear hm; rintro ⟨n1, a5, a6⟩ w8 ⟨hm, Fw8_0, K8⟩
 have z20 := K8.size
 have lt21 := Fw8_0.lt
 have hb := fix_succ hm; clear hm; obtain ⟨n1, rfl, hm⟩ := hb
 generalize hrec1 : fixN (cover_Cover_L1 p1 x1) n1 = rec1 at hm
 unfold cover_Cover_L1 at hm
 try dsimp only at hm
 refine qs 1 rfl<|qv rfl (vv_lss (a := a5) (b := (p1.length : Int)) rfl rfl)<|sd_done<|sw_seq<|sw_cond rfl (fun c4 => ?_) (fun c4 => ?_)
 · replace hm := iT c4 hm
   refine qu<|sw_seq<|sw_block<|qs 3 rfl ?_
   obtain ⟨y7, hy7, hm⟩ := bnd hm
   have B22 := (B18.kz K8 (tk1 (pb_lt (b := b7) lt1)))
   refine qv rfl (vv_ixT (i := a5) Tryz.underlying31 (one_3).siz rfl B22 rfl hy7)<|qv rfl (vv_el1T (q := 0) (u := .int .i64 y7) one_3 rfl B22 hy7 (by first | rfl | omega) rfl)<|qm rfl<|qd 4 rfl ?_
   have B23 := (((Bw4.gr G5).gr G7).kz K8)
   refine qv rfl (vv_loadW agg_290 rfl B23 rfl)<|qm rfl ?_
   obtain ⟨x8, hx8, hm⟩ := bnd hm
   refine qe rfl (eC en_301 rfl (cover_tree_leaf_w hx8)) ?_
   rintro _ w9 ⟨rfl, G9⟩
   have z24 := G9.size
   refine qm rfl<|sd_done<|sw_block ?_
   have X25 := ((X19.kz K8).trans G9)
   have B26 := (B22.gr G9)
   have B27 := (Fw8_0.gr G9)
   refine sw_loopD (α := Nat × Int × List Int) ([11] ++ rg 44 6) (fun ⟨n2, a11, a12⟩ => [(11, .int .i64 a11)]) (fun ⟨n2, a11, a12⟩ wr => (fixN (cover_Cover_L2 a5 rec1) n2 (a11, a12) = some r) ∧ Mo wr b7 a12 ∧ Kz [(1, b7)] w9 wr) (fun ⟨n2, a11, a12⟩ => n2) ⟨FUEL, x8, a6⟩ ?_ ?_ ?_
   · exact sbq
   · exact ⟨hm, B27, Kz.refl _ _⟩
   clear hm; rintro ⟨n2, a11, a12⟩ w10 ⟨hm, Fw10_0, K10⟩
   have z28 := K10.size
   have lt29 := Fw10_0.lt
   have hb := fix_succ hm; clear hm; obtain ⟨n2, rfl, hm⟩ := hb
   generalize hrec2 : fixN (cover_Cover_L2 a5 rec1) n2 = rec2 at hm
   unfold cover_Cover_L2 at hm
   try dsimp only at hm
   refine sw_seq<|qs 2 rfl<|qm rfl<|qv rfl (vv_gtr (a := a11) (b := 0) rfl rfl)<|sd_done<|cnF rfl (fun c5 => ?_) (fun c5 => ?_)
   · replace hm := iF c5 hm
     refine sw_exit<|then_x<|then_x<|block_x<|block_n<|then_n<|qg 2 rfl ?_
     refine qv rfl (vv_add (k := .i64) (a := a5) (b := 1) rfl rfl)<|qm rfl<|sd_nil ?_
     have K_32 : Kz [(1, b7)] w7 w10 := ((K8.gr G9).kz K10)
     subst hrec1
     exact ⟨rfl, ⟨n1, w64 (a5 + 1), a12⟩, sbq, ⟨hm, Fw10_0, K_32⟩, Nat.lt_succ_self _⟩
   replace hm := iT c5 hm
   refine qu<|sw_seq<|sw_block<|qg 3 rfl<|qm rfl<|qm rfl ?_
   refine qe rfl (ev_mapUpd (k := a11) mpt_392 rfl rfl rfl Fw10_0) ?_
   rintro _ w11 ⟨Bw11, M11⟩
   have z30 := M11.size
   refine sd_nil<|block_n<|then_n<|qg 3 rfl<|qm rfl ?_
   obtain ⟨nn13, hnn13, hm⟩ := bnd hm
   refine qv rfl (vv_shrI (a := a11) (b := (un 1#64)) rfl rfl hnn13)<|qm rfl<|sd_nil ?_
   have K_31 : Kz [(1, b7)] w9 w11 := (K10.md M11)
   subst hrec2
   exact ⟨rfl, ⟨n2, shrI a11 nn13, insS a12 a11⟩, sbq, ⟨hm, Bw11, K_31⟩, Nat.lt_succ_self _⟩
 replace hm := iF c4 hm
 refine sw_exit<|then_x<|then_x<|block_x<|then_n<|qs 1 rfl ?_
 refine qe rfl (ev_alloc (cs := [(.slice none 0 0)]) zv_202 rfl) ?_
 rintro _ w12 ⟨b12, rfl, hbw12, Bw12, G12⟩
 have z33 := G12.size
 have lt34 := Bw12.lt
 refine qd 2 rfl<|qv rfl (vv_makeFunc rfl rfl)<|qm rfl<|sd_done<|sw_seq ?_
 refine qs 2 rfl<|qm rfl ?_
 have B35 := (Fw8_0.gr G12)
 refine qe rfl (ev_rangeM mpt_392 rfl B35) ?_
 rintro _ w13 ⟨b13, rfl, hbw13, Bw13, G13⟩
 have z36 := G13.size
 have lt37 := Bw13.lt
 refine sd_done<|sw_block ?_
 have X38 := (((X19.kz K8).trans G12).trans G13)
 have B39 := (((B18.kz K8 (tk1 (pb_lt (b := b7) lt1))).gr G12).gr G13)
 have B40 := (B35.gr G13)
 have B41 := (Bw12.gr G13)
 refine sw_loopD (α := Nat × List TSubset × Value × Nat × Nat × List Int) ([14, 15, 16] ++ rg 54 77) (fun ⟨n3, a16, vy17, zy17, gy17, rem⟩ => []) (fun ⟨n3, a16, vy17, zy17, gy17, rem⟩ wr => (rngM (cover_Cover_S3 x1 a6) cover_Cover_E3 n3 rem a16 = some r) ∧ Own wr zy17 gy17 171 2 vy17 (a16.map TSubset.cs) ∧ Hdn (zy17 = 0 ∨ w13.heap.size ≤ gy17) ∧ Bx wr b12 202 [vy17] ∧ Mi wr b13 b7 a6 rem ∧ Kz [(1, b12), (1, b13)] w13 wr) (fun ⟨n3, a16, vy17, zy17, gy17, rem⟩ => n3) ⟨FUEL, [], (.slice none 0 0), 0, 0, a6⟩ ?_ ?_ ?_
 · exact sbq
 · exact ⟨hm, (own_nil _ 0 171 2), ⟨(.inl rfl)⟩, B41, Bw13, Kz.refl _ _⟩
 clear hm; rintro ⟨n3, a16, vy17, zy17, gy17, rem3⟩ w14 ⟨hm, Fw14_0, Fw14_1, Fw14_2, Iw14, K14⟩
 have z42 := K14.size
 have lt43 := Fw14_0.lth
 have lt44 := Fw14_2.lt
 have lt45 := Iw14.lt
 refine qs 2 rfl ?_
 have B46 := (B40.kz K14)
 refine qe rfl (ev_nextM rfl B46 Iw14) ?_
 rintro _ w15 (⟨rfl, hr, G15⟩ | ⟨k18, hk, rfl, MKw15, M15⟩)
 · have z47 := G15.size
   replace hm := rngM_nil hm hr
   unfold cover_Cover_E3 at hm
   try dsimp only at hm
   refine qm rfl<|sd_done<|sw_seq<|sw_condF rfl<|sw_exit<|then_x<|then_x ?_
   refine block_x<|then_n<|qs 2 rfl ?_
   have B48 := (Fw14_2.gr G15)
   refine qv rfl (vv_load1 (v := vy17) one_202 rfl B48 rfl) ?_
   have B49 := (Fw14_0.gr G15)
   obtain ⟨l19, hl19, hm⟩ := bnd hm
   refine qe rfl (eC en_314 rfl (sortSub_c hl19 _ _ _ _ B49)) ?_
   rintro _ w16 ⟨Ow16, K16⟩
   have z50 := K16.size
   refine qd 3 rfl ?_
   have B51 := (B48.kz K16 (tk1 (pb_0 (b := b12) Fw14_1)))
   refine qv rfl (vv_load1 (v := vy17) one_202 rfl B51 rfl)<|qm rfl<|qm rfl<|sd_done<|sw_ret ?_
   have X52 := (((X38.kz K14).trans G15).kz K16 (tk1 (pv_0 (A := (fun x => w.heap.size ≤ x)) Fw14_1)))
   cases hm
   refine ⟨_, _, rfl, res_2 rfl (rv_tmp rfl) (rv_tmp rfl), ?_⟩
   exact ⟨vy17, zy17, gy17, rfl, Ow16, ⟨(pv_0 (A := (fun x => w.heap.size ≤ x)) Fw14_1)⟩, X52⟩
 have z53 := M15.size
 have hb := rngM_at hm hk; clear hm; obtain ⟨n3, rfl, hm⟩ := hb
 generalize hnx3 : rngM (cover_Cover_S3 x1 a6) cover_Cover_E3 n3 (rem3.filter (· ≠ k18)) = nx3 at hm
 unfold cover_Cover_S3 at hm
 try dsimp only at hm
 refine qm rfl<|sd_done<|sw_seq<|sw_condT rfl<|qu<|sw_block ?_
 refine qs 3 rfl ?_
 have B54 := (B46.md M15)
 refine qv rfl (vv_entryM rfl B54 MKw15)<|qm rfl<|qm rfl<|sd_done<|sw_seq<|qs 3 rfl ?_
 refine qv rfl (vv_fieldAddr fa_290_0 rfl) ?_
 have B55 := (((((((Bw4.gr G5).gr G7).kz K8).gr G12).gr G13).kz K14).md M15)
 refine qv rfl (vv_load1 (v := bv x1.1.kind) one_5 rfl B55 rfl)<|qv rfl (vv_eqlB (p := x1.1.kind) (q := 1#8) rfl rfl)<|sd_done<|sw_cond rfl (fun c6 => ?_) (fun c6 => ?_)
 · replace hm := iT c6 hm
   refine sw_seq ?_
   have X56 := ((X38.kz K14).md M15)
   refine qj (β := Bool) (rg 61 9) (fun a20 => [(69, .bool a20)]) (fun a20 wr => (cover_Cover_J4 a16 nx3 k18 a20 = some r) ∧ Kz [] w15 wr) ?_ ?_
   · refine qg 9 rfl<|qm rfl<|qv rfl (vv_gtr (a := k18) (b := 1) rfl rfl)<|qpF rfl (vv_move rfl) (fun c8 => ?_) (fun c8 => ?_)
     · replace hm := iF c8 hm
       refine qk rfl<|qk rfl<|qk rfl<|qk rfl<|qk rfl<|qm rfl<|sd_nil ?_
       exact ⟨rfl, false, sbq, hm, kz0⟩
     replace hm := iT c8 hm
     refine qm rfl<|qm rfl ?_
     obtain ⟨x23, hx23, hm⟩ := bnd hm
     refine qe rfl (eC en_304 rfl (cover_node_sibling_w hx23)) ?_
     rintro _ w20 ⟨rfl, G20⟩
     have z69 := G20.size
     have B70 := (B54.gr G20)
     refine qv rfl (vv_lookup (k := x23) (ks := a6) mpt_392 rfl rfl B70)<|qv rfl (vv_notD rfl)<|qm rfl<|sd_nil ?_
     exact ⟨rfl, (decide (¬ (x23 ∈ a6))), sbq, hm, (kz0.gr G20)⟩
   clear hm; rintro a20 w17 ⟨hm, K17⟩
   have z57 := K17.size
   unfold cover_Cover_J4 at hm
   refine cnF rfl (fun c7 => ?_) (fun c7 => ?_)
   · replace hm := cnd_f c7 hm
     refine qu<|sw_exit<|then_x<|block_x ?_
     have K_65 : Kz [(1, b12), (1, b13)] w13 w17 := ((K14.md M15).kz K17)
     have B66 := ((Fw14_0.md M15 (pb_0 Fw14_1)).kz K17)
     have B67 := ((Fw14_2.md M15).kz K17)
     have B68 := (Mi.kz (Mk.mi MKw15) K17)
     subst hnx3
     exact ⟨rfl, ⟨n3, a16, vy17, zy17, gy17, (rem3.filter (· ≠ k18))⟩, sbq, ⟨hm, B66, ⟨(pv_0 (A := (fun x => w13.heap.size ≤ x)) Fw14_1)⟩, B67, B68, K_65⟩, Nat.lt_succ_self _⟩
   replace hm := cnd_t c7 hm
   refine qg 4 rfl<|qm rfl<|qm rfl ?_
   obtain ⟨x21, hx21, hm⟩ := bnd hm
   refine qe rfl (eC en_304 rfl (cover_node_sibling_w hx21)) ?_
   rintro _ w18 ⟨rfl, G18⟩
   have z58 := G18.size
   have B59 := (((Fw14_2.md M15).kz K17).gr G18)
   have B60 := (((Fw14_0.md M15 (pb_0 Fw14_1)).kz K17).gr G18)
   obtain ⟨x22, hx22, hm⟩ := bnd hm
   refine qe rfl (ev_callV en_313 rfl rfl (cover_Cover_1_w hx22 B59 B60 ⟨(tk1 (pb_0 (b := b12) Fw14_1))⟩)) ?_
   rintro _ w19 ⟨u19_b0_s, z19_b0_s, g19_b0_s, rfl, O19_b0_s, f19_b0_s, Bk19_0, K19⟩
   have z61 := K19.size
   have lt62 := O19_b0_s.lth
   refine sd_done<|sw_exit<|then_x<|block_x ?_
   have K_63 : Kz [(1, b12), (1, b13)] w13 w19 := ((((K14.md M15).kz K17).gr G18).kz K19 (tk1 (pv_0 (A := (fun x => w13.heap.size ≤ x)) Fw14_1)))
   have B64 := (Mi.kz (Mi.gr (Mi.kz (Mk.mi MKw15) K17) G18) K19 (tk1 (pb_0 (b := b13) Fw14_1)))
   subst hnx3
   exact ⟨rfl, ⟨n3, x22, u19_b0_s, z19_b0_s, g19_b0_s, (rem3.filter (· ≠ k18))⟩, sbq, ⟨hm, O19_b0_s, ⟨(pv_1 (A := (fun x => w13.heap.size ≤ x)) f19_b0_s (pv_0 (A := (fun x => w13.heap.size ≤ x)) Fw14_1))⟩, Bk19_0, B64, K_63⟩, Nat.lt_succ_self _⟩
 replace hm := iF c6 hm
 refine qu<|sw_seq ?_
 have X73 := ((X38.kz K14).md M15)
 refine qj (β := Bool) (rg 74 9) (fun a24 => [(82, .bool a24)]) (fun a24 wr => (cover_Cover_J5 x1 a6 a16 nx3 k18 a24 = some r) ∧ Kz [] w15 wr) ?_ ?_
 · refine qg 9 rfl<|qm rfl<|qv rfl (vv_gtr (a := k18) (b := 1) rfl rfl)<|qpF rfl (vv_move rfl) (fun c16 => ?_) (fun c16 => ?_)
   · replace hm := iF c16 hm
     refine qk rfl<|qk rfl<|qk rfl<|qk rfl<|qk rfl<|qm rfl<|sd_nil ?_
     exact ⟨rfl, false, sbq, hm, kz0⟩
   replace hm := iT c16 hm
   refine qm rfl<|qm rfl ?_
   obtain ⟨x35, hx35, hm⟩ := bnd hm
   refine qe rfl (eC en_304 rfl (cover_node_sibling_w hx35)) ?_
   rintro _ w29 ⟨rfl, G29⟩
   have z115 := G29.size
   have B116 := (B54.gr G29)
   refine qv rfl (vv_lookup (k := x35) (ks := a6) mpt_392 rfl rfl B116)<|qv rfl (vv_notD rfl)<|qm rfl<|sd_nil ?_
   exact ⟨rfl, (decide (¬ (x35 ∈ a6))), sbq, hm, (kz0.gr G29)⟩
 clear hm; rintro a24 w21 ⟨hm, K21⟩
 have z74 := K21.size
 unfold cover_Cover_J5 at hm
 refine sw_cond rfl (fun c9 => ?_) (fun c9 => ?_)
 · replace hm := cnd_t c9 hm
   refine sw_exit<|then_x<|block_x ?_
   have K_75 : Kz [(1, b12), (1, b13)] w13 w21 := ((K14.md M15).kz K21)
   have B76 := ((Fw14_0.md M15 (pb_0 Fw14_1)).kz K21)
   have B77 := ((Fw14_2.md M15).kz K21)
   have B78 := (Mi.kz (Mk.mi MKw15) K21)
   subst hnx3
   exact ⟨rfl, ⟨n3, a16, vy17, zy17, gy17, (rem3.filter (· ≠ k18))⟩, sbq, ⟨hm, B76, ⟨(pv_0 (A := (fun x => w13.heap.size ≤ x)) Fw14_1)⟩, B77, B78, K_75⟩, Nat.lt_succ_self _⟩
 replace hm := cnd_f c9 hm
 refine qu<|qs 2 rfl<|qm rfl<|qm rfl<|sd_done ?_
 refine sw_seq<|sw_block ?_
 have X79 := (X73.kz K21)
 have B80 := (((B39.kz K14 (tk2 (pb_lt (b := b12) lt1) (pb_lt (b := b13) lt1))).md M15 (pb_lt lt1)).kz K21)
 have B81 := ((Fw14_0.md M15 (pb_0 Fw14_1)).kz K21)
 refine sw_loopD (α := Nat × Int) ([15] ++ rg 84 18) (fun ⟨n6, a26⟩ => [(15, .int .i64 a26)]) (fun ⟨n6, a26⟩ wr => (fixN (cover_Cover_L6 x1 a6 a16 nx3 k18) n6 a26 = some r) ∧ Kz [] w21 wr) (fun ⟨n6, a26⟩ => n6) ⟨FUEL, k18⟩ ?_ ?_ ?_
 · exact sbq
 · exact ⟨hm, Kz.refl _ _⟩
 clear hm; rintro ⟨n6, a26⟩ w22 ⟨hm, K22⟩
 have z82 := K22.size
 have hb := fix_succ hm; clear hm; obtain ⟨n6, rfl, hm⟩ := hb
 generalize hrec6 : fixN (cover_Cover_L6 x1 a6 a16 nx3 k18) n6 = rec6 at hm
 unfold cover_Cover_L6 at hm
 try dsimp only at hm
 refine sw_seq<|qs 10 rfl<|qm rfl<|qm rfl<|qv rfl (vv_mul (k := .i64) (a := 2) (b := a26) rfl rfl) ?_
 have B83 := ((B54.kz K21).kz K22)
 refine qv rfl (vv_lookup (k := w64 (2 * a26)) (ks := a6) mpt_392 rfl rfl B83)<|qm rfl<|qm rfl<|qv rfl (vv_mul (k := .i64) (a := 2) (b := a26) rfl rfl)<|qv rfl (vv_add (k := .i64) (a := w64 (2 * a26)) (b := 1) rfl rfl)<|qv rfl (vv_lookup (k := w64 ((w64 (2 * a26)) + 1)) (ks := a6) mpt_392 rfl rfl B83)<|qv rfl (vv_neqL Tryz.underlying4 rfl rfl) ?_
 refine sd_done<|sw_cond rfl (fun c10 => ?_) (fun c10 => ?_)
 · replace hm := cnd_t c10 hm
   refine qu<|sw_block<|qs 3 rfl<|qm rfl<|qv rfl (vv_mul (k := .i64) (a := a26) (b := 2) rfl rfl) ?_
   refine qm rfl<|qd 4 rfl<|qm rfl<|qm rfl<|qv rfl (vv_lookup (k := w64 (a26 * 2)) (ks := a6) mpt_392 rfl rfl B83) ?_
   refine qv rfl (vv_notD rfl)<|sd_done<|cnF rfl (fun c11 => ?_) (fun c11 => ?_)
   · replace hm := iF c11 hm
     refine sw_skip<|block_n ?_
     have K_85 : Kz [] w21 w22 := K22
     subst hrec6
     exact ⟨rfl, ⟨n6, w64 (a26 * 2)⟩, sbq, ⟨hm, K_85⟩, Nat.lt_succ_self _⟩
   replace hm := iT c11 hm
   refine qg 3 rfl<|qm rfl<|qv rfl (vv_add (k := .i64) (a := w64 (a26 * 2)) (b := 1) rfl rfl)<|qm rfl<|sd_nil<|block_n ?_
   have K_84 : Kz [] w21 w22 := K22
   subst hrec6
   exact ⟨rfl, ⟨n6, w64 ((w64 (a26 * 2)) + 1)⟩, sbq, ⟨hm, K_84⟩, Nat.lt_succ_self _⟩
 replace hm := cnd_f c10 hm
 refine sw_exit<|then_x<|then_x<|block_x<|then_n<|sw_seq<|sw_seq ?_
 refine qg 3 rfl<|qm rfl<|qm rfl<|qv rfl (vv_eql (a := a26) (b := k18) rfl rfl)<|sd_done<|sw_cond rfl (fun c12 => ?_) (fun c12 => ?_)
 · replace hm := iT c12 hm
   refine sw_exit<|then_x<|block_x ?_
   have K_86 : Kz [(1, b12), (1, b13)] w13 w22 := (((K14.md M15).kz K21).kz K22)
   have B87 := (B81.kz K22)
   have B88 := (((Fw14_2.md M15).kz K21).kz K22)
   have B89 := (Mi.kz (Mi.kz (Mk.mi MKw15) K21) K22)
   subst hnx3
   exact ⟨rfl, ⟨n3, a16, vy17, zy17, gy17, (rem3.filter (· ≠ k18))⟩, sbq, ⟨hm, B87, ⟨(pv_0 (A := (fun x => w13.heap.size ≤ x)) Fw14_1)⟩, B88, B89, K_86⟩, Nat.lt_succ_self _⟩
 replace hm := iF c12 hm
 refine qu ?_
 have X90 := (X79.kz K22)
 refine qj (β := Int × List TSubset × Value × Nat × Nat) ([14, 16] ++ rg 105 22) (fun ⟨a27, a28, vy29, zy29, gy29⟩ => [(14, .int .i64 a27)]) (fun ⟨a27, a28, vy29, zy29, gy29⟩ wr => (cover_Cover_J7 nx3 a26 a27 a28 = some r) ∧ Own wr zy29 gy29 171 2 vy29 (a28.map TSubset.cs) ∧ Hdn (zy29 = 0 ∨ (gy29 = gy17 ∧ zy17 ≠ 0) ∨ w22.heap.size ≤ gy29) ∧ Bx wr b12 202 [vy29] ∧ Kz [(1, b12), (zy17, gy17)] w22 wr) ?_ ?_
 · refine qs 5 rfl ?_
   have B98 := ((B55.kz K21).kz K22)
   refine qv rfl (vv_loadW agg_290 rfl B98 rfl)<|qm rfl<|qm rfl ?_
   obtain ⟨x31, hx31, hm⟩ := bnd hm
   refine qe rfl (eC en_309 rfl (cover_tree_cut_w hx31)) ?_
   rintro _ w25 ⟨rfl, G25⟩
   have z99 := G25.size
   refine qm rfl<|sd_done ?_
   have X100 := (X90.trans G25)
   refine qj (β := Bool) (rg 109 13) (fun a32 => [(121, .bool a32)]) (fun a32 wr => (cover_Cover_J8 a16 nx3 k18 a26 x31 a32 = some r) ∧ Kz [] w25 wr) ?_ ?_
   · refine qg 13 rfl<|qm rfl<|qv rfl (vv_neq (a := x31) (b := 0) rfl rfl)<|qpF rfl (vv_move rfl) (fun c14 => ?_) (fun c14 => ?_)
     · replace hm := iF c14 hm
       refine qk rfl<|qk rfl<|qk rfl<|qm rfl<|qm rfl<|qk rfl<|qk rfl ?_
       refine qk rfl<|qk rfl<|qm rfl<|sd_nil ?_
       exact ⟨rfl, false, sbq, hm, kz0⟩
     replace hm := iT c14 hm
     refine qv rfl (vv_fieldAddr fa_290_0 rfl) ?_
     have B110 := (B98.gr G25)
     refine qv rfl (vv_load1 (v := bv x1.1.kind) one_5 rfl B110 rfl)<|qv rfl (vv_eqlB (p := x1.1.kind) (q := 3#8) rfl rfl)<|qm rfl<|qpF rfl (vv_move rfl) (fun c15 => ?_) (fun c15 => ?_)
     · replace hm := iF c15 hm
       refine qk rfl<|qk rfl<|qk rfl<|qk rfl<|qm rfl<|sd_nil ?_
       exact ⟨rfl, false, sbq, hm, kz0⟩
     replace hm := iT c15 hm
     refine qv rfl (vv_loadW agg_290 rfl B110 rfl)<|qm rfl ?_
     obtain ⟨x34, hx34, hm⟩ := bnd hm
     refine qe rfl (eC en_308 rfl (cover_tree_special_w hx34)) ?_
     rintro _ w28 ⟨rfl, G28⟩
     have z111 := G28.size
     refine qv rfl (vv_not rfl)<|qm rfl<|sd_nil ?_
     exact ⟨rfl, (!x34), sbq, hm, (kz0.gr G28)⟩
   clear hm; rintro a32 w26 ⟨hm, K26⟩
   have z101 := K26.size
   unfold cover_Cover_J8 at hm
   refine cnF rfl (fun c13 => ?_) (fun c13 => ?_)
   · replace hm := cnd_f c13 hm
     refine sw_skip ?_
     have K_107 : Kz [(1, b12), (zy17, gy17)] w22 w26 := ((Kz.gr (Kz.refl _ _) G25).kz K26)
     have B108 := (((B81.kz K22).gr G25).kz K26)
     have B109 := (((((Fw14_2.md M15).kz K21).kz K22).gr G25).kz K26)
     exact ⟨rfl, ⟨k18, a16, vy17, zy17, gy17⟩, sbq, hm, B108, ⟨tk0⟩, B109, K_107⟩
   replace hm := cnd_t c13 hm
   refine qs 4 rfl<|qm rfl<|qm rfl<|qm rfl ?_
   have B102 := (((((Fw14_2.md M15).kz K21).kz K22).gr G25).kz K26)
   have B103 := (((B81.kz K22).gr G25).kz K26)
   obtain ⟨x33, hx33, hm⟩ := bnd hm
   refine qe rfl (ev_callV en_313 rfl rfl (cover_Cover_1_w hx33 B102 B103 ⟨(tk1 (pb_0 (b := b12) Fw14_1))⟩)) ?_
   rintro _ w27 ⟨u27_b0_s, z27_b0_s, g27_b0_s, rfl, O27_b0_s, f27_b0_s, Bk27_0, K27⟩
   have z104 := K27.size
   have lt105 := O27_b0_s.lth
   refine sd_done<|qg 2 rfl<|qm rfl<|qm rfl<|sd_nil ?_
   exact ⟨rfl, ⟨x31, x33, u27_b0_s, z27_b0_s, g27_b0_s⟩, sbq, hm, O27_b0_s, ⟨(pv_1 (A := (fun x => (x = gy17 ∧ zy17 ≠ 0) ∨ w22.heap.size ≤ x)) f27_b0_s tk0)⟩, Bk27_0, (((Kz.gr (Kz.refl _ _) G25).kz K26).kz K27 (tk1 (tk0 : zy17 = 0 ∨ (gy17 = gy17 ∧ zy17 ≠ 0) ∨ w22.heap.size ≤ gy17)))⟩
 clear hm; rintro ⟨a27, a28, vy29, zy29, gy29⟩ w23 ⟨hm, Fw23_0, Fw23_1, Fw23_2, K23⟩
 have z91 := K23.size
 have lt92 := Fw23_0.lth
 have lt93 := Fw23_2.lt
 unfold cover_Cover_J7 at hm
 refine qg 4 rfl<|qm rfl<|qm rfl<|qm rfl ?_
 obtain ⟨x30, hx30, hm⟩ := bnd hm
 refine qe rfl (ev_callV en_313 rfl rfl (cover_Cover_1_w hx30 Fw23_2 Fw23_0 ⟨(tk1 (pb_1 (b := b12) Fw23_1 (pb_0 Fw14_1)))⟩)) ?_
 rintro _ w24 ⟨u24_b0_s, z24_b0_s, g24_b0_s, rfl, O24_b0_s, f24_b0_s, Bk24_0, K24⟩
 have z94 := K24.size
 have lt95 := O24_b0_s.lth
 refine sd_nil<|block_n ?_
 have K_96 : Kz [(1, b12), (1, b13)] w13 w24 := (((((K14.md M15).kz K21).kz K22).kz K23 (tk1 (pv_0 (A := (fun x => w13.heap.size ≤ x)) Fw14_1))).kz K24 (tk1 (pv_1 (A := (fun x => w13.heap.size ≤ x)) Fw23_1 (pv_0 (A := (fun x => w13.heap.size ≤ x)) Fw14_1))))
 have B97 := (Mi.kz (Mi.kz (Mi.kz (Mi.kz (Mk.mi MKw15) K21) K22) K23 (tk1 (pb_0 (b := b13) Fw14_1))) K24 (tk1 (pb_1 (b := b13) Fw23_1 (pb_0 Fw14_1))))
 subst hnx3
 exact ⟨rfl, ⟨n3, x30, u24_b0_s, z24_b0_s, g24_b0_s, (rem3.filter (· ≠ k18))⟩, sbq, ⟨hm, O24_b0_s, ⟨(pv_1 (A := (fun x => w13.heap.size ≤ x)) f24_b0_s (pv_1 (A := (fun x => w13.heap.size ≤ x)) Fw23_1 (pv_0 (A := (fun x => w13.heap.size ≤ x)) Fw14_1)))⟩, Bk24_0, B97, K_96⟩, Nat.lt_succ_self _⟩
theorem ref03_Receivers_w {p0 r} (hm : ref03_Receivers p0 = some r) {w : World} :
    Calls Tryz.prog 192 [.int .i64 p0].toArray w fun e w' => ∃ v, e = .returned v ∧ (v = .int .i64 r ∧ Gr w w') := by
 unfold ref03_Receivers at hm
 refine calls_of_sw 13 Tryz.func192 rfl rfl rfl<|qs 1 rfl<|qm rfl<|qd 1 rfl ?_
 refine qm rfl<|sd_done<|sw_seq<|qs 1 rfl<|qm rfl<|sd_done ?_
 refine sw_block<|sw_loopD (α := Nat × Int × Int) (rg 3 9) (fun ⟨n1, a3, a4⟩ => [(3, .int .i64 a3), (4, .int .i64 a4)]) (fun ⟨n1, a3, a4⟩ wr => (fixN (ref03_Receivers_L1 p0) n1 (a3, a4) = some r) ∧ Kz [] w wr) (fun ⟨n1, a3, a4⟩ => n1) ⟨FUEL, 1, 0⟩ ?_ ?_ ?_
 · exact sbq
 · exact ⟨hm, Kz.refl _ _⟩
 clear hm; rintro ⟨n1, a3, a4⟩ w1 ⟨hm, K1⟩
 have z1 := K1.size
 have hb := fix_succ hm; clear hm; obtain ⟨n1, rfl, hm⟩ := hb
 generalize hrec1 : fixN (ref03_Receivers_L1 p0) n1 = rec1 at hm
 unfold ref03_Receivers_L1 at hm
 try dsimp only at hm
 refine sw_seq<|qs 3 rfl<|qm rfl<|qm rfl<|qv rfl (vv_lss (a := a4) (b := p0) rfl rfl)<|sd_done ?_
 refine cnF rfl (fun c1 => ?_) (fun c1 => ?_)
 · replace hm := iF c1 hm
   refine sw_exit<|then_x<|then_x<|block_x<|then_n<|qs 2 rfl ?_
   refine qm rfl<|qm rfl<|sd_done<|sw_ret ?_
   have X3 := ((Gr.refl w).kz K1)
   cases hm
   refine ⟨_, _, rfl, res_1 rfl (rv_tmp rfl), ?_⟩
   exact ⟨rfl, X3⟩
 replace hm := iT c1 hm
 refine qu<|sw_seq<|sw_block<|qg 3 rfl<|qm rfl<|qv rfl (vv_mul (k := .i64) (a := 2) (b := a3) rfl rfl) ?_
 refine qm rfl<|sd_nil<|block_n<|then_n<|qg 3 rfl<|qm rfl<|qv rfl (vv_add (k := .i64) (a := a4) (b := 1) rfl rfl) ?_
 refine qm rfl<|sd_nil ?_
 have K_2 : Kz [] w w1 := K1
 subst hrec1
 exact ⟨rfl, ⟨n1, w64 (2 * a3), w64 (a4 + 1)⟩, sbq, ⟨hm, K_2⟩, Nat.lt_succ_self _⟩
theorem ref03_IsList_w {p0 p1 vp1 zp1 gp1 op1 r} (hm : ref03_IsList p0 p1 = some r) {w : World} (hp1 : Rd w zp1 gp1 op1 1 vp1 (p1.map ic)) :
    Calls Tryz.prog 175 [.int .i64 p0, vp1].toArray w fun e w' => ∃ v, e = .returned v ∧ (v = .bool r ∧ Gr w w') := by
 have lt1 := hp1.lth
 unfold ref03_IsList at hm
 refine calls_of_sw 42 Tryz.func175 rfl rfl rfl<|qs 1 rfl<|qm rfl<|sd_done<|sw_seq<|sw_seq ?_
 refine qg 1 rfl<|qm rfl<|sd_done<|sw_block<|sw_loopD (α := Nat × Int) (rg 4 38) (fun ⟨n1, a2⟩ => [(4, .bool false), (5, .int .i64 a2)]) (fun ⟨n1, a2⟩ wr => (fixN (ref03_IsList_L1 p0 p1) n1 a2 = some r) ∧ Kz [] w wr) (fun ⟨n1, a2⟩ => n1) ⟨FUEL, 0⟩ ?_ ?_ ?_
 · exact sbq
 · exact ⟨hm, Kz.refl _ _⟩
 clear hm; rintro ⟨n1, a2⟩ w1 ⟨hm, K1⟩
 have z2 := K1.size
 have hb := fix_succ hm; clear hm; obtain ⟨n1, rfl, hm⟩ := hb
 generalize hrec1 : fixN (ref03_IsList_L1 p0 p1) n1 = rec1 at hm
 unfold ref03_IsList_L1 at hm
 try dsimp only at hm
 refine sw_seq<|qs 4 rfl<|qm rfl<|qm rfl ?_
 have B3 := (hp1.kz K1)
 refine qv rfl (vv_lenT (l := p1) (c := ic) Tryz.underlying31 rfl B3)<|qv rfl (vv_lss (a := a2) (b := (p1.length : Int)) rfl rfl)<|sd_done<|cnF rfl (fun c1 => ?_) (fun c1 => ?_)
 · replace hm := iF c1 hm
   refine sw_exit<|then_x<|then_x<|block_x<|then_n<|qs 1 rfl ?_
   refine qm rfl<|sd_done<|sw_ret ?_
   have X15 := ((Gr.refl w).kz K1)
   cases hm
   refine ⟨_, _, rfl, res_1 rfl (rv_tmp rfl), ?_⟩
   exact ⟨rfl, X15⟩
 replace hm := iT c1 hm
 refine qu<|sw_seq<|sw_block ?_
 have X4 := ((Gr.refl w).kz K1)
 refine qj (β := Bool) (rg 12 30) (fun a3 => [(41, .bool a3)]) (fun a3 wr => (ref03_IsList_J2 a2 rec1 a3 = some r) ∧ Kz [] w1 wr) ?_ ?_
 · refine dw [([])] [] (.leaf [(0,10),(1,10),(2,10),(3,10),(4,10),(5,10),(6,10),(7,10),(8,10),(9,10),(10,10),(11,0),(12,10),(13,10),(14,10),(15,10),(16,10),(17,10),(18,10),(19,10),(20,10),(21,10),(22,10),(23,10),(24,10),(25,10),(26,10),(27,10),(28,10),(29,10)]) ?_
   intro w3 G3 zw3
   refine sdz_leaf<|dm 0 rfl rfl<|dm 0 rfl rfl ?_
   obtain ⟨y4, hy4, hm⟩ := bnd hm
   have B8 := (B3.gr G3)
   refine dh 0 rfl rfl (fun w hS => vv_ixT (i := a2) Tryz.underlying31 (one_3).siz rfl (Rd.kp B8 hS) rfl hy4)<|dh 0 rfl rfl (fun w hS => vv_el1T (q := 0) (u := .int .i64 y4) one_3 rfl (Rd.kp B8 hS) hy4 (by first | rfl | omega) rfl)<|dh 0 rfl rfl (fun w hS => vv_lss (a := y4) (b := 0) rfl rfl)<|qq 0 rfl rfl (Kp.refl ([]) w3) (fun w hS => vv_move rfl) (fun c3 => ?_) (fun c3 => ?_)
   · replace hm := iT c3 hm
     refine dx 0 rfl rfl<|dx 0 rfl rfl<|dx 0 rfl rfl<|dx 0 rfl rfl<|dx 0 rfl rfl<|qy rfl<|dx 0 rfl rfl ?_
     refine dm 0 rfl rfl<|dm 0 rfl rfl<|dx 0 rfl rfl<|dx 0 rfl rfl<|dx 0 rfl rfl<|dx 0 rfl rfl<|dx 0 rfl rfl ?_
     refine dx 0 rfl rfl<|dx 0 rfl rfl<|dx 0 rfl rfl<|dx 0 rfl rfl<|dx 0 rfl rfl<|dx 0 rfl rfl<|dx 0 rfl rfl ?_
     refine dx 0 rfl rfl<|dx 0 rfl rfl<|dm 0 rfl rfl<|sd_nil ?_
     exact ⟨rfl, true, sbq, hm, (kz0.gr G3)⟩
   replace hm := iF c3 hm
   refine dm 0 rfl rfl<|dm 0 rfl rfl ?_
   obtain ⟨y5, hy5, hm⟩ := bnd hm
   refine dh 0 rfl rfl (fun w hS => vv_ixT (i := a2) Tryz.underlying31 (one_3).siz rfl (Rd.kp B8 hS) rfl hy5)<|dh 0 rfl rfl (fun w hS => vv_el1T (q := 0) (u := .int .i64 y5) one_3 rfl (Rd.kp B8 hS) hy5 (by first | rfl | omega) rfl)<|dm 0 rfl rfl ?_
   obtain ⟨x6, hx6, hm⟩ := bnd hm
   refine qz [] rfl (eC en_192 rfl (ref03_Receivers_w hx6)) ⟨fun _ => tk0, trivial⟩ ?_
   rintro _ w4 ⟨rfl, G4⟩
   have z10 := G4.size
   refine kG G4 ?_
   have S11 := ((Kp.refl ([]) w3).gr G4)
   refine qh 0 rfl rfl S11 (fun w hS => vv_geq (a := y5) (b := x6) rfl rfl)<|dn 0 rfl rfl S11<|qq 0 rfl rfl S11 (fun w hS => vv_move rfl) (fun c4 => ?_) (fun c4 => ?_)
   · replace hm := iT c4 hm
     refine qx 0 rfl rfl S11<|qx 0 rfl rfl S11<|qx 0 rfl rfl S11<|qx 0 rfl rfl S11<|qx 0 rfl rfl S11<|qx 0 rfl rfl S11<|qx 0 rfl rfl S11 ?_
     refine qx 0 rfl rfl S11<|qx 0 rfl rfl S11<|qx 0 rfl rfl S11<|qx 0 rfl rfl S11<|qx 0 rfl rfl S11<|qx 0 rfl rfl S11<|qx 0 rfl rfl S11 ?_
     refine dn 0 rfl rfl S11<|sd_nil ?_
     exact ⟨rfl, true, sbq, hm, ((kz0.gr G3).gr G4)⟩
   replace hm := iF c4 hm
   refine dn 0 rfl rfl S11<|qh 0 rfl rfl S11 (fun w hS => vv_gtr (a := a2) (b := 0) rfl rfl)<|qqF 0 rfl rfl S11 (fun w hS => vv_move rfl) (fun c5 => ?_) (fun c5 => ?_)
   · replace hm := iF c5 hm
     refine qx 0 rfl rfl S11<|qx 0 rfl rfl S11<|qx 0 rfl rfl S11<|qx 0 rfl rfl S11<|qx 0 rfl rfl S11<|qx 0 rfl rfl S11<|qx 0 rfl rfl S11 ?_
     refine qx 0 rfl rfl S11<|qx 0 rfl rfl S11<|qx 0 rfl rfl S11<|dn 0 rfl rfl S11<|dn 0 rfl rfl S11<|sd_nil ?_
     exact ⟨rfl, false, sbq, hm, ((kz0.gr G3).gr G4)⟩
   replace hm := iT c5 hm
   refine dn 0 rfl rfl S11<|dn 0 rfl rfl S11 ?_
   obtain ⟨y7, hy7, hm⟩ := bnd hm
   refine qh 0 rfl rfl S11 (fun w hS => vv_ixT (i := a2) Tryz.underlying31 (one_3).siz rfl (Rd.kp B8 hS) rfl hy7)<|qh 0 rfl rfl S11 (fun w hS => vv_el1T (q := 0) (u := .int .i64 y7) one_3 rfl (Rd.kp B8 hS) hy7 (by first | rfl | omega) rfl)<|dn 0 rfl rfl S11<|dn 0 rfl rfl S11<|qh 0 rfl rfl S11 (fun w hS => vv_sub (k := .i64) (a := a2) (b := 1) rfl rfl) ?_
   obtain ⟨y8, hy8, hm⟩ := bnd hm
   refine qh 0 rfl rfl S11 (fun w hS => vv_ixT (i := w64 (a2 - 1)) Tryz.underlying31 (one_3).siz rfl (Rd.kp B8 hS) rfl hy8)<|qh 0 rfl rfl S11 (fun w hS => vv_el1T (q := 0) (u := .int .i64 y8) one_3 rfl (Rd.kp B8 hS) hy8 (by first | rfl | omega) rfl)<|qh 0 rfl rfl S11 (fun w hS => vv_leq (a := y7) (b := y8) rfl rfl)<|dn 0 rfl rfl S11<|dn 0 rfl rfl S11<|sd_nil ?_
   exact ⟨rfl, (decide (y7 ≤ y8)), sbq, hm, ((kz0.gr G3).gr G4)⟩
 clear hm; rintro a3 w2 ⟨hm, K2⟩
 have z5 := K2.size
 unfold ref03_IsList_J2 at hm
 refine sw_cond rfl (fun c2 => ?_) (fun c2 => ?_)
 · replace hm := cnd_t c2 hm
   refine qs 1 rfl<|qm rfl<|sd_done<|sw_ret<|block_r<|then_r ?_
   refine then_r<|block_r<|then_r ?_
   have X6 := (X4.kz K2)
   cases hm
   refine ⟨_, _, rfl, res_1 rfl (rv_tmp rfl), ?_⟩
   exact ⟨rfl, X6⟩
 replace hm := cnd_f c2 hm
 refine sw_skip<|block_n<|then_n<|qg 3 rfl<|qm rfl<|qv rfl (vv_add (k := .i64) (a := a2) (b := 1) rfl rfl)<|qm rfl ?_
 refine sd_nil ?_
 have K_7 : Kz [] w w2 := (K1.kz K2)
 subst hrec1
 exact ⟨rfl, ⟨n1, w64 (a2 + 1)⟩, sbq, ⟨hm, K_7⟩, Nat.lt_succ_self _⟩
theorem ref03_Below_w {p0 p1 r} (hm : ref03_Below p0 p1 = some r) {w : World} :
    Calls Tryz.prog 281 [.int .i64 p0, .int .i64 p1].toArray w fun e w' => ∃ v, e = .returned v ∧ (v = .bool r ∧ Gr w w') := by
 unfold ref03_Below at hm
 refine calls_of_sw 13 Tryz.func281 rfl rfl rfl<|qs 1 rfl<|qm rfl<|sd_done<|sw_seq<|sw_block ?_
 refine sw_loopD (α := Nat × Int) ([0] ++ rg 5 5) (fun ⟨n1, a2⟩ => [(0, .int .i64 a2)]) (fun ⟨n1, a2⟩ wr => (fixN (ref03_Below_L1 p1) n1 a2 = some r) ∧ Kz [] w wr) (fun ⟨n1, a2⟩ => n1) ⟨FUEL, p0⟩ ?_ ?_ ?_
 · exact sbq
 · exact ⟨hm, Kz.refl _ _⟩
 clear hm; rintro ⟨n1, a2⟩ w1 ⟨hm, K1⟩
 have z1 := K1.size
 have hb := fix_succ hm; clear hm; obtain ⟨n1, rfl, hm⟩ := hb
 generalize hrec1 : fixN (ref03_Below_L1 p1) n1 = rec1 at hm
 unfold ref03_Below_L1 at hm
 try dsimp only at hm
 refine sw_seq<|qs 3 rfl<|qm rfl<|qm rfl<|qv rfl (vv_gtr (a := a2) (b := p1) rfl rfl)<|sd_done ?_
 refine sw_cond rfl (fun c1 => ?_) (fun c1 => ?_)
 · replace hm := iT c1 hm
   refine qu<|sw_block<|qg 3 rfl<|qm rfl ?_
   obtain ⟨x3, hx3, hm⟩ := bnd hm
   refine qv rfl (vv_quoI (a := a2) (b := 2) rfl rfl hx3)<|qm rfl<|sd_nil<|block_n ?_
   have K_2 : Kz [] w w1 := K1
   subst hrec1
   exact ⟨rfl, ⟨n1, x3⟩, sbq, ⟨hm, K_2⟩, Nat.lt_succ_self _⟩
 replace hm := iF c1 hm
 refine sw_exit<|then_x<|then_x<|block_x<|then_n<|qs 4 rfl ?_
 refine qm rfl<|qm rfl<|qv rfl (vv_eql (a := a2) (b := p1) rfl rfl)<|qm rfl<|sd_done<|sw_ret ?_
 have X3 := ((Gr.refl w).kz K1)
 cases hm
 refine ⟨_, _, rfl, res_1 rfl (rv_tmp rfl), ?_⟩
 exact ⟨rfl, X3⟩
theorem ref03_hot_w {p0 p1 p2 vp1 zp1 gp1 op1 r} (hm : ref03_hot p0 p1 p2 = some r) {w : World} (hp1 : Rd w zp1 gp1 op1 1 vp1 (p1.map ic)) :
    Calls Tryz.prog 276 [.int .i64 p0, vp1, .int .i64 p2].toArray w fun e w' => ∃ v, e = .returned v ∧ (v = .bool r ∧ Gr w w') := by
 have lt1 := hp1.lth
 unfold ref03_hot at hm
 refine calls_of_sw 23 Tryz.func276 rfl rfl rfl<|qs 1 rfl<|qm rfl<|sd_done<|sw_seq<|sw_seq ?_
 refine qg 1 rfl<|qm rfl<|sd_done<|sw_block<|sw_loopD (α := Nat × Int) (rg 6 17) (fun ⟨n1, a2⟩ => [(6, .bool false), (7, .int .i64 a2)]) (fun ⟨n1, a2⟩ wr => (fixN (ref03_hot_L1 p0 p1 p2) n1 a2 = some r) ∧ Kz [] w wr) (fun ⟨n1, a2⟩ => n1) ⟨FUEL, 0⟩ ?_ ?_ ?_
 · exact sbq
 · exact ⟨hm, Kz.refl _ _⟩
 clear hm; rintro ⟨n1, a2⟩ w1 ⟨hm, K1⟩
 have z2 := K1.size
 have hb := fix_succ hm; clear hm; obtain ⟨n1, rfl, hm⟩ := hb
 generalize hrec1 : fixN (ref03_hot_L1 p0 p1 p2) n1 = rec1 at hm
 unfold ref03_hot_L1 at hm
 try dsimp only at hm
 refine sw_seq<|qs 4 rfl<|qm rfl<|qm rfl ?_
 have B3 := (hp1.kz K1)
 refine qv rfl (vv_lenT (l := p1) (c := ic) Tryz.underlying31 rfl B3)<|qv rfl (vv_lss (a := a2) (b := (p1.length : Int)) rfl rfl)<|sd_done<|cnF rfl (fun c1 => ?_) (fun c1 => ?_)
 · replace hm := iF c1 hm
   refine sw_exit<|then_x<|then_x<|block_x<|then_n<|qs 1 rfl ?_
   refine qm rfl<|sd_done<|sw_ret ?_
   have X10 := ((Gr.refl w).kz K1)
   cases hm
   refine ⟨_, _, rfl, res_1 rfl (rv_tmp rfl), ?_⟩
   exact ⟨rfl, X10⟩
 replace hm := iT c1 hm
 refine qu<|sw_seq<|sw_block<|sw_seq<|dw [([])] [] (.leaf [(0,10),(2,10),(3,10),(4,10),(5,10),(7,10),(1,0),(6,10),(8,0)]) ?_
 intro w2 G2 zw2
 refine sdz_leaf<|dm 0 rfl rfl<|dm 0 rfl rfl<|dm 0 rfl rfl ?_
 obtain ⟨y3, hy3, hm⟩ := bnd hm
 have B4 := (B3.gr G2)
 refine dh 0 rfl rfl (fun w hS => vv_ixT (i := a2) Tryz.underlying31 (one_3).siz rfl (Rd.kp B4 hS) rfl hy3)<|dh 0 rfl rfl (fun w hS => vv_el1T (q := 0) (u := .int .i64 y3) one_3 rfl (Rd.kp B4 hS) hy3 (by first | rfl | omega) rfl)<|dm 0 rfl rfl ?_
 obtain ⟨x4, hx4, hm⟩ := bnd hm
 refine qz [] rfl (eC en_192 rfl (ref03_Receivers_w hx4)) ⟨fun _ => tk0, trivial⟩ ?_
 rintro _ w3 ⟨rfl, G3⟩
 have z5 := G3.size
 refine kG G3 ?_
 have S6 := ((Kp.refl ([]) w2).gr G3)
 refine qh 0 rfl rfl S6 (fun w hS => vv_add (k := .i64) (a := x4) (b := y3) rfl rfl) ?_
 obtain ⟨x5, hx5, hm⟩ := bnd hm
 refine qz [] rfl (eC en_281 rfl (ref03_Below_w hx5)) ⟨fun _ => tk0, trivial⟩ ?_
 rintro _ w4 ⟨rfl, G4⟩
 have z7 := G4.size
 refine kG G4<|sd_done<|sw_cond rfl (fun c2 => ?_) (fun c2 => ?_)
 · replace hm := cnd_t c2 hm
   refine qs 1 rfl<|qm rfl<|sd_done<|sw_ret<|block_r<|then_r ?_
   refine then_r<|block_r<|then_r ?_
   have X8 := (((((Gr.refl w).kz K1).trans G2).trans G3).trans G4)
   cases hm
   refine ⟨_, _, rfl, res_1 rfl (rv_tmp rfl), ?_⟩
   exact ⟨rfl, X8⟩
 replace hm := cnd_f c2 hm
 refine sw_skip<|block_n<|then_n<|qg 3 rfl<|qm rfl<|qv rfl (vv_add (k := .i64) (a := a2) (b := 1) rfl rfl)<|qm rfl ?_
 refine sd_nil ?_
 have K_9 : Kz [] w w4 := (((K1.gr G2).gr G3).gr G4)
 subst hrec1
 exact ⟨rfl, ⟨n1, w64 (a2 + 1)⟩, sbq, ⟨hm, K_9⟩, Nat.lt_succ_self _⟩
theorem ref03_foot_w {p0 p1 p2 vp1 zp1 gp1 op1 r} (hm : ref03_foot p0 p1 p2 = some r) {w : World} (hp1 : Rd w zp1 gp1 op1 1 vp1 (p1.map ic)) :
    Calls Tryz.prog 277 [.int .i64 p0, vp1, .int .i64 p2].toArray w fun e w' => ∃ v, e = .returned v ∧ (v = .int .i64 r ∧ Gr w w') := by
 have lt1 := hp1.lth
 unfold ref03_foot at hm
 refine calls_of_sw 36 Tryz.func277 rfl rfl rfl<|qs 1 rfl<|qm rfl<|sd_done<|sw_seq<|sw_block ?_
 refine sw_loopD (α := Nat × Int) ([2] ++ rg 7 28) (fun ⟨n1, a2⟩ => [(2, .int .i64 a2)]) (fun ⟨n1, a2⟩ wr => (fixN (ref03_foot_L1 p0 p1) n1 a2 = some r) ∧ Kz [] w wr) (fun ⟨n1, a2⟩ => n1) ⟨FUEL, p2⟩ ?_ ?_ ?_
 · exact sbq
 · exact ⟨hm, Kz.refl _ _⟩
 clear hm; rintro ⟨n1, a2⟩ w1 ⟨hm, K1⟩
 have z2 := K1.size
 have hb := fix_succ hm; clear hm; obtain ⟨n1, rfl, hm⟩ := hb
 generalize hrec1 : fixN (ref03_foot_L1 p0 p1) n1 = rec1 at hm
 unfold ref03_foot_L1 at hm
 try dsimp only at hm
 refine sw_seq ?_
 have X3 := ((Gr.refl w).kz K1)
 refine qj (β := Bool) (rg 7 18) (fun a3 => [(24, .bool a3)]) (fun a3 wr => (ref03_foot_J2 p0 p1 a2 rec1 a3 = some r) ∧ Kz [] w1 wr) ?_ ?_
 · refine qg 18 rfl<|qm rfl<|qm rfl ?_
   obtain ⟨x5, hx5, hm⟩ := bnd hm
   refine qe rfl (eC en_192 rfl (ref03_Receivers_w hx5)) ?_
   rintro _ w4 ⟨rfl, G4⟩
   have z10 := G4.size
   refine qv rfl (vv_lss (a := a2) (b := x5) rfl rfl)<|qpF rfl (vv_move rfl) (fun c3 => ?_) (fun c3 => ?_)
   · replace hm := iF c3 hm
     refine qk rfl<|qk rfl<|qk rfl<|qk rfl<|qk rfl<|qk rfl<|qk rfl ?_
     refine qk rfl<|qk rfl<|qk rfl<|qk rfl<|qk rfl<|qm rfl<|sd_nil ?_
     exact ⟨rfl, false, sbq, hm, (kz0.gr G4)⟩
   replace hm := iT c3 hm
   refine qm rfl<|qm rfl<|qm rfl<|qv rfl (vv_mul (k := .i64) (a := 2) (b := a2) rfl rfl) ?_
   have B11 := ((hp1.kz K1).gr G4)
   obtain ⟨x6, hx6, hm⟩ := bnd hm
   refine qe rfl (eC en_276 rfl (ref03_hot_w hx6 B11)) ?_
   rintro _ w5 ⟨rfl, G5⟩
   have z12 := G5.size
   refine qm rfl<|qm rfl<|qm rfl<|qv rfl (vv_mul (k := .i64) (a := 2) (b := a2) rfl rfl)<|qv rfl (vv_add (k := .i64) (a := w64 (2 * a2)) (b := 1) rfl rfl) ?_
   have B13 := (B11.gr G5)
   obtain ⟨x7, hx7, hm⟩ := bnd hm
   refine qe rfl (eC en_276 rfl (ref03_hot_w hx7 B13)) ?_
   rintro _ w6 ⟨rfl, G6⟩
   have z14 := G6.size
   refine qv rfl (vv_neqL Tryz.underlying4 rfl rfl)<|qm rfl<|sd_nil ?_
   exact ⟨rfl, (x6 != x7), sbq, hm, (((kz0.gr G4).gr G5).gr G6)⟩
 clear hm; rintro a3 w2 ⟨hm, K2⟩
 have z4 := K2.size
 unfold ref03_foot_J2 at hm
 refine cnF rfl (fun c1 => ?_) (fun c1 => ?_)
 · replace hm := cnd_f c1 hm
   refine sw_exit<|then_x<|then_x<|block_x<|then_n<|qs 2 rfl ?_
   refine qm rfl<|qm rfl<|sd_done<|sw_ret ?_
   have X9 := (X3.kz K2)
   cases hm
   refine ⟨_, _, rfl, res_1 rfl (rv_tmp rfl), ?_⟩
   exact ⟨rfl, X9⟩
 replace hm := cnd_t c1 hm
 refine qu<|sw_block<|qs 5 rfl<|qm rfl<|qm rfl ?_
 refine qm rfl<|qv rfl (vv_mul (k := .i64) (a := 2) (b := a2) rfl rfl) ?_
 have B5 := ((hp1.kz K1).kz K2)
 obtain ⟨x4, hx4, hm⟩ := bnd hm
 refine qe rfl (eC en_276 rfl (ref03_hot_w hx4 B5)) ?_
 rintro _ w3 ⟨rfl, G3⟩
 have z6 := G3.size
 refine sd_done<|sw_cond rfl (fun c2 => ?_) (fun c2 => ?_)
 · replace hm := cnd_t c2 hm
   refine qg 3 rfl<|qm rfl<|qv rfl (vv_mul (k := .i64) (a := 2) (b := a2) rfl rfl)<|qm rfl<|sd_nil<|block_n ?_
   have K_7 : Kz [] w w3 := ((K1.kz K2).gr G3)
   subst hrec1
   exact ⟨rfl, ⟨n1, w64 (2 * a2)⟩, sbq, ⟨hm, K_7⟩, Nat.lt_succ_self _⟩
 replace hm := cnd_f c2 hm
 refine qg 4 rfl<|qm rfl<|qv rfl (vv_mul (k := .i64) (a := 2) (b := a2) rfl rfl)<|qv rfl (vv_add (k := .i64) (a := w64 (2 * a2)) (b := 1) rfl rfl)<|qm rfl<|sd_nil<|block_n ?_
 have K_8 : Kz [] w w3 := ((K1.kz K2).gr G3)
 subst hrec1
 exact ⟨rfl, ⟨n1, w64 ((w64 (2 * a2)) + 1)⟩, sbq, ⟨hm, K_8⟩, Nat.lt_succ_self _⟩
theorem ref03_Node_w {p0 p1 r} (hm : ref03_Node p0 p1 = some r) {w : World} :
    Calls Tryz.prog 280 [.int .i64 p0, .int .i64 p1].toArray w fun e w' => ∃ v, e = .returned v ∧ (v = .bool r ∧ Gr w w') := by
 unfold ref03_Node at hm
 refine calls_of_sw 14 Tryz.func280 rfl rfl rfl<|qs 1 rfl<|qm rfl<|qd 10 rfl ?_
 refine qm rfl<|qv rfl (vv_geq (a := p1) (b := 1) rfl rfl)<|qpF rfl (vv_move rfl) (fun c1 => ?_) (fun c1 => ?_)
 · replace hm := iF c1 hm
   refine qk rfl<|qk rfl<|qk rfl<|qk rfl<|qk rfl<|qm rfl<|qm rfl ?_
   refine sd_done<|sw_ret ?_
   cases hm
   refine ⟨_, _, rfl, res_1 rfl (rv_tmp rfl), ?_⟩
   exact ⟨rfl, (Gr.refl w)⟩
 replace hm := iT c1 hm
 refine qm rfl<|qm rfl ?_
 obtain ⟨x1, hx1, hm⟩ := bnd hm
 refine qe rfl (eC en_192 rfl (ref03_Receivers_w hx1)) ?_
 rintro _ w1 ⟨rfl, G1⟩
 have z1 := G1.size
 refine qv rfl (vv_mul (k := .i64) (a := 2) (b := x1) rfl rfl)<|qv rfl (vv_lss (a := p1) (b := w64 (2 * x1)) rfl rfl)<|qm rfl<|qm rfl<|sd_done<|sw_ret ?_
 have X2 := ((Gr.refl w).trans G1)
 cases hm
 refine ⟨_, _, rfl, res_1 rfl (rv_tmp rfl), ?_⟩
 exact ⟨rfl, X2⟩
theorem ref03_Level_w {p0 r} (hm : ref03_Level p0 = some r) {w : World} :
    Calls Tryz.prog 346 [.int .i64 p0].toArray w fun e w' => ∃ v, e = .returned v ∧ (v = .int .i64 r ∧ Gr w w') := by
 unfold ref03_Level at hm
 refine calls_of_sw 11 Tryz.func346 rfl rfl rfl<|qs 1 rfl<|qm rfl<|qd 1 rfl ?_
 refine qm rfl<|sd_done<|sw_seq<|sw_block<|sw_loopD (α := Nat × Int × Int) ([0] ++ rg 3 7) (fun ⟨n1, a3, a4⟩ => [(0, .int .i64 a3), (3, .int .i64 a4)]) (fun ⟨n1, a3, a4⟩ wr => (fixN (ref03_Level_L1) n1 (a3, a4) = some r) ∧ Kz [] w wr) (fun ⟨n1, a3, a4⟩ => n1) ⟨FUEL, p0, 0⟩ ?_ ?_ ?_
 · exact sbq
 · exact ⟨hm, Kz.refl _ _⟩
 clear hm; rintro ⟨n1, a3, a4⟩ w1 ⟨hm, K1⟩
 have z1 := K1.size
 have hb := fix_succ hm; clear hm; obtain ⟨n1, rfl, hm⟩ := hb
 generalize hrec1 : fixN (ref03_Level_L1) n1 = rec1 at hm
 unfold ref03_Level_L1 at hm
 try dsimp only at hm
 refine sw_seq<|qs 2 rfl<|qm rfl<|qv rfl (vv_gtr (a := a3) (b := 1) rfl rfl)<|sd_done<|cnF rfl (fun c1 => ?_) (fun c1 => ?_)
 · replace hm := iF c1 hm
   refine sw_exit<|then_x<|then_x<|block_x<|then_n<|qs 2 rfl ?_
   refine qm rfl<|qm rfl<|sd_done<|sw_ret ?_
   have X3 := ((Gr.refl w).kz K1)
   cases hm
   refine ⟨_, _, rfl, res_1 rfl (rv_tmp rfl), ?_⟩
   exact ⟨rfl, X3⟩
 replace hm := iT c1 hm
 refine qu<|sw_block<|qs 3 rfl<|qm rfl ?_
 obtain ⟨x5, hx5, hm⟩ := bnd hm
 refine qv rfl (vv_quoI (a := a3) (b := 2) rfl rfl hx5)<|qm rfl<|sd_done<|qg 3 rfl<|qm rfl<|qv rfl (vv_add (k := .i64) (a := a4) (b := 1) rfl rfl)<|qm rfl ?_
 refine sd_nil<|block_n ?_
 have K_2 : Kz [] w w1 := K1
 subst hrec1
 exact ⟨rfl, ⟨n1, x5, w64 (a4 + 1)⟩, sbq, ⟨hm, K_2⟩, Nat.lt_succ_self _⟩
theorem ref03_Stride_w {p0 r} (hm : ref03_Stride p0 = some r) {w : World} :
    Calls Tryz.prog 347 [.int .i64 p0].toArray w fun e w' => ∃ v, e = .returned v ∧ (v = .int .i64 r ∧ Gr w w') := by
 unfold ref03_Stride at hm
 refine calls_of_sw 12 Tryz.func347 rfl rfl rfl<|qs 1 rfl<|qm rfl<|qd 1 rfl ?_
 refine qm rfl<|sd_done<|sw_seq<|sw_block<|sw_loopD (α := Nat × Int) (rg 3 8) (fun ⟨n1, a2⟩ => [(3, .int .i64 a2)]) (fun ⟨n1, a2⟩ wr => (fixN (ref03_Stride_L1 p0) n1 a2 = some r) ∧ Kz [] w wr) (fun ⟨n1, a2⟩ => n1) ⟨FUEL, 1⟩ ?_ ?_ ?_
 · exact sbq
 · exact ⟨hm, Kz.refl _ _⟩
 clear hm; rintro ⟨n1, a2⟩ w1 ⟨hm, K1⟩
 have z1 := K1.size
 have hb := fix_succ hm; clear hm; obtain ⟨n1, rfl, hm⟩ := hb
 generalize hrec1 : fixN (ref03_Stride_L1 p0) n1 = rec1 at hm
 unfold ref03_Stride_L1 at hm
 try dsimp only at hm
 refine sw_seq<|qs 5 rfl<|qm rfl<|qm rfl<|qv rfl (vv_mul (k := .i64) (a := a2) (b := a2) rfl rfl)<|qm rfl ?_
 refine qv rfl (vv_lss (a := w64 (a2 * a2)) (b := p0) rfl rfl)<|sd_done<|sw_cond rfl (fun c1 => ?_) (fun c1 => ?_)
 · replace hm := iT c1 hm
   refine qu<|sw_block<|qg 3 rfl<|qm rfl<|qv rfl (vv_add (k := .i64) (a := a2) (b := 1) rfl rfl)<|qm rfl ?_
   refine sd_nil<|block_n ?_
   have K_2 : Kz [] w w1 := K1
   subst hrec1
   exact ⟨rfl, ⟨n1, w64 (a2 + 1)⟩, sbq, ⟨hm, K_2⟩, Nat.lt_succ_self _⟩
 replace hm := iF c1 hm
 refine sw_exit<|then_x<|then_x<|block_x<|then_n<|qs 2 rfl ?_
 refine qm rfl<|qm rfl<|sd_done<|sw_ret ?_
 have X3 := ((Gr.refl w).kz K1)
 cases hm
 refine ⟨_, _, rfl, res_1 rfl (rv_tmp rfl), ?_⟩
 exact ⟨rfl, X3⟩
theorem ref03_Special_w {p0 p1 r} (hm : ref03_Special p0 p1 = some r) {w : World} :
    Calls Tryz.prog 282 [.int .i64 p0, .int .i64 p1].toArray w fun e w' => ∃ v, e = .returned v ∧ (v = .bool r ∧ Gr w w') := by
 unfold ref03_Special at hm
 refine calls_of_sw 11 Tryz.func282 rfl rfl rfl<|qs 1 rfl<|qm rfl<|qd 7 rfl ?_
 refine qm rfl ?_
 obtain ⟨x1, hx1, hm⟩ := bnd hm
 refine qe rfl (eC en_346 rfl (ref03_Level_w hx1)) ?_
 rintro _ w1 ⟨rfl, G1⟩
 have z1 := G1.size
 refine qm rfl ?_
 obtain ⟨x2, hx2, hm⟩ := bnd hm
 refine qe rfl (eC en_347 rfl (ref03_Stride_w hx2)) ?_
 rintro _ w2 ⟨rfl, G2⟩
 have z2 := G2.size
 obtain ⟨x3, hx3, hm⟩ := bnd hm
 refine qv rfl (vv_remI (a := x1) (b := x2) rfl rfl hx3)<|qv rfl (vv_eql (a := x3) (b := 0) rfl rfl)<|qm rfl<|sd_done<|sw_ret ?_
 have X3 := (((Gr.refl w).trans G1).trans G2)
 cases hm
 refine ⟨_, _, rfl, res_1 rfl (rv_tmp rfl), ?_⟩
 exact ⟨rfl, X3⟩
theorem ref03_Path_w {p0 p1 r} (hm : ref03_Path p0 p1 = some r) {w : World} :
    Calls Tryz.prog 345 [.int .i64 p0, .int .i64 p1].toArray w fun e w' => ∃ v, e = .returned v ∧ (∃ ur0_s zr0_s gr0_s, v = ur0_s ∧ Own w' zr0_s gr0_s 3 1 ur0_s (r.map ic) ∧ Hdn (zr0_s = 0 ∨ w.heap.size ≤ gr0_s) ∧ Gr w w') := by
 unfold ref03_Path at hm
 refine calls_of_sw 19 Tryz.func345 rfl rfl rfl<|qs 1 rfl<|qm rfl<|qd 1 rfl ?_
 refine qm rfl<|sd_done<|sw_seq<|sw_block<|sw_loopD (α := Nat × Int × List Int × Value × Nat × Nat) ([1] ++ rg 5 10) (fun ⟨n1, a4, a5, vy6, zy6, gy6⟩ => [(1, .int .i64 a4), (5, vy6)]) (fun ⟨n1, a4, a5, vy6, zy6, gy6⟩ wr => (fixN (ref03_Path_L1 p0) n1 (a4, a5) = some r) ∧ Own wr zy6 gy6 3 1 vy6 (a5.map ic) ∧ Hdn (zy6 = 0 ∨ w.heap.size ≤ gy6) ∧ Kz [] w wr) (fun ⟨n1, a4, a5, vy6, zy6, gy6⟩ => n1) ⟨FUEL, p1, [], (.slice none 0 0), 0, 0⟩ ?_ ?_ ?_
 · exact sbq
 · exact ⟨hm, (own_nil _ 0 3 1), ⟨(.inl rfl)⟩, Kz.refl _ _⟩
 clear hm; rintro ⟨n1, a4, a5, vy6, zy6, gy6⟩ w1 ⟨hm, Fw1_0, Fw1_1, K1⟩
 have z1 := K1.size
 have lt2 := Fw1_0.lth
 have hb := fix_succ hm; clear hm; obtain ⟨n1, rfl, hm⟩ := hb
 generalize hrec1 : fixN (ref03_Path_L1 p0) n1 = rec1 at hm
 unfold ref03_Path_L1 at hm
 try dsimp only at hm
 refine sw_seq<|qs 3 rfl<|qm rfl<|qm rfl<|qv rfl (vv_neq (a := a4) (b := p0) rfl rfl)<|sd_done ?_
 refine sw_cond rfl (fun c1 => ?_) (fun c1 => ?_)
 · replace hm := iT c1 hm
   refine qu<|sw_block<|qs 5 rfl<|qm rfl<|qe rfl (ev_litT [a4] ic bsl_31_1 rfl rfl (ws_of rfl) rfl rfl rfl) ?_
   rintro vw2 w2 ⟨gw2, hbw2, Ow2, G2⟩
   have z3 := G2.size
   have lt4 := Ow2.lth
   refine qm rfl ?_
   have B5 := (Fw1_0.gr G2)
   obtain ⟨l7, hl7, hm⟩ := bnd hm
   refine qe rfl (ev_appT (l := [a4]) (m := a5) (c := ic) apt_31 rfl rfl Ow2 (Own.rd B5) hl7 (by decide)) ?_
   rintro vw3 w3 ⟨zw3, gw3, Ow3, Aw3, qw3, rw3⟩
   have z6 := Aw3.size
   refine qm rfl<|sd_done<|qg 3 rfl<|qm rfl ?_
   obtain ⟨x8, hx8, hm⟩ := bnd hm
   refine qv rfl (vv_quoI (a := a4) (b := 2) rfl rfl hx8)<|qm rfl<|sd_nil<|block_n ?_
   have K_7 : Kz [] w w3 := ((K1.gr G2).ka Aw3 (tk1 ((.inr tk0) : 1 = 0 ∨ w.heap.size ≤ gw2)))
   subst hrec1
   exact ⟨rfl, ⟨n1, x8, l7, vw3, zw3, gw3⟩, sbq, ⟨hm, Ow3, ⟨(pv_app (A := (fun x => w.heap.size ≤ x)) rw3 (.inr tk0))⟩, K_7⟩, Nat.lt_succ_self _⟩
 replace hm := iF c1 hm
 refine sw_exit<|then_x<|then_x<|block_x<|then_n<|qs 5 rfl ?_
 refine qm rfl<|qe rfl (ev_litT [p0] ic bsl_31_1 rfl rfl (ws_of rfl) rfl rfl rfl) ?_
 rintro vw4 w4 ⟨gw4, hbw4, Ow4, G4⟩
 have z8 := G4.size
 have lt9 := Ow4.lth
 refine qm rfl ?_
 have B10 := (Fw1_0.gr G4)
 obtain ⟨l9, hl9, hm⟩ := bnd hm
 refine qe rfl (ev_appT (l := [p0]) (m := a5) (c := ic) apt_31 rfl rfl Ow4 (Own.rd B10) hl9 (by decide)) ?_
 rintro vw5 w5 ⟨zw5, gw5, Ow5, Aw5, qw5, rw5⟩
 have z11 := Aw5.size
 refine qm rfl<|sd_done<|sw_ret ?_
 have X12 := ((((Gr.refl w).kz K1).trans G4).ka Aw5 (tk1 ((.inr tk0) : 1 = 0 ∨ w.heap.size ≤ gw4)))
 cases hm
 refine ⟨_, _, rfl, res_1 rfl (rv_tmp rfl), ?_⟩
 exact ⟨vw5, zw5, gw5, rfl, Ow5, ⟨(pv_app (A := (fun x => w.heap.size ≤ x)) rw5 (.inr tk0))⟩, X12⟩
theorem ref03_between_w {p0 p1 p2 r} (hm : ref03_between p0 p1 p2 = some r) {w : World} :
    Calls Tryz.prog 279 [.int .i64 p0, .int .i64 p1, .int .i64 p2].toArray w fun e w' => ∃ v, e = .returned v ∧ (v = .int .i64 r ∧ Gr w w') := by
 unfold ref03_between at hm
 refine calls_of_sw 29 Tryz.func279 rfl rfl rfl<|qs 1 rfl<|qm rfl<|qd 4 rfl ?_
 refine qm rfl<|qm rfl ?_
 obtain ⟨x1, hx1, hm⟩ := bnd hm
 refine qe rfl (eC en_345 rfl (ref03_Path_w hx1)) ?_
 rintro u1_r0_s w1 ⟨_, z1_r0_s, g1_r0_s, rfl, O1_r0_s, f1_r0_s, G1⟩
 have z1 := G1.size
 have lt2 := O1_r0_s.lth
 refine qm rfl<|sd_done<|sw_seq<|qs 1 rfl<|qm rfl<|sd_done ?_
 refine sw_block ?_
 have X3 := ((Gr.refl w).trans G1)
 refine sw_loopD (α := Nat × Int) ([6, 8] ++ rg 12 17) (fun ⟨n1, a3⟩ => [(6, .int .i64 0), (8, .int .i64 a3)]) (fun ⟨n1, a3⟩ wr => (fixN (ref03_between_L1 p0 x1) n1 a3 = some r) ∧ Kz [] w1 wr) (fun ⟨n1, a3⟩ => n1) ⟨FUEL, 1⟩ ?_ ?_ ?_
 · exact sbq
 · exact ⟨hm, Kz.refl _ _⟩
 clear hm; rintro ⟨n1, a3⟩ w2 ⟨hm, K2⟩
 have z4 := K2.size
 have hb := fix_succ hm; clear hm; obtain ⟨n1, rfl, hm⟩ := hb
 generalize hrec1 : fixN (ref03_between_L1 p0 x1) n1 = rec1 at hm
 unfold ref03_between_L1 at hm
 try dsimp only at hm
 refine sw_seq<|qs 5 rfl<|qm rfl<|qm rfl ?_
 have B5 := (O1_r0_s.kz K2)
 refine qv rfl (vv_lenT (l := x1) (c := ic) Tryz.underlying31 rfl (Own.rd B5))<|qv rfl (vv_sub (k := .i64) (a := (x1.length : Int)) (b := 1) rfl rfl)<|qv rfl (vv_lss (a := a3) (b := w64 ((x1.length : Int) - 1)) rfl rfl)<|sd_done<|cnF rfl (fun c1 => ?_) (fun c1 => ?_)
 · replace hm := iF c1 hm
   refine sw_exit<|then_x<|then_x<|block_x<|then_n<|qs 1 rfl ?_
   refine qm rfl<|sd_done<|sw_ret ?_
   have X10 := (X3.kz K2)
   cases hm
   refine ⟨_, _, rfl, res_1 rfl (rv_tmp rfl), ?_⟩
   exact ⟨rfl, X10⟩
 replace hm := iT c1 hm
 refine qu<|sw_seq<|sw_block<|qs 6 rfl<|qm rfl ?_
 refine qm rfl<|qm rfl ?_
 obtain ⟨y4, hy4, hm⟩ := bnd hm
 refine qv rfl (vv_ixT (i := a3) Tryz.underlying31 (one_3).siz rfl (Own.rd B5) rfl hy4)<|qv rfl (vv_el1T (q := 0) (u := .int .i64 y4) one_3 rfl (Own.rd B5) hy4 (by first | rfl | omega) rfl) ?_
 obtain ⟨x5, hx5, hm⟩ := bnd hm
 refine qe rfl (eC en_282 rfl (ref03_Special_w hx5)) ?_
 rintro _ w3 ⟨rfl, G3⟩
 have z6 := G3.size
 refine sd_done<|cnF rfl (fun c2 => ?_) (fun c2 => ?_)
 · replace hm := cnd_f c2 hm
   refine sw_skip<|block_n<|then_n<|qg 3 rfl<|qm rfl<|qv rfl (vv_add (k := .i64) (a := a3) (b := 1) rfl rfl)<|qm rfl ?_
   refine sd_nil ?_
   have K_9 : Kz [] w1 w3 := (K2.gr G3)
   subst hrec1
   exact ⟨rfl, ⟨n1, w64 (a3 + 1)⟩, sbq, ⟨hm, K_9⟩, Nat.lt_succ_self _⟩
 replace hm := cnd_t c2 hm
 refine qs 5 rfl<|qm rfl<|qm rfl ?_
 obtain ⟨y6, hy6, hm⟩ := bnd hm
 have B7 := (B5.gr G3)
 refine qv rfl (vv_ixT (i := a3) Tryz.underlying31 (one_3).siz rfl (Own.rd B7) rfl hy6)<|qv rfl (vv_el1T (q := 0) (u := .int .i64 y6) one_3 rfl (Own.rd B7) hy6 (by first | rfl | omega) rfl)<|qm rfl<|sd_done<|sw_ret<|block_r<|then_r ?_
 refine then_r<|block_r<|then_r ?_
 have X8 := ((X3.kz K2).trans G3)
 cases hm
 refine ⟨_, _, rfl, res_1 rfl (rv_tmp rfl), ?_⟩
 exact ⟨rfl, X8⟩
theorem ref03_IsSubset_w {p0 p1 r} (hm : ref03_IsSubset p0 p1 = some r) {w : World} :
    Calls Tryz.prog 179 [.agg (TScheme.cs p0).toArray, .agg (TSubset.cs p1).toArray].toArray w fun e w' => ∃ v, e = .returned v ∧ (v = .bool r ∧ Gr w w') := by
 unfold ref03_IsSubset at hm
 refine calls_of_sw 64 Tryz.func179 rfl rfl rfl<|qs 3 rfl<|qe rfl (ev_box (cs := TScheme.cs p0) rfl rfl) ?_
 rintro _ w1 ⟨b1, rfl, hbw1, Bw1, G1⟩
 have z1 := G1.size
 have lt2 := Bw1.lt
 refine qe rfl (ev_box (cs := TSubset.cs p1) rfl rfl) ?_
 rintro _ w2 ⟨b2, rfl, hbw2, Bw2, G2⟩
 have z3 := G2.size
 have lt4 := Bw2.lt
 refine qm rfl<|sd_done<|sw_seq<|qs 6 rfl<|qv rfl (vv_fieldAddr fa_28_1 rfl) ?_
 have B5 := (Bw1.gr G2)
 refine qv rfl (vv_load1 (v := .int .i64 p0.Depth) one_3 rfl B5 rfl)<|qv rfl (vv_fieldAddr fa_171_0 rfl)<|qv rfl (vv_load1 (v := .int .i64 p1.Node) one_3 rfl Bw2 rfl) ?_
 obtain ⟨x1, hx1, hm⟩ := bnd hm
 refine qe rfl (eC en_280 rfl (ref03_Node_w hx1)) ?_
 rintro _ w3 ⟨rfl, G3⟩
 have z6 := G3.size
 refine qv rfl (vv_not rfl)<|sd_done<|sw_cond rfl (fun c1 => ?_) (fun c1 => ?_)
 · replace hm := cnd_t c1 hm
   refine qs 1 rfl<|qm rfl<|qb ?_
   have Y1 := Gr.trans (Gr.trans G1 G2) G3
   have X7 := ((Gr.refl w).trans Y1)
   cases hm
   refine ⟨_, _, rfl, res_1 rfl (rv_tmp rfl), ?_⟩
   exact ⟨rfl, X7⟩
 replace hm := cnd_f c1 hm
 refine qu<|sw_seq<|qs 3 rfl<|qv rfl (vv_fieldAddr fa_28_0 rfl) ?_
 have B8 := (B5.gr G3)
 refine qv rfl (vv_load1 (v := bv p0.Kind) one_5 rfl B8 rfl)<|qv rfl (vv_eqlB (p := p0.Kind) (q := 1#8) rfl rfl)<|sd_done<|sw_cond rfl (fun c2 => ?_) (fun c2 => ?_)
 · replace hm := iT c2 hm
   refine qs 4 rfl<|qv rfl (vv_fieldAddr fa_171_1 rfl) ?_
   have B9 := (Bw2.gr G3)
   refine qv rfl (vv_load1 (v := .int .i64 p1.Minus) one_3 rfl B9 rfl)<|qv rfl (vv_eql (a := p1.Minus) (b := 0) rfl rfl)<|qm rfl<|qb ?_
   have Y2 := Gr.trans (Gr.trans G1 G2) G3
   have X10 := ((Gr.refl w).trans Y2)
   cases hm
   refine ⟨_, _, rfl, res_1 rfl (rv_tmp rfl), ?_⟩
   exact ⟨rfl, X10⟩
 replace hm := iF c2 hm
 refine qu<|sw_seq<|qs 3 rfl<|qv rfl (vv_fieldAddr fa_171_1 rfl) ?_
 have B11 := (Bw2.gr G3)
 refine qv rfl (vv_load1 (v := .int .i64 p1.Minus) one_3 rfl B11 rfl)<|qv rfl (vv_eql (a := p1.Minus) (b := 0) rfl rfl)<|sd_done<|sw_cond rfl (fun c3 => ?_) (fun c3 => ?_)
 · replace hm := iT c3 hm
   refine qs 4 rfl<|qv rfl (vv_fieldAddr fa_171_0 rfl)<|qv rfl (vv_load1 (v := .int .i64 p1.Node) one_3 rfl B11 rfl)<|qv rfl (vv_eql (a := p1.Node) (b := 1) rfl rfl)<|qm rfl<|sd_done ?_
   refine sw_ret<|then_r ?_
   have Y3 := Gr.trans (Gr.trans G1 G2) G3
   have X12 := ((Gr.refl w).trans Y3)
   cases hm
   refine ⟨_, _, rfl, res_1 rfl (rv_tmp rfl), ?_⟩
   exact ⟨rfl, X12⟩
 replace hm := iF c3 hm
 refine qu<|sw_seq ?_
 have Y4 := Gr.trans (Gr.trans G1 G2) G3
 have X13 := ((Gr.refl w).trans Y4)
 refine qj (β := Bool) (rg 23 21) (fun a2 => [(43, .bool a2)]) (fun a2 wr => (ref03_IsSubset_J1 p0 p1 a2 = some r) ∧ Kz [] w3 wr) ?_ ?_
 · refine qg 21 rfl<|qv rfl (vv_fieldAddr fa_28_1 rfl)<|qv rfl (vv_load1 (v := .int .i64 p0.Depth) one_3 rfl B8 rfl)<|qv rfl (vv_fieldAddr fa_171_1 rfl)<|qv rfl (vv_load1 (v := .int .i64 p1.Minus) one_3 rfl B11 rfl) ?_
   obtain ⟨x5, hx5, hm⟩ := bnd hm
   refine qe rfl (eC en_280 rfl (ref03_Node_w hx5)) ?_
   rintro _ w7 ⟨rfl, G7⟩
   have z25 := G7.size
   refine qv rfl (vv_not rfl)<|qp rfl (vv_move rfl) (fun c7 => ?_) (fun c7 => ?_)
   · replace hm := cnd_t c7 hm
     refine qk rfl<|qk rfl<|qk rfl<|qk rfl<|qk rfl<|qm rfl<|qm rfl ?_
     refine qk rfl<|qk rfl<|qk rfl<|qk rfl<|qk rfl<|qk rfl<|qm rfl ?_
     refine sd_nil ?_
     exact ⟨rfl, true, sbq, hm, (kz0.gr G7)⟩
   replace hm := cnd_f c7 hm
   refine qv rfl (vv_fieldAddr fa_171_1 rfl) ?_
   have B27 := (B11.gr G7)
   refine qv rfl (vv_load1 (v := .int .i64 p1.Minus) one_3 rfl B27 rfl)<|qv rfl (vv_fieldAddr fa_171_0 rfl)<|qv rfl (vv_load1 (v := .int .i64 p1.Node) one_3 rfl B27 rfl)<|qv rfl (vv_eql (a := p1.Minus) (b := p1.Node) rfl rfl)<|qm rfl<|qp rfl (vv_move rfl) (fun c8 => ?_) (fun c8 => ?_)
   · replace hm := iT c8 hm
     refine qk rfl<|qk rfl<|qk rfl<|qk rfl<|qk rfl<|qk rfl<|qm rfl ?_
     refine sd_nil ?_
     exact ⟨rfl, true, sbq, hm, (kz0.gr G7)⟩
   replace hm := iF c8 hm
   refine qv rfl (vv_fieldAddr fa_171_1 rfl)<|qv rfl (vv_load1 (v := .int .i64 p1.Minus) one_3 rfl B27 rfl)<|qv rfl (vv_fieldAddr fa_171_0 rfl)<|qv rfl (vv_load1 (v := .int .i64 p1.Node) one_3 rfl B27 rfl) ?_
   obtain ⟨x6, hx6, hm⟩ := bnd hm
   refine qe rfl (eC en_281 rfl (ref03_Below_w hx6)) ?_
   rintro _ w8 ⟨rfl, G8⟩
   have z29 := G8.size
   refine qv rfl (vv_not rfl)<|qm rfl<|sd_nil ?_
   exact ⟨rfl, (!x6), sbq, hm, ((kz0.gr G7).gr G8)⟩
 clear hm; rintro a2 w4 ⟨hm, K4⟩
 have z14 := K4.size
 unfold ref03_IsSubset_J1 at hm
 refine sw_cond rfl (fun c4 => ?_) (fun c4 => ?_)
 · replace hm := cnd_t c4 hm
   refine qs 1 rfl<|qm rfl<|qb ?_
   have X15 := (X13.kz K4)
   cases hm
   refine ⟨_, _, rfl, res_1 rfl (rv_tmp rfl), ?_⟩
   exact ⟨rfl, X15⟩
 replace hm := cnd_f c4 hm
 refine qu<|qs 21 rfl<|qv rfl (vv_fieldAddr fa_28_0 rfl) ?_
 have B16 := (B8.kz K4)
 refine qv rfl (vv_load1 (v := bv p0.Kind) one_5 rfl B16 rfl)<|qv rfl (vv_eqlB (p := p0.Kind) (q := 2#8) rfl rfl)<|qp rfl (vv_move rfl) (fun c5 => ?_) (fun c5 => ?_)
 · replace hm := iT c5 hm
   refine qk rfl<|qk rfl<|qk rfl<|qk rfl<|qk rfl<|qm rfl<|qm rfl ?_
   refine qk rfl<|qk rfl<|qk rfl<|qk rfl<|qk rfl<|qk rfl<|qk rfl ?_
   refine qk rfl<|qm rfl<|qm rfl<|sd_done<|sw_ret ?_
   have X17 := (X13.kz K4)
   cases hm
   refine ⟨_, _, rfl, res_1 rfl (rv_tmp rfl), ?_⟩
   exact ⟨rfl, X17⟩
 replace hm := iF c5 hm
 refine qv rfl (vv_fieldAddr fa_28_1 rfl)<|qv rfl (vv_load1 (v := .int .i64 p0.Depth) one_3 rfl B16 rfl)<|qv rfl (vv_fieldAddr fa_171_0 rfl) ?_
 have B18 := (B11.kz K4)
 refine qv rfl (vv_load1 (v := .int .i64 p1.Node) one_3 rfl B18 rfl) ?_
 obtain ⟨x3, hx3, hm⟩ := bnd hm
 refine qe rfl (eC en_282 rfl (ref03_Special_w hx3)) ?_
 rintro _ w5 ⟨rfl, G5⟩
 have z19 := G5.size
 refine qm rfl<|qp rfl (vv_move rfl) (fun c6 => ?_) (fun c6 => ?_)
 · replace hm := cnd_t c6 hm
   refine qk rfl<|qk rfl<|qk rfl<|qk rfl<|qk rfl<|qk rfl<|qk rfl ?_
   refine qk rfl<|qm rfl<|qm rfl<|sd_done<|sw_ret ?_
   have X20 := ((X13.kz K4).trans G5)
   cases hm
   refine ⟨_, _, rfl, res_1 rfl (rv_tmp rfl), ?_⟩
   exact ⟨rfl, X20⟩
 replace hm := cnd_f c6 hm
 refine qv rfl (vv_fieldAddr fa_28_1 rfl) ?_
 have B21 := (B16.gr G5)
 refine qv rfl (vv_load1 (v := .int .i64 p0.Depth) one_3 rfl B21 rfl)<|qv rfl (vv_fieldAddr fa_171_0 rfl) ?_
 have B22 := (B18.gr G5)
 refine qv rfl (vv_load1 (v := .int .i64 p1.Node) one_3 rfl B22 rfl)<|qv rfl (vv_fieldAddr fa_171_1 rfl)<|qv rfl (vv_load1 (v := .int .i64 p1.Minus) one_3 rfl B22 rfl) ?_
 obtain ⟨x4, hx4, hm⟩ := bnd hm
 refine qe rfl (eC en_279 rfl (ref03_between_w hx4)) ?_
 rintro _ w6 ⟨rfl, G6⟩
 have z23 := G6.size
 refine qv rfl (vv_eql (a := x4) (b := 0) rfl rfl)<|qm rfl<|qm rfl<|sd_done<|sw_ret ?_
 have X24 := (((X13.kz K4).trans G5).trans G6)
 cases hm
 refine ⟨_, _, rfl, res_1 rfl (rv_tmp rfl), ?_⟩
 exact ⟨rfl, X24⟩
theorem ref03_insert_w {p0 p1 vp0 zp0 gp0 op0 r} (hm : ref03_insert p0 p1 = some r) {w : World} (hp0 : Rd w zp0 gp0 op0 2 vp0 (p0.map TSubset.cs)) :
    Calls Tryz.prog 278 [vp0, .agg (TSubset.cs p1).toArray].toArray w fun e w' => ∃ v, e = .returned v ∧ (∃ ur0_s zr0_s gr0_s, v = ur0_s ∧ Own w' zr0_s gr0_s 171 2 ur0_s (r.map TSubset.cs) ∧ Hdn (zr0_s = 0 ∨ w.heap.size ≤ gr0_s) ∧ Gr w w') := by
 have lt1 := hp0.lth
 unfold ref03_insert at hm
 refine calls_of_sw 37 Tryz.func278 rfl rfl rfl<|qs 2 rfl<|qe rfl (ev_box (cs := TSubset.cs p1) rfl rfl) ?_
 rintro _ w1 ⟨b1, rfl, hbw1, Bw1, G1⟩
 have z2 := G1.size
 have lt3 := Bw1.lt
 refine qm rfl<|qd 1 rfl<|qm rfl<|sd_done<|sw_seq ?_
 refine sw_block ?_
 have X4 := ((Gr.refl w).trans G1)
 have B5 := (hp0.gr G1)
 refine sw_loopD (α := Nat × Int) ([5] ++ rg 7 16) (fun ⟨n1, a2⟩ => [(5, .int .i64 a2)]) (fun ⟨n1, a2⟩ wr => (fixN (ref03_insert_L1 p0 p1) n1 a2 = some r) ∧ Kz [] w1 wr) (fun ⟨n1, a2⟩ => n1) ⟨FUEL, 0⟩ ?_ ?_ ?_
 · exact sbq
 · exact ⟨hm, Kz.refl _ _⟩
 clear hm; rintro ⟨n1, a2⟩ w2 ⟨hm, K2⟩
 have z6 := K2.size
 have hb := fix_succ hm; clear hm; obtain ⟨n1, rfl, hm⟩ := hb
 generalize hrec1 : fixN (ref03_insert_L1 p0 p1) n1 = rec1 at hm
 unfold ref03_insert_L1 at hm
 try dsimp only at hm
 refine sw_seq ?_
 have X7 := (X4.kz K2)
 refine qj (β := Bool) (rg 7 14) (fun a3 => [(20, .bool a3)]) (fun a3 wr => (ref03_insert_J2 p0 p1 a2 rec1 a3 = some r) ∧ Kz [] w2 wr) ?_ ?_
 · refine dw [([])] [] (.leaf [(0,10),(1,10),(2,10),(3,10),(4,10),(5,10),(6,10),(7,10),(8,10),(9,10),(10,10),(11,10),(12,10),(13,10)]) ?_
   intro w9 G9 zw9
   refine sdz_leaf<|dm 0 rfl rfl<|dm 0 rfl rfl ?_
   have B26 := ((B5.kz K2).gr G9)
   refine dh 0 rfl rfl (fun w hS => vv_lenT (l := p0) (c := TSubset.cs) Tryz.underlying202 rfl (Rd.kp B26 hS))<|dh 0 rfl rfl (fun w hS => vv_lss (a := a2) (b := (p0.length : Int)) rfl rfl)<|qqF 0 rfl rfl (Kp.refl ([]) w9) (fun w hS => vv_move rfl) (fun c2 => ?_) (fun c2 => ?_)
   · replace hm := iF c2 hm
     refine dx 0 rfl rfl<|dx 0 rfl rfl<|dx 0 rfl rfl<|dx 0 rfl rfl<|dx 0 rfl rfl<|dx 0 rfl rfl<|dx 0 rfl rfl ?_
     refine dx 0 rfl rfl<|dm 0 rfl rfl<|sd_nil ?_
     exact ⟨rfl, false, sbq, hm, (kz0.gr G9)⟩
   replace hm := iT c2 hm
   refine dm 0 rfl rfl<|dm 0 rfl rfl ?_
   obtain ⟨y9, hy9, hm⟩ := bnd hm
   refine dh 0 rfl rfl (fun w hS => vv_ixT (i := a2) Tryz.underlying202 (agg_171).siz rfl (Rd.kp B26 hS) rfl hy9)<|dh 0 rfl rfl (fun w hS => vv_fieldAddr fa_171_0 rfl)<|dh 0 rfl rfl (fun w hS => vv_el1T (q := 0) (u := .int .i64 y9.Node) one_3 rfl (Rd.kp B26 hS) hy9 (by first | rfl | omega) rfl)<|dh 0 rfl rfl (fun w hS => vv_fieldAddr fa_171_0 rfl) ?_
   have B27 := ((Bw1.kz K2).gr G9)
   refine dh 0 rfl rfl (fun w hS => vv_load1 (v := .int .i64 p1.Node) one_3 rfl (Bx.kp B27 hS) rfl)<|dh 0 rfl rfl (fun w hS => vv_lss (a := y9.Node) (b := p1.Node) rfl rfl)<|dm 0 rfl rfl<|sd_nil ?_
   exact ⟨rfl, (decide (y9.Node < p1.Node)), sbq, hm, (kz0.gr G9)⟩
 clear hm; rintro a3 w3 ⟨hm, K3⟩
 have z8 := K3.size
 unfold ref03_insert_J2 at hm
 refine sw_cond rfl (fun c1 => ?_) (fun c1 => ?_)
 · replace hm := cnd_t c1 hm
   refine qu<|sw_block<|qg 3 rfl<|qm rfl<|qv rfl (vv_add (k := .i64) (a := a2) (b := 1) rfl rfl)<|qm rfl ?_
   refine sd_nil<|block_n ?_
   have K_9 : Kz [] w1 w3 := (K2.kz K3)
   subst hrec1
   exact ⟨rfl, ⟨n1, w64 (a2 + 1)⟩, sbq, ⟨hm, K_9⟩, Nat.lt_succ_self _⟩
 replace hm := cnd_f c1 hm
 refine sw_exit<|then_x<|then_x<|block_x<|then_n<|qs 6 rfl ?_
 refine qe rfl (ev_litT ([] : List TSubset) TSubset.cs bsl_202_0 rfl rfl (ws_of rfl) rfl rfl rfl) ?_
 rintro vw4 w4 ⟨gw4, hbw4, Ow4, G4⟩
 have z10 := G4.size
 have lt11 := Ow4.lth
 refine qm rfl<|qm rfl ?_
 obtain ⟨l4, hl4, hm⟩ := bnd hm
 have B12 := (((B5.kz K2).kz K3).gr G4)
 refine qt rfl (vv_sliT (P := Tryz.prog) (lo := 0) (hi := a2) (l := p0) (c := TSubset.cs) Tryz.underlying202 (agg_171).siz rfl B12 rfl ⟨_, rfl⟩ hl4) ?_
 rintro v13 o13 R13
 have lt14 := R13.lth
 obtain ⟨l5, hl5, hm⟩ := bnd hm
 refine qe rfl (ev_appT (l := ([] : List TSubset)) (m := l4) (c := TSubset.cs) apt_202 rfl rfl Ow4 R13 hl5 (by decide)) ?_
 rintro vw5 w5 ⟨zw5, gw5, Ow5, Aw5, qw5, rw5⟩
 have z15 := Aw5.size
 refine qm rfl<|qd 5 rfl<|qm rfl ?_
 have B16 := ((((Bw1.kz K2).kz K3).gr G4).ka Aw5 (tk1 ((.inr tk0) : 1 = 0 ∨ gw4 ≠ b1)))
 refine qv rfl (vv_loadW agg_171 rfl B16 rfl)<|qe rfl (ev_litT [p1] TSubset.cs bsl_202_1 rfl rfl (ws_of rfl) rfl rfl rfl) ?_
 rintro vw6 w6 ⟨gw6, hbw6, Ow6, G6⟩
 have z17 := G6.size
 have lt18 := Ow6.lth
 have B19 := (Ow5.gr G6)
 obtain ⟨l6, hl6, hm⟩ := bnd hm
 refine qe rfl (ev_appT (l := l5) (m := [p1]) (c := TSubset.cs) apt_202 rfl rfl B19 (Own.rd Ow6) hl6 (by decide)) ?_
 rintro vw7 w7 ⟨zw7, gw7, Ow7, Aw7, qw7, rw7⟩
 have z20 := Aw7.size
 refine qm rfl<|qd 6 rfl<|qm rfl<|qm rfl<|qm rfl ?_
 obtain ⟨l7, hl7, hm⟩ := bnd hm
 have B21 := (((B12.ka Aw5 (tk1 ((pv_sw (.inr (tk1 lt1.o))) : zp0 = 0 ∨ 1 = 0 ∨ gp0 ≠ gw4))).gr G6).ka Aw7 (tk1 ((pv_sw (pv_app (A := (fun x => zp0 = 0 ∨ x ≠ gp0)) rw5 (.inr (tk1 lt1.o)) (fun x hx => (tk1 lt1.o)))) : zp0 = 0 ∨ zw5 = 0 ∨ gp0 ≠ gw5)))
 refine qt rfl (vv_sliT (P := Tryz.prog) (lo := a2) (hi := (p0.length : Int)) (l := p0) (c := TSubset.cs) Tryz.underlying202 (agg_171).siz rfl B21 ⟨_, rfl⟩ rfl hl7) ?_
 rintro v22 o22 R22
 have lt23 := R22.lth
 obtain ⟨l8, hl8, hm⟩ := bnd hm
 refine qe rfl (ev_appT (l := l6) (m := l7) (c := TSubset.cs) apt_202 rfl rfl Ow7 R22 hl8 (by decide)) ?_
 rintro vw8 w8 ⟨zw8, gw8, Ow8, Aw8, qw8, rw8⟩
 have z24 := Aw8.size
 refine qm rfl<|sd_done<|sw_ret ?_
 have X25 := ((((((X7.kz K3).trans G4).ka Aw5 (tk1 ((.inr tk0) : 1 = 0 ∨ w.heap.size ≤ gw4))).trans G6).ka Aw7 (tk1 (pv_app (A := (fun x => w.heap.size ≤ x)) rw5 (.inr tk0)))).ka Aw8 (tk1 (pv_app (A := (fun x => w.heap.size ≤ x)) rw7 (pv_app (A := (fun x => w.heap.size ≤ x)) rw5 (.inr tk0)))))
 cases hm
 refine ⟨_, _, rfl, res_1 rfl (rv_tmp rfl), ?_⟩
 exact ⟨vw8, zw8, gw8, rfl, Ow8, ⟨(pv_app (A := (fun x => w.heap.size ≤ x)) rw8 (pv_app (A := (fun x => w.heap.size ≤ x)) rw7 (pv_app (A := (fun x => w.heap.size ≤ x)) rw5 (.inr tk0))))⟩, X25⟩
theorem ref03_CoverOf_w {p0 p1 vp1 zp1 gp1 op1 r} (hm : ref03_CoverOf p0 p1 = some r) {w : World} (hp1 : Rd w zp1 gp1 op1 1 vp1 (p1.map ic)) :
    Calls Tryz.prog 178 [.agg (TScheme.cs p0).toArray, vp1].toArray w fun e w' => ∃ v, e = .returned v ∧ (∃ ur0_s zr0_s gr0_s, v = ur0_s ∧ Own w' zr0_s gr0_s 171 2 ur0_s (r.map TSubset.cs) ∧ Hdn (zr0_s = 0 ∨ w.heap.size ≤ gr0_s) ∧ Gr w w') := by
 have lt1 := hp1.lth
 unfold ref03_CoverOf at hm
 refine calls_of_sw 104 Tryz.func178 rfl rfl rfl<|qs 2 rfl<|qe rfl (ev_box (cs := TScheme.cs p0) rfl rfl) ?_
 rintro _ w1 ⟨b1, rfl, hbw1, Bw1, G1⟩
 have z2 := G1.size
 have lt3 := Bw1.lt
 refine qm rfl<|qd 1 rfl<|qm rfl<|sd_done<|sw_seq ?_
 have X4 := ((Gr.refl w).trans G1)
 refine qj (β := Bool) (rg 11 8) (fun a1 => [(18, .bool a1)]) (fun a1 wr => (ref03_CoverOf_J1 p0 p1 a1 = some r) ∧ Kz [] w1 wr) ?_ ?_
 · refine qg 8 rfl<|qv rfl (vv_fieldAddr fa_28_0 rfl)<|qv rfl (vv_load1 (v := bv p0.Kind) one_5 rfl Bw1 rfl)<|qv rfl (vv_neqB (p := p0.Kind) (q := 1#8) rfl rfl)<|qpF rfl (vv_move rfl) (fun c12 => ?_) (fun c12 => ?_)
   · replace hm := iF c12 hm
     refine qk rfl<|qk rfl<|qk rfl<|qm rfl<|sd_nil ?_
     exact ⟨rfl, false, sbq, hm, kz0⟩
   replace hm := iT c12 hm
   refine qm rfl ?_
   have B67 := (hp1.gr G1)
   refine qv rfl (vv_lenT (l := p1) (c := ic) Tryz.underlying31 rfl B67)<|qv rfl (vv_eql (a := (p1.length : Int)) (b := 0) rfl rfl)<|qm rfl<|sd_nil ?_
   exact ⟨rfl, (decide ((p1.length : Int) = 0)), sbq, hm, kz0⟩
 clear hm; rintro a1 w2 ⟨hm, K2⟩
 have z5 := K2.size
 unfold ref03_CoverOf_J1 at hm
 refine sw_cond rfl (fun c1 => ?_) (fun c1 => ?_)
 · replace hm := cnd_t c1 hm
   refine qs 3 rfl<|qv rfl (vv_build (cs := TSubset.cs (TSubset.mk 1 0)) bs_171 rfl rfl)<|qe rfl (ev_litT [(TSubset.mk 1 0)] TSubset.cs bsl_202_1 rfl rfl (ws_of rfl) rfl rfl rfl) ?_
   rintro vw3 w3 ⟨gw3, hbw3, Ow3, G3⟩
   have z6 := G3.size
   have lt7 := Ow3.lth
   refine qm rfl<|qb ?_
   have X8 := ((X4.kz K2).trans G3)
   cases hm
   refine ⟨_, _, rfl, res_1 rfl (rv_tmp rfl), ?_⟩
   exact ⟨vw3, 1, gw3, rfl, Ow3, ⟨(.inr tk0)⟩, X8⟩
 replace hm := cnd_f c1 hm
 refine qu<|sw_seq<|qs 1 rfl<|qm rfl<|sd_done ?_
 refine sw_block ?_
 have X9 := (X4.kz K2)
 have B10 := ((hp1.gr G1).kz K2)
 refine sw_loopD (α := Nat × List TSubset × Int × Value × Nat × Nat) (rg 5 6 ++ rg 21 82) (fun ⟨n2, a5, a7, vy6, zy6, gy6⟩ => [(5, vy6), (6, .int .i64 a7)]) (fun ⟨n2, a5, a7, vy6, zy6, gy6⟩ wr => (fixN (ref03_CoverOf_L2 p0 p1) n2 (a5, a7) = some r) ∧ Own wr zy6 gy6 171 2 vy6 (a5.map TSubset.cs) ∧ Hdn (zy6 = 0 ∨ w2.heap.size ≤ gy6) ∧ Kz [] w2 wr) (fun ⟨n2, a5, a7, vy6, zy6, gy6⟩ => n2) ⟨FUEL, [], 1, (.slice none 0 0), 0, 0⟩ ?_ ?_ ?_
 · exact sbq
 · exact ⟨hm, (own_nil _ 0 171 2), ⟨(.inl rfl)⟩, Kz.refl _ _⟩
 clear hm; rintro ⟨n2, a5, a7, vy6, zy6, gy6⟩ w4 ⟨hm, Fw4_0, Fw4_1, K4⟩
 have z11 := K4.size
 have lt12 := Fw4_0.lth
 have hb := fix_succ hm; clear hm; obtain ⟨n2, rfl, hm⟩ := hb
 generalize hrec2 : fixN (ref03_CoverOf_L2 p0 p1) n2 = rec2 at hm
 unfold ref03_CoverOf_L2 at hm
 try dsimp only at hm
 refine sw_seq<|qs 6 rfl<|qm rfl<|qv rfl (vv_fieldAddr fa_28_1 rfl) ?_
 have B13 := ((Bw1.kz K2).kz K4)
 refine qv rfl (vv_load1 (v := .int .i64 p0.Depth) one_3 rfl B13 rfl) ?_
 obtain ⟨x8, hx8, hm⟩ := bnd hm
 refine qe rfl (eC en_192 rfl (ref03_Receivers_w hx8)) ?_
 rintro _ w5 ⟨rfl, G5⟩
 have z14 := G5.size
 refine qv rfl (vv_mul (k := .i64) (a := 2) (b := x8) rfl rfl)<|qv rfl (vv_lss (a := a7) (b := w64 (2 * x8)) rfl rfl)<|sd_done<|cnF rfl (fun c2 => ?_) (fun c2 => ?_)
 · replace hm := iF c2 hm
   refine sw_exit<|then_x<|then_x<|block_x<|then_n<|qs 2 rfl ?_
   refine qm rfl<|qm rfl<|sd_done<|sw_ret ?_
   have B65 := (Fw4_0.gr G5)
   have X66 := ((X9.kz K4).trans G5)
   cases hm
   refine ⟨_, _, rfl, res_1 rfl (rv_tmp rfl), ?_⟩
   exact ⟨vy6, zy6, gy6, rfl, B65, ⟨(pv_0 (A := (fun x => w.heap.size ≤ x)) Fw4_1)⟩, X66⟩
 replace hm := iT c2 hm
 refine qu<|sw_seq<|sw_block<|qs 6 rfl<|qv rfl (vv_fieldAddr fa_28_1 rfl) ?_
 have B15 := (B13.gr G5)
 refine qv rfl (vv_load1 (v := .int .i64 p0.Depth) one_3 rfl B15 rfl)<|qm rfl<|qm rfl ?_
 have B16 := ((B10.kz K4).gr G5)
 obtain ⟨x9, hx9, hm⟩ := bnd hm
 refine qe rfl (eC en_276 rfl (ref03_hot_w hx9 B16)) ?_
 rintro _ w6 ⟨rfl, G6⟩
 have z17 := G6.size
 refine qm rfl<|sd_done<|sw_seq<|qs 3 rfl<|qv rfl (vv_fieldAddr fa_28_0 rfl) ?_
 have B18 := (B15.gr G6)
 refine qv rfl (vv_load1 (v := bv p0.Kind) one_5 rfl B18 rfl)<|qv rfl (vv_eqlB (p := p0.Kind) (q := 1#8) rfl rfl)<|sd_done<|sw_cond rfl (fun c3 => ?_) (fun c3 => ?_)
 · replace hm := iT c3 hm
   refine sw_seq ?_
   have Y1 := Gr.trans G5 G6
   have X19 := ((X9.kz K4).trans Y1)
   refine qj (β := Bool) (rg 37 14) (fun a10 => [(50, .bool a10)]) (fun a10 wr => (ref03_CoverOf_J3 a5 a7 rec2 a10 = some r) ∧ Kz [] w6 wr) ?_ ?_
   · refine qg 14 rfl<|qm rfl<|qv rfl (vv_not rfl)<|qpF rfl (vv_move rfl) (fun c5 => ?_) (fun c5 => ?_)
     · replace hm := cnd_f c5 hm
       refine qk rfl<|qk rfl<|qk rfl<|qk rfl<|qk rfl<|qk rfl<|qk rfl ?_
       refine qk rfl<|qk rfl<|qk rfl<|qm rfl<|sd_nil ?_
       exact ⟨rfl, false, sbq, hm, kz0⟩
     replace hm := cnd_t c5 hm
     refine qm rfl<|qv rfl (vv_eql (a := a7) (b := 1) rfl rfl)<|qp rfl (vv_move rfl) (fun c6 => ?_) (fun c6 => ?_)
     · replace hm := iT c6 hm
       refine qk rfl<|qk rfl<|qk rfl<|qk rfl<|qk rfl<|qk rfl<|qm rfl ?_
       refine qm rfl<|sd_nil ?_
       exact ⟨rfl, true, sbq, hm, kz0⟩
     replace hm := iF c6 hm
     refine qv rfl (vv_fieldAddr fa_28_1 rfl)<|qv rfl (vv_load1 (v := .int .i64 p0.Depth) one_3 rfl B18 rfl)<|qm rfl<|qm rfl ?_
     obtain ⟨x12, hx12, hm⟩ := bnd hm
     refine qv rfl (vv_quoI (a := a7) (b := 2) rfl rfl hx12) ?_
     have B29 := (B16.gr G6)
     obtain ⟨x13, hx13, hm⟩ := bnd hm
     refine qe rfl (eC en_276 rfl (ref03_hot_w hx13 B29)) ?_
     rintro _ w10 ⟨rfl, G10⟩
     have z30 := G10.size
     refine qm rfl<|qm rfl<|sd_nil ?_
     exact ⟨rfl, x13, sbq, hm, (kz0.gr G10)⟩
   clear hm; rintro a10 w7 ⟨hm, K7⟩
   have z20 := K7.size
   unfold ref03_CoverOf_J3 at hm
   refine cnF rfl (fun c4 => ?_) (fun c4 => ?_)
   · replace hm := cnd_f c4 hm
     refine qu<|sw_exit<|then_x<|block_x<|then_n<|qg 3 rfl ?_
     refine qm rfl<|qv rfl (vv_add (k := .i64) (a := a7) (b := 1) rfl rfl)<|qm rfl<|sd_nil ?_
     have K_26 : Kz [] w2 w7 := ((K4.gr Y1).kz K7)
     have B27 := ((Fw4_0.gr Y1).kz K7)
     subst hrec2
     exact ⟨rfl, ⟨n2, a5, w64 (a7 + 1), vy6, zy6, gy6⟩, sbq, ⟨hm, B27, ⟨(pv_0 (A := (fun x => w2.heap.size ≤ x)) Fw4_1)⟩, K_26⟩, Nat.lt_succ_self _⟩
   replace hm := cnd_t c4 hm
   refine qg 6 rfl<|qm rfl<|qm rfl<|qv rfl (vv_build (cs := TSubset.cs (TSubset.mk a7 0)) bs_171 rfl rfl)<|qe rfl (ev_litT [(TSubset.mk a7 0)] TSubset.cs bsl_202_1 rfl rfl (ws_of rfl) rfl rfl rfl) ?_
   rintro vw8 w8 ⟨gw8, hbw8, Ow8, G8⟩
   have z21 := G8.size
   have lt22 := Ow8.lth
   have B23 := (((Fw4_0.gr Y1).kz K7).gr G8)
   obtain ⟨l11, hl11, hm⟩ := bnd hm
   refine qe rfl (ev_appT (l := a5) (m := [(TSubset.mk a7 0)]) (c := TSubset.cs) apt_202 rfl rfl B23 (Own.rd Ow8) hl11 (by decide)) ?_
   rintro vw9 w9 ⟨zw9, gw9, Ow9, Aw9, qw9, rw9⟩
   have z24 := Aw9.size
   refine qm rfl<|sd_done<|sw_exit<|then_x<|block_x<|then_n<|qg 3 rfl ?_
   refine qm rfl<|qv rfl (vv_add (k := .i64) (a := a7) (b := 1) rfl rfl)<|qm rfl<|sd_nil ?_
   have K_25 : Kz [] w2 w9 := ((((K4.gr Y1).kz K7).gr G8).ka Aw9 (tk1 (pv_0 (A := (fun x => w2.heap.size ≤ x)) Fw4_1)))
   subst hrec2
   exact ⟨rfl, ⟨n2, l11, w64 (a7 + 1), vw9, zw9, gw9⟩, sbq, ⟨hm, Ow9, ⟨(pv_app (A := (fun x => w2.heap.size ≤ x)) rw9 (pv_0 (A := (fun x => w2.heap.size ≤ x)) Fw4_1))⟩, K_25⟩, Nat.lt_succ_self _⟩
 replace hm := iF c3 hm
 refine qu<|sw_seq ?_
 have Y2 := Gr.trans G5 G6
 have X33 := ((X9.kz K4).trans Y2)
 refine qj (β := Bool) (rg 56 15) (fun a14 => [(70, .bool a14)]) (fun a14 wr => (ref03_CoverOf_J4 p0 p1 a5 a7 rec2 a14 = some r) ∧ Kz [] w6 wr) ?_ ?_
 · refine qg 15 rfl<|qm rfl<|qv rfl (vv_not rfl)<|qp rfl (vv_move rfl) (fun c10 => ?_) (fun c10 => ?_)
   · replace hm := cnd_t c10 hm
     refine qk rfl<|qk rfl<|qk rfl<|qk rfl<|qk rfl<|qk rfl<|qk rfl ?_
     refine qk rfl<|qk rfl<|qk rfl<|qk rfl<|qm rfl<|sd_nil ?_
     exact ⟨rfl, true, sbq, hm, kz0⟩
   replace hm := cnd_f c10 hm
   refine qm rfl<|qv rfl (vv_gtr (a := a7) (b := 1) rfl rfl)<|qpF rfl (vv_move rfl) (fun c11 => ?_) (fun c11 => ?_)
   · replace hm := iF c11 hm
     refine qk rfl<|qk rfl<|qk rfl<|qk rfl<|qk rfl<|qk rfl<|qk rfl ?_
     refine qm rfl<|qm rfl<|sd_nil ?_
     exact ⟨rfl, false, sbq, hm, kz0⟩
   replace hm := iT c11 hm
   refine qv rfl (vv_fieldAddr fa_28_1 rfl)<|qv rfl (vv_load1 (v := .int .i64 p0.Depth) one_3 rfl B18 rfl)<|qm rfl<|qm rfl<|qv rfl (vv_bitI (a := a7) (b := 1) (by simp) rfl rfl) ?_
   have B61 := (B16.gr G6)
   obtain ⟨x21, hx21, hm⟩ := bnd hm
   refine qe rfl (eC en_276 rfl (ref03_hot_w hx21 B61)) ?_
   rintro _ w20 ⟨rfl, G20⟩
   have z62 := G20.size
   refine qv rfl (vv_not rfl)<|qm rfl<|qm rfl<|sd_nil ?_
   exact ⟨rfl, (!x21), sbq, hm, (kz0.gr G20)⟩
 clear hm; rintro a14 w11 ⟨hm, K11⟩
 have z34 := K11.size
 unfold ref03_CoverOf_J4 at hm
 refine sw_cond rfl (fun c7 => ?_) (fun c7 => ?_)
 · replace hm := cnd_t c7 hm
   refine sw_exit<|then_x<|block_x<|then_n<|qg 3 rfl<|qm rfl<|qv rfl (vv_add (k := .i64) (a := a7) (b := 1) rfl rfl) ?_
   refine qm rfl<|sd_nil ?_
   have K_35 : Kz [] w2 w11 := ((K4.gr Y2).kz K11)
   have B36 := ((Fw4_0.gr Y2).kz K11)
   subst hrec2
   exact ⟨rfl, ⟨n2, a5, w64 (a7 + 1), vy6, zy6, gy6⟩, sbq, ⟨hm, B36, ⟨(pv_0 (A := (fun x => w2.heap.size ≤ x)) Fw4_1)⟩, K_35⟩, Nat.lt_succ_self _⟩
 replace hm := cnd_f c7 hm
 refine qu<|qs 6 rfl<|qv rfl (vv_fieldAddr fa_28_1 rfl) ?_
 have B37 := (B18.kz K11)
 refine qv rfl (vv_load1 (v := .int .i64 p0.Depth) one_3 rfl B37 rfl)<|qm rfl<|qm rfl ?_
 have B38 := ((B16.gr G6).kz K11)
 obtain ⟨x15, hx15, hm⟩ := bnd hm
 refine qe rfl (eC en_277 rfl (ref03_foot_w hx15 B38)) ?_
 rintro _ w12 ⟨rfl, G12⟩
 have z39 := G12.size
 refine qm rfl<|sd_done<|sw_seq<|qs 3 rfl<|qm rfl<|qm rfl ?_
 refine qv rfl (vv_eql (a := x15) (b := a7) rfl rfl)<|sd_done<|sw_cond rfl (fun c8 => ?_) (fun c8 => ?_)
 · replace hm := iT c8 hm
   refine sw_exit<|then_x<|block_x<|then_n<|qg 3 rfl<|qm rfl<|qv rfl (vv_add (k := .i64) (a := a7) (b := 1) rfl rfl) ?_
   refine qm rfl<|sd_nil ?_
   have K_40 : Kz [] w2 w12 := (((K4.gr Y2).kz K11).gr G12)
   have B41 := (((Fw4_0.gr Y2).kz K11).gr G12)
   subst hrec2
   exact ⟨rfl, ⟨n2, a5, w64 (a7 + 1), vy6, zy6, gy6⟩, sbq, ⟨hm, B41, ⟨(pv_0 (A := (fun x => w2.heap.size ≤ x)) Fw4_1)⟩, K_40⟩, Nat.lt_succ_self _⟩
 replace hm := iF c8 hm
 refine qu<|qs 5 rfl<|qm rfl<|qm rfl<|qv rfl (vv_build (cs := TSubset.cs (TSubset.mk a7 x15)) bs_171 rfl rfl) ?_
 refine qe rfl (ev_alloc (cs := TSubset.cs (TSubset.mk 0 0)) zv_171 rfl) ?_
 rintro _ w13 ⟨b13, rfl, hbw13, Bw13, G13⟩
 have z42 := G13.size
 have lt43 := Bw13.lt
 refine qe rfl (ev_stW agg_171 rfl rfl rfl Bw13 rfl rfl) ?_
 rintro _ w14 ⟨Bw14, M14⟩
 have z44 := M14.size
 refine sd_done<|sw_seq<|qs 3 rfl ?_
 have Y3 := Gr.trans G12 G13
 have B45 := ((B37.gr Y3).md M14)
 refine qv rfl (vv_loadW agg_28 rfl B45 rfl)<|qv rfl (vv_loadW agg_171 rfl Bw14 rfl) ?_
 obtain ⟨x16, hx16, hm⟩ := bnd hm
 refine qe rfl (eC en_179 rfl (ref03_IsSubset_w hx16)) ?_
 rintro _ w15 ⟨rfl, G15⟩
 have z46 := G15.size
 refine sd_done<|sw_cond rfl (fun c9 => ?_) (fun c9 => ?_)
 · replace hm := cnd_t c9 hm
   refine qs 4 rfl<|qm rfl ?_
   have B47 := (Bw14.gr G15)
   refine qv rfl (vv_loadW agg_171 rfl B47 rfl) ?_
   have B48 := (((((Fw4_0.gr Y2).kz K11).gr Y3).md M14 (pb_lt lt12)).gr G15)
   obtain ⟨x17, hx17, hm⟩ := bnd hm
   refine qe rfl (eC en_278 rfl (ref03_insert_w hx17 (Own.rd B48))) ?_
   rintro u16_r0_s w16 ⟨_, z16_r0_s, g16_r0_s, rfl, O16_r0_s, f16_r0_s, G16⟩
   have z49 := G16.size
   have lt50 := O16_r0_s.lth
   refine qm rfl<|sd_done<|sw_exit<|then_x<|block_x<|then_n<|qg 3 rfl ?_
   refine qm rfl<|qv rfl (vv_add (k := .i64) (a := a7) (b := 1) rfl rfl)<|qm rfl<|sd_nil ?_
   have K_51 : Kz [] w2 w16 := ((((((K4.gr Y2).kz K11).gr Y3).md M14).gr G15).gr G16)
   subst hrec2
   exact ⟨rfl, ⟨n2, x17, w64 (a7 + 1), u16_r0_s, z16_r0_s, g16_r0_s⟩, sbq, ⟨hm, O16_r0_s, ⟨(pv_0 (A := (fun x => w2.heap.size ≤ x)) f16_r0_s)⟩, K_51⟩, Nat.lt_succ_self _⟩
 replace hm := cnd_f c9 hm
 refine qu<|qs 6 rfl<|qv rfl (vv_fieldAddr fa_28_1 rfl) ?_
 have B52 := (B45.gr G15)
 refine qv rfl (vv_load1 (v := .int .i64 p0.Depth) one_3 rfl B52 rfl)<|qm rfl<|qm rfl ?_
 obtain ⟨x18, hx18, hm⟩ := bnd hm
 refine qe rfl (eC en_279 rfl (ref03_between_w hx18)) ?_
 rintro _ w17 ⟨rfl, G17⟩
 have z53 := G17.size
 refine qm rfl<|qd 6 rfl<|qm rfl<|qm rfl<|qm rfl ?_
 refine qv rfl (vv_build (cs := TSubset.cs (TSubset.mk a7 x18)) bs_171 rfl rfl) ?_
 have B54 := ((((((Fw4_0.gr Y2).kz K11).gr Y3).md M14 (pb_lt lt12)).gr G15).gr G17)
 obtain ⟨x19, hx19, hm⟩ := bnd hm
 refine qe rfl (eC en_278 rfl (ref03_insert_w hx19 (Own.rd B54))) ?_
 rintro u18_r0_s w18 ⟨_, z18_r0_s, g18_r0_s, rfl, O18_r0_s, f18_r0_s, G18⟩
 have z55 := G18.size
 have lt56 := O18_r0_s.lth
 refine qm rfl<|sd_done<|qg 6 rfl<|qm rfl<|qm rfl<|qm rfl<|qv rfl (vv_build (cs := TSubset.cs (TSubset.mk x18 x15)) bs_171 rfl rfl) ?_
 obtain ⟨x20, hx20, hm⟩ := bnd hm
 refine qe rfl (eC en_278 rfl (ref03_insert_w hx20 (Own.rd O18_r0_s))) ?_
 rintro u19_r0_s w19 ⟨_, z19_r0_s, g19_r0_s, rfl, O19_r0_s, f19_r0_s, G19⟩
 have z57 := G19.size
 have lt58 := O19_r0_s.lth
 refine qm rfl<|sd_nil<|block_n<|then_n<|qg 3 rfl<|qm rfl<|qv rfl (vv_add (k := .i64) (a := a7) (b := 1) rfl rfl) ?_
 refine qm rfl<|sd_nil ?_
 have K_59 : Kz [] w2 w19 := ((((((((K4.gr Y2).kz K11).gr Y3).md M14).gr G15).gr G17).gr G18).gr G19)
 subst hrec2
 exact ⟨rfl, ⟨n2, x20, w64 (a7 + 1), u19_r0_s, z19_r0_s, g19_r0_s⟩, sbq, ⟨hm, O19_r0_s, ⟨(pv_0 (A := (fun x => w2.heap.size ≤ x)) f19_r0_s)⟩, K_59⟩, Nat.lt_succ_self _⟩
theorem ref03_Cover_w {p0 p1 vp1 zp1 gp1 op1 r} (hm : ref03_Cover p0 p1 = some r) {w : World} (hp1 : Rd w zp1 gp1 op1 1 vp1 (p1.map ic)) :
    Calls Tryz.prog 100 [.agg (TScheme.cs p0).toArray, vp1].toArray w fun e w' => ∃ v, e = .returned v ∧ (∃ ur0_s zr0_s gr0_s, v = .tuple [ur0_s, .int .i64 r.2].toArray ∧ Own w' zr0_s gr0_s 171 2 ur0_s (r.1.map TSubset.cs) ∧ Hdn (zr0_s = 0 ∨ w.heap.size ≤ gr0_s) ∧ Gr w w') := by
 have lt1 := hp1.lth
 unfold ref03_Cover at hm
 refine calls_of_sw 17 Tryz.func100 rfl rfl rfl<|qs 3 rfl<|qe rfl (ev_box (cs := TScheme.cs p0) rfl rfl) ?_
 rintro _ w1 ⟨b1, rfl, hbw1, Bw1, G1⟩
 have z2 := G1.size
 have lt3 := Bw1.lt
 refine qm rfl<|qm rfl<|sd_done<|sw_seq<|qs 3 rfl<|qv rfl (vv_loadW agg_28 rfl Bw1 rfl) ?_
 obtain ⟨x1, hx1, hm⟩ := bnd hm
 refine qe rfl (eC en_177 rfl (ref03_Valid_w hx1)) ?_
 rintro _ w2 ⟨rfl, G2⟩
 have z4 := G2.size
 refine qv rfl (vv_not rfl)<|sd_done<|sw_cond rfl (fun c1 => ?_) (fun c1 => ?_)
 · replace hm := cnd_t c1 hm
   refine qs 2 rfl<|qm rfl<|qm rfl<|sd_done<|sw_ret<|then_r ?_
   have Y1 := Gr.trans G1 G2
   have X5 := ((Gr.refl w).trans Y1)
   cases hm
   refine ⟨_, _, rfl, res_2 rfl (rv_tmp rfl) (rv_tmp rfl), ?_⟩
   exact ⟨(.slice none 0 0), 0, 0, rfl, (own_nil _ 0 171 2), ⟨.inl rfl⟩, X5⟩
 replace hm := cnd_f c1 hm
 refine qu<|sw_seq<|qs 5 rfl<|qv rfl (vv_fieldAddr fa_28_1 rfl) ?_
 have B6 := (Bw1.gr G2)
 refine qv rfl (vv_load1 (v := .int .i64 p0.Depth) one_3 rfl B6 rfl)<|qm rfl ?_
 have Y2 := Gr.trans G1 G2
 have B7 := (hp1.gr Y2)
 obtain ⟨x2, hx2, hm⟩ := bnd hm
 refine qe rfl (eC en_175 rfl (ref03_IsList_w hx2 B7)) ?_
 rintro _ w3 ⟨rfl, G3⟩
 have z8 := G3.size
 refine qv rfl (vv_not rfl)<|sd_done<|sw_cond rfl (fun c2 => ?_) (fun c2 => ?_)
 · replace hm := cnd_t c2 hm
   refine qs 2 rfl<|qm rfl<|qm rfl<|sd_done<|sw_ret<|then_r ?_
   have X9 := (((Gr.refl w).trans Y2).trans G3)
   cases hm
   refine ⟨_, _, rfl, res_2 rfl (rv_tmp rfl) (rv_tmp rfl), ?_⟩
   exact ⟨(.slice none 0 0), 0, 0, rfl, (own_nil _ 0 171 2), ⟨.inl rfl⟩, X9⟩
 replace hm := cnd_f c2 hm
 refine qu<|qs 5 rfl ?_
 have B10 := (B6.gr G3)
 refine qv rfl (vv_loadW agg_28 rfl B10 rfl)<|qm rfl ?_
 have B11 := (B7.gr G3)
 obtain ⟨x3, hx3, hm⟩ := bnd hm
 refine qe rfl (eC en_178 rfl (ref03_CoverOf_w hx3 B11)) ?_
 rintro u4_r0_s w4 ⟨_, z4_r0_s, g4_r0_s, rfl, O4_r0_s, f4_r0_s, G4⟩
 have z12 := G4.size
 have lt13 := O4_r0_s.lth
 refine qm rfl<|qm rfl<|sd_done<|sw_ret ?_
 have X14 := ((((Gr.refl w).trans Y2).trans G3).trans G4)
 cases hm
 refine ⟨_, _, rfl, res_2 rfl (rv_tmp rfl) (rv_tmp rfl), ?_⟩
 exact ⟨u4_r0_s, z4_r0_s, g4_r0_s, rfl, O4_r0_s, ⟨(pv_0 (A := (fun x => w.heap.size ≤ x)) f4_r0_s)⟩, X14⟩
theorem cover_nodeKey_w {p0 p1 r} (hm : cover_nodeKey p0 p1 = some r) {w : World} :
    Calls Tryz.prog 205 [kv p0, .int .i64 p1].toArray w fun e w' => ∃ v, e = .returned v ∧ (v = kv r ∧ Gr w w') := by
 unfold cover_nodeKey at hm
 refine calls_of_sw 9 Tryz.func205 rfl rfl rfl<|qs 2 rfl<|qe rfl (ev_box (cs := kb p0) rfl rfl) ?_
 rintro _ w1 ⟨b1, rfl, hbw1, Bw1, G1⟩
 have z1 := G1.size
 have lt2 := Bw1.lt
 refine qe rfl (ev_alloc (cs := kb k0) zv_23 rfl) ?_
 rintro _ w2 ⟨b2, rfl, hbw2, Bw2, G2⟩
 have z3 := G2.size
 have lt4 := Bw2.lt
 refine qd 5 rfl ?_
 have B5 := (Bw1.gr G2)
 refine qv rfl (vv_loadW agg_23 rfl B5 rfl)<|qm rfl<|qv rfl (vv_cvIU cv_298_24 rfl)<|qe rfl (eC en_90 rfl (derive_c p0 (un8 30#8) (un8_nn _) (un8_le _) (wd p1) _)) ?_
 rintro _ w3 ⟨rfl, G3⟩
 have z6 := G3.size
 have B7 := (Bw2.gr G3)
 refine qe rfl (ev_stW agg_23 rfl rfl rfl B7 rfl rfl) ?_
 rintro _ w4 ⟨Bw4, M4⟩
 have z8 := M4.size
 refine sd_done<|sw_ret ?_
 have X9 := (((((Gr.refl w).trans G1).trans G2).trans G3).md M4)
 cases hm
 refine ⟨_, _, rfl, res_1 rfl (rv_cellW agg_23 rfl Bw4 rfl), ?_⟩
 exact ⟨rfl, X9⟩
theorem cover_descend_w {p0 p1 p2 r} (hm : cover_descend p0 p1 p2 = some r) {w : World} :
    Calls Tryz.prog 204 [kv p0, .int .i64 p1, .int .i64 p2].toArray w fun e w' => ∃ v, e = .returned v ∧ (v = kv r ∧ Gr w w') := by
 unfold cover_descend at hm
 refine calls_of_sw 20 Tryz.func204 rfl rfl rfl<|qs 2 rfl<|qe rfl (ev_box (cs := kb p0) rfl rfl) ?_
 rintro _ w1 ⟨b1, rfl, hbw1, Bw1, G1⟩
 have z1 := G1.size
 have lt2 := Bw1.lt
 refine qe rfl (ev_alloc (cs := kb k0) zv_23 rfl) ?_
 rintro _ w2 ⟨b2, rfl, hbw2, Bw2, G2⟩
 have z3 := G2.size
 have lt4 := Bw2.lt
 refine sd_done<|sw_seq<|qs 3 rfl<|qm rfl<|qm rfl ?_
 obtain ⟨x1, hx1, hm⟩ := bnd hm
 refine qe rfl (eC en_303 rfl (cover_path_w hx1)) ?_
 rintro _ w3 ⟨k3_c0_0, k3_c0_1, rfl, O3_c0_0, f3_c0_0, O3_c0_1, f3_c0_1, G3⟩
 have z5 := G3.size
 have lt6 := O3_c0_0.lt
 have lt7 := O3_c0_1.lt
 refine sd_done<|sw_block ?_
 obtain ⟨l2, hl2, hm⟩ := bnd hm
 have X8 := ((((Gr.refl w).trans G1).trans G2).trans G3)
 have B9 := ((Bw1.gr G2).gr G3)
 have B10 := (Bw2.gr G3)
 refine sw_rangeFunc (gf := 353) rfl en_353 (cover_path_1_it x1.1 x1.2 _ _ _ hl2 _ O3_c0_0 O3_c0_1) (by intro x hx; obtain ⟨a, _, rfl⟩ := List.mem_map.1 hx; rfl) rfl _ (fun _ _ _ _ => False) ([b1]) (stb_mk (α := W2) (fun a4 rk => itL cover_descend_R1 cover_descend_D1 (List.drop rk l2) a4 = some r) (fun a4 => ([b1])) (fun a4 W => Bx W b1 23 (kb a4) ∧ True) (by rintro a4 W ⟨F0, _⟩ b hb; have q0 := F0.lt; replace hb : b ∈ ([b1]) := hb; simp only [List.mem_cons, List.mem_append, mem_zf, List.not_mem_nil, or_false, false_or, not_or, ne_eq, List.nil_append, List.cons_append, true_and, and_true, false_and, and_false, not_true_eq_false, not_false_eq_true, or_true, true_or] at hb; omega) (by rintro a4 W W' ⟨F0, _⟩ E hs; replace hs : ∀ b ∈ ([b1]), W'.heap[b]? = W.heap[b]? := hs; exact ⟨(hs _ (by simp)).trans F0, trivial⟩)) (fun _ => stb_false) (by intro b hb; simp only [List.mem_cons, List.mem_append, mem_zf, List.not_mem_nil, or_false, false_or, not_or, ne_eq, List.nil_append, List.cons_append, true_and, and_true, false_and, and_false, not_true_eq_false, not_false_eq_true, or_true, true_or] at hb ⊢; omega) ⟨p0, hm, rfl, B9, trivial⟩ ?_ ?_ ?_
 · rintro l rk x fp w4 hl hx _ K4 hF hln hlt
   clear hm
   obtain ⟨e5, hxe, rfl⟩ := map_some hx
   have Zw4 : Kz [(1, b1)] w3 w4 := kz_of_kp K4 (by intro k hk; simp only [Nin, and_true, List.mem_cons, List.mem_append, mem_zf, List.not_mem_nil, or_false, false_or, not_or, ne_eq, List.nil_append, List.cons_append, true_and, and_true, false_and, and_false, not_true_eq_false, not_false_eq_true, or_true, true_or] at hk ⊢; omega)
   have z11 := K4.size
   refine qg 1 rfl<|qm rfl<|sd_nil<|⟨rfl, (Gr.refl _), ?_⟩
   rintro w5 M5 ⟨a4, hm, rfl, Fw5_0, -⟩
   have z12 := M5.size
   have lt13 := Fw5_0.lt
   replace hm := itL_at hm hxe
   generalize hnx1 : itL cover_descend_R1 cover_descend_D1 (List.drop (rk + 1) l2) = nx1 at hm
   unfold cover_descend_R1 at hm
   try dsimp only at hm
   refine sw_block<|qs 1 rfl<|qm rfl<|sd_done ?_
   have X14 := ((X8.kz Zw4).md M5)
   refine qj (β := BitVec 8) [8, 13, 14, 15] (fun a6 => [(8, bv a6)]) (fun a6 wr => (cover_descend_J2 a4 nx1 a6 = some r) ∧ Kz [] w5 wr) ?_ ?_
   · refine qs 3 rfl<|qm rfl ?_
     obtain ⟨x7, hx7, hm⟩ := bnd hm
     refine qv rfl (vv_remI (a := e5) (b := 2) rfl rfl hx7)<|qv rfl (vv_eql (a := x7) (b := 1) rfl rfl)<|sd_done<|cnF rfl (fun c1 => ?_) (fun c1 => ?_)
     · replace hm := iF c1 hm
       refine sw_skip ?_
       exact ⟨rfl, 31#8, sbq, hm, kz0⟩
     replace hm := iT c1 hm
     refine qg 1 rfl<|qm rfl<|sd_nil ?_
     exact ⟨rfl, 32#8, sbq, hm, kz0⟩
   clear hm; rintro a6 w6 ⟨hm, K6⟩
   have z15 := K6.size
   unfold cover_descend_J2 at hm
   refine qg 4 rfl ?_
   have B16 := (Fw5_0.kz K6)
   refine qv rfl (vv_loadW agg_23 rfl B16 rfl)<|qm rfl<|qe rfl (eC en_90 rfl (derive_c a4 (un8 a6) (un8_nn _) (un8_le _) 0#64 _)) ?_
   rintro _ w7 ⟨rfl, G7⟩
   have z17 := G7.size
   have B18 := (B16.gr G7)
   refine qe rfl (ev_stW agg_23 rfl rfl rfl B18 rfl rfl) ?_
   rintro _ w8 ⟨Bw8, M8⟩
   have z19 := M8.size
   refine sd_nil<|block_n ?_
   have K_20 : Kz [(1, b1)] w5 w8 := (((Kz.kz (Kz.refl _ _) K6).gr G7).md M8)
   have Kq20 : Kp ([b1]) w5 w8 := kp_of_kz K_20 (by intro k hk; simp only [Nin, and_true, List.mem_cons, List.mem_append, mem_zf, List.not_mem_nil, or_false, false_or, not_or, ne_eq, List.nil_append, List.cons_append, true_and, and_true, false_and, and_false, not_true_eq_false, not_false_eq_true, or_true, true_or] at hk ⊢; omega)
   subst hnx1
   exact ⟨Kq20, ([b1]), (by intro c hc; simp only [List.mem_cons, List.mem_append, mem_zf, List.not_mem_nil, or_false, false_or, not_or, ne_eq, List.nil_append, List.cons_append, true_and, and_true, false_and, and_false, not_true_eq_false, not_false_eq_true, or_true, true_or] at hc ⊢; omega), ⟨drv a4 (un8 a6) 0#64, hm, rfl, Bw8, trivial⟩⟩
 · clear hm; rintro Dw9 fp w9 hDw9 Dfw9 nw9 ⟨a4, hm, rfl, Fw9_0, -⟩ K9
   replace hm := itL_end hm
   have Zw9 : Kz [(1, b1)] w3 w9 := kz_of_kp K9 (by intro k hk; simp only [Nin, and_true, List.mem_cons, List.mem_append, mem_zf, List.not_mem_nil, or_false, false_or, not_or, ne_eq, List.nil_append, List.cons_append, true_and, and_true, false_and, and_false, not_true_eq_false, not_false_eq_true, or_true, true_or] at hk ⊢; omega)
   have z23 := K9.size
   have lt24 := Df.lt (w := w9) Dfw9
   simp only [List.mem_cons, List.mem_append, mem_zf, List.not_mem_nil, or_false, false_or, not_or, ne_eq, List.nil_append, List.cons_append, true_and, and_true, false_and, and_false, not_true_eq_false, not_false_eq_true, or_true, true_or, not_and] at nw9
   have lt25 := Fw9_0.lt
   unfold cover_descend_D1 at hm
   try dsimp only at hm
   refine block_n<|then_n<|qs 2 rfl<|qv rfl (vv_loadW agg_23 rfl Fw9_0 rfl) ?_
   have B26 := (B10.kz Zw9)
   refine qe rfl (ev_stW agg_23 rfl rfl rfl B26 rfl rfl) ?_
   rintro _ w10 ⟨Bw10, M10⟩
   have z27 := M10.size
   refine sd_done<|sw_ret ?_
   have DL28 := (Df.md Dfw9 M10)
   have L28 := Md.put (w := w10) Dw9 (.deferred none)
   have zL28 := L28.size
   have B29 := (Bw10.md L28)
   have X30 : Gr w (w10.putObj Dw9 (.deferred none)) := (((X8.kz Zw9).md M10).md L28)
   cases hm
   refine ⟨_, _, ⟨Dw9, rfl, DL28, rfl⟩, res_1 rfl (rv_cellW agg_23 rfl B29 rfl), ?_⟩
   exact ⟨rfl, X30⟩
 rintro _ _ _ _ _ _ _ _ _ h _
 exact h.elim
theorem cover_middle_w {p0 r} (hm : cover_middle p0 = some r) {w : World} :
    Calls Tryz.prog 305 [kv p0].toArray w fun e w' => ∃ v, e = .returned v ∧ (v = kv r ∧ Gr w w') := by
 unfold cover_middle at hm
 refine calls_of_sw 5 Tryz.func305 rfl rfl rfl<|qs 2 rfl<|qe rfl (ev_box (cs := kb p0) rfl rfl) ?_
 rintro _ w1 ⟨b1, rfl, hbw1, Bw1, G1⟩
 have z1 := G1.size
 have lt2 := Bw1.lt
 refine qe rfl (ev_alloc (cs := kb k0) zv_23 rfl) ?_
 rintro _ w2 ⟨b2, rfl, hbw2, Bw2, G2⟩
 have z3 := G2.size
 have lt4 := Bw2.lt
 refine qd 3 rfl ?_
 have B5 := (Bw1.gr G2)
 refine qv rfl (vv_loadW agg_23 rfl B5 rfl)<|qe rfl (eC en_90 rfl (derive_c p0 (un8 33#8) (un8_nn _) (un8_le _) 0#64 _)) ?_
 rintro _ w3 ⟨rfl, G3⟩
 have z6 := G3.size
 have B7 := (Bw2.gr G3)
 refine qe rfl (ev_stW agg_23 rfl rfl rfl B7 rfl rfl) ?_
 rintro _ w4 ⟨Bw4, M4⟩
 have z8 := M4.size
 refine sd_done<|sw_ret ?_
 have X9 := (((((Gr.refl w).trans G1).trans G2).trans G3).md M4)
 cases hm
 refine ⟨_, _, rfl, res_1 rfl (rv_cellW agg_23 rfl Bw4 rfl), ?_⟩
 exact ⟨rfl, X9⟩
theorem cover_tree_key_w {p0 p1 p2 r} (hm : cover_tree_key p0 p1 p2 = some r) {w : World} :
    Calls Tryz.prog 203 [.agg (Tcover_tree.cs p0).toArray, kv p1, .agg (TSubset.cs p2).toArray].toArray w fun e w' => ∃ v, e = .returned v ∧ (v = kv r ∧ Gr w w') := by
 unfold cover_tree_key at hm
 refine calls_of_sw 32 Tryz.func203 rfl rfl rfl<|qs 4 rfl<|qe rfl (ev_box (cs := Tcover_tree.cs p0) rfl rfl) ?_
 rintro _ w1 ⟨b1, rfl, hbw1, Bw1, G1⟩
 have z1 := G1.size
 have lt2 := Bw1.lt
 refine qe rfl (ev_box (cs := kb p1) rfl rfl) ?_
 rintro _ w2 ⟨b2, rfl, hbw2, Bw2, G2⟩
 have z3 := G2.size
 have lt4 := Bw2.lt
 refine qe rfl (ev_box (cs := TSubset.cs p2) rfl rfl) ?_
 rintro _ w3 ⟨b3, rfl, hbw3, Bw3, G3⟩
 have z5 := G3.size
 have lt6 := Bw3.lt
 refine qe rfl (ev_alloc (cs := kb k0) zv_23 rfl) ?_
 rintro _ w4 ⟨b4, rfl, hbw4, Bw4, G4⟩
 have z7 := G4.size
 have lt8 := Bw4.lt
 refine sd_done<|sw_seq<|dw [([])] [] (.leaf [(0,10),(1,10),(2,10),(3,10),(4,10),(5,10)]) ?_
 intro w5 G5 zw5
 refine sdz_leaf<|dh 0 rfl rfl (fun w hS => vv_fieldAddr fa_171_0 rfl) ?_
 have Y1 := Gr.trans G4 G5
 have B9 := (Bw3.gr Y1)
 refine dh 0 rfl rfl (fun w hS => vv_load1 (v := .int .i64 p2.Node) one_3 rfl (Bx.kp B9 hS) rfl)<|dh 0 rfl rfl (fun w hS => vv_fieldAddr fa_171_1 rfl)<|dh 0 rfl rfl (fun w hS => vv_load1 (v := .int .i64 p2.Minus) one_3 rfl (Bx.kp B9 hS) rfl)<|dm 0 rfl rfl<|dm 0 rfl rfl<|sd_done<|sw_seq ?_
 refine sw_block<|qs 4 rfl<|qv rfl (vv_fieldAddr fa_290_0 rfl) ?_
 have Y2 := Gr.trans (Gr.trans G2 G3) Y1
 have B10 := (Bw1.gr Y2)
 refine qv rfl (vv_load1 (v := bv p0.kind) one_5 rfl B10 rfl)<|qv rfl (vv_eqlB (p := p0.kind) (q := 1#8) rfl rfl)<|qm rfl<|sd_done<|sw_cond rfl (fun c1 => ?_) (fun c1 => ?_)
 · replace hm := iT c1 hm
   refine qs 4 rfl ?_
   have Y3 := Gr.trans G3 Y1
   have B11 := (Bw2.gr Y3)
   refine qv rfl (vv_loadW agg_23 rfl B11 rfl)<|qm rfl ?_
   obtain ⟨x1, hx1, hm⟩ := bnd hm
   refine qe rfl (eC en_205 rfl (cover_nodeKey_w hx1)) ?_
   rintro _ w6 ⟨rfl, G6⟩
   have z12 := G6.size
   have B13 := ((Bw4.gr G5).gr G6)
   refine qe rfl (ev_stW agg_23 rfl rfl rfl B13 rfl rfl) ?_
   rintro _ w7 ⟨Bw7, M7⟩
   have z14 := M7.size
   refine sd_done<|sw_ret<|block_r<|then_r ?_
   have X15 := (((((Gr.refl w).trans G1).trans Y2).trans G6).md M7)
   cases hm
   refine ⟨_, _, rfl, res_1 rfl (rv_cellW agg_23 rfl Bw7 rfl), ?_⟩
   exact ⟨rfl, X15⟩
 replace hm := iF c1 hm
 refine qs 3 rfl<|qm rfl<|qv rfl (vv_eql (a := p2.Minus) (b := 0) rfl rfl)<|qm rfl<|sd_done<|sw_cond rfl (fun c2 => ?_) (fun c2 => ?_)
 · replace hm := iT c2 hm
   refine qs 3 rfl ?_
   have Y4 := Gr.trans G3 Y1
   have B16 := (Bw2.gr Y4)
   refine qv rfl (vv_loadW agg_23 rfl B16 rfl)<|qe rfl (eC en_90 rfl (derive_c p1 (un8 34#8) (un8_nn _) (un8_le _) 0#64 _)) ?_
   rintro _ w8 ⟨rfl, G8⟩
   have z17 := G8.size
   have B18 := ((Bw4.gr G5).gr G8)
   refine qe rfl (ev_stW agg_23 rfl rfl rfl B18 rfl rfl) ?_
   rintro _ w9 ⟨Bw9, M9⟩
   have z19 := M9.size
   refine sd_done<|sw_ret<|block_r<|then_r ?_
   have X20 := (((((Gr.refl w).trans G1).trans Y2).trans G8).md M9)
   cases hm
   refine ⟨_, _, rfl, res_1 rfl (rv_cellW agg_23 rfl Bw9 rfl), ?_⟩
   exact ⟨rfl, X20⟩
 replace hm := iF c2 hm
 refine sw_skip<|block_n<|then_n<|qs 8 rfl ?_
 have Y5 := Gr.trans G3 Y1
 have B21 := (Bw2.gr Y5)
 refine qv rfl (vv_loadW agg_23 rfl B21 rfl)<|qm rfl ?_
 obtain ⟨x2, hx2, hm⟩ := bnd hm
 refine qe rfl (eC en_205 rfl (cover_nodeKey_w hx2)) ?_
 rintro _ w10 ⟨rfl, G10⟩
 have z22 := G10.size
 refine qm rfl<|qm rfl ?_
 obtain ⟨x3, hx3, hm⟩ := bnd hm
 refine qe rfl (eC en_204 rfl (cover_descend_w hx3)) ?_
 rintro _ w11 ⟨rfl, G11⟩
 have z23 := G11.size
 obtain ⟨x4, hx4, hm⟩ := bnd hm
 refine qe rfl (eC en_305 rfl (cover_middle_w hx4)) ?_
 rintro _ w12 ⟨rfl, G12⟩
 have z24 := G12.size
 have Y6 := Gr.trans (Gr.trans (Gr.trans G5 G10) G11) G12
 have B25 := (Bw4.gr Y6)
 refine qe rfl (ev_stW agg_23 rfl rfl rfl B25 rfl rfl) ?_
 rintro _ w13 ⟨Bw13, M13⟩
 have z26 := M13.size
 refine sd_done<|sw_ret ?_
 have X27 := (((((((Gr.refl w).trans G1).trans Y2).trans G10).trans G11).trans G12).md M13)
 cases hm
 refine ⟨_, _, rfl, res_1 rfl (rv_cellW agg_23 rfl Bw13 rfl), ?_⟩
 exact ⟨rfl, X27⟩
theorem cover_Seal_w {p0 p1 p2 p3 vp2 zp2 gp2 op2 r} (hm : cover_Seal p0 p1 p2 p3 = some r) {w : World} (hp2 : Rd w zp2 gp2 op2 2 vp2 (p2.map TSubset.cs)) :
    Calls Tryz.prog 211 [kv p0, .agg (TScheme.cs p1).toArray, vp2, kv p3].toArray w fun e w' => ∃ v, e = .returned v ∧ (∃ ur0_0 zr0_0 gr0_0 ur0_2 zr0_2 gr0_2, v = .tuple [.agg (THeader.cs r.1 ur0_0 ur0_2).toArray, .int .i64 r.2].toArray ∧ Own w' zr0_0 gr0_0 173 18 ur0_0 (r.1.Items.map TItem.cs) ∧ Hdn (zr0_0 = 0 ∨ w.heap.size ≤ gr0_0) ∧ Own w' zr0_2 gr0_2 50 2 ur0_2 (r.1.Points.map TPoint.cs) ∧ Hdn (zr0_2 = 0 ∨ w.heap.size ≤ gr0_2) ∧ Hdn (zr0_2 = 0 ∨ zr0_0 = 0 ∨ gr0_2 ≠ gr0_0) ∧ Gr w w') := by
 have lt1 := hp2.lth
 unfold cover_Seal at hm
 refine calls_of_sw 60 Tryz.func211 rfl rfl rfl<|qs 5 rfl<|qe rfl (ev_box (cs := kb p0) rfl rfl) ?_
 rintro _ w1 ⟨b1, rfl, hbw1, Bw1, G1⟩
 have z2 := G1.size
 have lt3 := Bw1.lt
 refine qe rfl (ev_box (cs := TScheme.cs p1) rfl rfl) ?_
 rintro _ w2 ⟨b2, rfl, hbw2, Bw2, G2⟩
 have z4 := G2.size
 have lt5 := Bw2.lt
 refine qe rfl (ev_box (cs := kb p3) rfl rfl) ?_
 rintro _ w3 ⟨b3, rfl, hbw3, Bw3, G3⟩
 have z6 := G3.size
 have lt7 := Bw3.lt
 refine qe rfl (ev_alloc (cs := THeader.cs (THeader.mk [] 0#64 [] k0 k0) (.slice none 0 0) (.slice none 0 0)) zv_36 rfl) ?_
 rintro _ w4 ⟨b4, rfl, hbw4, Bw4, G4⟩
 have z8 := G4.size
 have lt9 := Bw4.lt
 refine qm rfl<|sd_done<|sw_seq<|qs 3 rfl ?_
 have Y1 := Gr.trans G3 G4
 have B10 := (Bw2.gr Y1)
 refine qv rfl (vv_loadW agg_28 rfl B10 rfl) ?_
 obtain ⟨x1, hx1, hm⟩ := bnd hm
 refine qe rfl (eC en_128 rfl (cover_Check_w hx1)) ?_
 rintro _ w5 ⟨rfl, G5⟩
 have z11 := G5.size
 refine qm rfl<|qd 2 rfl<|qm rfl<|qv rfl (vv_neq (a := x1) (b := 0) rfl rfl)<|sd_done ?_
 refine sw_cond rfl (fun c1 => ?_) (fun c1 => ?_)
 · replace hm := iT c1 hm
   refine qs 4 rfl<|qv rfl (vv_build (cs := THeader.cs (THeader.mk [] 0#64 [] k0 k0) (.slice none 0 0) (.slice none 0 0)) bs_36 rfl (by kernel_rfl))<|qm rfl ?_
   have B12 := (Bw4.gr G5)
   refine qe rfl (ev_stW agg_36 rfl rfl (THeader.cs_ones _ _ _ rfl rfl) B12 rfl rfl) ?_
   rintro _ w6 ⟨Bw6, M6⟩
   have z13 := M6.size
   refine qm rfl<|qb ?_
   have Y2 := Gr.trans (Gr.trans (Gr.trans G1 G2) Y1) G5
   have X14 := (((Gr.refl w).trans Y2).md M6)
   cases hm
   refine ⟨_, _, rfl, res_2 rfl (rv_cellW agg_36 rfl Bw6 rfl) (rv_tmp rfl), ?_⟩
   exact ⟨(.slice none 0 0), 0, 0, (.slice none 0 0), 0, 0, rfl, (own_nil _ 0 173 18), ⟨.inl rfl⟩, (own_nil _ 0 50 2), ⟨.inl rfl⟩, ⟨(.inl rfl)⟩, X14⟩
 replace hm := iF c1 hm
 refine qu<|sw_seq<|qs 3 rfl<|qm rfl ?_
 have Y3 := Gr.trans (Gr.trans (Gr.trans G1 G2) Y1) G5
 have B15 := (hp2.gr Y3)
 refine qv rfl (vv_lenT (l := p2) (c := TSubset.cs) Tryz.underlying202 rfl B15)<|qv rfl (vv_gtr (a := (p2.length : Int)) (b := 64) rfl rfl)<|sd_done<|sw_cond rfl (fun c2 => ?_) (fun c2 => ?_)
 · replace hm := iT c2 hm
   refine qs 3 rfl<|qv rfl (vv_build (cs := THeader.cs (THeader.mk [] 0#64 [] k0 k0) (.slice none 0 0) (.slice none 0 0)) bs_36 rfl (by kernel_rfl)) ?_
   have B16 := (Bw4.gr G5)
   refine qe rfl (ev_stW agg_36 rfl rfl (THeader.cs_ones _ _ _ rfl rfl) B16 rfl rfl) ?_
   rintro _ w7 ⟨Bw7, M7⟩
   have z17 := M7.size
   refine qm rfl<|qb ?_
   have X18 := (((Gr.refl w).trans Y3).md M7)
   cases hm
   refine ⟨_, _, rfl, res_2 rfl (rv_cellW agg_36 rfl Bw7 rfl) (rv_tmp rfl), ?_⟩
   exact ⟨(.slice none 0 0), 0, 0, (.slice none 0 0), 0, 0, rfl, (own_nil _ 0 173 18), ⟨.inl rfl⟩, (own_nil _ 0 50 2), ⟨.inl rfl⟩, ⟨(.inl rfl)⟩, X18⟩
 replace hm := iF c2 hm
 refine qu<|qs 9 rfl ?_
 have B19 := (B10.gr G5)
 refine qv rfl (vv_loadW agg_28 rfl B19 rfl)<|qm rfl ?_
 obtain ⟨x2, hx2, hm⟩ := bnd hm
 refine qe rfl (eC en_200 rfl (cover_enter_w hx2 B15)) ?_
 rintro _ w8 ⟨rfl, G8⟩
 have z20 := G8.size
 refine qm rfl<|qm rfl<|qm rfl<|qe rfl (ev_alloc (cs := Tcover_tree.cs (Tcover_tree.mk 0#8 0 0)) zv_290 rfl) ?_
 rintro _ w9 ⟨b9, rfl, hbw9, Bw9, G9⟩
 have z21 := G9.size
 have lt22 := Bw9.lt
 refine qe rfl (ev_stW agg_290 rfl rfl rfl Bw9 rfl rfl) ?_
 rintro _ w10 ⟨Bw10, M10⟩
 have z23 := M10.size
 refine qm rfl<|sd_done<|sw_seq<|qs 2 rfl<|qm rfl<|qv rfl (vv_neq (a := x2.2) (b := 0) rfl rfl) ?_
 refine sd_done<|sw_cond rfl (fun c3 => ?_) (fun c3 => ?_)
 · replace hm := iT c3 hm
   refine qs 4 rfl<|qv rfl (vv_build (cs := THeader.cs (THeader.mk [] 0#64 [] k0 k0) (.slice none 0 0) (.slice none 0 0)) bs_36 rfl (by kernel_rfl))<|qm rfl ?_
   have Y4 := Gr.trans (Gr.trans G5 G8) G9
   have B24 := ((Bw4.gr Y4).md M10)
   refine qe rfl (ev_stW agg_36 rfl rfl (THeader.cs_ones _ _ _ rfl rfl) B24 rfl rfl) ?_
   rintro _ w11 ⟨Bw11, M11⟩
   have z25 := M11.size
   refine qm rfl<|qb ?_
   have X26 := ((((((Gr.refl w).trans Y3).trans G8).trans G9).md M10).md M11)
   cases hm
   refine ⟨_, _, rfl, res_2 rfl (rv_cellW agg_36 rfl Bw11 rfl) (rv_tmp rfl), ?_⟩
   exact ⟨(.slice none 0 0), 0, 0, (.slice none 0 0), 0, 0, rfl, (own_nil _ 0 173 18), ⟨.inl rfl⟩, (own_nil _ 0 50 2), ⟨.inl rfl⟩, ⟨(.inl rfl)⟩, X26⟩
 replace hm := iF c3 hm
 refine qu<|qs 5 rfl ?_
 have Y5 := Gr.trans (Gr.trans (Gr.trans G4 G5) G8) G9
 have B27 := ((Bw3.gr Y5).md M10)
 refine qv rfl (vv_loadW agg_23 rfl B27 rfl)<|qe rfl (eC en_90 rfl (derive_c p3 (un8 53#8) (un8_nn _) (un8_le _) 0#64 _)) ?_
 rintro _ w12 ⟨rfl, G12⟩
 have z28 := G12.size
 refine qv rfl (vv_build (cs := THeader.cs (THeader.mk [] 0#64 [] k0 (drv p3 (un8 53#8) 0#64)) (.slice none 0 0) (.slice none 0 0)) bs_36 rfl (by obtain ⟨kk0, hk0⟩ := ex_of (drv p3 (un8 53#8) 0#64); rw [← hk0]; exact (fill_M rfl rfl rfl (by kernel_rfl))))<|qe rfl (ev_alloc (cs := THeader.cs (THeader.mk [] 0#64 [] k0 k0) (.slice none 0 0) (.slice none 0 0)) zv_36 rfl) ?_
 rintro _ w13 ⟨b13, rfl, hbw13, Bw13, G13⟩
 have z29 := G13.size
 have lt30 := Bw13.lt
 refine qe rfl (ev_stW agg_36 rfl rfl (THeader.cs_ones _ _ _ rfl rfl) Bw13 rfl rfl) ?_
 rintro _ w14 ⟨Bw14, M14⟩
 have z31 := M14.size
 refine sd_done<|sw_seq<|qs 3 rfl<|qm rfl ?_
 have Y6 := Gr.trans G8 G9
 have Y7 := Gr.trans G12 G13
 have B32 := ((((B15.gr Y6).md M10 (pb_lt lt1)).gr Y7).md M14 (pb_lt lt1))
 refine qv rfl (vv_lenT (l := p2) (c := TSubset.cs) Tryz.underlying202 rfl B32)<|qm rfl<|sd_done<|sw_block ?_
 have X33 := ((((((Gr.refl w).trans Y3).trans Y6).md M10).trans Y7).md M14)
 refine sw_loopD (α := Nat × Int × List TItem × Value × Nat × Nat) ([15] ++ rg 41 18) (fun ⟨n1, a6, a7, vy8, zy8, gy8⟩ => [(41, .int .i64 a6)]) (fun ⟨n1, a6, a7, vy8, zy8, gy8⟩ wr => (fixN (cover_Seal_L1 p0 p2 p3 x2) n1 (a6, a7) = some r) ∧ Own wr zy8 gy8 173 18 vy8 (a7.map TItem.cs) ∧ Hdn (zy8 = 0 ∨ w14.heap.size ≤ gy8) ∧ Bx wr b13 36 (THeader.cs (THeader.mk a7 0#64 [] k0 (drv p3 (un8 53#8) 0#64)) vy8 (.slice none 0 0)) ∧ Kz [(1, b13)] w14 wr) (fun ⟨n1, a6, a7, vy8, zy8, gy8⟩ => n1) ⟨FUEL, 0, [], (.slice none 0 0), 0, 0⟩ ?_ ?_ ?_
 · exact sbq
 · exact ⟨hm, (own_nil _ 0 173 18), ⟨(.inl rfl)⟩, Bw14, Kz.refl _ _⟩
 clear hm; rintro ⟨n1, a6, a7, vy8, zy8, gy8⟩ w15 ⟨hm, Fw15_0, Fw15_1, Fw15_2, K15⟩
 have z34 := K15.size
 have lt35 := Fw15_0.lth
 have lt36 := Fw15_2.lt
 have hb := fix_succ hm; clear hm; obtain ⟨n1, rfl, hm⟩ := hb
 generalize hrec1 : fixN (cover_Seal_L1 p0 p2 p3 x2) n1 = rec1 at hm
 unfold cover_Seal_L1 at hm
 try dsimp only at hm
 refine qs 1 rfl<|qv rfl (vv_lss (a := a6) (b := (p2.length : Int)) rfl rfl)<|sd_done<|sw_seq<|cnF rfl (fun c4 => ?_) (fun c4 => ?_)
 · replace hm := iF c4 hm
   refine sw_exit<|then_x<|then_x<|block_x<|then_n<|qs 3 rfl ?_
   refine qv rfl (vv_loadW agg_36 rfl Fw15_2 rfl) ?_
   have Y8 := Gr.trans G5 Y6
   have B58 := (((((Bw4.gr Y8).md M10).gr Y7).md M14).kz K15)
   refine qe rfl (ev_stW agg_36 rfl rfl (THeader.cs_ones _ _ _ (Own.oneB Fw15_0) rfl) B58 rfl rfl) ?_
   rintro _ w24 ⟨Bw24, M24⟩
   have z59 := M24.size
   refine qm rfl<|sd_done<|sw_ret ?_
   have B60 := (Fw15_0.md M24 (pb_0 Fw15_1))
   have X61 := ((X33.kz K15).md M24)
   cases hm
   refine ⟨_, _, rfl, res_2 rfl (rv_cellW agg_36 rfl Bw24 rfl) (rv_tmp rfl), ?_⟩
   exact ⟨vy8, zy8, gy8, (.slice none 0 0), 0, 0, rfl, B60, ⟨(pv_0 (A := (fun x => w.heap.size ≤ x)) Fw15_1)⟩, (own_nil _ 0 50 2), ⟨.inl rfl⟩, ⟨(.inl rfl)⟩, X61⟩
 replace hm := iT c4 hm
 refine qu<|sw_seq<|sw_block<|qs 4 rfl ?_
 obtain ⟨y9, hy9, hm⟩ := bnd hm
 have B37 := (B32.kz K15 (tk1 (pb_lt (b := b13) lt1)))
 refine qv rfl (vv_ixT (i := a6) Tryz.underlying202 (agg_171).siz rfl B37 rfl hy9)<|qv rfl (vv_elWT agg_171 rfl B37 hy9 (by first | rfl | omega))<|qe rfl (ev_alloc (cs := TSubset.cs (TSubset.mk 0 0)) zv_171 rfl) ?_
 rintro _ w16 ⟨b16, rfl, hbw16, Bw16, G16⟩
 have z38 := G16.size
 have lt39 := Bw16.lt
 refine qe rfl (ev_stW agg_171 rfl rfl rfl Bw16 rfl rfl) ?_
 rintro _ w17 ⟨Bw17, M17⟩
 have z40 := M17.size
 refine sd_done<|dw [([b13] ++ zf zy8 gy8),([] ++ zf zy8 gy8)] [(13, [1])] (.leaf [(0,10),(1,11),(2,10),(3,10),(4,10),(5,10),(7,10),(6,0),(8,0),(9,10),(10,0),(11,0),(12,10),(13,0)]) ?_
 intro w18 G18 zw18
 refine sdz_leaf<|qh 0 rfl rfl (Kp.refl ([b13] ++ zf zy8 gy8) w18) (fun w hS => vv_fieldAddr fa_36_0 rfl) ?_
 have B41 := (((Fw15_2.gr G16).md M17).gr G18)
 refine qh 1 rfl rfl (Kp.refl ([] ++ zf zy8 gy8) w18) (fun w hS => vv_load1 (v := vy8) one_33 rfl (Bx.kp B41 hS (tk1 (pb_0 (b := b13) Fw15_1))) rfl) ?_
 have B42 := (Bw17.gr G18)
 refine qh 0 rfl rfl (Kp.refl ([b13] ++ zf zy8 gy8) w18) (fun w hS => vv_loadW agg_171 rfl (Bx.kp B42 hS (tk1 (pb_lt (b := b16) lt35))) rfl) ?_
 have B43 := ((((((Bw10.gr Y7).md M14).kz K15).gr G16).md M17).gr G18)
 refine qh 0 rfl rfl (Kp.refl ([b13] ++ zf zy8 gy8) w18) (fun w hS => vv_loadW agg_290 rfl (Bx.kp B43 hS (tk1 (pb_0 (b := b9) Fw15_1))) rfl) ?_
 have Y9 := Gr.trans (Gr.trans (Gr.trans G2 Y1) G5) Y6
 have B44 := ((((((((Bw1.gr Y9).md M10).gr Y7).md M14).kz K15).gr G16).md M17).gr G18)
 refine qh 0 rfl rfl (Kp.refl ([b13] ++ zf zy8 gy8) w18) (fun w hS => vv_loadW agg_23 rfl (Bx.kp B44 hS (tk1 (pb_0 (b := b1) Fw15_1))) rfl)<|qh 0 rfl rfl (Kp.refl ([b13] ++ zf zy8 gy8) w18) (fun w hS => vv_loadW agg_171 rfl (Bx.kp B42 hS (tk1 (pb_lt (b := b16) lt35))) rfl) ?_
 have B45 := ((((((B27.gr Y7).md M14).kz K15).gr G16).md M17).gr G18)
 refine qh 0 rfl rfl (Kp.refl ([b13] ++ zf zy8 gy8) w18) (fun w hS => vv_loadW agg_23 rfl (Bx.kp B45 hS (tk1 (pb_0 (b := b3) Fw15_1))) rfl) ?_
 obtain ⟨x10, hx10, hm⟩ := bnd hm
 refine qz [] rfl (eC en_203 rfl (cover_tree_key_w hx10)) ⟨fun _ => tk0, fun _ => tk0, trivial⟩ ?_
 rintro _ w19 ⟨rfl, G19⟩
 have z46 := G19.size
 refine kG G19<|qz [] rfl (eC en_107 rfl (encr_c x10 p3 _)) ⟨fun _ => tk0, fun _ => tk0, trivial⟩ ?_
 rintro _ w20 ⟨rfl, G20⟩
 have z47 := G20.size
 refine kG G20 ?_
 have Y10 := Gr.trans G19 G20
 have S48 := ((Kp.refl ([b13] ++ zf zy8 gy8) w18).gr Y10)
 refine qh 0 rfl rfl S48 (fun w hS => vv_build (cs := TItem.cs (TItem.mk y9 (encr x10 p3))) bs_173 rfl (by obtain ⟨kk0, hk0⟩ := ex_of (encr x10 p3); rw [← hk0]; exact (fill_M rfl rfl rfl (fill_M rfl rfl rfl (by kernel_rfl)))))<|qz [] rfl (ev_litT [(TItem.mk y9 (encr x10 p3))] TItem.cs bsl_33_1 rfl rfl (ws_of rfl) rfl rfl rfl) ⟨fun _ => tk0, fun _ => tk0, trivial⟩ ?_
 rintro vw21 w21 ⟨gw21, hbw21, Ow21, G21⟩
 have z49 := G21.size
 have lt50 := Ow21.lth
 refine kG G21 ?_
 have B51 := (((((Fw15_0.gr G16).md M17 (pb_lt lt35)).gr G18).gr Y10).gr G21)
 obtain ⟨l11, hl11, hm⟩ := bnd hm
 refine qz [(zy8, gy8)] rfl (ev_appT (l := a7) (m := [(TItem.mk y9 (encr x10 p3))]) (c := TItem.cs) apt_33 rfl rfl B51 (Own.rd Ow21) hl11 (by decide)) ⟨fun _ => (tk1 (tk0 : zy8 = 0 ∨ (gy8 = gy8 ∧ zy8 ≠ 0) ∨ w18.heap.size ≤ gy8)), fun _ => (tk1 (tk0 : zy8 = 0 ∨ (gy8 = gy8 ∧ zy8 ≠ 0) ∨ w18.heap.size ≤ gy8)), trivial⟩ ?_
 rintro vw22 w22 ⟨zw22, gw22, Ow22, Aw22, qw22, rw22⟩
 have z52 := Aw22.size
 refine ⟨Kz.ofKa Aw22, ?_⟩
 have S53 := ((S48.gr G21).ka Aw22 (tk1 (tk0 : zy8 = 0 ∨ (gy8 = gy8 ∧ zy8 ≠ 0) ∨ w18.heap.size ≤ gy8)))
 refine qh 0 rfl rfl S53 (fun w hS => vv_fieldAddr fa_36_0 rfl) ?_
 have B54 := (((B41.gr Y10).gr G21).ka Aw22 (tk1 (pb_0 (b := b13) Fw15_1)))
 refine qz [(1, b13)] rfl (ev_st1 (cs' := THeader.cs (THeader.mk l11 0#64 [] k0 (drv p3 (un8 53#8) 0#64)) vw22 (.slice none 0 0)) (one_33).siz rfl rfl (Own.oneB Ow22) B54 rfl rfl) ⟨fun _ => tk0, nofun, trivial⟩ ?_
 rintro _ w23 ⟨Bw23, M23⟩
 have z55 := M23.size
 refine kM M23<|sd_nil<|block_n<|then_n<|qg 2 rfl<|qv rfl (vv_add (k := .i64) (a := a6) (b := 1) rfl rfl)<|qm rfl ?_
 refine sd_nil ?_
 have K_56 : Kz [(1, b13)] w14 w23 := (((((((K15.gr G16).md M17).gr G18).gr Y10).gr G21).ka Aw22 (tk1 (pv_0 (A := (fun x => w14.heap.size ≤ x)) Fw15_1))).md M23)
 have B57 := (Ow22.md M23 (pb_app rw22 (pb_0 Fw15_1)))
 subst hrec1
 exact ⟨rfl, ⟨n1, w64 (a6 + 1), l11, vw22, zw22, gw22⟩, sbq, ⟨hm, B57, ⟨(pv_app (A := (fun x => w14.heap.size ≤ x)) rw22 (pv_0 (A := (fun x => w14.heap.size ≤ x)) Fw15_1))⟩, Bw23, K_56⟩, Nat.lt_succ_self _⟩
theorem ref03_step_w {p0 p1 r} (hm : ref03_step p0 p1 = some r) {w : World} :
    Calls Tryz.prog 375 [kv p0, .int .i64 p1].toArray w fun e w' => ∃ v, e = .returned v ∧ (v = kv r ∧ Gr w w') := by
 unfold ref03_step at hm
 refine calls_of_sw 12 Tryz.func375 rfl rfl rfl<|qs 2 rfl<|qe rfl (ev_box (cs := kb p0) rfl rfl) ?_
 rintro _ w1 ⟨b1, rfl, hbw1, Bw1, G1⟩
 have z1 := G1.size
 have lt2 := Bw1.lt
 refine qe rfl (ev_alloc (cs := kb k0) zv_23 rfl) ?_
 rintro _ w2 ⟨b2, rfl, hbw2, Bw2, G2⟩
 have z3 := G2.size
 have lt4 := Bw2.lt
 refine sd_done<|sw_seq<|qs 3 rfl<|qm rfl ?_
 obtain ⟨x1, hx1, hm⟩ := bnd hm
 refine qv rfl (vv_remI (a := p1) (b := 2) rfl rfl hx1)<|qv rfl (vv_eql (a := x1) (b := 0) rfl rfl)<|sd_done<|sw_cond rfl (fun c1 => ?_) (fun c1 => ?_)
 · replace hm := iT c1 hm
   refine qs 3 rfl ?_
   have B5 := (Bw1.gr G2)
   refine qv rfl (vv_loadW agg_23 rfl B5 rfl)<|qe rfl (eC en_103 rfl (rderive_c p0 (un8 31#8) (un8_nn _) (un8_le _) 0#64 _)) ?_
   rintro _ w3 ⟨rfl, G3⟩
   have z6 := G3.size
   have B7 := (Bw2.gr G3)
   refine qe rfl (ev_stW agg_23 rfl rfl rfl B7 rfl rfl) ?_
   rintro _ w4 ⟨Bw4, M4⟩
   have z8 := M4.size
   refine qb ?_
   have X9 := (((((Gr.refl w).trans G1).trans G2).trans G3).md M4)
   cases hm
   refine ⟨_, _, rfl, res_1 rfl (rv_cellW agg_23 rfl Bw4 rfl), ?_⟩
   exact ⟨rfl, X9⟩
 replace hm := iF c1 hm
 refine qu<|qs 3 rfl ?_
 have B10 := (Bw1.gr G2)
 refine qv rfl (vv_loadW agg_23 rfl B10 rfl)<|qe rfl (eC en_103 rfl (rderive_c p0 (un8 32#8) (un8_nn _) (un8_le _) 0#64 _)) ?_
 rintro _ w5 ⟨rfl, G5⟩
 have z11 := G5.size
 have B12 := (Bw2.gr G5)
 refine qe rfl (ev_stW agg_23 rfl rfl rfl B12 rfl rfl) ?_
 rintro _ w6 ⟨Bw6, M6⟩
 have z13 := M6.size
 refine sd_done<|sw_ret ?_
 have X14 := (((((Gr.refl w).trans G1).trans G2).trans G5).md M6)
 cases hm
 refine ⟨_, _, rfl, res_1 rfl (rv_cellW agg_23 rfl Bw6 rfl), ?_⟩
 exact ⟨rfl, X14⟩
theorem ref03_down_w {p0 p1 p2 r} (hm : ref03_down p0 p1 p2 = some r) {w : World} :
    Calls Tryz.prog 348 [kv p0, .int .i64 p1, .int .i64 p2].toArray w fun e w' => ∃ v, e = .returned v ∧ (v = kv r ∧ Gr w w') := by
 unfold ref03_down at hm
 refine calls_of_sw 25 Tryz.func348 rfl rfl rfl<|qs 2 rfl<|qe rfl (ev_box (cs := kb p0) rfl rfl) ?_
 rintro _ w1 ⟨b1, rfl, hbw1, Bw1, G1⟩
 have z1 := G1.size
 have lt2 := Bw1.lt
 refine qe rfl (ev_alloc (cs := kb k0) zv_23 rfl) ?_
 rintro _ w2 ⟨b2, rfl, hbw2, Bw2, G2⟩
 have z3 := G2.size
 have lt4 := Bw2.lt
 refine qd 4 rfl<|qm rfl<|qm rfl ?_
 obtain ⟨x1, hx1, hm⟩ := bnd hm
 refine qe rfl (eC en_345 rfl (ref03_Path_w hx1)) ?_
 rintro u3_r0_s w3 ⟨_, z3_r0_s, g3_r0_s, rfl, O3_r0_s, f3_r0_s, G3⟩
 have z5 := G3.size
 have lt6 := O3_r0_s.lth
 refine qm rfl<|sd_done<|sw_seq<|qs 1 rfl<|qm rfl<|sd_done ?_
 refine sw_block ?_
 have X7 := ((((Gr.refl w).trans G1).trans G2).trans G3)
 have B8 := ((Bw1.gr G2).gr G3)
 refine sw_loopD (α := Nat × Int × W2) ([8] ++ rg 12 12) (fun ⟨n1, a4, a5⟩ => [(8, .int .i64 a4)]) (fun ⟨n1, a4, a5⟩ wr => (fixN (ref03_down_L1 x1) n1 (a4, a5) = some r) ∧ Bx wr b1 23 (kb a5) ∧ Kz [(1, b1)] w3 wr) (fun ⟨n1, a4, a5⟩ => n1) ⟨FUEL, 1, p0⟩ ?_ ?_ ?_
 · exact sbq
 · exact ⟨hm, B8, Kz.refl _ _⟩
 clear hm; rintro ⟨n1, a4, a5⟩ w4 ⟨hm, Fw4_0, K4⟩
 have z9 := K4.size
 have lt10 := Fw4_0.lt
 have hb := fix_succ hm; clear hm; obtain ⟨n1, rfl, hm⟩ := hb
 generalize hrec1 : fixN (ref03_down_L1 x1) n1 = rec1 at hm
 unfold ref03_down_L1 at hm
 try dsimp only at hm
 refine sw_seq<|qs 4 rfl<|qm rfl<|qm rfl ?_
 have B11 := (O3_r0_s.kz K4 (tk1 (pb_0 (b := b1) f3_r0_s)))
 refine qv rfl (vv_lenT (l := x1) (c := ic) Tryz.underlying31 rfl (Own.rd B11))<|qv rfl (vv_lss (a := a4) (b := (x1.length : Int)) rfl rfl)<|sd_done<|cnF rfl (fun c1 => ?_) (fun c1 => ?_)
 · replace hm := iF c1 hm
   refine sw_exit<|then_x<|then_x<|block_x<|then_n<|qs 2 rfl ?_
   refine qv rfl (vv_loadW agg_23 rfl Fw4_0 rfl) ?_
   have B18 := ((Bw2.gr G3).kz K4)
   refine qe rfl (ev_stW agg_23 rfl rfl rfl B18 rfl rfl) ?_
   rintro _ w8 ⟨Bw8, M8⟩
   have z19 := M8.size
   refine sd_done<|sw_ret ?_
   have X20 := ((X7.kz K4).md M8)
   cases hm
   refine ⟨_, _, rfl, res_1 rfl (rv_cellW agg_23 rfl Bw8 rfl), ?_⟩
   exact ⟨rfl, X20⟩
 replace hm := iT c1 hm
 refine qu<|sw_seq<|sw_block<|dw [([b1]),([])] [(6, [1])] (.leaf [(0,11),(1,10),(2,10),(3,10),(4,10),(5,0),(6,0)]) ?_
 intro w5 G5 zw5
 refine sdz_leaf ?_
 have B12 := (Fw4_0.gr G5)
 refine dh 1 rfl rfl (fun w hS => vv_loadW agg_23 rfl (Bx.kp B12 hS) rfl)<|dm 0 rfl rfl<|dm 0 rfl rfl ?_
 obtain ⟨y6, hy6, hm⟩ := bnd hm
 have B13 := (B11.gr G5)
 refine dh 0 rfl rfl (fun w hS => vv_ixT (i := a4) Tryz.underlying31 (one_3).siz rfl (Own.rd (Own.kp B13 hS (tk1 (pb_0 (b := b1) f3_r0_s)))) rfl hy6)<|dh 0 rfl rfl (fun w hS => vv_el1T (q := 0) (u := .int .i64 y6) one_3 rfl (Own.rd (Own.kp B13 hS (tk1 (pb_0 (b := b1) f3_r0_s)))) hy6 (by first | rfl | omega) rfl) ?_
 obtain ⟨x7, hx7, hm⟩ := bnd hm
 refine qz [] rfl (eC en_375 rfl (ref03_step_w hx7)) ⟨fun _ => tk0, fun _ => tk0, trivial⟩ ?_
 rintro _ w6 ⟨rfl, G6⟩
 have z14 := G6.size
 refine kG G6 ?_
 have B15 := (B12.gr G6)
 refine qz [(1, b1)] rfl (ev_stW agg_23 rfl rfl rfl B15 rfl rfl) ⟨fun _ => tk0, nofun, trivial⟩ ?_
 rintro _ w7 ⟨Bw7, M7⟩
 have z16 := M7.size
 refine kM M7<|sd_nil<|block_n<|then_n<|qg 3 rfl<|qm rfl<|qv rfl (vv_add (k := .i64) (a := a4) (b := 1) rfl rfl) ?_
 refine qm rfl<|sd_nil ?_
 have K_17 : Kz [(1, b1)] w3 w7 := (((K4.gr G5).gr G6).md M7)
 subst hrec1
 exact ⟨rfl, ⟨n1, w64 (a4 + 1), x7⟩, sbq, ⟨hm, Bw7, K_17⟩, Nat.lt_succ_self _⟩
theorem ref03_label_w {p0 p1 p2 r} (hm : ref03_label p0 p1 p2 = some r) {w : World} :
    Calls Tryz.prog 288 [kv p0, .int .i64 p1, .int .i64 p2].toArray w fun e w' => ∃ v, e = .returned v ∧ (v = kv r ∧ Gr w w') := by
 unfold ref03_label at hm
 refine calls_of_sw 14 Tryz.func288 rfl rfl rfl<|qs 2 rfl<|qe rfl (ev_box (cs := kb p0) rfl rfl) ?_
 rintro _ w1 ⟨b1, rfl, hbw1, Bw1, G1⟩
 have z1 := G1.size
 have lt2 := Bw1.lt
 refine qe rfl (ev_alloc (cs := kb k0) zv_23 rfl) ?_
 rintro _ w2 ⟨b2, rfl, hbw2, Bw2, G2⟩
 have z3 := G2.size
 have lt4 := Bw2.lt
 refine qd 8 rfl ?_
 have B5 := (Bw1.gr G2)
 refine qv rfl (vv_loadW agg_23 rfl B5 rfl)<|qm rfl<|qv rfl (vv_cvIU cv_3_24 rfl)<|qe rfl (eC en_103 rfl (rderive_c p0 (un8 30#8) (un8_nn _) (un8_le _) (wd p1) _)) ?_
 rintro _ w3 ⟨rfl, G3⟩
 have z6 := G3.size
 refine qm rfl<|qm rfl ?_
 obtain ⟨x1, hx1, hm⟩ := bnd hm
 refine qe rfl (eC en_348 rfl (ref03_down_w hx1)) ?_
 rintro _ w4 ⟨rfl, G4⟩
 have z7 := G4.size
 have B8 := ((Bw2.gr G3).gr G4)
 refine qe rfl (ev_stW agg_23 rfl rfl rfl B8 rfl rfl) ?_
 rintro _ w5 ⟨Bw5, M5⟩
 have z9 := M5.size
 refine sd_done<|sw_ret ?_
 have X10 := ((((((Gr.refl w).trans G1).trans G2).trans G3).trans G4).md M5)
 cases hm
 refine ⟨_, _, rfl, res_1 rfl (rv_cellW agg_23 rfl Bw5 rfl), ?_⟩
 exact ⟨rfl, X10⟩
theorem ref03_KeyOf_w {p0 p1 p2 r} (hm : ref03_KeyOf p0 p1 p2 = some r) {w : World} :
    Calls Tryz.prog 181 [kv p0, .agg (TScheme.cs p1).toArray, .agg (TSubset.cs p2).toArray].toArray w fun e w' => ∃ v, e = .returned v ∧ (v = kv r ∧ Gr w w') := by
 unfold ref03_KeyOf at hm
 refine calls_of_sw 27 Tryz.func181 rfl rfl rfl<|qs 4 rfl<|qe rfl (ev_box (cs := kb p0) rfl rfl) ?_
 rintro _ w1 ⟨b1, rfl, hbw1, Bw1, G1⟩
 have z1 := G1.size
 have lt2 := Bw1.lt
 refine qe rfl (ev_box (cs := TScheme.cs p1) rfl rfl) ?_
 rintro _ w2 ⟨b2, rfl, hbw2, Bw2, G2⟩
 have z3 := G2.size
 have lt4 := Bw2.lt
 refine qe rfl (ev_box (cs := TSubset.cs p2) rfl rfl) ?_
 rintro _ w3 ⟨b3, rfl, hbw3, Bw3, G3⟩
 have z5 := G3.size
 have lt6 := Bw3.lt
 refine qe rfl (ev_alloc (cs := kb k0) zv_23 rfl) ?_
 rintro _ w4 ⟨b4, rfl, hbw4, Bw4, G4⟩
 have z7 := G4.size
 have lt8 := Bw4.lt
 refine sd_done<|sw_seq<|qs 3 rfl<|qv rfl (vv_fieldAddr fa_28_0 rfl) ?_
 have Y1 := Gr.trans G3 G4
 have B9 := (Bw2.gr Y1)
 refine qv rfl (vv_load1 (v := bv p1.Kind) one_5 rfl B9 rfl)<|qv rfl (vv_eqlB (p := p1.Kind) (q := 1#8) rfl rfl)<|sd_done<|sw_cond rfl (fun c1 => ?_) (fun c1 => ?_)
 · replace hm := iT c1 hm
   refine qs 6 rfl ?_
   have Y2 := Gr.trans G2 Y1
   have B10 := (Bw1.gr Y2)
   refine qv rfl (vv_loadW agg_23 rfl B10 rfl)<|qv rfl (vv_fieldAddr fa_171_0 rfl) ?_
   have B11 := (Bw3.gr G4)
   refine qv rfl (vv_load1 (v := .int .i64 p2.Node) one_3 rfl B11 rfl)<|qv rfl (vv_cvIU cv_3_24 rfl)<|qe rfl (eC en_103 rfl (rderive_c p0 (un8 30#8) (un8_nn _) (un8_le _) (wd p2.Node) _)) ?_
   rintro _ w5 ⟨rfl, G5⟩
   have z12 := G5.size
   have B13 := (Bw4.gr G5)
   refine qe rfl (ev_stW agg_23 rfl rfl rfl B13 rfl rfl) ?_
   rintro _ w6 ⟨Bw6, M6⟩
   have z14 := M6.size
   refine qb ?_
   have X15 := (((((Gr.refl w).trans G1).trans Y2).trans G5).md M6)
   cases hm
   refine ⟨_, _, rfl, res_1 rfl (rv_cellW agg_23 rfl Bw6 rfl), ?_⟩
   exact ⟨rfl, X15⟩
 replace hm := iF c1 hm
 refine qu<|sw_seq<|qs 3 rfl<|qv rfl (vv_fieldAddr fa_171_1 rfl) ?_
 have B16 := (Bw3.gr G4)
 refine qv rfl (vv_load1 (v := .int .i64 p2.Minus) one_3 rfl B16 rfl)<|qv rfl (vv_eql (a := p2.Minus) (b := 0) rfl rfl)<|sd_done<|sw_cond rfl (fun c2 => ?_) (fun c2 => ?_)
 · replace hm := iT c2 hm
   refine qs 3 rfl ?_
   have Y3 := Gr.trans G2 Y1
   have B17 := (Bw1.gr Y3)
   refine qv rfl (vv_loadW agg_23 rfl B17 rfl)<|qe rfl (eC en_103 rfl (rderive_c p0 (un8 34#8) (un8_nn _) (un8_le _) 0#64 _)) ?_
   rintro _ w7 ⟨rfl, G7⟩
   have z18 := G7.size
   have B19 := (Bw4.gr G7)
   refine qe rfl (ev_stW agg_23 rfl rfl rfl B19 rfl rfl) ?_
   rintro _ w8 ⟨Bw8, M8⟩
   have z20 := M8.size
   refine qb ?_
   have X21 := (((((Gr.refl w).trans G1).trans Y3).trans G7).md M8)
   cases hm
   refine ⟨_, _, rfl, res_1 rfl (rv_cellW agg_23 rfl Bw8 rfl), ?_⟩
   exact ⟨rfl, X21⟩
 replace hm := iF c2 hm
 refine qu<|qs 8 rfl ?_
 have Y4 := Gr.trans G2 Y1
 have B22 := (Bw1.gr Y4)
 refine qv rfl (vv_loadW agg_23 rfl B22 rfl)<|qv rfl (vv_fieldAddr fa_171_0 rfl)<|qv rfl (vv_load1 (v := .int .i64 p2.Node) one_3 rfl B16 rfl)<|qv rfl (vv_fieldAddr fa_171_1 rfl)<|qv rfl (vv_load1 (v := .int .i64 p2.Minus) one_3 rfl B16 rfl) ?_
 obtain ⟨x1, hx1, hm⟩ := bnd hm
 refine qe rfl (eC en_288 rfl (ref03_label_w hx1)) ?_
 rintro _ w9 ⟨rfl, G9⟩
 have z23 := G9.size
 refine qe rfl (eC en_103 rfl (rderive_c x1 (un8 33#8) (un8_nn _) (un8_le _) 0#64 _)) ?_
 rintro _ w10 ⟨rfl, G10⟩
 have z24 := G10.size
 have B25 := ((Bw4.gr G9).gr G10)
 refine qe rfl (ev_stW agg_23 rfl rfl rfl B25 rfl rfl) ?_
 rintro _ w11 ⟨Bw11, M11⟩
 have z26 := M11.size
 refine sd_done<|sw_ret ?_
 have X27 := ((((((Gr.refl w).trans G1).trans Y4).trans G9).trans G10).md M11)
 cases hm
 refine ⟨_, _, rfl, res_1 rfl (rv_cellW agg_23 rfl Bw11 rfl), ?_⟩
 exact ⟨rfl, X27⟩
theorem ref03_Seal_w {p0 p1 p2 p3 vp2 zp2 gp2 op2 r} (hm : ref03_Seal p0 p1 p2 p3 = some r) {w : World} (hp2 : Rd w zp2 gp2 op2 2 vp2 (p2.map TSubset.cs)) :
    Calls Tryz.prog 101 [kv p0, .agg (TScheme.cs p1).toArray, vp2, kv p3].toArray w fun e w' => ∃ v, e = .returned v ∧ (∃ ur0_0 zr0_0 gr0_0 ur0_2 zr0_2 gr0_2, v = .tuple [.agg (THeader.cs r.1 ur0_0 ur0_2).toArray, .int .i64 r.2].toArray ∧ Own w' zr0_0 gr0_0 173 18 ur0_0 (r.1.Items.map TItem.cs) ∧ Hdn (zr0_0 = 0 ∨ w.heap.size ≤ gr0_0) ∧ Own w' zr0_2 gr0_2 50 2 ur0_2 (r.1.Points.map TPoint.cs) ∧ Hdn (zr0_2 = 0 ∨ w.heap.size ≤ gr0_2) ∧ Hdn (zr0_2 = 0 ∨ zr0_0 = 0 ∨ gr0_2 ≠ gr0_0) ∧ Gr w w') := by
 have lt1 := hp2.lth
 unfold ref03_Seal at hm
 refine calls_of_sw 64 Tryz.func101 rfl rfl rfl<|qs 5 rfl<|qe rfl (ev_box (cs := kb p0) rfl rfl) ?_
 rintro _ w1 ⟨b1, rfl, hbw1, Bw1, G1⟩
 have z2 := G1.size
 have lt3 := Bw1.lt
 refine qe rfl (ev_box (cs := TScheme.cs p1) rfl rfl) ?_
 rintro _ w2 ⟨b2, rfl, hbw2, Bw2, G2⟩
 have z4 := G2.size
 have lt5 := Bw2.lt
 refine qe rfl (ev_box (cs := kb p3) rfl rfl) ?_
 rintro _ w3 ⟨b3, rfl, hbw3, Bw3, G3⟩
 have z6 := G3.size
 have lt7 := Bw3.lt
 refine qe rfl (ev_alloc (cs := THeader.cs (THeader.mk [] 0#64 [] k0 k0) (.slice none 0 0) (.slice none 0 0)) zv_36 rfl) ?_
 rintro _ w4 ⟨b4, rfl, hbw4, Bw4, G4⟩
 have z8 := G4.size
 have lt9 := Bw4.lt
 refine qm rfl<|sd_done<|sw_seq<|qs 3 rfl ?_
 have Y1 := Gr.trans G3 G4
 have B10 := (Bw2.gr Y1)
 refine qv rfl (vv_loadW agg_28 rfl B10 rfl) ?_
 obtain ⟨x1, hx1, hm⟩ := bnd hm
 refine qe rfl (eC en_177 rfl (ref03_Valid_w hx1)) ?_
 rintro _ w5 ⟨rfl, G5⟩
 have z11 := G5.size
 refine qv rfl (vv_not rfl)<|sd_done<|sw_cond rfl (fun c1 => ?_) (fun c1 => ?_)
 · replace hm := cnd_t c1 hm
   refine qs 3 rfl<|qv rfl (vv_build (cs := THeader.cs (THeader.mk [] 0#64 [] k0 k0) (.slice none 0 0) (.slice none 0 0)) bs_36 rfl (by kernel_rfl)) ?_
   have B12 := (Bw4.gr G5)
   refine qe rfl (ev_stW agg_36 rfl rfl (THeader.cs_ones _ _ _ rfl rfl) B12 rfl rfl) ?_
   rintro _ w6 ⟨Bw6, M6⟩
   have z13 := M6.size
   refine qm rfl<|qb ?_
   have Y2 := Gr.trans (Gr.trans (Gr.trans G1 G2) Y1) G5
   have X14 := (((Gr.refl w).trans Y2).md M6)
   cases hm
   refine ⟨_, _, rfl, res_2 rfl (rv_cellW agg_36 rfl Bw6 rfl) (rv_tmp rfl), ?_⟩
   exact ⟨(.slice none 0 0), 0, 0, (.slice none 0 0), 0, 0, rfl, (own_nil _ 0 173 18), ⟨.inl rfl⟩, (own_nil _ 0 50 2), ⟨.inl rfl⟩, ⟨(.inl rfl)⟩, X14⟩
 replace hm := cnd_f c1 hm
 refine qu<|sw_seq<|qs 3 rfl<|qm rfl ?_
 have Y3 := Gr.trans (Gr.trans (Gr.trans G1 G2) Y1) G5
 have B15 := (hp2.gr Y3)
 refine qv rfl (vv_lenT (l := p2) (c := TSubset.cs) Tryz.underlying202 rfl B15)<|qv rfl (vv_gtr (a := (p2.length : Int)) (b := 64) rfl rfl)<|sd_done<|sw_cond rfl (fun c2 => ?_) (fun c2 => ?_)
 · replace hm := iT c2 hm
   refine qs 3 rfl<|qv rfl (vv_build (cs := THeader.cs (THeader.mk [] 0#64 [] k0 k0) (.slice none 0 0) (.slice none 0 0)) bs_36 rfl (by kernel_rfl)) ?_
   have B16 := (Bw4.gr G5)
   refine qe rfl (ev_stW agg_36 rfl rfl (THeader.cs_ones _ _ _ rfl rfl) B16 rfl rfl) ?_
   rintro _ w7 ⟨Bw7, M7⟩
   have z17 := M7.size
   refine qm rfl<|qb ?_
   have X18 := (((Gr.refl w).trans Y3).md M7)
   cases hm
   refine ⟨_, _, rfl, res_2 rfl (rv_cellW agg_36 rfl Bw7 rfl) (rv_tmp rfl), ?_⟩
   exact ⟨(.slice none 0 0), 0, 0, (.slice none 0 0), 0, 0, rfl, (own_nil _ 0 173 18), ⟨.inl rfl⟩, (own_nil _ 0 50 2), ⟨.inl rfl⟩, ⟨(.inl rfl)⟩, X18⟩
 replace hm := iF c2 hm
 refine qu<|sw_seq<|qs 1 rfl<|qm rfl<|sd_done ?_
 refine sw_block ?_
 have X19 := ((Gr.refl w).trans Y3)
 refine sw_loopD (α := Nat × Int) ([9, 10] ++ rg 21 14) (fun ⟨n1, a3⟩ => [(9, .int .i64 0), (10, .int .i64 a3)]) (fun ⟨n1, a3⟩ wr => (fixN (ref03_Seal_L1 p0 p1 p2 p3) n1 a3 = some r) ∧ Kz [] w5 wr) (fun ⟨n1, a3⟩ => n1) ⟨FUEL, 0⟩ ?_ ?_ ?_
 · exact sbq
 · exact ⟨hm, Kz.refl _ _⟩
 clear hm; rintro ⟨n1, a3⟩ w8 ⟨hm, K8⟩
 have z20 := K8.size
 have hb := fix_succ hm; clear hm; obtain ⟨n1, rfl, hm⟩ := hb
 generalize hrec1 : fixN (ref03_Seal_L1 p0 p1 p2 p3) n1 = rec1 at hm
 unfold ref03_Seal_L1 at hm
 try dsimp only at hm
 refine sw_seq<|qs 4 rfl<|qm rfl<|qm rfl ?_
 have B21 := (B15.kz K8)
 refine qv rfl (vv_lenT (l := p2) (c := TSubset.cs) Tryz.underlying202 rfl B21)<|qv rfl (vv_lss (a := a3) (b := (p2.length : Int)) rfl rfl)<|sd_done<|sw_cond rfl (fun c3 => ?_) (fun c3 => ?_)
 · replace hm := iT c3 hm
   refine qu<|sw_seq<|sw_block<|sw_seq<|dw [([])] [] (.leaf [(0,10),(1,10),(2,10),(3,10),(4,10),(5,0),(6,10)]) ?_
   intro w9 G9 zw9
   refine sdz_leaf ?_
   have B22 := (((B10.gr G5).kz K8).gr G9)
   refine dh 0 rfl rfl (fun w hS => vv_loadW agg_28 rfl (Bx.kp B22 hS) rfl)<|dm 0 rfl rfl<|dm 0 rfl rfl ?_
   obtain ⟨y4, hy4, hm⟩ := bnd hm
   have B23 := (B21.gr G9)
   refine dh 0 rfl rfl (fun w hS => vv_ixT (i := a3) Tryz.underlying202 (agg_171).siz rfl (Rd.kp B23 hS) rfl hy4)<|dh 0 rfl rfl (fun w hS => vv_elWT agg_171 rfl (Rd.kp B23 hS) hy4 (by first | rfl | omega)) ?_
   obtain ⟨x5, hx5, hm⟩ := bnd hm
   refine qz [] rfl (eC en_179 rfl (ref03_IsSubset_w hx5)) ⟨fun _ => tk0, trivial⟩ ?_
   rintro _ w10 ⟨rfl, G10⟩
   have z24 := G10.size
   refine kG G10 ?_
   have S25 := ((Kp.refl ([]) w9).gr G10)
   refine qh 0 rfl rfl S25 (fun w hS => vv_not rfl)<|sd_done<|cnF rfl (fun c4 => ?_) (fun c4 => ?_)
   · replace hm := cnd_f c4 hm
     refine sw_skip<|block_n<|then_n<|qg 3 rfl<|qm rfl<|qv rfl (vv_add (k := .i64) (a := a3) (b := 1) rfl rfl)<|qm rfl ?_
     refine sd_nil ?_
     have K_29 : Kz [] w5 w10 := ((K8.gr G9).gr G10)
     subst hrec1
     exact ⟨rfl, ⟨n1, w64 (a3 + 1)⟩, sbq, ⟨hm, K_29⟩, Nat.lt_succ_self _⟩
   replace hm := cnd_t c4 hm
   refine qs 3 rfl<|qv rfl (vv_build (cs := THeader.cs (THeader.mk [] 0#64 [] k0 k0) (.slice none 0 0) (.slice none 0 0)) bs_36 rfl (by kernel_rfl)) ?_
   have B26 := ((((Bw4.gr G5).kz K8).gr G9).gr G10)
   refine qe rfl (ev_stW agg_36 rfl rfl (THeader.cs_ones _ _ _ rfl rfl) B26 rfl rfl) ?_
   rintro _ w11 ⟨Bw11, M11⟩
   have z27 := M11.size
   refine qm rfl<|sd_done<|sw_ret<|block_r<|then_r<|then_r<|block_r ?_
   refine then_r ?_
   have X28 := ((((X19.kz K8).trans G9).trans G10).md M11)
   cases hm
   refine ⟨_, _, rfl, res_2 rfl (rv_cellW agg_36 rfl Bw11 rfl) (rv_tmp rfl), ?_⟩
   exact ⟨(.slice none 0 0), 0, 0, (.slice none 0 0), 0, 0, rfl, (own_nil _ 0 173 18), ⟨.inl rfl⟩, (own_nil _ 0 50 2), ⟨.inl rfl⟩, ⟨(.inl rfl)⟩, X28⟩
 replace hm := iF c3 hm
 refine sw_exit<|then_x<|then_x<|block_x<|then_n<|qs 5 rfl ?_
 have Y4 := Gr.trans G4 G5
 have B30 := ((Bw3.gr Y4).kz K8)
 refine qv rfl (vv_loadW agg_23 rfl B30 rfl)<|qe rfl (eC en_103 rfl (rderive_c p3 (un8 53#8) (un8_nn _) (un8_le _) 0#64 _)) ?_
 rintro _ w12 ⟨rfl, G12⟩
 have z31 := G12.size
 refine qv rfl (vv_build (cs := THeader.cs (THeader.mk [] 0#64 [] k0 (drv p3 (un8 53#8) 0#64)) (.slice none 0 0) (.slice none 0 0)) bs_36 rfl (by obtain ⟨kk0, hk0⟩ := ex_of (drv p3 (un8 53#8) 0#64); rw [← hk0]; exact (fill_M rfl rfl rfl (by kernel_rfl))))<|qe rfl (ev_alloc (cs := THeader.cs (THeader.mk [] 0#64 [] k0 k0) (.slice none 0 0) (.slice none 0 0)) zv_36 rfl) ?_
 rintro _ w13 ⟨b13, rfl, hbw13, Bw13, G13⟩
 have z32 := G13.size
 have lt33 := Bw13.lt
 refine qe rfl (ev_stW agg_36 rfl rfl (THeader.cs_ones _ _ _ rfl rfl) Bw13 rfl rfl) ?_
 rintro _ w14 ⟨Bw14, M14⟩
 have z34 := M14.size
 refine sd_done<|sw_seq<|qs 1 rfl<|qm rfl<|sd_done<|sw_block ?_
 have Y5 := Gr.trans G12 G13
 have X35 := (((X19.kz K8).trans Y5).md M14)
 have B36 := ((B21.gr Y5).md M14 (pb_lt lt1))
 refine sw_loopD (α := Nat × Int × List TItem × Value × Nat × Nat) ([12] ++ rg 38 25) (fun ⟨n2, a9, a10, vy11, zy11, gy11⟩ => [(12, .int .i64 a9)]) (fun ⟨n2, a9, a10, vy11, zy11, gy11⟩ wr => (fixN (ref03_Seal_L2 p0 p1 p2 p3) n2 (a9, a10) = some r) ∧ Own wr zy11 gy11 173 18 vy11 (a10.map TItem.cs) ∧ Hdn (zy11 = 0 ∨ w14.heap.size ≤ gy11) ∧ Bx wr b13 36 (THeader.cs (THeader.mk a10 0#64 [] k0 (drv p3 (un8 53#8) 0#64)) vy11 (.slice none 0 0)) ∧ Kz [(1, b13)] w14 wr) (fun ⟨n2, a9, a10, vy11, zy11, gy11⟩ => n2) ⟨FUEL, 0, [], (.slice none 0 0), 0, 0⟩ ?_ ?_ ?_
 · exact sbq
 · exact ⟨hm, (own_nil _ 0 173 18), ⟨(.inl rfl)⟩, Bw14, Kz.refl _ _⟩
 clear hm; rintro ⟨n2, a9, a10, vy11, zy11, gy11⟩ w15 ⟨hm, Fw15_0, Fw15_1, Fw15_2, K15⟩
 have z37 := K15.size
 have lt38 := Fw15_0.lth
 have lt39 := Fw15_2.lt
 have hb := fix_succ hm; clear hm; obtain ⟨n2, rfl, hm⟩ := hb
 generalize hrec2 : fixN (ref03_Seal_L2 p0 p1 p2 p3) n2 = rec2 at hm
 unfold ref03_Seal_L2 at hm
 try dsimp only at hm
 refine sw_seq<|qs 4 rfl<|qm rfl<|qm rfl ?_
 have B40 := (B36.kz K15 (tk1 (pb_lt (b := b13) lt1)))
 refine qv rfl (vv_lenT (l := p2) (c := TSubset.cs) Tryz.underlying202 rfl B40)<|qv rfl (vv_lss (a := a9) (b := (p2.length : Int)) rfl rfl)<|sd_done<|cnF rfl (fun c5 => ?_) (fun c5 => ?_)
 · replace hm := iF c5 hm
   refine sw_exit<|then_x<|then_x<|block_x<|then_n<|qs 3 rfl ?_
   refine qv rfl (vv_loadW agg_36 rfl Fw15_2 rfl) ?_
   have B58 := (((((Bw4.gr G5).kz K8).gr Y5).md M14).kz K15)
   refine qe rfl (ev_stW agg_36 rfl rfl (THeader.cs_ones _ _ _ (Own.oneB Fw15_0) rfl) B58 rfl rfl) ?_
   rintro _ w22 ⟨Bw22, M22⟩
   have z59 := M22.size
   refine qm rfl<|sd_done<|sw_ret ?_
   have B60 := (Fw15_0.md M22 (pb_0 Fw15_1))
   have X61 := ((X35.kz K15).md M22)
   cases hm
   refine ⟨_, _, rfl, res_2 rfl (rv_cellW agg_36 rfl Bw22 rfl) (rv_tmp rfl), ?_⟩
   exact ⟨vy11, zy11, gy11, (.slice none 0 0), 0, 0, rfl, B60, ⟨(pv_0 (A := (fun x => w.heap.size ≤ x)) Fw15_1)⟩, (own_nil _ 0 50 2), ⟨.inl rfl⟩, ⟨(.inl rfl)⟩, X61⟩
 replace hm := iT c5 hm
 refine qu<|sw_seq<|sw_block<|dw [([b13] ++ zf zy11 gy11),([] ++ zf zy11 gy11)] [(19, [1])] (.leaf [(0,10),(1,11),(2,10),(3,10),(4,10),(5,10),(6,10),(7,10),(8,10),(9,10),(10,10),(11,10),(13,10),(12,0),(14,0),(15,10),(16,0),(17,0),(18,10),(19,0)]) ?_
 intro w16 G16 zw16
 refine sdz_leaf<|qh 0 rfl rfl (Kp.refl ([b13] ++ zf zy11 gy11) w16) (fun w hS => vv_fieldAddr fa_36_0 rfl) ?_
 have B41 := (Fw15_2.gr G16)
 refine qh 1 rfl rfl (Kp.refl ([] ++ zf zy11 gy11) w16) (fun w hS => vv_load1 (v := vy11) one_33 rfl (Bx.kp B41 hS (tk1 (pb_0 (b := b13) Fw15_1))) rfl)<|dn 0 rfl rfl (Kp.refl ([b13] ++ zf zy11 gy11) w16)<|dn 0 rfl rfl (Kp.refl ([b13] ++ zf zy11 gy11) w16) ?_
 obtain ⟨y12, hy12, hm⟩ := bnd hm
 have B42 := (B40.gr G16)
 refine qh 0 rfl rfl (Kp.refl ([b13] ++ zf zy11 gy11) w16) (fun w hS => vv_ixT (i := a9) Tryz.underlying202 (agg_171).siz rfl (Rd.kp B42 hS (tk2 (pb_lt (b := b13) lt1) ((pv_sw (pv_0 (A := (fun x => zp2 = 0 ∨ x ≠ gp2)) Fw15_1 (fun x hx => (tk1 lt1.o)))) : zp2 = 0 ∨ zy11 = 0 ∨ gp2 ≠ gy11))) rfl hy12)<|qh 0 rfl rfl (Kp.refl ([b13] ++ zf zy11 gy11) w16) (fun w hS => vv_elWT agg_171 rfl (Rd.kp B42 hS (tk2 (pb_lt (b := b13) lt1) ((pv_sw (pv_0 (A := (fun x => zp2 = 0 ∨ x ≠ gp2)) Fw15_1 (fun x hx => (tk1 lt1.o)))) : zp2 = 0 ∨ zy11 = 0 ∨ gp2 ≠ gy11))) hy12 (by first | rfl | omega)) ?_
 have Y6 := Gr.trans (Gr.trans G2 Y1) G5
 have B43 := ((((((Bw1.gr Y6).kz K8).gr Y5).md M14).kz K15).gr G16)
 refine qh 0 rfl rfl (Kp.refl ([b13] ++ zf zy11 gy11) w16) (fun w hS => vv_loadW agg_23 rfl (Bx.kp B43 hS (tk1 (pb_0 (b := b1) Fw15_1))) rfl) ?_
 have B44 := ((((((B10.gr G5).kz K8).gr Y5).md M14).kz K15).gr G16)
 refine qh 0 rfl rfl (Kp.refl ([b13] ++ zf zy11 gy11) w16) (fun w hS => vv_loadW agg_28 rfl (Bx.kp B44 hS (tk1 (pb_0 (b := b2) Fw15_1))) rfl)<|dn 0 rfl rfl (Kp.refl ([b13] ++ zf zy11 gy11) w16)<|dn 0 rfl rfl (Kp.refl ([b13] ++ zf zy11 gy11) w16) ?_
 obtain ⟨y13, hy13, hm⟩ := bnd hm
 refine qh 0 rfl rfl (Kp.refl ([b13] ++ zf zy11 gy11) w16) (fun w hS => vv_ixT (i := a9) Tryz.underlying202 (agg_171).siz rfl (Rd.kp B42 hS (tk2 (pb_lt (b := b13) lt1) ((pv_sw (pv_0 (A := (fun x => zp2 = 0 ∨ x ≠ gp2)) Fw15_1 (fun x hx => (tk1 lt1.o)))) : zp2 = 0 ∨ zy11 = 0 ∨ gp2 ≠ gy11))) rfl hy13)<|qh 0 rfl rfl (Kp.refl ([b13] ++ zf zy11 gy11) w16) (fun w hS => vv_elWT agg_171 rfl (Rd.kp B42 hS (tk2 (pb_lt (b := b13) lt1) ((pv_sw (pv_0 (A := (fun x => zp2 = 0 ∨ x ≠ gp2)) Fw15_1 (fun x hx => (tk1 lt1.o)))) : zp2 = 0 ∨ zy11 = 0 ∨ gp2 ≠ gy11))) hy13 (by first | rfl | omega)) ?_
 have B45 := ((((B30.gr Y5).md M14).kz K15).gr G16)
 refine qh 0 rfl rfl (Kp.refl ([b13] ++ zf zy11 gy11) w16) (fun w hS => vv_loadW agg_23 rfl (Bx.kp B45 hS (tk1 (pb_0 (b := b3) Fw15_1))) rfl) ?_
 obtain ⟨x14, hx14, hm⟩ := bnd hm
 refine qz [] rfl (eC en_181 rfl (ref03_KeyOf_w hx14)) ⟨fun _ => tk0, fun _ => tk0, trivial⟩ ?_
 rintro _ w17 ⟨rfl, G17⟩
 have z46 := G17.size
 refine kG G17<|qz [] rfl (eC en_180 rfl (rencr_c x14 p3 _)) ⟨fun _ => tk0, fun _ => tk0, trivial⟩ ?_
 rintro _ w18 ⟨rfl, G18⟩
 have z47 := G18.size
 refine kG G18 ?_
 have Y7 := Gr.trans G17 G18
 have S48 := ((Kp.refl ([b13] ++ zf zy11 gy11) w16).gr Y7)
 refine qh 0 rfl rfl S48 (fun w hS => vv_build (cs := TItem.cs (TItem.mk y12 (encr x14 p3))) bs_173 rfl (by obtain ⟨kk0, hk0⟩ := ex_of (encr x14 p3); rw [← hk0]; exact (fill_M rfl rfl rfl (fill_M rfl rfl rfl (by kernel_rfl)))))<|qz [] rfl (ev_litT [(TItem.mk y12 (encr x14 p3))] TItem.cs bsl_33_1 rfl rfl (ws_of rfl) rfl rfl rfl) ⟨fun _ => tk0, fun _ => tk0, trivial⟩ ?_
 rintro vw19 w19 ⟨gw19, hbw19, Ow19, G19⟩
 have z49 := G19.size
 have lt50 := Ow19.lth
 refine kG G19 ?_
 have B51 := (((Fw15_0.gr G16).gr Y7).gr G19)
 obtain ⟨l15, hl15, hm⟩ := bnd hm
 refine qz [(zy11, gy11)] rfl (ev_appT (l := a10) (m := [(TItem.mk y12 (encr x14 p3))]) (c := TItem.cs) apt_33 rfl rfl B51 (Own.rd Ow19) hl15 (by decide)) ⟨fun _ => (tk1 (tk0 : zy11 = 0 ∨ (gy11 = gy11 ∧ zy11 ≠ 0) ∨ w16.heap.size ≤ gy11)), fun _ => (tk1 (tk0 : zy11 = 0 ∨ (gy11 = gy11 ∧ zy11 ≠ 0) ∨ w16.heap.size ≤ gy11)), trivial⟩ ?_
 rintro vw20 w20 ⟨zw20, gw20, Ow20, Aw20, qw20, rw20⟩
 have z52 := Aw20.size
 refine ⟨Kz.ofKa Aw20, ?_⟩
 have S53 := ((S48.gr G19).ka Aw20 (tk1 (tk0 : zy11 = 0 ∨ (gy11 = gy11 ∧ zy11 ≠ 0) ∨ w16.heap.size ≤ gy11)))
 refine qh 0 rfl rfl S53 (fun w hS => vv_fieldAddr fa_36_0 rfl) ?_
 have B54 := (((B41.gr Y7).gr G19).ka Aw20 (tk1 (pb_0 (b := b13) Fw15_1)))
 refine qz [(1, b13)] rfl (ev_st1 (cs' := THeader.cs (THeader.mk l15 0#64 [] k0 (drv p3 (un8 53#8) 0#64)) vw20 (.slice none 0 0)) (one_33).siz rfl rfl (Own.oneB Ow20) B54 rfl rfl) ⟨fun _ => tk0, nofun, trivial⟩ ?_
 rintro _ w21 ⟨Bw21, M21⟩
 have z55 := M21.size
 refine kM M21<|sd_nil<|block_n<|then_n<|qg 3 rfl<|qm rfl<|qv rfl (vv_add (k := .i64) (a := a9) (b := 1) rfl rfl) ?_
 refine qm rfl<|sd_nil ?_
 have K_56 : Kz [(1, b13)] w14 w21 := (((((K15.gr G16).gr Y7).gr G19).ka Aw20 (tk1 (pv_0 (A := (fun x => w14.heap.size ≤ x)) Fw15_1))).md M21)
 have B57 := (Ow20.md M21 (pb_app rw20 (pb_0 Fw15_1)))
 subst hrec2
 exact ⟨rfl, ⟨n2, w64 (a9 + 1), l15, vw20, zw20, gw20⟩, sbq, ⟨hm, B57, ⟨(pv_app (A := (fun x => w14.heap.size ≤ x)) rw20 (pv_0 (A := (fun x => w14.heap.size ≤ x)) Fw15_1))⟩, Bw21, K_56⟩, Nat.lt_succ_self _⟩
end Go.Proofs.YtgdojjniakpadaaGreat.Mx
