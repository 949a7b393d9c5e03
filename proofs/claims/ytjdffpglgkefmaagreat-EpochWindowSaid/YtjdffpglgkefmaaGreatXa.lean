/- Walks that follow mirrors: Xa. Printed by mx.py. -/
import Derived.Test.YtjdffpglgkefmaaGreatZc
import Derived.Test.YtjdffpglgkefmaaGreatZd
import Derived.Test.YtjdffpglgkefmaaGreatChecked
import Derived.Test.YtjdffpglgkefmaaGreatZe
set_option linter.unusedVariables false
set_option linter.unusedSimpArgs false
set_option maxRecDepth 100000
set_option maxHeartbeats 2000000
namespace Go.Proofs.YtjdffpglgkefmaaGreat.Mx
open Go Go.RowKit Go.Sx
theorem agg_28 : Agg Tryz.prog 28 6 := fun _ => ⟨by kernel_rfl, by kernel_rfl⟩
theorem zv_175 : ZV Tryz.prog 175 (.agg [.int .u8 0, .int .i64 0, .int .i64 0].toArray) := fun _ => by kernel_rfl
theorem fa_28_0 : FA Tryz.prog 28 0 0 := fun _ _ _ => by kernel_rfl
theorem one_5 : One Tryz.prog 5 := fun _ => ⟨by kernel_rfl, by kernel_rfl⟩
theorem fa_28_1 : FA Tryz.prog 28 1 1 := fun _ _ _ => by kernel_rfl
theorem one_3 : One Tryz.prog 3 := fun _ => ⟨by kernel_rfl, by kernel_rfl⟩
theorem zv_28 : ZV Tryz.prog 28 (.agg [.int .u8 0, .int .i64 0, .int .i64 0, .int .u64 0, .int .u64 0, .int .u64 0].toArray) := fun _ => by kernel_rfl
theorem agg_26 : Agg Tryz.prog 26 3 := fun _ => ⟨by kernel_rfl, by kernel_rfl⟩
theorem bs_28 : BS Tryz.prog 28 (fun i => [(0, 1), (1, 1), (2, 1), (3, 3)][i]?) [.int .u8 0, .int .i64 0, .int .i64 0, .int .u64 0, .int .u64 0, .int .u64 0] := bs_mk Tryz.underlying28 zv_28 ⟨rfl, (one_5).siz, rfl, (one_3).siz, rfl, (one_3).siz, rfl, (agg_26).siz, trivial⟩
theorem one_24 : One Tryz.prog 24 := fun _ => ⟨by kernel_rfl, by kernel_rfl⟩
theorem eqc_24 : EqC Tryz.prog 1 24 [.i .u64] := eqc_int Tryz.underlying24 one_24
theorem eqc_26 : EqC Tryz.prog 2 26 [.i .u64, .i .u64, .i .u64] := eqc_struct Tryz.underlying26 (by kernel_rfl) agg_26 (show EqF _ 1 _ _ _ from (eqf_cons (ks1 := [.i .u64]) (ks2 := [.i .u64, .i .u64]) rfl (by simp) (eqc_24.up (by decide)) (eqf_cons (ks1 := [.i .u64]) (ks2 := [.i .u64]) rfl (by simp) (eqc_24.up (by decide)) (eqf_cons (ks1 := [.i .u64]) (ks2 := []) rfl (by simp) (eqc_24.up (by decide)) (eqf_nil _)))))
theorem eqc_3 : EqC Tryz.prog 1 3 [.i .i64] := eqc_int Tryz.underlying3 one_3
theorem eqc_5 : EqC Tryz.prog 1 5 [.i .u8] := eqc_int Tryz.underlying5 one_5
theorem eqc_28 : EqC Tryz.prog 3 28 [.i .u8, .i .i64, .i .i64, .i .u64, .i .u64, .i .u64] := eqc_struct Tryz.underlying28 (by kernel_rfl) agg_28 (show EqF _ 2 _ _ _ from (eqf_cons (ks1 := [.i .u8]) (ks2 := [.i .i64, .i .i64, .i .u64, .i .u64, .i .u64]) rfl (by simp) (eqc_5.up (by decide)) (eqf_cons (ks1 := [.i .i64]) (ks2 := [.i .i64, .i .u64, .i .u64, .i .u64]) rfl (by simp) (eqc_3.up (by decide)) (eqf_cons (ks1 := [.i .i64]) (ks2 := [.i .u64, .i .u64, .i .u64]) rfl (by simp) (eqc_3.up (by decide)) (eqf_cons (ks1 := [.i .u64, .i .u64, .i .u64]) (ks2 := []) rfl (by simp) (eqc_26.up (by decide)) (eqf_nil _))))))
theorem eqt_28 : EqT Tryz.prog 28 [.i .u8, .i .i64, .i .i64, .i .u64, .i .u64, .i .u64] := ⟨by kernel_rfl, agg_28, 3, by decide, eqc_28⟩
theorem bs_175 : BS Tryz.prog 175 (fun i => [(0, 1), (1, 1), (2, 1)][i]?) [.int .u8 0, .int .i64 0, .int .i64 0] := bs_mk Tryz.underlying175 zv_175 ⟨rfl, (one_5).siz, rfl, (one_3).siz, rfl, (one_3).siz, trivial⟩
theorem agg_175 : Agg Tryz.prog 175 3 := fun _ => ⟨by kernel_rfl, by kernel_rfl⟩
theorem fa_175_2 : FA Tryz.prog 175 2 2 := fun _ _ _ => by kernel_rfl
theorem fa_175_1 : FA Tryz.prog 175 1 1 := fun _ _ _ => by kernel_rfl
theorem en_187 : En Tryz.prog 187 := fun _ _ => by kernel_rfl
theorem zv_33 : ZV Tryz.prog 33 (.agg [.int .i64 0, .slice none 0 0, .int .u64 0, .int .u64 0].toArray) := fun _ => by kernel_rfl
theorem agg_131 : Agg Tryz.prog 131 2 := fun _ => ⟨by kernel_rfl, by kernel_rfl⟩
theorem zv_131 : ZV Tryz.prog 131 (.agg [.int .i64 0, .int .i64 0].toArray) := fun _ => by kernel_rfl
theorem fa_131_0 : FA Tryz.prog 131 0 0 := fun _ _ _ => by kernel_rfl
theorem fa_131_1 : FA Tryz.prog 131 1 1 := fun _ _ _ => by kernel_rfl
theorem en_189 : En Tryz.prog 189 := fun _ _ => by kernel_rfl
theorem en_198 : En Tryz.prog 198 := fun _ _ => by kernel_rfl
theorem fa_175_0 : FA Tryz.prog 175 0 0 := fun _ _ _ => by kernel_rfl
theorem cv_180_150 : CV Tryz.prog 180 150 .u64 := fun _ _ _ => by kernel_rfl
theorem en_194 : En Tryz.prog 194 := fun _ _ => by kernel_rfl
theorem en_192 : En Tryz.prog 192 := fun _ _ => by kernel_rfl
theorem en_199 : En Tryz.prog 199 := fun _ _ => by kernel_rfl
theorem en_118 : En Tryz.prog 118 := fun _ _ => by kernel_rfl
theorem en_191 : En Tryz.prog 191 := fun _ _ => by kernel_rfl
theorem zv_180 : ZV Tryz.prog 180 (.int .i64 0) := fun _ => by kernel_rfl
theorem one_180 : One Tryz.prog 180 := fun _ => ⟨by kernel_rfl, by kernel_rfl⟩
theorem en_240 : En Tryz.prog 240 := fun _ _ => by kernel_rfl
theorem one_185 : One Tryz.prog 185 := fun _ => ⟨by kernel_rfl, by kernel_rfl⟩
theorem en_239 : En Tryz.prog 239 := fun _ _ => by kernel_rfl
theorem en_190 : En Tryz.prog 190 := fun _ _ => by kernel_rfl
theorem en_117 : En Tryz.prog 117 := fun _ _ => by kernel_rfl
theorem en_124 : En Tryz.prog 124 := fun _ _ => by kernel_rfl
theorem en_112 : En Tryz.prog 112 := fun _ _ => by kernel_rfl
theorem one_29 : One Tryz.prog 29 := fun _ => ⟨by kernel_rfl, by kernel_rfl⟩
theorem agg_31 : Agg Tryz.prog 31 2 := fun _ => ⟨by kernel_rfl, by kernel_rfl⟩
theorem bs_33 : BS Tryz.prog 33 (fun i => [(0, 1), (1, 1), (2, 2)][i]?) [.int .i64 0, .slice none 0 0, .int .u64 0, .int .u64 0] := bs_mk Tryz.underlying33 zv_33 ⟨rfl, (one_3).siz, rfl, (one_29).siz, rfl, (agg_31).siz, trivial⟩
theorem agg_33 : Agg Tryz.prog 33 4 := fun _ => ⟨by kernel_rfl, by kernel_rfl⟩
theorem en_188 : En Tryz.prog 188 := fun _ _ => by kernel_rfl
theorem en_202 : En Tryz.prog 202 := fun _ _ => by kernel_rfl
theorem en_114 : En Tryz.prog 114 := fun _ _ => by kernel_rfl
theorem one_301 : One Tryz.prog 301 := fun _ => ⟨by kernel_rfl, by kernel_rfl⟩
theorem en_116 : En Tryz.prog 116 := fun _ _ => by kernel_rfl
theorem bs_131 : BS Tryz.prog 131 (fun i => [(0, 1), (1, 1)][i]?) [.int .i64 0, .int .i64 0] := bs_mk Tryz.underlying131 zv_131 ⟨rfl, (one_3).siz, rfl, (one_3).siz, trivial⟩
theorem zv_92 : ZV Tryz.prog 92 (.agg [.int .i64 0, .int .i64 0, .int .u8 0, .int .u8 0, .int .u8 0, .int .u8 0, .int .u8 0, .int .u8 0, .int .u8 0, .int .u8 0, .int .u8 0, .int .u8 0, .int .u8 0, .int .u8 0, .int .u8 0, .int .u8 0, .int .u8 0, .int .u8 0].toArray) := fun _ => by kernel_rfl
theorem agg_23 : Agg Tryz.prog 23 16 := fun _ => ⟨by kernel_rfl, by kernel_rfl⟩
theorem bs_92 : BS Tryz.prog 92 (fun i => [(0, 1), (1, 1), (2, 16)][i]?) [.int .i64 0, .int .i64 0, .int .u8 0, .int .u8 0, .int .u8 0, .int .u8 0, .int .u8 0, .int .u8 0, .int .u8 0, .int .u8 0, .int .u8 0, .int .u8 0, .int .u8 0, .int .u8 0, .int .u8 0, .int .u8 0, .int .u8 0, .int .u8 0] := bs_mk Tryz.underlying92 zv_92 ⟨rfl, (one_3).siz, rfl, (one_3).siz, rfl, (agg_23).siz, trivial⟩
theorem agg_92 : Agg Tryz.prog 92 18 := fun _ => ⟨by kernel_rfl, by kernel_rfl⟩
theorem fa_92_0 : FA Tryz.prog 92 0 0 := fun _ _ _ => by kernel_rfl
theorem zv_23 : ZV Tryz.prog 23 (.agg [.int .u8 0, .int .u8 0, .int .u8 0, .int .u8 0, .int .u8 0, .int .u8 0, .int .u8 0, .int .u8 0, .int .u8 0, .int .u8 0, .int .u8 0, .int .u8 0, .int .u8 0, .int .u8 0, .int .u8 0, .int .u8 0].toArray) := fun _ => by kernel_rfl
theorem cv_180_24 : CV Tryz.prog 180 24 .u64 := fun _ _ _ => by kernel_rfl
theorem en_48 : En Tryz.prog 48 := fun _ _ => by kernel_rfl
theorem en_195 : En Tryz.prog 195 := fun _ _ => by kernel_rfl
theorem en_197 : En Tryz.prog 197 := fun _ _ => by kernel_rfl
theorem en_196 : En Tryz.prog 196 := fun _ _ => by kernel_rfl
theorem en_122 : En Tryz.prog 122 := fun _ _ => by kernel_rfl
theorem fa_92_2 : FA Tryz.prog 92 2 2 := fun _ _ _ => by kernel_rfl
theorem fa_33_1 : FA Tryz.prog 33 1 1 := fun _ _ _ => by kernel_rfl
theorem bsl_29_1 : BSl Tryz.prog 29 1 92 18 [.int .i64 0, .int .i64 0, .int .u8 0, .int .u8 0, .int .u8 0, .int .u8 0, .int .u8 0, .int .u8 0, .int .u8 0, .int .u8 0, .int .u8 0, .int .u8 0, .int .u8 0, .int .u8 0, .int .u8 0, .int .u8 0, .int .u8 0, .int .u8 0] := bsl_mk Tryz.underlying29 (agg_92).siz zv_92 rfl rfl (by kernel_rfl)
theorem apt_29 : ApT Tryz.prog 29 92 18 32 := apt_mk Tryz.underlying29 rfl (by kernel_rfl)
theorem en_251 : En Tryz.prog 251 := fun _ _ => by kernel_rfl
theorem bz_23 : BZ Tryz.prog 23 (kv k0) := fun _ => by kernel_rfl
theorem fa_48_0 : FA Tryz.prog 48 0 0 := fun _ _ _ => by kernel_rfl
theorem one_45 : One Tryz.prog 45 := fun _ => ⟨by kernel_rfl, by kernel_rfl⟩
theorem fa_48_1 : FA Tryz.prog 48 1 1 := fun _ _ _ => by kernel_rfl
theorem fa_48_2 : FA Tryz.prog 48 2 2 := fun _ _ _ => by kernel_rfl
theorem one_46 : One Tryz.prog 46 := fun _ => ⟨by kernel_rfl, by kernel_rfl⟩
theorem fa_48_3 : FA Tryz.prog 48 3 3 := fun _ _ _ => by kernel_rfl
theorem eqc_23 : EqC Tryz.prog 2 23 [.i .u8, .i .u8, .i .u8, .i .u8, .i .u8, .i .u8, .i .u8, .i .u8, .i .u8, .i .u8, .i .u8, .i .u8, .i .u8, .i .u8, .i .u8, .i .u8] := eqc_array (ks := [.i .u8]) Tryz.underlying23 (infoE (by kernel_rfl)).choose_spec (by kernel_rfl) agg_23 eqc_5
theorem eqt_23 : EqT Tryz.prog 23 [.i .u8, .i .u8, .i .u8, .i .u8, .i .u8, .i .u8, .i .u8, .i .u8, .i .u8, .i .u8, .i .u8, .i .u8, .i .u8, .i .u8, .i .u8, .i .u8] := ⟨by kernel_rfl, agg_23, 2, by decide, eqc_23⟩
theorem agg_133 : Agg Tryz.prog 133 18 := fun _ => ⟨by kernel_rfl, by kernel_rfl⟩
theorem fa_133_0 : FA Tryz.prog 133 0 0 := fun _ _ _ => by kernel_rfl
theorem en_123 : En Tryz.prog 123 := fun _ _ => by kernel_rfl
theorem en_200 : En Tryz.prog 200 := fun _ _ => by kernel_rfl
theorem en_125 : En Tryz.prog 125 := fun _ _ => by kernel_rfl
theorem zv_133 : ZV Tryz.prog 133 (.agg [.int .i64 0, .int .i64 0, .int .u8 0, .int .u8 0, .int .u8 0, .int .u8 0, .int .u8 0, .int .u8 0, .int .u8 0, .int .u8 0, .int .u8 0, .int .u8 0, .int .u8 0, .int .u8 0, .int .u8 0, .int .u8 0, .int .u8 0, .int .u8 0].toArray) := fun _ => by kernel_rfl
theorem fa_92_1 : FA Tryz.prog 92 1 1 := fun _ _ _ => by kernel_rfl
theorem en_201 : En Tryz.prog 201 := fun _ _ => by kernel_rfl
theorem en_126 : En Tryz.prog 126 := fun _ _ => by kernel_rfl
theorem fa_133_1 : FA Tryz.prog 133 1 2 := fun _ _ _ => by kernel_rfl
theorem en_111 : En Tryz.prog 111 := fun _ _ => by kernel_rfl
theorem fa_48_4 : FA Tryz.prog 48 4 19 := fun _ _ _ => by kernel_rfl
theorem en_113 : En Tryz.prog 113 := fun _ _ => by kernel_rfl
theorem bsl_107_1 : BSl Tryz.prog 107 1 131 2 [.int .i64 0, .int .i64 0] := bsl_mk Tryz.underlying107 (agg_131).siz zv_131 rfl rfl (by kernel_rfl)
theorem mpt_179 : MpT Tryz.prog 179 180 4 := ⟨Tryz.underlying179, Tryz.underlying180, fun _ => by kernel_rfl⟩
theorem zv_107 : ZV Tryz.prog 107 (.slice none 0 0) := fun _ => by kernel_rfl
theorem one_107 : One Tryz.prog 107 := fun _ => ⟨by kernel_rfl, by kernel_rfl⟩
theorem apt_107 : ApT Tryz.prog 107 131 2 16 := apt_mk Tryz.underlying107 rfl (by kernel_rfl)
theorem en_115 : En Tryz.prog 115 := fun _ _ => by kernel_rfl
theorem en_119 : En Tryz.prog 119 := fun _ _ => by kernel_rfl
theorem zv_48 : ZV Tryz.prog 48 (.agg [.slice none 0 0, .int .u64 0, .slice none 0 0, .int .u8 0, .int .u8 0, .int .u8 0, .int .u8 0, .int .u8 0, .int .u8 0, .int .u8 0, .int .u8 0, .int .u8 0, .int .u8 0, .int .u8 0, .int .u8 0, .int .u8 0, .int .u8 0, .int .u8 0, .int .u8 0, .int .u8 0, .int .u8 0, .int .u8 0, .int .u8 0, .int .u8 0, .int .u8 0, .int .u8 0, .int .u8 0, .int .u8 0, .int .u8 0, .int .u8 0, .int .u8 0, .int .u8 0, .int .u8 0, .int .u8 0, .int .u8 0].toArray) := fun _ => by kernel_rfl
theorem en_121 : En Tryz.prog 121 := fun _ _ => by kernel_rfl
theorem bs_48 : BS Tryz.prog 48 (fun i => [(0, 1), (1, 1), (2, 1), (3, 16), (19, 16)][i]?) [.slice none 0 0, .int .u64 0, .slice none 0 0, .int .u8 0, .int .u8 0, .int .u8 0, .int .u8 0, .int .u8 0, .int .u8 0, .int .u8 0, .int .u8 0, .int .u8 0, .int .u8 0, .int .u8 0, .int .u8 0, .int .u8 0, .int .u8 0, .int .u8 0, .int .u8 0, .int .u8 0, .int .u8 0, .int .u8 0, .int .u8 0, .int .u8 0, .int .u8 0, .int .u8 0, .int .u8 0, .int .u8 0, .int .u8 0, .int .u8 0, .int .u8 0, .int .u8 0, .int .u8 0, .int .u8 0, .int .u8 0] := bs_mk Tryz.underlying48 zv_48 ⟨rfl, (one_45).siz, rfl, (one_24).siz, rfl, (one_46).siz, rfl, (agg_23).siz, rfl, (agg_23).siz, trivial⟩
theorem agg_48 : Agg Tryz.prog 48 35 := fun _ => ⟨by kernel_rfl, by kernel_rfl⟩
theorem en_96 : En Tryz.prog 96 := fun _ _ => by kernel_rfl
theorem bs_133 : BS Tryz.prog 133 (fun i => [(0, 2), (2, 16)][i]?) [.int .i64 0, .int .i64 0, .int .u8 0, .int .u8 0, .int .u8 0, .int .u8 0, .int .u8 0, .int .u8 0, .int .u8 0, .int .u8 0, .int .u8 0, .int .u8 0, .int .u8 0, .int .u8 0, .int .u8 0, .int .u8 0, .int .u8 0, .int .u8 0] := bs_mk Tryz.underlying133 zv_133 ⟨rfl, (agg_131).siz, rfl, (agg_23).siz, trivial⟩
theorem bsl_45_1 : BSl Tryz.prog 45 1 133 18 [.int .i64 0, .int .i64 0, .int .u8 0, .int .u8 0, .int .u8 0, .int .u8 0, .int .u8 0, .int .u8 0, .int .u8 0, .int .u8 0, .int .u8 0, .int .u8 0, .int .u8 0, .int .u8 0, .int .u8 0, .int .u8 0, .int .u8 0, .int .u8 0] := bsl_mk Tryz.underlying45 (agg_133).siz zv_133 rfl rfl (by kernel_rfl)
theorem apt_45 : ApT Tryz.prog 45 133 18 32 := apt_mk Tryz.underlying45 rfl (by kernel_rfl)
theorem cover_treeOf_w {p0 r} (hm : cover_treeOf p0 = some r) {w : World} :
    Calls Tryz.prog 187 [.agg (TScheme.cs p0).toArray].toArray w fun e w' => ∃ v, e = .returned v ∧ (v = .tuple [.agg (Tcover_tree.cs r.1).toArray, .bool r.2].toArray ∧ Gr w w') := by
 unfold cover_treeOf at hm
 refine calls_of_sw 51 Tryz.func187 rfl rfl rfl<|qs 3 rfl<|qe rfl (ev_box (cs := TScheme.cs p0) rfl rfl) ?_
 rintro _ w1 ⟨b1, rfl, hbw1, Bw1, G1⟩
 have z1 := G1.size
 have lt2 := Bw1.lt
 refine qe rfl (ev_alloc (cs := Tcover_tree.cs (Tcover_tree.mk 0#8 0 0)) zv_175 rfl) ?_
 rintro _ w2 ⟨b2, rfl, hbw2, Bw2, G2⟩
 have z3 := G2.size
 have lt4 := Bw2.lt
 refine qm rfl<|sd_done<|sw_seq ?_
 have X5 := (((Gr.refl w).trans G1).trans G2)
 refine qj (β := Bool) (rg 5 27) (fun a1 => [(31, .bool a1)]) (fun a1 wr => (cover_treeOf_J1 p0 a1 = some r) ∧ Kz [] w2 wr) ?_ ?_
 · refine qg 27 rfl<|qv rfl (vv_fieldAddr fa_28_0 rfl) ?_
   have B22 := (Bw1.gr G2)
   refine qv rfl (vv_load1 (v := bv p0.Kind) one_5 rfl B22 rfl)<|qv rfl (vv_lssB (p := p0.Kind) (q := 1#8) rfl rfl)<|qp rfl (vv_move rfl) (fun c3 => ?_) (fun c3 => ?_)
   · replace hm := iT c3 hm
     refine qk rfl<|qk rfl<|qk rfl<|qm rfl<|qm rfl<|qk rfl<|qk rfl ?_
     refine qk rfl<|qm rfl<|qm rfl<|qk rfl<|qk rfl<|qk rfl<|qm rfl ?_
     refine qm rfl<|qk rfl<|qk rfl<|qk rfl<|qk rfl<|qk rfl<|qk rfl ?_
     refine qk rfl<|qm rfl<|sd_nil ?_
     exact ⟨rfl, true, sbq, hm, kz0⟩
   replace hm := iF c3 hm
   refine qv rfl (vv_fieldAddr fa_28_0 rfl)<|qv rfl (vv_load1 (v := bv p0.Kind) one_5 rfl B22 rfl)<|qv rfl (vv_gtrB (p := p0.Kind) (q := 3#8) rfl rfl)<|qm rfl<|qp rfl (vv_move rfl) (fun c4 => ?_) (fun c4 => ?_)
   · replace hm := iT c4 hm
     refine qk rfl<|qk rfl<|qk rfl<|qm rfl<|qm rfl<|qk rfl<|qk rfl ?_
     refine qk rfl<|qm rfl<|qm rfl<|qk rfl<|qk rfl<|qk rfl<|qk rfl ?_
     refine qk rfl<|qk rfl<|qk rfl<|qm rfl<|sd_nil ?_
     exact ⟨rfl, true, sbq, hm, kz0⟩
   replace hm := iF c4 hm
   refine qv rfl (vv_fieldAddr fa_28_1 rfl)<|qv rfl (vv_load1 (v := .int .i64 p0.Depth) one_3 rfl B22 rfl)<|qv rfl (vv_lss (a := p0.Depth) (b := 0) rfl rfl)<|qm rfl<|qp rfl (vv_move rfl) (fun c5 => ?_) (fun c5 => ?_)
   · replace hm := iT c5 hm
     refine qk rfl<|qk rfl<|qk rfl<|qm rfl<|qm rfl<|qk rfl<|qk rfl ?_
     refine qk rfl<|qk rfl<|qk rfl<|qk rfl<|qk rfl<|qm rfl<|sd_nil ?_
     exact ⟨rfl, true, sbq, hm, kz0⟩
   replace hm := iF c5 hm
   refine qv rfl (vv_fieldAddr fa_28_1 rfl)<|qv rfl (vv_load1 (v := .int .i64 p0.Depth) one_3 rfl B22 rfl)<|qv rfl (vv_gtr (a := p0.Depth) (b := 6) rfl rfl)<|qm rfl<|qp rfl (vv_move rfl) (fun c6 => ?_) (fun c6 => ?_)
   · replace hm := iT c6 hm
     refine qk rfl<|qk rfl<|qk rfl<|qk rfl<|qk rfl<|qk rfl<|qk rfl ?_
     refine qm rfl<|sd_nil ?_
     exact ⟨rfl, true, sbq, hm, kz0⟩
   replace hm := iF c6 hm
   refine qv rfl (vv_loadW agg_28 rfl B22 rfl)<|qv rfl (vv_fieldAddr fa_28_0 rfl)<|qv rfl (vv_load1 (v := bv p0.Kind) one_5 rfl B22 rfl)<|qv rfl (vv_fieldAddr fa_28_1 rfl)<|qv rfl (vv_load1 (v := .int .i64 p0.Depth) one_3 rfl B22 rfl)<|qv rfl (vv_build (cs := TScheme.cs (TScheme.mk p0.Kind p0.Depth 0 (TGroup.mk 0#64 0#64 0#64))) bs_28 rfl rfl)<|qv rfl (vv_neqS (cf := TScheme.cs) (a := p0) (b := (TScheme.mk p0.Kind p0.Depth 0 (TGroup.mk 0#64 0#64 0#64))) eqt_28 rfl rfl rfl rfl (fun h => TScheme.cs_inj h)) ?_
   refine qm rfl<|sd_nil ?_
   exact ⟨rfl, (decide (p0 ≠ (TScheme.mk p0.Kind p0.Depth 0 (TGroup.mk 0#64 0#64 0#64)))), sbq, hm, kz0⟩
 clear hm; rintro a1 w3 ⟨hm, K3⟩
 have z6 := K3.size
 unfold cover_treeOf_J1 at hm
 refine sw_cond rfl (fun c1 => ?_) (fun c1 => ?_)
 · replace hm := cnd_t c1 hm
   refine qs 3 rfl<|qv rfl (vv_build (cs := Tcover_tree.cs (Tcover_tree.mk 0#8 0 0)) bs_175 rfl rfl) ?_
   have B7 := (Bw2.kz K3)
   refine qe rfl (ev_stW agg_175 rfl rfl rfl B7 rfl rfl) ?_
   rintro _ w4 ⟨Bw4, M4⟩
   have z8 := M4.size
   refine qm rfl<|qb ?_
   have X9 := ((X5.kz K3).md M4)
   cases hm
   refine ⟨_, _, rfl, res_2 rfl (rv_cellW agg_175 rfl Bw4 rfl) (rv_tmp rfl), ?_⟩
   exact ⟨rfl, X9⟩
 replace hm := cnd_f c1 hm
 refine qu<|qs 7 rfl<|qv rfl (vv_fieldAddr fa_28_0 rfl) ?_
 have B10 := ((Bw1.gr G2).kz K3)
 refine qv rfl (vv_load1 (v := bv p0.Kind) one_5 rfl B10 rfl)<|qv rfl (vv_fieldAddr fa_28_1 rfl)<|qv rfl (vv_load1 (v := .int .i64 p0.Depth) one_3 rfl B10 rfl)<|qv rfl (vv_build (cs := Tcover_tree.cs (Tcover_tree.mk p0.Kind p0.Depth 1)) bs_175 rfl rfl)<|qe rfl (ev_alloc (cs := Tcover_tree.cs (Tcover_tree.mk 0#8 0 0)) zv_175 rfl) ?_
 rintro _ w5 ⟨b5, rfl, hbw5, Bw5, G5⟩
 have z11 := G5.size
 have lt12 := Bw5.lt
 refine qe rfl (ev_stW agg_175 rfl rfl rfl Bw5 rfl rfl) ?_
 rintro _ w6 ⟨Bw6, M6⟩
 have z13 := M6.size
 refine sd_done<|sw_seq<|sw_block ?_
 have X14 := (((X5.kz K3).trans G5).md M6)
 refine sw_loopD (α := Nat × Int) (rg 38 12) (fun ⟨n2, a3⟩ => []) (fun ⟨n2, a3⟩ wr => (fixN (cover_treeOf_L2 p0) n2 a3 = some r) ∧ Bx wr b5 175 (Tcover_tree.cs (Tcover_tree.mk p0.Kind p0.Depth a3)) ∧ Kz [(1, b5)] w6 wr) (fun ⟨n2, a3⟩ => n2) ⟨FUEL, 1⟩ ?_ ?_ ?_
 · exact sbq
 · exact ⟨hm, Bw6, Kz.refl _ _⟩
 clear hm; rintro ⟨n2, a3⟩ w7 ⟨hm, Fw7_0, K7⟩
 have z15 := K7.size
 have lt16 := Fw7_0.lt
 have hb := fix_succ hm; clear hm; obtain ⟨n2, rfl, hm⟩ := hb
 generalize hrec2 : fixN (cover_treeOf_L2 p0) n2 = rec2 at hm
 unfold cover_treeOf_L2 at hm
 try dsimp only at hm
 refine sw_seq<|qs 8 rfl<|qv rfl (vv_fieldAddr fa_175_2 rfl)<|qv rfl (vv_load1 (v := .int .i64 a3) one_3 rfl Fw7_0 rfl)<|qv rfl (vv_fieldAddr fa_175_2 rfl)<|qv rfl (vv_load1 (v := .int .i64 a3) one_3 rfl Fw7_0 rfl) ?_
 refine qv rfl (vv_mul (k := .i64) (a := a3) (b := a3) rfl rfl)<|qv rfl (vv_fieldAddr fa_175_1 rfl)<|qv rfl (vv_load1 (v := .int .i64 p0.Depth) one_3 rfl Fw7_0 rfl)<|qv rfl (vv_lss (a := w64 (a3 * a3)) (b := p0.Depth) rfl rfl)<|sd_done<|sw_cond rfl (fun c2 => ?_) (fun c2 => ?_)
 · replace hm := iT c2 hm
   refine qu<|sw_block<|qg 5 rfl<|qv rfl (vv_fieldAddr fa_175_2 rfl)<|qv rfl (vv_load1 (v := .int .i64 a3) one_3 rfl Fw7_0 rfl)<|qv rfl (vv_add (k := .i64) (a := a3) (b := 1) rfl rfl) ?_
   refine qv rfl (vv_fieldAddr fa_175_2 rfl)<|qe rfl (ev_st1 (cs' := Tcover_tree.cs (Tcover_tree.mk p0.Kind p0.Depth (w64 (a3 + 1)))) (one_3).siz rfl rfl rfl Fw7_0 rfl rfl) ?_
   rintro _ w8 ⟨Bw8, M8⟩
   have z17 := M8.size
   refine sd_nil<|block_n ?_
   have K_18 : Kz [(1, b5)] w6 w8 := (K7.md M8)
   subst hrec2
   exact ⟨rfl, ⟨n2, w64 (a3 + 1)⟩, sbq, ⟨hm, Bw8, K_18⟩, Nat.lt_succ_self _⟩
 replace hm := iF c2 hm
 refine sw_exit<|then_x<|then_x<|block_x<|then_n<|qs 3 rfl ?_
 refine qv rfl (vv_loadW agg_175 rfl Fw7_0 rfl) ?_
 have B19 := ((((Bw2.kz K3).gr G5).md M6).kz K7)
 refine qe rfl (ev_stW agg_175 rfl rfl rfl B19 rfl rfl) ?_
 rintro _ w9 ⟨Bw9, M9⟩
 have z20 := M9.size
 refine qm rfl<|sd_done<|sw_ret ?_
 have X21 := ((X14.kz K7).md M9)
 cases hm
 refine ⟨_, _, rfl, res_2 rfl (rv_cellW agg_175 rfl Bw9 rfl) (rv_tmp rfl), ?_⟩
 exact ⟨rfl, X21⟩
theorem cover_Check_w {p0 r} (hm : cover_Check p0 = some r) {w : World} :
    Calls Tryz.prog 121 [.agg (TScheme.cs p0).toArray].toArray w fun e w' => ∃ v, e = .returned v ∧ (v = .int .i64 r ∧ Gr w w') := by
 unfold cover_Check at hm
 refine calls_of_sw 12 Tryz.func121 rfl rfl rfl<|qs 2 rfl<|qe rfl (ev_box (cs := TScheme.cs p0) rfl rfl) ?_
 rintro _ w1 ⟨b1, rfl, hbw1, Bw1, G1⟩
 have z1 := G1.size
 have lt2 := Bw1.lt
 refine qm rfl<|sd_done<|sw_seq<|qs 8 rfl<|qv rfl (vv_loadW agg_28 rfl Bw1 rfl) ?_
 obtain ⟨x1, hx1, hm⟩ := bnd hm
 refine qe rfl (eC en_187 rfl (cover_treeOf_w hx1)) ?_
 rintro _ w2 ⟨rfl, G2⟩
 have z3 := G2.size
 refine qm rfl<|qm rfl<|qm rfl<|qe rfl (ev_alloc (cs := Tcover_tree.cs (Tcover_tree.mk 0#8 0 0)) zv_175 rfl) ?_
 rintro _ w3 ⟨b3, rfl, hbw3, Bw3, G3⟩
 have z4 := G3.size
 have lt5 := Bw3.lt
 refine qe rfl (ev_stW agg_175 rfl rfl rfl Bw3 rfl rfl) ?_
 rintro _ w4 ⟨Bw4, M4⟩
 have z6 := M4.size
 refine qm rfl<|qd 2 rfl<|qm rfl<|qv rfl (vv_not rfl)<|sd_done ?_
 refine sw_cond rfl (fun c1 => ?_) (fun c1 => ?_)
 · replace hm := cnd_t c1 hm
   refine qs 1 rfl<|qm rfl<|qb ?_
   have X7 := (((((Gr.refl w).trans G1).trans G2).trans G3).md M4)
   cases hm
   refine ⟨_, _, rfl, res_1 rfl (rv_tmp rfl), ?_⟩
   exact ⟨rfl, X7⟩
 replace hm := cnd_f c1 hm
 refine qu<|qs 1 rfl<|qm rfl<|sd_done<|sw_ret ?_
 have X8 := (((((Gr.refl w).trans G1).trans G2).trans G3).md M4)
 cases hm
 refine ⟨_, _, rfl, res_1 rfl (rv_tmp rfl), ?_⟩
 exact ⟨rfl, X8⟩
theorem cover_tree_size_w {p0 r} (hm : cover_tree_size p0 = some r) {w : World} :
    Calls Tryz.prog 189 [.agg (Tcover_tree.cs p0).toArray].toArray w fun e w' => ∃ v, e = .returned v ∧ (v = .int .i64 r ∧ Gr w w') := by
 unfold cover_tree_size at hm
 refine calls_of_sw 6 Tryz.func189 rfl rfl rfl<|qs 2 rfl<|qe rfl (ev_box (cs := Tcover_tree.cs p0) rfl rfl) ?_
 rintro _ w1 ⟨b1, rfl, hbw1, Bw1, G1⟩
 have z1 := G1.size
 have lt2 := Bw1.lt
 refine qm rfl<|qd 4 rfl<|qv rfl (vv_fieldAddr fa_175_1 rfl)<|qv rfl (vv_load1 (v := .int .i64 p0.depth) one_3 rfl Bw1 rfl) ?_
 obtain ⟨n1, hn1, hm⟩ := bnd hm
 refine qv rfl (vv_shlI (a := 1) (b := p0.depth) rfl rfl hn1)<|qm rfl<|sd_done<|sw_ret ?_
 have X3 := ((Gr.refl w).trans G1)
 cases hm
 refine ⟨_, _, rfl, res_1 rfl (rv_tmp rfl), ?_⟩
 exact ⟨rfl, X3⟩
theorem cover_tree_has_w {p0 p1 r} (hm : cover_tree_has p0 p1 = some r) {w : World} :
    Calls Tryz.prog 198 [.agg (Tcover_tree.cs p0).toArray, .int .i64 p1].toArray w fun e w' => ∃ v, e = .returned v ∧ (v = .bool r ∧ Gr w w') := by
 unfold cover_tree_has at hm
 refine calls_of_sw 14 Tryz.func198 rfl rfl rfl<|qs 2 rfl<|qe rfl (ev_box (cs := Tcover_tree.cs p0) rfl rfl) ?_
 rintro _ w1 ⟨b1, rfl, hbw1, Bw1, G1⟩
 have z1 := G1.size
 have lt2 := Bw1.lt
 refine qm rfl<|qd 10 rfl<|qm rfl<|qv rfl (vv_geq (a := p1) (b := 1) rfl rfl)<|qpF rfl (vv_move rfl) (fun c1 => ?_) (fun c1 => ?_)
 · replace hm := iF c1 hm
   refine qk rfl<|qk rfl<|qk rfl<|qk rfl<|qk rfl<|qm rfl<|qm rfl ?_
   refine sd_done<|sw_ret ?_
   have X5 := ((Gr.refl w).trans G1)
   cases hm
   refine ⟨_, _, rfl, res_1 rfl (rv_tmp rfl), ?_⟩
   exact ⟨rfl, X5⟩
 replace hm := iT c1 hm
 refine qm rfl<|qv rfl (vv_loadW agg_175 rfl Bw1 rfl) ?_
 obtain ⟨x1, hx1, hm⟩ := bnd hm
 refine qe rfl (eC en_189 rfl (cover_tree_size_w hx1)) ?_
 rintro _ w2 ⟨rfl, G2⟩
 have z3 := G2.size
 refine qv rfl (vv_mul (k := .i64) (a := 2) (b := x1) rfl rfl)<|qv rfl (vv_lss (a := p1) (b := w64 (2 * x1)) rfl rfl)<|qm rfl<|qm rfl<|sd_done<|sw_ret ?_
 have X4 := (((Gr.refl w).trans G1).trans G2)
 cases hm
 refine ⟨_, _, rfl, res_1 rfl (rv_tmp rfl), ?_⟩
 exact ⟨rfl, X4⟩
theorem cover_node_level_w {p0 r} (hm : cover_node_level p0 = some r) {w : World} :
    Calls Tryz.prog 192 [.int .i64 p0].toArray w fun e w' => ∃ v, e = .returned v ∧ (v = .int .i64 r ∧ Gr w w') := by
 unfold cover_node_level at hm
 refine calls_of_sw 7 Tryz.func192 rfl rfl rfl<|qs 1 rfl<|qm rfl<|qd 5 rfl ?_
 refine qm rfl<|qv rfl (vv_cvIU cv_180_150 rfl)<|qe rfl (eC en_194 rfl (len_c (un (wd p0)) (un_nonneg _) (by have := un_le (wd p0); omega) _)) ?_
 rintro _ w1 ⟨rfl, G1⟩
 have z1 := G1.size
 refine qv rfl (vv_sub (k := .i64) (a := lg (un (wd p0))) (b := 1) rfl rfl)<|qm rfl<|sd_done<|sw_ret ?_
 have X2 := ((Gr.refl w).trans G1)
 cases hm
 refine ⟨_, _, rfl, res_1 rfl (rv_tmp rfl), ?_⟩
 exact ⟨rfl, X2⟩
theorem cover_node_below_w {p0 p1 r} (hm : cover_node_below p0 p1 = some r) {w : World} :
    Calls Tryz.prog 199 [.int .i64 p0, .int .i64 p1].toArray w fun e w' => ∃ v, e = .returned v ∧ (v = .bool r ∧ Gr w w') := by
 unfold cover_node_below at hm
 refine calls_of_sw 27 Tryz.func199 rfl rfl rfl<|qs 1 rfl<|qm rfl<|sd_done<|sw_seq<|qj (β := Bool) (rg 5 13) (fun a1 => [(17, .bool a1)]) (fun a1 wr => (cover_node_below_J1 p0 p1 a1 = some r) ∧ Kz [] w wr) ?_ ?_
 · refine qg 13 rfl<|qm rfl<|qv rfl (vv_lss (a := p0) (b := 1) rfl rfl)<|qp rfl (vv_move rfl) (fun c2 => ?_) (fun c2 => ?_)
   · replace hm := iT c2 hm
     refine qk rfl<|qk rfl<|qm rfl<|qm rfl<|qk rfl<|qk rfl<|qk rfl ?_
     refine qk rfl<|qk rfl<|qm rfl<|sd_nil ?_
     exact ⟨rfl, true, sbq, hm, kz0⟩
   replace hm := iF c2 hm
   refine qm rfl<|qv rfl (vv_lss (a := p1) (b := 1) rfl rfl)<|qm rfl<|qp rfl (vv_move rfl) (fun c3 => ?_) (fun c3 => ?_)
   · replace hm := iT c3 hm
     refine qk rfl<|qk rfl<|qk rfl<|qk rfl<|qk rfl<|qm rfl<|sd_nil ?_
     exact ⟨rfl, true, sbq, hm, kz0⟩
   replace hm := iF c3 hm
   refine qm rfl ?_
   obtain ⟨x5, hx5, hm⟩ := bnd hm
   refine qe rfl (eC en_192 rfl (cover_node_level_w hx5)) ?_
   rintro _ w4 ⟨rfl, G4⟩
   have z8 := G4.size
   refine qm rfl ?_
   obtain ⟨x6, hx6, hm⟩ := bnd hm
   refine qe rfl (eC en_192 rfl (cover_node_level_w hx6)) ?_
   rintro _ w5 ⟨rfl, G5⟩
   have z9 := G5.size
   refine qv rfl (vv_lss (a := x5) (b := x6) rfl rfl)<|qm rfl<|sd_nil ?_
   exact ⟨rfl, (decide (x5 < x6)), sbq, hm, ((kz0.gr G4).gr G5)⟩
 clear hm; rintro a1 w1 ⟨hm, K1⟩
 have z1 := K1.size
 unfold cover_node_below_J1 at hm
 refine sw_cond rfl (fun c1 => ?_) (fun c1 => ?_)
 · replace hm := cnd_t c1 hm
   refine qs 1 rfl<|qm rfl<|qb ?_
   have X2 := ((Gr.refl w).kz K1)
   cases hm
   refine ⟨_, _, rfl, res_1 rfl (rv_tmp rfl), ?_⟩
   exact ⟨rfl, X2⟩
 replace hm := cnd_f c1 hm
 refine qu<|qs 10 rfl<|qm rfl<|qm rfl ?_
 obtain ⟨x2, hx2, hm⟩ := bnd hm
 refine qe rfl (eC en_192 rfl (cover_node_level_w hx2)) ?_
 rintro _ w2 ⟨rfl, G2⟩
 have z3 := G2.size
 refine qm rfl ?_
 obtain ⟨x3, hx3, hm⟩ := bnd hm
 refine qe rfl (eC en_192 rfl (cover_node_level_w hx3)) ?_
 rintro _ w3 ⟨rfl, G3⟩
 have z4 := G3.size
 refine qv rfl (vv_sub (k := .i64) (a := x2) (b := x3) rfl rfl) ?_
 obtain ⟨n4, hn4, hm⟩ := bnd hm
 refine qv rfl (vv_shrI (a := p0) (b := (w64 (x2 - x3))) rfl rfl hn4)<|qm rfl<|qv rfl (vv_eql (a := shrI p0 n4) (b := p1) rfl rfl)<|qm rfl<|sd_done<|sw_ret ?_
 have X5 := ((((Gr.refl w).kz K1).trans G2).trans G3)
 cases hm
 refine ⟨_, _, rfl, res_1 rfl (rv_tmp rfl), ?_⟩
 exact ⟨rfl, X5⟩
theorem cover_tree_special_w {p0 p1 r} (hm : cover_tree_special p0 p1 = some r) {w : World} :
    Calls Tryz.prog 118 [.agg (Tcover_tree.cs p0).toArray, .int .i64 p1].toArray w fun e w' => ∃ v, e = .returned v ∧ (v = .bool r ∧ Gr w w') := by
 unfold cover_tree_special at hm
 refine calls_of_sw 11 Tryz.func118 rfl rfl rfl<|qs 2 rfl<|qe rfl (ev_box (cs := Tcover_tree.cs p0) rfl rfl) ?_
 rintro _ w1 ⟨b1, rfl, hbw1, Bw1, G1⟩
 have z1 := G1.size
 have lt2 := Bw1.lt
 refine qm rfl<|sd_done<|sw_seq<|dw [([])] [] (.leaf [(0,10),(2,10),(3,10),(1,0),(4,10),(5,10),(6,10)]) ?_
 intro w2 G2 zw2
 refine sdz_leaf<|dm 0 rfl rfl<|dh 0 rfl rfl (fun w hS => vv_fieldAddr fa_175_2 rfl) ?_
 have B3 := (Bw1.gr G2)
 refine dh 0 rfl rfl (fun w hS => vv_load1 (v := .int .i64 p0.stride) one_3 rfl (Bx.kp B3 hS) rfl) ?_
 obtain ⟨x1, hx1, hm⟩ := bnd hm
 refine qz [] rfl (eC en_192 rfl (cover_node_level_w hx1)) ⟨fun _ => tk0, trivial⟩ ?_
 rintro _ w3 ⟨rfl, G3⟩
 have z4 := G3.size
 refine kG G3 ?_
 obtain ⟨x2, hx2, hm⟩ := bnd hm
 have S5 := ((Kp.refl ([]) w2).gr G3)
 refine qh 0 rfl rfl S5 (fun w hS => vv_remI (a := x1) (b := p0.stride) rfl rfl hx2)<|qh 0 rfl rfl S5 (fun w hS => vv_eql (a := x2) (b := 0) rfl rfl)<|dn 0 rfl rfl S5<|sd_done<|sw_ret ?_
 have X6 := ((((Gr.refl w).trans G1).trans G2).trans G3)
 cases hm
 refine ⟨_, _, rfl, res_1 rfl (rv_tmp rfl), ?_⟩
 exact ⟨rfl, X6⟩
theorem cover_path_w {p0 p1 r} (hm : cover_path p0 p1 = some r) {w : World} :
    Calls Tryz.prog 191 [.int .i64 p0, .int .i64 p1].toArray w fun e w' => ∃ v, e = .returned v ∧ (∃ bc0 bc1, v = .func (.func 239) #[] [.pointer (some ⟨bc0, 0, none⟩), .pointer (some ⟨bc1, 0, none⟩)].toArray ∧ Bx w' bc0 180 ([.int .i64 r.1]) ∧ (w.heap.size ≤ bc0) ∧ Bx w' bc1 180 ([.int .i64 r.2]) ∧ (w.heap.size ≤ bc1) ∧ Gr w w') := by
 unfold cover_path at hm
 refine calls_of_sw 6 Tryz.func191 rfl rfl rfl<|qs 3 rfl<|qe rfl (ev_box (cs := [.int .i64 p0]) rfl rfl) ?_
 rintro _ w1 ⟨b1, rfl, hbw1, Bw1, G1⟩
 have z1 := G1.size
 have lt2 := Bw1.lt
 refine qe rfl (ev_box (cs := [.int .i64 p1]) rfl rfl) ?_
 rintro _ w2 ⟨b2, rfl, hbw2, Bw2, G2⟩
 have z3 := G2.size
 have lt4 := Bw2.lt
 refine qm rfl<|qd 2 rfl<|qv rfl (vv_makeFunc rfl rfl)<|qm rfl<|sd_done ?_
 refine sw_ret ?_
 have B5 := (Bw1.gr G2)
 have X6 := (((Gr.refl w).trans G1).trans G2)
 cases hm
 refine ⟨_, _, rfl, res_1 rfl (rv_tmp rfl), ?_⟩
 exact ⟨b1, b2, rfl, B5, by omega, Bw2, by omega, X6⟩
theorem cover_node_toward_w {p0 p1 r} (hm : cover_node_toward p0 p1 = some r) {w : World} :
    Calls Tryz.prog 240 [.int .i64 p0, .int .i64 p1].toArray w fun e w' => ∃ v, e = .returned v ∧ (v = .int .i64 r ∧ Gr w w') := by
 unfold cover_node_toward at hm
 refine calls_of_sw 13 Tryz.func240 rfl rfl rfl<|qs 1 rfl<|qm rfl<|qd 9 rfl ?_
 refine qm rfl<|qm rfl ?_
 obtain ⟨x1, hx1, hm⟩ := bnd hm
 refine qe rfl (eC en_192 rfl (cover_node_level_w hx1)) ?_
 rintro _ w1 ⟨rfl, G1⟩
 have z1 := G1.size
 refine qm rfl ?_
 obtain ⟨x2, hx2, hm⟩ := bnd hm
 refine qe rfl (eC en_192 rfl (cover_node_level_w hx2)) ?_
 rintro _ w2 ⟨rfl, G2⟩
 have z2 := G2.size
 refine qv rfl (vv_sub (k := .i64) (a := x1) (b := x2) rfl rfl)<|qv rfl (vv_sub (k := .i64) (a := w64 (x1 - x2)) (b := 1) rfl rfl) ?_
 obtain ⟨n3, hn3, hm⟩ := bnd hm
 refine qv rfl (vv_shrI (a := p1) (b := (w64 ((w64 (x1 - x2)) - 1))) rfl rfl hn3)<|qm rfl<|sd_done<|sw_ret ?_
 have X3 := (((Gr.refl w).trans G1).trans G2)
 cases hm
 refine ⟨_, _, rfl, res_1 rfl (rv_tmp rfl), ?_⟩
 exact ⟨rfl, X3⟩
theorem cover_path_1_it (p1 : Int) (p2 : Int) (bp1 : Nat) (bp2 : Nat) (xs : List Int) (hm : cover_path_1 p1 p2 = some xs) (w0 : World) (hbp1 : Bx w0 bp1 180 ([.int .i64 p1])) (hbp2 : Bx w0 bp2 180 ([.int .i64 p2])) :
    IT Tryz.prog 239 [.pointer (some ⟨bp1, 0, none⟩), .pointer (some ⟨bp2, 0, none⟩)] (xs.map (fun (x : Int) => ([.int .i64 x] : List Value))) ([bp1] ++ [bp2]) w0 := by
 intro l J Jx w fp hG hJ hJx hcap h0 hY
 have c1 := Bx.gr hbp1 hG
 have lt2 := c1.lt
 have nb3 : bp1 ∉ fp := hcap _ (by simp)
 have c4 := Bx.gr hbp2 hG
 have lt5 := c4.lt
 have nb6 : bp2 ∉ fp := hcap _ (by simp)
 have hd := dr_0 xs
 unfold cover_path_1 at hm
 refine calls_of_sw 16 Tryz.func239 rfl rfl rfl<|qs 2 rfl<|qv rfl (vv_load1 (v := .int .i64 p1) one_180 rfl c1 rfl)<|qm rfl<|sd_done<|sw_block ?_
 refine sw_loopD (α := Nat × Int × Nat × List Nat × List Int) ([4] ++ rg 6 10) (fun ⟨n1, a2, kk, fpl, rl⟩ => [(4, .int .i64 a2)]) (fun ⟨n1, a2, kk, fpl, rl⟩ wr => (fixN (cover_path_1_L1 p2) n1 a2 = some rl) ∧ Dr xs kk rl ∧ J kk fpl wr ∧ (∀ c ∈ fpl, c ∈ fp ∨ w.heap.size ≤ c) ∧ Kp fp w wr ∧ Bx wr bp1 180 ([.int .i64 p1]) ∧ Bx wr bp2 180 ([.int .i64 p2]) ∧ bp1 ∉ fpl ∧ bp2 ∉ fpl ∧ True) (fun ⟨n1, a2, kk, fpl, rl⟩ => n1) ⟨FUEL, p1, 0, fp, xs⟩ ?_ ?_ ?_
 · exact sbq
 · exact ⟨hm, hd, h0, (fun c hc => Or.inl hc), (Kp.refl fp w), c1, c4, nb3, nb6, trivial⟩
 clear hm; rintro ⟨n1, a2, kk1, fpl1, rl1⟩ w1 ⟨hm, dl1, JLw1, sl1, KLw1, Sw1_0, Sw1_1, Nw1_0, Nw1_1, -⟩
 have z7 := KLw1.size
 have lt8 := Sw1_0.lt
 have lt9 := Sw1_1.lt
 have hb := fix_succ hm; clear hm; obtain ⟨n1, rfl, hm⟩ := hb
 generalize hrec1 : fixN (cover_path_1_L1 p2) n1 = rec1 at hm
 unfold cover_path_1_L1 at hm
 try dsimp only at hm
 refine sw_seq<|qs 3 rfl<|qm rfl<|qv rfl (vv_load1 (v := .int .i64 p2) one_180 rfl Sw1_1 rfl)<|qv rfl (vv_neq (a := a2) (b := p2) rfl rfl)<|sd_done ?_
 refine cnF rfl (fun c1 => ?_) (fun c1 => ?_)
 · replace hm := iF c1 hm
   refine sw_exit<|then_x<|then_x<|block_x ?_
   have he := Option.some.inj hm
   have hl := Dr.last (c := (fun (x : Int) => ([.int .i64 x] : List Value))) dl1 he.symm
   refine ⟨_, _, rfl, res_none rfl, KLw1, .inl ⟨_, sl1, ?_⟩⟩
   rw [← hl]; exact JLw1
 replace hm := iT c1 hm
 refine qu<|sw_block<|qs 4 rfl<|qm rfl<|qv rfl (vv_load1 (v := .int .i64 p2) one_180 rfl Sw1_1 rfl) ?_
 obtain ⟨x3, hx3, hm⟩ := bnd hm
 refine qe rfl (eC en_240 rfl (cover_node_toward_w hx3)) ?_
 rintro _ w2 ⟨rfl, G2⟩
 have z10 := G2.size
 refine qm rfl<|qd 4 rfl<|qm rfl<|qm rfl ?_
 have J12 := (hJ.gr JLw1 G2)
 have KI13 : Kp fp w w2 := (KLw1.gr G2)
 obtain ⟨rr11, hm, he11⟩ := yl_some hm
 have hx11 := Dr.at dl1 he11
 have hd11 := Dr.next dl1 he11
 have B14 := (Sw1_0.gr G2)
 have B15 := (Sw1_1.gr G2)
 refine qe rfl (ev_yield rfl rfl (hY _ _ _ _ (getm hx11) J12 KI13 sl1)) ?_
 rintro _ w3 ⟨bb, rfl, KF11, fp11, hg11, hJb⟩
 have z16 := KF11.size
 have sub11 : ∀ c ∈ fp11, c ∈ fp ∨ w.heap.size ≤ c := sub_grow sl1 hg11 (by omega)
 have nb17 := notin_grow hg11 Nw1_0 (by omega)
 have nb18 := notin_grow hg11 Nw1_1 (by omega)
 cases bb
 · have Jy11 : Jx (kk1 + 1) fp11 w3 := hJb
   refine qv rfl (vv_not rfl)<|sd_done<|sw_condT rfl<|sw_ret<|block_r<|then_r<|block_r ?_
   have KI19 : Kp fp w w3 := (KI13.trans KF11 sl1)
   exact ⟨_, _, rfl, res_none rfl, KI19, .inr ⟨_, _, sub11, (by rw [List.length_map]; exact (List.getElem?_eq_some_iff.1 hx11).1), Jy11⟩⟩
 have Jy11 : J (kk1 + 1) fp11 w3 := hJb
 refine qv rfl (vv_not rfl)<|sd_done<|sw_condF rfl<|sw_skip<|block_n ?_
 have KI20 : Kp fp w w3 := (KI13.trans KF11 sl1)
 have B21 := (Bx.kp B14 KF11 Nw1_0)
 have B22 := (Bx.kp B15 KF11 Nw1_1)
 subst hrec1
 exact ⟨rfl, ⟨n1, x3, (kk1 + 1), fp11, rr11⟩, sbq, ⟨hm, hd11, Jy11, sub11, KI20, B21, B22, nb17, nb18, trivial⟩, Nat.lt_succ_self _⟩
theorem cover_first_cover_path_1_cover_tree_special_w {p0_0 p0_1 p1_0 bp0_0 bp0_1 r} (hm : cover_first_cover_path_1_cover_tree_special p0_0 p0_1 p1_0 = some r) {w : World} (hbp0_0 : Bx w bp0_0 180 ([.int .i64 p0_0])) (hbp0_1 : Bx w bp0_1 180 ([.int .i64 p0_1])) :
    Calls Tryz.prog 190 [.func (.func 239) [].toArray [.pointer (some ⟨bp0_0, 0, none⟩), .pointer (some ⟨bp0_1, 0, none⟩)].toArray, .func (.func 118) [.agg (Tcover_tree.cs p1_0).toArray].toArray [].toArray].toArray w fun e w' => ∃ v, e = .returned v ∧ (v = .int .i64 r ∧ Gr w w') := by
 have lt1 := hbp0_0.lt
 have lt2 := hbp0_1.lt
 unfold cover_first_cover_path_1_cover_tree_special at hm
 refine calls_of_sw 12 Tryz.func190 rfl rfl rfl<|qs 2 rfl<|qe rfl (ev_box rfl rfl) ?_
 rintro _ w1 ⟨b1, rfl, hbw1, Bw1, G1⟩
 have z3 := G1.size
 have lt4 := Bw1.lt
 refine qe rfl (ev_alloc (cs := [.int .i64 0]) zv_180 rfl) ?_
 rintro _ w2 ⟨b2, rfl, hbw2, Bw2, G2⟩
 have z5 := G2.size
 have lt6 := Bw2.lt
 refine sd_done<|sw_seq<|qs 1 rfl<|qm rfl<|sd_done<|sw_block ?_
 have B7 := ((hbp0_0.gr G1).gr G2)
 have B8 := ((hbp0_1.gr G1).gr G2)
 obtain ⟨l1, hl1, hm⟩ := bnd hm
 have X9 := (((Gr.refl w).trans G1).trans G2)
 have B10 := (Bw1.gr G2)
 refine sw_rangeFunc (gf := 239) rfl en_239 (cover_path_1_it p0_0 p0_1 _ _ _ hl1 _ B7 B8) (by intro x hx; obtain ⟨a, _, rfl⟩ := List.mem_map.1 hx; rfl) rfl _ _ ([b2]) (stb_mk (α := Int) (fun a3 rk => itL (cover_first_cover_path_1_cover_tree_special_R1 p1_0) cover_first_cover_path_1_cover_tree_special_D1 (List.drop rk l1) a3 = some r) (fun a3 => ([b2])) (fun a3 W => Bx W b2 180 ([.int .i64 a3]) ∧ True) (by rintro a3 W ⟨F0, _⟩ b hb; have q0 := F0.lt; replace hb : b ∈ ([b2]) := hb; simp only [List.mem_cons, List.mem_append, mem_zf, List.not_mem_nil, or_false, false_or, not_or, ne_eq, List.nil_append, List.cons_append, true_and, and_true, false_and, and_false, not_true_eq_false, not_false_eq_true, or_true, true_or] at hb; omega) (by rintro a3 W W' ⟨F0, _⟩ E hs; replace hs : ∀ b ∈ ([b2]), W'.heap[b]? = W.heap[b]? := hs; exact ⟨(hs _ (by simp)).trans F0, trivial⟩)) (fun c => (stb_c (c = .ret) (stb_mk (α := Int) (fun a3 rk => cover_first_cover_path_1_cover_tree_special_X1_0 a3 = some r) (fun a3 => ([b2])) (fun a3 W => Bx W b2 180 ([.int .i64 a3]) ∧ True) (by rintro a3 W ⟨F0, _⟩ b hb; have q0 := F0.lt; replace hb : b ∈ ([b2]) := hb; simp only [List.mem_cons, List.mem_append, mem_zf, List.not_mem_nil, or_false, false_or, not_or, ne_eq, List.nil_append, List.cons_append, true_and, and_true, false_and, and_false, not_true_eq_false, not_false_eq_true, or_true, true_or] at hb; omega) (by rintro a3 W W' ⟨F0, _⟩ E hs; replace hs : ∀ b ∈ ([b2]), W'.heap[b]? = W.heap[b]? := hs; exact ⟨(hs _ (by simp)).trans F0, trivial⟩)))) (by intro b hb; simp only [List.mem_cons, List.mem_append, mem_zf, List.not_mem_nil, or_false, false_or, not_or, ne_eq, List.nil_append, List.cons_append, true_and, and_true, false_and, and_false, not_true_eq_false, not_false_eq_true, or_true, true_or] at hb ⊢; omega) ⟨0, hm, rfl, Bw2, trivial⟩ ?_ ?_ ?_
 · rintro l rk x fp w3 hl hx _ K3 hF hln hlt
   clear hm
   obtain ⟨e4, hxe, rfl⟩ := map_some hx
   have Zw3 : Kz [(1, b2)] w2 w3 := kz_of_kp K3 (by intro k hk; simp only [Nin, and_true, List.mem_cons, List.mem_append, mem_zf, List.not_mem_nil, or_false, false_or, not_or, ne_eq, List.nil_append, List.cons_append, true_and, and_true, false_and, and_false, not_true_eq_false, not_false_eq_true, or_true, true_or] at hk ⊢; omega)
   have z11 := K3.size
   refine qg 1 rfl<|qm rfl<|sd_nil<|⟨rfl, (Gr.refl _), ?_⟩
   rintro w4 M4 ⟨a3, hm, rfl, Fw4_0, -⟩
   have z12 := M4.size
   have lt13 := Fw4_0.lt
   replace hm := itL_at hm hxe
   generalize hnx1 : itL (cover_first_cover_path_1_cover_tree_special_R1 p1_0) cover_first_cover_path_1_cover_tree_special_D1 (List.drop (rk + 1) l1) = nx1 at hm
   unfold cover_first_cover_path_1_cover_tree_special_R1 at hm
   try dsimp only at hm
   refine sw_block<|qs 3 rfl ?_
   have B14 := ((B10.kz Zw3).md M4)
   refine qv rfl (vv_load1 one_185 rfl B14 rfl)<|qm rfl ?_
   obtain ⟨x5, hx5, hm⟩ := bnd hm
   refine qe rfl (ev_callV en_118 rfl rfl (cover_tree_special_w hx5)) ?_
   rintro _ w5 ⟨rfl, G5⟩
   have z15 := G5.size
   refine sd_done<|sw_cond rfl (fun c1 => ?_) (fun c1 => ?_)
   · replace hm := cnd_t c1 hm
     refine qs 2 rfl<|qm rfl ?_
     have B16 := (Fw4_0.gr G5)
     refine qe rfl (ev_st1 (cs' := [.int .i64 e4]) (one_180).siz rfl rfl rfl B16 rfl rfl) ?_
     rintro _ w6 ⟨Bw6, M6⟩
     have z17 := M6.size
     refine sd_done<|sw_ret<|block_r ?_
     have K_18 : Kz [(1, b2)] w4 w6 := ((Kz.gr (Kz.refl _ _) G5).md M6)
     have Kq18 : Kp ([b2]) w4 w6 := kp_of_kz K_18 (by intro k hk; simp only [Nin, and_true, List.mem_cons, List.mem_append, mem_zf, List.not_mem_nil, or_false, false_or, not_or, ne_eq, List.nil_append, List.cons_append, true_and, and_true, false_and, and_false, not_true_eq_false, not_false_eq_true, or_true, true_or] at hk ⊢; omega)
     exact ⟨Kq18, ([b2]), (by intro c hc; simp only [List.mem_cons, List.mem_append, mem_zf, List.not_mem_nil, or_false, false_or, not_or, ne_eq, List.nil_append, List.cons_append, true_and, and_true, false_and, and_false, not_true_eq_false, not_false_eq_true, or_true, true_or] at hc ⊢; omega), ⟨rfl, e4, hm, rfl, Bw6, trivial⟩⟩
   replace hm := cnd_f c1 hm
   refine sw_skip<|block_n ?_
   have B20 := (Fw4_0.gr G5)
   have K_19 : Kz [(1, b2)] w4 w5 := (Kz.gr (Kz.refl _ _) G5)
   have Kq19 : Kp ([b2]) w4 w5 := kp_of_kz K_19 (by intro k hk; simp only [Nin, and_true, List.mem_cons, List.mem_append, mem_zf, List.not_mem_nil, or_false, false_or, not_or, ne_eq, List.nil_append, List.cons_append, true_and, and_true, false_and, and_false, not_true_eq_false, not_false_eq_true, or_true, true_or] at hk ⊢; omega)
   subst hnx1
   exact ⟨Kq19, ([b2]), (by intro c hc; simp only [List.mem_cons, List.mem_append, mem_zf, List.not_mem_nil, or_false, false_or, not_or, ne_eq, List.nil_append, List.cons_append, true_and, and_true, false_and, and_false, not_true_eq_false, not_false_eq_true, or_true, true_or] at hc ⊢; omega), ⟨a3, hm, rfl, B20, trivial⟩⟩
 · clear hm; rintro Dw7 fp w7 hDw7 Dfw7 nw7 ⟨a3, hm, rfl, Fw7_0, -⟩ K7
   replace hm := itL_end hm
   have Zw7 : Kz [(1, b2)] w2 w7 := kz_of_kp K7 (by intro k hk; simp only [Nin, and_true, List.mem_cons, List.mem_append, mem_zf, List.not_mem_nil, or_false, false_or, not_or, ne_eq, List.nil_append, List.cons_append, true_and, and_true, false_and, and_false, not_true_eq_false, not_false_eq_true, or_true, true_or] at hk ⊢; omega)
   have z21 := K7.size
   have lt22 := Df.lt (w := w7) Dfw7
   simp only [List.mem_cons, List.mem_append, mem_zf, List.not_mem_nil, or_false, false_or, not_or, ne_eq, List.nil_append, List.cons_append, true_and, and_true, false_and, and_false, not_true_eq_false, not_false_eq_true, or_true, true_or, not_and] at nw7
   have lt23 := Fw7_0.lt
   unfold cover_first_cover_path_1_cover_tree_special_D1 at hm
   try dsimp only at hm
   refine block_n<|then_n<|qs 1 rfl<|qe rfl (ev_st1 (cs' := [.int .i64 0]) (one_180).siz rfl rfl rfl Fw7_0 rfl rfl) ?_
   rintro _ w8 ⟨Bw8, M8⟩
   have z24 := M8.size
   refine sd_done<|sw_ret ?_
   have DL25 := (Df.md Dfw7 M8)
   have L25 := Md.put (w := w8) Dw7 (.deferred none)
   have zL25 := L25.size
   have B26 := (Bw8.md L25)
   have X27 : Gr w (w8.putObj Dw7 (.deferred none)) := (((X9.kz Zw7).md M8).md L25)
   cases hm
   refine ⟨_, _, ⟨Dw7, rfl, DL25, rfl⟩, res_1 rfl (rv_cell1 one_180 rfl B26), ?_⟩
   exact ⟨rfl, X27⟩
 clear hm; rintro Dw9 c rk fp w9 hDw9 Dfw9 nw9 hle ⟨rfl, a3, hm, rfl, Fw9_0, -⟩ K9
 have Zw9 : Kz [(1, b2)] w2 w9 := kz_of_kp K9 (by intro k hk; simp only [Nin, and_true, List.mem_cons, List.mem_append, mem_zf, List.not_mem_nil, or_false, false_or, not_or, ne_eq, List.nil_append, List.cons_append, true_and, and_true, false_and, and_false, not_true_eq_false, not_false_eq_true, or_true, true_or] at hk ⊢; omega)
 have z28 := K9.size
 have lt29 := Df.lt (w := w9) Dfw9
 simp only [List.mem_cons, List.mem_append, mem_zf, List.not_mem_nil, or_false, false_or, not_or, ne_eq, List.nil_append, List.cons_append, true_and, and_true, false_and, and_false, not_true_eq_false, not_false_eq_true, or_true, true_or, not_and] at nw9
 have lt30 := Fw9_0.lt
 unfold cover_first_cover_path_1_cover_tree_special_X1_0 at hm
 try dsimp only at hm
 refine sw_ret<|block_r<|then_r ?_
 have DL31 := Dfw9
 have L31 := Md.put (w := w9) Dw9 (.deferred none)
 have zL31 := L31.size
 have B32 := (Fw9_0.md L31)
 have X33 : Gr w (w9.putObj Dw9 (.deferred none)) := ((X9.kz Zw9).md L31)
 cases hm
 refine ⟨_, _, ⟨Dw9, rfl, DL31, rfl⟩, res_1 rfl (rv_cell1 one_180 rfl B32), ?_⟩
 exact ⟨rfl, X33⟩
theorem cover_tree_cut_w {p0 p1 p2 r} (hm : cover_tree_cut p0 p1 p2 = some r) {w : World} :
    Calls Tryz.prog 117 [.agg (Tcover_tree.cs p0).toArray, .int .i64 p1, .int .i64 p2].toArray w fun e w' => ∃ v, e = .returned v ∧ (v = .int .i64 r ∧ Gr w w') := by
 unfold cover_tree_cut at hm
 refine calls_of_sw 14 Tryz.func117 rfl rfl rfl<|qs 2 rfl<|qe rfl (ev_box (cs := Tcover_tree.cs p0) rfl rfl) ?_
 rintro _ w1 ⟨b1, rfl, hbw1, Bw1, G1⟩
 have z1 := G1.size
 have lt2 := Bw1.lt
 refine qm rfl<|sd_done<|sw_seq<|dw [([])] [] (.leaf [(0,10),(1,10),(2,10),(4,10),(5,10),(3,0),(6,0),(7,10)]) ?_
 intro w2 G2 zw2
 refine sdz_leaf<|dm 0 rfl rfl<|dm 0 rfl rfl ?_
 obtain ⟨n1, hn1, hm⟩ := bnd hm
 refine dh 0 rfl rfl (fun w hS => vv_shrI (a := p2) (b := (un 1#64)) rfl rfl hn1) ?_
 have B3 := (Bw1.gr G2)
 refine dh 0 rfl rfl (fun w hS => vv_loadW agg_175 rfl (Bx.kp B3 hS) rfl)<|dh 0 rfl rfl (fun w hS => vv_makeFunc rfl rfl) ?_
 obtain ⟨x2, hx2, hm⟩ := bnd hm
 refine qz [] rfl (eC en_191 rfl (cover_path_w hx2)) ⟨fun _ => tk0, trivial⟩ ?_
 rintro _ w3 ⟨k3_c0_0, k3_c0_1, rfl, O3_c0_0, f3_c0_0, O3_c0_1, f3_c0_1, G3⟩
 have z4 := G3.size
 have lt5 := O3_c0_0.lt
 have lt6 := O3_c0_1.lt
 refine kG G3 ?_
 obtain ⟨x3, hx3, hm⟩ := bnd hm
 refine qz [] rfl (eC en_190 rfl (cover_first_cover_path_1_cover_tree_special_w hx3 O3_c0_0 O3_c0_1)) ⟨fun _ => tk0, trivial⟩ ?_
 rintro _ w4 ⟨rfl, G4⟩
 have z7 := G4.size
 refine kG G4 ?_
 have S8 := (((Kp.refl ([]) w2).gr G3).gr G4)
 refine dn 0 rfl rfl S8<|sd_done<|sw_ret ?_
 have X9 := (((((Gr.refl w).trans G1).trans G2).trans G3).trans G4)
 cases hm
 refine ⟨_, _, rfl, res_1 rfl (rv_tmp rfl), ?_⟩
 exact ⟨rfl, X9⟩
theorem cover_tree_subset_w {p0 p1 r} (hm : cover_tree_subset p0 p1 = some r) {w : World} :
    Calls Tryz.prog 124 [.agg (Tcover_tree.cs p0).toArray, .agg (TSubset.cs p1).toArray].toArray w fun e w' => ∃ v, e = .returned v ∧ (v = .bool r ∧ Gr w w') := by
 unfold cover_tree_subset at hm
 refine calls_of_sw 68 Tryz.func124 rfl rfl rfl<|qs 3 rfl<|qe rfl (ev_box (cs := Tcover_tree.cs p0) rfl rfl) ?_
 rintro _ w1 ⟨b1, rfl, hbw1, Bw1, G1⟩
 have z1 := G1.size
 have lt2 := Bw1.lt
 refine qe rfl (ev_box (cs := TSubset.cs p1) rfl rfl) ?_
 rintro _ w2 ⟨b2, rfl, hbw2, Bw2, G2⟩
 have z3 := G2.size
 have lt4 := Bw2.lt
 refine qm rfl<|sd_done<|sw_seq<|dw [([])] [] (.leaf [(0,10),(1,10),(2,10),(3,10),(4,10),(5,10)]) ?_
 intro w3 G3 zw3
 refine sdz_leaf<|dh 0 rfl rfl (fun w hS => vv_fieldAddr fa_131_0 rfl) ?_
 have B5 := (Bw2.gr G3)
 refine dh 0 rfl rfl (fun w hS => vv_load1 (v := .int .i64 p1.Node) one_3 rfl (Bx.kp B5 hS) rfl)<|dh 0 rfl rfl (fun w hS => vv_fieldAddr fa_131_1 rfl)<|dh 0 rfl rfl (fun w hS => vv_load1 (v := .int .i64 p1.Minus) one_3 rfl (Bx.kp B5 hS) rfl)<|dm 0 rfl rfl<|dm 0 rfl rfl<|sd_done<|sw_seq ?_
 refine sw_block<|qs 6 rfl ?_
 have B6 := ((Bw1.gr G2).gr G3)
 refine qv rfl (vv_loadW agg_175 rfl B6 rfl)<|qv rfl (vv_fieldAddr fa_131_0 rfl)<|qv rfl (vv_load1 (v := .int .i64 p1.Node) one_3 rfl B5 rfl) ?_
 obtain ⟨x1, hx1, hm⟩ := bnd hm
 refine qe rfl (eC en_198 rfl (cover_tree_has_w hx1)) ?_
 rintro _ w4 ⟨rfl, G4⟩
 have z7 := G4.size
 refine qv rfl (vv_not rfl)<|qm rfl<|sd_done<|sw_cond rfl (fun c1 => ?_) (fun c1 => ?_)
 · replace hm := cnd_t c1 hm
   refine qs 1 rfl<|qm rfl<|sd_done<|sw_ret<|block_r<|then_r ?_
   have Y1 := Gr.trans (Gr.trans (Gr.trans G1 G2) G3) G4
   have X8 := ((Gr.refl w).trans Y1)
   cases hm
   refine ⟨_, _, rfl, res_1 rfl (rv_tmp rfl), ?_⟩
   exact ⟨rfl, X8⟩
 replace hm := cnd_f c1 hm
 have Y2 := Gr.trans (Gr.trans (Gr.trans G1 G2) G3) G4
 have X9 := ((Gr.refl w).trans Y2)
 refine qj (β := Bool) (rg 17 8) (fun a2 => [(17, .bool a2)]) (fun a2 wr => (cover_tree_subset_J1 p0 p1 a2 = some r) ∧ Kz [] w4 wr) ?_ ?_
 · refine qg 8 rfl<|qv rfl (vv_fieldAddr fa_175_0 rfl) ?_
   have B32 := (B6.gr G4)
   refine qv rfl (vv_load1 (v := bv p0.kind) one_5 rfl B32 rfl)<|qv rfl (vv_eqlB (p := p0.kind) (q := 1#8) rfl rfl)<|qp rfl (vv_move rfl) (fun c10 => ?_) (fun c10 => ?_)
   · replace hm := iT c10 hm
     refine qk rfl<|qk rfl<|qm rfl<|qm rfl<|sd_nil ?_
     exact ⟨rfl, true, sbq, hm, kz0⟩
   replace hm := iF c10 hm
   refine qm rfl<|qv rfl (vv_eql (a := p1.Minus) (b := 0) rfl rfl)<|qm rfl<|qm rfl<|sd_nil ?_
   exact ⟨rfl, (decide (p1.Minus = 0)), sbq, hm, kz0⟩
 clear hm; rintro a2 w5 ⟨hm, K5⟩
 have z10 := K5.size
 unfold cover_tree_subset_J1 at hm
 refine sw_cond rfl (fun c2 => ?_) (fun c2 => ?_)
 · replace hm := cnd_t c2 hm
   refine qs 12 rfl<|qm rfl<|qv rfl (vv_eql (a := p1.Minus) (b := 0) rfl rfl)<|qpF rfl (vv_move rfl) (fun c3 => ?_) (fun c3 => ?_)
   · replace hm := iF c3 hm
     refine qk rfl<|qk rfl<|qk rfl<|qk rfl<|qk rfl<|qk rfl<|qk rfl ?_
     refine qm rfl<|qm rfl<|sd_done<|sw_ret<|block_r<|then_r ?_
     have X14 := (X9.kz K5)
     cases hm
     refine ⟨_, _, rfl, res_1 rfl (rv_tmp rfl), ?_⟩
     exact ⟨rfl, X14⟩
   replace hm := iT c3 hm
   refine qv rfl (vv_fieldAddr fa_175_0 rfl) ?_
   have B11 := ((B6.gr G4).kz K5)
   refine qv rfl (vv_load1 (v := bv p0.kind) one_5 rfl B11 rfl)<|qv rfl (vv_eqlB (p := p0.kind) (q := 1#8) rfl rfl)<|qp rfl (vv_move rfl) (fun c4 => ?_) (fun c4 => ?_)
   · replace hm := iT c4 hm
     refine qk rfl<|qk rfl<|qm rfl<|qm rfl<|qm rfl<|sd_done<|sw_ret ?_
     refine block_r<|then_r ?_
     have X12 := (X9.kz K5)
     cases hm
     refine ⟨_, _, rfl, res_1 rfl (rv_tmp rfl), ?_⟩
     exact ⟨rfl, X12⟩
   replace hm := iF c4 hm
   refine qm rfl<|qv rfl (vv_eql (a := p1.Node) (b := 1) rfl rfl)<|qm rfl<|qm rfl<|qm rfl<|sd_done<|sw_ret ?_
   refine block_r<|then_r ?_
   have X13 := (X9.kz K5)
   cases hm
   refine ⟨_, _, rfl, res_1 rfl (rv_tmp rfl), ?_⟩
   exact ⟨rfl, X13⟩
 replace hm := cnd_f c2 hm
 have X15 := (X9.kz K5)
 refine qj (β := Bool) (rg 36 17) (fun a3 => [(36, .bool a3)]) (fun a3 wr => (cover_tree_subset_J2 p0 p1 a3 = some r) ∧ Kz [] w5 wr) ?_ ?_
 · refine qg 17 rfl ?_
   have B25 := ((B6.gr G4).kz K5)
   refine qv rfl (vv_loadW agg_175 rfl B25 rfl)<|qv rfl (vv_fieldAddr fa_131_1 rfl) ?_
   have B26 := ((B5.gr G4).kz K5)
   refine qv rfl (vv_load1 (v := .int .i64 p1.Minus) one_3 rfl B26 rfl) ?_
   obtain ⟨x6, hx6, hm⟩ := bnd hm
   refine qe rfl (eC en_198 rfl (cover_tree_has_w hx6)) ?_
   rintro _ w9 ⟨rfl, G9⟩
   have z27 := G9.size
   refine qv rfl (vv_not rfl)<|qp rfl (vv_move rfl) (fun c8 => ?_) (fun c8 => ?_)
   · replace hm := cnd_t c8 hm
     refine qk rfl<|qk rfl<|qk rfl<|qm rfl<|qm rfl<|qk rfl<|qk rfl ?_
     refine qk rfl<|qk rfl<|qm rfl<|qm rfl<|sd_nil ?_
     exact ⟨rfl, true, sbq, hm, (kz0.gr G9)⟩
   replace hm := cnd_f c8 hm
   refine qm rfl<|qm rfl<|qv rfl (vv_eql (a := p1.Minus) (b := p1.Node) rfl rfl)<|qm rfl<|qp rfl (vv_move rfl) (fun c9 => ?_) (fun c9 => ?_)
   · replace hm := iT c9 hm
     refine qk rfl<|qk rfl<|qk rfl<|qk rfl<|qm rfl<|qm rfl<|sd_nil ?_
     exact ⟨rfl, true, sbq, hm, (kz0.gr G9)⟩
   replace hm := iF c9 hm
   refine qm rfl<|qm rfl ?_
   obtain ⟨x7, hx7, hm⟩ := bnd hm
   refine qe rfl (eC en_199 rfl (cover_node_below_w hx7)) ?_
   rintro _ w10 ⟨rfl, G10⟩
   have z30 := G10.size
   refine qv rfl (vv_not rfl)<|qm rfl<|qm rfl<|sd_nil ?_
   exact ⟨rfl, (!x7), sbq, hm, ((kz0.gr G9).gr G10)⟩
 clear hm; rintro a3 w6 ⟨hm, K6⟩
 have z16 := K6.size
 unfold cover_tree_subset_J2 at hm
 refine sw_cond rfl (fun c5 => ?_) (fun c5 => ?_)
 · replace hm := cnd_t c5 hm
   refine qs 1 rfl<|qm rfl<|sd_done<|sw_ret<|block_r<|then_r ?_
   have X17 := (X15.kz K6)
   cases hm
   refine ⟨_, _, rfl, res_1 rfl (rv_tmp rfl), ?_⟩
   exact ⟨rfl, X17⟩
 replace hm := cnd_f c5 hm
 refine sw_skip<|block_n<|then_n<|qs 16 rfl<|qv rfl (vv_fieldAddr fa_175_0 rfl) ?_
 have B18 := (((B6.gr G4).kz K5).kz K6)
 refine qv rfl (vv_load1 (v := bv p0.kind) one_5 rfl B18 rfl)<|qv rfl (vv_eqlB (p := p0.kind) (q := 2#8) rfl rfl)<|qp rfl (vv_move rfl) (fun c6 => ?_) (fun c6 => ?_)
 · replace hm := iT c6 hm
   refine qk rfl<|qk rfl<|qk rfl<|qm rfl<|qm rfl<|qk rfl<|qk rfl ?_
   refine qk rfl<|qk rfl<|qk rfl<|qm rfl<|qm rfl<|sd_done<|sw_ret ?_
   have X19 := (X15.kz K6)
   cases hm
   refine ⟨_, _, rfl, res_1 rfl (rv_tmp rfl), ?_⟩
   exact ⟨rfl, X19⟩
 replace hm := iF c6 hm
 refine qv rfl (vv_loadW agg_175 rfl B18 rfl)<|qm rfl ?_
 obtain ⟨x4, hx4, hm⟩ := bnd hm
 refine qe rfl (eC en_118 rfl (cover_tree_special_w hx4)) ?_
 rintro _ w7 ⟨rfl, G7⟩
 have z20 := G7.size
 refine qm rfl<|qp rfl (vv_move rfl) (fun c7 => ?_) (fun c7 => ?_)
 · replace hm := cnd_t c7 hm
   refine qk rfl<|qk rfl<|qk rfl<|qk rfl<|qk rfl<|qm rfl<|qm rfl ?_
   refine sd_done<|sw_ret ?_
   have X21 := ((X15.kz K6).trans G7)
   cases hm
   refine ⟨_, _, rfl, res_1 rfl (rv_tmp rfl), ?_⟩
   exact ⟨rfl, X21⟩
 replace hm := cnd_f c7 hm
 have B22 := (B18.gr G7)
 refine qv rfl (vv_loadW agg_175 rfl B22 rfl)<|qm rfl<|qm rfl ?_
 obtain ⟨x5, hx5, hm⟩ := bnd hm
 refine qe rfl (eC en_117 rfl (cover_tree_cut_w hx5)) ?_
 rintro _ w8 ⟨rfl, G8⟩
 have z23 := G8.size
 refine qv rfl (vv_eql (a := x5) (b := 0) rfl rfl)<|qm rfl<|qm rfl<|sd_done<|sw_ret ?_
 have X24 := (((X15.kz K6).trans G7).trans G8)
 cases hm
 refine ⟨_, _, rfl, res_1 rfl (rv_tmp rfl), ?_⟩
 exact ⟨rfl, X24⟩
theorem cover_enter_w {p0 p1 vp1 zp1 gp1 op1 r} (hm : cover_enter p0 p1 = some r) {w : World} (hp1 : Rd w zp1 gp1 op1 2 vp1 (p1.map TSubset.cs)) :
    Calls Tryz.prog 112 [.agg (TScheme.cs p0).toArray, vp1].toArray w fun e w' => ∃ v, e = .returned v ∧ (v = .tuple [.agg (Tcover_tree.cs r.1).toArray, .int .i64 r.2].toArray ∧ Gr w w') := by
 have lt1 := hp1.lth
 unfold cover_enter at hm
 refine calls_of_sw 31 Tryz.func112 rfl rfl rfl<|qs 3 rfl<|qe rfl (ev_box (cs := TScheme.cs p0) rfl rfl) ?_
 rintro _ w1 ⟨b1, rfl, hbw1, Bw1, G1⟩
 have z2 := G1.size
 have lt3 := Bw1.lt
 refine qe rfl (ev_alloc (cs := Tcover_tree.cs (Tcover_tree.mk 0#8 0 0)) zv_175 rfl) ?_
 rintro _ w2 ⟨b2, rfl, hbw2, Bw2, G2⟩
 have z4 := G2.size
 have lt5 := Bw2.lt
 refine qm rfl<|qd 8 rfl ?_
 have B6 := (Bw1.gr G2)
 refine qv rfl (vv_loadW agg_28 rfl B6 rfl) ?_
 obtain ⟨x1, hx1, hm⟩ := bnd hm
 refine qe rfl (eC en_187 rfl (cover_treeOf_w hx1)) ?_
 rintro _ w3 ⟨rfl, G3⟩
 have z7 := G3.size
 refine qm rfl<|qm rfl<|qm rfl<|qe rfl (ev_alloc (cs := Tcover_tree.cs (Tcover_tree.mk 0#8 0 0)) zv_175 rfl) ?_
 rintro _ w4 ⟨b4, rfl, hbw4, Bw4, G4⟩
 have z8 := G4.size
 have lt9 := Bw4.lt
 refine qe rfl (ev_stW agg_175 rfl rfl rfl Bw4 rfl rfl) ?_
 rintro _ w5 ⟨Bw5, M5⟩
 have z10 := M5.size
 refine qm rfl<|sd_done<|sw_seq<|qs 2 rfl<|qm rfl<|qv rfl (vv_not rfl) ?_
 refine sd_done<|sw_cond rfl (fun c1 => ?_) (fun c1 => ?_)
 · replace hm := cnd_t c1 hm
   refine qs 3 rfl<|qv rfl (vv_build (cs := Tcover_tree.cs (Tcover_tree.mk 0#8 0 0)) bs_175 rfl rfl) ?_
   have Y1 := Gr.trans G3 G4
   have B11 := ((Bw2.gr Y1).md M5)
   refine qe rfl (ev_stW agg_175 rfl rfl rfl B11 rfl rfl) ?_
   rintro _ w6 ⟨Bw6, M6⟩
   have z12 := M6.size
   refine qm rfl<|qb ?_
   have Y2 := Gr.trans (Gr.trans G1 G2) Y1
   have X13 := ((((Gr.refl w).trans Y2).md M5).md M6)
   cases hm
   refine ⟨_, _, rfl, res_2 rfl (rv_cellW agg_175 rfl Bw6 rfl) (rv_tmp rfl), ?_⟩
   exact ⟨rfl, X13⟩
 replace hm := cnd_f c1 hm
 refine qu<|sw_seq<|qs 3 rfl<|qm rfl ?_
 have Y3 := Gr.trans (Gr.trans (Gr.trans G1 G2) G3) G4
 have B14 := ((hp1.gr Y3).md M5 (pb_lt lt1))
 refine qv rfl (vv_lenT (l := p1) (c := TSubset.cs) Tryz.underlying107 rfl B14)<|qm rfl<|sd_done<|sw_block ?_
 have X15 := (((Gr.refl w).trans Y3).md M5)
 refine sw_loopD (α := Nat × Int) ([5, 9] ++ rg 20 10) (fun ⟨n1, a3⟩ => [(5, .int .i64 0), (20, .int .i64 a3)]) (fun ⟨n1, a3⟩ wr => (fixN (cover_enter_L1 p1 x1) n1 a3 = some r) ∧ Kz [] w5 wr) (fun ⟨n1, a3⟩ => n1) ⟨FUEL, 0⟩ ?_ ?_ ?_
 · exact sbq
 · exact ⟨hm, Kz.refl _ _⟩
 clear hm; rintro ⟨n1, a3⟩ w7 ⟨hm, K7⟩
 have z16 := K7.size
 have hb := fix_succ hm; clear hm; obtain ⟨n1, rfl, hm⟩ := hb
 generalize hrec1 : fixN (cover_enter_L1 p1 x1) n1 = rec1 at hm
 unfold cover_enter_L1 at hm
 try dsimp only at hm
 refine qs 1 rfl<|qv rfl (vv_lss (a := a3) (b := (p1.length : Int)) rfl rfl)<|sd_done<|sw_seq<|cnF rfl (fun c2 => ?_) (fun c2 => ?_)
 · replace hm := iF c2 hm
   refine sw_exit<|then_x<|then_x<|block_x<|then_n<|qs 3 rfl ?_
   have B27 := (Bw5.kz K7)
   refine qv rfl (vv_loadW agg_175 rfl B27 rfl) ?_
   have Y4 := Gr.trans G3 G4
   have B28 := (((Bw2.gr Y4).md M5).kz K7)
   refine qe rfl (ev_stW agg_175 rfl rfl rfl B28 rfl rfl) ?_
   rintro _ w12 ⟨Bw12, M12⟩
   have z29 := M12.size
   refine qm rfl<|sd_done<|sw_ret ?_
   have X30 := ((X15.kz K7).md M12)
   cases hm
   refine ⟨_, _, rfl, res_2 rfl (rv_cellW agg_175 rfl Bw12 rfl) (rv_tmp rfl), ?_⟩
   exact ⟨rfl, X30⟩
 replace hm := iT c2 hm
 refine qu<|sw_seq<|sw_block<|qs 4 rfl ?_
 obtain ⟨y4, hy4, hm⟩ := bnd hm
 have B17 := (B14.kz K7)
 refine qv rfl (vv_ixT (i := a3) Tryz.underlying107 (agg_131).siz rfl B17 rfl hy4)<|qv rfl (vv_elWT agg_131 rfl B17 hy4 (by first | rfl | omega))<|qe rfl (ev_alloc (cs := TSubset.cs (TSubset.mk 0 0)) zv_131 rfl) ?_
 rintro _ w8 ⟨b8, rfl, hbw8, Bw8, G8⟩
 have z18 := G8.size
 have lt19 := Bw8.lt
 refine qe rfl (ev_stW agg_131 rfl rfl rfl Bw8 rfl rfl) ?_
 rintro _ w9 ⟨Bw9, M9⟩
 have z20 := M9.size
 refine qd 4 rfl ?_
 have B21 := (((Bw5.kz K7).gr G8).md M9)
 refine qv rfl (vv_loadW agg_175 rfl B21 rfl)<|qv rfl (vv_loadW agg_131 rfl Bw9 rfl) ?_
 obtain ⟨x5, hx5, hm⟩ := bnd hm
 refine qe rfl (eC en_124 rfl (cover_tree_subset_w hx5)) ?_
 rintro _ w10 ⟨rfl, G10⟩
 have z22 := G10.size
 refine qv rfl (vv_not rfl)<|sd_done<|cnF rfl (fun c3 => ?_) (fun c3 => ?_)
 · replace hm := cnd_f c3 hm
   refine sw_skip<|block_n<|then_n<|qg 2 rfl<|qv rfl (vv_add (k := .i64) (a := a3) (b := 1) rfl rfl)<|qm rfl<|sd_nil ?_
   have K_26 : Kz [] w5 w10 := (((K7.gr G8).md M9).gr G10)
   subst hrec1
   exact ⟨rfl, ⟨n1, w64 (a3 + 1)⟩, sbq, ⟨hm, K_26⟩, Nat.lt_succ_self _⟩
 replace hm := cnd_t c3 hm
 refine qs 3 rfl<|qv rfl (vv_build (cs := Tcover_tree.cs (Tcover_tree.mk 0#8 0 0)) bs_175 rfl rfl) ?_
 have Y5 := Gr.trans G3 G4
 have B23 := ((((((Bw2.gr Y5).md M5).kz K7).gr G8).md M9).gr G10)
 refine qe rfl (ev_stW agg_175 rfl rfl rfl B23 rfl rfl) ?_
 rintro _ w11 ⟨Bw11, M11⟩
 have z24 := M11.size
 refine qm rfl<|sd_done<|sw_ret<|block_r<|then_r<|then_r<|block_r ?_
 refine then_r ?_
 have X25 := (((((X15.kz K7).trans G8).md M9).trans G10).md M11)
 cases hm
 refine ⟨_, _, rfl, res_2 rfl (rv_cellW agg_175 rfl Bw11 rfl) (rv_tmp rfl), ?_⟩
 exact ⟨rfl, X25⟩
theorem cover_tree_receiver_w {p0 p1 r} (hm : cover_tree_receiver p0 p1 = some r) {w : World} :
    Calls Tryz.prog 188 [.agg (Tcover_tree.cs p0).toArray, .int .i64 p1].toArray w fun e w' => ∃ v, e = .returned v ∧ (v = .bool r ∧ Gr w w') := by
 unfold cover_tree_receiver at hm
 refine calls_of_sw 13 Tryz.func188 rfl rfl rfl<|qs 2 rfl<|qe rfl (ev_box (cs := Tcover_tree.cs p0) rfl rfl) ?_
 rintro _ w1 ⟨b1, rfl, hbw1, Bw1, G1⟩
 have z1 := G1.size
 have lt2 := Bw1.lt
 refine qm rfl<|qd 9 rfl<|qm rfl<|qv rfl (vv_geq (a := p1) (b := 0) rfl rfl)<|qpF rfl (vv_move rfl) (fun c1 => ?_) (fun c1 => ?_)
 · replace hm := iF c1 hm
   refine qk rfl<|qk rfl<|qk rfl<|qk rfl<|qm rfl<|qm rfl<|sd_done ?_
   refine sw_ret ?_
   have X5 := ((Gr.refl w).trans G1)
   cases hm
   refine ⟨_, _, rfl, res_1 rfl (rv_tmp rfl), ?_⟩
   exact ⟨rfl, X5⟩
 replace hm := iT c1 hm
 refine qm rfl<|qv rfl (vv_loadW agg_175 rfl Bw1 rfl) ?_
 obtain ⟨x1, hx1, hm⟩ := bnd hm
 refine qe rfl (eC en_189 rfl (cover_tree_size_w hx1)) ?_
 rintro _ w2 ⟨rfl, G2⟩
 have z3 := G2.size
 refine qv rfl (vv_lss (a := p1) (b := x1) rfl rfl)<|qm rfl<|qm rfl<|sd_done<|sw_ret ?_
 have X4 := (((Gr.refl w).trans G1).trans G2)
 cases hm
 refine ⟨_, _, rfl, res_1 rfl (rv_tmp rfl), ?_⟩
 exact ⟨rfl, X4⟩
theorem cover_tree_labels_w {p0 p1 r} (hm : cover_tree_labels p0 p1 = some r) {w : World} :
    Calls Tryz.prog 202 [.agg (Tcover_tree.cs p0).toArray, .int .i64 p1].toArray w fun e w' => ∃ v, e = .returned v ∧ (∃ bc0 bc1, v = .func (.func 251) #[] [.pointer (some ⟨bc0, 0, none⟩), .pointer (some ⟨bc1, 0, none⟩)].toArray ∧ Bx w' bc0 175 (Tcover_tree.cs r.1) ∧ (w.heap.size ≤ bc0) ∧ Bx w' bc1 3 ([.int .i64 r.2]) ∧ (w.heap.size ≤ bc1) ∧ Gr w w') := by
 unfold cover_tree_labels at hm
 refine calls_of_sw 6 Tryz.func202 rfl rfl rfl<|qs 3 rfl<|qe rfl (ev_box (cs := Tcover_tree.cs p0) rfl rfl) ?_
 rintro _ w1 ⟨b1, rfl, hbw1, Bw1, G1⟩
 have z1 := G1.size
 have lt2 := Bw1.lt
 refine qe rfl (ev_box (cs := [.int .i64 p1]) rfl rfl) ?_
 rintro _ w2 ⟨b2, rfl, hbw2, Bw2, G2⟩
 have z3 := G2.size
 have lt4 := Bw2.lt
 refine qm rfl<|qd 2 rfl<|qv rfl (vv_makeFunc rfl rfl)<|qm rfl<|sd_done ?_
 refine sw_ret ?_
 have B5 := (Bw1.gr G2)
 have X6 := (((Gr.refl w).trans G1).trans G2)
 cases hm
 refine ⟨_, _, rfl, res_1 rfl (rv_tmp rfl), ?_⟩
 exact ⟨b1, b2, rfl, B5, by omega, Bw2, by omega, X6⟩
theorem cover_tree_leaf_w {p0 p1 r} (hm : cover_tree_leaf p0 p1 = some r) {w : World} :
    Calls Tryz.prog 114 [.agg (Tcover_tree.cs p0).toArray, .int .i64 p1].toArray w fun e w' => ∃ v, e = .returned v ∧ (v = .int .i64 r ∧ Gr w w') := by
 unfold cover_tree_leaf at hm
 refine calls_of_sw 9 Tryz.func114 rfl rfl rfl<|qs 2 rfl<|qe rfl (ev_box (cs := Tcover_tree.cs p0) rfl rfl) ?_
 rintro _ w1 ⟨b1, rfl, hbw1, Bw1, G1⟩
 have z1 := G1.size
 have lt2 := Bw1.lt
 refine qm rfl<|qd 5 rfl<|qv rfl (vv_loadW agg_175 rfl Bw1 rfl) ?_
 obtain ⟨x1, hx1, hm⟩ := bnd hm
 refine qe rfl (eC en_189 rfl (cover_tree_size_w hx1)) ?_
 rintro _ w2 ⟨rfl, G2⟩
 have z3 := G2.size
 refine qm rfl<|qv rfl (vv_add (k := .i64) (a := x1) (b := p1) rfl rfl)<|qm rfl<|sd_done<|sw_ret ?_
 have X4 := (((Gr.refl w).trans G1).trans G2)
 cases hm
 refine ⟨_, _, rfl, res_1 rfl (rv_tmp rfl), ?_⟩
 exact ⟨rfl, X4⟩
theorem cover_node_sibling_w {p0 r} (hm : cover_node_sibling p0 = some r) {w : World} :
    Calls Tryz.prog 116 [.int .i64 p0].toArray w fun e w' => ∃ v, e = .returned v ∧ (v = .int .i64 r ∧ Gr w w') := by
 unfold cover_node_sibling at hm
 refine calls_of_sw 5 Tryz.func116 rfl rfl rfl<|qs 1 rfl<|qm rfl<|qd 3 rfl ?_
 refine qm rfl<|qv rfl (vv_bitI (a := p0) (b := 1) (by simp) rfl rfl)<|qm rfl<|sd_done<|sw_ret ?_
 cases hm
 refine ⟨_, _, rfl, res_1 rfl (rv_tmp rfl), ?_⟩
 exact ⟨rfl, (Gr.refl w)⟩
theorem cover_tree_labels_1_it (p1 : Tcover_tree) (p2 : Int) (bp1 : Nat) (bp2 : Nat) (xs : List (Int × Int)) (hm : cover_tree_labels_1 p1 p2 = some xs) (w0 : World) (hbp1 : Bx w0 bp1 175 (Tcover_tree.cs p1)) (hbp2 : Bx w0 bp2 3 ([.int .i64 p2])) :
    IT Tryz.prog 251 [.pointer (some ⟨bp1, 0, none⟩), .pointer (some ⟨bp2, 0, none⟩)] (xs.map (fun (x : Int × Int) => ([.int .i64 x.1, .int .i64 x.2] : List Value))) ([bp1] ++ [bp2]) w0 := by
 intro l J Jx w fp hG hJ hJx hcap h0 hY
 have c1 := Bx.gr hbp1 hG
 have lt2 := c1.lt
 have nb3 : bp1 ∉ fp := hcap _ (by simp)
 have c4 := Bx.gr hbp2 hG
 have lt5 := c4.lt
 have nb6 : bp2 ∉ fp := hcap _ (by simp)
 have hd := dr_0 xs
 unfold cover_tree_labels_1 at hm
 refine calls_of_sw 48 Tryz.func251 rfl rfl rfl<|qs 1 rfl<|qe rfl (ev_box rfl rfl) ?_
 rintro _ w1 ⟨b1, rfl, hbw1, Bw1, G1⟩
 have z7 := G1.size
 have lt8 := Bw1.lt
 have nb9 : b1 ∉ fp := fun h => absurd (hJ.lt h0 _ h) (by omega)
 refine qd 4 rfl ?_
 have B10 := (c1.gr G1)
 refine qv rfl (vv_loadW agg_175 rfl B10 rfl) ?_
 have B11 := (c4.gr G1)
 refine qv rfl (vv_load1 (v := .int .i64 p2) one_3 rfl B11 rfl) ?_
 obtain ⟨x1, hx1, hm⟩ := bnd hm
 refine qe rfl (eC en_114 rfl (cover_tree_leaf_w hx1)) ?_
 rintro _ w2 ⟨rfl, G2⟩
 have J12 := (hJ.gr h0 G1)
 have z13 := G2.size
 refine qm rfl<|sd_done<|sw_seq<|qs 3 rfl ?_
 have B14 := (Bw1.gr G2)
 refine qv rfl (vv_load1 one_301 rfl B14 rfl) ?_
 have J16 := (hJ.gr J12 G2)
 have KI17 : Kp fp w w2 := (((Kp.refl fp w).gr G1).gr G2)
 obtain ⟨rr15, hm, he15⟩ := yl_some hm
 have hx15 := Dr.at hd he15
 have hd15 := Dr.next hd he15
 have B18 := (B10.gr G2)
 have B19 := (B11.gr G2)
 refine qe rfl (ev_yield rfl rfl (hY _ _ _ _ (getm hx15) J16 KI17 (fun c hc => Or.inl hc))) ?_
 rintro _ w3 ⟨bb, rfl, KF15, fp15, hg15, hJb⟩
 have z20 := KF15.size
 have sub15 : ∀ c ∈ fp15, c ∈ fp ∨ w.heap.size ≤ c := sub_grow (fun c hc => Or.inl hc) hg15 (by omega)
 have nb21 := notin_grow hg15 nb3 (by omega)
 have nb22 := notin_grow hg15 nb6 (by omega)
 have nb23 := notin_grow hg15 nb9 (by omega)
 cases bb
 · have Jy15 : Jx (0 + 1) fp15 w3 := hJb
   refine qv rfl (vv_not rfl)<|sd_done<|sw_condT rfl<|sw_ret<|then_r ?_
   have KI24 : Kp fp w w3 := (KI17.trans KF15 (fun c hc => Or.inl hc))
   exact ⟨_, _, rfl, res_none rfl, KI24, .inr ⟨_, _, sub15, (by rw [List.length_map]; exact (List.getElem?_eq_some_iff.1 hx15).1), Jy15⟩⟩
 have Jy15 : J (0 + 1) fp15 w3 := hJb
 refine qv rfl (vv_not rfl)<|sd_done<|sw_condF rfl<|qu<|qs 2 rfl ?_
 refine qe rfl (ev_alloc (cs := [.int .i64 0]) zv_180 rfl) ?_
 rintro _ w4 ⟨b4, rfl, hbw4, Bw4, G4⟩
 have z25 := G4.size
 have lt26 := Bw4.lt
 have nb27 : b4 ∉ fp15 := fun h => absurd (hJ.lt Jy15 _ h) (by omega)
 refine qe rfl (ev_st1 (cs' := [.int .i64 1]) (one_180).siz rfl rfl rfl Bw4 rfl rfl) ?_
 rintro _ w5 ⟨Bw5, M5⟩
 have z28 := M5.size
 refine sd_done<|sw_block ?_
 have J29 := (hJ.md (hJ.gr Jy15 G4) M5 nb27)
 have KI30 : Kp fp w w5 := (((KI17.trans KF15 (fun c hc => Or.inl hc)).gr G4).md M5 (Or.inr (by omega)))
 have B31 := (((Bx.kp B18 KF15 nb3).gr G4).md M5)
 have B32 := (((Bx.kp B19 KF15 nb6).gr G4).md M5)
 have B33 := (((Bx.kp B14 KF15 nb9).gr G4).md M5)
 refine sw_loopK (α := Nat × Int × Nat × Nat × List Nat × List (Int × Int)) ([5, 6, 7] ++ rg 14 34) (fun ⟨n1, a2, bq1_5, kk, fpl, rl⟩ => [(5, .pointer (some ⟨bq1_5, 0, none⟩))]) (fun ⟨n1, a2, bq1_5, kk, fpl, rl⟩ ks wr => (fixN (cover_tree_labels_1_L1 p1 x1) n1 a2 = some rl) ∧ Dr xs kk rl ∧ J kk fpl wr ∧ (∀ c ∈ fpl, c ∈ fp ∨ w.heap.size ≤ c) ∧ Kp fp w wr ∧ Bx wr bp1 175 (Tcover_tree.cs p1) ∧ Bx wr bp2 3 ([.int .i64 p2]) ∧ Bx wr b1 301 [.func (.yield l) #[] #[]] ∧ bp1 ∉ fpl ∧ bp2 ∉ fpl ∧ b1 ∉ fpl ∧ Bx wr bq1_5 180 ([.int .i64 a2]) ∧ bq1_5 ∉ fpl ∧ w.heap.size ≤ bq1_5 ∧ bq1_5 ≠ bp1 ∧ bq1_5 ≠ bp2 ∧ bq1_5 ≠ b1 ∧ MkI w.heap.size ks fpl wr) (fun ⟨n1, a2, bq1_5, kk, fpl, rl⟩ => n1) ⟨FUEL, 1, b4, (0 + 1), fp15, rr15⟩ [] rfl ?_ ?_ ?_
 · exact sbq
 · exact ⟨hm, hd15, J29, sub15, KI30, B31, B32, B33, nb21, nb22, nb23, Bw5, nb27, (by omega), (by omega), (by omega), (by omega), (mki_nil w.heap.size fp15 w5)⟩
 clear hm; rintro ⟨n1, a2, bq1_5, kk1, fpl1, rl1⟩ ks1 w6 ⟨hm, dl1, JLw6, sl1, KLw6, Sw6_0, Sw6_1, Sw6_2, Nw6_0, Nw6_1, Nw6_2, Pw6_0, Pw6_1, Pw6_2, Pw6_3, Pw6_4, Pw6_5, MKw6⟩
 have z34 := KLw6.size
 have lt35 := Sw6_0.lt
 have lt36 := Sw6_1.lt
 have lt37 := Sw6_2.lt
 have lt38 := Pw6_0.lt
 have hb := fix_succ hm; clear hm; obtain ⟨n1, rfl, hm⟩ := hb
 generalize hrec1 : fixN (cover_tree_labels_1_L1 p1 x1) n1 = rec1 at hm
 unfold cover_tree_labels_1_L1 at hm
 try dsimp only at hm
 refine sw_seq<|qs 3 rfl<|qv rfl (vv_load1 (v := .int .i64 a2) one_180 rfl Pw6_0 rfl)<|qm rfl<|qv rfl (vv_neq (a := a2) (b := x1) rfl rfl)<|sd_done ?_
 refine cnF rfl (fun c1 => ?_) (fun c1 => ?_)
 · replace hm := iF c1 hm
   refine sw_exit<|then_x<|then_x<|block_x ?_
   obtain ⟨wl161, lv161, kl161⟩ := MkI.leave MKw6
   have Jl161 := MkI.stb hJ MKw6 JLw6 kl161
   have Kl161 := MkI.trans MKw6 KLw6 kl161
   have he := Option.some.inj hm
   have hl := Dr.last (c := (fun (x : Int × Int) => ([.int .i64 x.1, .int .i64 x.2] : List Value))) dl1 he.symm
   refine ⟨_, _, lv161, res_none rfl, Kl161, .inl ⟨_, sl1, ?_⟩⟩
   rw [← hl]; exact Jl161
 replace hm := iT c1 hm
 refine qu<|sw_seq<|sw_block<|sw_seq<|qs 3 rfl ?_
 refine qv rfl (vv_fieldAddr fa_175_0 rfl)<|qv rfl (vv_load1 (v := bv p1.kind) one_5 rfl Sw6_0 rfl)<|qv rfl (vv_eqlB (p := p1.kind) (q := 1#8) rfl rfl)<|sd_done<|sw_cond rfl (fun c2 => ?_) (fun c2 => ?_)
 · replace hm := iT c2 hm
   refine sw_seq<|sw_seq<|dw [fpl1] [] (.leaf [(0,10),(1,10),(2,10),(3,0),(4,0),(5,0)]) ?_
   intro w7 G7 zw7
   refine sdz_leaf ?_
   have B39 := (Sw6_2.gr G7)
   refine qh 0 rfl rfl (Kp.refl fpl1 w7) (fun w hS => vv_load1 one_301 rfl (Bx.kp B39 hS Nw6_2) rfl) ?_
   have B40 := (Pw6_0.gr G7)
   refine qh 0 rfl rfl (Kp.refl fpl1 w7) (fun w hS => vv_load1 (v := .int .i64 a2) one_180 rfl (Bx.kp B40 hS Pw6_1) rfl)<|dn 0 rfl rfl (Kp.refl fpl1 w7) ?_
   obtain ⟨x3, hx3, hm⟩ := bnd hm
   refine qz [] rfl (eC en_240 rfl (cover_node_toward_w hx3)) ⟨fun _ => tk0, trivial⟩ ?_
   rintro _ w8 ⟨rfl, G8⟩
   have J41 := (hJ.gr JLw6 G7)
   have z42 := G8.size
   refine kG G8 ?_
   have J44 := (hJ.gr J41 G8)
   have Y1 := Gr.trans G7 G8
   have KI45 : Kp fp w w8 := (KLw6.gr Y1)
   obtain ⟨rr43, hm, he43⟩ := yl_some hm
   have hx43 := Dr.at dl1 he43
   have hd43 := Dr.next dl1 he43
   have B46 := (Sw6_0.gr Y1)
   have B47 := (Sw6_1.gr Y1)
   have B48 := (B39.gr G8)
   have B49 := (B40.gr G8)
   refine dd_y rfl rfl rfl (ev_yield rfl rfl (hY _ _ _ _ (getm hx43) J44 KI45 sl1)) ?_
   rintro _ w9 ⟨bb, rfl, KF43, fp43, hg43, hJb⟩
   refine ⟨fun S => Kp.trans S KF43 (fun b hb => Or.inl hb), ?_⟩
   have z50 := KF43.size
   have sub43 : ∀ c ∈ fp43, c ∈ fp ∨ w.heap.size ≤ c := sub_grow sl1 hg43 (by omega)
   have MK51 := (MKw6.gr Y1)
   have MK43 := MkI.kp MK51 KF43 hg43
   have nb52 := notin_grow hg43 Nw6_0 (by omega)
   have nb53 := notin_grow hg43 Nw6_1 (by omega)
   have nb54 := notin_grow hg43 Nw6_2 (by omega)
   have nb55 := notin_grow hg43 Pw6_1 (by omega)
   cases bb
   · have Jy43 : Jx (kk1 + 1) fp43 w9 := hJb
     refine qw rfl (vv_not rfl)<|sd_done<|sw_condT rfl<|sw_ret<|then_r<|then_r<|block_r ?_
     refine then_r<|then_r<|block_r ?_
     have KI56 : Kp fp w w9 := (KI45.trans KF43 sl1)
     obtain ⟨wl57, lv57, kl57⟩ := MkI.leave MK43
     have Jl57 := MkI.stb hJx MK43 Jy43 kl57
     have Kl57 := MkI.trans MK43 KI56 kl57
     exact ⟨_, _, lv57, res_none rfl, Kl57, .inr ⟨_, _, sub43, (by rw [List.length_map]; exact (List.getElem?_eq_some_iff.1 hx43).1), Jl57⟩⟩
   have Jy43 : J (kk1 + 1) fp43 w9 := hJb
   refine qw rfl (vv_not rfl)<|sd_done<|sw_condF rfl<|qu<|sw_exit<|then_x ?_
   refine block_x<|then_n<|sw_seq<|qs 1 rfl ?_
   have B58 := (Bx.kp B49 KF43 Pw6_1)
   refine qv rfl (vv_load1 (v := .int .i64 a2) one_180 rfl B58 rfl)<|sd_done<|qg 2 rfl<|qe rfl (ev_alloc (cs := [.int .i64 0]) zv_180 rfl) ?_
   rintro _ w10 ⟨b10, rfl, hbw10, Bw10, G10⟩
   have z59 := G10.size
   have lt60 := Bw10.lt
   have nb61 : b10 ∉ fp43 := fun h => absurd (hJ.lt Jy43 _ h) (by omega)
   refine qe rfl (ev_st1 (cs' := [.int .i64 a2]) (one_180).siz rfl rfl rfl Bw10 rfl rfl) ?_
   rintro _ w11 ⟨Bw11, M11⟩
   have J62 := (hJ.gr Jy43 G10)
   have MK63 := (MK43.gr G10)
   have z64 := M11.size
   refine sd_done<|qg 4 rfl<|qv rfl (vv_load1 (v := .int .i64 a2) one_180 rfl Bw11 rfl)<|qm rfl ?_
   obtain ⟨x4, hx4, hm⟩ := bnd hm
   refine qe rfl (eC en_240 rfl (cover_node_toward_w hx4)) ?_
   rintro _ w12 ⟨rfl, G12⟩
   have J65 := (hJ.md J62 M11 nb61)
   have z66 := G12.size
   have B67 := (Bw11.gr G12)
   refine qe rfl (ev_st1 (cs' := [.int .i64 x4]) (one_180).siz rfl rfl rfl B67 rfl rfl) ?_
   rintro _ w13 ⟨Bw13, M13⟩
   have J68 := (hJ.gr J65 G12)
   have MK69 := ((MK63.md M11 Bw10).gr G12)
   have z70 := M13.size
   refine sd_nil ?_
   have J71 := (hJ.md J68 M13 nb61)
   have KI72 : Kp fp w w13 := (((((KI45.trans KF43 sl1).gr G10).md M11 (Or.inr (by omega))).gr G12).md M13 (Or.inr (by omega)))
   have B73 := (((((Bx.kp B46 KF43 Nw6_0).gr G10).md M11).gr G12).md M13)
   have B74 := (((((Bx.kp B47 KF43 Nw6_1).gr G10).md M11).gr G12).md M13)
   have B75 := (((((Bx.kp B48 KF43 Nw6_2).gr G10).md M11).gr G12).md M13)
   have MK76 := (MK69.md M13 B67)
   subst hrec1
   exact ⟨⟨n1, x4, b10, (kk1 + 1), fp43, rr43⟩, ks1, rfl, sbq, ⟨hm, hd43, J71, sub43, KI72, B73, B74, B75, nb52, nb53, nb54, Bw13, nb61, (by omega), (by omega), (by omega), (by omega), MK76⟩, Nat.lt_succ_self _⟩
 replace hm := iF c2 hm
 refine qu<|qs 3 rfl<|qv rfl (vv_load1 (v := .int .i64 a2) one_180 rfl Pw6_0 rfl)<|qm rfl ?_
 obtain ⟨x5, hx5, hm⟩ := bnd hm
 refine qe rfl (eC en_191 rfl (cover_path_w hx5)) ?_
 rintro _ w14 ⟨k14_c0_0, k14_c0_1, rfl, O14_c0_0, f14_c0_0, O14_c0_1, f14_c0_1, G14⟩
 have z77 := G14.size
 have lt78 := O14_c0_0.lt
 have nb79 : k14_c0_0 ∉ fpl1 := fun h => absurd (hJ.lt JLw6 _ h) (by omega)
 have lt80 := O14_c0_1.lt
 have nb81 : k14_c0_1 ∉ fpl1 := fun h => absurd (hJ.lt JLw6 _ h) (by omega)
 refine sd_done<|sw_block ?_
 obtain ⟨l6, hl6, hm⟩ := bnd hm
 have J82 := (hJ.gr JLw6 G14)
 have KI83 : Kp fp w w14 := (KLw6.gr G14)
 have B84 := (Sw6_0.gr G14)
 have B85 := (Sw6_1.gr G14)
 have B86 := (Sw6_2.gr G14)
 have B87 := (Pw6_0.gr G14)
 have MK88 := (MKw6.gr G14)
 have MZ89 := MK88
 refine sw_rangeFunc (gf := 239) rfl en_239 (cover_path_1_it x5.1 x5.2 _ _ _ hl6 _ O14_c0_0 O14_c0_1) (by intro x hx; obtain ⟨a, _, rfl⟩ := List.mem_map.1 hx; rfl) rfl _ _ fpl1 (stb_mk (α := Nat × List Nat × (List (Int × Int))) (fun ⟨kk, fpl, rl⟩ rk => (itL (cover_tree_labels_1_R2 p1 a2) (cover_tree_labels_1_D2 x1 a2 rec1) (List.drop rk l6) () = some rl) ∧ Dr xs kk rl ∧ (∀ c ∈ fpl, c ∈ fp ∨ w.heap.size ≤ c) ∧ (∀ c ∈ fpl, c ∈ fpl1 ∨ w14.heap.size ≤ c)) (fun ⟨kk, fpl, rl⟩ => fpl) (fun ⟨kk, fpl, rl⟩ W => J kk fpl W) (by rintro ⟨kk, fpl, rl⟩ W h b hb; exact hJ.lt h b hb) (by rintro ⟨kk, fpl, rl⟩ W W' h he hs; exact hJ.keep h he hs)) (fun c => stb_c (c = .ret) (stb_mk (α := Nat × List Nat) (fun ⟨kk, fpl⟩ rk => kk ≤ xs.length ∧ (∀ c ∈ fpl, c ∈ fp ∨ w.heap.size ≤ c) ∧ (∀ c ∈ fpl, c ∈ fpl1 ∨ w14.heap.size ≤ c)) (fun ⟨kk, fpl⟩ => fpl) (fun ⟨kk, fpl⟩ W => Jx kk fpl W) (by rintro ⟨kk, fpl⟩ W h b hb; exact hJx.lt h b hb) (by rintro ⟨kk, fpl⟩ W W' h he hs; exact hJx.keep h he hs))) (by intro b hb; simp only [List.mem_cons, List.mem_append, mem_zf, List.not_mem_nil, or_false, false_or, not_or, ne_eq, List.nil_append, List.cons_append, true_and, and_true, false_and, and_false, not_true_eq_false, not_false_eq_true, or_true, true_or] at hb; rcases hb with rfl | rfl <;> first | exact ⟨nb79, by omega⟩ | exact ⟨nb81, by omega⟩) ⟨(kk1, fpl1, rl1), ⟨hm, dl1, sl1, fun c hc => Or.inl hc⟩, rfl, J82⟩ ?_ ?_ ?_
 · rintro l2 rk x fpr2 w15 hl hx hIr K15 hF hln hlt
   clear hm
   obtain ⟨e7, hxe, rfl⟩ := map_some hx
   obtain ⟨⟨_, fpa, _⟩, ⟨_, _, sa, sz⟩, ea, Ja⟩ := hIr
   replace ea : fpr2 = fpa := ea
   subst ea
   replace Ja : J _ fpr2 w15 := Ja
   have z90 := K15.size
   have nb91 := notin_grow hF Nw6_0 (by omega)
   have nb92 := notin_grow hF Nw6_1 (by omega)
   have nb93 := notin_grow hF Nw6_2 (by omega)
   have nb94 := notin_grow hF Pw6_1 (by omega)
   have nb95 := notin_grow hF nb79 (by omega)
   have nb96 := notin_grow hF nb81 (by omega)
   have MKw15 := MkI.kp MZ89 K15 hF
   refine qg 1 rfl<|qm rfl<|sd_nil<|⟨rfl, (Gr.refl _), ?_⟩
   rintro w16 M16 ⟨⟨kr2, fpb, rl2⟩, ⟨hm, dr2, sr2, s0r2⟩, eb, Jr2⟩
   replace eb : fpr2 = fpb := eb
   subst eb
   replace Jr2 : J kr2 fpr2 w16 := Jr2
   have z97 := M16.size
   replace hm := itL_at hm hxe
   generalize hnx2 : itL (cover_tree_labels_1_R2 p1 a2) (cover_tree_labels_1_D2 x1 a2 rec1) (List.drop (rk + 1) l6) = nx2 at hm
   unfold cover_tree_labels_1_R2 at hm
   try dsimp only at hm
   refine sw_block<|qs 3 rfl<|qm rfl ?_
   obtain ⟨x8, hx8, hm⟩ := bnd hm
   refine qe rfl (eC en_116 rfl (cover_node_sibling_w hx8)) ?_
   rintro _ w17 ⟨rfl, G17⟩
   have z98 := G17.size
   refine qm rfl<|qd 12 rfl ?_
   have B99 := (((Bx.kp B84 K15 Nw6_0).md M16).gr G17)
   refine qv rfl (vv_loadW agg_175 rfl B99 rfl) ?_
   have B100 := (((Bx.kp B87 K15 Pw6_1).md M16).gr G17)
   refine qv rfl (vv_load1 (v := .int .i64 a2) one_180 rfl B100 rfl)<|qm rfl<|qv rfl (vv_build (cs := TSubset.cs (TSubset.mk a2 x8)) bs_131 rfl rfl) ?_
   obtain ⟨x9, hx9, hm⟩ := bnd hm
   refine qe rfl (eC en_124 rfl (cover_tree_subset_w hx9)) ?_
   rintro _ w18 ⟨rfl, G18⟩
   have J101 := (hJ.gr Jr2 G17)
   have z102 := G18.size
   refine qpF rfl (vv_move rfl) (fun c3 => ?_) (fun c3 => ?_)
   · replace hm := cnd_f c3 hm
     refine qk rfl<|qk rfl<|qk rfl<|qk rfl<|qk rfl<|qm rfl<|sd_done ?_
     refine sw_condF rfl<|sw_skip<|block_n ?_
     have J122 := (hJ.gr J101 G18)
     subst hnx2
     have Y2 := Gr.trans G17 G18
     exact ⟨((Kp.refl fpr2 w16).gr Y2), fpr2, (fun c hc => Or.inl hc : ∀ c ∈ fpr2, c ∈ fpr2 ∨ w16.heap.size ≤ c), (kr2, fpr2, rl2), ⟨hm, dr2, sr2, (sub_grow s0r2 (fun c hc => Or.inl hc : ∀ c ∈ fpr2, c ∈ fpr2 ∨ w16.heap.size ≤ c) (by omega))⟩, rfl, J122⟩
   replace hm := cnd_t c3 hm
   have Y3 := Gr.trans G17 G18
   have B103 := (((Bx.kp B86 K15 Nw6_2).md M16).gr Y3)
   refine qv rfl (vv_load1 one_301 rfl B103 rfl) ?_
   have B104 := (B100.gr G18)
   refine qv rfl (vv_load1 (v := .int .i64 a2) one_180 rfl B104 rfl)<|qm rfl ?_
   have J106 := (hJ.gr J101 G18)
   have KI107 : Kp fp w w18 := (((KI83.trans K15 sl1).md M16 (Or.inr (by omega))).gr Y3)
   obtain ⟨rr105, hm, he105⟩ := yl_some hm
   have hx105 := Dr.at dr2 he105
   have hd105 := Dr.next dr2 he105
   have B108 := (B99.gr G18)
   have B109 := (((Bx.kp B85 K15 Nw6_1).md M16).gr Y3)
   have B110 := (((Bx.kp O14_c0_0 K15 nb79).md M16).gr Y3)
   have B111 := (((Bx.kp O14_c0_1 K15 nb81).md M16).gr Y3)
   refine qe rfl (ev_yield rfl rfl (hY _ _ _ _ (getm hx105) J106 KI107 sr2)) ?_
   rintro _ w19 ⟨bb, rfl, KF105, fp105, hg105, hJb⟩
   have z112 := KF105.size
   have sub105 : ∀ c ∈ fp105, c ∈ fp ∨ w.heap.size ≤ c := sub_grow sr2 hg105 (by omega)
   have subr105 := sub_grow (fun c hc => Or.inl hc : ∀ c ∈ fpr2, c ∈ fpr2 ∨ w16.heap.size ≤ c) hg105 (by omega)
   have MK113 := ((MkI.mdl MKw15 M16 MZ89 hl).gr Y3)
   have MK105 := MkI.kp MK113 KF105 hg105
   have nb114 := notin_grow hg105 nb91 (by omega)
   have nb115 := notin_grow hg105 nb92 (by omega)
   have nb116 := notin_grow hg105 nb93 (by omega)
   have nb117 := notin_grow hg105 nb94 (by omega)
   have nb118 := notin_grow hg105 nb95 (by omega)
   have nb119 := notin_grow hg105 nb96 (by omega)
   cases bb
   · have Jy105 : Jx (kr2 + 1) fp105 w19 := hJb
     refine qv rfl (vv_not rfl)<|qm rfl<|sd_done<|sw_condT rfl<|sw_ret<|block_r ?_
     exact ⟨(((Kp.refl fpr2 w16).gr Y3).trans KF105 (fun c hc => Or.inl hc : ∀ c ∈ fpr2, c ∈ fpr2 ∨ w16.heap.size ≤ c)), fp105, subr105, rfl, ((kr2 + 1), fp105), ⟨(List.getElem?_eq_some_iff.1 hx105).1, sub105, (sub_grow s0r2 subr105 (by omega))⟩, rfl, Jy105⟩
   have Jy105 : J (kr2 + 1) fp105 w19 := hJb
   refine qv rfl (vv_not rfl)<|qm rfl<|sd_done<|sw_condF rfl<|sw_skip<|block_n ?_
   subst hnx2
   exact ⟨(((Kp.refl fpr2 w16).gr Y3).trans KF105 (fun c hc => Or.inl hc : ∀ c ∈ fpr2, c ∈ fpr2 ∨ w16.heap.size ≤ c)), fp105, subr105, ((kr2 + 1), fp105, rr105), ⟨hm, hd105, sub105, (sub_grow s0r2 subr105 (by omega))⟩, rfl, Jy105⟩
 · clear hm; rintro Dw20 fpdw20 w20 hDw20 Dfw20 nw20 ⟨⟨kd, fpe, rd⟩, ⟨hm, dd, sd, s0d⟩, ed, Jd⟩ K20
   replace ed : fpdw20 = fpe := ed
   subst ed
   replace Jd : J kd fpdw20 w20 := Jd
   have z124 := K20.size
   have lt125 := Df.lt (w := w20) Dfw20
   have nb126 := notin_grow s0d Nw6_0 (by omega)
   have nb127 := notin_grow s0d Nw6_1 (by omega)
   have nb128 := notin_grow s0d Nw6_2 (by omega)
   have nb129 := notin_grow s0d Pw6_1 (by omega)
   have nb130 := notin_grow s0d nb79 (by omega)
   have nb131 := notin_grow s0d nb81 (by omega)
   have MKw20 := MkI.cons (MkI.kp MZ89 K20 s0d) MZ89 hDw20 (by omega) Dfw20 nw20
   replace hm := itL_end hm
   unfold cover_tree_labels_1_D2 at hm
   try dsimp only at hm
   refine block_n<|block_n<|then_n<|sw_seq<|qs 1 rfl ?_
   have B132 := (Bx.kp B87 K20 Pw6_1)
   refine qv rfl (vv_load1 (v := .int .i64 a2) one_180 rfl B132 rfl)<|sd_done<|qg 2 rfl<|qe rfl (ev_alloc (cs := [.int .i64 0]) zv_180 rfl) ?_
   rintro _ w21 ⟨b21, rfl, hbw21, Bw21, G21⟩
   have z133 := G21.size
   have lt134 := Bw21.lt
   have nb135 : b21 ∉ fpdw20 := fun h => absurd (hJ.lt Jd _ h) (by omega)
   refine qe rfl (ev_st1 (cs' := [.int .i64 a2]) (one_180).siz rfl rfl rfl Bw21 rfl rfl) ?_
   rintro _ w22 ⟨Bw22, M22⟩
   have J136 := (hJ.gr Jd G21)
   have MK137 := (MKw20.gr G21)
   have z138 := M22.size
   refine sd_done<|qg 4 rfl<|qv rfl (vv_load1 (v := .int .i64 a2) one_180 rfl Bw22 rfl)<|qm rfl ?_
   obtain ⟨x10, hx10, hm⟩ := bnd hm
   refine qe rfl (eC en_240 rfl (cover_node_toward_w hx10)) ?_
   rintro _ w23 ⟨rfl, G23⟩
   have J139 := (hJ.md J136 M22 nb135)
   have z140 := G23.size
   have B141 := (Bw22.gr G23)
   refine qe rfl (ev_st1 (cs' := [.int .i64 x10]) (one_180).siz rfl rfl rfl B141 rfl rfl) ?_
   rintro _ w24 ⟨Bw24, M24⟩
   have J142 := (hJ.gr J139 G23)
   have MK143 := ((MK137.md M22 Bw21).gr G23)
   have z144 := M24.size
   refine sd_nil ?_
   have J145 := (hJ.md J142 M24 nb135)
   have KI146 : Kp fp w w24 := (((((KI83.trans K20 sl1).gr G21).md M22 (Or.inr (by omega))).gr G23).md M24 (Or.inr (by omega)))
   have B147 := (((((Bx.kp B84 K20 Nw6_0).gr G21).md M22).gr G23).md M24)
   have B148 := (((((Bx.kp B85 K20 Nw6_1).gr G21).md M22).gr G23).md M24)
   have B149 := (((((Bx.kp B86 K20 Nw6_2).gr G21).md M22).gr G23).md M24)
   have MK150 := (MK143.md M24 B141)
   subst hrec1
   exact ⟨⟨n1, x10, b21, kd, fpdw20, rd⟩, (Dw20 :: ks1), rfl, sbq, ⟨hm, dd, J145, sd, KI146, B147, B148, B149, nb126, nb127, nb128, Bw24, nb135, (by omega), (by omega), (by omega), (by omega), MK150⟩, Nat.lt_succ_self _⟩
 clear hm; rintro Dw25 c rk fpdw25 w25 hDw25 Dfw25 nw25 hle ⟨rfl, ⟨kd, fpe⟩, ⟨led, sd, s0d⟩, ed, Jd⟩ K25
 replace ed : fpdw25 = fpe := ed
 subst ed
 replace Jd : Jx kd fpdw25 w25 := Jd
 have z151 := K25.size
 have lt152 := Df.lt (w := w25) Dfw25
 have nb153 := notin_grow s0d Nw6_0 (by omega)
 have nb154 := notin_grow s0d Nw6_1 (by omega)
 have nb155 := notin_grow s0d Nw6_2 (by omega)
 have nb156 := notin_grow s0d Pw6_1 (by omega)
 have nb157 := notin_grow s0d nb79 (by omega)
 have nb158 := notin_grow s0d nb81 (by omega)
 have MKw25 := MkI.cons (MkI.kp MZ89 K25 s0d) MZ89 hDw25 (by omega) Dfw25 nw25
 refine sw_ret<|block_r<|block_r<|then_r<|then_r<|block_r ?_
 have KI159 : Kp fp w w25 := (KI83.trans K25 sl1)
 obtain ⟨wl160, lv160, kl160⟩ := MkI.leave MKw25
 have Jl160 := MkI.stb hJx MKw25 Jd kl160
 have Kl160 := MkI.trans MKw25 KI159 kl160
 exact ⟨_, _, lv160, res_none rfl, Kl160, .inr ⟨_, _, sd, (by rw [List.length_map]; exact led), Jl160⟩⟩
theorem cover_nodeKey_w {p0 p1 r} (hm : cover_nodeKey p0 p1 = some r) {w : World} :
    Calls Tryz.prog 195 [kv p0, .int .i64 p1].toArray w fun e w' => ∃ v, e = .returned v ∧ (v = kv r ∧ Gr w w') := by
 unfold cover_nodeKey at hm
 refine calls_of_sw 9 Tryz.func195 rfl rfl rfl<|qs 2 rfl<|qe rfl (ev_box (cs := kb p0) rfl rfl) ?_
 rintro _ w1 ⟨b1, rfl, hbw1, Bw1, G1⟩
 have z1 := G1.size
 have lt2 := Bw1.lt
 refine qe rfl (ev_alloc (cs := kb k0) zv_23 rfl) ?_
 rintro _ w2 ⟨b2, rfl, hbw2, Bw2, G2⟩
 have z3 := G2.size
 have lt4 := Bw2.lt
 refine qd 5 rfl ?_
 have B5 := (Bw1.gr G2)
 refine qv rfl (vv_loadW agg_23 rfl B5 rfl)<|qm rfl<|qv rfl (vv_cvIU cv_180_24 rfl)<|qe rfl (eC en_48 rfl (derive_c p0 (un8 30#8) (un8_nn _) (un8_le _) (wd p1) _)) ?_
 rintro _ w3 ⟨rfl, G3⟩
 have z6 := G3.size
 have B7 := (Bw2.gr G3)
 refine qe rfl (ev_stW agg_23 rfl rfl rfl B7 rfl rfl) ?_
 rintro _ w4 ⟨Bw4, M4⟩
 have z8 := M4.size
 refine sd_done<|sw_ret ?_
 have X9 := (((((Gr.refl w).trans G1).trans G2).trans G3).md M4)
 cases hm
 refine ⟨_, _, rfl, res_1 rfl (rv_cellW agg_23 rfl Bw4 rfl), ?_⟩
 exact ⟨rfl, X9⟩
theorem cover_descend_w {p0 p1 p2 r} (hm : cover_descend p0 p1 p2 = some r) {w : World} :
    Calls Tryz.prog 197 [kv p0, .int .i64 p1, .int .i64 p2].toArray w fun e w' => ∃ v, e = .returned v ∧ (v = kv r ∧ Gr w w') := by
 unfold cover_descend at hm
 refine calls_of_sw 20 Tryz.func197 rfl rfl rfl<|qs 2 rfl<|qe rfl (ev_box (cs := kb p0) rfl rfl) ?_
 rintro _ w1 ⟨b1, rfl, hbw1, Bw1, G1⟩
 have z1 := G1.size
 have lt2 := Bw1.lt
 refine qe rfl (ev_alloc (cs := kb k0) zv_23 rfl) ?_
 rintro _ w2 ⟨b2, rfl, hbw2, Bw2, G2⟩
 have z3 := G2.size
 have lt4 := Bw2.lt
 refine sd_done<|sw_seq<|qs 3 rfl<|qm rfl<|qm rfl ?_
 obtain ⟨x1, hx1, hm⟩ := bnd hm
 refine qe rfl (eC en_191 rfl (cover_path_w hx1)) ?_
 rintro _ w3 ⟨k3_c0_0, k3_c0_1, rfl, O3_c0_0, f3_c0_0, O3_c0_1, f3_c0_1, G3⟩
 have z5 := G3.size
 have lt6 := O3_c0_0.lt
 have lt7 := O3_c0_1.lt
 refine sd_done<|sw_block ?_
 obtain ⟨l2, hl2, hm⟩ := bnd hm
 have X8 := ((((Gr.refl w).trans G1).trans G2).trans G3)
 have B9 := ((Bw1.gr G2).gr G3)
 have B10 := (Bw2.gr G3)
 refine sw_rangeFunc (gf := 239) rfl en_239 (cover_path_1_it x1.1 x1.2 _ _ _ hl2 _ O3_c0_0 O3_c0_1) (by intro x hx; obtain ⟨a, _, rfl⟩ := List.mem_map.1 hx; rfl) rfl _ (fun _ _ _ _ => False) ([b1]) (stb_mk (α := W2) (fun a4 rk => itL cover_descend_R1 cover_descend_D1 (List.drop rk l2) a4 = some r) (fun a4 => ([b1])) (fun a4 W => Bx W b1 23 (kb a4) ∧ True) (by rintro a4 W ⟨F0, _⟩ b hb; have q0 := F0.lt; replace hb : b ∈ ([b1]) := hb; simp only [List.mem_cons, List.mem_append, mem_zf, List.not_mem_nil, or_false, false_or, not_or, ne_eq, List.nil_append, List.cons_append, true_and, and_true, false_and, and_false, not_true_eq_false, not_false_eq_true, or_true, true_or] at hb; omega) (by rintro a4 W W' ⟨F0, _⟩ E hs; replace hs : ∀ b ∈ ([b1]), W'.heap[b]? = W.heap[b]? := hs; exact ⟨(hs _ (by simp)).trans F0, trivial⟩)) (fun _ => stb_false) (by intro b hb; simp only [List.mem_cons, List.mem_append, mem_zf, List.not_mem_nil, or_false, false_or, not_or, ne_eq, List.nil_append, List.cons_append, true_and, and_true, false_and, and_false, not_true_eq_false, not_false_eq_true, or_true, true_or] at hb ⊢; omega) ⟨p0, hm, rfl, B9, trivial⟩ ?_ ?_ ?_
 · rintro l rk x fp w4 hl hx _ K4 hF hln hlt
   clear hm
   obtain ⟨e5, hxe, rfl⟩ := map_some hx
   have Zw4 : Kz [(1, b1)] w3 w4 := kz_of_kp K4 (by intro k hk; simp only [Nin, and_true, List.mem_cons, List.mem_append, mem_zf, List.not_mem_nil, or_false, false_or, not_or, ne_eq, List.nil_append, List.cons_append, true_and, and_true, false_and, and_false, not_true_eq_false, not_false_eq_true, or_true, true_or] at hk ⊢; omega)
   have z11 := K4.size
   refine qg 1 rfl<|qm rfl<|sd_nil<|⟨rfl, (Gr.refl _), ?_⟩
   rintro w5 M5 ⟨a4, hm, rfl, Fw5_0, -⟩
   have z12 := M5.size
   have lt13 := Fw5_0.lt
   replace hm := itL_at hm hxe
   generalize hnx1 : itL cover_descend_R1 cover_descend_D1 (List.drop (rk + 1) l2) = nx1 at hm
   unfold cover_descend_R1 at hm
   try dsimp only at hm
   refine sw_block<|qs 1 rfl<|qm rfl<|sd_done ?_
   have X14 := ((X8.kz Zw4).md M5)
   refine qj (β := BitVec 8) [8, 13, 14, 15] (fun a6 => [(8, bv a6)]) (fun a6 wr => (cover_descend_J2 a4 nx1 a6 = some r) ∧ Kz [] w5 wr) ?_ ?_
   · refine qs 3 rfl<|qm rfl ?_
     obtain ⟨x7, hx7, hm⟩ := bnd hm
     refine qv rfl (vv_remI (a := e5) (b := 2) rfl rfl hx7)<|qv rfl (vv_eql (a := x7) (b := 1) rfl rfl)<|sd_done<|cnF rfl (fun c1 => ?_) (fun c1 => ?_)
     · replace hm := iF c1 hm
       refine sw_skip ?_
       exact ⟨rfl, 31#8, sbq, hm, kz0⟩
     replace hm := iT c1 hm
     refine qg 1 rfl<|qm rfl<|sd_nil ?_
     exact ⟨rfl, 32#8, sbq, hm, kz0⟩
   clear hm; rintro a6 w6 ⟨hm, K6⟩
   have z15 := K6.size
   unfold cover_descend_J2 at hm
   refine qg 4 rfl ?_
   have B16 := (Fw5_0.kz K6)
   refine qv rfl (vv_loadW agg_23 rfl B16 rfl)<|qm rfl<|qe rfl (eC en_48 rfl (derive_c a4 (un8 a6) (un8_nn _) (un8_le _) 0#64 _)) ?_
   rintro _ w7 ⟨rfl, G7⟩
   have z17 := G7.size
   have B18 := (B16.gr G7)
   refine qe rfl (ev_stW agg_23 rfl rfl rfl B18 rfl rfl) ?_
   rintro _ w8 ⟨Bw8, M8⟩
   have z19 := M8.size
   refine sd_nil<|block_n ?_
   have K_20 : Kz [(1, b1)] w5 w8 := (((Kz.kz (Kz.refl _ _) K6).gr G7).md M8)
   have Kq20 : Kp ([b1]) w5 w8 := kp_of_kz K_20 (by intro k hk; simp only [Nin, and_true, List.mem_cons, List.mem_append, mem_zf, List.not_mem_nil, or_false, false_or, not_or, ne_eq, List.nil_append, List.cons_append, true_and, and_true, false_and, and_false, not_true_eq_false, not_false_eq_true, or_true, true_or] at hk ⊢; omega)
   subst hnx1
   exact ⟨Kq20, ([b1]), (by intro c hc; simp only [List.mem_cons, List.mem_append, mem_zf, List.not_mem_nil, or_false, false_or, not_or, ne_eq, List.nil_append, List.cons_append, true_and, and_true, false_and, and_false, not_true_eq_false, not_false_eq_true, or_true, true_or] at hc ⊢; omega), ⟨drv a4 (un8 a6) 0#64, hm, rfl, Bw8, trivial⟩⟩
 · clear hm; rintro Dw9 fp w9 hDw9 Dfw9 nw9 ⟨a4, hm, rfl, Fw9_0, -⟩ K9
   replace hm := itL_end hm
   have Zw9 : Kz [(1, b1)] w3 w9 := kz_of_kp K9 (by intro k hk; simp only [Nin, and_true, List.mem_cons, List.mem_append, mem_zf, List.not_mem_nil, or_false, false_or, not_or, ne_eq, List.nil_append, List.cons_append, true_and, and_true, false_and, and_false, not_true_eq_false, not_false_eq_true, or_true, true_or] at hk ⊢; omega)
   have z23 := K9.size
   have lt24 := Df.lt (w := w9) Dfw9
   simp only [List.mem_cons, List.mem_append, mem_zf, List.not_mem_nil, or_false, false_or, not_or, ne_eq, List.nil_append, List.cons_append, true_and, and_true, false_and, and_false, not_true_eq_false, not_false_eq_true, or_true, true_or, not_and] at nw9
   have lt25 := Fw9_0.lt
   unfold cover_descend_D1 at hm
   try dsimp only at hm
   refine block_n<|then_n<|qs 2 rfl<|qv rfl (vv_loadW agg_23 rfl Fw9_0 rfl) ?_
   have B26 := (B10.kz Zw9)
   refine qe rfl (ev_stW agg_23 rfl rfl rfl B26 rfl rfl) ?_
   rintro _ w10 ⟨Bw10, M10⟩
   have z27 := M10.size
   refine sd_done<|sw_ret ?_
   have DL28 := (Df.md Dfw9 M10)
   have L28 := Md.put (w := w10) Dw9 (.deferred none)
   have zL28 := L28.size
   have B29 := (Bw10.md L28)
   have X30 : Gr w (w10.putObj Dw9 (.deferred none)) := (((X8.kz Zw9).md M10).md L28)
   cases hm
   refine ⟨_, _, ⟨Dw9, rfl, DL28, rfl⟩, res_1 rfl (rv_cellW agg_23 rfl B29 rfl), ?_⟩
   exact ⟨rfl, X30⟩
 rintro _ _ _ _ _ _ _ _ _ h _
 exact h.elim
theorem cover_middle_w {p0 r} (hm : cover_middle p0 = some r) {w : World} :
    Calls Tryz.prog 196 [kv p0].toArray w fun e w' => ∃ v, e = .returned v ∧ (v = kv r ∧ Gr w w') := by
 unfold cover_middle at hm
 refine calls_of_sw 5 Tryz.func196 rfl rfl rfl<|qs 2 rfl<|qe rfl (ev_box (cs := kb p0) rfl rfl) ?_
 rintro _ w1 ⟨b1, rfl, hbw1, Bw1, G1⟩
 have z1 := G1.size
 have lt2 := Bw1.lt
 refine qe rfl (ev_alloc (cs := kb k0) zv_23 rfl) ?_
 rintro _ w2 ⟨b2, rfl, hbw2, Bw2, G2⟩
 have z3 := G2.size
 have lt4 := Bw2.lt
 refine qd 3 rfl ?_
 have B5 := (Bw1.gr G2)
 refine qv rfl (vv_loadW agg_23 rfl B5 rfl)<|qe rfl (eC en_48 rfl (derive_c p0 (un8 33#8) (un8_nn _) (un8_le _) 0#64 _)) ?_
 rintro _ w3 ⟨rfl, G3⟩
 have z6 := G3.size
 have B7 := (Bw2.gr G3)
 refine qe rfl (ev_stW agg_23 rfl rfl rfl B7 rfl rfl) ?_
 rintro _ w4 ⟨Bw4, M4⟩
 have z8 := M4.size
 refine sd_done<|sw_ret ?_
 have X9 := (((((Gr.refl w).trans G1).trans G2).trans G3).md M4)
 cases hm
 refine ⟨_, _, rfl, res_1 rfl (rv_cellW agg_23 rfl Bw4 rfl), ?_⟩
 exact ⟨rfl, X9⟩
theorem cover_tree_key_w {p0 p1 p2 r} (hm : cover_tree_key p0 p1 p2 = some r) {w : World} :
    Calls Tryz.prog 122 [.agg (Tcover_tree.cs p0).toArray, kv p1, .agg (TSubset.cs p2).toArray].toArray w fun e w' => ∃ v, e = .returned v ∧ (v = kv r ∧ Gr w w') := by
 unfold cover_tree_key at hm
 refine calls_of_sw 32 Tryz.func122 rfl rfl rfl<|qs 4 rfl<|qe rfl (ev_box (cs := Tcover_tree.cs p0) rfl rfl) ?_
 rintro _ w1 ⟨b1, rfl, hbw1, Bw1, G1⟩
 have z1 := G1.size
 have lt2 := Bw1.lt
 refine qe rfl (ev_box (cs := kb p1) rfl rfl) ?_
 rintro _ w2 ⟨b2, rfl, hbw2, Bw2, G2⟩
 have z3 := G2.size
 have lt4 := Bw2.lt
 refine qe rfl (ev_box (cs := TSubset.cs p2) rfl rfl) ?_
 rintro _ w3 ⟨b3, rfl, hbw3, Bw3, G3⟩
 have z5 := G3.size
 have lt6 := Bw3.lt
 refine qe rfl (ev_alloc (cs := kb k0) zv_23 rfl) ?_
 rintro _ w4 ⟨b4, rfl, hbw4, Bw4, G4⟩
 have z7 := G4.size
 have lt8 := Bw4.lt
 refine sd_done<|sw_seq<|dw [([])] [] (.leaf [(0,10),(1,10),(2,10),(3,10),(4,10),(5,10)]) ?_
 intro w5 G5 zw5
 refine sdz_leaf<|dh 0 rfl rfl (fun w hS => vv_fieldAddr fa_131_0 rfl) ?_
 have Y1 := Gr.trans G4 G5
 have B9 := (Bw3.gr Y1)
 refine dh 0 rfl rfl (fun w hS => vv_load1 (v := .int .i64 p2.Node) one_3 rfl (Bx.kp B9 hS) rfl)<|dh 0 rfl rfl (fun w hS => vv_fieldAddr fa_131_1 rfl)<|dh 0 rfl rfl (fun w hS => vv_load1 (v := .int .i64 p2.Minus) one_3 rfl (Bx.kp B9 hS) rfl)<|dm 0 rfl rfl<|dm 0 rfl rfl<|sd_done<|sw_seq ?_
 refine sw_block<|qs 4 rfl<|qv rfl (vv_fieldAddr fa_175_0 rfl) ?_
 have Y2 := Gr.trans (Gr.trans G2 G3) Y1
 have B10 := (Bw1.gr Y2)
 refine qv rfl (vv_load1 (v := bv p0.kind) one_5 rfl B10 rfl)<|qv rfl (vv_eqlB (p := p0.kind) (q := 1#8) rfl rfl)<|qm rfl<|sd_done<|sw_cond rfl (fun c1 => ?_) (fun c1 => ?_)
 · replace hm := iT c1 hm
   refine qs 4 rfl ?_
   have Y3 := Gr.trans G3 Y1
   have B11 := (Bw2.gr Y3)
   refine qv rfl (vv_loadW agg_23 rfl B11 rfl)<|qm rfl ?_
   obtain ⟨x1, hx1, hm⟩ := bnd hm
   refine qe rfl (eC en_195 rfl (cover_nodeKey_w hx1)) ?_
   rintro _ w6 ⟨rfl, G6⟩
   have z12 := G6.size
   have B13 := ((Bw4.gr G5).gr G6)
   refine qe rfl (ev_stW agg_23 rfl rfl rfl B13 rfl rfl) ?_
   rintro _ w7 ⟨Bw7, M7⟩
   have z14 := M7.size
   refine sd_done<|sw_ret<|block_r<|then_r ?_
   have X15 := (((((Gr.refl w).trans G1).trans Y2).trans G6).md M7)
   cases hm
   refine ⟨_, _, rfl, res_1 rfl (rv_cellW agg_23 rfl Bw7 rfl), ?_⟩
   exact ⟨rfl, X15⟩
 replace hm := iF c1 hm
 refine qs 3 rfl<|qm rfl<|qv rfl (vv_eql (a := p2.Minus) (b := 0) rfl rfl)<|qm rfl<|sd_done<|sw_cond rfl (fun c2 => ?_) (fun c2 => ?_)
 · replace hm := iT c2 hm
   refine qs 3 rfl ?_
   have Y4 := Gr.trans G3 Y1
   have B16 := (Bw2.gr Y4)
   refine qv rfl (vv_loadW agg_23 rfl B16 rfl)<|qe rfl (eC en_48 rfl (derive_c p1 (un8 34#8) (un8_nn _) (un8_le _) 0#64 _)) ?_
   rintro _ w8 ⟨rfl, G8⟩
   have z17 := G8.size
   have B18 := ((Bw4.gr G5).gr G8)
   refine qe rfl (ev_stW agg_23 rfl rfl rfl B18 rfl rfl) ?_
   rintro _ w9 ⟨Bw9, M9⟩
   have z19 := M9.size
   refine sd_done<|sw_ret<|block_r<|then_r ?_
   have X20 := (((((Gr.refl w).trans G1).trans Y2).trans G8).md M9)
   cases hm
   refine ⟨_, _, rfl, res_1 rfl (rv_cellW agg_23 rfl Bw9 rfl), ?_⟩
   exact ⟨rfl, X20⟩
 replace hm := iF c2 hm
 refine sw_skip<|block_n<|then_n<|qs 8 rfl ?_
 have Y5 := Gr.trans G3 Y1
 have B21 := (Bw2.gr Y5)
 refine qv rfl (vv_loadW agg_23 rfl B21 rfl)<|qm rfl ?_
 obtain ⟨x2, hx2, hm⟩ := bnd hm
 refine qe rfl (eC en_195 rfl (cover_nodeKey_w hx2)) ?_
 rintro _ w10 ⟨rfl, G10⟩
 have z22 := G10.size
 refine qm rfl<|qm rfl ?_
 obtain ⟨x3, hx3, hm⟩ := bnd hm
 refine qe rfl (eC en_197 rfl (cover_descend_w hx3)) ?_
 rintro _ w11 ⟨rfl, G11⟩
 have z23 := G11.size
 obtain ⟨x4, hx4, hm⟩ := bnd hm
 refine qe rfl (eC en_196 rfl (cover_middle_w hx4)) ?_
 rintro _ w12 ⟨rfl, G12⟩
 have z24 := G12.size
 have Y6 := Gr.trans (Gr.trans (Gr.trans G5 G10) G11) G12
 have B25 := (Bw4.gr Y6)
 refine qe rfl (ev_stW agg_23 rfl rfl rfl B25 rfl rfl) ?_
 rintro _ w13 ⟨Bw13, M13⟩
 have z26 := M13.size
 refine sd_done<|sw_ret ?_
 have X27 := (((((((Gr.refl w).trans G1).trans Y2).trans G10).trans G11).trans G12).md M13)
 cases hm
 refine ⟨_, _, rfl, res_1 rfl (rv_cellW agg_23 rfl Bw13 rfl), ?_⟩
 exact ⟨rfl, X27⟩
theorem cover_Secret_w {p0 p1 p2 r} (hm : cover_Secret p0 p1 p2 = some r) {w : World} :
    Calls Tryz.prog 137 [kv p0, .agg (TScheme.cs p1).toArray, .int .i64 p2].toArray w fun e w' => ∃ v, e = .returned v ∧ (∃ ur0_1 zr0_1 gr0_1, v = .tuple [.agg (TSecret.cs r.1 ur0_1).toArray, .int .i64 r.2].toArray ∧ Own w' zr0_1 gr0_1 92 18 ur0_1 (r.1.Labels.map TLabel.cs) ∧ Hdn (zr0_1 = 0 ∨ w.heap.size ≤ gr0_1) ∧ Gr w w') := by
 unfold cover_Secret at hm
 refine calls_of_sw 61 Tryz.func137 rfl rfl rfl<|qs 4 rfl<|qe rfl (ev_box (cs := kb p0) rfl rfl) ?_
 rintro _ w1 ⟨b1, rfl, hbw1, Bw1, G1⟩
 have z1 := G1.size
 have lt2 := Bw1.lt
 refine qe rfl (ev_box (cs := TScheme.cs p1) rfl rfl) ?_
 rintro _ w2 ⟨b2, rfl, hbw2, Bw2, G2⟩
 have z3 := G2.size
 have lt4 := Bw2.lt
 refine qe rfl (ev_alloc (cs := TSecret.cs (TSecret.mk 0 [] (TPoint.mk 0#64 0#64)) (.slice none 0 0)) zv_33 rfl) ?_
 rintro _ w3 ⟨b3, rfl, hbw3, Bw3, G3⟩
 have z5 := G3.size
 have lt6 := Bw3.lt
 refine qm rfl<|qd 8 rfl ?_
 have B7 := (Bw2.gr G3)
 refine qv rfl (vv_loadW agg_28 rfl B7 rfl) ?_
 obtain ⟨x1, hx1, hm⟩ := bnd hm
 refine qe rfl (eC en_112 rfl (cover_enter_w hx1 (Own.rd (own_nil _ 0 131 2)))) ?_
 rintro _ w4 ⟨rfl, G4⟩
 have z8 := G4.size
 refine qm rfl<|qm rfl<|qm rfl<|qe rfl (ev_alloc (cs := Tcover_tree.cs (Tcover_tree.mk 0#8 0 0)) zv_175 rfl) ?_
 rintro _ w5 ⟨b5, rfl, hbw5, Bw5, G5⟩
 have z9 := G5.size
 have lt10 := Bw5.lt
 refine qe rfl (ev_stW agg_175 rfl rfl rfl Bw5 rfl rfl) ?_
 rintro _ w6 ⟨Bw6, M6⟩
 have z11 := M6.size
 refine qm rfl<|sd_done<|sw_seq<|qs 2 rfl<|qm rfl<|qv rfl (vv_neq (a := x1.2) (b := 0) rfl rfl) ?_
 refine sd_done<|sw_cond rfl (fun c1 => ?_) (fun c1 => ?_)
 · replace hm := iT c1 hm
   refine qs 4 rfl<|qv rfl (vv_build (cs := TSecret.cs (TSecret.mk 0 [] (TPoint.mk 0#64 0#64)) (.slice none 0 0)) bs_33 rfl rfl)<|qm rfl ?_
   have Y1 := Gr.trans G4 G5
   have B12 := ((Bw3.gr Y1).md M6)
   refine qe rfl (ev_stW agg_33 rfl rfl (TSecret.cs_ones _ _ rfl) B12 rfl rfl) ?_
   rintro _ w7 ⟨Bw7, M7⟩
   have z13 := M7.size
   refine qm rfl<|qb ?_
   have Y2 := Gr.trans (Gr.trans (Gr.trans G1 G2) G3) Y1
   have X14 := ((((Gr.refl w).trans Y2).md M6).md M7)
   cases hm
   refine ⟨_, _, rfl, res_2 rfl (rv_cellW agg_33 rfl Bw7 rfl) (rv_tmp rfl), ?_⟩
   exact ⟨(.slice none 0 0), 0, 0, rfl, (own_nil _ 0 92 18), ⟨.inl rfl⟩, X14⟩
 replace hm := iF c1 hm
 refine qu<|sw_seq<|qs 4 rfl<|qv rfl (vv_loadW agg_175 rfl Bw6 rfl)<|qm rfl ?_
 obtain ⟨x2, hx2, hm⟩ := bnd hm
 refine qe rfl (eC en_188 rfl (cover_tree_receiver_w hx2)) ?_
 rintro _ w8 ⟨rfl, G8⟩
 have z15 := G8.size
 refine qv rfl (vv_not rfl)<|sd_done<|sw_cond rfl (fun c2 => ?_) (fun c2 => ?_)
 · replace hm := cnd_t c2 hm
   refine qs 3 rfl<|qv rfl (vv_build (cs := TSecret.cs (TSecret.mk 0 [] (TPoint.mk 0#64 0#64)) (.slice none 0 0)) bs_33 rfl rfl) ?_
   have Y3 := Gr.trans G4 G5
   have B16 := (((Bw3.gr Y3).md M6).gr G8)
   refine qe rfl (ev_stW agg_33 rfl rfl (TSecret.cs_ones _ _ rfl) B16 rfl rfl) ?_
   rintro _ w9 ⟨Bw9, M9⟩
   have z17 := M9.size
   refine qm rfl<|qb ?_
   have Y4 := Gr.trans (Gr.trans (Gr.trans G1 G2) G3) Y3
   have X18 := (((((Gr.refl w).trans Y4).md M6).trans G8).md M9)
   cases hm
   refine ⟨_, _, rfl, res_2 rfl (rv_cellW agg_33 rfl Bw9 rfl) (rv_tmp rfl), ?_⟩
   exact ⟨(.slice none 0 0), 0, 0, rfl, (own_nil _ 0 92 18), ⟨.inl rfl⟩, X18⟩
 replace hm := cnd_f c2 hm
 refine qu<|qs 4 rfl<|qm rfl<|qv rfl (vv_build (cs := TSecret.cs (TSecret.mk p2 [] (TPoint.mk 0#64 0#64)) (.slice none 0 0)) bs_33 rfl rfl)<|qe rfl (ev_alloc (cs := TSecret.cs (TSecret.mk 0 [] (TPoint.mk 0#64 0#64)) (.slice none 0 0)) zv_33 rfl) ?_
 rintro _ w10 ⟨b10, rfl, hbw10, Bw10, G10⟩
 have z19 := G10.size
 have lt20 := Bw10.lt
 refine qe rfl (ev_stW agg_33 rfl rfl (TSecret.cs_ones _ _ rfl) Bw10 rfl rfl) ?_
 rintro _ w11 ⟨Bw11, M11⟩
 have z21 := M11.size
 refine sd_done<|sw_seq<|qs 3 rfl ?_
 have Y5 := Gr.trans G8 G10
 have B22 := ((Bw6.gr Y5).md M11)
 refine qv rfl (vv_loadW agg_175 rfl B22 rfl)<|qm rfl ?_
 obtain ⟨x3, hx3, hm⟩ := bnd hm
 refine qe rfl (eC en_202 rfl (cover_tree_labels_w hx3)) ?_
 rintro _ w12 ⟨k12_c0_0, k12_c0_1, rfl, O12_c0_0, f12_c0_0, O12_c0_1, f12_c0_1, G12⟩
 have z23 := G12.size
 have lt24 := O12_c0_0.lt
 have lt25 := O12_c0_1.lt
 refine sd_done<|sw_block ?_
 obtain ⟨l4, hl4, hm⟩ := bnd hm
 have Y6 := Gr.trans (Gr.trans (Gr.trans (Gr.trans G1 G2) G3) G4) G5
 have X26 := ((((((Gr.refl w).trans Y6).md M6).trans Y5).md M11).trans G12)
 have Y7 := Gr.trans (Gr.trans (Gr.trans G2 G3) G4) G5
 have B27 := (((((Bw1.gr Y7).md M6).gr Y5).md M11).gr G12)
 have Y8 := Gr.trans G4 G5
 have B28 := (((((B7.gr Y8).md M6).gr Y5).md M11).gr G12)
 have B29 := (((((Bw3.gr Y8).md M6).gr Y5).md M11).gr G12)
 have B30 := (B22.gr G12)
 have B31 := (Bw11.gr G12)
 refine sw_rangeFunc (gf := 251) rfl en_251 (cover_tree_labels_1_it x3.1 x3.2 _ _ _ hl4 _ O12_c0_0 O12_c0_1) (by intro x hx; obtain ⟨a, _, rfl⟩ := List.mem_map.1 hx; rfl) rfl _ (fun _ _ _ _ => False) ([b10] ++ zf 0 0) (stb_mk (α := List TLabel × Value × Nat × Nat) (fun ⟨a7, vy8, zy8, gy8⟩ rk => itL (cover_Secret_R1 p0 x1) (cover_Secret_D1 p2) (List.drop rk l4) a7 = some r) (fun ⟨a7, vy8, zy8, gy8⟩ => ([b10] ++ zf zy8 gy8)) (fun ⟨a7, vy8, zy8, gy8⟩ W => Own W zy8 gy8 92 18 vy8 (a7.map TLabel.cs) ∧ Hdn (zy8 = 0 ∨ w12.heap.size ≤ gy8) ∧ Bx W b10 33 (TSecret.cs (TSecret.mk p2 a7 (TPoint.mk 0#64 0#64)) vy8) ∧ True) (by rintro ⟨a7, vy8, zy8, gy8⟩ W ⟨F0, F1, F2, _⟩ b hb; have q0 := F0.lt; have q2 := F2.lt; replace hb : b ∈ ([b10] ++ zf zy8 gy8) := hb; simp only [List.mem_cons, List.mem_append, mem_zf, List.not_mem_nil, or_false, false_or, not_or, ne_eq, List.nil_append, List.cons_append, true_and, and_true, false_and, and_false, not_true_eq_false, not_false_eq_true, or_true, true_or] at hb; omega) (by rintro ⟨a7, vy8, zy8, gy8⟩ W W' ⟨F0, F1, F2, _⟩ E hs; replace hs : ∀ b ∈ ([b10] ++ zf zy8 gy8), W'.heap[b]? = W.heap[b]? := hs; exact ⟨Own.hs F0 hs (fun hz => by simp [mem_zf, hz]), F1, (hs _ (by simp)).trans F2, trivial⟩)) (fun _ => stb_false) (by intro b hb; simp only [List.mem_cons, List.mem_append, mem_zf, List.not_mem_nil, or_false, false_or, not_or, ne_eq, List.nil_append, List.cons_append, true_and, and_true, false_and, and_false, not_true_eq_false, not_false_eq_true, or_true, true_or] at hb ⊢; omega) ⟨⟨[], (.slice none 0 0), 0, 0⟩, hm, rfl, (own_nil _ 0 92 18), ⟨(.inl rfl)⟩, B31, trivial⟩ ?_ ?_ ?_
 · rintro l rk x fp w13 hl hx _ K13 hF hln hlt
   clear hm
   obtain ⟨⟨e9, e10⟩, hxe, rfl⟩ := map_some hx
   have Zw13 : Kz [(1, b10), (0, 0)] w12 w13 := kz_of_kp K13 (by intro k hk; simp only [Nin, and_true, List.mem_cons, List.mem_append, mem_zf, List.not_mem_nil, or_false, false_or, not_or, ne_eq, List.nil_append, List.cons_append, true_and, and_true, false_and, and_false, not_true_eq_false, not_false_eq_true, or_true, true_or] at hk ⊢; omega)
   have z32 := K13.size
   refine qs 1 rfl<|qm rfl<|sd_done<|qg 1 rfl<|qm rfl<|sd_nil ?_
   refine ⟨rfl, (Gr.refl _), ?_⟩
   rintro w14 M14 ⟨⟨a7, vy8, zy8, gy8⟩, hm, rfl, Fw14_0, Fw14_1, Fw14_2, -⟩
   have z33 := M14.size
   have lt34 := Fw14_0.lth
   have lt35 := Fw14_2.lt
   replace hm := itL_at hm hxe
   generalize hnx1 : itL (cover_Secret_R1 p0 x1) (cover_Secret_D1 p2) (List.drop (rk + 1) l4) = nx1 at hm
   unfold cover_Secret_R1 at hm
   try dsimp only at hm
   refine sw_block<|qs 5 rfl<|qm rfl<|qm rfl<|qv rfl (vv_build (cs := TLabel.cs (TLabel.mk e9 e10 k0)) bs_92 rfl (by kernel_rfl))<|qe rfl (ev_alloc (cs := TLabel.cs (TLabel.mk 0 0 k0)) zv_92 rfl) ?_
   rintro _ w15 ⟨b15, rfl, hbw15, Bw15, G15⟩
   have z36 := G15.size
   have lt37 := Bw15.lt
   refine qe rfl (ev_stW agg_92 rfl rfl rfl Bw15 rfl rfl) ?_
   rintro _ w16 ⟨Bw16, M16⟩
   have z38 := M16.size
   refine sd_done ?_
   have X39 := ((((X26.kz Zw13).md M14).trans G15).md M16)
   refine qj (β := W2) (rg 38 16) (fun a11 => []) (fun a11 wr => (cover_Secret_J2 a7 nx1 e9 e10 a11 = some r) ∧ Bx wr b15 92 (TLabel.cs (TLabel.mk e9 e10 a11)) ∧ Kz [(1, b15)] w16 wr) ?_ ?_
   · refine qs 2 rfl<|qm rfl<|qv rfl (vv_eql (a := e10) (b := 0) rfl rfl)<|sd_done<|sw_cond rfl (fun c3 => ?_) (fun c3 => ?_)
     · replace hm := iT c3 hm
       refine qg 8 rfl ?_
       have B51 := ((((B30.kz Zw13).md M14).gr G15).md M16)
       refine qv rfl (vv_loadW agg_175 rfl B51 rfl) ?_
       have B52 := ((((B27.kz Zw13).md M14).gr G15).md M16)
       refine qv rfl (vv_loadW agg_23 rfl B52 rfl)<|qv rfl (vv_fieldAddr fa_92_0 rfl)<|qv rfl (vv_load1 (v := .int .i64 e9) one_3 rfl Bw16 rfl)<|qv rfl (vv_build (cs := TSubset.cs (TSubset.mk e9 0)) bs_131 rfl rfl) ?_
       obtain ⟨x13, hx13, hm⟩ := bnd hm
       refine qe rfl (eC en_122 rfl (cover_tree_key_w hx13)) ?_
       rintro _ w21 ⟨rfl, G21⟩
       have z53 := G21.size
       refine qv rfl (vv_fieldAddr fa_92_2 rfl) ?_
       have B54 := (Bw16.gr G21)
       refine qe rfl (ev_stM (cs' := TLabel.cs (TLabel.mk e9 e10 x13)) (vs := kb x13) (agg_23).siz rfl rfl rfl rfl rfl B54 rfl rfl) ?_
       rintro _ w22 ⟨Bw22, M22⟩
       have z55 := M22.size
       refine sd_nil ?_
       exact ⟨rfl, x13, sbq, hm, Bw22, ((Kz.gr (Kz.refl _ _) G21).md M22)⟩
     replace hm := iF c3 hm
     refine qg 8 rfl ?_
     have B57 := ((((B27.kz Zw13).md M14).gr G15).md M16)
     refine qv rfl (vv_loadW agg_23 rfl B57 rfl)<|qm rfl ?_
     obtain ⟨x14, hx14, hm⟩ := bnd hm
     refine qe rfl (eC en_195 rfl (cover_nodeKey_w hx14)) ?_
     rintro _ w23 ⟨rfl, G23⟩
     have z58 := G23.size
     refine qm rfl<|qm rfl ?_
     obtain ⟨x15, hx15, hm⟩ := bnd hm
     refine qe rfl (eC en_197 rfl (cover_descend_w hx15)) ?_
     rintro _ w24 ⟨rfl, G24⟩
     have z59 := G24.size
     refine qv rfl (vv_fieldAddr fa_92_2 rfl) ?_
     have B60 := ((Bw16.gr G23).gr G24)
     refine qe rfl (ev_stM (cs' := TLabel.cs (TLabel.mk e9 e10 x15)) (vs := kb x15) (agg_23).siz rfl rfl rfl rfl rfl B60 rfl rfl) ?_
     rintro _ w25 ⟨Bw25, M25⟩
     have z61 := M25.size
     refine sd_nil ?_
     exact ⟨rfl, x15, sbq, hm, Bw25, (((Kz.gr (Kz.refl _ _) G23).gr G24).md M25)⟩
   clear hm; rintro a11 w17 ⟨hm, Fw17_0, K17⟩
   have z40 := K17.size
   have lt41 := Fw17_0.lt
   unfold cover_Secret_J2 at hm
   refine qg 7 rfl<|qv rfl (vv_fieldAddr fa_33_1 rfl) ?_
   have B42 := (((Fw14_2.gr G15).md M16).kz K17)
   refine qv rfl (vv_load1 (v := vy8) one_29 rfl B42 rfl)<|qv rfl (vv_loadW agg_92 rfl Fw17_0 rfl)<|qe rfl (ev_litT [(TLabel.mk e9 e10 a11)] TLabel.cs bsl_29_1 rfl rfl (ws_of rfl) rfl rfl rfl) ?_
   rintro vw18 w18 ⟨gw18, hbw18, Ow18, G18⟩
   have z43 := G18.size
   have lt44 := Ow18.lth
   have B45 := ((((Fw14_0.gr G15).md M16 (pb_lt lt34)).kz K17 (tk1 (pb_lt (b := b15) lt34))).gr G18)
   obtain ⟨l12, hl12, hm⟩ := bnd hm
   refine qe rfl (ev_appT (l := a7) (m := [(TLabel.mk e9 e10 a11)]) (c := TLabel.cs) apt_29 rfl rfl B45 (Own.rd Ow18) hl12 (by decide)) ?_
   rintro vw19 w19 ⟨zw19, gw19, Ow19, Aw19, qw19, rw19⟩
   have z46 := Aw19.size
   refine qv rfl (vv_fieldAddr fa_33_1 rfl) ?_
   have B47 := ((B42.gr G18).ka Aw19 (tk1 (pb_0 (b := b10) Fw14_1)))
   refine qe rfl (ev_st1 (cs' := TSecret.cs (TSecret.mk p2 l12 (TPoint.mk 0#64 0#64)) vw19) (one_29).siz rfl rfl (Own.oneB Ow19) B47 rfl rfl) ?_
   rintro _ w20 ⟨Bw20, M20⟩
   have z48 := M20.size
   refine sd_nil<|block_n ?_
   have B50 := (Ow19.md M20 (pb_app rw19 (pb_0 Fw14_1)))
   have K_49 : Kz [(1, b10), (zy8, gy8)] w14 w20 := ((((((Kz.gr (Kz.refl _ _) G15).md M16).kz K17).gr G18).ka Aw19 (tk1 (tk0 : zy8 = 0 ∨ (gy8 = gy8 ∧ zy8 ≠ 0) ∨ w14.heap.size ≤ gy8))).md M20)
   have Kq49 : Kp ([b10] ++ zf zy8 gy8) w14 w20 := kp_of_kz K_49 (by intro k hk; simp only [Nin, and_true, List.mem_cons, List.mem_append, mem_zf, List.not_mem_nil, or_false, false_or, not_or, ne_eq, List.nil_append, List.cons_append, true_and, and_true, false_and, and_false, not_true_eq_false, not_false_eq_true, or_true, true_or] at hk ⊢; omega)
   subst hnx1
   exact ⟨Kq49, ([b10] ++ zf zw19 gw19), (by intro c hc; have := (pv_app (A := (fun x => (x = gy8 ∧ zy8 ≠ 0) ∨ w14.heap.size ≤ x)) rw19 tk0); simp only [List.mem_cons, List.mem_append, mem_zf, List.not_mem_nil, or_false, false_or, not_or, ne_eq, List.nil_append, List.cons_append, true_and, and_true, false_and, and_false, not_true_eq_false, not_false_eq_true, or_true, true_or] at hc ⊢; omega), ⟨⟨l12, vw19, zw19, gw19⟩, hm, rfl, B50, ⟨(pv_app (A := (fun x => w12.heap.size ≤ x)) rw19 (pv_0 (A := (fun x => w12.heap.size ≤ x)) Fw14_1))⟩, Bw20, trivial⟩⟩
 · clear hm; rintro Dw26 fp w26 hDw26 Dfw26 nw26 ⟨⟨a7, vy8, zy8, gy8⟩, hm, rfl, Fw26_0, Fw26_1, Fw26_2, -⟩ K26
   replace hm := itL_end hm
   have Zw26 : Kz [(1, b10), (0, 0)] w12 w26 := kz_of_kp K26 (by intro k hk; simp only [Nin, and_true, List.mem_cons, List.mem_append, mem_zf, List.not_mem_nil, or_false, false_or, not_or, ne_eq, List.nil_append, List.cons_append, true_and, and_true, false_and, and_false, not_true_eq_false, not_false_eq_true, or_true, true_or] at hk ⊢; omega)
   have z63 := K26.size
   have lt64 := Df.lt (w := w26) Dfw26
   simp only [List.mem_cons, List.mem_append, mem_zf, List.not_mem_nil, or_false, false_or, not_or, ne_eq, List.nil_append, List.cons_append, true_and, and_true, false_and, and_false, not_true_eq_false, not_false_eq_true, or_true, true_or, not_and] at nw26
   have lt65 := Fw26_0.lth
   have lt66 := Fw26_2.lt
   unfold cover_Secret_D1 at hm
   try dsimp only at hm
   refine block_n<|then_n<|qs 3 rfl<|qv rfl (vv_loadW agg_33 rfl Fw26_2 rfl) ?_
   have B67 := (B29.kz Zw26)
   refine qe rfl (ev_stW agg_33 rfl rfl (TSecret.cs_ones _ _ (Own.oneB Fw26_0)) B67 rfl rfl) ?_
   rintro _ w27 ⟨Bw27, M27⟩
   have z68 := M27.size
   refine qm rfl<|sd_done<|sw_ret ?_
   have DL69 := (Df.md Dfw26 M27)
   have L69 := Md.put (w := w27) Dw26 (.deferred none)
   have zL69 := L69.size
   have B70 := (Bw27.md L69)
   have B71 := ((Fw26_0.md M27 (pb_0 Fw26_1)).md L69)
   have X72 : Gr w (w27.putObj Dw26 (.deferred none)) := (((X26.kz Zw26).md M27).md L69)
   cases hm
   refine ⟨_, _, ⟨Dw26, rfl, DL69, rfl⟩, res_2 rfl (rv_cellW agg_33 rfl B70 rfl) (rv_tmp rfl), ?_⟩
   exact ⟨vy8, zy8, gy8, rfl, B71, ⟨(pv_0 (A := (fun x => w.heap.size ≤ x)) Fw26_1)⟩, X72⟩
 rintro _ _ _ _ _ _ _ _ _ h _
 exact h.elim
theorem cover_Open_1_w {p0 p1 bp1 r} (hm : cover_Open_1 p0 p1 = some r) {w : World} (hbp1 : Bx w bp1 175 (Tcover_tree.cs p1)) :
    Calls Tryz.prog 123 [.agg (TItem.cs p0).toArray, .pointer (some ⟨bp1, 0, none⟩)].toArray w fun e w' => ∃ v, e = .returned v ∧ (v = .bool r ∧ Gr w w') := by
 have lt1 := hbp1.lt
 unfold cover_Open_1 at hm
 refine calls_of_sw 9 Tryz.func123 rfl rfl rfl<|qs 2 rfl<|qe rfl (ev_box (cs := TItem.cs p0) rfl rfl) ?_
 rintro _ w1 ⟨b1, rfl, hbw1, Bw1, G1⟩
 have z2 := G1.size
 have lt3 := Bw1.lt
 refine qm rfl<|qd 6 rfl ?_
 have B4 := (hbp1.gr G1)
 refine qv rfl (vv_loadW agg_175 rfl B4 rfl)<|qv rfl (vv_fieldAddr fa_133_0 rfl)<|qv rfl (vv_loadM (vs := TSubset.cs p0.Subset) agg_131 rfl Bw1 rfl rfl) ?_
 obtain ⟨x1, hx1, hm⟩ := bnd hm
 refine qe rfl (eC en_124 rfl (cover_tree_subset_w hx1)) ?_
 rintro _ w2 ⟨rfl, G2⟩
 have z5 := G2.size
 refine qv rfl (vv_not rfl)<|qm rfl<|sd_done<|sw_ret ?_
 have X6 := (((Gr.refl w).trans G1).trans G2)
 cases hm
 refine ⟨_, _, rfl, res_1 rfl (rv_tmp rfl), ?_⟩
 exact ⟨rfl, X6⟩
theorem slices_IndexFunc_c205_cover_Open_1_w {p0 p1_0 vp0 zp0 gp0 op0 bp1_0 r} (hm : slices_IndexFunc_c205_cover_Open_1 p0 p1_0 = some r) {w : World} (hp0 : Rd w zp0 gp0 op0 18 vp0 (p0.map TItem.cs)) (hbp1_0 : Bx w bp1_0 175 (Tcover_tree.cs p1_0)) :
    Calls Tryz.prog 200 [vp0, .func (.func 123) [].toArray [.pointer (some ⟨bp1_0, 0, none⟩)].toArray].toArray w fun e w' => ∃ v, e = .returned v ∧ (v = .int .i64 r ∧ Gr w w') := by
 have lt1 := hp0.lth
 have lt2 := hbp1_0.lt
 unfold slices_IndexFunc_c205_cover_Open_1 at hm
 refine calls_of_sw 19 Tryz.func200 rfl rfl rfl<|qs 1 rfl<|qm rfl<|sd_done<|sw_seq<|sw_seq ?_
 refine qg 3 rfl<|qm rfl<|qv rfl (vv_lenT (l := p0) (c := TItem.cs) Tryz.underlying45 rfl hp0)<|qm rfl<|sd_done<|sw_block<|sw_loopD (α := Nat × Int) ([4, 5] ++ rg 8 11) (fun ⟨n1, a2⟩ => [(4, .int .i64 0), (8, .int .i64 a2)]) (fun ⟨n1, a2⟩ wr => (fixN (slices_IndexFunc_c205_cover_Open_1_L1 p0 p1_0) n1 a2 = some r) ∧ Kz [] w wr) (fun ⟨n1, a2⟩ => n1) ⟨FUEL, 0⟩ ?_ ?_ ?_
 · exact sbq
 · exact ⟨hm, Kz.refl _ _⟩
 clear hm; rintro ⟨n1, a2⟩ w1 ⟨hm, K1⟩
 have z3 := K1.size
 have hb := fix_succ hm; clear hm; obtain ⟨n1, rfl, hm⟩ := hb
 generalize hrec1 : fixN (slices_IndexFunc_c205_cover_Open_1_L1 p0 p1_0) n1 = rec1 at hm
 unfold slices_IndexFunc_c205_cover_Open_1_L1 at hm
 try dsimp only at hm
 refine qs 1 rfl<|qv rfl (vv_lss (a := a2) (b := (p0.length : Int)) rfl rfl)<|sd_done<|sw_seq<|cnF rfl (fun c1 => ?_) (fun c1 => ?_)
 · replace hm := iF c1 hm
   refine sw_exit<|then_x<|then_x<|block_x<|then_n<|qs 1 rfl ?_
   refine qm rfl<|sd_done<|sw_ret ?_
   have X9 := ((Gr.refl w).kz K1)
   cases hm
   refine ⟨_, _, rfl, res_1 rfl (rv_tmp rfl), ?_⟩
   exact ⟨rfl, X9⟩
 replace hm := iT c1 hm
 refine qu<|sw_seq<|sw_block<|qs 2 rfl<|qm rfl ?_
 refine qm rfl<|qd 6 rfl<|qm rfl<|qm rfl<|qm rfl ?_
 obtain ⟨y3, hy3, hm⟩ := bnd hm
 have B4 := (hp0.kz K1)
 refine qv rfl (vv_ixT (i := a2) Tryz.underlying45 (agg_133).siz rfl B4 rfl hy3)<|qv rfl (vv_elWT agg_133 rfl B4 hy3 (by first | rfl | omega)) ?_
 have B5 := (hbp1_0.kz K1)
 obtain ⟨x4, hx4, hm⟩ := bnd hm
 refine qe rfl (ev_callV en_123 rfl rfl (cover_Open_1_w hx4 B5)) ?_
 rintro _ w2 ⟨rfl, G2⟩
 have z6 := G2.size
 refine sd_done<|sw_cond rfl (fun c2 => ?_) (fun c2 => ?_)
 · replace hm := cnd_t c2 hm
   refine qs 2 rfl<|qm rfl<|qm rfl<|sd_done<|sw_ret<|block_r ?_
   refine then_r<|then_r<|block_r<|then_r ?_
   have X7 := (((Gr.refl w).kz K1).trans G2)
   cases hm
   refine ⟨_, _, rfl, res_1 rfl (rv_tmp rfl), ?_⟩
   exact ⟨rfl, X7⟩
 replace hm := cnd_f c2 hm
 refine sw_skip<|block_n<|then_n<|qg 2 rfl<|qv rfl (vv_add (k := .i64) (a := a2) (b := 1) rfl rfl)<|qm rfl<|sd_nil ?_
 have K_8 : Kz [] w w2 := (K1.gr G2)
 subst hrec1
 exact ⟨rfl, ⟨n1, w64 (a2 + 1)⟩, sbq, ⟨hm, K_8⟩, Nat.lt_succ_self _⟩
theorem slices_ContainsFunc_9968_cover_Open_1_w {p0 p1_0 vp0 zp0 gp0 op0 bp1_0 r} (hm : slices_ContainsFunc_9968_cover_Open_1 p0 p1_0 = some r) {w : World} (hp0 : Rd w zp0 gp0 op0 18 vp0 (p0.map TItem.cs)) (hbp1_0 : Bx w bp1_0 175 (Tcover_tree.cs p1_0)) :
    Calls Tryz.prog 125 [vp0, .func (.func 123) [].toArray [.pointer (some ⟨bp1_0, 0, none⟩)].toArray].toArray w fun e w' => ∃ v, e = .returned v ∧ (v = .bool r ∧ Gr w w') := by
 have lt1 := hp0.lth
 have lt2 := hbp1_0.lt
 unfold slices_ContainsFunc_9968_cover_Open_1 at hm
 refine calls_of_sw 9 Tryz.func125 rfl rfl rfl<|qs 1 rfl<|qm rfl<|qd 5 rfl ?_
 refine qm rfl<|qm rfl ?_
 obtain ⟨x1, hx1, hm⟩ := bnd hm
 refine qe rfl (eC en_200 rfl (slices_IndexFunc_c205_cover_Open_1_w hx1 hp0 hbp1_0)) ?_
 rintro _ w1 ⟨rfl, G1⟩
 have z3 := G1.size
 refine qv rfl (vv_geq (a := x1) (b := 0) rfl rfl)<|qm rfl<|sd_done<|sw_ret ?_
 have X4 := ((Gr.refl w).trans G1)
 cases hm
 refine ⟨_, _, rfl, res_1 rfl (rv_tmp rfl), ?_⟩
 exact ⟨rfl, X4⟩
theorem cover_tree_leads_w {p0 p1 p2 r} (hm : cover_tree_leads p0 p1 p2 = some r) {w : World} :
    Calls Tryz.prog 201 [.agg (Tcover_tree.cs p0).toArray, .agg (TLabel.cs p1).toArray, .agg (TSubset.cs p2).toArray].toArray w fun e w' => ∃ v, e = .returned v ∧ (v = .bool r ∧ Gr w w') := by
 unfold cover_tree_leads at hm
 refine calls_of_sw 38 Tryz.func201 rfl rfl rfl<|qs 4 rfl<|qe rfl (ev_box (cs := Tcover_tree.cs p0) rfl rfl) ?_
 rintro _ w1 ⟨b1, rfl, hbw1, Bw1, G1⟩
 have z1 := G1.size
 have lt2 := Bw1.lt
 refine qe rfl (ev_box (cs := TLabel.cs p1) rfl rfl) ?_
 rintro _ w2 ⟨b2, rfl, hbw2, Bw2, G2⟩
 have z3 := G2.size
 have lt4 := Bw2.lt
 refine qe rfl (ev_box (cs := TSubset.cs p2) rfl rfl) ?_
 rintro _ w3 ⟨b3, rfl, hbw3, Bw3, G3⟩
 have z5 := G3.size
 have lt6 := Bw3.lt
 refine qm rfl<|sd_done<|sw_seq<|qs 5 rfl<|qv rfl (vv_fieldAddr fa_92_0 rfl) ?_
 have B7 := (Bw2.gr G3)
 refine qv rfl (vv_load1 (v := .int .i64 p1.Node) one_3 rfl B7 rfl)<|qv rfl (vv_fieldAddr fa_131_0 rfl)<|qv rfl (vv_load1 (v := .int .i64 p2.Node) one_3 rfl Bw3 rfl)<|qv rfl (vv_neq (a := p1.Node) (b := p2.Node) rfl rfl)<|sd_done<|sw_cond rfl (fun c1 => ?_) (fun c1 => ?_)
 · replace hm := iT c1 hm
   refine qs 1 rfl<|qm rfl<|qb ?_
   have X8 := ((((Gr.refl w).trans G1).trans G2).trans G3)
   cases hm
   refine ⟨_, _, rfl, res_1 rfl (rv_tmp rfl), ?_⟩
   exact ⟨rfl, X8⟩
 replace hm := iF c1 hm
 refine qu<|sw_seq ?_
 have X9 := ((((Gr.refl w).trans G1).trans G2).trans G3)
 refine qj (β := Bool) (rg 13 8) (fun a1 => [(20, .bool a1)]) (fun a1 wr => (cover_tree_leads_J1 p1 p2 a1 = some r) ∧ Kz [] w3 wr) ?_ ?_
 · refine qg 8 rfl<|qv rfl (vv_fieldAddr fa_175_0 rfl) ?_
   have B20 := ((Bw1.gr G2).gr G3)
   refine qv rfl (vv_load1 (v := bv p0.kind) one_5 rfl B20 rfl)<|qv rfl (vv_eqlB (p := p0.kind) (q := 1#8) rfl rfl)<|qp rfl (vv_move rfl) (fun c4 => ?_) (fun c4 => ?_)
   · replace hm := iT c4 hm
     refine qk rfl<|qk rfl<|qk rfl<|qm rfl<|sd_nil ?_
     exact ⟨rfl, true, sbq, hm, kz0⟩
   replace hm := iF c4 hm
   refine qv rfl (vv_fieldAddr fa_131_1 rfl)<|qv rfl (vv_load1 (v := .int .i64 p2.Minus) one_3 rfl Bw3 rfl)<|qv rfl (vv_eql (a := p2.Minus) (b := 0) rfl rfl)<|qm rfl<|sd_nil ?_
   exact ⟨rfl, (decide (p2.Minus = 0)), sbq, hm, kz0⟩
 clear hm; rintro a1 w4 ⟨hm, K4⟩
 have z10 := K4.size
 unfold cover_tree_leads_J1 at hm
 refine sw_cond rfl (fun c2 => ?_) (fun c2 => ?_)
 · replace hm := cnd_t c2 hm
   refine qs 6 rfl<|qv rfl (vv_fieldAddr fa_92_1 rfl) ?_
   have B11 := (B7.kz K4)
   refine qv rfl (vv_load1 (v := .int .i64 p1.Minus) one_3 rfl B11 rfl)<|qv rfl (vv_fieldAddr fa_131_1 rfl) ?_
   have B12 := (Bw3.kz K4)
   refine qv rfl (vv_load1 (v := .int .i64 p2.Minus) one_3 rfl B12 rfl)<|qv rfl (vv_eql (a := p1.Minus) (b := p2.Minus) rfl rfl)<|qm rfl<|qb ?_
   have X13 := (X9.kz K4)
   cases hm
   refine ⟨_, _, rfl, res_1 rfl (rv_tmp rfl), ?_⟩
   exact ⟨rfl, X13⟩
 replace hm := cnd_f c2 hm
 refine qu<|qs 3 rfl<|qv rfl (vv_fieldAddr fa_92_1 rfl) ?_
 have B14 := (B7.kz K4)
 refine qv rfl (vv_load1 (v := .int .i64 p1.Minus) one_3 rfl B14 rfl)<|qm rfl<|qd 11 rfl<|qm rfl<|qv rfl (vv_fieldAddr fa_92_0 rfl) ?_
 refine qv rfl (vv_load1 (v := .int .i64 p1.Node) one_3 rfl B14 rfl) ?_
 obtain ⟨x2, hx2, hm⟩ := bnd hm
 refine qe rfl (eC en_199 rfl (cover_node_below_w hx2)) ?_
 rintro _ w5 ⟨rfl, G5⟩
 have z15 := G5.size
 refine qpF rfl (vv_move rfl) (fun c3 => ?_) (fun c3 => ?_)
 · replace hm := cnd_f c3 hm
   refine qk rfl<|qk rfl<|qk rfl<|qk rfl<|qm rfl<|qm rfl<|sd_done ?_
   refine sw_ret ?_
   have X19 := ((X9.kz K4).trans G5)
   cases hm
   refine ⟨_, _, rfl, res_1 rfl (rv_tmp rfl), ?_⟩
   exact ⟨rfl, X19⟩
 replace hm := cnd_t c3 hm
 refine qv rfl (vv_fieldAddr fa_131_1 rfl) ?_
 have B16 := ((Bw3.kz K4).gr G5)
 refine qv rfl (vv_load1 (v := .int .i64 p2.Minus) one_3 rfl B16 rfl)<|qm rfl ?_
 obtain ⟨x3, hx3, hm⟩ := bnd hm
 refine qe rfl (eC en_199 rfl (cover_node_below_w hx3)) ?_
 rintro _ w6 ⟨rfl, G6⟩
 have z17 := G6.size
 refine qm rfl<|qm rfl<|sd_done<|sw_ret ?_
 have X18 := (((X9.kz K4).trans G5).trans G6)
 cases hm
 refine ⟨_, _, rfl, res_1 rfl (rv_tmp rfl), ?_⟩
 exact ⟨rfl, X18⟩
theorem cover_tree_find_w {p0 p1 p2 vp1_1 zp1_1 gp1_1 op1_1 r} (hm : cover_tree_find p0 p1 p2 = some r) {w : World} (hp1_1 : Rd w zp1_1 gp1_1 op1_1 18 vp1_1 (p1.Labels.map TLabel.cs)) :
    Calls Tryz.prog 126 [.agg (Tcover_tree.cs p0).toArray, .agg (TSecret.cs p1 vp1_1).toArray, .agg (TSubset.cs p2).toArray].toArray w fun e w' => ∃ v, e = .returned v ∧ (v = .tuple [kv r.1, .bool r.2].toArray ∧ Gr w w') := by
 have lt1 := hp1_1.lth
 unfold cover_tree_find at hm
 refine calls_of_sw 44 Tryz.func126 rfl rfl rfl<|qs 5 rfl<|qe rfl (ev_box (cs := Tcover_tree.cs p0) rfl rfl) ?_
 rintro _ w1 ⟨b1, rfl, hbw1, Bw1, G1⟩
 have z2 := G1.size
 have lt3 := Bw1.lt
 refine qe rfl (ev_box (cs := TSecret.cs p1 vp1_1) rfl rfl) ?_
 rintro _ w2 ⟨b2, rfl, hbw2, Bw2, G2⟩
 have z4 := G2.size
 have lt5 := Bw2.lt
 refine qe rfl (ev_box (cs := TSubset.cs p2) rfl rfl) ?_
 rintro _ w3 ⟨b3, rfl, hbw3, Bw3, G3⟩
 have z6 := G3.size
 have lt7 := Bw3.lt
 refine qe rfl (ev_alloc (cs := kb k0) zv_23 rfl) ?_
 rintro _ w4 ⟨b4, rfl, hbw4, Bw4, G4⟩
 have z8 := G4.size
 have lt9 := Bw4.lt
 refine qm rfl<|sd_done<|sw_seq<|qs 4 rfl<|qv rfl (vv_fieldAddr fa_33_1 rfl) ?_
 have Y1 := Gr.trans G3 G4
 have B10 := (Bw2.gr Y1)
 refine qv rfl (vv_load1 (v := vp1_1) one_29 rfl B10 rfl) ?_
 have B11 := (((hp1_1.gr G1).gr G2).gr Y1)
 refine qv rfl (vv_lenT (l := p1.Labels) (c := TLabel.cs) Tryz.underlying29 rfl B11)<|qm rfl<|sd_done<|sw_block ?_
 have X12 := ((((Gr.refl w).trans G1).trans G2).trans Y1)
 refine sw_loopD (α := Nat × Int) ([7, 9] ++ rg 13 30) (fun ⟨n1, a2⟩ => [(7, .bool false), (13, .int .i64 a2)]) (fun ⟨n1, a2⟩ wr => (fixN (cover_tree_find_L1 p0 p1 p2) n1 a2 = some r) ∧ Kz [] w4 wr) (fun ⟨n1, a2⟩ => n1) ⟨FUEL, 0⟩ ?_ ?_ ?_
 · exact sbq
 · exact ⟨hm, Kz.refl _ _⟩
 clear hm; rintro ⟨n1, a2⟩ w5 ⟨hm, K5⟩
 have z13 := K5.size
 have hb := fix_succ hm; clear hm; obtain ⟨n1, rfl, hm⟩ := hb
 generalize hrec1 : fixN (cover_tree_find_L1 p0 p1 p2) n1 = rec1 at hm
 unfold cover_tree_find_L1 at hm
 try dsimp only at hm
 refine qs 1 rfl<|qv rfl (vv_lss (a := a2) (b := (p1.Labels.length : Int)) rfl rfl)<|sd_done<|sw_seq<|cnF rfl (fun c1 => ?_) (fun c1 => ?_)
 · replace hm := iF c1 hm
   refine sw_exit<|then_x<|then_x<|block_x<|then_n<|qs 3 rfl ?_
   refine qv rfl (vv_buildZ bz_23) ?_
   have B39 := (Bw4.kz K5)
   refine qe rfl (ev_stW agg_23 rfl rfl rfl B39 rfl rfl) ?_
   rintro _ w14 ⟨Bw14, M14⟩
   have z40 := M14.size
   refine qm rfl<|sd_done<|sw_ret ?_
   have X41 := ((X12.kz K5).md M14)
   cases hm
   refine ⟨_, _, rfl, res_2 rfl (rv_cellW agg_23 rfl Bw14 rfl) (rv_tmp rfl), ?_⟩
   exact ⟨rfl, X41⟩
 replace hm := iT c1 hm
 refine qu<|sw_seq<|sw_block<|qs 4 rfl ?_
 obtain ⟨y3, hy3, hm⟩ := bnd hm
 have B14 := (B11.kz K5)
 refine qv rfl (vv_ixT (i := a2) Tryz.underlying29 (agg_92).siz rfl B14 rfl hy3)<|qv rfl (vv_elWT agg_92 rfl B14 hy3 (by first | rfl | omega))<|qe rfl (ev_alloc (cs := TLabel.cs (TLabel.mk 0 0 k0)) zv_92 rfl) ?_
 rintro _ w6 ⟨b6, rfl, hbw6, Bw6, G6⟩
 have z15 := G6.size
 have lt16 := Bw6.lt
 refine qe rfl (ev_stW agg_92 rfl rfl rfl Bw6 rfl rfl) ?_
 rintro _ w7 ⟨Bw7, M7⟩
 have z17 := M7.size
 refine sd_done<|sw_seq<|sw_block<|qs 6 rfl ?_
 have B18 := (((((Bw1.gr G2).gr Y1).kz K5).gr G6).md M7)
 refine qv rfl (vv_loadW agg_175 rfl B18 rfl)<|qv rfl (vv_loadW agg_92 rfl Bw7 rfl) ?_
 have B19 := ((((Bw3.gr G4).kz K5).gr G6).md M7)
 refine qv rfl (vv_loadW agg_131 rfl B19 rfl) ?_
 obtain ⟨x4, hx4, hm⟩ := bnd hm
 refine qe rfl (eC en_201 rfl (cover_tree_leads_w hx4)) ?_
 rintro _ w8 ⟨rfl, G8⟩
 have z20 := G8.size
 refine qv rfl (vv_not rfl)<|qm rfl<|sd_done<|sw_cond rfl (fun c2 => ?_) (fun c2 => ?_)
 · replace hm := cnd_t c2 hm
   refine sw_exit<|block_o rfl<|then_x<|block_x<|then_n<|qg 2 rfl<|qv rfl (vv_add (k := .i64) (a := a2) (b := 1) rfl rfl) ?_
   refine qm rfl<|sd_nil ?_
   have K_21 : Kz [] w4 w8 := (((K5.gr G6).md M7).gr G8)
   subst hrec1
   exact ⟨rfl, ⟨n1, w64 (a2 + 1)⟩, sbq, ⟨hm, K_21⟩, Nat.lt_succ_self _⟩
 replace hm := cnd_f c2 hm
 have X22 := ((((X12.kz K5).trans G6).md M7).trans G8)
 refine qj (β := Bool) (rg 23 9) (fun a5 => [(23, .bool a5)]) (fun a5 wr => (cover_tree_find_J2 p2 y3 a5 = some r) ∧ Kz [] w8 wr) ?_ ?_
 · refine qg 9 rfl<|qv rfl (vv_fieldAddr fa_175_0 rfl) ?_
   have B35 := (B18.gr G8)
   refine qv rfl (vv_load1 (v := bv p0.kind) one_5 rfl B35 rfl)<|qv rfl (vv_eqlB (p := p0.kind) (q := 1#8) rfl rfl)<|qp rfl (vv_move rfl) (fun c4 => ?_) (fun c4 => ?_)
   · replace hm := iT c4 hm
     refine qk rfl<|qk rfl<|qk rfl<|qm rfl<|qm rfl<|sd_nil ?_
     exact ⟨rfl, true, sbq, hm, kz0⟩
   replace hm := iF c4 hm
   refine qv rfl (vv_fieldAddr fa_131_1 rfl) ?_
   have B37 := (B19.gr G8)
   refine qv rfl (vv_load1 (v := .int .i64 p2.Minus) one_3 rfl B37 rfl)<|qv rfl (vv_eql (a := p2.Minus) (b := 0) rfl rfl)<|qm rfl<|qm rfl<|sd_nil ?_
   exact ⟨rfl, (decide (p2.Minus = 0)), sbq, hm, kz0⟩
 clear hm; rintro a5 w9 ⟨hm, K9⟩
 have z23 := K9.size
 unfold cover_tree_find_J2 at hm
 refine sw_cond rfl (fun c3 => ?_) (fun c3 => ?_)
 · replace hm := cnd_t c3 hm
   refine qs 4 rfl<|qv rfl (vv_fieldAddr fa_92_2 rfl) ?_
   have B24 := ((Bw7.gr G8).kz K9)
   refine qv rfl (vv_loadM (vs := kb y3.Key) agg_23 rfl B24 rfl rfl) ?_
   have B25 := (((((Bw4.kz K5).gr G6).md M7).gr G8).kz K9)
   refine qe rfl (ev_stW agg_23 rfl rfl rfl B25 rfl rfl) ?_
   rintro _ w10 ⟨Bw10, M10⟩
   have z26 := M10.size
   refine qm rfl<|sd_done<|sw_ret<|block_r<|then_r<|block_r<|then_r ?_
   refine then_r<|block_r<|then_r ?_
   have X27 := ((X22.kz K9).md M10)
   cases hm
   refine ⟨_, _, rfl, res_2 rfl (rv_cellW agg_23 rfl Bw10 rfl) (rv_tmp rfl), ?_⟩
   exact ⟨rfl, X27⟩
 replace hm := cnd_f c3 hm
 refine sw_skip<|block_n<|then_n<|qs 10 rfl<|qv rfl (vv_fieldAddr fa_92_2 rfl) ?_
 have B28 := ((Bw7.gr G8).kz K9)
 refine qv rfl (vv_loadM (vs := kb y3.Key) agg_23 rfl B28 rfl rfl)<|qv rfl (vv_fieldAddr fa_92_1 rfl)<|qv rfl (vv_load1 (v := .int .i64 y3.Minus) one_3 rfl B28 rfl)<|qv rfl (vv_fieldAddr fa_131_1 rfl) ?_
 have B29 := ((B19.gr G8).kz K9)
 refine qv rfl (vv_load1 (v := .int .i64 p2.Minus) one_3 rfl B29 rfl) ?_
 obtain ⟨x6, hx6, hm⟩ := bnd hm
 refine qe rfl (eC en_197 rfl (cover_descend_w hx6)) ?_
 rintro _ w11 ⟨rfl, G11⟩
 have z30 := G11.size
 obtain ⟨x7, hx7, hm⟩ := bnd hm
 refine qe rfl (eC en_196 rfl (cover_middle_w hx7)) ?_
 rintro _ w12 ⟨rfl, G12⟩
 have z31 := G12.size
 have B32 := (((((((Bw4.kz K5).gr G6).md M7).gr G8).kz K9).gr G11).gr G12)
 refine qe rfl (ev_stW agg_23 rfl rfl rfl B32 rfl rfl) ?_
 rintro _ w13 ⟨Bw13, M13⟩
 have z33 := M13.size
 refine qm rfl<|sd_done<|sw_ret<|block_r<|then_r<|then_r<|block_r ?_
 refine then_r ?_
 have X34 := ((((X22.kz K9).trans G11).trans G12).md M13)
 cases hm
 refine ⟨_, _, rfl, res_2 rfl (rv_cellW agg_23 rfl Bw13 rfl) (rv_tmp rfl), ?_⟩
 exact ⟨rfl, X34⟩
theorem cover_Open_w {p0 p1 p2 vp1_1 zp1_1 gp1_1 op1_1 vp2_0 zp2_0 gp2_0 op2_0 vp2_2 zp2_2 gp2_2 op2_2 r} (hm : cover_Open p0 p1 p2 = some r) {w : World} (hp1_1 : Rd w zp1_1 gp1_1 op1_1 18 vp1_1 (p1.Labels.map TLabel.cs)) (hp2_0 : Rd w zp2_0 gp2_0 op2_0 18 vp2_0 (p2.Items.map TItem.cs)) (hp2_2 : Rd w zp2_2 gp2_2 op2_2 2 vp2_2 (p2.Points.map TPoint.cs)) :
    Calls Tryz.prog 53 [.agg (TScheme.cs p0).toArray, .agg (TSecret.cs p1 vp1_1).toArray, .agg (THeader.cs p2 vp2_0 vp2_2).toArray].toArray w fun e w' => ∃ v, e = .returned v ∧ (v = .tuple [kv r.1, .int .i64 r.2].toArray ∧ Gr w w') := by
 have lt1 := hp1_1.lth
 have lt2 := hp2_0.lth
 have lt3 := hp2_2.lth
 unfold cover_Open at hm
 refine calls_of_sw 82 Tryz.func53 rfl rfl rfl<|qs 5 rfl<|qe rfl (ev_box (cs := TScheme.cs p0) rfl rfl) ?_
 rintro _ w1 ⟨b1, rfl, hbw1, Bw1, G1⟩
 have z4 := G1.size
 have lt5 := Bw1.lt
 refine qe rfl (ev_box (cs := TSecret.cs p1 vp1_1) rfl rfl) ?_
 rintro _ w2 ⟨b2, rfl, hbw2, Bw2, G2⟩
 have z6 := G2.size
 have lt7 := Bw2.lt
 refine qe rfl (ev_box (cs := THeader.cs p2 vp2_0 vp2_2) rfl rfl) ?_
 rintro _ w3 ⟨b3, rfl, hbw3, Bw3, G3⟩
 have z8 := G3.size
 have lt9 := Bw3.lt
 refine qe rfl (ev_alloc (cs := kb k0) zv_23 rfl) ?_
 rintro _ w4 ⟨b4, rfl, hbw4, Bw4, G4⟩
 have z10 := G4.size
 have lt11 := Bw4.lt
 refine qm rfl<|qd 8 rfl ?_
 have Y1 := Gr.trans (Gr.trans G2 G3) G4
 have B12 := (Bw1.gr Y1)
 refine qv rfl (vv_loadW agg_28 rfl B12 rfl) ?_
 obtain ⟨x1, hx1, hm⟩ := bnd hm
 refine qe rfl (eC en_112 rfl (cover_enter_w hx1 (Own.rd (own_nil _ 0 131 2)))) ?_
 rintro _ w5 ⟨rfl, G5⟩
 have z13 := G5.size
 refine qm rfl<|qm rfl<|qm rfl<|qe rfl (ev_alloc (cs := Tcover_tree.cs (Tcover_tree.mk 0#8 0 0)) zv_175 rfl) ?_
 rintro _ w6 ⟨b6, rfl, hbw6, Bw6, G6⟩
 have z14 := G6.size
 have lt15 := Bw6.lt
 refine qe rfl (ev_stW agg_175 rfl rfl rfl Bw6 rfl rfl) ?_
 rintro _ w7 ⟨Bw7, M7⟩
 have z16 := M7.size
 refine qm rfl<|sd_done<|sw_seq<|qs 2 rfl<|qm rfl<|qv rfl (vv_neq (a := x1.2) (b := 0) rfl rfl) ?_
 refine sd_done<|sw_cond rfl (fun c1 => ?_) (fun c1 => ?_)
 · replace hm := iT c1 hm
   refine qs 4 rfl<|qv rfl (vv_buildZ bz_23)<|qm rfl ?_
   have Y2 := Gr.trans G5 G6
   have B17 := ((Bw4.gr Y2).md M7)
   refine qe rfl (ev_stW agg_23 rfl rfl rfl B17 rfl rfl) ?_
   rintro _ w8 ⟨Bw8, M8⟩
   have z18 := M8.size
   refine qm rfl<|qb ?_
   have Y3 := Gr.trans (Gr.trans G1 Y1) Y2
   have X19 := ((((Gr.refl w).trans Y3).md M7).md M8)
   cases hm
   refine ⟨_, _, rfl, res_2 rfl (rv_cellW agg_23 rfl Bw8 rfl) (rv_tmp rfl), ?_⟩
   exact ⟨rfl, X19⟩
 replace hm := iF c1 hm
 refine qu<|qs 2 rfl<|qv rfl (vv_makeFunc rfl rfl)<|qm rfl<|sd_done ?_
 refine sw_seq ?_
 have Y4 := Gr.trans (Gr.trans (Gr.trans G1 Y1) G5) G6
 have X20 := (((Gr.refl w).trans Y4).md M7)
 refine qj (β := Bool) (rg 26 27) (fun a2 => [(52, .bool a2)]) (fun a2 wr => (cover_Open_J1 p1 p2 x1 a2 = some r) ∧ Kz [] w7 wr) ?_ ?_
 · refine qg 27 rfl<|qv rfl (vv_fieldAddr fa_48_0 rfl) ?_
   have Y5 := Gr.trans (Gr.trans G4 G5) G6
   have B60 := ((Bw3.gr Y5).md M7)
   refine qv rfl (vv_load1 (v := vp2_0) one_45 rfl B60 rfl) ?_
   have B61 := ((hp2_0.gr Y4).md M7 (pb_lt lt2))
   refine qv rfl (vv_lenT (l := p2.Items) (c := TItem.cs) Tryz.underlying45 rfl B61)<|qv rfl (vv_gtr (a := (p2.Items.length : Int)) (b := 64) rfl rfl)<|qp rfl (vv_move rfl) (fun c6 => ?_) (fun c6 => ?_)
   · replace hm := iT c6 hm
     refine qk rfl<|qk rfl<|qk rfl<|qm rfl<|qm rfl<|qk rfl<|qk rfl ?_
     refine qk rfl<|qk rfl<|qm rfl<|qm rfl<|qk rfl<|qk rfl<|qk rfl ?_
     refine qk rfl<|qm rfl<|qm rfl<|qk rfl<|qk rfl<|qk rfl<|qk rfl ?_
     refine qm rfl<|sd_nil ?_
     exact ⟨rfl, true, sbq, hm, kz0⟩
   replace hm := iF c6 hm
   refine qv rfl (vv_fieldAddr fa_48_1 rfl)<|qv rfl (vv_load1 (v := wv p2.Base) one_24 rfl B60 rfl)<|qv rfl (vv_neqU (c := p2.Base) (d := 0#64) rfl rfl)<|qm rfl<|qp rfl (vv_move rfl) (fun c7 => ?_) (fun c7 => ?_)
   · replace hm := iT c7 hm
     refine qk rfl<|qk rfl<|qk rfl<|qk rfl<|qm rfl<|qm rfl<|qk rfl ?_
     refine qk rfl<|qk rfl<|qk rfl<|qm rfl<|qm rfl<|qk rfl<|qk rfl ?_
     refine qk rfl<|qk rfl<|qm rfl<|sd_nil ?_
     exact ⟨rfl, true, sbq, hm, kz0⟩
   replace hm := iF c7 hm
   refine qv rfl (vv_fieldAddr fa_48_2 rfl)<|qv rfl (vv_load1 (v := vp2_2) one_46 rfl B60 rfl) ?_
   have B64 := ((hp2_2.gr Y4).md M7 (pb_lt lt3))
   refine qv rfl (vv_lenT (l := p2.Points) (c := TPoint.cs) Tryz.underlying46 rfl B64)<|qv rfl (vv_gtr (a := (p2.Points.length : Int)) (b := 0) rfl rfl)<|qm rfl<|qp rfl (vv_move rfl) (fun c8 => ?_) (fun c8 => ?_)
   · replace hm := iT c8 hm
     refine qk rfl<|qk rfl<|qk rfl<|qk rfl<|qm rfl<|qm rfl<|qk rfl ?_
     refine qk rfl<|qk rfl<|qk rfl<|qm rfl<|sd_nil ?_
     exact ⟨rfl, true, sbq, hm, kz0⟩
   replace hm := iF c8 hm
   refine qv rfl (vv_fieldAddr fa_48_3 rfl)<|qv rfl (vv_loadM (vs := kb p2.Box) agg_23 rfl B60 rfl rfl)<|qv rfl (vv_buildZ bz_23)<|qv rfl (vv_neqS (cf := kb) (a := p2.Box) (b := k0) eqt_23 rfl rfl rfl rfl (fun h => kb_inj h))<|qm rfl<|qp rfl (vv_move rfl) (fun c9 => ?_) (fun c9 => ?_)
   · replace hm := iT c9 hm
     refine qk rfl<|qk rfl<|qk rfl<|qk rfl<|qm rfl<|sd_nil ?_
     exact ⟨rfl, true, sbq, hm, kz0⟩
   replace hm := iF c9 hm
   refine qv rfl (vv_fieldAddr fa_48_0 rfl)<|qv rfl (vv_load1 (v := vp2_0) one_45 rfl B60 rfl)<|qm rfl ?_
   obtain ⟨x7, hx7, hm⟩ := bnd hm
   refine qe rfl (eC en_125 rfl (slices_ContainsFunc_9968_cover_Open_1_w hx7 B61 Bw7)) ?_
   rintro _ w24 ⟨rfl, G24⟩
   have z67 := G24.size
   refine qm rfl<|sd_nil ?_
   exact ⟨rfl, x7, sbq, hm, (kz0.gr G24)⟩
 clear hm; rintro a2 w9 ⟨hm, K9⟩
 have z21 := K9.size
 unfold cover_Open_J1 at hm
 refine sw_cond rfl (fun c2 => ?_) (fun c2 => ?_)
 · replace hm := cnd_t c2 hm
   refine qs 3 rfl<|qv rfl (vv_buildZ bz_23) ?_
   have Y6 := Gr.trans G5 G6
   have B22 := (((Bw4.gr Y6).md M7).kz K9)
   refine qe rfl (ev_stW agg_23 rfl rfl rfl B22 rfl rfl) ?_
   rintro _ w10 ⟨Bw10, M10⟩
   have z23 := M10.size
   refine qm rfl<|qb ?_
   have X24 := ((X20.kz K9).md M10)
   cases hm
   refine ⟨_, _, rfl, res_2 rfl (rv_cellW agg_23 rfl Bw10 rfl) (rv_tmp rfl), ?_⟩
   exact ⟨rfl, X24⟩
 replace hm := cnd_f c2 hm
 refine qu<|sw_seq<|qs 4 rfl<|qv rfl (vv_fieldAddr fa_48_0 rfl) ?_
 have Y7 := Gr.trans (Gr.trans G4 G5) G6
 have B25 := (((Bw3.gr Y7).md M7).kz K9)
 refine qv rfl (vv_load1 (v := vp2_0) one_45 rfl B25 rfl) ?_
 have B26 := (((hp2_0.gr Y4).md M7 (pb_lt lt2)).kz K9)
 refine qv rfl (vv_lenT (l := p2.Items) (c := TItem.cs) Tryz.underlying45 rfl B26)<|qm rfl<|sd_done<|sw_block ?_
 have X27 := (X20.kz K9)
 have B28 := (((hp1_1.gr Y4).md M7 (pb_lt lt1)).kz K9)
 have B29 := (((hp2_2.gr Y4).md M7 (pb_lt lt3)).kz K9)
 refine sw_loopD (α := Nat × Int) ([7, 12, 13, 14, 15] ++ rg 57 24) (fun ⟨n2, a4⟩ => [(7, .int .i64 0), (57, .int .i64 a4)]) (fun ⟨n2, a4⟩ wr => (fixN (cover_Open_L2 p1 p2 x1) n2 a4 = some r) ∧ Kz [] w9 wr) (fun ⟨n2, a4⟩ => n2) ⟨FUEL, 0⟩ ?_ ?_ ?_
 · exact sbq
 · exact ⟨hm, Kz.refl _ _⟩
 clear hm; rintro ⟨n2, a4⟩ w11 ⟨hm, K11⟩
 have z30 := K11.size
 have hb := fix_succ hm; clear hm; obtain ⟨n2, rfl, hm⟩ := hb
 generalize hrec2 : fixN (cover_Open_L2 p1 p2 x1) n2 = rec2 at hm
 unfold cover_Open_L2 at hm
 try dsimp only at hm
 refine qs 1 rfl<|qv rfl (vv_lss (a := a4) (b := (p2.Items.length : Int)) rfl rfl)<|sd_done<|sw_seq<|cnF rfl (fun c3 => ?_) (fun c3 => ?_)
 · replace hm := iF c3 hm
   refine sw_exit<|then_x<|then_x<|block_x<|then_n<|qs 3 rfl ?_
   refine qv rfl (vv_buildZ bz_23) ?_
   have Y8 := Gr.trans G5 G6
   have B57 := ((((Bw4.gr Y8).md M7).kz K9).kz K11)
   refine qe rfl (ev_stW agg_23 rfl rfl rfl B57 rfl rfl) ?_
   rintro _ w23 ⟨Bw23, M23⟩
   have z58 := M23.size
   refine qm rfl<|sd_done<|sw_ret ?_
   have X59 := ((X27.kz K11).md M23)
   cases hm
   refine ⟨_, _, rfl, res_2 rfl (rv_cellW agg_23 rfl Bw23 rfl) (rv_tmp rfl), ?_⟩
   exact ⟨rfl, X59⟩
 replace hm := iT c3 hm
 refine qu<|sw_seq<|sw_block<|qs 4 rfl ?_
 obtain ⟨y5, hy5, hm⟩ := bnd hm
 have B31 := (B26.kz K11)
 refine qv rfl (vv_ixT (i := a4) Tryz.underlying45 (agg_133).siz rfl B31 rfl hy5)<|qv rfl (vv_elWT agg_133 rfl B31 hy5 (by first | rfl | omega))<|qe rfl (ev_alloc (cs := TItem.cs (TItem.mk (TSubset.mk 0 0) k0)) zv_133 rfl) ?_
 rintro _ w12 ⟨b12, rfl, hbw12, Bw12, G12⟩
 have z32 := G12.size
 have lt33 := Bw12.lt
 refine qe rfl (ev_stW agg_133 rfl rfl rfl Bw12 rfl rfl) ?_
 rintro _ w13 ⟨Bw13, M13⟩
 have z34 := M13.size
 refine qd 11 rfl ?_
 have B35 := ((((Bw7.kz K9).kz K11).gr G12).md M13)
 refine qv rfl (vv_loadW agg_175 rfl B35 rfl) ?_
 have Y9 := Gr.trans G3 Y7
 have B36 := ((((((Bw2.gr Y9).md M7).kz K9).kz K11).gr G12).md M13)
 refine qv rfl (vv_loadW agg_33 rfl B36 rfl)<|qv rfl (vv_fieldAddr fa_133_0 rfl)<|qv rfl (vv_loadM (vs := TSubset.cs y5.Subset) agg_131 rfl Bw13 rfl rfl) ?_
 have B37 := (((B28.kz K11).gr G12).md M13 (pb_lt lt1))
 obtain ⟨x6, hx6, hm⟩ := bnd hm
 refine qe rfl (eC en_126 rfl (cover_tree_find_w hx6 B37)) ?_
 rintro _ w14 ⟨rfl, G14⟩
 have z38 := G14.size
 refine qm rfl<|qm rfl<|qm rfl<|qe rfl (ev_alloc (cs := kb k0) zv_23 rfl) ?_
 rintro _ w15 ⟨b15, rfl, hbw15, Bw15, G15⟩
 have z39 := G15.size
 have lt40 := Bw15.lt
 refine qe rfl (ev_stW agg_23 rfl rfl rfl Bw15 rfl rfl) ?_
 rintro _ w16 ⟨Bw16, M16⟩
 have z41 := M16.size
 refine qm rfl<|qd 1 rfl<|qm rfl<|sd_done<|cnF rfl (fun c4 => ?_) (fun c4 => ?_)
 · replace hm := cnd_f c4 hm
   refine sw_skip<|block_n<|then_n<|qg 2 rfl<|qv rfl (vv_add (k := .i64) (a := a4) (b := 1) rfl rfl)<|qm rfl<|sd_nil ?_
   have Y10 := Gr.trans G14 G15
   have K_56 : Kz [] w9 w16 := ((((K11.gr G12).md M13).gr Y10).md M16)
   subst hrec2
   exact ⟨rfl, ⟨n2, w64 (a4 + 1)⟩, sbq, ⟨hm, K_56⟩, Nat.lt_succ_self _⟩
 replace hm := cnd_t c4 hm
 refine qs 6 rfl<|qv rfl (vv_loadW agg_23 rfl Bw16 rfl)<|qv rfl (vv_fieldAddr fa_133_1 rfl) ?_
 have Y11 := Gr.trans G14 G15
 have B42 := ((Bw13.gr Y11).md M16)
 refine qv rfl (vv_loadM (vs := kb y5.Box) agg_23 rfl B42 rfl rfl)<|qe rfl (eC en_111 rfl (decr_c x6.1 y5.Box _)) ?_
 rintro _ w17 ⟨rfl, G17⟩
 have z43 := G17.size
 refine qe rfl (ev_alloc (cs := kb k0) zv_23 rfl) ?_
 rintro _ w18 ⟨b18, rfl, hbw18, Bw18, G18⟩
 have z44 := G18.size
 have lt45 := Bw18.lt
 refine qe rfl (ev_stW agg_23 rfl rfl rfl Bw18 rfl rfl) ?_
 rintro _ w19 ⟨Bw19, M19⟩
 have z46 := M19.size
 refine sd_done<|sw_seq<|dw [([])] [] (.leaf [(0,10),(2,10),(3,10),(1,0),(4,10)]) ?_
 intro w20 G20 zw20
 refine sdz_leaf ?_
 have B47 := (Bw19.gr G20)
 refine dh 0 rfl rfl (fun w hS => vv_loadW agg_23 rfl (Bx.kp B47 hS) rfl)<|dh 0 rfl rfl (fun w hS => vv_fieldAddr fa_48_4 rfl) ?_
 have Y12 := Gr.trans G17 G18
 have B48 := ((((((((B25.kz K11).gr G12).md M13).gr Y11).md M16).gr Y12).md M19).gr G20)
 refine dh 0 rfl rfl (fun w hS => vv_loadM (vs := kb p2.Check) agg_23 rfl (Bx.kp B48 hS) rfl rfl)<|qz [] rfl (eC en_48 rfl (derive_c (decr x6.1 y5.Box) (un8 53#8) (un8_nn _) (un8_le _) 0#64 _)) ⟨fun _ => tk0, trivial⟩ ?_
 rintro _ w21 ⟨rfl, G21⟩
 have z49 := G21.size
 refine kG G21 ?_
 have S50 := ((Kp.refl ([]) w20).gr G21)
 refine qh 0 rfl rfl S50 (fun w hS => vv_eqlS (cf := kb) (a := drv (decr x6.1 y5.Box) (un8 53#8) 0#64) (b := p2.Check) eqt_23 rfl rfl rfl rfl (fun h => kb_inj h))<|sd_done<|cnF rfl (fun c5 => ?_) (fun c5 => ?_)
 · replace hm := iF c5 hm
   refine sw_skip<|block_n<|then_n<|qg 2 rfl<|qv rfl (vv_add (k := .i64) (a := a4) (b := 1) rfl rfl)<|qm rfl<|sd_nil ?_
   have K_55 : Kz [] w9 w21 := ((((((((K11.gr G12).md M13).gr Y11).md M16).gr Y12).md M19).gr G20).gr G21)
   subst hrec2
   exact ⟨rfl, ⟨n2, w64 (a4 + 1)⟩, sbq, ⟨hm, K_55⟩, Nat.lt_succ_self _⟩
 replace hm := iT c5 hm
 refine qs 3 rfl ?_
 have B51 := (B47.gr G21)
 refine qv rfl (vv_loadW agg_23 rfl B51 rfl) ?_
 have Y13 := Gr.trans G5 G6
 have B52 := ((((((((((((Bw4.gr Y13).md M7).kz K9).kz K11).gr G12).md M13).gr Y11).md M16).gr Y12).md M19).gr G20).gr G21)
 refine qe rfl (ev_stW agg_23 rfl rfl rfl B52 rfl rfl) ?_
 rintro _ w22 ⟨Bw22, M22⟩
 have z53 := M22.size
 refine qm rfl<|sd_done<|sw_ret<|block_r<|then_r<|then_r<|block_r ?_
 refine then_r ?_
 have X54 := ((((((((((X27.kz K11).trans G12).md M13).trans Y11).md M16).trans Y12).md M19).trans G20).trans G21).md M22)
 cases hm
 refine ⟨_, _, rfl, res_2 rfl (rv_cellW agg_23 rfl Bw22 rfl) (rv_tmp rfl), ?_⟩
 exact ⟨rfl, X54⟩
theorem cover_tree_list_w {p0 p1 vp1 zp1 gp1 op1 r} (hm : cover_tree_list p0 p1 = some r) {w : World} (hp1 : Rd w zp1 gp1 op1 1 vp1 (p1.map ic)) :
    Calls Tryz.prog 113 [.agg (Tcover_tree.cs p0).toArray, vp1].toArray w fun e w' => ∃ v, e = .returned v ∧ (v = .bool r ∧ Gr w w') := by
 have lt1 := hp1.lth
 unfold cover_tree_list at hm
 refine calls_of_sw 32 Tryz.func113 rfl rfl rfl<|qs 2 rfl<|qe rfl (ev_box (cs := Tcover_tree.cs p0) rfl rfl) ?_
 rintro _ w1 ⟨b1, rfl, hbw1, Bw1, G1⟩
 have z2 := G1.size
 have lt3 := Bw1.lt
 refine qm rfl<|sd_done<|sw_seq<|qs 3 rfl<|qm rfl ?_
 have B4 := (hp1.gr G1)
 refine qv rfl (vv_lenT (l := p1) (c := ic) Tryz.underlying44 rfl B4)<|qm rfl<|sd_done<|sw_block ?_
 have X5 := ((Gr.refl w).trans G1)
 refine sw_loopD (α := Nat × Int) ([4, 5, 6] ++ rg 9 23) (fun ⟨n1, a2⟩ => [(4, .bool false), (9, .int .i64 a2)]) (fun ⟨n1, a2⟩ wr => (fixN (cover_tree_list_L1 p0 p1) n1 a2 = some r) ∧ Kz [] w1 wr) (fun ⟨n1, a2⟩ => n1) ⟨FUEL, 0⟩ ?_ ?_ ?_
 · exact sbq
 · exact ⟨hm, Kz.refl _ _⟩
 clear hm; rintro ⟨n1, a2⟩ w2 ⟨hm, K2⟩
 have z6 := K2.size
 have hb := fix_succ hm; clear hm; obtain ⟨n1, rfl, hm⟩ := hb
 generalize hrec1 : fixN (cover_tree_list_L1 p0 p1) n1 = rec1 at hm
 unfold cover_tree_list_L1 at hm
 try dsimp only at hm
 refine qs 1 rfl<|qv rfl (vv_lss (a := a2) (b := (p1.length : Int)) rfl rfl)<|sd_done<|sw_seq<|cnF rfl (fun c1 => ?_) (fun c1 => ?_)
 · replace hm := iF c1 hm
   refine sw_exit<|then_x<|then_x<|block_x<|then_n<|qs 1 rfl ?_
   refine qm rfl<|sd_done<|sw_ret ?_
   have X18 := (X5.kz K2)
   cases hm
   refine ⟨_, _, rfl, res_1 rfl (rv_tmp rfl), ?_⟩
   exact ⟨rfl, X18⟩
 replace hm := iT c1 hm
 refine qu<|sw_seq<|sw_block<|qs 5 rfl<|qm rfl ?_
 obtain ⟨y3, hy3, hm⟩ := bnd hm
 have B7 := (B4.kz K2)
 refine qv rfl (vv_ixT (i := a2) Tryz.underlying44 (one_3).siz rfl B7 rfl hy3)<|qv rfl (vv_el1T (q := 0) (u := .int .i64 y3) one_3 rfl B7 hy3 (by first | rfl | omega) rfl)<|qm rfl<|qm rfl<|sd_done ?_
 have X8 := (X5.kz K2)
 refine qj (β := Bool) (rg 14 17) (fun a4 => [(30, .bool a4)]) (fun a4 wr => (cover_tree_list_J2 a2 rec1 a4 = some r) ∧ Kz [] w2 wr) ?_ ?_
 · refine qg 17 rfl ?_
   have B12 := (Bw1.kz K2)
   refine qv rfl (vv_loadW agg_175 rfl B12 rfl)<|qm rfl ?_
   obtain ⟨x5, hx5, hm⟩ := bnd hm
   refine qe rfl (eC en_188 rfl (cover_tree_receiver_w hx5)) ?_
   rintro _ w4 ⟨rfl, G4⟩
   have z13 := G4.size
   refine qv rfl (vv_not rfl)<|qp rfl (vv_move rfl) (fun c3 => ?_) (fun c3 => ?_)
   · replace hm := cnd_t c3 hm
     refine qk rfl<|qk rfl<|qk rfl<|qk rfl<|qk rfl<|qk rfl<|qk rfl ?_
     refine qk rfl<|qk rfl<|qk rfl<|qk rfl<|qm rfl<|sd_nil ?_
     exact ⟨rfl, true, sbq, hm, (kz0.gr G4)⟩
   replace hm := cnd_f c3 hm
   refine qm rfl<|qv rfl (vv_gtr (a := a2) (b := 0) rfl rfl)<|qpF rfl (vv_move rfl) (fun c4 => ?_) (fun c4 => ?_)
   · replace hm := iF c4 hm
     refine qk rfl<|qk rfl<|qk rfl<|qk rfl<|qk rfl<|qk rfl<|qk rfl ?_
     refine qm rfl<|qm rfl<|sd_nil ?_
     exact ⟨rfl, false, sbq, hm, (kz0.gr G4)⟩
   replace hm := iT c4 hm
   refine qm rfl<|qm rfl<|qm rfl<|qv rfl (vv_sub (k := .i64) (a := a2) (b := 1) rfl rfl) ?_
   obtain ⟨y6, hy6, hm⟩ := bnd hm
   have B15 := (B7.gr G4)
   refine qv rfl (vv_ixT (i := w64 (a2 - 1)) Tryz.underlying44 (one_3).siz rfl B15 rfl hy6)<|qv rfl (vv_el1T (q := 0) (u := .int .i64 y6) one_3 rfl B15 hy6 (by first | rfl | omega) rfl)<|qv rfl (vv_leq (a := y3) (b := y6) rfl rfl)<|qm rfl<|qm rfl<|sd_nil ?_
   exact ⟨rfl, (decide (y3 ≤ y6)), sbq, hm, (kz0.gr G4)⟩
 clear hm; rintro a4 w3 ⟨hm, K3⟩
 have z9 := K3.size
 unfold cover_tree_list_J2 at hm
 refine sw_cond rfl (fun c2 => ?_) (fun c2 => ?_)
 · replace hm := cnd_t c2 hm
   refine qs 1 rfl<|qm rfl<|sd_done<|sw_ret<|block_r<|then_r ?_
   refine then_r<|block_r<|then_r ?_
   have X10 := (X8.kz K3)
   cases hm
   refine ⟨_, _, rfl, res_1 rfl (rv_tmp rfl), ?_⟩
   exact ⟨rfl, X10⟩
 replace hm := cnd_f c2 hm
 refine sw_skip<|block_n<|then_n<|qg 2 rfl<|qv rfl (vv_add (k := .i64) (a := a2) (b := 1) rfl rfl)<|qm rfl<|sd_nil ?_
 have K_11 : Kz [] w1 w3 := (K2.kz K3)
 subst hrec1
 exact ⟨rfl, ⟨n1, w64 (a2 + 1)⟩, sbq, ⟨hm, K_11⟩, Nat.lt_succ_self _⟩
theorem cover_Cover_1_w {p0 p1 p2 bp2 vp2_0 zp2_0 gp2_0 r} (hm : cover_Cover_1 p0 p1 p2 = some r) {w : World} (hbp2 : Bx w bp2 107 ([vp2_0])) (hp2_0 : Own w zp2_0 gp2_0 131 2 vp2_0 (p2.map TSubset.cs)) (ne0 : Hdn (zp2_0 = 0 ∨ gp2_0 ≠ bp2)) :
    Calls Tryz.prog 115 [.int .i64 p0, .int .i64 p1, .pointer (some ⟨bp2, 0, none⟩)].toArray w fun e w' => ∃ v, e = .returned v ∧ (∃ ub0_s zb0_s gb0_s, v = .tuple #[] ∧ Own w' zb0_s gb0_s 131 2 ub0_s (r.map TSubset.cs) ∧ Hdn (zb0_s = 0 ∨ (gb0_s = gp2_0 ∧ zp2_0 ≠ 0) ∨ w.heap.size ≤ gb0_s) ∧ Bx w' bp2 107 ([ub0_s]) ∧ Kz [(zp2_0, gp2_0), (1, bp2)] w w') := by
 have lt1 := hp2_0.lth
 have lt2 := hbp2.lt
 unfold cover_Cover_1 at hm
 refine calls_of_sw 11 Tryz.func115 rfl rfl rfl<|qg 7 rfl<|qv rfl (vv_load1 (v := vp2_0) one_107 rfl hbp2 rfl)<|qm rfl<|qm rfl<|qv rfl (vv_build (cs := TSubset.cs (TSubset.mk p0 p1)) bs_131 rfl rfl)<|qe rfl (ev_litT [(TSubset.mk p0 p1)] TSubset.cs bsl_107_1 rfl rfl (ws_of rfl) rfl rfl rfl) ?_
 rintro vw1 w1 ⟨gw1, hbw1, Ow1, G1⟩
 have z3 := G1.size
 have lt4 := Ow1.lth
 have B5 := (hp2_0.gr G1)
 obtain ⟨l1, hl1, hm⟩ := bnd hm
 refine qe rfl (ev_appT (l := p2) (m := [(TSubset.mk p0 p1)]) (c := TSubset.cs) apt_107 rfl rfl B5 (Own.rd Ow1) hl1 (by decide)) ?_
 rintro vw2 w2 ⟨zw2, gw2, Ow2, Aw2, qw2, rw2⟩
 have z6 := Aw2.size
 have B7 := ((hbp2.gr G1).ka Aw2 (tk1 ((tk2 lt1.o ne0.o) : zp2_0 = 0 ∨ gp2_0 ≠ bp2)))
 refine qe rfl (ev_st1 (cs' := [vw2]) (one_107).siz rfl rfl (Own.oneB Ow2) B7 rfl rfl) ?_
 rintro _ w3 ⟨Bw3, M3⟩
 have z8 := M3.size
 refine sd_nil ?_
 have B9 := (Ow2.md M3 (pb_app rw2 (tk2 lt1.o ne0.o)))
 have X10 := ((((Kz.refl [(zp2_0, gp2_0), (1, bp2)] w).gr G1).ka Aw2 (tk1 (tk0 : zp2_0 = 0 ∨ (gp2_0 = gp2_0 ∧ zp2_0 ≠ 0) ∨ w.heap.size ≤ gp2_0))).md M3)
 cases hm
 refine ⟨_, _, rfl, res_none rfl, ?_⟩
 exact ⟨vw2, zw2, gw2, rfl, B9, ⟨(pv_app (A := (fun x => (x = gp2_0 ∧ zp2_0 ≠ 0) ∨ w.heap.size ≤ x)) rw2 tk0)⟩, Bw3, X10⟩
theorem cover_Cover_w {p0 p1 vp1 zp1 gp1 op1 r} (hm : cover_Cover p0 p1 = some r) {w : World} (hp1 : Rd w zp1 gp1 op1 1 vp1 (p1.map ic)) :
    Calls Tryz.prog 51 [.agg (TScheme.cs p0).toArray, vp1].toArray w fun e w' => ∃ v, e = .returned v ∧ (∃ ur0_s zr0_s gr0_s, v = .tuple [ur0_s, .int .i64 r.2].toArray ∧ Own w' zr0_s gr0_s 131 2 ur0_s (r.1.map TSubset.cs) ∧ Hdn (zr0_s = 0 ∨ w.heap.size ≤ gr0_s) ∧ Gr w w') := by
 have lt1 := hp1.lth
 unfold cover_Cover at hm
 refine calls_of_sw 134 Tryz.func51 rfl rfl rfl<|qs 3 rfl<|qe rfl (ev_box (cs := TScheme.cs p0) rfl rfl) ?_
 rintro _ w1 ⟨b1, rfl, hbw1, Bw1, G1⟩
 have z2 := G1.size
 have lt3 := Bw1.lt
 refine qm rfl<|qm rfl<|qd 8 rfl<|qv rfl (vv_loadW agg_28 rfl Bw1 rfl) ?_
 obtain ⟨x1, hx1, hm⟩ := bnd hm
 refine qe rfl (eC en_112 rfl (cover_enter_w hx1 (Own.rd (own_nil _ 0 131 2)))) ?_
 rintro _ w2 ⟨rfl, G2⟩
 have z4 := G2.size
 refine qm rfl<|qm rfl<|qm rfl<|qe rfl (ev_alloc (cs := Tcover_tree.cs (Tcover_tree.mk 0#8 0 0)) zv_175 rfl) ?_
 rintro _ w3 ⟨b3, rfl, hbw3, Bw3, G3⟩
 have z5 := G3.size
 have lt6 := Bw3.lt
 refine qe rfl (ev_stW agg_175 rfl rfl rfl Bw3 rfl rfl) ?_
 rintro _ w4 ⟨Bw4, M4⟩
 have z7 := M4.size
 refine qm rfl<|sd_done<|sw_seq<|qs 2 rfl<|qm rfl<|qv rfl (vv_neq (a := x1.2) (b := 0) rfl rfl) ?_
 refine sd_done<|sw_cond rfl (fun c1 => ?_) (fun c1 => ?_)
 · replace hm := iT c1 hm
   refine qs 3 rfl<|qm rfl<|qm rfl<|qm rfl<|sd_done<|sw_ret ?_
   refine then_r ?_
   have Y1 := Gr.trans (Gr.trans G1 G2) G3
   have X8 := (((Gr.refl w).trans Y1).md M4)
   cases hm
   refine ⟨_, _, rfl, res_2 rfl (rv_tmp rfl) (rv_tmp rfl), ?_⟩
   exact ⟨(.slice none 0 0), 0, 0, rfl, (own_nil _ 0 131 2), ⟨.inl rfl⟩, X8⟩
 replace hm := iF c1 hm
 refine qu<|sw_seq<|qs 4 rfl<|qv rfl (vv_loadW agg_175 rfl Bw4 rfl)<|qm rfl ?_
 have Y2 := Gr.trans (Gr.trans G1 G2) G3
 have B9 := ((hp1.gr Y2).md M4 (pb_lt lt1))
 obtain ⟨x2, hx2, hm⟩ := bnd hm
 refine qe rfl (eC en_113 rfl (cover_tree_list_w hx2 B9)) ?_
 rintro _ w5 ⟨rfl, G5⟩
 have z10 := G5.size
 refine qv rfl (vv_not rfl)<|sd_done<|sw_cond rfl (fun c2 => ?_) (fun c2 => ?_)
 · replace hm := cnd_t c2 hm
   refine qs 2 rfl<|qm rfl<|qm rfl<|sd_done<|sw_ret<|then_r ?_
   have X11 := ((((Gr.refl w).trans Y2).md M4).trans G5)
   cases hm
   refine ⟨_, _, rfl, res_2 rfl (rv_tmp rfl) (rv_tmp rfl), ?_⟩
   exact ⟨(.slice none 0 0), 0, 0, rfl, (own_nil _ 0 131 2), ⟨.inl rfl⟩, X11⟩
 replace hm := cnd_f c2 hm
 refine qu<|sw_seq<|qs 3 rfl<|qm rfl ?_
 have B12 := (B9.gr G5)
 refine qv rfl (vv_lenT (l := p1) (c := ic) Tryz.underlying44 rfl B12)<|qv rfl (vv_eql (a := (p1.length : Int)) (b := 0) rfl rfl)<|sd_done<|sw_cond rfl (fun c3 => ?_) (fun c3 => ?_)
 · replace hm := iT c3 hm
   refine qs 4 rfl<|qv rfl (vv_build (cs := TSubset.cs (TSubset.mk 1 0)) bs_131 rfl rfl)<|qe rfl (ev_litT [(TSubset.mk 1 0)] TSubset.cs bsl_107_1 rfl rfl (ws_of rfl) rfl rfl rfl) ?_
   rintro vw6 w6 ⟨gw6, hbw6, Ow6, G6⟩
   have z13 := G6.size
   have lt14 := Ow6.lth
   refine qm rfl<|qm rfl<|qb ?_
   have X15 := (((((Gr.refl w).trans Y2).md M4).trans G5).trans G6)
   cases hm
   refine ⟨_, _, rfl, res_2 rfl (rv_tmp rfl) (rv_tmp rfl), ?_⟩
   exact ⟨vw6, 1, gw6, rfl, Ow6, ⟨(.inr tk0)⟩, X15⟩
 replace hm := iF c3 hm
 refine qu<|qs 2 rfl<|qe rfl (ev_makeMap) ?_
 rintro _ w7 ⟨b7, rfl, hbw7, Bw7, G7⟩
 have z16 := G7.size
 have lt17 := Bw7.lt
 refine qm rfl<|sd_done<|sw_seq<|qs 3 rfl<|qm rfl ?_
 have B18 := (B12.gr G7)
 refine qv rfl (vv_lenT (l := p1) (c := ic) Tryz.underlying44 rfl B18)<|qm rfl<|sd_done<|sw_block ?_
 have X19 := (((((Gr.refl w).trans Y2).md M4).trans G5).trans G7)
 refine sw_loopD (α := Nat × Int × List Int) ([10, 11] ++ rg 37 14) (fun ⟨n1, a5, a6⟩ => [(37, .int .i64 a5)]) (fun ⟨n1, a5, a6⟩ wr => (fixN (cover_Cover_L1 p1 x1) n1 (a5, a6) = some r) ∧ Mo wr b7 a6 ∧ Kz [(1, b7)] w7 wr) (fun ⟨n1, a5, a6⟩ => n1) ⟨FUEL, 0, []⟩ ?_ ?_ ?_
 · exact sbq
 · exact ⟨hm, Bw7, Kz.refl _ _⟩
 clear hm; rintro ⟨n1, a5, a6⟩ w8 ⟨hm, Fw8_0, K8⟩
 have z20 := K8.size
 have lt21 := Fw8_0.lt
 have hb := fix_succ hm; clear hm; obtain ⟨n1, rfl, hm⟩ := hb
 generalize hrec1 : fixN (cover_Cover_L1 p1 x1) n1 = rec1 at hm
 unfold cover_Cover_L1 at hm
 try dsimp only at hm
 refine qs 1 rfl<|qv rfl (vv_lss (a := a5) (b := (p1.length : Int)) rfl rfl)<|sd_done<|sw_seq<|sw_cond rfl (fun c4 => ?_) (fun c4 => ?_)
 · replace hm := iT c4 hm
   refine qu<|sw_seq<|sw_block<|qs 3 rfl ?_
   obtain ⟨y7, hy7, hm⟩ := bnd hm
   have B22 := (B18.kz K8 (tk1 (pb_lt (b := b7) lt1)))
   refine qv rfl (vv_ixT (i := a5) Tryz.underlying44 (one_3).siz rfl B22 rfl hy7)<|qv rfl (vv_el1T (q := 0) (u := .int .i64 y7) one_3 rfl B22 hy7 (by first | rfl | omega) rfl)<|qm rfl<|qd 4 rfl ?_
   have B23 := (((Bw4.gr G5).gr G7).kz K8)
   refine qv rfl (vv_loadW agg_175 rfl B23 rfl)<|qm rfl ?_
   obtain ⟨x8, hx8, hm⟩ := bnd hm
   refine qe rfl (eC en_114 rfl (cover_tree_leaf_w hx8)) ?_
   rintro _ w9 ⟨rfl, G9⟩
   have z24 := G9.size
   refine qm rfl<|sd_done<|sw_block ?_
   have X25 := ((X19.kz K8).trans G9)
   have B26 := (B22.gr G9)
   have B27 := (Fw8_0.gr G9)
   refine sw_loopD (α := Nat × Int × List Int) ([11] ++ rg 44 6) (fun ⟨n2, a11, a12⟩ => [(11, .int .i64 a11)]) (fun ⟨n2, a11, a12⟩ wr => (fixN (cover_Cover_L2 a5 rec1) n2 (a11, a12) = some r) ∧ Mo wr b7 a12 ∧ Kz [(1, b7)] w9 wr) (fun ⟨n2, a11, a12⟩ => n2) ⟨FUEL, x8, a6⟩ ?_ ?_ ?_
   · exact sbq
   · exact ⟨hm, B27, Kz.refl _ _⟩
   clear hm; rintro ⟨n2, a11, a12⟩ w10 ⟨hm, Fw10_0, K10⟩
   have z28 := K10.size
   have lt29 := Fw10_0.lt
   have hb := fix_succ hm; clear hm; obtain ⟨n2, rfl, hm⟩ := hb
   generalize hrec2 : fixN (cover_Cover_L2 a5 rec1) n2 = rec2 at hm
   unfold cover_Cover_L2 at hm
   try dsimp only at hm
   refine sw_seq<|qs 2 rfl<|qm rfl<|qv rfl (vv_gtr (a := a11) (b := 0) rfl rfl)<|sd_done<|cnF rfl (fun c5 => ?_) (fun c5 => ?_)
   · replace hm := iF c5 hm
     refine sw_exit<|then_x<|then_x<|block_x<|block_n<|then_n<|qg 2 rfl ?_
     refine qv rfl (vv_add (k := .i64) (a := a5) (b := 1) rfl rfl)<|qm rfl<|sd_nil ?_
     have K_32 : Kz [(1, b7)] w7 w10 := ((K8.gr G9).kz K10)
     subst hrec1
     exact ⟨rfl, ⟨n1, w64 (a5 + 1), a12⟩, sbq, ⟨hm, Fw10_0, K_32⟩, Nat.lt_succ_self _⟩
   replace hm := iT c5 hm
   refine qu<|sw_seq<|sw_block<|qg 3 rfl<|qm rfl<|qm rfl ?_
   refine qe rfl (ev_mapUpd (k := a11) mpt_179 rfl rfl rfl Fw10_0) ?_
   rintro _ w11 ⟨Bw11, M11⟩
   have z30 := M11.size
   refine sd_nil<|block_n<|then_n<|qg 3 rfl<|qm rfl ?_
   obtain ⟨n13, hn13, hm⟩ := bnd hm
   refine qv rfl (vv_shrI (a := a11) (b := (un 1#64)) rfl rfl hn13)<|qm rfl<|sd_nil ?_
   have K_31 : Kz [(1, b7)] w9 w11 := (K10.md M11)
   subst hrec2
   exact ⟨rfl, ⟨n2, shrI a11 n13, insS a12 a11⟩, sbq, ⟨hm, Bw11, K_31⟩, Nat.lt_succ_self _⟩
 replace hm := iF c4 hm
 refine sw_exit<|then_x<|then_x<|block_x<|then_n<|qs 1 rfl ?_
 refine qe rfl (ev_alloc (cs := [(.slice none 0 0)]) zv_107 rfl) ?_
 rintro _ w12 ⟨b12, rfl, hbw12, Bw12, G12⟩
 have z33 := G12.size
 have lt34 := Bw12.lt
 refine qd 2 rfl<|qv rfl (vv_makeFunc rfl rfl)<|qm rfl<|sd_done<|sw_seq ?_
 refine qs 2 rfl<|qm rfl ?_
 have B35 := (Fw8_0.gr G12)
 refine qe rfl (ev_rangeM mpt_179 rfl B35) ?_
 rintro _ w13 ⟨b13, rfl, hbw13, Bw13, G13⟩
 have z36 := G13.size
 have lt37 := Bw13.lt
 refine sd_done<|sw_block ?_
 have X38 := (((X19.kz K8).trans G12).trans G13)
 have B39 := (((B18.kz K8 (tk1 (pb_lt (b := b7) lt1))).gr G12).gr G13)
 have B40 := (B35.gr G13)
 have B41 := (Bw12.gr G13)
 refine sw_loopD (α := Nat × List TSubset × Value × Nat × Nat × List Int) ([14, 15, 16] ++ rg 54 77) (fun ⟨n3, a16, vy17, zy17, gy17, rem⟩ => []) (fun ⟨n3, a16, vy17, zy17, gy17, rem⟩ wr => (rngM (cover_Cover_S3 x1 a6) cover_Cover_E3 n3 rem a16 = some r) ∧ Own wr zy17 gy17 131 2 vy17 (a16.map TSubset.cs) ∧ Hdn (zy17 = 0 ∨ w13.heap.size ≤ gy17) ∧ Bx wr b12 107 [vy17] ∧ Mi wr b13 b7 a6 rem ∧ Kz [(1, b12), (1, b13)] w13 wr) (fun ⟨n3, a16, vy17, zy17, gy17, rem⟩ => n3) ⟨FUEL, [], (.slice none 0 0), 0, 0, a6⟩ ?_ ?_ ?_
 · exact sbq
 · exact ⟨hm, (own_nil _ 0 131 2), ⟨(.inl rfl)⟩, B41, Bw13, Kz.refl _ _⟩
 clear hm; rintro ⟨n3, a16, vy17, zy17, gy17, rem3⟩ w14 ⟨hm, Fw14_0, Fw14_1, Fw14_2, Iw14, K14⟩
 have z42 := K14.size
 have lt43 := Fw14_0.lth
 have lt44 := Fw14_2.lt
 have lt45 := Iw14.lt
 refine qs 2 rfl ?_
 have B46 := (B40.kz K14)
 refine qe rfl (ev_nextM rfl B46 Iw14) ?_
 rintro _ w15 (⟨rfl, hr, G15⟩ | ⟨k18, hk, rfl, MKw15, M15⟩)
 · have z47 := G15.size
   replace hm := rngM_nil hm hr
   unfold cover_Cover_E3 at hm
   try dsimp only at hm
   refine qm rfl<|sd_done<|sw_seq<|sw_condF rfl<|sw_exit<|then_x<|then_x ?_
   refine block_x<|then_n<|qs 2 rfl ?_
   have B48 := (Fw14_2.gr G15)
   refine qv rfl (vv_load1 (v := vy17) one_107 rfl B48 rfl) ?_
   have B49 := (Fw14_0.gr G15)
   obtain ⟨l19, hl19, hm⟩ := bnd hm
   refine qe rfl (eC en_119 rfl (sortSub_c hl19 _ _ _ _ B49)) ?_
   rintro _ w16 ⟨Ow16, K16⟩
   have z50 := K16.size
   refine qd 3 rfl ?_
   have B51 := (B48.kz K16 (tk1 (pb_0 (b := b12) Fw14_1)))
   refine qv rfl (vv_load1 (v := vy17) one_107 rfl B51 rfl)<|qm rfl<|qm rfl<|sd_done<|sw_ret ?_
   have X52 := (((X38.kz K14).trans G15).kz K16 (tk1 (pv_0 (A := (fun x => w.heap.size ≤ x)) Fw14_1)))
   cases hm
   refine ⟨_, _, rfl, res_2 rfl (rv_tmp rfl) (rv_tmp rfl), ?_⟩
   exact ⟨vy17, zy17, gy17, rfl, Ow16, ⟨(pv_0 (A := (fun x => w.heap.size ≤ x)) Fw14_1)⟩, X52⟩
 have z53 := M15.size
 have hb := rngM_at hm hk; clear hm; obtain ⟨n3, rfl, hm⟩ := hb
 generalize hnx3 : rngM (cover_Cover_S3 x1 a6) cover_Cover_E3 n3 (rem3.filter (· ≠ k18)) = nx3 at hm
 unfold cover_Cover_S3 at hm
 try dsimp only at hm
 refine qm rfl<|sd_done<|sw_seq<|sw_condT rfl<|qu<|sw_block ?_
 refine qs 3 rfl ?_
 have B54 := (B46.md M15)
 refine qv rfl (vv_entryM rfl B54 MKw15)<|qm rfl<|qm rfl<|sd_done<|sw_seq<|qs 3 rfl ?_
 refine qv rfl (vv_fieldAddr fa_175_0 rfl) ?_
 have B55 := (((((((Bw4.gr G5).gr G7).kz K8).gr G12).gr G13).kz K14).md M15)
 refine qv rfl (vv_load1 (v := bv x1.1.kind) one_5 rfl B55 rfl)<|qv rfl (vv_eqlB (p := x1.1.kind) (q := 1#8) rfl rfl)<|sd_done<|sw_cond rfl (fun c6 => ?_) (fun c6 => ?_)
 · replace hm := iT c6 hm
   refine sw_seq ?_
   have X56 := ((X38.kz K14).md M15)
   refine qj (β := Bool) (rg 61 9) (fun a20 => [(69, .bool a20)]) (fun a20 wr => (cover_Cover_J4 a16 nx3 k18 a20 = some r) ∧ Kz [] w15 wr) ?_ ?_
   · refine qg 9 rfl<|qm rfl<|qv rfl (vv_gtr (a := k18) (b := 1) rfl rfl)<|qpF rfl (vv_move rfl) (fun c8 => ?_) (fun c8 => ?_)
     · replace hm := iF c8 hm
       refine qk rfl<|qk rfl<|qk rfl<|qk rfl<|qk rfl<|qm rfl<|sd_nil ?_
       exact ⟨rfl, false, sbq, hm, kz0⟩
     replace hm := iT c8 hm
     refine qm rfl<|qm rfl ?_
     obtain ⟨x23, hx23, hm⟩ := bnd hm
     refine qe rfl (eC en_116 rfl (cover_node_sibling_w hx23)) ?_
     rintro _ w20 ⟨rfl, G20⟩
     have z69 := G20.size
     have B70 := (B54.gr G20)
     refine qv rfl (vv_lookup (k := x23) (ks := a6) mpt_179 rfl rfl B70)<|qv rfl (vv_notD rfl)<|qm rfl<|sd_nil ?_
     exact ⟨rfl, (decide (¬ (x23 ∈ a6))), sbq, hm, (kz0.gr G20)⟩
   clear hm; rintro a20 w17 ⟨hm, K17⟩
   have z57 := K17.size
   unfold cover_Cover_J4 at hm
   refine cnF rfl (fun c7 => ?_) (fun c7 => ?_)
   · replace hm := cnd_f c7 hm
     refine qu<|sw_exit<|then_x<|block_x ?_
     have K_65 : Kz [(1, b12), (1, b13)] w13 w17 := ((K14.md M15).kz K17)
     have B66 := ((Fw14_0.md M15 (pb_0 Fw14_1)).kz K17)
     have B67 := ((Fw14_2.md M15).kz K17)
     have B68 := (Mi.kz (Mk.mi MKw15) K17)
     subst hnx3
     exact ⟨rfl, ⟨n3, a16, vy17, zy17, gy17, (rem3.filter (· ≠ k18))⟩, sbq, ⟨hm, B66, ⟨(pv_0 (A := (fun x => w13.heap.size ≤ x)) Fw14_1)⟩, B67, B68, K_65⟩, Nat.lt_succ_self _⟩
   replace hm := cnd_t c7 hm
   refine qg 4 rfl<|qm rfl<|qm rfl ?_
   obtain ⟨x21, hx21, hm⟩ := bnd hm
   refine qe rfl (eC en_116 rfl (cover_node_sibling_w hx21)) ?_
   rintro _ w18 ⟨rfl, G18⟩
   have z58 := G18.size
   have B59 := (((Fw14_2.md M15).kz K17).gr G18)
   have B60 := (((Fw14_0.md M15 (pb_0 Fw14_1)).kz K17).gr G18)
   obtain ⟨x22, hx22, hm⟩ := bnd hm
   refine qe rfl (ev_callV en_115 rfl rfl (cover_Cover_1_w hx22 B59 B60 ⟨(tk1 (pb_0 (b := b12) Fw14_1))⟩)) ?_
   rintro _ w19 ⟨u19_b0_s, z19_b0_s, g19_b0_s, rfl, O19_b0_s, f19_b0_s, Bk19_0, K19⟩
   have z61 := K19.size
   have lt62 := O19_b0_s.lth
   refine sd_done<|sw_exit<|then_x<|block_x ?_
   have K_63 : Kz [(1, b12), (1, b13)] w13 w19 := ((((K14.md M15).kz K17).gr G18).kz K19 (tk1 (pv_0 (A := (fun x => w13.heap.size ≤ x)) Fw14_1)))
   have B64 := (Mi.kz (Mi.gr (Mi.kz (Mk.mi MKw15) K17) G18) K19 (tk1 (pb_0 (b := b13) Fw14_1)))
   subst hnx3
   exact ⟨rfl, ⟨n3, x22, u19_b0_s, z19_b0_s, g19_b0_s, (rem3.filter (· ≠ k18))⟩, sbq, ⟨hm, O19_b0_s, ⟨(pv_1 (A := (fun x => w13.heap.size ≤ x)) f19_b0_s (pv_0 (A := (fun x => w13.heap.size ≤ x)) Fw14_1))⟩, Bk19_0, B64, K_63⟩, Nat.lt_succ_self _⟩
 replace hm := iF c6 hm
 refine qu<|sw_seq ?_
 have X73 := ((X38.kz K14).md M15)
 refine qj (β := Bool) (rg 74 9) (fun a24 => [(82, .bool a24)]) (fun a24 wr => (cover_Cover_J5 x1 a6 a16 nx3 k18 a24 = some r) ∧ Kz [] w15 wr) ?_ ?_
 · refine qg 9 rfl<|qm rfl<|qv rfl (vv_gtr (a := k18) (b := 1) rfl rfl)<|qpF rfl (vv_move rfl) (fun c16 => ?_) (fun c16 => ?_)
   · replace hm := iF c16 hm
     refine qk rfl<|qk rfl<|qk rfl<|qk rfl<|qk rfl<|qm rfl<|sd_nil ?_
     exact ⟨rfl, false, sbq, hm, kz0⟩
   replace hm := iT c16 hm
   refine qm rfl<|qm rfl ?_
   obtain ⟨x35, hx35, hm⟩ := bnd hm
   refine qe rfl (eC en_116 rfl (cover_node_sibling_w hx35)) ?_
   rintro _ w29 ⟨rfl, G29⟩
   have z115 := G29.size
   have B116 := (B54.gr G29)
   refine qv rfl (vv_lookup (k := x35) (ks := a6) mpt_179 rfl rfl B116)<|qv rfl (vv_notD rfl)<|qm rfl<|sd_nil ?_
   exact ⟨rfl, (decide (¬ (x35 ∈ a6))), sbq, hm, (kz0.gr G29)⟩
 clear hm; rintro a24 w21 ⟨hm, K21⟩
 have z74 := K21.size
 unfold cover_Cover_J5 at hm
 refine sw_cond rfl (fun c9 => ?_) (fun c9 => ?_)
 · replace hm := cnd_t c9 hm
   refine sw_exit<|then_x<|block_x ?_
   have K_75 : Kz [(1, b12), (1, b13)] w13 w21 := ((K14.md M15).kz K21)
   have B76 := ((Fw14_0.md M15 (pb_0 Fw14_1)).kz K21)
   have B77 := ((Fw14_2.md M15).kz K21)
   have B78 := (Mi.kz (Mk.mi MKw15) K21)
   subst hnx3
   exact ⟨rfl, ⟨n3, a16, vy17, zy17, gy17, (rem3.filter (· ≠ k18))⟩, sbq, ⟨hm, B76, ⟨(pv_0 (A := (fun x => w13.heap.size ≤ x)) Fw14_1)⟩, B77, B78, K_75⟩, Nat.lt_succ_self _⟩
 replace hm := cnd_f c9 hm
 refine qu<|qs 2 rfl<|qm rfl<|qm rfl<|sd_done ?_
 refine sw_seq<|sw_block ?_
 have X79 := (X73.kz K21)
 have B80 := (((B39.kz K14 (tk2 (pb_lt (b := b12) lt1) (pb_lt (b := b13) lt1))).md M15 (pb_lt lt1)).kz K21)
 have B81 := ((Fw14_0.md M15 (pb_0 Fw14_1)).kz K21)
 refine sw_loopD (α := Nat × Int) ([15] ++ rg 84 18) (fun ⟨n6, a26⟩ => [(15, .int .i64 a26)]) (fun ⟨n6, a26⟩ wr => (fixN (cover_Cover_L6 x1 a6 a16 nx3 k18) n6 a26 = some r) ∧ Kz [] w21 wr) (fun ⟨n6, a26⟩ => n6) ⟨FUEL, k18⟩ ?_ ?_ ?_
 · exact sbq
 · exact ⟨hm, Kz.refl _ _⟩
 clear hm; rintro ⟨n6, a26⟩ w22 ⟨hm, K22⟩
 have z82 := K22.size
 have hb := fix_succ hm; clear hm; obtain ⟨n6, rfl, hm⟩ := hb
 generalize hrec6 : fixN (cover_Cover_L6 x1 a6 a16 nx3 k18) n6 = rec6 at hm
 unfold cover_Cover_L6 at hm
 try dsimp only at hm
 refine sw_seq<|qs 10 rfl<|qm rfl<|qm rfl<|qv rfl (vv_mul (k := .i64) (a := 2) (b := a26) rfl rfl) ?_
 have B83 := ((B54.kz K21).kz K22)
 refine qv rfl (vv_lookup (k := w64 (2 * a26)) (ks := a6) mpt_179 rfl rfl B83)<|qm rfl<|qm rfl<|qv rfl (vv_mul (k := .i64) (a := 2) (b := a26) rfl rfl)<|qv rfl (vv_add (k := .i64) (a := w64 (2 * a26)) (b := 1) rfl rfl)<|qv rfl (vv_lookup (k := w64 ((w64 (2 * a26)) + 1)) (ks := a6) mpt_179 rfl rfl B83)<|qv rfl (vv_neqL Tryz.underlying4 rfl rfl) ?_
 refine sd_done<|sw_cond rfl (fun c10 => ?_) (fun c10 => ?_)
 · replace hm := cnd_t c10 hm
   refine qu<|sw_block<|qs 3 rfl<|qm rfl<|qv rfl (vv_mul (k := .i64) (a := a26) (b := 2) rfl rfl) ?_
   refine qm rfl<|qd 4 rfl<|qm rfl<|qm rfl<|qv rfl (vv_lookup (k := w64 (a26 * 2)) (ks := a6) mpt_179 rfl rfl B83) ?_
   refine qv rfl (vv_notD rfl)<|sd_done<|cnF rfl (fun c11 => ?_) (fun c11 => ?_)
   · replace hm := iF c11 hm
     refine sw_skip<|block_n ?_
     have K_85 : Kz [] w21 w22 := K22
     subst hrec6
     exact ⟨rfl, ⟨n6, w64 (a26 * 2)⟩, sbq, ⟨hm, K_85⟩, Nat.lt_succ_self _⟩
   replace hm := iT c11 hm
   refine qg 3 rfl<|qm rfl<|qv rfl (vv_add (k := .i64) (a := w64 (a26 * 2)) (b := 1) rfl rfl)<|qm rfl<|sd_nil<|block_n ?_
   have K_84 : Kz [] w21 w22 := K22
   subst hrec6
   exact ⟨rfl, ⟨n6, w64 ((w64 (a26 * 2)) + 1)⟩, sbq, ⟨hm, K_84⟩, Nat.lt_succ_self _⟩
 replace hm := cnd_f c10 hm
 refine sw_exit<|then_x<|then_x<|block_x<|then_n<|sw_seq<|sw_seq ?_
 refine qg 3 rfl<|qm rfl<|qm rfl<|qv rfl (vv_eql (a := a26) (b := k18) rfl rfl)<|sd_done<|sw_cond rfl (fun c12 => ?_) (fun c12 => ?_)
 · replace hm := iT c12 hm
   refine sw_exit<|then_x<|block_x ?_
   have K_86 : Kz [(1, b12), (1, b13)] w13 w22 := (((K14.md M15).kz K21).kz K22)
   have B87 := (B81.kz K22)
   have B88 := (((Fw14_2.md M15).kz K21).kz K22)
   have B89 := (Mi.kz (Mi.kz (Mk.mi MKw15) K21) K22)
   subst hnx3
   exact ⟨rfl, ⟨n3, a16, vy17, zy17, gy17, (rem3.filter (· ≠ k18))⟩, sbq, ⟨hm, B87, ⟨(pv_0 (A := (fun x => w13.heap.size ≤ x)) Fw14_1)⟩, B88, B89, K_86⟩, Nat.lt_succ_self _⟩
 replace hm := iF c12 hm
 refine qu ?_
 have X90 := (X79.kz K22)
 refine qj (β := Int × List TSubset × Value × Nat × Nat) ([14, 16] ++ rg 105 22) (fun ⟨a27, a28, vy29, zy29, gy29⟩ => [(14, .int .i64 a27)]) (fun ⟨a27, a28, vy29, zy29, gy29⟩ wr => (cover_Cover_J7 nx3 a26 a27 a28 = some r) ∧ Own wr zy29 gy29 131 2 vy29 (a28.map TSubset.cs) ∧ Hdn (zy29 = 0 ∨ (gy29 = gy17 ∧ zy17 ≠ 0) ∨ w22.heap.size ≤ gy29) ∧ Bx wr b12 107 [vy29] ∧ Kz [(1, b12), (zy17, gy17)] w22 wr) ?_ ?_
 · refine qs 5 rfl ?_
   have B98 := ((B55.kz K21).kz K22)
   refine qv rfl (vv_loadW agg_175 rfl B98 rfl)<|qm rfl<|qm rfl ?_
   obtain ⟨x31, hx31, hm⟩ := bnd hm
   refine qe rfl (eC en_117 rfl (cover_tree_cut_w hx31)) ?_
   rintro _ w25 ⟨rfl, G25⟩
   have z99 := G25.size
   refine qm rfl<|sd_done ?_
   have X100 := (X90.trans G25)
   refine qj (β := Bool) (rg 109 13) (fun a32 => [(121, .bool a32)]) (fun a32 wr => (cover_Cover_J8 a16 nx3 k18 a26 x31 a32 = some r) ∧ Kz [] w25 wr) ?_ ?_
   · refine qg 13 rfl<|qm rfl<|qv rfl (vv_neq (a := x31) (b := 0) rfl rfl)<|qpF rfl (vv_move rfl) (fun c14 => ?_) (fun c14 => ?_)
     · replace hm := iF c14 hm
       refine qk rfl<|qk rfl<|qk rfl<|qm rfl<|qm rfl<|qk rfl<|qk rfl ?_
       refine qk rfl<|qk rfl<|qm rfl<|sd_nil ?_
       exact ⟨rfl, false, sbq, hm, kz0⟩
     replace hm := iT c14 hm
     refine qv rfl (vv_fieldAddr fa_175_0 rfl) ?_
     have B110 := (B98.gr G25)
     refine qv rfl (vv_load1 (v := bv x1.1.kind) one_5 rfl B110 rfl)<|qv rfl (vv_eqlB (p := x1.1.kind) (q := 3#8) rfl rfl)<|qm rfl<|qpF rfl (vv_move rfl) (fun c15 => ?_) (fun c15 => ?_)
     · replace hm := iF c15 hm
       refine qk rfl<|qk rfl<|qk rfl<|qk rfl<|qm rfl<|sd_nil ?_
       exact ⟨rfl, false, sbq, hm, kz0⟩
     replace hm := iT c15 hm
     refine qv rfl (vv_loadW agg_175 rfl B110 rfl)<|qm rfl ?_
     obtain ⟨x34, hx34, hm⟩ := bnd hm
     refine qe rfl (eC en_118 rfl (cover_tree_special_w hx34)) ?_
     rintro _ w28 ⟨rfl, G28⟩
     have z111 := G28.size
     refine qv rfl (vv_not rfl)<|qm rfl<|sd_nil ?_
     exact ⟨rfl, (!x34), sbq, hm, (kz0.gr G28)⟩
   clear hm; rintro a32 w26 ⟨hm, K26⟩
   have z101 := K26.size
   unfold cover_Cover_J8 at hm
   refine cnF rfl (fun c13 => ?_) (fun c13 => ?_)
   · replace hm := cnd_f c13 hm
     refine sw_skip ?_
     have K_107 : Kz [(1, b12), (zy17, gy17)] w22 w26 := ((Kz.gr (Kz.refl _ _) G25).kz K26)
     have B108 := (((B81.kz K22).gr G25).kz K26)
     have B109 := (((((Fw14_2.md M15).kz K21).kz K22).gr G25).kz K26)
     exact ⟨rfl, ⟨k18, a16, vy17, zy17, gy17⟩, sbq, hm, B108, ⟨tk0⟩, B109, K_107⟩
   replace hm := cnd_t c13 hm
   refine qs 4 rfl<|qm rfl<|qm rfl<|qm rfl ?_
   have B102 := (((((Fw14_2.md M15).kz K21).kz K22).gr G25).kz K26)
   have B103 := (((B81.kz K22).gr G25).kz K26)
   obtain ⟨x33, hx33, hm⟩ := bnd hm
   refine qe rfl (ev_callV en_115 rfl rfl (cover_Cover_1_w hx33 B102 B103 ⟨(tk1 (pb_0 (b := b12) Fw14_1))⟩)) ?_
   rintro _ w27 ⟨u27_b0_s, z27_b0_s, g27_b0_s, rfl, O27_b0_s, f27_b0_s, Bk27_0, K27⟩
   have z104 := K27.size
   have lt105 := O27_b0_s.lth
   refine sd_done<|qg 2 rfl<|qm rfl<|qm rfl<|sd_nil ?_
   exact ⟨rfl, ⟨x31, x33, u27_b0_s, z27_b0_s, g27_b0_s⟩, sbq, hm, O27_b0_s, ⟨(pv_1 (A := (fun x => (x = gy17 ∧ zy17 ≠ 0) ∨ w22.heap.size ≤ x)) f27_b0_s tk0)⟩, Bk27_0, (((Kz.gr (Kz.refl _ _) G25).kz K26).kz K27 (tk1 (tk0 : zy17 = 0 ∨ (gy17 = gy17 ∧ zy17 ≠ 0) ∨ w22.heap.size ≤ gy17)))⟩
 clear hm; rintro ⟨a27, a28, vy29, zy29, gy29⟩ w23 ⟨hm, Fw23_0, Fw23_1, Fw23_2, K23⟩
 have z91 := K23.size
 have lt92 := Fw23_0.lth
 have lt93 := Fw23_2.lt
 unfold cover_Cover_J7 at hm
 refine qg 4 rfl<|qm rfl<|qm rfl<|qm rfl ?_
 obtain ⟨x30, hx30, hm⟩ := bnd hm
 refine qe rfl (ev_callV en_115 rfl rfl (cover_Cover_1_w hx30 Fw23_2 Fw23_0 ⟨(tk1 (pb_1 (b := b12) Fw23_1 (pb_0 Fw14_1)))⟩)) ?_
 rintro _ w24 ⟨u24_b0_s, z24_b0_s, g24_b0_s, rfl, O24_b0_s, f24_b0_s, Bk24_0, K24⟩
 have z94 := K24.size
 have lt95 := O24_b0_s.lth
 refine sd_nil<|block_n ?_
 have K_96 : Kz [(1, b12), (1, b13)] w13 w24 := (((((K14.md M15).kz K21).kz K22).kz K23 (tk1 (pv_0 (A := (fun x => w13.heap.size ≤ x)) Fw14_1))).kz K24 (tk1 (pv_1 (A := (fun x => w13.heap.size ≤ x)) Fw23_1 (pv_0 (A := (fun x => w13.heap.size ≤ x)) Fw14_1))))
 have B97 := (Mi.kz (Mi.kz (Mi.kz (Mi.kz (Mk.mi MKw15) K21) K22) K23 (tk1 (pb_0 (b := b13) Fw14_1))) K24 (tk1 (pb_1 (b := b13) Fw23_1 (pb_0 Fw14_1))))
 subst hnx3
 exact ⟨rfl, ⟨n3, x30, u24_b0_s, z24_b0_s, g24_b0_s, (rem3.filter (· ≠ k18))⟩, sbq, ⟨hm, O24_b0_s, ⟨(pv_1 (A := (fun x => w13.heap.size ≤ x)) f24_b0_s (pv_1 (A := (fun x => w13.heap.size ≤ x)) Fw23_1 (pv_0 (A := (fun x => w13.heap.size ≤ x)) Fw14_1)))⟩, Bk24_0, B97, K_96⟩, Nat.lt_succ_self _⟩
theorem cover_Seal_w {p0 p1 p2 p3 vp2 zp2 gp2 op2 r} (hm : cover_Seal p0 p1 p2 p3 = some r) {w : World} (hp2 : Rd w zp2 gp2 op2 2 vp2 (p2.map TSubset.cs)) :
    Calls Tryz.prog 52 [kv p0, .agg (TScheme.cs p1).toArray, vp2, kv p3].toArray w fun e w' => ∃ v, e = .returned v ∧ (∃ ur0_0 zr0_0 gr0_0 ur0_2 zr0_2 gr0_2, v = .tuple [.agg (THeader.cs r.1 ur0_0 ur0_2).toArray, .int .i64 r.2].toArray ∧ Own w' zr0_0 gr0_0 133 18 ur0_0 (r.1.Items.map TItem.cs) ∧ Hdn (zr0_0 = 0 ∨ w.heap.size ≤ gr0_0) ∧ Own w' zr0_2 gr0_2 31 2 ur0_2 (r.1.Points.map TPoint.cs) ∧ Hdn (zr0_2 = 0 ∨ w.heap.size ≤ gr0_2) ∧ Hdn (zr0_2 = 0 ∨ zr0_0 = 0 ∨ gr0_2 ≠ gr0_0) ∧ Gr w w') := by
 have lt1 := hp2.lth
 unfold cover_Seal at hm
 refine calls_of_sw 60 Tryz.func52 rfl rfl rfl<|qs 5 rfl<|qe rfl (ev_box (cs := kb p0) rfl rfl) ?_
 rintro _ w1 ⟨b1, rfl, hbw1, Bw1, G1⟩
 have z2 := G1.size
 have lt3 := Bw1.lt
 refine qe rfl (ev_box (cs := TScheme.cs p1) rfl rfl) ?_
 rintro _ w2 ⟨b2, rfl, hbw2, Bw2, G2⟩
 have z4 := G2.size
 have lt5 := Bw2.lt
 refine qe rfl (ev_box (cs := kb p3) rfl rfl) ?_
 rintro _ w3 ⟨b3, rfl, hbw3, Bw3, G3⟩
 have z6 := G3.size
 have lt7 := Bw3.lt
 refine qe rfl (ev_alloc (cs := THeader.cs (THeader.mk [] 0#64 [] k0 k0) (.slice none 0 0) (.slice none 0 0)) zv_48 rfl) ?_
 rintro _ w4 ⟨b4, rfl, hbw4, Bw4, G4⟩
 have z8 := G4.size
 have lt9 := Bw4.lt
 refine qm rfl<|sd_done<|sw_seq<|qs 3 rfl ?_
 have Y1 := Gr.trans G3 G4
 have B10 := (Bw2.gr Y1)
 refine qv rfl (vv_loadW agg_28 rfl B10 rfl) ?_
 obtain ⟨x1, hx1, hm⟩ := bnd hm
 refine qe rfl (eC en_121 rfl (cover_Check_w hx1)) ?_
 rintro _ w5 ⟨rfl, G5⟩
 have z11 := G5.size
 refine qm rfl<|qd 2 rfl<|qm rfl<|qv rfl (vv_neq (a := x1) (b := 0) rfl rfl)<|sd_done ?_
 refine sw_cond rfl (fun c1 => ?_) (fun c1 => ?_)
 · replace hm := iT c1 hm
   refine qs 4 rfl<|qv rfl (vv_build (cs := THeader.cs (THeader.mk [] 0#64 [] k0 k0) (.slice none 0 0) (.slice none 0 0)) bs_48 rfl (by kernel_rfl))<|qm rfl ?_
   have B12 := (Bw4.gr G5)
   refine qe rfl (ev_stW agg_48 rfl rfl (THeader.cs_ones _ _ _ rfl rfl) B12 rfl rfl) ?_
   rintro _ w6 ⟨Bw6, M6⟩
   have z13 := M6.size
   refine qm rfl<|qb ?_
   have Y2 := Gr.trans (Gr.trans (Gr.trans G1 G2) Y1) G5
   have X14 := (((Gr.refl w).trans Y2).md M6)
   cases hm
   refine ⟨_, _, rfl, res_2 rfl (rv_cellW agg_48 rfl Bw6 rfl) (rv_tmp rfl), ?_⟩
   exact ⟨(.slice none 0 0), 0, 0, (.slice none 0 0), 0, 0, rfl, (own_nil _ 0 133 18), ⟨.inl rfl⟩, (own_nil _ 0 31 2), ⟨.inl rfl⟩, ⟨(.inl rfl)⟩, X14⟩
 replace hm := iF c1 hm
 refine qu<|sw_seq<|qs 3 rfl<|qm rfl ?_
 have Y3 := Gr.trans (Gr.trans (Gr.trans G1 G2) Y1) G5
 have B15 := (hp2.gr Y3)
 refine qv rfl (vv_lenT (l := p2) (c := TSubset.cs) Tryz.underlying107 rfl B15)<|qv rfl (vv_gtr (a := (p2.length : Int)) (b := 64) rfl rfl)<|sd_done<|sw_cond rfl (fun c2 => ?_) (fun c2 => ?_)
 · replace hm := iT c2 hm
   refine qs 3 rfl<|qv rfl (vv_build (cs := THeader.cs (THeader.mk [] 0#64 [] k0 k0) (.slice none 0 0) (.slice none 0 0)) bs_48 rfl (by kernel_rfl)) ?_
   have B16 := (Bw4.gr G5)
   refine qe rfl (ev_stW agg_48 rfl rfl (THeader.cs_ones _ _ _ rfl rfl) B16 rfl rfl) ?_
   rintro _ w7 ⟨Bw7, M7⟩
   have z17 := M7.size
   refine qm rfl<|qb ?_
   have X18 := (((Gr.refl w).trans Y3).md M7)
   cases hm
   refine ⟨_, _, rfl, res_2 rfl (rv_cellW agg_48 rfl Bw7 rfl) (rv_tmp rfl), ?_⟩
   exact ⟨(.slice none 0 0), 0, 0, (.slice none 0 0), 0, 0, rfl, (own_nil _ 0 133 18), ⟨.inl rfl⟩, (own_nil _ 0 31 2), ⟨.inl rfl⟩, ⟨(.inl rfl)⟩, X18⟩
 replace hm := iF c2 hm
 refine qu<|qs 9 rfl ?_
 have B19 := (B10.gr G5)
 refine qv rfl (vv_loadW agg_28 rfl B19 rfl)<|qm rfl ?_
 obtain ⟨x2, hx2, hm⟩ := bnd hm
 refine qe rfl (eC en_112 rfl (cover_enter_w hx2 B15)) ?_
 rintro _ w8 ⟨rfl, G8⟩
 have z20 := G8.size
 refine qm rfl<|qm rfl<|qm rfl<|qe rfl (ev_alloc (cs := Tcover_tree.cs (Tcover_tree.mk 0#8 0 0)) zv_175 rfl) ?_
 rintro _ w9 ⟨b9, rfl, hbw9, Bw9, G9⟩
 have z21 := G9.size
 have lt22 := Bw9.lt
 refine qe rfl (ev_stW agg_175 rfl rfl rfl Bw9 rfl rfl) ?_
 rintro _ w10 ⟨Bw10, M10⟩
 have z23 := M10.size
 refine qm rfl<|sd_done<|sw_seq<|qs 2 rfl<|qm rfl<|qv rfl (vv_neq (a := x2.2) (b := 0) rfl rfl) ?_
 refine sd_done<|sw_cond rfl (fun c3 => ?_) (fun c3 => ?_)
 · replace hm := iT c3 hm
   refine qs 4 rfl<|qv rfl (vv_build (cs := THeader.cs (THeader.mk [] 0#64 [] k0 k0) (.slice none 0 0) (.slice none 0 0)) bs_48 rfl (by kernel_rfl))<|qm rfl ?_
   have Y4 := Gr.trans (Gr.trans G5 G8) G9
   have B24 := ((Bw4.gr Y4).md M10)
   refine qe rfl (ev_stW agg_48 rfl rfl (THeader.cs_ones _ _ _ rfl rfl) B24 rfl rfl) ?_
   rintro _ w11 ⟨Bw11, M11⟩
   have z25 := M11.size
   refine qm rfl<|qb ?_
   have X26 := ((((((Gr.refl w).trans Y3).trans G8).trans G9).md M10).md M11)
   cases hm
   refine ⟨_, _, rfl, res_2 rfl (rv_cellW agg_48 rfl Bw11 rfl) (rv_tmp rfl), ?_⟩
   exact ⟨(.slice none 0 0), 0, 0, (.slice none 0 0), 0, 0, rfl, (own_nil _ 0 133 18), ⟨.inl rfl⟩, (own_nil _ 0 31 2), ⟨.inl rfl⟩, ⟨(.inl rfl)⟩, X26⟩
 replace hm := iF c3 hm
 refine qu<|qs 5 rfl ?_
 have Y5 := Gr.trans (Gr.trans (Gr.trans G4 G5) G8) G9
 have B27 := ((Bw3.gr Y5).md M10)
 refine qv rfl (vv_loadW agg_23 rfl B27 rfl)<|qe rfl (eC en_48 rfl (derive_c p3 (un8 53#8) (un8_nn _) (un8_le _) 0#64 _)) ?_
 rintro _ w12 ⟨rfl, G12⟩
 have z28 := G12.size
 refine qv rfl (vv_build (cs := THeader.cs (THeader.mk [] 0#64 [] k0 (drv p3 (un8 53#8) 0#64)) (.slice none 0 0) (.slice none 0 0)) bs_48 rfl (by obtain ⟨kk0, hk0⟩ := ex_of (drv p3 (un8 53#8) 0#64); rw [← hk0]; exact (fill_M rfl rfl rfl (by kernel_rfl))))<|qe rfl (ev_alloc (cs := THeader.cs (THeader.mk [] 0#64 [] k0 k0) (.slice none 0 0) (.slice none 0 0)) zv_48 rfl) ?_
 rintro _ w13 ⟨b13, rfl, hbw13, Bw13, G13⟩
 have z29 := G13.size
 have lt30 := Bw13.lt
 refine qe rfl (ev_stW agg_48 rfl rfl (THeader.cs_ones _ _ _ rfl rfl) Bw13 rfl rfl) ?_
 rintro _ w14 ⟨Bw14, M14⟩
 have z31 := M14.size
 refine sd_done<|sw_seq<|qs 3 rfl<|qm rfl ?_
 have Y6 := Gr.trans G8 G9
 have Y7 := Gr.trans G12 G13
 have B32 := ((((B15.gr Y6).md M10 (pb_lt lt1)).gr Y7).md M14 (pb_lt lt1))
 refine qv rfl (vv_lenT (l := p2) (c := TSubset.cs) Tryz.underlying107 rfl B32)<|qm rfl<|sd_done<|sw_block ?_
 have X33 := ((((((Gr.refl w).trans Y3).trans Y6).md M10).trans Y7).md M14)
 refine sw_loopD (α := Nat × Int × List TItem × Value × Nat × Nat) ([15] ++ rg 41 18) (fun ⟨n1, a6, a7, vy8, zy8, gy8⟩ => [(41, .int .i64 a6)]) (fun ⟨n1, a6, a7, vy8, zy8, gy8⟩ wr => (fixN (cover_Seal_L1 p0 p2 p3 x2) n1 (a6, a7) = some r) ∧ Own wr zy8 gy8 133 18 vy8 (a7.map TItem.cs) ∧ Hdn (zy8 = 0 ∨ w14.heap.size ≤ gy8) ∧ Bx wr b13 48 (THeader.cs (THeader.mk a7 0#64 [] k0 (drv p3 (un8 53#8) 0#64)) vy8 (.slice none 0 0)) ∧ Kz [(1, b13)] w14 wr) (fun ⟨n1, a6, a7, vy8, zy8, gy8⟩ => n1) ⟨FUEL, 0, [], (.slice none 0 0), 0, 0⟩ ?_ ?_ ?_
 · exact sbq
 · exact ⟨hm, (own_nil _ 0 133 18), ⟨(.inl rfl)⟩, Bw14, Kz.refl _ _⟩
 clear hm; rintro ⟨n1, a6, a7, vy8, zy8, gy8⟩ w15 ⟨hm, Fw15_0, Fw15_1, Fw15_2, K15⟩
 have z34 := K15.size
 have lt35 := Fw15_0.lth
 have lt36 := Fw15_2.lt
 have hb := fix_succ hm; clear hm; obtain ⟨n1, rfl, hm⟩ := hb
 generalize hrec1 : fixN (cover_Seal_L1 p0 p2 p3 x2) n1 = rec1 at hm
 unfold cover_Seal_L1 at hm
 try dsimp only at hm
 refine qs 1 rfl<|qv rfl (vv_lss (a := a6) (b := (p2.length : Int)) rfl rfl)<|sd_done<|sw_seq<|cnF rfl (fun c4 => ?_) (fun c4 => ?_)
 · replace hm := iF c4 hm
   refine sw_exit<|then_x<|then_x<|block_x<|then_n<|qs 3 rfl ?_
   refine qv rfl (vv_loadW agg_48 rfl Fw15_2 rfl) ?_
   have Y8 := Gr.trans G5 Y6
   have B58 := (((((Bw4.gr Y8).md M10).gr Y7).md M14).kz K15)
   refine qe rfl (ev_stW agg_48 rfl rfl (THeader.cs_ones _ _ _ (Own.oneB Fw15_0) rfl) B58 rfl rfl) ?_
   rintro _ w24 ⟨Bw24, M24⟩
   have z59 := M24.size
   refine qm rfl<|sd_done<|sw_ret ?_
   have B60 := (Fw15_0.md M24 (pb_0 Fw15_1))
   have X61 := ((X33.kz K15).md M24)
   cases hm
   refine ⟨_, _, rfl, res_2 rfl (rv_cellW agg_48 rfl Bw24 rfl) (rv_tmp rfl), ?_⟩
   exact ⟨vy8, zy8, gy8, (.slice none 0 0), 0, 0, rfl, B60, ⟨(pv_0 (A := (fun x => w.heap.size ≤ x)) Fw15_1)⟩, (own_nil _ 0 31 2), ⟨.inl rfl⟩, ⟨(.inl rfl)⟩, X61⟩
 replace hm := iT c4 hm
 refine qu<|sw_seq<|sw_block<|qs 4 rfl ?_
 obtain ⟨y9, hy9, hm⟩ := bnd hm
 have B37 := (B32.kz K15 (tk1 (pb_lt (b := b13) lt1)))
 refine qv rfl (vv_ixT (i := a6) Tryz.underlying107 (agg_131).siz rfl B37 rfl hy9)<|qv rfl (vv_elWT agg_131 rfl B37 hy9 (by first | rfl | omega))<|qe rfl (ev_alloc (cs := TSubset.cs (TSubset.mk 0 0)) zv_131 rfl) ?_
 rintro _ w16 ⟨b16, rfl, hbw16, Bw16, G16⟩
 have z38 := G16.size
 have lt39 := Bw16.lt
 refine qe rfl (ev_stW agg_131 rfl rfl rfl Bw16 rfl rfl) ?_
 rintro _ w17 ⟨Bw17, M17⟩
 have z40 := M17.size
 refine sd_done<|dw [([b13] ++ zf zy8 gy8),([] ++ zf zy8 gy8)] [(13, [1])] (.leaf [(0,10),(1,11),(2,10),(3,10),(4,10),(5,10),(7,10),(6,0),(8,0),(9,10),(10,0),(11,0),(12,10),(13,0)]) ?_
 intro w18 G18 zw18
 refine sdz_leaf<|qh 0 rfl rfl (Kp.refl ([b13] ++ zf zy8 gy8) w18) (fun w hS => vv_fieldAddr fa_48_0 rfl) ?_
 have B41 := (((Fw15_2.gr G16).md M17).gr G18)
 refine qh 1 rfl rfl (Kp.refl ([] ++ zf zy8 gy8) w18) (fun w hS => vv_load1 (v := vy8) one_45 rfl (Bx.kp B41 hS (tk1 (pb_0 (b := b13) Fw15_1))) rfl) ?_
 have B42 := (Bw17.gr G18)
 refine qh 0 rfl rfl (Kp.refl ([b13] ++ zf zy8 gy8) w18) (fun w hS => vv_loadW agg_131 rfl (Bx.kp B42 hS (tk1 (pb_lt (b := b16) lt35))) rfl) ?_
 have B43 := ((((((Bw10.gr Y7).md M14).kz K15).gr G16).md M17).gr G18)
 refine qh 0 rfl rfl (Kp.refl ([b13] ++ zf zy8 gy8) w18) (fun w hS => vv_loadW agg_175 rfl (Bx.kp B43 hS (tk1 (pb_0 (b := b9) Fw15_1))) rfl) ?_
 have Y9 := Gr.trans (Gr.trans (Gr.trans G2 Y1) G5) Y6
 have B44 := ((((((((Bw1.gr Y9).md M10).gr Y7).md M14).kz K15).gr G16).md M17).gr G18)
 refine qh 0 rfl rfl (Kp.refl ([b13] ++ zf zy8 gy8) w18) (fun w hS => vv_loadW agg_23 rfl (Bx.kp B44 hS (tk1 (pb_0 (b := b1) Fw15_1))) rfl)<|qh 0 rfl rfl (Kp.refl ([b13] ++ zf zy8 gy8) w18) (fun w hS => vv_loadW agg_131 rfl (Bx.kp B42 hS (tk1 (pb_lt (b := b16) lt35))) rfl) ?_
 have B45 := ((((((B27.gr Y7).md M14).kz K15).gr G16).md M17).gr G18)
 refine qh 0 rfl rfl (Kp.refl ([b13] ++ zf zy8 gy8) w18) (fun w hS => vv_loadW agg_23 rfl (Bx.kp B45 hS (tk1 (pb_0 (b := b3) Fw15_1))) rfl) ?_
 obtain ⟨x10, hx10, hm⟩ := bnd hm
 refine qz [] rfl (eC en_122 rfl (cover_tree_key_w hx10)) ⟨fun _ => tk0, fun _ => tk0, trivial⟩ ?_
 rintro _ w19 ⟨rfl, G19⟩
 have z46 := G19.size
 refine kG G19<|qz [] rfl (eC en_96 rfl (encr_c x10 p3 _)) ⟨fun _ => tk0, fun _ => tk0, trivial⟩ ?_
 rintro _ w20 ⟨rfl, G20⟩
 have z47 := G20.size
 refine kG G20 ?_
 have Y10 := Gr.trans G19 G20
 have S48 := ((Kp.refl ([b13] ++ zf zy8 gy8) w18).gr Y10)
 refine qh 0 rfl rfl S48 (fun w hS => vv_build (cs := TItem.cs (TItem.mk y9 (encr x10 p3))) bs_133 rfl (by obtain ⟨kk0, hk0⟩ := ex_of (encr x10 p3); rw [← hk0]; exact (fill_M rfl rfl rfl (fill_M rfl rfl rfl (by kernel_rfl)))))<|qz [] rfl (ev_litT [(TItem.mk y9 (encr x10 p3))] TItem.cs bsl_45_1 rfl rfl (ws_of rfl) rfl rfl rfl) ⟨fun _ => tk0, fun _ => tk0, trivial⟩ ?_
 rintro vw21 w21 ⟨gw21, hbw21, Ow21, G21⟩
 have z49 := G21.size
 have lt50 := Ow21.lth
 refine kG G21 ?_
 have B51 := (((((Fw15_0.gr G16).md M17 (pb_lt lt35)).gr G18).gr Y10).gr G21)
 obtain ⟨l11, hl11, hm⟩ := bnd hm
 refine qz [(zy8, gy8)] rfl (ev_appT (l := a7) (m := [(TItem.mk y9 (encr x10 p3))]) (c := TItem.cs) apt_45 rfl rfl B51 (Own.rd Ow21) hl11 (by decide)) ⟨fun _ => (tk1 (tk0 : zy8 = 0 ∨ (gy8 = gy8 ∧ zy8 ≠ 0) ∨ w18.heap.size ≤ gy8)), fun _ => (tk1 (tk0 : zy8 = 0 ∨ (gy8 = gy8 ∧ zy8 ≠ 0) ∨ w18.heap.size ≤ gy8)), trivial⟩ ?_
 rintro vw22 w22 ⟨zw22, gw22, Ow22, Aw22, qw22, rw22⟩
 have z52 := Aw22.size
 refine ⟨Kz.ofKa Aw22, ?_⟩
 have S53 := ((S48.gr G21).ka Aw22 (tk1 (tk0 : zy8 = 0 ∨ (gy8 = gy8 ∧ zy8 ≠ 0) ∨ w18.heap.size ≤ gy8)))
 refine qh 0 rfl rfl S53 (fun w hS => vv_fieldAddr fa_48_0 rfl) ?_
 have B54 := (((B41.gr Y10).gr G21).ka Aw22 (tk1 (pb_0 (b := b13) Fw15_1)))
 refine qz [(1, b13)] rfl (ev_st1 (cs' := THeader.cs (THeader.mk l11 0#64 [] k0 (drv p3 (un8 53#8) 0#64)) vw22 (.slice none 0 0)) (one_45).siz rfl rfl (Own.oneB Ow22) B54 rfl rfl) ⟨fun _ => tk0, nofun, trivial⟩ ?_
 rintro _ w23 ⟨Bw23, M23⟩
 have z55 := M23.size
 refine kM M23<|sd_nil<|block_n<|then_n<|qg 2 rfl<|qv rfl (vv_add (k := .i64) (a := a6) (b := 1) rfl rfl)<|qm rfl ?_
 refine sd_nil ?_
 have K_56 : Kz [(1, b13)] w14 w23 := (((((((K15.gr G16).md M17).gr G18).gr Y10).gr G21).ka Aw22 (tk1 (pv_0 (A := (fun x => w14.heap.size ≤ x)) Fw15_1))).md M23)
 have B57 := (Ow22.md M23 (pb_app rw22 (pb_0 Fw15_1)))
 subst hrec1
 exact ⟨rfl, ⟨n1, w64 (a6 + 1), l11, vw22, zw22, gw22⟩, sbq, ⟨hm, B57, ⟨(pv_app (A := (fun x => w14.heap.size ≤ x)) rw22 (pv_0 (A := (fun x => w14.heap.size ≤ x)) Fw15_1))⟩, Bw23, K_56⟩, Nat.lt_succ_self _⟩
end Go.Proofs.YtjdffpglgkefmaaGreat.Mx
