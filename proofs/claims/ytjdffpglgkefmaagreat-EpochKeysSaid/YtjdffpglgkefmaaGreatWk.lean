/- Walks that follow mirrors: Wk. Printed by mx.py. -/
import Derived.Test.YtjdffpglgkefmaaGreatMirL
import Derived.Test.YtjdffpglgkefmaaGreatCipC
import Derived.Test.YtjdffpglgkefmaaGreatRef2
import Derived.Test.YtjdffpglgkefmaaGreatBitL
import Derived.Test.YtjdffpglgkefmaaGreatChecked
import Derived.Test.YtjdffpglgkefmaaGreatWkM
set_option linter.unusedVariables false
set_option linter.unusedSimpArgs false
set_option maxRecDepth 100000
namespace Go.Proofs.YtjdffpglgkefmaaGreat.Mx
open Go Go.RowKit Go.Sx
theorem zv_33 : ZV Tryz.prog 33 (.agg [.int .i64 0, .slice none 0 0, .int .u64 0, .int .u64 0].toArray) := fun _ => by kernel_rfl
theorem agg_28 : Agg Tryz.prog 28 6 := fun _ => ⟨by kernel_rfl, by kernel_rfl⟩
theorem zv_175 : ZV Tryz.prog 175 (.agg [.int .u8 0, .int .i64 0, .int .i64 0].toArray) := fun _ => by kernel_rfl
theorem fa_28_0 : FA Tryz.prog 28 0 0 := fun _ _ _ => by kernel_rfl
theorem one_5 : One Tryz.prog 5 := fun _ => ⟨by kernel_rfl, by kernel_rfl⟩
theorem fa_28_1 : FA Tryz.prog 28 1 1 := fun _ _ _ => by kernel_rfl
theorem one_3 : One Tryz.prog 3 := fun _ => ⟨by kernel_rfl, by kernel_rfl⟩
theorem zv_28 : ZV Tryz.prog 28 (.agg [.int .u8 0, .int .i64 0, .int .i64 0, .int .u64 0, .int .u64 0, .int .u64 0].toArray) := fun _ => by kernel_rfl
theorem agg_26 : Agg Tryz.prog 26 3 := fun _ => ⟨by kernel_rfl, by kernel_rfl⟩
theorem bs_28 : BS Tryz.prog 28 (fun i => [(0, 1), (1, 1), (2, 1), (3, 3)][i]?) [.int .u8 0, .int .i64 0, .int .i64 0, .int .u64 0, .int .u64 0, .int .u64 0] := bs_mk Tryz.underlying28 zv_28 ⟨rfl, (one_5).siz, rfl, (one_3).siz, rfl, (one_3).siz, rfl, (agg_26).siz, trivial⟩
theorem one_24 : One Tryz.prog 24 := fun _ => ⟨by kernel_rfl, by kernel_rfl⟩
theorem eqc_24 : EqC Tryz.prog 1 24 [.i .u64] := eqc_int Tryz.underlying24 one_24
theorem eqc_26 : EqC Tryz.prog 2 26 [.i .u64, .i .u64, .i .u64] := eqc_struct Tryz.underlying26 (by kernel_rfl) agg_26 (show EqF _ 1 _ _ _ from (eqf_cons (ks1 := [.i .u64]) (ks2 := [.i .u64, .i .u64]) rfl (by simp) (eqc_24.up (by decide)) (eqf_cons (ks1 := [.i .u64]) (ks2 := [.i .u64]) rfl (by simp) (eqc_24.up (by decide)) (eqf_cons (ks1 := [.i .u64]) (ks2 := []) rfl (by simp) (eqc_24.up (by decide)) (eqf_nil _)))))
theorem eqc_3 : EqC Tryz.prog 1 3 [.i .i64] := eqc_int Tryz.underlying3 one_3
theorem eqc_5 : EqC Tryz.prog 1 5 [.i .u8] := eqc_int Tryz.underlying5 one_5
theorem eqc_28 : EqC Tryz.prog 3 28 [.i .u8, .i .i64, .i .i64, .i .u64, .i .u64, .i .u64] := eqc_struct Tryz.underlying28 (by kernel_rfl) agg_28 (show EqF _ 2 _ _ _ from (eqf_cons (ks1 := [.i .u8]) (ks2 := [.i .i64, .i .i64, .i .u64, .i .u64, .i .u64]) rfl (by simp) (eqc_5.up (by decide)) (eqf_cons (ks1 := [.i .i64]) (ks2 := [.i .i64, .i .u64, .i .u64, .i .u64]) rfl (by simp) (eqc_3.up (by decide)) (eqf_cons (ks1 := [.i .i64]) (ks2 := [.i .u64, .i .u64, .i .u64]) rfl (by simp) (eqc_3.up (by decide)) (eqf_cons (ks1 := [.i .u64, .i .u64, .i .u64]) (ks2 := []) rfl (by simp) (eqc_26.up (by decide)) (eqf_nil _))))))
theorem eqt_28 : EqT Tryz.prog 28 [.i .u8, .i .i64, .i .i64, .i .u64, .i .u64, .i .u64] := ⟨by kernel_rfl, agg_28, 3, by decide, eqc_28⟩
theorem bs_175 : BS Tryz.prog 175 (fun i => [(0, 1), (1, 1), (2, 1)][i]?) [.int .u8 0, .int .i64 0, .int .i64 0] := bs_mk Tryz.underlying175 zv_175 ⟨rfl, (one_5).siz, rfl, (one_3).siz, rfl, (one_3).siz, trivial⟩
theorem agg_175 : Agg Tryz.prog 175 3 := fun _ => ⟨by kernel_rfl, by kernel_rfl⟩
theorem fa_175_2 : FA Tryz.prog 175 2 2 := fun _ _ _ => by kernel_rfl
theorem fa_175_1 : FA Tryz.prog 175 1 1 := fun _ _ _ => by kernel_rfl
theorem en_187 : En Tryz.prog 187 := fun _ _ => by kernel_rfl
theorem agg_131 : Agg Tryz.prog 131 2 := fun _ => ⟨by kernel_rfl, by kernel_rfl⟩
theorem zv_131 : ZV Tryz.prog 131 (.agg [.int .i64 0, .int .i64 0].toArray) := fun _ => by kernel_rfl
theorem fa_131_0 : FA Tryz.prog 131 0 0 := fun _ _ _ => by kernel_rfl
theorem fa_131_1 : FA Tryz.prog 131 1 1 := fun _ _ _ => by kernel_rfl
theorem en_189 : En Tryz.prog 189 := fun _ _ => by kernel_rfl
theorem en_198 : En Tryz.prog 198 := fun _ _ => by kernel_rfl
theorem fa_175_0 : FA Tryz.prog 175 0 0 := fun _ _ _ => by kernel_rfl
theorem cv_180_150 : CV Tryz.prog 180 150 .u64 := fun _ _ _ => by kernel_rfl
theorem en_194 : En Tryz.prog 194 := fun _ _ => by kernel_rfl
theorem en_192 : En Tryz.prog 192 := fun _ _ => by kernel_rfl
theorem en_199 : En Tryz.prog 199 := fun _ _ => by kernel_rfl
theorem en_118 : En Tryz.prog 118 := fun _ _ => by kernel_rfl
theorem en_191 : En Tryz.prog 191 := fun _ _ => by kernel_rfl
theorem zv_180 : ZV Tryz.prog 180 (.int .i64 0) := fun _ => by kernel_rfl
theorem one_180 : One Tryz.prog 180 := fun _ => ⟨by kernel_rfl, by kernel_rfl⟩
theorem en_240 : En Tryz.prog 240 := fun _ _ => by kernel_rfl
theorem one_185 : One Tryz.prog 185 := fun _ => ⟨by kernel_rfl, by kernel_rfl⟩
theorem en_239 : En Tryz.prog 239 := fun _ _ => by kernel_rfl
theorem en_190 : En Tryz.prog 190 := fun _ _ => by kernel_rfl
theorem en_117 : En Tryz.prog 117 := fun _ _ => by kernel_rfl
theorem en_124 : En Tryz.prog 124 := fun _ _ => by kernel_rfl
theorem en_112 : En Tryz.prog 112 := fun _ _ => by kernel_rfl
theorem one_29 : One Tryz.prog 29 := fun _ => ⟨by kernel_rfl, by kernel_rfl⟩
theorem agg_31 : Agg Tryz.prog 31 2 := fun _ => ⟨by kernel_rfl, by kernel_rfl⟩
theorem bs_33 : BS Tryz.prog 33 (fun i => [(0, 1), (1, 1), (2, 2)][i]?) [.int .i64 0, .slice none 0 0, .int .u64 0, .int .u64 0] := bs_mk Tryz.underlying33 zv_33 ⟨rfl, (one_3).siz, rfl, (one_29).siz, rfl, (agg_31).siz, trivial⟩
theorem agg_33 : Agg Tryz.prog 33 4 := fun _ => ⟨by kernel_rfl, by kernel_rfl⟩
theorem en_188 : En Tryz.prog 188 := fun _ _ => by kernel_rfl
theorem en_202 : En Tryz.prog 202 := fun _ _ => by kernel_rfl
theorem en_114 : En Tryz.prog 114 := fun _ _ => by kernel_rfl
theorem one_301 : One Tryz.prog 301 := fun _ => ⟨by kernel_rfl, by kernel_rfl⟩
theorem en_116 : En Tryz.prog 116 := fun _ _ => by kernel_rfl
theorem bs_131 : BS Tryz.prog 131 (fun i => [(0, 1), (1, 1)][i]?) [.int .i64 0, .int .i64 0] := bs_mk Tryz.underlying131 zv_131 ⟨rfl, (one_3).siz, rfl, (one_3).siz, trivial⟩
theorem zv_92 : ZV Tryz.prog 92 (.agg [.int .i64 0, .int .i64 0, .int .u8 0, .int .u8 0, .int .u8 0, .int .u8 0, .int .u8 0, .int .u8 0, .int .u8 0, .int .u8 0, .int .u8 0, .int .u8 0, .int .u8 0, .int .u8 0, .int .u8 0, .int .u8 0, .int .u8 0, .int .u8 0].toArray) := fun _ => by kernel_rfl
theorem agg_23 : Agg Tryz.prog 23 16 := fun _ => ⟨by kernel_rfl, by kernel_rfl⟩
theorem bs_92 : BS Tryz.prog 92 (fun i => [(0, 1), (1, 1), (2, 16)][i]?) [.int .i64 0, .int .i64 0, .int .u8 0, .int .u8 0, .int .u8 0, .int .u8 0, .int .u8 0, .int .u8 0, .int .u8 0, .int .u8 0, .int .u8 0, .int .u8 0, .int .u8 0, .int .u8 0, .int .u8 0, .int .u8 0, .int .u8 0, .int .u8 0] := bs_mk Tryz.underlying92 zv_92 ⟨rfl, (one_3).siz, rfl, (one_3).siz, rfl, (agg_23).siz, trivial⟩
theorem agg_92 : Agg Tryz.prog 92 18 := fun _ => ⟨by kernel_rfl, by kernel_rfl⟩
theorem fa_92_0 : FA Tryz.prog 92 0 0 := fun _ _ _ => by kernel_rfl
theorem zv_23 : ZV Tryz.prog 23 (.agg [.int .u8 0, .int .u8 0, .int .u8 0, .int .u8 0, .int .u8 0, .int .u8 0, .int .u8 0, .int .u8 0, .int .u8 0, .int .u8 0, .int .u8 0, .int .u8 0, .int .u8 0, .int .u8 0, .int .u8 0, .int .u8 0].toArray) := fun _ => by kernel_rfl
theorem cv_180_24 : CV Tryz.prog 180 24 .u64 := fun _ _ _ => by kernel_rfl
theorem en_48 : En Tryz.prog 48 := fun _ _ => by kernel_rfl
theorem en_195 : En Tryz.prog 195 := fun _ _ => by kernel_rfl
theorem en_197 : En Tryz.prog 197 := fun _ _ => by kernel_rfl
theorem en_196 : En Tryz.prog 196 := fun _ _ => by kernel_rfl
theorem en_122 : En Tryz.prog 122 := fun _ _ => by kernel_rfl
theorem fa_92_2 : FA Tryz.prog 92 2 2 := fun _ _ _ => by kernel_rfl
theorem fa_33_1 : FA Tryz.prog 33 1 1 := fun _ _ _ => by kernel_rfl
theorem bsl_29_1 : BSl Tryz.prog 29 1 92 18 [.int .i64 0, .int .i64 0, .int .u8 0, .int .u8 0, .int .u8 0, .int .u8 0, .int .u8 0, .int .u8 0, .int .u8 0, .int .u8 0, .int .u8 0, .int .u8 0, .int .u8 0, .int .u8 0, .int .u8 0, .int .u8 0, .int .u8 0, .int .u8 0] := bsl_mk Tryz.underlying29 (agg_92).siz zv_92 rfl rfl (by kernel_rfl)
theorem apt_29 : ApT Tryz.prog 29 92 18 32 := apt_mk Tryz.underlying29 rfl (by kernel_rfl)
theorem en_251 : En Tryz.prog 251 := fun _ _ => by kernel_rfl
theorem fa_28_2 : FA Tryz.prog 28 2 2 := fun _ _ _ => by kernel_rfl
theorem fa_28_3 : FA Tryz.prog 28 3 3 := fun _ _ _ => by kernel_rfl
theorem zv_26 : ZV Tryz.prog 26 (.agg [.int .u64 0, .int .u64 0, .int .u64 0].toArray) := fun _ => by kernel_rfl
theorem bs_26 : BS Tryz.prog 26 (fun i => [(0, 1), (1, 1), (2, 1)][i]?) [.int .u64 0, .int .u64 0, .int .u64 0] := bs_mk Tryz.underlying26 zv_26 ⟨rfl, (one_24).siz, rfl, (one_24).siz, rfl, (one_24).siz, trivial⟩
theorem eqt_26 : EqT Tryz.prog 26 [.i .u64, .i .u64, .i .u64] := ⟨by kernel_rfl, agg_26, 2, by decide, eqc_26⟩
theorem en_144 : En Tryz.prog 144 := fun _ _ => by kernel_rfl
theorem en_142 : En Tryz.prog 142 := fun _ _ => by kernel_rfl
theorem en_145 : En Tryz.prog 145 := fun _ _ => by kernel_rfl
theorem zv_3 : ZV Tryz.prog 3 (.int .i64 0) := fun _ => by kernel_rfl
theorem bsl_44_1 : BSl Tryz.prog 44 1 3 1 [.int .i64 0] := bsl_mk Tryz.underlying44 (one_3).siz zv_3 rfl rfl (by kernel_rfl)
theorem apt_44 : ApT Tryz.prog 44 3 1 8 := apt_mk Tryz.underlying44 rfl (by kernel_rfl)
theorem en_253 : En Tryz.prog 253 := fun _ _ => by kernel_rfl
theorem bsl_107_1 : BSl Tryz.prog 107 1 131 2 [.int .i64 0, .int .i64 0] := bsl_mk Tryz.underlying107 (agg_131).siz zv_131 rfl rfl (by kernel_rfl)
theorem apt_107 : ApT Tryz.prog 107 131 2 16 := apt_mk Tryz.underlying107 rfl (by kernel_rfl)
theorem en_220 : En Tryz.prog 220 := fun _ _ => by kernel_rfl
theorem en_221 : En Tryz.prog 221 := fun _ _ => by kernel_rfl
theorem en_255 : En Tryz.prog 255 := fun _ _ => by kernel_rfl
theorem en_256 : En Tryz.prog 256 := fun _ _ => by kernel_rfl
theorem en_222 : En Tryz.prog 222 := fun _ _ => by kernel_rfl
theorem en_219 : En Tryz.prog 219 := fun _ _ => by kernel_rfl
theorem en_152 : En Tryz.prog 152 := fun _ _ => by kernel_rfl
theorem en_206 : En Tryz.prog 206 := fun _ _ => by kernel_rfl
theorem cv_3_24 : CV Tryz.prog 3 24 .u64 := fun _ _ _ => by kernel_rfl
theorem en_64 : En Tryz.prog 64 := fun _ _ => by kernel_rfl
theorem en_257 : En Tryz.prog 257 := fun _ _ => by kernel_rfl
theorem en_226 : En Tryz.prog 226 := fun _ _ => by kernel_rfl
theorem en_207 : En Tryz.prog 207 := fun _ _ => by kernel_rfl
theorem en_153 : En Tryz.prog 153 := fun _ _ => by kernel_rfl
theorem en_146 : En Tryz.prog 146 := fun _ _ => by kernel_rfl

set_option maxHeartbeats 2000000 in
theorem cover_treeOf_w (p0 : TScheme)  (r : Tcover_tree × Bool) (hm : cover_treeOf p0 = some r) (w : World)   :
    Calls Tryz.prog 187 [.agg (TScheme.cs p0).toArray].toArray w fun e w' => ∃ v, e = .returned v ∧ (v = .tuple [.agg (Tcover_tree.cs r.1).toArray, .bool r.2].toArray ∧ Gr w w') := by
  unfold cover_treeOf at hm
  refine calls_of_sw (R := fun v w' => v = .tuple [.agg (Tcover_tree.cs r.1).toArray, .bool r.2].toArray ∧ Gr w w') 51 Tryz.func187 rfl rfl rfl ?_
  refine sw_seq ?_
  -- region 0 tree.go:50
  refine sw_region [(0, 0), (1, 0), (2, 0)] rfl rfl rfl ?_
  refine sd_ev rfl rfl rfl (ev_box (cs := TScheme.cs p0) rfl rfl) ?_
  rintro _ w1 ⟨b1, rfl, hbw1, Bw1, Gw1⟩
  have z1 := Gw1.size
  have lt2 := Bw1.lt
  refine sd_ev rfl rfl rfl (ev_alloc (cs := Tcover_tree.cs (Tcover_tree.mk 0#8 0 0)) zv_175 rfl) ?_
  rintro _ w2 ⟨b2, rfl, hbw2, Bw2, Gw2⟩
  have z3 := Gw2.size
  have lt4 := Bw2.lt
  refine sd_vv rfl rfl rfl (vv_assign rfl) ?_
  refine sd_done ?_
  refine sw_seq ?_
  have X5 : Gr w w2 := (Gr.trans (Gr.trans (Gr.refl w) Gw1) Gw2)
  refine sw_joinD (β := Bool) [5, 6, 7, 8, 9, 10, 11, 12, 13, 14, 15, 16, 17, 18, 19, 20, 21, 22, 23, 24, 25, 26, 27, 28, 29, 30, 31] (fun a1 => [(31, .bool a1)]) (fun a1 wr => (cover_treeOf_J1 p0 a1 = some r) ∧ Kz [] w2 wr) ?_ ?_
  · clear hm; rintro a1 w3 ⟨hm, Kw3⟩
    have z6 := Kw3.size
    unfold cover_treeOf_J1 at hm
    refine sw_cond rfl (fun c1 => ?_) (fun c1 => ?_)
    ·
      replace hm := cnd_t c1 hm
      refine sw_seq ?_
      -- region 2 tree.go:52
      refine sw_region [(0, 0), (1, 0), (2, 0)] rfl rfl rfl ?_
      refine sd_vv rfl rfl rfl (vv_build (cs := Tcover_tree.cs (Tcover_tree.mk 0#8 0 0)) bs_175 rfl rfl) ?_
      have B7 := (Bx.kz Bw2 Kw3)
      refine sd_ev rfl rfl rfl (ev_stM (cs' := Tcover_tree.cs (Tcover_tree.mk 0#8 0 0)) (vs := Tcover_tree.cs (Tcover_tree.mk 0#8 0 0)) (agg_175).siz rfl rfl rfl rfl rfl B7 rfl rfl) ?_
      rintro _ w4 ⟨Bw4, Mw4⟩
      have z8 := Mw4.size
      refine sd_vv rfl rfl rfl (vv_assign rfl) ?_
      refine sd_done ?_
      refine sw_ret ?_
      refine then_r ?_
      have X9 : Gr w w4 := (Gr.md (Gr.kz X5 Kw3) Mw4)
      have hr := Option.some.inj hm
      subst hr
      refine ⟨_, _, rfl, res_2 rfl (rv_cellW agg_175 rfl Bw4 rfl) (rv_tmp rfl), ?_⟩
      exact ⟨rfl, X9⟩
    ·
      replace hm := cnd_f c1 hm
      refine sw_skip ?_
      refine then_n ?_
      refine sw_seq ?_
      -- region 3 tree.go:54
      refine sw_region [(0, 0), (1, 0), (2, 0), (3, 0), (4, 0), (5, 0), (6, 0)] rfl rfl rfl ?_
      refine sd_vv rfl rfl rfl (vv_fieldAddr fa_28_0 rfl) ?_
      have B10 := (Bx.kz (Bx.gr Bw1 Gw2) Kw3)
      refine sd_vv rfl rfl rfl (vv_load1 (v := bv p0.Kind) one_5 rfl B10 rfl) ?_
      refine sd_vv rfl rfl rfl (vv_fieldAddr fa_28_1 rfl) ?_
      refine sd_vv rfl rfl rfl (vv_load1 (v := .int .i64 p0.Depth) one_3 rfl B10 rfl) ?_
      refine sd_vv rfl rfl rfl (vv_build (cs := Tcover_tree.cs (Tcover_tree.mk p0.Kind p0.Depth 1)) bs_175 rfl rfl) ?_
      refine sd_ev rfl rfl rfl (ev_alloc (cs := Tcover_tree.cs (Tcover_tree.mk 0#8 0 0)) zv_175 rfl) ?_
      rintro _ w5 ⟨b5, rfl, hbw5, Bw5, Gw5⟩
      have z11 := Gw5.size
      have lt12 := Bw5.lt
      refine sd_ev rfl rfl rfl (ev_stM (cs' := Tcover_tree.cs (Tcover_tree.mk p0.Kind p0.Depth 1)) (vs := Tcover_tree.cs (Tcover_tree.mk p0.Kind p0.Depth 1)) (agg_175).siz rfl rfl rfl rfl rfl Bw5 rfl rfl) ?_
      rintro _ w6 ⟨Bw6, Mw6⟩
      have z13 := Mw6.size
      refine sd_done ?_
      refine sw_seq ?_
      refine sw_block ?_
      have X14 : Gr w w6 := (Gr.md (Gr.trans (Gr.kz X5 Kw3) Gw5) Mw6)
      refine sw_loopD (α := Nat × Int) [38, 39, 40, 41, 42, 43, 44, 45, 46, 47, 48, 49] (fun ⟨n2, a3⟩ => []) (fun ⟨n2, a3⟩ wr => (fixN (cover_treeOf_L2 p0) n2 a3 = some r) ∧ Bx wr b5 175 (Tcover_tree.cs (Tcover_tree.mk p0.Kind p0.Depth a3)) ∧ Kz [(1, b5)] w6 wr) (fun ⟨n2, a3⟩ => n2) ⟨FUEL, 1⟩ ?_ ?_ ?_
      · repeat' first | exact trivial | refine ⟨rfl, ?_⟩
      · exact ⟨hm, Bw6, Kz.refl _ _⟩
      · clear hm; rintro ⟨n2, a3⟩ w7 ⟨hm, Fw7_0, Kw7⟩
        have z15 := Kw7.size
        have lt16 := Fw7_0.lt
        have hb := fix_succ hm; clear hm; obtain ⟨n2, rfl, hm⟩ := hb
        generalize hrec2 : fixN (cover_treeOf_L2 p0) n2 = rec2 at hm
        unfold cover_treeOf_L2 at hm
        try dsimp only at hm
        refine sw_seq ?_
        refine sw_seq ?_
        -- region 4 tree.go:55
        refine sw_region [(0, 0), (1, 0), (2, 0), (3, 0), (4, 0), (5, 0), (6, 0), (7, 0)] rfl rfl rfl ?_
        refine sd_vv rfl rfl rfl (vv_fieldAddr fa_175_2 rfl) ?_
        refine sd_vv rfl rfl rfl (vv_load1 (v := .int .i64 a3) one_3 rfl Fw7_0 rfl) ?_
        refine sd_vv rfl rfl rfl (vv_fieldAddr fa_175_2 rfl) ?_
        refine sd_vv rfl rfl rfl (vv_load1 (v := .int .i64 a3) one_3 rfl Fw7_0 rfl) ?_
        refine sd_vv rfl rfl rfl (vv_mul (k := .i64) (a := a3) (b := a3) rfl rfl) ?_
        refine sd_vv rfl rfl rfl (vv_fieldAddr fa_175_1 rfl) ?_
        refine sd_vv rfl rfl rfl (vv_load1 (v := .int .i64 p0.Depth) one_3 rfl Fw7_0 rfl) ?_
        refine sd_vv rfl rfl rfl (vv_lss (a := w64 (a3 * a3)) (b := p0.Depth) rfl rfl) ?_
        refine sd_done ?_
        refine sw_cond rfl (fun c2 => ?_) (fun c2 => ?_)
        ·
          replace hm := ite_t (of_decide_eq_true c2) hm
          refine sw_skip ?_
          refine then_n ?_
          refine sw_block ?_
          -- region 5 tree.go:56
          refine sw_region [(0, 0), (1, 0), (2, 0), (3, 0), (4, 0)] rfl rfl rfl ?_
          refine sd_vv rfl rfl rfl (vv_fieldAddr fa_175_2 rfl) ?_
          refine sd_vv rfl rfl rfl (vv_load1 (v := .int .i64 a3) one_3 rfl Fw7_0 rfl) ?_
          refine sd_vv rfl rfl rfl (vv_add (k := .i64) (a := a3) (b := 1) rfl rfl) ?_
          refine sd_vv rfl rfl rfl (vv_fieldAddr fa_175_2 rfl) ?_
          refine sd_ev rfl rfl rfl (ev_st1 (cs' := Tcover_tree.cs (Tcover_tree.mk p0.Kind p0.Depth (w64 (a3 + 1)))) (one_3).siz rfl rfl rfl Fw7_0 rfl rfl) ?_
          rintro _ w8 ⟨Bw8, Mw8⟩
          have z17 := Mw8.size
          refine sd_nil ?_
          refine block_n ?_
          have K_18 : Kz [(1, b5)] w6 w8 := (Kz.md Kw7 Mw8)
          subst hrec2
          refine ⟨rfl, ⟨n2, w64 (a3 + 1)⟩, ?_, ⟨hm, Bw8, K_18⟩, Nat.lt_succ_self _⟩
          repeat' first | exact trivial | refine ⟨rfl, ?_⟩
        ·
          replace hm := ite_f (of_decide_eq_false c2) hm
          refine sw_exit ?_
          refine then_x ?_
          refine then_x ?_
          refine block_x ?_
          refine then_n ?_
          refine sw_seq ?_
          -- region 6 tree.go:58
          refine sw_region [(0, 0), (1, 0), (2, 0)] rfl rfl rfl ?_
          refine sd_vv rfl rfl rfl (vv_loadW agg_175 rfl Fw7_0 rfl) ?_
          have B19 := (Bx.kz (Bx.md (Bx.gr (Bx.kz Bw2 Kw3) Gw5) Mw6) Kw7)
          refine sd_ev rfl rfl rfl (ev_stM (cs' := Tcover_tree.cs (Tcover_tree.mk p0.Kind p0.Depth a3)) (vs := Tcover_tree.cs (Tcover_tree.mk p0.Kind p0.Depth a3)) (agg_175).siz rfl rfl rfl rfl rfl B19 rfl rfl) ?_
          rintro _ w9 ⟨Bw9, Mw9⟩
          have z20 := Mw9.size
          refine sd_vv rfl rfl rfl (vv_assign rfl) ?_
          refine sd_done ?_
          refine sw_ret ?_
          have X21 : Gr w w9 := (Gr.md (Gr.kz X14 Kw7) Mw9)
          have hr := Option.some.inj hm
          subst hr
          refine ⟨_, _, rfl, res_2 rfl (rv_cellW agg_175 rfl Bw9 rfl) (rv_tmp rfl), ?_⟩
          exact ⟨rfl, X21⟩
  ·
    -- region 1 tree.go:51
    refine sw_region [(0, 0), (1, 0), (2, 0), (3, 0), (4, 0), (5, 0), (6, 0), (7, 0), (8, 0), (9, 0), (10, 0), (11, 0), (12, 0), (13, 0), (14, 0), (15, 0), (16, 0), (17, 0), (18, 0), (19, 0), (20, 0), (21, 0), (22, 0), (23, 0), (24, 0), (25, 0), (26, 0)] rfl rfl rfl ?_
    refine sd_vv rfl rfl rfl (vv_fieldAddr fa_28_0 rfl) ?_
    have B22 := (Bx.gr Bw1 Gw2)
    refine sd_vv rfl rfl rfl (vv_load1 (v := bv p0.Kind) one_5 rfl B22 rfl) ?_
    refine sd_vv rfl rfl rfl (vv_lssB (p := p0.Kind) (q := 1#8) rfl rfl) ?_
    refine sd_split rfl rfl rfl (vv_move rfl) (fun c3 => ?_) (fun c3 => ?_)
    ·
      replace hm := ite_t (of_decide_eq_true c3) hm
      refine sd_skip rfl rfl rfl ?_
      refine sd_skip rfl rfl rfl ?_
      refine sd_skip rfl rfl rfl ?_
      refine sd_vv rfl rfl rfl (vv_pickT rfl rfl) ?_
      refine sd_vv rfl rfl rfl (vv_move rfl) ?_
      refine sd_skip rfl rfl rfl ?_
      refine sd_skip rfl rfl rfl ?_
      refine sd_skip rfl rfl rfl ?_
      refine sd_vv rfl rfl rfl (vv_pickT rfl rfl) ?_
      refine sd_vv rfl rfl rfl (vv_move rfl) ?_
      refine sd_skip rfl rfl rfl ?_
      refine sd_skip rfl rfl rfl ?_
      refine sd_skip rfl rfl rfl ?_
      refine sd_vv rfl rfl rfl (vv_pickT rfl rfl) ?_
      refine sd_vv rfl rfl rfl (vv_move rfl) ?_
      refine sd_skip rfl rfl rfl ?_
      refine sd_skip rfl rfl rfl ?_
      refine sd_skip rfl rfl rfl ?_
      refine sd_skip rfl rfl rfl ?_
      refine sd_skip rfl rfl rfl ?_
      refine sd_skip rfl rfl rfl ?_
      refine sd_skip rfl rfl rfl ?_
      refine sd_vv rfl rfl rfl (vv_pickT rfl rfl) ?_
      refine sd_nil ?_
      have K_23 : Kz [] w2 w2 := (Kz.refl _ _)
      refine ⟨rfl, true, ?_, hm, K_23⟩
      repeat' first | exact trivial | refine ⟨rfl, ?_⟩
    ·
      replace hm := ite_f (of_decide_eq_false c3) hm
      refine sd_vv rfl rfl rfl (vv_fieldAddr fa_28_0 rfl) ?_
      refine sd_vv rfl rfl rfl (vv_load1 (v := bv p0.Kind) one_5 rfl B22 rfl) ?_
      refine sd_vv rfl rfl rfl (vv_gtrB (p := p0.Kind) (q := 3#8) rfl rfl) ?_
      refine sd_vv rfl rfl rfl (vv_pickF rfl rfl) ?_
      refine sd_split rfl rfl rfl (vv_move rfl) (fun c4 => ?_) (fun c4 => ?_)
      ·
        replace hm := ite_t (of_decide_eq_true c4) hm
        refine sd_skip rfl rfl rfl ?_
        refine sd_skip rfl rfl rfl ?_
        refine sd_skip rfl rfl rfl ?_
        refine sd_vv rfl rfl rfl (vv_pickT rfl rfl) ?_
        refine sd_vv rfl rfl rfl (vv_move rfl) ?_
        refine sd_skip rfl rfl rfl ?_
        refine sd_skip rfl rfl rfl ?_
        refine sd_skip rfl rfl rfl ?_
        refine sd_vv rfl rfl rfl (vv_pickT rfl rfl) ?_
        refine sd_vv rfl rfl rfl (vv_move rfl) ?_
        refine sd_skip rfl rfl rfl ?_
        refine sd_skip rfl rfl rfl ?_
        refine sd_skip rfl rfl rfl ?_
        refine sd_skip rfl rfl rfl ?_
        refine sd_skip rfl rfl rfl ?_
        refine sd_skip rfl rfl rfl ?_
        refine sd_skip rfl rfl rfl ?_
        refine sd_vv rfl rfl rfl (vv_pickT rfl rfl) ?_
        refine sd_nil ?_
        have K_24 : Kz [] w2 w2 := (Kz.refl _ _)
        refine ⟨rfl, true, ?_, hm, K_24⟩
        repeat' first | exact trivial | refine ⟨rfl, ?_⟩
      ·
        replace hm := ite_f (of_decide_eq_false c4) hm
        refine sd_vv rfl rfl rfl (vv_fieldAddr fa_28_1 rfl) ?_
        refine sd_vv rfl rfl rfl (vv_load1 (v := .int .i64 p0.Depth) one_3 rfl B22 rfl) ?_
        refine sd_vv rfl rfl rfl (vv_lss (a := p0.Depth) (b := 0) rfl rfl) ?_
        refine sd_vv rfl rfl rfl (vv_pickF rfl rfl) ?_
        refine sd_split rfl rfl rfl (vv_move rfl) (fun c5 => ?_) (fun c5 => ?_)
        ·
          replace hm := ite_t (of_decide_eq_true c5) hm
          refine sd_skip rfl rfl rfl ?_
          refine sd_skip rfl rfl rfl ?_
          refine sd_skip rfl rfl rfl ?_
          refine sd_vv rfl rfl rfl (vv_pickT rfl rfl) ?_
          refine sd_vv rfl rfl rfl (vv_move rfl) ?_
          refine sd_skip rfl rfl rfl ?_
          refine sd_skip rfl rfl rfl ?_
          refine sd_skip rfl rfl rfl ?_
          refine sd_skip rfl rfl rfl ?_
          refine sd_skip rfl rfl rfl ?_
          refine sd_skip rfl rfl rfl ?_
          refine sd_skip rfl rfl rfl ?_
          refine sd_vv rfl rfl rfl (vv_pickT rfl rfl) ?_
          refine sd_nil ?_
          have K_25 : Kz [] w2 w2 := (Kz.refl _ _)
          refine ⟨rfl, true, ?_, hm, K_25⟩
          repeat' first | exact trivial | refine ⟨rfl, ?_⟩
        ·
          replace hm := ite_f (of_decide_eq_false c5) hm
          refine sd_vv rfl rfl rfl (vv_fieldAddr fa_28_1 rfl) ?_
          refine sd_vv rfl rfl rfl (vv_load1 (v := .int .i64 p0.Depth) one_3 rfl B22 rfl) ?_
          refine sd_vv rfl rfl rfl (vv_gtr (a := p0.Depth) (b := 6) rfl rfl) ?_
          refine sd_vv rfl rfl rfl (vv_pickF rfl rfl) ?_
          refine sd_split rfl rfl rfl (vv_move rfl) (fun c6 => ?_) (fun c6 => ?_)
          ·
            replace hm := ite_t (of_decide_eq_true c6) hm
            refine sd_skip rfl rfl rfl ?_
            refine sd_skip rfl rfl rfl ?_
            refine sd_skip rfl rfl rfl ?_
            refine sd_skip rfl rfl rfl ?_
            refine sd_skip rfl rfl rfl ?_
            refine sd_skip rfl rfl rfl ?_
            refine sd_skip rfl rfl rfl ?_
            refine sd_vv rfl rfl rfl (vv_pickT rfl rfl) ?_
            refine sd_nil ?_
            have K_26 : Kz [] w2 w2 := (Kz.refl _ _)
            refine ⟨rfl, true, ?_, hm, K_26⟩
            repeat' first | exact trivial | refine ⟨rfl, ?_⟩
          ·
            replace hm := ite_f (of_decide_eq_false c6) hm
            refine sd_vv rfl rfl rfl (vv_loadW agg_28 rfl B22 rfl) ?_
            refine sd_vv rfl rfl rfl (vv_fieldAddr fa_28_0 rfl) ?_
            refine sd_vv rfl rfl rfl (vv_load1 (v := bv p0.Kind) one_5 rfl B22 rfl) ?_
            refine sd_vv rfl rfl rfl (vv_fieldAddr fa_28_1 rfl) ?_
            refine sd_vv rfl rfl rfl (vv_load1 (v := .int .i64 p0.Depth) one_3 rfl B22 rfl) ?_
            refine sd_vv rfl rfl rfl (vv_build (cs := TScheme.cs (TScheme.mk p0.Kind p0.Depth 0 (TGroup.mk 0#64 0#64 0#64))) bs_28 rfl rfl) ?_
            refine sd_vv rfl rfl rfl (vv_neqS (cf := TScheme.cs) (a := p0) (b := (TScheme.mk p0.Kind p0.Depth 0 (TGroup.mk 0#64 0#64 0#64))) eqt_28 rfl rfl rfl rfl (fun h => TScheme.cs_inj h)) ?_
            refine sd_vv rfl rfl rfl (vv_pickF rfl rfl) ?_
            refine sd_nil ?_
            have K_27 : Kz [] w2 w2 := (Kz.refl _ _)
            refine ⟨rfl, (decide (p0 ≠ (TScheme.mk p0.Kind p0.Depth 0 (TGroup.mk 0#64 0#64 0#64)))), ?_, hm, K_27⟩
            repeat' first | exact trivial | refine ⟨rfl, ?_⟩

set_option maxHeartbeats 2000000 in
theorem cover_tree_size_w (p0 : Tcover_tree)  (r : Int) (hm : cover_tree_size p0 = some r) (w : World)   :
    Calls Tryz.prog 189 [.agg (Tcover_tree.cs p0).toArray].toArray w fun e w' => ∃ v, e = .returned v ∧ (v = .int .i64 r ∧ Gr w w') := by
  unfold cover_tree_size at hm
  refine calls_of_sw (R := fun v w' => v = .int .i64 r ∧ Gr w w') 6 Tryz.func189 rfl rfl rfl ?_
  refine sw_seq ?_
  -- region 0 tree.go:62
  refine sw_region [(0, 0), (1, 0)] rfl rfl rfl ?_
  refine sd_ev rfl rfl rfl (ev_box (cs := Tcover_tree.cs p0) rfl rfl) ?_
  rintro _ w1 ⟨b1, rfl, hbw1, Bw1, Gw1⟩
  have z1 := Gw1.size
  have lt2 := Bw1.lt
  refine sd_vv rfl rfl rfl (vv_assign rfl) ?_
  refine sd_done ?_
  refine sw_seq ?_
  -- region 1 tree.go:62
  refine sw_region [(0, 0), (1, 0), (2, 0), (3, 0)] rfl rfl rfl ?_
  refine sd_vv rfl rfl rfl (vv_fieldAddr fa_175_1 rfl) ?_
  refine sd_vv rfl rfl rfl (vv_load1 (v := .int .i64 p0.depth) one_3 rfl Bw1 rfl) ?_
  have hb := bnd hm; clear hm; obtain ⟨n1, hn1, hm⟩ := hb
  refine sd_vv rfl rfl rfl (vv_shlI (a := 1) (b := p0.depth) rfl rfl hn1) ?_
  refine sd_vv rfl rfl rfl (vv_assign rfl) ?_
  refine sd_done ?_
  refine sw_ret ?_
  have X3 : Gr w w1 := (Gr.trans (Gr.refl w) Gw1)
  have hr := Option.some.inj hm
  subst hr
  refine ⟨_, _, rfl, res_1 rfl (rv_tmp rfl), ?_⟩
  exact ⟨rfl, X3⟩

set_option maxHeartbeats 2000000 in
theorem cover_tree_has_w (p0 : Tcover_tree) (p1 : Int)  (r : Bool) (hm : cover_tree_has p0 p1 = some r) (w : World)   :
    Calls Tryz.prog 198 [.agg (Tcover_tree.cs p0).toArray, .int .i64 p1].toArray w fun e w' => ∃ v, e = .returned v ∧ (v = .bool r ∧ Gr w w') := by
  unfold cover_tree_has at hm
  refine calls_of_sw (R := fun v w' => v = .bool r ∧ Gr w w') 14 Tryz.func198 rfl rfl rfl ?_
  refine sw_seq ?_
  -- region 0 tree.go:68
  refine sw_region [(0, 0), (1, 0)] rfl rfl rfl ?_
  refine sd_ev rfl rfl rfl (ev_box (cs := Tcover_tree.cs p0) rfl rfl) ?_
  rintro _ w1 ⟨b1, rfl, hbw1, Bw1, Gw1⟩
  have z1 := Gw1.size
  have lt2 := Bw1.lt
  refine sd_vv rfl rfl rfl (vv_assign rfl) ?_
  refine sd_done ?_
  refine sw_seq ?_
  -- region 1 tree.go:68
  refine sw_region [(0, 0), (1, 0), (2, 0), (3, 0), (4, 0), (5, 0), (6, 0), (7, 0), (8, 0), (9, 0)] rfl rfl rfl ?_
  refine sd_vv rfl rfl rfl (vv_move rfl) ?_
  refine sd_vv rfl rfl rfl (vv_geq (a := p1) (b := 1) rfl rfl) ?_
  refine sd_split rfl rfl rfl (vv_move rfl) (fun c1 => ?_) (fun c1 => ?_)
  ·
    replace hm := ite_t (of_decide_eq_true c1) hm
    refine sd_vv rfl rfl rfl (vv_move rfl) ?_
    refine sd_vv rfl rfl rfl (vv_loadW agg_175 rfl Bw1 rfl) ?_
    have hb := bnd hm; clear hm; obtain ⟨x1, hx1, hm⟩ := hb
    refine sd_ev rfl rfl rfl (ev_call en_189 rfl (cover_tree_size_w p0 _ hx1 _)) ?_
    rintro _ w2 ⟨rfl, Gw2⟩
    have z3 := Gw2.size
    refine sd_vv rfl rfl rfl (vv_mul (k := .i64) (a := 2) (b := x1) rfl rfl) ?_
    refine sd_vv rfl rfl rfl (vv_lss (a := p1) (b := w64 (2 * x1)) rfl rfl) ?_
    refine sd_vv rfl rfl rfl (vv_pickT rfl rfl) ?_
    refine sd_vv rfl rfl rfl (vv_assign rfl) ?_
    refine sd_done ?_
    refine sw_ret ?_
    have X4 : Gr w w2 := (Gr.trans (Gr.trans (Gr.refl w) Gw1) Gw2)
    have hr := Option.some.inj hm
    subst hr
    refine ⟨_, _, rfl, res_1 rfl (rv_tmp rfl), ?_⟩
    exact ⟨rfl, X4⟩
  ·
    replace hm := ite_f (of_decide_eq_false c1) hm
    refine sd_skip rfl rfl rfl ?_
    refine sd_skip rfl rfl rfl ?_
    refine sd_skip rfl rfl rfl ?_
    refine sd_skip rfl rfl rfl ?_
    refine sd_skip rfl rfl rfl ?_
    refine sd_vv rfl rfl rfl (vv_pickF rfl rfl) ?_
    refine sd_vv rfl rfl rfl (vv_assign rfl) ?_
    refine sd_done ?_
    refine sw_ret ?_
    have X5 : Gr w w1 := (Gr.trans (Gr.refl w) Gw1)
    have hr := Option.some.inj hm
    subst hr
    refine ⟨_, _, rfl, res_1 rfl (rv_tmp rfl), ?_⟩
    exact ⟨rfl, X5⟩

set_option maxHeartbeats 2000000 in
theorem cover_node_level_w (p0 : Int)  (r : Int) (hm : cover_node_level p0 = some r) (w : World)   :
    Calls Tryz.prog 192 [.int .i64 p0].toArray w fun e w' => ∃ v, e = .returned v ∧ (v = .int .i64 r ∧ Gr w w') := by
  unfold cover_node_level at hm
  refine calls_of_sw (R := fun v w' => v = .int .i64 r ∧ Gr w w') 7 Tryz.func192 rfl rfl rfl ?_
  refine sw_seq ?_
  -- region 0 tree.go:14
  refine sw_region [(0, 0)] rfl rfl rfl ?_
  refine sd_vv rfl rfl rfl (vv_assign rfl) ?_
  refine sd_done ?_
  refine sw_seq ?_
  -- region 1 tree.go:14
  refine sw_region [(0, 0), (1, 0), (2, 0), (3, 0), (4, 0)] rfl rfl rfl ?_
  refine sd_vv rfl rfl rfl (vv_move rfl) ?_
  refine sd_vv rfl rfl rfl (vv_cvIU cv_180_150 rfl) ?_
  refine sd_ev rfl rfl rfl (ev_call en_194 rfl (len_c (un (wd p0)) (un_nonneg _) (by have := un_le (wd p0); omega) _)) ?_
  rintro _ w1 ⟨rfl, Gw1⟩
  have z1 := Gw1.size
  refine sd_vv rfl rfl rfl (vv_sub (k := .i64) (a := lg (un (wd p0))) (b := 1) rfl rfl) ?_
  refine sd_vv rfl rfl rfl (vv_assign rfl) ?_
  refine sd_done ?_
  refine sw_ret ?_
  have X2 : Gr w w1 := (Gr.trans (Gr.refl w) Gw1)
  have hr := Option.some.inj hm
  subst hr
  refine ⟨_, _, rfl, res_1 rfl (rv_tmp rfl), ?_⟩
  exact ⟨rfl, X2⟩

set_option maxHeartbeats 2000000 in
theorem cover_node_below_w (p0 : Int) (p1 : Int)  (r : Bool) (hm : cover_node_below p0 p1 = some r) (w : World)   :
    Calls Tryz.prog 199 [.int .i64 p0, .int .i64 p1].toArray w fun e w' => ∃ v, e = .returned v ∧ (v = .bool r ∧ Gr w w') := by
  unfold cover_node_below at hm
  refine calls_of_sw (R := fun v w' => v = .bool r ∧ Gr w w') 27 Tryz.func199 rfl rfl rfl ?_
  refine sw_seq ?_
  -- region 0 tree.go:17
  refine sw_region [(0, 0)] rfl rfl rfl ?_
  refine sd_vv rfl rfl rfl (vv_assign rfl) ?_
  refine sd_done ?_
  refine sw_seq ?_
  refine sw_joinD (β := Bool) [5, 6, 7, 8, 9, 10, 11, 12, 13, 14, 15, 16, 17] (fun a1 => [(17, .bool a1)]) (fun a1 wr => (cover_node_below_J1 p0 p1 a1 = some r) ∧ Kz [] w wr) ?_ ?_
  · clear hm; rintro a1 w1 ⟨hm, Kw1⟩
    have z1 := Kw1.size
    unfold cover_node_below_J1 at hm
    refine sw_cond rfl (fun c1 => ?_) (fun c1 => ?_)
    ·
      replace hm := cnd_t c1 hm
      refine sw_seq ?_
      -- region 2 tree.go:19
      refine sw_region [(0, 0)] rfl rfl rfl ?_
      refine sd_vv rfl rfl rfl (vv_assign rfl) ?_
      refine sd_done ?_
      refine sw_ret ?_
      refine then_r ?_
      have X2 : Gr w w1 := (Gr.kz (Gr.refl w) Kw1)
      have hr := Option.some.inj hm
      subst hr
      refine ⟨_, _, rfl, res_1 rfl (rv_tmp rfl), ?_⟩
      exact ⟨rfl, X2⟩
    ·
      replace hm := cnd_f c1 hm
      refine sw_skip ?_
      refine then_n ?_
      refine sw_seq ?_
      -- region 3 tree.go:21
      refine sw_region [(0, 0), (1, 0), (2, 0), (3, 0), (4, 0), (5, 0), (6, 0), (7, 0), (8, 0), (9, 0)] rfl rfl rfl ?_
      refine sd_vv rfl rfl rfl (vv_move rfl) ?_
      refine sd_vv rfl rfl rfl (vv_move rfl) ?_
      have hb := bnd hm; clear hm; obtain ⟨x2, hx2, hm⟩ := hb
      refine sd_ev rfl rfl rfl (ev_call en_192 rfl (cover_node_level_w p0 _ hx2 _)) ?_
      rintro _ w2 ⟨rfl, Gw2⟩
      have z3 := Gw2.size
      refine sd_vv rfl rfl rfl (vv_move rfl) ?_
      have hb := bnd hm; clear hm; obtain ⟨x3, hx3, hm⟩ := hb
      refine sd_ev rfl rfl rfl (ev_call en_192 rfl (cover_node_level_w p1 _ hx3 _)) ?_
      rintro _ w3 ⟨rfl, Gw3⟩
      have z4 := Gw3.size
      refine sd_vv rfl rfl rfl (vv_sub (k := .i64) (a := x2) (b := x3) rfl rfl) ?_
      have hb := bnd hm; clear hm; obtain ⟨n4, hn4, hm⟩ := hb
      refine sd_vv rfl rfl rfl (vv_shrI (a := p0) (b := (w64 (x2 - x3))) rfl rfl hn4) ?_
      refine sd_vv rfl rfl rfl (vv_move rfl) ?_
      refine sd_vv rfl rfl rfl (vv_eql (a := shrI p0 n4) (b := p1) rfl rfl) ?_
      refine sd_vv rfl rfl rfl (vv_assign rfl) ?_
      refine sd_done ?_
      refine sw_ret ?_
      have X5 : Gr w w3 := (Gr.trans (Gr.trans (Gr.kz (Gr.refl w) Kw1) Gw2) Gw3)
      have hr := Option.some.inj hm
      subst hr
      refine ⟨_, _, rfl, res_1 rfl (rv_tmp rfl), ?_⟩
      exact ⟨rfl, X5⟩
  ·
    -- region 1 tree.go:18
    refine sw_region [(0, 0), (1, 0), (2, 0), (3, 0), (4, 0), (5, 0), (6, 0), (7, 0), (8, 0), (9, 0), (10, 0), (11, 0), (12, 0)] rfl rfl rfl ?_
    refine sd_vv rfl rfl rfl (vv_move rfl) ?_
    refine sd_vv rfl rfl rfl (vv_lss (a := p0) (b := 1) rfl rfl) ?_
    refine sd_split rfl rfl rfl (vv_move rfl) (fun c2 => ?_) (fun c2 => ?_)
    ·
      replace hm := ite_t (of_decide_eq_true c2) hm
      refine sd_skip rfl rfl rfl ?_
      refine sd_skip rfl rfl rfl ?_
      refine sd_vv rfl rfl rfl (vv_pickT rfl rfl) ?_
      refine sd_vv rfl rfl rfl (vv_move rfl) ?_
      refine sd_skip rfl rfl rfl ?_
      refine sd_skip rfl rfl rfl ?_
      refine sd_skip rfl rfl rfl ?_
      refine sd_skip rfl rfl rfl ?_
      refine sd_skip rfl rfl rfl ?_
      refine sd_vv rfl rfl rfl (vv_pickT rfl rfl) ?_
      refine sd_nil ?_
      have K_6 : Kz [] w w := (Kz.refl _ _)
      refine ⟨rfl, true, ?_, hm, K_6⟩
      repeat' first | exact trivial | refine ⟨rfl, ?_⟩
    ·
      replace hm := ite_f (of_decide_eq_false c2) hm
      refine sd_vv rfl rfl rfl (vv_move rfl) ?_
      refine sd_vv rfl rfl rfl (vv_lss (a := p1) (b := 1) rfl rfl) ?_
      refine sd_vv rfl rfl rfl (vv_pickF rfl rfl) ?_
      refine sd_split rfl rfl rfl (vv_move rfl) (fun c3 => ?_) (fun c3 => ?_)
      ·
        replace hm := ite_t (of_decide_eq_true c3) hm
        refine sd_skip rfl rfl rfl ?_
        refine sd_skip rfl rfl rfl ?_
        refine sd_skip rfl rfl rfl ?_
        refine sd_skip rfl rfl rfl ?_
        refine sd_skip rfl rfl rfl ?_
        refine sd_vv rfl rfl rfl (vv_pickT rfl rfl) ?_
        refine sd_nil ?_
        have K_7 : Kz [] w w := (Kz.refl _ _)
        refine ⟨rfl, true, ?_, hm, K_7⟩
        repeat' first | exact trivial | refine ⟨rfl, ?_⟩
      ·
        replace hm := ite_f (of_decide_eq_false c3) hm
        refine sd_vv rfl rfl rfl (vv_move rfl) ?_
        have hb := bnd hm; clear hm; obtain ⟨x5, hx5, hm⟩ := hb
        refine sd_ev rfl rfl rfl (ev_call en_192 rfl (cover_node_level_w p0 _ hx5 _)) ?_
        rintro _ w4 ⟨rfl, Gw4⟩
        have z8 := Gw4.size
        refine sd_vv rfl rfl rfl (vv_move rfl) ?_
        have hb := bnd hm; clear hm; obtain ⟨x6, hx6, hm⟩ := hb
        refine sd_ev rfl rfl rfl (ev_call en_192 rfl (cover_node_level_w p1 _ hx6 _)) ?_
        rintro _ w5 ⟨rfl, Gw5⟩
        have z9 := Gw5.size
        refine sd_vv rfl rfl rfl (vv_lss (a := x5) (b := x6) rfl rfl) ?_
        refine sd_vv rfl rfl rfl (vv_pickF rfl rfl) ?_
        refine sd_nil ?_
        have K_10 : Kz [] w w5 := (Kz.gr (Kz.gr (Kz.refl _ _) Gw4) Gw5)
        refine ⟨rfl, (decide (x5 < x6)), ?_, hm, K_10⟩
        repeat' first | exact trivial | refine ⟨rfl, ?_⟩

set_option maxHeartbeats 2000000 in
theorem cover_tree_special_w (p0 : Tcover_tree) (p1 : Int)  (r : Bool) (hm : cover_tree_special p0 p1 = some r) (w : World)   :
    Calls Tryz.prog 118 [.agg (Tcover_tree.cs p0).toArray, .int .i64 p1].toArray w fun e w' => ∃ v, e = .returned v ∧ (v = .bool r ∧ Gr w w') := by
  unfold cover_tree_special at hm
  refine calls_of_sw (R := fun v w' => v = .bool r ∧ Gr w w') 11 Tryz.func118 rfl rfl rfl ?_
  refine sw_seq ?_
  -- region 0 tree.go:84
  refine sw_region [(0, 0), (1, 0)] rfl rfl rfl ?_
  refine sd_ev rfl rfl rfl (ev_box (cs := Tcover_tree.cs p0) rfl rfl) ?_
  rintro _ w1 ⟨b1, rfl, hbw1, Bw1, Gw1⟩
  have z1 := Gw1.size
  have lt2 := Bw1.lt
  refine sd_vv rfl rfl rfl (vv_assign rfl) ?_
  refine sd_done ?_
  refine sw_seq ?_
  -- region 1 tree.go:84 DRAWS
  refine sw_drawN [([])] [] (.leaf [(0, 10), (2, 10), (3, 10), (1, 0), (4, 10), (5, 10), (6, 10)]) (by kernel_rfl) (by kernel_rfl) rfl (by kernel_rfl) ?_
  intro w2 Gw2 zw2
  refine sdz_leaf ?_
  refine dd_hn 0 rfl rfl rfl rfl (Kp.refl ([]) w2) (fun w hS => vv_move rfl) ?_
  refine dd_hn 0 rfl rfl rfl rfl (Kp.refl ([]) w2) (fun w hS => vv_fieldAddr fa_175_2 rfl) ?_
  have B3 := (Bx.gr Bw1 Gw2)
  refine dd_hn 0 rfl rfl rfl rfl (Kp.refl ([]) w2) (fun w hS => vv_load1 (v := .int .i64 p0.stride) one_3 rfl (Bx.kp B3 hS) rfl) ?_
  have hb := bnd hm; clear hm; obtain ⟨x1, hx1, hm⟩ := hb
  refine dd_z [] rfl rfl rfl (ev_call en_192 rfl (cover_node_level_w p1 _ hx1 _)) ⟨fun _ => tk0, trivial⟩ ?_
  rintro _ w3 ⟨rfl, Gw3⟩
  have z4 := Gw3.size
  refine ⟨Kz.ofGr Gw3, ?_⟩
  have hb := bnd hm; clear hm; obtain ⟨x2, hx2, hm⟩ := hb
  have S5 := (Kp.gr (Kp.refl ([]) w2) Gw3)
  refine dd_hn 0 rfl rfl rfl rfl S5 (fun w hS => vv_remI (a := x1) (b := p0.stride) rfl rfl hx2) ?_
  refine dd_hn 0 rfl rfl rfl rfl S5 (fun w hS => vv_eql (a := x2) (b := 0) rfl rfl) ?_
  refine dd_hn 0 rfl rfl rfl rfl S5 (fun w hS => vv_assign rfl) ?_
  refine sd_done ?_
  refine sw_ret ?_
  have X6 : Gr w w3 := (Gr.trans (Gr.trans (Gr.trans (Gr.refl w) Gw1) Gw2) Gw3)
  have hr := Option.some.inj hm
  subst hr
  refine ⟨_, _, rfl, res_1 rfl (rv_tmp rfl), ?_⟩
  exact ⟨rfl, X6⟩

set_option maxHeartbeats 2000000 in
theorem cover_path_w (p0 : Int) (p1 : Int)  (r : Int × Int) (hm : cover_path p0 p1 = some r) (w : World)   :
    Calls Tryz.prog 191 [.int .i64 p0, .int .i64 p1].toArray w fun e w' => ∃ v, e = .returned v ∧ (∃ (bc0 : Nat) (bc1 : Nat), v = .func (.func 239) #[] [.pointer (some ⟨bc0, 0, none⟩), .pointer (some ⟨bc1, 0, none⟩)].toArray ∧ Bx w' bc0 180 ([.int .i64 r.1]) ∧ (w.heap.size ≤ bc0) ∧ Bx w' bc1 180 ([.int .i64 r.2]) ∧ (w.heap.size ≤ bc1) ∧ Gr w w') := by
  unfold cover_path at hm
  refine calls_of_sw (R := fun v w' => ∃ (bc0 : Nat) (bc1 : Nat), v = .func (.func 239) #[] [.pointer (some ⟨bc0, 0, none⟩), .pointer (some ⟨bc1, 0, none⟩)].toArray ∧ Bx w' bc0 180 ([.int .i64 r.1]) ∧ (w.heap.size ≤ bc0) ∧ Bx w' bc1 180 ([.int .i64 r.2]) ∧ (w.heap.size ≤ bc1) ∧ Gr w w') 6 Tryz.func191 rfl rfl rfl ?_
  refine sw_seq ?_
  -- region 0 tree.go:31
  refine sw_region [(0, 0), (1, 0), (2, 0)] rfl rfl rfl ?_
  refine sd_ev rfl rfl rfl (ev_box (cs := [.int .i64 p0]) rfl rfl) ?_
  rintro _ w1 ⟨b1, rfl, hbw1, Bw1, Gw1⟩
  have z1 := Gw1.size
  have lt2 := Bw1.lt
  refine sd_ev rfl rfl rfl (ev_box (cs := [.int .i64 p1]) rfl rfl) ?_
  rintro _ w2 ⟨b2, rfl, hbw2, Bw2, Gw2⟩
  have z3 := Gw2.size
  have lt4 := Bw2.lt
  refine sd_vv rfl rfl rfl (vv_assign rfl) ?_
  refine sd_done ?_
  refine sw_seq ?_
  -- region 1 tree.go:32
  refine sw_region [(0, 0), (1, 0)] rfl rfl rfl ?_
  refine sd_vv rfl rfl rfl (vv_makeFunc rfl rfl) ?_
  refine sd_vv rfl rfl rfl (vv_assign rfl) ?_
  refine sd_done ?_
  refine sw_ret ?_
  have B5 := (Bx.gr Bw1 Gw2)
  have X6 : Gr w w2 := (Gr.trans (Gr.trans (Gr.refl w) Gw1) Gw2)
  have hr := Option.some.inj hm
  subst hr
  refine ⟨_, _, rfl, res_1 rfl (rv_tmp rfl), ?_⟩
  exact ⟨b1, b2, rfl, B5, by omega, Bw2, by omega, X6⟩

set_option maxHeartbeats 2000000 in
theorem cover_node_toward_w (p0 : Int) (p1 : Int)  (r : Int) (hm : cover_node_toward p0 p1 = some r) (w : World)   :
    Calls Tryz.prog 240 [.int .i64 p0, .int .i64 p1].toArray w fun e w' => ∃ v, e = .returned v ∧ (v = .int .i64 r ∧ Gr w w') := by
  unfold cover_node_toward at hm
  refine calls_of_sw (R := fun v w' => v = .int .i64 r ∧ Gr w w') 13 Tryz.func240 rfl rfl rfl ?_
  refine sw_seq ?_
  -- region 0 tree.go:28
  refine sw_region [(0, 0)] rfl rfl rfl ?_
  refine sd_vv rfl rfl rfl (vv_assign rfl) ?_
  refine sd_done ?_
  refine sw_seq ?_
  -- region 1 tree.go:28
  refine sw_region [(0, 0), (1, 0), (2, 0), (3, 0), (4, 0), (5, 0), (6, 0), (7, 0), (8, 0)] rfl rfl rfl ?_
  refine sd_vv rfl rfl rfl (vv_move rfl) ?_
  refine sd_vv rfl rfl rfl (vv_move rfl) ?_
  have hb := bnd hm; clear hm; obtain ⟨x1, hx1, hm⟩ := hb
  refine sd_ev rfl rfl rfl (ev_call en_192 rfl (cover_node_level_w p1 _ hx1 _)) ?_
  rintro _ w1 ⟨rfl, Gw1⟩
  have z1 := Gw1.size
  refine sd_vv rfl rfl rfl (vv_move rfl) ?_
  have hb := bnd hm; clear hm; obtain ⟨x2, hx2, hm⟩ := hb
  refine sd_ev rfl rfl rfl (ev_call en_192 rfl (cover_node_level_w p0 _ hx2 _)) ?_
  rintro _ w2 ⟨rfl, Gw2⟩
  have z2 := Gw2.size
  refine sd_vv rfl rfl rfl (vv_sub (k := .i64) (a := x1) (b := x2) rfl rfl) ?_
  refine sd_vv rfl rfl rfl (vv_sub (k := .i64) (a := w64 (x1 - x2)) (b := 1) rfl rfl) ?_
  have hb := bnd hm; clear hm; obtain ⟨n3, hn3, hm⟩ := hb
  refine sd_vv rfl rfl rfl (vv_shrI (a := p1) (b := (w64 ((w64 (x1 - x2)) - 1))) rfl rfl hn3) ?_
  refine sd_vv rfl rfl rfl (vv_assign rfl) ?_
  refine sd_done ?_
  refine sw_ret ?_
  have X3 : Gr w w2 := (Gr.trans (Gr.trans (Gr.refl w) Gw1) Gw2)
  have hr := Option.some.inj hm
  subst hr
  refine ⟨_, _, rfl, res_1 rfl (rv_tmp rfl), ?_⟩
  exact ⟨rfl, X3⟩

set_option maxHeartbeats 2000000 in
theorem cover_path_1_it (p1 : Int) (p2 : Int) (bp1 : Nat) (bp2 : Nat) (xs : List Int) (hm : cover_path_1 p1 p2 = some xs) (w0 : World) (hbp1 : Bx w0 bp1 180 ([.int .i64 p1])) (hbp2 : Bx w0 bp2 180 ([.int .i64 p2])) :
    IT Tryz.prog 239 [.pointer (some ⟨bp1, 0, none⟩), .pointer (some ⟨bp2, 0, none⟩)] (xs.map (fun (x : Int) => ([.int .i64 x] : List Value))) ([bp1] ++ [bp2]) w0 := by
  intro l J Jx w fp hG hJ hJx hcap h0 hY
  have c1 := Bx.gr hbp1 hG
  have lt2 := c1.lt
  have nb3 : bp1 ∉ fp := hcap _ (by simp)
  have c4 := Bx.gr hbp2 hG
  have lt5 := c4.lt
  have nb6 : bp2 ∉ fp := hcap _ (by simp)
  have hd := dr_0 xs
  unfold cover_path_1 at hm
  refine calls_of_sw (R := fun v w' => Kp fp w w' ∧ ((∃ fp', (∀ c ∈ fp', c ∈ fp ∨ w.heap.size ≤ c) ∧ J (xs.map (fun (x : Int) => ([.int .i64 x] : List Value))).length fp' w') ∨ (∃ j fp', (∀ c ∈ fp', c ∈ fp ∨ w.heap.size ≤ c) ∧ j ≤ (xs.map (fun (x : Int) => ([.int .i64 x] : List Value))).length ∧ Jx j fp' w'))) 16 Tryz.func239 rfl rfl rfl ?_
  refine sw_seq ?_
  -- region 0 tree.go:33
  refine sw_region [(0, 0), (1, 0)] rfl rfl rfl ?_
  refine sd_vv rfl rfl rfl (vv_load1 (v := .int .i64 p1) one_180 rfl c1 rfl) ?_
  refine sd_vv rfl rfl rfl (vv_assign rfl) ?_
  refine sd_done ?_
  refine sw_block ?_
  refine sw_loopD (α := Nat × Int × Nat × List Nat × List Int) [4, 6, 7, 8, 9, 10, 11, 12, 13, 14, 15] (fun ⟨n1, a2, kk, fpl, rl⟩ => [(4, .int .i64 a2)]) (fun ⟨n1, a2, kk, fpl, rl⟩ wr => (fixN (cover_path_1_L1 p2) n1 a2 = some rl) ∧ Dr xs kk rl ∧ J kk fpl wr ∧ (∀ c ∈ fpl, c ∈ fp ∨ w.heap.size ≤ c) ∧ Kp fp w wr ∧ Bx wr bp1 180 ([.int .i64 p1]) ∧ Bx wr bp2 180 ([.int .i64 p2]) ∧ bp1 ∉ fpl ∧ bp2 ∉ fpl ∧ True) (fun ⟨n1, a2, kk, fpl, rl⟩ => n1) ⟨FUEL, p1, 0, fp, xs⟩ ?_ ?_ ?_
  · repeat' first | exact trivial | refine ⟨rfl, ?_⟩
  · exact ⟨hm, hd, h0, (fun c hc => Or.inl hc), (Kp.refl fp w), c1, c4, nb3, nb6, trivial⟩
  · clear hm; rintro ⟨n1, a2, kk1, fpl1, rl1⟩ w1 ⟨hm, dl1, JLw1, sl1, KLw1, Sw1_0, Sw1_1, Nw1_0, Nw1_1, -⟩
    have z7 := KLw1.size
    have lt8 := Sw1_0.lt
    have lt9 := Sw1_1.lt
    have hb := fix_succ hm; clear hm; obtain ⟨n1, rfl, hm⟩ := hb
    generalize hrec1 : fixN (cover_path_1_L1 p2) n1 = rec1 at hm
    unfold cover_path_1_L1 at hm
    try dsimp only at hm
    refine sw_seq ?_
    refine sw_seq ?_
    -- region 1 tree.go:33
    refine sw_region [(0, 0), (1, 0), (2, 0)] rfl rfl rfl ?_
    refine sd_vv rfl rfl rfl (vv_move rfl) ?_
    refine sd_vv rfl rfl rfl (vv_load1 (v := .int .i64 p2) one_180 rfl Sw1_1 rfl) ?_
    refine sd_vv rfl rfl rfl (vv_neq (a := a2) (b := p2) rfl rfl) ?_
    refine sd_done ?_
    refine sw_cond rfl (fun c1 => ?_) (fun c1 => ?_)
    ·
      replace hm := ite_t (of_decide_eq_true c1) hm
      refine sw_skip ?_
      refine then_n ?_
      refine sw_block ?_
      refine sw_seq ?_
      -- region 2 tree.go:34
      refine sw_region [(0, 0), (1, 0), (2, 0), (3, 0)] rfl rfl rfl ?_
      refine sd_vv rfl rfl rfl (vv_move rfl) ?_
      refine sd_vv rfl rfl rfl (vv_load1 (v := .int .i64 p2) one_180 rfl Sw1_1 rfl) ?_
      have hb := bnd hm; clear hm; obtain ⟨x3, hx3, hm⟩ := hb
      refine sd_ev rfl rfl rfl (ev_call en_240 rfl (cover_node_toward_w a2 p2 _ hx3 _)) ?_
      rintro _ w2 ⟨rfl, Gw2⟩
      have z10 := Gw2.size
      refine sd_vv rfl rfl rfl (vv_assign rfl) ?_
      refine sd_done ?_
      refine sw_seq ?_
      -- region 3 tree.go:35
      refine sw_region [(0, 0), (1, 0), (2, 0), (3, 0)] rfl rfl rfl ?_
      refine sd_vv rfl rfl rfl (vv_move rfl) ?_
      refine sd_vv rfl rfl rfl (vv_move rfl) ?_
      have J12 := (hJ.gr JLw1 Gw2)
      have KI13 : Kp fp w w2 := (Kp.gr KLw1 Gw2)
      obtain ⟨rr11, hm, he11⟩ := yl_some hm
      have hx11 := Dr.at dl1 he11
      have hd11 := Dr.next dl1 he11
      have B14 := (Bx.gr Sw1_0 Gw2)
      have B15 := (Bx.gr Sw1_1 Gw2)
      refine sd_ev rfl rfl rfl (ev_yield rfl rfl (hY _ _ _ _ (getm hx11) J12 KI13 sl1)) ?_
      rintro _ w3 ⟨bb, rfl, KF11, fp11, hg11, hJb⟩
      have z16 := KF11.size
      have sub11 : ∀ c ∈ fp11, c ∈ fp ∨ w.heap.size ≤ c := sub_grow sl1 hg11 (by omega)
      have nb17 := notin_grow hg11 Nw1_0 (by omega)
      have nb18 := notin_grow hg11 Nw1_1 (by omega)
      cases bb
      ·
        have Jy11 : Jx (kk1 + 1) fp11 w3 := hJb
        refine sd_vv rfl rfl rfl (vv_not rfl) ?_
        refine sd_done ?_
        refine sw_condT rfl ?_
        refine sw_ret ?_
        refine block_r ?_
        refine then_r ?_
        refine block_r ?_
        have KI19 : Kp fp w w3 := (Kp.trans KI13 KF11 sl1)
        exact ⟨_, _, rfl, res_none rfl, KI19, .inr ⟨_, _, sub11, (by rw [List.length_map]; exact (List.getElem?_eq_some_iff.1 hx11).1), Jy11⟩⟩
      ·
        have Jy11 : J (kk1 + 1) fp11 w3 := hJb
        refine sd_vv rfl rfl rfl (vv_not rfl) ?_
        refine sd_done ?_
        refine sw_condF rfl ?_
        refine sw_skip ?_
        refine block_n ?_
        have KI20 : Kp fp w w3 := (Kp.trans KI13 KF11 sl1)
        have B21 := (Bx.kp B14 KF11 Nw1_0)
        have B22 := (Bx.kp B15 KF11 Nw1_1)
        subst hrec1
        refine ⟨rfl, ⟨n1, x3, (kk1 + 1), fp11, rr11⟩, ?_, ⟨hm, hd11, Jy11, sub11, KI20, B21, B22, nb17, nb18, trivial⟩, Nat.lt_succ_self _⟩
        repeat' first | exact trivial | refine ⟨rfl, ?_⟩
    ·
      replace hm := ite_f (of_decide_eq_false c1) hm
      refine sw_exit ?_
      refine then_x ?_
      refine then_x ?_
      refine block_x ?_
      have he := Option.some.inj hm
      have hl := Dr.last (c := (fun (x : Int) => ([.int .i64 x] : List Value))) dl1 he.symm
      refine ⟨_, _, rfl, res_none rfl, KLw1, .inl ⟨_, sl1, ?_⟩⟩
      rw [← hl]; exact JLw1

set_option maxHeartbeats 2000000 in
theorem cover_first_cover_path_1_cover_tree_special_w (p0_0 : Int) (p0_1 : Int) (p1_0 : Tcover_tree) (bp0_0 : Nat) (bp0_1 : Nat) (r : Int) (hm : cover_first_cover_path_1_cover_tree_special p0_0 p0_1 p1_0 = some r) (w : World) (hbp0_0 : Bx w bp0_0 180 ([.int .i64 p0_0])) (hbp0_1 : Bx w bp0_1 180 ([.int .i64 p0_1]))  :
    Calls Tryz.prog 190 [.func (.func 239) [].toArray [.pointer (some ⟨bp0_0, 0, none⟩), .pointer (some ⟨bp0_1, 0, none⟩)].toArray, .func (.func 118) [.agg (Tcover_tree.cs p1_0).toArray].toArray [].toArray].toArray w fun e w' => ∃ v, e = .returned v ∧ (v = .int .i64 r ∧ Gr w w') := by
  have lt1 := hbp0_0.lt
  have lt2 := hbp0_1.lt
  unfold cover_first_cover_path_1_cover_tree_special at hm
  refine calls_of_sw (R := fun v w' => v = .int .i64 r ∧ Gr w w') 12 Tryz.func190 rfl rfl rfl ?_
  refine sw_seq ?_
  -- region 0 tree.go:87
  refine sw_region [(0, 0), (1, 0)] rfl rfl rfl ?_
  refine sd_ev rfl rfl rfl (ev_box rfl rfl) ?_
  rintro _ w1 ⟨b1, rfl, hbw1, Bw1, Gw1⟩
  have z3 := Gw1.size
  have lt4 := Bw1.lt
  refine sd_ev rfl rfl rfl (ev_alloc (cs := [.int .i64 0]) zv_180 rfl) ?_
  rintro _ w2 ⟨b2, rfl, hbw2, Bw2, Gw2⟩
  have z5 := Gw2.size
  have lt6 := Bw2.lt
  refine sd_done ?_
  refine sw_seq ?_
  refine sw_seq ?_
  -- region 1 tree.go:88
  refine sw_region [(0, 0)] rfl rfl rfl ?_
  refine sd_vv rfl rfl rfl (vv_move rfl) ?_
  refine sd_done ?_
  refine sw_block ?_
  have B7 := (Bx.gr (Bx.gr hbp0_0 Gw1) Gw2)
  have B8 := (Bx.gr (Bx.gr hbp0_1 Gw1) Gw2)
  have hb := bnd hm; clear hm; obtain ⟨l1, hl1, hm⟩ := hb
  have X9 : Gr w w2 := (Gr.trans (Gr.trans (Gr.refl w) Gw1) Gw2)
  have B10 := (Bx.gr Bw1 Gw2)
  refine sw_rangeFunc (gf := 239) rfl en_239 (cover_path_1_it p0_0 p0_1 _ _ _ hl1 _ B7 B8) (by intro x hx; obtain ⟨a, _, rfl⟩ := List.mem_map.1 hx; rfl) rfl _ _ ([b2]) (stb_mk (α := Int) (fun a3 rk => itL (cover_first_cover_path_1_cover_tree_special_R1 p1_0) cover_first_cover_path_1_cover_tree_special_D1 (List.drop rk l1) a3 = some r) (fun a3 => ([b2])) (fun a3 W => Bx W b2 180 ([.int .i64 a3]) ∧ True) (by rintro a3 W ⟨F0, _⟩ b hb; have q0 := F0.lt; replace hb : b ∈ ([b2]) := hb; simp only [List.mem_cons, List.mem_append, mem_zf, List.not_mem_nil, or_false, false_or, not_or, ne_eq, List.nil_append, List.cons_append, true_and, and_true, false_and, and_false, not_true_eq_false, not_false_eq_true, or_true, true_or] at hb; omega) (by rintro a3 W W' ⟨F0, _⟩ E hs; replace hs : ∀ b ∈ ([b2]), W'.heap[b]? = W.heap[b]? := hs; exact ⟨(hs _ (by simp)).trans F0, trivial⟩)) (fun c => (stb_c (c = .ret) (stb_mk (α := Int) (fun a3 rk => cover_first_cover_path_1_cover_tree_special_X1_0 a3 = some r) (fun a3 => ([b2])) (fun a3 W => Bx W b2 180 ([.int .i64 a3]) ∧ True) (by rintro a3 W ⟨F0, _⟩ b hb; have q0 := F0.lt; replace hb : b ∈ ([b2]) := hb; simp only [List.mem_cons, List.mem_append, mem_zf, List.not_mem_nil, or_false, false_or, not_or, ne_eq, List.nil_append, List.cons_append, true_and, and_true, false_and, and_false, not_true_eq_false, not_false_eq_true, or_true, true_or] at hb; omega) (by rintro a3 W W' ⟨F0, _⟩ E hs; replace hs : ∀ b ∈ ([b2]), W'.heap[b]? = W.heap[b]? := hs; exact ⟨(hs _ (by simp)).trans F0, trivial⟩)))) (by intro b hb; simp only [List.mem_cons, List.mem_append, mem_zf, List.not_mem_nil, or_false, false_or, not_or, ne_eq, List.nil_append, List.cons_append, true_and, and_true, false_and, and_false, not_true_eq_false, not_false_eq_true, or_true, true_or] at hb ⊢; omega) ⟨0, hm, rfl, Bw2, trivial⟩ ?_ ?_ ?_
  · rintro l rk x fp w3 hl hx _ Kw3 hF hln hlt
    clear hm
    obtain ⟨e4, hxe, rfl⟩ := map_some hx
    have Zw3 : Kz [(1, b2)] w2 w3 := kz_of_kp Kw3 (by intro k hk; simp only [Nin, and_true, List.mem_cons, List.mem_append, mem_zf, List.not_mem_nil, or_false, false_or, not_or, ne_eq, List.nil_append, List.cons_append, true_and, and_true, false_and, and_false, not_true_eq_false, not_false_eq_true, or_true, true_or] at hk ⊢; omega)
    have z11 := Kw3.size
    -- region 2 tree.go:88
    refine sw_region [(0, 0)] rfl rfl rfl ?_
    refine sd_vv rfl rfl rfl (vv_assign rfl) ?_
    refine sd_nil ?_
    refine ⟨rfl, (Gr.refl _), ?_⟩
    rintro w4 Mw4 ⟨a3, hm, rfl, Fw4_0, -⟩
    have z12 := Mw4.size
    have lt13 := Fw4_0.lt
    replace hm := itL_at hm hxe
    generalize hnx1 : itL (cover_first_cover_path_1_cover_tree_special_R1 p1_0) cover_first_cover_path_1_cover_tree_special_D1 (List.drop (rk + 1) l1) = nx1 at hm
    unfold cover_first_cover_path_1_cover_tree_special_R1 at hm
    try dsimp only at hm
    refine sw_block ?_
    refine sw_seq ?_
    -- region 3 tree.go:89
    refine sw_region [(0, 0), (1, 0), (2, 0)] rfl rfl rfl ?_
    have B14 := (Bx.md (Bx.kz B10 Zw3) Mw4)
    refine sd_vv rfl rfl rfl (vv_load1 one_185 rfl B14 rfl) ?_
    refine sd_vv rfl rfl rfl (vv_move rfl) ?_
    have hb := bnd hm; clear hm; obtain ⟨x5, hx5, hm⟩ := hb
    refine sd_ev rfl rfl rfl (ev_callV en_118 rfl rfl (cover_tree_special_w p1_0 e4 _ hx5 _)) ?_
    rintro _ w5 ⟨rfl, Gw5⟩
    have z15 := Gw5.size
    refine sd_done ?_
    refine sw_cond rfl (fun c1 => ?_) (fun c1 => ?_)
    ·
      replace hm := cnd_t c1 hm
      refine sw_seq ?_
      -- region 4 tree.go:90
      refine sw_region [(0, 0), (1, 0)] rfl rfl rfl ?_
      refine sd_vv rfl rfl rfl (vv_move rfl) ?_
      have B16 := (Bx.gr Fw4_0 Gw5)
      refine sd_ev rfl rfl rfl (ev_st1 (cs' := [.int .i64 e4]) (one_180).siz rfl rfl rfl B16 rfl rfl) ?_
      rintro _ w6 ⟨Bw6, Mw6⟩
      have z17 := Mw6.size
      refine sd_done ?_
      refine sw_ret ?_
      refine block_r ?_
      have K_18 : Kz [(1, b2)] w4 w6 := (Kz.md (Kz.gr (Kz.refl _ _) Gw5) Mw6)
      have Kq18 : Kp ([b2]) w4 w6 := kp_of_kz K_18 (by intro k hk; simp only [Nin, and_true, List.mem_cons, List.mem_append, mem_zf, List.not_mem_nil, or_false, false_or, not_or, ne_eq, List.nil_append, List.cons_append, true_and, and_true, false_and, and_false, not_true_eq_false, not_false_eq_true, or_true, true_or] at hk ⊢; omega)
      exact ⟨Kq18, ([b2]), (by intro c hc; simp only [List.mem_cons, List.mem_append, mem_zf, List.not_mem_nil, or_false, false_or, not_or, ne_eq, List.nil_append, List.cons_append, true_and, and_true, false_and, and_false, not_true_eq_false, not_false_eq_true, or_true, true_or] at hc ⊢; omega), ⟨rfl, e4, hm, rfl, Bw6, trivial⟩⟩
    ·
      replace hm := cnd_f c1 hm
      refine sw_skip ?_
      refine block_n ?_
      have B20 := (Bx.gr Fw4_0 Gw5)
      have K_19 : Kz [(1, b2)] w4 w5 := (Kz.gr (Kz.refl _ _) Gw5)
      have Kq19 : Kp ([b2]) w4 w5 := kp_of_kz K_19 (by intro k hk; simp only [Nin, and_true, List.mem_cons, List.mem_append, mem_zf, List.not_mem_nil, or_false, false_or, not_or, ne_eq, List.nil_append, List.cons_append, true_and, and_true, false_and, and_false, not_true_eq_false, not_false_eq_true, or_true, true_or] at hk ⊢; omega)
      subst hnx1
      exact ⟨Kq19, ([b2]), (by intro c hc; simp only [List.mem_cons, List.mem_append, mem_zf, List.not_mem_nil, or_false, false_or, not_or, ne_eq, List.nil_append, List.cons_append, true_and, and_true, false_and, and_false, not_true_eq_false, not_false_eq_true, or_true, true_or] at hc ⊢; omega), ⟨a3, hm, rfl, B20, trivial⟩⟩
  · clear hm; rintro Dw7 fp w7 hDw7 Dfw7 nw7 ⟨a3, hm, rfl, Fw7_0, -⟩ Kw7
    replace hm := itL_end hm
    have Zw7 : Kz [(1, b2)] w2 w7 := kz_of_kp Kw7 (by intro k hk; simp only [Nin, and_true, List.mem_cons, List.mem_append, mem_zf, List.not_mem_nil, or_false, false_or, not_or, ne_eq, List.nil_append, List.cons_append, true_and, and_true, false_and, and_false, not_true_eq_false, not_false_eq_true, or_true, true_or] at hk ⊢; omega)
    have z21 := Kw7.size
    have lt22 := Df.lt (w := w7) Dfw7
    simp only [List.mem_cons, List.mem_append, mem_zf, List.not_mem_nil, or_false, false_or, not_or, ne_eq, List.nil_append, List.cons_append, true_and, and_true, false_and, and_false, not_true_eq_false, not_false_eq_true, or_true, true_or, not_and] at nw7
    have lt23 := Fw7_0.lt
    unfold cover_first_cover_path_1_cover_tree_special_D1 at hm
    try dsimp only at hm
    refine block_n ?_
    refine then_n ?_
    refine sw_seq ?_
    -- region 5 tree.go:93
    refine sw_region [(0, 0)] rfl rfl rfl ?_
    refine sd_ev rfl rfl rfl (ev_st1 (cs' := [.int .i64 0]) (one_180).siz rfl rfl rfl Fw7_0 rfl rfl) ?_
    rintro _ w8 ⟨Bw8, Mw8⟩
    have z24 := Mw8.size
    refine sd_done ?_
    refine sw_ret ?_
    have DL25 := (Df.md Dfw7 Mw8)
    have L25 := Md.put (w := w8) Dw7 (.deferred none)
    have zL25 := L25.size
    have B26 := (Bx.md Bw8 L25)
    have X27 : Gr w (w8.putObj Dw7 (.deferred none)) := (Gr.md (Gr.md (Gr.kz X9 Zw7) Mw8) L25)
    have hr := Option.some.inj hm
    subst hr
    refine ⟨_, _, ⟨Dw7, rfl, DL25, rfl⟩, res_1 rfl (rv_cell1 one_180 rfl B26), ?_⟩
    exact ⟨rfl, X27⟩
  · clear hm; rintro Dw9 c rk fp w9 hDw9 Dfw9 nw9 hle ⟨rfl, a3, hm, rfl, Fw9_0, -⟩ Kw9
    have Zw9 : Kz [(1, b2)] w2 w9 := kz_of_kp Kw9 (by intro k hk; simp only [Nin, and_true, List.mem_cons, List.mem_append, mem_zf, List.not_mem_nil, or_false, false_or, not_or, ne_eq, List.nil_append, List.cons_append, true_and, and_true, false_and, and_false, not_true_eq_false, not_false_eq_true, or_true, true_or] at hk ⊢; omega)
    have z28 := Kw9.size
    have lt29 := Df.lt (w := w9) Dfw9
    simp only [List.mem_cons, List.mem_append, mem_zf, List.not_mem_nil, or_false, false_or, not_or, ne_eq, List.nil_append, List.cons_append, true_and, and_true, false_and, and_false, not_true_eq_false, not_false_eq_true, or_true, true_or, not_and] at nw9
    have lt30 := Fw9_0.lt
    unfold cover_first_cover_path_1_cover_tree_special_X1_0 at hm
    try dsimp only at hm
    refine sw_ret ?_
    refine block_r ?_
    refine then_r ?_
    have DL31 := Dfw9
    have L31 := Md.put (w := w9) Dw9 (.deferred none)
    have zL31 := L31.size
    have B32 := (Bx.md Fw9_0 L31)
    have X33 : Gr w (w9.putObj Dw9 (.deferred none)) := (Gr.md (Gr.kz X9 Zw9) L31)
    have hr := Option.some.inj hm
    subst hr
    refine ⟨_, _, ⟨Dw9, rfl, DL31, rfl⟩, res_1 rfl (rv_cell1 one_180 rfl B32), ?_⟩
    exact ⟨rfl, X33⟩

set_option maxHeartbeats 2000000 in
theorem cover_tree_cut_w (p0 : Tcover_tree) (p1 : Int) (p2 : Int)  (r : Int) (hm : cover_tree_cut p0 p1 p2 = some r) (w : World)   :
    Calls Tryz.prog 117 [.agg (Tcover_tree.cs p0).toArray, .int .i64 p1, .int .i64 p2].toArray w fun e w' => ∃ v, e = .returned v ∧ (v = .int .i64 r ∧ Gr w w') := by
  unfold cover_tree_cut at hm
  refine calls_of_sw (R := fun v w' => v = .int .i64 r ∧ Gr w w') 14 Tryz.func117 rfl rfl rfl ?_
  refine sw_seq ?_
  -- region 0 tree.go:97
  refine sw_region [(0, 0), (1, 0)] rfl rfl rfl ?_
  refine sd_ev rfl rfl rfl (ev_box (cs := Tcover_tree.cs p0) rfl rfl) ?_
  rintro _ w1 ⟨b1, rfl, hbw1, Bw1, Gw1⟩
  have z1 := Gw1.size
  have lt2 := Bw1.lt
  refine sd_vv rfl rfl rfl (vv_assign rfl) ?_
  refine sd_done ?_
  refine sw_seq ?_
  -- region 1 tree.go:97 DRAWS
  refine sw_drawN [([])] [] (.leaf [(0, 10), (1, 10), (2, 10), (4, 10), (5, 10), (3, 0), (6, 0), (7, 10)]) (by kernel_rfl) (by kernel_rfl) rfl (by kernel_rfl) ?_
  intro w2 Gw2 zw2
  refine sdz_leaf ?_
  refine dd_hn 0 rfl rfl rfl rfl (Kp.refl ([]) w2) (fun w hS => vv_move rfl) ?_
  refine dd_hn 0 rfl rfl rfl rfl (Kp.refl ([]) w2) (fun w hS => vv_move rfl) ?_
  have hb := bnd hm; clear hm; obtain ⟨n1, hn1, hm⟩ := hb
  refine dd_hn 0 rfl rfl rfl rfl (Kp.refl ([]) w2) (fun w hS => vv_shrI (a := p2) (b := (un 1#64)) rfl rfl hn1) ?_
  have B3 := (Bx.gr Bw1 Gw2)
  refine dd_hn 0 rfl rfl rfl rfl (Kp.refl ([]) w2) (fun w hS => vv_loadW agg_175 rfl (Bx.kp B3 hS) rfl) ?_
  refine dd_hn 0 rfl rfl rfl rfl (Kp.refl ([]) w2) (fun w hS => vv_makeFunc rfl rfl) ?_
  have hb := bnd hm; clear hm; obtain ⟨x2, hx2, hm⟩ := hb
  refine dd_z [] rfl rfl rfl (ev_call en_191 rfl (cover_path_w p1 (shrI p2 n1) _ hx2 _)) ⟨fun _ => tk0, trivial⟩ ?_
  rintro _ w3 ⟨k3_c0_0, k3_c0_1, rfl, O3_c0_0, f3_c0_0, O3_c0_1, f3_c0_1, Gw3⟩
  have z4 := Gw3.size
  have lt5 := O3_c0_0.lt
  have lt6 := O3_c0_1.lt
  refine ⟨Kz.ofGr Gw3, ?_⟩
  have hb := bnd hm; clear hm; obtain ⟨x3, hx3, hm⟩ := hb
  refine dd_z [] rfl rfl rfl (ev_call en_190 rfl (cover_first_cover_path_1_cover_tree_special_w x2.1 x2.2 p0 _ _ _ hx3 _ O3_c0_0 O3_c0_1)) ⟨fun _ => tk0, trivial⟩ ?_
  rintro _ w4 ⟨rfl, Gw4⟩
  have z7 := Gw4.size
  refine ⟨Kz.ofGr Gw4, ?_⟩
  have S8 := (Kp.gr (Kp.gr (Kp.refl ([]) w2) Gw3) Gw4)
  refine dd_hn 0 rfl rfl rfl rfl S8 (fun w hS => vv_assign rfl) ?_
  refine sd_done ?_
  refine sw_ret ?_
  have X9 : Gr w w4 := (Gr.trans (Gr.trans (Gr.trans (Gr.trans (Gr.refl w) Gw1) Gw2) Gw3) Gw4)
  have hr := Option.some.inj hm
  subst hr
  refine ⟨_, _, rfl, res_1 rfl (rv_tmp rfl), ?_⟩
  exact ⟨rfl, X9⟩

set_option maxHeartbeats 2000000 in
theorem cover_tree_subset_w (p0 : Tcover_tree) (p1 : TSubset)  (r : Bool) (hm : cover_tree_subset p0 p1 = some r) (w : World)   :
    Calls Tryz.prog 124 [.agg (Tcover_tree.cs p0).toArray, .agg (TSubset.cs p1).toArray].toArray w fun e w' => ∃ v, e = .returned v ∧ (v = .bool r ∧ Gr w w') := by
  unfold cover_tree_subset at hm
  refine calls_of_sw (R := fun v w' => v = .bool r ∧ Gr w w') 68 Tryz.func124 rfl rfl rfl ?_
  refine sw_seq ?_
  -- region 0 tree.go:100
  refine sw_region [(0, 0), (1, 0), (2, 0)] rfl rfl rfl ?_
  refine sd_ev rfl rfl rfl (ev_box (cs := Tcover_tree.cs p0) rfl rfl) ?_
  rintro _ w1 ⟨b1, rfl, hbw1, Bw1, Gw1⟩
  have z1 := Gw1.size
  have lt2 := Bw1.lt
  refine sd_ev rfl rfl rfl (ev_box (cs := TSubset.cs p1) rfl rfl) ?_
  rintro _ w2 ⟨b2, rfl, hbw2, Bw2, Gw2⟩
  have z3 := Gw2.size
  have lt4 := Bw2.lt
  refine sd_vv rfl rfl rfl (vv_assign rfl) ?_
  refine sd_done ?_
  refine sw_seq ?_
  -- region 1 tree.go:101 DRAWS
  refine sw_drawN [([])] [] (.leaf [(0, 10), (1, 10), (2, 10), (3, 10), (4, 10), (5, 10)]) (by kernel_rfl) (by kernel_rfl) rfl (by kernel_rfl) ?_
  intro w3 Gw3 zw3
  refine sdz_leaf ?_
  refine dd_hn 0 rfl rfl rfl rfl (Kp.refl ([]) w3) (fun w hS => vv_fieldAddr fa_131_0 rfl) ?_
  have B5 := (Bx.gr Bw2 Gw3)
  refine dd_hn 0 rfl rfl rfl rfl (Kp.refl ([]) w3) (fun w hS => vv_load1 (v := .int .i64 p1.Node) one_3 rfl (Bx.kp B5 hS) rfl) ?_
  refine dd_hn 0 rfl rfl rfl rfl (Kp.refl ([]) w3) (fun w hS => vv_fieldAddr fa_131_1 rfl) ?_
  refine dd_hn 0 rfl rfl rfl rfl (Kp.refl ([]) w3) (fun w hS => vv_load1 (v := .int .i64 p1.Minus) one_3 rfl (Bx.kp B5 hS) rfl) ?_
  refine dd_hn 0 rfl rfl rfl rfl (Kp.refl ([]) w3) (fun w hS => vv_assign rfl) ?_
  refine dd_hn 0 rfl rfl rfl rfl (Kp.refl ([]) w3) (fun w hS => vv_assign rfl) ?_
  refine sd_done ?_
  refine sw_seq ?_
  refine sw_block ?_
  refine sw_seq ?_
  -- region 2 tree.go:103
  refine sw_region [(0, 0), (1, 0), (2, 0), (3, 0), (4, 0), (5, 0)] rfl rfl rfl ?_
  have B6 := (Bx.gr (Bx.gr Bw1 Gw2) Gw3)
  refine sd_vv rfl rfl rfl (vv_loadW agg_175 rfl B6 rfl) ?_
  refine sd_vv rfl rfl rfl (vv_fieldAddr fa_131_0 rfl) ?_
  refine sd_vv rfl rfl rfl (vv_load1 (v := .int .i64 p1.Node) one_3 rfl B5 rfl) ?_
  have hb := bnd hm; clear hm; obtain ⟨x1, hx1, hm⟩ := hb
  refine sd_ev rfl rfl rfl (ev_call en_198 rfl (cover_tree_has_w p0 p1.Node _ hx1 _)) ?_
  rintro _ w4 ⟨rfl, Gw4⟩
  have z7 := Gw4.size
  refine sd_vv rfl rfl rfl (vv_not rfl) ?_
  refine sd_vv rfl rfl rfl (vv_assign rfl) ?_
  refine sd_done ?_
  refine sw_cond rfl (fun c1 => ?_) (fun c1 => ?_)
  ·
    replace hm := cnd_t c1 hm
    refine sw_seq ?_
    -- region 3 tree.go:104
    refine sw_region [(0, 0)] rfl rfl rfl ?_
    refine sd_vv rfl rfl rfl (vv_assign rfl) ?_
    refine sd_done ?_
    refine sw_ret ?_
    refine block_r ?_
    refine then_r ?_
    have X8 : Gr w w4 := (Gr.trans (Gr.trans (Gr.trans (Gr.trans (Gr.refl w) Gw1) Gw2) Gw3) Gw4)
    have hr := Option.some.inj hm
    subst hr
    refine ⟨_, _, rfl, res_1 rfl (rv_tmp rfl), ?_⟩
    exact ⟨rfl, X8⟩
  ·
    replace hm := cnd_f c1 hm
    have X9 : Gr w w4 := (Gr.trans (Gr.trans (Gr.trans (Gr.trans (Gr.refl w) Gw1) Gw2) Gw3) Gw4)
    refine sw_joinD (β := Bool) [17, 18, 19, 20, 21, 22, 23, 24] (fun a2 => [(17, .bool a2)]) (fun a2 wr => (cover_tree_subset_J1 p0 p1 a2 = some r) ∧ Kz [] w4 wr) ?_ ?_
    · clear hm; rintro a2 w5 ⟨hm, Kw5⟩
      have z10 := Kw5.size
      unfold cover_tree_subset_J1 at hm
      refine sw_cond rfl (fun c2 => ?_) (fun c2 => ?_)
      ·
        replace hm := cnd_t c2 hm
        refine sw_seq ?_
        -- region 5 tree.go:106
        refine sw_region [(0, 0), (1, 0), (2, 0), (3, 0), (4, 0), (5, 0), (6, 0), (7, 0), (8, 0), (9, 0), (10, 0), (11, 0)] rfl rfl rfl ?_
        refine sd_vv rfl rfl rfl (vv_move rfl) ?_
        refine sd_vv rfl rfl rfl (vv_eql (a := p1.Minus) (b := 0) rfl rfl) ?_
        refine sd_split rfl rfl rfl (vv_move rfl) (fun c3 => ?_) (fun c3 => ?_)
        ·
          replace hm := ite_t (of_decide_eq_true c3) hm
          refine sd_vv rfl rfl rfl (vv_fieldAddr fa_175_0 rfl) ?_
          have B11 := (Bx.kz (Bx.gr B6 Gw4) Kw5)
          refine sd_vv rfl rfl rfl (vv_load1 (v := bv p0.kind) one_5 rfl B11 rfl) ?_
          refine sd_vv rfl rfl rfl (vv_eqlB (p := p0.kind) (q := 1#8) rfl rfl) ?_
          refine sd_split rfl rfl rfl (vv_move rfl) (fun c4 => ?_) (fun c4 => ?_)
          ·
            replace hm := ite_t (of_decide_eq_true c4) hm
            refine sd_skip rfl rfl rfl ?_
            refine sd_skip rfl rfl rfl ?_
            refine sd_vv rfl rfl rfl (vv_pickT rfl rfl) ?_
            refine sd_vv rfl rfl rfl (vv_pickT rfl rfl) ?_
            refine sd_vv rfl rfl rfl (vv_assign rfl) ?_
            refine sd_done ?_
            refine sw_ret ?_
            refine block_r ?_
            refine then_r ?_
            have X12 : Gr w w5 := (Gr.kz X9 Kw5)
            have hr := Option.some.inj hm
            subst hr
            refine ⟨_, _, rfl, res_1 rfl (rv_tmp rfl), ?_⟩
            exact ⟨rfl, X12⟩
          ·
            replace hm := ite_f (of_decide_eq_false c4) hm
            refine sd_vv rfl rfl rfl (vv_move rfl) ?_
            refine sd_vv rfl rfl rfl (vv_eql (a := p1.Node) (b := 1) rfl rfl) ?_
            refine sd_vv rfl rfl rfl (vv_pickF rfl rfl) ?_
            refine sd_vv rfl rfl rfl (vv_pickT rfl rfl) ?_
            refine sd_vv rfl rfl rfl (vv_assign rfl) ?_
            refine sd_done ?_
            refine sw_ret ?_
            refine block_r ?_
            refine then_r ?_
            have X13 : Gr w w5 := (Gr.kz X9 Kw5)
            have hr := Option.some.inj hm
            subst hr
            refine ⟨_, _, rfl, res_1 rfl (rv_tmp rfl), ?_⟩
            exact ⟨rfl, X13⟩
        ·
          replace hm := ite_f (of_decide_eq_false c3) hm
          refine sd_skip rfl rfl rfl ?_
          refine sd_skip rfl rfl rfl ?_
          refine sd_skip rfl rfl rfl ?_
          refine sd_skip rfl rfl rfl ?_
          refine sd_skip rfl rfl rfl ?_
          refine sd_skip rfl rfl rfl ?_
          refine sd_skip rfl rfl rfl ?_
          refine sd_vv rfl rfl rfl (vv_pickF rfl rfl) ?_
          refine sd_vv rfl rfl rfl (vv_assign rfl) ?_
          refine sd_done ?_
          refine sw_ret ?_
          refine block_r ?_
          refine then_r ?_
          have X14 : Gr w w5 := (Gr.kz X9 Kw5)
          have hr := Option.some.inj hm
          subst hr
          refine ⟨_, _, rfl, res_1 rfl (rv_tmp rfl), ?_⟩
          exact ⟨rfl, X14⟩
      ·
        replace hm := cnd_f c2 hm
        have X15 : Gr w w5 := (Gr.kz X9 Kw5)
        refine sw_joinD (β := Bool) [36, 37, 38, 39, 40, 41, 42, 43, 44, 45, 46, 47, 48, 49, 50, 51, 52] (fun a3 => [(36, .bool a3)]) (fun a3 wr => (cover_tree_subset_J2 p0 p1 a3 = some r) ∧ Kz [] w5 wr) ?_ ?_
        · clear hm; rintro a3 w6 ⟨hm, Kw6⟩
          have z16 := Kw6.size
          unfold cover_tree_subset_J2 at hm
          refine sw_cond rfl (fun c5 => ?_) (fun c5 => ?_)
          ·
            replace hm := cnd_t c5 hm
            refine sw_seq ?_
            -- region 7 tree.go:108
            refine sw_region [(0, 0)] rfl rfl rfl ?_
            refine sd_vv rfl rfl rfl (vv_assign rfl) ?_
            refine sd_done ?_
            refine sw_ret ?_
            refine block_r ?_
            refine then_r ?_
            have X17 : Gr w w6 := (Gr.kz X15 Kw6)
            have hr := Option.some.inj hm
            subst hr
            refine ⟨_, _, rfl, res_1 rfl (rv_tmp rfl), ?_⟩
            exact ⟨rfl, X17⟩
          ·
            replace hm := cnd_f c5 hm
            refine sw_skip ?_
            refine block_n ?_
            refine then_n ?_
            refine sw_seq ?_
            -- region 8 tree.go:110
            refine sw_region [(0, 0), (1, 0), (2, 0), (3, 0), (4, 0), (5, 0), (6, 0), (7, 0), (8, 0), (9, 0), (10, 0), (11, 0), (12, 0), (13, 0), (14, 0), (15, 0)] rfl rfl rfl ?_
            refine sd_vv rfl rfl rfl (vv_fieldAddr fa_175_0 rfl) ?_
            have B18 := (Bx.kz (Bx.kz (Bx.gr B6 Gw4) Kw5) Kw6)
            refine sd_vv rfl rfl rfl (vv_load1 (v := bv p0.kind) one_5 rfl B18 rfl) ?_
            refine sd_vv rfl rfl rfl (vv_eqlB (p := p0.kind) (q := 2#8) rfl rfl) ?_
            refine sd_split rfl rfl rfl (vv_move rfl) (fun c6 => ?_) (fun c6 => ?_)
            ·
              replace hm := ite_t (of_decide_eq_true c6) hm
              refine sd_skip rfl rfl rfl ?_
              refine sd_skip rfl rfl rfl ?_
              refine sd_skip rfl rfl rfl ?_
              refine sd_vv rfl rfl rfl (vv_pickT rfl rfl) ?_
              refine sd_vv rfl rfl rfl (vv_move rfl) ?_
              refine sd_skip rfl rfl rfl ?_
              refine sd_skip rfl rfl rfl ?_
              refine sd_skip rfl rfl rfl ?_
              refine sd_skip rfl rfl rfl ?_
              refine sd_skip rfl rfl rfl ?_
              refine sd_vv rfl rfl rfl (vv_pickT rfl rfl) ?_
              refine sd_vv rfl rfl rfl (vv_assign rfl) ?_
              refine sd_done ?_
              refine sw_ret ?_
              have X19 : Gr w w6 := (Gr.kz X15 Kw6)
              have hr := Option.some.inj hm
              subst hr
              refine ⟨_, _, rfl, res_1 rfl (rv_tmp rfl), ?_⟩
              exact ⟨rfl, X19⟩
            ·
              replace hm := ite_f (of_decide_eq_false c6) hm
              refine sd_vv rfl rfl rfl (vv_loadW agg_175 rfl B18 rfl) ?_
              refine sd_vv rfl rfl rfl (vv_move rfl) ?_
              have hb := bnd hm; clear hm; obtain ⟨x4, hx4, hm⟩ := hb
              refine sd_ev rfl rfl rfl (ev_call en_118 rfl (cover_tree_special_w p0 p1.Node _ hx4 _)) ?_
              rintro _ w7 ⟨rfl, Gw7⟩
              have z20 := Gw7.size
              refine sd_vv rfl rfl rfl (vv_pickF rfl rfl) ?_
              refine sd_split rfl rfl rfl (vv_move rfl) (fun c7 => ?_) (fun c7 => ?_)
              ·
                replace hm := cnd_t c7 hm
                refine sd_skip rfl rfl rfl ?_
                refine sd_skip rfl rfl rfl ?_
                refine sd_skip rfl rfl rfl ?_
                refine sd_skip rfl rfl rfl ?_
                refine sd_skip rfl rfl rfl ?_
                refine sd_vv rfl rfl rfl (vv_pickT rfl rfl) ?_
                refine sd_vv rfl rfl rfl (vv_assign rfl) ?_
                refine sd_done ?_
                refine sw_ret ?_
                have X21 : Gr w w7 := (Gr.trans (Gr.kz X15 Kw6) Gw7)
                have hr := Option.some.inj hm
                subst hr
                refine ⟨_, _, rfl, res_1 rfl (rv_tmp rfl), ?_⟩
                exact ⟨rfl, X21⟩
              ·
                replace hm := cnd_f c7 hm
                have B22 := (Bx.gr B18 Gw7)
                refine sd_vv rfl rfl rfl (vv_loadW agg_175 rfl B22 rfl) ?_
                refine sd_vv rfl rfl rfl (vv_move rfl) ?_
                refine sd_vv rfl rfl rfl (vv_move rfl) ?_
                have hb := bnd hm; clear hm; obtain ⟨x5, hx5, hm⟩ := hb
                refine sd_ev rfl rfl rfl (ev_call en_117 rfl (cover_tree_cut_w p0 p1.Node p1.Minus _ hx5 _)) ?_
                rintro _ w8 ⟨rfl, Gw8⟩
                have z23 := Gw8.size
                refine sd_vv rfl rfl rfl (vv_eql (a := x5) (b := 0) rfl rfl) ?_
                refine sd_vv rfl rfl rfl (vv_pickF rfl rfl) ?_
                refine sd_vv rfl rfl rfl (vv_assign rfl) ?_
                refine sd_done ?_
                refine sw_ret ?_
                have X24 : Gr w w8 := (Gr.trans (Gr.trans (Gr.kz X15 Kw6) Gw7) Gw8)
                have hr := Option.some.inj hm
                subst hr
                refine ⟨_, _, rfl, res_1 rfl (rv_tmp rfl), ?_⟩
                exact ⟨rfl, X24⟩
        ·
          -- region 6 tree.go:107
          refine sw_region [(0, 0), (1, 0), (2, 0), (3, 0), (4, 0), (5, 0), (6, 0), (7, 0), (8, 0), (9, 0), (10, 0), (11, 0), (12, 0), (13, 0), (14, 0), (15, 0), (16, 0)] rfl rfl rfl ?_
          have B25 := (Bx.kz (Bx.gr B6 Gw4) Kw5)
          refine sd_vv rfl rfl rfl (vv_loadW agg_175 rfl B25 rfl) ?_
          refine sd_vv rfl rfl rfl (vv_fieldAddr fa_131_1 rfl) ?_
          have B26 := (Bx.kz (Bx.gr B5 Gw4) Kw5)
          refine sd_vv rfl rfl rfl (vv_load1 (v := .int .i64 p1.Minus) one_3 rfl B26 rfl) ?_
          have hb := bnd hm; clear hm; obtain ⟨x6, hx6, hm⟩ := hb
          refine sd_ev rfl rfl rfl (ev_call en_198 rfl (cover_tree_has_w p0 p1.Minus _ hx6 _)) ?_
          rintro _ w9 ⟨rfl, Gw9⟩
          have z27 := Gw9.size
          refine sd_vv rfl rfl rfl (vv_not rfl) ?_
          refine sd_split rfl rfl rfl (vv_move rfl) (fun c8 => ?_) (fun c8 => ?_)
          ·
            replace hm := cnd_t c8 hm
            refine sd_skip rfl rfl rfl ?_
            refine sd_skip rfl rfl rfl ?_
            refine sd_skip rfl rfl rfl ?_
            refine sd_vv rfl rfl rfl (vv_pickT rfl rfl) ?_
            refine sd_vv rfl rfl rfl (vv_move rfl) ?_
            refine sd_skip rfl rfl rfl ?_
            refine sd_skip rfl rfl rfl ?_
            refine sd_skip rfl rfl rfl ?_
            refine sd_skip rfl rfl rfl ?_
            refine sd_vv rfl rfl rfl (vv_pickT rfl rfl) ?_
            refine sd_vv rfl rfl rfl (vv_assign rfl) ?_
            refine sd_nil ?_
            have K_28 : Kz [] w5 w9 := (Kz.gr (Kz.refl _ _) Gw9)
            refine ⟨rfl, true, ?_, hm, K_28⟩
            repeat' first | exact trivial | refine ⟨rfl, ?_⟩
          ·
            replace hm := cnd_f c8 hm
            refine sd_vv rfl rfl rfl (vv_move rfl) ?_
            refine sd_vv rfl rfl rfl (vv_move rfl) ?_
            refine sd_vv rfl rfl rfl (vv_eql (a := p1.Minus) (b := p1.Node) rfl rfl) ?_
            refine sd_vv rfl rfl rfl (vv_pickF rfl rfl) ?_
            refine sd_split rfl rfl rfl (vv_move rfl) (fun c9 => ?_) (fun c9 => ?_)
            ·
              replace hm := ite_t (of_decide_eq_true c9) hm
              refine sd_skip rfl rfl rfl ?_
              refine sd_skip rfl rfl rfl ?_
              refine sd_skip rfl rfl rfl ?_
              refine sd_skip rfl rfl rfl ?_
              refine sd_vv rfl rfl rfl (vv_pickT rfl rfl) ?_
              refine sd_vv rfl rfl rfl (vv_assign rfl) ?_
              refine sd_nil ?_
              have K_29 : Kz [] w5 w9 := (Kz.gr (Kz.refl _ _) Gw9)
              refine ⟨rfl, true, ?_, hm, K_29⟩
              repeat' first | exact trivial | refine ⟨rfl, ?_⟩
            ·
              replace hm := ite_f (of_decide_eq_false c9) hm
              refine sd_vv rfl rfl rfl (vv_move rfl) ?_
              refine sd_vv rfl rfl rfl (vv_move rfl) ?_
              have hb := bnd hm; clear hm; obtain ⟨x7, hx7, hm⟩ := hb
              refine sd_ev rfl rfl rfl (ev_call en_199 rfl (cover_node_below_w p1.Minus p1.Node _ hx7 _)) ?_
              rintro _ w10 ⟨rfl, Gw10⟩
              have z30 := Gw10.size
              refine sd_vv rfl rfl rfl (vv_not rfl) ?_
              refine sd_vv rfl rfl rfl (vv_pickF rfl rfl) ?_
              refine sd_vv rfl rfl rfl (vv_assign rfl) ?_
              refine sd_nil ?_
              have K_31 : Kz [] w5 w10 := (Kz.gr (Kz.gr (Kz.refl _ _) Gw9) Gw10)
              refine ⟨rfl, (!x7), ?_, hm, K_31⟩
              repeat' first | exact trivial | refine ⟨rfl, ?_⟩
    ·
      -- region 4 tree.go:105
      refine sw_region [(0, 0), (1, 0), (2, 0), (3, 0), (4, 0), (5, 0), (6, 0), (7, 0)] rfl rfl rfl ?_
      refine sd_vv rfl rfl rfl (vv_fieldAddr fa_175_0 rfl) ?_
      have B32 := (Bx.gr B6 Gw4)
      refine sd_vv rfl rfl rfl (vv_load1 (v := bv p0.kind) one_5 rfl B32 rfl) ?_
      refine sd_vv rfl rfl rfl (vv_eqlB (p := p0.kind) (q := 1#8) rfl rfl) ?_
      refine sd_split rfl rfl rfl (vv_move rfl) (fun c10 => ?_) (fun c10 => ?_)
      ·
        replace hm := ite_t (of_decide_eq_true c10) hm
        refine sd_skip rfl rfl rfl ?_
        refine sd_skip rfl rfl rfl ?_
        refine sd_vv rfl rfl rfl (vv_pickT rfl rfl) ?_
        refine sd_vv rfl rfl rfl (vv_assign rfl) ?_
        refine sd_nil ?_
        have K_33 : Kz [] w4 w4 := (Kz.refl _ _)
        refine ⟨rfl, true, ?_, hm, K_33⟩
        repeat' first | exact trivial | refine ⟨rfl, ?_⟩
      ·
        replace hm := ite_f (of_decide_eq_false c10) hm
        refine sd_vv rfl rfl rfl (vv_move rfl) ?_
        refine sd_vv rfl rfl rfl (vv_eql (a := p1.Minus) (b := 0) rfl rfl) ?_
        refine sd_vv rfl rfl rfl (vv_pickF rfl rfl) ?_
        refine sd_vv rfl rfl rfl (vv_assign rfl) ?_
        refine sd_nil ?_
        have K_34 : Kz [] w4 w4 := (Kz.refl _ _)
        refine ⟨rfl, (decide (p1.Minus = 0)), ?_, hm, K_34⟩
        repeat' first | exact trivial | refine ⟨rfl, ?_⟩

set_option maxHeartbeats 2000000 in
theorem cover_enter_w (p0 : TScheme) (p1 : List TSubset) (vp1 : Value) (zp1 gp1 op1 : Nat) (r : Tcover_tree × Int) (hm : cover_enter p0 p1 = some r) (w : World) (hp1 : Rd w zp1 gp1 op1 2 vp1 (p1.map TSubset.cs))  :
    Calls Tryz.prog 112 [.agg (TScheme.cs p0).toArray, vp1].toArray w fun e w' => ∃ v, e = .returned v ∧ (v = .tuple [.agg (Tcover_tree.cs r.1).toArray, .int .i64 r.2].toArray ∧ Gr w w') := by
  have lt1 := hp1.lth
  unfold cover_enter at hm
  refine calls_of_sw (R := fun v w' => v = .tuple [.agg (Tcover_tree.cs r.1).toArray, .int .i64 r.2].toArray ∧ Gr w w') 31 Tryz.func112 rfl rfl rfl ?_
  refine sw_seq ?_
  -- region 0 cover.go:20
  refine sw_region [(0, 0), (1, 0), (2, 0)] rfl rfl rfl ?_
  refine sd_ev rfl rfl rfl (ev_box (cs := TScheme.cs p0) rfl rfl) ?_
  rintro _ w1 ⟨b1, rfl, hbw1, Bw1, Gw1⟩
  have z2 := Gw1.size
  have lt3 := Bw1.lt
  refine sd_ev rfl rfl rfl (ev_alloc (cs := Tcover_tree.cs (Tcover_tree.mk 0#8 0 0)) zv_175 rfl) ?_
  rintro _ w2 ⟨b2, rfl, hbw2, Bw2, Gw2⟩
  have z4 := Gw2.size
  have lt5 := Bw2.lt
  refine sd_vv rfl rfl rfl (vv_assign rfl) ?_
  refine sd_done ?_
  refine sw_seq ?_
  -- region 1 cover.go:21
  refine sw_region [(0, 0), (1, 0), (2, 0), (3, 0), (4, 0), (5, 0), (6, 0), (7, 0)] rfl rfl rfl ?_
  have B6 := (Bx.gr Bw1 Gw2)
  refine sd_vv rfl rfl rfl (vv_loadW agg_28 rfl B6 rfl) ?_
  have hb := bnd hm; clear hm; obtain ⟨x1, hx1, hm⟩ := hb
  refine sd_ev rfl rfl rfl (ev_call en_187 rfl (cover_treeOf_w p0 _ hx1 _)) ?_
  rintro _ w3 ⟨rfl, Gw3⟩
  have z7 := Gw3.size
  refine sd_vv rfl rfl rfl (vv_move rfl) ?_
  refine sd_vv rfl rfl rfl (vv_extract rfl rfl) ?_
  refine sd_vv rfl rfl rfl (vv_extract rfl rfl) ?_
  refine sd_ev rfl rfl rfl (ev_alloc (cs := Tcover_tree.cs (Tcover_tree.mk 0#8 0 0)) zv_175 rfl) ?_
  rintro _ w4 ⟨b4, rfl, hbw4, Bw4, Gw4⟩
  have z8 := Gw4.size
  have lt9 := Bw4.lt
  refine sd_ev rfl rfl rfl (ev_stM (cs' := Tcover_tree.cs x1.1) (vs := Tcover_tree.cs x1.1) (agg_175).siz rfl rfl rfl rfl rfl Bw4 rfl rfl) ?_
  rintro _ w5 ⟨Bw5, Mw5⟩
  have z10 := Mw5.size
  refine sd_vv rfl rfl rfl (vv_assign rfl) ?_
  refine sd_done ?_
  refine sw_seq ?_
  refine sw_seq ?_
  -- region 2 cover.go:22
  refine sw_region [(0, 0), (1, 0)] rfl rfl rfl ?_
  refine sd_vv rfl rfl rfl (vv_move rfl) ?_
  refine sd_vv rfl rfl rfl (vv_not rfl) ?_
  refine sd_done ?_
  refine sw_cond rfl (fun c1 => ?_) (fun c1 => ?_)
  ·
    replace hm := cnd_t c1 hm
    refine sw_seq ?_
    -- region 3 cover.go:23
    refine sw_region [(0, 0), (1, 0), (2, 0)] rfl rfl rfl ?_
    refine sd_vv rfl rfl rfl (vv_build (cs := Tcover_tree.cs (Tcover_tree.mk 0#8 0 0)) bs_175 rfl rfl) ?_
    have B11 := (Bx.md (Bx.gr (Bx.gr Bw2 Gw3) Gw4) Mw5)
    refine sd_ev rfl rfl rfl (ev_stM (cs' := Tcover_tree.cs (Tcover_tree.mk 0#8 0 0)) (vs := Tcover_tree.cs (Tcover_tree.mk 0#8 0 0)) (agg_175).siz rfl rfl rfl rfl rfl B11 rfl rfl) ?_
    rintro _ w6 ⟨Bw6, Mw6⟩
    have z12 := Mw6.size
    refine sd_vv rfl rfl rfl (vv_assign rfl) ?_
    refine sd_done ?_
    refine sw_ret ?_
    refine then_r ?_
    have X13 : Gr w w6 := (Gr.md (Gr.md (Gr.trans (Gr.trans (Gr.trans (Gr.trans (Gr.refl w) Gw1) Gw2) Gw3) Gw4) Mw5) Mw6)
    have hr := Option.some.inj hm
    subst hr
    refine ⟨_, _, rfl, res_2 rfl (rv_cellW agg_175 rfl Bw6 rfl) (rv_tmp rfl), ?_⟩
    exact ⟨rfl, X13⟩
  ·
    replace hm := cnd_f c1 hm
    refine sw_skip ?_
    refine then_n ?_
    refine sw_seq ?_
    refine sw_seq ?_
    -- region 4 cover.go:25
    refine sw_region [(0, 0), (1, 0), (2, 0)] rfl rfl rfl ?_
    refine sd_vv rfl rfl rfl (vv_move rfl) ?_
    have B14 := (Rd.md (Rd.gr (Rd.gr (Rd.gr (Rd.gr hp1 Gw1) Gw2) Gw3) Gw4) Mw5 (tk1 ((pv_lt (A := (fun x => x ≠ b4)) lt1) : zp1 = 0 ∨ gp1 ≠ b4)))
    refine sd_vv rfl rfl rfl (vv_lenT (l := p1) (c := TSubset.cs) Tryz.underlying107 rfl B14) ?_
    refine sd_vv rfl rfl rfl (vv_move rfl) ?_
    refine sd_done ?_
    refine sw_block ?_
    have X15 : Gr w w5 := (Gr.md (Gr.trans (Gr.trans (Gr.trans (Gr.trans (Gr.refl w) Gw1) Gw2) Gw3) Gw4) Mw5)
    refine sw_loopD (α := Nat × Int) [5, 9, 20, 21, 22, 23, 24, 25, 26, 27, 28, 29] (fun ⟨n1, a3⟩ => [(5, .int .i64 0), (20, .int .i64 a3)]) (fun ⟨n1, a3⟩ wr => (fixN (cover_enter_L1 p1 x1) n1 a3 = some r) ∧ Kz [] w5 wr) (fun ⟨n1, a3⟩ => n1) ⟨FUEL, 0⟩ ?_ ?_ ?_
    · repeat' first | exact trivial | refine ⟨rfl, ?_⟩
    · exact ⟨hm, Kz.refl _ _⟩
    · clear hm; rintro ⟨n1, a3⟩ w7 ⟨hm, Kw7⟩
      have z16 := Kw7.size
      have hb := fix_succ hm; clear hm; obtain ⟨n1, rfl, hm⟩ := hb
      generalize hrec1 : fixN (cover_enter_L1 p1 x1) n1 = rec1 at hm
      unfold cover_enter_L1 at hm
      try dsimp only at hm
      refine sw_seq ?_
      -- region 5 cover.go:25
      refine sw_region [(0, 0)] rfl rfl rfl ?_
      refine sd_vv rfl rfl rfl (vv_lss (a := a3) (b := (p1.length : Int)) rfl rfl) ?_
      refine sd_done ?_
      refine sw_seq ?_
      refine sw_cond rfl (fun c2 => ?_) (fun c2 => ?_)
      ·
        replace hm := ite_t (of_decide_eq_true c2) hm
        refine sw_skip ?_
        refine then_n ?_
        refine sw_seq ?_
        refine sw_block ?_
        refine sw_seq ?_
        -- region 6 cover.go:25
        refine sw_region [(0, 0), (1, 0), (2, 0), (3, 0)] rfl rfl rfl ?_
        have hb := bnd hm; clear hm; obtain ⟨y4, hy4, hm⟩ := hb
        have B17 := (Rd.kz B14 Kw7)
        refine sd_vv rfl rfl rfl (vv_ixT (i := a3) Tryz.underlying107 (agg_131).siz rfl B17 rfl hy4) ?_
        refine sd_vv rfl rfl rfl (vv_elWT agg_131 rfl B17 hy4 (by first | rfl | omega)) ?_
        refine sd_ev rfl rfl rfl (ev_alloc (cs := TSubset.cs (TSubset.mk 0 0)) zv_131 rfl) ?_
        rintro _ w8 ⟨b8, rfl, hbw8, Bw8, Gw8⟩
        have z18 := Gw8.size
        have lt19 := Bw8.lt
        refine sd_ev rfl rfl rfl (ev_stM (cs' := TSubset.cs y4) (vs := TSubset.cs y4) (agg_131).siz rfl rfl rfl rfl rfl Bw8 rfl rfl) ?_
        rintro _ w9 ⟨Bw9, Mw9⟩
        have z20 := Mw9.size
        refine sd_done ?_
        refine sw_seq ?_
        -- region 7 cover.go:26
        refine sw_region [(0, 0), (1, 0), (2, 0), (3, 0)] rfl rfl rfl ?_
        have B21 := (Bx.md (Bx.gr (Bx.kz Bw5 Kw7) Gw8) Mw9)
        refine sd_vv rfl rfl rfl (vv_loadW agg_175 rfl B21 rfl) ?_
        refine sd_vv rfl rfl rfl (vv_loadW agg_131 rfl Bw9 rfl) ?_
        have hb := bnd hm; clear hm; obtain ⟨x5, hx5, hm⟩ := hb
        refine sd_ev rfl rfl rfl (ev_call en_124 rfl (cover_tree_subset_w x1.1 y4 _ hx5 _)) ?_
        rintro _ w10 ⟨rfl, Gw10⟩
        have z22 := Gw10.size
        refine sd_vv rfl rfl rfl (vv_not rfl) ?_
        refine sd_done ?_
        refine sw_cond rfl (fun c3 => ?_) (fun c3 => ?_)
        ·
          replace hm := cnd_t c3 hm
          refine sw_seq ?_
          -- region 8 cover.go:27
          refine sw_region [(0, 0), (1, 0), (2, 0)] rfl rfl rfl ?_
          refine sd_vv rfl rfl rfl (vv_build (cs := Tcover_tree.cs (Tcover_tree.mk 0#8 0 0)) bs_175 rfl rfl) ?_
          have B23 := (Bx.gr (Bx.md (Bx.gr (Bx.kz (Bx.md (Bx.gr (Bx.gr Bw2 Gw3) Gw4) Mw5) Kw7) Gw8) Mw9) Gw10)
          refine sd_ev rfl rfl rfl (ev_stM (cs' := Tcover_tree.cs (Tcover_tree.mk 0#8 0 0)) (vs := Tcover_tree.cs (Tcover_tree.mk 0#8 0 0)) (agg_175).siz rfl rfl rfl rfl rfl B23 rfl rfl) ?_
          rintro _ w11 ⟨Bw11, Mw11⟩
          have z24 := Mw11.size
          refine sd_vv rfl rfl rfl (vv_assign rfl) ?_
          refine sd_done ?_
          refine sw_ret ?_
          refine block_r ?_
          refine then_r ?_
          refine then_r ?_
          refine block_r ?_
          refine then_r ?_
          have X25 : Gr w w11 := (Gr.md (Gr.trans (Gr.md (Gr.trans (Gr.kz X15 Kw7) Gw8) Mw9) Gw10) Mw11)
          have hr := Option.some.inj hm
          subst hr
          refine ⟨_, _, rfl, res_2 rfl (rv_cellW agg_175 rfl Bw11 rfl) (rv_tmp rfl), ?_⟩
          exact ⟨rfl, X25⟩
        ·
          replace hm := cnd_f c3 hm
          refine sw_skip ?_
          refine block_n ?_
          refine then_n ?_
          -- region 9 cover.go:25
          refine sw_region [(0, 0), (1, 0)] rfl rfl rfl ?_
          refine sd_vv rfl rfl rfl (vv_add (k := .i64) (a := a3) (b := 1) rfl rfl) ?_
          refine sd_vv rfl rfl rfl (vv_move rfl) ?_
          refine sd_nil ?_
          have K_26 : Kz [] w5 w10 := (Kz.gr (Kz.md (Kz.gr Kw7 Gw8) Mw9) Gw10)
          subst hrec1
          refine ⟨rfl, ⟨n1, w64 (a3 + 1)⟩, ?_, ⟨hm, K_26⟩, Nat.lt_succ_self _⟩
          repeat' first | exact trivial | refine ⟨rfl, ?_⟩
      ·
        replace hm := ite_f (of_decide_eq_false c2) hm
        refine sw_exit ?_
        refine then_x ?_
        refine then_x ?_
        refine block_x ?_
        refine then_n ?_
        refine sw_seq ?_
        -- region 10 cover.go:30
        refine sw_region [(0, 0), (1, 0), (2, 0)] rfl rfl rfl ?_
        have B27 := (Bx.kz Bw5 Kw7)
        refine sd_vv rfl rfl rfl (vv_loadW agg_175 rfl B27 rfl) ?_
        have B28 := (Bx.kz (Bx.md (Bx.gr (Bx.gr Bw2 Gw3) Gw4) Mw5) Kw7)
        refine sd_ev rfl rfl rfl (ev_stM (cs' := Tcover_tree.cs x1.1) (vs := Tcover_tree.cs x1.1) (agg_175).siz rfl rfl rfl rfl rfl B28 rfl rfl) ?_
        rintro _ w12 ⟨Bw12, Mw12⟩
        have z29 := Mw12.size
        refine sd_vv rfl rfl rfl (vv_assign rfl) ?_
        refine sd_done ?_
        refine sw_ret ?_
        have X30 : Gr w w12 := (Gr.md (Gr.kz X15 Kw7) Mw12)
        have hr := Option.some.inj hm
        subst hr
        refine ⟨_, _, rfl, res_2 rfl (rv_cellW agg_175 rfl Bw12 rfl) (rv_tmp rfl), ?_⟩
        exact ⟨rfl, X30⟩

set_option maxHeartbeats 2000000 in
theorem cover_tree_receiver_w (p0 : Tcover_tree) (p1 : Int)  (r : Bool) (hm : cover_tree_receiver p0 p1 = some r) (w : World)   :
    Calls Tryz.prog 188 [.agg (Tcover_tree.cs p0).toArray, .int .i64 p1].toArray w fun e w' => ∃ v, e = .returned v ∧ (v = .bool r ∧ Gr w w') := by
  unfold cover_tree_receiver at hm
  refine calls_of_sw (R := fun v w' => v = .bool r ∧ Gr w w') 13 Tryz.func188 rfl rfl rfl ?_
  refine sw_seq ?_
  -- region 0 tree.go:71
  refine sw_region [(0, 0), (1, 0)] rfl rfl rfl ?_
  refine sd_ev rfl rfl rfl (ev_box (cs := Tcover_tree.cs p0) rfl rfl) ?_
  rintro _ w1 ⟨b1, rfl, hbw1, Bw1, Gw1⟩
  have z1 := Gw1.size
  have lt2 := Bw1.lt
  refine sd_vv rfl rfl rfl (vv_assign rfl) ?_
  refine sd_done ?_
  refine sw_seq ?_
  -- region 1 tree.go:71
  refine sw_region [(0, 0), (1, 0), (2, 0), (3, 0), (4, 0), (5, 0), (6, 0), (7, 0), (8, 0)] rfl rfl rfl ?_
  refine sd_vv rfl rfl rfl (vv_move rfl) ?_
  refine sd_vv rfl rfl rfl (vv_geq (a := p1) (b := 0) rfl rfl) ?_
  refine sd_split rfl rfl rfl (vv_move rfl) (fun c1 => ?_) (fun c1 => ?_)
  ·
    replace hm := ite_t (of_decide_eq_true c1) hm
    refine sd_vv rfl rfl rfl (vv_move rfl) ?_
    refine sd_vv rfl rfl rfl (vv_loadW agg_175 rfl Bw1 rfl) ?_
    have hb := bnd hm; clear hm; obtain ⟨x1, hx1, hm⟩ := hb
    refine sd_ev rfl rfl rfl (ev_call en_189 rfl (cover_tree_size_w p0 _ hx1 _)) ?_
    rintro _ w2 ⟨rfl, Gw2⟩
    have z3 := Gw2.size
    refine sd_vv rfl rfl rfl (vv_lss (a := p1) (b := x1) rfl rfl) ?_
    refine sd_vv rfl rfl rfl (vv_pickT rfl rfl) ?_
    refine sd_vv rfl rfl rfl (vv_assign rfl) ?_
    refine sd_done ?_
    refine sw_ret ?_
    have X4 : Gr w w2 := (Gr.trans (Gr.trans (Gr.refl w) Gw1) Gw2)
    have hr := Option.some.inj hm
    subst hr
    refine ⟨_, _, rfl, res_1 rfl (rv_tmp rfl), ?_⟩
    exact ⟨rfl, X4⟩
  ·
    replace hm := ite_f (of_decide_eq_false c1) hm
    refine sd_skip rfl rfl rfl ?_
    refine sd_skip rfl rfl rfl ?_
    refine sd_skip rfl rfl rfl ?_
    refine sd_skip rfl rfl rfl ?_
    refine sd_vv rfl rfl rfl (vv_pickF rfl rfl) ?_
    refine sd_vv rfl rfl rfl (vv_assign rfl) ?_
    refine sd_done ?_
    refine sw_ret ?_
    have X5 : Gr w w1 := (Gr.trans (Gr.refl w) Gw1)
    have hr := Option.some.inj hm
    subst hr
    refine ⟨_, _, rfl, res_1 rfl (rv_tmp rfl), ?_⟩
    exact ⟨rfl, X5⟩

set_option maxHeartbeats 2000000 in
theorem cover_tree_labels_w (p0 : Tcover_tree) (p1 : Int)  (r : Tcover_tree × Int) (hm : cover_tree_labels p0 p1 = some r) (w : World)   :
    Calls Tryz.prog 202 [.agg (Tcover_tree.cs p0).toArray, .int .i64 p1].toArray w fun e w' => ∃ v, e = .returned v ∧ (∃ (bc0 : Nat) (bc1 : Nat), v = .func (.func 251) #[] [.pointer (some ⟨bc0, 0, none⟩), .pointer (some ⟨bc1, 0, none⟩)].toArray ∧ Bx w' bc0 175 (Tcover_tree.cs r.1) ∧ (w.heap.size ≤ bc0) ∧ Bx w' bc1 3 ([.int .i64 r.2]) ∧ (w.heap.size ≤ bc1) ∧ Gr w w') := by
  unfold cover_tree_labels at hm
  refine calls_of_sw (R := fun v w' => ∃ (bc0 : Nat) (bc1 : Nat), v = .func (.func 251) #[] [.pointer (some ⟨bc0, 0, none⟩), .pointer (some ⟨bc1, 0, none⟩)].toArray ∧ Bx w' bc0 175 (Tcover_tree.cs r.1) ∧ (w.heap.size ≤ bc0) ∧ Bx w' bc1 3 ([.int .i64 r.2]) ∧ (w.heap.size ≤ bc1) ∧ Gr w w') 6 Tryz.func202 rfl rfl rfl ?_
  refine sw_seq ?_
  -- region 0 tree.go:132
  refine sw_region [(0, 0), (1, 0), (2, 0)] rfl rfl rfl ?_
  refine sd_ev rfl rfl rfl (ev_box (cs := Tcover_tree.cs p0) rfl rfl) ?_
  rintro _ w1 ⟨b1, rfl, hbw1, Bw1, Gw1⟩
  have z1 := Gw1.size
  have lt2 := Bw1.lt
  refine sd_ev rfl rfl rfl (ev_box (cs := [.int .i64 p1]) rfl rfl) ?_
  rintro _ w2 ⟨b2, rfl, hbw2, Bw2, Gw2⟩
  have z3 := Gw2.size
  have lt4 := Bw2.lt
  refine sd_vv rfl rfl rfl (vv_assign rfl) ?_
  refine sd_done ?_
  refine sw_seq ?_
  -- region 1 tree.go:133
  refine sw_region [(0, 0), (1, 0)] rfl rfl rfl ?_
  refine sd_vv rfl rfl rfl (vv_makeFunc rfl rfl) ?_
  refine sd_vv rfl rfl rfl (vv_assign rfl) ?_
  refine sd_done ?_
  refine sw_ret ?_
  have B5 := (Bx.gr Bw1 Gw2)
  have X6 : Gr w w2 := (Gr.trans (Gr.trans (Gr.refl w) Gw1) Gw2)
  have hr := Option.some.inj hm
  subst hr
  refine ⟨_, _, rfl, res_1 rfl (rv_tmp rfl), ?_⟩
  exact ⟨b1, b2, rfl, B5, by omega, Bw2, by omega, X6⟩

set_option maxHeartbeats 2000000 in
theorem cover_tree_leaf_w (p0 : Tcover_tree) (p1 : Int)  (r : Int) (hm : cover_tree_leaf p0 p1 = some r) (w : World)   :
    Calls Tryz.prog 114 [.agg (Tcover_tree.cs p0).toArray, .int .i64 p1].toArray w fun e w' => ∃ v, e = .returned v ∧ (v = .int .i64 r ∧ Gr w w') := by
  unfold cover_tree_leaf at hm
  refine calls_of_sw (R := fun v w' => v = .int .i64 r ∧ Gr w w') 9 Tryz.func114 rfl rfl rfl ?_
  refine sw_seq ?_
  -- region 0 tree.go:65
  refine sw_region [(0, 0), (1, 0)] rfl rfl rfl ?_
  refine sd_ev rfl rfl rfl (ev_box (cs := Tcover_tree.cs p0) rfl rfl) ?_
  rintro _ w1 ⟨b1, rfl, hbw1, Bw1, Gw1⟩
  have z1 := Gw1.size
  have lt2 := Bw1.lt
  refine sd_vv rfl rfl rfl (vv_assign rfl) ?_
  refine sd_done ?_
  refine sw_seq ?_
  -- region 1 tree.go:65
  refine sw_region [(0, 0), (1, 0), (2, 0), (3, 0), (4, 0)] rfl rfl rfl ?_
  refine sd_vv rfl rfl rfl (vv_loadW agg_175 rfl Bw1 rfl) ?_
  have hb := bnd hm; clear hm; obtain ⟨x1, hx1, hm⟩ := hb
  refine sd_ev rfl rfl rfl (ev_call en_189 rfl (cover_tree_size_w p0 _ hx1 _)) ?_
  rintro _ w2 ⟨rfl, Gw2⟩
  have z3 := Gw2.size
  refine sd_vv rfl rfl rfl (vv_move rfl) ?_
  refine sd_vv rfl rfl rfl (vv_add (k := .i64) (a := x1) (b := p1) rfl rfl) ?_
  refine sd_vv rfl rfl rfl (vv_assign rfl) ?_
  refine sd_done ?_
  refine sw_ret ?_
  have X4 : Gr w w2 := (Gr.trans (Gr.trans (Gr.refl w) Gw1) Gw2)
  have hr := Option.some.inj hm
  subst hr
  refine ⟨_, _, rfl, res_1 rfl (rv_tmp rfl), ?_⟩
  exact ⟨rfl, X4⟩

set_option maxHeartbeats 2000000 in
theorem cover_node_sibling_w (p0 : Int)  (r : Int) (hm : cover_node_sibling p0 = some r) (w : World)   :
    Calls Tryz.prog 116 [.int .i64 p0].toArray w fun e w' => ∃ v, e = .returned v ∧ (v = .int .i64 r ∧ Gr w w') := by
  unfold cover_node_sibling at hm
  refine calls_of_sw (R := fun v w' => v = .int .i64 r ∧ Gr w w') 5 Tryz.func116 rfl rfl rfl ?_
  refine sw_seq ?_
  -- region 0 tree.go:25
  refine sw_region [(0, 0)] rfl rfl rfl ?_
  refine sd_vv rfl rfl rfl (vv_assign rfl) ?_
  refine sd_done ?_
  refine sw_seq ?_
  -- region 1 tree.go:25
  refine sw_region [(0, 0), (1, 0), (2, 0)] rfl rfl rfl ?_
  refine sd_vv rfl rfl rfl (vv_move rfl) ?_
  refine sd_vv rfl rfl rfl (vv_bitI (a := p0) (b := 1) (by simp) rfl rfl) ?_
  refine sd_vv rfl rfl rfl (vv_assign rfl) ?_
  refine sd_done ?_
  refine sw_ret ?_
  have hr := Option.some.inj hm
  subst hr
  refine ⟨_, _, rfl, res_1 rfl (rv_tmp rfl), ?_⟩
  exact ⟨rfl, (Gr.refl w)⟩

set_option maxHeartbeats 2000000 in
theorem cover_tree_labels_1_it (p1 : Tcover_tree) (p2 : Int) (bp1 : Nat) (bp2 : Nat) (xs : List (Int × Int)) (hm : cover_tree_labels_1 p1 p2 = some xs) (w0 : World) (hbp1 : Bx w0 bp1 175 (Tcover_tree.cs p1)) (hbp2 : Bx w0 bp2 3 ([.int .i64 p2])) :
    IT Tryz.prog 251 [.pointer (some ⟨bp1, 0, none⟩), .pointer (some ⟨bp2, 0, none⟩)] (xs.map (fun (x : Int × Int) => ([.int .i64 x.1, .int .i64 x.2] : List Value))) ([bp1] ++ [bp2]) w0 := by
  intro l J Jx w fp hG hJ hJx hcap h0 hY
  have c1 := Bx.gr hbp1 hG
  have lt2 := c1.lt
  have nb3 : bp1 ∉ fp := hcap _ (by simp)
  have c4 := Bx.gr hbp2 hG
  have lt5 := c4.lt
  have nb6 : bp2 ∉ fp := hcap _ (by simp)
  have hd := dr_0 xs
  unfold cover_tree_labels_1 at hm
  refine calls_of_sw (R := fun v w' => Kp fp w w' ∧ ((∃ fp', (∀ c ∈ fp', c ∈ fp ∨ w.heap.size ≤ c) ∧ J (xs.map (fun (x : Int × Int) => ([.int .i64 x.1, .int .i64 x.2] : List Value))).length fp' w') ∨ (∃ j fp', (∀ c ∈ fp', c ∈ fp ∨ w.heap.size ≤ c) ∧ j ≤ (xs.map (fun (x : Int × Int) => ([.int .i64 x.1, .int .i64 x.2] : List Value))).length ∧ Jx j fp' w'))) 48 Tryz.func251 rfl rfl rfl ?_
  refine sw_seq ?_
  -- region 0 tree.go:133
  refine sw_region [(0, 0)] rfl rfl rfl ?_
  refine sd_ev rfl rfl rfl (ev_box rfl rfl) ?_
  rintro _ w1 ⟨b1, rfl, hbw1, Bw1, Gw1⟩
  have z7 := Gw1.size
  have lt8 := Bw1.lt
  have nb9 : b1 ∉ fp := fun h => absurd (hJ.lt h0 _ h) (by omega)
  refine sd_done ?_
  refine sw_seq ?_
  -- region 1 tree.go:134
  refine sw_region [(0, 0), (1, 0), (2, 0), (3, 0)] rfl rfl rfl ?_
  have B10 := (Bx.gr c1 Gw1)
  refine sd_vv rfl rfl rfl (vv_loadW agg_175 rfl B10 rfl) ?_
  have B11 := (Bx.gr c4 Gw1)
  refine sd_vv rfl rfl rfl (vv_load1 (v := .int .i64 p2) one_3 rfl B11 rfl) ?_
  have hb := bnd hm; clear hm; obtain ⟨x1, hx1, hm⟩ := hb
  refine sd_ev rfl rfl rfl (ev_call en_114 rfl (cover_tree_leaf_w p1 p2 _ hx1 _)) ?_
  rintro _ w2 ⟨rfl, Gw2⟩
  have J12 := (hJ.gr h0 Gw1)
  have z13 := Gw2.size
  refine sd_vv rfl rfl rfl (vv_assign rfl) ?_
  refine sd_done ?_
  refine sw_seq ?_
  refine sw_seq ?_
  -- region 2 tree.go:135
  refine sw_region [(0, 0), (1, 0), (2, 0)] rfl rfl rfl ?_
  have B14 := (Bx.gr Bw1 Gw2)
  refine sd_vv rfl rfl rfl (vv_load1 one_301 rfl B14 rfl) ?_
  have J16 := (hJ.gr J12 Gw2)
  have KI17 : Kp fp w w2 := (Kp.gr (Kp.gr (Kp.refl fp w) Gw1) Gw2)
  obtain ⟨rr15, hm, he15⟩ := yl_some hm
  have hx15 := Dr.at hd he15
  have hd15 := Dr.next hd he15
  have B18 := (Bx.gr B10 Gw2)
  have B19 := (Bx.gr B11 Gw2)
  refine sd_ev rfl rfl rfl (ev_yield rfl rfl (hY _ _ _ _ (getm hx15) J16 KI17 (fun c hc => Or.inl hc))) ?_
  rintro _ w3 ⟨bb, rfl, KF15, fp15, hg15, hJb⟩
  have z20 := KF15.size
  have sub15 : ∀ c ∈ fp15, c ∈ fp ∨ w.heap.size ≤ c := sub_grow (fun c hc => Or.inl hc) hg15 (by omega)
  have nb21 := notin_grow hg15 nb3 (by omega)
  have nb22 := notin_grow hg15 nb6 (by omega)
  have nb23 := notin_grow hg15 nb9 (by omega)
  cases bb
  ·
    have Jy15 : Jx (0 + 1) fp15 w3 := hJb
    refine sd_vv rfl rfl rfl (vv_not rfl) ?_
    refine sd_done ?_
    refine sw_condT rfl ?_
    refine sw_ret ?_
    refine then_r ?_
    have KI24 : Kp fp w w3 := (Kp.trans KI17 KF15 (fun c hc => Or.inl hc))
    exact ⟨_, _, rfl, res_none rfl, KI24, .inr ⟨_, _, sub15, (by rw [List.length_map]; exact (List.getElem?_eq_some_iff.1 hx15).1), Jy15⟩⟩
  ·
    have Jy15 : J (0 + 1) fp15 w3 := hJb
    refine sd_vv rfl rfl rfl (vv_not rfl) ?_
    refine sd_done ?_
    refine sw_condF rfl ?_
    refine sw_skip ?_
    refine then_n ?_
    refine sw_seq ?_
    -- region 3 tree.go:138
    refine sw_region [(0, 0), (1, 0)] rfl rfl rfl ?_
    refine sd_ev rfl rfl rfl (ev_alloc (cs := [.int .i64 0]) zv_180 rfl) ?_
    rintro _ w4 ⟨b4, rfl, hbw4, Bw4, Gw4⟩
    have z25 := Gw4.size
    have lt26 := Bw4.lt
    have nb27 : b4 ∉ fp15 := fun h => absurd (hJ.lt Jy15 _ h) (by omega)
    refine sd_ev rfl rfl rfl (ev_st1 (cs' := [.int .i64 1]) (one_180).siz rfl rfl rfl Bw4 rfl rfl) ?_
    rintro _ w5 ⟨Bw5, Mw5⟩
    have z28 := Mw5.size
    refine sd_done ?_
    refine sw_block ?_
    have J29 := (hJ.md (hJ.gr Jy15 Gw4) Mw5 nb27)
    have KI30 : Kp fp w w5 := (Kp.md (Kp.gr (Kp.trans KI17 KF15 (fun c hc => Or.inl hc)) Gw4) Mw5 (Or.inr (by omega)))
    have B31 := (Bx.md (Bx.gr (Bx.kp B18 KF15 nb3) Gw4) Mw5)
    have B32 := (Bx.md (Bx.gr (Bx.kp B19 KF15 nb6) Gw4) Mw5)
    have B33 := (Bx.md (Bx.gr (Bx.kp B14 KF15 nb9) Gw4) Mw5)
    refine sw_loopK (α := Nat × Int × Nat × Nat × List Nat × List (Int × Int)) [5, 6, 7, 14, 15, 16, 17, 18, 19, 20, 21, 22, 23, 24, 25, 26, 27, 28, 29, 30, 31, 32, 33, 34, 35, 36, 37, 38, 39, 40, 41, 42, 43, 44, 45, 46, 47] (fun ⟨n1, a2, bq1_5, kk, fpl, rl⟩ => [(5, .pointer (some ⟨bq1_5, 0, none⟩))]) (fun ⟨n1, a2, bq1_5, kk, fpl, rl⟩ ks wr => (fixN (cover_tree_labels_1_L1 p1 x1) n1 a2 = some rl) ∧ Dr xs kk rl ∧ J kk fpl wr ∧ (∀ c ∈ fpl, c ∈ fp ∨ w.heap.size ≤ c) ∧ Kp fp w wr ∧ Bx wr bp1 175 (Tcover_tree.cs p1) ∧ Bx wr bp2 3 ([.int .i64 p2]) ∧ Bx wr b1 301 [.func (.yield l) #[] #[]] ∧ bp1 ∉ fpl ∧ bp2 ∉ fpl ∧ b1 ∉ fpl ∧ Bx wr bq1_5 180 ([.int .i64 a2]) ∧ bq1_5 ∉ fpl ∧ w.heap.size ≤ bq1_5 ∧ bq1_5 ≠ bp1 ∧ bq1_5 ≠ bp2 ∧ bq1_5 ≠ b1 ∧ MkI w.heap.size ks fpl wr) (fun ⟨n1, a2, bq1_5, kk, fpl, rl⟩ => n1) ⟨FUEL, 1, b4, (0 + 1), fp15, rr15⟩ [] rfl ?_ ?_ ?_
    · repeat' first | exact trivial | refine ⟨rfl, ?_⟩
    · exact ⟨hm, hd15, J29, sub15, KI30, B31, B32, B33, nb21, nb22, nb23, Bw5, nb27, (by omega), (by omega), (by omega), (by omega), (mki_nil w.heap.size fp15 w5)⟩
    · clear hm; rintro ⟨n1, a2, bq1_5, kk1, fpl1, rl1⟩ ks1 w6 ⟨hm, dl1, JLw6, sl1, KLw6, Sw6_0, Sw6_1, Sw6_2, Nw6_0, Nw6_1, Nw6_2, Pw6_0, Pw6_1, Pw6_2, Pw6_3, Pw6_4, Pw6_5, MKw6⟩
      have z34 := KLw6.size
      have lt35 := Sw6_0.lt
      have lt36 := Sw6_1.lt
      have lt37 := Sw6_2.lt
      have lt38 := Pw6_0.lt
      have hb := fix_succ hm; clear hm; obtain ⟨n1, rfl, hm⟩ := hb
      generalize hrec1 : fixN (cover_tree_labels_1_L1 p1 x1) n1 = rec1 at hm
      unfold cover_tree_labels_1_L1 at hm
      try dsimp only at hm
      refine sw_seq ?_
      refine sw_seq ?_
      -- region 4 tree.go:138
      refine sw_region [(0, 0), (1, 0), (2, 0)] rfl rfl rfl ?_
      refine sd_vv rfl rfl rfl (vv_load1 (v := .int .i64 a2) one_180 rfl Pw6_0 rfl) ?_
      refine sd_vv rfl rfl rfl (vv_move rfl) ?_
      refine sd_vv rfl rfl rfl (vv_neq (a := a2) (b := x1) rfl rfl) ?_
      refine sd_done ?_
      refine sw_cond rfl (fun c1 => ?_) (fun c1 => ?_)
      ·
        replace hm := ite_t (of_decide_eq_true c1) hm
        refine sw_skip ?_
        refine then_n ?_
        refine sw_seq ?_
        refine sw_block ?_
        refine sw_seq ?_
        refine sw_seq ?_
        -- region 6 tree.go:139
        refine sw_region [(0, 0), (1, 0), (2, 0)] rfl rfl rfl ?_
        refine sd_vv rfl rfl rfl (vv_fieldAddr fa_175_0 rfl) ?_
        refine sd_vv rfl rfl rfl (vv_load1 (v := bv p1.kind) one_5 rfl Sw6_0 rfl) ?_
        refine sd_vv rfl rfl rfl (vv_eqlB (p := p1.kind) (q := 1#8) rfl rfl) ?_
        refine sd_done ?_
        refine sw_cond rfl (fun c2 => ?_) (fun c2 => ?_)
        ·
          replace hm := ite_t (of_decide_eq_true c2) hm
          refine sw_seq ?_
          refine sw_seq ?_
          -- region 7 tree.go:140 DRAWS
          refine sw_drawN [fpl1] [] (.leaf [(0, 10), (1, 10), (2, 10), (3, 0), (4, 0), (5, 0)]) (by kernel_rfl) (by kernel_rfl) rfl (by kernel_rfl) ?_
          intro w7 Gw7 zw7
          refine sdz_leaf ?_
          have B39 := (Bx.gr Sw6_2 Gw7)
          refine dd_hn 0 rfl rfl rfl rfl (Kp.refl fpl1 w7) (fun w hS => vv_load1 one_301 rfl (Bx.kp B39 hS Nw6_2) rfl) ?_
          have B40 := (Bx.gr Pw6_0 Gw7)
          refine dd_hn 0 rfl rfl rfl rfl (Kp.refl fpl1 w7) (fun w hS => vv_load1 (v := .int .i64 a2) one_180 rfl (Bx.kp B40 hS Pw6_1) rfl) ?_
          refine dd_hn 0 rfl rfl rfl rfl (Kp.refl fpl1 w7) (fun w hS => vv_move rfl) ?_
          have hb := bnd hm; clear hm; obtain ⟨x3, hx3, hm⟩ := hb
          refine dd_z [] rfl rfl rfl (ev_call en_240 rfl (cover_node_toward_w a2 x1 _ hx3 _)) ⟨fun _ => tk0, trivial⟩ ?_
          rintro _ w8 ⟨rfl, Gw8⟩
          have J41 := (hJ.gr JLw6 Gw7)
          have z42 := Gw8.size
          refine ⟨Kz.ofGr Gw8, ?_⟩
          have J44 := (hJ.gr J41 Gw8)
          have KI45 : Kp fp w w8 := (Kp.gr (Kp.gr KLw6 Gw7) Gw8)
          obtain ⟨rr43, hm, he43⟩ := yl_some hm
          have hx43 := Dr.at dl1 he43
          have hd43 := Dr.next dl1 he43
          have B46 := (Bx.gr (Bx.gr Sw6_0 Gw7) Gw8)
          have B47 := (Bx.gr (Bx.gr Sw6_1 Gw7) Gw8)
          have B48 := (Bx.gr B39 Gw8)
          have B49 := (Bx.gr B40 Gw8)
          refine dd_y rfl rfl rfl (ev_yield rfl rfl (hY _ _ _ _ (getm hx43) J44 KI45 sl1)) ?_
          rintro _ w9 ⟨bb, rfl, KF43, fp43, hg43, hJb⟩
          refine ⟨fun S => Kp.trans S KF43 (fun b hb => Or.inl hb), ?_⟩
          have z50 := KF43.size
          have sub43 : ∀ c ∈ fp43, c ∈ fp ∨ w.heap.size ≤ c := sub_grow sl1 hg43 (by omega)
          have MK51 := (MkI.gr (MkI.gr MKw6 Gw7) Gw8)
          have MK43 := MkI.kp MK51 KF43 hg43
          have nb52 := notin_grow hg43 Nw6_0 (by omega)
          have nb53 := notin_grow hg43 Nw6_1 (by omega)
          have nb54 := notin_grow hg43 Nw6_2 (by omega)
          have nb55 := notin_grow hg43 Pw6_1 (by omega)
          cases bb
          ·
            have Jy43 : Jx (kk1 + 1) fp43 w9 := hJb
            refine dd_vz rfl rfl rfl (vv_not rfl) ?_
            refine sd_done ?_
            refine sw_condT rfl ?_
            refine sw_ret ?_
            refine then_r ?_
            refine then_r ?_
            refine block_r ?_
            refine then_r ?_
            refine then_r ?_
            refine block_r ?_
            have KI56 : Kp fp w w9 := (Kp.trans KI45 KF43 sl1)
            obtain ⟨wl57, lv57, kl57⟩ := MkI.leave MK43
            have Jl57 := MkI.stb hJx MK43 Jy43 kl57
            have Kl57 := MkI.trans MK43 KI56 kl57
            exact ⟨_, _, lv57, res_none rfl, Kl57, .inr ⟨_, _, sub43, (by rw [List.length_map]; exact (List.getElem?_eq_some_iff.1 hx43).1), Jl57⟩⟩
          ·
            have Jy43 : J (kk1 + 1) fp43 w9 := hJb
            refine dd_vz rfl rfl rfl (vv_not rfl) ?_
            refine sd_done ?_
            refine sw_condF rfl ?_
            refine sw_skip ?_
            refine then_n ?_
            refine sw_exit ?_
            refine then_x ?_
            refine block_x ?_
            refine then_n ?_
            refine sw_seq ?_
            refine sw_seq ?_
            -- region 12 tree.go:138
            refine sw_region [(0, 0)] rfl rfl rfl ?_
            have B58 := (Bx.kp B49 KF43 Pw6_1)
            refine sd_vv rfl rfl rfl (vv_load1 (v := .int .i64 a2) one_180 rfl B58 rfl) ?_
            refine sd_done ?_
            -- region 13 tree.go:138
            refine sw_region [(0, 0), (1, 0)] rfl rfl rfl ?_
            refine sd_ev rfl rfl rfl (ev_alloc (cs := [.int .i64 0]) zv_180 rfl) ?_
            rintro _ w10 ⟨b10, rfl, hbw10, Bw10, Gw10⟩
            have z59 := Gw10.size
            have lt60 := Bw10.lt
            have nb61 : b10 ∉ fp43 := fun h => absurd (hJ.lt Jy43 _ h) (by omega)
            refine sd_ev rfl rfl rfl (ev_st1 (cs' := [.int .i64 a2]) (one_180).siz rfl rfl rfl Bw10 rfl rfl) ?_
            rintro _ w11 ⟨Bw11, Mw11⟩
            have J62 := (hJ.gr Jy43 Gw10)
            have MK63 := (MkI.gr MK43 Gw10)
            have z64 := Mw11.size
            refine sd_done ?_
            -- region 5 tree.go:138
            refine sw_region [(0, 0), (1, 0), (2, 0), (3, 0)] rfl rfl rfl ?_
            refine sd_vv rfl rfl rfl (vv_load1 (v := .int .i64 a2) one_180 rfl Bw11 rfl) ?_
            refine sd_vv rfl rfl rfl (vv_move rfl) ?_
            have hb := bnd hm; clear hm; obtain ⟨x4, hx4, hm⟩ := hb
            refine sd_ev rfl rfl rfl (ev_call en_240 rfl (cover_node_toward_w a2 x1 _ hx4 _)) ?_
            rintro _ w12 ⟨rfl, Gw12⟩
            have J65 := (hJ.md J62 Mw11 nb61)
            have z66 := Gw12.size
            have B67 := (Bx.gr Bw11 Gw12)
            refine sd_ev rfl rfl rfl (ev_st1 (cs' := [.int .i64 x4]) (one_180).siz rfl rfl rfl B67 rfl rfl) ?_
            rintro _ w13 ⟨Bw13, Mw13⟩
            have J68 := (hJ.gr J65 Gw12)
            have MK69 := (MkI.gr (MkI.md MK63 Mw11 Bw10) Gw12)
            have z70 := Mw13.size
            refine sd_nil ?_
            have J71 := (hJ.md J68 Mw13 nb61)
            have KI72 : Kp fp w w13 := (Kp.md (Kp.gr (Kp.md (Kp.gr (Kp.trans KI45 KF43 sl1) Gw10) Mw11 (Or.inr (by omega))) Gw12) Mw13 (Or.inr (by omega)))
            have B73 := (Bx.md (Bx.gr (Bx.md (Bx.gr (Bx.kp B46 KF43 Nw6_0) Gw10) Mw11) Gw12) Mw13)
            have B74 := (Bx.md (Bx.gr (Bx.md (Bx.gr (Bx.kp B47 KF43 Nw6_1) Gw10) Mw11) Gw12) Mw13)
            have B75 := (Bx.md (Bx.gr (Bx.md (Bx.gr (Bx.kp B48 KF43 Nw6_2) Gw10) Mw11) Gw12) Mw13)
            have MK76 := (MkI.md MK69 Mw13 B67)
            subst hrec1
            refine ⟨⟨n1, x4, b10, (kk1 + 1), fp43, rr43⟩, ks1, rfl, ?_, ⟨hm, hd43, J71, sub43, KI72, B73, B74, B75, nb52, nb53, nb54, Bw13, nb61, (by omega), (by omega), (by omega), (by omega), MK76⟩, Nat.lt_succ_self _⟩
            repeat' first | exact trivial | refine ⟨rfl, ?_⟩
        ·
          replace hm := ite_f (of_decide_eq_false c2) hm
          refine sw_skip ?_
          refine then_n ?_
          refine sw_seq ?_
          -- region 8 tree.go:145
          refine sw_region [(0, 0), (1, 0), (2, 0)] rfl rfl rfl ?_
          refine sd_vv rfl rfl rfl (vv_load1 (v := .int .i64 a2) one_180 rfl Pw6_0 rfl) ?_
          refine sd_vv rfl rfl rfl (vv_move rfl) ?_
          have hb := bnd hm; clear hm; obtain ⟨x5, hx5, hm⟩ := hb
          refine sd_ev rfl rfl rfl (ev_call en_191 rfl (cover_path_w a2 x1 _ hx5 _)) ?_
          rintro _ w14 ⟨k14_c0_0, k14_c0_1, rfl, O14_c0_0, f14_c0_0, O14_c0_1, f14_c0_1, Gw14⟩
          have z77 := Gw14.size
          have lt78 := O14_c0_0.lt
          have nb79 : k14_c0_0 ∉ fpl1 := fun h => absurd (hJ.lt JLw6 _ h) (by omega)
          have lt80 := O14_c0_1.lt
          have nb81 : k14_c0_1 ∉ fpl1 := fun h => absurd (hJ.lt JLw6 _ h) (by omega)
          refine sd_done ?_
          refine sw_block ?_
          have hb := bnd hm; clear hm; obtain ⟨l6, hl6, hm⟩ := hb
          have J82 := (hJ.gr JLw6 Gw14)
          have KI83 : Kp fp w w14 := (Kp.gr KLw6 Gw14)
          have B84 := (Bx.gr Sw6_0 Gw14)
          have B85 := (Bx.gr Sw6_1 Gw14)
          have B86 := (Bx.gr Sw6_2 Gw14)
          have B87 := (Bx.gr Pw6_0 Gw14)
          have MK88 := (MkI.gr MKw6 Gw14)
          have MZ89 := MK88
          refine sw_rangeFunc (gf := 239) rfl en_239 (cover_path_1_it x5.1 x5.2 _ _ _ hl6 _ O14_c0_0 O14_c0_1) (by intro x hx; obtain ⟨a, _, rfl⟩ := List.mem_map.1 hx; rfl) rfl _ _ fpl1 (stb_mk (α := Nat × List Nat × (List (Int × Int))) (fun ⟨kk, fpl, rl⟩ rk => (itL (cover_tree_labels_1_R2 p1 a2) (cover_tree_labels_1_D2 x1 a2 rec1) (List.drop rk l6) () = some rl) ∧ Dr xs kk rl ∧ (∀ c ∈ fpl, c ∈ fp ∨ w.heap.size ≤ c) ∧ (∀ c ∈ fpl, c ∈ fpl1 ∨ w14.heap.size ≤ c)) (fun ⟨kk, fpl, rl⟩ => fpl) (fun ⟨kk, fpl, rl⟩ W => J kk fpl W) (by rintro ⟨kk, fpl, rl⟩ W h b hb; exact hJ.lt h b hb) (by rintro ⟨kk, fpl, rl⟩ W W' h he hs; exact hJ.keep h he hs)) (fun c => stb_c (c = .ret) (stb_mk (α := Nat × List Nat) (fun ⟨kk, fpl⟩ rk => kk ≤ xs.length ∧ (∀ c ∈ fpl, c ∈ fp ∨ w.heap.size ≤ c) ∧ (∀ c ∈ fpl, c ∈ fpl1 ∨ w14.heap.size ≤ c)) (fun ⟨kk, fpl⟩ => fpl) (fun ⟨kk, fpl⟩ W => Jx kk fpl W) (by rintro ⟨kk, fpl⟩ W h b hb; exact hJx.lt h b hb) (by rintro ⟨kk, fpl⟩ W W' h he hs; exact hJx.keep h he hs))) (by intro b hb; simp only [List.mem_cons, List.mem_append, mem_zf, List.not_mem_nil, or_false, false_or, not_or, ne_eq, List.nil_append, List.cons_append, true_and, and_true, false_and, and_false, not_true_eq_false, not_false_eq_true, or_true, true_or] at hb; rcases hb with rfl | rfl <;> first | exact ⟨nb79, by omega⟩ | exact ⟨nb81, by omega⟩) ⟨(kk1, fpl1, rl1), ⟨hm, dl1, sl1, fun c hc => Or.inl hc⟩, rfl, J82⟩ ?_ ?_ ?_
          · rintro l2 rk x fpr2 w15 hl hx hIr Kw15 hF hln hlt
            clear hm
            obtain ⟨e7, hxe, rfl⟩ := map_some hx
            obtain ⟨⟨_, fpa, _⟩, ⟨_, _, sa, sz⟩, ea, Ja⟩ := hIr
            replace ea : fpr2 = fpa := ea
            subst ea
            replace Ja : J _ fpr2 w15 := Ja
            have z90 := Kw15.size
            have nb91 := notin_grow hF Nw6_0 (by omega)
            have nb92 := notin_grow hF Nw6_1 (by omega)
            have nb93 := notin_grow hF Nw6_2 (by omega)
            have nb94 := notin_grow hF Pw6_1 (by omega)
            have nb95 := notin_grow hF nb79 (by omega)
            have nb96 := notin_grow hF nb81 (by omega)
            have MKw15 := MkI.kp MZ89 Kw15 hF
            -- region 9 tree.go:145
            refine sw_region [(0, 0)] rfl rfl rfl ?_
            refine sd_vv rfl rfl rfl (vv_assign rfl) ?_
            refine sd_nil ?_
            refine ⟨rfl, (Gr.refl _), ?_⟩
            rintro w16 Mw16 ⟨⟨kr2, fpb, rl2⟩, ⟨hm, dr2, sr2, s0r2⟩, eb, Jr2⟩
            replace eb : fpr2 = fpb := eb
            subst eb
            replace Jr2 : J kr2 fpr2 w16 := Jr2
            have z97 := Mw16.size
            replace hm := itL_at hm hxe
            generalize hnx2 : itL (cover_tree_labels_1_R2 p1 a2) (cover_tree_labels_1_D2 x1 a2 rec1) (List.drop (rk + 1) l6) = nx2 at hm
            unfold cover_tree_labels_1_R2 at hm
            try dsimp only at hm
            refine sw_block ?_
            refine sw_seq ?_
            -- region 10 tree.go:146
            refine sw_region [(0, 0), (1, 0), (2, 0)] rfl rfl rfl ?_
            refine sd_vv rfl rfl rfl (vv_move rfl) ?_
            have hb := bnd hm; clear hm; obtain ⟨x8, hx8, hm⟩ := hb
            refine sd_ev rfl rfl rfl (ev_call en_116 rfl (cover_node_sibling_w e7 _ hx8 _)) ?_
            rintro _ w17 ⟨rfl, Gw17⟩
            have z98 := Gw17.size
            refine sd_vv rfl rfl rfl (vv_assign rfl) ?_
            refine sd_done ?_
            refine sw_seq ?_
            -- region 11 tree.go:147
            refine sw_region [(0, 0), (1, 0), (2, 0), (3, 0), (4, 0), (5, 0), (6, 0), (7, 0), (8, 0), (9, 0), (10, 0), (11, 0)] rfl rfl rfl ?_
            have B99 := (Bx.gr (Bx.md (Bx.kp B84 Kw15 Nw6_0) Mw16) Gw17)
            refine sd_vv rfl rfl rfl (vv_loadW agg_175 rfl B99 rfl) ?_
            have B100 := (Bx.gr (Bx.md (Bx.kp B87 Kw15 Pw6_1) Mw16) Gw17)
            refine sd_vv rfl rfl rfl (vv_load1 (v := .int .i64 a2) one_180 rfl B100 rfl) ?_
            refine sd_vv rfl rfl rfl (vv_move rfl) ?_
            refine sd_vv rfl rfl rfl (vv_build (cs := TSubset.cs (TSubset.mk a2 x8)) bs_131 rfl rfl) ?_
            have hb := bnd hm; clear hm; obtain ⟨x9, hx9, hm⟩ := hb
            refine sd_ev rfl rfl rfl (ev_call en_124 rfl (cover_tree_subset_w p1 (TSubset.mk a2 x8) _ hx9 _)) ?_
            rintro _ w18 ⟨rfl, Gw18⟩
            have J101 := (hJ.gr Jr2 Gw17)
            have z102 := Gw18.size
            refine sd_split rfl rfl rfl (vv_move rfl) (fun c3 => ?_) (fun c3 => ?_)
            ·
              replace hm := cnd_t c3 hm
              have B103 := (Bx.gr (Bx.gr (Bx.md (Bx.kp B86 Kw15 Nw6_2) Mw16) Gw17) Gw18)
              refine sd_vv rfl rfl rfl (vv_load1 one_301 rfl B103 rfl) ?_
              have B104 := (Bx.gr B100 Gw18)
              refine sd_vv rfl rfl rfl (vv_load1 (v := .int .i64 a2) one_180 rfl B104 rfl) ?_
              refine sd_vv rfl rfl rfl (vv_move rfl) ?_
              have J106 := (hJ.gr J101 Gw18)
              have KI107 : Kp fp w w18 := (Kp.gr (Kp.gr (Kp.md (Kp.trans KI83 Kw15 sl1) Mw16 (Or.inr (by omega))) Gw17) Gw18)
              obtain ⟨rr105, hm, he105⟩ := yl_some hm
              have hx105 := Dr.at dr2 he105
              have hd105 := Dr.next dr2 he105
              have B108 := (Bx.gr B99 Gw18)
              have B109 := (Bx.gr (Bx.gr (Bx.md (Bx.kp B85 Kw15 Nw6_1) Mw16) Gw17) Gw18)
              have B110 := (Bx.gr (Bx.gr (Bx.md (Bx.kp O14_c0_0 Kw15 nb79) Mw16) Gw17) Gw18)
              have B111 := (Bx.gr (Bx.gr (Bx.md (Bx.kp O14_c0_1 Kw15 nb81) Mw16) Gw17) Gw18)
              refine sd_ev rfl rfl rfl (ev_yield rfl rfl (hY _ _ _ _ (getm hx105) J106 KI107 sr2)) ?_
              rintro _ w19 ⟨bb, rfl, KF105, fp105, hg105, hJb⟩
              have z112 := KF105.size
              have sub105 : ∀ c ∈ fp105, c ∈ fp ∨ w.heap.size ≤ c := sub_grow sr2 hg105 (by omega)
              have subr105 := sub_grow (fun c hc => Or.inl hc : ∀ c ∈ fpr2, c ∈ fpr2 ∨ w16.heap.size ≤ c) hg105 (by omega)
              have MK113 := (MkI.gr (MkI.gr (MkI.mdl MKw15 Mw16 MZ89 hl) Gw17) Gw18)
              have MK105 := MkI.kp MK113 KF105 hg105
              have nb114 := notin_grow hg105 nb91 (by omega)
              have nb115 := notin_grow hg105 nb92 (by omega)
              have nb116 := notin_grow hg105 nb93 (by omega)
              have nb117 := notin_grow hg105 nb94 (by omega)
              have nb118 := notin_grow hg105 nb95 (by omega)
              have nb119 := notin_grow hg105 nb96 (by omega)
              cases bb
              ·
                have Jy105 : Jx (kr2 + 1) fp105 w19 := hJb
                refine sd_vv rfl rfl rfl (vv_not rfl) ?_
                refine sd_vv rfl rfl rfl (vv_pickT rfl rfl) ?_
                refine sd_done ?_
                refine sw_condT rfl ?_
                refine sw_ret ?_
                refine block_r ?_
                exact ⟨(Kp.trans (Kp.gr (Kp.gr (Kp.refl fpr2 w16) Gw17) Gw18) KF105 (fun c hc => Or.inl hc : ∀ c ∈ fpr2, c ∈ fpr2 ∨ w16.heap.size ≤ c)), fp105, subr105, rfl, ((kr2 + 1), fp105), ⟨(List.getElem?_eq_some_iff.1 hx105).1, sub105, (sub_grow s0r2 subr105 (by omega))⟩, rfl, Jy105⟩
              ·
                have Jy105 : J (kr2 + 1) fp105 w19 := hJb
                refine sd_vv rfl rfl rfl (vv_not rfl) ?_
                refine sd_vv rfl rfl rfl (vv_pickT rfl rfl) ?_
                refine sd_done ?_
                refine sw_condF rfl ?_
                refine sw_skip ?_
                refine block_n ?_
                subst hnx2
                exact ⟨(Kp.trans (Kp.gr (Kp.gr (Kp.refl fpr2 w16) Gw17) Gw18) KF105 (fun c hc => Or.inl hc : ∀ c ∈ fpr2, c ∈ fpr2 ∨ w16.heap.size ≤ c)), fp105, subr105, ((kr2 + 1), fp105, rr105), ⟨hm, hd105, sub105, (sub_grow s0r2 subr105 (by omega))⟩, rfl, Jy105⟩
            ·
              replace hm := cnd_f c3 hm
              refine sd_skip rfl rfl rfl ?_
              refine sd_skip rfl rfl rfl ?_
              refine sd_skip rfl rfl rfl ?_
              refine sd_skip rfl rfl rfl ?_
              refine sd_skip rfl rfl rfl ?_
              refine sd_vv rfl rfl rfl (vv_pickF rfl rfl) ?_
              refine sd_done ?_
              refine sw_condF rfl ?_
              refine sw_skip ?_
              refine block_n ?_
              have J122 := (hJ.gr J101 Gw18)
              subst hnx2
              exact ⟨(Kp.gr (Kp.gr (Kp.refl fpr2 w16) Gw17) Gw18), fpr2, (fun c hc => Or.inl hc : ∀ c ∈ fpr2, c ∈ fpr2 ∨ w16.heap.size ≤ c), (kr2, fpr2, rl2), ⟨hm, dr2, sr2, (sub_grow s0r2 (fun c hc => Or.inl hc : ∀ c ∈ fpr2, c ∈ fpr2 ∨ w16.heap.size ≤ c) (by omega))⟩, rfl, J122⟩
          · clear hm; rintro Dw20 fpdw20 w20 hDw20 Dfw20 nw20 ⟨⟨kd, fpe, rd⟩, ⟨hm, dd, sd, s0d⟩, ed, Jd⟩ Kw20
            replace ed : fpdw20 = fpe := ed
            subst ed
            replace Jd : J kd fpdw20 w20 := Jd
            have z124 := Kw20.size
            have lt125 := Df.lt (w := w20) Dfw20
            have nb126 := notin_grow s0d Nw6_0 (by omega)
            have nb127 := notin_grow s0d Nw6_1 (by omega)
            have nb128 := notin_grow s0d Nw6_2 (by omega)
            have nb129 := notin_grow s0d Pw6_1 (by omega)
            have nb130 := notin_grow s0d nb79 (by omega)
            have nb131 := notin_grow s0d nb81 (by omega)
            have MKw20 := MkI.cons (MkI.kp MZ89 Kw20 s0d) MZ89 hDw20 (by omega) Dfw20 nw20
            replace hm := itL_end hm
            unfold cover_tree_labels_1_D2 at hm
            try dsimp only at hm
            refine block_n ?_
            refine block_n ?_
            refine then_n ?_
            refine sw_seq ?_
            refine sw_seq ?_
            -- region 12 tree.go:138
            refine sw_region [(0, 0)] rfl rfl rfl ?_
            have B132 := (Bx.kp B87 Kw20 Pw6_1)
            refine sd_vv rfl rfl rfl (vv_load1 (v := .int .i64 a2) one_180 rfl B132 rfl) ?_
            refine sd_done ?_
            -- region 13 tree.go:138
            refine sw_region [(0, 0), (1, 0)] rfl rfl rfl ?_
            refine sd_ev rfl rfl rfl (ev_alloc (cs := [.int .i64 0]) zv_180 rfl) ?_
            rintro _ w21 ⟨b21, rfl, hbw21, Bw21, Gw21⟩
            have z133 := Gw21.size
            have lt134 := Bw21.lt
            have nb135 : b21 ∉ fpdw20 := fun h => absurd (hJ.lt Jd _ h) (by omega)
            refine sd_ev rfl rfl rfl (ev_st1 (cs' := [.int .i64 a2]) (one_180).siz rfl rfl rfl Bw21 rfl rfl) ?_
            rintro _ w22 ⟨Bw22, Mw22⟩
            have J136 := (hJ.gr Jd Gw21)
            have MK137 := (MkI.gr MKw20 Gw21)
            have z138 := Mw22.size
            refine sd_done ?_
            -- region 5 tree.go:138
            refine sw_region [(0, 0), (1, 0), (2, 0), (3, 0)] rfl rfl rfl ?_
            refine sd_vv rfl rfl rfl (vv_load1 (v := .int .i64 a2) one_180 rfl Bw22 rfl) ?_
            refine sd_vv rfl rfl rfl (vv_move rfl) ?_
            have hb := bnd hm; clear hm; obtain ⟨x10, hx10, hm⟩ := hb
            refine sd_ev rfl rfl rfl (ev_call en_240 rfl (cover_node_toward_w a2 x1 _ hx10 _)) ?_
            rintro _ w23 ⟨rfl, Gw23⟩
            have J139 := (hJ.md J136 Mw22 nb135)
            have z140 := Gw23.size
            have B141 := (Bx.gr Bw22 Gw23)
            refine sd_ev rfl rfl rfl (ev_st1 (cs' := [.int .i64 x10]) (one_180).siz rfl rfl rfl B141 rfl rfl) ?_
            rintro _ w24 ⟨Bw24, Mw24⟩
            have J142 := (hJ.gr J139 Gw23)
            have MK143 := (MkI.gr (MkI.md MK137 Mw22 Bw21) Gw23)
            have z144 := Mw24.size
            refine sd_nil ?_
            have J145 := (hJ.md J142 Mw24 nb135)
            have KI146 : Kp fp w w24 := (Kp.md (Kp.gr (Kp.md (Kp.gr (Kp.trans KI83 Kw20 sl1) Gw21) Mw22 (Or.inr (by omega))) Gw23) Mw24 (Or.inr (by omega)))
            have B147 := (Bx.md (Bx.gr (Bx.md (Bx.gr (Bx.kp B84 Kw20 Nw6_0) Gw21) Mw22) Gw23) Mw24)
            have B148 := (Bx.md (Bx.gr (Bx.md (Bx.gr (Bx.kp B85 Kw20 Nw6_1) Gw21) Mw22) Gw23) Mw24)
            have B149 := (Bx.md (Bx.gr (Bx.md (Bx.gr (Bx.kp B86 Kw20 Nw6_2) Gw21) Mw22) Gw23) Mw24)
            have MK150 := (MkI.md MK143 Mw24 B141)
            subst hrec1
            refine ⟨⟨n1, x10, b21, kd, fpdw20, rd⟩, (Dw20 :: ks1), rfl, ?_, ⟨hm, dd, J145, sd, KI146, B147, B148, B149, nb126, nb127, nb128, Bw24, nb135, (by omega), (by omega), (by omega), (by omega), MK150⟩, Nat.lt_succ_self _⟩
            repeat' first | exact trivial | refine ⟨rfl, ?_⟩
          · clear hm; rintro Dw25 c rk fpdw25 w25 hDw25 Dfw25 nw25 hle ⟨rfl, ⟨kd, fpe⟩, ⟨led, sd, s0d⟩, ed, Jd⟩ Kw25
            replace ed : fpdw25 = fpe := ed
            subst ed
            replace Jd : Jx kd fpdw25 w25 := Jd
            have z151 := Kw25.size
            have lt152 := Df.lt (w := w25) Dfw25
            have nb153 := notin_grow s0d Nw6_0 (by omega)
            have nb154 := notin_grow s0d Nw6_1 (by omega)
            have nb155 := notin_grow s0d Nw6_2 (by omega)
            have nb156 := notin_grow s0d Pw6_1 (by omega)
            have nb157 := notin_grow s0d nb79 (by omega)
            have nb158 := notin_grow s0d nb81 (by omega)
            have MKw25 := MkI.cons (MkI.kp MZ89 Kw25 s0d) MZ89 hDw25 (by omega) Dfw25 nw25
            refine sw_ret ?_
            refine block_r ?_
            refine block_r ?_
            refine then_r ?_
            refine then_r ?_
            refine block_r ?_
            have KI159 : Kp fp w w25 := (Kp.trans KI83 Kw25 sl1)
            obtain ⟨wl160, lv160, kl160⟩ := MkI.leave MKw25
            have Jl160 := MkI.stb hJx MKw25 Jd kl160
            have Kl160 := MkI.trans MKw25 KI159 kl160
            exact ⟨_, _, lv160, res_none rfl, Kl160, .inr ⟨_, _, sd, (by rw [List.length_map]; exact led), Jl160⟩⟩
      ·
        replace hm := ite_f (of_decide_eq_false c1) hm
        refine sw_exit ?_
        refine then_x ?_
        refine then_x ?_
        refine block_x ?_
        obtain ⟨wl161, lv161, kl161⟩ := MkI.leave MKw6
        have Jl161 := MkI.stb hJ MKw6 JLw6 kl161
        have Kl161 := MkI.trans MKw6 KLw6 kl161
        have he := Option.some.inj hm
        have hl := Dr.last (c := (fun (x : Int × Int) => ([.int .i64 x.1, .int .i64 x.2] : List Value))) dl1 he.symm
        refine ⟨_, _, lv161, res_none rfl, Kl161, .inl ⟨_, sl1, ?_⟩⟩
        rw [← hl]; exact Jl161

set_option maxHeartbeats 2000000 in
theorem cover_nodeKey_w (p0 : W2) (p1 : Int)  (r : W2) (hm : cover_nodeKey p0 p1 = some r) (w : World)   :
    Calls Tryz.prog 195 [kv p0, .int .i64 p1].toArray w fun e w' => ∃ v, e = .returned v ∧ (v = kv r ∧ Gr w w') := by
  unfold cover_nodeKey at hm
  refine calls_of_sw (R := fun v w' => v = kv r ∧ Gr w w') 9 Tryz.func195 rfl rfl rfl ?_
  refine sw_seq ?_
  -- region 0 cover.go:162
  refine sw_region [(0, 0), (1, 0)] rfl rfl rfl ?_
  refine sd_ev rfl rfl rfl (ev_box (cs := kb p0) rfl rfl) ?_
  rintro _ w1 ⟨b1, rfl, hbw1, Bw1, Gw1⟩
  have z1 := Gw1.size
  have lt2 := Bw1.lt
  refine sd_ev rfl rfl rfl (ev_alloc (cs := kb k0) zv_23 rfl) ?_
  rintro _ w2 ⟨b2, rfl, hbw2, Bw2, Gw2⟩
  have z3 := Gw2.size
  have lt4 := Bw2.lt
  refine sd_done ?_
  refine sw_seq ?_
  -- region 1 cover.go:162
  refine sw_region [(0, 0), (1, 0), (2, 0), (3, 0), (4, 0)] rfl rfl rfl ?_
  have B5 := (Bx.gr Bw1 Gw2)
  refine sd_vv rfl rfl rfl (vv_loadW agg_23 rfl B5 rfl) ?_
  refine sd_vv rfl rfl rfl (vv_move rfl) ?_
  refine sd_vv rfl rfl rfl (vv_cvIU cv_180_24 rfl) ?_
  refine sd_ev rfl rfl rfl (ev_call en_48 rfl (derive_c p0 (un8 30#8) (un8_nn _) (un8_le _) (wd p1) _)) ?_
  rintro _ w3 ⟨rfl, Gw3⟩
  have z6 := Gw3.size
  have B7 := (Bx.gr Bw2 Gw3)
  refine sd_ev rfl rfl rfl (ev_stM (cs' := kb (drv p0 (un8 30#8) (wd p1))) (vs := kb (drv p0 (un8 30#8) (wd p1))) (agg_23).siz rfl rfl rfl rfl rfl B7 rfl (by obtain ⟨kk0, hk0⟩ := ex_of (drv p0 (un8 30#8) (wd p1)); rw [← hk0]; first | done | rfl)) ?_
  rintro _ w4 ⟨Bw4, Mw4⟩
  have z8 := Mw4.size
  refine sd_done ?_
  refine sw_ret ?_
  have X9 : Gr w w4 := (Gr.md (Gr.trans (Gr.trans (Gr.trans (Gr.refl w) Gw1) Gw2) Gw3) Mw4)
  have hr := Option.some.inj hm
  subst hr
  refine ⟨_, _, rfl, res_1 rfl (rv_cellW agg_23 rfl Bw4 rfl), ?_⟩
  exact ⟨rfl, X9⟩

set_option maxHeartbeats 2000000 in
theorem cover_descend_w (p0 : W2) (p1 : Int) (p2 : Int)  (r : W2) (hm : cover_descend p0 p1 p2 = some r) (w : World)   :
    Calls Tryz.prog 197 [kv p0, .int .i64 p1, .int .i64 p2].toArray w fun e w' => ∃ v, e = .returned v ∧ (v = kv r ∧ Gr w w') := by
  unfold cover_descend at hm
  refine calls_of_sw (R := fun v w' => v = kv r ∧ Gr w w') 20 Tryz.func197 rfl rfl rfl ?_
  refine sw_seq ?_
  -- region 0 cover.go:147
  refine sw_region [(0, 0), (1, 0)] rfl rfl rfl ?_
  refine sd_ev rfl rfl rfl (ev_box (cs := kb p0) rfl rfl) ?_
  rintro _ w1 ⟨b1, rfl, hbw1, Bw1, Gw1⟩
  have z1 := Gw1.size
  have lt2 := Bw1.lt
  refine sd_ev rfl rfl rfl (ev_alloc (cs := kb k0) zv_23 rfl) ?_
  rintro _ w2 ⟨b2, rfl, hbw2, Bw2, Gw2⟩
  have z3 := Gw2.size
  have lt4 := Bw2.lt
  refine sd_done ?_
  refine sw_seq ?_
  refine sw_seq ?_
  -- region 1 cover.go:148
  refine sw_region [(0, 0), (1, 0), (2, 0)] rfl rfl rfl ?_
  refine sd_vv rfl rfl rfl (vv_move rfl) ?_
  refine sd_vv rfl rfl rfl (vv_move rfl) ?_
  have hb := bnd hm; clear hm; obtain ⟨x1, hx1, hm⟩ := hb
  refine sd_ev rfl rfl rfl (ev_call en_191 rfl (cover_path_w p1 p2 _ hx1 _)) ?_
  rintro _ w3 ⟨k3_c0_0, k3_c0_1, rfl, O3_c0_0, f3_c0_0, O3_c0_1, f3_c0_1, Gw3⟩
  have z5 := Gw3.size
  have lt6 := O3_c0_0.lt
  have lt7 := O3_c0_1.lt
  refine sd_done ?_
  refine sw_block ?_
  have hb := bnd hm; clear hm; obtain ⟨l2, hl2, hm⟩ := hb
  have X8 : Gr w w3 := (Gr.trans (Gr.trans (Gr.trans (Gr.refl w) Gw1) Gw2) Gw3)
  have B9 := (Bx.gr (Bx.gr Bw1 Gw2) Gw3)
  have B10 := (Bx.gr Bw2 Gw3)
  refine sw_rangeFunc (gf := 239) rfl en_239 (cover_path_1_it x1.1 x1.2 _ _ _ hl2 _ O3_c0_0 O3_c0_1) (by intro x hx; obtain ⟨a, _, rfl⟩ := List.mem_map.1 hx; rfl) rfl _ (fun _ _ _ _ => False) ([b1]) (stb_mk (α := W2) (fun a4 rk => itL cover_descend_R1 cover_descend_D1 (List.drop rk l2) a4 = some r) (fun a4 => ([b1])) (fun a4 W => Bx W b1 23 (kb a4) ∧ True) (by rintro a4 W ⟨F0, _⟩ b hb; have q0 := F0.lt; replace hb : b ∈ ([b1]) := hb; simp only [List.mem_cons, List.mem_append, mem_zf, List.not_mem_nil, or_false, false_or, not_or, ne_eq, List.nil_append, List.cons_append, true_and, and_true, false_and, and_false, not_true_eq_false, not_false_eq_true, or_true, true_or] at hb; omega) (by rintro a4 W W' ⟨F0, _⟩ E hs; replace hs : ∀ b ∈ ([b1]), W'.heap[b]? = W.heap[b]? := hs; exact ⟨(hs _ (by simp)).trans F0, trivial⟩)) (fun _ => stb_false) (by intro b hb; simp only [List.mem_cons, List.mem_append, mem_zf, List.not_mem_nil, or_false, false_or, not_or, ne_eq, List.nil_append, List.cons_append, true_and, and_true, false_and, and_false, not_true_eq_false, not_false_eq_true, or_true, true_or] at hb ⊢; omega) ⟨p0, hm, rfl, B9, trivial⟩ ?_ ?_ ?_
  · rintro l rk x fp w4 hl hx _ Kw4 hF hln hlt
    clear hm
    obtain ⟨e5, hxe, rfl⟩ := map_some hx
    have Zw4 : Kz [(1, b1)] w3 w4 := kz_of_kp Kw4 (by intro k hk; simp only [Nin, and_true, List.mem_cons, List.mem_append, mem_zf, List.not_mem_nil, or_false, false_or, not_or, ne_eq, List.nil_append, List.cons_append, true_and, and_true, false_and, and_false, not_true_eq_false, not_false_eq_true, or_true, true_or] at hk ⊢; omega)
    have z11 := Kw4.size
    -- region 2 cover.go:148
    refine sw_region [(0, 0)] rfl rfl rfl ?_
    refine sd_vv rfl rfl rfl (vv_assign rfl) ?_
    refine sd_nil ?_
    refine ⟨rfl, (Gr.refl _), ?_⟩
    rintro w5 Mw5 ⟨a4, hm, rfl, Fw5_0, -⟩
    have z12 := Mw5.size
    have lt13 := Fw5_0.lt
    replace hm := itL_at hm hxe
    generalize hnx1 : itL cover_descend_R1 cover_descend_D1 (List.drop (rk + 1) l2) = nx1 at hm
    unfold cover_descend_R1 at hm
    try dsimp only at hm
    refine sw_block ?_
    refine sw_seq ?_
    -- region 3 cover.go:149
    refine sw_region [(0, 0)] rfl rfl rfl ?_
    refine sd_vv rfl rfl rfl (vv_assign rfl) ?_
    refine sd_done ?_
    have X14 : Gr w w5 := (Gr.md (Gr.kz X8 Zw4) Mw5)
    refine sw_joinD (β := BitVec 8) [8, 13, 14, 15] (fun a6 => [(8, bv a6)]) (fun a6 wr => (cover_descend_J2 a4 nx1 a6 = some r) ∧ Kz [] w5 wr) ?_ ?_
    · clear hm; rintro a6 w6 ⟨hm, Kw6⟩
      have z15 := Kw6.size
      unfold cover_descend_J2 at hm
      -- region 6 cover.go:153
      refine sw_region [(0, 0), (1, 0), (2, 0), (3, 0)] rfl rfl rfl ?_
      have B16 := (Bx.kz Fw5_0 Kw6)
      refine sd_vv rfl rfl rfl (vv_loadW agg_23 rfl B16 rfl) ?_
      refine sd_vv rfl rfl rfl (vv_move rfl) ?_
      refine sd_ev rfl rfl rfl (ev_call en_48 rfl (derive_c a4 (un8 a6) (un8_nn _) (un8_le _) 0#64 _)) ?_
      rintro _ w7 ⟨rfl, Gw7⟩
      have z17 := Gw7.size
      have B18 := (Bx.gr B16 Gw7)
      refine sd_ev rfl rfl rfl (ev_stM (cs' := kb (drv a4 (un8 a6) 0#64)) (vs := kb (drv a4 (un8 a6) 0#64)) (agg_23).siz rfl rfl rfl rfl rfl B18 rfl (by obtain ⟨kk0, hk0⟩ := ex_of (drv a4 (un8 a6) 0#64); rw [← hk0]; first | done | rfl)) ?_
      rintro _ w8 ⟨Bw8, Mw8⟩
      have z19 := Mw8.size
      refine sd_nil ?_
      refine block_n ?_
      have K_20 : Kz [(1, b1)] w5 w8 := (Kz.md (Kz.gr (Kz.kz (Kz.refl _ _) Kw6) Gw7) Mw8)
      have Kq20 : Kp ([b1]) w5 w8 := kp_of_kz K_20 (by intro k hk; simp only [Nin, and_true, List.mem_cons, List.mem_append, mem_zf, List.not_mem_nil, or_false, false_or, not_or, ne_eq, List.nil_append, List.cons_append, true_and, and_true, false_and, and_false, not_true_eq_false, not_false_eq_true, or_true, true_or] at hk ⊢; omega)
      subst hnx1
      exact ⟨Kq20, ([b1]), (by intro c hc; simp only [List.mem_cons, List.mem_append, mem_zf, List.not_mem_nil, or_false, false_or, not_or, ne_eq, List.nil_append, List.cons_append, true_and, and_true, false_and, and_false, not_true_eq_false, not_false_eq_true, or_true, true_or] at hc ⊢; omega), ⟨drv a4 (un8 a6) 0#64, hm, rfl, Bw8, trivial⟩⟩
    ·
      refine sw_seq ?_
      -- region 4 cover.go:150
      refine sw_region [(0, 0), (1, 0), (2, 0)] rfl rfl rfl ?_
      refine sd_vv rfl rfl rfl (vv_move rfl) ?_
      have hb := bnd hm; clear hm; obtain ⟨x7, hx7, hm⟩ := hb
      refine sd_vv rfl rfl rfl (vv_remI (a := e5) (b := 2) rfl rfl hx7) ?_
      refine sd_vv rfl rfl rfl (vv_eql (a := x7) (b := 1) rfl rfl) ?_
      refine sd_done ?_
      refine sw_cond rfl (fun c1 => ?_) (fun c1 => ?_)
      ·
        replace hm := ite_t (of_decide_eq_true c1) hm
        -- region 5 cover.go:151
        refine sw_region [(0, 0)] rfl rfl rfl ?_
        refine sd_vv rfl rfl rfl (vv_assign rfl) ?_
        refine sd_nil ?_
        have K_21 : Kz [] w5 w5 := (Kz.refl _ _)
        refine ⟨rfl, 32#8, ?_, hm, K_21⟩
        repeat' first | exact trivial | refine ⟨rfl, ?_⟩
      ·
        replace hm := ite_f (of_decide_eq_false c1) hm
        refine sw_skip ?_
        have K_22 : Kz [] w5 w5 := (Kz.refl _ _)
        refine ⟨rfl, 31#8, ?_, hm, K_22⟩
        repeat' first | exact trivial | refine ⟨rfl, ?_⟩
  · clear hm; rintro Dw9 fp w9 hDw9 Dfw9 nw9 ⟨a4, hm, rfl, Fw9_0, -⟩ Kw9
    replace hm := itL_end hm
    have Zw9 : Kz [(1, b1)] w3 w9 := kz_of_kp Kw9 (by intro k hk; simp only [Nin, and_true, List.mem_cons, List.mem_append, mem_zf, List.not_mem_nil, or_false, false_or, not_or, ne_eq, List.nil_append, List.cons_append, true_and, and_true, false_and, and_false, not_true_eq_false, not_false_eq_true, or_true, true_or] at hk ⊢; omega)
    have z23 := Kw9.size
    have lt24 := Df.lt (w := w9) Dfw9
    simp only [List.mem_cons, List.mem_append, mem_zf, List.not_mem_nil, or_false, false_or, not_or, ne_eq, List.nil_append, List.cons_append, true_and, and_true, false_and, and_false, not_true_eq_false, not_false_eq_true, or_true, true_or, not_and] at nw9
    have lt25 := Fw9_0.lt
    unfold cover_descend_D1 at hm
    try dsimp only at hm
    refine block_n ?_
    refine then_n ?_
    refine sw_seq ?_
    -- region 7 cover.go:155
    refine sw_region [(0, 0), (1, 0)] rfl rfl rfl ?_
    refine sd_vv rfl rfl rfl (vv_loadW agg_23 rfl Fw9_0 rfl) ?_
    have B26 := (Bx.kz B10 Zw9)
    refine sd_ev rfl rfl rfl (ev_stM (cs' := kb a4) (vs := kb a4) (agg_23).siz rfl rfl rfl rfl rfl B26 rfl rfl) ?_
    rintro _ w10 ⟨Bw10, Mw10⟩
    have z27 := Mw10.size
    refine sd_done ?_
    refine sw_ret ?_
    have DL28 := (Df.md Dfw9 Mw10)
    have L28 := Md.put (w := w10) Dw9 (.deferred none)
    have zL28 := L28.size
    have B29 := (Bx.md Bw10 L28)
    have X30 : Gr w (w10.putObj Dw9 (.deferred none)) := (Gr.md (Gr.md (Gr.kz X8 Zw9) Mw10) L28)
    have hr := Option.some.inj hm
    subst hr
    refine ⟨_, _, ⟨Dw9, rfl, DL28, rfl⟩, res_1 rfl (rv_cellW agg_23 rfl B29 rfl), ?_⟩
    exact ⟨rfl, X30⟩
  · rintro _ _ _ _ _ _ _ _ _ h _
    exact h.elim

set_option maxHeartbeats 2000000 in
theorem cover_middle_w (p0 : W2)  (r : W2) (hm : cover_middle p0 = some r) (w : World)   :
    Calls Tryz.prog 196 [kv p0].toArray w fun e w' => ∃ v, e = .returned v ∧ (v = kv r ∧ Gr w w') := by
  unfold cover_middle at hm
  refine calls_of_sw (R := fun v w' => v = kv r ∧ Gr w w') 5 Tryz.func196 rfl rfl rfl ?_
  refine sw_seq ?_
  -- region 0 cover.go:159
  refine sw_region [(0, 0), (1, 0)] rfl rfl rfl ?_
  refine sd_ev rfl rfl rfl (ev_box (cs := kb p0) rfl rfl) ?_
  rintro _ w1 ⟨b1, rfl, hbw1, Bw1, Gw1⟩
  have z1 := Gw1.size
  have lt2 := Bw1.lt
  refine sd_ev rfl rfl rfl (ev_alloc (cs := kb k0) zv_23 rfl) ?_
  rintro _ w2 ⟨b2, rfl, hbw2, Bw2, Gw2⟩
  have z3 := Gw2.size
  have lt4 := Bw2.lt
  refine sd_done ?_
  refine sw_seq ?_
  -- region 1 cover.go:159
  refine sw_region [(0, 0), (1, 0), (2, 0)] rfl rfl rfl ?_
  have B5 := (Bx.gr Bw1 Gw2)
  refine sd_vv rfl rfl rfl (vv_loadW agg_23 rfl B5 rfl) ?_
  refine sd_ev rfl rfl rfl (ev_call en_48 rfl (derive_c p0 (un8 33#8) (un8_nn _) (un8_le _) 0#64 _)) ?_
  rintro _ w3 ⟨rfl, Gw3⟩
  have z6 := Gw3.size
  have B7 := (Bx.gr Bw2 Gw3)
  refine sd_ev rfl rfl rfl (ev_stM (cs' := kb (drv p0 (un8 33#8) 0#64)) (vs := kb (drv p0 (un8 33#8) 0#64)) (agg_23).siz rfl rfl rfl rfl rfl B7 rfl (by obtain ⟨kk0, hk0⟩ := ex_of (drv p0 (un8 33#8) 0#64); rw [← hk0]; first | done | rfl)) ?_
  rintro _ w4 ⟨Bw4, Mw4⟩
  have z8 := Mw4.size
  refine sd_done ?_
  refine sw_ret ?_
  have X9 : Gr w w4 := (Gr.md (Gr.trans (Gr.trans (Gr.trans (Gr.refl w) Gw1) Gw2) Gw3) Mw4)
  have hr := Option.some.inj hm
  subst hr
  refine ⟨_, _, rfl, res_1 rfl (rv_cellW agg_23 rfl Bw4 rfl), ?_⟩
  exact ⟨rfl, X9⟩

set_option maxHeartbeats 2000000 in
theorem cover_tree_key_w (p0 : Tcover_tree) (p1 : W2) (p2 : TSubset)  (r : W2) (hm : cover_tree_key p0 p1 p2 = some r) (w : World)   :
    Calls Tryz.prog 122 [.agg (Tcover_tree.cs p0).toArray, kv p1, .agg (TSubset.cs p2).toArray].toArray w fun e w' => ∃ v, e = .returned v ∧ (v = kv r ∧ Gr w w') := by
  unfold cover_tree_key at hm
  refine calls_of_sw (R := fun v w' => v = kv r ∧ Gr w w') 32 Tryz.func122 rfl rfl rfl ?_
  refine sw_seq ?_
  -- region 0 cover.go:165
  refine sw_region [(0, 0), (1, 0), (2, 0), (3, 0)] rfl rfl rfl ?_
  refine sd_ev rfl rfl rfl (ev_box (cs := Tcover_tree.cs p0) rfl rfl) ?_
  rintro _ w1 ⟨b1, rfl, hbw1, Bw1, Gw1⟩
  have z1 := Gw1.size
  have lt2 := Bw1.lt
  refine sd_ev rfl rfl rfl (ev_box (cs := kb p1) rfl rfl) ?_
  rintro _ w2 ⟨b2, rfl, hbw2, Bw2, Gw2⟩
  have z3 := Gw2.size
  have lt4 := Bw2.lt
  refine sd_ev rfl rfl rfl (ev_box (cs := TSubset.cs p2) rfl rfl) ?_
  rintro _ w3 ⟨b3, rfl, hbw3, Bw3, Gw3⟩
  have z5 := Gw3.size
  have lt6 := Bw3.lt
  refine sd_ev rfl rfl rfl (ev_alloc (cs := kb k0) zv_23 rfl) ?_
  rintro _ w4 ⟨b4, rfl, hbw4, Bw4, Gw4⟩
  have z7 := Gw4.size
  have lt8 := Bw4.lt
  refine sd_done ?_
  refine sw_seq ?_
  -- region 1 cover.go:166 DRAWS
  refine sw_drawN [([])] [] (.leaf [(0, 10), (1, 10), (2, 10), (3, 10), (4, 10), (5, 10)]) (by kernel_rfl) (by kernel_rfl) rfl (by kernel_rfl) ?_
  intro w5 Gw5 zw5
  refine sdz_leaf ?_
  refine dd_hn 0 rfl rfl rfl rfl (Kp.refl ([]) w5) (fun w hS => vv_fieldAddr fa_131_0 rfl) ?_
  have B9 := (Bx.gr (Bx.gr Bw3 Gw4) Gw5)
  refine dd_hn 0 rfl rfl rfl rfl (Kp.refl ([]) w5) (fun w hS => vv_load1 (v := .int .i64 p2.Node) one_3 rfl (Bx.kp B9 hS) rfl) ?_
  refine dd_hn 0 rfl rfl rfl rfl (Kp.refl ([]) w5) (fun w hS => vv_fieldAddr fa_131_1 rfl) ?_
  refine dd_hn 0 rfl rfl rfl rfl (Kp.refl ([]) w5) (fun w hS => vv_load1 (v := .int .i64 p2.Minus) one_3 rfl (Bx.kp B9 hS) rfl) ?_
  refine dd_hn 0 rfl rfl rfl rfl (Kp.refl ([]) w5) (fun w hS => vv_assign rfl) ?_
  refine dd_hn 0 rfl rfl rfl rfl (Kp.refl ([]) w5) (fun w hS => vv_assign rfl) ?_
  refine sd_done ?_
  refine sw_seq ?_
  refine sw_block ?_
  refine sw_seq ?_
  -- region 2 cover.go:168
  refine sw_region [(0, 0), (1, 0), (2, 0), (3, 0)] rfl rfl rfl ?_
  refine sd_vv rfl rfl rfl (vv_fieldAddr fa_175_0 rfl) ?_
  have B10 := (Bx.gr (Bx.gr (Bx.gr (Bx.gr Bw1 Gw2) Gw3) Gw4) Gw5)
  refine sd_vv rfl rfl rfl (vv_load1 (v := bv p0.kind) one_5 rfl B10 rfl) ?_
  refine sd_vv rfl rfl rfl (vv_eqlB (p := p0.kind) (q := 1#8) rfl rfl) ?_
  refine sd_vv rfl rfl rfl (vv_assign rfl) ?_
  refine sd_done ?_
  refine sw_cond rfl (fun c1 => ?_) (fun c1 => ?_)
  ·
    replace hm := ite_t (of_decide_eq_true c1) hm
    refine sw_seq ?_
    -- region 3 cover.go:169
    refine sw_region [(0, 0), (1, 0), (2, 0), (3, 0)] rfl rfl rfl ?_
    have B11 := (Bx.gr (Bx.gr (Bx.gr Bw2 Gw3) Gw4) Gw5)
    refine sd_vv rfl rfl rfl (vv_loadW agg_23 rfl B11 rfl) ?_
    refine sd_vv rfl rfl rfl (vv_move rfl) ?_
    have hb := bnd hm; clear hm; obtain ⟨x1, hx1, hm⟩ := hb
    refine sd_ev rfl rfl rfl (ev_call en_195 rfl (cover_nodeKey_w p1 p2.Node _ hx1 _)) ?_
    rintro _ w6 ⟨rfl, Gw6⟩
    have z12 := Gw6.size
    have B13 := (Bx.gr (Bx.gr Bw4 Gw5) Gw6)
    refine sd_ev rfl rfl rfl (ev_stM (cs' := kb x1) (vs := kb x1) (agg_23).siz rfl rfl rfl rfl rfl B13 rfl rfl) ?_
    rintro _ w7 ⟨Bw7, Mw7⟩
    have z14 := Mw7.size
    refine sd_done ?_
    refine sw_ret ?_
    refine block_r ?_
    refine then_r ?_
    have X15 : Gr w w7 := (Gr.md (Gr.trans (Gr.trans (Gr.trans (Gr.trans (Gr.trans (Gr.trans (Gr.refl w) Gw1) Gw2) Gw3) Gw4) Gw5) Gw6) Mw7)
    have hr := Option.some.inj hm
    subst hr
    refine ⟨_, _, rfl, res_1 rfl (rv_cellW agg_23 rfl Bw7 rfl), ?_⟩
    exact ⟨rfl, X15⟩
  ·
    replace hm := ite_f (of_decide_eq_false c1) hm
    refine sw_seq ?_
    -- region 4 cover.go:170
    refine sw_region [(0, 0), (1, 0), (2, 0)] rfl rfl rfl ?_
    refine sd_vv rfl rfl rfl (vv_move rfl) ?_
    refine sd_vv rfl rfl rfl (vv_eql (a := p2.Minus) (b := 0) rfl rfl) ?_
    refine sd_vv rfl rfl rfl (vv_assign rfl) ?_
    refine sd_done ?_
    refine sw_cond rfl (fun c2 => ?_) (fun c2 => ?_)
    ·
      replace hm := ite_t (of_decide_eq_true c2) hm
      refine sw_seq ?_
      -- region 5 cover.go:171
      refine sw_region [(0, 0), (1, 0), (2, 0)] rfl rfl rfl ?_
      have B16 := (Bx.gr (Bx.gr (Bx.gr Bw2 Gw3) Gw4) Gw5)
      refine sd_vv rfl rfl rfl (vv_loadW agg_23 rfl B16 rfl) ?_
      refine sd_ev rfl rfl rfl (ev_call en_48 rfl (derive_c p1 (un8 34#8) (un8_nn _) (un8_le _) 0#64 _)) ?_
      rintro _ w8 ⟨rfl, Gw8⟩
      have z17 := Gw8.size
      have B18 := (Bx.gr (Bx.gr Bw4 Gw5) Gw8)
      refine sd_ev rfl rfl rfl (ev_stM (cs' := kb (drv p1 (un8 34#8) 0#64)) (vs := kb (drv p1 (un8 34#8) 0#64)) (agg_23).siz rfl rfl rfl rfl rfl B18 rfl (by obtain ⟨kk0, hk0⟩ := ex_of (drv p1 (un8 34#8) 0#64); rw [← hk0]; first | done | rfl)) ?_
      rintro _ w9 ⟨Bw9, Mw9⟩
      have z19 := Mw9.size
      refine sd_done ?_
      refine sw_ret ?_
      refine block_r ?_
      refine then_r ?_
      have X20 : Gr w w9 := (Gr.md (Gr.trans (Gr.trans (Gr.trans (Gr.trans (Gr.trans (Gr.trans (Gr.refl w) Gw1) Gw2) Gw3) Gw4) Gw5) Gw8) Mw9)
      have hr := Option.some.inj hm
      subst hr
      refine ⟨_, _, rfl, res_1 rfl (rv_cellW agg_23 rfl Bw9 rfl), ?_⟩
      exact ⟨rfl, X20⟩
    ·
      replace hm := ite_f (of_decide_eq_false c2) hm
      refine sw_skip ?_
      refine block_n ?_
      refine then_n ?_
      refine sw_seq ?_
      -- region 6 cover.go:173
      refine sw_region [(0, 0), (1, 0), (2, 0), (3, 0), (4, 0), (5, 0), (6, 0), (7, 0)] rfl rfl rfl ?_
      have B21 := (Bx.gr (Bx.gr (Bx.gr Bw2 Gw3) Gw4) Gw5)
      refine sd_vv rfl rfl rfl (vv_loadW agg_23 rfl B21 rfl) ?_
      refine sd_vv rfl rfl rfl (vv_move rfl) ?_
      have hb := bnd hm; clear hm; obtain ⟨x2, hx2, hm⟩ := hb
      refine sd_ev rfl rfl rfl (ev_call en_195 rfl (cover_nodeKey_w p1 p2.Node _ hx2 _)) ?_
      rintro _ w10 ⟨rfl, Gw10⟩
      have z22 := Gw10.size
      refine sd_vv rfl rfl rfl (vv_move rfl) ?_
      refine sd_vv rfl rfl rfl (vv_move rfl) ?_
      have hb := bnd hm; clear hm; obtain ⟨x3, hx3, hm⟩ := hb
      refine sd_ev rfl rfl rfl (ev_call en_197 rfl (cover_descend_w x2 p2.Node p2.Minus _ hx3 _)) ?_
      rintro _ w11 ⟨rfl, Gw11⟩
      have z23 := Gw11.size
      have hb := bnd hm; clear hm; obtain ⟨x4, hx4, hm⟩ := hb
      refine sd_ev rfl rfl rfl (ev_call en_196 rfl (cover_middle_w x3 _ hx4 _)) ?_
      rintro _ w12 ⟨rfl, Gw12⟩
      have z24 := Gw12.size
      have B25 := (Bx.gr (Bx.gr (Bx.gr (Bx.gr Bw4 Gw5) Gw10) Gw11) Gw12)
      refine sd_ev rfl rfl rfl (ev_stM (cs' := kb x4) (vs := kb x4) (agg_23).siz rfl rfl rfl rfl rfl B25 rfl rfl) ?_
      rintro _ w13 ⟨Bw13, Mw13⟩
      have z26 := Mw13.size
      refine sd_done ?_
      refine sw_ret ?_
      have X27 : Gr w w13 := (Gr.md (Gr.trans (Gr.trans (Gr.trans (Gr.trans (Gr.trans (Gr.trans (Gr.trans (Gr.trans (Gr.refl w) Gw1) Gw2) Gw3) Gw4) Gw5) Gw10) Gw11) Gw12) Mw13)
      have hr := Option.some.inj hm
      subst hr
      refine ⟨_, _, rfl, res_1 rfl (rv_cellW agg_23 rfl Bw13 rfl), ?_⟩
      exact ⟨rfl, X27⟩

set_option maxHeartbeats 2000000 in
theorem cover_Secret_w (p0 : W2) (p1 : TScheme) (p2 : Int)  (r : TSecret × Int) (hm : cover_Secret p0 p1 p2 = some r) (w : World)   :
    Calls Tryz.prog 137 [kv p0, .agg (TScheme.cs p1).toArray, .int .i64 p2].toArray w fun e w' => ∃ v, e = .returned v ∧ (∃ (ur0_1 : Value) (zr0_1 : Nat) (gr0_1 : Nat), v = .tuple [.agg (TSecret.cs r.1 ur0_1).toArray, .int .i64 r.2].toArray ∧ Own w' zr0_1 gr0_1 92 18 ur0_1 (r.1.Labels.map TLabel.cs) ∧ Hdn (zr0_1 = 0 ∨ w.heap.size ≤ gr0_1) ∧ Gr w w') := by
  unfold cover_Secret at hm
  refine calls_of_sw (R := fun v w' => ∃ (ur0_1 : Value) (zr0_1 : Nat) (gr0_1 : Nat), v = .tuple [.agg (TSecret.cs r.1 ur0_1).toArray, .int .i64 r.2].toArray ∧ Own w' zr0_1 gr0_1 92 18 ur0_1 (r.1.Labels.map TLabel.cs) ∧ Hdn (zr0_1 = 0 ∨ w.heap.size ≤ gr0_1) ∧ Gr w w') 61 Tryz.func137 rfl rfl rfl ?_
  refine sw_seq ?_
  -- region 0 cover.go:177
  refine sw_region [(0, 0), (1, 0), (2, 0), (3, 0)] rfl rfl rfl ?_
  refine sd_ev rfl rfl rfl (ev_box (cs := kb p0) rfl rfl) ?_
  rintro _ w1 ⟨b1, rfl, hbw1, Bw1, Gw1⟩
  have z1 := Gw1.size
  have lt2 := Bw1.lt
  refine sd_ev rfl rfl rfl (ev_box (cs := TScheme.cs p1) rfl rfl) ?_
  rintro _ w2 ⟨b2, rfl, hbw2, Bw2, Gw2⟩
  have z3 := Gw2.size
  have lt4 := Bw2.lt
  refine sd_ev rfl rfl rfl (ev_alloc (cs := TSecret.cs (TSecret.mk 0 [] (TPoint.mk 0#64 0#64)) (.slice none 0 0)) zv_33 rfl) ?_
  rintro _ w3 ⟨b3, rfl, hbw3, Bw3, Gw3⟩
  have z5 := Gw3.size
  have lt6 := Bw3.lt
  refine sd_vv rfl rfl rfl (vv_assign rfl) ?_
  refine sd_done ?_
  refine sw_seq ?_
  -- region 1 cover.go:178
  refine sw_region [(0, 0), (1, 0), (2, 0), (3, 0), (4, 0), (5, 0), (6, 0), (7, 0)] rfl rfl rfl ?_
  have B7 := (Bx.gr Bw2 Gw3)
  refine sd_vv rfl rfl rfl (vv_loadW agg_28 rfl B7 rfl) ?_
  have hb := bnd hm; clear hm; obtain ⟨x1, hx1, hm⟩ := hb
  refine sd_ev rfl rfl rfl (ev_call en_112 rfl (cover_enter_w p1 ([] : List TSubset) _ _ _ _ _ hx1 _ (Own.rd (own_nil _ 0 131 2)))) ?_
  rintro _ w4 ⟨rfl, Gw4⟩
  have z8 := Gw4.size
  refine sd_vv rfl rfl rfl (vv_move rfl) ?_
  refine sd_vv rfl rfl rfl (vv_extract rfl rfl) ?_
  refine sd_vv rfl rfl rfl (vv_extract rfl rfl) ?_
  refine sd_ev rfl rfl rfl (ev_alloc (cs := Tcover_tree.cs (Tcover_tree.mk 0#8 0 0)) zv_175 rfl) ?_
  rintro _ w5 ⟨b5, rfl, hbw5, Bw5, Gw5⟩
  have z9 := Gw5.size
  have lt10 := Bw5.lt
  refine sd_ev rfl rfl rfl (ev_stM (cs' := Tcover_tree.cs x1.1) (vs := Tcover_tree.cs x1.1) (agg_175).siz rfl rfl rfl rfl rfl Bw5 rfl rfl) ?_
  rintro _ w6 ⟨Bw6, Mw6⟩
  have z11 := Mw6.size
  refine sd_vv rfl rfl rfl (vv_assign rfl) ?_
  refine sd_done ?_
  refine sw_seq ?_
  refine sw_seq ?_
  -- region 2 cover.go:179
  refine sw_region [(0, 0), (1, 0)] rfl rfl rfl ?_
  refine sd_vv rfl rfl rfl (vv_move rfl) ?_
  refine sd_vv rfl rfl rfl (vv_neq (a := x1.2) (b := 0) rfl rfl) ?_
  refine sd_done ?_
  refine sw_cond rfl (fun c1 => ?_) (fun c1 => ?_)
  ·
    replace hm := ite_t (of_decide_eq_true c1) hm
    refine sw_seq ?_
    -- region 3 cover.go:180
    refine sw_region [(0, 0), (1, 0), (2, 0), (3, 0)] rfl rfl rfl ?_
    refine sd_vv rfl rfl rfl (vv_build (cs := TSecret.cs (TSecret.mk 0 [] (TPoint.mk 0#64 0#64)) (.slice none 0 0)) bs_33 rfl rfl) ?_
    refine sd_vv rfl rfl rfl (vv_move rfl) ?_
    have B12 := (Bx.md (Bx.gr (Bx.gr Bw3 Gw4) Gw5) Mw6)
    refine sd_ev rfl rfl rfl (ev_stM (cs' := TSecret.cs (TSecret.mk 0 [] (TPoint.mk 0#64 0#64)) (.slice none 0 0)) (vs := TSecret.cs (TSecret.mk 0 [] (TPoint.mk 0#64 0#64)) (.slice none 0 0)) (agg_33).siz rfl rfl rfl rfl (TSecret.cs_ones _ _ rfl) B12 rfl rfl) ?_
    rintro _ w7 ⟨Bw7, Mw7⟩
    have z13 := Mw7.size
    refine sd_vv rfl rfl rfl (vv_assign rfl) ?_
    refine sd_done ?_
    refine sw_ret ?_
    refine then_r ?_
    have X14 : Gr w w7 := (Gr.md (Gr.md (Gr.trans (Gr.trans (Gr.trans (Gr.trans (Gr.trans (Gr.refl w) Gw1) Gw2) Gw3) Gw4) Gw5) Mw6) Mw7)
    have hr := Option.some.inj hm
    subst hr
    refine ⟨_, _, rfl, res_2 rfl (rv_cellW agg_33 rfl Bw7 rfl) (rv_tmp rfl), ?_⟩
    exact ⟨(.slice none 0 0), 0, 0, rfl, (own_nil _ 0 92 18), ⟨.inl rfl⟩, X14⟩
  ·
    replace hm := ite_f (of_decide_eq_false c1) hm
    refine sw_skip ?_
    refine then_n ?_
    refine sw_seq ?_
    refine sw_seq ?_
    -- region 4 cover.go:182
    refine sw_region [(0, 0), (1, 0), (2, 0), (3, 0)] rfl rfl rfl ?_
    refine sd_vv rfl rfl rfl (vv_loadW agg_175 rfl Bw6 rfl) ?_
    refine sd_vv rfl rfl rfl (vv_move rfl) ?_
    have hb := bnd hm; clear hm; obtain ⟨x2, hx2, hm⟩ := hb
    refine sd_ev rfl rfl rfl (ev_call en_188 rfl (cover_tree_receiver_w x1.1 p2 _ hx2 _)) ?_
    rintro _ w8 ⟨rfl, Gw8⟩
    have z15 := Gw8.size
    refine sd_vv rfl rfl rfl (vv_not rfl) ?_
    refine sd_done ?_
    refine sw_cond rfl (fun c2 => ?_) (fun c2 => ?_)
    ·
      replace hm := cnd_t c2 hm
      refine sw_seq ?_
      -- region 5 cover.go:183
      refine sw_region [(0, 0), (1, 0), (2, 0)] rfl rfl rfl ?_
      refine sd_vv rfl rfl rfl (vv_build (cs := TSecret.cs (TSecret.mk 0 [] (TPoint.mk 0#64 0#64)) (.slice none 0 0)) bs_33 rfl rfl) ?_
      have B16 := (Bx.gr (Bx.md (Bx.gr (Bx.gr Bw3 Gw4) Gw5) Mw6) Gw8)
      refine sd_ev rfl rfl rfl (ev_stM (cs' := TSecret.cs (TSecret.mk 0 [] (TPoint.mk 0#64 0#64)) (.slice none 0 0)) (vs := TSecret.cs (TSecret.mk 0 [] (TPoint.mk 0#64 0#64)) (.slice none 0 0)) (agg_33).siz rfl rfl rfl rfl (TSecret.cs_ones _ _ rfl) B16 rfl rfl) ?_
      rintro _ w9 ⟨Bw9, Mw9⟩
      have z17 := Mw9.size
      refine sd_vv rfl rfl rfl (vv_assign rfl) ?_
      refine sd_done ?_
      refine sw_ret ?_
      refine then_r ?_
      have X18 : Gr w w9 := (Gr.md (Gr.trans (Gr.md (Gr.trans (Gr.trans (Gr.trans (Gr.trans (Gr.trans (Gr.refl w) Gw1) Gw2) Gw3) Gw4) Gw5) Mw6) Gw8) Mw9)
      have hr := Option.some.inj hm
      subst hr
      refine ⟨_, _, rfl, res_2 rfl (rv_cellW agg_33 rfl Bw9 rfl) (rv_tmp rfl), ?_⟩
      exact ⟨(.slice none 0 0), 0, 0, rfl, (own_nil _ 0 92 18), ⟨.inl rfl⟩, X18⟩
    ·
      replace hm := cnd_f c2 hm
      refine sw_skip ?_
      refine then_n ?_
      refine sw_seq ?_
      -- region 6 cover.go:185
      refine sw_region [(0, 0), (1, 0), (2, 0), (3, 0)] rfl rfl rfl ?_
      refine sd_vv rfl rfl rfl (vv_move rfl) ?_
      refine sd_vv rfl rfl rfl (vv_build (cs := TSecret.cs (TSecret.mk p2 [] (TPoint.mk 0#64 0#64)) (.slice none 0 0)) bs_33 rfl rfl) ?_
      refine sd_ev rfl rfl rfl (ev_alloc (cs := TSecret.cs (TSecret.mk 0 [] (TPoint.mk 0#64 0#64)) (.slice none 0 0)) zv_33 rfl) ?_
      rintro _ w10 ⟨b10, rfl, hbw10, Bw10, Gw10⟩
      have z19 := Gw10.size
      have lt20 := Bw10.lt
      refine sd_ev rfl rfl rfl (ev_stM (cs' := TSecret.cs (TSecret.mk p2 [] (TPoint.mk 0#64 0#64)) (.slice none 0 0)) (vs := TSecret.cs (TSecret.mk p2 [] (TPoint.mk 0#64 0#64)) (.slice none 0 0)) (agg_33).siz rfl rfl rfl rfl (TSecret.cs_ones _ _ rfl) Bw10 rfl rfl) ?_
      rintro _ w11 ⟨Bw11, Mw11⟩
      have z21 := Mw11.size
      refine sd_done ?_
      refine sw_seq ?_
      refine sw_seq ?_
      -- region 7 cover.go:186
      refine sw_region [(0, 0), (1, 0), (2, 0)] rfl rfl rfl ?_
      have B22 := (Bx.md (Bx.gr (Bx.gr Bw6 Gw8) Gw10) Mw11)
      refine sd_vv rfl rfl rfl (vv_loadW agg_175 rfl B22 rfl) ?_
      refine sd_vv rfl rfl rfl (vv_move rfl) ?_
      have hb := bnd hm; clear hm; obtain ⟨x3, hx3, hm⟩ := hb
      refine sd_ev rfl rfl rfl (ev_call en_202 rfl (cover_tree_labels_w x1.1 p2 _ hx3 _)) ?_
      rintro _ w12 ⟨k12_c0_0, k12_c0_1, rfl, O12_c0_0, f12_c0_0, O12_c0_1, f12_c0_1, Gw12⟩
      have z23 := Gw12.size
      have lt24 := O12_c0_0.lt
      have lt25 := O12_c0_1.lt
      refine sd_done ?_
      refine sw_block ?_
      have hb := bnd hm; clear hm; obtain ⟨l4, hl4, hm⟩ := hb
      have X26 : Gr w w12 := (Gr.trans (Gr.md (Gr.trans (Gr.trans (Gr.md (Gr.trans (Gr.trans (Gr.trans (Gr.trans (Gr.trans (Gr.refl w) Gw1) Gw2) Gw3) Gw4) Gw5) Mw6) Gw8) Gw10) Mw11) Gw12)
      have B27 := (Bx.gr (Bx.md (Bx.gr (Bx.gr (Bx.md (Bx.gr (Bx.gr (Bx.gr (Bx.gr Bw1 Gw2) Gw3) Gw4) Gw5) Mw6) Gw8) Gw10) Mw11) Gw12)
      have B28 := (Bx.gr (Bx.md (Bx.gr (Bx.gr (Bx.md (Bx.gr (Bx.gr B7 Gw4) Gw5) Mw6) Gw8) Gw10) Mw11) Gw12)
      have B29 := (Bx.gr (Bx.md (Bx.gr (Bx.gr (Bx.md (Bx.gr (Bx.gr Bw3 Gw4) Gw5) Mw6) Gw8) Gw10) Mw11) Gw12)
      have B30 := (Bx.gr B22 Gw12)
      have B31 := (Bx.gr Bw11 Gw12)
      refine sw_rangeFunc (gf := 251) rfl en_251 (cover_tree_labels_1_it x3.1 x3.2 _ _ _ hl4 _ O12_c0_0 O12_c0_1) (by intro x hx; obtain ⟨a, _, rfl⟩ := List.mem_map.1 hx; rfl) rfl _ (fun _ _ _ _ => False) ([b10] ++ zf 0 0) (stb_mk (α := List TLabel × Value × Nat × Nat) (fun ⟨a7, vy8, zy8, gy8⟩ rk => itL (cover_Secret_R1 p0 x1) (cover_Secret_D1 p2) (List.drop rk l4) a7 = some r) (fun ⟨a7, vy8, zy8, gy8⟩ => ([b10] ++ zf zy8 gy8)) (fun ⟨a7, vy8, zy8, gy8⟩ W => Own W zy8 gy8 92 18 vy8 (a7.map TLabel.cs) ∧ Hdn (zy8 = 0 ∨ w12.heap.size ≤ gy8) ∧ Bx W b10 33 (TSecret.cs (TSecret.mk p2 a7 (TPoint.mk 0#64 0#64)) vy8) ∧ True) (by rintro ⟨a7, vy8, zy8, gy8⟩ W ⟨F0, F1, F2, _⟩ b hb; have q0 := F0.lt; have q2 := F2.lt; replace hb : b ∈ ([b10] ++ zf zy8 gy8) := hb; simp only [List.mem_cons, List.mem_append, mem_zf, List.not_mem_nil, or_false, false_or, not_or, ne_eq, List.nil_append, List.cons_append, true_and, and_true, false_and, and_false, not_true_eq_false, not_false_eq_true, or_true, true_or] at hb; omega) (by rintro ⟨a7, vy8, zy8, gy8⟩ W W' ⟨F0, F1, F2, _⟩ E hs; replace hs : ∀ b ∈ ([b10] ++ zf zy8 gy8), W'.heap[b]? = W.heap[b]? := hs; exact ⟨Own.hs F0 hs (fun hz => by simp [mem_zf, hz]), F1, (hs _ (by simp)).trans F2, trivial⟩)) (fun _ => stb_false) (by intro b hb; simp only [List.mem_cons, List.mem_append, mem_zf, List.not_mem_nil, or_false, false_or, not_or, ne_eq, List.nil_append, List.cons_append, true_and, and_true, false_and, and_false, not_true_eq_false, not_false_eq_true, or_true, true_or] at hb ⊢; omega) ⟨⟨[], (.slice none 0 0), 0, 0⟩, hm, rfl, (own_nil _ 0 92 18), ⟨(.inl rfl)⟩, B31, trivial⟩ ?_ ?_ ?_
      · rintro l rk x fp w13 hl hx _ Kw13 hF hln hlt
        clear hm
        obtain ⟨⟨e9, e10⟩, hxe, rfl⟩ := map_some hx
        have Zw13 : Kz [(1, b10), (0, 0)] w12 w13 := kz_of_kp Kw13 (by intro k hk; simp only [Nin, and_true, List.mem_cons, List.mem_append, mem_zf, List.not_mem_nil, or_false, false_or, not_or, ne_eq, List.nil_append, List.cons_append, true_and, and_true, false_and, and_false, not_true_eq_false, not_false_eq_true, or_true, true_or] at hk ⊢; omega)
        have z32 := Kw13.size
        refine sw_seq ?_
        -- region 8 cover.go:186
        refine sw_region [(0, 0)] rfl rfl rfl ?_
        refine sd_vv rfl rfl rfl (vv_assign rfl) ?_
        refine sd_done ?_
        -- region 9 cover.go:186
        refine sw_region [(0, 0)] rfl rfl rfl ?_
        refine sd_vv rfl rfl rfl (vv_assign rfl) ?_
        refine sd_nil ?_
        refine ⟨rfl, (Gr.refl _), ?_⟩
        rintro w14 Mw14 ⟨⟨a7, vy8, zy8, gy8⟩, hm, rfl, Fw14_0, Fw14_1, Fw14_2, -⟩
        have z33 := Mw14.size
        have lt34 := Fw14_0.lth
        have lt35 := Fw14_2.lt
        replace hm := itL_at hm hxe
        generalize hnx1 : itL (cover_Secret_R1 p0 x1) (cover_Secret_D1 p2) (List.drop (rk + 1) l4) = nx1 at hm
        unfold cover_Secret_R1 at hm
        try dsimp only at hm
        refine sw_block ?_
        refine sw_seq ?_
        -- region 10 cover.go:187
        refine sw_region [(0, 0), (1, 0), (2, 0), (3, 0), (4, 0)] rfl rfl rfl ?_
        refine sd_vv rfl rfl rfl (vv_move rfl) ?_
        refine sd_vv rfl rfl rfl (vv_move rfl) ?_
        refine sd_vv rfl rfl rfl (vv_build (cs := TLabel.cs (TLabel.mk e9 e10 k0)) bs_92 rfl (by kernel_rfl)) ?_
        refine sd_ev rfl rfl rfl (ev_alloc (cs := TLabel.cs (TLabel.mk 0 0 k0)) zv_92 rfl) ?_
        rintro _ w15 ⟨b15, rfl, hbw15, Bw15, Gw15⟩
        have z36 := Gw15.size
        have lt37 := Bw15.lt
        refine sd_ev rfl rfl rfl (ev_stM (cs' := TLabel.cs (TLabel.mk e9 e10 k0)) (vs := TLabel.cs (TLabel.mk e9 e10 k0)) (agg_92).siz rfl rfl rfl rfl rfl Bw15 rfl rfl) ?_
        rintro _ w16 ⟨Bw16, Mw16⟩
        have z38 := Mw16.size
        refine sd_done ?_
        have X39 : Gr w w16 := (Gr.md (Gr.trans (Gr.md (Gr.kz X26 Zw13) Mw14) Gw15) Mw16)
        refine sw_joinD (β := W2) [38, 39, 40, 41, 42, 43, 44, 45, 46, 47, 48, 49, 50, 51, 52, 53] (fun a11 => []) (fun a11 wr => (cover_Secret_J2 a7 nx1 e9 e10 a11 = some r) ∧ Bx wr b15 92 (TLabel.cs (TLabel.mk e9 e10 a11)) ∧ Kz [(1, b15)] w16 wr) ?_ ?_
        · clear hm; rintro a11 w17 ⟨hm, Fw17_0, Kw17⟩
          have z40 := Kw17.size
          have lt41 := Fw17_0.lt
          unfold cover_Secret_J2 at hm
          -- region 14 cover.go:193
          refine sw_region [(0, 0), (1, 0), (2, 0), (3, 0), (4, 0), (5, 0), (6, 0)] rfl rfl rfl ?_
          refine sd_vv rfl rfl rfl (vv_fieldAddr fa_33_1 rfl) ?_
          have B42 := (Bx.kz (Bx.md (Bx.gr Fw14_2 Gw15) Mw16) Kw17)
          refine sd_vv rfl rfl rfl (vv_load1 (v := vy8) one_29 rfl B42 rfl) ?_
          refine sd_vv rfl rfl rfl (vv_loadW agg_92 rfl Fw17_0 rfl) ?_
          refine sd_ev rfl rfl rfl (ev_litT [(TLabel.mk e9 e10 a11)] TLabel.cs bsl_29_1 rfl rfl (ws_of rfl) rfl rfl rfl) ?_
          rintro vw18 w18 ⟨gw18, hbw18, Ow18, Gw18⟩
          have z43 := Gw18.size
          have lt44 := Ow18.lth
          have B45 := (Own.gr (Own.kz (Own.md (Own.gr Fw14_0 Gw15) Mw16 (tk1 ((pv_lt (A := (fun x => x ≠ b15)) lt34) : zy8 = 0 ∨ gy8 ≠ b15))) Kw17 (tk1 ((pv_lt (A := (fun x => x ≠ b15)) lt34) : zy8 = 0 ∨ gy8 ≠ b15))) Gw18)
          have hb := bnd hm; clear hm; obtain ⟨l12, hl12, hm⟩ := hb
          refine sd_ev rfl rfl rfl (ev_appT (l := a7) (m := [(TLabel.mk e9 e10 a11)]) (c := TLabel.cs) apt_29 rfl rfl B45 (Own.rd Ow18) hl12 (by decide)) ?_
          rintro vw19 w19 ⟨zw19, gw19, Ow19, Aw19, qw19, rw19⟩
          have z46 := Aw19.size
          refine sd_vv rfl rfl rfl (vv_fieldAddr fa_33_1 rfl) ?_
          have B47 := (Bx.ka (Bx.gr B42 Gw18) Aw19 (tk1 ((pv_0 (A := (fun x => x ≠ b10)) Fw14_1) : zy8 = 0 ∨ gy8 ≠ b10)))
          refine sd_ev rfl rfl rfl (ev_st1 (cs' := TSecret.cs (TSecret.mk p2 l12 (TPoint.mk 0#64 0#64)) vw19) (one_29).siz rfl rfl (Own.oneB Ow19) B47 rfl rfl) ?_
          rintro _ w20 ⟨Bw20, Mw20⟩
          have z48 := Mw20.size
          refine sd_nil ?_
          refine block_n ?_
          have B50 := (Own.md Ow19 Mw20 (tk1 ((pv_app (A := (fun x => x ≠ b10)) rw19 (pv_0 (A := (fun x => x ≠ b10)) Fw14_1)) : zw19 = 0 ∨ gw19 ≠ b10)))
          have K_49 : Kz [(1, b10), (zy8, gy8)] w14 w20 := (Kz.md (Kz.ka (Kz.gr (Kz.kz (Kz.md (Kz.gr (Kz.refl _ _) Gw15) Mw16) Kw17) Gw18) Aw19 (tk1 (tk0 : zy8 = 0 ∨ (gy8 = gy8 ∧ zy8 ≠ 0) ∨ w14.heap.size ≤ gy8))) Mw20)
          have Kq49 : Kp ([b10] ++ zf zy8 gy8) w14 w20 := kp_of_kz K_49 (by intro k hk; simp only [Nin, and_true, List.mem_cons, List.mem_append, mem_zf, List.not_mem_nil, or_false, false_or, not_or, ne_eq, List.nil_append, List.cons_append, true_and, and_true, false_and, and_false, not_true_eq_false, not_false_eq_true, or_true, true_or] at hk ⊢; omega)
          subst hnx1
          exact ⟨Kq49, ([b10] ++ zf zw19 gw19), (by intro c hc; have := ((pv_app (A := (fun x => (x = gy8 ∧ zy8 ≠ 0) ∨ w14.heap.size ≤ x)) rw19 tk0) : zw19 = 0 ∨ (gw19 = gy8 ∧ zy8 ≠ 0) ∨ w14.heap.size ≤ gw19); simp only [List.mem_cons, List.mem_append, mem_zf, List.not_mem_nil, or_false, false_or, not_or, ne_eq, List.nil_append, List.cons_append, true_and, and_true, false_and, and_false, not_true_eq_false, not_false_eq_true, or_true, true_or] at hc ⊢; omega), ⟨⟨l12, vw19, zw19, gw19⟩, hm, rfl, B50, ⟨(pv_app (A := (fun x => w12.heap.size ≤ x)) rw19 (pv_0 (A := (fun x => w12.heap.size ≤ x)) Fw14_1))⟩, Bw20, trivial⟩⟩
        ·
          refine sw_seq ?_
          -- region 11 cover.go:188
          refine sw_region [(0, 0), (1, 0)] rfl rfl rfl ?_
          refine sd_vv rfl rfl rfl (vv_move rfl) ?_
          refine sd_vv rfl rfl rfl (vv_eql (a := e10) (b := 0) rfl rfl) ?_
          refine sd_done ?_
          refine sw_cond rfl (fun c3 => ?_) (fun c3 => ?_)
          ·
            replace hm := ite_t (of_decide_eq_true c3) hm
            -- region 12 cover.go:189
            refine sw_region [(0, 0), (1, 0), (2, 0), (3, 0), (4, 0), (5, 0), (6, 0), (7, 0)] rfl rfl rfl ?_
            have B51 := (Bx.md (Bx.gr (Bx.md (Bx.kz B30 Zw13) Mw14) Gw15) Mw16)
            refine sd_vv rfl rfl rfl (vv_loadW agg_175 rfl B51 rfl) ?_
            have B52 := (Bx.md (Bx.gr (Bx.md (Bx.kz B27 Zw13) Mw14) Gw15) Mw16)
            refine sd_vv rfl rfl rfl (vv_loadW agg_23 rfl B52 rfl) ?_
            refine sd_vv rfl rfl rfl (vv_fieldAddr fa_92_0 rfl) ?_
            refine sd_vv rfl rfl rfl (vv_load1 (v := .int .i64 e9) one_3 rfl Bw16 rfl) ?_
            refine sd_vv rfl rfl rfl (vv_build (cs := TSubset.cs (TSubset.mk e9 0)) bs_131 rfl rfl) ?_
            have hb := bnd hm; clear hm; obtain ⟨x13, hx13, hm⟩ := hb
            refine sd_ev rfl rfl rfl (ev_call en_122 rfl (cover_tree_key_w x1.1 p0 (TSubset.mk e9 0) _ hx13 _)) ?_
            rintro _ w21 ⟨rfl, Gw21⟩
            have z53 := Gw21.size
            refine sd_vv rfl rfl rfl (vv_fieldAddr fa_92_2 rfl) ?_
            have B54 := (Bx.gr Bw16 Gw21)
            refine sd_ev rfl rfl rfl (ev_stM (cs' := TLabel.cs (TLabel.mk e9 e10 x13)) (vs := kb x13) (agg_23).siz rfl rfl rfl rfl rfl B54 rfl rfl) ?_
            rintro _ w22 ⟨Bw22, Mw22⟩
            have z55 := Mw22.size
            refine sd_nil ?_
            have K_56 : Kz [(1, b15)] w16 w22 := (Kz.md (Kz.gr (Kz.refl _ _) Gw21) Mw22)
            refine ⟨rfl, x13, ?_, hm, Bw22, K_56⟩
            repeat' first | exact trivial | refine ⟨rfl, ?_⟩
          ·
            replace hm := ite_f (of_decide_eq_false c3) hm
            -- region 13 cover.go:191
            refine sw_region [(0, 0), (1, 0), (2, 0), (3, 0), (4, 0), (5, 0), (6, 0), (7, 0)] rfl rfl rfl ?_
            have B57 := (Bx.md (Bx.gr (Bx.md (Bx.kz B27 Zw13) Mw14) Gw15) Mw16)
            refine sd_vv rfl rfl rfl (vv_loadW agg_23 rfl B57 rfl) ?_
            refine sd_vv rfl rfl rfl (vv_move rfl) ?_
            have hb := bnd hm; clear hm; obtain ⟨x14, hx14, hm⟩ := hb
            refine sd_ev rfl rfl rfl (ev_call en_195 rfl (cover_nodeKey_w p0 e9 _ hx14 _)) ?_
            rintro _ w23 ⟨rfl, Gw23⟩
            have z58 := Gw23.size
            refine sd_vv rfl rfl rfl (vv_move rfl) ?_
            refine sd_vv rfl rfl rfl (vv_move rfl) ?_
            have hb := bnd hm; clear hm; obtain ⟨x15, hx15, hm⟩ := hb
            refine sd_ev rfl rfl rfl (ev_call en_197 rfl (cover_descend_w x14 e9 e10 _ hx15 _)) ?_
            rintro _ w24 ⟨rfl, Gw24⟩
            have z59 := Gw24.size
            refine sd_vv rfl rfl rfl (vv_fieldAddr fa_92_2 rfl) ?_
            have B60 := (Bx.gr (Bx.gr Bw16 Gw23) Gw24)
            refine sd_ev rfl rfl rfl (ev_stM (cs' := TLabel.cs (TLabel.mk e9 e10 x15)) (vs := kb x15) (agg_23).siz rfl rfl rfl rfl rfl B60 rfl rfl) ?_
            rintro _ w25 ⟨Bw25, Mw25⟩
            have z61 := Mw25.size
            refine sd_nil ?_
            have K_62 : Kz [(1, b15)] w16 w25 := (Kz.md (Kz.gr (Kz.gr (Kz.refl _ _) Gw23) Gw24) Mw25)
            refine ⟨rfl, x15, ?_, hm, Bw25, K_62⟩
            repeat' first | exact trivial | refine ⟨rfl, ?_⟩
      · clear hm; rintro Dw26 fp w26 hDw26 Dfw26 nw26 ⟨⟨a7, vy8, zy8, gy8⟩, hm, rfl, Fw26_0, Fw26_1, Fw26_2, -⟩ Kw26
        replace hm := itL_end hm
        have Zw26 : Kz [(1, b10), (0, 0)] w12 w26 := kz_of_kp Kw26 (by intro k hk; simp only [Nin, and_true, List.mem_cons, List.mem_append, mem_zf, List.not_mem_nil, or_false, false_or, not_or, ne_eq, List.nil_append, List.cons_append, true_and, and_true, false_and, and_false, not_true_eq_false, not_false_eq_true, or_true, true_or] at hk ⊢; omega)
        have z63 := Kw26.size
        have lt64 := Df.lt (w := w26) Dfw26
        simp only [List.mem_cons, List.mem_append, mem_zf, List.not_mem_nil, or_false, false_or, not_or, ne_eq, List.nil_append, List.cons_append, true_and, and_true, false_and, and_false, not_true_eq_false, not_false_eq_true, or_true, true_or, not_and] at nw26
        have lt65 := Fw26_0.lth
        have lt66 := Fw26_2.lt
        unfold cover_Secret_D1 at hm
        try dsimp only at hm
        refine block_n ?_
        refine then_n ?_
        refine sw_seq ?_
        -- region 15 cover.go:195
        refine sw_region [(0, 0), (1, 0), (2, 0)] rfl rfl rfl ?_
        refine sd_vv rfl rfl rfl (vv_loadW agg_33 rfl Fw26_2 rfl) ?_
        have B67 := (Bx.kz B29 Zw26)
        refine sd_ev rfl rfl rfl (ev_stM (cs' := TSecret.cs (TSecret.mk p2 a7 (TPoint.mk 0#64 0#64)) vy8) (vs := TSecret.cs (TSecret.mk p2 a7 (TPoint.mk 0#64 0#64)) vy8) (agg_33).siz rfl rfl rfl rfl (TSecret.cs_ones _ _ (Own.oneB Fw26_0)) B67 rfl rfl) ?_
        rintro _ w27 ⟨Bw27, Mw27⟩
        have z68 := Mw27.size
        refine sd_vv rfl rfl rfl (vv_assign rfl) ?_
        refine sd_done ?_
        refine sw_ret ?_
        have DL69 := (Df.md Dfw26 Mw27)
        have L69 := Md.put (w := w27) Dw26 (.deferred none)
        have zL69 := L69.size
        have B70 := (Bx.md Bw27 L69)
        have B71 := (Own.md (Own.md Fw26_0 Mw27 (tk1 ((pv_0 (A := (fun x => x ≠ b3)) Fw26_1) : zy8 = 0 ∨ gy8 ≠ b3))) L69)
        have X72 : Gr w (w27.putObj Dw26 (.deferred none)) := (Gr.md (Gr.md (Gr.kz X26 Zw26) Mw27) L69)
        have hr := Option.some.inj hm
        subst hr
        refine ⟨_, _, ⟨Dw26, rfl, DL69, rfl⟩, res_2 rfl (rv_cellW agg_33 rfl B70 rfl) (rv_tmp rfl), ?_⟩
        exact ⟨vy8, zy8, gy8, rfl, B71, ⟨(pv_0 (A := (fun x => w.heap.size ≤ x)) Fw26_1)⟩, X72⟩
      · rintro _ _ _ _ _ _ _ _ _ h _
        exact h.elim

set_option maxHeartbeats 2000000 in
theorem ref03_Valid_w (p0 : TScheme)  (r : Bool) (hm : ref03_Valid p0 = some r) (w : World)   :
    Calls Tryz.prog 144 [.agg (TScheme.cs p0).toArray].toArray w fun e w' => ∃ v, e = .returned v ∧ (v = .bool r ∧ Gr w w') := by
  unfold ref03_Valid at hm
  refine calls_of_sw (R := fun v w' => v = .bool r ∧ Gr w w') 32 Tryz.func144 rfl rfl rfl ?_
  refine sw_seq ?_
  -- region 0 ref.go:29
  refine sw_region [(0, 0), (1, 0)] rfl rfl rfl ?_
  refine sd_ev rfl rfl rfl (ev_box (cs := TScheme.cs p0) rfl rfl) ?_
  rintro _ w1 ⟨b1, rfl, hbw1, Bw1, Gw1⟩
  have z1 := Gw1.size
  have lt2 := Bw1.lt
  refine sd_vv rfl rfl rfl (vv_assign rfl) ?_
  refine sd_done ?_
  refine sw_seq ?_
  -- region 1 ref.go:30
  refine sw_region [(0, 0), (1, 0), (2, 0), (3, 0), (4, 0), (5, 0), (6, 0), (7, 0), (8, 0), (9, 0), (10, 0), (11, 0), (12, 0), (13, 0), (14, 0), (15, 0), (16, 0), (17, 0), (18, 0), (19, 0), (20, 0), (21, 0), (22, 0), (23, 0), (24, 0), (25, 0), (26, 0), (27, 0), (28, 0), (29, 0)] rfl rfl rfl ?_
  refine sd_vv rfl rfl rfl (vv_fieldAddr fa_28_0 rfl) ?_
  refine sd_vv rfl rfl rfl (vv_load1 (v := bv p0.Kind) one_5 rfl Bw1 rfl) ?_
  refine sd_vv rfl rfl rfl (vv_geqB (p := p0.Kind) (q := 1#8) rfl rfl) ?_
  refine sd_split rfl rfl rfl (vv_move rfl) (fun c1 => ?_) (fun c1 => ?_)
  ·
    replace hm := ite_t (of_decide_eq_true c1) hm
    refine sd_vv rfl rfl rfl (vv_fieldAddr fa_28_0 rfl) ?_
    refine sd_vv rfl rfl rfl (vv_load1 (v := bv p0.Kind) one_5 rfl Bw1 rfl) ?_
    refine sd_vv rfl rfl rfl (vv_leqB (p := p0.Kind) (q := 3#8) rfl rfl) ?_
    refine sd_vv rfl rfl rfl (vv_pickT rfl rfl) ?_
    refine sd_split rfl rfl rfl (vv_move rfl) (fun c2 => ?_) (fun c2 => ?_)
    ·
      replace hm := ite_t (of_decide_eq_true c2) hm
      refine sd_vv rfl rfl rfl (vv_fieldAddr fa_28_1 rfl) ?_
      refine sd_vv rfl rfl rfl (vv_load1 (v := .int .i64 p0.Depth) one_3 rfl Bw1 rfl) ?_
      refine sd_vv rfl rfl rfl (vv_geq (a := p0.Depth) (b := 0) rfl rfl) ?_
      refine sd_vv rfl rfl rfl (vv_pickT rfl rfl) ?_
      refine sd_split rfl rfl rfl (vv_move rfl) (fun c3 => ?_) (fun c3 => ?_)
      ·
        replace hm := ite_t (of_decide_eq_true c3) hm
        refine sd_vv rfl rfl rfl (vv_fieldAddr fa_28_1 rfl) ?_
        refine sd_vv rfl rfl rfl (vv_load1 (v := .int .i64 p0.Depth) one_3 rfl Bw1 rfl) ?_
        refine sd_vv rfl rfl rfl (vv_leq (a := p0.Depth) (b := 6) rfl rfl) ?_
        refine sd_vv rfl rfl rfl (vv_pickT rfl rfl) ?_
        refine sd_split rfl rfl rfl (vv_move rfl) (fun c4 => ?_) (fun c4 => ?_)
        ·
          replace hm := ite_t (of_decide_eq_true c4) hm
          refine sd_vv rfl rfl rfl (vv_fieldAddr fa_28_2 rfl) ?_
          refine sd_vv rfl rfl rfl (vv_load1 (v := .int .i64 p0.Degree) one_3 rfl Bw1 rfl) ?_
          refine sd_vv rfl rfl rfl (vv_eql (a := p0.Degree) (b := 0) rfl rfl) ?_
          refine sd_vv rfl rfl rfl (vv_pickT rfl rfl) ?_
          refine sd_split rfl rfl rfl (vv_move rfl) (fun c5 => ?_) (fun c5 => ?_)
          ·
            replace hm := ite_t (of_decide_eq_true c5) hm
            refine sd_vv rfl rfl rfl (vv_fieldAddr fa_28_3 rfl) ?_
            refine sd_vv rfl rfl rfl (vv_loadM (vs := TGroup.cs p0.Group) agg_26 rfl Bw1 rfl rfl) ?_
            refine sd_vv rfl rfl rfl (vv_build (cs := TGroup.cs (TGroup.mk 0#64 0#64 0#64)) bs_26 rfl rfl) ?_
            refine sd_vv rfl rfl rfl (vv_eqlS (cf := TGroup.cs) (a := p0.Group) (b := (TGroup.mk 0#64 0#64 0#64)) eqt_26 rfl rfl rfl rfl (fun h => TGroup.cs_inj h)) ?_
            refine sd_vv rfl rfl rfl (vv_pickT rfl rfl) ?_
            refine sd_vv rfl rfl rfl (vv_assign rfl) ?_
            refine sd_done ?_
            refine sw_ret ?_
            have X3 : Gr w w1 := (Gr.trans (Gr.refl w) Gw1)
            have hr := Option.some.inj hm
            subst hr
            refine ⟨_, _, rfl, res_1 rfl (rv_tmp rfl), ?_⟩
            exact ⟨rfl, X3⟩
          ·
            replace hm := ite_f (of_decide_eq_false c5) hm
            refine sd_skip rfl rfl rfl ?_
            refine sd_skip rfl rfl rfl ?_
            refine sd_skip rfl rfl rfl ?_
            refine sd_skip rfl rfl rfl ?_
            refine sd_vv rfl rfl rfl (vv_pickF rfl rfl) ?_
            refine sd_vv rfl rfl rfl (vv_assign rfl) ?_
            refine sd_done ?_
            refine sw_ret ?_
            have X4 : Gr w w1 := (Gr.trans (Gr.refl w) Gw1)
            have hr := Option.some.inj hm
            subst hr
            refine ⟨_, _, rfl, res_1 rfl (rv_tmp rfl), ?_⟩
            exact ⟨rfl, X4⟩
        ·
          replace hm := ite_f (of_decide_eq_false c4) hm
          refine sd_skip rfl rfl rfl ?_
          refine sd_skip rfl rfl rfl ?_
          refine sd_skip rfl rfl rfl ?_
          refine sd_vv rfl rfl rfl (vv_pickF rfl rfl) ?_
          refine sd_vv rfl rfl rfl (vv_move rfl) ?_
          refine sd_skip rfl rfl rfl ?_
          refine sd_skip rfl rfl rfl ?_
          refine sd_skip rfl rfl rfl ?_
          refine sd_skip rfl rfl rfl ?_
          refine sd_vv rfl rfl rfl (vv_pickF rfl rfl) ?_
          refine sd_vv rfl rfl rfl (vv_assign rfl) ?_
          refine sd_done ?_
          refine sw_ret ?_
          have X5 : Gr w w1 := (Gr.trans (Gr.refl w) Gw1)
          have hr := Option.some.inj hm
          subst hr
          refine ⟨_, _, rfl, res_1 rfl (rv_tmp rfl), ?_⟩
          exact ⟨rfl, X5⟩
      ·
        replace hm := ite_f (of_decide_eq_false c3) hm
        refine sd_skip rfl rfl rfl ?_
        refine sd_skip rfl rfl rfl ?_
        refine sd_skip rfl rfl rfl ?_
        refine sd_vv rfl rfl rfl (vv_pickF rfl rfl) ?_
        refine sd_vv rfl rfl rfl (vv_move rfl) ?_
        refine sd_skip rfl rfl rfl ?_
        refine sd_skip rfl rfl rfl ?_
        refine sd_skip rfl rfl rfl ?_
        refine sd_vv rfl rfl rfl (vv_pickF rfl rfl) ?_
        refine sd_vv rfl rfl rfl (vv_move rfl) ?_
        refine sd_skip rfl rfl rfl ?_
        refine sd_skip rfl rfl rfl ?_
        refine sd_skip rfl rfl rfl ?_
        refine sd_skip rfl rfl rfl ?_
        refine sd_vv rfl rfl rfl (vv_pickF rfl rfl) ?_
        refine sd_vv rfl rfl rfl (vv_assign rfl) ?_
        refine sd_done ?_
        refine sw_ret ?_
        have X6 : Gr w w1 := (Gr.trans (Gr.refl w) Gw1)
        have hr := Option.some.inj hm
        subst hr
        refine ⟨_, _, rfl, res_1 rfl (rv_tmp rfl), ?_⟩
        exact ⟨rfl, X6⟩
    ·
      replace hm := ite_f (of_decide_eq_false c2) hm
      refine sd_skip rfl rfl rfl ?_
      refine sd_skip rfl rfl rfl ?_
      refine sd_skip rfl rfl rfl ?_
      refine sd_vv rfl rfl rfl (vv_pickF rfl rfl) ?_
      refine sd_vv rfl rfl rfl (vv_move rfl) ?_
      refine sd_skip rfl rfl rfl ?_
      refine sd_skip rfl rfl rfl ?_
      refine sd_skip rfl rfl rfl ?_
      refine sd_vv rfl rfl rfl (vv_pickF rfl rfl) ?_
      refine sd_vv rfl rfl rfl (vv_move rfl) ?_
      refine sd_skip rfl rfl rfl ?_
      refine sd_skip rfl rfl rfl ?_
      refine sd_skip rfl rfl rfl ?_
      refine sd_vv rfl rfl rfl (vv_pickF rfl rfl) ?_
      refine sd_vv rfl rfl rfl (vv_move rfl) ?_
      refine sd_skip rfl rfl rfl ?_
      refine sd_skip rfl rfl rfl ?_
      refine sd_skip rfl rfl rfl ?_
      refine sd_skip rfl rfl rfl ?_
      refine sd_vv rfl rfl rfl (vv_pickF rfl rfl) ?_
      refine sd_vv rfl rfl rfl (vv_assign rfl) ?_
      refine sd_done ?_
      refine sw_ret ?_
      have X7 : Gr w w1 := (Gr.trans (Gr.refl w) Gw1)
      have hr := Option.some.inj hm
      subst hr
      refine ⟨_, _, rfl, res_1 rfl (rv_tmp rfl), ?_⟩
      exact ⟨rfl, X7⟩
  ·
    replace hm := ite_f (of_decide_eq_false c1) hm
    refine sd_skip rfl rfl rfl ?_
    refine sd_skip rfl rfl rfl ?_
    refine sd_skip rfl rfl rfl ?_
    refine sd_vv rfl rfl rfl (vv_pickF rfl rfl) ?_
    refine sd_vv rfl rfl rfl (vv_move rfl) ?_
    refine sd_skip rfl rfl rfl ?_
    refine sd_skip rfl rfl rfl ?_
    refine sd_skip rfl rfl rfl ?_
    refine sd_vv rfl rfl rfl (vv_pickF rfl rfl) ?_
    refine sd_vv rfl rfl rfl (vv_move rfl) ?_
    refine sd_skip rfl rfl rfl ?_
    refine sd_skip rfl rfl rfl ?_
    refine sd_skip rfl rfl rfl ?_
    refine sd_vv rfl rfl rfl (vv_pickF rfl rfl) ?_
    refine sd_vv rfl rfl rfl (vv_move rfl) ?_
    refine sd_skip rfl rfl rfl ?_
    refine sd_skip rfl rfl rfl ?_
    refine sd_skip rfl rfl rfl ?_
    refine sd_vv rfl rfl rfl (vv_pickF rfl rfl) ?_
    refine sd_vv rfl rfl rfl (vv_move rfl) ?_
    refine sd_skip rfl rfl rfl ?_
    refine sd_skip rfl rfl rfl ?_
    refine sd_skip rfl rfl rfl ?_
    refine sd_skip rfl rfl rfl ?_
    refine sd_vv rfl rfl rfl (vv_pickF rfl rfl) ?_
    refine sd_vv rfl rfl rfl (vv_assign rfl) ?_
    refine sd_done ?_
    refine sw_ret ?_
    have X8 : Gr w w1 := (Gr.trans (Gr.refl w) Gw1)
    have hr := Option.some.inj hm
    subst hr
    refine ⟨_, _, rfl, res_1 rfl (rv_tmp rfl), ?_⟩
    exact ⟨rfl, X8⟩

set_option maxHeartbeats 2000000 in
theorem ref03_Receivers_w (p0 : Int)  (r : Int) (hm : ref03_Receivers p0 = some r) (w : World)   :
    Calls Tryz.prog 142 [.int .i64 p0].toArray w fun e w' => ∃ v, e = .returned v ∧ (v = .int .i64 r ∧ Gr w w') := by
  unfold ref03_Receivers at hm
  refine calls_of_sw (R := fun v w' => v = .int .i64 r ∧ Gr w w') 13 Tryz.func142 rfl rfl rfl ?_
  refine sw_seq ?_
  -- region 0 ref.go:42
  refine sw_region [(0, 0)] rfl rfl rfl ?_
  refine sd_vv rfl rfl rfl (vv_assign rfl) ?_
  refine sd_done ?_
  refine sw_seq ?_
  -- region 1 ref.go:43
  refine sw_region [(0, 0)] rfl rfl rfl ?_
  refine sd_vv rfl rfl rfl (vv_assign rfl) ?_
  refine sd_done ?_
  refine sw_seq ?_
  refine sw_seq ?_
  -- region 2 ref.go:44
  refine sw_region [(0, 0)] rfl rfl rfl ?_
  refine sd_vv rfl rfl rfl (vv_assign rfl) ?_
  refine sd_done ?_
  refine sw_block ?_
  refine sw_loopD (α := Nat × Int × Int) [3, 4, 5, 6, 7, 8, 9, 10, 11] (fun ⟨n1, a3, a4⟩ => [(3, .int .i64 a3), (4, .int .i64 a4)]) (fun ⟨n1, a3, a4⟩ wr => (fixN (ref03_Receivers_L1 p0) n1 (a3, a4) = some r) ∧ Kz [] w wr) (fun ⟨n1, a3, a4⟩ => n1) ⟨FUEL, 1, 0⟩ ?_ ?_ ?_
  · repeat' first | exact trivial | refine ⟨rfl, ?_⟩
  · exact ⟨hm, Kz.refl _ _⟩
  · clear hm; rintro ⟨n1, a3, a4⟩ w1 ⟨hm, Kw1⟩
    have z1 := Kw1.size
    have hb := fix_succ hm; clear hm; obtain ⟨n1, rfl, hm⟩ := hb
    generalize hrec1 : fixN (ref03_Receivers_L1 p0) n1 = rec1 at hm
    unfold ref03_Receivers_L1 at hm
    try dsimp only at hm
    refine sw_seq ?_
    refine sw_seq ?_
    -- region 3 ref.go:44
    refine sw_region [(0, 0), (1, 0), (2, 0)] rfl rfl rfl ?_
    refine sd_vv rfl rfl rfl (vv_move rfl) ?_
    refine sd_vv rfl rfl rfl (vv_move rfl) ?_
    refine sd_vv rfl rfl rfl (vv_lss (a := a4) (b := p0) rfl rfl) ?_
    refine sd_done ?_
    refine sw_cond rfl (fun c1 => ?_) (fun c1 => ?_)
    ·
      replace hm := ite_t (of_decide_eq_true c1) hm
      refine sw_skip ?_
      refine then_n ?_
      refine sw_seq ?_
      refine sw_block ?_
      -- region 5 ref.go:45
      refine sw_region [(0, 0), (1, 0), (2, 0)] rfl rfl rfl ?_
      refine sd_vv rfl rfl rfl (vv_move rfl) ?_
      refine sd_vv rfl rfl rfl (vv_mul (k := .i64) (a := 2) (b := a3) rfl rfl) ?_
      refine sd_vv rfl rfl rfl (vv_assign rfl) ?_
      refine sd_nil ?_
      refine block_n ?_
      refine then_n ?_
      -- region 4 ref.go:44
      refine sw_region [(0, 0), (1, 0), (2, 0)] rfl rfl rfl ?_
      refine sd_vv rfl rfl rfl (vv_move rfl) ?_
      refine sd_vv rfl rfl rfl (vv_add (k := .i64) (a := a4) (b := 1) rfl rfl) ?_
      refine sd_vv rfl rfl rfl (vv_assign rfl) ?_
      refine sd_nil ?_
      have K_2 : Kz [] w w1 := Kw1
      subst hrec1
      refine ⟨rfl, ⟨n1, w64 (2 * a3), w64 (a4 + 1)⟩, ?_, ⟨hm, K_2⟩, Nat.lt_succ_self _⟩
      repeat' first | exact trivial | refine ⟨rfl, ?_⟩
    ·
      replace hm := ite_f (of_decide_eq_false c1) hm
      refine sw_exit ?_
      refine then_x ?_
      refine then_x ?_
      refine block_x ?_
      refine then_n ?_
      refine sw_seq ?_
      -- region 6 ref.go:47
      refine sw_region [(0, 0), (1, 0)] rfl rfl rfl ?_
      refine sd_vv rfl rfl rfl (vv_move rfl) ?_
      refine sd_vv rfl rfl rfl (vv_assign rfl) ?_
      refine sd_done ?_
      refine sw_ret ?_
      have X3 : Gr w w1 := (Gr.kz (Gr.refl w) Kw1)
      have hr := Option.some.inj hm
      subst hr
      refine ⟨_, _, rfl, res_1 rfl (rv_tmp rfl), ?_⟩
      exact ⟨rfl, X3⟩

set_option maxHeartbeats 2000000 in
theorem ref03_receiver_w (p0 : Int) (p1 : Int)  (r : Bool) (hm : ref03_receiver p0 p1 = some r) (w : World)   :
    Calls Tryz.prog 145 [.int .i64 p0, .int .i64 p1].toArray w fun e w' => ∃ v, e = .returned v ∧ (v = .bool r ∧ Gr w w') := by
  unfold ref03_receiver at hm
  refine calls_of_sw (R := fun v w' => v = .bool r ∧ Gr w w') 13 Tryz.func145 rfl rfl rfl ?_
  refine sw_seq ?_
  -- region 0 ref.go:352
  refine sw_region [(0, 0)] rfl rfl rfl ?_
  refine sd_vv rfl rfl rfl (vv_assign rfl) ?_
  refine sd_done ?_
  refine sw_seq ?_
  -- region 1 ref.go:352
  refine sw_region [(0, 0), (1, 0), (2, 0), (3, 0), (4, 0), (5, 0), (6, 0), (7, 0), (8, 0)] rfl rfl rfl ?_
  refine sd_vv rfl rfl rfl (vv_move rfl) ?_
  refine sd_vv rfl rfl rfl (vv_geq (a := p1) (b := 0) rfl rfl) ?_
  refine sd_split rfl rfl rfl (vv_move rfl) (fun c1 => ?_) (fun c1 => ?_)
  ·
    replace hm := ite_t (of_decide_eq_true c1) hm
    refine sd_vv rfl rfl rfl (vv_move rfl) ?_
    refine sd_vv rfl rfl rfl (vv_move rfl) ?_
    have hb := bnd hm; clear hm; obtain ⟨x1, hx1, hm⟩ := hb
    refine sd_ev rfl rfl rfl (ev_call en_142 rfl (ref03_Receivers_w p0 _ hx1 _)) ?_
    rintro _ w1 ⟨rfl, Gw1⟩
    have z1 := Gw1.size
    refine sd_vv rfl rfl rfl (vv_lss (a := p1) (b := x1) rfl rfl) ?_
    refine sd_vv rfl rfl rfl (vv_pickT rfl rfl) ?_
    refine sd_vv rfl rfl rfl (vv_assign rfl) ?_
    refine sd_done ?_
    refine sw_ret ?_
    have X2 : Gr w w1 := (Gr.trans (Gr.refl w) Gw1)
    have hr := Option.some.inj hm
    subst hr
    refine ⟨_, _, rfl, res_1 rfl (rv_tmp rfl), ?_⟩
    exact ⟨rfl, X2⟩
  ·
    replace hm := ite_f (of_decide_eq_false c1) hm
    refine sd_skip rfl rfl rfl ?_
    refine sd_skip rfl rfl rfl ?_
    refine sd_skip rfl rfl rfl ?_
    refine sd_skip rfl rfl rfl ?_
    refine sd_vv rfl rfl rfl (vv_pickF rfl rfl) ?_
    refine sd_vv rfl rfl rfl (vv_assign rfl) ?_
    refine sd_done ?_
    refine sw_ret ?_
    have hr := Option.some.inj hm
    subst hr
    refine ⟨_, _, rfl, res_1 rfl (rv_tmp rfl), ?_⟩
    exact ⟨rfl, (Gr.refl w)⟩

set_option maxHeartbeats 2000000 in
theorem ref03_Path_w (p0 : Int) (p1 : Int)  (r : List Int) (hm : ref03_Path p0 p1 = some r) (w : World)   :
    Calls Tryz.prog 253 [.int .i64 p0, .int .i64 p1].toArray w fun e w' => ∃ v, e = .returned v ∧ (∃ (ur0_s : Value) (zr0_s : Nat) (gr0_s : Nat), v = ur0_s ∧ Own w' zr0_s gr0_s 3 1 ur0_s (r.map ic) ∧ Hdn (zr0_s = 0 ∨ w.heap.size ≤ gr0_s) ∧ Gr w w') := by
  unfold ref03_Path at hm
  refine calls_of_sw (R := fun v w' => ∃ (ur0_s : Value) (zr0_s : Nat) (gr0_s : Nat), v = ur0_s ∧ Own w' zr0_s gr0_s 3 1 ur0_s (r.map ic) ∧ Hdn (zr0_s = 0 ∨ w.heap.size ≤ gr0_s) ∧ Gr w w') 19 Tryz.func253 rfl rfl rfl ?_
  refine sw_seq ?_
  -- region 0 ref.go:84
  refine sw_region [(0, 0)] rfl rfl rfl ?_
  refine sd_vv rfl rfl rfl (vv_assign rfl) ?_
  refine sd_done ?_
  refine sw_seq ?_
  -- region 1 ref.go:85
  refine sw_region [(0, 0)] rfl rfl rfl ?_
  refine sd_vv rfl rfl rfl (vv_assign rfl) ?_
  refine sd_done ?_
  refine sw_seq ?_
  refine sw_block ?_
  refine sw_loopD (α := Nat × Int × List Int × Value × Nat × Nat) [1, 5, 6, 7, 8, 9, 10, 11, 12, 13, 14] (fun ⟨n1, a4, a5, vy6, zy6, gy6⟩ => [(1, .int .i64 a4), (5, vy6)]) (fun ⟨n1, a4, a5, vy6, zy6, gy6⟩ wr => (fixN (ref03_Path_L1 p0) n1 (a4, a5) = some r) ∧ Own wr zy6 gy6 3 1 vy6 (a5.map ic) ∧ Hdn (zy6 = 0 ∨ w.heap.size ≤ gy6) ∧ Kz [] w wr) (fun ⟨n1, a4, a5, vy6, zy6, gy6⟩ => n1) ⟨FUEL, p1, [], (.slice none 0 0), 0, 0⟩ ?_ ?_ ?_
  · repeat' first | exact trivial | refine ⟨rfl, ?_⟩
  · exact ⟨hm, (own_nil _ 0 3 1), ⟨(.inl rfl)⟩, Kz.refl _ _⟩
  · clear hm; rintro ⟨n1, a4, a5, vy6, zy6, gy6⟩ w1 ⟨hm, Fw1_0, Fw1_1, Kw1⟩
    have z1 := Kw1.size
    have lt2 := Fw1_0.lth
    have hb := fix_succ hm; clear hm; obtain ⟨n1, rfl, hm⟩ := hb
    generalize hrec1 : fixN (ref03_Path_L1 p0) n1 = rec1 at hm
    unfold ref03_Path_L1 at hm
    try dsimp only at hm
    refine sw_seq ?_
    refine sw_seq ?_
    -- region 2 ref.go:86
    refine sw_region [(0, 0), (1, 0), (2, 0)] rfl rfl rfl ?_
    refine sd_vv rfl rfl rfl (vv_move rfl) ?_
    refine sd_vv rfl rfl rfl (vv_move rfl) ?_
    refine sd_vv rfl rfl rfl (vv_neq (a := a4) (b := p0) rfl rfl) ?_
    refine sd_done ?_
    refine sw_cond rfl (fun c1 => ?_) (fun c1 => ?_)
    ·
      replace hm := ite_t (of_decide_eq_true c1) hm
      refine sw_skip ?_
      refine then_n ?_
      refine sw_block ?_
      refine sw_seq ?_
      -- region 3 ref.go:87
      refine sw_region [(0, 0), (1, 0), (2, 0), (3, 0), (4, 0)] rfl rfl rfl ?_
      refine sd_vv rfl rfl rfl (vv_move rfl) ?_
      refine sd_ev rfl rfl rfl (ev_litT [a4] ic bsl_44_1 rfl rfl (ws_of rfl) rfl rfl rfl) ?_
      rintro vw2 w2 ⟨gw2, hbw2, Ow2, Gw2⟩
      have z3 := Gw2.size
      have lt4 := Ow2.lth
      refine sd_vv rfl rfl rfl (vv_move rfl) ?_
      have B5 := (Own.gr Fw1_0 Gw2)
      have hb := bnd hm; clear hm; obtain ⟨l7, hl7, hm⟩ := hb
      refine sd_ev rfl rfl rfl (ev_appT (l := [a4]) (m := a5) (c := ic) apt_44 rfl rfl Ow2 (Own.rd B5) hl7 (by decide)) ?_
      rintro vw3 w3 ⟨zw3, gw3, Ow3, Aw3, qw3, rw3⟩
      have z6 := Aw3.size
      refine sd_vv rfl rfl rfl (vv_assign rfl) ?_
      refine sd_done ?_
      -- region 4 ref.go:88
      refine sw_region [(0, 0), (1, 0), (2, 0)] rfl rfl rfl ?_
      refine sd_vv rfl rfl rfl (vv_move rfl) ?_
      have hb := bnd hm; clear hm; obtain ⟨x8, hx8, hm⟩ := hb
      refine sd_vv rfl rfl rfl (vv_quoI (a := a4) (b := 2) rfl rfl hx8) ?_
      refine sd_vv rfl rfl rfl (vv_assign rfl) ?_
      refine sd_nil ?_
      refine block_n ?_
      have K_7 : Kz [] w w3 := (Kz.ka (Kz.gr Kw1 Gw2) Aw3 (tk1 ((.inr tk0) : 1 = 0 ∨ w.heap.size ≤ gw2)))
      subst hrec1
      refine ⟨rfl, ⟨n1, x8, l7, vw3, zw3, gw3⟩, ?_, ⟨hm, Ow3, ⟨(pv_app (A := (fun x => w.heap.size ≤ x)) rw3 (.inr tk0))⟩, K_7⟩, Nat.lt_succ_self _⟩
      repeat' first | exact trivial | refine ⟨rfl, ?_⟩
    ·
      replace hm := ite_f (of_decide_eq_false c1) hm
      refine sw_exit ?_
      refine then_x ?_
      refine then_x ?_
      refine block_x ?_
      refine then_n ?_
      refine sw_seq ?_
      -- region 5 ref.go:90
      refine sw_region [(0, 0), (1, 0), (2, 0), (3, 0), (4, 0)] rfl rfl rfl ?_
      refine sd_vv rfl rfl rfl (vv_move rfl) ?_
      refine sd_ev rfl rfl rfl (ev_litT [p0] ic bsl_44_1 rfl rfl (ws_of rfl) rfl rfl rfl) ?_
      rintro vw4 w4 ⟨gw4, hbw4, Ow4, Gw4⟩
      have z8 := Gw4.size
      have lt9 := Ow4.lth
      refine sd_vv rfl rfl rfl (vv_move rfl) ?_
      have B10 := (Own.gr Fw1_0 Gw4)
      have hb := bnd hm; clear hm; obtain ⟨l9, hl9, hm⟩ := hb
      refine sd_ev rfl rfl rfl (ev_appT (l := [p0]) (m := a5) (c := ic) apt_44 rfl rfl Ow4 (Own.rd B10) hl9 (by decide)) ?_
      rintro vw5 w5 ⟨zw5, gw5, Ow5, Aw5, qw5, rw5⟩
      have z11 := Aw5.size
      refine sd_vv rfl rfl rfl (vv_assign rfl) ?_
      refine sd_done ?_
      refine sw_ret ?_
      have X12 : Gr w w5 := (Gr.ka (Gr.trans (Gr.kz (Gr.refl w) Kw1) Gw4) Aw5 (tk1 ((.inr tk0) : 1 = 0 ∨ w.heap.size ≤ gw4)))
      have hr := Option.some.inj hm
      subst hr
      refine ⟨_, _, rfl, res_1 rfl (rv_tmp rfl), ?_⟩
      exact ⟨vw5, zw5, gw5, rfl, Ow5, ⟨(pv_app (A := (fun x => w.heap.size ≤ x)) rw5 (.inr tk0))⟩, X12⟩

set_option maxHeartbeats 2000000 in
theorem ref03_Node_w (p0 : Int) (p1 : Int)  (r : Bool) (hm : ref03_Node p0 p1 = some r) (w : World)   :
    Calls Tryz.prog 220 [.int .i64 p0, .int .i64 p1].toArray w fun e w' => ∃ v, e = .returned v ∧ (v = .bool r ∧ Gr w w') := by
  unfold ref03_Node at hm
  refine calls_of_sw (R := fun v w' => v = .bool r ∧ Gr w w') 14 Tryz.func220 rfl rfl rfl ?_
  refine sw_seq ?_
  -- region 0 ref.go:51
  refine sw_region [(0, 0)] rfl rfl rfl ?_
  refine sd_vv rfl rfl rfl (vv_assign rfl) ?_
  refine sd_done ?_
  refine sw_seq ?_
  -- region 1 ref.go:51
  refine sw_region [(0, 0), (1, 0), (2, 0), (3, 0), (4, 0), (5, 0), (6, 0), (7, 0), (8, 0), (9, 0)] rfl rfl rfl ?_
  refine sd_vv rfl rfl rfl (vv_move rfl) ?_
  refine sd_vv rfl rfl rfl (vv_geq (a := p1) (b := 1) rfl rfl) ?_
  refine sd_split rfl rfl rfl (vv_move rfl) (fun c1 => ?_) (fun c1 => ?_)
  ·
    replace hm := ite_t (of_decide_eq_true c1) hm
    refine sd_vv rfl rfl rfl (vv_move rfl) ?_
    refine sd_vv rfl rfl rfl (vv_move rfl) ?_
    have hb := bnd hm; clear hm; obtain ⟨x1, hx1, hm⟩ := hb
    refine sd_ev rfl rfl rfl (ev_call en_142 rfl (ref03_Receivers_w p0 _ hx1 _)) ?_
    rintro _ w1 ⟨rfl, Gw1⟩
    have z1 := Gw1.size
    refine sd_vv rfl rfl rfl (vv_mul (k := .i64) (a := 2) (b := x1) rfl rfl) ?_
    refine sd_vv rfl rfl rfl (vv_lss (a := p1) (b := w64 (2 * x1)) rfl rfl) ?_
    refine sd_vv rfl rfl rfl (vv_pickT rfl rfl) ?_
    refine sd_vv rfl rfl rfl (vv_assign rfl) ?_
    refine sd_done ?_
    refine sw_ret ?_
    have X2 : Gr w w1 := (Gr.trans (Gr.refl w) Gw1)
    have hr := Option.some.inj hm
    subst hr
    refine ⟨_, _, rfl, res_1 rfl (rv_tmp rfl), ?_⟩
    exact ⟨rfl, X2⟩
  ·
    replace hm := ite_f (of_decide_eq_false c1) hm
    refine sd_skip rfl rfl rfl ?_
    refine sd_skip rfl rfl rfl ?_
    refine sd_skip rfl rfl rfl ?_
    refine sd_skip rfl rfl rfl ?_
    refine sd_skip rfl rfl rfl ?_
    refine sd_vv rfl rfl rfl (vv_pickF rfl rfl) ?_
    refine sd_vv rfl rfl rfl (vv_assign rfl) ?_
    refine sd_done ?_
    refine sw_ret ?_
    have hr := Option.some.inj hm
    subst hr
    refine ⟨_, _, rfl, res_1 rfl (rv_tmp rfl), ?_⟩
    exact ⟨rfl, (Gr.refl w)⟩

set_option maxHeartbeats 2000000 in
theorem ref03_Below_w (p0 : Int) (p1 : Int)  (r : Bool) (hm : ref03_Below p0 p1 = some r) (w : World)   :
    Calls Tryz.prog 221 [.int .i64 p0, .int .i64 p1].toArray w fun e w' => ∃ v, e = .returned v ∧ (v = .bool r ∧ Gr w w') := by
  unfold ref03_Below at hm
  refine calls_of_sw (R := fun v w' => v = .bool r ∧ Gr w w') 13 Tryz.func221 rfl rfl rfl ?_
  refine sw_seq ?_
  -- region 0 ref.go:64
  refine sw_region [(0, 0)] rfl rfl rfl ?_
  refine sd_vv rfl rfl rfl (vv_assign rfl) ?_
  refine sd_done ?_
  refine sw_seq ?_
  refine sw_block ?_
  refine sw_loopD (α := Nat × Int) [0, 5, 6, 7, 8, 9] (fun ⟨n1, a2⟩ => [(0, .int .i64 a2)]) (fun ⟨n1, a2⟩ wr => (fixN (ref03_Below_L1 p1) n1 a2 = some r) ∧ Kz [] w wr) (fun ⟨n1, a2⟩ => n1) ⟨FUEL, p0⟩ ?_ ?_ ?_
  · repeat' first | exact trivial | refine ⟨rfl, ?_⟩
  · exact ⟨hm, Kz.refl _ _⟩
  · clear hm; rintro ⟨n1, a2⟩ w1 ⟨hm, Kw1⟩
    have z1 := Kw1.size
    have hb := fix_succ hm; clear hm; obtain ⟨n1, rfl, hm⟩ := hb
    generalize hrec1 : fixN (ref03_Below_L1 p1) n1 = rec1 at hm
    unfold ref03_Below_L1 at hm
    try dsimp only at hm
    refine sw_seq ?_
    refine sw_seq ?_
    -- region 1 ref.go:65
    refine sw_region [(0, 0), (1, 0), (2, 0)] rfl rfl rfl ?_
    refine sd_vv rfl rfl rfl (vv_move rfl) ?_
    refine sd_vv rfl rfl rfl (vv_move rfl) ?_
    refine sd_vv rfl rfl rfl (vv_gtr (a := a2) (b := p1) rfl rfl) ?_
    refine sd_done ?_
    refine sw_cond rfl (fun c1 => ?_) (fun c1 => ?_)
    ·
      replace hm := ite_t (of_decide_eq_true c1) hm
      refine sw_skip ?_
      refine then_n ?_
      refine sw_block ?_
      -- region 2 ref.go:66
      refine sw_region [(0, 0), (1, 0), (2, 0)] rfl rfl rfl ?_
      refine sd_vv rfl rfl rfl (vv_move rfl) ?_
      have hb := bnd hm; clear hm; obtain ⟨x3, hx3, hm⟩ := hb
      refine sd_vv rfl rfl rfl (vv_quoI (a := a2) (b := 2) rfl rfl hx3) ?_
      refine sd_vv rfl rfl rfl (vv_assign rfl) ?_
      refine sd_nil ?_
      refine block_n ?_
      have K_2 : Kz [] w w1 := Kw1
      subst hrec1
      refine ⟨rfl, ⟨n1, x3⟩, ?_, ⟨hm, K_2⟩, Nat.lt_succ_self _⟩
      repeat' first | exact trivial | refine ⟨rfl, ?_⟩
    ·
      replace hm := ite_f (of_decide_eq_false c1) hm
      refine sw_exit ?_
      refine then_x ?_
      refine then_x ?_
      refine block_x ?_
      refine then_n ?_
      refine sw_seq ?_
      -- region 3 ref.go:68
      refine sw_region [(0, 0), (1, 0), (2, 0), (3, 0)] rfl rfl rfl ?_
      refine sd_vv rfl rfl rfl (vv_move rfl) ?_
      refine sd_vv rfl rfl rfl (vv_move rfl) ?_
      refine sd_vv rfl rfl rfl (vv_eql (a := a2) (b := p1) rfl rfl) ?_
      refine sd_vv rfl rfl rfl (vv_assign rfl) ?_
      refine sd_done ?_
      refine sw_ret ?_
      have X3 : Gr w w1 := (Gr.kz (Gr.refl w) Kw1)
      have hr := Option.some.inj hm
      subst hr
      refine ⟨_, _, rfl, res_1 rfl (rv_tmp rfl), ?_⟩
      exact ⟨rfl, X3⟩

set_option maxHeartbeats 2000000 in
theorem ref03_Level_w (p0 : Int)  (r : Int) (hm : ref03_Level p0 = some r) (w : World)   :
    Calls Tryz.prog 255 [.int .i64 p0].toArray w fun e w' => ∃ v, e = .returned v ∧ (v = .int .i64 r ∧ Gr w w') := by
  unfold ref03_Level at hm
  refine calls_of_sw (R := fun v w' => v = .int .i64 r ∧ Gr w w') 11 Tryz.func255 rfl rfl rfl ?_
  refine sw_seq ?_
  -- region 0 ref.go:54
  refine sw_region [(0, 0)] rfl rfl rfl ?_
  refine sd_vv rfl rfl rfl (vv_assign rfl) ?_
  refine sd_done ?_
  refine sw_seq ?_
  -- region 1 ref.go:55
  refine sw_region [(0, 0)] rfl rfl rfl ?_
  refine sd_vv rfl rfl rfl (vv_assign rfl) ?_
  refine sd_done ?_
  refine sw_seq ?_
  refine sw_block ?_
  refine sw_loopD (α := Nat × Int × Int) [0, 3, 4, 5, 6, 7, 8, 9] (fun ⟨n1, a3, a4⟩ => [(0, .int .i64 a3), (3, .int .i64 a4)]) (fun ⟨n1, a3, a4⟩ wr => (fixN (ref03_Level_L1) n1 (a3, a4) = some r) ∧ Kz [] w wr) (fun ⟨n1, a3, a4⟩ => n1) ⟨FUEL, p0, 0⟩ ?_ ?_ ?_
  · repeat' first | exact trivial | refine ⟨rfl, ?_⟩
  · exact ⟨hm, Kz.refl _ _⟩
  · clear hm; rintro ⟨n1, a3, a4⟩ w1 ⟨hm, Kw1⟩
    have z1 := Kw1.size
    have hb := fix_succ hm; clear hm; obtain ⟨n1, rfl, hm⟩ := hb
    generalize hrec1 : fixN (ref03_Level_L1) n1 = rec1 at hm
    unfold ref03_Level_L1 at hm
    try dsimp only at hm
    refine sw_seq ?_
    refine sw_seq ?_
    -- region 2 ref.go:56
    refine sw_region [(0, 0), (1, 0)] rfl rfl rfl ?_
    refine sd_vv rfl rfl rfl (vv_move rfl) ?_
    refine sd_vv rfl rfl rfl (vv_gtr (a := a3) (b := 1) rfl rfl) ?_
    refine sd_done ?_
    refine sw_cond rfl (fun c1 => ?_) (fun c1 => ?_)
    ·
      replace hm := ite_t (of_decide_eq_true c1) hm
      refine sw_skip ?_
      refine then_n ?_
      refine sw_block ?_
      refine sw_seq ?_
      -- region 3 ref.go:57
      refine sw_region [(0, 0), (1, 0), (2, 0)] rfl rfl rfl ?_
      refine sd_vv rfl rfl rfl (vv_move rfl) ?_
      have hb := bnd hm; clear hm; obtain ⟨x5, hx5, hm⟩ := hb
      refine sd_vv rfl rfl rfl (vv_quoI (a := a3) (b := 2) rfl rfl hx5) ?_
      refine sd_vv rfl rfl rfl (vv_assign rfl) ?_
      refine sd_done ?_
      -- region 4 ref.go:58
      refine sw_region [(0, 0), (1, 0), (2, 0)] rfl rfl rfl ?_
      refine sd_vv rfl rfl rfl (vv_move rfl) ?_
      refine sd_vv rfl rfl rfl (vv_add (k := .i64) (a := a4) (b := 1) rfl rfl) ?_
      refine sd_vv rfl rfl rfl (vv_assign rfl) ?_
      refine sd_nil ?_
      refine block_n ?_
      have K_2 : Kz [] w w1 := Kw1
      subst hrec1
      refine ⟨rfl, ⟨n1, x5, w64 (a4 + 1)⟩, ?_, ⟨hm, K_2⟩, Nat.lt_succ_self _⟩
      repeat' first | exact trivial | refine ⟨rfl, ?_⟩
    ·
      replace hm := ite_f (of_decide_eq_false c1) hm
      refine sw_exit ?_
      refine then_x ?_
      refine then_x ?_
      refine block_x ?_
      refine then_n ?_
      refine sw_seq ?_
      -- region 5 ref.go:60
      refine sw_region [(0, 0), (1, 0)] rfl rfl rfl ?_
      refine sd_vv rfl rfl rfl (vv_move rfl) ?_
      refine sd_vv rfl rfl rfl (vv_assign rfl) ?_
      refine sd_done ?_
      refine sw_ret ?_
      have X3 : Gr w w1 := (Gr.kz (Gr.refl w) Kw1)
      have hr := Option.some.inj hm
      subst hr
      refine ⟨_, _, rfl, res_1 rfl (rv_tmp rfl), ?_⟩
      exact ⟨rfl, X3⟩

set_option maxHeartbeats 2000000 in
theorem ref03_Stride_w (p0 : Int)  (r : Int) (hm : ref03_Stride p0 = some r) (w : World)   :
    Calls Tryz.prog 256 [.int .i64 p0].toArray w fun e w' => ∃ v, e = .returned v ∧ (v = .int .i64 r ∧ Gr w w') := by
  unfold ref03_Stride at hm
  refine calls_of_sw (R := fun v w' => v = .int .i64 r ∧ Gr w w') 12 Tryz.func256 rfl rfl rfl ?_
  refine sw_seq ?_
  -- region 0 ref.go:72
  refine sw_region [(0, 0)] rfl rfl rfl ?_
  refine sd_vv rfl rfl rfl (vv_assign rfl) ?_
  refine sd_done ?_
  refine sw_seq ?_
  -- region 1 ref.go:73
  refine sw_region [(0, 0)] rfl rfl rfl ?_
  refine sd_vv rfl rfl rfl (vv_assign rfl) ?_
  refine sd_done ?_
  refine sw_seq ?_
  refine sw_block ?_
  refine sw_loopD (α := Nat × Int) [3, 4, 5, 6, 7, 8, 9, 10] (fun ⟨n1, a2⟩ => [(3, .int .i64 a2)]) (fun ⟨n1, a2⟩ wr => (fixN (ref03_Stride_L1 p0) n1 a2 = some r) ∧ Kz [] w wr) (fun ⟨n1, a2⟩ => n1) ⟨FUEL, 1⟩ ?_ ?_ ?_
  · repeat' first | exact trivial | refine ⟨rfl, ?_⟩
  · exact ⟨hm, Kz.refl _ _⟩
  · clear hm; rintro ⟨n1, a2⟩ w1 ⟨hm, Kw1⟩
    have z1 := Kw1.size
    have hb := fix_succ hm; clear hm; obtain ⟨n1, rfl, hm⟩ := hb
    generalize hrec1 : fixN (ref03_Stride_L1 p0) n1 = rec1 at hm
    unfold ref03_Stride_L1 at hm
    try dsimp only at hm
    refine sw_seq ?_
    refine sw_seq ?_
    -- region 2 ref.go:74
    refine sw_region [(0, 0), (1, 0), (2, 0), (3, 0), (4, 0)] rfl rfl rfl ?_
    refine sd_vv rfl rfl rfl (vv_move rfl) ?_
    refine sd_vv rfl rfl rfl (vv_move rfl) ?_
    refine sd_vv rfl rfl rfl (vv_mul (k := .i64) (a := a2) (b := a2) rfl rfl) ?_
    refine sd_vv rfl rfl rfl (vv_move rfl) ?_
    refine sd_vv rfl rfl rfl (vv_lss (a := w64 (a2 * a2)) (b := p0) rfl rfl) ?_
    refine sd_done ?_
    refine sw_cond rfl (fun c1 => ?_) (fun c1 => ?_)
    ·
      replace hm := ite_t (of_decide_eq_true c1) hm
      refine sw_skip ?_
      refine then_n ?_
      refine sw_block ?_
      -- region 3 ref.go:75
      refine sw_region [(0, 0), (1, 0), (2, 0)] rfl rfl rfl ?_
      refine sd_vv rfl rfl rfl (vv_move rfl) ?_
      refine sd_vv rfl rfl rfl (vv_add (k := .i64) (a := a2) (b := 1) rfl rfl) ?_
      refine sd_vv rfl rfl rfl (vv_assign rfl) ?_
      refine sd_nil ?_
      refine block_n ?_
      have K_2 : Kz [] w w1 := Kw1
      subst hrec1
      refine ⟨rfl, ⟨n1, w64 (a2 + 1)⟩, ?_, ⟨hm, K_2⟩, Nat.lt_succ_self _⟩
      repeat' first | exact trivial | refine ⟨rfl, ?_⟩
    ·
      replace hm := ite_f (of_decide_eq_false c1) hm
      refine sw_exit ?_
      refine then_x ?_
      refine then_x ?_
      refine block_x ?_
      refine then_n ?_
      refine sw_seq ?_
      -- region 4 ref.go:77
      refine sw_region [(0, 0), (1, 0)] rfl rfl rfl ?_
      refine sd_vv rfl rfl rfl (vv_move rfl) ?_
      refine sd_vv rfl rfl rfl (vv_assign rfl) ?_
      refine sd_done ?_
      refine sw_ret ?_
      have X3 : Gr w w1 := (Gr.kz (Gr.refl w) Kw1)
      have hr := Option.some.inj hm
      subst hr
      refine ⟨_, _, rfl, res_1 rfl (rv_tmp rfl), ?_⟩
      exact ⟨rfl, X3⟩

set_option maxHeartbeats 2000000 in
theorem ref03_Special_w (p0 : Int) (p1 : Int)  (r : Bool) (hm : ref03_Special p0 p1 = some r) (w : World)   :
    Calls Tryz.prog 222 [.int .i64 p0, .int .i64 p1].toArray w fun e w' => ∃ v, e = .returned v ∧ (v = .bool r ∧ Gr w w') := by
  unfold ref03_Special at hm
  refine calls_of_sw (R := fun v w' => v = .bool r ∧ Gr w w') 11 Tryz.func222 rfl rfl rfl ?_
  refine sw_seq ?_
  -- region 0 ref.go:81
  refine sw_region [(0, 0)] rfl rfl rfl ?_
  refine sd_vv rfl rfl rfl (vv_assign rfl) ?_
  refine sd_done ?_
  refine sw_seq ?_
  -- region 1 ref.go:81
  refine sw_region [(0, 0), (1, 0), (2, 0), (3, 0), (4, 0), (5, 0), (6, 0)] rfl rfl rfl ?_
  refine sd_vv rfl rfl rfl (vv_move rfl) ?_
  have hb := bnd hm; clear hm; obtain ⟨x1, hx1, hm⟩ := hb
  refine sd_ev rfl rfl rfl (ev_call en_255 rfl (ref03_Level_w p1 _ hx1 _)) ?_
  rintro _ w1 ⟨rfl, Gw1⟩
  have z1 := Gw1.size
  refine sd_vv rfl rfl rfl (vv_move rfl) ?_
  have hb := bnd hm; clear hm; obtain ⟨x2, hx2, hm⟩ := hb
  refine sd_ev rfl rfl rfl (ev_call en_256 rfl (ref03_Stride_w p0 _ hx2 _)) ?_
  rintro _ w2 ⟨rfl, Gw2⟩
  have z2 := Gw2.size
  have hb := bnd hm; clear hm; obtain ⟨x3, hx3, hm⟩ := hb
  refine sd_vv rfl rfl rfl (vv_remI (a := x1) (b := x2) rfl rfl hx3) ?_
  refine sd_vv rfl rfl rfl (vv_eql (a := x3) (b := 0) rfl rfl) ?_
  refine sd_vv rfl rfl rfl (vv_assign rfl) ?_
  refine sd_done ?_
  refine sw_ret ?_
  have X3 : Gr w w2 := (Gr.trans (Gr.trans (Gr.refl w) Gw1) Gw2)
  have hr := Option.some.inj hm
  subst hr
  refine ⟨_, _, rfl, res_1 rfl (rv_tmp rfl), ?_⟩
  exact ⟨rfl, X3⟩

set_option maxHeartbeats 2000000 in
theorem ref03_between_w (p0 : Int) (p1 : Int) (p2 : Int)  (r : Int) (hm : ref03_between p0 p1 p2 = some r) (w : World)   :
    Calls Tryz.prog 219 [.int .i64 p0, .int .i64 p1, .int .i64 p2].toArray w fun e w' => ∃ v, e = .returned v ∧ (v = .int .i64 r ∧ Gr w w') := by
  unfold ref03_between at hm
  refine calls_of_sw (R := fun v w' => v = .int .i64 r ∧ Gr w w') 29 Tryz.func219 rfl rfl rfl ?_
  refine sw_seq ?_
  -- region 0 ref.go:94
  refine sw_region [(0, 0)] rfl rfl rfl ?_
  refine sd_vv rfl rfl rfl (vv_assign rfl) ?_
  refine sd_done ?_
  refine sw_seq ?_
  -- region 1 ref.go:95
  refine sw_region [(0, 0), (1, 0), (2, 0), (3, 0)] rfl rfl rfl ?_
  refine sd_vv rfl rfl rfl (vv_move rfl) ?_
  refine sd_vv rfl rfl rfl (vv_move rfl) ?_
  have hb := bnd hm; clear hm; obtain ⟨x1, hx1, hm⟩ := hb
  refine sd_ev rfl rfl rfl (ev_call en_253 rfl (ref03_Path_w p1 p2 _ hx1 _)) ?_
  rintro u1_r0_s w1 ⟨_, z1_r0_s, g1_r0_s, rfl, O1_r0_s, f1_r0_s, Gw1⟩
  have z1 := Gw1.size
  have lt2 := O1_r0_s.lth
  refine sd_vv rfl rfl rfl (vv_assign rfl) ?_
  refine sd_done ?_
  refine sw_seq ?_
  refine sw_seq ?_
  -- region 2 ref.go:96
  refine sw_region [(0, 0)] rfl rfl rfl ?_
  refine sd_vv rfl rfl rfl (vv_assign rfl) ?_
  refine sd_done ?_
  refine sw_block ?_
  have X3 : Gr w w1 := (Gr.trans (Gr.refl w) Gw1)
  refine sw_loopD (α := Nat × Int) [6, 8, 12, 13, 14, 15, 16, 17, 18, 19, 20, 21, 22, 23, 24, 25, 26, 27, 28] (fun ⟨n1, a3⟩ => [(6, .int .i64 0), (8, .int .i64 a3)]) (fun ⟨n1, a3⟩ wr => (fixN (ref03_between_L1 p0 x1) n1 a3 = some r) ∧ Kz [] w1 wr) (fun ⟨n1, a3⟩ => n1) ⟨FUEL, 1⟩ ?_ ?_ ?_
  · repeat' first | exact trivial | refine ⟨rfl, ?_⟩
  · exact ⟨hm, Kz.refl _ _⟩
  · clear hm; rintro ⟨n1, a3⟩ w2 ⟨hm, Kw2⟩
    have z4 := Kw2.size
    have hb := fix_succ hm; clear hm; obtain ⟨n1, rfl, hm⟩ := hb
    generalize hrec1 : fixN (ref03_between_L1 p0 x1) n1 = rec1 at hm
    unfold ref03_between_L1 at hm
    try dsimp only at hm
    refine sw_seq ?_
    refine sw_seq ?_
    -- region 3 ref.go:96
    refine sw_region [(0, 0), (1, 0), (2, 0), (3, 0), (4, 0)] rfl rfl rfl ?_
    refine sd_vv rfl rfl rfl (vv_move rfl) ?_
    refine sd_vv rfl rfl rfl (vv_move rfl) ?_
    have B5 := (Own.kz O1_r0_s Kw2)
    refine sd_vv rfl rfl rfl (vv_lenT (l := x1) (c := ic) Tryz.underlying44 rfl (Own.rd B5)) ?_
    refine sd_vv rfl rfl rfl (vv_sub (k := .i64) (a := (x1.length : Int)) (b := 1) rfl rfl) ?_
    refine sd_vv rfl rfl rfl (vv_lss (a := a3) (b := w64 ((x1.length : Int) - 1)) rfl rfl) ?_
    refine sd_done ?_
    refine sw_cond rfl (fun c1 => ?_) (fun c1 => ?_)
    ·
      replace hm := ite_t (of_decide_eq_true c1) hm
      refine sw_skip ?_
      refine then_n ?_
      refine sw_seq ?_
      refine sw_block ?_
      refine sw_seq ?_
      -- region 5 ref.go:97
      refine sw_region [(0, 0), (1, 0), (2, 0), (3, 0), (4, 0), (5, 0)] rfl rfl rfl ?_
      refine sd_vv rfl rfl rfl (vv_move rfl) ?_
      refine sd_vv rfl rfl rfl (vv_move rfl) ?_
      refine sd_vv rfl rfl rfl (vv_move rfl) ?_
      have hb := bnd hm; clear hm; obtain ⟨y4, hy4, hm⟩ := hb
      refine sd_vv rfl rfl rfl (vv_ixT (i := a3) Tryz.underlying44 (one_3).siz rfl (Own.rd B5) rfl hy4) ?_
      refine sd_vv rfl rfl rfl (vv_el1T (q := 0) (u := .int .i64 y4) one_3 rfl (Own.rd B5) hy4 (by first | rfl | omega) rfl) ?_
      have hb := bnd hm; clear hm; obtain ⟨x5, hx5, hm⟩ := hb
      refine sd_ev rfl rfl rfl (ev_call en_222 rfl (ref03_Special_w p0 y4 _ hx5 _)) ?_
      rintro _ w3 ⟨rfl, Gw3⟩
      have z6 := Gw3.size
      refine sd_done ?_
      refine sw_cond rfl (fun c2 => ?_) (fun c2 => ?_)
      ·
        replace hm := cnd_t c2 hm
        refine sw_seq ?_
        -- region 6 ref.go:98
        refine sw_region [(0, 0), (1, 0), (2, 0), (3, 0), (4, 0)] rfl rfl rfl ?_
        refine sd_vv rfl rfl rfl (vv_move rfl) ?_
        refine sd_vv rfl rfl rfl (vv_move rfl) ?_
        have hb := bnd hm; clear hm; obtain ⟨y6, hy6, hm⟩ := hb
        have B7 := (Own.gr B5 Gw3)
        refine sd_vv rfl rfl rfl (vv_ixT (i := a3) Tryz.underlying44 (one_3).siz rfl (Own.rd B7) rfl hy6) ?_
        refine sd_vv rfl rfl rfl (vv_el1T (q := 0) (u := .int .i64 y6) one_3 rfl (Own.rd B7) hy6 (by first | rfl | omega) rfl) ?_
        refine sd_vv rfl rfl rfl (vv_assign rfl) ?_
        refine sd_done ?_
        refine sw_ret ?_
        refine block_r ?_
        refine then_r ?_
        refine then_r ?_
        refine block_r ?_
        refine then_r ?_
        have X8 : Gr w w3 := (Gr.trans (Gr.kz X3 Kw2) Gw3)
        have hr := Option.some.inj hm
        subst hr
        refine ⟨_, _, rfl, res_1 rfl (rv_tmp rfl), ?_⟩
        exact ⟨rfl, X8⟩
      ·
        replace hm := cnd_f c2 hm
        refine sw_skip ?_
        refine block_n ?_
        refine then_n ?_
        -- region 4 ref.go:96
        refine sw_region [(0, 0), (1, 0), (2, 0)] rfl rfl rfl ?_
        refine sd_vv rfl rfl rfl (vv_move rfl) ?_
        refine sd_vv rfl rfl rfl (vv_add (k := .i64) (a := a3) (b := 1) rfl rfl) ?_
        refine sd_vv rfl rfl rfl (vv_assign rfl) ?_
        refine sd_nil ?_
        have K_9 : Kz [] w1 w3 := (Kz.gr Kw2 Gw3)
        subst hrec1
        refine ⟨rfl, ⟨n1, w64 (a3 + 1)⟩, ?_, ⟨hm, K_9⟩, Nat.lt_succ_self _⟩
        repeat' first | exact trivial | refine ⟨rfl, ?_⟩
    ·
      replace hm := ite_f (of_decide_eq_false c1) hm
      refine sw_exit ?_
      refine then_x ?_
      refine then_x ?_
      refine block_x ?_
      refine then_n ?_
      refine sw_seq ?_
      -- region 7 ref.go:101
      refine sw_region [(0, 0)] rfl rfl rfl ?_
      refine sd_vv rfl rfl rfl (vv_assign rfl) ?_
      refine sd_done ?_
      refine sw_ret ?_
      have X10 : Gr w w2 := (Gr.kz X3 Kw2)
      have hr := Option.some.inj hm
      subst hr
      refine ⟨_, _, rfl, res_1 rfl (rv_tmp rfl), ?_⟩
      exact ⟨rfl, X10⟩

set_option maxHeartbeats 2000000 in
theorem ref03_IsSubset_w (p0 : TScheme) (p1 : TSubset)  (r : Bool) (hm : ref03_IsSubset p0 p1 = some r) (w : World)   :
    Calls Tryz.prog 152 [.agg (TScheme.cs p0).toArray, .agg (TSubset.cs p1).toArray].toArray w fun e w' => ∃ v, e = .returned v ∧ (v = .bool r ∧ Gr w w') := by
  unfold ref03_IsSubset at hm
  refine calls_of_sw (R := fun v w' => v = .bool r ∧ Gr w w') 64 Tryz.func152 rfl rfl rfl ?_
  refine sw_seq ?_
  -- region 0 ref.go:105
  refine sw_region [(0, 0), (1, 0), (2, 0)] rfl rfl rfl ?_
  refine sd_ev rfl rfl rfl (ev_box (cs := TScheme.cs p0) rfl rfl) ?_
  rintro _ w1 ⟨b1, rfl, hbw1, Bw1, Gw1⟩
  have z1 := Gw1.size
  have lt2 := Bw1.lt
  refine sd_ev rfl rfl rfl (ev_box (cs := TSubset.cs p1) rfl rfl) ?_
  rintro _ w2 ⟨b2, rfl, hbw2, Bw2, Gw2⟩
  have z3 := Gw2.size
  have lt4 := Bw2.lt
  refine sd_vv rfl rfl rfl (vv_assign rfl) ?_
  refine sd_done ?_
  refine sw_seq ?_
  refine sw_seq ?_
  -- region 1 ref.go:106
  refine sw_region [(0, 0), (1, 0), (2, 0), (3, 0), (4, 0), (5, 0)] rfl rfl rfl ?_
  refine sd_vv rfl rfl rfl (vv_fieldAddr fa_28_1 rfl) ?_
  have B5 := (Bx.gr Bw1 Gw2)
  refine sd_vv rfl rfl rfl (vv_load1 (v := .int .i64 p0.Depth) one_3 rfl B5 rfl) ?_
  refine sd_vv rfl rfl rfl (vv_fieldAddr fa_131_0 rfl) ?_
  refine sd_vv rfl rfl rfl (vv_load1 (v := .int .i64 p1.Node) one_3 rfl Bw2 rfl) ?_
  have hb := bnd hm; clear hm; obtain ⟨x1, hx1, hm⟩ := hb
  refine sd_ev rfl rfl rfl (ev_call en_220 rfl (ref03_Node_w p0.Depth p1.Node _ hx1 _)) ?_
  rintro _ w3 ⟨rfl, Gw3⟩
  have z6 := Gw3.size
  refine sd_vv rfl rfl rfl (vv_not rfl) ?_
  refine sd_done ?_
  refine sw_cond rfl (fun c1 => ?_) (fun c1 => ?_)
  ·
    replace hm := cnd_t c1 hm
    refine sw_seq ?_
    -- region 2 ref.go:107
    refine sw_region [(0, 0)] rfl rfl rfl ?_
    refine sd_vv rfl rfl rfl (vv_assign rfl) ?_
    refine sd_done ?_
    refine sw_ret ?_
    refine then_r ?_
    have X7 : Gr w w3 := (Gr.trans (Gr.trans (Gr.trans (Gr.refl w) Gw1) Gw2) Gw3)
    have hr := Option.some.inj hm
    subst hr
    refine ⟨_, _, rfl, res_1 rfl (rv_tmp rfl), ?_⟩
    exact ⟨rfl, X7⟩
  ·
    replace hm := cnd_f c1 hm
    refine sw_skip ?_
    refine then_n ?_
    refine sw_seq ?_
    refine sw_seq ?_
    -- region 3 ref.go:109
    refine sw_region [(0, 0), (1, 0), (2, 0)] rfl rfl rfl ?_
    refine sd_vv rfl rfl rfl (vv_fieldAddr fa_28_0 rfl) ?_
    have B8 := (Bx.gr B5 Gw3)
    refine sd_vv rfl rfl rfl (vv_load1 (v := bv p0.Kind) one_5 rfl B8 rfl) ?_
    refine sd_vv rfl rfl rfl (vv_eqlB (p := p0.Kind) (q := 1#8) rfl rfl) ?_
    refine sd_done ?_
    refine sw_cond rfl (fun c2 => ?_) (fun c2 => ?_)
    ·
      replace hm := ite_t (of_decide_eq_true c2) hm
      refine sw_seq ?_
      -- region 4 ref.go:110
      refine sw_region [(0, 0), (1, 0), (2, 0), (3, 0)] rfl rfl rfl ?_
      refine sd_vv rfl rfl rfl (vv_fieldAddr fa_131_1 rfl) ?_
      have B9 := (Bx.gr Bw2 Gw3)
      refine sd_vv rfl rfl rfl (vv_load1 (v := .int .i64 p1.Minus) one_3 rfl B9 rfl) ?_
      refine sd_vv rfl rfl rfl (vv_eql (a := p1.Minus) (b := 0) rfl rfl) ?_
      refine sd_vv rfl rfl rfl (vv_assign rfl) ?_
      refine sd_done ?_
      refine sw_ret ?_
      refine then_r ?_
      have X10 : Gr w w3 := (Gr.trans (Gr.trans (Gr.trans (Gr.refl w) Gw1) Gw2) Gw3)
      have hr := Option.some.inj hm
      subst hr
      refine ⟨_, _, rfl, res_1 rfl (rv_tmp rfl), ?_⟩
      exact ⟨rfl, X10⟩
    ·
      replace hm := ite_f (of_decide_eq_false c2) hm
      refine sw_skip ?_
      refine then_n ?_
      refine sw_seq ?_
      refine sw_seq ?_
      -- region 5 ref.go:112
      refine sw_region [(0, 0), (1, 0), (2, 0)] rfl rfl rfl ?_
      refine sd_vv rfl rfl rfl (vv_fieldAddr fa_131_1 rfl) ?_
      have B11 := (Bx.gr Bw2 Gw3)
      refine sd_vv rfl rfl rfl (vv_load1 (v := .int .i64 p1.Minus) one_3 rfl B11 rfl) ?_
      refine sd_vv rfl rfl rfl (vv_eql (a := p1.Minus) (b := 0) rfl rfl) ?_
      refine sd_done ?_
      refine sw_cond rfl (fun c3 => ?_) (fun c3 => ?_)
      ·
        replace hm := ite_t (of_decide_eq_true c3) hm
        refine sw_seq ?_
        -- region 6 ref.go:113
        refine sw_region [(0, 0), (1, 0), (2, 0), (3, 0)] rfl rfl rfl ?_
        refine sd_vv rfl rfl rfl (vv_fieldAddr fa_131_0 rfl) ?_
        refine sd_vv rfl rfl rfl (vv_load1 (v := .int .i64 p1.Node) one_3 rfl B11 rfl) ?_
        refine sd_vv rfl rfl rfl (vv_eql (a := p1.Node) (b := 1) rfl rfl) ?_
        refine sd_vv rfl rfl rfl (vv_assign rfl) ?_
        refine sd_done ?_
        refine sw_ret ?_
        refine then_r ?_
        have X12 : Gr w w3 := (Gr.trans (Gr.trans (Gr.trans (Gr.refl w) Gw1) Gw2) Gw3)
        have hr := Option.some.inj hm
        subst hr
        refine ⟨_, _, rfl, res_1 rfl (rv_tmp rfl), ?_⟩
        exact ⟨rfl, X12⟩
      ·
        replace hm := ite_f (of_decide_eq_false c3) hm
        refine sw_skip ?_
        refine then_n ?_
        refine sw_seq ?_
        have X13 : Gr w w3 := (Gr.trans (Gr.trans (Gr.trans (Gr.refl w) Gw1) Gw2) Gw3)
        refine sw_joinD (β := Bool) [23, 24, 25, 26, 27, 28, 29, 30, 31, 32, 33, 34, 35, 36, 37, 38, 39, 40, 41, 42, 43] (fun a2 => [(43, .bool a2)]) (fun a2 wr => (ref03_IsSubset_J1 p0 p1 a2 = some r) ∧ Kz [] w3 wr) ?_ ?_
        · clear hm; rintro a2 w4 ⟨hm, Kw4⟩
          have z14 := Kw4.size
          unfold ref03_IsSubset_J1 at hm
          refine sw_cond rfl (fun c4 => ?_) (fun c4 => ?_)
          ·
            replace hm := cnd_t c4 hm
            refine sw_seq ?_
            -- region 8 ref.go:116
            refine sw_region [(0, 0)] rfl rfl rfl ?_
            refine sd_vv rfl rfl rfl (vv_assign rfl) ?_
            refine sd_done ?_
            refine sw_ret ?_
            refine then_r ?_
            have X15 : Gr w w4 := (Gr.kz X13 Kw4)
            have hr := Option.some.inj hm
            subst hr
            refine ⟨_, _, rfl, res_1 rfl (rv_tmp rfl), ?_⟩
            exact ⟨rfl, X15⟩
          ·
            replace hm := cnd_f c4 hm
            refine sw_skip ?_
            refine then_n ?_
            refine sw_seq ?_
            -- region 9 ref.go:118
            refine sw_region [(0, 0), (1, 0), (2, 0), (3, 0), (4, 0), (5, 0), (6, 0), (7, 0), (8, 0), (9, 0), (10, 0), (11, 0), (12, 0), (13, 0), (14, 0), (15, 0), (16, 0), (17, 0), (18, 0), (19, 0), (20, 0)] rfl rfl rfl ?_
            refine sd_vv rfl rfl rfl (vv_fieldAddr fa_28_0 rfl) ?_
            have B16 := (Bx.kz B8 Kw4)
            refine sd_vv rfl rfl rfl (vv_load1 (v := bv p0.Kind) one_5 rfl B16 rfl) ?_
            refine sd_vv rfl rfl rfl (vv_eqlB (p := p0.Kind) (q := 2#8) rfl rfl) ?_
            refine sd_split rfl rfl rfl (vv_move rfl) (fun c5 => ?_) (fun c5 => ?_)
            ·
              replace hm := ite_t (of_decide_eq_true c5) hm
              refine sd_skip rfl rfl rfl ?_
              refine sd_skip rfl rfl rfl ?_
              refine sd_skip rfl rfl rfl ?_
              refine sd_skip rfl rfl rfl ?_
              refine sd_skip rfl rfl rfl ?_
              refine sd_vv rfl rfl rfl (vv_pickT rfl rfl) ?_
              refine sd_vv rfl rfl rfl (vv_move rfl) ?_
              refine sd_skip rfl rfl rfl ?_
              refine sd_skip rfl rfl rfl ?_
              refine sd_skip rfl rfl rfl ?_
              refine sd_skip rfl rfl rfl ?_
              refine sd_skip rfl rfl rfl ?_
              refine sd_skip rfl rfl rfl ?_
              refine sd_skip rfl rfl rfl ?_
              refine sd_skip rfl rfl rfl ?_
              refine sd_vv rfl rfl rfl (vv_pickT rfl rfl) ?_
              refine sd_vv rfl rfl rfl (vv_assign rfl) ?_
              refine sd_done ?_
              refine sw_ret ?_
              have X17 : Gr w w4 := (Gr.kz X13 Kw4)
              have hr := Option.some.inj hm
              subst hr
              refine ⟨_, _, rfl, res_1 rfl (rv_tmp rfl), ?_⟩
              exact ⟨rfl, X17⟩
            ·
              replace hm := ite_f (of_decide_eq_false c5) hm
              refine sd_vv rfl rfl rfl (vv_fieldAddr fa_28_1 rfl) ?_
              refine sd_vv rfl rfl rfl (vv_load1 (v := .int .i64 p0.Depth) one_3 rfl B16 rfl) ?_
              refine sd_vv rfl rfl rfl (vv_fieldAddr fa_131_0 rfl) ?_
              have B18 := (Bx.kz B11 Kw4)
              refine sd_vv rfl rfl rfl (vv_load1 (v := .int .i64 p1.Node) one_3 rfl B18 rfl) ?_
              have hb := bnd hm; clear hm; obtain ⟨x3, hx3, hm⟩ := hb
              refine sd_ev rfl rfl rfl (ev_call en_222 rfl (ref03_Special_w p0.Depth p1.Node _ hx3 _)) ?_
              rintro _ w5 ⟨rfl, Gw5⟩
              have z19 := Gw5.size
              refine sd_vv rfl rfl rfl (vv_pickF rfl rfl) ?_
              refine sd_split rfl rfl rfl (vv_move rfl) (fun c6 => ?_) (fun c6 => ?_)
              ·
                replace hm := cnd_t c6 hm
                refine sd_skip rfl rfl rfl ?_
                refine sd_skip rfl rfl rfl ?_
                refine sd_skip rfl rfl rfl ?_
                refine sd_skip rfl rfl rfl ?_
                refine sd_skip rfl rfl rfl ?_
                refine sd_skip rfl rfl rfl ?_
                refine sd_skip rfl rfl rfl ?_
                refine sd_skip rfl rfl rfl ?_
                refine sd_vv rfl rfl rfl (vv_pickT rfl rfl) ?_
                refine sd_vv rfl rfl rfl (vv_assign rfl) ?_
                refine sd_done ?_
                refine sw_ret ?_
                have X20 : Gr w w5 := (Gr.trans (Gr.kz X13 Kw4) Gw5)
                have hr := Option.some.inj hm
                subst hr
                refine ⟨_, _, rfl, res_1 rfl (rv_tmp rfl), ?_⟩
                exact ⟨rfl, X20⟩
              ·
                replace hm := cnd_f c6 hm
                refine sd_vv rfl rfl rfl (vv_fieldAddr fa_28_1 rfl) ?_
                have B21 := (Bx.gr B16 Gw5)
                refine sd_vv rfl rfl rfl (vv_load1 (v := .int .i64 p0.Depth) one_3 rfl B21 rfl) ?_
                refine sd_vv rfl rfl rfl (vv_fieldAddr fa_131_0 rfl) ?_
                have B22 := (Bx.gr B18 Gw5)
                refine sd_vv rfl rfl rfl (vv_load1 (v := .int .i64 p1.Node) one_3 rfl B22 rfl) ?_
                refine sd_vv rfl rfl rfl (vv_fieldAddr fa_131_1 rfl) ?_
                refine sd_vv rfl rfl rfl (vv_load1 (v := .int .i64 p1.Minus) one_3 rfl B22 rfl) ?_
                have hb := bnd hm; clear hm; obtain ⟨x4, hx4, hm⟩ := hb
                refine sd_ev rfl rfl rfl (ev_call en_219 rfl (ref03_between_w p0.Depth p1.Node p1.Minus _ hx4 _)) ?_
                rintro _ w6 ⟨rfl, Gw6⟩
                have z23 := Gw6.size
                refine sd_vv rfl rfl rfl (vv_eql (a := x4) (b := 0) rfl rfl) ?_
                refine sd_vv rfl rfl rfl (vv_pickF rfl rfl) ?_
                refine sd_vv rfl rfl rfl (vv_assign rfl) ?_
                refine sd_done ?_
                refine sw_ret ?_
                have X24 : Gr w w6 := (Gr.trans (Gr.trans (Gr.kz X13 Kw4) Gw5) Gw6)
                have hr := Option.some.inj hm
                subst hr
                refine ⟨_, _, rfl, res_1 rfl (rv_tmp rfl), ?_⟩
                exact ⟨rfl, X24⟩
        ·
          -- region 7 ref.go:115
          refine sw_region [(0, 0), (1, 0), (2, 0), (3, 0), (4, 0), (5, 0), (6, 0), (7, 0), (8, 0), (9, 0), (10, 0), (11, 0), (12, 0), (13, 0), (14, 0), (15, 0), (16, 0), (17, 0), (18, 0), (19, 0), (20, 0)] rfl rfl rfl ?_
          refine sd_vv rfl rfl rfl (vv_fieldAddr fa_28_1 rfl) ?_
          refine sd_vv rfl rfl rfl (vv_load1 (v := .int .i64 p0.Depth) one_3 rfl B8 rfl) ?_
          refine sd_vv rfl rfl rfl (vv_fieldAddr fa_131_1 rfl) ?_
          refine sd_vv rfl rfl rfl (vv_load1 (v := .int .i64 p1.Minus) one_3 rfl B11 rfl) ?_
          have hb := bnd hm; clear hm; obtain ⟨x5, hx5, hm⟩ := hb
          refine sd_ev rfl rfl rfl (ev_call en_220 rfl (ref03_Node_w p0.Depth p1.Minus _ hx5 _)) ?_
          rintro _ w7 ⟨rfl, Gw7⟩
          have z25 := Gw7.size
          refine sd_vv rfl rfl rfl (vv_not rfl) ?_
          refine sd_split rfl rfl rfl (vv_move rfl) (fun c7 => ?_) (fun c7 => ?_)
          ·
            replace hm := cnd_t c7 hm
            refine sd_skip rfl rfl rfl ?_
            refine sd_skip rfl rfl rfl ?_
            refine sd_skip rfl rfl rfl ?_
            refine sd_skip rfl rfl rfl ?_
            refine sd_skip rfl rfl rfl ?_
            refine sd_vv rfl rfl rfl (vv_pickT rfl rfl) ?_
            refine sd_vv rfl rfl rfl (vv_move rfl) ?_
            refine sd_skip rfl rfl rfl ?_
            refine sd_skip rfl rfl rfl ?_
            refine sd_skip rfl rfl rfl ?_
            refine sd_skip rfl rfl rfl ?_
            refine sd_skip rfl rfl rfl ?_
            refine sd_skip rfl rfl rfl ?_
            refine sd_vv rfl rfl rfl (vv_pickT rfl rfl) ?_
            refine sd_nil ?_
            have K_26 : Kz [] w3 w7 := (Kz.gr (Kz.refl _ _) Gw7)
            refine ⟨rfl, true, ?_, hm, K_26⟩
            repeat' first | exact trivial | refine ⟨rfl, ?_⟩
          ·
            replace hm := cnd_f c7 hm
            refine sd_vv rfl rfl rfl (vv_fieldAddr fa_131_1 rfl) ?_
            have B27 := (Bx.gr B11 Gw7)
            refine sd_vv rfl rfl rfl (vv_load1 (v := .int .i64 p1.Minus) one_3 rfl B27 rfl) ?_
            refine sd_vv rfl rfl rfl (vv_fieldAddr fa_131_0 rfl) ?_
            refine sd_vv rfl rfl rfl (vv_load1 (v := .int .i64 p1.Node) one_3 rfl B27 rfl) ?_
            refine sd_vv rfl rfl rfl (vv_eql (a := p1.Minus) (b := p1.Node) rfl rfl) ?_
            refine sd_vv rfl rfl rfl (vv_pickF rfl rfl) ?_
            refine sd_split rfl rfl rfl (vv_move rfl) (fun c8 => ?_) (fun c8 => ?_)
            ·
              replace hm := ite_t (of_decide_eq_true c8) hm
              refine sd_skip rfl rfl rfl ?_
              refine sd_skip rfl rfl rfl ?_
              refine sd_skip rfl rfl rfl ?_
              refine sd_skip rfl rfl rfl ?_
              refine sd_skip rfl rfl rfl ?_
              refine sd_skip rfl rfl rfl ?_
              refine sd_vv rfl rfl rfl (vv_pickT rfl rfl) ?_
              refine sd_nil ?_
              have K_28 : Kz [] w3 w7 := (Kz.gr (Kz.refl _ _) Gw7)
              refine ⟨rfl, true, ?_, hm, K_28⟩
              repeat' first | exact trivial | refine ⟨rfl, ?_⟩
            ·
              replace hm := ite_f (of_decide_eq_false c8) hm
              refine sd_vv rfl rfl rfl (vv_fieldAddr fa_131_1 rfl) ?_
              refine sd_vv rfl rfl rfl (vv_load1 (v := .int .i64 p1.Minus) one_3 rfl B27 rfl) ?_
              refine sd_vv rfl rfl rfl (vv_fieldAddr fa_131_0 rfl) ?_
              refine sd_vv rfl rfl rfl (vv_load1 (v := .int .i64 p1.Node) one_3 rfl B27 rfl) ?_
              have hb := bnd hm; clear hm; obtain ⟨x6, hx6, hm⟩ := hb
              refine sd_ev rfl rfl rfl (ev_call en_221 rfl (ref03_Below_w p1.Minus p1.Node _ hx6 _)) ?_
              rintro _ w8 ⟨rfl, Gw8⟩
              have z29 := Gw8.size
              refine sd_vv rfl rfl rfl (vv_not rfl) ?_
              refine sd_vv rfl rfl rfl (vv_pickF rfl rfl) ?_
              refine sd_nil ?_
              have K_30 : Kz [] w3 w8 := (Kz.gr (Kz.gr (Kz.refl _ _) Gw7) Gw8)
              refine ⟨rfl, (!x6), ?_, hm, K_30⟩
              repeat' first | exact trivial | refine ⟨rfl, ?_⟩

set_option maxHeartbeats 2000000 in
theorem ref03_LabelsOf_w (p0 : TScheme) (p1 : Int)  (r : List TSubset) (hm : ref03_LabelsOf p0 p1 = some r) (w : World)   :
    Calls Tryz.prog 206 [.agg (TScheme.cs p0).toArray, .int .i64 p1].toArray w fun e w' => ∃ v, e = .returned v ∧ (∃ (ur0_s : Value) (zr0_s : Nat) (gr0_s : Nat), v = ur0_s ∧ Own w' zr0_s gr0_s 131 2 ur0_s (r.map TSubset.cs) ∧ Hdn (zr0_s = 0 ∨ w.heap.size ≤ gr0_s) ∧ Gr w w') := by
  unfold ref03_LabelsOf at hm
  refine calls_of_sw (R := fun v w' => ∃ (ur0_s : Value) (zr0_s : Nat) (gr0_s : Nat), v = ur0_s ∧ Own w' zr0_s gr0_s 131 2 ur0_s (r.map TSubset.cs) ∧ Hdn (zr0_s = 0 ∨ w.heap.size ≤ gr0_s) ∧ Gr w w') 71 Tryz.func206 rfl rfl rfl ?_
  refine sw_seq ?_
  -- region 0 ref.go:308
  refine sw_region [(0, 0), (1, 0)] rfl rfl rfl ?_
  refine sd_ev rfl rfl rfl (ev_box (cs := TScheme.cs p0) rfl rfl) ?_
  rintro _ w1 ⟨b1, rfl, hbw1, Bw1, Gw1⟩
  have z1 := Gw1.size
  have lt2 := Bw1.lt
  refine sd_vv rfl rfl rfl (vv_assign rfl) ?_
  refine sd_done ?_
  refine sw_seq ?_
  -- region 1 ref.go:309
  refine sw_region [(0, 0)] rfl rfl rfl ?_
  refine sd_vv rfl rfl rfl (vv_assign rfl) ?_
  refine sd_done ?_
  refine sw_seq ?_
  -- region 2 ref.go:310
  refine sw_region [(0, 0), (1, 0), (2, 0), (3, 0), (4, 0), (5, 0), (6, 0)] rfl rfl rfl ?_
  refine sd_vv rfl rfl rfl (vv_fieldAddr fa_28_1 rfl) ?_
  refine sd_vv rfl rfl rfl (vv_load1 (v := .int .i64 p0.Depth) one_3 rfl Bw1 rfl) ?_
  have hb := bnd hm; clear hm; obtain ⟨x1, hx1, hm⟩ := hb
  refine sd_ev rfl rfl rfl (ev_call en_142 rfl (ref03_Receivers_w p0.Depth _ hx1 _)) ?_
  rintro _ w2 ⟨rfl, Gw2⟩
  have z3 := Gw2.size
  refine sd_vv rfl rfl rfl (vv_move rfl) ?_
  refine sd_vv rfl rfl rfl (vv_add (k := .i64) (a := x1) (b := p1) rfl rfl) ?_
  have hb := bnd hm; clear hm; obtain ⟨x2, hx2, hm⟩ := hb
  refine sd_ev rfl rfl rfl (ev_call en_253 rfl (ref03_Path_w 1 (w64 (x1 + p1)) _ hx2 _)) ?_
  rintro u3_r0_s w3 ⟨_, z3_r0_s, g3_r0_s, rfl, O3_r0_s, f3_r0_s, Gw3⟩
  have z4 := Gw3.size
  have lt5 := O3_r0_s.lth
  refine sd_vv rfl rfl rfl (vv_assign rfl) ?_
  refine sd_done ?_
  refine sw_seq ?_
  refine sw_seq ?_
  -- region 3 ref.go:311
  refine sw_region [(0, 0), (1, 0), (2, 0)] rfl rfl rfl ?_
  refine sd_vv rfl rfl rfl (vv_fieldAddr fa_28_0 rfl) ?_
  have B6 := (Bx.gr (Bx.gr Bw1 Gw2) Gw3)
  refine sd_vv rfl rfl rfl (vv_load1 (v := bv p0.Kind) one_5 rfl B6 rfl) ?_
  refine sd_vv rfl rfl rfl (vv_eqlB (p := p0.Kind) (q := 1#8) rfl rfl) ?_
  refine sd_done ?_
  refine sw_cond rfl (fun c1 => ?_) (fun c1 => ?_)
  ·
    replace hm := ite_t (of_decide_eq_true c1) hm
    refine sw_seq ?_
    refine sw_seq ?_
    -- region 4 ref.go:312
    refine sw_region [(0, 0)] rfl rfl rfl ?_
    refine sd_vv rfl rfl rfl (vv_assign rfl) ?_
    refine sd_done ?_
    refine sw_block ?_
    have X7 : Gr w w3 := (Gr.trans (Gr.trans (Gr.trans (Gr.refl w) Gw1) Gw2) Gw3)
    refine sw_loopD (α := Nat × List TSubset × Int × Value × Nat × Nat) [5, 7, 20, 21, 22, 23, 24, 25, 26, 27, 28, 29, 30, 31, 32, 33] (fun ⟨n1, a6, a8, vy7, zy7, gy7⟩ => [(5, vy7), (7, .int .i64 a8)]) (fun ⟨n1, a6, a8, vy7, zy7, gy7⟩ wr => (fixN (ref03_LabelsOf_L1 x2) n1 (a6, a8) = some r) ∧ Own wr zy7 gy7 131 2 vy7 (a6.map TSubset.cs) ∧ Hdn (zy7 = 0 ∨ w3.heap.size ≤ gy7) ∧ Kz [] w3 wr) (fun ⟨n1, a6, a8, vy7, zy7, gy7⟩ => n1) ⟨FUEL, [], 0, (.slice none 0 0), 0, 0⟩ ?_ ?_ ?_
    · repeat' first | exact trivial | refine ⟨rfl, ?_⟩
    · exact ⟨hm, (own_nil _ 0 131 2), ⟨(.inl rfl)⟩, Kz.refl _ _⟩
    · clear hm; rintro ⟨n1, a6, a8, vy7, zy7, gy7⟩ w4 ⟨hm, Fw4_0, Fw4_1, Kw4⟩
      have z8 := Kw4.size
      have lt9 := Fw4_0.lth
      have hb := fix_succ hm; clear hm; obtain ⟨n1, rfl, hm⟩ := hb
      generalize hrec1 : fixN (ref03_LabelsOf_L1 x2) n1 = rec1 at hm
      unfold ref03_LabelsOf_L1 at hm
      try dsimp only at hm
      refine sw_seq ?_
      refine sw_seq ?_
      -- region 5 ref.go:312
      refine sw_region [(0, 0), (1, 0), (2, 0), (3, 0)] rfl rfl rfl ?_
      refine sd_vv rfl rfl rfl (vv_move rfl) ?_
      refine sd_vv rfl rfl rfl (vv_move rfl) ?_
      have B10 := (Own.kz O3_r0_s Kw4)
      refine sd_vv rfl rfl rfl (vv_lenT (l := x2) (c := ic) Tryz.underlying44 rfl (Own.rd B10)) ?_
      refine sd_vv rfl rfl rfl (vv_lss (a := a8) (b := (x2.length : Int)) rfl rfl) ?_
      refine sd_done ?_
      refine sw_cond rfl (fun c2 => ?_) (fun c2 => ?_)
      ·
        replace hm := ite_t (of_decide_eq_true c2) hm
        refine sw_skip ?_
        refine then_n ?_
        refine sw_seq ?_
        refine sw_block ?_
        -- region 7 ref.go:313
        refine sw_region [(0, 0), (1, 0), (2, 0), (3, 0), (4, 0), (5, 0), (6, 0), (7, 0), (8, 0)] rfl rfl rfl ?_
        refine sd_vv rfl rfl rfl (vv_move rfl) ?_
        refine sd_vv rfl rfl rfl (vv_move rfl) ?_
        refine sd_vv rfl rfl rfl (vv_move rfl) ?_
        have hb := bnd hm; clear hm; obtain ⟨y9, hy9, hm⟩ := hb
        refine sd_vv rfl rfl rfl (vv_ixT (i := a8) Tryz.underlying44 (one_3).siz rfl (Own.rd B10) rfl hy9) ?_
        refine sd_vv rfl rfl rfl (vv_el1T (q := 0) (u := .int .i64 y9) one_3 rfl (Own.rd B10) hy9 (by first | rfl | omega) rfl) ?_
        refine sd_vv rfl rfl rfl (vv_build (cs := TSubset.cs (TSubset.mk y9 0)) bs_131 rfl rfl) ?_
        refine sd_ev rfl rfl rfl (ev_litT [(TSubset.mk y9 0)] TSubset.cs bsl_107_1 rfl rfl (ws_of rfl) rfl rfl rfl) ?_
        rintro vw5 w5 ⟨gw5, hbw5, Ow5, Gw5⟩
        have z11 := Gw5.size
        have lt12 := Ow5.lth
        have B13 := (Own.gr Fw4_0 Gw5)
        have hb := bnd hm; clear hm; obtain ⟨l10, hl10, hm⟩ := hb
        refine sd_ev rfl rfl rfl (ev_appT (l := a6) (m := [(TSubset.mk y9 0)]) (c := TSubset.cs) apt_107 rfl rfl B13 (Own.rd Ow5) hl10 (by decide)) ?_
        rintro vw6 w6 ⟨zw6, gw6, Ow6, Aw6, qw6, rw6⟩
        have z14 := Aw6.size
        refine sd_vv rfl rfl rfl (vv_assign rfl) ?_
        refine sd_nil ?_
        refine block_n ?_
        refine then_n ?_
        -- region 6 ref.go:312
        refine sw_region [(0, 0), (1, 0), (2, 0)] rfl rfl rfl ?_
        refine sd_vv rfl rfl rfl (vv_move rfl) ?_
        refine sd_vv rfl rfl rfl (vv_add (k := .i64) (a := a8) (b := 1) rfl rfl) ?_
        refine sd_vv rfl rfl rfl (vv_assign rfl) ?_
        refine sd_nil ?_
        have K_15 : Kz [] w3 w6 := (Kz.ka (Kz.gr Kw4 Gw5) Aw6 (tk1 ((pv_0 (A := (fun x => w3.heap.size ≤ x)) Fw4_1) : zy7 = 0 ∨ w3.heap.size ≤ gy7)))
        subst hrec1
        refine ⟨rfl, ⟨n1, l10, w64 (a8 + 1), vw6, zw6, gw6⟩, ?_, ⟨hm, Ow6, ⟨(pv_app (A := (fun x => w3.heap.size ≤ x)) rw6 (pv_0 (A := (fun x => w3.heap.size ≤ x)) Fw4_1))⟩, K_15⟩, Nat.lt_succ_self _⟩
        repeat' first | exact trivial | refine ⟨rfl, ?_⟩
      ·
        replace hm := ite_f (of_decide_eq_false c2) hm
        refine sw_exit ?_
        refine then_x ?_
        refine then_x ?_
        refine block_x ?_
        refine then_n ?_
        refine sw_seq ?_
        -- region 8 ref.go:315
        refine sw_region [(0, 0), (1, 0)] rfl rfl rfl ?_
        refine sd_vv rfl rfl rfl (vv_move rfl) ?_
        refine sd_vv rfl rfl rfl (vv_assign rfl) ?_
        refine sd_done ?_
        refine sw_ret ?_
        refine then_r ?_
        have X16 : Gr w w4 := (Gr.kz X7 Kw4)
        have hr := Option.some.inj hm
        subst hr
        refine ⟨_, _, rfl, res_1 rfl (rv_tmp rfl), ?_⟩
        exact ⟨vy7, zy7, gy7, rfl, Fw4_0, ⟨(pv_0 (A := (fun x => w.heap.size ≤ x)) Fw4_1)⟩, X16⟩
  ·
    replace hm := ite_f (of_decide_eq_false c1) hm
    refine sw_skip ?_
    refine then_n ?_
    refine sw_seq ?_
    -- region 9 ref.go:317
    refine sw_region [(0, 0), (1, 0), (2, 0), (3, 0), (4, 0)] rfl rfl rfl ?_
    refine sd_vv rfl rfl rfl (vv_move rfl) ?_
    refine sd_vv rfl rfl rfl (vv_build (cs := TSubset.cs (TSubset.mk 1 0)) bs_131 rfl rfl) ?_
    refine sd_ev rfl rfl rfl (ev_litT [(TSubset.mk 1 0)] TSubset.cs bsl_107_1 rfl rfl (ws_of rfl) rfl rfl rfl) ?_
    rintro vw7 w7 ⟨gw7, hbw7, Ow7, Gw7⟩
    have z17 := Gw7.size
    have lt18 := Ow7.lth
    have hb := bnd hm; clear hm; obtain ⟨l11, hl11, hm⟩ := hb
    refine sd_ev rfl rfl rfl (ev_appT (l := ([] : List TSubset)) (m := [(TSubset.mk 1 0)]) (c := TSubset.cs) apt_107 rfl rfl (own_nil _ 0 131 2) (Own.rd Ow7) hl11 (by decide)) ?_
    rintro vw8 w8 ⟨zw8, gw8, Ow8, Aw8, qw8, rw8⟩
    have z19 := Aw8.size
    refine sd_vv rfl rfl rfl (vv_assign rfl) ?_
    refine sd_done ?_
    refine sw_seq ?_
    refine sw_seq ?_
    -- region 10 ref.go:318
    refine sw_region [(0, 0)] rfl rfl rfl ?_
    refine sd_vv rfl rfl rfl (vv_assign rfl) ?_
    refine sd_done ?_
    refine sw_block ?_
    have X20 : Gr w w8 := (Gr.ka (Gr.trans (Gr.trans (Gr.trans (Gr.trans (Gr.refl w) Gw1) Gw2) Gw3) Gw7) Aw8)
    have B21 := (Own.ka (Own.gr O3_r0_s Gw7) Aw8)
    have B22 := (Own.ka Ow7 Aw8)
    refine sw_loopD (α := Nat × List TSubset × Int × Value × Nat × Nat) [5, 8, 9, 10, 39, 40, 41, 42, 43, 44, 45, 46, 47, 48, 49, 50, 51, 52, 53, 54, 55, 56, 57, 58, 59, 60, 61, 62, 63, 64, 65, 66, 67, 68, 69] (fun ⟨n2, a15, a17, vy16, zy16, gy16⟩ => [(5, vy16), (8, .int .i64 a17)]) (fun ⟨n2, a15, a17, vy16, zy16, gy16⟩ wr => (fixN (ref03_LabelsOf_L2 p0 x2) n2 (a15, a17) = some r) ∧ Own wr zy16 gy16 131 2 vy16 (a15.map TSubset.cs) ∧ Hdn (zy16 = 0 ∨ (gy16 = gw8 ∧ zw8 ≠ 0) ∨ w8.heap.size ≤ gy16) ∧ Kz [(zw8, gw8)] w8 wr) (fun ⟨n2, a15, a17, vy16, zy16, gy16⟩ => n2) ⟨FUEL, l11, 0, vw8, zw8, gw8⟩ ?_ ?_ ?_
    · repeat' first | exact trivial | refine ⟨rfl, ?_⟩
    · exact ⟨hm, Ow8, ⟨tk0⟩, Kz.refl _ _⟩
    · clear hm; rintro ⟨n2, a15, a17, vy16, zy16, gy16⟩ w9 ⟨hm, Fw9_0, Fw9_1, Kw9⟩
      have z23 := Kw9.size
      have lt24 := Fw9_0.lth
      have hb := fix_succ hm; clear hm; obtain ⟨n2, rfl, hm⟩ := hb
      generalize hrec2 : fixN (ref03_LabelsOf_L2 p0 x2) n2 = rec2 at hm
      unfold ref03_LabelsOf_L2 at hm
      try dsimp only at hm
      refine sw_seq ?_
      refine sw_seq ?_
      -- region 11 ref.go:318
      refine sw_region [(0, 0), (1, 0), (2, 0), (3, 0)] rfl rfl rfl ?_
      refine sd_vv rfl rfl rfl (vv_move rfl) ?_
      refine sd_vv rfl rfl rfl (vv_move rfl) ?_
      have B25 := (Own.kz B21 Kw9 (tk1 ((pv_sw (pv_app (A := (fun x => z3_r0_s = 0 ∨ x ≠ g3_r0_s)) rw8 (.inl rfl) (fun x hx => (tk1 lt5.o)))) : z3_r0_s = 0 ∨ zw8 = 0 ∨ g3_r0_s ≠ gw8)))
      refine sd_vv rfl rfl rfl (vv_lenT (l := x2) (c := ic) Tryz.underlying44 rfl (Own.rd B25)) ?_
      refine sd_vv rfl rfl rfl (vv_lss (a := a17) (b := (x2.length : Int)) rfl rfl) ?_
      refine sd_done ?_
      refine sw_cond rfl (fun c3 => ?_) (fun c3 => ?_)
      ·
        replace hm := ite_t (of_decide_eq_true c3) hm
        refine sw_skip ?_
        refine then_n ?_
        refine sw_seq ?_
        refine sw_block ?_
        refine sw_seq ?_
        -- region 13 ref.go:319
        refine sw_region [(0, 0), (1, 0), (2, 0)] rfl rfl rfl ?_
        refine sd_vv rfl rfl rfl (vv_move rfl) ?_
        refine sd_vv rfl rfl rfl (vv_add (k := .i64) (a := a17) (b := 1) rfl rfl) ?_
        refine sd_vv rfl rfl rfl (vv_assign rfl) ?_
        refine sd_done ?_
        refine sw_block ?_
        have X26 : Gr w w9 := (Gr.kz X20 Kw9 (tk1 ((pv_app (A := (fun x => w.heap.size ≤ x)) rw8 (.inl rfl)) : zw8 = 0 ∨ w.heap.size ≤ gw8)))
        have B27 := (Own.kz B22 Kw9 (tk1 ((pv_sw (pv_app (A := (fun x => 1 = 0 ∨ x ≠ gw7)) rw8 (.inl rfl) (fun x hx => (tk1 lt18.o)))) : 1 = 0 ∨ zw8 = 0 ∨ gw7 ≠ gw8)))
        refine sw_loopD (α := Nat × List TSubset × Int × Value × Nat × Nat) [5, 9, 10, 47, 48, 49, 50, 51, 52, 53, 54, 55, 56, 57, 58, 59, 60, 61, 62, 63, 64, 65, 66, 67, 68, 69] (fun ⟨n3, a21, a23, vy22, zy22, gy22⟩ => [(5, vy22), (9, .int .i64 a23)]) (fun ⟨n3, a21, a23, vy22, zy22, gy22⟩ wr => (fixN (ref03_LabelsOf_L3 p0 x2 a17 rec2) n3 (a21, a23) = some r) ∧ Own wr zy22 gy22 131 2 vy22 (a21.map TSubset.cs) ∧ Hdn (zy22 = 0 ∨ (gy22 = gy16 ∧ zy16 ≠ 0) ∨ w9.heap.size ≤ gy22) ∧ Kz [(zy16, gy16)] w9 wr) (fun ⟨n3, a21, a23, vy22, zy22, gy22⟩ => n3) ⟨FUEL, a15, w64 (a17 + 1), vy16, zy16, gy16⟩ ?_ ?_ ?_
        · repeat' first | exact trivial | refine ⟨rfl, ?_⟩
        · exact ⟨hm, Fw9_0, ⟨tk0⟩, Kz.refl _ _⟩
        · clear hm; rintro ⟨n3, a21, a23, vy22, zy22, gy22⟩ w10 ⟨hm, Fw10_0, Fw10_1, Kw10⟩
          have z28 := Kw10.size
          have lt29 := Fw10_0.lth
          have hb := fix_succ hm; clear hm; obtain ⟨n3, rfl, hm⟩ := hb
          generalize hrec3 : fixN (ref03_LabelsOf_L3 p0 x2 a17 rec2) n3 = rec3 at hm
          unfold ref03_LabelsOf_L3 at hm
          try dsimp only at hm
          refine sw_seq ?_
          refine sw_seq ?_
          -- region 14 ref.go:319
          refine sw_region [(0, 0), (1, 0), (2, 0), (3, 0)] rfl rfl rfl ?_
          refine sd_vv rfl rfl rfl (vv_move rfl) ?_
          refine sd_vv rfl rfl rfl (vv_move rfl) ?_
          have B30 := (Own.kz B25 Kw10 (tk1 ((pv_sw (pv_1 (A := (fun x => z3_r0_s = 0 ∨ x ≠ g3_r0_s)) Fw9_1 (pv_app (A := (fun x => z3_r0_s = 0 ∨ x ≠ g3_r0_s)) rw8 (.inl rfl) (fun x hx => (tk1 lt5.o))) (fun x hx => (tk1 lt5.o)))) : z3_r0_s = 0 ∨ zy16 = 0 ∨ g3_r0_s ≠ gy16)))
          refine sd_vv rfl rfl rfl (vv_lenT (l := x2) (c := ic) Tryz.underlying44 rfl (Own.rd B30)) ?_
          refine sd_vv rfl rfl rfl (vv_lss (a := a23) (b := (x2.length : Int)) rfl rfl) ?_
          refine sd_done ?_
          refine sw_cond rfl (fun c4 => ?_) (fun c4 => ?_)
          ·
            replace hm := ite_t (of_decide_eq_true c4) hm
            refine sw_skip ?_
            refine then_n ?_
            refine sw_seq ?_
            refine sw_block ?_
            refine sw_seq ?_
            -- region 16 ref.go:320 DRAWS
            refine sw_drawN [([])] [] (.leaf [(0, 10), (1, 10), (2, 10), (3, 10), (4, 10), (5, 10), (6, 10), (7, 10), (8, 10), (9, 10), (10, 0), (11, 0)]) (by kernel_rfl) (by kernel_rfl) rfl (by kernel_rfl) ?_
            intro w11 Gw11 zw11
            refine sdz_leaf ?_
            refine dd_hn 0 rfl rfl rfl rfl (Kp.refl ([]) w11) (fun w hS => vv_move rfl) ?_
            refine dd_hn 0 rfl rfl rfl rfl (Kp.refl ([]) w11) (fun w hS => vv_move rfl) ?_
            have hb := bnd hm; clear hm; obtain ⟨y24, hy24, hm⟩ := hb
            have B31 := (Own.gr B30 Gw11)
            refine dd_hn 0 rfl rfl rfl rfl (Kp.refl ([]) w11) (fun w hS => vv_ixT (i := a17) Tryz.underlying44 (one_3).siz rfl (Own.rd (Own.kp B31 hS)) rfl hy24) ?_
            refine dd_hn 0 rfl rfl rfl rfl (Kp.refl ([]) w11) (fun w hS => vv_el1T (q := 0) (u := .int .i64 y24) one_3 rfl (Own.rd (Own.kp B31 hS)) hy24 (by first | rfl | omega) rfl) ?_
            refine dd_hn 0 rfl rfl rfl rfl (Kp.refl ([]) w11) (fun w hS => vv_move rfl) ?_
            refine dd_hn 0 rfl rfl rfl rfl (Kp.refl ([]) w11) (fun w hS => vv_move rfl) ?_
            have hb := bnd hm; clear hm; obtain ⟨y25, hy25, hm⟩ := hb
            refine dd_hn 0 rfl rfl rfl rfl (Kp.refl ([]) w11) (fun w hS => vv_ixT (i := a23) Tryz.underlying44 (one_3).siz rfl (Own.rd (Own.kp B31 hS)) rfl hy25) ?_
            refine dd_hn 0 rfl rfl rfl rfl (Kp.refl ([]) w11) (fun w hS => vv_el1T (q := 0) (u := .int .i64 y25) one_3 rfl (Own.rd (Own.kp B31 hS)) hy25 (by first | rfl | omega) rfl) ?_
            refine dd_hn 0 rfl rfl rfl rfl (Kp.refl ([]) w11) (fun w hS => vv_bitI (a := y25) (b := 1) (by simp) rfl rfl) ?_
            refine dd_hn 0 rfl rfl rfl rfl (Kp.refl ([]) w11) (fun w hS => vv_build (cs := TSubset.cs (TSubset.mk y24 (bitI .xor y25 1))) bs_131 rfl rfl) ?_
            refine dd_z [] rfl rfl rfl (ev_alloc (cs := TSubset.cs (TSubset.mk 0 0)) zv_131 rfl) ⟨fun _ => tk0, trivial⟩ ?_
            rintro _ w12 ⟨b12, rfl, hbw12, Bw12, Gw12⟩
            have z32 := Gw12.size
            have lt33 := Bw12.lt
            refine ⟨Kz.ofGr Gw12, ?_⟩
            refine dd_z [(1, b12)] rfl rfl rfl (ev_stM (cs' := TSubset.cs (TSubset.mk y24 (bitI .xor y25 1))) (vs := TSubset.cs (TSubset.mk y24 (bitI .xor y25 1))) (agg_131).siz rfl rfl rfl rfl rfl Bw12 rfl rfl) ⟨fun _ => tk0, trivial⟩ ?_
            rintro _ w13 ⟨Bw13, Mw13⟩
            have z34 := Mw13.size
            refine ⟨Kz.ofMd Mw13, ?_⟩
            refine sd_done ?_
            refine sw_seq ?_
            -- region 17 ref.go:321
            refine sw_region [(0, 0), (1, 0), (2, 0)] rfl rfl rfl ?_
            have B35 := (Bx.md (Bx.gr (Bx.gr (Bx.kz (Bx.kz (Bx.ka (Bx.gr B6 Gw7) Aw8) Kw9 (tk1 ((pv_app (A := (fun x => x ≠ b1)) rw8 (.inl rfl)) : zw8 = 0 ∨ gw8 ≠ b1))) Kw10 (tk1 ((pv_1 (A := (fun x => x ≠ b1)) Fw9_1 (pv_app (A := (fun x => x ≠ b1)) rw8 (.inl rfl))) : zy16 = 0 ∨ gy16 ≠ b1))) Gw11) Gw12) Mw13)
            refine sd_vv rfl rfl rfl (vv_loadW agg_28 rfl B35 rfl) ?_
            refine sd_vv rfl rfl rfl (vv_loadW agg_131 rfl Bw13 rfl) ?_
            have hb := bnd hm; clear hm; obtain ⟨x26, hx26, hm⟩ := hb
            refine sd_ev rfl rfl rfl (ev_call en_152 rfl (ref03_IsSubset_w p0 (TSubset.mk y24 (bitI .xor y25 1)) _ hx26 _)) ?_
            rintro _ w14 ⟨rfl, Gw14⟩
            have z36 := Gw14.size
            refine sd_done ?_
            refine sw_cond rfl (fun c5 => ?_) (fun c5 => ?_)
            ·
              replace hm := cnd_t c5 hm
              -- region 18 ref.go:322
              refine sw_region [(0, 0), (1, 0), (2, 0), (3, 0), (4, 0)] rfl rfl rfl ?_
              refine sd_vv rfl rfl rfl (vv_move rfl) ?_
              have B37 := (Bx.gr Bw13 Gw14)
              refine sd_vv rfl rfl rfl (vv_loadW agg_131 rfl B37 rfl) ?_
              refine sd_ev rfl rfl rfl (ev_litT [(TSubset.mk y24 (bitI .xor y25 1))] TSubset.cs bsl_107_1 rfl rfl (ws_of rfl) rfl rfl rfl) ?_
              rintro vw15 w15 ⟨gw15, hbw15, Ow15, Gw15⟩
              have z38 := Gw15.size
              have lt39 := Ow15.lth
              have B40 := (Own.gr (Own.gr (Own.md (Own.gr (Own.gr Fw10_0 Gw11) Gw12) Mw13 (tk1 ((pv_lt (A := (fun x => x ≠ b12)) lt29) : zy22 = 0 ∨ gy22 ≠ b12))) Gw14) Gw15)
              have hb := bnd hm; clear hm; obtain ⟨l27, hl27, hm⟩ := hb
              refine sd_ev rfl rfl rfl (ev_appT (l := a21) (m := [(TSubset.mk y24 (bitI .xor y25 1))]) (c := TSubset.cs) apt_107 rfl rfl B40 (Own.rd Ow15) hl27 (by decide)) ?_
              rintro vw16 w16 ⟨zw16, gw16, Ow16, Aw16, qw16, rw16⟩
              have z41 := Aw16.size
              refine sd_vv rfl rfl rfl (vv_assign rfl) ?_
              refine sd_nil ?_
              refine block_n ?_
              refine then_n ?_
              -- region 15 ref.go:319
              refine sw_region [(0, 0), (1, 0), (2, 0)] rfl rfl rfl ?_
              refine sd_vv rfl rfl rfl (vv_move rfl) ?_
              refine sd_vv rfl rfl rfl (vv_add (k := .i64) (a := a23) (b := 1) rfl rfl) ?_
              refine sd_vv rfl rfl rfl (vv_assign rfl) ?_
              refine sd_nil ?_
              have K_42 : Kz [(zy16, gy16)] w9 w16 := (Kz.ka (Kz.gr (Kz.gr (Kz.md (Kz.gr (Kz.gr Kw10 Gw11) Gw12) Mw13) Gw14) Gw15) Aw16 (tk1 ((pv_1 (A := (fun x => (x = gy16 ∧ zy16 ≠ 0) ∨ w9.heap.size ≤ x)) Fw10_1 tk0) : zy22 = 0 ∨ (gy22 = gy16 ∧ zy16 ≠ 0) ∨ w9.heap.size ≤ gy22)))
              subst hrec3
              refine ⟨rfl, ⟨n3, l27, w64 (a23 + 1), vw16, zw16, gw16⟩, ?_, ⟨hm, Ow16, ⟨(pv_app (A := (fun x => (x = gy16 ∧ zy16 ≠ 0) ∨ w9.heap.size ≤ x)) rw16 (pv_1 (A := (fun x => (x = gy16 ∧ zy16 ≠ 0) ∨ w9.heap.size ≤ x)) Fw10_1 tk0))⟩, K_42⟩, Nat.lt_succ_self _⟩
              repeat' first | exact trivial | refine ⟨rfl, ?_⟩
            ·
              replace hm := cnd_f c5 hm
              refine sw_skip ?_
              refine block_n ?_
              refine then_n ?_
              -- region 15 ref.go:319
              refine sw_region [(0, 0), (1, 0), (2, 0)] rfl rfl rfl ?_
              refine sd_vv rfl rfl rfl (vv_move rfl) ?_
              refine sd_vv rfl rfl rfl (vv_add (k := .i64) (a := a23) (b := 1) rfl rfl) ?_
              refine sd_vv rfl rfl rfl (vv_assign rfl) ?_
              refine sd_nil ?_
              have K_43 : Kz [(zy16, gy16)] w9 w14 := (Kz.gr (Kz.md (Kz.gr (Kz.gr Kw10 Gw11) Gw12) Mw13) Gw14)
              have B44 := (Own.gr (Own.md (Own.gr (Own.gr Fw10_0 Gw11) Gw12) Mw13 (tk1 ((pv_lt (A := (fun x => x ≠ b12)) lt29) : zy22 = 0 ∨ gy22 ≠ b12))) Gw14)
              subst hrec3
              refine ⟨rfl, ⟨n3, a21, w64 (a23 + 1), vy22, zy22, gy22⟩, ?_, ⟨hm, B44, ⟨(pv_1 (A := (fun x => (x = gy16 ∧ zy16 ≠ 0) ∨ w9.heap.size ≤ x)) Fw10_1 tk0)⟩, K_43⟩, Nat.lt_succ_self _⟩
              repeat' first | exact trivial | refine ⟨rfl, ?_⟩
          ·
            replace hm := ite_f (of_decide_eq_false c4) hm
            refine sw_exit ?_
            refine then_x ?_
            refine then_x ?_
            refine block_x ?_
            refine block_n ?_
            refine then_n ?_
            -- region 12 ref.go:318
            refine sw_region [(0, 0), (1, 0), (2, 0)] rfl rfl rfl ?_
            refine sd_vv rfl rfl rfl (vv_move rfl) ?_
            refine sd_vv rfl rfl rfl (vv_add (k := .i64) (a := a17) (b := 1) rfl rfl) ?_
            refine sd_vv rfl rfl rfl (vv_assign rfl) ?_
            refine sd_nil ?_
            have K_45 : Kz [(zw8, gw8)] w8 w10 := (Kz.kz Kw9 Kw10 (tk1 ((pv_1 (A := (fun x => (x = gw8 ∧ zw8 ≠ 0) ∨ w8.heap.size ≤ x)) Fw9_1 tk0) : zy16 = 0 ∨ (gy16 = gw8 ∧ zw8 ≠ 0) ∨ w8.heap.size ≤ gy16)))
            subst hrec2
            refine ⟨rfl, ⟨n2, a21, w64 (a17 + 1), vy22, zy22, gy22⟩, ?_, ⟨hm, Fw10_0, ⟨(pv_1 (A := (fun x => (x = gw8 ∧ zw8 ≠ 0) ∨ w8.heap.size ≤ x)) Fw10_1 (pv_1 (A := (fun x => (x = gw8 ∧ zw8 ≠ 0) ∨ w8.heap.size ≤ x)) Fw9_1 tk0))⟩, K_45⟩, Nat.lt_succ_self _⟩
            repeat' first | exact trivial | refine ⟨rfl, ?_⟩
      ·
        replace hm := ite_f (of_decide_eq_false c3) hm
        refine sw_exit ?_
        refine then_x ?_
        refine then_x ?_
        refine block_x ?_
        refine then_n ?_
        refine sw_seq ?_
        -- region 19 ref.go:326
        refine sw_region [(0, 0), (1, 0)] rfl rfl rfl ?_
        refine sd_vv rfl rfl rfl (vv_move rfl) ?_
        refine sd_vv rfl rfl rfl (vv_assign rfl) ?_
        refine sd_done ?_
        refine sw_ret ?_
        have X46 : Gr w w9 := (Gr.kz X20 Kw9 (tk1 ((pv_app (A := (fun x => w.heap.size ≤ x)) rw8 (.inl rfl)) : zw8 = 0 ∨ w.heap.size ≤ gw8)))
        have hr := Option.some.inj hm
        subst hr
        refine ⟨_, _, rfl, res_1 rfl (rv_tmp rfl), ?_⟩
        exact ⟨vy16, zy16, gy16, rfl, Fw9_0, ⟨(pv_1 (A := (fun x => w.heap.size ≤ x)) Fw9_1 (pv_app (A := (fun x => w.heap.size ≤ x)) rw8 (.inl rfl)))⟩, X46⟩

set_option maxHeartbeats 2000000 in
theorem ref03_step_w (p0 : W2) (p1 : Int)  (r : W2) (hm : ref03_step p0 p1 = some r) (w : World)   :
    Calls Tryz.prog 257 [kv p0, .int .i64 p1].toArray w fun e w' => ∃ v, e = .returned v ∧ (v = kv r ∧ Gr w w') := by
  unfold ref03_step at hm
  refine calls_of_sw (R := fun v w' => v = kv r ∧ Gr w w') 12 Tryz.func257 rfl rfl rfl ?_
  refine sw_seq ?_
  -- region 0 ref.go:275
  refine sw_region [(0, 0), (1, 0)] rfl rfl rfl ?_
  refine sd_ev rfl rfl rfl (ev_box (cs := kb p0) rfl rfl) ?_
  rintro _ w1 ⟨b1, rfl, hbw1, Bw1, Gw1⟩
  have z1 := Gw1.size
  have lt2 := Bw1.lt
  refine sd_ev rfl rfl rfl (ev_alloc (cs := kb k0) zv_23 rfl) ?_
  rintro _ w2 ⟨b2, rfl, hbw2, Bw2, Gw2⟩
  have z3 := Gw2.size
  have lt4 := Bw2.lt
  refine sd_done ?_
  refine sw_seq ?_
  refine sw_seq ?_
  -- region 1 ref.go:276
  refine sw_region [(0, 0), (1, 0), (2, 0)] rfl rfl rfl ?_
  refine sd_vv rfl rfl rfl (vv_move rfl) ?_
  have hb := bnd hm; clear hm; obtain ⟨x1, hx1, hm⟩ := hb
  refine sd_vv rfl rfl rfl (vv_remI (a := p1) (b := 2) rfl rfl hx1) ?_
  refine sd_vv rfl rfl rfl (vv_eql (a := x1) (b := 0) rfl rfl) ?_
  refine sd_done ?_
  refine sw_cond rfl (fun c1 => ?_) (fun c1 => ?_)
  ·
    replace hm := ite_t (of_decide_eq_true c1) hm
    refine sw_seq ?_
    -- region 2 ref.go:277
    refine sw_region [(0, 0), (1, 0), (2, 0)] rfl rfl rfl ?_
    have B5 := (Bx.gr Bw1 Gw2)
    refine sd_vv rfl rfl rfl (vv_loadW agg_23 rfl B5 rfl) ?_
    refine sd_ev rfl rfl rfl (ev_call en_64 rfl (rderive_c p0 (un8 31#8) (un8_nn _) (un8_le _) 0#64 _)) ?_
    rintro _ w3 ⟨rfl, Gw3⟩
    have z6 := Gw3.size
    have B7 := (Bx.gr Bw2 Gw3)
    refine sd_ev rfl rfl rfl (ev_stM (cs' := kb (drv p0 (un8 31#8) 0#64)) (vs := kb (drv p0 (un8 31#8) 0#64)) (agg_23).siz rfl rfl rfl rfl rfl B7 rfl (by obtain ⟨kk0, hk0⟩ := ex_of (drv p0 (un8 31#8) 0#64); rw [← hk0]; first | done | rfl)) ?_
    rintro _ w4 ⟨Bw4, Mw4⟩
    have z8 := Mw4.size
    refine sd_done ?_
    refine sw_ret ?_
    refine then_r ?_
    have X9 : Gr w w4 := (Gr.md (Gr.trans (Gr.trans (Gr.trans (Gr.refl w) Gw1) Gw2) Gw3) Mw4)
    have hr := Option.some.inj hm
    subst hr
    refine ⟨_, _, rfl, res_1 rfl (rv_cellW agg_23 rfl Bw4 rfl), ?_⟩
    exact ⟨rfl, X9⟩
  ·
    replace hm := ite_f (of_decide_eq_false c1) hm
    refine sw_skip ?_
    refine then_n ?_
    refine sw_seq ?_
    -- region 3 ref.go:279
    refine sw_region [(0, 0), (1, 0), (2, 0)] rfl rfl rfl ?_
    have B10 := (Bx.gr Bw1 Gw2)
    refine sd_vv rfl rfl rfl (vv_loadW agg_23 rfl B10 rfl) ?_
    refine sd_ev rfl rfl rfl (ev_call en_64 rfl (rderive_c p0 (un8 32#8) (un8_nn _) (un8_le _) 0#64 _)) ?_
    rintro _ w5 ⟨rfl, Gw5⟩
    have z11 := Gw5.size
    have B12 := (Bx.gr Bw2 Gw5)
    refine sd_ev rfl rfl rfl (ev_stM (cs' := kb (drv p0 (un8 32#8) 0#64)) (vs := kb (drv p0 (un8 32#8) 0#64)) (agg_23).siz rfl rfl rfl rfl rfl B12 rfl (by obtain ⟨kk0, hk0⟩ := ex_of (drv p0 (un8 32#8) 0#64); rw [← hk0]; first | done | rfl)) ?_
    rintro _ w6 ⟨Bw6, Mw6⟩
    have z13 := Mw6.size
    refine sd_done ?_
    refine sw_ret ?_
    have X14 : Gr w w6 := (Gr.md (Gr.trans (Gr.trans (Gr.trans (Gr.refl w) Gw1) Gw2) Gw5) Mw6)
    have hr := Option.some.inj hm
    subst hr
    refine ⟨_, _, rfl, res_1 rfl (rv_cellW agg_23 rfl Bw6 rfl), ?_⟩
    exact ⟨rfl, X14⟩

set_option maxHeartbeats 2000000 in
theorem ref03_down_w (p0 : W2) (p1 : Int) (p2 : Int)  (r : W2) (hm : ref03_down p0 p1 p2 = some r) (w : World)   :
    Calls Tryz.prog 226 [kv p0, .int .i64 p1, .int .i64 p2].toArray w fun e w' => ∃ v, e = .returned v ∧ (v = kv r ∧ Gr w w') := by
  unfold ref03_down at hm
  refine calls_of_sw (R := fun v w' => v = kv r ∧ Gr w w') 25 Tryz.func226 rfl rfl rfl ?_
  refine sw_seq ?_
  -- region 0 ref.go:283
  refine sw_region [(0, 0), (1, 0)] rfl rfl rfl ?_
  refine sd_ev rfl rfl rfl (ev_box (cs := kb p0) rfl rfl) ?_
  rintro _ w1 ⟨b1, rfl, hbw1, Bw1, Gw1⟩
  have z1 := Gw1.size
  have lt2 := Bw1.lt
  refine sd_ev rfl rfl rfl (ev_alloc (cs := kb k0) zv_23 rfl) ?_
  rintro _ w2 ⟨b2, rfl, hbw2, Bw2, Gw2⟩
  have z3 := Gw2.size
  have lt4 := Bw2.lt
  refine sd_done ?_
  refine sw_seq ?_
  -- region 1 ref.go:284
  refine sw_region [(0, 0), (1, 0), (2, 0), (3, 0)] rfl rfl rfl ?_
  refine sd_vv rfl rfl rfl (vv_move rfl) ?_
  refine sd_vv rfl rfl rfl (vv_move rfl) ?_
  have hb := bnd hm; clear hm; obtain ⟨x1, hx1, hm⟩ := hb
  refine sd_ev rfl rfl rfl (ev_call en_253 rfl (ref03_Path_w p1 p2 _ hx1 _)) ?_
  rintro u3_r0_s w3 ⟨_, z3_r0_s, g3_r0_s, rfl, O3_r0_s, f3_r0_s, Gw3⟩
  have z5 := Gw3.size
  have lt6 := O3_r0_s.lth
  refine sd_vv rfl rfl rfl (vv_assign rfl) ?_
  refine sd_done ?_
  refine sw_seq ?_
  refine sw_seq ?_
  -- region 2 ref.go:285
  refine sw_region [(0, 0)] rfl rfl rfl ?_
  refine sd_vv rfl rfl rfl (vv_assign rfl) ?_
  refine sd_done ?_
  refine sw_block ?_
  have X7 : Gr w w3 := (Gr.trans (Gr.trans (Gr.trans (Gr.refl w) Gw1) Gw2) Gw3)
  have B8 := (Bx.gr (Bx.gr Bw1 Gw2) Gw3)
  refine sw_loopD (α := Nat × Int × W2) [8, 12, 13, 14, 15, 16, 17, 18, 19, 20, 21, 22, 23] (fun ⟨n1, a4, a5⟩ => [(8, .int .i64 a4)]) (fun ⟨n1, a4, a5⟩ wr => (fixN (ref03_down_L1 x1) n1 (a4, a5) = some r) ∧ Bx wr b1 23 (kb a5) ∧ Kz [(1, b1)] w3 wr) (fun ⟨n1, a4, a5⟩ => n1) ⟨FUEL, 1, p0⟩ ?_ ?_ ?_
  · repeat' first | exact trivial | refine ⟨rfl, ?_⟩
  · exact ⟨hm, B8, Kz.refl _ _⟩
  · clear hm; rintro ⟨n1, a4, a5⟩ w4 ⟨hm, Fw4_0, Kw4⟩
    have z9 := Kw4.size
    have lt10 := Fw4_0.lt
    have hb := fix_succ hm; clear hm; obtain ⟨n1, rfl, hm⟩ := hb
    generalize hrec1 : fixN (ref03_down_L1 x1) n1 = rec1 at hm
    unfold ref03_down_L1 at hm
    try dsimp only at hm
    refine sw_seq ?_
    refine sw_seq ?_
    -- region 3 ref.go:285
    refine sw_region [(0, 0), (1, 0), (2, 0), (3, 0)] rfl rfl rfl ?_
    refine sd_vv rfl rfl rfl (vv_move rfl) ?_
    refine sd_vv rfl rfl rfl (vv_move rfl) ?_
    have B11 := (Own.kz O3_r0_s Kw4 (tk1 ((pv_0 (A := (fun x => x ≠ b1)) f3_r0_s) : z3_r0_s = 0 ∨ g3_r0_s ≠ b1)))
    refine sd_vv rfl rfl rfl (vv_lenT (l := x1) (c := ic) Tryz.underlying44 rfl (Own.rd B11)) ?_
    refine sd_vv rfl rfl rfl (vv_lss (a := a4) (b := (x1.length : Int)) rfl rfl) ?_
    refine sd_done ?_
    refine sw_cond rfl (fun c1 => ?_) (fun c1 => ?_)
    ·
      replace hm := ite_t (of_decide_eq_true c1) hm
      refine sw_skip ?_
      refine then_n ?_
      refine sw_seq ?_
      refine sw_block ?_
      -- region 5 ref.go:286 DRAWS
      refine sw_drawN [([b1]), ([])] [(6, [1])] (.leaf [(0, 11), (1, 10), (2, 10), (3, 10), (4, 10), (5, 0), (6, 0)]) (by kernel_rfl) (by kernel_rfl) rfl (by kernel_rfl) ?_
      intro w5 Gw5 zw5
      refine sdz_leaf ?_
      have B12 := (Bx.gr Fw4_0 Gw5)
      refine dd_hn 1 rfl rfl rfl rfl (Kp.refl ([]) w5) (fun w hS => vv_loadW agg_23 rfl (Bx.kp B12 hS) rfl) ?_
      refine dd_hn 0 rfl rfl rfl rfl (Kp.refl ([b1]) w5) (fun w hS => vv_move rfl) ?_
      refine dd_hn 0 rfl rfl rfl rfl (Kp.refl ([b1]) w5) (fun w hS => vv_move rfl) ?_
      have hb := bnd hm; clear hm; obtain ⟨y6, hy6, hm⟩ := hb
      have B13 := (Own.gr B11 Gw5)
      refine dd_hn 0 rfl rfl rfl rfl (Kp.refl ([b1]) w5) (fun w hS => vv_ixT (i := a4) Tryz.underlying44 (one_3).siz rfl (Own.rd (Own.kp B13 hS (tk1 ((pv_0 (A := (fun x => x ≠ b1)) f3_r0_s) : z3_r0_s = 0 ∨ g3_r0_s ≠ b1)))) rfl hy6) ?_
      refine dd_hn 0 rfl rfl rfl rfl (Kp.refl ([b1]) w5) (fun w hS => vv_el1T (q := 0) (u := .int .i64 y6) one_3 rfl (Own.rd (Own.kp B13 hS (tk1 ((pv_0 (A := (fun x => x ≠ b1)) f3_r0_s) : z3_r0_s = 0 ∨ g3_r0_s ≠ b1)))) hy6 (by first | rfl | omega) rfl) ?_
      have hb := bnd hm; clear hm; obtain ⟨x7, hx7, hm⟩ := hb
      refine dd_z [] rfl rfl rfl (ev_call en_257 rfl (ref03_step_w a5 y6 _ hx7 _)) ⟨fun _ => tk0, fun _ => tk0, trivial⟩ ?_
      rintro _ w6 ⟨rfl, Gw6⟩
      have z14 := Gw6.size
      refine ⟨Kz.ofGr Gw6, ?_⟩
      have B15 := (Bx.gr B12 Gw6)
      refine dd_z [(1, b1)] rfl rfl rfl (ev_stM (cs' := kb x7) (vs := kb x7) (agg_23).siz rfl rfl rfl rfl rfl B15 rfl rfl) ⟨fun _ => tk0, nofun, trivial⟩ ?_
      rintro _ w7 ⟨Bw7, Mw7⟩
      have z16 := Mw7.size
      refine ⟨Kz.ofMd Mw7, ?_⟩
      refine sd_nil ?_
      refine block_n ?_
      refine then_n ?_
      -- region 4 ref.go:285
      refine sw_region [(0, 0), (1, 0), (2, 0)] rfl rfl rfl ?_
      refine sd_vv rfl rfl rfl (vv_move rfl) ?_
      refine sd_vv rfl rfl rfl (vv_add (k := .i64) (a := a4) (b := 1) rfl rfl) ?_
      refine sd_vv rfl rfl rfl (vv_assign rfl) ?_
      refine sd_nil ?_
      have K_17 : Kz [(1, b1)] w3 w7 := (Kz.md (Kz.gr (Kz.gr Kw4 Gw5) Gw6) Mw7)
      subst hrec1
      refine ⟨rfl, ⟨n1, w64 (a4 + 1), x7⟩, ?_, ⟨hm, Bw7, K_17⟩, Nat.lt_succ_self _⟩
      repeat' first | exact trivial | refine ⟨rfl, ?_⟩
    ·
      replace hm := ite_f (of_decide_eq_false c1) hm
      refine sw_exit ?_
      refine then_x ?_
      refine then_x ?_
      refine block_x ?_
      refine then_n ?_
      refine sw_seq ?_
      -- region 6 ref.go:288
      refine sw_region [(0, 0), (1, 0)] rfl rfl rfl ?_
      refine sd_vv rfl rfl rfl (vv_loadW agg_23 rfl Fw4_0 rfl) ?_
      have B18 := (Bx.kz (Bx.gr Bw2 Gw3) Kw4)
      refine sd_ev rfl rfl rfl (ev_stM (cs' := kb a5) (vs := kb a5) (agg_23).siz rfl rfl rfl rfl rfl B18 rfl rfl) ?_
      rintro _ w8 ⟨Bw8, Mw8⟩
      have z19 := Mw8.size
      refine sd_done ?_
      refine sw_ret ?_
      have X20 : Gr w w8 := (Gr.md (Gr.kz X7 Kw4) Mw8)
      have hr := Option.some.inj hm
      subst hr
      refine ⟨_, _, rfl, res_1 rfl (rv_cellW agg_23 rfl Bw8 rfl), ?_⟩
      exact ⟨rfl, X20⟩

set_option maxHeartbeats 2000000 in
theorem ref03_label_w (p0 : W2) (p1 : Int) (p2 : Int)  (r : W2) (hm : ref03_label p0 p1 p2 = some r) (w : World)   :
    Calls Tryz.prog 207 [kv p0, .int .i64 p1, .int .i64 p2].toArray w fun e w' => ∃ v, e = .returned v ∧ (v = kv r ∧ Gr w w') := by
  unfold ref03_label at hm
  refine calls_of_sw (R := fun v w' => v = kv r ∧ Gr w w') 14 Tryz.func207 rfl rfl rfl ?_
  refine sw_seq ?_
  -- region 0 ref.go:292
  refine sw_region [(0, 0), (1, 0)] rfl rfl rfl ?_
  refine sd_ev rfl rfl rfl (ev_box (cs := kb p0) rfl rfl) ?_
  rintro _ w1 ⟨b1, rfl, hbw1, Bw1, Gw1⟩
  have z1 := Gw1.size
  have lt2 := Bw1.lt
  refine sd_ev rfl rfl rfl (ev_alloc (cs := kb k0) zv_23 rfl) ?_
  rintro _ w2 ⟨b2, rfl, hbw2, Bw2, Gw2⟩
  have z3 := Gw2.size
  have lt4 := Bw2.lt
  refine sd_done ?_
  refine sw_seq ?_
  -- region 1 ref.go:293
  refine sw_region [(0, 0), (1, 0), (2, 0), (3, 0), (4, 0), (5, 0), (6, 0), (7, 0)] rfl rfl rfl ?_
  have B5 := (Bx.gr Bw1 Gw2)
  refine sd_vv rfl rfl rfl (vv_loadW agg_23 rfl B5 rfl) ?_
  refine sd_vv rfl rfl rfl (vv_move rfl) ?_
  refine sd_vv rfl rfl rfl (vv_cvIU cv_3_24 rfl) ?_
  refine sd_ev rfl rfl rfl (ev_call en_64 rfl (rderive_c p0 (un8 30#8) (un8_nn _) (un8_le _) (wd p1) _)) ?_
  rintro _ w3 ⟨rfl, Gw3⟩
  have z6 := Gw3.size
  refine sd_vv rfl rfl rfl (vv_move rfl) ?_
  refine sd_vv rfl rfl rfl (vv_move rfl) ?_
  have hb := bnd hm; clear hm; obtain ⟨x1, hx1, hm⟩ := hb
  refine sd_ev rfl rfl rfl (ev_call en_226 rfl (ref03_down_w (drv p0 (un8 30#8) (wd p1)) p1 p2 _ hx1 _)) ?_
  rintro _ w4 ⟨rfl, Gw4⟩
  have z7 := Gw4.size
  have B8 := (Bx.gr (Bx.gr Bw2 Gw3) Gw4)
  refine sd_ev rfl rfl rfl (ev_stM (cs' := kb x1) (vs := kb x1) (agg_23).siz rfl rfl rfl rfl rfl B8 rfl rfl) ?_
  rintro _ w5 ⟨Bw5, Mw5⟩
  have z9 := Mw5.size
  refine sd_done ?_
  refine sw_ret ?_
  have X10 : Gr w w5 := (Gr.md (Gr.trans (Gr.trans (Gr.trans (Gr.trans (Gr.refl w) Gw1) Gw2) Gw3) Gw4) Mw5)
  have hr := Option.some.inj hm
  subst hr
  refine ⟨_, _, rfl, res_1 rfl (rv_cellW agg_23 rfl Bw5 rfl), ?_⟩
  exact ⟨rfl, X10⟩

set_option maxHeartbeats 2000000 in
theorem ref03_KeyOf_w (p0 : W2) (p1 : TScheme) (p2 : TSubset)  (r : W2) (hm : ref03_KeyOf p0 p1 p2 = some r) (w : World)   :
    Calls Tryz.prog 153 [kv p0, .agg (TScheme.cs p1).toArray, .agg (TSubset.cs p2).toArray].toArray w fun e w' => ∃ v, e = .returned v ∧ (v = kv r ∧ Gr w w') := by
  unfold ref03_KeyOf at hm
  refine calls_of_sw (R := fun v w' => v = kv r ∧ Gr w w') 27 Tryz.func153 rfl rfl rfl ?_
  refine sw_seq ?_
  -- region 0 ref.go:297
  refine sw_region [(0, 0), (1, 0), (2, 0), (3, 0)] rfl rfl rfl ?_
  refine sd_ev rfl rfl rfl (ev_box (cs := kb p0) rfl rfl) ?_
  rintro _ w1 ⟨b1, rfl, hbw1, Bw1, Gw1⟩
  have z1 := Gw1.size
  have lt2 := Bw1.lt
  refine sd_ev rfl rfl rfl (ev_box (cs := TScheme.cs p1) rfl rfl) ?_
  rintro _ w2 ⟨b2, rfl, hbw2, Bw2, Gw2⟩
  have z3 := Gw2.size
  have lt4 := Bw2.lt
  refine sd_ev rfl rfl rfl (ev_box (cs := TSubset.cs p2) rfl rfl) ?_
  rintro _ w3 ⟨b3, rfl, hbw3, Bw3, Gw3⟩
  have z5 := Gw3.size
  have lt6 := Bw3.lt
  refine sd_ev rfl rfl rfl (ev_alloc (cs := kb k0) zv_23 rfl) ?_
  rintro _ w4 ⟨b4, rfl, hbw4, Bw4, Gw4⟩
  have z7 := Gw4.size
  have lt8 := Bw4.lt
  refine sd_done ?_
  refine sw_seq ?_
  refine sw_seq ?_
  -- region 1 ref.go:298
  refine sw_region [(0, 0), (1, 0), (2, 0)] rfl rfl rfl ?_
  refine sd_vv rfl rfl rfl (vv_fieldAddr fa_28_0 rfl) ?_
  have B9 := (Bx.gr (Bx.gr Bw2 Gw3) Gw4)
  refine sd_vv rfl rfl rfl (vv_load1 (v := bv p1.Kind) one_5 rfl B9 rfl) ?_
  refine sd_vv rfl rfl rfl (vv_eqlB (p := p1.Kind) (q := 1#8) rfl rfl) ?_
  refine sd_done ?_
  refine sw_cond rfl (fun c1 => ?_) (fun c1 => ?_)
  ·
    replace hm := ite_t (of_decide_eq_true c1) hm
    refine sw_seq ?_
    -- region 2 ref.go:299
    refine sw_region [(0, 0), (1, 0), (2, 0), (3, 0), (4, 0), (5, 0)] rfl rfl rfl ?_
    have B10 := (Bx.gr (Bx.gr (Bx.gr Bw1 Gw2) Gw3) Gw4)
    refine sd_vv rfl rfl rfl (vv_loadW agg_23 rfl B10 rfl) ?_
    refine sd_vv rfl rfl rfl (vv_fieldAddr fa_131_0 rfl) ?_
    have B11 := (Bx.gr Bw3 Gw4)
    refine sd_vv rfl rfl rfl (vv_load1 (v := .int .i64 p2.Node) one_3 rfl B11 rfl) ?_
    refine sd_vv rfl rfl rfl (vv_cvIU cv_3_24 rfl) ?_
    refine sd_ev rfl rfl rfl (ev_call en_64 rfl (rderive_c p0 (un8 30#8) (un8_nn _) (un8_le _) (wd p2.Node) _)) ?_
    rintro _ w5 ⟨rfl, Gw5⟩
    have z12 := Gw5.size
    have B13 := (Bx.gr Bw4 Gw5)
    refine sd_ev rfl rfl rfl (ev_stM (cs' := kb (drv p0 (un8 30#8) (wd p2.Node))) (vs := kb (drv p0 (un8 30#8) (wd p2.Node))) (agg_23).siz rfl rfl rfl rfl rfl B13 rfl (by obtain ⟨kk0, hk0⟩ := ex_of (drv p0 (un8 30#8) (wd p2.Node)); rw [← hk0]; first | done | rfl)) ?_
    rintro _ w6 ⟨Bw6, Mw6⟩
    have z14 := Mw6.size
    refine sd_done ?_
    refine sw_ret ?_
    refine then_r ?_
    have X15 : Gr w w6 := (Gr.md (Gr.trans (Gr.trans (Gr.trans (Gr.trans (Gr.trans (Gr.refl w) Gw1) Gw2) Gw3) Gw4) Gw5) Mw6)
    have hr := Option.some.inj hm
    subst hr
    refine ⟨_, _, rfl, res_1 rfl (rv_cellW agg_23 rfl Bw6 rfl), ?_⟩
    exact ⟨rfl, X15⟩
  ·
    replace hm := ite_f (of_decide_eq_false c1) hm
    refine sw_skip ?_
    refine then_n ?_
    refine sw_seq ?_
    refine sw_seq ?_
    -- region 3 ref.go:301
    refine sw_region [(0, 0), (1, 0), (2, 0)] rfl rfl rfl ?_
    refine sd_vv rfl rfl rfl (vv_fieldAddr fa_131_1 rfl) ?_
    have B16 := (Bx.gr Bw3 Gw4)
    refine sd_vv rfl rfl rfl (vv_load1 (v := .int .i64 p2.Minus) one_3 rfl B16 rfl) ?_
    refine sd_vv rfl rfl rfl (vv_eql (a := p2.Minus) (b := 0) rfl rfl) ?_
    refine sd_done ?_
    refine sw_cond rfl (fun c2 => ?_) (fun c2 => ?_)
    ·
      replace hm := ite_t (of_decide_eq_true c2) hm
      refine sw_seq ?_
      -- region 4 ref.go:302
      refine sw_region [(0, 0), (1, 0), (2, 0)] rfl rfl rfl ?_
      have B17 := (Bx.gr (Bx.gr (Bx.gr Bw1 Gw2) Gw3) Gw4)
      refine sd_vv rfl rfl rfl (vv_loadW agg_23 rfl B17 rfl) ?_
      refine sd_ev rfl rfl rfl (ev_call en_64 rfl (rderive_c p0 (un8 34#8) (un8_nn _) (un8_le _) 0#64 _)) ?_
      rintro _ w7 ⟨rfl, Gw7⟩
      have z18 := Gw7.size
      have B19 := (Bx.gr Bw4 Gw7)
      refine sd_ev rfl rfl rfl (ev_stM (cs' := kb (drv p0 (un8 34#8) 0#64)) (vs := kb (drv p0 (un8 34#8) 0#64)) (agg_23).siz rfl rfl rfl rfl rfl B19 rfl (by obtain ⟨kk0, hk0⟩ := ex_of (drv p0 (un8 34#8) 0#64); rw [← hk0]; first | done | rfl)) ?_
      rintro _ w8 ⟨Bw8, Mw8⟩
      have z20 := Mw8.size
      refine sd_done ?_
      refine sw_ret ?_
      refine then_r ?_
      have X21 : Gr w w8 := (Gr.md (Gr.trans (Gr.trans (Gr.trans (Gr.trans (Gr.trans (Gr.refl w) Gw1) Gw2) Gw3) Gw4) Gw7) Mw8)
      have hr := Option.some.inj hm
      subst hr
      refine ⟨_, _, rfl, res_1 rfl (rv_cellW agg_23 rfl Bw8 rfl), ?_⟩
      exact ⟨rfl, X21⟩
    ·
      replace hm := ite_f (of_decide_eq_false c2) hm
      refine sw_skip ?_
      refine then_n ?_
      refine sw_seq ?_
      -- region 5 ref.go:304
      refine sw_region [(0, 0), (1, 0), (2, 0), (3, 0), (4, 0), (5, 0), (6, 0), (7, 0)] rfl rfl rfl ?_
      have B22 := (Bx.gr (Bx.gr (Bx.gr Bw1 Gw2) Gw3) Gw4)
      refine sd_vv rfl rfl rfl (vv_loadW agg_23 rfl B22 rfl) ?_
      refine sd_vv rfl rfl rfl (vv_fieldAddr fa_131_0 rfl) ?_
      refine sd_vv rfl rfl rfl (vv_load1 (v := .int .i64 p2.Node) one_3 rfl B16 rfl) ?_
      refine sd_vv rfl rfl rfl (vv_fieldAddr fa_131_1 rfl) ?_
      refine sd_vv rfl rfl rfl (vv_load1 (v := .int .i64 p2.Minus) one_3 rfl B16 rfl) ?_
      have hb := bnd hm; clear hm; obtain ⟨x1, hx1, hm⟩ := hb
      refine sd_ev rfl rfl rfl (ev_call en_207 rfl (ref03_label_w p0 p2.Node p2.Minus _ hx1 _)) ?_
      rintro _ w9 ⟨rfl, Gw9⟩
      have z23 := Gw9.size
      refine sd_ev rfl rfl rfl (ev_call en_64 rfl (rderive_c x1 (un8 33#8) (un8_nn _) (un8_le _) 0#64 _)) ?_
      rintro _ w10 ⟨rfl, Gw10⟩
      have z24 := Gw10.size
      have B25 := (Bx.gr (Bx.gr Bw4 Gw9) Gw10)
      refine sd_ev rfl rfl rfl (ev_stM (cs' := kb (drv x1 (un8 33#8) 0#64)) (vs := kb (drv x1 (un8 33#8) 0#64)) (agg_23).siz rfl rfl rfl rfl rfl B25 rfl (by obtain ⟨kk0, hk0⟩ := ex_of (drv x1 (un8 33#8) 0#64); rw [← hk0]; first | done | rfl)) ?_
      rintro _ w11 ⟨Bw11, Mw11⟩
      have z26 := Mw11.size
      refine sd_done ?_
      refine sw_ret ?_
      have X27 : Gr w w11 := (Gr.md (Gr.trans (Gr.trans (Gr.trans (Gr.trans (Gr.trans (Gr.trans (Gr.refl w) Gw1) Gw2) Gw3) Gw4) Gw9) Gw10) Mw11)
      have hr := Option.some.inj hm
      subst hr
      refine ⟨_, _, rfl, res_1 rfl (rv_cellW agg_23 rfl Bw11 rfl), ?_⟩
      exact ⟨rfl, X27⟩

set_option maxHeartbeats 2000000 in
theorem ref03_SecretOf_w (p0 : W2) (p1 : TScheme) (p2 : Int)  (r : TSecret) (hm : ref03_SecretOf p0 p1 p2 = some r) (w : World)   :
    Calls Tryz.prog 146 [kv p0, .agg (TScheme.cs p1).toArray, .int .i64 p2].toArray w fun e w' => ∃ v, e = .returned v ∧ (∃ (ur0_1 : Value) (zr0_1 : Nat) (gr0_1 : Nat), v = .agg (TSecret.cs r ur0_1).toArray ∧ Own w' zr0_1 gr0_1 92 18 ur0_1 (r.Labels.map TLabel.cs) ∧ Hdn (zr0_1 = 0 ∨ w.heap.size ≤ gr0_1) ∧ Gr w w') := by
  unfold ref03_SecretOf at hm
  refine calls_of_sw (R := fun v w' => ∃ (ur0_1 : Value) (zr0_1 : Nat) (gr0_1 : Nat), v = .agg (TSecret.cs r ur0_1).toArray ∧ Own w' zr0_1 gr0_1 92 18 ur0_1 (r.Labels.map TLabel.cs) ∧ Hdn (zr0_1 = 0 ∨ w.heap.size ≤ gr0_1) ∧ Gr w w') 65 Tryz.func146 rfl rfl rfl ?_
  refine sw_seq ?_
  -- region 0 ref.go:330
  refine sw_region [(0, 0), (1, 0), (2, 0)] rfl rfl rfl ?_
  refine sd_ev rfl rfl rfl (ev_box (cs := kb p0) rfl rfl) ?_
  rintro _ w1 ⟨b1, rfl, hbw1, Bw1, Gw1⟩
  have z1 := Gw1.size
  have lt2 := Bw1.lt
  refine sd_ev rfl rfl rfl (ev_box (cs := TScheme.cs p1) rfl rfl) ?_
  rintro _ w2 ⟨b2, rfl, hbw2, Bw2, Gw2⟩
  have z3 := Gw2.size
  have lt4 := Bw2.lt
  refine sd_ev rfl rfl rfl (ev_alloc (cs := TSecret.cs (TSecret.mk 0 [] (TPoint.mk 0#64 0#64)) (.slice none 0 0)) zv_33 rfl) ?_
  rintro _ w3 ⟨b3, rfl, hbw3, Bw3, Gw3⟩
  have z5 := Gw3.size
  have lt6 := Bw3.lt
  refine sd_done ?_
  refine sw_seq ?_
  -- region 1 ref.go:331
  refine sw_region [(0, 0), (1, 0), (2, 0), (3, 0)] rfl rfl rfl ?_
  refine sd_vv rfl rfl rfl (vv_move rfl) ?_
  refine sd_vv rfl rfl rfl (vv_build (cs := TSecret.cs (TSecret.mk p2 [] (TPoint.mk 0#64 0#64)) (.slice none 0 0)) bs_33 rfl rfl) ?_
  refine sd_ev rfl rfl rfl (ev_alloc (cs := TSecret.cs (TSecret.mk 0 [] (TPoint.mk 0#64 0#64)) (.slice none 0 0)) zv_33 rfl) ?_
  rintro _ w4 ⟨b4, rfl, hbw4, Bw4, Gw4⟩
  have z7 := Gw4.size
  have lt8 := Bw4.lt
  refine sd_ev rfl rfl rfl (ev_stM (cs' := TSecret.cs (TSecret.mk p2 [] (TPoint.mk 0#64 0#64)) (.slice none 0 0)) (vs := TSecret.cs (TSecret.mk p2 [] (TPoint.mk 0#64 0#64)) (.slice none 0 0)) (agg_33).siz rfl rfl rfl rfl (TSecret.cs_ones _ _ rfl) Bw4 rfl rfl) ?_
  rintro _ w5 ⟨Bw5, Mw5⟩
  have z9 := Mw5.size
  refine sd_done ?_
  refine sw_seq ?_
  -- region 2 ref.go:332
  refine sw_region [(0, 0), (1, 0), (2, 0), (3, 0)] rfl rfl rfl ?_
  have B10 := (Bx.md (Bx.gr (Bx.gr Bw2 Gw3) Gw4) Mw5)
  refine sd_vv rfl rfl rfl (vv_loadW agg_28 rfl B10 rfl) ?_
  refine sd_vv rfl rfl rfl (vv_move rfl) ?_
  have hb := bnd hm; clear hm; obtain ⟨x1, hx1, hm⟩ := hb
  refine sd_ev rfl rfl rfl (ev_call en_206 rfl (ref03_LabelsOf_w p1 p2 _ hx1 _)) ?_
  rintro u6_r0_s w6 ⟨_, z6_r0_s, g6_r0_s, rfl, O6_r0_s, f6_r0_s, Gw6⟩
  have z11 := Gw6.size
  have lt12 := O6_r0_s.lth
  refine sd_vv rfl rfl rfl (vv_assign rfl) ?_
  refine sd_done ?_
  refine sw_seq ?_
  refine sw_seq ?_
  -- region 3 ref.go:333
  refine sw_region [(0, 0)] rfl rfl rfl ?_
  refine sd_vv rfl rfl rfl (vv_assign rfl) ?_
  refine sd_done ?_
  refine sw_block ?_
  have X13 : Gr w w6 := (Gr.trans (Gr.md (Gr.trans (Gr.trans (Gr.trans (Gr.trans (Gr.refl w) Gw1) Gw2) Gw3) Gw4) Mw5) Gw6)
  have B14 := (Bx.gr Bw5 Gw6)
  refine sw_loopD (α := Nat × Int × List TLabel × Value × Nat × Nat) [9, 10, 16, 17, 18, 19, 20, 21, 22, 23, 24, 25, 26, 27, 28, 29, 30, 31, 32, 33, 34, 35, 36, 37, 38, 39, 40, 41, 42, 43, 44, 45, 46, 47, 48, 49, 50, 51, 52, 53, 54, 55, 56, 57, 58, 59, 60, 61, 62, 63] (fun ⟨n1, a5, a6, vy7, zy7, gy7⟩ => [(9, .int .i64 a5)]) (fun ⟨n1, a5, a6, vy7, zy7, gy7⟩ wr => (fixN (ref03_SecretOf_L1 p0 p1 p2 x1) n1 (a5, a6) = some r) ∧ Own wr zy7 gy7 92 18 vy7 (a6.map TLabel.cs) ∧ Hdn (zy7 = 0 ∨ w6.heap.size ≤ gy7) ∧ Bx wr b4 33 (TSecret.cs (TSecret.mk p2 a6 (TPoint.mk 0#64 0#64)) vy7) ∧ Kz [(1, b4)] w6 wr) (fun ⟨n1, a5, a6, vy7, zy7, gy7⟩ => n1) ⟨FUEL, 0, [], (.slice none 0 0), 0, 0⟩ ?_ ?_ ?_
  · repeat' first | exact trivial | refine ⟨rfl, ?_⟩
  · exact ⟨hm, (own_nil _ 0 92 18), ⟨(.inl rfl)⟩, B14, Kz.refl _ _⟩
  · clear hm; rintro ⟨n1, a5, a6, vy7, zy7, gy7⟩ w7 ⟨hm, Fw7_0, Fw7_1, Fw7_2, Kw7⟩
    have z15 := Kw7.size
    have lt16 := Fw7_0.lth
    have lt17 := Fw7_2.lt
    have hb := fix_succ hm; clear hm; obtain ⟨n1, rfl, hm⟩ := hb
    generalize hrec1 : fixN (ref03_SecretOf_L1 p0 p1 p2 x1) n1 = rec1 at hm
    unfold ref03_SecretOf_L1 at hm
    try dsimp only at hm
    refine sw_seq ?_
    refine sw_seq ?_
    -- region 4 ref.go:333
    refine sw_region [(0, 0), (1, 0), (2, 0), (3, 0)] rfl rfl rfl ?_
    refine sd_vv rfl rfl rfl (vv_move rfl) ?_
    refine sd_vv rfl rfl rfl (vv_move rfl) ?_
    have B18 := (Own.kz O6_r0_s Kw7 (tk1 ((pv_0 (A := (fun x => x ≠ b4)) f6_r0_s) : z6_r0_s = 0 ∨ g6_r0_s ≠ b4)))
    refine sd_vv rfl rfl rfl (vv_lenT (l := x1) (c := TSubset.cs) Tryz.underlying107 rfl (Own.rd B18)) ?_
    refine sd_vv rfl rfl rfl (vv_lss (a := a5) (b := (x1.length : Int)) rfl rfl) ?_
    refine sd_done ?_
    refine sw_cond rfl (fun c1 => ?_) (fun c1 => ?_)
    ·
      replace hm := ite_t (of_decide_eq_true c1) hm
      refine sw_skip ?_
      refine then_n ?_
      refine sw_seq ?_
      refine sw_block ?_
      have X19 : Gr w w7 := (Gr.kz X13 Kw7)
      refine sw_joinD (β := W2 × Nat) [10, 22, 23, 24, 25, 26, 27, 28] (fun ⟨a9, bq8⟩ => [(10, .pointer (some ⟨bq8, 0, none⟩))]) (fun ⟨a9, bq8⟩ wr => (ref03_SecretOf_J2 p0 x1 a5 a6 rec1 a9 = some r) ∧ Bx wr bq8 23 (kb a9) ∧ w7.heap.size ≤ bq8 ∧ Kz [] w7 wr) ?_ ?_
      · clear hm; rintro ⟨a9, bq8⟩ w8 ⟨hm, Fw8_0, Fw8_1, Kw8⟩
        have z20 := Kw8.size
        have lt21 := Fw8_0.lt
        unfold ref03_SecretOf_J2 at hm
        have X22 : Gr w w8 := (Gr.kz X19 Kw8)
        refine sw_joinD (β := W2) [29, 30, 31, 32, 33, 34, 35, 36, 37, 38, 39, 40, 41, 42, 43, 44, 45, 46] (fun a10 => []) (fun a10 wr => (ref03_SecretOf_J3 x1 a5 a6 rec1 a10 = some r) ∧ Bx wr bq8 23 (kb a10) ∧ Kz [(1, bq8)] w8 wr) ?_ ?_
        · clear hm; rintro a10 w9 ⟨hm, Fw9_0, Kw9⟩
          have z23 := Kw9.size
          have lt24 := Fw9_0.lt
          unfold ref03_SecretOf_J3 at hm
          -- region 9 ref.go:338 DRAWS
          refine sw_drawN [([b4] ++ zf zy7 gy7), ([] ++ zf zy7 gy7)] [(17, [1])] (.leaf [(0, 10), (1, 11), (2, 10), (3, 10), (4, 10), (5, 10), (6, 10), (7, 10), (8, 10), (9, 10), (10, 10), (11, 10), (12, 10), (13, 10), (14, 0), (15, 0), (16, 10), (17, 0)]) (by kernel_rfl) (by kernel_rfl) rfl (by kernel_rfl) ?_
          intro w10 Gw10 zw10
          refine sdz_leaf ?_
          refine dd_hn 0 rfl rfl rfl rfl (Kp.refl ([b4] ++ zf zy7 gy7) w10) (fun w hS => vv_fieldAddr fa_33_1 rfl) ?_
          have B25 := (Bx.gr (Bx.kz (Bx.kz Fw7_2 Kw8) Kw9) Gw10)
          refine dd_hn 1 rfl rfl rfl rfl (Kp.refl ([] ++ zf zy7 gy7) w10) (fun w hS => vv_load1 (v := vy7) one_29 rfl (Bx.kp B25 hS (tk1 ((pv_0 (A := (fun x => x ≠ b4)) Fw7_1) : zy7 = 0 ∨ gy7 ≠ b4))) rfl) ?_
          refine dd_hn 0 rfl rfl rfl rfl (Kp.refl ([b4] ++ zf zy7 gy7) w10) (fun w hS => vv_move rfl) ?_
          refine dd_hn 0 rfl rfl rfl rfl (Kp.refl ([b4] ++ zf zy7 gy7) w10) (fun w hS => vv_move rfl) ?_
          have hb := bnd hm; clear hm; obtain ⟨y11, hy11, hm⟩ := hb
          have B26 := (Own.gr (Own.kz (Own.kz B18 Kw8) Kw9 (tk1 ((pv_lt (A := (fun x => x ≠ bq8)) lt12) : z6_r0_s = 0 ∨ g6_r0_s ≠ bq8))) Gw10)
          refine dd_hn 0 rfl rfl rfl rfl (Kp.refl ([b4] ++ zf zy7 gy7) w10) (fun w hS => vv_ixT (i := a5) Tryz.underlying107 (agg_131).siz rfl (Own.rd (Own.kp B26 hS (tk2 ((pv_0 (A := (fun x => x ≠ b4)) f6_r0_s) : z6_r0_s = 0 ∨ g6_r0_s ≠ b4) ((pv_sw (pv_0 (A := (fun x => z6_r0_s = 0 ∨ x ≠ g6_r0_s)) Fw7_1 (fun x hx => (tk1 lt12.o)))) : z6_r0_s = 0 ∨ zy7 = 0 ∨ g6_r0_s ≠ gy7)))) rfl hy11) ?_
          refine dd_hn 0 rfl rfl rfl rfl (Kp.refl ([b4] ++ zf zy7 gy7) w10) (fun w hS => vv_fieldAddr fa_131_0 rfl) ?_
          refine dd_hn 0 rfl rfl rfl rfl (Kp.refl ([b4] ++ zf zy7 gy7) w10) (fun w hS => vv_el1T (q := 0) (u := .int .i64 y11.Node) one_3 rfl (Own.rd (Own.kp B26 hS (tk2 ((pv_0 (A := (fun x => x ≠ b4)) f6_r0_s) : z6_r0_s = 0 ∨ g6_r0_s ≠ b4) ((pv_sw (pv_0 (A := (fun x => z6_r0_s = 0 ∨ x ≠ g6_r0_s)) Fw7_1 (fun x hx => (tk1 lt12.o)))) : z6_r0_s = 0 ∨ zy7 = 0 ∨ g6_r0_s ≠ gy7)))) hy11 (by first | rfl | omega) rfl) ?_
          refine dd_hn 0 rfl rfl rfl rfl (Kp.refl ([b4] ++ zf zy7 gy7) w10) (fun w hS => vv_move rfl) ?_
          refine dd_hn 0 rfl rfl rfl rfl (Kp.refl ([b4] ++ zf zy7 gy7) w10) (fun w hS => vv_move rfl) ?_
          have hb := bnd hm; clear hm; obtain ⟨y12, hy12, hm⟩ := hb
          refine dd_hn 0 rfl rfl rfl rfl (Kp.refl ([b4] ++ zf zy7 gy7) w10) (fun w hS => vv_ixT (i := a5) Tryz.underlying107 (agg_131).siz rfl (Own.rd (Own.kp B26 hS (tk2 ((pv_0 (A := (fun x => x ≠ b4)) f6_r0_s) : z6_r0_s = 0 ∨ g6_r0_s ≠ b4) ((pv_sw (pv_0 (A := (fun x => z6_r0_s = 0 ∨ x ≠ g6_r0_s)) Fw7_1 (fun x hx => (tk1 lt12.o)))) : z6_r0_s = 0 ∨ zy7 = 0 ∨ g6_r0_s ≠ gy7)))) rfl hy12) ?_
          refine dd_hn 0 rfl rfl rfl rfl (Kp.refl ([b4] ++ zf zy7 gy7) w10) (fun w hS => vv_fieldAddr fa_131_1 rfl) ?_
          refine dd_hn 0 rfl rfl rfl rfl (Kp.refl ([b4] ++ zf zy7 gy7) w10) (fun w hS => vv_el1T (q := 1) (u := .int .i64 y12.Minus) one_3 rfl (Own.rd (Own.kp B26 hS (tk2 ((pv_0 (A := (fun x => x ≠ b4)) f6_r0_s) : z6_r0_s = 0 ∨ g6_r0_s ≠ b4) ((pv_sw (pv_0 (A := (fun x => z6_r0_s = 0 ∨ x ≠ g6_r0_s)) Fw7_1 (fun x hx => (tk1 lt12.o)))) : z6_r0_s = 0 ∨ zy7 = 0 ∨ g6_r0_s ≠ gy7)))) hy12 (by first | rfl | omega) rfl) ?_
          have B27 := (Bx.gr Fw9_0 Gw10)
          refine dd_hn 0 rfl rfl rfl rfl (Kp.refl ([b4] ++ zf zy7 gy7) w10) (fun w hS => vv_loadW agg_23 rfl (Bx.kp B27 hS (tk1 ((pv_lt (A := (fun x => x ≠ bq8)) lt16) : zy7 = 0 ∨ gy7 ≠ bq8))) rfl) ?_
          refine dd_hn 0 rfl rfl rfl rfl (Kp.refl ([b4] ++ zf zy7 gy7) w10) (fun w hS => vv_build (cs := TLabel.cs (TLabel.mk y11.Node y12.Minus a10)) bs_92 rfl (fill_M rfl rfl rfl (fill_M rfl rfl rfl (fill_M rfl rfl rfl (by kernel_rfl))))) ?_
          refine dd_z [] rfl rfl rfl (ev_litT [(TLabel.mk y11.Node y12.Minus a10)] TLabel.cs bsl_29_1 rfl rfl (ws_of rfl) rfl rfl rfl) ⟨fun _ => tk0, fun _ => tk0, trivial⟩ ?_
          rintro vw11 w11 ⟨gw11, hbw11, Ow11, Gw11⟩
          have z28 := Gw11.size
          have lt29 := Ow11.lth
          refine ⟨Kz.ofGr Gw11, ?_⟩
          have B30 := (Own.gr (Own.gr (Own.kz (Own.kz Fw7_0 Kw8) Kw9 (tk1 ((pv_lt (A := (fun x => x ≠ bq8)) lt16) : zy7 = 0 ∨ gy7 ≠ bq8))) Gw10) Gw11)
          have hb := bnd hm; clear hm; obtain ⟨l13, hl13, hm⟩ := hb
          refine dd_z [(zy7, gy7)] rfl rfl rfl (ev_appT (l := a6) (m := [(TLabel.mk y11.Node y12.Minus a10)]) (c := TLabel.cs) apt_29 rfl rfl B30 (Own.rd Ow11) hl13 (by decide)) ⟨fun _ => (tk1 (tk0 : zy7 = 0 ∨ (gy7 = gy7 ∧ zy7 ≠ 0) ∨ w10.heap.size ≤ gy7)), fun _ => (tk1 (tk0 : zy7 = 0 ∨ (gy7 = gy7 ∧ zy7 ≠ 0) ∨ w10.heap.size ≤ gy7)), trivial⟩ ?_
          rintro vw12 w12 ⟨zw12, gw12, Ow12, Aw12, qw12, rw12⟩
          have z31 := Aw12.size
          refine ⟨Kz.ofKa Aw12, ?_⟩
          have S32 := (Kp.ka (Kp.gr (Kp.refl ([b4] ++ zf zy7 gy7) w10) Gw11) Aw12 (tk1 (tk0 : zy7 = 0 ∨ (gy7 = gy7 ∧ zy7 ≠ 0) ∨ w10.heap.size ≤ gy7)))
          refine dd_hn 0 rfl rfl rfl rfl S32 (fun w hS => vv_fieldAddr fa_33_1 rfl) ?_
          have B33 := (Bx.ka (Bx.gr B25 Gw11) Aw12 (tk1 ((pv_0 (A := (fun x => x ≠ b4)) Fw7_1) : zy7 = 0 ∨ gy7 ≠ b4)))
          refine dd_z [(1, b4)] rfl rfl rfl (ev_st1 (cs' := TSecret.cs (TSecret.mk p2 l13 (TPoint.mk 0#64 0#64)) vw12) (one_29).siz rfl rfl (Own.oneB Ow12) B33 rfl rfl) ⟨fun _ => tk0, nofun, trivial⟩ ?_
          rintro _ w13 ⟨Bw13, Mw13⟩
          have z34 := Mw13.size
          refine ⟨Kz.ofMd Mw13, ?_⟩
          refine sd_nil ?_
          refine block_n ?_
          refine then_n ?_
          -- region 5 ref.go:333
          refine sw_region [(0, 0), (1, 0), (2, 0)] rfl rfl rfl ?_
          refine sd_vv rfl rfl rfl (vv_move rfl) ?_
          refine sd_vv rfl rfl rfl (vv_add (k := .i64) (a := a5) (b := 1) rfl rfl) ?_
          refine sd_vv rfl rfl rfl (vv_assign rfl) ?_
          refine sd_nil ?_
          have K_35 : Kz [(1, b4)] w6 w13 := (Kz.md (Kz.ka (Kz.gr (Kz.gr (Kz.kz (Kz.kz Kw7 Kw8) Kw9) Gw10) Gw11) Aw12 (tk1 ((pv_0 (A := (fun x => w6.heap.size ≤ x)) Fw7_1) : zy7 = 0 ∨ w6.heap.size ≤ gy7))) Mw13)
          have B36 := (Own.md Ow12 Mw13 (tk1 ((pv_app (A := (fun x => x ≠ b4)) rw12 (pv_0 (A := (fun x => x ≠ b4)) Fw7_1)) : zw12 = 0 ∨ gw12 ≠ b4)))
          subst hrec1
          refine ⟨rfl, ⟨n1, w64 (a5 + 1), l13, vw12, zw12, gw12⟩, ?_, ⟨hm, B36, ⟨(pv_app (A := (fun x => w6.heap.size ≤ x)) rw12 (pv_0 (A := (fun x => w6.heap.size ≤ x)) Fw7_1))⟩, Bw13, K_35⟩, Nat.lt_succ_self _⟩
          repeat' first | exact trivial | refine ⟨rfl, ?_⟩
        ·
          refine sw_seq ?_
          -- region 7 ref.go:335
          refine sw_region [(0, 0), (1, 0), (2, 0), (3, 0), (4, 0), (5, 0)] rfl rfl rfl ?_
          refine sd_vv rfl rfl rfl (vv_move rfl) ?_
          refine sd_vv rfl rfl rfl (vv_move rfl) ?_
          have hb := bnd hm; clear hm; obtain ⟨y14, hy14, hm⟩ := hb
          have B37 := (Own.kz B18 Kw8)
          refine sd_vv rfl rfl rfl (vv_ixT (i := a5) Tryz.underlying107 (agg_131).siz rfl (Own.rd B37) rfl hy14) ?_
          refine sd_vv rfl rfl rfl (vv_fieldAddr fa_131_1 rfl) ?_
          refine sd_vv rfl rfl rfl (vv_el1T (q := 1) (u := .int .i64 y14.Minus) one_3 rfl (Own.rd B37) hy14 (by first | rfl | omega) rfl) ?_
          refine sd_vv rfl rfl rfl (vv_neq (a := y14.Minus) (b := 0) rfl rfl) ?_
          refine sd_done ?_
          refine sw_cond rfl (fun c2 => ?_) (fun c2 => ?_)
          ·
            replace hm := ite_t (of_decide_eq_true c2) hm
            -- region 8 ref.go:336 DRAWS
            refine sw_drawN [([bq8])] [] (.leaf [(0, 10), (1, 10), (2, 10), (3, 10), (4, 10), (5, 10), (6, 10), (7, 10), (8, 10), (9, 10), (10, 10), (11, 0), (12, 0)]) (by kernel_rfl) (by kernel_rfl) rfl (by kernel_rfl) ?_
            intro w14 Gw14 zw14
            refine sdz_leaf ?_
            have B38 := (Bx.gr (Bx.kz (Bx.kz (Bx.gr (Bx.md (Bx.gr (Bx.gr (Bx.gr Bw1 Gw2) Gw3) Gw4) Mw5) Gw6) Kw7) Kw8) Gw14)
            refine dd_hn 0 rfl rfl rfl rfl (Kp.refl ([bq8]) w14) (fun w hS => vv_loadW agg_23 rfl (Bx.kp B38 hS) rfl) ?_
            refine dd_hn 0 rfl rfl rfl rfl (Kp.refl ([bq8]) w14) (fun w hS => vv_move rfl) ?_
            refine dd_hn 0 rfl rfl rfl rfl (Kp.refl ([bq8]) w14) (fun w hS => vv_move rfl) ?_
            have hb := bnd hm; clear hm; obtain ⟨y15, hy15, hm⟩ := hb
            have B39 := (Own.gr B37 Gw14)
            refine dd_hn 0 rfl rfl rfl rfl (Kp.refl ([bq8]) w14) (fun w hS => vv_ixT (i := a5) Tryz.underlying107 (agg_131).siz rfl (Own.rd (Own.kp B39 hS (tk1 ((pv_lt (A := (fun x => x ≠ bq8)) lt12) : z6_r0_s = 0 ∨ g6_r0_s ≠ bq8)))) rfl hy15) ?_
            refine dd_hn 0 rfl rfl rfl rfl (Kp.refl ([bq8]) w14) (fun w hS => vv_fieldAddr fa_131_0 rfl) ?_
            refine dd_hn 0 rfl rfl rfl rfl (Kp.refl ([bq8]) w14) (fun w hS => vv_el1T (q := 0) (u := .int .i64 y15.Node) one_3 rfl (Own.rd (Own.kp B39 hS (tk1 ((pv_lt (A := (fun x => x ≠ bq8)) lt12) : z6_r0_s = 0 ∨ g6_r0_s ≠ bq8)))) hy15 (by first | rfl | omega) rfl) ?_
            refine dd_hn 0 rfl rfl rfl rfl (Kp.refl ([bq8]) w14) (fun w hS => vv_move rfl) ?_
            refine dd_hn 0 rfl rfl rfl rfl (Kp.refl ([bq8]) w14) (fun w hS => vv_move rfl) ?_
            have hb := bnd hm; clear hm; obtain ⟨y16, hy16, hm⟩ := hb
            refine dd_hn 0 rfl rfl rfl rfl (Kp.refl ([bq8]) w14) (fun w hS => vv_ixT (i := a5) Tryz.underlying107 (agg_131).siz rfl (Own.rd (Own.kp B39 hS (tk1 ((pv_lt (A := (fun x => x ≠ bq8)) lt12) : z6_r0_s = 0 ∨ g6_r0_s ≠ bq8)))) rfl hy16) ?_
            refine dd_hn 0 rfl rfl rfl rfl (Kp.refl ([bq8]) w14) (fun w hS => vv_fieldAddr fa_131_1 rfl) ?_
            refine dd_hn 0 rfl rfl rfl rfl (Kp.refl ([bq8]) w14) (fun w hS => vv_el1T (q := 1) (u := .int .i64 y16.Minus) one_3 rfl (Own.rd (Own.kp B39 hS (tk1 ((pv_lt (A := (fun x => x ≠ bq8)) lt12) : z6_r0_s = 0 ∨ g6_r0_s ≠ bq8)))) hy16 (by first | rfl | omega) rfl) ?_
            have hb := bnd hm; clear hm; obtain ⟨x17, hx17, hm⟩ := hb
            refine dd_z [] rfl rfl rfl (ev_call en_207 rfl (ref03_label_w p0 y15.Node y16.Minus _ hx17 _)) ⟨fun _ => tk0, trivial⟩ ?_
            rintro _ w15 ⟨rfl, Gw15⟩
            have z40 := Gw15.size
            refine ⟨Kz.ofGr Gw15, ?_⟩
            have B41 := (Bx.gr (Bx.gr Fw8_0 Gw14) Gw15)
            refine dd_z [(1, bq8)] rfl rfl rfl (ev_stM (cs' := kb x17) (vs := kb x17) (agg_23).siz rfl rfl rfl rfl rfl B41 rfl rfl) ⟨fun _ => tk0, trivial⟩ ?_
            rintro _ w16 ⟨Bw16, Mw16⟩
            have z42 := Mw16.size
            refine ⟨Kz.ofMd Mw16, ?_⟩
            refine sd_nil ?_
            have K_43 : Kz [(1, bq8)] w8 w16 := (Kz.md (Kz.gr (Kz.gr (Kz.refl _ _) Gw14) Gw15) Mw16)
            refine ⟨rfl, x17, ?_, hm, Bw16, K_43⟩
            repeat' first | exact trivial | refine ⟨rfl, ?_⟩
          ·
            replace hm := ite_f (of_decide_eq_false c2) hm
            refine sw_skip ?_
            have K_44 : Kz [(1, bq8)] w8 w8 := (Kz.refl _ _)
            refine ⟨rfl, a9, ?_, hm, Fw8_0, K_44⟩
            repeat' first | exact trivial | refine ⟨rfl, ?_⟩
      ·
        -- region 6 ref.go:334 DRAWS
        refine sw_drawN [([])] [] (.fork [(0, 10), (1, 10), (2, 10), (3, 10), (4, 10), (5, 10)] (.leaf [(6, 0), (7, 0), (8, 0)]) (.leaf [(7, 0), (6, 0), (8, 0)])) (by kernel_rfl) (by kernel_rfl) rfl (by kernel_rfl) ?_
        intro w17 Gw17 zw17
        refine sdz_fork ?_
        have B45 := (Bx.gr (Bx.kz (Bx.gr (Bx.md (Bx.gr (Bx.gr (Bx.gr Bw1 Gw2) Gw3) Gw4) Mw5) Gw6) Kw7) Gw17)
        refine dd_hn 0 rfl rfl rfl rfl (Kp.refl ([]) w17) (fun w hS => vv_loadW agg_23 rfl (Bx.kp B45 hS) rfl) ?_
        have B46 := (Bx.gr (Bx.kz (Bx.gr B10 Gw6) Kw7) Gw17)
        refine dd_hn 0 rfl rfl rfl rfl (Kp.refl ([]) w17) (fun w hS => vv_loadW agg_28 rfl (Bx.kp B46 hS) rfl) ?_
        refine dd_hn 0 rfl rfl rfl rfl (Kp.refl ([]) w17) (fun w hS => vv_move rfl) ?_
        refine dd_hn 0 rfl rfl rfl rfl (Kp.refl ([]) w17) (fun w hS => vv_move rfl) ?_
        have hb := bnd hm; clear hm; obtain ⟨y18, hy18, hm⟩ := hb
        have B47 := (Own.gr B18 Gw17)
        refine dd_hn 0 rfl rfl rfl rfl (Kp.refl ([]) w17) (fun w hS => vv_ixT (i := a5) Tryz.underlying107 (agg_131).siz rfl (Own.rd (Own.kp B47 hS)) rfl hy18) ?_
        refine dd_hn 0 rfl rfl rfl rfl (Kp.refl ([]) w17) (fun w hS => vv_elWT agg_131 rfl (Own.rd (Own.kp B47 hS)) hy18 (by first | rfl | omega)) ?_
        refine sd_fork ?_ ?_
        ·
          refine sdz_leaf ?_
          have hb := bnd hm; clear hm; obtain ⟨x19, hx19, hm⟩ := hb
          refine dd_z [] rfl rfl rfl (ev_call en_153 rfl (ref03_KeyOf_w p0 p1 y18 _ hx19 _)) ⟨fun _ => tk0, trivial⟩ ?_
          rintro _ w18 ⟨rfl, Gw18⟩
          have z48 := Gw18.size
          refine ⟨Kz.ofGr Gw18, ?_⟩
          refine dd_z [] rfl rfl rfl (ev_alloc (cs := kb k0) zv_23 rfl) ⟨fun _ => tk0, trivial⟩ ?_
          rintro _ w19 ⟨b19, rfl, hbw19, Bw19, Gw19⟩
          have z49 := Gw19.size
          have lt50 := Bw19.lt
          refine ⟨Kz.ofGr Gw19, ?_⟩
          refine dd_z [(1, b19)] rfl rfl rfl (ev_stM (cs' := kb x19) (vs := kb x19) (agg_23).siz rfl rfl rfl rfl rfl Bw19 rfl rfl) ⟨fun _ => tk0, trivial⟩ ?_
          rintro _ w20 ⟨Bw20, Mw20⟩
          have z51 := Mw20.size
          refine ⟨Kz.ofMd Mw20, ?_⟩
          refine sd_nil ?_
          have K_52 : Kz [] w7 w20 := (Kz.md (Kz.gr (Kz.gr (Kz.gr (Kz.refl _ _) Gw17) Gw18) Gw19) Mw20)
          refine ⟨rfl, ⟨x19, b19⟩, ?_, hm, Bw20, (by omega), K_52⟩
          repeat' first | exact trivial | refine ⟨rfl, ?_⟩
        ·
          refine sdz_leaf ?_
          refine dd_z [] rfl rfl rfl (ev_alloc (cs := kb k0) zv_23 rfl) ⟨fun _ => tk0, trivial⟩ ?_
          rintro _ w21 ⟨b21, rfl, hbw21, Bw21, Gw21⟩
          have z53 := Gw21.size
          have lt54 := Bw21.lt
          refine ⟨Kz.ofGr Gw21, ?_⟩
          have hb := bnd hm; clear hm; obtain ⟨x20, hx20, hm⟩ := hb
          refine dd_z [] rfl rfl rfl (ev_call en_153 rfl (ref03_KeyOf_w p0 p1 y18 _ hx20 _)) ⟨fun _ => tk0, trivial⟩ ?_
          rintro _ w22 ⟨rfl, Gw22⟩
          have z55 := Gw22.size
          refine ⟨Kz.ofGr Gw22, ?_⟩
          have B56 := (Bx.gr Bw21 Gw22)
          refine dd_z [(1, b21)] rfl rfl rfl (ev_stM (cs' := kb x20) (vs := kb x20) (agg_23).siz rfl rfl rfl rfl rfl B56 rfl rfl) ⟨fun _ => tk0, trivial⟩ ?_
          rintro _ w23 ⟨Bw23, Mw23⟩
          have z57 := Mw23.size
          refine ⟨Kz.ofMd Mw23, ?_⟩
          refine sd_nil ?_
          have K_58 : Kz [] w7 w23 := (Kz.md (Kz.gr (Kz.gr (Kz.gr (Kz.refl _ _) Gw17) Gw21) Gw22) Mw23)
          refine ⟨rfl, ⟨x20, b21⟩, ?_, hm, Bw23, (by omega), K_58⟩
          repeat' first | exact trivial | refine ⟨rfl, ?_⟩
    ·
      replace hm := ite_f (of_decide_eq_false c1) hm
      refine sw_exit ?_
      refine then_x ?_
      refine then_x ?_
      refine block_x ?_
      refine then_n ?_
      refine sw_seq ?_
      -- region 10 ref.go:340
      refine sw_region [(0, 0), (1, 0)] rfl rfl rfl ?_
      refine sd_vv rfl rfl rfl (vv_loadW agg_33 rfl Fw7_2 rfl) ?_
      have B59 := (Bx.kz (Bx.gr (Bx.md (Bx.gr Bw3 Gw4) Mw5) Gw6) Kw7)
      refine sd_ev rfl rfl rfl (ev_stM (cs' := TSecret.cs (TSecret.mk p2 a6 (TPoint.mk 0#64 0#64)) vy7) (vs := TSecret.cs (TSecret.mk p2 a6 (TPoint.mk 0#64 0#64)) vy7) (agg_33).siz rfl rfl rfl rfl (TSecret.cs_ones _ _ (Own.oneB Fw7_0)) B59 rfl rfl) ?_
      rintro _ w24 ⟨Bw24, Mw24⟩
      have z60 := Mw24.size
      refine sd_done ?_
      refine sw_ret ?_
      have B61 := (Own.md Fw7_0 Mw24 (tk1 ((pv_0 (A := (fun x => x ≠ b3)) Fw7_1) : zy7 = 0 ∨ gy7 ≠ b3)))
      have X62 : Gr w w24 := (Gr.md (Gr.kz X13 Kw7) Mw24)
      have hr := Option.some.inj hm
      subst hr
      refine ⟨_, _, rfl, res_1 rfl (rv_cellW agg_33 rfl Bw24 rfl), ?_⟩
      exact ⟨vy7, zy7, gy7, rfl, B61, ⟨(pv_0 (A := (fun x => w.heap.size ≤ x)) Fw7_1)⟩, X62⟩

set_option maxHeartbeats 2000000 in
theorem ref03_Secret_w (p0 : W2) (p1 : TScheme) (p2 : Int)  (r : TSecret × Int) (hm : ref03_Secret p0 p1 p2 = some r) (w : World)   :
    Calls Tryz.prog 63 [kv p0, .agg (TScheme.cs p1).toArray, .int .i64 p2].toArray w fun e w' => ∃ v, e = .returned v ∧ (∃ (ur0_1 : Value) (zr0_1 : Nat) (gr0_1 : Nat), v = .tuple [.agg (TSecret.cs r.1 ur0_1).toArray, .int .i64 r.2].toArray ∧ Own w' zr0_1 gr0_1 92 18 ur0_1 (r.1.Labels.map TLabel.cs) ∧ Hdn (zr0_1 = 0 ∨ w.heap.size ≤ gr0_1) ∧ Gr w w') := by
  unfold ref03_Secret at hm
  refine calls_of_sw (R := fun v w' => ∃ (ur0_1 : Value) (zr0_1 : Nat) (gr0_1 : Nat), v = .tuple [.agg (TSecret.cs r.1 ur0_1).toArray, .int .i64 r.2].toArray ∧ Own w' zr0_1 gr0_1 92 18 ur0_1 (r.1.Labels.map TLabel.cs) ∧ Hdn (zr0_1 = 0 ∨ w.heap.size ≤ gr0_1) ∧ Gr w w') 22 Tryz.func63 rfl rfl rfl ?_
  refine sw_seq ?_
  -- region 0 ref.go:355
  refine sw_region [(0, 0), (1, 0), (2, 0), (3, 0)] rfl rfl rfl ?_
  refine sd_ev rfl rfl rfl (ev_box (cs := kb p0) rfl rfl) ?_
  rintro _ w1 ⟨b1, rfl, hbw1, Bw1, Gw1⟩
  have z1 := Gw1.size
  have lt2 := Bw1.lt
  refine sd_ev rfl rfl rfl (ev_box (cs := TScheme.cs p1) rfl rfl) ?_
  rintro _ w2 ⟨b2, rfl, hbw2, Bw2, Gw2⟩
  have z3 := Gw2.size
  have lt4 := Bw2.lt
  refine sd_ev rfl rfl rfl (ev_alloc (cs := TSecret.cs (TSecret.mk 0 [] (TPoint.mk 0#64 0#64)) (.slice none 0 0)) zv_33 rfl) ?_
  rintro _ w3 ⟨b3, rfl, hbw3, Bw3, Gw3⟩
  have z5 := Gw3.size
  have lt6 := Bw3.lt
  refine sd_vv rfl rfl rfl (vv_assign rfl) ?_
  refine sd_done ?_
  refine sw_seq ?_
  refine sw_seq ?_
  -- region 1 ref.go:356
  refine sw_region [(0, 0), (1, 0), (2, 0)] rfl rfl rfl ?_
  have B7 := (Bx.gr Bw2 Gw3)
  refine sd_vv rfl rfl rfl (vv_loadW agg_28 rfl B7 rfl) ?_
  have hb := bnd hm; clear hm; obtain ⟨x1, hx1, hm⟩ := hb
  refine sd_ev rfl rfl rfl (ev_call en_144 rfl (ref03_Valid_w p1 _ hx1 _)) ?_
  rintro _ w4 ⟨rfl, Gw4⟩
  have z8 := Gw4.size
  refine sd_vv rfl rfl rfl (vv_not rfl) ?_
  refine sd_done ?_
  refine sw_cond rfl (fun c1 => ?_) (fun c1 => ?_)
  ·
    replace hm := cnd_t c1 hm
    refine sw_seq ?_
    -- region 2 ref.go:357
    refine sw_region [(0, 0), (1, 0), (2, 0)] rfl rfl rfl ?_
    refine sd_vv rfl rfl rfl (vv_build (cs := TSecret.cs (TSecret.mk 0 [] (TPoint.mk 0#64 0#64)) (.slice none 0 0)) bs_33 rfl rfl) ?_
    have B9 := (Bx.gr Bw3 Gw4)
    refine sd_ev rfl rfl rfl (ev_stM (cs' := TSecret.cs (TSecret.mk 0 [] (TPoint.mk 0#64 0#64)) (.slice none 0 0)) (vs := TSecret.cs (TSecret.mk 0 [] (TPoint.mk 0#64 0#64)) (.slice none 0 0)) (agg_33).siz rfl rfl rfl rfl (TSecret.cs_ones _ _ rfl) B9 rfl rfl) ?_
    rintro _ w5 ⟨Bw5, Mw5⟩
    have z10 := Mw5.size
    refine sd_vv rfl rfl rfl (vv_assign rfl) ?_
    refine sd_done ?_
    refine sw_ret ?_
    refine then_r ?_
    have X11 : Gr w w5 := (Gr.md (Gr.trans (Gr.trans (Gr.trans (Gr.trans (Gr.refl w) Gw1) Gw2) Gw3) Gw4) Mw5)
    have hr := Option.some.inj hm
    subst hr
    refine ⟨_, _, rfl, res_2 rfl (rv_cellW agg_33 rfl Bw5 rfl) (rv_tmp rfl), ?_⟩
    exact ⟨(.slice none 0 0), 0, 0, rfl, (own_nil _ 0 92 18), ⟨.inl rfl⟩, X11⟩
  ·
    replace hm := cnd_f c1 hm
    refine sw_skip ?_
    refine then_n ?_
    refine sw_seq ?_
    refine sw_seq ?_
    -- region 3 ref.go:359
    refine sw_region [(0, 0), (1, 0), (2, 0), (3, 0), (4, 0)] rfl rfl rfl ?_
    refine sd_vv rfl rfl rfl (vv_fieldAddr fa_28_1 rfl) ?_
    have B12 := (Bx.gr B7 Gw4)
    refine sd_vv rfl rfl rfl (vv_load1 (v := .int .i64 p1.Depth) one_3 rfl B12 rfl) ?_
    refine sd_vv rfl rfl rfl (vv_move rfl) ?_
    have hb := bnd hm; clear hm; obtain ⟨x2, hx2, hm⟩ := hb
    refine sd_ev rfl rfl rfl (ev_call en_145 rfl (ref03_receiver_w p1.Depth p2 _ hx2 _)) ?_
    rintro _ w6 ⟨rfl, Gw6⟩
    have z13 := Gw6.size
    refine sd_vv rfl rfl rfl (vv_not rfl) ?_
    refine sd_done ?_
    refine sw_cond rfl (fun c2 => ?_) (fun c2 => ?_)
    ·
      replace hm := cnd_t c2 hm
      refine sw_seq ?_
      -- region 4 ref.go:360
      refine sw_region [(0, 0), (1, 0), (2, 0)] rfl rfl rfl ?_
      refine sd_vv rfl rfl rfl (vv_build (cs := TSecret.cs (TSecret.mk 0 [] (TPoint.mk 0#64 0#64)) (.slice none 0 0)) bs_33 rfl rfl) ?_
      have B14 := (Bx.gr (Bx.gr Bw3 Gw4) Gw6)
      refine sd_ev rfl rfl rfl (ev_stM (cs' := TSecret.cs (TSecret.mk 0 [] (TPoint.mk 0#64 0#64)) (.slice none 0 0)) (vs := TSecret.cs (TSecret.mk 0 [] (TPoint.mk 0#64 0#64)) (.slice none 0 0)) (agg_33).siz rfl rfl rfl rfl (TSecret.cs_ones _ _ rfl) B14 rfl rfl) ?_
      rintro _ w7 ⟨Bw7, Mw7⟩
      have z15 := Mw7.size
      refine sd_vv rfl rfl rfl (vv_assign rfl) ?_
      refine sd_done ?_
      refine sw_ret ?_
      refine then_r ?_
      have X16 : Gr w w7 := (Gr.md (Gr.trans (Gr.trans (Gr.trans (Gr.trans (Gr.trans (Gr.refl w) Gw1) Gw2) Gw3) Gw4) Gw6) Mw7)
      have hr := Option.some.inj hm
      subst hr
      refine ⟨_, _, rfl, res_2 rfl (rv_cellW agg_33 rfl Bw7 rfl) (rv_tmp rfl), ?_⟩
      exact ⟨(.slice none 0 0), 0, 0, rfl, (own_nil _ 0 92 18), ⟨.inl rfl⟩, X16⟩
    ·
      replace hm := cnd_f c2 hm
      refine sw_skip ?_
      refine then_n ?_
      refine sw_seq ?_
      -- region 5 ref.go:362
      refine sw_region [(0, 0), (1, 0), (2, 0), (3, 0), (4, 0), (5, 0)] rfl rfl rfl ?_
      have B17 := (Bx.gr (Bx.gr (Bx.gr (Bx.gr Bw1 Gw2) Gw3) Gw4) Gw6)
      refine sd_vv rfl rfl rfl (vv_loadW agg_23 rfl B17 rfl) ?_
      have B18 := (Bx.gr B12 Gw6)
      refine sd_vv rfl rfl rfl (vv_loadW agg_28 rfl B18 rfl) ?_
      refine sd_vv rfl rfl rfl (vv_move rfl) ?_
      have hb := bnd hm; clear hm; obtain ⟨x3, hx3, hm⟩ := hb
      refine sd_ev rfl rfl rfl (ev_call en_146 rfl (ref03_SecretOf_w p0 p1 p2 _ hx3 _)) ?_
      rintro _ w8 ⟨u8_r0_1, z8_r0_1, g8_r0_1, rfl, O8_r0_1, f8_r0_1, Gw8⟩
      have z19 := Gw8.size
      have lt20 := O8_r0_1.lth
      have B21 := (Bx.gr (Bx.gr (Bx.gr Bw3 Gw4) Gw6) Gw8)
      refine sd_ev rfl rfl rfl (ev_stM (cs' := TSecret.cs x3 u8_r0_1) (vs := TSecret.cs x3 u8_r0_1) (agg_33).siz rfl rfl rfl rfl (TSecret.cs_ones _ _ (Own.oneB O8_r0_1)) B21 rfl rfl) ?_
      rintro _ w9 ⟨Bw9, Mw9⟩
      have z22 := Mw9.size
      refine sd_vv rfl rfl rfl (vv_assign rfl) ?_
      refine sd_done ?_
      refine sw_ret ?_
      have B23 := (Own.md O8_r0_1 Mw9 (tk1 ((pv_0 (A := (fun x => x ≠ b3)) f8_r0_1) : z8_r0_1 = 0 ∨ g8_r0_1 ≠ b3)))
      have X24 : Gr w w9 := (Gr.md (Gr.trans (Gr.trans (Gr.trans (Gr.trans (Gr.trans (Gr.trans (Gr.refl w) Gw1) Gw2) Gw3) Gw4) Gw6) Gw8) Mw9)
      have hr := Option.some.inj hm
      subst hr
      refine ⟨_, _, rfl, res_2 rfl (rv_cellW agg_33 rfl Bw9 rfl) (rv_tmp rfl), ?_⟩
      exact ⟨u8_r0_1, z8_r0_1, g8_r0_1, rfl, B23, ⟨(pv_0 (A := (fun x => w.heap.size ≤ x)) f8_r0_1)⟩, X24⟩

set_option maxHeartbeats 2000000 in
theorem cover_Check_w (p0 : TScheme)  (r : Int) (hm : cover_Check p0 = some r) (w : World)   :
    Calls Tryz.prog 121 [.agg (TScheme.cs p0).toArray].toArray w fun e w' => ∃ v, e = .returned v ∧ (v = .int .i64 r ∧ Gr w w') := by
  unfold cover_Check at hm
  refine calls_of_sw (R := fun v w' => v = .int .i64 r ∧ Gr w w') 12 Tryz.func121 rfl rfl rfl ?_
  refine sw_seq ?_
  -- region 0 cover.go:12
  refine sw_region [(0, 0), (1, 0)] rfl rfl rfl ?_
  refine sd_ev rfl rfl rfl (ev_box (cs := TScheme.cs p0) rfl rfl) ?_
  rintro _ w1 ⟨b1, rfl, hbw1, Bw1, Gw1⟩
  have z1 := Gw1.size
  have lt2 := Bw1.lt
  refine sd_vv rfl rfl rfl (vv_assign rfl) ?_
  refine sd_done ?_
  refine sw_seq ?_
  refine sw_seq ?_
  -- region 1 cover.go:13
  refine sw_region [(0, 0), (1, 0), (2, 0), (3, 0), (4, 0), (5, 0), (6, 0), (7, 0)] rfl rfl rfl ?_
  refine sd_vv rfl rfl rfl (vv_loadW agg_28 rfl Bw1 rfl) ?_
  have hb := bnd hm; clear hm; obtain ⟨x1, hx1, hm⟩ := hb
  refine sd_ev rfl rfl rfl (ev_call en_187 rfl (cover_treeOf_w p0 _ hx1 _)) ?_
  rintro _ w2 ⟨rfl, Gw2⟩
  have z3 := Gw2.size
  refine sd_vv rfl rfl rfl (vv_move rfl) ?_
  refine sd_vv rfl rfl rfl (vv_extract rfl rfl) ?_
  refine sd_vv rfl rfl rfl (vv_extract rfl rfl) ?_
  refine sd_ev rfl rfl rfl (ev_alloc (cs := Tcover_tree.cs (Tcover_tree.mk 0#8 0 0)) zv_175 rfl) ?_
  rintro _ w3 ⟨b3, rfl, hbw3, Bw3, Gw3⟩
  have z4 := Gw3.size
  have lt5 := Bw3.lt
  refine sd_ev rfl rfl rfl (ev_stM (cs' := Tcover_tree.cs x1.1) (vs := Tcover_tree.cs x1.1) (agg_175).siz rfl rfl rfl rfl rfl Bw3 rfl rfl) ?_
  rintro _ w4 ⟨Bw4, Mw4⟩
  have z6 := Mw4.size
  refine sd_vv rfl rfl rfl (vv_assign rfl) ?_
  refine sd_done ?_
  refine sw_seq ?_
  -- region 2 cover.go:13
  refine sw_region [(0, 0), (1, 0)] rfl rfl rfl ?_
  refine sd_vv rfl rfl rfl (vv_move rfl) ?_
  refine sd_vv rfl rfl rfl (vv_not rfl) ?_
  refine sd_done ?_
  refine sw_cond rfl (fun c1 => ?_) (fun c1 => ?_)
  ·
    replace hm := cnd_t c1 hm
    refine sw_seq ?_
    -- region 3 cover.go:14
    refine sw_region [(0, 0)] rfl rfl rfl ?_
    refine sd_vv rfl rfl rfl (vv_assign rfl) ?_
    refine sd_done ?_
    refine sw_ret ?_
    refine then_r ?_
    have X7 : Gr w w4 := (Gr.md (Gr.trans (Gr.trans (Gr.trans (Gr.refl w) Gw1) Gw2) Gw3) Mw4)
    have hr := Option.some.inj hm
    subst hr
    refine ⟨_, _, rfl, res_1 rfl (rv_tmp rfl), ?_⟩
    exact ⟨rfl, X7⟩
  ·
    replace hm := cnd_f c1 hm
    refine sw_skip ?_
    refine then_n ?_
    refine sw_seq ?_
    -- region 4 cover.go:16
    refine sw_region [(0, 0)] rfl rfl rfl ?_
    refine sd_vv rfl rfl rfl (vv_assign rfl) ?_
    refine sd_done ?_
    refine sw_ret ?_
    have X8 : Gr w w4 := (Gr.md (Gr.trans (Gr.trans (Gr.trans (Gr.refl w) Gw1) Gw2) Gw3) Mw4)
    have hr := Option.some.inj hm
    subst hr
    refine ⟨_, _, rfl, res_1 rfl (rv_tmp rfl), ?_⟩
    exact ⟨rfl, X8⟩

set_option maxHeartbeats 2000000 in
theorem ref03_Check_w (p0 : TScheme)  (r : Int) (hm : ref03_Check p0 = some r) (w : World)   :
    Calls Tryz.prog 65 [.agg (TScheme.cs p0).toArray].toArray w fun e w' => ∃ v, e = .returned v ∧ (v = .int .i64 r ∧ Gr w w') := by
  unfold ref03_Check at hm
  refine calls_of_sw (R := fun v w' => v = .int .i64 r ∧ Gr w w') 6 Tryz.func65 rfl rfl rfl ?_
  refine sw_seq ?_
  -- region 0 ref.go:34
  refine sw_region [(0, 0), (1, 0)] rfl rfl rfl ?_
  refine sd_ev rfl rfl rfl (ev_box (cs := TScheme.cs p0) rfl rfl) ?_
  rintro _ w1 ⟨b1, rfl, hbw1, Bw1, Gw1⟩
  have z1 := Gw1.size
  have lt2 := Bw1.lt
  refine sd_vv rfl rfl rfl (vv_assign rfl) ?_
  refine sd_done ?_
  refine sw_seq ?_
  refine sw_seq ?_
  -- region 1 ref.go:35
  refine sw_region [(0, 0), (1, 0), (2, 0)] rfl rfl rfl ?_
  refine sd_vv rfl rfl rfl (vv_loadW agg_28 rfl Bw1 rfl) ?_
  have hb := bnd hm; clear hm; obtain ⟨x1, hx1, hm⟩ := hb
  refine sd_ev rfl rfl rfl (ev_call en_144 rfl (ref03_Valid_w p0 _ hx1 _)) ?_
  rintro _ w2 ⟨rfl, Gw2⟩
  have z3 := Gw2.size
  refine sd_vv rfl rfl rfl (vv_not rfl) ?_
  refine sd_done ?_
  refine sw_cond rfl (fun c1 => ?_) (fun c1 => ?_)
  ·
    replace hm := cnd_t c1 hm
    refine sw_seq ?_
    -- region 2 ref.go:36
    refine sw_region [(0, 0)] rfl rfl rfl ?_
    refine sd_vv rfl rfl rfl (vv_assign rfl) ?_
    refine sd_done ?_
    refine sw_ret ?_
    refine then_r ?_
    have X4 : Gr w w2 := (Gr.trans (Gr.trans (Gr.refl w) Gw1) Gw2)
    have hr := Option.some.inj hm
    subst hr
    refine ⟨_, _, rfl, res_1 rfl (rv_tmp rfl), ?_⟩
    exact ⟨rfl, X4⟩
  ·
    replace hm := cnd_f c1 hm
    refine sw_skip ?_
    refine then_n ?_
    refine sw_seq ?_
    -- region 3 ref.go:38
    refine sw_region [(0, 0)] rfl rfl rfl ?_
    refine sd_vv rfl rfl rfl (vv_assign rfl) ?_
    refine sd_done ?_
    refine sw_ret ?_
    have X5 : Gr w w2 := (Gr.trans (Gr.trans (Gr.refl w) Gw1) Gw2)
    have hr := Option.some.inj hm
    subst hr
    refine ⟨_, _, rfl, res_1 rfl (rv_tmp rfl), ?_⟩
    exact ⟨rfl, X5⟩
end Go.Proofs.YtjdffpglgkefmaaGreat.Mx
