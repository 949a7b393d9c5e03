/- Walks by the laws of SX: LawSplits. Printed by sx.py. -/
import Derived.Test.YtecempahccgijaaRefA
namespace Go.Proofs.Ytecempahccgijaa
open Go Go.RowKit Go.Sx
theorem en_28 : En Try.prog 28 := fun _ _ => by kernel_rfl
theorem en_29 : En Try.prog 29 := fun _ _ => by kernel_rfl
theorem en_30 : En Try.prog 30 := fun _ _ => by kernel_rfl

theorem splL_len (s : Sch) (x : Int × Int) : (splL s x).length ≤ 9223372036854775807 := by unfold splL; split <;> simp [splB_len]

set_option maxHeartbeats 1000000 in
theorem coverSplits_c (s : Sch) (x : Int × Int) (hx1 : -9223372036854775808 ≤ x.1) (hx2 : x.1 ≤ 9223372036854775807) (hx3 : -9223372036854775808 ≤ x.2) (hx4 : x.2 ≤ 9223372036854775807)  (w : World) :
    Calls Try.prog 4 [sv s, xv x].toArray w fun e w' => ∃ v, e = .returned v ∧ (v = .bool true ∧ Gr w w') := by
  refine calls_of_sw (R := fun v w' => v = .bool true ∧ Gr w w') 29 Try.func4 rfl rfl rfl ?_
  refine sw_seq ?_
  -- region 0 law.go:31
  refine sw_region [(0, 0), (1, 0), (2, 0)] rfl rfl rfl ?_
  refine sd_ev rfl rfl rfl (ev_box rfl (by rfl)) ?_
  rintro _ w1 ⟨b1, rfl, hbw1, Bw1, Gw1⟩
  have z1 := Gw1.size
  have lt2 := Bw1.lt
  refine sd_ev rfl rfl rfl (ev_box rfl (by rfl)) ?_
  rintro _ w2 ⟨b2, rfl, hbw2, Bw2, Gw2⟩
  have z3 := Gw2.size
  have lt4 := Bw2.lt
  refine sd_vv rfl rfl rfl (vv_assign rfl) ?_
  refine sd_done ?_
  refine sw_seq ?_
  -- region 1 law.go:32
  refine sw_region [(0, 0), (1, 0), (2, 0), (3, 0), (4, 0), (5, 0), (6, 0), (7, 0)] rfl rfl rfl ?_
  have B5 := (Bx.gr Bw1 Gw2)
  refine sd_vv rfl rfl rfl (vv_loadW agg_45 rfl B5 (by rfl)) ?_
  refine sd_vv rfl rfl rfl (vv_loadW agg_47 rfl Bw2 (by rfl)) ?_
  refine sd_ev rfl rfl rfl (ev_call en_28 rfl (split_c _ _ (by omega) (by omega) (by omega) (by omega) _)) ?_
  rintro _ w3 ⟨v3, z3_, g3_, rfl, O3, hg3, Gw3⟩
  have z6 := Gw3.size
  have lt7 := O3.lt
  refine sd_vv rfl rfl rfl (vv_move rfl) ?_
  refine sd_vv rfl rfl rfl (vv_extract rfl rfl) ?_
  refine sd_vv rfl rfl rfl (vv_extract rfl rfl) ?_
  refine sd_vv rfl rfl rfl (vv_assign rfl) ?_
  refine sd_vv rfl rfl rfl (vv_assign rfl) ?_
  refine sd_done ?_
  refine sw_seq ?_
  -- region 2 law.go:33
  refine sw_region [(0, 0), (1, 0), (2, 0), (3, 0), (4, 0), (5, 0), (6, 0), (7, 0)] rfl rfl rfl ?_
  have B8 := (Bx.gr B5 Gw3)
  refine sd_vv rfl rfl rfl (vv_loadW agg_45 rfl B8 (by rfl)) ?_
  have B9 := (Bx.gr Bw2 Gw3)
  refine sd_vv rfl rfl rfl (vv_loadW agg_47 rfl B9 (by rfl)) ?_
  refine sd_ev rfl rfl rfl (ev_call en_29 rfl (rsplit_c _ _ (by omega) (by omega) (by omega) (by omega) _)) ?_
  rintro _ w4 ⟨v4, z4_, g4_, rfl, O4, hg4, Gw4⟩
  have z10 := Gw4.size
  have lt11 := O4.lt
  refine sd_vv rfl rfl rfl (vv_move rfl) ?_
  refine sd_vv rfl rfl rfl (vv_extract rfl rfl) ?_
  refine sd_vv rfl rfl rfl (vv_extract rfl rfl) ?_
  refine sd_vv rfl rfl rfl (vv_assign rfl) ?_
  refine sd_vv rfl rfl rfl (vv_assign rfl) ?_
  refine sd_done ?_
  refine sw_seq ?_
  -- region 3 law.go:34
  refine sw_region [(0, 0), (1, 0), (2, 0), (3, 0), (4, 0), (5, 0), (6, 0), (7, 0), (8, 0)] rfl rfl rfl ?_
  refine sd_vv rfl rfl rfl (vv_move rfl) ?_
  refine sd_vv rfl rfl rfl (vv_move rfl) ?_
  have B12 := (Own.gr O3 Gw4)
  refine sd_ev rfl rfl rfl (ev_call en_30 rfl (sameSub_c _ _ _ _ _ _ _ _ _ _ (splL_len s x) _ (Own.rd B12) (Own.rd O4))) ?_
  rintro _ w5 ⟨rfl, Gw5⟩
  have z13 := Gw5.size
  refine sd_split rfl rfl rfl (vv_move rfl) (fun h1 => ?_) (fun h1 => ?_)
  · -- h1 True
    replace h1 := of_decide_eq_true h1
    refine sd_vv rfl rfl rfl (vv_move rfl) ?_
    refine sd_vv rfl rfl rfl (vv_move rfl) ?_
    refine sd_vv rfl rfl rfl (vv_eql rfl rfl) ?_
    refine sd_vv rfl rfl rfl (vv_pickT rfl rfl) ?_
    refine sd_vv rfl rfl rfl (vv_assign rfl) ?_
    refine sd_done ?_
    refine sw_ret ?_
    have X14 : Gr w w5 := (Gr.trans (Gr.trans (Gr.trans (Gr.trans (Gr.trans (Gr.refl w) Gw1) Gw2) Gw3) Gw4) Gw5)
    refine ⟨_, _, rfl, res_tmp rfl rfl, ?_⟩
    first | exact absurd rfl ‹¬ splL s x = splL s x› | exact ⟨by simp, X14⟩
  · -- h1 False
    replace h1 := of_decide_eq_false h1
    refine sd_skip rfl rfl rfl ?_
    refine sd_skip rfl rfl rfl ?_
    refine sd_skip rfl rfl rfl ?_
    refine sd_vv rfl rfl rfl (vv_pickF rfl rfl) ?_
    refine sd_vv rfl rfl rfl (vv_assign rfl) ?_
    refine sd_done ?_
    refine sw_ret ?_
    have X15 : Gr w w5 := (Gr.trans (Gr.trans (Gr.trans (Gr.trans (Gr.trans (Gr.refl w) Gw1) Gw2) Gw3) Gw4) Gw5)
    refine ⟨_, _, rfl, res_tmp rfl rfl, ?_⟩
    first | exact absurd rfl ‹¬ splL s x = splL s x› | exact ⟨by simp, X15⟩
end Go.Proofs.Ytecempahccgijaa
