/- Walks by the laws of SX: CovA. Printed by sx.py. -/
import Derived.Test.YtecempahccgijaaTreeB
namespace Go.Proofs.Ytecempahccgijaa
open Go Go.RowKit Go.Sx
theorem bs_47 : BS Try.prog 47 (fun i => [(0, 1), (1, 1)][i]?) [.int .i64 0, .int .i64 0] := bs_mk Try.underlying47 zv_47 ⟨rfl, (one_3).siz, rfl, (one_3).siz, trivial⟩
theorem bsl_48_2 : BSl Try.prog 48 2 47 2 [.int .i64 0, .int .i64 0, .int .i64 0, .int .i64 0] := bsl_mk Try.underlying48 (agg_47).siz zv_47 rfl rfl (by kernel_rfl)
theorem bsl_48_1 : BSl Try.prog 48 1 47 2 [.int .i64 0, .int .i64 0] := bsl_mk Try.underlying48 (agg_47).siz zv_47 rfl rfl (by kernel_rfl)
theorem en_74 : En Try.prog 74 := fun _ _ => by kernel_rfl
theorem en_75 : En Try.prog 75 := fun _ _ => by kernel_rfl
theorem en_76 : En Try.prog 76 := fun _ _ => by kernel_rfl
theorem en_78 : En Try.prog 78 := fun _ _ => by kernel_rfl

set_option maxHeartbeats 1000000 in
theorem pair_c (a b c q : Int) (w : World) :
    Calls Try.prog 76 [.int .i64 a, .int .i64 b, .int .i64 c, .int .i64 q].toArray w fun e w' => ∃ v, e = .returned v ∧ (∃ u z g, v = .tuple [u, .int .i64 (0)].toArray ∧ Own w' z g 47 2 u ([(a, b), (c, q)].map xc) ∧ (z = 0 ∨ w.heap.size ≤ g) ∧ Gr w w') := by
  refine calls_of_sw (R := fun v w' => ∃ u z g, v = .tuple [u, .int .i64 (0)].toArray ∧ Own w' z g 47 2 u ([(a, b), (c, q)].map xc) ∧ (z = 0 ∨ w.heap.size ≤ g) ∧ Gr w w') 17 Try.func76 rfl rfl rfl ?_
  refine sw_seq ?_
  -- region 0 cover.go:112
  refine sw_region [(0, 0), (1, 0)] rfl rfl rfl ?_
  refine sd_vv rfl rfl rfl (vv_assign rfl) ?_
  refine sd_vv rfl rfl rfl (vv_assign rfl) ?_
  refine sd_done ?_
  refine sw_seq ?_
  -- region 1 cover.go:113
  refine sw_region [(0, 0), (1, 0), (2, 0), (3, 0), (4, 0), (5, 0), (6, 0), (7, 0), (8, 0)] rfl rfl rfl ?_
  refine sd_vv rfl rfl rfl (vv_move rfl) ?_
  refine sd_vv rfl rfl rfl (vv_move rfl) ?_
  refine sd_vv rfl rfl rfl (vv_build bs_47 rfl rfl) ?_
  refine sd_vv rfl rfl rfl (vv_move rfl) ?_
  refine sd_vv rfl rfl rfl (vv_move rfl) ?_
  refine sd_vv rfl rfl rfl (vv_build bs_47 rfl rfl) ?_
  refine sd_ev rfl rfl rfl (ev_lit bsl_48_2 rfl rfl rfl rfl rfl) ?_
  rintro vw1 w1 ⟨gw1, hbw1, Ow1, Gw1⟩
  have z1 := Gw1.size
  have lt2 := Ow1.lt
  refine sd_vv rfl rfl rfl (vv_assign rfl) ?_
  refine sd_vv rfl rfl rfl (vv_assign rfl) ?_
  refine sd_done ?_
  refine sw_ret ?_
  have X3 : Gr w w1 := (Gr.trans (Gr.refl w) Gw1)
  refine ⟨_, _, rfl, res_2 rfl (rv_tmp rfl) (rv_tmp rfl), ?_⟩
  exact ⟨_, 1, gw1, rfl, Ow1, by omega, X3⟩

/-- the child of v that w is below -/
def towN (v w : Int) : Int := w / 2 ^ (lvl w - lvl v - 1).toNat
theorem towN_e {v w : Int} {n k : Nat} (hv : v = ((n / 2 / 2 ^ k : Nat) : Int)) (hw : w = (n : Int)) (hk : 2 ^ k ≤ n / 2) : towN v w = ((n / 2 ^ k : Nat) : Int) := by
  subst hv hw
  have h1 : 2 ^ (k + 1) ≤ n := by rw [Nat.pow_succ]; rw [Nat.le_div_iff_mul_le (by omega)] at hk; exact hk
  have e : n / 2 / 2 ^ k = n / 2 ^ (k + 1) := by rw [Nat.div_div_eq_div_mul, Nat.pow_succ, Nat.mul_comm 2]
  unfold towN
  rw [e, lvl_div n (k + 1) h1, show (lvl (n : Int) - (lvl (n : Int) - ((k + 1 : Nat) : Int)) - 1).toNat = k from by omega]
  norm_cast
theorem toward_i (v w_ : Int) (n k : Nat) (hv : v = ((n / 2 / 2 ^ k : Nat) : Int)) (hw : w_ = (n : Int)) (hk : 2 ^ k ≤ n / 2) (ht : n ≤ 4611686018427387904) (w : World) :
    Calls Try.prog 77 [.int .i64 v, .int .i64 w_].toArray w fun e w' => ∃ u, e = .returned u ∧ (u = .int .i64 (towN v w_) ∧ Gr w w') := by
  rw [towN_e hv hw hk]
  subst hv hw
  have h1 : 2 ^ (k + 1) ≤ n := by rw [Nat.pow_succ]; rw [Nat.le_div_iff_mul_le (by omega)] at hk; exact hk
  have e : n / 2 / 2 ^ k = n / 2 ^ (k + 1) := by rw [Nat.div_div_eq_div_mul, Nat.pow_succ, Nat.mul_comm 2]
  rw [e]
  exact toward_c n k h1 ht w
theorem cut_i (kk d st : Int) (hs1 : 1 ≤ st) (hst : st = strd d) (v w_ : Int) (n k : Nat) (hv : v = ((n / 2 / 2 ^ k : Nat) : Int)) (hw : w_ = (n : Int)) (hk : 2 ^ k ≤ n / 2) (ht : n / 2 ≤ 4611686018427387904) (w : World) :
    Calls Try.prog 80 [tv kk d st, .int .i64 v, .int .i64 w_].toArray w fun e w' => ∃ u, e = .returned u ∧ (u = .int .i64 (cutN d v w_) ∧ Gr w w') := by
  rw [cutN_e hv hw hk, ← hst]
  exact cut_c kk d st hs1 v w_ n k hv hw hk ht w
theorem towN_bd {v w : Int} {n k : Nat} (hv : v = ((n / 2 / 2 ^ k : Nat) : Int)) (hw : w = (n : Int)) (hk : 2 ^ k ≤ n / 2) : 1 ≤ towN v w ∧ towN v w ≤ w := by
  rw [towN_e hv hw hk]
  subst hw
  have h1 : 2 ^ k ≤ n := by omega
  have := div_pos2 h1
  have := Nat.div_le_self n (2 ^ k)
  omega
theorem xor1_fin : ∀ c : Fin 128, 0 ≤ bits .xor .i64 (c.1 : Int) 1 ∧ bits .xor .i64 (c.1 : Int) 1 ≤ 127 := by decide +kernel
theorem xor1_bd {c : Int} (h0 : 0 ≤ c) (h1 : c ≤ 127) : 0 ≤ bits .xor .i64 c 1 ∧ bits .xor .i64 c 1 ≤ 127 := by
  obtain ⟨n, rfl⟩ := Int.eq_ofNat_of_zero_le h0
  exact xor1_fin ⟨n, by omega⟩
theorem sub_has {k d : Int} {x : Int × Int} (h : subB k d x = true) : hasN d x.1 = true := by unfold subB at h; exact (Bool.and_eq_true_iff.1 h).1
theorem sub_blw {k d : Int} {x : Int × Int} (h : subB k d x = true) (hk : k ≠ 1) (hx : x.2 ≠ 0) : hasN d x.2 = true ∧ x.2 ≠ x.1 ∧ blw x.2 x.1 = true := by
  unfold subB at h
  have h2 := (Bool.and_eq_true_iff.1 h).2
  rw [if_neg (by simp [hk, hx])] at h2
  simp only [Bool.and_eq_true] at h2
  exact ⟨h2.1.1.1, of_decide_eq_true h2.1.1.2, h2.1.2⟩
/-- what Split answers -/
noncomputable def splE (s : Sch) (x : Int × Int) : Int := if entE s [x] = 0 then (if (mem (ed s [x]) x).length = 1 then 6 else 0) else entE s [x]
noncomputable def splB (k d : Int) (x : Int × Int) : List (Int × Int) :=
  if k = 1 then [(2 * x.1, 0), (2 * x.1 + 1, 0)]
  else if x.2 = 0 then [(1, 2), (1, 3)]
  else if towN x.1 x.2 = x.2 then [(bits .xor .i64 (towN x.1 x.2) 1, 2 * bits .xor .i64 (towN x.1 x.2) 1), (bits .xor .i64 (towN x.1 x.2) 1, 2 * bits .xor .i64 (towN x.1 x.2) 1 + 1)]
  else if subB k d (towN x.1 x.2, x.2) then [(x.1, towN x.1 x.2), (towN x.1 x.2, x.2)]
  else [(x.1, cutN d x.1 x.2), (cutN d x.1 x.2, x.2)]
noncomputable def splL (s : Sch) (x : Int × Int) : List (Int × Int) := if splE s x = 0 then splB (ek s [x]) (ed s [x]) x else []
theorem spl_e {s : Sch} {x : Int × Int} (h : entE s [x] ≠ 0) : splE s x = entE s [x] ∧ splL s x = [] := by simp [splL, splE, h]
theorem spl_6 {s : Sch} {x : Int × Int} (h : ¬ entE s [x] ≠ 0) (h1 : ((mem (ed s [x]) x).map ic).length = 1) : splE s x = 6 ∧ splL s x = [] := by
  simp at h h1; simp [splL, splE, h, h1]
theorem spl_0 {s : Sch} {x : Int × Int} (h : ¬ entE s [x] ≠ 0) (h1 : ¬ ((mem (ed s [x]) x).map ic).length = 1) : splE s x = 0 ∧ splL s x = splB (ek s [x]) (ed s [x]) x := by
  simp at h h1; simp [splL, splE, h, h1]

set_option maxHeartbeats 1000000 in
theorem split_c (s : Sch) (x : Int × Int) (hx1 : -9223372036854775808 ≤ x.1) (hx2 : x.1 ≤ 9223372036854775807) (hx3 : -9223372036854775808 ≤ x.2) (hx4 : x.2 ≤ 9223372036854775807)  (w : World) :
    Calls Try.prog 28 [sv s, xv x].toArray w fun e w' => ∃ v, e = .returned v ∧ (∃ u z g, v = .tuple [u, .int .i64 (splE s x)].toArray ∧ Own w' z g 47 2 u ((splL s x).map xc) ∧ (z = 0 ∨ w.heap.size ≤ g) ∧ Gr w w') := by
  refine calls_of_sw (R := fun v w' => ∃ u z g, v = .tuple [u, .int .i64 (splE s x)].toArray ∧ Own w' z g 47 2 u ((splL s x).map xc) ∧ (z = 0 ∨ w.heap.size ≤ g) ∧ Gr w w') 94 Try.func28 rfl rfl rfl ?_
  refine sw_seq ?_
  -- region 0 cover.go:104
  refine sw_region [(0, 0), (1, 0), (2, 0), (3, 0)] rfl rfl rfl ?_
  refine sd_ev rfl rfl rfl (ev_box rfl (by rfl)) ?_
  rintro _ w1 ⟨b1, rfl, hbw1, Bw1, Gw1⟩
  have z1 := Gw1.size
  have lt2 := Bw1.lt
  refine sd_ev rfl rfl rfl (ev_box rfl (by rfl)) ?_
  rintro _ w2 ⟨b2, rfl, hbw2, Bw2, Gw2⟩
  have z3 := Gw2.size
  have lt4 := Bw2.lt
  refine sd_vv rfl rfl rfl (vv_assign rfl) ?_
  refine sd_vv rfl rfl rfl (vv_assign rfl) ?_
  refine sd_done ?_
  refine sw_seq ?_
  -- region 1 cover.go:105
  refine sw_region [(0, 0), (1, 0), (2, 0), (3, 0), (4, 0), (5, 0), (6, 0), (7, 0), (8, 0), (9, 0)] rfl rfl rfl ?_
  have B5 := (Bx.gr Bw1 Gw2)
  refine sd_vv rfl rfl rfl (vv_loadW agg_45 rfl B5 (by rfl)) ?_
  refine sd_vv rfl rfl rfl (vv_loadW agg_47 rfl Bw2 (by rfl)) ?_
  refine sd_ev rfl rfl rfl (ev_lit bsl_48_1 rfl rfl rfl rfl rfl) ?_
  rintro vw3 w3 ⟨gw3, hbw3, Ow3, Gw3⟩
  have z6 := Gw3.size
  have lt7 := Ow3.lt
  refine sd_ev rfl rfl rfl (ev_call en_74 rfl (enter_c s _ _ _ _ [x] (by simp [inI]; omega) (by simp) _ (Own.rd Ow3))) ?_
  rintro _ w4 ⟨rfl, Gw4⟩
  have z8 := Gw4.size
  refine sd_vv rfl rfl rfl (vv_move rfl) ?_
  refine sd_vv rfl rfl rfl (vv_extract rfl rfl) ?_
  refine sd_vv rfl rfl rfl (vv_extract rfl rfl) ?_
  refine sd_ev rfl rfl rfl (ev_alloc zv_134 (by rfl)) ?_
  rintro _ w5 ⟨b5, rfl, hbw5, Bw5, Gw5⟩
  have z9 := Gw5.size
  have lt10 := Bw5.lt
  refine sd_ev rfl rfl rfl (ev_storeW (agg_134).siz rfl rfl (by rfl) (by rfl) (by rfl) Bw5 (by rfl)) ?_
  rintro _ w6 ⟨Bw6, Mw6⟩
  have z11 := Mw6.size
  refine sd_vv rfl rfl rfl (vv_assign rfl) ?_
  refine sd_done ?_
  refine sw_seq ?_
  refine sw_seq ?_
  -- region 2 cover.go:106
  refine sw_region [(0, 0), (1, 0)] rfl rfl rfl ?_
  refine sd_vv rfl rfl rfl (vv_move rfl) ?_
  refine sd_vv rfl rfl rfl (vv_neq rfl rfl) ?_
  refine sd_done ?_
  refine sw_cond rfl (fun h1 => ?_) (fun h1 => ?_)
  · -- h1 True
    replace h1 := of_decide_eq_true h1
    refine sw_seq ?_
    -- region 3 cover.go:107
    refine sw_region [(0, 0), (1, 0), (2, 0)] rfl rfl rfl ?_
    refine sd_vv rfl rfl rfl (vv_move rfl) ?_
    refine sd_vv rfl rfl rfl (vv_assign rfl) ?_
    refine sd_vv rfl rfl rfl (vv_assign rfl) ?_
    refine sd_done ?_
    refine sw_ret ?_
    refine then_r ?_
    have X12 : Gr w w6 := (Gr.md (Gr.trans (Gr.trans (Gr.trans (Gr.trans (Gr.trans (Gr.refl w) Gw1) Gw2) Gw3) Gw4) Gw5) Mw6 (by omega))
    refine ⟨_, _, rfl, res_2 rfl (rv_tmp rfl) (rv_tmp rfl), ?_⟩
    obtain ⟨r1, r2⟩ := spl_e h1
    exact ⟨_, 0, 0, by rw [r1], by rw [r2]; exact (own_nil _ 0 _ _), by omega, X12⟩
  · -- h1 False
    replace h1 := of_decide_eq_false h1
    obtain ⟨hv, hsub, q1, q2, q3⟩ := ent_yes (s := s) (xs := [x]) (by omega)
    obtain ⟨e1, e2, e3, e4, e5, e6, e7⟩ := tree_yes hv
    have e8 : es s [x] = strd (ed s [x]) := by rw [q3, q2, e3]
    have hsx : subB (ek s [x]) (ed s [x]) x = true := by rw [q1, q2]; exact hsub x (by simp)
    have hbx := hasN_bd (sub_has hsx) (by omega) (by omega)
    refine sw_skip ?_
    refine then_n ?_
    refine sw_seq ?_
    refine sw_seq ?_
    -- region 4 cover.go:109
    refine sw_region [(0, 0), (1, 0), (2, 0), (3, 0), (4, 0)] rfl rfl rfl ?_
    refine sd_vv rfl rfl rfl (vv_loadW agg_134 rfl Bw6 (by rfl)) ?_
    have B13 := (Bx.md (Bx.gr (Bx.gr (Bx.gr Bw2 Gw3) Gw4) Gw5) Mw6 (by omega))
    refine sd_vv rfl rfl rfl (vv_loadW agg_47 rfl B13 (by rfl)) ?_
    refine sd_ev rfl rfl rfl (ev_call en_75 rfl (members_c _ _ _ (by omega) (by omega) _ (by omega) (by omega) _)) ?_
    rintro v7 w7 ⟨z7_, g7_, O7, hg7, Gw7⟩
    have z14 := Gw7.size
    have lt15 := O7.lt
    refine sd_vv rfl rfl rfl (vv_len Try.underlying61 rfl (Own.rd O7)) ?_
    refine sd_vv rfl rfl rfl (vv_eql rfl rfl) ?_
    refine sd_done ?_
    refine sw_cond rfl (fun h2 => ?_) (fun h2 => ?_)
    · -- h2 True
      replace h2 := of_decide_eq_true h2
      replace h2 : ((mem (ed s [x]) x).map ic).length = 1 := by omega
      refine sw_seq ?_
      -- region 5 cover.go:110
      refine sw_region [(0, 0), (1, 0)] rfl rfl rfl ?_
      refine sd_vv rfl rfl rfl (vv_assign rfl) ?_
      refine sd_vv rfl rfl rfl (vv_assign rfl) ?_
      refine sd_done ?_
      refine sw_ret ?_
      refine then_r ?_
      have X16 : Gr w w7 := (Gr.trans (Gr.md (Gr.trans (Gr.trans (Gr.trans (Gr.trans (Gr.trans (Gr.refl w) Gw1) Gw2) Gw3) Gw4) Gw5) Mw6 (by omega)) Gw7)
      refine ⟨_, _, rfl, res_2 rfl (rv_tmp rfl) (rv_tmp rfl), ?_⟩
      obtain ⟨r1, r2⟩ := spl_6 h1 h2
      exact ⟨_, 0, 0, by rw [r1], by rw [r2]; exact (own_nil _ 0 _ _), by omega, X16⟩
    · -- h2 False
      replace h2 := of_decide_eq_false h2
      replace h2 : ¬ ((mem (ed s [x]) x).map ic).length = 1 := by omega
      refine sw_skip ?_
      refine then_n ?_
      refine sw_seq ?_
      -- region 6 cover.go:112
      refine sw_region [(0, 0)] rfl rfl rfl ?_
      refine sd_vv rfl rfl rfl (vv_assign rfl) ?_
      refine sd_done ?_
      refine sw_seq ?_
      refine sw_block ?_
      refine sw_seq ?_
      -- region 7 cover.go:116
      refine sw_region [(0, 0), (1, 0), (2, 0), (3, 0)] rfl rfl rfl ?_
      refine sd_vv rfl rfl rfl (vv_fieldAddr fa_134_0 rfl) ?_
      have B17 := (Bx.gr Bw6 Gw7)
      refine sd_vv rfl rfl rfl (vv_load1 one_5 rfl B17 (by rfl)) ?_
      refine sd_vv rfl rfl rfl (vv_eql rfl rfl) ?_
      refine sd_vv rfl rfl rfl (vv_assign rfl) ?_
      refine sd_done ?_
      refine sw_cond rfl (fun h3 => ?_) (fun h3 => ?_)
      · -- h3 True
        replace h3 := of_decide_eq_true h3
        refine sw_seq ?_
        -- region 8 cover.go:117
        refine sw_region [(0, 0), (1, 0), (2, 0), (3, 0), (4, 0), (5, 0), (6, 0), (7, 0), (8, 0), (9, 0), (10, 0), (11, 0), (12, 0)] rfl rfl rfl ?_
        refine sd_vv rfl rfl rfl (vv_move rfl) ?_
        refine sd_vv rfl rfl rfl (vv_fieldAddr fa_47_0 rfl) ?_
        have B18 := (Bx.gr B13 Gw7)
        refine sd_vv rfl rfl rfl (vv_load1 one_3 rfl B18 (by rfl)) ?_
        refine sd_vv rfl rfl rfl (vv_mul64 rfl rfl (by omega) (by omega)) ?_
        refine sd_vv rfl rfl rfl (vv_fieldAddr fa_47_0 rfl) ?_
        refine sd_vv rfl rfl rfl (vv_load1 one_3 rfl B18 (by rfl)) ?_
        refine sd_vv rfl rfl rfl (vv_mul64 rfl rfl (by omega) (by omega)) ?_
        refine sd_vv rfl rfl rfl (vv_add64 rfl rfl (by omega) (by omega)) ?_
        refine sd_ev rfl rfl rfl (ev_callV en_76 rfl rfl (pair_c _ _ _ _ _)) ?_
        rintro _ w8 ⟨v8, z8_, g8_, rfl, O8, hg8, Gw8⟩
        have z19 := Gw8.size
        have lt20 := O8.lt
        refine sd_vv rfl rfl rfl (vv_extract rfl rfl) ?_
        refine sd_vv rfl rfl rfl (vv_extract rfl rfl) ?_
        refine sd_vv rfl rfl rfl (vv_assign rfl) ?_
        refine sd_vv rfl rfl rfl (vv_assign rfl) ?_
        refine sd_done ?_
        refine sw_ret ?_
        refine block_r ?_
        refine then_r ?_
        have X21 : Gr w w8 := (Gr.trans (Gr.trans (Gr.md (Gr.trans (Gr.trans (Gr.trans (Gr.trans (Gr.trans (Gr.refl w) Gw1) Gw2) Gw3) Gw4) Gw5) Mw6 (by omega)) Gw7) Gw8)
        refine ⟨_, _, rfl, res_2 rfl (rv_tmp rfl) (rv_tmp rfl), ?_⟩
        obtain ⟨r1, r2⟩ := spl_0 h1 h2
        exact ⟨_, z8_, g8_, by rw [r1], by rw [r2, splB, if_pos h3]; exact O8, by omega, X21⟩
      · -- h3 False
        replace h3 := of_decide_eq_false h3
        refine sw_seq ?_
        -- region 9 cover.go:118
        refine sw_region [(0, 0), (1, 0), (2, 0), (3, 0)] rfl rfl rfl ?_
        refine sd_vv rfl rfl rfl (vv_fieldAddr fa_47_1 rfl) ?_
        have B22 := (Bx.gr B13 Gw7)
        refine sd_vv rfl rfl rfl (vv_load1 one_3 rfl B22 (by rfl)) ?_
        refine sd_vv rfl rfl rfl (vv_eql rfl rfl) ?_
        refine sd_vv rfl rfl rfl (vv_assign rfl) ?_
        refine sd_done ?_
        refine sw_cond rfl (fun h4 => ?_) (fun h4 => ?_)
        · -- h4 True
          replace h4 := of_decide_eq_true h4
          refine sw_seq ?_
          -- region 10 cover.go:119
          refine sw_region [(0, 0), (1, 0), (2, 0), (3, 0), (4, 0), (5, 0)] rfl rfl rfl ?_
          refine sd_vv rfl rfl rfl (vv_move rfl) ?_
          refine sd_ev rfl rfl rfl (ev_callV en_76 rfl rfl (pair_c _ _ _ _ _)) ?_
          rintro _ w9 ⟨v9, z9_, g9_, rfl, O9, hg9, Gw9⟩
          have z23 := Gw9.size
          have lt24 := O9.lt
          refine sd_vv rfl rfl rfl (vv_extract rfl rfl) ?_
          refine sd_vv rfl rfl rfl (vv_extract rfl rfl) ?_
          refine sd_vv rfl rfl rfl (vv_assign rfl) ?_
          refine sd_vv rfl rfl rfl (vv_assign rfl) ?_
          refine sd_done ?_
          refine sw_ret ?_
          refine block_r ?_
          refine then_r ?_
          have X25 : Gr w w9 := (Gr.trans (Gr.trans (Gr.md (Gr.trans (Gr.trans (Gr.trans (Gr.trans (Gr.trans (Gr.refl w) Gw1) Gw2) Gw3) Gw4) Gw5) Mw6 (by omega)) Gw7) Gw9)
          refine ⟨_, _, rfl, res_2 rfl (rv_tmp rfl) (rv_tmp rfl), ?_⟩
          obtain ⟨r1, r2⟩ := spl_0 h1 h2
          exact ⟨_, z9_, g9_, by rw [r1], by rw [r2, splB, if_neg h3, if_pos h4]; exact O9, by omega, X25⟩
        · -- h4 False
          replace h4 := of_decide_eq_false h4
          refine sw_skip ?_
          refine block_n ?_
          refine then_n ?_
          refine sw_seq ?_
          obtain ⟨hh2, hne, hbl⟩ := sub_blw hsx ‹_› ‹_›
          have hbx2 := hasN_bd hh2 (by omega) (by omega)
          obtain ⟨n, q, en1, en2, hk2, ht⟩ := blw_split hbl hne (by omega)
          have htb := towN_bd en1 en2 hk2
          have hxb := xor1_bd (c := towN x.1 x.2) (by omega) (by omega)
          -- region 11 cover.go:121 DRAWS
          refine sw_draw [] [(0, 3), (1, 3), (2, 3), (3, 3), (4, 3), (5, 3)] (by kernel_rfl) (by kernel_rfl) rfl (by kernel_rfl) ?_
          intro w10 Gw10 zw10
          refine dd_h3 rfl rfl rfl (Kp.refl [] w10) (fun w hS => vv_fieldAddr fa_47_0 rfl) ?_
          have B26 := (Bx.gr B22 Gw10)
          refine dd_h3 rfl rfl rfl (Kp.refl [] w10) (fun w hS => vv_load1 one_3 rfl (Bx.kp B26 hS (by simp <;> omega)) (by rfl)) ?_
          refine dd_h3 rfl rfl rfl (Kp.refl [] w10) (fun w hS => vv_fieldAddr fa_47_1 rfl) ?_
          refine dd_h3 rfl rfl rfl (Kp.refl [] w10) (fun w hS => vv_load1 one_3 rfl (Bx.kp B26 hS (by simp <;> omega)) (by rfl)) ?_
          refine dd_h3 rfl rfl rfl (Kp.refl [] w10) (fun w hS => vv_assign rfl) ?_
          refine dd_h3 rfl rfl rfl (Kp.refl [] w10) (fun w hS => vv_assign rfl) ?_
          refine sd_done ?_
          refine sw_seq ?_
          -- region 12 cover.go:122
          refine sw_region [(0, 0), (1, 0), (2, 0), (3, 0)] rfl rfl rfl ?_
          refine sd_vv rfl rfl rfl (vv_move rfl) ?_
          refine sd_vv rfl rfl rfl (vv_move rfl) ?_
          refine sd_ev rfl rfl rfl (ev_call en_77 rfl (toward_i _ _ n q en1 en2 hk2 (by omega) _)) ?_
          rintro _ w11 ⟨rfl, Gw11⟩
          have z27 := Gw11.size
          refine sd_vv rfl rfl rfl (vv_assign rfl) ?_
          refine sd_done ?_
          refine sw_seq ?_
          refine sw_seq ?_
          -- region 13 cover.go:123
          refine sw_region [(0, 0), (1, 0), (2, 0)] rfl rfl rfl ?_
          refine sd_vv rfl rfl rfl (vv_move rfl) ?_
          refine sd_vv rfl rfl rfl (vv_move rfl) ?_
          refine sd_vv rfl rfl rfl (vv_eql rfl rfl) ?_
          refine sd_done ?_
          refine sw_cond rfl (fun h5 => ?_) (fun h5 => ?_)
          · -- h5 True
            replace h5 := of_decide_eq_true h5
            refine sw_seq ?_
            -- region 14 cover.go:124
            refine sw_region [(0, 0), (1, 0), (2, 0)] rfl rfl rfl ?_
            refine sd_vv rfl rfl rfl (vv_move rfl) ?_
            refine sd_ev rfl rfl rfl (ev_call en_78 rfl (sibling_c _ _)) ?_
            rintro _ w12 ⟨rfl, Gw12⟩
            have z28 := Gw12.size
            refine sd_vv rfl rfl rfl (vv_assign rfl) ?_
            refine sd_done ?_
            refine sw_seq ?_
            -- region 15 cover.go:125
            refine sw_region [(0, 0), (1, 0), (2, 0), (3, 0), (4, 0), (5, 0), (6, 0), (7, 0), (8, 0), (9, 0), (10, 0), (11, 0), (12, 0)] rfl rfl rfl ?_
            refine sd_vv rfl rfl rfl (vv_move rfl) ?_
            refine sd_vv rfl rfl rfl (vv_move rfl) ?_
            refine sd_vv rfl rfl rfl (vv_move rfl) ?_
            refine sd_vv rfl rfl rfl (vv_mul64 rfl rfl (by omega) (by omega)) ?_
            refine sd_vv rfl rfl rfl (vv_move rfl) ?_
            refine sd_vv rfl rfl rfl (vv_move rfl) ?_
            refine sd_vv rfl rfl rfl (vv_mul64 rfl rfl (by omega) (by omega)) ?_
            refine sd_vv rfl rfl rfl (vv_add64 rfl rfl (by omega) (by omega)) ?_
            refine sd_ev rfl rfl rfl (ev_callV en_76 rfl rfl (pair_c _ _ _ _ _)) ?_
            rintro _ w13 ⟨v13, z13_, g13_, rfl, O13, hg13, Gw13⟩
            have z29 := Gw13.size
            have lt30 := O13.lt
            refine sd_vv rfl rfl rfl (vv_extract rfl rfl) ?_
            refine sd_vv rfl rfl rfl (vv_extract rfl rfl) ?_
            refine sd_vv rfl rfl rfl (vv_assign rfl) ?_
            refine sd_vv rfl rfl rfl (vv_assign rfl) ?_
            refine sd_done ?_
            refine sw_ret ?_
            refine then_r ?_
            have X31 : Gr w w13 := (Gr.trans (Gr.trans (Gr.trans (Gr.trans (Gr.trans (Gr.md (Gr.trans (Gr.trans (Gr.trans (Gr.trans (Gr.trans (Gr.refl w) Gw1) Gw2) Gw3) Gw4) Gw5) Mw6 (by omega)) Gw7) Gw10) Gw11) Gw12) Gw13)
            refine ⟨_, _, rfl, res_2 rfl (rv_tmp rfl) (rv_tmp rfl), ?_⟩
            obtain ⟨r1, r2⟩ := spl_0 h1 h2
            exact ⟨_, z13_, g13_, by rw [r1], by rw [r2, splB, if_neg h3, if_neg h4, if_pos h5]; exact O13, by omega, X31⟩
          · -- h5 False
            replace h5 := of_decide_eq_false h5
            refine sw_skip ?_
            refine then_n ?_
            refine sw_seq ?_
            refine sw_seq ?_
            -- region 16 cover.go:127
            refine sw_region [(0, 0), (1, 0), (2, 0), (3, 0), (4, 0), (5, 0)] rfl rfl rfl ?_
            have B32 := (Bx.gr (Bx.gr B17 Gw10) Gw11)
            refine sd_vv rfl rfl rfl (vv_loadW agg_134 rfl B32 (by rfl)) ?_
            refine sd_vv rfl rfl rfl (vv_move rfl) ?_
            refine sd_vv rfl rfl rfl (vv_move rfl) ?_
            refine sd_vv rfl rfl rfl (vv_build bs_47 rfl rfl) ?_
            refine sd_ev rfl rfl rfl (ev_call en_79 rfl (subset_c _ _ _ e8 (by omega) (by omega) (towN x.1 x.2, x.2) (by dsimp only; omega) (by dsimp only; omega) (by dsimp only; omega) (by dsimp only; omega) _)) ?_
            rintro _ w14 ⟨rfl, Gw14⟩
            have z33 := Gw14.size
            refine sd_vv rfl rfl rfl (vv_not rfl) ?_
            refine sd_done ?_
            refine sw_cond rfl (fun h6 => ?_) (fun h6 => ?_)
            · -- h6 True
              replace h6 := not_bt h6
              -- region 17 cover.go:128
              refine sw_region [(0, 0), (1, 0), (2, 0), (3, 0), (4, 0)] rfl rfl rfl ?_
              have B34 := (Bx.gr B32 Gw14)
              refine sd_vv rfl rfl rfl (vv_loadW agg_134 rfl B34 (by rfl)) ?_
              refine sd_vv rfl rfl rfl (vv_move rfl) ?_
              refine sd_vv rfl rfl rfl (vv_move rfl) ?_
              refine sd_ev rfl rfl rfl (ev_call en_80 rfl (cut_i _ _ _ (by have := strd_bd (ed s [x]); omega) e8 _ _ n q en1 en2 hk2 ht _)) ?_
              rintro _ w15 ⟨rfl, Gw15⟩
              have z35 := Gw15.size
              refine sd_vv rfl rfl rfl (vv_assign rfl) ?_
              refine sd_done ?_
              refine sw_seq ?_
              -- region 18 cover.go:130
              refine sw_region [(0, 0), (1, 0), (2, 0), (3, 0), (4, 0), (5, 0), (6, 0), (7, 0), (8, 0), (9, 0), (10, 0), (11, 0)] rfl rfl rfl ?_
              refine sd_vv rfl rfl rfl (vv_move rfl) ?_
              refine sd_vv rfl rfl rfl (vv_fieldAddr fa_47_0 rfl) ?_
              have B36 := (Bx.gr (Bx.gr (Bx.gr B26 Gw11) Gw14) Gw15)
              refine sd_vv rfl rfl rfl (vv_load1 one_3 rfl B36 (by rfl)) ?_
              refine sd_vv rfl rfl rfl (vv_move rfl) ?_
              refine sd_vv rfl rfl rfl (vv_move rfl) ?_
              refine sd_vv rfl rfl rfl (vv_fieldAddr fa_47_1 rfl) ?_
              refine sd_vv rfl rfl rfl (vv_load1 one_3 rfl B36 (by rfl)) ?_
              refine sd_ev rfl rfl rfl (ev_callV en_76 rfl rfl (pair_c _ _ _ _ _)) ?_
              rintro _ w16 ⟨v16, z16_, g16_, rfl, O16, hg16, Gw16⟩
              have z37 := Gw16.size
              have lt38 := O16.lt
              refine sd_vv rfl rfl rfl (vv_extract rfl rfl) ?_
              refine sd_vv rfl rfl rfl (vv_extract rfl rfl) ?_
              refine sd_vv rfl rfl rfl (vv_assign rfl) ?_
              refine sd_vv rfl rfl rfl (vv_assign rfl) ?_
              refine sd_done ?_
              refine sw_ret ?_
              have X39 : Gr w w16 := (Gr.trans (Gr.trans (Gr.trans (Gr.trans (Gr.trans (Gr.trans (Gr.md (Gr.trans (Gr.trans (Gr.trans (Gr.trans (Gr.trans (Gr.refl w) Gw1) Gw2) Gw3) Gw4) Gw5) Mw6 (by omega)) Gw7) Gw10) Gw11) Gw14) Gw15) Gw16)
              refine ⟨_, _, rfl, res_2 rfl (rv_tmp rfl) (rv_tmp rfl), ?_⟩
              obtain ⟨r1, r2⟩ := spl_0 h1 h2
              exact ⟨_, z16_, g16_, by rw [r1], by rw [r2, splB, if_neg h3, if_neg h4, if_neg h5, if_neg (by rw [h6]; decide)]; exact O16, by omega, X39⟩
            · -- h6 False
              replace h6 := not_bf h6
              refine sw_skip ?_
              refine then_n ?_
              refine sw_seq ?_
              -- region 18 cover.go:130
              refine sw_region [(0, 0), (1, 0), (2, 0), (3, 0), (4, 0), (5, 0), (6, 0), (7, 0), (8, 0), (9, 0), (10, 0), (11, 0)] rfl rfl rfl ?_
              refine sd_vv rfl rfl rfl (vv_move rfl) ?_
              refine sd_vv rfl rfl rfl (vv_fieldAddr fa_47_0 rfl) ?_
              have B40 := (Bx.gr (Bx.gr B26 Gw11) Gw14)
              refine sd_vv rfl rfl rfl (vv_load1 one_3 rfl B40 (by rfl)) ?_
              refine sd_vv rfl rfl rfl (vv_move rfl) ?_
              refine sd_vv rfl rfl rfl (vv_move rfl) ?_
              refine sd_vv rfl rfl rfl (vv_fieldAddr fa_47_1 rfl) ?_
              refine sd_vv rfl rfl rfl (vv_load1 one_3 rfl B40 (by rfl)) ?_
              refine sd_ev rfl rfl rfl (ev_callV en_76 rfl rfl (pair_c _ _ _ _ _)) ?_
              rintro _ w17 ⟨v17, z17_, g17_, rfl, O17, hg17, Gw17⟩
              have z41 := Gw17.size
              have lt42 := O17.lt
              refine sd_vv rfl rfl rfl (vv_extract rfl rfl) ?_
              refine sd_vv rfl rfl rfl (vv_extract rfl rfl) ?_
              refine sd_vv rfl rfl rfl (vv_assign rfl) ?_
              refine sd_vv rfl rfl rfl (vv_assign rfl) ?_
              refine sd_done ?_
              refine sw_ret ?_
              have X43 : Gr w w17 := (Gr.trans (Gr.trans (Gr.trans (Gr.trans (Gr.trans (Gr.md (Gr.trans (Gr.trans (Gr.trans (Gr.trans (Gr.trans (Gr.refl w) Gw1) Gw2) Gw3) Gw4) Gw5) Mw6 (by omega)) Gw7) Gw10) Gw11) Gw14) Gw17)
              refine ⟨_, _, rfl, res_2 rfl (rv_tmp rfl) (rv_tmp rfl), ?_⟩
              obtain ⟨r1, r2⟩ := spl_0 h1 h2
              exact ⟨_, z17_, g17_, by rw [r1], by rw [r2, splB, if_neg h3, if_neg h4, if_neg h5, if_pos h6]; exact O17, by omega, X43⟩
end Go.Proofs.Ytecempahccgijaa
