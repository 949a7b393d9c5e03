/- Walks that follow mirrors: Cl. Printed by mx.py. -/
import Derived.Test.YtecempahccgijaaCr
import Derived.Test.YtecempahccgijaaClM
set_option linter.unusedVariables false
set_option linter.unusedSimpArgs false
set_option maxRecDepth 100000
namespace Go.Proofs.Ytecempahccgijaa.Mx
open Go Go.RowKit Go.Sx
theorem en_82 : En Try.prog 82 := fun _ _ => by kernel_rfl
theorem one_188 : One Try.prog 188 := fun _ => ⟨by kernel_rfl, by kernel_rfl⟩
theorem en_129 : En Try.prog 129 := fun _ _ => by kernel_rfl
theorem apt_48 : ApT Try.prog 48 47 2 16 := apt_mk Try.underlying48 rfl (by kernel_rfl)
theorem en_83 : En Try.prog 83 := fun _ _ => by kernel_rfl
theorem bs_74 : BS Try.prog 74 (fun i => [(0, 1), (1, 1), (2, 2)][i]?) [.int .i64 0, .slice none 0 0, .int .u64 0, .int .u64 0] := bs_mk Try.underlying74 zv_74 ⟨rfl, (one_3).siz, rfl, (one_70).siz, rfl, (agg_72).siz, trivial⟩
theorem en_92 : En Try.prog 92 := fun _ _ => by kernel_rfl
theorem bs_81 : BS Try.prog 81 (fun i => [(0, 1), (1, 1), (2, 16)][i]?) [.int .i64 0, .int .i64 0, .int .u8 0, .int .u8 0, .int .u8 0, .int .u8 0, .int .u8 0, .int .u8 0, .int .u8 0, .int .u8 0, .int .u8 0, .int .u8 0, .int .u8 0, .int .u8 0, .int .u8 0, .int .u8 0, .int .u8 0, .int .u8 0] := bs_mk Try.underlying81 zv_81 ⟨rfl, (one_3).siz, rfl, (one_3).siz, rfl, (agg_26).siz, trivial⟩
theorem bsl_70_1 : BSl Try.prog 70 1 81 18 [.int .i64 0, .int .i64 0, .int .u8 0, .int .u8 0, .int .u8 0, .int .u8 0, .int .u8 0, .int .u8 0, .int .u8 0, .int .u8 0, .int .u8 0, .int .u8 0, .int .u8 0, .int .u8 0, .int .u8 0, .int .u8 0, .int .u8 0, .int .u8 0] := bsl_mk Try.underlying70 (agg_81).siz zv_81 rfl rfl (by kernel_rfl)
theorem en_95 : En Try.prog 95 := fun _ _ => by kernel_rfl
theorem en_96 : En Try.prog 96 := fun _ _ => by kernel_rfl
theorem zv_31 : ZV Try.prog 31 (.int .i64 0) := fun _ => by kernel_rfl
theorem one_31 : One Try.prog 31 := fun _ => ⟨by kernel_rfl, by kernel_rfl⟩
theorem en_107 : En Try.prog 107 := fun _ _ => by kernel_rfl
theorem en_109 : En Try.prog 109 := fun _ _ => by kernel_rfl
theorem zv_4 : ZV Try.prog 4 (.bool false) := fun _ => by kernel_rfl
theorem one_4 : One Try.prog 4 := fun _ => ⟨by kernel_rfl, by kernel_rfl⟩
theorem en_111 : En Try.prog 111 := fun _ _ => by kernel_rfl
theorem en_148 : En Try.prog 148 := fun _ _ => by kernel_rfl
theorem en_110 : En Try.prog 110 := fun _ _ => by kernel_rfl
theorem en_57 : En Try.prog 57 := fun _ _ => by kernel_rfl

set_option maxHeartbeats 2000000 in
theorem cover_tree_labels_w (p0 : Tcover_tree) (p1 : Int)  (r : Tcover_tree × Int) (hm : cover_tree_labels p0 p1 = some r) (w : World)   :
    Calls Try.prog 82 [.agg (Tcover_tree.cs p0).toArray, .int .i64 p1].toArray w fun e w' => ∃ v, e = .returned v ∧ (∃ (bc0 : Nat) (bc1 : Nat), v = .func (.func 129) #[] [.pointer (some ⟨bc0, 0, none⟩), .pointer (some ⟨bc1, 0, none⟩)].toArray ∧ Bx w' bc0 134 (Tcover_tree.cs r.1) ∧ (w.heap.size ≤ bc0) ∧ Bx w' bc1 3 ([.int .i64 r.2]) ∧ (w.heap.size ≤ bc1) ∧ Gr w w') := by
  unfold cover_tree_labels at hm
  refine calls_of_sw (R := fun v w' => ∃ (bc0 : Nat) (bc1 : Nat), v = .func (.func 129) #[] [.pointer (some ⟨bc0, 0, none⟩), .pointer (some ⟨bc1, 0, none⟩)].toArray ∧ Bx w' bc0 134 (Tcover_tree.cs r.1) ∧ (w.heap.size ≤ bc0) ∧ Bx w' bc1 3 ([.int .i64 r.2]) ∧ (w.heap.size ≤ bc1) ∧ Gr w w') 6 Try.func82 rfl rfl rfl ?_
  refine sw_seq ?_
  -- region 0 tree.go:132
  refine sw_region [(0, 0), (1, 0), (2, 0)] rfl rfl rfl ?_
  refine sd_ev rfl rfl rfl (ev_box (cs := Tcover_tree.cs p0) rfl rfl) ?_
  rintro _ w1 ⟨b1, rfl, hbw1, Bw1, Gw1⟩
  have z1 := Gw1.size
  have lt2 := Bw1.lt
  refine sd_ev rfl rfl rfl (ev_box (cs := [.int .i64 p1]) rfl rfl) ?_
  rintro _ w2 ⟨b2, rfl, hbw2, Bw2, Gw2⟩
  have z3 := Gw2.size
  have lt4 := Bw2.lt
  refine sd_vv rfl rfl rfl (vv_assign rfl) ?_
  refine sd_done ?_
  refine sw_seq ?_
  -- region 1 tree.go:133
  refine sw_region [(0, 0), (1, 0)] rfl rfl rfl ?_
  refine sd_vv rfl rfl rfl (vv_makeFunc rfl rfl) ?_
  refine sd_vv rfl rfl rfl (vv_assign rfl) ?_
  refine sd_done ?_
  refine sw_ret ?_
  have B5 := (Bx.gr Bw1 Gw2)
  have X6 : Gr w w2 := (Gr.trans (Gr.trans (Gr.refl w) Gw1) Gw2)
  have hr := Option.some.inj hm
  subst hr
  refine ⟨_, _, rfl, res_1 rfl (rv_tmp rfl), ?_⟩
  exact ⟨b1, b2, rfl, B5, by omega, Bw2, by omega, X6⟩

set_option maxHeartbeats 2000000 in
theorem cover_tree_labels_1_it (p1 : Tcover_tree) (p2 : Int) (bp1 : Nat) (bp2 : Nat) (xs : List (Int × Int)) (hm : cover_tree_labels_1 p1 p2 = some xs) (w0 : World) (hbp1 : Bx w0 bp1 134 (Tcover_tree.cs p1)) (hbp2 : Bx w0 bp2 3 ([.int .i64 p2])) :
    IT Try.prog 129 [.pointer (some ⟨bp1, 0, none⟩), .pointer (some ⟨bp2, 0, none⟩)] (xs.map (fun (x : Int × Int) => ([.int .i64 x.1, .int .i64 x.2] : List Value))) ([bp1] ++ [bp2]) w0 := by
  intro l J Jx w fp hG hJ hJx hcap h0 hY
  have c1 := Bx.gr hbp1 hG
  have lt2 := c1.lt
  have nb3 : bp1 ∉ fp := hcap _ (by simp)
  have c4 := Bx.gr hbp2 hG
  have lt5 := c4.lt
  have nb6 : bp2 ∉ fp := hcap _ (by simp)
  have hd := dr_0 xs
  unfold cover_tree_labels_1 at hm
  refine calls_of_sw (R := fun v w' => Kp fp w w' ∧ ((∃ fp', (∀ c ∈ fp', c ∈ fp ∨ w.heap.size ≤ c) ∧ J (xs.map (fun (x : Int × Int) => ([.int .i64 x.1, .int .i64 x.2] : List Value))).length fp' w') ∨ (∃ j fp', (∀ c ∈ fp', c ∈ fp ∨ w.heap.size ≤ c) ∧ j ≤ (xs.map (fun (x : Int × Int) => ([.int .i64 x.1, .int .i64 x.2] : List Value))).length ∧ Jx j fp' w'))) 48 Try.func129 rfl rfl rfl ?_
  refine sw_seq ?_
  -- region 0 tree.go:133
  refine sw_region [(0, 0)] rfl rfl rfl ?_
  refine sd_ev rfl rfl rfl (ev_box rfl rfl) ?_
  rintro _ w1 ⟨b1, rfl, hbw1, Bw1, Gw1⟩
  have z7 := Gw1.size
  have lt8 := Bw1.lt
  have nb9 : b1 ∉ fp := fun h => absurd (hJ.lt h0 _ h) (by omega)
  refine sd_done ?_
  refine sw_seq ?_
  -- region 1 tree.go:134
  refine sw_region [(0, 0), (1, 0), (2, 0), (3, 0)] rfl rfl rfl ?_
  have B10 := (Bx.gr c1 Gw1)
  refine sd_vv rfl rfl rfl (vv_loadW agg_134 rfl B10 rfl) ?_
  have B11 := (Bx.gr c4 Gw1)
  refine sd_vv rfl rfl rfl (vv_load1 (v := .int .i64 p2) one_3 rfl B11 rfl) ?_
  have hb := bnd hm; clear hm; obtain ⟨x1, hx1, hm⟩ := hb
  refine sd_ev rfl rfl rfl (ev_call en_112 rfl (cover_tree_leaf_w p1 p2 _ hx1 _)) ?_
  rintro _ w2 ⟨rfl, Gw2⟩
  have J12 := (hJ.gr h0 Gw1)
  have z13 := Gw2.size
  refine sd_vv rfl rfl rfl (vv_assign rfl) ?_
  refine sd_done ?_
  refine sw_seq ?_
  refine sw_seq ?_
  -- region 2 tree.go:135
  refine sw_region [(0, 0), (1, 0), (2, 0)] rfl rfl rfl ?_
  have B14 := (Bx.gr Bw1 Gw2)
  refine sd_vv rfl rfl rfl (vv_load1 one_188 rfl B14 rfl) ?_
  have J16 := (hJ.gr J12 Gw2)
  have KI17 : Kp fp w w2 := (Kp.gr (Kp.gr (Kp.refl fp w) Gw1) Gw2)
  obtain ⟨rr15, hm, he15⟩ := yl_some hm
  have hx15 := Dr.at hd he15
  have hd15 := Dr.next hd he15
  have B18 := (Bx.gr B10 Gw2)
  have B19 := (Bx.gr B11 Gw2)
  refine sd_ev rfl rfl rfl (ev_yield rfl rfl (hY _ _ _ _ (getm hx15) J16 KI17 (fun c hc => Or.inl hc))) ?_
  rintro _ w3 ⟨bb, rfl, KF15, fp15, hg15, hJb⟩
  have z20 := KF15.size
  have sub15 : ∀ c ∈ fp15, c ∈ fp ∨ w.heap.size ≤ c := sub_grow (fun c hc => Or.inl hc) hg15 (by omega)
  have nb21 := notin_grow hg15 nb3 (by omega)
  have nb22 := notin_grow hg15 nb6 (by omega)
  have nb23 := notin_grow hg15 nb9 (by omega)
  cases bb
  ·
    have Jy15 : Jx (0 + 1) fp15 w3 := hJb
    refine sd_vv rfl rfl rfl (vv_not rfl) ?_
    refine sd_done ?_
    refine sw_condT rfl ?_
    refine sw_ret ?_
    refine then_r ?_
    have KI24 : Kp fp w w3 := (Kp.trans KI17 KF15 (fun c hc => Or.inl hc))
    exact ⟨_, _, rfl, res_none rfl, KI24, .inr ⟨_, _, sub15, (by rw [List.length_map]; exact (List.getElem?_eq_some_iff.1 hx15).1), Jy15⟩⟩
  ·
    have Jy15 : J (0 + 1) fp15 w3 := hJb
    refine sd_vv rfl rfl rfl (vv_not rfl) ?_
    refine sd_done ?_
    refine sw_condF rfl ?_
    refine sw_skip ?_
    refine then_n ?_
    refine sw_seq ?_
    -- region 3 tree.go:138
    refine sw_region [(0, 0), (1, 0)] rfl rfl rfl ?_
    refine sd_ev rfl rfl rfl (ev_alloc (cs := [.int .i64 0]) zv_139 rfl) ?_
    rintro _ w4 ⟨b4, rfl, hbw4, Bw4, Gw4⟩
    have z25 := Gw4.size
    have lt26 := Bw4.lt
    have nb27 : b4 ∉ fp15 := fun h => absurd (hJ.lt Jy15 _ h) (by omega)
    refine sd_ev rfl rfl rfl (ev_st1 (cs' := [.int .i64 1]) (one_139).siz rfl rfl rfl Bw4 rfl rfl) ?_
    rintro _ w5 ⟨Bw5, Mw5⟩
    have z28 := Mw5.size
    refine sd_done ?_
    refine sw_block ?_
    have J29 := (hJ.md (hJ.gr Jy15 Gw4) Mw5 nb27)
    have KI30 : Kp fp w w5 := (Kp.md (Kp.gr (Kp.trans KI17 KF15 (fun c hc => Or.inl hc)) Gw4) Mw5 (Or.inr (by omega)))
    have B31 := (Bx.md (Bx.gr (Bx.kp B18 KF15 nb3) Gw4) Mw5)
    have B32 := (Bx.md (Bx.gr (Bx.kp B19 KF15 nb6) Gw4) Mw5)
    have B33 := (Bx.md (Bx.gr (Bx.kp B14 KF15 nb9) Gw4) Mw5)
    refine sw_loopK (α := Nat × Int × Nat × Nat × List Nat × List (Int × Int)) [5, 6, 7, 14, 15, 16, 17, 18, 19, 20, 21, 22, 23, 24, 25, 26, 27, 28, 29, 30, 31, 32, 33, 34, 35, 36, 37, 38, 39, 40, 41, 42, 43, 44, 45, 46, 47] (fun ⟨n1, a2, bq1_5, kk, fpl, rl⟩ => [(5, .pointer (some ⟨bq1_5, 0, none⟩))]) (fun ⟨n1, a2, bq1_5, kk, fpl, rl⟩ ks wr => (fixN (cover_tree_labels_1_L1 p1 x1) n1 a2 = some rl) ∧ Dr xs kk rl ∧ J kk fpl wr ∧ (∀ c ∈ fpl, c ∈ fp ∨ w.heap.size ≤ c) ∧ Kp fp w wr ∧ Bx wr bp1 134 (Tcover_tree.cs p1) ∧ Bx wr bp2 3 ([.int .i64 p2]) ∧ Bx wr b1 188 [.func (.yield l) #[] #[]] ∧ bp1 ∉ fpl ∧ bp2 ∉ fpl ∧ b1 ∉ fpl ∧ Bx wr bq1_5 139 ([.int .i64 a2]) ∧ bq1_5 ∉ fpl ∧ w.heap.size ≤ bq1_5 ∧ bq1_5 ≠ bp1 ∧ bq1_5 ≠ bp2 ∧ bq1_5 ≠ b1 ∧ MkI w.heap.size ks fpl wr) (fun ⟨n1, a2, bq1_5, kk, fpl, rl⟩ => n1) ⟨FUEL, 1, b4, (0 + 1), fp15, rr15⟩ [] rfl ?_ ?_ ?_
    · repeat' first | exact trivial | refine ⟨rfl, ?_⟩
    · exact ⟨hm, hd15, J29, sub15, KI30, B31, B32, B33, nb21, nb22, nb23, Bw5, nb27, (by omega), (by omega), (by omega), (by omega), (mki_nil w.heap.size fp15 w5)⟩
    · clear hm; rintro ⟨n1, a2, bq1_5, kk1, fpl1, rl1⟩ ks1 w6 ⟨hm, dl1, JLw6, sl1, KLw6, Sw6_0, Sw6_1, Sw6_2, Nw6_0, Nw6_1, Nw6_2, Pw6_0, Pw6_1, Pw6_2, Pw6_3, Pw6_4, Pw6_5, MKw6⟩
      have z34 := KLw6.size
      have lt35 := Sw6_0.lt
      have lt36 := Sw6_1.lt
      have lt37 := Sw6_2.lt
      have lt38 := Pw6_0.lt
      have hb := fix_succ hm; clear hm; obtain ⟨n1, rfl, hm⟩ := hb
      generalize hrec1 : fixN (cover_tree_labels_1_L1 p1 x1) n1 = rec1 at hm
      unfold cover_tree_labels_1_L1 at hm
      try dsimp only at hm
      refine sw_seq ?_
      refine sw_seq ?_
      -- region 4 tree.go:138
      refine sw_region [(0, 0), (1, 0), (2, 0)] rfl rfl rfl ?_
      refine sd_vv rfl rfl rfl (vv_load1 (v := .int .i64 a2) one_139 rfl Pw6_0 rfl) ?_
      refine sd_vv rfl rfl rfl (vv_move rfl) ?_
      refine sd_vv rfl rfl rfl (vv_neq (a := a2) (b := x1) rfl rfl) ?_
      refine sd_done ?_
      refine sw_cond rfl (fun c1 => ?_) (fun c1 => ?_)
      ·
        replace hm := ite_t (of_decide_eq_true c1) hm
        refine sw_skip ?_
        refine then_n ?_
        refine sw_seq ?_
        refine sw_block ?_
        refine sw_seq ?_
        refine sw_seq ?_
        -- region 6 tree.go:139
        refine sw_region [(0, 0), (1, 0), (2, 0)] rfl rfl rfl ?_
        refine sd_vv rfl rfl rfl (vv_fieldAddr fa_134_0 rfl) ?_
        refine sd_vv rfl rfl rfl (vv_load1 (v := bv p1.kind) one_5 rfl Sw6_0 rfl) ?_
        refine sd_vv rfl rfl rfl (vv_eqlB (p := p1.kind) (q := 1#8) rfl rfl) ?_
        refine sd_done ?_
        refine sw_cond rfl (fun c2 => ?_) (fun c2 => ?_)
        ·
          replace hm := ite_t (of_decide_eq_true c2) hm
          refine sw_seq ?_
          refine sw_seq ?_
          -- region 7 tree.go:140 DRAWS
          refine sw_drawN [fpl1] [] (.leaf [(0, 10), (1, 10), (2, 10), (3, 0), (4, 0), (5, 0)]) (by kernel_rfl) (by kernel_rfl) rfl (by kernel_rfl) ?_
          intro w7 Gw7 zw7
          refine sdz_leaf ?_
          have B39 := (Bx.gr Sw6_2 Gw7)
          refine dd_hn 0 rfl rfl rfl rfl (Kp.refl fpl1 w7) (fun w hS => vv_load1 one_188 rfl (Bx.kp B39 hS Nw6_2) rfl) ?_
          have B40 := (Bx.gr Pw6_0 Gw7)
          refine dd_hn 0 rfl rfl rfl rfl (Kp.refl fpl1 w7) (fun w hS => vv_load1 (v := .int .i64 a2) one_139 rfl (Bx.kp B40 hS Pw6_1) rfl) ?_
          refine dd_hn 0 rfl rfl rfl rfl (Kp.refl fpl1 w7) (fun w hS => vv_move rfl) ?_
          have hb := bnd hm; clear hm; obtain ⟨x3, hx3, hm⟩ := hb
          refine dd_z [] rfl rfl rfl (ev_call en_77 rfl (cover_node_toward_w a2 x1 _ hx3 _)) ⟨fun _ => tk0, trivial⟩ ?_
          rintro _ w8 ⟨rfl, Gw8⟩
          have J41 := (hJ.gr JLw6 Gw7)
          have z42 := Gw8.size
          refine ⟨Kz.ofGr Gw8, ?_⟩
          have J44 := (hJ.gr J41 Gw8)
          have KI45 : Kp fp w w8 := (Kp.gr (Kp.gr KLw6 Gw7) Gw8)
          obtain ⟨rr43, hm, he43⟩ := yl_some hm
          have hx43 := Dr.at dl1 he43
          have hd43 := Dr.next dl1 he43
          have B46 := (Bx.gr (Bx.gr Sw6_0 Gw7) Gw8)
          have B47 := (Bx.gr (Bx.gr Sw6_1 Gw7) Gw8)
          have B48 := (Bx.gr B39 Gw8)
          have B49 := (Bx.gr B40 Gw8)
          refine dd_y rfl rfl rfl (ev_yield rfl rfl (hY _ _ _ _ (getm hx43) J44 KI45 sl1)) ?_
          rintro _ w9 ⟨bb, rfl, KF43, fp43, hg43, hJb⟩
          refine ⟨fun S => Kp.trans S KF43 (fun b hb => Or.inl hb), ?_⟩
          have z50 := KF43.size
          have sub43 : ∀ c ∈ fp43, c ∈ fp ∨ w.heap.size ≤ c := sub_grow sl1 hg43 (by omega)
          have MK51 := (MkI.gr (MkI.gr MKw6 Gw7) Gw8)
          have MK43 := MkI.kp MK51 KF43 hg43
          have nb52 := notin_grow hg43 Nw6_0 (by omega)
          have nb53 := notin_grow hg43 Nw6_1 (by omega)
          have nb54 := notin_grow hg43 Nw6_2 (by omega)
          have nb55 := notin_grow hg43 Pw6_1 (by omega)
          cases bb
          ·
            have Jy43 : Jx (kk1 + 1) fp43 w9 := hJb
            refine dd_vz rfl rfl rfl (vv_not rfl) ?_
            refine sd_done ?_
            refine sw_condT rfl ?_
            refine sw_ret ?_
            refine then_r ?_
            refine then_r ?_
            refine block_r ?_
            refine then_r ?_
            refine then_r ?_
            refine block_r ?_
            have KI56 : Kp fp w w9 := (Kp.trans KI45 KF43 sl1)
            obtain ⟨wl57, lv57, kl57⟩ := MkI.leave MK43
            have Jl57 := MkI.stb hJx MK43 Jy43 kl57
            have Kl57 := MkI.trans MK43 KI56 kl57
            exact ⟨_, _, lv57, res_none rfl, Kl57, .inr ⟨_, _, sub43, (by rw [List.length_map]; exact (List.getElem?_eq_some_iff.1 hx43).1), Jl57⟩⟩
          ·
            have Jy43 : J (kk1 + 1) fp43 w9 := hJb
            refine dd_vz rfl rfl rfl (vv_not rfl) ?_
            refine sd_done ?_
            refine sw_condF rfl ?_
            refine sw_skip ?_
            refine then_n ?_
            refine sw_exit ?_
            refine then_x ?_
            refine block_x ?_
            refine then_n ?_
            refine sw_seq ?_
            refine sw_seq ?_
            -- region 12 tree.go:138
            refine sw_region [(0, 0)] rfl rfl rfl ?_
            have B58 := (Bx.kp B49 KF43 Pw6_1)
            refine sd_vv rfl rfl rfl (vv_load1 (v := .int .i64 a2) one_139 rfl B58 rfl) ?_
            refine sd_done ?_
            -- region 13 tree.go:138
            refine sw_region [(0, 0), (1, 0)] rfl rfl rfl ?_
            refine sd_ev rfl rfl rfl (ev_alloc (cs := [.int .i64 0]) zv_139 rfl) ?_
            rintro _ w10 ⟨b10, rfl, hbw10, Bw10, Gw10⟩
            have z59 := Gw10.size
            have lt60 := Bw10.lt
            have nb61 : b10 ∉ fp43 := fun h => absurd (hJ.lt Jy43 _ h) (by omega)
            refine sd_ev rfl rfl rfl (ev_st1 (cs' := [.int .i64 a2]) (one_139).siz rfl rfl rfl Bw10 rfl rfl) ?_
            rintro _ w11 ⟨Bw11, Mw11⟩
            have J62 := (hJ.gr Jy43 Gw10)
            have MK63 := (MkI.gr MK43 Gw10)
            have z64 := Mw11.size
            refine sd_done ?_
            -- region 5 tree.go:138
            refine sw_region [(0, 0), (1, 0), (2, 0), (3, 0)] rfl rfl rfl ?_
            refine sd_vv rfl rfl rfl (vv_load1 (v := .int .i64 a2) one_139 rfl Bw11 rfl) ?_
            refine sd_vv rfl rfl rfl (vv_move rfl) ?_
            have hb := bnd hm; clear hm; obtain ⟨x4, hx4, hm⟩ := hb
            refine sd_ev rfl rfl rfl (ev_call en_77 rfl (cover_node_toward_w a2 x1 _ hx4 _)) ?_
            rintro _ w12 ⟨rfl, Gw12⟩
            have J65 := (hJ.md J62 Mw11 nb61)
            have z66 := Gw12.size
            have B67 := (Bx.gr Bw11 Gw12)
            refine sd_ev rfl rfl rfl (ev_st1 (cs' := [.int .i64 x4]) (one_139).siz rfl rfl rfl B67 rfl rfl) ?_
            rintro _ w13 ⟨Bw13, Mw13⟩
            have J68 := (hJ.gr J65 Gw12)
            have MK69 := (MkI.gr (MkI.md MK63 Mw11 Bw10) Gw12)
            have z70 := Mw13.size
            refine sd_nil ?_
            have J71 := (hJ.md J68 Mw13 nb61)
            have KI72 : Kp fp w w13 := (Kp.md (Kp.gr (Kp.md (Kp.gr (Kp.trans KI45 KF43 sl1) Gw10) Mw11 (Or.inr (by omega))) Gw12) Mw13 (Or.inr (by omega)))
            have B73 := (Bx.md (Bx.gr (Bx.md (Bx.gr (Bx.kp B46 KF43 Nw6_0) Gw10) Mw11) Gw12) Mw13)
            have B74 := (Bx.md (Bx.gr (Bx.md (Bx.gr (Bx.kp B47 KF43 Nw6_1) Gw10) Mw11) Gw12) Mw13)
            have B75 := (Bx.md (Bx.gr (Bx.md (Bx.gr (Bx.kp B48 KF43 Nw6_2) Gw10) Mw11) Gw12) Mw13)
            have MK76 := (MkI.md MK69 Mw13 B67)
            subst hrec1
            refine ⟨⟨n1, x4, b10, (kk1 + 1), fp43, rr43⟩, ks1, rfl, ?_, ⟨hm, hd43, J71, sub43, KI72, B73, B74, B75, nb52, nb53, nb54, Bw13, nb61, (by omega), (by omega), (by omega), (by omega), MK76⟩, Nat.lt_succ_self _⟩
            repeat' first | exact trivial | refine ⟨rfl, ?_⟩
        ·
          replace hm := ite_f (of_decide_eq_false c2) hm
          refine sw_skip ?_
          refine then_n ?_
          refine sw_seq ?_
          -- region 8 tree.go:145
          refine sw_region [(0, 0), (1, 0), (2, 0)] rfl rfl rfl ?_
          refine sd_vv rfl rfl rfl (vv_load1 (v := .int .i64 a2) one_139 rfl Pw6_0 rfl) ?_
          refine sd_vv rfl rfl rfl (vv_move rfl) ?_
          have hb := bnd hm; clear hm; obtain ⟨x5, hx5, hm⟩ := hb
          refine sd_ev rfl rfl rfl (ev_call en_128 rfl (cover_path_w a2 x1 _ hx5 _)) ?_
          rintro _ w14 ⟨k14_c0_0, k14_c0_1, rfl, O14_c0_0, f14_c0_0, O14_c0_1, f14_c0_1, Gw14⟩
          have z77 := Gw14.size
          have lt78 := O14_c0_0.lt
          have nb79 : k14_c0_0 ∉ fpl1 := fun h => absurd (hJ.lt JLw6 _ h) (by omega)
          have lt80 := O14_c0_1.lt
          have nb81 : k14_c0_1 ∉ fpl1 := fun h => absurd (hJ.lt JLw6 _ h) (by omega)
          refine sd_done ?_
          refine sw_block ?_
          have hb := bnd hm; clear hm; obtain ⟨l6, hl6, hm⟩ := hb
          have J82 := (hJ.gr JLw6 Gw14)
          have KI83 : Kp fp w w14 := (Kp.gr KLw6 Gw14)
          have B84 := (Bx.gr Sw6_0 Gw14)
          have B85 := (Bx.gr Sw6_1 Gw14)
          have B86 := (Bx.gr Sw6_2 Gw14)
          have B87 := (Bx.gr Pw6_0 Gw14)
          have MK88 := (MkI.gr MKw6 Gw14)
          have MZ89 := MK88
          refine sw_rangeFunc (gf := 155) rfl en_155 (cover_path_1_it x5.1 x5.2 _ _ _ hl6 _ O14_c0_0 O14_c0_1) (by intro x hx; obtain ⟨a, _, rfl⟩ := List.mem_map.1 hx; rfl) rfl _ _ fpl1 (stb_mk (α := Nat × List Nat × (List (Int × Int))) (fun ⟨kk, fpl, rl⟩ rk => (itL (cover_tree_labels_1_R2 p1 a2) (cover_tree_labels_1_D2 x1 a2 rec1) (List.drop rk l6) () = some rl) ∧ Dr xs kk rl ∧ (∀ c ∈ fpl, c ∈ fp ∨ w.heap.size ≤ c) ∧ (∀ c ∈ fpl, c ∈ fpl1 ∨ w14.heap.size ≤ c)) (fun ⟨kk, fpl, rl⟩ => fpl) (fun ⟨kk, fpl, rl⟩ W => J kk fpl W) (by rintro ⟨kk, fpl, rl⟩ W h b hb; exact hJ.lt h b hb) (by rintro ⟨kk, fpl, rl⟩ W W' h he hs; exact hJ.keep h he hs)) (fun c => stb_c (c = .ret) (stb_mk (α := Nat × List Nat) (fun ⟨kk, fpl⟩ rk => kk ≤ xs.length ∧ (∀ c ∈ fpl, c ∈ fp ∨ w.heap.size ≤ c) ∧ (∀ c ∈ fpl, c ∈ fpl1 ∨ w14.heap.size ≤ c)) (fun ⟨kk, fpl⟩ => fpl) (fun ⟨kk, fpl⟩ W => Jx kk fpl W) (by rintro ⟨kk, fpl⟩ W h b hb; exact hJx.lt h b hb) (by rintro ⟨kk, fpl⟩ W W' h he hs; exact hJx.keep h he hs))) (by intro b hb; simp only [List.mem_cons, List.mem_append, mem_zf, List.not_mem_nil, or_false, false_or, not_or, ne_eq, List.nil_append, List.cons_append, true_and, and_true, false_and, and_false, not_true_eq_false, not_false_eq_true, or_true, true_or] at hb; rcases hb with rfl | rfl <;> first | exact ⟨nb79, by omega⟩ | exact ⟨nb81, by omega⟩) ⟨(kk1, fpl1, rl1), ⟨hm, dl1, sl1, fun c hc => Or.inl hc⟩, rfl, J82⟩ ?_ ?_ ?_
          · rintro l2 rk x fpr2 w15 hl hx hIr Kw15 hF hln hlt
            clear hm
            obtain ⟨e7, hxe, rfl⟩ := map_some hx
            obtain ⟨⟨_, fpa, _⟩, ⟨_, _, sa, sz⟩, ea, Ja⟩ := hIr
            replace ea : fpr2 = fpa := ea
            subst ea
            replace Ja : J _ fpr2 w15 := Ja
            have z90 := Kw15.size
            have nb91 := notin_grow hF Nw6_0 (by omega)
            have nb92 := notin_grow hF Nw6_1 (by omega)
            have nb93 := notin_grow hF Nw6_2 (by omega)
            have nb94 := notin_grow hF Pw6_1 (by omega)
            have nb95 := notin_grow hF nb79 (by omega)
            have nb96 := notin_grow hF nb81 (by omega)
            have MKw15 := MkI.kp MZ89 Kw15 hF
            -- region 9 tree.go:145
            refine sw_region [(0, 0)] rfl rfl rfl ?_
            refine sd_vv rfl rfl rfl (vv_assign rfl) ?_
            refine sd_nil ?_
            refine ⟨rfl, (Gr.refl _), ?_⟩
            rintro w16 Mw16 ⟨⟨kr2, fpb, rl2⟩, ⟨hm, dr2, sr2, s0r2⟩, eb, Jr2⟩
            replace eb : fpr2 = fpb := eb
            subst eb
            replace Jr2 : J kr2 fpr2 w16 := Jr2
            have z97 := Mw16.size
            replace hm := itL_at hm hxe
            generalize hnx2 : itL (cover_tree_labels_1_R2 p1 a2) (cover_tree_labels_1_D2 x1 a2 rec1) (List.drop (rk + 1) l6) = nx2 at hm
            unfold cover_tree_labels_1_R2 at hm
            try dsimp only at hm
            refine sw_block ?_
            refine sw_seq ?_
            -- region 10 tree.go:146
            refine sw_region [(0, 0), (1, 0), (2, 0)] rfl rfl rfl ?_
            refine sd_vv rfl rfl rfl (vv_move rfl) ?_
            have hb := bnd hm; clear hm; obtain ⟨x8, hx8, hm⟩ := hb
            refine sd_ev rfl rfl rfl (ev_call en_78 rfl (cover_node_sibling_w e7 _ hx8 _)) ?_
            rintro _ w17 ⟨rfl, Gw17⟩
            have z98 := Gw17.size
            refine sd_vv rfl rfl rfl (vv_assign rfl) ?_
            refine sd_done ?_
            refine sw_seq ?_
            -- region 11 tree.go:147
            refine sw_region [(0, 0), (1, 0), (2, 0), (3, 0), (4, 0), (5, 0), (6, 0), (7, 0), (8, 0), (9, 0), (10, 0), (11, 0)] rfl rfl rfl ?_
            have B99 := (Bx.gr (Bx.md (Bx.kp B84 Kw15 Nw6_0) Mw16) Gw17)
            refine sd_vv rfl rfl rfl (vv_loadW agg_134 rfl B99 rfl) ?_
            have B100 := (Bx.gr (Bx.md (Bx.kp B87 Kw15 Pw6_1) Mw16) Gw17)
            refine sd_vv rfl rfl rfl (vv_load1 (v := .int .i64 a2) one_139 rfl B100 rfl) ?_
            refine sd_vv rfl rfl rfl (vv_move rfl) ?_
            refine sd_vv rfl rfl rfl (vv_build (cs := TSubset.cs (TSubset.mk a2 x8)) bs_47 rfl rfl) ?_
            have hb := bnd hm; clear hm; obtain ⟨x9, hx9, hm⟩ := hb
            refine sd_ev rfl rfl rfl (ev_call en_79 rfl (cover_tree_subset_w p1 (TSubset.mk a2 x8) _ hx9 _)) ?_
            rintro _ w18 ⟨rfl, Gw18⟩
            have J101 := (hJ.gr Jr2 Gw17)
            have z102 := Gw18.size
            refine sd_split rfl rfl rfl (vv_move rfl) (fun c3 => ?_) (fun c3 => ?_)
            ·
              replace hm := cnd_t c3 hm
              have B103 := (Bx.gr (Bx.gr (Bx.md (Bx.kp B86 Kw15 Nw6_2) Mw16) Gw17) Gw18)
              refine sd_vv rfl rfl rfl (vv_load1 one_188 rfl B103 rfl) ?_
              have B104 := (Bx.gr B100 Gw18)
              refine sd_vv rfl rfl rfl (vv_load1 (v := .int .i64 a2) one_139 rfl B104 rfl) ?_
              refine sd_vv rfl rfl rfl (vv_move rfl) ?_
              have J106 := (hJ.gr J101 Gw18)
              have KI107 : Kp fp w w18 := (Kp.gr (Kp.gr (Kp.md (Kp.trans KI83 Kw15 sl1) Mw16 (Or.inr (by omega))) Gw17) Gw18)
              obtain ⟨rr105, hm, he105⟩ := yl_some hm
              have hx105 := Dr.at dr2 he105
              have hd105 := Dr.next dr2 he105
              have B108 := (Bx.gr B99 Gw18)
              have B109 := (Bx.gr (Bx.gr (Bx.md (Bx.kp B85 Kw15 Nw6_1) Mw16) Gw17) Gw18)
              have B110 := (Bx.gr (Bx.gr (Bx.md (Bx.kp O14_c0_0 Kw15 nb79) Mw16) Gw17) Gw18)
              have B111 := (Bx.gr (Bx.gr (Bx.md (Bx.kp O14_c0_1 Kw15 nb81) Mw16) Gw17) Gw18)
              refine sd_ev rfl rfl rfl (ev_yield rfl rfl (hY _ _ _ _ (getm hx105) J106 KI107 sr2)) ?_
              rintro _ w19 ⟨bb, rfl, KF105, fp105, hg105, hJb⟩
              have z112 := KF105.size
              have sub105 : ∀ c ∈ fp105, c ∈ fp ∨ w.heap.size ≤ c := sub_grow sr2 hg105 (by omega)
              have subr105 := sub_grow (fun c hc => Or.inl hc : ∀ c ∈ fpr2, c ∈ fpr2 ∨ w16.heap.size ≤ c) hg105 (by omega)
              have MK113 := (MkI.gr (MkI.gr (MkI.mdl MKw15 Mw16 MZ89 hl) Gw17) Gw18)
              have MK105 := MkI.kp MK113 KF105 hg105
              have nb114 := notin_grow hg105 nb91 (by omega)
              have nb115 := notin_grow hg105 nb92 (by omega)
              have nb116 := notin_grow hg105 nb93 (by omega)
              have nb117 := notin_grow hg105 nb94 (by omega)
              have nb118 := notin_grow hg105 nb95 (by omega)
              have nb119 := notin_grow hg105 nb96 (by omega)
              cases bb
              ·
                have Jy105 : Jx (kr2 + 1) fp105 w19 := hJb
                refine sd_vv rfl rfl rfl (vv_not rfl) ?_
                refine sd_vv rfl rfl rfl (vv_pickT rfl rfl) ?_
                refine sd_done ?_
                refine sw_condT rfl ?_
                refine sw_ret ?_
                refine block_r ?_
                exact ⟨(Kp.trans (Kp.gr (Kp.gr (Kp.refl fpr2 w16) Gw17) Gw18) KF105 (fun c hc => Or.inl hc : ∀ c ∈ fpr2, c ∈ fpr2 ∨ w16.heap.size ≤ c)), fp105, subr105, rfl, ((kr2 + 1), fp105), ⟨(List.getElem?_eq_some_iff.1 hx105).1, sub105, (sub_grow s0r2 subr105 (by omega))⟩, rfl, Jy105⟩
              ·
                have Jy105 : J (kr2 + 1) fp105 w19 := hJb
                refine sd_vv rfl rfl rfl (vv_not rfl) ?_
                refine sd_vv rfl rfl rfl (vv_pickT rfl rfl) ?_
                refine sd_done ?_
                refine sw_condF rfl ?_
                refine sw_skip ?_
                refine block_n ?_
                subst hnx2
                exact ⟨(Kp.trans (Kp.gr (Kp.gr (Kp.refl fpr2 w16) Gw17) Gw18) KF105 (fun c hc => Or.inl hc : ∀ c ∈ fpr2, c ∈ fpr2 ∨ w16.heap.size ≤ c)), fp105, subr105, ((kr2 + 1), fp105, rr105), ⟨hm, hd105, sub105, (sub_grow s0r2 subr105 (by omega))⟩, rfl, Jy105⟩
            ·
              replace hm := cnd_f c3 hm
              refine sd_skip rfl rfl rfl ?_
              refine sd_skip rfl rfl rfl ?_
              refine sd_skip rfl rfl rfl ?_
              refine sd_skip rfl rfl rfl ?_
              refine sd_skip rfl rfl rfl ?_
              refine sd_vv rfl rfl rfl (vv_pickF rfl rfl) ?_
              refine sd_done ?_
              refine sw_condF rfl ?_
              refine sw_skip ?_
              refine block_n ?_
              have J122 := (hJ.gr J101 Gw18)
              subst hnx2
              exact ⟨(Kp.gr (Kp.gr (Kp.refl fpr2 w16) Gw17) Gw18), fpr2, (fun c hc => Or.inl hc : ∀ c ∈ fpr2, c ∈ fpr2 ∨ w16.heap.size ≤ c), (kr2, fpr2, rl2), ⟨hm, dr2, sr2, (sub_grow s0r2 (fun c hc => Or.inl hc : ∀ c ∈ fpr2, c ∈ fpr2 ∨ w16.heap.size ≤ c) (by omega))⟩, rfl, J122⟩
          · clear hm; rintro Dw20 fpdw20 w20 hDw20 Dfw20 nw20 ⟨⟨kd, fpe, rd⟩, ⟨hm, dd, sd, s0d⟩, ed, Jd⟩ Kw20
            replace ed : fpdw20 = fpe := ed
            subst ed
            replace Jd : J kd fpdw20 w20 := Jd
            have z124 := Kw20.size
            have lt125 := Df.lt (w := w20) Dfw20
            have nb126 := notin_grow s0d Nw6_0 (by omega)
            have nb127 := notin_grow s0d Nw6_1 (by omega)
            have nb128 := notin_grow s0d Nw6_2 (by omega)
            have nb129 := notin_grow s0d Pw6_1 (by omega)
            have nb130 := notin_grow s0d nb79 (by omega)
            have nb131 := notin_grow s0d nb81 (by omega)
            have MKw20 := MkI.cons (MkI.kp MZ89 Kw20 s0d) MZ89 hDw20 (by omega) Dfw20 nw20
            replace hm := itL_end hm
            unfold cover_tree_labels_1_D2 at hm
            try dsimp only at hm
            refine block_n ?_
            refine block_n ?_
            refine then_n ?_
            refine sw_seq ?_
            refine sw_seq ?_
            -- region 12 tree.go:138
            refine sw_region [(0, 0)] rfl rfl rfl ?_
            have B132 := (Bx.kp B87 Kw20 Pw6_1)
            refine sd_vv rfl rfl rfl (vv_load1 (v := .int .i64 a2) one_139 rfl B132 rfl) ?_
            refine sd_done ?_
            -- region 13 tree.go:138
            refine sw_region [(0, 0), (1, 0)] rfl rfl rfl ?_
            refine sd_ev rfl rfl rfl (ev_alloc (cs := [.int .i64 0]) zv_139 rfl) ?_
            rintro _ w21 ⟨b21, rfl, hbw21, Bw21, Gw21⟩
            have z133 := Gw21.size
            have lt134 := Bw21.lt
            have nb135 : b21 ∉ fpdw20 := fun h => absurd (hJ.lt Jd _ h) (by omega)
            refine sd_ev rfl rfl rfl (ev_st1 (cs' := [.int .i64 a2]) (one_139).siz rfl rfl rfl Bw21 rfl rfl) ?_
            rintro _ w22 ⟨Bw22, Mw22⟩
            have J136 := (hJ.gr Jd Gw21)
            have MK137 := (MkI.gr MKw20 Gw21)
            have z138 := Mw22.size
            refine sd_done ?_
            -- region 5 tree.go:138
            refine sw_region [(0, 0), (1, 0), (2, 0), (3, 0)] rfl rfl rfl ?_
            refine sd_vv rfl rfl rfl (vv_load1 (v := .int .i64 a2) one_139 rfl Bw22 rfl) ?_
            refine sd_vv rfl rfl rfl (vv_move rfl) ?_
            have hb := bnd hm; clear hm; obtain ⟨x10, hx10, hm⟩ := hb
            refine sd_ev rfl rfl rfl (ev_call en_77 rfl (cover_node_toward_w a2 x1 _ hx10 _)) ?_
            rintro _ w23 ⟨rfl, Gw23⟩
            have J139 := (hJ.md J136 Mw22 nb135)
            have z140 := Gw23.size
            have B141 := (Bx.gr Bw22 Gw23)
            refine sd_ev rfl rfl rfl (ev_st1 (cs' := [.int .i64 x10]) (one_139).siz rfl rfl rfl B141 rfl rfl) ?_
            rintro _ w24 ⟨Bw24, Mw24⟩
            have J142 := (hJ.gr J139 Gw23)
            have MK143 := (MkI.gr (MkI.md MK137 Mw22 Bw21) Gw23)
            have z144 := Mw24.size
            refine sd_nil ?_
            have J145 := (hJ.md J142 Mw24 nb135)
            have KI146 : Kp fp w w24 := (Kp.md (Kp.gr (Kp.md (Kp.gr (Kp.trans KI83 Kw20 sl1) Gw21) Mw22 (Or.inr (by omega))) Gw23) Mw24 (Or.inr (by omega)))
            have B147 := (Bx.md (Bx.gr (Bx.md (Bx.gr (Bx.kp B84 Kw20 Nw6_0) Gw21) Mw22) Gw23) Mw24)
            have B148 := (Bx.md (Bx.gr (Bx.md (Bx.gr (Bx.kp B85 Kw20 Nw6_1) Gw21) Mw22) Gw23) Mw24)
            have B149 := (Bx.md (Bx.gr (Bx.md (Bx.gr (Bx.kp B86 Kw20 Nw6_2) Gw21) Mw22) Gw23) Mw24)
            have MK150 := (MkI.md MK143 Mw24 B141)
            subst hrec1
            refine ⟨⟨n1, x10, b21, kd, fpdw20, rd⟩, (Dw20 :: ks1), rfl, ?_, ⟨hm, dd, J145, sd, KI146, B147, B148, B149, nb126, nb127, nb128, Bw24, nb135, (by omega), (by omega), (by omega), (by omega), MK150⟩, Nat.lt_succ_self _⟩
            repeat' first | exact trivial | refine ⟨rfl, ?_⟩
          · clear hm; rintro Dw25 c rk fpdw25 w25 hDw25 Dfw25 nw25 hle ⟨rfl, ⟨kd, fpe⟩, ⟨led, sd, s0d⟩, ed, Jd⟩ Kw25
            replace ed : fpdw25 = fpe := ed
            subst ed
            replace Jd : Jx kd fpdw25 w25 := Jd
            have z151 := Kw25.size
            have lt152 := Df.lt (w := w25) Dfw25
            have nb153 := notin_grow s0d Nw6_0 (by omega)
            have nb154 := notin_grow s0d Nw6_1 (by omega)
            have nb155 := notin_grow s0d Nw6_2 (by omega)
            have nb156 := notin_grow s0d Pw6_1 (by omega)
            have nb157 := notin_grow s0d nb79 (by omega)
            have nb158 := notin_grow s0d nb81 (by omega)
            have MKw25 := MkI.cons (MkI.kp MZ89 Kw25 s0d) MZ89 hDw25 (by omega) Dfw25 nw25
            refine sw_ret ?_
            refine block_r ?_
            refine block_r ?_
            refine then_r ?_
            refine then_r ?_
            refine block_r ?_
            have KI159 : Kp fp w w25 := (Kp.trans KI83 Kw25 sl1)
            obtain ⟨wl160, lv160, kl160⟩ := MkI.leave MKw25
            have Jl160 := MkI.stb hJx MKw25 Jd kl160
            have Kl160 := MkI.trans MKw25 KI159 kl160
            exact ⟨_, _, lv160, res_none rfl, Kl160, .inr ⟨_, _, sd, (by rw [List.length_map]; exact led), Jl160⟩⟩
      ·
        replace hm := ite_f (of_decide_eq_false c1) hm
        refine sw_exit ?_
        refine then_x ?_
        refine then_x ?_
        refine block_x ?_
        obtain ⟨wl161, lv161, kl161⟩ := MkI.leave MKw6
        have Jl161 := MkI.stb hJ MKw6 JLw6 kl161
        have Kl161 := MkI.trans MKw6 KLw6 kl161
        have he := Option.some.inj hm
        have hl := Dr.last (c := (fun (x : Int × Int) => ([.int .i64 x.1, .int .i64 x.2] : List Value))) dl1 he.symm
        refine ⟨_, _, lv161, res_none rfl, Kl161, .inl ⟨_, sl1, ?_⟩⟩
        rw [← hl]; exact Jl161

set_option maxHeartbeats 2000000 in
theorem cover_Storage_w (p0 : TScheme)  (r : Int × Int) (hm : cover_Storage p0 = some r) (w : World)   :
    Calls Try.prog 31 [.agg (TScheme.cs p0).toArray].toArray w fun e w' => ∃ v, e = .returned v ∧ (v = .tuple [.int .i64 r.1, .int .i64 r.2].toArray ∧ Gr w w') := by
  unfold cover_Storage at hm
  refine calls_of_sw (R := fun v w' => v = .tuple [.int .i64 r.1, .int .i64 r.2].toArray ∧ Gr w w') 22 Try.func31 rfl rfl rfl ?_
  refine sw_seq ?_
  -- region 0 cover.go:134
  refine sw_region [(0, 0), (1, 0), (2, 0)] rfl rfl rfl ?_
  refine sd_ev rfl rfl rfl (ev_box (cs := TScheme.cs p0) rfl rfl) ?_
  rintro _ w1 ⟨b1, rfl, hbw1, Bw1, Gw1⟩
  have z1 := Gw1.size
  have lt2 := Bw1.lt
  refine sd_vv rfl rfl rfl (vv_assign rfl) ?_
  refine sd_vv rfl rfl rfl (vv_assign rfl) ?_
  refine sd_done ?_
  refine sw_seq ?_
  -- region 1 cover.go:135
  refine sw_region [(0, 0), (1, 0), (2, 0), (3, 0), (4, 0), (5, 0), (6, 0), (7, 0)] rfl rfl rfl ?_
  refine sd_vv rfl rfl rfl (vv_loadW agg_45 rfl Bw1 rfl) ?_
  have hb := bnd hm; clear hm; obtain ⟨x1, hx1, hm⟩ := hb
  refine sd_ev rfl rfl rfl (ev_call en_74 rfl (cover_enter_w p0 ([] : List TSubset) _ _ _ _ _ hx1 _ (Own.rd (own_nil _ 0 47 2)))) ?_
  rintro _ w2 ⟨rfl, Gw2⟩
  have z3 := Gw2.size
  refine sd_vv rfl rfl rfl (vv_move rfl) ?_
  refine sd_vv rfl rfl rfl (vv_extract rfl rfl) ?_
  refine sd_vv rfl rfl rfl (vv_extract rfl rfl) ?_
  refine sd_ev rfl rfl rfl (ev_alloc (cs := Tcover_tree.cs (Tcover_tree.mk 0#8 0 0)) zv_134 rfl) ?_
  rintro _ w3 ⟨b3, rfl, hbw3, Bw3, Gw3⟩
  have z4 := Gw3.size
  have lt5 := Bw3.lt
  refine sd_ev rfl rfl rfl (ev_stM (cs' := Tcover_tree.cs x1.1) (vs := Tcover_tree.cs x1.1) (agg_134).siz rfl rfl rfl rfl rfl Bw3 rfl rfl) ?_
  rintro _ w4 ⟨Bw4, Mw4⟩
  have z6 := Mw4.size
  refine sd_vv rfl rfl rfl (vv_assign rfl) ?_
  refine sd_done ?_
  refine sw_seq ?_
  refine sw_seq ?_
  -- region 2 cover.go:136
  refine sw_region [(0, 0), (1, 0)] rfl rfl rfl ?_
  refine sd_vv rfl rfl rfl (vv_move rfl) ?_
  refine sd_vv rfl rfl rfl (vv_neq (a := x1.2) (b := 0) rfl rfl) ?_
  refine sd_done ?_
  refine sw_cond rfl (fun c1 => ?_) (fun c1 => ?_)
  ·
    replace hm := ite_t (of_decide_eq_true c1) hm
    refine sw_seq ?_
    -- region 3 cover.go:137
    refine sw_region [(0, 0), (1, 0), (2, 0)] rfl rfl rfl ?_
    refine sd_vv rfl rfl rfl (vv_move rfl) ?_
    refine sd_vv rfl rfl rfl (vv_assign rfl) ?_
    refine sd_vv rfl rfl rfl (vv_assign rfl) ?_
    refine sd_done ?_
    refine sw_ret ?_
    refine then_r ?_
    have X7 : Gr w w4 := (Gr.md (Gr.trans (Gr.trans (Gr.trans (Gr.refl w) Gw1) Gw2) Gw3) Mw4)
    have hr := Option.some.inj hm
    subst hr
    refine ⟨_, _, rfl, res_2 rfl (rv_tmp rfl) (rv_tmp rfl), ?_⟩
    exact ⟨rfl, X7⟩
  ·
    replace hm := ite_f (of_decide_eq_false c1) hm
    refine sw_skip ?_
    refine then_n ?_
    refine sw_seq ?_
    -- region 4 cover.go:139
    refine sw_region [(0, 0), (1, 0)] rfl rfl rfl ?_
    refine sd_ev rfl rfl rfl (ev_alloc (cs := [.int .i64 0]) zv_3 rfl) ?_
    rintro _ w5 ⟨b5, rfl, hbw5, Bw5, Gw5⟩
    have z8 := Gw5.size
    have lt9 := Bw5.lt
    refine sd_ev rfl rfl rfl (ev_st1 (cs' := [.int .i64 0]) (one_3).siz rfl rfl rfl Bw5 rfl rfl) ?_
    rintro _ w6 ⟨Bw6, Mw6⟩
    have z10 := Mw6.size
    refine sd_done ?_
    refine sw_seq ?_
    refine sw_seq ?_
    -- region 5 cover.go:140
    refine sw_region [(0, 0), (1, 0)] rfl rfl rfl ?_
    have B11 := (Bx.md (Bx.gr Bw4 Gw5) Mw6)
    refine sd_vv rfl rfl rfl (vv_loadW agg_134 rfl B11 rfl) ?_
    have hb := bnd hm; clear hm; obtain ⟨x2, hx2, hm⟩ := hb
    refine sd_ev rfl rfl rfl (ev_call en_82 rfl (cover_tree_labels_w x1.1 0 _ hx2 _)) ?_
    rintro _ w7 ⟨k7_c0_0, k7_c0_1, rfl, O7_c0_0, f7_c0_0, O7_c0_1, f7_c0_1, Gw7⟩
    have z12 := Gw7.size
    have lt13 := O7_c0_0.lt
    have lt14 := O7_c0_1.lt
    refine sd_done ?_
    refine sw_block ?_
    have hb := bnd hm; clear hm; obtain ⟨l3, hl3, hm⟩ := hb
    have X15 : Gr w w7 := (Gr.trans (Gr.md (Gr.trans (Gr.md (Gr.trans (Gr.trans (Gr.trans (Gr.refl w) Gw1) Gw2) Gw3) Mw4) Gw5) Mw6) Gw7)
    have B16 := (Bx.gr (Bx.md (Bx.gr (Bx.md (Bx.gr (Bx.gr Bw1 Gw2) Gw3) Mw4) Gw5) Mw6) Gw7)
    have B17 := (Bx.gr B11 Gw7)
    have B18 := (Bx.gr Bw6 Gw7)
    refine sw_rangeFunc (gf := 129) rfl en_129 (cover_tree_labels_1_it x2.1 x2.2 _ _ _ hl3 _ O7_c0_0 O7_c0_1) (by intro x hx; obtain ⟨a, _, rfl⟩ := List.mem_map.1 hx; rfl) rfl _ (fun _ _ _ _ => False) ([b5]) (stb_mk (α := Int) (fun a5 rk => itL cover_Storage_R1 cover_Storage_D1 (List.drop rk l3) a5 = some r) (fun a5 => ([b5])) (fun a5 W => Bx W b5 3 ([.int .i64 a5]) ∧ True) (by rintro a5 W ⟨F0, _⟩ b hb; have q0 := F0.lt; replace hb : b ∈ ([b5]) := hb; simp only [List.mem_cons, List.mem_append, mem_zf, List.not_mem_nil, or_false, false_or, not_or, ne_eq, List.nil_append, List.cons_append, true_and, and_true, false_and, and_false, not_true_eq_false, not_false_eq_true, or_true, true_or] at hb; omega) (by rintro a5 W W' ⟨F0, _⟩ E hs; replace hs : ∀ b ∈ ([b5]), W'.heap[b]? = W.heap[b]? := hs; exact ⟨(hs _ (by simp)).trans F0, trivial⟩)) (fun _ => stb_false) (by intro b hb; simp only [List.mem_cons, List.mem_append, mem_zf, List.not_mem_nil, or_false, false_or, not_or, ne_eq, List.nil_append, List.cons_append, true_and, and_true, false_and, and_false, not_true_eq_false, not_false_eq_true, or_true, true_or] at hb ⊢; omega) ⟨0, hm, rfl, B18, trivial⟩ ?_ ?_ ?_
    · rintro l rk x fp w8 hl hx _ Kw8 hF hln hlt
      clear hm
      obtain ⟨⟨e6, e7⟩, hxe, rfl⟩ := map_some hx
      have Zw8 : Kz [(1, b5)] w7 w8 := kz_of_kp Kw8 (by intro k hk; simp only [Nin, and_true, List.mem_cons, List.mem_append, mem_zf, List.not_mem_nil, or_false, false_or, not_or, ne_eq, List.nil_append, List.cons_append, true_and, and_true, false_and, and_false, not_true_eq_false, not_false_eq_true, or_true, true_or] at hk ⊢; omega)
      have z19 := Kw8.size
      refine sw_skip ?_
      refine ⟨rfl, (Gr.refl _), ?_⟩
      rintro w9 Mw9 ⟨a5, hm, rfl, Fw9_0, -⟩
      have z20 := Mw9.size
      have lt21 := Fw9_0.lt
      replace hm := itL_at hm hxe
      generalize hnx1 : itL cover_Storage_R1 cover_Storage_D1 (List.drop (rk + 1) l3) = nx1 at hm
      unfold cover_Storage_R1 at hm
      try dsimp only at hm
      refine sw_block ?_
      -- region 6 cover.go:141
      refine sw_region [(0, 0), (1, 0), (2, 0)] rfl rfl rfl ?_
      refine sd_vv rfl rfl rfl (vv_load1 (v := .int .i64 a5) one_3 rfl Fw9_0 rfl) ?_
      refine sd_vv rfl rfl rfl (vv_add (k := .i64) (a := a5) (b := 1) rfl rfl) ?_
      refine sd_ev rfl rfl rfl (ev_st1 (cs' := [.int .i64 (w64 (a5 + 1))]) (one_3).siz rfl rfl rfl Fw9_0 rfl rfl) ?_
      rintro _ w10 ⟨Bw10, Mw10⟩
      have z22 := Mw10.size
      refine sd_nil ?_
      refine block_n ?_
      have K_23 : Kz [(1, b5)] w9 w10 := (Kz.md (Kz.refl _ _) Mw10)
      have Kq23 : Kp ([b5]) w9 w10 := kp_of_kz K_23 (by intro k hk; simp only [Nin, and_true, List.mem_cons, List.mem_append, mem_zf, List.not_mem_nil, or_false, false_or, not_or, ne_eq, List.nil_append, List.cons_append, true_and, and_true, false_and, and_false, not_true_eq_false, not_false_eq_true, or_true, true_or] at hk ⊢; omega)
      subst hnx1
      exact ⟨Kq23, ([b5]), (by intro c hc; simp only [List.mem_cons, List.mem_append, mem_zf, List.not_mem_nil, or_false, false_or, not_or, ne_eq, List.nil_append, List.cons_append, true_and, and_true, false_and, and_false, not_true_eq_false, not_false_eq_true, or_true, true_or] at hc ⊢; omega), ⟨w64 (a5 + 1), hm, rfl, Bw10, trivial⟩⟩
    · clear hm; rintro Dw11 fp w11 hDw11 Dfw11 nw11 ⟨a5, hm, rfl, Fw11_0, -⟩ Kw11
      replace hm := itL_end hm
      have Zw11 : Kz [(1, b5)] w7 w11 := kz_of_kp Kw11 (by intro k hk; simp only [Nin, and_true, List.mem_cons, List.mem_append, mem_zf, List.not_mem_nil, or_false, false_or, not_or, ne_eq, List.nil_append, List.cons_append, true_and, and_true, false_and, and_false, not_true_eq_false, not_false_eq_true, or_true, true_or] at hk ⊢; omega)
      have z24 := Kw11.size
      have lt25 := Df.lt (w := w11) Dfw11
      simp only [List.mem_cons, List.mem_append, mem_zf, List.not_mem_nil, or_false, false_or, not_or, ne_eq, List.nil_append, List.cons_append, true_and, and_true, false_and, and_false, not_true_eq_false, not_false_eq_true, or_true, true_or, not_and] at nw11
      have lt26 := Fw11_0.lt
      unfold cover_Storage_D1 at hm
      try dsimp only at hm
      refine block_n ?_
      refine then_n ?_
      refine sw_seq ?_
      -- region 7 cover.go:143
      refine sw_region [(0, 0), (1, 0), (2, 0)] rfl rfl rfl ?_
      refine sd_vv rfl rfl rfl (vv_load1 (v := .int .i64 a5) one_3 rfl Fw11_0 rfl) ?_
      refine sd_vv rfl rfl rfl (vv_assign rfl) ?_
      refine sd_vv rfl rfl rfl (vv_assign rfl) ?_
      refine sd_done ?_
      refine sw_ret ?_
      have DL27 := Dfw11
      have L27 := Md.put (w := w11) Dw11 (.deferred none)
      have zL27 := L27.size
      have X28 : Gr w (w11.putObj Dw11 (.deferred none)) := (Gr.md (Gr.kz X15 Zw11) L27)
      have hr := Option.some.inj hm
      subst hr
      refine ⟨_, _, ⟨Dw11, rfl, DL27, rfl⟩, res_2 rfl (rv_tmp rfl) (rv_tmp rfl), ?_⟩
      exact ⟨rfl, X28⟩
    · rintro _ _ _ _ _ _ _ _ _ h _
      exact h.elim

set_option maxHeartbeats 2000000 in
theorem ref03_LabelsOf_w (p0 : TScheme) (p1 : Int)  (r : List TSubset) (hm : ref03_LabelsOf p0 p1 = some r) (w : World)   :
    Calls Try.prog 83 [.agg (TScheme.cs p0).toArray, .int .i64 p1].toArray w fun e w' => ∃ v, e = .returned v ∧ (∃ (ur0_s : Value) (zr0_s : Nat) (gr0_s : Nat), v = ur0_s ∧ Own w' zr0_s gr0_s 47 2 ur0_s (r.map TSubset.cs) ∧ Hdn (zr0_s = 0 ∨ w.heap.size ≤ gr0_s) ∧ Gr w w') := by
  unfold ref03_LabelsOf at hm
  refine calls_of_sw (R := fun v w' => ∃ (ur0_s : Value) (zr0_s : Nat) (gr0_s : Nat), v = ur0_s ∧ Own w' zr0_s gr0_s 47 2 ur0_s (r.map TSubset.cs) ∧ Hdn (zr0_s = 0 ∨ w.heap.size ≤ gr0_s) ∧ Gr w w') 71 Try.func83 rfl rfl rfl ?_
  refine sw_seq ?_
  -- region 0 ref.go:308
  refine sw_region [(0, 0), (1, 0)] rfl rfl rfl ?_
  refine sd_ev rfl rfl rfl (ev_box (cs := TScheme.cs p0) rfl rfl) ?_
  rintro _ w1 ⟨b1, rfl, hbw1, Bw1, Gw1⟩
  have z1 := Gw1.size
  have lt2 := Bw1.lt
  refine sd_vv rfl rfl rfl (vv_assign rfl) ?_
  refine sd_done ?_
  refine sw_seq ?_
  -- region 1 ref.go:309
  refine sw_region [(0, 0)] rfl rfl rfl ?_
  refine sd_vv rfl rfl rfl (vv_assign rfl) ?_
  refine sd_done ?_
  refine sw_seq ?_
  -- region 2 ref.go:310
  refine sw_region [(0, 0), (1, 0), (2, 0), (3, 0), (4, 0), (5, 0), (6, 0)] rfl rfl rfl ?_
  refine sd_vv rfl rfl rfl (vv_fieldAddr fa_45_1 rfl) ?_
  refine sd_vv rfl rfl rfl (vv_load1 (v := .int .i64 p0.Depth) one_3 rfl Bw1 rfl) ?_
  have hb := bnd hm; clear hm; obtain ⟨x1, hx1, hm⟩ := hb
  refine sd_ev rfl rfl rfl (ev_call en_118 rfl (ref03_Receivers_w p0.Depth _ hx1 _)) ?_
  rintro _ w2 ⟨rfl, Gw2⟩
  have z3 := Gw2.size
  refine sd_vv rfl rfl rfl (vv_move rfl) ?_
  refine sd_vv rfl rfl rfl (vv_add (k := .i64) (a := x1) (b := p1) rfl rfl) ?_
  have hb := bnd hm; clear hm; obtain ⟨x2, hx2, hm⟩ := hb
  refine sd_ev rfl rfl rfl (ev_call en_108 rfl (ref03_Path_w 1 (w64 (x1 + p1)) _ hx2 _)) ?_
  rintro u3_r0_s w3 ⟨_, z3_r0_s, g3_r0_s, rfl, O3_r0_s, f3_r0_s, Gw3⟩
  have z4 := Gw3.size
  have lt5 := O3_r0_s.lth
  refine sd_vv rfl rfl rfl (vv_assign rfl) ?_
  refine sd_done ?_
  refine sw_seq ?_
  refine sw_seq ?_
  -- region 3 ref.go:311
  refine sw_region [(0, 0), (1, 0), (2, 0)] rfl rfl rfl ?_
  refine sd_vv rfl rfl rfl (vv_fieldAddr fa_45_0 rfl) ?_
  have B6 := (Bx.gr (Bx.gr Bw1 Gw2) Gw3)
  refine sd_vv rfl rfl rfl (vv_load1 (v := bv p0.Kind) one_5 rfl B6 rfl) ?_
  refine sd_vv rfl rfl rfl (vv_eqlB (p := p0.Kind) (q := 1#8) rfl rfl) ?_
  refine sd_done ?_
  refine sw_cond rfl (fun c1 => ?_) (fun c1 => ?_)
  ·
    replace hm := ite_t (of_decide_eq_true c1) hm
    refine sw_seq ?_
    refine sw_seq ?_
    -- region 4 ref.go:312
    refine sw_region [(0, 0)] rfl rfl rfl ?_
    refine sd_vv rfl rfl rfl (vv_assign rfl) ?_
    refine sd_done ?_
    refine sw_block ?_
    have X7 : Gr w w3 := (Gr.trans (Gr.trans (Gr.trans (Gr.refl w) Gw1) Gw2) Gw3)
    refine sw_loopD (α := Nat × List TSubset × Int × Value × Nat × Nat) [5, 7, 20, 21, 22, 23, 24, 25, 26, 27, 28, 29, 30, 31, 32, 33] (fun ⟨n1, a6, a8, vy7, zy7, gy7⟩ => [(5, vy7), (7, .int .i64 a8)]) (fun ⟨n1, a6, a8, vy7, zy7, gy7⟩ wr => (fixN (ref03_LabelsOf_L1 x2) n1 (a6, a8) = some r) ∧ Own wr zy7 gy7 47 2 vy7 (a6.map TSubset.cs) ∧ Hdn (zy7 = 0 ∨ w3.heap.size ≤ gy7) ∧ Kz [] w3 wr) (fun ⟨n1, a6, a8, vy7, zy7, gy7⟩ => n1) ⟨FUEL, [], 0, (.slice none 0 0), 0, 0⟩ ?_ ?_ ?_
    · repeat' first | exact trivial | refine ⟨rfl, ?_⟩
    · exact ⟨hm, (own_nil _ 0 47 2), ⟨(.inl rfl)⟩, Kz.refl _ _⟩
    · clear hm; rintro ⟨n1, a6, a8, vy7, zy7, gy7⟩ w4 ⟨hm, Fw4_0, Fw4_1, Kw4⟩
      have z8 := Kw4.size
      have lt9 := Fw4_0.lth
      have hb := fix_succ hm; clear hm; obtain ⟨n1, rfl, hm⟩ := hb
      generalize hrec1 : fixN (ref03_LabelsOf_L1 x2) n1 = rec1 at hm
      unfold ref03_LabelsOf_L1 at hm
      try dsimp only at hm
      refine sw_seq ?_
      refine sw_seq ?_
      -- region 5 ref.go:312
      refine sw_region [(0, 0), (1, 0), (2, 0), (3, 0)] rfl rfl rfl ?_
      refine sd_vv rfl rfl rfl (vv_move rfl) ?_
      refine sd_vv rfl rfl rfl (vv_move rfl) ?_
      have B10 := (Own.kz O3_r0_s Kw4)
      refine sd_vv rfl rfl rfl (vv_lenT (l := x2) (c := ic) Try.underlying61 rfl (Own.rd B10)) ?_
      refine sd_vv rfl rfl rfl (vv_lss (a := a8) (b := (x2.length : Int)) rfl rfl) ?_
      refine sd_done ?_
      refine sw_cond rfl (fun c2 => ?_) (fun c2 => ?_)
      ·
        replace hm := ite_t (of_decide_eq_true c2) hm
        refine sw_skip ?_
        refine then_n ?_
        refine sw_seq ?_
        refine sw_block ?_
        -- region 7 ref.go:313
        refine sw_region [(0, 0), (1, 0), (2, 0), (3, 0), (4, 0), (5, 0), (6, 0), (7, 0), (8, 0)] rfl rfl rfl ?_
        refine sd_vv rfl rfl rfl (vv_move rfl) ?_
        refine sd_vv rfl rfl rfl (vv_move rfl) ?_
        refine sd_vv rfl rfl rfl (vv_move rfl) ?_
        have hb := bnd hm; clear hm; obtain ⟨y9, hy9, hm⟩ := hb
        refine sd_vv rfl rfl rfl (vv_ixT (i := a8) Try.underlying61 (one_3).siz rfl (Own.rd B10) rfl hy9) ?_
        refine sd_vv rfl rfl rfl (vv_el1T (q := 0) (u := .int .i64 y9) one_3 rfl (Own.rd B10) hy9 (by first | rfl | omega) rfl) ?_
        refine sd_vv rfl rfl rfl (vv_build (cs := TSubset.cs (TSubset.mk y9 0)) bs_47 rfl rfl) ?_
        refine sd_ev rfl rfl rfl (ev_litT [(TSubset.mk y9 0)] TSubset.cs bsl_48_1 rfl rfl (ws_of rfl) rfl rfl rfl) ?_
        rintro vw5 w5 ⟨gw5, hbw5, Ow5, Gw5⟩
        have z11 := Gw5.size
        have lt12 := Ow5.lth
        have B13 := (Own.gr Fw4_0 Gw5)
        have hb := bnd hm; clear hm; obtain ⟨l10, hl10, hm⟩ := hb
        refine sd_ev rfl rfl rfl (ev_appT (l := a6) (m := [(TSubset.mk y9 0)]) (c := TSubset.cs) apt_48 rfl rfl B13 (Own.rd Ow5) hl10 (by decide)) ?_
        rintro vw6 w6 ⟨zw6, gw6, Ow6, Aw6, qw6, rw6⟩
        have z14 := Aw6.size
        refine sd_vv rfl rfl rfl (vv_assign rfl) ?_
        refine sd_nil ?_
        refine block_n ?_
        refine then_n ?_
        -- region 6 ref.go:312
        refine sw_region [(0, 0), (1, 0), (2, 0)] rfl rfl rfl ?_
        refine sd_vv rfl rfl rfl (vv_move rfl) ?_
        refine sd_vv rfl rfl rfl (vv_add (k := .i64) (a := a8) (b := 1) rfl rfl) ?_
        refine sd_vv rfl rfl rfl (vv_assign rfl) ?_
        refine sd_nil ?_
        have K_15 : Kz [] w3 w6 := (Kz.ka (Kz.gr Kw4 Gw5) Aw6 (tk1 ((pv_0 (A := (fun x => w3.heap.size ≤ x)) Fw4_1) : zy7 = 0 ∨ w3.heap.size ≤ gy7)))
        subst hrec1
        refine ⟨rfl, ⟨n1, l10, w64 (a8 + 1), vw6, zw6, gw6⟩, ?_, ⟨hm, Ow6, ⟨(pv_app (A := (fun x => w3.heap.size ≤ x)) rw6 (pv_0 (A := (fun x => w3.heap.size ≤ x)) Fw4_1))⟩, K_15⟩, Nat.lt_succ_self _⟩
        repeat' first | exact trivial | refine ⟨rfl, ?_⟩
      ·
        replace hm := ite_f (of_decide_eq_false c2) hm
        refine sw_exit ?_
        refine then_x ?_
        refine then_x ?_
        refine block_x ?_
        refine then_n ?_
        refine sw_seq ?_
        -- region 8 ref.go:315
        refine sw_region [(0, 0), (1, 0)] rfl rfl rfl ?_
        refine sd_vv rfl rfl rfl (vv_move rfl) ?_
        refine sd_vv rfl rfl rfl (vv_assign rfl) ?_
        refine sd_done ?_
        refine sw_ret ?_
        refine then_r ?_
        have X16 : Gr w w4 := (Gr.kz X7 Kw4)
        have hr := Option.some.inj hm
        subst hr
        refine ⟨_, _, rfl, res_1 rfl (rv_tmp rfl), ?_⟩
        exact ⟨vy7, zy7, gy7, rfl, Fw4_0, ⟨(pv_0 (A := (fun x => w.heap.size ≤ x)) Fw4_1)⟩, X16⟩
  ·
    replace hm := ite_f (of_decide_eq_false c1) hm
    refine sw_skip ?_
    refine then_n ?_
    refine sw_seq ?_
    -- region 9 ref.go:317
    refine sw_region [(0, 0), (1, 0), (2, 0), (3, 0), (4, 0)] rfl rfl rfl ?_
    refine sd_vv rfl rfl rfl (vv_move rfl) ?_
    refine sd_vv rfl rfl rfl (vv_build (cs := TSubset.cs (TSubset.mk 1 0)) bs_47 rfl rfl) ?_
    refine sd_ev rfl rfl rfl (ev_litT [(TSubset.mk 1 0)] TSubset.cs bsl_48_1 rfl rfl (ws_of rfl) rfl rfl rfl) ?_
    rintro vw7 w7 ⟨gw7, hbw7, Ow7, Gw7⟩
    have z17 := Gw7.size
    have lt18 := Ow7.lth
    have hb := bnd hm; clear hm; obtain ⟨l11, hl11, hm⟩ := hb
    refine sd_ev rfl rfl rfl (ev_appT (l := ([] : List TSubset)) (m := [(TSubset.mk 1 0)]) (c := TSubset.cs) apt_48 rfl rfl (own_nil _ 0 47 2) (Own.rd Ow7) hl11 (by decide)) ?_
    rintro vw8 w8 ⟨zw8, gw8, Ow8, Aw8, qw8, rw8⟩
    have z19 := Aw8.size
    refine sd_vv rfl rfl rfl (vv_assign rfl) ?_
    refine sd_done ?_
    refine sw_seq ?_
    refine sw_seq ?_
    -- region 10 ref.go:318
    refine sw_region [(0, 0)] rfl rfl rfl ?_
    refine sd_vv rfl rfl rfl (vv_assign rfl) ?_
    refine sd_done ?_
    refine sw_block ?_
    have X20 : Gr w w8 := (Gr.ka (Gr.trans (Gr.trans (Gr.trans (Gr.trans (Gr.refl w) Gw1) Gw2) Gw3) Gw7) Aw8)
    have B21 := (Own.ka (Own.gr O3_r0_s Gw7) Aw8)
    have B22 := (Own.ka Ow7 Aw8)
    refine sw_loopD (α := Nat × List TSubset × Int × Value × Nat × Nat) [5, 8, 9, 10, 39, 40, 41, 42, 43, 44, 45, 46, 47, 48, 49, 50, 51, 52, 53, 54, 55, 56, 57, 58, 59, 60, 61, 62, 63, 64, 65, 66, 67, 68, 69] (fun ⟨n2, a15, a17, vy16, zy16, gy16⟩ => [(5, vy16), (8, .int .i64 a17)]) (fun ⟨n2, a15, a17, vy16, zy16, gy16⟩ wr => (fixN (ref03_LabelsOf_L2 p0 x2) n2 (a15, a17) = some r) ∧ Own wr zy16 gy16 47 2 vy16 (a15.map TSubset.cs) ∧ Hdn (zy16 = 0 ∨ (gy16 = gw8 ∧ zw8 ≠ 0) ∨ w8.heap.size ≤ gy16) ∧ Kz [(zw8, gw8)] w8 wr) (fun ⟨n2, a15, a17, vy16, zy16, gy16⟩ => n2) ⟨FUEL, l11, 0, vw8, zw8, gw8⟩ ?_ ?_ ?_
    · repeat' first | exact trivial | refine ⟨rfl, ?_⟩
    · exact ⟨hm, Ow8, ⟨tk0⟩, Kz.refl _ _⟩
    · clear hm; rintro ⟨n2, a15, a17, vy16, zy16, gy16⟩ w9 ⟨hm, Fw9_0, Fw9_1, Kw9⟩
      have z23 := Kw9.size
      have lt24 := Fw9_0.lth
      have hb := fix_succ hm; clear hm; obtain ⟨n2, rfl, hm⟩ := hb
      generalize hrec2 : fixN (ref03_LabelsOf_L2 p0 x2) n2 = rec2 at hm
      unfold ref03_LabelsOf_L2 at hm
      try dsimp only at hm
      refine sw_seq ?_
      refine sw_seq ?_
      -- region 11 ref.go:318
      refine sw_region [(0, 0), (1, 0), (2, 0), (3, 0)] rfl rfl rfl ?_
      refine sd_vv rfl rfl rfl (vv_move rfl) ?_
      refine sd_vv rfl rfl rfl (vv_move rfl) ?_
      have B25 := (Own.kz B21 Kw9 (tk1 ((pv_sw (pv_app (A := (fun x => z3_r0_s = 0 ∨ x ≠ g3_r0_s)) rw8 (.inl rfl) (fun x hx => (tk1 lt5.o)))) : z3_r0_s = 0 ∨ zw8 = 0 ∨ g3_r0_s ≠ gw8)))
      refine sd_vv rfl rfl rfl (vv_lenT (l := x2) (c := ic) Try.underlying61 rfl (Own.rd B25)) ?_
      refine sd_vv rfl rfl rfl (vv_lss (a := a17) (b := (x2.length : Int)) rfl rfl) ?_
      refine sd_done ?_
      refine sw_cond rfl (fun c3 => ?_) (fun c3 => ?_)
      ·
        replace hm := ite_t (of_decide_eq_true c3) hm
        refine sw_skip ?_
        refine then_n ?_
        refine sw_seq ?_
        refine sw_block ?_
        refine sw_seq ?_
        -- region 13 ref.go:319
        refine sw_region [(0, 0), (1, 0), (2, 0)] rfl rfl rfl ?_
        refine sd_vv rfl rfl rfl (vv_move rfl) ?_
        refine sd_vv rfl rfl rfl (vv_add (k := .i64) (a := a17) (b := 1) rfl rfl) ?_
        refine sd_vv rfl rfl rfl (vv_assign rfl) ?_
        refine sd_done ?_
        refine sw_block ?_
        have X26 : Gr w w9 := (Gr.kz X20 Kw9 (tk1 ((pv_app (A := (fun x => w.heap.size ≤ x)) rw8 (.inl rfl)) : zw8 = 0 ∨ w.heap.size ≤ gw8)))
        have B27 := (Own.kz B22 Kw9 (tk1 ((pv_sw (pv_app (A := (fun x => 1 = 0 ∨ x ≠ gw7)) rw8 (.inl rfl) (fun x hx => (tk1 lt18.o)))) : 1 = 0 ∨ zw8 = 0 ∨ gw7 ≠ gw8)))
        refine sw_loopD (α := Nat × List TSubset × Int × Value × Nat × Nat) [5, 9, 10, 47, 48, 49, 50, 51, 52, 53, 54, 55, 56, 57, 58, 59, 60, 61, 62, 63, 64, 65, 66, 67, 68, 69] (fun ⟨n3, a21, a23, vy22, zy22, gy22⟩ => [(5, vy22), (9, .int .i64 a23)]) (fun ⟨n3, a21, a23, vy22, zy22, gy22⟩ wr => (fixN (ref03_LabelsOf_L3 p0 x2 a17 rec2) n3 (a21, a23) = some r) ∧ Own wr zy22 gy22 47 2 vy22 (a21.map TSubset.cs) ∧ Hdn (zy22 = 0 ∨ (gy22 = gy16 ∧ zy16 ≠ 0) ∨ w9.heap.size ≤ gy22) ∧ Kz [(zy16, gy16)] w9 wr) (fun ⟨n3, a21, a23, vy22, zy22, gy22⟩ => n3) ⟨FUEL, a15, w64 (a17 + 1), vy16, zy16, gy16⟩ ?_ ?_ ?_
        · repeat' first | exact trivial | refine ⟨rfl, ?_⟩
        · exact ⟨hm, Fw9_0, ⟨tk0⟩, Kz.refl _ _⟩
        · clear hm; rintro ⟨n3, a21, a23, vy22, zy22, gy22⟩ w10 ⟨hm, Fw10_0, Fw10_1, Kw10⟩
          have z28 := Kw10.size
          have lt29 := Fw10_0.lth
          have hb := fix_succ hm; clear hm; obtain ⟨n3, rfl, hm⟩ := hb
          generalize hrec3 : fixN (ref03_LabelsOf_L3 p0 x2 a17 rec2) n3 = rec3 at hm
          unfold ref03_LabelsOf_L3 at hm
          try dsimp only at hm
          refine sw_seq ?_
          refine sw_seq ?_
          -- region 14 ref.go:319
          refine sw_region [(0, 0), (1, 0), (2, 0), (3, 0)] rfl rfl rfl ?_
          refine sd_vv rfl rfl rfl (vv_move rfl) ?_
          refine sd_vv rfl rfl rfl (vv_move rfl) ?_
          have B30 := (Own.kz B25 Kw10 (tk1 ((pv_sw (pv_1 (A := (fun x => z3_r0_s = 0 ∨ x ≠ g3_r0_s)) Fw9_1 (pv_app (A := (fun x => z3_r0_s = 0 ∨ x ≠ g3_r0_s)) rw8 (.inl rfl) (fun x hx => (tk1 lt5.o))) (fun x hx => (tk1 lt5.o)))) : z3_r0_s = 0 ∨ zy16 = 0 ∨ g3_r0_s ≠ gy16)))
          refine sd_vv rfl rfl rfl (vv_lenT (l := x2) (c := ic) Try.underlying61 rfl (Own.rd B30)) ?_
          refine sd_vv rfl rfl rfl (vv_lss (a := a23) (b := (x2.length : Int)) rfl rfl) ?_
          refine sd_done ?_
          refine sw_cond rfl (fun c4 => ?_) (fun c4 => ?_)
          ·
            replace hm := ite_t (of_decide_eq_true c4) hm
            refine sw_skip ?_
            refine then_n ?_
            refine sw_seq ?_
            refine sw_block ?_
            refine sw_seq ?_
            -- region 16 ref.go:320 DRAWS
            refine sw_drawN [([])] [] (.leaf [(0, 10), (1, 10), (2, 10), (3, 10), (4, 10), (5, 10), (6, 10), (7, 10), (8, 10), (9, 10), (10, 0), (11, 0)]) (by kernel_rfl) (by kernel_rfl) rfl (by kernel_rfl) ?_
            intro w11 Gw11 zw11
            refine sdz_leaf ?_
            refine dd_hn 0 rfl rfl rfl rfl (Kp.refl ([]) w11) (fun w hS => vv_move rfl) ?_
            refine dd_hn 0 rfl rfl rfl rfl (Kp.refl ([]) w11) (fun w hS => vv_move rfl) ?_
            have hb := bnd hm; clear hm; obtain ⟨y24, hy24, hm⟩ := hb
            have B31 := (Own.gr B30 Gw11)
            refine dd_hn 0 rfl rfl rfl rfl (Kp.refl ([]) w11) (fun w hS => vv_ixT (i := a17) Try.underlying61 (one_3).siz rfl (Own.rd (Own.kp B31 hS)) rfl hy24) ?_
            refine dd_hn 0 rfl rfl rfl rfl (Kp.refl ([]) w11) (fun w hS => vv_el1T (q := 0) (u := .int .i64 y24) one_3 rfl (Own.rd (Own.kp B31 hS)) hy24 (by first | rfl | omega) rfl) ?_
            refine dd_hn 0 rfl rfl rfl rfl (Kp.refl ([]) w11) (fun w hS => vv_move rfl) ?_
            refine dd_hn 0 rfl rfl rfl rfl (Kp.refl ([]) w11) (fun w hS => vv_move rfl) ?_
            have hb := bnd hm; clear hm; obtain ⟨y25, hy25, hm⟩ := hb
            refine dd_hn 0 rfl rfl rfl rfl (Kp.refl ([]) w11) (fun w hS => vv_ixT (i := a23) Try.underlying61 (one_3).siz rfl (Own.rd (Own.kp B31 hS)) rfl hy25) ?_
            refine dd_hn 0 rfl rfl rfl rfl (Kp.refl ([]) w11) (fun w hS => vv_el1T (q := 0) (u := .int .i64 y25) one_3 rfl (Own.rd (Own.kp B31 hS)) hy25 (by first | rfl | omega) rfl) ?_
            refine dd_hn 0 rfl rfl rfl rfl (Kp.refl ([]) w11) (fun w hS => vv_bitI (a := y25) (b := 1) (by simp) rfl rfl) ?_
            refine dd_hn 0 rfl rfl rfl rfl (Kp.refl ([]) w11) (fun w hS => vv_build (cs := TSubset.cs (TSubset.mk y24 (bitI .xor y25 1))) bs_47 rfl rfl) ?_
            refine dd_z [] rfl rfl rfl (ev_alloc (cs := TSubset.cs (TSubset.mk 0 0)) zv_47 rfl) ⟨fun _ => tk0, trivial⟩ ?_
            rintro _ w12 ⟨b12, rfl, hbw12, Bw12, Gw12⟩
            have z32 := Gw12.size
            have lt33 := Bw12.lt
            refine ⟨Kz.ofGr Gw12, ?_⟩
            refine dd_z [(1, b12)] rfl rfl rfl (ev_stM (cs' := TSubset.cs (TSubset.mk y24 (bitI .xor y25 1))) (vs := TSubset.cs (TSubset.mk y24 (bitI .xor y25 1))) (agg_47).siz rfl rfl rfl rfl rfl Bw12 rfl rfl) ⟨fun _ => tk0, trivial⟩ ?_
            rintro _ w13 ⟨Bw13, Mw13⟩
            have z34 := Mw13.size
            refine ⟨Kz.ofMd Mw13, ?_⟩
            refine sd_done ?_
            refine sw_seq ?_
            -- region 17 ref.go:321
            refine sw_region [(0, 0), (1, 0), (2, 0)] rfl rfl rfl ?_
            have B35 := (Bx.md (Bx.gr (Bx.gr (Bx.kz (Bx.kz (Bx.ka (Bx.gr B6 Gw7) Aw8) Kw9 (tk1 ((pv_app (A := (fun x => x ≠ b1)) rw8 (.inl rfl)) : zw8 = 0 ∨ gw8 ≠ b1))) Kw10 (tk1 ((pv_1 (A := (fun x => x ≠ b1)) Fw9_1 (pv_app (A := (fun x => x ≠ b1)) rw8 (.inl rfl))) : zy16 = 0 ∨ gy16 ≠ b1))) Gw11) Gw12) Mw13)
            refine sd_vv rfl rfl rfl (vv_loadW agg_45 rfl B35 rfl) ?_
            refine sd_vv rfl rfl rfl (vv_loadW agg_47 rfl Bw13 rfl) ?_
            have hb := bnd hm; clear hm; obtain ⟨x26, hx26, hm⟩ := hb
            refine sd_ev rfl rfl rfl (ev_call en_62 rfl (ref03_IsSubset_w p0 (TSubset.mk y24 (bitI .xor y25 1)) _ hx26 _)) ?_
            rintro _ w14 ⟨rfl, Gw14⟩
            have z36 := Gw14.size
            refine sd_done ?_
            refine sw_cond rfl (fun c5 => ?_) (fun c5 => ?_)
            ·
              replace hm := cnd_t c5 hm
              -- region 18 ref.go:322
              refine sw_region [(0, 0), (1, 0), (2, 0), (3, 0), (4, 0)] rfl rfl rfl ?_
              refine sd_vv rfl rfl rfl (vv_move rfl) ?_
              have B37 := (Bx.gr Bw13 Gw14)
              refine sd_vv rfl rfl rfl (vv_loadW agg_47 rfl B37 rfl) ?_
              refine sd_ev rfl rfl rfl (ev_litT [(TSubset.mk y24 (bitI .xor y25 1))] TSubset.cs bsl_48_1 rfl rfl (ws_of rfl) rfl rfl rfl) ?_
              rintro vw15 w15 ⟨gw15, hbw15, Ow15, Gw15⟩
              have z38 := Gw15.size
              have lt39 := Ow15.lth
              have B40 := (Own.gr (Own.gr (Own.md (Own.gr (Own.gr Fw10_0 Gw11) Gw12) Mw13 (tk1 ((pv_lt (A := (fun x => x ≠ b12)) lt29) : zy22 = 0 ∨ gy22 ≠ b12))) Gw14) Gw15)
              have hb := bnd hm; clear hm; obtain ⟨l27, hl27, hm⟩ := hb
              refine sd_ev rfl rfl rfl (ev_appT (l := a21) (m := [(TSubset.mk y24 (bitI .xor y25 1))]) (c := TSubset.cs) apt_48 rfl rfl B40 (Own.rd Ow15) hl27 (by decide)) ?_
              rintro vw16 w16 ⟨zw16, gw16, Ow16, Aw16, qw16, rw16⟩
              have z41 := Aw16.size
              refine sd_vv rfl rfl rfl (vv_assign rfl) ?_
              refine sd_nil ?_
              refine block_n ?_
              refine then_n ?_
              -- region 15 ref.go:319
              refine sw_region [(0, 0), (1, 0), (2, 0)] rfl rfl rfl ?_
              refine sd_vv rfl rfl rfl (vv_move rfl) ?_
              refine sd_vv rfl rfl rfl (vv_add (k := .i64) (a := a23) (b := 1) rfl rfl) ?_
              refine sd_vv rfl rfl rfl (vv_assign rfl) ?_
              refine sd_nil ?_
              have K_42 : Kz [(zy16, gy16)] w9 w16 := (Kz.ka (Kz.gr (Kz.gr (Kz.md (Kz.gr (Kz.gr Kw10 Gw11) Gw12) Mw13) Gw14) Gw15) Aw16 (tk1 ((pv_1 (A := (fun x => (x = gy16 ∧ zy16 ≠ 0) ∨ w9.heap.size ≤ x)) Fw10_1 tk0) : zy22 = 0 ∨ (gy22 = gy16 ∧ zy16 ≠ 0) ∨ w9.heap.size ≤ gy22)))
              subst hrec3
              refine ⟨rfl, ⟨n3, l27, w64 (a23 + 1), vw16, zw16, gw16⟩, ?_, ⟨hm, Ow16, ⟨(pv_app (A := (fun x => (x = gy16 ∧ zy16 ≠ 0) ∨ w9.heap.size ≤ x)) rw16 (pv_1 (A := (fun x => (x = gy16 ∧ zy16 ≠ 0) ∨ w9.heap.size ≤ x)) Fw10_1 tk0))⟩, K_42⟩, Nat.lt_succ_self _⟩
              repeat' first | exact trivial | refine ⟨rfl, ?_⟩
            ·
              replace hm := cnd_f c5 hm
              refine sw_skip ?_
              refine block_n ?_
              refine then_n ?_
              -- region 15 ref.go:319
              refine sw_region [(0, 0), (1, 0), (2, 0)] rfl rfl rfl ?_
              refine sd_vv rfl rfl rfl (vv_move rfl) ?_
              refine sd_vv rfl rfl rfl (vv_add (k := .i64) (a := a23) (b := 1) rfl rfl) ?_
              refine sd_vv rfl rfl rfl (vv_assign rfl) ?_
              refine sd_nil ?_
              have K_43 : Kz [(zy16, gy16)] w9 w14 := (Kz.gr (Kz.md (Kz.gr (Kz.gr Kw10 Gw11) Gw12) Mw13) Gw14)
              have B44 := (Own.gr (Own.md (Own.gr (Own.gr Fw10_0 Gw11) Gw12) Mw13 (tk1 ((pv_lt (A := (fun x => x ≠ b12)) lt29) : zy22 = 0 ∨ gy22 ≠ b12))) Gw14)
              subst hrec3
              refine ⟨rfl, ⟨n3, a21, w64 (a23 + 1), vy22, zy22, gy22⟩, ?_, ⟨hm, B44, ⟨(pv_1 (A := (fun x => (x = gy16 ∧ zy16 ≠ 0) ∨ w9.heap.size ≤ x)) Fw10_1 tk0)⟩, K_43⟩, Nat.lt_succ_self _⟩
              repeat' first | exact trivial | refine ⟨rfl, ?_⟩
          ·
            replace hm := ite_f (of_decide_eq_false c4) hm
            refine sw_exit ?_
            refine then_x ?_
            refine then_x ?_
            refine block_x ?_
            refine block_n ?_
            refine then_n ?_
            -- region 12 ref.go:318
            refine sw_region [(0, 0), (1, 0), (2, 0)] rfl rfl rfl ?_
            refine sd_vv rfl rfl rfl (vv_move rfl) ?_
            refine sd_vv rfl rfl rfl (vv_add (k := .i64) (a := a17) (b := 1) rfl rfl) ?_
            refine sd_vv rfl rfl rfl (vv_assign rfl) ?_
            refine sd_nil ?_
            have K_45 : Kz [(zw8, gw8)] w8 w10 := (Kz.kz Kw9 Kw10 (tk1 ((pv_1 (A := (fun x => (x = gw8 ∧ zw8 ≠ 0) ∨ w8.heap.size ≤ x)) Fw9_1 tk0) : zy16 = 0 ∨ (gy16 = gw8 ∧ zw8 ≠ 0) ∨ w8.heap.size ≤ gy16)))
            subst hrec2
            refine ⟨rfl, ⟨n2, a21, w64 (a17 + 1), vy22, zy22, gy22⟩, ?_, ⟨hm, Fw10_0, ⟨(pv_1 (A := (fun x => (x = gw8 ∧ zw8 ≠ 0) ∨ w8.heap.size ≤ x)) Fw10_1 (pv_1 (A := (fun x => (x = gw8 ∧ zw8 ≠ 0) ∨ w8.heap.size ≤ x)) Fw9_1 tk0))⟩, K_45⟩, Nat.lt_succ_self _⟩
            repeat' first | exact trivial | refine ⟨rfl, ?_⟩
      ·
        replace hm := ite_f (of_decide_eq_false c3) hm
        refine sw_exit ?_
        refine then_x ?_
        refine then_x ?_
        refine block_x ?_
        refine then_n ?_
        refine sw_seq ?_
        -- region 19 ref.go:326
        refine sw_region [(0, 0), (1, 0)] rfl rfl rfl ?_
        refine sd_vv rfl rfl rfl (vv_move rfl) ?_
        refine sd_vv rfl rfl rfl (vv_assign rfl) ?_
        refine sd_done ?_
        refine sw_ret ?_
        have X46 : Gr w w9 := (Gr.kz X20 Kw9 (tk1 ((pv_app (A := (fun x => w.heap.size ≤ x)) rw8 (.inl rfl)) : zw8 = 0 ∨ w.heap.size ≤ gw8)))
        have hr := Option.some.inj hm
        subst hr
        refine ⟨_, _, rfl, res_1 rfl (rv_tmp rfl), ?_⟩
        exact ⟨vy16, zy16, gy16, rfl, Fw9_0, ⟨(pv_1 (A := (fun x => w.heap.size ≤ x)) Fw9_1 (pv_app (A := (fun x => w.heap.size ≤ x)) rw8 (.inl rfl)))⟩, X46⟩

set_option maxHeartbeats 2000000 in
theorem ref03_Storage_w (p0 : TScheme)  (r : Int × Int) (hm : ref03_Storage p0 = some r) (w : World)   :
    Calls Try.prog 32 [.agg (TScheme.cs p0).toArray].toArray w fun e w' => ∃ v, e = .returned v ∧ (v = .tuple [.int .i64 r.1, .int .i64 r.2].toArray ∧ Gr w w') := by
  unfold ref03_Storage at hm
  refine calls_of_sw (R := fun v w' => v = .tuple [.int .i64 r.1, .int .i64 r.2].toArray ∧ Gr w w') 10 Try.func32 rfl rfl rfl ?_
  refine sw_seq ?_
  -- region 0 ref.go:344
  refine sw_region [(0, 0), (1, 0), (2, 0)] rfl rfl rfl ?_
  refine sd_ev rfl rfl rfl (ev_box (cs := TScheme.cs p0) rfl rfl) ?_
  rintro _ w1 ⟨b1, rfl, hbw1, Bw1, Gw1⟩
  have z1 := Gw1.size
  have lt2 := Bw1.lt
  refine sd_vv rfl rfl rfl (vv_assign rfl) ?_
  refine sd_vv rfl rfl rfl (vv_assign rfl) ?_
  refine sd_done ?_
  refine sw_seq ?_
  refine sw_seq ?_
  -- region 1 ref.go:345
  refine sw_region [(0, 0), (1, 0), (2, 0)] rfl rfl rfl ?_
  refine sd_vv rfl rfl rfl (vv_loadW agg_45 rfl Bw1 rfl) ?_
  have hb := bnd hm; clear hm; obtain ⟨x1, hx1, hm⟩ := hb
  refine sd_ev rfl rfl rfl (ev_call en_59 rfl (ref03_Valid_w p0 _ hx1 _)) ?_
  rintro _ w2 ⟨rfl, Gw2⟩
  have z3 := Gw2.size
  refine sd_vv rfl rfl rfl (vv_not rfl) ?_
  refine sd_done ?_
  refine sw_cond rfl (fun c1 => ?_) (fun c1 => ?_)
  ·
    replace hm := cnd_t c1 hm
    refine sw_seq ?_
    -- region 2 ref.go:346
    refine sw_region [(0, 0), (1, 0)] rfl rfl rfl ?_
    refine sd_vv rfl rfl rfl (vv_assign rfl) ?_
    refine sd_vv rfl rfl rfl (vv_assign rfl) ?_
    refine sd_done ?_
    refine sw_ret ?_
    refine then_r ?_
    have X4 : Gr w w2 := (Gr.trans (Gr.trans (Gr.refl w) Gw1) Gw2)
    have hr := Option.some.inj hm
    subst hr
    refine ⟨_, _, rfl, res_2 rfl (rv_tmp rfl) (rv_tmp rfl), ?_⟩
    exact ⟨rfl, X4⟩
  ·
    replace hm := cnd_f c1 hm
    refine sw_skip ?_
    refine then_n ?_
    refine sw_seq ?_
    -- region 3 ref.go:348
    refine sw_region [(0, 0), (1, 0), (2, 0), (3, 0), (4, 0)] rfl rfl rfl ?_
    have B5 := (Bx.gr Bw1 Gw2)
    refine sd_vv rfl rfl rfl (vv_loadW agg_45 rfl B5 rfl) ?_
    have hb := bnd hm; clear hm; obtain ⟨x2, hx2, hm⟩ := hb
    refine sd_ev rfl rfl rfl (ev_call en_83 rfl (ref03_LabelsOf_w p0 0 _ hx2 _)) ?_
    rintro u3_r0_s w3 ⟨_, z3_r0_s, g3_r0_s, rfl, O3_r0_s, f3_r0_s, Gw3⟩
    have z6 := Gw3.size
    have lt7 := O3_r0_s.lth
    refine sd_vv rfl rfl rfl (vv_lenT (l := x2) (c := TSubset.cs) Try.underlying48 rfl (Own.rd O3_r0_s)) ?_
    refine sd_vv rfl rfl rfl (vv_assign rfl) ?_
    refine sd_vv rfl rfl rfl (vv_assign rfl) ?_
    refine sd_done ?_
    refine sw_ret ?_
    have X8 : Gr w w3 := (Gr.trans (Gr.trans (Gr.trans (Gr.refl w) Gw1) Gw2) Gw3)
    have hr := Option.some.inj hm
    subst hr
    refine ⟨_, _, rfl, res_2 rfl (rv_tmp rfl) (rv_tmp rfl), ?_⟩
    exact ⟨rfl, X8⟩

set_option maxHeartbeats 2000000 in
theorem cover_tree_receiver_w (p0 : Tcover_tree) (p1 : Int)  (r : Bool) (hm : cover_tree_receiver p0 p1 = some r) (w : World)   :
    Calls Try.prog 92 [.agg (Tcover_tree.cs p0).toArray, .int .i64 p1].toArray w fun e w' => ∃ v, e = .returned v ∧ (v = .bool r ∧ Gr w w') := by
  unfold cover_tree_receiver at hm
  refine calls_of_sw (R := fun v w' => v = .bool r ∧ Gr w w') 13 Try.func92 rfl rfl rfl ?_
  refine sw_seq ?_
  -- region 0 tree.go:71
  refine sw_region [(0, 0), (1, 0)] rfl rfl rfl ?_
  refine sd_ev rfl rfl rfl (ev_box (cs := Tcover_tree.cs p0) rfl rfl) ?_
  rintro _ w1 ⟨b1, rfl, hbw1, Bw1, Gw1⟩
  have z1 := Gw1.size
  have lt2 := Bw1.lt
  refine sd_vv rfl rfl rfl (vv_assign rfl) ?_
  refine sd_done ?_
  refine sw_seq ?_
  -- region 1 tree.go:71
  refine sw_region [(0, 0), (1, 0), (2, 0), (3, 0), (4, 0), (5, 0), (6, 0), (7, 0), (8, 0)] rfl rfl rfl ?_
  refine sd_vv rfl rfl rfl (vv_move rfl) ?_
  refine sd_vv rfl rfl rfl (vv_geq (a := p1) (b := 0) rfl rfl) ?_
  refine sd_split rfl rfl rfl (vv_move rfl) (fun c1 => ?_) (fun c1 => ?_)
  ·
    replace hm := ite_t (of_decide_eq_true c1) hm
    refine sd_vv rfl rfl rfl (vv_move rfl) ?_
    refine sd_vv rfl rfl rfl (vv_loadW agg_134 rfl Bw1 rfl) ?_
    have hb := bnd hm; clear hm; obtain ⟨x1, hx1, hm⟩ := hb
    refine sd_ev rfl rfl rfl (ev_call en_123 rfl (cover_tree_size_w p0 _ hx1 _)) ?_
    rintro _ w2 ⟨rfl, Gw2⟩
    have z3 := Gw2.size
    refine sd_vv rfl rfl rfl (vv_lss (a := p1) (b := x1) rfl rfl) ?_
    refine sd_vv rfl rfl rfl (vv_pickT rfl rfl) ?_
    refine sd_vv rfl rfl rfl (vv_assign rfl) ?_
    refine sd_done ?_
    refine sw_ret ?_
    have X4 : Gr w w2 := (Gr.trans (Gr.trans (Gr.refl w) Gw1) Gw2)
    have hr := Option.some.inj hm
    subst hr
    refine ⟨_, _, rfl, res_1 rfl (rv_tmp rfl), ?_⟩
    exact ⟨rfl, X4⟩
  ·
    replace hm := ite_f (of_decide_eq_false c1) hm
    refine sd_skip rfl rfl rfl ?_
    refine sd_skip rfl rfl rfl ?_
    refine sd_skip rfl rfl rfl ?_
    refine sd_skip rfl rfl rfl ?_
    refine sd_vv rfl rfl rfl (vv_pickF rfl rfl) ?_
    refine sd_vv rfl rfl rfl (vv_assign rfl) ?_
    refine sd_done ?_
    refine sw_ret ?_
    have X5 : Gr w w1 := (Gr.trans (Gr.refl w) Gw1)
    have hr := Option.some.inj hm
    subst hr
    refine ⟨_, _, rfl, res_1 rfl (rv_tmp rfl), ?_⟩
    exact ⟨rfl, X5⟩

set_option maxHeartbeats 2000000 in
theorem cover_Secret_w (p0 : W2) (p1 : TScheme) (p2 : Int)  (r : TSecret × Int) (hm : cover_Secret p0 p1 p2 = some r) (w : World)   :
    Calls Try.prog 40 [kv p0, .agg (TScheme.cs p1).toArray, .int .i64 p2].toArray w fun e w' => ∃ v, e = .returned v ∧ (∃ (ur0_1 : Value) (zr0_1 : Nat) (gr0_1 : Nat), v = .tuple [.agg (TSecret.cs r.1 ur0_1).toArray, .int .i64 r.2].toArray ∧ Own w' zr0_1 gr0_1 81 18 ur0_1 (r.1.Labels.map TLabel.cs) ∧ Hdn (zr0_1 = 0 ∨ w.heap.size ≤ gr0_1) ∧ Gr w w') := by
  unfold cover_Secret at hm
  refine calls_of_sw (R := fun v w' => ∃ (ur0_1 : Value) (zr0_1 : Nat) (gr0_1 : Nat), v = .tuple [.agg (TSecret.cs r.1 ur0_1).toArray, .int .i64 r.2].toArray ∧ Own w' zr0_1 gr0_1 81 18 ur0_1 (r.1.Labels.map TLabel.cs) ∧ Hdn (zr0_1 = 0 ∨ w.heap.size ≤ gr0_1) ∧ Gr w w') 61 Try.func40 rfl rfl rfl ?_
  refine sw_seq ?_
  -- region 0 cover.go:177
  refine sw_region [(0, 0), (1, 0), (2, 0), (3, 0)] rfl rfl rfl ?_
  refine sd_ev rfl rfl rfl (ev_box (cs := kb p0) rfl rfl) ?_
  rintro _ w1 ⟨b1, rfl, hbw1, Bw1, Gw1⟩
  have z1 := Gw1.size
  have lt2 := Bw1.lt
  refine sd_ev rfl rfl rfl (ev_box (cs := TScheme.cs p1) rfl rfl) ?_
  rintro _ w2 ⟨b2, rfl, hbw2, Bw2, Gw2⟩
  have z3 := Gw2.size
  have lt4 := Bw2.lt
  refine sd_ev rfl rfl rfl (ev_alloc (cs := TSecret.cs (TSecret.mk 0 [] (TPoint.mk 0#64 0#64)) (.slice none 0 0)) zv_74 rfl) ?_
  rintro _ w3 ⟨b3, rfl, hbw3, Bw3, Gw3⟩
  have z5 := Gw3.size
  have lt6 := Bw3.lt
  refine sd_vv rfl rfl rfl (vv_assign rfl) ?_
  refine sd_done ?_
  refine sw_seq ?_
  -- region 1 cover.go:178
  refine sw_region [(0, 0), (1, 0), (2, 0), (3, 0), (4, 0), (5, 0), (6, 0), (7, 0)] rfl rfl rfl ?_
  have B7 := (Bx.gr Bw2 Gw3)
  refine sd_vv rfl rfl rfl (vv_loadW agg_45 rfl B7 rfl) ?_
  have hb := bnd hm; clear hm; obtain ⟨x1, hx1, hm⟩ := hb
  refine sd_ev rfl rfl rfl (ev_call en_74 rfl (cover_enter_w p1 ([] : List TSubset) _ _ _ _ _ hx1 _ (Own.rd (own_nil _ 0 47 2)))) ?_
  rintro _ w4 ⟨rfl, Gw4⟩
  have z8 := Gw4.size
  refine sd_vv rfl rfl rfl (vv_move rfl) ?_
  refine sd_vv rfl rfl rfl (vv_extract rfl rfl) ?_
  refine sd_vv rfl rfl rfl (vv_extract rfl rfl) ?_
  refine sd_ev rfl rfl rfl (ev_alloc (cs := Tcover_tree.cs (Tcover_tree.mk 0#8 0 0)) zv_134 rfl) ?_
  rintro _ w5 ⟨b5, rfl, hbw5, Bw5, Gw5⟩
  have z9 := Gw5.size
  have lt10 := Bw5.lt
  refine sd_ev rfl rfl rfl (ev_stM (cs' := Tcover_tree.cs x1.1) (vs := Tcover_tree.cs x1.1) (agg_134).siz rfl rfl rfl rfl rfl Bw5 rfl rfl) ?_
  rintro _ w6 ⟨Bw6, Mw6⟩
  have z11 := Mw6.size
  refine sd_vv rfl rfl rfl (vv_assign rfl) ?_
  refine sd_done ?_
  refine sw_seq ?_
  refine sw_seq ?_
  -- region 2 cover.go:179
  refine sw_region [(0, 0), (1, 0)] rfl rfl rfl ?_
  refine sd_vv rfl rfl rfl (vv_move rfl) ?_
  refine sd_vv rfl rfl rfl (vv_neq (a := x1.2) (b := 0) rfl rfl) ?_
  refine sd_done ?_
  refine sw_cond rfl (fun c1 => ?_) (fun c1 => ?_)
  ·
    replace hm := ite_t (of_decide_eq_true c1) hm
    refine sw_seq ?_
    -- region 3 cover.go:180
    refine sw_region [(0, 0), (1, 0), (2, 0), (3, 0)] rfl rfl rfl ?_
    refine sd_vv rfl rfl rfl (vv_build (cs := TSecret.cs (TSecret.mk 0 [] (TPoint.mk 0#64 0#64)) (.slice none 0 0)) bs_74 rfl rfl) ?_
    refine sd_vv rfl rfl rfl (vv_move rfl) ?_
    have B12 := (Bx.md (Bx.gr (Bx.gr Bw3 Gw4) Gw5) Mw6)
    refine sd_ev rfl rfl rfl (ev_stM (cs' := TSecret.cs (TSecret.mk 0 [] (TPoint.mk 0#64 0#64)) (.slice none 0 0)) (vs := TSecret.cs (TSecret.mk 0 [] (TPoint.mk 0#64 0#64)) (.slice none 0 0)) (agg_74).siz rfl rfl rfl rfl (TSecret.cs_ones _ _ rfl) B12 rfl rfl) ?_
    rintro _ w7 ⟨Bw7, Mw7⟩
    have z13 := Mw7.size
    refine sd_vv rfl rfl rfl (vv_assign rfl) ?_
    refine sd_done ?_
    refine sw_ret ?_
    refine then_r ?_
    have X14 : Gr w w7 := (Gr.md (Gr.md (Gr.trans (Gr.trans (Gr.trans (Gr.trans (Gr.trans (Gr.refl w) Gw1) Gw2) Gw3) Gw4) Gw5) Mw6) Mw7)
    have hr := Option.some.inj hm
    subst hr
    refine ⟨_, _, rfl, res_2 rfl (rv_cellW agg_74 rfl Bw7 rfl) (rv_tmp rfl), ?_⟩
    exact ⟨(.slice none 0 0), 0, 0, rfl, (own_nil _ 0 81 18), ⟨.inl rfl⟩, X14⟩
  ·
    replace hm := ite_f (of_decide_eq_false c1) hm
    refine sw_skip ?_
    refine then_n ?_
    refine sw_seq ?_
    refine sw_seq ?_
    -- region 4 cover.go:182
    refine sw_region [(0, 0), (1, 0), (2, 0), (3, 0)] rfl rfl rfl ?_
    refine sd_vv rfl rfl rfl (vv_loadW agg_134 rfl Bw6 rfl) ?_
    refine sd_vv rfl rfl rfl (vv_move rfl) ?_
    have hb := bnd hm; clear hm; obtain ⟨x2, hx2, hm⟩ := hb
    refine sd_ev rfl rfl rfl (ev_call en_92 rfl (cover_tree_receiver_w x1.1 p2 _ hx2 _)) ?_
    rintro _ w8 ⟨rfl, Gw8⟩
    have z15 := Gw8.size
    refine sd_vv rfl rfl rfl (vv_not rfl) ?_
    refine sd_done ?_
    refine sw_cond rfl (fun c2 => ?_) (fun c2 => ?_)
    ·
      replace hm := cnd_t c2 hm
      refine sw_seq ?_
      -- region 5 cover.go:183
      refine sw_region [(0, 0), (1, 0), (2, 0)] rfl rfl rfl ?_
      refine sd_vv rfl rfl rfl (vv_build (cs := TSecret.cs (TSecret.mk 0 [] (TPoint.mk 0#64 0#64)) (.slice none 0 0)) bs_74 rfl rfl) ?_
      have B16 := (Bx.gr (Bx.md (Bx.gr (Bx.gr Bw3 Gw4) Gw5) Mw6) Gw8)
      refine sd_ev rfl rfl rfl (ev_stM (cs' := TSecret.cs (TSecret.mk 0 [] (TPoint.mk 0#64 0#64)) (.slice none 0 0)) (vs := TSecret.cs (TSecret.mk 0 [] (TPoint.mk 0#64 0#64)) (.slice none 0 0)) (agg_74).siz rfl rfl rfl rfl (TSecret.cs_ones _ _ rfl) B16 rfl rfl) ?_
      rintro _ w9 ⟨Bw9, Mw9⟩
      have z17 := Mw9.size
      refine sd_vv rfl rfl rfl (vv_assign rfl) ?_
      refine sd_done ?_
      refine sw_ret ?_
      refine then_r ?_
      have X18 : Gr w w9 := (Gr.md (Gr.trans (Gr.md (Gr.trans (Gr.trans (Gr.trans (Gr.trans (Gr.trans (Gr.refl w) Gw1) Gw2) Gw3) Gw4) Gw5) Mw6) Gw8) Mw9)
      have hr := Option.some.inj hm
      subst hr
      refine ⟨_, _, rfl, res_2 rfl (rv_cellW agg_74 rfl Bw9 rfl) (rv_tmp rfl), ?_⟩
      exact ⟨(.slice none 0 0), 0, 0, rfl, (own_nil _ 0 81 18), ⟨.inl rfl⟩, X18⟩
    ·
      replace hm := cnd_f c2 hm
      refine sw_skip ?_
      refine then_n ?_
      refine sw_seq ?_
      -- region 6 cover.go:185
      refine sw_region [(0, 0), (1, 0), (2, 0), (3, 0)] rfl rfl rfl ?_
      refine sd_vv rfl rfl rfl (vv_move rfl) ?_
      refine sd_vv rfl rfl rfl (vv_build (cs := TSecret.cs (TSecret.mk p2 [] (TPoint.mk 0#64 0#64)) (.slice none 0 0)) bs_74 rfl rfl) ?_
      refine sd_ev rfl rfl rfl (ev_alloc (cs := TSecret.cs (TSecret.mk 0 [] (TPoint.mk 0#64 0#64)) (.slice none 0 0)) zv_74 rfl) ?_
      rintro _ w10 ⟨b10, rfl, hbw10, Bw10, Gw10⟩
      have z19 := Gw10.size
      have lt20 := Bw10.lt
      refine sd_ev rfl rfl rfl (ev_stM (cs' := TSecret.cs (TSecret.mk p2 [] (TPoint.mk 0#64 0#64)) (.slice none 0 0)) (vs := TSecret.cs (TSecret.mk p2 [] (TPoint.mk 0#64 0#64)) (.slice none 0 0)) (agg_74).siz rfl rfl rfl rfl (TSecret.cs_ones _ _ rfl) Bw10 rfl rfl) ?_
      rintro _ w11 ⟨Bw11, Mw11⟩
      have z21 := Mw11.size
      refine sd_done ?_
      refine sw_seq ?_
      refine sw_seq ?_
      -- region 7 cover.go:186
      refine sw_region [(0, 0), (1, 0), (2, 0)] rfl rfl rfl ?_
      have B22 := (Bx.md (Bx.gr (Bx.gr Bw6 Gw8) Gw10) Mw11)
      refine sd_vv rfl rfl rfl (vv_loadW agg_134 rfl B22 rfl) ?_
      refine sd_vv rfl rfl rfl (vv_move rfl) ?_
      have hb := bnd hm; clear hm; obtain ⟨x3, hx3, hm⟩ := hb
      refine sd_ev rfl rfl rfl (ev_call en_82 rfl (cover_tree_labels_w x1.1 p2 _ hx3 _)) ?_
      rintro _ w12 ⟨k12_c0_0, k12_c0_1, rfl, O12_c0_0, f12_c0_0, O12_c0_1, f12_c0_1, Gw12⟩
      have z23 := Gw12.size
      have lt24 := O12_c0_0.lt
      have lt25 := O12_c0_1.lt
      refine sd_done ?_
      refine sw_block ?_
      have hb := bnd hm; clear hm; obtain ⟨l4, hl4, hm⟩ := hb
      have X26 : Gr w w12 := (Gr.trans (Gr.md (Gr.trans (Gr.trans (Gr.md (Gr.trans (Gr.trans (Gr.trans (Gr.trans (Gr.trans (Gr.refl w) Gw1) Gw2) Gw3) Gw4) Gw5) Mw6) Gw8) Gw10) Mw11) Gw12)
      have B27 := (Bx.gr (Bx.md (Bx.gr (Bx.gr (Bx.md (Bx.gr (Bx.gr (Bx.gr (Bx.gr Bw1 Gw2) Gw3) Gw4) Gw5) Mw6) Gw8) Gw10) Mw11) Gw12)
      have B28 := (Bx.gr (Bx.md (Bx.gr (Bx.gr (Bx.md (Bx.gr (Bx.gr B7 Gw4) Gw5) Mw6) Gw8) Gw10) Mw11) Gw12)
      have B29 := (Bx.gr (Bx.md (Bx.gr (Bx.gr (Bx.md (Bx.gr (Bx.gr Bw3 Gw4) Gw5) Mw6) Gw8) Gw10) Mw11) Gw12)
      have B30 := (Bx.gr B22 Gw12)
      have B31 := (Bx.gr Bw11 Gw12)
      refine sw_rangeFunc (gf := 129) rfl en_129 (cover_tree_labels_1_it x3.1 x3.2 _ _ _ hl4 _ O12_c0_0 O12_c0_1) (by intro x hx; obtain ⟨a, _, rfl⟩ := List.mem_map.1 hx; rfl) rfl _ (fun _ _ _ _ => False) ([b10] ++ zf 0 0) (stb_mk (α := List TLabel × Value × Nat × Nat) (fun ⟨a7, vy8, zy8, gy8⟩ rk => itL (cover_Secret_R1 p0 x1) (cover_Secret_D1 p2) (List.drop rk l4) a7 = some r) (fun ⟨a7, vy8, zy8, gy8⟩ => ([b10] ++ zf zy8 gy8)) (fun ⟨a7, vy8, zy8, gy8⟩ W => Own W zy8 gy8 81 18 vy8 (a7.map TLabel.cs) ∧ Hdn (zy8 = 0 ∨ w12.heap.size ≤ gy8) ∧ Bx W b10 74 (TSecret.cs (TSecret.mk p2 a7 (TPoint.mk 0#64 0#64)) vy8) ∧ True) (by rintro ⟨a7, vy8, zy8, gy8⟩ W ⟨F0, F1, F2, _⟩ b hb; have q0 := F0.lt; have q2 := F2.lt; replace hb : b ∈ ([b10] ++ zf zy8 gy8) := hb; simp only [List.mem_cons, List.mem_append, mem_zf, List.not_mem_nil, or_false, false_or, not_or, ne_eq, List.nil_append, List.cons_append, true_and, and_true, false_and, and_false, not_true_eq_false, not_false_eq_true, or_true, true_or] at hb; omega) (by rintro ⟨a7, vy8, zy8, gy8⟩ W W' ⟨F0, F1, F2, _⟩ E hs; replace hs : ∀ b ∈ ([b10] ++ zf zy8 gy8), W'.heap[b]? = W.heap[b]? := hs; exact ⟨Own.hs F0 hs (fun hz => by simp [mem_zf, hz]), F1, (hs _ (by simp)).trans F2, trivial⟩)) (fun _ => stb_false) (by intro b hb; simp only [List.mem_cons, List.mem_append, mem_zf, List.not_mem_nil, or_false, false_or, not_or, ne_eq, List.nil_append, List.cons_append, true_and, and_true, false_and, and_false, not_true_eq_false, not_false_eq_true, or_true, true_or] at hb ⊢; omega) ⟨⟨[], (.slice none 0 0), 0, 0⟩, hm, rfl, (own_nil _ 0 81 18), ⟨(.inl rfl)⟩, B31, trivial⟩ ?_ ?_ ?_
      · rintro l rk x fp w13 hl hx _ Kw13 hF hln hlt
        clear hm
        obtain ⟨⟨e9, e10⟩, hxe, rfl⟩ := map_some hx
        have Zw13 : Kz [(1, b10), (0, 0)] w12 w13 := kz_of_kp Kw13 (by intro k hk; simp only [Nin, and_true, List.mem_cons, List.mem_append, mem_zf, List.not_mem_nil, or_false, false_or, not_or, ne_eq, List.nil_append, List.cons_append, true_and, and_true, false_and, and_false, not_true_eq_false, not_false_eq_true, or_true, true_or] at hk ⊢; omega)
        have z32 := Kw13.size
        refine sw_seq ?_
        -- region 8 cover.go:186
        refine sw_region [(0, 0)] rfl rfl rfl ?_
        refine sd_vv rfl rfl rfl (vv_assign rfl) ?_
        refine sd_done ?_
        -- region 9 cover.go:186
        refine sw_region [(0, 0)] rfl rfl rfl ?_
        refine sd_vv rfl rfl rfl (vv_assign rfl) ?_
        refine sd_nil ?_
        refine ⟨rfl, (Gr.refl _), ?_⟩
        rintro w14 Mw14 ⟨⟨a7, vy8, zy8, gy8⟩, hm, rfl, Fw14_0, Fw14_1, Fw14_2, -⟩
        have z33 := Mw14.size
        have lt34 := Fw14_0.lth
        have lt35 := Fw14_2.lt
        replace hm := itL_at hm hxe
        generalize hnx1 : itL (cover_Secret_R1 p0 x1) (cover_Secret_D1 p2) (List.drop (rk + 1) l4) = nx1 at hm
        unfold cover_Secret_R1 at hm
        try dsimp only at hm
        refine sw_block ?_
        refine sw_seq ?_
        -- region 10 cover.go:187
        refine sw_region [(0, 0), (1, 0), (2, 0), (3, 0), (4, 0)] rfl rfl rfl ?_
        refine sd_vv rfl rfl rfl (vv_move rfl) ?_
        refine sd_vv rfl rfl rfl (vv_move rfl) ?_
        refine sd_vv rfl rfl rfl (vv_build (cs := TLabel.cs (TLabel.mk e9 e10 k0)) bs_81 rfl (by kernel_rfl)) ?_
        refine sd_ev rfl rfl rfl (ev_alloc (cs := TLabel.cs (TLabel.mk 0 0 k0)) zv_81 rfl) ?_
        rintro _ w15 ⟨b15, rfl, hbw15, Bw15, Gw15⟩
        have z36 := Gw15.size
        have lt37 := Bw15.lt
        refine sd_ev rfl rfl rfl (ev_stM (cs' := TLabel.cs (TLabel.mk e9 e10 k0)) (vs := TLabel.cs (TLabel.mk e9 e10 k0)) (agg_81).siz rfl rfl rfl rfl rfl Bw15 rfl rfl) ?_
        rintro _ w16 ⟨Bw16, Mw16⟩
        have z38 := Mw16.size
        refine sd_done ?_
        have X39 : Gr w w16 := (Gr.md (Gr.trans (Gr.md (Gr.kz X26 Zw13) Mw14) Gw15) Mw16)
        refine sw_joinD (β := W2) [38, 39, 40, 41, 42, 43, 44, 45, 46, 47, 48, 49, 50, 51, 52, 53] (fun a11 => []) (fun a11 wr => (cover_Secret_J2 a7 nx1 e9 e10 a11 = some r) ∧ Bx wr b15 81 (TLabel.cs (TLabel.mk e9 e10 a11)) ∧ Kz [(1, b15)] w16 wr) ?_ ?_
        · clear hm; rintro a11 w17 ⟨hm, Fw17_0, Kw17⟩
          have z40 := Kw17.size
          have lt41 := Fw17_0.lt
          unfold cover_Secret_J2 at hm
          -- region 14 cover.go:193
          refine sw_region [(0, 0), (1, 0), (2, 0), (3, 0), (4, 0), (5, 0), (6, 0)] rfl rfl rfl ?_
          refine sd_vv rfl rfl rfl (vv_fieldAddr fa_74_1 rfl) ?_
          have B42 := (Bx.kz (Bx.md (Bx.gr Fw14_2 Gw15) Mw16) Kw17)
          refine sd_vv rfl rfl rfl (vv_load1 (v := vy8) one_70 rfl B42 rfl) ?_
          refine sd_vv rfl rfl rfl (vv_loadW agg_81 rfl Fw17_0 rfl) ?_
          refine sd_ev rfl rfl rfl (ev_litT [(TLabel.mk e9 e10 a11)] TLabel.cs bsl_70_1 rfl rfl (ws_of rfl) rfl rfl rfl) ?_
          rintro vw18 w18 ⟨gw18, hbw18, Ow18, Gw18⟩
          have z43 := Gw18.size
          have lt44 := Ow18.lth
          have B45 := (Own.gr (Own.kz (Own.md (Own.gr Fw14_0 Gw15) Mw16 (tk1 ((pv_lt (A := (fun x => x ≠ b15)) lt34) : zy8 = 0 ∨ gy8 ≠ b15))) Kw17 (tk1 ((pv_lt (A := (fun x => x ≠ b15)) lt34) : zy8 = 0 ∨ gy8 ≠ b15))) Gw18)
          have hb := bnd hm; clear hm; obtain ⟨l12, hl12, hm⟩ := hb
          refine sd_ev rfl rfl rfl (ev_appT (l := a7) (m := [(TLabel.mk e9 e10 a11)]) (c := TLabel.cs) apt_70 rfl rfl B45 (Own.rd Ow18) hl12 (by decide)) ?_
          rintro vw19 w19 ⟨zw19, gw19, Ow19, Aw19, qw19, rw19⟩
          have z46 := Aw19.size
          refine sd_vv rfl rfl rfl (vv_fieldAddr fa_74_1 rfl) ?_
          have B47 := (Bx.ka (Bx.gr B42 Gw18) Aw19 (tk1 ((pv_0 (A := (fun x => x ≠ b10)) Fw14_1) : zy8 = 0 ∨ gy8 ≠ b10)))
          refine sd_ev rfl rfl rfl (ev_st1 (cs' := TSecret.cs (TSecret.mk p2 l12 (TPoint.mk 0#64 0#64)) vw19) (one_70).siz rfl rfl (Own.oneB Ow19) B47 rfl rfl) ?_
          rintro _ w20 ⟨Bw20, Mw20⟩
          have z48 := Mw20.size
          refine sd_nil ?_
          refine block_n ?_
          have B50 := (Own.md Ow19 Mw20 (tk1 ((pv_app (A := (fun x => x ≠ b10)) rw19 (pv_0 (A := (fun x => x ≠ b10)) Fw14_1)) : zw19 = 0 ∨ gw19 ≠ b10)))
          have K_49 : Kz [(1, b10), (zy8, gy8)] w14 w20 := (Kz.md (Kz.ka (Kz.gr (Kz.kz (Kz.md (Kz.gr (Kz.refl _ _) Gw15) Mw16) Kw17) Gw18) Aw19 (tk1 (tk0 : zy8 = 0 ∨ (gy8 = gy8 ∧ zy8 ≠ 0) ∨ w14.heap.size ≤ gy8))) Mw20)
          have Kq49 : Kp ([b10] ++ zf zy8 gy8) w14 w20 := kp_of_kz K_49 (by intro k hk; simp only [Nin, and_true, List.mem_cons, List.mem_append, mem_zf, List.not_mem_nil, or_false, false_or, not_or, ne_eq, List.nil_append, List.cons_append, true_and, and_true, false_and, and_false, not_true_eq_false, not_false_eq_true, or_true, true_or] at hk ⊢; omega)
          subst hnx1
          exact ⟨Kq49, ([b10] ++ zf zw19 gw19), (by intro c hc; have := ((pv_app (A := (fun x => (x = gy8 ∧ zy8 ≠ 0) ∨ w14.heap.size ≤ x)) rw19 tk0) : zw19 = 0 ∨ (gw19 = gy8 ∧ zy8 ≠ 0) ∨ w14.heap.size ≤ gw19); simp only [List.mem_cons, List.mem_append, mem_zf, List.not_mem_nil, or_false, false_or, not_or, ne_eq, List.nil_append, List.cons_append, true_and, and_true, false_and, and_false, not_true_eq_false, not_false_eq_true, or_true, true_or] at hc ⊢; omega), ⟨⟨l12, vw19, zw19, gw19⟩, hm, rfl, B50, ⟨(pv_app (A := (fun x => w12.heap.size ≤ x)) rw19 (pv_0 (A := (fun x => w12.heap.size ≤ x)) Fw14_1))⟩, Bw20, trivial⟩⟩
        ·
          refine sw_seq ?_
          -- region 11 cover.go:188
          refine sw_region [(0, 0), (1, 0)] rfl rfl rfl ?_
          refine sd_vv rfl rfl rfl (vv_move rfl) ?_
          refine sd_vv rfl rfl rfl (vv_eql (a := e10) (b := 0) rfl rfl) ?_
          refine sd_done ?_
          refine sw_cond rfl (fun c3 => ?_) (fun c3 => ?_)
          ·
            replace hm := ite_t (of_decide_eq_true c3) hm
            -- region 12 cover.go:189
            refine sw_region [(0, 0), (1, 0), (2, 0), (3, 0), (4, 0), (5, 0), (6, 0), (7, 0)] rfl rfl rfl ?_
            have B51 := (Bx.md (Bx.gr (Bx.md (Bx.kz B30 Zw13) Mw14) Gw15) Mw16)
            refine sd_vv rfl rfl rfl (vv_loadW agg_134 rfl B51 rfl) ?_
            have B52 := (Bx.md (Bx.gr (Bx.md (Bx.kz B27 Zw13) Mw14) Gw15) Mw16)
            refine sd_vv rfl rfl rfl (vv_loadW agg_26 rfl B52 rfl) ?_
            refine sd_vv rfl rfl rfl (vv_fieldAddr fa_81_0 rfl) ?_
            refine sd_vv rfl rfl rfl (vv_load1 (v := .int .i64 e9) one_3 rfl Bw16 rfl) ?_
            refine sd_vv rfl rfl rfl (vv_build (cs := TSubset.cs (TSubset.mk e9 0)) bs_47 rfl rfl) ?_
            have hb := bnd hm; clear hm; obtain ⟨x13, hx13, hm⟩ := hb
            refine sd_ev rfl rfl rfl (ev_call en_88 rfl (cover_tree_key_w x1.1 p0 (TSubset.mk e9 0) _ hx13 _)) ?_
            rintro _ w21 ⟨rfl, Gw21⟩
            have z53 := Gw21.size
            refine sd_vv rfl rfl rfl (vv_fieldAddr fa_81_2 rfl) ?_
            have B54 := (Bx.gr Bw16 Gw21)
            refine sd_ev rfl rfl rfl (ev_stM (cs' := TLabel.cs (TLabel.mk e9 e10 x13)) (vs := kb x13) (agg_26).siz rfl rfl rfl rfl rfl B54 rfl rfl) ?_
            rintro _ w22 ⟨Bw22, Mw22⟩
            have z55 := Mw22.size
            refine sd_nil ?_
            have K_56 : Kz [(1, b15)] w16 w22 := (Kz.md (Kz.gr (Kz.refl _ _) Gw21) Mw22)
            refine ⟨rfl, x13, ?_, hm, Bw22, K_56⟩
            repeat' first | exact trivial | refine ⟨rfl, ?_⟩
          ·
            replace hm := ite_f (of_decide_eq_false c3) hm
            -- region 13 cover.go:191
            refine sw_region [(0, 0), (1, 0), (2, 0), (3, 0), (4, 0), (5, 0), (6, 0), (7, 0)] rfl rfl rfl ?_
            have B57 := (Bx.md (Bx.gr (Bx.md (Bx.kz B27 Zw13) Mw14) Gw15) Mw16)
            refine sd_vv rfl rfl rfl (vv_loadW agg_26 rfl B57 rfl) ?_
            refine sd_vv rfl rfl rfl (vv_move rfl) ?_
            have hb := bnd hm; clear hm; obtain ⟨x14, hx14, hm⟩ := hb
            refine sd_ev rfl rfl rfl (ev_call en_94 rfl (cover_nodeKey_w p0 e9 _ hx14 _)) ?_
            rintro _ w23 ⟨rfl, Gw23⟩
            have z58 := Gw23.size
            refine sd_vv rfl rfl rfl (vv_move rfl) ?_
            refine sd_vv rfl rfl rfl (vv_move rfl) ?_
            have hb := bnd hm; clear hm; obtain ⟨x15, hx15, hm⟩ := hb
            refine sd_ev rfl rfl rfl (ev_call en_93 rfl (cover_descend_w x14 e9 e10 _ hx15 _)) ?_
            rintro _ w24 ⟨rfl, Gw24⟩
            have z59 := Gw24.size
            refine sd_vv rfl rfl rfl (vv_fieldAddr fa_81_2 rfl) ?_
            have B60 := (Bx.gr (Bx.gr Bw16 Gw23) Gw24)
            refine sd_ev rfl rfl rfl (ev_stM (cs' := TLabel.cs (TLabel.mk e9 e10 x15)) (vs := kb x15) (agg_26).siz rfl rfl rfl rfl rfl B60 rfl rfl) ?_
            rintro _ w25 ⟨Bw25, Mw25⟩
            have z61 := Mw25.size
            refine sd_nil ?_
            have K_62 : Kz [(1, b15)] w16 w25 := (Kz.md (Kz.gr (Kz.gr (Kz.refl _ _) Gw23) Gw24) Mw25)
            refine ⟨rfl, x15, ?_, hm, Bw25, K_62⟩
            repeat' first | exact trivial | refine ⟨rfl, ?_⟩
      · clear hm; rintro Dw26 fp w26 hDw26 Dfw26 nw26 ⟨⟨a7, vy8, zy8, gy8⟩, hm, rfl, Fw26_0, Fw26_1, Fw26_2, -⟩ Kw26
        replace hm := itL_end hm
        have Zw26 : Kz [(1, b10), (0, 0)] w12 w26 := kz_of_kp Kw26 (by intro k hk; simp only [Nin, and_true, List.mem_cons, List.mem_append, mem_zf, List.not_mem_nil, or_false, false_or, not_or, ne_eq, List.nil_append, List.cons_append, true_and, and_true, false_and, and_false, not_true_eq_false, not_false_eq_true, or_true, true_or] at hk ⊢; omega)
        have z63 := Kw26.size
        have lt64 := Df.lt (w := w26) Dfw26
        simp only [List.mem_cons, List.mem_append, mem_zf, List.not_mem_nil, or_false, false_or, not_or, ne_eq, List.nil_append, List.cons_append, true_and, and_true, false_and, and_false, not_true_eq_false, not_false_eq_true, or_true, true_or, not_and] at nw26
        have lt65 := Fw26_0.lth
        have lt66 := Fw26_2.lt
        unfold cover_Secret_D1 at hm
        try dsimp only at hm
        refine block_n ?_
        refine then_n ?_
        refine sw_seq ?_
        -- region 15 cover.go:195
        refine sw_region [(0, 0), (1, 0), (2, 0)] rfl rfl rfl ?_
        refine sd_vv rfl rfl rfl (vv_loadW agg_74 rfl Fw26_2 rfl) ?_
        have B67 := (Bx.kz B29 Zw26)
        refine sd_ev rfl rfl rfl (ev_stM (cs' := TSecret.cs (TSecret.mk p2 a7 (TPoint.mk 0#64 0#64)) vy8) (vs := TSecret.cs (TSecret.mk p2 a7 (TPoint.mk 0#64 0#64)) vy8) (agg_74).siz rfl rfl rfl rfl (TSecret.cs_ones _ _ (Own.oneB Fw26_0)) B67 rfl rfl) ?_
        rintro _ w27 ⟨Bw27, Mw27⟩
        have z68 := Mw27.size
        refine sd_vv rfl rfl rfl (vv_assign rfl) ?_
        refine sd_done ?_
        refine sw_ret ?_
        have DL69 := (Df.md Dfw26 Mw27)
        have L69 := Md.put (w := w27) Dw26 (.deferred none)
        have zL69 := L69.size
        have B70 := (Bx.md Bw27 L69)
        have B71 := (Own.md (Own.md Fw26_0 Mw27 (tk1 ((pv_0 (A := (fun x => x ≠ b3)) Fw26_1) : zy8 = 0 ∨ gy8 ≠ b3))) L69)
        have X72 : Gr w (w27.putObj Dw26 (.deferred none)) := (Gr.md (Gr.md (Gr.kz X26 Zw26) Mw27) L69)
        have hr := Option.some.inj hm
        subst hr
        refine ⟨_, _, ⟨Dw26, rfl, DL69, rfl⟩, res_2 rfl (rv_cellW agg_74 rfl B70 rfl) (rv_tmp rfl), ?_⟩
        exact ⟨vy8, zy8, gy8, rfl, B71, ⟨(pv_0 (A := (fun x => w.heap.size ≤ x)) Fw26_1)⟩, X72⟩
      · rintro _ _ _ _ _ _ _ _ _ h _
        exact h.elim

set_option maxHeartbeats 2000000 in
theorem ref03_receiver_w (p0 : Int) (p1 : Int)  (r : Bool) (hm : ref03_receiver p0 p1 = some r) (w : World)   :
    Calls Try.prog 95 [.int .i64 p0, .int .i64 p1].toArray w fun e w' => ∃ v, e = .returned v ∧ (v = .bool r ∧ Gr w w') := by
  unfold ref03_receiver at hm
  refine calls_of_sw (R := fun v w' => v = .bool r ∧ Gr w w') 13 Try.func95 rfl rfl rfl ?_
  refine sw_seq ?_
  -- region 0 ref.go:352
  refine sw_region [(0, 0)] rfl rfl rfl ?_
  refine sd_vv rfl rfl rfl (vv_assign rfl) ?_
  refine sd_done ?_
  refine sw_seq ?_
  -- region 1 ref.go:352
  refine sw_region [(0, 0), (1, 0), (2, 0), (3, 0), (4, 0), (5, 0), (6, 0), (7, 0), (8, 0)] rfl rfl rfl ?_
  refine sd_vv rfl rfl rfl (vv_move rfl) ?_
  refine sd_vv rfl rfl rfl (vv_geq (a := p1) (b := 0) rfl rfl) ?_
  refine sd_split rfl rfl rfl (vv_move rfl) (fun c1 => ?_) (fun c1 => ?_)
  ·
    replace hm := ite_t (of_decide_eq_true c1) hm
    refine sd_vv rfl rfl rfl (vv_move rfl) ?_
    refine sd_vv rfl rfl rfl (vv_move rfl) ?_
    have hb := bnd hm; clear hm; obtain ⟨x1, hx1, hm⟩ := hb
    refine sd_ev rfl rfl rfl (ev_call en_118 rfl (ref03_Receivers_w p0 _ hx1 _)) ?_
    rintro _ w1 ⟨rfl, Gw1⟩
    have z1 := Gw1.size
    refine sd_vv rfl rfl rfl (vv_lss (a := p1) (b := x1) rfl rfl) ?_
    refine sd_vv rfl rfl rfl (vv_pickT rfl rfl) ?_
    refine sd_vv rfl rfl rfl (vv_assign rfl) ?_
    refine sd_done ?_
    refine sw_ret ?_
    have X2 : Gr w w1 := (Gr.trans (Gr.refl w) Gw1)
    have hr := Option.some.inj hm
    subst hr
    refine ⟨_, _, rfl, res_1 rfl (rv_tmp rfl), ?_⟩
    exact ⟨rfl, X2⟩
  ·
    replace hm := ite_f (of_decide_eq_false c1) hm
    refine sd_skip rfl rfl rfl ?_
    refine sd_skip rfl rfl rfl ?_
    refine sd_skip rfl rfl rfl ?_
    refine sd_skip rfl rfl rfl ?_
    refine sd_vv rfl rfl rfl (vv_pickF rfl rfl) ?_
    refine sd_vv rfl rfl rfl (vv_assign rfl) ?_
    refine sd_done ?_
    refine sw_ret ?_
    have hr := Option.some.inj hm
    subst hr
    refine ⟨_, _, rfl, res_1 rfl (rv_tmp rfl), ?_⟩
    exact ⟨rfl, (Gr.refl w)⟩

set_option maxHeartbeats 2000000 in
theorem ref03_SecretOf_w (p0 : W2) (p1 : TScheme) (p2 : Int)  (r : TSecret) (hm : ref03_SecretOf p0 p1 p2 = some r) (w : World)   :
    Calls Try.prog 96 [kv p0, .agg (TScheme.cs p1).toArray, .int .i64 p2].toArray w fun e w' => ∃ v, e = .returned v ∧ (∃ (ur0_1 : Value) (zr0_1 : Nat) (gr0_1 : Nat), v = .agg (TSecret.cs r ur0_1).toArray ∧ Own w' zr0_1 gr0_1 81 18 ur0_1 (r.Labels.map TLabel.cs) ∧ Hdn (zr0_1 = 0 ∨ w.heap.size ≤ gr0_1) ∧ Gr w w') := by
  unfold ref03_SecretOf at hm
  refine calls_of_sw (R := fun v w' => ∃ (ur0_1 : Value) (zr0_1 : Nat) (gr0_1 : Nat), v = .agg (TSecret.cs r ur0_1).toArray ∧ Own w' zr0_1 gr0_1 81 18 ur0_1 (r.Labels.map TLabel.cs) ∧ Hdn (zr0_1 = 0 ∨ w.heap.size ≤ gr0_1) ∧ Gr w w') 65 Try.func96 rfl rfl rfl ?_
  refine sw_seq ?_
  -- region 0 ref.go:330
  refine sw_region [(0, 0), (1, 0), (2, 0)] rfl rfl rfl ?_
  refine sd_ev rfl rfl rfl (ev_box (cs := kb p0) rfl rfl) ?_
  rintro _ w1 ⟨b1, rfl, hbw1, Bw1, Gw1⟩
  have z1 := Gw1.size
  have lt2 := Bw1.lt
  refine sd_ev rfl rfl rfl (ev_box (cs := TScheme.cs p1) rfl rfl) ?_
  rintro _ w2 ⟨b2, rfl, hbw2, Bw2, Gw2⟩
  have z3 := Gw2.size
  have lt4 := Bw2.lt
  refine sd_ev rfl rfl rfl (ev_alloc (cs := TSecret.cs (TSecret.mk 0 [] (TPoint.mk 0#64 0#64)) (.slice none 0 0)) zv_74 rfl) ?_
  rintro _ w3 ⟨b3, rfl, hbw3, Bw3, Gw3⟩
  have z5 := Gw3.size
  have lt6 := Bw3.lt
  refine sd_done ?_
  refine sw_seq ?_
  -- region 1 ref.go:331
  refine sw_region [(0, 0), (1, 0), (2, 0), (3, 0)] rfl rfl rfl ?_
  refine sd_vv rfl rfl rfl (vv_move rfl) ?_
  refine sd_vv rfl rfl rfl (vv_build (cs := TSecret.cs (TSecret.mk p2 [] (TPoint.mk 0#64 0#64)) (.slice none 0 0)) bs_74 rfl rfl) ?_
  refine sd_ev rfl rfl rfl (ev_alloc (cs := TSecret.cs (TSecret.mk 0 [] (TPoint.mk 0#64 0#64)) (.slice none 0 0)) zv_74 rfl) ?_
  rintro _ w4 ⟨b4, rfl, hbw4, Bw4, Gw4⟩
  have z7 := Gw4.size
  have lt8 := Bw4.lt
  refine sd_ev rfl rfl rfl (ev_stM (cs' := TSecret.cs (TSecret.mk p2 [] (TPoint.mk 0#64 0#64)) (.slice none 0 0)) (vs := TSecret.cs (TSecret.mk p2 [] (TPoint.mk 0#64 0#64)) (.slice none 0 0)) (agg_74).siz rfl rfl rfl rfl (TSecret.cs_ones _ _ rfl) Bw4 rfl rfl) ?_
  rintro _ w5 ⟨Bw5, Mw5⟩
  have z9 := Mw5.size
  refine sd_done ?_
  refine sw_seq ?_
  -- region 2 ref.go:332
  refine sw_region [(0, 0), (1, 0), (2, 0), (3, 0)] rfl rfl rfl ?_
  have B10 := (Bx.md (Bx.gr (Bx.gr Bw2 Gw3) Gw4) Mw5)
  refine sd_vv rfl rfl rfl (vv_loadW agg_45 rfl B10 rfl) ?_
  refine sd_vv rfl rfl rfl (vv_move rfl) ?_
  have hb := bnd hm; clear hm; obtain ⟨x1, hx1, hm⟩ := hb
  refine sd_ev rfl rfl rfl (ev_call en_83 rfl (ref03_LabelsOf_w p1 p2 _ hx1 _)) ?_
  rintro u6_r0_s w6 ⟨_, z6_r0_s, g6_r0_s, rfl, O6_r0_s, f6_r0_s, Gw6⟩
  have z11 := Gw6.size
  have lt12 := O6_r0_s.lth
  refine sd_vv rfl rfl rfl (vv_assign rfl) ?_
  refine sd_done ?_
  refine sw_seq ?_
  refine sw_seq ?_
  -- region 3 ref.go:333
  refine sw_region [(0, 0)] rfl rfl rfl ?_
  refine sd_vv rfl rfl rfl (vv_assign rfl) ?_
  refine sd_done ?_
  refine sw_block ?_
  have X13 : Gr w w6 := (Gr.trans (Gr.md (Gr.trans (Gr.trans (Gr.trans (Gr.trans (Gr.refl w) Gw1) Gw2) Gw3) Gw4) Mw5) Gw6)
  have B14 := (Bx.gr Bw5 Gw6)
  refine sw_loopD (α := Nat × Int × List TLabel × Value × Nat × Nat) [9, 10, 16, 17, 18, 19, 20, 21, 22, 23, 24, 25, 26, 27, 28, 29, 30, 31, 32, 33, 34, 35, 36, 37, 38, 39, 40, 41, 42, 43, 44, 45, 46, 47, 48, 49, 50, 51, 52, 53, 54, 55, 56, 57, 58, 59, 60, 61, 62, 63] (fun ⟨n1, a5, a6, vy7, zy7, gy7⟩ => [(9, .int .i64 a5)]) (fun ⟨n1, a5, a6, vy7, zy7, gy7⟩ wr => (fixN (ref03_SecretOf_L1 p0 p1 p2 x1) n1 (a5, a6) = some r) ∧ Own wr zy7 gy7 81 18 vy7 (a6.map TLabel.cs) ∧ Hdn (zy7 = 0 ∨ w6.heap.size ≤ gy7) ∧ Bx wr b4 74 (TSecret.cs (TSecret.mk p2 a6 (TPoint.mk 0#64 0#64)) vy7) ∧ Kz [(1, b4)] w6 wr) (fun ⟨n1, a5, a6, vy7, zy7, gy7⟩ => n1) ⟨FUEL, 0, [], (.slice none 0 0), 0, 0⟩ ?_ ?_ ?_
  · repeat' first | exact trivial | refine ⟨rfl, ?_⟩
  · exact ⟨hm, (own_nil _ 0 81 18), ⟨(.inl rfl)⟩, B14, Kz.refl _ _⟩
  · clear hm; rintro ⟨n1, a5, a6, vy7, zy7, gy7⟩ w7 ⟨hm, Fw7_0, Fw7_1, Fw7_2, Kw7⟩
    have z15 := Kw7.size
    have lt16 := Fw7_0.lth
    have lt17 := Fw7_2.lt
    have hb := fix_succ hm; clear hm; obtain ⟨n1, rfl, hm⟩ := hb
    generalize hrec1 : fixN (ref03_SecretOf_L1 p0 p1 p2 x1) n1 = rec1 at hm
    unfold ref03_SecretOf_L1 at hm
    try dsimp only at hm
    refine sw_seq ?_
    refine sw_seq ?_
    -- region 4 ref.go:333
    refine sw_region [(0, 0), (1, 0), (2, 0), (3, 0)] rfl rfl rfl ?_
    refine sd_vv rfl rfl rfl (vv_move rfl) ?_
    refine sd_vv rfl rfl rfl (vv_move rfl) ?_
    have B18 := (Own.kz O6_r0_s Kw7 (tk1 ((pv_0 (A := (fun x => x ≠ b4)) f6_r0_s) : z6_r0_s = 0 ∨ g6_r0_s ≠ b4)))
    refine sd_vv rfl rfl rfl (vv_lenT (l := x1) (c := TSubset.cs) Try.underlying48 rfl (Own.rd B18)) ?_
    refine sd_vv rfl rfl rfl (vv_lss (a := a5) (b := (x1.length : Int)) rfl rfl) ?_
    refine sd_done ?_
    refine sw_cond rfl (fun c1 => ?_) (fun c1 => ?_)
    ·
      replace hm := ite_t (of_decide_eq_true c1) hm
      refine sw_skip ?_
      refine then_n ?_
      refine sw_seq ?_
      refine sw_block ?_
      have X19 : Gr w w7 := (Gr.kz X13 Kw7)
      refine sw_joinD (β := W2 × Nat) [10, 22, 23, 24, 25, 26, 27, 28] (fun ⟨a9, bq8⟩ => [(10, .pointer (some ⟨bq8, 0, none⟩))]) (fun ⟨a9, bq8⟩ wr => (ref03_SecretOf_J2 p0 x1 a5 a6 rec1 a9 = some r) ∧ Bx wr bq8 26 (kb a9) ∧ w7.heap.size ≤ bq8 ∧ Kz [] w7 wr) ?_ ?_
      · clear hm; rintro ⟨a9, bq8⟩ w8 ⟨hm, Fw8_0, Fw8_1, Kw8⟩
        have z20 := Kw8.size
        have lt21 := Fw8_0.lt
        unfold ref03_SecretOf_J2 at hm
        have X22 : Gr w w8 := (Gr.kz X19 Kw8)
        refine sw_joinD (β := W2) [29, 30, 31, 32, 33, 34, 35, 36, 37, 38, 39, 40, 41, 42, 43, 44, 45, 46] (fun a10 => []) (fun a10 wr => (ref03_SecretOf_J3 x1 a5 a6 rec1 a10 = some r) ∧ Bx wr bq8 26 (kb a10) ∧ Kz [(1, bq8)] w8 wr) ?_ ?_
        · clear hm; rintro a10 w9 ⟨hm, Fw9_0, Kw9⟩
          have z23 := Kw9.size
          have lt24 := Fw9_0.lt
          unfold ref03_SecretOf_J3 at hm
          -- region 9 ref.go:338 DRAWS
          refine sw_drawN [([b4] ++ zf zy7 gy7), ([] ++ zf zy7 gy7)] [(17, [1])] (.leaf [(0, 10), (1, 11), (2, 10), (3, 10), (4, 10), (5, 10), (6, 10), (7, 10), (8, 10), (9, 10), (10, 10), (11, 10), (12, 10), (13, 10), (14, 0), (15, 0), (16, 10), (17, 0)]) (by kernel_rfl) (by kernel_rfl) rfl (by kernel_rfl) ?_
          intro w10 Gw10 zw10
          refine sdz_leaf ?_
          refine dd_hn 0 rfl rfl rfl rfl (Kp.refl ([b4] ++ zf zy7 gy7) w10) (fun w hS => vv_fieldAddr fa_74_1 rfl) ?_
          have B25 := (Bx.gr (Bx.kz (Bx.kz Fw7_2 Kw8) Kw9) Gw10)
          refine dd_hn 1 rfl rfl rfl rfl (Kp.refl ([] ++ zf zy7 gy7) w10) (fun w hS => vv_load1 (v := vy7) one_70 rfl (Bx.kp B25 hS (tk1 ((pv_0 (A := (fun x => x ≠ b4)) Fw7_1) : zy7 = 0 ∨ gy7 ≠ b4))) rfl) ?_
          refine dd_hn 0 rfl rfl rfl rfl (Kp.refl ([b4] ++ zf zy7 gy7) w10) (fun w hS => vv_move rfl) ?_
          refine dd_hn 0 rfl rfl rfl rfl (Kp.refl ([b4] ++ zf zy7 gy7) w10) (fun w hS => vv_move rfl) ?_
          have hb := bnd hm; clear hm; obtain ⟨y11, hy11, hm⟩ := hb
          have B26 := (Own.gr (Own.kz (Own.kz B18 Kw8) Kw9 (tk1 ((pv_lt (A := (fun x => x ≠ bq8)) lt12) : z6_r0_s = 0 ∨ g6_r0_s ≠ bq8))) Gw10)
          refine dd_hn 0 rfl rfl rfl rfl (Kp.refl ([b4] ++ zf zy7 gy7) w10) (fun w hS => vv_ixT (i := a5) Try.underlying48 (agg_47).siz rfl (Own.rd (Own.kp B26 hS (tk2 ((pv_0 (A := (fun x => x ≠ b4)) f6_r0_s) : z6_r0_s = 0 ∨ g6_r0_s ≠ b4) ((pv_sw (pv_0 (A := (fun x => z6_r0_s = 0 ∨ x ≠ g6_r0_s)) Fw7_1 (fun x hx => (tk1 lt12.o)))) : z6_r0_s = 0 ∨ zy7 = 0 ∨ g6_r0_s ≠ gy7)))) rfl hy11) ?_
          refine dd_hn 0 rfl rfl rfl rfl (Kp.refl ([b4] ++ zf zy7 gy7) w10) (fun w hS => vv_fieldAddr fa_47_0 rfl) ?_
          refine dd_hn 0 rfl rfl rfl rfl (Kp.refl ([b4] ++ zf zy7 gy7) w10) (fun w hS => vv_el1T (q := 0) (u := .int .i64 y11.Node) one_3 rfl (Own.rd (Own.kp B26 hS (tk2 ((pv_0 (A := (fun x => x ≠ b4)) f6_r0_s) : z6_r0_s = 0 ∨ g6_r0_s ≠ b4) ((pv_sw (pv_0 (A := (fun x => z6_r0_s = 0 ∨ x ≠ g6_r0_s)) Fw7_1 (fun x hx => (tk1 lt12.o)))) : z6_r0_s = 0 ∨ zy7 = 0 ∨ g6_r0_s ≠ gy7)))) hy11 (by first | rfl | omega) rfl) ?_
          refine dd_hn 0 rfl rfl rfl rfl (Kp.refl ([b4] ++ zf zy7 gy7) w10) (fun w hS => vv_move rfl) ?_
          refine dd_hn 0 rfl rfl rfl rfl (Kp.refl ([b4] ++ zf zy7 gy7) w10) (fun w hS => vv_move rfl) ?_
          have hb := bnd hm; clear hm; obtain ⟨y12, hy12, hm⟩ := hb
          refine dd_hn 0 rfl rfl rfl rfl (Kp.refl ([b4] ++ zf zy7 gy7) w10) (fun w hS => vv_ixT (i := a5) Try.underlying48 (agg_47).siz rfl (Own.rd (Own.kp B26 hS (tk2 ((pv_0 (A := (fun x => x ≠ b4)) f6_r0_s) : z6_r0_s = 0 ∨ g6_r0_s ≠ b4) ((pv_sw (pv_0 (A := (fun x => z6_r0_s = 0 ∨ x ≠ g6_r0_s)) Fw7_1 (fun x hx => (tk1 lt12.o)))) : z6_r0_s = 0 ∨ zy7 = 0 ∨ g6_r0_s ≠ gy7)))) rfl hy12) ?_
          refine dd_hn 0 rfl rfl rfl rfl (Kp.refl ([b4] ++ zf zy7 gy7) w10) (fun w hS => vv_fieldAddr fa_47_1 rfl) ?_
          refine dd_hn 0 rfl rfl rfl rfl (Kp.refl ([b4] ++ zf zy7 gy7) w10) (fun w hS => vv_el1T (q := 1) (u := .int .i64 y12.Minus) one_3 rfl (Own.rd (Own.kp B26 hS (tk2 ((pv_0 (A := (fun x => x ≠ b4)) f6_r0_s) : z6_r0_s = 0 ∨ g6_r0_s ≠ b4) ((pv_sw (pv_0 (A := (fun x => z6_r0_s = 0 ∨ x ≠ g6_r0_s)) Fw7_1 (fun x hx => (tk1 lt12.o)))) : z6_r0_s = 0 ∨ zy7 = 0 ∨ g6_r0_s ≠ gy7)))) hy12 (by first | rfl | omega) rfl) ?_
          have B27 := (Bx.gr Fw9_0 Gw10)
          refine dd_hn 0 rfl rfl rfl rfl (Kp.refl ([b4] ++ zf zy7 gy7) w10) (fun w hS => vv_loadW agg_26 rfl (Bx.kp B27 hS (tk1 ((pv_lt (A := (fun x => x ≠ bq8)) lt16) : zy7 = 0 ∨ gy7 ≠ bq8))) rfl) ?_
          refine dd_hn 0 rfl rfl rfl rfl (Kp.refl ([b4] ++ zf zy7 gy7) w10) (fun w hS => vv_build (cs := TLabel.cs (TLabel.mk y11.Node y12.Minus a10)) bs_81 rfl (fill_M rfl rfl rfl (fill_M rfl rfl rfl (fill_M rfl rfl rfl (by kernel_rfl))))) ?_
          refine dd_z [] rfl rfl rfl (ev_litT [(TLabel.mk y11.Node y12.Minus a10)] TLabel.cs bsl_70_1 rfl rfl (ws_of rfl) rfl rfl rfl) ⟨fun _ => tk0, fun _ => tk0, trivial⟩ ?_
          rintro vw11 w11 ⟨gw11, hbw11, Ow11, Gw11⟩
          have z28 := Gw11.size
          have lt29 := Ow11.lth
          refine ⟨Kz.ofGr Gw11, ?_⟩
          have B30 := (Own.gr (Own.gr (Own.kz (Own.kz Fw7_0 Kw8) Kw9 (tk1 ((pv_lt (A := (fun x => x ≠ bq8)) lt16) : zy7 = 0 ∨ gy7 ≠ bq8))) Gw10) Gw11)
          have hb := bnd hm; clear hm; obtain ⟨l13, hl13, hm⟩ := hb
          refine dd_z [(zy7, gy7)] rfl rfl rfl (ev_appT (l := a6) (m := [(TLabel.mk y11.Node y12.Minus a10)]) (c := TLabel.cs) apt_70 rfl rfl B30 (Own.rd Ow11) hl13 (by decide)) ⟨fun _ => (tk1 (tk0 : zy7 = 0 ∨ (gy7 = gy7 ∧ zy7 ≠ 0) ∨ w10.heap.size ≤ gy7)), fun _ => (tk1 (tk0 : zy7 = 0 ∨ (gy7 = gy7 ∧ zy7 ≠ 0) ∨ w10.heap.size ≤ gy7)), trivial⟩ ?_
          rintro vw12 w12 ⟨zw12, gw12, Ow12, Aw12, qw12, rw12⟩
          have z31 := Aw12.size
          refine ⟨Kz.ofKa Aw12, ?_⟩
          have S32 := (Kp.ka (Kp.gr (Kp.refl ([b4] ++ zf zy7 gy7) w10) Gw11) Aw12 (tk1 (tk0 : zy7 = 0 ∨ (gy7 = gy7 ∧ zy7 ≠ 0) ∨ w10.heap.size ≤ gy7)))
          refine dd_hn 0 rfl rfl rfl rfl S32 (fun w hS => vv_fieldAddr fa_74_1 rfl) ?_
          have B33 := (Bx.ka (Bx.gr B25 Gw11) Aw12 (tk1 ((pv_0 (A := (fun x => x ≠ b4)) Fw7_1) : zy7 = 0 ∨ gy7 ≠ b4)))
          refine dd_z [(1, b4)] rfl rfl rfl (ev_st1 (cs' := TSecret.cs (TSecret.mk p2 l13 (TPoint.mk 0#64 0#64)) vw12) (one_70).siz rfl rfl (Own.oneB Ow12) B33 rfl rfl) ⟨fun _ => tk0, nofun, trivial⟩ ?_
          rintro _ w13 ⟨Bw13, Mw13⟩
          have z34 := Mw13.size
          refine ⟨Kz.ofMd Mw13, ?_⟩
          refine sd_nil ?_
          refine block_n ?_
          refine then_n ?_
          -- region 5 ref.go:333
          refine sw_region [(0, 0), (1, 0), (2, 0)] rfl rfl rfl ?_
          refine sd_vv rfl rfl rfl (vv_move rfl) ?_
          refine sd_vv rfl rfl rfl (vv_add (k := .i64) (a := a5) (b := 1) rfl rfl) ?_
          refine sd_vv rfl rfl rfl (vv_assign rfl) ?_
          refine sd_nil ?_
          have K_35 : Kz [(1, b4)] w6 w13 := (Kz.md (Kz.ka (Kz.gr (Kz.gr (Kz.kz (Kz.kz Kw7 Kw8) Kw9) Gw10) Gw11) Aw12 (tk1 ((pv_0 (A := (fun x => w6.heap.size ≤ x)) Fw7_1) : zy7 = 0 ∨ w6.heap.size ≤ gy7))) Mw13)
          have B36 := (Own.md Ow12 Mw13 (tk1 ((pv_app (A := (fun x => x ≠ b4)) rw12 (pv_0 (A := (fun x => x ≠ b4)) Fw7_1)) : zw12 = 0 ∨ gw12 ≠ b4)))
          subst hrec1
          refine ⟨rfl, ⟨n1, w64 (a5 + 1), l13, vw12, zw12, gw12⟩, ?_, ⟨hm, B36, ⟨(pv_app (A := (fun x => w6.heap.size ≤ x)) rw12 (pv_0 (A := (fun x => w6.heap.size ≤ x)) Fw7_1))⟩, Bw13, K_35⟩, Nat.lt_succ_self _⟩
          repeat' first | exact trivial | refine ⟨rfl, ?_⟩
        ·
          refine sw_seq ?_
          -- region 7 ref.go:335
          refine sw_region [(0, 0), (1, 0), (2, 0), (3, 0), (4, 0), (5, 0)] rfl rfl rfl ?_
          refine sd_vv rfl rfl rfl (vv_move rfl) ?_
          refine sd_vv rfl rfl rfl (vv_move rfl) ?_
          have hb := bnd hm; clear hm; obtain ⟨y14, hy14, hm⟩ := hb
          have B37 := (Own.kz B18 Kw8)
          refine sd_vv rfl rfl rfl (vv_ixT (i := a5) Try.underlying48 (agg_47).siz rfl (Own.rd B37) rfl hy14) ?_
          refine sd_vv rfl rfl rfl (vv_fieldAddr fa_47_1 rfl) ?_
          refine sd_vv rfl rfl rfl (vv_el1T (q := 1) (u := .int .i64 y14.Minus) one_3 rfl (Own.rd B37) hy14 (by first | rfl | omega) rfl) ?_
          refine sd_vv rfl rfl rfl (vv_neq (a := y14.Minus) (b := 0) rfl rfl) ?_
          refine sd_done ?_
          refine sw_cond rfl (fun c2 => ?_) (fun c2 => ?_)
          ·
            replace hm := ite_t (of_decide_eq_true c2) hm
            -- region 8 ref.go:336 DRAWS
            refine sw_drawN [([bq8])] [] (.leaf [(0, 10), (1, 10), (2, 10), (3, 10), (4, 10), (5, 10), (6, 10), (7, 10), (8, 10), (9, 10), (10, 10), (11, 0), (12, 0)]) (by kernel_rfl) (by kernel_rfl) rfl (by kernel_rfl) ?_
            intro w14 Gw14 zw14
            refine sdz_leaf ?_
            have B38 := (Bx.gr (Bx.kz (Bx.kz (Bx.gr (Bx.md (Bx.gr (Bx.gr (Bx.gr Bw1 Gw2) Gw3) Gw4) Mw5) Gw6) Kw7) Kw8) Gw14)
            refine dd_hn 0 rfl rfl rfl rfl (Kp.refl ([bq8]) w14) (fun w hS => vv_loadW agg_26 rfl (Bx.kp B38 hS) rfl) ?_
            refine dd_hn 0 rfl rfl rfl rfl (Kp.refl ([bq8]) w14) (fun w hS => vv_move rfl) ?_
            refine dd_hn 0 rfl rfl rfl rfl (Kp.refl ([bq8]) w14) (fun w hS => vv_move rfl) ?_
            have hb := bnd hm; clear hm; obtain ⟨y15, hy15, hm⟩ := hb
            have B39 := (Own.gr B37 Gw14)
            refine dd_hn 0 rfl rfl rfl rfl (Kp.refl ([bq8]) w14) (fun w hS => vv_ixT (i := a5) Try.underlying48 (agg_47).siz rfl (Own.rd (Own.kp B39 hS (tk1 ((pv_lt (A := (fun x => x ≠ bq8)) lt12) : z6_r0_s = 0 ∨ g6_r0_s ≠ bq8)))) rfl hy15) ?_
            refine dd_hn 0 rfl rfl rfl rfl (Kp.refl ([bq8]) w14) (fun w hS => vv_fieldAddr fa_47_0 rfl) ?_
            refine dd_hn 0 rfl rfl rfl rfl (Kp.refl ([bq8]) w14) (fun w hS => vv_el1T (q := 0) (u := .int .i64 y15.Node) one_3 rfl (Own.rd (Own.kp B39 hS (tk1 ((pv_lt (A := (fun x => x ≠ bq8)) lt12) : z6_r0_s = 0 ∨ g6_r0_s ≠ bq8)))) hy15 (by first | rfl | omega) rfl) ?_
            refine dd_hn 0 rfl rfl rfl rfl (Kp.refl ([bq8]) w14) (fun w hS => vv_move rfl) ?_
            refine dd_hn 0 rfl rfl rfl rfl (Kp.refl ([bq8]) w14) (fun w hS => vv_move rfl) ?_
            have hb := bnd hm; clear hm; obtain ⟨y16, hy16, hm⟩ := hb
            refine dd_hn 0 rfl rfl rfl rfl (Kp.refl ([bq8]) w14) (fun w hS => vv_ixT (i := a5) Try.underlying48 (agg_47).siz rfl (Own.rd (Own.kp B39 hS (tk1 ((pv_lt (A := (fun x => x ≠ bq8)) lt12) : z6_r0_s = 0 ∨ g6_r0_s ≠ bq8)))) rfl hy16) ?_
            refine dd_hn 0 rfl rfl rfl rfl (Kp.refl ([bq8]) w14) (fun w hS => vv_fieldAddr fa_47_1 rfl) ?_
            refine dd_hn 0 rfl rfl rfl rfl (Kp.refl ([bq8]) w14) (fun w hS => vv_el1T (q := 1) (u := .int .i64 y16.Minus) one_3 rfl (Own.rd (Own.kp B39 hS (tk1 ((pv_lt (A := (fun x => x ≠ bq8)) lt12) : z6_r0_s = 0 ∨ g6_r0_s ≠ bq8)))) hy16 (by first | rfl | omega) rfl) ?_
            have hb := bnd hm; clear hm; obtain ⟨x17, hx17, hm⟩ := hb
            refine dd_z [] rfl rfl rfl (ev_call en_142 rfl (ref03_label_w p0 y15.Node y16.Minus _ hx17 _)) ⟨fun _ => tk0, trivial⟩ ?_
            rintro _ w15 ⟨rfl, Gw15⟩
            have z40 := Gw15.size
            refine ⟨Kz.ofGr Gw15, ?_⟩
            have B41 := (Bx.gr (Bx.gr Fw8_0 Gw14) Gw15)
            refine dd_z [(1, bq8)] rfl rfl rfl (ev_stM (cs' := kb x17) (vs := kb x17) (agg_26).siz rfl rfl rfl rfl rfl B41 rfl rfl) ⟨fun _ => tk0, trivial⟩ ?_
            rintro _ w16 ⟨Bw16, Mw16⟩
            have z42 := Mw16.size
            refine ⟨Kz.ofMd Mw16, ?_⟩
            refine sd_nil ?_
            have K_43 : Kz [(1, bq8)] w8 w16 := (Kz.md (Kz.gr (Kz.gr (Kz.refl _ _) Gw14) Gw15) Mw16)
            refine ⟨rfl, x17, ?_, hm, Bw16, K_43⟩
            repeat' first | exact trivial | refine ⟨rfl, ?_⟩
          ·
            replace hm := ite_f (of_decide_eq_false c2) hm
            refine sw_skip ?_
            have K_44 : Kz [(1, bq8)] w8 w8 := (Kz.refl _ _)
            refine ⟨rfl, a9, ?_, hm, Fw8_0, K_44⟩
            repeat' first | exact trivial | refine ⟨rfl, ?_⟩
      ·
        -- region 6 ref.go:334 DRAWS
        refine sw_drawN [([])] [] (.fork [(0, 10), (1, 10), (2, 10), (3, 10), (4, 10), (5, 10)] (.leaf [(6, 0), (7, 0), (8, 0)]) (.leaf [(7, 0), (6, 0), (8, 0)])) (by kernel_rfl) (by kernel_rfl) rfl (by kernel_rfl) ?_
        intro w17 Gw17 zw17
        refine sdz_fork ?_
        have B45 := (Bx.gr (Bx.kz (Bx.gr (Bx.md (Bx.gr (Bx.gr (Bx.gr Bw1 Gw2) Gw3) Gw4) Mw5) Gw6) Kw7) Gw17)
        refine dd_hn 0 rfl rfl rfl rfl (Kp.refl ([]) w17) (fun w hS => vv_loadW agg_26 rfl (Bx.kp B45 hS) rfl) ?_
        have B46 := (Bx.gr (Bx.kz (Bx.gr B10 Gw6) Kw7) Gw17)
        refine dd_hn 0 rfl rfl rfl rfl (Kp.refl ([]) w17) (fun w hS => vv_loadW agg_45 rfl (Bx.kp B46 hS) rfl) ?_
        refine dd_hn 0 rfl rfl rfl rfl (Kp.refl ([]) w17) (fun w hS => vv_move rfl) ?_
        refine dd_hn 0 rfl rfl rfl rfl (Kp.refl ([]) w17) (fun w hS => vv_move rfl) ?_
        have hb := bnd hm; clear hm; obtain ⟨y18, hy18, hm⟩ := hb
        have B47 := (Own.gr B18 Gw17)
        refine dd_hn 0 rfl rfl rfl rfl (Kp.refl ([]) w17) (fun w hS => vv_ixT (i := a5) Try.underlying48 (agg_47).siz rfl (Own.rd (Own.kp B47 hS)) rfl hy18) ?_
        refine dd_hn 0 rfl rfl rfl rfl (Kp.refl ([]) w17) (fun w hS => vv_elWT agg_47 rfl (Own.rd (Own.kp B47 hS)) hy18 (by first | rfl | omega)) ?_
        refine sd_fork ?_ ?_
        ·
          refine sdz_leaf ?_
          have hb := bnd hm; clear hm; obtain ⟨x19, hx19, hm⟩ := hb
          refine dd_z [] rfl rfl rfl (ev_call en_91 rfl (ref03_KeyOf_w p0 p1 y18 _ hx19 _)) ⟨fun _ => tk0, trivial⟩ ?_
          rintro _ w18 ⟨rfl, Gw18⟩
          have z48 := Gw18.size
          refine ⟨Kz.ofGr Gw18, ?_⟩
          refine dd_z [] rfl rfl rfl (ev_alloc (cs := kb k0) zv_26 rfl) ⟨fun _ => tk0, trivial⟩ ?_
          rintro _ w19 ⟨b19, rfl, hbw19, Bw19, Gw19⟩
          have z49 := Gw19.size
          have lt50 := Bw19.lt
          refine ⟨Kz.ofGr Gw19, ?_⟩
          refine dd_z [(1, b19)] rfl rfl rfl (ev_stM (cs' := kb x19) (vs := kb x19) (agg_26).siz rfl rfl rfl rfl rfl Bw19 rfl rfl) ⟨fun _ => tk0, trivial⟩ ?_
          rintro _ w20 ⟨Bw20, Mw20⟩
          have z51 := Mw20.size
          refine ⟨Kz.ofMd Mw20, ?_⟩
          refine sd_nil ?_
          have K_52 : Kz [] w7 w20 := (Kz.md (Kz.gr (Kz.gr (Kz.gr (Kz.refl _ _) Gw17) Gw18) Gw19) Mw20)
          refine ⟨rfl, ⟨x19, b19⟩, ?_, hm, Bw20, (by omega), K_52⟩
          repeat' first | exact trivial | refine ⟨rfl, ?_⟩
        ·
          refine sdz_leaf ?_
          refine dd_z [] rfl rfl rfl (ev_alloc (cs := kb k0) zv_26 rfl) ⟨fun _ => tk0, trivial⟩ ?_
          rintro _ w21 ⟨b21, rfl, hbw21, Bw21, Gw21⟩
          have z53 := Gw21.size
          have lt54 := Bw21.lt
          refine ⟨Kz.ofGr Gw21, ?_⟩
          have hb := bnd hm; clear hm; obtain ⟨x20, hx20, hm⟩ := hb
          refine dd_z [] rfl rfl rfl (ev_call en_91 rfl (ref03_KeyOf_w p0 p1 y18 _ hx20 _)) ⟨fun _ => tk0, trivial⟩ ?_
          rintro _ w22 ⟨rfl, Gw22⟩
          have z55 := Gw22.size
          refine ⟨Kz.ofGr Gw22, ?_⟩
          have B56 := (Bx.gr Bw21 Gw22)
          refine dd_z [(1, b21)] rfl rfl rfl (ev_stM (cs' := kb x20) (vs := kb x20) (agg_26).siz rfl rfl rfl rfl rfl B56 rfl rfl) ⟨fun _ => tk0, trivial⟩ ?_
          rintro _ w23 ⟨Bw23, Mw23⟩
          have z57 := Mw23.size
          refine ⟨Kz.ofMd Mw23, ?_⟩
          refine sd_nil ?_
          have K_58 : Kz [] w7 w23 := (Kz.md (Kz.gr (Kz.gr (Kz.gr (Kz.refl _ _) Gw17) Gw21) Gw22) Mw23)
          refine ⟨rfl, ⟨x20, b21⟩, ?_, hm, Bw23, (by omega), K_58⟩
          repeat' first | exact trivial | refine ⟨rfl, ?_⟩
    ·
      replace hm := ite_f (of_decide_eq_false c1) hm
      refine sw_exit ?_
      refine then_x ?_
      refine then_x ?_
      refine block_x ?_
      refine then_n ?_
      refine sw_seq ?_
      -- region 10 ref.go:340
      refine sw_region [(0, 0), (1, 0)] rfl rfl rfl ?_
      refine sd_vv rfl rfl rfl (vv_loadW agg_74 rfl Fw7_2 rfl) ?_
      have B59 := (Bx.kz (Bx.gr (Bx.md (Bx.gr Bw3 Gw4) Mw5) Gw6) Kw7)
      refine sd_ev rfl rfl rfl (ev_stM (cs' := TSecret.cs (TSecret.mk p2 a6 (TPoint.mk 0#64 0#64)) vy7) (vs := TSecret.cs (TSecret.mk p2 a6 (TPoint.mk 0#64 0#64)) vy7) (agg_74).siz rfl rfl rfl rfl (TSecret.cs_ones _ _ (Own.oneB Fw7_0)) B59 rfl rfl) ?_
      rintro _ w24 ⟨Bw24, Mw24⟩
      have z60 := Mw24.size
      refine sd_done ?_
      refine sw_ret ?_
      have B61 := (Own.md Fw7_0 Mw24 (tk1 ((pv_0 (A := (fun x => x ≠ b3)) Fw7_1) : zy7 = 0 ∨ gy7 ≠ b3)))
      have X62 : Gr w w24 := (Gr.md (Gr.kz X13 Kw7) Mw24)
      have hr := Option.some.inj hm
      subst hr
      refine ⟨_, _, rfl, res_1 rfl (rv_cellW agg_74 rfl Bw24 rfl), ?_⟩
      exact ⟨vy7, zy7, gy7, rfl, B61, ⟨(pv_0 (A := (fun x => w.heap.size ≤ x)) Fw7_1)⟩, X62⟩

set_option maxHeartbeats 2000000 in
theorem ref03_Secret_w (p0 : W2) (p1 : TScheme) (p2 : Int)  (r : TSecret × Int) (hm : ref03_Secret p0 p1 p2 = some r) (w : World)   :
    Calls Try.prog 41 [kv p0, .agg (TScheme.cs p1).toArray, .int .i64 p2].toArray w fun e w' => ∃ v, e = .returned v ∧ (∃ (ur0_1 : Value) (zr0_1 : Nat) (gr0_1 : Nat), v = .tuple [.agg (TSecret.cs r.1 ur0_1).toArray, .int .i64 r.2].toArray ∧ Own w' zr0_1 gr0_1 81 18 ur0_1 (r.1.Labels.map TLabel.cs) ∧ Hdn (zr0_1 = 0 ∨ w.heap.size ≤ gr0_1) ∧ Gr w w') := by
  unfold ref03_Secret at hm
  refine calls_of_sw (R := fun v w' => ∃ (ur0_1 : Value) (zr0_1 : Nat) (gr0_1 : Nat), v = .tuple [.agg (TSecret.cs r.1 ur0_1).toArray, .int .i64 r.2].toArray ∧ Own w' zr0_1 gr0_1 81 18 ur0_1 (r.1.Labels.map TLabel.cs) ∧ Hdn (zr0_1 = 0 ∨ w.heap.size ≤ gr0_1) ∧ Gr w w') 22 Try.func41 rfl rfl rfl ?_
  refine sw_seq ?_
  -- region 0 ref.go:355
  refine sw_region [(0, 0), (1, 0), (2, 0), (3, 0)] rfl rfl rfl ?_
  refine sd_ev rfl rfl rfl (ev_box (cs := kb p0) rfl rfl) ?_
  rintro _ w1 ⟨b1, rfl, hbw1, Bw1, Gw1⟩
  have z1 := Gw1.size
  have lt2 := Bw1.lt
  refine sd_ev rfl rfl rfl (ev_box (cs := TScheme.cs p1) rfl rfl) ?_
  rintro _ w2 ⟨b2, rfl, hbw2, Bw2, Gw2⟩
  have z3 := Gw2.size
  have lt4 := Bw2.lt
  refine sd_ev rfl rfl rfl (ev_alloc (cs := TSecret.cs (TSecret.mk 0 [] (TPoint.mk 0#64 0#64)) (.slice none 0 0)) zv_74 rfl) ?_
  rintro _ w3 ⟨b3, rfl, hbw3, Bw3, Gw3⟩
  have z5 := Gw3.size
  have lt6 := Bw3.lt
  refine sd_vv rfl rfl rfl (vv_assign rfl) ?_
  refine sd_done ?_
  refine sw_seq ?_
  refine sw_seq ?_
  -- region 1 ref.go:356
  refine sw_region [(0, 0), (1, 0), (2, 0)] rfl rfl rfl ?_
  have B7 := (Bx.gr Bw2 Gw3)
  refine sd_vv rfl rfl rfl (vv_loadW agg_45 rfl B7 rfl) ?_
  have hb := bnd hm; clear hm; obtain ⟨x1, hx1, hm⟩ := hb
  refine sd_ev rfl rfl rfl (ev_call en_59 rfl (ref03_Valid_w p1 _ hx1 _)) ?_
  rintro _ w4 ⟨rfl, Gw4⟩
  have z8 := Gw4.size
  refine sd_vv rfl rfl rfl (vv_not rfl) ?_
  refine sd_done ?_
  refine sw_cond rfl (fun c1 => ?_) (fun c1 => ?_)
  ·
    replace hm := cnd_t c1 hm
    refine sw_seq ?_
    -- region 2 ref.go:357
    refine sw_region [(0, 0), (1, 0), (2, 0)] rfl rfl rfl ?_
    refine sd_vv rfl rfl rfl (vv_build (cs := TSecret.cs (TSecret.mk 0 [] (TPoint.mk 0#64 0#64)) (.slice none 0 0)) bs_74 rfl rfl) ?_
    have B9 := (Bx.gr Bw3 Gw4)
    refine sd_ev rfl rfl rfl (ev_stM (cs' := TSecret.cs (TSecret.mk 0 [] (TPoint.mk 0#64 0#64)) (.slice none 0 0)) (vs := TSecret.cs (TSecret.mk 0 [] (TPoint.mk 0#64 0#64)) (.slice none 0 0)) (agg_74).siz rfl rfl rfl rfl (TSecret.cs_ones _ _ rfl) B9 rfl rfl) ?_
    rintro _ w5 ⟨Bw5, Mw5⟩
    have z10 := Mw5.size
    refine sd_vv rfl rfl rfl (vv_assign rfl) ?_
    refine sd_done ?_
    refine sw_ret ?_
    refine then_r ?_
    have X11 : Gr w w5 := (Gr.md (Gr.trans (Gr.trans (Gr.trans (Gr.trans (Gr.refl w) Gw1) Gw2) Gw3) Gw4) Mw5)
    have hr := Option.some.inj hm
    subst hr
    refine ⟨_, _, rfl, res_2 rfl (rv_cellW agg_74 rfl Bw5 rfl) (rv_tmp rfl), ?_⟩
    exact ⟨(.slice none 0 0), 0, 0, rfl, (own_nil _ 0 81 18), ⟨.inl rfl⟩, X11⟩
  ·
    replace hm := cnd_f c1 hm
    refine sw_skip ?_
    refine then_n ?_
    refine sw_seq ?_
    refine sw_seq ?_
    -- region 3 ref.go:359
    refine sw_region [(0, 0), (1, 0), (2, 0), (3, 0), (4, 0)] rfl rfl rfl ?_
    refine sd_vv rfl rfl rfl (vv_fieldAddr fa_45_1 rfl) ?_
    have B12 := (Bx.gr B7 Gw4)
    refine sd_vv rfl rfl rfl (vv_load1 (v := .int .i64 p1.Depth) one_3 rfl B12 rfl) ?_
    refine sd_vv rfl rfl rfl (vv_move rfl) ?_
    have hb := bnd hm; clear hm; obtain ⟨x2, hx2, hm⟩ := hb
    refine sd_ev rfl rfl rfl (ev_call en_95 rfl (ref03_receiver_w p1.Depth p2 _ hx2 _)) ?_
    rintro _ w6 ⟨rfl, Gw6⟩
    have z13 := Gw6.size
    refine sd_vv rfl rfl rfl (vv_not rfl) ?_
    refine sd_done ?_
    refine sw_cond rfl (fun c2 => ?_) (fun c2 => ?_)
    ·
      replace hm := cnd_t c2 hm
      refine sw_seq ?_
      -- region 4 ref.go:360
      refine sw_region [(0, 0), (1, 0), (2, 0)] rfl rfl rfl ?_
      refine sd_vv rfl rfl rfl (vv_build (cs := TSecret.cs (TSecret.mk 0 [] (TPoint.mk 0#64 0#64)) (.slice none 0 0)) bs_74 rfl rfl) ?_
      have B14 := (Bx.gr (Bx.gr Bw3 Gw4) Gw6)
      refine sd_ev rfl rfl rfl (ev_stM (cs' := TSecret.cs (TSecret.mk 0 [] (TPoint.mk 0#64 0#64)) (.slice none 0 0)) (vs := TSecret.cs (TSecret.mk 0 [] (TPoint.mk 0#64 0#64)) (.slice none 0 0)) (agg_74).siz rfl rfl rfl rfl (TSecret.cs_ones _ _ rfl) B14 rfl rfl) ?_
      rintro _ w7 ⟨Bw7, Mw7⟩
      have z15 := Mw7.size
      refine sd_vv rfl rfl rfl (vv_assign rfl) ?_
      refine sd_done ?_
      refine sw_ret ?_
      refine then_r ?_
      have X16 : Gr w w7 := (Gr.md (Gr.trans (Gr.trans (Gr.trans (Gr.trans (Gr.trans (Gr.refl w) Gw1) Gw2) Gw3) Gw4) Gw6) Mw7)
      have hr := Option.some.inj hm
      subst hr
      refine ⟨_, _, rfl, res_2 rfl (rv_cellW agg_74 rfl Bw7 rfl) (rv_tmp rfl), ?_⟩
      exact ⟨(.slice none 0 0), 0, 0, rfl, (own_nil _ 0 81 18), ⟨.inl rfl⟩, X16⟩
    ·
      replace hm := cnd_f c2 hm
      refine sw_skip ?_
      refine then_n ?_
      refine sw_seq ?_
      -- region 5 ref.go:362
      refine sw_region [(0, 0), (1, 0), (2, 0), (3, 0), (4, 0), (5, 0)] rfl rfl rfl ?_
      have B17 := (Bx.gr (Bx.gr (Bx.gr (Bx.gr Bw1 Gw2) Gw3) Gw4) Gw6)
      refine sd_vv rfl rfl rfl (vv_loadW agg_26 rfl B17 rfl) ?_
      have B18 := (Bx.gr B12 Gw6)
      refine sd_vv rfl rfl rfl (vv_loadW agg_45 rfl B18 rfl) ?_
      refine sd_vv rfl rfl rfl (vv_move rfl) ?_
      have hb := bnd hm; clear hm; obtain ⟨x3, hx3, hm⟩ := hb
      refine sd_ev rfl rfl rfl (ev_call en_96 rfl (ref03_SecretOf_w p0 p1 p2 _ hx3 _)) ?_
      rintro _ w8 ⟨u8_r0_1, z8_r0_1, g8_r0_1, rfl, O8_r0_1, f8_r0_1, Gw8⟩
      have z19 := Gw8.size
      have lt20 := O8_r0_1.lth
      have B21 := (Bx.gr (Bx.gr (Bx.gr Bw3 Gw4) Gw6) Gw8)
      refine sd_ev rfl rfl rfl (ev_stM (cs' := TSecret.cs x3 u8_r0_1) (vs := TSecret.cs x3 u8_r0_1) (agg_74).siz rfl rfl rfl rfl (TSecret.cs_ones _ _ (Own.oneB O8_r0_1)) B21 rfl rfl) ?_
      rintro _ w9 ⟨Bw9, Mw9⟩
      have z22 := Mw9.size
      refine sd_vv rfl rfl rfl (vv_assign rfl) ?_
      refine sd_done ?_
      refine sw_ret ?_
      have B23 := (Own.md O8_r0_1 Mw9 (tk1 ((pv_0 (A := (fun x => x ≠ b3)) f8_r0_1) : z8_r0_1 = 0 ∨ g8_r0_1 ≠ b3)))
      have X24 : Gr w w9 := (Gr.md (Gr.trans (Gr.trans (Gr.trans (Gr.trans (Gr.trans (Gr.trans (Gr.refl w) Gw1) Gw2) Gw3) Gw4) Gw6) Gw8) Mw9)
      have hr := Option.some.inj hm
      subst hr
      refine ⟨_, _, rfl, res_2 rfl (rv_cellW agg_74 rfl Bw9 rfl) (rv_tmp rfl), ?_⟩
      exact ⟨u8_r0_1, z8_r0_1, g8_r0_1, rfl, B23, ⟨(pv_0 (A := (fun x => w.heap.size ≤ x)) f8_r0_1)⟩, X24⟩

set_option maxHeartbeats 2000000 in
theorem cover_Work_w (p0 : TScheme) (p1 : Int) (p2 : TSubset)  (r : Int × Int) (hm : cover_Work p0 p1 p2 = some r) (w : World)   :
    Calls Try.prog 50 [.agg (TScheme.cs p0).toArray, .int .i64 p1, .agg (TSubset.cs p2).toArray].toArray w fun e w' => ∃ v, e = .returned v ∧ (v = .tuple [.int .i64 r.1, .int .i64 r.2].toArray ∧ Gr w w') := by
  unfold cover_Work at hm
  refine calls_of_sw (R := fun v w' => v = .tuple [.int .i64 r.1, .int .i64 r.2].toArray ∧ Gr w w') 49 Try.func50 rfl rfl rfl ?_
  refine sw_seq ?_
  -- region 0 cover.go:235
  refine sw_region [(0, 0), (1, 0), (2, 0), (3, 0)] rfl rfl rfl ?_
  refine sd_ev rfl rfl rfl (ev_box (cs := TScheme.cs p0) rfl rfl) ?_
  rintro _ w1 ⟨b1, rfl, hbw1, Bw1, Gw1⟩
  have z1 := Gw1.size
  have lt2 := Bw1.lt
  refine sd_ev rfl rfl rfl (ev_box (cs := TSubset.cs p2) rfl rfl) ?_
  rintro _ w2 ⟨b2, rfl, hbw2, Bw2, Gw2⟩
  have z3 := Gw2.size
  have lt4 := Bw2.lt
  refine sd_ev rfl rfl rfl (ev_alloc (cs := [.int .i64 0]) zv_3 rfl) ?_
  rintro _ w3 ⟨b3, rfl, hbw3, Bw3, Gw3⟩
  have z5 := Gw3.size
  have lt6 := Bw3.lt
  refine sd_ev rfl rfl rfl (ev_alloc (cs := [.int .i64 0]) zv_31 rfl) ?_
  rintro _ w4 ⟨b4, rfl, hbw4, Bw4, Gw4⟩
  have z7 := Gw4.size
  have lt8 := Bw4.lt
  refine sd_done ?_
  refine sw_seq ?_
  -- region 1 cover.go:236
  refine sw_region [(0, 0), (1, 0), (2, 0), (3, 0), (4, 0), (5, 0), (6, 0), (7, 0)] rfl rfl rfl ?_
  have B9 := (Bx.gr (Bx.gr (Bx.gr Bw1 Gw2) Gw3) Gw4)
  refine sd_vv rfl rfl rfl (vv_loadW agg_45 rfl B9 rfl) ?_
  have hb := bnd hm; clear hm; obtain ⟨x1, hx1, hm⟩ := hb
  refine sd_ev rfl rfl rfl (ev_call en_74 rfl (cover_enter_w p0 ([] : List TSubset) _ _ _ _ _ hx1 _ (Own.rd (own_nil _ 0 47 2)))) ?_
  rintro _ w5 ⟨rfl, Gw5⟩
  have z10 := Gw5.size
  refine sd_vv rfl rfl rfl (vv_move rfl) ?_
  refine sd_vv rfl rfl rfl (vv_extract rfl rfl) ?_
  refine sd_vv rfl rfl rfl (vv_extract rfl rfl) ?_
  refine sd_ev rfl rfl rfl (ev_alloc (cs := Tcover_tree.cs (Tcover_tree.mk 0#8 0 0)) zv_134 rfl) ?_
  rintro _ w6 ⟨b6, rfl, hbw6, Bw6, Gw6⟩
  have z11 := Gw6.size
  have lt12 := Bw6.lt
  refine sd_ev rfl rfl rfl (ev_stM (cs' := Tcover_tree.cs x1.1) (vs := Tcover_tree.cs x1.1) (agg_134).siz rfl rfl rfl rfl rfl Bw6 rfl rfl) ?_
  rintro _ w7 ⟨Bw7, Mw7⟩
  have z13 := Mw7.size
  refine sd_vv rfl rfl rfl (vv_assign rfl) ?_
  refine sd_done ?_
  refine sw_seq ?_
  refine sw_seq ?_
  -- region 2 cover.go:237
  refine sw_region [(0, 0), (1, 0)] rfl rfl rfl ?_
  refine sd_vv rfl rfl rfl (vv_move rfl) ?_
  refine sd_vv rfl rfl rfl (vv_neq (a := x1.2) (b := 0) rfl rfl) ?_
  refine sd_done ?_
  refine sw_cond rfl (fun c1 => ?_) (fun c1 => ?_)
  ·
    replace hm := ite_t (of_decide_eq_true c1) hm
    refine sw_seq ?_
    -- region 3 cover.go:238
    refine sw_region [(0, 0), (1, 0), (2, 0)] rfl rfl rfl ?_
    refine sd_vv rfl rfl rfl (vv_move rfl) ?_
    have B14 := (Bx.md (Bx.gr (Bx.gr (Bx.gr Bw3 Gw4) Gw5) Gw6) Mw7)
    refine sd_ev rfl rfl rfl (ev_st1 (cs' := [.int .i64 0]) (one_3).siz rfl rfl rfl B14 rfl rfl) ?_
    rintro _ w8 ⟨Bw8, Mw8⟩
    have z15 := Mw8.size
    have B16 := (Bx.md (Bx.md (Bx.gr (Bx.gr Bw4 Gw5) Gw6) Mw7) Mw8)
    refine sd_ev rfl rfl rfl (ev_st1 (cs' := [.int .i64 x1.2]) (one_31).siz rfl rfl rfl B16 rfl rfl) ?_
    rintro _ w9 ⟨Bw9, Mw9⟩
    have z17 := Mw9.size
    refine sd_done ?_
    refine sw_ret ?_
    refine then_r ?_
    have B18 := (Bx.md Bw8 Mw9)
    have X19 : Gr w w9 := (Gr.md (Gr.md (Gr.md (Gr.trans (Gr.trans (Gr.trans (Gr.trans (Gr.trans (Gr.trans (Gr.refl w) Gw1) Gw2) Gw3) Gw4) Gw5) Gw6) Mw7) Mw8) Mw9)
    have hr := Option.some.inj hm
    subst hr
    refine ⟨_, _, rfl, res_2 rfl (rv_cell1 one_3 rfl B18) (rv_cell1 one_31 rfl Bw9), ?_⟩
    exact ⟨rfl, X19⟩
  ·
    replace hm := ite_f (of_decide_eq_false c1) hm
    refine sw_skip ?_
    refine then_n ?_
    refine sw_seq ?_
    refine sw_seq ?_
    -- region 4 cover.go:240
    refine sw_region [(0, 0), (1, 0), (2, 0), (3, 0)] rfl rfl rfl ?_
    refine sd_vv rfl rfl rfl (vv_loadW agg_134 rfl Bw7 rfl) ?_
    refine sd_vv rfl rfl rfl (vv_move rfl) ?_
    have hb := bnd hm; clear hm; obtain ⟨x2, hx2, hm⟩ := hb
    refine sd_ev rfl rfl rfl (ev_call en_92 rfl (cover_tree_receiver_w x1.1 p1 _ hx2 _)) ?_
    rintro _ w10 ⟨rfl, Gw10⟩
    have z20 := Gw10.size
    refine sd_vv rfl rfl rfl (vv_not rfl) ?_
    refine sd_done ?_
    refine sw_cond rfl (fun c2 => ?_) (fun c2 => ?_)
    ·
      replace hm := cnd_t c2 hm
      refine sw_seq ?_
      -- region 5 cover.go:241
      refine sw_region [(0, 0), (1, 0)] rfl rfl rfl ?_
      have B21 := (Bx.gr (Bx.md (Bx.gr (Bx.gr (Bx.gr Bw3 Gw4) Gw5) Gw6) Mw7) Gw10)
      refine sd_ev rfl rfl rfl (ev_st1 (cs' := [.int .i64 0]) (one_3).siz rfl rfl rfl B21 rfl rfl) ?_
      rintro _ w11 ⟨Bw11, Mw11⟩
      have z22 := Mw11.size
      have B23 := (Bx.md (Bx.gr (Bx.md (Bx.gr (Bx.gr Bw4 Gw5) Gw6) Mw7) Gw10) Mw11)
      refine sd_ev rfl rfl rfl (ev_st1 (cs' := [.int .i64 2]) (one_31).siz rfl rfl rfl B23 rfl rfl) ?_
      rintro _ w12 ⟨Bw12, Mw12⟩
      have z24 := Mw12.size
      refine sd_done ?_
      refine sw_ret ?_
      refine then_r ?_
      have B25 := (Bx.md Bw11 Mw12)
      have X26 : Gr w w12 := (Gr.md (Gr.md (Gr.trans (Gr.md (Gr.trans (Gr.trans (Gr.trans (Gr.trans (Gr.trans (Gr.trans (Gr.refl w) Gw1) Gw2) Gw3) Gw4) Gw5) Gw6) Mw7) Gw10) Mw11) Mw12)
      have hr := Option.some.inj hm
      subst hr
      refine ⟨_, _, rfl, res_2 rfl (rv_cell1 one_3 rfl B25) (rv_cell1 one_31 rfl Bw12), ?_⟩
      exact ⟨rfl, X26⟩
    ·
      replace hm := cnd_f c2 hm
      refine sw_skip ?_
      refine then_n ?_
      refine sw_seq ?_
      refine sw_seq ?_
      -- region 6 cover.go:243
      refine sw_region [(0, 0), (1, 0), (2, 0), (3, 0)] rfl rfl rfl ?_
      have B27 := (Bx.gr Bw7 Gw10)
      refine sd_vv rfl rfl rfl (vv_loadW agg_134 rfl B27 rfl) ?_
      have B28 := (Bx.gr (Bx.md (Bx.gr (Bx.gr (Bx.gr (Bx.gr Bw2 Gw3) Gw4) Gw5) Gw6) Mw7) Gw10)
      refine sd_vv rfl rfl rfl (vv_loadW agg_47 rfl B28 rfl) ?_
      have hb := bnd hm; clear hm; obtain ⟨x3, hx3, hm⟩ := hb
      refine sd_ev rfl rfl rfl (ev_call en_79 rfl (cover_tree_subset_w x1.1 p2 _ hx3 _)) ?_
      rintro _ w13 ⟨rfl, Gw13⟩
      have z29 := Gw13.size
      refine sd_vv rfl rfl rfl (vv_not rfl) ?_
      refine sd_done ?_
      refine sw_cond rfl (fun c3 => ?_) (fun c3 => ?_)
      ·
        replace hm := cnd_t c3 hm
        refine sw_seq ?_
        -- region 7 cover.go:244
        refine sw_region [(0, 0), (1, 0)] rfl rfl rfl ?_
        have B30 := (Bx.gr (Bx.gr (Bx.md (Bx.gr (Bx.gr (Bx.gr Bw3 Gw4) Gw5) Gw6) Mw7) Gw10) Gw13)
        refine sd_ev rfl rfl rfl (ev_st1 (cs' := [.int .i64 0]) (one_3).siz rfl rfl rfl B30 rfl rfl) ?_
        rintro _ w14 ⟨Bw14, Mw14⟩
        have z31 := Mw14.size
        have B32 := (Bx.md (Bx.gr (Bx.gr (Bx.md (Bx.gr (Bx.gr Bw4 Gw5) Gw6) Mw7) Gw10) Gw13) Mw14)
        refine sd_ev rfl rfl rfl (ev_st1 (cs' := [.int .i64 31]) (one_31).siz rfl rfl rfl B32 rfl rfl) ?_
        rintro _ w15 ⟨Bw15, Mw15⟩
        have z33 := Mw15.size
        refine sd_done ?_
        refine sw_ret ?_
        refine then_r ?_
        have B34 := (Bx.md Bw14 Mw15)
        have X35 : Gr w w15 := (Gr.md (Gr.md (Gr.trans (Gr.trans (Gr.md (Gr.trans (Gr.trans (Gr.trans (Gr.trans (Gr.trans (Gr.trans (Gr.refl w) Gw1) Gw2) Gw3) Gw4) Gw5) Gw6) Mw7) Gw10) Gw13) Mw14) Mw15)
        have hr := Option.some.inj hm
        subst hr
        refine ⟨_, _, rfl, res_2 rfl (rv_cell1 one_3 rfl B34) (rv_cell1 one_31 rfl Bw15), ?_⟩
        exact ⟨rfl, X35⟩
      ·
        replace hm := cnd_f c3 hm
        refine sw_skip ?_
        refine then_n ?_
        refine sw_seq ?_
        refine sw_seq ?_
        -- region 8 cover.go:246
        refine sw_region [(0, 0), (1, 0), (2, 0)] rfl rfl rfl ?_
        have B36 := (Bx.gr B27 Gw13)
        refine sd_vv rfl rfl rfl (vv_loadW agg_134 rfl B36 rfl) ?_
        refine sd_vv rfl rfl rfl (vv_move rfl) ?_
        have hb := bnd hm; clear hm; obtain ⟨x4, hx4, hm⟩ := hb
        refine sd_ev rfl rfl rfl (ev_call en_82 rfl (cover_tree_labels_w x1.1 p1 _ hx4 _)) ?_
        rintro _ w16 ⟨k16_c0_0, k16_c0_1, rfl, O16_c0_0, f16_c0_0, O16_c0_1, f16_c0_1, Gw16⟩
        have z37 := Gw16.size
        have lt38 := O16_c0_0.lt
        have lt39 := O16_c0_1.lt
        refine sd_done ?_
        refine sw_block ?_
        have hb := bnd hm; clear hm; obtain ⟨l5, hl5, hm⟩ := hb
        have X40 : Gr w w16 := (Gr.trans (Gr.trans (Gr.trans (Gr.md (Gr.trans (Gr.trans (Gr.trans (Gr.trans (Gr.trans (Gr.trans (Gr.refl w) Gw1) Gw2) Gw3) Gw4) Gw5) Gw6) Mw7) Gw10) Gw13) Gw16)
        have B41 := (Bx.gr (Bx.gr (Bx.gr (Bx.md (Bx.gr (Bx.gr B9 Gw5) Gw6) Mw7) Gw10) Gw13) Gw16)
        have B42 := (Bx.gr (Bx.gr B28 Gw13) Gw16)
        have B43 := (Bx.gr (Bx.gr (Bx.gr (Bx.md (Bx.gr (Bx.gr (Bx.gr Bw3 Gw4) Gw5) Gw6) Mw7) Gw10) Gw13) Gw16)
        have B44 := (Bx.gr (Bx.gr (Bx.gr (Bx.md (Bx.gr (Bx.gr Bw4 Gw5) Gw6) Mw7) Gw10) Gw13) Gw16)
        have B45 := (Bx.gr B36 Gw16)
        refine sw_rangeFunc (gf := 129) rfl en_129 (cover_tree_labels_1_it x4.1 x4.2 _ _ _ hl5 _ O16_c0_0 O16_c0_1) (by intro x hx; obtain ⟨a, _, rfl⟩ := List.mem_map.1 hx; rfl) rfl _ _ ([b3, b4]) (stb_mk (α := Int) (fun a7 rk => itL (cover_Work_R1 p2 x1) cover_Work_D1 (List.drop rk l5) a7 = some r) (fun a7 => ([b3, b4])) (fun a7 W => Bx W b3 3 ([.int .i64 a7]) ∧ Bx W b4 31 ([.int .i64 0]) ∧ True) (by rintro a7 W ⟨F0, F1, _⟩ b hb; have q0 := F0.lt; have q1 := F1.lt; replace hb : b ∈ ([b3, b4]) := hb; simp only [List.mem_cons, List.mem_append, mem_zf, List.not_mem_nil, or_false, false_or, not_or, ne_eq, List.nil_append, List.cons_append, true_and, and_true, false_and, and_false, not_true_eq_false, not_false_eq_true, or_true, true_or] at hb; omega) (by rintro a7 W W' ⟨F0, F1, _⟩ E hs; replace hs : ∀ b ∈ ([b3, b4]), W'.heap[b]? = W.heap[b]? := hs; exact ⟨(hs _ (by simp)).trans F0, (hs _ (by simp)).trans F1, trivial⟩)) (fun c => (stb_c (c = .ret) (stb_mk (α := Int) (fun a7 rk => cover_Work_X1_0 a7 = some r) (fun a7 => ([b3, b4])) (fun a7 W => Bx W b3 3 ([.int .i64 a7]) ∧ Bx W b4 31 ([.int .i64 0]) ∧ True) (by rintro a7 W ⟨F0, F1, _⟩ b hb; have q0 := F0.lt; have q1 := F1.lt; replace hb : b ∈ ([b3, b4]) := hb; simp only [List.mem_cons, List.mem_append, mem_zf, List.not_mem_nil, or_false, false_or, not_or, ne_eq, List.nil_append, List.cons_append, true_and, and_true, false_and, and_false, not_true_eq_false, not_false_eq_true, or_true, true_or] at hb; omega) (by rintro a7 W W' ⟨F0, F1, _⟩ E hs; replace hs : ∀ b ∈ ([b3, b4]), W'.heap[b]? = W.heap[b]? := hs; exact ⟨(hs _ (by simp)).trans F0, (hs _ (by simp)).trans F1, trivial⟩)))) (by intro b hb; simp only [List.mem_cons, List.mem_append, mem_zf, List.not_mem_nil, or_false, false_or, not_or, ne_eq, List.nil_append, List.cons_append, true_and, and_true, false_and, and_false, not_true_eq_false, not_false_eq_true, or_true, true_or] at hb ⊢; omega) ⟨0, hm, rfl, B43, B44, trivial⟩ ?_ ?_ ?_
        · rintro l rk x fp w17 hl hx _ Kw17 hF hln hlt
          clear hm
          obtain ⟨⟨e8, e9⟩, hxe, rfl⟩ := map_some hx
          have Zw17 : Kz [(1, b3), (1, b4)] w16 w17 := kz_of_kp Kw17 (by intro k hk; simp only [Nin, and_true, List.mem_cons, List.mem_append, mem_zf, List.not_mem_nil, or_false, false_or, not_or, ne_eq, List.nil_append, List.cons_append, true_and, and_true, false_and, and_false, not_true_eq_false, not_false_eq_true, or_true, true_or] at hk ⊢; omega)
          have z46 := Kw17.size
          refine sw_seq ?_
          -- region 9 cover.go:246
          refine sw_region [(0, 0)] rfl rfl rfl ?_
          refine sd_vv rfl rfl rfl (vv_assign rfl) ?_
          refine sd_done ?_
          -- region 10 cover.go:246
          refine sw_region [(0, 0)] rfl rfl rfl ?_
          refine sd_vv rfl rfl rfl (vv_assign rfl) ?_
          refine sd_nil ?_
          refine ⟨rfl, (Gr.refl _), ?_⟩
          rintro w18 Mw18 ⟨a7, hm, rfl, Fw18_0, Fw18_1, -⟩
          have z47 := Mw18.size
          have lt48 := Fw18_0.lt
          have lt49 := Fw18_1.lt
          replace hm := itL_at hm hxe
          generalize hnx1 : itL (cover_Work_R1 p2 x1) cover_Work_D1 (List.drop (rk + 1) l5) = nx1 at hm
          unfold cover_Work_R1 at hm
          try dsimp only at hm
          refine sw_block ?_
          refine sw_seq ?_
          refine sw_seq ?_
          -- region 11 cover.go:247
          refine sw_region [(0, 0), (1, 0), (2, 0), (3, 0), (4, 0), (5, 0), (6, 0)] rfl rfl rfl ?_
          have B50 := (Bx.md (Bx.kz B45 Zw17) Mw18)
          refine sd_vv rfl rfl rfl (vv_loadW agg_134 rfl B50 rfl) ?_
          refine sd_vv rfl rfl rfl (vv_move rfl) ?_
          refine sd_vv rfl rfl rfl (vv_move rfl) ?_
          refine sd_vv rfl rfl rfl (vv_build (cs := TLabel.cs (TLabel.mk e8 e9 k0)) bs_81 rfl (by kernel_rfl)) ?_
          have B51 := (Bx.md (Bx.kz B42 Zw17) Mw18)
          refine sd_vv rfl rfl rfl (vv_loadW agg_47 rfl B51 rfl) ?_
          have hb := bnd hm; clear hm; obtain ⟨x10, hx10, hm⟩ := hb
          refine sd_ev rfl rfl rfl (ev_call en_104 rfl (cover_tree_leads_w x1.1 (TLabel.mk e8 e9 k0) p2 _ hx10 _)) ?_
          rintro _ w19 ⟨rfl, Gw19⟩
          have z52 := Gw19.size
          refine sd_vv rfl rfl rfl (vv_not rfl) ?_
          refine sd_done ?_
          refine sw_cond rfl (fun c4 => ?_) (fun c4 => ?_)
          ·
            replace hm := cnd_t c4 hm
            refine sw_exit ?_
            refine then_x ?_
            refine block_x ?_
            have B54 := (Bx.gr Fw18_0 Gw19)
            have B55 := (Bx.gr Fw18_1 Gw19)
            have K_53 : Kz [(1, b3), (1, b4)] w18 w19 := (Kz.gr (Kz.refl _ _) Gw19)
            have Kq53 : Kp ([b3, b4]) w18 w19 := kp_of_kz K_53 (by intro k hk; simp only [Nin, and_true, List.mem_cons, List.mem_append, mem_zf, List.not_mem_nil, or_false, false_or, not_or, ne_eq, List.nil_append, List.cons_append, true_and, and_true, false_and, and_false, not_true_eq_false, not_false_eq_true, or_true, true_or] at hk ⊢; omega)
            subst hnx1
            exact ⟨Kq53, ([b3, b4]), (by intro c hc; simp only [List.mem_cons, List.mem_append, mem_zf, List.not_mem_nil, or_false, false_or, not_or, ne_eq, List.nil_append, List.cons_append, true_and, and_true, false_and, and_false, not_true_eq_false, not_false_eq_true, or_true, true_or] at hc ⊢; omega), ⟨a7, hm, rfl, B54, B55, trivial⟩⟩
          ·
            replace hm := cnd_f c4 hm
            refine sw_skip ?_
            refine then_n ?_
            refine sw_seq ?_
            refine sw_seq ?_
            -- region 12 cover.go:250
            refine sw_region [(0, 0), (1, 0)] rfl rfl rfl ?_
            refine sd_vv rfl rfl rfl (vv_move rfl) ?_
            refine sd_vv rfl rfl rfl (vv_eql (a := e9) (b := 0) rfl rfl) ?_
            refine sd_done ?_
            refine sw_cond rfl (fun c5 => ?_) (fun c5 => ?_)
            ·
              replace hm := ite_t (of_decide_eq_true c5) hm
              refine sw_seq ?_
              -- region 13 cover.go:251
              refine sw_region [(0, 0), (1, 0)] rfl rfl rfl ?_
              have B56 := (Bx.gr Fw18_0 Gw19)
              refine sd_ev rfl rfl rfl (ev_st1 (cs' := [.int .i64 0]) (one_3).siz rfl rfl rfl B56 rfl rfl) ?_
              rintro _ w20 ⟨Bw20, Mw20⟩
              have z57 := Mw20.size
              have B58 := (Bx.md (Bx.gr Fw18_1 Gw19) Mw20)
              refine sd_ev rfl rfl rfl (ev_st1 (cs' := [.int .i64 0]) (one_31).siz rfl rfl rfl B58 rfl rfl) ?_
              rintro _ w21 ⟨Bw21, Mw21⟩
              have z59 := Mw21.size
              refine sd_done ?_
              refine sw_ret ?_
              refine then_r ?_
              refine block_r ?_
              have B61 := (Bx.md Bw20 Mw21)
              have K_60 : Kz [(1, b3), (1, b4)] w18 w21 := (Kz.md (Kz.md (Kz.gr (Kz.refl _ _) Gw19) Mw20) Mw21)
              have Kq60 : Kp ([b3, b4]) w18 w21 := kp_of_kz K_60 (by intro k hk; simp only [Nin, and_true, List.mem_cons, List.mem_append, mem_zf, List.not_mem_nil, or_false, false_or, not_or, ne_eq, List.nil_append, List.cons_append, true_and, and_true, false_and, and_false, not_true_eq_false, not_false_eq_true, or_true, true_or] at hk ⊢; omega)
              exact ⟨Kq60, ([b3, b4]), (by intro c hc; simp only [List.mem_cons, List.mem_append, mem_zf, List.not_mem_nil, or_false, false_or, not_or, ne_eq, List.nil_append, List.cons_append, true_and, and_true, false_and, and_false, not_true_eq_false, not_false_eq_true, or_true, true_or] at hc ⊢; omega), ⟨rfl, 0, hm, rfl, B61, Bw21, trivial⟩⟩
            ·
              replace hm := ite_f (of_decide_eq_false c5) hm
              refine sw_skip ?_
              refine then_n ?_
              refine sw_seq ?_
              -- region 14 cover.go:253
              refine sw_region [(0, 0), (1, 0), (2, 0), (3, 0), (4, 0), (5, 0), (6, 0), (7, 0), (8, 0)] rfl rfl rfl ?_
              refine sd_vv rfl rfl rfl (vv_fieldAddr fa_47_1 rfl) ?_
              have B62 := (Bx.gr B51 Gw19)
              refine sd_vv rfl rfl rfl (vv_load1 (v := .int .i64 p2.Minus) one_3 rfl B62 rfl) ?_
              have hb := bnd hm; clear hm; obtain ⟨x11, hx11, hm⟩ := hb
              refine sd_ev rfl rfl rfl (ev_call en_105 rfl (cover_node_level_w p2.Minus _ hx11 _)) ?_
              rintro _ w22 ⟨rfl, Gw22⟩
              have z63 := Gw22.size
              refine sd_vv rfl rfl rfl (vv_move rfl) ?_
              have hb := bnd hm; clear hm; obtain ⟨x12, hx12, hm⟩ := hb
              refine sd_ev rfl rfl rfl (ev_call en_105 rfl (cover_node_level_w e9 _ hx12 _)) ?_
              rintro _ w23 ⟨rfl, Gw23⟩
              have z64 := Gw23.size
              refine sd_vv rfl rfl rfl (vv_sub (k := .i64) (a := x11) (b := x12) rfl rfl) ?_
              refine sd_vv rfl rfl rfl (vv_add (k := .i64) (a := w64 (x11 - x12)) (b := 1) rfl rfl) ?_
              have B65 := (Bx.gr (Bx.gr (Bx.gr Fw18_0 Gw19) Gw22) Gw23)
              refine sd_ev rfl rfl rfl (ev_st1 (cs' := [.int .i64 (w64 ((w64 (x11 - x12)) + 1))]) (one_3).siz rfl rfl rfl B65 rfl rfl) ?_
              rintro _ w24 ⟨Bw24, Mw24⟩
              have z66 := Mw24.size
              have B67 := (Bx.md (Bx.gr (Bx.gr (Bx.gr Fw18_1 Gw19) Gw22) Gw23) Mw24)
              refine sd_ev rfl rfl rfl (ev_st1 (cs' := [.int .i64 0]) (one_31).siz rfl rfl rfl B67 rfl rfl) ?_
              rintro _ w25 ⟨Bw25, Mw25⟩
              have z68 := Mw25.size
              refine sd_done ?_
              refine sw_ret ?_
              refine block_r ?_
              have B70 := (Bx.md Bw24 Mw25)
              have K_69 : Kz [(1, b3), (1, b4)] w18 w25 := (Kz.md (Kz.md (Kz.gr (Kz.gr (Kz.gr (Kz.refl _ _) Gw19) Gw22) Gw23) Mw24) Mw25)
              have Kq69 : Kp ([b3, b4]) w18 w25 := kp_of_kz K_69 (by intro k hk; simp only [Nin, and_true, List.mem_cons, List.mem_append, mem_zf, List.not_mem_nil, or_false, false_or, not_or, ne_eq, List.nil_append, List.cons_append, true_and, and_true, false_and, and_false, not_true_eq_false, not_false_eq_true, or_true, true_or] at hk ⊢; omega)
              exact ⟨Kq69, ([b3, b4]), (by intro c hc; simp only [List.mem_cons, List.mem_append, mem_zf, List.not_mem_nil, or_false, false_or, not_or, ne_eq, List.nil_append, List.cons_append, true_and, and_true, false_and, and_false, not_true_eq_false, not_false_eq_true, or_true, true_or] at hc ⊢; omega), ⟨rfl, w64 ((w64 (x11 - x12)) + 1), hm, rfl, B70, Bw25, trivial⟩⟩
        · clear hm; rintro Dw26 fp w26 hDw26 Dfw26 nw26 ⟨a7, hm, rfl, Fw26_0, Fw26_1, -⟩ Kw26
          replace hm := itL_end hm
          have Zw26 : Kz [(1, b3), (1, b4)] w16 w26 := kz_of_kp Kw26 (by intro k hk; simp only [Nin, and_true, List.mem_cons, List.mem_append, mem_zf, List.not_mem_nil, or_false, false_or, not_or, ne_eq, List.nil_append, List.cons_append, true_and, and_true, false_and, and_false, not_true_eq_false, not_false_eq_true, or_true, true_or] at hk ⊢; omega)
          have z71 := Kw26.size
          have lt72 := Df.lt (w := w26) Dfw26
          simp only [List.mem_cons, List.mem_append, mem_zf, List.not_mem_nil, or_false, false_or, not_or, ne_eq, List.nil_append, List.cons_append, true_and, and_true, false_and, and_false, not_true_eq_false, not_false_eq_true, or_true, true_or, not_and] at nw26
          have lt73 := Fw26_0.lt
          have lt74 := Fw26_1.lt
          unfold cover_Work_D1 at hm
          try dsimp only at hm
          refine block_n ?_
          refine then_n ?_
          refine sw_seq ?_
          -- region 15 cover.go:255
          refine sw_region [(0, 0), (1, 0)] rfl rfl rfl ?_
          refine sd_ev rfl rfl rfl (ev_st1 (cs' := [.int .i64 0]) (one_3).siz rfl rfl rfl Fw26_0 rfl rfl) ?_
          rintro _ w27 ⟨Bw27, Mw27⟩
          have z75 := Mw27.size
          have B76 := (Bx.md Fw26_1 Mw27)
          refine sd_ev rfl rfl rfl (ev_st1 (cs' := [.int .i64 6]) (one_31).siz rfl rfl rfl B76 rfl rfl) ?_
          rintro _ w28 ⟨Bw28, Mw28⟩
          have z77 := Mw28.size
          refine sd_done ?_
          refine sw_ret ?_
          have DL78 := (Df.md (Df.md Dfw26 Mw27) Mw28)
          have L78 := Md.put (w := w28) Dw26 (.deferred none)
          have zL78 := L78.size
          have B79 := (Bx.md (Bx.md Bw27 Mw28) L78)
          have B80 := (Bx.md Bw28 L78)
          have X81 : Gr w (w28.putObj Dw26 (.deferred none)) := (Gr.md (Gr.md (Gr.md (Gr.kz X40 Zw26) Mw27) Mw28) L78)
          have hr := Option.some.inj hm
          subst hr
          refine ⟨_, _, ⟨Dw26, rfl, DL78, rfl⟩, res_2 rfl (rv_cell1 one_3 rfl B79) (rv_cell1 one_31 rfl B80), ?_⟩
          exact ⟨rfl, X81⟩
        · clear hm; rintro Dw29 c rk fp w29 hDw29 Dfw29 nw29 hle ⟨rfl, a7, hm, rfl, Fw29_0, Fw29_1, -⟩ Kw29
          have Zw29 : Kz [(1, b3), (1, b4)] w16 w29 := kz_of_kp Kw29 (by intro k hk; simp only [Nin, and_true, List.mem_cons, List.mem_append, mem_zf, List.not_mem_nil, or_false, false_or, not_or, ne_eq, List.nil_append, List.cons_append, true_and, and_true, false_and, and_false, not_true_eq_false, not_false_eq_true, or_true, true_or] at hk ⊢; omega)
          have z82 := Kw29.size
          have lt83 := Df.lt (w := w29) Dfw29
          simp only [List.mem_cons, List.mem_append, mem_zf, List.not_mem_nil, or_false, false_or, not_or, ne_eq, List.nil_append, List.cons_append, true_and, and_true, false_and, and_false, not_true_eq_false, not_false_eq_true, or_true, true_or, not_and] at nw29
          have lt84 := Fw29_0.lt
          have lt85 := Fw29_1.lt
          unfold cover_Work_X1_0 at hm
          try dsimp only at hm
          refine sw_ret ?_
          refine block_r ?_
          refine then_r ?_
          have DL86 := Dfw29
          have L86 := Md.put (w := w29) Dw29 (.deferred none)
          have zL86 := L86.size
          have B87 := (Bx.md Fw29_0 L86)
          have B88 := (Bx.md Fw29_1 L86)
          have X89 : Gr w (w29.putObj Dw29 (.deferred none)) := (Gr.md (Gr.kz X40 Zw29) L86)
          have hr := Option.some.inj hm
          subst hr
          refine ⟨_, _, ⟨Dw29, rfl, DL86, rfl⟩, res_2 rfl (rv_cell1 one_3 rfl B87) (rv_cell1 one_31 rfl B88), ?_⟩
          exact ⟨rfl, X89⟩

set_option maxHeartbeats 2000000 in
theorem ref03_Known_w (p0 : TScheme) (p1 : Int) (p2 : TSubset)  (r : Int) (hm : ref03_Known p0 p1 p2 = some r) (w : World)   :
    Calls Try.prog 107 [.agg (TScheme.cs p0).toArray, .int .i64 p1, .agg (TSubset.cs p2).toArray].toArray w fun e w' => ∃ v, e = .returned v ∧ (v = .int .i64 r ∧ Gr w w') := by
  unfold ref03_Known at hm
  refine calls_of_sw (R := fun v w' => v = .int .i64 r ∧ Gr w w') 32 Try.func107 rfl rfl rfl ?_
  refine sw_seq ?_
  -- region 0 ref.go:400
  refine sw_region [(0, 0), (1, 0), (2, 0)] rfl rfl rfl ?_
  refine sd_ev rfl rfl rfl (ev_box (cs := TScheme.cs p0) rfl rfl) ?_
  rintro _ w1 ⟨b1, rfl, hbw1, Bw1, Gw1⟩
  have z1 := Gw1.size
  have lt2 := Bw1.lt
  refine sd_ev rfl rfl rfl (ev_box (cs := TSubset.cs p2) rfl rfl) ?_
  rintro _ w2 ⟨b2, rfl, hbw2, Bw2, Gw2⟩
  have z3 := Gw2.size
  have lt4 := Bw2.lt
  refine sd_vv rfl rfl rfl (vv_assign rfl) ?_
  refine sd_done ?_
  refine sw_seq ?_
  -- region 1 ref.go:401
  refine sw_region [(0, 0), (1, 0), (2, 0), (3, 0)] rfl rfl rfl ?_
  have B5 := (Bx.gr Bw1 Gw2)
  refine sd_vv rfl rfl rfl (vv_loadW agg_45 rfl B5 rfl) ?_
  refine sd_vv rfl rfl rfl (vv_move rfl) ?_
  have hb := bnd hm; clear hm; obtain ⟨x1, hx1, hm⟩ := hb
  refine sd_ev rfl rfl rfl (ev_call en_83 rfl (ref03_LabelsOf_w p0 p1 _ hx1 _)) ?_
  rintro u3_r0_s w3 ⟨_, z3_r0_s, g3_r0_s, rfl, O3_r0_s, f3_r0_s, Gw3⟩
  have z6 := Gw3.size
  have lt7 := O3_r0_s.lth
  refine sd_vv rfl rfl rfl (vv_assign rfl) ?_
  refine sd_done ?_
  refine sw_seq ?_
  refine sw_seq ?_
  -- region 2 ref.go:402
  refine sw_region [(0, 0)] rfl rfl rfl ?_
  refine sd_vv rfl rfl rfl (vv_assign rfl) ?_
  refine sd_done ?_
  refine sw_block ?_
  have X8 : Gr w w3 := (Gr.trans (Gr.trans (Gr.trans (Gr.refl w) Gw1) Gw2) Gw3)
  refine sw_loopD (α := Nat × Int) [6, 8, 12, 13, 14, 15, 16, 17, 18, 19, 20, 21, 22, 23, 24, 25, 26, 27, 28, 29, 30, 31] (fun ⟨n1, a3⟩ => [(6, .int .i64 0), (8, .int .i64 a3)]) (fun ⟨n1, a3⟩ wr => (fixN (ref03_Known_L1 p0 p2 x1) n1 a3 = some r) ∧ Kz [] w3 wr) (fun ⟨n1, a3⟩ => n1) ⟨FUEL, 0⟩ ?_ ?_ ?_
  · repeat' first | exact trivial | refine ⟨rfl, ?_⟩
  · exact ⟨hm, Kz.refl _ _⟩
  · clear hm; rintro ⟨n1, a3⟩ w4 ⟨hm, Kw4⟩
    have z9 := Kw4.size
    have hb := fix_succ hm; clear hm; obtain ⟨n1, rfl, hm⟩ := hb
    generalize hrec1 : fixN (ref03_Known_L1 p0 p2 x1) n1 = rec1 at hm
    unfold ref03_Known_L1 at hm
    try dsimp only at hm
    refine sw_seq ?_
    refine sw_seq ?_
    -- region 3 ref.go:402
    refine sw_region [(0, 0), (1, 0), (2, 0), (3, 0)] rfl rfl rfl ?_
    refine sd_vv rfl rfl rfl (vv_move rfl) ?_
    refine sd_vv rfl rfl rfl (vv_move rfl) ?_
    have B10 := (Own.kz O3_r0_s Kw4)
    refine sd_vv rfl rfl rfl (vv_lenT (l := x1) (c := TSubset.cs) Try.underlying48 rfl (Own.rd B10)) ?_
    refine sd_vv rfl rfl rfl (vv_lss (a := a3) (b := (x1.length : Int)) rfl rfl) ?_
    refine sd_done ?_
    refine sw_cond rfl (fun c1 => ?_) (fun c1 => ?_)
    ·
      replace hm := ite_t (of_decide_eq_true c1) hm
      refine sw_skip ?_
      refine then_n ?_
      refine sw_seq ?_
      refine sw_block ?_
      refine sw_seq ?_
      -- region 5 ref.go:403 DRAWS
      refine sw_drawN [([])] [] (.leaf [(0, 10), (1, 10), (2, 10), (3, 10), (4, 10), (5, 10), (6, 10), (7, 10), (8, 10), (9, 10), (10, 10), (11, 10), (12, 0)]) (by kernel_rfl) (by kernel_rfl) rfl (by kernel_rfl) ?_
      intro w5 Gw5 zw5
      refine sdz_leaf ?_
      have B11 := (Bx.gr (Bx.kz (Bx.gr B5 Gw3) Kw4) Gw5)
      refine dd_hn 0 rfl rfl rfl rfl (Kp.refl ([]) w5) (fun w hS => vv_loadW agg_45 rfl (Bx.kp B11 hS) rfl) ?_
      refine dd_hn 0 rfl rfl rfl rfl (Kp.refl ([]) w5) (fun w hS => vv_move rfl) ?_
      refine dd_hn 0 rfl rfl rfl rfl (Kp.refl ([]) w5) (fun w hS => vv_move rfl) ?_
      have hb := bnd hm; clear hm; obtain ⟨y4, hy4, hm⟩ := hb
      have B12 := (Own.gr B10 Gw5)
      refine dd_hn 0 rfl rfl rfl rfl (Kp.refl ([]) w5) (fun w hS => vv_ixT (i := a3) Try.underlying48 (agg_47).siz rfl (Own.rd (Own.kp B12 hS)) rfl hy4) ?_
      refine dd_hn 0 rfl rfl rfl rfl (Kp.refl ([]) w5) (fun w hS => vv_fieldAddr fa_47_0 rfl) ?_
      refine dd_hn 0 rfl rfl rfl rfl (Kp.refl ([]) w5) (fun w hS => vv_el1T (q := 0) (u := .int .i64 y4.Node) one_3 rfl (Own.rd (Own.kp B12 hS)) hy4 (by first | rfl | omega) rfl) ?_
      refine dd_hn 0 rfl rfl rfl rfl (Kp.refl ([]) w5) (fun w hS => vv_move rfl) ?_
      refine dd_hn 0 rfl rfl rfl rfl (Kp.refl ([]) w5) (fun w hS => vv_move rfl) ?_
      have hb := bnd hm; clear hm; obtain ⟨y5, hy5, hm⟩ := hb
      refine dd_hn 0 rfl rfl rfl rfl (Kp.refl ([]) w5) (fun w hS => vv_ixT (i := a3) Try.underlying48 (agg_47).siz rfl (Own.rd (Own.kp B12 hS)) rfl hy5) ?_
      refine dd_hn 0 rfl rfl rfl rfl (Kp.refl ([]) w5) (fun w hS => vv_fieldAddr fa_47_1 rfl) ?_
      refine dd_hn 0 rfl rfl rfl rfl (Kp.refl ([]) w5) (fun w hS => vv_el1T (q := 1) (u := .int .i64 y5.Minus) one_3 rfl (Own.rd (Own.kp B12 hS)) hy5 (by first | rfl | omega) rfl) ?_
      have B13 := (Bx.gr (Bx.kz (Bx.gr Bw2 Gw3) Kw4) Gw5)
      refine dd_hn 0 rfl rfl rfl rfl (Kp.refl ([]) w5) (fun w hS => vv_loadW agg_47 rfl (Bx.kp B13 hS) rfl) ?_
      have hb := bnd hm; clear hm; obtain ⟨x6, hx6, hm⟩ := hb
      refine dd_z [] rfl rfl rfl (ev_call en_145 rfl (ref03_leads_w p0 y4.Node y5.Minus p2 _ hx6 _)) ⟨fun _ => tk0, trivial⟩ ?_
      rintro _ w6 ⟨rfl, Gw6⟩
      have z14 := Gw6.size
      refine ⟨Kz.ofGr Gw6, ?_⟩
      refine sd_done ?_
      refine sw_cond rfl (fun c2 => ?_) (fun c2 => ?_)
      ·
        replace hm := cnd_t c2 hm
        refine sw_seq ?_
        -- region 6 ref.go:404
        refine sw_region [(0, 0), (1, 0)] rfl rfl rfl ?_
        refine sd_vv rfl rfl rfl (vv_move rfl) ?_
        refine sd_vv rfl rfl rfl (vv_assign rfl) ?_
        refine sd_done ?_
        refine sw_ret ?_
        refine block_r ?_
        refine then_r ?_
        refine then_r ?_
        refine block_r ?_
        refine then_r ?_
        have X15 : Gr w w6 := (Gr.trans (Gr.trans (Gr.kz X8 Kw4) Gw5) Gw6)
        have hr := Option.some.inj hm
        subst hr
        refine ⟨_, _, rfl, res_1 rfl (rv_tmp rfl), ?_⟩
        exact ⟨rfl, X15⟩
      ·
        replace hm := cnd_f c2 hm
        refine sw_skip ?_
        refine block_n ?_
        refine then_n ?_
        -- region 4 ref.go:402
        refine sw_region [(0, 0), (1, 0), (2, 0)] rfl rfl rfl ?_
        refine sd_vv rfl rfl rfl (vv_move rfl) ?_
        refine sd_vv rfl rfl rfl (vv_add (k := .i64) (a := a3) (b := 1) rfl rfl) ?_
        refine sd_vv rfl rfl rfl (vv_assign rfl) ?_
        refine sd_nil ?_
        have K_16 : Kz [] w3 w6 := (Kz.gr (Kz.gr Kw4 Gw5) Gw6)
        subst hrec1
        refine ⟨rfl, ⟨n1, w64 (a3 + 1)⟩, ?_, ⟨hm, K_16⟩, Nat.lt_succ_self _⟩
        repeat' first | exact trivial | refine ⟨rfl, ?_⟩
    ·
      replace hm := ite_f (of_decide_eq_false c1) hm
      refine sw_exit ?_
      refine then_x ?_
      refine then_x ?_
      refine block_x ?_
      refine then_n ?_
      refine sw_seq ?_
      -- region 7 ref.go:407
      refine sw_region [(0, 0)] rfl rfl rfl ?_
      refine sd_vv rfl rfl rfl (vv_assign rfl) ?_
      refine sd_done ?_
      refine sw_ret ?_
      have X17 : Gr w w4 := (Gr.kz X8 Kw4)
      have hr := Option.some.inj hm
      subst hr
      refine ⟨_, _, rfl, res_1 rfl (rv_tmp rfl), ?_⟩
      exact ⟨rfl, X17⟩

set_option maxHeartbeats 2000000 in
theorem ref03_Work_w (p0 : TScheme) (p1 : Int) (p2 : TSubset)  (r : Int × Int) (hm : ref03_Work p0 p1 p2 = some r) (w : World)   :
    Calls Try.prog 51 [.agg (TScheme.cs p0).toArray, .int .i64 p1, .agg (TSubset.cs p2).toArray].toArray w fun e w' => ∃ v, e = .returned v ∧ (v = .tuple [.int .i64 r.1, .int .i64 r.2].toArray ∧ Gr w w') := by
  unfold ref03_Work at hm
  refine calls_of_sw (R := fun v w' => v = .tuple [.int .i64 r.1, .int .i64 r.2].toArray ∧ Gr w w') 49 Try.func51 rfl rfl rfl ?_
  refine sw_seq ?_
  -- region 0 ref.go:426
  refine sw_region [(0, 0), (1, 0), (2, 0), (3, 0)] rfl rfl rfl ?_
  refine sd_ev rfl rfl rfl (ev_box (cs := TScheme.cs p0) rfl rfl) ?_
  rintro _ w1 ⟨b1, rfl, hbw1, Bw1, Gw1⟩
  have z1 := Gw1.size
  have lt2 := Bw1.lt
  refine sd_ev rfl rfl rfl (ev_box (cs := TSubset.cs p2) rfl rfl) ?_
  rintro _ w2 ⟨b2, rfl, hbw2, Bw2, Gw2⟩
  have z3 := Gw2.size
  have lt4 := Bw2.lt
  refine sd_vv rfl rfl rfl (vv_assign rfl) ?_
  refine sd_vv rfl rfl rfl (vv_assign rfl) ?_
  refine sd_done ?_
  refine sw_seq ?_
  refine sw_seq ?_
  -- region 1 ref.go:427
  refine sw_region [(0, 0), (1, 0), (2, 0)] rfl rfl rfl ?_
  have B5 := (Bx.gr Bw1 Gw2)
  refine sd_vv rfl rfl rfl (vv_loadW agg_45 rfl B5 rfl) ?_
  have hb := bnd hm; clear hm; obtain ⟨x1, hx1, hm⟩ := hb
  refine sd_ev rfl rfl rfl (ev_call en_59 rfl (ref03_Valid_w p0 _ hx1 _)) ?_
  rintro _ w3 ⟨rfl, Gw3⟩
  have z6 := Gw3.size
  refine sd_vv rfl rfl rfl (vv_not rfl) ?_
  refine sd_done ?_
  refine sw_cond rfl (fun c1 => ?_) (fun c1 => ?_)
  ·
    replace hm := cnd_t c1 hm
    refine sw_seq ?_
    -- region 2 ref.go:428
    refine sw_region [(0, 0), (1, 0)] rfl rfl rfl ?_
    refine sd_vv rfl rfl rfl (vv_assign rfl) ?_
    refine sd_vv rfl rfl rfl (vv_assign rfl) ?_
    refine sd_done ?_
    refine sw_ret ?_
    refine then_r ?_
    have X7 : Gr w w3 := (Gr.trans (Gr.trans (Gr.trans (Gr.refl w) Gw1) Gw2) Gw3)
    have hr := Option.some.inj hm
    subst hr
    refine ⟨_, _, rfl, res_2 rfl (rv_tmp rfl) (rv_tmp rfl), ?_⟩
    exact ⟨rfl, X7⟩
  ·
    replace hm := cnd_f c1 hm
    refine sw_skip ?_
    refine then_n ?_
    refine sw_seq ?_
    refine sw_seq ?_
    -- region 3 ref.go:430
    refine sw_region [(0, 0), (1, 0), (2, 0), (3, 0), (4, 0)] rfl rfl rfl ?_
    refine sd_vv rfl rfl rfl (vv_fieldAddr fa_45_1 rfl) ?_
    have B8 := (Bx.gr B5 Gw3)
    refine sd_vv rfl rfl rfl (vv_load1 (v := .int .i64 p0.Depth) one_3 rfl B8 rfl) ?_
    refine sd_vv rfl rfl rfl (vv_move rfl) ?_
    have hb := bnd hm; clear hm; obtain ⟨x2, hx2, hm⟩ := hb
    refine sd_ev rfl rfl rfl (ev_call en_95 rfl (ref03_receiver_w p0.Depth p1 _ hx2 _)) ?_
    rintro _ w4 ⟨rfl, Gw4⟩
    have z9 := Gw4.size
    refine sd_vv rfl rfl rfl (vv_not rfl) ?_
    refine sd_done ?_
    refine sw_cond rfl (fun c2 => ?_) (fun c2 => ?_)
    ·
      replace hm := cnd_t c2 hm
      refine sw_seq ?_
      -- region 4 ref.go:431
      refine sw_region [(0, 0), (1, 0)] rfl rfl rfl ?_
      refine sd_vv rfl rfl rfl (vv_assign rfl) ?_
      refine sd_vv rfl rfl rfl (vv_assign rfl) ?_
      refine sd_done ?_
      refine sw_ret ?_
      refine then_r ?_
      have X10 : Gr w w4 := (Gr.trans (Gr.trans (Gr.trans (Gr.trans (Gr.refl w) Gw1) Gw2) Gw3) Gw4)
      have hr := Option.some.inj hm
      subst hr
      refine ⟨_, _, rfl, res_2 rfl (rv_tmp rfl) (rv_tmp rfl), ?_⟩
      exact ⟨rfl, X10⟩
    ·
      replace hm := cnd_f c2 hm
      refine sw_skip ?_
      refine then_n ?_
      refine sw_seq ?_
      refine sw_seq ?_
      -- region 5 ref.go:433
      refine sw_region [(0, 0), (1, 0), (2, 0), (3, 0)] rfl rfl rfl ?_
      have B11 := (Bx.gr B8 Gw4)
      refine sd_vv rfl rfl rfl (vv_loadW agg_45 rfl B11 rfl) ?_
      have B12 := (Bx.gr (Bx.gr Bw2 Gw3) Gw4)
      refine sd_vv rfl rfl rfl (vv_loadW agg_47 rfl B12 rfl) ?_
      have hb := bnd hm; clear hm; obtain ⟨x3, hx3, hm⟩ := hb
      refine sd_ev rfl rfl rfl (ev_call en_62 rfl (ref03_IsSubset_w p0 p2 _ hx3 _)) ?_
      rintro _ w5 ⟨rfl, Gw5⟩
      have z13 := Gw5.size
      refine sd_vv rfl rfl rfl (vv_not rfl) ?_
      refine sd_done ?_
      refine sw_cond rfl (fun c3 => ?_) (fun c3 => ?_)
      ·
        replace hm := cnd_t c3 hm
        refine sw_seq ?_
        -- region 6 ref.go:434
        refine sw_region [(0, 0), (1, 0)] rfl rfl rfl ?_
        refine sd_vv rfl rfl rfl (vv_assign rfl) ?_
        refine sd_vv rfl rfl rfl (vv_assign rfl) ?_
        refine sd_done ?_
        refine sw_ret ?_
        refine then_r ?_
        have X14 : Gr w w5 := (Gr.trans (Gr.trans (Gr.trans (Gr.trans (Gr.trans (Gr.refl w) Gw1) Gw2) Gw3) Gw4) Gw5)
        have hr := Option.some.inj hm
        subst hr
        refine ⟨_, _, rfl, res_2 rfl (rv_tmp rfl) (rv_tmp rfl), ?_⟩
        exact ⟨rfl, X14⟩
      ·
        replace hm := cnd_f c3 hm
        refine sw_skip ?_
        refine then_n ?_
        refine sw_seq ?_
        refine sw_seq ?_
        -- region 7 ref.go:436
        refine sw_region [(0, 0), (1, 0), (2, 0), (3, 0), (4, 0)] rfl rfl rfl ?_
        have B15 := (Bx.gr B11 Gw5)
        refine sd_vv rfl rfl rfl (vv_loadW agg_45 rfl B15 rfl) ?_
        have B16 := (Bx.gr B12 Gw5)
        refine sd_vv rfl rfl rfl (vv_loadW agg_47 rfl B16 rfl) ?_
        refine sd_vv rfl rfl rfl (vv_move rfl) ?_
        have hb := bnd hm; clear hm; obtain ⟨x4, hx4, hm⟩ := hb
        refine sd_ev rfl rfl rfl (ev_call en_106 rfl (ref03_Has_w p0 p2 p1 _ hx4 _)) ?_
        rintro _ w6 ⟨rfl, Gw6⟩
        have z17 := Gw6.size
        refine sd_vv rfl rfl rfl (vv_not rfl) ?_
        refine sd_done ?_
        refine sw_cond rfl (fun c4 => ?_) (fun c4 => ?_)
        ·
          replace hm := cnd_t c4 hm
          refine sw_seq ?_
          -- region 8 ref.go:437
          refine sw_region [(0, 0), (1, 0)] rfl rfl rfl ?_
          refine sd_vv rfl rfl rfl (vv_assign rfl) ?_
          refine sd_vv rfl rfl rfl (vv_assign rfl) ?_
          refine sd_done ?_
          refine sw_ret ?_
          refine then_r ?_
          have X18 : Gr w w6 := (Gr.trans (Gr.trans (Gr.trans (Gr.trans (Gr.trans (Gr.trans (Gr.refl w) Gw1) Gw2) Gw3) Gw4) Gw5) Gw6)
          have hr := Option.some.inj hm
          subst hr
          refine ⟨_, _, rfl, res_2 rfl (rv_tmp rfl) (rv_tmp rfl), ?_⟩
          exact ⟨rfl, X18⟩
        ·
          replace hm := cnd_f c4 hm
          refine sw_skip ?_
          refine then_n ?_
          refine sw_seq ?_
          have X19 : Gr w w6 := (Gr.trans (Gr.trans (Gr.trans (Gr.trans (Gr.trans (Gr.trans (Gr.refl w) Gw1) Gw2) Gw3) Gw4) Gw5) Gw6)
          refine sw_joinD (β := Bool) [26, 27, 28, 29, 30, 31, 32, 33] (fun a5 => [(33, .bool a5)]) (fun a5 wr => (ref03_Work_J1 p0 p1 p2 a5 = some r) ∧ Kz [] w6 wr) ?_ ?_
          · clear hm; rintro a5 w7 ⟨hm, Kw7⟩
            have z20 := Kw7.size
            unfold ref03_Work_J1 at hm
            refine sw_cond rfl (fun c5 => ?_) (fun c5 => ?_)
            ·
              replace hm := cnd_t c5 hm
              refine sw_seq ?_
              -- region 10 ref.go:440
              refine sw_region [(0, 0), (1, 0)] rfl rfl rfl ?_
              refine sd_vv rfl rfl rfl (vv_assign rfl) ?_
              refine sd_vv rfl rfl rfl (vv_assign rfl) ?_
              refine sd_done ?_
              refine sw_ret ?_
              refine then_r ?_
              have X21 : Gr w w7 := (Gr.kz X19 Kw7)
              have hr := Option.some.inj hm
              subst hr
              refine ⟨_, _, rfl, res_2 rfl (rv_tmp rfl) (rv_tmp rfl), ?_⟩
              exact ⟨rfl, X21⟩
            ·
              replace hm := cnd_f c5 hm
              refine sw_skip ?_
              refine then_n ?_
              have X22 : Gr w w7 := (Gr.kz X19 Kw7)
              refine sw_joinD (β := TSubset × Nat) [8, 34, 35, 36, 37, 38, 39, 40, 41, 42] (fun ⟨a7, bq6⟩ => [(8, .pointer (some ⟨bq6, 0, none⟩))]) (fun ⟨a7, bq6⟩ wr => (ref03_Work_J2 p2 a7 = some r) ∧ Bx wr bq6 47 (TSubset.cs a7) ∧ w7.heap.size ≤ bq6 ∧ Kz [] w7 wr) ?_ ?_
              · clear hm; rintro ⟨a7, bq6⟩ w8 ⟨hm, Fw8_0, Fw8_1, Kw8⟩
                have z23 := Kw8.size
                have lt24 := Fw8_0.lt
                unfold ref03_Work_J2 at hm
                refine sw_seq ?_
                -- region 12 ref.go:443
                refine sw_region [(0, 0), (1, 0), (2, 0), (3, 0), (4, 0), (5, 0), (6, 0), (7, 0)] rfl rfl rfl ?_
                refine sd_vv rfl rfl rfl (vv_fieldAddr fa_47_1 rfl) ?_
                refine sd_vv rfl rfl rfl (vv_load1 (v := .int .i64 a7.Minus) one_3 rfl Fw8_0 rfl) ?_
                refine sd_vv rfl rfl rfl (vv_fieldAddr fa_47_1 rfl) ?_
                have B25 := (Bx.kz (Bx.kz (Bx.gr B16 Gw6) Kw7) Kw8)
                refine sd_vv rfl rfl rfl (vv_load1 (v := .int .i64 p2.Minus) one_3 rfl B25 rfl) ?_
                have hb := bnd hm; clear hm; obtain ⟨x8, hx8, hm⟩ := hb
                refine sd_ev rfl rfl rfl (ev_call en_108 rfl (ref03_Path_w a7.Minus p2.Minus _ hx8 _)) ?_
                rintro u9_r0_s w9 ⟨_, z9_r0_s, g9_r0_s, rfl, O9_r0_s, f9_r0_s, Gw9⟩
                have z26 := Gw9.size
                have lt27 := O9_r0_s.lth
                refine sd_vv rfl rfl rfl (vv_lenT (l := x8) (c := ic) Try.underlying61 rfl (Own.rd O9_r0_s)) ?_
                refine sd_vv rfl rfl rfl (vv_assign rfl) ?_
                refine sd_vv rfl rfl rfl (vv_assign rfl) ?_
                refine sd_done ?_
                refine sw_ret ?_
                have X28 : Gr w w9 := (Gr.trans (Gr.kz X22 Kw8) Gw9)
                have hr := Option.some.inj hm
                subst hr
                refine ⟨_, _, rfl, res_2 rfl (rv_tmp rfl) (rv_tmp rfl), ?_⟩
                exact ⟨rfl, X28⟩
              ·
                -- region 11 ref.go:442 DRAWS
                refine sw_drawN [([])] [] (.fork [(0, 10), (1, 10), (3, 10), (4, 10), (5, 10)] (.fork [(2, 0)] (.fork [(6, 0)] (.fork [(7, 0)] (.leaf [(8, 0), (9, 0), (10, 0)]) (.leaf [(9, 0), (8, 0), (10, 0)])) (.leaf [(9, 0), (7, 0), (8, 0), (10, 0)])) (.leaf [(9, 0), (6, 0), (7, 0), (8, 0), (10, 0)])) (.leaf [(9, 0), (2, 0), (6, 0), (7, 0), (8, 0), (10, 0)])) (by kernel_rfl) (by kernel_rfl) rfl (by kernel_rfl) ?_
                intro w10 Gw10 zw10
                refine sdz_fork ?_
                have B29 := (Bx.gr (Bx.kz (Bx.gr B15 Gw6) Kw7) Gw10)
                refine dd_hn 0 rfl rfl rfl rfl (Kp.refl ([]) w10) (fun w hS => vv_loadW agg_45 rfl (Bx.kp B29 hS) rfl) ?_
                refine dd_hn 0 rfl rfl rfl rfl (Kp.refl ([]) w10) (fun w hS => vv_move rfl) ?_
                refine dd_hn 0 rfl rfl rfl rfl (Kp.refl ([]) w10) (fun w hS => vv_loadW agg_45 rfl (Bx.kp B29 hS) rfl) ?_
                refine dd_hn 0 rfl rfl rfl rfl (Kp.refl ([]) w10) (fun w hS => vv_move rfl) ?_
                have B30 := (Bx.gr (Bx.kz (Bx.gr B16 Gw6) Kw7) Gw10)
                refine dd_hn 0 rfl rfl rfl rfl (Kp.refl ([]) w10) (fun w hS => vv_loadW agg_47 rfl (Bx.kp B30 hS) rfl) ?_
                refine sd_fork ?_ ?_
                ·
                  refine sdz_fork ?_
                  have hb := bnd hm; clear hm; obtain ⟨x9, hx9, hm⟩ := hb
                  refine dd_z [] rfl rfl rfl (ev_call en_83 rfl (ref03_LabelsOf_w p0 p1 _ hx9 _)) ⟨fun _ => tk0, trivial⟩ ?_
                  rintro u11_r0_s w11 ⟨_, z11_r0_s, g11_r0_s, rfl, O11_r0_s, f11_r0_s, Gw11⟩
                  have z31 := Gw11.size
                  have lt32 := O11_r0_s.lth
                  refine ⟨Kz.ofGr Gw11, ?_⟩
                  refine sd_fork ?_ ?_
                  ·
                    refine sdz_fork ?_
                    have hb := bnd hm; clear hm; obtain ⟨x10, hx10, hm⟩ := hb
                    refine dd_z [] rfl rfl rfl (ev_call en_107 rfl (ref03_Known_w p0 p1 p2 _ hx10 _)) ⟨fun _ => tk0, trivial⟩ ?_
                    rintro _ w12 ⟨rfl, Gw12⟩
                    have z33 := Gw12.size
                    refine ⟨Kz.ofGr Gw12, ?_⟩
                    refine sd_fork ?_ ?_
                    ·
                      refine sdz_fork ?_
                      have hb := bnd hm; clear hm; obtain ⟨y11, hy11, hm⟩ := hb
                      have B34 := (Own.gr O11_r0_s Gw12)
                      refine dd_vz rfl rfl rfl (vv_ixT (i := x10) Try.underlying48 (agg_47).siz rfl (Own.rd B34) rfl hy11) ?_
                      refine sd_fork ?_ ?_
                      ·
                        refine sdz_leaf ?_
                        refine dd_vz rfl rfl rfl (vv_elWT agg_47 rfl (Own.rd B34) hy11 (by first | rfl | omega)) ?_
                        refine dd_z [] rfl rfl rfl (ev_alloc (cs := TSubset.cs (TSubset.mk 0 0)) zv_47 rfl) ⟨fun _ => tk0, trivial⟩ ?_
                        rintro _ w13 ⟨b13, rfl, hbw13, Bw13, Gw13⟩
                        have z35 := Gw13.size
                        have lt36 := Bw13.lt
                        refine ⟨Kz.ofGr Gw13, ?_⟩
                        refine dd_z [(1, b13)] rfl rfl rfl (ev_stM (cs' := TSubset.cs y11) (vs := TSubset.cs y11) (agg_47).siz rfl rfl rfl rfl rfl Bw13 rfl rfl) ⟨fun _ => tk0, trivial⟩ ?_
                        rintro _ w14 ⟨Bw14, Mw14⟩
                        have z37 := Mw14.size
                        refine ⟨Kz.ofMd Mw14, ?_⟩
                        refine sd_nil ?_
                        have K_38 : Kz [] w7 w14 := (Kz.md (Kz.gr (Kz.gr (Kz.gr (Kz.gr (Kz.refl _ _) Gw10) Gw11) Gw12) Gw13) Mw14)
                        refine ⟨rfl, ⟨y11, b13⟩, ?_, hm, Bw14, (by omega), K_38⟩
                        repeat' first | exact trivial | refine ⟨rfl, ?_⟩
                      ·
                        refine sdz_leaf ?_
                        refine dd_z [] rfl rfl rfl (ev_alloc (cs := TSubset.cs (TSubset.mk 0 0)) zv_47 rfl) ⟨fun _ => tk0, trivial⟩ ?_
                        rintro _ w15 ⟨b15, rfl, hbw15, Bw15, Gw15⟩
                        have z39 := Gw15.size
                        have lt40 := Bw15.lt
                        refine ⟨Kz.ofGr Gw15, ?_⟩
                        have B41 := (Own.gr B34 Gw15)
                        refine dd_vz rfl rfl rfl (vv_elWT agg_47 rfl (Own.rd B41) hy11 (by first | rfl | omega)) ?_
                        refine dd_z [(1, b15)] rfl rfl rfl (ev_stM (cs' := TSubset.cs y11) (vs := TSubset.cs y11) (agg_47).siz rfl rfl rfl rfl rfl Bw15 rfl rfl) ⟨fun _ => tk0, trivial⟩ ?_
                        rintro _ w16 ⟨Bw16, Mw16⟩
                        have z42 := Mw16.size
                        refine ⟨Kz.ofMd Mw16, ?_⟩
                        refine sd_nil ?_
                        have K_43 : Kz [] w7 w16 := (Kz.md (Kz.gr (Kz.gr (Kz.gr (Kz.gr (Kz.refl _ _) Gw10) Gw11) Gw12) Gw15) Mw16)
                        refine ⟨rfl, ⟨y11, b15⟩, ?_, hm, Bw16, (by omega), K_43⟩
                        repeat' first | exact trivial | refine ⟨rfl, ?_⟩
                    ·
                      refine sdz_leaf ?_
                      refine dd_z [] rfl rfl rfl (ev_alloc (cs := TSubset.cs (TSubset.mk 0 0)) zv_47 rfl) ⟨fun _ => tk0, trivial⟩ ?_
                      rintro _ w17 ⟨b17, rfl, hbw17, Bw17, Gw17⟩
                      have z44 := Gw17.size
                      have lt45 := Bw17.lt
                      refine ⟨Kz.ofGr Gw17, ?_⟩
                      have hb := bnd hm; clear hm; obtain ⟨y12, hy12, hm⟩ := hb
                      have B46 := (Own.gr (Own.gr O11_r0_s Gw12) Gw17)
                      refine dd_vz rfl rfl rfl (vv_ixT (i := x10) Try.underlying48 (agg_47).siz rfl (Own.rd B46) rfl hy12) ?_
                      refine dd_vz rfl rfl rfl (vv_elWT agg_47 rfl (Own.rd B46) hy12 (by first | rfl | omega)) ?_
                      refine dd_z [(1, b17)] rfl rfl rfl (ev_stM (cs' := TSubset.cs y12) (vs := TSubset.cs y12) (agg_47).siz rfl rfl rfl rfl rfl Bw17 rfl rfl) ⟨fun _ => tk0, trivial⟩ ?_
                      rintro _ w18 ⟨Bw18, Mw18⟩
                      have z47 := Mw18.size
                      refine ⟨Kz.ofMd Mw18, ?_⟩
                      refine sd_nil ?_
                      have K_48 : Kz [] w7 w18 := (Kz.md (Kz.gr (Kz.gr (Kz.gr (Kz.gr (Kz.refl _ _) Gw10) Gw11) Gw12) Gw17) Mw18)
                      refine ⟨rfl, ⟨y12, b17⟩, ?_, hm, Bw18, (by omega), K_48⟩
                      repeat' first | exact trivial | refine ⟨rfl, ?_⟩
                  ·
                    refine sdz_leaf ?_
                    refine dd_z [] rfl rfl rfl (ev_alloc (cs := TSubset.cs (TSubset.mk 0 0)) zv_47 rfl) ⟨fun _ => tk0, trivial⟩ ?_
                    rintro _ w19 ⟨b19, rfl, hbw19, Bw19, Gw19⟩
                    have z49 := Gw19.size
                    have lt50 := Bw19.lt
                    refine ⟨Kz.ofGr Gw19, ?_⟩
                    have hb := bnd hm; clear hm; obtain ⟨x13, hx13, hm⟩ := hb
                    refine dd_z [] rfl rfl rfl (ev_call en_107 rfl (ref03_Known_w p0 p1 p2 _ hx13 _)) ⟨fun _ => tk0, trivial⟩ ?_
                    rintro _ w20 ⟨rfl, Gw20⟩
                    have z51 := Gw20.size
                    refine ⟨Kz.ofGr Gw20, ?_⟩
                    have hb := bnd hm; clear hm; obtain ⟨y14, hy14, hm⟩ := hb
                    have B52 := (Own.gr (Own.gr O11_r0_s Gw19) Gw20)
                    refine dd_vz rfl rfl rfl (vv_ixT (i := x13) Try.underlying48 (agg_47).siz rfl (Own.rd B52) rfl hy14) ?_
                    refine dd_vz rfl rfl rfl (vv_elWT agg_47 rfl (Own.rd B52) hy14 (by first | rfl | omega)) ?_
                    have B53 := (Bx.gr Bw19 Gw20)
                    refine dd_z [(1, b19)] rfl rfl rfl (ev_stM (cs' := TSubset.cs y14) (vs := TSubset.cs y14) (agg_47).siz rfl rfl rfl rfl rfl B53 rfl rfl) ⟨fun _ => tk0, trivial⟩ ?_
                    rintro _ w21 ⟨Bw21, Mw21⟩
                    have z54 := Mw21.size
                    refine ⟨Kz.ofMd Mw21, ?_⟩
                    refine sd_nil ?_
                    have K_55 : Kz [] w7 w21 := (Kz.md (Kz.gr (Kz.gr (Kz.gr (Kz.gr (Kz.refl _ _) Gw10) Gw11) Gw19) Gw20) Mw21)
                    refine ⟨rfl, ⟨y14, b19⟩, ?_, hm, Bw21, (by omega), K_55⟩
                    repeat' first | exact trivial | refine ⟨rfl, ?_⟩
                ·
                  refine sdz_leaf ?_
                  refine dd_z [] rfl rfl rfl (ev_alloc (cs := TSubset.cs (TSubset.mk 0 0)) zv_47 rfl) ⟨fun _ => tk0, trivial⟩ ?_
                  rintro _ w22 ⟨b22, rfl, hbw22, Bw22, Gw22⟩
                  have z56 := Gw22.size
                  have lt57 := Bw22.lt
                  refine ⟨Kz.ofGr Gw22, ?_⟩
                  have hb := bnd hm; clear hm; obtain ⟨x15, hx15, hm⟩ := hb
                  refine dd_z [] rfl rfl rfl (ev_call en_83 rfl (ref03_LabelsOf_w p0 p1 _ hx15 _)) ⟨fun _ => tk0, trivial⟩ ?_
                  rintro u23_r0_s w23 ⟨_, z23_r0_s, g23_r0_s, rfl, O23_r0_s, f23_r0_s, Gw23⟩
                  have z58 := Gw23.size
                  have lt59 := O23_r0_s.lth
                  refine ⟨Kz.ofGr Gw23, ?_⟩
                  have hb := bnd hm; clear hm; obtain ⟨x16, hx16, hm⟩ := hb
                  refine dd_z [] rfl rfl rfl (ev_call en_107 rfl (ref03_Known_w p0 p1 p2 _ hx16 _)) ⟨fun _ => tk0, trivial⟩ ?_
                  rintro _ w24 ⟨rfl, Gw24⟩
                  have z60 := Gw24.size
                  refine ⟨Kz.ofGr Gw24, ?_⟩
                  have hb := bnd hm; clear hm; obtain ⟨y17, hy17, hm⟩ := hb
                  have B61 := (Own.gr O23_r0_s Gw24)
                  refine dd_vz rfl rfl rfl (vv_ixT (i := x16) Try.underlying48 (agg_47).siz rfl (Own.rd B61) rfl hy17) ?_
                  refine dd_vz rfl rfl rfl (vv_elWT agg_47 rfl (Own.rd B61) hy17 (by first | rfl | omega)) ?_
                  have B62 := (Bx.gr (Bx.gr Bw22 Gw23) Gw24)
                  refine dd_z [(1, b22)] rfl rfl rfl (ev_stM (cs' := TSubset.cs y17) (vs := TSubset.cs y17) (agg_47).siz rfl rfl rfl rfl rfl B62 rfl rfl) ⟨fun _ => tk0, trivial⟩ ?_
                  rintro _ w25 ⟨Bw25, Mw25⟩
                  have z63 := Mw25.size
                  refine ⟨Kz.ofMd Mw25, ?_⟩
                  refine sd_nil ?_
                  have K_64 : Kz [] w7 w25 := (Kz.md (Kz.gr (Kz.gr (Kz.gr (Kz.gr (Kz.refl _ _) Gw10) Gw22) Gw23) Gw24) Mw25)
                  refine ⟨rfl, ⟨y17, b22⟩, ?_, hm, Bw25, (by omega), K_64⟩
                  repeat' first | exact trivial | refine ⟨rfl, ?_⟩
          ·
            -- region 9 ref.go:439
            refine sw_region [(0, 0), (1, 0), (2, 0), (3, 0), (4, 0), (5, 0), (6, 0), (7, 0)] rfl rfl rfl ?_
            refine sd_vv rfl rfl rfl (vv_fieldAddr fa_45_0 rfl) ?_
            have B65 := (Bx.gr B15 Gw6)
            refine sd_vv rfl rfl rfl (vv_load1 (v := bv p0.Kind) one_5 rfl B65 rfl) ?_
            refine sd_vv rfl rfl rfl (vv_eqlB (p := p0.Kind) (q := 1#8) rfl rfl) ?_
            refine sd_split rfl rfl rfl (vv_move rfl) (fun c6 => ?_) (fun c6 => ?_)
            ·
              replace hm := ite_t (of_decide_eq_true c6) hm
              refine sd_skip rfl rfl rfl ?_
              refine sd_skip rfl rfl rfl ?_
              refine sd_skip rfl rfl rfl ?_
              refine sd_vv rfl rfl rfl (vv_pickT rfl rfl) ?_
              refine sd_nil ?_
              have K_66 : Kz [] w6 w6 := (Kz.refl _ _)
              refine ⟨rfl, true, ?_, hm, K_66⟩
              repeat' first | exact trivial | refine ⟨rfl, ?_⟩
            ·
              replace hm := ite_f (of_decide_eq_false c6) hm
              refine sd_vv rfl rfl rfl (vv_fieldAddr fa_47_1 rfl) ?_
              have B67 := (Bx.gr B16 Gw6)
              refine sd_vv rfl rfl rfl (vv_load1 (v := .int .i64 p2.Minus) one_3 rfl B67 rfl) ?_
              refine sd_vv rfl rfl rfl (vv_eql (a := p2.Minus) (b := 0) rfl rfl) ?_
              refine sd_vv rfl rfl rfl (vv_pickF rfl rfl) ?_
              refine sd_nil ?_
              have K_68 : Kz [] w6 w6 := (Kz.refl _ _)
              refine ⟨rfl, (decide (p2.Minus = 0)), ?_, hm, K_68⟩
              repeat' first | exact trivial | refine ⟨rfl, ?_⟩

set_option maxHeartbeats 2000000 in
theorem cover_tree_list_w (p0 : Tcover_tree) (p1 : List Int) (vp1 : Value) (zp1 gp1 op1 : Nat) (r : Bool) (hm : cover_tree_list p0 p1 = some r) (w : World) (hp1 : Rd w zp1 gp1 op1 1 vp1 (p1.map ic))  :
    Calls Try.prog 109 [.agg (Tcover_tree.cs p0).toArray, vp1].toArray w fun e w' => ∃ v, e = .returned v ∧ (v = .bool r ∧ Gr w w') := by
  have lt1 := hp1.lth
  unfold cover_tree_list at hm
  refine calls_of_sw (R := fun v w' => v = .bool r ∧ Gr w w') 32 Try.func109 rfl rfl rfl ?_
  refine sw_seq ?_
  -- region 0 tree.go:74
  refine sw_region [(0, 0), (1, 0)] rfl rfl rfl ?_
  refine sd_ev rfl rfl rfl (ev_box (cs := Tcover_tree.cs p0) rfl rfl) ?_
  rintro _ w1 ⟨b1, rfl, hbw1, Bw1, Gw1⟩
  have z2 := Gw1.size
  have lt3 := Bw1.lt
  refine sd_vv rfl rfl rfl (vv_assign rfl) ?_
  refine sd_done ?_
  refine sw_seq ?_
  refine sw_seq ?_
  -- region 1 tree.go:75
  refine sw_region [(0, 0), (1, 0), (2, 0)] rfl rfl rfl ?_
  refine sd_vv rfl rfl rfl (vv_move rfl) ?_
  have B4 := (Rd.gr hp1 Gw1)
  refine sd_vv rfl rfl rfl (vv_lenT (l := p1) (c := ic) Try.underlying61 rfl B4) ?_
  refine sd_vv rfl rfl rfl (vv_move rfl) ?_
  refine sd_done ?_
  refine sw_block ?_
  have X5 : Gr w w1 := (Gr.trans (Gr.refl w) Gw1)
  refine sw_loopD (α := Nat × Int) [4, 5, 6, 9, 10, 11, 12, 13, 14, 15, 16, 17, 18, 19, 20, 21, 22, 23, 24, 25, 26, 27, 28, 29, 30, 31] (fun ⟨n1, a2⟩ => [(4, .bool false), (9, .int .i64 a2)]) (fun ⟨n1, a2⟩ wr => (fixN (cover_tree_list_L1 p0 p1) n1 a2 = some r) ∧ Kz [] w1 wr) (fun ⟨n1, a2⟩ => n1) ⟨FUEL, 0⟩ ?_ ?_ ?_
  · repeat' first | exact trivial | refine ⟨rfl, ?_⟩
  · exact ⟨hm, Kz.refl _ _⟩
  · clear hm; rintro ⟨n1, a2⟩ w2 ⟨hm, Kw2⟩
    have z6 := Kw2.size
    have hb := fix_succ hm; clear hm; obtain ⟨n1, rfl, hm⟩ := hb
    generalize hrec1 : fixN (cover_tree_list_L1 p0 p1) n1 = rec1 at hm
    unfold cover_tree_list_L1 at hm
    try dsimp only at hm
    refine sw_seq ?_
    -- region 2 tree.go:75
    refine sw_region [(0, 0)] rfl rfl rfl ?_
    refine sd_vv rfl rfl rfl (vv_lss (a := a2) (b := (p1.length : Int)) rfl rfl) ?_
    refine sd_done ?_
    refine sw_seq ?_
    refine sw_cond rfl (fun c1 => ?_) (fun c1 => ?_)
    ·
      replace hm := ite_t (of_decide_eq_true c1) hm
      refine sw_skip ?_
      refine then_n ?_
      refine sw_seq ?_
      refine sw_block ?_
      refine sw_seq ?_
      -- region 3 tree.go:75
      refine sw_region [(0, 0), (1, 0), (2, 0), (3, 0), (4, 0)] rfl rfl rfl ?_
      refine sd_vv rfl rfl rfl (vv_move rfl) ?_
      have hb := bnd hm; clear hm; obtain ⟨y3, hy3, hm⟩ := hb
      have B7 := (Rd.kz B4 Kw2)
      refine sd_vv rfl rfl rfl (vv_ixT (i := a2) Try.underlying61 (one_3).siz rfl B7 rfl hy3) ?_
      refine sd_vv rfl rfl rfl (vv_el1T (q := 0) (u := .int .i64 y3) one_3 rfl B7 hy3 (by first | rfl | omega) rfl) ?_
      refine sd_vv rfl rfl rfl (vv_assign rfl) ?_
      refine sd_vv rfl rfl rfl (vv_assign rfl) ?_
      refine sd_done ?_
      have X8 : Gr w w2 := (Gr.kz X5 Kw2)
      refine sw_joinD (β := Bool) [14, 15, 16, 17, 18, 19, 20, 21, 22, 23, 24, 25, 26, 27, 28, 29, 30] (fun a4 => [(30, .bool a4)]) (fun a4 wr => (cover_tree_list_J2 a2 rec1 a4 = some r) ∧ Kz [] w2 wr) ?_ ?_
      · clear hm; rintro a4 w3 ⟨hm, Kw3⟩
        have z9 := Kw3.size
        unfold cover_tree_list_J2 at hm
        refine sw_cond rfl (fun c2 => ?_) (fun c2 => ?_)
        ·
          replace hm := cnd_t c2 hm
          refine sw_seq ?_
          -- region 5 tree.go:77
          refine sw_region [(0, 0)] rfl rfl rfl ?_
          refine sd_vv rfl rfl rfl (vv_assign rfl) ?_
          refine sd_done ?_
          refine sw_ret ?_
          refine block_r ?_
          refine then_r ?_
          refine then_r ?_
          refine block_r ?_
          refine then_r ?_
          have X10 : Gr w w3 := (Gr.kz X8 Kw3)
          have hr := Option.some.inj hm
          subst hr
          refine ⟨_, _, rfl, res_1 rfl (rv_tmp rfl), ?_⟩
          exact ⟨rfl, X10⟩
        ·
          replace hm := cnd_f c2 hm
          refine sw_skip ?_
          refine block_n ?_
          refine then_n ?_
          -- region 6 tree.go:75
          refine sw_region [(0, 0), (1, 0)] rfl rfl rfl ?_
          refine sd_vv rfl rfl rfl (vv_add (k := .i64) (a := a2) (b := 1) rfl rfl) ?_
          refine sd_vv rfl rfl rfl (vv_move rfl) ?_
          refine sd_nil ?_
          have K_11 : Kz [] w1 w3 := (Kz.kz Kw2 Kw3)
          subst hrec1
          refine ⟨rfl, ⟨n1, w64 (a2 + 1)⟩, ?_, ⟨hm, K_11⟩, Nat.lt_succ_self _⟩
          repeat' first | exact trivial | refine ⟨rfl, ?_⟩
      ·
        -- region 4 tree.go:76
        refine sw_region [(0, 0), (1, 0), (2, 0), (3, 0), (4, 0), (5, 0), (6, 0), (7, 0), (8, 0), (9, 0), (10, 0), (11, 0), (12, 0), (13, 0), (14, 0), (15, 0), (16, 0)] rfl rfl rfl ?_
        have B12 := (Bx.kz Bw1 Kw2)
        refine sd_vv rfl rfl rfl (vv_loadW agg_134 rfl B12 rfl) ?_
        refine sd_vv rfl rfl rfl (vv_move rfl) ?_
        have hb := bnd hm; clear hm; obtain ⟨x5, hx5, hm⟩ := hb
        refine sd_ev rfl rfl rfl (ev_call en_92 rfl (cover_tree_receiver_w p0 y3 _ hx5 _)) ?_
        rintro _ w4 ⟨rfl, Gw4⟩
        have z13 := Gw4.size
        refine sd_vv rfl rfl rfl (vv_not rfl) ?_
        refine sd_split rfl rfl rfl (vv_move rfl) (fun c3 => ?_) (fun c3 => ?_)
        ·
          replace hm := cnd_t c3 hm
          refine sd_skip rfl rfl rfl ?_
          refine sd_skip rfl rfl rfl ?_
          refine sd_skip rfl rfl rfl ?_
          refine sd_skip rfl rfl rfl ?_
          refine sd_skip rfl rfl rfl ?_
          refine sd_skip rfl rfl rfl ?_
          refine sd_skip rfl rfl rfl ?_
          refine sd_skip rfl rfl rfl ?_
          refine sd_skip rfl rfl rfl ?_
          refine sd_skip rfl rfl rfl ?_
          refine sd_skip rfl rfl rfl ?_
          refine sd_vv rfl rfl rfl (vv_pickT rfl rfl) ?_
          refine sd_nil ?_
          have K_14 : Kz [] w2 w4 := (Kz.gr (Kz.refl _ _) Gw4)
          refine ⟨rfl, true, ?_, hm, K_14⟩
          repeat' first | exact trivial | refine ⟨rfl, ?_⟩
        ·
          replace hm := cnd_f c3 hm
          refine sd_vv rfl rfl rfl (vv_move rfl) ?_
          refine sd_vv rfl rfl rfl (vv_gtr (a := a2) (b := 0) rfl rfl) ?_
          refine sd_split rfl rfl rfl (vv_move rfl) (fun c4 => ?_) (fun c4 => ?_)
          ·
            replace hm := ite_t (of_decide_eq_true c4) hm
            refine sd_vv rfl rfl rfl (vv_move rfl) ?_
            refine sd_vv rfl rfl rfl (vv_move rfl) ?_
            refine sd_vv rfl rfl rfl (vv_move rfl) ?_
            refine sd_vv rfl rfl rfl (vv_sub (k := .i64) (a := a2) (b := 1) rfl rfl) ?_
            have hb := bnd hm; clear hm; obtain ⟨y6, hy6, hm⟩ := hb
            have B15 := (Rd.gr B7 Gw4)
            refine sd_vv rfl rfl rfl (vv_ixT (i := w64 (a2 - 1)) Try.underlying61 (one_3).siz rfl B15 rfl hy6) ?_
            refine sd_vv rfl rfl rfl (vv_el1T (q := 0) (u := .int .i64 y6) one_3 rfl B15 hy6 (by first | rfl | omega) rfl) ?_
            refine sd_vv rfl rfl rfl (vv_leq (a := y3) (b := y6) rfl rfl) ?_
            refine sd_vv rfl rfl rfl (vv_pickT rfl rfl) ?_
            refine sd_vv rfl rfl rfl (vv_pickF rfl rfl) ?_
            refine sd_nil ?_
            have K_16 : Kz [] w2 w4 := (Kz.gr (Kz.refl _ _) Gw4)
            refine ⟨rfl, (decide (y3 ≤ y6)), ?_, hm, K_16⟩
            repeat' first | exact trivial | refine ⟨rfl, ?_⟩
          ·
            replace hm := ite_f (of_decide_eq_false c4) hm
            refine sd_skip rfl rfl rfl ?_
            refine sd_skip rfl rfl rfl ?_
            refine sd_skip rfl rfl rfl ?_
            refine sd_skip rfl rfl rfl ?_
            refine sd_skip rfl rfl rfl ?_
            refine sd_skip rfl rfl rfl ?_
            refine sd_skip rfl rfl rfl ?_
            refine sd_vv rfl rfl rfl (vv_pickF rfl rfl) ?_
            refine sd_vv rfl rfl rfl (vv_pickF rfl rfl) ?_
            refine sd_nil ?_
            have K_17 : Kz [] w2 w4 := (Kz.gr (Kz.refl _ _) Gw4)
            refine ⟨rfl, false, ?_, hm, K_17⟩
            repeat' first | exact trivial | refine ⟨rfl, ?_⟩
    ·
      replace hm := ite_f (of_decide_eq_false c1) hm
      refine sw_exit ?_
      refine then_x ?_
      refine then_x ?_
      refine block_x ?_
      refine then_n ?_
      refine sw_seq ?_
      -- region 7 tree.go:80
      refine sw_region [(0, 0)] rfl rfl rfl ?_
      refine sd_vv rfl rfl rfl (vv_assign rfl) ?_
      refine sd_done ?_
      refine sw_ret ?_
      have X18 : Gr w w2 := (Gr.kz X5 Kw2)
      have hr := Option.some.inj hm
      subst hr
      refine ⟨_, _, rfl, res_1 rfl (rv_tmp rfl), ?_⟩
      exact ⟨rfl, X18⟩

set_option maxHeartbeats 2000000 in
theorem cover_Knows_1_w (p0 : Int) (p1 : Tcover_tree) (p2 : TSubset) (bp1 : Nat) (bp2 : Nat) (r : Bool) (hm : cover_Knows_1 p0 p1 p2 = some r) (w : World) (hbp1 : Bx w bp1 134 (Tcover_tree.cs p1)) (hbp2 : Bx w bp2 47 (TSubset.cs p2))  :
    Calls Try.prog 111 [.int .i64 p0, .pointer (some ⟨bp1, 0, none⟩), .pointer (some ⟨bp2, 0, none⟩)].toArray w fun e w' => ∃ v, e = .returned v ∧ (v = .bool r ∧ Gr w w') := by
  have lt1 := hbp1.lt
  have lt2 := hbp2.lt
  unfold cover_Knows_1 at hm
  refine calls_of_sw (R := fun v w' => v = .bool r ∧ Gr w w') 18 Try.func111 rfl rfl rfl ?_
  refine sw_seq ?_
  -- region 0 cover.go:270
  refine sw_region [(0, 0)] rfl rfl rfl ?_
  refine sd_ev rfl rfl rfl (ev_alloc (cs := [.bool false]) zv_4 rfl) ?_
  rintro _ w1 ⟨b1, rfl, hbw1, Bw1, Gw1⟩
  have z3 := Gw1.size
  have lt4 := Bw1.lt
  refine sd_done ?_
  refine sw_seq ?_
  refine sw_seq ?_
  -- region 1 cover.go:271
  refine sw_region [(0, 0), (1, 0), (2, 0)] rfl rfl rfl ?_
  have B5 := (Bx.gr hbp1 Gw1)
  refine sd_vv rfl rfl rfl (vv_loadW agg_134 rfl B5 rfl) ?_
  refine sd_vv rfl rfl rfl (vv_move rfl) ?_
  have hb := bnd hm; clear hm; obtain ⟨x1, hx1, hm⟩ := hb
  refine sd_ev rfl rfl rfl (ev_call en_82 rfl (cover_tree_labels_w p1 p0 _ hx1 _)) ?_
  rintro _ w2 ⟨k2_c0_0, k2_c0_1, rfl, O2_c0_0, f2_c0_0, O2_c0_1, f2_c0_1, Gw2⟩
  have z6 := Gw2.size
  have lt7 := O2_c0_0.lt
  have lt8 := O2_c0_1.lt
  refine sd_done ?_
  refine sw_block ?_
  have hb := bnd hm; clear hm; obtain ⟨l2, hl2, hm⟩ := hb
  have X9 : Gr w w2 := (Gr.trans (Gr.trans (Gr.refl w) Gw1) Gw2)
  have B10 := (Bx.gr B5 Gw2)
  have B11 := (Bx.gr (Bx.gr hbp2 Gw1) Gw2)
  have B12 := (Bx.gr Bw1 Gw2)
  refine sw_rangeFunc (gf := 129) rfl en_129 (cover_tree_labels_1_it x1.1 x1.2 _ _ _ hl2 _ O2_c0_0 O2_c0_1) (by intro x hx; obtain ⟨a, _, rfl⟩ := List.mem_map.1 hx; rfl) rfl _ _ ([b1]) (stb_mk (α := Bool) (fun a4 rk => itL (cover_Knows_1_R1 p1 p2) cover_Knows_1_D1 (List.drop rk l2) a4 = some r) (fun a4 => ([b1])) (fun a4 W => Bx W b1 4 ([.bool a4]) ∧ True) (by rintro a4 W ⟨F0, _⟩ b hb; have q0 := F0.lt; replace hb : b ∈ ([b1]) := hb; simp only [List.mem_cons, List.mem_append, mem_zf, List.not_mem_nil, or_false, false_or, not_or, ne_eq, List.nil_append, List.cons_append, true_and, and_true, false_and, and_false, not_true_eq_false, not_false_eq_true, or_true, true_or] at hb; omega) (by rintro a4 W W' ⟨F0, _⟩ E hs; replace hs : ∀ b ∈ ([b1]), W'.heap[b]? = W.heap[b]? := hs; exact ⟨(hs _ (by simp)).trans F0, trivial⟩)) (fun c => (stb_c (c = .ret) (stb_mk (α := Bool) (fun a4 rk => cover_Knows_1_X1_0 a4 = some r) (fun a4 => ([b1])) (fun a4 W => Bx W b1 4 ([.bool a4]) ∧ True) (by rintro a4 W ⟨F0, _⟩ b hb; have q0 := F0.lt; replace hb : b ∈ ([b1]) := hb; simp only [List.mem_cons, List.mem_append, mem_zf, List.not_mem_nil, or_false, false_or, not_or, ne_eq, List.nil_append, List.cons_append, true_and, and_true, false_and, and_false, not_true_eq_false, not_false_eq_true, or_true, true_or] at hb; omega) (by rintro a4 W W' ⟨F0, _⟩ E hs; replace hs : ∀ b ∈ ([b1]), W'.heap[b]? = W.heap[b]? := hs; exact ⟨(hs _ (by simp)).trans F0, trivial⟩)))) (by intro b hb; simp only [List.mem_cons, List.mem_append, mem_zf, List.not_mem_nil, or_false, false_or, not_or, ne_eq, List.nil_append, List.cons_append, true_and, and_true, false_and, and_false, not_true_eq_false, not_false_eq_true, or_true, true_or] at hb ⊢; omega) ⟨false, hm, rfl, B12, trivial⟩ ?_ ?_ ?_
  · rintro l rk x fp w3 hl hx _ Kw3 hF hln hlt
    clear hm
    obtain ⟨⟨e5, e6⟩, hxe, rfl⟩ := map_some hx
    have Zw3 : Kz [(1, b1)] w2 w3 := kz_of_kp Kw3 (by intro k hk; simp only [Nin, and_true, List.mem_cons, List.mem_append, mem_zf, List.not_mem_nil, or_false, false_or, not_or, ne_eq, List.nil_append, List.cons_append, true_and, and_true, false_and, and_false, not_true_eq_false, not_false_eq_true, or_true, true_or] at hk ⊢; omega)
    have z13 := Kw3.size
    refine sw_seq ?_
    -- region 2 cover.go:271
    refine sw_region [(0, 0)] rfl rfl rfl ?_
    refine sd_vv rfl rfl rfl (vv_assign rfl) ?_
    refine sd_done ?_
    -- region 3 cover.go:271
    refine sw_region [(0, 0)] rfl rfl rfl ?_
    refine sd_vv rfl rfl rfl (vv_assign rfl) ?_
    refine sd_nil ?_
    refine ⟨rfl, (Gr.refl _), ?_⟩
    rintro w4 Mw4 ⟨a4, hm, rfl, Fw4_0, -⟩
    have z14 := Mw4.size
    have lt15 := Fw4_0.lt
    replace hm := itL_at hm hxe
    generalize hnx1 : itL (cover_Knows_1_R1 p1 p2) cover_Knows_1_D1 (List.drop (rk + 1) l2) = nx1 at hm
    unfold cover_Knows_1_R1 at hm
    try dsimp only at hm
    refine sw_block ?_
    refine sw_seq ?_
    -- region 4 cover.go:272
    refine sw_region [(0, 0), (1, 0), (2, 0), (3, 0), (4, 0), (5, 0)] rfl rfl rfl ?_
    have B16 := (Bx.md (Bx.kz B10 Zw3) Mw4)
    refine sd_vv rfl rfl rfl (vv_loadW agg_134 rfl B16 rfl) ?_
    refine sd_vv rfl rfl rfl (vv_move rfl) ?_
    refine sd_vv rfl rfl rfl (vv_move rfl) ?_
    refine sd_vv rfl rfl rfl (vv_build (cs := TLabel.cs (TLabel.mk e5 e6 k0)) bs_81 rfl (by kernel_rfl)) ?_
    have B17 := (Bx.md (Bx.kz B11 Zw3) Mw4)
    refine sd_vv rfl rfl rfl (vv_loadW agg_47 rfl B17 rfl) ?_
    have hb := bnd hm; clear hm; obtain ⟨x7, hx7, hm⟩ := hb
    refine sd_ev rfl rfl rfl (ev_call en_104 rfl (cover_tree_leads_w p1 (TLabel.mk e5 e6 k0) p2 _ hx7 _)) ?_
    rintro _ w5 ⟨rfl, Gw5⟩
    have z18 := Gw5.size
    refine sd_done ?_
    refine sw_cond rfl (fun c1 => ?_) (fun c1 => ?_)
    ·
      replace hm := cnd_t c1 hm
      refine sw_seq ?_
      -- region 5 cover.go:273
      refine sw_region [(0, 0)] rfl rfl rfl ?_
      have B19 := (Bx.gr Fw4_0 Gw5)
      refine sd_ev rfl rfl rfl (ev_st1 (cs' := [.bool true]) (one_4).siz rfl rfl rfl B19 rfl rfl) ?_
      rintro _ w6 ⟨Bw6, Mw6⟩
      have z20 := Mw6.size
      refine sd_done ?_
      refine sw_ret ?_
      refine block_r ?_
      have K_21 : Kz [(1, b1)] w4 w6 := (Kz.md (Kz.gr (Kz.refl _ _) Gw5) Mw6)
      have Kq21 : Kp ([b1]) w4 w6 := kp_of_kz K_21 (by intro k hk; simp only [Nin, and_true, List.mem_cons, List.mem_append, mem_zf, List.not_mem_nil, or_false, false_or, not_or, ne_eq, List.nil_append, List.cons_append, true_and, and_true, false_and, and_false, not_true_eq_false, not_false_eq_true, or_true, true_or] at hk ⊢; omega)
      exact ⟨Kq21, ([b1]), (by intro c hc; simp only [List.mem_cons, List.mem_append, mem_zf, List.not_mem_nil, or_false, false_or, not_or, ne_eq, List.nil_append, List.cons_append, true_and, and_true, false_and, and_false, not_true_eq_false, not_false_eq_true, or_true, true_or] at hc ⊢; omega), ⟨rfl, true, hm, rfl, Bw6, trivial⟩⟩
    ·
      replace hm := cnd_f c1 hm
      refine sw_skip ?_
      refine block_n ?_
      have B23 := (Bx.gr Fw4_0 Gw5)
      have K_22 : Kz [(1, b1)] w4 w5 := (Kz.gr (Kz.refl _ _) Gw5)
      have Kq22 : Kp ([b1]) w4 w5 := kp_of_kz K_22 (by intro k hk; simp only [Nin, and_true, List.mem_cons, List.mem_append, mem_zf, List.not_mem_nil, or_false, false_or, not_or, ne_eq, List.nil_append, List.cons_append, true_and, and_true, false_and, and_false, not_true_eq_false, not_false_eq_true, or_true, true_or] at hk ⊢; omega)
      subst hnx1
      exact ⟨Kq22, ([b1]), (by intro c hc; simp only [List.mem_cons, List.mem_append, mem_zf, List.not_mem_nil, or_false, false_or, not_or, ne_eq, List.nil_append, List.cons_append, true_and, and_true, false_and, and_false, not_true_eq_false, not_false_eq_true, or_true, true_or] at hc ⊢; omega), ⟨a4, hm, rfl, B23, trivial⟩⟩
  · clear hm; rintro Dw7 fp w7 hDw7 Dfw7 nw7 ⟨a4, hm, rfl, Fw7_0, -⟩ Kw7
    replace hm := itL_end hm
    have Zw7 : Kz [(1, b1)] w2 w7 := kz_of_kp Kw7 (by intro k hk; simp only [Nin, and_true, List.mem_cons, List.mem_append, mem_zf, List.not_mem_nil, or_false, false_or, not_or, ne_eq, List.nil_append, List.cons_append, true_and, and_true, false_and, and_false, not_true_eq_false, not_false_eq_true, or_true, true_or] at hk ⊢; omega)
    have z24 := Kw7.size
    have lt25 := Df.lt (w := w7) Dfw7
    simp only [List.mem_cons, List.mem_append, mem_zf, List.not_mem_nil, or_false, false_or, not_or, ne_eq, List.nil_append, List.cons_append, true_and, and_true, false_and, and_false, not_true_eq_false, not_false_eq_true, or_true, true_or, not_and] at nw7
    have lt26 := Fw7_0.lt
    unfold cover_Knows_1_D1 at hm
    try dsimp only at hm
    refine block_n ?_
    refine then_n ?_
    refine sw_seq ?_
    -- region 6 cover.go:276
    refine sw_region [(0, 0)] rfl rfl rfl ?_
    refine sd_ev rfl rfl rfl (ev_st1 (cs' := [.bool false]) (one_4).siz rfl rfl rfl Fw7_0 rfl rfl) ?_
    rintro _ w8 ⟨Bw8, Mw8⟩
    have z27 := Mw8.size
    refine sd_done ?_
    refine sw_ret ?_
    have DL28 := (Df.md Dfw7 Mw8)
    have L28 := Md.put (w := w8) Dw7 (.deferred none)
    have zL28 := L28.size
    have B29 := (Bx.md Bw8 L28)
    have X30 : Gr w (w8.putObj Dw7 (.deferred none)) := (Gr.md (Gr.md (Gr.kz X9 Zw7) Mw8) L28)
    have hr := Option.some.inj hm
    subst hr
    refine ⟨_, _, ⟨Dw7, rfl, DL28, rfl⟩, res_1 rfl (rv_cell1 one_4 rfl B29), ?_⟩
    exact ⟨rfl, X30⟩
  · clear hm; rintro Dw9 c rk fp w9 hDw9 Dfw9 nw9 hle ⟨rfl, a4, hm, rfl, Fw9_0, -⟩ Kw9
    have Zw9 : Kz [(1, b1)] w2 w9 := kz_of_kp Kw9 (by intro k hk; simp only [Nin, and_true, List.mem_cons, List.mem_append, mem_zf, List.not_mem_nil, or_false, false_or, not_or, ne_eq, List.nil_append, List.cons_append, true_and, and_true, false_and, and_false, not_true_eq_false, not_false_eq_true, or_true, true_or] at hk ⊢; omega)
    have z31 := Kw9.size
    have lt32 := Df.lt (w := w9) Dfw9
    simp only [List.mem_cons, List.mem_append, mem_zf, List.not_mem_nil, or_false, false_or, not_or, ne_eq, List.nil_append, List.cons_append, true_and, and_true, false_and, and_false, not_true_eq_false, not_false_eq_true, or_true, true_or, not_and] at nw9
    have lt33 := Fw9_0.lt
    unfold cover_Knows_1_X1_0 at hm
    try dsimp only at hm
    refine sw_ret ?_
    refine block_r ?_
    refine then_r ?_
    have DL34 := Dfw9
    have L34 := Md.put (w := w9) Dw9 (.deferred none)
    have zL34 := L34.size
    have B35 := (Bx.md Fw9_0 L34)
    have X36 : Gr w (w9.putObj Dw9 (.deferred none)) := (Gr.md (Gr.kz X9 Zw9) L34)
    have hr := Option.some.inj hm
    subst hr
    refine ⟨_, _, ⟨Dw9, rfl, DL34, rfl⟩, res_1 rfl (rv_cell1 one_4 rfl B35), ?_⟩
    exact ⟨rfl, X36⟩

set_option maxHeartbeats 2000000 in
theorem slices_IndexFunc_7bbb_cover_Knows_1_w (p0 : List Int) (p1_0 : Tcover_tree) (p1_1 : TSubset) (vp0 : Value) (zp0 gp0 op0 : Nat) (bp1_0 : Nat) (bp1_1 : Nat) (r : Int) (hm : slices_IndexFunc_7bbb_cover_Knows_1 p0 p1_0 p1_1 = some r) (w : World) (hp0 : Rd w zp0 gp0 op0 1 vp0 (p0.map ic)) (hbp1_0 : Bx w bp1_0 134 (Tcover_tree.cs p1_0)) (hbp1_1 : Bx w bp1_1 47 (TSubset.cs p1_1))  :
    Calls Try.prog 148 [vp0, .func (.func 111) [].toArray [.pointer (some ⟨bp1_0, 0, none⟩), .pointer (some ⟨bp1_1, 0, none⟩)].toArray].toArray w fun e w' => ∃ v, e = .returned v ∧ (v = .int .i64 r ∧ Gr w w') := by
  have lt1 := hp0.lth
  have lt2 := hbp1_0.lt
  have lt3 := hbp1_1.lt
  unfold slices_IndexFunc_7bbb_cover_Knows_1 at hm
  refine calls_of_sw (R := fun v w' => v = .int .i64 r ∧ Gr w w') 19 Try.func148 rfl rfl rfl ?_
  refine sw_seq ?_
  -- region 0 slices.go:107
  refine sw_region [(0, 0)] rfl rfl rfl ?_
  refine sd_vv rfl rfl rfl (vv_assign rfl) ?_
  refine sd_done ?_
  refine sw_seq ?_
  refine sw_seq ?_
  -- region 1 slices.go:108
  refine sw_region [(0, 0), (1, 0), (2, 0)] rfl rfl rfl ?_
  refine sd_vv rfl rfl rfl (vv_move rfl) ?_
  refine sd_vv rfl rfl rfl (vv_lenT (l := p0) (c := ic) Try.underlying61 rfl hp0) ?_
  refine sd_vv rfl rfl rfl (vv_move rfl) ?_
  refine sd_done ?_
  refine sw_block ?_
  refine sw_loopD (α := Nat × Int) [4, 5, 8, 9, 10, 11, 12, 13, 14, 15, 16, 17, 18] (fun ⟨n1, a2⟩ => [(4, .int .i64 0), (8, .int .i64 a2)]) (fun ⟨n1, a2⟩ wr => (fixN (slices_IndexFunc_7bbb_cover_Knows_1_L1 p0 p1_0 p1_1) n1 a2 = some r) ∧ Kz [] w wr) (fun ⟨n1, a2⟩ => n1) ⟨FUEL, 0⟩ ?_ ?_ ?_
  · repeat' first | exact trivial | refine ⟨rfl, ?_⟩
  · exact ⟨hm, Kz.refl _ _⟩
  · clear hm; rintro ⟨n1, a2⟩ w1 ⟨hm, Kw1⟩
    have z4 := Kw1.size
    have hb := fix_succ hm; clear hm; obtain ⟨n1, rfl, hm⟩ := hb
    generalize hrec1 : fixN (slices_IndexFunc_7bbb_cover_Knows_1_L1 p0 p1_0 p1_1) n1 = rec1 at hm
    unfold slices_IndexFunc_7bbb_cover_Knows_1_L1 at hm
    try dsimp only at hm
    refine sw_seq ?_
    -- region 2 slices.go:108
    refine sw_region [(0, 0)] rfl rfl rfl ?_
    refine sd_vv rfl rfl rfl (vv_lss (a := a2) (b := (p0.length : Int)) rfl rfl) ?_
    refine sd_done ?_
    refine sw_seq ?_
    refine sw_cond rfl (fun c1 => ?_) (fun c1 => ?_)
    ·
      replace hm := ite_t (of_decide_eq_true c1) hm
      refine sw_skip ?_
      refine then_n ?_
      refine sw_seq ?_
      refine sw_block ?_
      refine sw_seq ?_
      -- region 3 slices.go:108
      refine sw_region [(0, 0), (1, 0)] rfl rfl rfl ?_
      refine sd_vv rfl rfl rfl (vv_move rfl) ?_
      refine sd_vv rfl rfl rfl (vv_assign rfl) ?_
      refine sd_done ?_
      refine sw_seq ?_
      -- region 4 slices.go:109
      refine sw_region [(0, 0), (1, 0), (2, 0), (3, 0), (4, 0), (5, 0)] rfl rfl rfl ?_
      refine sd_vv rfl rfl rfl (vv_move rfl) ?_
      refine sd_vv rfl rfl rfl (vv_move rfl) ?_
      refine sd_vv rfl rfl rfl (vv_move rfl) ?_
      have hb := bnd hm; clear hm; obtain ⟨y3, hy3, hm⟩ := hb
      have B5 := (Rd.kz hp0 Kw1)
      refine sd_vv rfl rfl rfl (vv_ixT (i := a2) Try.underlying61 (one_3).siz rfl B5 rfl hy3) ?_
      refine sd_vv rfl rfl rfl (vv_el1T (q := 0) (u := .int .i64 y3) one_3 rfl B5 hy3 (by first | rfl | omega) rfl) ?_
      have B6 := (Bx.kz hbp1_0 Kw1)
      have B7 := (Bx.kz hbp1_1 Kw1)
      have hb := bnd hm; clear hm; obtain ⟨x4, hx4, hm⟩ := hb
      refine sd_ev rfl rfl rfl (ev_callV en_111 rfl rfl (cover_Knows_1_w y3 p1_0 p1_1 _ _ _ hx4 _ B6 B7)) ?_
      rintro _ w2 ⟨rfl, Gw2⟩
      have z8 := Gw2.size
      refine sd_done ?_
      refine sw_cond rfl (fun c2 => ?_) (fun c2 => ?_)
      ·
        replace hm := cnd_t c2 hm
        refine sw_seq ?_
        -- region 5 slices.go:110
        refine sw_region [(0, 0), (1, 0)] rfl rfl rfl ?_
        refine sd_vv rfl rfl rfl (vv_move rfl) ?_
        refine sd_vv rfl rfl rfl (vv_assign rfl) ?_
        refine sd_done ?_
        refine sw_ret ?_
        refine block_r ?_
        refine then_r ?_
        refine then_r ?_
        refine block_r ?_
        refine then_r ?_
        have X9 : Gr w w2 := (Gr.trans (Gr.kz (Gr.refl w) Kw1) Gw2)
        have hr := Option.some.inj hm
        subst hr
        refine ⟨_, _, rfl, res_1 rfl (rv_tmp rfl), ?_⟩
        exact ⟨rfl, X9⟩
      ·
        replace hm := cnd_f c2 hm
        refine sw_skip ?_
        refine block_n ?_
        refine then_n ?_
        -- region 6 slices.go:108
        refine sw_region [(0, 0), (1, 0)] rfl rfl rfl ?_
        refine sd_vv rfl rfl rfl (vv_add (k := .i64) (a := a2) (b := 1) rfl rfl) ?_
        refine sd_vv rfl rfl rfl (vv_move rfl) ?_
        refine sd_nil ?_
        have K_10 : Kz [] w w2 := (Kz.gr Kw1 Gw2)
        subst hrec1
        refine ⟨rfl, ⟨n1, w64 (a2 + 1)⟩, ?_, ⟨hm, K_10⟩, Nat.lt_succ_self _⟩
        repeat' first | exact trivial | refine ⟨rfl, ?_⟩
    ·
      replace hm := ite_f (of_decide_eq_false c1) hm
      refine sw_exit ?_
      refine then_x ?_
      refine then_x ?_
      refine block_x ?_
      refine then_n ?_
      refine sw_seq ?_
      -- region 7 slices.go:113
      refine sw_region [(0, 0)] rfl rfl rfl ?_
      refine sd_vv rfl rfl rfl (vv_assign rfl) ?_
      refine sd_done ?_
      refine sw_ret ?_
      have X11 : Gr w w1 := (Gr.kz (Gr.refl w) Kw1)
      have hr := Option.some.inj hm
      subst hr
      refine ⟨_, _, rfl, res_1 rfl (rv_tmp rfl), ?_⟩
      exact ⟨rfl, X11⟩

set_option maxHeartbeats 2000000 in
theorem slices_ContainsFunc_5954_cover_Knows_1_w (p0 : List Int) (p1_0 : Tcover_tree) (p1_1 : TSubset) (vp0 : Value) (zp0 gp0 op0 : Nat) (bp1_0 : Nat) (bp1_1 : Nat) (r : Bool) (hm : slices_ContainsFunc_5954_cover_Knows_1 p0 p1_0 p1_1 = some r) (w : World) (hp0 : Rd w zp0 gp0 op0 1 vp0 (p0.map ic)) (hbp1_0 : Bx w bp1_0 134 (Tcover_tree.cs p1_0)) (hbp1_1 : Bx w bp1_1 47 (TSubset.cs p1_1))  :
    Calls Try.prog 110 [vp0, .func (.func 111) [].toArray [.pointer (some ⟨bp1_0, 0, none⟩), .pointer (some ⟨bp1_1, 0, none⟩)].toArray].toArray w fun e w' => ∃ v, e = .returned v ∧ (v = .bool r ∧ Gr w w') := by
  have lt1 := hp0.lth
  have lt2 := hbp1_0.lt
  have lt3 := hbp1_1.lt
  unfold slices_ContainsFunc_5954_cover_Knows_1 at hm
  refine calls_of_sw (R := fun v w' => v = .bool r ∧ Gr w w') 9 Try.func110 rfl rfl rfl ?_
  refine sw_seq ?_
  -- region 0 slices.go:124
  refine sw_region [(0, 0)] rfl rfl rfl ?_
  refine sd_vv rfl rfl rfl (vv_assign rfl) ?_
  refine sd_done ?_
  refine sw_seq ?_
  -- region 1 slices.go:125
  refine sw_region [(0, 0), (1, 0), (2, 0), (3, 0), (4, 0)] rfl rfl rfl ?_
  refine sd_vv rfl rfl rfl (vv_move rfl) ?_
  refine sd_vv rfl rfl rfl (vv_move rfl) ?_
  have hb := bnd hm; clear hm; obtain ⟨x1, hx1, hm⟩ := hb
  refine sd_ev rfl rfl rfl (ev_call en_148 rfl (slices_IndexFunc_7bbb_cover_Knows_1_w p0 p1_0 p1_1 _ _ _ _ _ _ _ hx1 _ hp0 hbp1_0 hbp1_1)) ?_
  rintro _ w1 ⟨rfl, Gw1⟩
  have z4 := Gw1.size
  refine sd_vv rfl rfl rfl (vv_geq (a := x1) (b := 0) rfl rfl) ?_
  refine sd_vv rfl rfl rfl (vv_assign rfl) ?_
  refine sd_done ?_
  refine sw_ret ?_
  have X5 : Gr w w1 := (Gr.trans (Gr.refl w) Gw1)
  have hr := Option.some.inj hm
  subst hr
  refine ⟨_, _, rfl, res_1 rfl (rv_tmp rfl), ?_⟩
  exact ⟨rfl, X5⟩

set_option maxHeartbeats 2000000 in
theorem cover_Knows_w (p0 : TScheme) (p1 : List Int) (p2 : TSubset) (vp1 : Value) (zp1 gp1 op1 : Nat) (r : Bool × Int) (hm : cover_Knows p0 p1 p2 = some r) (w : World) (hp1 : Rd w zp1 gp1 op1 1 vp1 (p1.map ic))  :
    Calls Try.prog 52 [.agg (TScheme.cs p0).toArray, vp1, .agg (TSubset.cs p2).toArray].toArray w fun e w' => ∃ v, e = .returned v ∧ (v = .tuple [.bool r.1, .int .i64 r.2].toArray ∧ Gr w w') := by
  have lt1 := hp1.lth
  unfold cover_Knows at hm
  refine calls_of_sw (R := fun v w' => v = .tuple [.bool r.1, .int .i64 r.2].toArray ∧ Gr w w') 29 Try.func52 rfl rfl rfl ?_
  refine sw_seq ?_
  -- region 0 cover.go:259
  refine sw_region [(0, 0), (1, 0), (2, 0), (3, 0)] rfl rfl rfl ?_
  refine sd_ev rfl rfl rfl (ev_box (cs := TScheme.cs p0) rfl rfl) ?_
  rintro _ w1 ⟨b1, rfl, hbw1, Bw1, Gw1⟩
  have z2 := Gw1.size
  have lt3 := Bw1.lt
  refine sd_ev rfl rfl rfl (ev_box (cs := TSubset.cs p2) rfl rfl) ?_
  rintro _ w2 ⟨b2, rfl, hbw2, Bw2, Gw2⟩
  have z4 := Gw2.size
  have lt5 := Bw2.lt
  refine sd_vv rfl rfl rfl (vv_assign rfl) ?_
  refine sd_vv rfl rfl rfl (vv_assign rfl) ?_
  refine sd_done ?_
  refine sw_seq ?_
  -- region 1 cover.go:260
  refine sw_region [(0, 0), (1, 0), (2, 0), (3, 0), (4, 0), (5, 0), (6, 0), (7, 0)] rfl rfl rfl ?_
  have B6 := (Bx.gr Bw1 Gw2)
  refine sd_vv rfl rfl rfl (vv_loadW agg_45 rfl B6 rfl) ?_
  have hb := bnd hm; clear hm; obtain ⟨x1, hx1, hm⟩ := hb
  refine sd_ev rfl rfl rfl (ev_call en_74 rfl (cover_enter_w p0 ([] : List TSubset) _ _ _ _ _ hx1 _ (Own.rd (own_nil _ 0 47 2)))) ?_
  rintro _ w3 ⟨rfl, Gw3⟩
  have z7 := Gw3.size
  refine sd_vv rfl rfl rfl (vv_move rfl) ?_
  refine sd_vv rfl rfl rfl (vv_extract rfl rfl) ?_
  refine sd_vv rfl rfl rfl (vv_extract rfl rfl) ?_
  refine sd_ev rfl rfl rfl (ev_alloc (cs := Tcover_tree.cs (Tcover_tree.mk 0#8 0 0)) zv_134 rfl) ?_
  rintro _ w4 ⟨b4, rfl, hbw4, Bw4, Gw4⟩
  have z8 := Gw4.size
  have lt9 := Bw4.lt
  refine sd_ev rfl rfl rfl (ev_stM (cs' := Tcover_tree.cs x1.1) (vs := Tcover_tree.cs x1.1) (agg_134).siz rfl rfl rfl rfl rfl Bw4 rfl rfl) ?_
  rintro _ w5 ⟨Bw5, Mw5⟩
  have z10 := Mw5.size
  refine sd_vv rfl rfl rfl (vv_assign rfl) ?_
  refine sd_done ?_
  refine sw_seq ?_
  refine sw_seq ?_
  -- region 2 cover.go:261
  refine sw_region [(0, 0), (1, 0)] rfl rfl rfl ?_
  refine sd_vv rfl rfl rfl (vv_move rfl) ?_
  refine sd_vv rfl rfl rfl (vv_neq (a := x1.2) (b := 0) rfl rfl) ?_
  refine sd_done ?_
  refine sw_cond rfl (fun c1 => ?_) (fun c1 => ?_)
  ·
    replace hm := ite_t (of_decide_eq_true c1) hm
    refine sw_seq ?_
    -- region 3 cover.go:262
    refine sw_region [(0, 0), (1, 0), (2, 0)] rfl rfl rfl ?_
    refine sd_vv rfl rfl rfl (vv_move rfl) ?_
    refine sd_vv rfl rfl rfl (vv_assign rfl) ?_
    refine sd_vv rfl rfl rfl (vv_assign rfl) ?_
    refine sd_done ?_
    refine sw_ret ?_
    refine then_r ?_
    have X11 : Gr w w5 := (Gr.md (Gr.trans (Gr.trans (Gr.trans (Gr.trans (Gr.refl w) Gw1) Gw2) Gw3) Gw4) Mw5)
    have hr := Option.some.inj hm
    subst hr
    refine ⟨_, _, rfl, res_2 rfl (rv_tmp rfl) (rv_tmp rfl), ?_⟩
    exact ⟨rfl, X11⟩
  ·
    replace hm := ite_f (of_decide_eq_false c1) hm
    refine sw_skip ?_
    refine then_n ?_
    refine sw_seq ?_
    refine sw_seq ?_
    -- region 4 cover.go:264
    refine sw_region [(0, 0), (1, 0), (2, 0), (3, 0)] rfl rfl rfl ?_
    refine sd_vv rfl rfl rfl (vv_loadW agg_134 rfl Bw5 rfl) ?_
    refine sd_vv rfl rfl rfl (vv_move rfl) ?_
    have B12 := (Rd.md (Rd.gr (Rd.gr (Rd.gr (Rd.gr hp1 Gw1) Gw2) Gw3) Gw4) Mw5 (tk1 ((pv_lt (A := (fun x => x ≠ b4)) lt1) : zp1 = 0 ∨ gp1 ≠ b4)))
    have hb := bnd hm; clear hm; obtain ⟨x2, hx2, hm⟩ := hb
    refine sd_ev rfl rfl rfl (ev_call en_109 rfl (cover_tree_list_w x1.1 p1 _ _ _ _ _ hx2 _ B12)) ?_
    rintro _ w6 ⟨rfl, Gw6⟩
    have z13 := Gw6.size
    refine sd_vv rfl rfl rfl (vv_not rfl) ?_
    refine sd_done ?_
    refine sw_cond rfl (fun c2 => ?_) (fun c2 => ?_)
    ·
      replace hm := cnd_t c2 hm
      refine sw_seq ?_
      -- region 5 cover.go:265
      refine sw_region [(0, 0), (1, 0)] rfl rfl rfl ?_
      refine sd_vv rfl rfl rfl (vv_assign rfl) ?_
      refine sd_vv rfl rfl rfl (vv_assign rfl) ?_
      refine sd_done ?_
      refine sw_ret ?_
      refine then_r ?_
      have X14 : Gr w w6 := (Gr.trans (Gr.md (Gr.trans (Gr.trans (Gr.trans (Gr.trans (Gr.refl w) Gw1) Gw2) Gw3) Gw4) Mw5) Gw6)
      have hr := Option.some.inj hm
      subst hr
      refine ⟨_, _, rfl, res_2 rfl (rv_tmp rfl) (rv_tmp rfl), ?_⟩
      exact ⟨rfl, X14⟩
    ·
      replace hm := cnd_f c2 hm
      refine sw_skip ?_
      refine then_n ?_
      refine sw_seq ?_
      refine sw_seq ?_
      -- region 6 cover.go:267
      refine sw_region [(0, 0), (1, 0), (2, 0), (3, 0)] rfl rfl rfl ?_
      have B15 := (Bx.gr Bw5 Gw6)
      refine sd_vv rfl rfl rfl (vv_loadW agg_134 rfl B15 rfl) ?_
      have B16 := (Bx.gr (Bx.md (Bx.gr (Bx.gr Bw2 Gw3) Gw4) Mw5) Gw6)
      refine sd_vv rfl rfl rfl (vv_loadW agg_47 rfl B16 rfl) ?_
      have hb := bnd hm; clear hm; obtain ⟨x3, hx3, hm⟩ := hb
      refine sd_ev rfl rfl rfl (ev_call en_79 rfl (cover_tree_subset_w x1.1 p2 _ hx3 _)) ?_
      rintro _ w7 ⟨rfl, Gw7⟩
      have z17 := Gw7.size
      refine sd_vv rfl rfl rfl (vv_not rfl) ?_
      refine sd_done ?_
      refine sw_cond rfl (fun c3 => ?_) (fun c3 => ?_)
      ·
        replace hm := cnd_t c3 hm
        refine sw_seq ?_
        -- region 7 cover.go:268
        refine sw_region [(0, 0), (1, 0)] rfl rfl rfl ?_
        refine sd_vv rfl rfl rfl (vv_assign rfl) ?_
        refine sd_vv rfl rfl rfl (vv_assign rfl) ?_
        refine sd_done ?_
        refine sw_ret ?_
        refine then_r ?_
        have X18 : Gr w w7 := (Gr.trans (Gr.trans (Gr.md (Gr.trans (Gr.trans (Gr.trans (Gr.trans (Gr.refl w) Gw1) Gw2) Gw3) Gw4) Mw5) Gw6) Gw7)
        have hr := Option.some.inj hm
        subst hr
        refine ⟨_, _, rfl, res_2 rfl (rv_tmp rfl) (rv_tmp rfl), ?_⟩
        exact ⟨rfl, X18⟩
      ·
        replace hm := cnd_f c3 hm
        refine sw_skip ?_
        refine then_n ?_
        refine sw_seq ?_
        -- region 8 cover.go:270
        refine sw_region [(0, 0), (1, 0), (2, 0), (3, 0), (4, 0)] rfl rfl rfl ?_
        refine sd_vv rfl rfl rfl (vv_move rfl) ?_
        refine sd_vv rfl rfl rfl (vv_makeFunc rfl rfl) ?_
        have B19 := (Rd.gr (Rd.gr B12 Gw6) Gw7)
        have B20 := (Bx.gr B15 Gw7)
        have B21 := (Bx.gr B16 Gw7)
        have hb := bnd hm; clear hm; obtain ⟨x4, hx4, hm⟩ := hb
        refine sd_ev rfl rfl rfl (ev_call en_110 rfl (slices_ContainsFunc_5954_cover_Knows_1_w p1 x1.1 p2 _ _ _ _ _ _ _ hx4 _ B19 B20 B21)) ?_
        rintro _ w8 ⟨rfl, Gw8⟩
        have z22 := Gw8.size
        refine sd_vv rfl rfl rfl (vv_assign rfl) ?_
        refine sd_vv rfl rfl rfl (vv_assign rfl) ?_
        refine sd_done ?_
        refine sw_ret ?_
        have X23 : Gr w w8 := (Gr.trans (Gr.trans (Gr.trans (Gr.md (Gr.trans (Gr.trans (Gr.trans (Gr.trans (Gr.refl w) Gw1) Gw2) Gw3) Gw4) Mw5) Gw6) Gw7) Gw8)
        have hr := Option.some.inj hm
        subst hr
        refine ⟨_, _, rfl, res_2 rfl (rv_tmp rfl) (rv_tmp rfl), ?_⟩
        exact ⟨rfl, X23⟩

set_option maxHeartbeats 2000000 in
theorem ref03_IsList_w (p0 : Int) (p1 : List Int) (vp1 : Value) (zp1 gp1 op1 : Nat) (r : Bool) (hm : ref03_IsList p0 p1 = some r) (w : World) (hp1 : Rd w zp1 gp1 op1 1 vp1 (p1.map ic))  :
    Calls Try.prog 57 [.int .i64 p0, vp1].toArray w fun e w' => ∃ v, e = .returned v ∧ (v = .bool r ∧ Gr w w') := by
  have lt1 := hp1.lth
  unfold ref03_IsList at hm
  refine calls_of_sw (R := fun v w' => v = .bool r ∧ Gr w w') 42 Try.func57 rfl rfl rfl ?_
  refine sw_seq ?_
  -- region 0 ref.go:150
  refine sw_region [(0, 0)] rfl rfl rfl ?_
  refine sd_vv rfl rfl rfl (vv_assign rfl) ?_
  refine sd_done ?_
  refine sw_seq ?_
  refine sw_seq ?_
  -- region 1 ref.go:151
  refine sw_region [(0, 0)] rfl rfl rfl ?_
  refine sd_vv rfl rfl rfl (vv_assign rfl) ?_
  refine sd_done ?_
  refine sw_block ?_
  refine sw_loopD (α := Nat × Int) [4, 5, 6, 7, 8, 9, 10, 11, 12, 13, 14, 15, 16, 17, 18, 19, 20, 21, 22, 23, 24, 25, 26, 27, 28, 29, 30, 31, 32, 33, 34, 35, 36, 37, 38, 39, 40, 41] (fun ⟨n1, a2⟩ => [(4, .bool false), (5, .int .i64 a2)]) (fun ⟨n1, a2⟩ wr => (fixN (ref03_IsList_L1 p0 p1) n1 a2 = some r) ∧ Kz [] w wr) (fun ⟨n1, a2⟩ => n1) ⟨FUEL, 0⟩ ?_ ?_ ?_
  · repeat' first | exact trivial | refine ⟨rfl, ?_⟩
  · exact ⟨hm, Kz.refl _ _⟩
  · clear hm; rintro ⟨n1, a2⟩ w1 ⟨hm, Kw1⟩
    have z2 := Kw1.size
    have hb := fix_succ hm; clear hm; obtain ⟨n1, rfl, hm⟩ := hb
    generalize hrec1 : fixN (ref03_IsList_L1 p0 p1) n1 = rec1 at hm
    unfold ref03_IsList_L1 at hm
    try dsimp only at hm
    refine sw_seq ?_
    refine sw_seq ?_
    -- region 2 ref.go:151
    refine sw_region [(0, 0), (1, 0), (2, 0), (3, 0)] rfl rfl rfl ?_
    refine sd_vv rfl rfl rfl (vv_move rfl) ?_
    refine sd_vv rfl rfl rfl (vv_move rfl) ?_
    have B3 := (Rd.kz hp1 Kw1)
    refine sd_vv rfl rfl rfl (vv_lenT (l := p1) (c := ic) Try.underlying61 rfl B3) ?_
    refine sd_vv rfl rfl rfl (vv_lss (a := a2) (b := (p1.length : Int)) rfl rfl) ?_
    refine sd_done ?_
    refine sw_cond rfl (fun c1 => ?_) (fun c1 => ?_)
    ·
      replace hm := ite_t (of_decide_eq_true c1) hm
      refine sw_skip ?_
      refine then_n ?_
      refine sw_seq ?_
      refine sw_block ?_
      have X4 : Gr w w1 := (Gr.kz (Gr.refl w) Kw1)
      refine sw_joinD (β := Bool) [12, 13, 14, 15, 16, 17, 18, 19, 20, 21, 22, 23, 24, 25, 26, 27, 28, 29, 30, 31, 32, 33, 34, 35, 36, 37, 38, 39, 40, 41] (fun a3 => [(41, .bool a3)]) (fun a3 wr => (ref03_IsList_J2 a2 rec1 a3 = some r) ∧ Kz [] w1 wr) ?_ ?_
      · clear hm; rintro a3 w2 ⟨hm, Kw2⟩
        have z5 := Kw2.size
        unfold ref03_IsList_J2 at hm
        refine sw_cond rfl (fun c2 => ?_) (fun c2 => ?_)
        ·
          replace hm := cnd_t c2 hm
          refine sw_seq ?_
          -- region 5 ref.go:153
          refine sw_region [(0, 0)] rfl rfl rfl ?_
          refine sd_vv rfl rfl rfl (vv_assign rfl) ?_
          refine sd_done ?_
          refine sw_ret ?_
          refine block_r ?_
          refine then_r ?_
          refine then_r ?_
          refine block_r ?_
          refine then_r ?_
          have X6 : Gr w w2 := (Gr.kz X4 Kw2)
          have hr := Option.some.inj hm
          subst hr
          refine ⟨_, _, rfl, res_1 rfl (rv_tmp rfl), ?_⟩
          exact ⟨rfl, X6⟩
        ·
          replace hm := cnd_f c2 hm
          refine sw_skip ?_
          refine block_n ?_
          refine then_n ?_
          -- region 3 ref.go:151
          refine sw_region [(0, 0), (1, 0), (2, 0)] rfl rfl rfl ?_
          refine sd_vv rfl rfl rfl (vv_move rfl) ?_
          refine sd_vv rfl rfl rfl (vv_add (k := .i64) (a := a2) (b := 1) rfl rfl) ?_
          refine sd_vv rfl rfl rfl (vv_assign rfl) ?_
          refine sd_nil ?_
          have K_7 : Kz [] w w2 := (Kz.kz Kw1 Kw2)
          subst hrec1
          refine ⟨rfl, ⟨n1, w64 (a2 + 1)⟩, ?_, ⟨hm, K_7⟩, Nat.lt_succ_self _⟩
          repeat' first | exact trivial | refine ⟨rfl, ?_⟩
      ·
        -- region 4 ref.go:152 DRAWS
        refine sw_drawN [([])] [] (.leaf [(0, 10), (1, 10), (2, 10), (3, 10), (4, 10), (5, 10), (6, 10), (7, 10), (8, 10), (9, 10), (10, 10), (11, 0), (12, 10), (13, 10), (14, 10), (15, 10), (16, 10), (17, 10), (18, 10), (19, 10), (20, 10), (21, 10), (22, 10), (23, 10), (24, 10), (25, 10), (26, 10), (27, 10), (28, 10), (29, 10)]) (by kernel_rfl) (by kernel_rfl) rfl (by kernel_rfl) ?_
        intro w3 Gw3 zw3
        refine sdz_leaf ?_
        refine dd_hn 0 rfl rfl rfl rfl (Kp.refl ([]) w3) (fun w hS => vv_move rfl) ?_
        refine dd_hn 0 rfl rfl rfl rfl (Kp.refl ([]) w3) (fun w hS => vv_move rfl) ?_
        have hb := bnd hm; clear hm; obtain ⟨y4, hy4, hm⟩ := hb
        have B8 := (Rd.gr B3 Gw3)
        refine dd_hn 0 rfl rfl rfl rfl (Kp.refl ([]) w3) (fun w hS => vv_ixT (i := a2) Try.underlying61 (one_3).siz rfl (Rd.kp B8 hS) rfl hy4) ?_
        refine dd_hn 0 rfl rfl rfl rfl (Kp.refl ([]) w3) (fun w hS => vv_el1T (q := 0) (u := .int .i64 y4) one_3 rfl (Rd.kp B8 hS) hy4 (by first | rfl | omega) rfl) ?_
        refine dd_hn 0 rfl rfl rfl rfl (Kp.refl ([]) w3) (fun w hS => vv_lss (a := y4) (b := 0) rfl rfl) ?_
        refine dd_pn 0 rfl rfl rfl rfl (Kp.refl ([]) w3) (fun w hS => vv_move rfl) (fun c3 => ?_) (fun c3 => ?_)
        ·
          replace hm := ite_t (of_decide_eq_true c3) hm
          refine dd_sn 0 rfl rfl rfl rfl (Kp.refl ([]) w3) ?_
          refine dd_sn 0 rfl rfl rfl rfl (Kp.refl ([]) w3) ?_
          refine dd_sn 0 rfl rfl rfl rfl (Kp.refl ([]) w3) ?_
          refine dd_sn 0 rfl rfl rfl rfl (Kp.refl ([]) w3) ?_
          refine dd_sn 0 rfl rfl rfl rfl (Kp.refl ([]) w3) ?_
          refine dd_sz rfl rfl rfl ?_
          refine dd_sn 0 rfl rfl rfl rfl (Kp.refl ([]) w3) ?_
          refine dd_hn 0 rfl rfl rfl rfl (Kp.refl ([]) w3) (fun w hS => vv_pickT rfl rfl) ?_
          refine dd_hn 0 rfl rfl rfl rfl (Kp.refl ([]) w3) (fun w hS => vv_move rfl) ?_
          refine dd_sn 0 rfl rfl rfl rfl (Kp.refl ([]) w3) ?_
          refine dd_sn 0 rfl rfl rfl rfl (Kp.refl ([]) w3) ?_
          refine dd_sn 0 rfl rfl rfl rfl (Kp.refl ([]) w3) ?_
          refine dd_sn 0 rfl rfl rfl rfl (Kp.refl ([]) w3) ?_
          refine dd_sn 0 rfl rfl rfl rfl (Kp.refl ([]) w3) ?_
          refine dd_sn 0 rfl rfl rfl rfl (Kp.refl ([]) w3) ?_
          refine dd_sn 0 rfl rfl rfl rfl (Kp.refl ([]) w3) ?_
          refine dd_sn 0 rfl rfl rfl rfl (Kp.refl ([]) w3) ?_
          refine dd_sn 0 rfl rfl rfl rfl (Kp.refl ([]) w3) ?_
          refine dd_sn 0 rfl rfl rfl rfl (Kp.refl ([]) w3) ?_
          refine dd_sn 0 rfl rfl rfl rfl (Kp.refl ([]) w3) ?_
          refine dd_sn 0 rfl rfl rfl rfl (Kp.refl ([]) w3) ?_
          refine dd_sn 0 rfl rfl rfl rfl (Kp.refl ([]) w3) ?_
          refine dd_sn 0 rfl rfl rfl rfl (Kp.refl ([]) w3) ?_
          refine dd_hn 0 rfl rfl rfl rfl (Kp.refl ([]) w3) (fun w hS => vv_pickT rfl rfl) ?_
          refine sd_nil ?_
          have K_9 : Kz [] w1 w3 := (Kz.gr (Kz.refl _ _) Gw3)
          refine ⟨rfl, true, ?_, hm, K_9⟩
          repeat' first | exact trivial | refine ⟨rfl, ?_⟩
        ·
          replace hm := ite_f (of_decide_eq_false c3) hm
          refine dd_hn 0 rfl rfl rfl rfl (Kp.refl ([]) w3) (fun w hS => vv_move rfl) ?_
          refine dd_hn 0 rfl rfl rfl rfl (Kp.refl ([]) w3) (fun w hS => vv_move rfl) ?_
          have hb := bnd hm; clear hm; obtain ⟨y5, hy5, hm⟩ := hb
          refine dd_hn 0 rfl rfl rfl rfl (Kp.refl ([]) w3) (fun w hS => vv_ixT (i := a2) Try.underlying61 (one_3).siz rfl (Rd.kp B8 hS) rfl hy5) ?_
          refine dd_hn 0 rfl rfl rfl rfl (Kp.refl ([]) w3) (fun w hS => vv_el1T (q := 0) (u := .int .i64 y5) one_3 rfl (Rd.kp B8 hS) hy5 (by first | rfl | omega) rfl) ?_
          refine dd_hn 0 rfl rfl rfl rfl (Kp.refl ([]) w3) (fun w hS => vv_move rfl) ?_
          have hb := bnd hm; clear hm; obtain ⟨x6, hx6, hm⟩ := hb
          refine dd_z [] rfl rfl rfl (ev_call en_118 rfl (ref03_Receivers_w p0 _ hx6 _)) ⟨fun _ => tk0, trivial⟩ ?_
          rintro _ w4 ⟨rfl, Gw4⟩
          have z10 := Gw4.size
          refine ⟨Kz.ofGr Gw4, ?_⟩
          have S11 := (Kp.gr (Kp.refl ([]) w3) Gw4)
          refine dd_hn 0 rfl rfl rfl rfl S11 (fun w hS => vv_geq (a := y5) (b := x6) rfl rfl) ?_
          refine dd_hn 0 rfl rfl rfl rfl S11 (fun w hS => vv_pickF rfl rfl) ?_
          refine dd_pn 0 rfl rfl rfl rfl S11 (fun w hS => vv_move rfl) (fun c4 => ?_) (fun c4 => ?_)
          ·
            replace hm := ite_t (of_decide_eq_true c4) hm
            refine dd_sn 0 rfl rfl rfl rfl S11 ?_
            refine dd_sn 0 rfl rfl rfl rfl S11 ?_
            refine dd_sn 0 rfl rfl rfl rfl S11 ?_
            refine dd_sn 0 rfl rfl rfl rfl S11 ?_
            refine dd_sn 0 rfl rfl rfl rfl S11 ?_
            refine dd_sn 0 rfl rfl rfl rfl S11 ?_
            refine dd_sn 0 rfl rfl rfl rfl S11 ?_
            refine dd_sn 0 rfl rfl rfl rfl S11 ?_
            refine dd_sn 0 rfl rfl rfl rfl S11 ?_
            refine dd_sn 0 rfl rfl rfl rfl S11 ?_
            refine dd_sn 0 rfl rfl rfl rfl S11 ?_
            refine dd_sn 0 rfl rfl rfl rfl S11 ?_
            refine dd_sn 0 rfl rfl rfl rfl S11 ?_
            refine dd_sn 0 rfl rfl rfl rfl S11 ?_
            refine dd_hn 0 rfl rfl rfl rfl S11 (fun w hS => vv_pickT rfl rfl) ?_
            refine sd_nil ?_
            have K_12 : Kz [] w1 w4 := (Kz.gr (Kz.gr (Kz.refl _ _) Gw3) Gw4)
            refine ⟨rfl, true, ?_, hm, K_12⟩
            repeat' first | exact trivial | refine ⟨rfl, ?_⟩
          ·
            replace hm := ite_f (of_decide_eq_false c4) hm
            refine dd_hn 0 rfl rfl rfl rfl S11 (fun w hS => vv_move rfl) ?_
            refine dd_hn 0 rfl rfl rfl rfl S11 (fun w hS => vv_gtr (a := a2) (b := 0) rfl rfl) ?_
            refine dd_pn 0 rfl rfl rfl rfl S11 (fun w hS => vv_move rfl) (fun c5 => ?_) (fun c5 => ?_)
            ·
              replace hm := ite_t (of_decide_eq_true c5) hm
              refine dd_hn 0 rfl rfl rfl rfl S11 (fun w hS => vv_move rfl) ?_
              refine dd_hn 0 rfl rfl rfl rfl S11 (fun w hS => vv_move rfl) ?_
              have hb := bnd hm; clear hm; obtain ⟨y7, hy7, hm⟩ := hb
              refine dd_hn 0 rfl rfl rfl rfl S11 (fun w hS => vv_ixT (i := a2) Try.underlying61 (one_3).siz rfl (Rd.kp B8 hS) rfl hy7) ?_
              refine dd_hn 0 rfl rfl rfl rfl S11 (fun w hS => vv_el1T (q := 0) (u := .int .i64 y7) one_3 rfl (Rd.kp B8 hS) hy7 (by first | rfl | omega) rfl) ?_
              refine dd_hn 0 rfl rfl rfl rfl S11 (fun w hS => vv_move rfl) ?_
              refine dd_hn 0 rfl rfl rfl rfl S11 (fun w hS => vv_move rfl) ?_
              refine dd_hn 0 rfl rfl rfl rfl S11 (fun w hS => vv_sub (k := .i64) (a := a2) (b := 1) rfl rfl) ?_
              have hb := bnd hm; clear hm; obtain ⟨y8, hy8, hm⟩ := hb
              refine dd_hn 0 rfl rfl rfl rfl S11 (fun w hS => vv_ixT (i := w64 (a2 - 1)) Try.underlying61 (one_3).siz rfl (Rd.kp B8 hS) rfl hy8) ?_
              refine dd_hn 0 rfl rfl rfl rfl S11 (fun w hS => vv_el1T (q := 0) (u := .int .i64 y8) one_3 rfl (Rd.kp B8 hS) hy8 (by first | rfl | omega) rfl) ?_
              refine dd_hn 0 rfl rfl rfl rfl S11 (fun w hS => vv_leq (a := y7) (b := y8) rfl rfl) ?_
              refine dd_hn 0 rfl rfl rfl rfl S11 (fun w hS => vv_pickT rfl rfl) ?_
              refine dd_hn 0 rfl rfl rfl rfl S11 (fun w hS => vv_pickF rfl rfl) ?_
              refine sd_nil ?_
              have K_13 : Kz [] w1 w4 := (Kz.gr (Kz.gr (Kz.refl _ _) Gw3) Gw4)
              refine ⟨rfl, (decide (y7 ≤ y8)), ?_, hm, K_13⟩
              repeat' first | exact trivial | refine ⟨rfl, ?_⟩
            ·
              replace hm := ite_f (of_decide_eq_false c5) hm
              refine dd_sn 0 rfl rfl rfl rfl S11 ?_
              refine dd_sn 0 rfl rfl rfl rfl S11 ?_
              refine dd_sn 0 rfl rfl rfl rfl S11 ?_
              refine dd_sn 0 rfl rfl rfl rfl S11 ?_
              refine dd_sn 0 rfl rfl rfl rfl S11 ?_
              refine dd_sn 0 rfl rfl rfl rfl S11 ?_
              refine dd_sn 0 rfl rfl rfl rfl S11 ?_
              refine dd_sn 0 rfl rfl rfl rfl S11 ?_
              refine dd_sn 0 rfl rfl rfl rfl S11 ?_
              refine dd_sn 0 rfl rfl rfl rfl S11 ?_
              refine dd_hn 0 rfl rfl rfl rfl S11 (fun w hS => vv_pickF rfl rfl) ?_
              refine dd_hn 0 rfl rfl rfl rfl S11 (fun w hS => vv_pickF rfl rfl) ?_
              refine sd_nil ?_
              have K_14 : Kz [] w1 w4 := (Kz.gr (Kz.gr (Kz.refl _ _) Gw3) Gw4)
              refine ⟨rfl, false, ?_, hm, K_14⟩
              repeat' first | exact trivial | refine ⟨rfl, ?_⟩
    ·
      replace hm := ite_f (of_decide_eq_false c1) hm
      refine sw_exit ?_
      refine then_x ?_
      refine then_x ?_
      refine block_x ?_
      refine then_n ?_
      refine sw_seq ?_
      -- region 6 ref.go:156
      refine sw_region [(0, 0)] rfl rfl rfl ?_
      refine sd_vv rfl rfl rfl (vv_assign rfl) ?_
      refine sd_done ?_
      refine sw_ret ?_
      have X15 : Gr w w1 := (Gr.kz (Gr.refl w) Kw1)
      have hr := Option.some.inj hm
      subst hr
      refine ⟨_, _, rfl, res_1 rfl (rv_tmp rfl), ?_⟩
      exact ⟨rfl, X15⟩

set_option maxHeartbeats 2000000 in
theorem ref03_Knows_w (p0 : TScheme) (p1 : List Int) (p2 : TSubset) (vp1 : Value) (zp1 gp1 op1 : Nat) (r : Bool × Int) (hm : ref03_Knows p0 p1 p2 = some r) (w : World) (hp1 : Rd w zp1 gp1 op1 1 vp1 (p1.map ic))  :
    Calls Try.prog 53 [.agg (TScheme.cs p0).toArray, vp1, .agg (TSubset.cs p2).toArray].toArray w fun e w' => ∃ v, e = .returned v ∧ (v = .tuple [.bool r.1, .int .i64 r.2].toArray ∧ Gr w w') := by
  have lt1 := hp1.lth
  unfold ref03_Knows at hm
  refine calls_of_sw (R := fun v w' => v = .tuple [.bool r.1, .int .i64 r.2].toArray ∧ Gr w w') 35 Try.func53 rfl rfl rfl ?_
  refine sw_seq ?_
  -- region 0 ref.go:447
  refine sw_region [(0, 0), (1, 0), (2, 0), (3, 0)] rfl rfl rfl ?_
  refine sd_ev rfl rfl rfl (ev_box (cs := TScheme.cs p0) rfl rfl) ?_
  rintro _ w1 ⟨b1, rfl, hbw1, Bw1, Gw1⟩
  have z2 := Gw1.size
  have lt3 := Bw1.lt
  refine sd_ev rfl rfl rfl (ev_box (cs := TSubset.cs p2) rfl rfl) ?_
  rintro _ w2 ⟨b2, rfl, hbw2, Bw2, Gw2⟩
  have z4 := Gw2.size
  have lt5 := Bw2.lt
  refine sd_vv rfl rfl rfl (vv_assign rfl) ?_
  refine sd_vv rfl rfl rfl (vv_assign rfl) ?_
  refine sd_done ?_
  refine sw_seq ?_
  refine sw_seq ?_
  -- region 1 ref.go:448
  refine sw_region [(0, 0), (1, 0), (2, 0)] rfl rfl rfl ?_
  have B6 := (Bx.gr Bw1 Gw2)
  refine sd_vv rfl rfl rfl (vv_loadW agg_45 rfl B6 rfl) ?_
  have hb := bnd hm; clear hm; obtain ⟨x1, hx1, hm⟩ := hb
  refine sd_ev rfl rfl rfl (ev_call en_59 rfl (ref03_Valid_w p0 _ hx1 _)) ?_
  rintro _ w3 ⟨rfl, Gw3⟩
  have z7 := Gw3.size
  refine sd_vv rfl rfl rfl (vv_not rfl) ?_
  refine sd_done ?_
  refine sw_cond rfl (fun c1 => ?_) (fun c1 => ?_)
  ·
    replace hm := cnd_t c1 hm
    refine sw_seq ?_
    -- region 2 ref.go:449
    refine sw_region [(0, 0), (1, 0)] rfl rfl rfl ?_
    refine sd_vv rfl rfl rfl (vv_assign rfl) ?_
    refine sd_vv rfl rfl rfl (vv_assign rfl) ?_
    refine sd_done ?_
    refine sw_ret ?_
    refine then_r ?_
    have X8 : Gr w w3 := (Gr.trans (Gr.trans (Gr.trans (Gr.refl w) Gw1) Gw2) Gw3)
    have hr := Option.some.inj hm
    subst hr
    refine ⟨_, _, rfl, res_2 rfl (rv_tmp rfl) (rv_tmp rfl), ?_⟩
    exact ⟨rfl, X8⟩
  ·
    replace hm := cnd_f c1 hm
    refine sw_skip ?_
    refine then_n ?_
    refine sw_seq ?_
    refine sw_seq ?_
    -- region 3 ref.go:451
    refine sw_region [(0, 0), (1, 0), (2, 0), (3, 0), (4, 0)] rfl rfl rfl ?_
    refine sd_vv rfl rfl rfl (vv_fieldAddr fa_45_1 rfl) ?_
    have B9 := (Bx.gr B6 Gw3)
    refine sd_vv rfl rfl rfl (vv_load1 (v := .int .i64 p0.Depth) one_3 rfl B9 rfl) ?_
    refine sd_vv rfl rfl rfl (vv_move rfl) ?_
    have B10 := (Rd.gr (Rd.gr (Rd.gr hp1 Gw1) Gw2) Gw3)
    have hb := bnd hm; clear hm; obtain ⟨x2, hx2, hm⟩ := hb
    refine sd_ev rfl rfl rfl (ev_call en_57 rfl (ref03_IsList_w p0.Depth p1 _ _ _ _ _ hx2 _ B10)) ?_
    rintro _ w4 ⟨rfl, Gw4⟩
    have z11 := Gw4.size
    refine sd_vv rfl rfl rfl (vv_not rfl) ?_
    refine sd_done ?_
    refine sw_cond rfl (fun c2 => ?_) (fun c2 => ?_)
    ·
      replace hm := cnd_t c2 hm
      refine sw_seq ?_
      -- region 4 ref.go:452
      refine sw_region [(0, 0), (1, 0)] rfl rfl rfl ?_
      refine sd_vv rfl rfl rfl (vv_assign rfl) ?_
      refine sd_vv rfl rfl rfl (vv_assign rfl) ?_
      refine sd_done ?_
      refine sw_ret ?_
      refine then_r ?_
      have X12 : Gr w w4 := (Gr.trans (Gr.trans (Gr.trans (Gr.trans (Gr.refl w) Gw1) Gw2) Gw3) Gw4)
      have hr := Option.some.inj hm
      subst hr
      refine ⟨_, _, rfl, res_2 rfl (rv_tmp rfl) (rv_tmp rfl), ?_⟩
      exact ⟨rfl, X12⟩
    ·
      replace hm := cnd_f c2 hm
      refine sw_skip ?_
      refine then_n ?_
      refine sw_seq ?_
      refine sw_seq ?_
      -- region 5 ref.go:454
      refine sw_region [(0, 0), (1, 0), (2, 0), (3, 0)] rfl rfl rfl ?_
      have B13 := (Bx.gr B9 Gw4)
      refine sd_vv rfl rfl rfl (vv_loadW agg_45 rfl B13 rfl) ?_
      have B14 := (Bx.gr (Bx.gr Bw2 Gw3) Gw4)
      refine sd_vv rfl rfl rfl (vv_loadW agg_47 rfl B14 rfl) ?_
      have hb := bnd hm; clear hm; obtain ⟨x3, hx3, hm⟩ := hb
      refine sd_ev rfl rfl rfl (ev_call en_62 rfl (ref03_IsSubset_w p0 p2 _ hx3 _)) ?_
      rintro _ w5 ⟨rfl, Gw5⟩
      have z15 := Gw5.size
      refine sd_vv rfl rfl rfl (vv_not rfl) ?_
      refine sd_done ?_
      refine sw_cond rfl (fun c3 => ?_) (fun c3 => ?_)
      ·
        replace hm := cnd_t c3 hm
        refine sw_seq ?_
        -- region 6 ref.go:455
        refine sw_region [(0, 0), (1, 0)] rfl rfl rfl ?_
        refine sd_vv rfl rfl rfl (vv_assign rfl) ?_
        refine sd_vv rfl rfl rfl (vv_assign rfl) ?_
        refine sd_done ?_
        refine sw_ret ?_
        refine then_r ?_
        have X16 : Gr w w5 := (Gr.trans (Gr.trans (Gr.trans (Gr.trans (Gr.trans (Gr.refl w) Gw1) Gw2) Gw3) Gw4) Gw5)
        have hr := Option.some.inj hm
        subst hr
        refine ⟨_, _, rfl, res_2 rfl (rv_tmp rfl) (rv_tmp rfl), ?_⟩
        exact ⟨rfl, X16⟩
      ·
        replace hm := cnd_f c3 hm
        refine sw_skip ?_
        refine then_n ?_
        refine sw_seq ?_
        refine sw_seq ?_
        -- region 7 ref.go:457
        refine sw_region [(0, 0)] rfl rfl rfl ?_
        refine sd_vv rfl rfl rfl (vv_assign rfl) ?_
        refine sd_done ?_
        refine sw_block ?_
        have X17 : Gr w w5 := (Gr.trans (Gr.trans (Gr.trans (Gr.trans (Gr.trans (Gr.refl w) Gw1) Gw2) Gw3) Gw4) Gw5)
        have B18 := (Rd.gr (Rd.gr B10 Gw4) Gw5)
        refine sw_loopD (α := Nat × Int) [6, 7, 8, 21, 22, 23, 24, 25, 26, 27, 28, 29, 30, 31, 32, 33, 34] (fun ⟨n1, a5⟩ => [(6, .bool false), (7, .int .i64 0), (8, .int .i64 a5)]) (fun ⟨n1, a5⟩ wr => (fixN (ref03_Knows_L1 p0 p1 p2) n1 a5 = some r) ∧ Kz [] w5 wr) (fun ⟨n1, a5⟩ => n1) ⟨FUEL, 0⟩ ?_ ?_ ?_
        · repeat' first | exact trivial | refine ⟨rfl, ?_⟩
        · exact ⟨hm, Kz.refl _ _⟩
        · clear hm; rintro ⟨n1, a5⟩ w6 ⟨hm, Kw6⟩
          have z19 := Kw6.size
          have hb := fix_succ hm; clear hm; obtain ⟨n1, rfl, hm⟩ := hb
          generalize hrec1 : fixN (ref03_Knows_L1 p0 p1 p2) n1 = rec1 at hm
          unfold ref03_Knows_L1 at hm
          try dsimp only at hm
          refine sw_seq ?_
          refine sw_seq ?_
          -- region 8 ref.go:457
          refine sw_region [(0, 0), (1, 0), (2, 0), (3, 0)] rfl rfl rfl ?_
          refine sd_vv rfl rfl rfl (vv_move rfl) ?_
          refine sd_vv rfl rfl rfl (vv_move rfl) ?_
          have B20 := (Rd.kz B18 Kw6)
          refine sd_vv rfl rfl rfl (vv_lenT (l := p1) (c := ic) Try.underlying61 rfl B20) ?_
          refine sd_vv rfl rfl rfl (vv_lss (a := a5) (b := (p1.length : Int)) rfl rfl) ?_
          refine sd_done ?_
          refine sw_cond rfl (fun c4 => ?_) (fun c4 => ?_)
          ·
            replace hm := ite_t (of_decide_eq_true c4) hm
            refine sw_skip ?_
            refine then_n ?_
            refine sw_seq ?_
            refine sw_block ?_
            refine sw_seq ?_
            -- region 10 ref.go:458 DRAWS
            refine sw_drawN [([])] [] (.leaf [(0, 10), (1, 10), (2, 10), (3, 10), (4, 10), (5, 10), (6, 0), (7, 10)]) (by kernel_rfl) (by kernel_rfl) rfl (by kernel_rfl) ?_
            intro w7 Gw7 zw7
            refine sdz_leaf ?_
            have B21 := (Bx.gr (Bx.kz (Bx.gr B13 Gw5) Kw6) Gw7)
            refine dd_hn 0 rfl rfl rfl rfl (Kp.refl ([]) w7) (fun w hS => vv_loadW agg_45 rfl (Bx.kp B21 hS) rfl) ?_
            refine dd_hn 0 rfl rfl rfl rfl (Kp.refl ([]) w7) (fun w hS => vv_move rfl) ?_
            refine dd_hn 0 rfl rfl rfl rfl (Kp.refl ([]) w7) (fun w hS => vv_move rfl) ?_
            have hb := bnd hm; clear hm; obtain ⟨y6, hy6, hm⟩ := hb
            have B22 := (Rd.gr B20 Gw7)
            refine dd_hn 0 rfl rfl rfl rfl (Kp.refl ([]) w7) (fun w hS => vv_ixT (i := a5) Try.underlying61 (one_3).siz rfl (Rd.kp B22 hS) rfl hy6) ?_
            refine dd_hn 0 rfl rfl rfl rfl (Kp.refl ([]) w7) (fun w hS => vv_el1T (q := 0) (u := .int .i64 y6) one_3 rfl (Rd.kp B22 hS) hy6 (by first | rfl | omega) rfl) ?_
            have B23 := (Bx.gr (Bx.kz (Bx.gr B14 Gw5) Kw6) Gw7)
            refine dd_hn 0 rfl rfl rfl rfl (Kp.refl ([]) w7) (fun w hS => vv_loadW agg_47 rfl (Bx.kp B23 hS) rfl) ?_
            have hb := bnd hm; clear hm; obtain ⟨x7, hx7, hm⟩ := hb
            refine dd_z [] rfl rfl rfl (ev_call en_107 rfl (ref03_Known_w p0 y6 p2 _ hx7 _)) ⟨fun _ => tk0, trivial⟩ ?_
            rintro _ w8 ⟨rfl, Gw8⟩
            have z24 := Gw8.size
            refine ⟨Kz.ofGr Gw8, ?_⟩
            have S25 := (Kp.gr (Kp.refl ([]) w7) Gw8)
            refine dd_hn 0 rfl rfl rfl rfl S25 (fun w hS => vv_geq (a := x7) (b := 0) rfl rfl) ?_
            refine sd_done ?_
            refine sw_cond rfl (fun c5 => ?_) (fun c5 => ?_)
            ·
              replace hm := ite_t (of_decide_eq_true c5) hm
              refine sw_seq ?_
              -- region 11 ref.go:459
              refine sw_region [(0, 0), (1, 0)] rfl rfl rfl ?_
              refine sd_vv rfl rfl rfl (vv_assign rfl) ?_
              refine sd_vv rfl rfl rfl (vv_assign rfl) ?_
              refine sd_done ?_
              refine sw_ret ?_
              refine block_r ?_
              refine then_r ?_
              refine then_r ?_
              refine block_r ?_
              refine then_r ?_
              have X26 : Gr w w8 := (Gr.trans (Gr.trans (Gr.kz X17 Kw6) Gw7) Gw8)
              have hr := Option.some.inj hm
              subst hr
              refine ⟨_, _, rfl, res_2 rfl (rv_tmp rfl) (rv_tmp rfl), ?_⟩
              exact ⟨rfl, X26⟩
            ·
              replace hm := ite_f (of_decide_eq_false c5) hm
              refine sw_skip ?_
              refine block_n ?_
              refine then_n ?_
              -- region 9 ref.go:457
              refine sw_region [(0, 0), (1, 0), (2, 0)] rfl rfl rfl ?_
              refine sd_vv rfl rfl rfl (vv_move rfl) ?_
              refine sd_vv rfl rfl rfl (vv_add (k := .i64) (a := a5) (b := 1) rfl rfl) ?_
              refine sd_vv rfl rfl rfl (vv_assign rfl) ?_
              refine sd_nil ?_
              have K_27 : Kz [] w5 w8 := (Kz.gr (Kz.gr Kw6 Gw7) Gw8)
              subst hrec1
              refine ⟨rfl, ⟨n1, w64 (a5 + 1)⟩, ?_, ⟨hm, K_27⟩, Nat.lt_succ_self _⟩
              repeat' first | exact trivial | refine ⟨rfl, ?_⟩
          ·
            replace hm := ite_f (of_decide_eq_false c4) hm
            refine sw_exit ?_
            refine then_x ?_
            refine then_x ?_
            refine block_x ?_
            refine then_n ?_
            refine sw_seq ?_
            -- region 12 ref.go:462
            refine sw_region [(0, 0), (1, 0)] rfl rfl rfl ?_
            refine sd_vv rfl rfl rfl (vv_assign rfl) ?_
            refine sd_vv rfl rfl rfl (vv_assign rfl) ?_
            refine sd_done ?_
            refine sw_ret ?_
            have X28 : Gr w w6 := (Gr.kz X17 Kw6)
            have hr := Option.some.inj hm
            subst hr
            refine ⟨_, _, rfl, res_2 rfl (rv_tmp rfl) (rv_tmp rfl), ?_⟩
            exact ⟨rfl, X28⟩
end Go.Proofs.Ytecempahccgijaa.Mx
