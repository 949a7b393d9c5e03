/- Walks that follow mirrors: Ed. Printed by mx.py. -/
import Derived.Test.YtjdffpglgkefmaaEa
import Derived.Test.YtjdffpglgkefmaaEdM
set_option linter.unusedVariables false
set_option linter.unusedSimpArgs false
set_option maxRecDepth 100000
namespace Go.Proofs.Ytjdffpglgkefmaa.Mx
open Go Go.RowKit Go.Sx
theorem zv_31 : ZV Try.prog 31 (.agg [.int .u8 0, .int .i64 0, .slice none 0 0, .int .u64 0, .slice none 0 0, .int .u8 0, .int .u8 0, .int .u8 0, .int .u8 0, .int .u8 0, .int .u8 0, .int .u8 0, .int .u8 0, .int .u8 0, .int .u8 0, .int .u8 0, .int .u8 0, .int .u8 0, .int .u8 0, .int .u8 0, .int .u8 0, .int .u8 0, .int .u8 0, .int .u8 0, .int .u8 0, .int .u8 0, .int .u8 0, .int .u8 0, .int .u8 0, .int .u8 0, .int .u8 0, .int .u8 0, .int .u8 0, .int .u8 0, .int .u8 0, .int .u8 0, .int .u8 0, .int .u8 0, .int .u64 0, .slice none 0 0, .int .u8 0, .int .u8 0, .int .u8 0, .int .u8 0, .int .u8 0, .int .u8 0, .int .u8 0, .int .u8 0, .int .u8 0, .int .u8 0, .int .u8 0, .int .u8 0, .int .u8 0, .int .u8 0, .int .u8 0, .int .u8 0].toArray) := fun _ => by kernel_rfl
theorem zv_55 : ZV Try.prog 55 (.agg [.slice none 0 0, .bool false].toArray) := fun _ => by kernel_rfl
theorem one_4 : One Try.prog 4 := fun _ => ⟨by kernel_rfl, by kernel_rfl⟩
theorem bs_55 : BS Try.prog 55 (fun i => [(0, 1), (1, 1)][i]?) [.slice none 0 0, .bool false] := bs_mk Try.underlying55 zv_55 ⟨rfl, (one_29).siz, rfl, (one_4).siz, trivial⟩
theorem fa_55_0 : FA Try.prog 55 0 0 := fun _ _ _ => by kernel_rfl
theorem fa_55_1 : FA Try.prog 55 1 1 := fun _ _ _ => by kernel_rfl
theorem en_18 : En Try.prog 18 := fun _ _ => by kernel_rfl
theorem en_16 : En Try.prog 16 := fun _ _ => by kernel_rfl
theorem cv_23_3 : CV Try.prog 23 3 .i64 := fun _ _ _ => by kernel_rfl
theorem en_15 : En Try.prog 15 := fun _ _ => by kernel_rfl
theorem cv_3_5 : CV Try.prog 3 5 .u8 := fun _ _ _ => by kernel_rfl
theorem bs_31 : BS Try.prog 31 (fun i => [(0, 1), (1, 1), (2, 35), (37, 1), (38, 1), (39, 1), (40, 16)][i]?) [.int .u8 0, .int .i64 0, .slice none 0 0, .int .u64 0, .slice none 0 0, .int .u8 0, .int .u8 0, .int .u8 0, .int .u8 0, .int .u8 0, .int .u8 0, .int .u8 0, .int .u8 0, .int .u8 0, .int .u8 0, .int .u8 0, .int .u8 0, .int .u8 0, .int .u8 0, .int .u8 0, .int .u8 0, .int .u8 0, .int .u8 0, .int .u8 0, .int .u8 0, .int .u8 0, .int .u8 0, .int .u8 0, .int .u8 0, .int .u8 0, .int .u8 0, .int .u8 0, .int .u8 0, .int .u8 0, .int .u8 0, .int .u8 0, .int .u8 0, .int .u8 0, .int .u64 0, .slice none 0 0, .int .u8 0, .int .u8 0, .int .u8 0, .int .u8 0, .int .u8 0, .int .u8 0, .int .u8 0, .int .u8 0, .int .u8 0, .int .u8 0, .int .u8 0, .int .u8 0, .int .u8 0, .int .u8 0, .int .u8 0, .int .u8 0] := bs_mk Try.underlying31 zv_31 ⟨rfl, (one_5).siz, rfl, (one_3).siz, rfl, (agg_28).siz, rfl, (one_5).siz, rfl, (one_23).siz, rfl, (one_29).siz, rfl, (agg_26).siz, trivial⟩
theorem bsl_29_0 : BSl Try.prog 29 0 5 1 [] := bsl_nil Try.underlying29 (one_5).siz
theorem en_17 : En Try.prog 17 := fun _ _ => by kernel_rfl
theorem en_19 : En Try.prog 19 := fun _ _ => by kernel_rfl
theorem zv_62 : ZV Try.prog 62 (.agg [.int .i64 0, .int .i64 0].toArray) := fun _ => by kernel_rfl
theorem bs_62 : BS Try.prog 62 (fun i => [(0, 1), (1, 1)][i]?) [.int .i64 0, .int .i64 0] := bs_mk Try.underlying62 zv_62 ⟨rfl, (one_3).siz, rfl, (one_3).siz, trivial⟩
theorem zv_26 : ZV Try.prog 26 (.agg [.int .u8 0, .int .u8 0, .int .u8 0, .int .u8 0, .int .u8 0, .int .u8 0, .int .u8 0, .int .u8 0, .int .u8 0, .int .u8 0, .int .u8 0, .int .u8 0, .int .u8 0, .int .u8 0, .int .u8 0, .int .u8 0].toArray) := fun _ => by kernel_rfl
theorem en_23 : En Try.prog 23 := fun _ _ => by kernel_rfl
theorem agg_62 : Agg Try.prog 62 2 := fun _ => ⟨by kernel_rfl, by kernel_rfl⟩
theorem bs_64 : BS Try.prog 64 (fun i => [(0, 2), (2, 16)][i]?) [.int .i64 0, .int .i64 0, .int .u8 0, .int .u8 0, .int .u8 0, .int .u8 0, .int .u8 0, .int .u8 0, .int .u8 0, .int .u8 0, .int .u8 0, .int .u8 0, .int .u8 0, .int .u8 0, .int .u8 0, .int .u8 0, .int .u8 0, .int .u8 0] := bs_mk Try.underlying64 zv_64 ⟨rfl, (agg_62).siz, rfl, (agg_26).siz, trivial⟩
theorem en_20 : En Try.prog 20 := fun _ _ => by kernel_rfl
theorem bsl_22_1 : BSl Try.prog 22 1 64 18 [.int .i64 0, .int .i64 0, .int .u8 0, .int .u8 0, .int .u8 0, .int .u8 0, .int .u8 0, .int .u8 0, .int .u8 0, .int .u8 0, .int .u8 0, .int .u8 0, .int .u8 0, .int .u8 0, .int .u8 0, .int .u8 0, .int .u8 0, .int .u8 0] := bsl_mk Try.underlying22 (agg_64).siz zv_64 rfl rfl (by kernel_rfl)
theorem apt_22 : ApT Try.prog 22 64 18 32 := apt_mk Try.underlying22 rfl (by kernel_rfl)
theorem en_21 : En Try.prog 21 := fun _ _ => by kernel_rfl
theorem bs_35 : BS Try.prog 35 (fun i => [(0, 1), (1, 1)][i]?) [.int .u64 0, .int .u64 0] := bs_mk Try.underlying35 zv_35 ⟨rfl, (one_23).siz, rfl, (one_23).siz, trivial⟩
theorem en_22 : En Try.prog 22 := fun _ _ => by kernel_rfl
theorem bsl_24_1 : BSl Try.prog 24 1 35 2 [.int .u64 0, .int .u64 0] := bsl_mk Try.underlying24 (agg_35).siz zv_35 rfl rfl (by kernel_rfl)
theorem apt_24 : ApT Try.prog 24 35 2 16 := apt_mk Try.underlying24 rfl (by kernel_rfl)

set_option maxHeartbeats 2000000 in
theorem epoch_reader_take_w (p0 : Tepoch_reader) (p1 : Int) (bp0 : Nat) (vp0_0 : Value) (zp0_0 gp0_0 op0_0 : Nat) (r : List (BitVec 8) × Tepoch_reader) (hm : epoch_reader_take p0 p1 = some r) (w : World) (hbp0 : Bx w bp0 55 (Tepoch_reader.cs p0 vp0_0)) (hp0_0 : Rd w zp0_0 gp0_0 op0_0 1 vp0_0 (p0.b.map bvc)) (ne0 : Hdn (zp0_0 = 0 ∨ gp0_0 ≠ bp0)) :
    Calls Try.prog 18 [.pointer (some ⟨bp0, 0, none⟩), .int .i64 p1].toArray w fun e w' => ∃ v, e = .returned v ∧ (∃ (ur0_s : Value) (zr0_s : Nat) (gr0_s : Nat) (or0_s : Nat) (ub1_0 : Value) (zb1_0 : Nat) (gb1_0 : Nat) (ob1_0 : Nat), v = ur0_s ∧ Rd w' zr0_s gr0_s or0_s 1 ur0_s (r.1.map bvc) ∧ Hdn (zr0_s = 0 ∨ (gr0_s = gp0_0 ∧ zp0_0 ≠ 0) ∨ w.heap.size ≤ gr0_s) ∧ Rd w' zb1_0 gb1_0 ob1_0 1 ub1_0 (r.2.b.map bvc) ∧ Hdn (zb1_0 = 0 ∨ (gb1_0 = gp0_0 ∧ zp0_0 ≠ 0) ∨ w.heap.size ≤ gb1_0) ∧ Bx w' bp0 55 (Tepoch_reader.cs r.2 ub1_0) ∧ Kz [(1, bp0)] w w') := by
  have lt1 := hp0_0.lth
  have lt2 := hbp0.lt
  unfold epoch_reader_take at hm
  refine calls_of_sw (R := fun v w' => ∃ (ur0_s : Value) (zr0_s : Nat) (gr0_s : Nat) (or0_s : Nat) (ub1_0 : Value) (zb1_0 : Nat) (gb1_0 : Nat) (ob1_0 : Nat), v = ur0_s ∧ Rd w' zr0_s gr0_s or0_s 1 ur0_s (r.1.map bvc) ∧ Hdn (zr0_s = 0 ∨ (gr0_s = gp0_0 ∧ zp0_0 ≠ 0) ∨ w.heap.size ≤ gr0_s) ∧ Rd w' zb1_0 gb1_0 ob1_0 1 ub1_0 (r.2.b.map bvc) ∧ Hdn (zb1_0 = 0 ∨ (gb1_0 = gp0_0 ∧ zp0_0 ≠ 0) ∨ w.heap.size ≤ gb1_0) ∧ Bx w' bp0 55 (Tepoch_reader.cs r.2 ub1_0) ∧ Kz [(1, bp0)] w w') 37 Try.func18 rfl rfl rfl ?_
  refine sw_seq ?_
  -- region 0 bytes.go:85
  refine sw_region [(0, 0)] rfl rfl rfl ?_
  refine sd_vv rfl rfl rfl (vv_assign rfl) ?_
  refine sd_done ?_
  refine sw_seq ?_
  refine sw_seq ?_
  -- region 1 bytes.go:86
  refine sw_region [(0, 0), (1, 0), (2, 0), (3, 0), (4, 0), (5, 0), (6, 0)] rfl rfl rfl ?_
  refine sd_vv rfl rfl rfl (vv_move rfl) ?_
  refine sd_vv rfl rfl rfl (vv_move rfl) ?_
  refine sd_vv rfl rfl rfl (vv_nilCheck rfl rfl) ?_
  refine sd_vv rfl rfl rfl (vv_fieldAddr fa_55_0 rfl) ?_
  refine sd_vv rfl rfl rfl (vv_load1 (v := vp0_0) one_29 rfl hbp0 rfl) ?_
  refine sd_vv rfl rfl rfl (vv_lenT (l := p0.b) (c := bvc) Try.underlying29 rfl hp0_0) ?_
  refine sd_vv rfl rfl rfl (vv_gtr (a := p1) (b := (p0.b.length : Int)) rfl rfl) ?_
  refine sd_done ?_
  refine sw_cond rfl (fun c1 => ?_) (fun c1 => ?_)
  ·
    replace hm := ite_t (of_decide_eq_true c1) hm
    refine sw_seq ?_
    -- region 2 bytes.go:87
    refine sw_region [(0, 0), (1, 0), (2, 0), (3, 0), (4, 0), (5, 0), (6, 0), (7, 0)] rfl rfl rfl ?_
    refine sd_vv rfl rfl rfl (vv_move rfl) ?_
    refine sd_vv rfl rfl rfl (vv_move rfl) ?_
    refine sd_vv rfl rfl rfl (vv_nilCheck rfl rfl) ?_
    refine sd_vv rfl rfl rfl (vv_fieldAddr fa_55_1 rfl) ?_
    refine sd_ev rfl rfl rfl (ev_st1 (cs' := Tepoch_reader.cs (Tepoch_reader.mk p0.b true) vp0_0) (one_4).siz rfl rfl rfl hbp0 rfl rfl) ?_
    rintro _ w1 ⟨Bw1, Mw1⟩
    have z3 := Mw1.size
    refine sd_vv rfl rfl rfl (vv_nilCheck rfl rfl) ?_
    refine sd_vv rfl rfl rfl (vv_fieldAddr fa_55_0 rfl) ?_
    refine sd_ev rfl rfl rfl (ev_st1 (cs' := Tepoch_reader.cs (Tepoch_reader.mk [] true) (.slice none 0 0)) (one_29).siz rfl rfl rfl Bw1 rfl rfl) ?_
    rintro _ w2 ⟨Bw2, Mw2⟩
    have z4 := Mw2.size
    refine sd_done ?_
    refine sw_seq ?_
    -- region 3 bytes.go:88
    refine sw_region [(0, 0), (1, 0), (2, 0)] rfl rfl rfl ?_
    refine sd_vv rfl rfl rfl (vv_move rfl) ?_
    have hb := bnd hm; clear hm; obtain ⟨l1, hl1, hm⟩ := hb
    refine sd_ev rfl rfl rfl (ev_mkT (c := bvc) (a := 0#8) apt_29 zv_5 rfl ⟨rfl, rfl⟩ rfl hl1 (by decide)) ?_
    rintro vw3 w3 ⟨gw3, hbw3, Ow3, Gw3⟩
    have z5 := Gw3.size
    have lt6 := Ow3.lth
    refine sd_vv rfl rfl rfl (vv_assign rfl) ?_
    refine sd_done ?_
    refine sw_ret ?_
    refine then_r ?_
    have B7 := (Bx.gr Bw2 Gw3)
    have X8 : Kz [(1, bp0)] w w3 := (Kz.gr (Kz.md (Kz.md (Kz.refl _ w) Mw1) Mw2) Gw3)
    have hr := Option.some.inj hm
    subst hr
    refine ⟨_, _, rfl, res_1 rfl (rv_tmp rfl), ?_⟩
    exact ⟨vw3, 1, gw3, 0, (.slice none 0 0), 0, 0, 0, rfl, (Own.rd Ow3), ⟨(.inr tk0)⟩, (Own.rd (own_nil _ 0 5 1)), ⟨.inl rfl⟩, B7, X8⟩
  ·
    replace hm := ite_f (of_decide_eq_false c1) hm
    refine sw_skip ?_
    refine then_n ?_
    refine sw_seq ?_
    -- region 4 bytes.go:90
    refine sw_region [(0, 0), (1, 0), (2, 0), (3, 0), (4, 0), (5, 0), (6, 0)] rfl rfl rfl ?_
    refine sd_vv rfl rfl rfl (vv_move rfl) ?_
    refine sd_vv rfl rfl rfl (vv_nilCheck rfl rfl) ?_
    refine sd_vv rfl rfl rfl (vv_fieldAddr fa_55_0 rfl) ?_
    refine sd_vv rfl rfl rfl (vv_load1 (v := vp0_0) one_29 rfl hbp0 rfl) ?_
    refine sd_vv rfl rfl rfl (vv_move rfl) ?_
    have hb := bnd hm; clear hm; obtain ⟨l2, hl2, hm⟩ := hb
    refine sd_sli rfl rfl rfl (vv_sliT (P := Try.prog) (lo := 0) (hi := p1) (l := p0.b) (c := bvc) Try.underlying29 (one_5).siz rfl hp0_0 rfl ⟨_, rfl⟩ hl2) ?_
    rintro v9 o9 R9
    have lt10 := R9.lth
    refine sd_vv rfl rfl rfl (vv_assign rfl) ?_
    refine sd_done ?_
    refine sw_seq ?_
    -- region 5 bytes.go:91
    refine sw_region [(0, 0), (1, 0), (2, 0), (3, 0), (4, 0), (5, 0), (6, 0), (7, 0), (8, 0), (9, 0)] rfl rfl rfl ?_
    refine sd_vv rfl rfl rfl (vv_move rfl) ?_
    refine sd_vv rfl rfl rfl (vv_move rfl) ?_
    refine sd_vv rfl rfl rfl (vv_nilCheck rfl rfl) ?_
    refine sd_vv rfl rfl rfl (vv_fieldAddr fa_55_0 rfl) ?_
    refine sd_vv rfl rfl rfl (vv_load1 (v := vp0_0) one_29 rfl hbp0 rfl) ?_
    refine sd_vv rfl rfl rfl (vv_move rfl) ?_
    have hb := bnd hm; clear hm; obtain ⟨l3, hl3, hm⟩ := hb
    refine sd_sli rfl rfl rfl (vv_sliT (P := Try.prog) (lo := p1) (hi := (p0.b.length : Int)) (l := p0.b) (c := bvc) Try.underlying29 (one_5).siz rfl hp0_0 ⟨_, rfl⟩ rfl hl3) ?_
    rintro v11 o11 R11
    have lt12 := R11.lth
    refine sd_vv rfl rfl rfl (vv_nilCheck rfl rfl) ?_
    refine sd_vv rfl rfl rfl (vv_fieldAddr fa_55_0 rfl) ?_
    refine sd_ev rfl rfl rfl (ev_st1 (cs' := Tepoch_reader.cs (Tepoch_reader.mk l3 p0.short) v11) (one_29).siz rfl rfl (Rd.oneB R11) hbp0 rfl rfl) ?_
    rintro _ w4 ⟨Bw4, Mw4⟩
    have z13 := Mw4.size
    refine sd_done ?_
    refine sw_seq ?_
    -- region 6 bytes.go:92
    refine sw_region [(0, 0), (1, 0)] rfl rfl rfl ?_
    refine sd_vv rfl rfl rfl (vv_move rfl) ?_
    refine sd_vv rfl rfl rfl (vv_assign rfl) ?_
    refine sd_done ?_
    refine sw_ret ?_
    have B14 := (Rd.md R9 Mw4 (tk1 ((tk2 lt1.o ne0.o) : zp0_0 = 0 ∨ gp0_0 ≠ bp0)))
    have B15 := (Rd.md R11 Mw4 (tk1 ((tk2 lt1.o ne0.o) : zp0_0 = 0 ∨ gp0_0 ≠ bp0)))
    have X16 : Kz [(1, bp0)] w w4 := (Kz.md (Kz.refl _ w) Mw4)
    have hr := Option.some.inj hm
    subst hr
    refine ⟨_, _, rfl, res_1 rfl (rv_tmp rfl), ?_⟩
    exact ⟨v9, zp0_0, gp0_0, o9, v11, zp0_0, gp0_0, o11, rfl, B14, ⟨tk0⟩, B15, ⟨tk0⟩, Bw4, X16⟩

set_option maxHeartbeats 2000000 in
theorem epoch_reader_number_w (p0 : Tepoch_reader) (p1 : Int) (bp0 : Nat) (vp0_0 : Value) (zp0_0 gp0_0 op0_0 : Nat) (r : BitVec 64 × Tepoch_reader) (hm : epoch_reader_number p0 p1 = some r) (w : World) (hbp0 : Bx w bp0 55 (Tepoch_reader.cs p0 vp0_0)) (hp0_0 : Rd w zp0_0 gp0_0 op0_0 1 vp0_0 (p0.b.map bvc)) (ne0 : Hdn (zp0_0 = 0 ∨ gp0_0 ≠ bp0)) :
    Calls Try.prog 16 [.pointer (some ⟨bp0, 0, none⟩), .int .i64 p1].toArray w fun e w' => ∃ v, e = .returned v ∧ (∃ (ub1_0 : Value) (zb1_0 : Nat) (gb1_0 : Nat) (ob1_0 : Nat), v = wv r.1 ∧ Rd w' zb1_0 gb1_0 ob1_0 1 ub1_0 (r.2.b.map bvc) ∧ Hdn (zb1_0 = 0 ∨ (gb1_0 = gp0_0 ∧ zp0_0 ≠ 0) ∨ w.heap.size ≤ gb1_0) ∧ Bx w' bp0 55 (Tepoch_reader.cs r.2 ub1_0) ∧ Kz [(1, bp0)] w w') := by
  have lt1 := hp0_0.lth
  have lt2 := hbp0.lt
  unfold epoch_reader_number at hm
  refine calls_of_sw (R := fun v w' => ∃ (ub1_0 : Value) (zb1_0 : Nat) (gb1_0 : Nat) (ob1_0 : Nat), v = wv r.1 ∧ Rd w' zb1_0 gb1_0 ob1_0 1 ub1_0 (r.2.b.map bvc) ∧ Hdn (zb1_0 = 0 ∨ (gb1_0 = gp0_0 ∧ zp0_0 ≠ 0) ∨ w.heap.size ≤ gb1_0) ∧ Bx w' bp0 55 (Tepoch_reader.cs r.2 ub1_0) ∧ Kz [(1, bp0)] w w') 23 Try.func16 rfl rfl rfl ?_
  refine sw_seq ?_
  -- region 0 bytes.go:96
  refine sw_region [(0, 0)] rfl rfl rfl ?_
  refine sd_vv rfl rfl rfl (vv_assign rfl) ?_
  refine sd_done ?_
  refine sw_seq ?_
  -- region 1 bytes.go:97
  refine sw_region [(0, 0)] rfl rfl rfl ?_
  refine sd_vv rfl rfl rfl (vv_assign rfl) ?_
  refine sd_done ?_
  refine sw_seq ?_
  refine sw_seq ?_
  -- region 2 bytes.go:98
  refine sw_region [(0, 0), (1, 0), (2, 0), (3, 0), (4, 0)] rfl rfl rfl ?_
  refine sd_vv rfl rfl rfl (vv_move rfl) ?_
  refine sd_vv rfl rfl rfl (vv_move rfl) ?_
  have hb := bnd hm; clear hm; obtain ⟨x1, hx1, hm⟩ := hb
  refine sd_ev rfl rfl rfl (ev_call en_18 rfl (epoch_reader_take_w p0 p1 _ _ _ _ _ _ hx1 _ hbp0 hp0_0 ⟨(tk1 ((tk2 lt1.o ne0.o) : zp0_0 = 0 ∨ gp0_0 ≠ bp0))⟩)) ?_
  rintro u1_r0_s w1 ⟨_, z1_r0_s, g1_r0_s, o1_r0_s, u1_b0_0, z1_b0_0, g1_b0_0, o1_b0_0, rfl, O1_r0_s, f1_r0_s, O1_b0_0, f1_b0_0, Bk1_0, Kw1⟩
  have z3 := Kw1.size
  have lt4 := O1_r0_s.lth
  have lt5 := O1_b0_0.lth
  refine sd_vv rfl rfl rfl (vv_lenT (l := x1.1) (c := bvc) Try.underlying29 rfl O1_r0_s) ?_
  refine sd_vv rfl rfl rfl (vv_move rfl) ?_
  refine sd_done ?_
  refine sw_block ?_
  have X6 : Kz [(1, bp0)] w w1 := (Kz.kz (Kz.refl _ w) Kw1)
  have B7 := (Rd.kz hp0_0 Kw1 (tk1 ((tk2 lt1.o ne0.o) : zp0_0 = 0 ∨ gp0_0 ≠ bp0)))
  refine sw_loopD (α := Nat × BitVec 64 × Int) [5, 7, 12, 13, 14, 15, 16, 17, 18, 19, 20, 21] (fun ⟨n1, a4, a5⟩ => [(5, wv a4), (12, .int .i64 a5)]) (fun ⟨n1, a4, a5⟩ wr => (fixN (epoch_reader_number_L1 x1) n1 (a4, a5) = some r) ∧ Kz [] w1 wr) (fun ⟨n1, a4, a5⟩ => n1) ⟨FUEL, 0#64, 0⟩ ?_ ?_ ?_
  · repeat' first | exact trivial | refine ⟨rfl, ?_⟩
  · exact ⟨hm, Kz.refl _ _⟩
  · clear hm; rintro ⟨n1, a4, a5⟩ w2 ⟨hm, Kw2⟩
    have z8 := Kw2.size
    have hb := fix_succ hm; clear hm; obtain ⟨n1, rfl, hm⟩ := hb
    generalize hrec1 : fixN (epoch_reader_number_L1 x1) n1 = rec1 at hm
    unfold epoch_reader_number_L1 at hm
    try dsimp only at hm
    refine sw_seq ?_
    -- region 3 bytes.go:98
    refine sw_region [(0, 0)] rfl rfl rfl ?_
    refine sd_vv rfl rfl rfl (vv_lss (a := a5) (b := (x1.1.length : Int)) rfl rfl) ?_
    refine sd_done ?_
    refine sw_seq ?_
    refine sw_cond rfl (fun c1 => ?_) (fun c1 => ?_)
    ·
      replace hm := ite_t (of_decide_eq_true c1) hm
      refine sw_skip ?_
      refine then_n ?_
      refine sw_seq ?_
      refine sw_block ?_
      refine sw_seq ?_
      -- region 4 bytes.go:98
      refine sw_region [(0, 0), (1, 0), (2, 0)] rfl rfl rfl ?_
      have hb := bnd hm; clear hm; obtain ⟨y6, hy6, hm⟩ := hb
      have B9 := (Rd.kz O1_r0_s Kw2)
      refine sd_vv rfl rfl rfl (vv_ixT (i := a5) Try.underlying29 (one_5).siz rfl B9 rfl hy6) ?_
      refine sd_vv rfl rfl rfl (vv_el1T (q := 0) (u := bv y6) one_5 rfl B9 hy6 (by first | rfl | omega) rfl) ?_
      refine sd_vv rfl rfl rfl (vv_assign rfl) ?_
      refine sd_done ?_
      -- region 5 bytes.go:99
      refine sw_region [(0, 0), (1, 0), (2, 0), (3, 0), (4, 0), (5, 0)] rfl rfl rfl ?_
      refine sd_vv rfl rfl rfl (vv_move rfl) ?_
      have hb := bnd hm; clear hm; obtain ⟨n7, hn7, hm⟩ := hb
      refine sd_vv rfl rfl rfl (vv_shlU (c := a4) (b := (un 8#64)) rfl rfl hn7) ?_
      refine sd_vv rfl rfl rfl (vv_move rfl) ?_
      refine sd_vv rfl rfl rfl (vv_cvBU cv_5_23 rfl) ?_
      refine sd_vv rfl rfl rfl (vv_uor (a := a4 <<< n7) (b := y6.setWidth 64) rfl rfl) ?_
      refine sd_vv rfl rfl rfl (vv_assign rfl) ?_
      refine sd_nil ?_
      refine block_n ?_
      refine then_n ?_
      -- region 6 bytes.go:98
      refine sw_region [(0, 0), (1, 0)] rfl rfl rfl ?_
      refine sd_vv rfl rfl rfl (vv_add (k := .i64) (a := a5) (b := 1) rfl rfl) ?_
      refine sd_vv rfl rfl rfl (vv_move rfl) ?_
      refine sd_nil ?_
      have K_10 : Kz [] w1 w2 := Kw2
      subst hrec1
      refine ⟨rfl, ⟨n1, (a4 <<< n7) ||| (y6.setWidth 64), w64 (a5 + 1)⟩, ?_, ⟨hm, K_10⟩, Nat.lt_succ_self _⟩
      repeat' first | exact trivial | refine ⟨rfl, ?_⟩
    ·
      replace hm := ite_f (of_decide_eq_false c1) hm
      refine sw_exit ?_
      refine then_x ?_
      refine then_x ?_
      refine block_x ?_
      refine then_n ?_
      refine sw_seq ?_
      -- region 7 bytes.go:101
      refine sw_region [(0, 0), (1, 0)] rfl rfl rfl ?_
      refine sd_vv rfl rfl rfl (vv_move rfl) ?_
      refine sd_vv rfl rfl rfl (vv_assign rfl) ?_
      refine sd_done ?_
      refine sw_ret ?_
      have B11 := (Rd.kz O1_b0_0 Kw2)
      have B12 := (Bx.kz Bk1_0 Kw2)
      have X13 : Kz [(1, bp0)] w w2 := (Kz.kz X6 Kw2)
      have hr := Option.some.inj hm
      subst hr
      refine ⟨_, _, rfl, res_1 rfl (rv_tmp rfl), ?_⟩
      exact ⟨u1_b0_0, z1_b0_0, g1_b0_0, o1_b0_0, rfl, B11, ⟨(pv_1 (A := (fun x => (x = gp0_0 ∧ zp0_0 ≠ 0) ∨ w.heap.size ≤ x)) f1_b0_0 tk0)⟩, B12, X13⟩

set_option maxHeartbeats 2000000 in
theorem epoch_reader_small_w (p0 : Tepoch_reader) (bp0 : Nat) (vp0_0 : Value) (zp0_0 gp0_0 op0_0 : Nat) (r : Int × Tepoch_reader) (hm : epoch_reader_small p0 = some r) (w : World) (hbp0 : Bx w bp0 55 (Tepoch_reader.cs p0 vp0_0)) (hp0_0 : Rd w zp0_0 gp0_0 op0_0 1 vp0_0 (p0.b.map bvc)) (ne0 : Hdn (zp0_0 = 0 ∨ gp0_0 ≠ bp0)) :
    Calls Try.prog 15 [.pointer (some ⟨bp0, 0, none⟩)].toArray w fun e w' => ∃ v, e = .returned v ∧ (∃ (ub1_0 : Value) (zb1_0 : Nat) (gb1_0 : Nat) (ob1_0 : Nat), v = .int .i64 r.1 ∧ Rd w' zb1_0 gb1_0 ob1_0 1 ub1_0 (r.2.b.map bvc) ∧ Hdn (zb1_0 = 0 ∨ (gb1_0 = gp0_0 ∧ zp0_0 ≠ 0) ∨ w.heap.size ≤ gb1_0) ∧ Bx w' bp0 55 (Tepoch_reader.cs r.2 ub1_0) ∧ Kz [(1, bp0)] w w') := by
  have lt1 := hp0_0.lth
  have lt2 := hbp0.lt
  unfold epoch_reader_small at hm
  refine calls_of_sw (R := fun v w' => ∃ (ub1_0 : Value) (zb1_0 : Nat) (gb1_0 : Nat) (ob1_0 : Nat), v = .int .i64 r.1 ∧ Rd w' zb1_0 gb1_0 ob1_0 1 ub1_0 (r.2.b.map bvc) ∧ Hdn (zb1_0 = 0 ∨ (gb1_0 = gp0_0 ∧ zp0_0 ≠ 0) ∨ w.heap.size ≤ gb1_0) ∧ Bx w' bp0 55 (Tepoch_reader.cs r.2 ub1_0) ∧ Kz [(1, bp0)] w w') 6 Try.func15 rfl rfl rfl ?_
  refine sw_seq ?_
  -- region 0 bytes.go:105
  refine sw_region [(0, 0)] rfl rfl rfl ?_
  refine sd_vv rfl rfl rfl (vv_assign rfl) ?_
  refine sd_done ?_
  refine sw_seq ?_
  -- region 1 bytes.go:105
  refine sw_region [(0, 0), (1, 0), (2, 0), (3, 0)] rfl rfl rfl ?_
  refine sd_vv rfl rfl rfl (vv_move rfl) ?_
  have hb := bnd hm; clear hm; obtain ⟨x1, hx1, hm⟩ := hb
  refine sd_ev rfl rfl rfl (ev_call en_16 rfl (epoch_reader_number_w p0 1 _ _ _ _ _ _ hx1 _ hbp0 hp0_0 ⟨(tk1 ((tk2 lt1.o ne0.o) : zp0_0 = 0 ∨ gp0_0 ≠ bp0))⟩)) ?_
  rintro _ w1 ⟨u1_b0_0, z1_b0_0, g1_b0_0, o1_b0_0, rfl, O1_b0_0, f1_b0_0, Bk1_0, Kw1⟩
  have z3 := Kw1.size
  have lt4 := O1_b0_0.lth
  refine sd_vv rfl rfl rfl (vv_cvUI cv_23_3 rfl) ?_
  refine sd_vv rfl rfl rfl (vv_assign rfl) ?_
  refine sd_done ?_
  refine sw_ret ?_
  have X5 : Kz [(1, bp0)] w w1 := (Kz.kz (Kz.refl _ w) Kw1)
  have hr := Option.some.inj hm
  subst hr
  refine ⟨_, _, rfl, res_1 rfl (rv_tmp rfl), ?_⟩
  exact ⟨u1_b0_0, z1_b0_0, g1_b0_0, o1_b0_0, rfl, O1_b0_0, ⟨(pv_1 (A := (fun x => (x = gp0_0 ∧ zp0_0 ≠ 0) ∨ w.heap.size ≤ x)) f1_b0_0 tk0)⟩, Bk1_0, X5⟩

set_option maxHeartbeats 2000000 in
theorem slices_Clone_4733_w (p0 : List (BitVec 8)) (vp0 : Value) (zp0 gp0 op0 : Nat) (r : List (BitVec 8)) (hm : slices_Clone_4733 p0 = some r) (w : World) (hp0 : Rd w zp0 gp0 op0 1 vp0 (p0.map bvc))  :
    Calls Try.prog 17 [vp0].toArray w fun e w' => ∃ v, e = .returned v ∧ (∃ (ur0_s : Value) (zr0_s : Nat) (gr0_s : Nat), v = ur0_s ∧ Own w' zr0_s gr0_s 5 1 ur0_s (r.map bvc) ∧ Hdn (zr0_s = 0 ∨ w.heap.size ≤ gr0_s) ∧ Gr w w') := by
  have lt1 := hp0.lth
  unfold slices_Clone_4733 at hm
  refine calls_of_sw (R := fun v w' => ∃ (ur0_s : Value) (zr0_s : Nat) (gr0_s : Nat), v = ur0_s ∧ Own w' zr0_s gr0_s 5 1 ur0_s (r.map bvc) ∧ Hdn (zr0_s = 0 ∨ w.heap.size ≤ gr0_s) ∧ Gr w w') 8 Try.func17 rfl rfl rfl ?_
  refine sw_seq ?_
  -- region 0 slices.go:355
  refine sw_region [(0, 0)] rfl rfl rfl ?_
  refine sd_vv rfl rfl rfl (vv_assign rfl) ?_
  refine sd_done ?_
  refine sw_seq ?_
  refine sw_seq ?_
  -- region 1 slices.go:357
  refine sw_region [(0, 0), (1, 0)] rfl rfl rfl ?_
  refine sd_vv rfl rfl rfl (vv_move rfl) ?_
  rcases rd_nilOr hp0 with ⟨ca2, hv2, hl2⟩ | ⟨aa2, ka2, ca2, hv2⟩
  ·
    replace hm : (some []) = some r := by rw [hl2] at hm; exact hm
    refine sd_vv rfl rfl rfl (vv_eqlNil Try.underlying29 rfl hv2) ?_
    refine sd_done ?_
    refine sw_condT rfl ?_
    refine sw_seq ?_
    -- region 2 slices.go:358
    refine sw_region [(0, 0)] rfl rfl rfl ?_
    refine sd_vv rfl rfl rfl (vv_assign rfl) ?_
    refine sd_done ?_
    refine sw_ret ?_
    refine then_r ?_
    have hr := Option.some.inj hm
    subst hr
    refine ⟨_, _, rfl, res_1 rfl (rv_tmp rfl), ?_⟩
    exact ⟨(.slice none 0 0), 0, 0, rfl, (own_nil _ 0 5 1), ⟨.inl rfl⟩, (Gr.refl w)⟩
  ·
    skip
    refine sd_vv rfl rfl rfl (vv_eqlNil Try.underlying29 rfl hv2) ?_
    refine sd_done ?_
    refine sw_condF rfl ?_
    refine sw_skip ?_
    refine then_n ?_
    refine sw_seq ?_
    -- region 3 slices.go:362
    refine sw_region [(0, 0), (1, 0), (2, 0), (3, 0)] rfl rfl rfl ?_
    refine sd_ev rfl rfl rfl (ev_litT ([] : List (BitVec 8)) bvc bsl_29_0 rfl rfl (ws_of rfl) rfl rfl rfl) ?_
    rintro vw1 w1 ⟨gw1, hbw1, Ow1, Gw1⟩
    have z3 := Gw1.size
    have lt4 := Ow1.lth
    refine sd_vv rfl rfl rfl (vv_move rfl) ?_
    have B5 := (Rd.gr hp0 Gw1)
    have hb := bnd hm; clear hm; obtain ⟨l1, hl1, hm⟩ := hb
    refine sd_ev rfl rfl rfl (ev_appT (l := ([] : List (BitVec 8))) (m := p0) (c := bvc) apt_29 rfl rfl Ow1 B5 hl1 (by decide)) ?_
    rintro vw2 w2 ⟨zw2, gw2, Ow2, Aw2, qw2, rw2⟩
    have z6 := Aw2.size
    refine sd_vv rfl rfl rfl (vv_assign rfl) ?_
    refine sd_done ?_
    refine sw_ret ?_
    have X7 : Gr w w2 := (Gr.ka (Gr.trans (Gr.refl w) Gw1) Aw2 (tk1 ((.inr tk0) : 1 = 0 ∨ w.heap.size ≤ gw1)))
    have hr := Option.some.inj hm
    subst hr
    refine ⟨_, _, rfl, res_1 rfl (rv_tmp rfl), ?_⟩
    exact ⟨vw2, zw2, gw2, rfl, Ow2, ⟨(pv_app (A := (fun x => w.heap.size ≤ x)) rw2 (.inr tk0))⟩, X7⟩

set_option maxHeartbeats 2000000 in
theorem epoch_reader_key_w (p0 : Tepoch_reader) (bp0 : Nat) (vp0_0 : Value) (zp0_0 gp0_0 op0_0 : Nat) (r : W2 × Tepoch_reader) (hm : epoch_reader_key p0 = some r) (w : World) (hbp0 : Bx w bp0 55 (Tepoch_reader.cs p0 vp0_0)) (hp0_0 : Rd w zp0_0 gp0_0 op0_0 1 vp0_0 (p0.b.map bvc)) (ne0 : Hdn (zp0_0 = 0 ∨ gp0_0 ≠ bp0)) :
    Calls Try.prog 23 [.pointer (some ⟨bp0, 0, none⟩)].toArray w fun e w' => ∃ v, e = .returned v ∧ (∃ (ub1_0 : Value) (zb1_0 : Nat) (gb1_0 : Nat) (ob1_0 : Nat), v = kv r.1 ∧ Rd w' zb1_0 gb1_0 ob1_0 1 ub1_0 (r.2.b.map bvc) ∧ Hdn (zb1_0 = 0 ∨ (gb1_0 = gp0_0 ∧ zp0_0 ≠ 0) ∨ w.heap.size ≤ gb1_0) ∧ Bx w' bp0 55 (Tepoch_reader.cs r.2 ub1_0) ∧ Kz [(1, bp0)] w w') := by
  have lt1 := hp0_0.lth
  have lt2 := hbp0.lt
  unfold epoch_reader_key at hm
  refine calls_of_sw (R := fun v w' => ∃ (ub1_0 : Value) (zb1_0 : Nat) (gb1_0 : Nat) (ob1_0 : Nat), v = kv r.1 ∧ Rd w' zb1_0 gb1_0 ob1_0 1 ub1_0 (r.2.b.map bvc) ∧ Hdn (zb1_0 = 0 ∨ (gb1_0 = gp0_0 ∧ zp0_0 ≠ 0) ∨ w.heap.size ≤ gb1_0) ∧ Bx w' bp0 55 (Tepoch_reader.cs r.2 ub1_0) ∧ Kz [(1, bp0)] w w') 7 Try.func23 rfl rfl rfl ?_
  refine sw_seq ?_
  -- region 0 bytes.go:108
  refine sw_region [(0, 0)] rfl rfl rfl ?_
  refine sd_ev rfl rfl rfl (ev_alloc (cs := kb k0) zv_26 rfl) ?_
  rintro _ w1 ⟨b1, rfl, hbw1, Bw1, Gw1⟩
  have z3 := Gw1.size
  have lt4 := Bw1.lt
  refine sd_done ?_
  refine sw_seq ?_
  -- region 1 bytes.go:108
  refine sw_region [(0, 0), (1, 0), (2, 0), (3, 0), (4, 0)] rfl rfl rfl ?_
  refine sd_vv rfl rfl rfl (vv_move rfl) ?_
  have B5 := (Bx.gr hbp0 Gw1)
  have B6 := (Rd.gr hp0_0 Gw1)
  have hb := bnd hm; clear hm; obtain ⟨x1, hx1, hm⟩ := hb
  refine sd_ev rfl rfl rfl (ev_call en_18 rfl (epoch_reader_take_w p0 16 _ _ _ _ _ _ hx1 _ B5 B6 ⟨(tk1 ((tk2 lt1.o ne0.o) : zp0_0 = 0 ∨ gp0_0 ≠ bp0))⟩)) ?_
  rintro u2_r0_s w2 ⟨_, z2_r0_s, g2_r0_s, o2_r0_s, u2_b0_0, z2_b0_0, g2_b0_0, o2_b0_0, rfl, O2_r0_s, f2_r0_s, O2_b0_0, f2_b0_0, Bk2_0, Kw2⟩
  have z7 := Kw2.size
  have lt8 := O2_r0_s.lth
  have lt9 := O2_b0_0.lth
  have hb := bnd hm; clear hm; obtain ⟨x2, hx2, hm⟩ := hb
  refine sd_vv rfl rfl rfl (vv_s2a (n := 0) (l := x1.1) Try.underlying26 rfl O2_r0_s hx2) ?_
  refine sd_vv rfl rfl rfl (vv_s2aL (l := x1.1) (p := x2) agg_26 rfl O2_r0_s hx2) ?_
  have B10 := (Bx.kz Bw1 Kw2)
  refine sd_ev rfl rfl rfl (ev_stM (cs' := kb x2) (vs := kb x2) (agg_26).siz rfl rfl rfl rfl rfl B10 rfl rfl) ?_
  rintro _ w3 ⟨Bw3, Mw3⟩
  have z11 := Mw3.size
  refine sd_done ?_
  refine sw_ret ?_
  have B12 := (Rd.md O2_b0_0 Mw3 (tk1 ((pv_1 (A := (fun x => x ≠ b1)) f2_b0_0 (pv_lt (A := (fun x => x ≠ b1)) lt1)) : z2_b0_0 = 0 ∨ g2_b0_0 ≠ b1)))
  have B13 := (Bx.md Bk2_0 Mw3)
  have X14 : Kz [(1, bp0)] w w3 := (Kz.md (Kz.kz (Kz.gr (Kz.refl _ w) Gw1) Kw2) Mw3)
  have hr := Option.some.inj hm
  subst hr
  refine ⟨_, _, rfl, res_1 rfl (rv_cellW agg_26 rfl Bw3 rfl), ?_⟩
  exact ⟨u2_b0_0, z2_b0_0, g2_b0_0, o2_b0_0, rfl, B12, ⟨(pv_1 (A := (fun x => (x = gp0_0 ∧ zp0_0 ≠ 0) ∨ w.heap.size ≤ x)) f2_b0_0 tk0)⟩, B13, X14⟩

set_option maxHeartbeats 2000000 in
theorem epoch_reader_item_w (p0 : Tepoch_reader) (bp0 : Nat) (vp0_0 : Value) (zp0_0 gp0_0 op0_0 : Nat) (r : TItem × Tepoch_reader) (hm : epoch_reader_item p0 = some r) (w : World) (hbp0 : Bx w bp0 55 (Tepoch_reader.cs p0 vp0_0)) (hp0_0 : Rd w zp0_0 gp0_0 op0_0 1 vp0_0 (p0.b.map bvc)) (ne0 : Hdn (zp0_0 = 0 ∨ gp0_0 ≠ bp0)) :
    Calls Try.prog 20 [.pointer (some ⟨bp0, 0, none⟩)].toArray w fun e w' => ∃ v, e = .returned v ∧ (∃ (ub1_0 : Value) (zb1_0 : Nat) (gb1_0 : Nat) (ob1_0 : Nat), v = .agg (TItem.cs r.1).toArray ∧ Rd w' zb1_0 gb1_0 ob1_0 1 ub1_0 (r.2.b.map bvc) ∧ Hdn (zb1_0 = 0 ∨ (gb1_0 = gp0_0 ∧ zp0_0 ≠ 0) ∨ w.heap.size ≤ gb1_0) ∧ Bx w' bp0 55 (Tepoch_reader.cs r.2 ub1_0) ∧ Kz [(1, bp0)] w w') := by
  have lt1 := hp0_0.lth
  have lt2 := hbp0.lt
  unfold epoch_reader_item at hm
  refine calls_of_sw (R := fun v w' => ∃ (ub1_0 : Value) (zb1_0 : Nat) (gb1_0 : Nat) (ob1_0 : Nat), v = .agg (TItem.cs r.1).toArray ∧ Rd w' zb1_0 gb1_0 ob1_0 1 ub1_0 (r.2.b.map bvc) ∧ Hdn (zb1_0 = 0 ∨ (gb1_0 = gp0_0 ∧ zp0_0 ≠ 0) ∨ w.heap.size ≤ gb1_0) ∧ Bx w' bp0 55 (Tepoch_reader.cs r.2 ub1_0) ∧ Kz [(1, bp0)] w w') 11 Try.func20 rfl rfl rfl ?_
  refine sw_seq ?_
  -- region 0 bytes.go:111
  refine sw_region [(0, 0)] rfl rfl rfl ?_
  refine sd_ev rfl rfl rfl (ev_alloc (cs := TItem.cs (TItem.mk (TSubset.mk 0 0) k0)) zv_64 rfl) ?_
  rintro _ w1 ⟨b1, rfl, hbw1, Bw1, Gw1⟩
  have z3 := Gw1.size
  have lt4 := Bw1.lt
  refine sd_done ?_
  refine sw_seq ?_
  -- region 1 bytes.go:112
  refine sw_region [(0, 0), (1, 0), (2, 0), (3, 0), (4, 0), (5, 0), (6, 0), (7, 0), (8, 0)] rfl rfl rfl ?_
  refine sd_vv rfl rfl rfl (vv_move rfl) ?_
  have B5 := (Bx.gr hbp0 Gw1)
  have B6 := (Rd.gr hp0_0 Gw1)
  have hb := bnd hm; clear hm; obtain ⟨x1, hx1, hm⟩ := hb
  refine sd_ev rfl rfl rfl (ev_call en_15 rfl (epoch_reader_small_w p0 _ _ _ _ _ _ hx1 _ B5 B6 ⟨(tk1 ((tk2 lt1.o ne0.o) : zp0_0 = 0 ∨ gp0_0 ≠ bp0))⟩)) ?_
  rintro _ w2 ⟨u2_b0_0, z2_b0_0, g2_b0_0, o2_b0_0, rfl, O2_b0_0, f2_b0_0, Bk2_0, Kw2⟩
  have z7 := Kw2.size
  have lt8 := O2_b0_0.lth
  refine sd_vv rfl rfl rfl (vv_move rfl) ?_
  have hb := bnd hm; clear hm; obtain ⟨x2, hx2, hm⟩ := hb
  refine sd_ev rfl rfl rfl (ev_call en_15 rfl (epoch_reader_small_w x1.2 _ _ _ _ _ _ hx2 _ Bk2_0 O2_b0_0 ⟨(tk1 ((pv_1 (A := (fun x => x ≠ bp0)) f2_b0_0 (tk2 lt1.o ne0.o)) : z2_b0_0 = 0 ∨ g2_b0_0 ≠ bp0))⟩)) ?_
  rintro _ w3 ⟨u3_b0_0, z3_b0_0, g3_b0_0, o3_b0_0, rfl, O3_b0_0, f3_b0_0, Bk3_0, Kw3⟩
  have z9 := Kw3.size
  have lt10 := O3_b0_0.lth
  refine sd_vv rfl rfl rfl (vv_build (cs := TSubset.cs (TSubset.mk x1.1 x2.1)) bs_62 rfl rfl) ?_
  refine sd_vv rfl rfl rfl (vv_move rfl) ?_
  have hb := bnd hm; clear hm; obtain ⟨x3, hx3, hm⟩ := hb
  refine sd_ev rfl rfl rfl (ev_call en_23 rfl (epoch_reader_key_w x2.2 _ _ _ _ _ _ hx3 _ Bk3_0 O3_b0_0 ⟨(tk1 ((pv_1 (A := (fun x => x ≠ bp0)) f3_b0_0 (pv_1 (A := (fun x => x ≠ bp0)) f2_b0_0 (tk2 lt1.o ne0.o))) : z3_b0_0 = 0 ∨ g3_b0_0 ≠ bp0))⟩)) ?_
  rintro _ w4 ⟨u4_b0_0, z4_b0_0, g4_b0_0, o4_b0_0, rfl, O4_b0_0, f4_b0_0, Bk4_0, Kw4⟩
  have z11 := Kw4.size
  have lt12 := O4_b0_0.lth
  refine sd_vv rfl rfl rfl (vv_build (cs := TItem.cs (TItem.mk (TSubset.mk x1.1 x2.1) x3.1)) bs_64 rfl (fill_M rfl rfl rfl (fill_M rfl rfl rfl (by kernel_rfl)))) ?_
  have B13 := (Bx.kz (Bx.kz (Bx.kz Bw1 Kw2) Kw3) Kw4)
  refine sd_ev rfl rfl rfl (ev_stM (cs' := TItem.cs (TItem.mk (TSubset.mk x1.1 x2.1) x3.1)) (vs := TItem.cs (TItem.mk (TSubset.mk x1.1 x2.1) x3.1)) (agg_64).siz rfl rfl rfl rfl rfl B13 rfl rfl) ?_
  rintro _ w5 ⟨Bw5, Mw5⟩
  have z14 := Mw5.size
  refine sd_done ?_
  refine sw_ret ?_
  have B15 := (Rd.md O4_b0_0 Mw5 (tk1 ((pv_1 (A := (fun x => x ≠ b1)) f4_b0_0 (pv_1 (A := (fun x => x ≠ b1)) f3_b0_0 (pv_1 (A := (fun x => x ≠ b1)) f2_b0_0 (pv_lt (A := (fun x => x ≠ b1)) lt1)))) : z4_b0_0 = 0 ∨ g4_b0_0 ≠ b1)))
  have B16 := (Bx.md Bk4_0 Mw5)
  have X17 : Kz [(1, bp0)] w w5 := (Kz.md (Kz.kz (Kz.kz (Kz.kz (Kz.gr (Kz.refl _ w) Gw1) Kw2) Kw3) Kw4) Mw5)
  have hr := Option.some.inj hm
  subst hr
  refine ⟨_, _, rfl, res_1 rfl (rv_cellW agg_64 rfl Bw5 rfl), ?_⟩
  exact ⟨u4_b0_0, z4_b0_0, g4_b0_0, o4_b0_0, rfl, B15, ⟨(pv_1 (A := (fun x => (x = gp0_0 ∧ zp0_0 ≠ 0) ∨ w.heap.size ≤ x)) f4_b0_0 (pv_1 (A := (fun x => (x = gp0_0 ∧ zp0_0 ≠ 0) ∨ w.heap.size ≤ x)) f3_b0_0 (pv_1 (A := (fun x => (x = gp0_0 ∧ zp0_0 ≠ 0) ∨ w.heap.size ≤ x)) f2_b0_0 tk0)))⟩, B16, X17⟩

set_option maxHeartbeats 2000000 in
theorem epoch_reader_point_w (p0 : Tepoch_reader) (bp0 : Nat) (vp0_0 : Value) (zp0_0 gp0_0 op0_0 : Nat) (r : TPoint × Tepoch_reader) (hm : epoch_reader_point p0 = some r) (w : World) (hbp0 : Bx w bp0 55 (Tepoch_reader.cs p0 vp0_0)) (hp0_0 : Rd w zp0_0 gp0_0 op0_0 1 vp0_0 (p0.b.map bvc)) (ne0 : Hdn (zp0_0 = 0 ∨ gp0_0 ≠ bp0)) :
    Calls Try.prog 22 [.pointer (some ⟨bp0, 0, none⟩)].toArray w fun e w' => ∃ v, e = .returned v ∧ (∃ (ub1_0 : Value) (zb1_0 : Nat) (gb1_0 : Nat) (ob1_0 : Nat), v = .agg (TPoint.cs r.1).toArray ∧ Rd w' zb1_0 gb1_0 ob1_0 1 ub1_0 (r.2.b.map bvc) ∧ Hdn (zb1_0 = 0 ∨ (gb1_0 = gp0_0 ∧ zp0_0 ≠ 0) ∨ w.heap.size ≤ gb1_0) ∧ Bx w' bp0 55 (Tepoch_reader.cs r.2 ub1_0) ∧ Kz [(1, bp0)] w w') := by
  have lt1 := hp0_0.lth
  have lt2 := hbp0.lt
  unfold epoch_reader_point at hm
  refine calls_of_sw (R := fun v w' => ∃ (ub1_0 : Value) (zb1_0 : Nat) (gb1_0 : Nat) (ob1_0 : Nat), v = .agg (TPoint.cs r.1).toArray ∧ Rd w' zb1_0 gb1_0 ob1_0 1 ub1_0 (r.2.b.map bvc) ∧ Hdn (zb1_0 = 0 ∨ (gb1_0 = gp0_0 ∧ zp0_0 ≠ 0) ∨ w.heap.size ≤ gb1_0) ∧ Bx w' bp0 55 (Tepoch_reader.cs r.2 ub1_0) ∧ Kz [(1, bp0)] w w') 8 Try.func22 rfl rfl rfl ?_
  refine sw_seq ?_
  -- region 0 bytes.go:116
  refine sw_region [(0, 0)] rfl rfl rfl ?_
  refine sd_ev rfl rfl rfl (ev_alloc (cs := TPoint.cs (TPoint.mk 0#64 0#64)) zv_35 rfl) ?_
  rintro _ w1 ⟨b1, rfl, hbw1, Bw1, Gw1⟩
  have z3 := Gw1.size
  have lt4 := Bw1.lt
  refine sd_done ?_
  refine sw_seq ?_
  -- region 1 bytes.go:116
  refine sw_region [(0, 0), (1, 0), (2, 0), (3, 0), (4, 0), (5, 0)] rfl rfl rfl ?_
  refine sd_vv rfl rfl rfl (vv_move rfl) ?_
  have B5 := (Bx.gr hbp0 Gw1)
  have B6 := (Rd.gr hp0_0 Gw1)
  have hb := bnd hm; clear hm; obtain ⟨x1, hx1, hm⟩ := hb
  refine sd_ev rfl rfl rfl (ev_call en_16 rfl (epoch_reader_number_w p0 8 _ _ _ _ _ _ hx1 _ B5 B6 ⟨(tk1 ((tk2 lt1.o ne0.o) : zp0_0 = 0 ∨ gp0_0 ≠ bp0))⟩)) ?_
  rintro _ w2 ⟨u2_b0_0, z2_b0_0, g2_b0_0, o2_b0_0, rfl, O2_b0_0, f2_b0_0, Bk2_0, Kw2⟩
  have z7 := Kw2.size
  have lt8 := O2_b0_0.lth
  refine sd_vv rfl rfl rfl (vv_move rfl) ?_
  have hb := bnd hm; clear hm; obtain ⟨x2, hx2, hm⟩ := hb
  refine sd_ev rfl rfl rfl (ev_call en_16 rfl (epoch_reader_number_w x1.2 8 _ _ _ _ _ _ hx2 _ Bk2_0 O2_b0_0 ⟨(tk1 ((pv_1 (A := (fun x => x ≠ bp0)) f2_b0_0 (tk2 lt1.o ne0.o)) : z2_b0_0 = 0 ∨ g2_b0_0 ≠ bp0))⟩)) ?_
  rintro _ w3 ⟨u3_b0_0, z3_b0_0, g3_b0_0, o3_b0_0, rfl, O3_b0_0, f3_b0_0, Bk3_0, Kw3⟩
  have z9 := Kw3.size
  have lt10 := O3_b0_0.lth
  refine sd_vv rfl rfl rfl (vv_build (cs := TPoint.cs (TPoint.mk x1.1 x2.1)) bs_35 rfl rfl) ?_
  have B11 := (Bx.kz (Bx.kz Bw1 Kw2) Kw3)
  refine sd_ev rfl rfl rfl (ev_stM (cs' := TPoint.cs (TPoint.mk x1.1 x2.1)) (vs := TPoint.cs (TPoint.mk x1.1 x2.1)) (agg_35).siz rfl rfl rfl rfl rfl B11 rfl rfl) ?_
  rintro _ w4 ⟨Bw4, Mw4⟩
  have z12 := Mw4.size
  refine sd_done ?_
  refine sw_ret ?_
  have B13 := (Rd.md O3_b0_0 Mw4 (tk1 ((pv_1 (A := (fun x => x ≠ b1)) f3_b0_0 (pv_1 (A := (fun x => x ≠ b1)) f2_b0_0 (pv_lt (A := (fun x => x ≠ b1)) lt1))) : z3_b0_0 = 0 ∨ g3_b0_0 ≠ b1)))
  have B14 := (Bx.md Bk3_0 Mw4)
  have X15 : Kz [(1, bp0)] w w4 := (Kz.md (Kz.kz (Kz.kz (Kz.gr (Kz.refl _ w) Gw1) Kw2) Kw3) Mw4)
  have hr := Option.some.inj hm
  subst hr
  refine ⟨_, _, rfl, res_1 rfl (rv_cellW agg_35 rfl Bw4 rfl), ?_⟩
  exact ⟨u3_b0_0, z3_b0_0, g3_b0_0, o3_b0_0, rfl, B13, ⟨(pv_1 (A := (fun x => (x = gp0_0 ∧ zp0_0 ≠ 0) ∨ w.heap.size ≤ x)) f3_b0_0 (pv_1 (A := (fun x => (x = gp0_0 ∧ zp0_0 ≠ 0) ∨ w.heap.size ≤ x)) f2_b0_0 tk0))⟩, B14, X15⟩

set_option maxHeartbeats 2000000 in
theorem epoch_Decode_w (p0 : List (BitVec 8)) (vp0 : Value) (zp0 gp0 op0 : Nat) (r : TPacket × Int) (hm : epoch_Decode p0 = some r) (w : World) (hp0 : Rd w zp0 gp0 op0 1 vp0 (p0.map bvc))  :
    Calls Try.prog 7 [vp0].toArray w fun e w' => ∃ v, e = .returned v ∧ (∃ (ur0_2 : Value) (zr0_2 : Nat) (gr0_2 : Nat) (ur0_4 : Value) (zr0_4 : Nat) (gr0_4 : Nat) (ur0_39 : Value) (zr0_39 : Nat) (gr0_39 : Nat), v = .tuple [.agg (TPacket.cs r.1 ur0_2 ur0_4 ur0_39).toArray, .int .i64 r.2].toArray ∧ Own w' zr0_2 gr0_2 64 18 ur0_2 (r.1.Head.Items.map TItem.cs) ∧ Hdn (zr0_2 = 0 ∨ w.heap.size ≤ gr0_2) ∧ Own w' zr0_4 gr0_4 35 2 ur0_4 (r.1.Head.Points.map TPoint.cs) ∧ Hdn (zr0_4 = 0 ∨ w.heap.size ≤ gr0_4) ∧ Own w' zr0_39 gr0_39 5 1 ur0_39 (r.1.Data.map bvc) ∧ Hdn (zr0_39 = 0 ∨ w.heap.size ≤ gr0_39) ∧ Hdn (zr0_4 = 0 ∨ zr0_2 = 0 ∨ gr0_4 ≠ gr0_2) ∧ Hdn (zr0_39 = 0 ∨ zr0_2 = 0 ∨ gr0_39 ≠ gr0_2) ∧ Hdn (zr0_39 = 0 ∨ zr0_4 = 0 ∨ gr0_39 ≠ gr0_4) ∧ Gr w w') := by
  have lt1 := hp0.lth
  unfold epoch_Decode at hm
  refine calls_of_sw (R := fun v w' => ∃ (ur0_2 : Value) (zr0_2 : Nat) (gr0_2 : Nat) (ur0_4 : Value) (zr0_4 : Nat) (gr0_4 : Nat) (ur0_39 : Value) (zr0_39 : Nat) (gr0_39 : Nat), v = .tuple [.agg (TPacket.cs r.1 ur0_2 ur0_4 ur0_39).toArray, .int .i64 r.2].toArray ∧ Own w' zr0_2 gr0_2 64 18 ur0_2 (r.1.Head.Items.map TItem.cs) ∧ Hdn (zr0_2 = 0 ∨ w.heap.size ≤ gr0_2) ∧ Own w' zr0_4 gr0_4 35 2 ur0_4 (r.1.Head.Points.map TPoint.cs) ∧ Hdn (zr0_4 = 0 ∨ w.heap.size ≤ gr0_4) ∧ Own w' zr0_39 gr0_39 5 1 ur0_39 (r.1.Data.map bvc) ∧ Hdn (zr0_39 = 0 ∨ w.heap.size ≤ gr0_39) ∧ Hdn (zr0_4 = 0 ∨ zr0_2 = 0 ∨ gr0_4 ≠ gr0_2) ∧ Hdn (zr0_39 = 0 ∨ zr0_2 = 0 ∨ gr0_39 ≠ gr0_2) ∧ Hdn (zr0_39 = 0 ∨ zr0_4 = 0 ∨ gr0_39 ≠ gr0_4) ∧ Gr w w') 85 Try.func7 rfl rfl rfl ?_
  refine sw_seq ?_
  -- region 0 bytes.go:131
  refine sw_region [(0, 0), (1, 0)] rfl rfl rfl ?_
  refine sd_ev rfl rfl rfl (ev_alloc (cs := TPacket.cs (TPacket.mk 0#8 0 (THeader.mk [] 0#64 [] k0 k0) 0#8 0#64 [] k0) (.slice none 0 0) (.slice none 0 0) (.slice none 0 0)) zv_31 rfl) ?_
  rintro _ w1 ⟨b1, rfl, hbw1, Bw1, Gw1⟩
  have z2 := Gw1.size
  have lt3 := Bw1.lt
  refine sd_vv rfl rfl rfl (vv_assign rfl) ?_
  refine sd_done ?_
  refine sw_seq ?_
  -- region 1 bytes.go:132
  refine sw_region [(0, 0), (1, 0), (2, 0), (3, 0)] rfl rfl rfl ?_
  refine sd_vv rfl rfl rfl (vv_move rfl) ?_
  have B4 := (Rd.gr hp0 Gw1)
  refine sd_vv rfl rfl rfl (vv_build (cs := Tepoch_reader.cs (Tepoch_reader.mk p0 false) vp0) bs_55 rfl (fill_1 rfl (Rd.oneB B4) rfl rfl)) ?_
  refine sd_ev rfl rfl rfl (ev_box (cs := Tepoch_reader.cs (Tepoch_reader.mk p0 false) vp0) rfl rfl) ?_
  rintro _ w2 ⟨b2, rfl, hbw2, Bw2, Gw2⟩
  have z5 := Gw2.size
  have lt6 := Bw2.lt
  refine sd_vv rfl rfl rfl (vv_assign rfl) ?_
  refine sd_done ?_
  refine sw_seq ?_
  -- region 2 bytes.go:133
  refine sw_region [(0, 0), (1, 0), (2, 0), (3, 0), (4, 0), (5, 0)] rfl rfl rfl ?_
  refine sd_vv rfl rfl rfl (vv_move rfl) ?_
  have B7 := (Rd.gr B4 Gw2)
  have hb := bnd hm; clear hm; obtain ⟨x1, hx1, hm⟩ := hb
  refine sd_ev rfl rfl rfl (ev_call en_15 rfl (epoch_reader_small_w (Tepoch_reader.mk p0 false) _ _ _ _ _ _ hx1 _ Bw2 B7 ⟨(tk1 ((pv_lt (A := (fun x => x ≠ b2)) lt1) : zp0 = 0 ∨ gp0 ≠ b2))⟩)) ?_
  rintro _ w3 ⟨u3_b0_0, z3_b0_0, g3_b0_0, o3_b0_0, rfl, O3_b0_0, f3_b0_0, Bk3_0, Kw3⟩
  have z8 := Kw3.size
  have lt9 := O3_b0_0.lth
  refine sd_vv rfl rfl rfl (vv_cvIB cv_3_5 rfl) ?_
  refine sd_vv rfl rfl rfl (vv_build (cs := TPacket.cs (TPacket.mk (wd8 x1.1) 0 (THeader.mk [] 0#64 [] k0 k0) 0#8 0#64 [] k0) (.slice none 0 0) (.slice none 0 0) (.slice none 0 0)) bs_31 rfl (by kernel_rfl)) ?_
  refine sd_ev rfl rfl rfl (ev_alloc (cs := TPacket.cs (TPacket.mk 0#8 0 (THeader.mk [] 0#64 [] k0 k0) 0#8 0#64 [] k0) (.slice none 0 0) (.slice none 0 0) (.slice none 0 0)) zv_31 rfl) ?_
  rintro _ w4 ⟨b4, rfl, hbw4, Bw4, Gw4⟩
  have z10 := Gw4.size
  have lt11 := Bw4.lt
  refine sd_ev rfl rfl rfl (ev_stM (cs' := TPacket.cs (TPacket.mk (wd8 x1.1) 0 (THeader.mk [] 0#64 [] k0 k0) 0#8 0#64 [] k0) (.slice none 0 0) (.slice none 0 0) (.slice none 0 0)) (vs := TPacket.cs (TPacket.mk (wd8 x1.1) 0 (THeader.mk [] 0#64 [] k0 k0) 0#8 0#64 [] k0) (.slice none 0 0) (.slice none 0 0) (.slice none 0 0)) (agg_31).siz rfl rfl rfl rfl (TPacket.cs_ones _ _ _ _ rfl rfl rfl) Bw4 rfl rfl) ?_
  rintro _ w5 ⟨Bw5, Mw5⟩
  have z12 := Mw5.size
  refine sd_done ?_
  have X13 : Gr w w5 := (Gr.md (Gr.trans (Gr.kz (Gr.trans (Gr.trans (Gr.refl w) Gw1) Gw2) Kw3) Gw4) Mw5)
  refine sw_joinD (β := Tepoch_reader × Int × List TItem × BitVec 64 × List TPoint × W2 × W2 × BitVec 8 × BitVec 64 × List (BitVec 8) × Value × Nat × Nat × Nat × Value × Nat × Nat × Value × Nat × Nat × Value × Nat × Nat) [3, 6, 14, 15, 16, 17, 18, 19, 20, 21, 22, 23, 24, 25, 26, 27, 28, 29, 30, 31, 32, 33, 34, 35, 36, 37, 38, 39, 40, 41, 42, 43, 44, 45, 46, 47, 48, 49, 50, 51, 52, 53, 54, 55, 56, 57, 58, 59, 60, 61, 62] (fun ⟨a2, a4, a5, a6, a7, a8, a9, a10, a11, a12, vy3, zy3, gy3, oy3, vy13, zy13, gy13, vy14, zy14, gy14, vy15, zy15, gy15⟩ => [(3, .int .i64 0)]) (fun ⟨a2, a4, a5, a6, a7, a8, a9, a10, a11, a12, vy3, zy3, gy3, oy3, vy13, zy13, gy13, vy14, zy14, gy14, vy15, zy15, gy15⟩ wr => (epoch_Decode_J1 x1 a2 a4 a5 a6 a7 a8 a9 a10 a11 a12 = some r) ∧ Rd wr zy3 gy3 oy3 1 vy3 (a2.b.map bvc) ∧ Hdn (zy3 = 0 ∨ (gy3 = g3_b0_0 ∧ z3_b0_0 ≠ 0) ∨ w5.heap.size ≤ gy3) ∧ Own wr zy13 gy13 64 18 vy13 (a5.map TItem.cs) ∧ Hdn (zy13 = 0 ∨ w5.heap.size ≤ gy13) ∧ Own wr zy14 gy14 35 2 vy14 (a7.map TPoint.cs) ∧ Hdn (zy14 = 0 ∨ w5.heap.size ≤ gy14) ∧ Own wr zy15 gy15 5 1 vy15 (a12.map bvc) ∧ Hdn (zy15 = 0 ∨ w5.heap.size ≤ gy15) ∧ Hdn (zy13 = 0 ∨ zy3 = 0 ∨ gy13 ≠ gy3) ∧ Hdn (zy14 = 0 ∨ zy3 = 0 ∨ gy14 ≠ gy3) ∧ Hdn (zy14 = 0 ∨ zy13 = 0 ∨ gy14 ≠ gy13) ∧ Hdn (zy15 = 0 ∨ zy3 = 0 ∨ gy15 ≠ gy3) ∧ Hdn (zy15 = 0 ∨ zy13 = 0 ∨ gy15 ≠ gy13) ∧ Hdn (zy15 = 0 ∨ zy14 = 0 ∨ gy15 ≠ gy14) ∧ Bx wr b2 55 (Tepoch_reader.cs a2 vy3) ∧ Bx wr b4 31 (TPacket.cs (TPacket.mk (wd8 x1.1) a4 (THeader.mk a5 a6 a7 a8 a9) a10 a11 a12 k0) vy13 vy14 vy15) ∧ Kz [(1, b2), (1, b4)] w5 wr) ?_ ?_
  · clear hm; rintro ⟨a2, a4, a5, a6, a7, a8, a9, a10, a11, a12, vy3, zy3, gy3, oy3, vy13, zy13, gy13, vy14, zy14, gy14, vy15, zy15, gy15⟩ w6 ⟨hm, Fw6_0, Fw6_1, Fw6_2, Fw6_3, Fw6_4, Fw6_5, Fw6_6, Fw6_7, Fw6_8, Fw6_9, Fw6_10, Fw6_11, Fw6_12, Fw6_13, Fw6_14, Fw6_15, Kw6⟩
    have z14 := Kw6.size
    have lt15 := Fw6_0.lth
    have lt16 := Fw6_2.lth
    have lt17 := Fw6_4.lth
    have lt18 := Fw6_6.lth
    have lt19 := Fw6_14.lt
    have lt20 := Fw6_15.lt
    unfold epoch_Decode_J1 at hm
    refine sw_seq ?_
    -- region 14 bytes.go:148
    refine sw_region [(0, 0), (1, 0), (2, 0), (3, 0)] rfl rfl rfl ?_
    refine sd_vv rfl rfl rfl (vv_move rfl) ?_
    have hb := bnd hm; clear hm; obtain ⟨x16, hx16, hm⟩ := hb
    refine sd_ev rfl rfl rfl (ev_call en_23 rfl (epoch_reader_key_w a2 _ _ _ _ _ _ hx16 _ Fw6_14 Fw6_0 ⟨(tk1 ((pv_1 (A := (fun x => x ≠ b2)) Fw6_1 (pv_1 (A := (fun x => x ≠ b2)) f3_b0_0 (pv_lt (A := (fun x => x ≠ b2)) lt1))) : zy3 = 0 ∨ gy3 ≠ b2))⟩)) ?_
    rintro _ w7 ⟨u7_b0_0, z7_b0_0, g7_b0_0, o7_b0_0, rfl, O7_b0_0, f7_b0_0, Bk7_0, Kw7⟩
    have z21 := Kw7.size
    have lt22 := O7_b0_0.lth
    refine sd_vv rfl rfl rfl (vv_fieldAddr fa_31_6 rfl) ?_
    have B23 := (Bx.kz Fw6_15 Kw7)
    refine sd_ev rfl rfl rfl (ev_stM (cs' := TPacket.cs (TPacket.mk (wd8 x1.1) a4 (THeader.mk a5 a6 a7 a8 a9) a10 a11 a12 x16.1) vy13 vy14 vy15) (vs := kb x16.1) (agg_26).siz rfl rfl rfl rfl rfl B23 rfl rfl) ?_
    rintro _ w8 ⟨Bw8, Mw8⟩
    have z24 := Mw8.size
    refine sd_done ?_
    refine sw_seq ?_
    have X25 : Gr w w8 := (Gr.md (Gr.kz (Gr.kz X13 Kw6) Kw7) Mw8)
    refine sw_joinD (β := Bool) [66, 67, 68, 69, 70, 71, 72, 73, 74, 75, 76, 77, 78, 79, 80, 81, 82] (fun a17 => [(82, .bool a17)]) (fun a17 wr => (epoch_Decode_J2 x1 a4 a5 a6 a7 a8 a9 a10 a11 a12 x16 a17 = some r) ∧ Kz [] w8 wr) ?_ ?_
    · clear hm; rintro a17 w9 ⟨hm, Kw9⟩
      have z26 := Kw9.size
      unfold epoch_Decode_J2 at hm
      refine sw_cond rfl (fun c1 => ?_) (fun c1 => ?_)
      ·
        replace hm := cnd_t c1 hm
        refine sw_seq ?_
        -- region 16 bytes.go:150
        refine sw_region [(0, 0), (1, 0), (2, 0)] rfl rfl rfl ?_
        refine sd_vv rfl rfl rfl (vv_build (cs := TPacket.cs (TPacket.mk 0#8 0 (THeader.mk [] 0#64 [] k0 k0) 0#8 0#64 [] k0) (.slice none 0 0) (.slice none 0 0) (.slice none 0 0)) bs_31 rfl (by kernel_rfl)) ?_
        have B27 := (Bx.kz (Bx.md (Bx.kz (Bx.kz (Bx.md (Bx.gr (Bx.kz (Bx.gr Bw1 Gw2) Kw3) Gw4) Mw5) Kw6) Kw7) Mw8) Kw9)
        refine sd_ev rfl rfl rfl (ev_stM (cs' := TPacket.cs (TPacket.mk 0#8 0 (THeader.mk [] 0#64 [] k0 k0) 0#8 0#64 [] k0) (.slice none 0 0) (.slice none 0 0) (.slice none 0 0)) (vs := TPacket.cs (TPacket.mk 0#8 0 (THeader.mk [] 0#64 [] k0 k0) 0#8 0#64 [] k0) (.slice none 0 0) (.slice none 0 0) (.slice none 0 0)) (agg_31).siz rfl rfl rfl rfl (TPacket.cs_ones _ _ _ _ rfl rfl rfl) B27 rfl rfl) ?_
        rintro _ w10 ⟨Bw10, Mw10⟩
        have z28 := Mw10.size
        refine sd_vv rfl rfl rfl (vv_assign rfl) ?_
        refine sd_done ?_
        refine sw_ret ?_
        refine then_r ?_
        have X29 : Gr w w10 := (Gr.md (Gr.kz X25 Kw9) Mw10)
        have hr := Option.some.inj hm
        subst hr
        refine ⟨_, _, rfl, res_2 rfl (rv_cellW agg_31 rfl Bw10 rfl) (rv_tmp rfl), ?_⟩
        exact ⟨(.slice none 0 0), 0, 0, (.slice none 0 0), 0, 0, (.slice none 0 0), 0, 0, rfl, (own_nil _ 0 64 18), ⟨.inl rfl⟩, (own_nil _ 0 35 2), ⟨.inl rfl⟩, (own_nil _ 0 5 1), ⟨.inl rfl⟩, ⟨(.inl rfl)⟩, ⟨(.inl rfl)⟩, ⟨(.inl rfl)⟩, X29⟩
      ·
        replace hm := cnd_f c1 hm
        refine sw_skip ?_
        refine then_n ?_
        refine sw_seq ?_
        -- region 17 bytes.go:152
        refine sw_region [(0, 0), (1, 0), (2, 0)] rfl rfl rfl ?_
        have B30 := (Bx.kz Bw8 Kw9)
        refine sd_vv rfl rfl rfl (vv_loadW agg_31 rfl B30 rfl) ?_
        have B31 := (Bx.kz (Bx.md (Bx.kz (Bx.kz (Bx.md (Bx.gr (Bx.kz (Bx.gr Bw1 Gw2) Kw3) Gw4) Mw5) Kw6) Kw7) Mw8) Kw9)
        have B32 := (Own.kz (Own.md (Own.kz Fw6_2 Kw7 (tk1 ((pv_0 (A := (fun x => x ≠ b2)) Fw6_3) : zy13 = 0 ∨ gy13 ≠ b2))) Mw8 (tk1 ((pv_0 (A := (fun x => x ≠ b4)) Fw6_3) : zy13 = 0 ∨ gy13 ≠ b4))) Kw9)
        have B33 := (Own.kz (Own.md (Own.kz Fw6_4 Kw7 (tk1 ((pv_0 (A := (fun x => x ≠ b2)) Fw6_5) : zy14 = 0 ∨ gy14 ≠ b2))) Mw8 (tk1 ((pv_0 (A := (fun x => x ≠ b4)) Fw6_5) : zy14 = 0 ∨ gy14 ≠ b4))) Kw9)
        have B34 := (Own.kz (Own.md (Own.kz Fw6_6 Kw7 (tk1 ((pv_0 (A := (fun x => x ≠ b2)) Fw6_7) : zy15 = 0 ∨ gy15 ≠ b2))) Mw8 (tk1 ((pv_0 (A := (fun x => x ≠ b4)) Fw6_7) : zy15 = 0 ∨ gy15 ≠ b4))) Kw9)
        refine sd_ev rfl rfl rfl (ev_stM (cs' := TPacket.cs (TPacket.mk (wd8 x1.1) a4 (THeader.mk a5 a6 a7 a8 a9) a10 a11 a12 x16.1) vy13 vy14 vy15) (vs := TPacket.cs (TPacket.mk (wd8 x1.1) a4 (THeader.mk a5 a6 a7 a8 a9) a10 a11 a12 x16.1) vy13 vy14 vy15) (agg_31).siz rfl rfl rfl rfl (TPacket.cs_ones _ _ _ _ (Own.oneB B32) (Own.oneB B33) (Own.oneB B34)) B31 rfl rfl) ?_
        rintro _ w11 ⟨Bw11, Mw11⟩
        have z35 := Mw11.size
        refine sd_vv rfl rfl rfl (vv_assign rfl) ?_
        refine sd_done ?_
        refine sw_ret ?_
        have B36 := (Own.md B32 Mw11 (tk1 ((pv_0 (A := (fun x => x ≠ b1)) Fw6_3) : zy13 = 0 ∨ gy13 ≠ b1)))
        have B37 := (Own.md B33 Mw11 (tk1 ((pv_0 (A := (fun x => x ≠ b1)) Fw6_5) : zy14 = 0 ∨ gy14 ≠ b1)))
        have B38 := (Own.md B34 Mw11 (tk1 ((pv_0 (A := (fun x => x ≠ b1)) Fw6_7) : zy15 = 0 ∨ gy15 ≠ b1)))
        have X39 : Gr w w11 := (Gr.md (Gr.kz X25 Kw9) Mw11)
        have hr := Option.some.inj hm
        subst hr
        refine ⟨_, _, rfl, res_2 rfl (rv_cellW agg_31 rfl Bw11 rfl) (rv_tmp rfl), ?_⟩
        exact ⟨vy13, zy13, gy13, vy14, zy14, gy14, vy15, zy15, gy15, rfl, B36, ⟨(pv_0 (A := (fun x => w.heap.size ≤ x)) Fw6_3)⟩, B37, ⟨(pv_0 (A := (fun x => w.heap.size ≤ x)) Fw6_5)⟩, B38, ⟨(pv_0 (A := (fun x => w.heap.size ≤ x)) Fw6_7)⟩, ⟨(tk1 Fw6_10.o)⟩, ⟨(tk1 Fw6_12.o)⟩, ⟨(tk1 Fw6_13.o)⟩, X39⟩
    ·
      -- region 15 bytes.go:149
      refine sw_region [(0, 0), (1, 0), (2, 0), (3, 0), (4, 0), (5, 0), (6, 0), (7, 0), (8, 0), (9, 0), (10, 0), (11, 0), (12, 0), (13, 0), (14, 0), (15, 0), (16, 0)] rfl rfl rfl ?_
      refine sd_vv rfl rfl rfl (vv_move rfl) ?_
      refine sd_vv rfl rfl rfl (vv_nilCheck rfl rfl) ?_
      refine sd_vv rfl rfl rfl (vv_fieldAddr fa_55_1 rfl) ?_
      have B40 := (Bx.md Bk7_0 Mw8)
      refine sd_vv rfl rfl rfl (vv_load1 (v := .bool x16.2.short) one_4 rfl B40 rfl) ?_
      refine sd_split rfl rfl rfl (vv_move rfl) (fun c2 => ?_) (fun c2 => ?_)
      ·
        replace hm := cnd_t c2 hm
        refine sd_skip rfl rfl rfl ?_
        refine sd_skip rfl rfl rfl ?_
        refine sd_skip rfl rfl rfl ?_
        refine sd_skip rfl rfl rfl ?_
        refine sd_skip rfl rfl rfl ?_
        refine sd_skip rfl rfl rfl ?_
        refine sd_vv rfl rfl rfl (vv_pickT rfl rfl) ?_
        refine sd_vv rfl rfl rfl (vv_move rfl) ?_
        refine sd_skip rfl rfl rfl ?_
        refine sd_skip rfl rfl rfl ?_
        refine sd_skip rfl rfl rfl ?_
        refine sd_vv rfl rfl rfl (vv_pickT rfl rfl) ?_
        refine sd_nil ?_
        have K_41 : Kz [] w8 w8 := (Kz.refl _ _)
        refine ⟨rfl, true, ?_, hm, K_41⟩
        repeat' first | exact trivial | refine ⟨rfl, ?_⟩
      ·
        replace hm := cnd_f c2 hm
        refine sd_vv rfl rfl rfl (vv_move rfl) ?_
        refine sd_vv rfl rfl rfl (vv_nilCheck rfl rfl) ?_
        refine sd_vv rfl rfl rfl (vv_fieldAddr fa_55_0 rfl) ?_
        refine sd_vv rfl rfl rfl (vv_load1 (v := u7_b0_0) one_29 rfl B40 rfl) ?_
        have B42 := (Rd.md O7_b0_0 Mw8 (tk1 ((pv_1 (A := (fun x => x ≠ b4)) f7_b0_0 (pv_1 (A := (fun x => x ≠ b4)) Fw6_1 (pv_lt (A := (fun x => x ≠ b4)) lt9))) : z7_b0_0 = 0 ∨ g7_b0_0 ≠ b4)))
        refine sd_vv rfl rfl rfl (vv_lenT (l := x16.2.b) (c := bvc) Try.underlying29 rfl B42) ?_
        refine sd_vv rfl rfl rfl (vv_gtr (a := (x16.2.b.length : Int)) (b := 0) rfl rfl) ?_
        refine sd_vv rfl rfl rfl (vv_pickF rfl rfl) ?_
        refine sd_split rfl rfl rfl (vv_move rfl) (fun c3 => ?_) (fun c3 => ?_)
        ·
          replace hm := ite_t (of_decide_eq_true c3) hm
          refine sd_skip rfl rfl rfl ?_
          refine sd_skip rfl rfl rfl ?_
          refine sd_skip rfl rfl rfl ?_
          refine sd_vv rfl rfl rfl (vv_pickT rfl rfl) ?_
          refine sd_nil ?_
          have K_43 : Kz [] w8 w8 := (Kz.refl _ _)
          refine ⟨rfl, true, ?_, hm, K_43⟩
          repeat' first | exact trivial | refine ⟨rfl, ?_⟩
        ·
          replace hm := ite_f (of_decide_eq_false c3) hm
          refine sd_vv rfl rfl rfl (vv_loadW agg_31 rfl Bw8 rfl) ?_
          have B44 := (Own.md (Own.kz Fw6_2 Kw7 (tk1 ((pv_0 (A := (fun x => x ≠ b2)) Fw6_3) : zy13 = 0 ∨ gy13 ≠ b2))) Mw8 (tk1 ((pv_0 (A := (fun x => x ≠ b4)) Fw6_3) : zy13 = 0 ∨ gy13 ≠ b4)))
          have B45 := (Own.md (Own.kz Fw6_4 Kw7 (tk1 ((pv_0 (A := (fun x => x ≠ b2)) Fw6_5) : zy14 = 0 ∨ gy14 ≠ b2))) Mw8 (tk1 ((pv_0 (A := (fun x => x ≠ b4)) Fw6_5) : zy14 = 0 ∨ gy14 ≠ b4)))
          have B46 := (Own.md (Own.kz Fw6_6 Kw7 (tk1 ((pv_0 (A := (fun x => x ≠ b2)) Fw6_7) : zy15 = 0 ∨ gy15 ≠ b2))) Mw8 (tk1 ((pv_0 (A := (fun x => x ≠ b4)) Fw6_7) : zy15 = 0 ∨ gy15 ≠ b4)))
          have hb := bnd hm; clear hm; obtain ⟨x18, hx18, hm⟩ := hb
          refine sd_ev rfl rfl rfl (ev_call en_9 rfl (epoch_CheckPacket_w (TPacket.mk (wd8 x1.1) a4 (THeader.mk a5 a6 a7 a8 a9) a10 a11 a12 x16.1) _ _ _ _ _ _ _ _ _ _ _ _ _ hx18 _ (Own.rd B44) (Own.rd B45) (Own.rd B46))) ?_
          rintro _ w12 ⟨rfl, Gw12⟩
          have z47 := Gw12.size
          refine sd_vv rfl rfl rfl (vv_neq (a := x18) (b := 0) rfl rfl) ?_
          refine sd_vv rfl rfl rfl (vv_pickF rfl rfl) ?_
          refine sd_nil ?_
          have K_48 : Kz [] w8 w12 := (Kz.gr (Kz.refl _ _) Gw12)
          refine ⟨rfl, (decide (x18 ≠ 0)), ?_, hm, K_48⟩
          repeat' first | exact trivial | refine ⟨rfl, ?_⟩
  ·
    refine sw_seq ?_
    -- region 3 bytes.go:134
    refine sw_region [(0, 0), (1, 0), (2, 0)] rfl rfl rfl ?_
    refine sd_vv rfl rfl rfl (vv_fieldAddr fa_31_0 rfl) ?_
    refine sd_vv rfl rfl rfl (vv_load1 (v := bv (wd8 x1.1)) one_5 rfl Bw5 rfl) ?_
    refine sd_vv rfl rfl rfl (vv_eqlB (p := wd8 x1.1) (q := 2#8) rfl rfl) ?_
    refine sd_done ?_
    refine sw_cond rfl (fun c4 => ?_) (fun c4 => ?_)
    ·
      replace hm := ite_t (of_decide_eq_true c4) hm
      refine sw_seq ?_
      -- region 4 bytes.go:135
      refine sw_region [(0, 0), (1, 0), (2, 0), (3, 0), (4, 0), (5, 0), (6, 0), (7, 0), (8, 0)] rfl rfl rfl ?_
      refine sd_vv rfl rfl rfl (vv_move rfl) ?_
      have B49 := (Bx.md (Bx.gr Bk3_0 Gw4) Mw5)
      have B50 := (Rd.md (Rd.gr O3_b0_0 Gw4) Mw5 (tk1 ((pv_lt (A := (fun x => x ≠ b4)) lt9) : z3_b0_0 = 0 ∨ g3_b0_0 ≠ b4)))
      have hb := bnd hm; clear hm; obtain ⟨x19, hx19, hm⟩ := hb
      refine sd_ev rfl rfl rfl (ev_call en_15 rfl (epoch_reader_small_w x1.2 _ _ _ _ _ _ hx19 _ B49 B50 ⟨(tk1 ((pv_1 (A := (fun x => x ≠ b2)) f3_b0_0 (pv_lt (A := (fun x => x ≠ b2)) lt1)) : z3_b0_0 = 0 ∨ g3_b0_0 ≠ b2))⟩)) ?_
      rintro _ w13 ⟨u13_b0_0, z13_b0_0, g13_b0_0, o13_b0_0, rfl, O13_b0_0, f13_b0_0, Bk13_0, Kw13⟩
      have z51 := Kw13.size
      have lt52 := O13_b0_0.lth
      refine sd_vv rfl rfl rfl (vv_cvIB cv_3_5 rfl) ?_
      refine sd_vv rfl rfl rfl (vv_move rfl) ?_
      have hb := bnd hm; clear hm; obtain ⟨x20, hx20, hm⟩ := hb
      refine sd_ev rfl rfl rfl (ev_call en_16 rfl (epoch_reader_number_w x19.2 8 _ _ _ _ _ _ hx20 _ Bk13_0 O13_b0_0 ⟨(tk1 ((pv_1 (A := (fun x => x ≠ b2)) f13_b0_0 (pv_1 (A := (fun x => x ≠ b2)) f3_b0_0 (pv_lt (A := (fun x => x ≠ b2)) lt1))) : z13_b0_0 = 0 ∨ g13_b0_0 ≠ b2))⟩)) ?_
      rintro _ w14 ⟨u14_b0_0, z14_b0_0, g14_b0_0, o14_b0_0, rfl, O14_b0_0, f14_b0_0, Bk14_0, Kw14⟩
      have z53 := Kw14.size
      have lt54 := O14_b0_0.lth
      refine sd_vv rfl rfl rfl (vv_fieldAddr fa_31_3 rfl) ?_
      have B55 := (Bx.kz (Bx.kz Bw5 Kw13) Kw14)
      refine sd_ev rfl rfl rfl (ev_st1 (cs' := TPacket.cs (TPacket.mk (wd8 x1.1) 0 (THeader.mk [] 0#64 [] k0 k0) (wd8 x19.1) 0#64 [] k0) (.slice none 0 0) (.slice none 0 0) (.slice none 0 0)) (one_5).siz rfl rfl rfl B55 rfl rfl) ?_
      rintro _ w15 ⟨Bw15, Mw15⟩
      have z56 := Mw15.size
      refine sd_vv rfl rfl rfl (vv_fieldAddr fa_31_4 rfl) ?_
      refine sd_ev rfl rfl rfl (ev_st1 (cs' := TPacket.cs (TPacket.mk (wd8 x1.1) 0 (THeader.mk [] 0#64 [] k0 k0) (wd8 x19.1) x20.1 [] k0) (.slice none 0 0) (.slice none 0 0) (.slice none 0 0)) (one_23).siz rfl rfl rfl Bw15 rfl rfl) ?_
      rintro _ w16 ⟨Bw16, Mw16⟩
      have z57 := Mw16.size
      refine sd_done ?_
      -- region 5 bytes.go:136
      refine sw_region [(0, 0), (1, 0), (2, 0), (3, 0), (4, 0), (5, 0), (6, 0), (7, 0)] rfl rfl rfl ?_
      refine sd_vv rfl rfl rfl (vv_move rfl) ?_
      refine sd_vv rfl rfl rfl (vv_move rfl) ?_
      have B58 := (Bx.md (Bx.md Bk14_0 Mw15) Mw16)
      have B59 := (Rd.md (Rd.md O14_b0_0 Mw15 (tk1 ((pv_1 (A := (fun x => x ≠ b4)) f14_b0_0 (pv_1 (A := (fun x => x ≠ b4)) f13_b0_0 (pv_lt (A := (fun x => x ≠ b4)) lt9))) : z14_b0_0 = 0 ∨ g14_b0_0 ≠ b4))) Mw16 (tk1 ((pv_1 (A := (fun x => x ≠ b4)) f14_b0_0 (pv_1 (A := (fun x => x ≠ b4)) f13_b0_0 (pv_lt (A := (fun x => x ≠ b4)) lt9))) : z14_b0_0 = 0 ∨ g14_b0_0 ≠ b4)))
      have hb := bnd hm; clear hm; obtain ⟨x21, hx21, hm⟩ := hb
      refine sd_ev rfl rfl rfl (ev_call en_16 rfl (epoch_reader_number_w x20.2 2 _ _ _ _ _ _ hx21 _ B58 B59 ⟨(tk1 ((pv_1 (A := (fun x => x ≠ b2)) f14_b0_0 (pv_1 (A := (fun x => x ≠ b2)) f13_b0_0 (pv_1 (A := (fun x => x ≠ b2)) f3_b0_0 (pv_lt (A := (fun x => x ≠ b2)) lt1)))) : z14_b0_0 = 0 ∨ g14_b0_0 ≠ b2))⟩)) ?_
      rintro _ w17 ⟨u17_b0_0, z17_b0_0, g17_b0_0, o17_b0_0, rfl, O17_b0_0, f17_b0_0, Bk17_0, Kw17⟩
      have z60 := Kw17.size
      have lt61 := O17_b0_0.lth
      refine sd_vv rfl rfl rfl (vv_cvUI cv_23_3 rfl) ?_
      have hb := bnd hm; clear hm; obtain ⟨x22, hx22, hm⟩ := hb
      refine sd_ev rfl rfl rfl (ev_call en_18 rfl (epoch_reader_take_w x21.2 (w64 (un x21.1)) _ _ _ _ _ _ hx22 _ Bk17_0 O17_b0_0 ⟨(tk1 ((pv_1 (A := (fun x => x ≠ b2)) f17_b0_0 (pv_1 (A := (fun x => x ≠ b2)) f14_b0_0 (pv_1 (A := (fun x => x ≠ b2)) f13_b0_0 (pv_1 (A := (fun x => x ≠ b2)) f3_b0_0 (pv_lt (A := (fun x => x ≠ b2)) lt1))))) : z17_b0_0 = 0 ∨ g17_b0_0 ≠ b2))⟩)) ?_
      rintro u18_r0_s w18 ⟨_, z18_r0_s, g18_r0_s, o18_r0_s, u18_b0_0, z18_b0_0, g18_b0_0, o18_b0_0, rfl, O18_r0_s, f18_r0_s, O18_b0_0, f18_b0_0, Bk18_0, Kw18⟩
      have z62 := Kw18.size
      have lt63 := O18_r0_s.lth
      have lt64 := O18_b0_0.lth
      have hb := bnd hm; clear hm; obtain ⟨x23, hx23, hm⟩ := hb
      refine sd_ev rfl rfl rfl (ev_call en_17 rfl (slices_Clone_4733_w x22.1 _ _ _ _ _ hx23 _ O18_r0_s)) ?_
      rintro u19_r0_s w19 ⟨_, z19_r0_s, g19_r0_s, rfl, O19_r0_s, f19_r0_s, Gw19⟩
      have z65 := Gw19.size
      have lt66 := O19_r0_s.lth
      refine sd_vv rfl rfl rfl (vv_fieldAddr fa_31_5 rfl) ?_
      have B67 := (Bx.gr (Bx.kz (Bx.kz Bw16 Kw17) Kw18) Gw19)
      refine sd_ev rfl rfl rfl (ev_st1 (cs' := TPacket.cs (TPacket.mk (wd8 x1.1) 0 (THeader.mk [] 0#64 [] k0 k0) (wd8 x19.1) x20.1 x23 k0) (.slice none 0 0) (.slice none 0 0) u19_r0_s) (one_29).siz rfl rfl (Own.oneB O19_r0_s) B67 rfl rfl) ?_
      rintro _ w20 ⟨Bw20, Mw20⟩
      have z68 := Mw20.size
      refine sd_nil ?_
      have K_69 : Kz [(1, b2), (1, b4)] w5 w20 := (Kz.md (Kz.gr (Kz.kz (Kz.kz (Kz.md (Kz.md (Kz.kz (Kz.kz (Kz.refl _ _) Kw13) Kw14) Mw15) Mw16) Kw17) Kw18) Gw19) Mw20)
      have B70 := (Rd.md (Rd.gr O18_b0_0 Gw19) Mw20 (tk1 ((pv_1 (A := (fun x => x ≠ b4)) f18_b0_0 (pv_1 (A := (fun x => x ≠ b4)) f17_b0_0 (pv_1 (A := (fun x => x ≠ b4)) f14_b0_0 (pv_1 (A := (fun x => x ≠ b4)) f13_b0_0 (pv_lt (A := (fun x => x ≠ b4)) lt9))))) : z18_b0_0 = 0 ∨ g18_b0_0 ≠ b4)))
      have B71 := (Own.md O19_r0_s Mw20 (tk1 ((pv_0 (A := (fun x => x ≠ b4)) f19_r0_s) : z19_r0_s = 0 ∨ g19_r0_s ≠ b4)))
      have B72 := (Bx.md (Bx.gr Bk18_0 Gw19) Mw20)
      refine ⟨rfl, ⟨x22.2, 0, [], 0#64, [], k0, k0, wd8 x19.1, x20.1, x23, u18_b0_0, z18_b0_0, g18_b0_0, o18_b0_0, (.slice none 0 0), 0, 0, (.slice none 0 0), 0, 0, u19_r0_s, z19_r0_s, g19_r0_s⟩, ?_, hm, B70, ⟨(pv_1 (A := (fun x => (x = g3_b0_0 ∧ z3_b0_0 ≠ 0) ∨ w5.heap.size ≤ x)) f18_b0_0 (pv_1 (A := (fun x => (x = g3_b0_0 ∧ z3_b0_0 ≠ 0) ∨ w5.heap.size ≤ x)) f17_b0_0 (pv_1 (A := (fun x => (x = g3_b0_0 ∧ z3_b0_0 ≠ 0) ∨ w5.heap.size ≤ x)) f14_b0_0 (pv_1 (A := (fun x => (x = g3_b0_0 ∧ z3_b0_0 ≠ 0) ∨ w5.heap.size ≤ x)) f13_b0_0 tk0))))⟩, (own_nil _ 0 64 18), ⟨(.inl rfl)⟩, (own_nil _ 0 35 2), ⟨(.inl rfl)⟩, B71, ⟨(pv_0 (A := (fun x => w5.heap.size ≤ x)) f19_r0_s)⟩, ⟨(.inl rfl)⟩, ⟨(.inl rfl)⟩, ⟨(.inl rfl)⟩, ⟨(pv_0 (A := (fun x => z18_b0_0 = 0 ∨ x ≠ g18_b0_0)) f19_r0_s (fun x hx => (tk1 lt64.o)))⟩, ⟨(.inr (.inl rfl))⟩, ⟨(.inr (.inl rfl))⟩, B72, Bw20, K_69⟩
      repeat' first | exact trivial | refine ⟨rfl, ?_⟩
    ·
      replace hm := ite_f (of_decide_eq_false c4) hm
      refine sw_seq ?_
      -- region 6 bytes.go:138
      refine sw_region [(0, 0), (1, 0), (2, 0)] rfl rfl rfl ?_
      refine sd_vv rfl rfl rfl (vv_move rfl) ?_
      have B73 := (Bx.md (Bx.gr Bk3_0 Gw4) Mw5)
      have B74 := (Rd.md (Rd.gr O3_b0_0 Gw4) Mw5 (tk1 ((pv_lt (A := (fun x => x ≠ b4)) lt9) : z3_b0_0 = 0 ∨ g3_b0_0 ≠ b4)))
      have hb := bnd hm; clear hm; obtain ⟨x24, hx24, hm⟩ := hb
      refine sd_ev rfl rfl rfl (ev_call en_16 rfl (epoch_reader_number_w x1.2 8 _ _ _ _ _ _ hx24 _ B73 B74 ⟨(tk1 ((pv_1 (A := (fun x => x ≠ b2)) f3_b0_0 (pv_lt (A := (fun x => x ≠ b2)) lt1)) : z3_b0_0 = 0 ∨ g3_b0_0 ≠ b2))⟩)) ?_
      rintro _ w21 ⟨u21_b0_0, z21_b0_0, g21_b0_0, o21_b0_0, rfl, O21_b0_0, f21_b0_0, Bk21_0, Kw21⟩
      have z75 := Kw21.size
      have lt76 := O21_b0_0.lth
      refine sd_vv rfl rfl rfl (vv_assign rfl) ?_
      refine sd_done ?_
      refine sw_seq ?_
      refine sw_seq ?_
      -- region 7 bytes.go:139
      refine sw_region [(0, 0), (1, 0)] rfl rfl rfl ?_
      refine sd_vv rfl rfl rfl (vv_move rfl) ?_
      refine sd_vv rfl rfl rfl (vv_gtrU (c := x24.1) (d := 1099511627776#64) rfl rfl) ?_
      refine sd_done ?_
      refine sw_cond rfl (fun c5 => ?_) (fun c5 => ?_)
      ·
        replace hm := ite_t (of_decide_eq_true c5) hm
        refine sw_seq ?_
        -- region 8 bytes.go:140
        refine sw_region [(0, 0), (1, 0), (2, 0)] rfl rfl rfl ?_
        refine sd_vv rfl rfl rfl (vv_build (cs := TPacket.cs (TPacket.mk 0#8 0 (THeader.mk [] 0#64 [] k0 k0) 0#8 0#64 [] k0) (.slice none 0 0) (.slice none 0 0) (.slice none 0 0)) bs_31 rfl (by kernel_rfl)) ?_
        have B77 := (Bx.kz (Bx.md (Bx.gr (Bx.kz (Bx.gr Bw1 Gw2) Kw3) Gw4) Mw5) Kw21)
        refine sd_ev rfl rfl rfl (ev_stM (cs' := TPacket.cs (TPacket.mk 0#8 0 (THeader.mk [] 0#64 [] k0 k0) 0#8 0#64 [] k0) (.slice none 0 0) (.slice none 0 0) (.slice none 0 0)) (vs := TPacket.cs (TPacket.mk 0#8 0 (THeader.mk [] 0#64 [] k0 k0) 0#8 0#64 [] k0) (.slice none 0 0) (.slice none 0 0) (.slice none 0 0)) (agg_31).siz rfl rfl rfl rfl (TPacket.cs_ones _ _ _ _ rfl rfl rfl) B77 rfl rfl) ?_
        rintro _ w22 ⟨Bw22, Mw22⟩
        have z78 := Mw22.size
        refine sd_vv rfl rfl rfl (vv_assign rfl) ?_
        refine sd_done ?_
        refine sw_ret ?_
        refine then_r ?_
        refine then_r ?_
        have X79 : Gr w w22 := (Gr.md (Gr.kz X13 Kw21) Mw22)
        have hr := Option.some.inj hm
        subst hr
        refine ⟨_, _, rfl, res_2 rfl (rv_cellW agg_31 rfl Bw22 rfl) (rv_tmp rfl), ?_⟩
        exact ⟨(.slice none 0 0), 0, 0, (.slice none 0 0), 0, 0, (.slice none 0 0), 0, 0, rfl, (own_nil _ 0 64 18), ⟨.inl rfl⟩, (own_nil _ 0 35 2), ⟨.inl rfl⟩, (own_nil _ 0 5 1), ⟨.inl rfl⟩, ⟨(.inl rfl)⟩, ⟨(.inl rfl)⟩, ⟨(.inl rfl)⟩, X79⟩
      ·
        replace hm := ite_f (of_decide_eq_false c5) hm
        refine sw_skip ?_
        refine then_n ?_
        refine sw_seq ?_
        -- region 9 bytes.go:142
        refine sw_region [(0, 0), (1, 0), (2, 0), (3, 0)] rfl rfl rfl ?_
        refine sd_vv rfl rfl rfl (vv_move rfl) ?_
        refine sd_vv rfl rfl rfl (vv_cvUI cv_23_3 rfl) ?_
        refine sd_vv rfl rfl rfl (vv_fieldAddr fa_31_1 rfl) ?_
        have B80 := (Bx.kz Bw5 Kw21)
        refine sd_ev rfl rfl rfl (ev_st1 (cs' := TPacket.cs (TPacket.mk (wd8 x1.1) (w64 (un x24.1)) (THeader.mk [] 0#64 [] k0 k0) 0#8 0#64 [] k0) (.slice none 0 0) (.slice none 0 0) (.slice none 0 0)) (one_3).siz rfl rfl rfl B80 rfl rfl) ?_
        rintro _ w23 ⟨Bw23, Mw23⟩
        have z81 := Mw23.size
        refine sd_done ?_
        refine sw_seq ?_
        -- region 10 bytes.go:143
        refine sw_region [(0, 0), (1, 0), (2, 0), (3, 0), (4, 0), (5, 0), (6, 0)] rfl rfl rfl ?_
        refine sd_vv rfl rfl rfl (vv_move rfl) ?_
        refine sd_vv rfl rfl rfl (vv_move rfl) ?_
        refine sd_vv rfl rfl rfl (vv_makeFunc rfl rfl) ?_
        -- in place: headend/epoch.list[headend/api.Item]
        refine sd_inl 21 Try.func19 rfl rfl rfl en_19 rfl rfl rfl rfl rfl ?_
        refine sw_seq ?_
        -- region 0 bytes.go:119
        refine sw_region [(0, 0)] rfl rfl rfl ?_
        refine sd_vv rfl rfl rfl (vv_assign rfl) ?_
        refine sd_done ?_
        refine sw_seq ?_
        -- region 1 bytes.go:120
        refine sw_region [(0, 0)] rfl rfl rfl ?_
        refine sd_vv rfl rfl rfl (vv_assign rfl) ?_
        refine sd_done ?_
        refine sw_seq ?_
        refine sw_seq ?_
        -- region 2 bytes.go:121
        refine sw_region [(0, 0), (1, 0), (2, 0)] rfl rfl rfl ?_
        refine sd_vv rfl rfl rfl (vv_move rfl) ?_
        have B82 := (Bx.md Bk21_0 Mw23)
        have B83 := (Rd.md O21_b0_0 Mw23 (tk1 ((pv_1 (A := (fun x => x ≠ b4)) f21_b0_0 (pv_lt (A := (fun x => x ≠ b4)) lt9)) : z21_b0_0 = 0 ∨ g21_b0_0 ≠ b4)))
        have hb := bnd hm; clear hm; obtain ⟨x25, hx25, hm⟩ := hb
        refine sd_ev rfl rfl rfl (ev_call en_15 rfl (epoch_reader_small_w x24.2 _ _ _ _ _ _ hx25 _ B82 B83 ⟨(tk1 ((pv_1 (A := (fun x => x ≠ b2)) f21_b0_0 (pv_1 (A := (fun x => x ≠ b2)) f3_b0_0 (pv_lt (A := (fun x => x ≠ b2)) lt1))) : z21_b0_0 = 0 ∨ g21_b0_0 ≠ b2))⟩)) ?_
        rintro _ w24 ⟨u24_b0_0, z24_b0_0, g24_b0_0, o24_b0_0, rfl, O24_b0_0, f24_b0_0, Bk24_0, Kw24⟩
        have z84 := Kw24.size
        have lt85 := O24_b0_0.lth
        refine sd_vv rfl rfl rfl (vv_move rfl) ?_
        refine sd_done ?_
        refine sw_block ?_
        have X86 : Gr w w24 := (Gr.kz (Gr.md (Gr.kz X13 Kw21) Mw23) Kw24)
        have B87 := (Rd.kz (Rd.md (Rd.kz (Rd.md (Rd.gr (Rd.kz B7 Kw3 (tk1 ((pv_lt (A := (fun x => x ≠ b2)) lt1) : zp0 = 0 ∨ gp0 ≠ b2))) Gw4) Mw5 (tk1 ((pv_lt (A := (fun x => x ≠ b4)) lt1) : zp0 = 0 ∨ gp0 ≠ b4))) Kw21 (tk1 ((pv_lt (A := (fun x => x ≠ b2)) lt1) : zp0 = 0 ∨ gp0 ≠ b2))) Mw23 (tk1 ((pv_lt (A := (fun x => x ≠ b4)) lt1) : zp0 = 0 ∨ gp0 ≠ b4))) Kw24 (tk1 ((pv_lt (A := (fun x => x ≠ b2)) lt1) : zp0 = 0 ∨ gp0 ≠ b2)))
        have B88 := (Rd.kz (Rd.md (Rd.kz B74 Kw21 (tk1 ((pv_1 (A := (fun x => x ≠ b2)) f3_b0_0 (pv_lt (A := (fun x => x ≠ b2)) lt1)) : z3_b0_0 = 0 ∨ g3_b0_0 ≠ b2))) Mw23 (tk1 ((pv_lt (A := (fun x => x ≠ b4)) lt9) : z3_b0_0 = 0 ∨ g3_b0_0 ≠ b4))) Kw24 (tk1 ((pv_1 (A := (fun x => x ≠ b2)) f3_b0_0 (pv_lt (A := (fun x => x ≠ b2)) lt1)) : z3_b0_0 = 0 ∨ g3_b0_0 ≠ b2)))
        have B89 := (Rd.kz B83 Kw24 (tk1 ((pv_1 (A := (fun x => x ≠ b2)) f21_b0_0 (pv_1 (A := (fun x => x ≠ b2)) f3_b0_0 (pv_lt (A := (fun x => x ≠ b2)) lt1))) : z21_b0_0 = 0 ∨ g21_b0_0 ≠ b2)))
        refine sw_loopD (α := Nat × List TItem × Int × Tepoch_reader × Value × Nat × Nat × Value × Nat × Nat × Nat) [4, 5, 8, 9, 10, 11, 12, 13, 14, 15, 16, 17, 18, 19] (fun ⟨n3, a31, a33, a34, vy32, zy32, gy32, vy35, zy35, gy35, oy35⟩ => [(4, .slice none 0 0), (5, vy32), (8, .int .i64 a33)]) (fun ⟨n3, a31, a33, a34, vy32, zy32, gy32, vy35, zy35, gy35, oy35⟩ wr => (fixN (epoch_Decode_L3 x1 x24 x25) n3 (a31, a33, a34) = some r) ∧ Own wr zy32 gy32 64 18 vy32 (a31.map TItem.cs) ∧ Hdn (zy32 = 0 ∨ w24.heap.size ≤ gy32) ∧ Rd wr zy35 gy35 oy35 1 vy35 (a34.b.map bvc) ∧ Hdn (zy35 = 0 ∨ (gy35 = g24_b0_0 ∧ z24_b0_0 ≠ 0) ∨ w24.heap.size ≤ gy35) ∧ Hdn (zy35 = 0 ∨ zy32 = 0 ∨ gy35 ≠ gy32) ∧ Bx wr b2 55 (Tepoch_reader.cs a34 vy35) ∧ Kz [(1, b2)] w24 wr) (fun ⟨n3, a31, a33, a34, vy32, zy32, gy32, vy35, zy35, gy35, oy35⟩ => n3) ⟨FUEL, [], 0, x25.2, (.slice none 0 0), 0, 0, u24_b0_0, z24_b0_0, g24_b0_0, o24_b0_0⟩ ?_ ?_ ?_
        · repeat' first | exact trivial | refine ⟨rfl, ?_⟩
        · exact ⟨hm, (own_nil _ 0 64 18), ⟨(.inl rfl)⟩, O24_b0_0, ⟨tk0⟩, ⟨(.inr (.inl rfl))⟩, Bk24_0, Kz.refl _ _⟩
        · clear hm; rintro ⟨n3, a31, a33, a34, vy32, zy32, gy32, vy35, zy35, gy35, oy35⟩ w25 ⟨hm, Fw25_0, Fw25_1, Fw25_2, Fw25_3, Fw25_4, Fw25_5, Kw25⟩
          have z90 := Kw25.size
          have lt91 := Fw25_0.lth
          have lt92 := Fw25_2.lth
          have lt93 := Fw25_5.lt
          have hb := fix_succ hm; clear hm; obtain ⟨n3, rfl, hm⟩ := hb
          generalize hrec3 : fixN (epoch_Decode_L3 x1 x24 x25) n3 = rec3 at hm
          unfold epoch_Decode_L3 at hm
          try dsimp only at hm
          refine sw_seq ?_
          -- region 3 bytes.go:121
          refine sw_region [(0, 0)] rfl rfl rfl ?_
          refine sd_vv rfl rfl rfl (vv_lss (a := a33) (b := x25.1) rfl rfl) ?_
          refine sd_done ?_
          refine sw_seq ?_
          refine sw_cond rfl (fun c6 => ?_) (fun c6 => ?_)
          ·
            replace hm := ite_t (of_decide_eq_true c6) hm
            refine sw_skip ?_
            refine then_n ?_
            refine sw_seq ?_
            refine sw_block ?_
            refine sw_seq ?_
            refine sw_seq ?_
            -- region 4 bytes.go:122
            refine sw_region [(0, 0), (1, 0), (2, 0), (3, 0)] rfl rfl rfl ?_
            refine sd_vv rfl rfl rfl (vv_move rfl) ?_
            refine sd_vv rfl rfl rfl (vv_nilCheck rfl rfl) ?_
            refine sd_vv rfl rfl rfl (vv_fieldAddr fa_55_1 rfl) ?_
            refine sd_vv rfl rfl rfl (vv_load1 (v := .bool a34.short) one_4 rfl Fw25_5 rfl) ?_
            refine sd_done ?_
            refine sw_cond rfl (fun c7 => ?_) (fun c7 => ?_)
            ·
              replace hm := cnd_t c7 hm
              refine sw_seq ?_
              -- region 5 bytes.go:123
              refine sw_region [(0, 0)] rfl rfl rfl ?_
              refine sd_vv rfl rfl rfl (vv_assign rfl) ?_
              refine sd_done ?_
              refine sw_ret ?_
              refine then_r ?_
              refine block_r ?_
              refine then_r ?_
              refine then_r ?_
              refine block_r ?_
              refine then_r ?_
              refine ⟨_, _, rfl, res_1 rfl (rv_tmp rfl), ?_⟩
              refine sd_vv rfl rfl rfl (vv_fieldAddr fa_31_2 rfl) ?_
              refine sd_vv rfl rfl rfl (vv_fieldAddr fa_28_0 rfl) ?_
              have B94 := (Bx.kz (Bx.kz Bw23 Kw24) Kw25)
              refine sd_ev rfl rfl rfl (ev_st1 (cs' := TPacket.cs (TPacket.mk (wd8 x1.1) (w64 (un x24.1)) (THeader.mk [] 0#64 [] k0 k0) 0#8 0#64 [] k0) (.slice none 0 0) (.slice none 0 0) (.slice none 0 0)) (one_22).siz rfl rfl rfl B94 rfl rfl) ?_
              rintro _ w26 ⟨Bw26, Mw26⟩
              have z95 := Mw26.size
              refine sd_done ?_
              refine sw_seq ?_
              -- region 11 bytes.go:144
              refine sw_region [(0, 0), (1, 0), (2, 0), (3, 0), (4, 0)] rfl rfl rfl ?_
              refine sd_vv rfl rfl rfl (vv_move rfl) ?_
              have B96 := (Bx.md Fw25_5 Mw26)
              have B97 := (Rd.md Fw25_2 Mw26 (tk1 ((pv_1 (A := (fun x => x ≠ b4)) Fw25_3 (pv_1 (A := (fun x => x ≠ b4)) f24_b0_0 (pv_1 (A := (fun x => x ≠ b4)) f21_b0_0 (pv_lt (A := (fun x => x ≠ b4)) lt9)))) : zy35 = 0 ∨ gy35 ≠ b4)))
              have hb := bnd hm; clear hm; obtain ⟨x36, hx36, hm⟩ := hb
              refine sd_ev rfl rfl rfl (ev_call en_16 rfl (epoch_reader_number_w a34 8 _ _ _ _ _ _ hx36 _ B96 B97 ⟨(tk1 ((pv_1 (A := (fun x => x ≠ b2)) Fw25_3 (pv_1 (A := (fun x => x ≠ b2)) f24_b0_0 (pv_1 (A := (fun x => x ≠ b2)) f21_b0_0 (pv_1 (A := (fun x => x ≠ b2)) f3_b0_0 (pv_lt (A := (fun x => x ≠ b2)) lt1))))) : zy35 = 0 ∨ gy35 ≠ b2))⟩)) ?_
              rintro _ w27 ⟨u27_b0_0, z27_b0_0, g27_b0_0, o27_b0_0, rfl, O27_b0_0, f27_b0_0, Bk27_0, Kw27⟩
              have z98 := Kw27.size
              have lt99 := O27_b0_0.lth
              refine sd_vv rfl rfl rfl (vv_fieldAddr fa_31_2 rfl) ?_
              refine sd_vv rfl rfl rfl (vv_fieldAddr fa_28_1 rfl) ?_
              have B100 := (Bx.kz Bw26 Kw27)
              refine sd_ev rfl rfl rfl (ev_st1 (cs' := TPacket.cs (TPacket.mk (wd8 x1.1) (w64 (un x24.1)) (THeader.mk [] x36.1 [] k0 k0) 0#8 0#64 [] k0) (.slice none 0 0) (.slice none 0 0) (.slice none 0 0)) (one_23).siz rfl rfl rfl B100 rfl rfl) ?_
              rintro _ w28 ⟨Bw28, Mw28⟩
              have z101 := Mw28.size
              refine sd_done ?_
              refine sw_seq ?_
              -- region 12 bytes.go:145
              refine sw_region [(0, 0), (1, 0), (2, 0), (3, 0), (4, 0), (5, 0), (6, 0)] rfl rfl rfl ?_
              refine sd_vv rfl rfl rfl (vv_move rfl) ?_
              refine sd_vv rfl rfl rfl (vv_move rfl) ?_
              refine sd_vv rfl rfl rfl (vv_makeFunc rfl rfl) ?_
              -- in place: headend/epoch.list[headend/api.Point]
              refine sd_inl 21 Try.func21 rfl rfl rfl en_21 rfl rfl rfl rfl rfl ?_
              refine sw_seq ?_
              -- region 0 bytes.go:119
              refine sw_region [(0, 0)] rfl rfl rfl ?_
              refine sd_vv rfl rfl rfl (vv_assign rfl) ?_
              refine sd_done ?_
              refine sw_seq ?_
              -- region 1 bytes.go:120
              refine sw_region [(0, 0)] rfl rfl rfl ?_
              refine sd_vv rfl rfl rfl (vv_assign rfl) ?_
              refine sd_done ?_
              refine sw_seq ?_
              refine sw_seq ?_
              -- region 2 bytes.go:121
              refine sw_region [(0, 0), (1, 0), (2, 0)] rfl rfl rfl ?_
              refine sd_vv rfl rfl rfl (vv_move rfl) ?_
              have B102 := (Bx.md Bk27_0 Mw28)
              have B103 := (Rd.md O27_b0_0 Mw28 (tk1 ((pv_1 (A := (fun x => x ≠ b4)) f27_b0_0 (pv_1 (A := (fun x => x ≠ b4)) Fw25_3 (pv_1 (A := (fun x => x ≠ b4)) f24_b0_0 (pv_1 (A := (fun x => x ≠ b4)) f21_b0_0 (pv_lt (A := (fun x => x ≠ b4)) lt9))))) : z27_b0_0 = 0 ∨ g27_b0_0 ≠ b4)))
              have hb := bnd hm; clear hm; obtain ⟨x37, hx37, hm⟩ := hb
              refine sd_ev rfl rfl rfl (ev_call en_15 rfl (epoch_reader_small_w x36.2 _ _ _ _ _ _ hx37 _ B102 B103 ⟨(tk1 ((pv_1 (A := (fun x => x ≠ b2)) f27_b0_0 (pv_1 (A := (fun x => x ≠ b2)) Fw25_3 (pv_1 (A := (fun x => x ≠ b2)) f24_b0_0 (pv_1 (A := (fun x => x ≠ b2)) f21_b0_0 (pv_1 (A := (fun x => x ≠ b2)) f3_b0_0 (pv_lt (A := (fun x => x ≠ b2)) lt1)))))) : z27_b0_0 = 0 ∨ g27_b0_0 ≠ b2))⟩)) ?_
              rintro _ w29 ⟨u29_b0_0, z29_b0_0, g29_b0_0, o29_b0_0, rfl, O29_b0_0, f29_b0_0, Bk29_0, Kw29⟩
              have z104 := Kw29.size
              have lt105 := O29_b0_0.lth
              refine sd_vv rfl rfl rfl (vv_move rfl) ?_
              refine sd_done ?_
              refine sw_block ?_
              have X106 : Gr w w29 := (Gr.kz (Gr.md (Gr.kz (Gr.md (Gr.kz X86 Kw25) Mw26) Kw27) Mw28) Kw29)
              have B107 := (Rd.kz (Rd.md (Rd.kz (Rd.md (Rd.kz B87 Kw25 (tk1 ((pv_lt (A := (fun x => x ≠ b2)) lt1) : zp0 = 0 ∨ gp0 ≠ b2))) Mw26 (tk1 ((pv_lt (A := (fun x => x ≠ b4)) lt1) : zp0 = 0 ∨ gp0 ≠ b4))) Kw27 (tk1 ((pv_lt (A := (fun x => x ≠ b2)) lt1) : zp0 = 0 ∨ gp0 ≠ b2))) Mw28 (tk1 ((pv_lt (A := (fun x => x ≠ b4)) lt1) : zp0 = 0 ∨ gp0 ≠ b4))) Kw29 (tk1 ((pv_lt (A := (fun x => x ≠ b2)) lt1) : zp0 = 0 ∨ gp0 ≠ b2)))
              have B108 := (Rd.kz (Rd.md (Rd.kz (Rd.md (Rd.kz B88 Kw25 (tk1 ((pv_1 (A := (fun x => x ≠ b2)) f3_b0_0 (pv_lt (A := (fun x => x ≠ b2)) lt1)) : z3_b0_0 = 0 ∨ g3_b0_0 ≠ b2))) Mw26 (tk1 ((pv_lt (A := (fun x => x ≠ b4)) lt9) : z3_b0_0 = 0 ∨ g3_b0_0 ≠ b4))) Kw27 (tk1 ((pv_1 (A := (fun x => x ≠ b2)) f3_b0_0 (pv_lt (A := (fun x => x ≠ b2)) lt1)) : z3_b0_0 = 0 ∨ g3_b0_0 ≠ b2))) Mw28 (tk1 ((pv_lt (A := (fun x => x ≠ b4)) lt9) : z3_b0_0 = 0 ∨ g3_b0_0 ≠ b4))) Kw29 (tk1 ((pv_1 (A := (fun x => x ≠ b2)) f3_b0_0 (pv_lt (A := (fun x => x ≠ b2)) lt1)) : z3_b0_0 = 0 ∨ g3_b0_0 ≠ b2)))
              have B109 := (Rd.kz (Rd.md (Rd.kz (Rd.md (Rd.kz B89 Kw25 (tk1 ((pv_1 (A := (fun x => x ≠ b2)) f21_b0_0 (pv_1 (A := (fun x => x ≠ b2)) f3_b0_0 (pv_lt (A := (fun x => x ≠ b2)) lt1))) : z21_b0_0 = 0 ∨ g21_b0_0 ≠ b2))) Mw26 (tk1 ((pv_1 (A := (fun x => x ≠ b4)) f21_b0_0 (pv_lt (A := (fun x => x ≠ b4)) lt9)) : z21_b0_0 = 0 ∨ g21_b0_0 ≠ b4))) Kw27 (tk1 ((pv_1 (A := (fun x => x ≠ b2)) f21_b0_0 (pv_1 (A := (fun x => x ≠ b2)) f3_b0_0 (pv_lt (A := (fun x => x ≠ b2)) lt1))) : z21_b0_0 = 0 ∨ g21_b0_0 ≠ b2))) Mw28 (tk1 ((pv_1 (A := (fun x => x ≠ b4)) f21_b0_0 (pv_lt (A := (fun x => x ≠ b4)) lt9)) : z21_b0_0 = 0 ∨ g21_b0_0 ≠ b4))) Kw29 (tk1 ((pv_1 (A := (fun x => x ≠ b2)) f21_b0_0 (pv_1 (A := (fun x => x ≠ b2)) f3_b0_0 (pv_lt (A := (fun x => x ≠ b2)) lt1))) : z21_b0_0 = 0 ∨ g21_b0_0 ≠ b2)))
              have B110 := (Rd.kz (Rd.md (Rd.kz (Rd.md (Rd.kz O24_b0_0 Kw25 (tk1 ((pv_1 (A := (fun x => x ≠ b2)) f24_b0_0 (pv_1 (A := (fun x => x ≠ b2)) f21_b0_0 (pv_1 (A := (fun x => x ≠ b2)) f3_b0_0 (pv_lt (A := (fun x => x ≠ b2)) lt1)))) : z24_b0_0 = 0 ∨ g24_b0_0 ≠ b2))) Mw26 (tk1 ((pv_1 (A := (fun x => x ≠ b4)) f24_b0_0 (pv_1 (A := (fun x => x ≠ b4)) f21_b0_0 (pv_lt (A := (fun x => x ≠ b4)) lt9))) : z24_b0_0 = 0 ∨ g24_b0_0 ≠ b4))) Kw27 (tk1 ((pv_1 (A := (fun x => x ≠ b2)) f24_b0_0 (pv_1 (A := (fun x => x ≠ b2)) f21_b0_0 (pv_1 (A := (fun x => x ≠ b2)) f3_b0_0 (pv_lt (A := (fun x => x ≠ b2)) lt1)))) : z24_b0_0 = 0 ∨ g24_b0_0 ≠ b2))) Mw28 (tk1 ((pv_1 (A := (fun x => x ≠ b4)) f24_b0_0 (pv_1 (A := (fun x => x ≠ b4)) f21_b0_0 (pv_lt (A := (fun x => x ≠ b4)) lt9))) : z24_b0_0 = 0 ∨ g24_b0_0 ≠ b4))) Kw29 (tk1 ((pv_1 (A := (fun x => x ≠ b2)) f24_b0_0 (pv_1 (A := (fun x => x ≠ b2)) f21_b0_0 (pv_1 (A := (fun x => x ≠ b2)) f3_b0_0 (pv_lt (A := (fun x => x ≠ b2)) lt1)))) : z24_b0_0 = 0 ∨ g24_b0_0 ≠ b2)))
              have B111 := (Own.kz (Own.md (Own.kz (Own.md Fw25_0 Mw26 (tk1 ((pv_0 (A := (fun x => x ≠ b4)) Fw25_1) : zy32 = 0 ∨ gy32 ≠ b4))) Kw27 (tk1 ((pv_0 (A := (fun x => x ≠ b2)) Fw25_1) : zy32 = 0 ∨ gy32 ≠ b2))) Mw28 (tk1 ((pv_0 (A := (fun x => x ≠ b4)) Fw25_1) : zy32 = 0 ∨ gy32 ≠ b4))) Kw29 (tk1 ((pv_0 (A := (fun x => x ≠ b2)) Fw25_1) : zy32 = 0 ∨ gy32 ≠ b2)))
              have B112 := (Rd.kz (Rd.md (Rd.kz B97 Kw27 (tk1 ((pv_1 (A := (fun x => x ≠ b2)) Fw25_3 (pv_1 (A := (fun x => x ≠ b2)) f24_b0_0 (pv_1 (A := (fun x => x ≠ b2)) f21_b0_0 (pv_1 (A := (fun x => x ≠ b2)) f3_b0_0 (pv_lt (A := (fun x => x ≠ b2)) lt1))))) : zy35 = 0 ∨ gy35 ≠ b2))) Mw28 (tk1 ((pv_1 (A := (fun x => x ≠ b4)) Fw25_3 (pv_1 (A := (fun x => x ≠ b4)) f24_b0_0 (pv_1 (A := (fun x => x ≠ b4)) f21_b0_0 (pv_lt (A := (fun x => x ≠ b4)) lt9)))) : zy35 = 0 ∨ gy35 ≠ b4))) Kw29 (tk1 ((pv_1 (A := (fun x => x ≠ b2)) Fw25_3 (pv_1 (A := (fun x => x ≠ b2)) f24_b0_0 (pv_1 (A := (fun x => x ≠ b2)) f21_b0_0 (pv_1 (A := (fun x => x ≠ b2)) f3_b0_0 (pv_lt (A := (fun x => x ≠ b2)) lt1))))) : zy35 = 0 ∨ gy35 ≠ b2)))
              have B113 := (Rd.kz B103 Kw29 (tk1 ((pv_1 (A := (fun x => x ≠ b2)) f27_b0_0 (pv_1 (A := (fun x => x ≠ b2)) Fw25_3 (pv_1 (A := (fun x => x ≠ b2)) f24_b0_0 (pv_1 (A := (fun x => x ≠ b2)) f21_b0_0 (pv_1 (A := (fun x => x ≠ b2)) f3_b0_0 (pv_lt (A := (fun x => x ≠ b2)) lt1)))))) : z27_b0_0 = 0 ∨ g27_b0_0 ≠ b2)))
              refine sw_loopD (α := Nat × List TPoint × Int × Tepoch_reader × Value × Nat × Nat × Value × Nat × Nat × Nat) [4, 5, 8, 9, 10, 11, 12, 13, 14, 15, 16, 17, 18, 19] (fun ⟨n4, a43, a45, a46, vy44, zy44, gy44, vy47, zy47, gy47, oy47⟩ => [(4, .slice none 0 0), (5, vy44), (8, .int .i64 a45)]) (fun ⟨n4, a43, a45, a46, vy44, zy44, gy44, vy47, zy47, gy47, oy47⟩ wr => (fixN (epoch_Decode_L4 x1 x24 x36 x37) n4 (a43, a45, a46) = some r) ∧ Own wr zy44 gy44 35 2 vy44 (a43.map TPoint.cs) ∧ Hdn (zy44 = 0 ∨ w29.heap.size ≤ gy44) ∧ Rd wr zy47 gy47 oy47 1 vy47 (a46.b.map bvc) ∧ Hdn (zy47 = 0 ∨ (gy47 = g29_b0_0 ∧ z29_b0_0 ≠ 0) ∨ w29.heap.size ≤ gy47) ∧ Hdn (zy47 = 0 ∨ zy44 = 0 ∨ gy47 ≠ gy44) ∧ Bx wr b2 55 (Tepoch_reader.cs a46 vy47) ∧ Kz [(1, b2)] w29 wr) (fun ⟨n4, a43, a45, a46, vy44, zy44, gy44, vy47, zy47, gy47, oy47⟩ => n4) ⟨FUEL, [], 0, x37.2, (.slice none 0 0), 0, 0, u29_b0_0, z29_b0_0, g29_b0_0, o29_b0_0⟩ ?_ ?_ ?_
              · repeat' first | exact trivial | refine ⟨rfl, ?_⟩
              · exact ⟨hm, (own_nil _ 0 35 2), ⟨(.inl rfl)⟩, O29_b0_0, ⟨tk0⟩, ⟨(.inr (.inl rfl))⟩, Bk29_0, Kz.refl _ _⟩
              · clear hm; rintro ⟨n4, a43, a45, a46, vy44, zy44, gy44, vy47, zy47, gy47, oy47⟩ w30 ⟨hm, Fw30_0, Fw30_1, Fw30_2, Fw30_3, Fw30_4, Fw30_5, Kw30⟩
                have z114 := Kw30.size
                have lt115 := Fw30_0.lth
                have lt116 := Fw30_2.lth
                have lt117 := Fw30_5.lt
                have hb := fix_succ hm; clear hm; obtain ⟨n4, rfl, hm⟩ := hb
                generalize hrec4 : fixN (epoch_Decode_L4 x1 x24 x36 x37) n4 = rec4 at hm
                unfold epoch_Decode_L4 at hm
                try dsimp only at hm
                refine sw_seq ?_
                -- region 3 bytes.go:121
                refine sw_region [(0, 0)] rfl rfl rfl ?_
                refine sd_vv rfl rfl rfl (vv_lss (a := a45) (b := x37.1) rfl rfl) ?_
                refine sd_done ?_
                refine sw_seq ?_
                refine sw_cond rfl (fun c8 => ?_) (fun c8 => ?_)
                ·
                  replace hm := ite_t (of_decide_eq_true c8) hm
                  refine sw_skip ?_
                  refine then_n ?_
                  refine sw_seq ?_
                  refine sw_block ?_
                  refine sw_seq ?_
                  refine sw_seq ?_
                  -- region 4 bytes.go:122
                  refine sw_region [(0, 0), (1, 0), (2, 0), (3, 0)] rfl rfl rfl ?_
                  refine sd_vv rfl rfl rfl (vv_move rfl) ?_
                  refine sd_vv rfl rfl rfl (vv_nilCheck rfl rfl) ?_
                  refine sd_vv rfl rfl rfl (vv_fieldAddr fa_55_1 rfl) ?_
                  refine sd_vv rfl rfl rfl (vv_load1 (v := .bool a46.short) one_4 rfl Fw30_5 rfl) ?_
                  refine sd_done ?_
                  refine sw_cond rfl (fun c9 => ?_) (fun c9 => ?_)
                  ·
                    replace hm := cnd_t c9 hm
                    refine sw_seq ?_
                    -- region 5 bytes.go:123
                    refine sw_region [(0, 0)] rfl rfl rfl ?_
                    refine sd_vv rfl rfl rfl (vv_assign rfl) ?_
                    refine sd_done ?_
                    refine sw_ret ?_
                    refine then_r ?_
                    refine block_r ?_
                    refine then_r ?_
                    refine then_r ?_
                    refine block_r ?_
                    refine then_r ?_
                    refine ⟨_, _, rfl, res_1 rfl (rv_tmp rfl), ?_⟩
                    refine sd_vv rfl rfl rfl (vv_fieldAddr fa_31_2 rfl) ?_
                    refine sd_vv rfl rfl rfl (vv_fieldAddr fa_28_2 rfl) ?_
                    have B118 := (Bx.kz (Bx.kz Bw28 Kw29) Kw30)
                    refine sd_ev rfl rfl rfl (ev_st1 (cs' := TPacket.cs (TPacket.mk (wd8 x1.1) (w64 (un x24.1)) (THeader.mk [] x36.1 [] k0 k0) 0#8 0#64 [] k0) (.slice none 0 0) (.slice none 0 0) (.slice none 0 0)) (one_24).siz rfl rfl rfl B118 rfl rfl) ?_
                    rintro _ w31 ⟨Bw31, Mw31⟩
                    have z119 := Mw31.size
                    refine sd_done ?_
                    -- region 13 bytes.go:146
                    refine sw_region [(0, 0), (1, 0), (2, 0), (3, 0), (4, 0), (5, 0), (6, 0), (7, 0), (8, 0), (9, 0)] rfl rfl rfl ?_
                    refine sd_vv rfl rfl rfl (vv_move rfl) ?_
                    have B120 := (Bx.md Fw30_5 Mw31)
                    have B121 := (Rd.md Fw30_2 Mw31 (tk1 ((pv_1 (A := (fun x => x ≠ b4)) Fw30_3 (pv_1 (A := (fun x => x ≠ b4)) f29_b0_0 (pv_1 (A := (fun x => x ≠ b4)) f27_b0_0 (pv_1 (A := (fun x => x ≠ b4)) Fw25_3 (pv_1 (A := (fun x => x ≠ b4)) f24_b0_0 (pv_1 (A := (fun x => x ≠ b4)) f21_b0_0 (pv_lt (A := (fun x => x ≠ b4)) lt9))))))) : zy47 = 0 ∨ gy47 ≠ b4)))
                    have hb := bnd hm; clear hm; obtain ⟨x48, hx48, hm⟩ := hb
                    refine sd_ev rfl rfl rfl (ev_call en_23 rfl (epoch_reader_key_w a46 _ _ _ _ _ _ hx48 _ B120 B121 ⟨(tk1 ((pv_1 (A := (fun x => x ≠ b2)) Fw30_3 (pv_1 (A := (fun x => x ≠ b2)) f29_b0_0 (pv_1 (A := (fun x => x ≠ b2)) f27_b0_0 (pv_1 (A := (fun x => x ≠ b2)) Fw25_3 (pv_1 (A := (fun x => x ≠ b2)) f24_b0_0 (pv_1 (A := (fun x => x ≠ b2)) f21_b0_0 (pv_1 (A := (fun x => x ≠ b2)) f3_b0_0 (pv_lt (A := (fun x => x ≠ b2)) lt1)))))))) : zy47 = 0 ∨ gy47 ≠ b2))⟩)) ?_
                    rintro _ w32 ⟨u32_b0_0, z32_b0_0, g32_b0_0, o32_b0_0, rfl, O32_b0_0, f32_b0_0, Bk32_0, Kw32⟩
                    have z122 := Kw32.size
                    have lt123 := O32_b0_0.lth
                    refine sd_vv rfl rfl rfl (vv_move rfl) ?_
                    have hb := bnd hm; clear hm; obtain ⟨x49, hx49, hm⟩ := hb
                    refine sd_ev rfl rfl rfl (ev_call en_23 rfl (epoch_reader_key_w x48.2 _ _ _ _ _ _ hx49 _ Bk32_0 O32_b0_0 ⟨(tk1 ((pv_1 (A := (fun x => x ≠ b2)) f32_b0_0 (pv_1 (A := (fun x => x ≠ b2)) Fw30_3 (pv_1 (A := (fun x => x ≠ b2)) f29_b0_0 (pv_1 (A := (fun x => x ≠ b2)) f27_b0_0 (pv_1 (A := (fun x => x ≠ b2)) Fw25_3 (pv_1 (A := (fun x => x ≠ b2)) f24_b0_0 (pv_1 (A := (fun x => x ≠ b2)) f21_b0_0 (pv_1 (A := (fun x => x ≠ b2)) f3_b0_0 (pv_lt (A := (fun x => x ≠ b2)) lt1))))))))) : z32_b0_0 = 0 ∨ g32_b0_0 ≠ b2))⟩)) ?_
                    rintro _ w33 ⟨u33_b0_0, z33_b0_0, g33_b0_0, o33_b0_0, rfl, O33_b0_0, f33_b0_0, Bk33_0, Kw33⟩
                    have z124 := Kw33.size
                    have lt125 := O33_b0_0.lth
                    refine sd_vv rfl rfl rfl (vv_fieldAddr fa_31_2 rfl) ?_
                    refine sd_vv rfl rfl rfl (vv_fieldAddr fa_28_3 rfl) ?_
                    have B126 := (Bx.kz (Bx.kz Bw31 Kw32) Kw33)
                    refine sd_ev rfl rfl rfl (ev_stM (cs' := TPacket.cs (TPacket.mk (wd8 x1.1) (w64 (un x24.1)) (THeader.mk [] x36.1 [] x48.1 k0) 0#8 0#64 [] k0) (.slice none 0 0) (.slice none 0 0) (.slice none 0 0)) (vs := kb x48.1) (agg_26).siz rfl rfl rfl rfl rfl B126 rfl rfl) ?_
                    rintro _ w34 ⟨Bw34, Mw34⟩
                    have z127 := Mw34.size
                    refine sd_vv rfl rfl rfl (vv_fieldAddr fa_31_2 rfl) ?_
                    refine sd_vv rfl rfl rfl (vv_fieldAddr fa_28_4 rfl) ?_
                    refine sd_ev rfl rfl rfl (ev_stM (cs' := TPacket.cs (TPacket.mk (wd8 x1.1) (w64 (un x24.1)) (THeader.mk [] x36.1 [] x48.1 x49.1) 0#8 0#64 [] k0) (.slice none 0 0) (.slice none 0 0) (.slice none 0 0)) (vs := kb x49.1) (agg_26).siz rfl rfl rfl rfl rfl Bw34 rfl rfl) ?_
                    rintro _ w35 ⟨Bw35, Mw35⟩
                    have z128 := Mw35.size
                    refine sd_nil ?_
                    have K_129 : Kz [(1, b2), (1, b4)] w5 w35 := (Kz.md (Kz.md (Kz.kz (Kz.kz (Kz.md (Kz.kz (Kz.kz (Kz.md (Kz.kz (Kz.md (Kz.kz (Kz.kz (Kz.md (Kz.kz (Kz.refl _ _) Kw21) Mw23) Kw24) Kw25) Mw26) Kw27) Mw28) Kw29) Kw30) Mw31) Kw32) Kw33) Mw34) Mw35)
                    have B130 := (Rd.md (Rd.md O33_b0_0 Mw34 (tk1 ((pv_1 (A := (fun x => x ≠ b4)) f33_b0_0 (pv_1 (A := (fun x => x ≠ b4)) f32_b0_0 (pv_1 (A := (fun x => x ≠ b4)) Fw30_3 (pv_1 (A := (fun x => x ≠ b4)) f29_b0_0 (pv_1 (A := (fun x => x ≠ b4)) f27_b0_0 (pv_1 (A := (fun x => x ≠ b4)) Fw25_3 (pv_1 (A := (fun x => x ≠ b4)) f24_b0_0 (pv_1 (A := (fun x => x ≠ b4)) f21_b0_0 (pv_lt (A := (fun x => x ≠ b4)) lt9))))))))) : z33_b0_0 = 0 ∨ g33_b0_0 ≠ b4))) Mw35 (tk1 ((pv_1 (A := (fun x => x ≠ b4)) f33_b0_0 (pv_1 (A := (fun x => x ≠ b4)) f32_b0_0 (pv_1 (A := (fun x => x ≠ b4)) Fw30_3 (pv_1 (A := (fun x => x ≠ b4)) f29_b0_0 (pv_1 (A := (fun x => x ≠ b4)) f27_b0_0 (pv_1 (A := (fun x => x ≠ b4)) Fw25_3 (pv_1 (A := (fun x => x ≠ b4)) f24_b0_0 (pv_1 (A := (fun x => x ≠ b4)) f21_b0_0 (pv_lt (A := (fun x => x ≠ b4)) lt9))))))))) : z33_b0_0 = 0 ∨ g33_b0_0 ≠ b4)))
                    have B131 := (Bx.md (Bx.md Bk33_0 Mw34) Mw35)
                    refine ⟨rfl, ⟨x49.2, w64 (un x24.1), [], x36.1, [], x48.1, x49.1, 0#8, 0#64, [], u33_b0_0, z33_b0_0, g33_b0_0, o33_b0_0, (.slice none 0 0), 0, 0, (.slice none 0 0), 0, 0, (.slice none 0 0), 0, 0⟩, ?_, hm, B130, ⟨(pv_1 (A := (fun x => (x = g3_b0_0 ∧ z3_b0_0 ≠ 0) ∨ w5.heap.size ≤ x)) f33_b0_0 (pv_1 (A := (fun x => (x = g3_b0_0 ∧ z3_b0_0 ≠ 0) ∨ w5.heap.size ≤ x)) f32_b0_0 (pv_1 (A := (fun x => (x = g3_b0_0 ∧ z3_b0_0 ≠ 0) ∨ w5.heap.size ≤ x)) Fw30_3 (pv_1 (A := (fun x => (x = g3_b0_0 ∧ z3_b0_0 ≠ 0) ∨ w5.heap.size ≤ x)) f29_b0_0 (pv_1 (A := (fun x => (x = g3_b0_0 ∧ z3_b0_0 ≠ 0) ∨ w5.heap.size ≤ x)) f27_b0_0 (pv_1 (A := (fun x => (x = g3_b0_0 ∧ z3_b0_0 ≠ 0) ∨ w5.heap.size ≤ x)) Fw25_3 (pv_1 (A := (fun x => (x = g3_b0_0 ∧ z3_b0_0 ≠ 0) ∨ w5.heap.size ≤ x)) f24_b0_0 (pv_1 (A := (fun x => (x = g3_b0_0 ∧ z3_b0_0 ≠ 0) ∨ w5.heap.size ≤ x)) f21_b0_0 tk0))))))))⟩, (own_nil _ 0 64 18), ⟨(.inl rfl)⟩, (own_nil _ 0 35 2), ⟨(.inl rfl)⟩, (own_nil _ 0 5 1), ⟨(.inl rfl)⟩, ⟨(.inl rfl)⟩, ⟨(.inl rfl)⟩, ⟨(.inl rfl)⟩, ⟨(.inl rfl)⟩, ⟨(.inl rfl)⟩, ⟨(.inl rfl)⟩, B131, Bw35, K_129⟩
                    repeat' first | exact trivial | refine ⟨rfl, ?_⟩
                  ·
                    replace hm := cnd_f c9 hm
                    refine sw_skip ?_
                    refine then_n ?_
                    -- region 6 bytes.go:125
                    refine sw_region [(0, 0), (1, 0), (2, 0), (3, 0), (4, 0), (5, 0)] rfl rfl rfl ?_
                    refine sd_vv rfl rfl rfl (vv_move rfl) ?_
                    refine sd_vv rfl rfl rfl (vv_move rfl) ?_
                    have hb := bnd hm; clear hm; obtain ⟨x50, hx50, hm⟩ := hb
                    refine sd_ev rfl rfl rfl (ev_callV en_22 rfl rfl (epoch_reader_point_w a46 _ _ _ _ _ _ hx50 _ Fw30_5 Fw30_2 ⟨(tk1 ((pv_1 (A := (fun x => x ≠ b2)) Fw30_3 (pv_1 (A := (fun x => x ≠ b2)) f29_b0_0 (pv_1 (A := (fun x => x ≠ b2)) f27_b0_0 (pv_1 (A := (fun x => x ≠ b2)) Fw25_3 (pv_1 (A := (fun x => x ≠ b2)) f24_b0_0 (pv_1 (A := (fun x => x ≠ b2)) f21_b0_0 (pv_1 (A := (fun x => x ≠ b2)) f3_b0_0 (pv_lt (A := (fun x => x ≠ b2)) lt1)))))))) : zy47 = 0 ∨ gy47 ≠ b2))⟩)) ?_
                    rintro _ w36 ⟨u36_b0_0, z36_b0_0, g36_b0_0, o36_b0_0, rfl, O36_b0_0, f36_b0_0, Bk36_0, Kw36⟩
                    have z132 := Kw36.size
                    have lt133 := O36_b0_0.lth
                    refine sd_ev rfl rfl rfl (ev_litT [x50.1] TPoint.cs bsl_24_1 rfl rfl (ws_of rfl) rfl rfl rfl) ?_
                    rintro vw37 w37 ⟨gw37, hbw37, Ow37, Gw37⟩
                    have z134 := Gw37.size
                    have lt135 := Ow37.lth
                    have B136 := (Own.gr (Own.kz Fw30_0 Kw36 (tk1 ((pv_0 (A := (fun x => x ≠ b2)) Fw30_1) : zy44 = 0 ∨ gy44 ≠ b2))) Gw37)
                    have hb := bnd hm; clear hm; obtain ⟨l51, hl51, hm⟩ := hb
                    refine sd_ev rfl rfl rfl (ev_appT (l := a43) (m := [x50.1]) (c := TPoint.cs) apt_24 rfl rfl B136 (Own.rd Ow37) hl51 (by decide)) ?_
                    rintro vw38 w38 ⟨zw38, gw38, Ow38, Aw38, qw38, rw38⟩
                    have z137 := Aw38.size
                    refine sd_vv rfl rfl rfl (vv_assign rfl) ?_
                    refine sd_nil ?_
                    refine block_n ?_
                    refine then_n ?_
                    -- region 7 bytes.go:121
                    refine sw_region [(0, 0), (1, 0)] rfl rfl rfl ?_
                    refine sd_vv rfl rfl rfl (vv_add (k := .i64) (a := a45) (b := 1) rfl rfl) ?_
                    refine sd_vv rfl rfl rfl (vv_move rfl) ?_
                    refine sd_nil ?_
                    have K_138 : Kz [(1, b2)] w29 w38 := (Kz.ka (Kz.gr (Kz.kz Kw30 Kw36) Gw37) Aw38 (tk1 ((pv_0 (A := (fun x => w29.heap.size ≤ x)) Fw30_1) : zy44 = 0 ∨ w29.heap.size ≤ gy44)))
                    have B139 := (Rd.ka (Rd.gr O36_b0_0 Gw37) Aw38 (tk1 ((pv_1 (A := (fun x => zy44 = 0 ∨ x ≠ gy44)) f36_b0_0 (tk1 Fw30_4.o) (fun x hx => (tk1 lt115.o))) : z36_b0_0 = 0 ∨ zy44 = 0 ∨ g36_b0_0 ≠ gy44)))
                    have B140 := (Bx.ka (Bx.gr Bk36_0 Gw37) Aw38 (tk1 ((pv_0 (A := (fun x => x ≠ b2)) Fw30_1) : zy44 = 0 ∨ gy44 ≠ b2)))
                    subst hrec4
                    refine ⟨rfl, ⟨n4, l51, w64 (a45 + 1), x50.2, vw38, zw38, gw38, u36_b0_0, z36_b0_0, g36_b0_0, o36_b0_0⟩, ?_, ⟨hm, Ow38, ⟨(pv_app (A := (fun x => w29.heap.size ≤ x)) rw38 (pv_0 (A := (fun x => w29.heap.size ≤ x)) Fw30_1))⟩, B139, ⟨(pv_1 (A := (fun x => (x = g29_b0_0 ∧ z29_b0_0 ≠ 0) ∨ w29.heap.size ≤ x)) f36_b0_0 (pv_1 (A := (fun x => (x = g29_b0_0 ∧ z29_b0_0 ≠ 0) ∨ w29.heap.size ≤ x)) Fw30_3 tk0))⟩, ⟨(pv_sw (pv_app (A := (fun x => z36_b0_0 = 0 ∨ x ≠ g36_b0_0)) rw38 (pv_sw (pv_1 (A := (fun x => zy44 = 0 ∨ x ≠ gy44)) f36_b0_0 (tk1 Fw30_4.o) (fun x hx => (tk1 lt115.o)))) (fun x hx => (tk1 lt133.o))))⟩, B140, K_138⟩, Nat.lt_succ_self _⟩
                    repeat' first | exact trivial | refine ⟨rfl, ?_⟩
                ·
                  replace hm := ite_f (of_decide_eq_false c8) hm
                  refine sw_exit ?_
                  refine then_x ?_
                  refine then_x ?_
                  refine block_x ?_
                  refine then_n ?_
                  refine sw_seq ?_
                  -- region 8 bytes.go:127
                  refine sw_region [(0, 0), (1, 0)] rfl rfl rfl ?_
                  refine sd_vv rfl rfl rfl (vv_move rfl) ?_
                  refine sd_vv rfl rfl rfl (vv_assign rfl) ?_
                  refine sd_done ?_
                  refine sw_ret ?_
                  refine ⟨_, _, rfl, res_1 rfl (rv_tmp rfl), ?_⟩
                  refine sd_vv rfl rfl rfl (vv_fieldAddr fa_31_2 rfl) ?_
                  refine sd_vv rfl rfl rfl (vv_fieldAddr fa_28_2 rfl) ?_
                  have B141 := (Bx.kz (Bx.kz Bw28 Kw29) Kw30)
                  refine sd_ev rfl rfl rfl (ev_st1 (cs' := TPacket.cs (TPacket.mk (wd8 x1.1) (w64 (un x24.1)) (THeader.mk [] x36.1 a43 k0 k0) 0#8 0#64 [] k0) (.slice none 0 0) vy44 (.slice none 0 0)) (one_24).siz rfl rfl (Own.oneB Fw30_0) B141 rfl rfl) ?_
                  rintro _ w39 ⟨Bw39, Mw39⟩
                  have z142 := Mw39.size
                  refine sd_done ?_
                  -- region 13 bytes.go:146
                  refine sw_region [(0, 0), (1, 0), (2, 0), (3, 0), (4, 0), (5, 0), (6, 0), (7, 0), (8, 0), (9, 0)] rfl rfl rfl ?_
                  refine sd_vv rfl rfl rfl (vv_move rfl) ?_
                  have B143 := (Bx.md Fw30_5 Mw39)
                  have B144 := (Rd.md Fw30_2 Mw39 (tk1 ((pv_1 (A := (fun x => x ≠ b4)) Fw30_3 (pv_1 (A := (fun x => x ≠ b4)) f29_b0_0 (pv_1 (A := (fun x => x ≠ b4)) f27_b0_0 (pv_1 (A := (fun x => x ≠ b4)) Fw25_3 (pv_1 (A := (fun x => x ≠ b4)) f24_b0_0 (pv_1 (A := (fun x => x ≠ b4)) f21_b0_0 (pv_lt (A := (fun x => x ≠ b4)) lt9))))))) : zy47 = 0 ∨ gy47 ≠ b4)))
                  have hb := bnd hm; clear hm; obtain ⟨x52, hx52, hm⟩ := hb
                  refine sd_ev rfl rfl rfl (ev_call en_23 rfl (epoch_reader_key_w a46 _ _ _ _ _ _ hx52 _ B143 B144 ⟨(tk1 ((pv_1 (A := (fun x => x ≠ b2)) Fw30_3 (pv_1 (A := (fun x => x ≠ b2)) f29_b0_0 (pv_1 (A := (fun x => x ≠ b2)) f27_b0_0 (pv_1 (A := (fun x => x ≠ b2)) Fw25_3 (pv_1 (A := (fun x => x ≠ b2)) f24_b0_0 (pv_1 (A := (fun x => x ≠ b2)) f21_b0_0 (pv_1 (A := (fun x => x ≠ b2)) f3_b0_0 (pv_lt (A := (fun x => x ≠ b2)) lt1)))))))) : zy47 = 0 ∨ gy47 ≠ b2))⟩)) ?_
                  rintro _ w40 ⟨u40_b0_0, z40_b0_0, g40_b0_0, o40_b0_0, rfl, O40_b0_0, f40_b0_0, Bk40_0, Kw40⟩
                  have z145 := Kw40.size
                  have lt146 := O40_b0_0.lth
                  refine sd_vv rfl rfl rfl (vv_move rfl) ?_
                  have hb := bnd hm; clear hm; obtain ⟨x53, hx53, hm⟩ := hb
                  refine sd_ev rfl rfl rfl (ev_call en_23 rfl (epoch_reader_key_w x52.2 _ _ _ _ _ _ hx53 _ Bk40_0 O40_b0_0 ⟨(tk1 ((pv_1 (A := (fun x => x ≠ b2)) f40_b0_0 (pv_1 (A := (fun x => x ≠ b2)) Fw30_3 (pv_1 (A := (fun x => x ≠ b2)) f29_b0_0 (pv_1 (A := (fun x => x ≠ b2)) f27_b0_0 (pv_1 (A := (fun x => x ≠ b2)) Fw25_3 (pv_1 (A := (fun x => x ≠ b2)) f24_b0_0 (pv_1 (A := (fun x => x ≠ b2)) f21_b0_0 (pv_1 (A := (fun x => x ≠ b2)) f3_b0_0 (pv_lt (A := (fun x => x ≠ b2)) lt1))))))))) : z40_b0_0 = 0 ∨ g40_b0_0 ≠ b2))⟩)) ?_
                  rintro _ w41 ⟨u41_b0_0, z41_b0_0, g41_b0_0, o41_b0_0, rfl, O41_b0_0, f41_b0_0, Bk41_0, Kw41⟩
                  have z147 := Kw41.size
                  have lt148 := O41_b0_0.lth
                  refine sd_vv rfl rfl rfl (vv_fieldAddr fa_31_2 rfl) ?_
                  refine sd_vv rfl rfl rfl (vv_fieldAddr fa_28_3 rfl) ?_
                  have B149 := (Bx.kz (Bx.kz Bw39 Kw40) Kw41)
                  refine sd_ev rfl rfl rfl (ev_stM (cs' := TPacket.cs (TPacket.mk (wd8 x1.1) (w64 (un x24.1)) (THeader.mk [] x36.1 a43 x52.1 k0) 0#8 0#64 [] k0) (.slice none 0 0) vy44 (.slice none 0 0)) (vs := kb x52.1) (agg_26).siz rfl rfl rfl rfl rfl B149 rfl rfl) ?_
                  rintro _ w42 ⟨Bw42, Mw42⟩
                  have z150 := Mw42.size
                  refine sd_vv rfl rfl rfl (vv_fieldAddr fa_31_2 rfl) ?_
                  refine sd_vv rfl rfl rfl (vv_fieldAddr fa_28_4 rfl) ?_
                  refine sd_ev rfl rfl rfl (ev_stM (cs' := TPacket.cs (TPacket.mk (wd8 x1.1) (w64 (un x24.1)) (THeader.mk [] x36.1 a43 x52.1 x53.1) 0#8 0#64 [] k0) (.slice none 0 0) vy44 (.slice none 0 0)) (vs := kb x53.1) (agg_26).siz rfl rfl rfl rfl rfl Bw42 rfl rfl) ?_
                  rintro _ w43 ⟨Bw43, Mw43⟩
                  have z151 := Mw43.size
                  refine sd_nil ?_
                  have K_152 : Kz [(1, b2), (1, b4)] w5 w43 := (Kz.md (Kz.md (Kz.kz (Kz.kz (Kz.md (Kz.kz (Kz.kz (Kz.md (Kz.kz (Kz.md (Kz.kz (Kz.kz (Kz.md (Kz.kz (Kz.refl _ _) Kw21) Mw23) Kw24) Kw25) Mw26) Kw27) Mw28) Kw29) Kw30) Mw39) Kw40) Kw41) Mw42) Mw43)
                  have B153 := (Rd.md (Rd.md O41_b0_0 Mw42 (tk1 ((pv_1 (A := (fun x => x ≠ b4)) f41_b0_0 (pv_1 (A := (fun x => x ≠ b4)) f40_b0_0 (pv_1 (A := (fun x => x ≠ b4)) Fw30_3 (pv_1 (A := (fun x => x ≠ b4)) f29_b0_0 (pv_1 (A := (fun x => x ≠ b4)) f27_b0_0 (pv_1 (A := (fun x => x ≠ b4)) Fw25_3 (pv_1 (A := (fun x => x ≠ b4)) f24_b0_0 (pv_1 (A := (fun x => x ≠ b4)) f21_b0_0 (pv_lt (A := (fun x => x ≠ b4)) lt9))))))))) : z41_b0_0 = 0 ∨ g41_b0_0 ≠ b4))) Mw43 (tk1 ((pv_1 (A := (fun x => x ≠ b4)) f41_b0_0 (pv_1 (A := (fun x => x ≠ b4)) f40_b0_0 (pv_1 (A := (fun x => x ≠ b4)) Fw30_3 (pv_1 (A := (fun x => x ≠ b4)) f29_b0_0 (pv_1 (A := (fun x => x ≠ b4)) f27_b0_0 (pv_1 (A := (fun x => x ≠ b4)) Fw25_3 (pv_1 (A := (fun x => x ≠ b4)) f24_b0_0 (pv_1 (A := (fun x => x ≠ b4)) f21_b0_0 (pv_lt (A := (fun x => x ≠ b4)) lt9))))))))) : z41_b0_0 = 0 ∨ g41_b0_0 ≠ b4)))
                  have B154 := (Own.md (Own.md (Own.kz (Own.kz (Own.md Fw30_0 Mw39 (tk1 ((pv_0 (A := (fun x => x ≠ b4)) Fw30_1) : zy44 = 0 ∨ gy44 ≠ b4))) Kw40 (tk1 ((pv_0 (A := (fun x => x ≠ b2)) Fw30_1) : zy44 = 0 ∨ gy44 ≠ b2))) Kw41 (tk1 ((pv_0 (A := (fun x => x ≠ b2)) Fw30_1) : zy44 = 0 ∨ gy44 ≠ b2))) Mw42 (tk1 ((pv_0 (A := (fun x => x ≠ b4)) Fw30_1) : zy44 = 0 ∨ gy44 ≠ b4))) Mw43 (tk1 ((pv_0 (A := (fun x => x ≠ b4)) Fw30_1) : zy44 = 0 ∨ gy44 ≠ b4)))
                  have B155 := (Bx.md (Bx.md Bk41_0 Mw42) Mw43)
                  refine ⟨rfl, ⟨x53.2, w64 (un x24.1), [], x36.1, a43, x52.1, x53.1, 0#8, 0#64, [], u41_b0_0, z41_b0_0, g41_b0_0, o41_b0_0, (.slice none 0 0), 0, 0, vy44, zy44, gy44, (.slice none 0 0), 0, 0⟩, ?_, hm, B153, ⟨(pv_1 (A := (fun x => (x = g3_b0_0 ∧ z3_b0_0 ≠ 0) ∨ w5.heap.size ≤ x)) f41_b0_0 (pv_1 (A := (fun x => (x = g3_b0_0 ∧ z3_b0_0 ≠ 0) ∨ w5.heap.size ≤ x)) f40_b0_0 (pv_1 (A := (fun x => (x = g3_b0_0 ∧ z3_b0_0 ≠ 0) ∨ w5.heap.size ≤ x)) Fw30_3 (pv_1 (A := (fun x => (x = g3_b0_0 ∧ z3_b0_0 ≠ 0) ∨ w5.heap.size ≤ x)) f29_b0_0 (pv_1 (A := (fun x => (x = g3_b0_0 ∧ z3_b0_0 ≠ 0) ∨ w5.heap.size ≤ x)) f27_b0_0 (pv_1 (A := (fun x => (x = g3_b0_0 ∧ z3_b0_0 ≠ 0) ∨ w5.heap.size ≤ x)) Fw25_3 (pv_1 (A := (fun x => (x = g3_b0_0 ∧ z3_b0_0 ≠ 0) ∨ w5.heap.size ≤ x)) f24_b0_0 (pv_1 (A := (fun x => (x = g3_b0_0 ∧ z3_b0_0 ≠ 0) ∨ w5.heap.size ≤ x)) f21_b0_0 tk0))))))))⟩, (own_nil _ 0 64 18), ⟨(.inl rfl)⟩, B154, ⟨(pv_0 (A := (fun x => w5.heap.size ≤ x)) Fw30_1)⟩, (own_nil _ 0 5 1), ⟨(.inl rfl)⟩, ⟨(.inl rfl)⟩, ⟨(pv_sw (pv_1 (A := (fun x => zy44 = 0 ∨ x ≠ gy44)) f41_b0_0 (pv_1 (A := (fun x => zy44 = 0 ∨ x ≠ gy44)) f40_b0_0 (tk1 Fw30_4.o) (fun x hx => (tk1 lt115.o))) (fun x hx => (tk1 lt115.o))))⟩, ⟨(.inr (.inl rfl))⟩, ⟨(.inl rfl)⟩, ⟨(.inl rfl)⟩, ⟨(.inl rfl)⟩, B155, Bw43, K_152⟩
                  repeat' first | exact trivial | refine ⟨rfl, ?_⟩
            ·
              replace hm := cnd_f c7 hm
              refine sw_skip ?_
              refine then_n ?_
              -- region 6 bytes.go:125
              refine sw_region [(0, 0), (1, 0), (2, 0), (3, 0), (4, 0), (5, 0)] rfl rfl rfl ?_
              refine sd_vv rfl rfl rfl (vv_move rfl) ?_
              refine sd_vv rfl rfl rfl (vv_move rfl) ?_
              have hb := bnd hm; clear hm; obtain ⟨x54, hx54, hm⟩ := hb
              refine sd_ev rfl rfl rfl (ev_callV en_20 rfl rfl (epoch_reader_item_w a34 _ _ _ _ _ _ hx54 _ Fw25_5 Fw25_2 ⟨(tk1 ((pv_1 (A := (fun x => x ≠ b2)) Fw25_3 (pv_1 (A := (fun x => x ≠ b2)) f24_b0_0 (pv_1 (A := (fun x => x ≠ b2)) f21_b0_0 (pv_1 (A := (fun x => x ≠ b2)) f3_b0_0 (pv_lt (A := (fun x => x ≠ b2)) lt1))))) : zy35 = 0 ∨ gy35 ≠ b2))⟩)) ?_
              rintro _ w44 ⟨u44_b0_0, z44_b0_0, g44_b0_0, o44_b0_0, rfl, O44_b0_0, f44_b0_0, Bk44_0, Kw44⟩
              have z156 := Kw44.size
              have lt157 := O44_b0_0.lth
              refine sd_ev rfl rfl rfl (ev_litT [x54.1] TItem.cs bsl_22_1 rfl rfl (ws_of rfl) rfl rfl rfl) ?_
              rintro vw45 w45 ⟨gw45, hbw45, Ow45, Gw45⟩
              have z158 := Gw45.size
              have lt159 := Ow45.lth
              have B160 := (Own.gr (Own.kz Fw25_0 Kw44 (tk1 ((pv_0 (A := (fun x => x ≠ b2)) Fw25_1) : zy32 = 0 ∨ gy32 ≠ b2))) Gw45)
              have hb := bnd hm; clear hm; obtain ⟨l55, hl55, hm⟩ := hb
              refine sd_ev rfl rfl rfl (ev_appT (l := a31) (m := [x54.1]) (c := TItem.cs) apt_22 rfl rfl B160 (Own.rd Ow45) hl55 (by decide)) ?_
              rintro vw46 w46 ⟨zw46, gw46, Ow46, Aw46, qw46, rw46⟩
              have z161 := Aw46.size
              refine sd_vv rfl rfl rfl (vv_assign rfl) ?_
              refine sd_nil ?_
              refine block_n ?_
              refine then_n ?_
              -- region 7 bytes.go:121
              refine sw_region [(0, 0), (1, 0)] rfl rfl rfl ?_
              refine sd_vv rfl rfl rfl (vv_add (k := .i64) (a := a33) (b := 1) rfl rfl) ?_
              refine sd_vv rfl rfl rfl (vv_move rfl) ?_
              refine sd_nil ?_
              have K_162 : Kz [(1, b2)] w24 w46 := (Kz.ka (Kz.gr (Kz.kz Kw25 Kw44) Gw45) Aw46 (tk1 ((pv_0 (A := (fun x => w24.heap.size ≤ x)) Fw25_1) : zy32 = 0 ∨ w24.heap.size ≤ gy32)))
              have B163 := (Rd.ka (Rd.gr O44_b0_0 Gw45) Aw46 (tk1 ((pv_1 (A := (fun x => zy32 = 0 ∨ x ≠ gy32)) f44_b0_0 (tk1 Fw25_4.o) (fun x hx => (tk1 lt91.o))) : z44_b0_0 = 0 ∨ zy32 = 0 ∨ g44_b0_0 ≠ gy32)))
              have B164 := (Bx.ka (Bx.gr Bk44_0 Gw45) Aw46 (tk1 ((pv_0 (A := (fun x => x ≠ b2)) Fw25_1) : zy32 = 0 ∨ gy32 ≠ b2)))
              subst hrec3
              refine ⟨rfl, ⟨n3, l55, w64 (a33 + 1), x54.2, vw46, zw46, gw46, u44_b0_0, z44_b0_0, g44_b0_0, o44_b0_0⟩, ?_, ⟨hm, Ow46, ⟨(pv_app (A := (fun x => w24.heap.size ≤ x)) rw46 (pv_0 (A := (fun x => w24.heap.size ≤ x)) Fw25_1))⟩, B163, ⟨(pv_1 (A := (fun x => (x = g24_b0_0 ∧ z24_b0_0 ≠ 0) ∨ w24.heap.size ≤ x)) f44_b0_0 (pv_1 (A := (fun x => (x = g24_b0_0 ∧ z24_b0_0 ≠ 0) ∨ w24.heap.size ≤ x)) Fw25_3 tk0))⟩, ⟨(pv_sw (pv_app (A := (fun x => z44_b0_0 = 0 ∨ x ≠ g44_b0_0)) rw46 (pv_sw (pv_1 (A := (fun x => zy32 = 0 ∨ x ≠ gy32)) f44_b0_0 (tk1 Fw25_4.o) (fun x hx => (tk1 lt91.o)))) (fun x hx => (tk1 lt157.o))))⟩, B164, K_162⟩, Nat.lt_succ_self _⟩
              repeat' first | exact trivial | refine ⟨rfl, ?_⟩
          ·
            replace hm := ite_f (of_decide_eq_false c6) hm
            refine sw_exit ?_
            refine then_x ?_
            refine then_x ?_
            refine block_x ?_
            refine then_n ?_
            refine sw_seq ?_
            -- region 8 bytes.go:127
            refine sw_region [(0, 0), (1, 0)] rfl rfl rfl ?_
            refine sd_vv rfl rfl rfl (vv_move rfl) ?_
            refine sd_vv rfl rfl rfl (vv_assign rfl) ?_
            refine sd_done ?_
            refine sw_ret ?_
            refine ⟨_, _, rfl, res_1 rfl (rv_tmp rfl), ?_⟩
            refine sd_vv rfl rfl rfl (vv_fieldAddr fa_31_2 rfl) ?_
            refine sd_vv rfl rfl rfl (vv_fieldAddr fa_28_0 rfl) ?_
            have B165 := (Bx.kz (Bx.kz Bw23 Kw24) Kw25)
            refine sd_ev rfl rfl rfl (ev_st1 (cs' := TPacket.cs (TPacket.mk (wd8 x1.1) (w64 (un x24.1)) (THeader.mk a31 0#64 [] k0 k0) 0#8 0#64 [] k0) vy32 (.slice none 0 0) (.slice none 0 0)) (one_22).siz rfl rfl (Own.oneB Fw25_0) B165 rfl rfl) ?_
            rintro _ w47 ⟨Bw47, Mw47⟩
            have z166 := Mw47.size
            refine sd_done ?_
            refine sw_seq ?_
            -- region 11 bytes.go:144
            refine sw_region [(0, 0), (1, 0), (2, 0), (3, 0), (4, 0)] rfl rfl rfl ?_
            refine sd_vv rfl rfl rfl (vv_move rfl) ?_
            have B167 := (Bx.md Fw25_5 Mw47)
            have B168 := (Rd.md Fw25_2 Mw47 (tk1 ((pv_1 (A := (fun x => x ≠ b4)) Fw25_3 (pv_1 (A := (fun x => x ≠ b4)) f24_b0_0 (pv_1 (A := (fun x => x ≠ b4)) f21_b0_0 (pv_lt (A := (fun x => x ≠ b4)) lt9)))) : zy35 = 0 ∨ gy35 ≠ b4)))
            have hb := bnd hm; clear hm; obtain ⟨x56, hx56, hm⟩ := hb
            refine sd_ev rfl rfl rfl (ev_call en_16 rfl (epoch_reader_number_w a34 8 _ _ _ _ _ _ hx56 _ B167 B168 ⟨(tk1 ((pv_1 (A := (fun x => x ≠ b2)) Fw25_3 (pv_1 (A := (fun x => x ≠ b2)) f24_b0_0 (pv_1 (A := (fun x => x ≠ b2)) f21_b0_0 (pv_1 (A := (fun x => x ≠ b2)) f3_b0_0 (pv_lt (A := (fun x => x ≠ b2)) lt1))))) : zy35 = 0 ∨ gy35 ≠ b2))⟩)) ?_
            rintro _ w48 ⟨u48_b0_0, z48_b0_0, g48_b0_0, o48_b0_0, rfl, O48_b0_0, f48_b0_0, Bk48_0, Kw48⟩
            have z169 := Kw48.size
            have lt170 := O48_b0_0.lth
            refine sd_vv rfl rfl rfl (vv_fieldAddr fa_31_2 rfl) ?_
            refine sd_vv rfl rfl rfl (vv_fieldAddr fa_28_1 rfl) ?_
            have B171 := (Bx.kz Bw47 Kw48)
            refine sd_ev rfl rfl rfl (ev_st1 (cs' := TPacket.cs (TPacket.mk (wd8 x1.1) (w64 (un x24.1)) (THeader.mk a31 x56.1 [] k0 k0) 0#8 0#64 [] k0) vy32 (.slice none 0 0) (.slice none 0 0)) (one_23).siz rfl rfl rfl B171 rfl rfl) ?_
            rintro _ w49 ⟨Bw49, Mw49⟩
            have z172 := Mw49.size
            refine sd_done ?_
            refine sw_seq ?_
            -- region 12 bytes.go:145
            refine sw_region [(0, 0), (1, 0), (2, 0), (3, 0), (4, 0), (5, 0), (6, 0)] rfl rfl rfl ?_
            refine sd_vv rfl rfl rfl (vv_move rfl) ?_
            refine sd_vv rfl rfl rfl (vv_move rfl) ?_
            refine sd_vv rfl rfl rfl (vv_makeFunc rfl rfl) ?_
            -- in place: headend/epoch.list[headend/api.Point]
            refine sd_inl 21 Try.func21 rfl rfl rfl en_21 rfl rfl rfl rfl rfl ?_
            refine sw_seq ?_
            -- region 0 bytes.go:119
            refine sw_region [(0, 0)] rfl rfl rfl ?_
            refine sd_vv rfl rfl rfl (vv_assign rfl) ?_
            refine sd_done ?_
            refine sw_seq ?_
            -- region 1 bytes.go:120
            refine sw_region [(0, 0)] rfl rfl rfl ?_
            refine sd_vv rfl rfl rfl (vv_assign rfl) ?_
            refine sd_done ?_
            refine sw_seq ?_
            refine sw_seq ?_
            -- region 2 bytes.go:121
            refine sw_region [(0, 0), (1, 0), (2, 0)] rfl rfl rfl ?_
            refine sd_vv rfl rfl rfl (vv_move rfl) ?_
            have B173 := (Bx.md Bk48_0 Mw49)
            have B174 := (Rd.md O48_b0_0 Mw49 (tk1 ((pv_1 (A := (fun x => x ≠ b4)) f48_b0_0 (pv_1 (A := (fun x => x ≠ b4)) Fw25_3 (pv_1 (A := (fun x => x ≠ b4)) f24_b0_0 (pv_1 (A := (fun x => x ≠ b4)) f21_b0_0 (pv_lt (A := (fun x => x ≠ b4)) lt9))))) : z48_b0_0 = 0 ∨ g48_b0_0 ≠ b4)))
            have hb := bnd hm; clear hm; obtain ⟨x57, hx57, hm⟩ := hb
            refine sd_ev rfl rfl rfl (ev_call en_15 rfl (epoch_reader_small_w x56.2 _ _ _ _ _ _ hx57 _ B173 B174 ⟨(tk1 ((pv_1 (A := (fun x => x ≠ b2)) f48_b0_0 (pv_1 (A := (fun x => x ≠ b2)) Fw25_3 (pv_1 (A := (fun x => x ≠ b2)) f24_b0_0 (pv_1 (A := (fun x => x ≠ b2)) f21_b0_0 (pv_1 (A := (fun x => x ≠ b2)) f3_b0_0 (pv_lt (A := (fun x => x ≠ b2)) lt1)))))) : z48_b0_0 = 0 ∨ g48_b0_0 ≠ b2))⟩)) ?_
            rintro _ w50 ⟨u50_b0_0, z50_b0_0, g50_b0_0, o50_b0_0, rfl, O50_b0_0, f50_b0_0, Bk50_0, Kw50⟩
            have z175 := Kw50.size
            have lt176 := O50_b0_0.lth
            refine sd_vv rfl rfl rfl (vv_move rfl) ?_
            refine sd_done ?_
            refine sw_block ?_
            have X177 : Gr w w50 := (Gr.kz (Gr.md (Gr.kz (Gr.md (Gr.kz X86 Kw25) Mw47) Kw48) Mw49) Kw50)
            have B178 := (Rd.kz (Rd.md (Rd.kz (Rd.md (Rd.kz B87 Kw25 (tk1 ((pv_lt (A := (fun x => x ≠ b2)) lt1) : zp0 = 0 ∨ gp0 ≠ b2))) Mw47 (tk1 ((pv_lt (A := (fun x => x ≠ b4)) lt1) : zp0 = 0 ∨ gp0 ≠ b4))) Kw48 (tk1 ((pv_lt (A := (fun x => x ≠ b2)) lt1) : zp0 = 0 ∨ gp0 ≠ b2))) Mw49 (tk1 ((pv_lt (A := (fun x => x ≠ b4)) lt1) : zp0 = 0 ∨ gp0 ≠ b4))) Kw50 (tk1 ((pv_lt (A := (fun x => x ≠ b2)) lt1) : zp0 = 0 ∨ gp0 ≠ b2)))
            have B179 := (Rd.kz (Rd.md (Rd.kz (Rd.md (Rd.kz B88 Kw25 (tk1 ((pv_1 (A := (fun x => x ≠ b2)) f3_b0_0 (pv_lt (A := (fun x => x ≠ b2)) lt1)) : z3_b0_0 = 0 ∨ g3_b0_0 ≠ b2))) Mw47 (tk1 ((pv_lt (A := (fun x => x ≠ b4)) lt9) : z3_b0_0 = 0 ∨ g3_b0_0 ≠ b4))) Kw48 (tk1 ((pv_1 (A := (fun x => x ≠ b2)) f3_b0_0 (pv_lt (A := (fun x => x ≠ b2)) lt1)) : z3_b0_0 = 0 ∨ g3_b0_0 ≠ b2))) Mw49 (tk1 ((pv_lt (A := (fun x => x ≠ b4)) lt9) : z3_b0_0 = 0 ∨ g3_b0_0 ≠ b4))) Kw50 (tk1 ((pv_1 (A := (fun x => x ≠ b2)) f3_b0_0 (pv_lt (A := (fun x => x ≠ b2)) lt1)) : z3_b0_0 = 0 ∨ g3_b0_0 ≠ b2)))
            have B180 := (Rd.kz (Rd.md (Rd.kz (Rd.md (Rd.kz B89 Kw25 (tk1 ((pv_1 (A := (fun x => x ≠ b2)) f21_b0_0 (pv_1 (A := (fun x => x ≠ b2)) f3_b0_0 (pv_lt (A := (fun x => x ≠ b2)) lt1))) : z21_b0_0 = 0 ∨ g21_b0_0 ≠ b2))) Mw47 (tk1 ((pv_1 (A := (fun x => x ≠ b4)) f21_b0_0 (pv_lt (A := (fun x => x ≠ b4)) lt9)) : z21_b0_0 = 0 ∨ g21_b0_0 ≠ b4))) Kw48 (tk1 ((pv_1 (A := (fun x => x ≠ b2)) f21_b0_0 (pv_1 (A := (fun x => x ≠ b2)) f3_b0_0 (pv_lt (A := (fun x => x ≠ b2)) lt1))) : z21_b0_0 = 0 ∨ g21_b0_0 ≠ b2))) Mw49 (tk1 ((pv_1 (A := (fun x => x ≠ b4)) f21_b0_0 (pv_lt (A := (fun x => x ≠ b4)) lt9)) : z21_b0_0 = 0 ∨ g21_b0_0 ≠ b4))) Kw50 (tk1 ((pv_1 (A := (fun x => x ≠ b2)) f21_b0_0 (pv_1 (A := (fun x => x ≠ b2)) f3_b0_0 (pv_lt (A := (fun x => x ≠ b2)) lt1))) : z21_b0_0 = 0 ∨ g21_b0_0 ≠ b2)))
            have B181 := (Rd.kz (Rd.md (Rd.kz (Rd.md (Rd.kz O24_b0_0 Kw25 (tk1 ((pv_1 (A := (fun x => x ≠ b2)) f24_b0_0 (pv_1 (A := (fun x => x ≠ b2)) f21_b0_0 (pv_1 (A := (fun x => x ≠ b2)) f3_b0_0 (pv_lt (A := (fun x => x ≠ b2)) lt1)))) : z24_b0_0 = 0 ∨ g24_b0_0 ≠ b2))) Mw47 (tk1 ((pv_1 (A := (fun x => x ≠ b4)) f24_b0_0 (pv_1 (A := (fun x => x ≠ b4)) f21_b0_0 (pv_lt (A := (fun x => x ≠ b4)) lt9))) : z24_b0_0 = 0 ∨ g24_b0_0 ≠ b4))) Kw48 (tk1 ((pv_1 (A := (fun x => x ≠ b2)) f24_b0_0 (pv_1 (A := (fun x => x ≠ b2)) f21_b0_0 (pv_1 (A := (fun x => x ≠ b2)) f3_b0_0 (pv_lt (A := (fun x => x ≠ b2)) lt1)))) : z24_b0_0 = 0 ∨ g24_b0_0 ≠ b2))) Mw49 (tk1 ((pv_1 (A := (fun x => x ≠ b4)) f24_b0_0 (pv_1 (A := (fun x => x ≠ b4)) f21_b0_0 (pv_lt (A := (fun x => x ≠ b4)) lt9))) : z24_b0_0 = 0 ∨ g24_b0_0 ≠ b4))) Kw50 (tk1 ((pv_1 (A := (fun x => x ≠ b2)) f24_b0_0 (pv_1 (A := (fun x => x ≠ b2)) f21_b0_0 (pv_1 (A := (fun x => x ≠ b2)) f3_b0_0 (pv_lt (A := (fun x => x ≠ b2)) lt1)))) : z24_b0_0 = 0 ∨ g24_b0_0 ≠ b2)))
            have B182 := (Own.kz (Own.md (Own.kz (Own.md Fw25_0 Mw47 (tk1 ((pv_0 (A := (fun x => x ≠ b4)) Fw25_1) : zy32 = 0 ∨ gy32 ≠ b4))) Kw48 (tk1 ((pv_0 (A := (fun x => x ≠ b2)) Fw25_1) : zy32 = 0 ∨ gy32 ≠ b2))) Mw49 (tk1 ((pv_0 (A := (fun x => x ≠ b4)) Fw25_1) : zy32 = 0 ∨ gy32 ≠ b4))) Kw50 (tk1 ((pv_0 (A := (fun x => x ≠ b2)) Fw25_1) : zy32 = 0 ∨ gy32 ≠ b2)))
            have B183 := (Rd.kz (Rd.md (Rd.kz B168 Kw48 (tk1 ((pv_1 (A := (fun x => x ≠ b2)) Fw25_3 (pv_1 (A := (fun x => x ≠ b2)) f24_b0_0 (pv_1 (A := (fun x => x ≠ b2)) f21_b0_0 (pv_1 (A := (fun x => x ≠ b2)) f3_b0_0 (pv_lt (A := (fun x => x ≠ b2)) lt1))))) : zy35 = 0 ∨ gy35 ≠ b2))) Mw49 (tk1 ((pv_1 (A := (fun x => x ≠ b4)) Fw25_3 (pv_1 (A := (fun x => x ≠ b4)) f24_b0_0 (pv_1 (A := (fun x => x ≠ b4)) f21_b0_0 (pv_lt (A := (fun x => x ≠ b4)) lt9)))) : zy35 = 0 ∨ gy35 ≠ b4))) Kw50 (tk1 ((pv_1 (A := (fun x => x ≠ b2)) Fw25_3 (pv_1 (A := (fun x => x ≠ b2)) f24_b0_0 (pv_1 (A := (fun x => x ≠ b2)) f21_b0_0 (pv_1 (A := (fun x => x ≠ b2)) f3_b0_0 (pv_lt (A := (fun x => x ≠ b2)) lt1))))) : zy35 = 0 ∨ gy35 ≠ b2)))
            have B184 := (Rd.kz B174 Kw50 (tk1 ((pv_1 (A := (fun x => x ≠ b2)) f48_b0_0 (pv_1 (A := (fun x => x ≠ b2)) Fw25_3 (pv_1 (A := (fun x => x ≠ b2)) f24_b0_0 (pv_1 (A := (fun x => x ≠ b2)) f21_b0_0 (pv_1 (A := (fun x => x ≠ b2)) f3_b0_0 (pv_lt (A := (fun x => x ≠ b2)) lt1)))))) : z48_b0_0 = 0 ∨ g48_b0_0 ≠ b2)))
            refine sw_loopD (α := Nat × List TPoint × Int × Tepoch_reader × Value × Nat × Nat × Value × Nat × Nat × Nat) [4, 5, 8, 9, 10, 11, 12, 13, 14, 15, 16, 17, 18, 19] (fun ⟨n5, a63, a65, a66, vy64, zy64, gy64, vy67, zy67, gy67, oy67⟩ => [(4, .slice none 0 0), (5, vy64), (8, .int .i64 a65)]) (fun ⟨n5, a63, a65, a66, vy64, zy64, gy64, vy67, zy67, gy67, oy67⟩ wr => (fixN (epoch_Decode_L5 x1 x24 a31 x56 x57) n5 (a63, a65, a66) = some r) ∧ Own wr zy64 gy64 35 2 vy64 (a63.map TPoint.cs) ∧ Hdn (zy64 = 0 ∨ w50.heap.size ≤ gy64) ∧ Rd wr zy67 gy67 oy67 1 vy67 (a66.b.map bvc) ∧ Hdn (zy67 = 0 ∨ (gy67 = g50_b0_0 ∧ z50_b0_0 ≠ 0) ∨ w50.heap.size ≤ gy67) ∧ Hdn (zy67 = 0 ∨ zy64 = 0 ∨ gy67 ≠ gy64) ∧ Bx wr b2 55 (Tepoch_reader.cs a66 vy67) ∧ Kz [(1, b2)] w50 wr) (fun ⟨n5, a63, a65, a66, vy64, zy64, gy64, vy67, zy67, gy67, oy67⟩ => n5) ⟨FUEL, [], 0, x57.2, (.slice none 0 0), 0, 0, u50_b0_0, z50_b0_0, g50_b0_0, o50_b0_0⟩ ?_ ?_ ?_
            · repeat' first | exact trivial | refine ⟨rfl, ?_⟩
            · exact ⟨hm, (own_nil _ 0 35 2), ⟨(.inl rfl)⟩, O50_b0_0, ⟨tk0⟩, ⟨(.inr (.inl rfl))⟩, Bk50_0, Kz.refl _ _⟩
            · clear hm; rintro ⟨n5, a63, a65, a66, vy64, zy64, gy64, vy67, zy67, gy67, oy67⟩ w51 ⟨hm, Fw51_0, Fw51_1, Fw51_2, Fw51_3, Fw51_4, Fw51_5, Kw51⟩
              have z185 := Kw51.size
              have lt186 := Fw51_0.lth
              have lt187 := Fw51_2.lth
              have lt188 := Fw51_5.lt
              have hb := fix_succ hm; clear hm; obtain ⟨n5, rfl, hm⟩ := hb
              generalize hrec5 : fixN (epoch_Decode_L5 x1 x24 a31 x56 x57) n5 = rec5 at hm
              unfold epoch_Decode_L5 at hm
              try dsimp only at hm
              refine sw_seq ?_
              -- region 3 bytes.go:121
              refine sw_region [(0, 0)] rfl rfl rfl ?_
              refine sd_vv rfl rfl rfl (vv_lss (a := a65) (b := x57.1) rfl rfl) ?_
              refine sd_done ?_
              refine sw_seq ?_
              refine sw_cond rfl (fun c10 => ?_) (fun c10 => ?_)
              ·
                replace hm := ite_t (of_decide_eq_true c10) hm
                refine sw_skip ?_
                refine then_n ?_
                refine sw_seq ?_
                refine sw_block ?_
                refine sw_seq ?_
                refine sw_seq ?_
                -- region 4 bytes.go:122
                refine sw_region [(0, 0), (1, 0), (2, 0), (3, 0)] rfl rfl rfl ?_
                refine sd_vv rfl rfl rfl (vv_move rfl) ?_
                refine sd_vv rfl rfl rfl (vv_nilCheck rfl rfl) ?_
                refine sd_vv rfl rfl rfl (vv_fieldAddr fa_55_1 rfl) ?_
                refine sd_vv rfl rfl rfl (vv_load1 (v := .bool a66.short) one_4 rfl Fw51_5 rfl) ?_
                refine sd_done ?_
                refine sw_cond rfl (fun c11 => ?_) (fun c11 => ?_)
                ·
                  replace hm := cnd_t c11 hm
                  refine sw_seq ?_
                  -- region 5 bytes.go:123
                  refine sw_region [(0, 0)] rfl rfl rfl ?_
                  refine sd_vv rfl rfl rfl (vv_assign rfl) ?_
                  refine sd_done ?_
                  refine sw_ret ?_
                  refine then_r ?_
                  refine block_r ?_
                  refine then_r ?_
                  refine then_r ?_
                  refine block_r ?_
                  refine then_r ?_
                  refine ⟨_, _, rfl, res_1 rfl (rv_tmp rfl), ?_⟩
                  refine sd_vv rfl rfl rfl (vv_fieldAddr fa_31_2 rfl) ?_
                  refine sd_vv rfl rfl rfl (vv_fieldAddr fa_28_2 rfl) ?_
                  have B189 := (Bx.kz (Bx.kz Bw49 Kw50) Kw51)
                  refine sd_ev rfl rfl rfl (ev_st1 (cs' := TPacket.cs (TPacket.mk (wd8 x1.1) (w64 (un x24.1)) (THeader.mk a31 x56.1 [] k0 k0) 0#8 0#64 [] k0) vy32 (.slice none 0 0) (.slice none 0 0)) (one_24).siz rfl rfl rfl B189 rfl rfl) ?_
                  rintro _ w52 ⟨Bw52, Mw52⟩
                  have z190 := Mw52.size
                  refine sd_done ?_
                  -- region 13 bytes.go:146
                  refine sw_region [(0, 0), (1, 0), (2, 0), (3, 0), (4, 0), (5, 0), (6, 0), (7, 0), (8, 0), (9, 0)] rfl rfl rfl ?_
                  refine sd_vv rfl rfl rfl (vv_move rfl) ?_
                  have B191 := (Bx.md Fw51_5 Mw52)
                  have B192 := (Rd.md Fw51_2 Mw52 (tk1 ((pv_1 (A := (fun x => x ≠ b4)) Fw51_3 (pv_1 (A := (fun x => x ≠ b4)) f50_b0_0 (pv_1 (A := (fun x => x ≠ b4)) f48_b0_0 (pv_1 (A := (fun x => x ≠ b4)) Fw25_3 (pv_1 (A := (fun x => x ≠ b4)) f24_b0_0 (pv_1 (A := (fun x => x ≠ b4)) f21_b0_0 (pv_lt (A := (fun x => x ≠ b4)) lt9))))))) : zy67 = 0 ∨ gy67 ≠ b4)))
                  have hb := bnd hm; clear hm; obtain ⟨x68, hx68, hm⟩ := hb
                  refine sd_ev rfl rfl rfl (ev_call en_23 rfl (epoch_reader_key_w a66 _ _ _ _ _ _ hx68 _ B191 B192 ⟨(tk1 ((pv_1 (A := (fun x => x ≠ b2)) Fw51_3 (pv_1 (A := (fun x => x ≠ b2)) f50_b0_0 (pv_1 (A := (fun x => x ≠ b2)) f48_b0_0 (pv_1 (A := (fun x => x ≠ b2)) Fw25_3 (pv_1 (A := (fun x => x ≠ b2)) f24_b0_0 (pv_1 (A := (fun x => x ≠ b2)) f21_b0_0 (pv_1 (A := (fun x => x ≠ b2)) f3_b0_0 (pv_lt (A := (fun x => x ≠ b2)) lt1)))))))) : zy67 = 0 ∨ gy67 ≠ b2))⟩)) ?_
                  rintro _ w53 ⟨u53_b0_0, z53_b0_0, g53_b0_0, o53_b0_0, rfl, O53_b0_0, f53_b0_0, Bk53_0, Kw53⟩
                  have z193 := Kw53.size
                  have lt194 := O53_b0_0.lth
                  refine sd_vv rfl rfl rfl (vv_move rfl) ?_
                  have hb := bnd hm; clear hm; obtain ⟨x69, hx69, hm⟩ := hb
                  refine sd_ev rfl rfl rfl (ev_call en_23 rfl (epoch_reader_key_w x68.2 _ _ _ _ _ _ hx69 _ Bk53_0 O53_b0_0 ⟨(tk1 ((pv_1 (A := (fun x => x ≠ b2)) f53_b0_0 (pv_1 (A := (fun x => x ≠ b2)) Fw51_3 (pv_1 (A := (fun x => x ≠ b2)) f50_b0_0 (pv_1 (A := (fun x => x ≠ b2)) f48_b0_0 (pv_1 (A := (fun x => x ≠ b2)) Fw25_3 (pv_1 (A := (fun x => x ≠ b2)) f24_b0_0 (pv_1 (A := (fun x => x ≠ b2)) f21_b0_0 (pv_1 (A := (fun x => x ≠ b2)) f3_b0_0 (pv_lt (A := (fun x => x ≠ b2)) lt1))))))))) : z53_b0_0 = 0 ∨ g53_b0_0 ≠ b2))⟩)) ?_
                  rintro _ w54 ⟨u54_b0_0, z54_b0_0, g54_b0_0, o54_b0_0, rfl, O54_b0_0, f54_b0_0, Bk54_0, Kw54⟩
                  have z195 := Kw54.size
                  have lt196 := O54_b0_0.lth
                  refine sd_vv rfl rfl rfl (vv_fieldAddr fa_31_2 rfl) ?_
                  refine sd_vv rfl rfl rfl (vv_fieldAddr fa_28_3 rfl) ?_
                  have B197 := (Bx.kz (Bx.kz Bw52 Kw53) Kw54)
                  refine sd_ev rfl rfl rfl (ev_stM (cs' := TPacket.cs (TPacket.mk (wd8 x1.1) (w64 (un x24.1)) (THeader.mk a31 x56.1 [] x68.1 k0) 0#8 0#64 [] k0) vy32 (.slice none 0 0) (.slice none 0 0)) (vs := kb x68.1) (agg_26).siz rfl rfl rfl rfl rfl B197 rfl rfl) ?_
                  rintro _ w55 ⟨Bw55, Mw55⟩
                  have z198 := Mw55.size
                  refine sd_vv rfl rfl rfl (vv_fieldAddr fa_31_2 rfl) ?_
                  refine sd_vv rfl rfl rfl (vv_fieldAddr fa_28_4 rfl) ?_
                  refine sd_ev rfl rfl rfl (ev_stM (cs' := TPacket.cs (TPacket.mk (wd8 x1.1) (w64 (un x24.1)) (THeader.mk a31 x56.1 [] x68.1 x69.1) 0#8 0#64 [] k0) vy32 (.slice none 0 0) (.slice none 0 0)) (vs := kb x69.1) (agg_26).siz rfl rfl rfl rfl rfl Bw55 rfl rfl) ?_
                  rintro _ w56 ⟨Bw56, Mw56⟩
                  have z199 := Mw56.size
                  refine sd_nil ?_
                  have K_200 : Kz [(1, b2), (1, b4)] w5 w56 := (Kz.md (Kz.md (Kz.kz (Kz.kz (Kz.md (Kz.kz (Kz.kz (Kz.md (Kz.kz (Kz.md (Kz.kz (Kz.kz (Kz.md (Kz.kz (Kz.refl _ _) Kw21) Mw23) Kw24) Kw25) Mw47) Kw48) Mw49) Kw50) Kw51) Mw52) Kw53) Kw54) Mw55) Mw56)
                  have B201 := (Rd.md (Rd.md O54_b0_0 Mw55 (tk1 ((pv_1 (A := (fun x => x ≠ b4)) f54_b0_0 (pv_1 (A := (fun x => x ≠ b4)) f53_b0_0 (pv_1 (A := (fun x => x ≠ b4)) Fw51_3 (pv_1 (A := (fun x => x ≠ b4)) f50_b0_0 (pv_1 (A := (fun x => x ≠ b4)) f48_b0_0 (pv_1 (A := (fun x => x ≠ b4)) Fw25_3 (pv_1 (A := (fun x => x ≠ b4)) f24_b0_0 (pv_1 (A := (fun x => x ≠ b4)) f21_b0_0 (pv_lt (A := (fun x => x ≠ b4)) lt9))))))))) : z54_b0_0 = 0 ∨ g54_b0_0 ≠ b4))) Mw56 (tk1 ((pv_1 (A := (fun x => x ≠ b4)) f54_b0_0 (pv_1 (A := (fun x => x ≠ b4)) f53_b0_0 (pv_1 (A := (fun x => x ≠ b4)) Fw51_3 (pv_1 (A := (fun x => x ≠ b4)) f50_b0_0 (pv_1 (A := (fun x => x ≠ b4)) f48_b0_0 (pv_1 (A := (fun x => x ≠ b4)) Fw25_3 (pv_1 (A := (fun x => x ≠ b4)) f24_b0_0 (pv_1 (A := (fun x => x ≠ b4)) f21_b0_0 (pv_lt (A := (fun x => x ≠ b4)) lt9))))))))) : z54_b0_0 = 0 ∨ g54_b0_0 ≠ b4)))
                  have B202 := (Own.md (Own.md (Own.kz (Own.kz (Own.md (Own.kz B182 Kw51 (tk1 ((pv_0 (A := (fun x => x ≠ b2)) Fw25_1) : zy32 = 0 ∨ gy32 ≠ b2))) Mw52 (tk1 ((pv_0 (A := (fun x => x ≠ b4)) Fw25_1) : zy32 = 0 ∨ gy32 ≠ b4))) Kw53 (tk1 ((pv_0 (A := (fun x => x ≠ b2)) Fw25_1) : zy32 = 0 ∨ gy32 ≠ b2))) Kw54 (tk1 ((pv_0 (A := (fun x => x ≠ b2)) Fw25_1) : zy32 = 0 ∨ gy32 ≠ b2))) Mw55 (tk1 ((pv_0 (A := (fun x => x ≠ b4)) Fw25_1) : zy32 = 0 ∨ gy32 ≠ b4))) Mw56 (tk1 ((pv_0 (A := (fun x => x ≠ b4)) Fw25_1) : zy32 = 0 ∨ gy32 ≠ b4)))
                  have B203 := (Bx.md (Bx.md Bk54_0 Mw55) Mw56)
                  refine ⟨rfl, ⟨x69.2, w64 (un x24.1), a31, x56.1, [], x68.1, x69.1, 0#8, 0#64, [], u54_b0_0, z54_b0_0, g54_b0_0, o54_b0_0, vy32, zy32, gy32, (.slice none 0 0), 0, 0, (.slice none 0 0), 0, 0⟩, ?_, hm, B201, ⟨(pv_1 (A := (fun x => (x = g3_b0_0 ∧ z3_b0_0 ≠ 0) ∨ w5.heap.size ≤ x)) f54_b0_0 (pv_1 (A := (fun x => (x = g3_b0_0 ∧ z3_b0_0 ≠ 0) ∨ w5.heap.size ≤ x)) f53_b0_0 (pv_1 (A := (fun x => (x = g3_b0_0 ∧ z3_b0_0 ≠ 0) ∨ w5.heap.size ≤ x)) Fw51_3 (pv_1 (A := (fun x => (x = g3_b0_0 ∧ z3_b0_0 ≠ 0) ∨ w5.heap.size ≤ x)) f50_b0_0 (pv_1 (A := (fun x => (x = g3_b0_0 ∧ z3_b0_0 ≠ 0) ∨ w5.heap.size ≤ x)) f48_b0_0 (pv_1 (A := (fun x => (x = g3_b0_0 ∧ z3_b0_0 ≠ 0) ∨ w5.heap.size ≤ x)) Fw25_3 (pv_1 (A := (fun x => (x = g3_b0_0 ∧ z3_b0_0 ≠ 0) ∨ w5.heap.size ≤ x)) f24_b0_0 (pv_1 (A := (fun x => (x = g3_b0_0 ∧ z3_b0_0 ≠ 0) ∨ w5.heap.size ≤ x)) f21_b0_0 tk0))))))))⟩, B202, ⟨(pv_0 (A := (fun x => w5.heap.size ≤ x)) Fw25_1)⟩, (own_nil _ 0 35 2), ⟨(.inl rfl)⟩, (own_nil _ 0 5 1), ⟨(.inl rfl)⟩, ⟨(pv_sw (pv_1 (A := (fun x => zy32 = 0 ∨ x ≠ gy32)) f54_b0_0 (pv_1 (A := (fun x => zy32 = 0 ∨ x ≠ gy32)) f53_b0_0 (pv_1 (A := (fun x => zy32 = 0 ∨ x ≠ gy32)) Fw51_3 (pv_1 (A := (fun x => zy32 = 0 ∨ x ≠ gy32)) f50_b0_0 (pv_1 (A := (fun x => zy32 = 0 ∨ x ≠ gy32)) f48_b0_0 (tk1 Fw25_4.o) (fun x hx => (tk1 lt91.o))) (fun x hx => (tk1 lt91.o))) (fun x hx => (tk1 lt91.o))) (fun x hx => (tk1 lt91.o))) (fun x hx => (tk1 lt91.o))))⟩, ⟨(.inl rfl)⟩, ⟨(.inl rfl)⟩, ⟨(.inl rfl)⟩, ⟨(.inl rfl)⟩, ⟨(.inl rfl)⟩, B203, Bw56, K_200⟩
                  repeat' first | exact trivial | refine ⟨rfl, ?_⟩
                ·
                  replace hm := cnd_f c11 hm
                  refine sw_skip ?_
                  refine then_n ?_
                  -- region 6 bytes.go:125
                  refine sw_region [(0, 0), (1, 0), (2, 0), (3, 0), (4, 0), (5, 0)] rfl rfl rfl ?_
                  refine sd_vv rfl rfl rfl (vv_move rfl) ?_
                  refine sd_vv rfl rfl rfl (vv_move rfl) ?_
                  have hb := bnd hm; clear hm; obtain ⟨x70, hx70, hm⟩ := hb
                  refine sd_ev rfl rfl rfl (ev_callV en_22 rfl rfl (epoch_reader_point_w a66 _ _ _ _ _ _ hx70 _ Fw51_5 Fw51_2 ⟨(tk1 ((pv_1 (A := (fun x => x ≠ b2)) Fw51_3 (pv_1 (A := (fun x => x ≠ b2)) f50_b0_0 (pv_1 (A := (fun x => x ≠ b2)) f48_b0_0 (pv_1 (A := (fun x => x ≠ b2)) Fw25_3 (pv_1 (A := (fun x => x ≠ b2)) f24_b0_0 (pv_1 (A := (fun x => x ≠ b2)) f21_b0_0 (pv_1 (A := (fun x => x ≠ b2)) f3_b0_0 (pv_lt (A := (fun x => x ≠ b2)) lt1)))))))) : zy67 = 0 ∨ gy67 ≠ b2))⟩)) ?_
                  rintro _ w57 ⟨u57_b0_0, z57_b0_0, g57_b0_0, o57_b0_0, rfl, O57_b0_0, f57_b0_0, Bk57_0, Kw57⟩
                  have z204 := Kw57.size
                  have lt205 := O57_b0_0.lth
                  refine sd_ev rfl rfl rfl (ev_litT [x70.1] TPoint.cs bsl_24_1 rfl rfl (ws_of rfl) rfl rfl rfl) ?_
                  rintro vw58 w58 ⟨gw58, hbw58, Ow58, Gw58⟩
                  have z206 := Gw58.size
                  have lt207 := Ow58.lth
                  have B208 := (Own.gr (Own.kz Fw51_0 Kw57 (tk1 ((pv_0 (A := (fun x => x ≠ b2)) Fw51_1) : zy64 = 0 ∨ gy64 ≠ b2))) Gw58)
                  have hb := bnd hm; clear hm; obtain ⟨l71, hl71, hm⟩ := hb
                  refine sd_ev rfl rfl rfl (ev_appT (l := a63) (m := [x70.1]) (c := TPoint.cs) apt_24 rfl rfl B208 (Own.rd Ow58) hl71 (by decide)) ?_
                  rintro vw59 w59 ⟨zw59, gw59, Ow59, Aw59, qw59, rw59⟩
                  have z209 := Aw59.size
                  refine sd_vv rfl rfl rfl (vv_assign rfl) ?_
                  refine sd_nil ?_
                  refine block_n ?_
                  refine then_n ?_
                  -- region 7 bytes.go:121
                  refine sw_region [(0, 0), (1, 0)] rfl rfl rfl ?_
                  refine sd_vv rfl rfl rfl (vv_add (k := .i64) (a := a65) (b := 1) rfl rfl) ?_
                  refine sd_vv rfl rfl rfl (vv_move rfl) ?_
                  refine sd_nil ?_
                  have K_210 : Kz [(1, b2)] w50 w59 := (Kz.ka (Kz.gr (Kz.kz Kw51 Kw57) Gw58) Aw59 (tk1 ((pv_0 (A := (fun x => w50.heap.size ≤ x)) Fw51_1) : zy64 = 0 ∨ w50.heap.size ≤ gy64)))
                  have B211 := (Rd.ka (Rd.gr O57_b0_0 Gw58) Aw59 (tk1 ((pv_1 (A := (fun x => zy64 = 0 ∨ x ≠ gy64)) f57_b0_0 (tk1 Fw51_4.o) (fun x hx => (tk1 lt186.o))) : z57_b0_0 = 0 ∨ zy64 = 0 ∨ g57_b0_0 ≠ gy64)))
                  have B212 := (Bx.ka (Bx.gr Bk57_0 Gw58) Aw59 (tk1 ((pv_0 (A := (fun x => x ≠ b2)) Fw51_1) : zy64 = 0 ∨ gy64 ≠ b2)))
                  subst hrec5
                  refine ⟨rfl, ⟨n5, l71, w64 (a65 + 1), x70.2, vw59, zw59, gw59, u57_b0_0, z57_b0_0, g57_b0_0, o57_b0_0⟩, ?_, ⟨hm, Ow59, ⟨(pv_app (A := (fun x => w50.heap.size ≤ x)) rw59 (pv_0 (A := (fun x => w50.heap.size ≤ x)) Fw51_1))⟩, B211, ⟨(pv_1 (A := (fun x => (x = g50_b0_0 ∧ z50_b0_0 ≠ 0) ∨ w50.heap.size ≤ x)) f57_b0_0 (pv_1 (A := (fun x => (x = g50_b0_0 ∧ z50_b0_0 ≠ 0) ∨ w50.heap.size ≤ x)) Fw51_3 tk0))⟩, ⟨(pv_sw (pv_app (A := (fun x => z57_b0_0 = 0 ∨ x ≠ g57_b0_0)) rw59 (pv_sw (pv_1 (A := (fun x => zy64 = 0 ∨ x ≠ gy64)) f57_b0_0 (tk1 Fw51_4.o) (fun x hx => (tk1 lt186.o)))) (fun x hx => (tk1 lt205.o))))⟩, B212, K_210⟩, Nat.lt_succ_self _⟩
                  repeat' first | exact trivial | refine ⟨rfl, ?_⟩
              ·
                replace hm := ite_f (of_decide_eq_false c10) hm
                refine sw_exit ?_
                refine then_x ?_
                refine then_x ?_
                refine block_x ?_
                refine then_n ?_
                refine sw_seq ?_
                -- region 8 bytes.go:127
                refine sw_region [(0, 0), (1, 0)] rfl rfl rfl ?_
                refine sd_vv rfl rfl rfl (vv_move rfl) ?_
                refine sd_vv rfl rfl rfl (vv_assign rfl) ?_
                refine sd_done ?_
                refine sw_ret ?_
                refine ⟨_, _, rfl, res_1 rfl (rv_tmp rfl), ?_⟩
                refine sd_vv rfl rfl rfl (vv_fieldAddr fa_31_2 rfl) ?_
                refine sd_vv rfl rfl rfl (vv_fieldAddr fa_28_2 rfl) ?_
                have B213 := (Bx.kz (Bx.kz Bw49 Kw50) Kw51)
                refine sd_ev rfl rfl rfl (ev_st1 (cs' := TPacket.cs (TPacket.mk (wd8 x1.1) (w64 (un x24.1)) (THeader.mk a31 x56.1 a63 k0 k0) 0#8 0#64 [] k0) vy32 vy64 (.slice none 0 0)) (one_24).siz rfl rfl (Own.oneB Fw51_0) B213 rfl rfl) ?_
                rintro _ w60 ⟨Bw60, Mw60⟩
                have z214 := Mw60.size
                refine sd_done ?_
                -- region 13 bytes.go:146
                refine sw_region [(0, 0), (1, 0), (2, 0), (3, 0), (4, 0), (5, 0), (6, 0), (7, 0), (8, 0), (9, 0)] rfl rfl rfl ?_
                refine sd_vv rfl rfl rfl (vv_move rfl) ?_
                have B215 := (Bx.md Fw51_5 Mw60)
                have B216 := (Rd.md Fw51_2 Mw60 (tk1 ((pv_1 (A := (fun x => x ≠ b4)) Fw51_3 (pv_1 (A := (fun x => x ≠ b4)) f50_b0_0 (pv_1 (A := (fun x => x ≠ b4)) f48_b0_0 (pv_1 (A := (fun x => x ≠ b4)) Fw25_3 (pv_1 (A := (fun x => x ≠ b4)) f24_b0_0 (pv_1 (A := (fun x => x ≠ b4)) f21_b0_0 (pv_lt (A := (fun x => x ≠ b4)) lt9))))))) : zy67 = 0 ∨ gy67 ≠ b4)))
                have hb := bnd hm; clear hm; obtain ⟨x72, hx72, hm⟩ := hb
                refine sd_ev rfl rfl rfl (ev_call en_23 rfl (epoch_reader_key_w a66 _ _ _ _ _ _ hx72 _ B215 B216 ⟨(tk1 ((pv_1 (A := (fun x => x ≠ b2)) Fw51_3 (pv_1 (A := (fun x => x ≠ b2)) f50_b0_0 (pv_1 (A := (fun x => x ≠ b2)) f48_b0_0 (pv_1 (A := (fun x => x ≠ b2)) Fw25_3 (pv_1 (A := (fun x => x ≠ b2)) f24_b0_0 (pv_1 (A := (fun x => x ≠ b2)) f21_b0_0 (pv_1 (A := (fun x => x ≠ b2)) f3_b0_0 (pv_lt (A := (fun x => x ≠ b2)) lt1)))))))) : zy67 = 0 ∨ gy67 ≠ b2))⟩)) ?_
                rintro _ w61 ⟨u61_b0_0, z61_b0_0, g61_b0_0, o61_b0_0, rfl, O61_b0_0, f61_b0_0, Bk61_0, Kw61⟩
                have z217 := Kw61.size
                have lt218 := O61_b0_0.lth
                refine sd_vv rfl rfl rfl (vv_move rfl) ?_
                have hb := bnd hm; clear hm; obtain ⟨x73, hx73, hm⟩ := hb
                refine sd_ev rfl rfl rfl (ev_call en_23 rfl (epoch_reader_key_w x72.2 _ _ _ _ _ _ hx73 _ Bk61_0 O61_b0_0 ⟨(tk1 ((pv_1 (A := (fun x => x ≠ b2)) f61_b0_0 (pv_1 (A := (fun x => x ≠ b2)) Fw51_3 (pv_1 (A := (fun x => x ≠ b2)) f50_b0_0 (pv_1 (A := (fun x => x ≠ b2)) f48_b0_0 (pv_1 (A := (fun x => x ≠ b2)) Fw25_3 (pv_1 (A := (fun x => x ≠ b2)) f24_b0_0 (pv_1 (A := (fun x => x ≠ b2)) f21_b0_0 (pv_1 (A := (fun x => x ≠ b2)) f3_b0_0 (pv_lt (A := (fun x => x ≠ b2)) lt1))))))))) : z61_b0_0 = 0 ∨ g61_b0_0 ≠ b2))⟩)) ?_
                rintro _ w62 ⟨u62_b0_0, z62_b0_0, g62_b0_0, o62_b0_0, rfl, O62_b0_0, f62_b0_0, Bk62_0, Kw62⟩
                have z219 := Kw62.size
                have lt220 := O62_b0_0.lth
                refine sd_vv rfl rfl rfl (vv_fieldAddr fa_31_2 rfl) ?_
                refine sd_vv rfl rfl rfl (vv_fieldAddr fa_28_3 rfl) ?_
                have B221 := (Bx.kz (Bx.kz Bw60 Kw61) Kw62)
                refine sd_ev rfl rfl rfl (ev_stM (cs' := TPacket.cs (TPacket.mk (wd8 x1.1) (w64 (un x24.1)) (THeader.mk a31 x56.1 a63 x72.1 k0) 0#8 0#64 [] k0) vy32 vy64 (.slice none 0 0)) (vs := kb x72.1) (agg_26).siz rfl rfl rfl rfl rfl B221 rfl rfl) ?_
                rintro _ w63 ⟨Bw63, Mw63⟩
                have z222 := Mw63.size
                refine sd_vv rfl rfl rfl (vv_fieldAddr fa_31_2 rfl) ?_
                refine sd_vv rfl rfl rfl (vv_fieldAddr fa_28_4 rfl) ?_
                refine sd_ev rfl rfl rfl (ev_stM (cs' := TPacket.cs (TPacket.mk (wd8 x1.1) (w64 (un x24.1)) (THeader.mk a31 x56.1 a63 x72.1 x73.1) 0#8 0#64 [] k0) vy32 vy64 (.slice none 0 0)) (vs := kb x73.1) (agg_26).siz rfl rfl rfl rfl rfl Bw63 rfl rfl) ?_
                rintro _ w65 ⟨Bw65, Mw65⟩
                have z223 := Mw65.size
                refine sd_nil ?_
                have K_224 : Kz [(1, b2), (1, b4)] w5 w65 := (Kz.md (Kz.md (Kz.kz (Kz.kz (Kz.md (Kz.kz (Kz.kz (Kz.md (Kz.kz (Kz.md (Kz.kz (Kz.kz (Kz.md (Kz.kz (Kz.refl _ _) Kw21) Mw23) Kw24) Kw25) Mw47) Kw48) Mw49) Kw50) Kw51) Mw60) Kw61) Kw62) Mw63) Mw65)
                have B225 := (Rd.md (Rd.md O62_b0_0 Mw63 (tk1 ((pv_1 (A := (fun x => x ≠ b4)) f62_b0_0 (pv_1 (A := (fun x => x ≠ b4)) f61_b0_0 (pv_1 (A := (fun x => x ≠ b4)) Fw51_3 (pv_1 (A := (fun x => x ≠ b4)) f50_b0_0 (pv_1 (A := (fun x => x ≠ b4)) f48_b0_0 (pv_1 (A := (fun x => x ≠ b4)) Fw25_3 (pv_1 (A := (fun x => x ≠ b4)) f24_b0_0 (pv_1 (A := (fun x => x ≠ b4)) f21_b0_0 (pv_lt (A := (fun x => x ≠ b4)) lt9))))))))) : z62_b0_0 = 0 ∨ g62_b0_0 ≠ b4))) Mw65 (tk1 ((pv_1 (A := (fun x => x ≠ b4)) f62_b0_0 (pv_1 (A := (fun x => x ≠ b4)) f61_b0_0 (pv_1 (A := (fun x => x ≠ b4)) Fw51_3 (pv_1 (A := (fun x => x ≠ b4)) f50_b0_0 (pv_1 (A := (fun x => x ≠ b4)) f48_b0_0 (pv_1 (A := (fun x => x ≠ b4)) Fw25_3 (pv_1 (A := (fun x => x ≠ b4)) f24_b0_0 (pv_1 (A := (fun x => x ≠ b4)) f21_b0_0 (pv_lt (A := (fun x => x ≠ b4)) lt9))))))))) : z62_b0_0 = 0 ∨ g62_b0_0 ≠ b4)))
                have B226 := (Own.md (Own.md (Own.kz (Own.kz (Own.md (Own.kz B182 Kw51 (tk1 ((pv_0 (A := (fun x => x ≠ b2)) Fw25_1) : zy32 = 0 ∨ gy32 ≠ b2))) Mw60 (tk1 ((pv_0 (A := (fun x => x ≠ b4)) Fw25_1) : zy32 = 0 ∨ gy32 ≠ b4))) Kw61 (tk1 ((pv_0 (A := (fun x => x ≠ b2)) Fw25_1) : zy32 = 0 ∨ gy32 ≠ b2))) Kw62 (tk1 ((pv_0 (A := (fun x => x ≠ b2)) Fw25_1) : zy32 = 0 ∨ gy32 ≠ b2))) Mw63 (tk1 ((pv_0 (A := (fun x => x ≠ b4)) Fw25_1) : zy32 = 0 ∨ gy32 ≠ b4))) Mw65 (tk1 ((pv_0 (A := (fun x => x ≠ b4)) Fw25_1) : zy32 = 0 ∨ gy32 ≠ b4)))
                have B227 := (Own.md (Own.md (Own.kz (Own.kz (Own.md Fw51_0 Mw60 (tk1 ((pv_0 (A := (fun x => x ≠ b4)) Fw51_1) : zy64 = 0 ∨ gy64 ≠ b4))) Kw61 (tk1 ((pv_0 (A := (fun x => x ≠ b2)) Fw51_1) : zy64 = 0 ∨ gy64 ≠ b2))) Kw62 (tk1 ((pv_0 (A := (fun x => x ≠ b2)) Fw51_1) : zy64 = 0 ∨ gy64 ≠ b2))) Mw63 (tk1 ((pv_0 (A := (fun x => x ≠ b4)) Fw51_1) : zy64 = 0 ∨ gy64 ≠ b4))) Mw65 (tk1 ((pv_0 (A := (fun x => x ≠ b4)) Fw51_1) : zy64 = 0 ∨ gy64 ≠ b4)))
                have B228 := (Bx.md (Bx.md Bk62_0 Mw63) Mw65)
                refine ⟨rfl, ⟨x73.2, w64 (un x24.1), a31, x56.1, a63, x72.1, x73.1, 0#8, 0#64, [], u62_b0_0, z62_b0_0, g62_b0_0, o62_b0_0, vy32, zy32, gy32, vy64, zy64, gy64, (.slice none 0 0), 0, 0⟩, ?_, hm, B225, ⟨(pv_1 (A := (fun x => (x = g3_b0_0 ∧ z3_b0_0 ≠ 0) ∨ w5.heap.size ≤ x)) f62_b0_0 (pv_1 (A := (fun x => (x = g3_b0_0 ∧ z3_b0_0 ≠ 0) ∨ w5.heap.size ≤ x)) f61_b0_0 (pv_1 (A := (fun x => (x = g3_b0_0 ∧ z3_b0_0 ≠ 0) ∨ w5.heap.size ≤ x)) Fw51_3 (pv_1 (A := (fun x => (x = g3_b0_0 ∧ z3_b0_0 ≠ 0) ∨ w5.heap.size ≤ x)) f50_b0_0 (pv_1 (A := (fun x => (x = g3_b0_0 ∧ z3_b0_0 ≠ 0) ∨ w5.heap.size ≤ x)) f48_b0_0 (pv_1 (A := (fun x => (x = g3_b0_0 ∧ z3_b0_0 ≠ 0) ∨ w5.heap.size ≤ x)) Fw25_3 (pv_1 (A := (fun x => (x = g3_b0_0 ∧ z3_b0_0 ≠ 0) ∨ w5.heap.size ≤ x)) f24_b0_0 (pv_1 (A := (fun x => (x = g3_b0_0 ∧ z3_b0_0 ≠ 0) ∨ w5.heap.size ≤ x)) f21_b0_0 tk0))))))))⟩, B226, ⟨(pv_0 (A := (fun x => w5.heap.size ≤ x)) Fw25_1)⟩, B227, ⟨(pv_0 (A := (fun x => w5.heap.size ≤ x)) Fw51_1)⟩, (own_nil _ 0 5 1), ⟨(.inl rfl)⟩, ⟨(pv_sw (pv_1 (A := (fun x => zy32 = 0 ∨ x ≠ gy32)) f62_b0_0 (pv_1 (A := (fun x => zy32 = 0 ∨ x ≠ gy32)) f61_b0_0 (pv_1 (A := (fun x => zy32 = 0 ∨ x ≠ gy32)) Fw51_3 (pv_1 (A := (fun x => zy32 = 0 ∨ x ≠ gy32)) f50_b0_0 (pv_1 (A := (fun x => zy32 = 0 ∨ x ≠ gy32)) f48_b0_0 (tk1 Fw25_4.o) (fun x hx => (tk1 lt91.o))) (fun x hx => (tk1 lt91.o))) (fun x hx => (tk1 lt91.o))) (fun x hx => (tk1 lt91.o))) (fun x hx => (tk1 lt91.o))))⟩, ⟨(pv_sw (pv_1 (A := (fun x => zy64 = 0 ∨ x ≠ gy64)) f62_b0_0 (pv_1 (A := (fun x => zy64 = 0 ∨ x ≠ gy64)) f61_b0_0 (tk1 Fw51_4.o) (fun x hx => (tk1 lt186.o))) (fun x hx => (tk1 lt186.o))))⟩, ⟨(pv_0 (A := (fun x => zy32 = 0 ∨ x ≠ gy32)) Fw51_1 (fun x hx => (tk1 lt91.o)))⟩, ⟨(.inl rfl)⟩, ⟨(.inl rfl)⟩, ⟨(.inl rfl)⟩, B228, Bw65, K_224⟩
                repeat' first | exact trivial | refine ⟨rfl, ?_⟩
end Go.Proofs.Ytjdffpglgkefmaa.Mx
