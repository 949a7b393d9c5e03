/- Several texts in one: Ref2 BitL Srt SrtSub Pl Air Tr Ts Fx Mb Lb Tk Fy SecN Nm Vb. -/
import Derived.Test.YtgdojjniakpadaaGreatZd
import Derived.Test.YtgdojjniakpadaaGreatRows
import Derived.Test.YtgdojjniakpadaaGreatZc
import Derived.KernelRfl
import Derived.Test.YtgdojjniakpadaaGreatZb
import Derived.Shelf.SlSortCmp.NoneTotal
import Derived.Shelf.SlGeneric
import Derived.Test.YtgdojjniakpadaaGreatProg
set_option linter.unusedVariables false
set_option linter.unusedSimpArgs false
section
set_option linter.unusedVariables false
set_option linter.unusedSimpArgs false
namespace Go.Proofs.YtgdojjniakpadaaGreat
open Go Go.RowKit Go.Sx
theorem zv_5 : ZV Tryz.prog 5 (.int .u8 0) := fun _ => by kernel_rfl
theorem bsl_32_1 : BSl Tryz.prog 32 1 5 1 [.int .u8 0] := bsl_mk Tryz.underlying32 (one_5).siz zv_5 rfl rfl (by kernel_rfl)
theorem apt_32 : ApT Tryz.prog 32 5 1 1 := apt_mk Tryz.underlying32 rfl (by kernel_rfl)
theorem en_344 : En Tryz.prog 344 := fun _ _ => by kernel_rfl
theorem en_290 : En Tryz.prog 290 := fun _ _ => by kernel_rfl
theorem en_289 : En Tryz.prog 289 := fun _ _ => by kernel_rfl
theorem en_285 : En Tryz.prog 285 := fun _ _ => by kernel_rfl
theorem en_283 : En Tryz.prog 283 := fun _ _ => by kernel_rfl
theorem zv_24 : ZV Tryz.prog 24 (.int .u64 0) := fun _ => by kernel_rfl
theorem bsl_308_1 : BSl Tryz.prog 308 1 24 1 [.int .u64 0] := bsl_mk Tryz.underlying308 (one_24).siz zv_24 rfl rfl (by kernel_rfl)
theorem en_286 : En Tryz.prog 286 := fun _ _ => by kernel_rfl
theorem apt_308 : ApT Tryz.prog 308 24 1 8 := apt_mk Tryz.underlying308 rfl (by kernel_rfl)
theorem en_284 : En Tryz.prog 284 := fun _ _ => by kernel_rfl
theorem en_287 : En Tryz.prog 287 := fun _ _ => by kernel_rfl
theorem en_185 : En Tryz.prog 185 := fun _ _ => by kernel_rfl
theorem en_180 : En Tryz.prog 180 := fun _ _ => by kernel_rfl
abbrev bc (n : Int) : List Value := [.int .u8 n]
abbrev uc (x : BitVec 64) : List Value := [wv x]
/-- a number in s bytes, the highest first -/
def byL (n : BitVec 64) (s : Nat) : List Int := (List.range s).map fun i => un (n >>> (8 * (s - 1 - i))) % 256
theorem byL_len (n : BitVec 64) (s : Nat) : (byL n s).length = s := by simp [byL]
theorem byL_succ (n : BitVec 64) (i : Nat) : byL n (i + 1) = un (n >>> (8 * i)) % 256 :: byL n i := by
  unfold byL
  rw [List.range_succ_eq_map, List.map_cons, List.map_map]
  congr 1
  apply List.map_congr_left
  intro j hj
  simp only [Function.comp, List.mem_range] at hj ⊢
  congr 4; omega
theorem shr8 (n : BitVec 64) (i : Nat) : (n >>> (8 * i)) >>> 8 = n >>> (8 * (i + 1)) := by
  rw [← BitVec.shiftRight_add]; congr 1
set_option maxHeartbeats 1000000 in
theorem bytes_c (n : BitVec 64) (s : Nat) (hs : s ≤ 1000) (w : World) :
    Calls Tryz.prog 290 [wv n, .int .i64 (s : Int)].toArray w fun e w' => ∃ v, e = .returned v ∧ (∃ z g, Own w' z g 5 1 v ((byL n s).map bc) ∧ (z = 0 ∨ w.heap.size ≤ g) ∧ Gr w w') := by
  refine calls_of_sw (R := fun v w' => ∃ z g, Own w' z g 5 1 v ((byL n s).map bc) ∧ (z = 0 ∨ w.heap.size ≤ g) ∧ Gr w w') 21 Tryz.func290 rfl rfl rfl ?_
  refine sw_seq ?_
  -- region 0 ref.go:17
  refine sw_region [(0, 0)] rfl rfl rfl ?_
  refine sd_vv rfl rfl rfl (vv_assign rfl) ?_
  refine sd_done ?_
  refine sw_seq ?_
  -- region 1 ref.go:18
  refine sw_region [(0, 0)] rfl rfl rfl ?_
  refine sd_vv rfl rfl rfl (vv_assign rfl) ?_
  refine sd_done ?_
  refine sw_seq ?_
  refine sw_seq ?_
  -- region 2 ref.go:19
  refine sw_region [(0, 0)] rfl rfl rfl ?_
  refine sd_vv rfl rfl rfl (vv_assign rfl) ?_
  refine sd_done ?_
  refine sw_block ?_
  refine sw_loopD (α := Nat × Value × Nat × Nat) [0, 5, 6, 7, 8, 9, 10, 11, 12, 13, 14, 15, 16, 17, 18, 19] (fun ⟨i, v, z, g⟩ => [(6, .int .i64 (i : Int)), (0, wv (n >>> (8 * i))), (5, v)]) (fun ⟨i, v, z, g⟩ wr => (i ≤ s) ∧ (Own wr z g 5 1 v ((byL n i).map bc) ∧ (z = 0 ∨ w.heap.size ≤ g)) ∧ Kp [] w wr) (fun ⟨i, v, z, g⟩ => s - i) (⟨0, .slice none 0 0, 0, 0⟩) ?_ ?_ ?_
  · repeat' first | exact trivial | refine ⟨by first | rfl | (rw [Nat.mul_zero, BitVec.ushiftRight_zero]; rfl), ?_⟩
  · exact ⟨Nat.zero_le _, ⟨(own_nil _ 0 _ _), .inl rfl⟩, Kp.refl _ _⟩
  rintro ⟨i, v, z, g⟩ w1 ⟨hi, ⟨Ow1_5, hOw1_5⟩, Kw1⟩
  have z1 := Kw1.size
  have lt2 := Ow1_5.lt
  refine sw_seq ?_
  refine sw_seq ?_
  -- region 3 ref.go:19
  refine sw_region [(0, 0), (1, 0), (2, 0)] rfl rfl rfl ?_
  refine sd_vv rfl rfl rfl (vv_move rfl) ?_
  refine sd_vv rfl rfl rfl (vv_move rfl) ?_
  refine sd_vv rfl rfl rfl (vv_lss rfl rfl) ?_
  refine sd_done ?_
  refine sw_cond rfl (fun h1 => ?_) (fun h1 => ?_)
  · -- h1 True
    replace h1 := of_decide_eq_true h1
    refine sw_skip ?_
    refine then_n ?_
    refine sw_seq ?_
    refine sw_block ?_
    refine sw_seq ?_
    -- region 5 ref.go:20
    refine sw_region [(0, 0), (1, 0), (2, 0), (3, 0), (4, 0), (5, 0), (6, 0)] rfl rfl rfl ?_
    refine sd_vv rfl rfl rfl (vv_move rfl) ?_
    refine sd_vv rfl rfl rfl (vv_rem rfl rfl (un_nonneg _) (by decide)) ?_
    refine sd_vv rfl rfl rfl (vv_convB cv_24_5 rfl (by omega) (by omega)) ?_
    refine sd_ev rfl rfl rfl (ev_lit bsl_32_1 rfl rfl rfl rfl rfl) ?_
    rintro vw2 w2 ⟨gw2, hbw2, Ow2, Gw2⟩
    have z3 := Gw2.size
    have lt4 := Ow2.lt
    refine sd_vv rfl rfl rfl (vv_move rfl) ?_
    have B5 := (Own.gr Ow1_5 Gw2)
    refine sd_ev rfl rfl rfl (ev_app apt_32 rfl rfl Ow2 (Own.rd B5) (by simp [chunk, byL_len]; omega) (by simp [chunk, byL_len]; omega)) ?_
    rintro vw3 w3 ⟨zw3, gw3, Ow3, Aw3, qw3, rw3, sw3⟩
    have z6 := Aw3.size
    have lt7 := Ow3.lt
    refine sd_vv rfl rfl rfl (vv_assign rfl) ?_
    refine sd_done ?_
    -- region 6 ref.go:21
    refine sw_region [(0, 0), (1, 0), (2, 0)] rfl rfl rfl ?_
    refine sd_vv rfl rfl rfl (vv_move rfl) ?_
    refine sd_vv rfl rfl rfl (vv_eq (vv_ushrQ rfl rfl) (show _ = wv (n >>> (8 * (i + 1))) from by rw [shr8])) ?_
    refine sd_vv rfl rfl rfl (vv_assign rfl) ?_
    refine sd_nil ?_
    refine block_n ?_
    refine then_n ?_
    -- region 4 ref.go:19
    refine sw_region [(0, 0), (1, 0), (2, 0)] rfl rfl rfl ?_
    refine sd_vv rfl rfl rfl (vv_move rfl) ?_
    refine sd_vv rfl rfl rfl (vv_add64 rfl rfl (by omega) (by omega)) ?_
    refine sd_vv rfl rfl rfl (vv_assign rfl) ?_
    refine sd_nil ?_
    have K_8 := (Kp.ka (Kp.gr Kw1 Gw2) Aw3 (by simp <;> first | omega | (split <;> omega)))
    refine ⟨rfl, ⟨i + 1, vw3, zw3, gw3⟩, ?_, ⟨?_, ⟨?_, by omega⟩, K_8⟩, ?_⟩
    · repeat' first | exact trivial | refine ⟨rfl, ?_⟩
    · omega
    · rw [byL_succ]; exact Ow3
    · first | omega | (dsimp only; omega)
  · -- h1 False
    replace h1 := of_decide_eq_false h1
    refine sw_exit ?_
    refine then_x ?_
    refine then_x ?_
    refine block_x ?_
    refine then_n ?_
    refine sw_seq ?_
    -- region 7 ref.go:23
    refine sw_region [(0, 0), (1, 0)] rfl rfl rfl ?_
    refine sd_vv rfl rfl rfl (vv_move rfl) ?_
    refine sd_vv rfl rfl rfl (vv_assign rfl) ?_
    refine sd_done ?_
    refine sw_ret ?_
    obtain rfl : i = s := by omega
    have X9 : Gr w w1 := (Gr.kp (Gr.refl w) Kw1 (by simp <;> first | omega | (split <;> omega)))
    refine ⟨_, _, rfl, res_tmp rfl rfl, ?_⟩
    exact ⟨z, g, Ow1_5, by omega, X9⟩
/-- the number in some bytes, the highest first -/
def valL (ys : List Int) : BitVec 64 := ys.foldl (fun n y => 256#64 * n + wd y) 0#64
theorem valL_step {ys : List Int} {i : Nat} {y : Int} (h : ys[i]? = some y) : valL (ys.take (i + 1)) = 256#64 * valL (ys.take i) + wd y := by
  rw [List.take_add_one, h]; simp [valL]
set_option maxHeartbeats 1000000 in
theorem value_c (b : Value) (z g o : Nat) (ys : List Int) (hys : ∀ y ∈ ys, 0 ≤ y ∧ y ≤ 255) (hlen : ys.length ≤ 9223372036854775807) (w : World) (hb : Rd w z g o 1 b (ys.map bc)) :
    Calls Tryz.prog 344 [b].toArray w fun e w' => ∃ v, e = .returned v ∧ (v = wv (valL ys) ∧ Gr w w') := by
  have lt1 := hb.lt
  refine calls_of_sw (R := fun v w' => v = wv (valL ys) ∧ Gr w w') 20 Tryz.func344 rfl rfl rfl ?_
  refine sw_seq ?_
  -- region 0 ref.go:27
  refine sw_region [(0, 0)] rfl rfl rfl ?_
  refine sd_vv rfl rfl rfl (vv_assign rfl) ?_
  refine sd_done ?_
  refine sw_seq ?_
  -- region 1 ref.go:28
  refine sw_region [(0, 0)] rfl rfl rfl ?_
  refine sd_vv rfl rfl rfl (vv_assign rfl) ?_
  refine sd_done ?_
  refine sw_seq ?_
  refine sw_seq ?_
  -- region 2 ref.go:29
  refine sw_region [(0, 0)] rfl rfl rfl ?_
  refine sd_vv rfl rfl rfl (vv_assign rfl) ?_
  refine sd_done ?_
  refine sw_block ?_
  refine sw_loopD (α := Nat) [3, 4, 5, 6, 7, 8, 9, 10, 11, 12, 13, 14, 15, 16, 17, 18] (fun i => [(4, .int .i64 (i : Int)), (3, wv (valL (ys.take i)))]) (fun i wr => (i ≤ ys.length) ∧ Kp [] w wr) (fun i => ys.length - i) (0) ?_ ?_ ?_
  · repeat' first | exact trivial | refine ⟨rfl, ?_⟩
  · exact ⟨Nat.zero_le _, Kp.refl _ _⟩
  rintro i w1 ⟨hi, Kw1⟩
  have z2 := Kw1.size
  refine sw_seq ?_
  refine sw_seq ?_
  -- region 3 ref.go:29
  refine sw_region [(0, 0), (1, 0), (2, 0), (3, 0)] rfl rfl rfl ?_
  refine sd_vv rfl rfl rfl (vv_move rfl) ?_
  refine sd_vv rfl rfl rfl (vv_move rfl) ?_
  have B3 := (Rd.kp hb Kw1 (by simp <;> first | omega | (split <;> omega)))
  refine sd_vv rfl rfl rfl (vv_lenN (n := ys.length) Tryz.underlying32 rfl B3 (by simp)) ?_
  refine sd_vv rfl rfl rfl (vv_lss rfl rfl) ?_
  refine sd_done ?_
  refine sw_cond rfl (fun h1 => ?_) (fun h1 => ?_)
  · -- h1 True
    replace h1 := of_decide_eq_true h1
    obtain ⟨y, hy, hym⟩ := get_ex (show i < ys.length by omega)
    have hyb := hys y hym
    refine sw_skip ?_
    refine then_n ?_
    refine sw_seq ?_
    refine sw_block ?_
    -- region 5 ref.go:30
    refine sw_region [(0, 0), (1, 0), (2, 0), (3, 0), (4, 0), (5, 0), (6, 0), (7, 0), (8, 0)] rfl rfl rfl ?_
    refine sd_vv rfl rfl rfl (vv_move rfl) ?_
    refine sd_vv rfl rfl rfl (vv_umul (a := 256#64) rfl rfl) ?_
    refine sd_vv rfl rfl rfl (vv_move rfl) ?_
    refine sd_vv rfl rfl rfl (vv_move rfl) ?_
    refine sd_vv rfl rfl rfl (vv_ixN (n := ys.length) Tryz.underlying32 (one_5).siz rfl B3 (by simp) rfl (by omega) (by omega)) ?_
    refine sd_vv rfl rfl rfl (vv_el1 (q := 0) one_5 rfl B3 (getm hy) (by omega) (show _ = some _ from by rfl)) ?_
    refine sd_vv rfl rfl rfl (vv_convIU cv_5_24 rfl (by omega) (by omega)) ?_
    refine sd_vv rfl rfl rfl (vv_uadd rfl rfl) ?_
    refine sd_vv rfl rfl rfl (vv_assign rfl) ?_
    refine sd_nil ?_
    refine block_n ?_
    refine then_n ?_
    -- region 4 ref.go:29
    refine sw_region [(0, 0), (1, 0), (2, 0)] rfl rfl rfl ?_
    refine sd_vv rfl rfl rfl (vv_move rfl) ?_
    refine sd_vv rfl rfl rfl (vv_add64 rfl rfl (by omega) (by omega)) ?_
    refine sd_vv rfl rfl rfl (vv_assign rfl) ?_
    refine sd_nil ?_
    have K_4 := Kw1
    refine ⟨rfl, i + 1, ?_, ⟨?_, K_4⟩, ?_⟩
    · repeat' first | exact trivial | refine ⟨by first | rfl | (rw [valL_step hy]; rfl), ?_⟩
    · omega
    · first | omega | (dsimp only; omega)
  · -- h1 False
    replace h1 := of_decide_eq_false h1
    obtain rfl : i = ys.length := by omega
    refine sw_exit ?_
    refine then_x ?_
    refine then_x ?_
    refine block_x ?_
    refine then_n ?_
    refine sw_seq ?_
    -- region 6 ref.go:32
    refine sw_region [(0, 0), (1, 0)] rfl rfl rfl ?_
    refine sd_vv rfl rfl rfl (vv_move rfl) ?_
    refine sd_vv rfl rfl rfl (vv_assign rfl) ?_
    refine sd_done ?_
    refine sw_ret ?_
    have X5 : Gr w w1 := (Gr.kp (Gr.refl w) Kw1 (by simp <;> first | omega | (split <;> omega)))
    refine ⟨_, _, rfl, res_tmp rfl rfl, ?_⟩
    exact ⟨by rw [List.take_length], X5⟩
/-- the bytes of a word -/
def bw (x : BitVec 64) : List Int := [bt x 0, bt x 1, bt x 2, bt x 3, bt x 4, bt x 5, bt x 6, bt x 7]
theorem byL_8 (x : BitVec 64) : byL x 8 = bw x := rfl
theorem bw_bd (x : BitVec 64) : ∀ y ∈ bw x, 0 ≤ y ∧ y ≤ 255 := by
  intro y hy
  simp only [bw, List.mem_cons, List.not_mem_nil, or_false] at hy
  rcases hy with rfl | rfl | rfl | rfl | rfl | rfl | rfl | rfl <;> exact ⟨bt_nonneg _ _, bt_le _ _⟩
theorem mul256 (a : BitVec 64) : 256#64 * a = a <<< 8 := by
  apply BitVec.eq_of_toNat_eq
  rw [BitVec.toNat_mul, BitVec.toNat_shiftLeft, Nat.shiftLeft_eq, Nat.mul_comm]; rfl
theorem add_or (a : BitVec 64) (y : Int) (h0 : 0 ≤ y) (h1 : y ≤ 255) : a <<< 8 + wd y = a <<< 8 ||| wd y := by
  apply BitVec.add_eq_or_of_and_eq_zero
  apply BitVec.eq_of_getLsbD_eq
  intro j hj
  rw [BitVec.getLsbD_and, BitVec.getLsbD_shiftLeft, BitVec.getLsbD_zero]
  by_cases h : j < 8
  · simp [h]
  · have hw : (wd y).toNat < 2 ^ j := by
      have e := un_wd y h0 (by omega)
      have : (wd y).toNat < 2 ^ 8 := by unfold un at e; omega
      exact Nat.lt_of_lt_of_le this (Nat.pow_le_pow_right (by omega) (by omega))
    have : (wd y).getLsbD j = false := Nat.testBit_lt_two_pow hw
    rw [this]; simp
theorem val_step (x : BitVec 64) (k : Nat) (hk : k < 8) : 256#64 * (x >>> (64 - 8 * k)) + wd (bt x k) = x >>> (64 - 8 * (k + 1)) := by
  rw [mul256, add_or _ _ (bt_nonneg x k) (bt_le x k), shl_step x k hk]
theorem val_bw (x : BitVec 64) : valL (bw x) = x := by
  have h0 := val_step x 0 (by decide)
  have h1 := val_step x 1 (by decide)
  have h2 := val_step x 2 (by decide)
  have h3 := val_step x 3 (by decide)
  have h4 := val_step x 4 (by decide)
  have h5 := val_step x 5 (by decide)
  have h6 := val_step x 6 (by decide)
  have h7 := val_step x 7 (by decide)
  simp only [Nat.mul_zero, Nat.sub_zero, shr_64] at h0
  simp only [valL, bw, List.foldl_cons, List.foldl_nil, h0, h1, h2, h3, h4, h5, h6, h7]
  simp
set_option maxHeartbeats 1000000 in
theorem rwords_c (p : W2) (w : World) :
    Calls Tryz.prog 283 [kv p].toArray w fun e w' => ∃ v, e = .returned v ∧ (v = .tuple [wv p.1, wv p.2].toArray ∧ Gr w w') := by
  refine calls_of_sw (R := fun v w' => v = .tuple [wv p.1, wv p.2].toArray ∧ Gr w w') 8 Tryz.func283 rfl rfl rfl ?_
  refine sw_seq ?_
  -- region 0 ref.go:36
  refine sw_region [(0, 0), (1, 0), (2, 0)] rfl rfl rfl ?_
  refine sd_ev rfl rfl rfl (ev_box rfl (by rfl)) ?_
  rintro _ w1 ⟨b1, rfl, hbw1, Bw1, Gw1⟩
  have z1 := Gw1.size
  have lt2 := Bw1.lt
  refine sd_vv rfl rfl rfl (vv_assign rfl) ?_
  refine sd_vv rfl rfl rfl (vv_assign rfl) ?_
  refine sd_done ?_
  refine sw_seq ?_
  -- region 1 ref.go:36 DRAWS
  refine sw_draw [] [(0, 3), (2, 3), (1, 0), (3, 0), (4, 3), (5, 3)] (by kernel_rfl) (by kernel_rfl) rfl (by kernel_rfl) ?_
  intro w2 Gw2 zw2
  refine dd_h3 rfl rfl rfl (Kp.refl [] w2) (fun w hS => vv_sliceA (l := 0) (h := 8) Tryz.underlying23 (one_5).siz rfl rfl ⟨_, rfl⟩ (by omega) (by omega) (by omega)) ?_
  refine dd_h3 rfl rfl rfl (Kp.refl [] w2) (fun w hS => vv_sliceA (l := 8) (h := 16) Tryz.underlying23 (one_5).siz rfl ⟨_, rfl⟩ rfl (by omega) (by omega) (by omega)) ?_
  have B3 := (Bx.gr Bw1 Gw2)
  refine dd_ev rfl rfl rfl (ev_call en_344 rfl (value_c _ _ _ _ (bw p.1) (bw_bd _) (by simp [bw]) _ (rd_seg (sz := 1) (xs := (bw p.1).map bc) B3 (ws_of rfl) rfl rfl))) ?_
  rintro _ w3 ⟨rfl, Gw3⟩
  have z4 := Gw3.size
  refine ⟨Gw3, ?_⟩
  have B5 := (Bx.gr B3 Gw3)
  refine dd_ev rfl rfl rfl (ev_call en_344 rfl (value_c _ _ _ _ (bw p.2) (bw_bd _) (by simp [bw]) _ (rd_seg (sz := 1) (xs := (bw p.2).map bc) B5 (ws_of rfl) rfl rfl))) ?_
  rintro _ w4 ⟨rfl, Gw4⟩
  have z6 := Gw4.size
  refine ⟨Gw4, ?_⟩
  have S7 := (Kp.gr (Kp.gr (Kp.refl [] w2) Gw3) Gw4)
  refine dd_h3 rfl rfl rfl S7 (fun w hS => vv_assign rfl) ?_
  refine dd_h3 rfl rfl rfl S7 (fun w hS => vv_assign rfl) ?_
  refine sd_done ?_
  refine sw_ret ?_
  have X8 : Gr w w4 := (Gr.trans (Gr.trans (Gr.trans (Gr.trans (Gr.refl w) Gw1) Gw2) Gw3) Gw4)
  refine ⟨_, _, rfl, res_2 rfl (rv_tmp rfl) (rv_tmp rfl), ?_⟩
  exact ⟨by rw [val_bw, val_bw], X8⟩
/-- bytes aas they are laid into a key -/
def keyTo (ys : List Int) (n : Nat) : List Value := (List.range 16).map fun i => if i < n then .int .u8 (ys.getD i 0) else .int .u8 0
theorem keyTo_len (ys : List Int) (n : Nat) : (keyTo ys n).length = 16 := by simp [keyTo]
theorem keyTo_0 (ys : List Int) : keyTo ys 0 = List.replicate 16 (.int .u8 0) := by rfl
theorem keyTo_set (ys : List Int) (n : Nat) (y : Int) (h : n < 16) (hy : ys[n]? = some y) : (keyTo ys n).set (0 + (n : Int).toNat * 1) (.int .u8 y) = keyTo ys (n + 1) := by
  have e : 0 + (n : Int).toNat * 1 = n := by omega
  have hd : ys.getD n 0 = y := by simp [List.getD, hy]
  rw [e]
  apply List.ext_getElem?
  intro i
  rw [List.getElem?_set]
  unfold keyTo
  by_cases hi : i < 16
  · by_cases h2 : n = i
    · subst h2; simp [h, hy]
    · have : (i < n + 1) = (i < n) := by apply propext; omega
      simp [h2, hi, this]
  · simp [hi]; omega
theorem keyTo_16 (p : W2) : keyTo (bw p.1 ++ bw p.2) 16 = kb p := by rfl
/-- a key of bytes -/
theorem blk_bytes (tag : Int) (n : BitVec 64) (h0 : 0 ≤ tag) (h1 : tag ≤ 255) : [tag] ++ byL 0#64 7 ++ byL n 8 = bw (blk tag 0#64 n).1 ++ bw (blk tag 0#64 n).2 := by
  have e : ∀ i, i < 8 → bt (wd tag <<< 56 ||| 0#64) i = if i = 0 then tag else 0 := by
    intro i hi
    unfold bt
    have hz : wd tag <<< 56 ||| 0#64 = wd tag <<< 56 := by simp
    rw [hz]
    have ht : (wd tag).toNat = tag.toNat := by have := un_wd tag h0 (by omega); unfold un at this; omega
    have hsh : (wd tag <<< 56).toNat = tag.toNat * 2 ^ 56 := by
      rw [BitVec.toNat_shiftLeft, ht, Nat.shiftLeft_eq, Nat.mod_eq_of_lt]
      have : tag.toNat ≤ 255 := by omega
      omega
    have hun : un ((wd tag <<< 56) >>> (56 - 8 * i)) = ((tag.toNat * 2 ^ 56 / 2 ^ (56 - 8 * i) : Nat) : Int) := by
      unfold un; rw [BitVec.toNat_ushiftRight, hsh, Nat.shiftRight_eq_div_pow]
    have h56 : 8 * i + (56 - 8 * i) = 56 := by omega
    have hpow : (2 : Nat) ^ 56 = 2 ^ (8 * i) * 2 ^ (56 - 8 * i) := by rw [← Nat.pow_add, h56]
    rw [hun, hpow, ← Nat.mul_assoc, Nat.mul_div_cancel _ (Nat.two_pow_pos _)]
    by_cases h : i = 0
    · subst h; rw [if_pos rfl, Nat.mul_zero, Nat.pow_zero, Nat.mul_one]; omega
    · obtain ⟨m, rfl⟩ : ∃ m, i = m + 1 := ⟨i - 1, by omega⟩
      rw [if_neg h, show 8 * (m + 1) = 8 * m + 8 from by omega, Nat.pow_add]
      have : tag.toNat * (2 ^ (8 * m) * 2 ^ 8) = 256 * (tag.toNat * 2 ^ (8 * m)) := by rw [← Nat.mul_assoc, Nat.mul_comm]
      rw [this]; omega
  have hb : bw (blk tag 0#64 n).1 = [tag, 0, 0, 0, 0, 0, 0, 0] := by
    unfold bw blk
    rw [e 0 (by decide), e 1 (by decide), e 2 (by decide), e 3 (by decide), e 4 (by decide), e 5 (by decide), e 6 (by decide), e 7 (by decide)]
    simp
  have hz : byL 0#64 7 = [0, 0, 0, 0, 0, 0, 0] := by decide
  rw [hb, byL_8, hz]
  rfl
set_option maxHeartbeats 1000000 in
theorem rkey_c (b : Value) (z g o : Nat) (p : W2) (ys : List Int) (hys : ys = bw p.1 ++ bw p.2) (w : World) (hb : Rd w z g o 1 b (ys.map bc)) :
    Calls Tryz.prog 289 [b].toArray w fun e w' => ∃ v, e = .returned v ∧ (v = kv p ∧ Gr w w') := by
  have lt1 := hb.lt
  have hlen : ys.length = 16 := by rw [hys]; rfl
  refine calls_of_sw (R := fun v w' => v = kv p ∧ Gr w w') 22 Tryz.func289 rfl rfl rfl ?_
  refine sw_seq ?_
  -- region 0 ref.go:42
  refine sw_region [(0, 0)] rfl rfl rfl ?_
  refine sd_ev rfl rfl rfl (ev_alloc zv_23 (by rfl)) ?_
  rintro _ w1 ⟨b1, rfl, hbw1, Bw1, Gw1⟩
  have z2 := Gw1.size
  have lt3 := Bw1.lt
  refine sd_done ?_
  refine sw_seq ?_
  -- region 1 ref.go:43
  refine sw_region [(0, 0)] rfl rfl rfl ?_
  refine sd_ev rfl rfl rfl (ev_alloc zv_23 (by rfl)) ?_
  rintro _ w2 ⟨b2, rfl, hbw2, Bw2, Gw2⟩
  have z4 := Gw2.size
  have lt5 := Bw2.lt
  refine sd_done ?_
  refine sw_seq ?_
  refine sw_seq ?_
  -- region 2 ref.go:44
  refine sw_region [(0, 0)] rfl rfl rfl ?_
  refine sd_vv rfl rfl rfl (vv_assign rfl) ?_
  refine sd_done ?_
  refine sw_block ?_
  have X6 : Gr w w2 := (Gr.trans (Gr.trans (Gr.refl w) Gw1) Gw2)
  refine sw_loopD (α := Nat) [4, 5, 6, 7, 8, 9, 10, 11, 12, 13, 14, 15, 16, 17, 18, 19, 20] (fun i => [(4, .int .i64 (i : Int))]) (fun i wr => (i ≤ 16) ∧ Bx wr b2 23 (keyTo ys i) ∧ Kp [b2] w2 wr) (fun i => 16 - i) (0) ?_ ?_ ?_
  · repeat' first | exact trivial | refine ⟨rfl, ?_⟩
  · exact ⟨Nat.zero_le _, (by rw [keyTo_0]; exact Bw2), Kp.refl _ _⟩
  rintro i w3 ⟨hi, Bw3_b2, Kw3⟩
  have z7 := Kw3.size
  refine sw_seq ?_
  refine sw_seq ?_
  -- region 3 ref.go:44
  refine sw_region [(0, 0), (1, 0), (2, 0), (3, 0), (4, 0), (5, 0), (6, 0), (7, 0)] rfl rfl rfl ?_
  refine sd_vv rfl rfl rfl (vv_move rfl) ?_
  refine sd_vv rfl rfl rfl (vv_lss rfl rfl) ?_
  refine sd_split rfl rfl rfl (vv_move rfl) (fun h1 => ?_) (fun h1 => ?_)
  · -- h1 True
    replace h1 := of_decide_eq_true h1
    refine sd_vv rfl rfl rfl (vv_move rfl) ?_
    refine sd_vv rfl rfl rfl (vv_move rfl) ?_
    have B8 := (Rd.kp (Rd.gr (Rd.gr hb Gw1) Gw2) Kw3 (by simp <;> first | omega | (split <;> omega)))
    refine sd_vv rfl rfl rfl (vv_lenN (n := 16) Tryz.underlying32 rfl B8 (by rw [List.length_map]; exact hlen)) ?_
    refine sd_vv rfl rfl rfl (vv_lss rfl rfl) ?_
    refine sd_vv rfl rfl rfl (vv_pickT rfl rfl) ?_
    refine sd_done ?_
    refine sw_cond rfl (fun h2 => ?_) (fun h2 => ?_)
    · -- h2 True
      replace h2 := of_decide_eq_true h2
      refine sw_skip ?_
      refine then_n ?_
      refine sw_seq ?_
      refine sw_block ?_
      -- region 5 ref.go:45
      refine sw_region [(0, 0), (1, 0), (2, 0), (3, 0), (4, 0), (5, 0), (6, 0)] rfl rfl rfl ?_
      obtain ⟨y, hy, hym⟩ := get_ex (show i < ys.length by omega)
      refine sd_vv rfl rfl rfl (vv_move rfl) ?_
      refine sd_vv rfl rfl rfl (vv_move rfl) ?_
      refine sd_vv rfl rfl rfl (vv_move rfl) ?_
      refine sd_vv rfl rfl rfl (vv_ixN (n := 16) Tryz.underlying32 (one_5).siz rfl B8 (by rw [List.length_map]; exact hlen) rfl (by omega) (by omega)) ?_
      refine sd_vv rfl rfl rfl (vv_el1 (q := 0) one_5 rfl B8 (getm hy) (by omega) (show _ = some _ from by rfl)) ?_
      refine sd_vv rfl rfl rfl (vv_indexAddr Tryz.underlying23 (one_5).siz rfl rfl (by omega) (by omega)) ?_
      refine sd_ev rfl rfl rfl (ev_store1 (one_5).siz rfl rfl rfl Bw3_b2 (by rw [keyTo_len]; omega)) ?_
      rintro _ w4 ⟨Bw4, Mw4⟩
      have z9 := Mw4.size
      refine sd_nil ?_
      refine block_n ?_
      refine then_n ?_
      -- region 4 ref.go:44
      refine sw_region [(0, 0), (1, 0), (2, 0)] rfl rfl rfl ?_
      refine sd_vv rfl rfl rfl (vv_move rfl) ?_
      refine sd_vv rfl rfl rfl (vv_add64 rfl rfl (by omega) (by omega)) ?_
      refine sd_vv rfl rfl rfl (vv_assign rfl) ?_
      refine sd_nil ?_
      have K_10 := (Kp.md Kw3 Mw4 (by simp <;> first | omega | (split <;> omega)))
      refine ⟨rfl, i + 1, ?_, ⟨?_, ?_, K_10⟩, ?_⟩
      · repeat' first | exact trivial | refine ⟨rfl, ?_⟩
      · omega
      · rw [← keyTo_set ys i y (by omega) hy]; exact Bw4
      · first | omega | (dsimp only; omega)
    · -- h2 False
      replace h2 := of_decide_eq_false h2
      refine sw_exit ?_
      refine then_x ?_
      refine then_x ?_
      refine block_x ?_
      refine then_n ?_
      refine sw_seq ?_
      obtain rfl : i = 16 := by omega
      -- region 6 ref.go:47
      refine sw_region [(0, 0), (1, 0)] rfl rfl rfl ?_
      refine sd_vv rfl rfl rfl (vv_loadW agg_23 rfl Bw3_b2 (by first | rfl | exact keyTo_len _ _)) ?_
      have B11 := (Bx.kp (Bx.gr Bw1 Gw2) Kw3 (by simp <;> first | omega | (split <;> omega)))
      refine sd_ev rfl rfl rfl (ev_storeW (agg_23).siz rfl rfl (by rfl) (by first | rfl | exact keyTo_len _ _) (by rfl) B11 (by first | rfl | exact keyTo_len _ _)) ?_
      rintro _ w5 ⟨Bw5, Mw5⟩
      have z12 := Mw5.size
      refine sd_done ?_
      refine sw_ret ?_
      
      have X13 : Gr w w5 := (Gr.md (Gr.kp X6 Kw3 (by simp <;> first | omega | (split <;> omega))) Mw5 (by omega))
      refine ⟨_, _, rfl, res_cellW rfl agg_23 rfl Bw5 (by first | rfl | exact keyTo_len _ _), ?_⟩
      exact ⟨by rw [hys, keyTo_16], X13⟩
  · -- h1 False
    replace h1 := of_decide_eq_false h1
    refine sd_skip rfl rfl rfl ?_
    refine sd_skip rfl rfl rfl ?_
    refine sd_skip rfl rfl rfl ?_
    refine sd_skip rfl rfl rfl ?_
    refine sd_vv rfl rfl rfl (vv_pickF rfl rfl) ?_
    refine sd_done ?_
    refine sw_condF rfl ?_
    refine sw_exit ?_
    refine then_x ?_
    refine then_x ?_
    refine block_x ?_
    refine then_n ?_
    refine sw_seq ?_
    obtain rfl : i = 16 := by omega
    -- region 6 ref.go:47
    refine sw_region [(0, 0), (1, 0)] rfl rfl rfl ?_
    refine sd_vv rfl rfl rfl (vv_loadW agg_23 rfl Bw3_b2 (by first | rfl | exact keyTo_len _ _)) ?_
    have B14 := (Bx.kp (Bx.gr Bw1 Gw2) Kw3 (by simp <;> first | omega | (split <;> omega)))
    refine sd_ev rfl rfl rfl (ev_storeW (agg_23).siz rfl rfl (by rfl) (by first | rfl | exact keyTo_len _ _) (by rfl) B14 (by first | rfl | exact keyTo_len _ _)) ?_
    rintro _ w6 ⟨Bw6, Mw6⟩
    have z15 := Mw6.size
    refine sd_done ?_
    refine sw_ret ?_
    have X16 : Gr w w6 := (Gr.md (Gr.kp X6 Kw3 (by simp <;> first | omega | (split <;> omega))) Mw6 (by omega))
    refine ⟨_, _, rfl, res_cellW rfl agg_23 rfl Bw6 (by first | rfl | exact keyTo_len _ _), ?_⟩
    exact ⟨by rw [hys, keyTo_16], X16⟩
set_option maxHeartbeats 1000000 in
theorem rblock_c (p : W2) (w : World) :
    Calls Tryz.prog 287 [wv p.1, wv p.2].toArray w fun e w' => ∃ v, e = .returned v ∧ (v = kv p ∧ Gr w w') := by
  refine calls_of_sw (R := fun v w' => v = kv p ∧ Gr w w') 11 Tryz.func287 rfl rfl rfl ?_
  refine sw_seq ?_
  -- region 0 ref.go:39
  refine sw_region [(0, 0)] rfl rfl rfl ?_
  refine sd_ev rfl rfl rfl (ev_alloc zv_23 (by rfl)) ?_
  rintro _ w1 ⟨b1, rfl, hbw1, Bw1, Gw1⟩
  have z1 := Gw1.size
  have lt2 := Bw1.lt
  refine sd_done ?_
  refine sw_seq ?_
  -- region 1 ref.go:39
  refine sw_region [(0, 0), (1, 0), (2, 0), (3, 0), (4, 0), (5, 0), (6, 0)] rfl rfl rfl ?_
  refine sd_vv rfl rfl rfl (vv_move rfl) ?_
  refine sd_ev rfl rfl rfl (ev_call en_290 rfl (bytes_c _ 8 (by decide) _)) ?_
  rintro v2 w2 ⟨z2_, g2_, O2, hg2, Gw2⟩
  have z3 := Gw2.size
  have lt4 := O2.lt
  refine sd_vv rfl rfl rfl (vv_move rfl) ?_
  refine sd_ev rfl rfl rfl (ev_call en_290 rfl (bytes_c _ 8 (by decide) _)) ?_
  rintro v3 w3 ⟨z3_, g3_, O3, hg3, Gw3⟩
  have z5 := Gw3.size
  have lt6 := O3.lt
  have B7 := (Own.gr O2 Gw3)
  refine sd_ev rfl rfl rfl (ev_app apt_32 rfl rfl B7 (Own.rd O3) (by simp [byL_len]) (by simp [byL_len])) ?_
  rintro vw4 w4 ⟨zw4, gw4, Ow4, Aw4, qw4, rw4, sw4⟩
  have z8 := Aw4.size
  have lt9 := Ow4.lt
  refine sd_ev rfl rfl rfl (ev_call en_289 rfl (rkey_c _ _ _ _ p (byL p.1 8 ++ byL p.2 8) (by rw [byL_8, byL_8]) _ (by rw [List.map_append]; exact (Own.rd Ow4)))) ?_
  rintro _ w5 ⟨rfl, Gw5⟩
  have z10 := Gw5.size
  have B11 := (Bx.gr (Bx.ka (Bx.gr (Bx.gr Bw1 Gw2) Gw3) Aw4 (by omega)) Gw5)
  refine sd_ev rfl rfl rfl (ev_storeW (agg_23).siz rfl rfl (by rfl) (by rfl) (by rfl) B11 (by rfl)) ?_
  rintro _ w6 ⟨Bw6, Mw6⟩
  have z12 := Mw6.size
  refine sd_done ?_
  refine sw_ret ?_
  have X13 : Gr w w6 := (Gr.md (Gr.trans (Gr.ka (Gr.trans (Gr.trans (Gr.trans (Gr.refl w) Gw1) Gw2) Gw3) Aw4 (by omega)) Gw5) Mw6 (by omega))
  refine ⟨_, _, rfl, res_cellW rfl agg_23 rfl Bw6 (by rfl), ?_⟩
  exact ⟨rfl, X13⟩
theorem rot_e (x : BitVec 64) (n : Nat) (h1 : 1 ≤ n) (h2 : n ≤ 63) : x >>> (n : Int).toNat ||| x <<< (64 - (n : Int)).toNat = rotl x (64 - n) := by
  unfold rotl
  rw [show (n : Int).toNat = n from by omega, show (64 - (n : Int)).toNat = 64 - n from by omega, show 64 - (64 - n) = n from by omega, BitVec.or_comm]
set_option maxHeartbeats 1000000 in
theorem rotr_c (x : BitVec 64) (n : Nat) (h1 : 1 ≤ n) (h2 : n ≤ 63) (w : World) :
    Calls Tryz.prog 285 [wv x, .int .i64 (n : Int)].toArray w fun e w' => ∃ v, e = .returned v ∧ (v = wv (rotl x (64 - n)) ∧ Gr w w') := by
  refine calls_of_sw (R := fun v w' => v = wv (rotl x (64 - n)) ∧ Gr w w') 13 Tryz.func285 rfl rfl rfl ?_
  refine sw_seq ?_
  -- region 0 ref.go:51
  refine sw_region [(0, 0)] rfl rfl rfl ?_
  refine sd_vv rfl rfl rfl (vv_assign rfl) ?_
  refine sd_done ?_
  refine sw_seq ?_
  -- region 1 ref.go:51 DRAWS
  refine sw_draw [] [(0, 3), (1, 3), (2, 3), (3, 3), (4, 3), (5, 3), (6, 3), (7, 3), (8, 3)] (by kernel_rfl) (by kernel_rfl) rfl (by kernel_rfl) ?_
  intro w1 Gw1 zw1
  refine dd_h3 rfl rfl rfl (Kp.refl [] w1) (fun w hS => vv_move rfl) ?_
  refine dd_h3 rfl rfl rfl (Kp.refl [] w1) (fun w hS => vv_move rfl) ?_
  refine dd_h3 rfl rfl rfl (Kp.refl [] w1) (fun w hS => vv_ushr rfl rfl (by omega)) ?_
  refine dd_h3 rfl rfl rfl (Kp.refl [] w1) (fun w hS => vv_move rfl) ?_
  refine dd_h3 rfl rfl rfl (Kp.refl [] w1) (fun w hS => vv_move rfl) ?_
  refine dd_h3 rfl rfl rfl (Kp.refl [] w1) (fun w hS => vv_sub64 rfl rfl (by omega) (by omega)) ?_
  refine dd_h3 rfl rfl rfl (Kp.refl [] w1) (fun w hS => vv_ushl rfl rfl (by omega)) ?_
  refine dd_h3 rfl rfl rfl (Kp.refl [] w1) (fun w hS => vv_uor rfl rfl) ?_
  refine dd_h3 rfl rfl rfl (Kp.refl [] w1) (fun w hS => vv_assign rfl) ?_
  refine sd_done ?_
  refine sw_ret ?_
  have X1 : Gr w w1 := (Gr.trans (Gr.refl w) Gw1)
  refine ⟨_, _, rfl, res_tmp rfl rfl, ?_⟩
  exact ⟨by rw [← rot_e x n h1 h2], X1⟩
set_option maxHeartbeats 1000000 in
theorem rotl_c (x : BitVec 64) (n : Nat) (h1 : 1 ≤ n) (h2 : n ≤ 63) (w : World) :
    Calls Tryz.prog 286 [wv x, .int .i64 (n : Int)].toArray w fun e w' => ∃ v, e = .returned v ∧ (v = wv (rotl x n) ∧ Gr w w') := by
  refine calls_of_sw (R := fun v w' => v = wv (rotl x n) ∧ Gr w w') 9 Tryz.func286 rfl rfl rfl ?_
  refine sw_seq ?_
  -- region 0 ref.go:54
  refine sw_region [(0, 0)] rfl rfl rfl ?_
  refine sd_vv rfl rfl rfl (vv_assign rfl) ?_
  refine sd_done ?_
  refine sw_seq ?_
  -- region 1 ref.go:54
  refine sw_region [(0, 0), (1, 0), (2, 0), (3, 0), (4, 0)] rfl rfl rfl ?_
  refine sd_vv rfl rfl rfl (vv_move rfl) ?_
  refine sd_vv rfl rfl rfl (vv_move rfl) ?_
  refine sd_vv rfl rfl rfl (vv_eq (vv_sub64 rfl rfl (by omega) (by omega)) (show _ = Value.int .i64 ((64 - n : Nat) : Int) from congrArg (Value.int .i64) (by omega))) ?_
  refine sd_ev rfl rfl rfl (ev_call en_285 rfl (rotr_c x (64 - n) (by omega) (by omega) _)) ?_
  rintro _ w1 ⟨rfl, Gw1⟩
  have z1 := Gw1.size
  refine sd_vv rfl rfl rfl (vv_assign rfl) ?_
  refine sd_done ?_
  refine sw_ret ?_
  have X2 : Gr w w1 := (Gr.trans (Gr.refl w) Gw1)
  refine ⟨_, _, rfl, res_tmp rfl rfl, ?_⟩
  exact ⟨by rw [show 64 - (64 - n) = n from by omega], X2⟩
def rkTo (k : W2) (n : Nat) : List (BitVec 64) := (List.range (n + 1)).map fun i => (ks k i).2
theorem rkTo_len (k : W2) (n : Nat) : (rkTo k n).length = n + 1 := by simp [rkTo]
theorem rkTo_succ (k : W2) (n : Nat) : rkTo k (n + 1) = rkTo k n ++ [(ks k (n + 1)).2] := by simp [rkTo, List.range_succ]
theorem rkTo_get (k : W2) (i : Nat) (h : i < 32) : (rkTo k 31)[i]? = some (ks k i).2 := by simp [rkTo, h]
theorem ks_1 (k : W2) (i : Nat) : (ks k (i + 1)).1 = ((ks k i).2 + rotl (ks k i).1 56) ^^^ wd (i : Int) := by simp [ks, rnd, BitVec.add_comm]
theorem ks_2 (k : W2) (i : Nat) : (ks k (i + 1)).2 = rotl (ks k i).2 3 ^^^ (ks k (i + 1)).1 := by simp [ks, rnd]
set_option maxHeartbeats 1000000 in
theorem rkeys_c (k : W2) (w : World) :
    Calls Tryz.prog 284 [kv k].toArray w fun e w' => ∃ v, e = .returned v ∧ (∃ z g, Own w' z g 24 1 v ((rkTo k 31).map uc) ∧ (z = 0 ∨ w.heap.size ≤ g) ∧ Gr w w') := by
  refine calls_of_sw (R := fun v w' => ∃ z g, Own w' z g 24 1 v ((rkTo k 31).map uc) ∧ (z = 0 ∨ w.heap.size ≤ g) ∧ Gr w w') 34 Tryz.func284 rfl rfl rfl ?_
  refine sw_seq ?_
  -- region 0 ref.go:57
  refine sw_region [(0, 0), (1, 0)] rfl rfl rfl ?_
  refine sd_ev rfl rfl rfl (ev_box rfl (by rfl)) ?_
  rintro _ w1 ⟨b1, rfl, hbw1, Bw1, Gw1⟩
  have z1 := Gw1.size
  have lt2 := Bw1.lt
  refine sd_vv rfl rfl rfl (vv_assign rfl) ?_
  refine sd_done ?_
  refine sw_seq ?_
  -- region 1 ref.go:58
  refine sw_region [(0, 0), (1, 0), (2, 0), (3, 0), (4, 0), (5, 0), (6, 0)] rfl rfl rfl ?_
  refine sd_vv rfl rfl rfl (vv_loadW agg_23 rfl Bw1 (by rfl)) ?_
  refine sd_ev rfl rfl rfl (ev_call en_283 rfl (rwords_c _ _)) ?_
  rintro _ w2 ⟨rfl, Gw2⟩
  have z3 := Gw2.size
  refine sd_vv rfl rfl rfl (vv_move rfl) ?_
  refine sd_vv rfl rfl rfl (vv_extract rfl rfl) ?_
  refine sd_vv rfl rfl rfl (vv_extract rfl rfl) ?_
  refine sd_vv rfl rfl rfl (vv_assign rfl) ?_
  refine sd_vv rfl rfl rfl (vv_assign rfl) ?_
  refine sd_done ?_
  refine sw_seq ?_
  -- region 2 ref.go:59
  refine sw_region [(0, 0), (1, 0), (2, 0)] rfl rfl rfl ?_
  refine sd_vv rfl rfl rfl (vv_move rfl) ?_
  refine sd_ev rfl rfl rfl (ev_lit bsl_308_1 rfl rfl rfl rfl rfl) ?_
  rintro vw3 w3 ⟨gw3, hbw3, Ow3, Gw3⟩
  have z4 := Gw3.size
  have lt5 := Ow3.lt
  refine sd_vv rfl rfl rfl (vv_assign rfl) ?_
  refine sd_done ?_
  refine sw_seq ?_
  refine sw_seq ?_
  -- region 3 ref.go:60
  refine sw_region [(0, 0)] rfl rfl rfl ?_
  refine sd_vv rfl rfl rfl (vv_assign rfl) ?_
  refine sd_done ?_
  refine sw_block ?_
  have X6 : Gr w w3 := (Gr.trans (Gr.trans (Gr.trans (Gr.refl w) Gw1) Gw2) Gw3)
  refine sw_loopD (α := Nat × Value × Nat × Nat) [3, 4, 5, 6, 14, 15, 16, 17, 18, 19, 20, 21, 22, 23, 24, 25, 26, 27, 28, 29, 30, 31, 32] (fun ⟨i, v, z, g⟩ => [(6, .int .i64 (i : Int)), (3, wv (ks k i).1), (4, wv (ks k i).2), (5, v)]) (fun ⟨i, v, z, g⟩ wr => (i ≤ 31) ∧ (Own wr z g 24 1 v ((rkTo k i).map uc) ∧ (z = 0 ∨ g = gw3 ∨ w3.heap.size ≤ g)) ∧ Kp [gw3] w3 wr) (fun ⟨i, v, z, g⟩ => 31 - i) (⟨0, vw3, 1, gw3⟩) ?_ ?_ ?_
  · repeat' first | exact trivial | refine ⟨rfl, ?_⟩
  · exact ⟨Nat.zero_le _, ⟨Ow3, .inr (.inl rfl)⟩, Kp.refl _ _⟩
  rintro ⟨i, v, z, g⟩ w4 ⟨hi, ⟨Ow4_5, hOw4_5⟩, Kw4⟩
  have z7 := Kw4.size
  have lt8 := Ow4_5.lt
  refine sw_seq ?_
  refine sw_seq ?_
  -- region 4 ref.go:60
  refine sw_region [(0, 0), (1, 0)] rfl rfl rfl ?_
  refine sd_vv rfl rfl rfl (vv_move rfl) ?_
  refine sd_vv rfl rfl rfl (vv_lss rfl rfl) ?_
  refine sd_done ?_
  refine sw_cond rfl (fun h1 => ?_) (fun h1 => ?_)
  · -- h1 True
    replace h1 := of_decide_eq_true h1
    refine sw_skip ?_
    refine then_n ?_
    refine sw_seq ?_
    refine sw_block ?_
    refine sw_seq ?_
    -- region 6 ref.go:61
    refine sw_region [(0, 0), (1, 0), (2, 0), (3, 0), (4, 0), (5, 0), (6, 0), (7, 0)] rfl rfl rfl ?_
    refine sd_vv rfl rfl rfl (vv_move rfl) ?_
    refine sd_vv rfl rfl rfl (vv_move rfl) ?_
    refine sd_ev rfl rfl rfl (ev_call en_285 rfl (rotr_c _ 8 (by decide) (by decide) _)) ?_
    rintro _ w5 ⟨rfl, Gw5⟩
    have z9 := Gw5.size
    refine sd_vv rfl rfl rfl (vv_uadd rfl rfl) ?_
    refine sd_vv rfl rfl rfl (vv_move rfl) ?_
    refine sd_vv rfl rfl rfl (vv_convIU cv_3_24 rfl (by omega) (by omega)) ?_
    refine sd_vv rfl rfl rfl (vv_uxor rfl rfl) ?_
    refine sd_vv rfl rfl rfl (vv_assign rfl) ?_
    refine sd_done ?_
    refine sw_seq ?_
    -- region 7 ref.go:62
    refine sw_region [(0, 0), (1, 0), (2, 0), (3, 0), (4, 0)] rfl rfl rfl ?_
    refine sd_vv rfl rfl rfl (vv_move rfl) ?_
    refine sd_ev rfl rfl rfl (ev_call en_286 rfl (rotl_c _ 3 (by decide) (by decide) _)) ?_
    rintro _ w6 ⟨rfl, Gw6⟩
    have z10 := Gw6.size
    refine sd_vv rfl rfl rfl (vv_move rfl) ?_
    refine sd_vv rfl rfl rfl (vv_uxor rfl rfl) ?_
    refine sd_vv rfl rfl rfl (vv_assign rfl) ?_
    refine sd_done ?_
    -- region 8 ref.go:63
    refine sw_region [(0, 0), (1, 0), (2, 0), (3, 0), (4, 0)] rfl rfl rfl ?_
    refine sd_vv rfl rfl rfl (vv_move rfl) ?_
    refine sd_vv rfl rfl rfl (vv_move rfl) ?_
    refine sd_ev rfl rfl rfl (ev_lit bsl_308_1 rfl rfl rfl rfl rfl) ?_
    rintro vw7 w7 ⟨gw7, hbw7, Ow7, Gw7⟩
    have z11 := Gw7.size
    have lt12 := Ow7.lt
    have B13 := (Own.gr (Own.gr (Own.gr Ow4_5 Gw5) Gw6) Gw7)
    refine sd_ev rfl rfl rfl (ev_app apt_308 rfl rfl B13 (Own.rd Ow7) (by simp [chunk, rkTo_len]; omega) (by simp [chunk, rkTo_len]; omega)) ?_
    rintro vw8 w8 ⟨zw8, gw8, Ow8, Aw8, qw8, rw8, sw8⟩
    have z14 := Aw8.size
    have lt15 := Ow8.lt
    refine sd_vv rfl rfl rfl (vv_assign rfl) ?_
    refine sd_nil ?_
    refine block_n ?_
    refine then_n ?_
    -- region 5 ref.go:60
    refine sw_region [(0, 0), (1, 0), (2, 0)] rfl rfl rfl ?_
    refine sd_vv rfl rfl rfl (vv_move rfl) ?_
    refine sd_vv rfl rfl rfl (vv_add64 rfl rfl (by omega) (by omega)) ?_
    refine sd_vv rfl rfl rfl (vv_assign rfl) ?_
    refine sd_nil ?_
    have K_16 := (Kp.ka (Kp.gr (Kp.gr (Kp.gr Kw4 Gw5) Gw6) Gw7) Aw8 (by simp <;> first | omega | (split <;> omega)))
    refine ⟨rfl, ⟨i + 1, vw8, zw8, gw8⟩, ?_, ⟨?_, ⟨?_, by omega⟩, K_16⟩, ?_⟩
    · repeat' first | exact trivial | refine ⟨by first | rfl | (rw [ks_1]; rfl) | (rw [ks_2, ks_1]; rfl), ?_⟩
    · omega
    · rw [rkTo_succ, List.map_append, ks_2, ks_1]; exact Ow8
    · first | omega | (dsimp only; omega)
  · -- h1 False
    replace h1 := of_decide_eq_false h1
    refine sw_exit ?_
    refine then_x ?_
    refine then_x ?_
    refine block_x ?_
    refine then_n ?_
    refine sw_seq ?_
    -- region 9 ref.go:65
    refine sw_region [(0, 0), (1, 0)] rfl rfl rfl ?_
    refine sd_vv rfl rfl rfl (vv_move rfl) ?_
    refine sd_vv rfl rfl rfl (vv_assign rfl) ?_
    refine sd_done ?_
    refine sw_ret ?_
    obtain rfl : i = 31 := by omega
    have X17 : Gr w w4 := (Gr.kp X6 Kw4 (by simp <;> first | omega | (split <;> omega)))
    refine ⟨_, _, rfl, res_tmp rfl rfl, ?_⟩
    exact ⟨z, g, Ow4_5, by omega, X17⟩
theorem enc_1 (k b : W2) (i : Nat) : (encTo k b (i + 1)).1 = (rotl (encTo k b i).1 56 + (encTo k b i).2) ^^^ (ks k i).2 := by rw [encTo_succ]; rfl
theorem enc_2 (k b : W2) (i : Nat) : (encTo k b (i + 1)).2 = rotl (encTo k b i).2 3 ^^^ (encTo k b (i + 1)).1 := by rw [encTo_succ]; rfl
set_option maxHeartbeats 1000000 in
theorem rencr_c (k b : W2) (w : World) :
    Calls Tryz.prog 180 [kv k, kv b].toArray w fun e w' => ∃ v, e = .returned v ∧ (v = kv (encr k b) ∧ Gr w w') := by
  refine calls_of_sw (R := fun v w' => v = kv (encr k b) ∧ Gr w w') 36 Tryz.func180 rfl rfl rfl ?_
  refine sw_seq ?_
  -- region 0 ref.go:69
  refine sw_region [(0, 0), (1, 0), (2, 0)] rfl rfl rfl ?_
  refine sd_ev rfl rfl rfl (ev_box rfl (by rfl)) ?_
  rintro _ w1 ⟨b1, rfl, hbw1, Bw1, Gw1⟩
  have z1 := Gw1.size
  have lt2 := Bw1.lt
  refine sd_ev rfl rfl rfl (ev_box rfl (by rfl)) ?_
  rintro _ w2 ⟨b2, rfl, hbw2, Bw2, Gw2⟩
  have z3 := Gw2.size
  have lt4 := Bw2.lt
  refine sd_ev rfl rfl rfl (ev_alloc zv_23 (by rfl)) ?_
  rintro _ w3 ⟨b3, rfl, hbw3, Bw3, Gw3⟩
  have z5 := Gw3.size
  have lt6 := Bw3.lt
  refine sd_done ?_
  refine sw_seq ?_
  -- region 1 ref.go:70
  refine sw_region [(0, 0), (1, 0), (2, 0), (3, 0), (4, 0), (5, 0), (6, 0)] rfl rfl rfl ?_
  have B7 := (Bx.gr Bw2 Gw3)
  refine sd_vv rfl rfl rfl (vv_loadW agg_23 rfl B7 (by rfl)) ?_
  refine sd_ev rfl rfl rfl (ev_call en_283 rfl (rwords_c _ _)) ?_
  rintro _ w4 ⟨rfl, Gw4⟩
  have z8 := Gw4.size
  refine sd_vv rfl rfl rfl (vv_move rfl) ?_
  refine sd_vv rfl rfl rfl (vv_extract rfl rfl) ?_
  refine sd_vv rfl rfl rfl (vv_extract rfl rfl) ?_
  refine sd_vv rfl rfl rfl (vv_assign rfl) ?_
  refine sd_vv rfl rfl rfl (vv_assign rfl) ?_
  refine sd_done ?_
  refine sw_seq ?_
  -- region 2 ref.go:71
  refine sw_region [(0, 0), (1, 0), (2, 0)] rfl rfl rfl ?_
  have B9 := (Bx.gr (Bx.gr (Bx.gr Bw1 Gw2) Gw3) Gw4)
  refine sd_vv rfl rfl rfl (vv_loadW agg_23 rfl B9 (by rfl)) ?_
  refine sd_ev rfl rfl rfl (ev_call en_284 rfl (rkeys_c _ _)) ?_
  rintro v5 w5 ⟨z5_, g5_, O5, hg5, Gw5⟩
  have z10 := Gw5.size
  have lt11 := O5.lt
  refine sd_vv rfl rfl rfl (vv_assign rfl) ?_
  refine sd_done ?_
  refine sw_seq ?_
  refine sw_seq ?_
  -- region 3 ref.go:72
  refine sw_region [(0, 0)] rfl rfl rfl ?_
  refine sd_vv rfl rfl rfl (vv_assign rfl) ?_
  refine sd_done ?_
  refine sw_block ?_
  have X12 : Gr w w5 := (Gr.trans (Gr.trans (Gr.trans (Gr.trans (Gr.trans (Gr.refl w) Gw1) Gw2) Gw3) Gw4) Gw5)
  refine sw_loopD (α := Nat) [5, 6, 8, 16, 17, 18, 19, 20, 21, 22, 23, 24, 25, 26, 27, 28, 29, 30, 31, 32] (fun i => [(8, .int .i64 (i : Int)), (5, wv (encTo k b i).1), (6, wv (encTo k b i).2)]) (fun i wr => (i ≤ 32) ∧ Kp [] w5 wr) (fun i => 32 - i) (0) ?_ ?_ ?_
  · repeat' first | exact trivial | refine ⟨rfl, ?_⟩
  · exact ⟨Nat.zero_le _, Kp.refl _ _⟩
  rintro i w6 ⟨hi, Kw6⟩
  have z13 := Kw6.size
  refine sw_seq ?_
  refine sw_seq ?_
  -- region 4 ref.go:72
  refine sw_region [(0, 0), (1, 0)] rfl rfl rfl ?_
  refine sd_vv rfl rfl rfl (vv_move rfl) ?_
  refine sd_vv rfl rfl rfl (vv_lss rfl rfl) ?_
  refine sd_done ?_
  refine sw_cond rfl (fun h1 => ?_) (fun h1 => ?_)
  · -- h1 True
    replace h1 := of_decide_eq_true h1
    refine sw_skip ?_
    refine then_n ?_
    refine sw_seq ?_
    refine sw_block ?_
    refine sw_seq ?_
    -- region 6 ref.go:73 DRAWS
    refine sw_draw [] [(0, 3), (2, 3), (4, 3), (5, 3), (6, 3), (7, 3), (1, 0), (3, 3), (8, 3), (9, 3)] (by kernel_rfl) (by kernel_rfl) rfl (by kernel_rfl) ?_
    intro w7 Gw7 zw7
    refine dd_h3 rfl rfl rfl (Kp.refl [] w7) (fun w hS => vv_move rfl) ?_
    refine dd_h3 rfl rfl rfl (Kp.refl [] w7) (fun w hS => vv_move rfl) ?_
    refine dd_h3 rfl rfl rfl (Kp.refl [] w7) (fun w hS => vv_move rfl) ?_
    refine dd_h3 rfl rfl rfl (Kp.refl [] w7) (fun w hS => vv_move rfl) ?_
    have B14 := (Own.gr (Own.kp O5 Kw6 (by simp <;> first | omega | (split <;> omega))) Gw7)
    refine dd_h3 rfl rfl rfl (Kp.refl [] w7) (fun w hS => vv_ixN (n := 32) Tryz.underlying308 (one_24).siz rfl (Own.rd (Own.kp B14 hS (by simp <;> first | omega | (split <;> omega)))) (by simp [rkTo_len]) rfl (by omega) (by omega)) ?_
    refine dd_h3 rfl rfl rfl (Kp.refl [] w7) (fun w hS => vv_el1 (q := 0) one_24 rfl (Own.rd (Own.kp B14 hS (by simp <;> first | omega | (split <;> omega)))) (getm (rkTo_get k i (by omega))) (by omega) (show _ = some _ from by rfl)) ?_
    refine dd_ev rfl rfl rfl (ev_call en_285 rfl (rotr_c _ 8 (by decide) (by decide) _)) ?_
    rintro _ w8 ⟨rfl, Gw8⟩
    have z15 := Gw8.size
    refine ⟨Gw8, ?_⟩
    have S16 := (Kp.gr (Kp.refl [] w7) Gw8)
    refine dd_h3 rfl rfl rfl S16 (fun w hS => vv_uadd rfl rfl) ?_
    refine dd_h3 rfl rfl rfl S16 (fun w hS => vv_uxor rfl rfl) ?_
    refine dd_h3 rfl rfl rfl S16 (fun w hS => vv_assign rfl) ?_
    refine sd_done ?_
    -- region 7 ref.go:74
    refine sw_region [(0, 0), (1, 0), (2, 0), (3, 0), (4, 0)] rfl rfl rfl ?_
    refine sd_vv rfl rfl rfl (vv_move rfl) ?_
    refine sd_ev rfl rfl rfl (ev_call en_286 rfl (rotl_c _ 3 (by decide) (by decide) _)) ?_
    rintro _ w9 ⟨rfl, Gw9⟩
    have z17 := Gw9.size
    refine sd_vv rfl rfl rfl (vv_move rfl) ?_
    refine sd_vv rfl rfl rfl (vv_uxor rfl rfl) ?_
    refine sd_vv rfl rfl rfl (vv_assign rfl) ?_
    refine sd_nil ?_
    refine block_n ?_
    refine then_n ?_
    -- region 5 ref.go:72
    refine sw_region [(0, 0), (1, 0), (2, 0)] rfl rfl rfl ?_
    refine sd_vv rfl rfl rfl (vv_move rfl) ?_
    refine sd_vv rfl rfl rfl (vv_add64 rfl rfl (by omega) (by omega)) ?_
    refine sd_vv rfl rfl rfl (vv_assign rfl) ?_
    refine sd_nil ?_
    have K_18 := (Kp.gr (Kp.gr (Kp.gr Kw6 Gw7) Gw8) Gw9)
    refine ⟨rfl, i + 1, ?_, ⟨?_, K_18⟩, ?_⟩
    · repeat' first | exact trivial | refine ⟨by first | rfl | (rw [enc_1]; rfl) | (rw [enc_2, enc_1]; rfl), ?_⟩
    · omega
    · first | omega | (dsimp only; omega)
  · -- h1 False
    replace h1 := of_decide_eq_false h1
    refine sw_exit ?_
    refine then_x ?_
    refine then_x ?_
    refine block_x ?_
    refine then_n ?_
    refine sw_seq ?_
    obtain rfl : i = 32 := by omega
    -- region 8 ref.go:76
    refine sw_region [(0, 0), (1, 0), (2, 0), (3, 0)] rfl rfl rfl ?_
    refine sd_vv rfl rfl rfl (vv_move rfl) ?_
    refine sd_vv rfl rfl rfl (vv_move rfl) ?_
    refine sd_ev rfl rfl rfl (ev_call en_287 rfl (rblock_c (encr k b) _)) ?_
    rintro _ w10 ⟨rfl, Gw10⟩
    have z19 := Gw10.size
    have B20 := (Bx.gr (Bx.kp (Bx.gr (Bx.gr Bw3 Gw4) Gw5) Kw6 (by simp <;> first | omega | (split <;> omega))) Gw10)
    refine sd_ev rfl rfl rfl (ev_storeW (agg_23).siz rfl rfl (by rfl) (by rfl) (by rfl) B20 (by rfl)) ?_
    rintro _ w11 ⟨Bw11, Mw11⟩
    have z21 := Mw11.size
    refine sd_done ?_
    refine sw_ret ?_
    have X22 : Gr w w11 := (Gr.md (Gr.trans (Gr.kp X12 Kw6 (by simp <;> first | omega | (split <;> omega))) Gw10) Mw11 (by omega))
    refine ⟨_, _, rfl, res_cellW rfl agg_23 rfl Bw11 (by rfl), ?_⟩
    exact ⟨rfl, X22⟩
set_option maxHeartbeats 1000000 in
theorem rBlock_c (tag : Int) (h0 : 0 ≤ tag) (h1 : tag ≤ 255) (n : BitVec 64) (w : World) :
    Calls Tryz.prog 185 [.int .u8 tag, wv 0#64, wv n].toArray w fun e w' => ∃ v, e = .returned v ∧ (v = kv (blk tag 0#64 n) ∧ Gr w w') := by
  refine calls_of_sw (R := fun v w' => v = kv (blk tag 0#64 n) ∧ Gr w w') 18 Tryz.func185 rfl rfl rfl ?_
  refine sw_seq ?_
  -- region 0 ref.go:91
  refine sw_region [(0, 0)] rfl rfl rfl ?_
  refine sd_ev rfl rfl rfl (ev_alloc zv_23 (by rfl)) ?_
  rintro _ w1 ⟨b1, rfl, hbw1, Bw1, Gw1⟩
  have z1 := Gw1.size
  have lt2 := Bw1.lt
  refine sd_done ?_
  refine sw_seq ?_
  -- region 1 ref.go:92
  refine sw_region [(0, 0), (1, 0), (2, 0), (3, 0), (4, 0), (5, 0)] rfl rfl rfl ?_
  refine sd_vv rfl rfl rfl (vv_move rfl) ?_
  refine sd_ev rfl rfl rfl (ev_lit bsl_32_1 rfl rfl rfl rfl rfl) ?_
  rintro vw2 w2 ⟨gw2, hbw2, Ow2, Gw2⟩
  have z3 := Gw2.size
  have lt4 := Ow2.lt
  refine sd_vv rfl rfl rfl (vv_move rfl) ?_
  refine sd_ev rfl rfl rfl (ev_call en_290 rfl (bytes_c _ 7 (by decide) _)) ?_
  rintro v3 w3 ⟨z3_, g3_, O3, hg3, Gw3⟩
  have z5 := Gw3.size
  have lt6 := O3.lt
  have B7 := (Own.gr Ow2 Gw3)
  refine sd_ev rfl rfl rfl (ev_app apt_32 rfl rfl B7 (Own.rd O3) (by simp [byL_len, chunk]) (by simp [byL_len, chunk])) ?_
  rintro vw4 w4 ⟨zw4, gw4, Ow4, Aw4, qw4, rw4, sw4⟩
  have z8 := Aw4.size
  have lt9 := Ow4.lt
  refine sd_vv rfl rfl rfl (vv_assign rfl) ?_
  refine sd_done ?_
  refine sw_seq ?_
  -- region 2 ref.go:93
  refine sw_region [(0, 0), (1, 0), (2, 0), (3, 0), (4, 0), (5, 0)] rfl rfl rfl ?_
  refine sd_vv rfl rfl rfl (vv_move rfl) ?_
  refine sd_vv rfl rfl rfl (vv_move rfl) ?_
  refine sd_ev rfl rfl rfl (ev_call en_290 rfl (bytes_c _ 8 (by decide) _)) ?_
  rintro v5 w5 ⟨z5_, g5_, O5, hg5, Gw5⟩
  have z10 := Gw5.size
  have lt11 := O5.lt
  have B12 := (Own.gr Ow4 Gw5)
  refine sd_ev rfl rfl rfl (ev_app apt_32 rfl rfl B12 (Own.rd O5) (by simp [byL_len, chunk]) (by simp [byL_len, chunk])) ?_
  rintro vw6 w6 ⟨zw6, gw6, Ow6, Aw6, qw6, rw6, sw6⟩
  have z13 := Aw6.size
  have lt14 := Ow6.lt
  refine sd_ev rfl rfl rfl (ev_call en_289 rfl (rkey_c _ _ _ _ (blk tag 0#64 n) ([tag] ++ byL 0#64 7 ++ byL n 8) (blk_bytes tag n h0 h1) _ (by rw [List.map_append, List.map_append]; exact (Own.rd Ow6)))) ?_
  rintro _ w7 ⟨rfl, Gw7⟩
  have z15 := Gw7.size
  have B16 := (Bx.gr (Bx.ka (Bx.gr (Bx.ka (Bx.gr (Bx.gr Bw1 Gw2) Gw3) Aw4 (by omega)) Gw5) Aw6 (by omega)) Gw7)
  refine sd_ev rfl rfl rfl (ev_storeW (agg_23).siz rfl rfl (by rfl) (by rfl) (by rfl) B16 (by rfl)) ?_
  rintro _ w8 ⟨Bw8, Mw8⟩
  have z17 := Mw8.size
  refine sd_done ?_
  refine sw_ret ?_
  have X18 : Gr w w8 := (Gr.md (Gr.trans (Gr.ka (Gr.trans (Gr.ka (Gr.trans (Gr.trans (Gr.trans (Gr.refl w) Gw1) Gw2) Gw3) Aw4 (by omega)) Gw5) Aw6 (by omega)) Gw7) Mw8 (by omega))
  refine ⟨_, _, rfl, res_cellW rfl agg_23 rfl Bw8 (by rfl), ?_⟩
  exact ⟨rfl, X18⟩
set_option maxHeartbeats 1000000 in
theorem rderive_c (k : W2) (tag : Int) (h0 : 0 ≤ tag) (h1 : tag ≤ 255) (n : BitVec 64) (w : World) :
    Calls Tryz.prog 103 [kv k, .int .u8 tag, wv n].toArray w fun e w' => ∃ v, e = .returned v ∧ (v = kv (drv k tag n) ∧ Gr w w') := by
  refine calls_of_sw (R := fun v w' => v = kv (drv k tag n) ∧ Gr w w') 12 Tryz.func103 rfl rfl rfl ?_
  refine sw_seq ?_
  -- region 0 ref.go:97
  refine sw_region [(0, 0), (1, 0)] rfl rfl rfl ?_
  refine sd_ev rfl rfl rfl (ev_box rfl (by rfl)) ?_
  rintro _ w1 ⟨b1, rfl, hbw1, Bw1, Gw1⟩
  have z1 := Gw1.size
  have lt2 := Bw1.lt
  refine sd_ev rfl rfl rfl (ev_alloc zv_23 (by rfl)) ?_
  rintro _ w2 ⟨b2, rfl, hbw2, Bw2, Gw2⟩
  have z3 := Gw2.size
  have lt4 := Bw2.lt
  refine sd_done ?_
  refine sw_seq ?_
  -- region 1 ref.go:97 DRAWS
  refine sw_draw [b2] [(0, 3), (1, 3), (2, 3), (3, 0), (4, 0), (5, 2)] (by kernel_rfl) (by kernel_rfl) rfl (by kernel_rfl) ?_
  intro w3 Gw3 zw3
  have B5 := (Bx.gr (Bx.gr Bw1 Gw2) Gw3)
  refine dd_h3 rfl rfl rfl (Kp.refl [b2] w3) (fun w hS => vv_loadW agg_23 rfl (Bx.kp B5 hS (by simp <;> first | omega | (split <;> omega))) (by rfl)) ?_
  refine dd_h3 rfl rfl rfl (Kp.refl [b2] w3) (fun w hS => vv_move rfl) ?_
  refine dd_h3 rfl rfl rfl (Kp.refl [b2] w3) (fun w hS => vv_move rfl) ?_
  refine dd_ev rfl rfl rfl (ev_call en_185 rfl (rBlock_c _ (by omega) (by omega) _ _)) ?_
  rintro _ w4 ⟨rfl, Gw4⟩
  have z6 := Gw4.size
  refine ⟨Gw4, ?_⟩
  refine dd_ev rfl rfl rfl (ev_call en_180 rfl (rencr_c _ _ _)) ?_
  rintro _ w5 ⟨rfl, Gw5⟩
  have z7 := Gw5.size
  refine ⟨Gw5, ?_⟩
  have B8 := (Bx.gr (Bx.gr (Bx.gr Bw2 Gw3) Gw4) Gw5)
  refine dd_st (b := b2) rfl rfl rfl rfl (ev_storeW (agg_23).siz rfl rfl (by rfl) (by rfl) (by rfl) B8 (by rfl)) (by first | exact Or.inl (by simp) | exact Or.inr (by omega)) ?_
  rintro _ w6 ⟨Bw6, Mw6⟩
  have z9 := Mw6.size
  refine ⟨Mw6, ?_⟩
  refine sd_done ?_
  refine sw_ret ?_
  have X10 : Gr w w6 := (Gr.md (Gr.trans (Gr.trans (Gr.trans (Gr.trans (Gr.trans (Gr.refl w) Gw1) Gw2) Gw3) Gw4) Gw5) Mw6 (by omega))
  refine ⟨_, _, rfl, res_cellW rfl agg_23 rfl Bw6 (by rfl), ?_⟩
  exact ⟨rfl, X10⟩
end Go.Proofs.YtgdojjniakpadaaGreat

end
section
set_option linter.unusedVariables false
set_option linter.unusedSimpArgs false
namespace Go.Proofs.YtgdojjniakpadaaGreat
open Go Go.RowKit Go.Sx
theorem cv_5_3 : CV Tryz.prog 5 3 .i64 := fun _ _ _ => by kernel_rfl
theorem en_385 : En Tryz.prog 385 := fun _ _ => by kernel_rfl
theorem log2_shift (n k : Nat) (h : 2 ^ k ≤ n) : Nat.log2 n = Nat.log2 (n / 2 ^ k) + k := by
  induction k generalizing n with
  | zero => simp
  | succ k ih =>
    have h2 : 2 ^ k ≤ n / 2 := by rw [Nat.le_div_iff_mul_le (by omega)]; rw [Nat.pow_succ] at h; omega
    have h1 : 2 ≤ n := by have : 0 < 2 ^ k := Nat.two_pow_pos k; rw [Nat.pow_succ] at h; omega
    rw [Nat.log2_def, if_pos h1, ih (n / 2) h2, Nat.div_div_eq_div_mul, Nat.pow_succ, Nat.mul_comm 2]; omega
theorem lg_shift (a : Int) (k m : Nat) (hm : 2 ^ k = m) (h : (m : Int) ≤ a) : lg a = lg (a / (m : Int)) + k := by
  obtain ⟨n, rfl⟩ := Int.eq_ofNat_of_zero_le (show 0 ≤ a by omega)
  subst hm
  have hp : 0 < 2 ^ k := Nat.two_pow_pos k
  have h' : 2 ^ k ≤ n := by omega
  have e : ((n : Int) / ((2 ^ k : Nat) : Int)).toNat = n / 2 ^ k := by rw [← Int.natCast_ediv]; rfl
  have h1 : ¬ (n / 2 ^ k = 0) := by rw [Nat.div_eq_zero_iff]; omega
  unfold lg
  rw [e, Int.toNat_natCast, if_neg h1, if_neg (by omega), log2_shift n k h']
  omega
def lenTab : ByteArray := ⟨#[0, 1, 2, 2, 3, 3, 3, 3, 4, 4, 4, 4, 4, 4, 4, 4, 5, 5, 5, 5, 5, 5, 5, 5, 5, 5, 5, 5, 5, 5, 5, 5, 6, 6, 6, 6, 6, 6, 6, 6, 6, 6, 6, 6, 6, 6, 6, 6, 6, 6, 6, 6, 6, 6, 6, 6, 6, 6, 6, 6, 6, 6, 6, 6, 7, 7, 7, 7, 7, 7, 7, 7, 7, 7, 7, 7, 7, 7, 7, 7, 7, 7, 7, 7, 7, 7, 7, 7, 7, 7, 7, 7, 7, 7, 7, 7, 7, 7, 7, 7, 7, 7, 7, 7, 7, 7, 7, 7, 7, 7, 7, 7, 7, 7, 7, 7, 7, 7, 7, 7, 7, 7, 7, 7, 7, 7, 7, 7, 8, 8, 8, 8, 8, 8, 8, 8, 8, 8, 8, 8, 8, 8, 8, 8, 8, 8, 8, 8, 8, 8, 8, 8, 8, 8, 8, 8, 8, 8, 8, 8, 8, 8, 8, 8, 8, 8, 8, 8, 8, 8, 8, 8, 8, 8, 8, 8, 8, 8, 8, 8, 8, 8, 8, 8, 8, 8, 8, 8, 8, 8, 8, 8, 8, 8, 8, 8, 8, 8, 8, 8, 8, 8, 8, 8, 8, 8, 8, 8, 8, 8, 8, 8, 8, 8, 8, 8, 8, 8, 8, 8, 8, 8, 8, 8, 8, 8, 8, 8, 8, 8, 8, 8, 8, 8, 8, 8, 8, 8, 8, 8, 8, 8, 8, 8, 8, 8, 8, 8, 8, 8, 8, 8, 8, 8, 8, 8]⟩
theorem lenTab_fin : ∀ k : Fin 256, lenTab[k.1]? = some (UInt8.ofNat (lg (k.1 : Int)).toNat) ∧ lg (k.1 : Int) = ((UInt8.ofNat (lg (k.1 : Int)).toNat).toNat : Int) := by decide +kernel
theorem lenTab_at {a : Int} (h0 : 0 ≤ a) (h1 : a < 256) : lenTab[a.toNat]? = some (UInt8.ofNat (lg a).toNat) ∧ lg a = ((UInt8.ofNat (lg a).toNat).toNat : Int) := by
  obtain ⟨n, rfl⟩ := Int.eq_ofNat_of_zero_le h0
  exact lenTab_fin ⟨n, by omega⟩
theorem lg_lo (a : Int) : -9223372036854775808 ≤ lg a := by unfold lg; split <;> omega
theorem lg_hi {a : Int} (h0 : 0 ≤ a) (h1 : a < 256) : lg a ≤ 9223372036854775807 := by have := (lenTab_at h0 h1).2; have := (UInt8.ofNat (lg a).toNat).toNat_lt; omega
theorem lg_add {b : Int} (a : Int) (h : 0 ≤ b) : -9223372036854775808 ≤ b + lg a := by unfold lg; split <;> omega
theorem lg_add2 {a b : Int} (h0 : 0 ≤ a) (h1 : a < 256) (hb : b ≤ 1000) : b + lg a ≤ 9223372036854775807 := by have := (lenTab_at h0 h1).2; have := (UInt8.ofNat (lg a).toNat).toNat_lt; omega
set_option maxRecDepth 20000 in
set_option maxHeartbeats 1000000 in
theorem len64_c (a : Int) (ha1 : 0 ≤ a) (ha2 : a < 18446744073709551616) (w : World) :
    Calls Tryz.prog 385 [.int .u64 a].toArray w fun e w' => ∃ v, e = .returned v ∧ (v = .int .i64 (lg a) ∧ Gr w w') := by
  refine calls_of_sw (R := fun v w' => v = .int .i64 (lg a) ∧ Gr w w') 25 Tryz.func385 rfl rfl rfl ?_
  refine sw_seq ?_
  -- region 0 bits.go:337
  refine sw_region [(0, 0)] rfl rfl rfl ?_
  refine sd_vv rfl rfl rfl (vv_assign rfl) ?_
  refine sd_done ?_
  refine sw_seq ?_
  refine sw_seq ?_
  -- region 1 bits.go:338
  refine sw_region [(0, 0), (1, 0)] rfl rfl rfl ?_
  refine sd_vv rfl rfl rfl (vv_move rfl) ?_
  refine sd_vv rfl rfl rfl (vv_geq rfl rfl) ?_
  refine sd_done ?_
  refine sw_cond rfl (fun h1 => ?_) (fun h1 => ?_)
  · -- h1 True
    replace h1 := of_decide_eq_true h1
    refine sw_seq ?_
    -- region 2 bits.go:339
    refine sw_region [(0, 0), (1, 0), (2, 0)] rfl rfl rfl ?_
    refine sd_vv rfl rfl rfl (vv_move rfl) ?_
    refine sd_vv rfl rfl rfl (vv_shrN (n := 32) (m := 4294967296) rfl rfl rfl (by decide)) ?_
    refine sd_vv rfl rfl rfl (vv_assign rfl) ?_
    refine sd_done ?_
    -- region 3 bits.go:340
    refine sw_region [(0, 0)] rfl rfl rfl ?_
    refine sd_vv rfl rfl rfl (vv_assign rfl) ?_
    refine sd_done ?_
    refine sw_seq ?_
    refine sw_seq ?_
    -- region 4 bits.go:342
    refine sw_region [(0, 0), (1, 0)] rfl rfl rfl ?_
    refine sd_vv rfl rfl rfl (vv_move rfl) ?_
    refine sd_vv rfl rfl rfl (vv_geq rfl rfl) ?_
    refine sd_done ?_
    refine sw_cond rfl (fun h2 => ?_) (fun h2 => ?_)
    · -- h2 True
      replace h2 := of_decide_eq_true h2
      refine sw_seq ?_
      -- region 5 bits.go:343
      refine sw_region [(0, 0), (1, 0), (2, 0)] rfl rfl rfl ?_
      refine sd_vv rfl rfl rfl (vv_move rfl) ?_
      refine sd_vv rfl rfl rfl (vv_shrN (n := 16) (m := 65536) rfl rfl rfl (by decide)) ?_
      refine sd_vv rfl rfl rfl (vv_assign rfl) ?_
      refine sd_done ?_
      -- region 6 bits.go:344
      refine sw_region [(0, 0), (1, 0), (2, 0)] rfl rfl rfl ?_
      refine sd_vv rfl rfl rfl (vv_move rfl) ?_
      refine sd_vv rfl rfl rfl (vv_add64 rfl rfl (by omega) (by omega)) ?_
      refine sd_vv rfl rfl rfl (vv_assign rfl) ?_
      refine sd_done ?_
      refine sw_seq ?_
      refine sw_seq ?_
      -- region 7 bits.go:346
      refine sw_region [(0, 0), (1, 0)] rfl rfl rfl ?_
      refine sd_vv rfl rfl rfl (vv_move rfl) ?_
      refine sd_vv rfl rfl rfl (vv_geq rfl rfl) ?_
      refine sd_done ?_
      refine sw_cond rfl (fun h3 => ?_) (fun h3 => ?_)
      · -- h3 True
        replace h3 := of_decide_eq_true h3
        refine sw_seq ?_
        -- region 8 bits.go:347
        refine sw_region [(0, 0), (1, 0), (2, 0)] rfl rfl rfl ?_
        refine sd_vv rfl rfl rfl (vv_move rfl) ?_
        refine sd_vv rfl rfl rfl (vv_shrN (n := 8) (m := 256) rfl rfl rfl (by decide)) ?_
        refine sd_vv rfl rfl rfl (vv_assign rfl) ?_
        refine sd_done ?_
        -- region 9 bits.go:348
        refine sw_region [(0, 0), (1, 0), (2, 0)] rfl rfl rfl ?_
        refine sd_vv rfl rfl rfl (vv_move rfl) ?_
        refine sd_vv rfl rfl rfl (vv_add64 rfl rfl (by omega) (by omega)) ?_
        refine sd_vv rfl rfl rfl (vv_assign rfl) ?_
        refine sd_done ?_
        refine sw_seq ?_
        -- region 10 bits.go:350
        refine sw_region [(0, 0), (1, 0), (2, 0), (3, 0), (4, 0), (5, 0), (6, 0)] rfl rfl rfl ?_
        refine sd_vv rfl rfl rfl (vv_move rfl) ?_
        refine sd_vv rfl rfl rfl (vv_move rfl) ?_
        refine sd_vv rfl rfl rfl (vv_convB cv_24_5 rfl (by omega) (by omega)) ?_
        refine sd_vv rfl rfl rfl (vv_eq (vv_ixStr Tryz.underlying9 rfl rfl (by omega) (show lenTab[_]? = _ from (lenTab_at (by omega) (by omega)).1)) (congrArg (Value.int .u8) (lenTab_at (by omega) (by omega)).2.symm)) ?_
        refine sd_vv rfl rfl rfl (vv_conv64 cv_5_3 rfl (lg_lo _) (lg_hi (by omega) (by omega))) ?_
        refine sd_vv rfl rfl rfl (vv_add64 rfl rfl (lg_add _ (by decide)) (lg_add2 (by omega) (by omega) (by decide))) ?_
        refine sd_vv rfl rfl rfl (vv_assign rfl) ?_
        refine sd_done ?_
        refine sw_ret ?_
        refine ⟨_, _, rfl, res_tmp rfl rfl, ?_⟩
        refine ⟨congrArg (Value.int .i64) ?_, (Gr.refl w)⟩
        have e0 : lg (a : Int) = lg ((a : Int) / 4294967296) + 32 := lg_shift (a : Int) 32 4294967296 (by decide) (by omega)
        have e1 : lg ((a : Int) / 4294967296) = lg (((a : Int) / 4294967296) / 65536) + 16 := lg_shift ((a : Int) / 4294967296) 16 65536 (by decide) (by omega)
        have e2 : lg (((a : Int) / 4294967296) / 65536) = lg ((((a : Int) / 4294967296) / 65536) / 256) + 8 := lg_shift (((a : Int) / 4294967296) / 65536) 8 256 (by decide) (by omega)
        omega
      · -- h3 False
        replace h3 := of_decide_eq_false h3
        refine sw_skip ?_
        refine then_n ?_
        refine sw_seq ?_
        -- region 10 bits.go:350
        refine sw_region [(0, 0), (1, 0), (2, 0), (3, 0), (4, 0), (5, 0), (6, 0)] rfl rfl rfl ?_
        refine sd_vv rfl rfl rfl (vv_move rfl) ?_
        refine sd_vv rfl rfl rfl (vv_move rfl) ?_
        refine sd_vv rfl rfl rfl (vv_convB cv_24_5 rfl (by omega) (by omega)) ?_
        refine sd_vv rfl rfl rfl (vv_eq (vv_ixStr Tryz.underlying9 rfl rfl (by omega) (show lenTab[_]? = _ from (lenTab_at (by omega) (by omega)).1)) (congrArg (Value.int .u8) (lenTab_at (by omega) (by omega)).2.symm)) ?_
        refine sd_vv rfl rfl rfl (vv_conv64 cv_5_3 rfl (lg_lo _) (lg_hi (by omega) (by omega))) ?_
        refine sd_vv rfl rfl rfl (vv_add64 rfl rfl (lg_add _ (by decide)) (lg_add2 (by omega) (by omega) (by decide))) ?_
        refine sd_vv rfl rfl rfl (vv_assign rfl) ?_
        refine sd_done ?_
        refine sw_ret ?_
        refine ⟨_, _, rfl, res_tmp rfl rfl, ?_⟩
        refine ⟨congrArg (Value.int .i64) ?_, (Gr.refl w)⟩
        have e0 : lg (a : Int) = lg ((a : Int) / 4294967296) + 32 := lg_shift (a : Int) 32 4294967296 (by decide) (by omega)
        have e1 : lg ((a : Int) / 4294967296) = lg (((a : Int) / 4294967296) / 65536) + 16 := lg_shift ((a : Int) / 4294967296) 16 65536 (by decide) (by omega)
        omega
    · -- h2 False
      replace h2 := of_decide_eq_false h2
      refine sw_skip ?_
      refine then_n ?_
      refine sw_seq ?_
      refine sw_seq ?_
      -- region 7 bits.go:346
      refine sw_region [(0, 0), (1, 0)] rfl rfl rfl ?_
      refine sd_vv rfl rfl rfl (vv_move rfl) ?_
      refine sd_vv rfl rfl rfl (vv_geq rfl rfl) ?_
      refine sd_done ?_
      refine sw_cond rfl (fun h4 => ?_) (fun h4 => ?_)
      · -- h4 True
        replace h4 := of_decide_eq_true h4
        refine sw_seq ?_
        -- region 8 bits.go:347
        refine sw_region [(0, 0), (1, 0), (2, 0)] rfl rfl rfl ?_
        refine sd_vv rfl rfl rfl (vv_move rfl) ?_
        refine sd_vv rfl rfl rfl (vv_shrN (n := 8) (m := 256) rfl rfl rfl (by decide)) ?_
        refine sd_vv rfl rfl rfl (vv_assign rfl) ?_
        refine sd_done ?_
        -- region 9 bits.go:348
        refine sw_region [(0, 0), (1, 0), (2, 0)] rfl rfl rfl ?_
        refine sd_vv rfl rfl rfl (vv_move rfl) ?_
        refine sd_vv rfl rfl rfl (vv_add64 rfl rfl (by omega) (by omega)) ?_
        refine sd_vv rfl rfl rfl (vv_assign rfl) ?_
        refine sd_done ?_
        refine sw_seq ?_
        -- region 10 bits.go:350
        refine sw_region [(0, 0), (1, 0), (2, 0), (3, 0), (4, 0), (5, 0), (6, 0)] rfl rfl rfl ?_
        refine sd_vv rfl rfl rfl (vv_move rfl) ?_
        refine sd_vv rfl rfl rfl (vv_move rfl) ?_
        refine sd_vv rfl rfl rfl (vv_convB cv_24_5 rfl (by omega) (by omega)) ?_
        refine sd_vv rfl rfl rfl (vv_eq (vv_ixStr Tryz.underlying9 rfl rfl (by omega) (show lenTab[_]? = _ from (lenTab_at (by omega) (by omega)).1)) (congrArg (Value.int .u8) (lenTab_at (by omega) (by omega)).2.symm)) ?_
        refine sd_vv rfl rfl rfl (vv_conv64 cv_5_3 rfl (lg_lo _) (lg_hi (by omega) (by omega))) ?_
        refine sd_vv rfl rfl rfl (vv_add64 rfl rfl (lg_add _ (by decide)) (lg_add2 (by omega) (by omega) (by decide))) ?_
        refine sd_vv rfl rfl rfl (vv_assign rfl) ?_
        refine sd_done ?_
        refine sw_ret ?_
        refine ⟨_, _, rfl, res_tmp rfl rfl, ?_⟩
        refine ⟨congrArg (Value.int .i64) ?_, (Gr.refl w)⟩
        have e0 : lg (a : Int) = lg ((a : Int) / 4294967296) + 32 := lg_shift (a : Int) 32 4294967296 (by decide) (by omega)
        have e1 : lg ((a : Int) / 4294967296) = lg (((a : Int) / 4294967296) / 256) + 8 := lg_shift ((a : Int) / 4294967296) 8 256 (by decide) (by omega)
        omega
      · -- h4 False
        replace h4 := of_decide_eq_false h4
        refine sw_skip ?_
        refine then_n ?_
        refine sw_seq ?_
        -- region 10 bits.go:350
        refine sw_region [(0, 0), (1, 0), (2, 0), (3, 0), (4, 0), (5, 0), (6, 0)] rfl rfl rfl ?_
        refine sd_vv rfl rfl rfl (vv_move rfl) ?_
        refine sd_vv rfl rfl rfl (vv_move rfl) ?_
        refine sd_vv rfl rfl rfl (vv_convB cv_24_5 rfl (by omega) (by omega)) ?_
        refine sd_vv rfl rfl rfl (vv_eq (vv_ixStr Tryz.underlying9 rfl rfl (by omega) (show lenTab[_]? = _ from (lenTab_at (by omega) (by omega)).1)) (congrArg (Value.int .u8) (lenTab_at (by omega) (by omega)).2.symm)) ?_
        refine sd_vv rfl rfl rfl (vv_conv64 cv_5_3 rfl (lg_lo _) (lg_hi (by omega) (by omega))) ?_
        refine sd_vv rfl rfl rfl (vv_add64 rfl rfl (lg_add _ (by decide)) (lg_add2 (by omega) (by omega) (by decide))) ?_
        refine sd_vv rfl rfl rfl (vv_assign rfl) ?_
        refine sd_done ?_
        refine sw_ret ?_
        refine ⟨_, _, rfl, res_tmp rfl rfl, ?_⟩
        refine ⟨congrArg (Value.int .i64) ?_, (Gr.refl w)⟩
        have e0 : lg (a : Int) = lg ((a : Int) / 4294967296) + 32 := lg_shift (a : Int) 32 4294967296 (by decide) (by omega)
        omega
  · -- h1 False
    replace h1 := of_decide_eq_false h1
    refine sw_skip ?_
    refine then_n ?_
    refine sw_seq ?_
    refine sw_seq ?_
    -- region 4 bits.go:342
    refine sw_region [(0, 0), (1, 0)] rfl rfl rfl ?_
    refine sd_vv rfl rfl rfl (vv_move rfl) ?_
    refine sd_vv rfl rfl rfl (vv_geq rfl rfl) ?_
    refine sd_done ?_
    refine sw_cond rfl (fun h5 => ?_) (fun h5 => ?_)
    · -- h5 True
      replace h5 := of_decide_eq_true h5
      refine sw_seq ?_
      -- region 5 bits.go:343
      refine sw_region [(0, 0), (1, 0), (2, 0)] rfl rfl rfl ?_
      refine sd_vv rfl rfl rfl (vv_move rfl) ?_
      refine sd_vv rfl rfl rfl (vv_shrN (n := 16) (m := 65536) rfl rfl rfl (by decide)) ?_
      refine sd_vv rfl rfl rfl (vv_assign rfl) ?_
      refine sd_done ?_
      -- region 6 bits.go:344
      refine sw_region [(0, 0), (1, 0), (2, 0)] rfl rfl rfl ?_
      refine sd_vv rfl rfl rfl (vv_move rfl) ?_
      refine sd_vv rfl rfl rfl (vv_add64 rfl rfl (by omega) (by omega)) ?_
      refine sd_vv rfl rfl rfl (vv_assign rfl) ?_
      refine sd_done ?_
      refine sw_seq ?_
      refine sw_seq ?_
      -- region 7 bits.go:346
      refine sw_region [(0, 0), (1, 0)] rfl rfl rfl ?_
      refine sd_vv rfl rfl rfl (vv_move rfl) ?_
      refine sd_vv rfl rfl rfl (vv_geq rfl rfl) ?_
      refine sd_done ?_
      refine sw_cond rfl (fun h6 => ?_) (fun h6 => ?_)
      · -- h6 True
        replace h6 := of_decide_eq_true h6
        refine sw_seq ?_
        -- region 8 bits.go:347
        refine sw_region [(0, 0), (1, 0), (2, 0)] rfl rfl rfl ?_
        refine sd_vv rfl rfl rfl (vv_move rfl) ?_
        refine sd_vv rfl rfl rfl (vv_shrN (n := 8) (m := 256) rfl rfl rfl (by decide)) ?_
        refine sd_vv rfl rfl rfl (vv_assign rfl) ?_
        refine sd_done ?_
        -- region 9 bits.go:348
        refine sw_region [(0, 0), (1, 0), (2, 0)] rfl rfl rfl ?_
        refine sd_vv rfl rfl rfl (vv_move rfl) ?_
        refine sd_vv rfl rfl rfl (vv_add64 rfl rfl (by omega) (by omega)) ?_
        refine sd_vv rfl rfl rfl (vv_assign rfl) ?_
        refine sd_done ?_
        refine sw_seq ?_
        -- region 10 bits.go:350
        refine sw_region [(0, 0), (1, 0), (2, 0), (3, 0), (4, 0), (5, 0), (6, 0)] rfl rfl rfl ?_
        refine sd_vv rfl rfl rfl (vv_move rfl) ?_
        refine sd_vv rfl rfl rfl (vv_move rfl) ?_
        refine sd_vv rfl rfl rfl (vv_convB cv_24_5 rfl (by omega) (by omega)) ?_
        refine sd_vv rfl rfl rfl (vv_eq (vv_ixStr Tryz.underlying9 rfl rfl (by omega) (show lenTab[_]? = _ from (lenTab_at (by omega) (by omega)).1)) (congrArg (Value.int .u8) (lenTab_at (by omega) (by omega)).2.symm)) ?_
        refine sd_vv rfl rfl rfl (vv_conv64 cv_5_3 rfl (lg_lo _) (lg_hi (by omega) (by omega))) ?_
        refine sd_vv rfl rfl rfl (vv_add64 rfl rfl (lg_add _ (by decide)) (lg_add2 (by omega) (by omega) (by decide))) ?_
        refine sd_vv rfl rfl rfl (vv_assign rfl) ?_
        refine sd_done ?_
        refine sw_ret ?_
        refine ⟨_, _, rfl, res_tmp rfl rfl, ?_⟩
        refine ⟨congrArg (Value.int .i64) ?_, (Gr.refl w)⟩
        have e0 : lg (a : Int) = lg ((a : Int) / 65536) + 16 := lg_shift (a : Int) 16 65536 (by decide) (by omega)
        have e1 : lg ((a : Int) / 65536) = lg (((a : Int) / 65536) / 256) + 8 := lg_shift ((a : Int) / 65536) 8 256 (by decide) (by omega)
        omega
      · -- h6 False
        replace h6 := of_decide_eq_false h6
        refine sw_skip ?_
        refine then_n ?_
        refine sw_seq ?_
        -- region 10 bits.go:350
        refine sw_region [(0, 0), (1, 0), (2, 0), (3, 0), (4, 0), (5, 0), (6, 0)] rfl rfl rfl ?_
        refine sd_vv rfl rfl rfl (vv_move rfl) ?_
        refine sd_vv rfl rfl rfl (vv_move rfl) ?_
        refine sd_vv rfl rfl rfl (vv_convB cv_24_5 rfl (by omega) (by omega)) ?_
        refine sd_vv rfl rfl rfl (vv_eq (vv_ixStr Tryz.underlying9 rfl rfl (by omega) (show lenTab[_]? = _ from (lenTab_at (by omega) (by omega)).1)) (congrArg (Value.int .u8) (lenTab_at (by omega) (by omega)).2.symm)) ?_
        refine sd_vv rfl rfl rfl (vv_conv64 cv_5_3 rfl (lg_lo _) (lg_hi (by omega) (by omega))) ?_
        refine sd_vv rfl rfl rfl (vv_add64 rfl rfl (lg_add _ (by decide)) (lg_add2 (by omega) (by omega) (by decide))) ?_
        refine sd_vv rfl rfl rfl (vv_assign rfl) ?_
        refine sd_done ?_
        refine sw_ret ?_
        refine ⟨_, _, rfl, res_tmp rfl rfl, ?_⟩
        refine ⟨congrArg (Value.int .i64) ?_, (Gr.refl w)⟩
        have e0 : lg (a : Int) = lg ((a : Int) / 65536) + 16 := lg_shift (a : Int) 16 65536 (by decide) (by omega)
        omega
    · -- h5 False
      replace h5 := of_decide_eq_false h5
      refine sw_skip ?_
      refine then_n ?_
      refine sw_seq ?_
      refine sw_seq ?_
      -- region 7 bits.go:346
      refine sw_region [(0, 0), (1, 0)] rfl rfl rfl ?_
      refine sd_vv rfl rfl rfl (vv_move rfl) ?_
      refine sd_vv rfl rfl rfl (vv_geq rfl rfl) ?_
      refine sd_done ?_
      refine sw_cond rfl (fun h7 => ?_) (fun h7 => ?_)
      · -- h7 True
        replace h7 := of_decide_eq_true h7
        refine sw_seq ?_
        -- region 8 bits.go:347
        refine sw_region [(0, 0), (1, 0), (2, 0)] rfl rfl rfl ?_
        refine sd_vv rfl rfl rfl (vv_move rfl) ?_
        refine sd_vv rfl rfl rfl (vv_shrN (n := 8) (m := 256) rfl rfl rfl (by decide)) ?_
        refine sd_vv rfl rfl rfl (vv_assign rfl) ?_
        refine sd_done ?_
        -- region 9 bits.go:348
        refine sw_region [(0, 0), (1, 0), (2, 0)] rfl rfl rfl ?_
        refine sd_vv rfl rfl rfl (vv_move rfl) ?_
        refine sd_vv rfl rfl rfl (vv_add64 rfl rfl (by omega) (by omega)) ?_
        refine sd_vv rfl rfl rfl (vv_assign rfl) ?_
        refine sd_done ?_
        refine sw_seq ?_
        -- region 10 bits.go:350
        refine sw_region [(0, 0), (1, 0), (2, 0), (3, 0), (4, 0), (5, 0), (6, 0)] rfl rfl rfl ?_
        refine sd_vv rfl rfl rfl (vv_move rfl) ?_
        refine sd_vv rfl rfl rfl (vv_move rfl) ?_
        refine sd_vv rfl rfl rfl (vv_convB cv_24_5 rfl (by omega) (by omega)) ?_
        refine sd_vv rfl rfl rfl (vv_eq (vv_ixStr Tryz.underlying9 rfl rfl (by omega) (show lenTab[_]? = _ from (lenTab_at (by omega) (by omega)).1)) (congrArg (Value.int .u8) (lenTab_at (by omega) (by omega)).2.symm)) ?_
        refine sd_vv rfl rfl rfl (vv_conv64 cv_5_3 rfl (lg_lo _) (lg_hi (by omega) (by omega))) ?_
        refine sd_vv rfl rfl rfl (vv_add64 rfl rfl (lg_add _ (by decide)) (lg_add2 (by omega) (by omega) (by decide))) ?_
        refine sd_vv rfl rfl rfl (vv_assign rfl) ?_
        refine sd_done ?_
        refine sw_ret ?_
        refine ⟨_, _, rfl, res_tmp rfl rfl, ?_⟩
        refine ⟨congrArg (Value.int .i64) ?_, (Gr.refl w)⟩
        have e0 : lg (a : Int) = lg ((a : Int) / 256) + 8 := lg_shift (a : Int) 8 256 (by decide) (by omega)
        omega
      · -- h7 False
        replace h7 := of_decide_eq_false h7
        refine sw_skip ?_
        refine then_n ?_
        refine sw_seq ?_
        -- region 10 bits.go:350
        refine sw_region [(0, 0), (1, 0), (2, 0), (3, 0), (4, 0), (5, 0), (6, 0)] rfl rfl rfl ?_
        refine sd_vv rfl rfl rfl (vv_move rfl) ?_
        refine sd_vv rfl rfl rfl (vv_move rfl) ?_
        refine sd_vv rfl rfl rfl (vv_convB cv_24_5 rfl (by omega) (by omega)) ?_
        refine sd_vv rfl rfl rfl (vv_eq (vv_ixStr Tryz.underlying9 rfl rfl (by omega) (show lenTab[_]? = _ from (lenTab_at (by omega) (by omega)).1)) (congrArg (Value.int .u8) (lenTab_at (by omega) (by omega)).2.symm)) ?_
        refine sd_vv rfl rfl rfl (vv_conv64 cv_5_3 rfl (lg_lo _) (lg_hi (by omega) (by omega))) ?_
        refine sd_vv rfl rfl rfl (vv_add64 rfl rfl (lg_add _ (by decide)) (lg_add2 (by omega) (by omega) (by decide))) ?_
        refine sd_vv rfl rfl rfl (vv_assign rfl) ?_
        refine sd_done ?_
        refine sw_ret ?_
        refine ⟨_, _, rfl, res_tmp rfl rfl, ?_⟩
        refine ⟨congrArg (Value.int .i64) ?_, (Gr.refl w)⟩
        omega
set_option maxHeartbeats 1000000 in
theorem len_c (a : Int) (ha1 : 0 ≤ a) (ha2 : a < 18446744073709551616) (w : World) :
    Calls Tryz.prog 356 [.int .u64 a].toArray w fun e w' => ∃ v, e = .returned v ∧ (v = .int .i64 (lg a) ∧ Gr w w') := by
  refine calls_of_sw (R := fun v w' => v = .int .i64 (lg a) ∧ Gr w w') 8 Tryz.func356 rfl rfl rfl ?_
  refine sw_seq ?_
  -- region 0 bits.go:302
  refine sw_region [(0, 0)] rfl rfl rfl ?_
  refine sd_vv rfl rfl rfl (vv_assign rfl) ?_
  refine sd_done ?_
  refine sw_seq ?_
  refine sw_condF rfl ?_
  refine sw_skip ?_
  refine then_n ?_
  refine sw_seq ?_
  -- region 2 bits.go:306
  refine sw_region [(0, 0), (1, 0), (2, 0)] rfl rfl rfl ?_
  refine sd_vv rfl rfl rfl (vv_move rfl) ?_
  refine sd_ev rfl rfl rfl (ev_call en_385 rfl (len64_c _ (by omega) (by omega) _)) ?_
  rintro _ w1 ⟨rfl, Gw1⟩
  have z1 := Gw1.size
  refine sd_vv rfl rfl rfl (vv_assign rfl) ?_
  refine sd_done ?_
  refine sw_ret ?_
  have X2 : Gr w w1 := (Gr.trans (Gr.refl w) Gw1)
  refine ⟨_, _, rfl, res_tmp rfl rfl, ?_⟩
  exact ⟨rfl, X2⟩
end Go.Proofs.YtgdojjniakpadaaGreat

end
section
set_option linter.unusedVariables false
set_option linter.unusedSimpArgs false
namespace Go.Sx
open Go Go.RowKit Go.Proofs Go.Sort Go.Shelf
def Ws' (k : Nat) (xs : List (List Value)) : Prop := ∀ y ∈ xs, y.length = k
/-- what the sort leaves -/
theorem sortW {β : Type} [Inhabited β] (enc : β → List Value) (k : Nat) (hk : 1 ≤ k) (hc : ∀ b, (enc b).length = k) (w : World) (g n : Nat) (d : Array β) (os : Array Obj) (e : TypeId) (cur : Array Value) (hb : w.heap[g]? = some (.cells cur e (0, 0))) (hl : d.size * k ≤ cur.size) :
    ∃ cur' : Array Value, (sortWorldK enc k w g 0 n d os).heap[g]? = some (.cells cur' e (0, 0)) ∧ cur'.size = cur.size ∧ cur'.toList.take (d.size * k) = (d.toList.map enc).flatten ∧ Kz [(1, g)] w (sortWorldK enc k w g 0 n d os) := by
  have hlt : g < w.heap.size := (Array.getElem?_eq_some_iff.1 hb).1
  have hh : (sortWorldK enc k w g 0 n d os).heap = (w.heap.modify g (onCells (putCells id 0 (flatK enc k d)))) ++ os := rfl
  refine ⟨putCells id 0 (flatK enc k d) cur, ?_, by simp [putCells], ?_, ?_⟩
  · rw [hh, Array.getElem?_append_left (by simpa using hlt), Array.getElem?_modify, if_pos rfl, hb]; rfl
  · apply List.ext_getElem?
    intro t
    rw [List.getElem?_take]
    have hfl : ((d.toList.map enc).flatten).length = d.size * k := by
      have : Ws' k (d.toList.map enc) := by
        intro y hy; obtain ⟨b, _, rfl⟩ := List.mem_map.1 hy; exact hc b
      have h2 : ∀ (xs : List (List Value)), Ws' k xs → xs.flatten.length = xs.length * k := by
        intro xs
        induction xs with
        | nil => intro _; simp
        | cons a xs ih => intro h; rw [List.flatten_cons, List.length_append, ih (fun y hy => h y (List.mem_cons_of_mem _ hy)), h a (by simp), List.length_cons, Nat.add_mul]; omega
      rw [h2 _ this]; simp
    by_cases ht : t < d.size * k
    · rw [if_pos ht]
      have htc : t < cur.size := by omega
      have h3 : (putCells id 0 (flatK enc k d) cur).toList[t]? = some ((flatK enc k d)[t]!) := by
        simp only [putCells, Array.getElem?_toList, Array.getElem?_mapIdx, Array.getElem?_eq_getElem htc, Option.map_some, Nat.zero_le, true_and, Nat.zero_add, size_flatK, ht, if_true, Nat.sub_zero, id]
      rw [h3, get_flatK enc k d t ht]
      have hq : t / k < d.size := (Nat.div_lt_iff_lt_mul (by omega)).2 ht
      have hm : t % k < k := Nat.mod_lt _ (by omega)
      have hgen : ∀ (xs : List (List Value)), Ws' k xs → ∀ i j c, xs[i]? = some c → j < k → xs.flatten[i * k + j]? = c[j]? := by
        intro xs
        induction xs with
        | nil => intro _ i j c h; simp at h
        | cons a xs ih =>
          intro hw i j c h hj
          have ha := hw a (by simp)
          rw [List.flatten_cons]
          cases i with
          | zero => simp at h; subst h; rw [Nat.zero_mul, Nat.zero_add, List.getElem?_append_left (by omega)]
          | succ i =>
            rw [List.getElem?_append_right (by rw [ha, Nat.add_mul]; omega), show (i + 1) * k + j - a.length = i * k + j from by rw [ha, Nat.add_mul]; omega]
            exact ih (fun y hy => hw y (List.mem_cons_of_mem _ hy)) i j c (by simpa using h) hj
      have h4 := hgen (d.toList.map enc) (fun y hy => by obtain ⟨b, _, rfl⟩ := List.mem_map.1 hy; exact hc b) (t / k) (t % k) (enc d[t / k]!) (by simp [hq]) hm
      have hdm : t / k * k + t % k = t := by rw [Nat.mul_comm]; exact Nat.div_add_mod t k
      rw [hdm] at h4
      rw [h4]
      have h5 : t % k < (enc d[t / k]!).length := by rw [hc]; exact hm
      simp [h5]
    · rw [if_neg ht, List.getElem?_eq_none (by omega)]
  · refine ⟨rfl, rfl, rfl, by rw [hh]; simp, fun i hi hn => ?_⟩
    have hne : g ≠ i := by
      simp only [Nin] at hn
      rcases hn.1 with h | h
      · omega
      · exact fun e => h e.symm
    rw [hh, Array.getElem?_append_left (by simpa using hi), Array.getElem?_modify, if_neg hne]
section
variable {P : Program} {ρ : Ren}
/-- the shelf's contract, in the words of the mirrors -/
theorem sort_gen {β : Type} (c : β → List Value) (k : Nat) (hc : ∀ b, (c b).length = k) (h1 : ∀ b, ones (c b) = true) (hk : 1 ≤ k) (key : β → Int) (cf : Nat) (L : SlLaysF0.n6 P ρ) (aE : ∀ w, (isAgg (ρ.t 24)).run P w = .ok true w) (zE : ∀ w, (Go.sizeOf (ρ.t 24)).run P w = .ok k w)
    (eg : ∀ args w, (callFunc cf args).run P w = .ok (.enter cf args) w)
    (hcmp : ∀ (x y : β) (W : World), 0 ≤ key x ∧ key x < 4611686018427387904 → 0 ≤ key y ∧ key y < 4611686018427387904 → Calls P cf #[.agg (c x).toArray, .agg (c y).toArray] W fun e w' => e = .returned (.int .i64 (key x - key y)) ∧ ∃ q os', w' = grow (W.drewN q) os')
    {l m : List β} (hm : srtBy key l = some m) (w : World) (z g : Nat) (e : TypeId) (v : Value) (h : Own w z g e k v (l.map c)) :
    Calls P (ρ.f 6) #[v, .func (.func cf) #[] #[]] w fun e' w' => ∃ v', e' = .returned v' ∧ (Own w' z g e k v (m.map c) ∧ Kz [(z, g)] w w') := by
  obtain ⟨rfl, hbd, hnd, hlen⟩ := srtBy_eq hm
  rcases h.2 with ⟨hz, rfl, h0⟩ | ⟨hz, cap, cur, rfl, hb, hn, hcap, hsz, htk⟩
  · have hl0 : l = [] := by simpa using h0
    subst hl0
    refine (AnyF.slices_SortFunc_none L none 0 (.func (.func cf) #[] #[]) w).mono ?_
    rintro e' w' ⟨rfl, rfl⟩
    exact ⟨_, rfl, by simpa using h, Kz.refl _ _⟩
  · by_cases hl0 : l = []
    · subst hl0
      have : (([] : List β).map c).length = 0 := rfl
      rw [this]
      refine (AnyF.slices_SortFunc_none L (some ⟨g, 0, none⟩) cap (.func (.func cf) #[] #[]) w).mono ?_
      rintro e' w' ⟨rfl, rfl⟩
      exact ⟨_, rfl, by simpa using h, Kz.refl _ _⟩
    · obtain ⟨b0, hb0⟩ := List.exists_mem_of_ne_nil l hl0
      let A := { x : β // x ∈ l }
      letI : Inhabited A := ⟨⟨b0, hb0⟩⟩
      let enc : A → List Value := fun x => c x.1
      let d : Array A := l.attach.toArray
      let cfn : A → A → Int := fun x y => key x.1 - key y.1
      have hds : d.size = l.length := by show l.attach.toArray.size = l.length; simp
      have hlt : ∀ x y : A, ltOf cfn x y = decide (key x.1 < key y.1) := fun x y => by
        unfold ltOf; apply decide_eq_decide.2; show key x.1 - key y.1 < 0 ↔ _; omega
      have hO : SWO (ltOf cfn) := ⟨fun x => by rw [hlt]; simp, fun x y z h1 h2 => by rw [hlt] at *; simp at *; omega, fun x y z h1 h2 => by rw [hlt] at *; simp at *; omega⟩
      have hT : ∀ x y : A, ltOf cfn x y = false → ltOf cfn y x = false → x = y := fun x y h1 h2 => by
        rw [hlt] at h1 h2
        simp at h1 h2
        have he : key x.1 = key y.1 := by omega
        apply Subtype.ext
        obtain ⟨i, hi, ei⟩ := List.mem_iff_getElem.1 x.2
        obtain ⟨j, hj, ej⟩ := List.mem_iff_getElem.1 y.2
        have hij : i = j := (List.getElem_inj (h₀ := by simpa using hi) (h₁ := by simpa using hj) hnd).1 (by rw [List.getElem_map, List.getElem_map, ei, ej]; exact he)
        subst hij; rw [← ei, ← ej]
      have hmk : d.toList.map enc = l.map c := by
        show l.attach.toArray.toList.map (fun x : A => c x.1) = l.map c
        show List.map (fun x : { x : β // x ∈ l } => c x.1) l.attach = l.map c
        exact List.attach_map_val
      rw [List.length_map] at hn htk
      have hle : d.size * k ≤ cur.size := by rw [hds, hsz]; exact Nat.mul_le_mul_right _ hn
      have hH : HoldsK enc k w g 0 d := by
        intro j hj
        rw [size_flatK] at hj
        rw [get_flatK enc k d j hj]
        have hq : j / k < d.size := (Nat.div_lt_iff_lt_mul (by omega)).2 hj
        have hm' : j % k < k := Nat.mod_lt _ (by omega)
        have hcell : w.cell? ⟨g, 0 + j, none⟩ = cur[j]? := by rw [Nat.zero_add, cell_of_row w g j _ e _ hb]
        have hws : Ws k (l.map c) := h.1
        have hat := hws.at (j / k) (j % k) (c (l[j / k]'(by omega))) (by simp [show j / k < l.length by omega]) hm'
        have hdm : j / k * k + j % k = j := by rw [Nat.mul_comm]; exact Nat.div_add_mod j k
        rw [hdm, ← htk, List.getElem?_take, if_pos (by rw [hds] at hj; exact hj), Array.getElem?_toList] at hat
        have hdj : enc d[j / k]! = c (l[j / k]'(by omega)) := by
          have : d[j / k]! = ⟨l[j / k]'(by omega), List.getElem_mem _⟩ := by
            have hjl : j / k < d.size := hq
            rw [getElem!_pos d (j / k) hjl]
            show (l.attach.toArray)[j / k]'(by simpa using (show j / k < l.length by omega)) = _
            simp
          rw [this]
        refine ⟨?_, ?_⟩
        · rw [hcell, hat, hdj]
          have h5 : j % k < (c (l[j / k]'(by omega))).length := by rw [hc]; exact hm'
          simp [h5]
        · simp [World.frozen?, hb]
      have hcl : CmpLays P cf #[] enc k cfn g 0 d.size w := fun mm os dk hs x y => by
        have := hcmp x.1 y.1 (sortWorldK enc k w g 0 mm dk os) (hbd _ x.2) (hbd _ y.2)
        simpa [enc, cfn] using this
      have hone : ∀ x : A, ∀ u ∈ enc x, u.oneCell' = true := fun x u hu => by
        have hws : Ws k (l.map c) := h.1
        exact hws.one u (List.mem_flatten.2 ⟨c x.1, List.mem_map.2 ⟨x.1, x.2, rfl⟩, hu⟩)
      have := AnyQ.slices_SortFunc_total L k aE zE enc (fun x => hc x.1) hone cfn hO cf #[] g 0 cap d w eg hcl hH (Array.getElem?_eq_some_iff.1 hb).1 (by omega) hT
      rw [hds] at this
      rw [List.length_map]
      refine this.mono ?_
      rintro e' w' ⟨rfl, n, os, rfl⟩
      have hms : (d.toList.mergeSort fun x y => !(ltOf cfn) y x).map enc = (l.mergeSort fun a b => decide (key a ≤ key b)).map c := by
        have e1 : (d.toList.mergeSort fun x y => !(ltOf cfn) y x).map Subtype.val = (l.mergeSort fun a b => decide (key a ≤ key b)) := by
          rw [List.map_mergeSort (s := fun a b => decide (key a ≤ key b)) (fun a _ b _ => by rw [hlt]; by_cases hh : key b.1 < key a.1 <;> simp [hh] <;> omega)]
          congr 1
          show List.map Subtype.val l.attach = l
          simp
        rw [← e1, List.map_map]; rfl
      have hsl : (d.toList.mergeSort fun x y => !(ltOf cfn) y x).toArray.size = l.length := by rw [List.size_toArray, List.length_mergeSort]; exact hds
      obtain ⟨cur', q1, q2, q3, q4⟩ := sortW enc k hk (fun x => hc x.1) w g n (d.toList.mergeSort fun x y => !(ltOf cfn) y x).toArray os e cur hb (by rw [hsl, ← hds]; exact hle)
      rw [hsl, List.toList_toArray, hms] at q3
      refine ⟨_, rfl, ⟨?_, .inr ⟨hz, cap, cur', ?_, q1, ?_, ?_, ?_, ?_⟩⟩, by rw [hz]; exact q4⟩
      · exact ws_map' fun x _ => ⟨hc x, h1 x⟩
      · rw [List.length_map, List.length_mergeSort]
      · rw [List.length_map, List.length_mergeSort]; exact hn
      · exact hcap
      · rw [q2]; exact hsz
      · rw [List.length_map, List.length_mergeSort]; exact q3
end
end Go.Sx

end
section
set_option linter.unusedVariables false
set_option linter.unusedSimpArgs false
set_option maxRecDepth 100000
namespace Go.Proofs.YtgdojjniakpadaaGreat.Mx
open Go Go.RowKit Go.Sx Go.Proofs Go.Shelf Go.Lib Go.Sort
def laySub_ren : Go.Shelf.Ren := ⟨fun | 6 => 314 | 15 => 356 | 14 => 355 | 28 => 384 | 29 => 385 | 20 => 376 | 21 => 377 | 22 => 378 | 23 => 379 | 24 => 380 | 25 => 381 | 26 => 382 | 27 => 383 | 46 => 390 | 47 => 391 | 48 => 392 | 49 => 393 | 50 => 394 | 57 => 403 | n => n, fun | 22 => 202 | 24 => 171 | 25 => 395 | 3 => 3 | 39 => 155 | 0 => 0 | 53 => 193 | 55 => 24 | 4 => 4 | 46 => 437 | 45 => 436 | 50 => 157 | 5 => 5 | 9 => 9 | 66 => 450 | 70 => 257 | 76 => 461 | 77 => 226 | n => n, fun | n => n⟩
theorem laySub : Go.Proofs.SlLaysF0.n6 Tryz.prog laySub_ren := {
  mixed := by kernel_rfl
  f6 := ⟨Tryz.f314.name, by decide, Tryz.func314.trans (congrArg some (by kernel_rfl))⟩
  f14 := ⟨Tryz.f355.name, by decide, Tryz.func355.trans (congrArg some (by kernel_rfl))⟩
  f15 := Tryz.func356.trans (congrArg some (by kernel_rfl))
  f20 := ⟨Tryz.f376.name, by decide, Tryz.func376.trans (congrArg some (by kernel_rfl))⟩
  f21 := ⟨Tryz.f377.name, by decide, Tryz.func377.trans (congrArg some (by kernel_rfl))⟩
  f22 := ⟨Tryz.f378.name, by decide, Tryz.func378.trans (congrArg some (by kernel_rfl))⟩
  f23 := ⟨Tryz.f379.name, by decide, Tryz.func379.trans (congrArg some (by kernel_rfl))⟩
  f24 := ⟨Tryz.f380.name, by decide, Tryz.func380.trans (congrArg some (by kernel_rfl))⟩
  f25 := ⟨Tryz.f381.name, by decide, Tryz.func381.trans (congrArg some (by kernel_rfl))⟩
  f26 := ⟨Tryz.f382.name, by decide, Tryz.func382.trans (congrArg some (by kernel_rfl))⟩
  f27 := ⟨Tryz.f383.name, by decide, Tryz.func383.trans (congrArg some (by kernel_rfl))⟩
  f28 := Tryz.func384.trans (congrArg some (by kernel_rfl))
  f29 := Tryz.func385.trans (congrArg some (by kernel_rfl))
  f46 := ⟨Tryz.f390.name, by decide, Tryz.func390.trans (congrArg some (by kernel_rfl))⟩
  f47 := Tryz.func391.trans (congrArg some (by kernel_rfl))
  f48 := Tryz.func392.trans (congrArg some (by kernel_rfl))
  f49 := ⟨Tryz.f393.name, by decide, Tryz.func393.trans (congrArg some (by kernel_rfl))⟩
  f50 := ⟨Tryz.f394.name, by decide, Tryz.func394.trans (congrArg some (by kernel_rfl))⟩
  f57 := ⟨Tryz.f403.name, by decide, Tryz.func403.trans (congrArg some (by kernel_rfl))⟩
  t0 := Tryz.underlying0
  a0 := Tryz.isAgg0
  z0 := Tryz.sizeOf0
  v0 := Tryz.zeroValue0
  t3 := Tryz.underlying3
  a3 := Tryz.isAgg3
  z3 := Tryz.sizeOf3
  v3 := Tryz.zeroValue3
  t4 := Tryz.underlying4
  a4 := Tryz.isAgg4
  z4 := Tryz.sizeOf4
  v4 := Tryz.zeroValue4
  t5 := Tryz.underlying5
  a5 := Tryz.isAgg5
  z5 := Tryz.sizeOf5
  v5 := Tryz.zeroValue5
  t9 := Tryz.underlying9
  a9 := Tryz.isAgg9
  z9 := Tryz.sizeOf9
  v9 := Tryz.zeroValue9
  t22 := Tryz.underlying202
  a22 := Tryz.isAgg202
  z22 := Tryz.sizeOf202
  v22 := Tryz.zeroValue202
  t25 := Tryz.underlying395
  a25 := Tryz.isAgg395
  z25 := Tryz.sizeOf395
  v25 := Tryz.zeroValue395
  t39 := Tryz.underlying155
  a39 := Tryz.isAgg155
  z39 := Tryz.sizeOf155
  v39 := Tryz.zeroValue155
  t45 := Tryz.underlying436
  a45 := Tryz.isAgg436
  z45 := Tryz.sizeOf436
  v45 := Tryz.zeroValue436
  t46 := Tryz.underlying437
  a46 := Tryz.isAgg437
  z46 := Tryz.sizeOf437
  v46 := Tryz.zeroValue437
  t50 := Tryz.underlying157
  a50 := Tryz.isAgg157
  z50 := Tryz.sizeOf157
  v50 := Tryz.zeroValue157
  t53 := Tryz.underlying193
  a53 := Tryz.isAgg193
  z53 := Tryz.sizeOf193
  v53 := Tryz.zeroValue193
  t55 := Tryz.underlying24
  a55 := Tryz.isAgg24
  z55 := Tryz.sizeOf24
  v55 := Tryz.zeroValue24
  t66 := Tryz.underlying450
  a66 := Tryz.isAgg450
  z66 := Tryz.sizeOf450
  v66 := Tryz.zeroValue450
  t70 := Tryz.underlying257
  a70 := Tryz.isAgg257
  z70 := Tryz.sizeOf257
  v70 := Tryz.zeroValue257
  t76 := Tryz.underlying461
  a76 := Tryz.isAgg461
  z76 := Tryz.sizeOf461
  v76 := Tryz.zeroValue461
  t77 := Tryz.underlying226
  a77 := Tryz.isAgg226
  z77 := Tryz.sizeOf226
  v77 := Tryz.zeroValue226 }
theorem w64_sub {a b : Int} (ha : 0 ≤ a ∧ a < 4611686018427387904) (hb : 0 ≤ b ∧ b < 4611686018427387904) : IntKind.i64.wrap (a - b) = a - b := by rw [IntKind.wrap_i64]; omega
set_option maxHeartbeats 1000000 in
theorem cloSub (x y : TSubset) (W : World) (hx : 0 ≤ x.Node ∧ x.Node < 4611686018427387904) (hy : 0 ≤ y.Node ∧ y.Node < 4611686018427387904) : Calls Tryz.prog 315 #[.agg #[.int .i64 x.Node, .int .i64 x.Minus], .agg #[.int .i64 y.Node, .int .i64 y.Minus]] W fun e w' => e = .returned (.int .i64 (x.Node - y.Node)) ∧ ∃ q os', w' = grow (W.drewN q) os' := by
  have hw := w64_sub hx hy
  go_enter Tryz.func315, Tryz.ntmps315
  go_wp2
  go_ret
  exact ⟨rfl, 0, _, by rw [alloc_eq_grow, alloc_eq_grow, grow_grow]; rfl⟩
theorem sortSub_c {l m : List TSubset} (hm : srtBy TSubset.Node l = some m) (w : World) (z g : Nat) (v : Value) (h : Own w z g 171 2 v (l.map TSubset.cs)) : Calls Tryz.prog 314 [v, .func (.func 315) #[] #[]].toArray w fun e' w' => ∃ v', e' = .returned v' ∧ (Own w' z g 171 2 v (m.map TSubset.cs) ∧ Kz [(z, g)] w w') :=
  sort_gen (ρ := laySub_ren) TSubset.cs 2 (fun _ => rfl) (fun x => TSubset.cs_ones x) (by decide) TSubset.Node 315 laySub (fun _ => by kernel_rfl) (fun _ => by kernel_rfl) (fun _ _ => by kernel_rfl) (fun x y W hx hy => cloSub x y W hx hy) hm w z g 171 v h
end Go.Proofs.YtgdojjniakpadaaGreat.Mx

end
section
set_option linter.unusedVariables false
set_option linter.unusedSimpArgs false
namespace Go.Sx
open Go
theorem fuel_lt {n : Nat} (h : n < 9223372036854775808) : n < FUEL := by unfold FUEL; omega
theorem w64_id {n : Int} (h0 : -9223372036854775808 ≤ n) (h1 : n ≤ 9223372036854775807) : w64 n = n := by
  have := IntKind.wrap_i64 n
  unfold w64; rw [this]; omega
theorem bind_some {α β : Type} (a : α) (f : α → Option β) : Option.bind (some a) f = f a := rfl
theorem appG_some {α : Type} {b : Nat} {l m : List α} (h : (l.length + m.length) * b ≤ 140737488355328) : appG b l m = some (l ++ m) := if_pos h
theorem getI_some {α : Type} {l : List α} {i : Nat} (h : i < l.length) : getI l (i : Int) = some l[i] := by unfold getI; rw [if_pos (by omega)]; simp [h]
theorem take_snoc {α : Type} (l : List α) (i : Nat) (h : i < l.length) : l.take (i + 1) = l.take i ++ [l[i]] := by rw [List.take_add_one]; simp [h]
/-- the bytes of a word, the highest first -/
def w8 (x : BitVec 64) : List (BitVec 8) := [byt x 0, byt x 1, byt x 2, byt x 3, byt x 4, byt x 5, byt x 6, byt x 7]
theorem w8_len (x : BitVec 64) : (w8 x).length = 8 := rfl
theorem div256 (x : BitVec 64) : x / 256#64 = x >>> 8 := by
  apply BitVec.eq_of_toNat_eq
  rw [BitVec.toNat_udiv, BitVec.toNat_ushiftRight, Nat.shiftRight_eq_div_pow]; rfl
theorem rem256 (x : BitVec 64) : (x % 256#64).setWidth 8 = x.setWidth 8 := by
  apply BitVec.eq_of_toNat_eq
  rw [BitVec.toNat_setWidth, BitVec.toNat_setWidth, BitVec.toNat_umod]
  have : (256#64 : BitVec 64).toNat = 256 := rfl
  rw [this]; omega
theorem quo256 (x : BitVec 64) : quoU x 256#64 = some (x >>> 8) := by unfold quoU; rw [if_neg (by decide), div256]
theorem remU256 (x : BitVec 64) : remU x 256#64 = some (x % 256#64) := by unfold remU; rw [if_neg (by decide)]
/-- n bytes, filled up with zeros -/
def pad (n : Nat) (s : List (BitVec 8)) : List (BitVec 8) := s.take n ++ List.replicate (n - s.length) 0#8
theorem pad_len (n : Nat) (s : List (BitVec 8)) : (pad n s).length = n := by simp [pad]; omega
end Go.Sx

end
section
set_option linter.unusedVariables false
set_option linter.unusedSimpArgs false
set_option maxRecDepth 100000
namespace Go.Sx
open Go
structure VA (a : TAir) : Prop where
  w1 : 1 ≤ a.Word
  w2 : a.Word ≤ 1000
  e1 : a.Word ≤ a.Epoch
  e2 : a.Epoch ≤ 1000 * a.Word
  e3 : a.Epoch.tmod a.Word = 0
  y0 : 0 ≤ a.Early
  r0 : 0 ≤ a.Drift
  d0 : 0 ≤ a.Delay
  s1 : 2 * a.Drift + a.Delay < 3 * a.Word
  s2 : a.Early + a.Delay ≤ a.Epoch
theorem va_ref (a : TAir) : ∃ b, ref05_ValidAir a = some b ∧ (b = true → VA a) := by
  have hJ : ref05_ValidAir_J1 a true = some false := rfl
  have hK : ref05_ValidAir_J2 a true = some false := rfl
  unfold ref05_ValidAir
  by_cases h1 : a.Word < 1
  · rw [if_pos h1]; exact ⟨false, hJ, fun h => by cases h⟩
  rw [if_neg h1]
  by_cases h2 : 1000 < a.Word
  · rw [if_pos h2]; exact ⟨false, hJ, fun h => by cases h⟩
  rw [if_neg h2]
  by_cases h3 : a.Epoch < a.Word
  · rw [if_pos h3]; exact ⟨false, hJ, fun h => by cases h⟩
  rw [if_neg h3, w64_id (n := 1000 * a.Word) (by omega) (by omega)]
  by_cases h4 : 1000 * a.Word < a.Epoch
  · rw [if_pos h4]; exact ⟨false, hJ, fun h => by cases h⟩
  rw [if_neg h4]
  unfold remI
  rw [if_neg (show ¬ a.Word = 0 from by omega), bind_some]
  by_cases h5 : a.Epoch.tmod a.Word ≠ 0
  · rw [decide_eq_true h5]; exact ⟨false, hJ, fun h => by cases h⟩
  rw [decide_eq_false h5]
  unfold ref05_ValidAir_J1
  rw [cond_false]
  by_cases h6 : a.Early < 0
  · rw [if_pos h6]; exact ⟨false, hK, fun h => by cases h⟩
  rw [if_neg h6]
  by_cases h7 : a.Drift < 0
  · rw [if_pos h7]; exact ⟨false, hK, fun h => by cases h⟩
  rw [if_neg h7]
  by_cases h8 : a.Delay < 0
  · rw [if_pos h8]; exact ⟨false, hK, fun h => by cases h⟩
  rw [if_neg h8]
  by_cases h9 : a.Epoch < a.Early
  · rw [if_pos h9]; exact ⟨false, hK, fun h => by cases h⟩
  rw [if_neg h9]
  by_cases h10 : 3000 < a.Drift
  · rw [if_pos h10]; exact ⟨false, hK, fun h => by cases h⟩
  rw [if_neg h10]
  by_cases h11 : 3000 < a.Delay
  · rw [decide_eq_true h11]; exact ⟨false, hK, fun h => by cases h⟩
  rw [decide_eq_false h11]
  unfold ref05_ValidAir_J2
  rw [cond_false, w64_id (n := 2 * a.Drift) (by omega) (by omega), w64_id (n := 2 * a.Drift + a.Delay) (by omega) (by omega), w64_id (n := 3 * a.Word) (by omega) (by omega), w64_id (n := a.Early + a.Delay) (by omega) (by omega)]
  by_cases h12 : 2 * a.Drift + a.Delay < 3 * a.Word
  · rw [if_pos h12]
    exact ⟨_, rfl, fun h => ⟨by omega, by omega, by omega, by omega, by omega, by omega, by omega, by omega, h12, of_decide_eq_true h⟩⟩
  · rw [if_neg h12]; exact ⟨false, rfl, fun h => by cases h⟩
theorem cair {a : TAir} (h : VA a) : epoch_CheckAir a = some 0 := by
  obtain ⟨w1, w2, e1, e2, e3, y0, r0, d0, s1, s2⟩ := h
  unfold epoch_CheckAir
  rw [if_neg (by omega), if_neg (by omega), if_neg (by omega), w64_id (n := 1000 * a.Word) (by omega) (by omega), if_neg (by omega)]
  unfold remI
  rw [if_neg (show ¬ a.Word = 0 from by omega), bind_some, decide_eq_false (by omega)]
  unfold epoch_CheckAir_J1
  have hm : ¬ mnI (mnI a.Early a.Drift) a.Delay < 0 := by unfold mnI; omega
  rw [cond_false, if_neg hm, w64_id (n := 3 * a.Word) (by omega) (by omega), if_neg (by omega), if_neg (by omega), w64_id (n := 2 * a.Drift) (by omega) (by omega), w64_id (n := 2 * a.Drift + a.Delay) (by omega) (by omega), if_neg (by omega), w64_id (n := a.Epoch - a.Delay) (by omega) (by omega), decide_eq_false (by omega)]
  rfl
theorem quo_nn {a b : Int} (h0 : 0 ≤ a) (h1 : a ≤ 9223372036854775807) (hb : 0 < b) : quoI a b = some (a / b) := by
  unfold quoI
  have e : a.tdiv b = a / b := Int.tdiv_eq_ediv_of_nonneg h0
  have h2 : 0 ≤ a / b := Int.ediv_nonneg h0 (by omega)
  have h3 : a / b ≤ a := Int.ediv_le_self _ h0
  rw [if_neg (by omega), e, w64_id (by omega) (by omega)]
end Go.Sx

end
section
set_option linter.unusedVariables false
set_option linter.unusedSimpArgs false
namespace Go.Sx
open Go
theorem log2_div (n k : Nat) (h : 2 ^ k ≤ n) : Nat.log2 n = Nat.log2 (n / 2 ^ k) + k := by
  induction k generalizing n with
  | zero => simp
  | succ k ih =>
    have h2 : 2 ^ k ≤ n / 2 := by rw [Nat.le_div_iff_mul_le (by omega)]; rw [Nat.pow_succ] at h; omega
    have h1 : 2 ≤ n := by have : 0 < 2 ^ k := Nat.two_pow_pos k; rw [Nat.pow_succ] at h; omega
    rw [Nat.log2_def, if_pos h1, ih (n / 2) h2, Nat.div_div_eq_div_mul, Nat.pow_succ, Nat.mul_comm 2]; omega
theorem log2_half {n : Nat} (h : 2 ≤ n) : Nat.log2 n = Nat.log2 (n / 2) + 1 := by rw [Nat.log2_def, if_pos h]
theorem log2_mono {m n : Nat} (h : m ≤ n) : Nat.log2 m ≤ Nat.log2 n := by
  rcases Nat.eq_zero_or_pos m with h0 | h0
  · subst h0; rw [Nat.log2_zero]; omega
  · exact (Nat.le_log2 (by omega)).2 (Nat.le_trans (Nat.log2_self_le (by omega)) h)
theorem log2_le62 {n : Nat} (h : n < 9223372036854775808) : Nat.log2 n ≤ 62 := by
  rcases Nat.eq_zero_or_pos n with h0 | h0
  · subst h0; rw [Nat.log2_zero]; omega
  · have : Nat.log2 n < 63 := (Nat.log2_lt (by omega)).2 (by omega)
    omega
theorem un_wdn {n : Nat} (h : n < 9223372036854775808) : un (wd (n : Int)) = (n : Int) := un_wd _ (by omega) (by omega)
theorem lg_nat {n : Nat} (h : 1 ≤ n) : lg (n : Int) = (Nat.log2 n : Int) + 1 := by unfold lg; rw [Int.toNat_natCast, if_neg (by omega)]
theorem level_eq {n : Nat} (h1 : 1 ≤ n) (h : n < 9223372036854775808) : cover_node_level (n : Int) = some (Nat.log2 n : Int) := by
  have := log2_le62 h
  unfold cover_node_level
  rw [un_wdn h, lg_nat h1, w64_id (by omega) (by omega), Int.add_sub_cancel]
theorem quo2 (n : Nat) (h : n < 9223372036854775808) : quoI (n : Int) 2 = some ((n / 2 : Nat) : Int) := by
  unfold quoI
  rw [if_neg (by decide), show (n : Int).tdiv 2 = ((n / 2 : Nat) : Int) from by rw [Int.tdiv_eq_ediv_of_nonneg (by omega)]; omega, w64_id (by omega) (by omega)]
theorem rlevel_loop : ∀ (f n k : Nat), n < 9223372036854775808 → Nat.log2 n < f → k + Nat.log2 n ≤ 1000 → fixN ref03_Level_L1 f ((n : Int), (k : Int)) = some ((k + Nat.log2 n : Nat) : Int)
  | 0, n, k, _, h, _ => by omega
  | f + 1, n, k, h, hf, hk => by
    rw [fix_step]; simp only [ref03_Level_L1]
    by_cases h2 : 2 ≤ n
    · have hh := log2_half h2
      rw [if_pos (by omega), quo2 n h, bind_some, w64_id (by omega) (by omega)]
      have := rlevel_loop f (n / 2) (k + 1) (by omega) (by omega) (by omega)
      rw [show (k : Int) + 1 = ((k + 1 : Nat) : Int) from by omega, this, hh]; congr 2; omega
    · rw [if_neg (by omega)]
      have : Nat.log2 n = 0 := by rw [Nat.log2_def, if_neg (by omega)]
      rw [this, Nat.add_zero]
theorem rlevel_eq {n : Nat} (h : n < 9223372036854775808) : ref03_Level (n : Int) = some (Nat.log2 n : Int) := by
  have := log2_le62 h
  have := rlevel_loop FUEL n 0 h (fuel_lt (by omega)) (by omega)
  unfold ref03_Level
  rw [show (0 : Int) = ((0 : Nat) : Int) from rfl, this, Nat.zero_add]
/-- whether a node is below another one -/
def belowB (w v : Nat) : Bool := decide (Nat.log2 v ≤ Nat.log2 w ∧ w / 2 ^ (Nat.log2 w - Nat.log2 v) = v)
theorem belowB_step {w v : Nat} (hv : 1 ≤ v) (h : v < w) : belowB w v = belowB (w / 2) v := by
  have hh := log2_half (n := w) (by omega)
  have hm := log2_mono (Nat.le_of_lt h)
  unfold belowB
  by_cases hl : Nat.log2 v ≤ Nat.log2 (w / 2)
  · have e : Nat.log2 w - Nat.log2 v = (Nat.log2 (w / 2) - Nat.log2 v) + 1 := by omega
    have e2 : w / 2 ^ (Nat.log2 w - Nat.log2 v) = w / 2 / 2 ^ (Nat.log2 (w / 2) - Nat.log2 v) := by rw [e, Nat.div_div_eq_div_mul, Nat.pow_succ, Nat.mul_comm 2]
    rw [e2]
    apply decide_eq_decide.2
    constructor
    · rintro ⟨_, h2⟩; exact ⟨hl, h2⟩
    · rintro ⟨_, h2⟩; exact ⟨hm, h2⟩
  · rw [decide_eq_false (p := _ ∧ w / 2 / 2 ^ _ = v) (fun hc => hl hc.1)]
    apply decide_eq_false
    rintro ⟨_, h2⟩
    rw [show Nat.log2 w - Nat.log2 v = 0 from by omega, Nat.pow_zero, Nat.div_one] at h2
    omega
theorem belowB_le {w v : Nat} (hw : 1 ≤ w) (h : w ≤ v) : belowB w v = decide (w = v) := by
  unfold belowB
  by_cases e : w = v
  · subst e; simp
  · rw [decide_eq_false e]
    apply decide_eq_false
    rintro ⟨h1, h2⟩
    have := log2_mono h
    rw [show Nat.log2 w - Nat.log2 v = 0 from by omega, Nat.pow_zero, Nat.div_one] at h2
    exact e h2
theorem shr_nat (n k : Nat) (hk : k ≤ 64) : shrI (n : Int) k = ((n / 2 ^ k : Nat) : Int) := by
  unfold shrI
  rw [Nat.min_eq_left hk, Int.natCast_ediv, Int.natCast_pow]; rfl
theorem below_eq {w v : Nat} (hw : 1 ≤ w) (hv : 1 ≤ v) (hw2 : w < 9223372036854775808) (hv2 : v < 9223372036854775808) : cover_node_below (w : Int) (v : Int) = some (belowB w v) := by
  have l1 := log2_le62 hw2
  have l2 := log2_le62 hv2
  unfold cover_node_below cover_node_below_J1
  rw [if_neg (by omega), if_neg (by omega), level_eq hw hw2, bind_some, level_eq hv hv2, bind_some]
  by_cases h : Nat.log2 w < Nat.log2 v
  · rw [decide_eq_true (by omega)]
    unfold belowB
    rw [decide_eq_false (by omega)]; rfl
  · rw [decide_eq_false (by omega)]
    simp only [cond_false]
    rw [bind_some, bind_some, w64_id (by omega) (by omega)]
    have : shG ((Nat.log2 w : Int) - (Nat.log2 v : Int)) = some (Nat.log2 w - Nat.log2 v) := by unfold shG; rw [if_pos (by omega)]; congr 1; omega
    rw [this, bind_some, shr_nat _ _ (by omega)]
    unfold belowB
    congr 1
    apply decide_eq_decide.2
    constructor
    · intro h3; exact ⟨by omega, by omega⟩
    · intro h3; omega
theorem rbelow_loop {v : Nat} (hv : 1 ≤ v) : ∀ (f w : Nat), 1 ≤ w → w < 9223372036854775808 → Nat.log2 w < f → fixN (ref03_Below_L1 (v : Int)) f (w : Int) = some (belowB w v)
  | 0, w, _, _, h => by omega
  | f + 1, w, hw, hw2, hf => by
    rw [fix_step]; simp only [ref03_Below_L1]
    by_cases h : v < w
    · have hh := log2_half (n := w) (by omega)
      rw [if_pos (by omega), quo2 w hw2, bind_some, rbelow_loop hv f (w / 2) (by omega) (by omega) (by omega), belowB_step hv h]
    · rw [if_neg (by omega), belowB_le hw (by omega)]
      congr 1
      apply decide_eq_decide.2; omega
theorem rbelow_eq {w v : Nat} (hw : 1 ≤ w) (hv : 1 ≤ v) (hw2 : w < 9223372036854775808) : ref03_Below (w : Int) (v : Int) = some (belowB w v) := by
  have := log2_le62 hw2
  exact rbelow_loop hv FUEL w hw hw2 (fuel_lt (by omega))
/-! sizes -/
def strd (d : Nat) : Nat := if d ≤ 1 then 1 else if d ≤ 4 then 2 else 3
theorem strd_pos (d : Nat) : 1 ≤ strd d := by unfold strd; split; omega; split <;> omega
theorem recv_fin : ∀ d : Fin 7, ref03_Receivers (d.1 : Int) = some ((2 ^ d.1 : Nat) : Int) := by decide +kernel
theorem recv_eq {d : Nat} (h : d ≤ 6) : ref03_Receivers (d : Int) = some ((2 ^ d : Nat) : Int) := recv_fin ⟨d, by omega⟩
theorem stride_fin : ∀ d : Fin 7, ref03_Stride (d.1 : Int) = some ((strd d.1 : Nat) : Int) := by decide +kernel
theorem rstride_eq {d : Nat} (h : d ≤ 6) : ref03_Stride (d : Int) = some ((strd d : Nat) : Int) := stride_fin ⟨d, by omega⟩
theorem pow_le64 {d : Nat} (h : d ≤ 6) : 2 ^ d ≤ 64 := Nat.le_trans (Nat.pow_le_pow_right (by omega) h) (by decide)
theorem shl1 {d : Nat} (h : d ≤ 6) : shlI 1 d = ((2 ^ d : Nat) : Int) := by
  have := pow_le64 h
  unfold shlI
  rw [Nat.min_eq_left (by omega), Int.one_mul, show (2 : Int) ^ d = ((2 ^ d : Nat) : Int) from by rw [Int.natCast_pow]; rfl]
  generalize 2 ^ d = m at *
  exact w64_id (by omega) (by omega)
theorem shG_nat (n : Nat) : shG (n : Int) = some n := by unfold shG; rw [if_pos (by omega)]; rfl
theorem size_eq {k : BitVec 8} {d : Nat} {st : Int} (h : d ≤ 6) : cover_tree_size ⟨k, (d : Int), st⟩ = some ((2 ^ d : Nat) : Int) := by
  unfold cover_tree_size
  rw [shG_nat, bind_some, shl1 h]
def hasN (d : Nat) (v : Int) : Bool := decide (1 ≤ v ∧ v < 2 * (2 ^ d : Nat))
theorem has_eq {k : BitVec 8} {d : Nat} {st v : Int} (h : d ≤ 6) : cover_tree_has ⟨k, (d : Int), st⟩ v = some (hasN d v) := by
  have := pow_le64 h
  unfold cover_tree_has hasN
  by_cases h1 : 1 ≤ v
  · rw [if_pos h1, size_eq h, bind_some]
    generalize 2 ^ d = m at *
    rw [w64_id (by omega) (by omega)]
    congr 1; apply decide_eq_decide.2; omega
  · rw [if_neg h1]; congr 1; symm; apply decide_eq_false; omega
theorem node_eq {d : Nat} {v : Int} (h : d ≤ 6) : ref03_Node (d : Int) v = some (hasN d v) := by
  have := pow_le64 h
  unfold ref03_Node hasN
  by_cases h1 : 1 ≤ v
  · rw [if_pos h1, recv_eq h, bind_some]
    generalize 2 ^ d = m at *
    rw [w64_id (by omega) (by omega)]
    congr 1; apply decide_eq_decide.2; omega
  · rw [if_neg h1]; congr 1; symm; apply decide_eq_false; omega
theorem hasN_nat {d : Nat} {v : Int} (hd : d ≤ 6) (h : hasN d v = true) : ∃ n : Nat, v = (n : Int) ∧ 1 ≤ n ∧ n < 128 := by
  have := pow_le64 hd
  unfold hasN at h
  generalize 2 ^ d = m at *
  have := of_decide_eq_true h
  exact ⟨v.toNat, by omega, by omega, by omega⟩
/-! special nodes -/
def spcl (d v : Nat) : Bool := decide (Nat.log2 v % strd d = 0)
theorem rem_nat (a b : Nat) (hb : 1 ≤ b) : remI (a : Int) (b : Int) = some ((a % b : Nat) : Int) := by
  unfold remI
  rw [if_neg (by omega), Int.tmod_eq_emod_of_nonneg (by omega), Int.natCast_emod]
theorem special_eq {k : BitVec 8} {d v : Nat} (hv : 1 ≤ v) (hv2 : v < 9223372036854775808) : cover_tree_special ⟨k, (d : Int), (strd d : Int)⟩ (v : Int) = some (spcl d v) := by
  unfold cover_tree_special spcl
  rw [level_eq hv hv2, bind_some, rem_nat _ _ (strd_pos d), bind_some]
  congr 1; apply decide_eq_decide.2; omega
theorem rspecial_eq {d v : Nat} (hd : d ≤ 6) (hv2 : v < 9223372036854775808) : ref03_Special (d : Int) (v : Int) = some (spcl d v) := by
  unfold ref03_Special spcl
  rw [rlevel_eq hv2, bind_some, rstride_eq hd, bind_some, rem_nat _ _ (strd_pos d), bind_some]
  congr 1; apply decide_eq_decide.2; omega
/-! paths -/
/-- the k nodes down to w -/
def pathN (w : Nat) : Nat → List Nat
  | 0 => []
  | k + 1 => w / 2 ^ k :: pathN w k
theorem pathN_snoc (w k : Nat) : pathN w (k + 1) = pathN (w / 2) k ++ [w] := by
  induction k with
  | zero => simp [pathN]
  | succ k ih => rw [pathN, ih, pathN, List.cons_append, Nat.div_div_eq_div_mul, Nat.pow_succ, Nat.mul_comm 2]
theorem pathN_len (w k : Nat) : (pathN w k).length = k := by
  induction k with
  | zero => rfl
  | succ k ih => simp [pathN, ih]
theorem pathN_bd {w k n : Nat} (hk : 2 ^ k ≤ w) (h : n ∈ pathN w k) : 1 ≤ n ∧ n ≤ w := by
  induction k with
  | zero => cases h
  | succ k ih =>
    have hk' : 2 ^ k ≤ w := by rw [Nat.pow_succ] at hk; omega
    rcases List.mem_cons.1 h with rfl | h
    · exact ⟨(Nat.le_div_iff_mul_le (Nat.two_pow_pos k)).2 (by omega), Nat.div_le_self _ _⟩
    · exact ih hk' h
theorem log2_divk {w k : Nat} (hk : 2 ^ k ≤ w) : Nat.log2 (w / 2 ^ k) = Nat.log2 w - k := by have := log2_div w k hk; omega
theorem div_pos' {w k : Nat} (hk : 2 ^ k ≤ w) : 1 ≤ w / 2 ^ k := (Nat.le_div_iff_mul_le (Nat.two_pow_pos k)).2 (by omega)
theorem toward_eq {w k : Nat} (hk : 2 ^ (k + 1) ≤ w) (hw : w < 9223372036854775808) : cover_node_toward ((w / 2 ^ (k + 1) : Nat) : Int) (w : Int) = some ((w / 2 ^ k : Nat) : Int) := by
  have hp := Nat.two_pow_pos (k + 1)
  have l1 := log2_le62 hw
  have hl := log2_div w (k + 1) hk
  unfold cover_node_toward
  rw [level_eq (by omega) hw, bind_some, level_eq (div_pos' hk) (Nat.lt_of_le_of_lt (Nat.div_le_self _ _) hw), bind_some, w64_id (n := (Nat.log2 w : Int) - (Nat.log2 (w / 2 ^ (k + 1)) : Int)) (by omega) (by omega), w64_id (by omega) (by omega)]
  rw [show (Nat.log2 w : Int) - (Nat.log2 (w / 2 ^ (k + 1)) : Int) - 1 = ((k : Nat) : Int) from by omega, shG_nat, bind_some, shr_nat _ _ (by omega)]
theorem path_loop {w : Nat} (hw : w < 9223372036854775808) : ∀ (k f : Nat), k < f → 2 ^ k ≤ w → fixN (cover_path_1_L1 (w : Int)) f ((w / 2 ^ k : Nat) : Int) = some ((pathN w k).map Int.ofNat)
  | k, 0, h, _ => by omega
  | 0, f + 1, _, _ => by
    rw [fix_step]; simp only [cover_path_1_L1]
    rw [if_neg (by simp)]; rfl
  | k + 1, f + 1, h, hk => by
    rw [fix_step]; simp only [cover_path_1_L1]
    have h1 : w / 2 ^ (k + 1) < w := Nat.div_lt_self (by have := Nat.two_pow_pos (k + 1); omega) (Nat.one_lt_two_pow (by omega))
    rw [if_pos (by omega), toward_eq hk hw, bind_some, path_loop hw k f (by omega) (by rw [Nat.pow_succ] at hk; omega)]
    rfl
theorem path_eq {w k : Nat} (hw : w < 9223372036854775808) (hk : 2 ^ k ≤ w) (hk2 : k ≤ 64) : cover_path_1 ((w / 2 ^ k : Nat) : Int) (w : Int) = some ((pathN w k).map Int.ofNat) := path_loop hw k FUEL (fuel_lt (by omega)) hk
theorem divk_ne {w j k : Nat} (hk : 2 ^ k ≤ w) (hj : j < k) : w / 2 ^ j ≠ w / 2 ^ k := fun e => by
  have h1 := log2_divk hk
  have h2 := log2_divk (w := w) (k := j) (Nat.le_trans (Nat.pow_le_pow_right (by omega) (by omega)) hk)
  have h3 := log2_div w k hk
  rw [e] at h2; omega
theorem rpath_loop {w k : Nat} (hw : w < 9223372036854775808) (hk : 2 ^ k ≤ w) (hk2 : k ≤ 64) : ∀ (m j f : Nat), j + m = k → m < f → fixN (ref03_Path_L1 ((w / 2 ^ k : Nat) : Int)) f (((w / 2 ^ j : Nat) : Int), (pathN w j).map Int.ofNat) = some (((w / 2 ^ k : Nat) : Int) :: (pathN w k).map Int.ofNat)
  | m, j, 0, _, h => by omega
  | 0, j, f + 1, hj, _ => by
    obtain rfl : j = k := by omega
    rw [fix_step]; simp only [ref03_Path_L1]
    rw [if_neg (by simp), appG_some (by simp [pathN_len]; omega), bind_some]; rfl
  | m + 1, j, f + 1, hj, hf => by
    rw [fix_step]; simp only [ref03_Path_L1]
    have hne := divk_ne hk (show j < k by omega)
    have hlt : w / 2 ^ j < 9223372036854775808 := Nat.lt_of_le_of_lt (Nat.div_le_self _ _) hw
    rw [if_pos (by omega), appG_some (by simp [pathN_len]; omega), bind_some, quo2 _ hlt, bind_some, Nat.div_div_eq_div_mul, ← Nat.pow_succ]
    exact rpath_loop hw hk hk2 m (j + 1) f (by omega) (by omega)
theorem rpath_eq {w k : Nat} (hw : w < 9223372036854775808) (hk : 2 ^ k ≤ w) (hk2 : k ≤ 64) : ref03_Path ((w / 2 ^ k : Nat) : Int) (w : Int) = some (((w / 2 ^ k : Nat) : Int) :: (pathN w k).map Int.ofNat) := by
  have := rpath_loop hw hk hk2 k 0 FUEL (by omega) (fuel_lt (by omega))
  rw [Nat.pow_zero, Nat.div_one] at this
  exact this
end Go.Sx

end
section
set_option linter.unusedVariables false
set_option linter.unusedSimpArgs false
namespace Go.Sx
open Go
def zG : TGroup := TGroup.mk 0#64 0#64 0#64
def vldB (s : TScheme) : Bool := decide (1#8 ≤ s.Kind ∧ s.Kind ≤ 3#8 ∧ 0 ≤ s.Depth ∧ s.Depth ≤ 6 ∧ s.Degree = 0 ∧ s.Group = zG)
theorem valid_eq (s : TScheme) : ref03_Valid s = some (vldB s) := by
  unfold ref03_Valid vldB zG
  by_cases h1 : 1#8 ≤ s.Kind
  · by_cases h2 : s.Kind ≤ 3#8
    · by_cases h3 : 0 ≤ s.Depth
      · by_cases h4 : s.Depth ≤ 6
        · by_cases h5 : s.Degree = 0
          · simp [h1, h2, h3, h4, h5]
          · simp [h1, h2, h3, h4, h5]
        · simp [h1, h2, h3, h4]
      · simp [h1, h2, h3]
    · simp [h1, h2]
  · simp [h1]
theorem vld_depth {s : TScheme} (h : vldB s = true) : ∃ d : Nat, s.Depth = (d : Int) ∧ d ≤ 6 := by
  unfold vldB at h
  have := of_decide_eq_true h
  exact ⟨s.Depth.toNat, by omega, by omega⟩
theorem treeOf_step (s : TScheme) (n : Nat) (a : Int) : fixN (cover_treeOf_L2 s) (n + 1) a = if w64 (a * a) < s.Depth then fixN (cover_treeOf_L2 s) n (w64 (a + 1)) else some (Tcover_tree.mk s.Kind s.Depth a, true) := rfl
theorem treeOf_loop (s : TScheme) {d : Nat} (hd : s.Depth = (d : Int)) (h : d ≤ 6) : fixN (cover_treeOf_L2 s) FUEL 1 = some (Tcover_tree.mk s.Kind (d : Int) (strd d : Int), true) := by
  have e1 : w64 (1 * 1) = 1 := by decide
  have e2 : w64 (1 + 1) = 2 := by decide
  have e3 : w64 (2 * 2) = 4 := by decide
  have e4 : w64 (2 + 1) = 3 := by decide
  have e5 : w64 (3 * 3) = 9 := by decide
  rw [show FUEL = 18446744073709551613 + 3 from rfl, treeOf_step, e1, e2, hd]
  unfold strd
  by_cases h1 : d ≤ 1
  · rw [if_neg (by omega), if_pos h1, ← hd]; rfl
  · rw [if_pos (by omega), if_neg h1, show 18446744073709551613 + 2 = 18446744073709551614 + 1 from rfl, treeOf_step, e3, e4, hd]
    by_cases h2 : d ≤ 4
    · rw [if_neg (by omega), if_pos h2, ← hd]; rfl
    · rw [if_pos (by omega), if_neg h2, show 18446744073709551614 = 18446744073709551613 + 1 from rfl, treeOf_step, e5, hd, if_neg (by omega), ← hd]; rfl
def treeI (s : TScheme) : Tcover_tree := Tcover_tree.mk s.Kind s.Depth (strd s.Depth.toNat : Int)
theorem treeOf_eq (s : TScheme) : cover_treeOf s = some (if vldB s then (treeI s, true) else (Tcover_tree.mk 0#8 0 0, false)) := by
  unfold cover_treeOf cover_treeOf_J1
  by_cases hv : vldB s = true
  · rw [if_pos hv]
    obtain ⟨d, hd, h6⟩ := vld_depth hv
    unfold vldB at hv
    obtain ⟨h1, h2, h3, h4, h5, h7⟩ := of_decide_eq_true hv
    have hs : s = TScheme.mk s.Kind s.Depth 0 (TGroup.mk 0#64 0#64 0#64) := by cases s; simp only at *; rw [h5, h7]; rfl
    rw [if_neg (by rw [BitVec.not_lt]; exact h1), if_neg (by rw [BitVec.not_lt]; exact h2), if_neg (by omega), if_neg (by omega), decide_eq_false (by simpa using hs)]
    simp only [cond_false]
    rw [treeOf_loop s hd h6]
    unfold treeI
    rw [hd, Int.toNat_natCast]
  · rw [if_neg hv]
    have hn : ¬ (1#8 ≤ s.Kind ∧ s.Kind ≤ 3#8 ∧ 0 ≤ s.Depth ∧ s.Depth ≤ 6 ∧ s.Degree = 0 ∧ s.Group = zG) := fun h => hv (by unfold vldB; exact decide_eq_true h)
    by_cases h1 : s.Kind < 1#8
    · rw [if_pos h1]; rfl
    · rw [if_neg h1]
      by_cases h2 : 3#8 < s.Kind
      · rw [if_pos h2]; rfl
      · rw [if_neg h2]
        by_cases h3 : s.Depth < 0
        · rw [if_pos h3]; rfl
        · rw [if_neg h3]
          by_cases h4 : (6 : Int) < s.Depth
          · rw [if_pos h4]; rfl
          · rw [if_neg h4, decide_eq_true (p := s ≠ _)]
            · rfl
            · intro hs
              refine hn ⟨BitVec.not_lt.1 h1, BitVec.not_lt.1 h2, by omega, by omega, ?_, ?_⟩
              · rw [hs]
              · rw [hs]; rfl
/-! the first special node -/
def fstS (d : Nat) (l : List Nat) : Nat := (l.find? (spcl d)).getD 0
theorem first_eq {k : BitVec 8} {d : Nat} : ∀ (l : List Nat), (∀ n ∈ l, 1 ≤ n ∧ n < 9223372036854775808) →
    itL (cover_first_cover_path_1_cover_tree_special_R1 ⟨k, (d : Int), (strd d : Int)⟩) cover_first_cover_path_1_cover_tree_special_D1 (l.map Int.ofNat) 0 = some ((fstS d l : Nat) : Int)
  | [], _ => rfl
  | a :: l, h => by
    rw [List.map_cons, itL_cons]
    simp only [cover_first_cover_path_1_cover_tree_special_R1]
    have ha := h a (by simp)
    rw [show (Int.ofNat a) = (a : Int) from rfl, special_eq ha.1 ha.2, bind_some]
    unfold fstS
    rw [List.find?_cons]
    cases hs : spcl d a with
    | true => rfl
    | false => exact first_eq l (fun n hn => h n (by simp [hn]))
theorem between_loop {d : Nat} (hd : d ≤ 6) (v m : Nat) (l : List Nat) (hl : l.length ≤ 64) (hb : ∀ n ∈ l, n < 9223372036854775808) : ∀ (r : List Nat) (j f : Nat), j + r.length = l.length → l.drop j = r → r.length < f →
    fixN (ref03_between_L1 (d : Int) ((v : Int) :: (l ++ [m]).map Int.ofNat)) f ((j + 1 : Nat) : Int) = some ((fstS d r : Nat) : Int)
  | r, j, 0, _, _, h => by omega
  | [], j, f + 1, hj, hr, _ => by
    rw [fix_step]; simp only [ref03_between_L1]
    rw [w64_id (by simp; omega) (by simp; omega), if_neg (by simp; simp at hj; omega)]; rfl
  | a :: r, j, f + 1, hj, hr, hf => by
    rw [fix_step]; simp only [ref03_between_L1]
    have hjl : j < l.length := by simp at hj; omega
    have ha : l[j] = a := by
      have := List.drop_eq_getElem_cons hjl; rw [hr] at this; exact (List.cons.inj this).1.symm
    have hr' : l.drop (j + 1) = r := by
      have := List.drop_eq_getElem_cons hjl; rw [hr] at this; exact (List.cons.inj this).2.symm
    have hg : getI ((v : Int) :: (l ++ [m]).map Int.ofNat) ((j + 1 : Nat) : Int) = some (a : Int) := by
      rw [getI_some (by simp; omega)]
      simp only [List.map_append, List.getElem_cons_succ, List.getElem_append_left (show j < (l.map Int.ofNat).length by simpa using hjl), List.getElem_map, ha]; rfl
    rw [w64_id (by simp; omega) (by simp; omega), if_pos (by simp; omega), hg, bind_some, rspecial_eq hd (hb a (by rw [← ha]; exact List.getElem_mem hjl)), bind_some]
    unfold fstS
    rw [List.find?_cons]
    cases hs : spcl d a with
    | true => rfl
    | false =>
      simp only [cond_false]
      rw [w64_id (by simp at hj; omega) (by simp at hj; omega), show ((j + 1 : Nat) : Int) + 1 = ((j + 1 + 1 : Nat) : Int) from by omega]
      exact between_loop hd v m l hl hb r (j + 1) f (by simp at hj ⊢; omega) hr' (by simp at hf; omega)
theorem below_split {m n : Nat} (hm : 1 ≤ m) (hn : 1 ≤ n) (h : belowB m n = true) (hne : m ≠ n) : ∃ k, Nat.log2 m - Nat.log2 n = k + 1 ∧ n = m / 2 ^ (k + 1) ∧ 2 ^ (k + 1) ≤ m := by
  unfold belowB at h
  obtain ⟨h1, h2⟩ := of_decide_eq_true h
  have h3 : Nat.log2 m - Nat.log2 n ≠ 0 := fun e => by rw [e, Nat.pow_zero, Nat.div_one] at h2; exact hne h2
  refine ⟨Nat.log2 m - Nat.log2 n - 1, by omega, ?_, ?_⟩
  · rw [show Nat.log2 m - Nat.log2 n - 1 + 1 = Nat.log2 m - Nat.log2 n from by omega]; exact h2.symm
  · rw [show Nat.log2 m - Nat.log2 n - 1 + 1 = Nat.log2 m - Nat.log2 n from by omega]
    exact Nat.le_trans (Nat.pow_le_pow_right (by omega) (by omega)) (Nat.log2_self_le (by omega))
theorem half_pow {m k : Nat} (h : 2 ^ (k + 1) ≤ m) : 2 ^ k ≤ m / 2 := by rw [Nat.le_div_iff_mul_le (by omega)]; rw [Nat.pow_succ] at h; omega
theorem cut_eq {kd : BitVec 8} {d m k : Nat} (hm : m < 128) (hk : 2 ^ (k + 1) ≤ m) (hk2 : k ≤ 60) : cover_tree_cut ⟨kd, (d : Int), (strd d : Int)⟩ ((m / 2 ^ (k + 1) : Nat) : Int) (m : Int) = some ((fstS d (pathN (m / 2) k) : Nat) : Int) := by
  unfold cover_tree_cut cover_path cover_first_cover_path_1_cover_tree_special
  rw [show shG (un 1#64) = some 1 from by decide, bind_some, bind_some, shr_nat _ _ (by omega), Nat.pow_one]
  simp only
  have e : m / 2 ^ (k + 1) = m / 2 / 2 ^ k := by rw [Nat.div_div_eq_div_mul, Nat.pow_succ, Nat.mul_comm 2]
  have hp := half_pow hk
  rw [e, path_eq (by omega) hp (by omega), bind_some, first_eq _ (fun n hn => by have := pathN_bd hp hn; omega), bind_some]
theorem between_eq {d m k : Nat} (hd : d ≤ 6) (hm : m < 128) (hk : 2 ^ (k + 1) ≤ m) (hk2 : k ≤ 60) : ref03_between (d : Int) ((m / 2 ^ (k + 1) : Nat) : Int) (m : Int) = some ((fstS d (pathN (m / 2) k) : Nat) : Int) := by
  have hp := half_pow hk
  unfold ref03_between
  rw [rpath_eq (by omega) hk (by omega), bind_some, pathN_snoc]
  have := between_loop hd (m / 2 ^ (k + 1)) m (pathN (m / 2) k) (by rw [pathN_len]; omega) (fun n hn => by have := pathN_bd hp hn; omega) (pathN (m / 2) k) 0 FUEL (by omega) rfl (fuel_lt (by rw [pathN_len]; omega))
  exact this
theorem le_log {m k : Nat} (h : 2 ^ k ≤ m) (hm : m < 128) : k ≤ 6 := by
  have h1 := (Nat.le_log2 (n := m) (by have := Nat.two_pow_pos k; omega)).2 h
  have h2 : Nat.log2 m < 7 := (Nat.log2_lt (by have := Nat.two_pow_pos k; omega)).2 (by omega)
  omega
/-- what a subset is known to be -/
def SubOk (s : TScheme) (x : TSubset) : Prop := hasN s.Depth.toNat x.Node = true ∧ (s.Kind = 1#8 ∨ x.Minus = 0 ∨ (∃ m n k : Nat, x.Minus = (m : Int) ∧ x.Node = (n : Int) ∧ n = m / 2 ^ (k + 1) ∧ 2 ^ (k + 1) ≤ m ∧ m < 128 ∧ k ≤ 6 ∧ 1 ≤ n))
theorem subset_eq (s : TScheme) (hv : vldB s = true) (x : TSubset) : ∃ b, cover_tree_subset (treeI s) x = some b ∧ ref03_IsSubset s x = some b ∧ (b = true → SubOk s x) := by
  obtain ⟨d, hd, h6⟩ := vld_depth hv
  have ht : treeI s = ⟨s.Kind, (d : Int), (strd d : Int)⟩ := by unfold treeI; rw [hd, Int.toNat_natCast]
  rw [ht]
  unfold cover_tree_subset ref03_IsSubset
  rw [hd, has_eq h6, node_eq h6, bind_some, bind_some]
  have hno : false = true → SubOk s x := fun h => by cases h
  cases h1 : hasN d x.Node with
  | false => exact ⟨false, rfl, rfl, hno⟩
  | true =>
    have hsd : hasN s.Depth.toNat x.Node = true := by rw [hd, Int.toNat_natCast]; exact h1
    simp only [Bool.not_true, cond_false]
    obtain ⟨n, hn, hn1, hn2⟩ := hasN_nat h6 h1
    by_cases hk : s.Kind = 1#8
    · rw [if_pos hk, if_pos hk]
      unfold cover_tree_subset_J1
      rw [cond_true]
      by_cases hm : x.Minus = 0
      · rw [if_pos hm, if_pos hk]; exact ⟨true, rfl, by rw [decide_eq_true hm], fun _ => ⟨hsd, .inl hk⟩⟩
      · rw [if_neg hm]; exact ⟨false, rfl, by rw [decide_eq_false hm], hno⟩
    · rw [if_neg hk, if_neg hk]
      unfold cover_tree_subset_J1
      by_cases hm : x.Minus = 0
      · rw [decide_eq_true hm, cond_true, if_pos hm, if_neg hk, if_pos hm]
        exact ⟨_, rfl, rfl, fun _ => ⟨hsd, .inr (.inl hm)⟩⟩
      · rw [decide_eq_false hm, cond_false, if_neg hm, has_eq h6, node_eq h6, bind_some, bind_some]
        have hf : ∃ b, cover_tree_subset_J2 ⟨s.Kind, (d : Int), (strd d : Int)⟩ x true = some b ∧ ref03_IsSubset_J1 s x true = some b ∧ (b = true → SubOk s x) := ⟨false, rfl, rfl, hno⟩
        cases h2 : hasN d x.Minus with
        | false => exact hf
        | true =>
          rw [Bool.not_true, cond_false, cond_false]
          obtain ⟨m, hm1, hm2, hm3⟩ := hasN_nat h6 h2
          by_cases he : x.Minus = x.Node
          · rw [if_pos he, if_pos he]; exact hf
          · have e1 : cover_node_below x.Minus x.Node = some (belowB m n) := by rw [hm1, hn]; exact below_eq hm2 hn1 (by omega) (by omega)
            have e2 : ref03_Below x.Minus x.Node = some (belowB m n) := by rw [hm1, hn]; exact rbelow_eq hm2 hn1 (by omega)
            rw [if_neg he, if_neg he, e1, e2, bind_some, bind_some]
            cases h3 : belowB m n with
            | false => exact hf
            | true =>
              obtain ⟨k, hk0, hk1, hk2⟩ := below_split hm2 hn1 h3 (by omega)
              have hkl := le_log hk2 hm3
              have hok : ∀ b : Bool, b = true → SubOk s x := fun b _ => ⟨hsd, .inr (.inr ⟨m, n, k, hm1, hn, hk1, hk2, hm3, by omega, hn1⟩)⟩
              unfold cover_tree_subset_J2 ref03_IsSubset_J1
              rw [Bool.not_true, cond_false, cond_false]
              by_cases hk3 : s.Kind = 2#8
              · rw [if_pos hk3, if_pos hk3]; exact ⟨true, rfl, rfl, hok true⟩
              · have e3 : cover_tree_special ⟨s.Kind, (d : Int), (strd d : Int)⟩ x.Node = some (spcl d n) := by rw [hn]; exact special_eq hn1 (by omega)
                have e4 : ref03_Special s.Depth x.Node = some (spcl d n) := by rw [hn, hd]; exact rspecial_eq h6 (by omega)
                rw [if_neg hk3, if_neg hk3, e3, e4, bind_some, bind_some]
                cases hs : spcl d n with
                | true => exact ⟨true, rfl, rfl, hok true⟩
                | false =>
                  rw [cond_false, cond_false]
                  have e5 : cover_tree_cut ⟨s.Kind, (d : Int), (strd d : Int)⟩ x.Node x.Minus = some ((fstS d (pathN (m / 2) k) : Nat) : Int) := by rw [hn, hm1, hk1]; exact cut_eq hm3 hk2 (by omega)
                  have e6 : ref03_between s.Depth x.Node x.Minus = some ((fstS d (pathN (m / 2) k) : Nat) : Int) := by rw [hn, hm1, hd, hk1]; exact between_eq h6 hm3 hk2 (by omega)
                  rw [e5, e6, bind_some]
                  exact ⟨_, rfl, rfl, hok _⟩
end Go.Sx

end
section
set_option linter.unusedVariables false
set_option linter.unusedSimpArgs false
namespace Go.Sx
open Go
theorem fix_from {α σ τ R : Type} (l : List α) (F : (τ → Option R) → τ → Option R) (pk : Nat → σ → τ) (B : α → (σ → Option R) → σ → Option R) (D : σ → Option R)
    (h1 : ∀ rec (j : Nat) (hj : j < l.length) s, F rec (pk j s) = B l[j] (fun s' => rec (pk (j + 1) s')) s) (h2 : ∀ rec s, F rec (pk l.length s) = D s) :
    ∀ (m j f : Nat) (s : σ), j + m = l.length → m < f → fixN F f (pk j s) = itL B D (l.drop j) s
  | m, j, 0, s, _, h => by omega
  | 0, j, f + 1, s, hj, _ => by
    have : j = l.length := by omega
    subst this
    rw [fix_step, h2, List.drop_length]; rfl
  | m + 1, j, f + 1, s, hj, hf => by
    have hjl : j < l.length := by omega
    rw [fix_step, h1 _ j hjl, List.drop_eq_getElem_cons hjl, itL_cons]
    have : (fun s' => fixN F f (pk (j + 1) s')) = itL B D (l.drop (j + 1)) := funext fun s' => fix_from l F pk B D h1 h2 m (j + 1) f s' (by omega) (by omega)
    rw [this]
/-- a loop over the indexes of a list -/
theorem fix_itL {α σ τ R : Type} (l : List α) (F : (τ → Option R) → τ → Option R) (pk : Nat → σ → τ) (B : α → (σ → Option R) → σ → Option R) (D : σ → Option R)
    (h1 : ∀ rec (j : Nat) (hj : j < l.length) s, F rec (pk j s) = B l[j] (fun s' => rec (pk (j + 1) s')) s) (h2 : ∀ rec s, F rec (pk l.length s) = D s) {f : Nat} (hf : l.length < f) (s : σ) : fixN F f (pk 0 s) = itL B D l s := by
  have := fix_from l F pk B D h1 h2 l.length 0 f s (by omega) hf
  rwa [List.drop_zero] at this
/-- a loop over numbers below n -/
theorem fix_range {σ τ R : Type} (n : Nat) (F : (τ → Option R) → τ → Option R) (pk : Nat → σ → τ) (B : Nat → (σ → Option R) → σ → Option R) (D : σ → Option R)
    (h1 : ∀ rec (j : Nat) (hj : j < n) s, F rec (pk j s) = B j (fun s' => rec (pk (j + 1) s')) s) (h2 : ∀ rec s, F rec (pk n s) = D s) {f : Nat} (hf : n < f) (s : σ) : fixN F f (pk 0 s) = itL B D (List.range n) s :=
  fix_itL (List.range n) F pk B D (fun rec j hj s => by rw [List.length_range] at hj; rw [h1 rec j hj, List.getElem_range]) (fun rec s => by rw [List.length_range]; exact h2 rec s) (by rw [List.length_range]; exact hf) s
/-- a state that turns, with no way out -/
theorem itL_fold {α σ R : Type} (g : σ → α → σ) (F : α → (σ → Option R) → σ → Option R) (d : σ → Option R) (I : Nat → σ → Prop) : ∀ (l : List α) (k : Nat) (s : σ), (∀ j (a : α) s nx, a ∈ l → I j s → F a nx s = nx (g s a)) → (∀ j (a : α) s, a ∈ l → I j s → I (j + 1) (g s a)) → I k s → itL F d l s = d (l.foldl g s)
  | [], k, s, _, _, _ => rfl
  | a :: l, k, s, h, hi, hs => by
    rw [itL_cons, h k a s _ (by simp) hs, List.foldl_cons]
    exact itL_fold g F d I l (k + 1) (g s a) (fun j b s nx hb => h j b s nx (by simp [hb])) (fun j b s hb => hi j b s (by simp [hb])) (hi k a s (by simp) hs)
/-- elements put behind one another, where a condition holds -/
theorem itL_app {α β R : Type} (b n : Nat) (p : α → Bool) (f : α → β) (F : α → (List β → Option R) → List β → Option R) (d : List β → Option R) : ∀ (l : List α) (s : List β), (∀ a ∈ l, ∀ nx s, F a nx s = bif p a then Option.bind (appG b s [f a]) nx else nx s) → (s.length + l.length) * b ≤ 140737488355328 → itL F d l s = d (s ++ (l.filter p).map f)
  | [], s, _, _ => by simp [itL_nil]
  | a :: l, s, h, hb => by
    have hlen : (s.length + (a :: l).length) * b = (s.length + 1 + l.length) * b := by congr 1; simp; omega
    rw [itL_cons, h a (by simp), List.filter_cons]
    cases hp : p a with
    | true =>
      have h2 : (s.length + 1) * b ≤ (s.length + 1 + l.length) * b := Nat.mul_le_mul_right _ (by omega)
      rw [cond_true, appG_some (by simp; omega), bind_some, itL_app b n p f F d l (s ++ [f a]) (fun x hx => h x (by simp [hx])) (by simp; omega)]
      simp
    | false =>
      have h2 : (s.length + l.length) * b ≤ (s.length + 1 + l.length) * b := Nat.mul_le_mul_right _ (by omega)
      rw [cond_false, itL_app b n p f F d l s (fun x hx => h x (by simp [hx])) (by omega)]
      simp
/-- the first element with a property -/
theorem itL_find {α σ R : Type} (p : α → Bool) (X : α → σ → Option R) (F : α → (σ → Option R) → σ → Option R) (d : σ → Option R) : ∀ (l : List α) (s : σ), (∀ a ∈ l, ∀ nx s, F a nx s = bif p a then X a s else nx s) → itL F d l s = match l.find? p with | some a => X a s | none => d s
  | [], s, _ => rfl
  | a :: l, s, h => by
    rw [itL_cons, h a (by simp), List.find?_cons]
    cases hp : p a with
    | true => rfl
    | false => rw [cond_false]; exact itL_find p X F d l s (fun x hx => h x (by simp [hx]))
theorem yl_some' {α : Type} (x : α) (l : List α) : yl x (some l) = some (x :: l) := rfl
theorem w64_nat {n : Nat} (h : n < 9223372036854775807) : w64 ((n : Int) + 1) = ((n + 1 : Nat) : Int) := by rw [w64_id (by omega) (by omega)]; omega
end Go.Sx

end
section
set_option linter.unusedVariables false
set_option linter.unusedSimpArgs false
namespace Go.Sx
open Go
theorem leaf_eq {k : BitVec 8} {d u : Nat} {st : Int} (h : d ≤ 6) (hu : u < 128) : cover_tree_leaf ⟨k, (d : Int), st⟩ (u : Int) = some ((2 ^ d + u : Nat) : Int) := by
  have := pow_le64 h
  unfold cover_tree_leaf
  rw [size_eq h, bind_some]
  generalize 2 ^ d = m at *
  rw [w64_id (by omega) (by omega)]; congr 1
/-! both sides' way in -/
theorem enter0 (s : TScheme) : cover_enter s ([] : List TSubset) = some (if vldB s then (treeI s, 0) else (Tcover_tree.mk 0#8 0 0, 30)) := by
  unfold cover_enter
  rw [treeOf_eq, bind_some]
  cases hv : vldB s with
  | false => rfl
  | true => rfl
end Go.Sx

end
section
set_option linter.unusedVariables false
set_option linter.unusedSimpArgs false
set_option maxRecDepth 100000
namespace Go.Sx
open Go
/-- whether a node v and a node w strictly below it are a subset, in the kinds 2 and 3 -/
def subN (k : BitVec 8) (d v w : Nat) : Bool := decide (k = 2#8) || spcl d v || decide (fstS d (pathN (w / 2) (Nat.log2 w - Nat.log2 v - 1)) = 0)
/-- the labels at the nodes above a leaf, from the one j above it on -/
def labK (k : BitVec 8) (d leaf : Nat) : Nat → List (Nat × Nat)
  | 0 => []
  | j + 1 => ((pathN leaf (j + 1)).filter fun p => subN k d (leaf / 2 ^ (j + 1)) (p ^^^ 1)).map (fun p => (leaf / 2 ^ (j + 1), p ^^^ 1)) ++ labK k d leaf j
/-- the nodes of the labels of a receiver -/
def labN (k : BitVec 8) (d u : Nat) : List (Nat × Nat) := (1, 0) :: if k = 1#8 then (pathN (2 ^ d + u) d).map (fun p => (p, 0)) else labK k d (2 ^ d + u) d
def labS (k : BitVec 8) (d u : Nat) : List TSubset := (labN k d u).map fun x => TSubset.mk (x.1 : Int) (x.2 : Int)
theorem kind_cases {k : BitVec 8} (h1 : 1#8 ≤ k) (h3 : k ≤ 3#8) : k = 1#8 ∨ k = 2#8 ∨ k = 3#8 := by
  have a : 1 ≤ k.toNat := h1
  have b : k.toNat ≤ 3 := h3
  rcases (show k.toNat = 1 ∨ k.toNat = 2 ∨ k.toNat = 3 by omega) with h | h | h
  · exact .inl (BitVec.eq_of_toNat_eq h)
  · exact .inr (.inl (BitVec.eq_of_toNat_eq h))
  · exact .inr (.inr (BitVec.eq_of_toNat_eq h))
theorem vld_kind {s : TScheme} (h : vldB s = true) : 1#8 ≤ s.Kind ∧ s.Kind ≤ 3#8 := by
  unfold vldB at h
  have := of_decide_eq_true h
  exact ⟨this.1, this.2.1⟩
end Go.Sx

end
section
set_option linter.unusedVariables false
set_option linter.unusedSimpArgs false
namespace Go.Sx
open Go
/-- the label of a child -/
def stp (k : W2) (n : Nat) : W2 := if n % 2 = 1 then drv k (un8 32#8) 0#64 else drv k (un8 31#8) 0#64
theorem desc_eq : ∀ (l : List Nat) (k : W2), itL cover_descend_R1 cover_descend_D1 (l.map Int.ofNat) k = some (l.foldl stp k)
  | [], k => rfl
  | a :: l, k => by
    rw [List.map_cons, itL_cons]
    simp only [cover_descend_R1, cover_descend_J2]
    rw [show (Int.ofNat a) = (a : Int) from rfl, show (2 : Int) = ((2 : Nat) : Int) from rfl, rem_nat a 2 (by omega), bind_some, List.foldl_cons]
    unfold stp
    by_cases h : a % 2 = 1
    · rw [if_pos (by omega), if_pos h]; exact desc_eq l _
    · rw [if_neg (by omega), if_neg h]; exact desc_eq l _
theorem descend_eq {w k : Nat} (key : W2) (hw : w < 9223372036854775808) (hk : 2 ^ k ≤ w) (hk2 : k ≤ 64) : cover_descend key ((w / 2 ^ k : Nat) : Int) (w : Int) = some ((pathN w k).foldl stp key) := by
  unfold cover_descend cover_path
  rw [bind_some]
  simp only
  rw [path_eq hw hk hk2, bind_some, desc_eq]
theorem step_eq (k : W2) (n : Nat) : ref03_step k (n : Int) = some (stp k n) := by
  unfold ref03_step stp
  rw [show (2 : Int) = ((2 : Nat) : Int) from rfl, rem_nat n 2 (by omega), bind_some]
  by_cases h : n % 2 = 1
  · rw [if_neg (by omega), if_pos h]
  · rw [if_pos (by omega), if_neg h]
theorem down_loop (v : Int) (l : List Nat) (hl : l.length ≤ 1000) : ∀ (r : List Nat) (j f : Nat) (k : W2), j + r.length = l.length → l.drop j = r → r.length < f → fixN (ref03_down_L1 (v :: l.map Int.ofNat)) f (((j + 1 : Nat) : Int), k) = some (r.foldl stp k)
  | r, j, 0, k, _, _, h => by omega
  | [], j, f + 1, k, hj, hr, _ => by
    rw [fix_step]; simp only [ref03_down_L1]
    rw [if_neg (by simp at hj ⊢; omega)]; rfl
  | a :: r, j, f + 1, k, hj, hr, hf => by
    rw [fix_step]; simp only [ref03_down_L1]
    have hjl : j < l.length := by simp at hj; omega
    have ha : l[j] = a := by
      have := List.drop_eq_getElem_cons hjl; rw [hr] at this; exact (List.cons.inj this).1.symm
    have hr' : l.drop (j + 1) = r := by
      have := List.drop_eq_getElem_cons hjl; rw [hr] at this; exact (List.cons.inj this).2.symm
    have hg : getI (v :: l.map Int.ofNat) ((j + 1 : Nat) : Int) = some (a : Int) := by
      rw [getI_some (by simp; omega)]
      simp only [List.getElem_cons_succ, List.getElem_map, ha]; rfl
    rw [if_pos (by simp; omega), hg, bind_some, step_eq, bind_some, w64_id (by simp at hj; omega) (by simp at hj; omega), show ((j + 1 : Nat) : Int) + 1 = ((j + 1 + 1 : Nat) : Int) from by omega, List.foldl_cons]
    exact down_loop v l hl r (j + 1) f _ (by simp at hj ⊢; omega) hr' (by simp at hf; omega)
theorem down_eq {w k : Nat} (key : W2) (hw : w < 9223372036854775808) (hk : 2 ^ k ≤ w) (hk2 : k ≤ 64) : ref03_down key ((w / 2 ^ k : Nat) : Int) (w : Int) = some ((pathN w k).foldl stp key) := by
  unfold ref03_down
  rw [rpath_eq hw hk hk2, bind_some]
  exact down_loop _ (pathN w k) (by rw [pathN_len]; omega) (pathN w k) 0 FUEL key (by omega) rfl (fuel_lt (by rw [pathN_len]; omega))
/-- the key of a subset -/
theorem key_eq2 (root : W2) (s : TScheme) (x : TSubset) (h : SubOk s x) : ∃ k, cover_tree_key (treeI s) root x = some k ∧ ref03_KeyOf root s x = some k := by
  unfold cover_tree_key ref03_KeyOf cover_nodeKey ref03_label
  have ht : (treeI s).kind = s.Kind := rfl
  rw [ht]
  by_cases h1 : s.Kind = 1#8
  · rw [if_pos h1, if_pos h1]; exact ⟨_, rfl, rfl⟩
  · rw [if_neg h1, if_neg h1]
    by_cases h2 : x.Minus = 0
    · rw [if_pos h2, if_pos h2]; exact ⟨_, rfl, rfl⟩
    · rw [if_neg h2, if_neg h2]
      rcases h.2 with h3 | h3 | ⟨m, n, k, hm, hn, hk, hk2, hm2, hk3, hn1⟩
      · exact absurd h3 h1
      · exact absurd h3 h2
      · rw [hm, hn, hk, bind_some, descend_eq _ (by omega) hk2 (by omega), down_eq _ (by omega) hk2 (by omega), bind_some, bind_some]
        exact ⟨_, rfl, rfl⟩
end Go.Sx

end
section
set_option linter.unusedVariables false
set_option linter.unusedSimpArgs false
namespace Go.Sx
open Go
theorem filter_tt {α : Type} (l : List α) : (l.filter fun _ => true) = l := List.filter_eq_self.2 (by simp)
/-- n rounds, and then the result -/
theorem fix_run {τ R : Type} (F : (τ → Option R) → τ → Option R) (I : Nat → τ → Prop) (n : Nat) (r : Option R) (hs : ∀ j s, j < n → I j s → ∃ s', I (j + 1) s' ∧ ∀ rec, F rec s = rec s') (he : ∀ s, I n s → ∀ rec, F rec s = r) :
    ∀ (m j f : Nat) (s : τ), j + m = n → m < f → I j s → fixN F f s = r
  | m, j, 0, s, _, h, _ => by omega
  | 0, j, f + 1, s, hj, _, hi => by
    have : j = n := by omega
    subst this
    rw [fix_step, he s hi]
  | m + 1, j, f + 1, s, hj, hf, hi => by
    obtain ⟨s', h1, h2⟩ := hs j s (by omega) hi
    rw [fix_step, h2]
    exact fix_run F I n r hs he m (j + 1) f s' (by omega) (by omega) h1
end Go.Sx

end
section
set_option linter.unusedVariables false
set_option linter.unusedSimpArgs false
namespace Go.Sx
open Go
/-- the key of a label -/
def keyN (root : W2) (k : BitVec 8) (x : Nat × Nat) : W2 :=
  if x.2 = 0 then (if k = 1#8 then drv root (un8 30#8) (wd (x.1 : Int)) else drv root (un8 34#8) 0#64) else (pathN x.2 (Nat.log2 x.2 - Nat.log2 x.1)).foldl stp (drv root (un8 30#8) (wd (x.1 : Int)))
def lbl (root : W2) (k : BitVec 8) (x : Nat × Nat) : TLabel := TLabel.mk (x.1 : Int) (x.2 : Int) (keyN root k x)
def secN (root : W2) (k : BitVec 8) (d u : Nat) : List TLabel := (labN k d u).map (lbl root k)
def LabOk (x : Nat × Nat) : Prop := (1 ≤ x.1 ∧ x.1 < 128 ∧ x.2 < 128) ∧ (x.2 = 0 ∨ (belowB x.2 x.1 = true ∧ x.2 ≠ x.1))
theorem lab_split {x : Nat × Nat} (h : LabOk x) (h0 : x.2 ≠ 0) : ∃ k, Nat.log2 x.2 - Nat.log2 x.1 = k + 1 ∧ x.1 = x.2 / 2 ^ (k + 1) ∧ 2 ^ (k + 1) ≤ x.2 ∧ k ≤ 6 := by
  rcases h.2 with h2 | ⟨h2, h3⟩
  · exact absurd h2 h0
  · obtain ⟨k, e1, e2, e3⟩ := below_split (by omega) h.1.1 h2 h3
    have := le_log e3 h.1.2.2
    exact ⟨k, e1, e2, e3, by omega⟩
theorem keyOf_some {root : W2} {s : TScheme} {x : Nat × Nat} (h : LabOk x) (hk1 : s.Kind = 1#8 → x.2 = 0) : ∃ k, ref03_KeyOf root s (TSubset.mk (x.1 : Int) (x.2 : Int)) = some k ∧ (x.2 = 0 → k = keyN root s.Kind x) := by
  unfold ref03_KeyOf keyN
  by_cases hk : s.Kind = 1#8
  · rw [if_pos hk]; exact ⟨_, rfl, fun h0 => by rw [if_pos h0, if_pos hk]⟩
  · rw [if_neg hk]
    by_cases h0 : x.2 = 0
    · rw [if_pos (by simp [h0])]; exact ⟨_, rfl, fun _ => by rw [if_pos h0, if_neg hk]⟩
    · rw [if_neg (by simp only; omega)]
      obtain ⟨k, e1, e2, e3, e4⟩ := lab_split h h0
      unfold ref03_label
      have := down_eq (drv root (un8 30#8) (wd (x.1 : Int))) (w := x.2) (k := k + 1) (by have := h.1.2.2; omega) e3 (by omega)
      rw [← e2] at this
      simp only
      rw [this, bind_some, bind_some]
      exact ⟨_, rfl, fun h => absurd h h0⟩
theorem rlabel_eq {root : W2} {k' : BitVec 8} {x : Nat × Nat} (h : LabOk x) (h0 : x.2 ≠ 0) : ref03_label root (x.1 : Int) (x.2 : Int) = some (keyN root k' x) := by
  obtain ⟨k, e1, e2, e3, e4⟩ := lab_split h h0
  unfold ref03_label keyN
  have := down_eq (drv root (un8 30#8) (wd (x.1 : Int))) (w := x.2) (k := k + 1) (by have := h.1.2.2; omega) e3 (by omega)
  rw [← e2] at this
  rw [this, bind_some, if_neg h0, e1]
theorem lab1 {k : BitVec 8} {d u : Nat} (hk : k = 1#8) : ∀ x ∈ labN k d u, x.2 = 0 := by
  intro x hx
  unfold labN at hx
  rw [if_pos hk] at hx
  rcases List.mem_cons.1 hx with rfl | hx
  · rfl
  · obtain ⟨p, _, rfl⟩ := List.mem_map.1 hx; rfl
theorem rsecret_eq {root : W2} {s : TScheme} {d u : Nat} (ui : Int) (h : ∀ x ∈ labN s.Kind d u, LabOk x) (hl : (labN s.Kind d u).length ≤ 100) :
    fixN (ref03_SecretOf_L1 root s ui (labS s.Kind d u)) FUEL (0, []) = some (TSecret.mk ui (secN root s.Kind d u) (TPoint.mk 0#64 0#64)) := by
  have hls : (labS s.Kind d u).length = (labN s.Kind d u).length := by simp [labS]
  have := fix_itL (labN s.Kind d u) (ref03_SecretOf_L1 root s ui (labS s.Kind d u)) (fun j (acc : List TLabel) => ((j : Int), acc)) (fun a nx acc => Option.bind (appG 32 acc [lbl root s.Kind a]) nx) (fun acc => some (TSecret.mk ui acc (TPoint.mk 0#64 0#64)))
    (fun rec j hj acc => by
      have hj' : j < (labS s.Kind d u).length := by omega
      have hg : (labS s.Kind d u)[j] = TSubset.mk ((labN s.Kind d u)[j].1 : Int) ((labN s.Kind d u)[j].2 : Int) := by simp [labS]
      have hok := h _ (List.getElem_mem hj)
      obtain ⟨k, e1, e2⟩ := keyOf_some (root := root) (s := s) hok (fun hk => lab1 hk _ (List.getElem_mem hj))
      simp only [ref03_SecretOf_L1, ref03_SecretOf_J2, ref03_SecretOf_J3]
      rw [if_pos (by omega), getI_some hj', bind_some, hg, e1, bind_some, bind_some]
      simp only [bind_some]
      by_cases h0 : (labN s.Kind d u)[j].2 = 0
      · rw [if_neg (by omega), e2 h0, w64_nat (by omega)]; rfl
      · rw [if_pos (by omega), rlabel_eq (k' := s.Kind) hok h0, bind_some, w64_nat (by omega)]; rfl)
    (fun rec acc => by simp only [ref03_SecretOf_L1]; rw [if_neg (by omega)]) (f := FUEL) (fuel_lt (by omega)) ([] : List TLabel)
  rw [show ((0 : Nat) : Int) = 0 from rfl] at this
  rw [this]
  exact (itL_app 32 0 (fun _ => true) (lbl root s.Kind) _ _ _ _ (fun a _ nx l => rfl) (by simp; omega)).trans (by simp [secN, filter_tt])
theorem receiver_eq {k : BitVec 8} {d : Nat} {st u : Int} (h : d ≤ 6) : cover_tree_receiver ⟨k, (d : Int), st⟩ u = some (decide (0 ≤ u ∧ u < ((2 ^ d : Nat) : Int))) := by
  unfold cover_tree_receiver
  by_cases h0 : (0 : Int) ≤ u
  · rw [if_pos h0, size_eq h, bind_some]; congr 1; apply decide_eq_decide.2; omega
  · rw [if_neg h0]; congr 1; symm; apply decide_eq_false; omega
end Go.Sx

end
section
set_option linter.unusedVariables false
set_option linter.unusedSimpArgs false
set_option maxRecDepth 100000
namespace Go.Sx.Po
open Go
abbrev bn (n : Nat) : BitVec 64 := BitVec.ofNat 64 n
theorem bn_of (x : BitVec 64) : ∃ n, n < 18446744073709551616 ∧ x = bn n := ⟨x.toNat, x.isLt, by simp [bn]⟩
theorem bn_nat {n : Nat} (h : n < 18446744073709551616) : (bn n).toNat = n := by rw [bn, BitVec.toNat_ofNat]; exact Nat.mod_eq_of_lt h
theorem bn_inj {a b : Nat} (ha : a < 18446744073709551616) (hb : b < 18446744073709551616) : bn a = bn b ↔ a = b := by
  constructor
  · intro h; rw [← bn_nat ha, ← bn_nat hb, h]
  · intro h; rw [h]
theorem bn_lt {a b : Nat} (ha : a < 18446744073709551616) (hb : b < 18446744073709551616) : bn a < bn b ↔ a < b := by rw [BitVec.lt_def, bn_nat ha, bn_nat hb]
theorem bn_le {a b : Nat} (ha : a < 18446744073709551616) (hb : b < 18446744073709551616) : bn a ≤ bn b ↔ a ≤ b := by rw [BitVec.le_def, bn_nat ha, bn_nat hb]
theorem bn_mul (a b : Nat) : bn a * bn b = bn (a * b) := by apply BitVec.eq_of_toNat_eq; simp [bn]
theorem bn_add (a b : Nat) : bn a + bn b = bn (a + b) := by apply BitVec.eq_of_toNat_eq; simp [bn]
theorem bn_sub {a b : Nat} (ha : a < 18446744073709551616) (h : b ≤ a) : bn a - bn b = bn (a - b) := by
  apply BitVec.eq_of_toNat_eq
  rw [BitVec.toNat_sub, bn_nat ha, bn_nat (by omega), bn_nat (by omega)]; omega
theorem bn_shr (n : Nat) (h : n < 18446744073709551616) : bn n >>> 1 = bn (n / 2) := by
  apply BitVec.eq_of_toNat_eq
  rw [BitVec.toNat_ushiftRight, bn_nat h, bn_nat (by omega), Nat.shiftRight_eq_div_pow]
theorem bn_and1 (n : Nat) (h : n < 18446744073709551616) : bn n &&& 1#64 = bn (n % 2) := by
  apply BitVec.eq_of_toNat_eq
  rw [BitVec.toNat_and, bn_nat h, bn_nat (n := n % 2) (by omega)]
  exact Nat.and_one_is_mod n
theorem remU_bn {a m : Nat} (ha : a < 18446744073709551616) (hm : 0 < m) (hm2 : m < 18446744073709551616) : remU (bn a) (bn m) = some (bn (a % m)) := by
  have := Nat.mod_lt a hm
  unfold remU
  rw [if_neg (fun h => by have := (bn_inj (b := 0) hm2 (by omega)).1 h; omega)]
  congr 1
  apply BitVec.eq_of_toNat_eq
  rw [BitVec.toNat_umod, bn_nat ha, bn_nat hm2, bn_nat (by omega)]
theorem quoU_bn {a m : Nat} (ha : a < 18446744073709551616) (hm : 0 < m) (hm2 : m < 18446744073709551616) : quoU (bn a) (bn m) = some (bn (a / m)) := by
  have := Nat.div_le_self a m
  unfold quoU
  rw [if_neg (fun h => by have := (bn_inj (b := 0) hm2 (by omega)).1 h; omega)]
  congr 1
  apply BitVec.eq_of_toNat_eq
  rw [BitVec.toNat_udiv, bn_nat ha, bn_nat hm2, bn_nat (by omega)]
/-! primes -/
def Prm (n : Nat) : Prop := 2 ≤ n ∧ ∀ e, 2 ≤ e → e * e ≤ n → n % e ≠ 0
theorem prime_loop {n : Nat} (hn : n ≤ 1048575) (T : Bool) (F : (BitVec 64 → Option Bool) → BitVec 64 → Option Bool) (hF : ∀ rec a, F rec a = if a * a ≤ bn n then Option.bind (remU (bn n) a) fun x4 => if x4 = 0#64 then some false else rec (a + 1#64) else some T) :
    ∀ (m d f : Nat), d + m = 1025 → m < f → 2 ≤ d → ∃ b, fixN F f (bn d) = some b ∧ (b = true ↔ T = true ∧ ∀ e, d ≤ e → e * e ≤ n → n % e ≠ 0)
  | m, d, 0, _, h, _ => by omega
  | 0, d, f + 1, hd, _, h2 => by
    obtain rfl : d = 1025 := by omega
    rw [fix_step, hF, bn_mul, if_neg (by rw [bn_le (by omega) (by omega)]; omega)]
    refine ⟨T, rfl, fun h => ⟨h, fun e he hen => ?_⟩, fun h => h.1⟩
    have := Nat.mul_le_mul he he
    omega
  | m + 1, d, f + 1, hd, hf, h2 => by
    have hdd : d * d ≤ 1025 * 1025 := Nat.mul_le_mul (by omega) (by omega)
    rw [fix_step, hF, bn_mul]
    by_cases hle : d * d ≤ n
    · rw [if_pos ((bn_le (by omega) (by omega)).2 hle), remU_bn (by omega) (by omega) (by omega), bind_some]
      by_cases hz : n % d = 0
      · rw [hz, if_pos rfl]
        exact ⟨false, rfl, (fun h => by cases h), fun h => absurd hz (h.2 d (Nat.le_refl _) hle)⟩
      · have hzn : ¬ bn (n % d) = 0#64 := fun h => hz ((bn_inj (b := 0) (by have := Nat.mod_lt n (show 0 < d by omega); omega) (by omega)).1 h)
        rw [if_neg hzn, show (1#64) = bn 1 from rfl, bn_add]
        obtain ⟨b, e1, e2⟩ := prime_loop hn T F hF m (d + 1) f (by omega) (by omega) (by omega)
        refine ⟨b, e1, ?_⟩
        rw [e2]
        refine and_congr_right fun _ => ⟨fun h e he hen => ?_, fun h e he => h e (by omega)⟩
        rcases Nat.lt_or_ge d e with h' | h'
        · exact h e (by omega) hen
        · obtain rfl : e = d := by omega
          exact hz
    · rw [if_neg (fun h => hle ((bn_le (by omega) (by omega)).1 h))]
      refine ⟨T, rfl, fun h => ⟨h, fun e he hen => ?_⟩, fun h => h.1⟩
      have := Nat.mul_le_mul he he
      omega
theorem prime_eq {n : Nat} (h64 : n < 18446744073709551616) : ∃ b, number_prime (bn n) = some b ∧ (b = true ↔ n ≤ 1048575 ∧ Prm n) := by
  unfold number_prime number_prime_J1
  by_cases h2 : n < 2
  · rw [if_pos ((bn_lt h64 (b := 2) (by omega)).2 h2)]
    exact ⟨false, rfl, (fun h => by cases h), fun h => by have := h.2.1; omega⟩
  · rw [if_neg (fun h => h2 ((bn_lt h64 (b := 2) (by omega)).1 h))]
    by_cases hg : 1048575 < n
    · rw [decide_eq_true ((bn_lt (a := 1048575) (by omega) h64).2 hg)]
      exact ⟨false, rfl, (fun h => by cases h), fun h => by omega⟩
    · rw [decide_eq_false (fun h => hg ((bn_lt (a := 1048575) (by omega) h64).1 h)), cond_false]
      obtain ⟨b, e1, e2⟩ := prime_loop (n := n) (by omega) true (number_prime_L2 (bn n)) (fun rec a => rfl) 1023 2 FUEL (by omega) (fuel_lt (by omega)) (by omega)
      refine ⟨b, e1, ?_⟩
      rw [e2]; unfold Prm
      exact ⟨fun h => ⟨by omega, by omega, h.2⟩, fun h => ⟨rfl, h.2.2⟩⟩
theorem isPrime_eq {n : Nat} (hn : n ≤ 1048575) : ∃ b, ref01_IsPrime (bn n) = some b ∧ (b = true ↔ Prm n) := by
  obtain ⟨b, e1, e2⟩ := prime_loop (n := n) hn (decide (2#64 ≤ bn n)) (ref01_IsPrime_L1 (bn n)) (fun rec a => rfl) 1023 2 FUEL (by omega) (fuel_lt (by omega)) (by omega)
  refine ⟨b, e1, ?_⟩
  rw [e2, decide_eq_true_eq, show (2#64) = bn 2 from rfl, bn_le (by omega) (by omega)]; rfl
/-! powers -/
theorem pow_half (x n : Nat) : x ^ n = x ^ (n % 2) * (x * x) ^ (n / 2) := by
  have : x ^ n = x ^ (n % 2 + 2 * (n / 2)) := by congr 1; omega
  rw [this, Nat.pow_add, Nat.pow_mul, Nat.pow_two]
theorem pow_step {m x n o : Nat} : o * x ^ n % m = (if n % 2 = 1 then o * x % m else o) * (x * x % m) ^ (n / 2) % m := by
  rw [pow_half x n]
  rcases Nat.mod_two_eq_zero_or_one n with h | h
  · rw [h, if_neg (by omega), Nat.pow_zero, Nat.one_mul, Nat.mul_mod o ((x * x % m) ^ (n / 2)), ← Nat.pow_mod, ← Nat.mul_mod]
  · rw [h, if_pos rfl, Nat.pow_one, Nat.mul_mod (o * x % m), Nat.mod_mod, ← Nat.pow_mod, ← Nat.mul_mod, Nat.mul_assoc]
theorem power_loop {m : Nat} (hm : 0 < m) (hm2 : m < 4294967296) : ∀ (k n x o f : Nat), n < 2 ^ k → k ≤ 64 → k < f → x < m → o < m → fixN (number_power_L1 (bn m)) f (bn x, bn n, bn o) = some (bn (o * x ^ n % m))
  | k, n, x, o, 0, _, _, h, _, _ => by omega
  | 0, n, x, o, f + 1, hn, _, _, hx, ho => by
    obtain rfl : n = 0 := by simp at hn; exact hn
    rw [fix_step]; simp only [number_power_L1]
    rw [if_neg (by decide), Nat.pow_zero, Nat.mul_one, Nat.mod_eq_of_lt ho]
  | k + 1, n, x, o, f + 1, hn, hk, hf, hx, ho => by
    have hn64 : n < 18446744073709551616 := Nat.lt_of_lt_of_le hn (Nat.le_trans (Nat.pow_le_pow_right (by omega) hk) (by decide))
    have hxx : x * x < 18446744073709551616 := Nat.lt_of_le_of_lt (Nat.mul_le_mul (Nat.le_of_lt hx) (Nat.le_of_lt hx)) (by have := Nat.mul_lt_mul'' hm2 hm2; omega)
    have hox : o * x < 18446744073709551616 := Nat.lt_of_le_of_lt (Nat.mul_le_mul (Nat.le_of_lt ho) (Nat.le_of_lt hx)) (by have := Nat.mul_lt_mul'' hm2 hm2; omega)
    rw [fix_step]; simp only [number_power_L1]
    by_cases h0 : n = 0
    · subst h0
      rw [if_neg (by decide), Nat.pow_zero, Nat.mul_one, Nat.mod_eq_of_lt ho]
    · rw [if_pos ((bn_lt (a := 0) (by omega) hn64).2 (by omega)), bn_and1 n hn64, show shG (un 1#64) = some 1 from by decide, bn_mul, bn_mul, remU_bn hxx hm (by omega), remU_bn hox hm (by omega), pow_step]
      simp only [bind_some]
      rw [bn_shr n hn64]
      have hlt : n / 2 < 2 ^ k := by rw [Nat.pow_succ] at hn; omega
      have h1 := Nat.mod_lt (x * x) hm
      have h2 := Nat.mod_lt (o * x) hm
      by_cases hodd : n % 2 = 1
      · rw [if_pos (by rw [hodd]), if_pos hodd]
        exact power_loop hm hm2 k (n / 2) _ _ f hlt (by omega) (by omega) h1 h2
      · rw [if_neg (fun h => hodd ((bn_inj (b := 1) (by omega) (by omega)).1 h)), if_neg hodd]
        exact power_loop hm hm2 k (n / 2) _ _ f hlt (by omega) (by omega) h1 ho
theorem power_eq {b n m : Nat} (hb : b < 18446744073709551616) (hn : n < 18446744073709551616) (hm : 0 < m) (hm2 : m < 4294967296) : number_power (bn b) (bn n) (bn m) = some (bn (b ^ n % m)) := by
  unfold number_power
  rw [show (1#64) = bn 1 from rfl, remU_bn (by omega) hm (by omega), bind_some, remU_bn hb hm (by omega), bind_some, power_loop hm hm2 64 n _ _ FUEL (by omega) (by omega) (fuel_lt (by omega)) (Nat.mod_lt _ hm) (Nat.mod_lt _ hm), Nat.mod_mul_mod, Nat.one_mul, ← Nat.pow_mod]
theorem rpower_loop {m : Nat} (hm : 0 < m) (hm2 : m < 4294967296) : ∀ (k n x o f : Nat), n < 2 ^ k → k ≤ 64 → k < f → x < m → o < m → fixN (ref01_Power_L1 (bn m)) f (bn n, bn o, bn x) = some (bn (o * x ^ n % m))
  | k, n, x, o, 0, _, _, h, _, _ => by omega
  | 0, n, x, o, f + 1, hn, _, _, hx, ho => by
    obtain rfl : n = 0 := by simp at hn; exact hn
    rw [fix_step]; simp only [ref01_Power_L1]
    rw [if_neg (by decide), Nat.pow_zero, Nat.mul_one, Nat.mod_eq_of_lt ho]
  | k + 1, n, x, o, f + 1, hn, hk, hf, hx, ho => by
    have hn64 : n < 18446744073709551616 := Nat.lt_of_lt_of_le hn (Nat.le_trans (Nat.pow_le_pow_right (by omega) hk) (by decide))
    have hxx : x * x < 18446744073709551616 := Nat.lt_of_le_of_lt (Nat.mul_le_mul (Nat.le_of_lt hx) (Nat.le_of_lt hx)) (by have := Nat.mul_lt_mul'' hm2 hm2; omega)
    have hox : o * x < 18446744073709551616 := Nat.lt_of_le_of_lt (Nat.mul_le_mul (Nat.le_of_lt ho) (Nat.le_of_lt hx)) (by have := Nat.mul_lt_mul'' hm2 hm2; omega)
    rw [fix_step]; simp only [ref01_Power_L1]
    by_cases h0 : n = 0
    · subst h0
      rw [if_neg (by decide), Nat.pow_zero, Nat.mul_one, Nat.mod_eq_of_lt ho]
    · unfold ref01_Power_J2
      rw [if_pos ((bn_lt (a := 0) (by omega) hn64).2 (by omega)), show (2#64) = bn 2 from rfl, remU_bn hn64 (by omega) (by omega), bn_mul, bn_mul, remU_bn hxx hm (by omega), remU_bn hox hm (by omega), quoU_bn hn64 (by omega) (by omega), pow_step]
      simp only [bind_some]
      have hlt : n / 2 < 2 ^ k := by rw [Nat.pow_succ] at hn; omega
      have h1 := Nat.mod_lt (x * x) hm
      have h2 := Nat.mod_lt (o * x) hm
      by_cases hodd : n % 2 = 1
      · rw [if_pos (by rw [hodd]), if_pos hodd]
        exact rpower_loop hm hm2 k (n / 2) _ _ f hlt (by omega) (by omega) h1 h2
      · rw [if_neg (fun h => hodd ((bn_inj (b := 1) (by omega) (by omega)).1 h)), if_neg hodd]
        exact rpower_loop hm hm2 k (n / 2) _ _ f hlt (by omega) (by omega) h1 ho
theorem rpower_eq {b n m : Nat} (hb : b < 18446744073709551616) (hn : n < 18446744073709551616) (hm : 0 < m) (hm2 : m < 4294967296) : ref01_Power (bn b) (bn n) (bn m) = some (bn (b ^ n % m)) := by
  unfold ref01_Power
  rw [show (1#64) = bn 1 from rfl, remU_bn (by omega) hm (by omega), bind_some, remU_bn hb hm (by omega), bind_some, rpower_loop hm hm2 64 n _ _ FUEL (by omega) (by omega) (fuel_lt (by omega)) (Nat.mod_lt _ hm) (Nat.mod_lt _ hm), Nat.mod_mul_mod, Nat.one_mul, ← Nat.pow_mod]
end Go.Sx.Po

end
section
set_option linter.unusedVariables false
set_option linter.unusedSimpArgs false
set_option maxRecDepth 100000
namespace Go.Sx.Po
open Go
theorem fix_go {τ R : Type} (F : (τ → Option R) → τ → Option R) (I : Nat → τ → Prop) (n : Nat) (r : Option R) (hn : n < 9223372036854775808) {s : τ} (h0 : I 0 s) (hs : ∀ j s, j < n → I j s → ∃ s', I (j + 1) s' ∧ ∀ rec, F rec s = rec s') (he : ∀ s, I n s → ∀ rec, F rec s = r) : fixN F FUEL s = r :=
  fix_run F I n r hs he n 0 FUEL s (by omega) (fuel_lt hn) h0
def valB (l : List (BitVec 8)) : BitVec 64 := l.foldl (fun n c => 256#64 * n + c.setWidth 64) 0#64
theorem shl_or (a : BitVec 64) (c : BitVec 8) : (a <<< 8) ||| (c.setWidth 64) = 256#64 * a + c.setWidth 64 := by
  have e1 : 256#64 * a = a <<< 8 := by
    apply BitVec.eq_of_toNat_eq
    rw [BitVec.toNat_mul, BitVec.toNat_shiftLeft, Nat.shiftLeft_eq, Nat.mul_comm]; rfl
  rw [e1]
  symm
  apply BitVec.add_eq_or_of_and_eq_zero
  apply BitVec.eq_of_getLsbD_eq
  intro j hj
  rw [BitVec.getLsbD_and, BitVec.getLsbD_shiftLeft, BitVec.getLsbD_setWidth, BitVec.getLsbD_zero]
  by_cases h : j < 8
  · simp [h]
  · simp [BitVec.getLsbD_of_ge c j (by omega)]
theorem valB_snoc (l : List (BitVec 8)) (c : BitVec 8) : valB (l ++ [c]) = 256#64 * valB l + c.setWidth 64 := by simp [valB]
theorem sh_step (x : BitVec 64) (s : Nat) : 256#64 * (x >>> (s + 8)) + ((x >>> s).setWidth 8).setWidth 64 = x >>> s := by
  rw [← shl_or]
  apply BitVec.eq_of_getLsbD_eq
  intro i hi
  simp only [BitVec.getLsbD_or, BitVec.getLsbD_shiftLeft, BitVec.getLsbD_ushiftRight, BitVec.getLsbD_setWidth]
  by_cases h : i < 8
  · simp [h, hi]
  · simp [h, hi, show s + 8 + (i - 8) = s + i from by omega]
theorem valB_w8 (x : BitVec 64) : valB (w8 x) = x := by
  have h0 : valB [] = x >>> 64 := by
    apply BitVec.eq_of_getLsbD_eq
    intro i hi
    rw [BitVec.getLsbD_ushiftRight, BitVec.getLsbD_of_ge x _ (by omega)]; simp [valB]
  have st : ∀ (l : List (BitVec 8)) (i : Nat), i ≤ 7 → valB l = x >>> (56 - 8 * i + 8) → valB (l ++ [byt x i]) = x >>> (56 - 8 * i) := fun l i hi hl => by
    rw [valB_snoc, hl]; exact sh_step x (56 - 8 * i)
  have h1 := st [] 0 (by omega) h0
  have h2 := st _ 1 (by omega) h1
  have h3 := st _ 2 (by omega) h2
  have h4 := st _ 3 (by omega) h3
  have h5 := st _ 4 (by omega) h4
  have h6 := st _ 5 (by omega) h5
  have h7 := st _ 6 (by omega) h6
  have h8 := st _ 7 (by omega) h7
  rw [show 56 - 8 * 7 = 0 from rfl, BitVec.ushiftRight_zero] at h8
  exact h8
theorem value_loop (l : List (BitVec 8)) (hx : l.length ≤ 1000) : ∀ (m i fuel : Nat), l.length - i = m → i ≤ l.length → m < fuel → fixN (ref02_Value_L1 l) fuel (valB (l.take i), (i : Int)) = some (valB l)
  | m, i, 0, _, _, hf => by omega
  | 0, i, fuel + 1, hm, hi, hf => by
    rw [fix_step]; simp only [ref02_Value_L1]; rw [if_neg (by omega), List.take_of_length_le (by omega)]
  | m + 1, i, fuel + 1, hm, hi, hf => by
    rw [fix_step]; simp only [ref02_Value_L1]
    rw [if_pos (by omega), getI_some (by omega), bind_some, ← valB_snoc, ← take_snoc _ _ (by omega), w64_id (by omega) (by omega)]
    exact value_loop l hx m (i + 1) fuel (by omega) (by omega) (by omega)
theorem value_eq (l : List (BitVec 8)) (h : l.length ≤ 1000) : ref02_Value l = some (valB l) := value_loop l h _ 0 FUEL rfl (by omega) (fuel_lt (by omega))
theorem kby_w8 (k : W2) : kby k = w8 k.1 ++ w8 k.2 := rfl
theorem words_aux (k : W2) (A B : List (BitVec 8)) (hA : A.length = 8) (hB : B.length = 8) (hk : kby k = A ++ B) : cipher_wordsOf k = some ⟨valB A, valB B⟩ := by
  unfold cipher_wordsOf
  refine fix_go _ (fun j x => x = ((j : Int), valB (A.take j), valB (B.take j))) 8 _ (by omega) (by simp [valB]) ?_ ?_
  · rintro j _ hj rfl
    refine ⟨_, rfl, fun rec => ?_⟩
    have h1 : j < A.length := by omega
    have h2 : j < B.length := by omega
    have g1 : getI (kby k) (j : Int) = some A[j] := by rw [hk, getI_some (by rw [List.length_append]; omega), List.getElem_append_left h1]
    have g2 : getI (kby k) ((8 + j : Nat) : Int) = some B[j] := by
      rw [hk, getI_some (by rw [List.length_append]; omega), List.getElem_append_right (by omega)]
      congr 2; omega
    simp only [cipher_wordsOf_L1]
    rw [if_pos (by omega), show shG (un 8#64) = some 8 from by decide, bind_some, g1, bind_some, bind_some, w64_id (n := 8 + (j : Int)) (by omega) (by omega), show (8 : Int) + (j : Int) = ((8 + j : Nat) : Int) from by omega, g2, bind_some, shl_or, shl_or, ← valB_snoc, ← valB_snoc, ← take_snoc _ _ h1, ← take_snoc _ _ h2, w64_nat (by omega)]
  · rintro _ rfl rec
    simp only [cipher_wordsOf_L1]
    rw [if_neg (by omega), List.take_of_length_le (by omega), List.take_of_length_le (by omega)]
theorem words_eq (k : W2) : cipher_wordsOf k = some ⟨k.1, k.2⟩ := by
  rw [words_aux k _ _ (w8_len _) (w8_len _) (kby_w8 k), valB_w8, valB_w8]
theorem number_eq (k : W2) (n m : BitVec 64) (hm : m ≠ 0#64) : cipher_Number k n m = some ((drv k (un8 3#8) n).1 % m) := by
  unfold cipher_Number
  rw [if_neg hm, words_eq, bind_some]
  simp only
  unfold remU
  rw [if_neg hm]; rfl
theorem rnumber_eq (k : W2) (n m : BitVec 64) (hm : m ≠ 0#64) : ref02_Number k n m = some ((drv k (un8 3#8) n).1 % m) := by
  unfold ref02_Number
  rw [if_neg hm, List.drop_zero, kby_w8, List.take_left' (w8_len _), value_eq _ (by rw [w8_len]; omega), bind_some, valB_w8]
  unfold remU
  rw [if_neg hm]; rfl
end Go.Sx.Po

end
