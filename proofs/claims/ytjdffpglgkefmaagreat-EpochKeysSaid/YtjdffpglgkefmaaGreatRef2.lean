/- Walks by the laws of SX: Ref2. Printed by sx.py. -/
import Derived.Test.YtjdffpglgkefmaaGreatCipC
set_option linter.unusedVariables false
set_option linter.unusedSimpArgs false
namespace Go.Proofs.YtjdffpglgkefmaaGreat
open Go Go.RowKit Go.Sx
theorem zv_5 : ZV Tryz.prog 5 (.int .u8 0) := fun _ => by kernel_rfl
theorem bsl_50_1 : BSl Tryz.prog 50 1 5 1 [.int .u8 0] := bsl_mk Tryz.underlying50 (one_5).siz zv_5 rfl rfl (by kernel_rfl)
theorem apt_50 : ApT Tryz.prog 50 5 1 1 := apt_mk Tryz.underlying50 rfl (by kernel_rfl)
theorem en_254 : En Tryz.prog 254 := fun _ _ => by kernel_rfl
theorem en_213 : En Tryz.prog 213 := fun _ _ => by kernel_rfl
theorem en_214 : En Tryz.prog 214 := fun _ _ => by kernel_rfl
theorem en_210 : En Tryz.prog 210 := fun _ _ => by kernel_rfl
theorem en_208 : En Tryz.prog 208 := fun _ _ => by kernel_rfl
theorem zv_24 : ZV Tryz.prog 24 (.int .u64 0) := fun _ => by kernel_rfl
theorem bsl_160_1 : BSl Tryz.prog 160 1 24 1 [.int .u64 0] := bsl_mk Tryz.underlying160 (one_24).siz zv_24 rfl rfl (by kernel_rfl)
theorem en_211 : En Tryz.prog 211 := fun _ _ => by kernel_rfl
theorem apt_160 : ApT Tryz.prog 160 24 1 8 := apt_mk Tryz.underlying160 rfl (by kernel_rfl)
theorem en_209 : En Tryz.prog 209 := fun _ _ => by kernel_rfl
theorem en_212 : En Tryz.prog 212 := fun _ _ => by kernel_rfl
theorem en_148 : En Tryz.prog 148 := fun _ _ => by kernel_rfl
theorem en_147 : En Tryz.prog 147 := fun _ _ => by kernel_rfl

abbrev bc (n : Int) : List Value := [.int .u8 n]
abbrev uc (x : BitVec 64) : List Value := [wv x]
/-- a number in s bytes, the highest first -/
def byL (n : BitVec 64) (s : Nat) : List Int := (List.range s).map fun i => un (n >>> (8 * (s - 1 - i))) % 256
theorem byL_len (n : BitVec 64) (s : Nat) : (byL n s).length = s := by simp [byL]
theorem byL_succ (n : BitVec 64) (i : Nat) : byL n (i + 1) = un (n >>> (8 * i)) % 256 :: byL n i := by
  unfold byL
  rw [List.range_succ_eq_map, List.map_cons, List.map_map]
  congr 1
  apply List.map_congr_left
  intro j hj
  simp only [Function.comp, List.mem_range] at hj ⊢
  congr 4; omega
theorem shr8 (n : BitVec 64) (i : Nat) : (n >>> (8 * i)) >>> 8 = n >>> (8 * (i + 1)) := by
  rw [← BitVec.shiftRight_add]; congr 1

set_option maxHeartbeats 1000000 in
theorem bytes_c (n : BitVec 64) (s : Nat) (hs : s ≤ 1000) (w : World) :
    Calls Tryz.prog 213 [wv n, .int .i64 (s : Int)].toArray w fun e w' => ∃ v, e = .returned v ∧ (∃ z g, Own w' z g 5 1 v ((byL n s).map bc) ∧ (z = 0 ∨ w.heap.size ≤ g) ∧ Gr w w') := by
  refine calls_of_sw (R := fun v w' => ∃ z g, Own w' z g 5 1 v ((byL n s).map bc) ∧ (z = 0 ∨ w.heap.size ≤ g) ∧ Gr w w') 21 Tryz.func213 rfl rfl rfl ?_
  refine sw_seq ?_
  -- region 0 ref.go:17
  refine sw_region [(0, 0)] rfl rfl rfl ?_
  refine sd_vv rfl rfl rfl (vv_assign rfl) ?_
  refine sd_done ?_
  refine sw_seq ?_
  -- region 1 ref.go:18
  refine sw_region [(0, 0)] rfl rfl rfl ?_
  refine sd_vv rfl rfl rfl (vv_assign rfl) ?_
  refine sd_done ?_
  refine sw_seq ?_
  refine sw_seq ?_
  -- region 2 ref.go:19
  refine sw_region [(0, 0)] rfl rfl rfl ?_
  refine sd_vv rfl rfl rfl (vv_assign rfl) ?_
  refine sd_done ?_
  refine sw_block ?_
  refine sw_loopD (α := Nat × Value × Nat × Nat) [0, 5, 6, 7, 8, 9, 10, 11, 12, 13, 14, 15, 16, 17, 18, 19] (fun ⟨i, v, z, g⟩ => [(6, .int .i64 (i : Int)), (0, wv (n >>> (8 * i))), (5, v)]) (fun ⟨i, v, z, g⟩ wr => (i ≤ s) ∧ (Own wr z g 5 1 v ((byL n i).map bc) ∧ (z = 0 ∨ w.heap.size ≤ g)) ∧ Kp [] w wr) (fun ⟨i, v, z, g⟩ => s - i) (⟨0, .slice none 0 0, 0, 0⟩) ?_ ?_ ?_
  · repeat' first | exact trivial | refine ⟨by first | rfl | (rw [Nat.mul_zero, BitVec.ushiftRight_zero]; rfl), ?_⟩
  · exact ⟨Nat.zero_le _, ⟨(own_nil _ 0 _ _), .inl rfl⟩, Kp.refl _ _⟩
  rintro ⟨i, v, z, g⟩ w1 ⟨hi, ⟨Ow1_5, hOw1_5⟩, Kw1⟩
  have z1 := Kw1.size
  have lt2 := Ow1_5.lt
  refine sw_seq ?_
  refine sw_seq ?_
  -- region 3 ref.go:19
  refine sw_region [(0, 0), (1, 0), (2, 0)] rfl rfl rfl ?_
  refine sd_vv rfl rfl rfl (vv_move rfl) ?_
  refine sd_vv rfl rfl rfl (vv_move rfl) ?_
  refine sd_vv rfl rfl rfl (vv_lss rfl rfl) ?_
  refine sd_done ?_
  refine sw_cond rfl (fun h1 => ?_) (fun h1 => ?_)
  · -- h1 True
    replace h1 := of_decide_eq_true h1
    refine sw_skip ?_
    refine then_n ?_
    refine sw_seq ?_
    refine sw_block ?_
    refine sw_seq ?_
    -- region 5 ref.go:20
    refine sw_region [(0, 0), (1, 0), (2, 0), (3, 0), (4, 0), (5, 0), (6, 0)] rfl rfl rfl ?_
    refine sd_vv rfl rfl rfl (vv_move rfl) ?_
    refine sd_vv rfl rfl rfl (vv_rem rfl rfl (un_nonneg _) (by decide)) ?_
    refine sd_vv rfl rfl rfl (vv_convB cv_24_5 rfl (by omega) (by omega)) ?_
    refine sd_ev rfl rfl rfl (ev_lit bsl_50_1 rfl rfl rfl rfl rfl) ?_
    rintro vw2 w2 ⟨gw2, hbw2, Ow2, Gw2⟩
    have z3 := Gw2.size
    have lt4 := Ow2.lt
    refine sd_vv rfl rfl rfl (vv_move rfl) ?_
    have B5 := (Own.gr Ow1_5 Gw2)
    refine sd_ev rfl rfl rfl (ev_app apt_50 rfl rfl Ow2 (Own.rd B5) (by simp [chunk, byL_len]; omega) (by simp [chunk, byL_len]; omega)) ?_
    rintro vw3 w3 ⟨zw3, gw3, Ow3, Aw3, qw3, rw3, sw3⟩
    have z6 := Aw3.size
    have lt7 := Ow3.lt
    refine sd_vv rfl rfl rfl (vv_assign rfl) ?_
    refine sd_done ?_
    -- region 6 ref.go:21
    refine sw_region [(0, 0), (1, 0), (2, 0)] rfl rfl rfl ?_
    refine sd_vv rfl rfl rfl (vv_move rfl) ?_
    refine sd_vv rfl rfl rfl (vv_eq (vv_ushrQ rfl rfl) (show _ = wv (n >>> (8 * (i + 1))) from by rw [shr8])) ?_
    refine sd_vv rfl rfl rfl (vv_assign rfl) ?_
    refine sd_nil ?_
    refine block_n ?_
    refine then_n ?_
    -- region 4 ref.go:19
    refine sw_region [(0, 0), (1, 0), (2, 0)] rfl rfl rfl ?_
    refine sd_vv rfl rfl rfl (vv_move rfl) ?_
    refine sd_vv rfl rfl rfl (vv_add64 rfl rfl (by omega) (by omega)) ?_
    refine sd_vv rfl rfl rfl (vv_assign rfl) ?_
    refine sd_nil ?_
    have K_8 := (Kp.ka (Kp.gr Kw1 Gw2) Aw3 (by simp <;> first | omega | (split <;> omega)))
    refine ⟨rfl, ⟨i + 1, vw3, zw3, gw3⟩, ?_, ⟨?_, ⟨?_, by omega⟩, K_8⟩, ?_⟩
    · repeat' first | exact trivial | refine ⟨rfl, ?_⟩
    · omega
    · rw [byL_succ]; exact Ow3
    · first | omega | (dsimp only; omega)
  · -- h1 False
    replace h1 := of_decide_eq_false h1
    refine sw_exit ?_
    refine then_x ?_
    refine then_x ?_
    refine block_x ?_
    refine then_n ?_
    refine sw_seq ?_
    -- region 7 ref.go:23
    refine sw_region [(0, 0), (1, 0)] rfl rfl rfl ?_
    refine sd_vv rfl rfl rfl (vv_move rfl) ?_
    refine sd_vv rfl rfl rfl (vv_assign rfl) ?_
    refine sd_done ?_
    refine sw_ret ?_
    obtain rfl : i = s := by omega
    have X9 : Gr w w1 := (Gr.kp (Gr.refl w) Kw1 (by simp <;> first | omega | (split <;> omega)))
    refine ⟨_, _, rfl, res_tmp rfl rfl, ?_⟩
    exact ⟨z, g, Ow1_5, by omega, X9⟩

/-- the number in some bytes, the highest first -/
def valL (ys : List Int) : BitVec 64 := ys.foldl (fun n y => 256#64 * n + wd y) 0#64
theorem valL_step {ys : List Int} {i : Nat} {y : Int} (h : ys[i]? = some y) : valL (ys.take (i + 1)) = 256#64 * valL (ys.take i) + wd y := by
  rw [List.take_add_one, h]; simp [valL]

set_option maxHeartbeats 1000000 in
theorem value_c (b : Value) (z g o : Nat) (ys : List Int) (hys : ∀ y ∈ ys, 0 ≤ y ∧ y ≤ 255) (hlen : ys.length ≤ 9223372036854775807) (w : World) (hb : Rd w z g o 1 b (ys.map bc)) :
    Calls Tryz.prog 254 [b].toArray w fun e w' => ∃ v, e = .returned v ∧ (v = wv (valL ys) ∧ Gr w w') := by
  have lt1 := hb.lt
  refine calls_of_sw (R := fun v w' => v = wv (valL ys) ∧ Gr w w') 20 Tryz.func254 rfl rfl rfl ?_
  refine sw_seq ?_
  -- region 0 ref.go:27
  refine sw_region [(0, 0)] rfl rfl rfl ?_
  refine sd_vv rfl rfl rfl (vv_assign rfl) ?_
  refine sd_done ?_
  refine sw_seq ?_
  -- region 1 ref.go:28
  refine sw_region [(0, 0)] rfl rfl rfl ?_
  refine sd_vv rfl rfl rfl (vv_assign rfl) ?_
  refine sd_done ?_
  refine sw_seq ?_
  refine sw_seq ?_
  -- region 2 ref.go:29
  refine sw_region [(0, 0)] rfl rfl rfl ?_
  refine sd_vv rfl rfl rfl (vv_assign rfl) ?_
  refine sd_done ?_
  refine sw_block ?_
  refine sw_loopD (α := Nat) [3, 4, 5, 6, 7, 8, 9, 10, 11, 12, 13, 14, 15, 16, 17, 18] (fun i => [(4, .int .i64 (i : Int)), (3, wv (valL (ys.take i)))]) (fun i wr => (i ≤ ys.length) ∧ Kp [] w wr) (fun i => ys.length - i) (0) ?_ ?_ ?_
  · repeat' first | exact trivial | refine ⟨rfl, ?_⟩
  · exact ⟨Nat.zero_le _, Kp.refl _ _⟩
  rintro i w1 ⟨hi, Kw1⟩
  have z2 := Kw1.size
  refine sw_seq ?_
  refine sw_seq ?_
  -- region 3 ref.go:29
  refine sw_region [(0, 0), (1, 0), (2, 0), (3, 0)] rfl rfl rfl ?_
  refine sd_vv rfl rfl rfl (vv_move rfl) ?_
  refine sd_vv rfl rfl rfl (vv_move rfl) ?_
  have B3 := (Rd.kp hb Kw1 (by simp <;> first | omega | (split <;> omega)))
  refine sd_vv rfl rfl rfl (vv_lenN (n := ys.length) Tryz.underlying50 rfl B3 (by simp)) ?_
  refine sd_vv rfl rfl rfl (vv_lss rfl rfl) ?_
  refine sd_done ?_
  refine sw_cond rfl (fun h1 => ?_) (fun h1 => ?_)
  · -- h1 True
    replace h1 := of_decide_eq_true h1
    obtain ⟨y, hy, hym⟩ := get_ex (show i < ys.length by omega)
    have hyb := hys y hym
    refine sw_skip ?_
    refine then_n ?_
    refine sw_seq ?_
    refine sw_block ?_
    -- region 5 ref.go:30
    refine sw_region [(0, 0), (1, 0), (2, 0), (3, 0), (4, 0), (5, 0), (6, 0), (7, 0), (8, 0)] rfl rfl rfl ?_
    refine sd_vv rfl rfl rfl (vv_move rfl) ?_
    refine sd_vv rfl rfl rfl (vv_umul (a := 256#64) rfl rfl) ?_
    refine sd_vv rfl rfl rfl (vv_move rfl) ?_
    refine sd_vv rfl rfl rfl (vv_move rfl) ?_
    refine sd_vv rfl rfl rfl (vv_ixN (n := ys.length) Tryz.underlying50 (one_5).siz rfl B3 (by simp) rfl (by omega) (by omega)) ?_
    refine sd_vv rfl rfl rfl (vv_el1 (q := 0) one_5 rfl B3 (getm hy) (by omega) (show _ = some _ from by rfl)) ?_
    refine sd_vv rfl rfl rfl (vv_convIU cv_5_24 rfl (by omega) (by omega)) ?_
    refine sd_vv rfl rfl rfl (vv_uadd rfl rfl) ?_
    refine sd_vv rfl rfl rfl (vv_assign rfl) ?_
    refine sd_nil ?_
    refine block_n ?_
    refine then_n ?_
    -- region 4 ref.go:29
    refine sw_region [(0, 0), (1, 0), (2, 0)] rfl rfl rfl ?_
    refine sd_vv rfl rfl rfl (vv_move rfl) ?_
    refine sd_vv rfl rfl rfl (vv_add64 rfl rfl (by omega) (by omega)) ?_
    refine sd_vv rfl rfl rfl (vv_assign rfl) ?_
    refine sd_nil ?_
    have K_4 := Kw1
    refine ⟨rfl, i + 1, ?_, ⟨?_, K_4⟩, ?_⟩
    · repeat' first | exact trivial | refine ⟨by first | rfl | (rw [valL_step hy]; rfl), ?_⟩
    · omega
    · first | omega | (dsimp only; omega)
  · -- h1 False
    replace h1 := of_decide_eq_false h1
    obtain rfl : i = ys.length := by omega
    refine sw_exit ?_
    refine then_x ?_
    refine then_x ?_
    refine block_x ?_
    refine then_n ?_
    refine sw_seq ?_
    -- region 6 ref.go:32
    refine sw_region [(0, 0), (1, 0)] rfl rfl rfl ?_
    refine sd_vv rfl rfl rfl (vv_move rfl) ?_
    refine sd_vv rfl rfl rfl (vv_assign rfl) ?_
    refine sd_done ?_
    refine sw_ret ?_
    have X5 : Gr w w1 := (Gr.kp (Gr.refl w) Kw1 (by simp <;> first | omega | (split <;> omega)))
    refine ⟨_, _, rfl, res_tmp rfl rfl, ?_⟩
    exact ⟨by rw [List.take_length], X5⟩

/-- the bytes of a word -/
def bw (x : BitVec 64) : List Int := [bt x 0, bt x 1, bt x 2, bt x 3, bt x 4, bt x 5, bt x 6, bt x 7]
theorem byL_8 (x : BitVec 64) : byL x 8 = bw x := rfl
theorem bw_bd (x : BitVec 64) : ∀ y ∈ bw x, 0 ≤ y ∧ y ≤ 255 := by
  intro y hy
  simp only [bw, List.mem_cons, List.not_mem_nil, or_false] at hy
  rcases hy with rfl | rfl | rfl | rfl | rfl | rfl | rfl | rfl <;> exact ⟨bt_nonneg _ _, bt_le _ _⟩
theorem mul256 (a : BitVec 64) : 256#64 * a = a <<< 8 := by
  apply BitVec.eq_of_toNat_eq
  rw [BitVec.toNat_mul, BitVec.toNat_shiftLeft, Nat.shiftLeft_eq, Nat.mul_comm]; rfl
theorem add_or (a : BitVec 64) (y : Int) (h0 : 0 ≤ y) (h1 : y ≤ 255) : a <<< 8 + wd y = a <<< 8 ||| wd y := by
  apply BitVec.add_eq_or_of_and_eq_zero
  apply BitVec.eq_of_getLsbD_eq
  intro j hj
  rw [BitVec.getLsbD_and, BitVec.getLsbD_shiftLeft, BitVec.getLsbD_zero]
  by_cases h : j < 8
  · simp [h]
  · have hw : (wd y).toNat < 2 ^ j := by
      have e := un_wd y h0 (by omega)
      have : (wd y).toNat < 2 ^ 8 := by unfold un at e; omega
      exact Nat.lt_of_lt_of_le this (Nat.pow_le_pow_right (by omega) (by omega))
    have : (wd y).getLsbD j = false := Nat.testBit_lt_two_pow hw
    rw [this]; simp
theorem val_step (x : BitVec 64) (k : Nat) (hk : k < 8) : 256#64 * (x >>> (64 - 8 * k)) + wd (bt x k) = x >>> (64 - 8 * (k + 1)) := by
  rw [mul256, add_or _ _ (bt_nonneg x k) (bt_le x k), shl_step x k hk]
theorem val_bw (x : BitVec 64) : valL (bw x) = x := by
  have h0 := val_step x 0 (by decide)
  have h1 := val_step x 1 (by decide)
  have h2 := val_step x 2 (by decide)
  have h3 := val_step x 3 (by decide)
  have h4 := val_step x 4 (by decide)
  have h5 := val_step x 5 (by decide)
  have h6 := val_step x 6 (by decide)
  have h7 := val_step x 7 (by decide)
  simp only [Nat.mul_zero, Nat.sub_zero, shr_64] at h0
  simp only [valL, bw, List.foldl_cons, List.foldl_nil, h0, h1, h2, h3, h4, h5, h6, h7]
  simp

set_option maxHeartbeats 1000000 in
theorem rwords_c (p : W2) (w : World) :
    Calls Tryz.prog 208 [kv p].toArray w fun e w' => ∃ v, e = .returned v ∧ (v = .tuple [wv p.1, wv p.2].toArray ∧ Gr w w') := by
  refine calls_of_sw (R := fun v w' => v = .tuple [wv p.1, wv p.2].toArray ∧ Gr w w') 8 Tryz.func208 rfl rfl rfl ?_
  refine sw_seq ?_
  -- region 0 ref.go:36
  refine sw_region [(0, 0), (1, 0), (2, 0)] rfl rfl rfl ?_
  refine sd_ev rfl rfl rfl (ev_box rfl (by rfl)) ?_
  rintro _ w1 ⟨b1, rfl, hbw1, Bw1, Gw1⟩
  have z1 := Gw1.size
  have lt2 := Bw1.lt
  refine sd_vv rfl rfl rfl (vv_assign rfl) ?_
  refine sd_vv rfl rfl rfl (vv_assign rfl) ?_
  refine sd_done ?_
  refine sw_seq ?_
  -- region 1 ref.go:36 DRAWS
  refine sw_draw [] [(0, 3), (2, 3), (1, 0), (3, 0), (4, 3), (5, 3)] (by kernel_rfl) (by kernel_rfl) rfl (by kernel_rfl) ?_
  intro w2 Gw2 zw2
  refine dd_h3 rfl rfl rfl (Kp.refl [] w2) (fun w hS => vv_sliceA (l := 0) (h := 8) Tryz.underlying23 (one_5).siz rfl rfl ⟨_, rfl⟩ (by omega) (by omega) (by omega)) ?_
  refine dd_h3 rfl rfl rfl (Kp.refl [] w2) (fun w hS => vv_sliceA (l := 8) (h := 16) Tryz.underlying23 (one_5).siz rfl ⟨_, rfl⟩ rfl (by omega) (by omega) (by omega)) ?_
  have B3 := (Bx.gr Bw1 Gw2)
  refine dd_ev rfl rfl rfl (ev_call en_254 rfl (value_c _ _ _ _ (bw p.1) (bw_bd _) (by simp [bw]) _ (rd_seg (sz := 1) (xs := (bw p.1).map bc) B3 (ws_of rfl) rfl rfl))) ?_
  rintro _ w3 ⟨rfl, Gw3⟩
  have z4 := Gw3.size
  refine ⟨Gw3, ?_⟩
  have B5 := (Bx.gr B3 Gw3)
  refine dd_ev rfl rfl rfl (ev_call en_254 rfl (value_c _ _ _ _ (bw p.2) (bw_bd _) (by simp [bw]) _ (rd_seg (sz := 1) (xs := (bw p.2).map bc) B5 (ws_of rfl) rfl rfl))) ?_
  rintro _ w4 ⟨rfl, Gw4⟩
  have z6 := Gw4.size
  refine ⟨Gw4, ?_⟩
  have S7 := (Kp.gr (Kp.gr (Kp.refl [] w2) Gw3) Gw4)
  refine dd_h3 rfl rfl rfl S7 (fun w hS => vv_assign rfl) ?_
  refine dd_h3 rfl rfl rfl S7 (fun w hS => vv_assign rfl) ?_
  refine sd_done ?_
  refine sw_ret ?_
  have X8 : Gr w w4 := (Gr.trans (Gr.trans (Gr.trans (Gr.trans (Gr.refl w) Gw1) Gw2) Gw3) Gw4)
  refine ⟨_, _, rfl, res_2 rfl (rv_tmp rfl) (rv_tmp rfl), ?_⟩
  exact ⟨by rw [val_bw, val_bw], X8⟩

/-- bytes as they are laid into a key -/
def keyTo (ys : List Int) (n : Nat) : List Value := (List.range 16).map fun i => if i < n then .int .u8 (ys.getD i 0) else .int .u8 0
theorem keyTo_len (ys : List Int) (n : Nat) : (keyTo ys n).length = 16 := by simp [keyTo]
theorem keyTo_0 (ys : List Int) : keyTo ys 0 = List.replicate 16 (.int .u8 0) := by rfl
theorem keyTo_set (ys : List Int) (n : Nat) (y : Int) (h : n < 16) (hy : ys[n]? = some y) : (keyTo ys n).set (0 + (n : Int).toNat * 1) (.int .u8 y) = keyTo ys (n + 1) := by
  have e : 0 + (n : Int).toNat * 1 = n := by omega
  have hd : ys.getD n 0 = y := by simp [List.getD, hy]
  rw [e]
  apply List.ext_getElem?
  intro i
  rw [List.getElem?_set]
  unfold keyTo
  by_cases hi : i < 16
  · by_cases h2 : n = i
    · subst h2; simp [h, hy]
    · have : (i < n + 1) = (i < n) := by apply propext; omega
      simp [h2, hi, this]
  · simp [hi]; omega
theorem keyTo_16 (p : W2) : keyTo (bw p.1 ++ bw p.2) 16 = kb p := by rfl
/-- a key of bytes -/
theorem blk_bytes (tag : Int) (n : BitVec 64) (h0 : 0 ≤ tag) (h1 : tag ≤ 255) : [tag] ++ byL 0#64 7 ++ byL n 8 = bw (blk tag 0#64 n).1 ++ bw (blk tag 0#64 n).2 := by
  have e : ∀ i, i < 8 → bt (wd tag <<< 56 ||| 0#64) i = if i = 0 then tag else 0 := by
    intro i hi
    unfold bt
    have hz : wd tag <<< 56 ||| 0#64 = wd tag <<< 56 := by simp
    rw [hz]
    have ht : (wd tag).toNat = tag.toNat := by have := un_wd tag h0 (by omega); unfold un at this; omega
    have hsh : (wd tag <<< 56).toNat = tag.toNat * 2 ^ 56 := by
      rw [BitVec.toNat_shiftLeft, ht, Nat.shiftLeft_eq, Nat.mod_eq_of_lt]
      have : tag.toNat ≤ 255 := by omega
      omega
    have hun : un ((wd tag <<< 56) >>> (56 - 8 * i)) = ((tag.toNat * 2 ^ 56 / 2 ^ (56 - 8 * i) : Nat) : Int) := by
      unfold un; rw [BitVec.toNat_ushiftRight, hsh, Nat.shiftRight_eq_div_pow]
    have h56 : 8 * i + (56 - 8 * i) = 56 := by omega
    have hpow : (2 : Nat) ^ 56 = 2 ^ (8 * i) * 2 ^ (56 - 8 * i) := by rw [← Nat.pow_add, h56]
    rw [hun, hpow, ← Nat.mul_assoc, Nat.mul_div_cancel _ (Nat.two_pow_pos _)]
    by_cases h : i = 0
    · subst h; rw [if_pos rfl, Nat.mul_zero, Nat.pow_zero, Nat.mul_one]; omega
    · obtain ⟨m, rfl⟩ : ∃ m, i = m + 1 := ⟨i - 1, by omega⟩
      rw [if_neg h, show 8 * (m + 1) = 8 * m + 8 from by omega, Nat.pow_add]
      have : tag.toNat * (2 ^ (8 * m) * 2 ^ 8) = 256 * (tag.toNat * 2 ^ (8 * m)) := by rw [← Nat.mul_assoc, Nat.mul_comm]
      rw [this]; omega
  have hb : bw (blk tag 0#64 n).1 = [tag, 0, 0, 0, 0, 0, 0, 0] := by
    unfold bw blk
    rw [e 0 (by decide), e 1 (by decide), e 2 (by decide), e 3 (by decide), e 4 (by decide), e 5 (by decide), e 6 (by decide), e 7 (by decide)]
    simp
  have hz : byL 0#64 7 = [0, 0, 0, 0, 0, 0, 0] := by decide
  rw [hb, byL_8, hz]
  rfl
def kOf (ys : List Int) : W2 := (valL (ys.take 8), valL (ys.drop 8))

set_option maxHeartbeats 1000000 in
theorem rkey_c (b : Value) (z g o : Nat) (p : W2) (ys : List Int) (hys : ys = bw p.1 ++ bw p.2) (w : World) (hb : Rd w z g o 1 b (ys.map bc)) :
    Calls Tryz.prog 214 [b].toArray w fun e w' => ∃ v, e = .returned v ∧ (v = kv p ∧ Gr w w') := by
  have lt1 := hb.lt
  have hlen : ys.length = 16 := by rw [hys]; rfl
  refine calls_of_sw (R := fun v w' => v = kv p ∧ Gr w w') 22 Tryz.func214 rfl rfl rfl ?_
  refine sw_seq ?_
  -- region 0 ref.go:42
  refine sw_region [(0, 0)] rfl rfl rfl ?_
  refine sd_ev rfl rfl rfl (ev_alloc zv_23 (by rfl)) ?_
  rintro _ w1 ⟨b1, rfl, hbw1, Bw1, Gw1⟩
  have z2 := Gw1.size
  have lt3 := Bw1.lt
  refine sd_done ?_
  refine sw_seq ?_
  -- region 1 ref.go:43
  refine sw_region [(0, 0)] rfl rfl rfl ?_
  refine sd_ev rfl rfl rfl (ev_alloc zv_23 (by rfl)) ?_
  rintro _ w2 ⟨b2, rfl, hbw2, Bw2, Gw2⟩
  have z4 := Gw2.size
  have lt5 := Bw2.lt
  refine sd_done ?_
  refine sw_seq ?_
  refine sw_seq ?_
  -- region 2 ref.go:44
  refine sw_region [(0, 0)] rfl rfl rfl ?_
  refine sd_vv rfl rfl rfl (vv_assign rfl) ?_
  refine sd_done ?_
  refine sw_block ?_
  have X6 : Gr w w2 := (Gr.trans (Gr.trans (Gr.refl w) Gw1) Gw2)
  refine sw_loopD (α := Nat) [4, 5, 6, 7, 8, 9, 10, 11, 12, 13, 14, 15, 16, 17, 18, 19, 20] (fun i => [(4, .int .i64 (i : Int))]) (fun i wr => (i ≤ 16) ∧ Bx wr b2 23 (keyTo ys i) ∧ Kp [b2] w2 wr) (fun i => 16 - i) (0) ?_ ?_ ?_
  · repeat' first | exact trivial | refine ⟨rfl, ?_⟩
  · exact ⟨Nat.zero_le _, (by rw [keyTo_0]; exact Bw2), Kp.refl _ _⟩
  rintro i w3 ⟨hi, Bw3_b2, Kw3⟩
  have z7 := Kw3.size
  refine sw_seq ?_
  refine sw_seq ?_
  -- region 3 ref.go:44
  refine sw_region [(0, 0), (1, 0), (2, 0), (3, 0), (4, 0), (5, 0), (6, 0), (7, 0)] rfl rfl rfl ?_
  refine sd_vv rfl rfl rfl (vv_move rfl) ?_
  refine sd_vv rfl rfl rfl (vv_lss rfl rfl) ?_
  refine sd_split rfl rfl rfl (vv_move rfl) (fun h1 => ?_) (fun h1 => ?_)
  · -- h1 True
    replace h1 := of_decide_eq_true h1
    refine sd_vv rfl rfl rfl (vv_move rfl) ?_
    refine sd_vv rfl rfl rfl (vv_move rfl) ?_
    have B8 := (Rd.kp (Rd.gr (Rd.gr hb Gw1) Gw2) Kw3 (by simp <;> first | omega | (split <;> omega)))
    refine sd_vv rfl rfl rfl (vv_lenN (n := 16) Tryz.underlying50 rfl B8 (by rw [List.length_map]; exact hlen)) ?_
    refine sd_vv rfl rfl rfl (vv_lss rfl rfl) ?_
    refine sd_vv rfl rfl rfl (vv_pickT rfl rfl) ?_
    refine sd_done ?_
    refine sw_cond rfl (fun h2 => ?_) (fun h2 => ?_)
    · -- h2 True
      replace h2 := of_decide_eq_true h2
      refine sw_skip ?_
      refine then_n ?_
      refine sw_seq ?_
      refine sw_block ?_
      -- region 5 ref.go:45
      refine sw_region [(0, 0), (1, 0), (2, 0), (3, 0), (4, 0), (5, 0), (6, 0)] rfl rfl rfl ?_
      obtain ⟨y, hy, hym⟩ := get_ex (show i < ys.length by omega)
      refine sd_vv rfl rfl rfl (vv_move rfl) ?_
      refine sd_vv rfl rfl rfl (vv_move rfl) ?_
      refine sd_vv rfl rfl rfl (vv_move rfl) ?_
      refine sd_vv rfl rfl rfl (vv_ixN (n := 16) Tryz.underlying50 (one_5).siz rfl B8 (by rw [List.length_map]; exact hlen) rfl (by omega) (by omega)) ?_
      refine sd_vv rfl rfl rfl (vv_el1 (q := 0) one_5 rfl B8 (getm hy) (by omega) (show _ = some _ from by rfl)) ?_
      refine sd_vv rfl rfl rfl (vv_indexAddr Tryz.underlying23 (one_5).siz rfl rfl (by omega) (by omega)) ?_
      refine sd_ev rfl rfl rfl (ev_store1 (one_5).siz rfl rfl rfl Bw3_b2 (by rw [keyTo_len]; omega)) ?_
      rintro _ w4 ⟨Bw4, Mw4⟩
      have z9 := Mw4.size
      refine sd_nil ?_
      refine block_n ?_
      refine then_n ?_
      -- region 4 ref.go:44
      refine sw_region [(0, 0), (1, 0), (2, 0)] rfl rfl rfl ?_
      refine sd_vv rfl rfl rfl (vv_move rfl) ?_
      refine sd_vv rfl rfl rfl (vv_add64 rfl rfl (by omega) (by omega)) ?_
      refine sd_vv rfl rfl rfl (vv_assign rfl) ?_
      refine sd_nil ?_
      have K_10 := (Kp.md Kw3 Mw4 (by simp <;> first | omega | (split <;> omega)))
      refine ⟨rfl, i + 1, ?_, ⟨?_, ?_, K_10⟩, ?_⟩
      · repeat' first | exact trivial | refine ⟨rfl, ?_⟩
      · omega
      · rw [← keyTo_set ys i y (by omega) hy]; exact Bw4
      · first | omega | (dsimp only; omega)
    · -- h2 False
      replace h2 := of_decide_eq_false h2
      refine sw_exit ?_
      refine then_x ?_
      refine then_x ?_
      refine block_x ?_
      refine then_n ?_
      refine sw_seq ?_
      obtain rfl : i = 16 := by omega
      -- region 6 ref.go:47
      refine sw_region [(0, 0), (1, 0)] rfl rfl rfl ?_
      refine sd_vv rfl rfl rfl (vv_loadW agg_23 rfl Bw3_b2 (by first | rfl | exact keyTo_len _ _)) ?_
      have B11 := (Bx.kp (Bx.gr Bw1 Gw2) Kw3 (by simp <;> first | omega | (split <;> omega)))
      refine sd_ev rfl rfl rfl (ev_storeW (agg_23).siz rfl rfl (by rfl) (by first | rfl | exact keyTo_len _ _) (by rfl) B11 (by first | rfl | exact keyTo_len _ _)) ?_
      rintro _ w5 ⟨Bw5, Mw5⟩
      have z12 := Mw5.size
      refine sd_done ?_
      refine sw_ret ?_
      
      have X13 : Gr w w5 := (Gr.md (Gr.kp X6 Kw3 (by simp <;> first | omega | (split <;> omega))) Mw5 (by omega))
      refine ⟨_, _, rfl, res_cellW rfl agg_23 rfl Bw5 (by first | rfl | exact keyTo_len _ _), ?_⟩
      exact ⟨by rw [hys, keyTo_16], X13⟩
  · -- h1 False
    replace h1 := of_decide_eq_false h1
    refine sd_skip rfl rfl rfl ?_
    refine sd_skip rfl rfl rfl ?_
    refine sd_skip rfl rfl rfl ?_
    refine sd_skip rfl rfl rfl ?_
    refine sd_vv rfl rfl rfl (vv_pickF rfl rfl) ?_
    refine sd_done ?_
    refine sw_condF rfl ?_
    refine sw_exit ?_
    refine then_x ?_
    refine then_x ?_
    refine block_x ?_
    refine then_n ?_
    refine sw_seq ?_
    obtain rfl : i = 16 := by omega
    -- region 6 ref.go:47
    refine sw_region [(0, 0), (1, 0)] rfl rfl rfl ?_
    refine sd_vv rfl rfl rfl (vv_loadW agg_23 rfl Bw3_b2 (by first | rfl | exact keyTo_len _ _)) ?_
    have B14 := (Bx.kp (Bx.gr Bw1 Gw2) Kw3 (by simp <;> first | omega | (split <;> omega)))
    refine sd_ev rfl rfl rfl (ev_storeW (agg_23).siz rfl rfl (by rfl) (by first | rfl | exact keyTo_len _ _) (by rfl) B14 (by first | rfl | exact keyTo_len _ _)) ?_
    rintro _ w6 ⟨Bw6, Mw6⟩
    have z15 := Mw6.size
    refine sd_done ?_
    refine sw_ret ?_
    have X16 : Gr w w6 := (Gr.md (Gr.kp X6 Kw3 (by simp <;> first | omega | (split <;> omega))) Mw6 (by omega))
    refine ⟨_, _, rfl, res_cellW rfl agg_23 rfl Bw6 (by first | rfl | exact keyTo_len _ _), ?_⟩
    exact ⟨by rw [hys, keyTo_16], X16⟩

set_option maxHeartbeats 1000000 in
theorem rblock_c (p : W2) (w : World) :
    Calls Tryz.prog 212 [wv p.1, wv p.2].toArray w fun e w' => ∃ v, e = .returned v ∧ (v = kv p ∧ Gr w w') := by
  refine calls_of_sw (R := fun v w' => v = kv p ∧ Gr w w') 11 Tryz.func212 rfl rfl rfl ?_
  refine sw_seq ?_
  -- region 0 ref.go:39
  refine sw_region [(0, 0)] rfl rfl rfl ?_
  refine sd_ev rfl rfl rfl (ev_alloc zv_23 (by rfl)) ?_
  rintro _ w1 ⟨b1, rfl, hbw1, Bw1, Gw1⟩
  have z1 := Gw1.size
  have lt2 := Bw1.lt
  refine sd_done ?_
  refine sw_seq ?_
  -- region 1 ref.go:39
  refine sw_region [(0, 0), (1, 0), (2, 0), (3, 0), (4, 0), (5, 0), (6, 0)] rfl rfl rfl ?_
  refine sd_vv rfl rfl rfl (vv_move rfl) ?_
  refine sd_ev rfl rfl rfl (ev_call en_213 rfl (bytes_c _ 8 (by decide) _)) ?_
  rintro v2 w2 ⟨z2_, g2_, O2, hg2, Gw2⟩
  have z3 := Gw2.size
  have lt4 := O2.lt
  refine sd_vv rfl rfl rfl (vv_move rfl) ?_
  refine sd_ev rfl rfl rfl (ev_call en_213 rfl (bytes_c _ 8 (by decide) _)) ?_
  rintro v3 w3 ⟨z3_, g3_, O3, hg3, Gw3⟩
  have z5 := Gw3.size
  have lt6 := O3.lt
  have B7 := (Own.gr O2 Gw3)
  refine sd_ev rfl rfl rfl (ev_app apt_50 rfl rfl B7 (Own.rd O3) (by simp [byL_len]) (by simp [byL_len])) ?_
  rintro vw4 w4 ⟨zw4, gw4, Ow4, Aw4, qw4, rw4, sw4⟩
  have z8 := Aw4.size
  have lt9 := Ow4.lt
  refine sd_ev rfl rfl rfl (ev_call en_214 rfl (rkey_c _ _ _ _ p (byL p.1 8 ++ byL p.2 8) (by rw [byL_8, byL_8]) _ (by rw [List.map_append]; exact (Own.rd Ow4)))) ?_
  rintro _ w5 ⟨rfl, Gw5⟩
  have z10 := Gw5.size
  have B11 := (Bx.gr (Bx.ka (Bx.gr (Bx.gr Bw1 Gw2) Gw3) Aw4 (by omega)) Gw5)
  refine sd_ev rfl rfl rfl (ev_storeW (agg_23).siz rfl rfl (by rfl) (by rfl) (by rfl) B11 (by rfl)) ?_
  rintro _ w6 ⟨Bw6, Mw6⟩
  have z12 := Mw6.size
  refine sd_done ?_
  refine sw_ret ?_
  have X13 : Gr w w6 := (Gr.md (Gr.trans (Gr.ka (Gr.trans (Gr.trans (Gr.trans (Gr.refl w) Gw1) Gw2) Gw3) Aw4 (by omega)) Gw5) Mw6 (by omega))
  refine ⟨_, _, rfl, res_cellW rfl agg_23 rfl Bw6 (by rfl), ?_⟩
  exact ⟨rfl, X13⟩

theorem rot_e (x : BitVec 64) (n : Nat) (h1 : 1 ≤ n) (h2 : n ≤ 63) : x >>> (n : Int).toNat ||| x <<< (64 - (n : Int)).toNat = rotl x (64 - n) := by
  unfold rotl
  rw [show (n : Int).toNat = n from by omega, show (64 - (n : Int)).toNat = 64 - n from by omega, show 64 - (64 - n) = n from by omega, BitVec.or_comm]

set_option maxHeartbeats 1000000 in
theorem rotr_c (x : BitVec 64) (n : Nat) (h1 : 1 ≤ n) (h2 : n ≤ 63) (w : World) :
    Calls Tryz.prog 210 [wv x, .int .i64 (n : Int)].toArray w fun e w' => ∃ v, e = .returned v ∧ (v = wv (rotl x (64 - n)) ∧ Gr w w') := by
  refine calls_of_sw (R := fun v w' => v = wv (rotl x (64 - n)) ∧ Gr w w') 13 Tryz.func210 rfl rfl rfl ?_
  refine sw_seq ?_
  -- region 0 ref.go:51
  refine sw_region [(0, 0)] rfl rfl rfl ?_
  refine sd_vv rfl rfl rfl (vv_assign rfl) ?_
  refine sd_done ?_
  refine sw_seq ?_
  -- region 1 ref.go:51 DRAWS
  refine sw_draw [] [(0, 3), (1, 3), (2, 3), (3, 3), (4, 3), (5, 3), (6, 3), (7, 3), (8, 3)] (by kernel_rfl) (by kernel_rfl) rfl (by kernel_rfl) ?_
  intro w1 Gw1 zw1
  refine dd_h3 rfl rfl rfl (Kp.refl [] w1) (fun w hS => vv_move rfl) ?_
  refine dd_h3 rfl rfl rfl (Kp.refl [] w1) (fun w hS => vv_move rfl) ?_
  refine dd_h3 rfl rfl rfl (Kp.refl [] w1) (fun w hS => vv_ushr rfl rfl (by omega)) ?_
  refine dd_h3 rfl rfl rfl (Kp.refl [] w1) (fun w hS => vv_move rfl) ?_
  refine dd_h3 rfl rfl rfl (Kp.refl [] w1) (fun w hS => vv_move rfl) ?_
  refine dd_h3 rfl rfl rfl (Kp.refl [] w1) (fun w hS => vv_sub64 rfl rfl (by omega) (by omega)) ?_
  refine dd_h3 rfl rfl rfl (Kp.refl [] w1) (fun w hS => vv_ushl rfl rfl (by omega)) ?_
  refine dd_h3 rfl rfl rfl (Kp.refl [] w1) (fun w hS => vv_uor rfl rfl) ?_
  refine dd_h3 rfl rfl rfl (Kp.refl [] w1) (fun w hS => vv_assign rfl) ?_
  refine sd_done ?_
  refine sw_ret ?_
  have X1 : Gr w w1 := (Gr.trans (Gr.refl w) Gw1)
  refine ⟨_, _, rfl, res_tmp rfl rfl, ?_⟩
  exact ⟨by rw [← rot_e x n h1 h2], X1⟩

set_option maxHeartbeats 1000000 in
theorem rotl_c (x : BitVec 64) (n : Nat) (h1 : 1 ≤ n) (h2 : n ≤ 63) (w : World) :
    Calls Tryz.prog 211 [wv x, .int .i64 (n : Int)].toArray w fun e w' => ∃ v, e = .returned v ∧ (v = wv (rotl x n) ∧ Gr w w') := by
  refine calls_of_sw (R := fun v w' => v = wv (rotl x n) ∧ Gr w w') 9 Tryz.func211 rfl rfl rfl ?_
  refine sw_seq ?_
  -- region 0 ref.go:54
  refine sw_region [(0, 0)] rfl rfl rfl ?_
  refine sd_vv rfl rfl rfl (vv_assign rfl) ?_
  refine sd_done ?_
  refine sw_seq ?_
  -- region 1 ref.go:54
  refine sw_region [(0, 0), (1, 0), (2, 0), (3, 0), (4, 0)] rfl rfl rfl ?_
  refine sd_vv rfl rfl rfl (vv_move rfl) ?_
  refine sd_vv rfl rfl rfl (vv_move rfl) ?_
  refine sd_vv rfl rfl rfl (vv_eq (vv_sub64 rfl rfl (by omega) (by omega)) (show _ = Value.int .i64 ((64 - n : Nat) : Int) from congrArg (Value.int .i64) (by omega))) ?_
  refine sd_ev rfl rfl rfl (ev_call en_210 rfl (rotr_c x (64 - n) (by omega) (by omega) _)) ?_
  rintro _ w1 ⟨rfl, Gw1⟩
  have z1 := Gw1.size
  refine sd_vv rfl rfl rfl (vv_assign rfl) ?_
  refine sd_done ?_
  refine sw_ret ?_
  have X2 : Gr w w1 := (Gr.trans (Gr.refl w) Gw1)
  refine ⟨_, _, rfl, res_tmp rfl rfl, ?_⟩
  exact ⟨by rw [show 64 - (64 - n) = n from by omega], X2⟩

def rkTo (k : W2) (n : Nat) : List (BitVec 64) := (List.range (n + 1)).map fun i => (ks k i).2
theorem rkTo_len (k : W2) (n : Nat) : (rkTo k n).length = n + 1 := by simp [rkTo]
theorem rkTo_succ (k : W2) (n : Nat) : rkTo k (n + 1) = rkTo k n ++ [(ks k (n + 1)).2] := by simp [rkTo, List.range_succ]
theorem rkTo_get (k : W2) (i : Nat) (h : i < 32) : (rkTo k 31)[i]? = some (ks k i).2 := by simp [rkTo, h]
theorem ks_1 (k : W2) (i : Nat) : (ks k (i + 1)).1 = ((ks k i).2 + rotl (ks k i).1 56) ^^^ wd (i : Int) := by simp [ks, rnd, BitVec.add_comm]
theorem ks_2 (k : W2) (i : Nat) : (ks k (i + 1)).2 = rotl (ks k i).2 3 ^^^ (ks k (i + 1)).1 := by simp [ks, rnd]

set_option maxHeartbeats 1000000 in
theorem rkeys_c (k : W2) (w : World) :
    Calls Tryz.prog 209 [kv k].toArray w fun e w' => ∃ v, e = .returned v ∧ (∃ z g, Own w' z g 24 1 v ((rkTo k 31).map uc) ∧ (z = 0 ∨ w.heap.size ≤ g) ∧ Gr w w') := by
  refine calls_of_sw (R := fun v w' => ∃ z g, Own w' z g 24 1 v ((rkTo k 31).map uc) ∧ (z = 0 ∨ w.heap.size ≤ g) ∧ Gr w w') 34 Tryz.func209 rfl rfl rfl ?_
  refine sw_seq ?_
  -- region 0 ref.go:57
  refine sw_region [(0, 0), (1, 0)] rfl rfl rfl ?_
  refine sd_ev rfl rfl rfl (ev_box rfl (by rfl)) ?_
  rintro _ w1 ⟨b1, rfl, hbw1, Bw1, Gw1⟩
  have z1 := Gw1.size
  have lt2 := Bw1.lt
  refine sd_vv rfl rfl rfl (vv_assign rfl) ?_
  refine sd_done ?_
  refine sw_seq ?_
  -- region 1 ref.go:58
  refine sw_region [(0, 0), (1, 0), (2, 0), (3, 0), (4, 0), (5, 0), (6, 0)] rfl rfl rfl ?_
  refine sd_vv rfl rfl rfl (vv_loadW agg_23 rfl Bw1 (by rfl)) ?_
  refine sd_ev rfl rfl rfl (ev_call en_208 rfl (rwords_c _ _)) ?_
  rintro _ w2 ⟨rfl, Gw2⟩
  have z3 := Gw2.size
  refine sd_vv rfl rfl rfl (vv_move rfl) ?_
  refine sd_vv rfl rfl rfl (vv_extract rfl rfl) ?_
  refine sd_vv rfl rfl rfl (vv_extract rfl rfl) ?_
  refine sd_vv rfl rfl rfl (vv_assign rfl) ?_
  refine sd_vv rfl rfl rfl (vv_assign rfl) ?_
  refine sd_done ?_
  refine sw_seq ?_
  -- region 2 ref.go:59
  refine sw_region [(0, 0), (1, 0), (2, 0)] rfl rfl rfl ?_
  refine sd_vv rfl rfl rfl (vv_move rfl) ?_
  refine sd_ev rfl rfl rfl (ev_lit bsl_160_1 rfl rfl rfl rfl rfl) ?_
  rintro vw3 w3 ⟨gw3, hbw3, Ow3, Gw3⟩
  have z4 := Gw3.size
  have lt5 := Ow3.lt
  refine sd_vv rfl rfl rfl (vv_assign rfl) ?_
  refine sd_done ?_
  refine sw_seq ?_
  refine sw_seq ?_
  -- region 3 ref.go:60
  refine sw_region [(0, 0)] rfl rfl rfl ?_
  refine sd_vv rfl rfl rfl (vv_assign rfl) ?_
  refine sd_done ?_
  refine sw_block ?_
  have X6 : Gr w w3 := (Gr.trans (Gr.trans (Gr.trans (Gr.refl w) Gw1) Gw2) Gw3)
  refine sw_loopD (α := Nat × Value × Nat × Nat) [3, 4, 5, 6, 14, 15, 16, 17, 18, 19, 20, 21, 22, 23, 24, 25, 26, 27, 28, 29, 30, 31, 32] (fun ⟨i, v, z, g⟩ => [(6, .int .i64 (i : Int)), (3, wv (ks k i).1), (4, wv (ks k i).2), (5, v)]) (fun ⟨i, v, z, g⟩ wr => (i ≤ 31) ∧ (Own wr z g 24 1 v ((rkTo k i).map uc) ∧ (z = 0 ∨ g = gw3 ∨ w3.heap.size ≤ g)) ∧ Kp [gw3] w3 wr) (fun ⟨i, v, z, g⟩ => 31 - i) (⟨0, vw3, 1, gw3⟩) ?_ ?_ ?_
  · repeat' first | exact trivial | refine ⟨rfl, ?_⟩
  · exact ⟨Nat.zero_le _, ⟨Ow3, .inr (.inl rfl)⟩, Kp.refl _ _⟩
  rintro ⟨i, v, z, g⟩ w4 ⟨hi, ⟨Ow4_5, hOw4_5⟩, Kw4⟩
  have z7 := Kw4.size
  have lt8 := Ow4_5.lt
  refine sw_seq ?_
  refine sw_seq ?_
  -- region 4 ref.go:60
  refine sw_region [(0, 0), (1, 0)] rfl rfl rfl ?_
  refine sd_vv rfl rfl rfl (vv_move rfl) ?_
  refine sd_vv rfl rfl rfl (vv_lss rfl rfl) ?_
  refine sd_done ?_
  refine sw_cond rfl (fun h1 => ?_) (fun h1 => ?_)
  · -- h1 True
    replace h1 := of_decide_eq_true h1
    refine sw_skip ?_
    refine then_n ?_
    refine sw_seq ?_
    refine sw_block ?_
    refine sw_seq ?_
    -- region 6 ref.go:61
    refine sw_region [(0, 0), (1, 0), (2, 0), (3, 0), (4, 0), (5, 0), (6, 0), (7, 0)] rfl rfl rfl ?_
    refine sd_vv rfl rfl rfl (vv_move rfl) ?_
    refine sd_vv rfl rfl rfl (vv_move rfl) ?_
    refine sd_ev rfl rfl rfl (ev_call en_210 rfl (rotr_c _ 8 (by decide) (by decide) _)) ?_
    rintro _ w5 ⟨rfl, Gw5⟩
    have z9 := Gw5.size
    refine sd_vv rfl rfl rfl (vv_uadd rfl rfl) ?_
    refine sd_vv rfl rfl rfl (vv_move rfl) ?_
    refine sd_vv rfl rfl rfl (vv_convIU cv_3_24 rfl (by omega) (by omega)) ?_
    refine sd_vv rfl rfl rfl (vv_uxor rfl rfl) ?_
    refine sd_vv rfl rfl rfl (vv_assign rfl) ?_
    refine sd_done ?_
    refine sw_seq ?_
    -- region 7 ref.go:62
    refine sw_region [(0, 0), (1, 0), (2, 0), (3, 0), (4, 0)] rfl rfl rfl ?_
    refine sd_vv rfl rfl rfl (vv_move rfl) ?_
    refine sd_ev rfl rfl rfl (ev_call en_211 rfl (rotl_c _ 3 (by decide) (by decide) _)) ?_
    rintro _ w6 ⟨rfl, Gw6⟩
    have z10 := Gw6.size
    refine sd_vv rfl rfl rfl (vv_move rfl) ?_
    refine sd_vv rfl rfl rfl (vv_uxor rfl rfl) ?_
    refine sd_vv rfl rfl rfl (vv_assign rfl) ?_
    refine sd_done ?_
    -- region 8 ref.go:63
    refine sw_region [(0, 0), (1, 0), (2, 0), (3, 0), (4, 0)] rfl rfl rfl ?_
    refine sd_vv rfl rfl rfl (vv_move rfl) ?_
    refine sd_vv rfl rfl rfl (vv_move rfl) ?_
    refine sd_ev rfl rfl rfl (ev_lit bsl_160_1 rfl rfl rfl rfl rfl) ?_
    rintro vw7 w7 ⟨gw7, hbw7, Ow7, Gw7⟩
    have z11 := Gw7.size
    have lt12 := Ow7.lt
    have B13 := (Own.gr (Own.gr (Own.gr Ow4_5 Gw5) Gw6) Gw7)
    refine sd_ev rfl rfl rfl (ev_app apt_160 rfl rfl B13 (Own.rd Ow7) (by simp [chunk, rkTo_len]; omega) (by simp [chunk, rkTo_len]; omega)) ?_
    rintro vw8 w8 ⟨zw8, gw8, Ow8, Aw8, qw8, rw8, sw8⟩
    have z14 := Aw8.size
    have lt15 := Ow8.lt
    refine sd_vv rfl rfl rfl (vv_assign rfl) ?_
    refine sd_nil ?_
    refine block_n ?_
    refine then_n ?_
    -- region 5 ref.go:60
    refine sw_region [(0, 0), (1, 0), (2, 0)] rfl rfl rfl ?_
    refine sd_vv rfl rfl rfl (vv_move rfl) ?_
    refine sd_vv rfl rfl rfl (vv_add64 rfl rfl (by omega) (by omega)) ?_
    refine sd_vv rfl rfl rfl (vv_assign rfl) ?_
    refine sd_nil ?_
    have K_16 := (Kp.ka (Kp.gr (Kp.gr (Kp.gr Kw4 Gw5) Gw6) Gw7) Aw8 (by simp <;> first | omega | (split <;> omega)))
    refine ⟨rfl, ⟨i + 1, vw8, zw8, gw8⟩, ?_, ⟨?_, ⟨?_, by omega⟩, K_16⟩, ?_⟩
    · repeat' first | exact trivial | refine ⟨by first | rfl | (rw [ks_1]; rfl) | (rw [ks_2, ks_1]; rfl), ?_⟩
    · omega
    · rw [rkTo_succ, List.map_append, ks_2, ks_1]; exact Ow8
    · first | omega | (dsimp only; omega)
  · -- h1 False
    replace h1 := of_decide_eq_false h1
    refine sw_exit ?_
    refine then_x ?_
    refine then_x ?_
    refine block_x ?_
    refine then_n ?_
    refine sw_seq ?_
    -- region 9 ref.go:65
    refine sw_region [(0, 0), (1, 0)] rfl rfl rfl ?_
    refine sd_vv rfl rfl rfl (vv_move rfl) ?_
    refine sd_vv rfl rfl rfl (vv_assign rfl) ?_
    refine sd_done ?_
    refine sw_ret ?_
    obtain rfl : i = 31 := by omega
    have X17 : Gr w w4 := (Gr.kp X6 Kw4 (by simp <;> first | omega | (split <;> omega)))
    refine ⟨_, _, rfl, res_tmp rfl rfl, ?_⟩
    exact ⟨z, g, Ow4_5, by omega, X17⟩

theorem enc_1 (k b : W2) (i : Nat) : (encTo k b (i + 1)).1 = (rotl (encTo k b i).1 56 + (encTo k b i).2) ^^^ (ks k i).2 := by rw [encTo_succ]; rfl
theorem enc_2 (k b : W2) (i : Nat) : (encTo k b (i + 1)).2 = rotl (encTo k b i).2 3 ^^^ (encTo k b (i + 1)).1 := by rw [encTo_succ]; rfl

set_option maxHeartbeats 1000000 in
theorem rencr_c (k b : W2) (w : World) :
    Calls Tryz.prog 147 [kv k, kv b].toArray w fun e w' => ∃ v, e = .returned v ∧ (v = kv (encr k b) ∧ Gr w w') := by
  refine calls_of_sw (R := fun v w' => v = kv (encr k b) ∧ Gr w w') 36 Tryz.func147 rfl rfl rfl ?_
  refine sw_seq ?_
  -- region 0 ref.go:69
  refine sw_region [(0, 0), (1, 0), (2, 0)] rfl rfl rfl ?_
  refine sd_ev rfl rfl rfl (ev_box rfl (by rfl)) ?_
  rintro _ w1 ⟨b1, rfl, hbw1, Bw1, Gw1⟩
  have z1 := Gw1.size
  have lt2 := Bw1.lt
  refine sd_ev rfl rfl rfl (ev_box rfl (by rfl)) ?_
  rintro _ w2 ⟨b2, rfl, hbw2, Bw2, Gw2⟩
  have z3 := Gw2.size
  have lt4 := Bw2.lt
  refine sd_ev rfl rfl rfl (ev_alloc zv_23 (by rfl)) ?_
  rintro _ w3 ⟨b3, rfl, hbw3, Bw3, Gw3⟩
  have z5 := Gw3.size
  have lt6 := Bw3.lt
  refine sd_done ?_
  refine sw_seq ?_
  -- region 1 ref.go:70
  refine sw_region [(0, 0), (1, 0), (2, 0), (3, 0), (4, 0), (5, 0), (6, 0)] rfl rfl rfl ?_
  have B7 := (Bx.gr Bw2 Gw3)
  refine sd_vv rfl rfl rfl (vv_loadW agg_23 rfl B7 (by rfl)) ?_
  refine sd_ev rfl rfl rfl (ev_call en_208 rfl (rwords_c _ _)) ?_
  rintro _ w4 ⟨rfl, Gw4⟩
  have z8 := Gw4.size
  refine sd_vv rfl rfl rfl (vv_move rfl) ?_
  refine sd_vv rfl rfl rfl (vv_extract rfl rfl) ?_
  refine sd_vv rfl rfl rfl (vv_extract rfl rfl) ?_
  refine sd_vv rfl rfl rfl (vv_assign rfl) ?_
  refine sd_vv rfl rfl rfl (vv_assign rfl) ?_
  refine sd_done ?_
  refine sw_seq ?_
  -- region 2 ref.go:71
  refine sw_region [(0, 0), (1, 0), (2, 0)] rfl rfl rfl ?_
  have B9 := (Bx.gr (Bx.gr (Bx.gr Bw1 Gw2) Gw3) Gw4)
  refine sd_vv rfl rfl rfl (vv_loadW agg_23 rfl B9 (by rfl)) ?_
  refine sd_ev rfl rfl rfl (ev_call en_209 rfl (rkeys_c _ _)) ?_
  rintro v5 w5 ⟨z5_, g5_, O5, hg5, Gw5⟩
  have z10 := Gw5.size
  have lt11 := O5.lt
  refine sd_vv rfl rfl rfl (vv_assign rfl) ?_
  refine sd_done ?_
  refine sw_seq ?_
  refine sw_seq ?_
  -- region 3 ref.go:72
  refine sw_region [(0, 0)] rfl rfl rfl ?_
  refine sd_vv rfl rfl rfl (vv_assign rfl) ?_
  refine sd_done ?_
  refine sw_block ?_
  have X12 : Gr w w5 := (Gr.trans (Gr.trans (Gr.trans (Gr.trans (Gr.trans (Gr.refl w) Gw1) Gw2) Gw3) Gw4) Gw5)
  refine sw_loopD (α := Nat) [5, 6, 8, 16, 17, 18, 19, 20, 21, 22, 23, 24, 25, 26, 27, 28, 29, 30, 31, 32] (fun i => [(8, .int .i64 (i : Int)), (5, wv (encTo k b i).1), (6, wv (encTo k b i).2)]) (fun i wr => (i ≤ 32) ∧ Kp [] w5 wr) (fun i => 32 - i) (0) ?_ ?_ ?_
  · repeat' first | exact trivial | refine ⟨rfl, ?_⟩
  · exact ⟨Nat.zero_le _, Kp.refl _ _⟩
  rintro i w6 ⟨hi, Kw6⟩
  have z13 := Kw6.size
  refine sw_seq ?_
  refine sw_seq ?_
  -- region 4 ref.go:72
  refine sw_region [(0, 0), (1, 0)] rfl rfl rfl ?_
  refine sd_vv rfl rfl rfl (vv_move rfl) ?_
  refine sd_vv rfl rfl rfl (vv_lss rfl rfl) ?_
  refine sd_done ?_
  refine sw_cond rfl (fun h1 => ?_) (fun h1 => ?_)
  · -- h1 True
    replace h1 := of_decide_eq_true h1
    refine sw_skip ?_
    refine then_n ?_
    refine sw_seq ?_
    refine sw_block ?_
    refine sw_seq ?_
    -- region 6 ref.go:73 DRAWS
    refine sw_draw [] [(0, 3), (2, 3), (4, 3), (5, 3), (6, 3), (7, 3), (1, 0), (3, 3), (8, 3), (9, 3)] (by kernel_rfl) (by kernel_rfl) rfl (by kernel_rfl) ?_
    intro w7 Gw7 zw7
    refine dd_h3 rfl rfl rfl (Kp.refl [] w7) (fun w hS => vv_move rfl) ?_
    refine dd_h3 rfl rfl rfl (Kp.refl [] w7) (fun w hS => vv_move rfl) ?_
    refine dd_h3 rfl rfl rfl (Kp.refl [] w7) (fun w hS => vv_move rfl) ?_
    refine dd_h3 rfl rfl rfl (Kp.refl [] w7) (fun w hS => vv_move rfl) ?_
    have B14 := (Own.gr (Own.kp O5 Kw6 (by simp <;> first | omega | (split <;> omega))) Gw7)
    refine dd_h3 rfl rfl rfl (Kp.refl [] w7) (fun w hS => vv_ixN (n := 32) Tryz.underlying160 (one_24).siz rfl (Own.rd (Own.kp B14 hS (by simp <;> first | omega | (split <;> omega)))) (by simp [rkTo_len]) rfl (by omega) (by omega)) ?_
    refine dd_h3 rfl rfl rfl (Kp.refl [] w7) (fun w hS => vv_el1 (q := 0) one_24 rfl (Own.rd (Own.kp B14 hS (by simp <;> first | omega | (split <;> omega)))) (getm (rkTo_get k i (by omega))) (by omega) (show _ = some _ from by rfl)) ?_
    refine dd_ev rfl rfl rfl (ev_call en_210 rfl (rotr_c _ 8 (by decide) (by decide) _)) ?_
    rintro _ w8 ⟨rfl, Gw8⟩
    have z15 := Gw8.size
    refine ⟨Gw8, ?_⟩
    have S16 := (Kp.gr (Kp.refl [] w7) Gw8)
    refine dd_h3 rfl rfl rfl S16 (fun w hS => vv_uadd rfl rfl) ?_
    refine dd_h3 rfl rfl rfl S16 (fun w hS => vv_uxor rfl rfl) ?_
    refine dd_h3 rfl rfl rfl S16 (fun w hS => vv_assign rfl) ?_
    refine sd_done ?_
    -- region 7 ref.go:74
    refine sw_region [(0, 0), (1, 0), (2, 0), (3, 0), (4, 0)] rfl rfl rfl ?_
    refine sd_vv rfl rfl rfl (vv_move rfl) ?_
    refine sd_ev rfl rfl rfl (ev_call en_211 rfl (rotl_c _ 3 (by decide) (by decide) _)) ?_
    rintro _ w9 ⟨rfl, Gw9⟩
    have z17 := Gw9.size
    refine sd_vv rfl rfl rfl (vv_move rfl) ?_
    refine sd_vv rfl rfl rfl (vv_uxor rfl rfl) ?_
    refine sd_vv rfl rfl rfl (vv_assign rfl) ?_
    refine sd_nil ?_
    refine block_n ?_
    refine then_n ?_
    -- region 5 ref.go:72
    refine sw_region [(0, 0), (1, 0), (2, 0)] rfl rfl rfl ?_
    refine sd_vv rfl rfl rfl (vv_move rfl) ?_
    refine sd_vv rfl rfl rfl (vv_add64 rfl rfl (by omega) (by omega)) ?_
    refine sd_vv rfl rfl rfl (vv_assign rfl) ?_
    refine sd_nil ?_
    have K_18 := (Kp.gr (Kp.gr (Kp.gr Kw6 Gw7) Gw8) Gw9)
    refine ⟨rfl, i + 1, ?_, ⟨?_, K_18⟩, ?_⟩
    · repeat' first | exact trivial | refine ⟨by first | rfl | (rw [enc_1]; rfl) | (rw [enc_2, enc_1]; rfl), ?_⟩
    · omega
    · first | omega | (dsimp only; omega)
  · -- h1 False
    replace h1 := of_decide_eq_false h1
    refine sw_exit ?_
    refine then_x ?_
    refine then_x ?_
    refine block_x ?_
    refine then_n ?_
    refine sw_seq ?_
    obtain rfl : i = 32 := by omega
    -- region 8 ref.go:76
    refine sw_region [(0, 0), (1, 0), (2, 0), (3, 0)] rfl rfl rfl ?_
    refine sd_vv rfl rfl rfl (vv_move rfl) ?_
    refine sd_vv rfl rfl rfl (vv_move rfl) ?_
    refine sd_ev rfl rfl rfl (ev_call en_212 rfl (rblock_c (encr k b) _)) ?_
    rintro _ w10 ⟨rfl, Gw10⟩
    have z19 := Gw10.size
    have B20 := (Bx.gr (Bx.kp (Bx.gr (Bx.gr Bw3 Gw4) Gw5) Kw6 (by simp <;> first | omega | (split <;> omega))) Gw10)
    refine sd_ev rfl rfl rfl (ev_storeW (agg_23).siz rfl rfl (by rfl) (by rfl) (by rfl) B20 (by rfl)) ?_
    rintro _ w11 ⟨Bw11, Mw11⟩
    have z21 := Mw11.size
    refine sd_done ?_
    refine sw_ret ?_
    have X22 : Gr w w11 := (Gr.md (Gr.trans (Gr.kp X12 Kw6 (by simp <;> first | omega | (split <;> omega))) Gw10) Mw11 (by omega))
    refine ⟨_, _, rfl, res_cellW rfl agg_23 rfl Bw11 (by rfl), ?_⟩
    exact ⟨rfl, X22⟩

set_option maxHeartbeats 1000000 in
theorem rBlock_c (tag : Int) (h0 : 0 ≤ tag) (h1 : tag ≤ 255) (n : BitVec 64) (w : World) :
    Calls Tryz.prog 148 [.int .u8 tag, wv 0#64, wv n].toArray w fun e w' => ∃ v, e = .returned v ∧ (v = kv (blk tag 0#64 n) ∧ Gr w w') := by
  refine calls_of_sw (R := fun v w' => v = kv (blk tag 0#64 n) ∧ Gr w w') 18 Tryz.func148 rfl rfl rfl ?_
  refine sw_seq ?_
  -- region 0 ref.go:91
  refine sw_region [(0, 0)] rfl rfl rfl ?_
  refine sd_ev rfl rfl rfl (ev_alloc zv_23 (by rfl)) ?_
  rintro _ w1 ⟨b1, rfl, hbw1, Bw1, Gw1⟩
  have z1 := Gw1.size
  have lt2 := Bw1.lt
  refine sd_done ?_
  refine sw_seq ?_
  -- region 1 ref.go:92
  refine sw_region [(0, 0), (1, 0), (2, 0), (3, 0), (4, 0), (5, 0)] rfl rfl rfl ?_
  refine sd_vv rfl rfl rfl (vv_move rfl) ?_
  refine sd_ev rfl rfl rfl (ev_lit bsl_50_1 rfl rfl rfl rfl rfl) ?_
  rintro vw2 w2 ⟨gw2, hbw2, Ow2, Gw2⟩
  have z3 := Gw2.size
  have lt4 := Ow2.lt
  refine sd_vv rfl rfl rfl (vv_move rfl) ?_
  refine sd_ev rfl rfl rfl (ev_call en_213 rfl (bytes_c _ 7 (by decide) _)) ?_
  rintro v3 w3 ⟨z3_, g3_, O3, hg3, Gw3⟩
  have z5 := Gw3.size
  have lt6 := O3.lt
  have B7 := (Own.gr Ow2 Gw3)
  refine sd_ev rfl rfl rfl (ev_app apt_50 rfl rfl B7 (Own.rd O3) (by simp [byL_len, chunk]) (by simp [byL_len, chunk])) ?_
  rintro vw4 w4 ⟨zw4, gw4, Ow4, Aw4, qw4, rw4, sw4⟩
  have z8 := Aw4.size
  have lt9 := Ow4.lt
  refine sd_vv rfl rfl rfl (vv_assign rfl) ?_
  refine sd_done ?_
  refine sw_seq ?_
  -- region 2 ref.go:93
  refine sw_region [(0, 0), (1, 0), (2, 0), (3, 0), (4, 0), (5, 0)] rfl rfl rfl ?_
  refine sd_vv rfl rfl rfl (vv_move rfl) ?_
  refine sd_vv rfl rfl rfl (vv_move rfl) ?_
  refine sd_ev rfl rfl rfl (ev_call en_213 rfl (bytes_c _ 8 (by decide) _)) ?_
  rintro v5 w5 ⟨z5_, g5_, O5, hg5, Gw5⟩
  have z10 := Gw5.size
  have lt11 := O5.lt
  have B12 := (Own.gr Ow4 Gw5)
  refine sd_ev rfl rfl rfl (ev_app apt_50 rfl rfl B12 (Own.rd O5) (by simp [byL_len, chunk]) (by simp [byL_len, chunk])) ?_
  rintro vw6 w6 ⟨zw6, gw6, Ow6, Aw6, qw6, rw6, sw6⟩
  have z13 := Aw6.size
  have lt14 := Ow6.lt
  refine sd_ev rfl rfl rfl (ev_call en_214 rfl (rkey_c _ _ _ _ (blk tag 0#64 n) ([tag] ++ byL 0#64 7 ++ byL n 8) (blk_bytes tag n h0 h1) _ (by rw [List.map_append, List.map_append]; exact (Own.rd Ow6)))) ?_
  rintro _ w7 ⟨rfl, Gw7⟩
  have z15 := Gw7.size
  have B16 := (Bx.gr (Bx.ka (Bx.gr (Bx.ka (Bx.gr (Bx.gr Bw1 Gw2) Gw3) Aw4 (by omega)) Gw5) Aw6 (by omega)) Gw7)
  refine sd_ev rfl rfl rfl (ev_storeW (agg_23).siz rfl rfl (by rfl) (by rfl) (by rfl) B16 (by rfl)) ?_
  rintro _ w8 ⟨Bw8, Mw8⟩
  have z17 := Mw8.size
  refine sd_done ?_
  refine sw_ret ?_
  have X18 : Gr w w8 := (Gr.md (Gr.trans (Gr.ka (Gr.trans (Gr.ka (Gr.trans (Gr.trans (Gr.trans (Gr.refl w) Gw1) Gw2) Gw3) Aw4 (by omega)) Gw5) Aw6 (by omega)) Gw7) Mw8 (by omega))
  refine ⟨_, _, rfl, res_cellW rfl agg_23 rfl Bw8 (by rfl), ?_⟩
  exact ⟨rfl, X18⟩

set_option maxHeartbeats 1000000 in
theorem rderive_c (k : W2) (tag : Int) (h0 : 0 ≤ tag) (h1 : tag ≤ 255) (n : BitVec 64) (w : World) :
    Calls Tryz.prog 64 [kv k, .int .u8 tag, wv n].toArray w fun e w' => ∃ v, e = .returned v ∧ (v = kv (drv k tag n) ∧ Gr w w') := by
  refine calls_of_sw (R := fun v w' => v = kv (drv k tag n) ∧ Gr w w') 12 Tryz.func64 rfl rfl rfl ?_
  refine sw_seq ?_
  -- region 0 ref.go:97
  refine sw_region [(0, 0), (1, 0)] rfl rfl rfl ?_
  refine sd_ev rfl rfl rfl (ev_box rfl (by rfl)) ?_
  rintro _ w1 ⟨b1, rfl, hbw1, Bw1, Gw1⟩
  have z1 := Gw1.size
  have lt2 := Bw1.lt
  refine sd_ev rfl rfl rfl (ev_alloc zv_23 (by rfl)) ?_
  rintro _ w2 ⟨b2, rfl, hbw2, Bw2, Gw2⟩
  have z3 := Gw2.size
  have lt4 := Bw2.lt
  refine sd_done ?_
  refine sw_seq ?_
  -- region 1 ref.go:97 DRAWS
  refine sw_draw [b2] [(0, 3), (1, 3), (2, 3), (3, 0), (4, 0), (5, 2)] (by kernel_rfl) (by kernel_rfl) rfl (by kernel_rfl) ?_
  intro w3 Gw3 zw3
  have B5 := (Bx.gr (Bx.gr Bw1 Gw2) Gw3)
  refine dd_h3 rfl rfl rfl (Kp.refl [b2] w3) (fun w hS => vv_loadW agg_23 rfl (Bx.kp B5 hS (by simp <;> first | omega | (split <;> omega))) (by rfl)) ?_
  refine dd_h3 rfl rfl rfl (Kp.refl [b2] w3) (fun w hS => vv_move rfl) ?_
  refine dd_h3 rfl rfl rfl (Kp.refl [b2] w3) (fun w hS => vv_move rfl) ?_
  refine dd_ev rfl rfl rfl (ev_call en_148 rfl (rBlock_c _ (by omega) (by omega) _ _)) ?_
  rintro _ w4 ⟨rfl, Gw4⟩
  have z6 := Gw4.size
  refine ⟨Gw4, ?_⟩
  refine dd_ev rfl rfl rfl (ev_call en_147 rfl (rencr_c _ _ _)) ?_
  rintro _ w5 ⟨rfl, Gw5⟩
  have z7 := Gw5.size
  refine ⟨Gw5, ?_⟩
  have B8 := (Bx.gr (Bx.gr (Bx.gr Bw2 Gw3) Gw4) Gw5)
  refine dd_st (b := b2) rfl rfl rfl rfl (ev_storeW (agg_23).siz rfl rfl (by rfl) (by rfl) (by rfl) B8 (by rfl)) (by first | exact Or.inl (by simp) | exact Or.inr (by omega)) ?_
  rintro _ w6 ⟨Bw6, Mw6⟩
  have z9 := Mw6.size
  refine ⟨Mw6, ?_⟩
  refine sd_done ?_
  refine sw_ret ?_
  have X10 : Gr w w6 := (Gr.md (Gr.trans (Gr.trans (Gr.trans (Gr.trans (Gr.trans (Gr.refl w) Gw1) Gw2) Gw3) Gw4) Gw5) Mw6 (by omega))
  refine ⟨_, _, rfl, res_cellW rfl agg_23 rfl Bw6 (by rfl), ?_⟩
  exact ⟨rfl, X10⟩
end Go.Proofs.YtjdffpglgkefmaaGreat
