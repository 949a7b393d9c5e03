/- Walks by the laws of SX: CipC. Printed by sx.py. -/
import Derived.Test.YtjdffpglgkefmaaGreatSxSl
import Derived.Test.YtjdffpglgkefmaaGreatCipB
set_option linter.unusedVariables false
set_option linter.unusedSimpArgs false
namespace Go.Proofs.YtjdffpglgkefmaaGreat
open Go Go.RowKit Go.Sx
theorem en_97 : En Tryz.prog 97 := fun _ _ => by kernel_rfl
theorem en_96 : En Tryz.prog 96 := fun _ _ => by kernel_rfl
theorem zv_247 : ZV Tryz.prog 247 (.agg [.int .u64 0, .int .u64 0, .int .u64 0, .int .u64 0, .int .u64 0, .int .u64 0, .int .u64 0, .int .u64 0, .int .u64 0, .int .u64 0, .int .u64 0, .int .u64 0, .int .u64 0, .int .u64 0, .int .u64 0, .int .u64 0, .int .u64 0, .int .u64 0, .int .u64 0, .int .u64 0, .int .u64 0, .int .u64 0, .int .u64 0, .int .u64 0, .int .u64 0, .int .u64 0, .int .u64 0, .int .u64 0, .int .u64 0, .int .u64 0, .int .u64 0, .int .u64 0].toArray) := fun _ => by kernel_rfl
theorem en_186 : En Tryz.prog 186 := fun _ _ => by kernel_rfl



set_option maxHeartbeats 1000000 in
theorem blockOf_c (tag : Int) (h0 : 0 ≤ tag) (h1 : tag ≤ 255) (c n : BitVec 64) (w : World) :
    Calls Tryz.prog 97 [.int .u8 tag, wv c, wv n].toArray w fun e w' => ∃ v, e = .returned v ∧ (v = kv (blk tag c n) ∧ Gr w w') := by
  refine calls_of_sw (R := fun v w' => v = kv (blk tag c n) ∧ Gr w w') 15 Tryz.func97 rfl rfl rfl ?_
  refine sw_seq ?_
  -- region 0 cipher.go:83
  refine sw_region [(0, 0)] rfl rfl rfl ?_
  refine sd_ev rfl rfl rfl (ev_alloc zv_23 (by rfl)) ?_
  rintro _ w1 ⟨b1, rfl, hbw1, Bw1, Gw1⟩
  have z1 := Gw1.size
  have lt2 := Bw1.lt
  refine sd_done ?_
  refine sw_seq ?_
  -- region 1 cipher.go:84
  refine sw_region [(0, 0), (1, 0), (2, 0), (3, 0), (4, 0), (5, 0), (6, 0), (7, 0), (8, 0)] rfl rfl rfl ?_
  refine sd_vv rfl rfl rfl (vv_move rfl) ?_
  refine sd_vv rfl rfl rfl (vv_convIU cv_5_24 rfl (by omega) (by omega)) ?_
  refine sd_vv rfl rfl rfl (vv_ushl rfl rfl (by omega)) ?_
  refine sd_vv rfl rfl rfl (vv_move rfl) ?_
  refine sd_vv rfl rfl rfl (vv_uor rfl rfl) ?_
  refine sd_vv rfl rfl rfl (vv_move rfl) ?_
  refine sd_vv rfl rfl rfl (vv_build bs_233 rfl rfl) ?_
  refine sd_ev rfl rfl rfl (ev_call en_178 rfl (block_c (blk tag c n) _)) ?_
  rintro _ w2 ⟨rfl, Gw2⟩
  have z3 := Gw2.size
  have B4 := (Bx.gr Bw1 Gw2)
  refine sd_ev rfl rfl rfl (ev_storeW (agg_23).siz rfl rfl (by rfl) (by rfl) (by rfl) B4 (by rfl)) ?_
  rintro _ w3 ⟨Bw3, Mw3⟩
  have z5 := Mw3.size
  refine sd_done ?_
  refine sw_ret ?_
  have X6 : Gr w w3 := (Gr.md (Gr.trans (Gr.trans (Gr.refl w) Gw1) Gw2) Mw3 (by omega))
  refine ⟨_, _, rfl, res_cellW rfl agg_23 rfl Bw3 (by rfl), ?_⟩
  exact ⟨rfl, X6⟩

set_option maxHeartbeats 1000000 in
theorem derive_c (k : W2) (tag : Int) (h0 : 0 ≤ tag) (h1 : tag ≤ 255) (n : BitVec 64) (w : World) :
    Calls Tryz.prog 48 [kv k, .int .u8 tag, wv n].toArray w fun e w' => ∃ v, e = .returned v ∧ (v = kv (drv k tag n) ∧ Gr w w') := by
  refine calls_of_sw (R := fun v w' => v = kv (drv k tag n) ∧ Gr w w') 12 Tryz.func48 rfl rfl rfl ?_
  refine sw_seq ?_
  -- region 0 cipher.go:88
  refine sw_region [(0, 0), (1, 0)] rfl rfl rfl ?_
  refine sd_ev rfl rfl rfl (ev_box rfl (by rfl)) ?_
  rintro _ w1 ⟨b1, rfl, hbw1, Bw1, Gw1⟩
  have z1 := Gw1.size
  have lt2 := Bw1.lt
  refine sd_ev rfl rfl rfl (ev_alloc zv_23 (by rfl)) ?_
  rintro _ w2 ⟨b2, rfl, hbw2, Bw2, Gw2⟩
  have z3 := Gw2.size
  have lt4 := Bw2.lt
  refine sd_done ?_
  refine sw_seq ?_
  -- region 1 cipher.go:88 DRAWS
  refine sw_draw [b2] [(0, 3), (1, 3), (2, 3), (3, 0), (4, 0), (5, 2)] (by kernel_rfl) (by kernel_rfl) rfl (by kernel_rfl) ?_
  intro w3 Gw3 zw3
  have B5 := (Bx.gr (Bx.gr Bw1 Gw2) Gw3)
  refine dd_h3 rfl rfl rfl (Kp.refl [b2] w3) (fun w hS => vv_loadW agg_23 rfl (Bx.kp B5 hS (by simp <;> first | omega | (split <;> omega))) (by rfl)) ?_
  refine dd_h3 rfl rfl rfl (Kp.refl [b2] w3) (fun w hS => vv_move rfl) ?_
  refine dd_h3 rfl rfl rfl (Kp.refl [b2] w3) (fun w hS => vv_move rfl) ?_
  refine dd_ev rfl rfl rfl (ev_call en_97 rfl (blockOf_c _ (by omega) (by omega) 0#64 _ _)) ?_
  rintro _ w4 ⟨rfl, Gw4⟩
  have z6 := Gw4.size
  refine ⟨Gw4, ?_⟩
  refine dd_ev rfl rfl rfl (ev_call en_96 rfl (encr_c _ _ _)) ?_
  rintro _ w5 ⟨rfl, Gw5⟩
  have z7 := Gw5.size
  refine ⟨Gw5, ?_⟩
  have B8 := (Bx.gr (Bx.gr (Bx.gr Bw2 Gw3) Gw4) Gw5)
  refine dd_st (b := b2) rfl rfl rfl rfl (ev_storeW (agg_23).siz rfl rfl (by rfl) (by rfl) (by rfl) B8 (by rfl)) (by first | exact Or.inl (by simp) | exact Or.inr (by omega)) ?_
  rintro _ w6 ⟨Bw6, Mw6⟩
  have z9 := Mw6.size
  refine ⟨Mw6, ?_⟩
  refine sd_done ?_
  refine sw_ret ?_
  have X10 : Gr w w6 := (Gr.md (Gr.trans (Gr.trans (Gr.trans (Gr.trans (Gr.trans (Gr.refl w) Gw1) Gw2) Gw3) Gw4) Gw5) Mw6 (by omega))
  refine ⟨_, _, rfl, res_cellW rfl agg_23 rfl Bw6 (by rfl), ?_⟩
  exact ⟨rfl, X10⟩

/-- the round keys as they are laid, one after the other -/
def ksTo (k : W2) (n : Nat) : List Value := (List.range 32).map fun i => if i < n then wv (ks k i).2 else .int .u64 0
theorem ksTo_len (k : W2) (n : Nat) : (ksTo k n).length = 32 := by simp [ksTo]
theorem ksTo_0 (k : W2) : ksTo k 0 = List.replicate 32 (.int .u64 0) := by rfl
theorem ksTo_set (k : W2) (n : Nat) (h : n < 32) : (ksTo k n).set (0 + (n : Int).toNat * 1) (wv (ks k n).2) = ksTo k (n + 1) := by
  have e : 0 + (n : Int).toNat * 1 = n := by omega
  rw [e]
  apply List.ext_getElem?
  intro i
  rw [List.getElem?_set]
  unfold ksTo
  by_cases hi : i < 32
  · by_cases h2 : n = i
    · subst h2; simp [h]
    · have : (i < n + 1) = (i < n) := by apply propext; omega
      simp [h2, hi, this]
  · simp [hi]; omega
theorem ksTo_get (k : W2) (n : Nat) (h : n < 32) : (ksTo k 32)[0 + ((n : Int) + 1 - 1).toNat * 1]? = some (wv (ks k n).2) := by
  have e : 0 + ((n : Int) + 1 - 1).toNat * 1 = n := by omega
  rw [e]; simp [ksTo, h]
theorem decTo_32 (k b : W2) : decTo k b 32 = b := rfl
theorem decTo_step (k b : W2) (j : Nat) (h : j < 32) : decTo k b j = rndB (decTo k b (j + 1)) (ks k j).2 := by
  unfold decTo
  rw [show 32 - j = 32 - (j + 1) + 1 from by omega, List.range_succ, List.foldl_append, List.foldl_cons, List.foldl_nil, show 31 - (32 - (j + 1)) = j from by omega]


set_option maxHeartbeats 1000000 in
theorem decr_c (k b : W2) (w : World) :
    Calls Tryz.prog 111 [kv k, kv b].toArray w fun e w' => ∃ v, e = .returned v ∧ (v = kv (decr k b) ∧ Gr w w') := by
  refine calls_of_sw (R := fun v w' => v = kv (decr k b) ∧ Gr w w') 30 Tryz.func111 rfl rfl rfl ?_
  refine sw_seq ?_
  -- region 0 cipher.go:70
  refine sw_region [(0, 0), (1, 0), (2, 0)] rfl rfl rfl ?_
  refine sd_ev rfl rfl rfl (ev_box rfl (by rfl)) ?_
  rintro _ w1 ⟨b1, rfl, hbw1, Bw1, Gw1⟩
  have z1 := Gw1.size
  have lt2 := Bw1.lt
  refine sd_ev rfl rfl rfl (ev_box rfl (by rfl)) ?_
  rintro _ w2 ⟨b2, rfl, hbw2, Bw2, Gw2⟩
  have z3 := Gw2.size
  have lt4 := Bw2.lt
  refine sd_ev rfl rfl rfl (ev_alloc zv_23 (by rfl)) ?_
  rintro _ w3 ⟨b3, rfl, hbw3, Bw3, Gw3⟩
  have z5 := Gw3.size
  have lt6 := Bw3.lt
  refine sd_done ?_
  refine sw_seq ?_
  -- region 1 cipher.go:71
  refine sw_region [(0, 0)] rfl rfl rfl ?_
  refine sd_ev rfl rfl rfl (ev_alloc zv_247 (by rfl)) ?_
  rintro _ w4 ⟨b4, rfl, hbw4, Bw4, Gw4⟩
  have z7 := Gw4.size
  have lt8 := Bw4.lt
  refine sd_done ?_
  refine sw_seq ?_
  refine sw_seq ?_
  -- region 2 cipher.go:72
  refine sw_region [(0, 0), (1, 0)] rfl rfl rfl ?_
  have B9 := (Bx.gr (Bx.gr (Bx.gr Bw1 Gw2) Gw3) Gw4)
  refine sd_vv rfl rfl rfl (vv_loadW agg_23 rfl B9 (by rfl)) ?_
  refine sd_ev rfl rfl rfl (ev_call en_176 rfl (keys_c _ _)) ?_
  rintro _ w5 ⟨b5, rfl, hb5, Bk5, Gw5⟩
  have z10 := Gw5.size
  have lt11 := Bk5.lt
  refine sd_done ?_
  refine sw_block ?_
  have X12 : Gr w w5 := (Gr.trans (Gr.trans (Gr.trans (Gr.trans (Gr.trans (Gr.refl w) Gw1) Gw2) Gw3) Gw4) Gw5)
  have B13 := (Bx.gr Bw4 Gw5)
  refine sw_rangeFunc (gf := 232) (xs := keysL k) (cap := [b5]) rfl en_232 (keys_it k b5 _ Bk5) (keysL_two k) rfl (fun rk fp W => fp = [b4] ∧ Bx W b4 247 (ksTo k rk)) (fun _ _ _ _ => False) [b4] (stb_box _ _ _) (fun _ => stb_false) (by simp <;> omega) (⟨rfl, by rw [ksTo_0]; exact B13⟩) ?_ ?_ ?_
  · rintro l rk x fp w6 hl hx ⟨rfl, Bw6⟩ Kw6 hF hln hlt
    have z14 := Kw6.size
    obtain ⟨hi, rfl⟩ := keysL_some hx
    refine sw_seq ?_
    -- region 3 cipher.go:72
    refine sw_region [(0, 0)] rfl rfl rfl ?_
    refine sd_vv rfl rfl rfl (vv_assign rfl) ?_
    refine sd_done ?_
    -- region 4 cipher.go:72
    refine sw_region [(0, 0)] rfl rfl rfl ?_
    refine sd_vv rfl rfl rfl (vv_assign rfl) ?_
    refine sd_nil ?_
    refine ⟨rfl, (Gr.refl _), ?_⟩
    rintro w7 Mw7 ⟨_, Bw7⟩
    have z15 := Mw7.size
    refine sw_block ?_
    -- region 5 cipher.go:73
    refine sw_region [(0, 0), (1, 0), (2, 0), (3, 0)] rfl rfl rfl ?_
    refine sd_vv rfl rfl rfl (vv_move rfl) ?_
    refine sd_vv rfl rfl rfl (vv_move rfl) ?_
    refine sd_vv rfl rfl rfl (vv_indexAddr Tryz.underlying247 (one_24).siz rfl rfl (by omega) (by omega)) ?_
    refine sd_ev rfl rfl rfl (ev_store1 (one_24).siz rfl rfl rfl Bw7 (by rw [ksTo_len]; omega)) ?_
    rintro _ w8 ⟨Bw8, Mw8⟩
    have z16 := Mw8.size
    refine sd_nil ?_
    refine block_n ?_
    refine ⟨(Kp.md (Kp.refl _ _) Mw8 (by first | exact Or.inl (by simp) | exact Or.inr (by omega))), _, fun c hc => .inl hc, ?_⟩
    exact ⟨rfl, by rw [← ksTo_set k rk hi]; exact Bw8⟩
  · rintro Dw9 fp w9 hDw9 Dfw9 nw9 ⟨rfl, Bw9⟩ Kw9
    have z17 := Kw9.size
    have lt17 := Df.lt (w := w9) Dfw9
    rw [keysL_len] at Bw9
    refine block_n ?_
    refine then_n ?_
    refine sw_seq ?_
    -- region 6 cipher.go:75
    refine sw_region [(0, 0), (1, 0), (2, 0), (3, 0)] rfl rfl rfl ?_
    have B18 := (Bx.kp (Bx.gr (Bx.gr (Bx.gr Bw2 Gw3) Gw4) Gw5) Kw9 (by simp <;> first | omega | (split <;> omega)))
    refine sd_vv rfl rfl rfl (vv_loadW agg_23 rfl B18 (by rfl)) ?_
    refine sd_ev rfl rfl rfl (ev_call en_175 rfl (words_c _ _)) ?_
    rintro _ w10 ⟨rfl, Gw10⟩
    have z19 := Gw10.size
    refine sd_ev rfl rfl rfl (ev_alloc zv_233 (by rfl)) ?_
    rintro _ w11 ⟨b11, rfl, hbw11, Bw11, Gw11⟩
    have z20 := Gw11.size
    have lt21 := Bw11.lt
    refine sd_ev rfl rfl rfl (ev_storeW (agg_233).siz rfl rfl (by rfl) (by rfl) (by rfl) Bw11 (by rfl)) ?_
    rintro _ w12 ⟨Bw12, Mw12⟩
    have z22 := Mw12.size
    refine sd_done ?_
    refine sw_seq ?_
    refine sw_seq ?_
    -- region 7 cipher.go:76
    refine sw_region [(0, 0)] rfl rfl rfl ?_
    refine sd_vv rfl rfl rfl (vv_assign rfl) ?_
    refine sd_done ?_
    refine sw_block ?_
    have X23 : Gr w w12 := (Gr.md (Gr.trans (Gr.trans (Gr.kp X12 Kw9 (by simp <;> first | omega | (split <;> omega))) Gw10) Gw11) Mw12 (by omega))
    refine sw_loopD (α := Nat) [9, 19, 20, 21, 22, 23, 24, 25, 26, 27] (fun j => [(9, .int .i64 ((j : Int) - 1))]) (fun j wr => (j ≤ 32) ∧ Bx wr b11 233 ([wv (decTo k b j).1, wv (decTo k b j).2]) ∧ Kp [b11] w12 wr) (fun j => j) (32) ?_ ?_ ?_
    · repeat' first | exact trivial | refine ⟨rfl, ?_⟩
    · exact ⟨Nat.le_refl _, Bw12, Kp.refl _ _⟩
    rintro j w13 ⟨hj, Bw13_b11, Kw13⟩
    have z24 := Kw13.size
    refine sw_seq ?_
    refine sw_seq ?_
    -- region 8 cipher.go:76
    refine sw_region [(0, 0), (1, 0)] rfl rfl rfl ?_
    refine sd_vv rfl rfl rfl (vv_move rfl) ?_
    refine sd_vv rfl rfl rfl (vv_geq rfl rfl) ?_
    refine sd_done ?_
    refine sw_cond rfl (fun h1 => ?_) (fun h1 => ?_)
    · -- h1 True
      replace h1 := of_decide_eq_true h1
      obtain ⟨j, rfl⟩ : ∃ i, j = i + 1 := ⟨j - 1, by omega⟩
      refine sw_skip ?_
      refine then_n ?_
      refine sw_seq ?_
      refine sw_block ?_
      -- region 10 cipher.go:77 DRAWS
      refine sw_draw [b11] [(0, 1), (1, 3), (2, 3), (3, 3), (4, 0), (5, 2)] (by kernel_rfl) (by kernel_rfl) rfl (by kernel_rfl) ?_
      intro w14 Gw14 zw14
      have B25 := (Bx.gr Bw13_b11 Gw14)
      refine dd_h1 rfl rfl rfl (Gr.refl w14) (fun w hS => vv_loadW agg_233 rfl (Bx.gr B25 hS) (by rfl)) ?_
      refine dd_h3 rfl rfl rfl (Kp.refl [b11] w14) (fun w hS => vv_move rfl) ?_
      refine dd_h3 rfl rfl rfl (Kp.refl [b11] w14) (fun w hS => vv_indexAddr Tryz.underlying247 (one_24).siz rfl rfl (by omega) (by omega)) ?_
      have B26 := (Bx.gr (Bx.kp (Bx.md (Bx.gr (Bx.gr Bw9 Gw10) Gw11) Mw12 (by omega)) Kw13 (by simp <;> first | omega | (split <;> omega))) Gw14)
      refine dd_h3 rfl rfl rfl (Kp.refl [b11] w14) (fun w hS => vv_load1 one_24 rfl (Bx.kp B26 hS (by simp <;> first | omega | (split <;> omega))) (by exact ksTo_get k j (by omega))) ?_
      refine dd_ev rfl rfl rfl (ev_call en_186 rfl (back_c _ _ _)) ?_
      rintro _ w15 ⟨rfl, Gw15⟩
      have z27 := Gw15.size
      refine ⟨Gw15, ?_⟩
      have B28 := (Bx.gr B25 Gw15)
      refine dd_st (b := b11) rfl rfl rfl rfl (ev_storeW (agg_233).siz rfl rfl (by rfl) (by rfl) (by rfl) B28 (by rfl)) (by first | exact Or.inl (by simp) | exact Or.inr (by omega)) ?_
      rintro _ w16 ⟨Bw16, Mw16⟩
      have z29 := Mw16.size
      refine ⟨Mw16, ?_⟩
      refine sd_nil ?_
      refine block_n ?_
      refine then_n ?_
      -- region 9 cipher.go:76
      refine sw_region [(0, 0), (1, 0), (2, 0)] rfl rfl rfl ?_
      refine sd_vv rfl rfl rfl (vv_move rfl) ?_
      refine sd_vv rfl rfl rfl (vv_sub64 rfl rfl (by omega) (by omega)) ?_
      refine sd_vv rfl rfl rfl (vv_assign rfl) ?_
      refine sd_nil ?_
      have K_30 := (Kp.md (Kp.gr (Kp.gr Kw13 Gw14) Gw15) Mw16 (by simp <;> first | omega | (split <;> omega)))
      refine ⟨rfl, j, ?_, ⟨?_, ?_, K_30⟩, ?_⟩
      · repeat' first | exact trivial | refine ⟨by first | rfl | exact congrArg (fun x => some (Value.int .i64 x)) (by omega), ?_⟩
      · omega
      · rw [decTo_step k b j (by omega)]; exact Bw16
      · first | omega | (dsimp only; omega)
    · -- h1 False
      replace h1 := of_decide_eq_false h1
      obtain rfl : j = 0 := by omega
      refine sw_exit ?_
      refine then_x ?_
      refine then_x ?_
      refine block_x ?_
      refine then_n ?_
      refine sw_seq ?_
      -- region 11 cipher.go:79
      refine sw_region [(0, 0), (1, 0), (2, 0)] rfl rfl rfl ?_
      refine sd_vv rfl rfl rfl (vv_loadW agg_233 rfl Bw13_b11 (by rfl)) ?_
      refine sd_ev rfl rfl rfl (ev_call en_178 rfl (block_c _ _)) ?_
      rintro _ w17 ⟨rfl, Gw17⟩
      have z31 := Gw17.size
      have B32 := (Bx.gr (Bx.kp (Bx.md (Bx.gr (Bx.gr (Bx.kp (Bx.gr (Bx.gr Bw3 Gw4) Gw5) Kw9 (by simp <;> first | omega | (split <;> omega))) Gw10) Gw11) Mw12 (by omega)) Kw13 (by simp <;> first | omega | (split <;> omega))) Gw17)
      refine sd_ev rfl rfl rfl (ev_storeW (agg_23).siz rfl rfl (by rfl) (by rfl) (by rfl) B32 (by rfl)) ?_
      rintro _ w18 ⟨Bw18, Mw18⟩
      have z33 := Mw18.size
      refine sd_done ?_
      refine sw_ret ?_
      have DL34 := (Df.md (Df.gr (Df.kp (Df.md (Df.gr (Df.gr Dfw9 Gw10) Gw11) Mw12 (by omega)) Kw13 (by simp <;> first | omega | (split <;> omega))) Gw17) Mw18 (by omega))
      have L34 := Md.put (w := w18) Dw9 (.deferred none)
      have zL34 := L34.size
      have B35 := (Bx.md Bw18 L34 (by omega))
      have X36 : Gr w (w18.putObj Dw9 (.deferred none)) := (Gr.md (Gr.md (Gr.trans (Gr.kp X23 Kw13 (by simp <;> first | omega | (split <;> omega))) Gw17) Mw18 (by omega)) L34 (by omega))
      refine ⟨_, _, ⟨Dw9, rfl, DL34, rfl⟩, res_cellW rfl agg_23 rfl B35 (by rfl), ?_⟩
      exact ⟨rfl, X36⟩
  · rintro _ _ _ _ _ _ _ _ _ h _
    exact h.elim
end Go.Proofs.YtjdffpglgkefmaaGreat
