/- Walks by the laws of SX: CipB. Printed by sx.py. -/
import Derived.Test.YtjdffpglgkefmaaGreatSxIter
import Derived.Test.YtjdffpglgkefmaaGreatCipA
set_option linter.unusedVariables false
set_option linter.unusedSimpArgs false
namespace Go.Proofs.YtjdffpglgkefmaaGreat
open Go Go.RowKit Go.Sx
theorem en_175 : En Tryz.prog 175 := fun _ _ => by kernel_rfl
theorem cv_3_24 : CV Tryz.prog 3 24 .u64 := fun _ _ _ => by kernel_rfl
theorem en_177 : En Tryz.prog 177 := fun _ _ => by kernel_rfl
theorem en_176 : En Tryz.prog 176 := fun _ _ => by kernel_rfl
theorem en_232 : En Tryz.prog 232 := fun _ _ => by kernel_rfl
theorem en_178 : En Tryz.prog 178 := fun _ _ => by kernel_rfl

def keysL (k : W2) : List (List Value) := (List.range 32).map fun (i : Nat) => [.int .i64 (i : Int), wv (ks k i).2]
theorem keysL_len (k : W2) : (keysL k).length = 32 := by simp [keysL]
theorem keysL_get (k : W2) (i : Nat) (h : i < 32) : (keysL k)[i]? = some [.int .i64 (i : Int), wv (ks k i).2] := by simp [keysL, h]

set_option maxHeartbeats 1000000 in
theorem keys_it (k : W2) (b : Nat) (w0 : World) (hb : Bx w0 b 23 (kb k)) :
    IT Tryz.prog 232 [.pointer (some ⟨b, 0, none⟩)] (keysL k) [b] w0 := by
  intro l J Jx w fp hG hJ hJx hcap h0 hY
  have Bc0 := Bx.gr hb hG
  have lt1 := Bc0.lt
  refine calls_of_sw (R := fun v w' => Kp fp w w' ∧ ((∃ fp', (∀ c ∈ fp', c ∈ fp ∨ w.heap.size ≤ c) ∧ J (keysL k).length fp' w') ∨ (∃ j fp', (∀ c ∈ fp', c ∈ fp ∨ w.heap.size ≤ c) ∧ j ≤ (keysL k).length ∧ Jx j fp' w'))) 21 Tryz.func232 rfl rfl rfl ?_
  refine sw_seq ?_
  -- region 0 cipher.go:50
  refine sw_region [(0, 0), (1, 0), (2, 0), (3, 0)] rfl rfl rfl ?_
  refine sd_vv rfl rfl rfl (vv_loadW agg_23 rfl Bc0 (by rfl)) ?_
  refine sd_ev rfl rfl rfl (ev_call en_175 rfl (words_c _ _)) ?_
  rintro _ w1 ⟨rfl, Gw1⟩
  have z2 := Gw1.size
  refine sd_ev rfl rfl rfl (ev_alloc zv_233 (by rfl)) ?_
  rintro _ w2 ⟨b2, rfl, hbw2, Bw2, Gw2⟩
  have z3 := Gw2.size
  have lt4 := Bw2.lt
  refine sd_ev rfl rfl rfl (ev_storeW (agg_233).siz rfl rfl (by rfl) (by rfl) (by rfl) Bw2 (by rfl)) ?_
  rintro _ w3 ⟨Bw3, Mw3⟩
  have z5 := Mw3.size
  refine sd_done ?_
  refine sw_seq ?_
  -- region 1 cipher.go:51
  refine sw_region [(0, 0)] rfl rfl rfl ?_
  refine sd_vv rfl rfl rfl (vv_move rfl) ?_
  refine sd_done ?_
  refine sw_block ?_
  have hz0 : b2 ∉ fp := fun h => by have := hJ.lt h0 b2 h; omega
  have hk0 : Kp fp w w3 := ((Gr.toKp Gw1).gr Gw2).md Mw3 (.inr (by omega))
  have hj0 : J 0 fp w3 := hJ.md (hJ.gr (hJ.gr h0 Gw1) Gw2) Mw3 hz0
  have B6 := (Bx.md (Bx.gr (Bx.gr Bc0 Gw1) Gw2) Mw3 (by omega))
  refine sw_loopD (α := Nat) [4, 7, 8, 9, 10, 11, 12, 13, 14, 15, 16, 17, 18, 19, 20] (fun i => [(7, .int .i64 (i : Int))]) (fun i wr => (i ≤ 32 ∧ ∃ f, J i f wr ∧ Kp fp w wr ∧ (∀ c ∈ f, c ∈ fp ∨ w.heap.size ≤ c) ∧ b ∉ f ∧ b2 ∉ f) ∧ Bx wr b 23 (kb k) ∧ Bx wr b2 233 ([wv (ks k i).1, wv (ks k i).2]) ∧ True) (fun i => 32 - i) (0) ?_ ?_ ?_
  · repeat' first | exact trivial | refine ⟨rfl, ?_⟩
  · exact ⟨⟨by omega, fp, hj0, hk0, fun c hc => .inl hc, hcap b (by simp), hz0⟩, B6, Bw3, trivial⟩
  rintro i w4 ⟨⟨hi, f, hj, hk, hf, hbf, hpf⟩, Bw4_b, Bw4_b2, Kw4⟩
  have lt7 := Bw4_b.lt
  have lt8 := Bw4_b2.lt
  refine sw_seq ?_
  -- region 2 cipher.go:51
  refine sw_region [(0, 0)] rfl rfl rfl ?_
  refine sd_vv rfl rfl rfl (vv_lss rfl rfl) ?_
  refine sd_done ?_
  refine sw_seq ?_
  refine sw_cond rfl (fun h1 => ?_) (fun h1 => ?_)
  · -- h1 True
    replace h1 := of_decide_eq_true h1
    refine sw_skip ?_
    refine then_n ?_
    refine sw_seq ?_
    refine sw_block ?_
    refine sw_seq ?_
    -- region 3 cipher.go:51
    refine sw_region [(0, 0), (1, 0)] rfl rfl rfl ?_
    refine sd_vv rfl rfl rfl (vv_move rfl) ?_
    refine sd_vv rfl rfl rfl (vv_assign rfl) ?_
    refine sd_done ?_
    refine sw_seq ?_
    refine sw_seq ?_
    -- region 4 cipher.go:52
    refine sw_region [(0, 0), (1, 0), (2, 0), (3, 0), (4, 0), (5, 0)] rfl rfl rfl ?_
    refine sd_vv rfl rfl rfl (vv_move rfl) ?_
    refine sd_vv rfl rfl rfl (vv_move rfl) ?_
    refine sd_vv rfl rfl rfl (vv_fieldAddr fa_233_1 rfl) ?_
    refine sd_vv rfl rfl rfl (vv_load1 one_24 rfl Bw4_b2 (by rfl)) ?_
    refine sd_ev rfl rfl rfl (ev_yield rfl rfl (hY i _ f _ (keysL_get k i (by omega)) hj hk hf)) ?_
    rintro _ w5 ⟨y1, rfl, Kw5, fw5, Fw5, Jw5⟩
    have z9 := Kw5.size
    have hk5 : Kp fp w w5 := hk.trans Kw5 hf
    have hf5 := sub_grow hf Fw5 hk.size
    have hn2 : b2 ∉ fw5 := notin_grow Fw5 hpf lt8
    refine sd_vv rfl rfl rfl (vv_not rfl) ?_
    refine sd_done ?_
    refine sw_cond rfl (fun h2 => ?_) (fun h2 => ?_)
    · -- h2 True
      replace h2 := not_bt h2
      subst h2
      refine sw_ret ?_
      refine then_r ?_
      refine block_r ?_
      refine then_r ?_
      refine then_r ?_
      refine block_r ?_
      refine ⟨_, _, rfl, res_none rfl, ?_⟩
      exact ⟨hk5, .inr ⟨i + 1, fw5, hf5, by rw [keysL_len]; omega, Jw5⟩⟩
    · -- h2 False
      replace h2 := not_bf h2
      subst h2
      refine sw_skip ?_
      refine then_n ?_
      -- region 5 cipher.go:55
      refine sw_region [(0, 0), (1, 0), (2, 0), (3, 0), (4, 0)] rfl rfl rfl ?_
      have B10 := (Bx.kp Bw4_b2 Kw5 hpf)
      refine sd_vv rfl rfl rfl (vv_loadW agg_233 rfl B10 (by rfl)) ?_
      refine sd_vv rfl rfl rfl (vv_move rfl) ?_
      refine sd_vv rfl rfl rfl (vv_convIU cv_3_24 rfl (by omega) (by omega)) ?_
      refine sd_ev rfl rfl rfl (ev_call en_177 rfl (round_c _ _ _)) ?_
      rintro _ w6 ⟨rfl, Gw6⟩
      have z11 := Gw6.size
      have B12 := (Bx.gr B10 Gw6)
      refine sd_ev rfl rfl rfl (ev_storeW (agg_233).siz rfl rfl (by rfl) (by rfl) (by rfl) B12 (by rfl)) ?_
      rintro _ w7 ⟨Bw7, Mw7⟩
      have z13 := Mw7.size
      refine sd_nil ?_
      refine block_n ?_
      refine then_n ?_
      -- region 6 cipher.go:51
      refine sw_region [(0, 0), (1, 0)] rfl rfl rfl ?_
      refine sd_vv rfl rfl rfl (vv_add64 rfl rfl (by omega) (by omega)) ?_
      refine sd_vv rfl rfl rfl (vv_move rfl) ?_
      refine sd_nil ?_
      have B15 := (Bx.md (Bx.gr (Bx.kp Bw4_b Kw5 hbf) Gw6) Mw7 (by omega))
      refine ⟨rfl, i + 1, ?_, ⟨?_, ?_, ?_, trivial⟩, ?_⟩
      · repeat' first | exact trivial | refine ⟨rfl, ?_⟩
      · exact ⟨by omega, fw5, hJ.md (hJ.gr Jw5 Gw6) Mw7 hn2, (hk5.gr Gw6).md Mw7 (.inr (by omega)), hf5, notin_grow Fw5 hbf lt7, hn2⟩
      · exact B15
      · exact Bw7
      · first | omega | (dsimp only; omega)
  · -- h1 False
    replace h1 := of_decide_eq_false h1
    refine sw_exit ?_
    refine then_x ?_
    refine then_x ?_
    refine block_x ?_
    refine ⟨_, _, rfl, res_none rfl, ?_⟩
    obtain rfl : i = 32 := by omega
    exact ⟨hk, .inl ⟨f, hf, by rw [keysL_len]; exact hj⟩⟩

set_option maxHeartbeats 1000000 in
theorem keys_c (k : W2) (w : World) :
    Calls Tryz.prog 176 [kv k].toArray w fun e w' => ∃ v, e = .returned v ∧ (∃ b, v = .func (.func 232) #[] [.pointer (some ⟨b, 0, none⟩)].toArray ∧ w.heap.size ≤ b ∧ Bx w' b 23 (kb k) ∧ Gr w w') := by
  refine calls_of_sw (R := fun v w' => ∃ b, v = .func (.func 232) #[] [.pointer (some ⟨b, 0, none⟩)].toArray ∧ w.heap.size ≤ b ∧ Bx w' b 23 (kb k) ∧ Gr w w') 4 Tryz.func176 rfl rfl rfl ?_
  refine sw_seq ?_
  -- region 0 cipher.go:48
  refine sw_region [(0, 0), (1, 0)] rfl rfl rfl ?_
  refine sd_ev rfl rfl rfl (ev_box rfl (by rfl)) ?_
  rintro _ w1 ⟨b1, rfl, hbw1, Bw1, Gw1⟩
  have z1 := Gw1.size
  have lt2 := Bw1.lt
  refine sd_vv rfl rfl rfl (vv_assign rfl) ?_
  refine sd_done ?_
  refine sw_seq ?_
  -- region 1 cipher.go:49
  refine sw_region [(0, 0), (1, 0)] rfl rfl rfl ?_
  refine sd_vv rfl rfl rfl (vv_makeFunc rfl rfl) ?_
  refine sd_vv rfl rfl rfl (vv_assign rfl) ?_
  refine sd_done ?_
  refine sw_ret ?_
  have X3 : Gr w w1 := (Gr.trans (Gr.refl w) Gw1)
  refine ⟨_, _, rfl, res_tmp rfl rfl, ?_⟩
  exact ⟨b1, rfl, hbw1, Bw1, X3⟩

def encTo (k b : W2) (n : Nat) : W2 := (List.range n).foldl (fun p i => rnd p (ks k i).2) b
theorem encTo_succ (k b : W2) (n : Nat) : encTo k b (n + 1) = rnd (encTo k b n) (ks k n).2 := by simp [encTo, List.range_succ]
theorem keysL_some {k : W2} {i : Nat} {x : List Value} (h : (keysL k)[i]? = some x) : i < 32 ∧ x = [.int .i64 (i : Int), wv (ks k i).2] := by
  have hi : i < 32 := by have := (List.getElem?_eq_some_iff.1 h).1; rwa [keysL_len] at this
  rw [keysL_get k i hi] at h; exact ⟨hi, by simpa using h.symm⟩
theorem keysL_two (k : W2) : ∀ x ∈ keysL k, x.length = 2 := by intro x hx; simp [keysL] at hx; obtain ⟨i, _, rfl⟩ := hx; rfl

set_option maxHeartbeats 1000000 in
theorem encr_c (k b : W2) (w : World) :
    Calls Tryz.prog 96 [kv k, kv b].toArray w fun e w' => ∃ v, e = .returned v ∧ (v = kv (encr k b) ∧ Gr w w') := by
  refine calls_of_sw (R := fun v w' => v = kv (encr k b) ∧ Gr w w') 19 Tryz.func96 rfl rfl rfl ?_
  refine sw_seq ?_
  -- region 0 cipher.go:61
  refine sw_region [(0, 0), (1, 0), (2, 0)] rfl rfl rfl ?_
  refine sd_ev rfl rfl rfl (ev_box rfl (by rfl)) ?_
  rintro _ w1 ⟨b1, rfl, hbw1, Bw1, Gw1⟩
  have z1 := Gw1.size
  have lt2 := Bw1.lt
  refine sd_ev rfl rfl rfl (ev_box rfl (by rfl)) ?_
  rintro _ w2 ⟨b2, rfl, hbw2, Bw2, Gw2⟩
  have z3 := Gw2.size
  have lt4 := Bw2.lt
  refine sd_ev rfl rfl rfl (ev_alloc zv_23 (by rfl)) ?_
  rintro _ w3 ⟨b3, rfl, hbw3, Bw3, Gw3⟩
  have z5 := Gw3.size
  have lt6 := Bw3.lt
  refine sd_done ?_
  refine sw_seq ?_
  -- region 1 cipher.go:62
  refine sw_region [(0, 0), (1, 0), (2, 0), (3, 0)] rfl rfl rfl ?_
  have B7 := (Bx.gr Bw2 Gw3)
  refine sd_vv rfl rfl rfl (vv_loadW agg_23 rfl B7 (by rfl)) ?_
  refine sd_ev rfl rfl rfl (ev_call en_175 rfl (words_c _ _)) ?_
  rintro _ w4 ⟨rfl, Gw4⟩
  have z8 := Gw4.size
  refine sd_ev rfl rfl rfl (ev_alloc zv_233 (by rfl)) ?_
  rintro _ w5 ⟨b5, rfl, hbw5, Bw5, Gw5⟩
  have z9 := Gw5.size
  have lt10 := Bw5.lt
  refine sd_ev rfl rfl rfl (ev_storeW (agg_233).siz rfl rfl (by rfl) (by rfl) (by rfl) Bw5 (by rfl)) ?_
  rintro _ w6 ⟨Bw6, Mw6⟩
  have z11 := Mw6.size
  refine sd_done ?_
  refine sw_seq ?_
  refine sw_seq ?_
  -- region 2 cipher.go:63
  refine sw_region [(0, 0), (1, 0)] rfl rfl rfl ?_
  have B12 := (Bx.md (Bx.gr (Bx.gr (Bx.gr (Bx.gr Bw1 Gw2) Gw3) Gw4) Gw5) Mw6 (by omega))
  refine sd_vv rfl rfl rfl (vv_loadW agg_23 rfl B12 (by rfl)) ?_
  refine sd_ev rfl rfl rfl (ev_call en_176 rfl (keys_c _ _)) ?_
  rintro _ w7 ⟨b7, rfl, hb7, Bk7, Gw7⟩
  have z13 := Gw7.size
  have lt14 := Bk7.lt
  refine sd_done ?_
  refine sw_block ?_
  have X15 : Gr w w7 := (Gr.trans (Gr.md (Gr.trans (Gr.trans (Gr.trans (Gr.trans (Gr.trans (Gr.refl w) Gw1) Gw2) Gw3) Gw4) Gw5) Mw6 (by omega)) Gw7)
  have B16 := (Bx.gr Bw6 Gw7)
  refine sw_rangeFunc (gf := 232) (xs := keysL k) (cap := [b7]) rfl en_232 (keys_it k b7 _ Bk7) (keysL_two k) rfl (fun rk fp W => fp = [b5] ∧ Bx W b5 233 ([wv (encTo k b rk).1, wv (encTo k b rk).2])) (fun _ _ _ _ => False) [b5] (stb_box _ _ _) (fun _ => stb_false) (by simp <;> omega) (⟨rfl, B16⟩) ?_ ?_ ?_
  · rintro l rk x fp w8 hl hx ⟨rfl, Bw8⟩ Kw8 hF hln hlt
    have z17 := Kw8.size
    obtain ⟨hi, rfl⟩ := keysL_some hx
    -- region 3 cipher.go:63
    refine sw_region [(0, 0)] rfl rfl rfl ?_
    refine sd_vv rfl rfl rfl (vv_assign rfl) ?_
    refine sd_nil ?_
    refine ⟨rfl, (Gr.refl _), ?_⟩
    rintro w9 Mw9 ⟨_, Bw9⟩
    have z18 := Mw9.size
    refine sw_block ?_
    -- region 4 cipher.go:64
    refine sw_region [(0, 0), (1, 0), (2, 0), (3, 0)] rfl rfl rfl ?_
    refine sd_vv rfl rfl rfl (vv_loadW agg_233 rfl Bw9 (by rfl)) ?_
    refine sd_vv rfl rfl rfl (vv_move rfl) ?_
    refine sd_ev rfl rfl rfl (ev_call en_177 rfl (round_c _ _ _)) ?_
    rintro _ w10 ⟨rfl, Gw10⟩
    have z19 := Gw10.size
    have B20 := (Bx.gr Bw9 Gw10)
    refine sd_ev rfl rfl rfl (ev_storeW (agg_233).siz rfl rfl (by rfl) (by rfl) (by rfl) B20 (by rfl)) ?_
    rintro _ w11 ⟨Bw11, Mw11⟩
    have z21 := Mw11.size
    refine sd_nil ?_
    refine block_n ?_
    refine ⟨(Kp.md (Kp.gr (Kp.refl _ _) Gw10) Mw11 (by first | exact Or.inl (by simp) | exact Or.inr (by omega))), _, fun c hc => .inl hc, ?_⟩
    exact ⟨rfl, by rw [encTo_succ]; exact Bw11⟩
  · rintro Dw12 fp w12 hDw12 Dfw12 nw12 ⟨rfl, Bw12⟩ Kw12
    have z22 := Kw12.size
    have lt22 := Df.lt (w := w12) Dfw12
    rw [keysL_len] at Bw12
    refine block_n ?_
    refine then_n ?_
    refine sw_seq ?_
    -- region 5 cipher.go:66
    refine sw_region [(0, 0), (1, 0), (2, 0)] rfl rfl rfl ?_
    refine sd_vv rfl rfl rfl (vv_loadW agg_233 rfl Bw12 (by rfl)) ?_
    refine sd_ev rfl rfl rfl (ev_call en_178 rfl (block_c _ _)) ?_
    rintro _ w13 ⟨rfl, Gw13⟩
    have z23 := Gw13.size
    have B24 := (Bx.gr (Bx.kp (Bx.gr (Bx.md (Bx.gr (Bx.gr Bw3 Gw4) Gw5) Mw6 (by omega)) Gw7) Kw12 (by simp <;> first | omega | (split <;> omega))) Gw13)
    refine sd_ev rfl rfl rfl (ev_storeW (agg_23).siz rfl rfl (by rfl) (by rfl) (by rfl) B24 (by rfl)) ?_
    rintro _ w14 ⟨Bw14, Mw14⟩
    have z25 := Mw14.size
    refine sd_done ?_
    refine sw_ret ?_
    have DL26 := (Df.md (Df.gr Dfw12 Gw13) Mw14 (by omega))
    have L26 := Md.put (w := w14) Dw12 (.deferred none)
    have zL26 := L26.size
    have B27 := (Bx.md Bw14 L26 (by omega))
    have X28 : Gr w (w14.putObj Dw12 (.deferred none)) := (Gr.md (Gr.md (Gr.trans (Gr.kp X15 Kw12 (by simp <;> first | omega | (split <;> omega))) Gw13) Mw14 (by omega)) L26 (by omega))
    refine ⟨_, _, ⟨Dw12, rfl, DL26, rfl⟩, res_cellW rfl agg_23 rfl B27 (by rfl), ?_⟩
    exact ⟨rfl, X28⟩
  · rintro _ _ _ _ _ _ _ _ _ h _
    exact h.elim
end Go.Proofs.YtjdffpglgkefmaaGreat
