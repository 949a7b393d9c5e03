/- Walks by the laws of SX: TreeB. Printed by sx.py. -/
import Derived.Test.YtecempahccgijaaSxIter
import Derived.Test.YtecempahccgijaaTreeA
namespace Go.Proofs.Ytecempahccgijaa
open Go Go.RowKit Go.Sx
theorem one_139 : One Try.prog 139 := fun _ => ⟨by kernel_rfl, by kernel_rfl⟩
theorem en_77 : En Try.prog 77 := fun _ _ => by kernel_rfl
theorem zv_139 : ZV Try.prog 139 (.int .i64 0) := fun _ => by kernel_rfl
theorem en_155 : En Try.prog 155 := fun _ _ => by kernel_rfl
theorem one_176 : One Try.prog 176 := fun _ => ⟨by kernel_rfl, by kernel_rfl⟩
theorem en_114 : En Try.prog 114 := fun _ _ => by kernel_rfl
theorem en_128 : En Try.prog 128 := fun _ _ => by kernel_rfl
theorem en_127 : En Try.prog 127 := fun _ _ => by kernel_rfl
theorem en_125 : En Try.prog 125 := fun _ _ => by kernel_rfl
theorem fa_134_0 : FA Try.prog 134 0 0 := fun _ _ _ => by kernel_rfl
theorem en_80 : En Try.prog 80 := fun _ _ => by kernel_rfl
theorem agg_47 : Agg Try.prog 47 2 := fun _ => ⟨by kernel_rfl, by kernel_rfl⟩
theorem en_124 : En Try.prog 124 := fun _ _ => by kernel_rfl
theorem zv_3 : ZV Try.prog 3 (.int .i64 0) := fun _ => by kernel_rfl
theorem bsl_61_1 : BSl Try.prog 61 1 3 1 [.int .i64 0] := bsl_mk Try.underlying61 (one_3).siz zv_3 rfl rfl (by kernel_rfl)
theorem apt_61 : ApT Try.prog 61 3 1 8 := apt_mk Try.underlying61 rfl (by kernel_rfl)
theorem en_84 : En Try.prog 84 := fun _ _ => by kernel_rfl
theorem zv_47 : ZV Try.prog 47 (.agg [.int .i64 0, .int .i64 0].toArray) := fun _ => by kernel_rfl
theorem en_79 : En Try.prog 79 := fun _ _ => by kernel_rfl

theorem lvl_div (t k : Nat) (h : 2 ^ k ≤ t) : lvl ((t / 2 ^ k : Nat) : Int) = lvl (t : Int) - k := by
  have := lg_shift (t : Int) k (2 ^ k) rfl (by omega)
  have e : ((t : Int) / ((2 ^ k : Nat) : Int)) = ((t / 2 ^ k : Nat) : Int) := by norm_cast
  rw [e] at this
  unfold lvl; omega
theorem div_pos2 {t k : Nat} (h : 2 ^ k ≤ t) : 1 ≤ t / 2 ^ k := Nat.div_pos h (Nat.two_pow_pos k)
theorem pow_le62 {t k : Nat} (h : 2 ^ k ≤ t) (ht : t ≤ 4611686018427387904) : k ≤ 62 := by
  have h1 : 2 ^ k ≤ 2 ^ 62 := Nat.le_trans h (by simpa using ht)
  exact (Nat.pow_le_pow_iff_right (by omega)).1 h1
theorem toward_e {t k : Nat} (h : 2 ^ (k + 1) ≤ t) (ht : t ≤ 4611686018427387904) : (t : Int) / 2 ^ min (lvl (t : Int) - lvl ((t / 2 ^ (k + 1) : Nat) : Int) - 1).toNat IntKind.i64.bits = ((t / 2 ^ k : Nat) : Int) := by
  rw [lvl_div t (k + 1) h]
  have hk := pow_le62 h ht
  have e : (lvl (t : Int) - (lvl (t : Int) - ((k + 1 : Nat) : Int)) - 1).toNat = k := by omega
  rw [e, show min k IntKind.i64.bits = k from Nat.min_eq_left (by show k ≤ 64; omega)]
  norm_cast

set_option maxHeartbeats 1000000 in
theorem toward_c (t k : Nat) (hk : 2 ^ (k + 1) ≤ t) (ht : t ≤ 4611686018427387904) (w : World) :
    Calls Try.prog 77 [.int .i64 ((t / 2 ^ (k + 1) : Nat) : Int), .int .i64 (t : Int)].toArray w fun e w' => ∃ v, e = .returned v ∧ (v = .int .i64 ((t / 2 ^ k : Nat) : Int) ∧ Gr w w') := by
  have hp := div_pos2 hk
  have hle : t / 2 ^ (k + 1) ≤ t := Nat.div_le_self _ _
  have hl := lvl_div t (k + 1) hk
  have hl0 := lvl_nn (show 1 ≤ (t : Int) by omega)
  have hl1 := lvl_le (show 1 ≤ (t : Int) by omega) (by omega)
  have hl2 := lvl_nn (show 1 ≤ ((t / 2 ^ (k + 1) : Nat) : Int) by omega)
  refine calls_of_sw (R := fun v w' => v = .int .i64 ((t / 2 ^ k : Nat) : Int) ∧ Gr w w') 13 Try.func77 rfl rfl rfl ?_
  refine sw_seq ?_
  -- region 0 tree.go:28
  refine sw_region [(0, 0)] rfl rfl rfl ?_
  refine sd_vv rfl rfl rfl (vv_assign rfl) ?_
  refine sd_done ?_
  refine sw_seq ?_
  -- region 1 tree.go:28
  refine sw_region [(0, 0), (1, 0), (2, 0), (3, 0), (4, 0), (5, 0), (6, 0), (7, 0), (8, 0)] rfl rfl rfl ?_
  refine sd_vv rfl rfl rfl (vv_move rfl) ?_
  refine sd_vv rfl rfl rfl (vv_move rfl) ?_
  refine sd_ev rfl rfl rfl (ev_call en_105 rfl (level_c _ (by omega) (by omega) _)) ?_
  rintro _ w1 ⟨rfl, Gw1⟩
  have z1 := Gw1.size
  refine sd_vv rfl rfl rfl (vv_move rfl) ?_
  refine sd_ev rfl rfl rfl (ev_call en_105 rfl (level_c _ (by omega) (by omega) _)) ?_
  rintro _ w2 ⟨rfl, Gw2⟩
  have z2 := Gw2.size
  refine sd_vv rfl rfl rfl (vv_sub64 rfl rfl (by omega) (by omega)) ?_
  refine sd_vv rfl rfl rfl (vv_sub64 rfl rfl (by omega) (by omega)) ?_
  refine sd_vv rfl rfl rfl (vv_eq (vv_shr rfl rfl (by omega)) (congrArg (Value.int .i64) (toward_e hk ht))) ?_
  refine sd_vv rfl rfl rfl (vv_assign rfl) ?_
  refine sd_done ?_
  refine sw_ret ?_
  have X3 : Gr w w2 := (Gr.trans (Gr.trans (Gr.refl w) Gw1) Gw2)
  refine ⟨_, _, rfl, res_tmp rfl rfl, ?_⟩
  exact ⟨rfl, X3⟩

/-- the nodes from strictly below t / 2 ^ k down to t -/
def pathN (t k : Nat) : List Nat := (List.range k).map fun i => t / 2 ^ (k - 1 - i)
abbrev nc (n : Nat) : List Value := [.int .i64 (n : Int)]
theorem pathN_len (t k : Nat) : (pathN t k).length = k := by simp [pathN]
theorem pathN_get {t k j : Nat} (h : j + 1 ≤ k) : (pathN t k)[k - (j + 1)]? = some (t / 2 ^ j) := by
  unfold pathN
  have : k - 1 - (k - (j + 1)) = j := by omega
  simp [List.getElem?_map, List.getElem?_range (show k - (j + 1) < k by omega), this]
theorem div_ne {t j : Nat} (ht : 1 ≤ t) (h : ((t / 2 ^ j : Nat) : Int) ≠ (t : Int)) : ∃ i, j = i + 1 := by
  cases j with
  | zero => simp at h
  | succ i => exact ⟨i, rfl⟩
theorem div_eq0 {t j : Nat} (ht : 1 ≤ t) (h : ¬ ((t / 2 ^ j : Nat) : Int) ≠ (t : Int)) : j = 0 := by
  cases j with
  | zero => rfl
  | succ i =>
    have h1 : t / 2 ^ (i + 1) < t := Nat.div_lt_self (by omega) (by have := Nat.two_pow_pos i; rw [Nat.pow_succ]; omega)
    omega

set_option maxHeartbeats 1000000 in
theorem path_it (t k b c : Nat) (hk2 : 2 ^ k ≤ t) (ht : t ≤ 4611686018427387904) (w0 : World) (hb : Bx w0 b 139 [.int .i64 ((t / 2 ^ k : Nat) : Int)]) (hc : Bx w0 c 139 [.int .i64 (t : Int)]) :
    IT Try.prog 155 [.pointer (some ⟨b, 0, none⟩), .pointer (some ⟨c, 0, none⟩)] ((pathN t k).map nc) [b, c] w0 := by
  intro l J Jx w fp hG hJ hJx hcap h0 hY
  have Bc0 := Bx.gr hb hG
  have lt1 := Bc0.lt
  have Bc1 := Bx.gr hc hG
  have lt2 := Bc1.lt
  have hp0 := Nat.two_pow_pos k
  refine calls_of_sw (R := fun v w' => Kp fp w w' ∧ ((∃ fp', (∀ c ∈ fp', c ∈ fp ∨ w.heap.size ≤ c) ∧ J ((pathN t k).map nc).length fp' w') ∨ (∃ j fp', (∀ c ∈ fp', c ∈ fp ∨ w.heap.size ≤ c) ∧ j ≤ ((pathN t k).map nc).length ∧ Jx j fp' w'))) 16 Try.func155 rfl rfl rfl ?_
  refine sw_seq ?_
  -- region 0 tree.go:33
  refine sw_region [(0, 0), (1, 0)] rfl rfl rfl ?_
  refine sd_vv rfl rfl rfl (vv_load1 one_139 rfl Bc0 (by rfl)) ?_
  refine sd_vv rfl rfl rfl (vv_assign rfl) ?_
  refine sd_done ?_
  refine sw_block ?_
  refine sw_loopD (α := Nat) [4, 6, 7, 8, 9, 10, 11, 12, 13, 14, 15] (fun j => [(4, .int .i64 ((t / 2 ^ j : Nat) : Int))]) (fun j wr => (j ≤ k ∧ ∃ f, J (k - j) f wr ∧ Kp fp w wr ∧ (∀ c ∈ f, c ∈ fp ∨ w.heap.size ≤ c) ∧ b ∉ f ∧ c ∉ f) ∧ Bx wr b 139 ([.int .i64 ((t / 2 ^ k : Nat) : Int)]) ∧ Bx wr c 139 ([.int .i64 (t : Int)]) ∧ True) (fun j => j) (k) ?_ ?_ ?_
  · repeat' first | exact trivial | refine ⟨rfl, ?_⟩
  · exact ⟨⟨Nat.le_refl _, fp, by rw [Nat.sub_self]; exact h0, Kp.refl _ _, fun c hc => .inl hc, hcap b (by simp), hcap c (by simp)⟩, Bc0, Bc1, trivial⟩
  rintro j w1 ⟨⟨hj, f, hJf, hk, hf, hbf, hcf⟩, Bw1_b, Bw1_c, Kw1⟩
  have lt3 := Bw1_b.lt
  have lt4 := Bw1_c.lt
  refine sw_seq ?_
  refine sw_seq ?_
  -- region 1 tree.go:33
  refine sw_region [(0, 0), (1, 0), (2, 0)] rfl rfl rfl ?_
  refine sd_vv rfl rfl rfl (vv_move rfl) ?_
  refine sd_vv rfl rfl rfl (vv_load1 one_139 rfl Bw1_c (by rfl)) ?_
  refine sd_vv rfl rfl rfl (vv_neq rfl rfl) ?_
  refine sd_done ?_
  refine sw_cond rfl (fun h1 => ?_) (fun h1 => ?_)
  · -- h1 True
    replace h1 := of_decide_eq_true h1
    obtain ⟨j, rfl⟩ := div_ne (by omega) h1
    have hj2 : 2 ^ (j + 1) ≤ t := Nat.le_trans (Nat.pow_le_pow_right (by omega) hj) hk2
    refine sw_skip ?_
    refine then_n ?_
    refine sw_block ?_
    refine sw_seq ?_
    -- region 2 tree.go:34
    refine sw_region [(0, 0), (1, 0), (2, 0), (3, 0)] rfl rfl rfl ?_
    refine sd_vv rfl rfl rfl (vv_move rfl) ?_
    refine sd_vv rfl rfl rfl (vv_load1 one_139 rfl Bw1_c (by rfl)) ?_
    refine sd_ev rfl rfl rfl (ev_call en_77 rfl (toward_c t j hj2 ht _)) ?_
    rintro _ w2 ⟨rfl, Gw2⟩
    have z5 := Gw2.size
    refine sd_vv rfl rfl rfl (vv_assign rfl) ?_
    refine sd_done ?_
    refine sw_seq ?_
    -- region 3 tree.go:35
    refine sw_region [(0, 0), (1, 0), (2, 0), (3, 0)] rfl rfl rfl ?_
    refine sd_vv rfl rfl rfl (vv_move rfl) ?_
    refine sd_vv rfl rfl rfl (vv_move rfl) ?_
    refine sd_ev rfl rfl rfl (ev_yield rfl rfl (hY (k - (j + 1)) _ f _ (getm (pathN_get hj)) (hJ.gr hJf Gw2) (hk.gr Gw2) hf)) ?_
    rintro _ w3 ⟨y1, rfl, Kw3, fw3, Fw3, Jw3⟩
    have z6 := Kw3.size
    have hk3 : Kp fp w w3 := (hk.gr Gw2).trans Kw3 hf
    have hf3 := sub_grow hf Fw3 (hk.gr Gw2).size
    refine sd_vv rfl rfl rfl (vv_not rfl) ?_
    refine sd_done ?_
    refine sw_cond rfl (fun h2 => ?_) (fun h2 => ?_)
    · -- h2 True
      replace h2 := not_bt h2
      subst h2
      refine sw_ret ?_
      refine block_r ?_
      refine then_r ?_
      refine block_r ?_
      refine ⟨_, _, rfl, res_none rfl, ?_⟩
      exact ⟨hk3, .inr ⟨k - (j + 1) + 1, fw3, hf3, by rw [List.length_map, pathN_len]; omega, Jw3⟩⟩
    · -- h2 False
      replace h2 := not_bf h2
      subst h2
      refine sw_skip ?_
      refine block_n ?_
      have B8 := (Bx.kp (Bx.gr Bw1_b Gw2) Kw3 hbf)
      have B9 := (Bx.kp (Bx.gr Bw1_c Gw2) Kw3 hcf)
      refine ⟨rfl, j, ?_, ⟨?_, ?_, ?_, trivial⟩, ?_⟩
      · repeat' first | exact trivial | refine ⟨rfl, ?_⟩
      · exact ⟨by omega, fw3, by rw [show k - j = k - (j + 1) + 1 from by omega]; exact Jw3, hk3, hf3, notin_grow Fw3 hbf (by omega), notin_grow Fw3 hcf (by omega)⟩
      · exact B8
      · exact B9
      · first | omega | (dsimp only; omega)
  · -- h1 False
    replace h1 := of_decide_eq_false h1
    obtain rfl := div_eq0 (by omega) h1
    refine sw_exit ?_
    refine then_x ?_
    refine then_x ?_
    refine block_x ?_
    refine ⟨_, _, rfl, res_none rfl, ?_⟩
    exact ⟨hk, .inl ⟨f, hf, by rw [List.length_map, pathN_len]; exact hJf⟩⟩

set_option maxHeartbeats 1000000 in
theorem path_c (a b : Int) (w : World) :
    Calls Try.prog 128 [.int .i64 a, .int .i64 b].toArray w fun e w' => ∃ v, e = .returned v ∧ (∃ b1 b2, v = .func (.func 155) #[] [.pointer (some ⟨b1, 0, none⟩), .pointer (some ⟨b2, 0, none⟩)].toArray ∧ w.heap.size ≤ b1 ∧ w.heap.size ≤ b2 ∧ Bx w' b1 139 [.int .i64 a] ∧ Bx w' b2 139 [.int .i64 b] ∧ Gr w w') := by
  refine calls_of_sw (R := fun v w' => ∃ b1 b2, v = .func (.func 155) #[] [.pointer (some ⟨b1, 0, none⟩), .pointer (some ⟨b2, 0, none⟩)].toArray ∧ w.heap.size ≤ b1 ∧ w.heap.size ≤ b2 ∧ Bx w' b1 139 [.int .i64 a] ∧ Bx w' b2 139 [.int .i64 b] ∧ Gr w w') 6 Try.func128 rfl rfl rfl ?_
  refine sw_seq ?_
  -- region 0 tree.go:31
  refine sw_region [(0, 0), (1, 0), (2, 0)] rfl rfl rfl ?_
  refine sd_ev rfl rfl rfl (ev_box rfl (by rfl)) ?_
  rintro _ w1 ⟨b1, rfl, hbw1, Bw1, Gw1⟩
  have z1 := Gw1.size
  have lt2 := Bw1.lt
  refine sd_ev rfl rfl rfl (ev_box rfl (by rfl)) ?_
  rintro _ w2 ⟨b2, rfl, hbw2, Bw2, Gw2⟩
  have z3 := Gw2.size
  have lt4 := Bw2.lt
  refine sd_vv rfl rfl rfl (vv_assign rfl) ?_
  refine sd_done ?_
  refine sw_seq ?_
  -- region 1 tree.go:32
  refine sw_region [(0, 0), (1, 0)] rfl rfl rfl ?_
  refine sd_vv rfl rfl rfl (vv_makeFunc rfl rfl) ?_
  refine sd_vv rfl rfl rfl (vv_assign rfl) ?_
  refine sd_done ?_
  refine sw_ret ?_
  have X5 : Gr w w2 := (Gr.trans (Gr.trans (Gr.refl w) Gw1) Gw2)
  refine ⟨_, _, rfl, res_tmp rfl rfl, ?_⟩
  have B6 := (Bx.gr Bw1 Gw2)
  exact ⟨b1, b2, rfl, hbw1, by omega, B6, Bw2, X5⟩

def spc (st : Int) (n : Nat) : Bool := decide (lvl (n : Int) % st = 0)
/-- the first special node of a path, or 0 -/
def fstN (st : Int) (t k : Nat) : Nat := ((pathN t k).find? (spc st)).getD 0
theorem pathN_bd {t k i n : Nat} (hk : 2 ^ k ≤ t) (h : (pathN t k)[i]? = some n) : 1 ≤ n ∧ n ≤ t := by
  unfold pathN at h
  rw [List.getElem?_map, Option.map_eq_some_iff] at h
  obtain ⟨j, hj, rfl⟩ := h
  have hjk : k - 1 - j ≤ k := by omega
  exact ⟨div_pos2 (Nat.le_trans (Nat.pow_le_pow_right (by omega) hjk) hk), Nat.div_le_self _ _⟩
theorem spc_t {st : Int} {n : Nat} (h : lvl (n : Int) % st = 0) : spc st n = true := decide_eq_true h
theorem spc_f {st : Int} {n : Nat} (h : ¬ lvl (n : Int) % st = 0) : spc st n = false := decide_eq_false h

set_option maxHeartbeats 1000000 in
theorem first_c (t k b c : Nat) (hk2 : 2 ^ k ≤ t) (ht : t ≤ 4611686018427387904) (kk d st : Int) (hs1 : 1 ≤ st) (w : World) (hb : Bx w b 139 [.int .i64 ((t / 2 ^ k : Nat) : Int)]) (hc : Bx w c 139 [.int .i64 (t : Int)]) :
    Calls Try.prog 127 [.func (.func 155) #[] [.pointer (some ⟨b, 0, none⟩), .pointer (some ⟨c, 0, none⟩)].toArray, .func (.func 114) [tv kk d st].toArray [].toArray].toArray w fun e w' => ∃ v, e = .returned v ∧ (v = .int .i64 (fstN st t k : Int) ∧ Gr w w') := by
  have lt1 := hb.lt
  have lt2 := hc.lt
  refine calls_of_sw (R := fun v w' => v = .int .i64 (fstN st t k : Int) ∧ Gr w w') 12 Try.func127 rfl rfl rfl ?_
  refine sw_seq ?_
  -- region 0 tree.go:87
  refine sw_region [(0, 0), (1, 0)] rfl rfl rfl ?_
  refine sd_ev rfl rfl rfl (ev_box rfl (by rfl)) ?_
  rintro _ w1 ⟨b1, rfl, hbw1, Bw1, Gw1⟩
  have z3 := Gw1.size
  have lt4 := Bw1.lt
  refine sd_ev rfl rfl rfl (ev_alloc zv_139 (by rfl)) ?_
  rintro _ w2 ⟨b2, rfl, hbw2, Bw2, Gw2⟩
  have z5 := Gw2.size
  have lt6 := Bw2.lt
  refine sd_done ?_
  refine sw_seq ?_
  refine sw_seq ?_
  -- region 1 tree.go:88
  refine sw_region [(0, 0)] rfl rfl rfl ?_
  refine sd_vv rfl rfl rfl (vv_move rfl) ?_
  refine sd_done ?_
  refine sw_block ?_
  have X7 : Gr w w2 := (Gr.trans (Gr.trans (Gr.refl w) Gw1) Gw2)
  have B8 := (Bx.gr (Bx.gr hb Gw1) Gw2)
  have B9 := (Bx.gr (Bx.gr hc Gw1) Gw2)
  refine sw_rangeFunc (gf := 155) (xs := (pathN t k).map nc) (cap := [b, c]) rfl en_155 (path_it t k b c hk2 ht _ B8 B9) (by simp) rfl (fun rk fp W => fp = [b2] ∧ Bx W b2 139 [.int .i64 0] ∧ ∀ n ∈ (pathN t k).take rk, spc st n = false) (fun c rk fp W => c = .ret ∧ fp = [b2] ∧ ∃ n : Nat, Bx W b2 139 [.int .i64 (n : Int)] ∧ (pathN t k).find? (spc st) = some n) [b2] (stb_boxP _ _ _ _) (fun c => stb_retP c .ret _ _ _ _) (by simp <;> omega) (⟨rfl, Bw2, by simp⟩) ?_ ?_ ?_
  · rintro l rk x fp w3 hl hx ⟨rfl, Bw3, hno⟩ Kw3 hF hln hlt
    have z10 := Kw3.size
    obtain ⟨n, hn, rfl⟩ := map_some hx
    have hn1 := pathN_bd hk2 hn
    -- region 2 tree.go:88
    refine sw_region [(0, 0)] rfl rfl rfl ?_
    refine sd_vv rfl rfl rfl (vv_assign rfl) ?_
    refine sd_nil ?_
    refine ⟨rfl, (Gr.refl _), ?_⟩
    rintro w4 Mw4 ⟨_, Bw4, _⟩
    have z11 := Mw4.size
    refine sw_block ?_
    refine sw_seq ?_
    -- region 3 tree.go:89
    refine sw_region [(0, 0), (1, 0), (2, 0)] rfl rfl rfl ?_
    have B12 := (Bx.md (Bx.kp (Bx.gr Bw1 Gw2) Kw3 (by simp <;> omega)) Mw4 (by omega))
    refine sd_vv rfl rfl rfl (vv_load1 one_176 rfl B12 (by rfl)) ?_
    refine sd_vv rfl rfl rfl (vv_move rfl) ?_
    refine sd_ev rfl rfl rfl (ev_callV en_114 rfl rfl (special_c _ _ _ (by omega) _ (by omega) (by omega) _)) ?_
    rintro _ w5 ⟨rfl, Gw5⟩
    have z13 := Gw5.size
    refine sd_done ?_
    refine sw_cond rfl (fun h1 => ?_) (fun h1 => ?_)
    · -- h1 True
      replace h1 := of_decide_eq_true h1
      refine sw_seq ?_
      -- region 4 tree.go:90
      refine sw_region [(0, 0), (1, 0)] rfl rfl rfl ?_
      refine sd_vv rfl rfl rfl (vv_move rfl) ?_
      have B14 := (Bx.gr Bw4 Gw5)
      refine sd_ev rfl rfl rfl (ev_store1 (one_139).siz rfl rfl rfl B14 (by simp)) ?_
      rintro _ w6 ⟨Bw6, Mw6⟩
      have z15 := Mw6.size
      refine sd_done ?_
      refine sw_ret ?_
      refine block_r ?_
      refine ⟨(Kp.md (Kp.gr (Kp.refl _ _) Gw5) Mw6 (by first | exact Or.inl (by simp) | exact Or.inr (by omega))), _, fun c hc => .inl hc, ?_⟩
      exact ⟨rfl, rfl, n, Bw6, find_at hn (spc_t ‹_›) hno⟩
    · -- h1 False
      replace h1 := of_decide_eq_false h1
      refine sw_skip ?_
      refine block_n ?_
      have B16 := (Bx.gr Bw4 Gw5)
      refine ⟨(Kp.gr (Kp.refl _ _) Gw5), _, fun c hc => .inl hc, ?_⟩
      exact ⟨rfl, B16, take_step hno hn (spc_f ‹_›)⟩
  · rintro Dw7 fp w7 hDw7 Dfw7 nw7 ⟨rfl, Bw7, hno⟩ Kw7
    have z17 := Kw7.size
    have lt17 := Df.lt (w := w7) Dfw7
    rw [List.length_map] at hno
    have hfd := find_no hno
    refine block_n ?_
    refine then_n ?_
    refine sw_seq ?_
    -- region 5 tree.go:93
    refine sw_region [(0, 0)] rfl rfl rfl ?_
    refine sd_ev rfl rfl rfl (ev_store1 (one_139).siz rfl rfl rfl Bw7 (by simp)) ?_
    rintro _ w8 ⟨Bw8, Mw8⟩
    have z18 := Mw8.size
    refine sd_done ?_
    refine sw_ret ?_
    have DL19 := (Df.md Dfw7 Mw8 (by omega))
    have L19 := Md.put (w := w8) Dw7 (.deferred none)
    have zL19 := L19.size
    have B20 := (Bx.md Bw8 L19 (by omega))
    have X21 : Gr w (w8.putObj Dw7 (.deferred none)) := (Gr.md (Gr.md (Gr.kp X7 Kw7 (by simp <;> omega)) Mw8 (by omega)) L19 (by omega))
    refine ⟨_, _, ⟨Dw7, rfl, DL19, rfl⟩, res_1 rfl (rv_cell1 one_139 rfl B20), ?_⟩
    exact ⟨by simp [fstN, hfd], X21⟩
  · rintro Dw9 c rk fp w9 hDw9 Dfw9 nw9 hle ⟨rfl, rfl, n, Bw9, hfd⟩ Kw9
    have z22 := Kw9.size
    have lt22 := Df.lt (w := w9) Dfw9
    refine sw_ret ?_
    refine block_r ?_
    refine then_r ?_
    have DL23 := Dfw9
    have L23 := Md.put (w := w9) Dw9 (.deferred none)
    have zL23 := L23.size
    have B24 := (Bx.md Bw9 L23 (by omega))
    have X25 : Gr w (w9.putObj Dw9 (.deferred none)) := (Gr.md (Gr.kp X7 Kw9 (by simp <;> omega)) L23 (by omega))
    refine ⟨_, _, ⟨Dw9, rfl, DL23, rfl⟩, res_1 rfl (rv_cell1 one_139 rfl B24), ?_⟩
    exact ⟨by simp [fstN, hfd], X25⟩

set_option maxHeartbeats 1000000 in
theorem cut_c (kk d st : Int) (hs1 : 1 ≤ st) (v_ w_ : Int) (n k : Nat) (hv_ : v_ = ((n / 2 / 2 ^ k : Nat) : Int)) (hw_ : w_ = (n : Int)) (hk2 : 2 ^ k ≤ n / 2) (ht : n / 2 ≤ 4611686018427387904) (w : World) :
    Calls Try.prog 80 [tv kk d st, .int .i64 v_, .int .i64 w_].toArray w fun e w' => ∃ v, e = .returned v ∧ (v = .int .i64 (fstN st (n / 2) k : Int) ∧ Gr w w') := by
  subst hv_ hw_
  refine calls_of_sw (R := fun v w' => v = .int .i64 (fstN st (n / 2) k : Int) ∧ Gr w w') 14 Try.func80 rfl rfl rfl ?_
  refine sw_seq ?_
  -- region 0 tree.go:97
  refine sw_region [(0, 0), (1, 0)] rfl rfl rfl ?_
  refine sd_ev rfl rfl rfl (ev_box rfl (by rfl)) ?_
  rintro _ w1 ⟨b1, rfl, hbw1, Bw1, Gw1⟩
  have z1 := Gw1.size
  have lt2 := Bw1.lt
  refine sd_vv rfl rfl rfl (vv_assign rfl) ?_
  refine sd_done ?_
  refine sw_seq ?_
  -- region 1 tree.go:97 DRAWS
  refine sw_draw [] [(0, 3), (1, 3), (2, 3), (4, 3), (5, 3), (3, 0), (6, 0), (7, 3)] (by kernel_rfl) (by kernel_rfl) rfl (by kernel_rfl) ?_
  intro w2 Gw2 zw2
  refine dd_h3 rfl rfl rfl (Kp.refl [] w2) (fun w hS => vv_move rfl) ?_
  refine dd_h3 rfl rfl rfl (Kp.refl [] w2) (fun w hS => vv_move rfl) ?_
  refine dd_h3 rfl rfl rfl (Kp.refl [] w2) (fun w hS => vv_eq (vv_shrN (n := 1) (m := 2) rfl rfl rfl (by decide)) (show _ = Value.int .i64 ((n / 2 : Nat) : Int) from congrArg (Value.int .i64) (by norm_cast))) ?_
  have B3 := (Bx.gr Bw1 Gw2)
  refine dd_h3 rfl rfl rfl (Kp.refl [] w2) (fun w hS => vv_loadW agg_134 rfl (Bx.kp B3 hS (by simp <;> omega)) (by rfl)) ?_
  refine dd_h3 rfl rfl rfl (Kp.refl [] w2) (fun w hS => vv_makeFunc rfl rfl) ?_
  refine dd_ev rfl rfl rfl (ev_call en_128 rfl (path_c _ _ _)) ?_
  rintro _ w3 ⟨b3_0, b3_1, rfl, hb3_0, hb3_1, Bk3_0, Bk3_1, Gw3⟩
  have z4 := Gw3.size
  have lt5 := Bk3_0.lt
  have lt6 := Bk3_1.lt
  refine ⟨Gw3, ?_⟩
  refine dd_ev rfl rfl rfl (ev_call en_127 rfl (first_c (n / 2) k b3_0 b3_1 hk2 ht _ _ _ hs1 _ Bk3_0 Bk3_1)) ?_
  rintro _ w4 ⟨rfl, Gw4⟩
  have z7 := Gw4.size
  refine ⟨Gw4, ?_⟩
  have S8 := (Kp.gr (Kp.gr (Kp.refl [] w2) Gw3) Gw4)
  refine dd_h3 rfl rfl rfl S8 (fun w hS => vv_assign rfl) ?_
  refine sd_done ?_
  refine sw_ret ?_
  have X9 : Gr w w4 := (Gr.trans (Gr.trans (Gr.trans (Gr.trans (Gr.refl w) Gw1) Gw2) Gw3) Gw4)
  refine ⟨_, _, rfl, res_tmp rfl rfl, ?_⟩
  exact ⟨rfl, X9⟩

/-- a node strictly below another one -/
theorem blw_split {a b : Int} (h : blw a b = true) (hne : a ≠ b) (ha : a ≤ 4611686018427387904) : ∃ n k : Nat, b = ((n / 2 / 2 ^ k : Nat) : Int) ∧ a = (n : Int) ∧ 2 ^ k ≤ n / 2 ∧ n / 2 ≤ 4611686018427387904 := by
  unfold blw at h
  obtain ⟨h1, h2, h3, h4⟩ := of_decide_eq_true h
  have l1 := lvl_le h1 (by omega)
  have l2 := lvl_nn h2
  obtain ⟨n, rfl⟩ := Int.eq_ofNat_of_zero_le (show 0 ≤ a by omega)
  have hmin : min (lvl (n : Int) - lvl b).toNat 64 = (lvl (n : Int) - lvl b).toNat := Nat.min_eq_left (by omega)
  rw [hmin] at h4
  generalize hj : (lvl (n : Int) - lvl b).toNat = j at h4
  have h5 : ((n / 2 ^ j : Nat) : Int) = b := by rw [← h4]; norm_cast
  cases j with
  | zero => simp at h5; exact absurd h5 hne
  | succ k =>
    refine ⟨n, k, ?_, rfl, ?_, by omega⟩
    · rw [← h5, Nat.div_div_eq_div_mul, Nat.pow_succ, Nat.mul_comm 2]
    · have h6 : 1 ≤ n / 2 ^ (k + 1) := by omega
      have h7 : 2 ^ (k + 1) ≤ n := by
        rcases Nat.lt_or_ge n (2 ^ (k + 1)) with h | h
        · rw [Nat.div_eq_of_lt h] at h6; omega
        · exact h
      rw [Nat.le_div_iff_mul_le (by omega)]; rw [Nat.pow_succ] at h7; omega
/-- the first special node strictly between two nodes, or 0 -/
noncomputable def cutN (d : Int) (v w : Int) : Int := fstN (strd d) (w.toNat / 2) (lvl (w.toNat / 2 : Nat) - lvl v).toNat
theorem cutN_e {d v w : Int} {n k : Nat} (hv : v = ((n / 2 / 2 ^ k : Nat) : Int)) (hw : w = (n : Int)) (hk : 2 ^ k ≤ n / 2) : cutN d v w = (fstN (strd d) (n / 2) k : Int) := by
  subst hv hw
  unfold cutN
  rw [Int.toNat_natCast, lvl_div _ k hk]
  congr 2
  omega
/-- whether x is a subset of the scheme -/
noncomputable def subB (k d : Int) (x : Int × Int) : Bool :=
  hasN d x.1 && (if k = 1 ∨ x.2 = 0 then decide (x.2 = 0 ∧ (k = 1 ∨ x.1 = 1)) else hasN d x.2 && decide (x.2 ≠ x.1) && blw x.2 x.1 && (decide (k = 2) || decide (lvl x.1 % strd d = 0) || decide (cutN d x.1 x.2 = 0)))

theorem strd_bd (d : Int) : 1 ≤ strd d ∧ strd d ≤ 3 := by unfold strd; split <;> (try split) <;> omega
theorem hasN_bd {d v : Int} (h : hasN d v = true) (h0 : 0 ≤ d) (h6 : d ≤ 6) : 1 ≤ v ∧ v ≤ 127 := by
  have := of_decide_eq_true h
  have := sz_bd h0 h6
  omega

set_option maxHeartbeats 1000000 in
theorem subset_c (k d st : Int) (hst0 : st = strd d) (hd0 : 0 ≤ d) (hd6 : d ≤ 6) (x : Int × Int) (hx1 : -9223372036854775808 ≤ x.1) (hx2 : x.1 ≤ 9223372036854775807) (hx3 : -9223372036854775808 ≤ x.2) (hx4 : x.2 ≤ 9223372036854775807)  (w : World) :
    Calls Try.prog 79 [tv k d st, xv x].toArray w fun e w' => ∃ v, e = .returned v ∧ (v = .bool (subB k d x) ∧ Gr w w') := by
  subst hst0
  have hst := strd_bd d
  refine calls_of_sw (R := fun v w' => v = .bool (subB k d x) ∧ Gr w w') 68 Try.func79 rfl rfl rfl ?_
  refine sw_seq ?_
  -- region 0 tree.go:100
  refine sw_region [(0, 0), (1, 0), (2, 0)] rfl rfl rfl ?_
  refine sd_ev rfl rfl rfl (ev_box rfl (by rfl)) ?_
  rintro _ w1 ⟨b1, rfl, hbw1, Bw1, Gw1⟩
  have z1 := Gw1.size
  have lt2 := Bw1.lt
  refine sd_ev rfl rfl rfl (ev_box rfl (by rfl)) ?_
  rintro _ w2 ⟨b2, rfl, hbw2, Bw2, Gw2⟩
  have z3 := Gw2.size
  have lt4 := Bw2.lt
  refine sd_vv rfl rfl rfl (vv_assign rfl) ?_
  refine sd_done ?_
  refine sw_seq ?_
  -- region 1 tree.go:101 DRAWS
  refine sw_draw [] [(0, 3), (1, 3), (2, 3), (3, 3), (4, 3), (5, 3)] (by kernel_rfl) (by kernel_rfl) rfl (by kernel_rfl) ?_
  intro w3 Gw3 zw3
  refine dd_h3 rfl rfl rfl (Kp.refl [] w3) (fun w hS => vv_fieldAddr fa_47_0 rfl) ?_
  have B5 := (Bx.gr Bw2 Gw3)
  refine dd_h3 rfl rfl rfl (Kp.refl [] w3) (fun w hS => vv_load1 one_3 rfl (Bx.kp B5 hS (by simp <;> omega)) (by rfl)) ?_
  refine dd_h3 rfl rfl rfl (Kp.refl [] w3) (fun w hS => vv_fieldAddr fa_47_1 rfl) ?_
  refine dd_h3 rfl rfl rfl (Kp.refl [] w3) (fun w hS => vv_load1 one_3 rfl (Bx.kp B5 hS (by simp <;> omega)) (by rfl)) ?_
  refine dd_h3 rfl rfl rfl (Kp.refl [] w3) (fun w hS => vv_assign rfl) ?_
  refine dd_h3 rfl rfl rfl (Kp.refl [] w3) (fun w hS => vv_assign rfl) ?_
  refine sd_done ?_
  refine sw_seq ?_
  refine sw_block ?_
  refine sw_seq ?_
  -- region 2 tree.go:103
  refine sw_region [(0, 0), (1, 0), (2, 0), (3, 0), (4, 0), (5, 0)] rfl rfl rfl ?_
  have B6 := (Bx.gr (Bx.gr Bw1 Gw2) Gw3)
  refine sd_vv rfl rfl rfl (vv_loadW agg_134 rfl B6 (by rfl)) ?_
  refine sd_vv rfl rfl rfl (vv_fieldAddr fa_47_0 rfl) ?_
  refine sd_vv rfl rfl rfl (vv_load1 one_3 rfl B5 (by rfl)) ?_
  refine sd_ev rfl rfl rfl (ev_call en_125 rfl (has_c _ _ _ (by omega) (by omega) _ _)) ?_
  rintro _ w4 ⟨rfl, Gw4⟩
  have z7 := Gw4.size
  refine sd_vv rfl rfl rfl (vv_not rfl) ?_
  refine sd_vv rfl rfl rfl (vv_assign rfl) ?_
  refine sd_done ?_
  refine sw_cond rfl (fun h1 => ?_) (fun h1 => ?_)
  · -- h1 True
    replace h1 := not_bt h1
    refine sw_seq ?_
    -- region 3 tree.go:104
    refine sw_region [(0, 0)] rfl rfl rfl ?_
    refine sd_vv rfl rfl rfl (vv_assign rfl) ?_
    refine sd_done ?_
    refine sw_ret ?_
    refine block_r ?_
    refine then_r ?_
    have X8 : Gr w w4 := (Gr.trans (Gr.trans (Gr.trans (Gr.trans (Gr.refl w) Gw1) Gw2) Gw3) Gw4)
    refine ⟨_, _, rfl, res_tmp rfl rfl, ?_⟩
    exact ⟨congrArg Value.bool (by first | (exfalso; omega) | (simp [subB, *]; done) | (simp [subB, *]; omega)), X8⟩
  · -- h1 False
    replace h1 := not_bf h1
    refine sw_seq ?_
    -- region 4 tree.go:105
    refine sw_region [(0, 0), (1, 0), (2, 0), (3, 0), (4, 0), (5, 0), (6, 0), (7, 0)] rfl rfl rfl ?_
    refine sd_vv rfl rfl rfl (vv_fieldAddr fa_134_0 rfl) ?_
    have B9 := (Bx.gr B6 Gw4)
    refine sd_vv rfl rfl rfl (vv_load1 one_5 rfl B9 (by rfl)) ?_
    refine sd_vv rfl rfl rfl (vv_eql rfl rfl) ?_
    refine sd_split rfl rfl rfl (vv_move rfl) (fun h2 => ?_) (fun h2 => ?_)
    · -- h2 True
      replace h2 := of_decide_eq_true h2
      refine sd_skip rfl rfl rfl ?_
      refine sd_skip rfl rfl rfl ?_
      refine sd_vv rfl rfl rfl (vv_pickT rfl rfl) ?_
      refine sd_vv rfl rfl rfl (vv_assign rfl) ?_
      refine sd_done ?_
      refine sw_condT rfl ?_
      refine sw_seq ?_
      -- region 5 tree.go:106
      refine sw_region [(0, 0), (1, 0), (2, 0), (3, 0), (4, 0), (5, 0), (6, 0), (7, 0), (8, 0), (9, 0), (10, 0), (11, 0)] rfl rfl rfl ?_
      refine sd_vv rfl rfl rfl (vv_move rfl) ?_
      refine sd_vv rfl rfl rfl (vv_eql rfl rfl) ?_
      refine sd_split rfl rfl rfl (vv_move rfl) (fun h3 => ?_) (fun h3 => ?_)
      · -- h3 True
        replace h3 := of_decide_eq_true h3
        refine sd_vv rfl rfl rfl (vv_fieldAddr fa_134_0 rfl) ?_
        refine sd_vv rfl rfl rfl (vv_load1 one_5 rfl B9 (by rfl)) ?_
        refine sd_vv rfl rfl rfl (vv_eql rfl rfl) ?_
        refine sd_split rfl rfl rfl (vv_move rfl) (fun h4 => ?_) (fun h4 => ?_)
        · -- h4 True
          replace h4 := of_decide_eq_true h4
          refine sd_skip rfl rfl rfl ?_
          refine sd_skip rfl rfl rfl ?_
          refine sd_vv rfl rfl rfl (vv_pickT rfl rfl) ?_
          refine sd_vv rfl rfl rfl (vv_pickT rfl rfl) ?_
          refine sd_vv rfl rfl rfl (vv_assign rfl) ?_
          refine sd_done ?_
          refine sw_ret ?_
          refine block_r ?_
          refine then_r ?_
          have X10 : Gr w w4 := (Gr.trans (Gr.trans (Gr.trans (Gr.trans (Gr.refl w) Gw1) Gw2) Gw3) Gw4)
          refine ⟨_, _, rfl, res_tmp rfl rfl, ?_⟩
          exact ⟨congrArg Value.bool (by first | (exfalso; omega) | (simp [subB, *]; done) | (simp [subB, *]; omega)), X10⟩
        · -- h4 False
          replace h4 := of_decide_eq_false h4
          refine sd_vv rfl rfl rfl (vv_move rfl) ?_
          refine sd_vv rfl rfl rfl (vv_eql rfl rfl) ?_
          refine sd_vv rfl rfl rfl (vv_pickF rfl rfl) ?_
          refine sd_vv rfl rfl rfl (vv_pickT rfl rfl) ?_
          refine sd_vv rfl rfl rfl (vv_assign rfl) ?_
          refine sd_done ?_
          refine sw_ret ?_
          refine block_r ?_
          refine then_r ?_
          have X11 : Gr w w4 := (Gr.trans (Gr.trans (Gr.trans (Gr.trans (Gr.refl w) Gw1) Gw2) Gw3) Gw4)
          refine ⟨_, _, rfl, res_tmp rfl rfl, ?_⟩
          exact ⟨congrArg Value.bool (by first | (exfalso; omega) | (simp [subB, *]; done) | (simp [subB, *]; omega)), X11⟩
      · -- h3 False
        replace h3 := of_decide_eq_false h3
        refine sd_skip rfl rfl rfl ?_
        refine sd_skip rfl rfl rfl ?_
        refine sd_skip rfl rfl rfl ?_
        refine sd_skip rfl rfl rfl ?_
        refine sd_skip rfl rfl rfl ?_
        refine sd_skip rfl rfl rfl ?_
        refine sd_skip rfl rfl rfl ?_
        refine sd_vv rfl rfl rfl (vv_pickF rfl rfl) ?_
        refine sd_vv rfl rfl rfl (vv_assign rfl) ?_
        refine sd_done ?_
        refine sw_ret ?_
        refine block_r ?_
        refine then_r ?_
        have X12 : Gr w w4 := (Gr.trans (Gr.trans (Gr.trans (Gr.trans (Gr.refl w) Gw1) Gw2) Gw3) Gw4)
        refine ⟨_, _, rfl, res_tmp rfl rfl, ?_⟩
        exact ⟨congrArg Value.bool (by first | (exfalso; omega) | (simp [subB, *]; done) | (simp [subB, *]; omega)), X12⟩
    · -- h2 False
      replace h2 := of_decide_eq_false h2
      refine sd_vv rfl rfl rfl (vv_move rfl) ?_
      refine sd_vv rfl rfl rfl (vv_eql rfl rfl) ?_
      refine sd_vv rfl rfl rfl (vv_pickF rfl rfl) ?_
      refine sd_vv rfl rfl rfl (vv_assign rfl) ?_
      refine sd_done ?_
      refine sw_cond rfl (fun h5 => ?_) (fun h5 => ?_)
      · -- h5 True
        replace h5 := of_decide_eq_true h5
        refine sw_seq ?_
        -- region 5 tree.go:106
        refine sw_region [(0, 0), (1, 0), (2, 0), (3, 0), (4, 0), (5, 0), (6, 0), (7, 0), (8, 0), (9, 0), (10, 0), (11, 0)] rfl rfl rfl ?_
        refine sd_vv rfl rfl rfl (vv_move rfl) ?_
        refine sd_vv rfl rfl rfl (vv_eql rfl rfl) ?_
        refine sd_split rfl rfl rfl (vv_move rfl) (fun h6 => ?_) (fun h6 => ?_)
        · -- h6 True
          replace h6 := of_decide_eq_true h6
          refine sd_vv rfl rfl rfl (vv_fieldAddr fa_134_0 rfl) ?_
          refine sd_vv rfl rfl rfl (vv_load1 one_5 rfl B9 (by rfl)) ?_
          refine sd_vv rfl rfl rfl (vv_eql rfl rfl) ?_
          refine sd_split rfl rfl rfl (vv_move rfl) (fun h7 => ?_) (fun h7 => ?_)
          · -- h7 True
            replace h7 := of_decide_eq_true h7
            refine sd_skip rfl rfl rfl ?_
            refine sd_skip rfl rfl rfl ?_
            refine sd_vv rfl rfl rfl (vv_pickT rfl rfl) ?_
            refine sd_vv rfl rfl rfl (vv_pickT rfl rfl) ?_
            refine sd_vv rfl rfl rfl (vv_assign rfl) ?_
            refine sd_done ?_
            refine sw_ret ?_
            refine block_r ?_
            refine then_r ?_
            have X13 : Gr w w4 := (Gr.trans (Gr.trans (Gr.trans (Gr.trans (Gr.refl w) Gw1) Gw2) Gw3) Gw4)
            refine ⟨_, _, rfl, res_tmp rfl rfl, ?_⟩
            exact ⟨congrArg Value.bool (by first | (exfalso; omega) | (simp [subB, *]; done) | (simp [subB, *]; omega)), X13⟩
          · -- h7 False
            replace h7 := of_decide_eq_false h7
            refine sd_vv rfl rfl rfl (vv_move rfl) ?_
            refine sd_vv rfl rfl rfl (vv_eql rfl rfl) ?_
            refine sd_vv rfl rfl rfl (vv_pickF rfl rfl) ?_
            refine sd_vv rfl rfl rfl (vv_pickT rfl rfl) ?_
            refine sd_vv rfl rfl rfl (vv_assign rfl) ?_
            refine sd_done ?_
            refine sw_ret ?_
            refine block_r ?_
            refine then_r ?_
            have X14 : Gr w w4 := (Gr.trans (Gr.trans (Gr.trans (Gr.trans (Gr.refl w) Gw1) Gw2) Gw3) Gw4)
            refine ⟨_, _, rfl, res_tmp rfl rfl, ?_⟩
            exact ⟨congrArg Value.bool (by first | (exfalso; omega) | (simp [subB, *]; done) | (simp [subB, *]; omega)), X14⟩
        · -- h6 False
          replace h6 := of_decide_eq_false h6
          refine sd_skip rfl rfl rfl ?_
          refine sd_skip rfl rfl rfl ?_
          refine sd_skip rfl rfl rfl ?_
          refine sd_skip rfl rfl rfl ?_
          refine sd_skip rfl rfl rfl ?_
          refine sd_skip rfl rfl rfl ?_
          refine sd_skip rfl rfl rfl ?_
          refine sd_vv rfl rfl rfl (vv_pickF rfl rfl) ?_
          refine sd_vv rfl rfl rfl (vv_assign rfl) ?_
          refine sd_done ?_
          refine sw_ret ?_
          refine block_r ?_
          refine then_r ?_
          have X15 : Gr w w4 := (Gr.trans (Gr.trans (Gr.trans (Gr.trans (Gr.refl w) Gw1) Gw2) Gw3) Gw4)
          refine ⟨_, _, rfl, res_tmp rfl rfl, ?_⟩
          exact ⟨congrArg Value.bool (by first | (exfalso; omega) | (simp [subB, *]; done) | (simp [subB, *]; omega)), X15⟩
      · -- h5 False
        replace h5 := of_decide_eq_false h5
        refine sw_seq ?_
        -- region 6 tree.go:107
        refine sw_region [(0, 0), (1, 0), (2, 0), (3, 0), (4, 0), (5, 0), (6, 0), (7, 0), (8, 0), (9, 0), (10, 0), (11, 0), (12, 0), (13, 0), (14, 0), (15, 0), (16, 0)] rfl rfl rfl ?_
        refine sd_vv rfl rfl rfl (vv_loadW agg_134 rfl B9 (by rfl)) ?_
        refine sd_vv rfl rfl rfl (vv_fieldAddr fa_47_1 rfl) ?_
        have B16 := (Bx.gr B5 Gw4)
        refine sd_vv rfl rfl rfl (vv_load1 one_3 rfl B16 (by rfl)) ?_
        refine sd_ev rfl rfl rfl (ev_call en_125 rfl (has_c _ _ _ (by omega) (by omega) _ _)) ?_
        rintro _ w5 ⟨rfl, Gw5⟩
        have z17 := Gw5.size
        refine sd_vv rfl rfl rfl (vv_not rfl) ?_
        refine sd_split rfl rfl rfl (vv_move rfl) (fun h8 => ?_) (fun h8 => ?_)
        · -- h8 True
          replace h8 := not_bt h8
          refine sd_skip rfl rfl rfl ?_
          refine sd_skip rfl rfl rfl ?_
          refine sd_skip rfl rfl rfl ?_
          refine sd_vv rfl rfl rfl (vv_pickT rfl rfl) ?_
          refine sd_vv rfl rfl rfl (vv_move rfl) ?_
          refine sd_skip rfl rfl rfl ?_
          refine sd_skip rfl rfl rfl ?_
          refine sd_skip rfl rfl rfl ?_
          refine sd_skip rfl rfl rfl ?_
          refine sd_vv rfl rfl rfl (vv_pickT rfl rfl) ?_
          refine sd_vv rfl rfl rfl (vv_assign rfl) ?_
          refine sd_done ?_
          refine sw_condT rfl ?_
          refine sw_seq ?_
          -- region 7 tree.go:108
          refine sw_region [(0, 0)] rfl rfl rfl ?_
          refine sd_vv rfl rfl rfl (vv_assign rfl) ?_
          refine sd_done ?_
          refine sw_ret ?_
          refine block_r ?_
          refine then_r ?_
          have X18 : Gr w w5 := (Gr.trans (Gr.trans (Gr.trans (Gr.trans (Gr.trans (Gr.refl w) Gw1) Gw2) Gw3) Gw4) Gw5)
          refine ⟨_, _, rfl, res_tmp rfl rfl, ?_⟩
          exact ⟨congrArg Value.bool (by first | (exfalso; omega) | (simp [subB, *]; done) | (simp [subB, *]; omega)), X18⟩
        · -- h8 False
          replace h8 := not_bf h8
          refine sd_vv rfl rfl rfl (vv_move rfl) ?_
          refine sd_vv rfl rfl rfl (vv_move rfl) ?_
          refine sd_vv rfl rfl rfl (vv_eql rfl rfl) ?_
          refine sd_vv rfl rfl rfl (vv_pickF rfl rfl) ?_
          refine sd_split rfl rfl rfl (vv_move rfl) (fun h9 => ?_) (fun h9 => ?_)
          · -- h9 True
            replace h9 := of_decide_eq_true h9
            refine sd_skip rfl rfl rfl ?_
            refine sd_skip rfl rfl rfl ?_
            refine sd_skip rfl rfl rfl ?_
            refine sd_skip rfl rfl rfl ?_
            refine sd_vv rfl rfl rfl (vv_pickT rfl rfl) ?_
            refine sd_vv rfl rfl rfl (vv_assign rfl) ?_
            refine sd_done ?_
            refine sw_condT rfl ?_
            refine sw_seq ?_
            -- region 7 tree.go:108
            refine sw_region [(0, 0)] rfl rfl rfl ?_
            refine sd_vv rfl rfl rfl (vv_assign rfl) ?_
            refine sd_done ?_
            refine sw_ret ?_
            refine block_r ?_
            refine then_r ?_
            have X19 : Gr w w5 := (Gr.trans (Gr.trans (Gr.trans (Gr.trans (Gr.trans (Gr.refl w) Gw1) Gw2) Gw3) Gw4) Gw5)
            refine ⟨_, _, rfl, res_tmp rfl rfl, ?_⟩
            exact ⟨congrArg Value.bool (by first | (exfalso; omega) | (simp [subB, *]; done) | (simp [subB, *]; omega)), X19⟩
          · -- h9 False
            replace h9 := of_decide_eq_false h9
            refine sd_vv rfl rfl rfl (vv_move rfl) ?_
            refine sd_vv rfl rfl rfl (vv_move rfl) ?_
            refine sd_ev rfl rfl rfl (ev_call en_126 rfl (below_c _ _ (by omega) (by omega) _)) ?_
            rintro _ w6 ⟨rfl, Gw6⟩
            have z20 := Gw6.size
            refine sd_vv rfl rfl rfl (vv_not rfl) ?_
            refine sd_vv rfl rfl rfl (vv_pickF rfl rfl) ?_
            refine sd_vv rfl rfl rfl (vv_assign rfl) ?_
            refine sd_done ?_
            refine sw_cond rfl (fun h10 => ?_) (fun h10 => ?_)
            · -- h10 True
              replace h10 := not_bt h10
              refine sw_seq ?_
              -- region 7 tree.go:108
              refine sw_region [(0, 0)] rfl rfl rfl ?_
              refine sd_vv rfl rfl rfl (vv_assign rfl) ?_
              refine sd_done ?_
              refine sw_ret ?_
              refine block_r ?_
              refine then_r ?_
              have X21 : Gr w w6 := (Gr.trans (Gr.trans (Gr.trans (Gr.trans (Gr.trans (Gr.trans (Gr.refl w) Gw1) Gw2) Gw3) Gw4) Gw5) Gw6)
              refine ⟨_, _, rfl, res_tmp rfl rfl, ?_⟩
              exact ⟨congrArg Value.bool (by first | (exfalso; omega) | (simp [subB, *]; done) | (simp [subB, *]; omega)), X21⟩
            · -- h10 False
              replace h10 := not_bf h10
              refine sw_skip ?_
              refine block_n ?_
              refine then_n ?_
              refine sw_seq ?_
              -- region 8 tree.go:110
              refine sw_region [(0, 0), (1, 0), (2, 0), (3, 0), (4, 0), (5, 0), (6, 0), (7, 0), (8, 0), (9, 0), (10, 0), (11, 0), (12, 0), (13, 0), (14, 0), (15, 0)] rfl rfl rfl ?_
              refine sd_vv rfl rfl rfl (vv_fieldAddr fa_134_0 rfl) ?_
              have B22 := (Bx.gr (Bx.gr B9 Gw5) Gw6)
              refine sd_vv rfl rfl rfl (vv_load1 one_5 rfl B22 (by rfl)) ?_
              refine sd_vv rfl rfl rfl (vv_eql rfl rfl) ?_
              refine sd_split rfl rfl rfl (vv_move rfl) (fun h11 => ?_) (fun h11 => ?_)
              · -- h11 True
                replace h11 := of_decide_eq_true h11
                refine sd_skip rfl rfl rfl ?_
                refine sd_skip rfl rfl rfl ?_
                have hn1 := hasN_bd (d := d) (v := x.1) ‹_› hd0 hd6
                refine sd_skip rfl rfl rfl ?_
                refine sd_vv rfl rfl rfl (vv_pickT rfl rfl) ?_
                refine sd_vv rfl rfl rfl (vv_move rfl) ?_
                refine sd_skip rfl rfl rfl ?_
                refine sd_skip rfl rfl rfl ?_
                refine sd_skip rfl rfl rfl ?_
                have hn2 := hasN_bd (d := d) (v := x.2) ‹_› hd0 hd6
                obtain ⟨n, q, en1, en2, hk2, ht⟩ := blw_split (a := x.2) (b := x.1) ‹_› ‹_› (by omega)
                refine sd_skip rfl rfl rfl ?_
                refine sd_skip rfl rfl rfl ?_
                try clear en1 en2
                refine sd_vv rfl rfl rfl (vv_pickT rfl rfl) ?_
                refine sd_vv rfl rfl rfl (vv_assign rfl) ?_
                refine sd_done ?_
                refine sw_ret ?_
                have X23 : Gr w w6 := (Gr.trans (Gr.trans (Gr.trans (Gr.trans (Gr.trans (Gr.trans (Gr.refl w) Gw1) Gw2) Gw3) Gw4) Gw5) Gw6)
                refine ⟨_, _, rfl, res_tmp rfl rfl, ?_⟩
                exact ⟨congrArg Value.bool (by first | (exfalso; omega) | (simp [subB, *]; done) | (simp [subB, *]; omega)), X23⟩
              · -- h11 False
                replace h11 := of_decide_eq_false h11
                refine sd_vv rfl rfl rfl (vv_loadW agg_134 rfl B22 (by rfl)) ?_
                refine sd_vv rfl rfl rfl (vv_move rfl) ?_
                have hn1 := hasN_bd (d := d) (v := x.1) ‹_› hd0 hd6
                refine sd_ev rfl rfl rfl (ev_call en_114 rfl (special_c _ _ _ (by omega) _ (by omega) (by omega) _)) ?_
                rintro _ w7 ⟨rfl, Gw7⟩
                have z24 := Gw7.size
                refine sd_vv rfl rfl rfl (vv_pickF rfl rfl) ?_
                refine sd_split rfl rfl rfl (vv_move rfl) (fun h12 => ?_) (fun h12 => ?_)
                · -- h12 True
                  replace h12 := of_decide_eq_true h12
                  refine sd_skip rfl rfl rfl ?_
                  refine sd_skip rfl rfl rfl ?_
                  refine sd_skip rfl rfl rfl ?_
                  have hn2 := hasN_bd (d := d) (v := x.2) ‹_› hd0 hd6
                  obtain ⟨n, q, en1, en2, hk2, ht⟩ := blw_split (a := x.2) (b := x.1) ‹_› ‹_› (by omega)
                  refine sd_skip rfl rfl rfl ?_
                  refine sd_skip rfl rfl rfl ?_
                  try clear en1 en2
                  refine sd_vv rfl rfl rfl (vv_pickT rfl rfl) ?_
                  refine sd_vv rfl rfl rfl (vv_assign rfl) ?_
                  refine sd_done ?_
                  refine sw_ret ?_
                  have X25 : Gr w w7 := (Gr.trans (Gr.trans (Gr.trans (Gr.trans (Gr.trans (Gr.trans (Gr.trans (Gr.refl w) Gw1) Gw2) Gw3) Gw4) Gw5) Gw6) Gw7)
                  refine ⟨_, _, rfl, res_tmp rfl rfl, ?_⟩
                  exact ⟨congrArg Value.bool (by first | (exfalso; omega) | (simp [subB, *]; done) | (simp [subB, *]; omega)), X25⟩
                · -- h12 False
                  replace h12 := of_decide_eq_false h12
                  have B26 := (Bx.gr B22 Gw7)
                  refine sd_vv rfl rfl rfl (vv_loadW agg_134 rfl B26 (by rfl)) ?_
                  refine sd_vv rfl rfl rfl (vv_move rfl) ?_
                  refine sd_vv rfl rfl rfl (vv_move rfl) ?_
                  have hn2 := hasN_bd (d := d) (v := x.2) ‹_› hd0 hd6
                  obtain ⟨n, q, en1, en2, hk2, ht⟩ := blw_split (a := x.2) (b := x.1) ‹_› ‹_› (by omega)
                  refine sd_ev rfl rfl rfl (ev_call en_80 rfl (cut_c _ _ _ (by omega) _ _ n q en1 en2 hk2 ht _)) ?_
                  rintro _ w8 ⟨rfl, Gw8⟩
                  have z27 := Gw8.size
                  refine sd_vv rfl rfl rfl (vv_eq (vv_eql rfl rfl) (show _ = Value.bool (decide (cutN d x.1 x.2 = 0)) from by rw [cutN_e en1 en2 hk2])) ?_
                  try clear en1 en2
                  refine sd_vv rfl rfl rfl (vv_pickF rfl rfl) ?_
                  refine sd_vv rfl rfl rfl (vv_assign rfl) ?_
                  refine sd_done ?_
                  refine sw_ret ?_
                  have X28 : Gr w w8 := (Gr.trans (Gr.trans (Gr.trans (Gr.trans (Gr.trans (Gr.trans (Gr.trans (Gr.trans (Gr.refl w) Gw1) Gw2) Gw3) Gw4) Gw5) Gw6) Gw7) Gw8)
                  refine ⟨_, _, rfl, res_tmp rfl rfl, ?_⟩
                  exact ⟨congrArg Value.bool (by first | (exfalso; omega) | (simp [subB, *]; done) | (simp [subB, *]; omega)), X28⟩

abbrev ic (n : Int) : List Value := [.int .i64 n]
abbrev xc (x : Int × Int) : List Value := [.int .i64 x.1, .int .i64 x.2]
def memB (d : Int) (x : Int × Int) (u : Nat) : Bool := blw (sz d + (u : Int)) x.1 && !blw (sz d + (u : Int)) x.2
def memTo (d : Int) (x : Int × Int) (i : Nat) : List Int := ((List.range i).filter (memB d x)).map fun (u : Nat) => (u : Int)
theorem memTo_t {d : Int} {x : Int × Int} {i : Nat} (h : memB d x i = true) : memTo d x (i + 1) = memTo d x i ++ [(i : Int)] := by simp [memTo, List.range_succ, h]
theorem memTo_f {d : Int} {x : Int × Int} {i : Nat} (h : memB d x i = false) : memTo d x (i + 1) = memTo d x i := by simp [memTo, List.range_succ, h]
theorem memTo_len (d : Int) (x : Int × Int) (i : Nat) : (memTo d x i).length ≤ i := by
  have := List.length_filter_le (memB d x) (List.range i)
  simp [memTo] at this ⊢; exact this
/-- the members of a subset -/
def mem (d : Int) (x : Int × Int) : List Int := memTo d x (sz d).toNat

set_option maxHeartbeats 1000000 in
theorem members_c (k d st : Int) (hd0 : 0 ≤ d) (hd6 : d ≤ 6) (x : Int × Int) (hx1 : x.1 ≤ 9223372036854775807) (hx2 : x.2 ≤ 9223372036854775807) (w : World) :
    Calls Try.prog 75 [tv k d st, xv x].toArray w fun e w' => ∃ v, e = .returned v ∧ (∃ z g, Own w' z g 3 1 v ((mem d x).map ic) ∧ (z = 0 ∨ w.heap.size ≤ g) ∧ Gr w w') := by
  have hsz := sz_bd hd0 hd6
  refine calls_of_sw (R := fun v w' => ∃ z g, Own w' z g 3 1 v ((mem d x).map ic) ∧ (z = 0 ∨ w.heap.size ≤ g) ∧ Gr w w') 22 Try.func75 rfl rfl rfl ?_
  refine sw_seq ?_
  -- region 0 cover.go:34
  refine sw_region [(0, 0), (1, 0), (2, 0)] rfl rfl rfl ?_
  refine sd_ev rfl rfl rfl (ev_box rfl (by rfl)) ?_
  rintro _ w1 ⟨b1, rfl, hbw1, Bw1, Gw1⟩
  have z1 := Gw1.size
  have lt2 := Bw1.lt
  refine sd_ev rfl rfl rfl (ev_box rfl (by rfl)) ?_
  rintro _ w2 ⟨b2, rfl, hbw2, Bw2, Gw2⟩
  have z3 := Gw2.size
  have lt4 := Bw2.lt
  refine sd_vv rfl rfl rfl (vv_assign rfl) ?_
  refine sd_done ?_
  refine sw_seq ?_
  -- region 1 cover.go:35
  refine sw_region [(0, 0)] rfl rfl rfl ?_
  refine sd_vv rfl rfl rfl (vv_assign rfl) ?_
  refine sd_done ?_
  refine sw_seq ?_
  refine sw_seq ?_
  -- region 2 cover.go:36
  refine sw_region [(0, 0), (1, 0), (2, 0)] rfl rfl rfl ?_
  have B5 := (Bx.gr Bw1 Gw2)
  refine sd_vv rfl rfl rfl (vv_loadW agg_134 rfl B5 (by rfl)) ?_
  refine sd_ev rfl rfl rfl (ev_call en_123 rfl (size_c _ _ _ (by omega) (by omega) _)) ?_
  rintro _ w3 ⟨rfl, Gw3⟩
  have z6 := Gw3.size
  refine sd_vv rfl rfl rfl (vv_move rfl) ?_
  refine sd_done ?_
  refine sw_block ?_
  have X7 : Gr w w3 := (Gr.trans (Gr.trans (Gr.trans (Gr.refl w) Gw1) Gw2) Gw3)
  refine sw_loopD (α := Nat × Value × Nat × Nat) [5, 6, 9, 10, 11, 12, 13, 14, 15, 16, 17, 18, 19, 20] (fun ⟨i, v, z, g⟩ => [(9, .int .i64 (i : Int)), (5, v)]) (fun ⟨i, v, z, g⟩ wr => (i ≤ (sz d).toNat) ∧ (Own wr z g 3 1 v ((memTo d x i).map ic) ∧ (z = 0 ∨ w3.heap.size ≤ g)) ∧ Kp [] w3 wr) (fun ⟨i, v, z, g⟩ => (sz d).toNat - i) (⟨0, .slice none 0 0, 0, 0⟩) ?_ ?_ ?_
  · repeat' first | exact trivial | refine ⟨rfl, ?_⟩
  · exact ⟨Nat.zero_le _, ⟨(own_nil _ 0 _ _), .inl rfl⟩, Kp.refl _ _⟩
  rintro ⟨i, v, z, g⟩ w4 ⟨hi, ⟨Ow4_5, hOw4_5⟩, Kw4⟩
  have z8 := Kw4.size
  have lt9 := Ow4_5.lt
  refine sw_seq ?_
  -- region 3 cover.go:36
  refine sw_region [(0, 0)] rfl rfl rfl ?_
  refine sd_vv rfl rfl rfl (vv_lss rfl rfl) ?_
  refine sd_done ?_
  refine sw_seq ?_
  refine sw_cond rfl (fun h1 => ?_) (fun h1 => ?_)
  · -- h1 True
    replace h1 := of_decide_eq_true h1
    refine sw_skip ?_
    refine then_n ?_
    refine sw_seq ?_
    refine sw_block ?_
    refine sw_seq ?_
    -- region 4 cover.go:36
    refine sw_region [(0, 0), (1, 0)] rfl rfl rfl ?_
    refine sd_vv rfl rfl rfl (vv_move rfl) ?_
    refine sd_vv rfl rfl rfl (vv_assign rfl) ?_
    refine sd_done ?_
    refine sw_seq ?_
    -- region 5 cover.go:37
    refine sw_region [(0, 0), (1, 0), (2, 0), (3, 0)] rfl rfl rfl ?_
    have B10 := (Bx.kp (Bx.gr B5 Gw3) Kw4 (by simp <;> omega))
    refine sd_vv rfl rfl rfl (vv_loadW agg_134 rfl B10 (by rfl)) ?_
    have B11 := (Bx.kp (Bx.gr Bw2 Gw3) Kw4 (by simp <;> omega))
    refine sd_vv rfl rfl rfl (vv_loadW agg_47 rfl B11 (by rfl)) ?_
    refine sd_vv rfl rfl rfl (vv_move rfl) ?_
    refine sd_ev rfl rfl rfl (ev_call en_124 rfl (member_c _ _ _ (by omega) (by omega) _ (by omega) (by omega) _ (by omega) (by omega) _)) ?_
    rintro _ w5 ⟨rfl, Gw5⟩
    have z12 := Gw5.size
    refine sd_done ?_
    refine sw_cond rfl (fun h2 => ?_) (fun h2 => ?_)
    · -- h2 True
      replace h2 : memB d x i = true := h2
      -- region 6 cover.go:38
      refine sw_region [(0, 0), (1, 0), (2, 0), (3, 0), (4, 0)] rfl rfl rfl ?_
      refine sd_vv rfl rfl rfl (vv_move rfl) ?_
      refine sd_vv rfl rfl rfl (vv_move rfl) ?_
      refine sd_ev rfl rfl rfl (ev_lit bsl_61_1 rfl rfl rfl rfl rfl) ?_
      rintro vw6 w6 ⟨gw6, hbw6, Ow6, Gw6⟩
      have z13 := Gw6.size
      have lt14 := Ow6.lt
      have B15 := (Own.gr (Own.gr Ow4_5 Gw5) Gw6)
      refine sd_ev rfl rfl rfl (ev_app apt_61 rfl rfl B15 (Own.rd Ow6) (by have := memTo_len d x i; simp [chunk]; omega) (by have := memTo_len d x i; simp [chunk]; omega)) ?_
      rintro vw7 w7 ⟨zw7, gw7, Ow7, Aw7, qw7, rw7, sw7⟩
      have z16 := Aw7.size
      have lt17 := Ow7.lt
      refine sd_vv rfl rfl rfl (vv_assign rfl) ?_
      refine sd_nil ?_
      refine block_n ?_
      refine then_n ?_
      -- region 7 cover.go:36
      refine sw_region [(0, 0), (1, 0)] rfl rfl rfl ?_
      refine sd_vv rfl rfl rfl (vv_add64 rfl rfl (by omega) (by omega)) ?_
      refine sd_vv rfl rfl rfl (vv_move rfl) ?_
      refine sd_nil ?_
      have K_18 := (Kp.ka (Kp.gr (Kp.gr Kw4 Gw5) Gw6) Aw7 (by simp <;> omega))
      refine ⟨rfl, ⟨i + 1, vw7, zw7, gw7⟩, ?_, ⟨?_, ⟨?_, by omega⟩, K_18⟩, ?_⟩
      · repeat' first | exact trivial | refine ⟨rfl, ?_⟩
      · omega
      · first | (rw [memTo_t ‹_›, List.map_append]; exact Ow7) | (rw [memTo_f ‹_›]; exact Ow7)
      · first | omega | (dsimp only; omega)
    · -- h2 False
      replace h2 : memB d x i = false := h2
      refine sw_skip ?_
      refine block_n ?_
      refine then_n ?_
      -- region 7 cover.go:36
      refine sw_region [(0, 0), (1, 0)] rfl rfl rfl ?_
      refine sd_vv rfl rfl rfl (vv_add64 rfl rfl (by omega) (by omega)) ?_
      refine sd_vv rfl rfl rfl (vv_move rfl) ?_
      refine sd_nil ?_
      have K_19 := (Kp.gr Kw4 Gw5)
      have B20 := (Own.gr Ow4_5 Gw5)
      refine ⟨rfl, ⟨i + 1, v, z, g⟩, ?_, ⟨?_, ⟨?_, by omega⟩, K_19⟩, ?_⟩
      · repeat' first | exact trivial | refine ⟨rfl, ?_⟩
      · omega
      · first | (rw [memTo_t ‹_›, List.map_append]; exact B20) | (rw [memTo_f ‹_›]; exact B20)
      · first | omega | (dsimp only; omega)
  · -- h1 False
    replace h1 := of_decide_eq_false h1
    refine sw_exit ?_
    refine then_x ?_
    refine then_x ?_
    refine block_x ?_
    refine then_n ?_
    refine sw_seq ?_
    -- region 8 cover.go:41
    refine sw_region [(0, 0), (1, 0)] rfl rfl rfl ?_
    refine sd_vv rfl rfl rfl (vv_move rfl) ?_
    refine sd_vv rfl rfl rfl (vv_assign rfl) ?_
    refine sd_done ?_
    refine sw_ret ?_
    obtain rfl : i = (sz d).toNat := by omega
    have X21 : Gr w w4 := (Gr.kp X7 Kw4 (by simp <;> omega))
    refine ⟨_, _, rfl, res_tmp rfl rfl, ?_⟩
    exact ⟨z, g, Ow4_5, by omega, X21⟩

def inI (y : Int × Int) : Prop := -9223372036854775808 ≤ y.1 ∧ y.1 ≤ 9223372036854775807 ∧ -9223372036854775808 ≤ y.2 ∧ y.2 ≤ 9223372036854775807
theorem tree_yes {s : Sch} (h : vld s = true) : tk s = s.k ∧ td s = s.d ∧ ts s = strd (td s) ∧ 0 ≤ td s ∧ td s ≤ 6 ∧ 1 ≤ tk s ∧ tk s ≤ 3 := by
  have := of_decide_eq_true h
  have e1 : tk s = s.k := by simp [tk, h]
  have e2 : td s = s.d := by simp [td, h]
  have e3 : ts s = strd s.d := by simp [ts, h]
  rw [e1, e2, e3]
  exact ⟨rfl, rfl, rfl, this.2.2.1, this.2.2.2.1, this.1, this.2.1⟩
noncomputable def entE (s : Sch) (xs : List (Int × Int)) : Int := if vld s then (if xs.all (subB (tk s) (td s)) then 0 else 31) else 30
noncomputable def ek (s : Sch) (xs : List (Int × Int)) : Int := if entE s xs = 0 then tk s else 0
noncomputable def ed (s : Sch) (xs : List (Int × Int)) : Int := if entE s xs = 0 then td s else 0
noncomputable def es (s : Sch) (xs : List (Int × Int)) : Int := if entE s xs = 0 then ts s else 0
theorem ent_no {s : Sch} {xs : List (Int × Int)} {n : Int} (h : entE s xs = n) (hn : n ≠ 0) : ek s xs = 0 ∧ ed s xs = 0 ∧ es s xs = 0 := by subst h; simp [ek, ed, es, hn]
theorem ent_30 {s : Sch} {xs : List (Int × Int)} (h : vld s = false) : entE s xs = 30 := by simp [entE, h]
theorem ent_31 {s : Sch} {xs : List (Int × Int)} {i : Nat} {y : Int × Int} (h : vld s = true) (hy : xs[i]? = some y) (hs : subB (tk s) (td s) y = false) : entE s xs = 31 := by
  have : xs.all (subB (tk s) (td s)) = false := List.all_eq_false.2 ⟨y, List.mem_of_getElem? hy, by simp [hs]⟩
  simp [entE, h, this]
theorem ent_0 {s : Sch} {xs : List (Int × Int)} (h : vld s = true) (hs : ∀ y ∈ xs.take xs.length, subB (tk s) (td s) y = true) : entE s xs = 0 := by
  rw [List.take_length] at hs
  have : xs.all (subB (tk s) (td s)) = true := List.all_eq_true.2 hs
  simp [entE, h, this]
theorem ent_yes {s : Sch} {xs : List (Int × Int)} (h : entE s xs = 0) : vld s = true ∧ (∀ y ∈ xs, subB (tk s) (td s) y = true) ∧ ek s xs = tk s ∧ ed s xs = td s ∧ es s xs = ts s := by
  have hv : vld s = true := by
    cases hv : vld s with
    | true => rfl
    | false => rw [ent_30 hv] at h; omega
  have ha : xs.all (subB (tk s) (td s)) = true := by
    cases ha : xs.all (subB (tk s) (td s)) with
    | true => rfl
    | false => simp [entE, hv, ha] at h
  exact ⟨hv, List.all_eq_true.1 ha, by simp [ek, h], by simp [ed, h], by simp [es, h]⟩

set_option maxHeartbeats 1000000 in
theorem enter_c (s : Sch) (l : Value) (z g o : Nat) (xs : List (Int × Int)) (hxs : ∀ y ∈ xs, inI y) (hlen : xs.length ≤ 9223372036854775807) (w : World) (hl : Rd w z g o 2 l (xs.map xc)) :
    Calls Try.prog 74 [sv s, l].toArray w fun e w' => ∃ v, e = .returned v ∧ (v = .tuple [tv (ek s xs) (ed s xs) (es s xs), .int .i64 (entE s xs)].toArray ∧ Gr w w') := by
  have lt1 := hl.lt
  refine calls_of_sw (R := fun v w' => v = .tuple [tv (ek s xs) (ed s xs) (es s xs), .int .i64 (entE s xs)].toArray ∧ Gr w w') 31 Try.func74 rfl rfl rfl ?_
  refine sw_seq ?_
  -- region 0 cover.go:20
  refine sw_region [(0, 0), (1, 0), (2, 0)] rfl rfl rfl ?_
  refine sd_ev rfl rfl rfl (ev_box rfl (by rfl)) ?_
  rintro _ w1 ⟨b1, rfl, hbw1, Bw1, Gw1⟩
  have z2 := Gw1.size
  have lt3 := Bw1.lt
  refine sd_ev rfl rfl rfl (ev_alloc zv_134 (by rfl)) ?_
  rintro _ w2 ⟨b2, rfl, hbw2, Bw2, Gw2⟩
  have z4 := Gw2.size
  have lt5 := Bw2.lt
  refine sd_vv rfl rfl rfl (vv_assign rfl) ?_
  refine sd_done ?_
  refine sw_seq ?_
  -- region 1 cover.go:21
  refine sw_region [(0, 0), (1, 0), (2, 0), (3, 0), (4, 0), (5, 0), (6, 0), (7, 0)] rfl rfl rfl ?_
  have B6 := (Bx.gr Bw1 Gw2)
  refine sd_vv rfl rfl rfl (vv_loadW agg_45 rfl B6 (by rfl)) ?_
  refine sd_ev rfl rfl rfl (ev_call en_84 rfl (treeOf_c _ _)) ?_
  rintro _ w3 ⟨rfl, Gw3⟩
  have z7 := Gw3.size
  refine sd_vv rfl rfl rfl (vv_move rfl) ?_
  refine sd_vv rfl rfl rfl (vv_extract rfl rfl) ?_
  refine sd_vv rfl rfl rfl (vv_extract rfl rfl) ?_
  refine sd_ev rfl rfl rfl (ev_alloc zv_134 (by rfl)) ?_
  rintro _ w4 ⟨b4, rfl, hbw4, Bw4, Gw4⟩
  have z8 := Gw4.size
  have lt9 := Bw4.lt
  refine sd_ev rfl rfl rfl (ev_storeW (agg_134).siz rfl rfl (by rfl) (by rfl) (by rfl) Bw4 (by rfl)) ?_
  rintro _ w5 ⟨Bw5, Mw5⟩
  have z10 := Mw5.size
  refine sd_vv rfl rfl rfl (vv_assign rfl) ?_
  refine sd_done ?_
  refine sw_seq ?_
  refine sw_seq ?_
  -- region 2 cover.go:22
  refine sw_region [(0, 0), (1, 0)] rfl rfl rfl ?_
  refine sd_vv rfl rfl rfl (vv_move rfl) ?_
  refine sd_vv rfl rfl rfl (vv_not rfl) ?_
  refine sd_done ?_
  refine sw_cond rfl (fun h1 => ?_) (fun h1 => ?_)
  · -- h1 True
    replace h1 := not_bt h1
    refine sw_seq ?_
    -- region 3 cover.go:23
    refine sw_region [(0, 0), (1, 0), (2, 0)] rfl rfl rfl ?_
    refine sd_vv rfl rfl rfl (vv_build bs_134 rfl rfl) ?_
    have B11 := (Bx.md (Bx.gr (Bx.gr Bw2 Gw3) Gw4) Mw5 (by omega))
    refine sd_ev rfl rfl rfl (ev_storeW (agg_134).siz rfl rfl (by rfl) (by rfl) (by rfl) B11 (by rfl)) ?_
    rintro _ w6 ⟨Bw6, Mw6⟩
    have z12 := Mw6.size
    refine sd_vv rfl rfl rfl (vv_assign rfl) ?_
    refine sd_done ?_
    refine sw_ret ?_
    refine then_r ?_
    have X13 : Gr w w6 := (Gr.md (Gr.md (Gr.trans (Gr.trans (Gr.trans (Gr.trans (Gr.refl w) Gw1) Gw2) Gw3) Gw4) Mw5 (by omega)) Mw6 (by omega))
    refine ⟨_, _, rfl, res_2 rfl (rv_cellW agg_134 rfl Bw6 (by rfl)) (rv_tmp rfl), ?_⟩
    have hE := ent_30 (xs := xs) h1
    obtain ⟨q1, q2, q3⟩ := ent_no hE (by decide)
    exact ⟨by rw [q1, q2, q3, hE], X13⟩
  · -- h1 False
    replace h1 := not_bf h1
    obtain ⟨e1, e2, e3, e4, e5, e6, e7⟩ := tree_yes h1
    refine sw_skip ?_
    refine then_n ?_
    refine sw_seq ?_
    refine sw_seq ?_
    -- region 4 cover.go:25
    refine sw_region [(0, 0), (1, 0), (2, 0)] rfl rfl rfl ?_
    refine sd_vv rfl rfl rfl (vv_move rfl) ?_
    have B14 := (Rd.md (Rd.gr (Rd.gr (Rd.gr (Rd.gr hl Gw1) Gw2) Gw3) Gw4) Mw5 (by omega))
    refine sd_vv rfl rfl rfl (vv_lenN (n := xs.length) Try.underlying48 rfl B14 (by simp)) ?_
    refine sd_vv rfl rfl rfl (vv_move rfl) ?_
    refine sd_done ?_
    refine sw_block ?_
    have X15 : Gr w w5 := (Gr.md (Gr.trans (Gr.trans (Gr.trans (Gr.trans (Gr.refl w) Gw1) Gw2) Gw3) Gw4) Mw5 (by omega))
    refine sw_loopD (α := Nat) [5, 9, 20, 21, 22, 23, 24, 25, 26, 27, 28, 29] (fun i => [(20, .int .i64 (i : Int))]) (fun i wr => (i ≤ xs.length ∧ ∀ y ∈ xs.take i, subB (tk s) (td s) y = true) ∧ Kp [] w5 wr) (fun i => xs.length - i) (0) ?_ ?_ ?_
    · repeat' first | exact trivial | refine ⟨rfl, ?_⟩
    · exact ⟨⟨Nat.zero_le _, by simp⟩, Kp.refl _ _⟩
    rintro i w7 ⟨⟨hi, hall⟩, Kw7⟩
    have z16 := Kw7.size
    refine sw_seq ?_
    -- region 5 cover.go:25
    refine sw_region [(0, 0)] rfl rfl rfl ?_
    refine sd_vv rfl rfl rfl (vv_lss rfl rfl) ?_
    refine sd_done ?_
    refine sw_seq ?_
    refine sw_cond rfl (fun h2 => ?_) (fun h2 => ?_)
    · -- h2 True
      replace h2 := of_decide_eq_true h2
      obtain ⟨y, hy, hym⟩ := get_ex (show i < xs.length by omega)
      obtain ⟨hy1, hy2, hy3, hy4⟩ := hxs y hym
      refine sw_skip ?_
      refine then_n ?_
      refine sw_seq ?_
      refine sw_block ?_
      refine sw_seq ?_
      -- region 6 cover.go:25
      refine sw_region [(0, 0), (1, 0), (2, 0), (3, 0)] rfl rfl rfl ?_
      have B17 := (Rd.kp B14 Kw7 (by simp <;> omega))
      refine sd_vv rfl rfl rfl (vv_ixN (n := xs.length) Try.underlying48 (agg_47).siz rfl B17 (by simp) rfl (by omega) (by omega)) ?_
      refine sd_vv rfl rfl rfl (vv_elW agg_47 rfl B17 (getm hy) (by omega)) ?_
      refine sd_ev rfl rfl rfl (ev_alloc zv_47 (by rfl)) ?_
      rintro _ w8 ⟨b8, rfl, hbw8, Bw8, Gw8⟩
      have z18 := Gw8.size
      have lt19 := Bw8.lt
      refine sd_ev rfl rfl rfl (ev_storeW (agg_47).siz rfl rfl (by rfl) (by rfl) (by rfl) Bw8 (by rfl)) ?_
      rintro _ w9 ⟨Bw9, Mw9⟩
      have z20 := Mw9.size
      refine sd_done ?_
      refine sw_seq ?_
      -- region 7 cover.go:26
      refine sw_region [(0, 0), (1, 0), (2, 0), (3, 0)] rfl rfl rfl ?_
      have B21 := (Bx.md (Bx.gr (Bx.kp Bw5 Kw7 (by simp <;> omega)) Gw8) Mw9 (by omega))
      refine sd_vv rfl rfl rfl (vv_loadW agg_134 rfl B21 (by rfl)) ?_
      refine sd_vv rfl rfl rfl (vv_loadW agg_47 rfl Bw9 (by rfl)) ?_
      refine sd_ev rfl rfl rfl (ev_call en_79 rfl (subset_c _ _ _ (by first | rfl | assumption) (by omega) (by omega) _ (by omega) (by omega) (by omega) (by omega) _)) ?_
      rintro _ w10 ⟨rfl, Gw10⟩
      have z22 := Gw10.size
      refine sd_vv rfl rfl rfl (vv_not rfl) ?_
      refine sd_done ?_
      refine sw_cond rfl (fun h3 => ?_) (fun h3 => ?_)
      · -- h3 True
        replace h3 := not_bt h3
        refine sw_seq ?_
        -- region 8 cover.go:27
        refine sw_region [(0, 0), (1, 0), (2, 0)] rfl rfl rfl ?_
        refine sd_vv rfl rfl rfl (vv_build bs_134 rfl rfl) ?_
        have B23 := (Bx.gr (Bx.md (Bx.gr (Bx.kp (Bx.md (Bx.gr (Bx.gr Bw2 Gw3) Gw4) Mw5 (by omega)) Kw7 (by simp <;> omega)) Gw8) Mw9 (by omega)) Gw10)
        refine sd_ev rfl rfl rfl (ev_storeW (agg_134).siz rfl rfl (by rfl) (by rfl) (by rfl) B23 (by rfl)) ?_
        rintro _ w11 ⟨Bw11, Mw11⟩
        have z24 := Mw11.size
        refine sd_vv rfl rfl rfl (vv_assign rfl) ?_
        refine sd_done ?_
        refine sw_ret ?_
        refine block_r ?_
        refine then_r ?_
        refine then_r ?_
        refine block_r ?_
        refine then_r ?_
        have X25 : Gr w w11 := (Gr.md (Gr.trans (Gr.md (Gr.trans (Gr.kp X15 Kw7 (by simp <;> omega)) Gw8) Mw9 (by omega)) Gw10) Mw11 (by omega))
        refine ⟨_, _, rfl, res_2 rfl (rv_cellW agg_134 rfl Bw11 (by rfl)) (rv_tmp rfl), ?_⟩
        have hE := ent_31 h1 hy h3
        obtain ⟨q1, q2, q3⟩ := ent_no hE (by decide)
        exact ⟨by rw [q1, q2, q3, hE], X25⟩
      · -- h3 False
        replace h3 := not_bf h3
        refine sw_skip ?_
        refine block_n ?_
        refine then_n ?_
        -- region 9 cover.go:25
        refine sw_region [(0, 0), (1, 0)] rfl rfl rfl ?_
        refine sd_vv rfl rfl rfl (vv_add64 rfl rfl (by omega) (by omega)) ?_
        refine sd_vv rfl rfl rfl (vv_move rfl) ?_
        refine sd_nil ?_
        have K_26 := (Kp.gr (Kp.md (Kp.gr Kw7 Gw8) Mw9 (by simp <;> omega)) Gw10)
        refine ⟨rfl, i + 1, ?_, ⟨?_, K_26⟩, ?_⟩
        · repeat' first | exact trivial | refine ⟨rfl, ?_⟩
        · exact ⟨by omega, take_step hall hy ‹_›⟩
        · first | omega | (dsimp only; omega)
    · -- h2 False
      replace h2 := of_decide_eq_false h2
      obtain rfl : i = xs.length := by omega
      refine sw_exit ?_
      refine then_x ?_
      refine then_x ?_
      refine block_x ?_
      refine then_n ?_
      refine sw_seq ?_
      -- region 10 cover.go:30
      refine sw_region [(0, 0), (1, 0), (2, 0)] rfl rfl rfl ?_
      have B27 := (Bx.kp Bw5 Kw7 (by simp <;> omega))
      refine sd_vv rfl rfl rfl (vv_loadW agg_134 rfl B27 (by rfl)) ?_
      have B28 := (Bx.kp (Bx.md (Bx.gr (Bx.gr Bw2 Gw3) Gw4) Mw5 (by omega)) Kw7 (by simp <;> omega))
      refine sd_ev rfl rfl rfl (ev_storeW (agg_134).siz rfl rfl (by rfl) (by rfl) (by rfl) B28 (by rfl)) ?_
      rintro _ w12 ⟨Bw12, Mw12⟩
      have z29 := Mw12.size
      refine sd_vv rfl rfl rfl (vv_assign rfl) ?_
      refine sd_done ?_
      refine sw_ret ?_
      have X30 : Gr w w12 := (Gr.md (Gr.kp X15 Kw7 (by simp <;> omega)) Mw12 (by omega))
      refine ⟨_, _, rfl, res_2 rfl (rv_cellW agg_134 rfl Bw12 (by rfl)) (rv_tmp rfl), ?_⟩
      have hE := ent_0 h1 hall
      obtain ⟨q0, q1, q2, q3, q4⟩ := ent_yes hE
      exact ⟨by rw [q2, q3, q4, hE], X30⟩
end Go.Proofs.Ytecempahccgijaa
