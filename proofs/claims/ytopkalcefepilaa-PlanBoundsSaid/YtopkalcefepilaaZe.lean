/- Several texts in one: Cp Pu Be Ala LawBo. -/
import Derived.Test.YtopkalcefepilaaZd
import Derived.KernelRfl
set_option linter.unusedVariables false
set_option linter.unusedSimpArgs false
section
set_option linter.unusedVariables false
set_option linter.unusedSimpArgs false
set_option maxRecDepth 100000
namespace Go.Sx
open Go
def mkS (y : Nat × Nat) : TSubset := ⟨(y.1 : Int), (y.2 : Int)⟩
/-! the hot nodes -/
def upF : Nat → Nat → List Int → List Int
  | 0, _, ks => ks
  | f + 1, n, ks => if n = 0 then ks else upF f (n / 2) (insS ks (n : Int))
theorem up_loop (a5 : Int) (rec1 : Int × List Int → Option (List TSubset × Int)) : ∀ (f fuel n : Nat) (ks : List Int), n < 2 ^ f → f < fuel → fixN (cover_Cover_L2 a5 rec1) fuel ((n : Int), ks) = rec1 (w64 (a5 + 1), upF f n ks)
  | f, 0, n, ks, _, h => by omega
  | 0, fuel + 1, n, ks, hn, _ => by
    rw [fix_step]; simp only [cover_Cover_L2]
    rw [if_neg (by simp at hn; omega)]; rfl
  | f + 1, fuel + 1, n, ks, hn, hf => by
    rw [fix_step]; simp only [cover_Cover_L2]
    unfold upF
    by_cases h0 : n = 0
    · rw [if_neg (by omega), if_pos h0]
    · rw [if_pos (by omega), if_neg h0, show shG (un 1#64) = some 1 from by decide, bind_some, shr_nat _ _ (by omega), Nat.pow_one]
      exact up_loop a5 rec1 f fuel (n / 2) _ (by rw [Nat.pow_succ] at hn; omega) (by omega)
theorem insS_mem {ks : List Int} {k z : Int} : z ∈ insS ks k ↔ z ∈ ks ∨ z = k := by
  unfold insS; split
  · rename_i h; exact ⟨.inl, fun h' => h'.elim id (fun e => e ▸ h)⟩
  · simp
theorem insS_len {ks : List Int} {k : Int} : (insS ks k).length ≤ ks.length + 1 := by unfold insS; split <;> simp
theorem up_mem : ∀ (f n : Nat) (ks : List Int) (z : Int), n < 2 ^ f → (z ∈ upF f n ks ↔ z ∈ ks ∨ ∃ j, 2 ^ j ≤ n ∧ z = ((n / 2 ^ j : Nat) : Int))
  | 0, n, ks, z, hn => by
    unfold upF
    constructor
    · exact .inl
    · rintro (h | ⟨j, hj, _⟩)
      · exact h
      · have := Nat.two_pow_pos j; simp at hn; omega
  | f + 1, n, ks, z, hn => by
    unfold upF
    by_cases h0 : n = 0
    · rw [if_pos h0]
      constructor
      · exact .inl
      · rintro (h | ⟨j, hj, _⟩)
        · exact h
        · have := Nat.two_pow_pos j; omega
    · rw [if_neg h0, up_mem f (n / 2) _ z (by rw [Nat.pow_succ] at hn; omega), insS_mem]
      have hd2 : ∀ j, n / 2 / 2 ^ j = n / 2 ^ (j + 1) := fun j => by rw [Nat.div_div_eq_div_mul, Nat.pow_succ, Nat.mul_comm 2]
      constructor
      · rintro ((h | h) | ⟨j, h1, h2⟩)
        · exact .inl h
        · exact .inr ⟨0, by simp; omega, by simpa using h⟩
        · exact .inr ⟨j + 1, by rw [Nat.pow_succ]; omega, by rw [h2, hd2]⟩
      · rintro (h | ⟨j, h1, h2⟩)
        · exact .inl (.inl h)
        · cases j with
          | zero => exact .inl (.inr (by simpa using h2))
          | succ j => exact .inr ⟨j, by rw [Nat.pow_succ] at h1; omega, by rw [h2, hd2]⟩
theorem up_len : ∀ (f n : Nat) (ks : List Int), (upF f n ks).length ≤ ks.length + f
  | 0, n, ks => by simp [upF]
  | f + 1, n, ks => by
    unfold upF; split
    · omega
    · have := up_len f (n / 2) (insS ks (n : Int)); have := insS_len (ks := ks) (k := (n : Int)); omega
/-- all hot nodes -/
def hotL (d : Nat) (l : List Int) : List Int := l.foldl (fun ks u => upF 8 (2 ^ d + u.toNat) ks) []
theorem hotL_mem {d : Nat} (h6 : d ≤ 6) : ∀ (l : List Int) (ks : List Int) (z : Int), (∀ u ∈ l, u.toNat < 2 ^ d) → (z ∈ l.foldl (fun ks u => upF 8 (2 ^ d + u.toNat) ks) ks ↔ z ∈ ks ∨ ∃ u ∈ l, ∃ j, 2 ^ j ≤ 2 ^ d + u.toNat ∧ z = (((2 ^ d + u.toNat) / 2 ^ j : Nat) : Int))
  | [], ks, z, _ => by simp
  | a :: l, ks, z, h => by
    have h64 := pow_le64 h6
    have ha := h a (by simp)
    rw [List.foldl_cons, hotL_mem h6 l _ z (fun u hu => h u (by simp [hu])), up_mem 8 _ _ _ (by omega)]
    constructor
    · rintro ((h1 | h1) | ⟨u, hu, h1⟩)
      · exact .inl h1
      · exact .inr ⟨a, by simp, h1⟩
      · exact .inr ⟨u, by simp [hu], h1⟩
    · rintro (h1 | ⟨u, hu, h1⟩)
      · exact .inl (.inl h1)
      · rcases List.mem_cons.1 hu with rfl | hu
        · exact .inl (.inr h1)
        · exact .inr ⟨u, hu, h1⟩
theorem hotL_len {d : Nat} : ∀ (l : List Int) (ks : List Int), (l.foldl (fun ks u => upF 8 (2 ^ d + u.toNat) ks) ks).length ≤ ks.length + 8 * l.length
  | [], ks => by simp
  | a :: l, ks => by
    rw [List.foldl_cons, List.length_cons]
    have := hotL_len (d := d) l (upF 8 (2 ^ d + a.toNat) ks)
    have := up_len 8 (2 ^ d + a.toNat) ks
    omega
def rcvL (l : List Int) : List Nat := l.map Int.toNat
theorem rcv_of {d : Nat} {l : List Int} (h6 : d ≤ 6) (h : lstB d l = true) : Rcv d (rcvL l) := ⟨h6, fun u hu => by
  obtain ⟨a, ha, rfl⟩ := List.mem_map.1 hu
  obtain ⟨w, hw, hw2⟩ := lst_mem h ha
  rw [hw]; simpa using hw2⟩
theorem hotL_hot {d : Nat} {l : List Int} (h6 : d ≤ 6) (h : lstB d l = true) (n : Nat) : ((n : Int) ∈ hotL d l) ↔ hotB d (rcvL l) n = true := by
  have hr := rcv_of h6 h
  unfold hotL
  rw [hotL_mem h6 l [] _ (fun u hu => hr.2 _ (List.mem_map.2 ⟨u, hu, rfl⟩)), hot_iff]
  simp only [List.not_mem_nil, false_or]
  constructor
  · rintro ⟨u, hu, j, h1, h2⟩
    refine ⟨u.toNat, List.mem_map.2 ⟨u, hu, rfl⟩, (below_iff (hr.leaf (List.mem_map.2 ⟨u, hu, rfl⟩)).1).2 ⟨j, h1, by omega⟩⟩
  · rintro ⟨u, hu, hb⟩
    obtain ⟨a, ha, rfl⟩ := List.mem_map.1 hu
    obtain ⟨j, h1, h2⟩ := (below_iff (hr.leaf hu).1).1 hb
    exact ⟨a, ha, j, h1, by rw [h2]⟩
theorem hotL_nat {d : Nat} {l : List Int} (h6 : d ≤ 6) (h : lstB d l = true) {k : Int} (hk : k ∈ hotL d l) : ∃ n : Nat, k = (n : Int) ∧ hotB d (rcvL l) n = true := by
  have hr := rcv_of h6 h
  unfold hotL at hk
  rw [hotL_mem h6 l [] _ (fun u hu => hr.2 _ (List.mem_map.2 ⟨u, hu, rfl⟩))] at hk
  simp only [List.not_mem_nil, false_or] at hk
  obtain ⟨u, hu, j, h1, h2⟩ := hk
  exact ⟨_, h2, hot_iff.2 ⟨u.toNat, List.mem_map.2 ⟨u, hu, rfl⟩, (below_iff (hr.leaf (List.mem_map.2 ⟨u, hu, rfl⟩)).1).2 ⟨j, h1, rfl⟩⟩⟩
/-! a round -/
theorem dec_mem {d : Nat} {l : List Int} (h6 : d ≤ 6) (h : lstB d l = true) (n : Nat) : decide ((n : Int) ∈ hotL d l) = hotB d (rcvL l) n := by
  cases hb : hotB d (rcvL l) n with
  | true => exact decide_eq_true ((hotL_hot h6 h n).2 hb)
  | false => exact decide_eq_false fun hm => by rw [(hotL_hot h6 h n).1 hm] at hb; cases hb
theorem foot_loop {s : TScheme} {d : Nat} {l : List Int} (h6 : d ≤ 6) (h : lstB d l = true) (acc : List TSubset) (nx : List TSubset → Option (List TSubset × Int)) (k : Int) : ∀ (f fuel v : Nat), 1 ≤ v → Nat.log2 v ≤ d → d - Nat.log2 v < f → f ≤ fuel →
    fixN (cover_Cover_L6 (treeI s, 0) (hotL d l) acc nx k) fuel (v : Int) = (if (footN d (rcvL l) f v : Int) = k then nx acc else Option.bind (cover_tree_cut (treeI s) k (footN d (rcvL l) f v : Int)) fun x31 => (if x31 ≠ 0 then (if (treeI s).kind = 3#8 then Option.bind (cover_tree_special (treeI s) k) fun x34 => (cover_Cover_J8 acc nx k (footN d (rcvL l) f v : Int) x31 (!x34)) else cover_Cover_J8 acc nx k (footN d (rcvL l) f v : Int) x31 false) else cover_Cover_J8 acc nx k (footN d (rcvL l) f v : Int) x31 false))
  | 0, fuel, v, _, _, hf, _ => by omega
  | f + 1, 0, v, _, _, _, hf => by omega
  | f + 1, fuel + 1, v, hv, hl, hf, hff => by
    have hr := rcv_of h6 h
    have h64 := pow_le64 h6
    have hv128 : v < 128 := by
      have := (Nat.log2_lt (n := v) (k := d + 1) (by omega)).1 (by omega)
      rw [Nat.pow_succ] at this; omega
    rw [fix_step]; simp only [cover_Cover_L6]
    have e0 : w64 (2 * (v : Int)) = ((2 * v : Nat) : Int) := by rw [w64_id (by omega) (by omega)]; omega
    have e1 : w64 (((2 * v : Nat) : Int) + 1) = ((2 * v + 1 : Nat) : Int) := by rw [w64_id (by omega) (by omega)]; omega
    have e2 : w64 ((v : Int) * 2) = ((2 * v : Nat) : Int) := by rw [w64_id (by omega) (by omega)]; omega
    rw [e0, e1, e2, e1, dec_mem h6 h, dec_mem h6 h]
    rw [show (hotB d (rcvL l) (2 * v) != hotB d (rcvL l) (2 * v + 1)) = brN d (rcvL l) v from rfl]
    cases hb : brN d (rcvL l) v with
    | false =>
      have hfv : footN d (rcvL l) (f + 1) v = v := by unfold footN; rw [hb]; rfl
      rw [cond_false, hfv]
    | true =>
      have hfv : footN d (rcvL l) (f + 1) v = footN d (rcvL l) f (nxN d (rcvL l) v) := by
        show (if brN d (rcvL l) v = true then footN d (rcvL l) f (nxN d (rcvL l) v) else v) = _
        rw [hb]; rfl
      rw [cond_true, hfv]
      obtain ⟨hl2, _⟩ := br_inner hr hv hb
      have key : (if ¬ (((2 * v : Nat) : Int) ∈ hotL d l) then fixN (cover_Cover_L6 (treeI s, 0) (hotL d l) acc nx k) fuel ((2 * v + 1 : Nat) : Int) else fixN (cover_Cover_L6 (treeI s, 0) (hotL d l) acc nx k) fuel ((2 * v : Nat) : Int)) = fixN (cover_Cover_L6 (treeI s, 0) (hotL d l) acc nx k) fuel (nxN d (rcvL l) v : Int) := by
        unfold nxN
        cases hh : hotB d (rcvL l) (2 * v) with
        | true => rw [if_neg (fun hn => hn ((hotL_hot h6 h _).2 hh)), if_pos rfl]
        | false => rw [if_pos (fun hm => by rw [(hotL_hot h6 h _).1 hm] at hh; cases hh), if_neg (by simp)]
      rw [key]
      have hn : 1 ≤ nxN d (rcvL l) v ∧ Nat.log2 (nxN d (rcvL l) v) = Nat.log2 v + 1 := by
        unfold nxN; split
        · exact ⟨by omega, log2_dbl hv (b := 0) (by omega)⟩
        · exact ⟨by omega, log2_dbl hv (b := 1) (by omega)⟩
      exact foot_loop h6 h acc nx k f fuel _ hn.1 (by omega) (by omega) (by omega)
theorem step_eq' {s : TScheme} {d : Nat} {l : List Int} (hv : vldB s = true) (hd : s.Depth = (d : Int)) (h6 : d ≤ 6) (h : lstB d l = true) {v : Nat} (hh : hotB d (rcvL l) v = true) (acc : List TSubset) (ha : acc.length ≤ 1000) (nx : List TSubset → Option (List TSubset × Int)) :
    cover_Cover_S3 (treeI s, 0) (hotL d l) (v : Int) nx acc = nx (acc ++ (outP s.Kind d (rcvL l) v).map mkS) := by
  have hr := rcv_of h6 h
  have h64 := pow_le64 h6
  obtain ⟨v1, vl, v2⟩ := hot_log hr hh
  have hpow : 2 ^ (d + 1) = 2 * 2 ^ d := by rw [Nat.pow_succ, Nat.mul_comm]
  have hv128 : v < 128 := by omega
  have ht : treeI s = ⟨s.Kind, (d : Int), (strd d : Int)⟩ := by unfold treeI; rw [hd, Int.toNat_natCast]
  have hkd : (treeI s).kind = s.Kind := rfl
  have hsib : cover_node_sibling (v : Int) = some ((v ^^^ 1 : Nat) : Int) := by unfold cover_node_sibling; rw [bit_xor hv128]
  have hadd : ∀ (a b : Int) (acc : List TSubset), acc.length ≤ 2000 → cover_Cover_1 a b acc = some (acc ++ [⟨a, b⟩]) := fun a b acc hl => by
    unfold cover_Cover_1; rw [appG_some (by simp; omega), bind_some]
  unfold cover_Cover_S3
  simp only [hkd]
  by_cases hk : s.Kind = 1#8
  · rw [if_pos hk]
    unfold outP
    rw [if_pos hk]
    by_cases hv1 : v = 1
    · rw [if_neg (by omega), if_neg (by simp [hv1])]
      unfold cover_Cover_J4; simp
    · rw [if_pos (by omega), hsib, bind_some]
      unfold cover_Cover_J4
      have hdm := dec_mem h6 h (v ^^^ 1)
      by_cases hs : hotB d (rcvL l) (v ^^^ 1) = true
      · rw [decide_eq_false (p := ¬ (((v ^^^ 1 : Nat) : Int) ∈ hotL d l)) (fun hn => hn ((hotL_hot h6 h _).2 hs)), cond_false, if_neg (by simp [hs])]; simp
      · have hs' : hotB d (rcvL l) (v ^^^ 1) = false := by simpa using hs
        rw [decide_eq_true (p := ¬ (((v ^^^ 1 : Nat) : Int) ∈ hotL d l)) (fun hm => hs ((hotL_hot h6 h _).1 hm)), cond_true, hsib, bind_some, hadd _ _ _ (by omega), bind_some, if_pos ⟨hv1, hs'⟩]
        rfl
  · rw [if_neg hk]
    -- the way on for heads
    have go : isHd d (rcvL l) v = true → cover_Cover_J5 (treeI s, 0) (hotL d l) acc nx (v : Int) false = nx (acc ++ (outP s.Kind d (rcvL l) v).map mkS) := by
      intro hhd
      unfold cover_Cover_J5
      rw [cond_false, foot_loop h6 h acc nx (v : Int) 7 FUEL v v1 vl (by omega) (by unfold FUEL; omega)]
      unfold outP
      rw [if_neg hk, if_pos hhd]
      obtain ⟨w1, w2, w3, K, w4, w5, w6⟩ := foot_spec hr 7 v v1 vl (by omega)
      generalize footN d (rcvL l) 7 v = w at *
      by_cases hw : w = v
      · rw [if_pos (by omega), if_pos hw]; simp
      · rw [if_neg (by omega), if_neg hw]
        have hlw := log2_div w K w4
        rw [← w5] at hlw
        have hK : 1 ≤ K := by
          rcases Nat.eq_zero_or_pos K with h0 | h0
          · subst h0; simp at w5; exact absurd w5.symm hw
          · exact h0
        have hw128 : w < 128 := by
          have := (Nat.log2_lt (n := w) (k := d + 1) (by omega)).1 (by omega)
          omega
        have hcut : cover_tree_cut (treeI s) (v : Int) (w : Int) = some ((cutN d v w : Nat) : Int) := by
          obtain ⟨K', rfl⟩ : ∃ K', K = K' + 1 := ⟨K - 1, by omega⟩
          have := cut_eq (kd := s.Kind) (d := d) (m := w) (k := K') hw128 w4 (by omega)
          rw [← w5] at this
          rw [ht, this]
          unfold cutN
          rw [show Nat.log2 w - Nat.log2 v - 1 = K' from by omega]
        have hspc : cover_tree_special (treeI s) (v : Int) = some (spcl d v) := by rw [ht]; exact special_eq v1 (by omega)
        rw [hcut, bind_some]
        have one : cover_Cover_J8 acc nx (v : Int) (w : Int) ((cutN d v w : Nat) : Int) false = nx (acc ++ [(v, w)].map mkS) := by
          unfold cover_Cover_J8 cover_Cover_J7
          rw [cond_false, hadd _ _ _ (by omega), bind_some]; rfl
        have two : cover_Cover_J8 acc nx (v : Int) (w : Int) ((cutN d v w : Nat) : Int) true = nx (acc ++ [(v, cutN d v w), (cutN d v w, w)].map mkS) := by
          unfold cover_Cover_J8 cover_Cover_J7
          rw [cond_true, hadd _ _ _ (by omega), bind_some, hadd _ _ _ (by simp; omega), bind_some, List.append_assoc]; rfl
        have hk3 : s.Kind = 2#8 ∨ s.Kind = 3#8 := by
          obtain ⟨a, b⟩ := vld_kind hv
          rcases kind_cases a b with e | e | e
          · exact absurd e hk
          · exact .inl e
          · exact .inr e
        unfold subN
        by_cases hc0 : cutN d v w = 0
        · rw [if_neg (by omega), one]
          have : (decide (s.Kind = 2#8) || spcl d v || decide (fstS d (pathN (w / 2) (Nat.log2 w - Nat.log2 v - 1)) = 0)) = true := by
            rw [decide_eq_true (p := fstS _ _ = 0) hc0]; simp
          rw [if_pos this]
        · have hc0' : decide (fstS d (pathN (w / 2) (Nat.log2 w - Nat.log2 v - 1)) = 0) = false := decide_eq_false hc0
          rw [if_pos (by omega), hc0', Bool.or_false]
          rcases hk3 with hk3 | hk3
          · rw [if_neg (by rw [hkd, hk3]; decide), one, if_pos (by simp [hk3])]
          · rw [if_pos (show (treeI s).kind = 3#8 from hk3), hspc, bind_some]
            have : decide (s.Kind = 2#8) = false := by rw [hk3]; decide
            rw [this, Bool.false_or]
            cases spcl d v with
            | true => rw [Bool.not_true, one, if_pos rfl]
            | false => rw [Bool.not_false, two, if_neg (by simp)]
    have no : isHd d (rcvL l) v = false → cover_Cover_J5 (treeI s, 0) (hotL d l) acc nx (v : Int) true = nx (acc ++ (outP s.Kind d (rcvL l) v).map mkS) := by
      intro hhd
      unfold cover_Cover_J5 outP
      rw [cond_true, if_neg hk, if_neg (by rw [hhd]; simp)]; simp
    by_cases hv1 : v = 1
    · rw [if_neg (by omega)]; exact go (by unfold isHd; simp [hv1])
    · rw [if_pos (by omega), hsib, bind_some]
      by_cases hs : hotB d (rcvL l) (v ^^^ 1) = true
      · rw [decide_eq_false (p := ¬ (((v ^^^ 1 : Nat) : Int) ∈ hotL d l)) (fun hn => hn ((hotL_hot h6 h _).2 hs))]; exact go (by unfold isHd; simp [hs])
      · have hs' : hotB d (rcvL l) (v ^^^ 1) = false := by simpa using hs
        rw [decide_eq_true (p := ¬ (((v ^^^ 1 : Nat) : Int) ∈ hotL d l)) (fun hm => hs ((hotL_hot h6 h _).1 hm))]; exact no (by unfold isHd; simp [hs', hv1])
/-! any order -/
theorem cov_filter {d : Nat} {R : List Nat} (h : Rcv d R) {k : BitVec 8} (hne : R ≠ []) {v : Nat} (hv : hotB d R v = true) : (covN k d R).filter (fun y => decide (ownN k d R y = v)) = outP k d R v := by
  refine asc_ext ?_ ?_ fun y => ?_
  · exact List.Pairwise.filter _ cov_asc
  · unfold outP Asc
    split
    · split <;> simp
    · split
      · split
        · simp
        · split
          · simp
          · rename_i h2 h3 h4 h5
            obtain ⟨v1, vl, v2⟩ := hot_log h hv
            obtain ⟨w1, w2, w3, K, w4, w5, w6⟩ := foot_spec h 7 v v1 vl (by have := h.1; omega)
            obtain ⟨j, j1, j2, j3⟩ := cut_chain (k := k) (d := d) (.inr trivial) w4 w5 v1 (by simpa using h5)
            simp only [List.pairwise_cons, List.mem_singleton, List.not_mem_nil, false_imp_iff, implies_true, List.Pairwise.nil, and_true, forall_eq]
            have hj2 : 2 ^ j ≤ footN d R 7 v := Nat.le_trans (Nat.pow_le_pow_right (by omega) (by omega)) w4
            have hl1 := log2_div _ _ w4
            have hl2 := log2_div _ _ hj2
            rw [← w5] at hl1
            rw [← j3] at hl2
            rcases Nat.lt_or_ge v (cutN d v (footN d R 7 v)) with hlt | hge
            · exact hlt
            · have := log2_mono hge; omega
      · simp
  · rw [List.mem_filter, decide_eq_true_eq]; exact cov_own h hne hv y
theorem cov_len {k : BitVec 8} {d : Nat} {R : List Nat} (h6 : d ≤ 6) : (covN k d R).length ≤ 127 := by
  have h64 := pow_le64 h6
  have hpow : 2 ^ (d + 1) = 2 * 2 ^ d := by rw [Nat.pow_succ, Nat.mul_comm]
  refine Nat.le_trans (List.length_filterMap_le _ _) ?_
  simp [nodN]; omega
theorem filter_split {α : Type} (p q : α → Bool) (hpq : ∀ a, p a = true → q a = false) (l : List α) : (l.filter fun a => p a || q a).Perm (l.filter p ++ l.filter q) := by
  induction l with
  | nil => simp
  | cons a l ih =>
    cases hp : p a with
    | true =>
      have hq := hpq a hp
      simp only [List.filter_cons, hp, hq, Bool.true_or, if_true, Bool.false_eq_true, if_false, List.cons_append]
      exact ih.cons a
    | false =>
      cases hq : q a with
      | true =>
        simp only [List.filter_cons, hp, hq, Bool.or_true, if_true, Bool.false_eq_true, if_false]
        exact (ih.cons a).trans List.perm_middle.symm
      | false =>
        simp only [List.filter_cons, hp, hq, Bool.or_false, Bool.false_eq_true, if_false]
        exact ih
theorem srt_cov {k : BitVec 8} {d : Nat} {R : List Nat} (h6 : d ≤ 6) {acc : List TSubset} (h : acc.Perm ((covN k d R).map mkS)) : srtBy TSubset.Node acc = some ((covN k d R).map mkS) := by
  have h64 := pow_le64 h6
  have hpow : 2 ^ (d + 1) = 2 * 2 ^ d := by rw [Nat.pow_succ, Nat.mul_comm]
  have hasc : ((covN k d R).map mkS).Pairwise fun a b => a.Node < b.Node := by
    rw [List.pairwise_map]
    exact (cov_asc (k := k) (d := d) (R := R)).imp (fun {a b} hab => by unfold mkS; simp only; omega)
  have hnd : (((covN k d R).map mkS).map TSubset.Node).Nodup := by
    unfold List.Nodup
    rw [List.pairwise_map]
    exact hasc.imp (by omega)
  unfold srtBy
  rw [if_pos]
  · congr 1
    have hs := List.pairwise_mergeSort (le := fun a b : TSubset => decide (a.Node ≤ b.Node)) (fun a b c h1 h2 => by simp at *; omega) (fun a b => by simp; omega) acc
    have hp : (acc.mergeSort fun a b => decide (a.Node ≤ b.Node)).Perm ((covN k d R).map mkS) := (List.mergeSort_perm acc _).trans h
    -- both ascend, and are permutations of one another
    have key : ∀ (l m : List TSubset), l.Perm m → (l.Pairwise fun a b => decide (a.Node ≤ b.Node) = true) → (m.Pairwise fun a b => a.Node < b.Node) → l = m := by
      intro l m hlm hl hm
      have hlnd : (l.map TSubset.Node).Nodup := by
        have : (m.map TSubset.Node).Nodup := by unfold List.Nodup; rw [List.pairwise_map]; exact hm.imp (by omega)
        exact (hlm.map _).nodup_iff.2 this
      have hl' : l.Pairwise fun a b => a.Node < b.Node := by
        unfold List.Nodup at hlnd
        rw [List.pairwise_map] at hlnd
        exact (hl.and hlnd).imp (fun {a b} hab => by have := of_decide_eq_true hab.1; have := hab.2; omega)
      clear hl hlnd
      induction m generalizing l with
      | nil => exact hlm.eq_nil
      | cons b m ih =>
        cases l with
        | nil => exact absurd hlm.symm.eq_nil (by simp)
        | cons a l =>
          have ha := List.pairwise_cons.1 hl'
          have hb := List.pairwise_cons.1 hm
          have hab : a = b := by
            rcases List.mem_cons.1 (hlm.subset (List.mem_cons_self)) with e | e
            · exact e
            · rcases List.mem_cons.1 (hlm.symm.subset (List.mem_cons_self)) with e2 | e2
              · exact e2.symm
              · have := ha.1 b e2; have := hb.1 a e; omega
          subst hab
          rw [ih l (List.Perm.cons_inv hlm) hb.2 ha.2]
    exact key _ _ hp hs hasc
  · refine ⟨fun x hx => ?_, (h.map _).nodup_iff.2 hnd, ?_⟩
    · obtain ⟨y, hy, rfl⟩ := List.mem_map.1 (h.subset hx)
      have := (cov_mem.1 hy).1
      unfold mkS; simp only; omega
    · rw [h.length_eq, List.length_map]; have := cov_len (k := k) (R := R) h6; omega
theorem range_cov {s : TScheme} {d : Nat} {l : List Int} (hv : vldB s = true) (hd : s.Depth = (d : Int)) (h6 : d ≤ 6) (h : lstB d l = true) (hne : l ≠ []) (hl : l.length * 8 ≤ 140737488355328) :
    rngM (cover_Cover_S3 (treeI s, 0) (hotL d l)) cover_Cover_E3 FUEL (hotL d l) [] = some ((covN s.Kind d (rcvL l)).map mkS, 0) := by
  have hr := rcv_of h6 h
  have hne' : rcvL l ≠ [] := by unfold rcvL; simpa using hne
  refine rngM_run (fun rem acc => (∀ k ∈ rem, k ∈ hotL d l) ∧ acc.Perm (((covN s.Kind d (rcvL l)).filter fun y => decide (((ownN s.Kind d (rcvL l) y : Nat) : Int) ∉ rem)).map mkS)) ?_ ?_ FUEL (hotL d l) [] ?_ ⟨fun _ hk => hk, ?_⟩
  · rintro acc ⟨_, hp⟩
    have : ((covN s.Kind d (rcvL l)).filter fun y => decide (((ownN s.Kind d (rcvL l) y : Nat) : Int) ∉ ([] : List Int))) = covN s.Kind d (rcvL l) := List.filter_eq_self.2 (by simp)
    rw [this] at hp
    unfold cover_Cover_E3
    rw [srt_cov h6 hp, bind_some]
  · rintro rem acc k hk ⟨hsub, hp⟩
    obtain ⟨v, rfl, hvh⟩ := hotL_nat h6 h (hsub k hk)
    have hal : acc.length ≤ 1000 := by
      rw [hp.length_eq, List.length_map]
      have := cov_len (k := s.Kind) (R := rcvL l) h6
      have := List.length_filter_le (fun y => decide (((ownN s.Kind d (rcvL l) y : Nat) : Int) ∉ rem)) (covN s.Kind d (rcvL l))
      omega
    refine ⟨acc ++ (outP s.Kind d (rcvL l) v).map mkS, ⟨fun j hj => hsub j (List.mem_filter.1 hj).1, ?_⟩, fun nx => step_eq' hv hd h6 h hvh acc hal nx⟩
    have hsp := filter_split (fun y => decide (((ownN s.Kind d (rcvL l) y : Nat) : Int) ∉ rem)) (fun y => decide (ownN s.Kind d (rcvL l) y = v)) (fun y hy => by
      simp only [decide_eq_true_eq, decide_eq_false_iff_not] at hy ⊢
      rintro rfl; exact hy hk) (covN s.Kind d (rcvL l))
    rw [cov_filter hr hne' hvh] at hsp
    have hcg : ((covN s.Kind d (rcvL l)).filter fun y => decide (((ownN s.Kind d (rcvL l) y : Nat) : Int) ∉ rem.filter (· ≠ (v : Int)))) = ((covN s.Kind d (rcvL l)).filter fun y => decide (((ownN s.Kind d (rcvL l) y : Nat) : Int) ∉ rem) || decide (ownN s.Kind d (rcvL l) y = v)) := by
      apply List.filter_congr
      intro y _
      rw [Bool.eq_iff_iff]
      simp only [Bool.or_eq_true, decide_eq_true_eq, List.mem_filter, not_and, ne_eq, Decidable.not_not, decide_not, Bool.not_eq_true', decide_eq_false_iff_not]
      constructor
      · intro hh
        by_cases hm : ((ownN s.Kind d (rcvL l) y : Nat) : Int) ∈ rem
        · have := hh hm; right; omega
        · exact .inl hm
      · rintro (hh | hh) hm
        · exact absurd hm hh
        · rw [hh]
    rw [hcg]
    refine List.Perm.trans ?_ (hsp.map mkS).symm
    rw [List.map_append]
    exact hp.append_right _
  · have := hotL_len (d := d) l []
    unfold hotL FUEL
    simp only [List.length_nil, Nat.zero_add] at this
    omega
  · have : ((covN s.Kind d (rcvL l)).filter fun y => decide (((ownN s.Kind d (rcvL l) y : Nat) : Int) ∉ hotL d l)) = [] := by
      rw [List.filter_eq_nil_iff]
      intro y hy
      simp only [decide_eq_true_eq]
      exact fun hn => hn ((hotL_hot h6 h _).2 (own_hot hr hne' hy))
    rw [this]; simp
/-- the cover, with its errors -/
def covP (s : TScheme) (l : List Int) : List TSubset × Int :=
  if vldB s then (if lstB s.Depth.toNat l then ((if l = [] then [⟨1, 0⟩] else (covN s.Kind s.Depth.toNat (rcvL l)).map mkS), 0) else ([], 2)) else ([], 30)
theorem pcover_eq (s : TScheme) (l : List Int) (hl : l.length * 8 ≤ 140737488355328) : cover_Cover s l = some (covP s l) := by
  unfold cover_Cover covP
  rw [enter0, bind_some]
  cases hv : vldB s with
  | false => rfl
  | true =>
    obtain ⟨d, hd, h6⟩ := vld_depth hv
    have ht : treeI s = ⟨s.Kind, (d : Int), (strd d : Int)⟩ := by unfold treeI; rw [hd, Int.toNat_natCast]
    simp only [if_true]
    rw [if_neg (by simp), hd, Int.toNat_natCast]
    have e0 : cover_tree_list (treeI s) l = some (lstB d l) := by rw [ht]; exact list_eq h6 l (by omega)
    rw [e0, bind_some]
    cases hb : lstB d l with
    | false => rfl
    | true =>
      simp only [Bool.not_true, cond_false, if_true]
      by_cases hne : l = []
      · subst hne; rfl
      · rw [if_neg (by intro h0; apply hne; exact List.eq_nil_of_length_eq_zero (by omega)), if_neg hne]
        have := fix_itL l (cover_Cover_L1 l (treeI s, 0)) (fun j (ks : List Int) => ((j : Int), ks)) (fun u nx ks => nx (upF 8 (2 ^ d + u.toNat) ks)) (fun ks => rngM (cover_Cover_S3 (treeI s, 0) ks) cover_Cover_E3 FUEL ks [])
          (fun rec j hj ks => by
            obtain ⟨u, hu, hu2⟩ := lst_mem hb (List.getElem_mem hj)
            have h64 := pow_le64 h6
            simp only [cover_Cover_L1]
            have hlf : cover_tree_leaf (treeI s) (u : Int) = some ((2 ^ d + u : Nat) : Int) := by rw [ht]; exact leaf_eq h6 (by omega)
            rw [if_pos (by omega), getI_some hj, bind_some, hu, hlf, bind_some, up_loop _ _ 8 FUEL _ _ (by omega) (by unfold FUEL; omega), w64_nat (by omega), Int.toNat_natCast])
          (fun rec ks => by simp only [cover_Cover_L1]; rw [if_neg (by omega)]) (f := FUEL) (fuel_lt (by omega)) ([] : List Int)
        rw [show ((0 : Nat) : Int) = 0 from rfl] at this
        rw [this, itL_fold (fun ks u => upF 8 (2 ^ d + u.toNat) ks) _ _ (fun _ _ => True) l 0 [] (fun _ _ _ _ _ _ => rfl) (fun _ _ _ _ _ => trivial) trivial]
        exact range_cov hv hd h6 hb hne hl
end Go.Sx

end
section
set_option linter.unusedVariables false
set_option linter.unusedSimpArgs false
set_option maxRecDepth 100000
namespace Go.Sx.Pn
open Go Go.Sx
theorem check_eq (s : TScheme) : cover_Check s = some (if vldB s then 0 else 30) := by
  unfold cover_Check
  rw [treeOf_eq, bind_some]
  cases vldB s <;> rfl
theorem kd_mem {k d : Nat} (hk : 1 ≤ k ∧ k ≤ 3) (hd : d ≤ 6) : k ∈ [1, 2, 3] ∧ d ∈ List.range 7 := by
  refine ⟨?_, List.mem_range.2 (by omega)⟩
  rcases (show k = 1 ∨ k = 2 ∨ k = 3 by omega) with rfl | rfl | rfl <;> simp
theorem sch_vld {k d : Nat} (hk : 1 ≤ k ∧ k ≤ 3) (hd : d ≤ 6) : vldB (sch k d) = true := by
  unfold vldB sch
  apply decide_eq_true
  refine ⟨?_, ?_, by simp only; omega, by simp only; omega, rfl, rfl⟩ <;> rcases (show k = 1 ∨ k = 2 ∨ k = 3 by omega) with rfl | rfl | rfl <;> (simp only; decide)
theorem vld_sch {s : TScheme} (h : vldB s = true) : ∃ k d : Nat, (1 ≤ k ∧ k ≤ 3) ∧ d ≤ 6 ∧ s = sch k d := by
  obtain ⟨kind, depth, deg, grp⟩ := s
  unfold vldB at h
  obtain ⟨h1, h2, h3, h4, h5, h6⟩ := of_decide_eq_true h
  simp only at h1 h2 h3 h4 h5 h6
  subst h5 h6
  have e1 : (1#8).toNat = 1 := rfl
  have e3 : (3#8).toNat = 3 := rfl
  rw [BitVec.le_def] at h1 h2
  rw [e1] at h1; rw [e3] at h2
  refine ⟨kind.toNat, depth.toNat, by omega, by omega, ?_⟩
  unfold sch
  rw [BitVec.ofNat_toNat, BitVec.setWidth_eq, Int.toNat_of_nonneg (by omega)]; rfl
theorem pow64 {d : Nat} (h : d ≤ 6) : 2 ^ d ≤ 64 := Nat.le_trans (Nat.pow_le_pow_right (by omega) h) (by decide)
theorem shlD {d : Nat} (h : d ≤ 6) : shlI 1 d = ((2 ^ d : Nat) : Int) := by
  have := pow64 h
  unfold shlI
  rw [Nat.min_eq_left (by omega), Int.one_mul, show (2 : Int) ^ d = ((2 ^ d : Nat) : Int) from by rw [Int.natCast_pow]; rfl]
  generalize 2 ^ d = m at *
  exact w64_id (by omega) (by omega)
theorem shGn (n : Nat) : shG (n : Int) = some n := by unfold shG; rw [if_pos (by omega)]; rfl
section
variable {k d r : Nat}
theorem worst_tb (hk : 1 ≤ k ∧ k ≤ 3) (hd : d ≤ 6) (hr : r ≤ 2 ^ d) : plan_tables_worst (tb k d) (r : Int) = some (wst k d r) := by
  obtain ⟨h1, h2⟩ := kd_mem hk hd
  exact worst_all k h1 d h2 r (List.mem_range.2 (by omega))
theorem worst_no {s : TScheme} (h : vldB s = false) (q : Int) : plan_Worst s q = some (0, 30) := by
  unfold plan_Worst
  rw [check_eq, bind_some, h]; rfl
theorem worst_arg (hk : 1 ≤ k ∧ k ≤ 3) (hd : d ≤ 6) {q : Int} (hq : q < 0 ∨ ((2 ^ d : Nat) : Int) < q) : plan_Worst (sch k d) q = some (0, 2) := by
  unfold plan_Worst
  rw [check_eq, bind_some, sch_vld hk hd, if_pos rfl, if_neg (by decide)]
  by_cases h0 : q < 0
  · rw [if_pos h0]; rfl
  · rw [if_neg h0, show (sch k d).Depth = (d : Int) from rfl, shGn, bind_some, shlD hd, decide_eq_true (by omega)]; rfl
theorem worst_ok (hk : 1 ≤ k ∧ k ≤ 3) (hd : d ≤ 6) (hr : r ≤ 2 ^ d) : plan_Worst (sch k d) (r : Int) = some ((wst k d r).1, 0) := by
  unfold plan_Worst
  rw [check_eq, bind_some, sch_vld hk hd, if_pos rfl, if_neg (by decide), if_neg (by omega), show (sch k d).Depth = (d : Int) from rfl, shGn, bind_some, shlD hd, decide_eq_false (by omega)]
  unfold plan_Worst_J1
  rw [cond_false, nt hk hd, bind_some, worst_tb hk hd hr, bind_some]
end
end Go.Sx.Pn

end
section
set_option linter.unusedVariables false
set_option linter.unusedSimpArgs false
set_option maxRecDepth 100000
namespace Go.Sx.Pn
open Go Go.Sx
def rwT (k d st : Nat) : List Int := match st with
  | 0 => (tb k d).rows.a0
  | 1 => (tb k d).rows.a1
  | 2 => (tb k d).rows.a2
  | _ => (tb k d).rows.a3
/-- an entry of the tables -/
def tT (k d st h c : Nat) : Nat := ((rwT k d st).getD (2 ^ h - 1 + h + c) 0).toNat
def belT (k d h st : Nat) : Nat := if k = 2 then 1 else if st = 0 then (if (d - (h + 1)) % strd d = 0 then 1 else 2) else if st = 2 then (if (d - (h + 1)) % strd d = 0 then 3 else 2) else st
def sts (k : Nat) : List Nat := List.range (if k = 2 then 2 else 4)
theorem tk_one : ∀ d ∈ List.range 7, ∀ h ∈ List.range (d + 1), 1 ≤ tT 1 d 0 h 0 := by decide +kernel
theorem tk_add1 : ∀ d ∈ List.range 7, ∀ h ∈ List.range d, ∀ a ∈ List.range (2 ^ h + 1), ∀ b ∈ List.range (2 ^ h + 1), 0 < a + b → tT 1 d 0 h a + tT 1 d 0 h b ≤ tT 1 d 0 (h + 1) (a + b) := by decide +kernel
theorem tk_mor : ∀ k ∈ [2, 3], ∀ d ∈ List.range 7, ∀ st ∈ sts k, morC st ≤ tT k d st 0 1 := by decide +kernel
theorem tk_add2 : ∀ d ∈ List.range 7, ∀ st ∈ sts 2, ∀ h ∈ List.range d, ∀ a ∈ List.range (2 ^ h + 1), ∀ b ∈ List.range (2 ^ h + 1), 0 < a → 0 < b → morC st + tT 2 d 0 h a + tT 2 d 0 h b ≤ tT 2 d st (h + 1) (a + b) := by decide +kernel
theorem tk_add3 : ∀ d ∈ List.range 7, ∀ st ∈ sts 3, ∀ h ∈ List.range d, ∀ a ∈ List.range (2 ^ h + 1), ∀ b ∈ List.range (2 ^ h + 1), 0 < a → 0 < b → morC st + tT 3 d 0 h a + tT 3 d 0 h b ≤ tT 3 d st (h + 1) (a + b) := by decide +kernel
theorem tk_bel : ∀ k ∈ [2, 3], ∀ d ∈ List.range 7, ∀ st ∈ sts k, ∀ h ∈ List.range d, ∀ a ∈ List.range (2 ^ h + 1), 0 < a → tT k d (belT k d h st) h a ≤ tT k d st (h + 1) a := by decide +kernel
theorem tk_top : ∀ k ∈ [1, 2, 3], ∀ d ∈ List.range 7, ∀ r ∈ List.range (2 ^ d + 1), 1 ≤ (wst k d r).1 ∧ ∀ c ∈ List.range (r + 1), 0 < c → (tT k d 0 d c : Int) ≤ (wst k d r).1 := by decide +kernel
theorem sts_mem {k st : Nat} (h1 : st < 4) (h2 : k = 2 → st < 2) : st ∈ sts k := by
  unfold sts
  refine List.mem_range.2 ?_
  split
  · exact h2 ‹_›
  · exact h1
theorem k8 {k : Nat} (hk : 1 ≤ k ∧ k ≤ 3) (j : Nat) (hj : 1 ≤ j ∧ j ≤ 3) : (BitVec.ofNat 8 k = BitVec.ofNat 8 j) ↔ k = j := by
  constructor
  · intro h
    have := congrArg BitVec.toNat h
    rw [BitVec.toNat_ofNat, BitVec.toNat_ofNat] at this
    omega
  · intro h; rw [h]
/-- the stage's theorem, on plain covers -/
theorem cov_worst {k d r : Nat} {R : List Nat} (hk : 1 ≤ k ∧ k ≤ 3) (hr : Rcv d R) (hn : R.Nodup) (hle : R.length ≤ r) (hr2 : r ≤ 2 ^ d) : ((covQ (BitVec.ofNat 8 k) d R).length : Int) ≤ (wst k d r).1 ∧ 1 ≤ (wst k d r).1 := by
  obtain ⟨hkm, hdm⟩ := kd_mem hk hr.1
  obtain ⟨t1, t2⟩ := tk_top k hkm d hdm r (List.mem_range.2 (by omega))
  refine ⟨?_, t1⟩
  unfold covQ
  by_cases hne : R = []
  · rw [if_pos hne]; simpa using t1
  rw [if_neg hne]
  have hpos : 0 < R.length := List.length_pos_iff.2 hne
  have h3 := t2 R.length (List.mem_range.2 (by omega)) hpos
  have hlen := cov_lenB hr hne (BitVec.ofNat 8 k)
  have hroot := root_hot hr hne
  have hcr := cnt_root hr
  have hl1 : Nat.log2 1 = 0 := by decide
  have key : ownC (BitVec.ofNat 8 k) d R 1 + belC (BitVec.ofNat 8 k) d R d 1 ≤ tT k d 0 d R.length := by
    rcases (show k = 1 ∨ k = 2 ∨ k = 3 by omega) with rfl | hk2
    · have h0 : ownC (BitVec.ofNat 8 1) d R 1 = 0 := by
        unfold ownC ownL outP
        rw [if_pos hroot, if_pos rfl, if_neg (by simp)]; rfl
      have := bel_one hr hn (fun h c => tT 1 d 0 h c) (fun h hh => tk_one d hdm h (List.mem_range.2 (by omega)))
        (fun h a b hh ha hb hab => tk_add1 d hdm h (List.mem_range.2 hh) a (List.mem_range.2 (by omega)) b (List.mem_range.2 (by omega)) hab) d 1 (by omega) (by omega) hroot
      rw [hcr] at this
      rw [h0, Nat.zero_add]; exact this
    · have hk1 : BitVec.ofNat 8 k ≠ 1#8 := fun h => by have := (k8 hk 1 (by omega)).1 h; omega
      have hk23 : k ∈ [2, 3] := by rcases hk2 with rfl | rfl <;> simp
      have e2 : ∀ {p : Prop}, (BitVec.ofNat 8 k = 2#8 → p) → (k = 2 → p) := fun h h2 => h ((k8 hk 2 (by omega)).2 h2)
      have := bel_two hr hn hk1 (fun st h c => tT k d st h c)
        (fun st s1 s2 => tk_mor k hk23 d hdm st (sts_mem s1 (e2 s2)))
        (fun st h a b s1 s2 hh ha hb ha0 hb0 => by
          rcases hk2 with rfl | rfl
          · exact tk_add2 d hdm st (sts_mem s1 (e2 s2)) h (List.mem_range.2 hh) a (List.mem_range.2 (by omega)) b (List.mem_range.2 (by omega)) ha0 hb0
          · exact tk_add3 d hdm st (sts_mem s1 (e2 s2)) h (List.mem_range.2 hh) a (List.mem_range.2 (by omega)) b (List.mem_range.2 (by omega)) ha0 hb0)
        (fun st h a v s1 s2 hh ha ha0 hv => by
          have hb := tk_bel k hk23 d hdm st (sts_mem s1 (e2 s2)) h (List.mem_range.2 hh) a (List.mem_range.2 (by omega)) ha0
          have hs : spcl d v = decide ((d - (h + 1)) % strd d = 0) := by unfold spcl; rw [show Nat.log2 v = d - (h + 1) by omega]
          have he : belS (BitVec.ofNat 8 k) d v st = belT k d h st := by
            unfold belS belT
            rw [hs]
            simp only [k8 hk 2 (by omega), decide_eq_true_eq]
          show tT k d (belS (BitVec.ofNat 8 k) d v st) h a ≤ _
          rw [he]; exact hb)
        d 1 0 (by omega) (by omega) hroot (by simp) (by simp [isHd]) (fun t ht => by omega)
      rw [hcr, show stC (BitVec.ofNat 8 k) d 1 0 = 0 from rfl] at this
      simpa using this
  omega
end Go.Sx.Pn

end
section
set_option linter.unusedVariables false
set_option maxRecDepth 100000
namespace Go.Sx.Pn
open Go Go.Sx
theorem alive10 : law10_alive = some true := by kernel_rfl
end Go.Sx.Pn

end
section
set_option linter.unusedVariables false
set_option linter.unusedSimpArgs false
set_option maxRecDepth 100000
namespace Go.Sx
open Go Go.Sx.Pn
theorem lst_nodup {d : Nat} {l : List Int} (h : lstB d l = true) : (rcvL l).Nodup := by
  have key : ∀ i j (hi : i < l.length) (hj : j < l.length), i < j → l[i] < l[j] := by
    intro i j hi hj hij
    induction j with
    | zero => omega
    | succ j ih =>
      unfold lstB at h
      rw [List.all_eq_true] at h
      have h1 := h (j + 1) (List.mem_range.2 hj)
      rw [Bool.and_eq_true, Bool.or_eq_true, decide_eq_true_eq, decide_eq_true_eq, decide_eq_true_eq, getD_some hj, Nat.add_sub_cancel, getD_some (by omega : j < l.length)] at h1
      have h2 := h1.2.resolve_left (by omega)
      rcases Nat.lt_or_ge i j with h3 | h3
      · have := ih (by omega) h3; omega
      · obtain rfl : i = j := by omega
        exact h2
  unfold rcvL
  refine List.pairwise_iff_getElem.2 fun i j hi hj hij => ?_
  rw [List.length_map] at hi hj
  rw [List.getElem_map, List.getElem_map]
  have h1 := key i j hi hj hij
  obtain ⟨a, ha, _⟩ := lst_mem h (List.getElem_mem hi)
  obtain ⟨b, hb, _⟩ := lst_mem h (List.getElem_mem hj)
  omega
theorem law10_PlanBounds_ok (s : TScheme) (l : List Int) (q : Int) (hs : s.ok) (hl : ∀ a ∈ l, I64 a) (hlen : l.length * 8 ≤ 140737488351232) (hq : I64 q) : law10_PlanBounds s l q = some true := by
  unfold law10_PlanBounds
  rw [alive10, bind_some]
  by_cases h1 : (100 : Int) < (l.length : Int)
  · rw [if_pos h1]; rfl
  rw [if_neg h1]
  by_cases h2 : q < (l.length : Int)
  · rw [if_pos h2]; rfl
  rw [if_neg h2]
  unfold law10_PlanBounds_J1
  rw [Bool.not_true, cond_false, pcover_eq _ _ (by omega), bind_some]
  cases hv : vldB s with
  | false =>
    rw [worst_no hv, bind_some, if_pos (by unfold covP; rw [hv, if_neg (by simp)]; simp)]; rfl
  | true =>
    obtain ⟨k, d, hk, hd, rfl⟩ := vld_sch hv
    have h64 := pow64 hd
    by_cases hr : q < 0 ∨ ((2 ^ d : Nat) : Int) < q
    · rw [worst_arg hk hd hr, bind_some]
      split
      · rfl
      · rfl
    · obtain ⟨r, rfl⟩ : ∃ r : Nat, q = (r : Int) := ⟨q.toNat, by omega⟩
      have hr2 : r ≤ 2 ^ d := by omega
      rw [worst_ok hk hd hr2, bind_some]
      by_cases hc : (covP (sch k d) l).2 = 0
      · rw [if_neg (by simpa using hc)]
        unfold law10_PlanBounds_J2
        simp only
        have hlst : lstB d l = true := by
          unfold covP at hc
          rw [hv, if_pos rfl, show (sch k d).Depth.toNat = d from rfl] at hc
          cases hb : lstB d l with
          | true => rfl
          | false => rw [hb] at hc; simp at hc
        obtain ⟨w1, w2⟩ := cov_worst (r := r) hk (rcv_of hd hlst) (lst_nodup hlst) (by unfold rcvL; rw [List.length_map]; omega) hr2
        have he : (covP (sch k d) l).1.length = (covQ (BitVec.ofNat 8 k) d (rcvL l)).length := by
          unfold covP covQ
          rw [hv, if_pos rfl, show (sch k d).Depth.toNat = d from rfl, hlst, if_pos rfl]
          by_cases h0 : l = []
          · rw [if_pos h0, if_pos (by rw [h0]; rfl)]; rfl
          · rw [if_neg h0, if_neg (by unfold rcvL; rw [List.map_eq_nil_iff]; exact h0), List.length_map]; rfl
        rw [he, decide_eq_false (by simp), cond_false, cond_true, if_pos w1, decide_eq_true w2]
      · rw [if_pos hc]; rfl
end Go.Sx

end
