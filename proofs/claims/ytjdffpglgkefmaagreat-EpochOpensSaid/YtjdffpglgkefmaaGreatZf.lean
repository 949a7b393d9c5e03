/- Several texts in one: Cp Al5 Nm Vb Vp Kya Cx Mm Kv Fk Sv Fq Ls Pse Byp Pop Poq Pos Ip. -/
import Derived.Test.YtjdffpglgkefmaaGreatZe
import Derived.Test.YtjdffpglgkefmaaGreatZd
set_option linter.unusedVariables false
set_option linter.unusedSimpArgs false
section
set_option linter.unusedVariables false
set_option linter.unusedSimpArgs false
set_option maxRecDepth 100000
namespace Go.Sx
open Go
def mkS (y : Nat × Nat) : Qaf := ⟨(y.1 : Int), (y.2 : Int)⟩
def upF : Nat → Nat → List Int → List Int
  | 0, _, ks => ks
  | f + 1, n, ks => if n = 0 then ks else upF f (n / 2) (Xcb ks (n : Int))
theorem Xio (a5 : Int) (rec1 : Int × List Int → Option (List Qaf × Int)) : ∀ (f fuel n : Nat) (ks : List Int), n < 2 ^ f → f < fuel → Qc3 (Qg9 a5 rec1) fuel ((n : Int), ks) = rec1 (w64 (a5 + 1), upF f n ks)
  | f, 0, n, ks, _, h => by omega
  | 0, fuel + 1, n, ks, hn, _ => by
    rw [Qbn]; simp only [Qg9]
    rw [if_neg (by simp at hn; omega)]; rfl
  | f + 1, fuel + 1, n, ks, hn, hf => by
    rw [Qbn]; simp only [Qg9]
    unfold upF
    by_cases h0 : n = 0
    · rw [if_neg (by omega), if_pos h0]
    · rw [if_pos (by omega), if_neg h0, show shG (un 1#64) = some 1 from by decide, bind_some, Qyw _ _ (by omega), Nat.pow_one]
      exact Xio a5 rec1 f fuel (n / 2) _ (by rw [Nat.pow_succ] at hn; omega) (by omega)
theorem Xjr {ks : List Int} {k z : Int} : z ∈ Xcb ks k ↔ z ∈ ks ∨ z = k := by
  unfold Xcb; split
  · rename_i h; exact ⟨.inl, fun h' => h'.elim id (fun e => e ▸ h)⟩
  · simp
theorem Xjy {ks : List Int} {k : Int} : (Xcb ks k).length ≤ ks.length + 1 := by unfold Xcb; split <;> simp
theorem Xl5 : ∀ (f n : Nat) (ks : List Int) (z : Int), n < 2 ^ f → (z ∈ upF f n ks ↔ z ∈ ks ∨ ∃ j, 2 ^ j ≤ n ∧ z = ((n / 2 ^ j : Nat) : Int))
  | 0, n, ks, z, hn => by
    unfold upF
    constructor
    · exact .inl
    · rintro (h | ⟨j, hj, _⟩)
      · exact h
      · have := Nat.two_pow_pos j; simp at hn; omega
  | f + 1, n, ks, z, hn => by
    unfold upF
    by_cases h0 : n = 0
    · rw [if_pos h0]
      constructor
      · exact .inl
      · rintro (h | ⟨j, hj, _⟩)
        · exact h
        · have := Nat.two_pow_pos j; omega
    · rw [if_neg h0, Xl5 f (n / 2) _ z (by rw [Nat.pow_succ] at hn; omega), Xjr]
      have hd2 : ∀ j, n / 2 / 2 ^ j = n / 2 ^ (j + 1) := fun j => by rw [Nat.div_div_eq_div_mul, Nat.pow_succ, Nat.mul_comm 2]
      constructor
      · rintro ((h | h) | ⟨j, h1, h2⟩)
        · exact .inl h
        · exact .inr ⟨0, by simp; omega, by simpa using h⟩
        · exact .inr ⟨j + 1, by rw [Nat.pow_succ]; omega, by rw [h2, hd2]⟩
      · rintro (h | ⟨j, h1, h2⟩)
        · exact .inl (.inl h)
        · cases j with
          | zero => exact .inl (.inr (by simpa using h2))
          | succ j => exact .inr ⟨j, by rw [Nat.pow_succ] at h1; omega, by rw [h2, hd2]⟩
theorem Xlk : ∀ (f n : Nat) (ks : List Int), (upF f n ks).length ≤ ks.length + f
  | 0, n, ks => by simp [upF]
  | f + 1, n, ks => by
    unfold upF; split
    · omega
    · have := Xlk f (n / 2) (Xcb ks (n : Int)); have := Xjy (ks := ks) (k := (n : Int)); omega
def Qwq (d : Nat) (l : List Int) : List Int := l.foldl (fun ks u => upF 8 (2 ^ d + u.toNat) ks) []
theorem Qy6 {d : Nat} (h6 : d ≤ 6) : ∀ (l : List Int) (ks : List Int) (z : Int), (∀ u ∈ l, u.toNat < 2 ^ d) → (z ∈ l.foldl (fun ks u => upF 8 (2 ^ d + u.toNat) ks) ks ↔ z ∈ ks ∨ ∃ u ∈ l, ∃ j, 2 ^ j ≤ 2 ^ d + u.toNat ∧ z = (((2 ^ d + u.toNat) / 2 ^ j : Nat) : Int))
  | [], ks, z, _ => by simp
  | a :: l, ks, z, h => by
    have h64 := Qck h6
    have ha := h a (by simp)
    rw [List.foldl_cons, Qy6 h6 l _ z (fun u hu => h u (by simp [hu])), Xl5 8 _ _ _ (by omega)]
    constructor
    · rintro ((h1 | h1) | ⟨u, hu, h1⟩)
      · exact .inl h1
      · exact .inr ⟨a, by simp, h1⟩
      · exact .inr ⟨u, by simp [hu], h1⟩
    · rintro (h1 | ⟨u, hu, h1⟩)
      · exact .inl (.inl h1)
      · rcases List.mem_cons.1 hu with rfl | hu
        · exact .inl (.inr h1)
        · exact .inr ⟨u, hu, h1⟩
theorem Xdg {d : Nat} : ∀ (l : List Int) (ks : List Int), (l.foldl (fun ks u => upF 8 (2 ^ d + u.toNat) ks) ks).length ≤ ks.length + 8 * l.length
  | [], ks => by simp
  | a :: l, ks => by
    rw [List.foldl_cons, List.length_cons]
    have := Xdg (d := d) l (upF 8 (2 ^ d + a.toNat) ks)
    have := Xlk 8 (2 ^ d + a.toNat) ks
    omega
def Qih (l : List Int) : List Nat := l.map Int.toNat
theorem Qwp {d : Nat} {l : List Int} (h6 : d ≤ 6) (h : Qt6 d l = true) : Rcv d (Qih l) := ⟨h6, fun u hu => by
  obtain ⟨a, ha, rfl⟩ := List.mem_map.1 hu
  obtain ⟨w, hw, hw2⟩ := Xbm h ha
  rw [hw]; simpa using hw2⟩
theorem Qma {d : Nat} {l : List Int} (h6 : d ≤ 6) (h : Qt6 d l = true) (n : Nat) : ((n : Int) ∈ Qwq d l) ↔ Qib d (Qih l) n = true := by
  have hr := Qwp h6 h
  unfold Qwq
  rw [Qy6 h6 l [] _ (fun u hu => hr.2 _ (List.mem_map.2 ⟨u, hu, rfl⟩)), Qnu]
  simp only [List.not_mem_nil, false_or]
  constructor
  · rintro ⟨u, hu, j, h1, h2⟩
    refine ⟨u.toNat, List.mem_map.2 ⟨u, hu, rfl⟩, (Qbr (hr.leaf (List.mem_map.2 ⟨u, hu, rfl⟩)).1).2 ⟨j, h1, by omega⟩⟩
  · rintro ⟨u, hu, hb⟩
    obtain ⟨a, ha, rfl⟩ := List.mem_map.1 hu
    obtain ⟨j, h1, h2⟩ := (Qbr (hr.leaf hu).1).1 hb
    exact ⟨a, ha, j, h1, by rw [h2]⟩
theorem Xjk {d : Nat} {l : List Int} (h6 : d ≤ 6) (h : Qt6 d l = true) {k : Int} (hk : k ∈ Qwq d l) : ∃ n : Nat, k = (n : Int) ∧ Qib d (Qih l) n = true := by
  have hr := Qwp h6 h
  unfold Qwq at hk
  rw [Qy6 h6 l [] _ (fun u hu => hr.2 _ (List.mem_map.2 ⟨u, hu, rfl⟩))] at hk
  simp only [List.not_mem_nil, false_or] at hk
  obtain ⟨u, hu, j, h1, h2⟩ := hk
  exact ⟨_, h2, Qnu.2 ⟨u.toNat, List.mem_map.2 ⟨u, hu, rfl⟩, (Qbr (hr.leaf (List.mem_map.2 ⟨u, hu, rfl⟩)).1).2 ⟨j, h1, rfl⟩⟩⟩
theorem Xcm {d : Nat} {l : List Int} (h6 : d ≤ 6) (h : Qt6 d l = true) (n : Nat) : decide ((n : Int) ∈ Qwq d l) = Qib d (Qih l) n := by
  cases hb : Qib d (Qih l) n with
  | true => exact decide_eq_true ((Qma h6 h n).2 hb)
  | false => exact decide_eq_false fun hm => by rw [(Qma h6 h n).1 hm] at hb; cases hb
theorem Xb0 {s : Qa7} {d : Nat} {l : List Int} (h6 : d ≤ 6) (h : Qt6 d l = true) (acc : List Qaf) (nx : List Qaf → Option (List Qaf × Int)) (k : Int) : ∀ (f fuel v : Nat), 1 ≤ v → Nat.log2 v ≤ d → d - Nat.log2 v < f → f ≤ fuel →
    Qc3 (Qe6 (Qds s, 0) (Qwq d l) acc nx k) fuel (v : Int) = (if (Qdp d (Qih l) f v : Int) = k then nx acc else Option.bind (Qe3 (Qds s) k (Qdp d (Qih l) f v : Int)) fun x31 => (if x31 ≠ 0 then (if (Qds s).kind = 3#8 then Option.bind (Qcm (Qds s) k) fun x34 => (Qd1 acc nx k (Qdp d (Qih l) f v : Int) x31 (!x34)) else Qd1 acc nx k (Qdp d (Qih l) f v : Int) x31 false) else Qd1 acc nx k (Qdp d (Qih l) f v : Int) x31 false))
  | 0, fuel, v, _, _, hf, _ => by omega
  | f + 1, 0, v, _, _, _, hf => by omega
  | f + 1, fuel + 1, v, hv, hl, hf, hff => by
    have hr := Qwp h6 h
    have h64 := Qck h6
    have hv128 : v < 128 := by
      have := (Nat.log2_lt (n := v) (k := d + 1) (by omega)).1 (by omega)
      rw [Nat.pow_succ] at this; omega
    rw [Qbn]; simp only [Qe6]
    have e0 : w64 (2 * (v : Int)) = ((2 * v : Nat) : Int) := by rw [Qdt (by omega) (by omega)]; omega
    have e1 : w64 (((2 * v : Nat) : Int) + 1) = ((2 * v + 1 : Nat) : Int) := by rw [Qdt (by omega) (by omega)]; omega
    have e2 : w64 ((v : Int) * 2) = ((2 * v : Nat) : Int) := by rw [Qdt (by omega) (by omega)]; omega
    rw [e0, e1, e2, e1, Xcm h6 h, Xcm h6 h]
    rw [show (Qib d (Qih l) (2 * v) != Qib d (Qih l) (2 * v + 1)) = brN d (Qih l) v from rfl]
    cases hb : brN d (Qih l) v with
    | false =>
      have hfv : Qdp d (Qih l) (f + 1) v = v := by unfold Qdp; rw [hb]; rfl
      rw [cond_false, hfv]
    | true =>
      have hfv : Qdp d (Qih l) (f + 1) v = Qdp d (Qih l) f (nxN d (Qih l) v) := by
        show (if brN d (Qih l) v = true then Qdp d (Qih l) f (nxN d (Qih l) v) else v) = _
        rw [hb]; rfl
      rw [cond_true, hfv]
      obtain ⟨hl2, _⟩ := Xdj hr hv hb
      have key : (if ¬ (((2 * v : Nat) : Int) ∈ Qwq d l) then Qc3 (Qe6 (Qds s, 0) (Qwq d l) acc nx k) fuel ((2 * v + 1 : Nat) : Int) else Qc3 (Qe6 (Qds s, 0) (Qwq d l) acc nx k) fuel ((2 * v : Nat) : Int)) = Qc3 (Qe6 (Qds s, 0) (Qwq d l) acc nx k) fuel (nxN d (Qih l) v : Int) := by
        unfold nxN
        cases hh : Qib d (Qih l) (2 * v) with
        | true => rw [if_neg (fun hn => hn ((Qma h6 h _).2 hh)), if_pos rfl]
        | false => rw [if_pos (fun hm => by rw [(Qma h6 h _).1 hm] at hh; cases hh), if_neg (by simp)]
      rw [key]
      have hn : 1 ≤ nxN d (Qih l) v ∧ Nat.log2 (nxN d (Qih l) v) = Nat.log2 v + 1 := by
        unfold nxN; split
        · exact ⟨by omega, Qqs hv (b := 0) (by omega)⟩
        · exact ⟨by omega, Qqs hv (b := 1) (by omega)⟩
      exact Xb0 h6 h acc nx k f fuel _ hn.1 (by omega) (by omega) (by omega)
theorem Xiy {s : Qa7} {d : Nat} {l : List Int} (hv : Qnf s = true) (hd : s.Depth = (d : Int)) (h6 : d ≤ 6) (h : Qt6 d l = true) {v : Nat} (hh : Qib d (Qih l) v = true) (acc : List Qaf) (ha : acc.length ≤ 1000) (nx : List Qaf → Option (List Qaf × Int)) :
    Qex (Qds s, 0) (Qwq d l) (v : Int) nx acc = nx (acc ++ (Xbx s.Kind d (Qih l) v).map mkS) := by
  have hr := Qwp h6 h
  have h64 := Qck h6
  obtain ⟨v1, vl, v2⟩ := Qln hr hh
  have hpow : 2 ^ (d + 1) = 2 * 2 ^ d := by rw [Nat.pow_succ, Nat.mul_comm]
  have hv128 : v < 128 := by omega
  have ht : Qds s = ⟨s.Kind, (d : Int), (Qxu d : Int)⟩ := by unfold Qds; rw [hd, Int.toNat_natCast]
  have hkd : (Qds s).kind = s.Kind := rfl
  have hsib : Qd6 (v : Int) = some ((v ^^^ 1 : Nat) : Int) := by unfold Qd6; rw [Xo4 hv128]
  have hadd : ∀ (a b : Int) (acc : List Qaf), acc.length ≤ 2000 → Qgy a b acc = some (acc ++ [⟨a, b⟩]) := fun a b acc hl => by
    unfold Qgy; rw [Qhv (by simp; omega), bind_some]
  unfold Qex
  simp only [hkd]
  by_cases hk : s.Kind = 1#8
  · rw [if_pos hk]
    unfold Xbx
    rw [if_pos hk]
    by_cases hv1 : v = 1
    · rw [if_neg (by omega), if_neg (by simp [hv1])]
      unfold Qhl; simp
    · rw [if_pos (by omega), hsib, bind_some]
      unfold Qhl
      have hdm := Xcm h6 h (v ^^^ 1)
      by_cases hs : Qib d (Qih l) (v ^^^ 1) = true
      · rw [decide_eq_false (p := ¬ (((v ^^^ 1 : Nat) : Int) ∈ Qwq d l)) (fun hn => hn ((Qma h6 h _).2 hs)), cond_false, if_neg (by simp [hs])]; simp
      · have hs' : Qib d (Qih l) (v ^^^ 1) = false := by simpa using hs
        rw [decide_eq_true (p := ¬ (((v ^^^ 1 : Nat) : Int) ∈ Qwq d l)) (fun hm => hs ((Qma h6 h _).1 hm)), cond_true, hsib, bind_some, hadd _ _ _ (by omega), bind_some, if_pos ⟨hv1, hs'⟩]
        rfl
  · rw [if_neg hk]
    have go : Xb6 d (Qih l) v = true → Qf1 (Qds s, 0) (Qwq d l) acc nx (v : Int) false = nx (acc ++ (Xbx s.Kind d (Qih l) v).map mkS) := by
      intro hhd
      unfold Qf1
      rw [cond_false, Xb0 h6 h acc nx (v : Int) 7 Qcw v v1 vl (by omega) (by unfold Qcw; omega)]
      unfold Xbx
      rw [if_neg hk, if_pos hhd]
      obtain ⟨w1, w2, w3, K, w4, w5, w6⟩ := Ql4 hr 7 v v1 vl (by omega)
      generalize Qdp d (Qih l) 7 v = w at *
      by_cases hw : w = v
      · rw [if_pos (by omega), if_pos hw]; simp
      · rw [if_neg (by omega), if_neg hw]
        have hlw := Qdj w K w4
        rw [← w5] at hlw
        have hK : 1 ≤ K := by
          rcases Nat.eq_zero_or_pos K with h0 | h0
          · subst h0; simp at w5; exact absurd w5.symm hw
          · exact h0
        have hw128 : w < 128 := by
          have := (Nat.log2_lt (n := w) (k := d + 1) (by omega)).1 (by omega)
          omega
        have hcut : Qe3 (Qds s) (v : Int) (w : Int) = some ((Qrr d v w : Nat) : Int) := by
          obtain ⟨K', rfl⟩ : ∃ K', K = K' + 1 := ⟨K - 1, by omega⟩
          have := Xm1 (kd := s.Kind) (d := d) (m := w) (k := K') hw128 w4 (by omega)
          rw [← w5] at this
          rw [ht, this]
          unfold Qrr
          rw [show Nat.log2 w - Nat.log2 v - 1 = K' from by omega]
        have hspc : Qcm (Qds s) (v : Int) = some (Qx4 d v) := by rw [ht]; exact Qta v1 (by omega)
        rw [hcut, bind_some]
        have one : Qd1 acc nx (v : Int) (w : Int) ((Qrr d v w : Nat) : Int) false = nx (acc ++ [(v, w)].map mkS) := by
          unfold Qd1 Qho
          rw [cond_false, hadd _ _ _ (by omega), bind_some]; rfl
        have two : Qd1 acc nx (v : Int) (w : Int) ((Qrr d v w : Nat) : Int) true = nx (acc ++ [(v, Qrr d v w), (Qrr d v w, w)].map mkS) := by
          unfold Qd1 Qho
          rw [cond_true, hadd _ _ _ (by omega), bind_some, hadd _ _ _ (by simp; omega), bind_some, List.append_assoc]; rfl
        have hk3 : s.Kind = 2#8 ∨ s.Kind = 3#8 := by
          obtain ⟨a, b⟩ := Xe6 hv
          rcases Qxe a b with e | e | e
          · exact absurd e hk
          · exact .inl e
          · exact .inr e
        unfold Qux
        by_cases hc0 : Qrr d v w = 0
        · rw [if_neg (by omega), one]
          have : (decide (s.Kind = 2#8) || Qx4 d v || decide (Xaf d (Qf5 (w / 2) (Nat.log2 w - Nat.log2 v - 1)) = 0)) = true := by
            rw [decide_eq_true (p := Xaf _ _ = 0) hc0]; simp
          rw [if_pos this]
        · have hc0' : decide (Xaf d (Qf5 (w / 2) (Nat.log2 w - Nat.log2 v - 1)) = 0) = false := decide_eq_false hc0
          rw [if_pos (by omega), hc0', Bool.or_false]
          rcases hk3 with hk3 | hk3
          · rw [if_neg (by rw [hkd, hk3]; decide), one, if_pos (by simp [hk3])]
          · rw [if_pos (show (Qds s).kind = 3#8 from hk3), hspc, bind_some]
            have : decide (s.Kind = 2#8) = false := by rw [hk3]; decide
            rw [this, Bool.false_or]
            cases Qx4 d v with
            | true => rw [Bool.not_true, one, if_pos rfl]
            | false => rw [Bool.not_false, two, if_neg (by simp)]
    have no : Xb6 d (Qih l) v = false → Qf1 (Qds s, 0) (Qwq d l) acc nx (v : Int) true = nx (acc ++ (Xbx s.Kind d (Qih l) v).map mkS) := by
      intro hhd
      unfold Qf1 Xbx
      rw [cond_true, if_neg hk, if_neg (by rw [hhd]; simp)]; simp
    by_cases hv1 : v = 1
    · rw [if_neg (by omega)]; exact go (by unfold Xb6; simp [hv1])
    · rw [if_pos (by omega), hsib, bind_some]
      by_cases hs : Qib d (Qih l) (v ^^^ 1) = true
      · rw [decide_eq_false (p := ¬ (((v ^^^ 1 : Nat) : Int) ∈ Qwq d l)) (fun hn => hn ((Qma h6 h _).2 hs))]; exact go (by unfold Xb6; simp [hs])
      · have hs' : Qib d (Qih l) (v ^^^ 1) = false := by simpa using hs
        rw [decide_eq_true (p := ¬ (((v ^^^ 1 : Nat) : Int) ∈ Qwq d l)) (fun hm => hs ((Qma h6 h _).1 hm))]; exact no (by unfold Xb6; simp [hs', hv1])
theorem Xeg {d : Nat} {R : List Nat} (h : Rcv d R) {k : BitVec 8} (hne : R ≠ []) {v : Nat} (hv : Qib d R v = true) : (Qsb k d R).filter (fun y => decide (Qwx k d R y = v)) = Xbx k d R v := by
  refine Xi9 ?_ ?_ fun y => ?_
  · exact List.Pairwise.filter _ Xc7
  · unfold Xbx Asc
    split
    · split <;> simp
    · split
      · split
        · simp
        · split
          · simp
          · rename_i h2 h3 h4 h5
            obtain ⟨v1, vl, v2⟩ := Qln h hv
            obtain ⟨w1, w2, w3, K, w4, w5, w6⟩ := Ql4 h 7 v v1 vl (by have := h.1; omega)
            obtain ⟨j, j1, j2, j3⟩ := Qss (k := k) (d := d) (.inr trivial) w4 w5 v1 (by simpa using h5)
            simp only [List.pairwise_cons, List.mem_singleton, List.not_mem_nil, false_imp_iff, implies_true, List.Pairwise.nil, and_true, forall_eq]
            have hj2 : 2 ^ j ≤ Qdp d R 7 v := Nat.le_trans (Nat.pow_le_pow_right (by omega) (by omega)) w4
            have hl1 := Qdj _ _ w4
            have hl2 := Qdj _ _ hj2
            rw [← w5] at hl1
            rw [← j3] at hl2
            rcases Nat.lt_or_ge v (Qrr d v (Qdp d R 7 v)) with hlt | hge
            · exact hlt
            · have := Qwl hge; omega
      · simp
  · rw [List.mem_filter, decide_eq_true_eq]; exact Qyb h hne hv y
theorem Xfv {k : BitVec 8} {d : Nat} {R : List Nat} (h6 : d ≤ 6) : (Qsb k d R).length ≤ 127 := by
  have h64 := Qck h6
  have hpow : 2 ^ (d + 1) = 2 * 2 ^ d := by rw [Nat.pow_succ, Nat.mul_comm]
  refine Nat.le_trans (List.length_filterMap_le _ _) ?_
  simp [Xpa]; omega
theorem Xaj {α : Type} (p q : α → Bool) (hpq : ∀ a, p a = true → q a = false) (l : List α) : (l.filter fun a => p a || q a).Perm (l.filter p ++ l.filter q) := by
  induction l with
  | nil => simp
  | cons a l ih =>
    cases hp : p a with
    | true =>
      have hq := hpq a hp
      simp only [List.filter_cons, hp, hq, Bool.true_or, if_true, Bool.false_eq_true, if_false, List.cons_append]
      exact ih.cons a
    | false =>
      cases hq : q a with
      | true =>
        simp only [List.filter_cons, hp, hq, Bool.or_true, if_true, Bool.false_eq_true, if_false]
        exact (ih.cons a).trans List.perm_middle.symm
      | false =>
        simp only [List.filter_cons, hp, hq, Bool.or_false, Bool.false_eq_true, if_false]
        exact ih
theorem Xnh {k : BitVec 8} {d : Nat} {R : List Nat} (h6 : d ≤ 6) {acc : List Qaf} (h : acc.Perm ((Qsb k d R).map mkS)) : Xc6 Qaf.Node acc = some ((Qsb k d R).map mkS) := by
  have h64 := Qck h6
  have hpow : 2 ^ (d + 1) = 2 * 2 ^ d := by rw [Nat.pow_succ, Nat.mul_comm]
  have hasc : ((Qsb k d R).map mkS).Pairwise fun a b => a.Node < b.Node := by
    rw [List.pairwise_map]
    exact (Xc7 (k := k) (d := d) (R := R)).imp (fun {a b} hab => by unfold mkS; simp only; omega)
  have hnd : (((Qsb k d R).map mkS).map Qaf.Node).Nodup := by
    unfold List.Nodup
    rw [List.pairwise_map]
    exact hasc.imp (by omega)
  unfold Xc6
  rw [if_pos]
  · congr 1
    have hs := List.pairwise_mergeSort (le := fun a b : Qaf => decide (a.Node ≤ b.Node)) (fun a b c h1 h2 => by simp at *; omega) (fun a b => by simp; omega) acc
    have hp : (acc.mergeSort fun a b => decide (a.Node ≤ b.Node)).Perm ((Qsb k d R).map mkS) := (List.mergeSort_perm acc _).trans h
    have key : ∀ (l m : List Qaf), l.Perm m → (l.Pairwise fun a b => decide (a.Node ≤ b.Node) = true) → (m.Pairwise fun a b => a.Node < b.Node) → l = m := by
      intro l m hlm hl hm
      have hlnd : (l.map Qaf.Node).Nodup := by
        have : (m.map Qaf.Node).Nodup := by unfold List.Nodup; rw [List.pairwise_map]; exact hm.imp (by omega)
        exact (hlm.map _).nodup_iff.2 this
      have hl' : l.Pairwise fun a b => a.Node < b.Node := by
        unfold List.Nodup at hlnd
        rw [List.pairwise_map] at hlnd
        exact (hl.and hlnd).imp (fun {a b} hab => by have := of_decide_eq_true hab.1; have := hab.2; omega)
      clear hl hlnd
      induction m generalizing l with
      | nil => exact hlm.eq_nil
      | cons b m ih =>
        cases l with
        | nil => exact absurd hlm.symm.eq_nil (by simp)
        | cons a l =>
          have ha := List.pairwise_cons.1 hl'
          have hb := List.pairwise_cons.1 hm
          have hab : a = b := by
            rcases List.mem_cons.1 (hlm.subset (List.mem_cons_self)) with e | e
            · exact e
            · rcases List.mem_cons.1 (hlm.symm.subset (List.mem_cons_self)) with e2 | e2
              · exact e2.symm
              · have := ha.1 b e2; have := hb.1 a e; omega
          subst hab
          rw [ih l (List.Perm.cons_inv hlm) hb.2 ha.2]
    exact key _ _ hp hs hasc
  · refine ⟨fun x hx => ?_, (h.map _).nodup_iff.2 hnd, ?_⟩
    · obtain ⟨y, hy, rfl⟩ := List.mem_map.1 (h.subset hx)
      have := (Qrt.1 hy).1
      unfold mkS; simp only; omega
    · rw [h.length_eq, List.length_map]; have := Xfv (k := k) (R := R) h6; omega
theorem Xi6 {s : Qa7} {d : Nat} {l : List Int} (hv : Qnf s = true) (hd : s.Depth = (d : Int)) (h6 : d ≤ 6) (h : Qt6 d l = true) (hne : l ≠ []) (hl : l.length * 8 ≤ 140737488355328) :
    Xbq (Qex (Qds s, 0) (Qwq d l)) Qga Qcw (Qwq d l) [] = some ((Qsb s.Kind d (Qih l)).map mkS, 0) := by
  have hr := Qwp h6 h
  have hne' : Qih l ≠ [] := by unfold Qih; simpa using hne
  refine Xd5 (fun rem acc => (∀ k ∈ rem, k ∈ Qwq d l) ∧ acc.Perm (((Qsb s.Kind d (Qih l)).filter fun y => decide (((Qwx s.Kind d (Qih l) y : Nat) : Int) ∉ rem)).map mkS)) ?_ ?_ Qcw (Qwq d l) [] ?_ ⟨fun _ hk => hk, ?_⟩
  · rintro acc ⟨_, hp⟩
    have : ((Qsb s.Kind d (Qih l)).filter fun y => decide (((Qwx s.Kind d (Qih l) y : Nat) : Int) ∉ ([] : List Int))) = Qsb s.Kind d (Qih l) := List.filter_eq_self.2 (by simp)
    rw [this] at hp
    unfold Qga
    rw [Xnh h6 hp, bind_some]
  · rintro rem acc k hk ⟨hsub, hp⟩
    obtain ⟨v, rfl, hvh⟩ := Xjk h6 h (hsub k hk)
    have hal : acc.length ≤ 1000 := by
      rw [hp.length_eq, List.length_map]
      have := Xfv (k := s.Kind) (R := Qih l) h6
      have := List.length_filter_le (fun y => decide (((Qwx s.Kind d (Qih l) y : Nat) : Int) ∉ rem)) (Qsb s.Kind d (Qih l))
      omega
    refine ⟨acc ++ (Xbx s.Kind d (Qih l) v).map mkS, ⟨fun j hj => hsub j (List.mem_filter.1 hj).1, ?_⟩, fun nx => Xiy hv hd h6 h hvh acc hal nx⟩
    have hsp := Xaj (fun y => decide (((Qwx s.Kind d (Qih l) y : Nat) : Int) ∉ rem)) (fun y => decide (Qwx s.Kind d (Qih l) y = v)) (fun y hy => by
      simp only [decide_eq_true_eq, decide_eq_false_iff_not] at hy ⊢
      rintro rfl; exact hy hk) (Qsb s.Kind d (Qih l))
    rw [Xeg hr hne' hvh] at hsp
    have hcg : ((Qsb s.Kind d (Qih l)).filter fun y => decide (((Qwx s.Kind d (Qih l) y : Nat) : Int) ∉ rem.filter (· ≠ (v : Int)))) = ((Qsb s.Kind d (Qih l)).filter fun y => decide (((Qwx s.Kind d (Qih l) y : Nat) : Int) ∉ rem) || decide (Qwx s.Kind d (Qih l) y = v)) := by
      apply List.filter_congr
      intro y _
      rw [Bool.eq_iff_iff]
      simp only [Bool.or_eq_true, decide_eq_true_eq, List.mem_filter, not_and, ne_eq, Decidable.not_not, decide_not, Bool.not_eq_true', decide_eq_false_iff_not]
      constructor
      · intro hh
        by_cases hm : ((Qwx s.Kind d (Qih l) y : Nat) : Int) ∈ rem
        · have := hh hm; right; omega
        · exact .inl hm
      · rintro (hh | hh) hm
        · exact absurd hm hh
        · rw [hh]
    rw [hcg]
    refine List.Perm.trans ?_ (hsp.map mkS).symm
    rw [List.map_append]
    exact hp.append_right _
  · have := Xdg (d := d) l []
    unfold Qwq Qcw
    simp only [List.length_nil, Nat.zero_add] at this
    omega
  · have : ((Qsb s.Kind d (Qih l)).filter fun y => decide (((Qwx s.Kind d (Qih l) y : Nat) : Int) ∉ Qwq d l)) = [] := by
      rw [List.filter_eq_nil_iff]
      intro y hy
      simp only [decide_eq_true_eq]
      exact fun hn => hn ((Qma h6 h _).2 (Xcl hr hne' hy))
    rw [this]; simp
def Xm8 (s : Qa7) (l : List Int) : List Qaf × Int :=
  if Qnf s then (if Qt6 s.Depth.toNat l then ((if l = [] then [⟨1, 0⟩] else (Qsb s.Kind s.Depth.toNat (Qih l)).map mkS), 0) else ([], 2)) else ([], 30)
theorem Xa9 (s : Qa7) (l : List Int) (hl : l.length * 8 ≤ 140737488355328) : Qko s l = some (Xm8 s l) := by
  unfold Qko Xm8
  rw [Xgj, bind_some]
  cases hv : Qnf s with
  | false => rfl
  | true =>
    obtain ⟨d, hd, h6⟩ := Qoe hv
    have ht : Qds s = ⟨s.Kind, (d : Int), (Qxu d : Int)⟩ := by unfold Qds; rw [hd, Int.toNat_natCast]
    simp only [if_true]
    rw [if_neg (by simp), hd, Int.toNat_natCast]
    have e0 : Qgq (Qds s) l = some (Qt6 d l) := by rw [ht]; exact Xov h6 l (by omega)
    rw [e0, bind_some]
    cases hb : Qt6 d l with
    | false => rfl
    | true =>
      simp only [Bool.not_true, cond_false, if_true]
      by_cases hne : l = []
      · subst hne; rfl
      · rw [if_neg (by intro h0; apply hne; exact List.eq_nil_of_length_eq_zero (by omega)), if_neg hne]
        have := Qtu l (Qg3 l (Qds s, 0)) (fun j (ks : List Int) => ((j : Int), ks)) (fun u nx ks => nx (upF 8 (2 ^ d + u.toNat) ks)) (fun ks => Xbq (Qex (Qds s, 0) ks) Qga Qcw ks [])
          (fun rec j hj ks => by
            obtain ⟨u, hu, hu2⟩ := Xbm hb (List.getElem_mem hj)
            have h64 := Qck h6
            simp only [Qg3]
            have hlf : Qff (Qds s) (u : Int) = some ((2 ^ d + u : Nat) : Int) := by rw [ht]; exact Xoi h6 (by omega)
            rw [if_pos (by omega), Qcb hj, bind_some, hu, hlf, bind_some, Xio _ _ 8 Qcw _ _ (by omega) (by unfold Qcw; omega), Qet (by omega), Int.toNat_natCast])
          (fun rec ks => by simp only [Qg3]; rw [if_neg (by omega)]) (f := Qcw) (Qe1 (by omega)) ([] : List Int)
        rw [show ((0 : Nat) : Int) = 0 from rfl] at this
        rw [this, Xcz (fun ks u => upF 8 (2 ^ d + u.toNat) ks) _ _ (fun _ _ => True) l 0 [] (fun _ _ _ _ _ _ => rfl) (fun _ _ _ _ _ => trivial) trivial]
        exact Xi6 hv hd h6 hb hne hl
end Go.Sx

end
section
set_option linter.unusedVariables false
set_option linter.unusedSimpArgs false
set_option maxRecDepth 100000
namespace Go.Sx
open Go
theorem Xrp : Xm8 ⟨2#8, 2, 0, ⟨0#64, 0#64, 0#64⟩⟩ [2] = ([⟨1, 6⟩], 0) := by decide +kernel
theorem Xvg : Qko ⟨2#8, 2, 0, ⟨0#64, 0#64, 0#64⟩⟩ [2] = some ([⟨1, 6⟩], 0) := (Xa9 _ _ (by decide)).trans (congrArg some Xrp)
noncomputable def Xq1 : W2 := drv (72623842526232576#64, 0#64) (un8 50#8) (wd 0)
noncomputable def Xt0 : Qaa := match Qkq (72623842526232576#64, 0#64) ⟨2#8, 2, 0, ⟨0#64, 0#64, 0#64⟩⟩ [⟨1, 6⟩] Xq1 with
  | some x => x.1
  | none => default
noncomputable def pk5 : Qai := match Qk8 Xq1 (Qai.mk 1#8 0 Xt0 0#8 0#64 [] k0) with
  | some m => Qai.mk 1#8 0 Xt0 0#8 0#64 [] m
  | none => default
theorem Xnl : Option.bind (Qkq (72623842526232576#64, 0#64) ⟨2#8, 2, 0, ⟨0#64, 0#64, 0#64⟩⟩ [⟨1, 6⟩] Xq1) (fun x2 => some (x2.1, x2.2)) = some (Xt0, 0) := by kernel_rfl
theorem Xvc : Qgz (72623842526232576#64, 0#64) ⟨2#8, 2, 0, ⟨0#64, 0#64, 0#64⟩⟩ [2] Xq1 (wd 0) = some (Xt0, 0) := by
  unfold Qgz
  rw [Xvg, bind_some, if_neg (by decide)]
  exact Xnl
theorem ck5 : Qen ⟨2#8, 2, 0, ⟨0#64, 0#64, 0#64⟩⟩ = some 0 := by kernel_rfl
theorem Xtf : Qdg 0 = some true := by kernel_rfl
theorem Xut : Qjh (72623842526232576#64, 0#64) ⟨2#8, 2, 0, ⟨0#64, 0#64, 0#64⟩⟩ 0 [2] = some (Xt0, 0) := by
  unfold Qjh
  rw [if_neg (by decide), show decide ((5 : Int) ≤ un8 (2#8)) = false from by decide]
  unfold Qgx Qe5
  rw [cond_false, if_pos (by decide), ck5, bind_some, if_neg (by decide), Xtf, bind_some, Bool.not_true, cond_false, bind_some]
  show Option.bind (Qgz _ _ _ Xq1 _) _ = _
  rw [Xvc, bind_some]
theorem Xul : Qo9 (72623842526232576#64, 0#64) ⟨2#8, 2, 0, ⟨0#64, 0#64, 0#64⟩⟩ 0 [2] = some (pk5, 0) := by
  unfold Qo9
  rw [Xut, bind_some, if_neg (by decide)]
  kernel_rfl
theorem Xj2 : Ql0 0 pk5 = some true := by kernel_rfl
theorem Xjg : Qca false = some true := by
  unfold Qca Qhm
  rw [cond_false, bind_some, Xul, bind_some]
  exact Xj2
theorem Xpn : Qmn = some true := by
  have h1 : Qmn = Qca false := by kernel_rfl
  rw [h1, Xjg]
end Go.Sx

end
section
set_option linter.unusedVariables false
set_option linter.unusedSimpArgs false
set_option maxRecDepth 100000
namespace Go.Sx.Po
open Go
abbrev bn (n : Nat) : BitVec 64 := BitVec.ofNat 64 n
theorem Xoa (x : BitVec 64) : ∃ n, n < 18446744073709551616 ∧ x = bn n := ⟨x.toNat, x.isLt, by simp [bn]⟩
theorem Qfx {n : Nat} (h : n < 18446744073709551616) : (bn n).toNat = n := by rw [bn, BitVec.toNat_ofNat]; exact Nat.mod_eq_of_lt h
theorem Qq5 {a b : Nat} (ha : a < 18446744073709551616) (hb : b < 18446744073709551616) : bn a = bn b ↔ a = b := by
  constructor
  · intro h; rw [← Qfx ha, ← Qfx hb, h]
  · intro h; rw [h]
theorem Ql3 {a b : Nat} (ha : a < 18446744073709551616) (hb : b < 18446744073709551616) : bn a < bn b ↔ a < b := by rw [BitVec.lt_def, Qfx ha, Qfx hb]
theorem Qt1 {a b : Nat} (ha : a < 18446744073709551616) (hb : b < 18446744073709551616) : bn a ≤ bn b ↔ a ≤ b := by rw [BitVec.le_def, Qfx ha, Qfx hb]
theorem Qpp (a b : Nat) : bn a * bn b = bn (a * b) := by apply BitVec.eq_of_toNat_eq; simp [bn]
theorem Qu5 (a b : Nat) : bn a + bn b = bn (a + b) := by apply BitVec.eq_of_toNat_eq; simp [bn]
theorem Xa2 {a b : Nat} (ha : a < 18446744073709551616) (h : b ≤ a) : bn a - bn b = bn (a - b) := by
  apply BitVec.eq_of_toNat_eq
  rw [BitVec.toNat_sub, Qfx ha, Qfx (by omega), Qfx (by omega)]; omega
theorem Xsm (n : Nat) (h : n < 18446744073709551616) : bn n >>> 1 = bn (n / 2) := by
  apply BitVec.eq_of_toNat_eq
  rw [BitVec.toNat_ushiftRight, Qfx h, Qfx (by omega), Nat.shiftRight_eq_div_pow]
theorem Xnm (n : Nat) (h : n < 18446744073709551616) : bn n &&& 1#64 = bn (n % 2) := by
  apply BitVec.eq_of_toNat_eq
  rw [BitVec.toNat_and, Qfx h, Qfx (n := n % 2) (by omega)]
  exact Nat.and_one_is_mod n
theorem Qfc {a m : Nat} (ha : a < 18446744073709551616) (hm : 0 < m) (hm2 : m < 18446744073709551616) : Qqy (bn a) (bn m) = some (bn (a % m)) := by
  have := Nat.mod_lt a hm
  unfold Qqy
  rw [if_neg (fun h => by have := (Qq5 (b := 0) hm2 (by omega)).1 h; omega)]
  congr 1
  apply BitVec.eq_of_toNat_eq
  rw [BitVec.toNat_umod, Qfx ha, Qfx hm2, Qfx (by omega)]
theorem Xfm {a m : Nat} (ha : a < 18446744073709551616) (hm : 0 < m) (hm2 : m < 18446744073709551616) : Xt9 (bn a) (bn m) = some (bn (a / m)) := by
  have := Nat.div_le_self a m
  unfold Xt9
  rw [if_neg (fun h => by have := (Qq5 (b := 0) hm2 (by omega)).1 h; omega)]
  congr 1
  apply BitVec.eq_of_toNat_eq
  rw [BitVec.toNat_udiv, Qfx ha, Qfx hm2, Qfx (by omega)]
def Prm (n : Nat) : Prop := 2 ≤ n ∧ ∀ e, 2 ≤ e → e * e ≤ n → n % e ≠ 0
theorem Qtq {n : Nat} (hn : n ≤ 1048575) (T : Bool) (F : (BitVec 64 → Option Bool) → BitVec 64 → Option Bool) (hF : ∀ rec a, F rec a = if a * a ≤ bn n then Option.bind (Qqy (bn n) a) fun x4 => if x4 = 0#64 then some false else rec (a + 1#64) else some T) :
    ∀ (m d f : Nat), d + m = 1025 → m < f → 2 ≤ d → ∃ b, Qc3 F f (bn d) = some b ∧ (b = true ↔ T = true ∧ ∀ e, d ≤ e → e * e ≤ n → n % e ≠ 0)
  | m, d, 0, _, h, _ => by omega
  | 0, d, f + 1, hd, _, h2 => by
    obtain rfl : d = 1025 := by omega
    rw [Qbn, hF, Qpp, if_neg (by rw [Qt1 (by omega) (by omega)]; omega)]
    refine ⟨T, rfl, fun h => ⟨h, fun e he hen => ?_⟩, fun h => h.1⟩
    have := Nat.mul_le_mul he he
    omega
  | m + 1, d, f + 1, hd, hf, h2 => by
    have hdd : d * d ≤ 1025 * 1025 := Nat.mul_le_mul (by omega) (by omega)
    rw [Qbn, hF, Qpp]
    by_cases hle : d * d ≤ n
    · rw [if_pos ((Qt1 (by omega) (by omega)).2 hle), Qfc (by omega) (by omega) (by omega), bind_some]
      by_cases hz : n % d = 0
      · rw [hz, if_pos rfl]
        exact ⟨false, rfl, (fun h => by cases h), fun h => absurd hz (h.2 d (Nat.le_refl _) hle)⟩
      · have hzn : ¬ bn (n % d) = 0#64 := fun h => hz ((Qq5 (b := 0) (by have := Nat.mod_lt n (show 0 < d by omega); omega) (by omega)).1 h)
        rw [if_neg hzn, show (1#64) = bn 1 from rfl, Qu5]
        obtain ⟨b, e1, e2⟩ := Qtq hn T F hF m (d + 1) f (by omega) (by omega) (by omega)
        refine ⟨b, e1, ?_⟩
        rw [e2]
        refine and_congr_right fun _ => ⟨fun h e he hen => ?_, fun h e he => h e (by omega)⟩
        rcases Nat.lt_or_ge d e with h' | h'
        · exact h e (by omega) hen
        · obtain rfl : e = d := by omega
          exact hz
    · rw [if_neg (fun h => hle ((Qt1 (by omega) (by omega)).1 h))]
      refine ⟨T, rfl, fun h => ⟨h, fun e he hen => ?_⟩, fun h => h.1⟩
      have := Nat.mul_le_mul he he
      omega
theorem Xe2 {n : Nat} (h64 : n < 18446744073709551616) : ∃ b, Qjk (bn n) = some b ∧ (b = true ↔ n ≤ 1048575 ∧ Prm n) := by
  unfold Qjk Qie
  by_cases h2 : n < 2
  · rw [if_pos ((Ql3 h64 (b := 2) (by omega)).2 h2)]
    exact ⟨false, rfl, (fun h => by cases h), fun h => by have := h.2.1; omega⟩
  · rw [if_neg (fun h => h2 ((Ql3 h64 (b := 2) (by omega)).1 h))]
    by_cases hg : 1048575 < n
    · rw [decide_eq_true ((Ql3 (a := 1048575) (by omega) h64).2 hg)]
      exact ⟨false, rfl, (fun h => by cases h), fun h => by omega⟩
    · rw [decide_eq_false (fun h => hg ((Ql3 (a := 1048575) (by omega) h64).1 h)), cond_false]
      obtain ⟨b, e1, e2⟩ := Qtq (n := n) (by omega) true (Qhx (bn n)) (fun rec a => rfl) 1023 2 Qcw (by omega) (Qe1 (by omega)) (by omega)
      refine ⟨b, e1, ?_⟩
      rw [e2]; unfold Prm
      exact ⟨fun h => ⟨by omega, by omega, h.2⟩, fun h => ⟨rfl, h.2.2⟩⟩
theorem Qr2 {n : Nat} (hn : n ≤ 1048575) : ∃ b, Qp0 (bn n) = some b ∧ (b = true ↔ Prm n) := by
  obtain ⟨b, e1, e2⟩ := Qtq (n := n) hn (decide (2#64 ≤ bn n)) (Qpn (bn n)) (fun rec a => rfl) 1023 2 Qcw (by omega) (Qe1 (by omega)) (by omega)
  refine ⟨b, e1, ?_⟩
  rw [e2, decide_eq_true_eq, show (2#64) = bn 2 from rfl, Qt1 (by omega) (by omega)]; rfl
theorem Xl3 (x n : Nat) : x ^ n = x ^ (n % 2) * (x * x) ^ (n / 2) := by
  have : x ^ n = x ^ (n % 2 + 2 * (n / 2)) := by congr 1; omega
  rw [this, Nat.pow_add, Nat.pow_mul, Nat.pow_two]
theorem Xdw {m x n o : Nat} : o * x ^ n % m = (if n % 2 = 1 then o * x % m else o) * (x * x % m) ^ (n / 2) % m := by
  rw [Xl3 x n]
  rcases Nat.mod_two_eq_zero_or_one n with h | h
  · rw [h, if_neg (by omega), Nat.pow_zero, Nat.one_mul, Nat.mul_mod o ((x * x % m) ^ (n / 2)), ← Nat.pow_mod, ← Nat.mul_mod]
  · rw [h, if_pos rfl, Nat.pow_one, Nat.mul_mod (o * x % m), Nat.mod_mod, ← Nat.pow_mod, ← Nat.mul_mod, Nat.mul_assoc]
theorem Qtk {m : Nat} (hm : 0 < m) (hm2 : m < 4294967296) : ∀ (k n x o f : Nat), n < 2 ^ k → k ≤ 64 → k < f → x < m → o < m → Qc3 (Qfa (bn m)) f (bn x, bn n, bn o) = some (bn (o * x ^ n % m))
  | k, n, x, o, 0, _, _, h, _, _ => by omega
  | 0, n, x, o, f + 1, hn, _, _, hx, ho => by
    obtain rfl : n = 0 := by simp at hn; exact hn
    rw [Qbn]; simp only [Qfa]
    rw [if_neg (by decide), Nat.pow_zero, Nat.mul_one, Nat.mod_eq_of_lt ho]
  | k + 1, n, x, o, f + 1, hn, hk, hf, hx, ho => by
    have hn64 : n < 18446744073709551616 := Nat.lt_of_lt_of_le hn (Nat.le_trans (Nat.pow_le_pow_right (by omega) hk) (by decide))
    have hxx : x * x < 18446744073709551616 := Nat.lt_of_le_of_lt (Nat.mul_le_mul (Nat.le_of_lt hx) (Nat.le_of_lt hx)) (by have := Nat.mul_lt_mul'' hm2 hm2; omega)
    have hox : o * x < 18446744073709551616 := Nat.lt_of_le_of_lt (Nat.mul_le_mul (Nat.le_of_lt ho) (Nat.le_of_lt hx)) (by have := Nat.mul_lt_mul'' hm2 hm2; omega)
    rw [Qbn]; simp only [Qfa]
    by_cases h0 : n = 0
    · subst h0
      rw [if_neg (by decide), Nat.pow_zero, Nat.mul_one, Nat.mod_eq_of_lt ho]
    · rw [if_pos ((Ql3 (a := 0) (by omega) hn64).2 (by omega)), Xnm n hn64, show shG (un 1#64) = some 1 from by decide, Qpp, Qpp, Qfc hxx hm (by omega), Qfc hox hm (by omega), Xdw]
      simp only [bind_some]
      rw [Xsm n hn64]
      have hlt : n / 2 < 2 ^ k := by rw [Nat.pow_succ] at hn; omega
      have h1 := Nat.mod_lt (x * x) hm
      have h2 := Nat.mod_lt (o * x) hm
      by_cases hodd : n % 2 = 1
      · rw [if_pos (by rw [hodd]), if_pos hodd]
        exact Qtk hm hm2 k (n / 2) _ _ f hlt (by omega) (by omega) h1 h2
      · rw [if_neg (fun h => hodd ((Qq5 (b := 1) (by omega) (by omega)).1 h)), if_neg hodd]
        exact Qtk hm hm2 k (n / 2) _ _ f hlt (by omega) (by omega) h1 ho
theorem Xe0 {b n m : Nat} (hb : b < 18446744073709551616) (hn : n < 18446744073709551616) (hm : 0 < m) (hm2 : m < 4294967296) : Qjp (bn b) (bn n) (bn m) = some (bn (b ^ n % m)) := by
  unfold Qjp
  rw [show (1#64) = bn 1 from rfl, Qfc (by omega) hm (by omega), bind_some, Qfc hb hm (by omega), bind_some, Qtk hm hm2 64 n _ _ Qcw (by omega) (by omega) (Qe1 (by omega)) (Nat.mod_lt _ hm) (Nat.mod_lt _ hm), Nat.mod_mul_mod, Nat.one_mul, ← Nat.pow_mod]
theorem Qrq {m : Nat} (hm : 0 < m) (hm2 : m < 4294967296) : ∀ (k n x o f : Nat), n < 2 ^ k → k ≤ 64 → k < f → x < m → o < m → Qc3 (Ql2 (bn m)) f (bn n, bn o, bn x) = some (bn (o * x ^ n % m))
  | k, n, x, o, 0, _, _, h, _, _ => by omega
  | 0, n, x, o, f + 1, hn, _, _, hx, ho => by
    obtain rfl : n = 0 := by simp at hn; exact hn
    rw [Qbn]; simp only [Ql2]
    rw [if_neg (by decide), Nat.pow_zero, Nat.mul_one, Nat.mod_eq_of_lt ho]
  | k + 1, n, x, o, f + 1, hn, hk, hf, hx, ho => by
    have hn64 : n < 18446744073709551616 := Nat.lt_of_lt_of_le hn (Nat.le_trans (Nat.pow_le_pow_right (by omega) hk) (by decide))
    have hxx : x * x < 18446744073709551616 := Nat.lt_of_le_of_lt (Nat.mul_le_mul (Nat.le_of_lt hx) (Nat.le_of_lt hx)) (by have := Nat.mul_lt_mul'' hm2 hm2; omega)
    have hox : o * x < 18446744073709551616 := Nat.lt_of_le_of_lt (Nat.mul_le_mul (Nat.le_of_lt ho) (Nat.le_of_lt hx)) (by have := Nat.mul_lt_mul'' hm2 hm2; omega)
    rw [Qbn]; simp only [Ql2]
    by_cases h0 : n = 0
    · subst h0
      rw [if_neg (by decide), Nat.pow_zero, Nat.mul_one, Nat.mod_eq_of_lt ho]
    · unfold Qnw
      rw [if_pos ((Ql3 (a := 0) (by omega) hn64).2 (by omega)), show (2#64) = bn 2 from rfl, Qfc hn64 (by omega) (by omega), Qpp, Qpp, Qfc hxx hm (by omega), Qfc hox hm (by omega), Xfm hn64 (by omega) (by omega), Xdw]
      simp only [bind_some]
      have hlt : n / 2 < 2 ^ k := by rw [Nat.pow_succ] at hn; omega
      have h1 := Nat.mod_lt (x * x) hm
      have h2 := Nat.mod_lt (o * x) hm
      by_cases hodd : n % 2 = 1
      · rw [if_pos (by rw [hodd]), if_pos hodd]
        exact Qrq hm hm2 k (n / 2) _ _ f hlt (by omega) (by omega) h1 h2
      · rw [if_neg (fun h => hodd ((Qq5 (b := 1) (by omega) (by omega)).1 h)), if_neg hodd]
        exact Qrq hm hm2 k (n / 2) _ _ f hlt (by omega) (by omega) h1 ho
theorem Xis {b n m : Nat} (hb : b < 18446744073709551616) (hn : n < 18446744073709551616) (hm : 0 < m) (hm2 : m < 4294967296) : Qrn (bn b) (bn n) (bn m) = some (bn (b ^ n % m)) := by
  unfold Qrn
  rw [show (1#64) = bn 1 from rfl, Qfc (by omega) hm (by omega), bind_some, Qfc hb hm (by omega), bind_some, Qrq hm hm2 64 n _ _ Qcw (by omega) (by omega) (Qe1 (by omega)) (Nat.mod_lt _ hm) (Nat.mod_lt _ hm), Nat.mod_mul_mod, Nat.one_mul, ← Nat.pow_mod]
end Go.Sx.Po

end
section
set_option linter.unusedVariables false
set_option linter.unusedSimpArgs false
set_option maxRecDepth 100000
namespace Go.Sx.Po
open Go
theorem Qpr {τ R : Type} (F : (τ → Option R) → τ → Option R) (I : Nat → τ → Prop) (n : Nat) (r : Option R) (hn : n < 9223372036854775808) {s : τ} (h0 : I 0 s) (hs : ∀ j s, j < n → I j s → ∃ s', I (j + 1) s' ∧ ∀ rec, F rec s = rec s') (he : ∀ s, I n s → ∀ rec, F rec s = r) : Qc3 F Qcw s = r :=
  Xbk F I n r hs he n 0 Qcw s (by omega) (Qe1 hn) h0
def Qut (l : List (BitVec 8)) : BitVec 64 := l.foldl (fun n c => 256#64 * n + c.setWidth 64) 0#64
theorem Qzk (a : BitVec 64) (c : BitVec 8) : (a <<< 8) ||| (c.setWidth 64) = 256#64 * a + c.setWidth 64 := by
  have e1 : 256#64 * a = a <<< 8 := by
    apply BitVec.eq_of_toNat_eq
    rw [BitVec.toNat_mul, BitVec.toNat_shiftLeft, Nat.shiftLeft_eq, Nat.mul_comm]; rfl
  rw [e1]
  symm
  apply BitVec.add_eq_or_of_and_eq_zero
  apply BitVec.eq_of_getLsbD_eq
  intro j hj
  rw [BitVec.getLsbD_and, BitVec.getLsbD_shiftLeft, BitVec.getLsbD_setWidth, BitVec.getLsbD_zero]
  by_cases h : j < 8
  · simp [h]
  · simp [BitVec.getLsbD_of_ge c j (by omega)]
theorem Qol (l : List (BitVec 8)) (c : BitVec 8) : Qut (l ++ [c]) = 256#64 * Qut l + c.setWidth 64 := by simp [Qut]
theorem Xmv (x : BitVec 64) (s : Nat) : 256#64 * (x >>> (s + 8)) + ((x >>> s).setWidth 8).setWidth 64 = x >>> s := by
  rw [← Qzk]
  apply BitVec.eq_of_getLsbD_eq
  intro i hi
  simp only [BitVec.getLsbD_or, BitVec.getLsbD_shiftLeft, BitVec.getLsbD_ushiftRight, BitVec.getLsbD_setWidth]
  by_cases h : i < 8
  · simp [h, hi]
  · simp [h, hi, show s + 8 + (i - 8) = s + i from by omega]
theorem Xcq (x : BitVec 64) : Qut (w8 x) = x := by
  have h0 : Qut [] = x >>> 64 := by
    apply BitVec.eq_of_getLsbD_eq
    intro i hi
    rw [BitVec.getLsbD_ushiftRight, BitVec.getLsbD_of_ge x _ (by omega)]; simp [Qut]
  have st : ∀ (l : List (BitVec 8)) (i : Nat), i ≤ 7 → Qut l = x >>> (56 - 8 * i + 8) → Qut (l ++ [byt x i]) = x >>> (56 - 8 * i) := fun l i hi hl => by
    rw [Qol, hl]; exact Xmv x (56 - 8 * i)
  have h1 := st [] 0 (by omega) h0
  have h2 := st _ 1 (by omega) h1
  have h3 := st _ 2 (by omega) h2
  have h4 := st _ 3 (by omega) h3
  have h5 := st _ 4 (by omega) h4
  have h6 := st _ 5 (by omega) h5
  have h7 := st _ 6 (by omega) h6
  have h8 := st _ 7 (by omega) h7
  rw [show 56 - 8 * 7 = 0 from rfl, BitVec.ushiftRight_zero] at h8
  exact h8
theorem Qom (l : List (BitVec 8)) (hx : l.length ≤ 1000) : ∀ (m i fuel : Nat), l.length - i = m → i ≤ l.length → m < fuel → Qc3 (Qg5 l) fuel (Qut (l.take i), (i : Int)) = some (Qut l)
  | m, i, 0, _, _, hf => by omega
  | 0, i, fuel + 1, hm, hi, hf => by
    rw [Qbn]; simp only [Qg5]; rw [if_neg (by omega), List.take_of_length_le (by omega)]
  | m + 1, i, fuel + 1, hm, hi, hf => by
    rw [Qbn]; simp only [Qg5]
    rw [if_pos (by omega), Qcb (by omega), bind_some, ← Qol, ← Qmk _ _ (by omega), Qdt (by omega) (by omega)]
    exact Qom l hx m (i + 1) fuel (by omega) (by omega) (by omega)
theorem Qv8 (l : List (BitVec 8)) (h : l.length ≤ 1000) : Qmi l = some (Qut l) := Qom l h _ 0 Qcw rfl (by omega) (Qe1 (by omega))
theorem Xls (k : W2) : kby k = w8 k.1 ++ w8 k.2 := rfl
theorem Xfk (k : W2) (A B : List (BitVec 8)) (hA : A.length = 8) (hB : B.length = 8) (hk : kby k = A ++ B) : Qhn k = some ⟨Qut A, Qut B⟩ := by
  unfold Qhn
  refine Qpr _ (fun j x => x = ((j : Int), Qut (A.take j), Qut (B.take j))) 8 _ (by omega) (by simp [Qut]) ?_ ?_
  · rintro j _ hj rfl
    refine ⟨_, rfl, fun rec => ?_⟩
    have h1 : j < A.length := by omega
    have h2 : j < B.length := by omega
    have g1 : Qg0 (kby k) (j : Int) = some A[j] := by rw [hk, Qcb (by rw [List.length_append]; omega), List.getElem_append_left h1]
    have g2 : Qg0 (kby k) ((8 + j : Nat) : Int) = some B[j] := by
      rw [hk, Qcb (by rw [List.length_append]; omega), List.getElem_append_right (by omega)]
      congr 2; omega
    simp only [Qf6]
    rw [if_pos (by omega), show shG (un 8#64) = some 8 from by decide, bind_some, g1, bind_some, bind_some, Qdt (n := 8 + (j : Int)) (by omega) (by omega), show (8 : Int) + (j : Int) = ((8 + j : Nat) : Int) from by omega, g2, bind_some, Qzk, Qzk, ← Qol, ← Qol, ← Qmk _ _ h1, ← Qmk _ _ h2, Qet (by omega)]
  · rintro _ rfl rec
    simp only [Qf6]
    rw [if_neg (by omega), List.take_of_length_le (by omega), List.take_of_length_le (by omega)]
theorem Xe1 (k : W2) : Qhn k = some ⟨k.1, k.2⟩ := by
  rw [Xfk k _ _ (Qxn _) (Qxn _) (Xls k), Xcq, Xcq]
theorem Xa6 (k : W2) (n m : BitVec 64) (hm : m ≠ 0#64) : Qh3 k n m = some ((drv k (un8 3#8) n).1 % m) := by
  unfold Qh3
  rw [if_neg hm, Xe1, bind_some]
  simp only
  unfold Qqy
  rw [if_neg hm]; rfl
theorem Qxm (k : W2) (n m : BitVec 64) (hm : m ≠ 0#64) : Qnh k n m = some ((drv k (un8 3#8) n).1 % m) := by
  unfold Qnh
  rw [if_neg hm, List.drop_zero, Xls, List.take_left' (Qxn _), Qv8 _ (by rw [Qxn]; omega), bind_some, Xcq]
  unfold Qqy
  rw [if_neg hm]; rfl
end Go.Sx.Po

end
section
set_option linter.unusedVariables false
set_option linter.unusedSimpArgs false
set_option maxRecDepth 100000
namespace Go.Sx.Po
open Go
def Qwh (p q g : Nat) : Prop := (p ≤ 1048575 ∧ Prm p) ∧ (q ≤ 1048575 ∧ Prm q) ∧ (p - 1) % q = 0 ∧ 2 ≤ g ∧ g < p ∧ g ^ q % p = 1
theorem Xjn {p q g : Nat} (hp : p < 18446744073709551616) (hq : q < 18446744073709551616) (hg : g < 18446744073709551616) :
    ∃ b, Qgl ⟨bn p, bn q, bn g⟩ = some (if b = true then 0 else 13) ∧ Qli ⟨bn p, bn q, bn g⟩ = some b ∧ (b = true ↔ Qwh p q g) := by
  obtain ⟨b1, e1, i1⟩ := Xe2 hp
  obtain ⟨b2, e2, i2⟩ := Xe2 hq
  unfold Qgl Qli
  simp only
  rw [e1, bind_some, show (1048575#64) = bn 1048575 from rfl]
  have no : ∀ (h : ¬ Qwh p q g), (false = true ↔ Qwh p q g) := fun h => ⟨(fun e => by cases e), fun e => absurd e h⟩
  by_cases hP : p ≤ 1048575 ∧ Prm p
  · have c0 : ¬ bn 1048575 < bn p := fun h => by have := (Ql3 (by omega) hp).1 h; omega
    rw [i1.2 hP, if_neg c0]
    obtain ⟨c1, f1, j1⟩ := Qr2 hP.1
    rw [f1, bind_some, j1.2 hP.2]
    simp only [Bool.not_true, cond_false]
    rw [e2, bind_some]
    by_cases hQ : q ≤ 1048575 ∧ Prm q
    · have c0' : ¬ bn 1048575 < bn q := fun h => by have := (Ql3 (by omega) hq).1 h; omega
      rw [i2.2 hQ, if_neg c0']
      obtain ⟨c2, f2, j2⟩ := Qr2 hQ.1
      rw [f2, bind_some, j2.2 hQ.2]
      simp only [Bool.not_true, cond_false]
      have hp2 := hP.2.1
      have hq2 := hQ.2.1
      rw [show (1#64) = bn 1 from rfl, Xa2 hp (by omega), Qfc (by omega) (by omega) hq, bind_some, bind_some]
      have hmod := Nat.mod_lt (p - 1) (show 0 < q by omega)
      unfold Qcg Qdz
      simp only
      by_cases hz : (p - 1) % q = 0
      · rw [hz, if_neg (by simp), decide_eq_false (by simp), cond_false, show (2#64) = bn 2 from rfl]
        by_cases h2 : 2 ≤ g
        · have c3 : ¬ bn g < bn 2 := fun h => by have := (Ql3 hg (by omega)).1 h; omega
          have c4 : bn 2 ≤ bn g := (Qt1 (by omega) hg).2 h2
          rw [if_neg c3, if_pos c4]
          by_cases h3 : g < p
          · have c5 : ¬ bn p ≤ bn g := fun h => by have := (Qt1 hp hg).1 h; omega
            have c6 : bn g < bn p := (Ql3 hg hp).2 h3
            rw [if_neg c5, if_pos c6, Xe0 hg hq (by omega) (by omega), Xis hg hq (by omega) (by omega), bind_some, bind_some]
            have hpm := Nat.mod_lt (g ^ q) (show 0 < p by omega)
            have hone : bn (g ^ q % p) = bn 1 ↔ g ^ q % p = 1 := Qq5 (by omega) (by omega)
            refine ⟨decide (bn (g ^ q % p) = bn 1), ?_, rfl, ?_⟩
            · by_cases h4 : bn (g ^ q % p) = bn 1
              · rw [decide_eq_false (by simpa using h4), decide_eq_true h4]; rfl
              · rw [decide_eq_true h4, decide_eq_false h4]; rfl
            · rw [decide_eq_true_eq, hone]
              exact ⟨fun h => ⟨hP, hQ, hz, h2, h3, h⟩, fun h => h.2.2.2.2.2⟩
          · have c5 : bn p ≤ bn g := (Qt1 hp hg).2 (by omega)
            have c6 : ¬ bn g < bn p := fun h => h3 ((Ql3 hg hp).1 h)
            rw [if_pos c5, if_neg c6]
            exact ⟨false, rfl, rfl, no fun h => h3 h.2.2.2.2.1⟩
        · have c3 : bn g < bn 2 := (Ql3 hg (by omega)).2 (by omega)
          have c4 : ¬ bn 2 ≤ bn g := fun h => h2 ((Qt1 (by omega) hg).1 h)
          rw [if_pos c3, if_neg c4]
          exact ⟨false, rfl, rfl, no fun h => h2 h.2.2.2.1⟩
      · have hz' : bn ((p - 1) % q) ≠ 0#64 := fun h => hz ((Qq5 (b := 0) (by omega) (by omega)).1 h)
        rw [if_pos hz', decide_eq_true hz']
        exact ⟨false, rfl, rfl, no fun h => hz h.2.2.1⟩
    · have hb2 : b2 = false := by cases b2 with | false => rfl | true => exact absurd (i2.1 rfl) hQ
      rw [hb2]
      refine ⟨false, rfl, ?_, no fun h => hQ h.2.1⟩
      by_cases hg' : 1048575 < q
      · have c0' : bn 1048575 < bn q := (Ql3 (by omega) hq).2 hg'
        rw [if_pos c0']; rfl
      · have c0' : ¬ bn 1048575 < bn q := fun h => hg' ((Ql3 (by omega) hq).1 h)
        rw [if_neg c0']
        obtain ⟨c2, f2, j2⟩ := Qr2 (n := q) (by omega)
        have : c2 = false := by cases c2 with | false => rfl | true => exact absurd ⟨by omega, j2.1 rfl⟩ hQ
        rw [f2, bind_some, this]; rfl
  · have hb1 : b1 = false := by cases b1 with | false => rfl | true => exact absurd (i1.1 rfl) hP
    rw [hb1]
    refine ⟨false, rfl, ?_, no fun h => hP h.1⟩
    by_cases hg' : 1048575 < p
    · have c0 : bn 1048575 < bn p := (Ql3 (by omega) hp).2 hg'
      rw [if_pos c0]; rfl
    · have c0 : ¬ bn 1048575 < bn p := fun h => hg' ((Ql3 (by omega) hp).1 h)
      rw [if_neg c0]
      obtain ⟨c1, f1, j1⟩ := Qr2 (n := p) (by omega)
      have : c1 = false := by cases c1 with | false => rfl | true => exact absurd ⟨by omega, j1.1 rfl⟩ hP
      rw [f1, bind_some, this]; rfl
theorem Qza : ∀ d : Fin 7, Qdq (d.1 : Int) = some ((2 ^ d.1 : Nat) : Int) := by decide +kernel
theorem Qvl {d : Nat} (h : d ≤ 6) : Qdq (d : Int) = some ((2 ^ d : Nat) : Int) := Qza ⟨d, by omega⟩
theorem Xo7 : ∀ d : Fin 7, Qxk 1 d.1 = ((2 ^ d.1 : Nat) : Int) := by decide +kernel
theorem Xlf {d : Nat} (h : d ≤ 6) : Qxk 1 d = ((2 ^ d : Nat) : Int) := Xo7 ⟨d, by omega⟩
theorem Qp2 (n : Nat) : shG (n : Int) = some n := by unfold shG; rw [if_pos (by omega)]; rfl
theorem Qck {d : Nat} (h : d ≤ 6) : 2 ^ d ≤ 64 := Nat.le_trans (Nat.pow_le_pow_right (by omega) h) (by decide)
theorem Quj (n : Nat) : wd (n : Int) = bn n := by unfold wd bn; exact BitVec.ofInt_natCast 64 n
structure Vld (s : Qa7) (d t p q g : Nat) : Prop where
  kind : s.Kind = 4#8
  depth : s.Depth = (d : Int)
  deg : s.Degree = (t : Int)
  d6 : d ≤ 6
  t1 : 1 ≤ t
  t8 : t ≤ 8
  grp : s.Group = ⟨bn p, bn q, bn g⟩
  ok : Qwh p q g
  big : 2 ^ d + t < q
theorem Qpa (s : Qa7) : (Qd8 s = some false ∧ Qkl s = some false) ∨ (Qd8 s = some true ∧ Qkl s = some true ∧ ∃ d t p q g, Vld s d t p q g) := by
  obtain ⟨kd, dp, dg, ⟨P, Q, G⟩⟩ := s
  obtain ⟨p, hp, rfl⟩ := Xoa P
  obtain ⟨q, hq, rfl⟩ := Xoa Q
  obtain ⟨g, hg, rfl⟩ := Xoa G
  unfold Qd8 Qkl Qg6
  simp only
  by_cases h1 : kd = 4#8
  · rw [if_pos h1, if_neg (show ¬ kd ≠ 4#8 from fun h => h h1)]
    by_cases h2 : 0 ≤ dp
    · rw [if_pos h2, if_neg (show ¬ dp < 0 by omega)]
      by_cases h3 : dp ≤ 6
      · rw [if_pos h3, if_neg (show ¬ 6 < dp by omega)]
        by_cases h4 : 1 ≤ dg
        · rw [if_pos h4, if_neg (show ¬ dg < 1 by omega)]
          by_cases h5 : dg ≤ 8
          · rw [if_pos h5, if_neg (show ¬ 8 < dg by omega)]
            obtain ⟨b, e1, e2, i⟩ := Xjn hp hq hg
            rw [e1, e2, bind_some, bind_some]
            cases b with
            | false => exact .inl ⟨rfl, rfl⟩
            | true =>
              obtain ⟨d, rfl⟩ : ∃ d : Nat, dp = (d : Int) := ⟨dp.toNat, by omega⟩
              obtain ⟨t, rfl⟩ : ∃ t : Nat, dg = (t : Int) := ⟨dg.toNat, by omega⟩
              have h64 := Qck (d := d) (by omega)
              have hpp := Nat.two_pow_pos d
              simp only [Bool.not_true, cond_false, if_true]
              rw [Qp2, bind_some, Qvl (by omega), bind_some, Xlf (by omega), Qdt (by omega) (by omega), show ((2 ^ d : Nat) : Int) + (t : Int) = ((2 ^ d + t : Nat) : Int) from by omega, Quj]
              by_cases hlt : 2 ^ d + t < q
              · rw [decide_eq_true ((Ql3 (by omega) hq).2 hlt)]
                exact .inr ⟨rfl, rfl, d, t, p, q, g, ⟨h1, rfl, rfl, by omega, by omega, by omega, rfl, i.1 rfl, hlt⟩⟩
              · rw [decide_eq_false (fun h => hlt ((Ql3 (by omega) hq).1 h))]; exact .inl ⟨rfl, rfl⟩
          · rw [if_neg h5, if_pos (show 8 < dg by omega)]; exact .inl ⟨rfl, rfl⟩
        · rw [if_neg h4, if_pos (show dg < 1 by omega)]; exact .inl ⟨rfl, rfl⟩
      · rw [if_neg h3, if_pos (show 6 < dp by omega)]; exact .inl ⟨rfl, rfl⟩
    · rw [if_neg h2, if_pos (show dp < 0 by omega)]; exact .inl ⟨rfl, rfl⟩
  · rw [if_neg h1, if_pos (show kd ≠ 4#8 from h1)]; exact .inl ⟨rfl, rfl⟩
theorem Vld.qb {s : Qa7} {d t p q g : Nat} (h : Vld s d t p q g) : 2 ≤ q ∧ q ≤ 1048575 := ⟨h.ok.2.1.2.1, h.ok.2.1.1⟩
theorem Vld.pb {s : Qa7} {d t p q g : Nat} (h : Vld s d t p q g) : 2 ≤ p ∧ p ≤ 1048575 := ⟨h.ok.1.2.1, h.ok.1.1⟩
def cfN (root : W2) (q i : Nat) : Nat := (drv (drv root (un8 40#8) 0#64) (un8 3#8) (bn i)).1.toNat % q
def cfs (root : W2) (q t : Nat) : List Nat := (List.range (t + 1)).map (cfN root q)
theorem Xaw {root : W2} {q t : Nat} (hq : 0 < q) : ∀ c ∈ cfs root q t, c < q := by
  intro c hc
  obtain ⟨i, _, rfl⟩ := List.mem_map.1 hc
  exact Nat.mod_lt _ hq
theorem Xgu (x : BitVec 64) {q : Nat} (hq : 0 < q) (hq2 : q < 18446744073709551616) : x % bn q = bn (x.toNat % q) := by
  apply BitVec.eq_of_toNat_eq
  have := Nat.mod_lt x.toNat hq
  rw [BitVec.toNat_umod, Qfx hq2, Qfx (by omega)]
theorem Xan {q : Nat} (hq : 0 < q) (hq2 : q < 18446744073709551616) : bn q ≠ 0#64 := fun h => by have := (Qq5 (b := 0) hq2 (by omega)).1 h; omega
theorem Qva {s : Qa7} {d t p q g : Nat} (h : Vld s d t p q g) (root : W2) : Qi2 root s = some ((cfs root q t).map bn) := by
  obtain ⟨q1, q2⟩ := h.qb
  have ht := h.t8
  unfold Qi2
  rw [h.deg, Qdt (by omega) (by omega), show (t : Int) + 1 = ((t + 1 : Nat) : Int) from by omega, mkL, if_pos (by omega), bind_some, Int.toNat_natCast]
  refine Qpr _ (fun j x => x = ((List.range (t + 1)).map (fun i => if i < j then bn (cfN root q i) else 0#64), (j : Int))) (t + 1) _ (by omega) ?_ ?_ ?_
  · congr 1
    apply List.ext_getElem
    · simp
    · intro i _ _; simp
  · rintro j _ hj rfl
    refine ⟨_, rfl, fun rec => ?_⟩
    simp only [Qhk]
    have hjl : j < ((List.range (t + 1)).map (fun i => if i < j then bn (cfN root q i) else 0#64)).length := by simpa using hj
    rw [if_pos (by simp; omega), h.grp, Quj]
    simp only
    rw [Xa6 _ _ _ (Xan (by omega) (by omega)), bind_some, Qcb hjl, bind_some, Int.toNat_natCast, Qet (by omega), Xgu _ (by omega) (by omega)]
    congr 2
    apply List.ext_getElem
    · simp
    · intro i h1 h2
      rw [List.getElem_set]
      simp only [List.getElem_map, List.getElem_range]
      by_cases e : j = i
      · subst e; rw [if_pos rfl, if_pos (by omega)]; rfl
      · rw [if_neg e]
        by_cases e2 : i < j
        · rw [if_pos e2, if_pos (by omega)]
        · rw [if_neg e2, if_neg (by omega)]
  · rintro _ rfl rec
    simp only [Qhk]
    rw [if_neg (by simp)]
    congr 1
    unfold cfs
    rw [List.map_map]
    apply List.map_congr_left
    intro i hi
    rw [if_pos (List.mem_range.1 hi)]; rfl
theorem Qu3 {s : Qa7} {d t p q g : Nat} (h : Vld s d t p q g) (root : W2) : Qir root s = some ((cfs root q t).map bn) := by
  obtain ⟨q1, q2⟩ := h.qb
  have ht := h.t8
  unfold Qir
  refine Qpr _ (fun j x => x = ((List.range j).map (fun i => bn (cfN root q i)), (j : Int))) (t + 1) _ (by omega) (by simp) ?_ ?_
  · rintro j _ hj rfl
    refine ⟨_, rfl, fun rec => ?_⟩
    simp only [Qh1]
    rw [h.deg, if_pos (by omega), h.grp, Quj]
    simp only
    rw [Qxm _ _ _ (Xan (by omega) (by omega)), bind_some, Qhv (by simp; omega), bind_some, Qet (by omega), Xgu _ (by omega) (by omega), List.range_succ, List.map_append]; rfl
  · rintro _ rfl rec
    simp only [Qh1]
    rw [h.deg, if_neg (by omega)]
    unfold cfs
    rw [List.map_map]; rfl
def evN (l : List Nat) (x : Nat) : Nat := l.foldr (fun c a => c + x * a) 0
theorem Xdo (x : Nat) : ∀ (l : List Nat) (c : Nat), evN (l ++ [c]) x = evN l x + c * x ^ l.length
  | [], c => by simp [evN]
  | a :: l, c => by
    have := Xdo x l c
    simp only [evN] at this ⊢
    rw [List.cons_append, List.foldr_cons, List.foldr_cons, this, List.length_cons, Nat.pow_succ, Nat.mul_add, Nat.add_assoc]
    congr 2
    rw [Nat.mul_left_comm, Nat.mul_comm x]
theorem Xc4 {q a b : Nat} (hq : 2 ≤ q) (hq2 : q ≤ 1048575) (ha : a < q) (hb : b < q) : Qdl (bn q) [bn a, bn b] = some (bn (a * b % q)) := by
  unfold Qdl
  have hab : a * b < 18446744073709551616 := Nat.lt_of_le_of_lt (Nat.mul_le_mul (Nat.le_of_lt ha) (Nat.le_of_lt hb)) (by have := Nat.mul_le_mul hq2 hq2; omega)
  rw [show Qcw = 18446744073709551613 + 1 + 1 + 1 from rfl, Qbn]
  simp only [Qe2]
  rw [if_pos (by simp), show Qg0 [bn a, bn b] 0 = some (bn a) from rfl, bind_some, show (1#64) = bn 1 from rfl, Qpp, Nat.one_mul, Qfc (by omega) (by omega) (by omega), bind_some, Nat.mod_eq_of_lt ha, show w64 (0 + 1) = 1 from by decide, Qbn]
  simp only [Qe2]
  rw [if_pos (by simp), show Qg0 [bn a, bn b] 1 = some (bn b) from rfl, bind_some, Qpp, Qfc hab (by omega) (by omega), bind_some, show w64 (1 + 1) = 2 from by decide, Qbn]
  simp only [Qe2]
  rw [if_neg (by simp)]
theorem Xa3 (l : List (BitVec 64)) (hl : l.length < 4611686018427387904) : ∀ (k f : Nat), k ≤ l.length → k < f → Qc3 (Qc9 l) f ((k : Int) - 1) = some ((List.range k).reverse.map fun i : Nat => ((i : Int), l.getD i 0#64))
  | k, 0, _, h => by omega
  | 0, f + 1, _, _ => by
    rw [Qbn]; simp only [Qc9]; rw [if_neg (by omega)]; rfl
  | k + 1, f + 1, hk, hf => by
    rw [Qbn]; simp only [Qc9]
    rw [show ((k + 1 : Nat) : Int) - 1 = (k : Int) from by omega, if_pos (by omega), Qcb (by omega), bind_some, Qdt (by omega) (by omega), Xa3 l hl k f (by omega) (by omega), Xko, List.range_succ, List.reverse_append, List.map_append]
    have hkk : k < l.length := by omega
    simp [hkk]
theorem Xg0 {q x : Nat} (hq : 2 ≤ q) (hq2 : q ≤ 1048575) (hx : x < q) (l : List Nat) (hl : ∀ c ∈ l, c < q) : ∀ (k : Nat), k ≤ l.length → itL (Qde (bn q) (bn x)) Qe7 ((List.range k).reverse.map fun i : Nat => ((i : Int), (l.map bn).getD i 0#64)) (bn (evN (l.drop k) x % q)) = some (bn (evN l x % q))
  | 0, _ => by rw [List.drop_zero]; rfl
  | k + 1, hk => by
    have hkl : k < l.length := by omega
    rw [List.range_succ, List.reverse_append, List.map_append, show ([k].reverse.map fun i : Nat => ((i : Int), (l.map bn).getD i 0#64)) = [((k : Int), bn l[k])] from by simp [List.getD, hkl], List.singleton_append, Qkw]
    simp only [Qde]
    have hc := hl _ (List.getElem_mem hkl)
    have hm := Nat.mod_lt (evN (l.drop (k + 1)) x) (show 0 < q by omega)
    have hm2 := Nat.mod_lt (evN (l.drop (k + 1)) x % q * x) (show 0 < q by omega)
    rw [Xc4 hq hq2 hm hx, bind_some, Qu5, Qfc (by omega) (by omega) (by omega), bind_some]
    have he : (evN (l.drop (k + 1)) x % q * x % q + l[k]) % q = evN (l.drop k) x % q := by
      rw [List.drop_eq_getElem_cons hkl, show evN (l[k] :: l.drop (k + 1)) x = l[k] + x * evN (l.drop (k + 1)) x from rfl, Nat.mod_mul_mod, Nat.mod_add_mod, Nat.add_comm, Nat.mul_comm]
    rw [he]
    exact Xg0 hq hq2 hx l hl k (by omega)
theorem Xoh {q x : Nat} (hq : 2 ≤ q) (hq2 : q ≤ 1048575) (hx : x < q) (l : List Nat) (hl : ∀ c ∈ l, c < q) (hlen : l.length < 4611686018427387904) : Qek (l.map bn) (bn q) (bn x) = some (bn (evN l x % q)) := by
  unfold Qek Qgh Qfl
  rw [bind_some, Qdt (by rw [List.length_map]; omega) (by rw [List.length_map]; omega), Xa3 _ (by rw [List.length_map]; exact hlen) _ Qcw (Nat.le_refl _) (Qe1 (by rw [List.length_map]; omega)), bind_some, List.length_map]
  have := Xg0 hq hq2 hx l hl l.length (Nat.le_refl _)
  rw [List.drop_length, show evN [] x % q = 0 from by simp [evN]] at this
  exact this
theorem Xcd {q x : Nat} (hq : 2 ≤ q) (hq2 : q ≤ 1048575) (hx : x < q) (l : List Nat) (hl : ∀ c ∈ l, c < q) (hlen : l.length < 4611686018427387904) : Qot (bn q) (l.map bn) (bn x) = some (bn (evN l x % q)) := by
  unfold Qot
  refine Qpr _ (fun j s => s = (bn (evN (l.take j) x % q), bn (x ^ j % q), (j : Int))) l.length _ (by omega) ?_ ?_ ?_
  · rw [List.take_zero, Nat.pow_zero, Nat.mod_eq_of_lt (show 1 < q by omega), show evN [] x % q = 0 from by simp [evN]]; rfl
  · rintro j _ hj rfl
    refine ⟨_, rfl, fun rec => ?_⟩
    have hc := hl _ (List.getElem_mem hj)
    have hm := Nat.mod_lt (evN (l.take j) x) (show 0 < q by omega)
    have hm2 := Nat.mod_lt (x ^ j) (show 0 < q by omega)
    have hp1 : l[j] * (x ^ j % q) ≤ 1048575 * 1048575 := Nat.mul_le_mul (by omega) (by omega)
    have hp2 : x ^ j % q * x ≤ 1048575 * 1048575 := Nat.mul_le_mul (by omega) (by omega)
    simp only [Qlc]
    rw [if_pos (by simp; omega), Qcb (by simpa using hj), bind_some, List.getElem_map, Qpp, Qu5, Qfc (by omega) (by omega) (by omega), bind_some, Qpp, Qfc (by omega) (by omega) (by omega), bind_some, Qet (by omega), Qmk l j hj, Xdo, List.length_take, Nat.min_eq_left (by omega)]
    congr 2
    · rw [Nat.mod_add_mod, Nat.add_mod, Nat.mul_mod_mod, ← Nat.add_mod]
    · rw [Nat.mod_mul_mod, Nat.pow_succ]
  · rintro _ rfl rec
    simp only [Qlc]
    rw [if_neg (by simp), List.take_length]
end Go.Sx.Po

end
section
set_option linter.unusedVariables false
set_option linter.unusedSimpArgs false
set_option maxRecDepth 100000
noncomputable section
namespace Go.Sx.Ep
open Go Go.Sx
theorem Qsp (s : Qa7) : Qen s = some (if Qnf s then 0 else 30) ∧ Qw9 s = some (if Qnf s then 0 else 30) := by
  unfold Qen Qw9
  constructor
  · rw [Qpy, bind_some]
    cases hv : Qnf s <;> rfl
  · rw [Go.Sx.Qpa, bind_some]
    cases hv : Qnf s <;> rfl
theorem Xpl (k : BitVec 8) : (k < 1#8 ∨ (5 : Int) ≤ un8 k) ∨ ((un8 k = 1 ∨ un8 k = 2 ∨ un8 k = 3) ∧ 1#8 ≤ k ∧ k ≤ 3#8 ∧ k ≠ 4#8 ∧ ¬ k < 1#8 ∧ ¬ (5 : Int) ≤ un8 k) ∨ (k = 4#8 ∧ un8 k = 4 ∧ ¬ (un8 k = 1 ∨ un8 k = 2 ∨ un8 k = 3)) := by
  unfold un8
  have h4 : k = 4#8 ↔ k.toNat = 4 := ⟨fun h => by rw [h]; rfl, fun h => BitVec.eq_of_toNat_eq h⟩
  rw [BitVec.lt_def, BitVec.le_def, BitVec.le_def, ne_eq, h4]
  have e1 : (1#8).toNat = 1 := rfl
  have e3 : (3#8).toNat = 3 := rfl
  rw [e1, e3]; omega
theorem Qxj (root : W2) (s : Qa7) (u : Int) : ∃ r, Qh0 root s u = some r ∧ Qua root s u = some r ∧ r.1.Labels = [] := by
  unfold Qh0 Qua
  rcases Po.Qpa s with ⟨e1, e2⟩ | ⟨e1, e2, d, t, p, q, g, h⟩
  · rw [e1, e2]; exact ⟨_, rfl, rfl, rfl⟩
  · have h64 := Po.Qck h.d6
    obtain ⟨q1, q2⟩ := h.qb
    rw [e1, e2, bind_some, bind_some]
    simp only [Bool.not_true, cond_false]
    unfold Qg4 Qmt
    by_cases hn : u < 0
    · rw [if_pos hn, if_pos hn]; exact ⟨_, rfl, rfl, rfl⟩
    · rw [if_neg hn, if_neg hn, h.depth, Po.Qp2, bind_some, Po.Qvl h.d6, bind_some, Po.Xlf h.d6]
      by_cases hg : ((2 ^ d : Nat) : Int) ≤ u
      · rw [decide_eq_true hg]; exact ⟨_, rfl, rfl, rfl⟩
      · rw [decide_eq_false hg, cond_false, cond_false]
        obtain ⟨n, rfl⟩ : ∃ n : Nat, u = (n : Int) := ⟨u.toNat, by omega⟩
        unfold Qri
        have hb := h.big
        have hcl : (Po.cfs root q t).length = t + 1 := by simp [Po.cfs]
        have ht := h.t8
        rw [Po.Qva h, Po.Qu3 h, bind_some, bind_some, h.grp, Po.Quj, show (1#64) = Po.bn 1 from rfl, Po.Qu5]
        simp only
        rw [Po.Xoh q1 q2 (by omega) _ (Po.Xaw (by omega)) (by omega), Po.Xcd q1 q2 (by omega) _ (Po.Xaw (by omega)) (by omega), bind_some, bind_some]
        exact ⟨_, rfl, rfl, rfl⟩
end Go.Sx.Ep

end
section
set_option linter.unusedVariables false
set_option linter.unusedSimpArgs false
set_option maxRecDepth 100000
namespace Go.Sx
open Go
variable {d : Nat} {R : List Nat}
theorem Xd2 (h : Rcv d R) {u : Nat} (hu : u < 2 ^ d) : Qib d R (2 ^ d + u) = true ↔ u ∈ R := by
  rw [Qnu]
  constructor
  · rintro ⟨a, ha, hb⟩
    obtain ⟨l1, l2, l3⟩ := h.leaf ha
    have := Qmb l1 (Qxo l1) hb (by rw [l3, Qt3 hu])
    have : a = u := by omega
    exact this ▸ ha
  · intro hm
    exact ⟨u, hm, Qxo (by have := Nat.two_pow_pos d; omega)⟩
theorem Xgy {L a b : Nat} (hL : 1 ≤ L) (ha : Qba L a = true) (hb : Qba L b = true) (hl : Nat.log2 b ≤ Nat.log2 a) : Qba a b = true := by
  obtain ⟨i, i1, rfl⟩ := (Qbr hL).1 ha
  obtain ⟨j, j1, rfl⟩ := (Qbr hL).1 hb
  have li := Qdj L i i1
  have lj := Qdj L j j1
  have hij : i + (j - i) = j := by omega
  refine (Qbr (Qjw i1)).2 ⟨j - i, Qio (by rw [hij]; exact j1), ?_⟩
  rw [Nat.div_div_eq_div_mul, ← Nat.pow_add, hij]
def Low (d : Nat) (R : List Nat) (L z : Nat) : Prop := Qib d R z = true ∧ Qba L z = true ∧ ∃ s, s / 2 = z ∧ 2 ≤ s ∧ Qba L s = true ∧ Qib d R s = false
theorem Qwf (h : Rcv d R) {a b : Nat} (ha : Qib d R a = true) (hb : Qba a b = true) : Qib d R b = true := by
  obtain ⟨k, k1, k2⟩ := (Qbr (Qln h ha).1).1 hb
  rw [k2]; exact Qww h ha k k1
theorem Xlw (h : Rcv d R) {L z1 z2 : Nat} (hL : 1 ≤ L) (h1 : Low d R L z1) (h2 : Low d R L z2) : ¬ Nat.log2 z1 < Nat.log2 z2 := by
  intro hlt
  obtain ⟨a1, b1, s, c1, c2, c3, c4⟩ := h1
  obtain ⟨a2, b2, _⟩ := h2
  have hs := Qhd c2
  rw [c1] at hs
  have := Qwf h a2 (Xgy hL b2 c3 (by omega))
  rw [c4] at this; cases this
theorem Xmi (h : Rcv d R) {L z1 z2 : Nat} (hL : 1 ≤ L) (h1 : Low d R L z1) (h2 : Low d R L z2) : z1 = z2 :=
  Qmb hL h1.2.1 h2.2.1 (by have := Xlw h hL h1 h2; have := Xlw h hL h2 h1; omega)
theorem Xb9 {p : Nat → Bool} : ∀ (n j : Nat), p (j + n) = true → p j = false → ∃ t, j ≤ t ∧ t < j + n ∧ p (t + 1) = true ∧ p t = false
  | 0, j, h1, h2 => by rw [Nat.add_zero, h2] at h1; cases h1
  | n + 1, j, h1, h2 => by
    cases hp : p (j + n) with
    | true => obtain ⟨t, a, b, c⟩ := Xb9 n j hp h2; exact ⟨t, a, by omega, c⟩
    | false => exact ⟨j + n, by omega, by omega, h1, hp⟩
theorem Xh7 (h : Rcv d R) {L f K i j : Nat} (hL : 1 ≤ L) (hl : Nat.log2 L = d) (hf : f < 128) (hK : 2 ^ K ≤ f) (hfd : Nat.log2 f ≤ d) (hc : ∀ t, t < K → Qib d R (f / 2 ^ t) = true ∧ Qib d R ((f / 2 ^ t) ^^^ 1) = false)
    (hij : j < i) (hi : i ≤ K) (ha : Qba L (f / 2 ^ i) = true) (hb : Qba L (f / 2 ^ j) = false) : ∃ t, j ≤ t ∧ t < i ∧ Low d R L (f / 2 ^ (t + 1)) := by
  obtain ⟨t, t1, t2, t3, t4⟩ := Xb9 (p := fun t => Qba L (f / 2 ^ t)) (i - j) j (by show Qba L (f / 2 ^ (j + (i - j))) = true; rw [Nat.add_sub_cancel' (by omega)]; exact ha) hb
  replace t3 : Qba L (f / 2 ^ (t + 1)) = true := t3
  replace t4 : Qba L (f / 2 ^ t) = false := t4
  refine ⟨t, t1, by omega, ?_⟩
  have ht : 2 ^ (t + 1) ≤ f := Nat.le_trans (Nat.pow_le_pow_right (by omega) (by omega)) hK
  have hs2 : 2 ≤ f / 2 ^ t := by have := Qio (w := f) (i := t) (j := 1) ht; simpa using this
  obtain ⟨c1, c2⟩ := hc t (by omega)
  rw [Qlx] at t3 ⊢
  have hsl : f / 2 ^ t < 128 := Nat.lt_of_le_of_lt (Nat.div_le_self _ _) hf
  have hlg := Qdj f t (Nat.le_trans (Nat.pow_le_pow_right (by omega) (by omega)) ht)
  generalize hs : f / 2 ^ t = s at *
  have hh := Qhd hs2
  refine ⟨Xi3 h c1 hs2, t3, s ^^^ 1, Qv2 hsl, Qon hsl hs2, ?_, c2⟩
  rw [Qth hL (by omega) (by omega)] at t3
  rcases (show 2 * (s / 2) = s ∨ 2 * (s / 2) + 1 = s by omega) with e | e
  · have := Xsl (n := s / 2) (by omega)
    rw [e, t4, Bool.false_or] at t3
    rw [e] at this; rw [this]; exact t3
  · have := Xpj (n := s / 2) (by omega)
    rw [e, t4, Bool.or_false] at t3
    rw [e] at this; rw [this]; exact t3
def Xuj (k : BitVec 8) (d : Nat) (R : List Nat) (L z : Nat) : Nat × Nat :=
  if Qux k d (hdN d R 7 z) (Qdp d R 7 (hdN d R 7 z)) then (hdN d R 7 z, Qdp d R 7 (hdN d R 7 z))
  else if Qba L (Qrr d (hdN d R 7 z) (Qdp d R 7 (hdN d R 7 z))) then (Qrr d (hdN d R 7 z) (Qdp d R 7 (hdN d R 7 z)), Qdp d R 7 (hdN d R 7 z))
  else (hdN d R 7 z, Qrr d (hdN d R 7 z) (Qdp d R 7 (hdN d R 7 z)))
theorem Qkm {L v w : Nat} : Qud L v w = true ↔ Qba L v = true ∧ (w = 0 ∨ Qba L w = false) := by
  unfold Qud; simp
theorem Xbd (h : Rcv d R) {k : BitVec 8} (hk : k ≠ 1#8) (hne : R ≠ []) {y : Nat × Nat} (hy : y ∈ Qsb k d R) {u : Nat} (hu : u < 2 ^ d) (hm : Qud (2 ^ d + u) y.1 y.2 = true) :
    ∃ z, Low d R (2 ^ d + u) z ∧ y = Xuj k d R (2 ^ d + u) z := by
  have h64 := Qck h.1
  have hpow : 2 ^ (d + 1) = 2 * 2 ^ d := by rw [Nat.pow_succ, Nat.mul_comm]
  have hv := Xcl h hne hy
  have hout := (Qyb h hne hv y).1 ⟨hy, rfl⟩
  have hy1 := (Qrt.1 hy).1
  have hlog := Qt3 hu
  have hL : 1 ≤ 2 ^ d + u := by omega
  generalize hLe : 2 ^ d + u = L at *
  have hhd : Xb6 d R (Qwx k d R y) = true := by
    unfold Qwx; rw [if_neg hk]
    exact (Qt8 7 y.1 hy1.1 (by have := Qox hy1.1 hy1.2; have := h.1; omega)).1
  generalize hve : Qwx k d R y = v at *
  obtain ⟨v1, vl, v2⟩ := Qln h hv
  obtain ⟨f1, f2, f3, K, f4, f5, f6⟩ := Ql4 h 7 v v1 vl (by have := h.1; omega)
  unfold Xbx at hout
  rw [if_neg hk, if_pos hhd] at hout
  have key : ∀ z, hdN d R 7 z = v → Xuj k d R L z = if Qux k d v (Qdp d R 7 v) then (v, Qdp d R 7 v) else if Qba L (Qrr d v (Qdp d R 7 v)) then (Qrr d v (Qdp d R 7 v), Qdp d R 7 v) else (v, Qrr d v (Qdp d R 7 v)) := by
    intro z hz; unfold Xuj; rw [hz]
  have cutc := fun hs => Qss (d := d) (k := k) (v := v) (w := Qdp d R 7 v) (.inr trivial) f4 f5 v1 hs
  generalize hfe : Qdp d R 7 v = f at *
  have hf128 : f < 128 := by have := (Nat.log2_lt (n := f) (k := d + 1) (by omega)).1 (by omega); omega
  have hK6 := Qub f4 hf128
  have hd : ∀ t, t < K → hdN d R 7 (f / 2 ^ (t + 1)) = v := fun t ht =>
    Qyv hhd v1 (t + 1) (K - (t + 1)) 7 (by rw [Nat.add_sub_cancel' (by omega)]; exact f4) (by rw [Nat.add_sub_cancel' (by omega)]; exact f5) (fun i h1 h2 => (f6 i (by omega)).2) (by omega)
  by_cases hfv : f = v
  · rw [if_pos hfv] at hout; cases hout
  · rw [if_neg hfv] at hout
    have hK0 : 0 < K := by
      rcases Nat.eq_zero_or_pos K with e | e
      · subst e; simp at f5; exact absurd f5.symm hfv
      · exact e
    cases hs : Qux k d v f with
    | true =>
      rw [hs, if_pos rfl, List.mem_singleton] at hout
      subst hout
      obtain ⟨m1, m2⟩ := Qkm.1 hm
      simp only at m1 m2
      rcases m2 with m2 | m2
      · omega
      · rw [f5] at m1
        obtain ⟨t, t1, t2, t3⟩ := Xh7 h hL hlog hf128 f4 f2 f6 (j := 0) (i := K) hK0 (Nat.le_refl _) m1 (by simpa using m2)
        exact ⟨_, t3, by rw [key _ (hd t t2), hs, if_pos rfl]⟩
    | false =>
      rw [hs, if_neg (by simp)] at hout
      obtain ⟨j, j1, j2, j3⟩ := cutc hs
      generalize hce : Qrr d v f = c at *
      have hc1 : 1 ≤ c := by rw [j3]; exact Qjw (Nat.le_trans (Nat.pow_le_pow_right (by omega) (by omega)) f4)
      rcases List.mem_cons.1 hout with e | e
      · subst e
        obtain ⟨m1, m2⟩ := Qkm.1 hm
        simp only at m1 m2
        rcases m2 with m2 | m2
        · omega
        · have m2' := m2
          rw [f5] at m1; rw [j3] at m2
          obtain ⟨t, t1, t2, t3⟩ := Xh7 h hL hlog hf128 f4 f2 f6 (j := j) (i := K) j2 (Nat.le_refl _) m1 m2
          exact ⟨_, t3, by rw [key _ (hd t t2), hs, if_neg (by simp), m2', if_neg (by simp)]⟩
      · rw [List.mem_singleton] at e
        subst e
        obtain ⟨m1, m2⟩ := Qkm.1 hm
        simp only at m1 m2
        rcases m2 with m2 | m2
        · omega
        · have m1' := m1
          rw [j3] at m1
          obtain ⟨t, t1, t2, t3⟩ := Xh7 h hL hlog hf128 f4 f2 f6 (j := 0) (i := j) (by omega) (by omega) m1 (by simpa using m2)
          exact ⟨_, t3, by rw [key _ (hd t (by omega)), hs, if_neg (by simp), m1', if_pos rfl]⟩
theorem Xcx (h : Rcv d R) (hne : R ≠ []) : Qib d R 1 = true := by
  obtain ⟨u, hu⟩ := List.exists_mem_of_ne_nil R hne
  obtain ⟨l1, l2, l3⟩ := h.leaf hu
  exact Qnu.2 ⟨u, hu, (Qbr l1).2 ⟨d, by omega, by rw [Nat.add_div_left _ (Nat.two_pow_pos d), Nat.div_eq_of_lt (h.2 u hu)]⟩⟩
theorem Qyr (h : Rcv d R) (hne : R ≠ []) {y : Nat × Nat} (hy : y ∈ Qsb 1#8 d R) : Qib d R y.1 = false ∧ 2 ≤ y.1 ∧ Qib d R (y.1 / 2) = true ∧ y.2 = 0 := by
  obtain ⟨⟨y1, y2⟩, hm⟩ := Qrt.1 hy
  unfold Xmu at hm
  rw [if_pos rfl] at hm
  split at hm
  · rename_i hc
    simp only [Bool.and_eq_true, Bool.not_eq_true', Bool.or_eq_true, decide_eq_true_eq] at hc
    have hr := Xcx h hne
    have hyn : y.1 ≠ 1 := fun e => by rw [e, hr] at hc; simp at hc
    exact ⟨hc.1, by omega, hc.2.resolve_left hyn, (Option.some.inj hm).symm⟩
  · cases hm
theorem Xj1 (h : Rcv d R) {k : BitVec 8} (hne : R ≠ []) {y y' : Nat × Nat} (hy : y ∈ Qsb k d R) (hy' : y' ∈ Qsb k d R) {u : Nat} (hu : u < 2 ^ d) (hm : Qud (2 ^ d + u) y.1 y.2 = true) (hm' : Qud (2 ^ d + u) y'.1 y'.2 = true) : y = y' := by
  have hL : 1 ≤ 2 ^ d + u := by have := Nat.two_pow_pos d; omega
  by_cases hk : k = 1#8
  · subst hk
    obtain ⟨a1, a2, a3, a4⟩ := Qyr h hne hy
    obtain ⟨b1, b2, b3, b4⟩ := Qyr h hne hy'
    have m1 := (Qkm.1 hm).1
    have m2 := (Qkm.1 hm').1
    have up : ∀ {s : Nat}, 2 ≤ s → Qba (2 ^ d + u) s = true → Qba (2 ^ d + u) (s / 2) = true := fun {s} h2 hb => Qmw hL hb ((Qbr (by omega)).2 ⟨1, by simpa using h2, by simp⟩)
    have hz := Xmi h hL (z1 := y.1 / 2) (z2 := y'.1 / 2) ⟨a3, up a2 m1, y.1, rfl, a2, m1, a1⟩ ⟨b3, up b2 m2, y'.1, rfl, b2, m2, b1⟩
    have l1 := Qhd a2
    have l2 := Qhd b2
    have := Qmb hL m1 m2 (by rw [l1, l2, hz])
    exact Prod.ext this (by rw [a4, b4])
  · obtain ⟨z, z1, z2⟩ := Xbd h hk hne hy hu hm
    obtain ⟨z', z1', z2'⟩ := Xbd h hk hne hy' hu hm'
    rw [z2, z2', Xmi h hL z1 z1']
theorem Xs4 (h : Rcv d R) {k : BitVec 8} (hne : R ≠ []) {y : Nat × Nat} (hy : y ∈ Qsb k d R) {u : Nat} (hu : u < 2 ^ d) (hr : u ∈ R) : Qud (2 ^ d + u) y.1 y.2 = false := by
  have hhot := (Xd2 h hu).2 hr
  cases hm : Qud (2 ^ d + u) y.1 y.2 with
  | false => rfl
  | true =>
    by_cases hk : k = 1#8
    · subst hk
      have := Qwf h hhot (Qkm.1 hm).1
      rw [(Qyr h hne hy).1] at this; cases this
    · obtain ⟨z, ⟨_, _, s, _, _, s3, s4⟩, _⟩ := Xbd h hk hne hy hu hm
      have := Qwf h hhot s3
      rw [s4] at this; cases this
theorem Xr1 (h : Rcv d R) (hne : R ≠ []) {u : Nat} (hu : u < 2 ^ d) (hn : u ∉ R) : ∃ z, Low d R (2 ^ d + u) z := by
  have hp := Nat.two_pow_pos d
  have hL : 1 ≤ 2 ^ d + u := by omega
  have h0 : Qib d R (2 ^ d + u) = false := by cases hh : Qib d R (2 ^ d + u) with | false => rfl | true => exact absurd ((Xd2 h hu).1 hh) hn
  obtain ⟨t, t1, t2, t3, t4⟩ := Xb9 (p := fun i => Qib d R ((2 ^ d + u) / 2 ^ i)) d 0 (by simp only [Nat.zero_add]; rw [Nat.add_div_left _ hp, Nat.div_eq_of_lt hu]; exact Xcx h hne) (by simpa using h0)
  have h1 : 2 ^ (t + 1) ≤ 2 ^ d + u := Nat.le_trans (Nat.pow_le_pow_right (by omega) (by omega)) (Nat.le_add_right _ _)
  have h2 : 2 ^ t ≤ 2 ^ d + u := Nat.le_trans (Nat.pow_le_pow_right (by omega) (by omega)) h1
  refine ⟨_, t3, (Qbr hL).2 ⟨t + 1, h1, rfl⟩, (2 ^ d + u) / 2 ^ t, (Qlx _ _).symm, ?_, (Qbr hL).2 ⟨t, h2, rfl⟩, t4⟩
  have := Qio (w := 2 ^ d + u) (i := t) (j := 1) h1; simpa using this
theorem Xst {z c : Nat} (hz : c / 2 = z) (h2 : 2 ≤ c) (hc : c < 128) (hh : Qib d R c = true) (hs : Qib d R (c ^^^ 1) = false) : brN d R z = true ∧ nxN d R z = c := by
  unfold brN nxN
  rcases (show 2 * (c / 2) = c ∨ 2 * (c / 2) + 1 = c by omega) with e | e
  · have := Xsl (n := c / 2) (by omega)
    rw [e] at this
    rw [this] at hs
    rw [hz] at e
    rw [e, hh, hs]; simp
  · have := Xpj (n := c / 2) (by omega)
    rw [e] at this
    rw [this, hz] at hs
    rw [hz] at e
    rw [e, hh, hs]; simp
theorem Xae {z : Nat} (hz : z < 128) : ∀ (i g : Nat), 2 ^ i ≤ z → (∀ t, t < i → Qib d R (z / 2 ^ t) = true ∧ Qib d R ((z / 2 ^ t) ^^^ 1) = false) → Qdp d R (i + g) (z / 2 ^ i) = Qdp d R g z
  | 0, g, _, _ => by simp
  | i + 1, g, hi, hc => by
    obtain ⟨c1, c2⟩ := hc i (by omega)
    have h2 : 2 ≤ z / 2 ^ i := by have := Qio (w := z) (i := i) (j := 1) hi; simpa using this
    obtain ⟨b1, b2⟩ := Xst (z := z / 2 ^ (i + 1)) (Qlx z i).symm h2 (Nat.lt_of_le_of_lt (Nat.div_le_self _ _) hz) c1 c2
    rw [show i + 1 + g = (i + g) + 1 from by omega, Qdp, b1, if_pos rfl, b2]
    exact Xae hz i g (Nat.le_trans (Nat.pow_le_pow_right (by omega) (by omega)) hi) fun t ht => hc t (by omega)
theorem Xoc (h : Rcv d R) {k : BitVec 8} (hne : R ≠ []) {u : Nat} (hu : u < 2 ^ d) (hn : u ∉ R) : ∃ y ∈ Qsb k d R, Qud (2 ^ d + u) y.1 y.2 = true := by
  have h64 := Qck h.1
  have hpow : 2 ^ (d + 1) = 2 * 2 ^ d := by rw [Nat.pow_succ, Nat.mul_comm]
  have hlog := Qt3 hu
  have hL : 1 ≤ 2 ^ d + u := by omega
  have hL2 : 2 ^ d + u < 128 := by omega
  obtain ⟨z, z1, z2, s, s1, s2, s3, s4⟩ := Xr1 h hne hu hn
  have hsl := Qsu hL s3
  have hsh := Qhd s2
  obtain ⟨zp, zl, zb⟩ := Qln h z1
  have hs128 : s < 2 ^ (d + 1) := (Nat.log2_lt (by omega)).1 (by omega)
  by_cases hk : k = 1#8
  · subst hk
    refine ⟨(s, 0), Qrt.2 ⟨⟨by simp only; omega, hs128⟩, ?_⟩, Qkm.2 ⟨s3, .inl rfl⟩⟩
    unfold Xmu
    rw [if_pos rfl, s4, s1, z1]; simp
  · have hsb := Xgo (n := s) (by omega)
    have hs2' := Qon (n := s) (by omega) s2
    have hslog := Qz5 (n := s) (by omega) s2
    have hc : Qib d R (s ^^^ 1) = true := by
      have := Qv1 h (v := z) zp (by rw [s1] at hsh; omega)
      rw [z1, ← s1] at this
      rcases (show 2 * (s / 2) = s ∨ 2 * (s / 2) + 1 = s by omega) with e | e
      · have e2 := Xsl (n := s / 2) (by omega)
        rw [e] at e2
        rw [e, ← e2, s4] at this; simpa using this.symm
      · have e2 := Xpj (n := s / 2) (by omega)
        rw [e] at e2
        rw [e, s4, ← e2] at this; simpa using this.symm
    have hcn : Qba (2 ^ d + u) (s ^^^ 1) = false := by
      cases hb : Qba (2 ^ d + u) (s ^^^ 1) with
      | false => rfl
      | true => exact absurd (Qmb hL hb s3 hslog) (Xhg (by omega))
    obtain ⟨hh, i, i1, i2, i3⟩ := Qt8 (d := d) (R := R) 7 z zp (by have := h.1; omega)
    have hi6 := Qub i1 (by omega)
    have vhot : Qib d R (hdN d R 7 z) = true := by rw [i2]; exact Qww h z1 i i1
    have hbr := Xst (d := d) (R := R) (z := z) (c := s ^^^ 1) (by rw [Qv2 (by omega)]; exact s1) hs2' hsb hc (by rw [Xck (by omega)]; exact s4)
    have hzi := Qdj z i i1
    have hzpos := Qjw i1
    have hft : Qdp d R 7 (hdN d R 7 z) = Qdp d R (6 - i) (s ^^^ 1) := by
      rw [i2]
      have := Xae (d := d) (R := R) (z := z) (by omega) i (7 - i) i1 (fun t ht => ⟨Qww h z1 t (Nat.le_trans (Nat.pow_le_pow_right (by omega) (by omega)) i1), by
        have := i3 t ht; unfold Xb6 at this; rw [Bool.or_eq_false_iff] at this; exact this.2⟩)
      rw [Nat.add_sub_cancel' (by omega)] at this
      rw [this, show 7 - i = (6 - i) + 1 from by omega, Qdp, hbr.1, if_pos rfl, hbr.2]
    have hil : i ≤ Nat.log2 z := by omega
    rw [s1] at hsh
    have hd6 := h.1
    obtain ⟨g1, g2, g3, K', g4, g5, g6⟩ := Ql4 h (6 - i) (s ^^^ 1) (by omega) (by omega) (by omega)
    have hvl := Qln h vhot
    obtain ⟨f1, f2, f3, K, f4, f5, f6⟩ := Ql4 h 7 (hdN d R 7 z) hvl.1 hvl.2.1 (by omega)
    have hfb : Qba (Qdp d R 7 (hdN d R 7 z)) (s ^^^ 1) = true := by rw [hft]; exact (Qbr g1).2 ⟨K', g4, g5⟩
    have hLv : Qba (2 ^ d + u) (hdN d R 7 z) = true := Qmw hL z2 (by rw [i2]; exact (Qbr zp).2 ⟨i, i1, rfl⟩)
    have hvlog : Nat.log2 (hdN d R 7 z) ≤ Nat.log2 z := by rw [i2]; omega
    have hflog := Qsu f1 hfb
    have cutc := fun hs => Qss (d := d) (k := k) (v := hdN d R 7 z) (w := Qdp d R 7 (hdN d R 7 z)) (.inr trivial) f4 f5 hvl.1 hs
    have hout := fun y => (Qyb (k := k) h hne vhot y).2
    unfold Xbx at hout
    rw [if_neg hk, if_pos hh] at hout
    generalize hve : hdN d R 7 z = v at *
    clear hft f3
    generalize hfe : Qdp d R 7 v = f at *
    have hLf : Qba (2 ^ d + u) f = false := by
      cases hb : Qba (2 ^ d + u) f with
      | false => rfl
      | true => have := Qmw hL hb hfb; rw [hcn] at this; cases this
    have hfv : f ≠ v := fun e => by rw [e] at hflog; omega
    rw [if_neg hfv] at hout
    cases hs : Qux k d v f with
    | true =>
      rw [hs, if_pos rfl] at hout
      exact ⟨(v, f), (hout _ (by simp)).1, Qkm.2 ⟨hLv, .inr hLf⟩⟩
    | false =>
      rw [hs, if_neg (by simp)] at hout
      cases hb : Qba (2 ^ d + u) (Qrr d v f) with
      | true => exact ⟨(Qrr d v f, f), (hout _ (by simp)).1, Qkm.2 ⟨hb, .inr hLf⟩⟩
      | false => exact ⟨(v, Qrr d v f), (hout _ (by simp)).1, Qkm.2 ⟨hLv, .inr hb⟩⟩
theorem Qy7 : ∀ (b a w : Nat), Qf5 w (a + b) = Qf5 (w / 2 ^ b) a ++ Qf5 w b
  | 0, a, w => by simp [Qf5]
  | b + 1, a, w => by
    rw [show a + (b + 1) = (a + b) + 1 from rfl, Qtz, Qtz, Qy7 b a (w / 2), List.append_assoc, Nat.div_div_eq_div_mul, show 2 * 2 ^ b = 2 ^ (b + 1) from by rw [Nat.pow_succ, Nat.mul_comm]]
theorem Xjs {k : BitVec 8} {v w K : Nat} (h1 : 2 ^ K ≤ w) (h2 : v = w / 2 ^ K) (hv : 1 ≤ v) (hs : Qux k d v w = false) : ∃ j, 1 ≤ j ∧ j < K ∧ Qrr d v w = w / 2 ^ j ∧ Qx4 d (w / 2 ^ j) = true ∧ Qux k d v (w / 2 ^ j) = true := by
  have hl := Qdj w K h1
  rw [← h2] at hl
  unfold Qux at hs
  simp only [Bool.or_eq_false_iff, decide_eq_false_iff_not] at hs
  have h0 : Qrr d v w ≠ 0 := hs.2
  unfold Qrr at h0 ⊢
  unfold Xaf at h0 ⊢
  cases hf : (Qf5 (w / 2) (Nat.log2 w - Nat.log2 v - 1)).find? (Qx4 d) with
  | none => rw [hf] at h0; simp at h0
  | some c =>
    obtain ⟨j, hj, rfl⟩ := Qju.1 (List.mem_of_find?_eq_some hf)
    have hdj : w / 2 / 2 ^ j = w / 2 ^ (j + 1) := by rw [Nat.div_div_eq_div_mul, show 2 * 2 ^ j = 2 ^ (j + 1) from by rw [Nat.pow_succ, Nat.mul_comm]]
    have hsp := List.find?_some hf
    rw [hdj] at hsp
    refine ⟨j + 1, by omega, by omega, by rw [Option.getD_some, hdj], hsp, ?_⟩
    have hj1 : 2 ^ (j + 1) ≤ w := Nat.le_trans (Nat.pow_le_pow_right (by omega) (by omega)) h1
    have hlc := Qdj w (j + 1) hj1
    unfold Qux
    simp only [Bool.or_eq_true, decide_eq_true_eq]
    refine .inr ?_
    have hpos : ∀ n ∈ Qf5 (w / 2 ^ (j + 1) / 2) (Nat.log2 (w / 2 ^ (j + 1)) - Nat.log2 v - 1), ∃ t, n = w / 2 ^ (j + 1 + (t + 1)) ∧ j + 1 + (t + 1) < K := by
      intro n hn
      obtain ⟨t, t1, rfl⟩ := Qju.1 hn
      refine ⟨t, ?_, by omega⟩
      rw [Nat.div_div_eq_div_mul, Nat.div_div_eq_div_mul, show 2 ^ (j + 1) * (2 * 2 ^ t) = 2 ^ (j + 1 + (t + 1)) from by rw [Nat.pow_add 2 (j + 1), Nat.pow_succ 2 t, Nat.mul_comm 2 (2 ^ t)]]
    have hpos2 : ∀ n ∈ Qf5 (w / 2 ^ (j + 1) / 2) (Nat.log2 (w / 2 ^ (j + 1)) - Nat.log2 v - 1), 1 ≤ n := by
      intro n hn
      obtain ⟨t, rfl, ht⟩ := hpos n hn
      exact Qjw (Nat.le_trans (Nat.pow_le_pow_right (by omega) (by omega)) h1)
    rw [Xtp hpos2]
    have hap := Qy7 (j + 1) (Nat.log2 (w / 2 ^ (j + 1)) - Nat.log2 v - 1) (w / 2)
    rw [show Nat.log2 (w / 2 ^ (j + 1)) - Nat.log2 v - 1 + (j + 1) = Nat.log2 w - Nat.log2 v - 1 from by omega, show w / 2 / 2 ^ (j + 1) = w / 2 ^ (j + 1) / 2 from by rw [Nat.div_div_eq_div_mul, Nat.div_div_eq_div_mul, Nat.mul_comm]] at hap
    rw [hap, List.find?_append] at hf
    intro n hn
    cases hfn : (Qf5 (w / 2 ^ (j + 1) / 2) (Nat.log2 (w / 2 ^ (j + 1)) - Nat.log2 v - 1)).find? (Qx4 d) with
    | none => simpa using (List.find?_eq_none.1 hfn) n hn
    | some a =>
      rw [hfn, Option.some_or] at hf
      obtain ⟨t, e, ht⟩ := hpos a (List.mem_of_find?_eq_some hfn)
      rw [Option.some.inj hf, hdj] at e
      exact absurd e (Qyc (Nat.le_trans (Nat.pow_le_pow_right (by omega) (by omega)) h1) (by omega))
theorem Xp8 (h : Rcv d R) {k : BitVec 8} (hne : R ≠ []) {y : Nat × Nat} (hy : y ∈ Qsb k d R) : Qx1 k d y.1 y.2 = true := by
  have h64 := Qck h.1
  have hpow : 2 ^ (d + 1) = 2 * 2 ^ d := by rw [Nat.pow_succ, Nat.mul_comm]
  have hy1 := (Qrt.1 hy).1
  unfold Qx1
  rw [decide_eq_true hy1, Bool.true_and]
  by_cases hk : k = 1#8
  · subst hk
    rw [if_pos rfl, (Qyr h hne hy).2.2.2]; rfl
  · rw [if_neg hk]
    have hv := Xcl h hne hy
    have hout := (Qyb h hne hv y).1 ⟨hy, rfl⟩
    have hhd : Xb6 d R (Qwx k d R y) = true := by
      unfold Qwx; rw [if_neg hk]
      exact (Qt8 7 y.1 hy1.1 (by have := Qox hy1.1 hy1.2; have := h.1; omega)).1
    generalize hve : Qwx k d R y = v at *
    obtain ⟨v1, vl, v2⟩ := Qln h hv
    obtain ⟨f1, f2, f3, K, f4, f5, f6⟩ := Ql4 h 7 v v1 vl (by have := h.1; omega)
    unfold Xbx at hout
    rw [if_neg hk, if_pos hhd] at hout
    have cutc := fun hs => Xjs (d := d) (k := k) (v := v) (w := Qdp d R 7 v) f4 f5 v1 hs
    generalize hfe : Qdp d R 7 v = f at *
    have hflt : f < 2 ^ (d + 1) := (Nat.log2_lt (by omega)).1 (by omega)
    have two : ∀ i j, i < j → j ≤ K → Qba (f / 2 ^ i) (f / 2 ^ j) = true ∧ f / 2 ^ i ≠ f / 2 ^ j ∧ f / 2 ^ i < 2 ^ (d + 1) ∧ f / 2 ^ i ≠ 0 := by
      intro i j hij hj
      have hi1 : 2 ^ i ≤ f := Nat.le_trans (Nat.pow_le_pow_right (by omega) (by omega)) f4
      have hj1 : 2 ^ j ≤ f := Nat.le_trans (Nat.pow_le_pow_right (by omega) (by omega)) f4
      have hp := Qjw hi1
      refine ⟨(Qbr hp).2 ⟨j - i, Qio (by rw [Nat.add_sub_cancel' (by omega)]; exact hj1), ?_⟩, Qyc hj1 hij, Nat.lt_of_le_of_lt (Nat.div_le_self _ _) hflt, by omega⟩
      rw [Nat.div_div_eq_div_mul, ← Nat.pow_add, Nat.add_sub_cancel' (by omega)]
    by_cases hfv : f = v
    · rw [if_pos hfv] at hout; cases hout
    · rw [if_neg hfv] at hout
      have hK0 : 0 < K := by
        rcases Nat.eq_zero_or_pos K with e | e
        · subst e; simp at f5; exact absurd f5.symm hfv
        · exact e
      have t0 := two 0 K hK0 (Nat.le_refl _)
      rw [Nat.pow_zero, Nat.div_one, ← f5] at t0
      cases hs : Qux k d v f with
      | true =>
        rw [hs, if_pos rfl, List.mem_singleton] at hout
        subst hout
        simp only
        rw [if_neg t0.2.2.2, t0.1, hs, decide_eq_true ⟨t0.2.2.1, t0.2.1⟩]; rfl
      | false =>
        rw [hs, if_neg (by simp)] at hout
        obtain ⟨j, j1, j2, j3, j4, j5⟩ := cutc hs
        rw [j3] at hout
        have t1 := two j K j2 (Nat.le_refl _)
        have t2 := two 0 j (by omega) (by omega)
        rw [Nat.pow_zero, Nat.div_one] at t2
        rw [← f5] at t1
        rcases List.mem_cons.1 hout with e | e
        · subst e
          simp only
          rw [if_neg t1.2.2.2, t1.1, j5, decide_eq_true ⟨t1.2.2.1, t1.2.1⟩]; rfl
        · rw [List.mem_singleton] at e
          subst e
          simp only
          have : Qux k d (f / 2 ^ j) f = true := by unfold Qux; rw [j4]; simp
          rw [if_neg t2.2.2.2, t2.1, this, decide_eq_true ⟨t2.2.2.1, t2.2.1⟩]; rfl
theorem Xhz {x : Nat} (h1 : 1 ≤ x) (hl : Nat.log2 x ≤ d) : ∃ u, u < 2 ^ d ∧ Qba (2 ^ d + u) x = true := by
  have hx1 : 2 ^ Nat.log2 x ≤ x := (Nat.le_log2 (by omega)).1 (Nat.le_refl _)
  have hx2 : x < 2 ^ (Nat.log2 x + 1) := (Nat.log2_lt (by omega)).1 (by omega)
  have hp : 2 ^ d = 2 ^ Nat.log2 x * 2 ^ (d - Nat.log2 x) := by rw [← Nat.pow_add, Nat.add_sub_cancel' hl]
  have hq := Nat.two_pow_pos (d - Nat.log2 x)
  have hlow : 2 ^ d ≤ x * 2 ^ (d - Nat.log2 x) := by rw [hp]; exact Nat.mul_le_mul_right _ hx1
  have hhigh : x * 2 ^ (d - Nat.log2 x) < 2 ^ d + 2 ^ d := by
    have : x * 2 ^ (d - Nat.log2 x) < 2 ^ (Nat.log2 x + 1) * 2 ^ (d - Nat.log2 x) := Nat.mul_lt_mul_of_pos_right hx2 hq
    rw [Nat.pow_succ, Nat.mul_right_comm, ← hp] at this; omega
  refine ⟨x * 2 ^ (d - Nat.log2 x) - 2 ^ d, by omega, ?_⟩
  rw [Nat.add_sub_cancel' hlow]
  exact (Qbr (by have := Nat.two_pow_pos d; omega)).2 ⟨d - Nat.log2 x, Nat.le_mul_of_pos_left _ (by omega), by rw [Nat.mul_div_cancel _ hq]⟩
theorem Xp3 {k : BitVec 8} {n m : Nat} (h6 : d ≤ 6) (h : Qx1 k d n m = true) : ∃ u, u < 2 ^ d ∧ Qud (2 ^ d + u) n m = true := by
  have h64 := Qck h6
  have hpow : 2 ^ (d + 1) = 2 * 2 ^ d := by rw [Nat.pow_succ, Nat.mul_comm]
  unfold Qx1 at h
  rw [Bool.and_eq_true, decide_eq_true_eq] at h
  obtain ⟨⟨h1, h2⟩, h3⟩ := h
  by_cases hm : m = 0
  · obtain ⟨u, hu, hb⟩ := Xhz (d := d) h1 (Qox h1 h2)
    exact ⟨u, hu, Qkm.2 ⟨hb, .inl hm⟩⟩
  · by_cases hk : k = 1#8
    · rw [if_pos hk] at h3; exact absurd (by simpa using h3) hm
    · rw [if_neg hk, if_neg hm, Bool.and_eq_true, Bool.and_eq_true, decide_eq_true_eq] at h3
      obtain ⟨⟨⟨a1, a2⟩, a3⟩, _⟩ := h3
      have hm1 : 1 ≤ m := by omega
      obtain ⟨t, t1, t2, t3⟩ := Qkk hm1 h1 a3 a2
      have hm2 : 2 ≤ m := Nat.le_trans (by have := Nat.pow_le_pow_right (n := 2) (by omega) (show 1 ≤ t + 1 by omega); simpa using this) t3
      have hl := Qox hm1 a1
      have e1 := Xgo (n := m) (by omega)
      have e2 := Qon (n := m) (by omega) hm2
      have e3 := Qz5 (n := m) (by omega) hm2
      have e4 := Qv2 (n := m) (by omega)
      have e5 := Xhg (n := m) (by omega)
      obtain ⟨u, hu, hb⟩ := Xhz (d := d) (x := m ^^^ 1) (by omega) (by omega)
      have hL : 1 ≤ 2 ^ d + u := by have := Nat.two_pow_pos d; omega
      refine ⟨u, hu, Qkm.2 ⟨Qmw hL hb ((Qbr (by omega)).2 ⟨t + 1, ?_, ?_⟩), .inr ?_⟩⟩
      · have := (Nat.le_log2 (n := m) (k := t + 1) (by omega)).2 t3
        exact (Nat.le_log2 (by omega)).1 (by omega)
      · rw [t2, Nat.pow_succ, Nat.mul_comm, ← Nat.div_div_eq_div_mul, ← Nat.div_div_eq_div_mul, e4]
      · cases hb2 : Qba (2 ^ d + u) m with
        | false => rfl
        | true => exact absurd (Qmb hL hb hb2 e3) e5
def Qz9 (k : BitVec 8) (d : Nat) (R : List Nat) : List (Nat × Nat) := if R = [] then [(1, 0)] else Qsb k d R
theorem Xjx {k : BitVec 8} : Asc (Qz9 k d R) := by
  unfold Qz9; split
  · simp [Asc]
  · exact Xc7
theorem Xo1 {u : Nat} (hu : u < 2 ^ d) : Qud (2 ^ d + u) 1 0 = true := by
  have hp := Nat.two_pow_pos d
  exact Qkm.2 ⟨(Qbr (by omega)).2 ⟨d, by omega, by rw [Nat.add_div_left _ hp, Nat.div_eq_of_lt hu]⟩, .inl rfl⟩
theorem Qzb (h : Rcv d R) {k : BitVec 8} {y : Nat × Nat} (hy : y ∈ Qz9 k d R) : Qx1 k d y.1 y.2 = true := by
  unfold Qz9 at hy; split at hy
  · rw [List.mem_singleton] at hy; subst hy
    unfold Qx1
    have : 1 < 2 ^ (d + 1) := Nat.lt_of_lt_of_le (by omega) (Nat.pow_le_pow_right (n := 2) (by omega) (show 1 ≤ d + 1 by omega))
    rw [decide_eq_true ⟨Nat.le_refl _, this⟩]
    split <;> simp
  · rename_i hne; exact Xp8 h hne hy
theorem Xg2 (h : Rcv d R) {k : BitVec 8} {y y' : Nat × Nat} (hy : y ∈ Qz9 k d R) (hy' : y' ∈ Qz9 k d R) {u : Nat} (hu : u < 2 ^ d) (hm : Qud (2 ^ d + u) y.1 y.2 = true) (hm' : Qud (2 ^ d + u) y'.1 y'.2 = true) : y = y' := by
  unfold Qz9 at hy hy'; split at hy
  · rename_i hne
    rw [if_pos hne] at hy'
    rw [List.mem_singleton] at hy hy'; rw [hy, hy']
  · rename_i hne
    rw [if_neg hne] at hy'
    exact Xj1 h hne hy hy' hu hm hm'
theorem Xj6 (h : Rcv d R) (k : BitVec 8) {u : Nat} (hu : u < 2 ^ d) : ((Qz9 k d R).any fun y => Qud (2 ^ d + u) y.1 y.2) = decide (u ∉ R) := by
  unfold Qz9; split
  · rename_i hne; subst hne
    simp [Xo1 hu]
  · rename_i hne
    by_cases hr : u ∈ R
    · rw [decide_eq_false (by simpa using hr), List.any_eq_false]
      intro y hy; rw [Xs4 h hne hy hu hr]; simp
    · rw [decide_eq_true hr, List.any_eq_true]
      exact Xoc h hne hu hr
end Go.Sx

end
section
set_option linter.unusedVariables false
set_option linter.unusedSimpArgs false
set_option maxRecDepth 100000
namespace Go.Sx
open Go
theorem Qpr {τ R : Type} (F : (τ → Option R) → τ → Option R) (I : Nat → τ → Prop) (n : Nat) (r : Option R) (hn : n < 9223372036854775808) {s : τ} (h0 : I 0 s) (hs : ∀ j s, j < n → I j s → ∃ s', I (j + 1) s' ∧ ∀ rec, F rec s = rec s') (he : ∀ s, I n s → ∀ rec, F rec s = r) : Qc3 F Qcw s = r :=
  Xbk F I n r hs he n 0 Qcw s (by omega) (Qe1 hn) h0
section
variable {s : Qa7} {d : Nat}
theorem Xde (hv : Qnf s = true) (hd : s.Depth = (d : Int)) (h6 : d ≤ 6) {n m : Nat} (hs : Qx1 s.Kind d n m = true) : Qdb s [⟨(n : Int), (m : Int)⟩] = some (Qds s, 0) ∧ Qd9 s ⟨(n : Int), (m : Int)⟩ = some true ∧ Qcj (Qds s) ⟨(n : Int), (m : Int)⟩ = some true ∧ Qya s ⟨(n : Int), (m : Int)⟩ ∧ Xq3 s ⟨(n : Int), (m : Int)⟩ n m := by
  have hi := Xe3 hv hd h6 n m
  rw [hs] at hi
  rcases Xfy hv hd h6 ⟨(n : Int), (m : Int)⟩ with ⟨_, f1, _⟩ | ⟨f0, f1, f2, f3, n', m', e, f5, f6⟩
  · rw [hi] at f1; cases f1
  · injection e with e1 e2
    obtain rfl : n = n' := by omega
    obtain rfl : m = m' := by omega
    exact ⟨f0, f1, f2, f3, f5⟩
theorem Xn9 (hv : Qnf s = true) (hd : s.Depth = (d : Int)) {l : List Int} (h : Qt6 d l = true) : Xm8 s l = ((Qz9 s.Kind d (Qih l)).map mkS, 0) := by
  unfold Xm8 Qz9 Qih
  rw [if_pos hv, hd, Int.toNat_natCast, if_pos h]
  by_cases hl : l = []
  · rw [if_pos hl, if_pos (by simpa using hl)]; rfl
  · rw [if_neg hl, if_neg (by simpa using hl)]
theorem Xfe {l : List Int} (h : Qt6 d l = true) {u : Nat} : u ∈ Qih l ↔ (u : Int) ∈ l := by
  unfold Qih
  rw [List.mem_map]
  constructor
  · rintro ⟨a, ha, rfl⟩
    obtain ⟨w, rfl, _⟩ := Xbm h ha
    rw [Int.toNat_natCast]; exact ha
  · intro h; exact ⟨_, h, Int.toNat_natCast u⟩
end
end Go.Sx

end
section
set_option linter.unusedVariables false
set_option linter.unusedSimpArgs false
set_option maxRecDepth 100000
namespace Go.Sx
open Go
end Go.Sx

end
section
set_option linter.unusedVariables false
set_option linter.unusedSimpArgs false
set_option maxRecDepth 100000
namespace Go.Sx
open Go
theorem Qqf (x : BitVec 64) (n m : Nat) (h : n + m = 64) (hn : 0 < n) (hm : 0 < m) : Xce (Xce x n) m = x := by
  unfold Xce
  apply BitVec.eq_of_getLsbD_eq
  intro i hi
  simp only [BitVec.getLsbD_or, BitVec.getLsbD_shiftLeft, BitVec.getLsbD_ushiftRight]
  by_cases h1 : i < m
  · have h2 : ¬ (64 - m + i < n) := by omega
    have h3 : 64 - m + i < 64 := by omega
    have h4 : 64 - m + i - n = i := by omega
    have h5 : 64 ≤ 64 - n + (64 - m + i) := by omega
    rw [h4, BitVec.getLsbD_of_ge x _ h5]
    simp [h1, hi, h2, h3]
  · have h2 : i - m < n := by omega
    have h3 : 64 - n + (i - m) = i := by omega
    have h4 : 64 ≤ 64 - m + i := by omega
    have h6 : ¬ 64 - m + i < 64 := by omega
    have h7 : 64 ≤ 64 - n + (64 - m + i) := by omega
    rw [h3, BitVec.getLsbD_of_ge x _ h7]
    simp [h1, hi, h2, h6]
theorem Qy2 (p : W2) (k : BitVec 64) : Xdl (rnd p k) k = p := by
  obtain ⟨a, b⟩ := p
  unfold Xdl rnd
  simp only
  have h1 : ∀ x y : BitVec 64, x ^^^ (y ^^^ x) = y := fun x y => by rw [BitVec.xor_comm y x, ← BitVec.xor_assoc, BitVec.xor_self, BitVec.zero_xor]
  have h2 : ∀ x y : BitVec 64, (x ^^^ y) ^^^ y = x := fun x y => by rw [BitVec.xor_assoc, BitVec.xor_self, BitVec.xor_zero]
  rw [h1, h2, Qqf b 3 61 (by omega) (by omega) (by omega), BitVec.add_sub_cancel, Qqf a 56 8 (by omega) (by omega) (by omega)]
theorem Xso (K : Nat → BitVec 64) : ∀ (n : Nat) (b : W2), (List.range n).foldl (fun p i => Xdl p (K (n - 1 - i))) ((List.range n).foldl (fun p i => rnd p (K i)) b) = b
  | 0, b => rfl
  | n + 1, b => by
    rw [show (List.range (n + 1)).foldl (fun p i => rnd p (K i)) b = rnd ((List.range n).foldl (fun p i => rnd p (K i)) b) (K n) from by rw [List.range_succ, List.foldl_append]; rfl]
    rw [List.range_succ_eq_map, List.foldl_cons, show n + 1 - 1 - 0 = n from rfl, Qy2, List.foldl_map]
    have := Xso K n b
    rw [show (fun (p : W2) (i : Nat) => Xdl p (K (n + 1 - 1 - i.succ))) = fun p i => Xdl p (K (n - 1 - i)) from by funext p i; congr 2; omega]
    exact this
theorem Qwn (k b : W2) : Xet k (Qw4 k b) = b := Xso (fun i => (ks k i).2) 32 b
def Xlc (root : W2) (k : BitVec 8) (n m : Nat) : W2 :=
  if k = 1#8 then drv root (un8 30#8) (wd (n : Int)) else if m = 0 then drv root (un8 34#8) 0#64 else drv ((Qf5 m (Nat.log2 m - Nat.log2 n)).foldl stp (drv root (un8 30#8) (wd (n : Int)))) (un8 33#8) 0#64
section
variable {s : Qa7} {d : Nat}
theorem Xms (h6 : d ≤ 6) {n m : Nat} (hs : Qx1 s.Kind d n m = true) (root : W2) : Qev (Qds s) root ⟨(n : Int), (m : Int)⟩ = some (Xlc root s.Kind n m) := by
  obtain ⟨hn1, hn2, hm2, hc⟩ := Xbp h6 hs
  unfold Qev Xlc Qfz Qjq
  rw [show (Qds s).kind = s.Kind from rfl]
  by_cases hk : s.Kind = 1#8
  · rw [if_pos hk, if_pos hk]; rfl
  · rw [if_neg hk, if_neg hk]
    by_cases hm : m = 0
    · rw [if_pos (by simp only; omega), if_pos hm]
    · rw [if_neg (by simp only; omega), if_neg hm]
      obtain ⟨hb, hne⟩ : Qba m n = true ∧ m ≠ n := by
        rcases hc with h | h | h
        · exact absurd h hk
        · exact absurd h hm
        · exact h
      obtain ⟨t, t1, t2, t3⟩ := Qkk (by omega) hn1 hb hne
      have := Qub t3 hm2
      simp only
      rw [bind_some, t1]
      have hd := Qqv (w := m) (k := t + 1) (drv root (un8 30#8) (wd (n : Int))) (by omega) t3 (by omega)
      rw [← t2] at hd
      rw [hd, bind_some, bind_some]
theorem Xke (hv : Qnf s = true) (hd : s.Depth = (d : Int)) (h6 : d ≤ 6) {u n m : Nat} (hu : u < 2 ^ d) (hs : Qx1 s.Kind d n m = true) (root : W2) (ui : Int) (pt : Qah) :
    Qi4 (Qds s) (Qae.mk ui (Xax root s.Kind d u) pt) ⟨(n : Int), (m : Int)⟩ = some (if Qud (2 ^ d + u) n m then (Xlc root s.Kind n m, true) else (k0, false)) := by
  obtain ⟨e1, e2, e3, e4⟩ := Xas hv hd h6 hu
  obtain ⟨hn1, hn2, hm2, hc⟩ := Xbp h6 hs
  have hlen : (Xax root s.Kind d u).length = (Qsz s.Kind d u).length := by simp [Xax]
  unfold Qi4
  have p1 := Qtu (Qsz s.Kind d u) (Qcl (Qds s) (Qae.mk ui (Xax root s.Kind d u) pt) ⟨(n : Int), (m : Int)⟩) (fun j (_ : Unit) => (j : Int)) (fun a nx s' => bif ldN s.Kind n m a then some (Xlc root s.Kind n m, true) else nx s') (fun _ => some (k0, false))
    (fun rec j hj _ => by
      simp only [Qcl]
      have hj' : j < (Xax root s.Kind d u).length := by omega
      have hok := e4 _ (List.getElem_mem hj)
      have ham := List.getElem_mem hj
      rw [if_pos (by omega), Qcb hj', bind_some, show (Xax root s.Kind d u)[j] = lbl root s.Kind (Qsz s.Kind d u)[j] from by simp [Xax], Qet (by omega)]
      generalize (Qsz s.Kind d u)[j] = a at *
      rw [show lbl root s.Kind a = Qb8.mk (a.1 : Int) (a.2 : Int) (Xhx root s.Kind a) from rfl, (Xbz h6 hs ⟨hok.1.2.1, hok.1.2.2⟩ _).1, bind_some]
      cases hl : ldN s.Kind n m a with
      | false => rfl
      | true =>
        simp only [Bool.not_true, cond_false, cond_true]
        rw [show (Qds s).kind = s.Kind from rfl]
        unfold Qej Xlc Xhx
        unfold ldN at hl
        by_cases hk : s.Kind = 1#8
        · have h0 := Xuy hk a ham
          rw [if_pos (.inl hk), decide_eq_true_eq] at hl
          rw [if_pos hk, if_pos hk, cond_true]
          simp only
          rw [if_pos h0, if_pos hk, hl.1]
        · rw [if_neg hk, if_neg hk]
          by_cases hm : m = 0
          · rw [if_pos (.inr hm), decide_eq_true_eq] at hl
            rw [decide_eq_true (by omega), cond_true, if_pos hm]
            simp only
            rw [if_pos (by omega), if_neg hk]
          · rw [if_neg (by rw [not_or]; exact ⟨hk, hm⟩)] at hl
            simp only [Bool.and_eq_true, decide_eq_true_eq] at hl
            obtain ⟨⟨⟨ha1, ha2⟩, ha3⟩, ha4⟩ := hl
            rw [decide_eq_false (by omega), cond_false, if_neg hm]
            simp only
            rw [if_neg (by omega)]
            obtain ⟨i, i1, i2⟩ := Que (by omega) ha4
            have hi6 := Qub i2 hm2
            have hdl := fun key => Qqv (w := m) (k := i) key (by omega) i2 (by omega)
            rw [← i1] at hdl
            rw [hdl, bind_some]
            unfold Qjq
            rw [bind_some]
            have hlg := Qdj m i i2
            rw [← i1] at hlg
            have hln := Qsu ha2 ha3
            rw [show Nat.log2 m - Nat.log2 n = (Nat.log2 a.2 - Nat.log2 n) + i from by omega, Qy7, ← i1, List.foldl_append, ha1, if_neg hk])
    (fun rec _ => by simp only [Qcl]; rw [if_neg (by omega)]) (f := Qcw) (Qe1 (by omega)) ()
  rw [show ((0 : Nat) : Int) = 0 from rfl] at p1
  rw [p1, Qv5 (ldN s.Kind n m) (fun _ _ => some (Xlc root s.Kind n m, true)) _ _ _ _ (fun a _ nx s => rfl), Xoy h6 hu hs]
  unfold Xtv
  cases (Qsz s.Kind d u).find? (ldN s.Kind n m) with
  | none => rfl
  | some a => rfl
theorem Xns (hv : Qnf s = true) (hd : s.Depth = (d : Int)) {u : Nat} (hu : u < 2 ^ d) (root : W2) : Xme root s (u : Int) = (Qae.mk (u : Int) (Xax root s.Kind d u) (Qah.mk 0#64 0#64), 0) := by
  unfold Xme
  rw [if_pos hv, hd, Int.toNat_natCast, if_pos (by omega), Int.toNat_natCast]
end
end Go.Sx

end
section
set_option linter.unusedVariables false
set_option linter.unusedSimpArgs false
set_option maxRecDepth 100000
namespace Go.Sx
open Go
theorem Xnr {α β : Type} (f : α → β) {l : List α} {m : List β} (hl : l.Nodup) (hf : ∀ a ∈ l, f a ∈ m) (hi : ∀ a ∈ l, ∀ b ∈ l, f a = f b → a = b) : l.length ≤ m.length := by
  have h1 : (l.map f).Nodup := by
    rw [List.Nodup, List.pairwise_map]
    exact hl.imp_of_mem fun ha hb h e => h (hi _ ha _ hb e)
  have h2 : l.map f ⊆ m := fun b hb => by
    obtain ⟨a, ha, rfl⟩ := List.mem_map.1 hb
    exact hf a ha
  have := h1.length_le_of_subset h2
  rwa [List.length_map] at this
theorem Xiq {l : List (Nat × Nat)} (h : Asc l) : l.Nodup := h.imp fun h e => by rw [e] at h; omega
theorem Qxf {d : Nat} {R : List Nat} (h : Rcv d R) (k : BitVec 8) : (Qz9 k d R).length ≤ 2 ^ d := by
  have hm : ∀ y : Nat × Nat, ∃ u, y ∈ Qz9 k d R → u < 2 ^ d ∧ Qud (2 ^ d + u) y.1 y.2 = true := fun y => by
    by_cases hy : y ∈ Qz9 k d R
    · obtain ⟨u, h1, h2⟩ := Xp3 h.1 (Qzb h hy); exact ⟨u, fun _ => ⟨h1, h2⟩⟩
    · exact ⟨0, fun h => absurd h hy⟩
  let f := fun y => Classical.choose (hm y)
  have hf : ∀ y ∈ Qz9 k d R, f y < 2 ^ d ∧ Qud (2 ^ d + f y) y.1 y.2 = true := fun y hy => Classical.choose_spec (hm y) hy
  have := Xnr f (m := List.range (2 ^ d)) (Xiq Xjx) (fun y hy => List.mem_range.2 (hf y hy).1) (fun a ha b hb e => Xg2 h ha hb (hf a ha).1 (hf a ha).2 (by rw [e]; exact (hf b hb).2))
  rwa [List.length_range] at this
section
variable {s : Qa7} {d : Nat}
def Xla (root ses : W2) (k : BitVec 8) (y : Nat × Nat) : Qcc := Qcc.mk (mkS y) (Qw4 (Xlc root k y.1 y.2) ses)
def Xb7 (root ses : W2) (k : BitVec 8) (l : List (Nat × Nat)) : Qaa := Qaa.mk (l.map (Xla root ses k)) 0#64 [] k0 (drv ses (un8 53#8) 0#64)
theorem Xkp (s : Qa7) : Qen s = some (if Qnf s then 0 else 30) := by
  unfold Qen
  rw [Qpy, bind_some]
  cases Qnf s <;> rfl
theorem Xfs (hv : Qnf s = true) (hd : s.Depth = (d : Int)) (h6 : d ≤ 6) (l : List (Nat × Nat)) (hl : ∀ y ∈ l, Qx1 s.Kind d y.1 y.2 = true) (hlen : l.length < 4611686018427387904) : Qdb s (l.map mkS) = some (Qds s, 0) := by
  unfold Qdb
  rw [Qpy, bind_some, if_pos hv]
  simp only [Bool.not_true, cond_false]
  refine Qpr _ (fun j x => x = (j : Int)) l.length _ (by omega) rfl ?_ ?_
  · rintro j _ hj rfl
    refine ⟨_, rfl, fun rec => ?_⟩
    simp only [Qf2]
    rw [if_pos (by simp; omega), Qcb (by simpa using hj), bind_some, List.getElem_map, show mkS l[j] = ⟨(l[j].1 : Int), (l[j].2 : Int)⟩ from rfl, (Xde hv hd h6 (hl _ (List.getElem_mem hj))).2.2.1, bind_some, Qet (by omega)]; rfl
  · rintro _ rfl rec
    simp only [Qf2]
    rw [if_neg (by simp)]
theorem Qyp (hv : Qnf s = true) (hd : s.Depth = (d : Int)) (h6 : d ≤ 6) (l : List (Nat × Nat)) (hl : ∀ y ∈ l, Qx1 s.Kind d y.1 y.2 = true) (hlen : l.length ≤ 64) (root ses : W2) : Qkq root s (l.map mkS) ses = some (Xb7 root ses s.Kind l, 0) := by
  unfold Qkq
  rw [Xkp, bind_some, if_pos hv, if_neg (by simp), if_neg (by simp; omega), Xfs hv hd h6 l hl (by omega), bind_some, if_neg (by simp)]
  refine Qpr _ (fun j x => x = ((j : Int), (l.take j).map (Xla root ses s.Kind))) l.length _ (by omega) (by simp) ?_ ?_
  · rintro j _ hj rfl
    refine ⟨_, rfl, fun rec => ?_⟩
    simp only [Qig]
    rw [if_pos (by simp; omega), Qcb (by simpa using hj), bind_some, List.getElem_map, show mkS l[j] = ⟨(l[j].1 : Int), (l[j].2 : Int)⟩ from rfl, Xms h6 (hl _ (List.getElem_mem hj)), bind_some, Qhv (by simp; omega), bind_some, Qet (by omega), Qmk l j hj, List.map_append]; rfl
  · rintro _ rfl rec
    simp only [Qig]
    rw [if_neg (by simp), List.take_length]; rfl
theorem Xj0 (hv : Qnf s = true) (hd : s.Depth = (d : Int)) (h6 : d ≤ 6) {u : Nat} (hu : u < 2 ^ d) (l : List (Nat × Nat)) (hl : ∀ y ∈ l, Qx1 s.Kind d y.1 y.2 = true) (hlen : l.length ≤ 64) (root ses : W2) (ui : Int) (pt : Qah) :
    Qmc s (Qae.mk ui (Xax root s.Kind d u) pt) (Xb7 root ses s.Kind l) = some (if l.any (fun y => Qud (2 ^ d + u) y.1 y.2) then (ses, 0) else (k0, 6)) := by
  unfold Qmc
  rw [Xgj, bind_some, if_pos hv, if_neg (by simp), if_neg (by simp [Xb7]; omega), if_neg (by simp [Xb7]), if_neg (by simp [Xb7]), if_neg (by simp [Xb7])]
  have hc : Qbw (Xb7 root ses s.Kind l).Items (Qds s) = some false := by
    rw [show (Xb7 root ses s.Kind l).Items = l.map (Xla root ses s.Kind) from rfl]
    unfold Qbw Qct
    have : Qc3 (Qb9 (l.map (Xla root ses s.Kind)) (Qds s)) Qcw 0 = some (-1) := by
      refine Qpr _ (fun j x => x = (j : Int)) l.length _ (by omega) rfl ?_ ?_
      · rintro j _ hj rfl
        refine ⟨_, rfl, fun rec => ?_⟩
        simp only [Qb9]
        rw [if_pos (by simp; omega), Qcb (by simpa using hj), bind_some, List.getElem_map]
        unfold Qn7
        rw [show (Xla root ses s.Kind l[j]).Subset = ⟨(l[j].1 : Int), (l[j].2 : Int)⟩ from rfl, (Xde hv hd h6 (hl _ (List.getElem_mem hj))).2.2.1, bind_some, bind_some, Qet (by omega)]; rfl
      · rintro _ rfl rec
        simp only [Qb9]
        rw [if_neg (by simp)]
    rw [this, bind_some]; rfl
  simp only
  rw [hc, bind_some]
  unfold Qg1
  rw [cond_false]
  have p1 := Qtu l (Qh4 (Qae.mk ui (Xax root s.Kind d u) pt) (Xb7 root ses s.Kind l) (Qds s, 0)) (fun j (_ : Unit) => (j : Int)) (fun y nx s' => bif Qud (2 ^ d + u) y.1 y.2 then some (ses, 0) else nx s') (fun _ => some (k0, 6))
    (fun rec j hj _ => by
      simp only [Qh4]
      rw [if_pos (by simp [Xb7]; omega), show Qg0 (Xb7 root ses s.Kind l).Items (j : Int) = some (Xla root ses s.Kind l[j]) from by unfold Xb7; rw [Qcb (by simpa using hj), List.getElem_map], bind_some, show (Xla root ses s.Kind l[j]).Subset = ⟨(l[j].1 : Int), (l[j].2 : Int)⟩ from rfl, Xke hv hd h6 hu (hl _ (List.getElem_mem hj)), bind_some, Qet (by omega)]
      cases Qud (2 ^ d + u) l[j].1 l[j].2 with
      | false => rfl
      | true =>
        simp only [if_true, cond_true]
        rw [show (Xla root ses s.Kind l[j]).Box = Qw4 (Xlc root s.Kind l[j].1 l[j].2) ses from rfl, Qwn, if_pos (show drv ses (un8 53#8) 0#64 = (Xb7 root ses s.Kind l).Check from rfl)])
    (fun rec _ => by simp only [Qh4]; rw [if_neg (by simp [Xb7])]) (f := Qcw) (Qe1 (by omega)) ()
  rw [show ((0 : Nat) : Int) = 0 from rfl] at p1
  rw [p1, Qv5 (fun y : Nat × Nat => Qud (2 ^ d + u) y.1 y.2) (fun _ _ => some (ses, 0)) _ _ _ _ (fun a _ nx s => rfl)]
  cases hf : l.find? (fun y : Nat × Nat => Qud (2 ^ d + u) y.1 y.2) with
  | none => rw [List.any_eq_false.2 (fun a ha => (List.find?_eq_none.1 hf) a ha)]; rfl
  | some a => rw [List.any_eq_true.2 ⟨a, List.mem_of_find?_eq_some hf, List.find?_some hf⟩]; rfl
end
end Go.Sx

end
section
set_option linter.unusedVariables false
set_option linter.unusedSimpArgs false
set_option linter.unusedSectionVars false
set_option maxRecDepth 100000
namespace Go.Sx.Po
open Go
def fi (q : Nat) [NeZero q] (n : Nat) : Fin q := Fin.ofNat q n
abbrev fe {q : Nat} (a : Fin q) : BitVec 64 := bn a.val
section
variable {q : Nat} [NeZero q]
theorem Qq7 (n : Nat) : (fi q n).val = n % q := rfl
theorem Qms (a : Fin q) : fi q a.val = a := by apply Fin.ext; rw [Qq7]; exact Nat.mod_eq_of_lt a.isLt
theorem Qzm (a b : Nat) : fi q (a + b) = fi q a + fi q b := by apply Fin.ext; simp [fi, Fin.ofNat, Fin.add_def]
theorem Qu8 (a b : Nat) : fi q (a * b) = fi q a * fi q b := by apply Fin.ext; simp [fi, Fin.ofNat, Fin.mul_def]
theorem Xgp (n : Nat) : fi q (n % q) = fi q n := by apply Fin.ext; rw [Qq7, Qq7, Nat.mod_mod]
theorem Xuw : fi q 0 = 0 := rfl
theorem Xv9 : fi q 1 = 1 := rfl
theorem Xv3 : fi q q = 0 := by apply Fin.ext; rw [Qq7, Nat.mod_self]; rfl
theorem Xpu {a b : Nat} (h : b ≤ a) : fi q (a - b) = fi q a - fi q b := by
  have := Qzm (q := q) (a - b) b
  rw [Nat.sub_add_cancel h] at this
  grind
theorem Xgm {n : Nat} (h : n < q) : (fi q n).val = n := Nat.mod_eq_of_lt h
theorem Xt3 {a b : Nat} (ha : a < q) (hb : b < q) (h : fi q a = fi q b) : a = b := by rw [← Xgm ha, ← Xgm hb, h]
theorem Xi0 {n : Nat} (h : n < q) : fe (fi q n) = bn n := by unfold fe; rw [Xgm h]
theorem Xba (q1 : 2 ≤ q) (q2 : q ≤ 1048575) (a b : Fin q) : Qdl (bn q) [fe a, fe b] = some (fe (a * b)) := by
  rw [Xc4 q1 q2 a.isLt b.isLt]; rfl
theorem Xoq (q1 : 2 ≤ q) (q2 : q ≤ 1048575) (a b : Fin q) : Qj0 (bn q) (fe a) (fe b) = some (fe (a - b)) := by
  have ha := a.isLt
  have hb := b.isLt
  unfold Qj0 fe
  rw [Qu5, Xa2 (by omega) (by omega), Qfc (by omega) (by omega) (by omega), bind_some, Fin.sub_def]
  simp only
  congr 3; omega
theorem Xob {q a : Nat} (hP : Prm q) (h0 : 0 < a) (h1 : a < q) : Nat.gcd q a = 1 := by
  have hg : Nat.gcd q a ∣ q := Nat.gcd_dvd_left q a
  have hga : Nat.gcd q a ∣ a := Nat.gcd_dvd_right q a
  have hle := Nat.le_of_dvd h0 hga
  have hpos : 0 < Nat.gcd q a := Nat.gcd_pos_of_pos_right _ h0
  rcases Nat.lt_or_ge (Nat.gcd q a) 2 with h | h
  · omega
  · exfalso
    obtain ⟨k, hk⟩ := hg
    have hk2 : 2 ≤ k := by
      rcases k with _ | _ | k
      · simp at hk; omega
      · simp at hk; omega
      · omega
    rcases Nat.le_total (Nat.gcd q a) k with hgk | hgk
    · refine hP.2 _ h ?_ (Nat.mod_eq_zero_of_dvd ⟨k, hk⟩)
      calc _ ≤ Nat.gcd q a * k := Nat.mul_le_mul_left _ hgk
        _ = q := hk.symm
    · refine hP.2 k hk2 ?_ (Nat.mod_eq_zero_of_dvd ⟨Nat.gcd q a, by rw [Nat.mul_comm]; exact hk⟩)
      calc k * k ≤ Nat.gcd q a * k := Nat.mul_le_mul_right _ hgk
        _ = q := hk.symm
theorem Xq2 (n : Nat) : wd (n : Int) = bn n := Quj n
theorem Xtk (a b : Nat) : Int.tdiv (a : Int) (b : Int) = ((a / b : Nat) : Int) := rfl
theorem Xn6 (a b : Nat) : Int.tmod (a : Int) (b : Int) = ((a % b : Nat) : Int) := rfl
theorem Xoo (a b : Nat) : Int.tmod (-(a : Int)) (b : Int) = -((a % b : Nat) : Int) := by rw [Int.neg_tmod]; rfl
theorem Xhu {a b : Int} (h : b ≠ 0) : Qzh a b = some (w64 (a.tdiv b)) := if_neg h
theorem Qw3 {a b : Int} (h : b ≠ 0) : Qwi a b = some (a.tmod b) := if_neg h
theorem Xom {m : Nat} (m1 : 2 ≤ m) (m2 : m ≤ 1048575) (σ : Int) (hσ : σ = 1 ∨ σ = -1) (S : Nat) (hS : S ≤ m) :
    ∃ x : Nat, x < m ∧ (∃ j : Int, (x : Int) = σ * S + j * m) ∧ (Option.bind (Qwi (σ * S) (w64 (un (bn m)))) fun x12 => (Option.bind (Qwi (w64 (x12 + (w64 (un (bn m))))) (w64 (un (bn m)))) fun x13 => ((some (wd x13, (0 : Int)))))) = some (bn x, 0) := by
  have hun : w64 (un (bn m)) = (m : Int) := by rw [show un (bn m) = (m : Int) from by unfold un; rw [Qfx (by omega)]]; exact Qdt (by omega) (by omega)
  have hlt := Nat.mod_lt S (show 0 < m by omega)
  have hdm := Nat.div_add_mod S m
  rw [hun, Qw3 (by omega), bind_some]
  rcases hσ with rfl | rfl
  · refine ⟨S % m, hlt, ⟨-((S / m : Nat) : Int), ?_⟩, ?_⟩
    · have : ((m * (S / m) + S % m : Nat) : Int) = (S : Int) := by rw [hdm]
      grind
    · rw [Int.one_mul, Xn6, Qdt (by omega) (by omega), Qw3 (by omega), bind_some, show ((S % m : Nat) : Int) + (m : Int) = ((S % m + m : Nat) : Int) from by omega, Xn6, Nat.add_mod_right, Nat.mod_mod, Xq2]
  · refine ⟨(m - S % m) % m, Nat.mod_lt _ (by omega), ⟨((S / m : Nat) : Int) + (if S % m = 0 then 0 else 1), ?_⟩, ?_⟩
    · have : ((m * (S / m) + S % m : Nat) : Int) = (S : Int) := by rw [hdm]
      by_cases h0 : S % m = 0
      · rw [if_pos h0, h0, Nat.sub_zero, Nat.mod_self]; rw [h0] at this; grind
      · rw [if_neg h0, Nat.mod_eq_of_lt (by omega)]
        have e : ((m - S % m : Nat) : Int) = (m : Int) - ((S % m : Nat) : Int) := by omega
        rw [e]; grind
    · rw [show (-1 : Int) * (S : Int) = -(S : Int) from by omega, Xoo, Qdt (by omega) (by omega), Qw3 (by omega), bind_some, show -((S % m : Nat) : Int) + (m : Int) = ((m - S % m : Nat) : Int) from by omega, Xn6, Xq2]
theorem Xdb {m : Nat} (m1 : 2 ≤ m) (m2 : m ≤ 1048575) (a : Int) : ∀ (f R N S T : Nat) (σ k l : Int), (σ = 1 ∨ σ = -1) → N < f → R ≤ m → N < R → S ≤ m → R * T + N * S = m → Nat.gcd R N = 1 → (R : Int) = (σ * S) * a + k * m → (N : Int) = (-σ * T) * a + l * m →
    ∃ x : Nat, x < m ∧ (∃ j : Int, (x : Int) * a = 1 + j * m) ∧ Qc3 (Qfs (bn m)) f ((R : Int), (N : Int), σ * S, -σ * T) = some (bn x, 0)
  | 0, R, N, S, T, σ, k, l, _, h, _, _, _, _, _, _, _ => by omega
  | f + 1, R, N, S, T, σ, k, l, hσ, hf, hR, hNR, hS, hm, hg, h1, h2 => by
    rw [Qbn]; simp only [Qfs]
    by_cases h0 : N = 0
    · subst h0
      rw [if_neg (by simp)]
      have hR1 : R = 1 := by simpa using hg
      subst hR1
      rw [if_neg (by simp)]
      obtain ⟨x, x1, ⟨j, x2⟩, x3⟩ := Xom m1 m2 σ hσ S hS
      refine ⟨x, x1, ⟨j * a - k, ?_⟩, x3⟩
      rw [x2]; grind
    · have hq0 : R / N * N ≤ R := Nat.div_mul_le_self R N
      have hdm := Nat.div_add_mod R N
      have hlt := Nat.mod_lt R (show 0 < N by omega)
      have hqm : R / N ≤ m := Nat.le_trans (Nat.div_le_self R N) hR
      have hgr : Nat.gcd N (R % N) = 1 := by rw [← hg, Nat.gcd_comm R N, Nat.gcd_rec N R, Nat.gcd_comm]
      rw [if_pos (by omega), Xhu (by omega), bind_some, Xtk]
      generalize R / N = Q at *
      generalize R % N = M at *
      have hTm : T ≤ m := by
        have : 1 * T ≤ R * T := Nat.mul_le_mul_right _ (by omega)
        omega
      have hqT : Q * T ≤ m := by
        have h3 : N * (Q * T) ≤ R * T := by rw [← Nat.mul_assoc]; exact Nat.mul_le_mul_right _ (by rw [Nat.mul_comm]; exact hq0)
        have h4 : 1 * (Q * T) ≤ N * (Q * T) := Nat.mul_le_mul_right _ (by omega)
        omega
      rw [Qdt (n := ((Q : Nat) : Int)) (by omega) (by omega)]
      have e1 : w64 ((R : Int) - w64 (((Q : Nat) : Int) * (N : Int))) = ((M : Nat) : Int) := by
        have : ((Q : Nat) : Int) * (N : Int) = ((Q * N : Nat) : Int) := by push_cast; rfl
        rw [this, Qdt (n := ((Q * N : Nat) : Int)) (by omega) (by omega), Qdt (by omega) (by omega)]
        rw [Nat.mul_comm] at hq0
        have : ((N * (Q) + M : Nat) : Int) = (R : Int) := by rw [hdm]
        rw [Nat.mul_comm (Q) N]; omega
      have e2 : w64 (((Q : Nat) : Int) * (-σ * (T : Int))) = -σ * ((Q * T : Nat) : Int) := by
        have e : ((Q : Nat) : Int) * (-σ * (T : Int)) = -σ * ((Q * T : Nat) : Int) := by push_cast; grind
        rw [e]
        rcases hσ with rfl | rfl <;> exact Qdt (by omega) (by omega)
      have e3 : w64 (σ * (S : Int) - -σ * ((Q * T : Nat) : Int)) = -(-σ) * ((S + Q * T : Nat) : Int) := by
        have e : σ * (S : Int) - -σ * ((Q * T : Nat) : Int) = -(-σ) * ((S + Q * T : Nat) : Int) := by push_cast; grind
        rw [e]
        rcases hσ with rfl | rfl <;> exact Qdt (by omega) (by omega)
      rw [e1, e2, e3]
      have hc : ((N * (Q) + M : Nat) : Int) = (R : Int) := by rw [hdm]
      refine Xdb m1 m2 a f N (M) T (S + Q * T) (-σ) l (k - ((Q : Nat) : Int) * l) (by rcases hσ with rfl | rfl <;> simp) (by omega) (by omega) hlt hTm ?_ ?_ ?_ ?_
      · have : N * (S + Q * T) + M * T = N * S + (N * (Q) + M) * T := by grind
        rw [this, hdm]; omega
      · exact hgr
      · exact h2
      · push_cast at hc ⊢
        grind
theorem Quf (q1 : 2 ≤ q) (q2 : q ≤ 1048575) (α : Fin q) : ∀ (f A B : Nat) (X Y : Fin q), B < f → A ≤ q → B ≤ q → Nat.gcd A B = 1 → fi q A = X * α → fi q B = Y * α →
    ∃ x : Fin q, x * α = 1 ∧ Qc3 (Qlk (bn q)) f (bn A, fe X, bn B, fe Y) = some (fe x, true)
  | 0, A, B, X, Y, h, _, _, _, _, _ => by omega
  | f + 1, A, B, X, Y, hf, hA, hB, hg, h1, h2 => by
    rw [Qbn]; simp only [Qlk]
    have hX := X.isLt
    have hY := Y.isLt
    by_cases h0 : B = 0
    · subst h0
      have hA1 : A = 1 := by simpa using hg
      subst hA1
      rw [if_neg (by simp)]
      exact ⟨X, h1.symm.trans Xv9, rfl⟩
    · have hlt := Nat.mod_lt A (show 0 < B by omega)
      have hdm := Nat.div_add_mod A B
      have hle := Nat.div_le_self A B
      have hq0 : A / B * B ≤ A := Nat.div_mul_le_self A B
      have hz : ¬ bn B = 0#64 := Xan (by omega) (by omega)
      have hmq := Nat.mod_lt (A / B) (show 0 < q by omega)
      have hp1 : A / B % q * Y.val ≤ 1048575 * 1048575 := Nat.mul_le_mul (by omega) (by omega)
      have hm2 := Nat.mod_lt (A / B % q * Y.val) (show 0 < q by omega)
      rw [if_pos hz, Xfm (by omega) (by omega) (by omega), bind_some, Qfc (by omega) (by omega) (by omega), bind_some, Qpp, Qfc (by omega) (by omega) (by omega), bind_some, Xa2 (by omega) (by omega), Qu5, Qfc (by omega) (by omega) (by omega), bind_some, Qpp, Xa2 (by omega) (by omega)]
      have e : A - A / B * B = A % B := by rw [Nat.mul_comm] at hq0 ⊢; omega
      rw [e]
      have hA' : fi q A = fi q B * fi q (A / B) + fi q (A % B) := by rw [← Qu8, ← Qzm, hdm]
      have hY' : fi q ((X.val + (q - A / B % q * Y.val % q)) % q) = X - fi q (A / B) * Y := by
        rw [Xgp, Qzm, Qms, Xpu (by omega), Xv3, Xgp, Qu8, Xgp, Qms]; grind
      rw [show bn ((X.val + (q - A / B % q * Y.val % q)) % q) = fe (X - fi q (A / B) * Y) from by rw [← hY', Xi0 (Nat.mod_lt _ (by omega))]]
      refine Quf q1 q2 α f B (A % B) Y _ (by omega) hB (by omega) ?_ h2 ?_
      · rw [← hg, Nat.gcd_comm A B, Nat.gcd_rec B A, Nat.gcd_comm]
      · grind
theorem Xsu (hP : Prm q) (q2 : q ≤ 1048575) {α : Fin q} (hα : α ≠ 0) : ∃ x : Fin q, α * x = 1 ∧ Qim (fe α) (bn q) = some (fe x, 0) ∧ Qp4 (fe α) (bn q) = some (fe x, true) := by
  have q1 := hP.1
  have ha := α.isLt
  have h0 : 0 < α.val := by
    rcases Nat.eq_zero_or_pos α.val with h | h
    · exact absurd (Fin.ext h) hα
    · exact h
  have hg := Xob hP h0 ha
  obtain ⟨x, x1, ⟨j, x2⟩, x3⟩ := Xdb q1 q2 (α.val : Int) Qcw q α.val 0 1 (-1) 1 0 (.inr rfl) (Qe1 (by omega)) (Nat.le_refl _) ha (by omega) (by omega) hg (by simp) (by simp)
  obtain ⟨y, y1, y2⟩ := Quf q1 q2 α Qcw α.val q 1 0 (Qe1 (by omega)) (by omega) (Nat.le_refl _) (by rw [Nat.gcd_comm]; exact hg) (by rw [Qms]; grind) (by rw [Xv3]; grind)
  have hx : fi q x * α = 1 := by
    have h1 : fi q (x * α.val) = fi q x * α := by rw [Qu8, Qms]
    rw [← h1]
    apply Fin.ext
    have e1 : (1 : Fin q).val = 1 := Nat.mod_eq_of_lt (show 1 < q by omega)
    rw [Qq7, e1]
    have h2 : ((x * α.val % q : Nat) : Int) = 1 := by
      push_cast
      rw [x2, Int.add_mul_emod_self_right]
      exact Int.emod_eq_of_lt (by omega) (by omega)
    omega
  have hxy : fi q x = y := by grind
  refine ⟨y, by grind, ?_, ?_⟩
  · unfold Qim Qhp
    have hun : ∀ n : Nat, n < 9223372036854775807 → w64 (un (bn n)) = (n : Int) := fun n hn => by rw [show un (bn n) = (n : Int) from by unfold un; rw [Qfx (by omega)]]; exact Qdt (by omega) (by omega)
    rw [show (1#64) = bn 1 from rfl, if_pos ((Qt1 (by omega) (by omega)).2 (by omega)), bind_some, show (4294967296#64) = bn 4294967296 from rfl, decide_eq_true ((Ql3 (by omega) (by omega)).2 (by omega))]
    simp only [Bool.not_true, cond_false]
    rw [Qfc (by omega) (by omega) (by omega), bind_some, Nat.mod_eq_of_lt ha, hun q (by omega), hun _ (by omega)]
    rw [show (0 : Int) = -1 * ((0 : Nat) : Int) from by simp, show (1 : Int) = -(-1) * ((1 : Nat) : Int) from by simp] 
    rw [← hxy, Xi0 x1]
    exact x3
  · unfold Qp4
    rw [show (1#64) = bn 1 from rfl, Qfc (by omega) (by omega) (by omega), bind_some, Qfc (by omega) (by omega) (by omega), bind_some, Nat.mod_eq_of_lt ha, Nat.mod_eq_of_lt (show 1 < q by omega)]
    have e1 : bn 1 = fe (1 : Fin q) := by unfold fe; rw [show (1 : Fin q).val = 1 from Nat.mod_eq_of_lt (show 1 < q by omega)]
    have e0 : (0#64) = fe (0 : Fin q) := rfl
    rw [e1, e0]
    exact y2
end
end Go.Sx.Po

end
section
set_option linter.unusedVariables false
set_option linter.unusedSimpArgs false
set_option maxRecDepth 100000
namespace Go.Sx.Po
open Go
def Qt6 (d : Nat) (l : List Int) : Bool := (List.range l.length).all fun j => decide (0 ≤ l.getD j 0 ∧ l.getD j 0 < ((2 ^ d : Nat) : Int)) && (decide (j = 0) || decide (l.getD (j - 1) 0 < l.getD j 0))
theorem getD_some {l : List Int} {j : Nat} (h : j < l.length) : l.getD j 0 = l[j] := by simp [List.getD, h]
theorem Qu4 {R : Type} (p : Nat → Bool) (D E : Option R) : ∀ (l : List Nat) (F : Nat → (Unit → Option R) → Unit → Option R), (∀ a ∈ l, ∀ nx s, F a nx s = bif p a then nx s else E) → itL F (fun _ => D) l () = bif l.all p then D else E
  | [], F, h => rfl
  | a :: l, F, h => by
    rw [Qkw, h a (by simp), List.all_cons]
    cases p a with
    | false => rfl
    | true => rw [cond_true, Bool.true_and]; exact Qu4 p D E l F (fun b hb => h b (by simp [hb]))
theorem Qwm {d : Nat} {l : List Int} (h : Qt6 d l = true) {j : Nat} (hj : j < l.length) : (0 ≤ l[j] ∧ l[j] < ((2 ^ d : Nat) : Int)) ∧ (j = 0 ∨ l.getD (j - 1) 0 < l[j]) := by
  have := List.all_eq_true.1 h j (by simpa using hj)
  rw [Bool.and_eq_true, decide_eq_true_eq, getD_some hj, Bool.or_eq_true, decide_eq_true_eq, decide_eq_true_eq] at this
  exact this
theorem Xnv {d : Nat} {l : List Int} (h : Qt6 d l = true) : ∃ ln : List Nat, l = ln.map (fun n : Nat => (n : Int)) ∧ (∀ n ∈ ln, n < 2 ^ d) ∧ ln.Pairwise (· < ·) := by
  refine ⟨l.map Int.toNat, ?_, ?_, ?_⟩
  · rw [List.map_map]
    apply List.ext_getElem
    · simp
    · intro i h1 h2
      have := (Qwm h h1).1.1
      simp only [List.getElem_map, Function.comp_apply]; omega
  · intro n hn
    obtain ⟨a, ha, rfl⟩ := List.mem_map.1 hn
    obtain ⟨j, hj, rfl⟩ := List.mem_iff_getElem.1 ha
    have := (Qwm h hj).1; omega
  · rw [List.pairwise_iff_getElem]
    have key : ∀ (m i : Nat) (h2 : i + m + 1 < l.length), l[i] < l[i + m + 1] := by
      intro m
      induction m with
      | zero =>
        intro i h2
        have := (Qwm h h2).2
        rw [getD_some (by omega)] at this
        simp only [Nat.add_zero, Nat.add_sub_cancel] at this ⊢
        omega
      | succ m ih =>
        intro i h2
        have h3 := ih i (by omega)
        have := (Qwm h h2).2
        rw [getD_some (by omega)] at this
        have e : l[i + (m + 1) + 1 - 1]'(by omega) = l[i + m + 1]'(by omega) := by congr 1
        rw [e] at this
        omega
    intro i j hi hj hij
    simp only [List.length_map] at hi hj
    simp only [List.getElem_map]
    have h1 := (Qwm h hi).1
    have h2 := key (j - i - 1) i (by omega)
    have e : l[i + (j - i - 1) + 1]'(by omega) = l[j] := by congr 1; omega
    rw [e] at h2
    omega
theorem Xqp {d : Nat} {ln : List Nat} (h1 : ∀ n ∈ ln, n < 2 ^ d) (h2 : ln.Pairwise (· < ·)) : Qt6 d (ln.map fun n : Nat => (n : Int)) = true := by
  unfold Qt6
  rw [List.all_eq_true]
  intro j hj
  have hj' : j < ln.length := by simpa using hj
  have hl : j < (ln.map fun n : Nat => (n : Int)).length := by simpa using hj'
  rw [getD_some hl, List.getElem_map]
  have ha := h1 _ (List.getElem_mem hj')
  rw [Bool.and_eq_true, decide_eq_true_eq, Bool.or_eq_true, decide_eq_true_eq, decide_eq_true_eq]
  refine ⟨by omega, ?_⟩
  by_cases h0 : j = 0
  · exact .inl h0
  · right
    rw [getD_some (by simp; omega), List.getElem_map]
    have := (List.pairwise_iff_getElem.1 h2) (j - 1) j (by omega) hj' (by omega)
    omega
end Go.Sx.Po

end
section
set_option linter.unusedVariables false
set_option linter.unusedSimpArgs false
set_option maxRecDepth 100000
namespace Go.Sx.Po
open Go
theorem Xmt {b n p : Nat} (hb : b < 18446744073709551616) (hn : n < 18446744073709551616) (hp : 1 ≤ p) (hp2 : p < 4294967296) : Qka (bn b) (bn n) (bn p) = some (bn (b ^ n % p), 0) := by
  unfold Qka Qhp
  rw [show (1#64) = bn 1 from rfl, if_pos ((Qt1 (by omega) (by omega)).2 hp), bind_some, show (4294967296#64) = bn 4294967296 from rfl, decide_eq_true ((Ql3 (by omega) (by omega)).2 hp2)]
  simp only [Bool.not_true, cond_false]
  rw [Xe0 hb hn (by omega) hp2, bind_some]
section
variable {s : Qa7} {d t p q g : Nat}
theorem Qxv (h : Vld s d t p q g) {b n : Nat} (hb : b < 18446744073709551616) (hn : n < 18446744073709551616) : Qjm s (bn b) (bn n) = some (bn (b ^ n % p)) := by
  obtain ⟨p1, p2⟩ := h.pb
  unfold Qjm
  rw [h.grp]
  simp only
  rw [Xmt hb hn (by omega) (by omega), bind_some]
end
def fN (root : W2) (q t x : Nat) : Nat := evN (cfs root q t) x % q
def rN (root : W2) (q : Nat) (nonce : BitVec 64) : Nat := 1 + (drv (drv root (un8 41#8) nonce) (un8 3#8) 0#64).1.toNat % (q - 1)
def Qpv (root : W2) (p q g : Nat) (nonce : BitVec 64) : Nat := g ^ rN root q nonce % p
def ptN (root : W2) (p q t b x : Nat) : Qah := ⟨bn x, bn (b ^ fN root q t x % p)⟩
def xsN (d t : Nat) (ln : List Nat) : List Nat := ln.map (· + 1) ++ (List.range (t - ln.length)).map fun i => 2 ^ d + 1 + i
def hdN (root : W2) (d t p q g : Nat) (ln : List Nat) (session : W2) (nonce : BitVec 64) : Qaa :=
  ⟨[], bn (Qpv root p q g nonce), (xsN d t ln).map (ptN root p q t (Qpv root p q g nonce)), Qw4 (drv k0 (un8 42#8) (bn (Qpv root p q g nonce ^ fN root q t 0 % p))) session, drv session (un8 53#8) 0#64⟩
theorem Qz0 {d t : Nat} {ln : List Nat} (h : ln.length ≤ t) : (xsN d t ln).length = t := by simp [xsN]; omega
section
variable {s : Qa7} {d t p q g : Nat}
theorem Xq5 (h : Vld s d t p q g) (root : W2) (x : Nat) : fN root q t x < q := Nat.mod_lt _ (by have := h.qb; omega)
theorem Qyq (h : Vld s d t p q g) (root : W2) (nonce : BitVec 64) : Qpv root p q g nonce < p := Nat.mod_lt _ (by have := h.pb; omega)
theorem Xch (root : W2) : (cfs root q t).length = t + 1 := by simp [cfs]
theorem Xsx (h : Vld s d t p q g) {ln : List Nat} (hl : ∀ n ∈ ln, n < 2 ^ d) {x : Nat} (hx : x ∈ xsN d t ln) : 1 ≤ x ∧ x < q := by
  have := h.big
  have hpp := Nat.two_pow_pos d
  rcases List.mem_append.1 hx with hx | hx
  · obtain ⟨n, hn, rfl⟩ := List.mem_map.1 hx
    have := hl n hn; omega
  · obtain ⟨n, hn, rfl⟩ := List.mem_map.1 hx
    have := List.mem_range.1 hn; omega
theorem Xfq (h : Vld s d t p q g) (root : W2) (nonce : BitVec 64) : 1 ≤ rN root q nonce ∧ rN root q nonce < q := by
  have hb := h.big
  have := Nat.mod_lt (drv (drv root (un8 41#8) nonce) (un8 3#8) 0#64).1.toNat (show 0 < q - 1 by have := Nat.two_pow_pos d; omega)
  unfold rN; omega
theorem Xk2 (h : Vld s d t p q g) (root : W2) (nonce : BitVec 64) : Qh3 (drv root (un8 41#8) nonce) 0#64 (bn q - 1#64) = some (bn (rN root q nonce - 1)) ∧ Qnh (drv root (un8 41#8) nonce) 0#64 (bn q - 1#64) = some (bn (rN root q nonce - 1)) := by
  obtain ⟨q1, q2⟩ := h.qb
  have hb := h.big
  have := Nat.two_pow_pos d
  have ht := h.t1
  have e : rN root q nonce - 1 = (drv (drv root (un8 41#8) nonce) (un8 3#8) 0#64).1.toNat % (q - 1) := by unfold rN; omega
  rw [show (1#64) = bn 1 from rfl, Xa2 (by omega) (by omega), Xa6 _ _ _ (Xan (by omega) (by omega)), Qxm _ _ _ (Xan (by omega) (by omega)), Xgu _ (by omega) (by omega), e]
  exact ⟨rfl, rfl⟩
theorem Xci (h : Vld s d t p q g) (root : W2) {b x : Nat} (hb : b < p) (hx : x < q) (it : List Qcc) (pts : List Qah) (k1 k2 : W2) :
    Qjc (bn x) s ⟨it, bn b, pts, k1, k2⟩ ((cfs root q t).map bn) (bn q) = some (bn (b ^ fN root q t x % p)) := by
  obtain ⟨q1, q2⟩ := h.qb
  obtain ⟨p1, p2⟩ := h.pb
  have hf := Xq5 h root x
  have ht := h.t8
  unfold Qjc
  rw [Xoh q1 q2 hx _ (Xaw (by omega)) (by rw [Xch]; omega), bind_some]
  simp only
  rw [show evN (cfs root q t) x % q = fN root q t x from rfl, Qxv h (by omega) (by omega), bind_some]
theorem Qtc (h : Vld s d t p q g) (root : W2) (l : List Int) (session : W2) (nonce : BitVec 64) (hl : l.length < 4611686018427387904) :
    Qc3 (Qgv root s l session nonce) Qcw 0 = bif Qt6 d l then (if s.Degree < (l.length : Int) then some (⟨[], 0#64, [], k0, k0⟩, 4) else Option.bind (Qi2 root s) fun x => Qjf root s l session nonce x) else some (⟨[], 0#64, [], k0, k0⟩, 2) := by
  have h64 := Qck h.d6
  have hpp := Nat.two_pow_pos d
  have := Qvs l.length (Qgv root s l session nonce) (fun j (_ : Unit) => (j : Int)) (fun j nx u => bif decide (0 ≤ l.getD j 0 ∧ l.getD j 0 < ((2 ^ d : Nat) : Int)) && (decide (j = 0) || decide (l.getD (j - 1) 0 < l.getD j 0)) then nx u else some (⟨[], 0#64, [], k0, k0⟩, 2)) (fun _ => if s.Degree < (l.length : Int) then some (⟨[], 0#64, [], k0, k0⟩, 4) else Option.bind (Qi2 root s) fun x => Qjf root s l session nonce x)
    (fun rec j hj _ => by
      simp only [Qgv, Qi8]
      rw [if_pos (by omega), Qcb hj, bind_some, h.depth, Qp2, bind_some, Xlf h.d6, getD_some hj, Qet (by omega)]
      by_cases h1 : l[j] < 0
      · rw [if_pos h1, decide_eq_false (by omega)]; rfl
      · rw [if_neg h1]
        by_cases h2 : ((2 ^ d : Nat) : Int) ≤ l[j]
        · rw [if_pos h2, decide_eq_false (by omega)]; rfl
        · rw [if_neg h2, decide_eq_true (show 0 ≤ l[j] ∧ l[j] < ((2 ^ d : Nat) : Int) by omega), Bool.true_and]
          by_cases h0 : j = 0
          · rw [if_neg (by omega), decide_eq_true h0]; rfl
          · have hj1 : j - 1 < l.length := by omega
            rw [if_pos (by omega), Qdt (by omega) (by omega), show (j : Int) - 1 = ((j - 1 : Nat) : Int) from by omega, Qcb hj1, bind_some, decide_eq_false h0, Bool.false_or, getD_some hj1]
            by_cases h3 : l[j] ≤ l[j - 1]
            · rw [decide_eq_true h3, decide_eq_false (by omega)]; rfl
            · rw [decide_eq_false h3, decide_eq_true (by omega)]; rfl)
    (fun rec _ => by simp only [Qgv]; rw [if_neg (by omega)]) (f := Qcw) (Qe1 (by omega)) ()
  rw [show ((0 : Nat) : Int) = 0 from rfl] at this
  rw [this, Qu4 _ _ _ _ _ (fun a _ nx u => rfl)]; rfl
theorem Xfp (h : Vld s d t p q g) (root : W2) (session : W2) (nonce : BitVec 64) {b : Nat} (hb : b < p) (pts : List Qah) (hk : pts.length ≤ t) :
    Qc3 (Qhw s session ((cfs root q t).map bn) (bn b)) Qcw (w64 (((2 ^ d : Nat) : Int) + 1), pts) = some (⟨[], bn b, pts ++ (List.range (t - pts.length)).map (fun i => ptN root p q t b (2 ^ d + 1 + i)), Qw4 (drv k0 (un8 42#8) (bn (b ^ fN root q t 0 % p))) session, drv session (un8 53#8) 0#64⟩, 0) := by
  have h64 := Qck h.d6
  have hpp := Nat.two_pow_pos d
  have ht := h.t8
  have hbig := h.big
  obtain ⟨q1, q2⟩ := h.qb
  refine Qpr _ (fun j st => st = (((2 ^ d + 1 + j : Nat) : Int), pts ++ (List.range j).map (fun i => ptN root p q t b (2 ^ d + 1 + i)))) (t - pts.length) _ (by omega) ?_ ?_ ?_
  · rw [Qet (by omega)]; simp
  · rintro j _ hj rfl
    refine ⟨_, rfl, fun rec => ?_⟩
    simp only [Qhw]
    rw [if_pos (by rw [h.deg]; simp; omega), h.grp, Quj]
    simp only
    rw [Xci h root hb (show 2 ^ d + 1 + j < q by omega), bind_some, Qhv (by simp; omega), bind_some, Qet (by omega), List.range_succ, List.map_append, ← List.append_assoc]; rfl
  · rintro _ rfl rec
    simp only [Qhw]
    rw [if_neg (by rw [h.deg]; simp; omega), h.grp, show (0#64) = bn 0 from rfl]
    simp only
    rw [Xci h root hb (show 0 < q by omega), bind_some]; rfl
theorem Xee (h : Vld s d t p q g) (root : W2) {ln : List Nat} (hl : ∀ n ∈ ln, n < 2 ^ d) (hlen : ln.length ≤ t) (session : W2) (nonce : BitVec 64) {b : Nat} (hb : b < p) :
    Qc3 (Qi9 s (ln.map fun n : Nat => (n : Int)) session ((cfs root q t).map bn) (bn b)) Qcw (0, []) = some (⟨[], bn b, (xsN d t ln).map (ptN root p q t b), Qw4 (drv k0 (un8 42#8) (bn (b ^ fN root q t 0 % p))) session, drv session (un8 53#8) 0#64⟩, 0) := by
  have h64 := Qck h.d6
  have hpp := Nat.two_pow_pos d
  have ht := h.t8
  have hbig := h.big
  obtain ⟨q1, q2⟩ := h.qb
  refine Qpr _ (fun j st => st = ((j : Int), (ln.take j).map fun n => ptN root p q t b (n + 1))) ln.length _ (by omega) (by simp) ?_ ?_
  · rintro j _ hj rfl
    refine ⟨_, rfl, fun rec => ?_⟩
    have hn := hl _ (List.getElem_mem hj)
    simp only [Qi9]
    rw [if_pos (by simp; omega), Qcb (by simpa using hj), bind_some, List.getElem_map, Qet (by omega), Quj, h.grp]
    simp only
    rw [Xci h root hb (show ln[j] + 1 < q by omega), bind_some, Qhv (by simp; omega), bind_some, Qet (by omega), Qmk ln j hj, List.map_append]; rfl
  · rintro _ rfl rec
    simp only [Qi9]
    rw [if_neg (by simp), h.depth, Qp2, bind_some, Xlf h.d6, List.take_length, Xfp h root session nonce hb _ (by simpa using hlen)]
    simp only [xsN, List.map_append, List.map_map, List.length_map]; rfl
theorem Qyp (h : Vld s d t p q g) (e1 : Qd8 s = some true) (root : W2) {ln : List Nat} (hl : ∀ n ∈ ln, n < 2 ^ d) (ho : ln.Pairwise (· < ·)) (hlen : ln.length ≤ t) (session : W2) (nonce : BitVec 64) :
    Qfy root s (ln.map fun n : Nat => (n : Int)) session nonce = some (hdN root d t p q g ln session nonce, 0) := by
  have ht := h.t8
  obtain ⟨r1, r2⟩ := Xfq h root nonce
  obtain ⟨p1, p2⟩ := h.pb
  obtain ⟨q1, q2⟩ := h.qb
  have hgp := h.ok.2.2.2.2.1
  unfold Qfy
  rw [e1, bind_some]
  simp only [Bool.not_true, cond_false]
  rw [Qtc h root _ session nonce (by simp; omega), Xqp hl ho, cond_true, if_neg (by rw [h.deg]; simp; omega), Qva h, bind_some]
  unfold Qjf Qn8
  rw [h.grp]
  simp only
  rw [(Xk2 h root nonce).1, bind_some, show (1#64) = bn 1 from rfl, Qu5, show 1 + (rN root q nonce - 1) = rN root q nonce from by omega, Qxv h (by omega) (by omega), bind_some]
  have := Xee h root hl hlen session nonce (Qyq h root nonce)
  rw [show bn (Qpv root p q g nonce) = bn (g ^ rN root q nonce % p) from rfl] at this
  rw [this]; rfl
end
end Go.Sx.Po

end
section
set_option linter.unusedVariables false
set_option linter.unusedSimpArgs false
namespace Go.Sx.Po.Cy
open Go
def Qut (l : List (BitVec 8)) : BitVec 64 := l.foldl (fun n c => 256#64 * n + c.setWidth 64) 0#64
theorem Qol (l : List (BitVec 8)) (c : BitVec 8) : Qut (l ++ [c]) = 256#64 * Qut l + c.setWidth 64 := by simp [Qut]
theorem Qom (l : List (BitVec 8)) (hx : l.length ≤ 1000) : ∀ (m i fuel : Nat), l.length - i = m → i ≤ l.length → m < fuel → Qc3 (Qg5 l) fuel (Qut (l.take i), (i : Int)) = some (Qut l)
  | m, i, 0, _, _, hf => by omega
  | 0, i, fuel + 1, hm, hi, hf => by
    rw [Qbn]; simp only [Qg5]; rw [if_neg (by omega), List.take_of_length_le (by omega)]
  | m + 1, i, fuel + 1, hm, hi, hf => by
    rw [Qbn]; simp only [Qg5]
    rw [if_pos (by omega), Qcb (by omega), bind_some, ← Qol, ← Qmk _ _ (by omega), Qdt (by omega) (by omega)]
    exact Qom l hx m (i + 1) fuel (by omega) (by omega) (by omega)
theorem Qv8 (l : List (BitVec 8)) (h : l.length ≤ 1000) : Qmi l = some (Qut l) := Qom l h _ 0 Qcw rfl (by omega) (Qe1 (by omega))
theorem Qzk (a : BitVec 64) (c : BitVec 8) : (a <<< 8) ||| (c.setWidth 64) = 256#64 * a + c.setWidth 64 := by
  have e1 : 256#64 * a = a <<< 8 := by
    apply BitVec.eq_of_toNat_eq
    rw [BitVec.toNat_mul, BitVec.toNat_shiftLeft, Nat.shiftLeft_eq, Nat.mul_comm]; rfl
  rw [e1]
  symm
  apply BitVec.add_eq_or_of_and_eq_zero
  apply BitVec.eq_of_getLsbD_eq
  intro j hj
  rw [BitVec.getLsbD_and, BitVec.getLsbD_shiftLeft, BitVec.getLsbD_setWidth, BitVec.getLsbD_zero]
  by_cases h : j < 8
  · simp [h]
  · simp [BitVec.getLsbD_of_ge c j (by omega)]
theorem Xs9 (x : BitVec 64) (k : Nat) : (byt x k).setWidth 64 = wd (bt x k) := by
  rw [Xqw]
  apply BitVec.eq_of_toNat_eq
  unfold byt
  rw [BitVec.toNat_setWidth, BitVec.toNat_setWidth, BitVec.toNat_and]
  have : (255#64 : BitVec 64).toNat = 2 ^ 8 - 1 := rfl
  rw [this, Nat.and_two_pow_sub_one_eq_mod]
  omega
theorem Quh (x : BitVec 64) (k : Nat) (hk : k < 8) : 256#64 * (x >>> (64 - 8 * k)) + (byt x k).setWidth 64 = x >>> (64 - 8 * (k + 1)) := by
  rw [← Qzk, Xs9, Qso x k hk]
theorem Xmb (x : BitVec 64) : Qut (w8 x) = x := by
  have h0 := Quh x 0 (by decide)
  have h1 := Quh x 1 (by decide)
  have h2 := Quh x 2 (by decide)
  have h3 := Quh x 3 (by decide)
  have h4 := Quh x 4 (by decide)
  have h5 := Quh x 5 (by decide)
  have h6 := Quh x 6 (by decide)
  have h7 := Quh x 7 (by decide)
  have hz : x >>> 64 = 0#64 := by apply BitVec.eq_of_toNat_eq; rw [BitVec.toNat_ushiftRight, Nat.shiftRight_eq_div_pow, Nat.div_eq_of_lt x.isLt]; rfl
  simp only [Nat.mul_zero, Nat.sub_zero, hz] at h0
  simp only [Qut, w8, List.foldl_cons, List.foldl_nil, h0, h1, h2, h3, h4, h5, h6, h7]
  simp
theorem Xe1 (p : W2) : Qvt p = some p := by
  unfold Qvt
  rw [show ((kby p).take 8).drop 0 = w8 p.1 from rfl, show ((kby p).take 16).drop 8 = w8 p.2 from rfl, Qv8 _ (by rw [Qxn]; omega), bind_some, Qv8 _ (by rw [Qxn]; omega), bind_some, Xmb, Xmb]
end Go.Sx.Po.Cy

end
section
set_option linter.unusedVariables false
set_option linter.unusedSimpArgs false
set_option linter.unusedSectionVars false
set_option maxRecDepth 100000
namespace Go.Sx.Po
open Go
theorem Qsg {α : Type} (l : List α) (hl : l.length < 4611686018427387904) (p : α → Bool) (F : (Int → Option Int) → Int → Option Int)
    (h1 : ∀ rec (j : Nat) (hj : j < l.length), F rec (j : Int) = bif p l[j] then some (j : Int) else rec ((j + 1 : Nat) : Int)) (h2 : ∀ rec, F rec (l.length : Int) = some (-1)) :
    ∀ (m j f : Nat), j + m = l.length → m < f → Qc3 F f (j : Int) = some (match (l.drop j).findIdx? p with | some i => ((j + i : Nat) : Int) | none => -1)
  | m, j, 0, _, h => by omega
  | 0, j, f + 1, hj, _ => by
    have : j = l.length := by omega
    subst this
    rw [Qbn, h2, List.drop_length]; rfl
  | m + 1, j, f + 1, hj, hf => by
    have hjl : j < l.length := by omega
    rw [Qbn, h1 _ j hjl, List.drop_eq_getElem_cons hjl, List.findIdx?_cons]
    cases hp : p l[j] with
    | true => rw [cond_true]; simp
    | false =>
      rw [cond_false, Qsg l hl p F h1 h2 m (j + 1) f (by omega) (by omega)]
      simp only [Bool.false_eq_true, if_false]
      cases (l.drop (j + 1)).findIdx? p with
      | none => rfl
      | some i => simp only [Option.map_some]; congr 2; omega
theorem Xnd {α : Type} (l : List α) (hl : l.length < 4611686018427387904) (p : α → Bool) (F : (Int → Option Int) → Int → Option Int)
    (h1 : ∀ rec (j : Nat) (hj : j < l.length), F rec (j : Int) = bif p l[j] then some (j : Int) else rec ((j + 1 : Nat) : Int)) (h2 : ∀ rec, F rec (l.length : Int) = some (-1)) :
    Qc3 F Qcw 0 = some (match l.findIdx? p with | some i => (i : Int) | none => -1) := by
  have := Qsg l hl p F h1 h2 l.length 0 Qcw (by omega) (Qe1 (by omega))
  rw [List.drop_zero, show ((0 : Nat) : Int) = 0 from rfl] at this
  rw [this]
  cases l.findIdx? p with
  | none => rfl
  | some i => simp
theorem Xo5 {α : Type} (l : List α) (p : α → Bool) : decide ((0 : Int) ≤ (match l.findIdx? p with | some i => (i : Int) | none => -1)) = l.any p := by
  cases h : l.findIdx? p with
  | none =>
    have : l.any p = false := by
      rw [List.findIdx?_eq_none_iff] at h
      rw [List.any_eq_false]; intro x hx; rw [h x hx]; simp
    rw [this]; rfl
  | some i =>
    have : l.any p = true := by
      have h3 := List.findIdx?_eq_some_iff_getElem.1 h
      obtain ⟨h4, h5, _⟩ := h3
      exact List.any_eq_true.2 ⟨_, List.getElem_mem h4, h5⟩
    rw [this]; simp
theorem Xk9 (l : List Qah) (hl : l.length < 4611686018427387904) (y : Qah) : Qbm l y = some (l.any fun x => decide (x.X = y.X)) := by
  unfold Qbm Qch
  rw [Xnd l hl (fun x => decide (x.X = y.X)) _ (fun rec j hj => by
    simp only [Qbd, Qkc]
    rw [if_pos (by omega), Qcb hj, bind_some, bind_some, Qet (by omega)]) (fun rec => by
    simp only [Qbd]; rw [if_neg (by omega)]), bind_some, Xo5]
theorem nodup_range {β : Type} [DecidableEq β] (l : List β) : ((List.range l.length).all fun j => !((l.take j).any fun x => decide (some x = l[j]?))) = decide l.Nodup := by
  rw [Bool.eq_iff_iff, decide_eq_true_eq, List.all_eq_true]
  constructor
  · intro h
    rw [List.Nodup, List.pairwise_iff_getElem]
    intro i j hi hj hij he
    have := h j (by simpa using hj)
    rw [Bool.not_eq_true', List.any_eq_false] at this
    refine this l[i] ?_ (by simp [he, hj])
    rw [List.mem_take_iff_getElem]
    exact ⟨i, by omega, rfl⟩
  · intro h j hj
    have hj' : j < l.length := by simpa using hj
    rw [Bool.not_eq_true', List.any_eq_false]
    intro x hx he
    rw [List.mem_take_iff_getElem] at hx
    obtain ⟨i, hi, rfl⟩ := hx
    rw [decide_eq_true_eq, List.getElem?_eq_getElem hj'] at he
    exact List.pairwise_iff_getElem.1 h i j (by omega) hj' (by omega) (Option.some.inj he)
def Xh8 (l : List Qah) : Bool := decide (l.map (·.X)).Nodup
theorem Qwd (l : List Qah) (hl : l.length < 4611686018427387904) : Qij l = some (Xh8 l) := by
  unfold Qij Xh8
  have := Qvs l.length (Qem l) (fun j (_ : Unit) => (j : Int)) (fun j nx u => bif !(((l.map (·.X)).take j).any fun x => decide (some x = (l.map (·.X))[j]?)) then nx u else some false) (fun _ => some true)
    (fun rec j hj _ => by
      simp only [Qem]
      have hs : Xod l 0 (j : Int) = some (l.take j) := by unfold Xod; rw [if_pos (by omega)]; simp
      rw [if_pos (by omega), Qcb hj, bind_some, hs, bind_some, Xk9 _ (by rw [List.length_take]; omega), bind_some, Qet (by omega)]
      have e : ((l.take j).any fun x => decide (x.X = l[j].X)) = (((l.map (·.X)).take j).any fun x => decide (some x = (l.map (·.X))[j]?)) := by
        rw [← List.map_take, List.any_map]
        congr 1; funext x
        simp [hj]
      rw [e]
      cases (((l.map (·.X)).take j).any fun x => decide (some x = (l.map (·.X))[j]?)) <;> rfl)
    (fun rec _ => by simp only [Qem]; rw [if_neg (by omega)]) (f := Qcw) (Qe1 (by omega)) ()
  rw [show ((0 : Nat) : Int) = 0 from rfl] at this
  rw [this, Qu4 _ (some true) (some false) _ _ (fun a _ nx s => rfl)]
  have h2 := nodup_range (l.map (·.X))
  rw [List.length_map] at h2
  rw [h2]
  cases decide (l.map (·.X)).Nodup <;> rfl
def ptB (s : Qa7) (x : Qah) : Bool := decide (1#64 ≤ x.X) && decide (x.X < s.Group.Q) && decide (1#64 ≤ x.Y) && decide (x.Y < s.Group.P)
def hdB (s : Qa7) (h : Qaa) : Bool := decide (h.Items = []) && decide (1#64 ≤ h.Base) && decide (h.Base < s.Group.P) && decide ((h.Points.length : Int) = s.Degree) && Xh8 h.Points && h.Points.all (ptB s)
def shB (s : Qa7) (c : Qae) : Bool := decide (1#64 ≤ c.Share.X) && decide (c.Share.X < s.Group.Q) && decide (c.Share.Y < s.Group.Q)
theorem Qzu (s : Qa7) (c : Qae) (l : List Qah) (hl : l.length < 4611686018427387904) : ∀ (m j f : Nat) (b : Bool), j + m = l.length → m < f → Qc3 (Qi6 s c l (l.length : Int)) f (b, (j : Int)) = some (b && (l.drop j).all (ptB s) && decide (c.Share.Y < s.Group.Q))
  | m, j, 0, b, _, h => by omega
  | 0, j, f + 1, b, hj, _ => by
    have : j = l.length := by omega
    subst this
    rw [Qbn]; simp only [Qi6]
    rw [if_neg (by omega), List.drop_length]
    unfold Qjo
    cases b <;> simp
  | m + 1, j, f + 1, b, hj, hf => by
    have hjl : j < l.length := by omega
    rw [Qbn]; simp only [Qi6]
    rw [if_pos (by omega), Qcb hjl, bind_some, Qet (by omega), List.drop_eq_getElem_cons hjl, List.all_cons]
    cases b with
    | false => unfold Qjo; simp
    | true =>
      simp only [Bool.not_true, cond_false, Bool.true_and]
      have ih := fun b => Qzu s c l hl m (j + 1) f b (by omega) (by omega)
      by_cases a1 : 1#64 ≤ l[j].X
      · rw [if_pos a1]
        by_cases a2 : l[j].X < s.Group.Q
        · rw [if_pos a2]
          by_cases a3 : 1#64 ≤ l[j].Y
          · rw [if_pos a3, ih]; simp [ptB, a1, a2, a3]
          · rw [if_neg a3, ih]; simp [ptB, a3]
        · rw [if_neg a2, ih]; simp [ptB, a2]
      · rw [if_neg a1, ih]; simp [ptB, a1]
theorem Xo0 (s : Qa7) (c : Qae) (h : Qaa) (hl : h.Points.length * 16 ≤ 140737488351232) (hg : 1#64 < s.Group.P) : Qq3 s c h = some (hdB s h && shB s c) := by
  have j1 : ∀ b, Qg2 s c h b = some (b && h.Points.all (ptB s) && shB s c) := by
    intro b
    unfold Qg2 Qik Qni
    rw [Qhv (by simp; omega), bind_some, List.nil_append, bind_some, Qhv (by simp; omega), bind_some]
    have := Qzu s c (h.Points ++ [⟨c.Share.X, 1#64⟩]) (by simp; omega) _ 0 Qcw b (by rw [Nat.zero_add]) (Qe1 (by simp; omega))
    rw [show ((0 : Nat) : Int) = 0 from rfl] at this
    rw [this, List.drop_zero, List.all_append]
    congr 1
    have : [(⟨c.Share.X, 1#64⟩ : Qah)].all (ptB s) = (decide (1#64 ≤ c.Share.X) && decide (c.Share.X < s.Group.Q)) := by simp [ptB, hg]
    rw [this]; unfold shB
    cases b <;> cases h.Points.all (ptB s) <;> simp
  unfold Qq3
  by_cases a0 : h.Items = []
  · rw [if_pos (by rw [a0]; rfl)]
    by_cases a1 : 1#64 ≤ h.Base
    · rw [if_pos a1]
      by_cases a2 : h.Base < s.Group.P
      · rw [if_pos a2]
        by_cases a3 : (h.Points.length : Int) = s.Degree
        · rw [if_pos a3, Qwd _ (by omega), bind_some, j1]; simp [hdB, a0, a1, a2, a3]
        · rw [if_neg a3, j1]; simp [hdB, a3]
      · rw [if_neg a2, j1]; simp [hdB, a2]
    · rw [if_neg a1, j1]; simp [hdB, a1]
  · rw [if_neg (by intro e; exact a0 (List.length_eq_zero_iff.1 (by omega))), j1]; simp [hdB, a0]
end Go.Sx.Po

end
section
set_option linter.unusedVariables false
set_option linter.unusedSimpArgs false
set_option linter.unusedSectionVars false
set_option maxRecDepth 100000
namespace Go.Sx.Po
open Go
open Classical in
noncomputable def iv {q : Nat} [NeZero q] (a : Fin q) : Fin q := if h : ∃ x, a * x = 1 then Classical.choose h else 0
section
variable {q : Nat} [NeZero q]
theorem Qno (hP : Prm q) (q2 : q ≤ 1048575) {a : Fin q} (ha : a ≠ 0) : a * iv a = 1 ∧ Qim (fe a) (bn q) = some (fe (iv a), 0) ∧ Qp4 (fe a) (bn q) = some (fe (iv a), true) := by
  obtain ⟨x, h1, h2, h3⟩ := Xsu hP q2 ha
  have h4 : a * iv a = 1 := by
    unfold iv; rw [dif_pos ⟨x, h1⟩]; exact Classical.choose_spec (p := fun x => a * x = 1) ⟨x, h1⟩
  have : x = iv a := by grind
  rw [← this]
  exact ⟨h1, h2, h3⟩
theorem Xuz (q1 : 2 ≤ q) : (1 : Fin q).val = 1 := Nat.mod_eq_of_lt (show 1 < q by omega)
theorem Xl6 (q1 : 2 ≤ q) : (1 : Fin q) ≠ 0 := fun h => by
  have := congrArg Fin.val h
  rw [Xuz q1] at this
  exact absurd this (by simp)
theorem Xqr (hP : Prm q) (q2 : q ≤ 1048575) {a b : Fin q} (ha : a ≠ 0) (hb : b ≠ 0) : a * b ≠ 0 := fun h => by
  have h1 := (Qno hP q2 ha).1
  have h2 := (Qno hP q2 hb).1
  refine Xl6 hP.1 ?_
  have : (a * b) * (iv a * iv b) = 1 := by grind
  rw [h] at this
  grind
theorem Xny (hP : Prm q) (q2 : q ≤ 1048575) {a b : Fin q} (hb : b ≠ 0) : Qiv (bn q) (fe a) (fe b) = some (fe (a * iv b)) := by
  unfold Qiv
  rw [(Qno hP q2 hb).2.1, bind_some, Xba hP.1 q2, bind_some]
def abF (X : Nat → Fin q) (j : Nat) : Nat → Fin q × Fin q
  | 0 => (1, 1)
  | k + 1 => if k ≠ j then ((abF X j k).1 * X k, (abF X j k).2 * (X k - X j)) else abF X j k
noncomputable def Xey (X : Nat → Fin q) (j : Nat) : Nat → Fin q
  | 0 => 1
  | k + 1 => if k = j then Xey X j k else Xey X j k * X k * iv (X k - X j)
theorem Xhp (hP : Prm q) (q2 : q ≤ 1048575) (X : Nat → Fin q) (j : Nat) : ∀ (n : Nat), (∀ k, k < n → k ≠ j → X k - X j ≠ 0) → (abF X j n).2 ≠ 0 ∧ Xey X j n * (abF X j n).2 = (abF X j n).1
  | 0, _ => ⟨Xl6 hP.1, by simp only [Xey, abF]; grind⟩
  | n + 1, h => by
    obtain ⟨h1, h2⟩ := Xhp hP q2 X j n (fun k hk => h k (by omega))
    simp only [Xey, abF]
    by_cases e : n = j
    · rw [if_pos e, if_neg (by simpa using e)]; exact ⟨h1, h2⟩
    · rw [if_neg e, if_pos e]
      have h3 := h n (by omega) e
      have h4 := (Qno hP q2 h3).1
      exact ⟨Xqr hP q2 h1 h3, by simp only; grind⟩
theorem Xrj (hP : Prm q) (q2 : q ≤ 1048575) (X : Nat → Fin q) (j n : Nat) (h : ∀ k, k < n → k ≠ j → X k - X j ≠ 0) : (abF X j n).1 * iv (abF X j n).2 = Xey X j n := by
  obtain ⟨h1, h2⟩ := Xhp hP q2 X j n h
  have h3 := (Qno hP q2 h1).1
  grind
noncomputable def zF (p : Nat) (X : Nat → Fin q) (Y : Nat → Nat) (n : Nat) : Nat → Nat
  | 0 => 1
  | j + 1 => zF p X Y n j * (Y j ^ (Xey X j n).val % p) % p
variable {s : Qa7} {d t p g : Nat}
theorem Xu2 (hp : 2 ≤ p) (X : Nat → Fin q) (Y : Nat → Nat) (n : Nat) : ∀ j, zF p X Y n j < p
  | 0 => by simp only [zF]; omega
  | j + 1 => Nat.mod_lt _ (by omega)
theorem Xie (h : Vld s d t p q g) (hd : Qaa) (l : List Qah) (X : Nat → Fin q) (Y : Nat → Nat) (hl : l.length < 4611686018427387904) (hX : ∀ k (hk : k < l.length), l[k].X = fe (X k)) (hY : ∀ k (hk : k < l.length), l[k].Y = bn (Y k) ∧ Y k < p) (hne : ∀ k j, k < l.length → j < l.length → k ≠ j → X k - X j ≠ 0) :
    Qc3 (Qgu s hd l) Qcw (1#64, 0) = Ql6 hd (Xet (drv k0 (un8 42#8) (bn (zF p X Y l.length l.length))) hd.Box) := by
  obtain ⟨p1, p2⟩ := h.pb
  have hP := h.ok.2.1.2
  have q2 := h.ok.2.1.1
  have q1 := hP.1
  refine Qpr _ (fun j st => st = (bn (zF p X Y l.length j), (j : Int))) l.length _ (by omega) (by simp [zF]) ?_ ?_
  · rintro j _ hj rfl
    refine ⟨_, rfl, fun rec => ?_⟩
    have hz := Xu2 p1 X Y l.length j
    have hin : Qc3 (Qi0 s l (bn (zF p X Y l.length j)) (j : Int) rec l[j]) Qcw (1#64, 1#64, 0) = rec (bn (zF p X Y l.length (j + 1)), ((j + 1 : Nat) : Int)) := by
      refine Qpr _ (fun k st => st = (fe (abF X j k).1, fe (abF X j k).2, (k : Int))) l.length _ (by omega) ?_ ?_ ?_
      · simp only [abF]
        rw [show fe (1 : Fin q) = 1#64 from by unfold fe; rw [Xuz q1]]; rfl
      · rintro k _ hk rfl
        refine ⟨_, rfl, fun rec2 => ?_⟩
        simp only [Qi0, abF]
        rw [if_pos (by omega), Qcb hk, bind_some, Qet (by omega)]
        by_cases e : k = j
        · rw [if_neg (by omega), if_neg (by simpa using e)]
        · rw [if_pos (by omega), if_pos e, h.grp, hX k hk, hX j hj]
          simp only
          rw [Xba q1 q2, bind_some, Xoq q1 q2, bind_some, Xba q1 q2, bind_some]
      · rintro _ rfl rec2
        simp only [Qi0]
        have hne' : ∀ k, k < l.length → k ≠ j → X k - X j ≠ 0 := fun k hk he => hne k j hk hj he
        have hf := (Xey X j l.length).isLt
        obtain ⟨hy, hy2⟩ := hY j hj
        rw [if_neg (by omega), h.grp]
        simp only
        rw [Xny hP q2 (Xhp hP q2 X j l.length hne').1, bind_some, Xrj hP q2 X j l.length hne', hy, Qxv h (by omega) (by omega), bind_some, Xc4 p1 p2 hz (Nat.mod_lt _ (by omega)), bind_some, Qet (by omega)]
        rfl
    simp only [Qgu]
    rw [if_pos (by omega), Qcb hj, bind_some]
    exact hin
  · rintro _ rfl rec
    simp only [Qgu]
    rw [if_neg (by omega)]
    unfold Ql8
    rw [bind_some]
end
end Go.Sx.Po

end
section
set_option linter.unusedVariables false
set_option linter.unusedSimpArgs false
set_option linter.unusedSectionVars false
set_option maxRecDepth 100000
namespace Go.Sx.Po
open Go
theorem Qv7 (x : BitVec 64) : bn x.toNat = x := by simp [bn]
def Qn1 (c : Qae) (h : Qaa) (p : Nat) : List Qah := ⟨c.Share.X, bn (h.Base.toNat ^ c.Share.Y.toNat % p)⟩ :: h.Points
section
variable {s : Qa7} {d t p q g : Nat}
theorem Xjc (hv : Vld s d t p q g) (e1 : Qd8 s = some true) (c : Qae) (h : Qaa) (hl : h.Points.length * 16 ≤ 140737488351232) :
    Qmq s c h = if hdB s h = true ∧ shB s c = true then (if Xh8 (Qn1 c h p) = true then Qc3 (Qgu s h (Qn1 c h p)) Qcw (1#64, 0) else some (k0, 6)) else some (k0, 8) := by
  obtain ⟨p1, p2⟩ := hv.pb
  unfold Qmq
  rw [e1, bind_some, Xo0 s c h hl (by rw [hv.grp]; exact (Ql3 (a := 1) (by omega) (by omega)).2 (by omega)), bind_some]
  simp only [Bool.not_true, cond_false]
  cases h1 : hdB s h with
  | false => simp
  | true =>
    cases h2 : shB s c with
    | false => simp
    | true =>
      have hb := h.Base.isLt
      have hy := c.Share.Y.isLt
      have e := Qxv hv hb hy
      rw [Qv7, Qv7] at e
      simp only [Bool.and_self, Bool.not_true, cond_false]
      rw [e, bind_some, Qhv (by simp; omega), bind_some, if_pos (by simp)]
      have e2 : [(⟨c.Share.X, bn (h.Base.toNat ^ c.Share.Y.toNat % p)⟩ : Qah)] ++ h.Points = Qn1 c h p := rfl
      rw [e2, Qwd _ (by simp [Qn1]; omega), bind_some]
      cases Xh8 (Qn1 c h p) <;> simp
def Xa (q : Nat) [NeZero q] (l : List Qah) (k : Nat) : Fin q := fi q (l.getD k default).X.toNat
def Ya (l : List Qah) (k : Nat) : Nat := (l.getD k default).Y.toNat
theorem Xg7 [NeZero q] (hv : Vld s d t p q g) (c : Qae) (h : Qaa) (h1 : hdB s h = true) (h2 : shB s c = true) (h3 : Xh8 (Qn1 c h p) = true) :
    (∀ k (hk : k < (Qn1 c h p).length), (Qn1 c h p)[k].X = fe (Xa q (Qn1 c h p) k)) ∧ (∀ k (hk : k < (Qn1 c h p).length), (Qn1 c h p)[k].Y = bn (Ya (Qn1 c h p) k) ∧ Ya (Qn1 c h p) k < p) ∧
    (∀ k j, k < (Qn1 c h p).length → j < (Qn1 c h p).length → k ≠ j → Xa q (Qn1 c h p) k - Xa q (Qn1 c h p) j ≠ 0) := by
  obtain ⟨p1, p2⟩ := hv.pb
  obtain ⟨q1, q2⟩ := hv.qb
  have hall : ∀ x ∈ Qn1 c h p, x.X.toNat < q ∧ x.Y.toNat < p := by
    intro x hx
    rcases List.mem_cons.1 hx with rfl | hx
    · simp only [shB, Bool.and_eq_true, decide_eq_true_eq, hv.grp] at h2
      have := h2.1.2
      rw [BitVec.lt_def, Qfx (by omega)] at this
      have hm := Nat.mod_lt (h.Base.toNat ^ c.Share.Y.toNat) (show 0 < p by omega)
      exact ⟨this, by simp only; rw [Qfx (by omega)]; exact hm⟩
    · simp only [hdB, Bool.and_eq_true] at h1
      have := List.all_eq_true.1 h1.2 x hx
      simp only [ptB, Bool.and_eq_true, decide_eq_true_eq, hv.grp, BitVec.lt_def] at this
      rw [Qfx (by omega), Qfx (by omega)] at this
      exact ⟨this.1.1.2, this.2⟩
  have gd : ∀ k (hk : k < (Qn1 c h p).length), (Qn1 c h p).getD k default = (Qn1 c h p)[k] := fun k hk => by rw [List.getD_eq_getElem?_getD, List.getElem?_eq_getElem hk]; rfl
  refine ⟨fun k hk => ?_, fun k hk => ?_, fun k j hk hj hkj => ?_⟩
  · unfold Xa; rw [gd k hk, Xi0 (hall _ (List.getElem_mem hk)).1, Qv7]
  · unfold Ya; rw [gd k hk, Qv7]; exact ⟨rfl, (hall _ (List.getElem_mem hk)).2⟩
  · intro he
    have e1 : Xa q (Qn1 c h p) k = Xa q (Qn1 c h p) j := by grind
    unfold Xa at e1
    rw [gd k hk, gd j hj] at e1
    have e2 := Xt3 (hall _ (List.getElem_mem hk)).1 (hall _ (List.getElem_mem hj)).1 e1
    have e3 : (Qn1 c h p)[k].X = (Qn1 c h p)[j].X := BitVec.eq_of_toNat_eq e2
    unfold Xh8 at h3
    rw [decide_eq_true_eq, List.Nodup, List.pairwise_iff_getElem] at h3
    rcases Nat.lt_or_gt_of_ne hkj with hlt | hlt
    · exact h3 k j (by simpa using hk) (by simpa using hj) hlt (by simpa using e3)
    · exact h3 j k (by simpa using hj) (by simpa using hk) hlt (by simpa using e3.symm)
end
end Go.Sx.Po

end
section
set_option linter.unusedVariables false
set_option linter.unusedSimpArgs false
set_option linter.unusedSectionVars false
set_option maxRecDepth 100000
namespace Go.Sx.Po
open Go
section
variable {q : Nat} [NeZero q]
def evF (l : List (Fin q)) (x : Fin q) : Fin q := l.foldr (fun c a => c + x * a) 0
theorem Qp7 (x : Fin q) : evF [] x = 0 := rfl
theorem Qdi (a : Fin q) (l : List (Fin q)) (x : Fin q) : evF (a :: l) x = a + x * evF l x := rfl
theorem Qvk (n : Nat) (x : Fin q) : evF (List.replicate n 0) x = 0 := by
  induction n with
  | zero => rfl
  | succ n ih => rw [List.replicate_succ, Qdi, ih]; grind
theorem Xdf : ∀ (l : List (Fin q)) (n : Nat) (x : Fin q), evF (l ++ List.replicate n 0) x = evF l x
  | [], n, x => Qvk n x
  | a :: l, n, x => by rw [List.cons_append, Qdi, Qdi, Xdf l]
theorem Xgg (r x : Fin q) : ∀ (a b : List (Fin q)), a.length = b.length → evF (List.zipWith (fun u v => u - v * r) a b) x = evF a x - evF b x * r
  | [], [], _ => by simp only [List.zipWith_nil_left, Qp7]; grind
  | u :: a, v :: b, h => by
    have ih := Xgg r x a b (by simpa using h)
    rw [List.zipWith_cons_cons, Qdi, Qdi, Qdi, ih]; grind
theorem Xbl (x : Fin q) : ∀ (a b : List (Fin q)), a.length = b.length → evF (List.zipWith (· + ·) a b) x = evF a x + evF b x
  | [], [], _ => by simp only [List.zipWith_nil_left, Qp7]; grind
  | u :: a, v :: b, h => by
    have ih := Xbl x a b (by simpa using h)
    rw [List.zipWith_cons_cons, Qdi, Qdi, Qdi, ih]; grind
theorem Xib (x : Fin q) : ∀ (a b : List (Fin q)), a.length = b.length → evF (List.zipWith (· - ·) a b) x = evF a x - evF b x
  | [], [], _ => by simp only [List.zipWith_nil_left, Qp7]; grind
  | u :: a, v :: b, h => by
    have ih := Xib x a b (by simpa using h)
    rw [List.zipWith_cons_cons, Qdi, Qdi, Qdi, ih]; grind
theorem Qsk (v x : Fin q) : ∀ (a : List (Fin q)), evF (a.map (· * v)) x = evF a x * v
  | [] => by simp only [List.map_nil, Qp7]; grind
  | u :: a => by
    have ih := Qsk v x a
    rw [List.map_cons, Qdi, Qdi, ih]; grind
theorem Xby (c r x : Fin q) (u : List (Fin q)) : evF (List.zipWith (fun a b => a - b * r) (c :: u) (u ++ [0])) x = c + (x - r) * evF u x := by
  rw [Xgg r x _ _ (by simp), Qdi, show [(0 : Fin q)] = List.replicate 1 0 from rfl, Xdf]; grind
def Xfc (r : Fin q) : List (Fin q) → List (Fin q)
  | [] => []
  | [_] => []
  | _ :: b :: t => evF (b :: t) r :: Xfc r (b :: t)
theorem Xdt (r : Fin q) : ∀ (c : List (Fin q)), (Xfc r c).length = c.length - 1
  | [] => rfl
  | [_] => rfl
  | a :: b :: t => by
    have := Xdt r (b :: t)
    rw [Xfc, List.length_cons, this]; simp
theorem Xhl (r x : Fin q) : ∀ (c : List (Fin q)), evF c x - evF c r = (x - r) * evF (Xfc r c) x
  | [] => by simp only [Xfc, Qp7]; grind
  | [a] => by simp only [Xfc, Qdi, Qp7]; grind
  | a :: b :: t => by
    have := Xhl r x (b :: t)
    rw [Xfc, Qdi a (b :: t) x, Qdi a (b :: t) r, Qdi _ (Xfc r (b :: t)) x]
    generalize evF (b :: t) x = u at *
    generalize evF (b :: t) r = v at *
    grind
theorem Xau (r : Fin q) : ∀ (c : List (Fin q)), (∀ a ∈ Xfc r c, a = 0) → evF c r = 0 → ∀ a ∈ c, a = 0
  | [], _, _ => by simp
  | [a], _, h => by
    rw [Qdi, Qp7] at h
    intro b hb
    rw [List.mem_singleton.1 hb]; grind
  | a :: b :: t, hq, h => by
    have h1 : evF (b :: t) r = 0 := hq _ (by simp [Xfc])
    have h2 := Xau r (b :: t) (fun x hx => hq x (by simp [Xfc, hx])) h1
    intro x hx
    rcases List.mem_cons.1 hx with rfl | hx
    · rw [Qdi, h1] at h; grind
    · exact h2 x hx
theorem Xpr {a b : Fin q} (h : a ≠ b) : a - b ≠ 0 := fun e => h (by grind)
theorem Qxs (hP : Prm q) (q2 : q ≤ 1048575) : ∀ (xs c : List (Fin q)), xs.Nodup → c.length = xs.length → (∀ x ∈ xs, evF c x = 0) → ∀ a ∈ c, a = 0
  | [], c, _, hl, _ => by
    have : c = [] := List.length_eq_zero_iff.1 hl
    subst this; simp
  | r :: xs, c, hn, hl, hr => by
    rw [List.nodup_cons] at hn
    have h0 := hr r (by simp)
    refine Xau r c ?_ h0
    refine Qxs hP q2 xs (Xfc r c) hn.2 (by rw [Xdt, hl]; simp) fun x hx => ?_
    have h1 := Xhl r x c
    rw [h0, hr x (by simp [hx])] at h1
    have hne : x - r ≠ 0 := Xpr fun e => hn.1 (e ▸ hx)
    have h2 := (Qno hP q2 hne).1
    grind
theorem Xkf (hP : Prm q) (q2 : q ≤ 1048575) {xs a b : List (Fin q)} (hn : xs.Nodup) (ha : a.length = xs.length) (hb : b.length = xs.length) (h : ∀ x ∈ xs, evF a x = evF b x) : a = b := by
  have h0 := Qxs hP q2 xs (List.zipWith (· - ·) a b) hn (by simp [ha, hb]) fun x hx => by rw [Xib x a b (by omega), h x hx]; grind
  apply List.ext_getElem (by omega)
  intro i h1 h2
  have := h0 ((List.zipWith (· - ·) a b)[i]'(by simp; omega)) (List.getElem_mem _)
  rw [List.getElem_zipWith] at this
  grind
noncomputable def dd (f : Fin q → Fin q) : List (Fin q) → Fin q → Fin q
  | [], x => f x
  | a :: S, x => (dd f S x - dd f S a) * iv (x - a)
end
end Go.Sx.Po

end
