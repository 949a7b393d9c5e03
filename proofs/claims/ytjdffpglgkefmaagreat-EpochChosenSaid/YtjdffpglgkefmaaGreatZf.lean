/- Several texts in one: Cp Al5 Nm Vb Vp Kya Cx Mm Kv Fk Sv Fq Ls Pse Byp Pop Poq Pos Ip Iq Ir Iv Oa. -/
import Derived.Test.YtjdffpglgkefmaaGreatZe
import Derived.Test.YtjdffpglgkefmaaGreatZd
import Derived.Test.YtjdffpglgkefmaaGreatZc
import Derived.KernelRfl
set_option linter.unusedVariables false
set_option linter.unusedSimpArgs false
section
set_option linter.unusedVariables false
set_option linter.unusedSimpArgs false
set_option maxRecDepth 100000
namespace Go.Sx
open Go
def mkS (y : Nat × Nat) : Qae := ⟨(y.1 : Int), (y.2 : Int)⟩
def upF : Nat → Nat → List Int → List Int
  | 0, _, ks => ks
  | f + 1, n, ks => if n = 0 then ks else upF f (n / 2) (Xbd ks (n : Int))
theorem Xgh (a5 : Int) (rec1 : Int × List Int → Option (List Qae × Int)) : ∀ (f fuel n : Nat) (ks : List Int), n < 2 ^ f → f < fuel → Qc2 (Qg6 a5 rec1) fuel ((n : Int), ks) = rec1 (w64 (a5 + 1), upF f n ks)
  | f, 0, n, ks, _, h => by omega
  | 0, fuel + 1, n, ks, hn, _ => by
    rw [Qbm]; simp only [Qg6]
    rw [if_neg (by simp at hn; omega)]; rfl
  | f + 1, fuel + 1, n, ks, hn, hf => by
    rw [Qbm]; simp only [Qg6]
    unfold upF
    by_cases h0 : n = 0
    · rw [if_neg (by omega), if_pos h0]
    · rw [if_pos (by omega), if_neg h0, show shG (un 1#64) = some 1 from by decide, bind_some, Qy6 _ _ (by omega), Nat.pow_one]
      exact Xgh a5 rec1 f fuel (n / 2) _ (by rw [Nat.pow_succ] at hn; omega) (by omega)
theorem Xkm {ks : List Int} {k z : Int} : z ∈ Xbd ks k ↔ z ∈ ks ∨ z = k := by
  unfold Xbd; split
  · rename_i h; exact ⟨.inl, fun h' => h'.elim id (fun e => e ▸ h)⟩
  · simp
theorem Xjm {ks : List Int} {k : Int} : (Xbd ks k).length ≤ ks.length + 1 := by unfold Xbd; split <;> simp
theorem Xl5 : ∀ (f n : Nat) (ks : List Int) (z : Int), n < 2 ^ f → (z ∈ upF f n ks ↔ z ∈ ks ∨ ∃ j, 2 ^ j ≤ n ∧ z = ((n / 2 ^ j : Nat) : Int))
  | 0, n, ks, z, hn => by
    unfold upF
    constructor
    · exact .inl
    · rintro (h | ⟨j, hj, _⟩)
      · exact h
      · have := Nat.two_pow_pos j; simp at hn; omega
  | f + 1, n, ks, z, hn => by
    unfold upF
    by_cases h0 : n = 0
    · rw [if_pos h0]
      constructor
      · exact .inl
      · rintro (h | ⟨j, hj, _⟩)
        · exact h
        · have := Nat.two_pow_pos j; omega
    · rw [if_neg h0, Xl5 f (n / 2) _ z (by rw [Nat.pow_succ] at hn; omega), Xkm]
      have hd2 : ∀ j, n / 2 / 2 ^ j = n / 2 ^ (j + 1) := fun j => by rw [Nat.div_div_eq_div_mul, Nat.pow_succ, Nat.mul_comm 2]
      constructor
      · rintro ((h | h) | ⟨j, h1, h2⟩)
        · exact .inl h
        · exact .inr ⟨0, by simp; omega, by simpa using h⟩
        · exact .inr ⟨j + 1, by rw [Nat.pow_succ]; omega, by rw [h2, hd2]⟩
      · rintro (h | ⟨j, h1, h2⟩)
        · exact .inl (.inl h)
        · cases j with
          | zero => exact .inl (.inr (by simpa using h2))
          | succ j => exact .inr ⟨j, by rw [Nat.pow_succ] at h1; omega, by rw [h2, hd2]⟩
theorem Xla : ∀ (f n : Nat) (ks : List Int), (upF f n ks).length ≤ ks.length + f
  | 0, n, ks => by simp [upF]
  | f + 1, n, ks => by
    unfold upF; split
    · omega
    · have := Xla f (n / 2) (Xbd ks (n : Int)); have := Xjm (ks := ks) (k := (n : Int)); omega
def Qve (d : Nat) (l : List Int) : List Int := l.foldl (fun ks u => upF 8 (2 ^ d + u.toNat) ks) []
theorem Qz0 {d : Nat} (h6 : d ≤ 6) : ∀ (l : List Int) (ks : List Int) (z : Int), (∀ u ∈ l, u.toNat < 2 ^ d) → (z ∈ l.foldl (fun ks u => upF 8 (2 ^ d + u.toNat) ks) ks ↔ z ∈ ks ∨ ∃ u ∈ l, ∃ j, 2 ^ j ≤ 2 ^ d + u.toNat ∧ z = (((2 ^ d + u.toNat) / 2 ^ j : Nat) : Int))
  | [], ks, z, _ => by simp
  | a :: l, ks, z, h => by
    have h64 := Qcq h6
    have ha := h a (by simp)
    rw [List.foldl_cons, Qz0 h6 l _ z (fun u hu => h u (by simp [hu])), Xl5 8 _ _ _ (by omega)]
    constructor
    · rintro ((h1 | h1) | ⟨u, hu, h1⟩)
      · exact .inl h1
      · exact .inr ⟨a, by simp, h1⟩
      · exact .inr ⟨u, by simp [hu], h1⟩
    · rintro (h1 | ⟨u, hu, h1⟩)
      · exact .inl (.inl h1)
      · rcases List.mem_cons.1 hu with rfl | hu
        · exact .inl (.inr h1)
        · exact .inr ⟨u, hu, h1⟩
theorem Xdn {d : Nat} : ∀ (l : List Int) (ks : List Int), (l.foldl (fun ks u => upF 8 (2 ^ d + u.toNat) ks) ks).length ≤ ks.length + 8 * l.length
  | [], ks => by simp
  | a :: l, ks => by
    rw [List.foldl_cons, List.length_cons]
    have := Xdn (d := d) l (upF 8 (2 ^ d + a.toNat) ks)
    have := Xla 8 (2 ^ d + a.toNat) ks
    omega
def Qid (l : List Int) : List Nat := l.map Int.toNat
theorem Qwp {d : Nat} {l : List Int} (h6 : d ≤ 6) (h : Qt3 d l = true) : Rcv d (Qid l) := ⟨h6, fun u hu => by
  obtain ⟨a, ha, rfl⟩ := List.mem_map.1 hu
  obtain ⟨w, hw, hw2⟩ := Xig h ha
  rw [hw]; simpa using hw2⟩
theorem Qlt {d : Nat} {l : List Int} (h6 : d ≤ 6) (h : Qt3 d l = true) (n : Nat) : ((n : Int) ∈ Qve d l) ↔ Qjr d (Qid l) n = true := by
  have hr := Qwp h6 h
  unfold Qve
  rw [Qz0 h6 l [] _ (fun u hu => hr.2 _ (List.mem_map.2 ⟨u, hu, rfl⟩)), Qoy]
  simp only [List.not_mem_nil, false_or]
  constructor
  · rintro ⟨u, hu, j, h1, h2⟩
    refine ⟨u.toNat, List.mem_map.2 ⟨u, hu, rfl⟩, (Qcd (hr.leaf (List.mem_map.2 ⟨u, hu, rfl⟩)).1).2 ⟨j, h1, by omega⟩⟩
  · rintro ⟨u, hu, hb⟩
    obtain ⟨a, ha, rfl⟩ := List.mem_map.1 hu
    obtain ⟨j, h1, h2⟩ := (Qcd (hr.leaf hu).1).1 hb
    exact ⟨a, ha, j, h1, by rw [h2]⟩
theorem Xio {d : Nat} {l : List Int} (h6 : d ≤ 6) (h : Qt3 d l = true) {k : Int} (hk : k ∈ Qve d l) : ∃ n : Nat, k = (n : Int) ∧ Qjr d (Qid l) n = true := by
  have hr := Qwp h6 h
  unfold Qve at hk
  rw [Qz0 h6 l [] _ (fun u hu => hr.2 _ (List.mem_map.2 ⟨u, hu, rfl⟩))] at hk
  simp only [List.not_mem_nil, false_or] at hk
  obtain ⟨u, hu, j, h1, h2⟩ := hk
  exact ⟨_, h2, Qoy.2 ⟨u.toNat, List.mem_map.2 ⟨u, hu, rfl⟩, (Qcd (hr.leaf (List.mem_map.2 ⟨u, hu, rfl⟩)).1).2 ⟨j, h1, rfl⟩⟩⟩
theorem Xc2 {d : Nat} {l : List Int} (h6 : d ≤ 6) (h : Qt3 d l = true) (n : Nat) : decide ((n : Int) ∈ Qve d l) = Qjr d (Qid l) n := by
  cases hb : Qjr d (Qid l) n with
  | true => exact decide_eq_true ((Qlt h6 h n).2 hb)
  | false => exact decide_eq_false fun hm => by rw [(Qlt h6 h n).1 hm] at hb; cases hb
theorem Xaf {s : Qa8} {d : Nat} {l : List Int} (h6 : d ≤ 6) (h : Qt3 d l = true) (acc : List Qae) (nx : List Qae → Option (List Qae × Int)) (k : Int) : ∀ (f fuel v : Nat), 1 ≤ v → Nat.log2 v ≤ d → d - Nat.log2 v < f → f ≤ fuel →
    Qc2 (Qe7 (Qdr s, 0) (Qve d l) acc nx k) fuel (v : Int) = (if (Qew d (Qid l) f v : Int) = k then nx acc else Option.bind (Qe9 (Qdr s) k (Qew d (Qid l) f v : Int)) fun x31 => (if x31 ≠ 0 then (if (Qdr s).kind = 3#8 then Option.bind (Qcm (Qdr s) k) fun x34 => (Qd2 acc nx k (Qew d (Qid l) f v : Int) x31 (!x34)) else Qd2 acc nx k (Qew d (Qid l) f v : Int) x31 false) else Qd2 acc nx k (Qew d (Qid l) f v : Int) x31 false))
  | 0, fuel, v, _, _, hf, _ => by omega
  | f + 1, 0, v, _, _, _, hf => by omega
  | f + 1, fuel + 1, v, hv, hl, hf, hff => by
    have hr := Qwp h6 h
    have h64 := Qcq h6
    have hv128 : v < 128 := by
      have := (Nat.log2_lt (n := v) (k := d + 1) (by omega)).1 (by omega)
      rw [Nat.pow_succ] at this; omega
    rw [Qbm]; simp only [Qe7]
    have e0 : w64 (2 * (v : Int)) = ((2 * v : Nat) : Int) := by rw [Qdt (by omega) (by omega)]; omega
    have e1 : w64 (((2 * v : Nat) : Int) + 1) = ((2 * v + 1 : Nat) : Int) := by rw [Qdt (by omega) (by omega)]; omega
    have e2 : w64 ((v : Int) * 2) = ((2 * v : Nat) : Int) := by rw [Qdt (by omega) (by omega)]; omega
    rw [e0, e1, e2, e1, Xc2 h6 h, Xc2 h6 h]
    rw [show (Qjr d (Qid l) (2 * v) != Qjr d (Qid l) (2 * v + 1)) = brN d (Qid l) v from rfl]
    cases hb : brN d (Qid l) v with
    | false =>
      have hfv : Qew d (Qid l) (f + 1) v = v := by unfold Qew; rw [hb]; rfl
      rw [cond_false, hfv]
    | true =>
      have hfv : Qew d (Qid l) (f + 1) v = Qew d (Qid l) f (nxN d (Qid l) v) := by
        show (if brN d (Qid l) v = true then Qew d (Qid l) f (nxN d (Qid l) v) else v) = _
        rw [hb]; rfl
      rw [cond_true, hfv]
      obtain ⟨hl2, _⟩ := Xdi hr hv hb
      have key : (if ¬ (((2 * v : Nat) : Int) ∈ Qve d l) then Qc2 (Qe7 (Qdr s, 0) (Qve d l) acc nx k) fuel ((2 * v + 1 : Nat) : Int) else Qc2 (Qe7 (Qdr s, 0) (Qve d l) acc nx k) fuel ((2 * v : Nat) : Int)) = Qc2 (Qe7 (Qdr s, 0) (Qve d l) acc nx k) fuel (nxN d (Qid l) v : Int) := by
        unfold nxN
        cases hh : Qjr d (Qid l) (2 * v) with
        | true => rw [if_neg (fun hn => hn ((Qlt h6 h _).2 hh)), if_pos rfl]
        | false => rw [if_pos (fun hm => by rw [(Qlt h6 h _).1 hm] at hh; cases hh), if_neg (by simp)]
      rw [key]
      have hn : 1 ≤ nxN d (Qid l) v ∧ Nat.log2 (nxN d (Qid l) v) = Nat.log2 v + 1 := by
        unfold nxN; split
        · exact ⟨by omega, Qql hv (b := 0) (by omega)⟩
        · exact ⟨by omega, Qql hv (b := 1) (by omega)⟩
      exact Xaf h6 h acc nx k f fuel _ hn.1 (by omega) (by omega) (by omega)
theorem Xk4 {s : Qa8} {d : Nat} {l : List Int} (hv : Qnb s = true) (hd : s.Depth = (d : Int)) (h6 : d ≤ 6) (h : Qt3 d l = true) {v : Nat} (hh : Qjr d (Qid l) v = true) (acc : List Qae) (ha : acc.length ≤ 1000) (nx : List Qae → Option (List Qae × Int)) :
    Qf3 (Qdr s, 0) (Qve d l) (v : Int) nx acc = nx (acc ++ (Xd2 s.Kind d (Qid l) v).map mkS) := by
  have hr := Qwp h6 h
  have h64 := Qcq h6
  obtain ⟨v1, vl, v2⟩ := Qnu hr hh
  have hpow : 2 ^ (d + 1) = 2 * 2 ^ d := by rw [Nat.pow_succ, Nat.mul_comm]
  have hv128 : v < 128 := by omega
  have ht : Qdr s = ⟨s.Kind, (d : Int), (Qxq d : Int)⟩ := by unfold Qdr; rw [hd, Int.toNat_natCast]
  have hkd : (Qdr s).kind = s.Kind := rfl
  have hsib : Qd7 (v : Int) = some ((v ^^^ 1 : Nat) : Int) := by unfold Qd7; rw [Xol hv128]
  have hadd : ∀ (a b : Int) (acc : List Qae), acc.length ≤ 2000 → Qh4 a b acc = some (acc ++ [⟨a, b⟩]) := fun a b acc hl => by
    unfold Qh4; rw [Qi9 (by simp; omega), bind_some]
  unfold Qf3
  simp only [hkd]
  by_cases hk : s.Kind = 1#8
  · rw [if_pos hk]
    unfold Xd2
    rw [if_pos hk]
    by_cases hv1 : v = 1
    · rw [if_neg (by omega), if_neg (by simp [hv1])]
      unfold Qhp; simp
    · rw [if_pos (by omega), hsib, bind_some]
      unfold Qhp
      have hdm := Xc2 h6 h (v ^^^ 1)
      by_cases hs : Qjr d (Qid l) (v ^^^ 1) = true
      · rw [decide_eq_false (p := ¬ (((v ^^^ 1 : Nat) : Int) ∈ Qve d l)) (fun hn => hn ((Qlt h6 h _).2 hs)), cond_false, if_neg (by simp [hs])]; simp
      · have hs' : Qjr d (Qid l) (v ^^^ 1) = false := by simpa using hs
        rw [decide_eq_true (p := ¬ (((v ^^^ 1 : Nat) : Int) ∈ Qve d l)) (fun hm => hs ((Qlt h6 h _).1 hm)), cond_true, hsib, bind_some, hadd _ _ _ (by omega), bind_some, if_pos ⟨hv1, hs'⟩]
        rfl
  · rw [if_neg hk]
    have go : Xbs d (Qid l) v = true → Qf1 (Qdr s, 0) (Qve d l) acc nx (v : Int) false = nx (acc ++ (Xd2 s.Kind d (Qid l) v).map mkS) := by
      intro hhd
      unfold Qf1
      rw [cond_false, Xaf h6 h acc nx (v : Int) 7 Qcw v v1 vl (by omega) (by unfold Qcw; omega)]
      unfold Xd2
      rw [if_neg hk, if_pos hhd]
      obtain ⟨w1, w2, w3, K, w4, w5, w6⟩ := Qoh hr 7 v v1 vl (by omega)
      generalize Qew d (Qid l) 7 v = w at *
      by_cases hw : w = v
      · rw [if_pos (by omega), if_pos hw]; simp
      · rw [if_neg (by omega), if_neg hw]
        have hlw := Qdo w K w4
        rw [← w5] at hlw
        have hK : 1 ≤ K := by
          rcases Nat.eq_zero_or_pos K with h0 | h0
          · subst h0; simp at w5; exact absurd w5.symm hw
          · exact h0
        have hw128 : w < 128 := by
          have := (Nat.log2_lt (n := w) (k := d + 1) (by omega)).1 (by omega)
          omega
        have hcut : Qe9 (Qdr s) (v : Int) (w : Int) = some ((Qt4 d v w : Nat) : Int) := by
          obtain ⟨K', rfl⟩ : ∃ K', K = K' + 1 := ⟨K - 1, by omega⟩
          have := Xlj (kd := s.Kind) (d := d) (m := w) (k := K') hw128 w4 (by omega)
          rw [← w5] at this
          rw [ht, this]
          unfold Qt4
          rw [show Nat.log2 w - Nat.log2 v - 1 = K' from by omega]
        have hspc : Qcm (Qdr s) (v : Int) = some (Qx6 d v) := by rw [ht]; exact Qtv v1 (by omega)
        rw [hcut, bind_some]
        have one : Qd2 acc nx (v : Int) (w : Int) ((Qt4 d v w : Nat) : Int) false = nx (acc ++ [(v, w)].map mkS) := by
          unfold Qd2 Qhh
          rw [cond_false, hadd _ _ _ (by omega), bind_some]; rfl
        have two : Qd2 acc nx (v : Int) (w : Int) ((Qt4 d v w : Nat) : Int) true = nx (acc ++ [(v, Qt4 d v w), (Qt4 d v w, w)].map mkS) := by
          unfold Qd2 Qhh
          rw [cond_true, hadd _ _ _ (by omega), bind_some, hadd _ _ _ (by simp; omega), bind_some, List.append_assoc]; rfl
        have hk3 : s.Kind = 2#8 ∨ s.Kind = 3#8 := by
          obtain ⟨a, b⟩ := Xcw hv
          rcases Qxd a b with e | e | e
          · exact absurd e hk
          · exact .inl e
          · exact .inr e
        unfold Qv1
        by_cases hc0 : Qt4 d v w = 0
        · rw [if_neg (by omega), one]
          have : (decide (s.Kind = 2#8) || Qx6 d v || decide (Xaw d (Qfb (w / 2) (Nat.log2 w - Nat.log2 v - 1)) = 0)) = true := by
            rw [decide_eq_true (p := Xaw _ _ = 0) hc0]; simp
          rw [if_pos this]
        · have hc0' : decide (Xaw d (Qfb (w / 2) (Nat.log2 w - Nat.log2 v - 1)) = 0) = false := decide_eq_false hc0
          rw [if_pos (by omega), hc0', Bool.or_false]
          rcases hk3 with hk3 | hk3
          · rw [if_neg (by rw [hkd, hk3]; decide), one, if_pos (by simp [hk3])]
          · rw [if_pos (show (Qdr s).kind = 3#8 from hk3), hspc, bind_some]
            have : decide (s.Kind = 2#8) = false := by rw [hk3]; decide
            rw [this, Bool.false_or]
            cases Qx6 d v with
            | true => rw [Bool.not_true, one, if_pos rfl]
            | false => rw [Bool.not_false, two, if_neg (by simp)]
    have no : Xbs d (Qid l) v = false → Qf1 (Qdr s, 0) (Qve d l) acc nx (v : Int) true = nx (acc ++ (Xd2 s.Kind d (Qid l) v).map mkS) := by
      intro hhd
      unfold Qf1 Xd2
      rw [cond_true, if_neg hk, if_neg (by rw [hhd]; simp)]; simp
    by_cases hv1 : v = 1
    · rw [if_neg (by omega)]; exact go (by unfold Xbs; simp [hv1])
    · rw [if_pos (by omega), hsib, bind_some]
      by_cases hs : Qjr d (Qid l) (v ^^^ 1) = true
      · rw [decide_eq_false (p := ¬ (((v ^^^ 1 : Nat) : Int) ∈ Qve d l)) (fun hn => hn ((Qlt h6 h _).2 hs))]; exact go (by unfold Xbs; simp [hs])
      · have hs' : Qjr d (Qid l) (v ^^^ 1) = false := by simpa using hs
        rw [decide_eq_true (p := ¬ (((v ^^^ 1 : Nat) : Int) ∈ Qve d l)) (fun hm => hs ((Qlt h6 h _).1 hm))]; exact no (by unfold Xbs; simp [hs', hv1])
theorem Xe2 {d : Nat} {R : List Nat} (h : Rcv d R) {k : BitVec 8} (hne : R ≠ []) {v : Nat} (hv : Qjr d R v = true) : (Qsn k d R).filter (fun y => decide (Qwx k d R y = v)) = Xd2 k d R v := by
  refine Xgx ?_ ?_ fun y => ?_
  · exact List.Pairwise.filter _ Xc7
  · unfold Xd2 Asc
    split
    · split <;> simp
    · split
      · split
        · simp
        · split
          · simp
          · rename_i h2 h3 h4 h5
            obtain ⟨v1, vl, v2⟩ := Qnu h hv
            obtain ⟨w1, w2, w3, K, w4, w5, w6⟩ := Qoh h 7 v v1 vl (by have := h.1; omega)
            obtain ⟨j, j1, j2, j3⟩ := Qw3 (k := k) (d := d) (.inr trivial) w4 w5 v1 (by simpa using h5)
            simp only [List.pairwise_cons, List.mem_singleton, List.not_mem_nil, false_imp_iff, implies_true, List.Pairwise.nil, and_true, forall_eq]
            have hj2 : 2 ^ j ≤ Qew d R 7 v := Nat.le_trans (Nat.pow_le_pow_right (by omega) (by omega)) w4
            have hl1 := Qdo _ _ w4
            have hl2 := Qdo _ _ hj2
            rw [← w5] at hl1
            rw [← j3] at hl2
            rcases Nat.lt_or_ge v (Qt4 d v (Qew d R 7 v)) with hlt | hge
            · exact hlt
            · have := Qvd hge; omega
      · simp
  · rw [List.mem_filter, decide_eq_true_eq]; exact Xc0 h hne hv y
theorem Xfu {k : BitVec 8} {d : Nat} {R : List Nat} (h6 : d ≤ 6) : (Qsn k d R).length ≤ 127 := by
  have h64 := Qcq h6
  have hpow : 2 ^ (d + 1) = 2 * 2 ^ d := by rw [Nat.pow_succ, Nat.mul_comm]
  refine Nat.le_trans (List.length_filterMap_le _ _) ?_
  simp [Xp3]; omega
theorem Xax {α : Type} (p q : α → Bool) (hpq : ∀ a, p a = true → q a = false) (l : List α) : (l.filter fun a => p a || q a).Perm (l.filter p ++ l.filter q) := by
  induction l with
  | nil => simp
  | cons a l ih =>
    cases hp : p a with
    | true =>
      have hq := hpq a hp
      simp only [List.filter_cons, hp, hq, Bool.true_or, if_true, Bool.false_eq_true, if_false, List.cons_append]
      exact ih.cons a
    | false =>
      cases hq : q a with
      | true =>
        simp only [List.filter_cons, hp, hq, Bool.or_true, if_true, Bool.false_eq_true, if_false]
        exact (ih.cons a).trans List.perm_middle.symm
      | false =>
        simp only [List.filter_cons, hp, hq, Bool.or_false, Bool.false_eq_true, if_false]
        exact ih
theorem Xn6 {k : BitVec 8} {d : Nat} {R : List Nat} (h6 : d ≤ 6) {acc : List Qae} (h : acc.Perm ((Qsn k d R).map mkS)) : Xcg Qae.Node acc = some ((Qsn k d R).map mkS) := by
  have h64 := Qcq h6
  have hpow : 2 ^ (d + 1) = 2 * 2 ^ d := by rw [Nat.pow_succ, Nat.mul_comm]
  have hasc : ((Qsn k d R).map mkS).Pairwise fun a b => a.Node < b.Node := by
    rw [List.pairwise_map]
    exact (Xc7 (k := k) (d := d) (R := R)).imp (fun {a b} hab => by unfold mkS; simp only; omega)
  have hnd : (((Qsn k d R).map mkS).map Qae.Node).Nodup := by
    unfold List.Nodup
    rw [List.pairwise_map]
    exact hasc.imp (by omega)
  unfold Xcg
  rw [if_pos]
  · congr 1
    have hs := List.pairwise_mergeSort (le := fun a b : Qae => decide (a.Node ≤ b.Node)) (fun a b c h1 h2 => by simp at *; omega) (fun a b => by simp; omega) acc
    have hp : (acc.mergeSort fun a b => decide (a.Node ≤ b.Node)).Perm ((Qsn k d R).map mkS) := (List.mergeSort_perm acc _).trans h
    have key : ∀ (l m : List Qae), l.Perm m → (l.Pairwise fun a b => decide (a.Node ≤ b.Node) = true) → (m.Pairwise fun a b => a.Node < b.Node) → l = m := by
      intro l m hlm hl hm
      have hlnd : (l.map Qae.Node).Nodup := by
        have : (m.map Qae.Node).Nodup := by unfold List.Nodup; rw [List.pairwise_map]; exact hm.imp (by omega)
        exact (hlm.map _).nodup_iff.2 this
      have hl' : l.Pairwise fun a b => a.Node < b.Node := by
        unfold List.Nodup at hlnd
        rw [List.pairwise_map] at hlnd
        exact (hl.and hlnd).imp (fun {a b} hab => by have := of_decide_eq_true hab.1; have := hab.2; omega)
      clear hl hlnd
      induction m generalizing l with
      | nil => exact hlm.eq_nil
      | cons b m ih =>
        cases l with
        | nil => exact absurd hlm.symm.eq_nil (by simp)
        | cons a l =>
          have ha := List.pairwise_cons.1 hl'
          have hb := List.pairwise_cons.1 hm
          have hab : a = b := by
            rcases List.mem_cons.1 (hlm.subset (List.mem_cons_self)) with e | e
            · exact e
            · rcases List.mem_cons.1 (hlm.symm.subset (List.mem_cons_self)) with e2 | e2
              · exact e2.symm
              · have := ha.1 b e2; have := hb.1 a e; omega
          subst hab
          rw [ih l (List.Perm.cons_inv hlm) hb.2 ha.2]
    exact key _ _ hp hs hasc
  · refine ⟨fun x hx => ?_, (h.map _).nodup_iff.2 hnd, ?_⟩
    · obtain ⟨y, hy, rfl⟩ := List.mem_map.1 (h.subset hx)
      have := (Qtk.1 hy).1
      unfold mkS; simp only; omega
    · rw [h.length_eq, List.length_map]; have := Xfu (k := k) (R := R) h6; omega
theorem Xi9 {s : Qa8} {d : Nat} {l : List Int} (hv : Qnb s = true) (hd : s.Depth = (d : Int)) (h6 : d ≤ 6) (h : Qt3 d l = true) (hne : l ≠ []) (hl : l.length * 8 ≤ 140737488355328) :
    Xc1 (Qf3 (Qdr s, 0) (Qve d l)) Qgc Qcw (Qve d l) [] = some ((Qsn s.Kind d (Qid l)).map mkS, 0) := by
  have hr := Qwp h6 h
  have hne' : Qid l ≠ [] := by unfold Qid; simpa using hne
  refine Xck (fun rem acc => (∀ k ∈ rem, k ∈ Qve d l) ∧ acc.Perm (((Qsn s.Kind d (Qid l)).filter fun y => decide (((Qwx s.Kind d (Qid l) y : Nat) : Int) ∉ rem)).map mkS)) ?_ ?_ Qcw (Qve d l) [] ?_ ⟨fun _ hk => hk, ?_⟩
  · rintro acc ⟨_, hp⟩
    have : ((Qsn s.Kind d (Qid l)).filter fun y => decide (((Qwx s.Kind d (Qid l) y : Nat) : Int) ∉ ([] : List Int))) = Qsn s.Kind d (Qid l) := List.filter_eq_self.2 (by simp)
    rw [this] at hp
    unfold Qgc
    rw [Xn6 h6 hp, bind_some]
  · rintro rem acc k hk ⟨hsub, hp⟩
    obtain ⟨v, rfl, hvh⟩ := Xio h6 h (hsub k hk)
    have hal : acc.length ≤ 1000 := by
      rw [hp.length_eq, List.length_map]
      have := Xfu (k := s.Kind) (R := Qid l) h6
      have := List.length_filter_le (fun y => decide (((Qwx s.Kind d (Qid l) y : Nat) : Int) ∉ rem)) (Qsn s.Kind d (Qid l))
      omega
    refine ⟨acc ++ (Xd2 s.Kind d (Qid l) v).map mkS, ⟨fun j hj => hsub j (List.mem_filter.1 hj).1, ?_⟩, fun nx => Xk4 hv hd h6 h hvh acc hal nx⟩
    have hsp := Xax (fun y => decide (((Qwx s.Kind d (Qid l) y : Nat) : Int) ∉ rem)) (fun y => decide (Qwx s.Kind d (Qid l) y = v)) (fun y hy => by
      simp only [decide_eq_true_eq, decide_eq_false_iff_not] at hy ⊢
      rintro rfl; exact hy hk) (Qsn s.Kind d (Qid l))
    rw [Xe2 hr hne' hvh] at hsp
    have hcg : ((Qsn s.Kind d (Qid l)).filter fun y => decide (((Qwx s.Kind d (Qid l) y : Nat) : Int) ∉ rem.filter (· ≠ (v : Int)))) = ((Qsn s.Kind d (Qid l)).filter fun y => decide (((Qwx s.Kind d (Qid l) y : Nat) : Int) ∉ rem) || decide (Qwx s.Kind d (Qid l) y = v)) := by
      apply List.filter_congr
      intro y _
      rw [Bool.eq_iff_iff]
      simp only [Bool.or_eq_true, decide_eq_true_eq, List.mem_filter, not_and, ne_eq, Decidable.not_not, decide_not, Bool.not_eq_true', decide_eq_false_iff_not]
      constructor
      · intro hh
        by_cases hm : ((Qwx s.Kind d (Qid l) y : Nat) : Int) ∈ rem
        · have := hh hm; right; omega
        · exact .inl hm
      · rintro (hh | hh) hm
        · exact absurd hm hh
        · rw [hh]
    rw [hcg]
    refine List.Perm.trans ?_ (hsp.map mkS).symm
    rw [List.map_append]
    exact hp.append_right _
  · have := Xdn (d := d) l []
    unfold Qve Qcw
    simp only [List.length_nil, Nat.zero_add] at this
    omega
  · have : ((Qsn s.Kind d (Qid l)).filter fun y => decide (((Qwx s.Kind d (Qid l) y : Nat) : Int) ∉ Qve d l)) = [] := by
      rw [List.filter_eq_nil_iff]
      intro y hy
      simp only [decide_eq_true_eq]
      exact fun hn => hn ((Qlt h6 h _).2 (Xb3 hr hne' hy))
    rw [this]; simp
def Xky (s : Qa8) (l : List Int) : List Qae × Int :=
  if Qnb s then (if Qt3 s.Depth.toNat l then ((if l = [] then [⟨1, 0⟩] else (Qsn s.Kind s.Depth.toNat (Qid l)).map mkS), 0) else ([], 2)) else ([], 30)
theorem Qwq (s : Qa8) (l : List Int) (hl : l.length * 8 ≤ 140737488355328) : Qjc s l = some (Xky s l) := by
  unfold Qjc Xky
  rw [Xhr, bind_some]
  cases hv : Qnb s with
  | false => rfl
  | true =>
    obtain ⟨d, hd, h6⟩ := Qo5 hv
    have ht : Qdr s = ⟨s.Kind, (d : Int), (Qxq d : Int)⟩ := by unfold Qdr; rw [hd, Int.toNat_natCast]
    simp only [if_true]
    rw [if_neg (by simp), hd, Int.toNat_natCast]
    have e0 : Qgm (Qdr s) l = some (Qt3 d l) := by rw [ht]; exact Xmm h6 l (by omega)
    rw [e0, bind_some]
    cases hb : Qt3 d l with
    | false => rfl
    | true =>
      simp only [Bool.not_true, cond_false, if_true]
      by_cases hne : l = []
      · subst hne; rfl
      · rw [if_neg (by intro h0; apply hne; exact List.eq_nil_of_length_eq_zero (by omega)), if_neg hne]
        have := Qvb l (Qg7 l (Qdr s, 0)) (fun j (ks : List Int) => ((j : Int), ks)) (fun u nx ks => nx (upF 8 (2 ^ d + u.toNat) ks)) (fun ks => Xc1 (Qf3 (Qdr s, 0) ks) Qgc Qcw ks [])
          (fun rec j hj ks => by
            obtain ⟨u, hu, hu2⟩ := Xig hb (List.getElem_mem hj)
            have h64 := Qcq h6
            simp only [Qg7]
            have hlf : Qfi (Qdr s) (u : Int) = some ((2 ^ d + u : Nat) : Int) := by rw [ht]; exact Xnm h6 (by omega)
            rw [if_pos (by omega), Qc6 hj, bind_some, hu, hlf, bind_some, Xgh _ _ 8 Qcw _ _ (by omega) (by unfold Qcw; omega), Qes (by omega), Int.toNat_natCast])
          (fun rec ks => by simp only [Qg7]; rw [if_neg (by omega)]) (f := Qcw) (Qdv (by omega)) ([] : List Int)
        rw [show ((0 : Nat) : Int) = 0 from rfl] at this
        rw [this, Xcx (fun ks u => upF 8 (2 ^ d + u.toNat) ks) _ _ (fun _ _ => True) l 0 [] (fun _ _ _ _ _ _ => rfl) (fun _ _ _ _ _ => trivial) trivial]
        exact Xi9 hv hd h6 hb hne hl
end Go.Sx

end
section
set_option linter.unusedVariables false
set_option linter.unusedSimpArgs false
set_option maxRecDepth 100000
namespace Go.Sx
open Go
theorem Xrk : Xky ⟨2#8, 2, 0, ⟨0#64, 0#64, 0#64⟩⟩ [2] = ([⟨1, 6⟩], 0) := by decide +kernel
theorem Xv6 : Qjc ⟨2#8, 2, 0, ⟨0#64, 0#64, 0#64⟩⟩ [2] = some ([⟨1, 6⟩], 0) := (Qwq _ _ (by decide)).trans (congrArg some Xrk)
noncomputable def Xpd : W2 := drv (72623842526232576#64, 0#64) (un8 50#8) (wd 0)
noncomputable def Xpo : Qa9 := match Qjm (72623842526232576#64, 0#64) ⟨2#8, 2, 0, ⟨0#64, 0#64, 0#64⟩⟩ [⟨1, 6⟩] Xpd with
  | some x => x.1
  | none => default
noncomputable def pk5 : Qak := match Qjy Xpd (Qak.mk 1#8 0 Xpo 0#8 0#64 [] k0) with
  | some m => Qak.mk 1#8 0 Xpo 0#8 0#64 [] m
  | none => default
theorem Xmv : Option.bind (Qjm (72623842526232576#64, 0#64) ⟨2#8, 2, 0, ⟨0#64, 0#64, 0#64⟩⟩ [⟨1, 6⟩] Xpd) (fun x2 => some (x2.1, x2.2)) = some (Xpo, 0) := by kernel_rfl
theorem Xuw : Qha (72623842526232576#64, 0#64) ⟨2#8, 2, 0, ⟨0#64, 0#64, 0#64⟩⟩ [2] Xpd (wd 0) = some (Xpo, 0) := by
  unfold Qha
  rw [Xv6, bind_some, if_neg (by decide)]
  exact Xmv
theorem ck5 : Qer ⟨2#8, 2, 0, ⟨0#64, 0#64, 0#64⟩⟩ = some 0 := by kernel_rfl
theorem Xtk : Qde 0 = some true := by kernel_rfl
theorem Xth : Qjq (72623842526232576#64, 0#64) ⟨2#8, 2, 0, ⟨0#64, 0#64, 0#64⟩⟩ 0 [2] = some (Xpo, 0) := by
  unfold Qjq
  rw [if_neg (by decide), show decide ((5 : Int) ≤ un8 (2#8)) = false from by decide]
  unfold Qh5 Qg2
  rw [cond_false, if_pos (by decide), ck5, bind_some, if_neg (by decide), Xtk, bind_some, Bool.not_true, cond_false, bind_some]
  show Option.bind (Qha _ _ _ Xpd _) _ = _
  rw [Xuw, bind_some]
theorem Xts : Qo8 (72623842526232576#64, 0#64) ⟨2#8, 2, 0, ⟨0#64, 0#64, 0#64⟩⟩ 0 [2] = some (pk5, 0) := by
  unfold Qo8
  rw [Xth, bind_some, if_neg (by decide)]
  kernel_rfl
theorem Xiw : Qku 0 pk5 = some true := by kernel_rfl
theorem Xj2 : Qcc false = some true := by
  unfold Qcc Qhm
  rw [cond_false, bind_some, Xts, bind_some]
  exact Xiw
theorem Xqp : Qml = some true := by
  have h1 : Qml = Qcc false := by kernel_rfl
  rw [h1, Xj2]
end Go.Sx

end
section
set_option linter.unusedVariables false
set_option linter.unusedSimpArgs false
set_option maxRecDepth 100000
namespace Go.Sx.Po
open Go
abbrev bn (n : Nat) : BitVec 64 := BitVec.ofNat 64 n
theorem Xos (x : BitVec 64) : ∃ n, n < 18446744073709551616 ∧ x = bn n := ⟨x.toNat, x.isLt, by simp [bn]⟩
theorem Qg3 {n : Nat} (h : n < 18446744073709551616) : (bn n).toNat = n := by rw [bn, BitVec.toNat_ofNat]; exact Nat.mod_eq_of_lt h
theorem Qqf {a b : Nat} (ha : a < 18446744073709551616) (hb : b < 18446744073709551616) : bn a = bn b ↔ a = b := by
  constructor
  · intro h; rw [← Qg3 ha, ← Qg3 hb, h]
  · intro h; rw [h]
theorem Ql5 {a b : Nat} (ha : a < 18446744073709551616) (hb : b < 18446744073709551616) : bn a < bn b ↔ a < b := by rw [BitVec.lt_def, Qg3 ha, Qg3 hb]
theorem Qsk {a b : Nat} (ha : a < 18446744073709551616) (hb : b < 18446744073709551616) : bn a ≤ bn b ↔ a ≤ b := by rw [BitVec.le_def, Qg3 ha, Qg3 hb]
theorem Qpk (a b : Nat) : bn a * bn b = bn (a * b) := by apply BitVec.eq_of_toNat_eq; simp [bn]
theorem Qud (a b : Nat) : bn a + bn b = bn (a + b) := by apply BitVec.eq_of_toNat_eq; simp [bn]
theorem Qzh {a b : Nat} (ha : a < 18446744073709551616) (h : b ≤ a) : bn a - bn b = bn (a - b) := by
  apply BitVec.eq_of_toNat_eq
  rw [BitVec.toNat_sub, Qg3 ha, Qg3 (by omega), Qg3 (by omega)]; omega
theorem Xqk (n : Nat) (h : n < 18446744073709551616) : bn n >>> 1 = bn (n / 2) := by
  apply BitVec.eq_of_toNat_eq
  rw [BitVec.toNat_ushiftRight, Qg3 h, Qg3 (by omega), Nat.shiftRight_eq_div_pow]
theorem Xnq (n : Nat) (h : n < 18446744073709551616) : bn n &&& 1#64 = bn (n % 2) := by
  apply BitVec.eq_of_toNat_eq
  rw [BitVec.toNat_and, Qg3 h, Qg3 (n := n % 2) (by omega)]
  exact Nat.and_one_is_mod n
theorem Qff {a m : Nat} (ha : a < 18446744073709551616) (hm : 0 < m) (hm2 : m < 18446744073709551616) : Qqv (bn a) (bn m) = some (bn (a % m)) := by
  have := Nat.mod_lt a hm
  unfold Qqv
  rw [if_neg (fun h => by have := (Qqf (b := 0) hm2 (by omega)).1 h; omega)]
  congr 1
  apply BitVec.eq_of_toNat_eq
  rw [BitVec.toNat_umod, Qg3 ha, Qg3 hm2, Qg3 (by omega)]
theorem Xfr {a m : Nat} (ha : a < 18446744073709551616) (hm : 0 < m) (hm2 : m < 18446744073709551616) : Xt0 (bn a) (bn m) = some (bn (a / m)) := by
  have := Nat.div_le_self a m
  unfold Xt0
  rw [if_neg (fun h => by have := (Qqf (b := 0) hm2 (by omega)).1 h; omega)]
  congr 1
  apply BitVec.eq_of_toNat_eq
  rw [BitVec.toNat_udiv, Qg3 ha, Qg3 hm2, Qg3 (by omega)]
def Prm (n : Nat) : Prop := 2 ≤ n ∧ ∀ e, 2 ≤ e → e * e ≤ n → n % e ≠ 0
theorem Qtd {n : Nat} (hn : n ≤ 1048575) (T : Bool) (F : (BitVec 64 → Option Bool) → BitVec 64 → Option Bool) (hF : ∀ rec a, F rec a = if a * a ≤ bn n then Option.bind (Qqv (bn n) a) fun x4 => if x4 = 0#64 then some false else rec (a + 1#64) else some T) :
    ∀ (m d f : Nat), d + m = 1025 → m < f → 2 ≤ d → ∃ b, Qc2 F f (bn d) = some b ∧ (b = true ↔ T = true ∧ ∀ e, d ≤ e → e * e ≤ n → n % e ≠ 0)
  | m, d, 0, _, h, _ => by omega
  | 0, d, f + 1, hd, _, h2 => by
    obtain rfl : d = 1025 := by omega
    rw [Qbm, hF, Qpk, if_neg (by rw [Qsk (by omega) (by omega)]; omega)]
    refine ⟨T, rfl, fun h => ⟨h, fun e he hen => ?_⟩, fun h => h.1⟩
    have := Nat.mul_le_mul he he
    omega
  | m + 1, d, f + 1, hd, hf, h2 => by
    have hdd : d * d ≤ 1025 * 1025 := Nat.mul_le_mul (by omega) (by omega)
    rw [Qbm, hF, Qpk]
    by_cases hle : d * d ≤ n
    · rw [if_pos ((Qsk (by omega) (by omega)).2 hle), Qff (by omega) (by omega) (by omega), bind_some]
      by_cases hz : n % d = 0
      · rw [hz, if_pos rfl]
        exact ⟨false, rfl, (fun h => by cases h), fun h => absurd hz (h.2 d (Nat.le_refl _) hle)⟩
      · have hzn : ¬ bn (n % d) = 0#64 := fun h => hz ((Qqf (b := 0) (by have := Nat.mod_lt n (show 0 < d by omega); omega) (by omega)).1 h)
        rw [if_neg hzn, show (1#64) = bn 1 from rfl, Qud]
        obtain ⟨b, e1, e2⟩ := Qtd hn T F hF m (d + 1) f (by omega) (by omega) (by omega)
        refine ⟨b, e1, ?_⟩
        rw [e2]
        refine and_congr_right fun _ => ⟨fun h e he hen => ?_, fun h e he => h e (by omega)⟩
        rcases Nat.lt_or_ge d e with h' | h'
        · exact h e (by omega) hen
        · obtain rfl : e = d := by omega
          exact hz
    · rw [if_neg (fun h => hle ((Qsk (by omega) (by omega)).1 h))]
      refine ⟨T, rfl, fun h => ⟨h, fun e he hen => ?_⟩, fun h => h.1⟩
      have := Nat.mul_le_mul he he
      omega
theorem Xe1 {n : Nat} (h64 : n < 18446744073709551616) : ∃ b, Qje (bn n) = some b ∧ (b = true ↔ n ≤ 1048575 ∧ Prm n) := by
  unfold Qje Qie
  by_cases h2 : n < 2
  · rw [if_pos ((Ql5 h64 (b := 2) (by omega)).2 h2)]
    exact ⟨false, rfl, (fun h => by cases h), fun h => by have := h.2.1; omega⟩
  · rw [if_neg (fun h => h2 ((Ql5 h64 (b := 2) (by omega)).1 h))]
    by_cases hg : 1048575 < n
    · rw [decide_eq_true ((Ql5 (a := 1048575) (by omega) h64).2 hg)]
      exact ⟨false, rfl, (fun h => by cases h), fun h => by omega⟩
    · rw [decide_eq_false (fun h => hg ((Ql5 (a := 1048575) (by omega) h64).1 h)), cond_false]
      obtain ⟨b, e1, e2⟩ := Qtd (n := n) (by omega) true (Qhx (bn n)) (fun rec a => rfl) 1023 2 Qcw (by omega) (Qdv (by omega)) (by omega)
      refine ⟨b, e1, ?_⟩
      rw [e2]; unfold Prm
      exact ⟨fun h => ⟨by omega, by omega, h.2⟩, fun h => ⟨rfl, h.2.2⟩⟩
theorem Qqs {n : Nat} (hn : n ≤ 1048575) : ∃ b, Qp6 (bn n) = some b ∧ (b = true ↔ Prm n) := by
  obtain ⟨b, e1, e2⟩ := Qtd (n := n) hn (decide (2#64 ≤ bn n)) (Qpe (bn n)) (fun rec a => rfl) 1023 2 Qcw (by omega) (Qdv (by omega)) (by omega)
  refine ⟨b, e1, ?_⟩
  rw [e2, decide_eq_true_eq, show (2#64) = bn 2 from rfl, Qsk (by omega) (by omega)]; rfl
theorem Xjs (x n : Nat) : x ^ n = x ^ (n % 2) * (x * x) ^ (n / 2) := by
  have : x ^ n = x ^ (n % 2 + 2 * (n / 2)) := by congr 1; omega
  rw [this, Nat.pow_add, Nat.pow_mul, Nat.pow_two]
theorem Xcp {m x n o : Nat} : o * x ^ n % m = (if n % 2 = 1 then o * x % m else o) * (x * x % m) ^ (n / 2) % m := by
  rw [Xjs x n]
  rcases Nat.mod_two_eq_zero_or_one n with h | h
  · rw [h, if_neg (by omega), Nat.pow_zero, Nat.one_mul, Nat.mul_mod o ((x * x % m) ^ (n / 2)), ← Nat.pow_mod, ← Nat.mul_mod]
  · rw [h, if_pos rfl, Nat.pow_one, Nat.mul_mod (o * x % m), Nat.mod_mod, ← Nat.pow_mod, ← Nat.mul_mod, Nat.mul_assoc]
theorem Qta {m : Nat} (hm : 0 < m) (hm2 : m < 4294967296) : ∀ (k n x o f : Nat), n < 2 ^ k → k ≤ 64 → k < f → x < m → o < m → Qc2 (Qfe (bn m)) f (bn x, bn n, bn o) = some (bn (o * x ^ n % m))
  | k, n, x, o, 0, _, _, h, _, _ => by omega
  | 0, n, x, o, f + 1, hn, _, _, hx, ho => by
    obtain rfl : n = 0 := by simp at hn; exact hn
    rw [Qbm]; simp only [Qfe]
    rw [if_neg (by decide), Nat.pow_zero, Nat.mul_one, Nat.mod_eq_of_lt ho]
  | k + 1, n, x, o, f + 1, hn, hk, hf, hx, ho => by
    have hn64 : n < 18446744073709551616 := Nat.lt_of_lt_of_le hn (Nat.le_trans (Nat.pow_le_pow_right (by omega) hk) (by decide))
    have hxx : x * x < 18446744073709551616 := Nat.lt_of_le_of_lt (Nat.mul_le_mul (Nat.le_of_lt hx) (Nat.le_of_lt hx)) (by have := Nat.mul_lt_mul'' hm2 hm2; omega)
    have hox : o * x < 18446744073709551616 := Nat.lt_of_le_of_lt (Nat.mul_le_mul (Nat.le_of_lt ho) (Nat.le_of_lt hx)) (by have := Nat.mul_lt_mul'' hm2 hm2; omega)
    rw [Qbm]; simp only [Qfe]
    by_cases h0 : n = 0
    · subst h0
      rw [if_neg (by decide), Nat.pow_zero, Nat.mul_one, Nat.mod_eq_of_lt ho]
    · rw [if_pos ((Ql5 (a := 0) (by omega) hn64).2 (by omega)), Xnq n hn64, show shG (un 1#64) = some 1 from by decide, Qpk, Qpk, Qff hxx hm (by omega), Qff hox hm (by omega), Xcp]
      simp only [bind_some]
      rw [Xqk n hn64]
      have hlt : n / 2 < 2 ^ k := by rw [Nat.pow_succ] at hn; omega
      have h1 := Nat.mod_lt (x * x) hm
      have h2 := Nat.mod_lt (o * x) hm
      by_cases hodd : n % 2 = 1
      · rw [if_pos (by rw [hodd]), if_pos hodd]
        exact Qta hm hm2 k (n / 2) _ _ f hlt (by omega) (by omega) h1 h2
      · rw [if_neg (fun h => hodd ((Qqf (b := 1) (by omega) (by omega)).1 h)), if_neg hodd]
        exact Qta hm hm2 k (n / 2) _ _ f hlt (by omega) (by omega) h1 ho
theorem Xcr {b n m : Nat} (hb : b < 18446744073709551616) (hn : n < 18446744073709551616) (hm : 0 < m) (hm2 : m < 4294967296) : Qjh (bn b) (bn n) (bn m) = some (bn (b ^ n % m)) := by
  unfold Qjh
  rw [show (1#64) = bn 1 from rfl, Qff (by omega) hm (by omega), bind_some, Qff hb hm (by omega), bind_some, Qta hm hm2 64 n _ _ Qcw (by omega) (by omega) (Qdv (by omega)) (Nat.mod_lt _ hm) (Nat.mod_lt _ hm), Nat.mod_mul_mod, Nat.one_mul, ← Nat.pow_mod]
theorem Qs0 {m : Nat} (hm : 0 < m) (hm2 : m < 4294967296) : ∀ (k n x o f : Nat), n < 2 ^ k → k ≤ 64 → k < f → x < m → o < m → Qc2 (Ql2 (bn m)) f (bn n, bn o, bn x) = some (bn (o * x ^ n % m))
  | k, n, x, o, 0, _, _, h, _, _ => by omega
  | 0, n, x, o, f + 1, hn, _, _, hx, ho => by
    obtain rfl : n = 0 := by simp at hn; exact hn
    rw [Qbm]; simp only [Ql2]
    rw [if_neg (by decide), Nat.pow_zero, Nat.mul_one, Nat.mod_eq_of_lt ho]
  | k + 1, n, x, o, f + 1, hn, hk, hf, hx, ho => by
    have hn64 : n < 18446744073709551616 := Nat.lt_of_lt_of_le hn (Nat.le_trans (Nat.pow_le_pow_right (by omega) hk) (by decide))
    have hxx : x * x < 18446744073709551616 := Nat.lt_of_le_of_lt (Nat.mul_le_mul (Nat.le_of_lt hx) (Nat.le_of_lt hx)) (by have := Nat.mul_lt_mul'' hm2 hm2; omega)
    have hox : o * x < 18446744073709551616 := Nat.lt_of_le_of_lt (Nat.mul_le_mul (Nat.le_of_lt ho) (Nat.le_of_lt hx)) (by have := Nat.mul_lt_mul'' hm2 hm2; omega)
    rw [Qbm]; simp only [Ql2]
    by_cases h0 : n = 0
    · subst h0
      rw [if_neg (by decide), Nat.pow_zero, Nat.mul_one, Nat.mod_eq_of_lt ho]
    · unfold Qnm
      rw [if_pos ((Ql5 (a := 0) (by omega) hn64).2 (by omega)), show (2#64) = bn 2 from rfl, Qff hn64 (by omega) (by omega), Qpk, Qpk, Qff hxx hm (by omega), Qff hox hm (by omega), Xfr hn64 (by omega) (by omega), Xcp]
      simp only [bind_some]
      have hlt : n / 2 < 2 ^ k := by rw [Nat.pow_succ] at hn; omega
      have h1 := Nat.mod_lt (x * x) hm
      have h2 := Nat.mod_lt (o * x) hm
      by_cases hodd : n % 2 = 1
      · rw [if_pos (by rw [hodd]), if_pos hodd]
        exact Qs0 hm hm2 k (n / 2) _ _ f hlt (by omega) (by omega) h1 h2
      · rw [if_neg (fun h => hodd ((Qqf (b := 1) (by omega) (by omega)).1 h)), if_neg hodd]
        exact Qs0 hm hm2 k (n / 2) _ _ f hlt (by omega) (by omega) h1 ho
theorem Xfb {b n m : Nat} (hb : b < 18446744073709551616) (hn : n < 18446744073709551616) (hm : 0 < m) (hm2 : m < 4294967296) : Qs5 (bn b) (bn n) (bn m) = some (bn (b ^ n % m)) := by
  unfold Qs5
  rw [show (1#64) = bn 1 from rfl, Qff (by omega) hm (by omega), bind_some, Qff hb hm (by omega), bind_some, Qs0 hm hm2 64 n _ _ Qcw (by omega) (by omega) (Qdv (by omega)) (Nat.mod_lt _ hm) (Nat.mod_lt _ hm), Nat.mod_mul_mod, Nat.one_mul, ← Nat.pow_mod]
end Go.Sx.Po

end
section
set_option linter.unusedVariables false
set_option linter.unusedSimpArgs false
set_option maxRecDepth 100000
namespace Go.Sx.Po
open Go
theorem Qpo {τ R : Type} (F : (τ → Option R) → τ → Option R) (I : Nat → τ → Prop) (n : Nat) (r : Option R) (hn : n < 9223372036854775808) {s : τ} (h0 : I 0 s) (hs : ∀ j s, j < n → I j s → ∃ s', I (j + 1) s' ∧ ∀ rec, F rec s = rec s') (he : ∀ s, I n s → ∀ rec, F rec s = r) : Qc2 F Qcw s = r :=
  Qyz F I n r hs he n 0 Qcw s (by omega) (Qdv hn) h0
def Qur (l : List (BitVec 8)) : BitVec 64 := l.foldl (fun n c => 256#64 * n + c.setWidth 64) 0#64
theorem Xa5 (a : BitVec 64) (c : BitVec 8) : (a <<< 8) ||| (c.setWidth 64) = 256#64 * a + c.setWidth 64 := by
  have e1 : 256#64 * a = a <<< 8 := by
    apply BitVec.eq_of_toNat_eq
    rw [BitVec.toNat_mul, BitVec.toNat_shiftLeft, Nat.shiftLeft_eq, Nat.mul_comm]; rfl
  rw [e1]
  symm
  apply BitVec.add_eq_or_of_and_eq_zero
  apply BitVec.eq_of_getLsbD_eq
  intro j hj
  rw [BitVec.getLsbD_and, BitVec.getLsbD_shiftLeft, BitVec.getLsbD_setWidth, BitVec.getLsbD_zero]
  by_cases h : j < 8
  · simp [h]
  · simp [BitVec.getLsbD_of_ge c j (by omega)]
theorem Qob (l : List (BitVec 8)) (c : BitVec 8) : Qur (l ++ [c]) = 256#64 * Qur l + c.setWidth 64 := by simp [Qur]
theorem Xmk (x : BitVec 64) (s : Nat) : 256#64 * (x >>> (s + 8)) + ((x >>> s).setWidth 8).setWidth 64 = x >>> s := by
  rw [← Xa5]
  apply BitVec.eq_of_getLsbD_eq
  intro i hi
  simp only [BitVec.getLsbD_or, BitVec.getLsbD_shiftLeft, BitVec.getLsbD_ushiftRight, BitVec.getLsbD_setWidth]
  by_cases h : i < 8
  · simp [h, hi]
  · simp [h, hi, show s + 8 + (i - 8) = s + i from by omega]
theorem Xby (x : BitVec 64) : Qur (w8 x) = x := by
  have h0 : Qur [] = x >>> 64 := by
    apply BitVec.eq_of_getLsbD_eq
    intro i hi
    rw [BitVec.getLsbD_ushiftRight, BitVec.getLsbD_of_ge x _ (by omega)]; simp [Qur]
  have st : ∀ (l : List (BitVec 8)) (i : Nat), i ≤ 7 → Qur l = x >>> (56 - 8 * i + 8) → Qur (l ++ [byt x i]) = x >>> (56 - 8 * i) := fun l i hi hl => by
    rw [Qob, hl]; exact Xmk x (56 - 8 * i)
  have h1 := st [] 0 (by omega) h0
  have h2 := st _ 1 (by omega) h1
  have h3 := st _ 2 (by omega) h2
  have h4 := st _ 3 (by omega) h3
  have h5 := st _ 4 (by omega) h4
  have h6 := st _ 5 (by omega) h5
  have h7 := st _ 6 (by omega) h6
  have h8 := st _ 7 (by omega) h7
  rw [show 56 - 8 * 7 = 0 from rfl, BitVec.ushiftRight_zero] at h8
  exact h8
theorem Qoe (l : List (BitVec 8)) (hx : l.length ≤ 1000) : ∀ (m i fuel : Nat), l.length - i = m → i ≤ l.length → m < fuel → Qc2 (Qgd l) fuel (Qur (l.take i), (i : Int)) = some (Qur l)
  | m, i, 0, _, _, hf => by omega
  | 0, i, fuel + 1, hm, hi, hf => by
    rw [Qbm]; simp only [Qgd]; rw [if_neg (by omega), List.take_of_length_le (by omega)]
  | m + 1, i, fuel + 1, hm, hi, hf => by
    rw [Qbm]; simp only [Qgd]
    rw [if_pos (by omega), Qc6 (by omega), bind_some, ← Qob, ← Qmk _ _ (by omega), Qdt (by omega) (by omega)]
    exact Qoe l hx m (i + 1) fuel (by omega) (by omega) (by omega)
theorem Qv2 (l : List (BitVec 8)) (h : l.length ≤ 1000) : Qmj l = some (Qur l) := Qoe l h _ 0 Qcw rfl (by omega) (Qdv (by omega))
theorem Xlv (k : W2) : kby k = w8 k.1 ++ w8 k.2 := rfl
theorem Xfd (k : W2) (A B : List (BitVec 8)) (hA : A.length = 8) (hB : B.length = 8) (hk : kby k = A ++ B) : Qhk k = some ⟨Qur A, Qur B⟩ := by
  unfold Qhk
  refine Qpo _ (fun j x => x = ((j : Int), Qur (A.take j), Qur (B.take j))) 8 _ (by omega) (by simp [Qur]) ?_ ?_
  · rintro j _ hj rfl
    refine ⟨_, rfl, fun rec => ?_⟩
    have h1 : j < A.length := by omega
    have h2 : j < B.length := by omega
    have g1 : Qg5 (kby k) (j : Int) = some A[j] := by rw [hk, Qc6 (by rw [List.length_append]; omega), List.getElem_append_left h1]
    have g2 : Qg5 (kby k) ((8 + j : Nat) : Int) = some B[j] := by
      rw [hk, Qc6 (by rw [List.length_append]; omega), List.getElem_append_right (by omega)]
      congr 2; omega
    simp only [Qfa]
    rw [if_pos (by omega), show shG (un 8#64) = some 8 from by decide, bind_some, g1, bind_some, bind_some, Qdt (n := 8 + (j : Int)) (by omega) (by omega), show (8 : Int) + (j : Int) = ((8 + j : Nat) : Int) from by omega, g2, bind_some, Xa5, Xa5, ← Qob, ← Qob, ← Qmk _ _ h1, ← Qmk _ _ h2, Qes (by omega)]
  · rintro _ rfl rec
    simp only [Qfa]
    rw [if_neg (by omega), List.take_of_length_le (by omega), List.take_of_length_le (by omega)]
theorem Xcz (k : W2) : Qhk k = some ⟨k.1, k.2⟩ := by
  rw [Xfd k _ _ (Qxj _) (Qxj _) (Xlv k), Xby, Xby]
theorem Xa8 (k : W2) (n m : BitVec 64) (hm : m ≠ 0#64) : Qh1 k n m = some ((drv k (un8 3#8) n).1 % m) := by
  unfold Qh1
  rw [if_neg hm, Xcz, bind_some]
  simp only
  unfold Qqv
  rw [if_neg hm]; rfl
theorem Qxe (k : W2) (n m : BitVec 64) (hm : m ≠ 0#64) : Qn4 k n m = some ((drv k (un8 3#8) n).1 % m) := by
  unfold Qn4
  rw [if_neg hm, List.drop_zero, Xlv, List.take_left' (Qxj _), Qv2 _ (by rw [Qxj]; omega), bind_some, Xby]
  unfold Qqv
  rw [if_neg hm]; rfl
end Go.Sx.Po

end
section
set_option linter.unusedVariables false
set_option linter.unusedSimpArgs false
set_option maxRecDepth 100000
namespace Go.Sx.Po
open Go
def Qwn (p q g : Nat) : Prop := (p ≤ 1048575 ∧ Prm p) ∧ (q ≤ 1048575 ∧ Prm q) ∧ (p - 1) % q = 0 ∧ 2 ≤ g ∧ g < p ∧ g ^ q % p = 1
theorem Xjy {p q g : Nat} (hp : p < 18446744073709551616) (hq : q < 18446744073709551616) (hg : g < 18446744073709551616) :
    ∃ b, Qgl ⟨bn p, bn q, bn g⟩ = some (if b = true then 0 else 13) ∧ Qlh ⟨bn p, bn q, bn g⟩ = some b ∧ (b = true ↔ Qwn p q g) := by
  obtain ⟨b1, e1, i1⟩ := Xe1 hp
  obtain ⟨b2, e2, i2⟩ := Xe1 hq
  unfold Qgl Qlh
  simp only
  rw [e1, bind_some, show (1048575#64) = bn 1048575 from rfl]
  have no : ∀ (h : ¬ Qwn p q g), (false = true ↔ Qwn p q g) := fun h => ⟨(fun e => by cases e), fun e => absurd e h⟩
  by_cases hP : p ≤ 1048575 ∧ Prm p
  · have c0 : ¬ bn 1048575 < bn p := fun h => by have := (Ql5 (by omega) hp).1 h; omega
    rw [i1.2 hP, if_neg c0]
    obtain ⟨c1, f1, j1⟩ := Qqs hP.1
    rw [f1, bind_some, j1.2 hP.2]
    simp only [Bool.not_true, cond_false]
    rw [e2, bind_some]
    by_cases hQ : q ≤ 1048575 ∧ Prm q
    · have c0' : ¬ bn 1048575 < bn q := fun h => by have := (Ql5 (by omega) hq).1 h; omega
      rw [i2.2 hQ, if_neg c0']
      obtain ⟨c2, f2, j2⟩ := Qqs hQ.1
      rw [f2, bind_some, j2.2 hQ.2]
      simp only [Bool.not_true, cond_false]
      have hp2 := hP.2.1
      have hq2 := hQ.2.1
      rw [show (1#64) = bn 1 from rfl, Qzh hp (by omega), Qff (by omega) (by omega) hq, bind_some, bind_some]
      have hmod := Nat.mod_lt (p - 1) (show 0 < q by omega)
      unfold Qci Qe2
      simp only
      by_cases hz : (p - 1) % q = 0
      · rw [hz, if_neg (by simp), decide_eq_false (by simp), cond_false, show (2#64) = bn 2 from rfl]
        by_cases h2 : 2 ≤ g
        · have c3 : ¬ bn g < bn 2 := fun h => by have := (Ql5 hg (by omega)).1 h; omega
          have c4 : bn 2 ≤ bn g := (Qsk (by omega) hg).2 h2
          rw [if_neg c3, if_pos c4]
          by_cases h3 : g < p
          · have c5 : ¬ bn p ≤ bn g := fun h => by have := (Qsk hp hg).1 h; omega
            have c6 : bn g < bn p := (Ql5 hg hp).2 h3
            rw [if_neg c5, if_pos c6, Xcr hg hq (by omega) (by omega), Xfb hg hq (by omega) (by omega), bind_some, bind_some]
            have hpm := Nat.mod_lt (g ^ q) (show 0 < p by omega)
            have hone : bn (g ^ q % p) = bn 1 ↔ g ^ q % p = 1 := Qqf (by omega) (by omega)
            refine ⟨decide (bn (g ^ q % p) = bn 1), ?_, rfl, ?_⟩
            · by_cases h4 : bn (g ^ q % p) = bn 1
              · rw [decide_eq_false (by simpa using h4), decide_eq_true h4]; rfl
              · rw [decide_eq_true h4, decide_eq_false h4]; rfl
            · rw [decide_eq_true_eq, hone]
              exact ⟨fun h => ⟨hP, hQ, hz, h2, h3, h⟩, fun h => h.2.2.2.2.2⟩
          · have c5 : bn p ≤ bn g := (Qsk hp hg).2 (by omega)
            have c6 : ¬ bn g < bn p := fun h => h3 ((Ql5 hg hp).1 h)
            rw [if_pos c5, if_neg c6]
            exact ⟨false, rfl, rfl, no fun h => h3 h.2.2.2.2.1⟩
        · have c3 : bn g < bn 2 := (Ql5 hg (by omega)).2 (by omega)
          have c4 : ¬ bn 2 ≤ bn g := fun h => h2 ((Qsk (by omega) hg).1 h)
          rw [if_pos c3, if_neg c4]
          exact ⟨false, rfl, rfl, no fun h => h2 h.2.2.2.1⟩
      · have hz' : bn ((p - 1) % q) ≠ 0#64 := fun h => hz ((Qqf (b := 0) (by omega) (by omega)).1 h)
        rw [if_pos hz', decide_eq_true hz']
        exact ⟨false, rfl, rfl, no fun h => hz h.2.2.1⟩
    · have hb2 : b2 = false := by cases b2 with | false => rfl | true => exact absurd (i2.1 rfl) hQ
      rw [hb2]
      refine ⟨false, rfl, ?_, no fun h => hQ h.2.1⟩
      by_cases hg' : 1048575 < q
      · have c0' : bn 1048575 < bn q := (Ql5 (by omega) hq).2 hg'
        rw [if_pos c0']; rfl
      · have c0' : ¬ bn 1048575 < bn q := fun h => hg' ((Ql5 (by omega) hq).1 h)
        rw [if_neg c0']
        obtain ⟨c2, f2, j2⟩ := Qqs (n := q) (by omega)
        have : c2 = false := by cases c2 with | false => rfl | true => exact absurd ⟨by omega, j2.1 rfl⟩ hQ
        rw [f2, bind_some, this]; rfl
  · have hb1 : b1 = false := by cases b1 with | false => rfl | true => exact absurd (i1.1 rfl) hP
    rw [hb1]
    refine ⟨false, rfl, ?_, no fun h => hP h.1⟩
    by_cases hg' : 1048575 < p
    · have c0 : bn 1048575 < bn p := (Ql5 (by omega) hp).2 hg'
      rw [if_pos c0]; rfl
    · have c0 : ¬ bn 1048575 < bn p := fun h => hg' ((Ql5 (by omega) hp).1 h)
      rw [if_neg c0]
      obtain ⟨c1, f1, j1⟩ := Qqs (n := p) (by omega)
      have : c1 = false := by cases c1 with | false => rfl | true => exact absurd ⟨by omega, j1.1 rfl⟩ hP
      rw [f1, bind_some, this]; rfl
theorem Qyd : ∀ d : Fin 7, Qdm (d.1 : Int) = some ((2 ^ d.1 : Nat) : Int) := by decide +kernel
theorem Qv9 {d : Nat} (h : d ≤ 6) : Qdm (d : Int) = some ((2 ^ d : Nat) : Int) := Qyd ⟨d, by omega⟩
theorem Xo4 : ∀ d : Fin 7, Qxb 1 d.1 = ((2 ^ d.1 : Nat) : Int) := by decide +kernel
theorem Xm4 {d : Nat} (h : d ≤ 6) : Qxb 1 d = ((2 ^ d : Nat) : Int) := Xo4 ⟨d, by omega⟩
theorem Qpb (n : Nat) : shG (n : Int) = some n := by unfold shG; rw [if_pos (by omega)]; rfl
theorem Qcq {d : Nat} (h : d ≤ 6) : 2 ^ d ≤ 64 := Nat.le_trans (Nat.pow_le_pow_right (by omega) h) (by decide)
theorem Qu3 (n : Nat) : wd (n : Int) = bn n := by unfold wd bn; exact BitVec.ofInt_natCast 64 n
structure Vld (s : Qa8) (d t p q g : Nat) : Prop where
  kind : s.Kind = 4#8
  depth : s.Depth = (d : Int)
  deg : s.Degree = (t : Int)
  d6 : d ≤ 6
  t1 : 1 ≤ t
  t8 : t ≤ 8
  grp : s.Group = ⟨bn p, bn q, bn g⟩
  ok : Qwn p q g
  big : 2 ^ d + t < q
theorem Qoz (s : Qa8) : (Qd9 s = some false ∧ Qkk s = some false) ∨ (Qd9 s = some true ∧ Qkk s = some true ∧ ∃ d t p q g, Vld s d t p q g) := by
  obtain ⟨kd, dp, dg, ⟨P, Q, G⟩⟩ := s
  obtain ⟨p, hp, rfl⟩ := Xos P
  obtain ⟨q, hq, rfl⟩ := Xos Q
  obtain ⟨g, hg, rfl⟩ := Xos G
  unfold Qd9 Qkk Qg8
  simp only
  by_cases h1 : kd = 4#8
  · rw [if_pos h1, if_neg (show ¬ kd ≠ 4#8 from fun h => h h1)]
    by_cases h2 : 0 ≤ dp
    · rw [if_pos h2, if_neg (show ¬ dp < 0 by omega)]
      by_cases h3 : dp ≤ 6
      · rw [if_pos h3, if_neg (show ¬ 6 < dp by omega)]
        by_cases h4 : 1 ≤ dg
        · rw [if_pos h4, if_neg (show ¬ dg < 1 by omega)]
          by_cases h5 : dg ≤ 8
          · rw [if_pos h5, if_neg (show ¬ 8 < dg by omega)]
            obtain ⟨b, e1, e2, i⟩ := Xjy hp hq hg
            rw [e1, e2, bind_some, bind_some]
            cases b with
            | false => exact .inl ⟨rfl, rfl⟩
            | true =>
              obtain ⟨d, rfl⟩ : ∃ d : Nat, dp = (d : Int) := ⟨dp.toNat, by omega⟩
              obtain ⟨t, rfl⟩ : ∃ t : Nat, dg = (t : Int) := ⟨dg.toNat, by omega⟩
              have h64 := Qcq (d := d) (by omega)
              have hpp := Nat.two_pow_pos d
              simp only [Bool.not_true, cond_false, if_true]
              rw [Qpb, bind_some, Qv9 (by omega), bind_some, Xm4 (by omega), Qdt (by omega) (by omega), show ((2 ^ d : Nat) : Int) + (t : Int) = ((2 ^ d + t : Nat) : Int) from by omega, Qu3]
              by_cases hlt : 2 ^ d + t < q
              · rw [decide_eq_true ((Ql5 (by omega) hq).2 hlt)]
                exact .inr ⟨rfl, rfl, d, t, p, q, g, ⟨h1, rfl, rfl, by omega, by omega, by omega, rfl, i.1 rfl, hlt⟩⟩
              · rw [decide_eq_false (fun h => hlt ((Ql5 (by omega) hq).1 h))]; exact .inl ⟨rfl, rfl⟩
          · rw [if_neg h5, if_pos (show 8 < dg by omega)]; exact .inl ⟨rfl, rfl⟩
        · rw [if_neg h4, if_pos (show dg < 1 by omega)]; exact .inl ⟨rfl, rfl⟩
      · rw [if_neg h3, if_pos (show 6 < dp by omega)]; exact .inl ⟨rfl, rfl⟩
    · rw [if_neg h2, if_pos (show dp < 0 by omega)]; exact .inl ⟨rfl, rfl⟩
  · rw [if_neg h1, if_pos (show kd ≠ 4#8 from h1)]; exact .inl ⟨rfl, rfl⟩
theorem Vld.qb {s : Qa8} {d t p q g : Nat} (h : Vld s d t p q g) : 2 ≤ q ∧ q ≤ 1048575 := ⟨h.ok.2.1.2.1, h.ok.2.1.1⟩
theorem Vld.pb {s : Qa8} {d t p q g : Nat} (h : Vld s d t p q g) : 2 ≤ p ∧ p ≤ 1048575 := ⟨h.ok.1.2.1, h.ok.1.1⟩
def cfN (root : W2) (q i : Nat) : Nat := (drv (drv root (un8 40#8) 0#64) (un8 3#8) (bn i)).1.toNat % q
def cfs (root : W2) (q t : Nat) : List Nat := (List.range (t + 1)).map (cfN root q)
theorem Xa3 {root : W2} {q t : Nat} (hq : 0 < q) : ∀ c ∈ cfs root q t, c < q := by
  intro c hc
  obtain ⟨i, _, rfl⟩ := List.mem_map.1 hc
  exact Nat.mod_lt _ hq
theorem Xh9 (x : BitVec 64) {q : Nat} (hq : 0 < q) (hq2 : q < 18446744073709551616) : x % bn q = bn (x.toNat % q) := by
  apply BitVec.eq_of_toNat_eq
  have := Nat.mod_lt x.toNat hq
  rw [BitVec.toNat_umod, Qg3 hq2, Qg3 (by omega)]
theorem Xae {q : Nat} (hq : 0 < q) (hq2 : q < 18446744073709551616) : bn q ≠ 0#64 := fun h => by have := (Qqf (b := 0) hq2 (by omega)).1 h; omega
theorem Qvt {s : Qa8} {d t p q g : Nat} (h : Vld s d t p q g) (root : W2) : Qhv root s = some ((cfs root q t).map bn) := by
  obtain ⟨q1, q2⟩ := h.qb
  have ht := h.t8
  unfold Qhv
  rw [h.deg, Qdt (by omega) (by omega), show (t : Int) + 1 = ((t + 1 : Nat) : Int) from by omega, mkL, if_pos (by omega), bind_some, Int.toNat_natCast]
  refine Qpo _ (fun j x => x = ((List.range (t + 1)).map (fun i => if i < j then bn (cfN root q i) else 0#64), (j : Int))) (t + 1) _ (by omega) ?_ ?_ ?_
  · congr 1
    apply List.ext_getElem
    · simp
    · intro i _ _; simp
  · rintro j _ hj rfl
    refine ⟨_, rfl, fun rec => ?_⟩
    simp only [Qhi]
    have hjl : j < ((List.range (t + 1)).map (fun i => if i < j then bn (cfN root q i) else 0#64)).length := by simpa using hj
    rw [if_pos (by simp; omega), h.grp, Qu3]
    simp only
    rw [Xa8 _ _ _ (Xae (by omega) (by omega)), bind_some, Qc6 hjl, bind_some, Int.toNat_natCast, Qes (by omega), Xh9 _ (by omega) (by omega)]
    congr 2
    apply List.ext_getElem
    · simp
    · intro i h1 h2
      rw [List.getElem_set]
      simp only [List.getElem_map, List.getElem_range]
      by_cases e : j = i
      · subst e; rw [if_pos rfl, if_pos (by omega)]; rfl
      · rw [if_neg e]
        by_cases e2 : i < j
        · rw [if_pos e2, if_pos (by omega)]
        · rw [if_neg e2, if_neg (by omega)]
  · rintro _ rfl rec
    simp only [Qhi]
    rw [if_neg (by simp)]
    congr 1
    unfold cfs
    rw [List.map_map]
    apply List.map_congr_left
    intro i hi
    rw [if_pos (List.mem_range.1 hi)]; rfl
theorem Qtb {s : Qa8} {d t p q g : Nat} (h : Vld s d t p q g) (root : W2) : Qiw root s = some ((cfs root q t).map bn) := by
  obtain ⟨q1, q2⟩ := h.qb
  have ht := h.t8
  unfold Qiw
  refine Qpo _ (fun j x => x = ((List.range j).map (fun i => bn (cfN root q i)), (j : Int))) (t + 1) _ (by omega) (by simp) ?_ ?_
  · rintro j _ hj rfl
    refine ⟨_, rfl, fun rec => ?_⟩
    simp only [Qh8]
    rw [h.deg, if_pos (by omega), h.grp, Qu3]
    simp only
    rw [Qxe _ _ _ (Xae (by omega) (by omega)), bind_some, Qi9 (by simp; omega), bind_some, Qes (by omega), Xh9 _ (by omega) (by omega), List.range_succ, List.map_append]; rfl
  · rintro _ rfl rec
    simp only [Qh8]
    rw [h.deg, if_neg (by omega)]
    unfold cfs
    rw [List.map_map]; rfl
def evN (l : List Nat) (x : Nat) : Nat := l.foldr (fun c a => c + x * a) 0
theorem Xdy (x : Nat) : ∀ (l : List Nat) (c : Nat), evN (l ++ [c]) x = evN l x + c * x ^ l.length
  | [], c => by simp [evN]
  | a :: l, c => by
    have := Xdy x l c
    simp only [evN] at this ⊢
    rw [List.cons_append, List.foldr_cons, List.foldr_cons, this, List.length_cons, Nat.pow_succ, Nat.mul_add, Nat.add_assoc]
    congr 2
    rw [Nat.mul_left_comm, Nat.mul_comm x]
theorem Xbp {q a b : Nat} (hq : 2 ≤ q) (hq2 : q ≤ 1048575) (ha : a < q) (hb : b < q) : Qdj (bn q) [bn a, bn b] = some (bn (a * b % q)) := by
  unfold Qdj
  have hab : a * b < 18446744073709551616 := Nat.lt_of_le_of_lt (Nat.mul_le_mul (Nat.le_of_lt ha) (Nat.le_of_lt hb)) (by have := Nat.mul_le_mul hq2 hq2; omega)
  rw [show Qcw = 18446744073709551613 + 1 + 1 + 1 from rfl, Qbm]
  simp only [Qdz]
  rw [if_pos (by simp), show Qg5 [bn a, bn b] 0 = some (bn a) from rfl, bind_some, show (1#64) = bn 1 from rfl, Qpk, Nat.one_mul, Qff (by omega) (by omega) (by omega), bind_some, Nat.mod_eq_of_lt ha, show w64 (0 + 1) = 1 from by decide, Qbm]
  simp only [Qdz]
  rw [if_pos (by simp), show Qg5 [bn a, bn b] 1 = some (bn b) from rfl, bind_some, Qpk, Qff hab (by omega) (by omega), bind_some, show w64 (1 + 1) = 2 from by decide, Qbm]
  simp only [Qdz]
  rw [if_neg (by simp)]
theorem Qzn (l : List (BitVec 64)) (hl : l.length < 4611686018427387904) : ∀ (k f : Nat), k ≤ l.length → k < f → Qc2 (Qcb l) f ((k : Int) - 1) = some ((List.range k).reverse.map fun i : Nat => ((i : Int), l.getD i 0#64))
  | k, 0, _, h => by omega
  | 0, f + 1, _, _ => by
    rw [Qbm]; simp only [Qcb]; rw [if_neg (by omega)]; rfl
  | k + 1, f + 1, hk, hf => by
    rw [Qbm]; simp only [Qcb]
    rw [show ((k + 1 : Nat) : Int) - 1 = (k : Int) from by omega, if_pos (by omega), Qc6 (by omega), bind_some, Qdt (by omega) (by omega), Qzn l hl k f (by omega) (by omega), Xkb, List.range_succ, List.reverse_append, List.map_append]
    have hkk : k < l.length := by omega
    simp [hkk]
theorem Xho {q x : Nat} (hq : 2 ≤ q) (hq2 : q ≤ 1048575) (hx : x < q) (l : List Nat) (hl : ∀ c ∈ l, c < q) : ∀ (k : Nat), k ≤ l.length → itL (Qdd (bn q) (bn x)) Qef ((List.range k).reverse.map fun i : Nat => ((i : Int), (l.map bn).getD i 0#64)) (bn (evN (l.drop k) x % q)) = some (bn (evN l x % q))
  | 0, _ => by rw [List.drop_zero]; rfl
  | k + 1, hk => by
    have hkl : k < l.length := by omega
    rw [List.range_succ, List.reverse_append, List.map_append, show ([k].reverse.map fun i : Nat => ((i : Int), (l.map bn).getD i 0#64)) = [((k : Int), bn l[k])] from by simp [List.getD, hkl], List.singleton_append, Qkw]
    simp only [Qdd]
    have hc := hl _ (List.getElem_mem hkl)
    have hm := Nat.mod_lt (evN (l.drop (k + 1)) x) (show 0 < q by omega)
    have hm2 := Nat.mod_lt (evN (l.drop (k + 1)) x % q * x) (show 0 < q by omega)
    rw [Xbp hq hq2 hm hx, bind_some, Qud, Qff (by omega) (by omega) (by omega), bind_some]
    have he : (evN (l.drop (k + 1)) x % q * x % q + l[k]) % q = evN (l.drop k) x % q := by
      rw [List.drop_eq_getElem_cons hkl, show evN (l[k] :: l.drop (k + 1)) x = l[k] + x * evN (l.drop (k + 1)) x from rfl, Nat.mod_mul_mod, Nat.mod_add_mod, Nat.add_comm, Nat.mul_comm]
    rw [he]
    exact Xho hq hq2 hx l hl k (by omega)
theorem Xn9 {q x : Nat} (hq : 2 ≤ q) (hq2 : q ≤ 1048575) (hx : x < q) (l : List Nat) (hl : ∀ c ∈ l, c < q) (hlen : l.length < 4611686018427387904) : Qeh (l.map bn) (bn q) (bn x) = some (bn (evN l x % q)) := by
  unfold Qeh Qgg Qfm
  rw [bind_some, Qdt (by rw [List.length_map]; omega) (by rw [List.length_map]; omega), Qzn _ (by rw [List.length_map]; exact hlen) _ Qcw (Nat.le_refl _) (Qdv (by rw [List.length_map]; omega)), bind_some, List.length_map]
  have := Xho hq hq2 hx l hl l.length (Nat.le_refl _)
  rw [List.drop_length, show evN [] x % q = 0 from by simp [evN]] at this
  exact this
theorem Xbt {q x : Nat} (hq : 2 ≤ q) (hq2 : q ≤ 1048575) (hx : x < q) (l : List Nat) (hl : ∀ c ∈ l, c < q) (hlen : l.length < 4611686018427387904) : Qpa (bn q) (l.map bn) (bn x) = some (bn (evN l x % q)) := by
  unfold Qpa
  refine Qpo _ (fun j s => s = (bn (evN (l.take j) x % q), bn (x ^ j % q), (j : Int))) l.length _ (by omega) ?_ ?_ ?_
  · rw [List.take_zero, Nat.pow_zero, Nat.mod_eq_of_lt (show 1 < q by omega), show evN [] x % q = 0 from by simp [evN]]; rfl
  · rintro j _ hj rfl
    refine ⟨_, rfl, fun rec => ?_⟩
    have hc := hl _ (List.getElem_mem hj)
    have hm := Nat.mod_lt (evN (l.take j) x) (show 0 < q by omega)
    have hm2 := Nat.mod_lt (x ^ j) (show 0 < q by omega)
    have hp1 : l[j] * (x ^ j % q) ≤ 1048575 * 1048575 := Nat.mul_le_mul (by omega) (by omega)
    have hp2 : x ^ j % q * x ≤ 1048575 * 1048575 := Nat.mul_le_mul (by omega) (by omega)
    simp only [Qlf]
    rw [if_pos (by simp; omega), Qc6 (by simpa using hj), bind_some, List.getElem_map, Qpk, Qud, Qff (by omega) (by omega) (by omega), bind_some, Qpk, Qff (by omega) (by omega) (by omega), bind_some, Qes (by omega), Qmk l j hj, Xdy, List.length_take, Nat.min_eq_left (by omega)]
    congr 2
    · rw [Nat.mod_add_mod, Nat.add_mod, Nat.mul_mod_mod, ← Nat.add_mod]
    · rw [Nat.mod_mul_mod, Nat.pow_succ]
  · rintro _ rfl rec
    simp only [Qlf]
    rw [if_neg (by simp), List.take_length]
end Go.Sx.Po

end
section
set_option linter.unusedVariables false
set_option linter.unusedSimpArgs false
set_option maxRecDepth 100000
noncomputable section
namespace Go.Sx.Ep
open Go Go.Sx
theorem Qsh (s : Qa8) : Qer s = some (if Qnb s then 0 else 30) ∧ Qw7 s = some (if Qnb s then 0 else 30) := by
  unfold Qer Qw7
  constructor
  · rw [Qqb, bind_some]
    cases hv : Qnb s <;> rfl
  · rw [Go.Sx.Qoz, bind_some]
    cases hv : Qnb s <;> rfl
theorem Xsb (k : BitVec 8) : (k < 1#8 ∨ (5 : Int) ≤ un8 k) ∨ ((un8 k = 1 ∨ un8 k = 2 ∨ un8 k = 3) ∧ 1#8 ≤ k ∧ k ≤ 3#8 ∧ k ≠ 4#8 ∧ ¬ k < 1#8 ∧ ¬ (5 : Int) ≤ un8 k) ∨ (k = 4#8 ∧ un8 k = 4 ∧ ¬ (un8 k = 1 ∨ un8 k = 2 ∨ un8 k = 3)) := by
  unfold un8
  have h4 : k = 4#8 ↔ k.toNat = 4 := ⟨fun h => by rw [h]; rfl, fun h => BitVec.eq_of_toNat_eq h⟩
  rw [BitVec.lt_def, BitVec.le_def, BitVec.le_def, ne_eq, h4]
  have e1 : (1#8).toNat = 1 := rfl
  have e3 : (3#8).toNat = 3 := rfl
  rw [e1, e3]; omega
theorem Qx8 (root : W2) (s : Qa8) (u : Int) : ∃ r, Qh6 root s u = some r ∧ Qum root s u = some r ∧ r.1.Labels = [] := by
  unfold Qh6 Qum
  rcases Po.Qoz s with ⟨e1, e2⟩ | ⟨e1, e2, d, t, p, q, g, h⟩
  · rw [e1, e2]; exact ⟨_, rfl, rfl, rfl⟩
  · have h64 := Po.Qcq h.d6
    obtain ⟨q1, q2⟩ := h.qb
    rw [e1, e2, bind_some, bind_some]
    simp only [Bool.not_true, cond_false]
    unfold Qgb Qme
    by_cases hn : u < 0
    · rw [if_pos hn, if_pos hn]; exact ⟨_, rfl, rfl, rfl⟩
    · rw [if_neg hn, if_neg hn, h.depth, Po.Qpb, bind_some, Po.Qv9 h.d6, bind_some, Po.Xm4 h.d6]
      by_cases hg : ((2 ^ d : Nat) : Int) ≤ u
      · rw [decide_eq_true hg]; exact ⟨_, rfl, rfl, rfl⟩
      · rw [decide_eq_false hg, cond_false, cond_false]
        obtain ⟨n, rfl⟩ : ∃ n : Nat, u = (n : Int) := ⟨u.toNat, by omega⟩
        unfold Qrg
        have hb := h.big
        have hcl : (Po.cfs root q t).length = t + 1 := by simp [Po.cfs]
        have ht := h.t8
        rw [Po.Qvt h, Po.Qtb h, bind_some, bind_some, h.grp, Po.Qu3, show (1#64) = Po.bn 1 from rfl, Po.Qud]
        simp only
        rw [Po.Xn9 q1 q2 (by omega) _ (Po.Xa3 (by omega)) (by omega), Po.Xbt q1 q2 (by omega) _ (Po.Xa3 (by omega)) (by omega), bind_some, bind_some]
        exact ⟨_, rfl, rfl, rfl⟩
end Go.Sx.Ep

end
section
set_option linter.unusedVariables false
set_option linter.unusedSimpArgs false
set_option maxRecDepth 100000
namespace Go.Sx
open Go
variable {d : Nat} {R : List Nat}
theorem Xgw {L a b : Nat} (hL : 1 ≤ L) (ha : Qbh L a = true) (hb : Qbh L b = true) (hl : Nat.log2 b ≤ Nat.log2 a) : Qbh a b = true := by
  obtain ⟨i, i1, rfl⟩ := (Qcd hL).1 ha
  obtain ⟨j, j1, rfl⟩ := (Qcd hL).1 hb
  have li := Qdo L i i1
  have lj := Qdo L j j1
  have hij : i + (j - i) = j := by omega
  refine (Qcd (Qky i1)).2 ⟨j - i, Qki (by rw [hij]; exact j1), ?_⟩
  rw [Nat.div_div_eq_div_mul, ← Nat.pow_add, hij]
def Low (d : Nat) (R : List Nat) (L z : Nat) : Prop := Qjr d R z = true ∧ Qbh L z = true ∧ ∃ s, s / 2 = z ∧ 2 ≤ s ∧ Qbh L s = true ∧ Qjr d R s = false
theorem Xg7 (h : Rcv d R) {a b : Nat} (ha : Qjr d R a = true) (hb : Qbh a b = true) : Qjr d R b = true := by
  obtain ⟨k, k1, k2⟩ := (Qcd (Qnu h ha).1).1 hb
  rw [k2]; exact Xb4 h ha k k1
theorem Xle (h : Rcv d R) {L z1 z2 : Nat} (hL : 1 ≤ L) (h1 : Low d R L z1) (h2 : Low d R L z2) : ¬ Nat.log2 z1 < Nat.log2 z2 := by
  intro hlt
  obtain ⟨a1, b1, s, c1, c2, c3, c4⟩ := h1
  obtain ⟨a2, b2, _⟩ := h2
  have hs := Qif c2
  rw [c1] at hs
  have := Xg7 h a2 (Xgw hL b2 c3 (by omega))
  rw [c4] at this; cases this
theorem Xl2 (h : Rcv d R) {L z1 z2 : Nat} (hL : 1 ≤ L) (h1 : Low d R L z1) (h2 : Low d R L z2) : z1 = z2 :=
  Qqx hL h1.2.1 h2.2.1 (by have := Xle h hL h1 h2; have := Xle h hL h2 h1; omega)
theorem Xha {p : Nat → Bool} : ∀ (n j : Nat), p (j + n) = true → p j = false → ∃ t, j ≤ t ∧ t < j + n ∧ p (t + 1) = true ∧ p t = false
  | 0, j, h1, h2 => by rw [Nat.add_zero, h2] at h1; cases h1
  | n + 1, j, h1, h2 => by
    cases hp : p (j + n) with
    | true => obtain ⟨t, a, b, c⟩ := Xha n j hp h2; exact ⟨t, a, by omega, c⟩
    | false => exact ⟨j + n, by omega, by omega, h1, hp⟩
theorem Xf9 (h : Rcv d R) {L f K i j : Nat} (hL : 1 ≤ L) (hl : Nat.log2 L = d) (hf : f < 128) (hK : 2 ^ K ≤ f) (hfd : Nat.log2 f ≤ d) (hc : ∀ t, t < K → Qjr d R (f / 2 ^ t) = true ∧ Qjr d R ((f / 2 ^ t) ^^^ 1) = false)
    (hij : j < i) (hi : i ≤ K) (ha : Qbh L (f / 2 ^ i) = true) (hb : Qbh L (f / 2 ^ j) = false) : ∃ t, j ≤ t ∧ t < i ∧ Low d R L (f / 2 ^ (t + 1)) := by
  obtain ⟨t, t1, t2, t3, t4⟩ := Xha (p := fun t => Qbh L (f / 2 ^ t)) (i - j) j (by show Qbh L (f / 2 ^ (j + (i - j))) = true; rw [Nat.add_sub_cancel' (by omega)]; exact ha) hb
  replace t3 : Qbh L (f / 2 ^ (t + 1)) = true := t3
  replace t4 : Qbh L (f / 2 ^ t) = false := t4
  refine ⟨t, t1, by omega, ?_⟩
  have ht : 2 ^ (t + 1) ≤ f := Nat.le_trans (Nat.pow_le_pow_right (by omega) (by omega)) hK
  have hs2 : 2 ≤ f / 2 ^ t := by have := Qki (w := f) (i := t) (j := 1) ht; simpa using this
  obtain ⟨c1, c2⟩ := hc t (by omega)
  rw [Qox] at t3 ⊢
  have hsl : f / 2 ^ t < 128 := Nat.lt_of_le_of_lt (Nat.div_le_self _ _) hf
  have hlg := Qdo f t (Nat.le_trans (Nat.pow_le_pow_right (by omega) (by omega)) ht)
  generalize hs : f / 2 ^ t = s at *
  have hh := Qif hs2
  refine ⟨Xhi h c1 hs2, t3, s ^^^ 1, Qyc hsl, Qqt hsl hs2, ?_, c2⟩
  rw [Qu1 hL (by omega) (by omega)] at t3
  rcases (show 2 * (s / 2) = s ∨ 2 * (s / 2) + 1 = s by omega) with e | e
  · have := Xt2 (n := s / 2) (by omega)
    rw [e, t4, Bool.false_or] at t3
    rw [e] at this; rw [this]; exact t3
  · have := Xtq (n := s / 2) (by omega)
    rw [e, t4, Bool.or_false] at t3
    rw [e] at this; rw [this]; exact t3
def Xu3 (k : BitVec 8) (d : Nat) (R : List Nat) (L z : Nat) : Nat × Nat :=
  if Qv1 k d (hdN d R 7 z) (Qew d R 7 (hdN d R 7 z)) then (hdN d R 7 z, Qew d R 7 (hdN d R 7 z))
  else if Qbh L (Qt4 d (hdN d R 7 z) (Qew d R 7 (hdN d R 7 z))) then (Qt4 d (hdN d R 7 z) (Qew d R 7 (hdN d R 7 z)), Qew d R 7 (hdN d R 7 z))
  else (hdN d R 7 z, Qt4 d (hdN d R 7 z) (Qew d R 7 (hdN d R 7 z)))
theorem Qsa {L v w : Nat} : Qx1 L v w = true ↔ Qbh L v = true ∧ (w = 0 ∨ Qbh L w = false) := by
  unfold Qx1; simp
theorem Xg1 (h : Rcv d R) {k : BitVec 8} (hk : k ≠ 1#8) (hne : R ≠ []) {y : Nat × Nat} (hy : y ∈ Qsn k d R) {u : Nat} (hu : u < 2 ^ d) (hm : Qx1 (2 ^ d + u) y.1 y.2 = true) :
    ∃ z, Low d R (2 ^ d + u) z ∧ y = Xu3 k d R (2 ^ d + u) z := by
  have h64 := Qcq h.1
  have hpow : 2 ^ (d + 1) = 2 * 2 ^ d := by rw [Nat.pow_succ, Nat.mul_comm]
  have hv := Xb3 h hne hy
  have hout := (Xc0 h hne hv y).1 ⟨hy, rfl⟩
  have hy1 := (Qtk.1 hy).1
  have hlog := Qz1 hu
  have hL : 1 ≤ 2 ^ d + u := by omega
  generalize hLe : 2 ^ d + u = L at *
  have hhd : Xbs d R (Qwx k d R y) = true := by
    unfold Qwx; rw [if_neg hk]
    exact (Qwt 7 y.1 hy1.1 (by have := Qop hy1.1 hy1.2; have := h.1; omega)).1
  generalize hve : Qwx k d R y = v at *
  obtain ⟨v1, vl, v2⟩ := Qnu h hv
  obtain ⟨f1, f2, f3, K, f4, f5, f6⟩ := Qoh h 7 v v1 vl (by have := h.1; omega)
  unfold Xd2 at hout
  rw [if_neg hk, if_pos hhd] at hout
  have key : ∀ z, hdN d R 7 z = v → Xu3 k d R L z = if Qv1 k d v (Qew d R 7 v) then (v, Qew d R 7 v) else if Qbh L (Qt4 d v (Qew d R 7 v)) then (Qt4 d v (Qew d R 7 v), Qew d R 7 v) else (v, Qt4 d v (Qew d R 7 v)) := by
    intro z hz; unfold Xu3; rw [hz]
  have cutc := fun hs => Qw3 (d := d) (k := k) (v := v) (w := Qew d R 7 v) (.inr trivial) f4 f5 v1 hs
  generalize hfe : Qew d R 7 v = f at *
  have hf128 : f < 128 := by have := (Nat.log2_lt (n := f) (k := d + 1) (by omega)).1 (by omega); omega
  have hK6 := Qw8 f4 hf128
  have hd : ∀ t, t < K → hdN d R 7 (f / 2 ^ (t + 1)) = v := fun t ht =>
    Qz7 hhd v1 (t + 1) (K - (t + 1)) 7 (by rw [Nat.add_sub_cancel' (by omega)]; exact f4) (by rw [Nat.add_sub_cancel' (by omega)]; exact f5) (fun i h1 h2 => (f6 i (by omega)).2) (by omega)
  by_cases hfv : f = v
  · rw [if_pos hfv] at hout; cases hout
  · rw [if_neg hfv] at hout
    have hK0 : 0 < K := by
      rcases Nat.eq_zero_or_pos K with e | e
      · subst e; simp at f5; exact absurd f5.symm hfv
      · exact e
    cases hs : Qv1 k d v f with
    | true =>
      rw [hs, if_pos rfl, List.mem_singleton] at hout
      subst hout
      obtain ⟨m1, m2⟩ := Qsa.1 hm
      simp only at m1 m2
      rcases m2 with m2 | m2
      · omega
      · rw [f5] at m1
        obtain ⟨t, t1, t2, t3⟩ := Xf9 h hL hlog hf128 f4 f2 f6 (j := 0) (i := K) hK0 (Nat.le_refl _) m1 (by simpa using m2)
        exact ⟨_, t3, by rw [key _ (hd t t2), hs, if_pos rfl]⟩
    | false =>
      rw [hs, if_neg (by simp)] at hout
      obtain ⟨j, j1, j2, j3⟩ := cutc hs
      generalize hce : Qt4 d v f = c at *
      have hc1 : 1 ≤ c := by rw [j3]; exact Qky (Nat.le_trans (Nat.pow_le_pow_right (by omega) (by omega)) f4)
      rcases List.mem_cons.1 hout with e | e
      · subst e
        obtain ⟨m1, m2⟩ := Qsa.1 hm
        simp only at m1 m2
        rcases m2 with m2 | m2
        · omega
        · have m2' := m2
          rw [f5] at m1; rw [j3] at m2
          obtain ⟨t, t1, t2, t3⟩ := Xf9 h hL hlog hf128 f4 f2 f6 (j := j) (i := K) j2 (Nat.le_refl _) m1 m2
          exact ⟨_, t3, by rw [key _ (hd t t2), hs, if_neg (by simp), m2', if_neg (by simp)]⟩
      · rw [List.mem_singleton] at e
        subst e
        obtain ⟨m1, m2⟩ := Qsa.1 hm
        simp only at m1 m2
        rcases m2 with m2 | m2
        · omega
        · have m1' := m1
          rw [j3] at m1
          obtain ⟨t, t1, t2, t3⟩ := Xf9 h hL hlog hf128 f4 f2 f6 (j := 0) (i := j) (by omega) (by omega) m1 (by simpa using m2)
          exact ⟨_, t3, by rw [key _ (hd t (by omega)), hs, if_neg (by simp), m1', if_pos rfl]⟩
theorem Xj0 (h : Rcv d R) (hne : R ≠ []) : Qjr d R 1 = true := by
  obtain ⟨u, hu⟩ := List.exists_mem_of_ne_nil R hne
  obtain ⟨l1, l2, l3⟩ := h.leaf hu
  exact Qoy.2 ⟨u, hu, (Qcd l1).2 ⟨d, by omega, by rw [Nat.add_div_left _ (Nat.two_pow_pos d), Nat.div_eq_of_lt (h.2 u hu)]⟩⟩
theorem Xbh (h : Rcv d R) (hne : R ≠ []) {y : Nat × Nat} (hy : y ∈ Qsn 1#8 d R) : Qjr d R y.1 = false ∧ 2 ≤ y.1 ∧ Qjr d R (y.1 / 2) = true ∧ y.2 = 0 := by
  obtain ⟨⟨y1, y2⟩, hm⟩ := Qtk.1 hy
  unfold Xoy at hm
  rw [if_pos rfl] at hm
  split at hm
  · rename_i hc
    simp only [Bool.and_eq_true, Bool.not_eq_true', Bool.or_eq_true, decide_eq_true_eq] at hc
    have hr := Xj0 h hne
    have hyn : y.1 ≠ 1 := fun e => by rw [e, hr] at hc; simp at hc
    exact ⟨hc.1, by omega, hc.2.resolve_left hyn, (Option.some.inj hm).symm⟩
  · cases hm
theorem Xk2 (h : Rcv d R) {k : BitVec 8} (hne : R ≠ []) {y y' : Nat × Nat} (hy : y ∈ Qsn k d R) (hy' : y' ∈ Qsn k d R) {u : Nat} (hu : u < 2 ^ d) (hm : Qx1 (2 ^ d + u) y.1 y.2 = true) (hm' : Qx1 (2 ^ d + u) y'.1 y'.2 = true) : y = y' := by
  have hL : 1 ≤ 2 ^ d + u := by have := Nat.two_pow_pos d; omega
  by_cases hk : k = 1#8
  · subst hk
    obtain ⟨a1, a2, a3, a4⟩ := Xbh h hne hy
    obtain ⟨b1, b2, b3, b4⟩ := Xbh h hne hy'
    have m1 := (Qsa.1 hm).1
    have m2 := (Qsa.1 hm').1
    have up : ∀ {s : Nat}, 2 ≤ s → Qbh (2 ^ d + u) s = true → Qbh (2 ^ d + u) (s / 2) = true := fun {s} h2 hb => Qro hL hb ((Qcd (by omega)).2 ⟨1, by simpa using h2, by simp⟩)
    have hz := Xl2 h hL (z1 := y.1 / 2) (z2 := y'.1 / 2) ⟨a3, up a2 m1, y.1, rfl, a2, m1, a1⟩ ⟨b3, up b2 m2, y'.1, rfl, b2, m2, b1⟩
    have l1 := Qif a2
    have l2 := Qif b2
    have := Qqx hL m1 m2 (by rw [l1, l2, hz])
    exact Prod.ext this (by rw [a4, b4])
  · obtain ⟨z, z1, z2⟩ := Xg1 h hk hne hy hu hm
    obtain ⟨z', z1', z2'⟩ := Xg1 h hk hne hy' hu hm'
    rw [z2, z2', Xl2 h hL z1 z1']
theorem Qyv : ∀ (b a w : Nat), Qfb w (a + b) = Qfb (w / 2 ^ b) a ++ Qfb w b
  | 0, a, w => by simp [Qfb]
  | b + 1, a, w => by
    rw [show a + (b + 1) = (a + b) + 1 from rfl, Qtf, Qtf, Qyv b a (w / 2), List.append_assoc, Nat.div_div_eq_div_mul, show 2 * 2 ^ b = 2 ^ (b + 1) from by rw [Nat.pow_succ, Nat.mul_comm]]
theorem Xkc {k : BitVec 8} {v w K : Nat} (h1 : 2 ^ K ≤ w) (h2 : v = w / 2 ^ K) (hv : 1 ≤ v) (hs : Qv1 k d v w = false) : ∃ j, 1 ≤ j ∧ j < K ∧ Qt4 d v w = w / 2 ^ j ∧ Qx6 d (w / 2 ^ j) = true ∧ Qv1 k d v (w / 2 ^ j) = true := by
  have hl := Qdo w K h1
  rw [← h2] at hl
  unfold Qv1 at hs
  simp only [Bool.or_eq_false_iff, decide_eq_false_iff_not] at hs
  have h0 : Qt4 d v w ≠ 0 := hs.2
  unfold Qt4 at h0 ⊢
  unfold Xaw at h0 ⊢
  cases hf : (Qfb (w / 2) (Nat.log2 w - Nat.log2 v - 1)).find? (Qx6 d) with
  | none => rw [hf] at h0; simp at h0
  | some c =>
    obtain ⟨j, hj, rfl⟩ := Qka.1 (List.mem_of_find?_eq_some hf)
    have hdj : w / 2 / 2 ^ j = w / 2 ^ (j + 1) := by rw [Nat.div_div_eq_div_mul, show 2 * 2 ^ j = 2 ^ (j + 1) from by rw [Nat.pow_succ, Nat.mul_comm]]
    have hsp := List.find?_some hf
    rw [hdj] at hsp
    refine ⟨j + 1, by omega, by omega, by rw [Option.getD_some, hdj], hsp, ?_⟩
    have hj1 : 2 ^ (j + 1) ≤ w := Nat.le_trans (Nat.pow_le_pow_right (by omega) (by omega)) h1
    have hlc := Qdo w (j + 1) hj1
    unfold Qv1
    simp only [Bool.or_eq_true, decide_eq_true_eq]
    refine .inr ?_
    have hpos : ∀ n ∈ Qfb (w / 2 ^ (j + 1) / 2) (Nat.log2 (w / 2 ^ (j + 1)) - Nat.log2 v - 1), ∃ t, n = w / 2 ^ (j + 1 + (t + 1)) ∧ j + 1 + (t + 1) < K := by
      intro n hn
      obtain ⟨t, t1, rfl⟩ := Qka.1 hn
      refine ⟨t, ?_, by omega⟩
      rw [Nat.div_div_eq_div_mul, Nat.div_div_eq_div_mul, show 2 ^ (j + 1) * (2 * 2 ^ t) = 2 ^ (j + 1 + (t + 1)) from by rw [Nat.pow_add 2 (j + 1), Nat.pow_succ 2 t, Nat.mul_comm 2 (2 ^ t)]]
    have hpos2 : ∀ n ∈ Qfb (w / 2 ^ (j + 1) / 2) (Nat.log2 (w / 2 ^ (j + 1)) - Nat.log2 v - 1), 1 ≤ n := by
      intro n hn
      obtain ⟨t, rfl, ht⟩ := hpos n hn
      exact Qky (Nat.le_trans (Nat.pow_le_pow_right (by omega) (by omega)) h1)
    rw [Xtc hpos2]
    have hap := Qyv (j + 1) (Nat.log2 (w / 2 ^ (j + 1)) - Nat.log2 v - 1) (w / 2)
    rw [show Nat.log2 (w / 2 ^ (j + 1)) - Nat.log2 v - 1 + (j + 1) = Nat.log2 w - Nat.log2 v - 1 from by omega, show w / 2 / 2 ^ (j + 1) = w / 2 ^ (j + 1) / 2 from by rw [Nat.div_div_eq_div_mul, Nat.div_div_eq_div_mul, Nat.mul_comm]] at hap
    rw [hap, List.find?_append] at hf
    intro n hn
    cases hfn : (Qfb (w / 2 ^ (j + 1) / 2) (Nat.log2 (w / 2 ^ (j + 1)) - Nat.log2 v - 1)).find? (Qx6 d) with
    | none => simpa using (List.find?_eq_none.1 hfn) n hn
    | some a =>
      rw [hfn, Option.some_or] at hf
      obtain ⟨t, e, ht⟩ := hpos a (List.mem_of_find?_eq_some hfn)
      rw [Option.some.inj hf, hdj] at e
      exact absurd e (Qze (Nat.le_trans (Nat.pow_le_pow_right (by omega) (by omega)) h1) (by omega))
theorem Xnf (h : Rcv d R) {k : BitVec 8} (hne : R ≠ []) {y : Nat × Nat} (hy : y ∈ Qsn k d R) : Qx0 k d y.1 y.2 = true := by
  have h64 := Qcq h.1
  have hpow : 2 ^ (d + 1) = 2 * 2 ^ d := by rw [Nat.pow_succ, Nat.mul_comm]
  have hy1 := (Qtk.1 hy).1
  unfold Qx0
  rw [decide_eq_true hy1, Bool.true_and]
  by_cases hk : k = 1#8
  · subst hk
    rw [if_pos rfl, (Xbh h hne hy).2.2.2]; rfl
  · rw [if_neg hk]
    have hv := Xb3 h hne hy
    have hout := (Xc0 h hne hv y).1 ⟨hy, rfl⟩
    have hhd : Xbs d R (Qwx k d R y) = true := by
      unfold Qwx; rw [if_neg hk]
      exact (Qwt 7 y.1 hy1.1 (by have := Qop hy1.1 hy1.2; have := h.1; omega)).1
    generalize hve : Qwx k d R y = v at *
    obtain ⟨v1, vl, v2⟩ := Qnu h hv
    obtain ⟨f1, f2, f3, K, f4, f5, f6⟩ := Qoh h 7 v v1 vl (by have := h.1; omega)
    unfold Xd2 at hout
    rw [if_neg hk, if_pos hhd] at hout
    have cutc := fun hs => Xkc (d := d) (k := k) (v := v) (w := Qew d R 7 v) f4 f5 v1 hs
    generalize hfe : Qew d R 7 v = f at *
    have hflt : f < 2 ^ (d + 1) := (Nat.log2_lt (by omega)).1 (by omega)
    have two : ∀ i j, i < j → j ≤ K → Qbh (f / 2 ^ i) (f / 2 ^ j) = true ∧ f / 2 ^ i ≠ f / 2 ^ j ∧ f / 2 ^ i < 2 ^ (d + 1) ∧ f / 2 ^ i ≠ 0 := by
      intro i j hij hj
      have hi1 : 2 ^ i ≤ f := Nat.le_trans (Nat.pow_le_pow_right (by omega) (by omega)) f4
      have hj1 : 2 ^ j ≤ f := Nat.le_trans (Nat.pow_le_pow_right (by omega) (by omega)) f4
      have hp := Qky hi1
      refine ⟨(Qcd hp).2 ⟨j - i, Qki (by rw [Nat.add_sub_cancel' (by omega)]; exact hj1), ?_⟩, Qze hj1 hij, Nat.lt_of_le_of_lt (Nat.div_le_self _ _) hflt, by omega⟩
      rw [Nat.div_div_eq_div_mul, ← Nat.pow_add, Nat.add_sub_cancel' (by omega)]
    by_cases hfv : f = v
    · rw [if_pos hfv] at hout; cases hout
    · rw [if_neg hfv] at hout
      have hK0 : 0 < K := by
        rcases Nat.eq_zero_or_pos K with e | e
        · subst e; simp at f5; exact absurd f5.symm hfv
        · exact e
      have t0 := two 0 K hK0 (Nat.le_refl _)
      rw [Nat.pow_zero, Nat.div_one, ← f5] at t0
      cases hs : Qv1 k d v f with
      | true =>
        rw [hs, if_pos rfl, List.mem_singleton] at hout
        subst hout
        simp only
        rw [if_neg t0.2.2.2, t0.1, hs, decide_eq_true ⟨t0.2.2.1, t0.2.1⟩]; rfl
      | false =>
        rw [hs, if_neg (by simp)] at hout
        obtain ⟨j, j1, j2, j3, j4, j5⟩ := cutc hs
        rw [j3] at hout
        have t1 := two j K j2 (Nat.le_refl _)
        have t2 := two 0 j (by omega) (by omega)
        rw [Nat.pow_zero, Nat.div_one] at t2
        rw [← f5] at t1
        rcases List.mem_cons.1 hout with e | e
        · subst e
          simp only
          rw [if_neg t1.2.2.2, t1.1, j5, decide_eq_true ⟨t1.2.2.1, t1.2.1⟩]; rfl
        · rw [List.mem_singleton] at e
          subst e
          simp only
          have : Qv1 k d (f / 2 ^ j) f = true := by unfold Qv1; rw [j4]; simp
          rw [if_neg t2.2.2.2, t2.1, this, decide_eq_true ⟨t2.2.2.1, t2.2.1⟩]; rfl
theorem Xhg {x : Nat} (h1 : 1 ≤ x) (hl : Nat.log2 x ≤ d) : ∃ u, u < 2 ^ d ∧ Qbh (2 ^ d + u) x = true := by
  have hx1 : 2 ^ Nat.log2 x ≤ x := (Nat.le_log2 (by omega)).1 (Nat.le_refl _)
  have hx2 : x < 2 ^ (Nat.log2 x + 1) := (Nat.log2_lt (by omega)).1 (by omega)
  have hp : 2 ^ d = 2 ^ Nat.log2 x * 2 ^ (d - Nat.log2 x) := by rw [← Nat.pow_add, Nat.add_sub_cancel' hl]
  have hq := Nat.two_pow_pos (d - Nat.log2 x)
  have hlow : 2 ^ d ≤ x * 2 ^ (d - Nat.log2 x) := by rw [hp]; exact Nat.mul_le_mul_right _ hx1
  have hhigh : x * 2 ^ (d - Nat.log2 x) < 2 ^ d + 2 ^ d := by
    have : x * 2 ^ (d - Nat.log2 x) < 2 ^ (Nat.log2 x + 1) * 2 ^ (d - Nat.log2 x) := Nat.mul_lt_mul_of_pos_right hx2 hq
    rw [Nat.pow_succ, Nat.mul_right_comm, ← hp] at this; omega
  refine ⟨x * 2 ^ (d - Nat.log2 x) - 2 ^ d, by omega, ?_⟩
  rw [Nat.add_sub_cancel' hlow]
  exact (Qcd (by have := Nat.two_pow_pos d; omega)).2 ⟨d - Nat.log2 x, Nat.le_mul_of_pos_left _ (by omega), by rw [Nat.mul_div_cancel _ hq]⟩
theorem Xns {k : BitVec 8} {n m : Nat} (h6 : d ≤ 6) (h : Qx0 k d n m = true) : ∃ u, u < 2 ^ d ∧ Qx1 (2 ^ d + u) n m = true := by
  have h64 := Qcq h6
  have hpow : 2 ^ (d + 1) = 2 * 2 ^ d := by rw [Nat.pow_succ, Nat.mul_comm]
  unfold Qx0 at h
  rw [Bool.and_eq_true, decide_eq_true_eq] at h
  obtain ⟨⟨h1, h2⟩, h3⟩ := h
  by_cases hm : m = 0
  · obtain ⟨u, hu, hb⟩ := Xhg (d := d) h1 (Qop h1 h2)
    exact ⟨u, hu, Qsa.2 ⟨hb, .inl hm⟩⟩
  · by_cases hk : k = 1#8
    · rw [if_pos hk] at h3; exact absurd (by simpa using h3) hm
    · rw [if_neg hk, if_neg hm, Bool.and_eq_true, Bool.and_eq_true, decide_eq_true_eq] at h3
      obtain ⟨⟨⟨a1, a2⟩, a3⟩, _⟩ := h3
      have hm1 : 1 ≤ m := by omega
      obtain ⟨t, t1, t2, t3⟩ := Qkg hm1 h1 a3 a2
      have hm2 : 2 ≤ m := Nat.le_trans (by have := Nat.pow_le_pow_right (n := 2) (by omega) (show 1 ≤ t + 1 by omega); simpa using this) t3
      have hl := Qop hm1 a1
      have e1 := Xm7 (n := m) (by omega)
      have e2 := Qqt (n := m) (by omega) hm2
      have e3 := Xc5 (n := m) (by omega) hm2
      have e4 := Qyc (n := m) (by omega)
      have e5 := Xlw (n := m) (by omega)
      obtain ⟨u, hu, hb⟩ := Xhg (d := d) (x := m ^^^ 1) (by omega) (by omega)
      have hL : 1 ≤ 2 ^ d + u := by have := Nat.two_pow_pos d; omega
      refine ⟨u, hu, Qsa.2 ⟨Qro hL hb ((Qcd (by omega)).2 ⟨t + 1, ?_, ?_⟩), .inr ?_⟩⟩
      · have := (Nat.le_log2 (n := m) (k := t + 1) (by omega)).2 t3
        exact (Nat.le_log2 (by omega)).1 (by omega)
      · rw [t2, Nat.pow_succ, Nat.mul_comm, ← Nat.div_div_eq_div_mul, ← Nat.div_div_eq_div_mul, e4]
      · cases hb2 : Qbh (2 ^ d + u) m with
        | false => rfl
        | true => exact absurd (Qqx hL hb hb2 e3) e5
def Qww (k : BitVec 8) (d : Nat) (R : List Nat) : List (Nat × Nat) := if R = [] then [(1, 0)] else Qsn k d R
theorem Xjp {k : BitVec 8} : Asc (Qww k d R) := by
  unfold Qww; split
  · simp [Asc]
  · exact Xc7
theorem Qyp (h : Rcv d R) {k : BitVec 8} {y : Nat × Nat} (hy : y ∈ Qww k d R) : Qx0 k d y.1 y.2 = true := by
  unfold Qww at hy; split at hy
  · rw [List.mem_singleton] at hy; subst hy
    unfold Qx0
    have : 1 < 2 ^ (d + 1) := Nat.lt_of_lt_of_le (by omega) (Nat.pow_le_pow_right (n := 2) (by omega) (show 1 ≤ d + 1 by omega))
    rw [decide_eq_true ⟨Nat.le_refl _, this⟩]
    split <;> simp
  · rename_i hne; exact Xnf h hne hy
theorem Xfl (h : Rcv d R) {k : BitVec 8} {y y' : Nat × Nat} (hy : y ∈ Qww k d R) (hy' : y' ∈ Qww k d R) {u : Nat} (hu : u < 2 ^ d) (hm : Qx1 (2 ^ d + u) y.1 y.2 = true) (hm' : Qx1 (2 ^ d + u) y'.1 y'.2 = true) : y = y' := by
  unfold Qww at hy hy'; split at hy
  · rename_i hne
    rw [if_pos hne] at hy'
    rw [List.mem_singleton] at hy hy'; rw [hy, hy']
  · rename_i hne
    rw [if_neg hne] at hy'
    exact Xk2 h hne hy hy' hu hm hm'
end Go.Sx

end
section
set_option linter.unusedVariables false
set_option linter.unusedSimpArgs false
set_option maxRecDepth 100000
namespace Go.Sx
open Go
theorem Qpo {τ R : Type} (F : (τ → Option R) → τ → Option R) (I : Nat → τ → Prop) (n : Nat) (r : Option R) (hn : n < 9223372036854775808) {s : τ} (h0 : I 0 s) (hs : ∀ j s, j < n → I j s → ∃ s', I (j + 1) s' ∧ ∀ rec, F rec s = rec s') (he : ∀ s, I n s → ∀ rec, F rec s = r) : Qc2 F Qcw s = r :=
  Qyz F I n r hs he n 0 Qcw s (by omega) (Qdv hn) h0
section
variable {s : Qa8} {d : Nat}
theorem Xe0 (hv : Qnb s = true) (hd : s.Depth = (d : Int)) (h6 : d ≤ 6) {n m : Nat} (hs : Qx0 s.Kind d n m = true) : Qdb s [⟨(n : Int), (m : Int)⟩] = some (Qdr s, 0) ∧ Qda s ⟨(n : Int), (m : Int)⟩ = some true ∧ Qck (Qdr s) ⟨(n : Int), (m : Int)⟩ = some true ∧ Qxw s ⟨(n : Int), (m : Int)⟩ ∧ Xpi s ⟨(n : Int), (m : Int)⟩ n m := by
  have hi := Xdw hv hd h6 n m
  rw [hs] at hi
  rcases Xhb hv hd h6 ⟨(n : Int), (m : Int)⟩ with ⟨_, f1, _⟩ | ⟨f0, f1, f2, f3, n', m', e, f5, f6⟩
  · rw [hi] at f1; cases f1
  · injection e with e1 e2
    obtain rfl : n = n' := by omega
    obtain rfl : m = m' := by omega
    exact ⟨f0, f1, f2, f3, f5⟩
theorem Xi6 (hv : Qnb s = true) (hd : s.Depth = (d : Int)) {l : List Int} (h : Qt3 d l = true) : Xky s l = ((Qww s.Kind d (Qid l)).map mkS, 0) := by
  unfold Xky Qww Qid
  rw [if_pos hv, hd, Int.toNat_natCast, if_pos h]
  by_cases hl : l = []
  · rw [if_pos hl, if_pos (by simpa using hl)]; rfl
  · rw [if_neg hl, if_neg (by simpa using hl)]
end
end Go.Sx

end
section
set_option linter.unusedVariables false
set_option linter.unusedSimpArgs false
set_option maxRecDepth 100000
namespace Go.Sx
open Go
end Go.Sx

end
section
set_option linter.unusedVariables false
set_option linter.unusedSimpArgs false
set_option maxRecDepth 100000
namespace Go.Sx
open Go
theorem Qpv (x : BitVec 64) (n m : Nat) (h : n + m = 64) (hn : 0 < n) (hm : 0 < m) : Xbf (Xbf x n) m = x := by
  unfold Xbf
  apply BitVec.eq_of_getLsbD_eq
  intro i hi
  simp only [BitVec.getLsbD_or, BitVec.getLsbD_shiftLeft, BitVec.getLsbD_ushiftRight]
  by_cases h1 : i < m
  · have h2 : ¬ (64 - m + i < n) := by omega
    have h3 : 64 - m + i < 64 := by omega
    have h4 : 64 - m + i - n = i := by omega
    have h5 : 64 ≤ 64 - n + (64 - m + i) := by omega
    rw [h4, BitVec.getLsbD_of_ge x _ h5]
    simp [h1, hi, h2, h3]
  · have h2 : i - m < n := by omega
    have h3 : 64 - n + (i - m) = i := by omega
    have h4 : 64 ≤ 64 - m + i := by omega
    have h6 : ¬ 64 - m + i < 64 := by omega
    have h7 : 64 ≤ 64 - n + (64 - m + i) := by omega
    rw [h3, BitVec.getLsbD_of_ge x _ h7]
    simp [h1, hi, h2, h6]
theorem Qyl (p : W2) (k : BitVec 64) : Xcy (rnd p k) k = p := by
  obtain ⟨a, b⟩ := p
  unfold Xcy rnd
  simp only
  have h1 : ∀ x y : BitVec 64, x ^^^ (y ^^^ x) = y := fun x y => by rw [BitVec.xor_comm y x, ← BitVec.xor_assoc, BitVec.xor_self, BitVec.zero_xor]
  have h2 : ∀ x y : BitVec 64, (x ^^^ y) ^^^ y = x := fun x y => by rw [BitVec.xor_assoc, BitVec.xor_self, BitVec.xor_zero]
  rw [h1, h2, Qpv b 3 61 (by omega) (by omega) (by omega), BitVec.add_sub_cancel, Qpv a 56 8 (by omega) (by omega) (by omega)]
theorem Xsn (K : Nat → BitVec 64) : ∀ (n : Nat) (b : W2), (List.range n).foldl (fun p i => Xcy p (K (n - 1 - i))) ((List.range n).foldl (fun p i => rnd p (K i)) b) = b
  | 0, b => rfl
  | n + 1, b => by
    rw [show (List.range (n + 1)).foldl (fun p i => rnd p (K i)) b = rnd ((List.range n).foldl (fun p i => rnd p (K i)) b) (K n) from by rw [List.range_succ, List.foldl_append]; rfl]
    rw [List.range_succ_eq_map, List.foldl_cons, show n + 1 - 1 - 0 = n from rfl, Qyl, List.foldl_map]
    have := Xsn K n b
    rw [show (fun (p : W2) (i : Nat) => Xcy p (K (n + 1 - 1 - i.succ))) = fun p i => Xcy p (K (n - 1 - i)) from by funext p i; congr 2; omega]
    exact this
theorem Qwu (k b : W2) : Xex k (Qw4 k b) = b := Xsn (fun i => (ks k i).2) 32 b
def Xlk (root : W2) (k : BitVec 8) (n m : Nat) : W2 :=
  if k = 1#8 then drv root (un8 30#8) (wd (n : Int)) else if m = 0 then drv root (un8 34#8) 0#64 else drv ((Qfb m (Nat.log2 m - Nat.log2 n)).foldl stp (drv root (un8 30#8) (wd (n : Int)))) (un8 33#8) 0#64
section
variable {s : Qa8} {d : Nat}
theorem Xo2 (h6 : d ≤ 6) {n m : Nat} (hs : Qx0 s.Kind d n m = true) (root : W2) : Qf7 (Qdr s) root ⟨(n : Int), (m : Int)⟩ = some (Xlk root s.Kind n m) := by
  obtain ⟨hn1, hn2, hm2, hc⟩ := Xbz h6 hs
  unfold Qf7 Xlk Qg0 Qjd
  rw [show (Qdr s).kind = s.Kind from rfl]
  by_cases hk : s.Kind = 1#8
  · rw [if_pos hk, if_pos hk]; rfl
  · rw [if_neg hk, if_neg hk]
    by_cases hm : m = 0
    · rw [if_pos (by simp only; omega), if_pos hm]
    · rw [if_neg (by simp only; omega), if_neg hm]
      obtain ⟨hb, hne⟩ : Qbh m n = true ∧ m ≠ n := by
        rcases hc with h | h | h
        · exact absurd h hk
        · exact absurd h hm
        · exact h
      obtain ⟨t, t1, t2, t3⟩ := Qkg (by omega) hn1 hb hne
      have := Qw8 t3 hm2
      simp only
      rw [bind_some, t1]
      have hd := Qr0 (w := m) (k := t + 1) (drv root (un8 30#8) (wd (n : Int))) (by omega) t3 (by omega)
      rw [← t2] at hd
      rw [hd, bind_some, bind_some]
theorem Xko (hv : Qnb s = true) (hd : s.Depth = (d : Int)) (h6 : d ≤ 6) {u n m : Nat} (hu : u < 2 ^ d) (hs : Qx0 s.Kind d n m = true) (root : W2) (ui : Int) (pt : Qah) :
    Qi5 (Qdr s) (Qaf.mk ui (Qzi root s.Kind d u) pt) ⟨(n : Int), (m : Int)⟩ = some (if Qx1 (2 ^ d + u) n m then (Xlk root s.Kind n m, true) else (k0, false)) := by
  obtain ⟨e1, e2, e3, e4⟩ := Qzp hv hd h6 hu
  obtain ⟨hn1, hn2, hm2, hc⟩ := Xbz h6 hs
  have hlen : (Qzi root s.Kind d u).length = (Qsw s.Kind d u).length := by simp [Qzi]
  unfold Qi5
  have p1 := Qvb (Qsw s.Kind d u) (Qcn (Qdr s) (Qaf.mk ui (Qzi root s.Kind d u) pt) ⟨(n : Int), (m : Int)⟩) (fun j (_ : Unit) => (j : Int)) (fun a nx s' => bif ldN s.Kind n m a then some (Xlk root s.Kind n m, true) else nx s') (fun _ => some (k0, false))
    (fun rec j hj _ => by
      simp only [Qcn]
      have hj' : j < (Qzi root s.Kind d u).length := by omega
      have hok := e4 _ (List.getElem_mem hj)
      have ham := List.getElem_mem hj
      rw [if_pos (by omega), Qc6 hj', bind_some, show (Qzi root s.Kind d u)[j] = lbl root s.Kind (Qsw s.Kind d u)[j] from by simp [Qzi], Qes (by omega)]
      generalize (Qsw s.Kind d u)[j] = a at *
      rw [show lbl root s.Kind a = Qb7.mk (a.1 : Int) (a.2 : Int) (Xhk root s.Kind a) from rfl, (Xba h6 hs ⟨hok.1.2.1, hok.1.2.2⟩ _).1, bind_some]
      cases hl : ldN s.Kind n m a with
      | false => rfl
      | true =>
        simp only [Bool.not_true, cond_false, cond_true]
        rw [show (Qdr s).kind = s.Kind from rfl]
        unfold Qel Xlk Xhk
        unfold ldN at hl
        by_cases hk : s.Kind = 1#8
        · have h0 := Xun hk a ham
          rw [if_pos (.inl hk), decide_eq_true_eq] at hl
          rw [if_pos hk, if_pos hk, cond_true]
          simp only
          rw [if_pos h0, if_pos hk, hl.1]
        · rw [if_neg hk, if_neg hk]
          by_cases hm : m = 0
          · rw [if_pos (.inr hm), decide_eq_true_eq] at hl
            rw [decide_eq_true (by omega), cond_true, if_pos hm]
            simp only
            rw [if_pos (by omega), if_neg hk]
          · rw [if_neg (by rw [not_or]; exact ⟨hk, hm⟩)] at hl
            simp only [Bool.and_eq_true, decide_eq_true_eq] at hl
            obtain ⟨⟨⟨ha1, ha2⟩, ha3⟩, ha4⟩ := hl
            rw [decide_eq_false (by omega), cond_false, if_neg hm]
            simp only
            rw [if_neg (by omega)]
            obtain ⟨i, i1, i2⟩ := Qub (by omega) ha4
            have hi6 := Qw8 i2 hm2
            have hdl := fun key => Qr0 (w := m) (k := i) key (by omega) i2 (by omega)
            rw [← i1] at hdl
            rw [hdl, bind_some]
            unfold Qjd
            rw [bind_some]
            have hlg := Qdo m i i2
            rw [← i1] at hlg
            have hln := Xa1 ha2 ha3
            rw [show Nat.log2 m - Nat.log2 n = (Nat.log2 a.2 - Nat.log2 n) + i from by omega, Qyv, ← i1, List.foldl_append, ha1, if_neg hk])
    (fun rec _ => by simp only [Qcn]; rw [if_neg (by omega)]) (f := Qcw) (Qdv (by omega)) ()
  rw [show ((0 : Nat) : Int) = 0 from rfl] at p1
  rw [p1, Qyt (ldN s.Kind n m) (fun _ _ => some (Xlk root s.Kind n m, true)) _ _ _ _ (fun a _ nx s => rfl), Xmp h6 hu hs]
  unfold Xt6
  cases (Qsw s.Kind d u).find? (ldN s.Kind n m) with
  | none => rfl
  | some a => rfl
theorem Xow (hv : Qnb s = true) (hd : s.Depth = (d : Int)) {u : Nat} (hu : u < 2 ^ d) (root : W2) : Xm9 root s (u : Int) = (Qaf.mk (u : Int) (Qzi root s.Kind d u) (Qah.mk 0#64 0#64), 0) := by
  unfold Xm9
  rw [if_pos hv, hd, Int.toNat_natCast, if_pos (by omega), Int.toNat_natCast]
end
end Go.Sx

end
section
set_option linter.unusedVariables false
set_option linter.unusedSimpArgs false
set_option maxRecDepth 100000
namespace Go.Sx
open Go
theorem Xni {α β : Type} (f : α → β) {l : List α} {m : List β} (hl : l.Nodup) (hf : ∀ a ∈ l, f a ∈ m) (hi : ∀ a ∈ l, ∀ b ∈ l, f a = f b → a = b) : l.length ≤ m.length := by
  have h1 : (l.map f).Nodup := by
    rw [List.Nodup, List.pairwise_map]
    exact hl.imp_of_mem fun ha hb h e => h (hi _ ha _ hb e)
  have h2 : l.map f ⊆ m := fun b hb => by
    obtain ⟨a, ha, rfl⟩ := List.mem_map.1 hb
    exact hf a ha
  have := h1.length_le_of_subset h2
  rwa [List.length_map] at this
theorem Xhs {l : List (Nat × Nat)} (h : Asc l) : l.Nodup := h.imp fun h e => by rw [e] at h; omega
theorem Qxv {d : Nat} {R : List Nat} (h : Rcv d R) (k : BitVec 8) : (Qww k d R).length ≤ 2 ^ d := by
  have hm : ∀ y : Nat × Nat, ∃ u, y ∈ Qww k d R → u < 2 ^ d ∧ Qx1 (2 ^ d + u) y.1 y.2 = true := fun y => by
    by_cases hy : y ∈ Qww k d R
    · obtain ⟨u, h1, h2⟩ := Xns h.1 (Qyp h hy); exact ⟨u, fun _ => ⟨h1, h2⟩⟩
    · exact ⟨0, fun h => absurd h hy⟩
  let f := fun y => Classical.choose (hm y)
  have hf : ∀ y ∈ Qww k d R, f y < 2 ^ d ∧ Qx1 (2 ^ d + f y) y.1 y.2 = true := fun y hy => Classical.choose_spec (hm y) hy
  have := Xni f (m := List.range (2 ^ d)) (Xhs Xjp) (fun y hy => List.mem_range.2 (hf y hy).1) (fun a ha b hb e => Xfl h ha hb (hf a ha).1 (hf a ha).2 (by rw [e]; exact (hf b hb).2))
  rwa [List.length_range] at this
section
variable {s : Qa8} {d : Nat}
def Xkw (root ses : W2) (k : BitVec 8) (y : Nat × Nat) : Qce := Qce.mk (mkS y) (Qw4 (Xlk root k y.1 y.2) ses)
def Qxk (root ses : W2) (k : BitVec 8) (l : List (Nat × Nat)) : Qa9 := Qa9.mk (l.map (Xkw root ses k)) 0#64 [] k0 (drv ses (un8 53#8) 0#64)
theorem Xjb (s : Qa8) : Qer s = some (if Qnb s then 0 else 30) := by
  unfold Qer
  rw [Qqb, bind_some]
  cases Qnb s <;> rfl
theorem Xfz (hv : Qnb s = true) (hd : s.Depth = (d : Int)) (h6 : d ≤ 6) (l : List (Nat × Nat)) (hl : ∀ y ∈ l, Qx0 s.Kind d y.1 y.2 = true) (hlen : l.length < 4611686018427387904) : Qdb s (l.map mkS) = some (Qdr s, 0) := by
  unfold Qdb
  rw [Qqb, bind_some, if_pos hv]
  simp only [Bool.not_true, cond_false]
  refine Qpo _ (fun j x => x = (j : Int)) l.length _ (by omega) rfl ?_ ?_
  · rintro j _ hj rfl
    refine ⟨_, rfl, fun rec => ?_⟩
    simp only [Qf5]
    rw [if_pos (by simp; omega), Qc6 (by simpa using hj), bind_some, List.getElem_map, show mkS l[j] = ⟨(l[j].1 : Int), (l[j].2 : Int)⟩ from rfl, (Xe0 hv hd h6 (hl _ (List.getElem_mem hj))).2.2.1, bind_some, Qes (by omega)]; rfl
  · rintro _ rfl rec
    simp only [Qf5]
    rw [if_neg (by simp)]
theorem Quw (hv : Qnb s = true) (hd : s.Depth = (d : Int)) (h6 : d ≤ 6) (l : List (Nat × Nat)) (hl : ∀ y ∈ l, Qx0 s.Kind d y.1 y.2 = true) (hlen : l.length ≤ 64) (root ses : W2) : Qjm root s (l.map mkS) ses = some (Qxk root ses s.Kind l, 0) := by
  unfold Qjm
  rw [Xjb, bind_some, if_pos hv, if_neg (by simp), if_neg (by simp; omega), Xfz hv hd h6 l hl (by omega), bind_some, if_neg (by simp)]
  refine Qpo _ (fun j x => x = ((j : Int), (l.take j).map (Xkw root ses s.Kind))) l.length _ (by omega) (by simp) ?_ ?_
  · rintro j _ hj rfl
    refine ⟨_, rfl, fun rec => ?_⟩
    simp only [Qil]
    rw [if_pos (by simp; omega), Qc6 (by simpa using hj), bind_some, List.getElem_map, show mkS l[j] = ⟨(l[j].1 : Int), (l[j].2 : Int)⟩ from rfl, Xo2 h6 (hl _ (List.getElem_mem hj)), bind_some, Qi9 (by simp; omega), bind_some, Qes (by omega), Qmk l j hj, List.map_append]; rfl
  · rintro _ rfl rec
    simp only [Qil]
    rw [if_neg (by simp), List.take_length]; rfl
theorem Xjr (hv : Qnb s = true) (hd : s.Depth = (d : Int)) (h6 : d ≤ 6) {u : Nat} (hu : u < 2 ^ d) (l : List (Nat × Nat)) (hl : ∀ y ∈ l, Qx0 s.Kind d y.1 y.2 = true) (hlen : l.length ≤ 64) (root ses : W2) (ui : Int) (pt : Qah) :
    Qks s (Qaf.mk ui (Qzi root s.Kind d u) pt) (Qxk root ses s.Kind l) = some (if l.any (fun y => Qx1 (2 ^ d + u) y.1 y.2) then (ses, 0) else (k0, 6)) := by
  unfold Qks
  rw [Xhr, bind_some, if_pos hv, if_neg (by simp), if_neg (by simp [Qxk]; omega), if_neg (by simp [Qxk]), if_neg (by simp [Qxk]), if_neg (by simp [Qxk])]
  have hc : Qbu (Qxk root ses s.Kind l).Items (Qdr s) = some false := by
    rw [show (Qxk root ses s.Kind l).Items = l.map (Xkw root ses s.Kind) from rfl]
    unfold Qbu Qct
    have : Qc2 (Qb9 (l.map (Xkw root ses s.Kind)) (Qdr s)) Qcw 0 = some (-1) := by
      refine Qpo _ (fun j x => x = (j : Int)) l.length _ (by omega) rfl ?_ ?_
      · rintro j _ hj rfl
        refine ⟨_, rfl, fun rec => ?_⟩
        simp only [Qb9]
        rw [if_pos (by simp; omega), Qc6 (by simpa using hj), bind_some, List.getElem_map]
        unfold Qnd
        rw [show (Xkw root ses s.Kind l[j]).Subset = ⟨(l[j].1 : Int), (l[j].2 : Int)⟩ from rfl, (Xe0 hv hd h6 (hl _ (List.getElem_mem hj))).2.2.1, bind_some, bind_some, Qes (by omega)]; rfl
      · rintro _ rfl rec
        simp only [Qb9]
        rw [if_neg (by simp)]
    rw [this, bind_some]; rfl
  simp only
  rw [hc, bind_some]
  unfold Qfy
  rw [cond_false]
  have p1 := Qvb l (Qgz (Qaf.mk ui (Qzi root s.Kind d u) pt) (Qxk root ses s.Kind l) (Qdr s, 0)) (fun j (_ : Unit) => (j : Int)) (fun y nx s' => bif Qx1 (2 ^ d + u) y.1 y.2 then some (ses, 0) else nx s') (fun _ => some (k0, 6))
    (fun rec j hj _ => by
      simp only [Qgz]
      rw [if_pos (by simp [Qxk]; omega), show Qg5 (Qxk root ses s.Kind l).Items (j : Int) = some (Xkw root ses s.Kind l[j]) from by unfold Qxk; rw [Qc6 (by simpa using hj), List.getElem_map], bind_some, show (Xkw root ses s.Kind l[j]).Subset = ⟨(l[j].1 : Int), (l[j].2 : Int)⟩ from rfl, Xko hv hd h6 hu (hl _ (List.getElem_mem hj)), bind_some, Qes (by omega)]
      cases Qx1 (2 ^ d + u) l[j].1 l[j].2 with
      | false => rfl
      | true =>
        simp only [if_true, cond_true]
        rw [show (Xkw root ses s.Kind l[j]).Box = Qw4 (Xlk root s.Kind l[j].1 l[j].2) ses from rfl, Qwu, if_pos (show drv ses (un8 53#8) 0#64 = (Qxk root ses s.Kind l).Check from rfl)])
    (fun rec _ => by simp only [Qgz]; rw [if_neg (by simp [Qxk])]) (f := Qcw) (Qdv (by omega)) ()
  rw [show ((0 : Nat) : Int) = 0 from rfl] at p1
  rw [p1, Qyt (fun y : Nat × Nat => Qx1 (2 ^ d + u) y.1 y.2) (fun _ _ => some (ses, 0)) _ _ _ _ (fun a _ nx s => rfl)]
  cases hf : l.find? (fun y : Nat × Nat => Qx1 (2 ^ d + u) y.1 y.2) with
  | none => rw [List.any_eq_false.2 (fun a ha => (List.find?_eq_none.1 hf) a ha)]; rfl
  | some a => rw [List.any_eq_true.2 ⟨a, List.mem_of_find?_eq_some hf, List.find?_some hf⟩]; rfl
end
end Go.Sx

end
section
set_option linter.unusedVariables false
set_option linter.unusedSimpArgs false
set_option linter.unusedSectionVars false
set_option maxRecDepth 100000
namespace Go.Sx.Po
open Go
def fi (q : Nat) [NeZero q] (n : Nat) : Fin q := Fin.ofNat q n
abbrev fe {q : Nat} (a : Fin q) : BitVec 64 := bn a.val
section
variable {q : Nat} [NeZero q]
theorem Qq9 (n : Nat) : (fi q n).val = n % q := rfl
theorem Qmo (a : Fin q) : fi q a.val = a := by apply Fin.ext; rw [Qq9]; exact Nat.mod_eq_of_lt a.isLt
theorem Xau (a b : Nat) : fi q (a + b) = fi q a + fi q b := by apply Fin.ext; simp [fi, Fin.ofNat, Fin.add_def]
theorem Quj (a b : Nat) : fi q (a * b) = fi q a * fi q b := by apply Fin.ext; simp [fi, Fin.ofNat, Fin.mul_def]
theorem Xib (n : Nat) : fi q (n % q) = fi q n := by apply Fin.ext; rw [Qq9, Qq9, Nat.mod_mod]
theorem Xul : fi q 0 = 0 := rfl
theorem Xuv : fi q 1 = 1 := rfl
theorem Xuu : fi q q = 0 := by apply Fin.ext; rw [Qq9, Nat.mod_self]; rfl
theorem Xr4 {a b : Nat} (h : b ≤ a) : fi q (a - b) = fi q a - fi q b := by
  have := Xau (q := q) (a - b) b
  rw [Nat.sub_add_cancel h] at this
  grind
theorem Xfq {n : Nat} (h : n < q) : (fi q n).val = n := Nat.mod_eq_of_lt h
theorem Xpw {a b : Nat} (ha : a < q) (hb : b < q) (h : fi q a = fi q b) : a = b := by rw [← Xfq ha, ← Xfq hb, h]
theorem Xgc {n : Nat} (h : n < q) : fe (fi q n) = bn n := by unfold fe; rw [Xfq h]
theorem Xb5 (q1 : 2 ≤ q) (q2 : q ≤ 1048575) (a b : Fin q) : Qdj (bn q) [fe a, fe b] = some (fe (a * b)) := by
  rw [Xbp q1 q2 a.isLt b.isLt]; rfl
theorem Xmx (q1 : 2 ≤ q) (q2 : q ≤ 1048575) (a b : Fin q) : Qj0 (bn q) (fe a) (fe b) = some (fe (a - b)) := by
  have ha := a.isLt
  have hb := b.isLt
  unfold Qj0 fe
  rw [Qud, Qzh (by omega) (by omega), Qff (by omega) (by omega) (by omega), bind_some, Fin.sub_def]
  simp only
  congr 3; omega
theorem Xnj {q a : Nat} (hP : Prm q) (h0 : 0 < a) (h1 : a < q) : Nat.gcd q a = 1 := by
  have hg : Nat.gcd q a ∣ q := Nat.gcd_dvd_left q a
  have hga : Nat.gcd q a ∣ a := Nat.gcd_dvd_right q a
  have hle := Nat.le_of_dvd h0 hga
  have hpos : 0 < Nat.gcd q a := Nat.gcd_pos_of_pos_right _ h0
  rcases Nat.lt_or_ge (Nat.gcd q a) 2 with h | h
  · omega
  · exfalso
    obtain ⟨k, hk⟩ := hg
    have hk2 : 2 ≤ k := by
      rcases k with _ | _ | k
      · simp at hk; omega
      · simp at hk; omega
      · omega
    rcases Nat.le_total (Nat.gcd q a) k with hgk | hgk
    · refine hP.2 _ h ?_ (Nat.mod_eq_zero_of_dvd ⟨k, hk⟩)
      calc _ ≤ Nat.gcd q a * k := Nat.mul_le_mul_left _ hgk
        _ = q := hk.symm
    · refine hP.2 k hk2 ?_ (Nat.mod_eq_zero_of_dvd ⟨Nat.gcd q a, by rw [Nat.mul_comm]; exact hk⟩)
      calc k * k ≤ Nat.gcd q a * k := Nat.mul_le_mul_right _ hgk
        _ = q := hk.symm
theorem Xru (n : Nat) : wd (n : Int) = bn n := Qu3 n
theorem Xub (a b : Nat) : Int.tdiv (a : Int) (b : Int) = ((a / b : Nat) : Int) := rfl
theorem Xn2 (a b : Nat) : Int.tmod (a : Int) (b : Int) = ((a % b : Nat) : Int) := rfl
theorem Xov (a b : Nat) : Int.tmod (-(a : Int)) (b : Int) = -((a % b : Nat) : Int) := by rw [Int.neg_tmod]; rfl
theorem Xg0 {a b : Int} (h : b ≠ 0) : Qzg a b = some (w64 (a.tdiv b)) := if_neg h
theorem Qv7 {a b : Int} (h : b ≠ 0) : Qwa a b = some (a.tmod b) := if_neg h
theorem Xn0 {m : Nat} (m1 : 2 ≤ m) (m2 : m ≤ 1048575) (σ : Int) (hσ : σ = 1 ∨ σ = -1) (S : Nat) (hS : S ≤ m) :
    ∃ x : Nat, x < m ∧ (∃ j : Int, (x : Int) = σ * S + j * m) ∧ (Option.bind (Qwa (σ * S) (w64 (un (bn m)))) fun x12 => (Option.bind (Qwa (w64 (x12 + (w64 (un (bn m))))) (w64 (un (bn m)))) fun x13 => ((some (wd x13, (0 : Int)))))) = some (bn x, 0) := by
  have hun : w64 (un (bn m)) = (m : Int) := by rw [show un (bn m) = (m : Int) from by unfold un; rw [Qg3 (by omega)]]; exact Qdt (by omega) (by omega)
  have hlt := Nat.mod_lt S (show 0 < m by omega)
  have hdm := Nat.div_add_mod S m
  rw [hun, Qv7 (by omega), bind_some]
  rcases hσ with rfl | rfl
  · refine ⟨S % m, hlt, ⟨-((S / m : Nat) : Int), ?_⟩, ?_⟩
    · have : ((m * (S / m) + S % m : Nat) : Int) = (S : Int) := by rw [hdm]
      grind
    · rw [Int.one_mul, Xn2, Qdt (by omega) (by omega), Qv7 (by omega), bind_some, show ((S % m : Nat) : Int) + (m : Int) = ((S % m + m : Nat) : Int) from by omega, Xn2, Nat.add_mod_right, Nat.mod_mod, Xru]
  · refine ⟨(m - S % m) % m, Nat.mod_lt _ (by omega), ⟨((S / m : Nat) : Int) + (if S % m = 0 then 0 else 1), ?_⟩, ?_⟩
    · have : ((m * (S / m) + S % m : Nat) : Int) = (S : Int) := by rw [hdm]
      by_cases h0 : S % m = 0
      · rw [if_pos h0, h0, Nat.sub_zero, Nat.mod_self]; rw [h0] at this; grind
      · rw [if_neg h0, Nat.mod_eq_of_lt (by omega)]
        have e : ((m - S % m : Nat) : Int) = (m : Int) - ((S % m : Nat) : Int) := by omega
        rw [e]; grind
    · rw [show (-1 : Int) * (S : Int) = -(S : Int) from by omega, Xov, Qdt (by omega) (by omega), Qv7 (by omega), bind_some, show -((S % m : Nat) : Int) + (m : Int) = ((m - S % m : Nat) : Int) from by omega, Xn2, Xru]
theorem Xd3 {m : Nat} (m1 : 2 ≤ m) (m2 : m ≤ 1048575) (a : Int) : ∀ (f R N S T : Nat) (σ k l : Int), (σ = 1 ∨ σ = -1) → N < f → R ≤ m → N < R → S ≤ m → R * T + N * S = m → Nat.gcd R N = 1 → (R : Int) = (σ * S) * a + k * m → (N : Int) = (-σ * T) * a + l * m →
    ∃ x : Nat, x < m ∧ (∃ j : Int, (x : Int) * a = 1 + j * m) ∧ Qc2 (Qfu (bn m)) f ((R : Int), (N : Int), σ * S, -σ * T) = some (bn x, 0)
  | 0, R, N, S, T, σ, k, l, _, h, _, _, _, _, _, _, _ => by omega
  | f + 1, R, N, S, T, σ, k, l, hσ, hf, hR, hNR, hS, hm, hg, h1, h2 => by
    rw [Qbm]; simp only [Qfu]
    by_cases h0 : N = 0
    · subst h0
      rw [if_neg (by simp)]
      have hR1 : R = 1 := by simpa using hg
      subst hR1
      rw [if_neg (by simp)]
      obtain ⟨x, x1, ⟨j, x2⟩, x3⟩ := Xn0 m1 m2 σ hσ S hS
      refine ⟨x, x1, ⟨j * a - k, ?_⟩, x3⟩
      rw [x2]; grind
    · have hq0 : R / N * N ≤ R := Nat.div_mul_le_self R N
      have hdm := Nat.div_add_mod R N
      have hlt := Nat.mod_lt R (show 0 < N by omega)
      have hqm : R / N ≤ m := Nat.le_trans (Nat.div_le_self R N) hR
      have hgr : Nat.gcd N (R % N) = 1 := by rw [← hg, Nat.gcd_comm R N, Nat.gcd_rec N R, Nat.gcd_comm]
      rw [if_pos (by omega), Xg0 (by omega), bind_some, Xub]
      generalize R / N = Q at *
      generalize R % N = M at *
      have hTm : T ≤ m := by
        have : 1 * T ≤ R * T := Nat.mul_le_mul_right _ (by omega)
        omega
      have hqT : Q * T ≤ m := by
        have h3 : N * (Q * T) ≤ R * T := by rw [← Nat.mul_assoc]; exact Nat.mul_le_mul_right _ (by rw [Nat.mul_comm]; exact hq0)
        have h4 : 1 * (Q * T) ≤ N * (Q * T) := Nat.mul_le_mul_right _ (by omega)
        omega
      rw [Qdt (n := ((Q : Nat) : Int)) (by omega) (by omega)]
      have e1 : w64 ((R : Int) - w64 (((Q : Nat) : Int) * (N : Int))) = ((M : Nat) : Int) := by
        have : ((Q : Nat) : Int) * (N : Int) = ((Q * N : Nat) : Int) := by push_cast; rfl
        rw [this, Qdt (n := ((Q * N : Nat) : Int)) (by omega) (by omega), Qdt (by omega) (by omega)]
        rw [Nat.mul_comm] at hq0
        have : ((N * (Q) + M : Nat) : Int) = (R : Int) := by rw [hdm]
        rw [Nat.mul_comm (Q) N]; omega
      have e2 : w64 (((Q : Nat) : Int) * (-σ * (T : Int))) = -σ * ((Q * T : Nat) : Int) := by
        have e : ((Q : Nat) : Int) * (-σ * (T : Int)) = -σ * ((Q * T : Nat) : Int) := by push_cast; grind
        rw [e]
        rcases hσ with rfl | rfl <;> exact Qdt (by omega) (by omega)
      have e3 : w64 (σ * (S : Int) - -σ * ((Q * T : Nat) : Int)) = -(-σ) * ((S + Q * T : Nat) : Int) := by
        have e : σ * (S : Int) - -σ * ((Q * T : Nat) : Int) = -(-σ) * ((S + Q * T : Nat) : Int) := by push_cast; grind
        rw [e]
        rcases hσ with rfl | rfl <;> exact Qdt (by omega) (by omega)
      rw [e1, e2, e3]
      have hc : ((N * (Q) + M : Nat) : Int) = (R : Int) := by rw [hdm]
      refine Xd3 m1 m2 a f N (M) T (S + Q * T) (-σ) l (k - ((Q : Nat) : Int) * l) (by rcases hσ with rfl | rfl <;> simp) (by omega) (by omega) hlt hTm ?_ ?_ ?_ ?_
      · have : N * (S + Q * T) + M * T = N * S + (N * (Q) + M) * T := by grind
        rw [this, hdm]; omega
      · exact hgr
      · exact h2
      · push_cast at hc ⊢
        grind
theorem Qul (q1 : 2 ≤ q) (q2 : q ≤ 1048575) (α : Fin q) : ∀ (f A B : Nat) (X Y : Fin q), B < f → A ≤ q → B ≤ q → Nat.gcd A B = 1 → fi q A = X * α → fi q B = Y * α →
    ∃ x : Fin q, x * α = 1 ∧ Qc2 (Qlj (bn q)) f (bn A, fe X, bn B, fe Y) = some (fe x, true)
  | 0, A, B, X, Y, h, _, _, _, _, _ => by omega
  | f + 1, A, B, X, Y, hf, hA, hB, hg, h1, h2 => by
    rw [Qbm]; simp only [Qlj]
    have hX := X.isLt
    have hY := Y.isLt
    by_cases h0 : B = 0
    · subst h0
      have hA1 : A = 1 := by simpa using hg
      subst hA1
      rw [if_neg (by simp)]
      exact ⟨X, h1.symm.trans Xuv, rfl⟩
    · have hlt := Nat.mod_lt A (show 0 < B by omega)
      have hdm := Nat.div_add_mod A B
      have hle := Nat.div_le_self A B
      have hq0 : A / B * B ≤ A := Nat.div_mul_le_self A B
      have hz : ¬ bn B = 0#64 := Xae (by omega) (by omega)
      have hmq := Nat.mod_lt (A / B) (show 0 < q by omega)
      have hp1 : A / B % q * Y.val ≤ 1048575 * 1048575 := Nat.mul_le_mul (by omega) (by omega)
      have hm2 := Nat.mod_lt (A / B % q * Y.val) (show 0 < q by omega)
      rw [if_pos hz, Xfr (by omega) (by omega) (by omega), bind_some, Qff (by omega) (by omega) (by omega), bind_some, Qpk, Qff (by omega) (by omega) (by omega), bind_some, Qzh (by omega) (by omega), Qud, Qff (by omega) (by omega) (by omega), bind_some, Qpk, Qzh (by omega) (by omega)]
      have e : A - A / B * B = A % B := by rw [Nat.mul_comm] at hq0 ⊢; omega
      rw [e]
      have hA' : fi q A = fi q B * fi q (A / B) + fi q (A % B) := by rw [← Quj, ← Xau, hdm]
      have hY' : fi q ((X.val + (q - A / B % q * Y.val % q)) % q) = X - fi q (A / B) * Y := by
        rw [Xib, Xau, Qmo, Xr4 (by omega), Xuu, Xib, Quj, Xib, Qmo]; grind
      rw [show bn ((X.val + (q - A / B % q * Y.val % q)) % q) = fe (X - fi q (A / B) * Y) from by rw [← hY', Xgc (Nat.mod_lt _ (by omega))]]
      refine Qul q1 q2 α f B (A % B) Y _ (by omega) hB (by omega) ?_ h2 ?_
      · rw [← hg, Nat.gcd_comm A B, Nat.gcd_rec B A, Nat.gcd_comm]
      · grind
theorem Xqt (hP : Prm q) (q2 : q ≤ 1048575) {α : Fin q} (hα : α ≠ 0) : ∃ x : Fin q, α * x = 1 ∧ Qio (fe α) (bn q) = some (fe x, 0) ∧ Qou (fe α) (bn q) = some (fe x, true) := by
  have q1 := hP.1
  have ha := α.isLt
  have h0 : 0 < α.val := by
    rcases Nat.eq_zero_or_pos α.val with h | h
    · exact absurd (Fin.ext h) hα
    · exact h
  have hg := Xnj hP h0 ha
  obtain ⟨x, x1, ⟨j, x2⟩, x3⟩ := Xd3 q1 q2 (α.val : Int) Qcw q α.val 0 1 (-1) 1 0 (.inr rfl) (Qdv (by omega)) (Nat.le_refl _) ha (by omega) (by omega) hg (by simp) (by simp)
  obtain ⟨y, y1, y2⟩ := Qul q1 q2 α Qcw α.val q 1 0 (Qdv (by omega)) (by omega) (Nat.le_refl _) (by rw [Nat.gcd_comm]; exact hg) (by rw [Qmo]; grind) (by rw [Xuu]; grind)
  have hx : fi q x * α = 1 := by
    have h1 : fi q (x * α.val) = fi q x * α := by rw [Quj, Qmo]
    rw [← h1]
    apply Fin.ext
    have e1 : (1 : Fin q).val = 1 := Nat.mod_eq_of_lt (show 1 < q by omega)
    rw [Qq9, e1]
    have h2 : ((x * α.val % q : Nat) : Int) = 1 := by
      push_cast
      rw [x2, Int.add_mul_emod_self_right]
      exact Int.emod_eq_of_lt (by omega) (by omega)
    omega
  have hxy : fi q x = y := by grind
  refine ⟨y, by grind, ?_, ?_⟩
  · unfold Qio Qhl
    have hun : ∀ n : Nat, n < 9223372036854775807 → w64 (un (bn n)) = (n : Int) := fun n hn => by rw [show un (bn n) = (n : Int) from by unfold un; rw [Qg3 (by omega)]]; exact Qdt (by omega) (by omega)
    rw [show (1#64) = bn 1 from rfl, if_pos ((Qsk (by omega) (by omega)).2 (by omega)), bind_some, show (4294967296#64) = bn 4294967296 from rfl, decide_eq_true ((Ql5 (by omega) (by omega)).2 (by omega))]
    simp only [Bool.not_true, cond_false]
    rw [Qff (by omega) (by omega) (by omega), bind_some, Nat.mod_eq_of_lt ha, hun q (by omega), hun _ (by omega)]
    rw [show (0 : Int) = -1 * ((0 : Nat) : Int) from by simp, show (1 : Int) = -(-1) * ((1 : Nat) : Int) from by simp] 
    rw [← hxy, Xgc x1]
    exact x3
  · unfold Qou
    rw [show (1#64) = bn 1 from rfl, Qff (by omega) (by omega) (by omega), bind_some, Qff (by omega) (by omega) (by omega), bind_some, Nat.mod_eq_of_lt ha, Nat.mod_eq_of_lt (show 1 < q by omega)]
    have e1 : bn 1 = fe (1 : Fin q) := by unfold fe; rw [show (1 : Fin q).val = 1 from Nat.mod_eq_of_lt (show 1 < q by omega)]
    have e0 : (0#64) = fe (0 : Fin q) := rfl
    rw [e1, e0]
    exact y2
end
end Go.Sx.Po

end
section
set_option linter.unusedVariables false
set_option linter.unusedSimpArgs false
set_option maxRecDepth 100000
namespace Go.Sx.Po
open Go
def Qt3 (d : Nat) (l : List Int) : Bool := (List.range l.length).all fun j => decide (0 ≤ l.getD j 0 ∧ l.getD j 0 < ((2 ^ d : Nat) : Int)) && (decide (j = 0) || decide (l.getD (j - 1) 0 < l.getD j 0))
theorem getD_some {l : List Int} {j : Nat} (h : j < l.length) : l.getD j 0 = l[j] := by simp [List.getD, h]
theorem Qt6 {R : Type} (p : Nat → Bool) (D E : Option R) : ∀ (l : List Nat) (F : Nat → (Unit → Option R) → Unit → Option R), (∀ a ∈ l, ∀ nx s, F a nx s = bif p a then nx s else E) → itL F (fun _ => D) l () = bif l.all p then D else E
  | [], F, h => rfl
  | a :: l, F, h => by
    rw [Qkw, h a (by simp), List.all_cons]
    cases p a with
    | false => rfl
    | true => rw [cond_true, Bool.true_and]; exact Qt6 p D E l F (fun b hb => h b (by simp [hb]))
theorem Qvx {d : Nat} {l : List Int} (h : Qt3 d l = true) {j : Nat} (hj : j < l.length) : (0 ≤ l[j] ∧ l[j] < ((2 ^ d : Nat) : Int)) ∧ (j = 0 ∨ l.getD (j - 1) 0 < l[j]) := by
  have := List.all_eq_true.1 h j (by simpa using hj)
  rw [Bool.and_eq_true, decide_eq_true_eq, getD_some hj, Bool.or_eq_true, decide_eq_true_eq, decide_eq_true_eq] at this
  exact this
theorem Xom {d : Nat} {l : List Int} (h : Qt3 d l = true) : ∃ ln : List Nat, l = ln.map (fun n : Nat => (n : Int)) ∧ (∀ n ∈ ln, n < 2 ^ d) ∧ ln.Pairwise (· < ·) := by
  refine ⟨l.map Int.toNat, ?_, ?_, ?_⟩
  · rw [List.map_map]
    apply List.ext_getElem
    · simp
    · intro i h1 h2
      have := (Qvx h h1).1.1
      simp only [List.getElem_map, Function.comp_apply]; omega
  · intro n hn
    obtain ⟨a, ha, rfl⟩ := List.mem_map.1 hn
    obtain ⟨j, hj, rfl⟩ := List.mem_iff_getElem.1 ha
    have := (Qvx h hj).1; omega
  · rw [List.pairwise_iff_getElem]
    have key : ∀ (m i : Nat) (h2 : i + m + 1 < l.length), l[i] < l[i + m + 1] := by
      intro m
      induction m with
      | zero =>
        intro i h2
        have := (Qvx h h2).2
        rw [getD_some (by omega)] at this
        simp only [Nat.add_zero, Nat.add_sub_cancel] at this ⊢
        omega
      | succ m ih =>
        intro i h2
        have h3 := ih i (by omega)
        have := (Qvx h h2).2
        rw [getD_some (by omega)] at this
        have e : l[i + (m + 1) + 1 - 1]'(by omega) = l[i + m + 1]'(by omega) := by congr 1
        rw [e] at this
        omega
    intro i j hi hj hij
    simp only [List.length_map] at hi hj
    simp only [List.getElem_map]
    have h1 := (Qvx h hi).1
    have h2 := key (j - i - 1) i (by omega)
    have e : l[i + (j - i - 1) + 1]'(by omega) = l[j] := by congr 1; omega
    rw [e] at h2
    omega
theorem Xpp {d : Nat} {ln : List Nat} (h1 : ∀ n ∈ ln, n < 2 ^ d) (h2 : ln.Pairwise (· < ·)) : Qt3 d (ln.map fun n : Nat => (n : Int)) = true := by
  unfold Qt3
  rw [List.all_eq_true]
  intro j hj
  have hj' : j < ln.length := by simpa using hj
  have hl : j < (ln.map fun n : Nat => (n : Int)).length := by simpa using hj'
  rw [getD_some hl, List.getElem_map]
  have ha := h1 _ (List.getElem_mem hj')
  rw [Bool.and_eq_true, decide_eq_true_eq, Bool.or_eq_true, decide_eq_true_eq, decide_eq_true_eq]
  refine ⟨by omega, ?_⟩
  by_cases h0 : j = 0
  · exact .inl h0
  · right
    rw [getD_some (by simp; omega), List.getElem_map]
    have := (List.pairwise_iff_getElem.1 h2) (j - 1) j (by omega) hj' (by omega)
    omega
end Go.Sx.Po

end
section
set_option linter.unusedVariables false
set_option linter.unusedSimpArgs false
set_option maxRecDepth 100000
namespace Go.Sx.Po
open Go
theorem Xoj {b n p : Nat} (hb : b < 18446744073709551616) (hn : n < 18446744073709551616) (hp : 1 ≤ p) (hp2 : p < 4294967296) : Qk5 (bn b) (bn n) (bn p) = some (bn (b ^ n % p), 0) := by
  unfold Qk5 Qhl
  rw [show (1#64) = bn 1 from rfl, if_pos ((Qsk (by omega) (by omega)).2 hp), bind_some, show (4294967296#64) = bn 4294967296 from rfl, decide_eq_true ((Ql5 (by omega) (by omega)).2 hp2)]
  simp only [Bool.not_true, cond_false]
  rw [Xcr hb hn (by omega) hp2, bind_some]
section
variable {s : Qa8} {d t p q g : Nat}
theorem Qxx (h : Vld s d t p q g) {b n : Nat} (hb : b < 18446744073709551616) (hn : n < 18446744073709551616) : Qji s (bn b) (bn n) = some (bn (b ^ n % p)) := by
  obtain ⟨p1, p2⟩ := h.pb
  unfold Qji
  rw [h.grp]
  simp only
  rw [Xoj hb hn (by omega) (by omega), bind_some]
end
def fN (root : W2) (q t x : Nat) : Nat := evN (cfs root q t) x % q
def rN (root : W2) (q : Nat) (nonce : BitVec 64) : Nat := 1 + (drv (drv root (un8 41#8) nonce) (un8 3#8) 0#64).1.toNat % (q - 1)
def Qpq (root : W2) (p q g : Nat) (nonce : BitVec 64) : Nat := g ^ rN root q nonce % p
def ptN (root : W2) (p q t b x : Nat) : Qah := ⟨bn x, bn (b ^ fN root q t x % p)⟩
def xsN (d t : Nat) (ln : List Nat) : List Nat := ln.map (· + 1) ++ (List.range (t - ln.length)).map fun i => 2 ^ d + 1 + i
def hdN (root : W2) (d t p q g : Nat) (ln : List Nat) (session : W2) (nonce : BitVec 64) : Qa9 :=
  ⟨[], bn (Qpq root p q g nonce), (xsN d t ln).map (ptN root p q t (Qpq root p q g nonce)), Qw4 (drv k0 (un8 42#8) (bn (Qpq root p q g nonce ^ fN root q t 0 % p))) session, drv session (un8 53#8) 0#64⟩
theorem Qvj {d t : Nat} {ln : List Nat} (h : ln.length ≤ t) : (xsN d t ln).length = t := by simp [xsN]; omega
section
variable {s : Qa8} {d t p q g : Nat}
theorem Xq0 (h : Vld s d t p q g) (root : W2) (x : Nat) : fN root q t x < q := Nat.mod_lt _ (by have := h.qb; omega)
theorem Qy8 (h : Vld s d t p q g) (root : W2) (nonce : BitVec 64) : Qpq root p q g nonce < p := Nat.mod_lt _ (by have := h.pb; omega)
theorem Xbo (root : W2) : (cfs root q t).length = t + 1 := by simp [cfs]
theorem Xpx (h : Vld s d t p q g) {ln : List Nat} (hl : ∀ n ∈ ln, n < 2 ^ d) {x : Nat} (hx : x ∈ xsN d t ln) : 1 ≤ x ∧ x < q := by
  have := h.big
  have hpp := Nat.two_pow_pos d
  rcases List.mem_append.1 hx with hx | hx
  · obtain ⟨n, hn, rfl⟩ := List.mem_map.1 hx
    have := hl n hn; omega
  · obtain ⟨n, hn, rfl⟩ := List.mem_map.1 hx
    have := List.mem_range.1 hn; omega
theorem Xf8 (h : Vld s d t p q g) (root : W2) (nonce : BitVec 64) : 1 ≤ rN root q nonce ∧ rN root q nonce < q := by
  have hb := h.big
  have := Nat.mod_lt (drv (drv root (un8 41#8) nonce) (un8 3#8) 0#64).1.toNat (show 0 < q - 1 by have := Nat.two_pow_pos d; omega)
  unfold rN; omega
theorem Xj3 (h : Vld s d t p q g) (root : W2) (nonce : BitVec 64) : Qh1 (drv root (un8 41#8) nonce) 0#64 (bn q - 1#64) = some (bn (rN root q nonce - 1)) ∧ Qn4 (drv root (un8 41#8) nonce) 0#64 (bn q - 1#64) = some (bn (rN root q nonce - 1)) := by
  obtain ⟨q1, q2⟩ := h.qb
  have hb := h.big
  have := Nat.two_pow_pos d
  have ht := h.t1
  have e : rN root q nonce - 1 = (drv (drv root (un8 41#8) nonce) (un8 3#8) 0#64).1.toNat % (q - 1) := by unfold rN; omega
  rw [show (1#64) = bn 1 from rfl, Qzh (by omega) (by omega), Xa8 _ _ _ (Xae (by omega) (by omega)), Qxe _ _ _ (Xae (by omega) (by omega)), Xh9 _ (by omega) (by omega), e]
  exact ⟨rfl, rfl⟩
theorem Xc6 (h : Vld s d t p q g) (root : W2) {b x : Nat} (hb : b < p) (hx : x < q) (it : List Qce) (pts : List Qah) (k1 k2 : W2) :
    Qja (bn x) s ⟨it, bn b, pts, k1, k2⟩ ((cfs root q t).map bn) (bn q) = some (bn (b ^ fN root q t x % p)) := by
  obtain ⟨q1, q2⟩ := h.qb
  obtain ⟨p1, p2⟩ := h.pb
  have hf := Xq0 h root x
  have ht := h.t8
  unfold Qja
  rw [Xn9 q1 q2 hx _ (Xa3 (by omega)) (by rw [Xbo]; omega), bind_some]
  simp only
  rw [show evN (cfs root q t) x % q = fN root q t x from rfl, Qxx h (by omega) (by omega), bind_some]
theorem Qts (h : Vld s d t p q g) (root : W2) (l : List Int) (session : W2) (nonce : BitVec 64) (hl : l.length < 4611686018427387904) :
    Qc2 (Qgy root s l session nonce) Qcw 0 = bif Qt3 d l then (if s.Degree < (l.length : Int) then some (⟨[], 0#64, [], k0, k0⟩, 4) else Option.bind (Qhv root s) fun x => Qjg root s l session nonce x) else some (⟨[], 0#64, [], k0, k0⟩, 2) := by
  have h64 := Qcq h.d6
  have hpp := Nat.two_pow_pos d
  have := Qv5 l.length (Qgy root s l session nonce) (fun j (_ : Unit) => (j : Int)) (fun j nx u => bif decide (0 ≤ l.getD j 0 ∧ l.getD j 0 < ((2 ^ d : Nat) : Int)) && (decide (j = 0) || decide (l.getD (j - 1) 0 < l.getD j 0)) then nx u else some (⟨[], 0#64, [], k0, k0⟩, 2)) (fun _ => if s.Degree < (l.length : Int) then some (⟨[], 0#64, [], k0, k0⟩, 4) else Option.bind (Qhv root s) fun x => Qjg root s l session nonce x)
    (fun rec j hj _ => by
      simp only [Qgy, Qhw]
      rw [if_pos (by omega), Qc6 hj, bind_some, h.depth, Qpb, bind_some, Xm4 h.d6, getD_some hj, Qes (by omega)]
      by_cases h1 : l[j] < 0
      · rw [if_pos h1, decide_eq_false (by omega)]; rfl
      · rw [if_neg h1]
        by_cases h2 : ((2 ^ d : Nat) : Int) ≤ l[j]
        · rw [if_pos h2, decide_eq_false (by omega)]; rfl
        · rw [if_neg h2, decide_eq_true (show 0 ≤ l[j] ∧ l[j] < ((2 ^ d : Nat) : Int) by omega), Bool.true_and]
          by_cases h0 : j = 0
          · rw [if_neg (by omega), decide_eq_true h0]; rfl
          · have hj1 : j - 1 < l.length := by omega
            rw [if_pos (by omega), Qdt (by omega) (by omega), show (j : Int) - 1 = ((j - 1 : Nat) : Int) from by omega, Qc6 hj1, bind_some, decide_eq_false h0, Bool.false_or, getD_some hj1]
            by_cases h3 : l[j] ≤ l[j - 1]
            · rw [decide_eq_true h3, decide_eq_false (by omega)]; rfl
            · rw [decide_eq_false h3, decide_eq_true (by omega)]; rfl)
    (fun rec _ => by simp only [Qgy]; rw [if_neg (by omega)]) (f := Qcw) (Qdv (by omega)) ()
  rw [show ((0 : Nat) : Int) = 0 from rfl] at this
  rw [this, Qt6 _ _ _ _ _ (fun a _ nx u => rfl)]; rfl
theorem Xf5 (h : Vld s d t p q g) (root : W2) (session : W2) (nonce : BitVec 64) {b : Nat} (hb : b < p) (pts : List Qah) (hk : pts.length ≤ t) :
    Qc2 (Qib s session ((cfs root q t).map bn) (bn b)) Qcw (w64 (((2 ^ d : Nat) : Int) + 1), pts) = some (⟨[], bn b, pts ++ (List.range (t - pts.length)).map (fun i => ptN root p q t b (2 ^ d + 1 + i)), Qw4 (drv k0 (un8 42#8) (bn (b ^ fN root q t 0 % p))) session, drv session (un8 53#8) 0#64⟩, 0) := by
  have h64 := Qcq h.d6
  have hpp := Nat.two_pow_pos d
  have ht := h.t8
  have hbig := h.big
  obtain ⟨q1, q2⟩ := h.qb
  refine Qpo _ (fun j st => st = (((2 ^ d + 1 + j : Nat) : Int), pts ++ (List.range j).map (fun i => ptN root p q t b (2 ^ d + 1 + i)))) (t - pts.length) _ (by omega) ?_ ?_ ?_
  · rw [Qes (by omega)]; simp
  · rintro j _ hj rfl
    refine ⟨_, rfl, fun rec => ?_⟩
    simp only [Qib]
    rw [if_pos (by rw [h.deg]; simp; omega), h.grp, Qu3]
    simp only
    rw [Xc6 h root hb (show 2 ^ d + 1 + j < q by omega), bind_some, Qi9 (by simp; omega), bind_some, Qes (by omega), List.range_succ, List.map_append, ← List.append_assoc]; rfl
  · rintro _ rfl rec
    simp only [Qib]
    rw [if_neg (by rw [h.deg]; simp; omega), h.grp, show (0#64) = bn 0 from rfl]
    simp only
    rw [Xc6 h root hb (show 0 < q by omega), bind_some]; rfl
theorem Xeg (h : Vld s d t p q g) (root : W2) {ln : List Nat} (hl : ∀ n ∈ ln, n < 2 ^ d) (hlen : ln.length ≤ t) (session : W2) (nonce : BitVec 64) {b : Nat} (hb : b < p) :
    Qc2 (Qi7 s (ln.map fun n : Nat => (n : Int)) session ((cfs root q t).map bn) (bn b)) Qcw (0, []) = some (⟨[], bn b, (xsN d t ln).map (ptN root p q t b), Qw4 (drv k0 (un8 42#8) (bn (b ^ fN root q t 0 % p))) session, drv session (un8 53#8) 0#64⟩, 0) := by
  have h64 := Qcq h.d6
  have hpp := Nat.two_pow_pos d
  have ht := h.t8
  have hbig := h.big
  obtain ⟨q1, q2⟩ := h.qb
  refine Qpo _ (fun j st => st = ((j : Int), (ln.take j).map fun n => ptN root p q t b (n + 1))) ln.length _ (by omega) (by simp) ?_ ?_
  · rintro j _ hj rfl
    refine ⟨_, rfl, fun rec => ?_⟩
    have hn := hl _ (List.getElem_mem hj)
    simp only [Qi7]
    rw [if_pos (by simp; omega), Qc6 (by simpa using hj), bind_some, List.getElem_map, Qes (by omega), Qu3, h.grp]
    simp only
    rw [Xc6 h root hb (show ln[j] + 1 < q by omega), bind_some, Qi9 (by simp; omega), bind_some, Qes (by omega), Qmk ln j hj, List.map_append]; rfl
  · rintro _ rfl rec
    simp only [Qi7]
    rw [if_neg (by simp), h.depth, Qpb, bind_some, Xm4 h.d6, List.take_length, Xf5 h root session nonce hb _ (by simpa using hlen)]
    simp only [xsN, List.map_append, List.map_map, List.length_map]; rfl
theorem Quw (h : Vld s d t p q g) (e1 : Qd9 s = some true) (root : W2) {ln : List Nat} (hl : ∀ n ∈ ln, n < 2 ^ d) (ho : ln.Pairwise (· < ·)) (hlen : ln.length ≤ t) (session : W2) (nonce : BitVec 64) :
    Qet root s (ln.map fun n : Nat => (n : Int)) session nonce = some (hdN root d t p q g ln session nonce, 0) := by
  have ht := h.t8
  obtain ⟨r1, r2⟩ := Xf8 h root nonce
  obtain ⟨p1, p2⟩ := h.pb
  obtain ⟨q1, q2⟩ := h.qb
  have hgp := h.ok.2.2.2.2.1
  unfold Qet
  rw [e1, bind_some]
  simp only [Bool.not_true, cond_false]
  rw [Qts h root _ session nonce (by simp; omega), Xpp hl ho, cond_true, if_neg (by rw [h.deg]; simp; omega), Qvt h, bind_some]
  unfold Qjg Qn6
  rw [h.grp]
  simp only
  rw [(Xj3 h root nonce).1, bind_some, show (1#64) = bn 1 from rfl, Qud, show 1 + (rN root q nonce - 1) = rN root q nonce from by omega, Qxx h (by omega) (by omega), bind_some]
  have := Xeg h root hl hlen session nonce (Qy8 h root nonce)
  rw [show bn (Qpq root p q g nonce) = bn (g ^ rN root q nonce % p) from rfl] at this
  rw [this]; rfl
end
end Go.Sx.Po

end
section
set_option linter.unusedVariables false
set_option linter.unusedSimpArgs false
namespace Go.Sx.Po.Cy
open Go
def Qur (l : List (BitVec 8)) : BitVec 64 := l.foldl (fun n c => 256#64 * n + c.setWidth 64) 0#64
theorem Qob (l : List (BitVec 8)) (c : BitVec 8) : Qur (l ++ [c]) = 256#64 * Qur l + c.setWidth 64 := by simp [Qur]
theorem Qoe (l : List (BitVec 8)) (hx : l.length ≤ 1000) : ∀ (m i fuel : Nat), l.length - i = m → i ≤ l.length → m < fuel → Qc2 (Qgd l) fuel (Qur (l.take i), (i : Int)) = some (Qur l)
  | m, i, 0, _, _, hf => by omega
  | 0, i, fuel + 1, hm, hi, hf => by
    rw [Qbm]; simp only [Qgd]; rw [if_neg (by omega), List.take_of_length_le (by omega)]
  | m + 1, i, fuel + 1, hm, hi, hf => by
    rw [Qbm]; simp only [Qgd]
    rw [if_pos (by omega), Qc6 (by omega), bind_some, ← Qob, ← Qmk _ _ (by omega), Qdt (by omega) (by omega)]
    exact Qoe l hx m (i + 1) fuel (by omega) (by omega) (by omega)
theorem Qv2 (l : List (BitVec 8)) (h : l.length ≤ 1000) : Qmj l = some (Qur l) := Qoe l h _ 0 Qcw rfl (by omega) (Qdv (by omega))
theorem Xa5 (a : BitVec 64) (c : BitVec 8) : (a <<< 8) ||| (c.setWidth 64) = 256#64 * a + c.setWidth 64 := by
  have e1 : 256#64 * a = a <<< 8 := by
    apply BitVec.eq_of_toNat_eq
    rw [BitVec.toNat_mul, BitVec.toNat_shiftLeft, Nat.shiftLeft_eq, Nat.mul_comm]; rfl
  rw [e1]
  symm
  apply BitVec.add_eq_or_of_and_eq_zero
  apply BitVec.eq_of_getLsbD_eq
  intro j hj
  rw [BitVec.getLsbD_and, BitVec.getLsbD_shiftLeft, BitVec.getLsbD_setWidth, BitVec.getLsbD_zero]
  by_cases h : j < 8
  · simp [h]
  · simp [BitVec.getLsbD_of_ge c j (by omega)]
theorem Xr2 (x : BitVec 64) (k : Nat) : (byt x k).setWidth 64 = wd (bt x k) := by
  rw [Xpj]
  apply BitVec.eq_of_toNat_eq
  unfold byt
  rw [BitVec.toNat_setWidth, BitVec.toNat_setWidth, BitVec.toNat_and]
  have : (255#64 : BitVec 64).toNat = 2 ^ 8 - 1 := rfl
  rw [this, Nat.and_two_pow_sub_one_eq_mod]
  omega
theorem Qu4 (x : BitVec 64) (k : Nat) (hk : k < 8) : 256#64 * (x >>> (64 - 8 * k)) + (byt x k).setWidth 64 = x >>> (64 - 8 * (k + 1)) := by
  rw [← Xa5, Xr2, Qsc x k hk]
theorem Xl1 (x : BitVec 64) : Qur (w8 x) = x := by
  have h0 := Qu4 x 0 (by decide)
  have h1 := Qu4 x 1 (by decide)
  have h2 := Qu4 x 2 (by decide)
  have h3 := Qu4 x 3 (by decide)
  have h4 := Qu4 x 4 (by decide)
  have h5 := Qu4 x 5 (by decide)
  have h6 := Qu4 x 6 (by decide)
  have h7 := Qu4 x 7 (by decide)
  have hz : x >>> 64 = 0#64 := by apply BitVec.eq_of_toNat_eq; rw [BitVec.toNat_ushiftRight, Nat.shiftRight_eq_div_pow, Nat.div_eq_of_lt x.isLt]; rfl
  simp only [Nat.mul_zero, Nat.sub_zero, hz] at h0
  simp only [Qur, w8, List.foldl_cons, List.foldl_nil, h0, h1, h2, h3, h4, h5, h6, h7]
  simp
theorem Xcz (p : W2) : Qwl p = some p := by
  unfold Qwl
  rw [show ((kby p).take 8).drop 0 = w8 p.1 from rfl, show ((kby p).take 16).drop 8 = w8 p.2 from rfl, Qv2 _ (by rw [Qxj]; omega), bind_some, Qv2 _ (by rw [Qxj]; omega), bind_some, Xl1, Xl1]
end Go.Sx.Po.Cy

end
section
set_option linter.unusedVariables false
set_option linter.unusedSimpArgs false
set_option linter.unusedSectionVars false
set_option maxRecDepth 100000
namespace Go.Sx.Po
open Go
theorem Qt1 {α : Type} (l : List α) (hl : l.length < 4611686018427387904) (p : α → Bool) (F : (Int → Option Int) → Int → Option Int)
    (h1 : ∀ rec (j : Nat) (hj : j < l.length), F rec (j : Int) = bif p l[j] then some (j : Int) else rec ((j + 1 : Nat) : Int)) (h2 : ∀ rec, F rec (l.length : Int) = some (-1)) :
    ∀ (m j f : Nat), j + m = l.length → m < f → Qc2 F f (j : Int) = some (match (l.drop j).findIdx? p with | some i => ((j + i : Nat) : Int) | none => -1)
  | m, j, 0, _, h => by omega
  | 0, j, f + 1, hj, _ => by
    have : j = l.length := by omega
    subst this
    rw [Qbm, h2, List.drop_length]; rfl
  | m + 1, j, f + 1, hj, hf => by
    have hjl : j < l.length := by omega
    rw [Qbm, h1 _ j hjl, List.drop_eq_getElem_cons hjl, List.findIdx?_cons]
    cases hp : p l[j] with
    | true => rw [cond_true]; simp
    | false =>
      rw [cond_false, Qt1 l hl p F h1 h2 m (j + 1) f (by omega) (by omega)]
      simp only [Bool.false_eq_true, if_false]
      cases (l.drop (j + 1)).findIdx? p with
      | none => rfl
      | some i => simp only [Option.map_some]; congr 2; omega
theorem Xml {α : Type} (l : List α) (hl : l.length < 4611686018427387904) (p : α → Bool) (F : (Int → Option Int) → Int → Option Int)
    (h1 : ∀ rec (j : Nat) (hj : j < l.length), F rec (j : Int) = bif p l[j] then some (j : Int) else rec ((j + 1 : Nat) : Int)) (h2 : ∀ rec, F rec (l.length : Int) = some (-1)) :
    Qc2 F Qcw 0 = some (match l.findIdx? p with | some i => (i : Int) | none => -1) := by
  have := Qt1 l hl p F h1 h2 l.length 0 Qcw (by omega) (Qdv (by omega))
  rw [List.drop_zero, show ((0 : Nat) : Int) = 0 from rfl] at this
  rw [this]
  cases l.findIdx? p with
  | none => rfl
  | some i => simp
theorem Xoq {α : Type} (l : List α) (p : α → Bool) : decide ((0 : Int) ≤ (match l.findIdx? p with | some i => (i : Int) | none => -1)) = l.any p := by
  cases h : l.findIdx? p with
  | none =>
    have : l.any p = false := by
      rw [List.findIdx?_eq_none_iff] at h
      rw [List.any_eq_false]; intro x hx; rw [h x hx]; simp
    rw [this]; rfl
  | some i =>
    have : l.any p = true := by
      have h3 := List.findIdx?_eq_some_iff_getElem.1 h
      obtain ⟨h4, h5, _⟩ := h3
      exact List.any_eq_true.2 ⟨_, List.getElem_mem h4, h5⟩
    rw [this]; simp
theorem Xk8 (l : List Qah) (hl : l.length < 4611686018427387904) (y : Qah) : Qbk l y = some (l.any fun x => decide (x.X = y.X)) := by
  unfold Qbk Qcj
  rw [Xml l hl (fun x => decide (x.X = y.X)) _ (fun rec j hj => by
    simp only [Qbc, Qk3]
    rw [if_pos (by omega), Qc6 hj, bind_some, bind_some, Qes (by omega)]) (fun rec => by
    simp only [Qbc]; rw [if_neg (by omega)]), bind_some, Xoq]
theorem nodup_range {β : Type} [DecidableEq β] (l : List β) : ((List.range l.length).all fun j => !((l.take j).any fun x => decide (some x = l[j]?))) = decide l.Nodup := by
  rw [Bool.eq_iff_iff, decide_eq_true_eq, List.all_eq_true]
  constructor
  · intro h
    rw [List.Nodup, List.pairwise_iff_getElem]
    intro i j hi hj hij he
    have := h j (by simpa using hj)
    rw [Bool.not_eq_true', List.any_eq_false] at this
    refine this l[i] ?_ (by simp [he, hj])
    rw [List.mem_take_iff_getElem]
    exact ⟨i, by omega, rfl⟩
  · intro h j hj
    have hj' : j < l.length := by simpa using hj
    rw [Bool.not_eq_true', List.any_eq_false]
    intro x hx he
    rw [List.mem_take_iff_getElem] at hx
    obtain ⟨i, hi, rfl⟩ := hx
    rw [decide_eq_true_eq, List.getElem?_eq_getElem hj'] at he
    exact List.pairwise_iff_getElem.1 h i j (by omega) hj' (by omega) (Option.some.inj he)
def Xi2 (l : List Qah) : Bool := decide (l.map (·.X)).Nodup
theorem Qw9 (l : List Qah) (hl : l.length < 4611686018427387904) : Qij l = some (Xi2 l) := by
  unfold Qij Xi2
  have := Qv5 l.length (Qeo l) (fun j (_ : Unit) => (j : Int)) (fun j nx u => bif !(((l.map (·.X)).take j).any fun x => decide (some x = (l.map (·.X))[j]?)) then nx u else some false) (fun _ => some true)
    (fun rec j hj _ => by
      simp only [Qeo]
      have hs : Xnw l 0 (j : Int) = some (l.take j) := by unfold Xnw; rw [if_pos (by omega)]; simp
      rw [if_pos (by omega), Qc6 hj, bind_some, hs, bind_some, Xk8 _ (by rw [List.length_take]; omega), bind_some, Qes (by omega)]
      have e : ((l.take j).any fun x => decide (x.X = l[j].X)) = (((l.map (·.X)).take j).any fun x => decide (some x = (l.map (·.X))[j]?)) := by
        rw [← List.map_take, List.any_map]
        congr 1; funext x
        simp [hj]
      rw [e]
      cases (((l.map (·.X)).take j).any fun x => decide (some x = (l.map (·.X))[j]?)) <;> rfl)
    (fun rec _ => by simp only [Qeo]; rw [if_neg (by omega)]) (f := Qcw) (Qdv (by omega)) ()
  rw [show ((0 : Nat) : Int) = 0 from rfl] at this
  rw [this, Qt6 _ (some true) (some false) _ _ (fun a _ nx s => rfl)]
  have h2 := nodup_range (l.map (·.X))
  rw [List.length_map] at h2
  rw [h2]
  cases decide (l.map (·.X)).Nodup <;> rfl
def ptB (s : Qa8) (x : Qah) : Bool := decide (1#64 ≤ x.X) && decide (x.X < s.Group.Q) && decide (1#64 ≤ x.Y) && decide (x.Y < s.Group.P)
def hdB (s : Qa8) (h : Qa9) : Bool := decide (h.Items = []) && decide (1#64 ≤ h.Base) && decide (h.Base < s.Group.P) && decide ((h.Points.length : Int) = s.Degree) && Xi2 h.Points && h.Points.all (ptB s)
def shB (s : Qa8) (c : Qaf) : Bool := decide (1#64 ≤ c.Share.X) && decide (c.Share.X < s.Group.Q) && decide (c.Share.Y < s.Group.Q)
theorem Qzw (s : Qa8) (c : Qaf) (l : List Qah) (hl : l.length < 4611686018427387904) : ∀ (m j f : Nat) (b : Bool), j + m = l.length → m < f → Qc2 (Qi6 s c l (l.length : Int)) f (b, (j : Int)) = some (b && (l.drop j).all (ptB s) && decide (c.Share.Y < s.Group.Q))
  | m, j, 0, b, _, h => by omega
  | 0, j, f + 1, b, hj, _ => by
    have : j = l.length := by omega
    subst this
    rw [Qbm]; simp only [Qi6]
    rw [if_neg (by omega), List.drop_length]
    unfold Qjp
    cases b <;> simp
  | m + 1, j, f + 1, b, hj, hf => by
    have hjl : j < l.length := by omega
    rw [Qbm]; simp only [Qi6]
    rw [if_pos (by omega), Qc6 hjl, bind_some, Qes (by omega), List.drop_eq_getElem_cons hjl, List.all_cons]
    cases b with
    | false => unfold Qjp; simp
    | true =>
      simp only [Bool.not_true, cond_false, Bool.true_and]
      have ih := fun b => Qzw s c l hl m (j + 1) f b (by omega) (by omega)
      by_cases a1 : 1#64 ≤ l[j].X
      · rw [if_pos a1]
        by_cases a2 : l[j].X < s.Group.Q
        · rw [if_pos a2]
          by_cases a3 : 1#64 ≤ l[j].Y
          · rw [if_pos a3, ih]; simp [ptB, a1, a2, a3]
          · rw [if_neg a3, ih]; simp [ptB, a3]
        · rw [if_neg a2, ih]; simp [ptB, a2]
      · rw [if_neg a1, ih]; simp [ptB, a1]
theorem Xne (s : Qa8) (c : Qaf) (h : Qa9) (hl : h.Points.length * 16 ≤ 140737488351232) (hg : 1#64 < s.Group.P) : Qqc s c h = some (hdB s h && shB s c) := by
  have j1 : ∀ b, Qfx s c h b = some (b && h.Points.all (ptB s) && shB s c) := by
    intro b
    unfold Qfx Qih Qn7
    rw [Qi9 (by simp; omega), bind_some, List.nil_append, bind_some, Qi9 (by simp; omega), bind_some]
    have := Qzw s c (h.Points ++ [⟨c.Share.X, 1#64⟩]) (by simp; omega) _ 0 Qcw b (by rw [Nat.zero_add]) (Qdv (by simp; omega))
    rw [show ((0 : Nat) : Int) = 0 from rfl] at this
    rw [this, List.drop_zero, List.all_append]
    congr 1
    have : [(⟨c.Share.X, 1#64⟩ : Qah)].all (ptB s) = (decide (1#64 ≤ c.Share.X) && decide (c.Share.X < s.Group.Q)) := by simp [ptB, hg]
    rw [this]; unfold shB
    cases b <;> cases h.Points.all (ptB s) <;> simp
  unfold Qqc
  by_cases a0 : h.Items = []
  · rw [if_pos (by rw [a0]; rfl)]
    by_cases a1 : 1#64 ≤ h.Base
    · rw [if_pos a1]
      by_cases a2 : h.Base < s.Group.P
      · rw [if_pos a2]
        by_cases a3 : (h.Points.length : Int) = s.Degree
        · rw [if_pos a3, Qw9 _ (by omega), bind_some, j1]; simp [hdB, a0, a1, a2, a3]
        · rw [if_neg a3, j1]; simp [hdB, a3]
      · rw [if_neg a2, j1]; simp [hdB, a2]
    · rw [if_neg a1, j1]; simp [hdB, a1]
  · rw [if_neg (by intro e; exact a0 (List.length_eq_zero_iff.1 (by omega))), j1]; simp [hdB, a0]
end Go.Sx.Po

end
section
set_option linter.unusedVariables false
set_option linter.unusedSimpArgs false
set_option linter.unusedSectionVars false
set_option maxRecDepth 100000
namespace Go.Sx.Po
open Go
open Classical in
noncomputable def iv {q : Nat} [NeZero q] (a : Fin q) : Fin q := if h : ∃ x, a * x = 1 then Classical.choose h else 0
section
variable {q : Nat} [NeZero q]
theorem Qnv (hP : Prm q) (q2 : q ≤ 1048575) {a : Fin q} (ha : a ≠ 0) : a * iv a = 1 ∧ Qio (fe a) (bn q) = some (fe (iv a), 0) ∧ Qou (fe a) (bn q) = some (fe (iv a), true) := by
  obtain ⟨x, h1, h2, h3⟩ := Xqt hP q2 ha
  have h4 : a * iv a = 1 := by
    unfold iv; rw [dif_pos ⟨x, h1⟩]; exact Classical.choose_spec (p := fun x => a * x = 1) ⟨x, h1⟩
  have : x = iv a := by grind
  rw [← this]
  exact ⟨h1, h2, h3⟩
theorem Xui (q1 : 2 ≤ q) : (1 : Fin q).val = 1 := Nat.mod_eq_of_lt (show 1 < q by omega)
theorem Xls (q1 : 2 ≤ q) : (1 : Fin q) ≠ 0 := fun h => by
  have := congrArg Fin.val h
  rw [Xui q1] at this
  exact absurd this (by simp)
theorem Xqd (hP : Prm q) (q2 : q ≤ 1048575) {a b : Fin q} (ha : a ≠ 0) (hb : b ≠ 0) : a * b ≠ 0 := fun h => by
  have h1 := (Qnv hP q2 ha).1
  have h2 := (Qnv hP q2 hb).1
  refine Xls hP.1 ?_
  have : (a * b) * (iv a * iv b) = 1 := by grind
  rw [h] at this
  grind
theorem Xng (hP : Prm q) (q2 : q ≤ 1048575) {a b : Fin q} (hb : b ≠ 0) : Qix (bn q) (fe a) (fe b) = some (fe (a * iv b)) := by
  unfold Qix
  rw [(Qnv hP q2 hb).2.1, bind_some, Xb5 hP.1 q2, bind_some]
def abF (X : Nat → Fin q) (j : Nat) : Nat → Fin q × Fin q
  | 0 => (1, 1)
  | k + 1 => if k ≠ j then ((abF X j k).1 * X k, (abF X j k).2 * (X k - X j)) else abF X j k
noncomputable def Xef (X : Nat → Fin q) (j : Nat) : Nat → Fin q
  | 0 => 1
  | k + 1 => if k = j then Xef X j k else Xef X j k * X k * iv (X k - X j)
theorem Xgy (hP : Prm q) (q2 : q ≤ 1048575) (X : Nat → Fin q) (j : Nat) : ∀ (n : Nat), (∀ k, k < n → k ≠ j → X k - X j ≠ 0) → (abF X j n).2 ≠ 0 ∧ Xef X j n * (abF X j n).2 = (abF X j n).1
  | 0, _ => ⟨Xls hP.1, by simp only [Xef, abF]; grind⟩
  | n + 1, h => by
    obtain ⟨h1, h2⟩ := Xgy hP q2 X j n (fun k hk => h k (by omega))
    simp only [Xef, abF]
    by_cases e : n = j
    · rw [if_pos e, if_neg (by simpa using e)]; exact ⟨h1, h2⟩
    · rw [if_neg e, if_pos e]
      have h3 := h n (by omega) e
      have h4 := (Qnv hP q2 h3).1
      exact ⟨Xqd hP q2 h1 h3, by simp only; grind⟩
theorem Xqn (hP : Prm q) (q2 : q ≤ 1048575) (X : Nat → Fin q) (j n : Nat) (h : ∀ k, k < n → k ≠ j → X k - X j ≠ 0) : (abF X j n).1 * iv (abF X j n).2 = Xef X j n := by
  obtain ⟨h1, h2⟩ := Xgy hP q2 X j n h
  have h3 := (Qnv hP q2 h1).1
  grind
noncomputable def zF (p : Nat) (X : Nat → Fin q) (Y : Nat → Nat) (n : Nat) : Nat → Nat
  | 0 => 1
  | j + 1 => zF p X Y n j * (Y j ^ (Xef X j n).val % p) % p
variable {s : Qa8} {d t p g : Nat}
theorem Xtj (hp : 2 ≤ p) (X : Nat → Fin q) (Y : Nat → Nat) (n : Nat) : ∀ j, zF p X Y n j < p
  | 0 => by simp only [zF]; omega
  | j + 1 => Nat.mod_lt _ (by omega)
theorem Xhd (h : Vld s d t p q g) (hd : Qa9) (l : List Qah) (X : Nat → Fin q) (Y : Nat → Nat) (hl : l.length < 4611686018427387904) (hX : ∀ k (hk : k < l.length), l[k].X = fe (X k)) (hY : ∀ k (hk : k < l.length), l[k].Y = bn (Y k) ∧ Y k < p) (hne : ∀ k j, k < l.length → j < l.length → k ≠ j → X k - X j ≠ 0) :
    Qc2 (Qgx s hd l) Qcw (1#64, 0) = Ql6 hd (Xex (drv k0 (un8 42#8) (bn (zF p X Y l.length l.length))) hd.Box) := by
  obtain ⟨p1, p2⟩ := h.pb
  have hP := h.ok.2.1.2
  have q2 := h.ok.2.1.1
  have q1 := hP.1
  refine Qpo _ (fun j st => st = (bn (zF p X Y l.length j), (j : Int))) l.length _ (by omega) (by simp [zF]) ?_ ?_
  · rintro j _ hj rfl
    refine ⟨_, rfl, fun rec => ?_⟩
    have hz := Xtj p1 X Y l.length j
    have hin : Qc2 (Qi3 s l (bn (zF p X Y l.length j)) (j : Int) rec l[j]) Qcw (1#64, 1#64, 0) = rec (bn (zF p X Y l.length (j + 1)), ((j + 1 : Nat) : Int)) := by
      refine Qpo _ (fun k st => st = (fe (abF X j k).1, fe (abF X j k).2, (k : Int))) l.length _ (by omega) ?_ ?_ ?_
      · simp only [abF]
        rw [show fe (1 : Fin q) = 1#64 from by unfold fe; rw [Xui q1]]; rfl
      · rintro k _ hk rfl
        refine ⟨_, rfl, fun rec2 => ?_⟩
        simp only [Qi3, abF]
        rw [if_pos (by omega), Qc6 hk, bind_some, Qes (by omega)]
        by_cases e : k = j
        · rw [if_neg (by omega), if_neg (by simpa using e)]
        · rw [if_pos (by omega), if_pos e, h.grp, hX k hk, hX j hj]
          simp only
          rw [Xb5 q1 q2, bind_some, Xmx q1 q2, bind_some, Xb5 q1 q2, bind_some]
      · rintro _ rfl rec2
        simp only [Qi3]
        have hne' : ∀ k, k < l.length → k ≠ j → X k - X j ≠ 0 := fun k hk he => hne k j hk hj he
        have hf := (Xef X j l.length).isLt
        obtain ⟨hy, hy2⟩ := hY j hj
        rw [if_neg (by omega), h.grp]
        simp only
        rw [Xng hP q2 (Xgy hP q2 X j l.length hne').1, bind_some, Xqn hP q2 X j l.length hne', hy, Qxx h (by omega) (by omega), bind_some, Xbp p1 p2 hz (Nat.mod_lt _ (by omega)), bind_some, Qes (by omega)]
        rfl
    simp only [Qgx]
    rw [if_pos (by omega), Qc6 hj, bind_some]
    exact hin
  · rintro _ rfl rec
    simp only [Qgx]
    rw [if_neg (by omega)]
    unfold Qla
    rw [bind_some]
end
end Go.Sx.Po

end
section
set_option linter.unusedVariables false
set_option linter.unusedSimpArgs false
set_option linter.unusedSectionVars false
set_option maxRecDepth 100000
namespace Go.Sx.Po
open Go
theorem Quz (x : BitVec 64) : bn x.toNat = x := by simp [bn]
def Qmx (c : Qaf) (h : Qa9) (p : Nat) : List Qah := ⟨c.Share.X, bn (h.Base.toNat ^ c.Share.Y.toNat % p)⟩ :: h.Points
section
variable {s : Qa8} {d t p q g : Nat}
theorem Xk6 (hv : Vld s d t p q g) (e1 : Qd9 s = some true) (c : Qaf) (h : Qa9) (hl : h.Points.length * 16 ≤ 140737488351232) :
    Ql9 s c h = if hdB s h = true ∧ shB s c = true then (if Xi2 (Qmx c h p) = true then Qc2 (Qgx s h (Qmx c h p)) Qcw (1#64, 0) else some (k0, 6)) else some (k0, 8) := by
  obtain ⟨p1, p2⟩ := hv.pb
  unfold Ql9
  rw [e1, bind_some, Xne s c h hl (by rw [hv.grp]; exact (Ql5 (a := 1) (by omega) (by omega)).2 (by omega)), bind_some]
  simp only [Bool.not_true, cond_false]
  cases h1 : hdB s h with
  | false => simp
  | true =>
    cases h2 : shB s c with
    | false => simp
    | true =>
      have hb := h.Base.isLt
      have hy := c.Share.Y.isLt
      have e := Qxx hv hb hy
      rw [Quz, Quz] at e
      simp only [Bool.and_self, Bool.not_true, cond_false]
      rw [e, bind_some, Qi9 (by simp; omega), bind_some, if_pos (by simp)]
      have e2 : [(⟨c.Share.X, bn (h.Base.toNat ^ c.Share.Y.toNat % p)⟩ : Qah)] ++ h.Points = Qmx c h p := rfl
      rw [e2, Qw9 _ (by simp [Qmx]; omega), bind_some]
      cases Xi2 (Qmx c h p) <;> simp
def Xa (q : Nat) [NeZero q] (l : List Qah) (k : Nat) : Fin q := fi q (l.getD k default).X.toNat
def Ya (l : List Qah) (k : Nat) : Nat := (l.getD k default).Y.toNat
theorem Xij [NeZero q] (hv : Vld s d t p q g) (c : Qaf) (h : Qa9) (h1 : hdB s h = true) (h2 : shB s c = true) (h3 : Xi2 (Qmx c h p) = true) :
    (∀ k (hk : k < (Qmx c h p).length), (Qmx c h p)[k].X = fe (Xa q (Qmx c h p) k)) ∧ (∀ k (hk : k < (Qmx c h p).length), (Qmx c h p)[k].Y = bn (Ya (Qmx c h p) k) ∧ Ya (Qmx c h p) k < p) ∧
    (∀ k j, k < (Qmx c h p).length → j < (Qmx c h p).length → k ≠ j → Xa q (Qmx c h p) k - Xa q (Qmx c h p) j ≠ 0) := by
  obtain ⟨p1, p2⟩ := hv.pb
  obtain ⟨q1, q2⟩ := hv.qb
  have hall : ∀ x ∈ Qmx c h p, x.X.toNat < q ∧ x.Y.toNat < p := by
    intro x hx
    rcases List.mem_cons.1 hx with rfl | hx
    · simp only [shB, Bool.and_eq_true, decide_eq_true_eq, hv.grp] at h2
      have := h2.1.2
      rw [BitVec.lt_def, Qg3 (by omega)] at this
      have hm := Nat.mod_lt (h.Base.toNat ^ c.Share.Y.toNat) (show 0 < p by omega)
      exact ⟨this, by simp only; rw [Qg3 (by omega)]; exact hm⟩
    · simp only [hdB, Bool.and_eq_true] at h1
      have := List.all_eq_true.1 h1.2 x hx
      simp only [ptB, Bool.and_eq_true, decide_eq_true_eq, hv.grp, BitVec.lt_def] at this
      rw [Qg3 (by omega), Qg3 (by omega)] at this
      exact ⟨this.1.1.2, this.2⟩
  have gd : ∀ k (hk : k < (Qmx c h p).length), (Qmx c h p).getD k default = (Qmx c h p)[k] := fun k hk => by rw [List.getD_eq_getElem?_getD, List.getElem?_eq_getElem hk]; rfl
  refine ⟨fun k hk => ?_, fun k hk => ?_, fun k j hk hj hkj => ?_⟩
  · unfold Xa; rw [gd k hk, Xgc (hall _ (List.getElem_mem hk)).1, Quz]
  · unfold Ya; rw [gd k hk, Quz]; exact ⟨rfl, (hall _ (List.getElem_mem hk)).2⟩
  · intro he
    have e1 : Xa q (Qmx c h p) k = Xa q (Qmx c h p) j := by grind
    unfold Xa at e1
    rw [gd k hk, gd j hj] at e1
    have e2 := Xpw (hall _ (List.getElem_mem hk)).1 (hall _ (List.getElem_mem hj)).1 e1
    have e3 : (Qmx c h p)[k].X = (Qmx c h p)[j].X := BitVec.eq_of_toNat_eq e2
    unfold Xi2 at h3
    rw [decide_eq_true_eq, List.Nodup, List.pairwise_iff_getElem] at h3
    rcases Nat.lt_or_gt_of_ne hkj with hlt | hlt
    · exact h3 k j (by simpa using hk) (by simpa using hj) hlt (by simpa using e3)
    · exact h3 j k (by simpa using hj) (by simpa using hk) hlt (by simpa using e3.symm)
end
end Go.Sx.Po

end
section
set_option linter.unusedVariables false
set_option linter.unusedSimpArgs false
set_option linter.unusedSectionVars false
set_option maxRecDepth 100000
namespace Go.Sx.Po
open Go
section
variable {q : Nat} [NeZero q]
def evF (l : List (Fin q)) (x : Fin q) : Fin q := l.foldr (fun c a => c + x * a) 0
theorem Qp4 (x : Fin q) : evF [] x = 0 := rfl
theorem Qdh (a : Fin q) (l : List (Fin q)) (x : Fin q) : evF (a :: l) x = a + x * evF l x := rfl
theorem Qvv (n : Nat) (x : Fin q) : evF (List.replicate n 0) x = 0 := by
  induction n with
  | zero => rfl
  | succ n ih => rw [List.replicate_succ, Qdh, ih]; grind
theorem Xdo : ∀ (l : List (Fin q)) (n : Nat) (x : Fin q), evF (l ++ List.replicate n 0) x = evF l x
  | [], n, x => Qvv n x
  | a :: l, n, x => by rw [List.cons_append, Qdh, Qdh, Xdo l]
theorem Xgn (r x : Fin q) : ∀ (a b : List (Fin q)), a.length = b.length → evF (List.zipWith (fun u v => u - v * r) a b) x = evF a x - evF b x * r
  | [], [], _ => by simp only [List.zipWith_nil_left, Qp4]; grind
  | u :: a, v :: b, h => by
    have ih := Xgn r x a b (by simpa using h)
    rw [List.zipWith_cons_cons, Qdh, Qdh, Qdh, ih]; grind
theorem Xbg (x : Fin q) : ∀ (a b : List (Fin q)), a.length = b.length → evF (List.zipWith (· + ·) a b) x = evF a x + evF b x
  | [], [], _ => by simp only [List.zipWith_nil_left, Qp4]; grind
  | u :: a, v :: b, h => by
    have ih := Xbg x a b (by simpa using h)
    rw [List.zipWith_cons_cons, Qdh, Qdh, Qdh, ih]; grind
theorem Xfp (x : Fin q) : ∀ (a b : List (Fin q)), a.length = b.length → evF (List.zipWith (· - ·) a b) x = evF a x - evF b x
  | [], [], _ => by simp only [List.zipWith_nil_left, Qp4]; grind
  | u :: a, v :: b, h => by
    have ih := Xfp x a b (by simpa using h)
    rw [List.zipWith_cons_cons, Qdh, Qdh, Qdh, ih]; grind
theorem Qsq (v x : Fin q) : ∀ (a : List (Fin q)), evF (a.map (· * v)) x = evF a x * v
  | [] => by simp only [List.map_nil, Qp4]; grind
  | u :: a => by
    have ih := Qsq v x a
    rw [List.map_cons, Qdh, Qdh, ih]; grind
theorem Xbw (c r x : Fin q) (u : List (Fin q)) : evF (List.zipWith (fun a b => a - b * r) (c :: u) (u ++ [0])) x = c + (x - r) * evF u x := by
  rw [Xgn r x _ _ (by simp), Qdh, show [(0 : Fin q)] = List.replicate 1 0 from rfl, Xdo]; grind
def Xf0 (r : Fin q) : List (Fin q) → List (Fin q)
  | [] => []
  | [_] => []
  | _ :: b :: t => evF (b :: t) r :: Xf0 r (b :: t)
theorem Xdd (r : Fin q) : ∀ (c : List (Fin q)), (Xf0 r c).length = c.length - 1
  | [] => rfl
  | [_] => rfl
  | a :: b :: t => by
    have := Xdd r (b :: t)
    rw [Xf0, List.length_cons, this]; simp
theorem Xg3 (r x : Fin q) : ∀ (c : List (Fin q)), evF c x - evF c r = (x - r) * evF (Xf0 r c) x
  | [] => by simp only [Xf0, Qp4]; grind
  | [a] => by simp only [Xf0, Qdh, Qp4]; grind
  | a :: b :: t => by
    have := Xg3 r x (b :: t)
    rw [Xf0, Qdh a (b :: t) x, Qdh a (b :: t) r, Qdh _ (Xf0 r (b :: t)) x]
    generalize evF (b :: t) x = u at *
    generalize evF (b :: t) r = v at *
    grind
theorem Qzx (r : Fin q) : ∀ (c : List (Fin q)), (∀ a ∈ Xf0 r c, a = 0) → evF c r = 0 → ∀ a ∈ c, a = 0
  | [], _, _ => by simp
  | [a], _, h => by
    rw [Qdh, Qp4] at h
    intro b hb
    rw [List.mem_singleton.1 hb]; grind
  | a :: b :: t, hq, h => by
    have h1 : evF (b :: t) r = 0 := hq _ (by simp [Xf0])
    have h2 := Qzx r (b :: t) (fun x hx => hq x (by simp [Xf0, hx])) h1
    intro x hx
    rcases List.mem_cons.1 hx with rfl | hx
    · rw [Qdh, h1] at h; grind
    · exact h2 x hx
theorem Xqv {a b : Fin q} (h : a ≠ b) : a - b ≠ 0 := fun e => h (by grind)
theorem Qxm (hP : Prm q) (q2 : q ≤ 1048575) : ∀ (xs c : List (Fin q)), xs.Nodup → c.length = xs.length → (∀ x ∈ xs, evF c x = 0) → ∀ a ∈ c, a = 0
  | [], c, _, hl, _ => by
    have : c = [] := List.length_eq_zero_iff.1 hl
    subst this; simp
  | r :: xs, c, hn, hl, hr => by
    rw [List.nodup_cons] at hn
    have h0 := hr r (by simp)
    refine Qzx r c ?_ h0
    refine Qxm hP q2 xs (Xf0 r c) hn.2 (by rw [Xdd, hl]; simp) fun x hx => ?_
    have h1 := Xg3 r x c
    rw [h0, hr x (by simp [hx])] at h1
    have hne : x - r ≠ 0 := Xqv fun e => hn.1 (e ▸ hx)
    have h2 := (Qnv hP q2 hne).1
    grind
theorem Xjo (hP : Prm q) (q2 : q ≤ 1048575) {xs a b : List (Fin q)} (hn : xs.Nodup) (ha : a.length = xs.length) (hb : b.length = xs.length) (h : ∀ x ∈ xs, evF a x = evF b x) : a = b := by
  have h0 := Qxm hP q2 xs (List.zipWith (· - ·) a b) hn (by simp [ha, hb]) fun x hx => by rw [Xfp x a b (by omega), h x hx]; grind
  apply List.ext_getElem (by omega)
  intro i h1 h2
  have := h0 ((List.zipWith (· - ·) a b)[i]'(by simp; omega)) (List.getElem_mem _)
  rw [List.getElem_zipWith] at this
  grind
noncomputable def dd (f : Fin q → Fin q) : List (Fin q) → Fin q → Fin q
  | [], x => f x
  | a :: S, x => (dd f S x - dd f S a) * iv (x - a)
end
end Go.Sx.Po

end
section
set_option linter.unusedVariables false
set_option linter.unusedSimpArgs false
set_option linter.unusedSectionVars false
set_option maxRecDepth 100000
namespace Go.Sx.Po
open Go
section
variable {q : Nat} [NeZero q]
def Xp2 (c r : Fin q) (u : List (Fin q)) : List (Fin q) := List.zipWith (fun a b => a - b * r) (c :: u) (u ++ [0])
theorem Xip (c r : Fin q) (u : List (Fin q)) : (Xp2 c r u).length = u.length + 1 := by simp [Xp2]
variable (X Y : Nat → Fin q)
noncomputable def Xen (j : Nat) : Nat → List (Fin q)
  | 0 => [Y j]
  | k + 1 => if k = j then Xen j k else (Xp2 0 (X k) (Xen j k)).map (· * iv (X j - X k))
noncomputable def Xil (n : Nat) : Nat → List (Fin q)
  | 0 => List.replicate n 0
  | j + 1 => List.zipWith (· + ·) (Xil n j) (Xen X Y j n)
theorem Qux (j : Nat) : ∀ k, (Xen X Y j k).length = if j < k then k else k + 1
  | 0 => rfl
  | k + 1 => by
    have ih := Qux j k
    simp only [Xen]
    by_cases e : k = j
    · rw [if_pos e, ih, if_neg (by omega), if_pos (by omega)]
    · rw [if_neg e, List.length_map, Xip, ih]
      by_cases e2 : j < k
      · rw [if_pos e2, if_pos (by omega)]
      · rw [if_neg e2, if_neg (by omega)]
theorem Quy (n : Nat) : ∀ j, j ≤ n → (Xil X Y n j).length = n
  | 0, _ => by simp [Xil]
  | j + 1, h => by
    have := Qux X Y j n
    rw [if_pos (by omega)] at this
    simp [Xil, Quy n j (by omega), this]
theorem Qzb (hP : Prm q) (q2 : q ≤ 1048575) (j i : Nat) (hij : i ≠ j) : ∀ k, i < k → evF (Xen X Y j k) (X i) = 0
  | 0, h => by omega
  | k + 1, h => by
    simp only [Xen]
    by_cases e : k = j
    · rw [if_pos e]; exact Qzb hP q2 j i hij k (by omega)
    · rw [if_neg e, Qsq, Xp2, Xbw]
      by_cases e2 : i = k
      · subst e2; grind
      · rw [Qzb hP q2 j i hij k (by omega)]; grind
theorem Xgo (hP : Prm q) (q2 : q ≤ 1048575) (j n : Nat) (hne : ∀ k, k < n → k ≠ j → X j - X k ≠ 0) : ∀ k, k ≤ n → evF (Xen X Y j k) (X j) = Y j
  | 0, _ => by simp only [Xen, Qdh, Qp4]; grind
  | k + 1, h => by
    have ih := Xgo hP q2 j n hne k (by omega)
    simp only [Xen]
    by_cases e : k = j
    · rw [if_pos e]; exact ih
    · have h1 := (Qnv hP q2 (hne k (by omega) e)).1
      rw [if_neg e, Qsq, Xp2, Xbw, ih]; grind
theorem Xlh (hP : Prm q) (q2 : q ≤ 1048575) (n i : Nat) (hi : i < n) (hne : ∀ k j, k < n → j < n → k ≠ j → X j - X k ≠ 0) : ∀ j, j ≤ n → evF (Xil X Y n j) (X i) = if i < j then Y i else 0
  | 0, _ => by simp only [Xil]; rw [Qvv, if_neg (by omega)]
  | j + 1, h => by
    have hb := Qux X Y j n
    rw [if_pos (by omega)] at hb
    simp only [Xil]
    rw [Xbg _ _ _ (by rw [Quy X Y n j (by omega), hb]), Xlh hP q2 n i hi hne j (by omega)]
    by_cases e : i = j
    · subst e
      rw [Xgo X Y hP q2 i n (fun k hk he => hne k i hk hi he) n (Nat.le_refl _), if_neg (by omega), if_pos (by omega)]; grind
    · rw [Qzb X Y hP q2 j i e n hi]
      by_cases e2 : i < j
      · rw [if_pos e2, if_pos (by omega)]; grind
      · rw [if_neg e2, if_neg (by omega)]; grind
end
end Go.Sx.Po

end
section
set_option linter.unusedVariables false
set_option linter.unusedSimpArgs false
set_option linter.unusedSectionVars false
set_option maxRecDepth 100000
namespace Go.Sx.Po
open Go
section
variable {q : Nat} [NeZero q] (X Y : Nat → Fin q)
variable {s : Qa8} {d t p g : Nat}
def seg (a b : Nat) : List (Fin q) := (List.range' a (b - a)).map X
theorem Xf2 {n a b : Nat} (hb : b ≤ n) (hne : ∀ k j, k < n → j < n → k ≠ j → X j - X k ≠ 0) : (seg X a b).Nodup := by
  unfold seg
  rw [List.Nodup, List.pairwise_map]
  refine List.Pairwise.imp_of_mem ?_ (List.nodup_range' (step := 1) (s := a) (n := b - a))
  intro i j hi hj hij he
  have hi' := List.mem_range'_1.1 hi
  have hj' := List.mem_range'_1.1 hj
  exact hne i j (by omega) (by omega) hij (by rw [he]; grind)
end
end Go.Sx.Po

end
section
set_option linter.unusedVariables false
set_option linter.unusedSimpArgs false
set_option linter.unusedSectionVars false
set_option maxRecDepth 100000
namespace Go.Sx.Po
open Go
section
variable {s : Qa8} {d t p q g : Nat}
end
section
variable {s : Qa8} {d t p q g : Nat}
end
end Go.Sx.Po

end
section
set_option linter.unusedVariables false
set_option linter.unusedSimpArgs false
set_option linter.unusedSectionVars false
set_option maxRecDepth 100000
namespace Go.Sx.Po
open Go
theorem Xqu {q : Nat} (q2 : q ≤ 1048575) {a b : Fin q} (h : fe a = fe b) : a = b := by
  have ha := a.isLt
  have hb := b.isLt
  unfold fe at h
  exact Fin.ext ((Qqf (by omega) (by omega)).1 h)
theorem Xhv {q : Nat} [NeZero q] (x : Fin q) : ∀ (l : List (Fin q)), fi q (evN (l.map Fin.val) x.val) = evF l x
  | [] => rfl
  | a :: l => by
    have ih := Xhv x l
    rw [Qdh, List.map_cons]
    show fi q (a.val + x.val * evN (l.map Fin.val) x.val) = _
    rw [Xau, Quj, Qmo, Qmo, ih]
section
variable {s : Qa8} {d t p q g : Nat}
def cfF (root : W2) (q t : Nat) [NeZero q] : List (Fin q) := (cfs root q t).map (fi q)
theorem Xfe (root : W2) [NeZero q] : (cfF root q t).length = t + 1 := by rw [cfF, List.length_map, Xbo]
theorem Xdj [NeZero q] (root : W2) (x : Nat) (hx : x < q) : fN root q t x = (evF (cfF root q t) (fi q x)).val := by
  rw [← Xhv]
  unfold fN cfF
  rw [List.map_map, Xfq hx, Qq9]
  congr 2
  have : ∀ c ∈ cfs root q t, (Fin.val ∘ fi q) c = c := fun c hc => Xfq (Xa3 (by omega) c hc)
  exact ((List.map_congr_left this).trans (List.map_id _)).symm
theorem Qxt [NeZero q] (h : Vld s d t p q g) (e1 : Qd9 s = some true) (root : W2) {u : Nat} (hu : u < 2 ^ d) : Qh6 root s (u : Int) = some (⟨(u : Int), [], ⟨bn (u + 1), fe (evF (cfF root q t) (fi q (u + 1)))⟩⟩, 0) := by
  have h64 := Qcq h.d6
  obtain ⟨q1, q2⟩ := h.qb
  have hb := h.big
  have ht := h.t8
  have hcl : (cfs root q t).length = t + 1 := Xbo root
  unfold Qh6 Qgb
  rw [e1, bind_some]
  simp only [Bool.not_true, cond_false]
  rw [if_neg (by omega), h.depth, Qpb, bind_some, Xm4 h.d6, decide_eq_false (by omega), cond_false, Qvt h, bind_some, h.grp, Qu3, show (1#64) = bn 1 from rfl, Qud]
  simp only
  rw [Xn9 q1 q2 (by omega) _ (Xa3 (by omega)) (by omega), bind_some]
  have := Xdj (t := t) root (u + 1) (show u + 1 < q by omega)
  unfold fN at this
  rw [this]
theorem Qxr (h : Vld s d t p q g) (e1 : Qd9 s = some true) (root : W2) {u : Int} (hu : ¬ (0 ≤ u ∧ u < ((2 ^ d : Nat) : Int))) : ∃ c, Qh6 root s u = some (c, 2) := by
  have h64 := Qcq h.d6
  unfold Qh6 Qgb
  rw [e1, bind_some]
  simp only [Bool.not_true, cond_false]
  by_cases hn : u < 0
  · rw [if_pos hn]; exact ⟨_, rfl⟩
  · rw [if_neg hn, h.depth, Qpb, bind_some, Xm4 h.d6, decide_eq_true (by omega)]; exact ⟨_, rfl⟩
end
end Go.Sx.Po

end
