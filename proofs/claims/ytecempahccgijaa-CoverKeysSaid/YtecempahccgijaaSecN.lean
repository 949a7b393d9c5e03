/- Secrets: the mirrors of both sides come to one plain list of labels. -/
import Derived.Test.YtecempahccgijaaLb
import Derived.Test.YtecempahccgijaaTk
import Derived.Test.YtecempahccgijaaFy
set_option linter.unusedVariables false
set_option linter.unusedSimpArgs false
namespace Go.Sx
open Go

/-- the key of a label -/
def keyN (root : W2) (k : BitVec 8) (x : Nat × Nat) : W2 :=
  if x.2 = 0 then (if k = 1#8 then drv root (un8 30#8) (wd (x.1 : Int)) else drv root (un8 34#8) 0#64) else (pathN x.2 (Nat.log2 x.2 - Nat.log2 x.1)).foldl stp (drv root (un8 30#8) (wd (x.1 : Int)))
def lbl (root : W2) (k : BitVec 8) (x : Nat × Nat) : TLabel := TLabel.mk (x.1 : Int) (x.2 : Int) (keyN root k x)
def secN (root : W2) (k : BitVec 8) (d u : Nat) : List TLabel := (labN k d u).map (lbl root k)
def LabOk (x : Nat × Nat) : Prop := (1 ≤ x.1 ∧ x.1 < 128 ∧ x.2 < 128) ∧ (x.2 = 0 ∨ (belowB x.2 x.1 = true ∧ x.2 ≠ x.1))
theorem lab_split {x : Nat × Nat} (h : LabOk x) (h0 : x.2 ≠ 0) : ∃ k, Nat.log2 x.2 - Nat.log2 x.1 = k + 1 ∧ x.1 = x.2 / 2 ^ (k + 1) ∧ 2 ^ (k + 1) ≤ x.2 ∧ k ≤ 6 := by
  rcases h.2 with h2 | ⟨h2, h3⟩
  · exact absurd h2 h0
  · obtain ⟨k, e1, e2, e3⟩ := below_split (by omega) h.1.1 h2 h3
    have := le_log e3 h.1.2.2
    exact ⟨k, e1, e2, e3, by omega⟩
theorem psecret_eq {root : W2} {s : TScheme} {d u : Nat} (ui : Int) (h : ∀ x ∈ labN s.Kind d u, LabOk x) (hl : (labN s.Kind d u).length ≤ 100) :
    itL (cover_Secret_R1 root (treeI s, 0)) (cover_Secret_D1 ui) (labI s.Kind d u) [] = some (TSecret.mk ui (secN root s.Kind d u) (TPoint.mk 0#64 0#64), 0) := by
  unfold labI
  rw [itL_map]
  refine (itL_app 32 0 (fun _ => true) (lbl root s.Kind) _ _ _ _ (fun a ha nx l => ?_) (by simp; omega)).trans (by simp [cover_Secret_D1, secN, filter_tt])
  have hok := h a ha
  simp only [cover_Secret_R1, cover_Secret_J2, cond_true]
  by_cases h0 : a.2 = 0
  · rw [if_pos (by omega)]
    have : cover_tree_key (treeI s) root (TSubset.mk (a.1 : Int) 0) = some (keyN root s.Kind a) := by
      unfold cover_tree_key keyN cover_nodeKey
      rw [if_pos h0, show (treeI s).kind = s.Kind from rfl]
      by_cases hk : s.Kind = 1#8
      · rw [if_pos hk, if_pos hk]; rfl
      · rw [if_neg hk, if_neg hk, if_pos rfl]
    rw [this, bind_some]; rfl
  · rw [if_neg (by omega)]
    obtain ⟨k, e1, e2, e3, e4⟩ := lab_split hok h0
    unfold cover_nodeKey
    rw [bind_some]
    have : cover_descend (drv root (un8 30#8) (wd (a.1 : Int))) (a.1 : Int) (a.2 : Int) = some (keyN root s.Kind a) := by
      have := descend_eq (drv root (un8 30#8) (wd (a.1 : Int))) (w := a.2) (k := k + 1) (by have := hok.1.2.2; omega) e3 (by omega)
      rw [← e2] at this
      rw [this, keyN, if_neg h0, e1]
    rw [this, bind_some]; rfl
theorem keyOf_some {root : W2} {s : TScheme} {x : Nat × Nat} (h : LabOk x) (hk1 : s.Kind = 1#8 → x.2 = 0) : ∃ k, ref03_KeyOf root s (TSubset.mk (x.1 : Int) (x.2 : Int)) = some k ∧ (x.2 = 0 → k = keyN root s.Kind x) := by
  unfold ref03_KeyOf keyN
  by_cases hk : s.Kind = 1#8
  · rw [if_pos hk]; exact ⟨_, rfl, fun h0 => by rw [if_pos h0, if_pos hk]⟩
  · rw [if_neg hk]
    by_cases h0 : x.2 = 0
    · rw [if_pos (by simp [h0])]; exact ⟨_, rfl, fun _ => by rw [if_pos h0, if_neg hk]⟩
    · rw [if_neg (by simp only; omega)]
      obtain ⟨k, e1, e2, e3, e4⟩ := lab_split h h0
      unfold ref03_label
      have := down_eq (drv root (un8 30#8) (wd (x.1 : Int))) (w := x.2) (k := k + 1) (by have := h.1.2.2; omega) e3 (by omega)
      rw [← e2] at this
      simp only
      rw [this, bind_some, bind_some]
      exact ⟨_, rfl, fun h => absurd h h0⟩
theorem rlabel_eq {root : W2} {k' : BitVec 8} {x : Nat × Nat} (h : LabOk x) (h0 : x.2 ≠ 0) : ref03_label root (x.1 : Int) (x.2 : Int) = some (keyN root k' x) := by
  obtain ⟨k, e1, e2, e3, e4⟩ := lab_split h h0
  unfold ref03_label keyN
  have := down_eq (drv root (un8 30#8) (wd (x.1 : Int))) (w := x.2) (k := k + 1) (by have := h.1.2.2; omega) e3 (by omega)
  rw [← e2] at this
  rw [this, bind_some, if_neg h0, e1]
theorem lab1 {k : BitVec 8} {d u : Nat} (hk : k = 1#8) : ∀ x ∈ labN k d u, x.2 = 0 := by
  intro x hx
  unfold labN at hx
  rw [if_pos hk] at hx
  rcases List.mem_cons.1 hx with rfl | hx
  · rfl
  · obtain ⟨p, _, rfl⟩ := List.mem_map.1 hx; rfl
theorem rsecret_eq {root : W2} {s : TScheme} {d u : Nat} (ui : Int) (h : ∀ x ∈ labN s.Kind d u, LabOk x) (hl : (labN s.Kind d u).length ≤ 100) :
    fixN (ref03_SecretOf_L1 root s ui (labS s.Kind d u)) FUEL (0, []) = some (TSecret.mk ui (secN root s.Kind d u) (TPoint.mk 0#64 0#64)) := by
  have hls : (labS s.Kind d u).length = (labN s.Kind d u).length := by simp [labS]
  have := fix_itL (labN s.Kind d u) (ref03_SecretOf_L1 root s ui (labS s.Kind d u)) (fun j (acc : List TLabel) => ((j : Int), acc)) (fun a nx acc => Option.bind (appG 32 acc [lbl root s.Kind a]) nx) (fun acc => some (TSecret.mk ui acc (TPoint.mk 0#64 0#64)))
    (fun rec j hj acc => by
      have hj' : j < (labS s.Kind d u).length := by omega
      have hg : (labS s.Kind d u)[j] = TSubset.mk ((labN s.Kind d u)[j].1 : Int) ((labN s.Kind d u)[j].2 : Int) := by simp [labS]
      have hok := h _ (List.getElem_mem hj)
      obtain ⟨k, e1, e2⟩ := keyOf_some (root := root) (s := s) hok (fun hk => lab1 hk _ (List.getElem_mem hj))
      simp only [ref03_SecretOf_L1, ref03_SecretOf_J2, ref03_SecretOf_J3]
      rw [if_pos (by omega), getI_some hj', bind_some, hg, e1, bind_some, bind_some]
      simp only [bind_some]
      by_cases h0 : (labN s.Kind d u)[j].2 = 0
      · rw [if_neg (by omega), e2 h0, w64_nat (by omega)]; rfl
      · rw [if_pos (by omega), rlabel_eq (k' := s.Kind) hok h0, bind_some, w64_nat (by omega)]; rfl)
    (fun rec acc => by simp only [ref03_SecretOf_L1]; rw [if_neg (by omega)]) (f := FUEL) (fuel_lt (by omega)) ([] : List TLabel)
  rw [show ((0 : Nat) : Int) = 0 from rfl] at this
  rw [this]
  exact (itL_app 32 0 (fun _ => true) (lbl root s.Kind) _ _ _ _ (fun a _ nx l => rfl) (by simp; omega)).trans (by simp [secN, filter_tt])
theorem receiver_eq {k : BitVec 8} {d : Nat} {st u : Int} (h : d ≤ 6) : cover_tree_receiver ⟨k, (d : Int), st⟩ u = some (decide (0 ≤ u ∧ u < ((2 ^ d : Nat) : Int))) := by
  unfold cover_tree_receiver
  by_cases h0 : (0 : Int) ≤ u
  · rw [if_pos h0, size_eq h, bind_some]; congr 1; apply decide_eq_decide.2; omega
  · rw [if_neg h0]; congr 1; symm; apply decide_eq_false; omega
theorem rreceiver_eq {d : Nat} {u : Int} (h : d ≤ 6) : ref03_receiver (d : Int) u = some (decide (0 ≤ u ∧ u < ((2 ^ d : Nat) : Int))) := by
  unfold ref03_receiver
  by_cases h0 : (0 : Int) ≤ u
  · rw [if_pos h0, recv_eq h, bind_some]; congr 1; apply decide_eq_decide.2; omega
  · rw [if_neg h0]; congr 1; symm; apply decide_eq_false; omega
/-- secrets, plainly -/
def sec0 : TSecret := TSecret.mk 0 [] (TPoint.mk 0#64 0#64)
def secP (root : W2) (s : TScheme) (u : Int) : TSecret × Int :=
  if vldB s then (if 0 ≤ u ∧ u < ((2 ^ s.Depth.toNat : Nat) : Int) then (TSecret.mk u (secN root s.Kind s.Depth.toNat u.toNat) (TPoint.mk 0#64 0#64), 0) else (sec0, 2)) else (sec0, 30)
theorem Secret_eq (root : W2) (s : TScheme) (u : Int) : cover_Secret root s u = some (secP root s u) ∧ ref03_Secret root s u = some (secP root s u) ∧ (secP root s u).1.Labels.length ≤ 100 := by
  unfold cover_Secret ref03_Secret secP
  rw [enter0, valid_eq, bind_some, bind_some]
  cases hv : vldB s with
  | false => exact ⟨rfl, rfl, by simp [sec0]⟩
  | true =>
    obtain ⟨d, hd, h6⟩ := vld_depth hv
    have ht : treeI s = ⟨s.Kind, (d : Int), (strd d : Int)⟩ := by unfold treeI; rw [hd, Int.toNat_natCast]
    simp only [if_true, Bool.not_true, cond_false]
    rw [if_neg (by simp), hd, rreceiver_eq h6, Int.toNat_natCast]
    have e0 : cover_tree_receiver (treeI s) u = some (decide (0 ≤ u ∧ u < ((2 ^ d : Nat) : Int))) := by rw [ht]; exact receiver_eq h6
    rw [e0, bind_some, bind_some]
    by_cases hu : 0 ≤ u ∧ u < ((2 ^ d : Nat) : Int)
    · rw [decide_eq_true hu, if_pos hu]
      simp only [Bool.not_true, cond_false]
      obtain ⟨n, hn⟩ : ∃ n : Nat, u = (n : Int) := ⟨u.toNat, by omega⟩
      subst hn
      obtain ⟨e1, e2, e3, e4⟩ := labels_eq (u := n) hv hd h6 (by omega)
      unfold cover_tree_labels ref03_SecretOf
      rw [bind_some]
      simp only
      rw [Int.toNat_natCast, ht, e1, e2, bind_some, bind_some, ← ht, psecret_eq _ e4 e3, rsecret_eq _ e4 e3, bind_some]
      exact ⟨rfl, rfl, by simpa [secN] using e3⟩
    · rw [decide_eq_false hu, if_neg hu]; exact ⟨rfl, rfl, by simp [sec0]⟩
theorem sameC_self' (p : TSecret) (hl : p.Labels.length < 4611686018427387904) : ref03_SameSecret p p = some true := by
  unfold ref03_SameSecret ref03_SameSecret_J1
  simp only [ne_eq, not_true_eq_false, if_false, decide_false, cond_false]
  exact fix_run (ref03_SameSecret_L2 p p) (fun j s => s = (j : Int)) p.Labels.length (some true) (fun j s hj hs => ⟨((j + 1 : Nat) : Int), rfl, fun rec => by
      subst hs; simp only [ref03_SameSecret_L2]; rw [if_pos (by omega), getI_some hj, bind_some, bind_some, if_neg (by simp), w64_nat (by omega)]⟩)
    (fun s hs rec => by subst hs; simp only [ref03_SameSecret_L2]; rw [if_neg (by omega)]) p.Labels.length 0 FUEL 0 (by omega) (fuel_lt (by omega)) rfl
end Go.Sx
