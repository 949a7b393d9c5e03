/- Labels of a receiver's secret: the mirrors of both sides come to one plain list. -/
import Derived.Test.YtecempahccgijaaMb
import Derived.Test.YtecempahccgijaaClM
set_option linter.unusedVariables false
set_option linter.unusedSimpArgs false
set_option maxRecDepth 100000
namespace Go.Sx
open Go

/-- whether a node v and a node w strictly below it are a subset, in the kinds 2 and 3 -/
def subN (k : BitVec 8) (d v w : Nat) : Bool := decide (k = 2#8) || spcl d v || decide (fstS d (pathN (w / 2) (Nat.log2 w - Nat.log2 v - 1)) = 0)
/-- the labels at the nodes above a leaf, from the one j above it on -/
def labK (k : BitVec 8) (d leaf : Nat) : Nat → List (Nat × Nat)
  | 0 => []
  | j + 1 => ((pathN leaf (j + 1)).filter fun p => subN k d (leaf / 2 ^ (j + 1)) (p ^^^ 1)).map (fun p => (leaf / 2 ^ (j + 1), p ^^^ 1)) ++ labK k d leaf j
/-- the nodes of the labels of a receiver -/
def labN (k : BitVec 8) (d u : Nat) : List (Nat × Nat) := (1, 0) :: if k = 1#8 then (pathN (2 ^ d + u) d).map (fun p => (p, 0)) else labK k d (2 ^ d + u) d
def labI (k : BitVec 8) (d u : Nat) : List (Int × Int) := (labN k d u).map fun x => ((x.1 : Int), (x.2 : Int))
def labS (k : BitVec 8) (d u : Nat) : List TSubset := (labN k d u).map fun x => TSubset.mk (x.1 : Int) (x.2 : Int)
/-- what is checked of each: both mirrors; how many there are; their nodes; Minus below Node -/
def labB (k : BitVec 8) (d u : Nat) : Bool :=
  decide (cover_tree_labels_1 ⟨k, (d : Int), (strd d : Int)⟩ (u : Int) = some (labI k d u)) && decide (ref03_LabelsOf ⟨k, (d : Int), 0, zG⟩ (u : Int) = some (labS k d u)) && decide ((labN k d u).length ≤ 100) &&
    (labN k d u).all fun x => decide (1 ≤ x.1 ∧ x.1 < 128 ∧ x.2 < 128) && (decide (x.2 = 0) || (belowB x.2 x.1 && !decide (x.2 = x.1)))
theorem lab_11 : ∀ d : Fin 7, (List.range (2 ^ d.1)).all (fun u => labB 1#8 d.1 u) = true := by decide +kernel
theorem lab_2a : ∀ d : Fin 6, (List.range (2 ^ d.1)).all (fun u => labB 2#8 d.1 u) = true := by decide +kernel
theorem lab_2b : (List.range 64).all (fun u => labB 2#8 6 u) = true := by decide +kernel
theorem lab_3a : ∀ d : Fin 6, (List.range (2 ^ d.1)).all (fun u => labB 3#8 d.1 u) = true := by decide +kernel
theorem lab_3b : (List.range 64).all (fun u => labB 3#8 6 u) = true := by decide +kernel
theorem kind_cases {k : BitVec 8} (h1 : 1#8 ≤ k) (h3 : k ≤ 3#8) : k = 1#8 ∨ k = 2#8 ∨ k = 3#8 := by
  have a : 1 ≤ k.toNat := h1
  have b : k.toNat ≤ 3 := h3
  rcases (show k.toNat = 1 ∨ k.toNat = 2 ∨ k.toNat = 3 by omega) with h | h | h
  · exact .inl (BitVec.eq_of_toNat_eq h)
  · exact .inr (.inl (BitVec.eq_of_toNat_eq h))
  · exact .inr (.inr (BitVec.eq_of_toNat_eq h))
theorem lab_all {k : BitVec 8} {d u : Nat} (h1 : 1#8 ≤ k) (h3 : k ≤ 3#8) (hd : d ≤ 6) (hu : u < 2 ^ d) : labB k d u = true := by
  have key : ∀ {n : Nat} {f : Nat → Bool}, (List.range n).all f = true → u < n → f u = true := fun h hu => List.all_eq_true.1 h u (List.mem_range.2 hu)
  rcases kind_cases h1 h3 with rfl | rfl | rfl
  · exact key (lab_11 ⟨d, by omega⟩) hu
  · rcases Nat.lt_or_ge d 6 with h | h
    · exact key (lab_2a ⟨d, h⟩) hu
    · obtain rfl : d = 6 := by omega
      exact key lab_2b hu
  · rcases Nat.lt_or_ge d 6 with h | h
    · exact key (lab_3a ⟨d, h⟩) hu
    · obtain rfl : d = 6 := by omega
      exact key lab_3b hu
theorem vld_kind {s : TScheme} (h : vldB s = true) : 1#8 ≤ s.Kind ∧ s.Kind ≤ 3#8 := by
  unfold vldB at h
  have := of_decide_eq_true h
  exact ⟨this.1, this.2.1⟩
theorem vld_shape {s : TScheme} {d : Nat} (h : vldB s = true) (hd : s.Depth = (d : Int)) : s = ⟨s.Kind, (d : Int), 0, zG⟩ := by
  unfold vldB at h
  have := of_decide_eq_true h
  cases s; simp only at *; rw [hd, this.2.2.2.2.1, this.2.2.2.2.2]
theorem labels_eq {s : TScheme} {d u : Nat} (hv : vldB s = true) (hd : s.Depth = (d : Int)) (h6 : d ≤ 6) (hu : u < 2 ^ d) :
    cover_tree_labels_1 ⟨s.Kind, (d : Int), (strd d : Int)⟩ (u : Int) = some (labI s.Kind d u) ∧ ref03_LabelsOf s (u : Int) = some (labS s.Kind d u) ∧ (labN s.Kind d u).length ≤ 100 ∧
    ∀ x ∈ labN s.Kind d u, (1 ≤ x.1 ∧ x.1 < 128 ∧ x.2 < 128) ∧ (x.2 = 0 ∨ (belowB x.2 x.1 = true ∧ x.2 ≠ x.1)) := by
  obtain ⟨k1, k3⟩ := vld_kind hv
  have h := lab_all k1 k3 h6 hu
  unfold labB at h
  simp only [Bool.and_eq_true, decide_eq_true_eq, List.all_eq_true, Bool.or_eq_true, Bool.not_eq_true', decide_eq_false_iff_not] at h
  refine ⟨h.1.1.1, ?_, h.1.2, h.2⟩
  rw [vld_shape hv hd]; exact h.1.1.2
end Go.Sx
