/- CoverSchemes on the mirrors: schemes, storage and members are the document's. -/
import Derived.Test.YtecempahccgijaaOpnSc
import Derived.Test.YtecempahccgijaaLb
set_option linter.unusedVariables false
set_option linter.unusedSimpArgs false
namespace Go.Sx
open Go

theorem count_eq : ∀ (l : List (Int × Int)) (k : Nat), k + l.length < 1000 → itL cover_Storage_R1 cover_Storage_D1 l (k : Int) = some (((k + l.length : Nat) : Int), 0)
  | [], k, _ => by rw [itL_nil]; simp [cover_Storage_D1]
  | a :: l, k, h => by
    rw [List.length_cons] at h
    rw [itL_cons]; simp only [cover_Storage_R1]
    rw [w64_nat (by omega), count_eq l (k + 1) (by omega), List.length_cons]
    congr 3; omega
theorem storage_eq (s : TScheme) : ∃ r, cover_Storage s = some r ∧ ref03_Storage s = some r := by
  unfold cover_Storage ref03_Storage
  rw [enter0, valid_eq, bind_some, bind_some]
  cases hv : vldB s with
  | false => exact ⟨_, rfl, rfl⟩
  | true =>
    obtain ⟨d, hd, h6⟩ := vld_depth hv
    have ht : treeI s = ⟨s.Kind, (d : Int), (strd d : Int)⟩ := by unfold treeI; rw [hd, Int.toNat_natCast]
    obtain ⟨e1, e2, e3, _⟩ := labels_eq (u := 0) hv hd h6 (Nat.two_pow_pos d)
    simp only [if_true, Bool.not_true, cond_false, cover_tree_labels]
    rw [if_neg (by simp), bind_some, ht]
    rw [show ((0 : Nat) : Int) = 0 from rfl] at e1 e2
    simp only
    rw [e1, e2, bind_some, bind_some]
    have hl : (labI s.Kind d 0).length = (labN s.Kind d 0).length := by simp [labI]
    have := count_eq (labI s.Kind d 0) 0 (by rw [hl]; omega)
    rw [show ((0 : Nat) : Int) = 0 from rfl] at this
    rw [this]
    exact ⟨_, rfl, by simp [labI, labS]⟩
/-- the law -/
theorem law03_CoverSchemes_ok (p0 : TScheme) (p1 : TSubset) (h0 : TScheme.ok p0) (h1 : TSubset.ok p1) : law03_CoverSchemes p0 p1 = some true := by
  obtain ⟨r, e1, e2⟩ := storage_eq p0
  obtain ⟨q, f1, f2, f3⟩ := Members_eq p0 p1
  unfold law03_CoverSchemes law03_CoverSchemes_J1 cover_Check ref03_Check
  rw [e1, e2, bind_some, bind_some, if_neg (by simp), if_neg (by simp), treeOf_eq, valid_eq, bind_some, bind_some]
  have hc : (bif !(if vldB p0 then (treeI p0, true) else (Tcover_tree.mk 0#8 0 0, false)).2 then some (30 : Int) else some 0) = (bif !vldB p0 then some 30 else some 0) := by cases vldB p0 <;> rfl
  rw [hc]
  obtain ⟨c, hc⟩ : ∃ c, (bif !vldB p0 then some (30 : Int) else some 0) = some c := by cases vldB p0 <;> exact ⟨_, rfl⟩
  rw [hc, bind_some, bind_some, decide_eq_false (by simp), cond_false, f1, f2, bind_some, bind_some, sameI_self _ (by omega), bind_some]
  simp
end Go.Sx
