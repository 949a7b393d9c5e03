/- Several texts in one: Pop Poq Pos Kyb LawSl5. -/
import Derived.Test.YtjdffpglgkefmaaGreatZf
import Derived.Test.YtjdffpglgkefmaaGreatZd
set_option linter.unusedVariables false
set_option linter.unusedSimpArgs false
section
set_option linter.unusedVariables false
set_option linter.unusedSimpArgs false
set_option linter.unusedSectionVars false
set_option maxRecDepth 100000
namespace Go.Sx.Po
open Go
/-! ### the first element with a property -/
theorem find_loop {α : Type} (l : List α) (hl : l.length < 4611686018427387904) (p : α → Bool) (F : (Int → Option Int) → Int → Option Int)
    (h1 : ∀ rec (j : Nat) (hj : j < l.length), F rec (j : Int) = bif p l[j] then some (j : Int) else rec ((j + 1 : Nat) : Int)) (h2 : ∀ rec, F rec (l.length : Int) = some (-1)) :
    ∀ (m j f : Nat), j + m = l.length → m < f → fixN F f (j : Int) = some (match (l.drop j).findIdx? p with | some i => ((j + i : Nat) : Int) | none => -1)
  | m, j, 0, _, h => by omega
  | 0, j, f + 1, hj, _ => by
    have : j = l.length := by omega
    subst this
    rw [fix_step, h2, List.drop_length]; rfl
  | m + 1, j, f + 1, hj, hf => by
    have hjl : j < l.length := by omega
    rw [fix_step, h1 _ j hjl, List.drop_eq_getElem_cons hjl, List.findIdx?_cons]
    cases hp : p l[j] with
    | true => rw [cond_true]; simp
    | false =>
      rw [cond_false, find_loop l hl p F h1 h2 m (j + 1) f (by omega) (by omega)]
      simp only [Bool.false_eq_true, if_false]
      cases (l.drop (j + 1)).findIdx? p with
      | none => rfl
      | some i => simp only [Option.map_some]; congr 2; omega
theorem find_go {α : Type} (l : List α) (hl : l.length < 4611686018427387904) (p : α → Bool) (F : (Int → Option Int) → Int → Option Int)
    (h1 : ∀ rec (j : Nat) (hj : j < l.length), F rec (j : Int) = bif p l[j] then some (j : Int) else rec ((j + 1 : Nat) : Int)) (h2 : ∀ rec, F rec (l.length : Int) = some (-1)) :
    fixN F FUEL 0 = some (match l.findIdx? p with | some i => (i : Int) | none => -1) := by
  have := find_loop l hl p F h1 h2 l.length 0 FUEL (by omega) (fuel_lt (by omega))
  rw [List.drop_zero, show ((0 : Nat) : Int) = 0 from rfl] at this
  rw [this]
  cases l.findIdx? p with
  | none => rfl
  | some i => simp
theorem idx_any {α : Type} (l : List α) (p : α → Bool) : decide ((0 : Int) ≤ (match l.findIdx? p with | some i => (i : Int) | none => -1)) = l.any p := by
  cases h : l.findIdx? p with
  | none =>
    have : l.any p = false := by
      rw [List.findIdx?_eq_none_iff] at h
      rw [List.any_eq_false]; intro x hx; rw [h x hx]; simp
    rw [this]; rfl
  | some i =>
    have : l.any p = true := by
      have h3 := List.findIdx?_eq_some_iff_getElem.1 h
      obtain ⟨h4, h5, _⟩ := h3
      exact List.any_eq_true.2 ⟨_, List.getElem_mem h4, h5⟩
    rw [this]; simp
/-! ### distinct points -/
theorem same_any (l : List TPoint) (hl : l.length < 4611686018427387904) (y : TPoint) : slices_ContainsFunc_9e39_poly_distinct_1 l y = some (l.any fun x => decide (x.X = y.X)) := by
  unfold slices_ContainsFunc_9e39_poly_distinct_1 slices_IndexFunc_7a5d_poly_distinct_1
  rw [find_go l hl (fun x => decide (x.X = y.X)) _ (fun rec j hj => by
    simp only [slices_IndexFunc_7a5d_poly_distinct_1_L1, poly_distinct_1]
    rw [if_pos (by omega), getI_some hj, bind_some, bind_some, w64_nat (by omega)]) (fun rec => by
    simp only [slices_IndexFunc_7a5d_poly_distinct_1_L1]; rw [if_neg (by omega)]), bind_some, idx_any]
theorem nodup_range {β : Type} [DecidableEq β] (l : List β) : ((List.range l.length).all fun j => !((l.take j).any fun x => decide (some x = l[j]?))) = decide l.Nodup := by
  rw [Bool.eq_iff_iff, decide_eq_true_eq, List.all_eq_true]
  constructor
  · intro h
    rw [List.Nodup, List.pairwise_iff_getElem]
    intro i j hi hj hij he
    have := h j (by simpa using hj)
    rw [Bool.not_eq_true', List.any_eq_false] at this
    refine this l[i] ?_ (by simp [he, hj])
    rw [List.mem_take_iff_getElem]
    exact ⟨i, by omega, rfl⟩
  · intro h j hj
    have hj' : j < l.length := by simpa using hj
    rw [Bool.not_eq_true', List.any_eq_false]
    intro x hx he
    rw [List.mem_take_iff_getElem] at hx
    obtain ⟨i, hi, rfl⟩ := hx
    rw [decide_eq_true_eq, List.getElem?_eq_getElem hj'] at he
    exact List.pairwise_iff_getElem.1 h i j (by omega) hj' (by omega) (Option.some.inj he)
def dstB (l : List TPoint) : Bool := decide (l.map (·.X)).Nodup
theorem distinct_eq (l : List TPoint) (hl : l.length < 4611686018427387904) : poly_distinct l = some (dstB l) := by
  unfold poly_distinct dstB
  have := fix_range l.length (poly_distinct_L1 l) (fun j (_ : Unit) => (j : Int)) (fun j nx u => bif !(((l.map (·.X)).take j).any fun x => decide (some x = (l.map (·.X))[j]?)) then nx u else some false) (fun _ => some true)
    (fun rec j hj _ => by
      simp only [poly_distinct_L1]
      have hs : sliG l 0 (j : Int) = some (l.take j) := by unfold sliG; rw [if_pos (by omega)]; simp
      rw [if_pos (by omega), getI_some hj, bind_some, hs, bind_some, same_any _ (by rw [List.length_take]; omega), bind_some, w64_nat (by omega)]
      have e : ((l.take j).any fun x => decide (x.X = l[j].X)) = (((l.map (·.X)).take j).any fun x => decide (some x = (l.map (·.X))[j]?)) := by
        rw [← List.map_take, List.any_map]
        congr 1; funext x
        simp [hj]
      rw [e]
      cases (((l.map (·.X)).take j).any fun x => decide (some x = (l.map (·.X))[j]?)) <;> rfl)
    (fun rec _ => by simp only [poly_distinct_L1]; rw [if_neg (by omega)]) (f := FUEL) (fuel_lt (by omega)) ()
  rw [show ((0 : Nat) : Int) = 0 from rfl] at this
  rw [this, all_itL _ (some true) (some false) _ _ (fun a _ nx s => rfl)]
  have h2 := nodup_range (l.map (·.X))
  rw [List.length_map] at h2
  rw [h2]
  cases decide (l.map (·.X)).Nodup <;> rfl
/-! ### right headers -/
/-- a point within the bounds -/
def ptB (s : TScheme) (x : TPoint) : Bool := decide (1#64 ≤ x.X) && decide (x.X < s.Group.Q) && decide (1#64 ≤ x.Y) && decide (x.Y < s.Group.P)
def hdB (s : TScheme) (h : THeader) : Bool := decide (h.Items = []) && decide (1#64 ≤ h.Base) && decide (h.Base < s.Group.P) && decide ((h.Points.length : Int) = s.Degree) && dstB h.Points && h.Points.all (ptB s)
def shB (s : TScheme) (c : TSecret) : Bool := decide (1#64 ≤ c.Share.X) && decide (c.Share.X < s.Group.Q) && decide (c.Share.Y < s.Group.Q)
theorem fits_loop (s : TScheme) (c : TSecret) (l : List TPoint) (hl : l.length < 4611686018427387904) : ∀ (m j f : Nat) (b : Bool), j + m = l.length → m < f → fixN (poly_fits_L4 s c l (l.length : Int)) f (b, (j : Int)) = some (b && (l.drop j).all (ptB s) && decide (c.Share.Y < s.Group.Q))
  | m, j, 0, b, _, h => by omega
  | 0, j, f + 1, b, hj, _ => by
    have : j = l.length := by omega
    subst this
    rw [fix_step]; simp only [poly_fits_L4]
    rw [if_neg (by omega), List.drop_length]
    unfold poly_fits_J2
    cases b <;> simp
  | m + 1, j, f + 1, b, hj, hf => by
    have hjl : j < l.length := by omega
    rw [fix_step]; simp only [poly_fits_L4]
    rw [if_pos (by omega), getI_some hjl, bind_some, w64_nat (by omega), List.drop_eq_getElem_cons hjl, List.all_cons]
    cases b with
    | false => unfold poly_fits_J2; simp
    | true =>
      simp only [Bool.not_true, cond_false, Bool.true_and]
      have ih := fun b => fits_loop s c l hl m (j + 1) f b (by omega) (by omega)
      by_cases a1 : 1#64 ≤ l[j].X
      · rw [if_pos a1]
        by_cases a2 : l[j].X < s.Group.Q
        · rw [if_pos a2]
          by_cases a3 : 1#64 ≤ l[j].Y
          · rw [if_pos a3, ih]; simp [ptB, a1, a2, a3]
          · rw [if_neg a3, ih]; simp [ptB, a3]
        · rw [if_neg a2, ih]; simp [ptB, a2]
      · rw [if_neg a1, ih]; simp [ptB, a1]
theorem fits_eq (s : TScheme) (c : TSecret) (h : THeader) (hl : h.Points.length * 16 ≤ 140737488351232) (hg : 1#64 < s.Group.P) : poly_fits s c h = some (hdB s h && shB s c) := by
  have j1 : ∀ b, poly_fits_J1 s c h b = some (b && h.Points.all (ptB s) && shB s c) := by
    intro b
    unfold poly_fits_J1 slices_Clone_3bad poly_fits_J3
    rw [appG_some (by simp; omega), bind_some, List.nil_append, bind_some, appG_some (by simp; omega), bind_some]
    have := fits_loop s c (h.Points ++ [⟨c.Share.X, 1#64⟩]) (by simp; omega) _ 0 FUEL b (by rw [Nat.zero_add]) (fuel_lt (by simp; omega))
    rw [show ((0 : Nat) : Int) = 0 from rfl] at this
    rw [this, List.drop_zero, List.all_append]
    congr 1
    have : [(⟨c.Share.X, 1#64⟩ : TPoint)].all (ptB s) = (decide (1#64 ≤ c.Share.X) && decide (c.Share.X < s.Group.Q)) := by simp [ptB, hg]
    rw [this]; unfold shB
    cases b <;> cases h.Points.all (ptB s) <;> simp
  unfold poly_fits
  by_cases a0 : h.Items = []
  · rw [if_pos (by rw [a0]; rfl)]
    by_cases a1 : 1#64 ≤ h.Base
    · rw [if_pos a1]
      by_cases a2 : h.Base < s.Group.P
      · rw [if_pos a2]
        by_cases a3 : (h.Points.length : Int) = s.Degree
        · rw [if_pos a3, distinct_eq _ (by omega), bind_some, j1]; simp [hdB, a0, a1, a2, a3]
        · rw [if_neg a3, j1]; simp [hdB, a3]
      · rw [if_neg a2, j1]; simp [hdB, a2]
    · rw [if_neg a1, j1]; simp [hdB, a1]
  · rw [if_neg (by intro e; exact a0 (List.length_eq_zero_iff.1 (by omega))), j1]; simp [hdB, a0]
end Go.Sx.Po

end
section
set_option linter.unusedVariables false
set_option linter.unusedSimpArgs false
set_option linter.unusedSectionVars false
set_option maxRecDepth 100000
namespace Go.Sx.Po
open Go
theorem all_and {α : Type} (l : List α) (f g : α → Bool) : (l.all fun x => f x && g x) = (l.all f && l.all g) := by
  induction l with
  | nil => rfl
  | cons a l ih => simp only [List.all_cons, ih]; cases f a <;> cases g a <;> simp
theorem range_all {α : Type} (l : List α) (f : α → Bool) (d : α) : ((List.range l.length).all fun j => f (l.getD j d)) = l.all f := by
  rw [Bool.eq_iff_iff, List.all_eq_true, List.all_eq_true]
  constructor
  · intro h x hx
    obtain ⟨j, hj, rfl⟩ := List.mem_iff_getElem.1 hx
    have := h j (by simpa using hj)
    rwa [List.getD_eq_getElem?_getD, List.getElem?_eq_getElem hj] at this
  · intro h j hj
    have hj' : j < l.length := by simpa using hj
    rw [List.getD_eq_getElem?_getD, List.getElem?_eq_getElem hj']
    exact h _ (List.getElem_mem hj')
theorem valid_hd (s : TScheme) (h : THeader) (hl : h.Points.length < 4611686018427387904) : ref04_ValidHeader s h = some (hdB s h) := by
  have inner : ∀ (j : Nat) (hj : j < h.Points.length) (rec2 : Int → Option Bool), fixN (ref04_ValidHeader_L4 h (j : Int) rec2 h.Points[j]) FUEL 0 = bif ((h.Points.take j).any fun x => decide (x.X = h.Points[j].X)) then some false else rec2 ((j + 1 : Nat) : Int) := by
    intro j hj rec2
    have := fix_range j (ref04_ValidHeader_L4 h (j : Int) rec2 h.Points[j]) (fun k (_ : Unit) => (k : Int)) (fun k nx u => bif !decide ((h.Points.getD k default).X = h.Points[j].X) then nx u else some false) (fun _ => rec2 ((j + 1 : Nat) : Int))
      (fun rec k hk _ => by
        have hk' : k < h.Points.length := by omega
        have e : h.Points.getD k default = h.Points[k] := by rw [List.getD_eq_getElem?_getD, List.getElem?_eq_getElem hk']; rfl
        simp only [ref04_ValidHeader_L4]
        rw [if_pos (by omega), getI_some hk', bind_some, e, w64_nat (by omega)]
        by_cases hx : h.Points[k].X = h.Points[j].X
        · rw [if_pos hx, decide_eq_true hx]; rfl
        · rw [if_neg hx, decide_eq_false hx]; rfl)
      (fun rec _ => by simp only [ref04_ValidHeader_L4]; rw [if_neg (by omega), w64_nat (by omega)]) (f := FUEL) (fuel_lt (by omega)) ()
    rw [show ((0 : Nat) : Int) = 0 from rfl] at this
    rw [this, all_itL _ (rec2 ((j + 1 : Nat) : Int)) (some false) _ _ (fun a _ nx s => rfl)]
    have e : ((List.range j).all fun k => !decide ((h.Points.getD k default).X = h.Points[j].X)) = !((h.Points.take j).any fun x => decide (x.X = h.Points[j].X)) := by
      rw [Bool.eq_iff_iff, List.all_eq_true, Bool.not_eq_true', List.any_eq_false]
      constructor
      · intro h1 x hx
        rw [List.mem_take_iff_getElem] at hx
        obtain ⟨i, hi, rfl⟩ := hx
        have hi' : i < h.Points.length := by omega
        have := h1 i (List.mem_range.2 (by omega))
        rw [List.getD_eq_getElem?_getD, List.getElem?_eq_getElem hi'] at this
        simpa using this
      · intro h1 k hk
        have hk1 := List.mem_range.1 hk
        have hk' : k < h.Points.length := by omega
        have := h1 h.Points[k] (by rw [List.mem_take_iff_getElem]; exact ⟨k, by omega, rfl⟩)
        rw [List.getD_eq_getElem?_getD, List.getElem?_eq_getElem hk']
        simpa using this
    rw [e]
    cases ((h.Points.take j).any fun x => decide (x.X = h.Points[j].X)) <;> rfl
  have outer : fixN (ref04_ValidHeader_L2 s h) FUEL 0 = some (dstB h.Points && h.Points.all (ptB s)) := by
    have := fix_range h.Points.length (ref04_ValidHeader_L2 s h) (fun j (_ : Unit) => (j : Int)) (fun j nx u => bif ptB s (h.Points.getD j default) && !(((h.Points.map (·.X)).take j).any fun x => decide (some x = (h.Points.map (·.X))[j]?)) then nx u else some false) (fun _ => some true)
      (fun rec j hj _ => by
        have e : h.Points.getD j default = h.Points[j] := by rw [List.getD_eq_getElem?_getD, List.getElem?_eq_getElem hj]; rfl
        have e2 : (((h.Points.map (·.X)).take j).any fun x => decide (some x = (h.Points.map (·.X))[j]?)) = ((h.Points.take j).any fun x => decide (x.X = h.Points[j].X)) := by
          rw [← List.map_take, List.any_map]; congr 1; funext x; simp [hj]
        simp only [ref04_ValidHeader_L2, ref04_ValidHeader_J3]
        rw [if_pos (by omega), getI_some hj, bind_some, e, e2]
        by_cases a1 : h.Points[j].X < 1#64
        · rw [if_pos a1]; have : ¬ 1#64 ≤ h.Points[j].X := by rw [BitVec.le_def]; rw [BitVec.lt_def] at a1; omega
          simp [ptB, this]
        · rw [if_neg a1]; have b1 : 1#64 ≤ h.Points[j].X := by rw [BitVec.le_def]; rw [BitVec.lt_def] at a1; omega
          by_cases a2 : s.Group.Q ≤ h.Points[j].X
          · rw [if_pos a2]; have : ¬ h.Points[j].X < s.Group.Q := by rw [BitVec.lt_def]; rw [BitVec.le_def] at a2; omega
            simp [ptB, this]
          · rw [if_neg a2]; have b2 : h.Points[j].X < s.Group.Q := by rw [BitVec.lt_def]; rw [BitVec.le_def] at a2; omega
            by_cases a3 : h.Points[j].Y < 1#64
            · rw [if_pos a3]; have : ¬ 1#64 ≤ h.Points[j].Y := by rw [BitVec.le_def]; rw [BitVec.lt_def] at a3; omega
              simp [ptB, this]
            · rw [if_neg a3]; have b3 : 1#64 ≤ h.Points[j].Y := by rw [BitVec.le_def]; rw [BitVec.lt_def] at a3; omega
              by_cases a4 : s.Group.P ≤ h.Points[j].Y
              · rw [decide_eq_true a4]; have : ¬ h.Points[j].Y < s.Group.P := by rw [BitVec.lt_def]; rw [BitVec.le_def] at a4; omega
                simp [ptB, this]
              · rw [decide_eq_false a4, cond_false, inner j hj]; have b4 : h.Points[j].Y < s.Group.P := by rw [BitVec.lt_def]; rw [BitVec.le_def] at a4; omega
                have : ptB s h.Points[j] = true := by simp [ptB, b1, b2, b3, b4]
                rw [this]
                cases ((h.Points.take j).any fun x => decide (x.X = h.Points[j].X)) <;> rfl)
      (fun rec _ => by simp only [ref04_ValidHeader_L2]; rw [if_neg (by omega)]) (f := FUEL) (fuel_lt (by omega)) ()
    rw [show ((0 : Nat) : Int) = 0 from rfl] at this
    rw [this, all_itL _ (some true) (some false) _ _ (fun a _ nx s => rfl), all_and, range_all]
    have h2 := nodup_range (h.Points.map (·.X))
    rw [List.length_map] at h2
    rw [h2]; unfold dstB
    cases decide (h.Points.map (·.X)).Nodup <;> cases h.Points.all (ptB s) <;> rfl
  unfold ref04_ValidHeader ref04_ValidHeader_J1
  by_cases a0 : h.Items = []
  · rw [if_neg (by rw [a0]; simp)]
    by_cases a1 : h.Base < 1#64
    · rw [if_pos a1]; have : ¬ 1#64 ≤ h.Base := by rw [BitVec.le_def]; rw [BitVec.lt_def] at a1; omega
      simp [hdB, this]
    · rw [if_neg a1]; have b1 : 1#64 ≤ h.Base := by rw [BitVec.le_def]; rw [BitVec.lt_def] at a1; omega
      by_cases a2 : s.Group.P ≤ h.Base
      · rw [if_pos a2]; have : ¬ h.Base < s.Group.P := by rw [BitVec.lt_def]; rw [BitVec.le_def] at a2; omega
        simp [hdB, this]
      · rw [if_neg a2]; have b2 : h.Base < s.Group.P := by rw [BitVec.lt_def]; rw [BitVec.le_def] at a2; omega
        by_cases a3 : (h.Points.length : Int) = s.Degree
        · rw [decide_eq_false (by simpa using a3), cond_false, outer]; simp [hdB, a0, b1, b2, a3]
        · rw [decide_eq_true a3]; simp [hdB, a3]
  · rw [if_pos (by intro e; exact a0 (List.length_eq_zero_iff.1 (by omega)))]; simp [hdB, a0]
/-! ### factors -/
open Classical in
/-- the inverse -/
noncomputable def iv {q : Nat} [NeZero q] (a : Fin q) : Fin q := if h : ∃ x, a * x = 1 then Classical.choose h else 0
section
variable {q : Nat} [NeZero q]
theorem iv_spec (hP : Prm q) (q2 : q ≤ 1048575) {a : Fin q} (ha : a ≠ 0) : a * iv a = 1 ∧ number_InvMod (fe a) (bn q) = some (fe (iv a), 0) ∧ ref01_Inverse (fe a) (bn q) = some (fe (iv a), true) := by
  obtain ⟨x, h1, h2, h3⟩ := inv_eq hP q2 ha
  have h4 : a * iv a = 1 := by
    unfold iv; rw [dif_pos ⟨x, h1⟩]; exact Classical.choose_spec (p := fun x => a * x = 1) ⟨x, h1⟩
  have : x = iv a := by grind
  rw [← this]
  exact ⟨h1, h2, h3⟩
theorem fin1 (q1 : 2 ≤ q) : (1 : Fin q).val = 1 := Nat.mod_eq_of_lt (show 1 < q by omega)
theorem one_ne (q1 : 2 ≤ q) : (1 : Fin q) ≠ 0 := fun h => by
  have := congrArg Fin.val h
  rw [fin1 q1] at this
  exact absurd this (by simp)
theorem mul_ne (hP : Prm q) (q2 : q ≤ 1048575) {a b : Fin q} (ha : a ≠ 0) (hb : b ≠ 0) : a * b ≠ 0 := fun h => by
  have h1 := (iv_spec hP q2 ha).1
  have h2 := (iv_spec hP q2 hb).1
  refine one_ne hP.1 ?_
  have : (a * b) * (iv a * iv b) = 1 := by grind
  rw [h] at this
  grind
theorem fdiv_eq (hP : Prm q) (q2 : q ≤ 1048575) {a b : Fin q} (hb : b ≠ 0) : poly_field_div (bn q) (fe a) (fe b) = some (fe (a * iv b)) := by
  unfold poly_field_div
  rw [(iv_spec hP q2 hb).2.1, bind_some, fmul_eq hP.1 q2, bind_some]
/-- above and under, of the first k numbers -/
def abF (X : Nat → Fin q) (j : Nat) : Nat → Fin q × Fin q
  | 0 => (1, 1)
  | k + 1 => if k ≠ j then ((abF X j k).1 * X k, (abF X j k).2 * (X k - X j)) else abF X j k
noncomputable def facF (X : Nat → Fin q) (j : Nat) : Nat → Fin q
  | 0 => 1
  | k + 1 => if k = j then facF X j k else facF X j k * X k * iv (X k - X j)
theorem ab_fac (hP : Prm q) (q2 : q ≤ 1048575) (X : Nat → Fin q) (j : Nat) : ∀ (n : Nat), (∀ k, k < n → k ≠ j → X k - X j ≠ 0) → (abF X j n).2 ≠ 0 ∧ facF X j n * (abF X j n).2 = (abF X j n).1
  | 0, _ => ⟨one_ne hP.1, by simp only [facF, abF]; grind⟩
  | n + 1, h => by
    obtain ⟨h1, h2⟩ := ab_fac hP q2 X j n (fun k hk => h k (by omega))
    simp only [facF, abF]
    by_cases e : n = j
    · rw [if_pos e, if_neg (by simpa using e)]; exact ⟨h1, h2⟩
    · rw [if_neg e, if_pos e]
      have h3 := h n (by omega) e
      have h4 := (iv_spec hP q2 h3).1
      exact ⟨mul_ne hP q2 h1 h3, by simp only; grind⟩
theorem fac_eq (hP : Prm q) (q2 : q ≤ 1048575) (X : Nat → Fin q) (j n : Nat) (h : ∀ k, k < n → k ≠ j → X k - X j ≠ 0) : (abF X j n).1 * iv (abF X j n).2 = facF X j n := by
  obtain ⟨h1, h2⟩ := ab_fac hP q2 X j n h
  have h3 := (iv_spec hP q2 h1).1
  grind
theorem factor_eq (hP : Prm q) (q2 : q ≤ 1048575) (X : Nat → Fin q) (n j : Nat) (hn : n < 4611686018427387904) (hj : j < n) (h : ∀ k, k < n → k ≠ j → X k - X j ≠ 0) :
    ref04_factor (bn q) ((List.range n).map fun k => fe (X k)) (j : Int) = some (fe (facF X j n)) := by
  have q1 := hP.1
  unfold ref04_factor
  refine fix_go _ (fun k st => st = (fe (facF X j k), (k : Int))) n _ (by omega) ?_ ?_ ?_
  · simp only [facF]
    rw [show fe (1 : Fin q) = 1#64 from by unfold fe; rw [fin1 q1]]; rfl
  · rintro k _ hk rfl
    refine ⟨_, rfl, fun rec => ?_⟩
    simp only [ref04_factor_L1, facF]
    rw [if_pos (by simp; omega), w64_nat (by omega)]
    by_cases e : k = j
    · rw [if_pos (by omega), if_pos e]
    · have h3 := h k hk e
      have hA := (facF X j k).isLt
      have hX := (X k).isLt
      have hI := (iv (X k - X j)).isLt
      have hp1 : (facF X j k).val * (X k).val ≤ 1048575 * 1048575 := Nat.mul_le_mul (by omega) (by omega)
      have hm1 := Nat.mod_lt ((facF X j k).val * (X k).val) (show 0 < q by omega)
      have hp2 : (facF X j k).val * (X k).val % q * (iv (X k - X j)).val ≤ 1048575 * 1048575 := Nat.mul_le_mul (by omega) (by omega)
      rw [if_neg (by omega), if_neg e, getI_some (by simpa using hk), bind_some, getI_some (by simpa using hj), bind_some]
      simp only [List.getElem_map, List.getElem_range]
      rw [fminus_eq q1 q2, bind_some, (iv_spec hP q2 h3).2.2, bind_some, bind_some, bn_mul, remU_bn (by omega) (by omega) (by omega), bind_some]
      simp only
      rw [bn_mul, remU_bn (by omega) (by omega) (by omega), bind_some]; rfl
  · rintro _ rfl rec
    simp only [ref04_factor_L1]
    rw [if_neg (by simp)]
/-! ### the mask -/
/-- the product of the points' powers -/
noncomputable def zF (p : Nat) (X : Nat → Fin q) (Y : Nat → Nat) (n : Nat) : Nat → Nat
  | 0 => 1
  | j + 1 => zF p X Y n j * (Y j ^ (facF X j n).val % p) % p
variable {s : TScheme} {d t p g : Nat}
theorem zF_lt (hp : 2 ≤ p) (X : Nat → Fin q) (Y : Nat → Nat) (n : Nat) : ∀ j, zF p X Y n j < p
  | 0 => by simp only [zF]; omega
  | j + 1 => Nat.mod_lt _ (by omega)
theorem open_loop (h : Vld s d t p q g) (hd : THeader) (l : List TPoint) (X : Nat → Fin q) (Y : Nat → Nat) (hl : l.length < 4611686018427387904) (hX : ∀ k (hk : k < l.length), l[k].X = fe (X k)) (hY : ∀ k (hk : k < l.length), l[k].Y = bn (Y k) ∧ Y k < p) (hne : ∀ k j, k < l.length → j < l.length → k ≠ j → X k - X j ≠ 0) :
    fixN (poly_Open_L1 s hd l) FUEL (1#64, 0) = poly_Open_J3 hd (decr (drv k0 (un8 42#8) (bn (zF p X Y l.length l.length))) hd.Box) := by
  obtain ⟨p1, p2⟩ := h.pb
  have hP := h.ok.2.1.2
  have q2 := h.ok.2.1.1
  have q1 := hP.1
  refine fix_go _ (fun j st => st = (bn (zF p X Y l.length j), (j : Int))) l.length _ (by omega) (by simp [zF]) ?_ ?_
  · rintro j _ hj rfl
    refine ⟨_, rfl, fun rec => ?_⟩
    have hz := zF_lt p1 X Y l.length j
    have hin : fixN (poly_Open_L2 s l (bn (zF p X Y l.length j)) (j : Int) rec l[j]) FUEL (1#64, 1#64, 0) = rec (bn (zF p X Y l.length (j + 1)), ((j + 1 : Nat) : Int)) := by
      refine fix_go _ (fun k st => st = (fe (abF X j k).1, fe (abF X j k).2, (k : Int))) l.length _ (by omega) ?_ ?_ ?_
      · simp only [abF]
        rw [show fe (1 : Fin q) = 1#64 from by unfold fe; rw [fin1 q1]]; rfl
      · rintro k _ hk rfl
        refine ⟨_, rfl, fun rec2 => ?_⟩
        simp only [poly_Open_L2, abF]
        rw [if_pos (by omega), getI_some hk, bind_some, w64_nat (by omega)]
        by_cases e : k = j
        · rw [if_neg (by omega), if_neg (by simpa using e)]
        · rw [if_pos (by omega), if_pos e, h.grp, hX k hk, hX j hj]
          simp only
          rw [fmul_eq q1 q2, bind_some, fsub_eq q1 q2, bind_some, fmul_eq q1 q2, bind_some]
      · rintro _ rfl rec2
        simp only [poly_Open_L2]
        have hne' : ∀ k, k < l.length → k ≠ j → X k - X j ≠ 0 := fun k hk he => hne k j hk hj he
        have hf := (facF X j l.length).isLt
        obtain ⟨hy, hy2⟩ := hY j hj
        rw [if_neg (by omega), h.grp]
        simp only
        rw [fdiv_eq hP q2 (ab_fac hP q2 X j l.length hne').1, bind_some, fac_eq hP q2 X j l.length hne', hy, ppow_eq h (by omega) (by omega), bind_some, mul2_eq p1 p2 hz (Nat.mod_lt _ (by omega)), bind_some, w64_nat (by omega)]
        rfl
    simp only [poly_Open_L1]
    rw [if_pos (by omega), getI_some hj, bind_some]
    exact hin
  · rintro _ rfl rec
    simp only [poly_Open_L1]
    rw [if_neg (by omega)]
    unfold poly_maskKey
    rw [bind_some]
theorem ropen_loop (h : Vld s d t p q g) (hd : THeader) (n : Nat) (X : Nat → Fin q) (Y : Nat → Nat) (hn : n < 4611686018427387904) (hY : ∀ k, k < n → Y k < p) (hne : ∀ k j, k < n → j < n → k ≠ j → X k - X j ≠ 0) :
    fixN (ref04_Open_L3 s hd ((List.range n).map fun k => fe (X k)) ((List.range n).map fun k => bn (Y k))) FUEL (1#64, 0) = ref04_Open_J4 hd (decr (drv k0 (un8 42#8) (bn (zF p X Y n n))) hd.Box) := by
  obtain ⟨p1, p2⟩ := h.pb
  have hP := h.ok.2.1.2
  have q2 := h.ok.2.1.1
  have q1 := hP.1
  refine fix_go _ (fun j st => st = (bn (zF p X Y n j), (j : Int))) n _ (by omega) (by simp [zF]) ?_ ?_
  · rintro j _ hj rfl
    refine ⟨_, rfl, fun rec => ?_⟩
    have hz := zF_lt p1 X Y n j
    have hf := (facF X j n).isLt
    have hy2 := hY j hj
    have hm := Nat.mod_lt (Y j ^ (facF X j n).val) (show 0 < p by omega)
    have hp2 : zF p X Y n j * (Y j ^ (facF X j n).val % p) ≤ 1048575 * 1048575 := Nat.mul_le_mul (by omega) (by omega)
    simp only [ref04_Open_L3]
    rw [if_pos (by simp; omega), getI_some (by simpa using hj), bind_some, h.grp]
    simp only [List.getElem_map, List.getElem_range]
    rw [factor_eq hP q2 X n j hn hj (fun k hk he => hne k j hk hj he), bind_some, rpower_eq (by omega) (by omega) (by omega) (by omega), bind_some, bn_mul, remU_bn (by omega) (by omega) (by omega), bind_some, w64_nat (by omega)]
    rfl
  · rintro _ rfl rec
    simp only [ref04_Open_L3]
    rw [if_neg (by simp)]
    unfold ref04_MaskKey
    rw [bind_some, Cy.rdecr_eq, bind_some]
end
end Go.Sx.Po

end
section
set_option linter.unusedVariables false
set_option linter.unusedSimpArgs false
set_option linter.unusedSectionVars false
set_option maxRecDepth 100000
namespace Go.Sx.Po
open Go
theorem bn_toNat (x : BitVec 64) : bn x.toNat = x := by simp [bn]
theorem map_range {α β : Type} (l : List α) (f : α → β) (g : Nat → β) (h : ∀ k (hk : k < l.length), f l[k] = g k) : l.map f = (List.range l.length).map g := by
  apply List.ext_getElem
  · simp
  · intro i h1 h2
    simp only [List.getElem_map, List.getElem_range]
    exact h i (by simpa using h1)
/-- all points of an opening -/
def allP (c : TSecret) (h : THeader) (p : Nat) : List TPoint := ⟨c.Share.X, bn (h.Base.toNat ^ c.Share.Y.toNat % p)⟩ :: h.Points
section
variable {s : TScheme} {d t p q g : Nat}
theorem open_val (hv : Vld s d t p q g) (e1 : poly_valid s = some true) (c : TSecret) (h : THeader) (hl : h.Points.length * 16 ≤ 140737488351232) :
    poly_Open s c h = if hdB s h = true ∧ shB s c = true then (if dstB (allP c h p) = true then fixN (poly_Open_L1 s h (allP c h p)) FUEL (1#64, 0) else some (k0, 6)) else some (k0, 8) := by
  obtain ⟨p1, p2⟩ := hv.pb
  unfold poly_Open
  rw [e1, bind_some, fits_eq s c h hl (by rw [hv.grp]; exact (bn_lt (a := 1) (by omega) (by omega)).2 (by omega)), bind_some]
  simp only [Bool.not_true, cond_false]
  cases h1 : hdB s h with
  | false => simp
  | true =>
    cases h2 : shB s c with
    | false => simp
    | true =>
      have hb := h.Base.isLt
      have hy := c.Share.Y.isLt
      have e := ppow_eq hv hb hy
      rw [bn_toNat, bn_toNat] at e
      simp only [Bool.and_self, Bool.not_true, cond_false]
      rw [e, bind_some, appG_some (by simp; omega), bind_some, if_pos (by simp)]
      have e2 : [(⟨c.Share.X, bn (h.Base.toNat ^ c.Share.Y.toNat % p)⟩ : TPoint)] ++ h.Points = allP c h p := rfl
      rw [e2, distinct_eq _ (by simp [allP]; omega), bind_some]
      cases dstB (allP c h p) <;> simp
theorem ropen_val (hv : Vld s d t p q g) (e2 : ref04_Valid s = some true) (c : TSecret) (h : THeader) (hl : h.Points.length * 16 ≤ 140737488351232) :
    ref04_Open s c h = if hdB s h = true ∧ shB s c = true then (if dstB (allP c h p) = true then fixN (ref04_Open_L3 s h ((allP c h p).map (·.X)) ((allP c h p).map (·.Y))) FUEL (1#64, 0) else some (k0, 6)) else some (k0, 8) := by
  obtain ⟨p1, p2⟩ := hv.pb
  unfold ref04_Open ref04_Open_J1
  rw [e2, bind_some, valid_hd s h (by omega), bind_some]
  simp only [Bool.not_true, cond_false]
  cases h1 : hdB s h with
  | false => simp
  | true =>
    simp only [Bool.not_true, cond_false, true_and]
    by_cases a1 : c.Share.X < 1#64
    · rw [if_pos a1]; have : ¬ 1#64 ≤ c.Share.X := by rw [BitVec.le_def]; rw [BitVec.lt_def] at a1; omega
      simp [shB, this]
    · rw [if_neg a1]; have b1 : 1#64 ≤ c.Share.X := by rw [BitVec.le_def]; rw [BitVec.lt_def] at a1; omega
      by_cases a2 : s.Group.Q ≤ c.Share.X
      · rw [if_pos a2]; have : ¬ c.Share.X < s.Group.Q := by rw [BitVec.lt_def]; rw [BitVec.le_def] at a2; omega
        simp [shB, this]
      · rw [if_neg a2]; have b2 : c.Share.X < s.Group.Q := by rw [BitVec.lt_def]; rw [BitVec.le_def] at a2; omega
        by_cases a3 : s.Group.Q ≤ c.Share.Y
        · rw [decide_eq_true a3]; have : ¬ c.Share.Y < s.Group.Q := by rw [BitVec.lt_def]; rw [BitVec.le_def] at a3; omega
          simp [shB, this]
        · rw [decide_eq_false a3, cond_false]; have b3 : c.Share.Y < s.Group.Q := by rw [BitVec.lt_def]; rw [BitVec.le_def] at a3; omega
          have hs : shB s c = true := by simp [shB, b1, b2, b3]
          have hb := h.Base.isLt
          have hy := c.Share.Y.isLt
          have e := rpower_eq hb hy (show 0 < p by omega) (show p < 4294967296 by omega)
          rw [bn_toNat, bn_toNat] at e
          rw [if_pos hs, hv.grp]
          simp only
          rw [e, bind_some]
          have := fix_range h.Points.length (ref04_Open_L2 s c h) (fun j (_ : Unit) => (c.Share.X :: (h.Points.take j).map (·.X), bn (h.Base.toNat ^ c.Share.Y.toNat % p) :: (h.Points.take j).map (·.Y), (j : Int))) (fun j nx u => bif !decide ((h.Points.getD j default).X = c.Share.X) then nx u else some (k0, 6)) (fun _ => fixN (ref04_Open_L3 s h ((allP c h p).map (·.X)) ((allP c h p).map (·.Y))) FUEL (1#64, 0))
            (fun rec j hj _ => by
              have ee : h.Points.getD j default = h.Points[j] := by rw [List.getD_eq_getElem?_getD, List.getElem?_eq_getElem hj]; rfl
              simp only [ref04_Open_L2]
              rw [if_pos (by omega), getI_some hj, bind_some, ee]
              by_cases hx : h.Points[j].X = c.Share.X
              · rw [if_pos hx, decide_eq_true hx]; rfl
              · rw [if_neg hx, decide_eq_false hx, bind_some, appG_some (by simp; omega), bind_some, bind_some, appG_some (by simp; omega), bind_some, w64_nat (by omega), take_snoc _ j hj, List.map_append, List.map_append]; rfl)
            (fun rec _ => by
              simp only [ref04_Open_L2]
              rw [if_neg (by omega), List.take_length]; rfl) (f := FUEL) (fuel_lt (by omega)) ()
          rw [show ((0 : Nat) : Int) = 0 from rfl] at this
          simp only [List.take_zero, List.map_nil] at this
          rw [this, all_itL _ _ (some (k0, 6)) _ _ (fun a _ nx s => rfl), range_all h.Points (fun x => !decide (x.X = c.Share.X)) default]
          have hd : dstB h.Points = true := by
            simp only [hdB, Bool.and_eq_true] at h1; exact h1.1.2
          have e3 : dstB (allP c h p) = h.Points.all (fun x => !decide (x.X = c.Share.X)) := by
            rw [Bool.eq_iff_iff, List.all_eq_true]
            unfold dstB allP at *
            rw [decide_eq_true_eq] at hd ⊢
            rw [List.map_cons, List.nodup_cons]
            constructor
            · rintro ⟨n1, _⟩ x hx
              rw [Bool.not_eq_true', decide_eq_false_iff_not]
              intro he; exact n1 (List.mem_map.2 ⟨x, hx, he⟩)
            · intro n1
              refine ⟨fun hm => ?_, hd⟩
              obtain ⟨x, hx, he⟩ := List.mem_map.1 hm
              have := n1 x hx
              rw [Bool.not_eq_true', decide_eq_false_iff_not] at this
              exact this he
          rw [e3]
          cases h.Points.all (fun x => !decide (x.X = c.Share.X)) <;> rfl
/-- the mask's points, aas numbers -/
def Xa (q : Nat) [NeZero q] (l : List TPoint) (k : Nat) : Fin q := fi q (l.getD k default).X.toNat
def Ya (l : List TPoint) (k : Nat) : Nat := (l.getD k default).Y.toNat
theorem pts_facts [NeZero q] (hv : Vld s d t p q g) (c : TSecret) (h : THeader) (h1 : hdB s h = true) (h2 : shB s c = true) (h3 : dstB (allP c h p) = true) :
    (∀ k (hk : k < (allP c h p).length), (allP c h p)[k].X = fe (Xa q (allP c h p) k)) ∧ (∀ k (hk : k < (allP c h p).length), (allP c h p)[k].Y = bn (Ya (allP c h p) k) ∧ Ya (allP c h p) k < p) ∧
    (∀ k j, k < (allP c h p).length → j < (allP c h p).length → k ≠ j → Xa q (allP c h p) k - Xa q (allP c h p) j ≠ 0) := by
  obtain ⟨p1, p2⟩ := hv.pb
  obtain ⟨q1, q2⟩ := hv.qb
  have hall : ∀ x ∈ allP c h p, x.X.toNat < q ∧ x.Y.toNat < p := by
    intro x hx
    rcases List.mem_cons.1 hx with rfl | hx
    · simp only [shB, Bool.and_eq_true, decide_eq_true_eq, hv.grp] at h2
      have := h2.1.2
      rw [BitVec.lt_def, bn_nat (by omega)] at this
      have hm := Nat.mod_lt (h.Base.toNat ^ c.Share.Y.toNat) (show 0 < p by omega)
      exact ⟨this, by simp only; rw [bn_nat (by omega)]; exact hm⟩
    · simp only [hdB, Bool.and_eq_true] at h1
      have := List.all_eq_true.1 h1.2 x hx
      simp only [ptB, Bool.and_eq_true, decide_eq_true_eq, hv.grp, BitVec.lt_def] at this
      rw [bn_nat (by omega), bn_nat (by omega)] at this
      exact ⟨this.1.1.2, this.2⟩
  have gd : ∀ k (hk : k < (allP c h p).length), (allP c h p).getD k default = (allP c h p)[k] := fun k hk => by rw [List.getD_eq_getElem?_getD, List.getElem?_eq_getElem hk]; rfl
  refine ⟨fun k hk => ?_, fun k hk => ?_, fun k j hk hj hkj => ?_⟩
  · unfold Xa; rw [gd k hk, fe_fi (hall _ (List.getElem_mem hk)).1, bn_toNat]
  · unfold Ya; rw [gd k hk, bn_toNat]; exact ⟨rfl, (hall _ (List.getElem_mem hk)).2⟩
  · intro he
    have e1 : Xa q (allP c h p) k = Xa q (allP c h p) j := by grind
    unfold Xa at e1
    rw [gd k hk, gd j hj] at e1
    have e2 := fi_inj (hall _ (List.getElem_mem hk)).1 (hall _ (List.getElem_mem hj)).1 e1
    have e3 : (allP c h p)[k].X = (allP c h p)[j].X := BitVec.eq_of_toNat_eq e2
    unfold dstB at h3
    rw [decide_eq_true_eq, List.Nodup, List.pairwise_iff_getElem] at h3
    rcases Nat.lt_or_gt_of_ne hkj with hlt | hlt
    · exact h3 k j (by simpa using hk) (by simpa using hj) hlt (by simpa using e3)
    · exact h3 j k (by simpa using hj) (by simpa using hk) hlt (by simpa using e3.symm)
theorem open_same (s : TScheme) (c : TSecret) (h : THeader) (hl : h.Points.length * 16 ≤ 140737488351232) : ∃ r, poly_Open s c h = some r ∧ ref04_Open s c h = some r := by
  rcases valid_eq s with ⟨e1, e2⟩ | ⟨e1, e2, d, t, p, q, g, hv⟩
  · refine ⟨(k0, 30), ?_, ?_⟩
    · unfold poly_Open; rw [e1, bind_some]; rfl
    · unfold ref04_Open; rw [e2, bind_some]; rfl
  · obtain ⟨q1, q2⟩ := hv.qb
    haveI : NeZero q := ⟨by omega⟩
    rw [open_val hv e1 c h hl, ropen_val hv e2 c h hl]
    by_cases hb : hdB s h = true ∧ shB s c = true
    · rw [if_pos hb, if_pos hb]
      by_cases hd : dstB (allP c h p) = true
      · rw [if_pos hd, if_pos hd]
        obtain ⟨f1, f2, f3⟩ := pts_facts hv c h hb.1 hb.2 hd
        have hlen : (allP c h p).length < 4611686018427387904 := by simp [allP]; omega
        rw [open_loop hv h (allP c h p) (Xa q (allP c h p)) (Ya (allP c h p)) hlen f1 f2 f3, map_range (allP c h p) (·.X) (fun k => fe (Xa q (allP c h p) k)) f1, map_range (allP c h p) (·.Y) (fun k => bn (Ya (allP c h p) k)) (fun k hk => (f2 k hk).1),
          ropen_loop hv h _ (Xa q (allP c h p)) (Ya (allP c h p)) hlen (fun k hk => (f2 k hk).2) f3]
        unfold poly_Open_J3 ref04_Open_J4
        split <;> exact ⟨_, rfl, rfl⟩
      · rw [if_neg hd, if_neg hd]; exact ⟨_, rfl, rfl⟩
    · rw [if_neg hb, if_neg hb]; exact ⟨_, rfl, rfl⟩
end
end Go.Sx.Po

end
section
set_option linter.unusedVariables false
set_option linter.unusedSimpArgs false
set_option maxRecDepth 100000
namespace Go.Sx.Ep
open Go Go.Sx
theorem covP_len (s : TScheme) (l : List Int) : (covP s l).1.length ≤ 1000 := by
  unfold covP
  cases hv : vldB s with
  | false => simp
  | true =>
    obtain ⟨d, hd, h6⟩ := vld_depth hv
    rw [hd, Int.toNat_natCast]
    simp only [if_true]
    split
    · split
      · simp
      · simp only [List.length_map]; have := cov_len (k := s.Kind) (R := rcvL l) h6; omega
    · simp
theorem tick_eq (n : Int) : ∃ b, epoch_isTick n = some b ∧ ref05_Tick n = some b := by
  unfold epoch_isTick ref05_Tick
  by_cases h : 0 ≤ n
  · rw [if_pos h]; exact ⟨_, rfl, rfl⟩
  · rw [if_neg h]; exact ⟨_, rfl, rfl⟩
/-- how the layers' functions are reached -/
theorem cvd_eq (root ses : W2) (s : TScheme) (l : List Int) (x : BitVec 64) (hl : l.length ≤ 1000) : ∃ r, epoch_covered root s l ses x = some r ∧ (Option.bind (ref03_Cover s l) fun x5 => (if x5.2 ≠ 0 then (some ((THeader.mk [] 0#64 [] k0 k0), x5.2)) else Option.bind (ref03_Seal root s x5.1 ses) fun x6 => ((some (x6.1, x6.2))))) = some r ∧ r.1.Items.length ≤ 1000 ∧ r.1.Points.length ≤ 1000 := by
  unfold epoch_covered
  rw [pcover_eq s l (by omega), rcover_eq s l (by omega), bind_some, bind_some]
  by_cases h : (covP s l).2 ≠ 0
  · rw [if_pos h, if_pos h]; exact ⟨_, rfl, rfl, by simp, by simp⟩
  · rw [if_neg h, if_neg h]
    obtain ⟨r, h1, h2, h3, h4⟩ := seal_eq root ses s (covP s l).1 (by have := covP_len s l; omega)
    rw [h1, h2]; exact ⟨_, rfl, rfl, h3, h4⟩
theorem sl_eq (root : W2) (s : TScheme) (n : Int) (l : List Int) (hl : l.length ≤ 1000) : ∃ r, epoch_Seal root s n l = some r ∧ ref05_Seal root s n l = some r ∧ r.1.Items.length ≤ 1000 ∧ r.1.Points.length ≤ 1000 := by
  obtain ⟨e, h1, h2, h3⟩ := ks_eq s
  obtain ⟨tk, t1, t2⟩ := tick_eq n
  unfold ref05_Seal ref05_Session
  rw [h2, bind_some, t2, bind_some, bind_some]
  unfold epoch_CheckScheme at h1
  unfold epoch_Seal
  have key : ∀ b, epoch_CheckScheme_J1 s b = some e → ∃ r, epoch_Seal_J1 root s n l b = some r ∧ (if e ≠ 0 then (some ((THeader.mk [] 0#64 [] k0 k0), e)) else (bif (!tk) then (some ((THeader.mk [] 0#64 [] k0 k0), 2)) else (if s.Kind = 4#8 then Option.bind (ref04_Seal root s l (drv root (un8 50#8) (wd n)) (wd n)) fun x4 => ((some (x4.1, x4.2))) else Option.bind (ref03_Cover s l) fun x5 => ((if x5.2 ≠ 0 then (some ((THeader.mk [] 0#64 [] k0 k0), x5.2)) else Option.bind (ref03_Seal root s x5.1 (drv root (un8 50#8) (wd n))) fun x6 => ((some (x6.1, x6.2)))))))) = some r ∧ r.1.Items.length ≤ 1000 ∧ r.1.Points.length ≤ 1000 := fun b hb => by
    unfold epoch_CheckScheme_J1 at hb
    unfold epoch_Seal_J1 epoch_Session
    cases b with
    | true =>
      rw [cond_true] at hb ⊢
      have : e = 2 := (Option.some.inj hb).symm
      subst this
      exact ⟨_, rfl, if_pos (by decide), by simp, by simp⟩
    | false =>
      rw [cond_false] at hb ⊢
      by_cases k1 : un8 s.Kind = 1 ∨ un8 s.Kind = 2 ∨ un8 s.Kind = 3
      · rw [if_pos k1] at hb ⊢
        have k4 : s.Kind ≠ 4#8 := fun h => by rw [h] at k1; revert k1; decide
        obtain ⟨c1, c2⟩ := ccheck_eq s
        rw [c1, bind_some] at hb ⊢
        have he := Option.some.inj hb
        rw [he]
        by_cases h0 : e ≠ 0
        · rw [if_pos h0, if_pos h0]; exact ⟨_, rfl, rfl, by simp, by simp⟩
        · rw [if_neg h0, if_neg h0, t1, bind_some]
          cases tk with
          | false => exact ⟨_, rfl, rfl, by simp, by simp⟩
          | true =>
            rw [Bool.not_true, cond_false, cond_false, if_neg k4, bind_some]
            obtain ⟨q, q1, q2, q3, q4⟩ := cvd_eq root (drv root (un8 50#8) (wd n)) s l (wd n) hl
            rw [q1, q2, bind_some]; exact ⟨_, rfl, rfl, q3, q4⟩
      · rw [if_neg k1] at hb ⊢
        by_cases k4 : un8 s.Kind = 4
        · rw [if_pos k4] at hb ⊢
          have k4' : s.Kind = 4#8 := un8_inj (by rw [k4]; rfl)
          obtain ⟨r, c1, c2⟩ := pcheck_eq s
          rw [c1, bind_some] at hb ⊢
          have he := Option.some.inj hb
          rw [he]
          by_cases h0 : e ≠ 0
          · rw [if_pos h0, if_pos h0]; exact ⟨_, rfl, rfl, by simp, by simp⟩
          · rw [if_neg h0, if_neg h0, t1, bind_some]
            cases tk with
            | false => exact ⟨_, rfl, rfl, by simp, by simp⟩
            | true =>
              rw [Bool.not_true, cond_false, cond_false, if_pos k4', bind_some]
              obtain ⟨q, q1, q2, q3, q4⟩ := Po.seal_same root s l (by omega) (drv root (un8 50#8) (wd n)) (wd n)
              rw [q1, q2]; exact ⟨_, rfl, rfl, by show q.1.Items.length ≤ 1000; rw [q3]; simp, by show q.1.Points.length ≤ 1000; omega⟩
        · rw [if_neg k4] at hb; cases hb
  by_cases h0 : s.Kind < 1#8
  · rw [if_pos h0] at h1 ⊢; exact key _ h1
  · rw [if_neg h0] at h1 ⊢; exact key _ h1
theorem op_eq (s : TScheme) (c : TSecret) (h : THeader) (hc : c.Labels.length < 4611686018427387904) (hcl : ∀ l ∈ c.Labels, LblI l) (hi : h.Items.length < 4611686018427387904) (hp : h.Points.length * 16 ≤ 140737488351232) : ∃ r, epoch_Open s c h = some r ∧ ref05_Open s c h = some r := by
  obtain ⟨e, h1, h2, h3⟩ := ks_eq s
  unfold ref05_Open
  rw [h2, bind_some]
  unfold epoch_CheckScheme at h1
  unfold epoch_Open
  have key : ∀ b, epoch_CheckScheme_J1 s b = some e → ∃ r, epoch_Open_J1 s c h b = some r ∧ (if e ≠ 0 then (some (k0, e)) else (if s.Kind = 4#8 then Option.bind (ref04_Open s c h) fun x2 => ((some (x2.1, x2.2))) else Option.bind (ref03_Open s c h) fun x3 => ((some (x3.1, x3.2))))) = some r := fun b hb => by
    unfold epoch_CheckScheme_J1 at hb
    unfold epoch_Open_J1
    cases b with
    | true =>
      rw [cond_true] at hb ⊢
      have : e = 2 := (Option.some.inj hb).symm
      subst this
      exact ⟨_, rfl, if_pos (by decide)⟩
    | false =>
      rw [cond_false] at hb ⊢
      by_cases k1 : un8 s.Kind = 1 ∨ un8 s.Kind = 2 ∨ un8 s.Kind = 3
      · rw [if_pos k1] at hb ⊢
        have k4 : s.Kind ≠ 4#8 := fun h => by rw [h] at k1; revert k1; decide
        obtain ⟨c1, c2⟩ := ccheck_eq s
        rw [c1, bind_some] at hb ⊢
        have he := Option.some.inj hb
        rw [he]
        by_cases h0 : e ≠ 0
        · rw [if_pos h0, if_pos h0]; exact ⟨_, rfl, rfl⟩
        · obtain ⟨q, q1, q2⟩ := open_eq s c hc hcl h hi
          rw [if_neg h0, if_neg h0, if_neg k4, q1, q2]; exact ⟨_, rfl, rfl⟩
      · rw [if_neg k1] at hb ⊢
        by_cases k4 : un8 s.Kind = 4
        · rw [if_pos k4] at hb ⊢
          have k4' : s.Kind = 4#8 := un8_inj (by rw [k4]; rfl)
          obtain ⟨r, c1, c2⟩ := pcheck_eq s
          rw [c1, bind_some] at hb ⊢
          have he := Option.some.inj hb
          rw [he]
          by_cases h0 : e ≠ 0
          · rw [if_pos h0, if_pos h0]; exact ⟨_, rfl, rfl⟩
          · obtain ⟨q, q1, q2⟩ := Po.open_same s c h hp
            rw [if_neg h0, if_neg h0, if_pos k4', q1, q2]; exact ⟨_, rfl, rfl⟩
        · rw [if_neg k4] at hb; cases hb
  by_cases h0 : s.Kind < 1#8
  · rw [if_pos h0] at h1 ⊢; exact key _ h1
  · rw [if_neg h0] at h1 ⊢; exact key _ h1
theorem same53 (p : THeader) (hn : p.Points.length < 4611686018427387904) : ∀ (m i fuel : Nat), p.Points.length - i = m → i ≤ p.Points.length → m < fuel → fixN (ref05_SameHeader_L3 p p) fuel (i : Int) = some true
  | m, i, 0, _, _, hf => by omega
  | 0, i, fuel + 1, hm, hi, hf => by rw [fix_step]; simp only [ref05_SameHeader_L3]; rw [if_neg (by omega)]
  | m + 1, i, fuel + 1, hm, hi, hf => by
    rw [fix_step]; simp only [ref05_SameHeader_L3]
    rw [if_pos (by omega), getI_some (by omega), bind_some, bind_some, if_neg (by simp), w64_id (by omega) (by omega)]
    exact same53 p hn m (i + 1) fuel (by omega) (by omega) (by omega)
theorem same52 (p : THeader) (hi' : p.Items.length < 4611686018427387904) (hn : p.Points.length < 4611686018427387904) : ∀ (m i fuel : Nat), p.Items.length - i = m → i ≤ p.Items.length → m < fuel → fixN (ref05_SameHeader_L2 p p) fuel (i : Int) = some true
  | m, i, 0, _, _, hf => by omega
  | 0, i, fuel + 1, hm, hi, hf => by
    rw [fix_step]; simp only [ref05_SameHeader_L2]; rw [if_neg (by omega)]
    exact same53 p hn _ 0 FUEL rfl (by omega) (fuel_lt (by omega))
  | m + 1, i, fuel + 1, hm, hi, hf => by
    rw [fix_step]; simp only [ref05_SameHeader_L2]
    rw [if_pos (by omega), getI_some (by omega), bind_some, bind_some, if_neg (by simp), w64_id (by omega) (by omega)]
    exact same52 p hi' hn m (i + 1) fuel (by omega) (by omega) (by omega)
theorem same5_self (p : THeader) (hi : p.Items.length < 4611686018427387904) (hn : p.Points.length < 4611686018427387904) : ref05_SameHeader p p = some true := by
  unfold ref05_SameHeader ref05_SameHeader_J1
  simp only [ne_eq, not_true_eq_false, if_false, decide_false, cond_false]
  exact same52 p hi hn _ 0 FUEL rfl (by omega) (fuel_lt (by omega))
end Go.Sx.Ep

end
section
set_option linter.unusedVariables false
set_option linter.unusedSimpArgs false
set_option maxRecDepth 100000
namespace Go.Sx
open Go Go.Sx.Ep
theorem ints5_loop (l : List Int) (hl : l.length < 4611686018427387904) : ∀ (m i fuel : Nat), l.length - i = m → i ≤ l.length → m < fuel → fixN (law05_sameInts_L1 l l) fuel (i : Int) = some true
  | m, i, 0, _, _, hf => by omega
  | 0, i, fuel + 1, hm, hi, hf => by rw [fix_step]; simp only [law05_sameInts_L1]; rw [if_neg (by omega)]
  | m + 1, i, fuel + 1, hm, hi, hf => by
    rw [fix_step]; simp only [law05_sameInts_L1]
    rw [if_pos (by omega), getI_some (by omega), bind_some, bind_some, if_neg (by simp), w64_id (by omega) (by omega)]
    exact ints5_loop l hl m (i + 1) fuel (by omega) (by omega) (by omega)
theorem ints5_self (l : List Int) (hl : l.length < 4611686018427387904) : law05_sameInts l l = some true := by
  unfold law05_sameInts
  rw [if_neg (by simp)]
  exact ints5_loop l hl _ 0 FUEL rfl (by omega) (fuel_lt (by omega))
theorem law05_EpochSeals_ok (root : W2) (s : TScheme) (n : Int) (l : List Int) (c : TSecret) (h : THeader) (hs : s.ok) (hn : I64 n) (hl : ∀ a ∈ l, I64 a) (hll : l.length * 8 ≤ 140737488351232) (hc : c.ok) (hh : h.ok) : law05_EpochSeals root s n l c h = some true := by
  unfold law05_EpochSeals
  have hJ : law05_EpochSeals_J1 root s n l c h true = some true := rfl
  by_cases k1 : (100 : Int) < (l.length : Int)
  · rw [if_pos k1]; exact hJ
  rw [if_neg k1]
  unfold ref05_Great
  simp only
  by_cases k2 : (100 : Int) < (c.Labels.length : Int)
  · rw [if_pos k2, bind_some]; exact hJ
  rw [if_neg k2]
  by_cases k3 : (100 : Int) < (h.Items.length : Int)
  · rw [if_pos k3, bind_some]; exact hJ
  rw [if_neg k3]
  by_cases k4 : (50 : Int) < (h.Points.length : Int)
  · rw [if_pos k4, bind_some]; exact hJ
  rw [if_neg k4, bind_some, show decide ((1000 : Int) < (([] : List (BitVec 8)).length : Int)) = false from rfl]
  unfold law05_EpochSeals_J1
  have hcl : ∀ x ∈ c.Labels, TLabel.ok x := by
    have := hc
    unfold TSecret.ok at this
    first | exact this.2.1 | exact this.2.2.1 | exact this.2 | (intro x hx; exact (this.2.1 x hx)) | simp_all
  obtain ⟨x, x1, x2, x3, x4⟩ := sl_eq root s n l (by omega)
  obtain ⟨y, y1, y2⟩ := op_eq s c h (by omega) hcl (by omega) (by omega)
  obtain ⟨z, z1, z2⟩ := op_eq s c x.1 (by omega) hcl (by omega) (by omega)
  rw [cond_false, appG_some (by simp; omega), bind_some, List.nil_append, x1, x2, bind_some, bind_some, y1, y2, bind_some, bind_some, z1, z2, bind_some, bind_some, same5_self _ (by omega) (by omega), bind_some, cond_true, if_pos rfl, if_pos rfl, if_pos rfl, if_pos rfl, if_pos rfl, ints5_self l (by omega), bind_some]
end Go.Sx

end
