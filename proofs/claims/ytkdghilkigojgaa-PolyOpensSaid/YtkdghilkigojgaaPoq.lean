/- Opening with a polynomial, plainly, on: the document's test of a header, the factors, the mask. -/
import Derived.Test.YtkdghilkigojgaaPop
set_option linter.unusedVariables false
set_option linter.unusedSimpArgs false
set_option linter.unusedSectionVars false
set_option maxRecDepth 100000
namespace Go.Sx.Po
open Go

theorem all_and {α : Type} (l : List α) (f g : α → Bool) : (l.all fun x => f x && g x) = (l.all f && l.all g) := by
  induction l with
  | nil => rfl
  | cons a l ih => simp only [List.all_cons, ih]; cases f a <;> cases g a <;> simp
theorem range_all {α : Type} (l : List α) (f : α → Bool) (d : α) : ((List.range l.length).all fun j => f (l.getD j d)) = l.all f := by
  rw [Bool.eq_iff_iff, List.all_eq_true, List.all_eq_true]
  constructor
  · intro h x hx
    obtain ⟨j, hj, rfl⟩ := List.mem_iff_getElem.1 hx
    have := h j (by simpa using hj)
    rwa [List.getD_eq_getElem?_getD, List.getElem?_eq_getElem hj] at this
  · intro h j hj
    have hj' : j < l.length := by simpa using hj
    rw [List.getD_eq_getElem?_getD, List.getElem?_eq_getElem hj']
    exact h _ (List.getElem_mem hj')
theorem valid_hd (s : TScheme) (h : THeader) (hl : h.Points.length < 4611686018427387904) : ref04_ValidHeader s h = some (hdB s h) := by
  have inner : ∀ (j : Nat) (hj : j < h.Points.length) (rec2 : Int → Option Bool), fixN (ref04_ValidHeader_L4 h (j : Int) rec2 h.Points[j]) FUEL 0 = bif ((h.Points.take j).any fun x => decide (x.X = h.Points[j].X)) then some false else rec2 ((j + 1 : Nat) : Int) := by
    intro j hj rec2
    have := fix_range j (ref04_ValidHeader_L4 h (j : Int) rec2 h.Points[j]) (fun k (_ : Unit) => (k : Int)) (fun k nx u => bif !decide ((h.Points.getD k default).X = h.Points[j].X) then nx u else some false) (fun _ => rec2 ((j + 1 : Nat) : Int))
      (fun rec k hk _ => by
        have hk' : k < h.Points.length := by omega
        have e : h.Points.getD k default = h.Points[k] := by rw [List.getD_eq_getElem?_getD, List.getElem?_eq_getElem hk']; rfl
        simp only [ref04_ValidHeader_L4]
        rw [if_pos (by omega), getI_some hk', bind_some, e, w64_nat (by omega)]
        by_cases hx : h.Points[k].X = h.Points[j].X
        · rw [if_pos hx, decide_eq_true hx]; rfl
        · rw [if_neg hx, decide_eq_false hx]; rfl)
      (fun rec _ => by simp only [ref04_ValidHeader_L4]; rw [if_neg (by omega), w64_nat (by omega)]) (f := FUEL) (fuel_lt (by omega)) ()
    rw [show ((0 : Nat) : Int) = 0 from rfl] at this
    rw [this, all_itL _ (rec2 ((j + 1 : Nat) : Int)) (some false) _ _ (fun a _ nx s => rfl)]
    have e : ((List.range j).all fun k => !decide ((h.Points.getD k default).X = h.Points[j].X)) = !((h.Points.take j).any fun x => decide (x.X = h.Points[j].X)) := by
      rw [Bool.eq_iff_iff, List.all_eq_true, Bool.not_eq_true', List.any_eq_false]
      constructor
      · intro h1 x hx
        rw [List.mem_take_iff_getElem] at hx
        obtain ⟨i, hi, rfl⟩ := hx
        have hi' : i < h.Points.length := by omega
        have := h1 i (List.mem_range.2 (by omega))
        rw [List.getD_eq_getElem?_getD, List.getElem?_eq_getElem hi'] at this
        simpa using this
      · intro h1 k hk
        have hk1 := List.mem_range.1 hk
        have hk' : k < h.Points.length := by omega
        have := h1 h.Points[k] (by rw [List.mem_take_iff_getElem]; exact ⟨k, by omega, rfl⟩)
        rw [List.getD_eq_getElem?_getD, List.getElem?_eq_getElem hk']
        simpa using this
    rw [e]
    cases ((h.Points.take j).any fun x => decide (x.X = h.Points[j].X)) <;> rfl
  have outer : fixN (ref04_ValidHeader_L2 s h) FUEL 0 = some (dstB h.Points && h.Points.all (ptB s)) := by
    have := fix_range h.Points.length (ref04_ValidHeader_L2 s h) (fun j (_ : Unit) => (j : Int)) (fun j nx u => bif ptB s (h.Points.getD j default) && !(((h.Points.map (·.X)).take j).any fun x => decide (some x = (h.Points.map (·.X))[j]?)) then nx u else some false) (fun _ => some true)
      (fun rec j hj _ => by
        have e : h.Points.getD j default = h.Points[j] := by rw [List.getD_eq_getElem?_getD, List.getElem?_eq_getElem hj]; rfl
        have e2 : (((h.Points.map (·.X)).take j).any fun x => decide (some x = (h.Points.map (·.X))[j]?)) = ((h.Points.take j).any fun x => decide (x.X = h.Points[j].X)) := by
          rw [← List.map_take, List.any_map]; congr 1; funext x; simp [hj]
        simp only [ref04_ValidHeader_L2, ref04_ValidHeader_J3]
        rw [if_pos (by omega), getI_some hj, bind_some, e, e2]
        by_cases a1 : h.Points[j].X < 1#64
        · rw [if_pos a1]; have : ¬ 1#64 ≤ h.Points[j].X := by rw [BitVec.le_def]; rw [BitVec.lt_def] at a1; omega
          simp [ptB, this]
        · rw [if_neg a1]; have b1 : 1#64 ≤ h.Points[j].X := by rw [BitVec.le_def]; rw [BitVec.lt_def] at a1; omega
          by_cases a2 : s.Group.Q ≤ h.Points[j].X
          · rw [if_pos a2]; have : ¬ h.Points[j].X < s.Group.Q := by rw [BitVec.lt_def]; rw [BitVec.le_def] at a2; omega
            simp [ptB, this]
          · rw [if_neg a2]; have b2 : h.Points[j].X < s.Group.Q := by rw [BitVec.lt_def]; rw [BitVec.le_def] at a2; omega
            by_cases a3 : h.Points[j].Y < 1#64
            · rw [if_pos a3]; have : ¬ 1#64 ≤ h.Points[j].Y := by rw [BitVec.le_def]; rw [BitVec.lt_def] at a3; omega
              simp [ptB, this]
            · rw [if_neg a3]; have b3 : 1#64 ≤ h.Points[j].Y := by rw [BitVec.le_def]; rw [BitVec.lt_def] at a3; omega
              by_cases a4 : s.Group.P ≤ h.Points[j].Y
              · rw [decide_eq_true a4]; have : ¬ h.Points[j].Y < s.Group.P := by rw [BitVec.lt_def]; rw [BitVec.le_def] at a4; omega
                simp [ptB, this]
              · rw [decide_eq_false a4, cond_false, inner j hj]; have b4 : h.Points[j].Y < s.Group.P := by rw [BitVec.lt_def]; rw [BitVec.le_def] at a4; omega
                have : ptB s h.Points[j] = true := by simp [ptB, b1, b2, b3, b4]
                rw [this]
                cases ((h.Points.take j).any fun x => decide (x.X = h.Points[j].X)) <;> rfl)
      (fun rec _ => by simp only [ref04_ValidHeader_L2]; rw [if_neg (by omega)]) (f := FUEL) (fuel_lt (by omega)) ()
    rw [show ((0 : Nat) : Int) = 0 from rfl] at this
    rw [this, all_itL _ (some true) (some false) _ _ (fun a _ nx s => rfl), all_and, range_all]
    have h2 := nodup_range (h.Points.map (·.X))
    rw [List.length_map] at h2
    rw [h2]; unfold dstB
    cases decide (h.Points.map (·.X)).Nodup <;> cases h.Points.all (ptB s) <;> rfl
  unfold ref04_ValidHeader ref04_ValidHeader_J1
  by_cases a0 : h.Items = []
  · rw [if_neg (by rw [a0]; simp)]
    by_cases a1 : h.Base < 1#64
    · rw [if_pos a1]; have : ¬ 1#64 ≤ h.Base := by rw [BitVec.le_def]; rw [BitVec.lt_def] at a1; omega
      simp [hdB, this]
    · rw [if_neg a1]; have b1 : 1#64 ≤ h.Base := by rw [BitVec.le_def]; rw [BitVec.lt_def] at a1; omega
      by_cases a2 : s.Group.P ≤ h.Base
      · rw [if_pos a2]; have : ¬ h.Base < s.Group.P := by rw [BitVec.lt_def]; rw [BitVec.le_def] at a2; omega
        simp [hdB, this]
      · rw [if_neg a2]; have b2 : h.Base < s.Group.P := by rw [BitVec.lt_def]; rw [BitVec.le_def] at a2; omega
        by_cases a3 : (h.Points.length : Int) = s.Degree
        · rw [decide_eq_false (by simpa using a3), cond_false, outer]; simp [hdB, a0, b1, b2, a3]
        · rw [decide_eq_true a3]; simp [hdB, a3]
  · rw [if_pos (by intro e; exact a0 (List.length_eq_zero_iff.1 (by omega)))]; simp [hdB, a0]
/-! ### factors -/
open Classical in
/-- the inverse -/
noncomputable def iv {q : Nat} [NeZero q] (a : Fin q) : Fin q := if h : ∃ x, a * x = 1 then Classical.choose h else 0
section
variable {q : Nat} [NeZero q]
theorem iv_spec (hP : Prm q) (q2 : q ≤ 1048575) {a : Fin q} (ha : a ≠ 0) : a * iv a = 1 ∧ number_InvMod (fe a) (bn q) = some (fe (iv a), 0) ∧ ref01_Inverse (fe a) (bn q) = some (fe (iv a), true) := by
  obtain ⟨x, h1, h2, h3⟩ := inv_eq hP q2 ha
  have h4 : a * iv a = 1 := by
    unfold iv; rw [dif_pos ⟨x, h1⟩]; exact Classical.choose_spec (p := fun x => a * x = 1) ⟨x, h1⟩
  have : x = iv a := by grind
  rw [← this]
  exact ⟨h1, h2, h3⟩
theorem fin1 (q1 : 2 ≤ q) : (1 : Fin q).val = 1 := Nat.mod_eq_of_lt (show 1 < q by omega)
theorem one_ne (q1 : 2 ≤ q) : (1 : Fin q) ≠ 0 := fun h => by
  have := congrArg Fin.val h
  rw [fin1 q1] at this
  exact absurd this (by simp)
theorem mul_ne (hP : Prm q) (q2 : q ≤ 1048575) {a b : Fin q} (ha : a ≠ 0) (hb : b ≠ 0) : a * b ≠ 0 := fun h => by
  have h1 := (iv_spec hP q2 ha).1
  have h2 := (iv_spec hP q2 hb).1
  refine one_ne hP.1 ?_
  have : (a * b) * (iv a * iv b) = 1 := by grind
  rw [h] at this
  grind
theorem fdiv_eq (hP : Prm q) (q2 : q ≤ 1048575) {a b : Fin q} (hb : b ≠ 0) : poly_field_div (bn q) (fe a) (fe b) = some (fe (a * iv b)) := by
  unfold poly_field_div
  rw [(iv_spec hP q2 hb).2.1, bind_some, fmul_eq hP.1 q2, bind_some]
/-- above and under, of the first k numbers -/
def abF (X : Nat → Fin q) (j : Nat) : Nat → Fin q × Fin q
  | 0 => (1, 1)
  | k + 1 => if k ≠ j then ((abF X j k).1 * X k, (abF X j k).2 * (X k - X j)) else abF X j k
noncomputable def facF (X : Nat → Fin q) (j : Nat) : Nat → Fin q
  | 0 => 1
  | k + 1 => if k = j then facF X j k else facF X j k * X k * iv (X k - X j)
theorem ab_fac (hP : Prm q) (q2 : q ≤ 1048575) (X : Nat → Fin q) (j : Nat) : ∀ (n : Nat), (∀ k, k < n → k ≠ j → X k - X j ≠ 0) → (abF X j n).2 ≠ 0 ∧ facF X j n * (abF X j n).2 = (abF X j n).1
  | 0, _ => ⟨one_ne hP.1, by simp only [facF, abF]; grind⟩
  | n + 1, h => by
    obtain ⟨h1, h2⟩ := ab_fac hP q2 X j n (fun k hk => h k (by omega))
    simp only [facF, abF]
    by_cases e : n = j
    · rw [if_pos e, if_neg (by simpa using e)]; exact ⟨h1, h2⟩
    · rw [if_neg e, if_pos e]
      have h3 := h n (by omega) e
      have h4 := (iv_spec hP q2 h3).1
      exact ⟨mul_ne hP q2 h1 h3, by simp only; grind⟩
theorem fac_eq (hP : Prm q) (q2 : q ≤ 1048575) (X : Nat → Fin q) (j n : Nat) (h : ∀ k, k < n → k ≠ j → X k - X j ≠ 0) : (abF X j n).1 * iv (abF X j n).2 = facF X j n := by
  obtain ⟨h1, h2⟩ := ab_fac hP q2 X j n h
  have h3 := (iv_spec hP q2 h1).1
  grind
theorem factor_eq (hP : Prm q) (q2 : q ≤ 1048575) (X : Nat → Fin q) (n j : Nat) (hn : n < 4611686018427387904) (hj : j < n) (h : ∀ k, k < n → k ≠ j → X k - X j ≠ 0) :
    ref04_factor (bn q) ((List.range n).map fun k => fe (X k)) (j : Int) = some (fe (facF X j n)) := by
  have q1 := hP.1
  unfold ref04_factor
  refine fix_go _ (fun k st => st = (fe (facF X j k), (k : Int))) n _ (by omega) ?_ ?_ ?_
  · simp only [facF]
    rw [show fe (1 : Fin q) = 1#64 from by unfold fe; rw [fin1 q1]]; rfl
  · rintro k _ hk rfl
    refine ⟨_, rfl, fun rec => ?_⟩
    simp only [ref04_factor_L1, facF]
    rw [if_pos (by simp; omega), w64_nat (by omega)]
    by_cases e : k = j
    · rw [if_pos (by omega), if_pos e]
    · have h3 := h k hk e
      have hA := (facF X j k).isLt
      have hX := (X k).isLt
      have hI := (iv (X k - X j)).isLt
      have hp1 : (facF X j k).val * (X k).val ≤ 1048575 * 1048575 := Nat.mul_le_mul (by omega) (by omega)
      have hm1 := Nat.mod_lt ((facF X j k).val * (X k).val) (show 0 < q by omega)
      have hp2 : (facF X j k).val * (X k).val % q * (iv (X k - X j)).val ≤ 1048575 * 1048575 := Nat.mul_le_mul (by omega) (by omega)
      rw [if_neg (by omega), if_neg e, getI_some (by simpa using hk), bind_some, getI_some (by simpa using hj), bind_some]
      simp only [List.getElem_map, List.getElem_range]
      rw [fminus_eq q1 q2, bind_some, (iv_spec hP q2 h3).2.2, bind_some, bind_some, bn_mul, remU_bn (by omega) (by omega) (by omega), bind_some]
      simp only
      rw [bn_mul, remU_bn (by omega) (by omega) (by omega), bind_some]; rfl
  · rintro _ rfl rec
    simp only [ref04_factor_L1]
    rw [if_neg (by simp)]
/-! ### the mask -/
/-- the product of the points' powers -/
noncomputable def zF (p : Nat) (X : Nat → Fin q) (Y : Nat → Nat) (n : Nat) : Nat → Nat
  | 0 => 1
  | j + 1 => zF p X Y n j * (Y j ^ (facF X j n).val % p) % p
variable {s : TScheme} {d t p g : Nat}
theorem zF_lt (hp : 2 ≤ p) (X : Nat → Fin q) (Y : Nat → Nat) (n : Nat) : ∀ j, zF p X Y n j < p
  | 0 => by simp only [zF]; omega
  | j + 1 => Nat.mod_lt _ (by omega)
theorem open_loop (h : Vld s d t p q g) (hd : THeader) (l : List TPoint) (X : Nat → Fin q) (Y : Nat → Nat) (hl : l.length < 4611686018427387904) (hX : ∀ k (hk : k < l.length), l[k].X = fe (X k)) (hY : ∀ k (hk : k < l.length), l[k].Y = bn (Y k) ∧ Y k < p) (hne : ∀ k j, k < l.length → j < l.length → k ≠ j → X k - X j ≠ 0) :
    fixN (poly_Open_L1 s hd l) FUEL (1#64, 0) = poly_Open_J3 hd (decr (drv k0 (un8 42#8) (bn (zF p X Y l.length l.length))) hd.Box) := by
  obtain ⟨p1, p2⟩ := h.pb
  have hP := h.ok.2.1.2
  have q2 := h.ok.2.1.1
  have q1 := hP.1
  refine fix_go _ (fun j st => st = (bn (zF p X Y l.length j), (j : Int))) l.length _ (by omega) (by simp [zF]) ?_ ?_
  · rintro j _ hj rfl
    refine ⟨_, rfl, fun rec => ?_⟩
    have hz := zF_lt p1 X Y l.length j
    have hin : fixN (poly_Open_L2 s l (bn (zF p X Y l.length j)) (j : Int) rec l[j]) FUEL (1#64, 1#64, 0) = rec (bn (zF p X Y l.length (j + 1)), ((j + 1 : Nat) : Int)) := by
      refine fix_go _ (fun k st => st = (fe (abF X j k).1, fe (abF X j k).2, (k : Int))) l.length _ (by omega) ?_ ?_ ?_
      · simp only [abF]
        rw [show fe (1 : Fin q) = 1#64 from by unfold fe; rw [fin1 q1]]; rfl
      · rintro k _ hk rfl
        refine ⟨_, rfl, fun rec2 => ?_⟩
        simp only [poly_Open_L2, abF]
        rw [if_pos (by omega), getI_some hk, bind_some, w64_nat (by omega)]
        by_cases e : k = j
        · rw [if_neg (by omega), if_neg (by simpa using e)]
        · rw [if_pos (by omega), if_pos e, h.grp, hX k hk, hX j hj]
          simp only
          rw [fmul_eq q1 q2, bind_some, fsub_eq q1 q2, bind_some, fmul_eq q1 q2, bind_some]
      · rintro _ rfl rec2
        simp only [poly_Open_L2]
        have hne' : ∀ k, k < l.length → k ≠ j → X k - X j ≠ 0 := fun k hk he => hne k j hk hj he
        have hf := (facF X j l.length).isLt
        obtain ⟨hy, hy2⟩ := hY j hj
        rw [if_neg (by omega), h.grp]
        simp only
        rw [fdiv_eq hP q2 (ab_fac hP q2 X j l.length hne').1, bind_some, fac_eq hP q2 X j l.length hne', hy, ppow_eq h (by omega) (by omega), bind_some, mul2_eq p1 p2 hz (Nat.mod_lt _ (by omega)), bind_some, w64_nat (by omega)]
        rfl
    simp only [poly_Open_L1]
    rw [if_pos (by omega), getI_some hj, bind_some]
    exact hin
  · rintro _ rfl rec
    simp only [poly_Open_L1]
    rw [if_neg (by omega)]
    unfold poly_maskKey
    rw [bind_some]
theorem ropen_loop (h : Vld s d t p q g) (hd : THeader) (n : Nat) (X : Nat → Fin q) (Y : Nat → Nat) (hn : n < 4611686018427387904) (hY : ∀ k, k < n → Y k < p) (hne : ∀ k j, k < n → j < n → k ≠ j → X k - X j ≠ 0) :
    fixN (ref04_Open_L3 s hd ((List.range n).map fun k => fe (X k)) ((List.range n).map fun k => bn (Y k))) FUEL (1#64, 0) = ref04_Open_J4 hd (decr (drv k0 (un8 42#8) (bn (zF p X Y n n))) hd.Box) := by
  obtain ⟨p1, p2⟩ := h.pb
  have hP := h.ok.2.1.2
  have q2 := h.ok.2.1.1
  have q1 := hP.1
  refine fix_go _ (fun j st => st = (bn (zF p X Y n j), (j : Int))) n _ (by omega) (by simp [zF]) ?_ ?_
  · rintro j _ hj rfl
    refine ⟨_, rfl, fun rec => ?_⟩
    have hz := zF_lt p1 X Y n j
    have hf := (facF X j n).isLt
    have hy2 := hY j hj
    have hm := Nat.mod_lt (Y j ^ (facF X j n).val) (show 0 < p by omega)
    have hp2 : zF p X Y n j * (Y j ^ (facF X j n).val % p) ≤ 1048575 * 1048575 := Nat.mul_le_mul (by omega) (by omega)
    simp only [ref04_Open_L3]
    rw [if_pos (by simp; omega), getI_some (by simpa using hj), bind_some, h.grp]
    simp only [List.getElem_map, List.getElem_range]
    rw [factor_eq hP q2 X n j hn hj (fun k hk he => hne k j hk hj he), bind_some, rpower_eq (by omega) (by omega) (by omega) (by omega), bind_some, bn_mul, remU_bn (by omega) (by omega) (by omega), bind_some, w64_nat (by omega)]
    rfl
  · rintro _ rfl rec
    simp only [ref04_Open_L3]
    rw [if_neg (by simp)]
    unfold ref04_MaskKey
    rw [bind_some, Cy.rdecr_eq, bind_some]
end
end Go.Sx.Po
