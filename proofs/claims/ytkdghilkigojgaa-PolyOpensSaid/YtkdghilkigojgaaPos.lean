/- Opening with a polynomial: the program's Open is the document's. -/
import Derived.Test.YtkdghilkigojgaaPoq
set_option linter.unusedVariables false
set_option linter.unusedSimpArgs false
set_option linter.unusedSectionVars false
set_option maxRecDepth 100000
namespace Go.Sx.Po
open Go

theorem bn_toNat (x : BitVec 64) : bn x.toNat = x := by simp [bn]
theorem map_range {α β : Type} (l : List α) (f : α → β) (g : Nat → β) (h : ∀ k (hk : k < l.length), f l[k] = g k) : l.map f = (List.range l.length).map g := by
  apply List.ext_getElem
  · simp
  · intro i h1 h2
    simp only [List.getElem_map, List.getElem_range]
    exact h i (by simpa using h1)
/-- all points of an opening -/
def allP (c : TSecret) (h : THeader) (p : Nat) : List TPoint := ⟨c.Share.X, bn (h.Base.toNat ^ c.Share.Y.toNat % p)⟩ :: h.Points
section
variable {s : TScheme} {d t p q g : Nat}
theorem open_val (hv : Vld s d t p q g) (e1 : poly_valid s = some true) (c : TSecret) (h : THeader) (hl : h.Points.length * 16 ≤ 140737488351232) :
    poly_Open s c h = if hdB s h = true ∧ shB s c = true then (if dstB (allP c h p) = true then fixN (poly_Open_L1 s h (allP c h p)) FUEL (1#64, 0) else some (k0, 6)) else some (k0, 8) := by
  obtain ⟨p1, p2⟩ := hv.pb
  unfold poly_Open
  rw [e1, bind_some, fits_eq s c h hl (by rw [hv.grp]; exact (bn_lt (a := 1) (by omega) (by omega)).2 (by omega)), bind_some]
  simp only [Bool.not_true, cond_false]
  cases h1 : hdB s h with
  | false => simp
  | true =>
    cases h2 : shB s c with
    | false => simp
    | true =>
      have hb := h.Base.isLt
      have hy := c.Share.Y.isLt
      have e := ppow_eq hv hb hy
      rw [bn_toNat, bn_toNat] at e
      simp only [Bool.and_self, Bool.not_true, cond_false]
      rw [e, bind_some, appG_some (by simp; omega), bind_some, if_pos (by simp)]
      have e2 : [(⟨c.Share.X, bn (h.Base.toNat ^ c.Share.Y.toNat % p)⟩ : TPoint)] ++ h.Points = allP c h p := rfl
      rw [e2, distinct_eq _ (by simp [allP]; omega), bind_some]
      cases dstB (allP c h p) <;> simp
theorem ropen_val (hv : Vld s d t p q g) (e2 : ref04_Valid s = some true) (c : TSecret) (h : THeader) (hl : h.Points.length * 16 ≤ 140737488351232) :
    ref04_Open s c h = if hdB s h = true ∧ shB s c = true then (if dstB (allP c h p) = true then fixN (ref04_Open_L3 s h ((allP c h p).map (·.X)) ((allP c h p).map (·.Y))) FUEL (1#64, 0) else some (k0, 6)) else some (k0, 8) := by
  obtain ⟨p1, p2⟩ := hv.pb
  unfold ref04_Open ref04_Open_J1
  rw [e2, bind_some, valid_hd s h (by omega), bind_some]
  simp only [Bool.not_true, cond_false]
  cases h1 : hdB s h with
  | false => simp
  | true =>
    simp only [Bool.not_true, cond_false, true_and]
    by_cases a1 : c.Share.X < 1#64
    · rw [if_pos a1]; have : ¬ 1#64 ≤ c.Share.X := by rw [BitVec.le_def]; rw [BitVec.lt_def] at a1; omega
      simp [shB, this]
    · rw [if_neg a1]; have b1 : 1#64 ≤ c.Share.X := by rw [BitVec.le_def]; rw [BitVec.lt_def] at a1; omega
      by_cases a2 : s.Group.Q ≤ c.Share.X
      · rw [if_pos a2]; have : ¬ c.Share.X < s.Group.Q := by rw [BitVec.lt_def]; rw [BitVec.le_def] at a2; omega
        simp [shB, this]
      · rw [if_neg a2]; have b2 : c.Share.X < s.Group.Q := by rw [BitVec.lt_def]; rw [BitVec.le_def] at a2; omega
        by_cases a3 : s.Group.Q ≤ c.Share.Y
        · rw [decide_eq_true a3]; have : ¬ c.Share.Y < s.Group.Q := by rw [BitVec.lt_def]; rw [BitVec.le_def] at a3; omega
          simp [shB, this]
        · rw [decide_eq_false a3, cond_false]; have b3 : c.Share.Y < s.Group.Q := by rw [BitVec.lt_def]; rw [BitVec.le_def] at a3; omega
          have hs : shB s c = true := by simp [shB, b1, b2, b3]
          have hb := h.Base.isLt
          have hy := c.Share.Y.isLt
          have e := rpower_eq hb hy (show 0 < p by omega) (show p < 4294967296 by omega)
          rw [bn_toNat, bn_toNat] at e
          rw [if_pos hs, hv.grp]
          simp only
          rw [e, bind_some]
          have := fix_range h.Points.length (ref04_Open_L2 s c h) (fun j (_ : Unit) => (c.Share.X :: (h.Points.take j).map (·.X), bn (h.Base.toNat ^ c.Share.Y.toNat % p) :: (h.Points.take j).map (·.Y), (j : Int))) (fun j nx u => bif !decide ((h.Points.getD j default).X = c.Share.X) then nx u else some (k0, 6)) (fun _ => fixN (ref04_Open_L3 s h ((allP c h p).map (·.X)) ((allP c h p).map (·.Y))) FUEL (1#64, 0))
            (fun rec j hj _ => by
              have ee : h.Points.getD j default = h.Points[j] := by rw [List.getD_eq_getElem?_getD, List.getElem?_eq_getElem hj]; rfl
              simp only [ref04_Open_L2]
              rw [if_pos (by omega), getI_some hj, bind_some, ee]
              by_cases hx : h.Points[j].X = c.Share.X
              · rw [if_pos hx, decide_eq_true hx]; rfl
              · rw [if_neg hx, decide_eq_false hx, bind_some, appG_some (by simp; omega), bind_some, bind_some, appG_some (by simp; omega), bind_some, w64_nat (by omega), take_snoc _ j hj, List.map_append, List.map_append]; rfl)
            (fun rec _ => by
              simp only [ref04_Open_L2]
              rw [if_neg (by omega), List.take_length]; rfl) (f := FUEL) (fuel_lt (by omega)) ()
          rw [show ((0 : Nat) : Int) = 0 from rfl] at this
          simp only [List.take_zero, List.map_nil] at this
          rw [this, all_itL _ _ (some (k0, 6)) _ _ (fun a _ nx s => rfl), range_all h.Points (fun x => !decide (x.X = c.Share.X)) default]
          have hd : dstB h.Points = true := by
            simp only [hdB, Bool.and_eq_true] at h1; exact h1.1.2
          have e3 : dstB (allP c h p) = h.Points.all (fun x => !decide (x.X = c.Share.X)) := by
            rw [Bool.eq_iff_iff, List.all_eq_true]
            unfold dstB allP at *
            rw [decide_eq_true_eq] at hd ⊢
            rw [List.map_cons, List.nodup_cons]
            constructor
            · rintro ⟨n1, _⟩ x hx
              rw [Bool.not_eq_true', decide_eq_false_iff_not]
              intro he; exact n1 (List.mem_map.2 ⟨x, hx, he⟩)
            · intro n1
              refine ⟨fun hm => ?_, hd⟩
              obtain ⟨x, hx, he⟩ := List.mem_map.1 hm
              have := n1 x hx
              rw [Bool.not_eq_true', decide_eq_false_iff_not] at this
              exact this he
          rw [e3]
          cases h.Points.all (fun x => !decide (x.X = c.Share.X)) <;> rfl
/-- the mask's points, as numbers -/
def Xa (q : Nat) [NeZero q] (l : List TPoint) (k : Nat) : Fin q := fi q (l.getD k default).X.toNat
def Ya (l : List TPoint) (k : Nat) : Nat := (l.getD k default).Y.toNat
theorem pts_facts [NeZero q] (hv : Vld s d t p q g) (c : TSecret) (h : THeader) (h1 : hdB s h = true) (h2 : shB s c = true) (h3 : dstB (allP c h p) = true) :
    (∀ k (hk : k < (allP c h p).length), (allP c h p)[k].X = fe (Xa q (allP c h p) k)) ∧ (∀ k (hk : k < (allP c h p).length), (allP c h p)[k].Y = bn (Ya (allP c h p) k) ∧ Ya (allP c h p) k < p) ∧
    (∀ k j, k < (allP c h p).length → j < (allP c h p).length → k ≠ j → Xa q (allP c h p) k - Xa q (allP c h p) j ≠ 0) := by
  obtain ⟨p1, p2⟩ := hv.pb
  obtain ⟨q1, q2⟩ := hv.qb
  have hall : ∀ x ∈ allP c h p, x.X.toNat < q ∧ x.Y.toNat < p := by
    intro x hx
    rcases List.mem_cons.1 hx with rfl | hx
    · simp only [shB, Bool.and_eq_true, decide_eq_true_eq, hv.grp] at h2
      have := h2.1.2
      rw [BitVec.lt_def, bn_nat (by omega)] at this
      have hm := Nat.mod_lt (h.Base.toNat ^ c.Share.Y.toNat) (show 0 < p by omega)
      exact ⟨this, by simp only; rw [bn_nat (by omega)]; exact hm⟩
    · simp only [hdB, Bool.and_eq_true] at h1
      have := List.all_eq_true.1 h1.2 x hx
      simp only [ptB, Bool.and_eq_true, decide_eq_true_eq, hv.grp, BitVec.lt_def] at this
      rw [bn_nat (by omega), bn_nat (by omega)] at this
      exact ⟨this.1.1.2, this.2⟩
  have gd : ∀ k (hk : k < (allP c h p).length), (allP c h p).getD k default = (allP c h p)[k] := fun k hk => by rw [List.getD_eq_getElem?_getD, List.getElem?_eq_getElem hk]; rfl
  refine ⟨fun k hk => ?_, fun k hk => ?_, fun k j hk hj hkj => ?_⟩
  · unfold Xa; rw [gd k hk, fe_fi (hall _ (List.getElem_mem hk)).1, bn_toNat]
  · unfold Ya; rw [gd k hk, bn_toNat]; exact ⟨rfl, (hall _ (List.getElem_mem hk)).2⟩
  · intro he
    have e1 : Xa q (allP c h p) k = Xa q (allP c h p) j := by grind
    unfold Xa at e1
    rw [gd k hk, gd j hj] at e1
    have e2 := fi_inj (hall _ (List.getElem_mem hk)).1 (hall _ (List.getElem_mem hj)).1 e1
    have e3 : (allP c h p)[k].X = (allP c h p)[j].X := BitVec.eq_of_toNat_eq e2
    unfold dstB at h3
    rw [decide_eq_true_eq, List.Nodup, List.pairwise_iff_getElem] at h3
    rcases Nat.lt_or_gt_of_ne hkj with hlt | hlt
    · exact h3 k j (by simpa using hk) (by simpa using hj) hlt (by simpa using e3)
    · exact h3 j k (by simpa using hj) (by simpa using hk) hlt (by simpa using e3.symm)
theorem open_same (s : TScheme) (c : TSecret) (h : THeader) (hl : h.Points.length * 16 ≤ 140737488351232) : ∃ r, poly_Open s c h = some r ∧ ref04_Open s c h = some r := by
  rcases valid_eq s with ⟨e1, e2⟩ | ⟨e1, e2, d, t, p, q, g, hv⟩
  · refine ⟨(k0, 30), ?_, ?_⟩
    · unfold poly_Open; rw [e1, bind_some]; rfl
    · unfold ref04_Open; rw [e2, bind_some]; rfl
  · obtain ⟨q1, q2⟩ := hv.qb
    haveI : NeZero q := ⟨by omega⟩
    rw [open_val hv e1 c h hl, ropen_val hv e2 c h hl]
    by_cases hb : hdB s h = true ∧ shB s c = true
    · rw [if_pos hb, if_pos hb]
      by_cases hd : dstB (allP c h p) = true
      · rw [if_pos hd, if_pos hd]
        obtain ⟨f1, f2, f3⟩ := pts_facts hv c h hb.1 hb.2 hd
        have hlen : (allP c h p).length < 4611686018427387904 := by simp [allP]; omega
        rw [open_loop hv h (allP c h p) (Xa q (allP c h p)) (Ya (allP c h p)) hlen f1 f2 f3, map_range (allP c h p) (·.X) (fun k => fe (Xa q (allP c h p) k)) f1, map_range (allP c h p) (·.Y) (fun k => bn (Ya (allP c h p) k)) (fun k hk => (f2 k hk).1),
          ropen_loop hv h _ (Xa q (allP c h p)) (Ya (allP c h p)) hlen (fun k hk => (f2 k hk).2) f3]
        unfold poly_Open_J3 ref04_Open_J4
        split <;> exact ⟨_, rfl, rfl⟩
      · rw [if_neg hd, if_neg hd]; exact ⟨_, rfl, rfl⟩
    · rw [if_neg hb, if_neg hb]; exact ⟨_, rfl, rfl⟩
end
theorem sameC_self (p : TSecret) (hl : p.Labels.length < 4611686018427387904) : ref03_SameSecret p p = some true := by
  unfold ref03_SameSecret ref03_SameSecret_J1
  rw [if_neg (by simp), if_neg (by simp), decide_eq_false (by simp), cond_false]
  exact same_go p.Labels.length _ _ hl (fun rec j hj => by simp only [ref03_SameSecret_L2]; rw [if_pos (by omega), getI_some hj, bind_some, bind_some, if_neg (by simp), w64_nat (by omega)]) (fun rec => by simp only [ref03_SameSecret_L2]; rw [if_neg (by omega)])
end Go.Sx.Po
